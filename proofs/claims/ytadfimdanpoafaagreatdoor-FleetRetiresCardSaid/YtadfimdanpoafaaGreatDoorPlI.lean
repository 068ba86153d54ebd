/- Lemmas. -/
import Derived.Test.YtadfimdanpoafaaGreatDoorPlH
import Derived.Shelf.SlSortCmp.NoneTotal
set_option linter.unusedVariables false
set_option linter.unusedSimpArgs false
open Array renaming ext_getElem? -> yA
open List renaming getElem?_append_left -> qm, getElem?_append_right -> qj, getElem?_eq_getElem -> qd, getElem?_toArray -> zZ, size_toArray -> wY
open Nat renaming zero_add -> wy
open Option renaming map_some -> qL
open Go.Value renaming int -> xl
open Go.IntKind renaming i64 -> xt
namespace Go.Vc
open Go Go.Sort Go.Proofs
theorem adf{w w':World}(n:cV w w')(j:aU (fun b=>b<w.heap.size) w.heap w'.heap):∃q a,w'=Sort.grow (w.drewN q) a:=by
 refine⟨w'.drawn-w.drawn,w'.heap.extract w.heap.size w'.heap.size,?_⟩;have g:w.heap++w'.heap.extract w.heap.size w'.heap.size=w'.heap:=by
  apply yA;intro i;have o:=j.1;by_cases c:i<w.heap.size
  ·rw[Array.getElem?_append_left c,j.2 i c c]
  ·rw[Array.getElem?_append_right (by omega),Array.getElem?_extract];by_cases s:i<w'.heap.size
   ·rw[if_pos (by omega),show w.heap.size+(i-w.heap.size)=i by omega]
   ·rw[if_neg (by omega),Array.getElem?_eq_none (by omega)]
 obtain⟨p,t,dr,os,out⟩:=w;obtain⟨d,m,l,a,k⟩:=w';obtain⟨f,h,e,r⟩:=n;simp only at f h e r g;subst f;subst h;subst e;simp only[Sort.grow,World.drewN,World.mk.injEq];refine⟨g.symm,trivial,by omega,trivial,trivial⟩
theorem NH{α:Type}[Inhabited α]{enc:α->aW}{k:Nat}(b:∀x,(enc x).length=k)(l:List α):flatK enc k l.toArray=(l.flatMap enc).toArray:=by
 refine ext_get! (by simp[dR b]) fun t j=>?_;have a:t<l.length*k:=by simpa using j
 have d:0<k:=by
  rcases Nat.eq_zero_or_pos k with h|h
  ·subst h;simp at a
  ·exact h
 rw[get_flatK _ _ _ t (by simpa using a)];have g:t/k<l.length:=(Nat.div_lt_iff_lt_mul d).2 a;obtain⟨pre,post,m,o⟩:=IN b l (t/k) l[t/k] (qd g);have f:t%k<k:=Nat.mod_lt _ d;have i:t=t/k*k+t%k:=by rw[Nat.mul_comm];exact(Nat.div_add_mod t k).symm
 have c:(l.flatMap enc)[t]?=some ((enc l[t/k])[t%k]'(by rw[b];exact f)):=by
  rw[m,List.append_assoc,qj (by omega),qm (by rw[b];omega)];have:t-pre.length=t%k:=by omega
  rw[this,qd]
 have n:l.toArray[t/k]! =l[t/k]:=by simp[g]
 rw[n];have e:t<(l.flatMap enc).length:=by rw[dR b];exact a
 rw[getElem!_pos (enc l[t/k]) (t%k) (by rw[b];exact f),getElem!_pos _ t (by simpa using e)];rw[qd e]at c;simp only[List.getElem_toArray];exact(Option.some.inj c).symm
theorem Vy{α:Type}[Inhabited α]{enc:α->aW}{k:Nat}(f:∀x,(enc x).length=k){w:World}{e:TypeId}{b:Nat}{rest:aW}{l:List α}(c:w.heap[b]?=some (.cells (l.flatMap enc++rest).toArray e (0,0))):HoldsK enc k w b 0 l.toArray:=by
 intro j d;rw[NH f]at d⊢;have a:j<(l.flatMap enc).length:=by simpa using d
 refine⟨?_,by simp[World.frozen?,c]⟩;have g:(l.flatMap enc++rest).toArray[0+j]?=some (l.flatMap enc)[j]:=by
  rw[wy,zZ,qm a,qd a]
 simp only[World.cell?,c];rw[getElem!_pos _ j (by simpa using a)];simpa using g
theorem XP{α:Type}[Inhabited α]{enc:α->aW}{k:Nat}(b:∀x,(enc x).length=k)(l a:List α)(rest:aW)(d:a.length=l.length):putCells id 0 (flatK enc k a.toArray) (l.flatMap enc++rest).toArray=(a.flatMap enc++rest).toArray:=by
 rw[NH b];have e:=dR b l;have c:=dR b a;rw[d]at c;apply yA;intro i;simp only[putCells,Array.getElem?_mapIdx,zZ,wY,wy,Nat.zero_le,true_and,Nat.sub_zero];by_cases f:i<l.length*k
 ·rw[qm (by omega),qm (by omega),qd (by omega),qd (by omega),qL,if_pos (by omega)];rw[getElem!_pos _ i (by rw[wY];omega)];simp
 ·rw[qj (by omega),qj (by omega),e,c];cases rest[i-l.length*k]? with
  |none=>rfl
  |some x=>rw[qL,if_neg (by omega)]
theorem OH{α:Type}[Inhabited α]{P:Program}{id_ g:FuncId}{enc:α->aW}{k:Nat}{cf:α->α->Int}(B:∀x,(enc x).length=k)
  (I:∀(fy cap:Nat) (l:List α) (w:World),CmpLays P g #[] enc k cf fy 0 l.length w->HoldsK enc k w fy 0 l.toArray->fy<w.heap.size->l.length<4611686018427387904->
   Calls P id_ #[.slice (some ⟨fy,0,none⟩) l.length cap,.func (.func g) #[] #[]] w fun e w'=>e=.returned (.tuple #[])/\∃n os,w'=sortWorldK enc k w fy 0 n (l.mergeSort fun x y=>!(ltOf cf) y x).toArray os)
  (D:∀(p:aO) (cap:Nat) (w:World),Calls P id_ #[.slice p 0 cap,.func (.func g) #[] #[]] w fun e w'=>e=.returned (.tuple #[])/\w'=w)
  (E:∀x y h,ac P g #[.agg (enc x).toArray,.agg (enc y).toArray] h fun v h'=>v=xl xt (cf x y)/\aU (fun b=>b<h.size) h h')
  {e:TypeId} {s:Sl} {l:List α} {h:Heap} (z:Own h e s k enc l) (J:l.length<2^40):
  ac P id_ #[.slice s.ptr s.len s.cap,.func (.func g) #[] #[]] h fun v h'=>v=.tuple #[]/\Own h' e s k enc (l.mergeSort fun x y=>!(ltOf cf) y x)/\aU (fun b=>¬s.on b) h h':=by
 intro w i;have a:=z.len;rcases z.head with⟨h1,h2,h3⟩|⟨b,rest,h1,h2,h3,h4⟩
 ·subst h3;rw[a,h1];refine(D none s.cap w).mono ?_;rintro A w' ⟨rfl,rfl⟩;have H:(([]:List α).mergeSort fun x y=>!(ltOf cf) y x)=[]:=by simp
  exact⟨_,rfl,cV.refl _,rfl,by rw[H];exact⟨a,.inl ⟨h1,h2,rfl⟩⟩,by rw[<-i];exact aU.refl _ _⟩
 ·rw[h1,a];have r:w.heap[b]?=some (.cells (l.flatMap enc++rest).toArray e (0,0)):=by rw[i];exact h2
  have f:CmpLays P g #[] enc k cf b 0 l.length w:=fun m os G _ x y=>by
   have:=E x y _ (sortWorldK enc k w b 0 m G os) rfl;refine(show Calls P g (#[Value.agg (enc x).toArray,.agg (enc y).toArray]++#[]) _ _ from ?_);rw[Array.append_empty];refine this.mono ?_;rintro A w' ⟨v,rfl,F,rfl,t⟩;exact⟨rfl,adf F t⟩
  refine(I b s.cap l w f (Vy B r) (lt_of_block r) (by omega)).mono ?_;rintro A w' ⟨rfl,n,os,rfl⟩;have q:=lt_of_block r;have o:(l.mergeSort fun x y=>!(ltOf cf) y x).length=l.length:=List.length_mergeSort l;have c:∀j,j<h.size->(sortWorldK enc k w b 0 n (l.mergeSort fun x y=>!(ltOf cf) y x).toArray os).heap[j]?=if b=j then some (.cells ((l.mergeSort fun x y=>!(ltOf cf) y x).flatMap enc++rest).toArray e (0,0))else h[j]?:=by
   intro j u;unfold sortWorldK;rw[Sort.heap_grow_old _ _ (by simpa[putRowK,Sort.putRow,Sort.mapBlock,Sort.ahead,i]using u)];simp only[putRowK,Sort.putRow,Sort.mapBlock,Sort.ahead,Array.getElem?_modify];by_cases d:b=j
   ·subst d;rw[if_pos rfl,if_pos rfl,r,qL,Sort.onCells,XP B _ _ _ o]
   ·rw[if_neg d,if_neg d,i]
  rw[i]at q;refine⟨_,rfl,⟨rfl,rfl,rfl,Nat.le_add_right _ _⟩,rfl,⟨by rw[o];exact a,.inr ⟨b,rest,h1,?_,h3,h4⟩⟩,?_,?_⟩
  ·rw[c b q,if_pos rfl]
  ·simp[sortWorldK,putRowK,Sort.grow,Sort.putRow,Sort.mapBlock,Sort.ahead,i]
  ·intro j u t;rw[c j u,if_neg (fun d=>t ⟨0,by rw[h1,d]⟩)]
end Go.Vc
