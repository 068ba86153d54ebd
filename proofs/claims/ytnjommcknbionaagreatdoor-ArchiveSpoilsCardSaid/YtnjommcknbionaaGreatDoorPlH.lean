/- Lemmas for the proof of the law; no condition. -/
import Derived.Test.YtnjommcknbionaaGreatDoorPlG
import Derived.Shelf.SlSortCmp.NoneTotal
set_option linter.unusedVariables false
set_option linter.unusedSimpArgs false
open Array renaming ext_getElem? -> w7
open List renaming getElem?_append_left -> ql, getElem?_append_right -> qh, getElem?_eq_getElem -> qd, getElem?_toArray -> zB, size_toArray -> z8
open Nat renaming zero_add -> zU
open Option renaming map_some -> qK
open Go.Value renaming int -> vL
open Go.IntKind renaming i64 -> vR
namespace Go.Vc
open Go Go.Sort Go.Proofs
theorem Uh{w a:World}(o:ct w a)(g:aH (fun b=>b<w.heap.size) w.heap a.heap):∃q c,a=Sort.grow (w.drewN q) c:=by
 refine⟨a.drawn-w.drawn,a.heap.extract w.heap.size a.heap.size,?_⟩;have h:w.heap++a.heap.extract w.heap.size a.heap.size=a.heap:=by
  apply w7;intro i;have n:=g.1;by_cases d:i<w.heap.size
  ·rw[Array.getElem?_append_left d,g.2 i d d]
  ·rw[Array.getElem?_append_right (by omega),Array.getElem?_extract];by_cases v:i<a.heap.size
   ·rw[if_pos (by omega),show w.heap.size+(i-w.heap.size)=i by omega]
   ·rw[if_neg (by omega),Array.getElem?_eq_none (by omega)]
 obtain⟨p,t,u,os,out⟩:=w;obtain⟨l,r,m,c,j⟩:=a;obtain⟨k,f,e,s⟩:=o;simp only at k f e s h;subst k;subst f;subst e;simp only[Sort.grow,World.drewN,World.mk.injEq];refine⟨h.symm,trivial,by omega,trivial,trivial⟩
theorem Gl{α:Type}[Inhabited α]{enc:α->aM}{k:Nat}(b:∀x,(enc x).length=k)(l:List α):flatK enc k l.toArray=(l.flatMap enc).toArray:=by
 refine ext_get! (by simp[cD b]) fun t i=>?_;have a:t<l.length*k:=by simpa using i
 have c:0<k:=by
  rcases Nat.eq_zero_or_pos k with h|h
  ·subst h;simp at a
  ·exact h
 rw[get_flatK _ _ _ t (by simpa using a)];have e:t/k<l.length:=(Nat.div_lt_iff_lt_mul c).2 a;obtain⟨pre,post,m,o⟩:=Cb b l (t/k) l[t/k] (qd e);have f:t%k<k:=Nat.mod_lt _ c;have j:t=t/k*k+t%k:=by rw[Nat.mul_comm];exact(Nat.div_add_mod t k).symm
 have d:(l.flatMap enc)[t]?=some ((enc l[t/k])[t%k]'(by rw[b];exact f)):=by
  rw[m,List.append_assoc,qh (by omega),ql (by rw[b];omega)];have:t-pre.length=t%k:=by omega
  rw[this,qd]
 have n:l.toArray[t/k]! =l[t/k]:=by simp[e]
 rw[n];have g:t<(l.flatMap enc).length:=by rw[cD b];exact a
 rw[getElem!_pos (enc l[t/k]) (t%k) (by rw[b];exact f),getElem!_pos _ t (by simpa using g)];rw[qd g]at d;simp only[List.getElem_toArray];exact(Option.some.inj d).symm
theorem MU{α:Type}[Inhabited α]{enc:α->aM}{k:Nat}(g:∀x,(enc x).length=k){w:World}{e:TypeId}{b:Nat}{rest:aM}{l:List α}(d:w.heap[b]?=some (.cells (l.flatMap enc++rest).toArray e (0,0))):HoldsK enc k w b 0 l.toArray:=by
 intro j c;rw[Gl g]at c⊢;have a:j<(l.flatMap enc).length:=by simpa using c
 refine⟨?_,by simp[World.frozen?,d]⟩;have f:(l.flatMap enc++rest).toArray[0+j]?=some (l.flatMap enc)[j]:=by
  rw[zU,zB,ql a,qd a]
 simp only[World.cell?,d];rw[getElem!_pos _ j (by simpa using a)];simpa using f
theorem OZ{α:Type}[Inhabited α]{enc:α->aM}{k:Nat}(b:∀x,(enc x).length=k)(l a:List α)(rest:aM)(e:a.length=l.length):putCells id 0 (flatK enc k a.toArray) (l.flatMap enc++rest).toArray=(a.flatMap enc++rest).toArray:=by
 rw[Gl b];have d:=cD b l;have c:=cD b a;rw[e]at c;apply w7;intro i;simp only[putCells,Array.getElem?_mapIdx,zB,z8,zU,Nat.zero_le,true_and,Nat.sub_zero];by_cases f:i<l.length*k
 ·rw[ql (by omega),ql (by omega),qd (by omega),qd (by omega),qK,if_pos (by omega)];rw[getElem!_pos _ i (by rw[z8];omega)];simp
 ·rw[qh (by omega),qh (by omega),d,c];cases rest[i-l.length*k]? with
  |none=>rfl
  |some x=>rw[qK,if_neg (by omega)]
theorem Hc{α:Type}[Inhabited α]{P:Program}{id_ g:FuncId}{enc:α->aM}{k:Nat}{cf:α->α->Int}(E:∀x,(enc x).length=k)
  (I:∀(eu cap:Nat) (l:List α) (w:World),CmpLays P g #[] enc k cf eu 0 l.length w->HoldsK enc k w eu 0 l.toArray->eu<w.heap.size->l.length<4611686018427387904->
   Calls P id_ #[.slice (some ⟨eu,0,none⟩) l.length cap,.func (.func g) #[] #[]] w fun e i=>e=.returned (.tuple #[])/\∃n os,i=sortWorldK enc k w eu 0 n (l.mergeSort fun x y=>!(ltOf cf) y x).toArray os)
  (J:∀(p:aK) (cap:Nat) (w:World),Calls P id_ #[.slice p 0 cap,.func (.func g) #[] #[]] w fun e i=>e=.returned (.tuple #[])/\i=w)
  (K:∀x y h,ab P g #[.agg (enc x).toArray,.agg (enc y).toArray] h fun v u=>v=vL vR (cf x y)/\aH (fun b=>b<h.size) h u)
  {e:TypeId} {s:Sl} {l:List α} {h:Heap} (B:Own h e s k enc l) (G:l.length<2^40):
  ab P id_ #[.slice s.ptr s.len s.cap,.func (.func g) #[] #[]] h fun v u=>v=.tuple #[]/\Own u e s k enc (l.mergeSort fun x y=>!(ltOf cf) y x)/\aH (fun b=>¬s.on b) h u:=by
 intro w o;have a:=B.len;rcases B.head with⟨h1,h2,h3⟩|⟨b,rest,h1,h2,h3,h4⟩
 ·subst h3;rw[a,h1];refine(J none s.cap w).mono ?_;rintro D i ⟨rfl,rfl⟩;have H:(([]:List α).mergeSort fun x y=>!(ltOf cf) y x)=[]:=by simp
  exact⟨_,rfl,ct.refl _,rfl,by rw[H];exact⟨a,.inl ⟨h1,h2,rfl⟩⟩,by rw[<-o];exact aH.refl _ _⟩
 ·rw[h1,a];have t:w.heap[b]?=some (.cells (l.flatMap enc++rest).toArray e (0,0)):=by rw[o];exact h2
  have f:CmpLays P g #[] enc k cf b 0 l.length w:=fun m os L _ x y=>by
   have:=K x y _ (sortWorldK enc k w b 0 m L os) rfl;refine(show Calls P g (#[Value.agg (enc x).toArray,.agg (enc y).toArray]++#[]) _ _ from ?_);rw[Array.append_empty];refine this.mono ?_;rintro D i ⟨v,rfl,F,rfl,A⟩;exact⟨rfl,Uh F A⟩
  refine(I b s.cap l w f (MU E t) (lt_of_block t) (by omega)).mono ?_;rintro D i ⟨rfl,n,os,rfl⟩;have q:=lt_of_block t;have r:(l.mergeSort fun x y=>!(ltOf cf) y x).length=l.length:=List.length_mergeSort l;have d:∀j,j<h.size->(sortWorldK enc k w b 0 n (l.mergeSort fun x y=>!(ltOf cf) y x).toArray os).heap[j]?=if b=j then some (.cells ((l.mergeSort fun x y=>!(ltOf cf) y x).flatMap enc++rest).toArray e (0,0))else h[j]?:=by
   intro j z;unfold sortWorldK;rw[Sort.heap_grow_old _ _ (by simpa[putRowK,Sort.putRow,Sort.mapBlock,Sort.ahead,o]using z)];simp only[putRowK,Sort.putRow,Sort.mapBlock,Sort.ahead,Array.getElem?_modify];by_cases c:b=j
   ·subst c;rw[if_pos rfl,if_pos rfl,t,qK,Sort.onCells,OZ E _ _ _ r]
   ·rw[if_neg c,if_neg c,o]
  rw[o]at q;refine⟨_,rfl,⟨rfl,rfl,rfl,Nat.le_add_right _ _⟩,rfl,⟨by rw[r];exact a,.inr ⟨b,rest,h1,?_,h3,h4⟩⟩,?_,?_⟩
  ·rw[d b q,if_pos rfl]
  ·simp[sortWorldK,putRowK,Sort.grow,Sort.putRow,Sort.mapBlock,Sort.ahead,o]
  ·intro j z A;rw[d j z,if_neg (fun c=>A ⟨0,by rw[h1,c]⟩)]
end Go.Vc
