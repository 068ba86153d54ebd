/- Part of the proofs that the laws of this seat answer true whatever the input reads, and leave it as it was; no condition. -/
import Derived.Test.YtdhamoojccmbdaaGreatDoorPlG
import Derived.Shelf.SlSortCmp.NoneTotal
set_option linter.unusedVariables false
set_option linter.unusedSimpArgs false
open Array renaming ext_getElem? -> yq, getElem?_modify -> wi
open List renaming append_assoc -> qo, getElem?_append_left -> qn, getElem?_append_right -> qj, getElem?_eq_getElem -> qd, getElem?_toArray -> zM, length_mergeSort -> wj, size_toArray -> wW
open Nat renaming mod_lt -> yE, zero_add -> wk, zero_le -> w8
open Option renaming map_some -> qO, some -> zJ
open Go.Value renaming int -> vL
open Go.IntKind renaming i64 -> vR
namespace Go.Vc
open Go Go.Sort Go.Proofs
theorem aen{w a:World}(r:cN w a)(e:aU (fun b=>b<w.heap.size) w.heap a.heap):∃q c,a=Sort.grow (w.drewN q) c:=by
 refine⟨a.drawn-w.drawn,a.heap.extract w.heap.size a.heap.size,?_⟩;have k:w.heap++a.heap.extract w.heap.size a.heap.size=a.heap:=by
  apply yq;intro i;have m:=e.1;by_cases d:i<w.heap.size
  ·rw[Array.getElem?_append_left d,e.2 i d d]
  ·rw[Array.getElem?_append_right (by omega),Array.getElem?_extract];by_cases t:i<a.heap.size
   ·rw[if_pos (by omega),show w.heap.size+(i-w.heap.size)=i by omega]
   ·rw[if_neg (by omega),Array.getElem?_eq_none (by omega)]
 obtain⟨s,u,dr,os,out⟩:=w;obtain⟨h,p,o,c,f⟩:=a;obtain⟨j,l,g,n⟩:=r;simp only at j l g n k;subst j;subst l;subst g;simp only[Sort.grow,World.drewN,World.mk.injEq];refine⟨k.symm,trivial,by omega,trivial,trivial⟩
theorem ON{α:Type}[Inhabited α]{enc:α->List Value}{k:Nat}(b:∀x,(enc x).length=k)(l:List α):flatK enc k l.toArray=(l.flatMap enc).toArray:=by
 refine ext_get! (by simp[cX b]) fun t i=>?_;have a:t<l.length*k:=by simpa using i
 have d:0<k:=by
  rcases Nat.eq_zero_or_pos k with h|h
  ·subst h;simp at a
  ·exact h
 rw[get_flatK _ _ _ t (by simpa using a)];have e:t/k<l.length:=(Nat.div_lt_iff_lt_mul d).2 a;obtain⟨pre,post,m,o⟩:=Jp b l (t/k) l[t/k] (qd e);have c:t%k<k:=yE _ d;have n:t=t/k*k+t%k:=by rw[Nat.mul_comm];exact(Nat.div_add_mod t k).symm
 have g:(l.flatMap enc)[t]?=some ((enc l[t/k])[t%k]'(by rw[b];exact c)):=by
  rw[m,qo,qj (by omega),qn (by rw[b];omega)];have:t-pre.length=t%k:=by omega
  rw[this,qd]
 have j:l.toArray[t/k]! =l[t/k]:=by simp[e]
 rw[j];have f:t<(l.flatMap enc).length:=by rw[cX b];exact a
 rw[getElem!_pos (enc l[t/k]) (t%k) (by rw[b];exact c),getElem!_pos _ t (by simpa using f)];rw[qd f]at g;simp only[List.getElem_toArray];exact(zJ.inj g).symm
theorem Xu{α:Type}[Inhabited α]{enc:α->List Value}{k:Nat}(g:∀x,(enc x).length=k){w:World}{e:TypeId}{b:Nat}{rest:List Value}{l:List α}(c:w.heap[b]?=some (.cells (l.flatMap enc++rest).toArray e (0,0))):HoldsK enc k w b 0 l.toArray:=by
 intro j d;rw[ON g]at d⊢;have a:j<(l.flatMap enc).length:=by simpa using d
 refine⟨?_,by simp[World.frozen?,c]⟩;have f:(l.flatMap enc++rest).toArray[0+j]?=some (l.flatMap enc)[j]:=by
  rw[wk,zM,qn a,qd a]
 simp only[World.cell?,c];rw[getElem!_pos _ j (by simpa using a)];simpa using f
theorem ZI{α:Type}[Inhabited α]{enc:α->List Value}{k:Nat}(b:∀x,(enc x).length=k)(l a:List α)(rest:List Value)(e:a.length=l.length):putCells id 0 (flatK enc k a.toArray) (l.flatMap enc++rest).toArray=(a.flatMap enc++rest).toArray:=by
 rw[ON b];have d:=cX b l;have c:=cX b a;rw[e]at c;apply yq;intro i;simp only[putCells,Array.getElem?_mapIdx,zM,wW,wk,w8,true_and,Nat.sub_zero];by_cases f:i<l.length*k
 ·rw[qn (by omega),qn (by omega),qd (by omega),qd (by omega),qO,if_pos (by omega)];rw[getElem!_pos _ i (by rw[wW];omega)];simp
 ·rw[qj (by omega),qj (by omega),d,c];cases rest[i-l.length*k]? with
  |none=>rfl
  |some x=>rw[qO,if_neg (by omega)]
theorem PM{α:Type}[Inhabited α]{P:Program}{id_ g:FuncId}{enc:α->List Value}{k:Nat}{cf:α->α->Int}(A:∀x,(enc x).length=k)
  (F:∀(fh cap:Nat) (l:List α) (w:World),CmpLays P g #[] enc k cf fh 0 l.length w->HoldsK enc k w fh 0 l.toArray->fh<w.heap.size->l.length<4611686018427387904->
   Calls P id_ #[.slice (some ⟨fh,0,none⟩) l.length cap,.func (.func g) #[] #[]] w fun e i=>e=.returned (.tuple #[])/\∃n os,i=sortWorldK enc k w fh 0 n (l.mergeSort fun x y=>!(ltOf cf) y x).toArray os)
  (H:∀(p:Option Addr) (cap:Nat) (w:World),Calls P id_ #[.slice p 0 cap,.func (.func g) #[] #[]] w fun e i=>e=.returned (.tuple #[])/\i=w)
  (I:∀x y h,ac P g #[.agg (enc x).toArray,.agg (enc y).toArray] h fun v h'=>v=vL vR (cf x y)/\aU (fun b=>b<h.size) h h')
  {e:TypeId} {s:Sl} {l:List α} {h:Heap} (D:Own h e s k enc l) (G:l.length<2^40):
  ac P id_ #[.slice s.ptr s.len s.cap,.func (.func g) #[] #[]] h fun v h'=>v=.tuple #[]/\Own h' e s k enc (l.mergeSort fun x y=>!(ltOf cf) y x)/\aU (fun b=>¬s.on b) h h':=by
 intro w o;have a:=D.len;rcases D.head with⟨h1,h2,h3⟩|⟨b,rest,h1,h2,h3,h4⟩
 ·subst h3;rw[a,h1];refine(H none s.cap w).mono ?_;rintro B i ⟨rfl,rfl⟩;have E:(([]:List α).mergeSort fun x y=>!(ltOf cf) y x)=[]:=by simp
  exact⟨_,rfl,cN.refl _,rfl,by rw[E];exact⟨a,.inl ⟨h1,h2,rfl⟩⟩,by rw[<-o];exact aU.refl _ _⟩
 ·rw[h1,a];have t:w.heap[b]?=some (.cells (l.flatMap enc++rest).toArray e (0,0)):=by rw[o];exact h2
  have f:CmpLays P g #[] enc k cf b 0 l.length w:=fun m os K _ x y=>by
   have:=I x y _ (sortWorldK enc k w b 0 m K os) rfl;refine(show Calls P g (#[Value.agg (enc x).toArray,.agg (enc y).toArray]++#[]) _ _ from ?_);rw[Array.append_empty];refine this.mono ?_;rintro B i ⟨v,rfl,J,rfl,u⟩;exact⟨rfl,aen J u⟩
  refine(F b s.cap l w f (Xu A t) (lt_of_block t) (by omega)).mono ?_;rintro B i ⟨rfl,n,os,rfl⟩;have r:=lt_of_block t;have q:(l.mergeSort fun x y=>!(ltOf cf) y x).length=l.length:=wj l;have d:∀j,j<h.size->(sortWorldK enc k w b 0 n (l.mergeSort fun x y=>!(ltOf cf) y x).toArray os).heap[j]?=if b=j then some (.cells ((l.mergeSort fun x y=>!(ltOf cf) y x).flatMap enc++rest).toArray e (0,0))else h[j]?:=by
   intro j z;unfold sortWorldK;rw[Sort.heap_grow_old _ _ (by simpa[putRowK,Sort.putRow,Sort.mapBlock,Sort.ahead,o]using z)];simp only[putRowK,Sort.putRow,Sort.mapBlock,Sort.ahead,wi];by_cases c:b=j
   ·subst c;rw[if_pos rfl,if_pos rfl,t,qO,Sort.onCells,ZI A _ _ _ q]
   ·rw[if_neg c,if_neg c,o]
  rw[o]at r;refine⟨_,rfl,⟨rfl,rfl,rfl,Nat.le_add_right _ _⟩,rfl,⟨by rw[q];exact a,.inr ⟨b,rest,h1,?_,h3,h4⟩⟩,?_,?_⟩
  ·rw[d b r,if_pos rfl]
  ·simp[sortWorldK,putRowK,Sort.grow,Sort.putRow,Sort.mapBlock,Sort.ahead,o]
  ·intro j z u;rw[d j z,if_neg (fun c=>u ⟨0,by rw[h1,c]⟩)]
end Go.Vc
