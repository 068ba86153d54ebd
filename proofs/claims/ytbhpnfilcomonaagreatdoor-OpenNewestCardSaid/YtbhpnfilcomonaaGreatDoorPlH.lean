/- Lemmas for the proof of the law; no condition. -/
import Derived.Test.YtbhpnfilcomonaaGreatDoorPlG
import Derived.Shelf.SlSortCmp.NoneTotal
set_option linter.unusedVariables false
set_option linter.unusedSimpArgs false
open Array renaming ext_getElem? -> ya
open List renaming getElem?_append_left -> ql, getElem?_append_right -> qg, getElem?_eq_getElem -> qd, getElem?_toArray -> zp, size_toArray -> z7
open Nat renaming zero_add -> zG
open Option renaming map_some -> qJ
open Go.Value renaming int -> vQ
open Go.IntKind renaming i64 -> vW
namespace Go.Vc
open Go Go.Sort Go.Proofs
theorem Wb{w a:World}(n:cA w a)(g:aG (fun b=>b<w.heap.size) w.heap a.heap):∃q c,a=Sort.grow (w.drewN q) c:=by
 refine⟨a.drawn-w.drawn,a.heap.extract w.heap.size a.heap.size,?_⟩;have e:w.heap++a.heap.extract w.heap.size a.heap.size=a.heap:=by
  apply ya;intro i;have s:=g.1;by_cases d:i<w.heap.size
  ·rw[Array.getElem?_append_left d,g.2 i d d]
  ·rw[Array.getElem?_append_right (by omega),Array.getElem?_extract];by_cases t:i<a.heap.size
   ·rw[if_pos (by omega),show w.heap.size+(i-w.heap.size)=i by omega]
   ·rw[if_neg (by omega),Array.getElem?_eq_none (by omega)]
 obtain⟨o,u,v,os,out⟩:=w;obtain⟨f,m,p,c,k⟩:=a;obtain⟨h,l,j,r⟩:=n;simp only at h l j r e;subst h;subst l;subst j;simp only[Sort.grow,World.drewN,World.mk.injEq];refine⟨e.symm,trivial,by omega,trivial,trivial⟩
theorem HD{α:Type}[Inhabited α]{enc:α->aQ}{k:Nat}(b:∀x,(enc x).length=k)(l:List α):flatK enc k l.toArray=(l.flatMap enc).toArray:=by
 refine ext_get! (by simp[cw b]) fun t n=>?_;have a:t<l.length*k:=by simpa using n
 have c:0<k:=by
  rcases Nat.eq_zero_or_pos k with h|h
  ·subst h;simp at a
  ·exact h
 rw[get_flatK _ _ _ t (by simpa using a)];have d:t/k<l.length:=(Nat.div_lt_iff_lt_mul c).2 a;obtain⟨pre,post,j,o⟩:=Df b l (t/k) l[t/k] (qd d);have g:t%k<k:=Nat.mod_lt _ c;have i:t=t/k*k+t%k:=by rw[Nat.mul_comm];exact(Nat.div_add_mod t k).symm
 have e:(l.flatMap enc)[t]?=some ((enc l[t/k])[t%k]'(by rw[b];exact g)):=by
  rw[j,List.append_assoc,qg (by omega),ql (by rw[b];omega)];have:t-pre.length=t%k:=by omega
  rw[this,qd]
 have m:l.toArray[t/k]! =l[t/k]:=by simp[d]
 rw[m];have f:t<(l.flatMap enc).length:=by rw[cw b];exact a
 rw[getElem!_pos (enc l[t/k]) (t%k) (by rw[b];exact g),getElem!_pos _ t (by simpa using f)];rw[qd f]at e;simp only[List.getElem_toArray];exact(Option.some.inj e).symm
theorem OX{α:Type}[Inhabited α]{enc:α->aQ}{k:Nat}(g:∀x,(enc x).length=k){w:World}{e:TypeId}{b:Nat}{rest:aQ}{l:List α}(d:w.heap[b]?=some (.cells (l.flatMap enc++rest).toArray e (0,0))):HoldsK enc k w b 0 l.toArray:=by
 intro j c;rw[HD g]at c⊢;have a:j<(l.flatMap enc).length:=by simpa using c
 refine⟨?_,by simp[World.frozen?,d]⟩;have f:(l.flatMap enc++rest).toArray[0+j]?=some (l.flatMap enc)[j]:=by
  rw[zG,zp,ql a,qd a]
 simp only[World.cell?,d];rw[getElem!_pos _ j (by simpa using a)];simpa using f
theorem Rg{α:Type}[Inhabited α]{enc:α->aQ}{k:Nat}(b:∀x,(enc x).length=k)(l a:List α)(rest:aQ)(e:a.length=l.length):putCells id 0 (flatK enc k a.toArray) (l.flatMap enc++rest).toArray=(a.flatMap enc++rest).toArray:=by
 rw[HD b];have d:=cw b l;have c:=cw b a;rw[e]at c;apply ya;intro i;simp only[putCells,Array.getElem?_mapIdx,zp,z7,zG,Nat.zero_le,true_and,Nat.sub_zero];by_cases f:i<l.length*k
 ·rw[ql (by omega),ql (by omega),qd (by omega),qd (by omega),qJ,if_pos (by omega)];rw[getElem!_pos _ i (by rw[z7];omega)];simp
 ·rw[qg (by omega),qg (by omega),d,c];cases rest[i-l.length*k]? with
  |none=>rfl
  |some x=>rw[qJ,if_neg (by omega)]
theorem ID{α:Type}[Inhabited α]{P:Program}{id_ g:FuncId}{enc:α->aQ}{k:Nat}{cf:α->α->Int}(F:∀x,(enc x).length=k)
  (L:∀(f cap:Nat) (l:List α) (w:World),CmpLays P g #[] enc k cf f 0 l.length w->HoldsK enc k w f 0 l.toArray->f<w.heap.size->l.length<4611686018427387904->
   Calls P id_ #[.slice (some ⟨f,0,none⟩) l.length cap,.func (.func g) #[] #[]] w fun e o=>e=.returned (.tuple #[])/\∃n os,o=sortWorldK enc k w f 0 n (l.mergeSort fun x y=>!(ltOf cf) y x).toArray os)
  (I:∀(p:aM) (cap:Nat) (w:World),Calls P id_ #[.slice p 0 cap,.func (.func g) #[] #[]] w fun e o=>e=.returned (.tuple #[])/\o=w)
  (J:∀x y h,ac P g #[.agg (enc x).toArray,.agg (enc y).toArray] h fun v u=>v=vQ vW (cf x y)/\aG (fun b=>b<h.size) h u)
  {e:TypeId} {s:Sl} {l:List α} {h:Heap} (E:Own h e s k enc l) (H:l.length<2^40):
  ac P id_ #[.slice s.ptr s.len s.cap,.func (.func g) #[] #[]] h fun v u=>v=.tuple #[]/\Own u e s k enc (l.mergeSort fun x y=>!(ltOf cf) y x)/\aG (fun b=>¬s.on b) h u:=by
 intro w q;have a:=E.len;rcases E.head with⟨h1,h2,h3⟩|⟨b,rest,h1,h2,h3,h4⟩
 ·subst h3;rw[a,h1];refine(I none s.cap w).mono ?_;rintro D o ⟨rfl,rfl⟩;have M:(([]:List α).mergeSort fun x y=>!(ltOf cf) y x)=[]:=by simp
  exact⟨_,rfl,cA.refl _,rfl,by rw[M];exact⟨a,.inl ⟨h1,h2,rfl⟩⟩,by rw[<-q];exact aG.refl _ _⟩
 ·rw[h1,a];have z:w.heap[b]?=some (.cells (l.flatMap enc++rest).toArray e (0,0)):=by rw[q];exact h2
  have i:CmpLays P g #[] enc k cf b 0 l.length w:=fun m os K _ x y=>by
   have:=J x y _ (sortWorldK enc k w b 0 m K os) rfl;refine(show Calls P g (#[Value.agg (enc x).toArray,.agg (enc y).toArray]++#[]) _ _ from ?_);rw[Array.append_empty];refine this.mono ?_;rintro D o ⟨v,rfl,G,rfl,A⟩;exact⟨rfl,Wb G A⟩
  refine(L b s.cap l w i (OX F z) (lt_of_block z) (by omega)).mono ?_;rintro D o ⟨rfl,n,os,rfl⟩;have r:=lt_of_block z;have t:(l.mergeSort fun x y=>!(ltOf cf) y x).length=l.length:=List.length_mergeSort l;have d:∀j,j<h.size->(sortWorldK enc k w b 0 n (l.mergeSort fun x y=>!(ltOf cf) y x).toArray os).heap[j]?=if b=j then some (.cells ((l.mergeSort fun x y=>!(ltOf cf) y x).flatMap enc++rest).toArray e (0,0))else h[j]?:=by
   intro j B;unfold sortWorldK;rw[Sort.heap_grow_old _ _ (by simpa[putRowK,Sort.putRow,Sort.mapBlock,Sort.ahead,q]using B)];simp only[putRowK,Sort.putRow,Sort.mapBlock,Sort.ahead,Array.getElem?_modify];by_cases c:b=j
   ·subst c;rw[if_pos rfl,if_pos rfl,z,qJ,Sort.onCells,Rg F _ _ _ t]
   ·rw[if_neg c,if_neg c,q]
  rw[q]at r;refine⟨_,rfl,⟨rfl,rfl,rfl,Nat.le_add_right _ _⟩,rfl,⟨by rw[t];exact a,.inr ⟨b,rest,h1,?_,h3,h4⟩⟩,?_,?_⟩
  ·rw[d b r,if_pos rfl]
  ·simp[sortWorldK,putRowK,Sort.grow,Sort.putRow,Sort.mapBlock,Sort.ahead,q]
  ·intro j B A;rw[d j B,if_neg (fun c=>A ⟨0,by rw[h1,c]⟩)]
end Go.Vc
