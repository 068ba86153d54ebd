/- Lemmas for the proof of the law; no condition. -/
import Derived.Test.YtcaonbjibhlkcaaGreatDoorPlG
import Derived.Shelf.SlSortCmp.NoneTotal
set_option linter.unusedVariables false
set_option linter.unusedSimpArgs false
open Array renaming ext_getElem? -> yA
open List renaming getElem?_append_left -> qm, getElem?_append_right -> qj, getElem?_eq_getElem -> qd, getElem?_toArray -> zL, size_toArray -> wF
open Nat renaming zero_add -> zX
open Option renaming map_some -> qR
open Go.Value renaming int -> xk
open Go.IntKind renaming i64 -> xq
namespace Go.Vc
open Go Go.Sort Go.Proofs
theorem adm{w a:World}(m:cM w a)(k:aR (fun b=>b<w.heap.size) w.heap a.heap):∃q c,a=Sort.grow (w.drewN q) c:=by
 refine⟨a.drawn-w.drawn,a.heap.extract w.heap.size a.heap.size,?_⟩;have h:w.heap++a.heap.extract w.heap.size a.heap.size=a.heap:=by
  apply yA;intro i;have o:=k.1;by_cases d:i<w.heap.size
  ·rw[Array.getElem?_append_left d,k.2 i d d]
  ·rw[Array.getElem?_append_right (by omega),Array.getElem?_extract];by_cases u:i<a.heap.size
   ·rw[if_pos (by omega),show w.heap.size+(i-w.heap.size)=i by omega]
   ·rw[if_neg (by omega),Array.getElem?_eq_none (by omega)]
 obtain⟨s,t,dr,os,out⟩:=w;obtain⟨l,p,r,c,f⟩:=a;obtain⟨j,e,g,n⟩:=m;simp only at j e g n h;subst j;subst e;subst g;simp only[Sort.grow,World.drewN,World.mk.injEq];refine⟨h.symm,trivial,by omega,trivial,trivial⟩
theorem Ni{α:Type}[Inhabited α]{enc:α->aV}{k:Nat}(b:∀x,(enc x).length=k)(l:List α):flatK enc k l.toArray=(l.flatMap enc).toArray:=by
 refine ext_get! (by simp[cF b]) fun t n=>?_;have a:t<l.length*k:=by simpa using n
 have d:0<k:=by
  rcases Nat.eq_zero_or_pos k with h|h
  ·subst h;simp at a
  ·exact h
 rw[get_flatK _ _ _ t (by simpa using a)];have c:t/k<l.length:=(Nat.div_lt_iff_lt_mul d).2 a;obtain⟨pre,post,j,o⟩:=Cw b l (t/k) l[t/k] (qd c);have f:t%k<k:=Nat.mod_lt _ d;have m:t=t/k*k+t%k:=by rw[Nat.mul_comm];exact(Nat.div_add_mod t k).symm
 have e:(l.flatMap enc)[t]?=some ((enc l[t/k])[t%k]'(by rw[b];exact f)):=by
  rw[j,List.append_assoc,qj (by omega),qm (by rw[b];omega)];have:t-pre.length=t%k:=by omega
  rw[this,qd]
 have i:l.toArray[t/k]! =l[t/k]:=by simp[c]
 rw[i];have g:t<(l.flatMap enc).length:=by rw[cF b];exact a
 rw[getElem!_pos (enc l[t/k]) (t%k) (by rw[b];exact f),getElem!_pos _ t (by simpa using g)];rw[qd g]at e;simp only[List.getElem_toArray];exact(Option.some.inj e).symm
theorem Vz{α:Type}[Inhabited α]{enc:α->aV}{k:Nat}(f:∀x,(enc x).length=k){w:World}{e:TypeId}{b:Nat}{rest:aV}{l:List α}(c:w.heap[b]?=some (.cells (l.flatMap enc++rest).toArray e (0,0))):HoldsK enc k w b 0 l.toArray:=by
 intro j d;rw[Ni f]at d⊢;have a:j<(l.flatMap enc).length:=by simpa using d
 refine⟨?_,by simp[World.frozen?,c]⟩;have g:(l.flatMap enc++rest).toArray[0+j]?=some (l.flatMap enc)[j]:=by
  rw[zX,zL,qm a,qd a]
 simp only[World.cell?,c];rw[getElem!_pos _ j (by simpa using a)];simpa using g
theorem XU{α:Type}[Inhabited α]{enc:α->aV}{k:Nat}(b:∀x,(enc x).length=k)(l a:List α)(rest:aV)(d:a.length=l.length):putCells id 0 (flatK enc k a.toArray) (l.flatMap enc++rest).toArray=(a.flatMap enc++rest).toArray:=by
 rw[Ni b];have e:=cF b l;have c:=cF b a;rw[d]at c;apply yA;intro i;simp only[putCells,Array.getElem?_mapIdx,zL,wF,zX,Nat.zero_le,true_and,Nat.sub_zero];by_cases f:i<l.length*k
 ·rw[qm (by omega),qm (by omega),qd (by omega),qd (by omega),qR,if_pos (by omega)];rw[getElem!_pos _ i (by rw[wF];omega)];simp
 ·rw[qj (by omega),qj (by omega),e,c];cases rest[i-l.length*k]? with
  |none=>rfl
  |some x=>rw[qR,if_neg (by omega)]
theorem Oi{α:Type}[Inhabited α]{P:Program}{id_ g:FuncId}{enc:α->aV}{k:Nat}{cf:α->α->Int}(D:∀x,(enc x).length=k)
  (G:∀(fp cap:Nat) (l:List α) (w:World),CmpLays P g #[] enc k cf fp 0 l.length w->HoldsK enc k w fp 0 l.toArray->fp<w.heap.size->l.length<4611686018427387904->
   Calls P id_ #[.slice (some ⟨fp,0,none⟩) l.length cap,.func (.func g) #[] #[]] w fun e i=>e=.returned (.tuple #[])/\∃n os,i=sortWorldK enc k w fp 0 n (l.mergeSort fun x y=>!(ltOf cf) y x).toArray os)
  (J:∀(p:aP) (cap:Nat) (w:World),Calls P id_ #[.slice p 0 cap,.func (.func g) #[] #[]] w fun e i=>e=.returned (.tuple #[])/\i=w)
  (H:∀x y h,ab P g #[.agg (enc x).toArray,.agg (enc y).toArray] h fun v h'=>v=xk xq (cf x y)/\aR (fun b=>b<h.size) h h')
  {e:TypeId} {s:Sl} {l:List α} {h:Heap} (A:Own h e s k enc l) (K:l.length<2^40):
  ab P id_ #[.slice s.ptr s.len s.cap,.func (.func g) #[] #[]] h fun v h'=>v=.tuple #[]/\Own h' e s k enc (l.mergeSort fun x y=>!(ltOf cf) y x)/\aR (fun b=>¬s.on b) h h':=by
 intro w o;have a:=A.len;rcases A.head with⟨h1,h2,h3⟩|⟨b,rest,h1,h2,h3,h4⟩
 ·subst h3;rw[a,h1];refine(J none s.cap w).mono ?_;rintro B i ⟨rfl,rfl⟩;have I:(([]:List α).mergeSort fun x y=>!(ltOf cf) y x)=[]:=by simp
  exact⟨_,rfl,cM.refl _,rfl,by rw[I];exact⟨a,.inl ⟨h1,h2,rfl⟩⟩,by rw[<-o];exact aR.refl _ _⟩
 ·rw[h1,a];have t:w.heap[b]?=some (.cells (l.flatMap enc++rest).toArray e (0,0)):=by rw[o];exact h2
  have f:CmpLays P g #[] enc k cf b 0 l.length w:=fun m os F _ x y=>by
   have:=H x y _ (sortWorldK enc k w b 0 m F os) rfl;refine(show Calls P g (#[Value.agg (enc x).toArray,.agg (enc y).toArray]++#[]) _ _ from ?_);rw[Array.append_empty];refine this.mono ?_;rintro B i ⟨v,rfl,E,rfl,z⟩;exact⟨rfl,adm E z⟩
  refine(G b s.cap l w f (Vz D t) (lt_of_block t) (by omega)).mono ?_;rintro B i ⟨rfl,n,os,rfl⟩;have r:=lt_of_block t;have q:(l.mergeSort fun x y=>!(ltOf cf) y x).length=l.length:=List.length_mergeSort l;have d:∀j,j<h.size->(sortWorldK enc k w b 0 n (l.mergeSort fun x y=>!(ltOf cf) y x).toArray os).heap[j]?=if b=j then some (.cells ((l.mergeSort fun x y=>!(ltOf cf) y x).flatMap enc++rest).toArray e (0,0))else h[j]?:=by
   intro j u;unfold sortWorldK;rw[Sort.heap_grow_old _ _ (by simpa[putRowK,Sort.putRow,Sort.mapBlock,Sort.ahead,o]using u)];simp only[putRowK,Sort.putRow,Sort.mapBlock,Sort.ahead,Array.getElem?_modify];by_cases c:b=j
   ·subst c;rw[if_pos rfl,if_pos rfl,t,qR,Sort.onCells,XU D _ _ _ q]
   ·rw[if_neg c,if_neg c,o]
  rw[o]at r;refine⟨_,rfl,⟨rfl,rfl,rfl,Nat.le_add_right _ _⟩,rfl,⟨by rw[q];exact a,.inr ⟨b,rest,h1,?_,h3,h4⟩⟩,?_,?_⟩
  ·rw[d b r,if_pos rfl]
  ·simp[sortWorldK,putRowK,Sort.grow,Sort.putRow,Sort.mapBlock,Sort.ahead,o]
  ·intro j u z;rw[d j u,if_neg (fun c=>z ⟨0,by rw[h1,c]⟩)]
end Go.Vc
