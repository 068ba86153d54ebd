/- Part of the proofs that the laws of this seat answer true whatever the input reads, and leave it as it was; no condition. -/
import Derived.Test.YtdhamoojccmbdaaGreatDoorPlG
import Derived.Shelf.SlSortCmp.NoneTotal
set_option linter.unusedVariables false
set_option linter.unusedSimpArgs false
open Array renaming ext_getElem? -> yu, getElem?_modify -> wv
open List renaming append_assoc -> qp, getElem?_append_left -> qn, getElem?_append_right -> qj, getElem?_eq_getElem -> qd, getElem?_toArray -> zG, length_mergeSort -> wx, size_toArray -> wZ
open Nat renaming mod_lt -> yJ, zero_add -> zR, zero_le -> w7
open Option renaming map_some -> qN, some -> zL
open Go.Value renaming int -> vX
open Go.IntKind renaming i64 -> xh
namespace Go.Vc
open Go Go.Sort Go.Proofs
theorem afA{w a:World}(s:cQ w a)(e:aU (fun b=>b<w.heap.size) w.heap a.heap):∃q c,a=Sort.grow (w.drewN q) c:=by
 refine⟨a.drawn-w.drawn,a.heap.extract w.heap.size a.heap.size,?_⟩;have k:w.heap++a.heap.extract w.heap.size a.heap.size=a.heap:=by
  apply yu;intro i;have o:=e.1;by_cases d:i<w.heap.size
  ·rw[Array.getElem?_append_left d,e.2 i d d]
  ·rw[Array.getElem?_append_right (by omega),Array.getElem?_extract];by_cases t:i<a.heap.size
   ·rw[if_pos (by omega),show w.heap.size+(i-w.heap.size)=i by omega]
   ·rw[if_neg (by omega),Array.getElem?_eq_none (by omega)]
 obtain⟨r,u,dr,os,out⟩:=w;obtain⟨h,p,m,c,l⟩:=a;obtain⟨g,f,j,n⟩:=s;simp only at g f j n k;subst g;subst f;subst j;simp only[Sort.grow,World.drewN,World.mk.injEq];refine⟨k.symm,trivial,by omega,trivial,trivial⟩
theorem PP{α:Type}[Inhabited α]{enc:α->List Value}{k:Nat}(b:∀x,(enc x).length=k)(l:List α):flatK enc k l.toArray=(l.flatMap enc).toArray:=by
 refine ext_get! (by simp[dg b]) fun t i=>?_;have a:t<l.length*k:=by simpa using i
 have e:0<k:=by
  rcases Nat.eq_zero_or_pos k with h|h
  ·subst h;simp at a
  ·exact h
 rw[get_flatK _ _ _ t (by simpa using a)];have c:t/k<l.length:=(Nat.div_lt_iff_lt_mul e).2 a;obtain⟨pre,post,n,o⟩:=Kh b l (t/k) l[t/k] (qd c);have f:t%k<k:=yJ _ e;have j:t=t/k*k+t%k:=by rw[Nat.mul_comm];exact(Nat.div_add_mod t k).symm
 have g:(l.flatMap enc)[t]?=some ((enc l[t/k])[t%k]'(by rw[b];exact f)):=by
  rw[n,qp,qj (by omega),qn (by rw[b];omega)];have:t-pre.length=t%k:=by omega
  rw[this,qd]
 have m:l.toArray[t/k]! =l[t/k]:=by simp[c]
 rw[m];have d:t<(l.flatMap enc).length:=by rw[dg b];exact a
 rw[getElem!_pos (enc l[t/k]) (t%k) (by rw[b];exact f),getElem!_pos _ t (by simpa using d)];rw[qd d]at g;simp only[List.getElem_toArray];exact(zL.inj g).symm
theorem Yr{α:Type}[Inhabited α]{enc:α->List Value}{k:Nat}(f:∀x,(enc x).length=k){w:World}{e:TypeId}{b:Nat}{rest:List Value}{l:List α}(d:w.heap[b]?=some (.cells (l.flatMap enc++rest).toArray e (0,0))):HoldsK enc k w b 0 l.toArray:=by
 intro j c;rw[PP f]at c⊢;have a:j<(l.flatMap enc).length:=by simpa using c
 refine⟨?_,by simp[World.frozen?,d]⟩;have g:(l.flatMap enc++rest).toArray[0+j]?=some (l.flatMap enc)[j]:=by
  rw[zR,zG,qn a,qd a]
 simp only[World.cell?,d];rw[getElem!_pos _ j (by simpa using a)];simpa using g
theorem aaK{α:Type}[Inhabited α]{enc:α->List Value}{k:Nat}(b:∀x,(enc x).length=k)(l a:List α)(rest:List Value)(e:a.length=l.length):putCells id 0 (flatK enc k a.toArray) (l.flatMap enc++rest).toArray=(a.flatMap enc++rest).toArray:=by
 rw[PP b];have d:=dg b l;have c:=dg b a;rw[e]at c;apply yu;intro i;simp only[putCells,Array.getElem?_mapIdx,zG,wZ,zR,w7,true_and,Nat.sub_zero];by_cases f:i<l.length*k
 ·rw[qn (by omega),qn (by omega),qd (by omega),qd (by omega),qN,if_pos (by omega)];rw[getElem!_pos _ i (by rw[wZ];omega)];simp
 ·rw[qj (by omega),qj (by omega),d,c];cases rest[i-l.length*k]? with
  |none=>rfl
  |some x=>rw[qN,if_neg (by omega)]
theorem QP{α:Type}[Inhabited α]{P:Program}{id_ g:FuncId}{enc:α->List Value}{k:Nat}{cf:α->α->Int}(A:∀x,(enc x).length=k)
  (I:∀(fp cap:Nat) (l:List α) (w:World),CmpLays P g #[] enc k cf fp 0 l.length w->HoldsK enc k w fp 0 l.toArray->fp<w.heap.size->l.length<4611686018427387904->
   Calls P id_ #[.slice (some ⟨fp,0,none⟩) l.length cap,.func (.func g) #[] #[]] w fun e i=>e=.returned (.tuple #[])/\∃n os,i=sortWorldK enc k w fp 0 n (l.mergeSort fun x y=>!(ltOf cf) y x).toArray os)
  (K:∀(p:Option Addr) (cap:Nat) (w:World),Calls P id_ #[.slice p 0 cap,.func (.func g) #[] #[]] w fun e i=>e=.returned (.tuple #[])/\i=w)
  (E:∀x y h,ae P g #[.agg (enc x).toArray,.agg (enc y).toArray] h fun v h'=>v=vX xh (cf x y)/\aU (fun b=>b<h.size) h h')
  {e:TypeId} {s:Sl} {l:List α} {h:Heap} (B:Own h e s k enc l) (H:l.length<2^40):
  ae P id_ #[.slice s.ptr s.len s.cap,.func (.func g) #[] #[]] h fun v h'=>v=.tuple #[]/\Own h' e s k enc (l.mergeSort fun x y=>!(ltOf cf) y x)/\aU (fun b=>¬s.on b) h h':=by
 intro w o;have a:=B.len;rcases B.head with⟨h1,h2,h3⟩|⟨b,rest,h1,h2,h3,h4⟩
 ·subst h3;rw[a,h1];refine(K none s.cap w).mono ?_;rintro D i ⟨rfl,rfl⟩;have F:(([]:List α).mergeSort fun x y=>!(ltOf cf) y x)=[]:=by simp
  exact⟨_,rfl,cQ.refl _,rfl,by rw[F];exact⟨a,.inl ⟨h1,h2,rfl⟩⟩,by rw[<-o];exact aU.refl _ _⟩
 ·rw[h1,a];have t:w.heap[b]?=some (.cells (l.flatMap enc++rest).toArray e (0,0)):=by rw[o];exact h2
  have f:CmpLays P g #[] enc k cf b 0 l.length w:=fun m os G _ x y=>by
   have:=E x y _ (sortWorldK enc k w b 0 m G os) rfl;refine(show Calls P g (#[Value.agg (enc x).toArray,.agg (enc y).toArray]++#[]) _ _ from ?_);rw[Array.append_empty];refine this.mono ?_;rintro D i ⟨v,rfl,J,rfl,u⟩;exact⟨rfl,afA J u⟩
  refine(I b s.cap l w f (Yr A t) (lt_of_block t) (by omega)).mono ?_;rintro D i ⟨rfl,n,os,rfl⟩;have q:=lt_of_block t;have r:(l.mergeSort fun x y=>!(ltOf cf) y x).length=l.length:=wx l;have c:∀j,j<h.size->(sortWorldK enc k w b 0 n (l.mergeSort fun x y=>!(ltOf cf) y x).toArray os).heap[j]?=if b=j then some (.cells ((l.mergeSort fun x y=>!(ltOf cf) y x).flatMap enc++rest).toArray e (0,0))else h[j]?:=by
   intro j z;unfold sortWorldK;rw[Sort.heap_grow_old _ _ (by simpa[putRowK,Sort.putRow,Sort.mapBlock,Sort.ahead,o]using z)];simp only[putRowK,Sort.putRow,Sort.mapBlock,Sort.ahead,wv];by_cases d:b=j
   ·subst d;rw[if_pos rfl,if_pos rfl,t,qN,Sort.onCells,aaK A _ _ _ r]
   ·rw[if_neg d,if_neg d,o]
  rw[o]at q;refine⟨_,rfl,⟨rfl,rfl,rfl,Nat.le_add_right _ _⟩,rfl,⟨by rw[r];exact a,.inr ⟨b,rest,h1,?_,h3,h4⟩⟩,?_,?_⟩
  ·rw[c b q,if_pos rfl]
  ·simp[sortWorldK,putRowK,Sort.grow,Sort.putRow,Sort.mapBlock,Sort.ahead,o]
  ·intro j z u;rw[c j z,if_neg (fun d=>u ⟨0,by rw[h1,d]⟩)]
end Go.Vc
