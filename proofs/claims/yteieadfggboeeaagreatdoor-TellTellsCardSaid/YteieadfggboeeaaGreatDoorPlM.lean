/- Part of the proofs that the laws of this seat answer true whatever the input reads, and leave it as it was; no condition. -/
import Derived.Test.YteieadfggboeeaaGreatDoorPlA
import Derived.ProofKit
import Derived.Deep.Matrix
import Derived.Carry
import Derived.Lib.SmallJoins
set_option linter.unusedVariables false
set_option linter.unusedSimpArgs false
namespace Go.Vc
open Go Go.RowKit Go.ChangeShapes Go.WideShapes Go.Joins Go.Deep
section
variable {H:Type} {enc:TypeId×Value→H} {P:Program} {W W':World}
theorem ww {w w':World} (hl:aL w w') (hp:ax (fun b=>b<w.heap.size) w.heap w'.heap):Below w.heap.size w w':=
 ⟨hl.os,hl.tape,hl.output,hp.1,fun k hk=>hp.2 k hk hk⟩
theorem lv (hl:laidOutB P=true) (hb:Below W.heap.size W W'):∀{ts:List TypeId} {vs:List Value} {ds:List (DataW H)} {ps:List MemPlace},
  (∀t∈ts,P.readableRec t=true∧t<P.types.size)→DataW.TrodAll enc P W 0 (fun _=>true) true ts vs ds ps→(∀x∈ps,x.block<W.heap.size)→DataW.TrodAll enc P W' 0 (fun b=>decide (b<W.heap.size)) true ts vs ds ps
 |[],[],[],ps,_,h,_=>h
 |t::ts,v::vs,d::ds,ps,hr,⟨p,q,h1,h2,e⟩,hlt=>by
  subst e
  exact⟨p,q,Below.trod hl (hr t (by simp)).1 (hr t (by simp)).2 h1 hb (fun x hx=>hlt x (by simp[hx])),lv hl hb (fun u hu=>hr u (by simp[hu])) h2 (fun x hx=>hlt x (by simp[hx])),rfl⟩
 |[],_::_,_,_,_,h,_=>h.elim
 |[],[],_::_,_,_,h,_=>h.elim
 |_::_,[],_,_,_,h,_=>h.elim
 |_::_,_::_,[],_,_,h,_=>h.elim
theorem wx {f:Func} {s:ChangeSpec} {args:Array Value} {ds:List (DataW H)} {before:List MemPlace} {rt:TypeId} (hs:s.vars=[]) (hW:DataW.Whole enc P f.params.toList s.vars false W args.toList ds [] before)
  (hfn:s.fn H (ds++[])={results:=[.lit (.bool true)],args:=ds}) (hl:laidOutB P=true) (hb:Below W.heap.size W W') (hr:∀t∈f.params.toList,P.readableRec t=true∧t<P.types.size)
  (hres:f.resultTypes=#[rt]) (hrt:P.underlying rt=some .bool):s.post enc P f false true false false W args (.bool true) W':=by
 obtain⟨p,q,h1,h2,h3,h4,h5⟩:=id hW
 have hlt:=hW.lt
 rw[hs]at h2
 have hq:q=[]:=h2
 subst hq
 simp only[List.append_nil]at h3
 subst h3
 refine⟨ds,[],before,[],before,[],hW,?_,?_,?_,hb.frame _,fun h=>by cases h⟩
 ·rw[hfn,hres]
  exact trodAll_mk1 (shut_bool hrt true)
 ·rw[hfn]
  exact lv hl hb hr h1 hlt
 ·rw[hfn,hs];rfl
theorem gH (w:World) (a:Addr):w.cell? a=cellOf w.heap a:=rfl
theorem vo {h:Heap} {a:Addr} {v:Value} (hc:cellOf h a=some v):a=⟨a.block,a.off,none⟩:=by
 obtain⟨b,o,s⟩:=a
 cases s with
 |none=>rfl
 |some s=>
  unfold cellOf at hc
  cases hb:h[b]? with
  |none=>rw[hb]at hc;cases hc
  |some x=>rw[hb]at hc;cases x<;>simp at hc
theorem rC {α:Type} {f:α→Value} {h:Heap} {a:Addr} {len cap:Nat} {l:List α} (hl:l.length=len) (hc:∀i (hi:i<l.length),cellOf h (a.add i)=some (f l[i])):Seq h (fun b=>b<h.size) ⟨some a,len,cap⟩ 1 (fun x=>[f x]) l:=by
 refine⟨hl.symm,fun i x hx=>?_⟩
 obtain⟨hi,e⟩:=List.getElem?_eq_some_iff.1 hx
 have h0:=hc 0 (by omega)
 rw[add_zero]at h0
 have ha:=vo h0
 refine⟨a.block,a.off,by rw[←ha],cg h0,?_,trivial⟩
 have:=hc i hi
 rw[ha,add_eq]at this
 rw[Nat.mul_one,add_eq,Nat.add_zero,this,e]
end
end Go.Vc
