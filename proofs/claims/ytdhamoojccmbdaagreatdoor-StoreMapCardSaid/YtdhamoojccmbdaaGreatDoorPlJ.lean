/- Part of the proofs that the laws of this seat answer true whatever the input reads, and leave it as it was; no condition. -/
import Derived.Test.YtdhamoojccmbdaaGreatDoorPlA
import Derived.ProofKit
import Derived.Deep.Matrix
import Derived.Carry
import Derived.Lib.SmallJoins
set_option linter.unusedVariables false
set_option linter.unusedSimpArgs false
open List renaming append_nil -> qQ, getD_eq_getElem?_getD -> qe, getElem?_eq_getElem -> qd, getElem?_eq_some_iff -> qm
open Nat renaming add_zero -> w9, mul_one -> wJ
open Go.Value renaming int -> vX
open Go.IntKind renaming i64 -> xh
namespace Go.Vc
open Go Go.RowKit Go.ChangeShapes Go.WideShapes Go.Joins Go.Deep
section
variable {H:Type} {enc:TypeId×Value->H} {P:Program} {W W':World}
theorem adA{w a:World}(c:cQ w a)(e:aU (fun b=>b<w.heap.size) w.heap a.heap):Below w.heap.size w a:=
 ⟨c.os,c.tape,c.output,e.1,fun k d=>e.2 k d d⟩
theorem Fc(i:laidOutB P=true)(g:Below W.heap.size W W'):∀{c:List TypeId} {vs:List Value} {ds:List (DataW H)} {a:List MemPlace},
  (∀t∈c,P.readableRec t=true/\t<P.types.size)->DataW.TrodAll enc P W 0 (fun _=>true) true c vs ds a->(∀x∈a,x.block<W.heap.size)->DataW.TrodAll enc P W' 0 (fun b=>decide (b<W.heap.size)) true c vs ds a
 |[],[],[],a,_,h,_=>h
 |t::c,v::vs,d::ds,a,hr,⟨p,q,h1,h2,e⟩,hlt=>by
  subst e;exact⟨p,q,Below.trod i (hr t (by simp)).1 (hr t (by simp)).2 h1 g (fun x f=>hlt x (by simp[f])),Fc i g (fun u j=>hr u (by simp[j])) h2 (fun x f=>hlt x (by simp[f])),rfl⟩
 |[],_::_,_,_,_,h,_=>h.elim
 |[],[],_::_,_,_,h,_=>h.elim
 |_::_,[],_,_,_,h,_=>h.elim
 |_::_,_::_,[],_,_,h,_=>h.elim
theorem adB{f:Func}{s:ChangeSpec}{args:Array Value}{ds:List (DataW H)}{a:List MemPlace}{rt:TypeId}(k:s.vars=[])(d:DataW.Whole enc P f.params.toList s.vars false W args.toList ds [] a)
  (b:s.fn H (ds++[])={results:=[.lit (.bool true)],args:=ds}) (o:laidOutB P=true) (j:Below W.heap.size W W') (n:∀t∈f.params.toList,P.readableRec t=true/\t<P.types.size)
  (c:f.resultTypes=#[rt]) (g:P.underlying rt=some .bool):s.post enc P f false true false false W args (.bool true) W':=by
 obtain⟨p,q,m,i,h3,u,r⟩:=id d;have e:=d.lt;rw[k]at i;have l:q=[]:=i;subst l;simp only[qQ]at h3;subst h3;refine⟨ds,[],a,[],a,[],d,?_,?_,?_,j.frame _,fun h=>by cases h⟩
 ·rw[b,c];exact trodAll_mk1 (shut_bool g true)
 ·rw[b];exact Fc o j n m e
 ·rw[b,k];rfl
theorem Vv(w:World)(a:Addr):w.cell? a=cellOf w.heap a:=rfl
theorem aaY{h:Heap}{a:Addr}{v:Value}(c:cellOf h a=some v):a=⟨a.block,a.off,none⟩:=by
 obtain⟨b,o,s⟩:=a;cases s with
 |none=>rfl
 |some s=>
  unfold cellOf at c;cases hb:h[b]? with
  |none=>rw[hb]at c;cases c
  |some x=>rw[hb]at c;cases x<;>simp at c
theorem agQ{α:Type}{f:α->Value}{h:Heap}{a:Addr}{len cap:Nat}{l:List α}(m:l.length=len)(j:∀i (g:i<l.length),cellOf h (a.add i)=some (f l[i])):Seq h (fun b=>b<h.size) ⟨some a,len,cap⟩ 1 (fun x=>[f x]) l:=by
 refine⟨m.symm,fun i x k=>?_⟩;obtain⟨g,e⟩:=qm.1 k;have c:=j 0 (by omega);rw[add_zero]at c;have d:=aaY c;refine⟨a.block,a.off,by rw[<-d],uA c,?_,trivial⟩;have:=j i g;rw[d,add_eq]at this;rw[wJ,add_eq,w9,this,e]
theorem Tp{t e:TypeId}{v:Value}{d:DataW H}{k:List MemPlace}(o:P.underlying t=some (.slice e))(r:P.underlying e=some (.int .i64))(q:P.cellsOf e=1)
  (u:∃p n c,v=.slice p n c) (h:DataW.Trod enc P W 0 (fun _=>true) true t v d k):∃(s:Sl) (l:List Int),v=.slice s.ptr s.len s.cap/\Seq W.heap (fun b=>b<W.heap.size) s 1 aD l:=by
 obtain⟨g,j⟩:=h;obtain⟨p,n,c,rfl⟩:=u;rcases open_ints o r q j with⟨h1,_⟩|⟨a,len,cap,zs,h1,_,hle,_,hz,_,hcell,_⟩
 ·simp[Value.cells]at h1;obtain⟨rfl,rfl,rfl⟩:=h1;exact⟨⟨none,0,0⟩,[],rfl,Seq.nil _ _ _ _ _ _⟩
 ·simp[Value.cells]at h1;obtain⟨rfl,rfl,rfl⟩:=h1;simp only[if_true]at hz;refine⟨⟨some a,n,c⟩,zs.take n,rfl,agQ (f:=fun x=>vX xh x) (by simp;omega) fun i m=>?_⟩;simp at m;rw[<-Vv,hcell i (by omega)];simp[qe,qd (show i<zs.length by omega)]
theorem Fe{r:_root_.Go.Reach}{b:Nat}{t e:TypeId}{v:Value}(a:P.underlying t=some (.slice e))(h:Value.okWide P W r b t v):∃p n c,v=.slice p n c:=by
 simp only[Value.okWide,a,Cell.okWide]at h;cases v<;>simp_all [Cell.ok]
end
end Go.Vc
