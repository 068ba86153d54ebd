/- Lemmas for the proof of the law; no condition. -/
import Derived.Test.YtbhpnfilcomonaaGreatDoorPlA
import Derived.ProofKit
import Derived.Deep.Matrix
import Derived.Carry
import Derived.Lib.SmallJoins
set_option linter.unusedVariables false
set_option linter.unusedSimpArgs false
open Go.Value renaming int -> vQ
open Go.IntKind renaming i64 -> vW
namespace Go.Vc
open Go Go.RowKit Go.ChangeShapes Go.WideShapes Go.Joins Go.Deep
section
variable {H:Type} {enc:TypeId×Value->H} {P:Program} {W W':World}
theorem TL{w a:World}(c:cA w a)(e:aG (fun b=>b<w.heap.size) w.heap a.heap):Below w.heap.size w a:=
 ⟨c.os,c.tape,c.output,e.1,fun k d=>e.2 k d d⟩
theorem wf(f:laidOutB P=true)(g:Below W.heap.size W W'):∀{a:List TypeId} {vs:aQ} {ds:List (DataW H)} {ps:List MemPlace},
  (∀t∈a,P.readableRec t=true/\t<P.types.size)->DataW.TrodAll enc P W 0 (fun _=>true) true a vs ds ps->(∀x∈ps,x.block<W.heap.size)->DataW.TrodAll enc P W' 0 (fun b=>decide (b<W.heap.size)) true a vs ds ps
 |[],[],[],ps,_,h,_=>h
 |t::a,v::vs,d::ds,ps,hr,⟨p,q,h1,h2,e⟩,hlt=>by
  subst e;exact⟨p,q,Below.trod f (hr t (by simp)).1 (hr t (by simp)).2 h1 g (fun x c=>hlt x (by simp[c])),wf f g (fun u i=>hr u (by simp[i])) h2 (fun x c=>hlt x (by simp[c])),rfl⟩
 |[],_::_,_,_,_,h,_=>h.elim
 |[],[],_::_,_,_,h,_=>h.elim
 |_::_,[],_,_,_,h,_=>h.elim
 |_::_,_::_,[],_,_,h,_=>h.elim
theorem TM{f:Func}{s:ChangeSpec}{args:Array Value}{ds:List (DataW H)}{a:List MemPlace}{rt:TypeId}(k:s.vars=[])(e:DataW.Whole enc P f.params.toList s.vars false W args.toList ds [] a)
  (b:s.fn H (ds++[])={results:=[.lit (.bool true)],args:=ds}) (m:laidOutB P=true) (j:Below W.heap.size W W') (n:∀t∈f.params.toList,P.readableRec t=true/\t<P.types.size)
  (c:f.resultTypes=#[rt]) (g:P.underlying rt=some .bool):s.post enc P f false true false false W args (.bool true) W':=by
 obtain⟨p,q,o,i,h3,r,u⟩:=id e;have d:=e.lt;rw[k]at i;have l:q=[]:=i;subst l;simp only[List.append_nil]at h3;subst h3;refine⟨ds,[],a,[],a,[],e,?_,?_,?_,j.frame _,fun h=>by cases h⟩
 ·rw[b,c];exact trodAll_mk1 (shut_bool g true)
 ·rw[b];exact wf m j n o d
 ·rw[b,k];rfl
theorem My(w:World)(a:Addr):w.cell? a=cellOf w.heap a:=rfl
theorem Rq{h:Heap}{a:Addr}{v:Value}(c:cellOf h a=some v):a=⟨a.block,a.off,none⟩:=by
 obtain⟨b,o,s⟩:=a;cases s with
 |none=>rfl
 |some s=>
  unfold cellOf at c;cases hb:h[b]? with
  |none=>rw[hb]at c;cases c
  |some x=>rw[hb]at c;cases x<;>simp at c
theorem Xk{α:Type}{f:α->Value}{h:Heap}{a:Addr}{len cap:Nat}{l:List α}(m:l.length=len)(d:∀i (g:i<l.length),cellOf h (a.add i)=some (f l[i])):Seq h (fun b=>b<h.size) ⟨some a,len,cap⟩ 1 (fun x=>[f x]) l:=by
 refine⟨m.symm,fun i x k=>?_⟩;obtain⟨g,e⟩:=List.getElem?_eq_some_iff.1 k;have c:=d 0 (by omega);rw[add_zero]at c;have j:=Rq c;refine⟨a.block,a.off,by rw[<-j],cC c,?_,trivial⟩;have:=d i g;rw[j,add_eq]at this;rw[Nat.mul_one,add_eq,Nat.add_zero,this,e]
theorem TN{t e:TypeId}{v:Value}{d:DataW H}{ps:List MemPlace}(k:P.underlying t=some (.slice e))(m:P.underlying e=some (.int .i64))(q:P.cellsOf e=1)
  (o:∃p n c,v=.slice p n c) (h:DataW.Trod enc P W 0 (fun _=>true) true t v d ps):∃(s:Sl) (l:aD),v=.slice s.ptr s.len s.cap/\Seq W.heap (fun b=>b<W.heap.size) s 1 aE l:=by
 obtain⟨g,j⟩:=h;obtain⟨p,n,c,rfl⟩:=o;rcases open_ints k m q j with⟨h1,_⟩|⟨a,len,cap,zs,h1,_,hle,_,hz,_,hcell,_⟩
 ·simp[Value.cells]at h1;obtain⟨rfl,rfl,rfl⟩:=h1;exact⟨⟨none,0,0⟩,[],rfl,Seq.nil _ _ _ _ _ _⟩
 ·simp[Value.cells]at h1;obtain⟨rfl,rfl,rfl⟩:=h1;simp only[if_true]at hz;refine⟨⟨some a,n,c⟩,zs.take n,rfl,Xk (f:=fun x=>vQ vW x) (by simp;omega) fun i r=>?_⟩;simp at r;rw[<-My,hcell i (by omega)];simp[List.getD_eq_getElem?_getD,List.getElem?_eq_getElem (show i<zs.length by omega)]
theorem IE{r:_root_.Go.Reach}{b:Nat}{t e:TypeId}{v:Value}(a:P.underlying t=some (.slice e))(h:Value.okWide P W r b t v):∃p n c,v=.slice p n c:=by
 simp only[Value.okWide,a,Cell.okWide]at h;cases v<;>simp_all [Cell.ok]
end
end Go.Vc
