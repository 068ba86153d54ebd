/- Lemmas for the proof of the law; no condition. -/
import Derived.Test.YtnjommcknbionaaGreatDoorPlA
import Derived.ProofKit
import Derived.Deep.Matrix
import Derived.Carry
import Derived.Lib.SmallJoins
set_option linter.unusedVariables false
set_option linter.unusedSimpArgs false
open Go.Value renaming int -> vL
open Go.IntKind renaming i64 -> vR
namespace Go.Vc
open Go Go.RowKit Go.ChangeShapes Go.WideShapes Go.Joins Go.Deep
section
variable {H:Type} {enc:TypeId×Value->H} {P:Program} {W W':World}
theorem RA{w a:World}(c:ct w a)(d:aH (fun b=>b<w.heap.size) w.heap a.heap):Below w.heap.size w a:=
 ⟨c.os,c.tape,c.output,d.1,fun k e=>d.2 k e e⟩
theorem ut(i:laidOutB P=true)(g:Below W.heap.size W W'):∀{c:List TypeId} {vs:aM} {ds:List (DataW H)} {a:List MemPlace},
  (∀t∈c,P.readableRec t=true/\t<P.types.size)->DataW.TrodAll enc P W 0 (fun _=>true) true c vs ds a->(∀x∈a,x.block<W.heap.size)->DataW.TrodAll enc P W' 0 (fun b=>decide (b<W.heap.size)) true c vs ds a
 |[],[],[],a,_,h,_=>h
 |t::c,v::vs,d::ds,a,hr,⟨p,q,h1,h2,e⟩,hlt=>by
  subst e;exact⟨p,q,Below.trod i (hr t (by simp)).1 (hr t (by simp)).2 h1 g (fun x f=>hlt x (by simp[f])),ut i g (fun u j=>hr u (by simp[j])) h2 (fun x f=>hlt x (by simp[f])),rfl⟩
 |[],_::_,_,_,_,h,_=>h.elim
 |[],[],_::_,_,_,h,_=>h.elim
 |_::_,[],_,_,_,h,_=>h.elim
 |_::_,_::_,[],_,_,h,_=>h.elim
theorem RB{f:Func}{s:ChangeSpec}{args:Array Value}{ds:List (DataW H)}{a:List MemPlace}{rt:TypeId}(k:s.vars=[])(d:DataW.Whole enc P f.params.toList s.vars false W args.toList ds [] a)
  (b:s.fn H (ds++[])={results:=[.lit (.bool true)],args:=ds}) (l:laidOutB P=true) (j:Below W.heap.size W W') (m:∀t∈f.params.toList,P.readableRec t=true/\t<P.types.size)
  (c:f.resultTypes=#[rt]) (g:P.underlying rt=some .bool):s.post enc P f false true false false W args (.bool true) W':=by
 obtain⟨p,q,o,i,h3,u,r⟩:=id d;have e:=d.lt;rw[k]at i;have n:q=[]:=i;subst n;simp only[List.append_nil]at h3;subst h3;refine⟨ds,[],a,[],a,[],d,?_,?_,?_,j.frame _,fun h=>by cases h⟩
 ·rw[b,c];exact trodAll_mk1 (shut_bool g true)
 ·rw[b];exact ut l j m o e
 ·rw[b,k];rfl
theorem KI(w:World)(a:Addr):w.cell? a=cellOf w.heap a:=rfl
theorem Pj{h:Heap}{a:Addr}{v:Value}(c:cellOf h a=some v):a=⟨a.block,a.off,none⟩:=by
 obtain⟨b,o,s⟩:=a;cases s with
 |none=>rfl
 |some s=>
  unfold cellOf at c;cases hb:h[b]? with
  |none=>rw[hb]at c;cases c
  |some x=>rw[hb]at c;cases x<;>simp at c
theorem Vk{α:Type}{f:α->Value}{h:Heap}{a:Addr}{len cap:Nat}{l:List α}(k:l.length=len)(j:∀i (g:i<l.length),cellOf h (a.add i)=some (f l[i])):Seq h (fun b=>b<h.size) ⟨some a,len,cap⟩ 1 (fun x=>[f x]) l:=by
 refine⟨k.symm,fun i x m=>?_⟩;obtain⟨g,e⟩:=List.getElem?_eq_some_iff.1 m;have c:=j 0 (by omega);rw[add_zero]at c;have d:=Pj c;refine⟨a.block,a.off,by rw[<-d],lt_of_cell c,?_,trivial⟩;have:=j i g;rw[d,add_eq]at this;rw[Nat.mul_one,add_eq,Nat.add_zero,this,e]
theorem Jc{t e:TypeId}{v:Value}{d:DataW H}{o:List MemPlace}(k:P.underlying t=some (.slice e))(j:P.underlying e=some (.int .i64))(u:P.cellsOf e=1)
  (m:∃p n c,v=.slice p n c) (h:DataW.Trod enc P W 0 (fun _=>true) true t v d o):∃(s:Sl) (l:aB),v=.slice s.ptr s.len s.cap/\Seq W.heap (fun b=>b<W.heap.size) s 1 aG l:=by
 obtain⟨g,r⟩:=h;obtain⟨p,n,c,rfl⟩:=m;rcases open_ints k j u r with⟨h1,_⟩|⟨a,len,cap,zs,h1,_,hle,_,hz,_,hcell,_⟩
 ·simp[Value.cells]at h1;obtain⟨rfl,rfl,rfl⟩:=h1;exact⟨⟨none,0,0⟩,[],rfl,Seq.nil _ _ _ _ _ _⟩
 ·simp[Value.cells]at h1;obtain⟨rfl,rfl,rfl⟩:=h1;simp only[if_true]at hz;refine⟨⟨some a,n,c⟩,zs.take n,rfl,Vk (f:=fun x=>vL vR x) (by simp;omega) fun i q=>?_⟩;simp at q;rw[<-KI,hcell i (by omega)];simp[List.getD_eq_getElem?_getD,List.getElem?_eq_getElem (show i<zs.length by omega)]
theorem uu{r:_root_.Go.Reach}{b:Nat}{t e:TypeId}{v:Value}(a:P.underlying t=some (.slice e))(h:Value.okWide P W r b t v):∃p n c,v=.slice p n c:=by
 simp only[Value.okWide,a,Cell.okWide]at h;cases v<;>simp_all [Cell.ok]
end
end Go.Vc
