/- Lemmas. -/
import Derived.Test.YtadfimdanpoafaaGreatDoorPlA
import Derived.ProofKit
import Derived.Deep.Matrix
import Derived.Carry
import Derived.Lib.SmallJoins
set_option linter.unusedVariables false
set_option linter.unusedSimpArgs false
open Go.Value renaming int -> xl
open Go.IntKind renaming i64 -> xt
namespace Go.Vc
open Go Go.RowKit Go.ChangeShapes Go.WideShapes Go.Joins Go.Deep
section
variable {H:Type} {enc:TypeId×Value->H} {P:Program} {W W':World}
theorem aaD{w w':World}(a:cV w w')(c:aU (fun b=>b<w.heap.size) w.heap w'.heap):Below w.heap.size w w':=
 ⟨a.os,a.tape,a.output,c.1,fun k d=>c.2 k d d⟩
theorem DY(g:laidOutB P=true)(i:Below W.heap.size W W'):∀{c:List TypeId} {vs:aW} {ds:List (DataW H)} {a:List MemPlace},
  (∀t∈c,P.readableRec t=true/\t<P.types.size)->DataW.TrodAll enc P W 0 (fun _=>true) true c vs ds a->(∀x∈a,x.block<W.heap.size)->DataW.TrodAll enc P W' 0 (fun b=>decide (b<W.heap.size)) true c vs ds a
 |[],[],[],a,_,h,_=>h
 |t::c,v::vs,d::ds,a,hr,⟨p,q,h1,h2,e⟩,hlt=>by
  subst e;exact⟨p,q,Below.trod g (hr t (by simp)).1 (hr t (by simp)).2 h1 i (fun x f=>hlt x (by simp[f])),DY g i (fun u j=>hr u (by simp[j])) h2 (fun x f=>hlt x (by simp[f])),rfl⟩
 |[],_::_,_,_,_,h,_=>h.elim
 |[],[],_::_,_,_,h,_=>h.elim
 |_::_,[],_,_,_,h,_=>h.elim
 |_::_,_::_,[],_,_,h,_=>h.elim
theorem aaE{f:Func}{s:ChangeSpec}{args:Array Value}{ds:List (DataW H)}{a:List MemPlace}{rt:TypeId}(k:s.vars=[])(d:DataW.Whole enc P f.params.toList s.vars false W args.toList ds [] a)
  (b:s.fn H (ds++[])={results:=[.lit (.bool true)],args:=ds}) (m:laidOutB P=true) (j:Below W.heap.size W W') (l:∀t∈f.params.toList,P.readableRec t=true/\t<P.types.size)
  (c:f.resultTypes=#[rt]) (e:P.underlying rt=some .bool):s.post enc P f false true false false W args (.bool true) W':=by
 obtain⟨p,q,o,i,h3,r,u⟩:=id d;have g:=d.lt;rw[k]at i;have n:q=[]:=i;subst n;simp only[List.append_nil]at h3;subst h3;refine⟨ds,[],a,[],a,[],d,?_,?_,?_,j.frame _,fun h=>by cases h⟩
 ·rw[b,c];exact trodAll_mk1 (shut_bool e true)
 ·rw[b];exact DY m j l o g
 ·rw[b,k];rfl
theorem SI(w:World)(a:Addr):w.cell? a=cellOf w.heap a:=rfl
theorem Yb{h:Heap}{a:Addr}{v:Value}(c:cellOf h a=some v):a=⟨a.block,a.off,none⟩:=by
 obtain⟨b,o,s⟩:=a;cases s with
 |none=>rfl
 |some s=>
  unfold cellOf at c;cases hb:h[b]? with
  |none=>rw[hb]at c;cases c
  |some x=>rw[hb]at c;cases x<;>simp at c
theorem aer{α:Type}{f:α->Value}{h:Heap}{a:Addr}{len cap:Nat}{l:List α}(j:l.length=len)(d:∀i (g:i<l.length),cellOf h (a.add i)=some (f l[i])):Seq h (fun b=>b<h.size) ⟨some a,len,cap⟩ 1 (fun x=>[f x]) l:=by
 refine⟨j.symm,fun i x k=>?_⟩;obtain⟨g,e⟩:=List.getElem?_eq_some_iff.1 k;have h0:=d 0 (by omega);rw[add_zero]at h0;have c:=Yb h0;refine⟨a.block,a.off,by rw[<-c],tO h0,?_,trivial⟩;have:=d i g;rw[c,add_eq]at this;rw[Nat.mul_one,add_eq,Nat.add_zero,this,e]
theorem QG{t e:TypeId}{v:Value}{d:DataW H}{m:List MemPlace}(k:P.underlying t=some (.slice e))(r:P.underlying e=some (.int .i64))(j:P.cellsOf e=1)
  (o:∃p n c,v=.slice p n c) (h:DataW.Trod enc P W 0 (fun _=>true) true t v d m):∃(s:Sl) (l:aC),v=.slice s.ptr s.len s.cap/\Seq W.heap (fun b=>b<W.heap.size) s 1 aD l:=by
 obtain⟨g,u⟩:=h;obtain⟨p,n,c,rfl⟩:=o;rcases open_ints k r j u with⟨h1,_⟩|⟨a,len,cap,zs,h1,_,hle,_,hz,_,hcell,_⟩
 ·simp[Value.cells]at h1;obtain⟨rfl,rfl,rfl⟩:=h1;exact⟨⟨none,0,0⟩,[],rfl,Seq.nil _ _ _ _ _ _⟩
 ·simp[Value.cells]at h1;obtain⟨rfl,rfl,rfl⟩:=h1;simp only[if_true]at hz;refine⟨⟨some a,n,c⟩,zs.take n,rfl,aer (f:=fun x=>xl xt x) (by simp;omega) fun i q=>?_⟩;simp at q;rw[<-SI,hcell i (by omega)];simp[List.getD_eq_getElem?_getD,List.getElem?_eq_getElem (show i<zs.length by omega)]
theorem DZ{r:_root_.Go.Reach}{b:Nat}{t e:TypeId}{v:Value}(a:P.underlying t=some (.slice e))(h:Value.okWide P W r b t v):∃p n c,v=.slice p n c:=by
 simp only[Value.okWide,a,Cell.okWide]at h;cases v<;>simp_all [Cell.ok]
end
end Go.Vc
