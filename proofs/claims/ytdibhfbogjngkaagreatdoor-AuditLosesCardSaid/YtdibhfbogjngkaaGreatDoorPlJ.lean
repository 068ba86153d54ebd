/- Lemmas for the proof of the law; no condition. -/
import Derived.Test.YtdibhfbogjngkaaGreatDoorPlA
import Derived.ProofKit
import Derived.Deep.Matrix
import Derived.Carry
import Derived.Lib.SmallJoins
set_option linter.unusedVariables false
set_option linter.unusedSimpArgs false
open Go.Value renaming int -> xH
open Go.IntKind renaming i64 -> xN
namespace Go.Vc
open Go Go.RowKit Go.ChangeShapes Go.WideShapes Go.Joins Go.Deep
section
variable {H:Type} {enc:TypeId×Value->H} {P:Program} {W W':World}
theorem adi{w a:World}(c:cY w a)(d:aV (λb=>b<w.heap.size) w.heap a.heap):Below w.heap.size w a:=
 ⟨c.os,c.tape,c.output,d.1,λk e=>d.2 k e e⟩
theorem Fk(i:laidOutB P=true)(g:Below W.heap.size W W'):∀{c:List TypeId} {vs:be} {ds:List (DataW H)} {a:List MemPlace},
  (∀t∈c,P.readableRec t=true/\t<P.types.size)->DataW.TrodAll enc P W 0 (λ_=>true) true c vs ds a->(∀x∈a,x.block<W.heap.size)->DataW.TrodAll enc P W' 0 (λb=>decide (b<W.heap.size)) true c vs ds a
 |[],[],[],a,_,h,_=>h
 |t::c,v::vs,d::ds,a,hr,⟨p,q,h1,h2,e⟩,hlt=>by
  subst e;exact⟨p,q,Below.trod i (hr t i9).1 (hr t i9).2 h1 g λx f=>hlt x nq,Fk i g (λu j=>hr u (by simp[j])) h2 λx f=>hlt x nq,i0⟩
 |[],_::_,_,_,_,h,_=>h.elim
 |[],[],_::_,_,_,h,_=>h.elim
 |_::_,[],_,_,_,h,_=>h.elim
 |_::_,_::_,[],_,_,h,_=>h.elim
theorem adj{f:Func}{s:ChangeSpec}{args:Array Value}{ds:List (DataW H)}{a:List MemPlace}{rt:TypeId}(k:s.vars=[])(d:DataW.Whole enc P f.params.toList s.vars false W args.toList ds [] a)
  (b:s.fn H (ds++[])={results:=[.lit (.bool true)],args:=ds}) (l:laidOutB P=true) (j:Below W.heap.size W W') (m:∀t∈f.params.toList,P.readableRec t=true/\t<P.types.size)
  (c:f.resultTypes=#[rt]) (e:P.underlying rt=some .bool):s.post enc P f false true false false W args (.bool true) W':=by
 obtain⟨p,q,n,i,h3,r,u⟩:=id d;have g:=d.lt;rw[k]at i;have o:q=[]:=i;subst o;simp only[List.append_nil]at h3;subst h3;refine⟨ds,[],a,[],a,[],d,?_,?_,?_,j.frame _,λh=>j6⟩
 ·rw[b,c];exact trodAll_mk1 (shut_bool e true)
 ·rw[b];exact Fk l j m n g
 ·rw[b,k];rfl
theorem Vv(w:World)(a:Addr):w.cell? a=cellOf w.heap a:=rfl
theorem aaB{h:Heap}{a:Addr}{v:Value}(c:cellOf h a=some v):a=⟨a.block,a.off,none⟩:=by
 obtain⟨b,o,s⟩:=a;cases s with
 |none=>rfl
 |some s=>
  unfold cellOf at c;cases hb:h[b]? with
  |none=>rw[hb]at c;cases c
  |some x=>rw[hb]at c;cases x<;>simp at c
theorem ahf{α:Type}{f:α->Value}{h:Heap}{a:Addr}{len cap:Nat}{l:List α}(m:l.length=len)(g:∀i (d:i<l.length),cellOf h (a.add i)=some (f l[i])):Seq h (λb=>b<h.size) ⟨some a,len,cap⟩ 1 (λx=>[f x]) l:=by refine⟨m.symm,λi x k=>?_⟩;obtain⟨d,e⟩:=List.getElem?_eq_some_iff.1 k;have c:=g 0 i4;rw[add_zero]at c;have j:=aaB c;refine⟨a.block,a.off,by rw[<-j],uC c,?_,trivial⟩;have:=g i d;rw[j,add_eq]at this;rw[Nat.mul_one,add_eq,Nat.add_zero,this,e]
theorem Tk{t e:TypeId}{v:Value}{d:DataW H}{k:List MemPlace}(q:P.underlying t=some (.slice e))(u:P.underlying e=some (.int .i64))(o:P.cellsOf e=1)
  (m:∃p n c,v=.slice p n c) (h:DataW.Trod enc P W 0 (λ_=>true) true t v d k):∃(s:Sl) (l:aF),v=.slice s.ptr s.len s.cap/\Seq W.heap (λb=>b<W.heap.size) s 1 aC l:=by
 obtain⟨g,j⟩:=h;obtain⟨p,n,c,rfl⟩:=m;rcases open_ints q u o j with⟨h1,_⟩|⟨a,len,cap,zs,h1,_,hle,_,hz,_,hcell,_⟩
 ·simp[Value.cells]at h1;obtain⟨rfl,rfl,rfl⟩:=h1;exact⟨⟨none,0,0⟩,[],i0,Seq.nil _ _ _ _ _ _⟩
 ·simp[Value.cells]at h1;obtain⟨rfl,rfl,rfl⟩:=h1;simp only[if_true]at hz;refine⟨⟨some a,n,c⟩,zs.take n,i0,ahf (f:=λx=>xH xN x) i7 λi r=>?_⟩;simp at r;rw[<-Vv,hcell i i4];simp[List.getD_eq_getElem?_getD,List.getElem?_eq_getElem (show i<zs.length by omega)]
theorem Fl{r:_root_.Go.Reach}{a:Nat}{t e:TypeId}{v:Value}(b:P.underlying t=some (.slice e))(h:Value.okWide P W r a t v):∃p n c,v=.slice p n c:=by simp only[Value.okWide,b,Cell.okWide]at h;cases v<;>simp_all [Cell.ok]
end
end Go.Vc
