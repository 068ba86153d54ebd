/- Lemmas for the proof of the law; no condition. -/
import Derived.Test.YtcaonbjibhlkcaaGreatDoorPlA
import Derived.ProofKit
import Derived.Deep.Matrix
import Derived.Carry
import Derived.Lib.SmallJoins
set_option linter.unusedVariables false
set_option linter.unusedSimpArgs false
namespace Go.Vc
open Go Go.RowKit Go.ChangeShapes Go.WideShapes Go.Joins Go.Deep
section
variable {H:Type} {enc:TypeId×Value->H} {P:Program} {W W':World}
theorem aaO{w c:World}(a:cM w c)(e:aR (fun b=>b<w.heap.size) w.heap c.heap):Below w.heap.size w c:=
 ⟨a.os,a.tape,a.output,e.1,fun k d=>e.2 k d d⟩
theorem DP(g:laidOutB P=true)(i:Below W.heap.size W W'):∀{c:List TypeId} {vs:aV} {ds:List (DataW H)} {a:List MemPlace},
  (∀t∈c,P.readableRec t=true/\t<P.types.size)->DataW.TrodAll enc P W 0 (fun _=>true) true c vs ds a->(∀x∈a,x.block<W.heap.size)->DataW.TrodAll enc P W' 0 (fun b=>decide (b<W.heap.size)) true c vs ds a
 |[],[],[],a,_,h,_=>h
 |t::c,v::vs,d::ds,a,hr,⟨p,q,h1,h2,e⟩,hlt=>by
  subst e;exact⟨p,q,Below.trod g (hr t (by simp)).1 (hr t (by simp)).2 h1 i (fun x f=>hlt x (by simp[f])),DP g i (fun u j=>hr u (by simp[j])) h2 (fun x f=>hlt x (by simp[f])),rfl⟩
 |[],_::_,_,_,_,h,_=>h.elim
 |[],[],_::_,_,_,h,_=>h.elim
 |_::_,[],_,_,_,h,_=>h.elim
 |_::_,_::_,[],_,_,h,_=>h.elim
theorem aaP{f:Func}{s:ChangeSpec}{args:Array Value}{ds:List (DataW H)}{a:List MemPlace}{rt:TypeId}(j:s.vars=[])(d:DataW.Whole enc P f.params.toList s.vars false W args.toList ds [] a)
  (b:s.fn H (ds++[])={results:=[.lit (.bool true)],args:=ds}) (l:laidOutB P=true) (i:Below W.heap.size W W') (o:∀t∈f.params.toList,P.readableRec t=true/\t<P.types.size)
  (c:f.resultTypes=#[rt]) (g:P.underlying rt=some .bool):s.post enc P f false true false false W args (.bool true) W':=by
 obtain⟨p,q,n,k,h3,u,r⟩:=id d;have e:=d.lt;rw[j]at k;have m:q=[]:=k;subst m;simp only[List.append_nil]at h3;subst h3;refine⟨ds,[],a,[],a,[],d,?_,?_,?_,i.frame _,fun h=>by cases h⟩
 ·rw[b,c];exact trodAll_mk1 (shut_bool g true)
 ·rw[b];exact DP l i o n e
 ·rw[b,j];rfl
theorem SN(w:World)(a:Addr):w.cell? a=cellOf w.heap a:=rfl
theorem Yk{h:Heap}{a:Addr}{v:Value}(c:cellOf h a=some v):a=⟨a.block,a.off,none⟩:=by
 obtain⟨b,o,s⟩:=a;cases s with
 |none=>rfl
 |some s=>
  unfold cellOf at c;cases hb:h[b]? with
  |none=>rw[hb]at c;cases c
  |some x=>rw[hb]at c;cases x<;>simp at c
theorem aew{α:Type}{f:α->Value}{h:Heap}{a:Addr}{len cap:Nat}{l:List α}(m:l.length=len)(d:∀i (j:i<l.length),cellOf h (a.add i)=some (f l[i])):Seq h (fun b=>b<h.size) ⟨some a,len,cap⟩ 1 (fun x=>[f x]) l:=by
 refine⟨m.symm,fun i x k=>?_⟩;obtain⟨j,e⟩:=List.getElem?_eq_some_iff.1 k;have c:=d 0 (by omega);rw[add_zero]at c;have g:=Yk c;refine⟨a.block,a.off,by rw[<-g],tw c,?_,trivial⟩;have:=d i j;rw[g,add_eq]at this;rw[Nat.mul_one,add_eq,Nat.add_zero,this,e]
theorem Oj{r:_root_.Go.Reach}{b:Nat}{t e:TypeId}{v:Value}(a:P.underlying t=some (.slice e))(h:Value.okWide P W r b t v):∃p n c,v=.slice p n c:=by
 simp only[Value.okWide,a,Cell.okWide]at h;cases v<;>simp_all [Cell.ok]
theorem SO{w:World}{base:Nat}{a:Nat->Bool}{held:Bool}{t0 E G t3 t4 t5:TypeId}{args:Array Value}{ds:List (DataW H)}{K:List MemPlace}(h:DataW.TrodAll enc P w base a held [t0,E,G,t3,t4,t5] args.toList ds K):
  ∃v0 I r v3 v4 v5 J F j n o l L D m s k t,args=#[v0,I,r,v3,v4,v5]/\ds=[J,F,j,n,o,l]/\K=L++D++m++s++k++t/\DataW.Trod enc P w base a held t0 v0 J L/\DataW.Trod enc P w base a held E I F D/\DataW.Trod enc P w base a held G r j m/\DataW.Trod enc P w base a held t3 v3 n s/\DataW.Trod enc P w base a held t4 v4 o k/\DataW.Trod enc P w base a held t5 v5 l t:=by
 obtain⟨v,vs,d,V,p,q,z,rfl,rfl,hd,i⟩:=trodAll_cons h;obtain⟨W,ad,Q,M,O,q',rfl,rfl,rfl,u,b⟩:=trodAll_cons i;obtain⟨r,U,j,R,m,q2,rfl,rfl,rfl,B,e⟩:=trodAll_cons b;obtain⟨v3,T,n,Y,s,q3,rfl,rfl,rfl,y,g⟩:=trodAll_cons e;obtain⟨v4,S,o,Z,k,q4,rfl,rfl,rfl,x,f⟩:=trodAll_cons g;obtain⟨v5,N,l,X,t,q5,rfl,rfl,rfl,A,c⟩:=trodAll_cons f;obtain⟨rfl,rfl,rfl⟩:=trodAll_nil c;exact⟨v,W,r,v3,v4,v5,d,Q,j,n,o,l,p,O,m,s,k,t,by cases args;simp_all,rfl,by simp,hd,u,B,y,x,A⟩
end
end Go.Vc
