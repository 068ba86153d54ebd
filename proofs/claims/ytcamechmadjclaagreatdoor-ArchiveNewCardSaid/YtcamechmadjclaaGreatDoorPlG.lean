/- Part of the proofs that the laws of this seat answer true whatever the input reads, and leave it as it was; no condition. -/
import Derived.Test.YtcamechmadjclaaGreatDoorPlA
import Derived.ProofKit
import Derived.Deep.Matrix
import Derived.Carry
import Derived.Lib.SmallJoins
set_option linter.unusedVariables false
set_option linter.unusedSimpArgs false
open List renaming append_nil -> qU, getD_eq_getElem?_getD -> qj, getElem?_eq_getElem -> qc, getElem?_eq_some_iff -> qn
open Nat renaming add_zero -> wm, beq -> q7, eq_of_beq_eq_true -> qD, mul_one -> za
open Go.Value renaming int -> wI
open Go.IntKind renaming i64 -> wO
open Bool renaming and_eq_true -> qB
namespace Go.Vc
open Go Go.RowKit Go.ChangeShapes Go.WideShapes Go.Joins Go.Deep
section
variable {H:Type} {enc:TypeId×Value->H} {P:Program} {W W':World}
theorem vG{w a:World}(c:bm w a)(d:ax (fun b=>b<w.heap.size) w.heap a.heap):Below w.heap.size w a:=
 ⟨c.os,c.tape,c.output,d.1,fun k e=>d.2 k e e⟩
theorem lp(j:laidOutB P=true)(i:Below W.heap.size W W'):∀{c:List TypeId} {vs:List Value} {f:List (DataW H)} {a:List MemPlace},
  (∀t∈c,P.readableRec t=true/\t<P.types.size)->DataW.TrodAll enc P W 0 (fun _=>true) true c vs f a->(∀x∈a,x.block<W.heap.size)->DataW.TrodAll enc P W' 0 (fun b=>decide (b<W.heap.size)) true c vs f a
 |[],[],[],a,_,h,_=>h
 |t::c,v::vs,d::f,a,hr,⟨p,q,h1,h2,e⟩,hlt=>by
  subst e;exact⟨p,q,Below.trod j (hr t (by simp)).1 (hr t (by simp)).2 h1 i (fun x g=>hlt x (by simp[g])),lp j i (fun u k=>hr u (by simp[k])) h2 (fun x g=>hlt x (by simp[g])),rfl⟩
 |[],_::_,_,_,_,h,_=>h.elim
 |[],[],_::_,_,_,h,_=>h.elim
 |_::_,[],_,_,_,h,_=>h.elim
 |_::_,_::_,[],_,_,h,_=>h.elim
theorem vH{f:Func}{s:ChangeSpec}{args:Array Value}{d:List (DataW H)}{a:List MemPlace}{rt:TypeId}(j:s.vars=[])(i:DataW.Whole enc P f.params.toList s.vars false W args.toList d [] a)
  (b:s.fn H (d++[])={results:=[.lit (.bool true)],args:=d}) (r:laidOutB P=true) (l:Below W.heap.size W W') (u:∀t∈f.params.toList,P.readableRec t=true/\t<P.types.size)
  (c:f.resultTypes=#[rt]) (e:P.underlying rt=some .bool):s.post enc P f false true false false W args (.bool true) W':=by
 obtain⟨p,q,o,m,k,w,v⟩:=id i;have g:=i.lt;rw[j]at m;have n:q=[]:=m;subst n;simp only[qU]at k;subst k;refine⟨d,[],a,[],a,[],i,?_,?_,?_,l.frame _,fun h=>by cases h⟩
 ·rw[b,c];exact trodAll_mk1 (shut_bool e true)
 ·rw[b];exact lp r l u o g
 ·rw[b,j];rfl
theorem sI(w:World)(a:Addr):w.cell? a=cellOf w.heap a:=rfl
theorem uO{h:Heap}{a:Addr}{v:Value}(c:cellOf h a=some v):a=⟨a.block,a.off,none⟩:=by
 obtain⟨b,o,s⟩:=a;cases s with
 |none=>rfl
 |some s=>
  unfold cellOf at c;cases hb:h[b]? with
  |none=>rw[hb]at c;cases c
  |some x=>rw[hb]at c;cases x<;>simp at c
theorem xE{α:Type}{f:α->Value}{h:Heap}{a:Addr}{len cap:Nat}{l:List α}(m:l.length=len)(g:∀i (d:i<l.length),cellOf h (a.add i)=some (f l[i])):Seq h (fun b=>b<h.size) ⟨some a,len,cap⟩ 1 (fun x=>[f x]) l:=by
 refine⟨m.symm,fun i x k=>?_⟩;obtain⟨d,e⟩:=qn.1 k;have c:=g 0 (by omega);rw[add_zero]at c;have j:=uO c;refine⟨a.block,a.off,by rw[<-j],bg c,?_,trivial⟩;have:=g i d;rw[j,add_eq]at this;rw[za,add_eq,wm,this,e]
theorem rZ{t e:TypeId}{v:Value}{d:DataW H}{u:List MemPlace}(q:P.underlying t=some (.slice e))(j:P.underlying e=some (.int .i64))(o:P.cellsOf e=1)
  (m:∃p n c,v=.slice p n c) (h:DataW.Trod enc P W 0 (fun _=>true) true t v d u):∃(s:Sl) (l:List Int),v=.slice s.ptr s.len s.cap/\Seq W.heap (fun b=>b<W.heap.size) s 1 ay l:=by
 obtain⟨g,k⟩:=h;obtain⟨p,n,c,rfl⟩:=m;rcases open_ints q j o k with⟨h1,_⟩|⟨a,len,cap,zs,h1,_,hle,_,hz,_,hcell,_⟩
 ·simp[Value.cells]at h1;obtain⟨rfl,rfl,rfl⟩:=h1;exact⟨⟨none,0,0⟩,[],rfl,Seq.nil _ _ _ _ _ _⟩
 ·simp[Value.cells]at h1;obtain⟨rfl,rfl,rfl⟩:=h1;simp only[if_true]at hz;refine⟨⟨some a,n,c⟩,zs.take n,rfl,xE (f:=fun x=>wI wO x) (by simp;omega) fun i r=>?_⟩;simp at r;rw[<-sI,hcell i (by omega)];simp[qj,qc (show i<zs.length by omega)]
theorem lq{r:_root_.Go.Reach}{a:Nat}{t e:TypeId}{v:Value}(b:P.underlying t=some (.slice e))(h:Value.okWide P W r a t v):∃p n c,v=.slice p n c:=by
 simp only[Value.okWide,b,Cell.okWide]at h;cases v<;>simp_all [Cell.ok]
def wr(P:Program)(t:TypeId):Bool:=
 match P.underlying t with
 |some (.struct ⟨[f0,f1,f2]⟩)=>oneCellFields P #[f0,f1,f2]&&q7 (P.cellsOf t) 3&&(match P.underlying f0.type with|some (.int .i64)=>true|_=>false)&&(match P.underlying f1.type with|some (.int .i64)=>true|_=>false)&&(match P.underlying f2.type with|some (.int .i64)=>true|_=>false)
 |_=>false
theorem sa{o:Option TypeDesc}(h:(match o with|some (.int .i64)=>true|_=>false)=true):o=some (.int .i64):=by
 split at h
 ·rfl
 ·cases h
theorem uP{base:Nat}{e:Nat->Bool}{held:Bool}{r:_root_.Go.Reach}{m:Nat}{t:TypeId}{v:Value}{d:DataW H}{p:List MemPlace}(f:wr P t=true)(u:Value.okWide P W r m t v)(h:DataW.Trod enc P W base e held t v d p):
  ∃y z l:Int,v=.agg #[wI wO y,wI wO z,wI wO l]:=by
 unfold wr at f;split at f
 ·rename_i F J E o;simp only[qB]at f;obtain⟨⟨⟨⟨w,A⟩,x⟩,D⟩,s⟩:=f;obtain⟨v0,L,K,M,I,G,n,rfl,_,_,B,k,q⟩:=open_agg3 o w (qD A) u h;obtain⟨a,i,_⟩:=DataW.trod_int (sa x) B;obtain⟨b,j,_⟩:=DataW.trod_int (sa D) k;obtain⟨c,g,_⟩:=DataW.trod_int (sa s) q;simp at i j g;exact⟨a,b,c,by rw[i,j,g]⟩
 ·cases f
end
end Go.Vc
