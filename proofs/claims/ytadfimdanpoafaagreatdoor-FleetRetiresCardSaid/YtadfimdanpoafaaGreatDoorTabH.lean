/- Lemmas. -/
import Derived.Test.YtadfimdanpoafaaGreatDoorTabA
set_option linter.unusedVariables false
open Go.Proofs.Tryz renaming prog -> xx
open Go.Value renaming bool -> xq, int -> xl
open Go.IntKind renaming i64 -> xt, wrap -> qc
open Go.Instr renaming storeAt -> qf
set_option maxRecDepth 1000000
namespace Go.Qw
open Go Go.Vc Go.Proofs
variable {R:AX} {h:Heap}
noncomputable def nB(e:aO)(b:Sl):Prop:=
 aJ (σ:=bH) (fun a g c=>
 Br (a.2.2<(b.len:Int))
 (∃j,(b.ptr=some j/\0<=a.2.2/\a.2.2<(b.len:Int))/\
 ∃x3,cellOf c (j.add (a.2.2.toNat*1))=some (xl xt x3)/\
 ∃a4,(e=some a4)/\
 ∃d:Sl,cellOf c (a4.add 1)=some (d:Value)/\
 ∃i,(d.ptr=some i/\0<=x3/\x3<(d.len:Int))/\
 ∃f:Bool,cellOf c (i.add (x3.toNat*1))=some (xq f)/\
 Br f
 (g (x3,qc xt (a.2.1+1),qc xt (a.2.2+1)) c)
 (g (a.1,a.2.1,qc xt (a.2.2+1)) c))
 (R (.tuple #[a.1,(xq (a.2.1==1))]) c)) ((0:Int),(0:Int),(0:Int)) h
theorem xD(b:aO)(a:Sl)(c:@nB R h b a):ac xx 407 #[b,a] h R:=au ae Tryz.func407 (an.tn (an.tn (.two (an.tn (.inn (.loop [(6,aZ),(7,aZ),(12,aZ)] [(6,8),(9,10),(12,27)] .n))) .n))) c
noncomputable def iA(a:Sl)(d:Int)(c:Int)(g:Int)(f:cA):Prop:=
 aJ (σ:=Int) (fun b n e=>
 Br (b<g)
 (∃m,(a.ptr=some m/\0<=(qc xt (c+b))/\(qc xt (c+b))<(a.len:Int))/\
 ∃x3:df,aj e (m.add ((qc xt (c+b)).toNat*8)) 0 x3/\
 ∃a4,(a.ptr=some a4/\0<=(qc xt (d+b))/\(qc xt (d+b))<(a.len:Int))/\
 ∃j:df,aj e (a4.add ((qc xt (d+b)).toNat*8)) 0 j/\
 ∃i,(a.ptr=some i/\0<=(qc xt (d+b))/\(qc xt (d+b))<(a.len:Int))/\
 ag xx (qf 139 (i.add ((qc xt (d+b)).toNat*8)) x3) e fun _ k=>
 (av.ok [] k)/\
 ∃l,(a.ptr=some l/\0<=(qc xt (c+b))/\(qc xt (c+b))<(a.len:Int))/\
 ag xx (qf 139 (l.add ((qc xt (c+b)).toNat*8)) j) k fun _ h3=>
 (av.ok [] h3)/\
 n (qc xt (b+1)) h3)
 (R (.tuple #[]) e)) (0:Int) h
theorem lK(b:Sl)(d:Int)(c:Int)(e:Int)(a:cA)(f:@iA R h b d c e a):ac xx 410 #[b,d,c,e,(.func (.func a.1) a.2.1 a.2.2)] h R:=au ae Tryz.func410 (an.tn (.inn (.loop [(10,aZ)] [(10,38)] .n))) f
end Go.Qw
