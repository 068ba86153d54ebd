/- Part of the proofs that the laws of this seat answer true whatever the input reads, and leave it as it was; no condition. -/
import Derived.Test.YtdhamoojccmbdaaGreatDoorTabA
set_option linter.unusedVariables false
set_option linter.unusedSimpArgs false
open Go.Proofs.Tryz renaming prog -> xl
open Go.IntKind renaming bits -> qk, i64 -> xh, u32 -> xj, u64 -> xk, u8 -> xi, wrap -> qc
open Int renaming fdiv -> qT, tdiv -> wH, tmod -> zX
open Go.Value renaming agg -> xg, bool -> xf, int -> vX, slice -> vY
open Go.Instr renaming makeSlice -> qD, storeAt -> qf
open BitVec renaming ofInt -> qA
set_option maxRecDepth 1000000
namespace Go.Proofs.YtdhamoojccmbdaaGreatDoor
noncomputable section
open Go Go.Vc Go.Proofs
variable {R:Value->Heap->Prop} {h:Heap}
abbrev Jq:FuncId:=243
def Aa(a:Int)(b:Int):Prop:=
 ag xl 304 #[a] bt h fun c i=>
 (a≠0)/\
 bf (σ:=Int) (fun e d=>
 bf (σ:=Int) (fun j l=>
 R j l)
 (fun f=>
 (c≠0)/\
 Br (b<(qc xh (wH a c)))
 (((qc xh (a*b))≠0)/\
 f (qc xh (e+(qc xh (wH (qc xh (1048576*c)) (qc xh (a*b)))))) d)
 (Br (b==(qc xh (wH a c)))
 (ag xl 161 #[(vX xk (qc xk c))] bt d fun k h3=>
 (a≠0)/\
 f (qc xh (e+(qc xh (wH (qc xh ((qc xh (1048576*c))*k)) a)))) h3)
 (f e d))))
 (fun g=>
 Br (b>1)
 (((qc xh (b*(qc xh (b-1))))≠0)/\
 g (qc xh (wH 1048576 (qc xh (b*(qc xh (b-1)))))) i)
 (g (qc xh (wH 1048576 a)) i))
theorem HO(b:Int)(a:Int)(c: @Aa R h b a):ae xl 243 #[b,a] h R:=au af Tryz.func243 (al.tn (al.tn (al.tn (.two (.join [(6,ba)] [(6,7),(12,19)] .n) (.two (.join [(6,ba)] [(6,8),(19,48)] .n) .n))))) c
abbrev kV:FuncId:=244
def gG(a:Sl)(i:Int)(o:Int)(c:FuncId×Array Value×Array Value):Prop:=
 aM (σ:=Int) (fun n t q=>
 Br (n<o)
 (aM (σ:=Int) (fun b v g=>
 bf (σ:=Unit) (fun _ p=>
 ∃a9,(a.ptr=some a9/\0<=(qc xh (b-1))/\(qc xh (b-1))<(a.len:Int))/\
 ∃f:ee,aj p (a9.add ((qc xh (b-1)).toNat*8)) 0 f/\
 ∃k,(a.ptr=some k/\0<=b/\b<(a.len:Int))/\
 ∃j:ee,aj p (k.add (b.toNat*8)) 0 j/\
 ∃l,(a.ptr=some l/\0<=b/\b<(a.len:Int))/\
 ac xl (qf 134 (l.add (b.toNat*8)) f) p fun _ r=>
 (ar.ok [] r)/\
 ∃m,(a.ptr=some m/\0<=(qc xh (b-1))/\(qc xh (b-1))<(a.len:Int))/\
 ac xl (qf 134 (m.add ((qc xh (b-1)).toNat*8)) j) r fun _ s=>
 (ar.ok [] s)/\
 v (qc xh (b-1)) s)
 (fun u=>
 Br (b>i) (∃a3,(a.ptr=some a3/\0<=b/\b<(a.len:Int))/\
 ∃e:ee,aj g (a3.add (b.toNat*8)) 0 e/\
 ∃a5,(a.ptr=some a5/\0<=(qc xh (b-1))/\(qc xh (b-1))<(a.len:Int))/\
 ∃d:ee,aj g (a5.add ((qc xh (b-1)).toNat*8)) 0 d/\
 iq C c.1 (c.2.1.toList++[(xg #[e.1,e.2.1,e.2.2.1,e.2.2.2.1,e.2.2.2.2.1,e.2.2.2.2.2.1,(vX xj e.2.2.2.2.2.2.1),e.2.2.2.2.2.2.2]),(xg #[d.1,d.2.1,d.2.2.1,d.2.2.2.1,d.2.2.2.2.1,d.2.2.2.2.2.1,(vX xj d.2.2.2.2.2.2.1),d.2.2.2.2.2.2.2])]++c.2.2.toList) bt g fun w h3=>
 (ar.ok [] h3)/\
 Br (w<0)
 (u () h3)
 (t (qc xh (n+1)) h3)) ((ar.ok [] g)/\
 t (qc xh (n+1)) g))) n q)
 (R (.tuple #[]) q)) (qc xh (i+1)) h
theorem kQ(b:Sl)(c:Int)(d:Int)(a:FuncId×Array Value×Array Value)(e: @gG R h b c d a):ae xl 244 #[b,c,d,(.func (.func a.1) a.2.1 a.2.2)] h R:=au af Tryz.func244 (al.tn (.inn (.loop [(8,ba)] [(8,10),(12,53)] (al.tn (.two (.inn (al.tn (.inn (.loop [(9,ba)] [(9,10),(18,53)] (.two (.join [] [(18,35)] .n) .n))))) .n))))) e
abbrev mT:FuncId:=245
def iE(a:Sl)(d:Int)(e:Int)(f:Int)(b:FuncId×Array Value×Array Value):Prop:=
 Br ((qc xh (e-d))==1)
 (aM (σ:=Int×Int) (fun n K1 K=>
 Br (n.1<n.2)
 ((0<=(1:Int))/\
 ∃a2,(a.ptr=some a2/\0<=(qc xh (qT (qc xk (qc xh (n.1+n.2))) (2^min (1:Int).toNat (qk xk))))/\(qc xh (qT (qc xk (qc xh (n.1+n.2))) (2^min (1:Int).toNat (qk xk))))<(a.len:Int))/\
 ∃x3:ee,aj K (a2.add ((qc xh (qT (qc xk (qc xh (n.1+n.2))) (2^min (1:Int).toNat (qk xk)))).toNat*8)) 0 x3/\
 ∃a4,(a.ptr=some a4/\0<=d/\d<(a.len:Int))/\
 ∃q:ee,aj K (a4.add (d.toNat*8)) 0 q/\
 iq C b.1 (b.2.1.toList++[(xg #[x3.1,x3.2.1,x3.2.2.1,x3.2.2.2.1,x3.2.2.2.2.1,x3.2.2.2.2.2.1,(vX xj x3.2.2.2.2.2.2.1),x3.2.2.2.2.2.2.2]),(xg #[q.1,q.2.1,q.2.2.1,q.2.2.2.1,q.2.2.2.2.1,q.2.2.2.2.2.1,(vX xj q.2.2.2.2.2.2.1),q.2.2.2.2.2.2.2])]++b.2.2.toList) bt K fun r6 P=>
 (ar.ok [] P)/\
 Br (r6<0)
 (K1 (qc xh ((qc xh (qT (qc xk (qc xh (n.1+n.2))) (2^min (1:Int).toNat (qk xk))))+1),n.2) P)
 (K1 (n.1,qc xh (qT (qc xk (qc xh (n.1+n.2))) (2^min (1:Int).toNat (qk xk)))) P))
 (aM (σ:=Int) (fun o K2 h3=>
 Br (o<(qc xh (n.1-1)))
 (∃X,(a.ptr=some X/\0<=(qc xh (o+1))/\(qc xh (o+1))<(a.len:Int))/\
 ∃x9:ee,aj h3 (X.add ((qc xh (o+1)).toNat*8)) 0 x9/\
 ∃w,(a.ptr=some w/\0<=o/\o<(a.len:Int))/\
 ∃z:ee,aj h3 (w.add (o.toNat*8)) 0 z/\
 ∃F,(a.ptr=some F/\0<=o/\o<(a.len:Int))/\
 ac xl (qf 134 (F.add (o.toNat*8)) x9) h3 fun _ h4=>
 (ar.ok [] h4)/\
 ∃J,(a.ptr=some J/\0<=(qc xh (o+1))/\(qc xh (o+1))<(a.len:Int))/\
 ac xl (qf 134 (J.add ((qc xh (o+1)).toNat*8)) z) h4 fun _ h5=>
 (ar.ok [] h5)/\
 K2 (qc xh (o+1)) h5)
 (R (.tuple #[]) h3)) d K)) (e,f) h)
 (Br ((qc xh (f-e))==1)
 (aM (σ:=Int×Int) (fun g K3 L=>
 Br (g.1<g.2)
 ((0<=(1:Int))/\
 ∃H,(a.ptr=some H/\0<=e/\e<(a.len:Int))/\
 ∃j:ee,aj L (H.add (e.toNat*8)) 0 j/\
 ∃u,(a.ptr=some u/\0<=(qc xh (qT (qc xk (qc xh (g.1+g.2))) (2^min (1:Int).toNat (qk xk))))/\(qc xh (qT (qc xk (qc xh (g.1+g.2))) (2^min (1:Int).toNat (qk xk))))<(a.len:Int))/\
 ∃m:ee,aj L (u.add ((qc xh (qT (qc xk (qc xh (g.1+g.2))) (2^min (1:Int).toNat (qk xk)))).toNat*8)) 0 m/\
 iq C b.1 (b.2.1.toList++[(xg #[j.1,j.2.1,j.2.2.1,j.2.2.2.1,j.2.2.2.2.1,j.2.2.2.2.2.1,(vX xj j.2.2.2.2.2.2.1),j.2.2.2.2.2.2.2]),(xg #[m.1,m.2.1,m.2.2.1,m.2.2.2.1,m.2.2.2.2.1,m.2.2.2.2.2.1,(vX xj m.2.2.2.2.2.2.1),m.2.2.2.2.2.2.2])]++b.2.2.toList) bt L fun S M=>
 (ar.ok [] M)/\
 Br (!(decide (S<0)))
 (K3 (qc xh ((qc xh (qT (qc xk (qc xh (g.1+g.2))) (2^min (1:Int).toNat (qk xk))))+1),g.2) M)
 (K3 (g.1,qc xh (qT (qc xk (qc xh (g.1+g.2))) (2^min (1:Int).toNat (qk xk)))) M))
 (aM (σ:=Int) (fun i K4 h8=>
 Br (i>g.1)
 (∃A,(a.ptr=some A/\0<=(qc xh (i-1))/\(qc xh (i-1))<(a.len:Int))/\
 ∃E:ee,aj h8 (A.add ((qc xh (i-1)).toNat*8)) 0 E/\
 ∃x,(a.ptr=some x/\0<=i/\i<(a.len:Int))/\
 ∃I:ee,aj h8 (x.add (i.toNat*8)) 0 I/\
 ∃a25,(a.ptr=some a25/\0<=i/\i<(a.len:Int))/\
 ac xl (qf 134 (a25.add (i.toNat*8)) E) h8 fun _ Z=>
 (ar.ok [] Z)/\
 ∃D,(a.ptr=some D/\0<=(qc xh (i-1))/\(qc xh (i-1))<(a.len:Int))/\
 ac xl (qf 134 (D.add ((qc xh (i-1)).toNat*8)) I) Z fun _ B=>
 (ar.ok [] B)/\
 K4 (qc xh (i-1)) B)
 (R (.tuple #[]) h8)) e L)) (d,e) h)
 ((0<=(1:Int))/\
 bf (σ:=Int×Int) (fun G T=>
 aM (σ:=Int×Int) (fun c K6 p=>
 Br (c.1<c.2)
 ((0<=(1:Int))/\
 ∃v,(a.ptr=some v/\0<=(qc xh ((qc xh ((qc xh ((qc xh (qT (qc xk (qc xh (d+f))) (2^min (1:Int).toNat (qk xk))))+e))-1))-(qc xh (qT (qc xk (qc xh (c.1+c.2))) (2^min (1:Int).toNat (qk xk))))))/\(qc xh ((qc xh ((qc xh ((qc xh (qT (qc xk (qc xh (d+f))) (2^min (1:Int).toNat (qk xk))))+e))-1))-(qc xh (qT (qc xk (qc xh (c.1+c.2))) (2^min (1:Int).toNat (qk xk))))))<(a.len:Int))/\
 ∃l:ee,aj p (v.add ((qc xh ((qc xh ((qc xh ((qc xh (qT (qc xk (qc xh (d+f))) (2^min (1:Int).toNat (qk xk))))+e))-1))-(qc xh (qT (qc xk (qc xh (c.1+c.2))) (2^min (1:Int).toNat (qk xk)))))).toNat*8)) 0 l/\
 ∃y,(a.ptr=some y/\0<=(qc xh (qT (qc xk (qc xh (c.1+c.2))) (2^min (1:Int).toNat (qk xk))))/\(qc xh (qT (qc xk (qc xh (c.1+c.2))) (2^min (1:Int).toNat (qk xk))))<(a.len:Int))/\
 ∃k:ee,aj p (y.add ((qc xh (qT (qc xk (qc xh (c.1+c.2))) (2^min (1:Int).toNat (qk xk)))).toNat*8)) 0 k/\
 iq C b.1 (b.2.1.toList++[(xg #[l.1,l.2.1,l.2.2.1,l.2.2.2.1,l.2.2.2.2.1,l.2.2.2.2.2.1,(vX xj l.2.2.2.2.2.2.1),l.2.2.2.2.2.2.2]),(xg #[k.1,k.2.1,k.2.2.1,k.2.2.2.1,k.2.2.2.2.1,k.2.2.2.2.2.1,(vX xj k.2.2.2.2.2.2.1),k.2.2.2.2.2.2.2])]++b.2.2.toList) bt p fun Q t=>
 (ar.ok [] t)/\
 Br (!(decide (Q<0)))
 (K6 (qc xh ((qc xh (qT (qc xk (qc xh (c.1+c.2))) (2^min (1:Int).toNat (qk xk))))+1),c.2) t)
 (K6 (c.1,qc xh (qT (qc xk (qc xh (c.1+c.2))) (2^min (1:Int).toNat (qk xk)))) t))
 (bf (σ:=Unit) (fun _ r=>
 bf (σ:=Unit) (fun _ s=>
 Br (decide ((qc xh (qT (qc xk (qc xh (d+f))) (2^min (1:Int).toNat (qk xk))))<(qc xh ((qc xh ((qc xh (qT (qc xk (qc xh (d+f))) (2^min (1:Int).toNat (qk xk))))+e))-c.1)))) (Br (decide ((qc xh ((qc xh ((qc xh (qT (qc xk (qc xh (d+f))) (2^min (1:Int).toNat (qk xk))))+e))-c.1))<f))
 (ag xl 245 #[a,(qc xh (qT (qc xk (qc xh (d+f))) (2^min (1:Int).toNat (qk xk)))),(qc xh ((qc xh ((qc xh (qT (qc xk (qc xh (d+f))) (2^min (1:Int).toNat (qk xk))))+e))-c.1)),f,(.func (.func b.1) b.2.1 b.2.2)] iC s fun _ W=>
 R (.tuple #[]) W)
 (R (.tuple #[]) s)) (R (.tuple #[]) s))
 (fun O=>
 Br (d<c.1) (Br (decide (c.1<(qc xh (qT (qc xk (qc xh (d+f))) (2^min (1:Int).toNat (qk xk))))))
 (ag xl 245 #[a,d,c.1,(qc xh (qT (qc xk (qc xh (d+f))) (2^min (1:Int).toNat (qk xk)))),(.func (.func b.1) b.2.1 b.2.2)] iC r fun _ U=>
 O () U)
 (O () r)) (O () r)))
 (fun N=>
 Br (c.1<e) (Br (decide (e<(qc xh ((qc xh ((qc xh (qT (qc xk (qc xh (d+f))) (2^min (1:Int).toNat (qk xk))))+e))-c.1))))
 (ag xl 305 #[a,c.1,e,(qc xh ((qc xh ((qc xh (qT (qc xk (qc xh (d+f))) (2^min (1:Int).toNat (qk xk))))+e))-c.1)),(.func (.func b.1) b.2.1 b.2.2)] iC p fun _ V=>
 N () V)
 (N () p)) (N () p)))) (G.1,G.2) T)
 (fun Y=>
 Br (decide (e>(qc xh (qT (qc xk (qc xh (d+f))) (2^min (1:Int).toNat (qk xk))))))
 (Y (qc xh ((qc xh ((qc xh (qT (qc xk (qc xh (d+f))) (2^min (1:Int).toNat (qk xk))))+e))-f),qc xh (qT (qc xk (qc xh (d+f))) (2^min (1:Int).toNat (qk xk)))) h)
 (Y (d,e) h))))
theorem mA(b:Sl)(c:Int)(e:Int)(d:Int)(a:FuncId×Array Value×Array Value)(f: @iE R h b c e d a):ae xl 245 #[b,c,e,d,(.func (.func a.1) a.2.1 a.2.2)] h R:=au af Tryz.func245 (.two (al.tn (.two (al.tn (al.tn (.two (.inn (.loop [(10,ba),(11,ba)] [(10,13),(31,54)] .n)) (.two (al.tn (.inn (.loop [(13,ba)] [(13,14),(55,77)] .n))) .n)))) .n)) (.two (al.tn (.two (al.tn (al.tn (.two (.inn (.loop [(14,ba),(15,ba)] [(14,17),(83,107)] .n)) (.two (al.tn (.inn (.loop [(17,ba)] [(17,18),(108,129)] .n))) .n)))) .n)) (al.tn (al.tn (al.tn (.two (.join [(20,ba),(21,ba)] [(20,22),(138,147)] .n) (al.tn (.two (.inn (.loop [(20,ba),(21,ba)] [(20,22),(23,24),(149,175)] .n)) (al.tn (.two (.join [] [(178,192)] .n) (.two (.join [] [(192,206)] .n) .n))))))))))) f
abbrev Rz:FuncId:=263
def HQ(c:Sl)(b:Int)(a:Int):Prop:=
 aM (σ:=Int) (fun d i e=>
 Br (d>=(c.len:Int))
 (R (vX xh (-1:Int)) e)
 (∃g,(c.ptr=some g/\0<=d/\d<(c.len:Int))/\
 ∃x3:Sl,cellOf e (g.add (d.toNat*1))=some (x3:Value)/\
 ∃a4,(x3.ptr=some a4/\0<=a/\a<(x3.len:Int))/\
 ∃f,cellOf e (a4.add (a.toNat*1))=some (vX xi f)/\
 Br (f !=0)
 (R d e)
 (i (qc xh (d+1)) e))) b h
theorem Pa(c:Sl)(a:Int)(b:Int)(d: @HQ R h c a b):ae xl 263 #[c,a,b] h R:=au af Tryz.func263 (al.tn (.scope 0 [(7,ba)] [(6,8),(9,24)] [.n] [.n] [(1,[.n])])) d
abbrev TY:FuncId:=264
def JS(e:Option Addr)(c:Int)(a:Sl):Prop:=
 ag xl 315 #[e] mL h fun n k=>
 av xl (qD 38 (vX xh (a.len:Int)) (vX xh (a.len:Int))) aK k fun d m=>
 aM (σ:=Int) (fun b i h3=>
 Br (b<(a.len:Int))
 (∃a4,(a.ptr=some a4/\0<=b/\b<(a.len:Int))/\
 ∃f,cellOf h3 (a4.add (b.toNat*1))=some (vX xi f)/\
 ag xl 240 #[n,(vX xi c),(vX xi f)] (.one (.sc (.int .u8))) h3 fun j l=>
 ∃g,(d.ptr=some g/\0<=b/\b<(d.len:Int))/\
 ac xl (qf 5 (g.add (b.toNat*1)) (vX xi j)) l fun _ o=>
 i (qc xh (b+1)) o)
 (R d h3)) (0:Int) m
theorem RB(c:Option Addr)(a:Int)(b:Sl)(d: @JS R h c a b):ae xl 264 #[c,(vX xi a),b] h R:=au af Tryz.func264 (al.tn (al.tn (al.tn (.two (al.tn (.inn (.loop [(17,ba)] [(8,10),(17,30)] .n))) .n)))) d
abbrev MP:FuncId:=265
def Dn(c:Option Addr)(a:Int):Prop:=
 Br (a==0)
 (R (vX xi (0:Int)) h)
 (ag xl 303 #[c] mL h fun f b=>
 ∃e,(f=some e)/\
 (0<=a/\a<((256:Nat):Int))/\
 ∃x3,cellOf b ((e.add 255).add (a.toNat*1))=some (vX xh x3)/\
 ((255:Int)≠0)/\
 ∃a4,(f=some a4)/\
 (0<=(zX (qc xh (255-x3)) 255)/\(zX (qc xh (255-x3)) 255)<((255:Nat):Int))/\
 ∃d:Int,cellOf b (a4.add ((zX (qc xh (255-x3)) 255).toNat*1))=some (vX xi d)/\
 R (vX xi d) b)
theorem KM(b:Option Addr)(a:Int)(c: @Dn R h b a):ae xl 265 #[b,(vX xi a)] h R:=au af Tryz.func265 .n c
abbrev MQ:FuncId:=266
def Qi(g:Option Addr)(d:Int)(c:Sl)(a:Sl):Prop:=
 Br (d==0)
 (R (.tuple #[]) h)
 (aM (σ:=Int) (fun b l e=>
 Br (b<(c.len:Int))
 (∃i,(c.ptr=some i/\0<=b/\b<(c.len:Int))/\
 ∃x3,cellOf e (i.add (b.toNat*1))=some (vX xi x3)/\
 ∃a4,(a.ptr=some a4/\0<=b/\b<(a.len:Int))/\
 ∃f,cellOf e (a4.add (b.toNat*1))=some (vX xi f)/\
 ag xl 240 #[g,(vX xi d),(vX xi x3)] (.one (.sc (.int .u8))) e fun m k=>
 (ar.ok [(a4.add (b.toNat*1),(vX xi f))] k)/\
 ∃j,(a.ptr=some j/\0<=b/\b<(a.len:Int))/\
 ac xl (qf 5 (j.add (b.toNat*1)) (vX xi (qc xi ((qA (qk xi) f^^^(qA (qk xi) m)).toNat:Nat)))) k fun _ h3=>
 (ar.ok [] h3)/\
 l (qc xh (b+1)) h3)
 (R (.tuple #[]) e)) (0:Int) h)
theorem VY(d:Option Addr)(b:Int)(c:Sl)(a:Sl)(e: @Qi R h d b c a):ae xl 266 #[d,(vX xi b),c,a] h R:=au af Tryz.func266 (al.tn (al.tn (.inn (.loop [(14,ba)] [(8,10),(14,30)] .n)))) e
def kR(b:Sl)(a:FuncId×Array Value×Array Value):Prop:=
 aM (σ:=Int) (fun c g d=>
 Br (c<(b.len:Int))
 (∃e,(b.ptr=some e/\0<=c/\c<(b.len:Int))/\
 ∃x3,cellOf d (e.add (c.toNat*1))=some (vX xi x3)/\
 iq C a.1 (a.2.1.toList++[(vX xi x3)]++a.2.2.toList) bX d fun i f=>
 Br i
 (R c f)
 (g (qc xh (c+1)) f))
 (R (vX xh (-1:Int)) d)) (0:Int) h
theorem rg(b:Sl)(a:FuncId×Array Value×Array Value)(c: @kR R h b a):ae xl 267 #[b,(.func (.func a.1) a.2.1 a.2.2)] h R:=au af Tryz.func267 (al.tn (.two (al.tn (.inn (.loop [(8,ba)] [(4,6),(8,19)] .n))) .n)) c
abbrev FF:FuncId:=268
def HR(a:Int):Prop:=
 R (xf (a !=0)) h
theorem Pb(a:Int)(b: @HR R h a):ae xl 268 #[(vX xi a)] h R:=au af Tryz.func268 .n b
abbrev VZ:FuncId:=269
def MR(b:Int)(d:Int):Prop:=
 aM (σ:=bH) (fun a i c=>
 Br (a.2.1==0)
 (R (vX xi a.2.2) c)
 (bf (σ:=Int) (fun k f=>
 (0<=(1:Int))/\
 bf (σ:=Int) (fun j h3=>
 (0<=(1:Int))/\
 i (j,qT a.2.1 (2^min (1:Int).toNat (qk xi)),k) h3)
 (fun e=>
 Br ((qc xi ((qA (qk xi) a.1&&&(qA (qk xi) (128:Int))).toNat:Nat)) !=0)
 (e (qc xi ((qA (qk xi) (qc xi (a.1*2^min (1:Int).toNat (qk xi)))^^^(qA (qk xi) (27:Int))).toNat:Nat)) f)
 (e (qc xi (a.1*2^min (1:Int).toNat (qk xi))) f)))
 (fun g=>
 Br ((qc xi ((qA (qk xi) a.2.1&&&(qA (qk xi) (1:Int))).toNat:Nat))==1)
 (g (qc xi ((qA (qk xi) a.2.2^^^(qA (qk xi) a.1)).toNat:Nat)) c)
 (g a.2.2 c)))) (b,d,(0:Int)) h
theorem TZ(a:Int)(b:Int)(c: @MR R h a b):ae xl 269 #[(vX xi a),(vX xi b)] h R:=au af Tryz.func269 (al.tn (.scope 0 [(0,(.sc (.int .u8))),(1,(.sc (.int .u8))),(5,(.sc (.int .u8)))] [(0,2),(4,26)] [.n] [(al.tn (.two (.join [(5,(.sc (.int .u8)))] [(5,6),(10,16)] .n) (al.tn (al.tn (.two (.join [(0,(.sc (.int .u8)))] [(0,1),(21,24)] .n) .n)))))] [])) c
abbrev Wa:FuncId:=270
def MS(b:Int)(a:Int):Prop:=
 bf (σ:=Unit) (fun _ f=>
 av xl (qD 38 b b) aK f fun c e=>
 ∃a3,(c.ptr=some a3/\0<=a/\a<(c.len:Int))/\
 ac xl (qf 5 (a3.add (a.toNat*1)) (vX xi (1:Int))) e fun _ h3=>
 R c h3)
 (fun d=>
 Br (b<1) (R (vY none 0 0) h) (Br (b>64) (R (vY none 0 0) h) (Br (a<0) (R (vY none 0 0) h) (Br (a>=b)
 (R (vY none 0 0) h)
 (d () h)))))
theorem Ua(b:Int)(a:Int)(c: @MS R h b a):ae xl 270 #[b,a] h R:=au af Tryz.func270 (al.tn (.two (.join [] [(4,5),(6,21)] .n) .n)) c
abbrev MT:FuncId:=271
def Do(c:Option Addr)(a:Int):Prop:=
 ((255:Int)≠0)/\
 bf (σ:=Int) (fun b i=>
 ag xl 303 #[c] mL i fun g e=>
 ∃a3,(g=some a3)/\
 (0<=b/\b<((255:Nat):Int))/\
 ∃f,cellOf e (a3.add (b.toNat*1))=some (vX xi f)/\
 R (vX xi f) e)
 (fun d=>
 Br ((zX a 255)<0)
 (d (qc xh ((zX a 255)+255)) h)
 (d (zX a 255) h))
theorem KN(b:Option Addr)(a:Int)(c: @Do R h b a):ae xl 271 #[b,a] h R:=au af Tryz.func271 (al.tn (al.tn (.two (.join [(1,ba)] [(1,2),(7,11)] .n) .n))) c
abbrev RC:FuncId:=272
def HS(b:Nat×Nat)(d:Int):Prop:=
 ((4:Int)≠0)/\
 ((4:Int)≠0)/\
 aM (σ:=((Nat×Nat))×Int) (fun a f e=>
 Br (decide (a.2<(zX (qc xh ((zX d 4)+4)) 4)))
 (∃c:Nat×Nat,(kI xl .mul 212 (.tmp 11) (.const (.complex .f64 0 4607182418800017408)) (.complex .f64 a.1.1 a.1.2) (.complex .f64 0 4607182418800017408) (.complex .f64 c.1 c.2))/\
 f ((c.1,c.2),qc xh (a.2+1)) e)
 (R (.complex .f64 a.1.1 a.1.2) e)) ((b.1,b.2),(0:Int)) h
theorem Pc(a:Nat×Nat)(b:Int)(c: @HS R h a b):ae xl 272 #[(.complex .f64 a.1 a.2),b] h R:=au af Tryz.func272 (al.tn (.two (al.tn (.inn (.loop [(0,(.sc (.cpx .f64))),(9,ba)] [(0,1),(9,14)] .n))) .n)) c
end
end Go.Proofs.YtdhamoojccmbdaaGreatDoor
