/- Part of the proofs that the laws of this seat answer true whatever the input reads, and leave it as it was; no condition. -/
import Derived.Test.YtdhamoojccmbdaaGreatDoorTabA
set_option linter.unusedVariables false
set_option linter.unusedSimpArgs false
open Go.Proofs.Tryz renaming prog -> vV
open Go.IntKind renaming bits -> qk, i64 -> vR, u32 -> vT, u64 -> vU, u8 -> vS, wrap -> qc
open Int renaming fdiv -> qS, tdiv -> wC, tmod -> zW
open Go.Value renaming agg -> vQ, bool -> vP, int -> vL, slice -> vM
open Go.Instr renaming makeSlice -> qB, storeAt -> qf
open BitVec renaming ofInt -> qA
set_option maxRecDepth 1000000
namespace Go.Proofs.YtdhamoojccmbdaaGreatDoor
noncomputable section
open Go Go.Vc Go.Proofs
variable {R:Value->Heap->Prop} {h:Heap}
abbrev Iz:FuncId:=243
def xv(b:Int)(a:Int):Prop:=
 af vV 304 #[b] bs h fun c g=>
 (b≠0)/\
 bf (σ:=Int) (fun d e=>
 bf (σ:=Int) (fun k l=>
 R k l)
 (fun f=>
 (c≠0)/\
 Br (a<(qc vR (wC b c)))
 (((qc vR (b*a))≠0)/\
 f (qc vR (d+(qc vR (wC (qc vR (1048576*c)) (qc vR (b*a)))))) e)
 (Br (a==(qc vR (wC b c)))
 (af vV 161 #[(vL vU (qc vU c))] bs e fun j h3=>
 (b≠0)/\
 f (qc vR (d+(qc vR (wC (qc vR ((qc vR (1048576*c))*j)) b)))) h3)
 (f d e))))
 (fun i=>
 Br (a>1)
 (((qc vR (a*(qc vR (a-1))))≠0)/\
 i (qc vR (wC 1048576 (qc vR (a*(qc vR (a-1)))))) g)
 (i (qc vR (wC 1048576 b)) g))
theorem GW(a:Int)(b:Int)(c: @xv R h a b):ac vV 243 #[a,b] h R:=ar ae Tryz.func243 (al.tn (al.tn (al.tn (.two (.join [(6,aY)] [(6,7),(12,19)] .n) (.two (.join [(6,aY)] [(6,8),(19,48)] .n) .n))))) c
abbrev kH:FuncId:=244
def gy(a:Sl)(m:Int)(p:Int)(c:FuncId×Array Value×Array Value):Prop:=
 aL (σ:=Int) (fun n q t=>
 Br (n<p)
 (aL (σ:=Int) (fun b u g=>
 bf (σ:=Unit) (fun _ o=>
 ∃a9,(a.ptr=some a9/\0<=(qc vR (b-1))/\(qc vR (b-1))<(a.len:Int))/\
 ∃f:ey,aj o (a9.add ((qc vR (b-1)).toNat*8)) 0 f/\
 ∃l,(a.ptr=some l/\0<=b/\b<(a.len:Int))/\
 ∃j:ey,aj o (l.add (b.toNat*8)) 0 j/\
 ∃i,(a.ptr=some i/\0<=b/\b<(a.len:Int))/\
 ag vV (qf 134 (i.add (b.toNat*8)) f) o fun _ s=>
 (aq.ok [] s)/\
 ∃k,(a.ptr=some k/\0<=(qc vR (b-1))/\(qc vR (b-1))<(a.len:Int))/\
 ag vV (qf 134 (k.add ((qc vR (b-1)).toNat*8)) j) s fun _ r=>
 (aq.ok [] r)/\
 u (qc vR (b-1)) r)
 (fun v=>
 Br (b>m) (∃a3,(a.ptr=some a3/\0<=b/\b<(a.len:Int))/\
 ∃e:ey,aj g (a3.add (b.toNat*8)) 0 e/\
 ∃a5,(a.ptr=some a5/\0<=(qc vR (b-1))/\(qc vR (b-1))<(a.len:Int))/\
 ∃d:ey,aj g (a5.add ((qc vR (b-1)).toNat*8)) 0 d/\
 ig C c.1 (c.2.1.toList++[(vQ #[e.1,e.2.1,e.2.2.1,e.2.2.2.1,e.2.2.2.2.1,e.2.2.2.2.2.1,(vL vT e.2.2.2.2.2.2.1),e.2.2.2.2.2.2.2]),(vQ #[d.1,d.2.1,d.2.2.1,d.2.2.2.1,d.2.2.2.2.1,d.2.2.2.2.2.1,(vL vT d.2.2.2.2.2.2.1),d.2.2.2.2.2.2.2])]++c.2.2.toList) bs g fun w h3=>
 (aq.ok [] h3)/\
 Br (w<0)
 (v () h3)
 (q (qc vR (n+1)) h3)) ((aq.ok [] g)/\
 q (qc vR (n+1)) g))) n t)
 (R (.tuple #[]) t)) (qc vR (m+1)) h
theorem kz(b:Sl)(c:Int)(d:Int)(a:FuncId×Array Value×Array Value)(e: @gy R h b c d a):ac vV 244 #[b,c,d,(.func (.func a.1) a.2.1 a.2.2)] h R:=ar ae Tryz.func244 (al.tn (.inn (.loop [(8,aY)] [(8,10),(12,53)] (al.tn (.two (.inn (al.tn (.inn (.loop [(9,aY)] [(9,10),(18,53)] (.two (.join [] [(18,35)] .n) .n))))) .n))))) e
abbrev mC:FuncId:=245
def iw(a:Sl)(d:Int)(e:Int)(f:Int)(b:FuncId×Array Value×Array Value):Prop:=
 Br ((qc vR (e-d))==1)
 (aL (σ:=Int×Int) (fun n X L=>
 Br (n.1<n.2)
 ((0<=(1:Int))/\
 ∃a2,(a.ptr=some a2/\0<=(qc vR (qS (qc vU (qc vR (n.1+n.2))) (2^min (1:Int).toNat (qk vU))))/\(qc vR (qS (qc vU (qc vR (n.1+n.2))) (2^min (1:Int).toNat (qk vU))))<(a.len:Int))/\
 ∃x3:ey,aj L (a2.add ((qc vR (qS (qc vU (qc vR (n.1+n.2))) (2^min (1:Int).toNat (qk vU)))).toNat*8)) 0 x3/\
 ∃a4,(a.ptr=some a4/\0<=d/\d<(a.len:Int))/\
 ∃q:ey,aj L (a4.add (d.toNat*8)) 0 q/\
 ig C b.1 (b.2.1.toList++[(vQ #[x3.1,x3.2.1,x3.2.2.1,x3.2.2.2.1,x3.2.2.2.2.1,x3.2.2.2.2.2.1,(vL vT x3.2.2.2.2.2.2.1),x3.2.2.2.2.2.2.2]),(vQ #[q.1,q.2.1,q.2.2.1,q.2.2.2.1,q.2.2.2.2.1,q.2.2.2.2.2.1,(vL vT q.2.2.2.2.2.2.1),q.2.2.2.2.2.2.2])]++b.2.2.toList) bs L fun r6 Q=>
 (aq.ok [] Q)/\
 Br (r6<0)
 (X (qc vR ((qc vR (qS (qc vU (qc vR (n.1+n.2))) (2^min (1:Int).toNat (qk vU))))+1),n.2) Q)
 (X (n.1,qc vR (qS (qc vU (qc vR (n.1+n.2))) (2^min (1:Int).toNat (qk vU)))) Q))
 (aL (σ:=Int) (fun o K2 h3=>
 Br (o<(qc vR (n.1-1)))
 (∃a8,(a.ptr=some a8/\0<=(qc vR (o+1))/\(qc vR (o+1))<(a.len:Int))/\
 ∃Y:ey,aj h3 (a8.add ((qc vR (o+1)).toNat*8)) 0 Y/\
 ∃v,(a.ptr=some v/\0<=o/\o<(a.len:Int))/\
 ∃x:ey,aj h3 (v.add (o.toNat*8)) 0 x/\
 ∃y,(a.ptr=some y/\0<=o/\o<(a.len:Int))/\
 ag vV (qf 134 (y.add (o.toNat*8)) Y) h3 fun _ Z=>
 (aq.ok [] Z)/\
 ∃D,(a.ptr=some D/\0<=(qc vR (o+1))/\(qc vR (o+1))<(a.len:Int))/\
 ag vV (qf 134 (D.add ((qc vR (o+1)).toNat*8)) x) Z fun _ h5=>
 (aq.ok [] h5)/\
 K2 (qc vR (o+1)) h5)
 (R (.tuple #[]) h3)) d L)) (e,f) h)
 (Br ((qc vR (f-e))==1)
 (aL (σ:=Int×Int) (fun g K3 K=>
 Br (g.1<g.2)
 ((0<=(1:Int))/\
 ∃u,(a.ptr=some u/\0<=e/\e<(a.len:Int))/\
 ∃k:ey,aj K (u.add (e.toNat*8)) 0 k/\
 ∃G,(a.ptr=some G/\0<=(qc vR (qS (qc vU (qc vR (g.1+g.2))) (2^min (1:Int).toNat (qk vU))))/\(qc vR (qS (qc vU (qc vR (g.1+g.2))) (2^min (1:Int).toNat (qk vU))))<(a.len:Int))/\
 ∃l:ey,aj K (G.add ((qc vR (qS (qc vU (qc vR (g.1+g.2))) (2^min (1:Int).toNat (qk vU)))).toNat*8)) 0 l/\
 ig C b.1 (b.2.1.toList++[(vQ #[k.1,k.2.1,k.2.2.1,k.2.2.2.1,k.2.2.2.2.1,k.2.2.2.2.2.1,(vL vT k.2.2.2.2.2.2.1),k.2.2.2.2.2.2.2]),(vQ #[l.1,l.2.1,l.2.2.1,l.2.2.2.1,l.2.2.2.2.1,l.2.2.2.2.2.1,(vL vT l.2.2.2.2.2.2.1),l.2.2.2.2.2.2.2])]++b.2.2.toList) bs K fun V P=>
 (aq.ok [] P)/\
 Br (!(decide (V<0)))
 (K3 (qc vR ((qc vR (qS (qc vU (qc vR (g.1+g.2))) (2^min (1:Int).toNat (qk vU))))+1),g.2) P)
 (K3 (g.1,qc vR (qS (qc vU (qc vR (g.1+g.2))) (2^min (1:Int).toNat (qk vU)))) P))
 (aL (σ:=Int) (fun i K4 h8=>
 Br (i>g.1)
 (∃F,(a.ptr=some F/\0<=(qc vR (i-1))/\(qc vR (i-1))<(a.len:Int))/\
 ∃H:ey,aj h8 (F.add ((qc vR (i-1)).toNat*8)) 0 H/\
 ∃B,(a.ptr=some B/\0<=i/\i<(a.len:Int))/\
 ∃I:ey,aj h8 (B.add (i.toNat*8)) 0 I/\
 ∃a25,(a.ptr=some a25/\0<=i/\i<(a.len:Int))/\
 ag vV (qf 134 (a25.add (i.toNat*8)) H) h8 fun _ h9=>
 (aq.ok [] h9)/\
 ∃A,(a.ptr=some A/\0<=(qc vR (i-1))/\(qc vR (i-1))<(a.len:Int))/\
 ag vV (qf 134 (A.add ((qc vR (i-1)).toNat*8)) I) h9 fun _ J=>
 (aq.ok [] J)/\
 K4 (qc vR (i-1)) J)
 (R (.tuple #[]) h8)) e K)) (d,e) h)
 ((0<=(1:Int))/\
 bf (σ:=Int×Int) (fun w M=>
 aL (σ:=Int×Int) (fun c K6 p=>
 Br (c.1<c.2)
 ((0<=(1:Int))/\
 ∃E,(a.ptr=some E/\0<=(qc vR ((qc vR ((qc vR ((qc vR (qS (qc vU (qc vR (d+f))) (2^min (1:Int).toNat (qk vU))))+e))-1))-(qc vR (qS (qc vU (qc vR (c.1+c.2))) (2^min (1:Int).toNat (qk vU))))))/\(qc vR ((qc vR ((qc vR ((qc vR (qS (qc vU (qc vR (d+f))) (2^min (1:Int).toNat (qk vU))))+e))-1))-(qc vR (qS (qc vU (qc vR (c.1+c.2))) (2^min (1:Int).toNat (qk vU))))))<(a.len:Int))/\
 ∃j:ey,aj p (E.add ((qc vR ((qc vR ((qc vR ((qc vR (qS (qc vU (qc vR (d+f))) (2^min (1:Int).toNat (qk vU))))+e))-1))-(qc vR (qS (qc vU (qc vR (c.1+c.2))) (2^min (1:Int).toNat (qk vU)))))).toNat*8)) 0 j/\
 ∃z,(a.ptr=some z/\0<=(qc vR (qS (qc vU (qc vR (c.1+c.2))) (2^min (1:Int).toNat (qk vU))))/\(qc vR (qS (qc vU (qc vR (c.1+c.2))) (2^min (1:Int).toNat (qk vU))))<(a.len:Int))/\
 ∃m:ey,aj p (z.add ((qc vR (qS (qc vU (qc vR (c.1+c.2))) (2^min (1:Int).toNat (qk vU)))).toNat*8)) 0 m/\
 ig C b.1 (b.2.1.toList++[(vQ #[j.1,j.2.1,j.2.2.1,j.2.2.2.1,j.2.2.2.2.1,j.2.2.2.2.2.1,(vL vT j.2.2.2.2.2.2.1),j.2.2.2.2.2.2.2]),(vQ #[m.1,m.2.1,m.2.2.1,m.2.2.2.1,m.2.2.2.2.1,m.2.2.2.2.2.1,(vL vT m.2.2.2.2.2.2.1),m.2.2.2.2.2.2.2])]++b.2.2.toList) bs p fun O t=>
 (aq.ok [] t)/\
 Br (!(decide (O<0)))
 (K6 (qc vR ((qc vR (qS (qc vU (qc vR (c.1+c.2))) (2^min (1:Int).toNat (qk vU))))+1),c.2) t)
 (K6 (c.1,qc vR (qS (qc vU (qc vR (c.1+c.2))) (2^min (1:Int).toNat (qk vU)))) t))
 (bf (σ:=Unit) (fun _ r=>
 bf (σ:=Unit) (fun _ s=>
 Br (decide ((qc vR (qS (qc vU (qc vR (d+f))) (2^min (1:Int).toNat (qk vU))))<(qc vR ((qc vR ((qc vR (qS (qc vU (qc vR (d+f))) (2^min (1:Int).toNat (qk vU))))+e))-c.1)))) (Br (decide ((qc vR ((qc vR ((qc vR (qS (qc vU (qc vR (d+f))) (2^min (1:Int).toNat (qk vU))))+e))-c.1))<f))
 (af vV 245 #[a,(qc vR (qS (qc vU (qc vR (d+f))) (2^min (1:Int).toNat (qk vU)))),(qc vR ((qc vR ((qc vR (qS (qc vU (qc vR (d+f))) (2^min (1:Int).toNat (qk vU))))+e))-c.1)),f,(.func (.func b.1) b.2.1 b.2.2)] iu s fun _ N=>
 R (.tuple #[]) N)
 (R (.tuple #[]) s)) (R (.tuple #[]) s))
 (fun S=>
 Br (d<c.1) (Br (decide (c.1<(qc vR (qS (qc vU (qc vR (d+f))) (2^min (1:Int).toNat (qk vU))))))
 (af vV 245 #[a,d,c.1,(qc vR (qS (qc vU (qc vR (d+f))) (2^min (1:Int).toNat (qk vU)))),(.func (.func b.1) b.2.1 b.2.2)] iu r fun _ T=>
 S () T)
 (S () r)) (S () r)))
 (fun W=>
 Br (c.1<e) (Br (decide (e<(qc vR ((qc vR ((qc vR (qS (qc vU (qc vR (d+f))) (2^min (1:Int).toNat (qk vU))))+e))-c.1))))
 (af vV 305 #[a,c.1,e,(qc vR ((qc vR ((qc vR (qS (qc vU (qc vR (d+f))) (2^min (1:Int).toNat (qk vU))))+e))-c.1)),(.func (.func b.1) b.2.1 b.2.2)] iu p fun _ U=>
 W () U)
 (W () p)) (W () p)))) (w.1,w.2) M)
 (fun K5=>
 Br (decide (e>(qc vR (qS (qc vU (qc vR (d+f))) (2^min (1:Int).toNat (qk vU))))))
 (K5 (qc vR ((qc vR ((qc vR (qS (qc vU (qc vR (d+f))) (2^min (1:Int).toNat (qk vU))))+e))-f),qc vR (qS (qc vU (qc vR (d+f))) (2^min (1:Int).toNat (qk vU)))) h)
 (K5 (d,e) h))))
theorem lY(b:Sl)(e:Int)(c:Int)(d:Int)(a:FuncId×Array Value×Array Value)(f: @iw R h b e c d a):ac vV 245 #[b,e,c,d,(.func (.func a.1) a.2.1 a.2.2)] h R:=ar ae Tryz.func245 (.two (al.tn (.two (al.tn (al.tn (.two (.inn (.loop [(10,aY),(11,aY)] [(10,13),(31,54)] .n)) (.two (al.tn (.inn (.loop [(13,aY)] [(13,14),(55,77)] .n))) .n)))) .n)) (.two (al.tn (.two (al.tn (al.tn (.two (.inn (.loop [(14,aY),(15,aY)] [(14,17),(83,107)] .n)) (.two (al.tn (.inn (.loop [(17,aY)] [(17,18),(108,129)] .n))) .n)))) .n)) (al.tn (al.tn (al.tn (.two (.join [(20,aY),(21,aY)] [(20,22),(138,147)] .n) (al.tn (.two (.inn (.loop [(20,aY),(21,aY)] [(20,22),(23,24),(149,175)] .n)) (al.tn (.two (.join [] [(178,192)] .n) (.two (.join [] [(192,206)] .n) .n))))))))))) f
abbrev Qv:FuncId:=263
def GX(c:Sl)(b:Int)(a:Int):Prop:=
 aL (σ:=Int) (fun d i e=>
 Br (d>=(c.len:Int))
 (R (vL vR (-1:Int)) e)
 (∃g,(c.ptr=some g/\0<=d/\d<(c.len:Int))/\
 ∃x3:Sl,cellOf e (g.add (d.toNat*1))=some (x3:Value)/\
 ∃a4,(x3.ptr=some a4/\0<=a/\a<(x3.len:Int))/\
 ∃f,cellOf e (a4.add (a.toNat*1))=some (vL vS f)/\
 Br (f !=0)
 (R d e)
 (i (qc vR (d+1)) e))) b h
theorem NX(c:Sl)(a:Int)(b:Int)(d: @GX R h c a b):ac vV 263 #[c,a,b] h R:=ar ae Tryz.func263 (al.tn (.scope 0 [(7,aY)] [(6,8),(9,24)] [.n] [.n] [(1,[.n])])) d
abbrev SQ:FuncId:=264
def Jb(d:Option Addr)(e:Int)(a:Sl):Prop:=
 af vV 315 #[d] na h fun j i=>
 aw vV (qB 38 (vL vR (a.len:Int)) (vL vR (a.len:Int))) aJ i fun c k=>
 aL (σ:=Int) (fun b o h3=>
 Br (b<(a.len:Int))
 (∃a4,(a.ptr=some a4/\0<=b/\b<(a.len:Int))/\
 ∃f,cellOf h3 (a4.add (b.toNat*1))=some (vL vS f)/\
 af vV 240 #[j,(vL vS e),(vL vS f)] (.one (.sc (.int .u8))) h3 fun m l=>
 ∃g,(c.ptr=some g/\0<=b/\b<(c.len:Int))/\
 ag vV (qf 5 (g.add (b.toNat*1)) (vL vS m)) l fun _ n=>
 o (qc vR (b+1)) n)
 (R c h3)) (0:Int) k
theorem Qw(a:Option Addr)(b:Int)(c:Sl)(d: @Jb R h a b c):ac vV 264 #[a,(vL vS b),c] h R:=ar ae Tryz.func264 (al.tn (al.tn (al.tn (.two (al.tn (.inn (.loop [(17,aY)] [(8,10),(17,30)] .n))) .n)))) d
abbrev LN:FuncId:=265
def CF(c:Option Addr)(a:Int):Prop:=
 Br (a==0)
 (R (vL vS (0:Int)) h)
 (af vV 303 #[c] na h fun e b=>
 ∃f,(e=some f)/\
 (0<=a/\a<((256:Nat):Int))/\
 ∃x3,cellOf b ((f.add 255).add (a.toNat*1))=some (vL vR x3)/\
 ((255:Int)≠0)/\
 ∃a4,(e=some a4)/\
 (0<=(zW (qc vR (255-x3)) 255)/\(zW (qc vR (255-x3)) 255)<((255:Nat):Int))/\
 ∃d:Int,cellOf b (a4.add ((zW (qc vR (255-x3)) 255).toNat*1))=some (vL vS d)/\
 R (vL vS d) b)
theorem JU(b:Option Addr)(a:Int)(c: @CF R h b a):ac vV 265 #[b,(vL vS a)] h R:=ar ae Tryz.func265 .n c
abbrev LO:FuncId:=266
def Pd(g:Option Addr)(d:Int)(c:Sl)(a:Sl):Prop:=
 Br (d==0)
 (R (.tuple #[]) h)
 (aL (σ:=Int) (fun b m e=>
 Br (b<(c.len:Int))
 (∃j,(c.ptr=some j/\0<=b/\b<(c.len:Int))/\
 ∃x3,cellOf e (j.add (b.toNat*1))=some (vL vS x3)/\
 ∃a4,(a.ptr=some a4/\0<=b/\b<(a.len:Int))/\
 ∃f,cellOf e (a4.add (b.toNat*1))=some (vL vS f)/\
 af vV 240 #[g,(vL vS d),(vL vS x3)] (.one (.sc (.int .u8))) e fun l i=>
 (aq.ok [(a4.add (b.toNat*1),(vL vS f))] i)/\
 ∃k,(a.ptr=some k/\0<=b/\b<(a.len:Int))/\
 ag vV (qf 5 (k.add (b.toNat*1)) (vL vS (qc vS ((qA (qk vS) f^^^(qA (qk vS) l)).toNat:Nat)))) i fun _ h3=>
 (aq.ok [] h3)/\
 m (qc vR (b+1)) h3)
 (R (.tuple #[]) e)) (0:Int) h)
theorem Ve(b:Option Addr)(c:Int)(d:Sl)(a:Sl)(e: @Pd R h b c d a):ac vV 266 #[b,(vL vS c),d,a] h R:=ar ae Tryz.func266 (al.tn (al.tn (.inn (.loop [(14,aY)] [(8,10),(14,30)] .n)))) e
def kA(a:Sl)(b:FuncId×Array Value×Array Value):Prop:=
 aL (σ:=Int) (fun c i d=>
 Br (c<(a.len:Int))
 (∃f,(a.ptr=some f/\0<=c/\c<(a.len:Int))/\
 ∃x3,cellOf d (f.add (c.toNat*1))=some (vL vS x3)/\
 ig C b.1 (b.2.1.toList++[(vL vS x3)]++b.2.2.toList) bO d fun g e=>
 Br g
 (R c e)
 (i (qc vR (c+1)) e))
 (R (vL vR (-1:Int)) d)) (0:Int) h
theorem pH(b:Sl)(a:FuncId×Array Value×Array Value)(c: @kA R h b a):ac vV 267 #[b,(.func (.func a.1) a.2.1 a.2.2)] h R:=ar ae Tryz.func267 (al.tn (.two (al.tn (.inn (.loop [(8,aY)] [(4,6),(8,19)] .n))) .n)) c
abbrev ET:FuncId:=268
def GY(a:Int):Prop:=
 R (vP (a !=0)) h
theorem NY(a:Int)(b: @GY R h a):ac vV 268 #[(vL vS a)] h R:=ar ae Tryz.func268 .n b
abbrev Vf:FuncId:=269
def LP(b:Int)(d:Int):Prop:=
 aL (σ:=bF) (fun a k c=>
 Br (a.2.1==0)
 (R (vL vS a.2.2) c)
 (bf (σ:=Int) (fun i e=>
 (0<=(1:Int))/\
 bf (σ:=Int) (fun j h3=>
 (0<=(1:Int))/\
 k (j,qS a.2.1 (2^min (1:Int).toNat (qk vS)),i) h3)
 (fun f=>
 Br ((qc vS ((qA (qk vS) a.1&&&(qA (qk vS) (128:Int))).toNat:Nat)) !=0)
 (f (qc vS ((qA (qk vS) (qc vS (a.1*2^min (1:Int).toNat (qk vS)))^^^(qA (qk vS) (27:Int))).toNat:Nat)) e)
 (f (qc vS (a.1*2^min (1:Int).toNat (qk vS))) e)))
 (fun g=>
 Br ((qc vS ((qA (qk vS) a.2.1&&&(qA (qk vS) (1:Int))).toNat:Nat))==1)
 (g (qc vS ((qA (qk vS) a.2.2^^^(qA (qk vS) a.1)).toNat:Nat)) c)
 (g a.2.2 c)))) (b,d,(0:Int)) h
theorem SS(b:Int)(a:Int)(c: @LP R h b a):ac vV 269 #[(vL vS b),(vL vS a)] h R:=ar ae Tryz.func269 (al.tn (.scope 0 [(0,(.sc (.int .u8))),(1,(.sc (.int .u8))),(5,(.sc (.int .u8)))] [(0,2),(4,26)] [.n] [(al.tn (.two (.join [(5,(.sc (.int .u8)))] [(5,6),(10,16)] .n) (al.tn (al.tn (.two (.join [(0,(.sc (.int .u8)))] [(0,1),(21,24)] .n) .n)))))] [])) c
abbrev Vg:FuncId:=270
def LQ(b:Int)(a:Int):Prop:=
 bf (σ:=Unit) (fun _ d=>
 aw vV (qB 38 b b) aJ d fun c e=>
 ∃a3,(c.ptr=some a3/\0<=a/\a<(c.len:Int))/\
 ag vV (qf 5 (a3.add (a.toNat*1)) (vL vS (1:Int))) e fun _ h3=>
 R c h3)
 (fun f=>
 Br (b<1) (R (vM none 0 0) h) (Br (b>64) (R (vM none 0 0) h) (Br (a<0) (R (vM none 0 0) h) (Br (a>=b)
 (R (vM none 0 0) h)
 (f () h)))))
theorem SU(b:Int)(a:Int)(c: @LQ R h b a):ac vV 270 #[b,a] h R:=ar ae Tryz.func270 (al.tn (.two (.join [] [(4,5),(6,21)] .n) .n)) c
abbrev LR:FuncId:=271
def CG(c:Option Addr)(a:Int):Prop:=
 ((255:Int)≠0)/\
 bf (σ:=Int) (fun b g=>
 af vV 303 #[c] na g fun i d=>
 ∃a3,(i=some a3)/\
 (0<=b/\b<((255:Nat):Int))/\
 ∃e,cellOf d (a3.add (b.toNat*1))=some (vL vS e)/\
 R (vL vS e) d)
 (fun f=>
 Br ((zW a 255)<0)
 (f (qc vR ((zW a 255)+255)) h)
 (f (zW a 255) h))
theorem JV(a:Option Addr)(b:Int)(c: @CG R h a b):ac vV 271 #[a,b] h R:=ar ae Tryz.func271 (al.tn (al.tn (.two (.join [(1,aY)] [(1,2),(7,11)] .n) .n))) c
abbrev Qx:FuncId:=272
def GZ(b:Nat×Nat)(d:Int):Prop:=
 ((4:Int)≠0)/\
 ((4:Int)≠0)/\
 aL (σ:=((Nat×Nat))×Int) (fun a f e=>
 Br (decide (a.2<(zW (qc vR ((zW d 4)+4)) 4)))
 (∃c:Nat×Nat,(jC vV .mul 212 (.tmp 11) (.const (.complex .f64 0 4607182418800017408)) (.complex .f64 a.1.1 a.1.2) (.complex .f64 0 4607182418800017408) (.complex .f64 c.1 c.2))/\
 f ((c.1,c.2),qc vR (a.2+1)) e)
 (R (.complex .f64 a.1.1 a.1.2) e)) ((b.1,b.2),(0:Int)) h
theorem NZ(a:Nat×Nat)(b:Int)(c: @GZ R h a b):ac vV 272 #[(.complex .f64 a.1 a.2),b] h R:=ar ae Tryz.func272 (al.tn (.two (al.tn (.inn (.loop [(0,(.sc (.cpx .f64))),(9,aY)] [(0,1),(9,14)] .n))) .n)) c
end
end Go.Proofs.YtdhamoojccmbdaaGreatDoor
