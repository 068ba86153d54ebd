/- Part of the proofs that the laws of this seat answer true whatever the input reads, and leave it as it was; no condition. -/
import Derived.Test.YtdhamoojccmbdaaGreatDoorTabA
set_option linter.unusedVariables false
set_option linter.unusedSimpArgs false
open Go.Proofs.Tryz renaming prog -> vV
open Go.Value renaming agg -> vQ, bool -> vP, int -> vL, slice -> vM
open Go.Instr renaming alloc -> qJ, makeSlice -> qB, storeAt -> qf
open Go.IntKind renaming i64 -> vR, wrap -> qc
open Option renaming isNone -> zg
set_option maxRecDepth 1000000
namespace Go.Proofs.YtdhamoojccmbdaaGreatDoor
noncomputable section
open Go Go.Vc Go.Proofs
variable {R:Value->Heap->Prop} {h:Heap}
abbrev Qy:FuncId:=292
def Ha(d:Option Addr)(a:Sl):Prop:=
 af vV 192 #[a] bO h fun f e=>
 Br (!f)
 (R (vM none 0 0) e)
 (af vV 194 #[a] aJ e fun b g=>
 af vV 196 #[d] na g fun i h3=>
 af vV 193 #[b] bs h3 fun j k=>
 af vV 195 #[i,b,j] bs k fun c l=>
 (0<=c/\c<=(b.cap:Int))/\
 R (vM b.ptr c.toNat b.cap) l)
theorem Oa(b:Option Addr)(a:Sl)(c: @Ha R h b a):ac vV 292 #[b,a] h R:=ar ae Tryz.func292 .n c
abbrev Fx:FuncId:=293
def sY(i:Option Addr):Prop:=
 ∃m,(i=some m)/\
 ∃x2:Sl,cellOf h m=some (x2:Value)/\
 aL (σ:=Int) (fun e q l=>
 Br (e<(x2.len:Int))
 (∃a4,(x2.ptr=some a4/\0<=e/\e<(x2.len:Int))/\
 ∃p:Sl×Sl,aj l (a4.add (e.toNat*2)) 0 p/\
 aO vV (qJ 235 true (.tuple #[])) l fun o r=>
 ag vV (qf 235 o p) r fun _ h3=>
 ∃k:Sl,cellOf h3 o=some (k:Value)/\
 aL (σ:=Int×Int) (fun b n c=>
 Br (b.2<(k.len:Int))
 (∃a9,(k.ptr=some a9/\0<=b.2/\b.2<(k.len:Int))/\
 ∃a,cellOf c (a9.add (b.2.toNat*1))=some (vL vR a)/\
 ∃j,(i=some j)/\
 ∃d:Sl,cellOf c (j.add 1)=some (d:Value)/\
 ∃g,(d.ptr=some g/\0<=a/\a<(d.len:Int))/\
 ∃f:Bool,cellOf c (g.add (a.toNat*1))=some (vP f)/\
 Br (!f)
 (n (qc vR (b.1+1),qc vR (b.2+1)) c)
 (n (b.1,qc vR (b.2+1)) c))
 (Br (b.1==1)
 (R e c)
 (q (qc vR (e+1)) c))) ((0:Int),(0:Int)) h3)
 (R (vL vR (-1:Int)) l)) (0:Int) h
theorem DV(a:Option Addr)(b: @sY R h a):ac vV 293 #[a] h R:=ar ae Tryz.func293 (al.tn (.two (al.tn (.inn (.loop [(13,aY)] [(2,6),(7,8),(13,40)] (al.tn (al.tn (.two (.inn (al.tn (al.tn (.two (al.tn (.inn (.loop [(5,aY),(21,aY)] [(5,6),(7,8),(21,36)] .n))) .n)))) .n)))))) .n)) b
abbrev Ob:FuncId:=294
def EU(c:Int)(b:Sl):Prop:=
 bf (σ:=Unit) (fun _ m=>
 aL (σ:=Int) (fun e o g=>
 Br (e<(b.len:Int))
 (∃a3,(b.ptr=some a3/\0<=e/\e<(b.len:Int))/\
 ∃d:Sl,cellOf g (a3.add (e.toNat*1))=some (d:Value)/\
 aL (σ:=Int) (fun a l h3=>
 Br (a<(d.len:Int))
 (∃j,(d.ptr=some j/\0<=a/\a<(d.len:Int))/\
 ∃f,cellOf h3 (j.add (a.toNat*1))=some (vL vR f)/\
 Br (f<0) (R false h3) (Br (f>=c) (R false h3) (Br (a>0) (∃i,(d.ptr=some i/\0<=(qc vR (a-1))/\(qc vR (a-1))<(d.len:Int))/\
 ∃k:Int,cellOf h3 (i.add ((qc vR (a-1)).toNat*1))=some (vL vR k)/\
 Br (k>=f)
 (R false h3)
 (l (qc vR (a+1)) h3)) (l (qc vR (a+1)) h3))))
 (o (qc vR (e+1)) h3)) (0:Int) g)
 (R true g)) (0:Int) m)
 (fun n=>
 Br (c<0) (R false h) (Br (c>64)
 (R false h)
 (n () h)))
theorem LS(b:Int)(a:Sl)(c: @EU R h b a):ac vV 294 #[b,a] h R:=ar ae Tryz.func294 (al.tn (.two (.join [] [(4,5),(9,15)] .n) (.two (al.tn (.inn (.loop [(17,aY)] [(4,5),(6,9),(17,50)] (al.tn (al.tn (.two (.inn (al.tn (al.tn (.inn (.loop [(23,aY)] [(4,5),(7,9),(23,49)] .n))))) .n)))))) .n))) c
abbrev rH:FuncId:=295
def kN(a:Sl)(b:Bool):Prop:=
 af vV 324 #[a,b] bs h fun d c=>
 R (decide (d>=0)) c
theorem pW(a:Sl)(b:Bool)(c: @kN R h a b):ac vV 295 #[a,b] h R:=ar ae Tryz.func295 .n c
abbrev CH:FuncId:=296
def pI(d:Option Addr):Prop:=
 aO vV (qJ 315 true (.tuple #[])) h fun i q=>
 ∃o,(d=some o)/\
 ∃x3:Sl,cellOf q o=some (x3:Value)/\
 aL (σ:=Int) (fun c l e=>
 Br (c<(x3.len:Int))
 (∃a5,(x3.ptr=some a5/\0<=c/\c<(x3.len:Int))/\
 ∃k:Sl,cellOf e (a5.add (c.toNat*1))=some (k:Value)/\
 ∃n,(d=some n)/\
 ∃j:Sl,cellOf e (n.add 2)=some (j:Value)/\
 ∃a9,(j.ptr=some a9/\0<=c/\c<(j.len:Int))/\
 ∃f:Bool,cellOf e (a9.add (c.toNat*1))=some (vP f)/\
 Br f
 (l (qc vR (c+1)) e)
 (af vV 325 #[d,k] (.many [aY,ms]) e fun g h3=>
 Br g.2
 (ag vV (qf 315 i (vQ #[c,g.1])) h3 fun _ m=>
 ∃a:Int×Int,aj m i 0 a/\
 R (.tuple #[a,true]) m)
 (l (qc vR (c+1)) h3)))
 (ag vV (qf 315 i (vQ #[(vL vR (0:Int)),(vL vR (0:Int))])) e fun _ p=>
 ∃b:Int×Int,aj p i 0 b/\
 R (.tuple #[b,false]) p)) (0:Int) q
theorem BF(a:Option Addr)(b: @pI R h a):ac vV 296 #[a] h R:=ar ae Tryz.func296 (al.tn (.two (al.tn (.inn (.loop [(13,aY)] [(3,8),(13,36)] .n))) .n)) b
abbrev CI:FuncId:=297
def pJ(d:Option Addr):Prop:=
 ∃A,(d=some A)/\
 ∃x2:Sl,cellOf h (A.add 1)=some (x2:Value)/\
 aw vV (qB 22 (vL vR (x2.len:Int)) (vL vR (x2.len:Int))) aJ h fun v3 E=>
 ∃a4,(d=some a4)/\
 ∃z:Sl,cellOf E a4=some (z:Value)/\
 aL (σ:=Int) (fun e F w=>
 Br (e<(z.len:Int))
 (∃D,(z.ptr=some D/\0<=e/\e<(z.len:Int))/\
 ∃x:Sl,cellOf w (D.add (e.toNat*1))=some (x:Value)/\
 aL (σ:=Int) (fun i B h3=>
 Br (i<(x.len:Int))
 (∃k,(x.ptr=some k/\0<=i/\i<(x.len:Int))/\
 ∃b,cellOf h3 (k.add (i.toNat*1))=some (vL vR b)/\
 ∃m,(d=some m)/\
 ∃g:Sl,cellOf h3 (m.add 2)=some (g:Value)/\
 ∃r,(g.ptr=some r/\0<=e/\e<(g.len:Int))/\
 ∃n:Bool,cellOf h3 (r.add (e.toNat*1))=some (vP n)/\
 Br (!n)
 (∃t,(v3.ptr=some t/\0<=b/\b<(v3.len:Int))/\
 ∃l,cellOf h3 (t.add (b.toNat*1))=some (vL vR l)/\
 ∃q,(v3.ptr=some q/\0<=b/\b<(v3.len:Int))/\
 ag vV (qf 3 (q.add (b.toNat*1)) (qc vR (l+1))) h3 fun _ G=>
 B (qc vR (i+1)) G)
 (B (qc vR (i+1)) h3))
 (F (qc vR (e+1)) h3)) (0:Int) w)
 (∃o,(d=some o)/\
 ∃c:Sl,cellOf w (o.add 1)=some (c:Value)/\
 aL (σ:=Int×Int) (fun a y f=>
 Br (a.2<(c.len:Int))
 (∃a22,(c.ptr=some a22/\0<=a.2/\a.2<(c.len:Int))/\
 ∃v:Bool,cellOf f (a22.add (a.2.toNat*1))=some (vP v)/\
 Br v (Br (a.1<0) (y (a.2,qc vR (a.2+1)) f) (∃j,(v3.ptr=some j/\0<=a.2/\a.2<(v3.len:Int))/\
 ∃s,cellOf f (j.add (a.2.toNat*1))=some (vL vR s)/\
 ∃p,(v3.ptr=some p/\0<=a.1/\a.1<(v3.len:Int))/\
 ∃u,cellOf f (p.add (a.1.toNat*1))=some (vL vR u)/\
 Br (s>u)
 (y (a.2,qc vR (a.2+1)) f)
 (y (a.1,qc vR (a.2+1)) f))) (y (a.1,qc vR (a.2+1)) f))
 (R a.1 f)) ((-1:Int),(0:Int)) w)) (0:Int) E
theorem BG(a:Option Addr)(b: @pJ R h a):ac vV 297 #[a] h R:=ar ae Tryz.func297 (al.tn (al.tn (.two (al.tn (.inn (.loop [(22,aY)] [(4,6),(7,8),(22,49)] (al.tn (al.tn (.two (.inn (al.tn (al.tn (.inn (.loop [(29,aY)] [(7,8),(29,48)] .n))))) .n)))))) (al.tn (.two (al.tn (.inn (.loop [(8,aY),(54,aY)] [(8,11),(54,77)] .n))) .n))))) b
abbrev lZ:FuncId:=298
def im(a:Sl)(b:FuncId×Array Value×Array Value):Prop:=
 aL (σ:=Int) (fun c i d=>
 Br (c<(a.len:Int))
 (∃f,(a.ptr=some f/\0<=c/\c<(a.len:Int))/\
 ∃x3:Int×Int,aj d (f.add (c.toNat*2)) 0 x3/\
 ig C b.1 (b.2.1.toList++[(vQ #[x3.1,x3.2])]++b.2.2.toList) bO d fun g e=>
 Br g
 (R c e)
 (i (qc vR (c+1)) e))
 (R (vL vR (-1:Int)) d)) (0:Int) h
theorem lM(b:Sl)(a:FuncId×Array Value×Array Value)(c: @im R h b a):ac vV 298 #[b,(.func (.func a.1) a.2.1 a.2.2)] h R:=ar ae Tryz.func298 (al.tn (.two (al.tn (.inn (.loop [(8,aY)] [(4,6),(8,19)] .n))) .n)) c
abbrev LU:FuncId:=303
def CJ(a:Option Addr):Prop:=
 Br (zg a)
 (af vV 148 #[] na h fun c b=>
 R c b)
 (R a h)
theorem JW(a:Option Addr)(b: @CJ R h a):ac vV 303 #[a] h R:=ar ae Tryz.func303 .n b
abbrev LV:FuncId:=304
def CK(b:Int):Prop:=
 aL (σ:=Int) (fun a d c=>
 Br ((qc vR (a*a))<b)
 (d (qc vR (a+1)) c)
 (R a c)) (0:Int) h
theorem JX(a:Int)(b: @CK R h a):ac vV 304 #[a] h R:=ar ae Tryz.func304 (al.tn (al.tn (.two (.inn (.loop [(3,aY)] [(3,11)] .n)) .n))) b
abbrev nv:FuncId:=305
def iX(b:Sl)(g:Int)(d:Int)(f:Int)(a:FuncId×Array Value×Array Value):Prop:=
 aL (σ:=Int×Int) (fun c i e=>
 Br (c.1 !=c.2)
 (Br (c.1>c.2)
 (af vV 328 #[b,(qc vR (d-c.1)),d,c.2,(.func (.func a.1) a.2.1 a.2.2)] iu e fun _ j=>
 i (qc vR (c.1-c.2),c.2) j)
 (af vV 328 #[b,(qc vR (d-c.1)),(qc vR ((qc vR (d+c.2))-c.1)),c.1,(.func (.func a.1) a.2.1 a.2.2)] iu e fun _ h3=>
 i (c.1,qc vR (c.2-c.1)) h3))
 (af vV 328 #[b,(qc vR (d-c.1)),d,c.1,(.func (.func a.1) a.2.1 a.2.2)] iu e fun _ k=>
 R (.tuple #[]) k)) (qc vR (d-g),qc vR (f-d)) h
theorem mT(b:Sl)(e:Int)(c:Int)(d:Int)(a:FuncId×Array Value×Array Value)(f: @iX R h b e c d a):ac vV 305 #[b,e,c,d,(.func (.func a.1) a.2.1 a.2.2)] h R:=ar ae Tryz.func305 (al.tn (al.tn (.two (.inn (.loop [(10,aY),(11,aY)] [(10,12),(18,50)] .n)) .n))) f
abbrev Vh:FuncId:=315
def LW(a:Option Addr):Prop:=
 Br (zg a)
 (af vV 148 #[] na h fun c b=>
 R c b)
 (R a h)
theorem SV(a:Option Addr)(b: @LW R h a):ac vV 315 #[a] h R:=ar ae Tryz.func315 .n b
abbrev uw:FuncId:=324
def mD(a:Sl)(d:Bool):Prop:=
 aL (σ:=Int) (fun b f c=>
 Br (b<(a.len:Int))
 (∃e,(a.ptr=some e/\0<=b/\b<(a.len:Int))/\
 ∃x3:Bool,cellOf c (e.add (b.toNat*1))=some (vP x3)/\
 Br (d==x3)
 (R b c)
 (f (qc vR (b+1)) c))
 (R (vL vR (-1:Int)) c)) (0:Int) h
theorem tH(a:Sl)(b:Bool)(c: @mD R h a b):ac vV 324 #[a,b] h R:=ar ae Tryz.func324 (al.tn (.two (al.tn (.inn (.loop [(8,aY)] [(4,6),(8,19)] .n))) .n)) c
abbrev Ae:FuncId:=325
def nP(e:Option Addr)(b:Sl):Prop:=
 aL (σ:=bF) (fun a j c=>
 Br (a.2.2<(b.len:Int))
 (∃i,(b.ptr=some i/\0<=a.2.2/\a.2.2<(b.len:Int))/\
 ∃x3,cellOf c (i.add (a.2.2.toNat*1))=some (vL vR x3)/\
 ∃a4,(e=some a4)/\
 ∃d:Sl,cellOf c (a4.add 1)=some (d:Value)/\
 ∃g,(d.ptr=some g/\0<=x3/\x3<(d.len:Int))/\
 ∃f:Bool,cellOf c (g.add (x3.toNat*1))=some (vP f)/\
 Br f
 (j (x3,qc vR (a.2.1+1),qc vR (a.2.2+1)) c)
 (j (a.1,a.2.1,qc vR (a.2.2+1)) c))
 (R (.tuple #[a.1,(vP (a.2.1==1))]) c)) ((0:Int),(0:Int),(0:Int)) h
theorem xw(b:Option Addr)(a:Sl)(c: @nP R h b a):ac vV 325 #[b,a] h R:=ar ae Tryz.func325 (al.tn (al.tn (.two (al.tn (.inn (.loop [(6,aY),(7,aY),(12,aY)] [(6,8),(9,10),(12,27)] .n))) .n))) c
abbrev ma:FuncId:=328
def io(a:Sl)(c:Int)(d:Int)(f:Int)(g:FuncId×Array Value×Array Value):Prop:=
 aL (σ:=Int) (fun b n e=>
 Br (b<f)
 (∃l,(a.ptr=some l/\0<=(qc vR (d+b))/\(qc vR (d+b))<(a.len:Int))/\
 ∃x3:ey,aj e (l.add ((qc vR (d+b)).toNat*8)) 0 x3/\
 ∃a4,(a.ptr=some a4/\0<=(qc vR (c+b))/\(qc vR (c+b))<(a.len:Int))/\
 ∃i:ey,aj e (a4.add ((qc vR (c+b)).toNat*8)) 0 i/\
 ∃k,(a.ptr=some k/\0<=(qc vR (c+b))/\(qc vR (c+b))<(a.len:Int))/\
 ag vV (qf 134 (k.add ((qc vR (c+b)).toNat*8)) x3) e fun _ j=>
 (aq.ok [] j)/\
 ∃m,(a.ptr=some m/\0<=(qc vR (d+b))/\(qc vR (d+b))<(a.len:Int))/\
 ag vV (qf 134 (m.add ((qc vR (d+b)).toNat*8)) i) j fun _ h3=>
 (aq.ok [] h3)/\
 n (qc vR (b+1)) h3)
 (R (.tuple #[]) e)) (0:Int) h
theorem lN(b:Sl)(d:Int)(e:Int)(c:Int)(a:FuncId×Array Value×Array Value)(f: @io R h b d e c a):ac vV 328 #[b,d,e,c,(.func (.func a.1) a.2.1 a.2.2)] h R:=ar ae Tryz.func328 (al.tn (.inn (.loop [(10,aY)] [(10,38)] .n))) f
end
end Go.Proofs.YtdhamoojccmbdaaGreatDoor
