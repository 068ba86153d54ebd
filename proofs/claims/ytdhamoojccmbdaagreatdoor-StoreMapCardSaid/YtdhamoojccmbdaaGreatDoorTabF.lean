/- Part of the proofs that the laws of this seat answer true whatever the input reads, and leave it as it was; no condition. -/
import Derived.Test.YtdhamoojccmbdaaGreatDoorTabA
set_option linter.unusedVariables false
set_option linter.unusedSimpArgs false
open Go.Proofs.Tryz renaming prog -> xl
open Go.Value renaming agg -> xg, bool -> xf, int -> vX, slice -> vY
open Go.Instr renaming alloc -> qK, makeSlice -> qD, storeAt -> qf
open Go.IntKind renaming i64 -> xh, wrap -> qc
open Option renaming isNone -> zi
set_option maxRecDepth 1000000
namespace Go.Proofs.YtdhamoojccmbdaaGreatDoor
noncomputable section
open Go Go.Vc Go.Proofs
variable {R:Value->Heap->Prop} {h:Heap}
abbrev RD:FuncId:=292
def HT(d:Option Addr)(b:Sl):Prop:=
 ag xl 192 #[b] bX h fun k e=>
 Br (!k)
 (R (vY none 0 0) e)
 (ag xl 194 #[b] aK e fun a j=>
 ag xl 196 #[d] mL j fun f h3=>
 ag xl 193 #[a] bt h3 fun g i=>
 ag xl 195 #[f,a,g] bt i fun c l=>
 (0<=c/\c<=(a.cap:Int))/\
 R (vY a.ptr c.toNat a.cap) l)
theorem Pd(b:Option Addr)(a:Sl)(c: @HT R h b a):ae xl 292 #[b,a] h R:=au af Tryz.func292 .n c
abbrev Gh:FuncId:=293
def tH(i:Option Addr):Prop:=
 ∃p,(i=some p)/\
 ∃x2:Sl,cellOf h p=some (x2:Value)/\
 aM (σ:=Int) (fun e r l=>
 Br (e<(x2.len:Int))
 (∃a4,(x2.ptr=some a4/\0<=e/\e<(x2.len:Int))/\
 ∃n:Sl×Sl,aj l (a4.add (e.toNat*2)) 0 n/\
 aQ xl (qK 235 true (.tuple #[])) l fun m q=>
 ac xl (qf 235 m n) q fun _ h3=>
 ∃k:Sl,cellOf h3 m=some (k:Value)/\
 aM (σ:=Int×Int) (fun b o d=>
 Br (b.2<(k.len:Int))
 (∃a9,(k.ptr=some a9/\0<=b.2/\b.2<(k.len:Int))/\
 ∃a,cellOf d (a9.add (b.2.toNat*1))=some (vX xh a)/\
 ∃f,(i=some f)/\
 ∃c:Sl,cellOf d (f.add 1)=some (c:Value)/\
 ∃j,(c.ptr=some j/\0<=a/\a<(c.len:Int))/\
 ∃g:Bool,cellOf d (j.add (a.toNat*1))=some (xf g)/\
 Br (!g)
 (o (qc xh (b.1+1),qc xh (b.2+1)) d)
 (o (b.1,qc xh (b.2+1)) d))
 (Br (b.1==1)
 (R e d)
 (r (qc xh (e+1)) d))) ((0:Int),(0:Int)) h3)
 (R (vX xh (-1:Int)) l)) (0:Int) h
theorem EE(a:Option Addr)(b: @tH R h a):ae xl 293 #[a] h R:=au af Tryz.func293 (al.tn (.two (al.tn (.inn (.loop [(13,ba)] [(2,6),(7,8),(13,40)] (al.tn (al.tn (.two (.inn (al.tn (al.tn (.two (al.tn (.inn (.loop [(5,ba),(21,ba)] [(5,6),(7,8),(21,36)] .n))) .n)))) .n)))))) .n)) b
abbrev Pe:FuncId:=294
def FG(b:Int)(c:Sl):Prop:=
 bf (σ:=Unit) (fun _ n=>
 aM (σ:=Int) (fun e o g=>
 Br (e<(c.len:Int))
 (∃a3,(c.ptr=some a3/\0<=e/\e<(c.len:Int))/\
 ∃d:Sl,cellOf g (a3.add (e.toNat*1))=some (d:Value)/\
 aM (σ:=Int) (fun a k h3=>
 Br (a<(d.len:Int))
 (∃i,(d.ptr=some i/\0<=a/\a<(d.len:Int))/\
 ∃f,cellOf h3 (i.add (a.toNat*1))=some (vX xh f)/\
 Br (f<0) (R false h3) (Br (f>=b) (R false h3) (Br (a>0) (∃j,(d.ptr=some j/\0<=(qc xh (a-1))/\(qc xh (a-1))<(d.len:Int))/\
 ∃l:Int,cellOf h3 (j.add ((qc xh (a-1)).toNat*1))=some (vX xh l)/\
 Br (l>=f)
 (R false h3)
 (k (qc xh (a+1)) h3)) (k (qc xh (a+1)) h3))))
 (o (qc xh (e+1)) h3)) (0:Int) g)
 (R true g)) (0:Int) n)
 (fun m=>
 Br (b<0) (R false h) (Br (b>64)
 (R false h)
 (m () h)))
theorem MU(a:Int)(b:Sl)(c: @FG R h a b):ae xl 294 #[a,b] h R:=au af Tryz.func294 (al.tn (.two (.join [] [(4,5),(9,15)] .n) (.two (al.tn (.inn (.loop [(17,ba)] [(4,5),(6,9),(17,50)] (al.tn (al.tn (.two (.inn (al.tn (al.tn (.inn (.loop [(23,ba)] [(4,5),(7,9),(23,49)] .n))))) .n)))))) .n))) c
abbrev sl:FuncId:=295
def li(a:Sl)(b:Bool):Prop:=
 ag xl 324 #[a,b] bt h fun c d=>
 R (decide (c>=0)) d
theorem rz(a:Sl)(b:Bool)(c: @li R h a b):ae xl 295 #[a,b] h R:=au af Tryz.func295 .n c
abbrev Dp:FuncId:=296
def rh(d:Option Addr):Prop:=
 aQ xl (qK 315 true (.tuple #[])) h fun i m=>
 ∃l,(d=some l)/\
 ∃x3:Sl,cellOf m l=some (x3:Value)/\
 aM (σ:=Int) (fun c o e=>
 Br (c<(x3.len:Int))
 (∃a5,(x3.ptr=some a5/\0<=c/\c<(x3.len:Int))/\
 ∃k:Sl,cellOf e (a5.add (c.toNat*1))=some (k:Value)/\
 ∃q,(d=some q)/\
 ∃j:Sl,cellOf e (q.add 2)=some (j:Value)/\
 ∃a9,(j.ptr=some a9/\0<=c/\c<(j.len:Int))/\
 ∃f:Bool,cellOf e (a9.add (c.toNat*1))=some (xf f)/\
 Br f
 (o (qc xh (c+1)) e)
 (ag xl 325 #[d,k] (.many [ba,lI]) e fun g h3=>
 Br g.2
 (ac xl (qf 315 i (xg #[c,g.1])) h3 fun _ p=>
 ∃a:Int×Int,aj p i 0 a/\
 R (.tuple #[a,true]) p)
 (o (qc xh (c+1)) h3)))
 (ac xl (qf 315 i (xg #[(vX xh (0:Int)),(vX xh (0:Int))])) e fun _ n=>
 ∃b:Int×Int,aj n i 0 b/\
 R (.tuple #[b,false]) n)) (0:Int) m
theorem Cn(a:Option Addr)(b: @rh R h a):ae xl 296 #[a] h R:=au af Tryz.func296 (al.tn (.two (al.tn (.inn (.loop [(13,ba)] [(3,8),(13,36)] .n))) .n)) b
abbrev Dq:FuncId:=297
def ri(c:Option Addr):Prop:=
 ∃D,(c=some D)/\
 ∃x2:Sl,cellOf h (D.add 1)=some (x2:Value)/\
 av xl (qD 22 (vX xh (x2.len:Int)) (vX xh (x2.len:Int))) aK h fun v3 A=>
 ∃a4,(c=some a4)/\
 ∃y:Sl,cellOf A a4=some (y:Value)/\
 aM (σ:=Int) (fun e F w=>
 Br (e<(y.len:Int))
 (∃E,(y.ptr=some E/\0<=e/\e<(y.len:Int))/\
 ∃z:Sl,cellOf w (E.add (e.toNat*1))=some (z:Value)/\
 aM (σ:=Int) (fun i B h3=>
 Br (i<(z.len:Int))
 (∃j,(z.ptr=some j/\0<=i/\i<(z.len:Int))/\
 ∃b,cellOf h3 (j.add (i.toNat*1))=some (vX xh b)/\
 ∃t,(c=some t)/\
 ∃g:Sl,cellOf h3 (t.add 2)=some (g:Value)/\
 ∃v,(g.ptr=some v/\0<=e/\e<(g.len:Int))/\
 ∃l:Bool,cellOf h3 (v.add (e.toNat*1))=some (xf l)/\
 Br (!l)
 (∃m,(v3.ptr=some m/\0<=b/\b<(v3.len:Int))/\
 ∃o,cellOf h3 (m.add (b.toNat*1))=some (vX xh o)/\
 ∃n,(v3.ptr=some n/\0<=b/\b<(v3.len:Int))/\
 ac xl (qf 3 (n.add (b.toNat*1)) (qc xh (o+1))) h3 fun _ G=>
 B (qc xh (i+1)) G)
 (B (qc xh (i+1)) h3))
 (F (qc xh (e+1)) h3)) (0:Int) w)
 (∃p,(c=some p)/\
 ∃d:Sl,cellOf w (p.add 1)=some (d:Value)/\
 aM (σ:=Int×Int) (fun a x f=>
 Br (a.2<(d.len:Int))
 (∃a22,(d.ptr=some a22/\0<=a.2/\a.2<(d.len:Int))/\
 ∃u:Bool,cellOf f (a22.add (a.2.toNat*1))=some (xf u)/\
 Br u (Br (a.1<0) (x (a.2,qc xh (a.2+1)) f) (∃s,(v3.ptr=some s/\0<=a.2/\a.2<(v3.len:Int))/\
 ∃q,cellOf f (s.add (a.2.toNat*1))=some (vX xh q)/\
 ∃r,(v3.ptr=some r/\0<=a.1/\a.1<(v3.len:Int))/\
 ∃k,cellOf f (r.add (a.1.toNat*1))=some (vX xh k)/\
 Br (q>k)
 (x (a.2,qc xh (a.2+1)) f)
 (x (a.1,qc xh (a.2+1)) f))) (x (a.1,qc xh (a.2+1)) f))
 (R a.1 f)) ((-1:Int),(0:Int)) w)) (0:Int) A
theorem Co(a:Option Addr)(b: @ri R h a):ae xl 297 #[a] h R:=au af Tryz.func297 (al.tn (al.tn (.two (al.tn (.inn (.loop [(22,ba)] [(4,6),(7,8),(22,49)] (al.tn (al.tn (.two (.inn (al.tn (al.tn (.inn (.loop [(29,ba)] [(7,8),(29,48)] .n))))) .n)))))) (al.tn (.two (al.tn (.inn (.loop [(8,ba),(54,ba)] [(8,11),(54,77)] .n))) .n))))) b
abbrev mB:FuncId:=298
def iv(b:Sl)(a:FuncId×Array Value×Array Value):Prop:=
 aM (σ:=Int) (fun c g d=>
 Br (c<(b.len:Int))
 (∃e,(b.ptr=some e/\0<=c/\c<(b.len:Int))/\
 ∃x3:Int×Int,aj d (e.add (c.toNat*2)) 0 x3/\
 iq C a.1 (a.2.1.toList++[(xg #[x3.1,x3.2])]++a.2.2.toList) bX d fun i f=>
 Br i
 (R c f)
 (g (qc xh (c+1)) f))
 (R (vX xh (-1:Int)) d)) (0:Int) h
theorem mb(b:Sl)(a:FuncId×Array Value×Array Value)(c: @iv R h b a):ae xl 298 #[b,(.func (.func a.1) a.2.1 a.2.2)] h R:=au af Tryz.func298 (al.tn (.two (al.tn (.inn (.loop [(8,ba)] [(4,6),(8,19)] .n))) .n)) c
abbrev MV:FuncId:=303
def Dr(a:Option Addr):Prop:=
 Br (zi a)
 (ag xl 148 #[] mL h fun b c=>
 R b c)
 (R a h)
theorem KO(a:Option Addr)(b: @Dr R h a):ae xl 303 #[a] h R:=au af Tryz.func303 .n b
abbrev MW:FuncId:=304
def Ds(b:Int):Prop:=
 aM (σ:=Int) (fun a d c=>
 Br ((qc xh (a*a))<b)
 (d (qc xh (a+1)) c)
 (R a c)) (0:Int) h
theorem KP(a:Int)(b: @Ds R h a):ae xl 304 #[a] h R:=au af Tryz.func304 (al.tn (al.tn (.two (.inn (.loop [(3,ba)] [(3,11)] .n)) .n))) b
abbrev nQ:FuncId:=305
def jl(b:Sl)(e:Int)(d:Int)(f:Int)(a:FuncId×Array Value×Array Value):Prop:=
 aM (σ:=Int×Int) (fun c i g=>
 Br (c.1 !=c.2)
 (Br (c.1>c.2)
 (ag xl 328 #[b,(qc xh (d-c.1)),d,c.2,(.func (.func a.1) a.2.1 a.2.2)] iC g fun _ k=>
 i (qc xh (c.1-c.2),c.2) k)
 (ag xl 328 #[b,(qc xh (d-c.1)),(qc xh ((qc xh (d+c.2))-c.1)),c.1,(.func (.func a.1) a.2.1 a.2.2)] iC g fun _ h3=>
 i (c.1,qc xh (c.2-c.1)) h3))
 (ag xl 328 #[b,(qc xh (d-c.1)),d,c.1,(.func (.func a.1) a.2.1 a.2.2)] iC g fun _ j=>
 R (.tuple #[]) j)) (qc xh (d-e),qc xh (f-d)) h
theorem nw(b:Sl)(c:Int)(e:Int)(d:Int)(a:FuncId×Array Value×Array Value)(f: @jl R h b c e d a):ae xl 305 #[b,c,e,d,(.func (.func a.1) a.2.1 a.2.2)] h R:=au af Tryz.func305 (al.tn (al.tn (.two (.inn (.loop [(10,ba),(11,ba)] [(10,12),(18,50)] .n)) .n))) f
abbrev Wb:FuncId:=315
def MX(a:Option Addr):Prop:=
 Br (zi a)
 (ag xl 148 #[] mL h fun b c=>
 R b c)
 (R a h)
theorem Ub(a:Option Addr)(b: @MX R h a):ae xl 315 #[a] h R:=au af Tryz.func315 .n b
abbrev uS:FuncId:=324
def mU(a:Sl)(d:Bool):Prop:=
 aM (σ:=Int) (fun b f c=>
 Br (b<(a.len:Int))
 (∃e,(a.ptr=some e/\0<=b/\b<(a.len:Int))/\
 ∃x3:Bool,cellOf c (e.add (b.toNat*1))=some (xf x3)/\
 Br (d==x3)
 (R b c)
 (f (qc xh (b+1)) c))
 (R (vX xh (-1:Int)) c)) (0:Int) h
theorem uf(a:Sl)(b:Bool)(c: @mU R h a b):ae xl 324 #[a,b] h R:=au af Tryz.func324 (al.tn (.two (al.tn (.inn (.loop [(8,ba)] [(4,6),(8,19)] .n))) .n)) c
abbrev AP:FuncId:=325
def om(e:Option Addr)(b:Sl):Prop:=
 aM (σ:=bH) (fun a g c=>
 Br (a.2.2<(b.len:Int))
 (∃i,(b.ptr=some i/\0<=a.2.2/\a.2.2<(b.len:Int))/\
 ∃x3,cellOf c (i.add (a.2.2.toNat*1))=some (vX xh x3)/\
 ∃a4,(e=some a4)/\
 ∃d:Sl,cellOf c (a4.add 1)=some (d:Value)/\
 ∃f,(d.ptr=some f/\0<=x3/\x3<(d.len:Int))/\
 ∃j:Bool,cellOf c (f.add (x3.toNat*1))=some (xf j)/\
 Br j
 (g (x3,qc xh (a.2.1+1),qc xh (a.2.2+1)) c)
 (g (a.1,a.2.1,qc xh (a.2.2+1)) c))
 (R (.tuple #[a.1,(xf (a.2.1==1))]) c)) ((0:Int),(0:Int),(0:Int)) h
theorem Ab(a:Option Addr)(b:Sl)(c: @om R h a b):ae xl 325 #[a,b] h R:=au af Tryz.func325 (al.tn (al.tn (.two (al.tn (.inn (.loop [(6,ba),(7,ba),(12,ba)] [(6,8),(9,10),(12,27)] .n))) .n))) c
abbrev mC:FuncId:=328
def iw(a:Sl)(c:Int)(d:Int)(g:Int)(f:FuncId×Array Value×Array Value):Prop:=
 aM (σ:=Int) (fun b n e=>
 Br (b<g)
 (∃k,(a.ptr=some k/\0<=(qc xh (d+b))/\(qc xh (d+b))<(a.len:Int))/\
 ∃x3:ee,aj e (k.add ((qc xh (d+b)).toNat*8)) 0 x3/\
 ∃a4,(a.ptr=some a4/\0<=(qc xh (c+b))/\(qc xh (c+b))<(a.len:Int))/\
 ∃j:ee,aj e (a4.add ((qc xh (c+b)).toNat*8)) 0 j/\
 ∃i,(a.ptr=some i/\0<=(qc xh (c+b))/\(qc xh (c+b))<(a.len:Int))/\
 ac xl (qf 134 (i.add ((qc xh (c+b)).toNat*8)) x3) e fun _ m=>
 (ar.ok [] m)/\
 ∃l,(a.ptr=some l/\0<=(qc xh (d+b))/\(qc xh (d+b))<(a.len:Int))/\
 ac xl (qf 134 (l.add ((qc xh (d+b)).toNat*8)) j) m fun _ h3=>
 (ar.ok [] h3)/\
 n (qc xh (b+1)) h3)
 (R (.tuple #[]) e)) (0:Int) h
theorem md(b:Sl)(c:Int)(d:Int)(e:Int)(a:FuncId×Array Value×Array Value)(f: @iw R h b c d e a):ae xl 328 #[b,c,d,e,(.func (.func a.1) a.2.1 a.2.2)] h R:=au af Tryz.func328 (al.tn (.inn (.loop [(10,ba)] [(10,38)] .n))) f
end
end Go.Proofs.YtdhamoojccmbdaaGreatDoor
