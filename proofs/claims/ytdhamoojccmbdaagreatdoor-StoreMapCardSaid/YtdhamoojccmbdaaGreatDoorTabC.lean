/- Part of the proofs that the laws of this seat answer true whatever the input reads, and leave it as it was; no condition. -/
import Derived.Test.YtdhamoojccmbdaaGreatDoorTabA
set_option linter.unusedVariables false
set_option linter.unusedSimpArgs false
open Go.Proofs.Tryz renaming prog -> xl
open Go.Instr renaming alloc -> qK, box -> qL, build -> vI, buildSlice -> qq, makeSlice -> qD, storeAt -> qf
open Go.Value renaming agg -> xg, bool -> xf, int -> vX, slice -> vY, string -> xd
open Go.IntKind renaming bits -> qk, i64 -> xh, u32 -> xj, u64 -> xk, u8 -> xi, wrap -> qc
open Go.Builtin renaming append_ -> qt, clear_ -> yt, copy_ -> wX
open BitVec renaming ofInt -> qA
open Int renaming fdiv -> qT, tdiv -> wH
open Option renaming isNone -> zi
set_option maxRecDepth 1000000
namespace Go.Proofs.YtdhamoojccmbdaaGreatDoor
noncomputable section
open Go Go.Vc Go.Proofs
variable {R:Value->Heap->Prop} {h:Heap}
abbrev Rk:FuncId:=115
def Hr(l:cV)(o:jg):Prop:=
 aQ xl (qL 47 l) h fun j w=>
 aQ xl (qL 96 o) w fun a q=>
 bf (σ:=Unit) (fun _ t=>
 ∃f:Sl,cellOf t (a.add 3)=some (f:Value)/\
 ag xl 103 #[f,(.func (.func 167) #[] #[])] bX t fun m c=>
 Br (!m) (∃b:Sl,cellOf c (a.add 3)=some (b:Value)/\
 ∃e:bH,aj c (j.add 2) 0 e/\
 ∃g,cellOf c (a.add 2)=some (vX xh g)/\
 ag xl 30 #[e,g] bt c fun k h8=>
 (ar.ok [(a.add 3,b)] h8)/\
 R (xf ((b.len:Int)==k)) h8) ((ar.ok [] c)/\
 R false c))
 (fun y=>
 ∃x3:ByteArray,cellOf q a=some (xd x3)/\
 ag xl 92 #[x3] bX q fun x h3=>
 Br (!x) (R false h3) (∃u,cellOf h3 (a.add 1)=some (vX xh u)/\
 ∃p,cellOf h3 (j.add 1)=some (vX xh p)/\
 ag xl 113 #[u,(vX xh (0:Int)),(qc xh (p-1))] bX h3 fun z i=>
 Br (!z) (R false i) (∃v,cellOf i (a.add 2)=some (vX xh v)/\
 ∃r,cellOf i (j.add 2)=some (vX xh r)/\
 ∃d,cellOf i ((j.add 2).add 2)=some (vX xh d)/\
 ag xl 113 #[v,(vX xh (0:Int)),(qc xh ((qc xh (r*d))*8))] bX i fun n s=>
 Br (!n)
 (R false s)
 (y () s))))
theorem OH(a:cV)(b:jg)(c: @Hr R h a b):ae xl 115 #[a,b] h R:=au af Tryz.func115 (al.tn (.two (.join [] [(4,5),(6,33)] .n) .n)) c
abbrev ge:FuncId:=116
def dY(b:Sl)(a:FuncId×Array Value×Array Value):Prop:=
 ag xl 120 #[b,(.func (.func a.1) a.2.1 a.2.2)] bt h fun c d=>
 R (decide (c>=0)) d
theorem fV(b:Sl)(a:FuncId×Array Value×Array Value)(c: @dY R h b a):ae xl 116 #[b,(.func (.func a.1) a.2.1 a.2.2)] h R:=au af Tryz.func116 .n c
abbrev ue:FuncId:=117
def Hs(c:jg)(a:Addr):Prop:=
 aQ xl (qL 96 c) h fun d b=>
 ∃x2,cellOf b (d.add 1)=some (vX xh x2)/\
 ∃x3,cellOf b (a.add 1)=some (vX xh x3)/\
 R (xf (x2==x3)) b
theorem OI(b:jg)(a:Addr)(c: @Hs R h b a):ae xl 117 #[b,a] h R:=au af Tryz.func117 .n c
def jM(b:Sl)(a:FuncId×Array Value×Array Value):Prop:=
 aM (σ:=Int) (fun c g d=>
 Br (c<(b.len:Int))
 (∃e,(b.ptr=some e/\0<=c/\c<(b.len:Int))/\
 ∃x3:Sl,cellOf d (e.add (c.toNat*1))=some (x3:Value)/\
 iq C a.1 (a.2.1.toList++[(vY x3.ptr x3.len x3.cap)]++a.2.2.toList) bX d fun i f=>
 Br i
 (R c f)
 (g (qc xh (c+1)) f))
 (R (vX xh (-1:Int)) d)) (0:Int) h
theorem oh(b:Sl)(a:FuncId×Array Value×Array Value)(c: @jM R h b a):ae xl 118 #[b,(.func (.func a.1) a.2.1 a.2.2)] h R:=au af Tryz.func118 (al.tn (.two (al.tn (.inn (.loop [(8,ba)] [(4,6),(8,19)] .n))) .n)) c
abbrev Cb:FuncId:=119
def oW(b:Int):Prop:=
 av xl (qq 60 5 #[(0,afH),(1,afI),(2,YB),(3,afJ),(4,Ha)]) aK h fun c f=>
 ag xl 10 #[b,(vX xh (5:Int))] bt f fun a d=>
 ∃a3,(c.ptr=some a3/\0<=a/\a<(c.len:Int))/\
 ∃e:ByteArray,cellOf d (a3.add (a.toNat*1))=some (xd e)/\
 R e d
theorem AI(a:Int)(b: @oW R h a):ae xl 119 #[a] h R:=au af Tryz.func119 .n b
abbrev lM:FuncId:=120
def eZ(b:Sl)(a:FuncId×Array Value×Array Value):Prop:=
 aM (σ:=Int) (fun c g d=>
 Br (c<(b.len:Int))
 (∃e,(b.ptr=some e/\0<=c/\c<(b.len:Int))/\
 ∃x3:jg,aj d (e.add (c.toNat*4)) 0 x3/\
 iq C a.1 (a.2.1.toList++[(xg #[x3.1,x3.2.1,x3.2.2.1,x3.2.2.2])]++a.2.2.toList) bX d fun i f=>
 Br i
 (R c f)
 (g (qc xh (c+1)) f))
 (R (vX xh (-1:Int)) d)) (0:Int) h
theorem gE(b:Sl)(a:FuncId×Array Value×Array Value)(c: @eZ R h b a):ae xl 120 #[b,(.func (.func a.1) a.2.1 a.2.2)] h R:=au af Tryz.func120 (al.tn (.two (al.tn (.inn (.loop [(8,ba)] [(4,6),(8,19)] .n))) .n)) c
abbrev Da:FuncId:=121
def pW(b:jg)(a:Addr):Prop:=
 aQ xl (qL 96 b) h fun d c=>
 ∃x2:ByteArray,cellOf c d=some (xd x2)/\
 ∃x3:ByteArray,cellOf c a=some (xd x3)/\
 R (xf (x2.toList==x3.toList)) c
theorem Cc(b:jg)(a:Addr)(c: @pW R h b a):ae xl 121 #[b,a] h R:=au af Tryz.func121 .n c
abbrev jN:FuncId:=122
def ol(c:Int)(a:Addr):Prop:=
 ∃b,cellOf h a=some (vX xh b)/\
 R b h
theorem xT(b:Int)(a:Addr)(c: @ol R h b a):ae xl 122 #[b,a] h R:=au af Tryz.func122 .n c
abbrev rx:FuncId:=123
def kO(a:ByteArray):Prop:=
 Br ((a.size:Int)==0)
 (R nZ h)
 (av xl (qD 38 (vX xh (a.size:Int)) (vX xh (a.size:Int))) aK h fun b d=>
 av xl (wX #[38,9] 3 #[b,a]) bt d fun _ c=>
 ∃a3,(b.ptr=some a3/\0<=(0:Int)/\(0:Int)<(b.len:Int))/\
 av xl (Builtin.unsafeString_ #[230,3] 9 #[(a3.add ((0:Int).toNat*1)),(vX xh (b.len:Int))]) (.one LY) c fun v4 h3=>
 R v4 h3)
theorem pX(a:ByteArray)(b: @kO R h a):ae xl 123 #[a] h R:=au af Tryz.func123 .n b
abbrev Cd:FuncId:=124
def oX(b:Int)(a:Addr):Prop:=
 ∃c:Option Addr,cellOf h a=some (.pointer c)/\
 ∃f,(c=some f)/\
 (0<=b/\b<((64:Nat):Int))/\
 ∃x3:Option Addr,cellOf h ((f.add 10).add (b.toNat*1))=some (.pointer x3)/\
 ∃d:Option Addr,cellOf h a=some (.pointer d)/\
 ∃a5,(d=some a5)/\
 ∃e:cV,aj h a5 0 e/\
 ag xl 20 #[x3,e] bX h fun i g=>
 (ar.ok [(a,d),(a,c)] g)/\
 R i g
theorem AJ(b:Int)(a:Addr)(c: @oX R h b a):ae xl 124 #[b,a] h R:=au af Tryz.func124 .n c
abbrev kr:FuncId:=125
def fW(b:Sl)(a:FuncId×Array Value×Array Value):Prop:=
 ag xl 168 #[b,(.func (.func a.1) a.2.1 a.2.2)] bt h fun c d=>
 R (decide (c>=0)) d
theorem jY(b:Sl)(a:FuncId×Array Value×Array Value)(c: @fW R h b a):ae xl 125 #[b,(.func (.func a.1) a.2.1 a.2.2)] h R:=au af Tryz.func125 .n c
abbrev kF:FuncId:=126
def xU(b:Int×Sl)(a:Addr):Prop:=
 aQ xl (qL 176 b) h fun d c=>
 ∃x2:bH,aj c a 0 x2/\
 ∃x3:Int×Sl,aj c d 0 x3/\
 ag xl 127 #[x2,x3] bX c fun e f=>
 R (xf (!e)) f
theorem Ht(b:Int×Sl)(a:Addr)(c: @xU R h b a):ae xl 126 #[b,a] h R:=au af Tryz.func126 .n c
abbrev Mr:FuncId:=127
def Db(c:bH)(b:Int×Sl):Prop:=
 aQ xl (qL 24 c) h fun i j=>
 aQ xl (qL 176 b) j fun d a=>
 ∃x3,cellOf a d=some (vX xh x3)/\
 Br (x3>=0) (∃g,cellOf a d=some (vX xh g)/\
 Br (g<=65535) (∃e:Sl,cellOf a (d.add 1)=some (e:Value)/\
 ∃f,cellOf a (i.add 2)=some (vX xh f)/\
 R (xf ((e.len:Int)==f)) a) (R false a)) (R false a)
theorem KC(b:bH)(a:Int×Sl)(c: @Db R h b a):ae xl 127 #[b,a] h R:=au af Tryz.func127 .n c
abbrev OJ:FuncId:=128
def Fu(f:bH)(a:Int)(b:Sl):Prop:=
 aQ xl (qL 24 f) h fun d i=>
 ∃x2:bH,aj i d 0 x2/\
 ag xl 39 #[x2] bX i fun l c=>
 (ar.ok [] c)/\
 Br l (∃j:bH,aj c d 0 j/\
 ∃e:bH,aj c d 0 e/\
 ag xl 169 #[j,(vX xj a),b] bt c fun k h3=>
 (ar.ok [(d,e.1),(d.add 1,e.2.1),(d.add 2,e.2.2)] h3)/\
 ag xl 170 #[e] bt h3 fun m g=>
 (ar.ok [] g)/\
 R (xf (k==m)) g) ((ar.ok [] c)/\
 (ar.ok [] c)/\
 R false c)
theorem Ms(c:bH)(a:Int)(b:Sl)(d: @Fu R h c a b):ae xl 128 #[c,(vX xj a),b] h R:=au af Tryz.func128 .n d
abbrev Rl:FuncId:=129
def Hu(b:Sl):Prop:=
 aM (σ:=Sl×Int) (fun a g c=>
 Br (a.2<(b.len:Int))
 (∃f,(b.ptr=some f/\0<=a.2/\a.2<(b.len:Int))/\
 ∃x3:Int×Sl,aj c (f.add (a.2.toNat*2)) 0 x3/\
 aQ xl (qK 176 true (.tuple #[])) c fun a4 j=>
 ac xl (qf 176 a4 x3) j fun _ h3=>
 ∃e,cellOf h3 a4=some (vX xh e)/\
 av xl (qq 22 1 #[(0,e)]) aK h3 fun i k=>
 av xl (qt #[22,22] 22 #[a.1,i]) aK k fun d l=>
 g ((⟨d.ptr,d.len,d.cap⟩:Sl),qc xh (a.2+1)) l)
 (R a.1 c)) ((⟨none,0,0⟩:Sl),(0:Int)) h
theorem OK(a:Sl)(b: @Hu R h a):ae xl 129 #[a] h R:=au af Tryz.func129 (al.tn (al.tn (.two (al.tn (.inn (.loop [(3,cu),(8,ba)] [(3,4),(5,6),(8,18)] .n))) .n))) b
abbrev Rm:FuncId:=130
def Hv(Q:bH)(f:Int)(k:Sl):Prop:=
 aQ xl (qL 24 Q) h fun g h1=>
 aM (σ:=Sl×Int) (fun j K1 H=>
 Br (j.2<(k.len:Int))
 (∃a3,(k.ptr=some a3/\0<=j.2/\j.2<(k.len:Int))/\
 ∃x4:Int×Sl,aj H (a3.add (j.2.toNat*2)) 0 x4/\
 aQ xl (qK 176 true (.tuple #[])) H fun a5 h3=>
 ac xl (qf 176 a5 x4) h3 fun _ I=>
 ∃X:bH,aj I g 0 X/\
 ∃x7,cellOf I a5=some (vX xh x7)/\
 ∃D:Sl,cellOf I (a5.add 1)=some (D:Value)/\
 ag xl 131 #[X,(vX xj f),x7] aK I fun r9 Z=>
 (ar.ok [(a5.add 1,D)] Z)/\
 av xl (qq 233 1 #[(0,(xg #[r9,D]))]) aK Z fun N h6=>
 (ar.ok [(a5.add 1,D)] h6)/\
 av xl (qt #[233,233] 233 #[j.1,N]) aK h6 fun m W=>
 (ar.ok [(a5.add 1,D)] W)/\
 K1 ((⟨m.ptr,m.len,m.cap⟩:Sl),qc xh (j.2+1)) W)
 (bf (σ:=Option Addr) (fun a A=>
 ∃p:bH,aj A g 0 p/\
 ag xl 170 #[p] bt A fun U O=>
 ag xl 171 #[U,j.1] (.many [cu,cu,cu,ba]) O fun e q=>
 Br (e.2.2.2 !=0)
 (R (.tuple #[(vY none 0 0),(vX xh (10:Int))]) q)
 (∃B,(a=some B)/\
 ac xl (qf 59 (B.add 4) e.2.1) q fun _ L=>
 ∃u,(a=some u)/\
 ac xl (qf 233 (u.add 5) e.2.2.1) L fun _ S=>
 ag xl 172 #[a,e.1] iC S fun _ J=>
 ag xl 173 #[a] iC J fun _ P=>
 ag xl 174 #[a] iC P fun _ K=>
 ag xl 175 #[a] (.many [cu,cu]) K fun d i=>
 ∃a25,(a=some a25)/\
 ∃F:Sl,cellOf i ((a25.add 6).add 1)=some (F:Value)/\
 Br ((F.len:Int)==0)
 (aM (σ:=Int) (fun c K3 l=>
 Br (c<(d.2.len:Int))
 (∃a28,(d.2.ptr=some a28/\0<=c/\c<(d.2.len:Int))/\
 ∃r:Sl,cellOf l (a28.add (c.toNat*1))=some (r:Value)/\
 ag xl 176 #[r,aaZ] aK l fun T E=>
 Br ((T.len:Int)>0)
 (R (.tuple #[(vY none 0 0),(vX xh (10:Int))]) E)
 (K3 (qc xh (c+1)) E))
 (ag xl 177 #[a,(vY none 0 0)] iC l fun _ t=>
 ∃v,(a=some v)/\
 ∃x:Sl,cellOf t (v.add 4)=some (x:Value)/\
 R (.tuple #[x,(vX xh (0:Int))]) t)) (0:Int) i)
 (∃w,(a=some w)/\
 ∃s:Option Addr,cellOf i w=some (.pointer s)/\
 ag xl 147 #[s,d.1,d.2] (.many [cu,ba]) i fun n o=>
 Br (n.2 !=0)
 (R (.tuple #[(vY none 0 0),(vX xh (10:Int))]) o)
 (ag xl 177 #[a,n.1] iC o fun _ y=>
 ∃G,(a=some G)/\
 ∃z:Sl,cellOf y (G.add 4)=some (z:Value)/\
 R (.tuple #[z,(vX xh (0:Int))]) y))))
 (fun K2=>
 ∃b:bH,aj H g 0 b/\
 ag xl 148 #[] mL H fun M h8=>
 (ar.ok [(g,b.1),(g.add 1,b.2.1),(g.add 2,b.2.2)] h8)/\
 aQ xl (qL 241 (xg #[M,b.1,b.2.1,b.2.2,(vY none 0 0),(vY none 0 0),(vY none 0 0),(vY none 0 0),(vY none 0 0),(vY none 0 0),(vY none 0 0)])) h8 fun V Y=>
 (ar.ok [(g,b.1),(g.add 1,b.2.1),(g.add 2,b.2.2)] Y)/\
 K2 (some V) Y))) ((⟨none,0,0⟩:Sl),(0:Int)) h1
theorem OL(c:bH)(a:Int)(b:Sl)(d: @Hv R h c a b):ae xl 130 #[c,(vX xj a),b] h R:=au af Tryz.func130 (al.tn (.fwd (al.tn (.two (al.tn (.inn (.loop [(8,cu),(23,ba)] [(8,9),(10,11),(23,39)] .n))) (.two (.join [(11,LX)] [(11,12),(39,43)] .n) .n))) [(0,[.n]),(1,[(.two (al.tn (.inn (.loop [(95,ba)] [(20,21),(95,104)] .n))) .n)]),(2,[.n])])) d
abbrev YF:FuncId:=131
def Qd(g:bH)(b:Int)(a:Int):Prop:=
 aQ xl (qL 24 g) h fun l j=>
 bf (σ:=Unit) (fun _ h3=>
 ∃k:bH,aj h3 l 0 k/\
 ag xl 170 #[k] bt h3 fun i s=>
 ag xl 178 #[(vX xj (qc xj ((qA (qk xj) b^^^(qA (qk xj) (qc xj ((qc xj a)*2654435761)))).toNat:Nat)))] mL s fun f o=>
 ag xl 179 #[f] (.one (.sc (.int .u32))) o fun _ p=>
 ag xl 181 #[i] aK p fun q m=>
 ag xl 180 #[q,f] bt m fun e h8=>
 ag xl 182 #[f,i,e] aK h8 fun d n=>
 R d n)
 (fun r=>
 ∃x2:bH,aj j l 0 x2/\
 ag xl 39 #[x2] bX j fun t c=>
 Br (!t) (R (vY none 0 0) c) (Br (a<0) (R (vY none 0 0) c) (Br (a>65535)
 (R (vY none 0 0) c)
 (r () c))))
theorem VL(c:bH)(a:Int)(b:Int)(d: @Qd R h c a b):ae xl 131 #[c,(vX xj a),b] h R:=au af Tryz.func131 (al.tn (.two (.join [] [(6,7),(10,21)] .n) .n)) d
abbrev OM:FuncId:=132
def Fv(F:Sl):Prop:=
 aQ xl (qK 134 true (.tuple #[])) h fun f h1=>
 ag xl 183 #[F] (.many [ba,cu,lI]) h1 fun a X=>
 bf (σ:=Unit) (fun _ h5=>
 bf (σ:=Addr) (fun b Z=>
 bf (σ:=Unit) (fun _ ax=>
 (0<=(9:Int)/\(9:Int)<=(13:Int)/\(13:Int)<=(a.2.1.cap:Int))/\
 ag xl 184 #[(.slice (if a.2.1.cap=(9:Int).toNat then a.2.1.ptr else a.2.1.ptr.map (·.add ((9:Int).toNat*1))) ((13:Int).toNat-(9:Int).toNat) (a.2.1.cap-(9:Int).toNat))] bt ax fun a3 T=>
 ac xl (qf 55 (b.add 6) (vX xj (qc xj a3))) T fun _ N=>
 ∃E:bH,aj N (b.add 3) 0 E/\
 ag xl 39 #[E] bX N fun Y k=>
 Br (!Y)
 (ac xl (qf 134 f (xg #[(vX xh (0:Int)),(vX xh (0:Int)),(vX xh (0:Int)),(vX xh (0:Int)),(vX xh (0:Int)),(vX xh (0:Int)),(vX xj (0:Int)),(vY none 0 0)])) k fun _ z=>
 ∃c:ee,aj z f 0 c/\
 R (.tuple #[c,false]) z)
 (∃g,cellOf k ((b.add 3).add 2)=some (vX xh g)/\
 (0<=(13:Int)/\(13:Int)<=(qc xh (13+g))/\(qc xh (13+g))<=(a.2.1.cap:Int))/\
 ag xl 91 #[(.slice (if a.2.1.cap=(13:Int).toNat then a.2.1.ptr else a.2.1.ptr.map (·.add ((13:Int).toNat*1))) ((qc xh (13+g)).toNat-(13:Int).toNat) (a.2.1.cap-(13:Int).toNat))] aK k fun ay ad=>
 ac xl (qf 38 (b.add 7) ay) ad fun _ t=>
 ∃B:ee,aj t b 0 B/\
 ag xl 99 #[B] aK t fun a0 S=>
 ag xl 58 #[F,a0] bX S fun a5 l=>
 Br (!a5)
 (ac xl (qf 134 f (xg #[(vX xh (0:Int)),(vX xh (0:Int)),(vX xh (0:Int)),(vX xh (0:Int)),(vX xh (0:Int)),(vX xh (0:Int)),(vX xj (0:Int)),(vY none 0 0)])) l fun _ r=>
 ∃e:ee,aj r f 0 e/\
 R (.tuple #[e,false]) r)
 (∃o:ee,aj l b 0 o/\
 ac xl (qf 134 f o) l fun _ v=>
 ∃d:ee,aj v f 0 d/\
 R (.tuple #[d,true]) v)))
 (fun K3=>
 (0<=(6:Int)/\(6:Int)<=(7:Int)/\(7:Int)<=(a.2.1.cap:Int))/\
 (0<=(7:Int)/\(7:Int)<=(8:Int)/\(8:Int)<=(a.2.1.cap:Int))/\
 (0<=(8:Int)/\(8:Int)<=(9:Int)/\(9:Int)<=(a.2.1.cap:Int))/\
 ag xl 184 #[(.slice (if a.2.1.cap=(6:Int).toNat then a.2.1.ptr else a.2.1.ptr.map (·.add ((6:Int).toNat*1))) ((7:Int).toNat-(6:Int).toNat) (a.2.1.cap-(6:Int).toNat))] bt Z fun a2 A=>
 (ar.ok [] A)/\
 ag xl 184 #[(.slice (if a.2.1.cap=(7:Int).toNat then a.2.1.ptr else a.2.1.ptr.map (·.add ((7:Int).toNat*1))) ((8:Int).toNat-(7:Int).toNat) (a.2.1.cap-(7:Int).toNat))] bt A fun a4 H=>
 (ar.ok [] H)/\
 ag xl 184 #[(.slice (if a.2.1.cap=(8:Int).toNat then a.2.1.ptr else a.2.1.ptr.map (·.add ((8:Int).toNat*1))) ((9:Int).toNat-(8:Int).toNat) (a.2.1.cap-(8:Int).toNat))] bt H fun ap x=>
 (ar.ok [] x)/\
 ac xl (qf 24 (b.add 3) (xg #[a2,a4,ap])) x fun _ L=>
 (ar.ok [] L)/\
 K3 () L))
 (fun Q=>
 (0<=(3:Int)/\(3:Int)<=(a.2.1.cap:Int))/\
 (0<=(3:Int)/\(3:Int)<=(4:Int)/\(4:Int)<=(a.2.1.cap:Int))/\
 (0<=(4:Int)/\(4:Int)<=(6:Int)/\(6:Int)<=(a.2.1.cap:Int))/\
 (ag xl 184 #[(vY a.2.1.ptr ((3:Int).toNat) a.2.1.cap)] bt h5 fun W h6=>
 (ar.ok [] h6)/\
 (ag xl 184 #[(.slice (if a.2.1.cap=(3:Int).toNat then a.2.1.ptr else a.2.1.ptr.map (·.add ((3:Int).toNat*1))) ((4:Int).toNat-(3:Int).toNat) (a.2.1.cap-(3:Int).toNat))] bt h6 fun r7 U=>
 (ar.ok [] U)/\
 (ag xl 184 #[(.slice (if a.2.1.cap=(4:Int).toNat then a.2.1.ptr else a.2.1.ptr.map (·.add ((4:Int).toNat*1))) ((6:Int).toNat-(4:Int).toNat) (a.2.1.cap-(4:Int).toNat))] bt U fun r8 h8=>
 (ar.ok [] h8)/\
 aQ xl (qK 134 true (.tuple #[])) h8 fun a9 h9=>
 (ar.ok [] h9)/\
 ac xl (qf 134 a9 (xg #[W,r7,r8,(vX xh (0:Int)),(vX xh (0:Int)),(vX xh (0:Int)),(vX xj (0:Int)),(vY none 0 0)])) h9 fun _ D=>
 (ar.ok [] D)/\
 Q a9 D)/\(aQ xl (qK 134 true (.tuple #[])) U fun u J=>
 (ar.ok [] J)/\
 ag xl 184 #[(.slice (if a.2.1.cap=(4:Int).toNat then a.2.1.ptr else a.2.1.ptr.map (·.add ((4:Int).toNat*1))) ((6:Int).toNat-(4:Int).toNat) (a.2.1.cap-(4:Int).toNat))] bt J fun ao p=>
 (ar.ok [] p)/\
 ac xl (qf 134 u (xg #[W,r7,ao,(vX xh (0:Int)),(vX xh (0:Int)),(vX xh (0:Int)),(vX xj (0:Int)),(vY none 0 0)])) p fun _ w=>
 (ar.ok [] w)/\
 Q u w))/\(aQ xl (qK 134 true (.tuple #[])) h6 fun I O=>
 (ar.ok [] O)/\
 ag xl 184 #[(.slice (if a.2.1.cap=(3:Int).toNat then a.2.1.ptr else a.2.1.ptr.map (·.add ((3:Int).toNat*1))) ((4:Int).toNat-(3:Int).toNat) (a.2.1.cap-(3:Int).toNat))] bt O fun ah m=>
 (ar.ok [] m)/\
 ag xl 184 #[(.slice (if a.2.1.cap=(4:Int).toNat then a.2.1.ptr else a.2.1.ptr.map (·.add ((4:Int).toNat*1))) ((6:Int).toNat-(4:Int).toNat) (a.2.1.cap-(4:Int).toNat))] bt m fun am K=>
 (ar.ok [] K)/\
 ac xl (qf 134 I (xg #[W,ah,am,(vX xh (0:Int)),(vX xh (0:Int)),(vX xh (0:Int)),(vX xj (0:Int)),(vY none 0 0)])) K fun _ q=>
 (ar.ok [] q)/\
 Q I q))/\(aQ xl (qK 134 true (.tuple #[])) h5 fun M P=>
 (ar.ok [] P)/\
 ag xl 184 #[(vY a.2.1.ptr ((3:Int).toNat) a.2.1.cap)] bt P fun ab y=>
 (ar.ok [] y)/\
 ag xl 184 #[(.slice (if a.2.1.cap=(3:Int).toNat then a.2.1.ptr else a.2.1.ptr.map (·.add ((3:Int).toNat*1))) ((4:Int).toNat-(3:Int).toNat) (a.2.1.cap-(3:Int).toNat))] bt y fun a6 G=>
 (ar.ok [] G)/\
 ag xl 184 #[(.slice (if a.2.1.cap=(4:Int).toNat then a.2.1.ptr else a.2.1.ptr.map (·.add ((4:Int).toNat*1))) ((6:Int).toNat-(4:Int).toNat) (a.2.1.cap-(4:Int).toNat))] bt G fun V s=>
 (ar.ok [] s)/\
 ac xl (qf 134 M (xg #[ab,a6,V,(vX xh (0:Int)),(vX xh (0:Int)),(vX xh (0:Int)),(vX xj (0:Int)),(vY none 0 0)])) s fun _ n=>
 (ar.ok [] n)/\
 Q M n)))
 (fun K1=>
 Br (!a.2.2) (ac xl (qf 134 f (xg #[(vX xh (0:Int)),(vX xh (0:Int)),(vX xh (0:Int)),(vX xh (0:Int)),(vX xh (0:Int)),(vX xh (0:Int)),(vX xj (0:Int)),(vY none 0 0)])) X fun _ h3=>
 ∃i:ee,aj h3 f 0 i/\
 R (.tuple #[i,false]) h3) (Br (a.1 !=1)
 (ac xl (qf 134 f (xg #[(vX xh (0:Int)),(vX xh (0:Int)),(vX xh (0:Int)),(vX xh (0:Int)),(vX xh (0:Int)),(vX xh (0:Int)),(vX xj (0:Int)),(vY none 0 0)])) X fun _ h4=>
 ∃j:ee,aj h4 f 0 j/\
 R (.tuple #[j,false]) h4)
 (K1 () X)))
theorem Mt(a:Sl)(b: @Fv R h a):ae xl 132 #[a] h R:=au af Tryz.func132 (al.tn (al.tn (.two (.join [] [(3,4),(14,21)] .n) (.two (.join [(7,(.sc .adr))] [(7,8),(21,31)] .n) (.two (.join [] [(31,42)] .n) .n))))) b
abbrev ON:FuncId:=133
def Fw(c:cV)(a:ee):Prop:=
 aQ xl (qL 47 c) h fun f o=>
 aQ xl (qL 134 a) o fun b k=>
 bf (σ:=Unit) (fun _ j=>
 ∃l:Sl,cellOf j (f.add 7)=some (l:Value)/\
 ag xl 116 #[l,(.func (.func 185) #[] #[b])] bX j fun d p=>
 R d p)
 (fun m=>
 ∃x3:ee,aj k b 0 x3/\
 ag xl 158 #[x3] bX k fun n h3=>
 Br (!n) (R false h3) (∃e:bH,aj h3 (b.add 3) 0 e/\
 ∃g:bH,aj h3 (f.add 2) 0 g/\
 ∃i:Bool,(kI xl .neq 24 (.tmp 10) (.tmp 12) e g (xf i))/\
 Br i
 (R false h3)
 (m () h3)))
theorem Mu(a:cV)(b:ee)(c: @Fw R h a b):ae xl 133 #[a,b] h R:=au af Tryz.func133 (al.tn (.two (.join [] [(4,15)] .n) .n)) c
abbrev jO:FuncId:=134
def fI(b:Sl)(a:FuncId×Array Value×Array Value):Prop:=
 ag xl 186 #[b,(vX xh (b.len:Int)),(.func (.func a.1) a.2.1 a.2.2)] iC h fun _ c=>
 R (.tuple #[]) c
theorem jJ(b:Sl)(a:FuncId×Array Value×Array Value)(c: @fI R h b a):ae xl 134 #[b,(.func (.func a.1) a.2.1 a.2.2)] h R:=au af Tryz.func134 .n c
abbrev cZ:FuncId:=135
def Hw(f:ee)(n:ee):Prop:=
 aQ xl (qL 134 f) h fun c t=>
 aQ xl (qL 134 n) t fun b a=>
 ∃x3,cellOf a c=some (vX xh x3)/\
 ∃s,cellOf a b=some (vX xh s)/\
 ∃k,cellOf a (c.add 1)=some (vX xh k)/\
 ∃g,cellOf a (b.add 1)=some (vX xh g)/\
 ∃e,cellOf a (c.add 2)=some (vX xh e)/\
 ∃d,cellOf a (b.add 2)=some (vX xh d)/\
 ag xl 157 #[x3,s] bt a fun u h3=>
 (ar.ok [(b.add 2,d),(c.add 2,e),(b.add 1,g),(c.add 1,k)] h3)/\
 ag xl 157 #[k,g] bt h3 fun m r=>
 (ar.ok [(b.add 2,d),(c.add 2,e)] r)/\
 ag xl 157 #[e,d] bt r fun l p=>
 (ar.ok [] p)/\
 av xl (qq 22 3 #[(0,u),(1,m),(2,l)]) aK p fun i q=>
 (ar.ok [] q)/\
 ag xl 155 #[i] bt q fun j o=>
 (ar.ok [] o)/\
 R j o
theorem OO(a:ee)(b:ee)(c: @Hw R h a b):ae xl 135 #[a,b] h R:=au af Tryz.func135 .n c
abbrev kB:FuncId:=136
def gf(a:Sl)(d:FuncId×Array Value×Array Value):Prop:=
 Br ((a.len:Int)<2)
 (R a h)
 (aM (σ:=Int) (fun c w m=>
 Br (c<(a.len:Int))
 (∃r,(a.ptr=some r/\0<=c/\c<(a.len:Int))/\
 ∃x3:ee,aj m (r.add (c.toNat*8)) 0 x3/\
 ∃a4,(a.ptr=some a4/\0<=(qc xh (c-1))/\(qc xh (c-1))<(a.len:Int))/\
 ∃g:ee,aj m (a4.add ((qc xh (c-1)).toNat*8)) 0 g/\
 iq C d.1 (d.2.1.toList++[(xg #[x3.1,x3.2.1,x3.2.2.1,x3.2.2.2.1,x3.2.2.2.2.1,x3.2.2.2.2.2.1,(vX xj x3.2.2.2.2.2.2.1),x3.2.2.2.2.2.2.2]),(xg #[g.1,g.2.1,g.2.2.1,g.2.2.2.1,g.2.2.2.2.1,g.2.2.2.2.2.1,(vX xj g.2.2.2.2.2.2.1),g.2.2.2.2.2.2.2])]++d.2.2.toList) bX m fun t o=>
 (ar.ok [] o)/\
 Br t
 ((0<=c/\c<=(a.len:Int))/\
 aM (σ:=Int×Int) (fun b s h3=>
 Br (decide (b.2<(((a.len-c.toNat):Nat):Int)))
 (∃q:Addr,((if a.cap=c.toNat then a.ptr else a.ptr.map (·.add (c.toNat*8)))=some q/\0<=b.2/\b.2<(((a.len-c.toNat):Nat):Int))/\
 ∃f:ee,aj h3 (q.add (b.2.toNat*8)) 0 f/\
 ∃i:Addr,((if a.cap=c.toNat then a.ptr else a.ptr.map (·.add (c.toNat*8)))=some i/\0<=(qc xh (b.2-1))/\(qc xh (b.2-1))<(((a.len-c.toNat):Nat):Int))/\
 ∃e:ee,aj h3 (i.add ((qc xh (b.2-1)).toNat*8)) 0 e/\
 iq C d.1 (d.2.1.toList++[(xg #[f.1,f.2.1,f.2.2.1,f.2.2.2.1,f.2.2.2.2.1,f.2.2.2.2.2.1,(vX xj f.2.2.2.2.2.2.1),f.2.2.2.2.2.2.2]),(xg #[e.1,e.2.1,e.2.2.1,e.2.2.2.1,e.2.2.2.2.1,e.2.2.2.2.2.1,(vX xj e.2.2.2.2.2.2.1),e.2.2.2.2.2.2.2])]++d.2.2.toList) bX h3 fun p n=>
 (ar.ok [] n)/\
 Br (!p)
 (∃l:Addr,((if a.cap=c.toNat then a.ptr else a.ptr.map (·.add (c.toNat*8)))=some l/\0<=b.2/\b.2<(((a.len-c.toNat):Nat):Int))/\
 ∃j:ee,aj n (l.add (b.2.toNat*8)) 0 j/\
 ∃k,(a.ptr=some k/\0<=b.1/\b.1<(a.len:Int))/\
 ac xl (qf 134 (k.add (b.1.toNat*8)) j) n fun _ u=>
 s (qc xh (b.1+1),qc xh (b.2+1)) u)
 (s (b.1,qc xh (b.2+1)) n))
 ((0<=b.1/\b.1<=(a.len:Int))/\
 ac xl (yt #[131] 0 #[(.slice (if a.cap=b.1.toNat then a.ptr else a.ptr.map (·.add (b.1.toNat*8))) (a.len-b.1.toNat) (a.cap-b.1.toNat))]) h3 fun _ v=>
 (0<=b.1/\b.1<=(a.cap:Int))/\
 R (vY a.ptr b.1.toNat a.cap) v)) (c,(1:Int)) o)
 (w (qc xh (c+1)) o))
 (R a m)) (1:Int) h)
theorem ku(b:Sl)(a:FuncId×Array Value×Array Value)(c: @gf R h b a):ae xl 136 #[b,(.func (.func a.1) a.2.1 a.2.2)] h R:=au af Tryz.func136 (al.tn (al.tn (.two (al.tn (.inn (.loop [(5,ba)] [(4,8),(12,65)] (al.tn (.two (.inn (al.tn (.two (al.tn (.two (al.tn (.inn (.loop [(5,ba),(7,ba)] [(5,6),(7,8),(32,59)] .n))) .n)) .n))) .n))))) .n))) c
abbrev nM:FuncId:=137
def xV(a:ee)(c:ee):Prop:=
 aQ xl (qL 134 a) h fun e i=>
 aQ xl (qL 134 c) i fun f b=>
 ∃x3:ee,aj b e 0 x3/\
 ∃d:ee,aj b f 0 d/\
 ag xl 135 #[x3,d] bt b fun g h3=>
 R (xf (g==0)) h3
theorem Hx(a:ee)(b:ee)(c: @xV R h a b):ae xl 137 #[a,b] h R:=au af Tryz.func137 .n c
abbrev OP:FuncId:=141
def Fx(a:Sl)(d:Int)(b:Int):Prop:=
 aM (σ:=Sl×Int) (fun c f e=>
 Br (c.2>=0)
 ((0<=(qc xh (8*c.2)))/\
 av xl (qq 38 1 #[(0,(vX xi (qc xi (qT d (2^min (qc xh (8*c.2)).toNat (qk xh))))))]) aK e fun i g=>
 av xl (qt #[38,38] 38 #[c.1,i]) aK g fun v3 h3=>
 f ((⟨v3.ptr,v3.len,v3.cap⟩:Sl),qc xh (c.2-1)) h3)
 (R c.1 e)) ((⟨a.ptr,a.len,a.cap⟩:Sl),qc xh (b-1)) h
theorem Mw(b:Sl)(c:Int)(a:Int)(d: @Fx R h b c a):ae xl 141 #[b,c,a] h R:=au af Tryz.func141 (al.tn (.two (al.tn (.inn (.loop [(0,cu),(7,ba)] [(0,1),(7,8),(10,22)] .n))) .n)) d
abbrev VM:FuncId:=142
def Mx(a:Int)(c:Sl):Prop:=
 bf (σ:=Unit) (fun _ k=>
 av xl (qD 38 (vX xh (64:Int)) (vX xh (64:Int))) aK k fun b j=>
 av xl (qq 38 4 #[(0,(vX xi (87:Int))),(1,(vX xi (115:Int))),(2,(vX xi (1:Int))),(3,(vX xi (qc xi a)))]) aK j fun v3 h3=>
 av xl (wX #[38,38] 3 #[b,v3]) bt h3 fun _ o=>
 (0<=(4:Int)/\(4:Int)<=(b.len:Int))/\
 av xl (wX #[38,38] 3 #[(.slice (if b.cap=(4:Int).toNat then b.ptr else b.ptr.map (·.add ((4:Int).toNat*1))) (b.len-(4:Int).toNat) (b.cap-(4:Int).toNat)),c]) bt o fun _ l=>
 (0<=(59:Int)/\(59:Int)<=(b.cap:Int))/\
 ag xl 190 #[(vY b.ptr ((59:Int).toNat) b.cap)] (.one (.sc (.int .u32))) l fun i m=>
 aM (σ:=Int) (fun d p f=>
 Br (d<4)
 ((0<=(qc xh (8*d)))/\
 ∃e,(b.ptr=some e/\0<=(qc xh (59+d))/\(qc xh (59+d))<(b.len:Int))/\
 ac xl (qf 5 (e.add ((qc xh (59+d)).toNat*1)) (vX xi (qc xi (qT i (2^min (qc xh (8*d)).toNat (qk xj)))))) f fun _ h8=>
 p (qc xh (d+1)) h8)
 (∃a9,(b.ptr=some a9/\0<=(63:Int)/\(63:Int)<(b.len:Int))/\
 ac xl (qf 5 (a9.add ((63:Int).toNat*1)) (vX xi (165:Int))) f fun _ g=>
 R b g)) (0:Int) m)
 (fun n=>
 Br (a<1) (R (vY none 0 0) h) (Br (a>255) (R (vY none 0 0) h) (Br ((c.len:Int)>55)
 (R (vY none 0 0) h)
 (n () h))))
theorem TJ(b:Int)(a:Sl)(c: @Mx R h b a):ae xl 142 #[b,a] h R:=au af Tryz.func142 (al.tn (.two (.join [] [(4,5),(8,19)] .n) (al.tn (al.tn (al.tn (al.tn (.two (al.tn (.inn (.loop [(32,ba)] [(7,8),(32,45)] .n))) .n))))))) c
abbrev Ce:FuncId:=143
abbrev uP:FuncId:=144
abbrev rK:FuncId:=145
def mQ(a:Option Addr):Prop:=
 bf (σ:=Unit) (fun _ f=>
 ∃a4,(a=some a4)/\
 ∃b:Option Addr,cellOf f a4=some (.pointer b)/\
 ag xl 34 #[b] bX f fun i e=>
 Br (!i)
 (R (vX xh (14:Int)) e)
 (∃d,(a=some d)/\
 ac xl (qf 3 (d.add 3) (vX xh (0:Int))) e fun _ h3=>
 ag xl 111 #[a] bt h3 fun k j=>
 R k j))
 (fun g=>
 Br (zi a) (R (vX xh (5:Int)) h) (∃c,(a=some c)/\
 ∃x2:Bool,cellOf h (c.add 6)=some (xf x2)/\
 Br x2
 (R (vX xh (5:Int)) h)
 (g () h)))
theorem pY(a:Option Addr)(b: @mQ R h a):ae xl 145 #[a] h R:=au af Tryz.func145 (al.tn (.two (.join [] [(2,11)] .n) .n)) b
abbrev My:FuncId:=146
def Dc(c:bH)(a:Int):Prop:=
 aQ xl (qL 24 c) h fun b d=>
 ∃x2:bH,aj d b 0 x2/\
 ∃x3:bH,aj d b 0 x3/\
 ag xl 150 #[x3] aK d fun g e=>
 (ar.ok [(b,x2.1),(b.add 1,x2.2.1),(b.add 2,x2.2.2)] e)/\
 ag xl 128 #[x2,(vX xj a),g] bX e fun f h3=>
 (ar.ok [] h3)/\
 R f h3
theorem KD(b:bH)(a:Int)(c: @Dc R h b a):ae xl 146 #[b,(vX xj a)] h R:=au af Tryz.func146 .n c
abbrev Hy:FuncId:=147
def Cf(y:Option Addr)(f:Sl)(i:Sl):Prop:=
 bf (σ:=Unit) (fun _ h3=>
 ag xl 193 #[f] bt h3 fun j P=>
 ag xl 194 #[f] aK P fun d L=>
 aM (σ:=Int) (fun e S v=>
 Br (e<(d.len:Int))
 (∃J,(d.ptr=some J/\0<=e/\e<(d.len:Int))/\
 ∃I:Sl,cellOf v (J.add (e.toNat*1))=some (I:Value)/\
 ∃a9,(i.ptr=some a9/\0<=e/\e<(i.len:Int))/\
 ∃n:Sl,cellOf v (a9.add (e.toNat*1))=some (n:Value)/\
 av xl (qt #[38,38] 38 #[I,n]) aK v fun A G=>
 (ar.ok [] G)/\
 ∃t,(d.ptr=some t/\0<=e/\e<(d.len:Int))/\
 ac xl (qf 38 (t.add (e.toNat*1)) A) G fun _ h8=>
 (ar.ok [] h8)/\
 S (qc xh (e+1)) h8)
 (ag xl 196 #[y] mL v fun z K=>
 ag xl 195 #[z,d,j] bt K fun a s=>
 Br (a<j)
 (R (.tuple #[(vY none 0 0),(vX xh (9:Int))]) s)
 ((0<=a/\a<=(d.len:Int))/\
 aM (σ:=Int) (fun g M m=>
 Br (decide (g<(((d.len-a.toNat):Nat):Int)))
 (∃q:Addr,((if d.cap=a.toNat then d.ptr else d.ptr.map (·.add (a.toNat*1)))=some q/\0<=g/\g<(((d.len-a.toNat):Nat):Int))/\
 ∃r:Sl,cellOf m (q.add (g.toNat*1))=some (r:Value)/\
 ag xl 197 #[r] bt m fun w o=>
 Br (w>=0)
 (R (.tuple #[(vY none 0 0),(vX xh (10:Int))]) o)
 (M (qc xh (g+1)) o))
 ((0<=a/\a<=(d.cap:Int))/\
 aM (σ:=Sl×Int) (fun c Q l=>
 Br (c.2<(a.toNat:Int))
 (∃p,(d.ptr=some p/\0<=c.2/\c.2<(a.toNat:Int))/\
 ∃b:Sl,cellOf l (p.add (c.2.toNat*1))=some (b:Value)/\
 (0<=j/\j<=(b.len:Int))/\
 ag xl 91 #[(.slice (if b.cap=j.toNat then b.ptr else b.ptr.map (·.add (j.toNat*1))) (b.len-j.toNat) (b.cap-j.toNat))] aK l fun B F=>
 av xl (qq 59 1 #[(0,B)]) aK F fun D x=>
 av xl (qt #[59,59] 59 #[c.1,D]) aK x fun k E=>
 Q ((⟨k.ptr,k.len,k.cap⟩:Sl),qc xh (c.2+1)) E)
 (R (.tuple #[c.1,(vX xh (0:Int))]) l)) ((⟨none,0,0⟩:Sl),(0:Int)) m)) (0:Int) s))) (0:Int) L)
 (fun O=>
 ag xl 192 #[f] bX h fun N H=>
 Br (!N) (R (.tuple #[(vY none 0 0),(vX xh (1:Int))]) H) (ag xl 192 #[i] bX H fun T u=>
 Br (!T) (R (.tuple #[(vY none 0 0),(vX xh (1:Int))]) u) (Br ((f.len:Int) !=(i.len:Int)) (R (.tuple #[(vY none 0 0),(vX xh (1:Int))]) u) (Br ((f.len:Int)==0)
 (R (.tuple #[(vY none 0 0),(vX xh (1:Int))]) u)
 (O () u)))))
theorem Fy(c:Option Addr)(a:Sl)(b:Sl)(d: @Cf R h c a b):ae xl 147 #[c,a,b] h R:=au af Tryz.func147 (al.tn (.two (.join [] [(6,8),(17,37)] .n) (al.tn (al.tn (.two (al.tn (.inn (.loop [(43,ba)] [(10,11),(43,59)] .n))) (al.tn (al.tn (.two (al.tn (.inn (.loop [(71,ba)] [(6,8),(13,14),(71,79)] .n))) (al.tn (.two (al.tn (.inn (.loop [(14,cu),(83,ba)] [(14,15),(16,17),(83,95)] .n))) .n)))))))))) d
abbrev abc:FuncId:=148
def TK:Prop:=
 ag xl 198 #[] (.one (.arr (.int .u8))) h fun k g=>
 aQ xl (qK 270 true (.tuple #[])) g fun a j=>
 ac xl (qf 270 a (xg (k.map (Sc.enc (.int .u8))).toArray)) j fun _ h3=>
 ∃x3:List (Int),(x3.length=255/\aj h3 a 0 (x3.map (Sc.enc (.int .u8))))/\
 ∃b:List (Int),(b.length=255/\aj h3 a 0 (b.map (Sc.enc (.int .u8))))/\
 ag xl 199 #[(xg (b.map (Sc.enc (.int .u8))).toArray)] (.one (.arr (.int .i64))) h3 fun i c=>
 (ar.ok (mD a 0 (x3.map (Sc.enc (.int .u8))) []) c)/\
 ∃d:Value,(aI xl (vI 275 #[(0,(xg (x3.map (Sc.enc (.int .u8))).toArray)),(1,(xg (i.map (Sc.enc (.int .i64))).toArray))]) d)/\
 aQ xl (qL 275 d) c fun f e=>
 (ar.ok (mD a 0 (x3.map (Sc.enc (.int .u8))) []) e)/\
 R f e
theorem YG(a: @TK R h):ae xl 148 #[] h R:=au af Tryz.func148 .n a
abbrev KE:FuncId:=149
def Bp(e:bH)(c:Int)(a:Sl):Prop:=
 aQ xl (qL 24 e) h fun n i=>
 ∃x2:bH,aj i n 0 x2/\
 ag xl 200 #[x2] aK i fun f o=>
 aM (σ:=Sl×Int) (fun b k h3=>
 Br (b.2<(a.len:Int))
 (∃a5,(a.ptr=some a5/\0<=b.2/\b.2<(a.len:Int))/\
 ∃g,cellOf h3 (a5.add (b.2.toNat*1))=some (vX xh g)/\
 ∃m:bH,aj h3 n 0 m/\
 ag xl 201 #[m,(vX xj c),g] aK h3 fun j l=>
 Br (!(zi j.ptr))
 (av xl (qq 59 1 #[(0,j)]) aK l fun v9 p=>
 av xl (qt #[59,59] 59 #[b.1,v9]) aK p fun d q=>
 k ((⟨d.ptr,d.len,d.cap⟩:Sl),qc xh (b.2+1)) q)
 (k ((⟨b.1.ptr,b.1.len,b.1.cap⟩:Sl),qc xh (b.2+1)) l))
 (R b.1 h3)) ((⟨f.ptr,f.len,f.cap⟩:Sl),(0:Int)) o
theorem Jj(c:bH)(a:Int)(b:Sl)(d: @Bp R h c a b):ae xl 149 #[c,(vX xj a),b] h R:=au af Tryz.func149 (al.tn (al.tn (.two (al.tn (.inn (.loop [(7,cu),(15,ba)] [(7,8),(9,11),(15,30)] .n))) .n))) d
abbrev Mz:FuncId:=150
def Dd(b:bH):Prop:=
 aQ xl (qL 24 b) h fun f d=>
 ∃x2,cellOf d f=some (vX xh x2)/\
 aM (σ:=Sl×Int) (fun a e c=>
 Br (decide (a.2<(if(if(16:Int)<x2 then(16:Int)else x2)>(0:Int)then(if(16:Int)<x2 then(16:Int)else x2)else(0:Int))))
 (av xl (qq 22 1 #[(0,a.2)]) aK c fun v4 h3=>
 av xl (qt #[22,22] 22 #[a.1,v4]) aK h3 fun v5 g=>
 e ((⟨v5.ptr,v5.len,v5.cap⟩:Sl),qc xh (a.2+1)) g)
 (R a.1 c)) ((⟨none,0,0⟩:Sl),(0:Int)) d
theorem KF(a:bH)(b: @Dd R h a):ae xl 150 #[a] h R:=au af Tryz.func150 (al.tn (al.tn (.two (al.tn (.inn (.loop [(3,cu),(9,ba)] [(3,5),(9,17)] .n))) .n))) b
abbrev VN:FuncId:=151
def MB(a:Int):Prop:=
 Br (a<0) (R (.complex .f64 0 0) h) (Br (a>=4096)
 (R (.complex .f64 0 0) h)
 (ag xl 202 #[] mL h fun d g=>
 aM (σ:=Int) (fun e f c=>
 Br (e==a)
 (∃a3,(d=some a3)/\
 ∃b:Nat×Nat,cellOf c a3=some (.complex .f64 b.1 b.2)/\
 R (.complex .f64 b.1 b.2) c)
 (ag xl 203 #[d] iC c fun _ h3=>
 f (qc xh (e+1)) h3)) (0:Int) g))
theorem TL(a:Int)(b: @MB R h a):ae xl 151 #[a] h R:=au af Tryz.func151 (al.tn (.scope 0 [(4,ba)] [(2,3),(4,5),(12,23)] [.n,.n,.n] [.n] [])) b
abbrev TM:FuncId:=152
def JN(b:Nat×Nat)(c:Nat×Nat):Prop:=
 ∃a:Nat×Nat,(kI xl .sub 212 (.tmp 6) (.tmp 7) (.complex .f64 b.1 b.2) (.complex .f64 c.1 c.2) (.complex .f64 a.1 a.2))/\
 ∃d:Nat,((FloatKind.format .f64).mul a.1 a.1=some d)/\
 ∃e:Nat,((FloatKind.format .f64).mul a.2 a.2=some e)/\
 ∃f:Nat,((FloatKind.format .f64).add d e=some f)/\
 R (.float .f64 f) h
theorem Rn(a:Nat×Nat)(b:Nat×Nat)(c: @JN R h a b):ae xl 152 #[(.complex .f64 a.1 a.2),(.complex .f64 b.1 b.2)] h R:=au af Tryz.func152 .n c
abbrev gY:FuncId:=153
abbrev lA:FuncId:=154
def Bq(a:Int×Nat)(b:Int×Nat):Prop:=
 aQ xl (qL 219 (xg #[a.1,(.float .f64 a.2)])) h fun e n=>
 aQ xl (qL 219 (xg #[b.1,(.float .f64 b.2)])) n fun f c=>
 ∃x3:Nat,cellOf c (e.add 1)=some (.float .f64 x3)/\
 ∃m:Nat,cellOf c (f.add 1)=some (.float .f64 m)/\
 ∃d,cellOf c e=some (vX xh d)/\
 ∃g,cellOf c f=some (vX xh g)/\
 ag xl 156 #[(.float .f64 x3),(.float .f64 m)] bt c fun p h3=>
 (ar.ok [(f,g),(e,d)] h3)/\
 ag xl 157 #[d,g] bt h3 fun o k=>
 (ar.ok [] k)/\
 av xl (qq 22 2 #[(0,p),(1,o)]) aK k fun v9 l=>
 (ar.ok [] l)/\
 ag xl 155 #[v9] bt l fun i j=>
 (ar.ok [] j)/\
 R i j
theorem Jk(a:Int×Nat)(b:Int×Nat)(c: @Bq R h a b):ae xl 154 #[(xg #[a.1,(.float .f64 a.2)]),(xg #[b.1,(.float .f64 b.2)])] h R:=au af Tryz.func154 .n c
abbrev Ro:FuncId:=155
def xW(a:Sl):Prop:=
 aM (σ:=Int) (fun b e c=>
 Br (b<(a.len:Int))
 (∃d,(a.ptr=some d/\0<=b/\b<(a.len:Int))/\
 ∃x3,cellOf c (d.add (b.toNat*1))=some (vX xh x3)/\
 Br (x3 !=0)
 (R x3 c)
 (e (qc xh (b+1)) c))
 (R (vX xh (0:Int)) c)) (0:Int) h
theorem De(a:Sl)(b: @xW R h a):ae xl 155 #[a] h R:=au af Tryz.func155 (al.tn (al.tn (.two (al.tn (.inn (.loop [(8,ba)] [(2,3),(5,6),(8,17)] .n))) .n))) b
abbrev Cg:FuncId:=156
def oY(b:Nat)(a:Nat):Prop:=
 ag xl 205 #[(.float .f64 b)] bX h fun f e=>
 ag xl 205 #[(.float .f64 a)] bX e fun d c=>
 Br f
 (Br d
 (R (vX xh (0:Int)) c)
 (R (vX xh (-1:Int)) c))
 (Br d
 (R (vX xh (1:Int)) c)
 (Br ((FloatKind.format .f64).order b a==some .lt)
 (R (vX xh (-1:Int)) c)
 (Br ((FloatKind.format .f64).order b a==some .gt)
 (R (vX xh (1:Int)) c)
 (R (vX xh (0:Int)) c))))
theorem AK(a:Nat)(b:Nat)(c: @oY R h a b):ae xl 156 #[(.float .f64 a),(.float .f64 b)] h R:=au af Tryz.func156 .n c
abbrev tz:FuncId:=157
def nN(b:Int)(a:Int):Prop:=
 ag xl 206 #[b] bX h fun f e=>
 ag xl 206 #[a] bX e fun d c=>
 Br f
 (Br d
 (R (vX xh (0:Int)) c)
 (R (vX xh (-1:Int)) c))
 (Br d
 (R (vX xh (1:Int)) c)
 (Br (b<a)
 (R (vX xh (-1:Int)) c)
 (Br (b>a)
 (R (vX xh (1:Int)) c)
 (R (vX xh (0:Int)) c))))
theorem rL(a:Int)(b:Int)(c: @nN R h a b):ae xl 157 #[a,b] h R:=au af Tryz.func157 .n c
abbrev Rp:FuncId:=158
def Hz(f:ee):Prop:=
 aQ xl (qL 134 f) h fun b a=>
 bf (σ:=Bool) (fun o g=>
 Br o (∃m:bH,aj g (b.add 3) 0 m/\
 ag xl 39 #[m] bX g fun i h3=>
 Br i (∃e:Sl,cellOf h3 (b.add 7)=some (e:Value)/\
 ∃d,cellOf h3 ((b.add 3).add 2)=some (vX xh d)/\
 R (xf ((e.len:Int)==d)) h3) (R false h3)) (R false g))
 (fun c=>
 ∃x2,cellOf a b=some (vX xh x2)/\
 Br (x2>=0) (∃x3,cellOf a b=some (vX xh x3)/\
 Br (x3<=16777215) (∃n,cellOf a (b.add 1)=some (vX xh n)/\
 Br (n>=0) (∃j,cellOf a (b.add 1)=some (vX xh j)/\
 Br (j<8) (∃l,cellOf a (b.add 2)=some (vX xh l)/\
 Br (l>=0) (∃k,cellOf a (b.add 2)=some (vX xh k)/\
 c (decide (k<=65535)) a) (c false a)) (c false a)) (c false a)) (c false a)) (c false a))
theorem OQ(a:ee)(b: @Hz R h a):ae xl 158 #[a] h R:=au af Tryz.func158 (al.tn (.two (.join [(3,lI)] [(3,32)] .n) .n)) b
abbrev KG:FuncId:=159
def Bt(a:Sl)(d:Int)(b:Int):Prop:=
 aM (σ:=Sl×Int) (fun c f e=>
 Br (c.2>=0)
 ((0<=(qc xh (8*c.2)))/\
 av xl (qq 38 1 #[(0,(vX xi (qc xi (qT d (2^min (qc xh (8*c.2)).toNat (qk xh))))))]) aK e fun i g=>
 av xl (qt #[38,38] 38 #[c.1,i]) aK g fun v3 h3=>
 f ((⟨v3.ptr,v3.len,v3.cap⟩:Sl),qc xh (c.2-1)) h3)
 (R c.1 e)) ((⟨a.ptr,a.len,a.cap⟩:Sl),qc xh (b-1)) h
theorem Jl(b:Sl)(c:Int)(a:Int)(d: @Bt R h b c a):ae xl 159 #[b,c,a] h R:=au af Tryz.func159 (al.tn (.two (al.tn (.inn (.loop [(0,cu),(7,ba)] [(0,1),(7,8),(10,22)] .n))) .n)) d
abbrev nO:FuncId:=160
def ji(b:Sl)(v:Int)(x:Int)(i:Int)(a:FuncId×Array Value×Array Value):Prop:=
 aM (σ:=Tu6) (fun c z s=>
 Br ((qc xh (c.2.1-c.1))<=12)
 (ag xl 207 #[b,c.1,c.2.1,(.func (.func a.1) a.2.1 a.2.2)] iC s fun _ M=>
 R (.tuple #[]) M)
 (Br (c.2.2.1==0)
 (ag xl 208 #[b,c.1,c.2.1,(.func (.func a.1) a.2.1 a.2.2)] iC s fun _ h3=>
 R (.tuple #[]) h3)
 (bf (σ:=Int) (fun p N=>
 ag xl 210 #[b,c.1,c.2.1,(.func (.func a.1) a.2.1 a.2.2)] (.many [ba,ba]) N fun r G=>
 bf (σ:=Int×Int) (fun k h8=>
 bf (σ:=Unit) (fun _ f=>
 bf (σ:=Int) (fun j D=>
 ag xl 214 #[b,j,c.2.1,k.1,(.func (.func a.1) a.2.1 a.2.2)] (.many [ba,lI]) D fun d l=>
 ((8:Int)≠0)/\
 Br ((qc xh (d.1-j))<(qc xh (c.2.1-d.1)))
 (ag xl 160 #[b,j,d.1,p,(.func (.func a.1) a.2.1 a.2.2)] iC l fun _ B=>
 z (qc xh (d.1+1),c.2.1,p,decide ((qc xh (d.1-j))>=(qc xh (wH (qc xh (c.2.1-c.1)) 8))),d.2) B)
 (ag xl 160 #[b,(qc xh (d.1+1)),c.2.1,p,(.func (.func a.1) a.2.1 a.2.2)] iC l fun _ u=>
 z (j,d.1,p,decide ((qc xh (c.2.1-d.1))>=(qc xh (wH (qc xh (c.2.1-c.1)) 8))),d.2) u))
 (fun L=>
 bf (σ:=Bool) (fun y m=>
 Br y
 (ag xl 213 #[b,c.1,c.2.1,k.1,(.func (.func a.1) a.2.1 a.2.2)] bt m fun E w=>
 z (E,c.2.1,p,c.2.2.2.1,c.2.2.2.2) w)
 (L c.1 m))
 (fun I=>
 Br (c.1>0) (∃n,(b.ptr=some n/\0<=(qc xh (c.1-1))/\(qc xh (c.1-1))<(b.len:Int))/\
 ∃e:jg,aj f (n.add ((qc xh (c.1-1)).toNat*4)) 0 e/\
 ∃q,(b.ptr=some q/\0<=k.1/\k.1<(b.len:Int))/\
 ∃g:jg,aj f (q.add (k.1.toNat*4)) 0 g/\
 iq C a.1 (a.2.1.toList++[(xg #[e.1,e.2.1,e.2.2.1,e.2.2.2]),(xg #[g.1,g.2.1,g.2.2.1,g.2.2.2])]++a.2.2.toList) bt f fun A o=>
 (ar.ok [] o)/\
 I (!(decide (A<0))) o) ((ar.ok [] f)/\
 I false f))))
 (fun t=>
 Br c.2.2.2.1 (Br c.2.2.2.2 (Br (k.2==1)
 (ag xl 212 #[b,c.1,c.2.1,(.func (.func a.1) a.2.1 a.2.2)] bX h8 fun O F=>
 Br O
 (R (.tuple #[]) F)
 (t () F))
 (t () h8)) (t () h8)) (t () h8)))
 (fun H=>
 Br (r.2==2)
 (ag xl 211 #[b,c.1,c.2.1,(.func (.func a.1) a.2.1 a.2.2)] iC G fun _ K=>
 H (qc xh ((qc xh (c.2.1-1))-(qc xh (r.1-c.1))),(1:Int)) K)
 (H (r.1,r.2) G)))
 (fun J=>
 Br (!c.2.2.2.1)
 (ag xl 209 #[b,c.1,c.2.1,(.func (.func a.1) a.2.1 a.2.2)] iC s fun _ P=>
 J (qc xh (c.2.2.1-1)) P)
 (J c.2.2.1 s))))) (v,x,i,true,true) h
theorem nu(c:Sl)(d:Int)(e:Int)(b:Int)(a:FuncId×Array Value×Array Value)(f: @ji R h c d e b a):ae xl 160 #[c,d,e,b,(.func (.func a.1) a.2.1 a.2.2)] h R:=au af Tryz.func160 (al.tn (al.tn (.inn (.loop [(1,ba),(2,ba),(3,ba),(10,lI),(11,lI)] [(1,4),(10,148)] (.inn (al.tn (al.tn (al.tn (.two (.join [(3,ba)] [(3,4),(38,47)] .n) (al.tn (.two (.join [(13,ba),(14,ba)] [(13,15),(55,68)] .n) (.two (.join [] [(68,81)] .n) (.two (.join [(1,ba)] [(1,2),(15,16),(81,105)] (.two (.join [(97,lI)] [(81,98)] .n) .n)) .n))))))))))))) f
abbrev xX:FuncId:=161
abbrev Ga:FuncId:=162
def tC(a:ByteArray):Prop:=
 R (xf (!(a.toList==a.toList))) h
theorem Ez(a:ByteArray)(b: @tC R h a):ae xl 162 #[a] h R:=au af Tryz.func162 .n b
abbrev tE:FuncId:=163
def fT(b:Sl)(a:FuncId×Array Value×Array Value):Prop:=
 aM (σ:=Int) (fun c g d=>
 Br (c<(b.len:Int))
 (∃e,(b.ptr=some e/\0<=c/\c<(b.len:Int))/\
 ∃x3,cellOf d (e.add (c.toNat*1))=some (vX xh x3)/\
 iq C a.1 (a.2.1.toList++[(vX xh x3)]++a.2.2.toList) bX d fun i f=>
 Br i
 (R c f)
 (g (qc xh (c+1)) f))
 (R (vX xh (-1:Int)) d)) (0:Int) h
theorem ia(b:Sl)(a:FuncId×Array Value×Array Value)(c: @fT R h b a):ae xl 163 #[b,(.func (.func a.1) a.2.1 a.2.2)] h R:=au af Tryz.func163 (al.tn (.two (al.tn (.inn (.loop [(8,ba)] [(4,6),(8,19)] .n))) .n)) c
abbrev OR:FuncId:=164
def Fz(c:Option Addr)(a:Int)(b:Int):Prop:=
 ag xl 109 #[c] bt h fun d e=>
 R (decide ((if(0:Int)>b then(0:Int)else b)<=(qc xh (d-a)))) e
theorem MC(c:Option Addr)(a:Int)(b:Int)(d: @Fz R h c a b):ae xl 164 #[c,a,b] h R:=au af Tryz.func164 .n d
abbrev HB:FuncId:=165
def ut(a:Option Addr):Prop:=
 Br (zi a)
 (R (vX xh (0:Int)) h)
 (∃b,(a=some b)/\
 ∃x2:Sl,cellOf h (b.add 2)=some (x2:Value)/\
 R (vX xh (x2.len:Int)) h)
theorem Gb(a:Option Addr)(b: @ut R h a):ae xl 165 #[a] h R:=au af Tryz.func165 .n b
abbrev pZ:FuncId:=167
def Df(a:Int):Prop:=
 ag xl 113 #[a,(vX xh (0:Int)),(vX xh (15:Int))] bX h fun b c=>
 R (xf (!b)) c
theorem KH(a:Int)(b: @Df R h a):ae xl 167 #[a] h R:=au af Tryz.func167 .n b
def gF(b:Sl)(a:FuncId×Array Value×Array Value):Prop:=
 aM (σ:=Int) (fun c g d=>
 Br (c<(b.len:Int))
 (∃e,(b.ptr=some e/\0<=c/\c<(b.len:Int))/\
 ∃x3:Int×Sl,aj d (e.add (c.toNat*2)) 0 x3/\
 iq C a.1 (a.2.1.toList++[(xg #[x3.1,x3.2])]++a.2.2.toList) bX d fun i f=>
 Br i
 (R c f)
 (g (qc xh (c+1)) f))
 (R (vX xh (-1:Int)) d)) (0:Int) h
theorem kP(b:Sl)(a:FuncId×Array Value×Array Value)(c: @gF R h b a):ae xl 168 #[b,(.func (.func a.1) a.2.1 a.2.2)] h R:=au af Tryz.func168 (al.tn (.two (al.tn (.inn (.loop [(8,ba)] [(4,6),(8,19)] .n))) .n)) c
abbrev OS:FuncId:=169
def FA(d:bH)(a:Int)(b:Sl):Prop:=
 aQ xl (qL 24 d) h fun c g=>
 ∃x2:bH,aj g c 0 x2/\
 ag xl 148 #[] mL g fun i f=>
 (ar.ok [(c,x2.1),(c.add 1,x2.2.1),(c.add 2,x2.2.2)] f)/\
 ag xl 149 #[x2,(vX xj a),b] aK f fun j h3=>
 (ar.ok [] h3)/\
 ag xl 222 #[i,j] bt h3 fun k e=>
 (ar.ok [] e)/\
 R k e
theorem MD(c:bH)(a:Int)(b:Sl)(d: @FA R h c a b):ae xl 169 #[c,(vX xj a),b] h R:=au af Tryz.func169 .n d
abbrev VO:FuncId:=170
def ME(b:bH):Prop:=
 aQ xl (qL 24 b) h fun c e=>
 ∃x2:bH,aj e c 0 x2/\
 ag xl 39 #[x2] bX e fun g a=>
 Br (!g)
 (R (vX xh (0:Int)) a)
 (∃f,cellOf a c=some (vX xh f)/\
 ∃d,cellOf a (c.add 1)=some (vX xh d)/\
 R (qc xh (f+d)) a)
theorem TN(a:bH)(b: @ME R h a):ae xl 170 #[a] h R:=au af Tryz.func170 .n b
abbrev TO:FuncId:=171
def JO(b:Int)(c:Sl):Prop:=
 ag xl 223 #[b,c] bX h fun N x=>
 Br (!N)
 (R (.tuple #[(vY none 0 0),(vY none 0 0),(vY none 0 0),(vX xh (1:Int))]) x)
 (bf (σ:=Option Addr) (fun u h8=>
 ag xl 224 #[u] iC h8 fun _ M=>
 aM (σ:=Sl×Int) (fun a L e=>
 Br (a.2<(c.len:Int))
 (∃m,(c.ptr=some m/\0<=a.2/\a.2<(c.len:Int))/\
 ∃l:Sl×Sl,aj e (m.add (a.2.toNat*2)) 0 l/\
 aQ xl (qK 235 true (.tuple #[])) e fun s A=>
 ac xl (qf 235 s l) A fun _ i=>
 ∃o:Sl×Sl,aj i s 0 o/\
 ag xl 225 #[u,o] (.one (.agg [.slc,.slc])) i fun B y=>
 aQ xl (qK 235 true (.tuple #[])) y fun f E=>
 ac xl (qf 235 f B) E fun _ d=>
 ∃n:Sl,cellOf d f=some (n:Value)/\
 Br ((n.len:Int)>0)
 (∃q:Sl×Sl,aj d f 0 q/\
 av xl (qq 233 1 #[(0,q)]) aK d fun v D=>
 av xl (qt #[233,233] 233 #[a.1,v]) aK D fun g w=>
 L ((⟨g.ptr,g.len,g.cap⟩:Sl),qc xh (a.2+1)) w)
 (∃j:Sl,cellOf d (f.add 1)=some (j:Value)/\
 ag xl 226 #[j] bX d fun z t=>
 Br (!z)
 (R (.tuple #[(vY none 0 0),(vY none 0 0),(vY none 0 0),(vX xh (10:Int))]) t)
 (L ((⟨a.1.ptr,a.1.len,a.1.cap⟩:Sl),qc xh (a.2+1)) t)))
 (∃k,(u=some k)/\
 ∃r:Sl,cellOf e (k.add 1)=some (r:Value)/\
 ∃a25,(u=some a25)/\
 ∃p:Sl,cellOf e (a25.add 2)=some (p:Value)/\
 R (.tuple #[r,p,a.1,(vX xh (0:Int))]) e)) ((⟨none,0,0⟩:Sl),(0:Int)) M)
 (fun J=>
 (av xl (qD 242 b b) aK x fun P G=>
 (ar.ok [] G)/\
 av xl (qD 59 b b) aK G fun v3 h3=>
 (ar.ok [] h3)/\
 aQ xl (qL 309 (xg #[c,P,v3])) h3 fun a4 K=>
 (ar.ok [] K)/\
 J (some a4) K)/\(av xl (qD 59 b b) aK x fun v5 H=>
 (ar.ok [] H)/\
 av xl (qD 242 b b) aK H fun O I=>
 (ar.ok [] I)/\
 aQ xl (qL 309 (xg #[c,O,v5])) I fun Q F=>
 (ar.ok [] F)/\
 J (some Q) F)))
theorem Rq(a:Int)(b:Sl)(c: @JO R h a b):ae xl 171 #[a,b] h R:=au af Tryz.func171 (al.tn (al.tn (.two (.join [(8,LX)] [(8,9),(16,23)] .n) (al.tn (.two (al.tn (.inn (.loop [(6,cu),(27,ba)] [(4,8),(10,12),(27,47)] .n))) .n))))) c
abbrev Ch:FuncId:=172
def oZ(G:Option Addr)(a:Sl):Prop:=
 aQ xl (qL 236 G) h fun s x=>
 ∃x2:Option Addr,cellOf x s=some (.pointer x2)/\
 ∃a3,(x2=some a3)/\
 ∃t:Sl,cellOf x (a3.add 5)=some (t:Value)/\
 aM (σ:=Sl×Int) (fun d U w=>
 Br (d.2<(t.len:Int))
 (∃L,(t.ptr=some L/\0<=d.2/\d.2<(t.len:Int))/\
 ∃P:Sl×Sl,aj w (L.add (d.2.toNat*2)) 0 P/\
 aQ xl (qK 235 true (.tuple #[])) w fun K h3=>
 ac xl (qf 235 K P) h3 fun _ N=>
 ∃M:Sl,cellOf N K=some (M:Value)/\
 av xl (qq 197 1 #[(0,M)]) aK N fun A S=>
 av xl (qt #[197,197] 197 #[d.1,A]) aK S fun g T=>
 U ((⟨g.ptr,g.len,g.cap⟩:Sl),qc xh (d.2+1)) T)
 (aM (σ:=Sl×Int) (fun b O r=>
 Br (b.2<(a.len:Int))
 (∃q,(a.ptr=some q/\0<=b.2/\b.2<(a.len:Int))/\
 ∃n:Bool,cellOf r (q.add (b.2.toNat*1))=some (xf n)/\
 Br n
 (av xl (qq 22 1 #[(0,b.2)]) aK r fun D h8=>
 av xl (qq 197 1 #[(0,D)]) aK h8 fun y Q=>
 av xl (qt #[197,197] 197 #[b.1,y]) aK Q fun f z=>
 O ((⟨f.ptr,f.len,f.cap⟩:Sl),qc xh (b.2+1)) z)
 (O ((⟨b.1.ptr,b.1.len,b.1.cap⟩:Sl),qc xh (b.2+1)) r))
 (ag xl 227 #[(vX xh (a.len:Int)),b.1] (.many [(.agg [.slc,.slc,.slc]),lI]) r fun u B=>
 aQ xl (qK 239 true (.tuple #[])) B fun c v=>
 ac xl (qf 239 c u.1) v fun _ j=>
 ∃p:Sl,cellOf j c=some (p:Value)/\
 ag xl 228 #[p,(.func (.func 229) #[] #[s])] aK j fun F H=>
 ac xl (qf 237 c F) H fun _ i=>
 ∃m:Sl,cellOf i (c.add 2)=some (m:Value)/\
 ag xl 230 #[m,(.func (.func 231) #[] #[s])] aK i fun J E=>
 ac xl (qf 22 (c.add 2) J) E fun _ e=>
 ∃o:Option Addr,cellOf e s=some (.pointer o)/\
 ∃k:Sl×Sl×Sl,aj e c 0 k/\
 ∃l,(o=some l)/\
 ac xl (qf 239 (l.add 6) k) e fun _ I=>
 R (.tuple #[]) I)) ((⟨d.1.ptr,d.1.len,d.1.cap⟩:Sl),(0:Int)) w)) ((⟨none,0,0⟩:Sl),(0:Int)) x
theorem AL(b:Option Addr)(a:Sl)(c: @oZ R h b a):ae xl 172 #[b,a] h R:=au af Tryz.func172 (al.tn (al.tn (.two (al.tn (.inn (.loop [(4,cu),(16,ba)] [(4,5),(6,7),(16,26)] .n))) (.two (al.tn (.inn (.loop [(4,cu),(28,ba)] [(4,5),(7,9),(28,40)] .n))) .n)))) c
abbrev Ci:FuncId:=173
def pc(b:Option Addr):Prop:=
 ∃a1,(b=some a1)/\
 ∃x2:Sl,cellOf h ((a1.add 6).add 1)=some (x2:Value)/\
 bf (σ:=Unit) (fun _ b0=>
 ∃b9,(b=some b9)/\
 ∃w:Sl,cellOf b0 ((b9.add 6).add 1)=some (w:Value)/\
 aM (σ:=Int) (fun i K2 g=>
 Br (i<(w.len:Int))
 (∃X,(w.ptr=some X/\0<=i/\i<(w.len:Int))/\
 ∃a,cellOf g (X.add (i.toNat*1))=some (vX xh a)/\
 bf (σ:=Unit) (fun _ M=>
 ∃ao,(b=some ao)/\
 ∃D:Sl,cellOf M (ao.add 9)=some (D:Value)/\
 ∃ap,(D.ptr=some ap/\0<=a/\a<(D.len:Int))/\
 ∃H:Sl,cellOf M (ap.add (a.toNat*1))=some (H:Value)/\
 ∃ay,(H.ptr=some ay/\0<=i/\i<(H.len:Int))/\
 ac xl (qf 5 (ay.add (i.toNat*1)) (vX xi (1:Int))) M fun _ c2=>
 K2 (qc xh (i+1)) c2)
 (fun K3=>
 ∃l,(b=some l)/\
 ∃e:Sl,cellOf g (l.add 9)=some (e:Value)/\
 ∃a25,(b=some a25)/\
 ∃c:Sl,cellOf g (a25.add 10)=some (c:Value)/\
 ∃G,(b=some G)/\
 ∃f,cellOf g ((G.add 1).add 2)=some (vX xh f)/\
 (av xl (qD 38 (vX xh (x2.len:Int)) (vX xh (x2.len:Int))) aK g fun U J=>
 (ar.ok [((G.add 1).add 2,f),(a25.add 10,c),(l.add 9,e)] J)/\
 ∃A,(e.ptr=some A/\0<=a/\a<(e.len:Int))/\
 (av xl (qD 38 f f) aK J fun c4 S=>
 (ar.ok [(a25.add 10,c),(l.add 9,e)] S)/\
 ac xl (qf 38 (A.add (a.toNat*1)) U) S fun _ a2=>
 (ar.ok [] a2)/\
 ∃ah,(c.ptr=some ah/\0<=a/\a<(c.len:Int))/\
 ac xl (qf 38 (ah.add (a.toNat*1)) c4) a2 fun _ b1=>
 (ar.ok [] b1)/\
 K3 () b1)/\(ac xl (qf 38 (A.add (a.toNat*1)) U) J fun _ bq=>
 (ar.ok [] bq)/\
 av xl (qD 38 f f) aK bq fun cs b6=>
 (ar.ok [] b6)/\
 ∃bb,(c.ptr=some bb/\0<=a/\a<(c.len:Int))/\
 ac xl (qf 38 (bb.add (a.toNat*1)) cs) b6 fun _ Y=>
 (ar.ok [] Y)/\
 K3 () Y))/\(av xl (qD 38 f f) aK g fun cn T=>
 (ar.ok [(a25.add 10,c),(l.add 9,e)] T)/\
 av xl (qD 38 (vX xh (x2.len:Int)) (vX xh (x2.len:Int))) aK T fun c5 ab=>
 (ar.ok [(a25.add 10,c),(l.add 9,e)] ab)/\
 ∃ad,(e.ptr=some ad/\0<=a/\a<(e.len:Int))/\
 ac xl (qf 38 (ad.add (a.toNat*1)) c5) ab fun _ b4=>
 (ar.ok [] b4)/\
 ∃br,(c.ptr=some br/\0<=a/\a<(c.len:Int))/\
 ac xl (qf 38 (br.add (a.toNat*1)) cn) b4 fun _ b7=>
 (ar.ok [] b7)/\
 K3 () b7)))
 (∃a45,(b=some a45)/\
 ∃y:Sl,cellOf g (a45.add 6)=some (y:Value)/\
 aM (σ:=Int) (fun o K4 I=>
 Br (o<(y.len:Int))
 (∃bl,(y.ptr=some bl/\0<=o/\o<(y.len:Int))/\
 ∃W:Int×Int,aj I (bl.add (o.toNat*2)) 0 W/\
 aQ xl (qK 315 true (.tuple #[])) I fun a50 c0=>
 ac xl (qf 315 a50 W) c0 fun _ u=>
 bf (σ:=Addr) (fun Q B=>
 bf (σ:=Sl×Sl) (fun t b2=>
 ∃q:Sl,cellOf b2 Q=some (q:Value)/\
 aM (σ:=Int) (fun k K7 d=>
 Br (k<(q.len:Int))
 (∃a66,(q.ptr=some a66/\0<=k/\k<(q.len:Int))/\
 ∃N,cellOf d (a66.add (k.toNat*1))=some (vX xh N)/\
 ∃a0,cellOf d (a50.add 1)=some (vX xh a0)/\
 Br (N !=a0)
 (ag xl 232 #[b,(vX xi (1:Int)),N,t.1,t.2] iC d fun _ cr=>
 K7 (qc xh (k+1)) cr)
 (K7 (qc xh (k+1)) d))
 (∃a70,(b=some a70)/\
 ∃K:Sl,cellOf d (a70.add 9)=some (K:Value)/\
 ∃r,cellOf d (a50.add 1)=some (vX xh r)/\
 ∃V,(b=some V)/\
 ∃L:Sl,cellOf d (V.add 10)=some (L:Value)/\
 ∃n,cellOf d (a50.add 1)=some (vX xh n)/\
 ∃a76,(K.ptr=some a76/\0<=r/\r<(K.len:Int))/\
 ac xl (qf 38 (a76.add (r.toNat*1)) t.1) d fun _ ch=>
 (ar.ok [(a50.add 1,n)] ch)/\
 ∃a77,(L.ptr=some a77/\0<=n/\n<(L.len:Int))/\
 ac xl (qf 38 (a77.add (n.toNat*1)) t.2) ch fun _ a7=>
 (ar.ok [] a7)/\
 K4 (qc xh (o+1)) a7)) (0:Int) b2)
 (fun K6=>
 ∃p:Sl,cellOf B (Q.add 1)=some (p:Value)/\
 (av xl (qD 38 (vX xh (x2.len:Int)) (vX xh (x2.len:Int))) aK B fun O bd=>
 (ar.ok [(Q.add 1,p)] bd)/\
 ag xl 91 #[p] aK bd fun P b3=>
 (ar.ok [] b3)/\
 K6 ((⟨O.ptr,O.len,O.cap⟩:Sl),(⟨P.ptr,P.len,P.cap⟩:Sl)) b3)/\(ag xl 91 #[p] aK B fun F a6=>
 (ar.ok [] a6)/\
 av xl (qD 38 (vX xh (x2.len:Int)) (vX xh (x2.len:Int))) aK a6 fun E cf=>
 (ar.ok [] cf)/\
 K6 ((⟨E.ptr,E.len,E.cap⟩:Sl),(⟨F.ptr,F.len,F.cap⟩:Sl)) cf)))
 (fun K5=>
 ∃a51,(b=some a51)/\
 ∃v:Sl,cellOf u (a51.add 5)=some (v:Value)/\
 ∃j,cellOf u a50=some (vX xh j)/\
 ∃x,(v.ptr=some x/\0<=j/\j<(v.len:Int))/\
 ∃s:Sl×Sl,aj u (x.add (j.toNat*2)) 0 s/\
 aQ xl (qK 235 true (.tuple #[])) u fun Z bk=>
 (ar.ok [(x.add (j.toNat*2),s.1),((x.add (j.toNat*2)).add 1,s.2),(a50,j),(a51.add 5,v)] bk)/\
 ac xl (qf 235 Z s) bk fun _ a9=>
 (ar.ok [] a9)/\
 K5 Z a9))
 (R (.tuple #[]) I)) (0:Int) g)) (0:Int) b0)
 (fun K1=>
 ∃a3,(b=some a3)/\
 ∃z:Sl,cellOf h (a3.add 4)=some (z:Value)/\
 ∃a5,(b=some a5)/\
 ∃m:Sl,cellOf h (a5.add 4)=some (m:Value)/\
 (av xl (qD 59 (vX xh (z.len:Int)) (vX xh (z.len:Int))) aK h fun v7 h1=>
 (ar.ok [(a5.add 4,m),(a3.add 4,z)] h1)/\
 ∃a8,(b=some a8)/\
 (av xl (qD 59 (vX xh (m.len:Int)) (vX xh (m.len:Int))) aK h1 fun v9 h2=>
 (ar.ok [(a5.add 4,m),(a3.add 4,z)] h2)/\
 ac xl (qf 59 (a8.add 9) v7) h2 fun _ h3=>
 (ar.ok [] h3)/\
 ∃am,(b=some am)/\
 ac xl (qf 59 (am.add 10) v9) h3 fun _ h4=>
 (ar.ok [] h4)/\
 K1 () h4)/\(ac xl (qf 59 (a8.add 9) v7) h1 fun _ h5=>
 (ar.ok [] h5)/\
 av xl (qD 59 (vX xh (m.len:Int)) (vX xh (m.len:Int))) aK h5 fun cq h6=>
 (ar.ok [] h6)/\
 ∃cc,(b=some cc)/\
 ac xl (qf 59 (cc.add 10) cq) h6 fun _ h7=>
 (ar.ok [] h7)/\
 K1 () h7))/\(av xl (qD 59 (vX xh (m.len:Int)) (vX xh (m.len:Int))) aK h fun c1 h8=>
 (ar.ok [(a5.add 4,m),(a3.add 4,z)] h8)/\
 av xl (qD 59 (vX xh (z.len:Int)) (vX xh (z.len:Int))) aK h8 fun cp h9=>
 (ar.ok [(a5.add 4,m),(a3.add 4,z)] h9)/\
 ∃a4,(b=some a4)/\
 ac xl (qf 59 (a4.add 9) cp) h9 fun _ ax=>
 (ar.ok [] ax)/\
 ∃b5,(b=some b5)/\
 ac xl (qf 59 (b5.add 10) c1) ax fun _ cd=>
 (ar.ok [] cd)/\
 K1 () cd))
theorem AM(a:Option Addr)(b: @pc R h a):ae xl 173 #[a] h R:=au af Tryz.func173 (al.tn (.two (.join [] [(18,36)] .n) (.two (al.tn (.inn (.loop [(42,ba)] [(3,5),(42,77)] (al.tn (al.tn (.two (.inn (al.tn (.two (.join [] [(47,67)] .n) .n))) .n)))))) (al.tn (.inn (.loop [(83,ba)] [(6,10),(11,12),(83,134)] (al.tn (al.tn (.two (.inn (al.tn (.two (.join [(7,(.sc .adr))] [(7,8),(87,95)] .n) (.two (.join [(8,cu),(9,cu)] [(8,10),(95,100)] .n) (.two (al.tn (.inn (.loop [(103,ba)] [(11,12),(103,117)] .n))) .n))))) .n))))))))) b
abbrev Dg:FuncId:=174
def ra(c:Option Addr):Prop:=
 ∃r,(c=some r)/\
 ∃x2:Sl,cellOf h (r.add 4)=some (x2:Value)/\
 aM (σ:=Int) (fun a p d=>
 Br (a<(x2.len:Int))
 (∃a4,(x2.ptr=some a4/\0<=a/\a<(x2.len:Int))/\
 ∃n:Sl,cellOf d (a4.add (a.toNat*1))=some (n:Value)/\
 Br (!(zi n.ptr))
 (∃k,(c=some k)/\
 ∃j:Sl,cellOf d (k.add 9)=some (j:Value)/\
 ∃l,(c=some l)/\
 ∃i:Sl,cellOf d (l.add 10)=some (i:Value)/\
 ∃e,(c=some e)/\
 ∃b:Sl,cellOf d ((e.add 6).add 1)=some (b:Value)/\
 av xl (qD 38 (vX xh (b.len:Int)) (vX xh (b.len:Int))) aK d fun m o=>
 (ar.ok [((e.add 6).add 1,b),(l.add 10,i),(k.add 9,j)] o)/\
 ∃f,(j.ptr=some f/\0<=a/\a<(j.len:Int))/\
 ac xl (qf 38 (f.add (a.toNat*1)) m) o fun _ h3=>
 (ar.ok [] h3)/\
 ∃g,(i.ptr=some g/\0<=a/\a<(i.len:Int))/\
 ac xl (qf 38 (g.add (a.toNat*1)) n) h3 fun _ q=>
 (ar.ok [] q)/\
 p (qc xh (a+1)) q)
 (p (qc xh (a+1)) d))
 (R (.tuple #[]) d)) (0:Int) h
theorem Cj(a:Option Addr)(b: @ra R h a):ae xl 174 #[a] h R:=au af Tryz.func174 (al.tn (.inn (.loop [(9,ba)] [(2,4),(9,37)] .n))) b
abbrev Ck:FuncId:=175
def pd(b:Option Addr):Prop:=
 ∃a1,(b=some a1)/\
 ∃x2:Sl,cellOf h ((a1.add 6).add 1)=some (x2:Value)/\
 ∃a3,(b=some a3)/\
 ∃U:Sl,cellOf h ((a3.add 6).add 2)=some (U:Value)/\
 aM (σ:=Sl×Sl×Int) (fun d K1 B=>
 Br (d.2.2<(U.len:Int))
 (∃a6,(U.ptr=some a6/\0<=d.2.2/\d.2.2<(U.len:Int))/\
 ∃n,cellOf B (a6.add (d.2.2.toNat*1))=some (vX xh n)/\
 bf (σ:=Sl×Sl) (fun j h6=>
 ∃H,(b=some H)/\
 ∃u:Sl,cellOf h6 (H.add 5)=some (u:Value)/\
 ∃L,(u.ptr=some L/\0<=n/\n<(u.len:Int))/\
 ∃i:Sl,cellOf h6 (L.add (n.toNat*2))=some (i:Value)/\
 aM (σ:=Int) (fun g K3 h7=>
 Br (g<(i.len:Int))
 (∃a22,(i.ptr=some a22/\0<=g/\g<(i.len:Int))/\
 ∃N,cellOf h7 (a22.add (g.toNat*1))=some (vX xh N)/\
 ag xl 232 #[b,(vX xi (1:Int)),N,j.1,j.2] iC h7 fun _ h8=>
 K3 (qc xh (g+1)) h8)
 (av xl (qq 59 1 #[(0,j.1)]) aK h7 fun v25 h9=>
 av xl (qt #[59,59] 59 #[d.1,v25]) aK h9 fun r X=>
 av xl (qq 59 1 #[(0,j.2)]) aK X fun ax ap=>
 av xl (qt #[59,59] 59 #[d.2.1,ax]) aK ap fun v28 ad=>
 K1 ((⟨r.ptr,r.len,r.cap⟩:Sl),(⟨v28.ptr,v28.len,v28.cap⟩:Sl),qc xh (d.2.2+1)) ad)) (0:Int) h6)
 (fun K2=>
 ∃G,(b=some G)/\
 ∃v:Sl,cellOf B (G.add 5)=some (v:Value)/\
 ∃s,(v.ptr=some s/\0<=n/\n<(v.len:Int))/\
 ∃l:Sl,cellOf B ((s.add (n.toNat*2)).add 1)=some (l:Value)/\
 (av xl (qD 38 (vX xh (x2.len:Int)) (vX xh (x2.len:Int))) aK B fun E h2=>
 (ar.ok [((s.add (n.toNat*2)).add 1,l),(G.add 5,v)] h2)/\
 ag xl 91 #[l] aK h2 fun F h3=>
 (ar.ok [(G.add 5,v)] h3)/\
 K2 ((⟨E.ptr,E.len,E.cap⟩:Sl),(⟨F.ptr,F.len,F.cap⟩:Sl)) h3)/\(ag xl 91 #[l] aK B fun w h4=>
 (ar.ok [(G.add 5,v)] h4)/\
 av xl (qD 38 (vX xh (x2.len:Int)) (vX xh (x2.len:Int))) aK h4 fun q h5=>
 (ar.ok [(G.add 5,v)] h5)/\
 K2 ((⟨q.ptr,q.len,q.cap⟩:Sl),(⟨w.ptr,w.len,w.cap⟩:Sl)) h5)))
 (∃J,(b=some J)/\
 ∃K:bH,aj B (J.add 1) 0 K/\
 ag xl 200 #[K] aK B fun z Z=>
 aM (σ:=Sl×Sl×Int) (fun a K4 f=>
 Br (a.2.2<(z.len:Int))
 (∃O,(z.ptr=some O/\0<=a.2.2/\a.2.2<(z.len:Int))/\
 ∃k:Sl,cellOf f (O.add (a.2.2.toNat*1))=some (k:Value)/\
 bf (σ:=Sl×Sl) (fun m am=>
 aM (σ:=Int) (fun e K6 p=>
 Br (e<(k.len:Int))
 (∃T,(k.ptr=some T/\0<=e/\e<(k.len:Int))/\
 ∃S,cellOf p (T.add (e.toNat*1))=some (vX xi S)/\
 ag xl 232 #[b,(vX xi S),e,m.1,m.2] iC p fun _ V=>
 K6 (qc xh (e+1)) V)
 (av xl (qq 59 1 #[(0,m.1)]) aK p fun v46 W=>
 av xl (qt #[59,59] 59 #[a.1,v46]) aK W fun D ah=>
 av xl (qq 59 1 #[(0,m.2)]) aK ah fun Y ao=>
 av xl (qt #[59,59] 59 #[a.2.1,Y]) aK ao fun x ab=>
 K4 ((⟨D.ptr,D.len,D.cap⟩:Sl),(⟨x.ptr,x.len,x.cap⟩:Sl),qc xh (a.2.2+1)) ab)) (0:Int) am)
 (fun K5=>
 ∃y,(b=some y)/\
 ∃c,cellOf f ((y.add 1).add 2)=some (vX xh c)/\
 (av xl (qD 38 (vX xh (x2.len:Int)) (vX xh (x2.len:Int))) aK f fun o I=>
 (ar.ok [((y.add 1).add 2,c)] I)/\
 av xl (qD 38 c c) aK I fun A M=>
 (ar.ok [] M)/\
 K5 ((⟨o.ptr,o.len,o.cap⟩:Sl),(⟨A.ptr,A.len,A.cap⟩:Sl)) M)/\(av xl (qD 38 c c) aK f fun v39 Q=>
 (ar.ok [] Q)/\
 av xl (qD 38 (vX xh (x2.len:Int)) (vX xh (x2.len:Int))) aK Q fun t P=>
 (ar.ok [] P)/\
 K5 ((⟨t.ptr,t.len,t.cap⟩:Sl),(⟨v39.ptr,v39.len,v39.cap⟩:Sl)) P)))
 (R (.tuple #[a.1,a.2.1]) f)) ((⟨d.1.ptr,d.1.len,d.1.cap⟩:Sl),(⟨d.2.1.ptr,d.2.1.len,d.2.1.cap⟩:Sl),(0:Int)) Z)) ((⟨none,0,0⟩:Sl),(⟨none,0,0⟩:Sl),(0:Int)) h
theorem AN(a:Option Addr)(b: @pd R h a):ae xl 175 #[a] h R:=au af Tryz.func175 (al.tn (al.tn (.two (al.tn (.inn (.loop [(2,cu),(3,cu),(29,ba)] [(2,4),(6,9),(10,11),(29,72)] (al.tn (al.tn (.two (.inn (al.tn (.two (.join [(7,cu),(8,cu)] [(7,9),(33,44)] .n) (.two (al.tn (.inn (.loop [(53,ba)] [(10,11),(53,63)] .n))) .n)))) .n)))))) (.two (al.tn (.inn (.loop [(2,cu),(3,cu),(78,ba)] [(2,4),(12,17),(78,113)] (al.tn (al.tn (.two (.inn (al.tn (.two (.join [(13,cu),(14,cu)] [(13,15),(82,90)] .n) (.two (al.tn (.inn (.loop [(92,ba)] [(15,17),(92,104)] .n))) .n)))) .n)))))) .n)))) b
abbrev Rr:FuncId:=176
def HC(b:Sl)(a:ByteArray):Prop:=
 Br ((b.len:Int)==0)
 (R (vY none 0 0) h)
 (Br (a.toList==nZ.toList)
 (R b h)
 (bf (σ:=Unit) (fun _ h3=>
 ag xl 235 #[a] (.many [(.arr .bool),lI]) h3 fun o v=>
 aQ xl (qK 321 true (.tuple #[])) v fun c s=>
 ac xl (qf 321 c (xg (o.1.map (Sc.enc .bool)).toArray)) s fun _ m=>
 Br o.2
 (ag xl 237 #[b,c] aK m fun u p=>
 ag xl 236 #[u,c] aK p fun g h8=>
 R g h8)
 (ag xl 239 #[b,a] aK m fun f q=>
 ag xl 238 #[f,a] aK q fun d e=>
 R d e))
 (fun n=>
 Br ((a.size:Int)==1) (∃k:UInt8,(0<=(0:Int)/\a.data[(0:Int).toNat]?=some k)/\
 Br ((k.toNat:Nat)<(128:Int))
 (∃l:UInt8,(0<=(0:Int)/\a.data[(0:Int).toNat]?=some l)/\
 ∃c3:UInt8,(0<=(0:Int)/\a.data[(0:Int).toNat]?=some c3)/\
 ag xl 234 #[b,(vX xi (l.toNat:Nat))] aK h fun t j=>
 (ar.ok [] j)/\
 ag xl 233 #[t,(vX xi (c3.toNat:Nat))] aK j fun r i=>
 (ar.ok [] i)/\
 R r i)
 (n () h)) (n () h))))
theorem OT(b:Sl)(a:ByteArray)(c: @HC R h b a):ae xl 176 #[b,a] h R:=au af Tryz.func176 (al.tn (al.tn (al.tn (.two (.join [] [(4,5),(13,28)] .n) .n)))) c
abbrev rc:FuncId:=177
def rN(e:Option Addr)(d:Sl):Prop:=
 ∃N,(e=some N)/\
 ∃x2:Sl,cellOf h (N.add 4)=some (x2:Value)/\
 aM (σ:=Int) (fun c L j=>
 Br (c<(x2.len:Int))
 (∃a4,(e=some a4)/\
 ∃F:Sl,cellOf j (a4.add 4)=some (F:Value)/\
 ∃H,(F.ptr=some H/\0<=c/\c<(F.len:Int))/\
 ∃M:Sl,cellOf j (H.add (c.toNat*1))=some (M:Value)/\
 Br (!(zi M.ptr))
 (L (qc xh (c+1)) j)
 (∃I,(e=some I)/\
 ∃E:Sl,cellOf j (I.add 10)=some (E:Value)/\
 ∃q,(E.ptr=some q/\0<=c/\c<(E.len:Int))/\
 ∃u:Sl,cellOf j (q.add (c.toNat*1))=some (u:Value)/\
 ag xl 91 #[u] aK j fun f D=>
 ∃B,(e=some B)/\
 ∃l:Sl,cellOf D (B.add 9)=some (l:Value)/\
 ∃z,(l.ptr=some z/\0<=c/\c<(l.len:Int))/\
 ∃g:Sl,cellOf D (z.add (c.toNat*1))=some (g:Value)/\
 aM (σ:=Int) (fun b Q h3=>
 Br (b<(g.len:Int))
 (∃v,(g.ptr=some v/\0<=b/\b<(g.len:Int))/\
 ∃x,cellOf h3 (v.add (b.toNat*1))=some (vX xi x)/\
 ∃p,(d.ptr=some p/\0<=b/\b<(d.len:Int))/\
 ∃i:Sl,cellOf h3 (p.add (b.toNat*1))=some (i:Value)/\
 aM (σ:=Int) (fun a P w=>
 Br (a<(i.len:Int))
 (∃r,(i.ptr=some r/\0<=a/\a<(i.len:Int))/\
 ∃A,cellOf w (r.add (a.toNat*1))=some (vX xi A)/\
 ∃a25,(f.ptr=some a25/\0<=a/\a<(f.len:Int))/\
 ∃m,cellOf w (a25.add (a.toNat*1))=some (vX xi m)/\
 ∃n,(e=some n)/\
 ∃t:Option Addr,cellOf w n=some (.pointer t)/\
 ag xl 240 #[t,(vX xi x),(vX xi A)] (.one (.sc (.int .u8))) w fun G J=>
 (ar.ok [(a25.add (a.toNat*1),(vX xi m))] J)/\
 ∃o,(f.ptr=some o/\0<=a/\a<(f.len:Int))/\
 ac xl (qf 5 (o.add (a.toNat*1)) (vX xi (qc xi ((qA (qk xi) m^^^(qA (qk xi) G)).toNat:Nat)))) J fun _ K=>
 (ar.ok [] K)/\
 P (qc xh (a+1)) K)
 (Q (qc xh (b+1)) w)) (0:Int) h3)
 (∃s,(e=some s)/\
 ∃k:Sl,cellOf h3 (s.add 4)=some (k:Value)/\
 ∃y,(k.ptr=some y/\0<=c/\c<(k.len:Int))/\
 ac xl (qf 38 (y.add (c.toNat*1)) f) h3 fun _ O=>
 L (qc xh (c+1)) O)) (0:Int) D))
 (R (.tuple #[]) j)) (0:Int) h
theorem Dh(b:Option Addr)(a:Sl)(c: @rN R h b a):ae xl 177 #[b,a] h R:=au af Tryz.func177 (al.tn (.inn (.loop [(15,ba)] [(4,10),(15,80)] (al.tn (al.tn (.two (.inn (al.tn (al.tn (al.tn (.two (al.tn (.inn (.loop [(42,ba)] [(6,10),(42,72)] (al.tn (al.tn (.two (.inn (al.tn (al.tn (.inn (.loop [(52,ba)] [(8,10),(52,71)] .n))))) .n)))))) .n))))) .n)))))) c
abbrev VP:FuncId:=178
def MF(a:Int):Prop:=
 aQ xl (qL 328 (xg #[(vX xk (qc xk a))])) h fun b c=>
 R b c
theorem TP(a:Int)(b: @MF R h a):ae xl 178 #[(vX xj a)] h R:=au af Tryz.func178 .n b
abbrev Jm:FuncId:=179
def xY(a:Option Addr):Prop:=
 Br (zi a)
 (R (vX xj (0:Int)) h)
 (∃c,(a=some c)/\
 ∃x2,cellOf h c=some (vX xk x2)/\
 ∃a3,(a=some a3)/\
 ac xl (qf 293 a3 (vX xk (qc xk ((qc xk (x2*6364136223846793005))+1442695040888963407)))) h fun _ d=>
 ∃a4,(a=some a4)/\
 ∃b,cellOf d a4=some (vX xk b)/\
 (0<=(32:Int))/\
 R (vX xj (qc xj (qT b (2^min (32:Int).toNat (qk xk))))) d)
theorem HD(a:Option Addr)(b: @xY R h a):ae xl 179 #[a] h R:=au af Tryz.func179 .n b
abbrev MG:FuncId:=180
def Di(a:Sl)(b:Option Addr):Prop:=
 Br ((a.len:Int)==0)
 (R (vX xh (0:Int)) h)
 (∃c,(a.ptr=some c/\0<=(qc xh ((a.len:Int)-1))/\(qc xh ((a.len:Int)-1))<(a.len:Int))/\
 ∃x2:Int,cellOf h (c.add ((qc xh ((a.len:Int)-1)).toNat*1))=some (vX xh x2)/\
 ag xl 242 #[b,x2] bt h fun d g=>
 ag xl 241 #[a,d] bt g fun e f=>
 R e f)
theorem KI(a:Sl)(b:Option Addr)(c: @Di R h a b):ae xl 180 #[a,b] h R:=au af Tryz.func180 .n c
abbrev KJ:FuncId:=181
def Bu(a:Int):Prop:=
 bf (σ:=Unit) (fun _ k=>
 av xl (qD 22 (vX xh (0:Int)) a) aK k fun d j=>
 aM (σ:=Sl×Int×Int) (fun b l h3=>
 Br (b.2.2<=a)
 (ag xl 243 #[a,b.2.2] bt h3 fun e i=>
 av xl (qq 22 1 #[(0,(qc xh (b.2.1+e)))]) aK i fun v5 m=>
 av xl (qt #[22,22] 22 #[b.1,v5]) aK m fun c g=>
 l ((⟨c.ptr,c.len,c.cap⟩:Sl),qc xh (b.2.1+e),qc xh (b.2.2+1)) g)
 (R b.1 h3)) ((⟨d.ptr,d.len,d.cap⟩:Sl),(0:Int),(1:Int)) j)
 (fun f=>
 Br (a<1) (R (vY none 0 0) h) (Br (a>64)
 (R (vY none 0 0) h)
 (f () h)))
theorem Jn(a:Int)(b: @Bu R h a):ae xl 181 #[a] h R:=au af Tryz.func181 (al.tn (.two (.join [] [(2,3),(6,12)] .n) (al.tn (al.tn (.two (al.tn (.inn (.loop [(3,cu),(4,ba),(5,ba)] [(3,6),(14,28)] .n))) .n))))) b
abbrev OU:FuncId:=182
def FB(n:Option Addr)(c:Int)(d:Int):Prop:=
 bf (σ:=Unit) (fun _ u=>
 av xl (qD 22 c c) aK u fun b t=>
 aM (σ:=Int) (fun f y h3=>
 Br (f<(b.len:Int))
 (∃a4,(b.ptr=some a4/\0<=f/\f<(b.len:Int))/\
 ac xl (qf 3 (a4.add (f.toNat*1)) f) h3 fun _ x=>
 y (qc xh (f+1)) x)
 (aM (σ:=Int) (fun a v p=>
 Br (a<d)
 (ag xl 242 #[n,(qc xh (c-a))] bt p fun e l=>
 ∃r,(b.ptr=some r/\0<=(qc xh (a+e))/\(qc xh (a+e))<(b.len:Int))/\
 ∃q:Int,cellOf l (r.add ((qc xh (a+e)).toNat*1))=some (vX xh q)/\
 ∃a9,(b.ptr=some a9/\0<=a/\a<(b.len:Int))/\
 ∃g,cellOf l (a9.add (a.toNat*1))=some (vX xh g)/\
 ∃j,(b.ptr=some j/\0<=a/\a<(b.len:Int))/\
 ac xl (qf 3 (j.add (a.toNat*1)) q) l fun _ o=>
 (ar.ok [] o)/\
 ∃k,(b.ptr=some k/\0<=(qc xh (a+e))/\(qc xh (a+e))<(b.len:Int))/\
 ac xl (qf 3 (k.add ((qc xh (a+e)).toNat*1)) g) o fun _ h8=>
 (ar.ok [] h8)/\
 v (qc xh (a+1)) h8)
 ((0<=d/\d<=(b.cap:Int))/\
 ag xl 79 #[(vY b.ptr d.toNat b.cap)] aK p fun i s=>
 ag xl 143 #[i] iC s fun _ m=>
 R i m)) (0:Int) h3)) (0:Int) t)
 (fun w=>
 Br (c<0) (R (vY none 0 0) h) (Br (c>64) (R (vY none 0 0) h) (Br (d<0) (R (vY none 0 0) h) (Br (d>c)
 (R (vY none 0 0) h)
 (w () h)))))
theorem MH(c:Option Addr)(a:Int)(b:Int)(d: @FB R h c a b):ae xl 182 #[c,a,b] h R:=au af Tryz.func182 (al.tn (.two (.join [] [(6,7),(12,27)] .n) (al.tn (.two (al.tn (.inn (.loop [(31,ba)] [(8,9),(31,39)] .n))) (.two (al.tn (.inn (.loop [(40,ba)] [(9,11),(40,65)] .n))) .n))))) d
abbrev TQ:FuncId:=183
def JP(a:Sl):Prop:=
 Br ((a.len:Int) !=64)
 (R (.tuple #[(vX xh (0:Int)),(vY none 0 0),false]) h)
 (∃b,(a.ptr=some b/\0<=(3:Int)/\(3:Int)<(a.len:Int))/\
 ∃x2:Int,cellOf h (b.add ((3:Int).toNat*1))=some (vX xi x2)/\
 (0<=(4:Int)/\(4:Int)<=(59:Int)/\(59:Int)<=(a.cap:Int))/\
 ag xl 91 #[(.slice (if a.cap=(4:Int).toNat then a.ptr else a.ptr.map (·.add ((4:Int).toNat*1))) ((59:Int).toNat-(4:Int).toNat) (a.cap-(4:Int).toNat))] aK h fun c d=>
 (ar.ok [(b.add ((3:Int).toNat*1),(vX xi x2))] d)/\
 ag xl 142 #[(qc xh x2),c] aK d fun e g=>
 ag xl 58 #[a,e] bX g fun f h3=>
 Br (!f)
 (R (.tuple #[(vX xh (0:Int)),(vY none 0 0),false]) h3)
 (R (.tuple #[(qc xh x2),c,true]) h3))
theorem Rs(a:Sl)(b: @JP R h a):ae xl 183 #[a] h R:=au af Tryz.func183 .n b
abbrev jq:FuncId:=184
def FC(a:Sl):Prop:=
 aM (σ:=Int×Int) (fun b e c=>
 Br (b.2<(a.len:Int))
 (∃d,(a.ptr=some d/\0<=b.2/\b.2<(a.len:Int))/\
 ∃x3,cellOf c (d.add (b.2.toNat*1))=some (vX xi x3)/\
 (0<=(8:Int))/\
 e (qc xh ((qA (qk xh) (qc xh (b.1*2^min (8:Int).toNat (qk xh)))|||(qA (qk xh) (qc xh x3))).toNat:Nat),qc xh (b.2+1)) c)
 (R b.1 c)) ((0:Int),(0:Int)) h
theorem MI(a:Sl)(b: @FC R h a):ae xl 184 #[a] h R:=au af Tryz.func184 (al.tn (al.tn (.two (al.tn (.inn (.loop [(3,ba),(8,ba)] [(3,4),(5,6),(8,18)] .n))) .n))) b
abbrev KK:FuncId:=185
def Bv(l:jg)(a:Addr):Prop:=
 aQ xl (qL 96 l) h fun d b=>
 ∃x2,cellOf b (d.add 1)=some (vX xh x2)/\
 ∃x3,cellOf b a=some (vX xh x3)/\
 Br (x2==x3) (∃j:Sl,cellOf b (d.add 3)=some (j:Value)/\
 ∃g,cellOf b (a.add 1)=some (vX xh g)/\
 Br ((j.len:Int)>g) (∃k,cellOf b (a.add 6)=some (vX xj k)/\
 ∃n,cellOf b a=some (vX xh n)/\
 ∃o,cellOf b (a.add 1)=some (vX xh o)/\
 ∃i:Sl,cellOf b (d.add 3)=some (i:Value)/\
 ∃c,cellOf b (a.add 1)=some (vX xh c)/\
 ∃e,(i.ptr=some e/\0<=c/\c<(i.len:Int))/\
 ∃f,cellOf b (e.add (c.toNat*1))=some (vX xh f)/\
 ag xl 77 #[n,o,f] (.one (.sc (.int .u32))) b fun m p=>
 (ar.ok [(a.add 1,c),(d.add 3,i),(a.add 6,(vX xj k)),(a.add 1,g),(d.add 3,j),(a,x3),(d.add 1,x2)] p)/\
 R (xf (k==m)) p) ((ar.ok [(a.add 1,g),(d.add 3,j),(a,x3),(d.add 1,x2)] b)/\
 R false b)) ((ar.ok [(a,x3),(d.add 1,x2)] b)/\
 R false b)
theorem Jo(b:jg)(a:Addr)(c: @Bv R h b a):ae xl 185 #[b,a] h R:=au af Tryz.func185 .n c
abbrev nP:FuncId:=186
def jk(b:Sl)(c:Int)(a:FuncId×Array Value×Array Value):Prop:=
 aM (σ:=Int×Int) (fun f m j=>
 Br (f.2<=c)
 (ag xl 244 #[b,f.1,f.2,(.func (.func a.1) a.2.1 a.2.2)] iC j fun _ p=>
 m (f.2,qc xh (f.2+20)) p)
 (ag xl 244 #[b,f.1,c,(.func (.func a.1) a.2.1 a.2.2)] iC j fun _ h3=>
 aM (σ:=Int) (fun e k i=>
 Br (e<c)
 (aM (σ:=Int×Int) (fun d n g=>
 Br (d.2<=c)
 (ag xl 245 #[b,d.1,(qc xh (d.1+e)),d.2,(.func (.func a.1) a.2.1 a.2.2)] iC g fun _ o=>
 n (d.2,qc xh (d.2+(qc xh (2*e)))) o)
 (Br ((qc xh (d.1+e))<c)
 (ag xl 245 #[b,d.1,(qc xh (d.1+e)),c,(.func (.func a.1) a.2.1 a.2.2)] iC g fun _ l=>
 k (qc xh (e*2)) l)
 (k (qc xh (e*2)) g))) ((0:Int),qc xh (2*e)) i)
 (R (.tuple #[]) i)) (20:Int) h3)) ((0:Int),(20:Int)) h
theorem nv(b:Sl)(c:Int)(a:FuncId×Array Value×Array Value)(d: @jk R h b c a):ae xl 186 #[b,c,(.func (.func a.1) a.2.1 a.2.2)] h R:=au af Tryz.func186 (al.tn (al.tn (.two (.inn (.loop [(7,ba),(8,ba)] [(7,9),(11,23)] .n)) (al.tn (.inn (.loop [(6,ba)] [(6,10),(28,63)] (al.tn (.inn (al.tn (.two (.inn (.loop [(7,ba),(8,ba)] [(7,9),(33,49)] .n)) .n)))))))))) d
end
end Go.Proofs.YtdhamoojccmbdaaGreatDoor
