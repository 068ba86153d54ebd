/- Part of the proofs that the laws of this seat answer true whatever the input reads, and leave it as it was; no condition. -/
import Derived.Test.YtdhamoojccmbdaaGreatDoorTabA
set_option linter.unusedVariables false
set_option linter.unusedSimpArgs false
open Go.Proofs.Tryz renaming prog -> vV
open Go.Instr renaming alloc -> qJ, box -> qL, build -> vy, buildSlice -> qt, makeSlice -> qB, storeAt -> qf
open Go.Value renaming agg -> vQ, bool -> vP, int -> vL, slice -> vM, string -> vO
open Go.IntKind renaming bits -> qk, i64 -> vR, u32 -> vT, u64 -> vU, u8 -> vS, wrap -> qc
open Go.Builtin renaming append_ -> qq, clear_ -> yp, copy_ -> wT
open BitVec renaming ofInt -> qA
open Int renaming fdiv -> qS, tdiv -> wC
open Option renaming isNone -> zg
set_option maxRecDepth 1000000
namespace Go.Proofs.YtdhamoojccmbdaaGreatDoor
noncomputable section
open Go Go.Vc Go.Proofs
variable {R:Value->Heap->Prop} {h:Heap}
abbrev Qg:FuncId:=115
def GB(l:cz)(o:iD):Prop:=
 aO vV (qL 47 l) h fun j y=>
 aO vV (qL 96 o) y fun b r=>
 bf (σ:=Unit) (fun _ s=>
 ∃g:Sl,cellOf s (b.add 3)=some (g:Value)/\
 af vV 103 #[g,(.func (.func 167) #[] #[])] bO s fun k c=>
 Br (!k) (∃a:Sl,cellOf c (b.add 3)=some (a:Value)/\
 ∃f:bF,aj c (j.add 2) 0 f/\
 ∃e,cellOf c (b.add 2)=some (vL vR e)/\
 af vV 30 #[f,e] bs c fun n h8=>
 (aq.ok [(b.add 3,a)] h8)/\
 R (vP ((a.len:Int)==n)) h8) ((aq.ok [] c)/\
 R false c))
 (fun w=>
 ∃x3:ByteArray,cellOf r b=some (vO x3)/\
 af vV 92 #[x3] bO r fun x h3=>
 Br (!x) (R false h3) (∃v,cellOf h3 (b.add 1)=some (vL vR v)/\
 ∃p,cellOf h3 (j.add 1)=some (vL vR p)/\
 af vV 113 #[v,(vL vR (0:Int)),(qc vR (p-1))] bO h3 fun z i=>
 Br (!z) (R false i) (∃t,cellOf i (b.add 2)=some (vL vR t)/\
 ∃q,cellOf i (j.add 2)=some (vL vR q)/\
 ∃d,cellOf i ((j.add 2).add 2)=some (vL vR d)/\
 af vV 113 #[t,(vL vR (0:Int)),(qc vR ((qc vR (q*d))*8))] bO i fun m u=>
 Br (!m)
 (R false u)
 (w () u))))
theorem NE(a:cz)(b:iD)(c: @GB R h a b):ac vV 115 #[a,b] h R:=ar ae Tryz.func115 (al.tn (.two (.join [] [(4,5),(6,33)] .n) .n)) c
abbrev fW:FuncId:=116
def dT(b:Sl)(a:FuncId×Array Value×Array Value):Prop:=
 af vV 120 #[b,(.func (.func a.1) a.2.1 a.2.2)] bs h fun d c=>
 R (decide (d>=0)) c
theorem fN(b:Sl)(a:FuncId×Array Value×Array Value)(c: @dT R h b a):ac vV 116 #[b,(.func (.func a.1) a.2.1 a.2.2)] h R:=ar ae Tryz.func116 .n c
abbrev tG:FuncId:=117
def GC(c:iD)(a:Addr):Prop:=
 aO vV (qL 96 c) h fun d b=>
 ∃x2,cellOf b (d.add 1)=some (vL vR x2)/\
 ∃x3,cellOf b (a.add 1)=some (vL vR x3)/\
 R (vP (x2==x3)) b
theorem NF(b:iD)(a:Addr)(c: @GC R h b a):ac vV 117 #[b,a] h R:=ar ae Tryz.func117 .n c
def jw(a:Sl)(b:FuncId×Array Value×Array Value):Prop:=
 aL (σ:=Int) (fun c i d=>
 Br (c<(a.len:Int))
 (∃f,(a.ptr=some f/\0<=c/\c<(a.len:Int))/\
 ∃x3:Sl,cellOf d (f.add (c.toNat*1))=some (x3:Value)/\
 ig C b.1 (b.2.1.toList++[(vM x3.ptr x3.len x3.cap)]++b.2.2.toList) bO d fun g e=>
 Br g
 (R c e)
 (i (qc vR (c+1)) e))
 (R (vL vR (-1:Int)) d)) (0:Int) h
theorem nN(b:Sl)(a:FuncId×Array Value×Array Value)(c: @jw R h b a):ac vV 118 #[b,(.func (.func a.1) a.2.1 a.2.2)] h R:=ar ae Tryz.func118 (al.tn (.two (al.tn (.inn (.loop [(8,aY)] [(4,6),(8,19)] .n))) .n)) c
abbrev Bt:FuncId:=119
def oG(a:Int):Prop:=
 aw vV (qt 60 5 #[(0,aeu),(1,aev),(2,XE),(3,aew),(4,Gm)]) aJ h fun c f=>
 af vV 10 #[a,(vL vR (5:Int))] bs f fun b d=>
 ∃a3,(c.ptr=some a3/\0<=b/\b<(c.len:Int))/\
 ∃e:ByteArray,cellOf d (a3.add (b.toNat*1))=some (vO e)/\
 R e d
theorem xY(a:Int)(b: @oG R h a):ac vV 119 #[a] h R:=ar ae Tryz.func119 .n b
abbrev lu:FuncId:=120
def eT(a:Sl)(b:FuncId×Array Value×Array Value):Prop:=
 aL (σ:=Int) (fun c i d=>
 Br (c<(a.len:Int))
 (∃f,(a.ptr=some f/\0<=c/\c<(a.len:Int))/\
 ∃x3:iD,aj d (f.add (c.toNat*4)) 0 x3/\
 ig C b.1 (b.2.1.toList++[(vQ #[x3.1,x3.2.1,x3.2.2.1,x3.2.2.2])]++b.2.2.toList) bO d fun g e=>
 Br g
 (R c e)
 (i (qc vR (c+1)) e))
 (R (vL vR (-1:Int)) d)) (0:Int) h
theorem gw(b:Sl)(a:FuncId×Array Value×Array Value)(c: @eT R h b a):ac vV 120 #[b,(.func (.func a.1) a.2.1 a.2.2)] h R:=ar ae Tryz.func120 (al.tn (.two (al.tn (.inn (.loop [(8,aY)] [(4,6),(8,19)] .n))) .n)) c
abbrev Cq:FuncId:=121
def pz(c:iD)(a:Addr):Prop:=
 aO vV (qL 96 c) h fun d b=>
 ∃x2:ByteArray,cellOf b d=some (vO x2)/\
 ∃x3:ByteArray,cellOf b a=some (vO x3)/\
 R (vP (x2.toList==x3.toList)) b
theorem Bu(b:iD)(a:Addr)(c: @pz R h b a):ac vV 121 #[b,a] h R:=ar ae Tryz.func121 .n c
abbrev jx:FuncId:=122
def nO(c:Int)(a:Addr):Prop:=
 ∃b,cellOf h a=some (vL vR b)/\
 R b h
theorem xm(b:Int)(a:Addr)(c: @nO R h b a):ac vV 122 #[b,a] h R:=ar ae Tryz.func122 .n c
abbrev pU:FuncId:=123
def kw(a:ByteArray):Prop:=
 Br ((a.size:Int)==0)
 (R nG h)
 (aw vV (qB 38 (vL vR (a.size:Int)) (vL vR (a.size:Int))) aJ h fun b c=>
 aw vV (wT #[38,9] 3 #[b,a]) bs c fun _ d=>
 ∃a3,(b.ptr=some a3/\0<=(0:Int)/\(0:Int)<(b.len:Int))/\
 aw vV (Builtin.unsafeString_ #[230,3] 9 #[(a3.add ((0:Int).toNat*1)),(vL vR (b.len:Int))]) (.one KX) d fun v4 h3=>
 R v4 h3)
theorem pA(a:ByteArray)(b: @kw R h a):ac vV 123 #[a] h R:=ar ae Tryz.func123 .n b
abbrev Bv:FuncId:=124
def oH(b:Int)(a:Addr):Prop:=
 ∃c:Option Addr,cellOf h a=some (.pointer c)/\
 ∃g,(c=some g)/\
 (0<=b/\b<((64:Nat):Int))/\
 ∃x3:Option Addr,cellOf h ((g.add 10).add (b.toNat*1))=some (.pointer x3)/\
 ∃d:Option Addr,cellOf h a=some (.pointer d)/\
 ∃a5,(d=some a5)/\
 ∃f:cz,aj h a5 0 f/\
 af vV 20 #[x3,f] bO h fun i e=>
 (aq.ok [(a,d),(a,c)] e)/\
 R i e
theorem xZ(b:Int)(a:Addr)(c: @oH R h b a):ac vV 124 #[b,a] h R:=ar ae Tryz.func124 .n c
abbrev jY:FuncId:=125
def fO(b:Sl)(a:FuncId×Array Value×Array Value):Prop:=
 af vV 168 #[b,(.func (.func a.1) a.2.1 a.2.2)] bs h fun d c=>
 R (decide (d>=0)) c
theorem jL(b:Sl)(a:FuncId×Array Value×Array Value)(c: @fO R h b a):ac vV 125 #[b,(.func (.func a.1) a.2.1 a.2.2)] h R:=ar ae Tryz.func125 .n c
abbrev kl:FuncId:=126
def xn(c:Int×Sl)(a:Addr):Prop:=
 aO vV (qL 176 c) h fun f b=>
 ∃x2:bF,aj b a 0 x2/\
 ∃x3:Int×Sl,aj b f 0 x3/\
 af vV 127 #[x2,x3] bO b fun e d=>
 R (vP (!e)) d
theorem GD(b:Int×Sl)(a:Addr)(c: @xn R h b a):ac vV 126 #[b,a] h R:=ar ae Tryz.func126 .n c
abbrev Lq:FuncId:=127
def Cr(b:bF)(c:Int×Sl):Prop:=
 aO vV (qL 24 b) h fun j i=>
 aO vV (qL 176 c) i fun d a=>
 ∃x3,cellOf a d=some (vL vR x3)/\
 Br (x3>=0) (∃g,cellOf a d=some (vL vR g)/\
 Br (g<=65535) (∃e:Sl,cellOf a (d.add 1)=some (e:Value)/\
 ∃f,cellOf a (j.add 2)=some (vL vR f)/\
 R (vP ((e.len:Int)==f)) a) (R false a)) (R false a)
theorem JK(b:bF)(a:Int×Sl)(c: @Cr R h b a):ac vV 127 #[b,a] h R:=ar ae Tryz.func127 .n c
abbrev NG:FuncId:=128
def EI(f:bF)(a:Int)(c:Sl):Prop:=
 aO vV (qL 24 f) h fun d g=>
 ∃x2:bF,aj g d 0 x2/\
 af vV 39 #[x2] bO g fun k b=>
 (aq.ok [] b)/\
 Br k (∃i:bF,aj b d 0 i/\
 ∃e:bF,aj b d 0 e/\
 af vV 169 #[i,(vL vT a),c] bs b fun m h3=>
 (aq.ok [(d,e.1),(d.add 1,e.2.1),(d.add 2,e.2.2)] h3)/\
 af vV 170 #[e] bs h3 fun l j=>
 (aq.ok [] j)/\
 R (vP (m==l)) j) ((aq.ok [] b)/\
 (aq.ok [] b)/\
 R false b)
theorem Lr(c:bF)(a:Int)(b:Sl)(d: @EI R h c a b):ac vV 128 #[c,(vL vT a),b] h R:=ar ae Tryz.func128 .n d
abbrev Qh:FuncId:=129
def GF(b:Sl):Prop:=
 aL (σ:=Sl×Int) (fun a l c=>
 Br (a.2<(b.len:Int))
 (∃f,(b.ptr=some f/\0<=a.2/\a.2<(b.len:Int))/\
 ∃x3:Int×Sl,aj c (f.add (a.2.toNat*2)) 0 x3/\
 aO vV (qJ 176 true (.tuple #[])) c fun a4 i=>
 ag vV (qf 176 a4 x3) i fun _ h3=>
 ∃e,cellOf h3 a4=some (vL vR e)/\
 aw vV (qt 22 1 #[(0,e)]) aJ h3 fun g j=>
 aw vV (qq #[22,22] 22 #[a.1,g]) aJ j fun d k=>
 l ((⟨d.ptr,d.len,d.cap⟩:Sl),qc vR (a.2+1)) k)
 (R a.1 c)) ((⟨none,0,0⟩:Sl),(0:Int)) h
theorem NH(a:Sl)(b: @GF R h a):ac vV 129 #[a] h R:=ar ae Tryz.func129 (al.tn (al.tn (.two (al.tn (.inn (.loop [(3,ct),(8,aY)] [(3,4),(5,6),(8,18)] .n))) .n))) b
abbrev Qi:FuncId:=130
def GG(P:bF)(i:Int)(l:Sl):Prop:=
 aO vV (qL 24 P) h fun f h1=>
 aL (σ:=Sl×Int) (fun k K1 H=>
 Br (k.2<(l.len:Int))
 (∃a3,(l.ptr=some a3/\0<=k.2/\k.2<(l.len:Int))/\
 ∃Z:Int×Sl,aj H (a3.add (k.2.toNat*2)) 0 Z/\
 aO vV (qJ 176 true (.tuple #[])) H fun a5 h3=>
 ag vV (qf 176 a5 Z) h3 fun _ I=>
 ∃W:bF,aj I f 0 W/\
 ∃x7,cellOf I a5=some (vL vR x7)/\
 ∃z:Sl,cellOf I (a5.add 1)=some (z:Value)/\
 af vV 131 #[W,(vL vT i),x7] aJ I fun r9 h5=>
 (aq.ok [(a5.add 1,z)] h5)/\
 aw vV (qt 233 1 #[(0,(vQ #[r9,z]))]) aJ h5 fun V Y=>
 (aq.ok [(a5.add 1,z)] Y)/\
 aw vV (qq #[233,233] 233 #[k.1,V]) aJ Y fun j X=>
 (aq.ok [(a5.add 1,z)] X)/\
 K1 ((⟨j.ptr,j.len,j.cap⟩:Sl),qc vR (k.2+1)) X)
 (bf (σ:=Option Addr) (fun a G=>
 ∃r:bF,aj G f 0 r/\
 af vV 170 #[r] bs G fun Q J=>
 af vV 171 #[Q,k.1] (.many [ct,ct,ct,aY]) J fun g n=>
 Br (g.2.2.2 !=0)
 (R (.tuple #[(vM none 0 0),(vL vR (10:Int))]) n)
 (∃t,(a=some t)/\
 ag vV (qf 59 (t.add 4) g.2.1) n fun _ N=>
 ∃A,(a=some A)/\
 ag vV (qf 233 (A.add 5) g.2.2.1) N fun _ T=>
 af vV 172 #[a,g.1] iu T fun _ K=>
 af vV 173 #[a] iu K fun _ S=>
 af vV 174 #[a] iu S fun _ L=>
 af vV 175 #[a] (.many [ct,ct]) L fun d e=>
 ∃a25,(a=some a25)/\
 ∃s:Sl,cellOf e ((a25.add 6).add 1)=some (s:Value)/\
 Br ((s.len:Int)==0)
 (aL (σ:=Int) (fun c K3 m=>
 Br (c<(d.2.len:Int))
 (∃a28,(d.2.ptr=some a28/\0<=c/\c<(d.2.len:Int))/\
 ∃y:Sl,cellOf m (a28.add (c.toNat*1))=some (y:Value)/\
 af vV 176 #[y,ZW] aJ m fun M w=>
 Br ((M.len:Int)>0)
 (R (.tuple #[(vM none 0 0),(vL vR (10:Int))]) w)
 (K3 (qc vR (c+1)) w))
 (af vV 177 #[a,(vM none 0 0)] iu m fun _ F=>
 ∃o,(a=some o)/\
 ∃p:Sl,cellOf F (o.add 4)=some (p:Value)/\
 R (.tuple #[p,(vL vR (0:Int))]) F)) (0:Int) e)
 (∃E,(a=some E)/\
 ∃v:Option Addr,cellOf e E=some (.pointer v)/\
 af vV 147 #[v,d.1,d.2] (.many [ct,aY]) e fun u B=>
 Br (u.2 !=0)
 (R (.tuple #[(vM none 0 0),(vL vR (10:Int))]) B)
 (af vV 177 #[a,u.1] iu B fun _ x=>
 ∃q,(a=some q)/\
 ∃D:Sl,cellOf x (q.add 4)=some (D:Value)/\
 R (.tuple #[D,(vL vR (0:Int))]) x))))
 (fun K2=>
 ∃b:bF,aj H f 0 b/\
 af vV 148 #[] na H fun U h8=>
 (aq.ok [(f,b.1),(f.add 1,b.2.1),(f.add 2,b.2.2)] h8)/\
 aO vV (qL 241 (vQ #[U,b.1,b.2.1,b.2.2,(vM none 0 0),(vM none 0 0),(vM none 0 0),(vM none 0 0),(vM none 0 0),(vM none 0 0),(vM none 0 0)])) h8 fun O h9=>
 (aq.ok [(f,b.1),(f.add 1,b.2.1),(f.add 2,b.2.2)] h9)/\
 K2 (some O) h9))) ((⟨none,0,0⟩:Sl),(0:Int)) h1
theorem NI(c:bF)(a:Int)(b:Sl)(d: @GG R h c a b):ac vV 130 #[c,(vL vT a),b] h R:=ar ae Tryz.func130 (al.tn (.fwd (al.tn (.two (al.tn (.inn (.loop [(8,ct),(23,aY)] [(8,9),(10,11),(23,39)] .n))) (.two (.join [(11,OV)] [(11,12),(39,43)] .n) .n))) [(0,[.n]),(1,[(.two (al.tn (.inn (.loop [(95,aY)] [(20,21),(95,104)] .n))) .n)]),(2,[.n])])) d
abbrev XI:FuncId:=131
def OY(e:bF)(b:Int)(a:Int):Prop:=
 aO vV (qL 24 e) h fun i k=>
 bf (σ:=Unit) (fun _ h3=>
 ∃j:bF,aj h3 i 0 j/\
 af vV 170 #[j] bs h3 fun l p=>
 af vV 178 #[(vL vT (qc vT ((qA (qk vT) b^^^(qA (qk vT) (qc vT ((qc vT a)*2654435761)))).toNat:Nat)))] na p fun g t=>
 af vV 179 #[g] (.one (.sc (.int .u32))) t fun _ q=>
 af vV 181 #[l] aJ q fun r n=>
 af vV 180 #[r,g] bs n fun f h8=>
 af vV 182 #[g,l,f] aJ h8 fun d s=>
 R d s)
 (fun m=>
 ∃x2:bF,aj k i 0 x2/\
 af vV 39 #[x2] bO k fun o c=>
 Br (!o) (R (vM none 0 0) c) (Br (a<0) (R (vM none 0 0) c) (Br (a>65535)
 (R (vM none 0 0) c)
 (m () c))))
theorem UQ(c:bF)(a:Int)(b:Int)(d: @OY R h c a b):ac vV 131 #[c,(vL vT a),b] h R:=ar ae Tryz.func131 (al.tn (.two (.join [] [(6,7),(10,21)] .n) .n)) d
abbrev NJ:FuncId:=132
def EJ(O:Sl):Prop:=
 aO vV (qJ 134 true (.tuple #[])) h fun f h1=>
 af vV 183 #[O] (.many [aY,ct,ms]) h1 fun a W=>
 bf (σ:=Unit) (fun _ h5=>
 bf (σ:=Addr) (fun b ah=>
 bf (σ:=Unit) (fun _ V=>
 (0<=(9:Int)/\(9:Int)<=(13:Int)/\(13:Int)<=(a.2.1.cap:Int))/\
 af vV 184 #[(.slice (if a.2.1.cap=(9:Int).toNat then a.2.1.ptr else a.2.1.ptr.map (·.add ((9:Int).toNat*1))) ((13:Int).toNat-(9:Int).toNat) (a.2.1.cap-(9:Int).toNat))] bs V fun a6 ax=>
 ag vV (qf 55 (b.add 6) (vL vT (qc vT a6))) ax fun _ J=>
 ∃E:bF,aj J (b.add 3) 0 E/\
 af vV 39 #[E] bO J fun a4 l=>
 Br (!a4)
 (ag vV (qf 134 f (vQ #[(vL vR (0:Int)),(vL vR (0:Int)),(vL vR (0:Int)),(vL vR (0:Int)),(vL vR (0:Int)),(vL vR (0:Int)),(vL vT (0:Int)),(vM none 0 0)])) l fun _ F=>
 ∃e:ey,aj F f 0 e/\
 R (.tuple #[e,false]) F)
 (∃g,cellOf l ((b.add 3).add 2)=some (vL vR g)/\
 (0<=(13:Int)/\(13:Int)<=(qc vR (13+g))/\(qc vR (13+g))<=(a.2.1.cap:Int))/\
 af vV 91 #[(.slice (if a.2.1.cap=(13:Int).toNat then a.2.1.ptr else a.2.1.ptr.map (·.add ((13:Int).toNat*1))) ((qc vR (13+g)).toNat-(13:Int).toNat) (a.2.1.cap-(13:Int).toNat))] aJ l fun a3 Z=>
 ag vV (qf 38 (b.add 7) a3) Z fun _ w=>
 ∃q:ey,aj w b 0 q/\
 af vV 99 #[q] aJ w fun am Y=>
 af vV 58 #[O,am] bO Y fun S k=>
 Br (!S)
 (ag vV (qf 134 f (vQ #[(vL vR (0:Int)),(vL vR (0:Int)),(vL vR (0:Int)),(vL vR (0:Int)),(vL vR (0:Int)),(vL vR (0:Int)),(vL vT (0:Int)),(vM none 0 0)])) k fun _ B=>
 ∃c:ey,aj B f 0 c/\
 R (.tuple #[c,false]) B)
 (∃H:ey,aj k b 0 H/\
 ag vV (qf 134 f H) k fun _ A=>
 ∃d:ey,aj A f 0 d/\
 R (.tuple #[d,true]) A)))
 (fun K3=>
 (0<=(6:Int)/\(6:Int)<=(7:Int)/\(7:Int)<=(a.2.1.cap:Int))/\
 (0<=(7:Int)/\(7:Int)<=(8:Int)/\(8:Int)<=(a.2.1.cap:Int))/\
 (0<=(8:Int)/\(8:Int)<=(9:Int)/\(9:Int)<=(a.2.1.cap:Int))/\
 af vV 184 #[(.slice (if a.2.1.cap=(6:Int).toNat then a.2.1.ptr else a.2.1.ptr.map (·.add ((6:Int).toNat*1))) ((7:Int).toNat-(6:Int).toNat) (a.2.1.cap-(6:Int).toNat))] bs ah fun a0 z=>
 (aq.ok [] z)/\
 af vV 184 #[(.slice (if a.2.1.cap=(7:Int).toNat then a.2.1.ptr else a.2.1.ptr.map (·.add ((7:Int).toNat*1))) ((8:Int).toNat-(7:Int).toNat) (a.2.1.cap-(7:Int).toNat))] bs z fun a5 M=>
 (aq.ok [] M)/\
 af vV 184 #[(.slice (if a.2.1.cap=(8:Int).toNat then a.2.1.ptr else a.2.1.ptr.map (·.add ((8:Int).toNat*1))) ((9:Int).toNat-(8:Int).toNat) (a.2.1.cap-(8:Int).toNat))] bs M fun ay v=>
 (aq.ok [] v)/\
 ag vV (qf 24 (b.add 3) (vQ #[a0,a5,ay])) v fun _ x=>
 (aq.ok [] x)/\
 K3 () x))
 (fun Q=>
 (0<=(3:Int)/\(3:Int)<=(a.2.1.cap:Int))/\
 (0<=(3:Int)/\(3:Int)<=(4:Int)/\(4:Int)<=(a.2.1.cap:Int))/\
 (0<=(4:Int)/\(4:Int)<=(6:Int)/\(6:Int)<=(a.2.1.cap:Int))/\
 (af vV 184 #[(vM a.2.1.ptr ((3:Int).toNat) a.2.1.cap)] bs h5 fun r6 X=>
 (aq.ok [] X)/\
 (af vV 184 #[(.slice (if a.2.1.cap=(3:Int).toNat then a.2.1.ptr else a.2.1.ptr.map (·.add ((3:Int).toNat*1))) ((4:Int).toNat-(3:Int).toNat) (a.2.1.cap-(3:Int).toNat))] bs X fun r7 T=>
 (aq.ok [] T)/\
 (af vV 184 #[(.slice (if a.2.1.cap=(4:Int).toNat then a.2.1.ptr else a.2.1.ptr.map (·.add ((4:Int).toNat*1))) ((6:Int).toNat-(4:Int).toNat) (a.2.1.cap-(4:Int).toNat))] bs T fun r8 h8=>
 (aq.ok [] h8)/\
 aO vV (qJ 134 true (.tuple #[])) h8 fun a9 h9=>
 (aq.ok [] h9)/\
 ag vV (qf 134 a9 (vQ #[r6,r7,r8,(vL vR (0:Int)),(vL vR (0:Int)),(vL vR (0:Int)),(vL vT (0:Int)),(vM none 0 0)])) h9 fun _ P=>
 (aq.ok [] P)/\
 Q a9 P)/\(aO vV (qJ 134 true (.tuple #[])) T fun r o=>
 (aq.ok [] o)/\
 af vV 184 #[(.slice (if a.2.1.cap=(4:Int).toNat then a.2.1.ptr else a.2.1.ptr.map (·.add ((4:Int).toNat*1))) ((6:Int).toNat-(4:Int).toNat) (a.2.1.cap-(4:Int).toNat))] bs o fun ab m=>
 (aq.ok [] m)/\
 ag vV (qf 134 r (vQ #[r6,r7,ab,(vL vR (0:Int)),(vL vR (0:Int)),(vL vR (0:Int)),(vL vT (0:Int)),(vM none 0 0)])) m fun _ D=>
 (aq.ok [] D)/\
 Q r D))/\(aO vV (qJ 134 true (.tuple #[])) X fun t K=>
 (aq.ok [] K)/\
 af vV 184 #[(.slice (if a.2.1.cap=(3:Int).toNat then a.2.1.ptr else a.2.1.ptr.map (·.add ((3:Int).toNat*1))) ((4:Int).toNat-(3:Int).toNat) (a.2.1.cap-(3:Int).toNat))] bs K fun a2 s=>
 (aq.ok [] s)/\
 af vV 184 #[(.slice (if a.2.1.cap=(4:Int).toNat then a.2.1.ptr else a.2.1.ptr.map (·.add ((4:Int).toNat*1))) ((6:Int).toNat-(4:Int).toNat) (a.2.1.cap-(4:Int).toNat))] bs s fun U I=>
 (aq.ok [] I)/\
 ag vV (qf 134 t (vQ #[r6,a2,U,(vL vR (0:Int)),(vL vR (0:Int)),(vL vR (0:Int)),(vL vT (0:Int)),(vM none 0 0)])) I fun _ y=>
 (aq.ok [] y)/\
 Q t y))/\(aO vV (qJ 134 true (.tuple #[])) h5 fun n p=>
 (aq.ok [] p)/\
 af vV 184 #[(vM a.2.1.ptr ((3:Int).toNat) a.2.1.cap)] bs p fun ao u=>
 (aq.ok [] u)/\
 af vV 184 #[(.slice (if a.2.1.cap=(3:Int).toNat then a.2.1.ptr else a.2.1.ptr.map (·.add ((3:Int).toNat*1))) ((4:Int).toNat-(3:Int).toNat) (a.2.1.cap-(3:Int).toNat))] bs u fun ad G=>
 (aq.ok [] G)/\
 af vV 184 #[(.slice (if a.2.1.cap=(4:Int).toNat then a.2.1.ptr else a.2.1.ptr.map (·.add ((4:Int).toNat*1))) ((6:Int).toNat-(4:Int).toNat) (a.2.1.cap-(4:Int).toNat))] bs G fun ap N=>
 (aq.ok [] N)/\
 ag vV (qf 134 n (vQ #[ao,ad,ap,(vL vR (0:Int)),(vL vR (0:Int)),(vL vR (0:Int)),(vL vT (0:Int)),(vM none 0 0)])) N fun _ L=>
 (aq.ok [] L)/\
 Q n L)))
 (fun K1=>
 Br (!a.2.2) (ag vV (qf 134 f (vQ #[(vL vR (0:Int)),(vL vR (0:Int)),(vL vR (0:Int)),(vL vR (0:Int)),(vL vR (0:Int)),(vL vR (0:Int)),(vL vT (0:Int)),(vM none 0 0)])) W fun _ h3=>
 ∃j:ey,aj h3 f 0 j/\
 R (.tuple #[j,false]) h3) (Br (a.1 !=1)
 (ag vV (qf 134 f (vQ #[(vL vR (0:Int)),(vL vR (0:Int)),(vL vR (0:Int)),(vL vR (0:Int)),(vL vR (0:Int)),(vL vR (0:Int)),(vL vT (0:Int)),(vM none 0 0)])) W fun _ h4=>
 ∃i:ey,aj h4 f 0 i/\
 R (.tuple #[i,false]) h4)
 (K1 () W)))
theorem Ls(a:Sl)(b: @EJ R h a):ac vV 132 #[a] h R:=ar ae Tryz.func132 (al.tn (al.tn (.two (.join [] [(3,4),(14,21)] .n) (.two (.join [(7,(.sc .adr))] [(7,8),(21,31)] .n) (.two (.join [] [(31,42)] .n) .n))))) b
abbrev NK:FuncId:=133
def EK(b:cz)(c:ey):Prop:=
 aO vV (qL 47 b) h fun i m=>
 aO vV (qL 134 c) m fun d f=>
 bf (σ:=Unit) (fun _ j=>
 ∃l:Sl,cellOf j (i.add 7)=some (l:Value)/\
 af vV 116 #[l,(.func (.func 185) #[] #[d])] bO j fun a o=>
 R a o)
 (fun p=>
 ∃x3:ey,aj f d 0 x3/\
 af vV 158 #[x3] bO f fun n h3=>
 Br (!n) (R false h3) (∃e:bF,aj h3 (d.add 3) 0 e/\
 ∃g:bF,aj h3 (i.add 2) 0 g/\
 ∃k:Bool,(jC vV .neq 24 (.tmp 10) (.tmp 12) e g (vP k))/\
 Br k
 (R false h3)
 (p () h3)))
theorem Lt(b:cz)(a:ey)(c: @EK R h b a):ac vV 133 #[b,a] h R:=ar ae Tryz.func133 (al.tn (.two (.join [] [(4,15)] .n) .n)) c
abbrev jy:FuncId:=134
def fC(b:Sl)(a:FuncId×Array Value×Array Value):Prop:=
 af vV 186 #[b,(vL vR (b.len:Int)),(.func (.func a.1) a.2.1 a.2.2)] iu h fun _ c=>
 R (.tuple #[]) c
theorem jt(b:Sl)(a:FuncId×Array Value×Array Value)(c: @fC R h b a):ac vV 134 #[b,(.func (.func a.1) a.2.1 a.2.2)] h R:=ar ae Tryz.func134 .n c
abbrev cU:FuncId:=135
def GH(n:ey)(j:ey):Prop:=
 aO vV (qL 134 n) h fun b u=>
 aO vV (qL 134 j) u fun c a=>
 ∃x3,cellOf a b=some (vL vR x3)/\
 ∃r,cellOf a c=some (vL vR r)/\
 ∃l,cellOf a (b.add 1)=some (vL vR l)/\
 ∃g,cellOf a (c.add 1)=some (vL vR g)/\
 ∃e,cellOf a (b.add 2)=some (vL vR e)/\
 ∃d,cellOf a (c.add 2)=some (vL vR d)/\
 af vV 157 #[x3,r] bs a fun t h3=>
 (aq.ok [(c.add 2,d),(b.add 2,e),(c.add 1,g),(b.add 1,l)] h3)/\
 af vV 157 #[l,g] bs h3 fun m p=>
 (aq.ok [(c.add 2,d),(b.add 2,e)] p)/\
 af vV 157 #[e,d] bs p fun i s=>
 (aq.ok [] s)/\
 aw vV (qt 22 3 #[(0,t),(1,m),(2,i)]) aJ s fun f q=>
 (aq.ok [] q)/\
 af vV 155 #[f] bs q fun k o=>
 (aq.ok [] o)/\
 R k o
theorem NL(b:ey)(a:ey)(c: @GH R h b a):ac vV 135 #[b,a] h R:=ar ae Tryz.func135 .n c
abbrev kg:FuncId:=136
def fX(a:Sl)(d:FuncId×Array Value×Array Value):Prop:=
 Br ((a.len:Int)<2)
 (R a h)
 (aL (σ:=Int) (fun c t n=>
 Br (c<(a.len:Int))
 (∃s,(a.ptr=some s/\0<=c/\c<(a.len:Int))/\
 ∃x3:ey,aj n (s.add (c.toNat*8)) 0 x3/\
 ∃a4,(a.ptr=some a4/\0<=(qc vR (c-1))/\(qc vR (c-1))<(a.len:Int))/\
 ∃g:ey,aj n (a4.add ((qc vR (c-1)).toNat*8)) 0 g/\
 ig C d.1 (d.2.1.toList++[(vQ #[x3.1,x3.2.1,x3.2.2.1,x3.2.2.2.1,x3.2.2.2.2.1,x3.2.2.2.2.2.1,(vL vT x3.2.2.2.2.2.2.1),x3.2.2.2.2.2.2.2]),(vQ #[g.1,g.2.1,g.2.2.1,g.2.2.2.1,g.2.2.2.2.1,g.2.2.2.2.2.1,(vL vT g.2.2.2.2.2.2.1),g.2.2.2.2.2.2.2])]++d.2.2.toList) bO n fun w p=>
 (aq.ok [] p)/\
 Br w
 ((0<=c/\c<=(a.len:Int))/\
 aL (σ:=Int×Int) (fun b q h3=>
 Br (decide (b.2<(((a.len-c.toNat):Nat):Int)))
 (∃r:Addr,((if a.cap=c.toNat then a.ptr else a.ptr.map (·.add (c.toNat*8)))=some r/\0<=b.2/\b.2<(((a.len-c.toNat):Nat):Int))/\
 ∃f:ey,aj h3 (r.add (b.2.toNat*8)) 0 f/\
 ∃j:Addr,((if a.cap=c.toNat then a.ptr else a.ptr.map (·.add (c.toNat*8)))=some j/\0<=(qc vR (b.2-1))/\(qc vR (b.2-1))<(((a.len-c.toNat):Nat):Int))/\
 ∃e:ey,aj h3 (j.add ((qc vR (b.2-1)).toNat*8)) 0 e/\
 ig C d.1 (d.2.1.toList++[(vQ #[f.1,f.2.1,f.2.2.1,f.2.2.2.1,f.2.2.2.2.1,f.2.2.2.2.2.1,(vL vT f.2.2.2.2.2.2.1),f.2.2.2.2.2.2.2]),(vQ #[e.1,e.2.1,e.2.2.1,e.2.2.2.1,e.2.2.2.2.1,e.2.2.2.2.2.1,(vL vT e.2.2.2.2.2.2.1),e.2.2.2.2.2.2.2])]++d.2.2.toList) bO h3 fun o m=>
 (aq.ok [] m)/\
 Br (!o)
 (∃l:Addr,((if a.cap=c.toNat then a.ptr else a.ptr.map (·.add (c.toNat*8)))=some l/\0<=b.2/\b.2<(((a.len-c.toNat):Nat):Int))/\
 ∃k:ey,aj m (l.add (b.2.toNat*8)) 0 k/\
 ∃i,(a.ptr=some i/\0<=b.1/\b.1<(a.len:Int))/\
 ag vV (qf 134 (i.add (b.1.toNat*8)) k) m fun _ v=>
 q (qc vR (b.1+1),qc vR (b.2+1)) v)
 (q (b.1,qc vR (b.2+1)) m))
 ((0<=b.1/\b.1<=(a.len:Int))/\
 ag vV (yp #[131] 0 #[(.slice (if a.cap=b.1.toNat then a.ptr else a.ptr.map (·.add (b.1.toNat*8))) (a.len-b.1.toNat) (a.cap-b.1.toNat))]) h3 fun _ u=>
 (0<=b.1/\b.1<=(a.cap:Int))/\
 R (vM a.ptr b.1.toNat a.cap) u)) (c,(1:Int)) p)
 (t (qc vR (c+1)) p))
 (R a n)) (1:Int) h)
theorem jZ(b:Sl)(a:FuncId×Array Value×Array Value)(c: @fX R h b a):ac vV 136 #[b,(.func (.func a.1) a.2.1 a.2.2)] h R:=ar ae Tryz.func136 (al.tn (al.tn (.two (al.tn (.inn (.loop [(5,aY)] [(4,8),(12,65)] (al.tn (.two (.inn (al.tn (.two (al.tn (.two (al.tn (.inn (.loop [(5,aY),(7,aY)] [(5,6),(7,8),(32,59)] .n))) .n)) .n))) .n))))) .n))) c
abbrev nl:FuncId:=137
def xo(c:ey)(b:ey):Prop:=
 aO vV (qL 134 c) h fun g e=>
 aO vV (qL 134 b) e fun i a=>
 ∃x3:ey,aj a g 0 x3/\
 ∃d:ey,aj a i 0 d/\
 af vV 135 #[x3,d] bs a fun f h3=>
 R (vP (f==0)) h3
theorem GI(b:ey)(a:ey)(c: @xo R h b a):ac vV 137 #[b,a] h R:=ar ae Tryz.func137 .n c
abbrev NM:FuncId:=141
def EL(a:Sl)(d:Int)(b:Int):Prop:=
 aL (σ:=Sl×Int) (fun c i e=>
 Br (c.2>=0)
 ((0<=(qc vR (8*c.2)))/\
 aw vV (qt 38 1 #[(0,(vL vS (qc vS (qS d (2^min (qc vR (8*c.2)).toNat (qk vR))))))]) aJ e fun f g=>
 aw vV (qq #[38,38] 38 #[c.1,f]) aJ g fun v3 h3=>
 i ((⟨v3.ptr,v3.len,v3.cap⟩:Sl),qc vR (c.2-1)) h3)
 (R c.1 e)) ((⟨a.ptr,a.len,a.cap⟩:Sl),qc vR (b-1)) h
theorem Lu(b:Sl)(c:Int)(a:Int)(d: @EL R h b c a):ac vV 141 #[b,c,a] h R:=ar ae Tryz.func141 (al.tn (.two (al.tn (.inn (.loop [(0,ct),(7,aY)] [(0,1),(7,8),(10,22)] .n))) .n)) d
abbrev UR:FuncId:=142
def Lv(a:Int)(c:Sl):Prop:=
 bf (σ:=Unit) (fun _ o=>
 aw vV (qB 38 (vL vR (64:Int)) (vL vR (64:Int))) aJ o fun b i=>
 aw vV (qt 38 4 #[(0,(vL vS (87:Int))),(1,(vL vS (115:Int))),(2,(vL vS (1:Int))),(3,(vL vS (qc vS a)))]) aJ i fun v3 h3=>
 aw vV (wT #[38,38] 3 #[b,v3]) bs h3 fun _ j=>
 (0<=(4:Int)/\(4:Int)<=(b.len:Int))/\
 aw vV (wT #[38,38] 3 #[(.slice (if b.cap=(4:Int).toNat then b.ptr else b.ptr.map (·.add ((4:Int).toNat*1))) (b.len-(4:Int).toNat) (b.cap-(4:Int).toNat)),c]) bs j fun _ n=>
 (0<=(59:Int)/\(59:Int)<=(b.cap:Int))/\
 af vV 190 #[(vM b.ptr ((59:Int).toNat) b.cap)] (.one (.sc (.int .u32))) n fun p l=>
 aL (σ:=Int) (fun d k e=>
 Br (d<4)
 ((0<=(qc vR (8*d)))/\
 ∃f,(b.ptr=some f/\0<=(qc vR (59+d))/\(qc vR (59+d))<(b.len:Int))/\
 ag vV (qf 5 (f.add ((qc vR (59+d)).toNat*1)) (vL vS (qc vS (qS p (2^min (qc vR (8*d)).toNat (qk vT)))))) e fun _ h8=>
 k (qc vR (d+1)) h8)
 (∃a9,(b.ptr=some a9/\0<=(63:Int)/\(63:Int)<(b.len:Int))/\
 ag vV (qf 5 (a9.add ((63:Int).toNat*1)) (vL vS (165:Int))) e fun _ m=>
 R b m)) (0:Int) l)
 (fun g=>
 Br (a<1) (R (vM none 0 0) h) (Br (a>255) (R (vM none 0 0) h) (Br ((c.len:Int)>55)
 (R (vM none 0 0) h)
 (g () h))))
theorem SB(a:Int)(b:Sl)(c: @Lv R h a b):ac vV 142 #[a,b] h R:=ar ae Tryz.func142 (al.tn (.two (.join [] [(4,5),(8,19)] .n) (al.tn (al.tn (al.tn (al.tn (.two (al.tn (.inn (.loop [(32,aY)] [(7,8),(32,45)] .n))) .n))))))) c
abbrev Bw:FuncId:=143
abbrev ut:FuncId:=144
abbrev rf:FuncId:=145
def mz(a:Option Addr):Prop:=
 bf (σ:=Unit) (fun _ c=>
 ∃a4,(a=some a4)/\
 ∃b:Option Addr,cellOf c a4=some (.pointer b)/\
 af vV 34 #[b] bO c fun j d=>
 Br (!j)
 (R (vL vR (14:Int)) d)
 (∃f,(a=some f)/\
 ag vV (qf 3 (f.add 3) (vL vR (0:Int))) d fun _ h3=>
 af vV 111 #[a] bs h3 fun g i=>
 R g i))
 (fun k=>
 Br (zg a) (R (vL vR (5:Int)) h) (∃e,(a=some e)/\
 ∃x2:Bool,cellOf h (e.add 6)=some (vP x2)/\
 Br x2
 (R (vL vR (5:Int)) h)
 (k () h)))
theorem pB(a:Option Addr)(b: @mz R h a):ac vV 145 #[a] h R:=ar ae Tryz.func145 (al.tn (.two (.join [] [(2,11)] .n) .n)) b
abbrev Lw:FuncId:=146
def Ct(d:bF)(a:Int):Prop:=
 aO vV (qL 24 d) h fun b c=>
 ∃x2:bF,aj c b 0 x2/\
 ∃x3:bF,aj c b 0 x3/\
 af vV 150 #[x3] aJ c fun g e=>
 (aq.ok [(b,x2.1),(b.add 1,x2.2.1),(b.add 2,x2.2.2)] e)/\
 af vV 128 #[x2,(vL vT a),g] bO e fun f h3=>
 (aq.ok [] h3)/\
 R f h3
theorem JL(b:bF)(a:Int)(c: @Ct R h b a):ac vV 146 #[b,(vL vT a)] h R:=ar ae Tryz.func146 .n c
abbrev GJ:FuncId:=147
def Bx(E:Option Addr)(f:Sl)(i:Sl):Prop:=
 bf (σ:=Unit) (fun _ h3=>
 af vV 193 #[f] bs h3 fun j N=>
 af vV 194 #[f] aJ N fun d S=>
 aL (σ:=Int) (fun e O v=>
 Br (e<(d.len:Int))
 (∃H,(d.ptr=some H/\0<=e/\e<(d.len:Int))/\
 ∃I:Sl,cellOf v (H.add (e.toNat*1))=some (I:Value)/\
 ∃a9,(i.ptr=some a9/\0<=e/\e<(i.len:Int))/\
 ∃o:Sl,cellOf v (a9.add (e.toNat*1))=some (o:Value)/\
 aw vV (qq #[38,38] 38 #[I,o]) aJ v fun w G=>
 (aq.ok [] G)/\
 ∃q,(d.ptr=some q/\0<=e/\e<(d.len:Int))/\
 ag vV (qf 38 (q.add (e.toNat*1)) w) G fun _ h8=>
 (aq.ok [] h8)/\
 O (qc vR (e+1)) h8)
 (af vV 196 #[E] na v fun A Q=>
 af vV 195 #[A,d,j] bs Q fun a t=>
 Br (a<j)
 (R (.tuple #[(vM none 0 0),(vL vR (9:Int))]) t)
 ((0<=a/\a<=(d.len:Int))/\
 aL (σ:=Int) (fun g T k=>
 Br (decide (g<(((d.len-a.toNat):Nat):Int)))
 (∃r:Addr,((if d.cap=a.toNat then d.ptr else d.ptr.map (·.add (a.toNat*1)))=some r/\0<=g/\g<(((d.len-a.toNat):Nat):Int))/\
 ∃p:Sl,cellOf k (r.add (g.toNat*1))=some (p:Value)/\
 af vV 197 #[p] bs k fun z n=>
 Br (z>=0)
 (R (.tuple #[(vM none 0 0),(vL vR (10:Int))]) n)
 (T (qc vR (g+1)) n))
 ((0<=a/\a<=(d.cap:Int))/\
 aL (σ:=Sl×Int) (fun b M m=>
 Br (b.2<(a.toNat:Int))
 (∃s,(d.ptr=some s/\0<=b.2/\b.2<(a.toNat:Int))/\
 ∃c:Sl,cellOf m (s.add (b.2.toNat*1))=some (c:Value)/\
 (0<=j/\j<=(c.len:Int))/\
 af vV 91 #[(.slice (if c.cap=j.toNat then c.ptr else c.ptr.map (·.add (j.toNat*1))) (c.len-j.toNat) (c.cap-j.toNat))] aJ m fun B D=>
 aw vV (qt 59 1 #[(0,B)]) aJ D fun F x=>
 aw vV (qq #[59,59] 59 #[b.1,F]) aJ x fun l y=>
 M ((⟨l.ptr,l.len,l.cap⟩:Sl),qc vR (b.2+1)) y)
 (R (.tuple #[b.1,(vL vR (0:Int))]) m)) ((⟨none,0,0⟩:Sl),(0:Int)) k)) (0:Int) t))) (0:Int) S)
 (fun L=>
 af vV 192 #[f] bO h fun K J=>
 Br (!K) (R (.tuple #[(vM none 0 0),(vL vR (1:Int))]) J) (af vV 192 #[i] bO J fun P u=>
 Br (!P) (R (.tuple #[(vM none 0 0),(vL vR (1:Int))]) u) (Br ((f.len:Int) !=(i.len:Int)) (R (.tuple #[(vM none 0 0),(vL vR (1:Int))]) u) (Br ((f.len:Int)==0)
 (R (.tuple #[(vM none 0 0),(vL vR (1:Int))]) u)
 (L () u)))))
theorem EM(c:Option Addr)(a:Sl)(b:Sl)(d: @Bx R h c a b):ac vV 147 #[c,a,b] h R:=ar ae Tryz.func147 (al.tn (.two (.join [] [(6,8),(17,37)] .n) (al.tn (al.tn (.two (al.tn (.inn (.loop [(43,aY)] [(10,11),(43,59)] .n))) (al.tn (al.tn (.two (al.tn (.inn (.loop [(71,aY)] [(6,8),(13,14),(71,79)] .n))) (al.tn (.two (al.tn (.inn (.loop [(14,ct),(83,aY)] [(14,15),(16,17),(83,95)] .n))) .n)))))))))) d
abbrev ZZ:FuncId:=148
def SC:Prop:=
 af vV 198 #[] (.one (.arr (.int .u8))) h fun g f=>
 aO vV (qJ 270 true (.tuple #[])) f fun a j=>
 ag vV (qf 270 a (vQ (g.map (Sc.enc (.int .u8))).toArray)) j fun _ h3=>
 ∃x3:List (Int),(x3.length=255/\aj h3 a 0 (x3.map (Sc.enc (.int .u8))))/\
 ∃b:List (Int),(b.length=255/\aj h3 a 0 (b.map (Sc.enc (.int .u8))))/\
 af vV 199 #[(vQ (b.map (Sc.enc (.int .u8))).toArray)] (.one (.arr (.int .i64))) h3 fun i e=>
 (aq.ok (mb a 0 (x3.map (Sc.enc (.int .u8))) []) e)/\
 ∃c:Value,(aI vV (vy 275 #[(0,(vQ (x3.map (Sc.enc (.int .u8))).toArray)),(1,(vQ (i.map (Sc.enc (.int .i64))).toArray))]) c)/\
 aO vV (qL 275 c) e fun k d=>
 (aq.ok (mb a 0 (x3.map (Sc.enc (.int .u8))) []) d)/\
 R k d
theorem XJ(a: @SC R h):ac vV 148 #[] h R:=ar ae Tryz.func148 .n a
abbrev JM:FuncId:=149
def AE(f:bF)(c:Int)(a:Sl):Prop:=
 aO vV (qL 24 f) h fun j m=>
 ∃x2:bF,aj m j 0 x2/\
 af vV 200 #[x2] aJ m fun e o=>
 aL (σ:=Sl×Int) (fun b i h3=>
 Br (b.2<(a.len:Int))
 (∃a5,(a.ptr=some a5/\0<=b.2/\b.2<(a.len:Int))/\
 ∃g,cellOf h3 (a5.add (b.2.toNat*1))=some (vL vR g)/\
 ∃n:bF,aj h3 j 0 n/\
 af vV 201 #[n,(vL vT c),g] aJ h3 fun l k=>
 Br (!(zg l.ptr))
 (aw vV (qt 59 1 #[(0,l)]) aJ k fun v9 q=>
 aw vV (qq #[59,59] 59 #[b.1,v9]) aJ q fun d p=>
 i ((⟨d.ptr,d.len,d.cap⟩:Sl),qc vR (b.2+1)) p)
 (i ((⟨b.1.ptr,b.1.len,b.1.cap⟩:Sl),qc vR (b.2+1)) k))
 (R b.1 h3)) ((⟨e.ptr,e.len,e.cap⟩:Sl),(0:Int)) o
theorem Is(c:bF)(a:Int)(b:Sl)(d: @AE R h c a b):ac vV 149 #[c,(vL vT a),b] h R:=ar ae Tryz.func149 (al.tn (al.tn (.two (al.tn (.inn (.loop [(7,ct),(15,aY)] [(7,8),(9,11),(15,30)] .n))) .n))) d
abbrev Lx:FuncId:=150
def Cu(b:bF):Prop:=
 aO vV (qL 24 b) h fun e c=>
 ∃x2,cellOf c e=some (vL vR x2)/\
 aL (σ:=Sl×Int) (fun a g d=>
 Br (decide (a.2<(if(if(16:Int)<x2 then(16:Int)else x2)>(0:Int)then(if(16:Int)<x2 then(16:Int)else x2)else(0:Int))))
 (aw vV (qt 22 1 #[(0,a.2)]) aJ d fun v4 h3=>
 aw vV (qq #[22,22] 22 #[a.1,v4]) aJ h3 fun v5 f=>
 g ((⟨v5.ptr,v5.len,v5.cap⟩:Sl),qc vR (a.2+1)) f)
 (R a.1 d)) ((⟨none,0,0⟩:Sl),(0:Int)) c
theorem JN(a:bF)(b: @Cu R h a):ac vV 150 #[a] h R:=ar ae Tryz.func150 (al.tn (al.tn (.two (al.tn (.inn (.loop [(3,ct),(9,aY)] [(3,5),(9,17)] .n))) .n))) b
abbrev US:FuncId:=151
def Ly(a:Int):Prop:=
 Br (a<0) (R (.complex .f64 0 0) h) (Br (a>=4096)
 (R (.complex .f64 0 0) h)
 (af vV 202 #[] na h fun d f=>
 aL (σ:=Int) (fun e g c=>
 Br (e==a)
 (∃a3,(d=some a3)/\
 ∃b:Nat×Nat,cellOf c a3=some (.complex .f64 b.1 b.2)/\
 R (.complex .f64 b.1 b.2) c)
 (af vV 203 #[d] iu c fun _ h3=>
 g (qc vR (e+1)) h3)) (0:Int) f))
theorem SD(a:Int)(b: @Ly R h a):ac vV 151 #[a] h R:=ar ae Tryz.func151 (al.tn (.scope 0 [(4,aY)] [(2,3),(4,5),(12,23)] [.n,.n,.n] [.n] [])) b
abbrev SE:FuncId:=152
def IW(c:Nat×Nat)(b:Nat×Nat):Prop:=
 ∃a:Nat×Nat,(jC vV .sub 212 (.tmp 6) (.tmp 7) (.complex .f64 c.1 c.2) (.complex .f64 b.1 b.2) (.complex .f64 a.1 a.2))/\
 ∃f:Nat,((FloatKind.format .f64).mul a.1 a.1=some f)/\
 ∃d:Nat,((FloatKind.format .f64).mul a.2 a.2=some d)/\
 ∃e:Nat,((FloatKind.format .f64).add f d=some e)/\
 R (.float .f64 e) h
theorem Qj(b:Nat×Nat)(a:Nat×Nat)(c: @IW R h b a):ac vV 152 #[(.complex .f64 b.1 b.2),(.complex .f64 a.1 a.2)] h R:=ar ae Tryz.func152 .n c
abbrev gQ:FuncId:=153
abbrev kW:FuncId:=154
def AF(c:Int×Nat)(b:Int×Nat):Prop:=
 aO vV (qL 219 (vQ #[c.1,(.float .f64 c.2)])) h fun g o=>
 aO vV (qL 219 (vQ #[b.1,(.float .f64 b.2)])) o fun i a=>
 ∃x3:Nat,cellOf a (g.add 1)=some (.float .f64 x3)/\
 ∃m:Nat,cellOf a (i.add 1)=some (.float .f64 m)/\
 ∃d,cellOf a g=some (vL vR d)/\
 ∃f,cellOf a i=some (vL vR f)/\
 af vV 156 #[(.float .f64 x3),(.float .f64 m)] bs a fun p h3=>
 (aq.ok [(i,f),(g,d)] h3)/\
 af vV 157 #[d,f] bs h3 fun n l=>
 (aq.ok [] l)/\
 aw vV (qt 22 2 #[(0,p),(1,n)]) aJ l fun v9 k=>
 (aq.ok [] k)/\
 af vV 155 #[v9] bs k fun e j=>
 (aq.ok [] j)/\
 R e j
theorem It(b:Int×Nat)(a:Int×Nat)(c: @AF R h b a):ac vV 154 #[(vQ #[b.1,(.float .f64 b.2)]),(vQ #[a.1,(.float .f64 a.2)])] h R:=ar ae Tryz.func154 .n c
abbrev Qk:FuncId:=155
def xp(a:Sl):Prop:=
 aL (σ:=Int) (fun b e c=>
 Br (b<(a.len:Int))
 (∃d,(a.ptr=some d/\0<=b/\b<(a.len:Int))/\
 ∃x3,cellOf c (d.add (b.toNat*1))=some (vL vR x3)/\
 Br (x3 !=0)
 (R x3 c)
 (e (qc vR (b+1)) c))
 (R (vL vR (0:Int)) c)) (0:Int) h
theorem Cv(a:Sl)(b: @xp R h a):ac vV 155 #[a] h R:=ar ae Tryz.func155 (al.tn (al.tn (.two (al.tn (.inn (.loop [(8,aY)] [(2,3),(5,6),(8,17)] .n))) .n))) b
abbrev By:FuncId:=156
def oI(a:Nat)(b:Nat):Prop:=
 af vV 205 #[(.float .f64 a)] bO h fun f e=>
 af vV 205 #[(.float .f64 b)] bO e fun d c=>
 Br f
 (Br d
 (R (vL vR (0:Int)) c)
 (R (vL vR (-1:Int)) c))
 (Br d
 (R (vL vR (1:Int)) c)
 (Br ((FloatKind.format .f64).order a b==some .lt)
 (R (vL vR (-1:Int)) c)
 (Br ((FloatKind.format .f64).order a b==some .gt)
 (R (vL vR (1:Int)) c)
 (R (vL vR (0:Int)) c))))
theorem zU(a:Nat)(b:Nat)(c: @oI R h a b):ac vV 156 #[(.float .f64 a),(.float .f64 b)] h R:=ar ae Tryz.func156 .n c
abbrev sU:FuncId:=157
def np(a:Int)(b:Int):Prop:=
 af vV 206 #[a] bO h fun f e=>
 af vV 206 #[b] bO e fun d c=>
 Br f
 (Br d
 (R (vL vR (0:Int)) c)
 (R (vL vR (-1:Int)) c))
 (Br d
 (R (vL vR (1:Int)) c)
 (Br (a<b)
 (R (vL vR (-1:Int)) c)
 (Br (a>b)
 (R (vL vR (1:Int)) c)
 (R (vL vR (0:Int)) c))))
theorem rg(a:Int)(b:Int)(c: @np R h a b):ac vV 157 #[a,b] h R:=ar ae Tryz.func157 .n c
abbrev Ql:FuncId:=158
def GK(i:ey):Prop:=
 aO vV (qL 134 i) h fun b a=>
 bf (σ:=Bool) (fun o g=>
 Br o (∃m:bF,aj g (b.add 3) 0 m/\
 af vV 39 #[m] bO g fun f h3=>
 Br f (∃e:Sl,cellOf h3 (b.add 7)=some (e:Value)/\
 ∃d,cellOf h3 ((b.add 3).add 2)=some (vL vR d)/\
 R (vP ((e.len:Int)==d)) h3) (R false h3)) (R false g))
 (fun c=>
 ∃x2,cellOf a b=some (vL vR x2)/\
 Br (x2>=0) (∃x3,cellOf a b=some (vL vR x3)/\
 Br (x3<=16777215) (∃l,cellOf a (b.add 1)=some (vL vR l)/\
 Br (l>=0) (∃j,cellOf a (b.add 1)=some (vL vR j)/\
 Br (j<8) (∃n,cellOf a (b.add 2)=some (vL vR n)/\
 Br (n>=0) (∃k,cellOf a (b.add 2)=some (vL vR k)/\
 c (decide (k<=65535)) a) (c false a)) (c false a)) (c false a)) (c false a)) (c false a))
theorem NN(a:ey)(b: @GK R h a):ac vV 158 #[a] h R:=ar ae Tryz.func158 (al.tn (.two (.join [(3,ms)] [(3,32)] .n) .n)) b
abbrev JO:FuncId:=159
def AG(a:Sl)(d:Int)(b:Int):Prop:=
 aL (σ:=Sl×Int) (fun c i e=>
 Br (c.2>=0)
 ((0<=(qc vR (8*c.2)))/\
 aw vV (qt 38 1 #[(0,(vL vS (qc vS (qS d (2^min (qc vR (8*c.2)).toNat (qk vR))))))]) aJ e fun f g=>
 aw vV (qq #[38,38] 38 #[c.1,f]) aJ g fun v3 h3=>
 i ((⟨v3.ptr,v3.len,v3.cap⟩:Sl),qc vR (c.2-1)) h3)
 (R c.1 e)) ((⟨a.ptr,a.len,a.cap⟩:Sl),qc vR (b-1)) h
theorem Iu(b:Sl)(c:Int)(a:Int)(d: @AG R h b c a):ac vV 159 #[b,c,a] h R:=ar ae Tryz.func159 (al.tn (.two (al.tn (.inn (.loop [(0,ct),(7,aY)] [(0,1),(7,8),(10,22)] .n))) .n)) d
abbrev nt:FuncId:=160
def iV(b:Sl)(E:Int)(B:Int)(f:Int)(a:FuncId×Array Value×Array Value):Prop:=
 aL (σ:=Tu6) (fun c u s=>
 Br ((qc vR (c.2.1-c.1))<=12)
 (af vV 207 #[b,c.1,c.2.1,(.func (.func a.1) a.2.1 a.2.2)] iu s fun _ L=>
 R (.tuple #[]) L)
 (Br (c.2.2.1==0)
 (af vV 208 #[b,c.1,c.2.1,(.func (.func a.1) a.2.1 a.2.2)] iu s fun _ h3=>
 R (.tuple #[]) h3)
 (bf (σ:=Int) (fun o N=>
 af vV 210 #[b,c.1,c.2.1,(.func (.func a.1) a.2.1 a.2.2)] (.many [aY,aY]) N fun t G=>
 bf (σ:=Int×Int) (fun k h8=>
 bf (σ:=Unit) (fun _ j=>
 bf (σ:=Int) (fun e D=>
 af vV 214 #[b,e,c.2.1,k.1,(.func (.func a.1) a.2.1 a.2.2)] (.many [aY,ms]) D fun d n=>
 ((8:Int)≠0)/\
 Br ((qc vR (d.1-e))<(qc vR (c.2.1-d.1)))
 (af vV 160 #[b,e,d.1,o,(.func (.func a.1) a.2.1 a.2.2)] iu n fun _ A=>
 u (qc vR (d.1+1),c.2.1,o,decide ((qc vR (d.1-e))>=(qc vR (wC (qc vR (c.2.1-c.1)) 8))),d.2) A)
 (af vV 160 #[b,(qc vR (d.1+1)),c.2.1,o,(.func (.func a.1) a.2.1 a.2.2)] iu n fun _ v=>
 u (e,d.1,o,decide ((qc vR (c.2.1-d.1))>=(qc vR (wC (qc vR (c.2.1-c.1)) 8))),d.2) v))
 (fun P=>
 bf (σ:=Bool) (fun x l=>
 Br x
 (af vV 213 #[b,c.1,c.2.1,k.1,(.func (.func a.1) a.2.1 a.2.2)] bs l fun z w=>
 u (z,c.2.1,o,c.2.2.2.1,c.2.2.2.2) w)
 (P c.1 l))
 (fun I=>
 Br (c.1>0) (∃q,(b.ptr=some q/\0<=(qc vR (c.1-1))/\(qc vR (c.1-1))<(b.len:Int))/\
 ∃i:iD,aj j (q.add ((qc vR (c.1-1)).toNat*4)) 0 i/\
 ∃p,(b.ptr=some p/\0<=k.1/\k.1<(b.len:Int))/\
 ∃g:iD,aj j (p.add (k.1.toNat*4)) 0 g/\
 ig C a.1 (a.2.1.toList++[(vQ #[i.1,i.2.1,i.2.2.1,i.2.2.2]),(vQ #[g.1,g.2.1,g.2.2.1,g.2.2.2])]++a.2.2.toList) bs j fun y m=>
 (aq.ok [] m)/\
 I (!(decide (y<0))) m) ((aq.ok [] j)/\
 I false j))))
 (fun r=>
 Br c.2.2.2.1 (Br c.2.2.2.2 (Br (k.2==1)
 (af vV 212 #[b,c.1,c.2.1,(.func (.func a.1) a.2.1 a.2.2)] bO h8 fun O H=>
 Br O
 (R (.tuple #[]) H)
 (r () H))
 (r () h8)) (r () h8)) (r () h8)))
 (fun J=>
 Br (t.2==2)
 (af vV 211 #[b,c.1,c.2.1,(.func (.func a.1) a.2.1 a.2.2)] iu G fun _ K=>
 J (qc vR ((qc vR (c.2.1-1))-(qc vR (t.1-c.1))),(1:Int)) K)
 (J (t.1,t.2) G)))
 (fun F=>
 Br (!c.2.2.2.1)
 (af vV 209 #[b,c.1,c.2.1,(.func (.func a.1) a.2.1 a.2.2)] iu s fun _ M=>
 F (qc vR (c.2.2.1-1)) M)
 (F c.2.2.1 s))))) (E,B,f,true,true) h
theorem mR(c:Sl)(d:Int)(e:Int)(b:Int)(a:FuncId×Array Value×Array Value)(f: @iV R h c d e b a):ac vV 160 #[c,d,e,b,(.func (.func a.1) a.2.1 a.2.2)] h R:=ar ae Tryz.func160 (al.tn (al.tn (.inn (.loop [(1,aY),(2,aY),(3,aY),(10,ms),(11,ms)] [(1,4),(10,148)] (.inn (al.tn (al.tn (al.tn (.two (.join [(3,aY)] [(3,4),(38,47)] .n) (al.tn (.two (.join [(13,aY),(14,aY)] [(13,15),(55,68)] .n) (.two (.join [] [(68,81)] .n) (.two (.join [(1,aY)] [(1,2),(15,16),(81,105)] (.two (.join [(97,ms)] [(81,98)] .n) .n)) .n))))))))))))) f
abbrev xq:FuncId:=161
abbrev Fq:FuncId:=162
def sV(a:ByteArray):Prop:=
 R (vP (!(a.toList==a.toList))) h
theorem DR(a:ByteArray)(b: @sV R h a):ac vV 162 #[a] h R:=ar ae Tryz.func162 .n b
abbrev sW:FuncId:=163
def fL(a:Sl)(b:FuncId×Array Value×Array Value):Prop:=
 aL (σ:=Int) (fun c i d=>
 Br (c<(a.len:Int))
 (∃f,(a.ptr=some f/\0<=c/\c<(a.len:Int))/\
 ∃x3,cellOf d (f.add (c.toNat*1))=some (vL vR x3)/\
 ig C b.1 (b.2.1.toList++[(vL vR x3)]++b.2.2.toList) bO d fun g e=>
 Br g
 (R c e)
 (i (qc vR (c+1)) e))
 (R (vL vR (-1:Int)) d)) (0:Int) h
theorem gX(b:Sl)(a:FuncId×Array Value×Array Value)(c: @fL R h b a):ac vV 163 #[b,(.func (.func a.1) a.2.1 a.2.2)] h R:=ar ae Tryz.func163 (al.tn (.two (al.tn (.inn (.loop [(8,aY)] [(4,6),(8,19)] .n))) .n)) c
abbrev NO:FuncId:=164
def EN(c:Option Addr)(a:Int)(b:Int):Prop:=
 af vV 109 #[c] bs h fun e d=>
 R (decide ((if(0:Int)>b then(0:Int)else b)<=(qc vR (e-a)))) d
theorem Lz(c:Option Addr)(a:Int)(b:Int)(d: @EN R h c a b):ac vV 164 #[c,a,b] h R:=ar ae Tryz.func164 .n d
abbrev GL:FuncId:=165
def ua(a:Option Addr):Prop:=
 Br (zg a)
 (R (vL vR (0:Int)) h)
 (∃b,(a=some b)/\
 ∃x2:Sl,cellOf h (b.add 2)=some (x2:Value)/\
 R (vL vR (x2.len:Int)) h)
theorem Fs(a:Option Addr)(b: @ua R h a):ac vV 165 #[a] h R:=ar ae Tryz.func165 .n b
abbrev pC:FuncId:=167
def Cw(a:Int):Prop:=
 af vV 113 #[a,(vL vR (0:Int)),(vL vR (15:Int))] bO h fun c b=>
 R (vP (!c)) b
theorem JP(a:Int)(b: @Cw R h a):ac vV 167 #[a] h R:=ar ae Tryz.func167 .n b
def gx(a:Sl)(b:FuncId×Array Value×Array Value):Prop:=
 aL (σ:=Int) (fun c i d=>
 Br (c<(a.len:Int))
 (∃f,(a.ptr=some f/\0<=c/\c<(a.len:Int))/\
 ∃x3:Int×Sl,aj d (f.add (c.toNat*2)) 0 x3/\
 ig C b.1 (b.2.1.toList++[(vQ #[x3.1,x3.2])]++b.2.2.toList) bO d fun g e=>
 Br g
 (R c e)
 (i (qc vR (c+1)) e))
 (R (vL vR (-1:Int)) d)) (0:Int) h
theorem ky(b:Sl)(a:FuncId×Array Value×Array Value)(c: @gx R h b a):ac vV 168 #[b,(.func (.func a.1) a.2.1 a.2.2)] h R:=ar ae Tryz.func168 (al.tn (.two (al.tn (.inn (.loop [(8,aY)] [(4,6),(8,19)] .n))) .n)) c
abbrev NP:FuncId:=169
def EO(d:bF)(a:Int)(b:Sl):Prop:=
 aO vV (qL 24 d) h fun c e=>
 ∃x2:bF,aj e c 0 x2/\
 af vV 148 #[] na e fun j f=>
 (aq.ok [(c,x2.1),(c.add 1,x2.2.1),(c.add 2,x2.2.2)] f)/\
 af vV 149 #[x2,(vL vT a),b] aJ f fun k h3=>
 (aq.ok [] h3)/\
 af vV 222 #[j,k] bs h3 fun i g=>
 (aq.ok [] g)/\
 R i g
theorem LA(c:bF)(a:Int)(b:Sl)(d: @EO R h c a b):ac vV 169 #[c,(vL vT a),b] h R:=ar ae Tryz.func169 .n d
abbrev UT:FuncId:=170
def LB(b:bF):Prop:=
 aO vV (qL 24 b) h fun c e=>
 ∃x2:bF,aj e c 0 x2/\
 af vV 39 #[x2] bO e fun g a=>
 Br (!g)
 (R (vL vR (0:Int)) a)
 (∃f,cellOf a c=some (vL vR f)/\
 ∃d,cellOf a (c.add 1)=some (vL vR d)/\
 R (qc vR (f+d)) a)
theorem SF(a:bF)(b: @LB R h a):ac vV 170 #[a] h R:=ar ae Tryz.func170 .n b
abbrev SG:FuncId:=171
def IX(b:Int)(c:Sl):Prop:=
 af vV 223 #[b,c] bO h fun M E=>
 Br (!M)
 (R (.tuple #[(vM none 0 0),(vM none 0 0),(vM none 0 0),(vL vR (1:Int))]) E)
 (bf (σ:=Option Addr) (fun u h8=>
 af vV 224 #[u] iu h8 fun _ P=>
 aL (σ:=Sl×Int) (fun a J e=>
 Br (a.2<(c.len:Int))
 (∃r,(c.ptr=some r/\0<=a.2/\a.2<(c.len:Int))/\
 ∃q:Sl×Sl,aj e (r.add (a.2.toNat*2)) 0 q/\
 aO vV (qJ 235 true (.tuple #[])) e fun p v=>
 ag vV (qf 235 p q) v fun _ i=>
 ∃l:Sl×Sl,aj i p 0 l/\
 af vV 225 #[u,l] (.one (.agg [.slc,.slc])) i fun y x=>
 aO vV (qJ 235 true (.tuple #[])) x fun f A=>
 ag vV (qf 235 f y) A fun _ d=>
 ∃k:Sl,cellOf d f=some (k:Value)/\
 Br ((k.len:Int)>0)
 (∃n:Sl×Sl,aj d f 0 n/\
 aw vV (qt 233 1 #[(0,n)]) aJ d fun D z=>
 aw vV (qq #[233,233] 233 #[a.1,D]) aJ z fun g w=>
 J ((⟨g.ptr,g.len,g.cap⟩:Sl),qc vR (a.2+1)) w)
 (∃s:Sl,cellOf d (f.add 1)=some (s:Value)/\
 af vV 226 #[s] bO d fun B j=>
 Br (!B)
 (R (.tuple #[(vM none 0 0),(vM none 0 0),(vM none 0 0),(vL vR (10:Int))]) j)
 (J ((⟨a.1.ptr,a.1.len,a.1.cap⟩:Sl),qc vR (a.2+1)) j)))
 (∃o,(u=some o)/\
 ∃t:Sl,cellOf e (o.add 1)=some (t:Value)/\
 ∃a25,(u=some a25)/\
 ∃m:Sl,cellOf e (a25.add 2)=some (m:Value)/\
 R (.tuple #[t,m,a.1,(vL vR (0:Int))]) e)) ((⟨none,0,0⟩:Sl),(0:Int)) P)
 (fun F=>
 (aw vV (qB 242 b b) aJ E fun Q H=>
 (aq.ok [] H)/\
 aw vV (qB 59 b b) aJ H fun v3 h3=>
 (aq.ok [] h3)/\
 aO vV (qL 309 (vQ #[c,Q,v3])) h3 fun a4 I=>
 (aq.ok [] I)/\
 F (some a4) I)/\(aw vV (qB 59 b b) aJ E fun v5 L=>
 (aq.ok [] L)/\
 aw vV (qB 242 b b) aJ L fun N K=>
 (aq.ok [] K)/\
 aO vV (qL 309 (vQ #[c,N,v5])) K fun O G=>
 (aq.ok [] G)/\
 F (some O) G)))
theorem Qm(b:Int)(a:Sl)(c: @IX R h b a):ac vV 171 #[b,a] h R:=ar ae Tryz.func171 (al.tn (al.tn (.two (.join [(8,OV)] [(8,9),(16,23)] .n) (al.tn (.two (al.tn (.inn (.loop [(6,ct),(27,aY)] [(4,8),(10,12),(27,47)] .n))) .n))))) c
abbrev Bz:FuncId:=172
def oJ(z:Option Addr)(a:Sl):Prop:=
 aO vV (qL 236 z) h fun s F=>
 ∃x2:Option Addr,cellOf F s=some (.pointer x2)/\
 ∃a3,(x2=some a3)/\
 ∃t:Sl,cellOf F (a3.add 5)=some (t:Value)/\
 aL (σ:=Sl×Int) (fun d Q x=>
 Br (d.2<(t.len:Int))
 (∃O,(t.ptr=some O/\0<=d.2/\d.2<(t.len:Int))/\
 ∃P:Sl×Sl,aj x (O.add (d.2.toNat*2)) 0 P/\
 aO vV (qJ 235 true (.tuple #[])) x fun N h3=>
 ag vV (qf 235 N P) h3 fun _ L=>
 ∃K:Sl,cellOf L N=some (K:Value)/\
 aw vV (qt 197 1 #[(0,K)]) aJ L fun G T=>
 aw vV (qq #[197,197] 197 #[d.1,G]) aJ T fun e S=>
 Q ((⟨e.ptr,e.len,e.cap⟩:Sl),qc vR (d.2+1)) S)
 (aL (σ:=Sl×Int) (fun b M r=>
 Br (b.2<(a.len:Int))
 (∃l,(a.ptr=some l/\0<=b.2/\b.2<(a.len:Int))/\
 ∃j:Bool,cellOf r (l.add (b.2.toNat*1))=some (vP j)/\
 Br j
 (aw vV (qt 22 1 #[(0,b.2)]) aJ r fun J h8=>
 aw vV (qt 197 1 #[(0,J)]) aJ h8 fun y U=>
 aw vV (qq #[197,197] 197 #[b.1,y]) aJ U fun f H=>
 M ((⟨f.ptr,f.len,f.cap⟩:Sl),qc vR (b.2+1)) H)
 (M ((⟨b.1.ptr,b.1.len,b.1.cap⟩:Sl),qc vR (b.2+1)) r))
 (af vV 227 #[(vL vR (a.len:Int)),b.1] (.many [(.agg [.slc,.slc,.slc]),ms]) r fun A v=>
 aO vV (qJ 239 true (.tuple #[])) v fun c u=>
 ag vV (qf 239 c A.1) u fun _ m=>
 ∃n:Sl,cellOf m c=some (n:Value)/\
 af vV 228 #[n,(.func (.func 229) #[] #[s])] aJ m fun I E=>
 ag vV (qf 237 c I) E fun _ i=>
 ∃p:Sl,cellOf i (c.add 2)=some (p:Value)/\
 af vV 230 #[p,(.func (.func 231) #[] #[s])] aJ i fun D B=>
 ag vV (qf 22 (c.add 2) D) B fun _ g=>
 ∃q:Option Addr,cellOf g s=some (.pointer q)/\
 ∃o:Sl×Sl×Sl,aj g c 0 o/\
 ∃k,(q=some k)/\
 ag vV (qf 239 (k.add 6) o) g fun _ w=>
 R (.tuple #[]) w)) ((⟨d.1.ptr,d.1.len,d.1.cap⟩:Sl),(0:Int)) x)) ((⟨none,0,0⟩:Sl),(0:Int)) F
theorem Aa(b:Option Addr)(a:Sl)(c: @oJ R h b a):ac vV 172 #[b,a] h R:=ar ae Tryz.func172 (al.tn (al.tn (.two (al.tn (.inn (.loop [(4,ct),(16,aY)] [(4,5),(6,7),(16,26)] .n))) (.two (al.tn (.inn (.loop [(4,ct),(28,aY)] [(4,5),(7,9),(28,40)] .n))) .n)))) c
abbrev BA:FuncId:=173
def oK(b:Option Addr):Prop:=
 ∃a1,(b=some a1)/\
 ∃x2:Sl,cellOf h ((a1.add 6).add 1)=some (x2:Value)/\
 bf (σ:=Unit) (fun _ b4=>
 ∃Z,(b=some Z)/\
 ∃p:Sl,cellOf b4 ((Z.add 6).add 1)=some (p:Value)/\
 aL (σ:=Int) (fun f K2 i=>
 Br (f<(p.len:Int))
 (∃bd,(p.ptr=some bd/\0<=f/\f<(p.len:Int))/\
 ∃a,cellOf i (bd.add (f.toNat*1))=some (vL vR a)/\
 bf (σ:=Unit) (fun _ Q=>
 ∃b5,(b=some b5)/\
 ∃K:Sl,cellOf Q (b5.add 9)=some (K:Value)/\
 ∃ax,(K.ptr=some ax/\0<=a/\a<(K.len:Int))/\
 ∃P:Sl,cellOf Q (ax.add (a.toNat*1))=some (P:Value)/\
 ∃ap,(P.ptr=some ap/\0<=f/\f<(P.len:Int))/\
 ag vV (qf 5 (ap.add (f.toNat*1)) (vL vS (1:Int))) Q fun _ cq=>
 K2 (qc vR (f+1)) cq)
 (fun K3=>
 ∃k,(b=some k)/\
 ∃e:Sl,cellOf i (k.add 9)=some (e:Value)/\
 ∃a25,(b=some a25)/\
 ∃c:Sl,cellOf i (a25.add 10)=some (c:Value)/\
 ∃M,(b=some M)/\
 ∃g,cellOf i ((M.add 1).add 2)=some (vL vR g)/\
 (aw vV (qB 38 (vL vR (x2.len:Int)) (vL vR (x2.len:Int))) aJ i fun W H=>
 (aq.ok [((M.add 1).add 2,g),(a25.add 10,c),(k.add 9,e)] H)/\
 ∃F,(e.ptr=some F/\0<=a/\a<(e.len:Int))/\
 (aw vV (qB 38 g g) aJ H fun cs a4=>
 (aq.ok [(a25.add 10,c),(k.add 9,e)] a4)/\
 ag vV (qf 38 (F.add (a.toNat*1)) W) a4 fun _ ao=>
 (aq.ok [] ao)/\
 ∃S,(c.ptr=some S/\0<=a/\a<(c.len:Int))/\
 ag vV (qf 38 (S.add (a.toNat*1)) cs) ao fun _ b9=>
 (aq.ok [] b9)/\
 K3 () b9)/\(ag vV (qf 38 (F.add (a.toNat*1)) W) H fun _ a2=>
 (aq.ok [] a2)/\
 aw vV (qB 38 g g) aJ a2 fun cr br=>
 (aq.ok [] br)/\
 ∃ay,(c.ptr=some ay/\0<=a/\a<(c.len:Int))/\
 ag vV (qf 38 (ay.add (a.toNat*1)) cr) br fun _ cd=>
 (aq.ok [] cd)/\
 K3 () cd))/\(aw vV (qB 38 g g) aJ i fun c4 b3=>
 (aq.ok [(a25.add 10,c),(k.add 9,e)] b3)/\
 aw vV (qB 38 (vL vR (x2.len:Int)) (vL vR (x2.len:Int))) aJ b3 fun c1 bk=>
 (aq.ok [(a25.add 10,c),(k.add 9,e)] bk)/\
 ∃bq,(e.ptr=some bq/\0<=a/\a<(e.len:Int))/\
 ag vV (qf 38 (bq.add (a.toNat*1)) c1) bk fun _ a9=>
 (aq.ok [] a9)/\
 ∃X,(c.ptr=some X/\0<=a/\a<(c.len:Int))/\
 ag vV (qf 38 (X.add (a.toNat*1)) c4) a9 fun _ Y=>
 (aq.ok [] Y)/\
 K3 () Y)))
 (∃a45,(b=some a45)/\
 ∃q:Sl,cellOf i (a45.add 6)=some (q:Value)/\
 aL (σ:=Int) (fun m K4 D=>
 Br (m<(q.len:Int))
 (∃cc,(q.ptr=some cc/\0<=m/\m<(q.len:Int))/\
 ∃b0:Int×Int,aj D (cc.add (m.toNat*2)) 0 b0/\
 aO vV (qJ 315 true (.tuple #[])) D fun a50 cn=>
 ag vV (qf 315 a50 b0) cn fun _ v=>
 bf (σ:=Addr) (fun J G=>
 bf (σ:=Sl×Sl) (fun z ad=>
 ∃x:Sl,cellOf ad J=some (x:Value)/\
 aL (σ:=Int) (fun l K7 d=>
 Br (l<(x.len:Int))
 (∃a66,(x.ptr=some a66/\0<=l/\l<(x.len:Int))/\
 ∃N,cellOf d (a66.add (l.toNat*1))=some (vL vR N)/\
 ∃U,cellOf d (a50.add 1)=some (vL vR U)/\
 Br (N !=U)
 (af vV 232 #[b,(vL vS (1:Int)),N,z.1,z.2] iu d fun _ cp=>
 K7 (qc vR (l+1)) cp)
 (K7 (qc vR (l+1)) d))
 (∃a70,(b=some a70)/\
 ∃B:Sl,cellOf d (a70.add 9)=some (B:Value)/\
 ∃r,cellOf d (a50.add 1)=some (vL vR r)/\
 ∃bb,(b=some bb)/\
 ∃O:Sl,cellOf d (bb.add 10)=some (O:Value)/\
 ∃o,cellOf d (a50.add 1)=some (vL vR o)/\
 ∃a76,(B.ptr=some a76/\0<=r/\r<(B.len:Int))/\
 ag vV (qf 38 (a76.add (r.toNat*1)) z.1) d fun _ am=>
 (aq.ok [(a50.add 1,o)] am)/\
 ∃a77,(O.ptr=some a77/\0<=o/\o<(O.len:Int))/\
 ag vV (qf 38 (a77.add (o.toNat*1)) z.2) am fun _ a0=>
 (aq.ok [] a0)/\
 K4 (qc vR (m+1)) a0)) (0:Int) ad)
 (fun K6=>
 ∃y:Sl,cellOf G (J.add 1)=some (y:Value)/\
 (aw vV (qB 38 (vL vR (x2.len:Int)) (vL vR (x2.len:Int))) aJ G fun A a7=>
 (aq.ok [(J.add 1,y)] a7)/\
 af vV 91 #[y] aJ a7 fun L b7=>
 (aq.ok [] b7)/\
 K6 ((⟨A.ptr,A.len,A.cap⟩:Sl),(⟨L.ptr,L.len,L.cap⟩:Sl)) b7)/\(af vV 91 #[y] aJ G fun E b1=>
 (aq.ok [] b1)/\
 aw vV (qB 38 (vL vR (x2.len:Int)) (vL vR (x2.len:Int))) aJ b1 fun I ab=>
 (aq.ok [] ab)/\
 K6 ((⟨I.ptr,I.len,I.cap⟩:Sl),(⟨E.ptr,E.len,E.cap⟩:Sl)) ab)))
 (fun K5=>
 ∃a51,(b=some a51)/\
 ∃t:Sl,cellOf v (a51.add 5)=some (t:Value)/\
 ∃j,cellOf v a50=some (vL vR j)/\
 ∃w,(t.ptr=some w/\0<=j/\j<(t.len:Int))/\
 ∃s:Sl×Sl,aj v (w.add (j.toNat*2)) 0 s/\
 aO vV (qJ 235 true (.tuple #[])) v fun V cf=>
 (aq.ok [(w.add (j.toNat*2),s.1),((w.add (j.toNat*2)).add 1,s.2),(a50,j),(a51.add 5,t)] cf)/\
 ag vV (qf 235 V s) cf fun _ b2=>
 (aq.ok [] b2)/\
 K5 V b2))
 (R (.tuple #[]) D)) (0:Int) i)) (0:Int) b4)
 (fun K1=>
 ∃a3,(b=some a3)/\
 ∃u:Sl,cellOf h (a3.add 4)=some (u:Value)/\
 ∃a5,(b=some a5)/\
 ∃n:Sl,cellOf h (a5.add 4)=some (n:Value)/\
 (aw vV (qB 59 (vL vR (u.len:Int)) (vL vR (u.len:Int))) aJ h fun v7 h1=>
 (aq.ok [(a5.add 4,n),(a3.add 4,u)] h1)/\
 ∃a8,(b=some a8)/\
 (aw vV (qB 59 (vL vR (n.len:Int)) (vL vR (n.len:Int))) aJ h1 fun v9 h2=>
 (aq.ok [(a5.add 4,n),(a3.add 4,u)] h2)/\
 ag vV (qf 59 (a8.add 9) v7) h2 fun _ h3=>
 (aq.ok [] h3)/\
 ∃b6,(b=some b6)/\
 ag vV (qf 59 (b6.add 10) v9) h3 fun _ h4=>
 (aq.ok [] h4)/\
 K1 () h4)/\(ag vV (qf 59 (a8.add 9) v7) h1 fun _ h5=>
 (aq.ok [] h5)/\
 aw vV (qB 59 (vL vR (n.len:Int)) (vL vR (n.len:Int))) aJ h5 fun c2 h6=>
 (aq.ok [] h6)/\
 ∃a6,(b=some a6)/\
 ag vV (qf 59 (a6.add 10) c2) h6 fun _ h7=>
 (aq.ok [] h7)/\
 K1 () h7))/\(aw vV (qB 59 (vL vR (n.len:Int)) (vL vR (n.len:Int))) aJ h fun c5 h8=>
 (aq.ok [(a5.add 4,n),(a3.add 4,u)] h8)/\
 aw vV (qB 59 (vL vR (u.len:Int)) (vL vR (u.len:Int))) aJ h8 fun c0 h9=>
 (aq.ok [(a5.add 4,n),(a3.add 4,u)] h9)/\
 ∃bl,(b=some bl)/\
 ag vV (qf 59 (bl.add 9) c0) h9 fun _ ch=>
 (aq.ok [] ch)/\
 ∃ah,(b=some ah)/\
 ag vV (qf 59 (ah.add 10) c5) ch fun _ T=>
 (aq.ok [] T)/\
 K1 () T))
theorem Ab(a:Option Addr)(b: @oK R h a):ac vV 173 #[a] h R:=ar ae Tryz.func173 (al.tn (.two (.join [] [(18,36)] .n) (.two (al.tn (.inn (.loop [(42,aY)] [(3,5),(42,77)] (al.tn (al.tn (.two (.inn (al.tn (.two (.join [] [(47,67)] .n) .n))) .n)))))) (al.tn (.inn (.loop [(83,aY)] [(6,10),(11,12),(83,134)] (al.tn (al.tn (.two (.inn (al.tn (.two (.join [(7,(.sc .adr))] [(7,8),(87,95)] .n) (.two (.join [(8,ct),(9,ct)] [(8,10),(95,100)] .n) (.two (al.tn (.inn (.loop [(103,aY)] [(11,12),(103,117)] .n))) .n))))) .n))))))))) b
abbrev Cx:FuncId:=174
def pD(c:Option Addr):Prop:=
 ∃q,(c=some q)/\
 ∃x2:Sl,cellOf h (q.add 4)=some (x2:Value)/\
 aL (σ:=Int) (fun a o e=>
 Br (a<(x2.len:Int))
 (∃a4,(x2.ptr=some a4/\0<=a/\a<(x2.len:Int))/\
 ∃n:Sl,cellOf e (a4.add (a.toNat*1))=some (n:Value)/\
 Br (!(zg n.ptr))
 (∃m,(c=some m)/\
 ∃j:Sl,cellOf e (m.add 9)=some (j:Value)/\
 ∃l,(c=some l)/\
 ∃i:Sl,cellOf e (l.add 10)=some (i:Value)/\
 ∃d,(c=some d)/\
 ∃b:Sl,cellOf e ((d.add 6).add 1)=some (b:Value)/\
 aw vV (qB 38 (vL vR (b.len:Int)) (vL vR (b.len:Int))) aJ e fun k p=>
 (aq.ok [((d.add 6).add 1,b),(l.add 10,i),(m.add 9,j)] p)/\
 ∃f,(j.ptr=some f/\0<=a/\a<(j.len:Int))/\
 ag vV (qf 38 (f.add (a.toNat*1)) k) p fun _ h3=>
 (aq.ok [] h3)/\
 ∃g,(i.ptr=some g/\0<=a/\a<(i.len:Int))/\
 ag vV (qf 38 (g.add (a.toNat*1)) n) h3 fun _ r=>
 (aq.ok [] r)/\
 o (qc vR (a+1)) r)
 (o (qc vR (a+1)) e))
 (R (.tuple #[]) e)) (0:Int) h
theorem BB(a:Option Addr)(b: @pD R h a):ac vV 174 #[a] h R:=ar ae Tryz.func174 (al.tn (.inn (.loop [(9,aY)] [(2,4),(9,37)] .n))) b
abbrev BC:FuncId:=175
def oL(b:Option Addr):Prop:=
 ∃a1,(b=some a1)/\
 ∃x2:Sl,cellOf h ((a1.add 6).add 1)=some (x2:Value)/\
 ∃a3,(b=some a3)/\
 ∃U:Sl,cellOf h ((a3.add 6).add 2)=some (U:Value)/\
 aL (σ:=Sl×Sl×Int) (fun e K1 F=>
 Br (e.2.2<(U.len:Int))
 (∃a6,(U.ptr=some a6/\0<=e.2.2/\e.2.2<(U.len:Int))/\
 ∃n,cellOf F (a6.add (e.2.2.toNat*1))=some (vL vR n)/\
 bf (σ:=Sl×Sl) (fun l Y=>
 ∃P,(b=some P)/\
 ∃x:Sl,cellOf Y (P.add 5)=some (x:Value)/\
 ∃M,(x.ptr=some M/\0<=n/\n<(x.len:Int))/\
 ∃k:Sl,cellOf Y (M.add (n.toNat*2))=some (k:Value)/\
 aL (σ:=Int) (fun g K3 h7=>
 Br (g<(k.len:Int))
 (∃a22,(k.ptr=some a22/\0<=g/\g<(k.len:Int))/\
 ∃I,cellOf h7 (a22.add (g.toNat*1))=some (vL vR I)/\
 af vV 232 #[b,(vL vS (1:Int)),I,l.1,l.2] iu h7 fun _ h8=>
 K3 (qc vR (g+1)) h8)
 (aw vV (qt 59 1 #[(0,l.1)]) aJ h7 fun v25 h9=>
 aw vV (qq #[59,59] 59 #[e.1,v25]) aJ h9 fun o ax=>
 aw vV (qt 59 1 #[(0,l.2)]) aJ ax fun X V=>
 aw vV (qq #[59,59] 59 #[e.2.1,X]) aJ V fun v28 ao=>
 K1 ((⟨o.ptr,o.len,o.cap⟩:Sl),(⟨v28.ptr,v28.len,v28.cap⟩:Sl),qc vR (e.2.2+1)) ao)) (0:Int) Y)
 (fun K2=>
 ∃G,(b=some G)/\
 ∃w:Sl,cellOf F (G.add 5)=some (w:Value)/\
 ∃B,(w.ptr=some B/\0<=n/\n<(w.len:Int))/\
 ∃j:Sl,cellOf F ((B.add (n.toNat*2)).add 1)=some (j:Value)/\
 (aw vV (qB 38 (vL vR (x2.len:Int)) (vL vR (x2.len:Int))) aJ F fun p h2=>
 (aq.ok [((B.add (n.toNat*2)).add 1,j),(G.add 5,w)] h2)/\
 af vV 91 #[j] aJ h2 fun r h3=>
 (aq.ok [(G.add 5,w)] h3)/\
 K2 ((⟨p.ptr,p.len,p.cap⟩:Sl),(⟨r.ptr,r.len,r.cap⟩:Sl)) h3)/\(af vV 91 #[j] aJ F fun D h4=>
 (aq.ok [(G.add 5,w)] h4)/\
 aw vV (qB 38 (vL vR (x2.len:Int)) (vL vR (x2.len:Int))) aJ h4 fun u h5=>
 (aq.ok [(G.add 5,w)] h5)/\
 K2 ((⟨u.ptr,u.len,u.cap⟩:Sl),(⟨D.ptr,D.len,D.cap⟩:Sl)) h5)))
 (∃N,(b=some N)/\
 ∃O:bF,aj F (N.add 1) 0 O/\
 af vV 200 #[O] aJ F fun y ah=>
 aL (σ:=Sl×Sl×Int) (fun a K4 f=>
 Br (a.2.2<(y.len:Int))
 (∃S,(y.ptr=some S/\0<=a.2.2/\a.2.2<(y.len:Int))/\
 ∃m:Sl,cellOf f (S.add (a.2.2.toNat*1))=some (m:Value)/\
 bf (σ:=Sl×Sl) (fun i ad=>
 aL (σ:=Int) (fun d K6 E=>
 Br (d<(m.len:Int))
 (∃T,(m.ptr=some T/\0<=d/\d<(m.len:Int))/\
 ∃J,cellOf E (T.add (d.toNat*1))=some (vL vS J)/\
 af vV 232 #[b,(vL vS J),d,i.1,i.2] iu E fun _ am=>
 K6 (qc vR (d+1)) am)
 (aw vV (qt 59 1 #[(0,i.1)]) aJ E fun v46 ab=>
 aw vV (qq #[59,59] 59 #[a.1,v46]) aJ ab fun v Z=>
 aw vV (qt 59 1 #[(0,i.2)]) aJ Z fun ap W=>
 aw vV (qq #[59,59] 59 #[a.2.1,ap]) aJ W fun z ay=>
 K4 ((⟨v.ptr,v.len,v.cap⟩:Sl),(⟨z.ptr,z.len,z.cap⟩:Sl),qc vR (a.2.2+1)) ay)) (0:Int) ad)
 (fun K5=>
 ∃t,(b=some t)/\
 ∃c,cellOf f ((t.add 1).add 2)=some (vL vR c)/\
 (aw vV (qB 38 (vL vR (x2.len:Int)) (vL vR (x2.len:Int))) aJ f fun q L=>
 (aq.ok [((t.add 1).add 2,c)] L)/\
 aw vV (qB 38 c c) aJ L fun s H=>
 (aq.ok [] H)/\
 K5 ((⟨q.ptr,q.len,q.cap⟩:Sl),(⟨s.ptr,s.len,s.cap⟩:Sl)) H)/\(aw vV (qB 38 c c) aJ f fun v39 Q=>
 (aq.ok [] Q)/\
 aw vV (qB 38 (vL vR (x2.len:Int)) (vL vR (x2.len:Int))) aJ Q fun A K=>
 (aq.ok [] K)/\
 K5 ((⟨A.ptr,A.len,A.cap⟩:Sl),(⟨v39.ptr,v39.len,v39.cap⟩:Sl)) K)))
 (R (.tuple #[a.1,a.2.1]) f)) ((⟨e.1.ptr,e.1.len,e.1.cap⟩:Sl),(⟨e.2.1.ptr,e.2.1.len,e.2.1.cap⟩:Sl),(0:Int)) ah)) ((⟨none,0,0⟩:Sl),(⟨none,0,0⟩:Sl),(0:Int)) h
theorem Ac(a:Option Addr)(b: @oL R h a):ac vV 175 #[a] h R:=ar ae Tryz.func175 (al.tn (al.tn (.two (al.tn (.inn (.loop [(2,ct),(3,ct),(29,aY)] [(2,4),(6,9),(10,11),(29,72)] (al.tn (al.tn (.two (.inn (al.tn (.two (.join [(7,ct),(8,ct)] [(7,9),(33,44)] .n) (.two (al.tn (.inn (.loop [(53,aY)] [(10,11),(53,63)] .n))) .n)))) .n)))))) (.two (al.tn (.inn (.loop [(2,ct),(3,ct),(78,aY)] [(2,4),(12,17),(78,113)] (al.tn (al.tn (.two (.inn (al.tn (.two (.join [(13,ct),(14,ct)] [(13,15),(82,90)] .n) (.two (al.tn (.inn (.loop [(92,aY)] [(15,17),(92,104)] .n))) .n)))) .n)))))) .n)))) b
abbrev Qn:FuncId:=176
def GM(b:Sl)(a:ByteArray):Prop:=
 Br ((b.len:Int)==0)
 (R (vM none 0 0) h)
 (Br (a.toList==nG.toList)
 (R b h)
 (bf (σ:=Unit) (fun _ h3=>
 af vV 235 #[a] (.many [(.arr .bool),ms]) h3 fun n q=>
 aO vV (qJ 321 true (.tuple #[])) q fun d u=>
 ag vV (qf 321 d (vQ (n.1.map (Sc.enc .bool)).toArray)) u fun _ l=>
 Br n.2
 (af vV 237 #[b,d] aJ l fun s p=>
 af vV 236 #[s,d] aJ p fun f h8=>
 R f h8)
 (af vV 239 #[b,a] aJ l fun e t=>
 af vV 238 #[e,a] aJ t fun c g=>
 R c g))
 (fun j=>
 Br ((a.size:Int)==1) (∃i:UInt8,(0<=(0:Int)/\a.data[(0:Int).toNat]?=some i)/\
 Br ((i.toNat:Nat)<(128:Int))
 (∃o:UInt8,(0<=(0:Int)/\a.data[(0:Int).toNat]?=some o)/\
 ∃c3:UInt8,(0<=(0:Int)/\a.data[(0:Int).toNat]?=some c3)/\
 af vV 234 #[b,(vL vS (o.toNat:Nat))] aJ h fun r m=>
 (aq.ok [] m)/\
 af vV 233 #[r,(vL vS (c3.toNat:Nat))] aJ m fun v k=>
 (aq.ok [] k)/\
 R v k)
 (j () h)) (j () h))))
theorem NQ(b:Sl)(a:ByteArray)(c: @GM R h b a):ac vV 176 #[b,a] h R:=ar ae Tryz.func176 (al.tn (al.tn (al.tn (.two (.join [] [(4,5),(13,28)] .n) .n)))) c
abbrev pE:FuncId:=177
def rh(e:Option Addr)(d:Sl):Prop:=
 ∃I,(e=some I)/\
 ∃x2:Sl,cellOf h (I.add 4)=some (x2:Value)/\
 aL (σ:=Int) (fun c H m=>
 Br (c<(x2.len:Int))
 (∃a4,(e=some a4)/\
 ∃F:Sl,cellOf m (a4.add 4)=some (F:Value)/\
 ∃L,(F.ptr=some L/\0<=c/\c<(F.len:Int))/\
 ∃N:Sl,cellOf m (L.add (c.toNat*1))=some (N:Value)/\
 Br (!(zg N.ptr))
 (H (qc vR (c+1)) m)
 (∃K,(e=some K)/\
 ∃D:Sl,cellOf m (K.add 10)=some (D:Value)/\
 ∃q,(D.ptr=some q/\0<=c/\c<(D.len:Int))/\
 ∃r:Sl,cellOf m (q.add (c.toNat*1))=some (r:Value)/\
 af vV 91 #[r] aJ m fun f E=>
 ∃w,(e=some w)/\
 ∃j:Sl,cellOf E (w.add 9)=some (j:Value)/\
 ∃o,(j.ptr=some o/\0<=c/\c<(j.len:Int))/\
 ∃g:Sl,cellOf E (o.add (c.toNat*1))=some (g:Value)/\
 aL (σ:=Int) (fun b P h3=>
 Br (b<(g.len:Int))
 (∃x,(g.ptr=some x/\0<=b/\b<(g.len:Int))/\
 ∃n,cellOf h3 (x.add (b.toNat*1))=some (vL vS n)/\
 ∃A,(d.ptr=some A/\0<=b/\b<(d.len:Int))/\
 ∃i:Sl,cellOf h3 (A.add (b.toNat*1))=some (i:Value)/\
 aL (σ:=Int) (fun a Q v=>
 Br (a<(i.len:Int))
 (∃u,(i.ptr=some u/\0<=a/\a<(i.len:Int))/\
 ∃B,cellOf v (u.add (a.toNat*1))=some (vL vS B)/\
 ∃a25,(f.ptr=some a25/\0<=a/\a<(f.len:Int))/\
 ∃k,cellOf v (a25.add (a.toNat*1))=some (vL vS k)/\
 ∃t,(e=some t)/\
 ∃p:Option Addr,cellOf v t=some (.pointer p)/\
 af vV 240 #[p,(vL vS n),(vL vS B)] (.one (.sc (.int .u8))) v fun G M=>
 (aq.ok [(a25.add (a.toNat*1),(vL vS k))] M)/\
 ∃z,(f.ptr=some z/\0<=a/\a<(f.len:Int))/\
 ag vV (qf 5 (z.add (a.toNat*1)) (vL vS (qc vS ((qA (qk vS) k^^^(qA (qk vS) G)).toNat:Nat)))) M fun _ J=>
 (aq.ok [] J)/\
 Q (qc vR (a+1)) J)
 (P (qc vR (b+1)) v)) (0:Int) h3)
 (∃s,(e=some s)/\
 ∃l:Sl,cellOf h3 (s.add 4)=some (l:Value)/\
 ∃y,(l.ptr=some y/\0<=c/\c<(l.len:Int))/\
 ag vV (qf 38 (y.add (c.toNat*1)) f) h3 fun _ O=>
 H (qc vR (c+1)) O)) (0:Int) E))
 (R (.tuple #[]) m)) (0:Int) h
theorem Cy(b:Option Addr)(a:Sl)(c: @rh R h b a):ac vV 177 #[b,a] h R:=ar ae Tryz.func177 (al.tn (.inn (.loop [(15,aY)] [(4,10),(15,80)] (al.tn (al.tn (.two (.inn (al.tn (al.tn (al.tn (.two (al.tn (.inn (.loop [(42,aY)] [(6,10),(42,72)] (al.tn (al.tn (.two (.inn (al.tn (al.tn (.inn (.loop [(52,aY)] [(8,10),(52,71)] .n))))) .n)))))) .n))))) .n)))))) c
abbrev UU:FuncId:=178
def LC(a:Int):Prop:=
 aO vV (qL 328 (vQ #[(vL vU (qc vU a))])) h fun b c=>
 R b c
theorem SH(a:Int)(b: @LC R h a):ac vV 178 #[(vL vT a)] h R:=ar ae Tryz.func178 .n b
abbrev Iv:FuncId:=179
def xr(a:Option Addr):Prop:=
 Br (zg a)
 (R (vL vT (0:Int)) h)
 (∃d,(a=some d)/\
 ∃x2,cellOf h d=some (vL vU x2)/\
 ∃a3,(a=some a3)/\
 ag vV (qf 293 a3 (vL vU (qc vU ((qc vU (x2*6364136223846793005))+1442695040888963407)))) h fun _ c=>
 ∃a4,(a=some a4)/\
 ∃b,cellOf c a4=some (vL vU b)/\
 (0<=(32:Int))/\
 R (vL vT (qc vT (qS b (2^min (32:Int).toNat (qk vU))))) c)
theorem GN(a:Option Addr)(b: @xr R h a):ac vV 179 #[a] h R:=ar ae Tryz.func179 .n b
abbrev LD:FuncId:=180
def Cz(a:Sl)(b:Option Addr):Prop:=
 Br ((a.len:Int)==0)
 (R (vL vR (0:Int)) h)
 (∃c,(a.ptr=some c/\0<=(qc vR ((a.len:Int)-1))/\(qc vR ((a.len:Int)-1))<(a.len:Int))/\
 ∃x2:Int,cellOf h (c.add ((qc vR ((a.len:Int)-1)).toNat*1))=some (vL vR x2)/\
 af vV 242 #[b,x2] bs h fun f d=>
 af vV 241 #[a,f] bs d fun g e=>
 R g e)
theorem JQ(a:Sl)(b:Option Addr)(c: @Cz R h a b):ac vV 180 #[a,b] h R:=ar ae Tryz.func180 .n c
abbrev JR:FuncId:=181
def AH(a:Int):Prop:=
 bf (σ:=Unit) (fun _ g=>
 aw vV (qB 22 (vL vR (0:Int)) a) aJ g fun d i=>
 aL (σ:=Sl×Int×Int) (fun b k h3=>
 Br (b.2.2<=a)
 (af vV 243 #[a,b.2.2] bs h3 fun e j=>
 aw vV (qt 22 1 #[(0,(qc vR (b.2.1+e)))]) aJ j fun v5 l=>
 aw vV (qq #[22,22] 22 #[b.1,v5]) aJ l fun c f=>
 k ((⟨c.ptr,c.len,c.cap⟩:Sl),qc vR (b.2.1+e),qc vR (b.2.2+1)) f)
 (R b.1 h3)) ((⟨d.ptr,d.len,d.cap⟩:Sl),(0:Int),(1:Int)) i)
 (fun m=>
 Br (a<1) (R (vM none 0 0) h) (Br (a>64)
 (R (vM none 0 0) h)
 (m () h)))
theorem Iw(a:Int)(b: @AH R h a):ac vV 181 #[a] h R:=ar ae Tryz.func181 (al.tn (.two (.join [] [(2,3),(6,12)] .n) (al.tn (al.tn (.two (al.tn (.inn (.loop [(3,ct),(4,aY),(5,aY)] [(3,6),(14,28)] .n))) .n))))) b
abbrev NR:FuncId:=182
def EP(l:Option Addr)(d:Int)(c:Int):Prop:=
 bf (σ:=Unit) (fun _ y=>
 aw vV (qB 22 d d) aJ y fun b t=>
 aL (σ:=Int) (fun e v h3=>
 Br (e<(b.len:Int))
 (∃a4,(b.ptr=some a4/\0<=e/\e<(b.len:Int))/\
 ag vV (qf 3 (a4.add (e.toNat*1)) e) h3 fun _ u=>
 v (qc vR (e+1)) u)
 (aL (σ:=Int) (fun a x r=>
 Br (a<c)
 (af vV 242 #[l,(qc vR (d-a))] bs r fun f m=>
 ∃p,(b.ptr=some p/\0<=(qc vR (a+f))/\(qc vR (a+f))<(b.len:Int))/\
 ∃q:Int,cellOf m (p.add ((qc vR (a+f)).toNat*1))=some (vL vR q)/\
 ∃a9,(b.ptr=some a9/\0<=a/\a<(b.len:Int))/\
 ∃g,cellOf m (a9.add (a.toNat*1))=some (vL vR g)/\
 ∃j,(b.ptr=some j/\0<=a/\a<(b.len:Int))/\
 ag vV (qf 3 (j.add (a.toNat*1)) q) m fun _ o=>
 (aq.ok [] o)/\
 ∃i,(b.ptr=some i/\0<=(qc vR (a+f))/\(qc vR (a+f))<(b.len:Int))/\
 ag vV (qf 3 (i.add ((qc vR (a+f)).toNat*1)) g) o fun _ h8=>
 (aq.ok [] h8)/\
 x (qc vR (a+1)) h8)
 ((0<=c/\c<=(b.cap:Int))/\
 af vV 79 #[(vM b.ptr c.toNat b.cap)] aJ r fun k w=>
 af vV 143 #[k] iu w fun _ n=>
 R k n)) (0:Int) h3)) (0:Int) t)
 (fun s=>
 Br (d<0) (R (vM none 0 0) h) (Br (d>64) (R (vM none 0 0) h) (Br (c<0) (R (vM none 0 0) h) (Br (c>d)
 (R (vM none 0 0) h)
 (s () h)))))
theorem LF(c:Option Addr)(b:Int)(a:Int)(d: @EP R h c b a):ac vV 182 #[c,b,a] h R:=ar ae Tryz.func182 (al.tn (.two (.join [] [(6,7),(12,27)] .n) (al.tn (.two (al.tn (.inn (.loop [(31,aY)] [(8,9),(31,39)] .n))) (.two (al.tn (.inn (.loop [(40,aY)] [(9,11),(40,65)] .n))) .n))))) d
abbrev SI:FuncId:=183
def IY(a:Sl):Prop:=
 Br ((a.len:Int) !=64)
 (R (.tuple #[(vL vR (0:Int)),(vM none 0 0),false]) h)
 (∃b,(a.ptr=some b/\0<=(3:Int)/\(3:Int)<(a.len:Int))/\
 ∃x2:Int,cellOf h (b.add ((3:Int).toNat*1))=some (vL vS x2)/\
 (0<=(4:Int)/\(4:Int)<=(59:Int)/\(59:Int)<=(a.cap:Int))/\
 af vV 91 #[(.slice (if a.cap=(4:Int).toNat then a.ptr else a.ptr.map (·.add ((4:Int).toNat*1))) ((59:Int).toNat-(4:Int).toNat) (a.cap-(4:Int).toNat))] aJ h fun d c=>
 (aq.ok [(b.add ((3:Int).toNat*1),(vL vS x2))] c)/\
 af vV 142 #[(qc vR x2),d] aJ c fun g f=>
 af vV 58 #[a,g] bO f fun e h3=>
 Br (!e)
 (R (.tuple #[(vL vR (0:Int)),(vM none 0 0),false]) h3)
 (R (.tuple #[(qc vR x2),d,true]) h3))
theorem Qp(a:Sl)(b: @IY R h a):ac vV 183 #[a] h R:=ar ae Tryz.func183 .n b
abbrev jb:FuncId:=184
def EQ(b:Sl):Prop:=
 aL (σ:=Int×Int) (fun a e c=>
 Br (a.2<(b.len:Int))
 (∃d,(b.ptr=some d/\0<=a.2/\a.2<(b.len:Int))/\
 ∃x3,cellOf c (d.add (a.2.toNat*1))=some (vL vS x3)/\
 (0<=(8:Int))/\
 e (qc vR ((qA (qk vR) (qc vR (a.1*2^min (8:Int).toNat (qk vR)))|||(qA (qk vR) (qc vR x3))).toNat:Nat),qc vR (a.2+1)) c)
 (R a.1 c)) ((0:Int),(0:Int)) h
theorem LG(a:Sl)(b: @EQ R h a):ac vV 184 #[a] h R:=ar ae Tryz.func184 (al.tn (al.tn (.two (al.tn (.inn (.loop [(3,aY),(8,aY)] [(3,4),(5,6),(8,18)] .n))) .n))) b
abbrev JS:FuncId:=185
def AI(k:iD)(a:Addr):Prop:=
 aO vV (qL 96 k) h fun d b=>
 ∃x2,cellOf b (d.add 1)=some (vL vR x2)/\
 ∃x3,cellOf b a=some (vL vR x3)/\
 Br (x2==x3) (∃i:Sl,cellOf b (d.add 3)=some (i:Value)/\
 ∃g,cellOf b (a.add 1)=some (vL vR g)/\
 Br ((i.len:Int)>g) (∃l,cellOf b (a.add 6)=some (vL vT l)/\
 ∃o,cellOf b a=some (vL vR o)/\
 ∃p,cellOf b (a.add 1)=some (vL vR p)/\
 ∃j:Sl,cellOf b (d.add 3)=some (j:Value)/\
 ∃c,cellOf b (a.add 1)=some (vL vR c)/\
 ∃f,(j.ptr=some f/\0<=c/\c<(j.len:Int))/\
 ∃e,cellOf b (f.add (c.toNat*1))=some (vL vR e)/\
 af vV 77 #[o,p,e] (.one (.sc (.int .u32))) b fun m n=>
 (aq.ok [(a.add 1,c),(d.add 3,j),(a.add 6,(vL vT l)),(a.add 1,g),(d.add 3,i),(a,x3),(d.add 1,x2)] n)/\
 R (vP (l==m)) n) ((aq.ok [(a.add 1,g),(d.add 3,i),(a,x3),(d.add 1,x2)] b)/\
 R false b)) ((aq.ok [(a,x3),(d.add 1,x2)] b)/\
 R false b)
theorem Ix(b:iD)(a:Addr)(c: @AI R h b a):ac vV 185 #[b,a] h R:=ar ae Tryz.func185 .n c
abbrev nu:FuncId:=186
def iW(b:Sl)(c:Int)(a:FuncId×Array Value×Array Value):Prop:=
 aL (σ:=Int×Int) (fun f o i=>
 Br (f.2<=c)
 (af vV 244 #[b,f.1,f.2,(.func (.func a.1) a.2.1 a.2.2)] iu i fun _ m=>
 o (f.2,qc vR (f.2+20)) m)
 (af vV 244 #[b,f.1,c,(.func (.func a.1) a.2.1 a.2.2)] iu i fun _ h3=>
 aL (σ:=Int) (fun e k j=>
 Br (e<c)
 (aL (σ:=Int×Int) (fun d n g=>
 Br (d.2<=c)
 (af vV 245 #[b,d.1,(qc vR (d.1+e)),d.2,(.func (.func a.1) a.2.1 a.2.2)] iu g fun _ l=>
 n (d.2,qc vR (d.2+(qc vR (2*e)))) l)
 (Br ((qc vR (d.1+e))<c)
 (af vV 245 #[b,d.1,(qc vR (d.1+e)),c,(.func (.func a.1) a.2.1 a.2.2)] iu g fun _ p=>
 k (qc vR (e*2)) p)
 (k (qc vR (e*2)) g))) ((0:Int),qc vR (2*e)) j)
 (R (.tuple #[]) j)) (20:Int) h3)) ((0:Int),(20:Int)) h
theorem mS(b:Sl)(c:Int)(a:FuncId×Array Value×Array Value)(d: @iW R h b c a):ac vV 186 #[b,c,(.func (.func a.1) a.2.1 a.2.2)] h R:=ar ae Tryz.func186 (al.tn (al.tn (.two (.inn (.loop [(7,aY),(8,aY)] [(7,9),(11,23)] .n)) (al.tn (.inn (.loop [(6,aY)] [(6,10),(28,63)] (al.tn (.inn (al.tn (.two (.inn (.loop [(7,aY),(8,aY)] [(7,9),(33,49)] .n)) .n)))))))))) d
end
end Go.Proofs.YtdhamoojccmbdaaGreatDoor
