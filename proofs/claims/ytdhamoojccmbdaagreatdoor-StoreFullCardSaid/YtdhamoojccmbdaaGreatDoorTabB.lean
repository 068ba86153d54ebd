/- Part of the proofs that the laws of this seat answer true whatever the input reads, and leave it as it was; no condition. -/
import Derived.Test.YtdhamoojccmbdaaGreatDoorTabA
set_option linter.unusedVariables false
set_option linter.unusedSimpArgs false
open Go.Proofs.Tryz renaming prog -> vV
open Go.Value renaming agg -> vQ, bool -> vP, int -> vL, pointer -> vN, slice -> vM, string -> vO
open Go.IntKind renaming bits -> qk, i64 -> vR, u32 -> vT, u64 -> vU, u8 -> vS, wrap -> qc
open Go.Instr renaming alloc -> qJ, box -> qL, buildSlice -> qt, makeSlice -> qB, sliceAt -> wy, storeAt -> qf
open Go.Builtin renaming append_ -> qq, clear_ -> yp, copy_ -> wT
open Option renaming isNone -> zg
open Int renaming fdiv -> qS, tdiv -> wC, tmod -> zW
open BitVec renaming ofInt -> qA
set_option maxRecDepth 1000000
namespace Go.Proofs.YtdhamoojccmbdaaGreatDoor
noncomputable section
open Go Go.Vc Go.Proofs
variable {R:Value->Heap->Prop} {h:Heap}
abbrev Cd:FuncId:=37
def pr(b:Sl)(a:Int):Prop:=
 Br (a<(b.len:Int))
 (∃c,(b.ptr=some c/\0<=a/\a<(b.len:Int))/\
 ∃x2,cellOf h (c.add (a.toNat*1))=some (vL vR x2)/\
 R x2 h)
 (R (vL vR (0:Int)) h)
theorem Bf(a:Sl)(b:Int)(c: @pr R h a b):ac vV 37 #[a,b] h R:=ar ae Tryz.func37 .n c
abbrev Lb:FuncId:=38
def Ce(a:Sl):Prop:=
 aL (σ:=Sl×Int) (fun b g c=>
 Br (b.2<(a.len:Int))
 (∃f,(a.ptr=some f/\0<=b.2/\b.2<(a.len:Int))/\
 ∃x3,cellOf c (f.add (b.2.toNat*1))=some (vL vR x3)/\
 bf (σ:=Unit) (fun _ e=>
 Br (x3>0)
 (aw vV (qt 22 1 #[(0,b.2)]) aJ e fun v5 h3=>
 aw vV (qq #[22,22] 22 #[b.1,v5]) aJ h3 fun d i=>
 g ((⟨d.ptr,d.len,d.cap⟩:Sl),qc vR (b.2+1)) i)
 (g ((⟨b.1.ptr,b.1.len,b.1.cap⟩:Sl),qc vR (b.2+1)) e))
 (fun j=>
 Br (x3<0) (R (.tuple #[(vM none 0 0),false]) c) (Br (x3>512)
 (R (.tuple #[(vM none 0 0),false]) c)
 (j () c))))
 (Br ((a.len:Int)<=64) (R (.tuple #[b.1,(decide ((b.1.len:Int)>0))]) c) (R (.tuple #[b.1,false]) c))) ((⟨none,0,0⟩:Sl),(0:Int)) h
theorem JE(a:Sl)(b: @Ce R h a):ac vV 38 #[a] h R:=ar ae Tryz.func38 (al.tn (al.tn (.two (al.tn (.inn (.loop [(4,ct),(9,aY)] [(2,7),(9,27)] (al.tn (al.tn (.two (.inn (al.tn (.two (.join [] [(2,4),(14,20)] .n) .n))) .n)))))) .n))) b
abbrev XG:FuncId:=39
def OW(c:bF):Prop:=
 aO vV (qL 24 c) h fun b a=>
 ∃x2,cellOf a b=some (vL vR x2)/\
 Br (x2>=1) (∃x3,cellOf a b=some (vL vR x3)/\
 Br (x3<=16) (∃f,cellOf a (b.add 1)=some (vL vR f)/\
 Br (f>=1) (∃d,cellOf a (b.add 1)=some (vL vR d)/\
 Br (d<=4) (∃g,cellOf a (b.add 2)=some (vL vR g)/\
 Br (g>=1) (∃e,cellOf a (b.add 2)=some (vL vR e)/\
 R (decide (e<=24)) a) (R false a)) (R false a)) (R false a)) (R false a)) (R false a)
theorem UJ(a:bF)(b: @OW R h a):ac vV 39 #[a] h R:=ar ae Tryz.func39 .n b
abbrev Fg:FuncId:=40
def sJ(a:Option Addr):Prop:=
 Br (zg a)
 (R (vL vR (0:Int)) h)
 (∃b,(a=some b)/\
 ∃x2,cellOf h (b.add 3)=some (vL vR x2)/\
 R x2 h)
theorem DH(a:Option Addr)(b: @sJ R h a):ac vV 40 #[a] h R:=ar ae Tryz.func40 .n b
abbrev PS:FuncId:=41
def Gq(c:cz):Prop:=
 aO vV (qL 47 c) h fun i g=>
 ∃x2:cz,aj g i 0 x2/\
 af vV 87 #[x2] aJ g fun b l=>
 ((48:Int)≠0)/\
 aL (σ:=Sl×Int) (fun a o h3=>
 Br (decide (a.2<(qc vR (wC (qc vR ((qc vR ((b.len:Int)+48))-1)) 48))))
 (∃e,cellOf h3 i=some (vL vR e)/\
 (0<=(qc vR (a.2*48))/\(qc vR (a.2*48))<=(if(qc vR ((qc vR (a.2+1))*48))<(b.len:Int)then qc vR ((qc vR (a.2+1))*48)else(b.len:Int))/\(if(qc vR ((qc vR (a.2+1))*48))<(b.len:Int)then qc vR ((qc vR (a.2+1))*48)else(b.len:Int))<=(b.cap:Int))/\
 af vV 88 #[e,a.2,(qc vR (wC (qc vR ((qc vR ((b.len:Int)+48))-1)) 48)),(.slice (if b.cap=(qc vR (a.2*48)).toNat then b.ptr else b.ptr.map (·.add ((qc vR (a.2*48)).toNat*1))) ((if(qc vR ((qc vR (a.2+1))*48))<(b.len:Int)then qc vR ((qc vR (a.2+1))*48)else(b.len:Int)).toNat-(qc vR (a.2*48)).toNat) (b.cap-(qc vR (a.2*48)).toNat))] aJ h3 fun m j=>
 (aq.ok [] j)/\
 aw vV (qt 59 1 #[(0,m)]) aJ j fun n k=>
 (aq.ok [] k)/\
 aw vV (qq #[59,59] 59 #[a.1,n]) aJ k fun d f=>
 (aq.ok [] f)/\
 o ((⟨d.ptr,d.len,d.cap⟩:Sl),qc vR (a.2+1)) f)
 (R a.1 h3)) ((⟨none,0,0⟩:Sl),(0:Int)) l
theorem Ns(a:cz)(b: @Gq R h a):ac vV 41 #[a] h R:=ar ae Tryz.func41 (al.tn (al.tn (al.tn (al.tn (.two (al.tn (.inn (.loop [(5,ct),(16,aY)] [(5,8),(16,39)] .n))) .n))))) b
abbrev XH:FuncId:=42
def OX(a:FuncId×Array Value×Array Value)(c:Sl):Prop:=
 aL (σ:=Sl×Int) (fun b s j=>
 Br (b.2<(c.len:Int))
 (∃q,(c.ptr=some q/\0<=b.2/\b.2<(c.len:Int))/\
 ∃x3:Int×Sl,aj j (q.add (b.2.toNat*2)) 0 x3/\
 aO vV (qJ 102 true (.tuple #[])) j fun a4 t=>
 ag vV (qf 102 a4 x3) t fun _ h3=>
 bf (σ:=Unit) (fun _ l=>
 ∃e,cellOf l a4=some (vL vR e)/\
 aw vV (qt 22 1 #[(0,e)]) aJ l fun f h8=>
 aw vV (qq #[22,22] 22 #[b.1,f]) aJ h8 fun d w=>
 s ((⟨d.ptr,d.len,d.cap⟩:Sl),qc vR (b.2+1)) w)
 (fun u=>
 bf (σ:=Int) (fun m o=>
 Br (m !=0)
 (R m o)
 (u () o))
 (fun x=>
 ∃r,cellOf h3 a4=some (vL vR r)/\
 ∃g:Sl,cellOf h3 (a4.add 1)=some (g:Value)/\
 ig C a.1 (a.2.1.toList++[(vL vR r)]++a.2.2.toList) na h3 fun y n=>
 (aq.ok [(a4.add 1,g)] n)/\
 af vV 89 #[y,g] bs n fun v p=>
 (aq.ok [] p)/\
 x v p)))
 (af vV 90 #[(.func (.func a.1) a.2.1 a.2.2),b.1] bs j fun i k=>
 R i k)) ((⟨none,0,0⟩:Sl),(0:Int)) h
theorem UK(a:FuncId×Array Value×Array Value)(b:Sl)(c: @OX R h a b):ac vV 42 #[(.func (.func a.1) a.2.1 a.2.2),b] h R:=ar ae Tryz.func42 (al.tn (al.tn (.two (al.tn (.inn (.loop [(5,ct),(11,aY)] [(4,6),(7,9),(11,31)] (al.tn (al.tn (.two (.inn (al.tn (.two (.join [] [(4,5),(8,9),(15,25)] (.two (.join [(8,aY)] [(8,9),(15,22)] .n) .n)) .n))) .n)))))) .n))) c
abbrev Sj:FuncId:=43
def IM(f:cz)(a:Sl):Prop:=
 aO vV (qL 47 f) h fun p m=>
 ∃x2:cz,aj m p 0 x2/\
 af vV 41 #[x2] aJ m fun e o=>
 aL (σ:=Sl×Int) (fun c n h3=>
 Br (c.2<(a.len:Int))
 (∃a5,(a.ptr=some a5/\0<=c.2/\c.2<(a.len:Int))/\
 ∃j,cellOf h3 (a5.add (c.2.toNat*1))=some (vL vR j)/\
 aL (σ:=Sl×Int) (fun b q g=>
 Br (b.2<(e.len:Int))
 (∃l,(e.ptr=some l/\0<=b.2/\b.2<(e.len:Int))/\
 ∃k:Sl,cellOf g (l.add (b.2.toNat*1))=some (k:Value)/\
 aw vV (qt 90 1 #[(0,(vQ #[j,k]))]) aJ g fun i s=>
 aw vV (qq #[90,90] 90 #[b.1,i]) aJ s fun d r=>
 q ((⟨d.ptr,d.len,d.cap⟩:Sl),qc vR (b.2+1)) r)
 (n ((⟨b.1.ptr,b.1.len,b.1.cap⟩:Sl),qc vR (c.2+1)) g)) ((⟨c.1.ptr,c.1.len,c.1.cap⟩:Sl),(0:Int)) h3)
 (R c.1 h3)) ((⟨none,0,0⟩:Sl),(0:Int)) o
theorem PT(b:cz)(a:Sl)(c: @IM R h b a):ac vV 43 #[b,a] h R:=ar ae Tryz.func43 (al.tn (al.tn (al.tn (.two (al.tn (.inn (.loop [(6,ct),(15,aY)] [(6,7),(8,9),(10,11),(15,33)] (al.tn (al.tn (.two (.inn (al.tn (al.tn (.inn (.loop [(6,ct),(21,aY)] [(6,7),(10,11),(21,32)] .n))))) .n)))))) .n)))) c
abbrev Sk:FuncId:=44
def IN(b:Sl):Prop:=
 aL (σ:=Sl×Int) (fun a j d=>
 Br (a.2<(b.len:Int))
 (∃e,(b.ptr=some e/\0<=a.2/\a.2<(b.len:Int))/\
 ∃x3:Sl,cellOf d (e.add (a.2.toNat*1))=some (x3:Value)/\
 af vV 91 #[x3] aJ d fun g f=>
 aw vV (qt 59 1 #[(0,g)]) aJ f fun v5 h3=>
 aw vV (qq #[59,59] 59 #[a.1,v5]) aJ h3 fun c i=>
 j ((⟨c.ptr,c.len,c.cap⟩:Sl),qc vR (a.2+1)) i)
 (R a.1 d)) ((⟨none,0,0⟩:Sl),(0:Int)) h
theorem PU(a:Sl)(b: @IN R h a):ac vV 44 #[a] h R:=ar ae Tryz.func44 (al.tn (al.tn (.two (al.tn (.inn (.loop [(3,ct),(8,aY)] [(3,4),(5,6),(8,18)] .n))) .n))) b
abbrev Bg:FuncId:=45
def oA(a:Option Addr)(b:ByteArray)(j:Sl):Prop:=
 af vV 69 #[a] bO h fun u s=>
 Br u
 (R (vL vR (14:Int)) s)
 (af vV 92 #[b] bO s fun w n=>
 Br (!w)
 (R (vL vR (3:Int)) n)
 (af vV 70 #[a,b] bs n fun v h3=>
 Br (v>=0)
 (R (vL vR (4:Int)) h3)
 (bf (σ:=Bool) (fun k o=>
 Br k
 (R (vL vR (6:Int)) o)
 (af vV 21 #[a] aJ o fun i c=>
 Br ((i.len:Int)==0) (R (vL vR (7:Int)) c) (∃d,(a=some d)/\
 ∃e,cellOf c (d.add 1)=some (vL vR e)/\
 Br (e>16777215) (R (vL vR (7:Int)) c) (∃g,(a=some g)/\
 ∃f,cellOf c g=some (vL vR f)/\
 Br (f>=2147483647)
 (R (vL vR (7:Int)) c)
 (R (vL vR (0:Int)) c)))))
 (fun m=>
 ∃a4,(a=some a4)/\
 ∃r,cellOf h3 (a4.add 2)=some (vL vR r)/\
 ∃q,(a=some q)/\
 ∃t,cellOf h3 ((q.add 2).add 2)=some (vL vR t)/\
 Br (decide ((j.len:Int)>(qc vR ((qc vR (r*t))*8)))) (m true h3) (∃p,(a=some p)/\
 ∃l:Sl,cellOf h3 (p.add 7)=some (l:Value)/\
 m (decide ((l.len:Int)>=12)) h3)))))
theorem xS(c:Option Addr)(a:ByteArray)(b:Sl)(d: @oA R h c a b):ac vV 45 #[c,a,b] h R:=ar ae Tryz.func45 (al.tn (.two (.inn (al.tn (al.tn (al.tn (al.tn (al.tn (al.tn (.two (.join [(19,ms)] [(19,46)] .n) .n)))))))) .n)) d
abbrev Nt:FuncId:=46
def Ew(e:bF)(b:Int)(a:Int):Prop:=
 aO vV (qL 24 e) h fun j i=>
 aL (σ:=Sl×Int) (fun c m f=>
 Br (c.2<a)
 (∃x3:bF,aj f j 0 x3/\
 af vV 93 #[x3,b,c.2] (.many [aY,ms]) f fun g h3=>
 Br (!g.2)
 (R (.tuple #[(vM none 0 0),false]) h3)
 (aw vV (qt 22 1 #[(0,g.1)]) aJ h3 fun v5 k=>
 aw vV (qq #[22,22] 22 #[c.1,v5]) aJ k fun d l=>
 m ((⟨d.ptr,d.len,d.cap⟩:Sl),qc vR (c.2+1)) l))
 (R (.tuple #[c.1,true]) f)) ((⟨none,0,0⟩:Sl),(0:Int)) i
theorem Lc(c:bF)(a:Int)(b:Int)(d: @Ew R h c a b):ac vV 46 #[c,a,b] h R:=ar ae Tryz.func46 (al.tn (al.tn (.two (al.tn (.inn (.loop [(8,ct),(13,aY)] [(6,12),(13,30)] .n))) .n))) d
abbrev Bh:FuncId:=47
def oB(g:Option Addr)(T:iD)(P:Sl):Prop:=
 aO vV (qL 96 T) h fun j h1=>
 af vV 21 #[g] aJ h1 fun r2 X=>
 ∃a3,(g=some a3)/\
 ∃x4:bF,aj X (a3.add 2) 0 x4/\
 af vV 94 #[x4,P] aJ X fun V h3=>
 aL (σ:=Sl×Int) (fun e K1 n=>
 Br (e.2<(V.len:Int))
 (∃Y,(V.ptr=some Y/\0<=e.2/\e.2<(V.len:Int))/\
 ∃Z:Sl,cellOf n (Y.add (e.2.toNat*1))=some (Z:Value)/\
 ∃W,cellOf n (j.add 1)=some (vL vR W)/\
 ∃i:Sl,cellOf n (j.add 3)=some (i:Value)/\
 ∃D,(i.ptr=some D/\0<=e.2/\e.2<(i.len:Int))/\
 ∃x,cellOf n (D.add (e.2.toNat*1))=some (vL vR x)/\
 af vV 77 #[W,e.2,x] (.one (.sc (.int .u32))) n fun m S=>
 (aq.ok [(j.add 3,i)] S)/\
 ∃z,(g=some z)/\
 ∃w:bF,aj S (z.add 2) 0 w/\
 af vV 95 #[w,(vL vT m),Z] (.many [OV,aY]) S fun l N=>
 Br (l.2 !=0)
 (R (.tuple #[(vM none 0 0),false]) N)
 (∃r,cellOf N (j.add 1)=some (vL vR r)/\
 af vV 96 #[r,e.2,r2] aJ N fun O K=>
 ∃v,(g=some v)/\
 ∃A,cellOf K (v.add 2)=some (vL vR A)/\
 ∃G,(g=some G)/\
 ∃H,cellOf K (G.add 5)=some (vL vR H)/\
 aL (σ:=Sl×Int) (fun b K2 h8=>
 Br (b.2<(qc vR (A+H)))
 (bf (σ:=Addr) (fun d s=>
 ∃c:ey,aj s d 0 c/\
 af vV 98 #[O,b.2] bs s fun J E=>
 (aq.ok [(d,c.1),(d.add 1,c.2.1),(d.add 2,c.2.2.1),(d.add 3,c.2.2.2.1),(d.add 4,c.2.2.2.2.1),(d.add 5,c.2.2.2.2.2.1),(d.add 6,(vL vT c.2.2.2.2.2.2.1)),(d.add 7,c.2.2.2.2.2.2.2)] E)/\
 af vV 99 #[c] aJ E fun U u=>
 (aq.ok [] u)/\
 aw vV (qt 90 1 #[(0,(vQ #[J,U]))]) aJ u fun Q q=>
 (aq.ok [] q)/\
 aw vV (qq #[90,90] 90 #[b.1,Q]) aJ q fun k t=>
 (aq.ok [] t)/\
 K2 ((⟨k.ptr,k.len,k.cap⟩:Sl),qc vR (b.2+1)) t)
 (fun K3=>
 ∃f,cellOf h8 (j.add 1)=some (vL vR f)/\
 ∃a25,(g=some a25)/\
 ∃a:bF,aj h8 (a25.add 2) 0 a/\
 (af vV 97 #[l.1,b.2] aJ h8 fun L h9=>
 (aq.ok [(a25.add 2,a.1),((a25.add 2).add 1,a.2.1),((a25.add 2).add 2,a.2.2),(j.add 1,f)] h9)/\
 aO vV (qJ 134 true (.tuple #[])) h9 fun a28 I=>
 (aq.ok [(a25.add 2,a.1),((a25.add 2).add 1,a.2.1),((a25.add 2).add 2,a.2.2),(j.add 1,f)] I)/\
 ag vV (qf 134 a28 (vQ #[f,e.2,b.2,a.1,a.2.1,a.2.2,(vL vT m),L])) I fun _ p=>
 (aq.ok [] p)/\
 K3 a28 p)/\(aO vV (qJ 134 true (.tuple #[])) h8 fun B o=>
 (aq.ok [(a25.add 2,a.1),((a25.add 2).add 1,a.2.1),((a25.add 2).add 2,a.2.2),(j.add 1,f)] o)/\
 af vV 97 #[l.1,b.2] aJ o fun M y=>
 (aq.ok [(a25.add 2,a.1),((a25.add 2).add 1,a.2.1),((a25.add 2).add 2,a.2.2),(j.add 1,f)] y)/\
 ag vV (qf 134 B (vQ #[f,e.2,b.2,a.1,a.2.1,a.2.2,(vL vT m),M])) y fun _ F=>
 (aq.ok [] F)/\
 K3 B F)))
 (K1 ((⟨b.1.ptr,b.1.len,b.1.cap⟩:Sl),qc vR (e.2+1)) h8)) ((⟨e.1.ptr,e.1.len,e.1.cap⟩:Sl),(0:Int)) K))
 (R (.tuple #[e.1,true]) n)) ((⟨none,0,0⟩:Sl),(0:Int)) h3
theorem xT(b:Option Addr)(c:iD)(a:Sl)(d: @oB R h b c a):ac vV 47 #[b,c,a] h R:=ar ae Tryz.func47 (al.tn (al.tn (al.tn (.two (al.tn (.inn (.loop [(9,ct),(28,aY)] [(6,8),(9,18),(28,100)] (al.tn (al.tn (.two (.inn (al.tn (al.tn (al.tn (al.tn (al.tn (al.tn (.inn (.loop [(9,ct),(72,aY)] [(9,10),(16,18),(72,99)] (al.tn (al.tn (.two (.inn (al.tn (.two (.join [(17,(.sc .adr))] [(17,18),(75,89)] .n) .n))) .n)))))))))))) .n)))))) .n)))) d
abbrev Ex:FuncId:=48
def Gr(l:cz)(m:iD):Prop:=
 aO vV (qL 47 l) h fun v A=>
 aO vV (qL 96 m) A fun z u=>
 aO vV (qJ 47 true (.tuple #[])) u fun a3 h3=>
 ∃s:cz,aj h3 v 0 s/\
 af vV 62 #[s] DE h3 fun B w=>
 aO vV (qJ 47 true (.tuple #[])) w fun b x=>
 ag vV (qf 47 b B) x fun _ q=>
 ∃t,cellOf q b=some (vL vR t)/\
 ag vV (qf 3 b (qc vR (t+1))) q fun _ p=>
 ∃r,cellOf p (b.add 1)=some (vL vR r)/\
 ag vV (qf 3 (b.add 1) (qc vR (r+1))) p fun _ h8=>
 ∃o:Sl,cellOf h8 (b.add 7)=some (o:Value)/\
 ∃e:iD,aj h8 z 0 e/\
 aw vV (qt 45 1 #[(0,e)]) aJ h8 fun j y=>
 aw vV (qq #[45,45] 45 #[o,j]) aJ y fun k n=>
 ag vV (qf 45 (b.add 7) k) n fun _ d=>
 ∃f:Sl,cellOf d (b.add 7)=some (f:Value)/\
 af vV 100 #[f,(.func (.func 101) #[] #[])] iu d fun _ c=>
 ∃g:cz,aj c b 0 g/\
 ag vV (qf 47 a3 g) c fun _ i=>
 ∃a:cz,aj i a3 0 a/\
 R a i
theorem Nu(a:cz)(b:iD)(c: @Gr R h a b):ac vV 48 #[a,b] h R:=ar ae Tryz.func48 .n c
abbrev iL:FuncId:=49
def pZ(b:Int)(c:Addr)(d:Addr):Prop:=
 ∃g,cellOf h c=some (vL vR g)/\
 ∃x2:Sl,cellOf h d=some (x2:Value)/\
 aL (σ:=Int×Int) (fun a k e=>
 Br (a.2<(x2.len:Int))
 (∃a4,(x2.ptr=some a4/\0<=a.2/\a.2<(x2.len:Int))/\
 ∃f:Int×Sl,aj e (a4.add (a.2.toNat*2)) 0 f/\
 aO vV (qJ 102 true (.tuple #[])) e fun j l=>
 ag vV (qf 102 j f) l fun _ h3=>
 ∃i,cellOf h3 j=some (vL vR i)/\
 Br (i==b)
 (k (qc vR (a.1+1),qc vR (a.2+1)) h3)
 (k (a.1,qc vR (a.2+1)) h3))
 (R a.1 e)) (g,(0:Int)) h
theorem Cf(a:Int)(b:Addr)(c:Addr)(d: @pZ R h a b c):ac vV 49 #[a,b,c] h R:=ar ae Tryz.func49 (al.tn (al.tn (.two (al.tn (.inn (.loop [(5,aY),(11,aY)] [(5,6),(7,8),(11,22)] .n))) .n))) d
abbrev Fh:FuncId:=50
def sK(c:Option Addr)(a:Sl)(b:FuncId×Array Value×Array Value):Prop:=
 aO vV (qL 29 c) h fun g d=>
 aO vV (qL 103 (.func (.func b.1) b.2.1 b.2.2)) d fun i e=>
 af vV 103 #[a,(.func (.func 104) #[] #[g,i])] bO e fun f h3=>
 R (vP (!f)) h3
theorem DI(c:Option Addr)(a:Sl)(b:FuncId×Array Value×Array Value)(d: @sK R h c a b):ac vV 50 #[c,a,(.func (.func b.1) b.2.1 b.2.2)] h R:=ar ae Tryz.func50 .n d
abbrev DJ:FuncId:=51
def ra(f:Option Addr)(a:Sl)(d:FuncId×Array Value×Array Value):Prop:=
 aL (σ:=Int) (fun e n g=>
 Br (e<(a.len:Int))
 (∃m,(a.ptr=some m/\0<=e/\e<(a.len:Int))/\
 ∃x3,cellOf g (m.add (e.toNat*1))=some (vL vR x3)/\
 bf (σ:=Int) (fun i l=>
 Br (i !=0)
 (R i l)
 (n (qc vR (e+1)) l))
 (fun o=>
 ∃a4,(f=some a4)/\
 (0<=x3/\x3<((64:Nat):Int))/\
 ∃j:Option Addr,cellOf g ((a4.add 10).add (x3.toNat*1))=some (.pointer j)/\
 ∃b,(f=some b)/\
 ∃c:cz,aj g b 0 c/\
 ig C d.1 (d.2.1.toList++[(vL vR x3)]++d.2.2.toList) bs g fun p k=>
 (aq.ok [(b,c.1),(b.add 1,c.2.1),(b.add 2,c.2.2.1),(b.add 3,c.2.2.2.1),(b.add 4,c.2.2.2.2.1),(b.add 5,c.2.2.2.2.2.1),(b.add 6,c.2.2.2.2.2.2.1),(b.add 7,c.2.2.2.2.2.2.2),((a4.add 10).add (x3.toNat*1),j)] k)/\
 af vV 106 #[j,c,p] bs k fun q h3=>
 (aq.ok [] h3)/\
 o q h3))
 (R (vL vR (0:Int)) g)) (0:Int) h
theorem Cg(c:Option Addr)(a:Sl)(b:FuncId×Array Value×Array Value)(d: @ra R h c a b):ac vV 51 #[c,a,(.func (.func b.1) b.2.1 b.2.2)] h R:=ar ae Tryz.func51 (al.tn (.two (al.tn (.inn (.loop [(12,aY)] [(6,7),(8,10),(12,34)] (al.tn (al.tn (.two (.inn (al.tn (.two (.join [(9,aY)] [(9,10),(16,30)] .n) .n))) .n)))))) .n)) d
abbrev Fi:FuncId:=52
def sM(b:Option Addr)(c:cz)(a:Sl):Prop:=
 aO vV (qL 47 c) h fun g e=>
 ∃x2:cz,aj e g 0 x2/\
 af vV 43 #[x2,a] aJ e fun k j=>
 af vV 42 #[(.func (.func 11) #[b] #[]),k] bs j fun f h3=>
 Br (f !=0)
 (R f h3)
 (∃d:cz,aj h3 g 0 d/\
 af vV 62 #[d] DE h3 fun m l=>
 ∃i,(b=some i)/\
 ag vV (qf 47 i m) l fun _ n=>
 R (vL vR (0:Int)) n)
theorem DK(b:Option Addr)(c:cz)(a:Sl)(d: @sM R h b c a):ac vV 52 #[b,c,a] h R:=ar ae Tryz.func52 .n d
abbrev Fj:FuncId:=54
def sN(a:Option Addr):Prop:=
 Br (!(zg a)) (∃b,(a=some b)/\
 ∃x2:Bool,cellOf h (b.add 6)=some (vP x2)/\
 R x2 h) (R false h)
theorem DL(a:Option Addr)(b: @sN R h a):ac vV 54 #[a] h R:=ar ae Tryz.func54 .n b
abbrev Gs:FuncId:=57
def tZ(a:Option Addr):Prop:=
 Br (zg a)
 (R (vM none 0 0) h)
 (∃b,(a=some b)/\
 ∃x2:Sl,cellOf h (b.add 2)=some (x2:Value)/\
 af vV 44 #[x2] aJ h fun d c=>
 R d c)
theorem Fk(a:Option Addr)(b: @tZ R h a):ac vV 57 #[a] h R:=ar ae Tryz.func57 .n b
abbrev Nv:FuncId:=58
def Ey(b:Sl)(a:Sl):Prop:=
 aw vV (convert 38 9 b) (.one KX) h fun d e=>
 aw vV (convert 38 9 a) (.one KX) e fun c f=>
 R (vP (d.toList==c.toList)) f
theorem Ld(b:Sl)(a:Sl)(c: @Ey R h b a):ac vV 58 #[b,a] h R:=ar ae Tryz.func58 .n c
abbrev Bi:FuncId:=59
def oC(a:Option Addr)(b:Sl):Prop:=
 aL (σ:=Int) (fun g E c=>
 Br (g<(b.len:Int))
 (∃A,(b.ptr=some A/\0<=g/\g<(b.len:Int))/\
 ∃x3:Sl,cellOf c (A.add (g.toNat*1))=some (x3:Value)/\
 Br ((x3.len:Int) !=64)
 (R (vL vR (1:Int)) c)
 (E (qc vR (g+1)) c))
 (bf (σ:=Unit) (fun _ v=>
 ∃i,(a=some i)/\
 ∃e:Option Addr,cellOf v i=some (.pointer e)/\
 af vV 34 #[e] bO v fun q y=>
 Br (!q)
 (af vV 44 #[b] aJ y fun r H=>
 ∃m,(a=some m)/\
 ag vV (qf 59 (m.add 4) r) H fun _ F=>
 ∃j,(a=some j)/\
 ag vV (qf 4 (j.add 5) true) F fun _ h8=>
 R (vL vR (14:Int)) h8)
 (af vV 44 #[b] aJ y fun t I=>
 ∃k,(a=some k)/\
 ag vV (qf 59 (k.add 2) t) I fun _ u=>
 ∃l,(a=some l)/\
 ag vV (qf 3 (l.add 3) (vL vR (0:Int))) u fun _ o=>
 af vV 111 #[a] bs o fun s n=>
 R s n))
 (fun G=>
 bf (σ:=Bool) (fun D f=>
 Br D
 (R (vL vR (5:Int)) f)
 (∃w,(a=some w)/\
 ∃x,cellOf f (w.add 1)=some (vL vR x)/\
 Br ((b.len:Int)>x)
 (R (vL vR (7:Int)) f)
 (∃a9,(a=some a9)/\
 ∃d:Option Addr,cellOf f a9=some (.pointer d)/\
 af vV 86 #[d] bO f fun p h3=>
 Br (!p)
 (R (vL vR (14:Int)) h3)
 (G () h3))))
 (fun z=>
 Br (zg a) (z true c) (∃a4,(a=some a4)/\
 ∃B:Bool,cellOf c (a4.add 6)=some (vP B)/\
 z B c))))) (0:Int) h
theorem xU(b:Option Addr)(a:Sl)(c: @oC R h b a):ac vV 59 #[b,a] h R:=ar ae Tryz.func59 (al.tn (.two (al.tn (.inn (.loop [(9,aY)] [(4,5),(6,7),(9,17)] .n))) (.two (.join [] [(4,5),(17,41)] (.inn (.two (.join [(17,ms)] [(17,26)] .n) .n))) .n))) c
abbrev tE:FuncId:=61
def lU(a:Sl)(c:Sl):Prop:=
 Br ((a.len:Int) !=(c.len:Int))
 (R false h)
 (aL (σ:=Int) (fun b g d=>
 Br (b<(a.len:Int))
 (∃f,(a.ptr=some f/\0<=b/\b<(a.len:Int))/\
 ∃x3,cellOf d (f.add (b.toNat*1))=some (vL vR x3)/\
 ∃a4,(c.ptr=some a4/\0<=b/\b<(c.len:Int))/\
 ∃e,cellOf d (a4.add (b.toNat*1))=some (vL vR e)/\
 Br (x3 !=e)
 (R false d)
 (g (qc vR (b+1)) d))
 (R true d)) (0:Int) h)
theorem sO(b:Sl)(a:Sl)(c: @lU R h b a):ac vV 61 #[b,a] h R:=ar ae Tryz.func61 (al.tn (al.tn (.two (al.tn (.inn (.loop [(13,aY)] [(4,6),(13,26)] .n))) .n))) c
abbrev IP:FuncId:=62
def Le(o:cz):Prop:=
 aO vV (qL 47 o) h fun b z=>
 aO vV (qJ 47 true (.tuple #[])) z fun w n=>
 bf (σ:=Unit) (fun _ q=>
 ∃t:Sl,cellOf q (b.add 7)=some (t:Value)/\
 aL (σ:=Int) (fun e y h8=>
 Br (e<(t.len:Int))
 (∃c:Sl,cellOf h8 (b.add 7)=some (c:Value)/\
 ∃d:Sl,cellOf h8 (b.add 7)=some (d:Value)/\
 ∃j,(d.ptr=some j/\0<=e/\e<(d.len:Int))/\
 ∃k:Sl,cellOf h8 ((j.add (e.toNat*4)).add 3)=some (k:Value)/\
 af vV 79 #[k] aJ h8 fun m v=>
 (aq.ok [(b.add 7,d),(b.add 7,c)] v)/\
 ∃f,(c.ptr=some f/\0<=e/\e<(c.len:Int))/\
 ag vV (qf 22 ((f.add (e.toNat*4)).add 3) m) v fun _ l=>
 (aq.ok [] l)/\
 y (qc vR (e+1)) l)
 (∃i:cz,aj h8 b 0 i/\
 ag vV (qf 47 w i) h8 fun _ g=>
 ∃a:cz,aj g w 0 a/\
 R a g)) (0:Int) q)
 (fun x=>
 ∃x3:Sl,cellOf n (b.add 6)=some (x3:Value)/\
 ∃p:Sl,cellOf n (b.add 7)=some (p:Value)/\
 af vV 79 #[x3] aJ n fun A h3=>
 (aq.ok [(b.add 7,p)] h3)/\
 af vV 112 #[p] aJ h3 fun B r=>
 (aq.ok [] r)/\
 ag vV (qf 22 (b.add 6) A) r fun _ u=>
 (aq.ok [] u)/\
 ag vV (qf 45 (b.add 7) B) u fun _ s=>
 (aq.ok [] s)/\
 x () s)
theorem Sm(a:cz)(b: @Le R h a):ac vV 62 #[a] h R:=ar ae Tryz.func62 (al.tn (.two (.join [] [(4,12)] .n) (.two (al.tn (.inn (.loop [(15,aY)] [(3,4),(15,31)] .n))) .n))) b
abbrev UL:FuncId:=63
def Lf(x:cz):Prop:=
 aO vV (qL 47 x) h fun c K=>
 bf (σ:=Unit) (fun _ G=>
 bf (σ:=Unit) (fun _ h8=>
 ∃f:Sl,cellOf h8 (c.add 7)=some (f:Value)/\
 aL (σ:=Int) (fun a O A=>
 Br (a<(f.len:Int))
 (∃t,(f.ptr=some t/\0<=a/\a<(f.len:Int))/\
 ∃n:iD,aj A (t.add (a.toNat*4)) 0 n/\
 aO vV (qJ 96 true (.tuple #[])) A fun e D=>
 ag vV (qf 96 e n) D fun _ g=>
 bf (σ:=Unit) (fun _ o=>
 ∃d:Sl,cellOf o (c.add 7)=some (d:Value)/\
 (0<=a/\a<=(d.cap:Int))/\
 af vV 116 #[(vM d.ptr a.toNat d.cap),(.func (.func 117) #[] #[e])] bO o fun B r=>
 Br B
 (R false r)
 (O (qc vR (a+1)) r))
 (fun F=>
 ∃p:cz,aj g c 0 p/\
 ∃s:iD,aj g e 0 s/\
 af vV 115 #[p,s] bO g fun z b=>
 (aq.ok [] b)/\
 Br (!z) (R false b) (Br (a>0) (∃i:Sl,cellOf b (c.add 7)=some (i:Value)/\
 ∃j,(i.ptr=some j/\0<=(qc vR (a-1))/\(qc vR (a-1))<(i.len:Int))/\
 ∃q:ByteArray,cellOf b (j.add ((qc vR (a-1)).toNat*4))=some (vO q)/\
 ∃l:ByteArray,cellOf b e=some (vO l)/\
 Br (!(Op.bytesLess q.toList l.toList))
 (R false b)
 (F () b)) (F () b))))
 (R true A)) (0:Int) h8)
 (fun N=>
 ∃k:Sl,cellOf G (c.add 6)=some (k:Value)/\
 af vV 114 #[k,(vL vR (63:Int))] bO G fun v u=>
 Br (!v) (R false u) (∃m:Sl,cellOf u (c.add 7)=some (m:Value)/\
 Br ((m.len:Int)>12)
 (R false u)
 (N () u))))
 (fun L=>
 ∃x2,cellOf K c=some (vL vR x2)/\
 af vV 113 #[x2,(vL vR (1:Int)),(vL vR (2147483647:Int))] bO K fun M w=>
 Br (!M) (R false w) (∃I,cellOf w (c.add 1)=some (vL vR I)/\
 af vV 113 #[I,(vL vR (0:Int)),(vL vR (16777216:Int))] bO w fun Q h3=>
 Br (!Q) (R false h3) (∃E:bF,aj h3 (c.add 2) 0 E/\
 af vV 39 #[E] bO h3 fun S y=>
 Br (!S) (R false y) (∃H,cellOf y (c.add 5)=some (vL vR H)/\
 af vV 113 #[H,(vL vR (0:Int)),(vL vR (16:Int))] bO y fun P J=>
 Br (!P)
 (R false J)
 (L () J)))))
theorem Sn(a:cz)(b: @Lf R h a):ac vV 63 #[a] h R:=ar ae Tryz.func63 (al.tn (.two (.join [] [(2,3),(5,27)] .n) (.two (.join [] [(2,3),(27,37)] .n) (.two (al.tn (.inn (.loop [(40,aY)] [(2,5),(40,72)] (al.tn (al.tn (.two (.inn (al.tn (.two (.join [] [(2,3),(45,65)] .n) .n))) .n)))))) .n)))) b
abbrev mP:FuncId:=64
def iE(b:Sl)(a:FuncId×Array Value×Array Value):Prop:=
 af vV 118 #[b,(.func (.func a.1) a.2.1 a.2.2)] bs h fun d c=>
 R (decide (d>=0)) c
theorem mv(b:Sl)(a:FuncId×Array Value×Array Value)(c: @iE R h b a):ac vV 64 #[b,(.func (.func a.1) a.2.1 a.2.2)] h R:=ar ae Tryz.func64 .n c
abbrev pu:FuncId:=65
def Ch(b:Sl)(a:Addr):Prop:=
 ∃c:Sl,cellOf h a=some (c:Value)/\
 af vV 58 #[b,c] bO h fun e d=>
 R e d
theorem JF(b:Sl)(a:Addr)(c: @Ch R h b a):ac vV 65 #[b,a] h R:=ar ae Tryz.func65 .n c
abbrev UM:FuncId:=66
def Lg(c:FuncId×Array Value×Array Value)(a:Sl):Prop:=
 aL (σ:=Sl×Int) (fun b f d=>
 Br (b.2<(a.len:Int))
 (∃j,(a.ptr=some j/\0<=b.2/\b.2<(a.len:Int))/\
 ∃x3,cellOf d (j.add (b.2.toNat*1))=some (vL vR x3)/\
 ig C c.1 (c.2.1.toList++[(vL vR x3)]++c.2.2.toList) na d fun i g=>
 Br (!(zg i)) (af vV 54 #[i] bO g fun l h3=>
 Br (!l)
 (aw vV (qt 22 1 #[(0,x3)]) aJ h3 fun k m=>
 aw vV (qq #[22,22] 22 #[b.1,k]) aJ m fun e n=>
 f ((⟨e.ptr,e.len,e.cap⟩:Sl),qc vR (b.2+1)) n)
 (f ((⟨b.1.ptr,b.1.len,b.1.cap⟩:Sl),qc vR (b.2+1)) h3)) (f ((⟨b.1.ptr,b.1.len,b.1.cap⟩:Sl),qc vR (b.2+1)) g))
 (R b.1 d)) ((⟨none,0,0⟩:Sl),(0:Int)) h
theorem So(b:FuncId×Array Value×Array Value)(a:Sl)(c: @Lg R h b a):ac vV 66 #[(.func (.func b.1) b.2.1 b.2.2),a] h R:=ar ae Tryz.func66 (al.tn (al.tn (.two (al.tn (.inn (.loop [(5,ct),(11,aY)] [(5,6),(7,9),(11,30)] .n))) .n))) c
abbrev Bj:FuncId:=68
def oD(X:bF)(Q:Int)(a:Int)(c:Int):Prop:=
 aO vV (qL 24 X) h fun q h1=>
 aO vV (qJ 57 true (.tuple #[])) h1 fun b h2=>
 af vV 10 #[Q,(vL vR (26:Int))] bs h2 fun j h3=>
 Br (j<8)
 (((5:Int)≠0)/\
 ∃z,cellOf h3 q=some (vL vR z)/\
 ∃E,cellOf h3 (q.add 2)=some (vL vR E)/\
 af vV 119 #[a] (.one KX) h3 fun r6 h4=>
 (aq.ok [(q.add 2,E),(q,z)] h4)/\
 af vV 10 #[(qc vR (wC a 5)),(qc vR ((qc vR ((qc vR (3*z))*E))+2))] bs h4 fun r7 h5=>
 (aq.ok [(q.add 2,E),(q,z)] h5)/\
 af vV 14 #[r7,c] aJ h5 fun r8 h6=>
 (aq.ok [(q.add 2,E),(q,z)] h6)/\
 ag vV (qf 57 b (vQ #[(vL vR (1:Int)),r6,r8,(vL vR (0:Int)),(vL vR (0:Int)),(vL vR (0:Int)),(vL vT (0:Int)),(vM none 0 0),(vM none 0 0)])) h6 fun _ L=>
 (aq.ok [] L)/\
 ∃r:Ca,aj L b 0 r/\
 R r L)
 (Br (j<11)
 (af vV 119 #[a] (.one KX) h3 fun a3 h8=>
 ag vV (qf 57 b (vQ #[(vL vR (2:Int)),a3,(vM none 0 0),(vL vR (0:Int)),(vL vR (0:Int)),(vL vR (0:Int)),(vL vT (0:Int)),(vM none 0 0),(vM none 0 0)])) h8 fun _ h9=>
 ∃d:Ca,aj h9 b 0 d/\
 R d h9)
 (Br (j<13)
 (af vV 119 #[a] (.one KX) h3 fun K a6=>
 ag vV (qf 57 b (vQ #[(vL vR (3:Int)),K,(vM none 0 0),(vL vR (0:Int)),(vL vR (0:Int)),(vL vR (0:Int)),(vL vT (0:Int)),(vM none 0 0),(vM none 0 0)])) a6 fun _ t=>
 ∃n:Ca,aj t b 0 n/\
 R n t)
 (Br (j==13)
 (ag vV (qf 57 b (vQ #[(vL vR (4:Int)),nG,(vM none 0 0),(vL vR (0:Int)),(vL vR (0:Int)),(vL vR (0:Int)),(vL vT (0:Int)),(vM none 0 0),(vM none 0 0)])) h3 fun _ s=>
 ∃k:Ca,aj s b 0 k/\
 R k s)
 (Br (j==14)
 (af vV 119 #[a] (.one KX) h3 fun U P=>
 ag vV (qf 57 b (vQ #[(vL vR (5:Int)),U,(vM none 0 0),(vL vR (0:Int)),(vL vR (0:Int)),(vL vR (0:Int)),(vL vT (0:Int)),(vM none 0 0),(vM none 0 0)])) P fun _ A=>
 ∃o:Ca,aj A b 0 o/\
 R o A)
 (Br (j==15)
 (af vV 10 #[a,(vL vR (9:Int))] bs h3 fun V H=>
 af vV 10 #[c,(vL vR (60:Int))] bs H fun ab Z=>
 ag vV (qf 57 b (vQ #[(vL vR (6:Int)),nG,(vM none 0 0),V,(qc vR (6+ab)),(vL vR (0:Int)),(vL vT (0:Int)),(vM none 0 0),(vM none 0 0)])) Z fun _ x=>
 ∃l:Ca,aj x b 0 l/\
 R l x)
 (Br (j==16)
 (af vV 10 #[a,(vL vR (8:Int))] bs h3 fun ax F=>
 ag vV (qf 57 b (vQ #[(vL vR (7:Int)),nG,(vM none 0 0),ax,(vL vR (0:Int)),(vL vR (0:Int)),(vL vT (0:Int)),(vM none 0 0),(vM none 0 0)])) F fun _ u=>
 ∃e:Ca,aj u b 0 e/\
 R e u)
 (Br (j==17)
 (af vV 10 #[a,(vL vR (8:Int))] bs h3 fun ay T=>
 af vV 10 #[c,(vL vR (60:Int))] bs T fun am a5=>
 ag vV (qf 57 b (vQ #[(vL vR (8:Int)),nG,(vM none 0 0),ay,(qc vR (6+am)),(vL vR (0:Int)),(vL vT (0:Int)),(vM none 0 0),(vM none 0 0)])) a5 fun _ B=>
 ∃f:Ca,aj B b 0 f/\
 R f B)
 (Br (j==18)
 (af vV 10 #[a,(vL vR (8:Int))] bs h3 fun ad Y=>
 ag vV (qf 57 b (vQ #[(vL vR (9:Int)),nG,(vM none 0 0),ad,(vL vR (0:Int)),(vL vR (0:Int)),(vL vT (0:Int)),(vM none 0 0),(vM none 0 0)])) Y fun _ y=>
 ∃p:Ca,aj y b 0 p/\
 R p y)
 (Br (j<22)
 (af vV 10 #[a,(vL vR (3:Int))] bs h3 fun M a7=>
 af vV 10 #[c,(vL vR (20:Int))] bs a7 fun G J=>
 ag vV (qf 57 b (vQ #[(vL vR (10:Int)),nG,(vM none 0 0),(vL vR (0:Int)),M,G,(vL vT (0:Int)),(vM none 0 0),(vM none 0 0)])) J fun _ w=>
 ∃m:Ca,aj w b 0 m/\
 R m w)
 (Br (j==22)
 (af vV 10 #[a,(vL vR (9:Int))] bs h3 fun O N=>
 af vV 10 #[c,(vL vR (70:Int))] bs N fun ah ap=>
 ag vV (qf 57 b (vQ #[(vL vR (10:Int)),nG,(vM none 0 0),(vL vR (0:Int)),(qc vR (O-1)),(qc vR (ah-1)),(vL vT (0:Int)),(vM none 0 0),(vM none 0 0)])) ap fun _ D=>
 ∃g:Ca,aj D b 0 g/\
 R g D)
 (af vV 10 #[a,(vL vR (7:Int))] bs h3 fun I a0=>
 ((7:Int)≠0)/\
 af vV 10 #[(qc vR (wC a 7)),(vL vR (40:Int))] bs a0 fun a4 S=>
 af vV 10 #[c,(vL vR (61:Int))] bs S fun ao W=>
 ag vV (qf 57 b (vQ #[(vL vR (11:Int)),nG,(vM none 0 0),I,a4,ao,(vL vT (qc vT ((qc vT ((qc vT c)*2654435761))+(qc vT a)))),(vM none 0 0),(vM none 0 0)])) W fun _ v=>
 ∃i:Ca,aj v b 0 i/\
 R i v)))))))))))
theorem xV(b:bF)(a:Int)(d:Int)(c:Int)(e: @oD R h b a d c):ac vV 68 #[b,a,d,c] h R:=ar ae Tryz.func68 .n e
abbrev Gt:FuncId:=69
def nk(a:Option Addr):Prop:=
 Br (zg a) (R true h) (af vV 82 #[a] bO h fun c b=>
 R c b)
theorem rc(a:Option Addr)(b: @nk R h a):ac vV 69 #[a] h R:=ar ae Tryz.func69 .n b
abbrev Fl:FuncId:=70
def sP(b:Option Addr)(a:ByteArray):Prop:=
 aO vV (qL 9 a) h fun g c=>
 ∃d,(b=some d)/\
 ∃x3:Sl,cellOf c (d.add 7)=some (x3:Value)/\
 af vV 120 #[x3,(.func (.func 121) #[] #[g])] bs c fun f e=>
 R f e
theorem DM(b:Option Addr)(a:ByteArray)(c: @sP R h b a):ac vV 70 #[b,a] h R:=ar ae Tryz.func70 .n c
abbrev mw:FuncId:=71
def iv(a:Sl)(d:Int)(b:Int):Prop:=
 aw vV (wy 45 a (some d) (some b) (some (vL vR (a.len:Int)))) aJ h fun _ e=>
 Br (d==b)
 (R a e)
 ((0<=d/\d<=(a.cap:Int))/\
 (0<=b/\b<=(a.len:Int))/\
 aw vV (qq #[45,45] 45 #[(vM a.ptr d.toNat a.cap),(.slice (if a.cap=b.toNat then a.ptr else a.ptr.map (·.add (b.toNat*4))) (a.len-b.toNat) (a.cap-b.toNat))]) aJ e fun c f=>
 (aq.ok [] f)/\
 (0<=(c.len:Int)/\(c.len:Int)<=(a.len:Int)/\(a.len:Int)<=(c.cap:Int))/\
 ag vV (yp #[45] 0 #[(.slice (if c.cap=(c.len:Int).toNat then c.ptr else c.ptr.map (·.add ((c.len:Int).toNat*4))) ((a.len:Int).toNat-(c.len:Int).toNat) (c.cap-(c.len:Int).toNat))]) f fun _ h3=>
 R c h3)
theorem lX(a:Sl)(c:Int)(b:Int)(d: @iv R h a c b):ac vV 71 #[a,c,b] h R:=ar ae Tryz.func71 .n d
abbrev Ci:FuncId:=72
def pv(a:Option Addr)(o:cz):Prop:=
 aO vV (qL 47 o) h fun g E=>
 af vV 69 #[a] bO E fun D m=>
 Br D
 (R (vL vR (14:Int)) m)
 (bf (σ:=Unit) (fun _ r=>
 ∃q:Sl,cellOf r (g.add 6)=some (q:Value)/\
 af vV 66 #[(.func (.func 11) #[a] #[]),q] aJ r fun b t=>
 ∃e:cz,aj t g 0 e/\
 af vV 41 #[e] aJ t fun k A=>
 aO vV (qJ 3 true (.tuple #[])) A fun d y=>
 ag vV (qf 3 d (vL vR (k.len:Int))) y fun _ h8=>
 bf (σ:=Unit) (fun _ p=>
 af vV 51 #[a,b,(.func (.func 122) #[] #[d])] bs p fun i c=>
 Br (i !=0)
 (R i c)
 (∃f:cz,aj c g 0 f/\
 af vV 52 #[a,f,b] bs c fun n j=>
 R n j))
 (fun z=>
 Br ((b.len:Int)==0) (R (vL vR (7:Int)) h8) (af vV 50 #[a,b,(.func (.func 122) #[] #[d])] bO h8 fun l u=>
 Br (!l)
 (R (vL vR (7:Int)) u)
 (z () u))))
 (fun x=>
 ∃x3:cz,aj m g 0 x3/\
 af vV 63 #[x3] bO m fun B h3=>
 (aq.ok [] h3)/\
 Br (!B) (R (vL vR (1:Int)) h3) (∃v,cellOf h3 g=some (vL vR v)/\
 ∃s,(a=some s)/\
 ∃w,cellOf h3 s=some (vL vR w)/\
 Br (v !=(qc vR (w+1)))
 (R (vL vR (1:Int)) h3)
 (x () h3))))
theorem Bl(a:Option Addr)(b:cz)(c: @pv R h a b):ac vV 72 #[a,b] h R:=ar ae Tryz.func72 (al.tn (al.tn (.two (.join [] [(4,5),(11,25)] .n) (al.tn (al.tn (al.tn (.two (.join [] [(4,5),(34,44)] .n) .n))))))) c
abbrev JG:FuncId:=73
def AC(a:ByteArray):Prop:=
 af vV 123 #[a] (.one KX) h fun c b=>
 R c b
theorem Iq(a:ByteArray)(b: @AC R h a):ac vV 73 #[a] h R:=ar ae Tryz.func73 .n b
abbrev DN:FuncId:=74
def re(a:Option Addr):Prop:=
 aO vV (qL 29 a) h fun c b=>
 ∃x2:Option Addr,cellOf b c=some (.pointer x2)/\
 af vV 21 #[x2] aJ b fun e d=>
 af vV 103 #[e,(.func (.func 124) #[] #[c])] bO d fun f h3=>
 R f h3
theorem Cj(a:Option Addr)(b: @re R h a):ac vV 74 #[a] h R:=ar ae Tryz.func74 .n b
abbrev Nw:FuncId:=75
def Ez(f:FuncId×Array Value×Array Value)(a:Sl)(w:cz)(c:Int)(e:Int):Prop:=
 aO vV (qL 47 w) h fun j H=>
 aL (σ:=Sl×Int) (fun i B r=>
 Br (i.2<(a.len:Int))
 (∃a3,(a.ptr=some a3/\0<=i.2/\i.2<(a.len:Int))/\
 ∃A,cellOf r (a3.add (i.2.toNat*1))=some (vL vR A)/\
 bf (σ:=Sl×Int×Int) (fun s G=>
 aL (σ:=Sl×Int) (fun b x v=>
 Br (b.2<s.2.1)
 (∃l,(s.1.ptr=some l/\0<=b.2/\b.2<(s.1.len:Int))/\
 ∃m:ey,aj v (l.add (b.2.toNat*8)) 0 m/\
 aO vV (qJ 134 true (.tuple #[])) v fun d D=>
 ag vV (qf 134 d m) D fun _ h8=>
 ∃p,cellOf h8 d=some (vL vR p)/\
 Br (p==c) (∃o,cellOf h8 (d.add 1)=some (vL vR o)/\
 Br (o==e)
 (∃q,cellOf h8 (d.add 2)=some (vL vR q)/\
 ∃n:Sl,cellOf h8 (d.add 7)=some (n:Value)/\
 aw vV (qt 125 1 #[(0,(vQ #[q,n]))]) aJ h8 fun u F=>
 aw vV (qq #[125,125] 125 #[b.1,u]) aJ F fun k y=>
 x ((⟨k.ptr,k.len,k.cap⟩:Sl),qc vR (b.2+1)) y)
 (x ((⟨b.1.ptr,b.1.len,b.1.cap⟩:Sl),qc vR (b.2+1)) h8)) (x ((⟨b.1.ptr,b.1.len,b.1.cap⟩:Sl),qc vR (b.2+1)) h8))
 (B ((⟨b.1.ptr,b.1.len,b.1.cap⟩:Sl),qc vR (i.2+1)) v)) ((⟨i.1.ptr,i.1.len,i.1.cap⟩:Sl),s.2.2) G)
 (fun E=>
 ∃g:cz,aj r j 0 g/\
 ig C f.1 (f.2.1.toList++[(vL vR A)]++f.2.2.toList) na r fun I h3=>
 (aq.ok [(j,g.1),(j.add 1,g.2.1),(j.add 2,g.2.2.1),(j.add 3,g.2.2.2.1),(j.add 4,g.2.2.2.2.1),(j.add 5,g.2.2.2.2.2.1),(j.add 6,g.2.2.2.2.2.2.1),(j.add 7,g.2.2.2.2.2.2.2)] h3)/\
 af vV 80 #[I,g] aJ h3 fun t z=>
 (aq.ok [] z)/\
 E ((⟨t.ptr,t.len,t.cap⟩:Sl),(t.len:Int),(0:Int)) z))
 (R i.1 r)) ((⟨none,0,0⟩:Sl),(0:Int)) H
theorem Lh(d:FuncId×Array Value×Array Value)(b:Sl)(e:cz)(a:Int)(c:Int)(f: @Ez R h d b e a c):ac vV 75 #[(.func (.func d.1) d.2.1 d.2.2),b,e,a,c] h R:=ar ae Tryz.func75 (al.tn (al.tn (.two (al.tn (.inn (.loop [(11,ct),(18,aY)] [(11,12),(13,14),(15,16),(18,52)] (al.tn (al.tn (.two (.inn (al.tn (.two (.join [(26,ct),(27,aY),(28,aY)] [(22,29)] .n) (.inn (.loop [(11,ct),(28,aY)] [(11,12),(15,16),(28,51)] .n))))) .n)))))) .n))) f
abbrev Li:FuncId:=76
def Ck(F:bF)(b:Int)(n:Sl):Prop:=
 aO vV (qL 24 F) h fun f M=>
 bf (σ:=Unit) (fun _ K=>
 bf (σ:=Unit) (fun _ I=>
 ∃r:bF,aj I f 0 r/\
 af vV 130 #[r,(vL vT b),n] (.many [ct,aY]) I fun k h8=>
 Br (k.2 !=0)
 (R (.tuple #[(vM none 0 0),k.2]) h8)
 (∃w,cellOf h8 f=some (vL vR w)/\
 aL (σ:=Sl×Int) (fun d U G=>
 Br (d.2<w)
 (∃o,cellOf G (f.add 2)=some (vL vR o)/\
 aw vV (qB 38 o o) aJ G fun e A=>
 ∃s:bF,aj A f 0 s/\
 af vV 131 #[s,(vL vT b),d.2] aJ A fun p B=>
 aL (σ:=Int) (fun c O g=>
 Br (c<(p.len:Int))
 (∃u,(p.ptr=some u/\0<=c/\c<(p.len:Int))/\
 ∃j,cellOf g (u.add (c.toNat*1))=some (vL vR j)/\
 ∃z,(k.1.ptr=some z/\0<=j/\j<(k.1.len:Int))/\
 ∃l:Sl,cellOf g (z.add (j.toNat*1))=some (l:Value)/\
 aL (σ:=Int) (fun a W i=>
 Br (a<(l.len:Int))
 (∃q,(l.ptr=some q/\0<=a/\a<(l.len:Int))/\
 ∃x,cellOf i (q.add (a.toNat*1))=some (vL vS x)/\
 ∃v,(e.ptr=some v/\0<=a/\a<(e.len:Int))/\
 ∃y,cellOf i (v.add (a.toNat*1))=some (vL vS y)/\
 ∃a28,(e.ptr=some a28/\0<=a/\a<(e.len:Int))/\
 ag vV (qf 5 (a28.add (a.toNat*1)) (vL vS (qc vS ((qA (qk vS) y^^^(qA (qk vS) x)).toNat:Nat)))) i fun _ H=>
 W (qc vR (a+1)) H)
 (O (qc vR (c+1)) i)) (0:Int) g)
 (aw vV (qq #[38,38] 38 #[d.1,e]) aJ g fun m D=>
 U ((⟨m.ptr,m.len,m.cap⟩:Sl),qc vR (d.2+1)) D)) (0:Int) B)
 (R (.tuple #[d.1,(vL vR (0:Int))]) G)) ((⟨none,0,0⟩:Sl),(0:Int)) h8))
 (fun Q=>
 ∃t:bF,aj K f 0 t/\
 af vV 129 #[n] aJ K fun V L=>
 (aq.ok [(f,t.1),(f.add 1,t.2.1),(f.add 2,t.2.2)] L)/\
 af vV 128 #[t,(vL vT b),V] bO L fun S E=>
 (aq.ok [] E)/\
 Br (!S)
 (R (.tuple #[(vM none 0 0),(vL vR (9:Int))]) E)
 (Q () E)))
 (fun N=>
 ∃x2:bF,aj M f 0 x2/\
 af vV 39 #[x2] bO M fun P J=>
 Br (!P) (R (.tuple #[(vM none 0 0),(vL vR (1:Int))]) J) (af vV 125 #[n,(.func (.func 126) #[] #[f])] bO J fun T h3=>
 Br T
 (R (.tuple #[(vM none 0 0),(vL vR (1:Int))]) h3)
 (N () h3)))
theorem JH(c:bF)(a:Int)(b:Sl)(d: @Ck R h c a b):ac vV 76 #[c,(vL vT a),b] h R:=ar ae Tryz.func76 (al.tn (.two (.join [] [(6,8),(17,25)] .n) (.two (.join [] [(6,8),(25,31)] .n) (al.tn (al.tn (al.tn (.two (al.tn (.inn (.loop [(10,ct),(43,aY)] [(10,13),(14,17),(43,81)] (al.tn (al.tn (.two (.inn (al.tn (al.tn (.two (al.tn (.inn (.loop [(54,aY)] [(14,17),(54,77)] (al.tn (al.tn (.two (.inn (al.tn (al.tn (.inn (.loop [(63,aY)] [(15,17),(63,76)] .n))))) .n)))))) .n)))) .n)))))) .n))))))) d
abbrev Sq:FuncId:=77
def IQ(c:Int)(b:Int)(a:Int):Prop:=
 R (vL vT (qc vT ((qc vT ((qc vT (128*(qc vT c)))+(qc vT (16*(qc vT b)))))+(qc vT a)))) h
theorem PW(c:Int)(b:Int)(a:Int)(d: @IQ R h c b a):ac vV 77 #[c,b,a] h R:=ar ae Tryz.func77 .n d
abbrev PX:FuncId:=78
def Gu(l:bF)(b:Sl)(a:Int):Prop:=
 aO vV (qL 24 l) h fun j q=>
 bf (σ:=Unit) (fun _ u=>
 aL (σ:=Sl×Int) (fun d v g=>
 Br (d.2<(b.len:Int))
 (∃o,(b.ptr=some o/\0<=d.2/\d.2<(b.len:Int))/\
 ∃i:Sl,cellOf g (o.add (d.2.toNat*1))=some (i:Value)/\
 ∃e:bF,aj g j 0 e/\
 af vV 81 #[e] bs g fun k n=>
 Br ((i.len:Int) !=k)
 (R (.tuple #[(vM none 0 0),false]) n)
 (aw vV (qq #[38,38] 38 #[d.1,i]) aJ n fun c s=>
 v ((⟨c.ptr,c.len,c.cap⟩:Sl),qc vR (d.2+1)) s))
 (aw vV (wy 38 d.1 none (some a) (some a)) aJ g fun m h8=>
 R (.tuple #[m,true]) h8)) ((⟨none,0,0⟩:Sl),(0:Int)) u)
 (fun r=>
 ∃x2:bF,aj q j 0 x2/\
 af vV 39 #[x2] bO q fun t f=>
 Br (!t) (R (.tuple #[(vM none 0 0),false]) f) (Br (a<0) (R (.tuple #[(vM none 0 0),false]) f) (∃p:bF,aj f j 0 p/\
 af vV 30 #[p,a] bs f fun w h3=>
 Br ((b.len:Int) !=w)
 (R (.tuple #[(vM none 0 0),false]) h3)
 (r () h3))))
theorem Nx(c:bF)(b:Sl)(a:Int)(d: @Gu R h c b a):ac vV 78 #[c,b,a] h R:=ar ae Tryz.func78 (al.tn (.two (.join [] [(6,8),(11,26)] .n) (al.tn (.two (al.tn (.inn (.loop [(8,ct),(28,aY)] [(6,9),(10,11),(28,41)] .n))) .n)))) d
abbrev xW:FuncId:=79
def nK(a:Sl):Prop:=
 Br (zg a.ptr)
 (R (vM none 0 0) h)
 (aw vV (qt 22 0 #[]) aJ h fun c d=>
 aw vV (qq #[22,22] 22 #[c,a]) aJ d fun b e=>
 R b e)
theorem xj(a:Sl)(b: @nK R h a):ac vV 79 #[a] h R:=ar ae Tryz.func79 .n b
abbrev AD:FuncId:=80
def Cl(k:Option Addr)(o:cz):Prop:=
 aO vV (qL 47 o) h fun x B=>
 af vV 57 #[k] aJ B fun m w=>
 aL (σ:=Sl×Int) (fun a u h3=>
 Br ((qc vR (a.2+1))>=(m.len:Int))
 (af vV 134 #[a.1,(.func (.func 135) #[] #[])] iu h3 fun _ y=>
 af vV 136 #[a.1,(.func (.func 137) #[] #[])] aJ y fun D A=>
 R D A)
 (bf (σ:=Sl) (fun b g=>
 u ((⟨b.ptr,b.len,b.cap⟩:Sl),qc vR (a.2+1)) g)
 (fun l=>
 ∃s,(m.ptr=some s/\0<=(qc vR (a.2+1))/\(qc vR (a.2+1))<(m.len:Int))/\
 ∃t:Sl,cellOf h3 (s.add ((qc vR (a.2+1)).toNat*1))=some (t:Value)/\
 af vV 132 #[t] (.many [(.agg [(.int .i64),(.int .i64),(.int .i64),(.int .i64),(.int .i64),(.int .i64),(.int .u32),.slc]),ms]) h3 fun r z=>
 aO vV (qJ 134 true (.tuple #[])) z fun a9 v=>
 ag vV (qf 134 a9 r.1) v fun _ h8=>
 Br r.2 (∃d:cz,aj h8 x 0 d/\
 ∃e:ey,aj h8 a9 0 e/\
 af vV 133 #[d,e] bO h8 fun j n=>
 Br j
 (∃f:ey,aj n a9 0 f/\
 aw vV (qt 131 1 #[(0,f)]) aJ n fun q p=>
 aw vV (qq #[131,131] 131 #[a.1,q]) aJ p fun c i=>
 l (⟨c.ptr,c.len,c.cap⟩:Sl) i)
 (l (⟨a.1.ptr,a.1.len,a.1.cap⟩:Sl) n)) (l (⟨a.1.ptr,a.1.len,a.1.cap⟩:Sl) h8)))) ((⟨none,0,0⟩:Sl),(-1:Int)) w
theorem JI(b:Option Addr)(a:cz)(c: @Cl R h b a):ac vV 80 #[b,a] h R:=ar ae Tryz.func80 (al.tn (.scope 0 [(6,ct),(7,aY)] [(4,5),(6,10),(12,40)] [.n,.n,.n] [(al.tn (al.tn (.two (.join [(6,ct)] [(6,7),(8,10),(18,36)] .n) .n)))] [(1,[.n])])) c
abbrev PY:FuncId:=81
def xk(b:bF):Prop:=
 aO vV (qL 24 b) h fun c a=>
 ∃x2,cellOf a c=some (vL vR x2)/\
 ∃x3,cellOf a (c.add 2)=some (vL vR x3)/\
 R (qc vR (x2*x3)) a
theorem Cm(a:bF)(b: @xk R h a):ac vV 81 #[a] h R:=ar ae Tryz.func81 .n b
abbrev Fm:FuncId:=82
def sQ(a:Option Addr):Prop:=
 Br (!(zg a)) (∃g,(a=some g)/\
 ∃x2:Option Addr,cellOf h (g.add 8)=some (.pointer x2)/\
 af vV 86 #[x2] bO h fun j b=>
 (aq.ok [] b)/\
 Br (!j) ((aq.ok [] b)/\
 R true b) (∃a4,(a=some a4)/\
 ∃e:Option Addr,cellOf b (a4.add 8)=some (.pointer e)/\
 ∃d,(a=some d)/\
 ∃c,cellOf b (d.add 9)=some (vL vR c)/\
 af vV 40 #[e] bs b fun i f=>
 (aq.ok [(d.add 9,c)] f)/\
 R (vP (i !=c)) f)) ((aq.ok [] h)/\
 (aq.ok [] h)/\
 R false h)
theorem DO(a:Option Addr)(b: @sQ R h a):ac vV 82 #[a] h R:=ar ae Tryz.func82 .n b
abbrev Ir:FuncId:=86
def xl(a:Option Addr):Prop:=
 Br (!(zg a)) (∃b,(a=some b)/\
 ∃x2:Bool,cellOf h b=some (vP x2)/\
 R (vP (!x2)) h) (R false h)
theorem Gv(a:Option Addr)(b: @xl R h a):ac vV 86 #[a] h R:=ar ae Tryz.func86 .n b
abbrev Sr:FuncId:=87
def IR(U:cz):Prop:=
 aO vV (qL 47 U) h fun e h1=>
 ∃x2:cz,aj h1 e 0 x2/\
 af vV 63 #[x2] bO h1 fun r3 S=>
 Br (!r3)
 (R (vM none 0 0) S)
 (bf (σ:=Sl) (fun s8 w=>
 ∃x9,cellOf w (e.add 2)=some (vL vR x9)/\
 ∃L,cellOf w ((e.add 2).add 1)=some (vL vR L)/\
 ∃H,cellOf w ((e.add 2).add 2)=some (vL vR H)/\
 ∃z,cellOf w (e.add 5)=some (vL vR z)/\
 ∃I:Sl,cellOf w (e.add 6)=some (I:Value)/\
 aw vV (qt 38 5 #[(0,(vL vS (qc vS x9))),(1,(vL vS (qc vS L))),(2,(vL vS (qc vS H))),(3,(vL vS (qc vS z))),(4,(vL vS (qc vS (I.len:Int))))]) aJ w fun ad h6=>
 aw vV (qq #[38,38] 38 #[s8,ad]) aJ h6 fun n h7=>
 ∃g:Sl,cellOf h7 (e.add 6)=some (g:Value)/\
 aL (σ:=Sl×Int) (fun c K2 h8=>
 Br (c.2<(g.len:Int))
 (∃y,(g.ptr=some y/\0<=c.2/\c.2<(g.len:Int))/\
 ∃x,cellOf h8 (y.add (c.2.toNat*1))=some (vL vR x)/\
 aw vV (qt 38 1 #[(0,(vL vS (qc vS x)))]) aJ h8 fun X h9=>
 aw vV (qq #[38,38] 38 #[c.1,X]) aJ h9 fun v ao=>
 K2 ((⟨v.ptr,v.len,v.cap⟩:Sl),qc vR (c.2+1)) ao)
 (∃Q:Sl,cellOf h8 (e.add 7)=some (Q:Value)/\
 aw vV (qt 38 1 #[(0,(vL vS (qc vS (Q.len:Int))))]) aJ h8 fun W T=>
 aw vV (qq #[38,38] 38 #[c.1,W]) aJ T fun u K=>
 ∃k:Sl,cellOf K (e.add 7)=some (k:Value)/\
 aL (σ:=Sl×Int) (fun d K3 s=>
 Br (d.2<(k.len:Int))
 (∃N,(k.ptr=some N/\0<=d.2/\d.2<(k.len:Int))/\
 ∃G:iD,aj s (N.add (d.2.toNat*4)) 0 G/\
 aO vV (qJ 96 true (.tuple #[])) s fun a ab=>
 ag vV (qf 96 a G) ab fun _ o=>
 bf (σ:=Sl) (fun am r=>
 bf (σ:=Sl) (fun m F=>
 ∃i:Sl,cellOf F (a.add 3)=some (i:Value)/\
 aL (σ:=Sl×Int) (fun b K6 q=>
 Br (b.2<(i.len:Int))
 (∃O,(i.ptr=some O/\0<=b.2/\b.2<(i.len:Int))/\
 ∃D,cellOf q (O.add (b.2.toNat*1))=some (vL vR D)/\
 aw vV (qt 38 1 #[(0,(vL vS (qc vS D)))]) aJ q fun v45 V=>
 aw vV (qq #[38,38] 38 #[b.1,v45]) aJ V fun v46 ap=>
 K6 ((⟨v46.ptr,v46.len,v46.cap⟩:Sl),qc vR (b.2+1)) ap)
 (K3 ((⟨b.1.ptr,b.1.len,b.1.cap⟩:Sl),qc vR (d.2+1)) q)) ((⟨m.ptr,m.len,m.cap⟩:Sl),(0:Int)) F)
 (fun K5=>
 ∃A,cellOf r (a.add 1)=some (vL vR A)/\
 ∃p,cellOf r (a.add 2)=some (vL vR p)/\
 af vV 141 #[am,A,(vL vR (3:Int))] aJ r fun Y P=>
 (aq.ok [(a.add 2,p)] P)/\
 af vV 141 #[Y,p,(vL vR (2:Int))] aJ P fun l J=>
 (aq.ok [] J)/\
 K5 (⟨l.ptr,l.len,l.cap⟩:Sl) J))
 (fun K4=>
 ∃f:ByteArray,cellOf o a=some (vO f)/\
 ∃j:ByteArray,cellOf o a=some (vO j)/\
 aw vV (qt 38 1 #[(0,(vL vS (qc vS (f.size:Int))))]) aJ o fun ah B=>
 (aq.ok [(a,j),(a,f)] B)/\
 aw vV (qq #[38,38] 38 #[d.1,ah]) aJ B fun Z M=>
 (aq.ok [(a,j),(a,f)] M)/\
 aw vV (qq #[38,9] 38 #[Z,j]) aJ M fun t E=>
 (aq.ok [(a,f)] E)/\
 K4 (⟨t.ptr,t.len,t.cap⟩:Sl) E))
 (R d.1 s)) ((⟨u.ptr,u.len,u.cap⟩:Sl),(0:Int)) K)) ((⟨n.ptr,n.len,n.cap⟩:Sl),(0:Int)) h7)
 (fun K1=>
 ∃x4,cellOf S e=some (vL vR x4)/\
 ∃x5,cellOf S (e.add 1)=some (vL vR x5)/\
 af vV 141 #[(vM none 0 0),x4,(vL vR (4:Int))] aJ S fun r6 h3=>
 (aq.ok [(e.add 1,x5)] h3)/\
 af vV 141 #[r6,x5,(vL vR (4:Int))] aJ h3 fun r7 h4=>
 (aq.ok [] h4)/\
 K1 (⟨r7.ptr,r7.len,r7.cap⟩:Sl) h4))
theorem PZ(a:cz)(b: @IR R h a):ac vV 87 #[a] h R:=ar ae Tryz.func87 (al.tn (al.tn (.two (.join [(3,ct)] [(3,4),(13,19)] .n) (al.tn (.two (al.tn (.inn (.loop [(3,ct),(44,aY)] [(3,4),(5,6),(44,54)] .n))) (al.tn (.two (al.tn (.inn (.loop [(3,ct),(64,aY)] [(3,4),(7,8),(9,10),(64,99)] (al.tn (al.tn (.two (.inn (al.tn (.two (.join [(3,ct)] [(3,4),(68,78)] .n) (.two (.join [(3,ct)] [(3,4),(78,85)] .n) (al.tn (.inn (.loop [(3,ct),(88,aY)] [(3,4),(9,10),(88,98)] .n))))))) .n)))))) .n))))))) b
abbrev UN:FuncId:=88
def Lj(a:Int)(b:Int)(c:Int)(d:Sl):Prop:=
 (0<=(24:Int))/\
 (0<=(16:Int))/\
 (0<=(8:Int))/\
 aw vV (qt 38 7 #[(0,(vL vS (qc vS (qS a (2^min (24:Int).toNat (qk vR)))))),(1,(vL vS (qc vS (qS a (2^min (16:Int).toNat (qk vR)))))),(2,(vL vS (qc vS (qS a (2^min (8:Int).toNat (qk vR)))))),(3,(vL vS (qc vS a))),(4,(vL vS (qc vS b))),(5,(vL vS (qc vS c))),(6,(vL vS (qc vS (d.len:Int))))]) aJ h fun f g=>
 aw vV (qq #[38,38] 38 #[f,d]) aJ g fun e i=>
 af vV 142 #[(vL vR (2:Int)),e] aJ i fun j h3=>
 R j h3
theorem Ss(c:Int)(a:Int)(b:Int)(d:Sl)(e: @Lj R h c a b d):ac vV 88 #[c,a,b,d] h R:=ar ae Tryz.func88 .n e
abbrev oE:FuncId:=89
def kV(a:Option Addr)(i:Sl):Prop:=
 bf (σ:=Unit) (fun _ h3=>
 bf (σ:=Unit) (fun _ h8=>
 ∃e,(a=some e)/\
 ∃f,cellOf h8 (e.add 3)=some (vL vR f)/\
 ∃j,(a=some j)/\
 ag vV (qf 3 (j.add 3) (qc vR (f+1))) h8 fun _ E=>
 ∃a22,(a=some a22)/\
 ∃g:Option Addr,cellOf E a22=some (.pointer g)/\
 af vV 34 #[g] bO E fun m l=>
 Br (!m)
 (R (vL vR (14:Int)) l)
 (af vV 111 #[a] bs l fun q n=>
 R q n))
 (fun J=>
 ∃b,(a=some b)/\
 ∃c:Sl,cellOf h3 (b.add 2)=some (c:Value)/\
 af vV 91 #[i] aJ h3 fun o x=>
 (aq.ok [(b.add 2,c)] x)/\
 aw vV (qt 59 1 #[(0,o)]) aJ x fun s D=>
 (aq.ok [(b.add 2,c)] D)/\
 aw vV (qq #[59,59] 59 #[c,s]) aJ D fun p z=>
 (aq.ok [] z)/\
 ∃k,(a=some k)/\
 ag vV (qf 59 (k.add 2) p) z fun _ t=>
 (aq.ok [] t)/\
 J () t))
 (fun I=>
 Br ((i.len:Int) !=64)
 (R (vL vR (1:Int)) h)
 (bf (σ:=Bool) (fun H d=>
 Br H
 (R (vL vR (5:Int)) d)
 (∃a4,(a=some a4)/\
 ∃F:Sl,cellOf d (a4.add 2)=some (F:Value)/\
 ∃B,(a=some B)/\
 ∃G,cellOf d (B.add 1)=some (vL vR G)/\
 Br ((F.len:Int)>=G)
 (R (vL vR (7:Int)) d)
 (∃A,(a=some A)/\
 ∃u:Option Addr,cellOf d A=some (.pointer u)/\
 af vV 86 #[u] bO d fun r v=>
 Br (!r)
 (R (vL vR (14:Int)) v)
 (I () v))))
 (fun y=>
 Br (zg a) (y true h) (∃w,(a=some w)/\
 ∃x2:Bool,cellOf h (w.add 6)=some (vP x2)/\
 y x2 h))))
theorem nL(b:Option Addr)(a:Sl)(c: @kV R h b a):ac vV 89 #[b,a] h R:=ar ae Tryz.func89 (al.tn (.two (.join [] [(4,36)] (.inn (al.tn (al.tn (.two (.join [(9,ms)] [(9,18)] .n) .n))))) (.two (.join [] [(36,47)] .n) .n))) c
abbrev UO:FuncId:=90
def Lk(a:FuncId×Array Value×Array Value)(b:Sl):Prop:=
 af vV 79 #[b] aJ h fun i k=>
 af vV 143 #[i] iu k fun _ l=>
 af vV 144 #[i] aJ l fun d h3=>
 aL (σ:=Int) (fun c o e=>
 Br (c<(d.len:Int))
 (∃a5,(d.ptr=some a5/\0<=c/\c<(d.len:Int))/\
 ∃j,cellOf e (a5.add (c.toNat*1))=some (vL vR j)/\
 ig C a.1 (a.2.1.toList++[(vL vR j)]++a.2.2.toList) na e fun m n=>
 af vV 145 #[m] bs n fun g f=>
 Br (g !=0)
 (R g f)
 (o (qc vR (c+1)) f))
 (R (vL vR (0:Int)) e)) (0:Int) h3
theorem Su(b:FuncId×Array Value×Array Value)(a:Sl)(c: @Lk R h b a):ac vV 90 #[(.func (.func b.1) b.2.1 b.2.2),a] h R:=ar ae Tryz.func90 (al.tn (al.tn (al.tn (.two (al.tn (.inn (.loop [(15,aY)] [(4,5),(6,8),(15,27)] .n))) .n)))) c
abbrev rF:FuncId:=91
def EB(a:Sl):Prop:=
 Br (zg a.ptr)
 (R (vM none 0 0) h)
 (aw vV (qt 38 0 #[]) aJ h fun c d=>
 aw vV (qq #[38,38] 38 #[c,a]) aJ d fun b e=>
 R b e)
theorem Ll(a:Sl)(b: @EB R h a):ac vV 91 #[a] h R:=ar ae Tryz.func91 .n b
abbrev Sv:FuncId:=92
def IS(d:ByteArray):Prop:=
 aw vV (convert 9 38 d) aJ h fun f g=>
 aL (σ:=Int) (fun b e a=>
 Br (b<(f.len:Int))
 (∃a3,(f.ptr=some a3/\0<=b/\b<(f.len:Int))/\
 ∃c,cellOf a (a3.add (b.toNat*1))=some (vL vS c)/\
 Br (c<97) (Br (c<48) (Br (c !=45)
 (R false a)
 (e (qc vR (b+1)) a)) (Br (c>57) (Br (c !=45)
 (R false a)
 (e (qc vR (b+1)) a)) (e (qc vR (b+1)) a))) (Br (c>122) (Br (c<48) (Br (c !=45)
 (R false a)
 (e (qc vR (b+1)) a)) (Br (c>57) (Br (c !=45)
 (R false a)
 (e (qc vR (b+1)) a)) (e (qc vR (b+1)) a))) (e (qc vR (b+1)) a)))
 (Br ((d.size:Int)>=1) (R (decide ((d.size:Int)<=12)) a) (R false a))) (0:Int) g
theorem Qa(a:ByteArray)(b: @IS R h a):ac vV 92 #[a] h R:=ar ae Tryz.func92 (al.tn (.two (al.tn (.inn (.loop [(8,aY)] [(2,3),(4,5),(8,31)] .n))) .n)) b
abbrev Sw:FuncId:=93
def IT(e:bF)(a:Int)(b:Int):Prop:=
 aO vV (qL 24 e) h fun d i=>
 aL (σ:=Int) (fun c l f=>
 Br (c<16)
 (∃x3:bF,aj f d 0 x3/\
 af vV 77 #[a,b,c] (.one (.sc (.int .u32))) f fun k h3=>
 (aq.ok [(d,x3.1),(d.add 1,x3.2.1),(d.add 2,x3.2.2)] h3)/\
 af vV 146 #[x3,(vL vT k)] bO h3 fun j g=>
 (aq.ok [] g)/\
 Br j
 (R (.tuple #[c,true]) g)
 (l (qc vR (c+1)) g))
 (R (.tuple #[(vL vR (0:Int)),false]) f)) (0:Int) i
theorem Qb(c:bF)(a:Int)(b:Int)(d: @IT R h c a b):ac vV 93 #[c,a,b] h R:=ar ae Tryz.func93 (al.tn (.two (al.tn (.inn (.loop [(9,aY)] [(6,20)] .n))) .n)) d
abbrev Ny:FuncId:=94
def EC(g:bF)(a:Sl):Prop:=
 aO vV (qL 24 g) h fun f m=>
 ∃x2:bF,aj m f 0 x2/\
 af vV 30 #[x2,(vL vR (a.len:Int))] bs m fun r q=>
 aL (σ:=Sl×Int) (fun b o h3=>
 Br (b.2<r)
 (∃l:bF,aj h3 f 0 l/\
 af vV 81 #[l] bs h3 fun n s=>
 aw vV (qB 38 n n) aJ s fun i k=>
 ∃j:bF,aj k f 0 j/\
 af vV 81 #[j] bs k fun d t=>
 (0<=(qc vR (b.2*d))/\(qc vR (b.2*d))<=(a.len:Int))/\
 aw vV (wT #[38,38] 3 #[i,(.slice (if a.cap=(qc vR (b.2*d)).toNat then a.ptr else a.ptr.map (·.add ((qc vR (b.2*d)).toNat*1))) (a.len-(qc vR (b.2*d)).toNat) (a.cap-(qc vR (b.2*d)).toNat))]) bs t fun _ p=>
 aw vV (qt 59 1 #[(0,i)]) aJ p fun e h8=>
 aw vV (qq #[59,59] 59 #[b.1,e]) aJ h8 fun c u=>
 o ((⟨c.ptr,c.len,c.cap⟩:Sl),qc vR (b.2+1)) u)
 (R b.1 h3)) ((⟨none,0,0⟩:Sl),(0:Int)) q
theorem Lm(b:bF)(a:Sl)(c: @EC R h b a):ac vV 94 #[b,a] h R:=ar ae Tryz.func94 (al.tn (al.tn (.two (al.tn (.inn (.loop [(5,ct),(12,aY)] [(5,8),(12,31)] .n))) .n))) c
abbrev ED:FuncId:=95
def Gw(F:bF)(d:Int)(a:Sl):Prop:=
 aO vV (qL 24 F) h fun c P=>
 bf (σ:=Unit) (fun _ h3=>
 ∃Q:bF,aj h3 c 0 Q/\
 af vV 146 #[Q,(vL vT d)] bO h3 fun Y E=>
 Br (!Y)
 (R (.tuple #[(vN none),(vL vR (8:Int))]) E)
 (∃M,cellOf E (c.add 1)=some (vL vR M)/\
 aL (σ:=Sl×Int) (fun g W y=>
 Br (g.2<M)
 (∃m,cellOf y (c.add 2)=some (vL vR m)/\
 aw vV (qB 38 m m) aJ y fun B X=>
 aw vV (qt 59 1 #[(0,B)]) aJ X fun L T=>
 aw vV (qq #[59,59] 59 #[g.1,L]) aJ T fun p h8=>
 W ((⟨p.ptr,p.len,p.cap⟩:Sl),qc vR (g.2+1)) h8)
 (∃v,cellOf y c=some (vL vR v)/\
 aL (σ:=Sl×Int) (fun b Z q=>
 Br (b.2<v)
 (∃f,cellOf q (c.add 2)=some (vL vR f)/\
 ∃k,cellOf q (c.add 2)=some (vL vR k)/\
 (0<=(qc vR (b.2*f))/\(qc vR (b.2*f))<=(qc vR ((qc vR (b.2+1))*k))/\(qc vR ((qc vR (b.2+1))*k))<=(a.cap:Int))/\
 aw vV (qt 59 1 #[(0,(.slice (if a.cap=(qc vR (b.2*f)).toNat then a.ptr else a.ptr.map (·.add ((qc vR (b.2*f)).toNat*1))) ((qc vR ((qc vR (b.2+1))*k)).toNat-(qc vR (b.2*f)).toNat) (a.cap-(qc vR (b.2*f)).toNat)))]) aJ q fun J K=>
 aw vV (qq #[59,59] 59 #[b.1,J]) aJ K fun o A=>
 Z ((⟨o.ptr,o.len,o.cap⟩:Sl),qc vR (b.2+1)) A)
 (bf (σ:=Sl×Int) (fun s n=>
 Br (s.2 !=0)
 (R (.tuple #[(vN none),(vL vR (8:Int))]) n)
 (∃j:bF,aj n c 0 j/\
 aO vV (qL 211 (vQ #[j.1,j.2.1,j.2.2,(vL vT d),s.1])) n fun G D=>
 R (.tuple #[G,(vL vR (0:Int))]) D))
 (fun U=>
 ∃e:bF,aj q c 0 e/\
 ∃i:bF,aj q c 0 i/\
 af vV 148 #[] na q fun I r=>
 (aq.ok [(c,i.1),(c.add 1,i.2.1),(c.add 2,i.2.2),(c,e.1),(c.add 1,e.2.1),(c.add 2,e.2.2)] r)/\
 af vV 150 #[i] aJ r fun z w=>
 (aq.ok [(c,e.1),(c.add 1,e.2.1),(c.add 2,e.2.2)] w)/\
 af vV 149 #[e,(vL vT d),z] aJ w fun H x=>
 (aq.ok [] x)/\
 af vV 147 #[I,H,b.1] (.many [ct,aY]) x fun l t=>
 (aq.ok [] t)/\
 U ((⟨l.1.ptr,l.1.len,l.1.cap⟩:Sl),l.2) t))) ((⟨g.1.ptr,g.1.len,g.1.cap⟩:Sl),(0:Int)) y)) ((⟨none,0,0⟩:Sl),(0:Int)) E))
 (fun S=>
 ∃x2:bF,aj P c 0 x2/\
 af vV 39 #[x2] bO P fun V u=>
 Br (!V) (R (.tuple #[(vN none),(vL vR (1:Int))]) u) (∃N,cellOf u c=some (vL vR N)/\
 ∃O,cellOf u (c.add 2)=some (vL vR O)/\
 Br ((a.len:Int) !=(qc vR (N*O)))
 (R (.tuple #[(vN none),(vL vR (1:Int))]) u)
 (S () u)))
theorem Nz(c:bF)(b:Int)(a:Sl)(d: @Gw R h c b a):ac vV 95 #[c,(vL vT b),a] h R:=ar ae Tryz.func95 (al.tn (.two (.join [] [(6,8),(12,25)] .n) (al.tn (al.tn (.two (al.tn (.inn (.loop [(8,ct),(31,aY)] [(8,9),(31,40)] .n))) (.two (al.tn (.inn (.loop [(8,ct),(42,aY)] [(8,10),(42,60)] .n))) (.two (.join [(10,ct),(11,aY)] [(10,12),(60,71)] .n) .n))))))) d
abbrev NA:FuncId:=96
def EE(a:Int)(b:Int)(c:Sl):Prop:=
 bf (σ:=Unit) (fun _ M=>
 ((64:Int)≠0)/\
 af vV 151 #[(zW (qc vR ((qc vR (8*a))+b)) 64)] (.one (.sc (.cpx .f64))) M fun A I=>
 aO vV (qJ 215 true (.tuple #[])) I fun a3 h3=>
 aL (σ:=Sl×Int) (fun e z l=>
 Br (e.2<(c.len:Int))
 (∃a5,(c.ptr=some a5/\0<=e.2/\e.2<(c.len:Int))/\
 ∃f,cellOf l (a5.add (e.2.toNat*1))=some (vL vR f)/\
 bf (σ:=Bool) (fun J D=>
 Br J
 ((0<=f/\f<((64:Nat):Int))/\
 ag vV (qf 4 (a3.add (f.toNat*1)) true) D fun _ K=>
 af vV 151 #[f] (.one (.sc (.cpx .f64))) K fun B G=>
 af vV 152 #[(.complex .f64 B.1 B.2),(.complex .f64 A.1 A.2)] (.one (.sc (.flt .f64))) G fun x h8=>
 aw vV (qt 214 1 #[(0,(vQ #[f,(.float .f64 x)]))]) aJ h8 fun q L=>
 aw vV (qq #[214,214] 214 #[e.1,q]) aJ L fun j y=>
 z ((⟨j.ptr,j.len,j.cap⟩:Sl),qc vR (e.2+1)) y)
 (z ((⟨e.1.ptr,e.1.len,e.1.cap⟩:Sl),qc vR (e.2+1)) D))
 (fun v=>
 Br (f>=0) (Br (f<64) ((0<=f/\f<((64:Nat):Int))/\
 ∃E:Bool,cellOf l (a3.add (f.toNat*1))=some (vP E)/\
 v (!E) l) (v false l)) (v false l)))
 (af vV 153 #[e.1,(.func (.func 154) #[] #[])] iu l fun _ r=>
 aL (σ:=Sl×Int) (fun d H i=>
 Br (d.2<(e.1.len:Int))
 (∃m,(e.1.ptr=some m/\0<=d.2/\d.2<(e.1.len:Int))/\
 ∃g:Int×Nat,aj i (m.add (d.2.toNat*2)) 0 [g.1,(.float .f64 g.2)]/\
 aO vV (qJ 219 true (.tuple #[])) i fun p t=>
 ag vV (qf 219 p (vQ #[g.1,(.float .f64 g.2)])) t fun _ o=>
 ∃n,cellOf o p=some (vL vR n)/\
 aw vV (qt 22 1 #[(0,n)]) aJ o fun w s=>
 aw vV (qq #[22,22] 22 #[d.1,w]) aJ s fun k u=>
 H ((⟨k.ptr,k.len,k.cap⟩:Sl),qc vR (d.2+1)) u)
 (R d.1 i)) ((⟨none,0,0⟩:Sl),(0:Int)) r)) ((⟨none,0,0⟩:Sl),(0:Int)) h3)
 (fun F=>
 Br (a<0) (R (vM none 0 0) h) (Br (a>16777215) (R (vM none 0 0) h) (Br (b<0) (R (vM none 0 0) h) (Br (b>=8)
 (R (vM none 0 0) h)
 (F () h)))))
theorem Ln(a:Int)(b:Int)(c:Sl)(d: @EE R h a b c):ac vV 96 #[a,b,c] h R:=ar ae Tryz.func96 (al.tn (.two (.join [] [(6,7),(15,29)] .n) (al.tn (al.tn (al.tn (.two (al.tn (.inn (.loop [(8,ct),(37,aY)] [(8,9),(11,12),(37,65)] (al.tn (al.tn (.two (.inn (al.tn (.two (.join [(52,ms)] [(41,53)] .n) .n))) .n)))))) (al.tn (al.tn (.two (al.tn (.inn (.loop [(12,ct),(69,aY)] [(12,13),(14,15),(69,79)] .n))) .n))))))))) d
abbrev nM:FuncId:=97
def oF(d:Option Addr)(b:Int):Prop:=
 bf (σ:=Unit) (fun _ x=>
 ∃w,(d=some w)/\
 ∃x3,cellOf x (w.add 2)=some (vL vR x3)/\
 aw vV (qB 38 x3 x3) aJ x fun v4 r=>
 ∃a5,(d=some a5)/\
 ∃t:bF,aj r a5 0 t/\
 ∃u,(d=some u)/\
 ∃v,cellOf r (u.add 3)=some (vL vT v)/\
 af vV 131 #[t,(vL vT v),b] aJ r fun s h3=>
 (aq.ok [] h3)/\
 aL (σ:=Int) (fun c z k=>
 Br (c<(s.len:Int))
 (∃n,(s.ptr=some n/\0<=c/\c<(s.len:Int))/\
 ∃f,cellOf k (n.add (c.toNat*1))=some (vL vR f)/\
 ∃l,(d=some l)/\
 ∃g:Sl,cellOf k (l.add 4)=some (g:Value)/\
 ∃j,(g.ptr=some j/\0<=f/\f<(g.len:Int))/\
 ∃e:Sl,cellOf k (j.add (f.toNat*1))=some (e:Value)/\
 aL (σ:=Int) (fun a B q=>
 Br (a<(e.len:Int))
 (∃m,(e.ptr=some m/\0<=a/\a<(e.len:Int))/\
 ∃i,cellOf q (m.add (a.toNat*1))=some (vL vS i)/\
 ∃o,(v4.ptr=some o/\0<=a/\a<(v4.len:Int))/\
 ∃p,cellOf q (o.add (a.toNat*1))=some (vL vS p)/\
 ∃a22,(v4.ptr=some a22/\0<=a/\a<(v4.len:Int))/\
 ag vV (qf 5 (a22.add (a.toNat*1)) (vL vS (qc vS ((qA (qk vS) p^^^(qA (qk vS) i)).toNat:Nat)))) q fun _ A=>
 B (qc vR (a+1)) A)
 (z (qc vR (c+1)) q)) (0:Int) k)
 (R v4 k)) (0:Int) h3)
 (fun y=>
 Br (zg d) (R (vM none 0 0) h) (Br (b<0) (R (vM none 0 0) h) (Br (b>65535)
 (R (vM none 0 0) h)
 (y () h))))
theorem xX(b:Option Addr)(a:Int)(c: @oF R h b a):ac vV 97 #[b,a] h R:=ar ae Tryz.func97 (al.tn (.two (.join [] [(4,5),(10,20)] .n) (al.tn (.two (al.tn (.inn (.loop [(37,aY)] [(7,10),(37,63)] (al.tn (al.tn (.two (.inn (al.tn (al.tn (.inn (.loop [(49,aY)] [(8,10),(49,62)] .n))))) .n)))))) .n)))) c
abbrev UP:FuncId:=98
def Lo(a:Sl)(b:Int):Prop:=
 bf (σ:=Unit) (fun _ c=>
 ((a.len:Int)≠0)/\
 ∃d,(a.ptr=some d/\0<=(zW b (a.len:Int))/\(zW b (a.len:Int))<(a.len:Int))/\
 ∃x3:Int,cellOf c (d.add ((zW b (a.len:Int)).toNat*1))=some (vL vR x3)/\
 R x3 c)
 (fun e=>
 Br ((a.len:Int)==0) (R (vL vR (-1:Int)) h) (Br (b<0)
 (R (vL vR (-1:Int)) h)
 (e () h)))
theorem Sx(a:Sl)(b:Int)(c: @Lo R h a b):ac vV 98 #[a,b] h R:=ar ae Tryz.func98 (al.tn (.two (.join [] [(4,12)] .n) .n)) c
abbrev Qc:FuncId:=99
def Gx(j:ey):Prop:=
 aO vV (qL 134 j) h fun a v=>
 ∃x2:ey,aj v a 0 x2/\
 af vV 158 #[x2] bO v fun w i=>
 Br (!w)
 (R (vM none 0 0) i)
 (∃u,cellOf i a=some (vL vR u)/\
 af vV 159 #[(vM none 0 0),u,(vL vR (3:Int))] aJ i fun A h3=>
 ∃q,cellOf h3 (a.add 1)=some (vL vR q)/\
 af vV 159 #[A,q,(vL vR (1:Int))] aJ h3 fun B s=>
 ∃t,cellOf s (a.add 2)=some (vL vR t)/\
 af vV 159 #[B,t,(vL vR (2:Int))] aJ s fun z g=>
 ∃b,cellOf g (a.add 3)=some (vL vR b)/\
 ∃c,cellOf g ((a.add 3).add 1)=some (vL vR c)/\
 ∃f,cellOf g ((a.add 3).add 2)=some (vL vR f)/\
 aw vV (qt 38 3 #[(0,(vL vS (qc vS b))),(1,(vL vS (qc vS c))),(2,(vL vS (qc vS f)))]) aJ g fun o x=>
 aw vV (qq #[38,38] 38 #[z,o]) aJ x fun p r=>
 ∃e,cellOf r (a.add 6)=some (vL vT e)/\
 af vV 159 #[p,(qc vR e),(vL vR (4:Int))] aJ r fun k h8=>
 ∃d:Sl,cellOf h8 (a.add 7)=some (d:Value)/\
 aw vV (qq #[38,38] 38 #[k,d]) aJ h8 fun l y=>
 af vV 142 #[(vL vR (1:Int)),l] aJ y fun m n=>
 R m n)
theorem NB(a:ey)(b: @Gx R h a):ac vV 99 #[a] h R:=ar ae Tryz.func99 .n b
abbrev lK:FuncId:=100
def hJ(b:Sl)(a:FuncId×Array Value×Array Value):Prop:=
 af vV 161 #[(vL vU (qc vU (b.len:Int)))] bs h fun d c=>
 af vV 160 #[b,(vL vR (0:Int)),(vL vR (b.len:Int)),d,(.func (.func a.1) a.2.1 a.2.2)] iu c fun _ e=>
 R (.tuple #[]) e
theorem lr(b:Sl)(a:FuncId×Array Value×Array Value)(c: @hJ R h b a):ac vV 100 #[b,(.func (.func a.1) a.2.1 a.2.2)] h R:=ar ae Tryz.func100 .n c
abbrev gv:FuncId:=101
def Cn(c:iD)(b:iD):Prop:=
 aO vV (qL 96 c) h fun g e=>
 aO vV (qL 96 b) e fun i a=>
 ∃x3:ByteArray,cellOf a g=some (vO x3)/\
 ∃d:ByteArray,cellOf a i=some (vO d)/\
 af vV 102 #[x3,d] bs a fun f h3=>
 R f h3
theorem JJ(b:iD)(a:iD)(c: @Cn R h b a):ac vV 101 #[b,a] h R:=ar ae Tryz.func101 .n c
abbrev Co:FuncId:=102
def px(a:ByteArray)(b:ByteArray):Prop:=
 af vV 162 #[a] bO h fun f e=>
 af vV 162 #[b] bO e fun d c=>
 Br f
 (Br d
 (R (vL vR (0:Int)) c)
 (R (vL vR (-1:Int)) c))
 (Br d
 (R (vL vR (1:Int)) c)
 (Br (Op.bytesLess a.toList b.toList)
 (R (vL vR (-1:Int)) c)
 (Br (!(Op.bytesLess a.toList b.toList||a.toList==b.toList))
 (R (vL vR (1:Int)) c)
 (R (vL vR (0:Int)) c))))
theorem Bn(a:ByteArray)(b:ByteArray)(c: @px R h a b):ac vV 102 #[a,b] h R:=ar ae Tryz.func102 .n c
abbrev jK:FuncId:=103
def gI(b:Sl)(a:FuncId×Array Value×Array Value):Prop:=
 af vV 163 #[b,(.func (.func a.1) a.2.1 a.2.2)] bs h fun d c=>
 R (decide (d>=0)) c
theorem jv(b:Sl)(a:FuncId×Array Value×Array Value)(c: @gI R h b a):ac vV 103 #[b,(.func (.func a.1) a.2.1 a.2.2)] h R:=ar ae Tryz.func103 .n c
abbrev Cp:FuncId:=104
def py(b:Int)(a:Addr)(d:Addr):Prop:=
 ∃f:Option Addr,cellOf h a=some (.pointer f)/\
 ∃i,(f=some i)/\
 (0<=b/\b<((64:Nat):Int))/\
 ∃x3:Option Addr,cellOf h ((i.add 10).add (b.toNat*1))=some (.pointer x3)/\
 ∃g:Option Addr,cellOf h a=some (.pointer g)/\
 ∃a5,(g=some a5)/\
 ∃c:cz,aj h a5 0 c/\
 ∃e:FuncId×Array Value×Array Value,cellOf h d=some (.func (.func e.1) e.2.1 e.2.2)/\
 ig C e.1 (e.2.1.toList++[(vL vR b)]++e.2.2.toList) bs h fun l j=>
 (aq.ok [(a5,c.1),(a5.add 1,c.2.1),(a5.add 2,c.2.2.1),(a5.add 3,c.2.2.2.1),(a5.add 4,c.2.2.2.2.1),(a5.add 5,c.2.2.2.2.2.1),(a5.add 6,c.2.2.2.2.2.2.1),(a5.add 7,c.2.2.2.2.2.2.2),(a,g),((i.add 10).add (b.toNat*1),x3),(a,f)] j)/\
 af vV 105 #[x3,c,l] bO j fun m k=>
 (aq.ok [(a,g),(a,f)] k)/\
 R (vP (!m)) k
theorem Bo(c:Int)(a:Addr)(b:Addr)(d: @py R h c a b):ac vV 104 #[c,a,b] h R:=ar ae Tryz.func104 .n d
abbrev Gy:FuncId:=105
def Bp(a:Option Addr)(d:cz)(b:Int):Prop:=
 aO vV (qL 47 d) h fun k g=>
 bf (σ:=Unit) (fun _ h3=>
 af vV 165 #[a] bs h3 fun o l=>
 af vV 164 #[a,o,b] bO l fun q c=>
 Br q (R true c) (∃e:cz,aj c k 0 e/\
 af vV 108 #[a,e] aJ c fun r m=>
 af vV 164 #[a,(vL vR (r.len:Int)),b] bO m fun n j=>
 R n j))
 (fun i=>
 Br (zg a) (R false g) (af vV 54 #[a] bO g fun p f=>
 Br p
 (R false f)
 (i () f)))
theorem EF(c:Option Addr)(b:cz)(a:Int)(d: @Bp R h c b a):ac vV 105 #[c,b,a] h R:=ar ae Tryz.func105 (al.tn (.two (.join [] [(6,13)] .n) .n)) d
abbrev Gz:FuncId:=106
def Bq(a:Option Addr)(e:cz)(b:Int):Prop:=
 aO vV (qL 47 e) h fun i n=>
 bf (σ:=Unit) (fun _ f=>
 ∃g:cz,aj f i 0 g/\
 af vV 108 #[a,g] aJ f fun d h8=>
 af vV 59 #[a,d] bs h8 fun c t=>
 R c t)
 (fun p=>
 bf (σ:=Bool) (fun o h3=>
 Br o
 (R (vL vR (5:Int)) h3)
 (∃m:cz,aj h3 i 0 m/\
 af vV 105 #[a,m,b] bO h3 fun u j=>
 Br (!u)
 (R (vL vR (7:Int)) j)
 (af vV 165 #[a] bs j fun w s=>
 af vV 164 #[a,w,b] bO s fun v l=>
 Br v
 (R (vL vR (0:Int)) l)
 (p () l))))
 (fun k=>
 Br (zg a) (k true n) (af vV 54 #[a] bO n fun r q=>
 k r q)))
theorem EG(c:Option Addr)(b:cz)(a:Int)(d: @Bq R h c b a):ac vV 106 #[c,b,a] h R:=ar ae Tryz.func106 (al.tn (.two (.join [] [(6,26)] (.inn (.two (.join [(7,ms)] [(7,14)] .n) .n))) .n)) d
abbrev Sy:FuncId:=108
def IU(c:Option Addr)(d:cz):Prop:=
 aO vV (qL 47 d) h fun a b=>
 ∃x2:cz,aj b a 0 x2/\
 ∃x3:cz,aj b a 0 x3/\
 af vV 41 #[x2] aJ b fun j e=>
 (aq.ok [(a,x3.1),(a.add 1,x3.2.1),(a.add 2,x3.2.2.1),(a.add 3,x3.2.2.2.1),(a.add 4,x3.2.2.2.2.1),(a.add 5,x3.2.2.2.2.2.1),(a.add 6,x3.2.2.2.2.2.2.1),(a.add 7,x3.2.2.2.2.2.2.2)] e)/\
 af vV 110 #[c,x3] aJ e fun i h3=>
 (aq.ok [] h3)/\
 aw vV (qq #[59,59] 59 #[j,i]) aJ h3 fun g f=>
 (aq.ok [] f)/\
 R g f
theorem Qd(b:Option Addr)(a:cz)(c: @IU R h b a):ac vV 108 #[b,a] h R:=ar ae Tryz.func108 .n c
abbrev Fo:FuncId:=109
def sS(a:Option Addr):Prop:=
 Br (zg a)
 (R (vL vR (0:Int)) h)
 (∃b,(a=some b)/\
 ∃x2,cellOf h (b.add 1)=some (vL vR x2)/\
 R x2 h)
theorem DP(a:Option Addr)(b: @sS R h a):ac vV 109 #[a] h R:=ar ae Tryz.func109 .n b
abbrev Qe:FuncId:=110
def GA(c:Option Addr)(e:cz):Prop:=
 aO vV (qL 47 e) h fun p l=>
 ∃x2:cz,aj l p 0 x2/\
 af vV 80 #[c,x2] aJ l fun d o=>
 aL (σ:=Sl×Int) (fun b m h3=>
 Br (b.2<(d.len:Int))
 (∃a5,(d.ptr=some a5/\0<=b.2/\b.2<(d.len:Int))/\
 ∃g:ey,aj h3 (a5.add (b.2.toNat*8)) 0 g/\
 aO vV (qJ 134 true (.tuple #[])) h3 fun i q=>
 ag vV (qf 134 i g) q fun _ k=>
 ∃j:ey,aj k i 0 j/\
 af vV 99 #[j] aJ k fun s r=>
 aw vV (qt 59 1 #[(0,s)]) aJ r fun f n=>
 aw vV (qq #[59,59] 59 #[b.1,f]) aJ n fun a h8=>
 m ((⟨a.ptr,a.len,a.cap⟩:Sl),qc vR (b.2+1)) h8)
 (R b.1 h3)) ((⟨none,0,0⟩:Sl),(0:Int)) o
theorem NC(b:Option Addr)(a:cz)(c: @GA R h b a):ac vV 110 #[b,a] h R:=ar ae Tryz.func110 (al.tn (al.tn (.two (al.tn (.inn (.loop [(5,ct),(12,aY)] [(5,6),(7,8),(12,22)] .n))) .n))) c
abbrev Fp:FuncId:=111
def sT(a:Option Addr):Prop:=
 ∃b,(a=some b)/\
 ag vV (qf 59 (b.add 4) (vM none 0 0)) h fun _ d=>
 ∃c,(a=some c)/\
 ag vV (qf 4 (c.add 5) false) d fun _ e=>
 R (vL vR (0:Int)) e
theorem DQ(a:Option Addr)(b: @sT R h a):ac vV 111 #[a] h R:=ar ae Tryz.func111 .n b
abbrev mQ:FuncId:=112
def iF(a:Sl):Prop:=
 Br (zg a.ptr)
 (R (vM none 0 0) h)
 (aw vV (qt 45 0 #[]) aJ h fun c d=>
 aw vV (qq #[45,45] 45 #[c,a]) aJ d fun b e=>
 R b e)
theorem my(a:Sl)(b: @iF R h a):ac vV 112 #[a] h R:=ar ae Tryz.func112 .n b
abbrev ND:FuncId:=113
def EH(c:Int)(a:Int)(b:Int):Prop:=
 Br (c>=a) (R (decide (c<=b)) h) (R false h)
theorem Lp(c:Int)(a:Int)(b:Int)(d: @EH R h c a b):ac vV 113 #[c,a,b] h R:=ar ae Tryz.func113 .n d
abbrev Sz:FuncId:=114
def IV(a:Sl)(c:Int):Prop:=
 aL (σ:=Int) (fun b i e=>
 Br (b<(a.len:Int))
 (∃g,(a.ptr=some g/\0<=b/\b<(a.len:Int))/\
 ∃x3,cellOf e (g.add (b.toNat*1))=some (vL vR x3)/\
 af vV 113 #[x3,(vL vR (0:Int)),c] bO e fun j d=>
 Br (!j) (R false d) (Br (b>0) (∃a5,(a.ptr=some a5/\0<=(qc vR (b-1))/\(qc vR (b-1))<(a.len:Int))/\
 ∃f:Int,cellOf d (a5.add ((qc vR (b-1)).toNat*1))=some (vL vR f)/\
 Br (f>=x3)
 (R false d)
 (i (qc vR (b+1)) d)) (i (qc vR (b+1)) d)))
 (R true e)) (0:Int) h
theorem Qf(b:Sl)(a:Int)(c: @IV R h b a):ac vV 114 #[b,a] h R:=ar ae Tryz.func114 (al.tn (.two (al.tn (.inn (.loop [(9,aY)] [(4,7),(9,32)] .n))) .n)) c
end
end Go.Proofs.YtdhamoojccmbdaaGreatDoor
