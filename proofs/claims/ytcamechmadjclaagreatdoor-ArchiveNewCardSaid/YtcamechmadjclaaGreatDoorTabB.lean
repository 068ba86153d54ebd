/- Part of the proofs that the laws of this seat answer true whatever the input reads, and leave it as it was; no condition. -/
import Derived.Test.YtcamechmadjclaaGreatDoorTabA
set_option linter.unusedVariables false
set_option linter.unusedSimpArgs false
open Go.Proofs.Tryz renaming prog -> wS
open Go.Instr renaming alloc -> qC, box -> qA, buildSlice -> qg, makeSlice -> wc, storeAt -> qb
open Option renaming isNone -> qo
open Go.Value renaming agg -> wN, bool -> wM, int -> wI, pointer -> wK, slice -> wJ, string -> wL
open Go.IntKind renaming bits -> ql, i64 -> wO, u32 -> wQ, u8 -> wP, wrap -> qa
open Go.Builtin renaming append_ -> qh, copy_ -> zd
open Int renaming fdiv -> qI, tdiv -> wC
open BitVec renaming ofInt -> qq
set_option maxRecDepth 1000000
namespace Go.Proofs.YtcamechmadjclaaGreatDoor
noncomputable section
open Go Go.Vc Go.Proofs
variable {R:Value->Heap->Prop} {h:Heap}
abbrev jz:FuncId:=41
def eZ(c:Option Addr):Prop:=
 aJ wS (qC 74 true (.tuple #[])) h fun d e=>
 Br (qo c)
 (ab wS (qb 74 d (wN #[(wI wO (0:Int)),(wI wO (0:Int)),(wI wO (0:Int)),(wI wO (0:Int)),(wI wO (0:Int)),(wI wO (0:Int)),(wJ none 0 0),(wJ none 0 0)])) e fun _ g=>
 ∃a:bI,ap g d 0 a/\
 R a g)
 (∃a3,(c=some a3)/\
 ∃f:bI,ap e a3 0 f/\
 ag wS 91 #[f] (.one (.agg [(.int .i64),(.int .i64),(.int .i64),(.int .i64),(.int .i64),(.int .i64),.slc,.slc])) e fun k j=>
 ab wS (qb 74 d k) j fun _ i=>
 ∃b:bI,ap i d 0 b/\
 R b i)
theorem jf(a:Option Addr)(b: @eZ R h a):ac wS 41 #[a] h R:=av ae Tryz.func41 .n b
abbrev iq:FuncId:=42
def ek(a:Sl)(c:Sl):Prop:=
 Br ((a.len:Int) !=(c.len:Int))
 (R false h)
 (aM (σ:=Int) (fun b g d=>
 Br (b<(a.len:Int))
 (∃f,(a.ptr=some f/\0<=b/\b<(a.len:Int))/\
 ∃x3,cellOf d (f.add (b.toNat*1))=some (wI wO x3)/\
 ∃a4,(c.ptr=some a4/\0<=b/\b<(c.len:Int))/\
 ∃e,cellOf d (a4.add (b.toNat*1))=some (wI wO e)/\
 Br (x3 !=e)
 (R false d)
 (g (qa wO (b+1)) d))
 (R true d)) (0:Int) h)
theorem hO(b:Sl)(a:Sl)(c: @ek R h b a):ac wS 42 #[b,a] h R:=av ae Tryz.func42 (ak.tn (ak.tn (.two (ak.tn (.inn (.loop [(13,be)] [(4,6),(13,26)] .n))) .n))) c
abbrev lE:FuncId:=43
def hR(a:Option Addr):Prop:=
 Br (qo a)
 (R (wJ none 0 0) h)
 (∃b,(a=some b)/\
 ∃x2:Sl,cellOf h (b.add 6)=some (x2:Value)/\
 ag wS 92 #[(.func (.func 29) #[a] #[]),x2] aH h fun c d=>
 R c d)
theorem kR(a:Option Addr)(b: @hR R h a):ac wS 43 #[a] h R:=av ae Tryz.func43 .n b
abbrev fY:FuncId:=44
def dz(a:Option Addr):Prop:=
 ∃b,(a=some b)/\
 ∃x2:Sl,cellOf h (b.add 6)=some (x2:Value)/\
 ag wS 93 #[a,x2] aH h fun c d=>
 R c d
theorem fM(a:Option Addr)(b: @dz R h a):ac wS 44 #[a] h R:=av ae Tryz.func44 .n b
abbrev lF:FuncId:=45
def hU(a:Option Addr):Prop:=
 Br (!(qo a)) (∃g,(a=some g)/\
 ∃x2:Option Addr,cellOf h (g.add 8)=some (.pointer x2)/\
 ag wS 48 #[x2] bJ h fun i b=>
 (an.ok [] b)/\
 Br (!i) ((an.ok [] b)/\
 R true b) (∃a4,(a=some a4)/\
 ∃e:Option Addr,cellOf b (a4.add 8)=some (.pointer e)/\
 ∃d,(a=some d)/\
 ∃c,cellOf b (d.add 9)=some (wI wO c)/\
 ag wS 32 #[e] cb b fun j f=>
 (an.ok [(d.add 9,c)] f)/\
 R (wM (j !=c)) f)) ((an.ok [] h)/\
 (an.ok [] h)/\
 R false h)
theorem kS(a:Option Addr)(b: @hU R h a):ac wS 45 #[a] h R:=av ae Tryz.func45 .n b
abbrev fZ:FuncId:=46
def dA(a:Option Addr):Prop:=
 ∃g,(a=some g)/\
 ∃x2:Option Addr,cellOf h (g.add 8)=some (.pointer x2)/\
 ∃a3,(x2=some a3)/\
 ∃c:Bool,cellOf h a3=some (wM c)/\
 Br c (R true h) (∃a5,(a=some a5)/\
 ∃f:Option Addr,cellOf h (a5.add 8)=some (.pointer f)/\
 ∃e,(f=some e)/\
 ∃d,cellOf h (e.add 3)=some (wI wO d)/\
 ∃a9,(a=some a9)/\
 ∃b,cellOf h (a9.add 9)=some (wI wO b)/\
 R (wM (d !=b)) h)
theorem fN(a:Option Addr)(b: @dA R h a):ac wS 46 #[a] h R:=av ae Tryz.func46 .n b
abbrev kT:FuncId:=47
def gi(a:Option Addr):Prop:=
 Br (qo a)
 (R (wK none) h)
 (∃b,(a=some b)/\
 ∃x2:Option Addr,cellOf h (b.add 8)=some (.pointer x2)/\
 R x2 h)
theorem kA(a:Option Addr)(b: @gi R h a):ac wS 47 #[a] h R:=av ae Tryz.func47 .n b
abbrev mT:FuncId:=48
def jg(a:Option Addr):Prop:=
 Br (!(qo a)) (∃b,(a=some b)/\
 ∃x2:Bool,cellOf h b=some (wM x2)/\
 R (wM (!x2)) h) (R false h)
theorem mo(a:Option Addr)(b: @jg R h a):ac wS 48 #[a] h R:=av ae Tryz.func48 .n b
abbrev hY:FuncId:=49
def dX(a:Sl)(c:Sl):Prop:=
 Br ((a.len:Int) !=(c.len:Int))
 (R false h)
 (aM (σ:=Int) (fun b g d=>
 Br (b<(a.len:Int))
 (∃f,(a.ptr=some f/\0<=b/\b<(a.len:Int))/\
 ∃x3,cellOf d (f.add (b.toNat*1))=some (wI wP x3)/\
 ∃a4,(c.ptr=some a4/\0<=b/\b<(c.len:Int))/\
 ∃e,cellOf d (a4.add (b.toNat*1))=some (wI wP e)/\
 Br (x3 !=e)
 (R false d)
 (g (qa wO (b+1)) d))
 (R true d)) (0:Int) h)
theorem gz(b:Sl)(a:Sl)(c: @dX R h b a):ac wS 49 #[b,a] h R:=av ae Tryz.func49 (ak.tn (ak.tn (.two (ak.tn (.inn (.loop [(13,be)] [(4,6),(13,26)] .n))) .n))) c
abbrev lG:FuncId:=50
def hZ(b:Option Addr)(a:Int):Prop:=
 aP (σ:=Unit) (fun _ d=>
 ∃a4,(b=some a4)/\
 ∃c:Sl,cellOf d (a4.add 2)=some (c:Value)/\
 ∃f,(c.ptr=some f/\0<=a/\a<(c.len:Int))/\
 ∃e:Sl,cellOf d (f.add (a.toNat*1))=some (e:Value)/\
 ag wS 94 #[e] aH d fun k j=>
 R k j)
 (fun i=>
 Br (qo b) (R (wJ none 0 0) h) (Br (a<0) (R (wJ none 0 0) h) (∃g,(b=some g)/\
 ∃x2:Sl,cellOf h (g.add 2)=some (x2:Value)/\
 Br (a>=(x2.len:Int))
 (R (wJ none 0 0) h)
 (i () h))))
theorem kU(b:Option Addr)(a:Int)(c: @hZ R h b a):ac wS 50 #[b,a] h R:=av ae Tryz.func50 (ak.tn (.two (.join [] [(4,20)] .n) .n)) c
abbrev mq:FuncId:=51
def iz(a:Option Addr):Prop:=
 Br (qo a)
 (R (wI wO (0:Int)) h)
 (∃b,(a=some b)/\
 ∃x2:Sl,cellOf h (b.add 2)=some (x2:Value)/\
 R (wI wO (x2.len:Int)) h)
theorem lH(a:Option Addr)(b: @iz R h a):ac wS 51 #[a] h R:=av ae Tryz.func51 .n b
abbrev gA:FuncId:=52
def dL(b:Int)(c:Int)(e:Sl)(a:Bool)(d:Option Addr):Prop:=
 ∃i,(d=some i)/\
 ∃x2,cellOf h i=some (wI wO x2)/\
 Br (b==x2) (∃a3,(d=some a3)/\
 ∃f,cellOf h (a3.add 3)=some (wI wO f)/\
 Br (c==f) (∃a5,(d=some a5)/\
 ∃k:Bool,cellOf h (a5.add 6)=some (wM k)/\
 Br (a==k) (∃j,(d=some j)/\
 ∃g:Sl,cellOf h (j.add 2)=some (g:Value)/\
 ag wS 95 #[e,g] bJ h fun l m=>
 R l m) (R false h)) (R false h)) (R false h)
theorem ga(b:Int)(c:Int)(d:Sl)(a:Bool)(e:Option Addr)(f: @dL R h b c d a e):ac wS 52 #[b,c,d,a,e] h R:=av ae Tryz.func52 .n f
abbrev lI:FuncId:=53
def ia(a:Option Addr):Prop:=
 Br (qo a)
 (R (wI wO (0:Int)) h)
 (∃b,(a=some b)/\
 ∃x2,cellOf h (b.add 1)=some (wI wO x2)/\
 R x2 h)
theorem kV(a:Option Addr)(b: @ia R h a):ac wS 53 #[a] h R:=av ae Tryz.func53 .n b
abbrev ka:FuncId:=54
def fw(a:Option Addr):Prop:=
 Br (qo a)
 (R (wI wO (0:Int)) h)
 (∃b,(a=some b)/\
 ∃x2,cellOf h (b.add 3)=some (wI wO x2)/\
 R x2 h)
theorem jA(a:Option Addr)(b: @fw R h a):ac wS 54 #[a] h R:=av ae Tryz.func54 .n b
abbrev mr:FuncId:=55
def iA(a:Option Addr):Prop:=
 Br (qo a)
 (R (wJ none 0 0) h)
 (∃b,(a=some b)/\
 ∃x2:Sl,cellOf h (b.add 2)=some (x2:Value)/\
 ag wS 96 #[x2] aH h fun c d=>
 R c d)
theorem lJ(a:Option Addr)(b: @iA R h a):ac wS 55 #[a] h R:=av ae Tryz.func55 .n b
abbrev lK:FuncId:=56
def ib(a:Option Addr):Prop:=
 Br (!(qo a)) (∃b,(a=some b)/\
 ∃x2:Bool,cellOf h (b.add 6)=some (wM x2)/\
 R x2 h) (R false h)
theorem kW(a:Option Addr)(b: @ib R h a):ac wS 56 #[a] h R:=av ae Tryz.func56 .n b
abbrev lL:FuncId:=60
def ic(c:Option Addr):Prop:=
 ag wS 106 #[c] bJ h fun r d=>
 Br r
 (R (wJ none 0 0) d)
 (∃j,(c=some j)/\
 ∃x3:Sl,cellOf d (j.add 7)=some (x3:Value)/\
 aM (σ:=Sl×Int) (fun b n f=>
 Br (b.2<(x3.len:Int))
 (∃a5,(x3.ptr=some a5/\0<=b.2/\b.2<(x3.len:Int))/\
 ∃g:kv,ap f (a5.add (b.2.toNat*4)) 0 g/\
 aJ wS (qC 137 true (.tuple #[])) f fun i q=>
 ab wS (qb 137 i g) q fun _ l=>
 ∃k:ByteArray,cellOf l i=some (wL k)/\
 ag wS 114 #[k] (.one yr) l fun p o=>
 ar wS (qg 37 1 #[(0,p)]) aH o fun e s=>
 ar wS (qh #[37,37] 37 #[b.1,e]) aH s fun a m=>
 n ((⟨a.ptr,a.len,a.cap⟩:Sl),qa wO (b.2+1)) m)
 (R b.1 f)) ((⟨none,0,0⟩:Sl),(0:Int)) d)
theorem kX(a:Option Addr)(b: @ic R h a):ac wS 60 #[a] h R:=av ae Tryz.func60 (ak.tn (ak.tn (ak.tn (.two (ak.tn (.inn (.loop [(3,cz),(14,be)] [(3,4),(5,6),(14,25)] .n))) .n)))) b
abbrev kd:FuncId:=66
abbrev sj:FuncId:=84
def ng(a2:bI):Prop:=
 aJ wS (qA 74 a2) h fun e h1=>
 ∃x2:bI,ap h1 e 0 x2/\
 ag wS 120 #[x2] bJ h1 fun r3 S=>
 Br (!r3)
 (R (wJ none 0 0) S)
 (aP (σ:=Sl) (fun s8 w=>
 ∃x9,cellOf w (e.add 2)=some (wI wO x9)/\
 ∃D,cellOf w ((e.add 2).add 1)=some (wI wO D)/\
 ∃M,cellOf w ((e.add 2).add 2)=some (wI wO M)/\
 ∃N,cellOf w (e.add 5)=some (wI wO N)/\
 ∃x:Sl,cellOf w (e.add 6)=some (x:Value)/\
 ar wS (qg 36 5 #[(0,(wI wP (qa wP x9))),(1,(wI wP (qa wP D))),(2,(wI wP (qa wP M))),(3,(wI wP (qa wP N))),(4,(wI wP (qa wP (x.len:Int))))]) aH w fun ad h6=>
 ar wS (qh #[36,36] 36 #[s8,ad]) aH h6 fun s h7=>
 ∃g:Sl,cellOf h7 (e.add 6)=some (g:Value)/\
 aM (σ:=Sl×Int) (fun d K2 h8=>
 Br (d.2<(g.len:Int))
 (∃G,(g.ptr=some G/\0<=d.2/\d.2<(g.len:Int))/\
 ∃F,cellOf h8 (G.add (d.2.toNat*1))=some (wI wO F)/\
 ar wS (qg 36 1 #[(0,(wI wP (qa wP F)))]) aH h8 fun T h9=>
 ar wS (qh #[36,36] 36 #[d.1,T]) aH h9 fun p a3=>
 K2 ((⟨p.ptr,p.len,p.cap⟩:Sl),qa wO (d.2+1)) a3)
 (∃A:Sl,cellOf h8 (e.add 7)=some (A:Value)/\
 ar wS (qg 36 1 #[(0,(wI wP (qa wP (A.len:Int))))]) aH h8 fun a6 W=>
 ar wS (qh #[36,36] 36 #[d.1,a6]) aH W fun m K=>
 ∃j:Sl,cellOf K (e.add 7)=some (j:Value)/\
 aM (σ:=Sl×Int) (fun c K3 t=>
 Br (c.2<(j.len:Int))
 (∃H,(j.ptr=some H/\0<=c.2/\c.2<(j.len:Int))/\
 ∃P:kv,ap t (H.add (c.2.toNat*4)) 0 P/\
 aJ wS (qC 137 true (.tuple #[])) t fun a U=>
 ab wS (qb 137 a P) U fun _ u=>
 aP (σ:=Sl) (fun X r=>
 aP (σ:=Sl) (fun v y=>
 ∃i:Sl,cellOf y (a.add 3)=some (i:Value)/\
 aM (σ:=Sl×Int) (fun b K6 l=>
 Br (b.2<(i.len:Int))
 (∃J,(i.ptr=some J/\0<=b.2/\b.2<(i.len:Int))/\
 ∃O,cellOf l (J.add (b.2.toNat*1))=some (wI wO O)/\
 ar wS (qg 36 1 #[(0,(wI wP (qa wP O)))]) aH l fun a5 a4=>
 ar wS (qh #[36,36] 36 #[b.1,a5]) aH a4 fun v46 Z=>
 K6 ((⟨v46.ptr,v46.len,v46.cap⟩:Sl),qa wO (b.2+1)) Z)
 (K3 ((⟨b.1.ptr,b.1.len,b.1.cap⟩:Sl),qa wO (c.2+1)) l)) ((⟨v.ptr,v.len,v.cap⟩:Sl),(0:Int)) y)
 (fun K5=>
 ∃Q,cellOf r (a.add 1)=some (wI wO Q)/\
 ∃o,cellOf r (a.add 2)=some (wI wO o)/\
 ag wS 141 #[X,Q,(wI wO (3:Int))] aH r fun V B=>
 (an.ok [(a.add 2,o)] B)/\
 ag wS 141 #[V,o,(wI wO (2:Int))] aH B fun n I=>
 (an.ok [] I)/\
 K5 (⟨n.ptr,n.len,n.cap⟩:Sl) I))
 (fun K4=>
 ∃f:ByteArray,cellOf u a=some (wL f)/\
 ∃k:ByteArray,cellOf u a=some (wL k)/\
 ar wS (qg 36 1 #[(0,(wI wP (qa wP (f.size:Int))))]) aH u fun a7 E=>
 (an.ok [(a,k),(a,f)] E)/\
 ar wS (qh #[36,36] 36 #[c.1,a7]) aH E fun a0 L=>
 (an.ok [(a,k),(a,f)] L)/\
 ar wS (qh #[36,9] 36 #[a0,k]) aH L fun q z=>
 (an.ok [(a,f)] z)/\
 K4 (⟨q.ptr,q.len,q.cap⟩:Sl) z))
 (R c.1 t)) ((⟨m.ptr,m.len,m.cap⟩:Sl),(0:Int)) K)) ((⟨s.ptr,s.len,s.cap⟩:Sl),(0:Int)) h7)
 (fun K1=>
 ∃x4,cellOf S e=some (wI wO x4)/\
 ∃Y,cellOf S (e.add 1)=some (wI wO Y)/\
 ag wS 141 #[(wJ none 0 0),x4,(wI wO (4:Int))] aH S fun r6 h3=>
 (an.ok [(e.add 1,Y)] h3)/\
 ag wS 141 #[r6,Y,(wI wO (4:Int))] aH h3 fun r7 h4=>
 (an.ok [] h4)/\
 K1 (⟨r7.ptr,r7.len,r7.cap⟩:Sl) h4))
theorem pV(a:bI)(b: @ng R h a):ac wS 84 #[a] h R:=av ae Tryz.func84 (ak.tn (ak.tn (.two (.join [(3,cz)] [(3,4),(13,19)] .n) (ak.tn (.two (ak.tn (.inn (.loop [(3,cz),(44,be)] [(3,4),(5,6),(44,54)] .n))) (ak.tn (.two (ak.tn (.inn (.loop [(3,cz),(64,be)] [(3,4),(7,8),(9,10),(64,99)] (ak.tn (ak.tn (.two (.inn (ak.tn (.two (.join [(3,cz)] [(3,4),(68,78)] .n) (.two (.join [(3,cz)] [(3,4),(78,85)] .n) (ak.tn (.inn (.loop [(3,cz),(88,be)] [(3,4),(9,10),(88,98)] .n))))))) .n)))))) .n))))))) b
abbrev sM:FuncId:=85
def od(a:Int)(b:Int)(c:Int)(d:Sl):Prop:=
 (0<=(24:Int))/\
 (0<=(16:Int))/\
 (0<=(8:Int))/\
 ar wS (qg 36 7 #[(0,(wI wP (qa wP (qI a (2^min (24:Int).toNat (ql wO)))))),(1,(wI wP (qa wP (qI a (2^min (16:Int).toNat (ql wO)))))),(2,(wI wP (qa wP (qI a (2^min (8:Int).toNat (ql wO)))))),(3,(wI wP (qa wP a))),(4,(wI wP (qa wP b))),(5,(wI wP (qa wP c))),(6,(wI wP (qa wP (d.len:Int))))]) aH h fun f j=>
 ar wS (qh #[36,36] 36 #[f,d]) aH j fun e i=>
 ag wS 137 #[(wI wO (2:Int)),e] aH i fun g k=>
 R g k
theorem sk(c:Int)(a:Int)(b:Int)(d:Sl)(e: @od R h c a b d):ac wS 85 #[c,a,b,d] h R:=av ae Tryz.func85 .n e
abbrev fx:FuncId:=86
def dQ(a:Option Addr)(e:Sl):Prop:=
 aP (σ:=Unit) (fun _ A=>
 aP (σ:=Unit) (fun _ h8=>
 ∃i,(a=some i)/\
 ∃g,cellOf h8 (i.add 3)=some (wI wO g)/\
 ∃j,(a=some j)/\
 ab wS (qb 3 (j.add 3) (qa wO (g+1))) h8 fun _ y=>
 ∃a22,(a=some a22)/\
 ∃l:Option Addr,cellOf y a22=some (.pointer l)/\
 ag wS 142 #[l] bJ y fun q f=>
 Br (!q)
 (R (wI wO (14:Int)) f)
 (ag wS 143 #[a] cb f fun r s=>
 R r s))
 (fun K=>
 ∃c,(a=some c)/\
 ∃b:Sl,cellOf A (c.add 2)=some (b:Value)/\
 ag wS 94 #[e] aH A fun n H=>
 (an.ok [(c.add 2,b)] H)/\
 ar wS (qg 92 1 #[(0,n)]) aH H fun o x=>
 (an.ok [(c.add 2,b)] x)/\
 ar wS (qh #[92,92] 92 #[b,o]) aH x fun m F=>
 (an.ok [] F)/\
 ∃k,(a=some k)/\
 ab wS (qb 92 (k.add 2) m) F fun _ v=>
 (an.ok [] v)/\
 K () v))
 (fun I=>
 Br ((e.len:Int) !=64)
 (R (wI wO (1:Int)) h)
 (aP (σ:=Bool) (fun J d=>
 Br J
 (R (wI wO (5:Int)) d)
 (∃a4,(a=some a4)/\
 ∃t:Sl,cellOf d (a4.add 2)=some (t:Value)/\
 ∃u,(a=some u)/\
 ∃D,cellOf d (u.add 1)=some (wI wO D)/\
 Br ((t.len:Int)>=D)
 (R (wI wO (7:Int)) d)
 (∃B,(a=some B)/\
 ∃z:Option Addr,cellOf d B=some (.pointer z)/\
 ag wS 48 #[z] bJ d fun p G=>
 Br (!p)
 (R (wI wO (14:Int)) G)
 (I () G))))
 (fun E=>
 Br (qo a) (E true h) (∃w,(a=some w)/\
 ∃x2:Bool,cellOf h (w.add 6)=some (wM x2)/\
 E x2 h))))
theorem fa(b:Option Addr)(a:Sl)(c: @dQ R h b a):ac wS 86 #[b,a] h R:=av ae Tryz.func86 (ak.tn (.two (.join [] [(4,36)] (.inn (ak.tn (ak.tn (.two (.join [(9,uQ)] [(9,18)] .n) .n))))) (.two (.join [] [(36,47)] .n) .n))) c
abbrev sN:FuncId:=87
def oe(a:FuncId×Array Value×Array Value)(b:Sl):Prop:=
 ag wS 115 #[b] aH h fun j n=>
 ag wS 66 #[j] yg n fun _ m=>
 ag wS 144 #[j] aH m fun d o=>
 aM (σ:=Int) (fun c k e=>
 Br (c<(d.len:Int))
 (∃a5,(d.ptr=some a5/\0<=c/\c<(d.len:Int))/\
 ∃g,cellOf e (a5.add (c.toNat*1))=some (wI wO g)/\
 nA C a.1 (a.2.1.toList++[(wI wO g)]++a.2.2.toList) fH e fun p l=>
 ag wS 145 #[p] cb l fun i f=>
 Br (i !=0)
 (R i f)
 (k (qa wO (c+1)) f))
 (R (wI wO (0:Int)) e)) (0:Int) o
theorem sl(b:FuncId×Array Value×Array Value)(a:Sl)(c: @oe R h b a):ac wS 87 #[(.func (.func b.1) b.2.1 b.2.2),a] h R:=av ae Tryz.func87 (ak.tn (ak.tn (ak.tn (.two (ak.tn (.inn (.loop [(15,be)] [(4,5),(6,8),(15,27)] .n))) .n)))) c
abbrev ke:FuncId:=88
def fy(c:bS):Prop:=
 aJ wS (qA 23 c) h fun b a=>
 ∃x2,cellOf a b=some (wI wO x2)/\
 Br (x2>=1) (∃x3,cellOf a b=some (wI wO x3)/\
 Br (x3<=16) (∃d,cellOf a (b.add 1)=some (wI wO d)/\
 Br (d>=1) (∃f,cellOf a (b.add 1)=some (wI wO f)/\
 Br (f<=4) (∃g,cellOf a (b.add 2)=some (wI wO g)/\
 Br (g>=1) (∃e,cellOf a (b.add 2)=some (wI wO e)/\
 R (decide (e<=24)) a) (R false a)) (R false a)) (R false a)) (R false a)) (R false a)
theorem jB(a:bS)(b: @fy R h a):ac wS 88 #[a] h R:=av ae Tryz.func88 .n b
abbrev jh:FuncId:=89
def eO(i:bI):Prop:=
 aJ wS (qA 74 i) h fun k l=>
 ∃x2:bI,ap l k 0 x2/\
 ag wS 146 #[x2] aH l fun b u=>
 ((48:Int)≠0)/\
 aM (σ:=Sl×Int) (fun a n f=>
 Br (decide (a.2<(qa wO (wC (qa wO ((qa wO ((b.len:Int)+48))-1)) 48))))
 ((0<=(qa wO (a.2*48))/\(qa wO (a.2*48))<=(if(b.len:Int)<(qa wO ((qa wO (a.2+1))*48))then(b.len:Int)else qa wO ((qa wO (a.2+1))*48))/\(if(b.len:Int)<(qa wO ((qa wO (a.2+1))*48))then(b.len:Int)else qa wO ((qa wO (a.2+1))*48))<=(b.cap:Int))/\
 ∃j,cellOf f k=some (wI wO j)/\
 ag wS 148 #[(wJ none 0 0),j,(wI wO (4:Int))] aH f fun s v=>
 ar wS (qg 36 3 #[(0,(wI wP (qa wP a.2))),(1,(wI wP (qa wP (qa wO (wC (qa wO ((qa wO ((b.len:Int)+48))-1)) 48))))),(2,(wI wP (qa wP ((((if(b.len:Int)<(qa wO ((qa wO (a.2+1))*48))then(b.len:Int)else qa wO ((qa wO (a.2+1))*48)).toNat-(qa wO (a.2*48)).toNat):Nat):Int))))]) aH v fun q o=>
 ar wS (qh #[36,36] 36 #[s,q]) aH o fun r t=>
 ar wS (qh #[36,36] 36 #[r,(.slice (if b.cap=(qa wO (a.2*48)).toNat then b.ptr else b.ptr.map (·.add ((qa wO (a.2*48)).toNat*1))) ((if(b.len:Int)<(qa wO ((qa wO (a.2+1))*48))then(b.len:Int)else qa wO ((qa wO (a.2+1))*48)).toNat-(qa wO (a.2*48)).toNat) (b.cap-(qa wO (a.2*48)).toNat))]) aH t fun v9 m=>
 ag wS 147 #[(wI wO (2:Int)),v9] aH m fun g h8=>
 ar wS (qg 92 1 #[(0,g)]) aH h8 fun e p=>
 ar wS (qh #[92,92] 92 #[a.1,e]) aH p fun c d=>
 n ((⟨c.ptr,c.len,c.cap⟩:Sl),qa wO (a.2+1)) d)
 (R a.1 f)) ((⟨none,0,0⟩:Sl),(0:Int)) u
theorem iI(a:bI)(b: @eO R h a):ac wS 89 #[a] h R:=av ae Tryz.func89 (ak.tn (ak.tn (ak.tn (ak.tn (.two (ak.tn (.inn (.loop [(5,cz),(6,be)] [(5,8),(15,48)] .n))) .n))))) b
abbrev gB:FuncId:=90
def dM(l:Option Addr)(c:Sl):Prop:=
 aJ wS (qC 210 true (.tuple #[])) h fun q x=>
 aM (σ:=Int) (fun f w p=>
 Br (f<(c.len:Int))
 (∃a3,(c.ptr=some a3/\0<=f/\f<(c.len:Int))/\
 ∃r:Int×Sl,ap p (a3.add (f.toNat*2)) 0 r/\
 aJ wS (qC 155 true (.tuple #[])) p fun a5 y=>
 ab wS (qb 155 a5 r) y fun _ o=>
 ∃g,cellOf o a5=some (wI wO g)/\
 ∃t,(l=some t)/\
 (0<=g/\g<((64:Nat):Int))/\
 ∃v:Option Addr,cellOf o ((t.add 10).add (g.toNat*1))=some (.pointer v)/\
 ∃s:Sl,cellOf o (a5.add 1)=some (s:Value)/\
 ag wS 149 #[v,s] cb o fun i n=>
 (an.ok [(a5,g)] n)/\
 Br (i !=0)
 (R i n)
 (∃b,cellOf n a5=some (wI wO b)/\
 (0<=b/\b<((64:Nat):Int))/\
 ab wS (qb 4 (q.add (b.toNat*1)) true) n fun _ z=>
 w (qa wO (f+1)) z))
 (aM (σ:=Int) (fun a u e=>
 Br (a<64)
 ((0<=a/\a<((64:Nat):Int))/\
 ∃j:Bool,cellOf e (q.add (a.toNat*1))=some (wM j)/\
 Br (!j)
 (u (qa wO (a+1)) e)
 (∃k,(l=some k)/\
 (0<=a/\a<((64:Nat):Int))/\
 ∃d:Option Addr,cellOf e ((k.add 10).add (a.toNat*1))=some (.pointer d)/\
 ag wS 150 #[d] cb e fun m h8=>
 Br (m !=0)
 (R m h8)
 (u (qa wO (a+1)) h8)))
 (R (wI wO (0:Int)) e)) (0:Int) p)) (0:Int) x
theorem gb(b:Option Addr)(a:Sl)(c: @dM R h b a):ac wS 90 #[b,a] h R:=av ae Tryz.func90 (ak.tn (ak.tn (.two (ak.tn (.inn (.loop [(13,be)] [(4,5),(7,9),(13,34)] .n))) (.two (ak.tn (.inn (.loop [(34,be)] [(4,5),(9,11),(34,52)] .n))) .n)))) c
abbrev nh:FuncId:=91
def of(o:bI):Prop:=
 aJ wS (qA 74 o) h fun a z=>
 aJ wS (qC 74 true (.tuple #[])) z fun u p=>
 aP (σ:=Unit) (fun _ q=>
 ∃w:Sl,cellOf q (a.add 7)=some (w:Value)/\
 aM (σ:=Int) (fun e B h8=>
 Br (e<(w.len:Int))
 (∃d:Sl,cellOf h8 (a.add 7)=some (d:Value)/\
 ∃c:Sl,cellOf h8 (a.add 7)=some (c:Value)/\
 ∃k,(c.ptr=some k/\0<=e/\e<(c.len:Int))/\
 ∃j:Sl,cellOf h8 ((k.add (e.toNat*4)).add 3)=some (j:Value)/\
 ag wS 115 #[j] aH h8 fun m s=>
 (an.ok [(a.add 7,c),(a.add 7,d)] s)/\
 ∃i,(d.ptr=some i/\0<=e/\e<(d.len:Int))/\
 ab wS (qb 24 ((i.add (e.toNat*4)).add 3) m) s fun _ f=>
 (an.ok [] f)/\
 B (qa wO (e+1)) f)
 (∃g:bI,ap h8 a 0 g/\
 ab wS (qb 74 u g) h8 fun _ l=>
 ∃b:bI,ap l u 0 b/\
 R b l)) (0:Int) q)
 (fun y=>
 ∃x3:Sl,cellOf p (a.add 6)=some (x3:Value)/\
 ∃n:Sl,cellOf p (a.add 7)=some (n:Value)/\
 ag wS 115 #[x3] aH p fun D t=>
 (an.ok [(a.add 7,n)] t)/\
 ag wS 151 #[n] aH t fun A x=>
 (an.ok [] x)/\
 ab wS (qb 24 (a.add 6) D) x fun _ r=>
 (an.ok [] r)/\
 ab wS (qb 72 (a.add 7) A) r fun _ v=>
 (an.ok [] v)/\
 y () v)
theorem sm(a:bI)(b: @of R h a):ac wS 91 #[a] h R:=av ae Tryz.func91 (ak.tn (.two (.join [] [(4,12)] .n) (.two (ak.tn (.inn (.loop [(15,be)] [(3,4),(15,31)] .n))) .n))) b
abbrev sO:FuncId:=92
def og(c:FuncId×Array Value×Array Value)(a:Sl):Prop:=
 aM (σ:=Sl×Int) (fun b d f=>
 Br (b.2<(a.len:Int))
 (∃j,(a.ptr=some j/\0<=b.2/\b.2<(a.len:Int))/\
 ∃x3,cellOf f (j.add (b.2.toNat*1))=some (wI wO x3)/\
 nA C c.1 (c.2.1.toList++[(wI wO x3)]++c.2.2.toList) fH f fun g i=>
 Br (!(qo g)) (ag wS 56 #[g] bJ i fun o k=>
 Br (!o)
 (ar wS (qg 24 1 #[(0,x3)]) aH k fun m n=>
 ar wS (qh #[24,24] 24 #[b.1,m]) aH n fun e l=>
 d ((⟨e.ptr,e.len,e.cap⟩:Sl),qa wO (b.2+1)) l)
 (d ((⟨b.1.ptr,b.1.len,b.1.cap⟩:Sl),qa wO (b.2+1)) k)) (d ((⟨b.1.ptr,b.1.len,b.1.cap⟩:Sl),qa wO (b.2+1)) i))
 (R b.1 f)) ((⟨none,0,0⟩:Sl),(0:Int)) h
theorem sn(b:FuncId×Array Value×Array Value)(a:Sl)(c: @og R h b a):ac wS 92 #[(.func (.func b.1) b.2.1 b.2.2),a] h R:=av ae Tryz.func92 (ak.tn (ak.tn (.two (ak.tn (.inn (.loop [(5,cz),(11,be)] [(5,6),(7,9),(11,30)] .n))) .n))) c
abbrev gc:FuncId:=93
def dB(e:Option Addr)(a:Sl):Prop:=
 aM (σ:=Sl×Int) (fun b f c=>
 Br (b.2<(a.len:Int))
 (∃m,(a.ptr=some m/\0<=b.2/\b.2<(a.len:Int))/\
 ∃x3,cellOf c (m.add (b.2.toNat*1))=some (wI wO x3)/\
 ∃a4,(e=some a4)/\
 (0<=x3/\x3<((64:Nat):Int))/\
 ∃j:Option Addr,cellOf c ((a4.add 10).add (x3.toNat*1))=some (.pointer j)/\
 Br (!(qo j)) (∃l,(e=some l)/\
 (0<=x3/\x3<((64:Nat):Int))/\
 ∃i:Option Addr,cellOf c ((l.add 10).add (x3.toNat*1))=some (.pointer i)/\
 ∃n,(i=some n)/\
 ∃k:Bool,cellOf c (n.add 6)=some (wM k)/\
 Br (!k)
 (ar wS (qg 24 1 #[(0,x3)]) aH c fun g o=>
 ar wS (qh #[24,24] 24 #[b.1,g]) aH o fun d p=>
 f ((⟨d.ptr,d.len,d.cap⟩:Sl),qa wO (b.2+1)) p)
 (f ((⟨b.1.ptr,b.1.len,b.1.cap⟩:Sl),qa wO (b.2+1)) c)) (f ((⟨b.1.ptr,b.1.len,b.1.cap⟩:Sl),qa wO (b.2+1)) c))
 (R b.1 c)) ((⟨none,0,0⟩:Sl),(0:Int)) h
theorem fO(b:Option Addr)(a:Sl)(c: @dB R h b a):ac wS 93 #[b,a] h R:=av ae Tryz.func93 (ak.tn (ak.tn (.two (ak.tn (.inn (.loop [(5,cz),(10,be)] [(5,6),(7,8),(10,38)] .n))) .n))) c
abbrev oW:FuncId:=94
def lu(a:Sl):Prop:=
 Br (qo a.ptr)
 (R (wJ none 0 0) h)
 (ar wS (qg 36 0 #[]) aH h fun c e=>
 ar wS (qh #[36,36] 36 #[c,a]) aH e fun b d=>
 R b d)
theorem oh(a:Sl)(b: @lu R h a):ac wS 94 #[a] h R:=av ae Tryz.func94 .n b
abbrev ie:FuncId:=95
def dY(a:Sl)(c:Sl):Prop:=
 Br ((a.len:Int) !=(c.len:Int))
 (R false h)
 (aM (σ:=Int) (fun b i d=>
 Br (b<(a.len:Int))
 (∃g,(a.ptr=some g/\0<=b/\b<(a.len:Int))/\
 ∃x3:Sl,cellOf d (g.add (b.toNat*1))=some (x3:Value)/\
 ∃a4,(c.ptr=some a4/\0<=b/\b<(c.len:Int))/\
 ∃f:Sl,cellOf d (a4.add (b.toNat*1))=some (f:Value)/\
 ag wS 49 #[x3,f] bJ d fun j e=>
 (an.ok [] e)/\
 Br (!j)
 (R false e)
 (i (qa wO (b+1)) e))
 (R true d)) (0:Int) h)
theorem gC(b:Sl)(a:Sl)(c: @dY R h b a):ac wS 95 #[b,a] h R:=av ae Tryz.func95 (ak.tn (ak.tn (.two (ak.tn (.inn (.loop [(13,be)] [(4,6),(13,27)] .n))) .n))) c
abbrev so:FuncId:=96
def ni(b:Sl):Prop:=
 aM (σ:=Sl×Int) (fun a f d=>
 Br (a.2<(b.len:Int))
 (∃e,(b.ptr=some e/\0<=a.2/\a.2<(b.len:Int))/\
 ∃x3:Sl,cellOf d (e.add (a.2.toNat*1))=some (x3:Value)/\
 ag wS 94 #[x3] aH d fun g i=>
 ar wS (qg 92 1 #[(0,g)]) aH i fun v5 j=>
 ar wS (qh #[92,92] 92 #[a.1,v5]) aH j fun c k=>
 f ((⟨c.ptr,c.len,c.cap⟩:Sl),qa wO (a.2+1)) k)
 (R a.1 d)) ((⟨none,0,0⟩:Sl),(0:Int)) h
theorem pW(a:Sl)(b: @ni R h a):ac wS 96 #[a] h R:=av ae Tryz.func96 (ak.tn (ak.tn (.two (ak.tn (.inn (.loop [(3,cz),(8,be)] [(3,4),(5,6),(8,18)] .n))) .n))) b
abbrev oX:FuncId:=99
def lv(c:bS)(a:Int):Prop:=
 aJ wS (qA 23 c) h fun i f=>
 aP (σ:=Unit) (fun _ g=>
 ∃d:bS,ap g i 0 d/\
 ag wS 154 #[d] cb g fun e l=>
 (e≠0)/\
 R (qa wO ((qa wO (wC (qa wO (a-1)) e))+1)) l)
 (fun j=>
 ∃x2:bS,ap f i 0 x2/\
 ag wS 31 #[x2] bJ f fun k b=>
 Br (!k) (R (wI wO (0:Int)) b) (Br (a<=0)
 (R (wI wO (0:Int)) b)
 (j () b)))
theorem ol(b:bS)(a:Int)(c: @lv R h b a):ac wS 99 #[b,a] h R:=av ae Tryz.func99 (ak.tn (.two (.join [] [(4,12)] .n) .n)) c
def iB(a:Option Addr):Prop:=
 Br (qo a) (R true h) (ag wS 45 #[a] bJ h fun b c=>
 R b c)
theorem lM(a:Option Addr)(b: @iB R h a):ac wS 106 #[a] h R:=av ae Tryz.func106 .n b
abbrev jC:FuncId:=115
def fb(a:Sl):Prop:=
 Br (qo a.ptr)
 (R (wJ none 0 0) h)
 (ar wS (qg 24 0 #[]) aH h fun c e=>
 ar wS (qh #[24,24] 24 #[c,a]) aH e fun b d=>
 R b d)
theorem ji(a:Sl)(b: @fb R h a):ac wS 115 #[a] h R:=av ae Tryz.func115 .n b
abbrev sP:FuncId:=120
def om(A:bI):Prop:=
 aJ wS (qA 74 A) h fun c I=>
 aP (σ:=Unit) (fun _ K=>
 aP (σ:=Unit) (fun _ h8=>
 ∃d:Sl,cellOf h8 (c.add 7)=some (d:Value)/\
 aM (σ:=Int) (fun a Q w=>
 Br (a<(d.len:Int))
 (∃s,(d.ptr=some s/\0<=a/\a<(d.len:Int))/\
 ∃t:kv,ap w (s.add (a.toNat*4)) 0 t/\
 aJ wS (qC 137 true (.tuple #[])) w fun e v=>
 ab wS (qb 137 e t) v fun _ g=>
 aP (σ:=Unit) (fun _ r=>
 ∃f:Sl,cellOf r (c.add 7)=some (f:Value)/\
 (0<=a/\a<=(f.cap:Int))/\
 ag wS 197 #[(wJ f.ptr a.toNat f.cap),(.func (.func 198) #[] #[e])] bJ r fun x q=>
 Br x
 (R false q)
 (Q (qa wO (a+1)) q))
 (fun F=>
 ∃k:bI,ap g c 0 k/\
 ∃m:kv,ap g e 0 m/\
 ag wS 196 #[k,m] bJ g fun z b=>
 (an.ok [] b)/\
 Br (!z) (R false b) (Br (a>0) (∃i:Sl,cellOf b (c.add 7)=some (i:Value)/\
 ∃n,(i.ptr=some n/\0<=(qa wO (a-1))/\(qa wO (a-1))<(i.len:Int))/\
 ∃j:ByteArray,cellOf b (n.add ((qa wO (a-1)).toNat*4))=some (wL j)/\
 ∃l:ByteArray,cellOf b e=some (wL l)/\
 Br (!(Op.bytesLess j.toList l.toList))
 (R false b)
 (F () b)) (F () b))))
 (R true w)) (0:Int) h8)
 (fun P=>
 ∃p:Sl,cellOf K (c.add 6)=some (p:Value)/\
 ag wS 195 #[p,(wI wO (63:Int))] bJ K fun B u=>
 Br (!B) (R false u) (∃o:Sl,cellOf u (c.add 7)=some (o:Value)/\
 Br ((o.len:Int)>12)
 (R false u)
 (P () u))))
 (fun M=>
 ∃x2,cellOf I c=some (wI wO x2)/\
 ag wS 194 #[x2,(wI wO (1:Int)),(wI wO (2147483647:Int))] bJ I fun S D=>
 Br (!S) (R false D) (∃G,cellOf D (c.add 1)=some (wI wO G)/\
 ag wS 194 #[G,(wI wO (0:Int)),(wI wO (16777216:Int))] bJ D fun T y=>
 Br (!T) (R false y) (∃J:bS,ap y (c.add 2) 0 J/\
 ag wS 31 #[J] bJ y fun O E=>
 Br (!O) (R false E) (∃L,cellOf E (c.add 5)=some (wI wO L)/\
 ag wS 194 #[L,(wI wO (0:Int)),(wI wO (16:Int))] bJ E fun N H=>
 Br (!N)
 (R false H)
 (M () H)))))
theorem sp(a:bI)(b: @om R h a):ac wS 120 #[a] h R:=av ae Tryz.func120 (ak.tn (.two (.join [] [(2,3),(5,27)] .n) (.two (.join [] [(2,3),(27,37)] .n) (.two (ak.tn (.inn (.loop [(40,be)] [(2,5),(40,72)] (ak.tn (ak.tn (.two (.inn (ak.tn (.two (.join [] [(2,3),(45,65)] .n) .n))) .n)))))) .n)))) b
def dZ(a:Sl)(b:FuncId×Array Value×Array Value):Prop:=
 aM (σ:=Int) (fun c g d=>
 Br (c<(a.len:Int))
 (∃f,(a.ptr=some f/\0<=c/\c<(a.len:Int))/\
 ∃x3,cellOf d (f.add (c.toNat*1))=some (wI wO x3)/\
 nA C b.1 (b.2.1.toList++[(wI wO x3)]++b.2.2.toList) bJ d fun i e=>
 Br i
 (R c e)
 (g (qa wO (c+1)) e))
 (R (wI wO (-1:Int)) d)) (0:Int) h
theorem gD(b:Sl)(a:FuncId×Array Value×Array Value)(c: @dZ R h b a):ac wS 122 #[b,(.func (.func a.1) a.2.1 a.2.2)] h R:=av ae Tryz.func122 (ak.tn (.two (ak.tn (.inn (.loop [(8,be)] [(4,6),(8,19)] .n))) .n)) c
abbrev fP:FuncId:=123
def dt(b:Sl)(a:FuncId×Array Value×Array Value):Prop:=
 ag wS 122 #[b,(.func (.func a.1) a.2.1 a.2.2)] cb h fun c d=>
 R (decide (c>=0)) d
theorem fB(b:Sl)(a:FuncId×Array Value×Array Value)(c: @dt R h b a):ac wS 123 #[b,(.func (.func a.1) a.2.1 a.2.2)] h R:=av ae Tryz.func123 .n c
abbrev sQ:FuncId:=137
def oo(a:Int)(c:Sl):Prop:=
 aP (σ:=Unit) (fun _ k=>
 ar wS (wc 36 (wI wO (64:Int)) (wI wO (64:Int))) aH k fun b p=>
 ar wS (qg 36 4 #[(0,(wI wP (87:Int))),(1,(wI wP (115:Int))),(2,(wI wP (1:Int))),(3,(wI wP (qa wP a)))]) aH p fun v3 l=>
 ar wS (zd #[36,36] 3 #[b,v3]) cb l fun _ q=>
 (0<=(4:Int)/\(4:Int)<=(b.len:Int))/\
 ar wS (zd #[36,36] 3 #[(.slice (if b.cap=(4:Int).toNat then b.ptr else b.ptr.map (·.add ((4:Int).toNat*1))) (b.len-(4:Int).toNat) (b.cap-(4:Int).toNat)),c]) cb q fun _ i=>
 (0<=(59:Int)/\(59:Int)<=(b.cap:Int))/\
 ag wS 206 #[(wJ b.ptr ((59:Int).toNat) b.cap)] (.one (.sc (.int .u32))) i fun m o=>
 aM (σ:=Int) (fun d n e=>
 Br (d<4)
 ((0<=(qa wO (8*d)))/\
 ∃f,(b.ptr=some f/\0<=(qa wO (59+d))/\(qa wO (59+d))<(b.len:Int))/\
 ab wS (qb 5 (f.add ((qa wO (59+d)).toNat*1)) (wI wP (qa wP (qI m (2^min (qa wO (8*d)).toNat (ql wQ)))))) e fun _ h8=>
 n (qa wO (d+1)) h8)
 (∃a9,(b.ptr=some a9/\0<=(63:Int)/\(63:Int)<(b.len:Int))/\
 ab wS (qb 5 (a9.add ((63:Int).toNat*1)) (wI wP (165:Int))) e fun _ j=>
 R b j)) (0:Int) o)
 (fun g=>
 Br (a<1) (R (wJ none 0 0) h) (Br (a>255) (R (wJ none 0 0) h) (Br ((c.len:Int)>55)
 (R (wJ none 0 0) h)
 (g () h))))
theorem sq(a:Int)(b:Sl)(c: @oo R h a b):ac wS 137 #[a,b] h R:=av ae Tryz.func137 (ak.tn (.two (.join [] [(4,5),(8,19)] .n) (ak.tn (ak.tn (ak.tn (ak.tn (.two (ak.tn (.inn (.loop [(32,be)] [(7,8),(32,45)] .n))) .n))))))) c
abbrev oY:FuncId:=141
def lx(a:Sl)(d:Int)(b:Int):Prop:=
 aM (σ:=Sl×Int) (fun c f e=>
 Br (c.2>=0)
 ((0<=(qa wO (8*c.2)))/\
 ar wS (qg 36 1 #[(0,(wI wP (qa wP (qI d (2^min (qa wO (8*c.2)).toNat (ql wO))))))]) aH e fun g i=>
 ar wS (qh #[36,36] 36 #[c.1,g]) aH i fun v3 j=>
 f ((⟨v3.ptr,v3.len,v3.cap⟩:Sl),qa wO (c.2-1)) j)
 (R c.1 e)) ((⟨a.ptr,a.len,a.cap⟩:Sl),qa wO (b-1)) h
theorem oq(b:Sl)(c:Int)(a:Int)(d: @lx R h b c a):ac wS 141 #[b,c,a] h R:=av ae Tryz.func141 (ak.tn (.two (ak.tn (.inn (.loop [(0,cz),(7,be)] [(0,1),(7,8),(10,22)] .n))) .n)) d
abbrev lN:FuncId:=142
def ig(a:Option Addr):Prop:=
 ag wS 48 #[a] bJ h fun n b=>
 Br (!n)
 (R false b)
 (∃l,(a=some l)/\
 ∃x3:Bool,cellOf b (l.add 1)=some (wM x3)/\
 Br (!x3)
 (R true b)
 (∃a4,(a=some a4)/\
 ∃f,cellOf b (a4.add 2)=some (wI wO f)/\
 Br (f==0)
 (∃i,(a=some i)/\
 ab wS (qb 4 i true) b fun _ k=>
 ∃j,(a=some j)/\
 ∃g,cellOf k (j.add 3)=some (wI wO g)/\
 ∃a9,(a=some a9)/\
 ab wS (qb 3 (a9.add 3) (qa wO (g+1))) k fun _ m=>
 R false m)
 (∃d,(a=some d)/\
 ∃c,cellOf b (d.add 2)=some (wI wO c)/\
 ∃e,(a=some e)/\
 ab wS (qb 3 (e.add 2) (qa wO (c-1))) b fun _ o=>
 R true o)))
theorem kY(a:Option Addr)(b: @ig R h a):ac wS 142 #[a] h R:=av ae Tryz.func142 .n b
abbrev lO:FuncId:=143
def ij(a:Option Addr):Prop:=
 ∃c,(a=some c)/\
 ab wS (qb 92 (c.add 4) (wJ none 0 0)) h fun _ e=>
 ∃b,(a=some b)/\
 ab wS (qb 4 (b.add 5) false) e fun _ d=>
 R (wI wO (0:Int)) d
theorem kZ(a:Option Addr)(b: @ij R h a):ac wS 143 #[a] h R:=av ae Tryz.func143 .n b
abbrev iJ:FuncId:=144
abbrev gj:FuncId:=145
def eD(a:Option Addr):Prop:=
 aP (σ:=Unit) (fun _ e=>
 ∃a4,(a=some a4)/\
 ∃b:Option Addr,cellOf e a4=some (.pointer b)/\
 ag wS 142 #[b] bJ e fun i d=>
 Br (!i)
 (R (wI wO (14:Int)) d)
 (∃c,(a=some c)/\
 ab wS (qb 3 (c.add 3) (wI wO (0:Int))) d fun _ k=>
 ag wS 143 #[a] cb k fun j l=>
 R j l))
 (fun g=>
 Br (qo a) (R (wI wO (5:Int)) h) (∃f,(a=some f)/\
 ∃x2:Bool,cellOf h (f.add 6)=some (wM x2)/\
 Br x2
 (R (wI wO (5:Int)) h)
 (g () h)))
theorem fQ(a:Option Addr)(b: @eD R h a):ac wS 145 #[a] h R:=av ae Tryz.func145 (ak.tn (.two (.join [] [(2,11)] .n) .n)) b
abbrev jD:FuncId:=146
def fc(a2:bI):Prop:=
 aJ wS (qA 74 a2) h fun e h1=>
 ∃x2:bI,ap h1 e 0 x2/\
 ag wS 208 #[x2] bJ h1 fun r3 S=>
 Br (!r3)
 (R (wJ none 0 0) S)
 (aP (σ:=Sl) (fun s8 w=>
 ∃x9,cellOf w (e.add 2)=some (wI wO x9)/\
 ∃D,cellOf w ((e.add 2).add 1)=some (wI wO D)/\
 ∃M,cellOf w ((e.add 2).add 2)=some (wI wO M)/\
 ∃N,cellOf w (e.add 5)=some (wI wO N)/\
 ∃x:Sl,cellOf w (e.add 6)=some (x:Value)/\
 ar wS (qg 36 5 #[(0,(wI wP (qa wP x9))),(1,(wI wP (qa wP D))),(2,(wI wP (qa wP M))),(3,(wI wP (qa wP N))),(4,(wI wP (qa wP (x.len:Int))))]) aH w fun ad h6=>
 ar wS (qh #[36,36] 36 #[s8,ad]) aH h6 fun s h7=>
 ∃g:Sl,cellOf h7 (e.add 6)=some (g:Value)/\
 aM (σ:=Sl×Int) (fun d K2 h8=>
 Br (d.2<(g.len:Int))
 (∃G,(g.ptr=some G/\0<=d.2/\d.2<(g.len:Int))/\
 ∃F,cellOf h8 (G.add (d.2.toNat*1))=some (wI wO F)/\
 ar wS (qg 36 1 #[(0,(wI wP (qa wP F)))]) aH h8 fun T h9=>
 ar wS (qh #[36,36] 36 #[d.1,T]) aH h9 fun p a3=>
 K2 ((⟨p.ptr,p.len,p.cap⟩:Sl),qa wO (d.2+1)) a3)
 (∃A:Sl,cellOf h8 (e.add 7)=some (A:Value)/\
 ar wS (qg 36 1 #[(0,(wI wP (qa wP (A.len:Int))))]) aH h8 fun a6 W=>
 ar wS (qh #[36,36] 36 #[d.1,a6]) aH W fun m K=>
 ∃j:Sl,cellOf K (e.add 7)=some (j:Value)/\
 aM (σ:=Sl×Int) (fun c K3 t=>
 Br (c.2<(j.len:Int))
 (∃H,(j.ptr=some H/\0<=c.2/\c.2<(j.len:Int))/\
 ∃P:kv,ap t (H.add (c.2.toNat*4)) 0 P/\
 aJ wS (qC 137 true (.tuple #[])) t fun a U=>
 ab wS (qb 137 a P) U fun _ u=>
 aP (σ:=Sl) (fun X r=>
 aP (σ:=Sl) (fun v y=>
 ∃i:Sl,cellOf y (a.add 3)=some (i:Value)/\
 aM (σ:=Sl×Int) (fun b K6 l=>
 Br (b.2<(i.len:Int))
 (∃J,(i.ptr=some J/\0<=b.2/\b.2<(i.len:Int))/\
 ∃O,cellOf l (J.add (b.2.toNat*1))=some (wI wO O)/\
 ar wS (qg 36 1 #[(0,(wI wP (qa wP O)))]) aH l fun a5 a4=>
 ar wS (qh #[36,36] 36 #[b.1,a5]) aH a4 fun v46 Z=>
 K6 ((⟨v46.ptr,v46.len,v46.cap⟩:Sl),qa wO (b.2+1)) Z)
 (K3 ((⟨b.1.ptr,b.1.len,b.1.cap⟩:Sl),qa wO (c.2+1)) l)) ((⟨v.ptr,v.len,v.cap⟩:Sl),(0:Int)) y)
 (fun K5=>
 ∃Q,cellOf r (a.add 1)=some (wI wO Q)/\
 ∃o,cellOf r (a.add 2)=some (wI wO o)/\
 ag wS 148 #[X,Q,(wI wO (3:Int))] aH r fun V B=>
 (an.ok [(a.add 2,o)] B)/\
 ag wS 148 #[V,o,(wI wO (2:Int))] aH B fun n I=>
 (an.ok [] I)/\
 K5 (⟨n.ptr,n.len,n.cap⟩:Sl) I))
 (fun K4=>
 ∃f:ByteArray,cellOf u a=some (wL f)/\
 ∃k:ByteArray,cellOf u a=some (wL k)/\
 ar wS (qg 36 1 #[(0,(wI wP (qa wP (f.size:Int))))]) aH u fun a7 E=>
 (an.ok [(a,k),(a,f)] E)/\
 ar wS (qh #[36,36] 36 #[c.1,a7]) aH E fun a0 L=>
 (an.ok [(a,k),(a,f)] L)/\
 ar wS (qh #[36,9] 36 #[a0,k]) aH L fun q z=>
 (an.ok [(a,f)] z)/\
 K4 (⟨q.ptr,q.len,q.cap⟩:Sl) z))
 (R c.1 t)) ((⟨m.ptr,m.len,m.cap⟩:Sl),(0:Int)) K)) ((⟨s.ptr,s.len,s.cap⟩:Sl),(0:Int)) h7)
 (fun K1=>
 ∃x4,cellOf S e=some (wI wO x4)/\
 ∃Y,cellOf S (e.add 1)=some (wI wO Y)/\
 ag wS 148 #[(wJ none 0 0),x4,(wI wO (4:Int))] aH S fun r6 h3=>
 (an.ok [(e.add 1,Y)] h3)/\
 ag wS 148 #[r6,Y,(wI wO (4:Int))] aH h3 fun r7 h4=>
 (an.ok [] h4)/\
 K1 (⟨r7.ptr,r7.len,r7.cap⟩:Sl) h4))
theorem jk(a:bI)(b: @fc R h a):ac wS 146 #[a] h R:=av ae Tryz.func146 (ak.tn (ak.tn (.two (.join [(3,cz)] [(3,4),(13,19)] .n) (ak.tn (.two (ak.tn (.inn (.loop [(3,cz),(44,be)] [(3,4),(5,6),(44,54)] .n))) (ak.tn (.two (ak.tn (.inn (.loop [(3,cz),(64,be)] [(3,4),(7,8),(9,10),(64,99)] (ak.tn (ak.tn (.two (.inn (ak.tn (.two (.join [(3,cz)] [(3,4),(68,78)] .n) (.two (.join [(3,cz)] [(3,4),(78,85)] .n) (ak.tn (.inn (.loop [(3,cz),(88,be)] [(3,4),(9,10),(88,98)] .n))))))) .n)))))) .n))))))) b
abbrev ir:FuncId:=147
def eo(a:Int)(b:Sl):Prop:=
 aP (σ:=Unit) (fun _ l=>
 ar wS (qg 36 4 #[(0,(wI wP (87:Int))),(1,(wI wP (115:Int))),(2,(wI wP (1:Int))),(3,(wI wP (qa wP a)))]) aH l fun q r=>
 ar wS (qh #[36,36] 36 #[q,b]) aH r fun v3 m=>
 aM (σ:=Sl) (fun c o f=>
 Br ((c.len:Int)<59)
 (ar wS (qg 36 1 #[(0,(wI wP (0:Int)))]) aH f fun v5 j=>
 ar wS (qh #[36,36] 36 #[c,v5]) aH j fun e p=>
 o (⟨e.ptr,e.len,e.cap⟩:Sl) p)
 (ag wS 209 #[c] (.one (.sc (.int .u32))) f fun d g=>
 (0<=(8:Int))/\
 (0<=(16:Int))/\
 (0<=(24:Int))/\
 ar wS (qg 36 5 #[(0,(wI wP (qa wP d))),(1,(wI wP (qa wP (qI d (2^min (8:Int).toNat (ql wQ)))))),(2,(wI wP (qa wP (qI d (2^min (16:Int).toNat (ql wQ)))))),(3,(wI wP (qa wP (qI d (2^min (24:Int).toNat (ql wQ)))))),(4,(wI wP (165:Int)))]) aH g fun n h8=>
 ar wS (qh #[36,36] 36 #[c,n]) aH h8 fun v9 k=>
 R v9 k)) (⟨v3.ptr,v3.len,v3.cap⟩:Sl) m)
 (fun i=>
 Br (a<1) (R (wJ none 0 0) h) (Br (a>255) (R (wJ none 0 0) h) (Br ((b.len:Int)>55)
 (R (wJ none 0 0) h)
 (i () h))))
theorem ik(a:Int)(b:Sl)(c: @eo R h a b):ac wS 147 #[a,b] h R:=av ae Tryz.func147 (ak.tn (.two (.join [] [(4,5),(7,18)] .n) (ak.tn (.two (.inn (.loop [(5,cz)] [(5,6),(23,29)] .n)) .n)))) c
abbrev jE:FuncId:=148
def fd(a:Sl)(c:Int)(d:Int):Prop:=
 aM (σ:=Sl×Int) (fun b f e=>
 Br (b.2>=0)
 ((0<=(qa wO (8*b.2)))/\
 ar wS (qg 36 1 #[(0,(wI wP (qa wP (qI c (2^min (qa wO (8*b.2)).toNat (ql wO))))))]) aH e fun g i=>
 ar wS (qh #[36,36] 36 #[b.1,g]) aH i fun v3 j=>
 f ((⟨v3.ptr,v3.len,v3.cap⟩:Sl),qa wO (b.2-1)) j)
 (R b.1 e)) ((⟨a.ptr,a.len,a.cap⟩:Sl),qa wO (d-1)) h
theorem jl(a:Sl)(b:Int)(c:Int)(d: @fd R h a b c):ac wS 148 #[a,b,c] h R:=av ae Tryz.func148 (ak.tn (.two (ak.tn (.inn (.loop [(0,cz),(7,be)] [(0,1),(7,8),(10,22)] .n))) .n)) d
abbrev fC:FuncId:=149
def df(a:Option Addr)(f:Sl):Prop:=
 Br ((f.len:Int) !=64)
 (R (wI wO (1:Int)) h)
 (∃t,(a=some t)/\
 ∃x2:Bool,cellOf h (t.add 6)=some (wM x2)/\
 Br x2
 (R (wI wO (5:Int)) h)
 (∃a3,(a=some a3)/\
 ∃v:Sl,cellOf h (a3.add 2)=some (v:Value)/\
 ∃a5,(a=some a5)/\
 ∃y,cellOf h a5=some (wI wO y)/\
 Br ((v.len:Int)==y)
 (R (wI wO (7:Int)) h)
 (∃z,(a=some z)/\
 ∃B:Option Addr,cellOf h (z.add 1)=some (.pointer B)/\
 ∃a9,(B=some a9)/\
 ∃j:Bool,cellOf h a9=some (wM j)/\
 ∃g,(a=some g)/\
 ∃l:Option Addr,cellOf h (g.add 1)=some (.pointer l)/\
 ag wS 210 #[l] bJ h fun p n=>
 aP (σ:=Unit) (fun _ s=>
 Br (!p)
 (R (wI wO (14:Int)) s)
 (∃i,(a=some i)/\
 ab wS (qb 4 (i.add 4) false) s fun _ h8=>
 ∃m,(a=some m)/\
 ab wS (qb 92 (m.add 5) (wJ none 0 0)) h8 fun _ F=>
 R (wI wO (0:Int)) F))
 (fun u=>
 Br (!j)
 (∃e,(a=some e)/\
 ∃d:Sl,cellOf n (e.add 2)=some (d:Value)/\
 ∃b,(a=some b)/\
 ∃c,cellOf n (b.add 3)=some (wI wO c)/\
 ar wS (qh #[36,36] 36 #[(wJ none 0 0),f]) aH n fun o D=>
 (an.ok [(b.add 3,c),(e.add 2,d)] D)/\
 ar wS (qg 92 1 #[(0,o)]) aH D fun r x=>
 (an.ok [(b.add 3,c),(e.add 2,d)] x)/\
 ar wS (qh #[92,92] 92 #[d,r]) aH x fun q E=>
 (an.ok [(b.add 3,c)] E)/\
 ∃k,(a=some k)/\
 ab wS (qb 92 (k.add 2) q) E fun _ w=>
 (an.ok [] w)/\
 ∃a22,(a=some a22)/\
 ab wS (qb 3 (a22.add 3) (qa wO (c+1))) w fun _ A=>
 (an.ok [] A)/\
 u () A)
 (u () n)))))
theorem fo(b:Option Addr)(a:Sl)(c: @df R h b a):ac wS 149 #[b,a] h R:=av ae Tryz.func149 (ak.tn (ak.tn (ak.tn (ak.tn (.two (.join [] [(40,60)] .n) .n))))) c
abbrev gd:FuncId:=150
def dC(a:Option Addr):Prop:=
 ∃g,(a=some g)/\
 ∃x2:Bool,cellOf h (g.add 6)=some (wM x2)/\
 Br x2
 (R (wI wO (5:Int)) h)
 (∃a3,(a=some a3)/\
 ∃b:Option Addr,cellOf h (a3.add 1)=some (.pointer b)/\
 ag wS 210 #[b] bJ h fun l f=>
 Br (!l)
 (R (wI wO (14:Int)) f)
 (∃d,(a=some d)/\
 ab wS (qb 3 (d.add 3) (wI wO (0:Int))) f fun _ i=>
 ∃e,(a=some e)/\
 ab wS (qb 4 (e.add 4) false) i fun _ j=>
 ∃c,(a=some c)/\
 ab wS (qb 92 (c.add 5) (wJ none 0 0)) j fun _ k=>
 R (wI wO (0:Int)) k))
theorem fR(a:Option Addr)(b: @dC R h a):ac wS 150 #[a] h R:=av ae Tryz.func150 .n b
abbrev eI:FuncId:=151
def cA(a:Sl):Prop:=
 Br (qo a.ptr)
 (R (wJ none 0 0) h)
 (ar wS (qg 72 0 #[]) aH h fun c e=>
 ar wS (qh #[72,72] 72 #[c,a]) aH e fun b d=>
 R b d)
theorem eE(a:Sl)(b: @cA R h a):ac wS 151 #[a] h R:=av ae Tryz.func151 .n b
abbrev sr:FuncId:=152
def nj(e:ByteArray):Prop:=
 ar wS (convert 9 36 e) aH h fun f g=>
 aM (σ:=Int) (fun c d a=>
 Br (c<(f.len:Int))
 (∃a3,(f.ptr=some a3/\0<=c/\c<(f.len:Int))/\
 ∃b,cellOf a (a3.add (c.toNat*1))=some (wI wP b)/\
 Br (b<97) (Br (b<48) (Br (b !=45)
 (R false a)
 (d (qa wO (c+1)) a)) (Br (b>57) (Br (b !=45)
 (R false a)
 (d (qa wO (c+1)) a)) (d (qa wO (c+1)) a))) (Br (b>122) (Br (b<48) (Br (b !=45)
 (R false a)
 (d (qa wO (c+1)) a)) (Br (b>57) (Br (b !=45)
 (R false a)
 (d (qa wO (c+1)) a)) (d (qa wO (c+1)) a))) (d (qa wO (c+1)) a)))
 (Br ((e.size:Int)>=1) (R (decide ((e.size:Int)<=12)) a) (R false a))) (0:Int) g
theorem pX(a:ByteArray)(b: @nj R h a):ac wS 152 #[a] h R:=av ae Tryz.func152 (ak.tn (.two (ak.tn (.inn (.loop [(8,be)] [(2,3),(4,5),(8,31)] .n))) .n)) b
def ms(b:bS):Prop:=
 aJ wS (qA 23 b) h fun c a=>
 ∃x2,cellOf a c=some (wI wO x2)/\
 ∃x3,cellOf a (c.add 2)=some (wI wO x3)/\
 R (qa wO (x2*x3)) a
theorem oZ(a:bS)(b: @ms R h a):ac wS 154 #[a] h R:=av ae Tryz.func154 .n b
def ct(a:Sl)(b:FuncId×Array Value×Array Value):Prop:=
 aM (σ:=Int) (fun c g d=>
 Br (c<(a.len:Int))
 (∃f,(a.ptr=some f/\0<=c/\c<(a.len:Int))/\
 ∃x3:kv,ap d (f.add (c.toNat*4)) 0 x3/\
 nA C b.1 (b.2.1.toList++[(wN #[x3.1,x3.2.1,x3.2.2.1,x3.2.2.2])]++b.2.2.toList) bJ d fun i e=>
 Br i
 (R c e)
 (g (qa wO (c+1)) e))
 (R (wI wO (-1:Int)) d)) (0:Int) h
theorem dR(b:Sl)(a:FuncId×Array Value×Array Value)(c: @ct R h b a):ac wS 165 #[b,(.func (.func a.1) a.2.1 a.2.2)] h R:=av ae Tryz.func165 (ak.tn (.two (ak.tn (.inn (.loop [(8,be)] [(4,6),(8,19)] .n))) .n)) c
abbrev pa:FuncId:=194
def ly(c:Int)(a:Int)(b:Int):Prop:=
 Br (c>=a) (R (decide (c<=b)) h) (R false h)
theorem ot(c:Int)(a:Int)(b:Int)(d: @ly R h c a b):ac wS 194 #[c,a,b] h R:=av ae Tryz.func194 .n d
abbrev ss:FuncId:=195
def nk(a:Sl)(c:Int):Prop:=
 aM (σ:=Int) (fun b f e=>
 Br (b<(a.len:Int))
 (∃g,(a.ptr=some g/\0<=b/\b<(a.len:Int))/\
 ∃x3,cellOf e (g.add (b.toNat*1))=some (wI wO x3)/\
 ag wS 194 #[x3,(wI wO (0:Int)),c] bJ e fun j d=>
 Br (!j) (R false d) (Br (b>0) (∃a5,(a.ptr=some a5/\0<=(qa wO (b-1))/\(qa wO (b-1))<(a.len:Int))/\
 ∃i:Int,cellOf d (a5.add ((qa wO (b-1)).toNat*1))=some (wI wO i)/\
 Br (i>=x3)
 (R false d)
 (f (qa wO (b+1)) d)) (f (qa wO (b+1)) d)))
 (R true e)) (0:Int) h
theorem pY(b:Sl)(a:Int)(c: @nk R h b a):ac wS 195 #[b,a] h R:=av ae Tryz.func195 (ak.tn (.two (ak.tn (.inn (.loop [(9,be)] [(4,7),(9,32)] .n))) .n)) c
abbrev pZ:FuncId:=196
def mu(n:bI)(o:kv):Prop:=
 aJ wS (qA 74 n) h fun j y=>
 aJ wS (qA 137 o) y fun b w=>
 aP (σ:=Unit) (fun _ u=>
 ∃e:Sl,cellOf u (b.add 3)=some (e:Value)/\
 ag wS 123 #[e,(.func (.func 253) #[] #[])] bJ u fun l c=>
 Br (!l) (∃a:Sl,cellOf c (b.add 3)=some (a:Value)/\
 ∃d:bS,ap c (j.add 2) 0 d/\
 ∃g,cellOf c (b.add 2)=some (wI wO g)/\
 ag wS 99 #[d,g] cb c fun p h8=>
 (an.ok [(b.add 3,a)] h8)/\
 R (wM ((a.len:Int)==p)) h8) ((an.ok [] c)/\
 R false c))
 (fun x=>
 ∃x3:ByteArray,cellOf w b=some (wL x3)/\
 ag wS 152 #[x3] bJ w fun A k=>
 Br (!A) (R false k) (∃q,cellOf k (b.add 1)=some (wI wO q)/\
 ∃t,cellOf k (j.add 1)=some (wI wO t)/\
 ag wS 194 #[q,(wI wO (0:Int)),(qa wO (t-1))] bJ k fun z i=>
 Br (!z) (R false i) (∃v,cellOf i (b.add 2)=some (wI wO v)/\
 ∃s,cellOf i (j.add 2)=some (wI wO s)/\
 ∃f,cellOf i ((j.add 2).add 2)=some (wI wO f)/\
 ag wS 194 #[v,(wI wO (0:Int)),(qa wO ((qa wO (s*f))*8))] bJ i fun m r=>
 Br (!m)
 (R false r)
 (x () r))))
theorem pb(a:bI)(b:kv)(c: @mu R h a b):ac wS 196 #[a,b] h R:=av ae Tryz.func196 (ak.tn (.two (.join [] [(4,5),(6,33)] .n) .n)) c
abbrev dD:FuncId:=197
def cl(b:Sl)(a:FuncId×Array Value×Array Value):Prop:=
 ag wS 165 #[b,(.func (.func a.1) a.2.1 a.2.2)] cb h fun c d=>
 R (decide (c>=0)) d
theorem du(b:Sl)(a:FuncId×Array Value×Array Value)(c: @cl R h b a):ac wS 197 #[b,(.func (.func a.1) a.2.1 a.2.2)] h R:=av ae Tryz.func197 .n c
abbrev it:FuncId:=198
def mv(b:kv)(a:Addr):Prop:=
 aJ wS (qA 137 b) h fun d c=>
 ∃x2,cellOf c (d.add 1)=some (wI wO x2)/\
 ∃x3,cellOf c (a.add 1)=some (wI wO x3)/\
 R (wM (x2==x3)) c
theorem pc(b:kv)(a:Addr)(c: @mv R h b a):ac wS 198 #[b,a] h R:=av ae Tryz.func198 .n c
abbrev tZ:FuncId:=206
def pG(c:Sl):Prop:=
 aM (σ:=Int×Int) (fun a i e=>
 Br (a.2<(c.len:Int))
 (∃g,(c.ptr=some g/\0<=a.2/\a.2<(c.len:Int))/\
 ∃x3,cellOf e (g.add (a.2.toNat*1))=some (wI wP x3)/\
 aM (σ:=Int×Int) (fun b f d=>
 Br (b.2<8)
 ((0<=(1:Int))/\
 Br ((qa wQ ((qq (ql wQ) b.1&&&(qq (ql wQ) (1:Int))).toNat:Nat))==1)
 (f (qa wQ ((qq (ql wQ) (qI b.1 (2^min (1:Int).toNat (ql wQ)))^^^(qq (ql wQ) (3988292384:Int))).toNat:Nat),qa wO (b.2+1)) d)
 (f (qI b.1 (2^min (1:Int).toNat (ql wQ)),qa wO (b.2+1)) d))
 (i (b.1,qa wO (a.2+1)) d)) (qa wQ ((qq (ql wQ) a.1^^^(qq (ql wQ) (qa wQ x3))).toNat:Nat),(0:Int)) e)
 (R (wI wQ (qa wQ ((qq (ql wQ) (4294967295:Int)^^^(qq (ql wQ) a.1)).toNat:Nat))) e)) ((4294967295:Int),(0:Int)) h
theorem sR(a:Sl)(b: @pG R h a):ac wS 206 #[a] h R:=av ae Tryz.func206 (ak.tn (ak.tn (.two (ak.tn (.inn (.loop [(3,(.sc (.int .u32))),(9,be)] [(3,4),(5,7),(9,29)] (ak.tn (ak.tn (.two (.inn (ak.tn (ak.tn (ak.tn (.inn (.loop [(3,(.sc (.int .u32))),(17,be)] [(3,4),(6,7),(17,28)] .n)))))) .n)))))) .n))) b
end
end Go.Proofs.YtcamechmadjclaaGreatDoor
