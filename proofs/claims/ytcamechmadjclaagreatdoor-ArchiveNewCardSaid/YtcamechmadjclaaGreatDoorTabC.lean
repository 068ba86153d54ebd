/- Part of the proofs that the laws of this seat answer true whatever the input reads, and leave it as it was; no condition. -/
import Derived.Test.YtcamechmadjclaaGreatDoorTabA
set_option linter.unusedVariables false
set_option linter.unusedSimpArgs false
open Go.Proofs.Tryz renaming prog -> wS
open Go.Instr renaming alloc -> qC, box -> qA, storeAt -> qb
open Go.Value renaming bool -> wM, int -> wI, string -> wL
open Go.IntKind renaming bits -> ql, i64 -> wO, u32 -> wQ, u8 -> wP, wrap -> qa
open BitVec renaming ofInt -> qq
open Int renaming fdiv -> qI, tdiv -> wC
set_option maxRecDepth 1000000
namespace Go.Proofs.YtcamechmadjclaaGreatDoor
noncomputable section
open Go Go.Vc Go.Proofs
variable {R:Value->Heap->Prop} {h:Heap}
abbrev iu:FuncId:=208
def eu(a7:bI):Prop:=
 aJ wS (qA 74 a7) h fun b u=>
 aP (σ:=Unit) (fun _ h3=>
 ∃F:Sl,cellOf h3 (b.add 6)=some (F:Value)/\
 aM (σ:=Int) (fun d K2 v=>
 Br (d<(F.len:Int))
 (∃ad,(F.ptr=some ad/\0<=d/\d<(F.len:Int))/\
 ∃w,cellOf v (ad.add (d.toNat*1))=some (wI wO w)/\
 Br (w<0) (R false v) (Br (w>=64) (R false v) (Br (d>0) (∃I:Sl,cellOf v (b.add 6)=some (I:Value)/\
 ∃a2,(I.ptr=some a2/\0<=(qa wO (d-1))/\(qa wO (d-1))<(I.len:Int))/\
 ∃a3:Int,cellOf v (a2.add ((qa wO (d-1)).toNat*1))=some (wI wO a3)/\
 Br (w<=a3)
 (R false v)
 (K2 (qa wO (d+1)) v)) (K2 (qa wO (d+1)) v))))
 (∃B:Sl,cellOf v (b.add 7)=some (B:Value)/\
 aM (σ:=Int) (fun c K3 h5=>
 Br (c<(B.len:Int))
 (∃Q,(B.ptr=some Q/\0<=c/\c<(B.len:Int))/\
 ∃S:kv,ap h5 (Q.add (c.toNat*4)) 0 S/\
 aJ wS (qC 137 true (.tuple #[])) h5 fun a h6=>
 ab wS (qb 137 a S) h6 fun _ h7=>
 aP (σ:=Unit) (fun _ T=>
 ∃x:Sl,cellOf T (a.add 3)=some (x:Value)/\
 aM (σ:=Int) (fun p K5 r=>
 Br (p<(x.len:Int))
 (∃Y,(x.ptr=some Y/\0<=p/\p<(x.len:Int))/\
 ∃M,cellOf r (Y.add (p.toNat*1))=some (wI wO M)/\
 Br (M<0) (R false r) (Br (M>=16)
 (R false r)
 (K5 (qa wO (p+1)) r)))
 (aM (σ:=Int) (fun q K6 o=>
 Br (q<c)
 (∃J:Sl,cellOf o (b.add 7)=some (J:Value)/\
 ∃X,(J.ptr=some X/\0<=q/\q<(J.len:Int))/\
 ∃V:Int,cellOf o ((X.add (q.toNat*4)).add 1)=some (wI wO V)/\
 ∃O,cellOf o (a.add 1)=some (wI wO O)/\
 Br (V==O)
 (R false o)
 (K6 (qa wO (q+1)) o))
 (K3 (qa wO (c+1)) o)) (0:Int) r)) (0:Int) T)
 (fun K4=>
 ∃a4:ByteArray,cellOf h7 a=some (wL a4)/\
 ag wS 263 #[a4] bJ h7 fun a5 h8=>
 (an.ok [] h8)/\
 Br (!a5) ((an.ok [] h8)/\
 R false h8) (Br (c>0) (∃g:ByteArray,cellOf h8 a=some (wL g)/\
 ∃f:Sl,cellOf h8 (b.add 7)=some (f:Value)/\
 ∃a28,(f.ptr=some a28/\0<=(qa wO (c-1))/\(qa wO (c-1))<(f.len:Int))/\
 ∃e:ByteArray,cellOf h8 (a28.add ((qa wO (c-1)).toNat*4))=some (wL e)/\
 Br (Op.bytesLess g.toList e.toList||g.toList==e.toList) ((an.ok [(a28.add ((qa wO (c-1)).toNat*4),e),(b.add 7,f),(a,g)] h8)/\
 R false h8) (∃j,cellOf h8 (a.add 1)=some (wI wO j)/\
 Br (j<0) ((an.ok [(a.add 1,j),(a28.add ((qa wO (c-1)).toNat*4),e),(b.add 7,f),(a,g)] h8)/\
 R false h8) (∃l,cellOf h8 (a.add 1)=some (wI wO l)/\
 ∃k,cellOf h8 (b.add 1)=some (wI wO k)/\
 Br (l>=k) ((an.ok [(b.add 1,k),(a.add 1,l),(a.add 1,j),(a28.add ((qa wO (c-1)).toNat*4),e),(b.add 7,f),(a,g)] h8)/\
 R false h8) (∃s,cellOf h8 (a.add 2)=some (wI wO s)/\
 Br (s<0) ((an.ok [(a.add 2,s),(b.add 1,k),(a.add 1,l),(a.add 1,j),(a28.add ((qa wO (c-1)).toNat*4),e),(b.add 7,f),(a,g)] h8)/\
 R false h8) (∃y,cellOf h8 (a.add 2)=some (wI wO y)/\
 ∃z,cellOf h8 (b.add 2)=some (wI wO z)/\
 ∃G,cellOf h8 ((b.add 2).add 2)=some (wI wO G)/\
 Br (decide (y>(qa wO ((qa wO (z*G))*8)))) ((an.ok [((b.add 2).add 2,G),(b.add 2,z),(a.add 2,y),(a.add 2,s),(b.add 1,k),(a.add 1,l),(a.add 1,j),(a28.add ((qa wO (c-1)).toNat*4),e),(b.add 7,f),(a,g)] h8)/\
 R false h8) (∃K:Sl,cellOf h8 (a.add 3)=some (K:Value)/\
 ∃a0:bS,ap h8 (b.add 2) 0 a0/\
 ∃U,cellOf h8 (a.add 2)=some (wI wO U)/\
 ag wS 264 #[a0,U] cb h8 fun a8 h9=>
 (an.ok [(a.add 3,K),((b.add 2).add 2,G),(b.add 2,z),(a.add 2,y),(a.add 2,s),(b.add 1,k),(a.add 1,l),(a.add 1,j),(a28.add ((qa wO (c-1)).toNat*4),e),(b.add 7,f),(a,g)] h9)/\
 Br ((K.len:Int) !=a8)
 (R false h9)
 (K4 () h9))))))) (∃i,cellOf h8 (a.add 1)=some (wI wO i)/\
 Br (i<0) ((an.ok [(a.add 1,i)] h8)/\
 R false h8) (∃n,cellOf h8 (a.add 1)=some (wI wO n)/\
 ∃m,cellOf h8 (b.add 1)=some (wI wO m)/\
 Br (n>=m) ((an.ok [(b.add 1,m),(a.add 1,n),(a.add 1,i)] h8)/\
 R false h8) (∃t,cellOf h8 (a.add 2)=some (wI wO t)/\
 Br (t<0) ((an.ok [(a.add 2,t),(b.add 1,m),(a.add 1,n),(a.add 1,i)] h8)/\
 R false h8) (∃E,cellOf h8 (a.add 2)=some (wI wO E)/\
 ∃D,cellOf h8 (b.add 2)=some (wI wO D)/\
 ∃A,cellOf h8 ((b.add 2).add 2)=some (wI wO A)/\
 Br (decide (E>(qa wO ((qa wO (D*A))*8)))) ((an.ok [((b.add 2).add 2,A),(b.add 2,D),(a.add 2,E),(a.add 2,t),(b.add 1,m),(a.add 1,n),(a.add 1,i)] h8)/\
 R false h8) (∃L:Sl,cellOf h8 (a.add 3)=some (L:Value)/\
 ∃W:bS,ap h8 (b.add 2) 0 W/\
 ∃P,cellOf h8 (a.add 2)=some (wI wO P)/\
 ag wS 264 #[W,P] cb h8 fun a6 N=>
 (an.ok [(a.add 3,L),((b.add 2).add 2,A),(b.add 2,D),(a.add 2,E),(a.add 2,t),(b.add 1,m),(a.add 1,n),(a.add 1,i)] N)/\
 Br ((L.len:Int) !=a6)
 (R false N)
 (K4 () N)))))))))
 (R true h5)) (0:Int) v)) (0:Int) h3)
 (fun K1=>
 ∃x2,cellOf u b=some (wI wO x2)/\
 Br (x2<1) (R false u) (∃x3,cellOf u b=some (wI wO x3)/\
 Br (x3>2147483647) (R false u) (∃x4,cellOf u (b.add 1)=some (wI wO x4)/\
 Br (x4<0) (R false u) (∃x5,cellOf u (b.add 1)=some (wI wO x5)/\
 Br (x5>16777216) (R false u) (∃x6:bS,ap u (b.add 2) 0 x6/\
 ag wS 88 #[x6] bJ u fun r7 H=>
 Br (!r7) (R false H) (∃x8,cellOf H (b.add 5)=some (wI wO x8)/\
 Br (x8<0) (R false H) (∃x9,cellOf H (b.add 5)=some (wI wO x9)/\
 Br (x9>16) (R false H) (∃Z:Sl,cellOf H (b.add 7)=some (Z:Value)/\
 Br ((Z.len:Int)>12)
 (R false H)
 (K1 () H)))))))))
theorem il(a:bI)(b: @eu R h a):ac wS 208 #[a] h R:=av ae Tryz.func208 (ak.tn (.two (.join [] [(2,3),(10,50)] .n) (.two (ak.tn (.inn (.loop [(53,be)] [(2,5),(53,79)] .n))) (.two (ak.tn (.inn (.loop [(82,be)] [(2,3),(5,7),(8,10),(82,177)] (ak.tn (ak.tn (.two (.inn (ak.tn (.two (.join [] [(2,3),(87,148)] .n) (.two (ak.tn (.inn (.loop [(151,be)] [(2,3),(8,9),(151,162)] .n))) (ak.tn (.inn (.loop [(9,be)] [(2,3),(9,10),(162,176)] .n))))))) .n)))))) .n)))) b
abbrev kf:FuncId:=209
def fz(c:Sl):Prop:=
 aM (σ:=Int×Int) (fun a i e=>
 Br (a.2<(c.len:Int))
 (∃g,(c.ptr=some g/\0<=a.2/\a.2<(c.len:Int))/\
 ∃x3,cellOf e (g.add (a.2.toNat*1))=some (wI wP x3)/\
 aM (σ:=Int×Int) (fun b f d=>
 Br (b.2<8)
 (Br ((qa wQ ((qq (ql wQ) b.1&&&(qq (ql wQ) (1:Int))).toNat:Nat))==1)
 ((0<=(1:Int))/\
 f (qa wQ ((qq (ql wQ) (qI b.1 (2^min (1:Int).toNat (ql wQ)))^^^(qq (ql wQ) (3988292384:Int))).toNat:Nat),qa wO (b.2+1)) d)
 ((0<=(1:Int))/\
 f (qI b.1 (2^min (1:Int).toNat (ql wQ)),qa wO (b.2+1)) d))
 (i (b.1,qa wO (a.2+1)) d)) (qa wQ ((qq (ql wQ) a.1^^^(qq (ql wQ) (qa wQ x3))).toNat:Nat),(0:Int)) e)
 (R (wI wQ (qa wQ ((qq (ql wQ) (4294967295:Int)^^^(qq (ql wQ) a.1)).toNat:Nat))) e)) ((4294967295:Int),(0:Int)) h
theorem jF(a:Sl)(b: @fz R h a):ac wS 209 #[a] h R:=av ae Tryz.func209 (ak.tn (ak.tn (.two (ak.tn (.inn (.loop [(3,(.sc (.int .u32))),(8,be)] [(3,6),(8,31)] (ak.tn (ak.tn (.two (.inn (ak.tn (ak.tn (ak.tn (.inn (.loop [(3,(.sc (.int .u32))),(5,be)] [(3,4),(5,6),(18,30)] .n)))))) .n)))))) .n))) b
abbrev ge:FuncId:=210
def dE(a:Option Addr):Prop:=
 ∃k,(a=some k)/\
 ∃x2:Bool,cellOf h k=some (wM x2)/\
 Br x2
 (R false h)
 (aP (σ:=Unit) (fun _ j=>
 ∃i,(a=some i)/\
 ∃b:Bool,cellOf j (i.add 1)=some (wM b)/\
 Br b
 (∃e,(a=some e)/\
 ∃d,cellOf j (e.add 2)=some (wI wO d)/\
 ∃g,(a=some g)/\
 ab wS (qb 3 (g.add 2) (qa wO (d-1))) j fun _ s=>
 R true s)
 (R true j))
 (fun r=>
 aP (σ:=Bool) (fun t m=>
 Br t
 (∃n,(a=some n)/\
 ab wS (qb 4 n true) m fun _ q=>
 ∃a9,(a=some a9)/\
 ∃f,cellOf q (a9.add 3)=some (wI wO f)/\
 ∃c,(a=some c)/\
 ab wS (qb 3 (c.add 3) (qa wO (f+1))) q fun _ u=>
 R false u)
 (r () m))
 (fun p=>
 ∃a3,(a=some a3)/\
 ∃l:Bool,cellOf h (a3.add 1)=some (wM l)/\
 Br l (∃a5,(a=some a5)/\
 ∃o,cellOf h (a5.add 2)=some (wI wO o)/\
 p (o==0) h) (p false h))))
theorem fS(a:Option Addr)(b: @dE R h a):ac wS 210 #[a] h R:=av ae Tryz.func210 (ak.tn (ak.tn (.two (.join [] [(2,3),(7,28)] (.two (.join [(17,uQ)] [(7,18)] .n) .n)) .n))) b
abbrev fT:FuncId:=253
def kB(a:Int):Prop:=
 ag wS 194 #[a,(wI wO (0:Int)),(wI wO (15:Int))] bJ h fun b c=>
 R (wM (!b)) c
theorem nH(a:Int)(b: @kB R h a):ac wS 253 #[a] h R:=av ae Tryz.func253 .n b
abbrev jG:FuncId:=263
def fe(d:ByteArray):Prop:=
 aM (σ:=Int) (fun c e a=>
 Br (c<(d.size:Int))
 (∃b:UInt8,(0<=c/\d.data[c.toNat]?=some b)/\
 Br ((b.toNat:Nat)>=(97:Int)) (Br ((b.toNat:Nat)<=(122:Int)) (e (qa wO (c+1)) a) (Br ((b.toNat:Nat)>=(48:Int)) (Br ((b.toNat:Nat)<=(57:Int)) (e (qa wO (c+1)) a) (Br (!((b.toNat:Nat)==(45:Int)))
 (R false a)
 (e (qa wO (c+1)) a))) (Br (!((b.toNat:Nat)==(45:Int)))
 (R false a)
 (e (qa wO (c+1)) a)))) (Br ((b.toNat:Nat)>=(48:Int)) (Br ((b.toNat:Nat)<=(57:Int)) (e (qa wO (c+1)) a) (Br (!((b.toNat:Nat)==(45:Int)))
 (R false a)
 (e (qa wO (c+1)) a))) (Br (!((b.toNat:Nat)==(45:Int)))
 (R false a)
 (e (qa wO (c+1)) a))))
 (Br ((d.size:Int)>=1) (R (decide ((d.size:Int)<=12)) a) (R false a))) (0:Int) h
theorem jm(a:ByteArray)(b: @fe R h a):ac wS 263 #[a] h R:=av ae Tryz.func263 (ak.tn (.two (ak.tn (.inn (.loop [(3,be)] [(2,33)] .n))) .n)) b
abbrev jn:FuncId:=264
def eP(j:bS)(a:Int):Prop:=
 aJ wS (qA 23 j) h fun c l=>
 aP (σ:=Unit) (fun _ b=>
 ∃d,cellOf b c=some (wI wO d)/\
 ∃e,cellOf b (c.add 2)=some (wI wO e)/\
 ((qa wO (d*e))≠0)/\
 aP (σ:=Int) (fun n p=>
 R n p)
 (fun k=>
 ∃f,cellOf b c=some (wI wO f)/\
 ∃g,cellOf b (c.add 2)=some (wI wO g)/\
 ((qa wO (f*g))≠0)/\
 Br (decide ((Int.tmod a (qa wO (f*g)))>0))
 (k (qa wO ((qa wO (wC a (qa wO (d*e))))+1)) b)
 (k (qa wO (wC a (qa wO (d*e)))) b)))
 (fun m=>
 ∃x2:bS,ap l c 0 x2/\
 ag wS 88 #[x2] bJ l fun o i=>
 Br (!o) (R (wI wO (0:Int)) i) (Br (a<0)
 (R (wI wO (0:Int)) i)
 (m () i)))
theorem iK(b:bS)(a:Int)(c: @eP R h b a):ac wS 264 #[b,a] h R:=av ae Tryz.func264 (ak.tn (.two (.join [] [(4,5),(6,13)] .n) (ak.tn (.two (.join [(5,be)] [(5,6),(20,30)] .n) .n)))) c
end
end Go.Proofs.YtcamechmadjclaaGreatDoor
