/- Lemmas for the proof of the law; no condition. -/
import Derived.Test.YtbhpnfilcomonaaGreatDoorTabA
set_option linter.unusedVariables false
open Go.Proofs.Tryz renaming prog -> xa
open Go.Value renaming agg -> vV, bool -> vU, int -> vQ, slice -> vR
open Go.IntKind renaming bits -> qj, i64 -> vW, u32 -> vY, u64 -> vZ, u8 -> vX, wrap -> qc
open Int renaming fdiv -> qL, tdiv -> w5, tmod -> zY
open Option renaming isNone -> qO
open Go.Instr renaming alloc -> qG, box -> qI, buildSlice -> qt, storeAt -> qe
open Go.Builtin renaming append_ -> qu
open BitVec renaming ofInt -> qy
open Go.Proofs.Tryz
set_option maxRecDepth 1000000
namespace Go.Qw
noncomputable section
open Go Go.Vc Go.Proofs
variable {R:ug} {h:Heap}
def pS(a:Sl)(b:Int):Prop:=
 aY (σ:=Unit) (fun _ g=>
 aN (σ:=Int) (fun c i d=>
 Br (c<(a.len:Int))
 (∃a5,(a.ptr=some a5/\0<=c/\c<(a.len:Int))/\
 ∃f,cellOf d (a5.add (c.toNat*1))=some (vQ vW f)/\
 Br (f>b)
 (R (qc vW (c+1)) d)
 (i (qc vW (c+1)) d))
 (R (vQ vW 0) d)) (0:Int) g)
 (fun K1=>
 Br ((a.len:Int)==0) (R (vQ vW 0) h) (Br (b<0) (R (vQ vW 0) h) (∃e,(a.ptr=some e/\0<=(qc vW ((a.len:Int)-1))/\(qc vW ((a.len:Int)-1))<(a.len:Int))/\
 ∃x2:Int,cellOf h (e.add ((qc vW ((a.len:Int)-1)).toNat*1))=some (vQ vW x2)/\
 Br (b>=x2)
 (R (vQ vW 0) h)
 (K1 () h))))
theorem AJ(a:Sl)(b:Int)(c:@pS R h a b):ac xa 196 #[a,b] h R:=ao af func196 (ak.tn (.two (.join [] [(4,5),(7,24)] .n) (.two (ak.tn (.inn (.loop [(26,bc)] [(4,7),(26,37)] .n))) .n))) c
def oD(b:aM)(a:Int):Prop:=
 aY (σ:=Unit) (fun _ d=>
 ae xa 143 #[b] (.one (.sc (.int .u32))) d fun e c=>
 ((qc vZ a)≠0)/\
 R (qc vW (zY (qc vZ e) (qc vZ a))) c)
 (fun K1=>
 Br (qO b) (R (vQ vW 0) h) (Br (a<=0)
 (R (vQ vW 0) h)
 (K1 () h)))
theorem xJ(a:aM)(b:Int)(c:@oD R h a b):ac xa 197 #[a,b] h R:=ao af func197 (ak.tn (.two (.join [] [(4,11)] .n) .n)) c
def pT(a:Int)(b:Int):Prop:=
 ae xa 225 #[a] bp h fun c g=>
 (a≠0)/\
 aY (σ:=Int) (fun e d=>
 aY (σ:=Int) (fun j k=>
 R j k)
 (fun f=>
 (c≠0)/\
 Br (b<(qc vW (w5 a c)))
 (((qc vW (a*b))≠0)/\
 f (qc vW (e+(qc vW (w5 (qc vW (1048576*c)) (qc vW (a*b)))))) d)
 (Br (b==(qc vW (w5 a c)))
 (ae xa 115 #[(vQ vZ (qc vZ c))] bp d fun i h3=>
 (a≠0)/\
 f (qc vW (e+(qc vW (w5 (qc vW ((qc vW (1048576*c))*i)) a)))) h3)
 (f e d))))
 (fun K1=>
 Br (b>1)
 (((qc vW (b*(qc vW (b-1))))≠0)/\
 K1 (qc vW (w5 1048576 (qc vW (b*(qc vW (b-1)))))) g)
 (K1 (qc vW (w5 1048576 a)) g))
theorem AK(a:Int)(b:Int)(c:@pT R h a b):ac xa 198 #[a,b] h R:=ao af func198 (ak.tn (ak.tn (ak.tn (.two (.join [(6,bc)] [(6,7),(12,19)] .n) (.two (.join [(6,bc)] [(6,8),(19,48)] .n) .n))))) c
def CM(a:Sl):Prop:=
 Br ((a.len:Int) !=64)
 (R (.tuple #[(vQ vW 0),(vR none 0 0),false]) h)
 (∃b,(a.ptr=some b/\0<=(3:Int)/\(3:Int)<(a.len:Int))/\
 ∃x2:Int,cellOf h (b.add ((3:Int).toNat*1))=some (vQ vX x2)/\
 (0<=(4:Int)/\(4:Int)<=(59:Int)/\(59:Int)<=(a.cap:Int))/\
 ae xa 56 #[(.slice (if a.cap=(4:Int).toNat then a.ptr else a.ptr.map (·.add ((4:Int).toNat*1))) ((59:Int).toNat-(4:Int).toNat) (a.cap-(4:Int).toNat))] aO h fun d c=>
 (aB.ok [(b.add ((3:Int).toNat*1),(vQ vX x2))] c)/\
 ae xa 92 #[(qc vW x2),d] aO c fun f e=>
 ae xa 43 #[a,f] bY e fun g h3=>
 Br (!g)
 (R (.tuple #[(vQ vW 0),(vR none 0 0),false]) h3)
 (R (.tuple #[(qc vW x2),d,true]) h3))
theorem IZ(a:Sl)(b:@CM R h a):ac xa 204 #[a] h R:=ao af func204 .n b
def AL(b:Sl)(a:ByteArray):Prop:=
 Br ((b.len:Int)==0)
 (R (vR none 0 0) h)
 (Br (a.toList==Xn.toList)
 (R b h)
 (aY (σ:=Unit) (fun _ h3=>
 ae xa 229 #[a] (.many [(.arr .bool),ji]) h3 fun k t=>
 aI xa (qG 279 true (.tuple #[])) t fun e u=>
 ab xa (qe 279 e (vV (k.1.map (Sc.enc .bool)).toArray)) u fun _ i=>
 Br k.2
 (ae xa 231 #[b,e] aO i fun p s=>
 ae xa 230 #[p,e] aO s fun g h8=>
 R g h8)
 (ae xa 233 #[b,a] aO i fun c o=>
 ae xa 232 #[c,a] aO o fun d f=>
 R d f))
 (fun K1=>
 Br ((a.size:Int)==1) (∃m:UInt8,(0<=(0:Int)/\a.data[(0:Int).toNat]?=some m)/\
 Br ((m.toNat:Nat)<(128:Int))
 (∃l:UInt8,(0<=(0:Int)/\a.data[(0:Int).toNat]?=some l)/\
 ∃c3:UInt8,(0<=(0:Int)/\a.data[(0:Int).toNat]?=some c3)/\
 ae xa 228 #[b,(vQ vX (l.toNat:Nat))] aO h fun r n=>
 (aB.ok [] n)/\
 ae xa 227 #[r,(vQ vX (c3.toNat:Nat))] aO n fun q j=>
 (aB.ok [] j)/\
 R q j)
 (K1 () h)) (K1 () h))))
theorem GO(b:Sl)(a:ByteArray)(c:@AL R h b a):ac xa 205 #[b,a] h R:=ao af func205 (ak.tn (ak.tn (ak.tn (.two (.join [] [(4,5),(13,28)] .n) .n)))) c
def fS(b:Sl)(a:cq):Prop:=
 aN (σ:=Int) (fun c K1 d=>
 Br (c<(b.len:Int))
 (∃f,(b.ptr=some f/\0<=c/\c<(b.len:Int))/\
 ∃x3:lN,ai d (f.add (c.toNat*5)) 0 x3/\
 gy C a.1 (a.2.1.toList++[(vV #[x3.1,x3.2.1,x3.2.2.1,x3.2.2.2.1,x3.2.2.2.2])]++a.2.2.toList) bY d fun g e=>
 Br g
 (R c e)
 (K1 (qc vW (c+1)) e))
 (R (vQ vW (-1:Int)) d)) (0:Int) h
theorem jx(b:Sl)(a:cq)(c:@fS R h b a):ac xa 206 #[b,(.func (.func a.1) a.2.1 a.2.2)] h R:=ao af func206 (ak.tn (.two (ak.tn (.inn (.loop [(8,bc)] [(4,6),(8,19)] .n))) .n)) c
def rK(e:lN)(a:Addr)(c:Addr):Prop:=
 aI xa (qI 214 e) h fun d b=>
 ∃x2,cellOf b d=some (vQ vW x2)/\
 ∃x3,cellOf b a=some (vQ vW x3)/\
 Br (x2==x3) (∃i,cellOf b (d.add 2)=some (vQ vW i)/\
 ∃f,cellOf b (a.add 2)=some (vQ vW f)/\
 Br (i==f) (∃j,cellOf b (d.add 1)=some (vQ vW j)/\
 ∃g,cellOf b c=some (vQ vW g)/\
 R (vU (j==g)) b) (R false b)) (R false b)
theorem Cf(c:lN)(a:Addr)(b:Addr)(d:@rK R h c a b):ac xa 207 #[c,a,b] h R:=ao af func207 .n d
def AM(m:Sl):Prop:=
 aI xa (qG 47 true (.tuple #[])) h fun l h1=>
 aI xa (qI 286 (vV #[m,false])) h1 fun a h2=>
 ae xa 234 #[a,(vQ vW 4)] bp h2 fun r3 h3=>
 ae xa 234 #[a,(vQ vW 4)] bp h3 fun r4 h4=>
 aI xa (qG 47 true (.tuple #[])) h4 fun a5 h5=>
 ab xa (qe 47 a5 (vV #[r3,r4,(vQ vW 0),(vQ vW 0),(vQ vW 0),(vQ vW 0),(vR none 0 0),(vR none 0 0)])) h5 fun _ h6=>
 ae xa 234 #[a,(vQ vW 1)] bp h6 fun r6 h7=>
 ae xa 234 #[a,(vQ vW 1)] bp h7 fun r7 h8=>
 ae xa 234 #[a,(vQ vW 1)] bp h8 fun r8 h9=>
 ab xa (qe 24 (a5.add 2) (vV #[r6,r7,r8])) h9 fun _ X=>
 ae xa 234 #[a,(vQ vW 1)] bp X fun r9 N=>
 ab xa (qe 3 (a5.add 5) r9) N fun _ P=>
 aY (σ:=Unit) (fun _ Q=>
 aY (σ:=Unit) (fun _ e=>
 aY (σ:=Unit) (fun _ z=>
 ∃A:bH,ai z a5 0 A/\
 ab xa (qe 47 l A) z fun _ q=>
 ∃g:bH,ai q l 0 g/\
 R (.tuple #[g,true]) q)
 (fun K5=>
 ∃E:Addr,(some a=some E)/\
 ∃I:Bool,cellOf e (E.add 1)=some (vU I)/\
 Br I (ab xa (qe 47 l (vV #[(vQ vW 0),(vQ vW 0),(vQ vW 0),(vQ vW 0),(vQ vW 0),(vQ vW 0),(vR none 0 0),(vR none 0 0)])) e fun _ r=>
 ∃i:bH,ai r l 0 i/\
 R (.tuple #[i,false]) r) (Br ((m.len:Int)==0) (ab xa (qe 47 l (vV #[(vQ vW 0),(vQ vW 0),(vQ vW 0),(vQ vW 0),(vQ vW 0),(vQ vW 0),(vR none 0 0),(vR none 0 0)])) e fun _ y=>
 ∃c:bH,ai y l 0 c/\
 R (.tuple #[c,false]) y) (∃s:bH,ai e a5 0 s/\
 ae xa 52 #[s] aO e fun ad V=>
 ae xa 43 #[m,ad] bY V fun ay K=>
 Br (!ay)
 (ab xa (qe 47 l (vV #[(vQ vW 0),(vQ vW 0),(vQ vW 0),(vQ vW 0),(vQ vW 0),(vQ vW 0),(vR none 0 0),(vR none 0 0)])) K fun _ B=>
 ∃d:bH,ai B l 0 d/\
 R (.tuple #[d,false]) B)
 (K5 () K)))))
 (fun K3=>
 ae xa 234 #[a,(vQ vW 1)] bp Q fun U T=>
 aN (σ:=Int) (fun w K4 b=>
 Br (w<U)
 (∃p:Addr,(some a=some p)/\
 ∃J:Bool,cellOf b (p.add 1)=some (vU J)/\
 Br J
 (K3 () b)
 (∃k:Sl,cellOf b (a5.add 7)=some (k:Value)/\
 ∃G:bX,ai b (a5.add 2) 0 G/\
 ae xa 235 #[a,G] (.one (.agg [.str,(.int .i64),(.int .i64),.slc])) b fun O o=>
 (aB.ok [(a5.add 7,k)] o)/\
 av xa (qt 45 1 #[(0,O)]) aO o fun a0 M=>
 (aB.ok [(a5.add 7,k)] M)/\
 av xa (qu #[45,45] 45 #[k,a0]) aO M fun ax H=>
 (aB.ok [] H)/\
 ab xa (qe 45 (a5.add 7) ax) H fun _ D=>
 (aB.ok [] D)/\
 K4 (qc vW (w+1)) D))
 (K3 () b)) (0:Int) T))
 (fun K1=>
 ae xa 234 #[a,(vQ vW 1)] bp P fun Z S=>
 aN (σ:=Int) (fun t K2 f=>
 Br (t<Z)
 (∃v:Addr,(some a=some v)/\
 ∃n:Bool,cellOf f (v.add 1)=some (vU n)/\
 Br n
 (K1 () f)
 (∃j:Sl,cellOf f (a5.add 6)=some (j:Value)/\
 ae xa 234 #[a,(vQ vW 1)] bp f fun Y x=>
 (aB.ok [(a5.add 6,j)] x)/\
 av xa (qt 22 1 #[(0,Y)]) aO x fun am L=>
 (aB.ok [(a5.add 6,j)] L)/\
 av xa (qu #[22,22] 22 #[j,am]) aO L fun W u=>
 (aB.ok [] u)/\
 ab xa (qe 22 (a5.add 6) W) u fun _ F=>
 (aB.ok [] F)/\
 K2 (qc vW (t+1)) F))
 (K1 () f)) (0:Int) S)
theorem GP(a:Sl)(b:@AM R h a):ac xa 208 #[a] h R:=ao af func208 (ak.tn (ak.tn (ak.tn (ak.tn (ak.tn (.two (.join [] [(25,41)] (ak.tn (.inn (.loop [(27,bc)] [(27,41)] .n)))) (.two (.join [] [(41,59)] (ak.tn (.inn (.loop [(43,bc)] [(43,59)] .n)))) (.two (.join [] [(3,4),(59,76)] .n) .n)))))))) b
def dD(b:Sl)(d:Sl)(a:cq):Prop:=
 Br ((b.len:Int) !=(d.len:Int))
 (R false h)
 (aN (σ:=Int) (fun c K1 f=>
 Br (c<(b.len:Int))
 (∃i,(b.ptr=some i/\0<=c/\c<(b.len:Int))/\
 ∃x3:Sl,cellOf f (i.add (c.toNat*1))=some (x3:Value)/\
 ∃a4,(d.ptr=some a4/\0<=c/\c<(d.len:Int))/\
 ∃g:lN,ai f (a4.add (c.toNat*5)) 0 g/\
 aI xa (qG 214 true (.tuple #[])) f fun j l=>
 ab xa (qe 214 j g) l fun _ h3=>
 ∃e:lN,ai h3 j 0 e/\
 gy C a.1 (a.2.1.toList++[(vR x3.ptr x3.len x3.cap),(vV #[e.1,e.2.1,e.2.2.1,e.2.2.2.1,e.2.2.2.2])]++a.2.2.toList) bY h3 fun m k=>
 Br (!m)
 (R false k)
 (K1 (qc vW (c+1)) k))
 (R true f)) (0:Int) h)
theorem gd(b:Sl)(c:Sl)(a:cq)(d:@dD R h b c a):ac xa 209 #[b,c,(.func (.func a.1) a.2.1 a.2.2)] h R:=ao af func209 (ak.tn (ak.tn (.two (ak.tn (.inn (.loop [(17,bc)] [(6,10),(17,32)] .n))) .n))) d
def tl(b:Sl)(a:lN):Prop:=
 aI xa (qI 214 a) h fun e c=>
 ∃x2:Sl,cellOf c (e.add 4)=some (x2:Value)/\
 ae xa 43 #[b,x2] bY c fun f d=>
 R f d
theorem DI(a:Sl)(b:lN)(c:@tl R h a b):ac xa 210 #[a,b] h R:=ao af func210 .n c
def gh(b:Sl)(c:Int)(a:cq):Prop:=
 aN (σ:=Int×Int) (fun f K1 i=>
 Br (f.2<=c)
 (ae xa 236 #[b,f.1,f.2,(.func (.func a.1) a.2.1 a.2.2)] ia i fun _ l=>
 K1 (f.2,qc vW (f.2+20)) l)
 (ae xa 236 #[b,f.1,c,(.func (.func a.1) a.2.1 a.2.2)] ia i fun _ h3=>
 aN (σ:=Int) (fun e k j=>
 Br (e<c)
 (aN (σ:=Int×Int) (fun d n g=>
 Br (d.2<=c)
 (ae xa 237 #[b,d.1,(qc vW (d.1+e)),d.2,(.func (.func a.1) a.2.1 a.2.2)] ia g fun _ o=>
 n (d.2,qc vW (d.2+(qc vW (2*e)))) o)
 (Br ((qc vW (d.1+e))<c)
 (ae xa 237 #[b,d.1,(qc vW (d.1+e)),c,(.func (.func a.1) a.2.1 a.2.2)] ia g fun _ m=>
 k (qc vW (e*2)) m)
 (k (qc vW (e*2)) g))) ((0:Int),qc vW (2*e)) j)
 (R (.tuple #[]) j)) (20:Int) h3)) ((0:Int),(20:Int)) h
theorem ka(b:Sl)(c:Int)(a:cq)(d:@gh R h b c a):ac xa 211 #[b,c,(.func (.func a.1) a.2.1 a.2.2)] h R:=ao af func211 (ak.tn (ak.tn (.two (.inn (.loop [(7,bc),(8,bc)] [(7,9),(11,23)] .n)) (ak.tn (.inn (.loop [(6,bc)] [(6,10),(28,63)] (ak.tn (.inn (ak.tn (.two (.inn (.loop [(7,bc),(8,bc)] [(7,9),(33,49)] .n)) .n)))))))))) d
def xv(b:Sl):Prop:=
 aN (σ:=Int×Int) (fun a K1 c=>
 Br (a.2<(b.len:Int))
 (∃d,(b.ptr=some d/\0<=a.2/\a.2<(b.len:Int))/\
 ∃x3,cellOf c (d.add (a.2.toNat*1))=some (vQ vX x3)/\
 (0<=(8:Int))/\
 K1 (qc vW ((qy (qj vW) (qc vW (a.1*2^min (8:Int).toNat (qj vW)))|||(qy (qj vW) (qc vW x3))).toNat:Nat),qc vW (a.2+1)) c)
 (R a.1 c)) ((0:Int),(0:Int)) h
theorem Fq(a:Sl)(b:@xv R h a):ac xa 212 #[a] h R:=ao af func212 (ak.tn (ak.tn (.two (ak.tn (.inn (.loop [(3,bc),(8,bc)] [(3,4),(5,6),(8,18)] .n))) .n))) b
def rL(k:gr)(a:Addr):Prop:=
 aI xa (qI 73 k) h fun d b=>
 ∃x2,cellOf b (d.add 1)=some (vQ vW x2)/\
 ∃x3,cellOf b a=some (vQ vW x3)/\
 Br (x2==x3) (∃i:Sl,cellOf b (d.add 3)=some (i:Value)/\
 ∃g,cellOf b (a.add 1)=some (vQ vW g)/\
 Br ((i.len:Int)>g) (∃l,cellOf b (a.add 6)=some (vQ vY l)/\
 ∃o,cellOf b a=some (vQ vW o)/\
 ∃p,cellOf b (a.add 1)=some (vQ vW p)/\
 ∃j:Sl,cellOf b (d.add 3)=some (j:Value)/\
 ∃c,cellOf b (a.add 1)=some (vQ vW c)/\
 ∃e,(j.ptr=some e/\0<=c/\c<(j.len:Int))/\
 ∃f,cellOf b (e.add (c.toNat*1))=some (vQ vW f)/\
 ae xa 63 #[o,p,f] (.one (.sc (.int .u32))) b fun m n=>
 (aB.ok [(a.add 1,c),(d.add 3,j),(a.add 6,(vQ vY l)),(a.add 1,g),(d.add 3,i),(a,x3),(d.add 1,x2)] n)/\
 R (vU (l==m)) n) ((aB.ok [(a.add 1,g),(d.add 3,i),(a,x3),(d.add 1,x2)] b)/\
 R false b)) ((aB.ok [(a,x3),(d.add 1,x2)] b)/\
 R false b)
theorem Cg(b:gr)(a:Addr)(c:@rL R h b a):ac xa 213 #[b,a] h R:=ao af func213 .n c
def gT(b:Sl)(c:Int)(a:cq):Prop:=
 aN (σ:=Int×Int) (fun f K1 i=>
 Br (f.2<=c)
 (ae xa 238 #[b,f.1,f.2,(.func (.func a.1) a.2.1 a.2.2)] ia i fun _ l=>
 K1 (f.2,qc vW (f.2+20)) l)
 (ae xa 238 #[b,f.1,c,(.func (.func a.1) a.2.1 a.2.2)] ia i fun _ h3=>
 aN (σ:=Int) (fun e k j=>
 Br (e<c)
 (aN (σ:=Int×Int) (fun d n g=>
 Br (d.2<=c)
 (ae xa 239 #[b,d.1,(qc vW (d.1+e)),d.2,(.func (.func a.1) a.2.1 a.2.2)] ia g fun _ o=>
 n (d.2,qc vW (d.2+(qc vW (2*e)))) o)
 (Br ((qc vW (d.1+e))<c)
 (ae xa 239 #[b,d.1,(qc vW (d.1+e)),c,(.func (.func a.1) a.2.1 a.2.2)] ia g fun _ m=>
 k (qc vW (e*2)) m)
 (k (qc vW (e*2)) g))) ((0:Int),qc vW (2*e)) j)
 (R (.tuple #[]) j)) (20:Int) h3)) ((0:Int),(20:Int)) h
theorem kD(b:Sl)(c:Int)(a:cq)(d:@gT R h b c a):ac xa 214 #[b,c,(.func (.func a.1) a.2.1 a.2.2)] h R:=ao af func214 (ak.tn (ak.tn (.two (.inn (.loop [(7,bc),(8,bc)] [(7,9),(11,23)] .n)) (ak.tn (.inn (.loop [(6,bc)] [(6,10),(28,63)] (ak.tn (.inn (ak.tn (.two (.inn (.loop [(7,bc),(8,bc)] [(7,9),(33,49)] .n)) .n)))))))))) d
def Fs(a:aM)(b:Sl):Prop:=
 ae xa 241 #[a,b] aO h fun c d=>
 R (vQ vW (c.len:Int)) d
theorem La(a:aM)(b:Sl)(c:@Fs R h a b):ac xa 218 #[a,b] h R:=ao af func218 .n c
def Ft(a:aM):Prop:=
 Br (qO a)
 (ae xa 101 #[] iX h fun b c=>
 R b c)
 (R a h)
theorem Lb(a:aM)(b:@Ft R h a):ac xa 219 #[a] h R:=ao af func219 .n b
def tm(f:aM)(a:Int)(b:Int):Prop:=
 aY (σ:=Unit) (fun _ k=>
 ae xa 221 #[f] iX k fun g c=>
 ∃a3,(g=some a3)/\
 (0<=a/\a<((256:Nat):Int))/\
 ∃d,cellOf c ((a3.add 255).add (a.toNat*1))=some (vQ vW d)/\
 ∃a5,(g=some a5)/\
 (0<=b/\b<((256:Nat):Int))/\
 ∃e,cellOf c ((a5.add 255).add (b.toNat*1))=some (vQ vW e)/\
 ((255:Int)≠0)/\
 ∃i,(g=some i)/\
 (0<=(zY (qc vW (d+e)) 255)/\(zY (qc vW (d+e)) 255)<((255:Nat):Int))/\
 ∃j:Int,cellOf c (i.add ((zY (qc vW (d+e)) 255).toNat*1))=some (vQ vX j)/\
 R (vQ vX j) c)
 (fun K1=>
 Br (a==0) (R (vQ vX 0) h) (Br (b==0)
 (R (vQ vX 0) h)
 (K1 () h)))
theorem DJ(a:aM)(c:Int)(b:Int)(d:@tm R h a c b):ac xa 220 #[a,(vQ vX c),(vQ vX b)] h R:=ao af func220 (ak.tn (.two (.join [] [(6,7),(8,14)] .n) .n)) d
def tq(a:aM):Prop:=
 Br (qO a)
 (ae xa 101 #[] iX h fun b c=>
 R b c)
 (R a h)
theorem DK(a:aM)(b:@tq R h a):ac xa 221 #[a] h R:=ao af func221 .n b
def tt(b:Int):Prop:=
 aN (σ:=Int) (fun a K1 c=>
 Br ((qc vW (a*a))<b)
 (K1 (qc vW (a+1)) c)
 (R a c)) (0:Int) h
theorem DL(a:Int)(b:@tt R h a):ac xa 225 #[a] h R:=ao af func225 (ak.tn (ak.tn (.two (.inn (.loop [(3,bc)] [(3,11)] .n)) .n))) b
def mC(b:Sl)(d:Int):Prop:=
 aY (σ:=Sl) (fun f h3=>
 Br ((f.len:Int)==0)
 (R (vR none 0 0) h3)
 (R f h3))
 (fun K1=>
 aN (σ:=Sl) (fun a j c=>
 aY (σ:=Unit) (fun _ g=>
 (0<=(1:Int)/\(1:Int)<=(a.len:Int))/\
 j (⟨(if a.cap=(1:Int).toNat then a.ptr else a.ptr.map (·.add ((1:Int).toNat*1))),(a.len-(1:Int).toNat),(a.cap-(1:Int).toNat)⟩:Sl) g)
 (fun i=>
 Br ((a.len:Int)>0) (∃e,(a.ptr=some e/\0<=(0:Int)/\(0:Int)<(a.len:Int))/\
 ∃x3:Int,cellOf c (e.add ((0:Int).toNat*1))=some (vQ vX x3)/\
 Br (x3==d)
 (i () c)
 (K1 (⟨a.ptr,a.len,a.cap⟩:Sl) c)) (K1 (⟨a.ptr,a.len,a.cap⟩:Sl) c))) (⟨b.ptr,b.len,b.cap⟩:Sl) h)
theorem sv(a:Sl)(b:Int)(c:@mC R h a b):ac xa 227 #[a,(vQ vX b)] h R:=ao af func227 (ak.tn (.two (.join [(0,dg)] [(0,1),(5,17)] (.inn (.loop [(0,dg)] [(0,1),(5,17)] (.two (.join [] [(5,15)] .n) .n)))) .n)) c
def lV(b:Sl)(d:Int):Prop:=
 aY (σ:=Sl) (fun i h3=>
 R i h3)
 (fun K1=>
 aN (σ:=Sl) (fun a j c=>
 aY (σ:=Unit) (fun _ f=>
 (0<=(qc vW ((a.len:Int)-1))/\(qc vW ((a.len:Int)-1))<=(a.cap:Int))/\
 j (⟨a.ptr,(qc vW ((a.len:Int)-1)).toNat,a.cap⟩:Sl) f)
 (fun g=>
 Br ((a.len:Int)>0) (∃e,(a.ptr=some e/\0<=(qc vW ((a.len:Int)-1))/\(qc vW ((a.len:Int)-1))<(a.len:Int))/\
 ∃x3:Int,cellOf c (e.add ((qc vW ((a.len:Int)-1)).toNat*1))=some (vQ vX x3)/\
 Br (x3==d)
 (g () c)
 (K1 (⟨a.ptr,a.len,a.cap⟩:Sl) c)) (K1 (⟨a.ptr,a.len,a.cap⟩:Sl) c))) (⟨b.ptr,b.len,b.cap⟩:Sl) h)
theorem ro(a:Sl)(b:Int)(c:@lV R h a b):ac xa 228 #[a,(vQ vX b)] h R:=ao af func228 (ak.tn (.two (.join [(0,dg)] [(0,1),(5,23)] (.inn (.loop [(0,dg)] [(0,1),(5,23)] (.two (.join [] [(5,18)] .n) .n)))) .n)) c
def mD(e:aM)(a:Int):Prop:=
 ae xa 247 #[e,a] aO h fun d g=>
 aN (σ:=Int×Int) (fun b K1 c=>
 Br (b.2<(d.len:Int))
 (∃a3,(d.ptr=some a3/\0<=b.2/\b.2<(d.len:Int))/\
 ∃f,cellOf c (a3.add (b.2.toNat*1))=some (vQ vX f)/\
 (0<=(8:Int))/\
 K1 (qc vW ((qy (qj vW) (qc vW (b.1*2^min (8:Int).toNat (qj vW)))|||(qy (qj vW) (qc vW f))).toNat:Nat),qc vW (b.2+1)) c)
 (R b.1 c)) ((0:Int),(0:Int)) g
theorem sw(b:aM)(a:Int)(c:@mD R h b a):ac xa 234 #[b,a] h R:=ao af func234 (ak.tn (ak.tn (.two (ak.tn (.inn (.loop [(5,bc),(12,bc)] [(5,6),(7,8),(12,22)] .n))) .n))) c
def mV(a:aM)(v:bX):Prop:=
 aI xa (qI 24 v) h fun M J=>
 aI xa (qG 73 true (.tuple #[])) J fun z F=>
 ae xa 234 #[a,(vQ vW 1)] bp F fun H h3=>
 ae xa 247 #[a,H] aO h3 fun K N=>
 av xa (convert 38 9 K) (.one UX) N fun v5 O=>
 aI xa (qG 73 true (.tuple #[])) O fun d E=>
 ab xa (qe 73 d (vV #[v5,(vQ vW 0),(vQ vW 0),(vR none 0 0)])) E fun _ L=>
 ae xa 234 #[a,(vQ vW 3)] bp L fun I h8=>
 ae xa 234 #[a,(vQ vW 2)] bp h8 fun G B=>
 ab xa (qe 3 (d.add 1) I) B fun _ y=>
 ab xa (qe 3 (d.add 2) G) y fun _ f=>
 aY (σ:=Unit) (fun _ p=>
 ∃g:gr,ai p d 0 g/\
 ab xa (qe 73 z g) p fun _ k=>
 ∃c:gr,ai k z 0 c/\
 R c k)
 (fun K1=>
 ∃A:bX,ai f M 0 A/\
 ∃o,cellOf f (d.add 2)=some (vQ vW o)/\
 ae xa 31 #[A,o] bp f fun t u=>
 aN (σ:=Int) (fun l D b=>
 Br (l<t)
 (∃q,(a=some q)/\
 ∃i:Bool,cellOf b (q.add 1)=some (vU i)/\
 Br i
 (K1 () b)
 (∃e:Sl,cellOf b (d.add 3)=some (e:Value)/\
 ae xa 234 #[a,(vQ vW 1)] bp b fun x n=>
 (aB.ok [(d.add 3,e)] n)/\
 av xa (qt 22 1 #[(0,x)]) aO n fun w m=>
 (aB.ok [(d.add 3,e)] m)/\
 av xa (qu #[22,22] 22 #[e,w]) aO m fun s r=>
 (aB.ok [] r)/\
 ab xa (qe 22 (d.add 3) s) r fun _ j=>
 (aB.ok [] j)/\
 D (qc vW (l+1)) j))
 (K1 () b)) (0:Int) u)
theorem tu(b:aM)(a:bX)(c:@mV R h b a):ac xa 235 #[b,a] h R:=ao af func235 (ak.tn (ak.tn (ak.tn (.two (.join [] [(18,36)] (ak.tn (.inn (.loop [(22,bc)] [(22,36)] .n)))) .n)))) c
def fh(a:Sl)(g:Int)(o:Int)(c:cq):Prop:=
 aN (σ:=Int) (fun n K1 r=>
 Br (n<o)
 (aN (σ:=Int) (fun b t j=>
 aY (σ:=Unit) (fun _ p=>
 ∃a9,(a.ptr=some a9/\0<=(qc vW (b-1))/\(qc vW (b-1))<(a.len:Int))/\
 ∃l:bH,ai p (a9.add ((qc vW (b-1)).toNat*8)) 0 l/\
 ∃f,(a.ptr=some f/\0<=b/\b<(a.len:Int))/\
 ∃k:bH,ai p (f.add (b.toNat*8)) 0 k/\
 ∃m,(a.ptr=some m/\0<=b/\b<(a.len:Int))/\
 ab xa (qe 47 (m.add (b.toNat*8)) l) p fun _ s=>
 (aB.ok [] s)/\
 ∃i,(a.ptr=some i/\0<=(qc vW (b-1))/\(qc vW (b-1))<(a.len:Int))/\
 ab xa (qe 47 (i.add ((qc vW (b-1)).toNat*8)) k) s fun _ q=>
 (aB.ok [] q)/\
 t (qc vW (b-1)) q)
 (fun u=>
 Br (b>g) (∃a3,(a.ptr=some a3/\0<=b/\b<(a.len:Int))/\
 ∃d:bH,ai j (a3.add (b.toNat*8)) 0 d/\
 ∃a5,(a.ptr=some a5/\0<=(qc vW (b-1))/\(qc vW (b-1))<(a.len:Int))/\
 ∃e:bH,ai j (a5.add ((qc vW (b-1)).toNat*8)) 0 e/\
 gy C c.1 (c.2.1.toList++[(vV #[d.1,d.2.1,d.2.2.1,d.2.2.2.1,d.2.2.2.2.1,d.2.2.2.2.2.1,d.2.2.2.2.2.2.1,d.2.2.2.2.2.2.2]),(vV #[e.1,e.2.1,e.2.2.1,e.2.2.2.1,e.2.2.2.2.1,e.2.2.2.2.2.1,e.2.2.2.2.2.2.1,e.2.2.2.2.2.2.2])]++c.2.2.toList) bp j fun v h3=>
 (aB.ok [] h3)/\
 Br (v<0)
 (u () h3)
 (K1 (qc vW (n+1)) h3)) ((aB.ok [] j)/\
 K1 (qc vW (n+1)) j))) n r)
 (R (.tuple #[]) r)) (qc vW (g+1)) h
theorem iL(b:Sl)(c:Int)(d:Int)(a:cq)(e:@fh R h b c d a):ac xa 236 #[b,c,d,(.func (.func a.1) a.2.1 a.2.2)] h R:=ao af func236 (ak.tn (.inn (.loop [(8,bc)] [(8,10),(12,53)] (ak.tn (.two (.inn (ak.tn (.inn (.loop [(9,bc)] [(9,10),(18,53)] (.two (.join [] [(18,35)] .n) .n))))) .n))))) e
def fD(a:Sl)(g:Int)(o:Int)(c:cq):Prop:=
 aN (σ:=Int) (fun n K1 r=>
 Br (n<o)
 (aN (σ:=Int) (fun b t j=>
 aY (σ:=Unit) (fun _ p=>
 ∃a9,(a.ptr=some a9/\0<=(qc vW (b-1))/\(qc vW (b-1))<(a.len:Int))/\
 ∃l:dA,ai p (a9.add ((qc vW (b-1)).toNat*8)) 0 l/\
 ∃f,(a.ptr=some f/\0<=b/\b<(a.len:Int))/\
 ∃k:dA,ai p (f.add (b.toNat*8)) 0 k/\
 ∃m,(a.ptr=some m/\0<=b/\b<(a.len:Int))/\
 ab xa (qe 119 (m.add (b.toNat*8)) l) p fun _ s=>
 (aB.ok [] s)/\
 ∃i,(a.ptr=some i/\0<=(qc vW (b-1))/\(qc vW (b-1))<(a.len:Int))/\
 ab xa (qe 119 (i.add ((qc vW (b-1)).toNat*8)) k) s fun _ q=>
 (aB.ok [] q)/\
 t (qc vW (b-1)) q)
 (fun u=>
 Br (b>g) (∃a3,(a.ptr=some a3/\0<=b/\b<(a.len:Int))/\
 ∃d:dA,ai j (a3.add (b.toNat*8)) 0 d/\
 ∃a5,(a.ptr=some a5/\0<=(qc vW (b-1))/\(qc vW (b-1))<(a.len:Int))/\
 ∃e:dA,ai j (a5.add ((qc vW (b-1)).toNat*8)) 0 e/\
 gy C c.1 (c.2.1.toList++[(vV #[d.1,d.2.1,d.2.2.1,d.2.2.2.1,d.2.2.2.2.1,d.2.2.2.2.2.1,(vQ vY d.2.2.2.2.2.2.1),d.2.2.2.2.2.2.2]),(vV #[e.1,e.2.1,e.2.2.1,e.2.2.2.1,e.2.2.2.2.1,e.2.2.2.2.2.1,(vQ vY e.2.2.2.2.2.2.1),e.2.2.2.2.2.2.2])]++c.2.2.toList) bp j fun v h3=>
 (aB.ok [] h3)/\
 Br (v<0)
 (u () h3)
 (K1 (qc vW (n+1)) h3)) ((aB.ok [] j)/\
 K1 (qc vW (n+1)) j))) n r)
 (R (.tuple #[]) r)) (qc vW (g+1)) h
theorem ja(b:Sl)(c:Int)(d:Int)(a:cq)(e:@fD R h b c d a):ac xa 238 #[b,c,d,(.func (.func a.1) a.2.1 a.2.2)] h R:=ao af func238 (ak.tn (.inn (.loop [(8,bc)] [(8,10),(12,53)] (ak.tn (.two (.inn (ak.tn (.inn (.loop [(9,bc)] [(9,10),(18,53)] (.two (.join [] [(18,35)] .n) .n))))) .n))))) e
def gi(a:Sl)(d:Int)(e:Int)(f:Int)(b:cq):Prop:=
 Br ((qc vW (e-d))==1)
 (aN (σ:=Int×Int) (fun n K1 L=>
 Br (n.1<n.2)
 ((0<=(1:Int))/\
 ∃a2,(a.ptr=some a2/\0<=(qc vW (qL (qc vZ (qc vW (n.1+n.2))) (2^min (1:Int).toNat (qj vZ))))/\(qc vW (qL (qc vZ (qc vW (n.1+n.2))) (2^min (1:Int).toNat (qj vZ))))<(a.len:Int))/\
 ∃x3:dA,ai L (a2.add ((qc vW (qL (qc vZ (qc vW (n.1+n.2))) (2^min (1:Int).toNat (qj vZ)))).toNat*8)) 0 x3/\
 ∃a4,(a.ptr=some a4/\0<=d/\d<(a.len:Int))/\
 ∃q:dA,ai L (a4.add (d.toNat*8)) 0 q/\
 gy C b.1 (b.2.1.toList++[(vV #[x3.1,x3.2.1,x3.2.2.1,x3.2.2.2.1,x3.2.2.2.2.1,x3.2.2.2.2.2.1,(vQ vY x3.2.2.2.2.2.2.1),x3.2.2.2.2.2.2.2]),(vV #[q.1,q.2.1,q.2.2.1,q.2.2.2.1,q.2.2.2.2.1,q.2.2.2.2.2.1,(vQ vY q.2.2.2.2.2.2.1),q.2.2.2.2.2.2.2])]++b.2.2.toList) bp L fun r6 N=>
 (aB.ok [] N)/\
 Br (r6<0)
 (K1 (qc vW ((qc vW (qL (qc vZ (qc vW (n.1+n.2))) (2^min (1:Int).toNat (qj vZ))))+1),n.2) N)
 (K1 (n.1,qc vW (qL (qc vZ (qc vW (n.1+n.2))) (2^min (1:Int).toNat (qj vZ)))) N))
 (aN (σ:=Int) (fun o K2 h3=>
 Br (o<(qc vW (n.1-1)))
 (∃a8,(a.ptr=some a8/\0<=(qc vW (o+1))/\(qc vW (o+1))<(a.len:Int))/\
 ∃x9:dA,ai h3 (a8.add ((qc vW (o+1)).toNat*8)) 0 x9/\
 ∃I,(a.ptr=some I/\0<=o/\o<(a.len:Int))/\
 ∃y:dA,ai h3 (I.add (o.toNat*8)) 0 y/\
 ∃x,(a.ptr=some x/\0<=o/\o<(a.len:Int))/\
 ab xa (qe 119 (x.add (o.toNat*8)) x9) h3 fun _ h4=>
 (aB.ok [] h4)/\
 ∃H,(a.ptr=some H/\0<=(qc vW (o+1))/\(qc vW (o+1))<(a.len:Int))/\
 ab xa (qe 119 (H.add ((qc vW (o+1)).toNat*8)) y) h4 fun _ h5=>
 (aB.ok [] h5)/\
 K2 (qc vW (o+1)) h5)
 (R (.tuple #[]) h3)) d L)) (e,f) h)
 (Br ((qc vW (f-e))==1)
 (aN (σ:=Int×Int) (fun g Y K=>
 Br (g.1<g.2)
 ((0<=(1:Int))/\
 ∃E,(a.ptr=some E/\0<=e/\e<(a.len:Int))/\
 ∃k:dA,ai K (E.add (e.toNat*8)) 0 k/\
 ∃F,(a.ptr=some F/\0<=(qc vW (qL (qc vZ (qc vW (g.1+g.2))) (2^min (1:Int).toNat (qj vZ))))/\(qc vW (qL (qc vZ (qc vW (g.1+g.2))) (2^min (1:Int).toNat (qj vZ))))<(a.len:Int))/\
 ∃j:dA,ai K (F.add ((qc vW (qL (qc vZ (qc vW (g.1+g.2))) (2^min (1:Int).toNat (qj vZ)))).toNat*8)) 0 j/\
 gy C b.1 (b.2.1.toList++[(vV #[k.1,k.2.1,k.2.2.1,k.2.2.2.1,k.2.2.2.2.1,k.2.2.2.2.2.1,(vQ vY k.2.2.2.2.2.2.1),k.2.2.2.2.2.2.2]),(vV #[j.1,j.2.1,j.2.2.1,j.2.2.2.1,j.2.2.2.2.1,j.2.2.2.2.2.1,(vQ vY j.2.2.2.2.2.2.1),j.2.2.2.2.2.2.2])]++b.2.2.toList) bp K fun P U=>
 (aB.ok [] U)/\
 Br (!(decide (P<0)))
 (Y (qc vW ((qc vW (qL (qc vZ (qc vW (g.1+g.2))) (2^min (1:Int).toNat (qj vZ))))+1),g.2) U)
 (Y (g.1,qc vW (qL (qc vZ (qc vW (g.1+g.2))) (2^min (1:Int).toNat (qj vZ)))) U))
 (aN (σ:=Int) (fun i K4 h8=>
 Br (i>g.1)
 (∃v,(a.ptr=some v/\0<=(qc vW (i-1))/\(qc vW (i-1))<(a.len:Int))/\
 ∃G:dA,ai h8 (v.add ((qc vW (i-1)).toNat*8)) 0 G/\
 ∃u,(a.ptr=some u/\0<=i/\i<(a.len:Int))/\
 ∃D:dA,ai h8 (u.add (i.toNat*8)) 0 D/\
 ∃a25,(a.ptr=some a25/\0<=i/\i<(a.len:Int))/\
 ab xa (qe 119 (a25.add (i.toNat*8)) G) h8 fun _ X=>
 (aB.ok [] X)/\
 ∃z,(a.ptr=some z/\0<=(qc vW (i-1))/\(qc vW (i-1))<(a.len:Int))/\
 ab xa (qe 119 (z.add ((qc vW (i-1)).toNat*8)) D) X fun _ B=>
 (aB.ok [] B)/\
 K4 (qc vW (i-1)) B)
 (R (.tuple #[]) h8)) e K)) (d,e) h)
 ((0<=(1:Int))/\
 aY (σ:=Int×Int) (fun w M=>
 aN (σ:=Int×Int) (fun c Z p=>
 Br (c.1<c.2)
 ((0<=(1:Int))/\
 ∃A,(a.ptr=some A/\0<=(qc vW ((qc vW ((qc vW ((qc vW (qL (qc vZ (qc vW (d+f))) (2^min (1:Int).toNat (qj vZ))))+e))-1))-(qc vW (qL (qc vZ (qc vW (c.1+c.2))) (2^min (1:Int).toNat (qj vZ))))))/\(qc vW ((qc vW ((qc vW ((qc vW (qL (qc vZ (qc vW (d+f))) (2^min (1:Int).toNat (qj vZ))))+e))-1))-(qc vW (qL (qc vZ (qc vW (c.1+c.2))) (2^min (1:Int).toNat (qj vZ))))))<(a.len:Int))/\
 ∃l:dA,ai p (A.add ((qc vW ((qc vW ((qc vW ((qc vW (qL (qc vZ (qc vW (d+f))) (2^min (1:Int).toNat (qj vZ))))+e))-1))-(qc vW (qL (qc vZ (qc vW (c.1+c.2))) (2^min (1:Int).toNat (qj vZ)))))).toNat*8)) 0 l/\
 ∃J,(a.ptr=some J/\0<=(qc vW (qL (qc vZ (qc vW (c.1+c.2))) (2^min (1:Int).toNat (qj vZ))))/\(qc vW (qL (qc vZ (qc vW (c.1+c.2))) (2^min (1:Int).toNat (qj vZ))))<(a.len:Int))/\
 ∃m:dA,ai p (J.add ((qc vW (qL (qc vZ (qc vW (c.1+c.2))) (2^min (1:Int).toNat (qj vZ)))).toNat*8)) 0 m/\
 gy C b.1 (b.2.1.toList++[(vV #[l.1,l.2.1,l.2.2.1,l.2.2.2.1,l.2.2.2.2.1,l.2.2.2.2.2.1,(vQ vY l.2.2.2.2.2.2.1),l.2.2.2.2.2.2.2]),(vV #[m.1,m.2.1,m.2.2.1,m.2.2.2.1,m.2.2.2.2.1,m.2.2.2.2.2.1,(vQ vY m.2.2.2.2.2.2.1),m.2.2.2.2.2.2.2])]++b.2.2.toList) bp p fun O t=>
 (aB.ok [] t)/\
 Br (!(decide (O<0)))
 (Z (qc vW ((qc vW (qL (qc vZ (qc vW (c.1+c.2))) (2^min (1:Int).toNat (qj vZ))))+1),c.2) t)
 (Z (c.1,qc vW (qL (qc vZ (qc vW (c.1+c.2))) (2^min (1:Int).toNat (qj vZ)))) t))
 (aY (σ:=Unit) (fun _ s=>
 aY (σ:=Unit) (fun _ r=>
 Br (decide ((qc vW (qL (qc vZ (qc vW (d+f))) (2^min (1:Int).toNat (qj vZ))))<(qc vW ((qc vW ((qc vW (qL (qc vZ (qc vW (d+f))) (2^min (1:Int).toNat (qj vZ))))+e))-c.1)))) (Br (decide ((qc vW ((qc vW ((qc vW (qL (qc vZ (qc vW (d+f))) (2^min (1:Int).toNat (qj vZ))))+e))-c.1))<f))
 (ae xa 239 #[a,(qc vW (qL (qc vZ (qc vW (d+f))) (2^min (1:Int).toNat (qj vZ)))),(qc vW ((qc vW ((qc vW (qL (qc vZ (qc vW (d+f))) (2^min (1:Int).toNat (qj vZ))))+e))-c.1)),f,(.func (.func b.1) b.2.1 b.2.2)] ia r fun _ T=>
 R (.tuple #[]) T)
 (R (.tuple #[]) r)) (R (.tuple #[]) r))
 (fun S=>
 Br (d<c.1) (Br (decide (c.1<(qc vW (qL (qc vZ (qc vW (d+f))) (2^min (1:Int).toNat (qj vZ))))))
 (ae xa 239 #[a,d,c.1,(qc vW (qL (qc vZ (qc vW (d+f))) (2^min (1:Int).toNat (qj vZ)))),(.func (.func b.1) b.2.1 b.2.2)] ia s fun _ W=>
 S () W)
 (S () s)) (S () s)))
 (fun V=>
 Br (c.1<e) (Br (decide (e<(qc vW ((qc vW ((qc vW (qL (qc vZ (qc vW (d+f))) (2^min (1:Int).toNat (qj vZ))))+e))-c.1))))
 (ae xa 249 #[a,c.1,e,(qc vW ((qc vW ((qc vW (qL (qc vZ (qc vW (d+f))) (2^min (1:Int).toNat (qj vZ))))+e))-c.1)),(.func (.func b.1) b.2.1 b.2.2)] ia p fun _ Q=>
 V () Q)
 (V () p)) (V () p)))) (w.1,w.2) M)
 (fun K5=>
 Br (decide (e>(qc vW (qL (qc vZ (qc vW (d+f))) (2^min (1:Int).toNat (qj vZ))))))
 (K5 (qc vW ((qc vW ((qc vW (qL (qc vZ (qc vW (d+f))) (2^min (1:Int).toNat (qj vZ))))+e))-f),qc vW (qL (qc vZ (qc vW (d+f))) (2^min (1:Int).toNat (qj vZ)))) h)
 (K5 (d,e) h))))
theorem kb(b:Sl)(d:Int)(c:Int)(e:Int)(a:cq)(f:@gi R h b d c e a):ac xa 239 #[b,d,c,e,(.func (.func a.1) a.2.1 a.2.2)] h R:=ao af func239 (.two (ak.tn (.two (ak.tn (ak.tn (.two (.inn (.loop [(10,bc),(11,bc)] [(10,13),(31,54)] .n)) (.two (ak.tn (.inn (.loop [(13,bc)] [(13,14),(55,77)] .n))) .n)))) .n)) (.two (ak.tn (.two (ak.tn (ak.tn (.two (.inn (.loop [(14,bc),(15,bc)] [(14,17),(83,107)] .n)) (.two (ak.tn (.inn (.loop [(17,bc)] [(17,18),(108,129)] .n))) .n)))) .n)) (ak.tn (ak.tn (ak.tn (.two (.join [(20,bc),(21,bc)] [(20,22),(138,147)] .n) (ak.tn (.two (.inn (.loop [(20,bc),(21,bc)] [(20,22),(23,24),(149,175)] .n)) (ak.tn (.two (.join [] [(178,192)] .n) (.two (.join [] [(192,206)] .n) .n))))))))))) f
def AN(c:aM)(a:Sl):Prop:=
 ae xa 126 #[a] bY h fun i e=>
 Br (!i)
 (R (vR none 0 0) e)
 (ae xa 128 #[a] aO e fun b f=>
 ae xa 130 #[c] iX f fun j h3=>
 ae xa 127 #[b] bp h3 fun g k=>
 ae xa 129 #[j,b,g] bp k fun d l=>
 (0<=d/\d<=(b.cap:Int))/\
 R (vR b.ptr d.toNat b.cap) l)
theorem GQ(a:aM)(b:Sl)(c:@AN R h a b):ac xa 241 #[a,b] h R:=ao af func241 .n c
def oh(b:aM)(a:Int):Prop:=
 ∃e,(b=some e)/\
 ∃x2:Sl,cellOf h e=some (x2:Value)/\
 Br (a>(x2.len:Int))
 (∃a3,(b=some a3)/\
 ab xa (qe 4 (a3.add 1) true) h fun _ j=>
 R (vR none 0 0) j)
 (∃a4,(b=some a4)/\
 ∃d:Sl,cellOf h a4=some (d:Value)/\
 (0<=a/\a<=(d.cap:Int))/\
 ∃f,(b=some f)/\
 ∃c:Sl,cellOf h f=some (c:Value)/\
 (0<=a/\a<=(c.len:Int))/\
 ∃g,(b=some g)/\
 ab xa (qe 38 g (.slice (if c.cap=a.toNat then c.ptr else c.ptr.map (·.add (a.toNat*1))) (c.len-a.toNat) (c.cap-a.toNat))) h fun _ i=>
 R (vR d.ptr a.toNat d.cap) i)
theorem uO(b:aM)(a:Int)(c:@oh R h b a):ac xa 247 #[b,a] h R:=ao af func247 .n c
end
end Go.Qw
