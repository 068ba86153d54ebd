/- Lemmas for the proof of the law; no condition. -/
import Derived.Test.YtbhpnfilcomonaaGreatDoorTabA
set_option linter.unusedVariables false
open Go.Proofs.Tryz renaming prog -> xa
open Go.Value renaming agg -> vV, bool -> vU, int -> vQ, pointer -> vS, slice -> vR, string -> vT
open Go.IntKind renaming bits -> qj, i64 -> vW, u32 -> vY, u64 -> vZ, u8 -> vX, wrap -> qc
open Option renaming isNone -> qO
open Go.Instr renaming alloc -> qG, box -> qI, buildSlice -> qt, makeSlice -> zD, storeAt -> qe
open Go.Builtin renaming append_ -> qu, copy_ -> zK
open Int renaming fdiv -> qL, tdiv -> w5, tmod -> zY
open BitVec renaming ofInt -> qy
open Go.Proofs.Tryz
set_option maxRecDepth 1000000
namespace Go.Qw
noncomputable section
open Go Go.Vc Go.Proofs
variable {R:ug} {h:Heap}
def EQ(b:cq)(a:Sl):Prop:=
 ae xa 83 #[a] aO h fun f l=>
 ae xa 93 #[f] ia l fun _ k=>
 ae xa 94 #[f] aO k fun d h3=>
 aN (σ:=Int) (fun c K1 e=>
 Br (c<(d.len:Int))
 (∃a5,(d.ptr=some a5/\0<=c/\c<(d.len:Int))/\
 ∃i,cellOf e (a5.add (c.toNat*1))=some (vQ vW i)/\
 gy C b.1 (b.2.1.toList++[(vQ vW i)]++b.2.2.toList) iX e fun m n=>
 ae xa 95 #[m] bp n fun g j=>
 Br (g !=0)
 (R g j)
 (K1 (qc vW (c+1)) j))
 (R (vQ vW 0) e)) (0:Int) h3
theorem KO(b:cq)(a:Sl)(c:@EQ R h b a):ac xa 55 #[(.func (.func b.1) b.2.1 b.2.2),a] h R:=ao af func55 (ak.tn (ak.tn (ak.tn (.two (ak.tn (.inn (.loop [(15,bc)] [(4,5),(6,8),(15,27)] .n))) .n)))) c
def xc(a:Sl):Prop:=
 Br (qO a.ptr)
 (R (vR none 0 0) h)
 (av xa (qt 38 0 #[]) aO h fun d c=>
 av xa (qu #[38,38] 38 #[d,a]) aO c fun e b=>
 R e b)
theorem ER(a:Sl)(b:@xc R h a):ac xa 56 #[a] h R:=ao af func56 .n b
def oz(a:aM):Prop:=
 Br (qO a) (R true h) (ae xa 96 #[a] bY h fun b c=>
 R b c)
theorem xG(a:aM)(b:@oz R h a):ac xa 57 #[a] h R:=ao af func57 .n b
def CA(d:ByteArray):Prop:=
 av xa (convert 9 38 d) aO h fun e f=>
 aN (σ:=Int) (fun c K1 a=>
 Br (c<(e.len:Int))
 (∃a3,(e.ptr=some a3/\0<=c/\c<(e.len:Int))/\
 ∃b,cellOf a (a3.add (c.toNat*1))=some (vQ vX b)/\
 Br (b<97) (Br (b<48) (Br (b !=45)
 (R false a)
 (K1 (qc vW (c+1)) a)) (Br (b>57) (Br (b !=45)
 (R false a)
 (K1 (qc vW (c+1)) a)) (K1 (qc vW (c+1)) a))) (Br (b>122) (Br (b<48) (Br (b !=45)
 (R false a)
 (K1 (qc vW (c+1)) a)) (Br (b>57) (Br (b !=45)
 (R false a)
 (K1 (qc vW (c+1)) a)) (K1 (qc vW (c+1)) a))) (K1 (qc vW (c+1)) a)))
 (Br ((d.size:Int)>=1) (R (decide ((d.size:Int)<=12)) a) (R false a))) (0:Int) f
theorem IM(a:ByteArray)(b:@CA R h a):ac xa 58 #[a] h R:=ao af func58 (ak.tn (.two (ak.tn (.inn (.loop [(8,bc)] [(2,3),(4,5),(8,31)] .n))) .n)) b
def nZ(b:aM)(a:ByteArray):Prop:=
 aI xa (qI 9 a) h fun g d=>
 ∃c,(b=some c)/\
 ∃x3:Sl,cellOf d (c.add 7)=some (x3:Value)/\
 ae xa 97 #[x3,(.func (.func 98) #[] #[g])] bp d fun f e=>
 R f e
theorem uI(b:aM)(a:ByteArray)(c:@nZ R h b a):ac xa 59 #[b,a] h R:=ao af func59 .n c
def CB(f:bX)(a:Int)(b:Int):Prop:=
 aI xa (qI 24 f) h fun c j=>
 aN (σ:=Int) (fun d K1 e=>
 Br (d<16)
 (∃x3:bX,ai e c 0 x3/\
 ae xa 63 #[a,b,d] (.one (.sc (.int .u32))) e fun i h3=>
 (aB.ok [(c,x3.1),(c.add 1,x3.2.1),(c.add 2,x3.2.2)] h3)/\
 ae xa 99 #[x3,(vQ vY i)] bY h3 fun k g=>
 (aB.ok [] g)/\
 Br k
 (R (.tuple #[d,true]) g)
 (K1 (qc vW (d+1)) g))
 (R (.tuple #[(vQ vW 0),false]) e)) (0:Int) j
theorem IN(c:bX)(a:Int)(b:Int)(d:@CB R h c a b):ac xa 60 #[c,a,b] h R:=ao af func60 (ak.tn (.two (ak.tn (.inn (.loop [(9,bc)] [(6,20)] .n))) .n)) d
def pL(a:bX):Prop:=
 aI xa (qI 24 a) h fun c b=>
 ∃x2,cellOf b c=some (vQ vW x2)/\
 ∃x3,cellOf b (c.add 2)=some (vQ vW x3)/\
 R (qc vW (x2*x3)) b
theorem sY(a:bX)(b:@pL R h a):ac xa 61 #[a] h R:=ao af func61 .n b
def xd(e:bX)(a:Sl):Prop:=
 aI xa (qI 24 e) h fun g k=>
 ∃x2:bX,ai k g 0 x2/\
 ae xa 31 #[x2,(vQ vW (a.len:Int))] bp k fun r q=>
 aN (σ:=Sl×Int) (fun b K1 h3=>
 Br (b.2<r)
 (∃i:bX,ai h3 g 0 i/\
 ae xa 61 #[i] bp h3 fun l t=>
 av xa (zD 38 l l) aO t fun j n=>
 ∃m:bX,ai n g 0 m/\
 ae xa 61 #[m] bp n fun d p=>
 (0<=(qc vW (b.2*d))/\(qc vW (b.2*d))<=(a.len:Int))/\
 av xa (zK #[38,38] 3 #[j,(.slice (if a.cap=(qc vW (b.2*d)).toNat then a.ptr else a.ptr.map (·.add ((qc vW (b.2*d)).toNat*1))) (a.len-(qc vW (b.2*d)).toNat) (a.cap-(qc vW (b.2*d)).toNat))]) bp p fun _ s=>
 av xa (qt 64 1 #[(0,j)]) aO s fun f h8=>
 av xa (qu #[64,64] 64 #[b.1,f]) aO h8 fun c o=>
 K1 ((⟨c.ptr,c.len,c.cap⟩:Sl),qc vW (b.2+1)) o)
 (R b.1 h3)) ((⟨none,0,0⟩:Sl),(0:Int)) q
theorem ES(b:bX)(a:Sl)(c:@xd R h b a):ac xa 62 #[b,a] h R:=ao af func62 (ak.tn (ak.tn (.two (ak.tn (.inn (.loop [(5,dg),(12,bc)] [(5,8),(12,31)] .n))) .n))) c
def CC(b:Int)(c:Int)(a:Int):Prop:=
 R (vQ vY (qc vY ((qc vY ((qc vY (128*(qc vY b)))+(qc vY (16*(qc vY c)))))+(qc vY a)))) h
theorem IP(b:Int)(c:Int)(a:Int)(d:@CC R h b c a):ac xa 63 #[b,c,a] h R:=ao af func63 .n d
def Au(F:bX)(d:Int)(a:Sl):Prop:=
 aI xa (qI 24 F) h fun c P=>
 aY (σ:=Unit) (fun _ h3=>
 ∃O:bX,ai h3 c 0 O/\
 ae xa 99 #[O,(vQ vY d)] bY h3 fun W L=>
 Br (!W)
 (R (.tuple #[(vS none),(vQ vW 8)]) L)
 (∃Q,cellOf L (c.add 1)=some (vQ vW Q)/\
 aN (σ:=Sl×Int) (fun g T y=>
 Br (g.2<Q)
 (∃o,cellOf y (c.add 2)=some (vQ vW o)/\
 av xa (zD 38 o o) aO y fun E U=>
 av xa (qt 64 1 #[(0,E)]) aO U fun J Y=>
 av xa (qu #[64,64] 64 #[g.1,J]) aO Y fun n h8=>
 T ((⟨n.ptr,n.len,n.cap⟩:Sl),qc vW (g.2+1)) h8)
 (∃x,cellOf y c=some (vQ vW x)/\
 aN (σ:=Sl×Int) (fun b V q=>
 Br (b.2<x)
 (∃f,cellOf q (c.add 2)=some (vQ vW f)/\
 ∃j,cellOf q (c.add 2)=some (vQ vW j)/\
 (0<=(qc vW (b.2*f))/\(qc vW (b.2*f))<=(qc vW ((qc vW (b.2+1))*j))/\(qc vW ((qc vW (b.2+1))*j))<=(a.cap:Int))/\
 av xa (qt 64 1 #[(0,(.slice (if a.cap=(qc vW (b.2*f)).toNat then a.ptr else a.ptr.map (·.add ((qc vW (b.2*f)).toNat*1))) ((qc vW ((qc vW (b.2+1))*j)).toNat-(qc vW (b.2*f)).toNat) (a.cap-(qc vW (b.2*f)).toNat)))]) aO q fun K I=>
 av xa (qu #[64,64] 64 #[b.1,K]) aO I fun m A=>
 V ((⟨m.ptr,m.len,m.cap⟩:Sl),qc vW (b.2+1)) A)
 (aY (σ:=Sl×Int) (fun r p=>
 Br (r.2 !=0)
 (R (.tuple #[(vS none),(vQ vW 8)]) p)
 (∃k:bX,ai p c 0 k/\
 aI xa (qI 152 (vV #[k.1,k.2.1,k.2.2,(vQ vY d),r.1])) p fun H G=>
 R (.tuple #[H,(vQ vW 0)]) G))
 (fun S=>
 ∃e:bX,ai q c 0 e/\
 ∃i:bX,ai q c 0 i/\
 ae xa 101 #[] iX q fun B t=>
 (aB.ok [(c,i.1),(c.add 1,i.2.1),(c.add 2,i.2.2),(c,e.1),(c.add 1,e.2.1),(c.add 2,e.2.2)] t)/\
 ae xa 103 #[i] aO t fun z v=>
 (aB.ok [(c,e.1),(c.add 1,e.2.1),(c.add 2,e.2.2)] v)/\
 ae xa 102 #[e,(vQ vY d),z] aO v fun D w=>
 (aB.ok [] w)/\
 ae xa 100 #[B,D,b.1] (.many [dg,bc]) w fun l u=>
 (aB.ok [] u)/\
 S ((⟨l.1.ptr,l.1.len,l.1.cap⟩:Sl),l.2) u))) ((⟨g.1.ptr,g.1.len,g.1.cap⟩:Sl),(0:Int)) y)) ((⟨none,0,0⟩:Sl),(0:Int)) L))
 (fun K1=>
 ∃x2:bX,ai P c 0 x2/\
 ae xa 23 #[x2] bY P fun X s=>
 Br (!X) (R (.tuple #[(vS none),(vQ vW 1)]) s) (∃N,cellOf s c=some (vQ vW N)/\
 ∃M,cellOf s (c.add 2)=some (vQ vW M)/\
 Br ((a.len:Int) !=(qc vW (N*M)))
 (R (.tuple #[(vS none),(vQ vW 1)]) s)
 (K1 () s)))
theorem GC(c:bX)(a:Int)(b:Sl)(d:@Au R h c a b):ac xa 64 #[c,(vQ vY a),b] h R:=ao af func64 (ak.tn (.two (.join [] [(6,8),(12,25)] .n) (ak.tn (ak.tn (.two (ak.tn (.inn (.loop [(8,dg),(31,bc)] [(8,9),(31,40)] .n))) (.two (ak.tn (.inn (.loop [(8,dg),(42,bc)] [(8,10),(42,60)] .n))) (.two (.join [(10,dg),(11,bc)] [(10,12),(60,71)] .n) .n))))))) d
def xf(a:Int)(b:Int)(c:Sl):Prop:=
 aY (σ:=Unit) (fun _ K=>
 ((64:Int)≠0)/\
 ae xa 104 #[(zY (qc vW ((qc vW (8*a))+b)) 64)] (.one (.sc (.cpx .f64))) K fun D I=>
 aI xa (qG 156 true (.tuple #[])) I fun a3 h3=>
 aN (σ:=Sl×Int) (fun e A l=>
 Br (e.2<(c.len:Int))
 (∃a5,(c.ptr=some a5/\0<=e.2/\e.2<(c.len:Int))/\
 ∃f,cellOf l (a5.add (e.2.toNat*1))=some (vQ vW f)/\
 aY (σ:=Bool) (fun J E=>
 Br J
 ((0<=f/\f<((64:Nat):Int))/\
 ab xa (qe 4 (a3.add (f.toNat*1)) true) E fun _ H=>
 ae xa 104 #[f] (.one (.sc (.cpx .f64))) H fun z L=>
 ae xa 105 #[(.complex .f64 z.1 z.2),(.complex .f64 D.1 D.2)] (.one (.sc (.flt .f64))) L fun v h8=>
 av xa (qt 155 1 #[(0,(vV #[f,(.float .f64 v)]))]) aO h8 fun w F=>
 av xa (qu #[155,155] 155 #[e.1,w]) aO F fun j u=>
 A ((⟨j.ptr,j.len,j.cap⟩:Sl),qc vW (e.2+1)) u)
 (A ((⟨e.1.ptr,e.1.len,e.1.cap⟩:Sl),qc vW (e.2+1)) E))
 (fun r=>
 Br (f>=0) (Br (f<64) ((0<=f/\f<((64:Nat):Int))/\
 ∃B:Bool,cellOf l (a3.add (f.toNat*1))=some (vU B)/\
 r (!B) l) (r false l)) (r false l)))
 (ae xa 106 #[e.1,(.func (.func 107) #[] #[])] ia l fun _ q=>
 aN (σ:=Sl×Int) (fun d G k=>
 Br (d.2<(e.1.len:Int))
 (∃o,(e.1.ptr=some o/\0<=d.2/\d.2<(e.1.len:Int))/\
 ∃g:Int×Nat,ai k (o.add (d.2.toNat*2)) 0 [g.1,(.float .f64 g.2)]/\
 aI xa (qG 160 true (.tuple #[])) k fun p t=>
 ab xa (qe 160 p (vV #[g.1,(.float .f64 g.2)])) t fun _ n=>
 ∃m,cellOf n p=some (vQ vW m)/\
 av xa (qt 22 1 #[(0,m)]) aO n fun y s=>
 av xa (qu #[22,22] 22 #[d.1,y]) aO s fun i x=>
 G ((⟨i.ptr,i.len,i.cap⟩:Sl),qc vW (d.2+1)) x)
 (R d.1 k)) ((⟨none,0,0⟩:Sl),(0:Int)) q)) ((⟨none,0,0⟩:Sl),(0:Int)) h3)
 (fun K1=>
 Br (a<0) (R (vR none 0 0) h) (Br (a>16777215) (R (vR none 0 0) h) (Br (b<0) (R (vR none 0 0) h) (Br (b>=8)
 (R (vR none 0 0) h)
 (K1 () h)))))
theorem ET(a:Int)(b:Int)(c:Sl)(d:@xf R h a b c):ac xa 65 #[a,b,c] h R:=ao af func65 (ak.tn (.two (.join [] [(6,7),(15,29)] .n) (ak.tn (ak.tn (ak.tn (.two (ak.tn (.inn (.loop [(8,dg),(37,bc)] [(8,9),(11,12),(37,65)] (ak.tn (ak.tn (.two (.inn (ak.tn (.two (.join [(52,ji)] [(41,53)] .n) .n))) .n)))))) (ak.tn (ak.tn (.two (ak.tn (.inn (.loop [(12,dg),(69,bc)] [(12,13),(14,15),(69,79)] .n))) .n))))))))) d
def lT(b:aM)(d:Int):Prop:=
 aY (σ:=Unit) (fun _ v=>
 ∃u,(b=some u)/\
 ∃x3,cellOf v (u.add 2)=some (vQ vW x3)/\
 av xa (zD 38 x3 x3) aO v fun v4 s=>
 ∃a5,(b=some a5)/\
 ∃x:bX,ai s a5 0 x/\
 ∃t,(b=some t)/\
 ∃w,cellOf s (t.add 3)=some (vQ vY w)/\
 ae xa 111 #[x,(vQ vY w),d] aO s fun r h3=>
 (aB.ok [] h3)/\
 aN (σ:=Int) (fun c y p=>
 Br (c<(r.len:Int))
 (∃i,(r.ptr=some i/\0<=c/\c<(r.len:Int))/\
 ∃f,cellOf p (i.add (c.toNat*1))=some (vQ vW f)/\
 ∃n,(b=some n)/\
 ∃g:Sl,cellOf p (n.add 4)=some (g:Value)/\
 ∃m,(g.ptr=some m/\0<=f/\f<(g.len:Int))/\
 ∃e:Sl,cellOf p (m.add (f.toNat*1))=some (e:Value)/\
 aN (σ:=Int) (fun a A q=>
 Br (a<(e.len:Int))
 (∃j,(e.ptr=some j/\0<=a/\a<(e.len:Int))/\
 ∃o,cellOf q (j.add (a.toNat*1))=some (vQ vX o)/\
 ∃l,(v4.ptr=some l/\0<=a/\a<(v4.len:Int))/\
 ∃k,cellOf q (l.add (a.toNat*1))=some (vQ vX k)/\
 ∃a22,(v4.ptr=some a22/\0<=a/\a<(v4.len:Int))/\
 ab xa (qe 5 (a22.add (a.toNat*1)) (vQ vX (qc vX ((qy (qj vX) k^^^(qy (qj vX) o)).toNat:Nat)))) q fun _ z=>
 A (qc vW (a+1)) z)
 (y (qc vW (c+1)) q)) (0:Int) p)
 (R v4 p)) (0:Int) h3)
 (fun K1=>
 Br (qO b) (R (vR none 0 0) h) (Br (d<0) (R (vR none 0 0) h) (Br (d>65535)
 (R (vR none 0 0) h)
 (K1 () h))))
theorem rm(b:aM)(a:Int)(c:@lT R h b a):ac xa 66 #[b,a] h R:=ao af func66 (ak.tn (.two (.join [] [(4,5),(10,20)] .n) (ak.tn (.two (ak.tn (.inn (.loop [(37,bc)] [(7,10),(37,63)] (ak.tn (ak.tn (.two (.inn (ak.tn (ak.tn (.inn (.loop [(49,bc)] [(8,10),(49,62)] .n))))) .n)))))) .n)))) c
def EU(a:Sl)(b:Int):Prop:=
 aY (σ:=Unit) (fun _ d=>
 ((a.len:Int)≠0)/\
 ∃c,(a.ptr=some c/\0<=(zY b (a.len:Int))/\(zY b (a.len:Int))<(a.len:Int))/\
 ∃x3:Int,cellOf d (c.add ((zY b (a.len:Int)).toNat*1))=some (vQ vW x3)/\
 R x3 d)
 (fun K1=>
 Br ((a.len:Int)==0) (R (vQ vW (-1:Int)) h) (Br (b<0)
 (R (vQ vW (-1:Int)) h)
 (K1 () h)))
theorem KP(a:Sl)(b:Int)(c:@EU R h a b):ac xa 67 #[a,b] h R:=ao af func67 (ak.tn (.two (.join [] [(4,12)] .n) .n)) c
def Av(j:dA):Prop:=
 aI xa (qI 119 j) h fun a r=>
 ∃x2:dA,ai r a 0 x2/\
 ae xa 112 #[x2] bY r fun A k=>
 Br (!A)
 (R (vR none 0 0) k)
 (∃q,cellOf k a=some (vQ vW q)/\
 ae xa 113 #[(vR none 0 0),q,(vQ vW 3)] aO k fun y h3=>
 ∃u,cellOf h3 (a.add 1)=some (vQ vW u)/\
 ae xa 113 #[y,u,(vQ vW 1)] aO h3 fun B v=>
 ∃t,cellOf v (a.add 2)=some (vQ vW t)/\
 ae xa 113 #[B,t,(vQ vW 2)] aO v fun x g=>
 ∃e,cellOf g (a.add 3)=some (vQ vW e)/\
 ∃c,cellOf g ((a.add 3).add 1)=some (vQ vW c)/\
 ∃d,cellOf g ((a.add 3).add 2)=some (vQ vW d)/\
 av xa (qt 38 3 #[(0,(vQ vX (qc vX e))),(1,(vQ vX (qc vX c))),(2,(vQ vX (qc vX d)))]) aO g fun p z=>
 av xa (qu #[38,38] 38 #[x,p]) aO z fun l s=>
 ∃f,cellOf s (a.add 6)=some (vQ vY f)/\
 ae xa 113 #[l,(qc vW f),(vQ vW 4)] aO s fun n h8=>
 ∃b:Sl,cellOf h8 (a.add 7)=some (b:Value)/\
 av xa (qu #[38,38] 38 #[n,b]) aO h8 fun i w=>
 ae xa 92 #[(vQ vW 1),i] aO w fun m o=>
 R m o)
theorem GD(a:dA)(b:@Av R h a):ac xa 68 #[a] h R:=ao af func68 .n b
def fV(b:Sl)(a:cq):Prop:=
 ae xa 115 #[(vQ vZ (qc vZ (b.len:Int)))] bp h fun d e=>
 ae xa 114 #[b,(vQ vW 0),(vQ vW (b.len:Int)),d,(.func (.func a.1) a.2.1 a.2.2)] ia e fun _ c=>
 R (.tuple #[]) c
theorem jK(b:Sl)(a:cq)(c:@fV R h b a):ac xa 69 #[b,(.func (.func a.1) a.2.1 a.2.2)] h R:=ao af func69 .n c
def sZ(c:gr)(b:gr):Prop:=
 aI xa (qI 73 c) h fun f g=>
 aI xa (qI 73 b) g fun e a=>
 ∃x3:ByteArray,cellOf a f=some (vT x3)/\
 ∃d:ByteArray,cellOf a e=some (vT d)/\
 ae xa 71 #[x3,d] bp a fun i h3=>
 R i h3
theorem DA(b:gr)(a:gr)(c:@sZ R h b a):ac xa 70 #[b,a] h R:=ao af func70 .n c
def mw(a:ByteArray)(b:ByteArray):Prop:=
 ae xa 116 #[a] bY h fun e f=>
 ae xa 116 #[b] bY f fun d c=>
 Br e
 (Br d
 (R (vQ vW 0) c)
 (R (vQ vW (-1:Int)) c))
 (Br d
 (R (vQ vW 1) c)
 (Br (Op.bytesLess a.toList b.toList)
 (R (vQ vW (-1:Int)) c)
 (Br (!(Op.bytesLess a.toList b.toList||a.toList==b.toList))
 (R (vQ vW 1) c)
 (R (vQ vW 0) c))))
theorem sp(a:ByteArray)(b:ByteArray)(c:@mw R h a b):ac xa 71 #[a,b] h R:=ao af func71 .n c
def fP(b:Sl)(a:cq):Prop:=
 ae xa 117 #[b,(.func (.func a.1) a.2.1 a.2.2)] bp h fun c d=>
 R (decide (c>=0)) d
theorem im(b:Sl)(a:cq)(c:@fP R h b a):ac xa 72 #[b,(.func (.func a.1) a.2.1 a.2.2)] h R:=ao af func72 .n c
def my(b:Int)(a:Addr)(d:Addr):Prop:=
 ∃g:aM,cellOf h a=some (.pointer g)/\
 ∃i,(g=some i)/\
 (0<=b/\b<((64:Nat):Int))/\
 ∃x3:aM,cellOf h ((i.add 10).add (b.toNat*1))=some (.pointer x3)/\
 ∃f:aM,cellOf h a=some (.pointer f)/\
 ∃a5,(f=some a5)/\
 ∃c:bH,ai h a5 0 c/\
 ∃e:cq,cellOf h d=some (.func (.func e.1) e.2.1 e.2.2)/\
 gy C e.1 (e.2.1.toList++[(vQ vW b)]++e.2.2.toList) bp h fun m k=>
 (aB.ok [(a5,c.1),(a5.add 1,c.2.1),(a5.add 2,c.2.2.1),(a5.add 3,c.2.2.2.1),(a5.add 4,c.2.2.2.2.1),(a5.add 5,c.2.2.2.2.2.1),(a5.add 6,c.2.2.2.2.2.2.1),(a5.add 7,c.2.2.2.2.2.2.2),(a,f),((i.add 10).add (b.toNat*1),x3),(a,g)] k)/\
 ae xa 74 #[x3,c,m] bY k fun l j=>
 (aB.ok [(a,f),(a,g)] j)/\
 R (vU (!l)) j
theorem sq(c:Int)(a:Addr)(b:Addr)(d:@my R h c a b):ac xa 73 #[c,a,b] h R:=ao af func73 .n d
def sr(a:aM)(c:bH)(b:Int):Prop:=
 aI xa (qI 47 c) h fun p f=>
 aY (σ:=Unit) (fun _ h3=>
 ae xa 119 #[a] bp h3 fun n q=>
 ae xa 118 #[a,n,b] bY q fun i d=>
 Br i (R true d) (∃g:bH,ai d p 0 g/\
 ae xa 77 #[a,g] aO d fun l j=>
 ae xa 118 #[a,(vQ vW (l.len:Int)),b] bY j fun k o=>
 R k o))
 (fun K1=>
 Br (qO a) (R false f) (ae xa 39 #[a] bY f fun m e=>
 Br m
 (R false e)
 (K1 () e)))
theorem xg(c:aM)(b:bH)(a:Int)(d:@sr R h c b a):ac xa 74 #[c,b,a] h R:=ao af func74 (ak.tn (.two (.join [] [(6,13)] .n) .n)) d
def ss(a:aM)(d:bH)(b:Int):Prop:=
 aI xa (qI 47 d) h fun l j=>
 aY (σ:=Unit) (fun _ k=>
 ∃n:bH,ai k l 0 n/\
 ae xa 77 #[a,n] aO k fun e h8=>
 ae xa 44 #[a,e] bp h8 fun c o=>
 R c o)
 (fun K1=>
 aY (σ:=Bool) (fun u h3=>
 Br u
 (R (vQ vW 5) h3)
 (∃f:bH,ai h3 l 0 f/\
 ae xa 74 #[a,f,b] bY h3 fun p m=>
 Br (!p)
 (R (vQ vW 7) m)
 (ae xa 119 #[a] bp m fun t v=>
 ae xa 118 #[a,t,b] bY v fun r i=>
 Br r
 (R (vQ vW 0) i)
 (K1 () i))))
 (fun g=>
 Br (qO a) (g true j) (ae xa 39 #[a] bY j fun s q=>
 g s q)))
theorem xh(c:aM)(b:bH)(a:Int)(d:@ss R h c b a):ac xa 75 #[c,b,a] h R:=ao af func75 (ak.tn (.two (.join [] [(6,26)] (.inn (.two (.join [(7,ji)] [(7,14)] .n) .n))) .n)) d
def pM(a:aM):Prop:=
 ae xa 42 #[a] aO h fun c d=>
 ae xa 120 #[c] aO d fun e b=>
 R e b
theorem Aw(a:aM)(b:@pM R h a):ac xa 76 #[a] h R:=ao af func76 .n b
def CD(d:aM)(b:bH):Prop:=
 aI xa (qI 47 b) h fun a c=>
 ∃x2:bH,ai c a 0 x2/\
 ∃x3:bH,ai c a 0 x3/\
 ae xa 25 #[x2] aO c fun i e=>
 (aB.ok [(a,x3.1),(a.add 1,x3.2.1),(a.add 2,x3.2.2.1),(a.add 3,x3.2.2.2.1),(a.add 4,x3.2.2.2.2.1),(a.add 5,x3.2.2.2.2.2.1),(a.add 6,x3.2.2.2.2.2.2.1),(a.add 7,x3.2.2.2.2.2.2.2)] e)/\
 ae xa 79 #[d,x3] aO e fun j h3=>
 (aB.ok [] h3)/\
 av xa (qu #[64,64] 64 #[i,j]) aO h3 fun g f=>
 (aB.ok [] f)/\
 R g f
theorem IQ(b:aM)(a:bH)(c:@CD R h b a):ac xa 77 #[b,a] h R:=ao af func77 .n c
def oc(a:aM):Prop:=
 Br (qO a)
 (R (vQ vW 0) h)
 (∃b,(a=some b)/\
 ∃x2,cellOf h (b.add 1)=some (vQ vW x2)/\
 R x2 h)
theorem uJ(a:aM)(b:@oc R h a):ac xa 78 #[a] h R:=ao af func78 .n b
def Ax(e:aM)(f:bH):Prop:=
 aI xa (qI 47 f) h fun q i=>
 ∃x2:bH,ai i q 0 x2/\
 ae xa 121 #[e,x2] aO i fun d o=>
 aN (σ:=Sl×Int) (fun a K1 h3=>
 Br (a.2<(d.len:Int))
 (∃a5,(d.ptr=some a5/\0<=a.2/\a.2<(d.len:Int))/\
 ∃k:dA,ai h3 (a5.add (a.2.toNat*8)) 0 k/\
 aI xa (qG 119 true (.tuple #[])) h3 fun g r=>
 ab xa (qe 119 g k) r fun _ l=>
 ∃j:dA,ai l g 0 j/\
 ae xa 68 #[j] aO l fun m n=>
 av xa (qt 64 1 #[(0,m)]) aO n fun c p=>
 av xa (qu #[64,64] 64 #[a.1,c]) aO p fun b h8=>
 K1 ((⟨b.ptr,b.len,b.cap⟩:Sl),qc vW (a.2+1)) h8)
 (R a.1 h3)) ((⟨none,0,0⟩:Sl),(0:Int)) o
theorem GF(b:aM)(a:bH)(c:@Ax R h b a):ac xa 79 #[b,a] h R:=ao af func79 (ak.tn (ak.tn (.two (ak.tn (.inn (.loop [(5,dg),(12,bc)] [(5,6),(7,8),(12,22)] .n))) .n))) c
def pN(a:aM):Prop:=
 Br (!(qO a)) (∃b,(a=some b)/\
 ∃x2:Bool,cellOf h b=some (vU x2)/\
 R (vU (!x2)) h) (R false h)
theorem Ay(a:aM)(b:@pN R h a):ac xa 80 #[a] h R:=ao af func80 .n b
def od(a:aM):Prop:=
 ae xa 80 #[a] bY h fun m b=>
 Br (!m)
 (R false b)
 (∃i,(a=some i)/\
 ∃x3:Bool,cellOf b (i.add 1)=some (vU x3)/\
 Br (!x3)
 (R true b)
 (∃a4,(a=some a4)/\
 ∃g,cellOf b (a4.add 2)=some (vQ vW g)/\
 Br (g==0)
 (∃k,(a=some k)/\
 ab xa (qe 4 k true) b fun _ f=>
 ∃l,(a=some l)/\
 ∃j,cellOf f (l.add 3)=some (vQ vW j)/\
 ∃a9,(a=some a9)/\
 ab xa (qe 3 (a9.add 3) (qc vW (j+1))) f fun _ h3=>
 R false h3)
 (∃e,(a=some e)/\
 ∃c,cellOf b (e.add 2)=some (vQ vW c)/\
 ∃d,(a=some d)/\
 ab xa (qe 3 (d.add 2) (qc vW (c-1))) b fun _ n=>
 R true n)))
theorem uK(a:aM)(b:@od R h a):ac xa 81 #[a] h R:=ao af func81 .n b
def oe(a:aM):Prop:=
 ∃c,(a=some c)/\
 ab xa (qe 64 (c.add 4) (vR none 0 0)) h fun _ e=>
 ∃b,(a=some b)/\
 ab xa (qe 4 (b.add 5) false) e fun _ d=>
 R (vQ vW 0) d
theorem uL(a:aM)(b:@oe R h a):ac xa 82 #[a] h R:=ao af func82 .n b
def lh(a:Sl):Prop:=
 Br (qO a.ptr)
 (R (vR none 0 0) h)
 (av xa (qt 22 0 #[]) aO h fun d c=>
 av xa (qu #[22,22] 22 #[d,a]) aO c fun e b=>
 R e b)
theorem pO(a:Sl)(b:@lh R h a):ac xa 83 #[a] h R:=ao af func83 .n b
def gv(a:Sl):Prop:=
 Br (qO a.ptr)
 (R (vR none 0 0) h)
 (av xa (qt 45 0 #[]) aO h fun d c=>
 av xa (qu #[45,45] 45 #[d,a]) aO c fun e b=>
 R e b)
theorem ko(a:Sl)(b:@gv R h a):ac xa 84 #[a] h R:=ao af func84 .n b
def xi(c:Int)(a:Int)(b:Int):Prop:=
 Br (c>=a) (R (decide (c<=b)) h) (R false h)
theorem EV(c:Int)(a:Int)(b:Int)(d:@xi R h c a b):ac xa 85 #[c,a,b] h R:=ao af func85 .n d
def CE(a:Sl)(c:Int):Prop:=
 aN (σ:=Int) (fun b K1 e=>
 Br (b<(a.len:Int))
 (∃f,(a.ptr=some f/\0<=b/\b<(a.len:Int))/\
 ∃x3,cellOf e (f.add (b.toNat*1))=some (vQ vW x3)/\
 ae xa 85 #[x3,(vQ vW 0),c] bY e fun i d=>
 Br (!i) (R false d) (Br (b>0) (∃a5,(a.ptr=some a5/\0<=(qc vW (b-1))/\(qc vW (b-1))<(a.len:Int))/\
 ∃g:Int,cellOf d (a5.add ((qc vW (b-1)).toNat*1))=some (vQ vW g)/\
 Br (g>=x3)
 (R false d)
 (K1 (qc vW (b+1)) d)) (K1 (qc vW (b+1)) d)))
 (R true e)) (0:Int) h
theorem IR(b:Sl)(a:Int)(c:@CE R h b a):ac xa 86 #[b,a] h R:=ao af func86 (ak.tn (.two (ak.tn (.inn (.loop [(9,bc)] [(4,7),(9,32)] .n))) .n)) c
def Az(o:bH)(m:gr):Prop:=
 aI xa (qI 47 o) h fun j x=>
 aI xa (qI 73 m) x fun a r=>
 aY (σ:=Unit) (fun _ q=>
 ∃d:Sl,cellOf q (a.add 3)=some (d:Value)/\
 ae xa 72 #[d,(.func (.func 122) #[] #[])] bY q fun n c=>
 Br (!n) (∃b:Sl,cellOf c (a.add 3)=some (b:Value)/\
 ∃f:bX,ai c (j.add 2) 0 f/\
 ∃e,cellOf c (a.add 2)=some (vQ vW e)/\
 ae xa 31 #[f,e] bp c fun l h8=>
 (aB.ok [(a.add 3,b)] h8)/\
 R (vU ((b.len:Int)==l)) h8) ((aB.ok [] c)/\
 R false c))
 (fun K1=>
 ∃x3:ByteArray,cellOf r a=some (vT x3)/\
 ae xa 58 #[x3] bY r fun y h3=>
 Br (!y) (R false h3) (∃p,cellOf h3 (a.add 1)=some (vQ vW p)/\
 ∃t,cellOf h3 (j.add 1)=some (vQ vW t)/\
 ae xa 85 #[p,(vQ vW 0),(qc vW (t-1))] bY h3 fun w i=>
 Br (!w) (R false i) (∃s,cellOf i (a.add 2)=some (vQ vW s)/\
 ∃u,cellOf i (j.add 2)=some (vQ vW u)/\
 ∃g,cellOf i ((j.add 2).add 2)=some (vQ vW g)/\
 ae xa 85 #[s,(vQ vW 0),(qc vW ((qc vW (u*g))*8))] bY i fun k v=>
 Br (!k)
 (R false v)
 (K1 () v))))
theorem GG(a:bH)(b:gr)(c:@Az R h a b):ac xa 87 #[a,b] h R:=ao af func87 (ak.tn (.two (.join [] [(4,5),(6,33)] .n) .n)) c
def dq(b:Sl)(a:cq):Prop:=
 ae xa 97 #[b,(.func (.func a.1) a.2.1 a.2.2)] bp h fun c d=>
 R (decide (c>=0)) d
theorem fb(b:Sl)(a:cq)(c:@dq R h b a):ac xa 88 #[b,(.func (.func a.1) a.2.1 a.2.2)] h R:=ao af func88 .n c
def AA(c:gr)(a:Addr):Prop:=
 aI xa (qI 73 c) h fun d b=>
 ∃x2,cellOf b (d.add 1)=some (vQ vW x2)/\
 ∃x3,cellOf b (a.add 1)=some (vQ vW x3)/\
 R (vU (x2==x3)) b
theorem GH(b:gr)(a:Addr)(c:@AA R h b a):ac xa 89 #[b,a] h R:=ao af func89 .n c
def io(b:Sl)(a:cq):Prop:=
 aN (σ:=Int) (fun c K1 d=>
 Br (c<(b.len:Int))
 (∃f,(b.ptr=some f/\0<=c/\c<(b.len:Int))/\
 ∃x3:Sl,cellOf d (f.add (c.toNat*1))=some (x3:Value)/\
 gy C a.1 (a.2.1.toList++[(vR x3.ptr x3.len x3.cap)]++a.2.2.toList) bY d fun g e=>
 Br g
 (R c e)
 (K1 (qc vW (c+1)) e))
 (R (vQ vW (-1:Int)) d)) (0:Int) h
theorem li(b:Sl)(a:cq)(c:@io R h b a):ac xa 90 #[b,(.func (.func a.1) a.2.1 a.2.2)] h R:=ao af func90 (ak.tn (.two (ak.tn (.inn (.loop [(8,bc)] [(4,6),(8,19)] .n))) .n)) c
def xj(a:Sl)(d:Int)(b:Int):Prop:=
 aN (σ:=Sl×Int) (fun c K1 e=>
 Br (c.2>=0)
 ((0<=(qc vW (8*c.2)))/\
 av xa (qt 38 1 #[(0,(vQ vX (qc vX (qL d (2^min (qc vW (8*c.2)).toNat (qj vW))))))]) aO e fun g f=>
 av xa (qu #[38,38] 38 #[c.1,g]) aO f fun v3 h3=>
 K1 ((⟨v3.ptr,v3.len,v3.cap⟩:Sl),qc vW (c.2-1)) h3)
 (R c.1 e)) ((⟨a.ptr,a.len,a.cap⟩:Sl),qc vW (b-1)) h
theorem EW(b:Sl)(c:Int)(a:Int)(d:@xj R h b c a):ac xa 91 #[b,c,a] h R:=ao af func91 (ak.tn (.two (ak.tn (.inn (.loop [(0,dg),(7,bc)] [(0,1),(7,8),(10,22)] .n))) .n)) d
def EX(a:Int)(c:Sl):Prop:=
 aY (σ:=Unit) (fun _ l=>
 av xa (zD 38 (vQ vW 64) (vQ vW 64)) aO l fun b k=>
 av xa (qt 38 4 #[(0,(vQ vX 87)),(1,(vQ vX 115)),(2,(vQ vX 1)),(3,(vQ vX (qc vX a)))]) aO k fun v3 h3=>
 av xa (zK #[38,38] 3 #[b,v3]) bp h3 fun _ n=>
 (0<=(4:Int)/\(4:Int)<=(b.len:Int))/\
 av xa (zK #[38,38] 3 #[(.slice (if b.cap=(4:Int).toNat then b.ptr else b.ptr.map (·.add ((4:Int).toNat*1))) (b.len-(4:Int).toNat) (b.cap-(4:Int).toNat)),c]) bp n fun _ o=>
 (0<=(59:Int)/\(59:Int)<=(b.cap:Int))/\
 ae xa 123 #[(vR b.ptr ((59:Int).toNat) b.cap)] (.one (.sc (.int .u32))) o fun m j=>
 aN (σ:=Int) (fun d i f=>
 Br (d<4)
 ((0<=(qc vW (8*d)))/\
 ∃e,(b.ptr=some e/\0<=(qc vW (59+d))/\(qc vW (59+d))<(b.len:Int))/\
 ab xa (qe 5 (e.add ((qc vW (59+d)).toNat*1)) (vQ vX (qc vX (qL m (2^min (qc vW (8*d)).toNat (qj vY)))))) f fun _ h8=>
 i (qc vW (d+1)) h8)
 (∃a9,(b.ptr=some a9/\0<=(63:Int)/\(63:Int)<(b.len:Int))/\
 ab xa (qe 5 (a9.add ((63:Int).toNat*1)) (vQ vX 165)) f fun _ g=>
 R b g)) (0:Int) j)
 (fun K1=>
 Br (a<1) (R (vR none 0 0) h) (Br (a>255) (R (vR none 0 0) h) (Br ((c.len:Int)>55)
 (R (vR none 0 0) h)
 (K1 () h))))
theorem KQ(a:Int)(b:Sl)(c:@EX R h a b):ac xa 92 #[a,b] h R:=ao af func92 (ak.tn (.two (.join [] [(4,5),(8,19)] .n) (ak.tn (ak.tn (ak.tn (ak.tn (.two (ak.tn (.inn (.loop [(32,bc)] [(7,8),(32,45)] .n))) .n))))))) c
def kp(a:aM):Prop:=
 aY (σ:=Unit) (fun _ e=>
 ∃a4,(a=some a4)/\
 ∃c:aM,cellOf e a4=some (.pointer c)/\
 ae xa 81 #[c] bY e fun g b=>
 Br (!g)
 (R (vQ vW 14) b)
 (∃f,(a=some f)/\
 ab xa (qe 3 (f.add 3) (vQ vW 0)) b fun _ h3=>
 ae xa 82 #[a] bp h3 fun i j=>
 R i j))
 (fun K1=>
 Br (qO a) (R (vQ vW 5) h) (∃d,(a=some d)/\
 ∃x2:Bool,cellOf h (d.add 6)=some (vU x2)/\
 Br x2
 (R (vQ vW 5) h)
 (K1 () h)))
theorem mz(a:aM)(b:@kp R h a):ac xa 95 #[a] h R:=ao af func95 (ak.tn (.two (.join [] [(2,11)] .n) .n)) b
def of(a:aM):Prop:=
 Br (!(qO a)) (∃g,(a=some g)/\
 ∃x2:aM,cellOf h (g.add 8)=some (.pointer x2)/\
 ae xa 80 #[x2] bY h fun j b=>
 (aB.ok [] b)/\
 Br (!j) ((aB.ok [] b)/\
 R true b) (∃a4,(a=some a4)/\
 ∃f:aM,cellOf b (a4.add 8)=some (.pointer f)/\
 ∃d,(a=some d)/\
 ∃c,cellOf b (d.add 9)=some (vQ vW c)/\
 ae xa 24 #[f] bp b fun i e=>
 (aB.ok [(d.add 9,c)] e)/\
 R (vU (i !=c)) e)) ((aB.ok [] h)/\
 (aB.ok [] h)/\
 R false h)
theorem uM(a:aM)(b:@of R h a):ac xa 96 #[a] h R:=ao af func96 .n b
def dH(b:Sl)(a:cq):Prop:=
 aN (σ:=Int) (fun c K1 d=>
 Br (c<(b.len:Int))
 (∃f,(b.ptr=some f/\0<=c/\c<(b.len:Int))/\
 ∃x3:gr,ai d (f.add (c.toNat*4)) 0 x3/\
 gy C a.1 (a.2.1.toList++[(vV #[x3.1,x3.2.1,x3.2.2.1,x3.2.2.2])]++a.2.2.toList) bY d fun g e=>
 Br g
 (R c e)
 (K1 (qc vW (c+1)) e))
 (R (vQ vW (-1:Int)) d)) (0:Int) h
theorem fC(b:Sl)(a:cq)(c:@dH R h b a):ac xa 97 #[b,(.func (.func a.1) a.2.1 a.2.2)] h R:=ao af func97 (ak.tn (.two (ak.tn (.inn (.loop [(8,bc)] [(4,6),(8,19)] .n))) .n)) c
def mA(b:gr)(a:Addr):Prop:=
 aI xa (qI 73 b) h fun d c=>
 ∃x2:ByteArray,cellOf c d=some (vT x2)/\
 ∃x3:ByteArray,cellOf c a=some (vT x3)/\
 R (vU (x2.toList==x3.toList)) c
theorem su(b:gr)(a:Addr)(c:@mA R h b a):ac xa 98 #[b,a] h R:=ao af func98 .n c
def ta(c:bX)(a:Int):Prop:=
 aI xa (qI 24 c) h fun b d=>
 ∃x2:bX,ai d b 0 x2/\
 ∃x3:bX,ai d b 0 x3/\
 ae xa 103 #[x3] aO d fun f e=>
 (aB.ok [(b,x2.1),(b.add 1,x2.2.1),(b.add 2,x2.2.2)] e)/\
 ae xa 125 #[x2,(vQ vY a),f] bY e fun g h3=>
 (aB.ok [] h3)/\
 R g h3
theorem DB(b:bX)(a:Int)(c:@ta R h b a):ac xa 99 #[b,(vQ vY a)] h R:=ao af func99 .n c
def CF(x:aM)(e:Sl)(i:Sl):Prop:=
 aY (σ:=Unit) (fun _ h3=>
 ae xa 127 #[e] bp h3 fun j Q=>
 ae xa 128 #[e] aO Q fun d S=>
 aN (σ:=Int) (fun g M u=>
 Br (g<(d.len:Int))
 (∃G,(d.ptr=some G/\0<=g/\g<(d.len:Int))/\
 ∃J:Sl,cellOf u (G.add (g.toNat*1))=some (J:Value)/\
 ∃a9,(i.ptr=some a9/\0<=g/\g<(i.len:Int))/\
 ∃s:Sl,cellOf u (a9.add (g.toNat*1))=some (s:Value)/\
 av xa (qu #[38,38] 38 #[J,s]) aO u fun D I=>
 (aB.ok [] I)/\
 ∃q,(d.ptr=some q/\0<=g/\g<(d.len:Int))/\
 ab xa (qe 38 (q.add (g.toNat*1)) D) I fun _ h8=>
 (aB.ok [] h8)/\
 M (qc vW (g+1)) h8)
 (ae xa 130 #[x] iX u fun A K=>
 ae xa 129 #[A,d,j] bp K fun a t=>
 Br (a<j)
 (R (.tuple #[(vR none 0 0),(vQ vW 9)]) t)
 ((0<=a/\a<=(d.len:Int))/\
 aN (σ:=Int) (fun f O k=>
 Br (decide (f<(((d.len-a.toNat):Nat):Int)))
 (∃n:Addr,((if d.cap=a.toNat then d.ptr else d.ptr.map (·.add (a.toNat*1)))=some n/\0<=f/\f<(((d.len-a.toNat):Nat):Int))/\
 ∃o:Sl,cellOf k (n.add (f.toNat*1))=some (o:Value)/\
 ae xa 131 #[o] bp k fun w p=>
 Br (w>=0)
 (R (.tuple #[(vR none 0 0),(vQ vW 10)]) p)
 (O (qc vW (f+1)) p))
 ((0<=a/\a<=(d.cap:Int))/\
 aN (σ:=Sl×Int) (fun b L l=>
 Br (b.2<(a.toNat:Int))
 (∃r,(d.ptr=some r/\0<=b.2/\b.2<(a.toNat:Int))/\
 ∃c:Sl,cellOf l (r.add (b.2.toNat*1))=some (c:Value)/\
 (0<=j/\j<=(c.len:Int))/\
 ae xa 56 #[(.slice (if c.cap=j.toNat then c.ptr else c.ptr.map (·.add (j.toNat*1))) (c.len-j.toNat) (c.cap-j.toNat))] aO l fun F B=>
 av xa (qt 64 1 #[(0,F)]) aO B fun z y=>
 av xa (qu #[64,64] 64 #[b.1,z]) aO y fun m E=>
 L ((⟨m.ptr,m.len,m.cap⟩:Sl),qc vW (b.2+1)) E)
 (R (.tuple #[b.1,(vQ vW 0)]) l)) ((⟨none,0,0⟩:Sl),(0:Int)) k)) (0:Int) t))) (0:Int) S)
 (fun K1=>
 ae xa 126 #[e] bY h fun N H=>
 Br (!N) (R (.tuple #[(vR none 0 0),(vQ vW 1)]) H) (ae xa 126 #[i] bY H fun P v=>
 Br (!P) (R (.tuple #[(vR none 0 0),(vQ vW 1)]) v) (Br ((e.len:Int) !=(i.len:Int)) (R (.tuple #[(vR none 0 0),(vQ vW 1)]) v) (Br ((e.len:Int)==0)
 (R (.tuple #[(vR none 0 0),(vQ vW 1)]) v)
 (K1 () v)))))
theorem IS(a:aM)(c:Sl)(b:Sl)(d:@CF R h a c b):ac xa 100 #[a,c,b] h R:=ao af func100 (ak.tn (.two (.join [] [(6,8),(17,37)] .n) (ak.tn (ak.tn (.two (ak.tn (.inn (.loop [(43,bc)] [(10,11),(43,59)] .n))) (ak.tn (ak.tn (.two (ak.tn (.inn (.loop [(71,bc)] [(6,8),(13,14),(71,79)] .n))) (ak.tn (.two (ak.tn (.inn (.loop [(14,dg),(83,bc)] [(14,15),(16,17),(83,95)] .n))) .n)))))))))) d
def KR:Prop:=
 ae xa 132 #[] (.one (.arr (.int .u8))) h fun g i=>
 aI xa (qG 182 true (.tuple #[])) i fun a f=>
 ab xa (qe 182 a (vV (g.map (Sc.enc (.int .u8))).toArray)) f fun _ h3=>
 ∃x3:List (Int),(x3.length=255/\ai h3 a 0 (x3.map (Sc.enc (.int .u8))))/\
 ∃b:List (Int),(b.length=255/\ai h3 a 0 (b.map (Sc.enc (.int .u8))))/\
 ae xa 133 #[(vV (b.map (Sc.enc (.int .u8))).toArray)] (.one (.arr (.int .i64))) h3 fun j d=>
 (aB.ok (kc a 0 (x3.map (Sc.enc (.int .u8))) []) d)/\
 ∃c:Value,(aA xa (Instr.build 187 #[(0,(vV (x3.map (Sc.enc (.int .u8))).toArray)),(1,(vV (j.map (Sc.enc (.int .i64))).toArray))]) c)/\
 aI xa (qI 187 c) d fun k e=>
 (aB.ok (kc a 0 (x3.map (Sc.enc (.int .u8))) []) e)/\
 R k e
theorem Pc(a:@KR R h):ac xa 101 #[] h R:=ao af func101 .n a
def rG(e:bX)(c:Int)(a:Sl):Prop:=
 aI xa (qI 24 e) h fun l j=>
 ∃x2:bX,ai j l 0 x2/\
 ae xa 134 #[x2] aO j fun f o=>
 aN (σ:=Sl×Int) (fun b K1 h3=>
 Br (b.2<(a.len:Int))
 (∃a5,(a.ptr=some a5/\0<=b.2/\b.2<(a.len:Int))/\
 ∃m,cellOf h3 (a5.add (b.2.toNat*1))=some (vQ vW m)/\
 ∃g:bX,ai h3 l 0 g/\
 ae xa 135 #[g,(vQ vY c),m] aO h3 fun i k=>
 Br (!(qO i.ptr))
 (av xa (qt 64 1 #[(0,i)]) aO k fun v9 p=>
 av xa (qu #[64,64] 64 #[b.1,v9]) aO p fun d n=>
 K1 ((⟨d.ptr,d.len,d.cap⟩:Sl),qc vW (b.2+1)) n)
 (K1 ((⟨b.1.ptr,b.1.len,b.1.cap⟩:Sl),qc vW (b.2+1)) k))
 (R b.1 h3)) ((⟨f.ptr,f.len,f.cap⟩:Sl),(0:Int)) o
theorem Cb(c:bX)(a:Int)(b:Sl)(d:@rG R h c a b):ac xa 102 #[c,(vQ vY a),b] h R:=ao af func102 (ak.tn (ak.tn (.two (ak.tn (.inn (.loop [(7,dg),(15,bc)] [(7,8),(9,11),(15,30)] .n))) .n))) d
def tc(b:bX):Prop:=
 aI xa (qI 24 b) h fun e d=>
 ∃x2,cellOf d e=some (vQ vW x2)/\
 aN (σ:=Sl×Int) (fun a K1 c=>
 Br (decide (a.2<(if(if(16:Int)<x2 then(16:Int)else x2)>(0:Int)then(if(16:Int)<x2 then(16:Int)else x2)else(0:Int))))
 (av xa (qt 22 1 #[(0,a.2)]) aO c fun v4 h3=>
 av xa (qu #[22,22] 22 #[a.1,v4]) aO h3 fun v5 f=>
 K1 ((⟨v5.ptr,v5.len,v5.cap⟩:Sl),qc vW (a.2+1)) f)
 (R a.1 c)) ((⟨none,0,0⟩:Sl),(0:Int)) d
theorem DC(a:bX)(b:@tc R h a):ac xa 103 #[a] h R:=ao af func103 (ak.tn (ak.tn (.two (ak.tn (.inn (.loop [(3,dg),(9,bc)] [(3,5),(9,17)] .n))) .n))) b
def EY(a:Int):Prop:=
 Br (a<0) (R (.complex .f64 0 0) h) (Br (a>=4096)
 (R (.complex .f64 0 0) h)
 (ae xa 136 #[] iX h fun d f=>
 aN (σ:=Int) (fun e K1 c=>
 Br (e==a)
 (∃a3,(d=some a3)/\
 ∃b:Nat×Nat,cellOf c a3=some (.complex .f64 b.1 b.2)/\
 R (.complex .f64 b.1 b.2) c)
 (ae xa 137 #[d] ia c fun _ h3=>
 K1 (qc vW (e+1)) h3)) (0:Int) f))
theorem KS(a:Int)(b:@EY R h a):ac xa 104 #[a] h R:=ao af func104 (ak.tn (.scope 0 [(4,bc)] [(2,3),(4,5),(12,23)] [.n,.n,.n] [.n] [])) b
def CG(c:Nat×Nat)(b:Nat×Nat):Prop:=
 ∃a:Nat×Nat,(fR xa .sub 153 (.tmp 6) (.tmp 7) (.complex .f64 c.1 c.2) (.complex .f64 b.1 b.2) (.complex .f64 a.1 a.2))/\
 ∃f:Nat,((FloatKind.format .f64).mul a.1 a.1=some f)/\
 ∃e:Nat,((FloatKind.format .f64).mul a.2 a.2=some e)/\
 ∃d:Nat,((FloatKind.format .f64).add f e=some d)/\
 R (.float .f64 d) h
theorem IT(b:Nat×Nat)(a:Nat×Nat)(c:@CG R h b a):ac xa 105 #[(.complex .f64 b.1 b.2),(.complex .f64 a.1 a.2)] h R:=ao af func105 .n c
def rH(c:Int×Nat)(b:Int×Nat):Prop:=
 aI xa (qI 160 (vV #[c.1,(.float .f64 c.2)])) h fun f o=>
 aI xa (qI 160 (vV #[b.1,(.float .f64 b.2)])) o fun e a=>
 ∃x3:Nat,cellOf a (f.add 1)=some (.float .f64 x3)/\
 ∃j:Nat,cellOf a (e.add 1)=some (.float .f64 j)/\
 ∃d,cellOf a f=some (vQ vW d)/\
 ∃i,cellOf a e=some (vQ vW i)/\
 ae xa 109 #[(.float .f64 x3),(.float .f64 j)] bp a fun p h3=>
 (aB.ok [(e,i),(f,d)] h3)/\
 ae xa 110 #[d,i] bp h3 fun n k=>
 (aB.ok [] k)/\
 av xa (qt 22 2 #[(0,p),(1,n)]) aO k fun v9 l=>
 (aB.ok [] l)/\
 ae xa 108 #[v9] bp l fun g m=>
 (aB.ok [] m)/\
 R g m
theorem Cc(b:Int×Nat)(a:Int×Nat)(c:@rH R h b a):ac xa 107 #[(vV #[b.1,(.float .f64 b.2)]),(vV #[a.1,(.float .f64 a.2)])] h R:=ao af func107 .n c
def pP(a:Sl):Prop:=
 aN (σ:=Int) (fun b K1 c=>
 Br (b<(a.len:Int))
 (∃d,(a.ptr=some d/\0<=b/\b<(a.len:Int))/\
 ∃x3,cellOf c (d.add (b.toNat*1))=some (vQ vW x3)/\
 Br (x3 !=0)
 (R x3 c)
 (K1 (qc vW (b+1)) c))
 (R (vQ vW 0) c)) (0:Int) h
theorem td(a:Sl)(b:@pP R h a):ac xa 108 #[a] h R:=ao af func108 (ak.tn (ak.tn (.two (ak.tn (.inn (.loop [(8,bc)] [(2,3),(5,6),(8,17)] .n))) .n))) b
def lU(a:Nat)(b:Nat):Prop:=
 ae xa 139 #[(.float .f64 a)] bY h fun e f=>
 ae xa 139 #[(.float .f64 b)] bY f fun d c=>
 Br e
 (Br d
 (R (vQ vW 0) c)
 (R (vQ vW (-1:Int)) c))
 (Br d
 (R (vQ vW 1) c)
 (Br ((FloatKind.format .f64).order a b==some .lt)
 (R (vQ vW (-1:Int)) c)
 (Br ((FloatKind.format .f64).order a b==some .gt)
 (R (vQ vW 1) c)
 (R (vQ vW 0) c))))
theorem rn(a:Nat)(b:Nat)(c:@lU R h a b):ac xa 109 #[(.float .f64 a),(.float .f64 b)] h R:=ao af func109 .n c
def kR(a:Int)(b:Int):Prop:=
 ae xa 140 #[a] bY h fun e f=>
 ae xa 140 #[b] bY f fun d c=>
 Br e
 (Br d
 (R (vQ vW 0) c)
 (R (vQ vW (-1:Int)) c))
 (Br d
 (R (vQ vW 1) c)
 (Br (a<b)
 (R (vQ vW (-1:Int)) c)
 (Br (a>b)
 (R (vQ vW 1) c)
 (R (vQ vW 0) c))))
theorem mT(a:Int)(b:Int)(c:@kR R h a b):ac xa 110 #[a,b] h R:=ao af func110 .n c
def HR(e:bX)(b:Int)(a:Int):Prop:=
 aI xa (qI 24 e) h fun l j=>
 aY (σ:=Unit) (fun _ h3=>
 ∃i:bX,ai h3 l 0 i/\
 ae xa 141 #[i] bp h3 fun k r=>
 ae xa 142 #[(vQ vY (qc vY ((qy (qj vY) b^^^(qy (qj vY) (qc vY ((qc vY a)*2654435761)))).toNat:Nat)))] iX r fun f s=>
 ae xa 143 #[f] (.one (.sc (.int .u32))) s fun _ o=>
 ae xa 145 #[k] aO o fun n q=>
 ae xa 144 #[n,f] bp q fun g h8=>
 ae xa 146 #[f,k,g] aO h8 fun d m=>
 R d m)
 (fun K1=>
 ∃x2:bX,ai j l 0 x2/\
 ae xa 23 #[x2] bY j fun p c=>
 Br (!p) (R (vR none 0 0) c) (Br (a<0) (R (vR none 0 0) c) (Br (a>65535)
 (R (vR none 0 0) c)
 (K1 () c))))
theorem ME(c:bX)(a:Int)(b:Int)(d:@HR R h c a b):ac xa 111 #[c,(vQ vY a),b] h R:=ao af func111 (ak.tn (.two (.join [] [(6,7),(10,21)] .n) .n)) d
def AB(f:dA):Prop:=
 aI xa (qI 119 f) h fun b a=>
 aY (σ:=Bool) (fun n e=>
 Br n (∃l:bX,ai e (b.add 3) 0 l/\
 ae xa 23 #[l] bY e fun g h3=>
 Br g (∃c:Sl,cellOf h3 (b.add 7)=some (c:Value)/\
 ∃d,cellOf h3 ((b.add 3).add 2)=some (vQ vW d)/\
 R (vU ((c.len:Int)==d)) h3) (R false h3)) (R false e))
 (fun K1=>
 ∃x2,cellOf a b=some (vQ vW x2)/\
 Br (x2>=0) (∃x3,cellOf a b=some (vQ vW x3)/\
 Br (x3<=16777215) (∃k,cellOf a (b.add 1)=some (vQ vW k)/\
 Br (k>=0) (∃i,cellOf a (b.add 1)=some (vQ vW i)/\
 Br (i<8) (∃m,cellOf a (b.add 2)=some (vQ vW m)/\
 Br (m>=0) (∃j,cellOf a (b.add 2)=some (vQ vW j)/\
 K1 (decide (j<=65535)) a) (K1 false a)) (K1 false a)) (K1 false a)) (K1 false a)) (K1 false a))
theorem GI(a:dA)(b:@AB R h a):ac xa 112 #[a] h R:=ao af func112 (ak.tn (.two (.join [(3,ji)] [(3,32)] .n) .n)) b
def rI(a:Sl)(d:Int)(b:Int):Prop:=
 aN (σ:=Sl×Int) (fun c K1 e=>
 Br (c.2>=0)
 ((0<=(qc vW (8*c.2)))/\
 av xa (qt 38 1 #[(0,(vQ vX (qc vX (qL d (2^min (qc vW (8*c.2)).toNat (qj vW))))))]) aO e fun g f=>
 av xa (qu #[38,38] 38 #[c.1,g]) aO f fun v3 h3=>
 K1 ((⟨v3.ptr,v3.len,v3.cap⟩:Sl),qc vW (c.2-1)) h3)
 (R c.1 e)) ((⟨a.ptr,a.len,a.cap⟩:Sl),qc vW (b-1)) h
theorem Cd(b:Sl)(c:Int)(a:Int)(d:@rI R h b c a):ac xa 113 #[b,c,a] h R:=ao af func113 (ak.tn (.two (ak.tn (.inn (.loop [(0,dg),(7,bc)] [(0,1),(7,8),(10,22)] .n))) .n)) d
def gS(b:Sl)(u:Int)(z:Int)(f:Int)(a:cq):Prop:=
 aN (σ:=YL) (fun c K1 s=>
 Br ((qc vW (c.2.1-c.1))<=12)
 (ae xa 147 #[b,c.1,c.2.1,(.func (.func a.1) a.2.1 a.2.2)] ia s fun _ K=>
 R (.tuple #[]) K)
 (Br (c.2.2.1==0)
 (ae xa 148 #[b,c.1,c.2.1,(.func (.func a.1) a.2.1 a.2.2)] ia s fun _ h3=>
 R (.tuple #[]) h3)
 (aY (σ:=Int) (fun p O=>
 ae xa 150 #[b,c.1,c.2.1,(.func (.func a.1) a.2.1 a.2.2)] (.many [bc,bc]) O fun t G=>
 aY (σ:=Int×Int) (fun k h8=>
 aY (σ:=Unit) (fun _ j=>
 aY (σ:=Int) (fun g y=>
 ae xa 154 #[b,g,c.2.1,k.1,(.func (.func a.1) a.2.1 a.2.2)] (.many [bc,ji]) y fun d o=>
 ((8:Int)≠0)/\
 Br ((qc vW (d.1-g))<(qc vW (c.2.1-d.1)))
 (ae xa 114 #[b,g,d.1,p,(.func (.func a.1) a.2.1 a.2.2)] ia o fun _ B=>
 K1 (qc vW (d.1+1),c.2.1,p,decide ((qc vW (d.1-g))>=(qc vW (w5 (qc vW (c.2.1-c.1)) 8))),d.2) B)
 (ae xa 114 #[b,(qc vW (d.1+1)),c.2.1,p,(.func (.func a.1) a.2.1 a.2.2)] ia o fun _ v=>
 K1 (g,d.1,p,decide ((qc vW (c.2.1-d.1))>=(qc vW (w5 (qc vW (c.2.1-c.1)) 8))),d.2) v))
 (fun L=>
 aY (σ:=Bool) (fun w n=>
 Br w
 (ae xa 153 #[b,c.1,c.2.1,k.1,(.func (.func a.1) a.2.1 a.2.2)] bp n fun D x=>
 K1 (D,c.2.1,p,c.2.2.2.1,c.2.2.2.2) x)
 (L c.1 n))
 (fun H=>
 Br (c.1>0) (∃m,(b.ptr=some m/\0<=(qc vW (c.1-1))/\(qc vW (c.1-1))<(b.len:Int))/\
 ∃i:gr,ai j (m.add ((qc vW (c.1-1)).toNat*4)) 0 i/\
 ∃q,(b.ptr=some q/\0<=k.1/\k.1<(b.len:Int))/\
 ∃e:gr,ai j (q.add (k.1.toNat*4)) 0 e/\
 gy C a.1 (a.2.1.toList++[(vV #[i.1,i.2.1,i.2.2.1,i.2.2.2]),(vV #[e.1,e.2.1,e.2.2.1,e.2.2.2])]++a.2.2.toList) bp j fun A l=>
 (aB.ok [] l)/\
 H (!(decide (A<0))) l) ((aB.ok [] j)/\
 H false j))))
 (fun r=>
 Br c.2.2.2.1 (Br c.2.2.2.2 (Br (k.2==1)
 (ae xa 152 #[b,c.1,c.2.1,(.func (.func a.1) a.2.1 a.2.2)] bY h8 fun J E=>
 Br J
 (R (.tuple #[]) E)
 (r () E))
 (r () h8)) (r () h8)) (r () h8)))
 (fun I=>
 Br (t.2==2)
 (ae xa 151 #[b,c.1,c.2.1,(.func (.func a.1) a.2.1 a.2.2)] ia G fun _ M=>
 I (qc vW ((qc vW (c.2.1-1))-(qc vW (t.1-c.1))),(1:Int)) M)
 (I (t.1,t.2) G)))
 (fun F=>
 Br (!c.2.2.2.1)
 (ae xa 149 #[b,c.1,c.2.1,(.func (.func a.1) a.2.1 a.2.2)] ia s fun _ N=>
 F (qc vW (c.2.2.1-1)) N)
 (F c.2.2.1 s))))) (u,z,f,true,true) h
theorem kC(c:Sl)(d:Int)(e:Int)(b:Int)(a:cq)(f:@gS R h c d e b a):ac xa 114 #[c,d,e,b,(.func (.func a.1) a.2.1 a.2.2)] h R:=ao af func114 (ak.tn (ak.tn (.inn (.loop [(1,bc),(2,bc),(3,bc),(10,ji),(11,ji)] [(1,4),(10,148)] (.inn (ak.tn (ak.tn (ak.tn (.two (.join [(3,bc)] [(3,4),(38,47)] .n) (ak.tn (.two (.join [(13,bc),(14,bc)] [(13,15),(55,68)] .n) (.two (.join [] [(68,81)] .n) (.two (.join [(1,bc)] [(1,2),(15,16),(81,105)] (.two (.join [(97,ji)] [(81,98)] .n) .n)) .n))))))))))))) f
def og(a:ByteArray):Prop:=
 R (vU (!(a.toList==a.toList))) h
theorem uN(a:ByteArray)(b:@og R h a):ac xa 116 #[a] h R:=ao af func116 .n b
def gp(b:Sl)(a:cq):Prop:=
 aN (σ:=Int) (fun c K1 d=>
 Br (c<(b.len:Int))
 (∃f,(b.ptr=some f/\0<=c/\c<(b.len:Int))/\
 ∃x3,cellOf d (f.add (c.toNat*1))=some (vQ vW x3)/\
 gy C a.1 (a.2.1.toList++[(vQ vW x3)]++a.2.2.toList) bY d fun g e=>
 Br g
 (R c e)
 (K1 (qc vW (c+1)) e))
 (R (vQ vW (-1:Int)) d)) (0:Int) h
theorem iZ(b:Sl)(a:cq)(c:@gp R h b a):ac xa 117 #[b,(.func (.func a.1) a.2.1 a.2.2)] h R:=ao af func117 (ak.tn (.two (ak.tn (.inn (.loop [(8,bc)] [(4,6),(8,19)] .n))) .n)) c
def xk(c:aM)(a:Int)(b:Int):Prop:=
 ae xa 78 #[c] bp h fun d e=>
 R (decide ((if(0:Int)>b then(0:Int)else b)<=(qc vW (d-a)))) e
theorem EZ(c:aM)(a:Int)(b:Int)(d:@xk R h c a b):ac xa 118 #[c,a,b] h R:=ao af func118 .n d
def oA(a:aM):Prop:=
 Br (qO a)
 (R (vQ vW 0) h)
 (∃b,(a=some b)/\
 ∃x2:Sl,cellOf h (b.add 2)=some (x2:Value)/\
 R (vQ vW (x2.len:Int)) h)
theorem xH(a:aM)(b:@oA R h a):ac xa 119 #[a] h R:=ao af func119 .n b
def CH(e:Sl):Prop:=
 aN (σ:=Sl×Int) (fun b K1 E=>
 Br (b.2<(e.len:Int))
 (∃J,(e.ptr=some J/\0<=b.2/\b.2<(e.len:Int))/\
 ∃x3:Sl,cellOf E (J.add (b.2.toNat*1))=some (x3:Value)/\
 ae xa 157 #[x3] (.many [(.agg [(.int .i64),(.int .i64),(.int .i64),.slc,.slc]),ji]) E fun K O=>
 aI xa (qG 214 true (.tuple #[])) O fun a5 h3=>
 ab xa (qe 214 a5 K.1) h3 fun _ I=>
 Br K.2
 (∃L:lN,ai I a5 0 L/\
 av xa (qt 212 1 #[(0,L)]) aO I fun Q T=>
 av xa (qu #[212,212] 212 #[b.1,Q]) aO T fun G N=>
 K1 ((⟨G.ptr,G.len,G.cap⟩:Sl),qc vW (b.2+1)) N)
 (K1 ((⟨b.1.ptr,b.1.len,b.1.cap⟩:Sl),qc vW (b.2+1)) I))
 (av xa (Instr.makeMap 217 none) (.one (.sc .mp)) E fun v9 S=>
 aN (σ:=Sl×Int) (fun a m h8=>
 Br (a.2<(b.1.len:Int))
 (∃k,(b.1.ptr=some k/\0<=a.2/\a.2<(b.1.len:Int))/\
 ∃q:lN,ai h8 (k.add (a.2.toNat*5)) 0 q/\
 aI xa (qG 214 true (.tuple #[])) h8 fun f M=>
 ab xa (qe 214 f q) M fun _ c=>
 ∃l,cellOf c (f.add 1)=some (vQ vW l)/\
 Br (l !=0)
 (m ((⟨a.1.ptr,a.1.len,a.1.cap⟩:Sl),qc vW (a.2+1)) c)
 (∃t:lN,ai c f 0 t/\
 ae xa 158 #[b.1,t] (.many [dg,ji]) c fun r j=>
 Br (!r.2)
 (m ((⟨a.1.ptr,a.1.len,a.1.cap⟩:Sl),qc vW (a.2+1)) j)
 (ae xa 159 #[r.1] (.many [TO,ji]) j fun w z=>
 aI xa (qG 47 true (.tuple #[])) z fun d B=>
 ab xa (qe 47 d w.1) B fun _ p=>
 ∃u:bH,ai p d 0 u/\
 ae xa 52 #[u] aO p fun x A=>
 av xa (convert 38 9 x) (.one UX) A fun i v=>
 aY (σ:=Unit) (fun _ F=>
 ab xa (Instr.mapUpdate 217 (.map v9) i true) F fun _ o=>
 ∃s:bH,ai o d 0 s/\
 av xa (qt 128 1 #[(0,s)]) aO o fun v25 D=>
 av xa (qu #[128,128] 128 #[a.1,v25]) aO D fun g H=>
 m ((⟨g.ptr,g.len,g.cap⟩:Sl),qc vW (a.2+1)) H)
 (fun P=>
 Br (!w.2) (m ((⟨a.1.ptr,a.1.len,a.1.cap⟩:Sl),qc vW (a.2+1)) v) (av xa (Instr.lookup 217 (.map v9) i false) bY v fun v22 n=>
 Br v22
 (m ((⟨a.1.ptr,a.1.len,a.1.cap⟩:Sl),qc vW (a.2+1)) n)
 (P () n))))))
 (ae xa 160 #[a.1,(.func (.func 161) #[] #[])] ia h8 fun _ y=>
 R a.1 y)) ((⟨none,0,0⟩:Sl),(0:Int)) S)) ((⟨none,0,0⟩:Sl),(0:Int)) h
theorem IU(a:Sl)(b:@CH R h a):ac xa 120 #[a] h R:=ao af func120 (ak.tn (ak.tn (.two (ak.tn (.inn (.loop [(3,dg),(18,bc)] [(3,4),(5,8),(18,33)] .n))) (ak.tn (ak.tn (.two (ak.tn (.inn (.loop [(8,dg),(36,bc)] [(8,9),(11,16),(36,73)] (ak.tn (ak.tn (.two (.inn (ak.tn (ak.tn (ak.tn (ak.tn (ak.tn (ak.tn (.two (.join [] [(59,66)] .n) .n)))))))) .n)))))) .n)))))) b
def te(n:aM)(p:bH):Prop:=
 aI xa (qI 47 p) h fun z x=>
 ae xa 42 #[n] aO x fun o w=>
 aN (σ:=Sl×Int) (fun a K1 h3=>
 Br ((qc vW (a.2+1))>=(o.len:Int))
 (ae xa 164 #[a.1,(.func (.func 165) #[] #[])] ia h3 fun _ A=>
 ae xa 166 #[a.1,(.func (.func 167) #[] #[])] aO A fun u B=>
 R u B)
 (aY (σ:=Sl) (fun b l=>
 K1 ((⟨b.ptr,b.len,b.cap⟩:Sl),qc vW (a.2+1)) l)
 (fun k=>
 ∃t,(o.ptr=some t/\0<=(qc vW (a.2+1))/\(qc vW (a.2+1))<(o.len:Int))/\
 ∃r:Sl,cellOf h3 (t.add ((qc vW (a.2+1)).toNat*1))=some (r:Value)/\
 ae xa 162 #[r] (.many [(.agg [(.int .i64),(.int .i64),(.int .i64),(.int .i64),(.int .i64),(.int .i64),(.int .u32),.slc]),ji]) h3 fun s v=>
 aI xa (qG 119 true (.tuple #[])) v fun a9 y=>
 ab xa (qe 119 a9 s.1) y fun _ h8=>
 Br s.2 (∃f:bH,ai h8 z 0 f/\
 ∃e:dA,ai h8 a9 0 e/\
 ae xa 163 #[f,e] bY h8 fun j i=>
 Br j
 (∃d:dA,ai i a9 0 d/\
 av xa (qt 172 1 #[(0,d)]) aO i fun m q=>
 av xa (qu #[172,172] 172 #[a.1,m]) aO q fun c g=>
 k (⟨c.ptr,c.len,c.cap⟩:Sl) g)
 (k (⟨a.1.ptr,a.1.len,a.1.cap⟩:Sl) i)) (k (⟨a.1.ptr,a.1.len,a.1.cap⟩:Sl) h8)))) ((⟨none,0,0⟩:Sl),(-1:Int)) w
theorem DD(b:aM)(a:bH)(c:@te R h b a):ac xa 121 #[b,a] h R:=ao af func121 (ak.tn (.scope 0 [(6,dg),(7,bc)] [(4,5),(6,10),(12,40)] [.n,.n,.n] [(ak.tn (ak.tn (.two (.join [(6,dg)] [(6,7),(8,10),(18,36)] .n) .n)))] [(1,[.n])])) c
def tf(a:Int):Prop:=
 ae xa 85 #[a,(vQ vW 0),(vQ vW 15)] bY h fun b c=>
 R (vU (!b)) c
theorem DE(a:Int)(b:@tf R h a):ac xa 122 #[a] h R:=ao af func122 .n b
def HS(c:Sl):Prop:=
 aN (σ:=Int×Int) (fun a K1 e=>
 Br (a.2<(c.len:Int))
 (∃f,(c.ptr=some f/\0<=a.2/\a.2<(c.len:Int))/\
 ∃x3,cellOf e (f.add (a.2.toNat*1))=some (vQ vX x3)/\
 aN (σ:=Int×Int) (fun b g d=>
 Br (b.2<8)
 ((0<=(1:Int))/\
 Br ((qc vY ((qy (qj vY) b.1&&&(qy (qj vY) (1:Int))).toNat:Nat))==1)
 (g (qc vY ((qy (qj vY) (qL b.1 (2^min (1:Int).toNat (qj vY)))^^^(qy (qj vY) (3988292384:Int))).toNat:Nat),qc vW (b.2+1)) d)
 (g (qL b.1 (2^min (1:Int).toNat (qj vY)),qc vW (b.2+1)) d))
 (K1 (b.1,qc vW (a.2+1)) d)) (qc vY ((qy (qj vY) a.1^^^(qy (qj vY) (qc vY x3))).toNat:Nat),(0:Int)) e)
 (R (vQ vY (qc vY ((qy (qj vY) (4294967295:Int)^^^(qy (qj vY) a.1)).toNat:Nat))) e)) ((4294967295:Int),(0:Int)) h
theorem MF(a:Sl)(b:@HS R h a):ac xa 123 #[a] h R:=ao af func123 (ak.tn (ak.tn (.two (ak.tn (.inn (.loop [(3,(.sc (.int .u32))),(9,bc)] [(3,4),(5,7),(9,29)] (ak.tn (ak.tn (.two (.inn (ak.tn (ak.tn (ak.tn (.inn (.loop [(3,(.sc (.int .u32))),(17,bc)] [(3,4),(6,7),(17,28)] .n)))))) .n)))))) .n))) b
def xl(f:bX)(a:Int)(c:Sl):Prop:=
 aI xa (qI 24 f) h fun d i=>
 ∃x2:bX,ai i d 0 x2/\
 ae xa 23 #[x2] bY i fun l b=>
 (aB.ok [] b)/\
 Br l (∃g:bX,ai b d 0 g/\
 ∃e:bX,ai b d 0 e/\
 ae xa 177 #[g,(vQ vY a),c] bp b fun k h3=>
 (aB.ok [(d,e.1),(d.add 1,e.2.1),(d.add 2,e.2.2)] h3)/\
 ae xa 141 #[e] bp h3 fun m j=>
 (aB.ok [] j)/\
 R (vU (k==m)) j) ((aB.ok [] b)/\
 (aB.ok [] b)/\
 R false b)
theorem Fa(c:bX)(a:Int)(b:Sl)(d:@xl R h c a b):ac xa 125 #[c,(vQ vY a),b] h R:=ao af func125 .n d
def HT(a:Sl):Prop:=
 aN (σ:=Int) (fun c K1 b=>
 Br (c<(a.len:Int))
 (∃e,(a.ptr=some e/\0<=c/\c<(a.len:Int))/\
 ∃x3:Sl,cellOf b (e.add (c.toNat*1))=some (x3:Value)/\
 ∃a4,(a.ptr=some a4/\0<=(0:Int)/\(0:Int)<(a.len:Int))/\
 ∃d:Sl,cellOf b (a4.add ((0:Int).toNat*1))=some (d:Value)/\
 Br ((x3.len:Int) !=(d.len:Int)) (R false b) (Br ((x3.len:Int)>64)
 (R false b)
 (K1 (qc vW (c+1)) b)))
 (R true b)) (0:Int) h
theorem MG(a:Sl)(b:@HT R h a):ac xa 126 #[a] h R:=ao af func126 (ak.tn (.two (ak.tn (.inn (.loop [(7,bc)] [(2,3),(4,5),(7,24)] .n))) .n)) b
def CI(a:Sl):Prop:=
 Br ((a.len:Int)==0)
 (R (vQ vW 0) h)
 (∃b,(a.ptr=some b/\0<=(0:Int)/\(0:Int)<(a.len:Int))/\
 ∃x2:Sl,cellOf h (b.add ((0:Int).toNat*1))=some (x2:Value)/\
 R (vQ vW (x2.len:Int)) h)
theorem IV(a:Sl)(b:@CI R h a):ac xa 127 #[a] h R:=ao af func127 .n b
def HU(a:Sl):Prop:=
 av xa (zD 64 (vQ vW 0) (vQ vW (a.len:Int))) aO h fun e i=>
 aN (σ:=Sl×Int) (fun b K1 c=>
 Br (b.2<(a.len:Int))
 (∃a3,(a.ptr=some a3/\0<=b.2/\b.2<(a.len:Int))/\
 ∃f:Sl,cellOf c (a3.add (b.2.toNat*1))=some (f:Value)/\
 ae xa 56 #[f] aO c fun k h3=>
 av xa (qt 64 1 #[(0,k)]) aO h3 fun g j=>
 av xa (qu #[64,64] 64 #[b.1,g]) aO j fun d l=>
 K1 ((⟨d.ptr,d.len,d.cap⟩:Sl),qc vW (b.2+1)) l)
 (R b.1 c)) ((⟨e.ptr,e.len,e.cap⟩:Sl),(0:Int)) i
theorem MH(a:Sl)(b:@HU R h a):ac xa 128 #[a] h R:=ao af func128 (ak.tn (ak.tn (.two (ak.tn (.inn (.loop [(3,dg),(11,bc)] [(3,4),(5,6),(11,21)] .n))) .n))) b
def AC(l:aM)(a:Sl)(f:Int):Prop:=
 aN (σ:=Int×Int) (fun b K1 H=>
 Br (b.2<f)
 (ae xa 178 #[a,b.1,b.2] bp H fun m x=>
 Br (m<0)
 (K1 (b.1,qc vW (b.2+1)) x)
 (aY (σ:=Unit) (fun _ y=>
 aY (σ:=Unit) (fun _ L=>
 aN (σ:=Int) (fun c D d=>
 Br (c<(a.len:Int))
 (Br (c !=b.1)
 (∃j,(a.ptr=some j/\0<=c/\c<(a.len:Int))/\
 ∃g:Sl,cellOf d (j.add (c.toNat*1))=some (g:Value)/\
 ∃o,(g.ptr=some o/\0<=b.2/\b.2<(g.len:Int))/\
 ∃u,cellOf d (o.add (b.2.toNat*1))=some (vQ vX u)/\
 ∃a25,(a.ptr=some a25/\0<=b.1/\b.1<(a.len:Int))/\
 ∃w:Sl,cellOf d (a25.add (b.1.toNat*1))=some (w:Value)/\
 ∃r,(a.ptr=some r/\0<=c/\c<(a.len:Int))/\
 ∃v:Sl,cellOf d (r.add (c.toNat*1))=some (v:Value)/\
 ae xa 181 #[l,(vQ vX u),w,v] ia d fun _ q=>
 (aB.ok [(j.add (c.toNat*1),g)] q)/\
 D (qc vW (c+1)) q)
 (D (qc vW (c+1)) d))
 (K1 (qc vW (b.1+1),qc vW (b.2+1)) d)) (0:Int) L)
 (fun N=>
 ∃i,(a.ptr=some i/\0<=b.1/\b.1<(a.len:Int))/\
 ∃e:Sl,cellOf y (i.add (b.1.toNat*1))=some (e:Value)/\
 ∃t,(e.ptr=some t/\0<=b.2/\b.2<(e.len:Int))/\
 ∃p,cellOf y (t.add (b.2.toNat*1))=some (vQ vX p)/\
 ∃k,(a.ptr=some k/\0<=b.1/\b.1<(a.len:Int))/\
 ∃n:Sl,cellOf y (k.add (b.1.toNat*1))=some (n:Value)/\
 ae xa 180 #[l,(vQ vX p)] (.one (.sc (.int .u8))) y fun z E=>
 (aB.ok [(k.add (b.1.toNat*1),n),(i.add (b.1.toNat*1),e)] E)/\
 ae xa 179 #[l,(vQ vX z),n] aO E fun A I=>
 (aB.ok [(i.add (b.1.toNat*1),e)] I)/\
 ∃s,(a.ptr=some s/\0<=b.1/\b.1<(a.len:Int))/\
 ab xa (qe 38 (s.add (b.1.toNat*1)) A) I fun _ h8=>
 (aB.ok [] h8)/\
 N () h8))
 (fun M=>
 ∃a3,(a.ptr=some a3/\0<=m/\m<(a.len:Int))/\
 ∃B:Sl,cellOf x (a3.add (m.toNat*1))=some (B:Value)/\
 ∃a5,(a.ptr=some a5/\0<=b.1/\b.1<(a.len:Int))/\
 ∃J:Sl,cellOf x (a5.add (b.1.toNat*1))=some (J:Value)/\
 ∃F,(a.ptr=some F/\0<=b.1/\b.1<(a.len:Int))/\
 ab xa (qe 38 (F.add (b.1.toNat*1)) B) x fun _ h3=>
 (aB.ok [] h3)/\
 ∃G,(a.ptr=some G/\0<=m/\m<(a.len:Int))/\
 ab xa (qe 38 (G.add (m.toNat*1)) J) h3 fun _ K=>
 (aB.ok [] K)/\
 M () K)))
 (R b.1 H)) ((0:Int),(0:Int)) h
theorem GJ(b:aM)(c:Sl)(a:Int)(d:@AC R h b c a):ac xa 129 #[b,c,a] h R:=ao af func129 (ak.tn (ak.tn (.two (ak.tn (.inn (.loop [(7,bc),(12,bc)] [(7,11),(12,82)] (ak.tn (ak.tn (.two (.inn (ak.tn (ak.tn (ak.tn (.two (.join [] [(21,35)] .n) (.two (.join [] [(35,53)] .n) (.two (ak.tn (.inn (.loop [(55,bc)] [(10,11),(55,79)] .n))) .n))))))) .n)))))) .n))) d
def Fb(a:aM):Prop:=
 Br (qO a)
 (ae xa 101 #[] iX h fun b c=>
 R b c)
 (R a h)
theorem KT(a:aM)(b:@Fb R h a):ac xa 130 #[a] h R:=ao af func130 .n b
def CJ:Prop:=
 aI xa (qG 182 true (.tuple #[])) h fun c g=>
 aN (σ:=Int×Int) (fun b K1 d=>
 Br (b.2<255)
 ((0<=b.2/\b.2<((255:Nat):Int))/\
 ab xa (qe 5 (c.add (b.2.toNat*1)) (vQ vX b.1)) d fun _ h3=>
 ae xa 184 #[(vQ vX b.1),(vQ vX 3)] (.one (.sc (.int .u8))) h3 fun i j=>
 K1 (i,qc vW (b.2+1)) j)
 (∃e:List (Int),(e.length=255/\ai d c 0 (e.map (Sc.enc (.int .u8))))/\
 ab xa (qe 182 c (vV (e.map (Sc.enc (.int .u8))).toArray)) d fun _ f=>
 ∃a:List (Int),(a.length=255/\ai f c 0 (a.map (Sc.enc (.int .u8))))/\
 R (vV (a.map (Sc.enc (.int .u8))).toArray) f)) ((1:Int),(0:Int)) g
theorem IW(a:@CJ R h):ac xa 132 #[] h R:=ao af func132 (ak.tn (ak.tn (.two (ak.tn (.inn (.loop [(1,(.sc (.int .u8))),(3,bc)] [(1,12)] .n))) .n))) a
def HV(e:List (Int)):Prop:=
 aI xa (qI 182 (vV (e.map (Sc.enc (.int .u8))).toArray)) h fun j k=>
 aI xa (qG 184 true (.tuple #[])) k fun d g=>
 ∃x3:List (Int),(x3.length=255/\ai g j 0 (x3.map (Sc.enc (.int .u8))))/\
 aN (σ:=Int) (fun b K1 h3=>
 Br (b<255)
 (∃c:Int,(0<=b/\b<((255:Nat):Int)/\((x3.map (Sc.enc (.int .u8))).toArray:Array Value)[b.toNat]?=some (vQ vX c))/\
 (0<=c/\c<((256:Nat):Int))/\
 ab xa (qe 3 (d.add (c.toNat*1)) b) h3 fun _ l=>
 K1 (qc vW (b+1)) l)
 (∃f:List (Int),(f.length=256/\ai h3 d 0 (f.map (Sc.enc (.int .i64))))/\
 ab xa (qe 184 d (vV (f.map (Sc.enc (.int .i64))).toArray)) h3 fun _ i=>
 ∃a:List (Int),(a.length=256/\ai i d 0 (a.map (Sc.enc (.int .i64))))/\
 R (vV (a.map (Sc.enc (.int .i64))).toArray) i)) (0:Int) g
theorem MI(a:List (Int))(b:@HV R h a):ac xa 133 #[(vV (a.map (Sc.enc (.int .u8))).toArray)] h R:=ao af func133 (ak.tn (.two (ak.tn (.inn (.loop [(6,bc)] [(3,5),(6,14)] .n))) .n)) b
def Fc(n:bX):Prop:=
 aI xa (qI 24 n) h fun e v=>
 ∃x2:bX,ai v e 0 x2/\
 ae xa 23 #[x2] bY v fun D t=>
 Br (!D)
 (R (vR none 0 0) t)
 (ae xa 101 #[] iX t fun E h3=>
 ∃r,cellOf h3 (e.add 1)=some (vQ vW r)/\
 aN (σ:=Sl×Int) (fun f K1 k=>
 Br (f.2<r)
 (aY (σ:=Sl) (fun b w=>
 ∃g,cellOf w e=some (vQ vW g)/\
 aN (σ:=Int) (fun a B h8=>
 Br (a<g)
 (ae xa 186 #[E,(qc vW ((qc vW (f.2+1))*(qc vW (a+1))))] (.one (.sc (.int .u8))) h8 fun o y=>
 ∃i,(b.ptr=some i/\0<=a/\a<(b.len:Int))/\
 ab xa (qe 5 (i.add (a.toNat*1)) (vQ vX o)) y fun _ p=>
 B (qc vW (a+1)) p)
 (av xa (qt 64 1 #[(0,b)]) aO h8 fun q l=>
 av xa (qu #[64,64] 64 #[f.1,q]) aO l fun c m=>
 K1 ((⟨c.ptr,c.len,c.cap⟩:Sl),qc vW (f.2+1)) m)) (0:Int) w)
 (fun A=>
 ∃u:bX,ai k e 0 u/\
 ∃j,cellOf k e=some (vQ vW j)/\
 ae xa 141 #[u] bp k fun z x=>
 (aB.ok [(e,j)] x)/\
 ae xa 185 #[z,(qc vW (j+f.2))] aO x fun d s=>
 (aB.ok [(e,j)] s)/\
 A (⟨d.ptr,d.len,d.cap⟩:Sl) s))
 (R f.1 k)) ((⟨none,0,0⟩:Sl),(0:Int)) h3)
theorem KU(a:bX)(b:@Fc R h a):ac xa 134 #[a] h R:=ao af func134 (ak.tn (ak.tn (ak.tn (ak.tn (.two (ak.tn (.inn (.loop [(4,dg),(14,bc)] [(4,8),(14,45)] (ak.tn (ak.tn (.two (.inn (ak.tn (.two (.join [(6,dg)] [(6,7),(17,24)] .n) (.two (ak.tn (.inn (.loop [(26,bc)] [(7,8),(26,40)] .n))) .n)))) .n)))))) .n))))) b
def KV(j:bX)(d:Int)(a:Int):Prop:=
 aI xa (qI 24 j) h fun m o=>
 aY (σ:=Unit) (fun _ h3=>
 ∃n:bX,ai h3 m 0 n/\
 ae xa 141 #[n] bp h3 fun p v=>
 av xa (zD 38 p p) aO v fun k r=>
 ∃q:bX,ai r m 0 q/\
 ae xa 111 #[q,(vQ vY d),a] aO r fun i t=>
 aN (σ:=Int) (fun b s l=>
 Br (b<(i.len:Int))
 (∃e,(i.ptr=some e/\0<=b/\b<(i.len:Int))/\
 ∃c,cellOf l (e.add (b.toNat*1))=some (vQ vW c)/\
 ∃f,(k.ptr=some f/\0<=c/\c<(k.len:Int))/\
 ab xa (qe 5 (f.add (c.toNat*1)) (vQ vX 1)) l fun _ h8=>
 s (qc vW (b+1)) h8)
 (R k l)) (0:Int) t)
 (fun K1=>
 ∃x2:bX,ai o m 0 x2/\
 ae xa 23 #[x2] bY o fun u g=>
 Br (!u) (R (vR none 0 0) g) (Br (a<0) (R (vR none 0 0) g) (Br (a>65535)
 (R (vR none 0 0) g)
 (K1 () g))))
theorem Pd(c:bX)(a:Int)(b:Int)(d:@KV R h c a b):ac xa 135 #[c,(vQ vY a),b] h R:=ao af func135 (ak.tn (.two (.join [] [(6,7),(10,21)] .n) (ak.tn (.two (ak.tn (.inn (.loop [(29,bc)] [(9,10),(29,37)] .n))) .n)))) d
def xn:Prop:=
 aI xa (qI 193 (vV #[(.complex .f64 0 0),(.complex .f64 4607182418800017408 0),(vQ vW 1),(vQ vW 1),false])) h fun b a=>
 R b a
theorem Fe(a:@xn R h):ac xa 136 #[] h R:=ao af func136 .n a
def oB(a:aM):Prop:=
 ∃z,(a=some z)/\
 ∃x2:Nat×Nat,cellOf h z=some (.complex .f64 x2.1 x2.2)/\
 ∃a3,(a=some a3)/\
 ∃r:Nat×Nat,cellOf h (a3.add 1)=some (.complex .f64 r.1 r.2)/\
 ∃z5:Nat×Nat,(fR xa .add 153 (.tmp 5) (.tmp 9) (.complex .f64 x2.1 x2.2) (.complex .f64 r.1 r.2) (.complex .f64 z5.1 z5.2))/\
 ∃x,(a=some x)/\
 ab xa (qe 153 x (.complex .f64 z5.1 z5.2)) h fun _ u=>
 (aB.ok [] u)/\
 ∃w,(a=some w)/\
 ∃A,cellOf u (w.add 2)=some (vQ vW A)/\
 ∃a9,(a=some a9)/\
 ab xa (qe 3 (a9.add 2) (qc vW (A-1))) u fun _ s=>
 ∃o,(a=some o)/\
 ∃l,cellOf s (o.add 2)=some (vQ vW l)/\
 Br (l>0)
 (R (.tuple #[]) s)
 (∃g,(a=some g)/\
 ∃b:Nat×Nat,cellOf s (g.add 1)=some (.complex .f64 b.1 b.2)/\
 ae xa 187 #[(.complex .f64 b.1 b.2),(vQ vW 1)] (.one (.sc (.cpx .f64))) s fun i h3=>
 ∃m,(a=some m)/\
 ab xa (qe 153 (m.add 1) (.complex .f64 i.1 i.2)) h3 fun _ t=>
 aY (σ:=Unit) (fun _ v=>
 ∃a22,(a=some a22)/\
 ∃n:Bool,cellOf v (a22.add 4)=some (vU n)/\
 ∃j,(a=some j)/\
 ab xa (qe 4 (j.add 4) (vU (!n))) v fun _ y=>
 ∃a25,(a=some a25)/\
 ∃q,cellOf y (a25.add 3)=some (vQ vW q)/\
 ∃c,(a=some c)/\
 ab xa (qe 3 (c.add 2) q) y fun _ h8=>
 R (.tuple #[]) h8)
 (fun K1=>
 ∃d,(a=some d)/\
 ∃f:Bool,cellOf t (d.add 4)=some (vU f)/\
 Br f
 (∃e,(a=some e)/\
 ∃p,cellOf t (e.add 3)=some (vQ vW p)/\
 ∃k,(a=some k)/\
 ab xa (qe 3 (k.add 3) (qc vW (p+1))) t fun _ B=>
 K1 () B)
 (K1 () t)))
theorem xI(a:aM)(b:@oB R h a):ac xa 137 #[a] h R:=ao af func137 (ak.tn (ak.tn (ak.tn (ak.tn (.two (.join [] [(33,44)] .n) .n))))) b
def mU(a:Nat):Prop:=
 R (vU ((FloatKind.format .f64).order a a !=some .eq)) h
theorem tg(a:Nat)(b:@mU R h a):ac xa 139 #[(.float .f64 a)] h R:=ao af func139 .n b
def mB(a:Int):Prop:=
 R (vU (a !=a)) h
theorem oC(a:Int)(b:@mB R h a):ac xa 140 #[a] h R:=ao af func140 .n b
def Ff(b:bX):Prop:=
 aI xa (qI 24 b) h fun c f=>
 ∃x2:bX,ai f c 0 x2/\
 ae xa 23 #[x2] bY f fun g a=>
 Br (!g)
 (R (vQ vW 0) a)
 (∃e,cellOf a c=some (vQ vW e)/\
 ∃d,cellOf a (c.add 1)=some (vQ vW d)/\
 R (qc vW (e+d)) a)
theorem KW(a:bX)(b:@Ff R h a):ac xa 141 #[a] h R:=ao af func141 .n b
def Fg(a:Int):Prop:=
 aI xa (qI 252 (vV #[(vQ vZ (qc vZ a))])) h fun c b=>
 R c b
theorem KX(a:Int)(b:@Fg R h a):ac xa 142 #[(vQ vY a)] h R:=ao af func142 .n b
def pQ(a:aM):Prop:=
 Br (qO a)
 (R (vQ vY 0) h)
 (∃c,(a=some c)/\
 ∃x2,cellOf h c=some (vQ vZ x2)/\
 ∃a3,(a=some a3)/\
 ab xa (qe 211 a3 (vQ vZ (qc vZ ((qc vZ (x2*6364136223846793005))+1442695040888963407)))) h fun _ d=>
 ∃a4,(a=some a4)/\
 ∃b,cellOf d a4=some (vQ vZ b)/\
 (0<=(32:Int))/\
 R (vQ vY (qc vY (qL b (2^min (32:Int).toNat (qj vZ))))) d)
theorem AD(a:aM)(b:@pQ R h a):ac xa 143 #[a] h R:=ao af func143 .n b
def th(a:Sl)(b:aM):Prop:=
 Br ((a.len:Int)==0)
 (R (vQ vW 0) h)
 (∃c,(a.ptr=some c/\0<=(qc vW ((a.len:Int)-1))/\(qc vW ((a.len:Int)-1))<(a.len:Int))/\
 ∃x2:Int,cellOf h (c.add ((qc vW ((a.len:Int)-1)).toNat*1))=some (vQ vW x2)/\
 ae xa 197 #[b,x2] bp h fun g f=>
 ae xa 196 #[a,g] bp f fun e d=>
 R e d)
theorem DF(a:Sl)(b:aM)(c:@th R h a b):ac xa 144 #[a,b] h R:=ao af func144 .n c
def rJ(a:Int):Prop:=
 aY (σ:=Unit) (fun _ i=>
 av xa (zD 22 (vQ vW 0) a) aO i fun d f=>
 aN (σ:=Sl×Int×Int) (fun b k h3=>
 Br (b.2.2<=a)
 (ae xa 198 #[a,b.2.2] bp h3 fun e j=>
 av xa (qt 22 1 #[(0,(qc vW (b.2.1+e)))]) aO j fun v5 g=>
 av xa (qu #[22,22] 22 #[b.1,v5]) aO g fun c l=>
 k ((⟨c.ptr,c.len,c.cap⟩:Sl),qc vW (b.2.1+e),qc vW (b.2.2+1)) l)
 (R b.1 h3)) ((⟨d.ptr,d.len,d.cap⟩:Sl),(0:Int),(1:Int)) f)
 (fun K1=>
 Br (a<1) (R (vR none 0 0) h) (Br (a>64)
 (R (vR none 0 0) h)
 (K1 () h)))
theorem Ce(a:Int)(b:@rJ R h a):ac xa 145 #[a] h R:=ao af func145 (ak.tn (.two (.join [] [(2,3),(6,12)] .n) (ak.tn (ak.tn (.two (ak.tn (.inn (.loop [(3,dg),(4,bc),(5,bc)] [(3,6),(14,28)] .n))) .n))))) b
def xo(m:aM)(d:Int)(c:Int):Prop:=
 aY (σ:=Unit) (fun _ w=>
 av xa (zD 22 d d) aO w fun b u=>
 aN (σ:=Int) (fun f t h3=>
 Br (f<(b.len:Int))
 (∃a4,(b.ptr=some a4/\0<=f/\f<(b.len:Int))/\
 ab xa (qe 3 (a4.add (f.toNat*1)) f) h3 fun _ x=>
 t (qc vW (f+1)) x)
 (aN (σ:=Int) (fun a v r=>
 Br (a<c)
 (ae xa 197 #[m,(qc vW (d-a))] bp r fun e l=>
 ∃o,(b.ptr=some o/\0<=(qc vW (a+e))/\(qc vW (a+e))<(b.len:Int))/\
 ∃q:Int,cellOf l (o.add ((qc vW (a+e)).toNat*1))=some (vQ vW q)/\
 ∃a9,(b.ptr=some a9/\0<=a/\a<(b.len:Int))/\
 ∃k,cellOf l (a9.add (a.toNat*1))=some (vQ vW k)/\
 ∃g,(b.ptr=some g/\0<=a/\a<(b.len:Int))/\
 ab xa (qe 3 (g.add (a.toNat*1)) q) l fun _ p=>
 (aB.ok [] p)/\
 ∃i,(b.ptr=some i/\0<=(qc vW (a+e))/\(qc vW (a+e))<(b.len:Int))/\
 ab xa (qe 3 (i.add ((qc vW (a+e)).toNat*1)) k) p fun _ h8=>
 (aB.ok [] h8)/\
 v (qc vW (a+1)) h8)
 ((0<=c/\c<=(b.cap:Int))/\
 ae xa 83 #[(vR b.ptr c.toNat b.cap)] aO r fun j s=>
 ae xa 93 #[j] ia s fun _ n=>
 R j n)) (0:Int) h3)) (0:Int) u)
 (fun K1=>
 Br (d<0) (R (vR none 0 0) h) (Br (d>64) (R (vR none 0 0) h) (Br (c<0) (R (vR none 0 0) h) (Br (c>d)
 (R (vR none 0 0) h)
 (K1 () h)))))
theorem Fh(a:aM)(b:Int)(c:Int)(d:@xo R h a b c):ac xa 146 #[a,b,c] h R:=ao af func146 (ak.tn (.two (.join [] [(6,7),(12,27)] .n) (ak.tn (.two (ak.tn (.inn (.loop [(31,bc)] [(8,9),(31,39)] .n))) (.two (ak.tn (.inn (.loop [(40,bc)] [(9,11),(40,65)] .n))) .n))))) d
def fN(a:Sl)(f:Int)(o:Int)(c:cq):Prop:=
 aN (σ:=Int) (fun n K1 r=>
 Br (n<o)
 (aN (σ:=Int) (fun b t i=>
 aY (σ:=Unit) (fun _ p=>
 ∃a9,(a.ptr=some a9/\0<=(qc vW (b-1))/\(qc vW (b-1))<(a.len:Int))/\
 ∃k:gr,ai p (a9.add ((qc vW (b-1)).toNat*4)) 0 k/\
 ∃d,(a.ptr=some d/\0<=b/\b<(a.len:Int))/\
 ∃j:gr,ai p (d.add (b.toNat*4)) 0 j/\
 ∃l,(a.ptr=some l/\0<=b/\b<(a.len:Int))/\
 ab xa (qe 73 (l.add (b.toNat*4)) k) p fun _ s=>
 (aB.ok [] s)/\
 ∃g,(a.ptr=some g/\0<=(qc vW (b-1))/\(qc vW (b-1))<(a.len:Int))/\
 ab xa (qe 73 (g.add ((qc vW (b-1)).toNat*4)) j) s fun _ q=>
 (aB.ok [] q)/\
 t (qc vW (b-1)) q)
 (fun u=>
 Br (b>f) (∃a3,(a.ptr=some a3/\0<=b/\b<(a.len:Int))/\
 ∃e:gr,ai i (a3.add (b.toNat*4)) 0 e/\
 ∃a5,(a.ptr=some a5/\0<=(qc vW (b-1))/\(qc vW (b-1))<(a.len:Int))/\
 ∃m:gr,ai i (a5.add ((qc vW (b-1)).toNat*4)) 0 m/\
 gy C c.1 (c.2.1.toList++[(vV #[e.1,e.2.1,e.2.2.1,e.2.2.2]),(vV #[m.1,m.2.1,m.2.2.1,m.2.2.2])]++c.2.2.toList) bp i fun v h3=>
 (aB.ok [] h3)/\
 Br (v<0)
 (u () h3)
 (K1 (qc vW (n+1)) h3)) ((aB.ok [] i)/\
 K1 (qc vW (n+1)) i))) n r)
 (R (.tuple #[]) r)) (qc vW (f+1)) h
theorem je(b:Sl)(c:Int)(d:Int)(a:cq)(e:@fN R h b c d a):ac xa 147 #[b,c,d,(.func (.func a.1) a.2.1 a.2.2)] h R:=ao af func147 (ak.tn (.inn (.loop [(8,bc)] [(8,10),(12,53)] (ak.tn (.two (.inn (ak.tn (.inn (.loop [(9,bc)] [(9,10),(18,53)] (.two (.join [] [(18,35)] .n) .n))))) .n))))) e
end
end Go.Qw
