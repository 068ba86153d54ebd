/- Lemmas for the proof of the law; no condition. -/
import Derived.Test.YtcaonbjibhlkcaaGreatDoorTabA
set_option linter.unusedVariables false
open Go.Proofs.Tryz renaming prog -> xv
open Go.Value renaming agg -> xp, bool -> xo, int -> xk, pointer -> xm, slice -> xl
open Go.IntKind renaming bits -> qk, i64 -> xq, u32 -> xt, u64 -> xu, u8 -> xr, wrap -> qc
open Go.Instr renaming alloc -> qP, box -> qH, buildSlice -> qt, makeSlice -> qB, storeAt -> qf
open Go.Builtin renaming append_ -> qq
open Option renaming isNone -> q9
open Int renaming fdiv -> qQ, tdiv -> z8, tmod -> zZ
open BitVec renaming ofInt -> qu
open Go.Proofs.Tryz
set_option maxRecDepth 1000000
namespace Go.Qw
noncomputable section
open Go Go.Vc Go.Proofs
variable {R:Cu} {h:Heap}
def Ka(a:aP)(b:Sl):Prop:=
 af xv 120 #[a,b] aK h fun d c=>
 R (xk xq (d.len:Int)) c
theorem QC(a:aP)(b:Sl)(c:@Ka R h a b):ab xv 56 #[a,b] h R:=ao ac func56 .n c
def fQ(b:Sl)(a:cB):Prop:=
 af xv 121 #[b,(.func (.func a.1) a.2.1 a.2.2)] bB h fun d c=>
 R (decide (d>=0)) c
theorem jE(b:Sl)(a:cB)(c:@fQ R h b a):ab xv 57 #[b,(.func (.func a.1) a.2.1 a.2.2)] h R:=ao ac func57 .n c
def uS(b:Int×Sl)(a:Addr):Prop:=
 aO xv (qH 77 b) h fun f c=>
 ∃x2:bm,al c a 0 x2/\
 ∃x3:Int×Sl,al c f 0 x3/\
 af xv 30 #[x2,x3] bJ c fun e d=>
 R (xo (!e)) d
theorem FC(b:Int×Sl)(a:Addr)(c:@uS R h b a):ab xv 58 #[b,a] h R:=ao ac func58 .n c
def FD(U:bm)(f:Int)(l:Sl):Prop:=
 aO xv (qH 25 U) h fun i h1=>
 aG (σ:=Sl×Int) (fun k K1 H=>
 Br (k.2<(l.len:Int))
 (∃a3,(l.ptr=some a3/\0<=k.2/\k.2<(l.len:Int))/\
 ∃W:Int×Sl,al H (a3.add (k.2.toNat*2)) 0 W/\
 aO xv (qP 77 true (.tuple #[])) H fun a5 h3=>
 ae xv (qf 77 a5 W) h3 fun _ I=>
 ∃Y:bm,al I i 0 Y/\
 ∃x7,cellOf I a5=some (xk xq x7)/\
 ∃p:Sl,cellOf I (a5.add 1)=some (p:Value)/\
 af xv 31 #[Y,(xk xt f),x7] aK I fun r9 Z=>
 (aq.ok [(a5.add 1,p)] Z)/\
 aw xv (qt 181 1 #[(0,(xp #[r9,p]))]) aK Z fun J X=>
 (aq.ok [(a5.add 1,p)] X)/\
 aw xv (qq #[181,181] 181 #[k.1,J]) aK X fun j h7=>
 (aq.ok [(a5.add 1,p)] h7)/\
 K1 ((⟨j.ptr,j.len,j.cap⟩:Sl),qc xq (k.2+1)) h7)
 (aW (σ:=aP) (fun a n=>
 ∃o:bm,al n i 0 o/\
 af xv 25 #[o] bB n fun K T=>
 af xv 122 #[K,k.1] (.many [ca,ca,ca,aS]) T fun e z=>
 Br (e.2.2.2 !=0)
 (R (.tuple #[(xl none 0 0),(xk xq 10)]) z)
 (∃v,(a=some v)/\
 ae xv (qf 49 (v.add 4) e.2.1) z fun _ N=>
 ∃F,(a=some F)/\
 ae xv (qf 181 (F.add 5) e.2.2.1) N fun _ S=>
 af xv 123 #[a,e.1] ic S fun _ Q=>
 af xv 124 #[a] ic Q fun _ V=>
 af xv 125 #[a] ic V fun _ P=>
 af xv 126 #[a] (.many [ca,ca]) P fun d g=>
 ∃a25,(a=some a25)/\
 ∃r:Sl,cellOf g ((a25.add 6).add 1)=some (r:Value)/\
 Br ((r.len:Int)==0)
 (aG (σ:=Int) (fun c K3 m=>
 Br (c<(d.2.len:Int))
 (∃a28,(d.2.ptr=some a28/\0<=c/\c<(d.2.len:Int))/\
 ∃A:Sl,cellOf m (a28.add (c.toNat*1))=some (A:Value)/\
 af xv 127 #[A,Yn] aK m fun L D=>
 Br ((L.len:Int)>0)
 (R (.tuple #[(xl none 0 0),(xk xq 10)]) D)
 (K3 (qc xq (c+1)) D))
 (af xv 128 #[a,(xl none 0 0)] ic m fun _ q=>
 ∃B,(a=some B)/\
 ∃x:Sl,cellOf q (B.add 4)=some (x:Value)/\
 R (.tuple #[x,(xk xq 0)]) q)) (0:Int) g)
 (∃u,(a=some u)/\
 ∃t:aP,cellOf g u=some (.pointer t)/\
 af xv 19 #[t,d.1,d.2] (.many [ca,aS]) g fun G s=>
 Br (G.2 !=0)
 (R (.tuple #[(xl none 0 0),(xk xq 10)]) s)
 (af xv 128 #[a,G.1] ic s fun _ w=>
 ∃y,(a=some y)/\
 ∃E:Sl,cellOf w (y.add 4)=some (E:Value)/\
 R (.tuple #[E,(xk xq 0)]) w))))
 (fun K2=>
 ∃b:bm,al H i 0 b/\
 af xv 20 #[] mL H fun O h8=>
 (aq.ok [(i,b.1),(i.add 1,b.2.1),(i.add 2,b.2.2)] h8)/\
 aO xv (qH 189 (xp #[O,b.1,b.2.1,b.2.2,(xl none 0 0),(xl none 0 0),(xl none 0 0),(xl none 0 0),(xl none 0 0),(xl none 0 0),(xl none 0 0)])) h8 fun M h9=>
 (aq.ok [(i,b.1),(i.add 1,b.2.1),(i.add 2,b.2.2)] h9)/\
 K2 (some M) h9))) ((⟨none,0,0⟩:Sl),(0:Int)) h1
theorem LQ(c:bm)(a:Int)(b:Sl)(d:@FD R h c a b):ab xv 59 #[c,(xk xt a),b] h R:=ao ac func59 (ak.tn (.fwd (ak.tn (.two (ak.tn (.inn (.loop [(8,ca),(23,aS)] [(8,9),(10,11),(23,39)] .n))) (.two (.join [(11,Nr)] [(11,12),(39,43)] .n) .n))) [(0,[.n]),(1,[(.two (ak.tn (.inn (.loop [(95,aS)] [(20,21),(95,104)] .n))) .n)]),(2,[.n])])) d
def Kb(a:Int):Prop:=
 aO xv (qH 200 (xp #[(xk xu (qc xu a))])) h fun b c=>
 R b c
theorem QD(a:Int)(b:@Kb R h a):ab xv 60 #[(xk xt a)] h R:=ao ac func60 .n b
def uT(a:aP):Prop:=
 Br (q9 a)
 (R (xk xt 0) h)
 (∃c,(a=some c)/\
 ∃x2,cellOf h c=some (xk xu x2)/\
 ∃a3,(a=some a3)/\
 ae xv (qf 198 a3 (xk xu (qc xu ((qc xu (x2*6364136223846793005))+1442695040888963407)))) h fun _ d=>
 ∃a4,(a=some a4)/\
 ∃b,cellOf d a4=some (xk xu b)/\
 (0<=(32:Int))/\
 R (xk xt (qc xt (qQ b (2^min (32:Int).toNat (qk xu))))) d)
theorem FE(a:aP)(b:@uT R h a):ab xv 61 #[a] h R:=ao ac func61 .n b
def BD(a:Sl)(b:aP):Prop:=
 Br ((a.len:Int)==0)
 (R (xk xq 0) h)
 (∃c,(a.ptr=some c/\0<=(qc xq ((a.len:Int)-1))/\(qc xq ((a.len:Int)-1))<(a.len:Int))/\
 ∃x2:Int,cellOf h (c.add ((qc xq ((a.len:Int)-1)).toNat*1))=some (xk xq x2)/\
 af xv 130 #[b,x2] bB h fun e g=>
 af xv 129 #[a,e] bB g fun f d=>
 R f d)
theorem IT(b:Sl)(a:aP)(c:@BD R h b a):ab xv 62 #[b,a] h R:=ao ac func62 .n c
def Av(a:Int):Prop:=
 aW (σ:=Unit) (fun _ m=>
 aw xv (qB 38 (xk xq 0) a) aK m fun c j=>
 aG (σ:=Tu6) (fun b g h3=>
 Br (b.2.2<=a)
 (af xv 131 #[a,b.2.2] bB h3 fun e i=>
 aw xv (qt 38 1 #[(0,(qc xq (b.2.1+e)))]) aK i fun v5 l=>
 aw xv (qq #[38,38] 38 #[b.1,v5]) aK l fun d f=>
 g ((⟨d.ptr,d.len,d.cap⟩:Sl),qc xq (b.2.1+e),qc xq (b.2.2+1)) f)
 (R b.1 h3)) ((⟨c.ptr,c.len,c.cap⟩:Sl),(0:Int),(1:Int)) j)
 (fun k=>
 Br (a<1) (R (xl none 0 0) h) (Br (a>64)
 (R (xl none 0 0) h)
 (k () h)))
theorem Hv(a:Int)(b:@Av R h a):ab xv 63 #[a] h R:=ao ac func63 (ak.tn (.two (.join [] [(2,3),(6,12)] .n) (ak.tn (ak.tn (.two (ak.tn (.inn (.loop [(3,ca),(4,aS),(5,aS)] [(3,6),(14,28)] .n))) .n))))) b
def DV(m:aP)(d:Int)(c:Int):Prop:=
 aW (σ:=Unit) (fun _ s=>
 aw xv (qB 38 d d) aK s fun b t=>
 aG (σ:=Int) (fun f v h3=>
 Br (f<(b.len:Int))
 (∃a4,(b.ptr=some a4/\0<=f/\f<(b.len:Int))/\
 ae xv (qf 3 (a4.add (f.toNat*1)) f) h3 fun _ y=>
 v (qc xq (f+1)) y)
 (aG (σ:=Int) (fun a w p=>
 Br (a<c)
 (af xv 130 #[m,(qc xq (d-a))] bB p fun e n=>
 ∃o,(b.ptr=some o/\0<=(qc xq (a+e))/\(qc xq (a+e))<(b.len:Int))/\
 ∃r:Int,cellOf n (o.add ((qc xq (a+e)).toNat*1))=some (xk xq r)/\
 ∃a9,(b.ptr=some a9/\0<=a/\a<(b.len:Int))/\
 ∃k,cellOf n (a9.add (a.toNat*1))=some (xk xq k)/\
 ∃j,(b.ptr=some j/\0<=a/\a<(b.len:Int))/\
 ae xv (qf 3 (j.add (a.toNat*1)) r) n fun _ q=>
 (aq.ok [] q)/\
 ∃i,(b.ptr=some i/\0<=(qc xq (a+e))/\(qc xq (a+e))<(b.len:Int))/\
 ae xv (qf 3 (i.add ((qc xq (a+e)).toNat*1)) k) q fun _ h8=>
 (aq.ok [] h8)/\
 w (qc xq (a+1)) h8)
 ((0<=c/\c<=(b.cap:Int))/\
 af xv 132 #[(xl b.ptr c.toNat b.cap)] aK p fun g x=>
 af xv 98 #[g] ic x fun _ l=>
 R g l)) (0:Int) h3)) (0:Int) t)
 (fun u=>
 Br (d<0) (R (xl none 0 0) h) (Br (d>64) (R (xl none 0 0) h) (Br (c<0) (R (xl none 0 0) h) (Br (c>d)
 (R (xl none 0 0) h)
 (u () h)))))
theorem Kc(a:aP)(c:Int)(b:Int)(d:@DV R h a c b):ab xv 64 #[a,c,b] h R:=ao ac func64 (ak.tn (.two (.join [] [(6,7),(12,27)] .n) (ak.tn (.two (ak.tn (.inn (.loop [(31,aS)] [(8,9),(31,39)] .n))) (.two (ak.tn (.inn (.loop [(40,aS)] [(9,11),(40,65)] .n))) .n))))) d
def lY(j:Sl):Prop:=
 af xv 133 #[j] bJ h fun r1 h1=>
 Br (!r1)
 (R (xl none 0 0) h1)
 (aG (σ:=Sl×Int) (fun b K1 V=>
 Br (b.2<(j.len:Int))
 (∃a3,(j.ptr=some a3/\0<=b.2/\b.2<(j.len:Int))/\
 ∃x4:Sl,cellOf V (a3.add (b.2.toNat*1))=some (x4:Value)/\
 aw xv (qq #[23,23] 23 #[(xl none 0 0),x4]) aK V fun v5 h3=>
 aw xv (qt 49 1 #[(0,v5)]) aK h3 fun v6 h4=>
 aw xv (qq #[49,49] 49 #[b.1,v6]) aK h4 fun v7 h5=>
 K1 ((⟨v7.ptr,v7.len,v7.cap⟩:Sl),qc xq (b.2+1)) h5)
 (aW (σ:=Int) (fun o am=>
 (0<=o/\o<=(b.1.cap:Int))/\
 R (xl b.1.ptr o.toNat b.1.cap) am)
 (fun K2=>
 aG (σ:=Int×Int) (fun a K3 U=>
 aW (σ:=Unit) (fun _ h7=>
 aG (σ:=Int×Int) (fun c Y h8=>
 Br (c.2<(b.1.len:Int))
 (∃y,(b.1.ptr=some y/\0<=c.2/\c.2<(b.1.len:Int))/\
 ∃m:Sl,cellOf h8 (y.add (c.2.toNat*1))=some (m:Value)/\
 ∃u,(m.ptr=some u/\0<=a.2/\a.2<(m.len:Int))/\
 ∃w,cellOf h8 (u.add (a.2.toNat*1))=some (xk xr w)/\
 Br (w !=0) (Br (c.1<0)
 (Y (c.2,qc xq (c.2+1)) h8)
 (Y (c.1,qc xq (c.2+1)) h8)) (Y (c.1,qc xq (c.2+1)) h8))
 (Br (c.1<0)
 (K3 (a.1,qc xq (a.2+1)) h8)
 (aW (σ:=Unit) (fun _ k=>
 aW (σ:=Unit) (fun _ ah=>
 aG (σ:=Int) (fun d K8 g=>
 Br (d<(b.1.len:Int))
 (aW (σ:=Bool) (fun ad e=>
 Br ad
 (∃q,(b.1.ptr=some q/\0<=d/\d<(b.1.len:Int))/\
 ∃l:Sl,cellOf e (q.add (d.toNat*1))=some (l:Value)/\
 ∃J,(l.ptr=some J/\0<=a.2/\a.2<(l.len:Int))/\
 ∃D,cellOf e (J.add (a.2.toNat*1))=some (xk xr D)/\
 ∃t,(b.1.ptr=some t/\0<=a.1/\a.1<(b.1.len:Int))/\
 ∃H:Sl,cellOf e (t.add (a.1.toNat*1))=some (H:Value)/\
 ∃a46,(b.1.ptr=some a46/\0<=d/\d<(b.1.len:Int))/\
 ∃L:Sl,cellOf e (a46.add (d.toNat*1))=some (L:Value)/\
 af xv 136 #[(xk xr D),H,L] aK e fun W s=>
 (aq.ok [(q.add (d.toNat*1),l)] s)/\
 ∃F,(b.1.ptr=some F/\0<=d/\d<(b.1.len:Int))/\
 ae xv (qf 23 (F.add (d.toNat*1)) W) s fun _ Q=>
 (aq.ok [] Q)/\
 K8 (qc xq (d+1)) Q)
 (K8 (qc xq (d+1)) e))
 (fun K9=>
 Br (d !=a.1) (∃A,(b.1.ptr=some A/\0<=d/\d<(b.1.len:Int))/\
 ∃n:Sl,cellOf g (A.add (d.toNat*1))=some (n:Value)/\
 ∃B,(n.ptr=some B/\0<=a.2/\a.2<(n.len:Int))/\
 ∃G,cellOf g (B.add (a.2.toNat*1))=some (xk xr G)/\
 K9 (G !=0) g) (K9 false g)))
 (K3 (qc xq (a.1+1),qc xq (a.2+1)) g)) (0:Int) ah)
 (fun K7=>
 ∃i,(b.1.ptr=some i/\0<=a.1/\a.1<(b.1.len:Int))/\
 ∃f:Sl,cellOf k (i.add (a.1.toNat*1))=some (f:Value)/\
 ∃x,(f.ptr=some x/\0<=a.2/\a.2<(f.len:Int))/\
 ∃r,cellOf k (x.add (a.2.toNat*1))=some (xk xr r)/\
 ∃a28,(b.1.ptr=some a28/\0<=a.1/\a.1<(b.1.len:Int))/\
 ∃p:Sl,cellOf k (a28.add (a.1.toNat*1))=some (p:Value)/\
 af xv 135 #[(xk xr r)] (.one (.sc (.int .u8))) k fun Z P=>
 (aq.ok [(a28.add (a.1.toNat*1),p),(i.add (a.1.toNat*1),f)] P)/\
 af xv 134 #[(xk xr Z),p] aK P fun X N=>
 (aq.ok [(i.add (a.1.toNat*1),f)] N)/\
 ∃T,(b.1.ptr=some T/\0<=a.1/\a.1<(b.1.len:Int))/\
 ae xv (qf 23 (T.add (a.1.toNat*1)) X) N fun _ z=>
 (aq.ok [] z)/\
 K7 () z))
 (fun K6=>
 ∃v,(b.1.ptr=some v/\0<=a.1/\a.1<(b.1.len:Int))/\
 ∃O:Sl,cellOf h8 (v.add (a.1.toNat*1))=some (O:Value)/\
 ∃K,(b.1.ptr=some K/\0<=c.1/\c.1<(b.1.len:Int))/\
 ∃E:Sl,cellOf h8 (K.add (c.1.toNat*1))=some (E:Value)/\
 ∃I,(b.1.ptr=some I/\0<=c.1/\c.1<(b.1.len:Int))/\
 ae xv (qf 23 (I.add (c.1.toNat*1)) O) h8 fun _ h9=>
 (aq.ok [] h9)/\
 ∃a22,(b.1.ptr=some a22/\0<=a.1/\a.1<(b.1.len:Int))/\
 ae xv (qf 23 (a22.add (a.1.toNat*1)) E) h9 fun _ M=>
 (aq.ok [] M)/\
 K6 () M)))) ((-1:Int),a.1) h7)
 (fun K4=>
 Br ((b.1.len:Int)>0) (∃a9,(b.1.ptr=some a9/\0<=(0:Int)/\(0:Int)<(b.1.len:Int))/\
 ∃S:Sl,cellOf U (a9.add ((0:Int).toNat*1))=some (S:Value)/\
 Br (a.2<(S.len:Int))
 (K4 () U)
 (K2 a.1 U)) (K2 a.1 U))) ((0:Int),(0:Int)) V))) ((⟨none,0,0⟩:Sl),(0:Int)) h1)
theorem sS(a:Sl)(b:@lY R h a):ab xv 65 #[a] h R:=ao ac func65 (ak.tn (ak.tn (ak.tn (.two (ak.tn (.inn (.loop [(3,ca),(15,aS)] [(3,5),(15,27)] .n))) (ak.tn (.two (.join [(5,aS)] [(5,10),(27,132)] (ak.tn (.inn (.loop [(5,aS),(6,aS)] [(5,10),(27,132)] (.two (.join [] [(27,38)] .n) (.two (.inn (ak.tn (.two (ak.tn (.inn (.loop [(7,aS),(8,aS)] [(7,9),(41,60)] .n))) (ak.tn (.two (.join [] [(62,76)] .n) (.two (.join [] [(76,92)] .n) (.two (ak.tn (.inn (.loop [(94,aS)] [(9,10),(94,130)] (ak.tn (ak.tn (.two (.inn (ak.tn (.two (.join [(109,lL)] [(97,110)] .n) .n))) .n)))))) .n))))))) .n)))))) .n)))))) b
def oq(c:bm):Prop:=
 aO xv (qH 25 c) h fun b a=>
 ∃x2,cellOf a b=some (xk xq x2)/\
 Br (x2>=1) (∃x3,cellOf a b=some (xk xq x3)/\
 Br (x3<=16) (∃f,cellOf a (b.add 1)=some (xk xq f)/\
 Br (f>=1) (∃e,cellOf a (b.add 1)=some (xk xq e)/\
 Br (e<=4) (∃g,cellOf a (b.add 2)=some (xk xq g)/\
 Br (g>=1) (∃d,cellOf a (b.add 2)=some (xk xq d)/\
 R (decide (d<=24)) a) (R false a)) (R false a)) (R false a)) (R false a)) (R false a)
theorem xO(a:bm)(b:@oq R h a):ab xv 66 #[a] h R:=ao ac func66 .n b
def mO(t:bm):Prop:=
 aO xv (qH 25 t) h fun e y=>
 aW (σ:=Sl) (fun m p=>
 R m p)
 (fun w=>
 aG (σ:=Sl×Int) (fun a A k=>
 aW (σ:=Unit) (fun _ u=>
 ∃q,cellOf u e=some (xk xq q)/\
 ∃n,cellOf u (e.add 1)=some (xk xq n)/\
 aw xv (qB 23 (qc xq (q+n)) (qc xq (q+n))) aK u fun v9 z=>
 aG (σ:=Int) (fun b x j=>
 ∃g,cellOf j e=some (xk xq g)/\
 Br (b<g)
 (af xv 137 #[(qc xq ((qc xq (a.2+1))*(qc xq (b+1))))] (.one (.sc (.int .u8))) j fun r F=>
 ∃f,(v9.ptr=some f/\0<=b/\b<(v9.len:Int))/\
 ae xv (qf 5 (f.add (b.toNat*1)) (xk xr r)) F fun _ h8=>
 x (qc xq (b+1)) h8)
 (∃c,cellOf j e=some (xk xq c)/\
 ∃i,(v9.ptr=some i/\0<=(qc xq (c+a.2))/\(qc xq (c+a.2))<(v9.len:Int))/\
 ae xv (qf 5 (i.add ((qc xq (c+a.2)).toNat*1)) (xk xr 1)) j fun _ E=>
 aw xv (qt 49 1 #[(0,v9)]) aK E fun o l=>
 aw xv (qq #[49,49] 49 #[a.1,o]) aK l fun d s=>
 A ((⟨d.ptr,d.len,d.cap⟩:Sl),qc xq (a.2+1)) s)) (0:Int) z)
 (fun B=>
 ∃x3,cellOf k (e.add 1)=some (xk xq x3)/\
 Br (a.2<x3) (∃v:bm,al k e 0 v/\
 af xv 66 #[v] bJ k fun D h3=>
 Br D
 (B () h3)
 (w (⟨a.1.ptr,a.1.len,a.1.cap⟩:Sl) h3)) (w (⟨a.1.ptr,a.1.len,a.1.cap⟩:Sl) k))) ((⟨none,0,0⟩:Sl),(0:Int)) y)
theorem tU(a:bm)(b:@mO R h a):ab xv 67 #[a] h R:=ao ac func67 (ak.tn (ak.tn (.two (.join [(3,ca)] [(3,48)] (ak.tn (.inn (.loop [(3,ca),(4,aS)] [(3,48)] (.two (.join [] [(7,15)] .n) (.two (.inn (ak.tn (.two (ak.tn (.inn (.loop [(6,aS)] [(6,7),(23,38)] .n))) .n))) .n)))))) .n))) b
def mP(a:Int):Prop:=
 Br (a>=0) (R (decide (a<=65535)) h) (R false h)
theorem tV(a:Int)(b:@mP R h a):ab xv 68 #[a] h R:=ao ac func68 .n b
def ot(i:bm)(c:Int)(d:Int):Prop:=
 aO xv (qH 25 i) h fun k p=>
 aW (σ:=Unit) (fun _ r=>
 ∃o:bm,al r k 0 o/\
 af xv 138 #[o] bB r fun n u=>
 aw xv (qB 23 n n) aK u fun j l=>
 ∃m:bm,al l k 0 m/\
 af xv 139 #[m,(xk xt c),d] aK l fun e x=>
 aG (σ:=Int) (fun a v h8=>
 Br (a<(e.len:Int))
 (∃g,(e.ptr=some g/\0<=a/\a<(e.len:Int))/\
 ∃b,cellOf h8 (g.add (a.toNat*1))=some (xk xq b)/\
 ∃f,(j.ptr=some f/\0<=b/\b<(j.len:Int))/\
 ae xv (qf 5 (f.add (b.toNat*1)) (xk xr 1)) h8 fun _ w=>
 v (qc xq (a+1)) w)
 (R j h8)) (0:Int) x)
 (fun t=>
 ∃x2:bm,al p k 0 x2/\
 af xv 66 #[x2] bJ p fun s q=>
 Br (!s) (R (xl none 0 0) q) (af xv 68 #[d] bJ q fun y h3=>
 Br (!y)
 (R (xl none 0 0) h3)
 (t () h3)))
theorem xP(c:bm)(a:Int)(b:Int)(d:@ot R h c a b):ab xv 69 #[c,(xk xt a),b] h R:=ao ac func69 (ak.tn (.two (.join [] [(6,7),(10,18)] .n) (ak.tn (.two (ak.tn (.inn (.loop [(26,aS)] [(9,10),(26,34)] .n))) .n)))) d
def FF(b:Sl)(c:Int)(a:Int):Prop:=
 aG (σ:=Int) (fun d i e=>
 Br (d>=(b.len:Int))
 (R (xk xq (-1:Int)) e)
 (∃f,(b.ptr=some f/\0<=d/\d<(b.len:Int))/\
 ∃x3:Sl,cellOf e (f.add (d.toNat*1))=some (x3:Value)/\
 ∃a4,(x3.ptr=some a4/\0<=a/\a<(x3.len:Int))/\
 ∃g,cellOf e (a4.add (a.toNat*1))=some (xk xr g)/\
 Br (g !=0)
 (R d e)
 (i (qc xq (d+1)) e))) c h
theorem LR(c:Sl)(a:Int)(b:Int)(d:@FF R h c a b):ab xv 70 #[c,a,b] h R:=ao ac func70 (ak.tn (.scope 0 [(7,aS)] [(6,8),(9,24)] [.n] [.n] [(1,[.n])])) d
def HO(e:aP)(c:Int)(a:Sl):Prop:=
 af xv 140 #[e] mL h fun m o=>
 aw xv (qB 23 (xk xq (a.len:Int)) (xk xq (a.len:Int))) aK o fun d j=>
 aG (σ:=Int) (fun b k h3=>
 Br (b<(a.len:Int))
 (∃a4,(a.ptr=some a4/\0<=b/\b<(a.len:Int))/\
 ∃g,cellOf h3 (a4.add (b.toNat*1))=some (xk xr g)/\
 af xv 141 #[m,(xk xr c),(xk xr g)] (.one (.sc (.int .u8))) h3 fun n i=>
 ∃f,(d.ptr=some f/\0<=b/\b<(d.len:Int))/\
 ae xv (qf 5 (f.add (b.toNat*1)) (xk xr n)) i fun _ l=>
 k (qc xq (b+1)) l)
 (R d h3)) (0:Int) j
theorem Oq(b:aP)(c:Int)(a:Sl)(d:@HO R h b c a):ab xv 71 #[b,(xk xr c),a] h R:=ao ac func71 (ak.tn (ak.tn (ak.tn (.two (ak.tn (.inn (.loop [(17,aS)] [(8,10),(17,30)] .n))) .n)))) d
def BE(b:aP)(a:Int):Prop:=
 Br (a==0)
 (R (xk xr 0) h)
 (af xv 142 #[b] mL h fun f c=>
 ∃d,(f=some d)/\
 (0<=a/\a<((256:Nat):Int))/\
 ∃x3,cellOf c ((d.add 255).add (a.toNat*1))=some (xk xq x3)/\
 ((255:Int)≠0)/\
 ∃a4,(f=some a4)/\
 (0<=(zZ (qc xq (255-x3)) 255)/\(zZ (qc xq (255-x3)) 255)<((255:Nat):Int))/\
 ∃e:Int,cellOf c (a4.add ((zZ (qc xq (255-x3)) 255).toNat*1))=some (xk xr e)/\
 R (xk xr e) c)
theorem IU(a:aP)(b:Int)(c:@BE R h a b):ab xv 72 #[a,(xk xr b)] h R:=ao ac func72 .n c
def Ny(g:aP)(d:Int)(c:Sl)(a:Sl):Prop:=
 Br (d==0)
 (R (.tuple #[]) h)
 (aG (σ:=Int) (fun b l e=>
 Br (b<(c.len:Int))
 (∃i,(c.ptr=some i/\0<=b/\b<(c.len:Int))/\
 ∃x3,cellOf e (i.add (b.toNat*1))=some (xk xr x3)/\
 ∃a4,(a.ptr=some a4/\0<=b/\b<(a.len:Int))/\
 ∃f,cellOf e (a4.add (b.toNat*1))=some (xk xr f)/\
 af xv 141 #[g,(xk xr d),(xk xr x3)] (.one (.sc (.int .u8))) e fun m k=>
 (aq.ok [(a4.add (b.toNat*1),(xk xr f))] k)/\
 ∃j,(a.ptr=some j/\0<=b/\b<(a.len:Int))/\
 ae xv (qf 5 (j.add (b.toNat*1)) (xk xr (qc xr ((qu (qk xr) f^^^(qu (qk xr) m)).toNat:Nat)))) k fun _ h3=>
 (aq.ok [] h3)/\
 l (qc xq (b+1)) h3)
 (R (.tuple #[]) e)) (0:Int) h)
theorem Tb(d:aP)(c:Int)(b:Sl)(a:Sl)(e:@Ny R h d c b a):ab xv 73 #[d,(xk xr c),b,a] h R:=ao ac func73 (ak.tn (ak.tn (.inn (.loop [(14,aS)] [(8,10),(14,30)] .n)))) e
def ko(b:Sl)(a:cB):Prop:=
 aG (σ:=Int) (fun c g d=>
 Br (c<(b.len:Int))
 (∃e,(b.ptr=some e/\0<=c/\c<(b.len:Int))/\
 ∃x3,cellOf d (e.add (c.toNat*1))=some (xk xr x3)/\
 hJ C a.1 (a.2.1.toList++[(xk xr x3)]++a.2.2.toList) bJ d fun i f=>
 Br i
 (R c f)
 (g (qc xq (c+1)) f))
 (R (xk xq (-1:Int)) d)) (0:Int) h
theorem pi(b:Sl)(a:cB)(c:@ko R h b a):ab xv 74 #[b,(.func (.func a.1) a.2.1 a.2.2)] h R:=ao ac func74 (ak.tn (.two (ak.tn (.inn (.loop [(8,aS)] [(4,6),(8,19)] .n))) .n)) c
def FG(a:Int):Prop:=
 R (xo (a !=0)) h
theorem LS(a:Int)(b:@FG R h a):ab xv 75 #[(xk xr a)] h R:=ao ac func75 .n b
def Kd(c:Int)(b:Int):Prop:=
 aG (σ:=bm) (fun a j d=>
 Br (a.2.1==0)
 (R (xk xr a.2.2) d)
 (aW (σ:=Int) (fun i g=>
 (0<=(1:Int))/\
 aW (σ:=Int) (fun k h3=>
 (0<=(1:Int))/\
 j (k,qQ a.2.1 (2^min (1:Int).toNat (qk xr)),i) h3)
 (fun f=>
 Br ((qc xr ((qu (qk xr) a.1&&&(qu (qk xr) (128:Int))).toNat:Nat)) !=0)
 (f (qc xr ((qu (qk xr) (qc xr (a.1*2^min (1:Int).toNat (qk xr)))^^^(qu (qk xr) (27:Int))).toNat:Nat)) g)
 (f (qc xr (a.1*2^min (1:Int).toNat (qk xr))) g)))
 (fun e=>
 Br ((qc xr ((qu (qk xr) a.2.1&&&(qu (qk xr) (1:Int))).toNat:Nat))==1)
 (e (qc xr ((qu (qk xr) a.2.2^^^(qu (qk xr) a.1)).toNat:Nat)) d)
 (e a.2.2 d)))) (c,b,(0:Int)) h
theorem QE(a:Int)(b:Int)(c:@Kd R h a b):ab xv 76 #[(xk xr a),(xk xr b)] h R:=ao ac func76 (ak.tn (.scope 0 [(0,(.sc (.int .u8))),(1,(.sc (.int .u8))),(5,(.sc (.int .u8)))] [(0,2),(4,26)] [.n] [(ak.tn (.two (.join [(5,(.sc (.int .u8)))] [(5,6),(10,16)] .n) (ak.tn (ak.tn (.two (.join [(0,(.sc (.int .u8)))] [(0,1),(21,24)] .n) .n)))))] [])) c
def Ke(b:Int)(a:Int):Prop:=
 aW (σ:=Unit) (fun _ f=>
 aw xv (qB 23 b b) aK f fun c d=>
 ∃a3,(c.ptr=some a3/\0<=a/\a<(c.len:Int))/\
 ae xv (qf 5 (a3.add (a.toNat*1)) (xk xr 1)) d fun _ h3=>
 R c h3)
 (fun e=>
 Br (b<1) (R (xl none 0 0) h) (Br (b>64) (R (xl none 0 0) h) (Br (a<0) (R (xl none 0 0) h) (Br (a>=b)
 (R (xl none 0 0) h)
 (e () h)))))
theorem QF(b:Int)(a:Int)(c:@Ke R h b a):ab xv 77 #[b,a] h R:=ao ac func77 (ak.tn (.two (.join [] [(4,5),(6,21)] .n) .n)) c
def BF(c:aP)(a:Int):Prop:=
 ((255:Int)≠0)/\
 aW (σ:=Int) (fun b i=>
 af xv 142 #[c] mL i fun g d=>
 ∃a3,(g=some a3)/\
 (0<=b/\b<((255:Nat):Int))/\
 ∃f,cellOf d (a3.add (b.toNat*1))=some (xk xr f)/\
 R (xk xr f) d)
 (fun e=>
 Br ((zZ a 255)<0)
 (e (qc xq ((zZ a 255)+255)) h)
 (e (zZ a 255) h))
theorem IV(a:aP)(b:Int)(c:@BF R h a b):ab xv 78 #[a,b] h R:=ao ac func78 (ak.tn (ak.tn (.two (.join [(1,aS)] [(1,2),(7,11)] .n) .n))) c
def BG(a:Sl):Prop:=
 aG (σ:=Sl×Int) (fun b g c=>
 Br (b.2<(a.len:Int))
 (∃e,(a.ptr=some e/\0<=b.2/\b.2<(a.len:Int))/\
 ∃x3,cellOf c (e.add (b.2.toNat*1))=some (xk xq x3)/\
 aW (σ:=Unit) (fun _ f=>
 Br (x3>0)
 (aw xv (qt 38 1 #[(0,b.2)]) aK f fun v5 h3=>
 aw xv (qq #[38,38] 38 #[b.1,v5]) aK h3 fun d j=>
 g ((⟨d.ptr,d.len,d.cap⟩:Sl),qc xq (b.2+1)) j)
 (g ((⟨b.1.ptr,b.1.len,b.1.cap⟩:Sl),qc xq (b.2+1)) f))
 (fun i=>
 Br (x3<0) (R (.tuple #[(xl none 0 0),false]) c) (Br (x3>512)
 (R (.tuple #[(xl none 0 0),false]) c)
 (i () c))))
 (Br ((a.len:Int)<=64) (R (.tuple #[b.1,(decide ((b.1.len:Int)>0))]) c) (R (.tuple #[b.1,false]) c))) ((⟨none,0,0⟩:Sl),(0:Int)) h
theorem IW(a:Sl)(b:@BG R h a):ab xv 79 #[a] h R:=ao ac func79 (ak.tn (ak.tn (.two (ak.tn (.inn (.loop [(4,ca),(9,aS)] [(2,7),(9,27)] (ak.tn (ak.tn (.two (.inn (ak.tn (.two (.join [] [(2,4),(14,20)] .n) .n))) .n)))))) .n))) b
def rZ(a:aP):Prop:=
 Br (q9 a)
 (R (xk xq 0) h)
 (∃b,(a=some b)/\
 ∃x2,cellOf h (b.add 3)=some (xk xq x2)/\
 R x2 h)
theorem Da(a:aP)(b:@rZ R h a):ab xv 80 #[a] h R:=ao ac func80 .n b
def FH(c:di):Prop:=
 aO xv (qH 136 c) h fun j k=>
 ∃x2:di,al k j 0 x2/\
 af xv 143 #[x2] aK k fun b m=>
 ((48:Int)≠0)/\
 aG (σ:=Sl×Int) (fun a n h3=>
 Br (decide (a.2<(qc xq (z8 (qc xq ((qc xq ((b.len:Int)+48))-1)) 48))))
 (∃g,cellOf h3 j=some (xk xq g)/\
 (0<=(qc xq (a.2*48))/\(qc xq (a.2*48))<=(if(qc xq ((qc xq (a.2+1))*48))<(b.len:Int)then qc xq ((qc xq (a.2+1))*48)else(b.len:Int))/\(if(qc xq ((qc xq (a.2+1))*48))<(b.len:Int)then qc xq ((qc xq (a.2+1))*48)else(b.len:Int))<=(b.cap:Int))/\
 af xv 144 #[g,a.2,(qc xq (z8 (qc xq ((qc xq ((b.len:Int)+48))-1)) 48)),(.slice (if b.cap=(qc xq (a.2*48)).toNat then b.ptr else b.ptr.map (·.add ((qc xq (a.2*48)).toNat*1))) ((if(qc xq ((qc xq (a.2+1))*48))<(b.len:Int)then qc xq ((qc xq (a.2+1))*48)else(b.len:Int)).toNat-(qc xq (a.2*48)).toNat) (b.cap-(qc xq (a.2*48)).toNat))] aK h3 fun o f=>
 (aq.ok [] f)/\
 aw xv (qt 49 1 #[(0,o)]) aK f fun l i=>
 (aq.ok [] i)/\
 aw xv (qq #[49,49] 49 #[a.1,l]) aK i fun d e=>
 (aq.ok [] e)/\
 n ((⟨d.ptr,d.len,d.cap⟩:Sl),qc xq (a.2+1)) e)
 (R a.1 h3)) ((⟨none,0,0⟩:Sl),(0:Int)) m
theorem LU(a:di)(b:@FH R h a):ab xv 81 #[a] h R:=ao ac func81 (ak.tn (ak.tn (ak.tn (ak.tn (.two (ak.tn (.inn (.loop [(5,ca),(16,aS)] [(5,8),(16,39)] .n))) .n))))) b
def HQ(a:Int)(b:aP):Prop:=
 aW (σ:=Unit) (fun _ f=>
 aO xv (qH 208 (xp #[b,a,(xl none 0 0),(xk xq 0),(xl none 0 0),false,false])) f fun c d=>
 R c d)
 (fun e=>
 Br (a<1) (R (xm none) h) (Br (a>512) (R (xm none) h) (Br (q9 b)
 (R (xm none) h)
 (e () h))))
theorem Ot(a:Int)(b:aP)(c:@HQ R h a b):ab xv 82 #[a,b] h R:=ao ac func82 (ak.tn (.two (.join [] [(4,15)] .n) .n)) c
def Nz(a:cB)(d:Sl):Prop:=
 aG (σ:=Sl×Int) (fun c v i=>
 Br (c.2<(d.len:Int))
 (∃m,(d.ptr=some m/\0<=c.2/\c.2<(d.len:Int))/\
 ∃x3:Int×Sl,al i (m.add (c.2.toNat*2)) 0 x3/\
 aO xv (qP 211 true (.tuple #[])) i fun a4 u=>
 ae xv (qf 211 a4 x3) u fun _ h3=>
 aW (σ:=Unit) (fun _ q=>
 ∃e,cellOf q a4=some (xk xq e)/\
 aw xv (qt 38 1 #[(0,e)]) aK q fun j h8=>
 aw xv (qq #[38,38] 38 #[c.1,j]) aK h8 fun b y=>
 v ((⟨b.ptr,b.len,b.cap⟩:Sl),qc xq (c.2+1)) y)
 (fun w=>
 aW (σ:=Int) (fun p l=>
 Br (p !=0)
 (R p l)
 (w () l))
 (fun x=>
 ∃n,cellOf h3 a4=some (xk xq n)/\
 ∃g:Sl,cellOf h3 (a4.add 1)=some (g:Value)/\
 hJ C a.1 (a.2.1.toList++[(xk xq n)]++a.2.2.toList) mL h3 fun t r=>
 (aq.ok [(a4.add 1,g)] r)/\
 af xv 145 #[t,g] bB r fun s o=>
 (aq.ok [] o)/\
 x s o)))
 (af xv 146 #[(.func (.func a.1) a.2.1 a.2.2),c.1] bB i fun k f=>
 R k f)) ((⟨none,0,0⟩:Sl),(0:Int)) h
theorem Tc(a:cB)(b:Sl)(c:@Nz R h a b):ab xv 83 #[(.func (.func a.1) a.2.1 a.2.2),b] h R:=ao ac func83 (ak.tn (ak.tn (.two (ak.tn (.inn (.loop [(5,ca),(11,aS)] [(4,6),(7,9),(11,31)] (ak.tn (ak.tn (.two (.inn (ak.tn (.two (.join [] [(4,5),(8,9),(15,25)] (.two (.join [(8,aS)] [(8,9),(15,22)] .n) .n)) .n))) .n)))))) .n))) c
def pK(b:aP)(a:Int):Prop:=
 aW (σ:=Unit) (fun _ d=>
 ∃c,(b=some c)/\
 (0<=a/\a<((64:Nat):Int))/\
 ∃x3:aP,cellOf d ((c.add 10).add (a.toNat*1))=some (.pointer x3)/\
 R x3 d)
 (fun e=>
 Br (q9 b) (R (xm none) h) (Br (a<0) (R (xm none) h) (Br (a>=64)
 (R (xm none) h)
 (e () h))))
theorem BH(b:aP)(a:Int)(c:@pK R h b a):ab xv 84 #[b,a] h R:=ao ac func84 (ak.tn (.two (.join [] [(4,15)] .n) .n)) c
def HR(g:di)(a:Sl):Prop:=
 aO xv (qH 136 g) h fun s l=>
 ∃x2:di,al l s 0 x2/\
 af xv 81 #[x2] aK l fun f o=>
 aG (σ:=Sl×Int) (fun c p h3=>
 Br (c.2<(a.len:Int))
 (∃a5,(a.ptr=some a5/\0<=c.2/\c.2<(a.len:Int))/\
 ∃k,cellOf h3 (a5.add (c.2.toNat*1))=some (xk xq k)/\
 aG (σ:=Sl×Int) (fun b r i=>
 Br (b.2<(f.len:Int))
 (∃m,(f.ptr=some m/\0<=b.2/\b.2<(f.len:Int))/\
 ∃j:Sl,cellOf i (m.add (b.2.toNat*1))=some (j:Value)/\
 aw xv (qt 143 1 #[(0,(xp #[k,j]))]) aK i fun e q=>
 aw xv (qq #[143,143] 143 #[b.1,e]) aK q fun d n=>
 r ((⟨d.ptr,d.len,d.cap⟩:Sl),qc xq (b.2+1)) n)
 (p ((⟨b.1.ptr,b.1.len,b.1.cap⟩:Sl),qc xq (c.2+1)) i)) ((⟨c.1.ptr,c.1.len,c.1.cap⟩:Sl),(0:Int)) h3)
 (R c.1 h3)) ((⟨none,0,0⟩:Sl),(0:Int)) o
theorem Ou(b:di)(a:Sl)(c:@HR R h b a):ab xv 85 #[b,a] h R:=ao ac func85 (ak.tn (ak.tn (ak.tn (.two (ak.tn (.inn (.loop [(6,ca),(15,aS)] [(6,7),(8,9),(10,11),(15,33)] (ak.tn (ak.tn (.two (.inn (ak.tn (ak.tn (.inn (.loop [(6,ca),(21,aS)] [(6,7),(10,11),(21,32)] .n))))) .n)))))) .n)))) c
def tf(a:aP)(e:ByteArray)(j:Sl):Prop:=
 af xv 147 #[a,e,j] bB h fun r1 V=>
 Br (r1 !=0)
 (R r1 V)
 (∃a2,(a=some a2)/\
 ∃x3,cellOf V (a2.add 1)=some (xk xq x3)/\
 aO xv (qP 170 true (.tuple #[])) V fun a4 h2=>
 ae xv (qf 170 a4 (xp #[e,x3,(xk xq (j.len:Int)),(xl none 0 0)])) h2 fun _ h3=>
 aW (σ:=Sl×Bool) (fun P h6=>
 Br (!P.2)
 (R (xk xq 8) h6)
 (ae xv (qf 38 (a4.add 3) P.1) h6 fun _ h7=>
 ∃J:jq,al h7 a4 0 J/\
 af xv 150 #[a,J,j] (.many [ca,lL]) h7 fun Q h8=>
 aO xv (qP 143 true (.tuple #[])) h8 fun k h9=>
 ae xv (qf 143 k Q.1) h9 fun _ f=>
 Br (!Q.2)
 (R (xk xq 8) f)
 (aW (σ:=Addr×Sl) (fun g B=>
 ∃u:di,al B g.1 0 u/\
 af xv 81 #[u] aK B fun Z X=>
 aO xv (qP 3 true (.tuple #[])) X fun r S=>
 ae xv (qf 3 r (xk xq (Z.len:Int))) S fun _ Y=>
 af xv 153 #[a,g.2,(.func (.func 152) #[] #[r,k])] bJ Y fun ah s=>
 Br (!ah)
 (R (xk xq 7) s)
 (af xv 154 #[a,g.2,(.func (.func 152) #[] #[r,k])] bB s fun F o=>
 Br (F !=0)
 (R F o)
 (∃G:Sl,cellOf o k=some (G:Value)/\
 af xv 83 #[(.func (.func 84) #[a] #[]),G] bB o fun t n=>
 Br (t !=0)
 (R t n)
 (∃D:di,al n g.1 0 D/\
 af xv 155 #[a,D,g.2] bB n fun ad W=>
 R ad W))))
 (fun K2=>
 ∃c,(a=some c)/\
 ∃b:di,al f c 0 b/\
 ∃d:jq,al f a4 0 d/\
 (af xv 151 #[b,d] VN f fun y q=>
 (aq.ok [] q)/\
 (af xv 102 #[a] aK q fun p H=>
 (aq.ok [] H)/\
 aO xv (qP 136 true (.tuple #[])) H fun z v=>
 (aq.ok [] v)/\
 ae xv (qf 136 z y) v fun _ M=>
 (aq.ok [] M)/\
 K2 (z,(⟨p.ptr,p.len,p.cap⟩:Sl)) M)/\(aO xv (qP 136 true (.tuple #[])) q fun a22 K=>
 (aq.ok [] K)/\
 af xv 102 #[a] aK K fun l L=>
 (aq.ok [] L)/\
 ae xv (qf 136 a22 y) L fun _ w=>
 (aq.ok [] w)/\
 K2 (a22,(⟨l.ptr,l.len,l.cap⟩:Sl)) w))/\(aO xv (qP 136 true (.tuple #[])) f fun A O=>
 (aq.ok [(a4,d.1),(a4.add 1,d.2.1),(a4.add 2,d.2.2.1),(a4.add 3,d.2.2.2),(c,b.1),(c.add 1,b.2.1),(c.add 2,b.2.2.1),(c.add 3,b.2.2.2.1),(c.add 4,b.2.2.2.2.1),(c.add 5,b.2.2.2.2.2.1),(c.add 6,b.2.2.2.2.2.2.1),(c.add 7,b.2.2.2.2.2.2.2)] O)/\
 af xv 151 #[b,d] VN O fun U I=>
 (aq.ok [] I)/\
 af xv 102 #[a] aK I fun m N=>
 (aq.ok [] N)/\
 ae xv (qf 136 A U) N fun _ x=>
 (aq.ok [] x)/\
 K2 (A,(⟨m.ptr,m.len,m.cap⟩:Sl)) x)))))
 (fun K1=>
 ∃a5,(a=some a5)/\
 ∃E:bm,al h3 (a5.add 2) 0 E/\
 ∃x7,cellOf h3 (a4.add 1)=some (xk xq x7)/\
 ∃a8,(a=some a8)/\
 ∃x9:bm,al h3 (a8.add 2) 0 x9/\
 af xv 149 #[x9,(xk xq (j.len:Int))] bB h3 fun T h4=>
 (aq.ok [(a4.add 1,x7),(a5.add 2,E.1),((a5.add 2).add 1,E.2.1),((a5.add 2).add 2,E.2.2)] h4)/\
 af xv 148 #[E,x7,T] (.many [ca,lL]) h4 fun i h5=>
 (aq.ok [] h5)/\
 K1 ((⟨i.1.ptr,i.1.len,i.1.cap⟩:Sl),i.2) h5))
theorem Eu(b:aP)(a:ByteArray)(c:Sl)(d:@tf R h b a c):ab xv 86 #[b,a,c] h R:=ao ac func86 (ak.tn (ak.tn (ak.tn (.two (.join [(9,ca),(10,lL)] [(9,11),(34,53)] .n) (ak.tn (ak.tn (ak.tn (ak.tn (.two (.join [(12,(.sc .adr)),(13,ca)] [(12,14),(66,74)] .n) .n))))))))) d
def th(d:aP)(i:ByteArray):Prop:=
 af xv 156 #[d] bJ h fun Q L=>
 Br Q
 (R (.tuple #[(xl none 0 0),(xk xq 14)]) L)
 (af xv 157 #[d,i] bB L fun z M=>
 Br (z<0)
 (R (.tuple #[(xl none 0 0),(xk xq 5)]) M)
 (af xv 158 #[d] bJ M fun S h3=>
 Br (!S)
 (R (.tuple #[(xl none 0 0),(xk xq 11)]) h3)
 (∃a4,(d=some a4)/\
 ∃G:Sl,cellOf h3 (a4.add 7)=some (G:Value)/\
 ∃K,(G.ptr=some K/\0<=z/\z<(G.len:Int))/\
 ∃O:jq,al h3 (K.add (z.toNat*4)) 0 O/\
 aO xv (qP 170 true (.tuple #[])) h3 fun n W=>
 ae xv (qf 170 n O) W fun _ N=>
 ∃A:Sl,cellOf N (n.add 3)=some (A:Value)/\
 aG (σ:=Sl×Int) (fun c T l=>
 Br (c.2<(A.len:Int))
 (∃r,(A.ptr=some r/\0<=c.2/\c.2<(A.len:Int))/\
 ∃u,cellOf l (r.add (c.2.toNat*1))=some (xk xq u)/\
 aW (σ:=Sl) (fun D I=>
 aW (σ:=Sl×Int) (fun s t=>
 Br (s.2 !=0)
 (R (.tuple #[(xl none 0 0),(xk xq 11)]) t)
 (aw xv (qt 49 1 #[(0,s.1)]) aK t fun v25 F=>
 aw xv (qq #[49,49] 49 #[c.1,v25]) aK F fun j H=>
 T ((⟨j.ptr,j.len,j.cap⟩:Sl),qc xq (c.2+1)) H))
 (fun V=>
 ∃f,(d=some f)/\
 ∃e:bm,al I (f.add 2) 0 e/\
 ∃q,cellOf I (n.add 1)=some (xk xq q)/\
 af xv 160 #[q,c.2,u] (.one (.sc (.int .u32))) I fun J o=>
 (aq.ok [(f.add 2,e.1),((f.add 2).add 1,e.2.1),((f.add 2).add 2,e.2.2)] o)/\
 af xv 28 #[e,(xk xt J),D] (.many [ca,aS]) o fun g x=>
 (aq.ok [] x)/\
 V ((⟨g.1.ptr,g.1.len,g.1.cap⟩:Sl),g.2) x))
 (fun U=>
 ∃a,(d=some a)/\
 ∃b:di,al l a 0 b/\
 ∃m,cellOf l (n.add 1)=some (xk xq m)/\
 af xv 102 #[d] aK l fun B P=>
 (aq.ok [(n.add 1,m),(a,b.1),(a.add 1,b.2.1),(a.add 2,b.2.2.1),(a.add 3,b.2.2.2.1),(a.add 4,b.2.2.2.2.1),(a.add 5,b.2.2.2.2.2.1),(a.add 6,b.2.2.2.2.2.2.1),(a.add 7,b.2.2.2.2.2.2.2)] P)/\
 af xv 159 #[(.func (.func 84) #[d] #[]),B,b,m,c.2] aK P fun k h8=>
 (aq.ok [] h8)/\
 U (⟨k.ptr,k.len,k.cap⟩:Sl) h8))
 (∃p,(d=some p)/\
 ∃y:bm,al l (p.add 2) 0 y/\
 ∃v,cellOf l (n.add 2)=some (xk xq v)/\
 af xv 161 #[y,c.1,v] (.many [ca,lL]) l fun E w=>
 (aq.ok [] w)/\
 R (.tuple #[E.1,(xk xq 0)]) w)) ((⟨none,0,0⟩:Sl),(0:Int)) N)))
theorem Ev(b:aP)(a:ByteArray)(c:@th R h b a):ab xv 87 #[b,a] h R:=ao ac func87 (ak.tn (ak.tn (ak.tn (ak.tn (ak.tn (ak.tn (ak.tn (.two (ak.tn (.inn (.loop [(8,ca),(37,aS)] [(4,6),(8,14),(37,76)] (ak.tn (ak.tn (.two (.inn (ak.tn (.two (.join [(11,ca)] [(11,12),(42,54)] .n) (.two (.join [(12,ca),(13,aS)] [(12,14),(54,69)] .n) .n)))) .n)))))) .n)))))))) c
def sa(a:aP):Prop:=
 Br (!(q9 a)) (∃g,(a=some g)/\
 ∃x2:aP,cellOf h (g.add 8)=some (.pointer x2)/\
 af xv 114 #[x2] bJ h fun i b=>
 (aq.ok [] b)/\
 Br (!i) ((aq.ok [] b)/\
 R true b) (∃a4,(a=some a4)/\
 ∃f:aP,cellOf b (a4.add 8)=some (.pointer f)/\
 ∃c,(a=some c)/\
 ∃d,cellOf b (c.add 9)=some (xk xq d)/\
 af xv 80 #[f] bB b fun j e=>
 (aq.ok [(c.add 9,d)] e)/\
 R (xo (j !=d)) e)) ((aq.ok [] h)/\
 (aq.ok [] h)/\
 R false h)
theorem Db(a:aP)(b:@sa R h a):ab xv 90 #[a] h R:=ao ac func90 .n b
def kD(a:Sl)(b:cB):Prop:=
 af xv 172 #[a,(.func (.func b.1) b.2.1 b.2.2)] bB h fun e j=>
 Br (e==(-1:Int))
 (R a j)
 (aG (σ:=Int×Int) (fun c g d=>
 Br (c.2<(a.len:Int))
 (∃a3,(a.ptr=some a3/\0<=c.2/\c.2<(a.len:Int))/\
 ∃f,cellOf d (a3.add (c.2.toNat*1))=some (xk xq f)/\
 hJ C b.1 (b.2.1.toList++[(xk xq f)]++b.2.2.toList) bJ d fun l h3=>
 Br (!l)
 (∃i,(a.ptr=some i/\0<=c.1/\c.1<(a.len:Int))/\
 ae xv (qf 3 (i.add (c.1.toNat*1)) f) h3 fun _ k=>
 g (qc xq (c.1+1),qc xq (c.2+1)) k)
 (g (c.1,qc xq (c.2+1)) h3))
 ((0<=c.1/\c.1<=(a.len:Int))/\
 ae xv (Builtin.clear_ #[38] 0 #[(.slice (if a.cap=c.1.toNat then a.ptr else a.ptr.map (·.add (c.1.toNat*1))) (a.len-c.1.toNat) (a.cap-c.1.toNat))]) d fun _ m=>
 (0<=c.1/\c.1<=(a.cap:Int))/\
 R (xl a.ptr c.1.toNat a.cap) m)) (e,qc xq (e+1)) j)
theorem pG(b:Sl)(a:cB)(c:@kD R h b a):ab xv 101 #[b,(.func (.func a.1) a.2.1 a.2.2)] h R:=ao ac func101 (ak.tn (ak.tn (ak.tn (.two (ak.tn (.inn (.loop [(5,aS),(6,aS)] [(5,8),(16,36)] .n))) .n)))) c
def se(a:aP):Prop:=
 Br (q9 a)
 (R (xl none 0 0) h)
 (∃b,(a=some b)/\
 ∃x2:Sl,cellOf h (b.add 6)=some (x2:Value)/\
 af xv 170 #[(.func (.func 84) #[a] #[]),x2] aK h fun c d=>
 R c d)
theorem Dc(a:aP)(b:@se R h a):ab xv 102 #[a] h R:=ao ac func102 .n b
def AR(a:aP)(d:di)(b:Int):Prop:=
 aO xv (qH 136 d) h fun m j=>
 aW (σ:=Unit) (fun _ l=>
 ∃i:di,al l m 0 i/\
 af xv 183 #[a,i] aK l fun e h8=>
 af xv 182 #[a,e] bB h8 fun c w=>
 R c w)
 (fun t=>
 aW (σ:=Bool) (fun p h3=>
 Br p
 (R (xk xq 5) h3)
 (∃f:di,al h3 m 0 f/\
 af xv 179 #[a,f,b] bJ h3 fun v n=>
 Br (!v)
 (R (xk xq 7) n)
 (af xv 181 #[a] bB n fun o u=>
 af xv 180 #[a,o,b] bJ u fun r g=>
 Br r
 (R (xk xq 0) g)
 (t () g))))
 (fun k=>
 Br (q9 a) (k true j) (af xv 176 #[a] bJ j fun q s=>
 k q s)))
theorem DW(a:aP)(c:di)(b:Int)(d:@AR R h a c b):ab xv 106 #[a,c,b] h R:=ao ac func106 (ak.tn (.two (.join [] [(6,26)] (.inn (.two (.join [(7,lL)] [(7,14)] .n) .n))) .n)) d
def HS(a:Sl):Prop:=
 Br ((a.len:Int) !=64)
 (R (.tuple #[(xk xq 0),(xl none 0 0),false]) h)
 (∃b,(a.ptr=some b/\0<=(3:Int)/\(3:Int)<(a.len:Int))/\
 ∃x2:Int,cellOf h (b.add ((3:Int).toNat*1))=some (xk xr x2)/\
 (0<=(4:Int)/\(4:Int)<=(59:Int)/\(59:Int)<=(a.cap:Int))/\
 af xv 29 #[(.slice (if a.cap=(4:Int).toNat then a.ptr else a.ptr.map (·.add ((4:Int).toNat*1))) ((59:Int).toNat-(4:Int).toNat) (a.cap-(4:Int).toNat))] aK h fun c d=>
 (aq.ok [(b.add ((3:Int).toNat*1),(xk xr x2))] d)/\
 af xv 190 #[(qc xq x2),c] aK d fun g f=>
 af xv 187 #[a,g] bJ f fun e h3=>
 Br (!e)
 (R (.tuple #[(xk xq 0),(xl none 0 0),false]) h3)
 (R (.tuple #[(qc xq x2),c,true]) h3))
theorem Ov(a:Sl)(b:@HS R h a):ab xv 111 #[a] h R:=ao ac func111 .n b
def uU(a:aP):Prop:=
 Br (!(q9 a)) (∃b,(a=some b)/\
 ∃x2:Bool,cellOf h b=some (xo x2)/\
 R (xo (!x2)) h) (R false h)
theorem FI(a:aP)(b:@uU R h a):ab xv 114 #[a] h R:=ao ac func114 .n b
def FJ(d:aP)(a:Sl):Prop:=
 af xv 35 #[a] bJ h fun k e=>
 Br (!k)
 (R (xl none 0 0) e)
 (af xv 37 #[a] aK e fun b g=>
 af xv 39 #[d] mL g fun i h3=>
 af xv 36 #[b] bB h3 fun l f=>
 af xv 38 #[i,b,l] bB f fun c j=>
 (0<=c/\c<=(b.cap:Int))/\
 R (xl b.ptr c.toNat b.cap) j)
theorem LV(a:aP)(b:Sl)(c:@FJ R h a b):ab xv 120 #[a,b] h R:=ao ac func120 .n c
def gi(b:Sl)(a:cB):Prop:=
 aG (σ:=Int) (fun c g d=>
 Br (c<(b.len:Int))
 (∃e,(b.ptr=some e/\0<=c/\c<(b.len:Int))/\
 ∃x3:Int×Sl,al d (e.add (c.toNat*2)) 0 x3/\
 hJ C a.1 (a.2.1.toList++[(xp #[x3.1,x3.2])]++a.2.2.toList) bJ d fun i f=>
 Br i
 (R c f)
 (g (qc xq (c+1)) f))
 (R (xk xq (-1:Int)) d)) (0:Int) h
theorem kp(b:Sl)(a:cB)(c:@gi R h b a):ab xv 121 #[b,(.func (.func a.1) a.2.1 a.2.2)] h R:=ao ac func121 (ak.tn (.two (ak.tn (.inn (.loop [(8,aS)] [(4,6),(8,19)] .n))) .n)) c
def HT(b:Int)(c:Sl):Prop:=
 af xv 194 #[b,c] bJ h fun M x=>
 Br (!M)
 (R (.tuple #[(xl none 0 0),(xl none 0 0),(xl none 0 0),(xk xq 1)]) x)
 (aW (σ:=aP) (fun u h8=>
 af xv 195 #[u] ic h8 fun _ O=>
 aG (σ:=Sl×Int) (fun a J d=>
 Br (a.2<(c.len:Int))
 (∃o,(c.ptr=some o/\0<=a.2/\a.2<(c.len:Int))/\
 ∃p:Sl×Sl,al d (o.add (a.2.toNat*2)) 0 p/\
 aO xv (qP 183 true (.tuple #[])) d fun m A=>
 ae xv (qf 183 m p) A fun _ q=>
 ∃r:Sl×Sl,al q m 0 r/\
 af xv 196 #[u,r] (.one (.agg [.slc,.slc])) q fun y v=>
 aO xv (qP 183 true (.tuple #[])) v fun f z=>
 ae xv (qf 183 f y) z fun _ e=>
 ∃n:Sl,cellOf e f=some (n:Value)/\
 Br ((n.len:Int)>0)
 (∃j:Sl×Sl,al e f 0 j/\
 aw xv (qt 181 1 #[(0,j)]) aK e fun B D=>
 aw xv (qq #[181,181] 181 #[a.1,B]) aK D fun g w=>
 J ((⟨g.ptr,g.len,g.cap⟩:Sl),qc xq (a.2+1)) w)
 (∃l:Sl,cellOf e (f.add 1)=some (l:Value)/\
 af xv 197 #[l] bJ e fun E s=>
 Br (!E)
 (R (.tuple #[(xl none 0 0),(xl none 0 0),(xl none 0 0),(xk xq 10)]) s)
 (J ((⟨a.1.ptr,a.1.len,a.1.cap⟩:Sl),qc xq (a.2+1)) s)))
 (∃k,(u=some k)/\
 ∃t:Sl,cellOf d (k.add 1)=some (t:Value)/\
 ∃a25,(u=some a25)/\
 ∃i:Sl,cellOf d (a25.add 2)=some (i:Value)/\
 R (.tuple #[t,i,a.1,(xk xq 0)]) d)) ((⟨none,0,0⟩:Sl),(0:Int)) O)
 (fun H=>
 (aw xv (qB 190 b b) aK x fun P G=>
 (aq.ok [] G)/\
 aw xv (qB 49 b b) aK G fun v3 h3=>
 (aq.ok [] h3)/\
 aO xv (qH 262 (xp #[c,P,v3])) h3 fun a4 L=>
 (aq.ok [] L)/\
 H (some a4) L)/\(aw xv (qB 49 b b) aK x fun v5 I=>
 (aq.ok [] I)/\
 aw xv (qB 190 b b) aK I fun Q F=>
 (aq.ok [] F)/\
 aO xv (qH 262 (xp #[c,Q,v5])) F fun N K=>
 (aq.ok [] K)/\
 H (some N) K)))
theorem Ow(a:Int)(b:Sl)(c:@HT R h a b):ab xv 122 #[a,b] h R:=ao ac func122 (ak.tn (ak.tn (.two (.join [(8,Nr)] [(8,9),(16,23)] .n) (ak.tn (.two (ak.tn (.inn (.loop [(6,ca),(27,aS)] [(4,8),(10,12),(27,47)] .n))) .n))))) c
def ou(B:aP)(a:Sl):Prop:=
 aO xv (qH 184 B) h fun t z=>
 ∃x2:aP,cellOf z t=some (.pointer x2)/\
 ∃a3,(x2=some a3)/\
 ∃r:Sl,cellOf z (a3.add 5)=some (r:Value)/\
 aG (σ:=Sl×Int) (fun d S D=>
 Br (d.2<(r.len:Int))
 (∃K,(r.ptr=some K/\0<=d.2/\d.2<(r.len:Int))/\
 ∃M:Sl×Sl,al D (K.add (d.2.toNat*2)) 0 M/\
 aO xv (qP 183 true (.tuple #[])) D fun O h3=>
 ae xv (qf 183 O M) h3 fun _ P=>
 ∃L:Sl,cellOf P O=some (L:Value)/\
 aw xv (qt 252 1 #[(0,L)]) aK P fun u T=>
 aw xv (qq #[252,252] 252 #[d.1,u]) aK T fun f Q=>
 S ((⟨f.ptr,f.len,f.cap⟩:Sl),qc xq (d.2+1)) Q)
 (aG (σ:=Sl×Int) (fun b N s=>
 Br (b.2<(a.len:Int))
 (∃m,(a.ptr=some m/\0<=b.2/\b.2<(a.len:Int))/\
 ∃p:Bool,cellOf s (m.add (b.2.toNat*1))=some (xo p)/\
 Br p
 (aw xv (qt 38 1 #[(0,b.2)]) aK s fun x h8=>
 aw xv (qt 252 1 #[(0,x)]) aK h8 fun y U=>
 aw xv (qq #[252,252] 252 #[b.1,y]) aK U fun e v=>
 N ((⟨e.ptr,e.len,e.cap⟩:Sl),qc xq (b.2+1)) v)
 (N ((⟨b.1.ptr,b.1.len,b.1.cap⟩:Sl),qc xq (b.2+1)) s))
 (af xv 198 #[(xk xq (a.len:Int)),b.1] (.many [(.agg [.slc,.slc,.slc]),lL]) s fun A G=>
 aO xv (qP 187 true (.tuple #[])) G fun c E=>
 ae xv (qf 187 c A.1) E fun _ l=>
 ∃j:Sl,cellOf l c=some (j:Value)/\
 af xv 199 #[j,(.func (.func 200) #[] #[t])] aK l fun F H=>
 ae xv (qf 185 c F) H fun _ o=>
 ∃n:Sl,cellOf o (c.add 2)=some (n:Value)/\
 af xv 101 #[n,(.func (.func 201) #[] #[t])] aK o fun w J=>
 ae xv (qf 38 (c.add 2) w) J fun _ g=>
 ∃q:aP,cellOf g t=some (.pointer q)/\
 ∃i:Sl×Sl×Sl,al g c 0 i/\
 ∃k,(q=some k)/\
 ae xv (qf 187 (k.add 6) i) g fun _ I=>
 R (.tuple #[]) I)) ((⟨d.1.ptr,d.1.len,d.1.cap⟩:Sl),(0:Int)) D)) ((⟨none,0,0⟩:Sl),(0:Int)) z
theorem xQ(b:aP)(a:Sl)(c:@ou R h b a):ab xv 123 #[b,a] h R:=ao ac func123 (ak.tn (ak.tn (.two (ak.tn (.inn (.loop [(4,ca),(16,aS)] [(4,5),(6,7),(16,26)] .n))) (.two (ak.tn (.inn (.loop [(4,ca),(28,aS)] [(4,5),(7,9),(28,40)] .n))) .n)))) c
end
end Go.Qw
