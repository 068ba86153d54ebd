/- Part of the proofs that the laws of this seat answer true whatever the input reads, and leave it as it was; no condition. -/
import Derived.Test.YtdhamoojccmbdaaGreatDoorTabA
set_option linter.unusedVariables false
set_option linter.unusedSimpArgs false
open Go.Proofs.Tryz renaming prog -> vV
open Go.Value renaming agg -> vQ, bool -> vP, int -> vL, slice -> vM
open Go.IntKind renaming bits -> qk, i64 -> vR, u32 -> vT, u64 -> vU, u8 -> vS, wrap -> qc
open BitVec renaming ofInt -> qA
open Int renaming fdiv -> qS, tmod -> zW
open Go.Instr renaming alloc -> qJ, box -> qL, buildSlice -> qt, makeSlice -> qB, storeAt -> qf
open Go.Builtin renaming append_ -> qq, clear_ -> yp
open Option renaming isNone -> zg
set_option maxRecDepth 1000000
namespace Go.Proofs.YtdhamoojccmbdaaGreatDoor
noncomputable section
open Go Go.Vc Go.Proofs
variable {R:Value->Heap->Prop} {h:Heap}
abbrev XK:FuncId:=190
def OZ(b:Sl):Prop:=
 aL (σ:=Int×Int) (fun a i d=>
 Br (a.2<(b.len:Int))
 (∃g,(b.ptr=some g/\0<=a.2/\a.2<(b.len:Int))/\
 ∃x3,cellOf d (g.add (a.2.toNat*1))=some (vL vS x3)/\
 aL (σ:=Int×Int) (fun c f e=>
 Br (c.2<8)
 ((0<=(1:Int))/\
 Br ((qc vT ((qA (qk vT) c.1&&&(qA (qk vT) (1:Int))).toNat:Nat))==1)
 (f (qc vT ((qA (qk vT) (qS c.1 (2^min (1:Int).toNat (qk vT)))^^^(qA (qk vT) (3988292384:Int))).toNat:Nat),qc vR (c.2+1)) e)
 (f (qS c.1 (2^min (1:Int).toNat (qk vT)),qc vR (c.2+1)) e))
 (i (c.1,qc vR (a.2+1)) e)) (qc vT ((qA (qk vT) a.1^^^(qA (qk vT) (qc vT x3))).toNat:Nat),(0:Int)) d)
 (R (vL vT (qc vT ((qA (qk vT) (4294967295:Int)^^^(qA (qk vT) a.1)).toNat:Nat))) d)) ((4294967295:Int),(0:Int)) h
theorem UV(a:Sl)(b: @OZ R h a):ac vV 190 #[a] h R:=ar ae Tryz.func190 (al.tn (al.tn (.two (al.tn (.inn (.loop [(3,(.sc (.int .u32))),(9,aY)] [(3,4),(5,7),(9,29)] (al.tn (al.tn (.two (.inn (al.tn (al.tn (al.tn (.inn (.loop [(3,(.sc (.int .u32))),(17,aY)] [(3,4),(6,7),(17,28)] .n)))))) .n)))))) .n))) b
abbrev XL:FuncId:=192
def Pa(a:Sl):Prop:=
 aL (σ:=Int) (fun c f b=>
 Br (c<(a.len:Int))
 (∃e,(a.ptr=some e/\0<=c/\c<(a.len:Int))/\
 ∃x3:Sl,cellOf b (e.add (c.toNat*1))=some (x3:Value)/\
 ∃a4,(a.ptr=some a4/\0<=(0:Int)/\(0:Int)<(a.len:Int))/\
 ∃d:Sl,cellOf b (a4.add ((0:Int).toNat*1))=some (d:Value)/\
 Br ((x3.len:Int) !=(d.len:Int)) (R false b) (Br ((x3.len:Int)>64)
 (R false b)
 (f (qc vR (c+1)) b)))
 (R true b)) (0:Int) h
theorem UW(a:Sl)(b: @Pa R h a):ac vV 192 #[a] h R:=ar ae Tryz.func192 (al.tn (.two (al.tn (.inn (.loop [(7,aY)] [(2,3),(4,5),(7,24)] .n))) .n)) b
abbrev SJ:FuncId:=193
def IZ(a:Sl):Prop:=
 Br ((a.len:Int)==0)
 (R (vL vR (0:Int)) h)
 (∃b,(a.ptr=some b/\0<=(0:Int)/\(0:Int)<(a.len:Int))/\
 ∃x2:Sl,cellOf h (b.add ((0:Int).toNat*1))=some (x2:Value)/\
 R (vL vR (x2.len:Int)) h)
theorem Qq(a:Sl)(b: @IZ R h a):ac vV 193 #[a] h R:=ar ae Tryz.func193 .n b
abbrev XM:FuncId:=194
def Pb(a:Sl):Prop:=
 aw vV (qB 59 (vL vR (0:Int)) (vL vR (a.len:Int))) aJ h fun c i=>
 aL (σ:=Sl×Int) (fun b m d=>
 Br (b.2<(a.len:Int))
 (∃a3,(a.ptr=some a3/\0<=b.2/\b.2<(a.len:Int))/\
 ∃f:Sl,cellOf d (a3.add (b.2.toNat*1))=some (f:Value)/\
 af vV 91 #[f] aJ d fun j h3=>
 aw vV (qt 59 1 #[(0,j)]) aJ h3 fun g k=>
 aw vV (qq #[59,59] 59 #[b.1,g]) aJ k fun e l=>
 m ((⟨e.ptr,e.len,e.cap⟩:Sl),qc vR (b.2+1)) l)
 (R b.1 d)) ((⟨c.ptr,c.len,c.cap⟩:Sl),(0:Int)) i
theorem UX(a:Sl)(b: @Pb R h a):ac vV 194 #[a] h R:=ar ae Tryz.func194 (al.tn (al.tn (.two (al.tn (.inn (.loop [(3,ct),(11,aY)] [(3,4),(5,6),(11,21)] .n))) .n))) b
abbrev Qr:FuncId:=195
def GO(n:Option Addr)(a:Sl)(g:Int):Prop:=
 aL (σ:=Int×Int) (fun b D L=>
 Br (b.2<g)
 (af vV 263 #[a,b.1,b.2] bs L fun l x=>
 Br (l<0)
 (D (b.1,qc vR (b.2+1)) x)
 (bf (σ:=Unit) (fun _ y=>
 bf (σ:=Unit) (fun _ N=>
 aL (σ:=Int) (fun c F d=>
 Br (c<(a.len:Int))
 (Br (c !=b.1)
 (∃m,(a.ptr=some m/\0<=c/\c<(a.len:Int))/\
 ∃i:Sl,cellOf d (m.add (c.toNat*1))=some (i:Value)/\
 ∃u,(i.ptr=some u/\0<=b.2/\b.2<(i.len:Int))/\
 ∃w,cellOf d (u.add (b.2.toNat*1))=some (vL vS w)/\
 ∃a25,(a.ptr=some a25/\0<=b.1/\b.1<(a.len:Int))/\
 ∃r:Sl,cellOf d (a25.add (b.1.toNat*1))=some (r:Value)/\
 ∃s,(a.ptr=some s/\0<=c/\c<(a.len:Int))/\
 ∃p:Sl,cellOf d (s.add (c.toNat*1))=some (p:Value)/\
 af vV 266 #[n,(vL vS w),r,p] iu d fun _ o=>
 (aq.ok [(m.add (c.toNat*1),i)] o)/\
 F (qc vR (c+1)) o)
 (F (qc vR (c+1)) d))
 (D (qc vR (b.1+1),qc vR (b.2+1)) d)) (0:Int) N)
 (fun O=>
 ∃f,(a.ptr=some f/\0<=b.1/\b.1<(a.len:Int))/\
 ∃e:Sl,cellOf y (f.add (b.1.toNat*1))=some (e:Value)/\
 ∃q,(e.ptr=some q/\0<=b.2/\b.2<(e.len:Int))/\
 ∃t,cellOf y (q.add (b.2.toNat*1))=some (vL vS t)/\
 ∃k,(a.ptr=some k/\0<=b.1/\b.1<(a.len:Int))/\
 ∃j:Sl,cellOf y (k.add (b.1.toNat*1))=some (j:Value)/\
 af vV 265 #[n,(vL vS t)] (.one (.sc (.int .u8))) y fun A H=>
 (aq.ok [(k.add (b.1.toNat*1),j),(f.add (b.1.toNat*1),e)] H)/\
 af vV 264 #[n,(vL vS A),j] aJ H fun z E=>
 (aq.ok [(f.add (b.1.toNat*1),e)] E)/\
 ∃v,(a.ptr=some v/\0<=b.1/\b.1<(a.len:Int))/\
 ag vV (qf 38 (v.add (b.1.toNat*1)) z) E fun _ h8=>
 (aq.ok [] h8)/\
 O () h8))
 (fun M=>
 ∃a3,(a.ptr=some a3/\0<=l/\l<(a.len:Int))/\
 ∃K:Sl,cellOf x (a3.add (l.toNat*1))=some (K:Value)/\
 ∃a5,(a.ptr=some a5/\0<=b.1/\b.1<(a.len:Int))/\
 ∃B:Sl,cellOf x (a5.add (b.1.toNat*1))=some (B:Value)/\
 ∃I,(a.ptr=some I/\0<=b.1/\b.1<(a.len:Int))/\
 ag vV (qf 38 (I.add (b.1.toNat*1)) K) x fun _ h3=>
 (aq.ok [] h3)/\
 ∃J,(a.ptr=some J/\0<=l/\l<(a.len:Int))/\
 ag vV (qf 38 (J.add (l.toNat*1)) B) h3 fun _ G=>
 (aq.ok [] G)/\
 M () G)))
 (R b.1 L)) ((0:Int),(0:Int)) h
theorem NS(c:Option Addr)(b:Sl)(a:Int)(d: @GO R h c b a):ac vV 195 #[c,b,a] h R:=ar ae Tryz.func195 (al.tn (al.tn (.two (al.tn (.inn (.loop [(7,aY),(12,aY)] [(7,11),(12,82)] (al.tn (al.tn (.two (.inn (al.tn (al.tn (al.tn (.two (.join [] [(21,35)] .n) (.two (.join [] [(35,53)] .n) (.two (al.tn (.inn (.loop [(55,aY)] [(10,11),(55,79)] .n))) .n))))))) .n)))))) .n))) d
abbrev UY:FuncId:=196
def LH(a:Option Addr):Prop:=
 Br (zg a)
 (af vV 148 #[] na h fun c b=>
 R c b)
 (R a h)
theorem SK(a:Option Addr)(b: @LH R h a):ac vV 196 #[a] h R:=ar ae Tryz.func196 .n b
abbrev UZ:FuncId:=197
def LI(a:Sl):Prop:=
 af vV 267 #[a,(.func (.func 268) #[] #[])] bs h fun c b=>
 R c b
theorem SL(a:Sl)(b: @LI R h a):ac vV 197 #[a] h R:=ar ae Tryz.func197 .n b
abbrev SM:FuncId:=198
def Ja:Prop:=
 aO vV (qJ 270 true (.tuple #[])) h fun c g=>
 aL (σ:=Int×Int) (fun b k d=>
 Br (b.2<255)
 ((0<=b.2/\b.2<((255:Nat):Int))/\
 ag vV (qf 5 (c.add (b.2.toNat*1)) (vL vS b.1)) d fun _ h3=>
 af vV 269 #[(vL vS b.1),(vL vS (3:Int))] (.one (.sc (.int .u8))) h3 fun i j=>
 k (i,qc vR (b.2+1)) j)
 (∃e:List (Int),(e.length=255/\aj d c 0 (e.map (Sc.enc (.int .u8))))/\
 ag vV (qf 270 c (vQ (e.map (Sc.enc (.int .u8))).toArray)) d fun _ f=>
 ∃a:List (Int),(a.length=255/\aj f c 0 (a.map (Sc.enc (.int .u8))))/\
 R (vQ (a.map (Sc.enc (.int .u8))).toArray) f)) ((1:Int),(0:Int)) g
theorem Qs(a: @Ja R h):ac vV 198 #[] h R:=ar ae Tryz.func198 (al.tn (al.tn (.two (al.tn (.inn (.loop [(1,(.sc (.int .u8))),(3,aY)] [(1,12)] .n))) .n))) a
abbrev XN:FuncId:=199
def Pc(f:List (Int)):Prop:=
 aO vV (qL 270 (vQ (f.map (Sc.enc (.int .u8))).toArray)) h fun k j=>
 aO vV (qJ 272 true (.tuple #[])) j fun d g=>
 ∃x3:List (Int),(x3.length=255/\aj g k 0 (x3.map (Sc.enc (.int .u8))))/\
 aL (σ:=Int) (fun b m h3=>
 Br (b<255)
 (∃c:Int,(0<=b/\b<((255:Nat):Int)/\((x3.map (Sc.enc (.int .u8))).toArray:Array Value)[b.toNat]?=some (vL vS c))/\
 (0<=c/\c<((256:Nat):Int))/\
 ag vV (qf 3 (d.add (c.toNat*1)) b) h3 fun _ l=>
 m (qc vR (b+1)) l)
 (∃e:List (Int),(e.length=256/\aj h3 d 0 (e.map (Sc.enc (.int .i64))))/\
 ag vV (qf 272 d (vQ (e.map (Sc.enc (.int .i64))).toArray)) h3 fun _ i=>
 ∃a:List (Int),(a.length=256/\aj i d 0 (a.map (Sc.enc (.int .i64))))/\
 R (vQ (a.map (Sc.enc (.int .i64))).toArray) i)) (0:Int) g
theorem Va(a:List (Int))(b: @Pc R h a):ac vV 199 #[(vQ (a.map (Sc.enc (.int .u8))).toArray)] h R:=ar ae Tryz.func199 (al.tn (.two (al.tn (.inn (.loop [(6,aY)] [(3,5),(6,14)] .n))) .n)) b
abbrev Vb:FuncId:=200
def LJ(p:bF):Prop:=
 aO vV (qL 24 p) h fun d w=>
 ∃x2:bF,aj w d 0 x2/\
 af vV 39 #[x2] bO w fun z s=>
 Br (!z)
 (R (vM none 0 0) s)
 (af vV 148 #[] na s fun B h3=>
 ∃v,cellOf h3 (d.add 1)=some (vL vR v)/\
 aL (σ:=Sl×Int) (fun f y j=>
 Br (f.2<v)
 (bf (σ:=Sl) (fun c r=>
 ∃i,cellOf r d=some (vL vR i)/\
 aL (σ:=Int) (fun a F h8=>
 Br (a<i)
 (af vV 271 #[B,(qc vR ((qc vR (f.2+1))*(qc vR (a+1))))] (.one (.sc (.int .u8))) h8 fun n D=>
 ∃g,(c.ptr=some g/\0<=a/\a<(c.len:Int))/\
 ag vV (qf 5 (g.add (a.toNat*1)) (vL vS n)) D fun _ q=>
 F (qc vR (a+1)) q)
 (aw vV (qt 59 1 #[(0,c)]) aJ h8 fun o m=>
 aw vV (qq #[59,59] 59 #[f.1,o]) aJ m fun b l=>
 y ((⟨b.ptr,b.len,b.cap⟩:Sl),qc vR (f.2+1)) l)) (0:Int) r)
 (fun A=>
 ∃x:bF,aj j d 0 x/\
 ∃k,cellOf j d=some (vL vR k)/\
 af vV 170 #[x] bs j fun E u=>
 (aq.ok [(d,k)] u)/\
 af vV 270 #[E,(qc vR (k+f.2))] aJ u fun e t=>
 (aq.ok [(d,k)] t)/\
 A (⟨e.ptr,e.len,e.cap⟩:Sl) t))
 (R f.1 j)) ((⟨none,0,0⟩:Sl),(0:Int)) h3)
theorem SN(a:bF)(b: @LJ R h a):ac vV 200 #[a] h R:=ar ae Tryz.func200 (al.tn (al.tn (al.tn (al.tn (.two (al.tn (.inn (.loop [(4,ct),(14,aY)] [(4,8),(14,45)] (al.tn (al.tn (.two (.inn (al.tn (.two (.join [(6,ct)] [(6,7),(17,24)] .n) (.two (al.tn (.inn (.loop [(26,aY)] [(7,8),(26,40)] .n))) .n)))) .n)))))) .n))))) b
abbrev aaa:FuncId:=201
def SO(l:bF)(d:Int)(a:Int):Prop:=
 aO vV (qL 24 l) h fun k q=>
 bf (σ:=Unit) (fun _ h3=>
 ∃p:bF,aj h3 k 0 p/\
 af vV 170 #[p] bs h3 fun r u=>
 aw vV (qB 38 r r) aJ u fun i o=>
 ∃n:bF,aj o k 0 n/\
 af vV 131 #[n,(vL vT d),a] aJ o fun m w=>
 aL (σ:=Int) (fun b v j=>
 Br (b<(m.len:Int))
 (∃f,(m.ptr=some f/\0<=b/\b<(m.len:Int))/\
 ∃c,cellOf j (f.add (b.toNat*1))=some (vL vR c)/\
 ∃e,(i.ptr=some e/\0<=c/\c<(i.len:Int))/\
 ag vV (qf 5 (e.add (c.toNat*1)) (vL vS (1:Int))) j fun _ h8=>
 v (qc vR (b+1)) h8)
 (R i j)) (0:Int) w)
 (fun s=>
 ∃x2:bF,aj q k 0 x2/\
 af vV 39 #[x2] bO q fun t g=>
 Br (!t) (R (vM none 0 0) g) (Br (a<0) (R (vM none 0 0) g) (Br (a>65535)
 (R (vM none 0 0) g)
 (s () g))))
theorem XO(c:bF)(a:Int)(b:Int)(d: @SO R h c a b):ac vV 201 #[c,(vL vT a),b] h R:=ar ae Tryz.func201 (al.tn (.two (.join [] [(6,7),(10,21)] .n) (al.tn (.two (al.tn (.inn (.loop [(29,aY)] [(9,10),(29,37)] .n))) .n)))) d
abbrev NT:FuncId:=202
def ER:Prop:=
 aO vV (qL 281 (vQ #[(.complex .f64 0 0),(.complex .f64 4607182418800017408 0),(vL vR (1:Int)),(vL vR (1:Int)),false])) h fun a b=>
 R a b
theorem LK(a: @ER R h):ac vV 202 #[] h R:=ar ae Tryz.func202 .n a
abbrev GP:FuncId:=203
def ub(a:Option Addr):Prop:=
 ∃x,(a=some x)/\
 ∃x2:Nat×Nat,cellOf h x=some (.complex .f64 x2.1 x2.2)/\
 ∃a3,(a=some a3)/\
 ∃t:Nat×Nat,cellOf h (a3.add 1)=some (.complex .f64 t.1 t.2)/\
 ∃z5:Nat×Nat,(jC vV .add 212 (.tmp 5) (.tmp 9) (.complex .f64 x2.1 x2.2) (.complex .f64 t.1 t.2) (.complex .f64 z5.1 z5.2))/\
 ∃A,(a=some A)/\
 ag vV (qf 212 A (.complex .f64 z5.1 z5.2)) h fun _ u=>
 (aq.ok [] u)/\
 ∃z,(a=some z)/\
 ∃B,cellOf u (z.add 2)=some (vL vR B)/\
 ∃a9,(a=some a9)/\
 ag vV (qf 3 (a9.add 2) (qc vR (B-1))) u fun _ r=>
 ∃f,(a=some f)/\
 ∃g,cellOf r (f.add 2)=some (vL vR g)/\
 Br (g>0)
 (R (.tuple #[]) r)
 (∃j,(a=some j)/\
 ∃b:Nat×Nat,cellOf r (j.add 1)=some (.complex .f64 b.1 b.2)/\
 af vV 272 #[(.complex .f64 b.1 b.2),(vL vR (1:Int))] (.one (.sc (.cpx .f64))) r fun l h3=>
 ∃d,(a=some d)/\
 ag vV (qf 212 (d.add 1) (.complex .f64 l.1 l.2)) h3 fun _ s=>
 bf (σ:=Unit) (fun _ y=>
 ∃a22,(a=some a22)/\
 ∃q:Bool,cellOf y (a22.add 4)=some (vP q)/\
 ∃e,(a=some e)/\
 ag vV (qf 4 (e.add 4) (vP (!q))) y fun _ w=>
 ∃a25,(a=some a25)/\
 ∃k,cellOf w (a25.add 3)=some (vL vR k)/\
 ∃m,(a=some m)/\
 ag vV (qf 3 (m.add 2) k) w fun _ h8=>
 R (.tuple #[]) h8)
 (fun v=>
 ∃o,(a=some o)/\
 ∃i:Bool,cellOf s (o.add 4)=some (vP i)/\
 Br i
 (∃n,(a=some n)/\
 ∃c,cellOf s (n.add 3)=some (vL vR c)/\
 ∃p,(a=some p)/\
 ag vV (qf 3 (p.add 3) (qc vR (c+1))) s fun _ D=>
 v () D)
 (v () s)))
theorem Ft(a:Option Addr)(b: @ub R h a):ac vV 203 #[a] h R:=ar ae Tryz.func203 (al.tn (al.tn (al.tn (al.tn (.two (.join [] [(33,44)] .n) .n))))) b
abbrev DS:FuncId:=205
def ri(a:Nat):Prop:=
 R (vP ((FloatKind.format .f64).order a a !=some .eq)) h
theorem CB(a:Nat)(b: @ri R h a):ac vV 205 #[(.float .f64 a)] h R:=ar ae Tryz.func205 .n b
abbrev xt:FuncId:=206
def pF(a:Int):Prop:=
 R (vP (a !=a)) h
theorem uc(a:Int)(b: @pF R h a):ac vV 206 #[a] h R:=ar ae Tryz.func206 .n b
abbrev kX:FuncId:=207
def gF(a:Sl)(m:Int)(p:Int)(c:FuncId×Array Value×Array Value):Prop:=
 aL (σ:=Int) (fun n q t=>
 Br (n<p)
 (aL (σ:=Int) (fun b u f=>
 bf (σ:=Unit) (fun _ o=>
 ∃a9,(a.ptr=some a9/\0<=(qc vR (b-1))/\(qc vR (b-1))<(a.len:Int))/\
 ∃d:iD,aj o (a9.add ((qc vR (b-1)).toNat*4)) 0 d/\
 ∃k,(a.ptr=some k/\0<=b/\b<(a.len:Int))/\
 ∃i:iD,aj o (k.add (b.toNat*4)) 0 i/\
 ∃g,(a.ptr=some g/\0<=b/\b<(a.len:Int))/\
 ag vV (qf 96 (g.add (b.toNat*4)) d) o fun _ s=>
 (aq.ok [] s)/\
 ∃j,(a.ptr=some j/\0<=(qc vR (b-1))/\(qc vR (b-1))<(a.len:Int))/\
 ag vV (qf 96 (j.add ((qc vR (b-1)).toNat*4)) i) s fun _ r=>
 (aq.ok [] r)/\
 u (qc vR (b-1)) r)
 (fun v=>
 Br (b>m) (∃a3,(a.ptr=some a3/\0<=b/\b<(a.len:Int))/\
 ∃l:iD,aj f (a3.add (b.toNat*4)) 0 l/\
 ∃a5,(a.ptr=some a5/\0<=(qc vR (b-1))/\(qc vR (b-1))<(a.len:Int))/\
 ∃e:iD,aj f (a5.add ((qc vR (b-1)).toNat*4)) 0 e/\
 ig C c.1 (c.2.1.toList++[(vQ #[l.1,l.2.1,l.2.2.1,l.2.2.2]),(vQ #[e.1,e.2.1,e.2.2.1,e.2.2.2])]++c.2.2.toList) bs f fun w h3=>
 (aq.ok [] h3)/\
 Br (w<0)
 (v () h3)
 (q (qc vR (n+1)) h3)) ((aq.ok [] f)/\
 q (qc vR (n+1)) f))) n t)
 (R (.tuple #[]) t)) (qc vR (m+1)) h
theorem kG(b:Sl)(c:Int)(d:Int)(a:FuncId×Array Value×Array Value)(e: @gF R h b c d a):ac vV 207 #[b,c,d,(.func (.func a.1) a.2.1 a.2.2)] h R:=ar ae Tryz.func207 (al.tn (.inn (.loop [(8,aY)] [(8,10),(12,53)] (al.tn (.two (.inn (al.tn (.inn (.loop [(9,aY)] [(9,10),(18,53)] (.two (.join [] [(18,35)] .n) .n))))) .n))))) e
abbrev Vd:FuncId:=222
def LL(b:Option Addr)(a:Sl):Prop:=
 af vV 292 #[b,a] aJ h fun d c=>
 R (vL vR (d.len:Int)) c
theorem SP(b:Option Addr)(a:Sl)(c: @LL R h b a):ac vV 222 #[b,a] h R:=ar ae Tryz.func222 .n c
abbrev Qt:FuncId:=223
def GQ(e:Int)(b:Sl):Prop:=
 bf (σ:=Unit) (fun _ v=>
 aL (σ:=Int) (fun f u o=>
 Br (f<(b.len:Int))
 (∃a3,(b.ptr=some a3/\0<=f/\f<(b.len:Int))/\
 ∃r:Sl×Sl,aj o (a3.add (f.toNat*2)) 0 r/\
 aO vV (qJ 235 true (.tuple #[])) o fun a5 h3=>
 ag vV (qf 235 a5 r) h3 fun _ p=>
 ∃m:Sl,cellOf p a5=some (m:Value)/\
 aL (σ:=Int) (fun c s a=>
 Br (c<(m.len:Int))
 (∃q,(m.ptr=some q/\0<=c/\c<(m.len:Int))/\
 ∃n,cellOf a (q.add (c.toNat*1))=some (vL vR n)/\
 Br (n<0) (R false a) (Br (n>=e) (R false a) (Br (c>0) (∃d:Sl,cellOf a a5=some (d:Value)/\
 ∃l,(d.ptr=some l/\0<=(qc vR (c-1))/\(qc vR (c-1))<(d.len:Int))/\
 ∃j:Int,cellOf a (l.add ((qc vR (c-1)).toNat*1))=some (vL vR j)/\
 Br (j>=n)
 (R false a)
 (s (qc vR (c+1)) a)) (s (qc vR (c+1)) a))))
 (∃g:Sl,cellOf a (a5.add 1)=some (g:Value)/\
 ∃k,(b.ptr=some k/\0<=(0:Int)/\(0:Int)<(b.len:Int))/\
 ∃i:Sl,cellOf a ((k.add ((0:Int).toNat*2)).add 1)=some (i:Value)/\
 Br ((g.len:Int) !=(i.len:Int))
 (R false a)
 (u (qc vR (f+1)) a))) (0:Int) p)
 (R true o)) (0:Int) v)
 (fun t=>
 Br (e<0) (R false h) (Br (e>64)
 (R false h)
 (t () h)))
theorem NU(b:Int)(a:Sl)(c: @GQ R h b a):ac vV 223 #[b,a] h R:=ar ae Tryz.func223 (al.tn (.two (.join [] [(4,5),(9,15)] .n) (.two (al.tn (.inn (.loop [(17,aY)] [(4,5),(6,9),(17,61)] (al.tn (al.tn (.two (.inn (al.tn (.two (al.tn (.inn (.loop [(24,aY)] [(4,5),(7,9),(24,51)] .n))) .n))) .n)))))) .n))) c
abbrev GR:FuncId:=224
def ud(a:Option Addr):Prop:=
 aL (σ:=Unit) (fun _ w y=>
 af vV 293 #[a] bs y fun r q=>
 Br (r<0)
 (R (.tuple #[]) q)
 (∃a3,(a=some a3)/\
 ∃s:Sl,cellOf q a3=some (s:Value)/\
 ∃a5,(s.ptr=some a5/\0<=r/\r<(s.len:Int))/\
 ∃t:Sl×Sl,aj q (a5.add (r.toNat*2)) 0 t/\
 af vV 225 #[a,t] (.one (.agg [.slc,.slc])) q fun z h3=>
 aO vV (qJ 235 true (.tuple #[])) h3 fun k x=>
 ag vV (qf 235 k z) x fun _ e=>
 ∃a9,(a=some a9)/\
 ∃g:Sl,cellOf e (a9.add 1)=some (g:Value)/\
 ∃i:Sl,cellOf e k=some (i:Value)/\
 ∃l,(i.ptr=some l/\0<=(0:Int)/\(0:Int)<(i.len:Int))/\
 ∃c:Int,cellOf e (l.add ((0:Int).toNat*1))=some (vL vR c)/\
 ∃m,(a=some m)/\
 ∃j:Sl,cellOf e (m.add 2)=some (j:Value)/\
 ∃b:Sl,cellOf e k=some (b:Value)/\
 ∃p,(b.ptr=some p/\0<=(0:Int)/\(0:Int)<(b.len:Int))/\
 ∃d:Int,cellOf e (p.add ((0:Int).toNat*1))=some (vL vR d)/\
 ∃f:Sl,cellOf e (k.add 1)=some (f:Value)/\
 ∃n,(g.ptr=some n/\0<=c/\c<(g.len:Int))/\
 ag vV (qf 4 (n.add (c.toNat*1)) true) e fun _ v=>
 (aq.ok [(k.add 1,f),(k,b)] v)/\
 ∃o,(j.ptr=some o/\0<=d/\d<(j.len:Int))/\
 ag vV (qf 38 (o.add (d.toNat*1)) f) v fun _ u=>
 (aq.ok [] u)/\
 w () u)) () h
theorem Fu(a:Option Addr)(b: @ud R h a):ac vV 224 #[a] h R:=ar ae Tryz.func224 (.scope 0 [] [(2,37)] [] [.n] []) b
abbrev Fv:FuncId:=225
def sX(u:Option Addr)(A:Sl×Sl):Prop:=
 aO vV (qL 235 A) h fun F O=>
 aO vV (qJ 235 true (.tuple #[])) O fun I E=>
 ∃x3:Sl,cellOf E (F.add 1)=some (x3:Value)/\
 af vV 91 #[x3] aJ E fun M h3=>
 aO vV (qJ 235 true (.tuple #[])) h3 fun a5 K=>
 ag vV (qf 235 a5 (vQ #[(vM none 0 0),M])) K fun _ H=>
 ∃x:Sl,cellOf H F=some (x:Value)/\
 aL (σ:=Int) (fun k D e=>
 Br (k<(x.len:Int))
 (∃G,(x.ptr=some G/\0<=k/\k<(x.len:Int))/\
 ∃g,cellOf e (G.add (k.toNat*1))=some (vL vR g)/\
 ∃n,(u=some n)/\
 ∃i:Sl,cellOf e (n.add 1)=some (i:Value)/\
 ∃o,(i.ptr=some o/\0<=g/\g<(i.len:Int))/\
 ∃r:Bool,cellOf e (o.add (g.toNat*1))=some (vP r)/\
 Br (!r)
 (∃p:Sl,cellOf e a5=some (p:Value)/\
 aw vV (qt 22 1 #[(0,g)]) aJ e fun B J=>
 aw vV (qq #[22,22] 22 #[p,B]) aJ J fun z h8=>
 ag vV (qf 22 a5 z) h8 fun _ N=>
 D (qc vR (k+1)) N)
 (∃w,(u=some w)/\
 ∃j:Sl,cellOf e (w.add 2)=some (j:Value)/\
 ∃s,(j.ptr=some s/\0<=g/\g<(j.len:Int))/\
 ∃f:Sl,cellOf e (s.add (g.toNat*1))=some (f:Value)/\
 aL (σ:=Int) (fun a L d=>
 Br (a<(f.len:Int))
 (∃a22,(f.ptr=some a22/\0<=a/\a<(f.len:Int))/\
 ∃v,cellOf d (a22.add (a.toNat*1))=some (vL vS v)/\
 ∃c:Sl,cellOf d (a5.add 1)=some (c:Value)/\
 ∃a25,(c.ptr=some a25/\0<=a/\a<(c.len:Int))/\
 ∃q,cellOf d (a25.add (a.toNat*1))=some (vL vS q)/\
 ∃t,(c.ptr=some t/\0<=a/\a<(c.len:Int))/\
 ag vV (qf 5 (t.add (a.toNat*1)) (vL vS (qc vS ((qA (qk vS) q^^^(qA (qk vS) v)).toNat:Nat)))) d fun _ y=>
 L (qc vR (a+1)) y)
 (D (qc vR (k+1)) d)) (0:Int) e))
 (∃m:Sl×Sl,aj e a5 0 m/\
 ag vV (qf 235 I m) e fun _ l=>
 ∃b:Sl×Sl,aj l I 0 b/\
 R b l)) (0:Int) H
theorem DT(b:Option Addr)(a:Sl×Sl)(c: @sX R h b a):ac vV 225 #[b,a] h R:=ar ae Tryz.func225 (al.tn (al.tn (.two (al.tn (.inn (.loop [(17,aY)] [(7,10),(17,58)] (al.tn (al.tn (.two (.inn (al.tn (al.tn (al.tn (.inn (.loop [(43,aY)] [(8,10),(43,57)] .n)))))) .n)))))) .n))) c
abbrev NV:FuncId:=226
def ES(a:Sl):Prop:=
 af vV 176 #[a,ZW] aJ h fun c b=>
 R (vP ((c.len:Int)==0)) b
theorem LM(a:Sl)(b: @ES R h a):ac vV 226 #[a] h R:=ar ae Tryz.func226 .n b
abbrev Qu:FuncId:=227
def GS(f:Int)(c:Sl):Prop:=
 aO vV (qJ 239 true (.tuple #[])) h fun X h1=>
 af vV 294 #[f,c] bO h1 fun r2 h2=>
 Br (!r2)
 (ag vV (qf 239 X (vQ #[(vM none 0 0),(vM none 0 0),(vM none 0 0)])) h2 fun _ h3=>
 ∃q:Sl×Sl×Sl,aj h3 X 0 q/\
 R (.tuple #[q,false]) h3)
 (bf (σ:=Option Addr) (fun a W=>
 ∃K,(a=some K)/\
 ∃A:Sl,cellOf W (K.add 1)=some (A:Value)/\
 aL (σ:=Int) (fun j K2 r=>
 Br (j<(A.len:Int))
 (∃B,(a=some B)/\
 ∃v:Sl,cellOf r (B.add 1)=some (v:Value)/\
 ∃D,(v.ptr=some D/\0<=j/\j<(v.len:Int))/\
 ag vV (qf 4 (D.add (j.toNat*1)) true) r fun _ a3=>
 K2 (qc vR (j+1)) a3)
 (aO vV (qJ 239 true (.tuple #[])) r fun d ax=>
 aL (σ:=Unit) (fun _ K3 L=>
 ∃H,(a=some H)/\
 ∃T:Sl,cellOf L (H.add 1)=some (T:Value)/\
 af vV 295 #[T,true] bO L fun bd u=>
 Br (!bd)
 (∃a22,(a=some a22)/\
 ∃m:Sl,cellOf u (a22.add 2)=some (m:Value)/\
 aL (σ:=Int) (fun b K4 e=>
 Br (b<(m.len:Int))
 (∃a25,(m.ptr=some a25/\0<=b/\b<(m.len:Int))/\
 ∃Q:Bool,cellOf e (a25.add (b.toNat*1))=some (vP Q)/\
 Br (!Q)
 (∃J:Sl,cellOf e (d.add 2)=some (J:Value)/\
 aw vV (qt 22 1 #[(0,b)]) aJ e fun v28 a5=>
 aw vV (qq #[22,22] 22 #[J,v28]) aJ a5 fun Y ad=>
 ag vV (qf 22 (d.add 2) Y) ad fun _ ap=>
 K4 (qc vR (b+1)) ap)
 (K4 (qc vR (b+1)) e))
 (∃N:Sl×Sl×Sl,aj e d 0 N/\
 ag vV (qf 239 X N) e fun _ U=>
 ∃i:Sl×Sl×Sl,aj U X 0 i/\
 R (.tuple #[i,true]) U)) (0:Int) u)
 (bf (σ:=Unit) (fun _ a4=>
 K3 () a4)
 (fun K5=>
 af vV 296 #[a] (.many [(.agg [(.int .i64),(.int .i64)]),ms]) u fun F a2=>
 aO vV (qJ 315 true (.tuple #[])) a2 fun k am=>
 ag vV (qf 315 k F.1) am fun _ o=>
 Br F.2
 (∃V:Sl,cellOf o d=some (V:Value)/\
 ∃O:Int×Int,aj o k 0 O/\
 aw vV (qt 237 1 #[(0,O)]) aJ o fun ao ab=>
 aw vV (qq #[237,237] 237 #[V,ao]) aJ ab fun Z a8=>
 ag vV (qf 237 d Z) a8 fun _ g=>
 ∃y,(a=some y)/\
 ∃t:Sl,cellOf g (y.add 2)=some (t:Value)/\
 ∃p,cellOf g k=some (vL vR p)/\
 ∃M,(a=some M)/\
 ∃s:Sl,cellOf g (M.add 1)=some (s:Value)/\
 ∃l,cellOf g (k.add 1)=some (vL vR l)/\
 ∃E,(t.ptr=some E/\0<=p/\p<(t.len:Int))/\
 ag vV (qf 4 (E.add (p.toNat*1)) true) g fun _ G=>
 (aq.ok [(k.add 1,l)] G)/\
 ∃a45,(s.ptr=some a45/\0<=l/\l<(s.len:Int))/\
 ag vV (qf 4 (a45.add (l.toNat*1)) false) G fun _ z=>
 (aq.ok [] z)/\
 K5 () z)
 (af vV 297 #[a] bs o fun n P=>
 ∃S:Sl,cellOf P (d.add 1)=some (S:Value)/\
 aw vV (qt 22 1 #[(0,n)]) aJ P fun bb a7=>
 aw vV (qq #[22,22] 22 #[S,bb]) aJ a7 fun ay a0=>
 ag vV (qf 22 (d.add 1) ay) a0 fun _ I=>
 ∃a50,(a=some a50)/\
 ∃w:Sl,cellOf I (a50.add 1)=some (w:Value)/\
 ∃x,(w.ptr=some x/\0<=n/\n<(w.len:Int))/\
 ag vV (qf 4 (x.add (n.toNat*1)) false) I fun _ ah=>
 K5 () ah)))) () ax)) (0:Int) W)
 (fun K1=>
 (aw vV (qB 242 f f) aJ h2 fun v4 h4=>
 (aq.ok [] h4)/\
 aw vV (qB 242 (vL vR (c.len:Int)) (vL vR (c.len:Int))) aJ h4 fun v5 h5=>
 (aq.ok [] h5)/\
 aO vV (qL 372 (vQ #[c,v4,v5])) h5 fun a6 h6=>
 (aq.ok [] h6)/\
 K1 (some a6) h6)/\(aw vV (qB 242 (vL vR (c.len:Int)) (vL vR (c.len:Int))) aJ h2 fun v7 h7=>
 (aq.ok [] h7)/\
 aw vV (qB 242 f f) aJ h7 fun v8 h8=>
 (aq.ok [] h8)/\
 aO vV (qL 372 (vQ #[c,v8,v7])) h8 fun a9 h9=>
 (aq.ok [] h9)/\
 K1 (some a9) h9)))
theorem NW(b:Int)(a:Sl)(c: @GS R h b a):ac vV 227 #[b,a] h R:=ar ae Tryz.func227 (al.tn (.scope 1 [] [(5,6),(9,14),(42,108)] [.n,(.join [(6,OV)] [(6,7),(19,27)] .n),(al.tn (.inn (.loop [(32,aY)] [(7,8),(32,42)] .n))),.n] [(al.tn (.two (.join [] [(9,12),(48,88)] .n) .n))] [(0,[(.two (al.tn (.inn (.loop [(93,aY)] [(12,14),(93,107)] .n))) .n)])])) c
abbrev lL:FuncId:=228
def hO(a:Sl)(b:FuncId×Array Value×Array Value):Prop:=
 af vV 298 #[a,(.func (.func b.1) b.2.1 b.2.2)] bs h fun d m=>
 Br (d==(-1:Int))
 (R a m)
 (aL (σ:=Int×Int) (fun c i f=>
 Br (c.2<(a.len:Int))
 (∃a3,(a.ptr=some a3/\0<=c.2/\c.2<(a.len:Int))/\
 ∃l:Int×Int,aj f (a3.add (c.2.toNat*2)) 0 l/\
 aO vV (qJ 315 true (.tuple #[])) f fun a5 h3=>
 ag vV (qf 315 a5 l) h3 fun _ j=>
 ∃e:Int×Int,aj j a5 0 e/\
 ig C b.1 (b.2.1.toList++[(vQ #[e.1,e.2])]++b.2.2.toList) bO j fun p g=>
 Br (!p)
 (∃k:Int×Int,aj g a5 0 k/\
 ∃a9,(a.ptr=some a9/\0<=c.1/\c.1<(a.len:Int))/\
 ag vV (qf 315 (a9.add (c.1.toNat*2)) k) g fun _ o=>
 i (qc vR (c.1+1),qc vR (c.2+1)) o)
 (i (c.1,qc vR (c.2+1)) g))
 ((0<=c.1/\c.1<=(a.len:Int))/\
 ag vV (yp #[237] 0 #[(.slice (if a.cap=c.1.toNat then a.ptr else a.ptr.map (·.add (c.1.toNat*2))) (a.len-c.1.toNat) (a.cap-c.1.toNat))]) f fun _ n=>
 (0<=c.1/\c.1<=(a.cap:Int))/\
 R (vM a.ptr c.1.toNat a.cap) n)) (d,qc vR (d+1)) m)
theorem lx(b:Sl)(a:FuncId×Array Value×Array Value)(c: @hO R h b a):ac vV 228 #[b,(.func (.func a.1) a.2.1 a.2.2)] h R:=ar ae Tryz.func228 (al.tn (al.tn (al.tn (.two (al.tn (.inn (.loop [(5,aY),(6,aY)] [(5,8),(16,36)] .n))) .n)))) c
abbrev mA:FuncId:=229
def nh(c:Int×Int)(a:Addr):Prop:=
 aO vV (qL 315 c) h fun e b=>
 ∃x2,cellOf b e=some (vL vR x2)/\
 ∃x3:Option Addr,cellOf b a=some (.pointer x3)/\
 ∃a4,(x3=some a4)/\
 ∃d:Sl,cellOf b (a4.add 5)=some (d:Value)/\
 R (decide (x2>=(d.len:Int))) b
theorem uu(b:Int×Int)(a:Addr)(c: @nh R h b a):ac vV 229 #[b,a] h R:=ar ae Tryz.func229 .n c
abbrev rG:FuncId:=230
def kM(a:Sl)(b:FuncId×Array Value×Array Value):Prop:=
 af vV 163 #[a,(.func (.func b.1) b.2.1 b.2.2)] bs h fun d g=>
 Br (d==(-1:Int))
 (R a g)
 (aL (σ:=Int×Int) (fun c j e=>
 Br (c.2<(a.len:Int))
 (∃a3,(a.ptr=some a3/\0<=c.2/\c.2<(a.len:Int))/\
 ∃f,cellOf e (a3.add (c.2.toNat*1))=some (vL vR f)/\
 ig C b.1 (b.2.1.toList++[(vL vR f)]++b.2.2.toList) bO e fun k h3=>
 Br (!k)
 (∃i,(a.ptr=some i/\0<=c.1/\c.1<(a.len:Int))/\
 ag vV (qf 3 (i.add (c.1.toNat*1)) f) h3 fun _ l=>
 j (qc vR (c.1+1),qc vR (c.2+1)) l)
 (j (c.1,qc vR (c.2+1)) h3))
 ((0<=c.1/\c.1<=(a.len:Int))/\
 ag vV (yp #[22] 0 #[(.slice (if a.cap=c.1.toNat then a.ptr else a.ptr.map (·.add (c.1.toNat*1))) (a.len-c.1.toNat) (a.cap-c.1.toNat))]) e fun _ m=>
 (0<=c.1/\c.1<=(a.cap:Int))/\
 R (vM a.ptr c.1.toNat a.cap) m)) (d,qc vR (d+1)) g)
theorem pV(b:Sl)(a:FuncId×Array Value×Array Value)(c: @kM R h b a):ac vV 230 #[b,(.func (.func a.1) a.2.1 a.2.2)] h R:=ar ae Tryz.func230 (al.tn (al.tn (al.tn (.two (al.tn (.inn (.loop [(5,aY),(6,aY)] [(5,8),(16,36)] .n))) .n)))) c
abbrev mB:FuncId:=231
def ni(b:Int)(a:Addr):Prop:=
 ∃c:Option Addr,cellOf h a=some (.pointer c)/\
 ∃d,(c=some d)/\
 ∃x3:Sl,cellOf h (d.add 5)=some (x3:Value)/\
 R (decide (b>=(x3.len:Int))) h
theorem uv(b:Int)(a:Addr)(c: @ni R h b a):ac vV 231 #[b,a] h R:=ar ae Tryz.func231 .n c
abbrev DU:FuncId:=232
def rj(i:Option Addr)(d:Int)(e:Int)(c:Sl)(b:Sl):Prop:=
 ∃F,(i=some F)/\
 ∃x2:Sl,cellOf h (F.add 9)=some (x2:Value)/\
 ∃a3,(x2.ptr=some a3/\0<=e/\e<(x2.len:Int))/\
 ∃y:Sl,cellOf h (a3.add (e.toNat*1))=some (y:Value)/\
 aL (σ:=Int) (fun f K l=>
 Br (f<(y.len:Int))
 (∃H,(y.ptr=some H/\0<=f/\f<(y.len:Int))/\
 ∃J,cellOf l (H.add (f.toNat*1))=some (vL vS J)/\
 ∃B,(c.ptr=some B/\0<=f/\f<(c.len:Int))/\
 ∃A,cellOf l (B.add (f.toNat*1))=some (vL vS A)/\
 ∃n,(i=some n)/\
 ∃o:Option Addr,cellOf l n=some (.pointer o)/\
 af vV 240 #[o,(vL vS d),(vL vS J)] (.one (.sc (.int .u8))) l fun z E=>
 (aq.ok [(B.add (f.toNat*1),(vL vS A))] E)/\
 ∃t,(c.ptr=some t/\0<=f/\f<(c.len:Int))/\
 ag vV (qf 5 (t.add (f.toNat*1)) (vL vS (qc vS ((qA (qk vS) A^^^(qA (qk vS) z)).toNat:Nat)))) E fun _ h3=>
 (aq.ok [] h3)/\
 K (qc vR (f+1)) h3)
 (∃u,(i=some u)/\
 ∃j:Sl,cellOf l (u.add 10)=some (j:Value)/\
 ∃w,(j.ptr=some w/\0<=e/\e<(j.len:Int))/\
 ∃g:Sl,cellOf l (w.add (e.toNat*1))=some (g:Value)/\
 aL (σ:=Int) (fun a L s=>
 Br (a<(g.len:Int))
 (∃p,(g.ptr=some p/\0<=a/\a<(g.len:Int))/\
 ∃v,cellOf s (p.add (a.toNat*1))=some (vL vS v)/\
 ∃k,(b.ptr=some k/\0<=a/\a<(b.len:Int))/\
 ∃m,cellOf s (k.add (a.toNat*1))=some (vL vS m)/\
 ∃q,(i=some q)/\
 ∃x:Option Addr,cellOf s q=some (.pointer x)/\
 af vV 240 #[x,(vL vS d),(vL vS v)] (.one (.sc (.int .u8))) s fun D I=>
 (aq.ok [(k.add (a.toNat*1),(vL vS m))] I)/\
 ∃r,(b.ptr=some r/\0<=a/\a<(b.len:Int))/\
 ag vV (qf 5 (r.add (a.toNat*1)) (vL vS (qc vS ((qA (qk vS) m^^^(qA (qk vS) D)).toNat:Nat)))) I fun _ G=>
 (aq.ok [] G)/\
 L (qc vR (a+1)) G)
 (R (.tuple #[]) s)) (0:Int) l)) (0:Int) h
theorem CC(d:Option Addr)(a:Int)(e:Int)(c:Sl)(b:Sl)(f: @rj R h d a e c b):ac vV 232 #[d,(vL vS a),e,c,b] h R:=ar ae Tryz.func232 (.two (al.tn (.inn (.loop [(22,aY)] [(10,12),(22,41)] .n))) (al.tn (.inn (.loop [(49,aY)] [(12,14),(49,68)] .n)))) f
abbrev CD:FuncId:=233
def pG(b:Sl)(d:Int):Prop:=
 bf (σ:=Sl) (fun e h3=>
 Br ((e.len:Int)==0)
 (R (vM none 0 0) h3)
 (R e h3))
 (fun g=>
 aL (σ:=Sl) (fun a k c=>
 bf (σ:=Unit) (fun _ i=>
 (0<=(1:Int)/\(1:Int)<=(a.len:Int))/\
 k (⟨(if a.cap=(1:Int).toNat then a.ptr else a.ptr.map (·.add ((1:Int).toNat*1))),(a.len-(1:Int).toNat),(a.cap-(1:Int).toNat)⟩:Sl) i)
 (fun j=>
 Br ((a.len:Int)>0) (∃f,(a.ptr=some f/\0<=(0:Int)/\(0:Int)<(a.len:Int))/\
 ∃x3:Int,cellOf c (f.add ((0:Int).toNat*1))=some (vL vS x3)/\
 Br (x3==d)
 (j () c)
 (g (⟨a.ptr,a.len,a.cap⟩:Sl) c)) (g (⟨a.ptr,a.len,a.cap⟩:Sl) c))) (⟨b.ptr,b.len,b.cap⟩:Sl) h)
theorem BD(a:Sl)(b:Int)(c: @pG R h a b):ac vV 233 #[a,(vL vS b)] h R:=ar ae Tryz.func233 (al.tn (.two (.join [(0,ct)] [(0,1),(5,17)] (.inn (.loop [(0,ct)] [(0,1),(5,17)] (.two (.join [] [(5,15)] .n) .n)))) .n)) c
abbrev BE:FuncId:=234
def oM(b:Sl)(d:Int):Prop:=
 bf (σ:=Sl) (fun g h3=>
 R g h3)
 (fun f=>
 aL (σ:=Sl) (fun a k c=>
 bf (σ:=Unit) (fun _ i=>
 (0<=(qc vR ((a.len:Int)-1))/\(qc vR ((a.len:Int)-1))<=(a.cap:Int))/\
 k (⟨a.ptr,(qc vR ((a.len:Int)-1)).toNat,a.cap⟩:Sl) i)
 (fun j=>
 Br ((a.len:Int)>0) (∃e,(a.ptr=some e/\0<=(qc vR ((a.len:Int)-1))/\(qc vR ((a.len:Int)-1))<(a.len:Int))/\
 ∃x3:Int,cellOf c (e.add ((qc vR ((a.len:Int)-1)).toNat*1))=some (vL vS x3)/\
 Br (x3==d)
 (j () c)
 (f (⟨a.ptr,a.len,a.cap⟩:Sl) c)) (f (⟨a.ptr,a.len,a.cap⟩:Sl) c))) (⟨b.ptr,b.len,b.cap⟩:Sl) h)
theorem Ad(a:Sl)(b:Int)(c: @oM R h a b):ac vV 234 #[a,(vL vS b)] h R:=ar ae Tryz.func234 (al.tn (.two (.join [(0,ct)] [(0,1),(5,23)] (.inn (.loop [(0,ct)] [(0,1),(5,23)] (.two (.join [] [(5,18)] .n) .n)))) .n)) c
abbrev AJ:FuncId:=240
def CE(f:Option Addr)(a:Int)(b:Int):Prop:=
 bf (σ:=Unit) (fun _ k=>
 af vV 303 #[f] na k fun g c=>
 ∃a3,(g=some a3)/\
 (0<=a/\a<((256:Nat):Int))/\
 ∃d,cellOf c ((a3.add 255).add (a.toNat*1))=some (vL vR d)/\
 ∃a5,(g=some a5)/\
 (0<=b/\b<((256:Nat):Int))/\
 ∃e,cellOf c ((a5.add 255).add (b.toNat*1))=some (vL vR e)/\
 ((255:Int)≠0)/\
 ∃j,(g=some j)/\
 (0<=(zW (qc vR (d+e)) 255)/\(zW (qc vR (d+e)) 255)<((255:Nat):Int))/\
 ∃i:Int,cellOf c (j.add ((zW (qc vR (d+e)) 255).toNat*1))=some (vL vS i)/\
 R (vL vS i) c)
 (fun l=>
 Br (a==0) (R (vL vS (0:Int)) h) (Br (b==0)
 (R (vL vS (0:Int)) h)
 (l () h)))
theorem JT(c:Option Addr)(a:Int)(b:Int)(d: @CE R h c a b):ac vV 240 #[c,(vL vS a),(vL vS b)] h R:=ar ae Tryz.func240 (al.tn (.two (.join [] [(6,7),(8,14)] .n) .n)) d
abbrev Iy:FuncId:=241
def xu(a:Sl)(b:Int):Prop:=
 bf (σ:=Unit) (fun _ g=>
 aL (σ:=Int) (fun c i d=>
 Br (c<(a.len:Int))
 (∃a5,(a.ptr=some a5/\0<=c/\c<(a.len:Int))/\
 ∃e,cellOf d (a5.add (c.toNat*1))=some (vL vR e)/\
 Br (e>b)
 (R (qc vR (c+1)) d)
 (i (qc vR (c+1)) d))
 (R (vL vR (0:Int)) d)) (0:Int) g)
 (fun j=>
 Br ((a.len:Int)==0) (R (vL vR (0:Int)) h) (Br (b<0) (R (vL vR (0:Int)) h) (∃f,(a.ptr=some f/\0<=(qc vR ((a.len:Int)-1))/\(qc vR ((a.len:Int)-1))<(a.len:Int))/\
 ∃x2:Int,cellOf h (f.add ((qc vR ((a.len:Int)-1)).toNat*1))=some (vL vR x2)/\
 Br (b>=x2)
 (R (vL vR (0:Int)) h)
 (j () h))))
theorem GU(a:Sl)(b:Int)(c: @xu R h a b):ac vV 241 #[a,b] h R:=ar ae Tryz.func241 (al.tn (.two (.join [] [(4,5),(7,24)] .n) (.two (al.tn (.inn (.loop [(26,aY)] [(4,7),(26,37)] .n))) .n))) c
abbrev GV:FuncId:=242
def ue(b:Option Addr)(a:Int):Prop:=
 bf (σ:=Unit) (fun _ c=>
 af vV 179 #[b] (.one (.sc (.int .u32))) c fun e d=>
 ((qc vU a)≠0)/\
 R (qc vR (zW (qc vU e) (qc vU a))) d)
 (fun f=>
 Br (zg b) (R (vL vR (0:Int)) h) (Br (a<=0)
 (R (vL vR (0:Int)) h)
 (f () h)))
theorem Fw(b:Option Addr)(a:Int)(c: @ue R h b a):ac vV 242 #[b,a] h R:=ar ae Tryz.func242 (al.tn (.two (.join [] [(4,11)] .n) .n)) c
end
end Go.Proofs.YtdhamoojccmbdaaGreatDoor
