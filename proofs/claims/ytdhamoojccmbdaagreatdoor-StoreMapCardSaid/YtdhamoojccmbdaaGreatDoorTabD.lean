/- Part of the proofs that the laws of this seat answer true whatever the input reads, and leave it as it was; no condition. -/
import Derived.Test.YtdhamoojccmbdaaGreatDoorTabA
set_option linter.unusedVariables false
set_option linter.unusedSimpArgs false
open Go.Proofs.Tryz renaming prog -> xl
open Go.Value renaming agg -> xg, bool -> xf, int -> vX, slice -> vY
open Go.IntKind renaming bits -> qk, i64 -> xh, u32 -> xj, u64 -> xk, u8 -> xi, wrap -> qc
open BitVec renaming ofInt -> qA
open Int renaming fdiv -> qT, tmod -> zX
open Go.Instr renaming alloc -> qK, box -> qL, buildSlice -> qq, makeSlice -> qD, storeAt -> qf
open Go.Builtin renaming append_ -> qt, clear_ -> yt
open Option renaming isNone -> zi
set_option maxRecDepth 1000000
namespace Go.Proofs.YtdhamoojccmbdaaGreatDoor
noncomputable section
open Go Go.Vc Go.Proofs
variable {R:Value->Heap->Prop} {h:Heap}
abbrev YH:FuncId:=190
def Qe(a:Sl):Prop:=
 aM (σ:=Int×Int) (fun c i d=>
 Br (c.2<(a.len:Int))
 (∃f,(a.ptr=some f/\0<=c.2/\c.2<(a.len:Int))/\
 ∃x3,cellOf d (f.add (c.2.toNat*1))=some (vX xi x3)/\
 aM (σ:=Int×Int) (fun b g e=>
 Br (b.2<8)
 ((0<=(1:Int))/\
 Br ((qc xj ((qA (qk xj) b.1&&&(qA (qk xj) (1:Int))).toNat:Nat))==1)
 (g (qc xj ((qA (qk xj) (qT b.1 (2^min (1:Int).toNat (qk xj)))^^^(qA (qk xj) (3988292384:Int))).toNat:Nat),qc xh (b.2+1)) e)
 (g (qT b.1 (2^min (1:Int).toNat (qk xj)),qc xh (b.2+1)) e))
 (i (b.1,qc xh (c.2+1)) e)) (qc xj ((qA (qk xj) c.1^^^(qA (qk xj) (qc xj x3))).toNat:Nat),(0:Int)) d)
 (R (vX xj (qc xj ((qA (qk xj) (4294967295:Int)^^^(qA (qk xj) c.1)).toNat:Nat))) d)) ((4294967295:Int),(0:Int)) h
theorem VQ(a:Sl)(b: @Qe R h a):ae xl 190 #[a] h R:=au af Tryz.func190 (al.tn (al.tn (.two (al.tn (.inn (.loop [(3,(.sc (.int .u32))),(9,ba)] [(3,4),(5,7),(9,29)] (al.tn (al.tn (.two (.inn (al.tn (al.tn (al.tn (.inn (.loop [(3,(.sc (.int .u32))),(17,ba)] [(3,4),(6,7),(17,28)] .n)))))) .n)))))) .n))) b
abbrev YI:FuncId:=192
def Qf(a:Sl):Prop:=
 aM (σ:=Int) (fun c f b=>
 Br (c<(a.len:Int))
 (∃e,(a.ptr=some e/\0<=c/\c<(a.len:Int))/\
 ∃x3:Sl,cellOf b (e.add (c.toNat*1))=some (x3:Value)/\
 ∃a4,(a.ptr=some a4/\0<=(0:Int)/\(0:Int)<(a.len:Int))/\
 ∃d:Sl,cellOf b (a4.add ((0:Int).toNat*1))=some (d:Value)/\
 Br ((x3.len:Int) !=(d.len:Int)) (R false b) (Br ((x3.len:Int)>64)
 (R false b)
 (f (qc xh (c+1)) b)))
 (R true b)) (0:Int) h
theorem VR(a:Sl)(b: @Qf R h a):ae xl 192 #[a] h R:=au af Tryz.func192 (al.tn (.two (al.tn (.inn (.loop [(7,ba)] [(2,3),(4,5),(7,24)] .n))) .n)) b
abbrev TR:FuncId:=193
def JQ(a:Sl):Prop:=
 Br ((a.len:Int)==0)
 (R (vX xh (0:Int)) h)
 (∃b,(a.ptr=some b/\0<=(0:Int)/\(0:Int)<(a.len:Int))/\
 ∃x2:Sl,cellOf h (b.add ((0:Int).toNat*1))=some (x2:Value)/\
 R (vX xh (x2.len:Int)) h)
theorem Ru(a:Sl)(b: @JQ R h a):ae xl 193 #[a] h R:=au af Tryz.func193 .n b
abbrev YJ:FuncId:=194
def Qg(a:Sl):Prop:=
 av xl (qD 59 (vX xh (0:Int)) (vX xh (a.len:Int))) aK h fun c l=>
 aM (σ:=Sl×Int) (fun b g e=>
 Br (b.2<(a.len:Int))
 (∃a3,(a.ptr=some a3/\0<=b.2/\b.2<(a.len:Int))/\
 ∃f:Sl,cellOf e (a3.add (b.2.toNat*1))=some (f:Value)/\
 ag xl 91 #[f] aK e fun i h3=>
 av xl (qq 59 1 #[(0,i)]) aK h3 fun k j=>
 av xl (qt #[59,59] 59 #[b.1,k]) aK j fun d m=>
 g ((⟨d.ptr,d.len,d.cap⟩:Sl),qc xh (b.2+1)) m)
 (R b.1 e)) ((⟨c.ptr,c.len,c.cap⟩:Sl),(0:Int)) l
theorem VS(a:Sl)(b: @Qg R h a):ae xl 194 #[a] h R:=au af Tryz.func194 (al.tn (al.tn (.two (al.tn (.inn (.loop [(3,cu),(11,ba)] [(3,4),(5,6),(11,21)] .n))) .n))) b
abbrev Rv:FuncId:=195
def HE(k:Option Addr)(a:Sl)(i:Int):Prop:=
 aM (σ:=Int×Int) (fun b H F=>
 Br (b.2<i)
 (ag xl 263 #[a,b.1,b.2] bt F fun n x=>
 Br (n<0)
 (H (b.1,qc xh (b.2+1)) x)
 (bf (σ:=Unit) (fun _ y=>
 bf (σ:=Unit) (fun _ M=>
 aM (σ:=Int) (fun c J d=>
 Br (c<(a.len:Int))
 (Br (c !=b.1)
 (∃m,(a.ptr=some m/\0<=c/\c<(a.len:Int))/\
 ∃g:Sl,cellOf d (m.add (c.toNat*1))=some (g:Value)/\
 ∃p,(g.ptr=some p/\0<=b.2/\b.2<(g.len:Int))/\
 ∃w,cellOf d (p.add (b.2.toNat*1))=some (vX xi w)/\
 ∃a25,(a.ptr=some a25/\0<=b.1/\b.1<(a.len:Int))/\
 ∃v:Sl,cellOf d (a25.add (b.1.toNat*1))=some (v:Value)/\
 ∃o,(a.ptr=some o/\0<=c/\c<(a.len:Int))/\
 ∃r:Sl,cellOf d (o.add (c.toNat*1))=some (r:Value)/\
 ag xl 266 #[k,(vX xi w),v,r] iC d fun _ u=>
 (ar.ok [(m.add (c.toNat*1),g)] u)/\
 J (qc xh (c+1)) u)
 (J (qc xh (c+1)) d))
 (H (qc xh (b.1+1),qc xh (b.2+1)) d)) (0:Int) M)
 (fun N=>
 ∃f,(a.ptr=some f/\0<=b.1/\b.1<(a.len:Int))/\
 ∃e:Sl,cellOf y (f.add (b.1.toNat*1))=some (e:Value)/\
 ∃t,(e.ptr=some t/\0<=b.2/\b.2<(e.len:Int))/\
 ∃q,cellOf y (t.add (b.2.toNat*1))=some (vX xi q)/\
 ∃j,(a.ptr=some j/\0<=b.1/\b.1<(a.len:Int))/\
 ∃l:Sl,cellOf y (j.add (b.1.toNat*1))=some (l:Value)/\
 ag xl 265 #[k,(vX xi q)] (.one (.sc (.int .u8))) y fun z G=>
 (ar.ok [(j.add (b.1.toNat*1),l),(f.add (b.1.toNat*1),e)] G)/\
 ag xl 264 #[k,(vX xi z),l] aK G fun A D=>
 (ar.ok [(f.add (b.1.toNat*1),e)] D)/\
 ∃s,(a.ptr=some s/\0<=b.1/\b.1<(a.len:Int))/\
 ac xl (qf 38 (s.add (b.1.toNat*1)) A) D fun _ h8=>
 (ar.ok [] h8)/\
 N () h8))
 (fun O=>
 ∃a3,(a.ptr=some a3/\0<=n/\n<(a.len:Int))/\
 ∃L:Sl,cellOf x (a3.add (n.toNat*1))=some (L:Value)/\
 ∃a5,(a.ptr=some a5/\0<=b.1/\b.1<(a.len:Int))/\
 ∃E:Sl,cellOf x (a5.add (b.1.toNat*1))=some (E:Value)/\
 ∃K,(a.ptr=some K/\0<=b.1/\b.1<(a.len:Int))/\
 ac xl (qf 38 (K.add (b.1.toNat*1)) L) x fun _ h3=>
 (ar.ok [] h3)/\
 ∃B,(a.ptr=some B/\0<=n/\n<(a.len:Int))/\
 ac xl (qf 38 (B.add (n.toNat*1)) E) h3 fun _ I=>
 (ar.ok [] I)/\
 O () I)))
 (R b.1 F)) ((0:Int),(0:Int)) h
theorem OV(c:Option Addr)(b:Sl)(a:Int)(d: @HE R h c b a):ae xl 195 #[c,b,a] h R:=au af Tryz.func195 (al.tn (al.tn (.two (al.tn (.inn (.loop [(7,ba),(12,ba)] [(7,11),(12,82)] (al.tn (al.tn (.two (.inn (al.tn (al.tn (al.tn (.two (.join [] [(21,35)] .n) (.two (.join [] [(35,53)] .n) (.two (al.tn (.inn (.loop [(55,ba)] [(10,11),(55,79)] .n))) .n))))))) .n)))))) .n))) d
abbrev VT:FuncId:=196
def MJ(a:Option Addr):Prop:=
 Br (zi a)
 (ag xl 148 #[] mL h fun b c=>
 R b c)
 (R a h)
theorem TS(a:Option Addr)(b: @MJ R h a):ae xl 196 #[a] h R:=au af Tryz.func196 .n b
abbrev VU:FuncId:=197
def MK(a:Sl):Prop:=
 ag xl 267 #[a,(.func (.func 268) #[] #[])] bt h fun b c=>
 R b c
theorem TT(a:Sl)(b: @MK R h a):ae xl 197 #[a] h R:=au af Tryz.func197 .n b
abbrev TU:FuncId:=198
def JR:Prop:=
 aQ xl (qK 270 true (.tuple #[])) h fun c k=>
 aM (σ:=Int×Int) (fun b g d=>
 Br (b.2<255)
 ((0<=b.2/\b.2<((255:Nat):Int))/\
 ac xl (qf 5 (c.add (b.2.toNat*1)) (vX xi b.1)) d fun _ h3=>
 ag xl 269 #[(vX xi b.1),(vX xi (3:Int))] (.one (.sc (.int .u8))) h3 fun i j=>
 g (i,qc xh (b.2+1)) j)
 (∃e:List (Int),(e.length=255/\aj d c 0 (e.map (Sc.enc (.int .u8))))/\
 ac xl (qf 270 c (xg (e.map (Sc.enc (.int .u8))).toArray)) d fun _ f=>
 ∃a:List (Int),(a.length=255/\aj f c 0 (a.map (Sc.enc (.int .u8))))/\
 R (xg (a.map (Sc.enc (.int .u8))).toArray) f)) ((1:Int),(0:Int)) k
theorem Rw(a: @JR R h):ae xl 198 #[] h R:=au af Tryz.func198 (al.tn (al.tn (.two (al.tn (.inn (.loop [(1,(.sc (.int .u8))),(3,ba)] [(1,12)] .n))) .n))) a
abbrev YK:FuncId:=199
def Qh(f:List (Int)):Prop:=
 aQ xl (qL 270 (xg (f.map (Sc.enc (.int .u8))).toArray)) h fun k m=>
 aQ xl (qK 272 true (.tuple #[])) m fun d g=>
 ∃x3:List (Int),(x3.length=255/\aj g k 0 (x3.map (Sc.enc (.int .u8))))/\
 aM (σ:=Int) (fun b j h3=>
 Br (b<255)
 (∃c:Int,(0<=b/\b<((255:Nat):Int)/\((x3.map (Sc.enc (.int .u8))).toArray:Array Value)[b.toNat]?=some (vX xi c))/\
 (0<=c/\c<((256:Nat):Int))/\
 ac xl (qf 3 (d.add (c.toNat*1)) b) h3 fun _ l=>
 j (qc xh (b+1)) l)
 (∃e:List (Int),(e.length=256/\aj h3 d 0 (e.map (Sc.enc (.int .i64))))/\
 ac xl (qf 272 d (xg (e.map (Sc.enc (.int .i64))).toArray)) h3 fun _ i=>
 ∃a:List (Int),(a.length=256/\aj i d 0 (a.map (Sc.enc (.int .i64))))/\
 R (xg (a.map (Sc.enc (.int .i64))).toArray) i)) (0:Int) g
theorem VV(a:List (Int))(b: @Qh R h a):ae xl 199 #[(xg (a.map (Sc.enc (.int .u8))).toArray)] h R:=au af Tryz.func199 (al.tn (.two (al.tn (.inn (.loop [(6,ba)] [(3,5),(6,14)] .n))) .n)) b
abbrev VW:FuncId:=200
def ML(q:bH):Prop:=
 aQ xl (qL 24 q) h fun e t=>
 ∃x2:bH,aj t e 0 x2/\
 ag xl 39 #[x2] bX t fun F s=>
 Br (!F)
 (R (vY none 0 0) s)
 (ag xl 148 #[] mL s fun A h3=>
 ∃w,cellOf h3 (e.add 1)=some (vX xh w)/\
 aM (σ:=Sl×Int) (fun f D k=>
 Br (f.2<w)
 (bf (σ:=Sl) (fun c r=>
 ∃g,cellOf r e=some (vX xh g)/\
 aM (σ:=Int) (fun a z h8=>
 Br (a<g)
 (ag xl 271 #[A,(qc xh ((qc xh (f.2+1))*(qc xh (a+1))))] (.one (.sc (.int .u8))) h8 fun n y=>
 ∃i,(c.ptr=some i/\0<=a/\a<(c.len:Int))/\
 ac xl (qf 5 (i.add (a.toNat*1)) (vX xi n)) y fun _ o=>
 z (qc xh (a+1)) o)
 (av xl (qq 59 1 #[(0,c)]) aK h8 fun m p=>
 av xl (qt #[59,59] 59 #[f.1,m]) aK p fun b l=>
 D ((⟨b.ptr,b.len,b.cap⟩:Sl),qc xh (f.2+1)) l)) (0:Int) r)
 (fun E=>
 ∃x:bH,aj k e 0 x/\
 ∃j,cellOf k e=some (vX xh j)/\
 ag xl 170 #[x] bt k fun B u=>
 (ar.ok [(e,j)] u)/\
 ag xl 270 #[B,(qc xh (j+f.2))] aK u fun d v=>
 (ar.ok [(e,j)] v)/\
 E (⟨d.ptr,d.len,d.cap⟩:Sl) v))
 (R f.1 k)) ((⟨none,0,0⟩:Sl),(0:Int)) h3)
theorem TV(a:bH)(b: @ML R h a):ae xl 200 #[a] h R:=au af Tryz.func200 (al.tn (al.tn (al.tn (al.tn (.two (al.tn (.inn (.loop [(4,cu),(14,ba)] [(4,8),(14,45)] (al.tn (al.tn (.two (.inn (al.tn (.two (.join [(6,cu)] [(6,7),(17,24)] .n) (.two (al.tn (.inn (.loop [(26,ba)] [(7,8),(26,40)] .n))) .n)))) .n)))))) .n))))) b
abbrev abd:FuncId:=201
def TW(l:bH)(d:Int)(b:Int):Prop:=
 aQ xl (qL 24 l) h fun m o=>
 bf (σ:=Unit) (fun _ h3=>
 ∃q:bH,aj h3 m 0 q/\
 ag xl 170 #[q] bt h3 fun n u=>
 av xl (qD 38 n n) aK u fun j p=>
 ∃r:bH,aj p m 0 r/\
 ag xl 131 #[r,(vX xj d),b] aK p fun k s=>
 aM (σ:=Int) (fun a v i=>
 Br (a<(k.len:Int))
 (∃e,(k.ptr=some e/\0<=a/\a<(k.len:Int))/\
 ∃c,cellOf i (e.add (a.toNat*1))=some (vX xh c)/\
 ∃f,(j.ptr=some f/\0<=c/\c<(j.len:Int))/\
 ac xl (qf 5 (f.add (c.toNat*1)) (vX xi (1:Int))) i fun _ h8=>
 v (qc xh (a+1)) h8)
 (R j i)) (0:Int) s)
 (fun t=>
 ∃x2:bH,aj o m 0 x2/\
 ag xl 39 #[x2] bX o fun w g=>
 Br (!w) (R (vY none 0 0) g) (Br (b<0) (R (vY none 0 0) g) (Br (b>65535)
 (R (vY none 0 0) g)
 (t () g))))
theorem YL(c:bH)(a:Int)(b:Int)(d: @TW R h c a b):ae xl 201 #[c,(vX xj a),b] h R:=au af Tryz.func201 (al.tn (.two (.join [] [(6,7),(10,21)] .n) (al.tn (.two (al.tn (.inn (.loop [(29,ba)] [(9,10),(29,37)] .n))) .n)))) d
abbrev OW:FuncId:=202
def FD:Prop:=
 aQ xl (qL 281 (xg #[(.complex .f64 0 0),(.complex .f64 4607182418800017408 0),(vX xh (1:Int)),(vX xh (1:Int)),false])) h fun a b=>
 R a b
theorem MM(a: @FD R h):ae xl 202 #[] h R:=au af Tryz.func202 .n a
abbrev HG:FuncId:=203
def uu(a:Option Addr):Prop:=
 ∃A,(a=some A)/\
 ∃x2:Nat×Nat,cellOf h A=some (.complex .f64 x2.1 x2.2)/\
 ∃a3,(a=some a3)/\
 ∃t:Nat×Nat,cellOf h (a3.add 1)=some (.complex .f64 t.1 t.2)/\
 ∃z5:Nat×Nat,(kI xl .add 212 (.tmp 5) (.tmp 9) (.complex .f64 x2.1 x2.2) (.complex .f64 t.1 t.2) (.complex .f64 z5.1 z5.2))/\
 ∃w,(a=some w)/\
 ac xl (qf 212 w (.complex .f64 z5.1 z5.2)) h fun _ u=>
 (ar.ok [] u)/\
 ∃B,(a=some B)/\
 ∃z,cellOf u (B.add 2)=some (vX xh z)/\
 ∃a9,(a=some a9)/\
 ac xl (qf 3 (a9.add 2) (qc xh (z-1))) u fun _ r=>
 ∃e,(a=some e)/\
 ∃f,cellOf r (e.add 2)=some (vX xh f)/\
 Br (f>0)
 (R (.tuple #[]) r)
 (∃m,(a=some m)/\
 ∃b:Nat×Nat,cellOf r (m.add 1)=some (.complex .f64 b.1 b.2)/\
 ag xl 272 #[(.complex .f64 b.1 b.2),(vX xh (1:Int))] (.one (.sc (.cpx .f64))) r fun j h3=>
 ∃p,(a=some p)/\
 ac xl (qf 212 (p.add 1) (.complex .f64 j.1 j.2)) h3 fun _ s=>
 bf (σ:=Unit) (fun _ x=>
 ∃a22,(a=some a22)/\
 ∃q:Bool,cellOf x (a22.add 4)=some (xf q)/\
 ∃l,(a=some l)/\
 ac xl (qf 4 (l.add 4) (xf (!q))) x fun _ v=>
 ∃a25,(a=some a25)/\
 ∃o,cellOf v (a25.add 3)=some (vX xh o)/\
 ∃c,(a=some c)/\
 ac xl (qf 3 (c.add 2) o) v fun _ h8=>
 R (.tuple #[]) h8)
 (fun y=>
 ∃g,(a=some g)/\
 ∃k:Bool,cellOf s (g.add 4)=some (xf k)/\
 Br k
 (∃i,(a=some i)/\
 ∃n,cellOf s (i.add 3)=some (vX xh n)/\
 ∃d,(a=some d)/\
 ac xl (qf 3 (d.add 3) (qc xh (n+1))) s fun _ D=>
 y () D)
 (y () s)))
theorem Gc(a:Option Addr)(b: @uu R h a):ae xl 203 #[a] h R:=au af Tryz.func203 (al.tn (al.tn (al.tn (al.tn (.two (.join [] [(33,44)] .n) .n))))) b
abbrev EB:FuncId:=205
def rO(a:Nat):Prop:=
 R (xf ((FloatKind.format .f64).order a a !=some .eq)) h
theorem Dj(a:Nat)(b: @rO R h a):ae xl 205 #[(.float .f64 a)] h R:=au af Tryz.func205 .n b
abbrev xZ:FuncId:=206
def re(a:Int):Prop:=
 R (xf (a !=a)) h
theorem uv(a:Int)(b: @re R h a):ae xl 206 #[a] h R:=au af Tryz.func206 .n b
abbrev lB:FuncId:=207
def gN(a:Sl)(g:Int)(o:Int)(c:FuncId×Array Value×Array Value):Prop:=
 aM (σ:=Int) (fun n t q=>
 Br (n<o)
 (aM (σ:=Int) (fun b v f=>
 bf (σ:=Unit) (fun _ p=>
 ∃a9,(a.ptr=some a9/\0<=(qc xh (b-1))/\(qc xh (b-1))<(a.len:Int))/\
 ∃d:jg,aj p (a9.add ((qc xh (b-1)).toNat*4)) 0 d/\
 ∃k,(a.ptr=some k/\0<=b/\b<(a.len:Int))/\
 ∃i:jg,aj p (k.add (b.toNat*4)) 0 i/\
 ∃l,(a.ptr=some l/\0<=b/\b<(a.len:Int))/\
 ac xl (qf 96 (l.add (b.toNat*4)) d) p fun _ r=>
 (ar.ok [] r)/\
 ∃m,(a.ptr=some m/\0<=(qc xh (b-1))/\(qc xh (b-1))<(a.len:Int))/\
 ac xl (qf 96 (m.add ((qc xh (b-1)).toNat*4)) i) r fun _ s=>
 (ar.ok [] s)/\
 v (qc xh (b-1)) s)
 (fun u=>
 Br (b>g) (∃a3,(a.ptr=some a3/\0<=b/\b<(a.len:Int))/\
 ∃j:jg,aj f (a3.add (b.toNat*4)) 0 j/\
 ∃a5,(a.ptr=some a5/\0<=(qc xh (b-1))/\(qc xh (b-1))<(a.len:Int))/\
 ∃e:jg,aj f (a5.add ((qc xh (b-1)).toNat*4)) 0 e/\
 iq C c.1 (c.2.1.toList++[(xg #[j.1,j.2.1,j.2.2.1,j.2.2.2]),(xg #[e.1,e.2.1,e.2.2.1,e.2.2.2])]++c.2.2.toList) bt f fun w h3=>
 (ar.ok [] h3)/\
 Br (w<0)
 (u () h3)
 (t (qc xh (n+1)) h3)) ((ar.ok [] f)/\
 t (qc xh (n+1)) f))) n q)
 (R (.tuple #[]) q)) (qc xh (g+1)) h
theorem kU(b:Sl)(c:Int)(d:Int)(a:FuncId×Array Value×Array Value)(e: @gN R h b c d a):ae xl 207 #[b,c,d,(.func (.func a.1) a.2.1 a.2.2)] h R:=au af Tryz.func207 (al.tn (.inn (.loop [(8,ba)] [(8,10),(12,53)] (al.tn (.two (.inn (al.tn (.inn (.loop [(9,ba)] [(9,10),(18,53)] (.two (.join [] [(18,35)] .n) .n))))) .n))))) e
abbrev VX:FuncId:=222
def MN(b:Option Addr)(a:Sl):Prop:=
 ag xl 292 #[b,a] aK h fun c d=>
 R (vX xh (c.len:Int)) d
theorem TX(b:Option Addr)(a:Sl)(c: @MN R h b a):ae xl 222 #[b,a] h R:=au af Tryz.func222 .n c
abbrev Rx:FuncId:=223
def HI(e:Int)(b:Sl):Prop:=
 bf (σ:=Unit) (fun _ t=>
 aM (σ:=Int) (fun g v o=>
 Br (g<(b.len:Int))
 (∃a3,(b.ptr=some a3/\0<=g/\g<(b.len:Int))/\
 ∃s:Sl×Sl,aj o (a3.add (g.toNat*2)) 0 s/\
 aQ xl (qK 235 true (.tuple #[])) o fun a5 h3=>
 ac xl (qf 235 a5 s) h3 fun _ r=>
 ∃m:Sl,cellOf r a5=some (m:Value)/\
 aM (σ:=Int) (fun c q a=>
 Br (c<(m.len:Int))
 (∃p,(m.ptr=some p/\0<=c/\c<(m.len:Int))/\
 ∃n,cellOf a (p.add (c.toNat*1))=some (vX xh n)/\
 Br (n<0) (R false a) (Br (n>=e) (R false a) (Br (c>0) (∃d:Sl,cellOf a a5=some (d:Value)/\
 ∃l,(d.ptr=some l/\0<=(qc xh (c-1))/\(qc xh (c-1))<(d.len:Int))/\
 ∃j:Int,cellOf a (l.add ((qc xh (c-1)).toNat*1))=some (vX xh j)/\
 Br (j>=n)
 (R false a)
 (q (qc xh (c+1)) a)) (q (qc xh (c+1)) a))))
 (∃i:Sl,cellOf a (a5.add 1)=some (i:Value)/\
 ∃f,(b.ptr=some f/\0<=(0:Int)/\(0:Int)<(b.len:Int))/\
 ∃k:Sl,cellOf a ((f.add ((0:Int).toNat*2)).add 1)=some (k:Value)/\
 Br ((i.len:Int) !=(k.len:Int))
 (R false a)
 (v (qc xh (g+1)) a))) (0:Int) r)
 (R true o)) (0:Int) t)
 (fun u=>
 Br (e<0) (R false h) (Br (e>64)
 (R false h)
 (u () h)))
theorem OX(a:Int)(b:Sl)(c: @HI R h a b):ae xl 223 #[a,b] h R:=au af Tryz.func223 (al.tn (.two (.join [] [(4,5),(9,15)] .n) (.two (al.tn (.inn (.loop [(17,ba)] [(4,5),(6,9),(17,61)] (al.tn (al.tn (.two (.inn (al.tn (.two (al.tn (.inn (.loop [(24,ba)] [(4,5),(7,9),(24,51)] .n))) .n))) .n)))))) .n))) c
abbrev HJ:FuncId:=224
def uw(a:Option Addr):Prop:=
 aM (σ:=Unit) (fun _ x w=>
 ag xl 293 #[a] bt w fun r q=>
 Br (r<0)
 (R (.tuple #[]) q)
 (∃a3,(a=some a3)/\
 ∃s:Sl,cellOf q a3=some (s:Value)/\
 ∃a5,(s.ptr=some a5/\0<=r/\r<(s.len:Int))/\
 ∃u:Sl×Sl,aj q (a5.add (r.toNat*2)) 0 u/\
 ag xl 225 #[a,u] (.one (.agg [.slc,.slc])) q fun z h3=>
 aQ xl (qK 235 true (.tuple #[])) h3 fun k y=>
 ac xl (qf 235 k z) y fun _ e=>
 ∃a9,(a=some a9)/\
 ∃f:Sl,cellOf e (a9.add 1)=some (f:Value)/\
 ∃g:Sl,cellOf e k=some (g:Value)/\
 ∃p,(g.ptr=some p/\0<=(0:Int)/\(0:Int)<(g.len:Int))/\
 ∃c:Int,cellOf e (p.add ((0:Int).toNat*1))=some (vX xh c)/\
 ∃m,(a=some m)/\
 ∃i:Sl,cellOf e (m.add 2)=some (i:Value)/\
 ∃b:Sl,cellOf e k=some (b:Value)/\
 ∃l,(b.ptr=some l/\0<=(0:Int)/\(0:Int)<(b.len:Int))/\
 ∃d:Int,cellOf e (l.add ((0:Int).toNat*1))=some (vX xh d)/\
 ∃j:Sl,cellOf e (k.add 1)=some (j:Value)/\
 ∃n,(f.ptr=some n/\0<=c/\c<(f.len:Int))/\
 ac xl (qf 4 (n.add (c.toNat*1)) true) e fun _ v=>
 (ar.ok [(k.add 1,j),(k,b)] v)/\
 ∃o,(i.ptr=some o/\0<=d/\d<(i.len:Int))/\
 ac xl (qf 38 (o.add (d.toNat*1)) j) v fun _ t=>
 (ar.ok [] t)/\
 x () t)) () h
theorem Gd(a:Option Addr)(b: @uw R h a):ae xl 224 #[a] h R:=au af Tryz.func224 (.scope 0 [] [(2,37)] [] [.n] []) b
abbrev Ge:FuncId:=225
def tG(v:Option Addr)(B:Sl×Sl):Prop:=
 aQ xl (qL 235 B) h fun I L=>
 aQ xl (qK 235 true (.tuple #[])) L fun E F=>
 ∃x3:Sl,cellOf F (I.add 1)=some (x3:Value)/\
 ag xl 91 #[x3] aK F fun M h3=>
 aQ xl (qK 235 true (.tuple #[])) h3 fun a5 N=>
 ac xl (qf 235 a5 (xg #[(vY none 0 0),M])) N fun _ G=>
 ∃x:Sl,cellOf G I=some (x:Value)/\
 aM (σ:=Int) (fun k H e=>
 Br (k<(x.len:Int))
 (∃D,(x.ptr=some D/\0<=k/\k<(x.len:Int))/\
 ∃g,cellOf e (D.add (k.toNat*1))=some (vX xh g)/\
 ∃o,(v=some o)/\
 ∃i:Sl,cellOf e (o.add 1)=some (i:Value)/\
 ∃t,(i.ptr=some t/\0<=g/\g<(i.len:Int))/\
 ∃p:Bool,cellOf e (t.add (g.toNat*1))=some (xf p)/\
 Br (!p)
 (∃s:Sl,cellOf e a5=some (s:Value)/\
 av xl (qq 22 1 #[(0,g)]) aK e fun A J=>
 av xl (qt #[22,22] 22 #[s,A]) aK J fun y h8=>
 ac xl (qf 22 a5 y) h8 fun _ K=>
 H (qc xh (k+1)) K)
 (∃l,(v=some l)/\
 ∃j:Sl,cellOf e (l.add 2)=some (j:Value)/\
 ∃r,(j.ptr=some r/\0<=g/\g<(j.len:Int))/\
 ∃f:Sl,cellOf e (r.add (g.toNat*1))=some (f:Value)/\
 aM (σ:=Int) (fun a O c=>
 Br (a<(f.len:Int))
 (∃a22,(f.ptr=some a22/\0<=a/\a<(f.len:Int))/\
 ∃w,cellOf c (a22.add (a.toNat*1))=some (vX xi w)/\
 ∃d:Sl,cellOf c (a5.add 1)=some (d:Value)/\
 ∃a25,(d.ptr=some a25/\0<=a/\a<(d.len:Int))/\
 ∃u,cellOf c (a25.add (a.toNat*1))=some (vX xi u)/\
 ∃m,(d.ptr=some m/\0<=a/\a<(d.len:Int))/\
 ac xl (qf 5 (m.add (a.toNat*1)) (vX xi (qc xi ((qA (qk xi) u^^^(qA (qk xi) w)).toNat:Nat)))) c fun _ z=>
 O (qc xh (a+1)) z)
 (H (qc xh (k+1)) c)) (0:Int) e))
 (∃q:Sl×Sl,aj e a5 0 q/\
 ac xl (qf 235 E q) e fun _ n=>
 ∃b:Sl×Sl,aj n E 0 b/\
 R b n)) (0:Int) G
theorem EC(b:Option Addr)(a:Sl×Sl)(c: @tG R h b a):ae xl 225 #[b,a] h R:=au af Tryz.func225 (al.tn (al.tn (.two (al.tn (.inn (.loop [(17,ba)] [(7,10),(17,58)] (al.tn (al.tn (.two (.inn (al.tn (al.tn (al.tn (.inn (.loop [(43,ba)] [(8,10),(43,57)] .n)))))) .n)))))) .n))) c
abbrev OY:FuncId:=226
def FE(a:Sl):Prop:=
 ag xl 176 #[a,aaZ] aK h fun b c=>
 R (xf ((b.len:Int)==0)) c
theorem MO(a:Sl)(b: @FE R h a):ae xl 226 #[a] h R:=au af Tryz.func226 .n b
abbrev Ry:FuncId:=227
def HL(g:Int)(d:Sl):Prop:=
 aQ xl (qK 239 true (.tuple #[])) h fun X h1=>
 ag xl 294 #[g,d] bX h1 fun r2 Y=>
 Br (!r2)
 (ac xl (qf 239 X (xg #[(vY none 0 0),(vY none 0 0),(vY none 0 0)])) Y fun _ h3=>
 ∃q:Sl×Sl×Sl,aj h3 X 0 q/\
 R (.tuple #[q,false]) h3)
 (bf (σ:=Option Addr) (fun a H=>
 ∃O,(a=some O)/\
 ∃y:Sl,cellOf H (O.add 1)=some (y:Value)/\
 aM (σ:=Int) (fun j K2 w=>
 Br (j<(y.len:Int))
 (∃W,(a=some W)/\
 ∃v:Sl,cellOf w (W.add 1)=some (v:Value)/\
 ∃V,(v.ptr=some V/\0<=j/\j<(v.len:Int))/\
 ac xl (qf 4 (V.add (j.toNat*1)) true) w fun _ a5=>
 K2 (qc xh (j+1)) a5)
 (aQ xl (qK 239 true (.tuple #[])) w fun b ax=>
 aM (σ:=Unit) (fun _ K3 N=>
 ∃I,(a=some I)/\
 ∃E:Sl,cellOf N (I.add 1)=some (E:Value)/\
 ag xl 295 #[E,true] bX N fun am s=>
 Br (!am)
 (∃a22,(a=some a22)/\
 ∃n:Sl,cellOf s (a22.add 2)=some (n:Value)/\
 aM (σ:=Int) (fun c K4 e=>
 Br (c<(n.len:Int))
 (∃a25,(n.ptr=some a25/\0<=c/\c<(n.len:Int))/\
 ∃K:Bool,cellOf e (a25.add (c.toNat*1))=some (xf K)/\
 Br (!K)
 (∃z:Sl,cellOf e (b.add 2)=some (z:Value)/\
 av xl (qq 22 1 #[(0,c)]) aK e fun v28 a7=>
 av xl (qt #[22,22] 22 #[z,v28]) aK a7 fun ab a4=>
 ac xl (qf 22 (b.add 2) ab) a4 fun _ bb=>
 K4 (qc xh (c+1)) bb)
 (K4 (qc xh (c+1)) e))
 (∃G:Sl×Sl×Sl,aj e b 0 G/\
 ac xl (qf 239 X G) e fun _ B=>
 ∃i:Sl×Sl×Sl,aj B X 0 i/\
 R (.tuple #[i,true]) B)) (0:Int) s)
 (bf (σ:=Unit) (fun _ a8=>
 K3 () a8)
 (fun K5=>
 ag xl 296 #[a] (.many [(.agg [(.int .i64),(.int .i64)]),lI]) s fun D Z=>
 aQ xl (qK 315 true (.tuple #[])) Z fun k ah=>
 ac xl (qf 315 k D.1) ah fun _ p=>
 Br D.2
 (∃T:Sl,cellOf p b=some (T:Value)/\
 ∃U:Int×Int,aj p k 0 U/\
 av xl (qq 237 1 #[(0,U)]) aK p fun bk bd=>
 av xl (qt #[237,237] 237 #[T,bk]) aK bd fun ad a0=>
 ac xl (qf 237 b ad) a0 fun _ l=>
 ∃Q,(a=some Q)/\
 ∃u:Sl,cellOf l (Q.add 2)=some (u:Value)/\
 ∃m,cellOf l k=some (vX xh m)/\
 ∃L,(a=some L)/\
 ∃r:Sl,cellOf l (L.add 1)=some (r:Value)/\
 ∃f,cellOf l (k.add 1)=some (vX xh f)/\
 ∃J,(u.ptr=some J/\0<=m/\m<(u.len:Int))/\
 ac xl (qf 4 (J.add (m.toNat*1)) true) l fun _ M=>
 (ar.ok [(k.add 1,f)] M)/\
 ∃a45,(r.ptr=some a45/\0<=f/\f<(r.len:Int))/\
 ac xl (qf 4 (a45.add (f.toNat*1)) false) M fun _ P=>
 (ar.ok [] P)/\
 K5 () P)
 (ag xl 297 #[a] bt p fun o S=>
 ∃F:Sl,cellOf S (b.add 1)=some (F:Value)/\
 av xl (qq 22 1 #[(0,o)]) aK S fun ao a3=>
 av xl (qt #[22,22] 22 #[F,ao]) aK a3 fun a2 ap=>
 ac xl (qf 22 (b.add 1) a2) ap fun _ A=>
 ∃a50,(a=some a50)/\
 ∃t:Sl,cellOf A (a50.add 1)=some (t:Value)/\
 ∃x,(t.ptr=some x/\0<=o/\o<(t.len:Int))/\
 ac xl (qf 4 (x.add (o.toNat*1)) false) A fun _ ay=>
 K5 () ay)))) () ax)) (0:Int) H)
 (fun K1=>
 (av xl (qD 242 g g) aK Y fun v4 h4=>
 (ar.ok [] h4)/\
 av xl (qD 242 (vX xh (d.len:Int)) (vX xh (d.len:Int))) aK h4 fun v5 h5=>
 (ar.ok [] h5)/\
 aQ xl (qL 372 (xg #[d,v4,v5])) h5 fun a6 h6=>
 (ar.ok [] h6)/\
 K1 (some a6) h6)/\(av xl (qD 242 (vX xh (d.len:Int)) (vX xh (d.len:Int))) aK Y fun v7 h7=>
 (ar.ok [] h7)/\
 av xl (qD 242 g g) aK h7 fun v8 h8=>
 (ar.ok [] h8)/\
 aQ xl (qL 372 (xg #[d,v8,v7])) h8 fun a9 h9=>
 (ar.ok [] h9)/\
 K1 (some a9) h9)))
theorem OZ(a:Int)(b:Sl)(c: @HL R h a b):ae xl 227 #[a,b] h R:=au af Tryz.func227 (al.tn (.scope 1 [] [(5,6),(9,14),(42,108)] [.n,(.join [(6,LX)] [(6,7),(19,27)] .n),(al.tn (.inn (.loop [(32,ba)] [(7,8),(32,42)] .n))),.n] [(al.tn (.two (.join [] [(9,12),(48,88)] .n) .n))] [(0,[(.two (al.tn (.inn (.loop [(93,ba)] [(12,14),(93,107)] .n))) .n)])])) c
abbrev ma:FuncId:=228
def ig(a:Sl)(b:FuncId×Array Value×Array Value):Prop:=
 ag xl 298 #[a,(.func (.func b.1) b.2.1 b.2.2)] bt h fun g i=>
 Br (g==(-1:Int))
 (R a i)
 (aM (σ:=Int×Int) (fun c j e=>
 Br (c.2<(a.len:Int))
 (∃a3,(a.ptr=some a3/\0<=c.2/\c.2<(a.len:Int))/\
 ∃m:Int×Int,aj e (a3.add (c.2.toNat*2)) 0 m/\
 aQ xl (qK 315 true (.tuple #[])) e fun a5 h3=>
 ac xl (qf 315 a5 m) h3 fun _ l=>
 ∃d:Int×Int,aj l a5 0 d/\
 iq C b.1 (b.2.1.toList++[(xg #[d.1,d.2])]++b.2.2.toList) bX l fun p f=>
 Br (!p)
 (∃k:Int×Int,aj f a5 0 k/\
 ∃a9,(a.ptr=some a9/\0<=c.1/\c.1<(a.len:Int))/\
 ac xl (qf 315 (a9.add (c.1.toNat*2)) k) f fun _ o=>
 j (qc xh (c.1+1),qc xh (c.2+1)) o)
 (j (c.1,qc xh (c.2+1)) f))
 ((0<=c.1/\c.1<=(a.len:Int))/\
 ac xl (yt #[237] 0 #[(.slice (if a.cap=c.1.toNat then a.ptr else a.ptr.map (·.add (c.1.toNat*2))) (a.len-c.1.toNat) (a.cap-c.1.toNat))]) e fun _ n=>
 (0<=c.1/\c.1<=(a.cap:Int))/\
 R (vY a.ptr c.1.toNat a.cap) n)) (g,qc xh (g+1)) i)
theorem lN(b:Sl)(a:FuncId×Array Value×Array Value)(c: @ig R h b a):ae xl 228 #[b,(.func (.func a.1) a.2.1 a.2.2)] h R:=au af Tryz.func228 (al.tn (al.tn (al.tn (.two (al.tn (.inn (.loop [(5,ba),(6,ba)] [(5,8),(16,36)] .n))) .n)))) c
abbrev mR:FuncId:=229
def nI(c:Int×Int)(a:Addr):Prop:=
 aQ xl (qL 315 c) h fun e b=>
 ∃x2,cellOf b e=some (vX xh x2)/\
 ∃x3:Option Addr,cellOf b a=some (.pointer x3)/\
 ∃a4,(x3=some a4)/\
 ∃d:Sl,cellOf b (a4.add 5)=some (d:Value)/\
 R (decide (x2>=(d.len:Int))) b
theorem uQ(b:Int×Int)(a:Addr)(c: @nI R h b a):ae xl 229 #[b,a] h R:=au af Tryz.func229 .n c
abbrev sk:FuncId:=230
def lh(a:Sl)(b:FuncId×Array Value×Array Value):Prop:=
 ag xl 163 #[a,(.func (.func b.1) b.2.1 b.2.2)] bt h fun e j=>
 Br (e==(-1:Int))
 (R a j)
 (aM (σ:=Int×Int) (fun c i d=>
 Br (c.2<(a.len:Int))
 (∃a3,(a.ptr=some a3/\0<=c.2/\c.2<(a.len:Int))/\
 ∃f,cellOf d (a3.add (c.2.toNat*1))=some (vX xh f)/\
 iq C b.1 (b.2.1.toList++[(vX xh f)]++b.2.2.toList) bX d fun k h3=>
 Br (!k)
 (∃g,(a.ptr=some g/\0<=c.1/\c.1<(a.len:Int))/\
 ac xl (qf 3 (g.add (c.1.toNat*1)) f) h3 fun _ l=>
 i (qc xh (c.1+1),qc xh (c.2+1)) l)
 (i (c.1,qc xh (c.2+1)) h3))
 ((0<=c.1/\c.1<=(a.len:Int))/\
 ac xl (yt #[22] 0 #[(.slice (if a.cap=c.1.toNat then a.ptr else a.ptr.map (·.add (c.1.toNat*1))) (a.len-c.1.toNat) (a.cap-c.1.toNat))]) d fun _ m=>
 (0<=c.1/\c.1<=(a.cap:Int))/\
 R (vY a.ptr c.1.toNat a.cap) m)) (e,qc xh (e+1)) j)
theorem ry(b:Sl)(a:FuncId×Array Value×Array Value)(c: @lh R h b a):ae xl 230 #[b,(.func (.func a.1) a.2.1 a.2.2)] h R:=au af Tryz.func230 (al.tn (al.tn (al.tn (.two (al.tn (.inn (.loop [(5,ba),(6,ba)] [(5,8),(16,36)] .n))) .n)))) c
abbrev mS:FuncId:=231
def nJ(b:Int)(a:Addr):Prop:=
 ∃d:Option Addr,cellOf h a=some (.pointer d)/\
 ∃c,(d=some c)/\
 ∃x3:Sl,cellOf h (c.add 5)=some (x3:Value)/\
 R (decide (b>=(x3.len:Int))) h
theorem uR(b:Int)(a:Addr)(c: @nJ R h b a):ae xl 231 #[b,a] h R:=au af Tryz.func231 .n c
abbrev ED:FuncId:=232
def rP(i:Option Addr)(d:Int)(e:Int)(c:Sl)(b:Sl):Prop:=
 ∃J,(i=some J)/\
 ∃x2:Sl,cellOf h (J.add 9)=some (x2:Value)/\
 ∃a3,(x2.ptr=some a3/\0<=e/\e<(x2.len:Int))/\
 ∃y:Sl,cellOf h (a3.add (e.toNat*1))=some (y:Value)/\
 aM (σ:=Int) (fun f K j=>
 Br (f<(y.len:Int))
 (∃E,(y.ptr=some E/\0<=f/\f<(y.len:Int))/\
 ∃I,cellOf j (E.add (f.toNat*1))=some (vX xi I)/\
 ∃z,(c.ptr=some z/\0<=f/\f<(c.len:Int))/\
 ∃B,cellOf j (z.add (f.toNat*1))=some (vX xi B)/\
 ∃o,(i=some o)/\
 ∃q:Option Addr,cellOf j o=some (.pointer q)/\
 ag xl 240 #[q,(vX xi d),(vX xi I)] (.one (.sc (.int .u8))) j fun D F=>
 (ar.ok [(z.add (f.toNat*1),(vX xi B))] F)/\
 ∃w,(c.ptr=some w/\0<=f/\f<(c.len:Int))/\
 ac xl (qf 5 (w.add (f.toNat*1)) (vX xi (qc xi ((qA (qk xi) B^^^(qA (qk xi) D)).toNat:Nat)))) F fun _ h3=>
 (ar.ok [] h3)/\
 K (qc xh (f+1)) h3)
 (∃n,(i=some n)/\
 ∃k:Sl,cellOf j (n.add 10)=some (k:Value)/\
 ∃r,(k.ptr=some r/\0<=e/\e<(k.len:Int))/\
 ∃g:Sl,cellOf j (r.add (e.toNat*1))=some (g:Value)/\
 aM (σ:=Int) (fun a L u=>
 Br (a<(g.len:Int))
 (∃s,(g.ptr=some s/\0<=a/\a<(g.len:Int))/\
 ∃x,cellOf u (s.add (a.toNat*1))=some (vX xi x)/\
 ∃l,(b.ptr=some l/\0<=a/\a<(b.len:Int))/\
 ∃m,cellOf u (l.add (a.toNat*1))=some (vX xi m)/\
 ∃p,(i=some p)/\
 ∃v:Option Addr,cellOf u p=some (.pointer v)/\
 ag xl 240 #[v,(vX xi d),(vX xi x)] (.one (.sc (.int .u8))) u fun A G=>
 (ar.ok [(l.add (a.toNat*1),(vX xi m))] G)/\
 ∃t,(b.ptr=some t/\0<=a/\a<(b.len:Int))/\
 ac xl (qf 5 (t.add (a.toNat*1)) (vX xi (qc xi ((qA (qk xi) m^^^(qA (qk xi) A)).toNat:Nat)))) G fun _ H=>
 (ar.ok [] H)/\
 L (qc xh (a+1)) H)
 (R (.tuple #[]) u)) (0:Int) j)) (0:Int) h
theorem Dk(d:Option Addr)(a:Int)(e:Int)(c:Sl)(b:Sl)(f: @rP R h d a e c b):ae xl 232 #[d,(vX xi a),e,c,b] h R:=au af Tryz.func232 (.two (al.tn (.inn (.loop [(22,ba)] [(10,12),(22,41)] .n))) (al.tn (.inn (.loop [(49,ba)] [(12,14),(49,68)] .n)))) f
abbrev Dl:FuncId:=233
def rf(b:Sl)(d:Int):Prop:=
 bf (σ:=Sl) (fun g h3=>
 Br ((g.len:Int)==0)
 (R (vY none 0 0) h3)
 (R g h3))
 (fun e=>
 aM (σ:=Sl) (fun a k c=>
 bf (σ:=Unit) (fun _ j=>
 (0<=(1:Int)/\(1:Int)<=(a.len:Int))/\
 k (⟨(if a.cap=(1:Int).toNat then a.ptr else a.ptr.map (·.add ((1:Int).toNat*1))),(a.len-(1:Int).toNat),(a.cap-(1:Int).toNat)⟩:Sl) j)
 (fun i=>
 Br ((a.len:Int)>0) (∃f,(a.ptr=some f/\0<=(0:Int)/\(0:Int)<(a.len:Int))/\
 ∃x3:Int,cellOf c (f.add ((0:Int).toNat*1))=some (vX xi x3)/\
 Br (x3==d)
 (i () c)
 (e (⟨a.ptr,a.len,a.cap⟩:Sl) c)) (e (⟨a.ptr,a.len,a.cap⟩:Sl) c))) (⟨b.ptr,b.len,b.cap⟩:Sl) h)
theorem Cl(a:Sl)(b:Int)(c: @rf R h a b):ae xl 233 #[a,(vX xi b)] h R:=au af Tryz.func233 (al.tn (.two (.join [(0,cu)] [(0,1),(5,17)] (.inn (.loop [(0,cu)] [(0,1),(5,17)] (.two (.join [] [(5,15)] .n) .n)))) .n)) c
abbrev Cm:FuncId:=234
def pe(b:Sl)(d:Int):Prop:=
 bf (σ:=Sl) (fun k h3=>
 R k h3)
 (fun e=>
 aM (σ:=Sl) (fun a j c=>
 bf (σ:=Unit) (fun _ i=>
 (0<=(qc xh ((a.len:Int)-1))/\(qc xh ((a.len:Int)-1))<=(a.cap:Int))/\
 j (⟨a.ptr,(qc xh ((a.len:Int)-1)).toNat,a.cap⟩:Sl) i)
 (fun g=>
 Br ((a.len:Int)>0) (∃f,(a.ptr=some f/\0<=(qc xh ((a.len:Int)-1))/\(qc xh ((a.len:Int)-1))<(a.len:Int))/\
 ∃x3:Int,cellOf c (f.add ((qc xh ((a.len:Int)-1)).toNat*1))=some (vX xi x3)/\
 Br (x3==d)
 (g () c)
 (e (⟨a.ptr,a.len,a.cap⟩:Sl) c)) (e (⟨a.ptr,a.len,a.cap⟩:Sl) c))) (⟨b.ptr,b.len,b.cap⟩:Sl) h)
theorem AO(a:Sl)(b:Int)(c: @pe R h a b):ae xl 234 #[a,(vX xi b)] h R:=au af Tryz.func234 (al.tn (.two (.join [(0,cu)] [(0,1),(5,23)] (.inn (.loop [(0,cu)] [(0,1),(5,23)] (.two (.join [] [(5,18)] .n) .n)))) .n)) c
abbrev Bw:FuncId:=240
def Dm(g:Option Addr)(a:Int)(b:Int):Prop:=
 bf (σ:=Unit) (fun _ l=>
 ag xl 303 #[g] mL l fun f d=>
 ∃a3,(f=some a3)/\
 (0<=a/\a<((256:Nat):Int))/\
 ∃e,cellOf d ((a3.add 255).add (a.toNat*1))=some (vX xh e)/\
 ∃a5,(f=some a5)/\
 (0<=b/\b<((256:Nat):Int))/\
 ∃c,cellOf d ((a5.add 255).add (b.toNat*1))=some (vX xh c)/\
 ((255:Int)≠0)/\
 ∃j,(f=some j)/\
 (0<=(zX (qc xh (e+c)) 255)/\(zX (qc xh (e+c)) 255)<((255:Nat):Int))/\
 ∃i:Int,cellOf d (j.add ((zX (qc xh (e+c)) 255).toNat*1))=some (vX xi i)/\
 R (vX xi i) d)
 (fun k=>
 Br (a==0) (R (vX xi (0:Int)) h) (Br (b==0)
 (R (vX xi (0:Int)) h)
 (k () h)))
theorem KL(c:Option Addr)(a:Int)(b:Int)(d: @Dm R h c a b):ae xl 240 #[c,(vX xi a),(vX xi b)] h R:=au af Tryz.func240 (al.tn (.two (.join [] [(6,7),(8,14)] .n) .n)) d
abbrev Jp:FuncId:=241
def zV(a:Sl)(b:Int):Prop:=
 bf (σ:=Unit) (fun _ i=>
 aM (σ:=Int) (fun c j d=>
 Br (c<(a.len:Int))
 (∃a5,(a.ptr=some a5/\0<=c/\c<(a.len:Int))/\
 ∃e,cellOf d (a5.add (c.toNat*1))=some (vX xh e)/\
 Br (e>b)
 (R (qc xh (c+1)) d)
 (j (qc xh (c+1)) d))
 (R (vX xh (0:Int)) d)) (0:Int) i)
 (fun g=>
 Br ((a.len:Int)==0) (R (vX xh (0:Int)) h) (Br (b<0) (R (vX xh (0:Int)) h) (∃f,(a.ptr=some f/\0<=(qc xh ((a.len:Int)-1))/\(qc xh ((a.len:Int)-1))<(a.len:Int))/\
 ∃x2:Int,cellOf h (f.add ((qc xh ((a.len:Int)-1)).toNat*1))=some (vX xh x2)/\
 Br (b>=x2)
 (R (vX xh (0:Int)) h)
 (g () h))))
theorem HM(a:Sl)(b:Int)(c: @zV R h a b):ae xl 241 #[a,b] h R:=au af Tryz.func241 (al.tn (.two (.join [] [(4,5),(7,24)] .n) (.two (al.tn (.inn (.loop [(26,ba)] [(4,7),(26,37)] .n))) .n))) c
abbrev HN:FuncId:=242
def ux(b:Option Addr)(a:Int):Prop:=
 bf (σ:=Unit) (fun _ f=>
 ag xl 179 #[b] (.one (.sc (.int .u32))) f fun c e=>
 ((qc xk a)≠0)/\
 R (qc xh (zX (qc xk c) (qc xk a))) e)
 (fun d=>
 Br (zi b) (R (vX xh (0:Int)) h) (Br (a<=0)
 (R (vX xh (0:Int)) h)
 (d () h)))
theorem Gg(b:Option Addr)(a:Int)(c: @ux R h b a):ae xl 242 #[b,a] h R:=au af Tryz.func242 (al.tn (.two (.join [] [(4,11)] .n) .n)) c
end
end Go.Proofs.YtdhamoojccmbdaaGreatDoor
