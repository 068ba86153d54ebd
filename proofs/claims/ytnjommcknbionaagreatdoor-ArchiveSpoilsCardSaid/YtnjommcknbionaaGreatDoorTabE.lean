/- Lemmas for the proof of the law; no condition. -/
import Derived.Test.YtnjommcknbionaaGreatDoorTabA
set_option linter.unusedVariables false
open Go.Proofs.Tryz renaming prog -> vV
open Go.Instr renaming alloc -> qJ, box -> qI, makeSlice -> zA, storeAt -> qe
open Go.Value renaming agg -> vQ, bool -> vP, int -> vL, slice -> vM
open Go.IntKind renaming bits -> qf, i64 -> vR, u32 -> vT, u64 -> vU, u8 -> vS, wrap -> qc
open Int renaming fdiv -> qD, tdiv -> wQ, tmod -> zQ
open BitVec renaming ofInt -> qq
open Go.Proofs.Tryz
set_option maxRecDepth 1000000
namespace Go.Qw
noncomputable section
open Go Go.Vc Go.Proofs
variable {R:wt} {h:Heap}
def BF:Prop:=
 aL vV (qJ 312 true (.tuple #[])) h fun c k=>
 aS (σ:=Int×Int) (fun b g d=>
 Br (b.2<255)
 ((0<=b.2/\b.2<((255:Nat):Int))/\
 ae vV (qe 5 (c.add (b.2.toNat*1)) (vL vS b.1)) d fun _ h3=>
 ac vV 313 #[(vL vS b.1),(vL vS 3)] (.one (.sc (.int .u8))) h3 fun i j=>
 g (i,qc vR (b.2+1)) j)
 (∃e:List (Int),(e.length=255/\ah d c 0 (e.map (Sc.enc (.int .u8))))/\
 ae vV (qe 312 c (vQ (e.map (Sc.enc (.int .u8))).toArray)) d fun _ f=>
 ∃a:List (Int),(a.length=255/\ah f c 0 (a.map (Sc.enc (.int .u8))))/\
 R (vQ (a.map (Sc.enc (.int .u8))).toArray) f)) ((1:Int),(0:Int)) k
theorem Hu(a:@BF R h):ab vV 253 #[] h R:=aq af func253 (an.tn (an.tn (.two (an.tn (.inn (.loop [(1,(.sc (.int .u8))),(3,be)] [(1,12)] .n))) .n))) a
def GB(e:List (Int)):Prop:=
 aL vV (qI 312 (vQ (e.map (Sc.enc (.int .u8))).toArray)) h fun m l=>
 aL vV (qJ 314 true (.tuple #[])) l fun d g=>
 ∃x3:List (Int),(x3.length=255/\ah g m 0 (x3.map (Sc.enc (.int .u8))))/\
 aS (σ:=Int) (fun b j h3=>
 Br (b<255)
 (∃c:Int,(0<=b/\b<((255:Nat):Int)/\((x3.map (Sc.enc (.int .u8))).toArray:Array Value)[b.toNat]?=some (vL vS c))/\
 (0<=c/\c<((256:Nat):Int))/\
 ae vV (qe 3 (d.add (c.toNat*1)) b) h3 fun _ k=>
 j (qc vR (b+1)) k)
 (∃f:List (Int),(f.length=256/\ah h3 d 0 (f.map (Sc.enc (.int .i64))))/\
 ae vV (qe 314 d (vQ (f.map (Sc.enc (.int .i64))).toArray)) h3 fun _ i=>
 ∃a:List (Int),(a.length=256/\ah i d 0 (a.map (Sc.enc (.int .i64))))/\
 R (vQ (a.map (Sc.enc (.int .i64))).toArray) i)) (0:Int) g
theorem KS(a:List (Int))(b:@GB R h a):ab vV 254 #[(vQ (a.map (Sc.enc (.int .u8))).toArray)] h R:=aq af func254 (an.tn (.two (an.tn (.inn (.loop [(6,be)] [(3,5),(6,14)] .n))) .n)) b
def Jq(j:bL)(c:Int)(a:Int):Prop:=
 aL vV (qI 24 j) h fun l p=>
 aV (σ:=Unit) (fun _ h3=>
 ∃n:bL,ah h3 l 0 n/\
 ac vV 215 #[n] bo h3 fun q v=>
 aw vV (zA 31 q q) aN v fun i o=>
 ∃r:bL,ah o l 0 r/\
 ac vV 159 #[r,(vL vT c),a] aN o fun k s=>
 aS (σ:=Int) (fun b w m=>
 Br (b<(k.len:Int))
 (∃f,(k.ptr=some f/\0<=b/\b<(k.len:Int))/\
 ∃d,cellOf m (f.add (b.toNat*1))=some (vL vR d)/\
 ∃e,(i.ptr=some e/\0<=d/\d<(i.len:Int))/\
 ae vV (qe 5 (e.add (d.toNat*1)) (vL vS 1)) m fun _ h8=>
 w (qc vR (b+1)) h8)
 (R i m)) (0:Int) s)
 (fun t=>
 ∃x2:bL,ah p l 0 x2/\
 ac vV 36 #[x2] bU p fun u g=>
 Br (!u) (R (vM none 0 0) g) (Br (a<0) (R (vM none 0 0) g) (Br (a>65535)
 (R (vM none 0 0) g)
 (t () g))))
theorem Nc(c:bL)(a:Int)(b:Int)(d:@Jq R h c a b):ab vV 255 #[c,(vL vT a),b] h R:=aq af func255 (an.tn (.two (.join [] [(6,7),(10,21)] .n) (an.tn (.two (an.tn (.inn (.loop [(29,be)] [(9,10),(29,37)] .n))) .n)))) d
def uN:Prop:=
 aL vV (qI 322 (vQ #[(.complex .f64 0 0),(.complex .f64 4607182418800017408 0),(vL vR 1),(vL vR 1),false])) h fun b a=>
 R b a
theorem Ed(a:@uN R h):ab vV 256 #[] h R:=aq af func256 .n a
def nV(a:aK):Prop:=
 ∃z,(a=some z)/\
 ∃x2:Nat×Nat,cellOf h z=some (.complex .f64 x2.1 x2.2)/\
 ∃a3,(a=some a3)/\
 ∃s:Nat×Nat,cellOf h (a3.add 1)=some (.complex .f64 s.1 s.2)/\
 ∃z5:Nat×Nat,(fM vV .add 250 (.tmp 5) (.tmp 9) (.complex .f64 x2.1 x2.2) (.complex .f64 s.1 s.2) (.complex .f64 z5.1 z5.2))/\
 ∃w,(a=some w)/\
 ae vV (qe 250 w (.complex .f64 z5.1 z5.2)) h fun _ u=>
 (ar.ok [] u)/\
 ∃y,(a=some y)/\
 ∃B,cellOf u (y.add 2)=some (vL vR B)/\
 ∃a9,(a=some a9)/\
 ae vV (qe 3 (a9.add 2) (qc vR (B-1))) u fun _ r=>
 ∃e,(a=some e)/\
 ∃k,cellOf r (e.add 2)=some (vL vR k)/\
 Br (k>0)
 (R (.tuple #[]) r)
 (∃p,(a=some p)/\
 ∃b:Nat×Nat,cellOf r (p.add 1)=some (.complex .f64 b.1 b.2)/\
 ac vV 314 #[(.complex .f64 b.1 b.2),(vL vR 1)] (.one (.sc (.cpx .f64))) r fun i h3=>
 ∃n,(a=some n)/\
 ae vV (qe 250 (n.add 1) (.complex .f64 i.1 i.2)) h3 fun _ t=>
 aV (σ:=Unit) (fun _ v=>
 ∃a22,(a=some a22)/\
 ∃f:Bool,cellOf v (a22.add 4)=some (vP f)/\
 ∃g,(a=some g)/\
 ae vV (qe 4 (g.add 4) (vP (!f))) v fun _ A=>
 ∃a25,(a=some a25)/\
 ∃d,cellOf A (a25.add 3)=some (vL vR d)/\
 ∃j,(a=some j)/\
 ae vV (qe 3 (j.add 2) d) A fun _ h8=>
 R (.tuple #[]) h8)
 (fun x=>
 ∃q,(a=some q)/\
 ∃o:Bool,cellOf t (q.add 4)=some (vP o)/\
 Br o
 (∃c,(a=some c)/\
 ∃l,cellOf t (c.add 3)=some (vL vR l)/\
 ∃m,(a=some m)/\
 ae vV (qe 3 (m.add 3) (qc vR (l+1))) t fun _ D=>
 x () D)
 (x () t)))
theorem uX(a:aK)(b:@nV R h a):ab vV 257 #[a] h R:=aq af func257 (an.tn (an.tn (an.tn (an.tn (.two (.join [] [(33,44)] .n) .n))))) b
def mj(a:Nat):Prop:=
 R (vP ((FloatKind.format .f64).order a a !=some .eq)) h
theorem su(a:Nat)(b:@mj R h a):ab vV 259 #[(.float .f64 a)] h R:=aq af func259 .n b
def fu(a:Sl)(l:Int)(o:Int)(c:dl):Prop:=
 aS (σ:=Int) (fun n r t=>
 Br (n<o)
 (aS (σ:=Int) (fun b w f=>
 aV (σ:=Unit) (fun _ p=>
 ∃a9,(a.ptr=some a9/\0<=(qc vR (b-1))/\(qc vR (b-1))<(a.len:Int))/\
 ∃j:gD,ah p (a9.add ((qc vR (b-1)).toNat*4)) 0 j/\
 ∃g,(a.ptr=some g/\0<=b/\b<(a.len:Int))/\
 ∃k:gD,ah p (g.add (b.toNat*4)) 0 k/\
 ∃e,(a.ptr=some e/\0<=b/\b<(a.len:Int))/\
 ae vV (qe 123 (e.add (b.toNat*4)) j) p fun _ s=>
 (ar.ok [] s)/\
 ∃m,(a.ptr=some m/\0<=(qc vR (b-1))/\(qc vR (b-1))<(a.len:Int))/\
 ae vV (qe 123 (m.add ((qc vR (b-1)).toNat*4)) k) s fun _ q=>
 (ar.ok [] q)/\
 w (qc vR (b-1)) q)
 (fun v=>
 Br (b>l) (∃a3,(a.ptr=some a3/\0<=b/\b<(a.len:Int))/\
 ∃i:gD,ah f (a3.add (b.toNat*4)) 0 i/\
 ∃a5,(a.ptr=some a5/\0<=(qc vR (b-1))/\(qc vR (b-1))<(a.len:Int))/\
 ∃d:gD,ah f (a5.add ((qc vR (b-1)).toNat*4)) 0 d/\
 iJ C c.1 (c.2.1.toList++[(vQ #[i.1,i.2.1,i.2.2.1,i.2.2.2]),(vQ #[d.1,d.2.1,d.2.2.1,d.2.2.2])]++c.2.2.toList) bo f fun u h3=>
 (ar.ok [] h3)/\
 Br (u<0)
 (v () h3)
 (r (qc vR (n+1)) h3)) ((ar.ok [] f)/\
 r (qc vR (n+1)) f))) n t)
 (R (.tuple #[]) t)) (qc vR (l+1)) h
theorem iD(b:Sl)(d:Int)(c:Int)(a:dl)(e:@fu R h b d c a):ab vV 260 #[b,d,c,(.func (.func a.1) a.2.1 a.2.2)] h R:=aq af func260 (an.tn (.inn (.loop [(8,be)] [(8,10),(12,53)] (an.tn (.two (.inn (an.tn (.inn (.loop [(9,be)] [(9,10),(18,53)] (.two (.join [] [(18,35)] .n) .n))))) .n))))) e
def Ee(b:aK)(a:Sl):Prop:=
 ac vV 297 #[b,a] aN h fun d c=>
 R (vL vR (d.len:Int)) c
theorem Jr(b:aK)(a:Sl)(c:@Ee R h b a):ab vV 269 #[b,a] h R:=aq af func269 .n c
def sv(f:aK)(b:Int)(a:Int):Prop:=
 aV (σ:=Unit) (fun _ l=>
 ac vV 336 #[f] kb l fun g c=>
 ∃a3,(g=some a3)/\
 (0<=b/\b<((256:Nat):Int))/\
 ∃e,cellOf c ((a3.add 255).add (b.toNat*1))=some (vL vR e)/\
 ∃a5,(g=some a5)/\
 (0<=a/\a<((256:Nat):Int))/\
 ∃d,cellOf c ((a5.add 255).add (a.toNat*1))=some (vL vR d)/\
 ((255:Int)≠0)/\
 ∃i,(g=some i)/\
 (0<=(zQ (qc vR (e+d)) 255)/\(zQ (qc vR (e+d)) 255)<((255:Nat):Int))/\
 ∃j:Int,cellOf c (i.add ((zQ (qc vR (e+d)) 255).toNat*1))=some (vL vS j)/\
 R (vL vS j) c)
 (fun k=>
 Br (b==0) (R (vL vS 0) h) (Br (a==0)
 (R (vL vS 0) h)
 (k () h)))
theorem CB(c:aK)(b:Int)(a:Int)(d:@sv R h c b a):ab vV 286 #[c,(vL vS b),(vL vS a)] h R:=aq af func286 (an.tn (.two (.join [] [(6,7),(8,14)] .n) .n)) d
def pf(a:Sl)(b:Int):Prop:=
 aV (σ:=Unit) (fun _ j=>
 aS (σ:=Int) (fun c i d=>
 Br (c<(a.len:Int))
 (∃a5,(a.ptr=some a5/\0<=c/\c<(a.len:Int))/\
 ∃e,cellOf d (a5.add (c.toNat*1))=some (vL vR e)/\
 Br (e>b)
 (R (qc vR (c+1)) d)
 (i (qc vR (c+1)) d))
 (R (vL vR 0) d)) (0:Int) j)
 (fun g=>
 Br ((a.len:Int)==0) (R (vL vR 0) h) (Br (b<0) (R (vL vR 0) h) (∃f,(a.ptr=some f/\0<=(qc vR ((a.len:Int)-1))/\(qc vR ((a.len:Int)-1))<(a.len:Int))/\
 ∃x2:Int,cellOf h (f.add ((qc vR ((a.len:Int)-1)).toNat*1))=some (vL vR x2)/\
 Br (b>=x2)
 (R (vL vR 0) h)
 (g () h))))
theorem xO(a:Sl)(b:Int)(c:@pf R h a b):ab vV 287 #[a,b] h R:=aq af func287 (an.tn (.two (.join [] [(4,5),(7,24)] .n) (.two (an.tn (.inn (.loop [(26,be)] [(4,7),(26,37)] .n))) .n))) c
def nW(b:aK)(a:Int):Prop:=
 aV (σ:=Unit) (fun _ e=>
 ac vV 224 #[b] (.one (.sc (.int .u32))) e fun f c=>
 ((qc vU a)≠0)/\
 R (qc vR (zQ (qc vU f) (qc vU a))) c)
 (fun d=>
 Br (Option.isNone b) (R (vL vR 0) h) (Br (a<=0)
 (R (vL vR 0) h)
 (d () h)))
theorem uY(b:aK)(a:Int)(c:@nW R h b a):ab vV 288 #[b,a] h R:=aq af func288 (an.tn (.two (.join [] [(4,11)] .n) .n)) c
def ph(a:Int)(b:Int):Prop:=
 ac vV 337 #[a] bo h fun c i=>
 (a≠0)/\
 aV (σ:=Int) (fun e d=>
 aV (σ:=Int) (fun l j=>
 R l j)
 (fun f=>
 (c≠0)/\
 Br (b<(qc vR (wQ a c)))
 (((qc vR (a*b))≠0)/\
 f (qc vR (e+(qc vR (wQ (qc vR (1048576*c)) (qc vR (a*b)))))) d)
 (Br (b==(qc vR (wQ a c)))
 (ac vV 104 #[(vL vU (qc vU c))] bo d fun k h3=>
 (a≠0)/\
 f (qc vR (e+(qc vR (wQ (qc vR ((qc vR (1048576*c))*k)) a)))) h3)
 (f e d))))
 (fun g=>
 Br (b>1)
 (((qc vR (b*(qc vR (b-1))))≠0)/\
 g (qc vR (wQ 1048576 (qc vR (b*(qc vR (b-1)))))) i)
 (g (qc vR (wQ 1048576 a)) i))
theorem xP(a:Int)(b:Int)(c:@ph R h a b):ab vV 289 #[a,b] h R:=aq af func289 (an.tn (an.tn (an.tn (.two (.join [(6,be)] [(6,7),(12,19)] .n) (.two (.join [(6,be)] [(6,8),(19,48)] .n) .n))))) c
def fj(a:Sl)(l:Int)(o:Int)(c:dl):Prop:=
 aS (σ:=Int) (fun n r t=>
 Br (n<o)
 (aS (σ:=Int) (fun b w g=>
 aV (σ:=Unit) (fun _ p=>
 ∃a9,(a.ptr=some a9/\0<=(qc vR (b-1))/\(qc vR (b-1))<(a.len:Int))/\
 ∃j:cH,ah p (a9.add ((qc vR (b-1)).toNat*8)) 0 j/\
 ∃i,(a.ptr=some i/\0<=b/\b<(a.len:Int))/\
 ∃k:cH,ah p (i.add (b.toNat*8)) 0 k/\
 ∃f,(a.ptr=some f/\0<=b/\b<(a.len:Int))/\
 ae vV (qe 49 (f.add (b.toNat*8)) j) p fun _ s=>
 (ar.ok [] s)/\
 ∃m,(a.ptr=some m/\0<=(qc vR (b-1))/\(qc vR (b-1))<(a.len:Int))/\
 ae vV (qe 49 (m.add ((qc vR (b-1)).toNat*8)) k) s fun _ q=>
 (ar.ok [] q)/\
 w (qc vR (b-1)) q)
 (fun v=>
 Br (b>l) (∃a3,(a.ptr=some a3/\0<=b/\b<(a.len:Int))/\
 ∃e:cH,ah g (a3.add (b.toNat*8)) 0 e/\
 ∃a5,(a.ptr=some a5/\0<=(qc vR (b-1))/\(qc vR (b-1))<(a.len:Int))/\
 ∃d:cH,ah g (a5.add ((qc vR (b-1)).toNat*8)) 0 d/\
 iJ C c.1 (c.2.1.toList++[(vQ #[e.1,e.2.1,e.2.2.1,e.2.2.2.1,e.2.2.2.2.1,e.2.2.2.2.2.1,(vL vT e.2.2.2.2.2.2.1),e.2.2.2.2.2.2.2]),(vQ #[d.1,d.2.1,d.2.2.1,d.2.2.2.1,d.2.2.2.2.1,d.2.2.2.2.2.1,(vL vT d.2.2.2.2.2.2.1),d.2.2.2.2.2.2.2])]++c.2.2.toList) bo g fun u h3=>
 (ar.ok [] h3)/\
 Br (u<0)
 (v () h3)
 (r (qc vR (n+1)) h3)) ((ar.ok [] g)/\
 r (qc vR (n+1)) g))) n t)
 (R (.tuple #[]) t)) (qc vR (l+1)) h
theorem iB(b:Sl)(d:Int)(c:Int)(a:dl)(e:@fj R h b d c a):ab vV 290 #[b,d,c,(.func (.func a.1) a.2.1 a.2.2)] h R:=aq af func290 (an.tn (.inn (.loop [(8,be)] [(8,10),(12,53)] (an.tn (.two (.inn (an.tn (.inn (.loop [(9,be)] [(9,10),(18,53)] (.two (.join [] [(18,35)] .n) .n))))) .n))))) e
def fT(a:Sl)(d:Int)(e:Int)(f:Int)(b:dl):Prop:=
 Br ((qc vR (e-d))==1)
 (aS (σ:=Int×Int) (fun n Y L=>
 Br (n.1<n.2)
 ((0<=(1:Int))/\
 ∃X,(a.ptr=some X/\0<=(qc vR (qD (qc vU (qc vR (n.1+n.2))) (2^min (1:Int).toNat (qf vU))))/\(qc vR (qD (qc vU (qc vR (n.1+n.2))) (2^min (1:Int).toNat (qf vU))))<(a.len:Int))/\
 ∃x3:cH,ah L (X.add ((qc vR (qD (qc vU (qc vR (n.1+n.2))) (2^min (1:Int).toNat (qf vU)))).toNat*8)) 0 x3/\
 ∃a4,(a.ptr=some a4/\0<=d/\d<(a.len:Int))/\
 ∃q:cH,ah L (a4.add (d.toNat*8)) 0 q/\
 iJ C b.1 (b.2.1.toList++[(vQ #[x3.1,x3.2.1,x3.2.2.1,x3.2.2.2.1,x3.2.2.2.2.1,x3.2.2.2.2.2.1,(vL vT x3.2.2.2.2.2.2.1),x3.2.2.2.2.2.2.2]),(vQ #[q.1,q.2.1,q.2.2.1,q.2.2.2.1,q.2.2.2.2.1,q.2.2.2.2.2.1,(vL vT q.2.2.2.2.2.2.1),q.2.2.2.2.2.2.2])]++b.2.2.toList) bo L fun r6 S=>
 (ar.ok [] S)/\
 Br (r6<0)
 (Y (qc vR ((qc vR (qD (qc vU (qc vR (n.1+n.2))) (2^min (1:Int).toNat (qf vU))))+1),n.2) S)
 (Y (n.1,qc vR (qD (qc vU (qc vR (n.1+n.2))) (2^min (1:Int).toNat (qf vU)))) S))
 (aS (σ:=Int) (fun o K2 h3=>
 Br (o<(qc vR (n.1-1)))
 (∃a8,(a.ptr=some a8/\0<=(qc vR (o+1))/\(qc vR (o+1))<(a.len:Int))/\
 ∃x9:cH,ah h3 (a8.add ((qc vR (o+1)).toNat*8)) 0 x9/\
 ∃B,(a.ptr=some B/\0<=o/\o<(a.len:Int))/\
 ∃D:cH,ah h3 (B.add (o.toNat*8)) 0 D/\
 ∃J,(a.ptr=some J/\0<=o/\o<(a.len:Int))/\
 ae vV (qe 49 (J.add (o.toNat*8)) x9) h3 fun _ h4=>
 (ar.ok [] h4)/\
 ∃v,(a.ptr=some v/\0<=(qc vR (o+1))/\(qc vR (o+1))<(a.len:Int))/\
 ae vV (qe 49 (v.add ((qc vR (o+1)).toNat*8)) D) h4 fun _ h5=>
 (ar.ok [] h5)/\
 K2 (qc vR (o+1)) h5)
 (R (.tuple #[]) h3)) d L)) (e,f) h)
 (Br ((qc vR (f-e))==1)
 (aS (σ:=Int×Int) (fun g K3 K=>
 Br (g.1<g.2)
 ((0<=(1:Int))/\
 ∃F,(a.ptr=some F/\0<=e/\e<(a.len:Int))/\
 ∃l:cH,ah K (F.add (e.toNat*8)) 0 l/\
 ∃A,(a.ptr=some A/\0<=(qc vR (qD (qc vU (qc vR (g.1+g.2))) (2^min (1:Int).toNat (qf vU))))/\(qc vR (qD (qc vU (qc vR (g.1+g.2))) (2^min (1:Int).toNat (qf vU))))<(a.len:Int))/\
 ∃j:cH,ah K (A.add ((qc vR (qD (qc vU (qc vR (g.1+g.2))) (2^min (1:Int).toNat (qf vU)))).toNat*8)) 0 j/\
 iJ C b.1 (b.2.1.toList++[(vQ #[l.1,l.2.1,l.2.2.1,l.2.2.2.1,l.2.2.2.2.1,l.2.2.2.2.2.1,(vL vT l.2.2.2.2.2.2.1),l.2.2.2.2.2.2.2]),(vQ #[j.1,j.2.1,j.2.2.1,j.2.2.2.1,j.2.2.2.2.1,j.2.2.2.2.2.1,(vL vT j.2.2.2.2.2.2.1),j.2.2.2.2.2.2.2])]++b.2.2.toList) bo K fun U V=>
 (ar.ok [] V)/\
 Br (!(decide (U<0)))
 (K3 (qc vR ((qc vR (qD (qc vU (qc vR (g.1+g.2))) (2^min (1:Int).toNat (qf vU))))+1),g.2) V)
 (K3 (g.1,qc vR (qD (qc vU (qc vR (g.1+g.2))) (2^min (1:Int).toNat (qf vU)))) V))
 (aS (σ:=Int) (fun i K4 h8=>
 Br (i>g.1)
 (∃x,(a.ptr=some x/\0<=(qc vR (i-1))/\(qc vR (i-1))<(a.len:Int))/\
 ∃G:cH,ah h8 (x.add ((qc vR (i-1)).toNat*8)) 0 G/\
 ∃y,(a.ptr=some y/\0<=i/\i<(a.len:Int))/\
 ∃E:cH,ah h8 (y.add (i.toNat*8)) 0 E/\
 ∃a25,(a.ptr=some a25/\0<=i/\i<(a.len:Int))/\
 ae vV (qe 49 (a25.add (i.toNat*8)) G) h8 fun _ Z=>
 (ar.ok [] Z)/\
 ∃H,(a.ptr=some H/\0<=(qc vR (i-1))/\(qc vR (i-1))<(a.len:Int))/\
 ae vV (qe 49 (H.add ((qc vR (i-1)).toNat*8)) E) Z fun _ u=>
 (ar.ok [] u)/\
 K4 (qc vR (i-1)) u)
 (R (.tuple #[]) h8)) e K)) (d,e) h)
 ((0<=(1:Int))/\
 aV (σ:=Int×Int) (fun I O=>
 aS (σ:=Int×Int) (fun c K6 p=>
 Br (c.1<c.2)
 ((0<=(1:Int))/\
 ∃w,(a.ptr=some w/\0<=(qc vR ((qc vR ((qc vR ((qc vR (qD (qc vU (qc vR (d+f))) (2^min (1:Int).toNat (qf vU))))+e))-1))-(qc vR (qD (qc vU (qc vR (c.1+c.2))) (2^min (1:Int).toNat (qf vU))))))/\(qc vR ((qc vR ((qc vR ((qc vR (qD (qc vU (qc vR (d+f))) (2^min (1:Int).toNat (qf vU))))+e))-1))-(qc vR (qD (qc vU (qc vR (c.1+c.2))) (2^min (1:Int).toNat (qf vU))))))<(a.len:Int))/\
 ∃k:cH,ah p (w.add ((qc vR ((qc vR ((qc vR ((qc vR (qD (qc vU (qc vR (d+f))) (2^min (1:Int).toNat (qf vU))))+e))-1))-(qc vR (qD (qc vU (qc vR (c.1+c.2))) (2^min (1:Int).toNat (qf vU)))))).toNat*8)) 0 k/\
 ∃z,(a.ptr=some z/\0<=(qc vR (qD (qc vU (qc vR (c.1+c.2))) (2^min (1:Int).toNat (qf vU))))/\(qc vR (qD (qc vU (qc vR (c.1+c.2))) (2^min (1:Int).toNat (qf vU))))<(a.len:Int))/\
 ∃m:cH,ah p (z.add ((qc vR (qD (qc vU (qc vR (c.1+c.2))) (2^min (1:Int).toNat (qf vU)))).toNat*8)) 0 m/\
 iJ C b.1 (b.2.1.toList++[(vQ #[k.1,k.2.1,k.2.2.1,k.2.2.2.1,k.2.2.2.2.1,k.2.2.2.2.2.1,(vL vT k.2.2.2.2.2.2.1),k.2.2.2.2.2.2.2]),(vQ #[m.1,m.2.1,m.2.2.1,m.2.2.2.1,m.2.2.2.2.1,m.2.2.2.2.2.1,(vL vT m.2.2.2.2.2.2.1),m.2.2.2.2.2.2.2])]++b.2.2.toList) bo p fun T r=>
 (ar.ok [] r)/\
 Br (!(decide (T<0)))
 (K6 (qc vR ((qc vR (qD (qc vU (qc vR (c.1+c.2))) (2^min (1:Int).toNat (qf vU))))+1),c.2) r)
 (K6 (c.1,qc vR (qD (qc vU (qc vR (c.1+c.2))) (2^min (1:Int).toNat (qf vU)))) r))
 (aV (σ:=Unit) (fun _ t=>
 aV (σ:=Unit) (fun _ s=>
 Br (decide ((qc vR (qD (qc vU (qc vR (d+f))) (2^min (1:Int).toNat (qf vU))))<(qc vR ((qc vR ((qc vR (qD (qc vU (qc vR (d+f))) (2^min (1:Int).toNat (qf vU))))+e))-c.1)))) (Br (decide ((qc vR ((qc vR ((qc vR (qD (qc vU (qc vR (d+f))) (2^min (1:Int).toNat (qf vU))))+e))-c.1))<f))
 (ac vV 291 #[a,(qc vR (qD (qc vU (qc vR (d+f))) (2^min (1:Int).toNat (qf vU)))),(qc vR ((qc vR ((qc vR (qD (qc vU (qc vR (d+f))) (2^min (1:Int).toNat (qf vU))))+e))-c.1)),f,(.func (.func b.1) b.2.1 b.2.2)] iG s fun _ M=>
 R (.tuple #[]) M)
 (R (.tuple #[]) s)) (R (.tuple #[]) s))
 (fun W=>
 Br (d<c.1) (Br (decide (c.1<(qc vR (qD (qc vU (qc vR (d+f))) (2^min (1:Int).toNat (qf vU))))))
 (ac vV 291 #[a,d,c.1,(qc vR (qD (qc vU (qc vR (d+f))) (2^min (1:Int).toNat (qf vU)))),(.func (.func b.1) b.2.1 b.2.2)] iG t fun _ P=>
 W () P)
 (W () t)) (W () t)))
 (fun Q=>
 Br (c.1<e) (Br (decide (e<(qc vR ((qc vR ((qc vR (qD (qc vU (qc vR (d+f))) (2^min (1:Int).toNat (qf vU))))+e))-c.1))))
 (ac vV 338 #[a,c.1,e,(qc vR ((qc vR ((qc vR (qD (qc vU (qc vR (d+f))) (2^min (1:Int).toNat (qf vU))))+e))-c.1)),(.func (.func b.1) b.2.1 b.2.2)] iG p fun _ N=>
 Q () N)
 (Q () p)) (Q () p)))) (I.1,I.2) O)
 (fun K5=>
 Br (decide (e>(qc vR (qD (qc vU (qc vR (d+f))) (2^min (1:Int).toNat (qf vU))))))
 (K5 (qc vR ((qc vR ((qc vR (qD (qc vU (qc vR (d+f))) (2^min (1:Int).toNat (qf vU))))+e))-f),qc vR (qD (qc vU (qc vR (d+f))) (2^min (1:Int).toNat (qf vU)))) h)
 (K5 (d,e) h))))
theorem jw(b:Sl)(e:Int)(c:Int)(d:Int)(a:dl)(f:@fT R h b e c d a):ab vV 291 #[b,e,c,d,(.func (.func a.1) a.2.1 a.2.2)] h R:=aq af func291 (.two (an.tn (.two (an.tn (an.tn (.two (.inn (.loop [(10,be),(11,be)] [(10,13),(31,54)] .n)) (.two (an.tn (.inn (.loop [(13,be)] [(13,14),(55,77)] .n))) .n)))) .n)) (.two (an.tn (.two (an.tn (an.tn (.two (.inn (.loop [(14,be),(15,be)] [(14,17),(83,107)] .n)) (.two (an.tn (.inn (.loop [(17,be)] [(17,18),(108,129)] .n))) .n)))) .n)) (an.tn (an.tn (an.tn (.two (.join [(20,be),(21,be)] [(20,22),(138,147)] .n) (an.tn (.two (.inn (.loop [(20,be),(21,be)] [(20,22),(23,24),(149,175)] .n)) (an.tn (.two (.join [] [(178,192)] .n) (.two (.join [] [(192,206)] .n) .n))))))))))) f
def Ef(b:Int)(a:Int):Prop:=
 aV (σ:=Unit) (fun _ f=>
 aw vV (zA 31 b b) aN f fun c d=>
 ∃a3,(c.ptr=some a3/\0<=a/\a<(c.len:Int))/\
 ae vV (qe 5 (a3.add (a.toNat*1)) (vL vS 1)) d fun _ h3=>
 R c h3)
 (fun e=>
 Br (b<1) (R (vM none 0 0) h) (Br (b>64) (R (vM none 0 0) h) (Br (a<0) (R (vM none 0 0) h) (Br (a>=b)
 (R (vM none 0 0) h)
 (e () h)))))
theorem Js(b:Int)(a:Int)(c:@Ef R h b a):ab vV 294 #[b,a] h R:=aq af func294 (an.tn (.two (.join [] [(4,5),(6,21)] .n) .n)) c
def sw(c:aK)(a:Int):Prop:=
 ((255:Int)≠0)/\
 aV (σ:=Int) (fun b g=>
 ac vV 336 #[c] kb g fun i d=>
 ∃a3,(i=some a3)/\
 (0<=b/\b<((255:Nat):Int))/\
 ∃f,cellOf d (a3.add (b.toNat*1))=some (vL vS f)/\
 R (vL vS f) d)
 (fun e=>
 Br ((zQ a 255)<0)
 (e (qc vR ((zQ a 255)+255)) h)
 (e (zQ a 255) h))
theorem CC(b:aK)(a:Int)(c:@sw R h b a):ab vV 295 #[b,a] h R:=aq af func295 (an.tn (an.tn (.two (.join [(1,be)] [(1,2),(7,11)] .n) .n))) c
def xQ(c:aK)(a:Sl):Prop:=
 ac vV 247 #[a] bU h fun k e=>
 Br (!k)
 (R (vM none 0 0) e)
 (ac vV 249 #[a] aN e fun b f=>
 ac vV 251 #[c] kb f fun i h3=>
 ac vV 248 #[b] bo h3 fun j g=>
 ac vV 250 #[i,b,j] bo g fun d l=>
 (0<=d/\d<=(b.cap:Int))/\
 R (vM b.ptr d.toNat b.cap) l)
theorem FC(b:aK)(a:Sl)(c:@xQ R h b a):ab vV 297 #[b,a] h R:=aq af func297 .n c
def xR(b:Sl)(c:Int)(a:Int):Prop:=
 aS (σ:=Int) (fun d i e=>
 Br (d>=(b.len:Int))
 (R (vL vR (-1:Int)) e)
 (∃g,(b.ptr=some g/\0<=d/\d<(b.len:Int))/\
 ∃x3:Sl,cellOf e (g.add (d.toNat*1))=some (x3:Value)/\
 ∃a4,(x3.ptr=some a4/\0<=a/\a<(x3.len:Int))/\
 ∃f,cellOf e (a4.add (a.toNat*1))=some (vL vS f)/\
 Br (f !=0)
 (R d e)
 (i (qc vR (d+1)) e))) c h
theorem FD(c:Sl)(a:Int)(b:Int)(d:@xR R h c a b):ab vV 307 #[c,a,b] h R:=aq af func307 (an.tn (.scope 0 [(7,be)] [(6,8),(9,24)] [.n] [.n] [(1,[.n])])) d
def BG(c:aK)(d:Int)(a:Sl):Prop:=
 ac vV 348 #[c] kb h fun m l=>
 aw vV (zA 31 (vL vR (a.len:Int)) (vL vR (a.len:Int))) aN l fun e i=>
 aS (σ:=Int) (fun b j h3=>
 Br (b<(a.len:Int))
 (∃a4,(a.ptr=some a4/\0<=b/\b<(a.len:Int))/\
 ∃g,cellOf h3 (a4.add (b.toNat*1))=some (vL vS g)/\
 ac vV 286 #[m,(vL vS d),(vL vS g)] (.one (.sc (.int .u8))) h3 fun o k=>
 ∃f,(e.ptr=some f/\0<=b/\b<(e.len:Int))/\
 ae vV (qe 5 (f.add (b.toNat*1)) (vL vS o)) k fun _ n=>
 j (qc vR (b+1)) n)
 (R e h3)) (0:Int) i
theorem Hv(c:aK)(b:Int)(a:Sl)(d:@BG R h c b a):ab vV 308 #[c,(vL vS b),a] h R:=aq af func308 (an.tn (an.tn (an.tn (.two (an.tn (.inn (.loop [(17,be)] [(8,10),(17,30)] .n))) .n)))) d
def sA(b:aK)(a:Int):Prop:=
 Br (a==0)
 (R (vL vS 0) h)
 (ac vV 336 #[b] kb h fun e c=>
 ∃f,(e=some f)/\
 (0<=a/\a<((256:Nat):Int))/\
 ∃x3,cellOf c ((f.add 255).add (a.toNat*1))=some (vL vR x3)/\
 ((255:Int)≠0)/\
 ∃a4,(e=some a4)/\
 (0<=(zQ (qc vR (255-x3)) 255)/\(zQ (qc vR (255-x3)) 255)<((255:Nat):Int))/\
 ∃d:Int,cellOf c (a4.add ((zQ (qc vR (255-x3)) 255).toNat*1))=some (vL vS d)/\
 R (vL vS d) c)
theorem CD(b:aK)(a:Int)(c:@sA R h b a):ab vV 309 #[b,(vL vS a)] h R:=aq af func309 .n c
def GC(f:aK)(d:Int)(c:Sl)(a:Sl):Prop:=
 Br (d==0)
 (R (.tuple #[]) h)
 (aS (σ:=Int) (fun b l e=>
 Br (b<(c.len:Int))
 (∃k,(c.ptr=some k/\0<=b/\b<(c.len:Int))/\
 ∃x3,cellOf e (k.add (b.toNat*1))=some (vL vS x3)/\
 ∃a4,(a.ptr=some a4/\0<=b/\b<(a.len:Int))/\
 ∃g,cellOf e (a4.add (b.toNat*1))=some (vL vS g)/\
 ac vV 286 #[f,(vL vS d),(vL vS x3)] (.one (.sc (.int .u8))) e fun m i=>
 (ar.ok [(a4.add (b.toNat*1),(vL vS g))] i)/\
 ∃j,(a.ptr=some j/\0<=b/\b<(a.len:Int))/\
 ae vV (qe 5 (j.add (b.toNat*1)) (vL vS (qc vS ((qq (qf vS) g^^^(qq (qf vS) m)).toNat:Nat)))) i fun _ h3=>
 (ar.ok [] h3)/\
 l (qc vR (b+1)) h3)
 (R (.tuple #[]) e)) (0:Int) h)
theorem KT(b:aK)(d:Int)(c:Sl)(a:Sl)(e:@GC R h b d c a):ab vV 310 #[b,(vL vS d),c,a] h R:=aq af func310 (an.tn (an.tn (.inn (.loop [(14,be)] [(8,10),(14,30)] .n)))) e
end
end Go.Qw
