/- Lemmas for the proof of the law; no condition. -/
import Derived.Test.YtnjommcknbionaaGreatDoorTabA
set_option linter.unusedVariables false
open Go.Proofs.Tryz renaming prog -> vV
open Go.Instr renaming alloc -> qJ, box -> qI, buildSlice -> qu, makeSlice -> zA, storeAt -> qe
open Go.Value renaming agg -> vQ, bool -> vP, int -> vL, pointer -> vN, slice -> vM, string -> vO
open Go.IntKind renaming bits -> qf, i64 -> vR, u32 -> vT, u64 -> vU, u8 -> vS, wrap -> qc
open Option renaming isNone -> qS
open Go.Builtin renaming append_ -> qx, copy_ -> wq
open Int renaming fdiv -> qD, tmod -> zQ
open BitVec renaming ofInt -> qq
open Go.Proofs.Tryz
set_option maxRecDepth 1000000
namespace Go.Qw
noncomputable section
open Go Go.Vc Go.Proofs
variable {R:wt} {h:Heap}
def rE(a:aK)(c:db)(b:Int):Prop:=
 aL vV (qI 88 c) h fun p g=>
 aV (σ:=Unit) (fun _ h3=>
 ac vV 11 #[a] bo h3 fun j q=>
 ac vV 116 #[a,j,b] bU q fun m d=>
 Br m (R true d) (∃e:db,ah d p 0 e/\
 ac vV 118 #[a,e] aN d fun l i=>
 ac vV 116 #[a,(vL vR (l.len:Int)),b] bU i fun n r=>
 R n r))
 (fun k=>
 Br (qS a) (R false g) (ac vV 112 #[a] bU g fun o f=>
 Br o
 (R false f)
 (k () f)))
theorem uA(a:aK)(c:db)(b:Int)(d:@rE R h a c b):ab vV 115 #[a,c,b] h R:=aq af func115 (an.tn (.two (.join [] [(6,13)] .n) .n)) d
def uB(c:aK)(a:Int)(b:Int):Prop:=
 ac vV 187 #[c] bo h fun e d=>
 R (decide ((if(0:Int)>b then(0:Int)else b)<=(qc vR (e-a)))) d
theorem DK(b:aK)(a:Int)(c:Int)(d:@uB R h b a c):ab vV 116 #[b,a,c] h R:=aq af func116 .n d
def kX(a:aK)(b:Sl):Prop:=
 aS (σ:=Int) (fun i E c=>
 Br (i<(b.len:Int))
 (∃v,(b.ptr=some v/\0<=i/\i<(b.len:Int))/\
 ∃x3:Sl,cellOf c (v.add (i.toNat*1))=some (x3:Value)/\
 Br ((x3.len:Int) !=64)
 (R (vL vR 1) c)
 (E (qc vR (i+1)) c))
 (aV (σ:=Unit) (fun _ A=>
 ∃f,(a=some f)/\
 ∃e:aK,cellOf A f=some (.pointer e)/\
 ac vV 132 #[e] bU A fun s z=>
 Br (!s)
 (ac vV 188 #[b] aN z fun r D=>
 ∃j,(a=some j)/\
 ae vV (qe 72 (j.add 4) r) D fun _ H=>
 ∃d,(a=some d)/\
 ae vV (qe 4 (d.add 5) true) H fun _ h8=>
 R (vL vR 14) h8)
 (ac vV 188 #[b] aN z fun u F=>
 ∃m,(a=some m)/\
 ae vV (qe 72 (m.add 2) u) F fun _ o=>
 ∃g,(a=some g)/\
 ae vV (qe 3 (g.add 3) (vL vR 0)) o fun _ p=>
 ac vV 133 #[a] bo p fun q t=>
 R q t))
 (fun G=>
 aV (σ:=Bool) (fun I k=>
 Br I
 (R (vL vR 5) k)
 (∃w,(a=some w)/\
 ∃B,cellOf k (w.add 1)=some (vL vR B)/\
 Br ((b.len:Int)>B)
 (R (vL vR 7) k)
 (∃a9,(a=some a9)/\
 ∃l:aK,cellOf k a9=some (.pointer l)/\
 ac vV 69 #[l] bU k fun n h3=>
 Br (!n)
 (R (vL vR 14) h3)
 (G () h3))))
 (fun x=>
 Br (qS a) (x true c) (∃a4,(a=some a4)/\
 ∃y:Bool,cellOf c (a4.add 6)=some (vP y)/\
 x y c))))) (0:Int) h
theorem pH(a:aK)(b:Sl)(c:@kX R h a b):ab vV 117 #[a,b] h R:=aq af func117 (an.tn (.two (an.tn (.inn (.loop [(9,be)] [(4,5),(6,7),(9,17)] .n))) (.two (.join [] [(4,5),(17,41)] (.inn (.two (.join [(17,kc)] [(17,26)] .n) .n))) .n))) c
def Bx(b:aK)(d:db):Prop:=
 aL vV (qI 88 d) h fun a c=>
 ∃x2:db,ah c a 0 x2/\
 ∃x3:db,ah c a 0 x3/\
 ac vV 38 #[x2] aN c fun i e=>
 (ar.ok [(a,x3.1),(a.add 1,x3.2.1),(a.add 2,x3.2.2.1),(a.add 3,x3.2.2.2.1),(a.add 4,x3.2.2.2.2.1),(a.add 5,x3.2.2.2.2.2.1),(a.add 6,x3.2.2.2.2.2.2.1),(a.add 7,x3.2.2.2.2.2.2.2)] e)/\
 ac vV 189 #[b,x3] aN e fun j h3=>
 (ar.ok [] h3)/\
 aw vV (qx #[72,72] 72 #[i,j]) aN h3 fun g f=>
 (ar.ok [] f)/\
 R g f
theorem Hm(a:aK)(b:db)(c:@Bx R h a b):ab vV 118 #[a,b] h R:=aq af func118 .n c
def nT(a:aK):Prop:=
 Br (qS a)
 (R (vM none 0 0) h)
 (∃b,(a=some b)/\
 ∃x2:Sl,cellOf h (b.add 2)=some (x2:Value)/\
 ac vV 188 #[x2] aN h fun c d=>
 R c d)
theorem uW(a:aK)(b:@nT R h a):ab vV 121 #[a] h R:=aq af func121 .n b
def uC(b:Sl)(a:Sl):Prop:=
 aw vV (convert 31 9 b) (.one Vm) h fun e d=>
 aw vV (convert 31 9 a) (.one Vm) d fun f c=>
 R (vP (e.toList==f.toList)) c
theorem DL(b:Sl)(a:Sl)(c:@uC R h b a):ab vV 122 #[b,a] h R:=aq af func122 .n c
def DM(a:Int)(c:Sl):Prop:=
 aV (σ:=Unit) (fun _ o=>
 aw vV (zA 31 (vL vR 64) (vL vR 64)) aN o fun b k=>
 aw vV (qu 31 4 #[(0,(vL vS 87)),(1,(vL vS 115)),(2,(vL vS 1)),(3,(vL vS (qc vS a)))]) aN k fun v3 h3=>
 aw vV (wq #[31,31] 3 #[b,v3]) bo h3 fun _ m=>
 (0<=(4:Int)/\(4:Int)<=(b.len:Int))/\
 aw vV (wq #[31,31] 3 #[(.slice (if b.cap=(4:Int).toNat then b.ptr else b.ptr.map (·.add ((4:Int).toNat*1))) (b.len-(4:Int).toNat) (b.cap-(4:Int).toNat)),c]) bo m fun _ l=>
 (0<=(59:Int)/\(59:Int)<=(b.cap:Int))/\
 ac vV 193 #[(vM b.ptr ((59:Int).toNat) b.cap)] (.one (.sc (.int .u32))) l fun p g=>
 aS (σ:=Int) (fun d n f=>
 Br (d<4)
 ((0<=(qc vR (8*d)))/\
 ∃e,(b.ptr=some e/\0<=(qc vR (59+d))/\(qc vR (59+d))<(b.len:Int))/\
 ae vV (qe 5 (e.add ((qc vR (59+d)).toNat*1)) (vL vS (qc vS (qD p (2^min (qc vR (8*d)).toNat (qf vT)))))) f fun _ h8=>
 n (qc vR (d+1)) h8)
 (∃a9,(b.ptr=some a9/\0<=(63:Int)/\(63:Int)<(b.len:Int))/\
 ae vV (qe 5 (a9.add ((63:Int).toNat*1)) (vL vS 165)) f fun _ j=>
 R b j)) (0:Int) g)
 (fun i=>
 Br (a<1) (R (vM none 0 0) h) (Br (a>255) (R (vM none 0 0) h) (Br ((c.len:Int)>55)
 (R (vM none 0 0) h)
 (i () h))))
theorem Ji(b:Int)(a:Sl)(c:@DM R h b a):ab vV 125 #[b,a] h R:=aq af func125 (an.tn (.two (.join [] [(4,5),(8,19)] .n) (an.tn (an.tn (an.tn (an.tn (.two (an.tn (.inn (.loop [(32,be)] [(7,8),(32,45)] .n))) .n))))))) c
def kY(c:Sl):Prop:=
 aS (σ:=Int×Int) (fun a i e=>
 Br (a.2<(c.len:Int))
 (∃g,(c.ptr=some g/\0<=a.2/\a.2<(c.len:Int))/\
 ∃x3,cellOf e (g.add (a.2.toNat*1))=some (vL vS x3)/\
 aS (σ:=Int×Int) (fun b f d=>
 Br (b.2<8)
 (Br ((qc vT ((qq (qf vT) b.1&&&(qq (qf vT) (1:Int))).toNat:Nat))==1)
 ((0<=(1:Int))/\
 f (qc vT ((qq (qf vT) (qD b.1 (2^min (1:Int).toNat (qf vT)))^^^(qq (qf vT) (3988292384:Int))).toNat:Nat),qc vR (b.2+1)) d)
 ((0<=(1:Int))/\
 f (qD b.1 (2^min (1:Int).toNat (qf vT)),qc vR (b.2+1)) d))
 (i (b.1,qc vR (a.2+1)) d)) (qc vT ((qq (qf vT) a.1^^^(qq (qf vT) (qc vT x3))).toNat:Nat),(0:Int)) e)
 (R (vL vT (qc vT ((qq (qf vT) (4294967295:Int)^^^(qq (qf vT) a.1)).toNat:Nat))) e)) ((4294967295:Int),(0:Int)) h
theorem pI(a:Sl)(b:@kY R h a):ab vV 129 #[a] h R:=aq af func129 (an.tn (an.tn (.two (an.tn (.inn (.loop [(3,(.sc (.int .u32))),(8,be)] [(3,6),(8,31)] (an.tn (an.tn (.two (.inn (an.tn (an.tn (an.tn (.inn (.loop [(3,(.sc (.int .u32))),(5,be)] [(3,4),(5,6),(18,30)] .n)))))) .n)))))) .n))) b
def ki(a:Int):Prop:=
 Br (a>=0) (R (decide (a<=65535)) h) (R false h)
theorem ol(a:Int)(b:@ki R h a):ab vV 130 #[a] h R:=aq af func130 .n b
def uD(a:Sl)(d:Int)(b:Int):Prop:=
 aS (σ:=Sl×Int) (fun c g e=>
 Br (c.2>=0)
 ((0<=(qc vR (8*c.2)))/\
 aw vV (qu 31 1 #[(0,(vL vS (qc vS (qD d (2^min (qc vR (8*c.2)).toNat (qf vR))))))]) aN e fun i f=>
 aw vV (qx #[31,31] 31 #[c.1,i]) aN f fun v3 h3=>
 g ((⟨v3.ptr,v3.len,v3.cap⟩:Sl),qc vR (c.2-1)) h3)
 (R c.1 e)) ((⟨a.ptr,a.len,a.cap⟩:Sl),qc vR (b-1)) h
theorem DN(b:Sl)(c:Int)(a:Int)(d:@uD R h b c a):ab vV 131 #[b,c,a] h R:=aq af func131 (an.tn (.two (an.tn (.inn (.loop [(0,dv),(7,be)] [(0,1),(7,8),(10,22)] .n))) .n)) d
def nz(a:aK):Prop:=
 ac vV 69 #[a] bU h fun n b=>
 Br (!n)
 (R false b)
 (∃l,(a=some l)/\
 ∃x3:Bool,cellOf b (l.add 1)=some (vP x3)/\
 Br (!x3)
 (R true b)
 (∃a4,(a=some a4)/\
 ∃i,cellOf b (a4.add 2)=some (vL vR i)/\
 Br (i==0)
 (∃k,(a=some k)/\
 ae vV (qe 4 k true) b fun _ f=>
 ∃g,(a=some g)/\
 ∃j,cellOf f (g.add 3)=some (vL vR j)/\
 ∃a9,(a=some a9)/\
 ae vV (qe 3 (a9.add 3) (qc vR (j+1))) f fun _ h3=>
 R false h3)
 (∃d,(a=some d)/\
 ∃c,cellOf b (d.add 2)=some (vL vR c)/\
 ∃e,(a=some e)/\
 ae vV (qe 3 (e.add 2) (qc vR (c-1))) b fun _ m=>
 R true m)))
theorem tQ(a:aK)(b:@nz R h a):ab vV 132 #[a] h R:=aq af func132 .n b
def nA(a:aK):Prop:=
 ∃c,(a=some c)/\
 ae vV (qe 72 (c.add 4) (vM none 0 0)) h fun _ e=>
 ∃b,(a=some b)/\
 ae vV (qe 4 (b.add 5) false) e fun _ d=>
 R (vL vR 0) d
theorem tR(a:aK)(b:@nA R h a):ab vV 133 #[a] h R:=aq af func133 .n b
def jF(a:aK):Prop:=
 aV (σ:=Unit) (fun _ e=>
 ∃a4,(a=some a4)/\
 ∃d:aK,cellOf e a4=some (.pointer d)/\
 ac vV 132 #[d] bU e fun k b=>
 Br (!k)
 (R (vL vR 14) b)
 (∃c,(a=some c)/\
 ae vV (qe 3 (c.add 3) (vL vR 0)) b fun _ h3=>
 ac vV 133 #[a] bo h3 fun j g=>
 R j g))
 (fun i=>
 Br (qS a) (R (vL vR 5) h) (∃f,(a=some f)/\
 ∃x2:Bool,cellOf h (f.add 6)=some (vP x2)/\
 Br x2
 (R (vL vR 5) h)
 (i () h)))
theorem lJ(a:aK)(b:@jF R h a):ab vV 135 #[a] h R:=aq af func135 (an.tn (.two (.join [] [(2,11)] .n) .n)) b
def By(e:ByteArray):Prop:=
 aw vV (convert 9 31 e) aN h fun f g=>
 aS (σ:=Int) (fun b d a=>
 Br (b<(f.len:Int))
 (∃a3,(f.ptr=some a3/\0<=b/\b<(f.len:Int))/\
 ∃c,cellOf a (a3.add (b.toNat*1))=some (vL vS c)/\
 Br (c<97) (Br (c<48) (Br (c !=45)
 (R false a)
 (d (qc vR (b+1)) a)) (Br (c>57) (Br (c !=45)
 (R false a)
 (d (qc vR (b+1)) a)) (d (qc vR (b+1)) a))) (Br (c>122) (Br (c<48) (Br (c !=45)
 (R false a)
 (d (qc vR (b+1)) a)) (Br (c>57) (Br (c !=45)
 (R false a)
 (d (qc vR (b+1)) a)) (d (qc vR (b+1)) a))) (d (qc vR (b+1)) a)))
 (Br ((e.size:Int)>=1) (R (decide ((e.size:Int)<=12)) a) (R false a))) (0:Int) g
theorem Hn(a:ByteArray)(b:@By R h a):ab vV 136 #[a] h R:=aq af func136 (an.tn (.two (an.tn (.inn (.loop [(8,be)] [(2,3),(4,5),(8,31)] .n))) .n)) b
def Bz(g:bL)(a:Int)(b:Int):Prop:=
 aL vV (qI 24 g) h fun d j=>
 aS (σ:=Int) (fun c i e=>
 Br (c<16)
 (∃x3:bL,ah e d 0 x3/\
 ac vV 95 #[a,b,c] (.one (.sc (.int .u32))) e fun k h3=>
 (ar.ok [(d,x3.1),(d.add 1,x3.2.1),(d.add 2,x3.2.2)] h3)/\
 ac vV 195 #[x3,(vL vT k)] bU h3 fun l f=>
 (ar.ok [] f)/\
 Br l
 (R (.tuple #[c,true]) f)
 (i (qc vR (c+1)) f))
 (R (.tuple #[(vL vR 0),false]) e)) (0:Int) j
theorem Ho(c:bL)(a:Int)(b:Int)(d:@Bz R h c a b):ab vV 137 #[c,a,b] h R:=aq af func137 (an.tn (.two (an.tn (.inn (.loop [(9,be)] [(6,20)] .n))) .n)) d
def oZ(a:bL):Prop:=
 aL vV (qI 24 a) h fun c b=>
 ∃x2,cellOf b c=some (vL vR x2)/\
 ∃x3,cellOf b (c.add 2)=some (vL vR x3)/\
 R (qc vR (x2*x3)) b
theorem sj(a:bL)(b:@oZ R h a):ab vV 138 #[a] h R:=aq af func138 .n b
def uE(f:bL)(a:Sl):Prop:=
 aL vV (qI 24 f) h fun g l=>
 ∃x2:bL,ah l g 0 x2/\
 ac vV 83 #[x2,(vL vR (a.len:Int))] bo l fun s r=>
 aS (σ:=Sl×Int) (fun b p h3=>
 Br (b.2<s)
 (∃j:bL,ah h3 g 0 j/\
 ac vV 138 #[j] bo h3 fun m t=>
 aw vV (zA 31 m m) aN t fun i k=>
 ∃n:bL,ah k g 0 n/\
 ac vV 138 #[n] bo k fun d o=>
 (0<=(qc vR (b.2*d))/\(qc vR (b.2*d))<=(a.len:Int))/\
 aw vV (wq #[31,31] 3 #[i,(.slice (if a.cap=(qc vR (b.2*d)).toNat then a.ptr else a.ptr.map (·.add ((qc vR (b.2*d)).toNat*1))) (a.len-(qc vR (b.2*d)).toNat) (a.cap-(qc vR (b.2*d)).toNat))]) bo o fun _ u=>
 aw vV (qu 72 1 #[(0,i)]) aN u fun e h8=>
 aw vV (qx #[72,72] 72 #[b.1,e]) aN h8 fun c q=>
 p ((⟨c.ptr,c.len,c.cap⟩:Sl),qc vR (b.2+1)) q)
 (R b.1 h3)) ((⟨none,0,0⟩:Sl),(0:Int)) r
theorem DO(b:bL)(a:Sl)(c:@uE R h b a):ab vV 139 #[b,a] h R:=aq af func139 (an.tn (an.tn (.two (an.tn (.inn (.loop [(5,dv),(12,be)] [(5,8),(12,31)] .n))) .n))) c
def xE(H:bL)(d:Int)(a:Sl):Prop:=
 aL vV (qI 24 H) h fun c Q=>
 aV (σ:=Unit) (fun _ h3=>
 ∃M:bL,ah h3 c 0 M/\
 ac vV 195 #[M,(vL vT d)] bU h3 fun V J=>
 Br (!V)
 (R (.tuple #[(vN none),(vL vR 8)]) J)
 (∃P,cellOf J (c.add 1)=some (vL vR P)/\
 aS (σ:=Sl×Int) (fun g Y y=>
 Br (g.2<P)
 (∃p,cellOf y (c.add 2)=some (vL vR p)/\
 aw vV (zA 31 p p) aN y fun L S=>
 aw vV (qu 72 1 #[(0,L)]) aN S fun B Z=>
 aw vV (qx #[72,72] 72 #[g.1,B]) aN Z fun m h8=>
 Y ((⟨m.ptr,m.len,m.cap⟩:Sl),qc vR (g.2+1)) h8)
 (∃t,cellOf y c=some (vL vR t)/\
 aS (σ:=Sl×Int) (fun b W q=>
 Br (b.2<t)
 (∃f,cellOf q (c.add 2)=some (vL vR f)/\
 ∃j,cellOf q (c.add 2)=some (vL vR j)/\
 (0<=(qc vR (b.2*f))/\(qc vR (b.2*f))<=(qc vR ((qc vR (b.2+1))*j))/\(qc vR ((qc vR (b.2+1))*j))<=(a.cap:Int))/\
 aw vV (qu 72 1 #[(0,(.slice (if a.cap=(qc vR (b.2*f)).toNat then a.ptr else a.ptr.map (·.add ((qc vR (b.2*f)).toNat*1))) ((qc vR ((qc vR (b.2+1))*j)).toNat-(qc vR (b.2*f)).toNat) (a.cap-(qc vR (b.2*f)).toNat)))]) aN q fun I z=>
 aw vV (qx #[72,72] 72 #[b.1,I]) aN z fun o A=>
 W ((⟨o.ptr,o.len,o.cap⟩:Sl),qc vR (b.2+1)) A)
 (aV (σ:=Sl×Int) (fun x n=>
 Br (x.2 !=0)
 (R (.tuple #[(vN none),(vL vR 8)]) n)
 (∃l:bL,ah n c 0 l/\
 aL vV (qI 249 (vQ #[l.1,l.2.1,l.2.2,(vL vT d),x.1])) n fun D G=>
 R (.tuple #[D,(vL vR 0)]) G))
 (fun X=>
 ∃e:bL,ah q c 0 e/\
 ∃i:bL,ah q c 0 i/\
 ac vV 197 #[] kb q fun F v=>
 (ar.ok [(c,i.1),(c.add 1,i.2.1),(c.add 2,i.2.2),(c,e.1),(c.add 1,e.2.1),(c.add 2,e.2.2)] v)/\
 ac vV 199 #[i] aN v fun K s=>
 (ar.ok [(c,e.1),(c.add 1,e.2.1),(c.add 2,e.2.2)] s)/\
 ac vV 198 #[e,(vL vT d),K] aN s fun E r=>
 (ar.ok [] r)/\
 ac vV 196 #[F,E,b.1] (.many [dv,be]) r fun k w=>
 (ar.ok [] w)/\
 X ((⟨k.1.ptr,k.1.len,k.1.cap⟩:Sl),k.2) w))) ((⟨g.1.ptr,g.1.len,g.1.cap⟩:Sl),(0:Int)) y)) ((⟨none,0,0⟩:Sl),(0:Int)) J))
 (fun T=>
 ∃x2:bL,ah Q c 0 x2/\
 ac vV 36 #[x2] bU Q fun U u=>
 Br (!U) (R (.tuple #[(vN none),(vL vR 1)]) u) (∃O,cellOf u c=some (vL vR O)/\
 ∃N,cellOf u (c.add 2)=some (vL vR N)/\
 Br ((a.len:Int) !=(qc vR (O*N)))
 (R (.tuple #[(vN none),(vL vR 1)]) u)
 (T () u)))
theorem Fu(c:bL)(b:Int)(a:Sl)(d:@xE R h c b a):ab vV 140 #[c,(vL vT b),a] h R:=aq af func140 (an.tn (.two (.join [] [(6,8),(12,25)] .n) (an.tn (an.tn (.two (an.tn (.inn (.loop [(8,dv),(31,be)] [(8,9),(31,40)] .n))) (.two (an.tn (.inn (.loop [(8,dv),(42,be)] [(8,10),(42,60)] .n))) (.two (.join [(10,dv),(11,be)] [(10,12),(60,71)] .n) .n))))))) d
def uF(a:Int)(b:Int)(c:Sl):Prop:=
 aV (σ:=Unit) (fun _ L=>
 ((64:Int)≠0)/\
 ac vV 200 #[(zQ (qc vR ((qc vR (8*a))+b)) 64)] (.one (.sc (.cpx .f64))) L fun D I=>
 aL vV (qJ 253 true (.tuple #[])) I fun a3 h3=>
 aS (σ:=Sl×Int) (fun e E l=>
 Br (e.2<(c.len:Int))
 (∃a5,(c.ptr=some a5/\0<=e.2/\e.2<(c.len:Int))/\
 ∃f,cellOf l (a5.add (e.2.toNat*1))=some (vL vR f)/\
 aV (σ:=Bool) (fun K A=>
 Br K
 ((0<=f/\f<((64:Nat):Int))/\
 ae vV (qe 4 (a3.add (f.toNat*1)) true) A fun _ F=>
 ac vV 200 #[f] (.one (.sc (.cpx .f64))) F fun B M=>
 ac vV 201 #[(.complex .f64 B.1 B.2),(.complex .f64 D.1 D.2)] (.one (.sc (.flt .f64))) M fun t h8=>
 aw vV (qu 252 1 #[(0,(vQ #[f,(.float .f64 t)]))]) aN h8 fun r H=>
 aw vV (qx #[252,252] 252 #[e.1,r]) aN H fun k q=>
 E ((⟨k.ptr,k.len,k.cap⟩:Sl),qc vR (e.2+1)) q)
 (E ((⟨e.1.ptr,e.1.len,e.1.cap⟩:Sl),qc vR (e.2+1)) A))
 (fun w=>
 Br (f>=0) (Br (f<64) ((0<=f/\f<((64:Nat):Int))/\
 ∃z:Bool,cellOf l (a3.add (f.toNat*1))=some (vP z)/\
 w (!z) l) (w false l)) (w false l)))
 (ac vV 202 #[e.1,(.func (.func 203) #[] #[])] iG l fun _ s=>
 aS (σ:=Sl×Int) (fun d J j=>
 Br (d.2<(e.1.len:Int))
 (∃p,(e.1.ptr=some p/\0<=d.2/\d.2<(e.1.len:Int))/\
 ∃g:Int×Nat,ah j (p.add (d.2.toNat*2)) 0 [g.1,(.float .f64 g.2)]/\
 aL vV (qJ 257 true (.tuple #[])) j fun o v=>
 ae vV (qe 257 o (vQ #[g.1,(.float .f64 g.2)])) v fun _ n=>
 ∃m,cellOf n o=some (vL vR m)/\
 aw vV (qu 22 1 #[(0,m)]) aN n fun y x=>
 aw vV (qx #[22,22] 22 #[d.1,y]) aN x fun i u=>
 J ((⟨i.ptr,i.len,i.cap⟩:Sl),qc vR (d.2+1)) u)
 (R d.1 j)) ((⟨none,0,0⟩:Sl),(0:Int)) s)) ((⟨none,0,0⟩:Sl),(0:Int)) h3)
 (fun G=>
 Br (a<0) (R (vM none 0 0) h) (Br (a>16777215) (R (vM none 0 0) h) (Br (b<0) (R (vM none 0 0) h) (Br (b>=8)
 (R (vM none 0 0) h)
 (G () h)))))
theorem DP(a:Int)(b:Int)(c:Sl)(d:@uF R h a b c):ab vV 141 #[a,b,c] h R:=aq af func141 (an.tn (.two (.join [] [(6,7),(15,29)] .n) (an.tn (an.tn (an.tn (.two (an.tn (.inn (.loop [(8,dv),(37,be)] [(8,9),(11,12),(37,65)] (an.tn (an.tn (.two (.inn (an.tn (.two (.join [(52,kc)] [(41,53)] .n) .n))) .n)))))) (an.tn (an.tn (.two (an.tn (.inn (.loop [(12,dv),(69,be)] [(12,13),(14,15),(69,79)] .n))) .n))))))))) d
def kZ(c:aK)(b:Int):Prop:=
 aV (σ:=Unit) (fun _ w=>
 ∃u,(c=some u)/\
 ∃x3,cellOf w (u.add 2)=some (vL vR x3)/\
 aw vV (zA 31 x3 x3) aN w fun v4 r=>
 ∃a5,(c=some a5)/\
 ∃t:bL,ah r a5 0 t/\
 ∃v,(c=some v)/\
 ∃x,cellOf r (v.add 3)=some (vL vT x)/\
 ac vV 159 #[t,(vL vT x),b] aN r fun s h3=>
 (ar.ok [] h3)/\
 aS (σ:=Int) (fun d B p=>
 Br (d<(s.len:Int))
 (∃l,(s.ptr=some l/\0<=d/\d<(s.len:Int))/\
 ∃f,cellOf p (l.add (d.toNat*1))=some (vL vR f)/\
 ∃j,(c=some j)/\
 ∃g:Sl,cellOf p (j.add 4)=some (g:Value)/\
 ∃o,(g.ptr=some o/\0<=f/\f<(g.len:Int))/\
 ∃e:Sl,cellOf p (o.add (f.toNat*1))=some (e:Value)/\
 aS (σ:=Int) (fun a A q=>
 Br (a<(e.len:Int))
 (∃i,(e.ptr=some i/\0<=a/\a<(e.len:Int))/\
 ∃m,cellOf q (i.add (a.toNat*1))=some (vL vS m)/\
 ∃n,(v4.ptr=some n/\0<=a/\a<(v4.len:Int))/\
 ∃k,cellOf q (n.add (a.toNat*1))=some (vL vS k)/\
 ∃a22,(v4.ptr=some a22/\0<=a/\a<(v4.len:Int))/\
 ae vV (qe 5 (a22.add (a.toNat*1)) (vL vS (qc vS ((qq (qf vS) k^^^(qq (qf vS) m)).toNat:Nat)))) q fun _ y=>
 A (qc vR (a+1)) y)
 (B (qc vR (d+1)) q)) (0:Int) p)
 (R v4 p)) (0:Int) h3)
 (fun z=>
 Br (qS c) (R (vM none 0 0) h) (Br (b<0) (R (vM none 0 0) h) (Br (b>65535)
 (R (vM none 0 0) h)
 (z () h))))
theorem pJ(b:aK)(a:Int)(c:@kZ R h b a):ab vV 142 #[b,a] h R:=aq af func142 (an.tn (.two (.join [] [(4,5),(10,20)] .n) (an.tn (.two (an.tn (.inn (.loop [(37,be)] [(7,10),(37,63)] (an.tn (an.tn (.two (.inn (an.tn (an.tn (.inn (.loop [(49,be)] [(8,10),(49,62)] .n))))) .n)))))) .n)))) c
def DQ(a:Sl)(b:Int):Prop:=
 aV (σ:=Unit) (fun _ c=>
 ((a.len:Int)≠0)/\
 ∃d,(a.ptr=some d/\0<=(zQ b (a.len:Int))/\(zQ b (a.len:Int))<(a.len:Int))/\
 ∃x3:Int,cellOf c (d.add ((zQ b (a.len:Int)).toNat*1))=some (vL vR x3)/\
 R x3 c)
 (fun e=>
 Br ((a.len:Int)==0) (R (vL vR (-1:Int)) h) (Br (b<0)
 (R (vL vR (-1:Int)) h)
 (e () h)))
theorem Jj(a:Sl)(b:Int)(c:@DQ R h a b):ab vV 143 #[a,b] h R:=aq af func143 (an.tn (.two (.join [] [(4,12)] .n) .n)) c
def xF(k:cH):Prop:=
 aL vV (qI 49 k) h fun a t=>
 ∃x2:cH,ah t a 0 x2/\
 ac vV 207 #[x2] bU t fun A n=>
 Br (!A)
 (R (vM none 0 0) n)
 (∃r,cellOf n a=some (vL vR r)/\
 ac vV 208 #[(vM none 0 0),r,(vL vR 3)] aN n fun z h3=>
 ∃q,cellOf h3 (a.add 1)=some (vL vR q)/\
 ac vV 208 #[z,q,(vL vR 1)] aN h3 fun x s=>
 ∃v,cellOf s (a.add 2)=some (vL vR v)/\
 ac vV 208 #[x,v,(vL vR 2)] aN s fun B g=>
 ∃d,cellOf g (a.add 3)=some (vL vR d)/\
 ∃c,cellOf g ((a.add 3).add 1)=some (vL vR c)/\
 ∃f,cellOf g ((a.add 3).add 2)=some (vL vR f)/\
 aw vV (qu 31 3 #[(0,(vL vS (qc vS d))),(1,(vL vS (qc vS c))),(2,(vL vS (qc vS f)))]) aN g fun l w=>
 aw vV (qx #[31,31] 31 #[B,l]) aN w fun j u=>
 ∃b,cellOf u (a.add 6)=some (vL vT b)/\
 ac vV 208 #[j,(qc vR b),(vL vR 4)] aN u fun m h8=>
 ∃e:Sl,cellOf h8 (a.add 7)=some (e:Value)/\
 aw vV (qx #[31,31] 31 #[m,e]) aN h8 fun p y=>
 ac vV 125 #[(vL vR 1),p] aN y fun o i=>
 R o i)
theorem Fv(a:cH)(b:@xF R h a):ab vV 144 #[a] h R:=aq af func144 .n b
def fJ(b:Sl)(a:dl):Prop:=
 ac vV 104 #[(vL vU (qc vU (b.len:Int)))] bo h fun e d=>
 ac vV 209 #[b,(vL vR 0),(vL vR (b.len:Int)),e,(.func (.func a.1) a.2.1 a.2.2)] iG d fun _ c=>
 R (.tuple #[]) c
theorem je(b:Sl)(a:dl)(c:@fJ R h b a):ab vV 145 #[b,(.func (.func a.1) a.2.1 a.2.2)] h R:=aq af func145 .n c
def sk(c:gD)(b:gD):Prop:=
 aL vV (qI 123 c) h fun i f=>
 aL vV (qI 123 b) f fun e a=>
 ∃x3:ByteArray,cellOf a i=some (vO x3)/\
 ∃d:ByteArray,cellOf a e=some (vO d)/\
 ac vV 147 #[x3,d] bo a fun g h3=>
 R g h3
theorem Cw(b:gD)(a:gD)(c:@sk R h b a):ab vV 146 #[b,a] h R:=aq af func146 .n c
def lK(a:ByteArray)(b:ByteArray):Prop:=
 ac vV 210 #[a] bU h fun f e=>
 ac vV 210 #[b] bU e fun d c=>
 Br f
 (Br d
 (R (vL vR 0) c)
 (R (vL vR (-1:Int)) c))
 (Br d
 (R (vL vR 1) c)
 (Br (Op.bytesLess a.toList b.toList)
 (R (vL vR (-1:Int)) c)
 (Br (!(Op.bytesLess a.toList b.toList||a.toList==b.toList))
 (R (vL vR 1) c)
 (R (vL vR 0) c))))
theorem rF(a:ByteArray)(b:ByteArray)(c:@lK R h a b):ab vV 147 #[a,b] h R:=aq af func147 .n c
def lL(b:Int)(a:Addr)(d:Addr):Prop:=
 ∃f:aK,cellOf h a=some (.pointer f)/\
 ∃i,(f=some i)/\
 (0<=b/\b<((64:Nat):Int))/\
 ∃x3:aK,cellOf h ((i.add 10).add (b.toNat*1))=some (.pointer x3)/\
 ∃g:aK,cellOf h a=some (.pointer g)/\
 ∃a5,(g=some a5)/\
 ∃c:db,ah h a5 0 c/\
 ∃e:dl,cellOf h d=some (.func (.func e.1) e.2.1 e.2.2)/\
 iJ C e.1 (e.2.1.toList++[(vL vR b)]++e.2.2.toList) bo h fun l k=>
 (ar.ok [(a5,c.1),(a5.add 1,c.2.1),(a5.add 2,c.2.2.1),(a5.add 3,c.2.2.2.1),(a5.add 4,c.2.2.2.2.1),(a5.add 5,c.2.2.2.2.2.1),(a5.add 6,c.2.2.2.2.2.2.1),(a5.add 7,c.2.2.2.2.2.2.2),(a,g),((i.add 10).add (b.toNat*1),x3),(a,f)] k)/\
 ac vV 115 #[x3,c,l] bU k fun m j=>
 (ar.ok [(a,g),(a,f)] j)/\
 R (vP (!m)) j
theorem rG(c:Int)(b:Addr)(a:Addr)(d:@lL R h c b a):ab vV 148 #[c,b,a] h R:=aq af func148 .n d
def dH(b:Sl)(a:dl):Prop:=
 aS (σ:=Int) (fun c g d=>
 Br (c<(b.len:Int))
 (∃f,(b.ptr=some f/\0<=c/\c<(b.len:Int))/\
 ∃x3:gD,ah d (f.add (c.toNat*4)) 0 x3/\
 iJ C a.1 (a.2.1.toList++[(vQ #[x3.1,x3.2.1,x3.2.2.1,x3.2.2.2])]++a.2.2.toList) bU d fun i e=>
 Br i
 (R c e)
 (g (qc vR (c+1)) e))
 (R (vL vR (-1:Int)) d)) (0:Int) h
theorem fi(b:Sl)(a:dl)(c:@dH R h b a):ab vV 149 #[b,(.func (.func a.1) a.2.1 a.2.2)] h R:=aq af func149 (an.tn (.two (an.tn (.inn (.loop [(8,be)] [(4,6),(8,19)] .n))) .n)) c
def lM(b:gD)(a:Addr):Prop:=
 aL vV (qI 123 b) h fun d c=>
 ∃x2:ByteArray,cellOf c d=some (vO x2)/\
 ∃x3:ByteArray,cellOf c a=some (vO x3)/\
 R (vP (x2.toList==x3.toList)) c
theorem rH(b:gD)(a:Addr)(c:@lM R h b a):ab vV 150 #[b,a] h R:=aq af func150 .n c
def uG(f:bL)(a:Int)(c:Sl):Prop:=
 aL vV (qI 24 f) h fun d j=>
 ∃x2:bL,ah j d 0 x2/\
 ac vV 36 #[x2] bU j fun k b=>
 (ar.ok [] b)/\
 Br k (∃i:bL,ah b d 0 i/\
 ∃e:bL,ah b d 0 e/\
 ac vV 214 #[i,(vL vT a),c] bo b fun m h3=>
 (ar.ok [(d,e.1),(d.add 1,e.2.1),(d.add 2,e.2.2)] h3)/\
 ac vV 215 #[e] bo h3 fun l g=>
 (ar.ok [] g)/\
 R (vP (m==l)) g) ((ar.ok [] b)/\
 (ar.ok [] b)/\
 R false b)
theorem DR(c:bL)(a:Int)(b:Sl)(d:@uG R h c a b):ab vV 156 #[c,(vL vT a),b] h R:=aq af func156 .n d
def Gx(g:bL)(b:Int)(a:Int):Prop:=
 aL vV (qI 24 g) h fun j k=>
 aV (σ:=Unit) (fun _ h3=>
 ∃i:bL,ah h3 j 0 i/\
 ac vV 215 #[i] bo h3 fun l s=>
 ac vV 223 #[(vL vT (qc vT ((qq (qf vT) b^^^(qq (qf vT) (qc vT ((qc vT a)*2654435761)))).toNat:Nat)))] kb s fun f q=>
 ac vV 224 #[f] (.one (.sc (.int .u32))) q fun _ m=>
 ac vV 226 #[l] aN m fun r t=>
 ac vV 225 #[r,f] bo t fun e h8=>
 ac vV 227 #[f,l,e] aN h8 fun d o=>
 R d o)
 (fun n=>
 ∃x2:bL,ah k j 0 x2/\
 ac vV 36 #[x2] bU k fun p c=>
 Br (!p) (R (vM none 0 0) c) (Br (a<0) (R (vM none 0 0) c) (Br (a>65535)
 (R (vM none 0 0) c)
 (n () c))))
theorem KO(c:bL)(a:Int)(b:Int)(d:@Gx R h c a b):ab vV 159 #[c,(vL vT a),b] h R:=aq af func159 (an.tn (.two (.join [] [(6,7),(10,21)] .n) .n)) d
def gb(a:Sl):Prop:=
 Br (qS a.ptr)
 (R (vM none 0 0) h)
 (aw vV (qu 86 0 #[]) aN h fun d c=>
 aw vV (qx #[86,86] 86 #[d,a]) aN c fun e b=>
 R e b)
theorem jG(a:Sl)(b:@gb R h a):ab vV 160 #[a] h R:=aq af func160 .n b
def uH(z:Sl):Prop:=
 aL vV (qJ 49 true (.tuple #[])) h fun f h1=>
 ac vV 67 #[z] (.many [be,dv,kc]) h1 fun a h2=>
 aV (σ:=Unit) (fun _ h5=>
 aV (σ:=Addr) (fun b a7=>
 aV (σ:=Unit) (fun _ a3=>
 (0<=(9:Int)/\(9:Int)<=(13:Int)/\(13:Int)<=(a.2.1.cap:Int))/\
 ac vV 228 #[(.slice (if a.2.1.cap=(9:Int).toNat then a.2.1.ptr else a.2.1.ptr.map (·.add ((9:Int).toNat*1))) ((13:Int).toNat-(9:Int).toNat) (a.2.1.cap-(9:Int).toNat))] bo a3 fun a5 a2=>
 ae vV (qe 40 (b.add 6) (vL vT (qc vT a5))) a2 fun _ A=>
 ∃s:bL,ah A (b.add 3) 0 s/\
 ac vV 36 #[s] bU A fun ax l=>
 Br (!ax)
 (ae vV (qe 49 f (vQ #[(vL vR 0),(vL vR 0),(vL vR 0),(vL vR 0),(vL vR 0),(vL vR 0),(vL vT 0),(vM none 0 0)])) l fun _ I=>
 ∃d:cH,ah I f 0 d/\
 R (.tuple #[d,false]) I)
 (∃g,cellOf l ((b.add 3).add 2)=some (vL vR g)/\
 (0<=(13:Int)/\(13:Int)<=(qc vR (13+g))/\(qc vR (13+g))<=(a.2.1.cap:Int))/\
 ac vV 34 #[(.slice (if a.2.1.cap=(13:Int).toNat then a.2.1.ptr else a.2.1.ptr.map (·.add ((13:Int).toNat*1))) ((qc vR (13+g)).toNat-(13:Int).toNat) (a.2.1.cap-(13:Int).toNat))] aN l fun a6 T=>
 ae vV (qe 31 (b.add 7) a6) T fun _ o=>
 ∃v:cH,ah o b 0 v/\
 ac vV 144 #[v] aN o fun W a4=>
 ac vV 122 #[z,W] bU a4 fun Z k=>
 Br (!Z)
 (ae vV (qe 49 f (vQ #[(vL vR 0),(vL vR 0),(vL vR 0),(vL vR 0),(vL vR 0),(vL vR 0),(vL vT 0),(vM none 0 0)])) k fun _ w=>
 ∃c:cH,ah w f 0 c/\
 R (.tuple #[c,false]) w)
 (∃N:cH,ah k b 0 N/\
 ae vV (qe 49 f N) k fun _ H=>
 ∃e:cH,ah H f 0 e/\
 R (.tuple #[e,true]) H)))
 (fun K3=>
 (0<=(6:Int)/\(6:Int)<=(7:Int)/\(7:Int)<=(a.2.1.cap:Int))/\
 (0<=(7:Int)/\(7:Int)<=(8:Int)/\(8:Int)<=(a.2.1.cap:Int))/\
 (0<=(8:Int)/\(8:Int)<=(9:Int)/\(9:Int)<=(a.2.1.cap:Int))/\
 ac vV 228 #[(.slice (if a.2.1.cap=(6:Int).toNat then a.2.1.ptr else a.2.1.ptr.map (·.add ((6:Int).toNat*1))) ((7:Int).toNat-(6:Int).toNat) (a.2.1.cap-(6:Int).toNat))] bo a7 fun a0 u=>
 (ar.ok [] u)/\
 ac vV 228 #[(.slice (if a.2.1.cap=(7:Int).toNat then a.2.1.ptr else a.2.1.ptr.map (·.add ((7:Int).toNat*1))) ((8:Int).toNat-(7:Int).toNat) (a.2.1.cap-(7:Int).toNat))] bo u fun X m=>
 (ar.ok [] m)/\
 ac vV 228 #[(.slice (if a.2.1.cap=(8:Int).toNat then a.2.1.ptr else a.2.1.ptr.map (·.add ((8:Int).toNat*1))) ((9:Int).toNat-(8:Int).toNat) (a.2.1.cap-(8:Int).toNat))] bo m fun ad B=>
 (ar.ok [] B)/\
 ae vV (qe 24 (b.add 3) (vQ #[a0,X,ad])) B fun _ L=>
 (ar.ok [] L)/\
 K3 () L))
 (fun Q=>
 (0<=(3:Int)/\(3:Int)<=(a.2.1.cap:Int))/\
 (0<=(3:Int)/\(3:Int)<=(4:Int)/\(4:Int)<=(a.2.1.cap:Int))/\
 (0<=(4:Int)/\(4:Int)<=(6:Int)/\(6:Int)<=(a.2.1.cap:Int))/\
 (ac vV 228 #[(vM a.2.1.ptr ((3:Int).toNat) a.2.1.cap)] bo h5 fun r6 V=>
 (ar.ok [] V)/\
 (ac vV 228 #[(.slice (if a.2.1.cap=(3:Int).toNat then a.2.1.ptr else a.2.1.ptr.map (·.add ((3:Int).toNat*1))) ((4:Int).toNat-(3:Int).toNat) (a.2.1.cap-(3:Int).toNat))] bo V fun r7 h7=>
 (ar.ok [] h7)/\
 (ac vV 228 #[(.slice (if a.2.1.cap=(4:Int).toNat then a.2.1.ptr else a.2.1.ptr.map (·.add ((4:Int).toNat*1))) ((6:Int).toNat-(4:Int).toNat) (a.2.1.cap-(4:Int).toNat))] bo h7 fun r8 h8=>
 (ar.ok [] h8)/\
 aL vV (qJ 49 true (.tuple #[])) h8 fun a9 h9=>
 (ar.ok [] h9)/\
 ae vV (qe 49 a9 (vQ #[r6,r7,r8,(vL vR 0),(vL vR 0),(vL vR 0),(vL vT 0),(vM none 0 0)])) h9 fun _ p=>
 (ar.ok [] p)/\
 Q a9 p)/\(aL vV (qJ 49 true (.tuple #[])) h7 fun x r=>
 (ar.ok [] r)/\
 ac vV 228 #[(.slice (if a.2.1.cap=(4:Int).toNat then a.2.1.ptr else a.2.1.ptr.map (·.add ((4:Int).toNat*1))) ((6:Int).toNat-(4:Int).toNat) (a.2.1.cap-(4:Int).toNat))] bo r fun U G=>
 (ar.ok [] G)/\
 ae vV (qe 49 x (vQ #[r6,r7,U,(vL vR 0),(vL vR 0),(vL vR 0),(vL vT 0),(vM none 0 0)])) G fun _ y=>
 (ar.ok [] y)/\
 Q x y))/\(aL vV (qJ 49 true (.tuple #[])) V fun P q=>
 (ar.ok [] q)/\
 ac vV 228 #[(.slice (if a.2.1.cap=(3:Int).toNat then a.2.1.ptr else a.2.1.ptr.map (·.add ((3:Int).toNat*1))) ((4:Int).toNat-(3:Int).toNat) (a.2.1.cap-(3:Int).toNat))] bo q fun S J=>
 (ar.ok [] J)/\
 ac vV 228 #[(.slice (if a.2.1.cap=(4:Int).toNat then a.2.1.ptr else a.2.1.ptr.map (·.add ((4:Int).toNat*1))) ((6:Int).toNat-(4:Int).toNat) (a.2.1.cap-(4:Int).toNat))] bo J fun al t=>
 (ar.ok [] t)/\
 ae vV (qe 49 P (vQ #[r6,S,al,(vL vR 0),(vL vR 0),(vL vR 0),(vL vT 0),(vM none 0 0)])) t fun _ D=>
 (ar.ok [] D)/\
 Q P D))/\(aL vV (qJ 49 true (.tuple #[])) h5 fun K n=>
 (ar.ok [] n)/\
 ac vV 228 #[(vM a.2.1.ptr ((3:Int).toNat) a.2.1.cap)] bo n fun am O=>
 (ar.ok [] O)/\
 ac vV 228 #[(.slice (if a.2.1.cap=(3:Int).toNat then a.2.1.ptr else a.2.1.ptr.map (·.add ((3:Int).toNat*1))) ((4:Int).toNat-(3:Int).toNat) (a.2.1.cap-(3:Int).toNat))] bo O fun ay M=>
 (ar.ok [] M)/\
 ac vV 228 #[(.slice (if a.2.1.cap=(4:Int).toNat then a.2.1.ptr else a.2.1.ptr.map (·.add ((4:Int).toNat*1))) ((6:Int).toNat-(4:Int).toNat) (a.2.1.cap-(4:Int).toNat))] bo M fun Y E=>
 (ar.ok [] E)/\
 ae vV (qe 49 K (vQ #[am,ay,Y,(vL vR 0),(vL vR 0),(vL vR 0),(vL vT 0),(vM none 0 0)])) E fun _ F=>
 (ar.ok [] F)/\
 Q K F)))
 (fun K1=>
 Br (!a.2.2) (ae vV (qe 49 f (vQ #[(vL vR 0),(vL vR 0),(vL vR 0),(vL vR 0),(vL vR 0),(vL vR 0),(vL vT 0),(vM none 0 0)])) h2 fun _ h3=>
 ∃j:cH,ah h3 f 0 j/\
 R (.tuple #[j,false]) h3) (Br (a.1 !=1)
 (ae vV (qe 49 f (vQ #[(vL vR 0),(vL vR 0),(vL vR 0),(vL vR 0),(vL vR 0),(vL vR 0),(vL vT 0),(vM none 0 0)])) h2 fun _ h4=>
 ∃i:cH,ah h4 f 0 i/\
 R (.tuple #[i,false]) h4)
 (K1 () h2)))
theorem DS(a:Sl)(b:@uH R h a):ab vV 162 #[a] h R:=aq af func162 (an.tn (an.tn (.two (.join [] [(3,4),(14,21)] .n) (.two (.join [(7,(.sc .adr))] [(7,8),(21,31)] .n) (.two (.join [] [(31,42)] .n) .n))))) b
def uI(c:db)(a:cH):Prop:=
 aL vV (qI 88 c) h fun l n=>
 aL vV (qI 49 a) n fun d e=>
 aV (σ:=Unit) (fun _ f=>
 ∃k:Sl,cellOf f (l.add 7)=some (k:Value)/\
 ac vV 182 #[k,(.func (.func 229) #[] #[d])] bU f fun b p=>
 R b p)
 (fun m=>
 ∃x3:cH,ah e d 0 x3/\
 ac vV 207 #[x3] bU e fun o h3=>
 Br (!o) (R false h3) (∃j:bL,ah h3 (d.add 3) 0 j/\
 ∃g:bL,ah h3 (l.add 2) 0 g/\
 ∃i:Bool,(fM vV .neq 24 (.tmp 10) (.tmp 12) j g (vP i))/\
 Br i
 (R false h3)
 (m () h3)))
theorem DT(a:db)(b:cH)(c:@uI R h a b):ab vV 163 #[a,b] h R:=aq af func163 (an.tn (.two (.join [] [(4,15)] .n) .n)) c
def ee(b:Sl)(a:dl):Prop:=
 ac vV 230 #[b,(vL vR (b.len:Int)),(.func (.func a.1) a.2.1 a.2.2)] iG h fun _ c=>
 R (.tuple #[]) c
theorem gJ(b:Sl)(a:dl)(c:@ee R h b a):ab vV 164 #[b,(.func (.func a.1) a.2.1 a.2.2)] h R:=aq af func164 .n c
def xG(j:cH)(l:cH):Prop:=
 aL vV (qI 49 j) h fun c u=>
 aL vV (qI 49 l) u fun b a=>
 ∃x3,cellOf a c=some (vL vR x3)/\
 ∃p,cellOf a b=some (vL vR p)/\
 ∃m,cellOf a (c.add 1)=some (vL vR m)/\
 ∃i,cellOf a (b.add 1)=some (vL vR i)/\
 ∃d,cellOf a (c.add 2)=some (vL vR d)/\
 ∃e,cellOf a (b.add 2)=some (vL vR e)/\
 ac vV 206 #[x3,p] bo a fun t h3=>
 (ar.ok [(b.add 2,e),(c.add 2,d),(b.add 1,i),(c.add 1,m)] h3)/\
 ac vV 206 #[m,i] bo h3 fun k r=>
 (ar.ok [(b.add 2,e),(c.add 2,d)] r)/\
 ac vV 206 #[d,e] bo r fun g q=>
 (ar.ok [] q)/\
 aw vV (qu 22 3 #[(0,t),(1,k),(2,g)]) aN q fun n o=>
 (ar.ok [] o)/\
 ac vV 204 #[n] bo o fun f s=>
 (ar.ok [] s)/\
 R f s
theorem Fw(b:cH)(a:cH)(c:@xG R h b a):ab vV 165 #[b,a] h R:=aq af func165 .n c
def eM(a:Sl)(d:dl):Prop:=
 Br ((a.len:Int)<2)
 (R a h)
 (aS (σ:=Int) (fun c u n=>
 Br (c<(a.len:Int))
 (∃q,(a.ptr=some q/\0<=c/\c<(a.len:Int))/\
 ∃x3:cH,ah n (q.add (c.toNat*8)) 0 x3/\
 ∃a4,(a.ptr=some a4/\0<=(qc vR (c-1))/\(qc vR (c-1))<(a.len:Int))/\
 ∃f:cH,ah n (a4.add ((qc vR (c-1)).toNat*8)) 0 f/\
 iJ C d.1 (d.2.1.toList++[(vQ #[x3.1,x3.2.1,x3.2.2.1,x3.2.2.2.1,x3.2.2.2.2.1,x3.2.2.2.2.2.1,(vL vT x3.2.2.2.2.2.2.1),x3.2.2.2.2.2.2.2]),(vQ #[f.1,f.2.1,f.2.2.1,f.2.2.2.1,f.2.2.2.2.1,f.2.2.2.2.2.1,(vL vT f.2.2.2.2.2.2.1),f.2.2.2.2.2.2.2])]++d.2.2.toList) bU n fun w p=>
 (ar.ok [] p)/\
 Br w
 ((0<=c/\c<=(a.len:Int))/\
 aS (σ:=Int×Int) (fun b r h3=>
 Br (decide (b.2<(((a.len-c.toNat):Nat):Int)))
 (∃s:Addr,((if a.cap=c.toNat then a.ptr else a.ptr.map (·.add (c.toNat*8)))=some s/\0<=b.2/\b.2<(((a.len-c.toNat):Nat):Int))/\
 ∃g:cH,ah h3 (s.add (b.2.toNat*8)) 0 g/\
 ∃k:Addr,((if a.cap=c.toNat then a.ptr else a.ptr.map (·.add (c.toNat*8)))=some k/\0<=(qc vR (b.2-1))/\(qc vR (b.2-1))<(((a.len-c.toNat):Nat):Int))/\
 ∃e:cH,ah h3 (k.add ((qc vR (b.2-1)).toNat*8)) 0 e/\
 iJ C d.1 (d.2.1.toList++[(vQ #[g.1,g.2.1,g.2.2.1,g.2.2.2.1,g.2.2.2.2.1,g.2.2.2.2.2.1,(vL vT g.2.2.2.2.2.2.1),g.2.2.2.2.2.2.2]),(vQ #[e.1,e.2.1,e.2.2.1,e.2.2.2.1,e.2.2.2.2.1,e.2.2.2.2.2.1,(vL vT e.2.2.2.2.2.2.1),e.2.2.2.2.2.2.2])]++d.2.2.toList) bU h3 fun o m=>
 (ar.ok [] m)/\
 Br (!o)
 (∃j:Addr,((if a.cap=c.toNat then a.ptr else a.ptr.map (·.add (c.toNat*8)))=some j/\0<=b.2/\b.2<(((a.len-c.toNat):Nat):Int))/\
 ∃i:cH,ah m (j.add (b.2.toNat*8)) 0 i/\
 ∃l,(a.ptr=some l/\0<=b.1/\b.1<(a.len:Int))/\
 ae vV (qe 49 (l.add (b.1.toNat*8)) i) m fun _ v=>
 r (qc vR (b.1+1),qc vR (b.2+1)) v)
 (r (b.1,qc vR (b.2+1)) m))
 ((0<=b.1/\b.1<=(a.len:Int))/\
 ae vV (Builtin.clear_ #[160] 0 #[(.slice (if a.cap=b.1.toNat then a.ptr else a.ptr.map (·.add (b.1.toNat*8))) (a.len-b.1.toNat) (a.cap-b.1.toNat))]) h3 fun _ t=>
 (0<=b.1/\b.1<=(a.cap:Int))/\
 R (vM a.ptr b.1.toNat a.cap) t)) (c,(1:Int)) p)
 (u (qc vR (c+1)) p))
 (R a n)) (1:Int) h)
theorem ic(b:Sl)(a:dl)(c:@eM R h b a):ab vV 166 #[b,(.func (.func a.1) a.2.1 a.2.2)] h R:=aq af func166 (an.tn (an.tn (.two (an.tn (.inn (.loop [(5,be)] [(4,8),(12,65)] (an.tn (.two (.inn (an.tn (.two (an.tn (.two (an.tn (.inn (.loop [(5,be),(7,be)] [(5,6),(7,8),(32,59)] .n))) .n)) .n))) .n))))) .n))) c
def pc(c:cH)(b:cH):Prop:=
 aL vV (qI 49 c) h fun i f=>
 aL vV (qI 49 b) f fun e a=>
 ∃x3:cH,ah a i 0 x3/\
 ∃d:cH,ah a e 0 d/\
 ac vV 165 #[x3,d] bo a fun g h3=>
 R (vP (g==0)) h3
theorem xH(b:cH)(a:cH)(c:@pc R h b a):ab vV 167 #[b,a] h R:=aq af func167 .n c
def uJ(c:Int)(a:Int)(b:Int):Prop:=
 Br (c>=a) (R (decide (c<=b)) h) (R false h)
theorem DU(c:Int)(a:Int)(b:Int)(d:@uJ R h c a b):ab vV 179 #[c,a,b] h R:=aq af func179 .n d
def BA(a:Sl)(c:Int):Prop:=
 aS (σ:=Int) (fun b f e=>
 Br (b<(a.len:Int))
 (∃i,(a.ptr=some i/\0<=b/\b<(a.len:Int))/\
 ∃x3,cellOf e (i.add (b.toNat*1))=some (vL vR x3)/\
 ac vV 179 #[x3,(vL vR 0),c] bU e fun j d=>
 Br (!j) (R false d) (Br (b>0) (∃a5,(a.ptr=some a5/\0<=(qc vR (b-1))/\(qc vR (b-1))<(a.len:Int))/\
 ∃g:Int,cellOf d (a5.add ((qc vR (b-1)).toNat*1))=some (vL vR g)/\
 Br (g>=x3)
 (R false d)
 (f (qc vR (b+1)) d)) (f (qc vR (b+1)) d)))
 (R true e)) (0:Int) h
theorem Hp(b:Sl)(a:Int)(c:@BA R h b a):ab vV 180 #[b,a] h R:=aq af func180 (an.tn (.two (an.tn (.inn (.loop [(9,be)] [(4,7),(9,32)] .n))) .n)) c
end
end Go.Qw
