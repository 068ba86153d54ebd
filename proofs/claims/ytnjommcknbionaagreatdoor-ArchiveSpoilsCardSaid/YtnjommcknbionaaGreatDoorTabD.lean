/- Lemmas for the proof of the law; no condition. -/
import Derived.Test.YtnjommcknbionaaGreatDoorTabA
set_option linter.unusedVariables false
open Go.Proofs.Tryz renaming prog -> vV
open Go.Instr renaming alloc -> qJ, box -> qI, buildSlice -> qu, makeSlice -> zA, storeAt -> qe
open Go.Value renaming agg -> vQ, bool -> vP, int -> vL, slice -> vM, string -> vO
open Go.IntKind renaming bits -> qf, i64 -> vR, u32 -> vT, u64 -> vU, u8 -> vS, wrap -> qc
open Option renaming isNone -> qS
open Go.Builtin renaming append_ -> qx
open BitVec renaming ofInt -> qq
open Int renaming fdiv -> qD, tdiv -> wQ
open Go.Proofs.Tryz
set_option maxRecDepth 1000000
namespace Go.Qw
noncomputable section
open Go Go.Vc Go.Proofs
variable {R:wt} {h:Heap}
def xI(o:db)(n:gD):Prop:=
 aL vV (qI 88 o) h fun j z=>
 aL vV (qI 123 n) z fun a r=>
 aV (σ:=Unit) (fun _ q=>
 ∃e:Sl,cellOf q (a.add 3)=some (e:Value)/\
 ac vV 109 #[e,(.func (.func 237) #[] #[])] bU q fun m c=>
 Br (!m) (∃b:Sl,cellOf c (a.add 3)=some (b:Value)/\
 ∃d:bL,ah c (j.add 2) 0 d/\
 ∃g,cellOf c (a.add 2)=some (vL vR g)/\
 ac vV 83 #[d,g] bo c fun l h8=>
 (ar.ok [(a.add 3,b)] h8)/\
 R (vP ((b.len:Int)==l)) h8) ((ar.ok [] c)/\
 R false c))
 (fun x=>
 ∃x3:ByteArray,cellOf r a=some (vO x3)/\
 ac vV 136 #[x3] bU r fun w h3=>
 Br (!w) (R false h3) (∃s,cellOf h3 (a.add 1)=some (vL vR s)/\
 ∃p,cellOf h3 (j.add 1)=some (vL vR p)/\
 ac vV 179 #[s,(vL vR 0),(qc vR (p-1))] bU h3 fun y i=>
 Br (!y) (R false i) (∃v,cellOf i (a.add 2)=some (vL vR v)/\
 ∃u,cellOf i (j.add 2)=some (vL vR u)/\
 ∃f,cellOf i ((j.add 2).add 2)=some (vL vR f)/\
 ac vV 179 #[v,(vL vR 0),(qc vR ((qc vR (u*f))*8))] bU i fun k t=>
 Br (!k)
 (R false t)
 (x () t))))
theorem Fx(a:db)(b:gD)(c:@xI R h a b):ab vV 181 #[a,b] h R:=aq af func181 (an.tn (.two (.join [] [(4,5),(6,33)] .n) .n)) c
def df(b:Sl)(a:dl):Prop:=
 ac vV 149 #[b,(.func (.func a.1) a.2.1 a.2.2)] bo h fun d c=>
 R (decide (d>=0)) c
theorem eF(b:Sl)(a:dl)(c:@df R h b a):ab vV 182 #[b,(.func (.func a.1) a.2.1 a.2.2)] h R:=aq af func182 .n c
def xJ(b:gD)(a:Addr):Prop:=
 aL vV (qI 123 b) h fun d c=>
 ∃x2,cellOf c (d.add 1)=some (vL vR x2)/\
 ∃x3,cellOf c (a.add 1)=some (vL vR x3)/\
 R (vP (x2==x3)) c
theorem Fy(b:gD)(a:Addr)(c:@xJ R h b a):ab vV 183 #[b,a] h R:=aq af func183 .n c
def nB(a:aK):Prop:=
 Br (qS a)
 (R (vL vR 0) h)
 (∃b,(a=some b)/\
 ∃x2,cellOf h (b.add 1)=some (vL vR x2)/\
 R x2 h)
theorem tU(a:aK)(b:@nB R h a):ab vV 187 #[a] h R:=aq af func187 .n b
def BB(b:Sl):Prop:=
 aS (σ:=Sl×Int) (fun a g d=>
 Br (a.2<(b.len:Int))
 (∃e,(b.ptr=some e/\0<=a.2/\a.2<(b.len:Int))/\
 ∃x3:Sl,cellOf d (e.add (a.2.toNat*1))=some (x3:Value)/\
 ac vV 34 #[x3] aN d fun j f=>
 aw vV (qu 72 1 #[(0,j)]) aN f fun v5 h3=>
 aw vV (qx #[72,72] 72 #[a.1,v5]) aN h3 fun c i=>
 g ((⟨c.ptr,c.len,c.cap⟩:Sl),qc vR (a.2+1)) i)
 (R a.1 d)) ((⟨none,0,0⟩:Sl),(0:Int)) h
theorem Hq(a:Sl)(b:@BB R h a):ab vV 188 #[a] h R:=aq af func188 (an.tn (an.tn (.two (an.tn (.inn (.loop [(3,dv),(8,be)] [(3,4),(5,6),(8,18)] .n))) .n))) b
def xK(e:aK)(c:db):Prop:=
 aL vV (qI 88 c) h fun q k=>
 ∃x2:db,ah k q 0 x2/\
 ac vV 101 #[e,x2] aN k fun f o=>
 aS (σ:=Sl×Int) (fun b n h3=>
 Br (b.2<(f.len:Int))
 (∃a5,(f.ptr=some a5/\0<=b.2/\b.2<(f.len:Int))/\
 ∃g:cH,ah h3 (a5.add (b.2.toNat*8)) 0 g/\
 aL vV (qJ 49 true (.tuple #[])) h3 fun i r=>
 ae vV (qe 49 i g) r fun _ j=>
 ∃l:cH,ah j i 0 l/\
 ac vV 144 #[l] aN j fun p m=>
 aw vV (qu 72 1 #[(0,p)]) aN m fun d s=>
 aw vV (qx #[72,72] 72 #[b.1,d]) aN s fun a h8=>
 n ((⟨a.ptr,a.len,a.cap⟩:Sl),qc vR (b.2+1)) h8)
 (R b.1 h3)) ((⟨none,0,0⟩:Sl),(0:Int)) o
theorem Fz(a:aK)(b:db)(c:@xK R h a b):ab vV 189 #[a,b] h R:=aq af func189 (an.tn (an.tn (.two (an.tn (.inn (.loop [(5,dv),(12,be)] [(5,6),(7,8),(12,22)] .n))) .n))) c
def Gy(c:Sl):Prop:=
 aS (σ:=Int×Int) (fun a i e=>
 Br (a.2<(c.len:Int))
 (∃g,(c.ptr=some g/\0<=a.2/\a.2<(c.len:Int))/\
 ∃x3,cellOf e (g.add (a.2.toNat*1))=some (vL vS x3)/\
 aS (σ:=Int×Int) (fun b f d=>
 Br (b.2<8)
 ((0<=(1:Int))/\
 Br ((qc vT ((qq (qf vT) b.1&&&(qq (qf vT) (1:Int))).toNat:Nat))==1)
 (f (qc vT ((qq (qf vT) (qD b.1 (2^min (1:Int).toNat (qf vT)))^^^(qq (qf vT) (3988292384:Int))).toNat:Nat),qc vR (b.2+1)) d)
 (f (qD b.1 (2^min (1:Int).toNat (qf vT)),qc vR (b.2+1)) d))
 (i (b.1,qc vR (a.2+1)) d)) (qc vT ((qq (qf vT) a.1^^^(qq (qf vT) (qc vT x3))).toNat:Nat),(0:Int)) e)
 (R (vL vT (qc vT ((qq (qf vT) (4294967295:Int)^^^(qq (qf vT) a.1)).toNat:Nat))) e)) ((4294967295:Int),(0:Int)) h
theorem KP(a:Sl)(b:@Gy R h a):ab vV 193 #[a] h R:=aq af func193 (an.tn (an.tn (.two (an.tn (.inn (.loop [(3,(.sc (.int .u32))),(9,be)] [(3,4),(5,7),(9,29)] (an.tn (an.tn (.two (.inn (an.tn (an.tn (an.tn (.inn (.loop [(3,(.sc (.int .u32))),(17,be)] [(3,4),(6,7),(17,28)] .n)))))) .n)))))) .n))) b
def sn(c:bL)(a:Int):Prop:=
 aL vV (qI 24 c) h fun b d=>
 ∃x2:bL,ah d b 0 x2/\
 ∃x3:bL,ah d b 0 x3/\
 ac vV 199 #[x3] aN d fun f e=>
 (ar.ok [(b,x2.1),(b.add 1,x2.2.1),(b.add 2,x2.2.2)] e)/\
 ac vV 156 #[x2,(vL vT a),f] bU e fun g h3=>
 (ar.ok [] h3)/\
 R g h3
theorem Cx(b:bL)(a:Int)(c:@sn R h b a):ab vV 195 #[b,(vL vT a)] h R:=aq af func195 .n c
def BC(x:aK)(f:Sl)(i:Sl):Prop:=
 aV (σ:=Unit) (fun _ h3=>
 ac vV 248 #[f] bo h3 fun j S=>
 ac vV 249 #[f] aN S fun d O=>
 aS (σ:=Int) (fun g T u=>
 Br (g<(d.len:Int))
 (∃G,(d.ptr=some G/\0<=g/\g<(d.len:Int))/\
 ∃J:Sl,cellOf u (G.add (g.toNat*1))=some (J:Value)/\
 ∃a9,(i.ptr=some a9/\0<=g/\g<(i.len:Int))/\
 ∃p:Sl,cellOf u (a9.add (g.toNat*1))=some (p:Value)/\
 aw vV (qx #[31,31] 31 #[J,p]) aN u fun z I=>
 (ar.ok [] I)/\
 ∃t,(d.ptr=some t/\0<=g/\g<(d.len:Int))/\
 ae vV (qe 31 (t.add (g.toNat*1)) z) I fun _ h8=>
 (ar.ok [] h8)/\
 T (qc vR (g+1)) h8)
 (ac vV 251 #[x] kb u fun w M=>
 ac vV 250 #[w,d,j] bo M fun a n=>
 Br (a<j)
 (R (.tuple #[(vM none 0 0),(vL vR 9)]) n)
 ((0<=a/\a<=(d.len:Int))/\
 aS (σ:=Int) (fun e N l=>
 Br (decide (e<(((d.len-a.toNat):Nat):Int)))
 (∃s:Addr,((if d.cap=a.toNat then d.ptr else d.ptr.map (·.add (a.toNat*1)))=some s/\0<=e/\e<(((d.len-a.toNat):Nat):Int))/\
 ∃r:Sl,cellOf l (s.add (e.toNat*1))=some (r:Value)/\
 ac vV 252 #[r] bo l fun B o=>
 Br (B>=0)
 (R (.tuple #[(vM none 0 0),(vL vR 10)]) o)
 (N (qc vR (e+1)) o))
 ((0<=a/\a<=(d.cap:Int))/\
 aS (σ:=Sl×Int) (fun c P m=>
 Br (c.2<(a.toNat:Int))
 (∃q,(d.ptr=some q/\0<=c.2/\c.2<(a.toNat:Int))/\
 ∃b:Sl,cellOf m (q.add (c.2.toNat*1))=some (b:Value)/\
 (0<=j/\j<=(b.len:Int))/\
 ac vV 34 #[(.slice (if b.cap=j.toNat then b.ptr else b.ptr.map (·.add (j.toNat*1))) (b.len-j.toNat) (b.cap-j.toNat))] aN m fun E y=>
 aw vV (qu 72 1 #[(0,E)]) aN y fun D F=>
 aw vV (qx #[72,72] 72 #[c.1,D]) aN F fun k A=>
 P ((⟨k.ptr,k.len,k.cap⟩:Sl),qc vR (c.2+1)) A)
 (R (.tuple #[c.1,(vL vR 0)]) m)) ((⟨none,0,0⟩:Sl),(0:Int)) l)) (0:Int) n))) (0:Int) O)
 (fun L=>
 ac vV 247 #[f] bU h fun K H=>
 Br (!K) (R (.tuple #[(vM none 0 0),(vL vR 1)]) H) (ac vV 247 #[i] bU H fun Q v=>
 Br (!Q) (R (.tuple #[(vM none 0 0),(vL vR 1)]) v) (Br ((f.len:Int) !=(i.len:Int)) (R (.tuple #[(vM none 0 0),(vL vR 1)]) v) (Br ((f.len:Int)==0)
 (R (.tuple #[(vM none 0 0),(vL vR 1)]) v)
 (L () v)))))
theorem Hr(c:aK)(b:Sl)(a:Sl)(d:@BC R h c b a):ab vV 196 #[c,b,a] h R:=aq af func196 (an.tn (.two (.join [] [(6,8),(17,37)] .n) (an.tn (an.tn (.two (an.tn (.inn (.loop [(43,be)] [(10,11),(43,59)] .n))) (an.tn (an.tn (.two (an.tn (.inn (.loop [(71,be)] [(6,8),(13,14),(71,79)] .n))) (an.tn (.two (an.tn (.inn (.loop [(14,dv),(83,be)] [(14,15),(16,17),(83,95)] .n))) .n)))))))))) d
def Jk:Prop:=
 ac vV 253 #[] (.one (.arr (.int .u8))) h fun j i=>
 aL vV (qJ 312 true (.tuple #[])) i fun a f=>
 ae vV (qe 312 a (vQ (j.map (Sc.enc (.int .u8))).toArray)) f fun _ h3=>
 ∃x3:List (Int),(x3.length=255/\ah h3 a 0 (x3.map (Sc.enc (.int .u8))))/\
 ∃b:List (Int),(b.length=255/\ah h3 a 0 (b.map (Sc.enc (.int .u8))))/\
 ac vV 254 #[(vQ (b.map (Sc.enc (.int .u8))).toArray)] (.one (.arr (.int .i64))) h3 fun k c=>
 (ar.ok (jx a 0 (x3.map (Sc.enc (.int .u8))) []) c)/\
 ∃d:Value,(au vV (Instr.build 317 #[(0,(vQ (x3.map (Sc.enc (.int .u8))).toArray)),(1,(vQ (k.map (Sc.enc (.int .i64))).toArray))]) d)/\
 aL vV (qI 317 d) c fun g e=>
 (ar.ok (jx a 0 (x3.map (Sc.enc (.int .u8))) []) e)/\
 R g e
theorem Nb(a:@Jk R h):ab vV 197 #[] h R:=aq af func197 .n a
def pW(f:bL)(c:Int)(a:Sl):Prop:=
 aL vV (qI 24 f) h fun l n=>
 ∃x2:bL,ah n l 0 x2/\
 ac vV 241 #[x2] aN n fun e p=>
 aS (σ:=Sl×Int) (fun b i h3=>
 Br (b.2<(a.len:Int))
 (∃a5,(a.ptr=some a5/\0<=b.2/\b.2<(a.len:Int))/\
 ∃g,cellOf h3 (a5.add (b.2.toNat*1))=some (vL vR g)/\
 ∃j:bL,ah h3 l 0 j/\
 ac vV 255 #[j,(vL vT c),g] aN h3 fun k m=>
 Br (!(qS k.ptr))
 (aw vV (qu 72 1 #[(0,k)]) aN m fun v9 q=>
 aw vV (qx #[72,72] 72 #[b.1,v9]) aN q fun d o=>
 i ((⟨d.ptr,d.len,d.cap⟩:Sl),qc vR (b.2+1)) o)
 (i ((⟨b.1.ptr,b.1.len,b.1.cap⟩:Sl),qc vR (b.2+1)) m))
 (R b.1 h3)) ((⟨e.ptr,e.len,e.cap⟩:Sl),(0:Int)) p
theorem Bb(c:bL)(a:Int)(b:Sl)(d:@pW R h c a b):ab vV 198 #[c,(vL vT a),b] h R:=aq af func198 (an.tn (an.tn (.two (an.tn (.inn (.loop [(7,dv),(15,be)] [(7,8),(9,11),(15,30)] .n))) .n))) d
def so(b:bL):Prop:=
 aL vV (qI 24 b) h fun g d=>
 ∃x2,cellOf d g=some (vL vR x2)/\
 aS (σ:=Sl×Int) (fun a e c=>
 Br (decide (a.2<(if(if(16:Int)<x2 then(16:Int)else x2)>(0:Int)then(if(16:Int)<x2 then(16:Int)else x2)else(0:Int))))
 (aw vV (qu 22 1 #[(0,a.2)]) aN c fun v4 h3=>
 aw vV (qx #[22,22] 22 #[a.1,v4]) aN h3 fun v5 f=>
 e ((⟨v5.ptr,v5.len,v5.cap⟩:Sl),qc vR (a.2+1)) f)
 (R a.1 c)) ((⟨none,0,0⟩:Sl),(0:Int)) d
theorem Cy(a:bL)(b:@so R h a):ab vV 199 #[a] h R:=aq af func199 (an.tn (an.tn (.two (an.tn (.inn (.loop [(3,dv),(9,be)] [(3,5),(9,17)] .n))) .n))) b
def DV(a:Int):Prop:=
 Br (a<0) (R (.complex .f64 0 0) h) (Br (a>=4096)
 (R (.complex .f64 0 0) h)
 (ac vV 256 #[] kb h fun e g=>
 aS (σ:=Int) (fun d f c=>
 Br (d==a)
 (∃a3,(e=some a3)/\
 ∃b:Nat×Nat,cellOf c a3=some (.complex .f64 b.1 b.2)/\
 R (.complex .f64 b.1 b.2) c)
 (ac vV 257 #[e] iG c fun _ h3=>
 f (qc vR (d+1)) h3)) (0:Int) g))
theorem Jl(a:Int)(b:@DV R h a):ab vV 200 #[a] h R:=aq af func200 (an.tn (.scope 0 [(4,be)] [(2,3),(4,5),(12,23)] [.n,.n,.n] [.n] [])) b
def BD(c:Nat×Nat)(b:Nat×Nat):Prop:=
 ∃a:Nat×Nat,(fM vV .sub 250 (.tmp 6) (.tmp 7) (.complex .f64 c.1 c.2) (.complex .f64 b.1 b.2) (.complex .f64 a.1 a.2))/\
 ∃f:Nat,((FloatKind.format .f64).mul a.1 a.1=some f)/\
 ∃d:Nat,((FloatKind.format .f64).mul a.2 a.2=some d)/\
 ∃e:Nat,((FloatKind.format .f64).add f d=some e)/\
 R (.float .f64 e) h
theorem Hs(b:Nat×Nat)(a:Nat×Nat)(c:@BD R h b a):ab vV 201 #[(.complex .f64 b.1 b.2),(.complex .f64 a.1 a.2)] h R:=aq af func201 .n c
def pX(c:Int×Nat)(b:Int×Nat):Prop:=
 aL vV (qI 257 (vQ #[c.1,(.float .f64 c.2)])) h fun i p=>
 aL vV (qI 257 (vQ #[b.1,(.float .f64 b.2)])) p fun g a=>
 ∃x3:Nat,cellOf a (i.add 1)=some (.float .f64 x3)/\
 ∃l:Nat,cellOf a (g.add 1)=some (.float .f64 l)/\
 ∃f,cellOf a i=some (vL vR f)/\
 ∃d,cellOf a g=some (vL vR d)/\
 ac vV 205 #[(.float .f64 x3),(.float .f64 l)] bo a fun n h3=>
 (ar.ok [(g,d),(i,f)] h3)/\
 ac vV 206 #[f,d] bo h3 fun o j=>
 (ar.ok [] j)/\
 aw vV (qu 22 2 #[(0,n),(1,o)]) aN j fun v9 m=>
 (ar.ok [] m)/\
 ac vV 204 #[v9] bo m fun e k=>
 (ar.ok [] k)/\
 R e k
theorem Bc(b:Int×Nat)(a:Int×Nat)(c:@pX R h b a):ab vV 203 #[(vQ #[b.1,(.float .f64 b.2)]),(vQ #[a.1,(.float .f64 a.2)])] h R:=aq af func203 .n c
def pd(a:Sl):Prop:=
 aS (σ:=Int) (fun b e c=>
 Br (b<(a.len:Int))
 (∃d,(a.ptr=some d/\0<=b/\b<(a.len:Int))/\
 ∃x3,cellOf c (d.add (b.toNat*1))=some (vL vR x3)/\
 Br (x3 !=0)
 (R x3 c)
 (e (qc vR (b+1)) c))
 (R (vL vR 0) c)) (0:Int) h
theorem sq(a:Sl)(b:@pd R h a):ab vV 204 #[a] h R:=aq af func204 (an.tn (an.tn (.two (an.tn (.inn (.loop [(8,be)] [(2,3),(5,6),(8,17)] .n))) .n))) b
def lc(a:Nat)(b:Nat):Prop:=
 ac vV 259 #[(.float .f64 a)] bU h fun f e=>
 ac vV 259 #[(.float .f64 b)] bU e fun d c=>
 Br f
 (Br d
 (R (vL vR 0) c)
 (R (vL vR (-1:Int)) c))
 (Br d
 (R (vL vR 1) c)
 (Br ((FloatKind.format .f64).order a b==some .lt)
 (R (vL vR (-1:Int)) c)
 (Br ((FloatKind.format .f64).order a b==some .gt)
 (R (vL vR 1) c)
 (R (vL vR 0) c))))
theorem pK(a:Nat)(b:Nat)(c:@lc R h a b):ab vV 205 #[(.float .f64 a),(.float .f64 b)] h R:=aq af func205 .n c
def kl(a:Int)(b:Int):Prop:=
 ac vV 236 #[a] bU h fun f e=>
 ac vV 236 #[b] bU e fun d c=>
 Br f
 (Br d
 (R (vL vR 0) c)
 (R (vL vR (-1:Int)) c))
 (Br d
 (R (vL vR 1) c)
 (Br (a<b)
 (R (vL vR (-1:Int)) c)
 (Br (a>b)
 (R (vL vR 1) c)
 (R (vL vR 0) c))))
theorem mi(a:Int)(b:Int)(c:@kl R h a b):ab vV 206 #[a,b] h R:=aq af func206 .n c
def xL(i:cH):Prop:=
 aL vV (qI 49 i) h fun b a=>
 aV (σ:=Bool) (fun o f=>
 Br o (∃m:bL,ah f (b.add 3) 0 m/\
 ac vV 36 #[m] bU f fun g h3=>
 Br g (∃d:Sl,cellOf h3 (b.add 7)=some (d:Value)/\
 ∃e,cellOf h3 ((b.add 3).add 2)=some (vL vR e)/\
 R (vP ((d.len:Int)==e)) h3) (R false h3)) (R false f))
 (fun c=>
 ∃x2,cellOf a b=some (vL vR x2)/\
 Br (x2>=0) (∃x3,cellOf a b=some (vL vR x3)/\
 Br (x3<=16777215) (∃k,cellOf a (b.add 1)=some (vL vR k)/\
 Br (k>=0) (∃l,cellOf a (b.add 1)=some (vL vR l)/\
 Br (l<8) (∃j,cellOf a (b.add 2)=some (vL vR j)/\
 Br (j>=0) (∃n,cellOf a (b.add 2)=some (vL vR n)/\
 c (decide (n<=65535)) a) (c false a)) (c false a)) (c false a)) (c false a)) (c false a))
theorem FA(a:cH)(b:@xL R h a):ab vV 207 #[a] h R:=aq af func207 (an.tn (.two (.join [(3,kc)] [(3,32)] .n) .n)) b
def pY(a:Sl)(d:Int)(b:Int):Prop:=
 aS (σ:=Sl×Int) (fun c g e=>
 Br (c.2>=0)
 ((0<=(qc vR (8*c.2)))/\
 aw vV (qu 31 1 #[(0,(vL vS (qc vS (qD d (2^min (qc vR (8*c.2)).toNat (qf vR))))))]) aN e fun i f=>
 aw vV (qx #[31,31] 31 #[c.1,i]) aN f fun v3 h3=>
 g ((⟨v3.ptr,v3.len,v3.cap⟩:Sl),qc vR (c.2-1)) h3)
 (R c.1 e)) ((⟨a.ptr,a.len,a.cap⟩:Sl),qc vR (b-1)) h
theorem Bd(b:Sl)(c:Int)(a:Int)(d:@pY R h b c a):ab vV 208 #[b,c,a] h R:=aq af func208 (an.tn (.two (an.tn (.inn (.loop [(0,dv),(7,be)] [(0,1),(7,8),(10,22)] .n))) .n)) d
def gq(b:Sl)(E:Int)(u:Int)(g:Int)(a:dl):Prop:=
 aS (σ:=WM) (fun c x s=>
 Br ((qc vR (c.2.1-c.1))<=12)
 (ac vV 260 #[b,c.1,c.2.1,(.func (.func a.1) a.2.1 a.2.2)] iG s fun _ K=>
 R (.tuple #[]) K)
 (Br (c.2.2.1==0)
 (ac vV 261 #[b,c.1,c.2.1,(.func (.func a.1) a.2.1 a.2.2)] iG s fun _ h3=>
 R (.tuple #[]) h3)
 (aV (σ:=Int) (fun q L=>
 ac vV 263 #[b,c.1,c.2.1,(.func (.func a.1) a.2.1 a.2.2)] (.many [be,be]) L fun t F=>
 aV (σ:=Int×Int) (fun k h8=>
 aV (σ:=Unit) (fun _ e=>
 aV (σ:=Int) (fun j v=>
 ac vV 267 #[b,j,c.2.1,k.1,(.func (.func a.1) a.2.1 a.2.2)] (.many [be,kc]) v fun d p=>
 ((8:Int)≠0)/\
 Br ((qc vR (d.1-j))<(qc vR (c.2.1-d.1)))
 (ac vV 209 #[b,j,d.1,q,(.func (.func a.1) a.2.1 a.2.2)] iG p fun _ w=>
 x (qc vR (d.1+1),c.2.1,q,decide ((qc vR (d.1-j))>=(qc vR (wQ (qc vR (c.2.1-c.1)) 8))),d.2) w)
 (ac vV 209 #[b,(qc vR (d.1+1)),c.2.1,q,(.func (.func a.1) a.2.1 a.2.2)] iG p fun _ B=>
 x (j,d.1,q,decide ((qc vR (c.2.1-d.1))>=(qc vR (wQ (qc vR (c.2.1-c.1)) 8))),d.2) B))
 (fun O=>
 aV (σ:=Bool) (fun y o=>
 Br y
 (ac vV 266 #[b,c.1,c.2.1,k.1,(.func (.func a.1) a.2.1 a.2.2)] bo o fun A z=>
 x (A,c.2.1,q,c.2.2.2.1,c.2.2.2.2) z)
 (O c.1 o))
 (fun I=>
 Br (c.1>0) (∃n,(b.ptr=some n/\0<=(qc vR (c.1-1))/\(qc vR (c.1-1))<(b.len:Int))/\
 ∃i:gD,ah e (n.add ((qc vR (c.1-1)).toNat*4)) 0 i/\
 ∃m,(b.ptr=some m/\0<=k.1/\k.1<(b.len:Int))/\
 ∃f:gD,ah e (m.add (k.1.toNat*4)) 0 f/\
 iJ C a.1 (a.2.1.toList++[(vQ #[i.1,i.2.1,i.2.2.1,i.2.2.2]),(vQ #[f.1,f.2.1,f.2.2.1,f.2.2.2])]++a.2.2.toList) bo e fun D l=>
 (ar.ok [] l)/\
 I (!(decide (D<0))) l) ((ar.ok [] e)/\
 I false e))))
 (fun r=>
 Br c.2.2.2.1 (Br c.2.2.2.2 (Br (k.2==1)
 (ac vV 265 #[b,c.1,c.2.1,(.func (.func a.1) a.2.1 a.2.2)] bU h8 fun M G=>
 Br M
 (R (.tuple #[]) G)
 (r () G))
 (r () h8)) (r () h8)) (r () h8)))
 (fun H=>
 Br (t.2==2)
 (ac vV 264 #[b,c.1,c.2.1,(.func (.func a.1) a.2.1 a.2.2)] iG F fun _ P=>
 H (qc vR ((qc vR (c.2.1-1))-(qc vR (t.1-c.1))),(1:Int)) P)
 (H (t.1,t.2) F)))
 (fun J=>
 Br (!c.2.2.2.1)
 (ac vV 262 #[b,c.1,c.2.1,(.func (.func a.1) a.2.1 a.2.2)] iG s fun _ N=>
 J (qc vR (c.2.2.1-1)) N)
 (J c.2.2.1 s))))) (E,u,g,true,true) h
theorem jT(c:Sl)(e:Int)(d:Int)(b:Int)(a:dl)(f:@gq R h c e d b a):ab vV 209 #[c,e,d,b,(.func (.func a.1) a.2.1 a.2.2)] h R:=aq af func209 (an.tn (an.tn (.inn (.loop [(1,be),(2,be),(3,be),(10,kc),(11,kc)] [(1,4),(10,148)] (.inn (an.tn (an.tn (an.tn (.two (.join [(3,be)] [(3,4),(38,47)] .n) (an.tn (.two (.join [(13,be),(14,be)] [(13,15),(55,68)] .n) (.two (.join [] [(68,81)] .n) (.two (.join [(1,be)] [(1,2),(15,16),(81,105)] (.two (.join [(97,kc)] [(81,98)] .n) .n)) .n))))))))))))) f
def nC(a:ByteArray):Prop:=
 R (vP (!(a.toList==a.toList))) h
theorem tV(a:ByteArray)(b:@nC R h a):ab vV 210 #[a] h R:=aq af func210 .n b
def uK(d:bL)(a:Int)(b:Sl):Prop:=
 aL vV (qI 24 d) h fun c g=>
 ∃x2:bL,ah g c 0 x2/\
 ac vV 197 #[] kb g fun i e=>
 (ar.ok [(c,x2.1),(c.add 1,x2.2.1),(c.add 2,x2.2.2)] e)/\
 ac vV 198 #[x2,(vL vT a),b] aN e fun j h3=>
 (ar.ok [] h3)/\
 ac vV 269 #[i,j] bo h3 fun k f=>
 (ar.ok [] f)/\
 R k f
theorem DW(c:bL)(a:Int)(b:Sl)(d:@uK R h c a b):ab vV 214 #[c,(vL vT a),b] h R:=aq af func214 .n d
def DX(b:bL):Prop:=
 aL vV (qI 24 b) h fun c f=>
 ∃x2:bL,ah f c 0 x2/\
 ac vV 36 #[x2] bU f fun g a=>
 Br (!g)
 (R (vL vR 0) a)
 (∃e,cellOf a c=some (vL vR e)/\
 ∃d,cellOf a (c.add 1)=some (vL vR d)/\
 R (qc vR (e+d)) a)
theorem Jm(a:bL)(b:@DX R h a):ab vV 215 #[a] h R:=aq af func215 .n b
def DY(a:Int):Prop:=
 aL vV (qI 353 (vQ #[(vL vU (qc vU a))])) h fun c b=>
 R c b
theorem Jn(a:Int)(b:@DY R h a):ab vV 223 #[(vL vT a)] h R:=aq af func223 .n b
def pe(a:aK):Prop:=
 Br (qS a)
 (R (vL vT 0) h)
 (∃d,(a=some d)/\
 ∃x2,cellOf h d=some (vL vU x2)/\
 ∃a3,(a=some a3)/\
 ae vV (qe 226 a3 (vL vU (qc vU ((qc vU (x2*6364136223846793005))+1442695040888963407)))) h fun _ c=>
 ∃a4,(a=some a4)/\
 ∃b,cellOf c a4=some (vL vU b)/\
 (0<=(32:Int))/\
 R (vL vT (qc vT (qD b (2^min (32:Int).toNat (qf vU))))) c)
theorem xM(a:aK)(b:@pe R h a):ab vV 224 #[a] h R:=aq af func224 .n b
def sr(a:Sl)(b:aK):Prop:=
 Br ((a.len:Int)==0)
 (R (vL vR 0) h)
 (∃c,(a.ptr=some c/\0<=(qc vR ((a.len:Int)-1))/\(qc vR ((a.len:Int)-1))<(a.len:Int))/\
 ∃x2:Int,cellOf h (c.add ((qc vR ((a.len:Int)-1)).toNat*1))=some (vL vR x2)/\
 ac vV 288 #[b,x2] bo h fun e f=>
 ac vV 287 #[a,e] bo f fun g d=>
 R g d)
theorem Cz(a:Sl)(b:aK)(c:@sr R h a b):ab vV 225 #[a,b] h R:=aq af func225 .n c
def pZ(a:Int):Prop:=
 aV (σ:=Unit) (fun _ k=>
 aw vV (zA 22 (vL vR 0) a) aN k fun d f=>
 aS (σ:=Sl×Int×Int) (fun b l h3=>
 Br (b.2.2<=a)
 (ac vV 289 #[a,b.2.2] bo h3 fun e g=>
 aw vV (qu 22 1 #[(0,(qc vR (b.2.1+e)))]) aN g fun v5 m=>
 aw vV (qx #[22,22] 22 #[b.1,v5]) aN m fun c j=>
 l ((⟨c.ptr,c.len,c.cap⟩:Sl),qc vR (b.2.1+e),qc vR (b.2.2+1)) j)
 (R b.1 h3)) ((⟨d.ptr,d.len,d.cap⟩:Sl),(0:Int),(1:Int)) f)
 (fun i=>
 Br (a<1) (R (vM none 0 0) h) (Br (a>64)
 (R (vM none 0 0) h)
 (i () h)))
theorem Be(a:Int)(b:@pZ R h a):ab vV 226 #[a] h R:=aq af func226 (an.tn (.two (.join [] [(2,3),(6,12)] .n) (an.tn (an.tn (.two (an.tn (.inn (.loop [(3,dv),(4,be),(5,be)] [(3,6),(14,28)] .n))) .n))))) b
def uL(n:aK)(d:Int)(c:Int):Prop:=
 aV (σ:=Unit) (fun _ y=>
 aw vV (zA 22 d d) aN y fun b u=>
 aS (σ:=Int) (fun e x h3=>
 Br (e<(b.len:Int))
 (∃a4,(b.ptr=some a4/\0<=e/\e<(b.len:Int))/\
 ae vV (qe 3 (a4.add (e.toNat*1)) e) h3 fun _ w=>
 x (qc vR (e+1)) w)
 (aS (σ:=Int) (fun a v q=>
 Br (a<c)
 (ac vV 288 #[n,(qc vR (d-a))] bo q fun f m=>
 ∃p,(b.ptr=some p/\0<=(qc vR (a+f))/\(qc vR (a+f))<(b.len:Int))/\
 ∃o:Int,cellOf m (p.add ((qc vR (a+f)).toNat*1))=some (vL vR o)/\
 ∃a9,(b.ptr=some a9/\0<=a/\a<(b.len:Int))/\
 ∃j,cellOf m (a9.add (a.toNat*1))=some (vL vR j)/\
 ∃i,(b.ptr=some i/\0<=a/\a<(b.len:Int))/\
 ae vV (qe 3 (i.add (a.toNat*1)) o) m fun _ r=>
 (ar.ok [] r)/\
 ∃k,(b.ptr=some k/\0<=(qc vR (a+f))/\(qc vR (a+f))<(b.len:Int))/\
 ae vV (qe 3 (k.add ((qc vR (a+f)).toNat*1)) j) r fun _ h8=>
 (ar.ok [] h8)/\
 v (qc vR (a+1)) h8)
 ((0<=c/\c<=(b.cap:Int))/\
 ac vV 100 #[(vM b.ptr c.toNat b.cap)] aN q fun g t=>
 ac vV 54 #[g] iG t fun _ l=>
 R g l)) (0:Int) h3)) (0:Int) u)
 (fun s=>
 Br (d<0) (R (vM none 0 0) h) (Br (d>64) (R (vM none 0 0) h) (Br (c<0) (R (vM none 0 0) h) (Br (c>d)
 (R (vM none 0 0) h)
 (s () h)))))
theorem DZ(b:aK)(a:Int)(c:Int)(d:@uL R h b a c):ab vV 227 #[b,a,c] h R:=aq af func227 (an.tn (.two (.join [] [(6,7),(12,27)] .n) (an.tn (.two (an.tn (.inn (.loop [(31,be)] [(8,9),(31,39)] .n))) (.two (an.tn (.inn (.loop [(40,be)] [(9,11),(40,65)] .n))) .n))))) d
def uM(b:Sl):Prop:=
 aS (σ:=Int×Int) (fun a e c=>
 Br (a.2<(b.len:Int))
 (∃d,(b.ptr=some d/\0<=a.2/\a.2<(b.len:Int))/\
 ∃x3,cellOf c (d.add (a.2.toNat*1))=some (vL vS x3)/\
 (0<=(8:Int))/\
 e (qc vR ((qq (qf vR) (qc vR (a.1*2^min (8:Int).toNat (qf vR)))|||(qq (qf vR) (qc vR x3))).toNat:Nat),qc vR (a.2+1)) c)
 (R a.1 c)) ((0:Int),(0:Int)) h
theorem Ea(a:Sl)(b:@uM R h a):ab vV 228 #[a] h R:=aq af func228 (an.tn (an.tn (.two (an.tn (.inn (.loop [(3,be),(8,be)] [(3,4),(5,6),(8,18)] .n))) .n))) b
def qr(m:gD)(a:Addr):Prop:=
 aL vV (qI 123 m) h fun d b=>
 ∃x2,cellOf b (d.add 1)=some (vL vR x2)/\
 ∃x3,cellOf b a=some (vL vR x3)/\
 Br (x2==x3) (∃g:Sl,cellOf b (d.add 3)=some (g:Value)/\
 ∃i,cellOf b (a.add 1)=some (vL vR i)/\
 Br ((g.len:Int)>i) (∃l,cellOf b (a.add 6)=some (vL vT l)/\
 ∃p,cellOf b a=some (vL vR p)/\
 ∃o,cellOf b (a.add 1)=some (vL vR o)/\
 ∃j:Sl,cellOf b (d.add 3)=some (j:Value)/\
 ∃c,cellOf b (a.add 1)=some (vL vR c)/\
 ∃f,(j.ptr=some f/\0<=c/\c<(j.len:Int))/\
 ∃e,cellOf b (f.add (c.toNat*1))=some (vL vR e)/\
 ac vV 95 #[p,o,e] (.one (.sc (.int .u32))) b fun k n=>
 (ar.ok [(a.add 1,c),(d.add 3,j),(a.add 6,(vL vT l)),(a.add 1,i),(d.add 3,g),(a,x3),(d.add 1,x2)] n)/\
 R (vP (l==k)) n) ((ar.ok [(a.add 1,i),(d.add 3,g),(a,x3),(d.add 1,x2)] b)/\
 R false b)) ((ar.ok [(a,x3),(d.add 1,x2)] b)/\
 R false b)
theorem Bf(b:gD)(a:Addr)(c:@qr R h b a):ab vV 229 #[b,a] h R:=aq af func229 .n c
def gr(b:Sl)(c:Int)(a:dl):Prop:=
 aS (σ:=Int×Int) (fun f m k=>
 Br (f.2<=c)
 (ac vV 290 #[b,f.1,f.2,(.func (.func a.1) a.2.1 a.2.2)] iG k fun _ l=>
 m (f.2,qc vR (f.2+20)) l)
 (ac vV 290 #[b,f.1,c,(.func (.func a.1) a.2.1 a.2.2)] iG k fun _ h3=>
 aS (σ:=Int) (fun e j i=>
 Br (e<c)
 (aS (σ:=Int×Int) (fun d n g=>
 Br (d.2<=c)
 (ac vV 291 #[b,d.1,(qc vR (d.1+e)),d.2,(.func (.func a.1) a.2.1 a.2.2)] iG g fun _ o=>
 n (d.2,qc vR (d.2+(qc vR (2*e)))) o)
 (Br ((qc vR (d.1+e))<c)
 (ac vV 291 #[b,d.1,(qc vR (d.1+e)),c,(.func (.func a.1) a.2.1 a.2.2)] iG g fun _ p=>
 j (qc vR (e*2)) p)
 (j (qc vR (e*2)) g))) ((0:Int),qc vR (2*e)) i)
 (R (.tuple #[]) i)) (20:Int) h3)) ((0:Int),(20:Int)) h
theorem jU(b:Sl)(c:Int)(a:dl)(d:@gr R h b c a):ab vV 230 #[b,c,(.func (.func a.1) a.2.1 a.2.2)] h R:=aq af func230 (an.tn (an.tn (.two (.inn (.loop [(7,be),(8,be)] [(7,9),(11,23)] .n)) (an.tn (.inn (.loop [(6,be)] [(6,10),(28,63)] (an.tn (.inn (an.tn (.two (.inn (.loop [(7,be),(8,be)] [(7,9),(33,49)] .n)) .n)))))))))) d
def lN(a:Int):Prop:=
 R (vP (a !=a)) h
theorem nU(a:Int)(b:@lN R h a):ab vV 236 #[a] h R:=aq af func236 .n b
def ss(a:Int):Prop:=
 ac vV 179 #[a,(vL vR 0),(vL vR 15)] bU h fun c b=>
 R (vP (!c)) b
theorem CA(a:Int)(b:@ss R h a):ab vV 237 #[a] h R:=aq af func237 .n b
def Eb(p:bL):Prop:=
 aL vV (qI 24 p) h fun d w=>
 ∃x2:bL,ah w d 0 x2/\
 ac vV 36 #[x2] bU w fun B t=>
 Br (!B)
 (R (vM none 0 0) t)
 (ac vV 197 #[] kb t fun y h3=>
 ∃u,cellOf h3 (d.add 1)=some (vL vR u)/\
 aS (σ:=Sl×Int) (fun f z j=>
 Br (f.2<u)
 (aV (σ:=Sl) (fun c x=>
 ∃i,cellOf x d=some (vL vR i)/\
 aS (σ:=Int) (fun a D h8=>
 Br (a<i)
 (ac vV 295 #[y,(qc vR ((qc vR (f.2+1))*(qc vR (a+1))))] (.one (.sc (.int .u8))) h8 fun o A=>
 ∃g,(c.ptr=some g/\0<=a/\a<(c.len:Int))/\
 ae vV (qe 5 (g.add (a.toNat*1)) (vL vS o)) A fun _ l=>
 D (qc vR (a+1)) l)
 (aw vV (qu 72 1 #[(0,c)]) aN h8 fun m n=>
 aw vV (qx #[72,72] 72 #[f.1,m]) aN n fun e q=>
 z ((⟨e.ptr,e.len,e.cap⟩:Sl),qc vR (f.2+1)) q)) (0:Int) x)
 (fun F=>
 ∃s:bL,ah j d 0 s/\
 ∃k,cellOf j d=some (vL vR k)/\
 ac vV 215 #[s] bo j fun E v=>
 (ar.ok [(d,k)] v)/\
 ac vV 294 #[E,(qc vR (k+f.2))] aN v fun b r=>
 (ar.ok [(d,k)] r)/\
 F (⟨b.ptr,b.len,b.cap⟩:Sl) r))
 (R f.1 j)) ((⟨none,0,0⟩:Sl),(0:Int)) h3)
theorem Jo(a:bL)(b:@Eb R h a):ab vV 241 #[a] h R:=aq af func241 (an.tn (an.tn (an.tn (an.tn (.two (an.tn (.inn (.loop [(4,dv),(14,be)] [(4,8),(14,45)] (an.tn (an.tn (.two (.inn (an.tn (.two (.join [(6,dv)] [(6,7),(17,24)] .n) (.two (an.tn (.inn (.loop [(26,be)] [(7,8),(26,40)] .n))) .n)))) .n)))))) .n))))) b
def Gz(a:Sl):Prop:=
 aS (σ:=Int) (fun c f b=>
 Br (c<(a.len:Int))
 (∃e,(a.ptr=some e/\0<=c/\c<(a.len:Int))/\
 ∃x3:Sl,cellOf b (e.add (c.toNat*1))=some (x3:Value)/\
 ∃a4,(a.ptr=some a4/\0<=(0:Int)/\(0:Int)<(a.len:Int))/\
 ∃d:Sl,cellOf b (a4.add ((0:Int).toNat*1))=some (d:Value)/\
 Br ((x3.len:Int) !=(d.len:Int)) (R false b) (Br ((x3.len:Int)>64)
 (R false b)
 (f (qc vR (c+1)) b)))
 (R true b)) (0:Int) h
theorem KQ(a:Sl)(b:@Gz R h a):ab vV 247 #[a] h R:=aq af func247 (an.tn (.two (an.tn (.inn (.loop [(7,be)] [(2,3),(4,5),(7,24)] .n))) .n)) b
def BE(a:Sl):Prop:=
 Br ((a.len:Int)==0)
 (R (vL vR 0) h)
 (∃b,(a.ptr=some b/\0<=(0:Int)/\(0:Int)<(a.len:Int))/\
 ∃x2:Sl,cellOf h (b.add ((0:Int).toNat*1))=some (x2:Value)/\
 R (vL vR (x2.len:Int)) h)
theorem Ht(a:Sl)(b:@BE R h a):ab vV 248 #[a] h R:=aq af func248 .n b
def GA(a:Sl):Prop:=
 aw vV (zA 72 (vL vR 0) (vL vR (a.len:Int))) aN h fun e k=>
 aS (σ:=Sl×Int) (fun b g c=>
 Br (b.2<(a.len:Int))
 (∃a3,(a.ptr=some a3/\0<=b.2/\b.2<(a.len:Int))/\
 ∃f:Sl,cellOf c (a3.add (b.2.toNat*1))=some (f:Value)/\
 ac vV 34 #[f] aN c fun m h3=>
 aw vV (qu 72 1 #[(0,m)]) aN h3 fun i j=>
 aw vV (qx #[72,72] 72 #[b.1,i]) aN j fun d l=>
 g ((⟨d.ptr,d.len,d.cap⟩:Sl),qc vR (b.2+1)) l)
 (R b.1 c)) ((⟨e.ptr,e.len,e.cap⟩:Sl),(0:Int)) k
theorem KR(a:Sl)(b:@GA R h a):ab vV 249 #[a] h R:=aq af func249 (an.tn (an.tn (.two (an.tn (.inn (.loop [(3,dv),(11,be)] [(3,4),(5,6),(11,21)] .n))) .n))) b
def xN(j:aK)(a:Sl)(g:Int):Prop:=
 aS (σ:=Int×Int) (fun b E J=>
 Br (b.2<g)
 (ac vV 307 #[a,b.1,b.2] bo J fun m x=>
 Br (m<0)
 (E (b.1,qc vR (b.2+1)) x)
 (aV (σ:=Unit) (fun _ y=>
 aV (σ:=Unit) (fun _ M=>
 aS (σ:=Int) (fun c H d=>
 Br (c<(a.len:Int))
 (Br (c !=b.1)
 (∃k,(a.ptr=some k/\0<=c/\c<(a.len:Int))/\
 ∃i:Sl,cellOf d (k.add (c.toNat*1))=some (i:Value)/\
 ∃r,(i.ptr=some r/\0<=b.2/\b.2<(i.len:Int))/\
 ∃u,cellOf d (r.add (b.2.toNat*1))=some (vL vS u)/\
 ∃a25,(a.ptr=some a25/\0<=b.1/\b.1<(a.len:Int))/\
 ∃q:Sl,cellOf d (a25.add (b.1.toNat*1))=some (q:Value)/\
 ∃s,(a.ptr=some s/\0<=c/\c<(a.len:Int))/\
 ∃v:Sl,cellOf d (s.add (c.toNat*1))=some (v:Value)/\
 ac vV 310 #[j,(vL vS u),q,v] iG d fun _ p=>
 (ar.ok [(k.add (c.toNat*1),i)] p)/\
 H (qc vR (c+1)) p)
 (H (qc vR (c+1)) d))
 (E (qc vR (b.1+1),qc vR (b.2+1)) d)) (0:Int) M)
 (fun N=>
 ∃f,(a.ptr=some f/\0<=b.1/\b.1<(a.len:Int))/\
 ∃e:Sl,cellOf y (f.add (b.1.toNat*1))=some (e:Value)/\
 ∃w,(e.ptr=some w/\0<=b.2/\b.2<(e.len:Int))/\
 ∃t,cellOf y (w.add (b.2.toNat*1))=some (vL vS t)/\
 ∃n,(a.ptr=some n/\0<=b.1/\b.1<(a.len:Int))/\
 ∃l:Sl,cellOf y (n.add (b.1.toNat*1))=some (l:Value)/\
 ac vV 309 #[j,(vL vS t)] (.one (.sc (.int .u8))) y fun A D=>
 (ar.ok [(n.add (b.1.toNat*1),l),(f.add (b.1.toNat*1),e)] D)/\
 ac vV 308 #[j,(vL vS A),l] aN D fun z L=>
 (ar.ok [(f.add (b.1.toNat*1),e)] L)/\
 ∃o,(a.ptr=some o/\0<=b.1/\b.1<(a.len:Int))/\
 ae vV (qe 31 (o.add (b.1.toNat*1)) z) L fun _ h8=>
 (ar.ok [] h8)/\
 N () h8))
 (fun O=>
 ∃a3,(a.ptr=some a3/\0<=m/\m<(a.len:Int))/\
 ∃G:Sl,cellOf x (a3.add (m.toNat*1))=some (G:Value)/\
 ∃a5,(a.ptr=some a5/\0<=b.1/\b.1<(a.len:Int))/\
 ∃B:Sl,cellOf x (a5.add (b.1.toNat*1))=some (B:Value)/\
 ∃F,(a.ptr=some F/\0<=b.1/\b.1<(a.len:Int))/\
 ae vV (qe 31 (F.add (b.1.toNat*1)) G) x fun _ h3=>
 (ar.ok [] h3)/\
 ∃K,(a.ptr=some K/\0<=m/\m<(a.len:Int))/\
 ae vV (qe 31 (K.add (m.toNat*1)) B) h3 fun _ I=>
 (ar.ok [] I)/\
 O () I)))
 (R b.1 J)) ((0:Int),(0:Int)) h
theorem FB(c:aK)(b:Sl)(a:Int)(d:@xN R h c b a):ab vV 250 #[c,b,a] h R:=aq af func250 (an.tn (an.tn (.two (an.tn (.inn (.loop [(7,be),(12,be)] [(7,11),(12,82)] (an.tn (an.tn (.two (.inn (an.tn (an.tn (an.tn (.two (.join [] [(21,35)] .n) (.two (.join [] [(35,53)] .n) (.two (an.tn (.inn (.loop [(55,be)] [(10,11),(55,79)] .n))) .n))))))) .n)))))) .n))) d
def Ec(a:aK):Prop:=
 Br (qS a)
 (ac vV 197 #[] kb h fun c b=>
 R c b)
 (R a h)
theorem Jp(a:aK)(b:@Ec R h a):ab vV 251 #[a] h R:=aq af func251 .n b
end
end Go.Qw
