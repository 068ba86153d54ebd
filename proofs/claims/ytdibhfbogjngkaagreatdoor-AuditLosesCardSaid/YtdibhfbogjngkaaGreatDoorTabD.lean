/- Lemmas for the proof of the law; no condition. -/
import Derived.Test.YtdibhfbogjngkaaGreatDoorTabA
set_option linter.unusedVariables false
open Go.Proofs.Tryz renaming prog -> xR
open Option renaming isNone -> qW
open Go.Value renaming agg -> xM, bool -> xL, int -> xH, slice -> xI
open Go.IntKind renaming bits -> qk, i64 -> xN, u32 -> xP, u64 -> xQ, u8 -> xO, wrap -> qc
open Go.Instr renaming alloc -> qK, box -> qO, buildSlice -> qq, makeSlice -> qF, storeAt -> qf
open Go.Builtin renaming append_ -> qt, clear_ -> yy
open BitVec renaming ofInt -> qD
open Int renaming tmod -> wB
open Go.Proofs.Tryz
set_option maxRecDepth 1000000
open Option renaming some -> dB
namespace Go.Qw
noncomputable section
open Go Go.Vc Go.Proofs
variable {R:Kr} {h:Heap}
def re(b:aT):Prop:=
 ∃q,(b=dB q)/\
 bn h (q.add 4) λx2=>
 aM (σ:=Int) (λa r d=>
 Br (a<(x2.len:Int))
 (aR x2 a λa4=>
 bn d (a4.add (a.toNat*1)) λo=>
 Br (!(qW o.ptr))
 (∃j,(b=dB j)/\
 bn d (j.add 9) λp=>
 ∃k,(b=dB k)/\
 bn d (k.add 10) λm=>
 ∃c,(b=dB c)/\
 bn d ((c.add 6).add 1) λe=>
 az xR (qF 34 (xH xN (e.len:Int)) (xH xN (e.len:Int))) aL d λi l=>
 (aA.ok [((c.add 6).add 1,e),(k.add 10,m),(j.add 9,p)] l)/\
 aR p a λg=>
 ag xR (qf 34 (g.add (a.toNat*1)) i) l λ_ h3=>
 (aA.ok [] h3)/\
 aR m a λf=>
 ag xR (qf 34 (f.add (a.toNat*1)) o) h3 λ_ n=>
 (aA.ok [] n)/\
 r (qc xN (a+1)) n)
 (r (qc xN (a+1)) d))
 (R (.tuple #[]) d)) (0:Int) h
theorem Cx(a:aT)(b:@re R h a):ac xR 219 #[a] h R:=au af func219 (al.tn (.inn (.loop [(9,ba)] [(2,4),(9,37)] .n))) b
def pk(b:aT):Prop:=
 ∃a1,(b=dB a1)/\
 bn h ((a1.add 6).add 1) λx2=>
 ∃a3,(b=dB a3)/\
 bn h ((a3.add 6).add 2) λx4=>
 aM (σ:=Sl×Sl×Int) (λc K1 l=>
 Br (c.2.2<(x4.len:Int))
 (aR x4 c.2.2 λa6=>
 bf l (a6.add (c.2.2.toNat*1)) λB=>
 bi (σ:=Sl×Sl) (λj T=>
 ∃z,(b=dB z)/\
 bn T (z.add 5) λY=>
 aR Y B λah=>
 bn T (ah.add (B.toNat*2)) λF=>
 aM (σ:=Int) (λg K3 h7=>
 Br (g<(F.len:Int))
 (aR F g λa22=>
 bf h7 (a22.add (g.toNat*1)) λO=>
 ae xR 272 #[b,(xH xO 1),O,j.1,j.2] hJ h7 λ_ h8=>
 K3 (qc xN (g+1)) h8)
 (az xR (qq 85 1 #[(0,j.1)]) aL h7 λv25 h9=>
 az xR (qt #[85,85] 85 #[c.1,v25]) aL h9 λw am=>
 az xR (qq 85 1 #[(0,j.2)]) aL am λN ao=>
 az xR (qt #[85,85] 85 #[c.2.1,N]) aL ao λv28 X=>
 K1 ((⟨w.ptr,w.len,w.cap⟩:Sl),(⟨v28.ptr,v28.len,v28.cap⟩:Sl),qc xN (c.2.2+1)) X)) (0:Int) T)
 (λK2=>
 ∃y,(b=dB y)/\
 bn l (y.add 5) λA=>
 aR A B λJ=>
 bn l ((J.add (B.toNat*2)).add 1) λx=>
 (az xR (qF 34 (xH xN (x2.len:Int)) (xH xN (x2.len:Int))) aL l λs h2=>
 (aA.ok [((J.add (B.toNat*2)).add 1,x),(y.add 5,A)] h2)/\
 ae xR 146 #[x] aL h2 λk h3=>
 (aA.ok [(y.add 5,A)] h3)/\
 K2 ((⟨s.ptr,s.len,s.cap⟩:Sl),(⟨k.ptr,k.len,k.cap⟩:Sl)) h3)/\(ae xR 146 #[x] aL l λr h4=>
 (aA.ok [(y.add 5,A)] h4)/\
 az xR (qF 34 (xH xN (x2.len:Int)) (xH xN (x2.len:Int))) aL h4 λt h5=>
 (aA.ok [(y.add 5,A)] h5)/\
 K2 ((⟨t.ptr,t.len,t.cap⟩:Sl),(⟨r.ptr,r.len,r.cap⟩:Sl)) h5)))
 (∃K,(b=dB K)/\
 ∃E:bJ,an l (K.add 1) 0 E/\
 ae xR 70 #[E] aL l λL ap=>
 aM (σ:=Sl×Sl×Int) (λa K4 e=>
 Br (a.2.2<(L.len:Int))
 (aR L a.2.2 λW=>
 bn e (W.add (a.2.2.toNat*1)) λG=>
 bi (σ:=Sl×Sl) (λi ad=>
 aM (σ:=Int) (λd K6 o=>
 Br (d<(G.len:Int))
 (aR G d λV=>
 gF .u8 o (V.add (d.toNat*1)) λQ=>
 ae xR 272 #[b,(xH xO Q),d,i.1,i.2] hJ o λ_ ab=>
 K6 (qc xN (d+1)) ab)
 (az xR (qq 85 1 #[(0,i.1)]) aL o λv46 U=>
 az xR (qt #[85,85] 85 #[a.1,v46]) aL U λm P=>
 az xR (qq 85 1 #[(0,i.2)]) aL P λS ar=>
 az xR (qt #[85,85] 85 #[a.2.1,S]) aL ar λq Z=>
 K4 ((⟨m.ptr,m.len,m.cap⟩:Sl),(⟨q.ptr,q.len,q.cap⟩:Sl),qc xN (a.2.2+1)) Z)) (0:Int) ad)
 (λK5=>
 ∃v,(b=dB v)/\
 bf e ((v.add 1).add 2) λf=>
 (az xR (qF 34 (xH xN (x2.len:Int)) (xH xN (x2.len:Int))) aL e λp I=>
 (aA.ok [((v.add 1).add 2,f)] I)/\
 az xR (qF 34 f f) aL I λn D=>
 (aA.ok [] D)/\
 K5 ((⟨p.ptr,p.len,p.cap⟩:Sl),(⟨n.ptr,n.len,n.cap⟩:Sl)) D)/\(az xR (qF 34 f f) aL e λv39 H=>
 (aA.ok [] H)/\
 az xR (qF 34 (xH xN (x2.len:Int)) (xH xN (x2.len:Int))) aL H λu M=>
 (aA.ok [] M)/\
 K5 ((⟨u.ptr,u.len,u.cap⟩:Sl),(⟨v39.ptr,v39.len,v39.cap⟩:Sl)) M)))
 (R (.tuple #[a.1,a.2.1]) e)) ((⟨c.1.ptr,c.1.len,c.1.cap⟩:Sl),(⟨c.2.1.ptr,c.2.1.len,c.2.1.cap⟩:Sl),(0:Int)) ap)) ((⟨none,0,0⟩:Sl),(⟨none,0,0⟩:Sl),(0:Int)) h
theorem Bh(a:aT)(b:@pk R h a):ac xR 220 #[a] h R:=au af func220 (al.tn (al.tn (.two (al.tn (.inn (.loop [(2,ci),(3,ci),(29,ba)] [(2,4),(6,9),(10,11),(29,72)] (al.tn (al.tn (.two (.inn (al.tn (.two (.join [(7,ci),(8,ci)] [(7,9),(33,44)] .n) (.two (al.tn (.inn (.loop [(53,ba)] [(10,11),(53,63)] .n))) .n)))) .n)))))) (.two (al.tn (.inn (.loop [(2,ci),(3,ci),(78,ba)] [(2,4),(12,17),(78,113)] (al.tn (al.tn (.two (.inn (al.tn (.two (.join [(13,ci),(14,ci)] [(13,15),(82,90)] .n) (.two (al.tn (.inn (.loop [(92,ba)] [(15,17),(92,104)] .n))) .n)))) .n)))))) .n)))) b
def HI(b:Sl)(a:ByteArray):Prop:=
 Br ((b.len:Int)==0)
 (R (xI none 0 0) h)
 (Br (a.toList==nX.toList)
 (R b h)
 (bi (σ:=Unit) (λ_ h3=>
 ae xR 275 #[a] (.many [(.arr .bool),jp]) h3 λo p=>
 aU xR (qK 338 true (.tuple #[])) p λf s=>
 ag xR (qf 338 f (xM (o.1.map (Sc.enc .bool)).toArray)) s λ_ k=>
 Br o.2
 (ae xR 277 #[b,f] aL k λu q=>
 ae xR 276 #[u,f] aL q λd h8=>
 R d h8)
 (ae xR 279 #[b,a] aL k λe t=>
 ae xR 278 #[e,a] aL t λc g=>
 R c g))
 (λn=>
 Br ((a.size:Int)==1) (∃j:UInt8,(0<=(0:Int)/\a.data[(0:Int).toNat]?=dB j)/\
 Br ((j.toNat:Int)<128)
 (∃l:UInt8,(0<=(0:Int)/\a.data[(0:Int).toNat]?=dB l)/\
 ∃c3:UInt8,(0<=(0:Int)/\a.data[(0:Int).toNat]?=dB c3)/\
 ae xR 274 #[b,(xH xO (l.toNat:Int))] aL h λv m=>
 (aA.ok [] m)/\
 ae xR 273 #[v,(xH xO (c3.toNat:Int))] aL m λr i=>
 (aA.ok [] i)/\
 R r i)
 (n () h)) (n () h))))
theorem OP(b:Sl)(a:ByteArray)(c:@HI R h b a):ac xR 221 #[b,a] h R:=au af func221 (al.tn (al.tn (al.tn (.two (.join [] [(4,5),(13,28)] .n) .n)))) c
def rN(c:aT)(e:Sl):Prop:=
 ∃G,(c=dB G)/\
 bn h (G.add 4) λx2=>
 aM (σ:=Int) (λd H g=>
 Br (d<(x2.len:Int))
 (∃a4,(c=dB a4)/\
 bn g (a4.add 4) λL=>
 aR L d λQ=>
 bn g (Q.add (d.toNat*1)) λN=>
 Br (!(qW N.ptr))
 (H (qc xN (d+1)) g)
 (∃J,(c=dB J)/\
 bn g (J.add 10) λK=>
 aR K d λt=>
 bn g (t.add (d.toNat*1)) λE=>
 ae xR 146 #[E] aL g λf p=>
 ∃m,(c=dB m)/\
 bn p (m.add 9) λy=>
 aR y d λx=>
 bn p (x.add (d.toNat*1)) λn=>
 aM (σ:=Int) (λb P h3=>
 Br (b<(n.len:Int))
 (aR n b λz=>
 gF .u8 h3 (z.add (b.toNat*1)) λu=>
 aR e b λw=>
 bn h3 (w.add (b.toNat*1)) λj=>
 aM (σ:=Int) (λa O k=>
 Br (a<(j.len:Int))
 (aR j a λr=>
 gF .u8 k (r.add (a.toNat*1)) λq=>
 aR f a λa25=>
 gF .u8 k (a25.add (a.toNat*1)) λi=>
 ∃o,(c=dB o)/\
 jI k o λB=>
 ae xR 280 #[B,(xH xO u),(xH xO q)] (.one (.sc (.int .u8))) k λD I=>
 (aA.ok [(a25.add (a.toNat*1),(xH xO i))] I)/\
 aR f a λv=>
 ag xR (qf 5 (v.add (a.toNat*1)) (xH xO (qc xO ((qD (qk xO) i^^^(qD (qk xO) D)).toNat:Nat)))) I λ_ F=>
 (aA.ok [] F)/\
 O (qc xN (a+1)) F)
 (P (qc xN (b+1)) k)) (0:Int) h3)
 (∃l,(c=dB l)/\
 bn h3 (l.add 4) λA=>
 aR A d λs=>
 ag xR (qf 34 (s.add (d.toNat*1)) f) h3 λ_ M=>
 H (qc xN (d+1)) M)) (0:Int) p))
 (R (.tuple #[]) g)) (0:Int) h
theorem Dn(b:aT)(a:Sl)(c:@rN R h b a):ac xR 222 #[b,a] h R:=au af func222 (al.tn (.inn (.loop [(15,ba)] [(4,10),(15,80)] (al.tn (al.tn (.two (.inn (al.tn (al.tn (al.tn (.two (al.tn (.inn (.loop [(42,ba)] [(6,10),(42,72)] (al.tn (al.tn (.two (.inn (al.tn (al.tn (.inn (.loop [(52,ba)] [(8,10),(52,71)] .n))))) .n)))))) .n))))) .n)))))) c
def MM(a:Int):Prop:=
 aU xR (qO 344 (xM #[(xH xQ (qc xQ a))])) h λb c=>
 R b c
theorem TG(a:Int)(b:@MM R h a):ac xR 223 #[(xH xP a)] h R:=au af func223 .n b
def AA(a:aT):Prop:=
 Br (qW a)
 (R (xH xP 0) h)
 (∃b,(a=dB b)/\
 gF .u64 h b λx2=>
 ∃a3,(a=dB a3)/\
 ag xR (qf 311 a3 (xH xQ (qc xQ ((qc xQ (x2*6364136223846793005))+1442695040888963407)))) h λ_ c=>
 ∃a4,(a=dB a4)/\
 gF .u64 c a4 λd=>
 (0<=(32:Int))/\
 R (xH xP (qc xP (Int.fdiv d (2^min (32:Int).toNat (qk xQ))))) c)
theorem HJ(a:aT)(b:@AA R h a):ac xR 224 #[a] h R:=au af func224 .n b
def Do(a:Sl)(b:aT):Prop:=
 Br ((a.len:Int)==0)
 (R (xH xN 0) h)
 (aR a (qc xN ((a.len:Int)-1)) λd=>
 bf h (d.add ((qc xN ((a.len:Int)-1)).toNat*1)) λx2=>
 ae xR 282 #[b,x2] bz h λf e=>
 ae xR 281 #[a,f] bz e λg c=>
 R g c)
theorem KV(b:Sl)(a:aT)(c:@Do R h b a):ac xR 225 #[b,a] h R:=au af func225 .n c
def BP(a:Int):Prop:=
 bi (σ:=Unit) (λ_ l=>
 az xR (qF 22 (xH xN 0) a) aL l λc f=>
 aM (σ:=Sl×Int×Int) (λb i h3=>
 Br (b.2.2<=a)
 (ae xR 283 #[a,b.2.2] bz h3 λe k=>
 az xR (qq 22 1 #[(0,(qc xN (b.2.1+e)))]) aL k λv5 m=>
 az xR (qt #[22,22] 22 #[b.1,v5]) aL m λd g=>
 i ((⟨d.ptr,d.len,d.cap⟩:Sl),qc xN (b.2.1+e),qc xN (b.2.2+1)) g)
 (R b.1 h3)) ((⟨c.ptr,c.len,c.cap⟩:Sl),(0:Int),(1:Int)) f)
 (λj=>
 Br (a<1) (R (xI none 0 0) h) (Br (a>64)
 (R (xI none 0 0) h)
 (j () h)))
theorem Jt(a:Int)(b:@BP R h a):ac xR 226 #[a] h R:=au af func226 (al.tn (.two (.join [] [(2,3),(6,12)] .n) (al.tn (al.tn (.two (al.tn (.inn (.loop [(3,ci),(4,ba),(5,ba)] [(3,6),(14,28)] .n))) .n))))) b
def FK(j:aT)(a:Int)(b:Int):Prop:=
 bi (σ:=Unit) (λ_ v=>
 az xR (qF 22 a a) aL v λd q=>
 aM (σ:=Int) (λf w h3=>
 Br (f<(d.len:Int))
 (aR d f λa4=>
 ag xR (qf 3 (a4.add (f.toNat*1)) f) h3 λ_ r=>
 w (qc xN (f+1)) r)
 (aM (σ:=Int) (λc u p=>
 Br (c<b)
 (ae xR 282 #[j,(qc xN (a-c))] bz p λg l=>
 aR d (qc xN (c+g)) λs=>
 bf l (s.add ((qc xN (c+g)).toNat*1)) λt=>
 aR d c λa9=>
 bf l (a9.add (c.toNat*1)) λn=>
 aR d c λi=>
 ag xR (qf 3 (i.add (c.toNat*1)) t) l λ_ o=>
 (aA.ok [] o)/\
 aR d (qc xN (c+g)) λk=>
 ag xR (qf 3 (k.add ((qc xN (c+g)).toNat*1)) n) o λ_ h8=>
 (aA.ok [] h8)/\
 u (qc xN (c+1)) h8)
 ((0<=b/\b<=(d.cap:Int))/\
 ae xR 128 #[(xI d.ptr b.toNat d.cap)] aL p λe y=>
 ae xR 148 #[e] hJ y λ_ m=>
 R e m)) (0:Int) h3)) (0:Int) q)
 (λx=>
 Br (a<0) (R (xI none 0 0) h) (Br (a>64) (R (xI none 0 0) h) (Br (b<0) (R (xI none 0 0) h) (Br (b>a)
 (R (xI none 0 0) h)
 (x () h)))))
theorem MN(b:aT)(c:Int)(a:Int)(d:@FK R h b c a):ac xR 227 #[b,c,a] h R:=au af func227 (al.tn (.two (.join [] [(6,7),(12,27)] .n) (al.tn (.two (al.tn (.inn (.loop [(31,ba)] [(8,9),(31,39)] .n))) (.two (al.tn (.inn (.loop [(40,ba)] [(9,11),(40,65)] .n))) .n))))) d
def Dp(a:Int):Prop:=
 ae xR 162 #[a,(xH xN 0),(xH xN 15)] bK h λb c=>
 R (xL (!b)) c
theorem KW(a:Int)(b:@Dp R h a):ac xR 228 #[a] h R:=au af func228 .n b
def FL:Prop:=
 aU xR (qO 299 (xM #[(.complex .f64 0 0),(.complex .f64 4607182418800017408 0),(xH xN 1),(xH xN 1),false])) h λa b=>
 R a b
theorem MO(a:@FL R h):ac xR 229 #[] h R:=au af func229 .n a
def uy(a:aT):Prop:=
 ∃y,(a=dB y)/\
 ∃x2:Nat×Nat,cellOf h y=dB (.complex .f64 x2.1 x2.2)/\
 ∃a3,(a=dB a3)/\
 ∃o:Nat×Nat,cellOf h (a3.add 1)=dB (.complex .f64 o.1 o.2)/\
 ∃z5:Nat×Nat,(ke xR .add 235 (.tmp 5) (.tmp 9) (.complex .f64 x2.1 x2.2) (.complex .f64 o.1 o.2) (.complex .f64 z5.1 z5.2))/\
 ∃A,(a=dB A)/\
 ag xR (qf 235 A (.complex .f64 z5.1 z5.2)) h λ_ t=>
 (aA.ok [] t)/\
 ∃w,(a=dB w)/\
 bf t (w.add 2) λB=>
 ∃a9,(a=dB a9)/\
 ag xR (qf 3 (a9.add 2) (qc xN (B-1))) t λ_ m=>
 ∃d,(a=dB d)/\
 bf m (d.add 2) λu=>
 Br (u>0)
 (R (.tuple #[]) m)
 (∃e,(a=dB e)/\
 ∃b:Nat×Nat,cellOf m (e.add 1)=dB (.complex .f64 b.1 b.2)/\
 ae xR 284 #[(.complex .f64 b.1 b.2),(xH xN 1)] (.one (.sc (.cpx .f64))) m λi h3=>
 ∃g,(a=dB g)/\
 ag xR (qf 235 (g.add 1) (.complex .f64 i.1 i.2)) h3 λ_ n=>
 bi (σ:=Unit) (λ_ x=>
 ∃a22,(a=dB a22)/\
 rC x (a22.add 4) λs=>
 ∃c,(a=dB c)/\
 ag xR (qf 4 (c.add 4) (xL (!s))) x λ_ v=>
 ∃a25,(a=dB a25)/\
 bf v (a25.add 3) λp=>
 ∃l,(a=dB l)/\
 ag xR (qf 3 (l.add 2) p) v λ_ h8=>
 R (.tuple #[]) h8)
 (λz=>
 ∃k,(a=dB k)/\
 rC n (k.add 4) λq=>
 Br q
 (∃j,(a=dB j)/\
 bf n (j.add 3) λr=>
 ∃f,(a=dB f)/\
 ag xR (qf 3 (f.add 3) (qc xN (r+1))) n λ_ D=>
 z () D)
 (z () n)))
theorem Gc(a:aT)(b:@uy R h a):ac xR 230 #[a] h R:=au af func230 (al.tn (al.tn (al.tn (al.tn (.two (.join [] [(33,44)] .n) .n))))) b
def rO(a:Nat):Prop:=
 R (xL ((FloatKind.format .f64).order a a !=dB .eq)) h
theorem Dq(a:Nat)(b:@rO R h a):ac xR 232 #[(.float .f64 a)] h R:=au af func232 .n b
def rf(a:Int):Prop:=
 R (xL (a !=a)) h
theorem uz(a:Int)(b:@rf R h a):ac xR 233 #[a] h R:=au af func233 .n b
def hO(a:Sl)(e:Int)(p:Int)(b:cI):Prop:=
 aM (σ:=Int) (λk s r=>
 Br (k<p)
 (aM (σ:=Int) (λc v d=>
 bi (σ:=Unit) (λ_ l=>
 aR a (qc xN (c-1)) λa9=>
 ∃f:jn,an l (a9.add ((qc xN (c-1)).toNat*4)) 0 f/\
 aR a c λm=>
 ∃j:jn,an l (m.add (c.toNat*4)) 0 j/\
 aR a c λo=>
 ag xR (qf 94 (o.add (c.toNat*4)) f) l λ_ t=>
 (aA.ok [] t)/\
 aR a (qc xN (c-1)) λn=>
 ag xR (qf 94 (n.add ((qc xN (c-1)).toNat*4)) j) t λ_ q=>
 (aA.ok [] q)/\
 v (qc xN (c-1)) q)
 (λu=>
 Br (c>e) (aR a c λa3=>
 ∃i:jn,an d (a3.add (c.toNat*4)) 0 i/\
 aR a (qc xN (c-1)) λa5=>
 ∃g:jn,an d (a5.add ((qc xN (c-1)).toNat*4)) 0 g/\
 ia C b.1 (b.2.1.toList++[(xM #[i.1,i.2.1,i.2.2.1,i.2.2.2]),(xM #[g.1,g.2.1,g.2.2.1,g.2.2.2])]++b.2.2.toList) bz d λw h3=>
 (aA.ok [] h3)/\
 Br (w<0)
 (u () h3)
 (s (qc xN (k+1)) h3)) ((aA.ok [] d)/\
 s (qc xN (k+1)) d))) k r)
 (R (.tuple #[]) r)) (qc xN (e+1)) h
theorem lF(b:Sl)(c:Int)(d:Int)(a:cI)(e:@hO R h b c d a):ac xR 234 #[b,c,d,(.func (.func a.1) a.2.1 a.2.2)] h R:=au af func234 (al.tn (.inn (.loop [(8,ba)] [(8,10),(12,53)] (al.tn (.two (.inn (al.tn (.inn (.loop [(9,ba)] [(9,10),(18,53)] (.two (.join [] [(18,35)] .n) .n))))) .n))))) e
def tw(a:aT):Prop:=
 Br (qW a)
 (R (xH xN 0) h)
 (∃b,(a=dB b)/\
 bf h (b.add 1) λx2=>
 R x2 h)
theorem EH(a:aT)(b:@tw R h a):ac xR 244 #[a] h R:=au af func244 .n b
def FM(b:Sl):Prop:=
 aM (σ:=Int×Int) (λa d c=>
 Br (a.2<(b.len:Int))
 (aR b a.2 λe=>
 gF .u8 c (e.add (a.2.toNat*1)) λx3=>
 (0<=(8:Int))/\
 d (qc xN ((qD (qk xN) (qc xN (a.1*2^min (8:Int).toNat (qk xN)))|||(qD (qk xN) (qc xN x3))).toNat:Nat),qc xN (a.2+1)) c)
 (R a.1 c)) ((0:Int),(0:Int)) h
theorem MP(a:Sl)(b:@FM R h a):ac xR 246 #[a] h R:=au af func246 (al.tn (al.tn (.two (al.tn (.inn (.loop [(3,ba),(8,ba)] [(3,4),(5,6),(8,18)] .n))) .n))) b
def BQ(f:jn)(a:Addr):Prop:=
 aU xR (qO 94 f) h λc b=>
 bf b (c.add 1) λx2=>
 bf b a λx3=>
 Br (x2==x3) (bn b (c.add 3) λg=>
 bf b (a.add 1) λj=>
 Br ((g.len:Int)>j) (gF .u32 b (a.add 6) λn=>
 bf b a λp=>
 bf b (a.add 1) λo=>
 bn b (c.add 3) λm=>
 bf b (a.add 1) λd=>
 aR m d λi=>
 bf b (i.add (d.toNat*1)) λk=>
 ae xR 62 #[p,o,k] (.one (.sc (.int .u32))) b λe l=>
 (aA.ok [(a.add 1,d),(c.add 3,m),(a.add 6,(xH xP n)),(a.add 1,j),(c.add 3,g),(a,x3),(c.add 1,x2)] l)/\
 R (xL (n==e)) l) ((aA.ok [(a.add 1,j),(c.add 3,g),(a,x3),(c.add 1,x2)] b)/\
 R false b)) ((aA.ok [(a,x3),(c.add 1,x2)] b)/\
 R false b)
theorem Ju(b:jn)(a:Addr)(c:@BQ R h b a):ac xR 247 #[b,a] h R:=au af func247 .n c
def jr(b:Sl)(c:Int)(a:cI):Prop:=
 aM (σ:=Int×Int) (λf n k=>
 Br (f.2<=c)
 (ae xR 300 #[b,f.1,f.2,(.func (.func a.1) a.2.1 a.2.2)] hJ k λ_ l=>
 n (f.2,qc xN (f.2+20)) l)
 (ae xR 300 #[b,f.1,c,(.func (.func a.1) a.2.1 a.2.2)] hJ k λ_ h3=>
 aM (σ:=Int) (λe i j=>
 Br (e<c)
 (aM (σ:=Int×Int) (λd o g=>
 Br (d.2<=c)
 (ae xR 301 #[b,d.1,(qc xN (d.1+e)),d.2,(.func (.func a.1) a.2.1 a.2.2)] hJ g λ_ m=>
 o (d.2,qc xN (d.2+(qc xN (2*e)))) m)
 (Br ((qc xN (d.1+e))<c)
 (ae xR 301 #[b,d.1,(qc xN (d.1+e)),c,(.func (.func a.1) a.2.1 a.2.2)] hJ g λ_ p=>
 i (qc xN (e*2)) p)
 (i (qc xN (e*2)) g))) ((0:Int),qc xN (2*e)) j)
 (R (.tuple #[]) j)) (20:Int) h3)) ((0:Int),(20:Int)) h
theorem nz(b:Sl)(c:Int)(a:cI)(d:@jr R h b c a):ac xR 248 #[b,c,(.func (.func a.1) a.2.1 a.2.2)] h R:=au af func248 (al.tn (al.tn (.two (.inn (.loop [(7,ba),(8,ba)] [(7,9),(11,23)] .n)) (al.tn (.inn (.loop [(6,ba)] [(6,10),(28,63)] (al.tn (.inn (al.tn (.two (.inn (.loop [(7,ba),(8,ba)] [(7,9),(33,49)] .n)) .n)))))))))) d
def HK(d:Sl)(b:Int)(a:Int):Prop:=
 aM (σ:=Int) (λe f c=>
 Br (e>=(d.len:Int))
 (R (xH xN (-1:Int)) c)
 (aR d e λg=>
 bn c (g.add (e.toNat*1)) λx3=>
 aR x3 a λa4=>
 gF .u8 c (a4.add (a.toNat*1)) λi=>
 Br (i !=0)
 (R e c)
 (f (qc xN (e+1)) c))) b h
theorem OQ(c:Sl)(b:Int)(a:Int)(d:@HK R h c b a):ac xR 249 #[c,b,a] h R:=au af func249 (al.tn (.scope 0 [(7,ba)] [(6,8),(9,24)] [.n] [.n] [(1,[.n])])) d
def JZ(c:aT)(d:Int)(a:Sl):Prop:=
 ae xR 302 #[c] jo h λg k=>
 az xR (qF 34 (xH xN (a.len:Int)) (xH xN (a.len:Int))) aL k λe f=>
 aM (σ:=Int) (λb i h3=>
 Br (b<(a.len:Int))
 (aR a b λa4=>
 gF .u8 h3 (a4.add (b.toNat*1)) λn=>
 ae xR 280 #[g,(xH xO d),(xH xO n)] (.one (.sc (.int .u8))) h3 λo j=>
 aR e b λm=>
 ag xR (qf 5 (m.add (b.toNat*1)) (xH xO o)) j λ_ l=>
 i (qc xN (b+1)) l)
 (R e h3)) (0:Int) f
theorem Rk(c:aT)(a:Int)(b:Sl)(d:@JZ R h c a b):ac xR 250 #[c,(xH xO a),b] h R:=au af func250 (al.tn (al.tn (al.tn (.two (al.tn (.inn (.loop [(17,ba)] [(8,10),(17,30)] .n))) .n)))) d
def Dr(b:aT)(a:Int):Prop:=
 Br (a==0)
 (R (xH xO 0) h)
 (ae xR 206 #[b] jo h λd c=>
 ∃e,(d=dB e)/\
 (0<=a/\a<((256:Nat):Int))/\
 bf c ((e.add 255).add (a.toNat*1)) λx3=>
 ((255:Int)≠0)/\
 ∃a4,(d=dB a4)/\
 (0<=(wB (qc xN (255-x3)) 255)/\(wB (qc xN (255-x3)) 255)<((255:Nat):Int))/\
 gF .u8 c (a4.add ((wB (qc xN (255-x3)) 255).toNat*1)) λf=>
 R (xH xO f) c)
theorem KX(b:aT)(a:Int)(c:@Dr R h b a):ac xR 251 #[b,(xH xO a)] h R:=au af func251 .n c
def Qa(f:aT)(c:Int)(d:Sl)(b:Sl):Prop:=
 Br (c==0)
 (R (.tuple #[]) h)
 (aM (σ:=Int) (λa j e=>
 Br (a<(d.len:Int))
 (aR d a λk=>
 gF .u8 e (k.add (a.toNat*1)) λx3=>
 aR b a λa4=>
 gF .u8 e (a4.add (a.toNat*1)) λi=>
 ae xR 280 #[f,(xH xO c),(xH xO x3)] (.one (.sc (.int .u8))) e λm g=>
 (aA.ok [(a4.add (a.toNat*1),(xH xO i))] g)/\
 aR b a λl=>
 ag xR (qf 5 (l.add (a.toNat*1)) (xH xO (qc xO ((qD (qk xO) i^^^(qD (qk xO) m)).toNat:Nat)))) g λ_ h3=>
 (aA.ok [] h3)/\
 j (qc xN (a+1)) h3)
 (R (.tuple #[]) e)) (0:Int) h)
theorem VH(c:aT)(d:Int)(b:Sl)(a:Sl)(e:@Qa R h c d b a):ac xR 252 #[c,(xH xO d),b,a] h R:=au af func252 (al.tn (al.tn (.inn (.loop [(14,ba)] [(8,10),(14,30)] .n)))) e
def Qb(a:Sl)(c:Sl):Prop:=
 Br ((a.len:Int) !=(c.len:Int))
 (R (.tuple #[(xI none 0 0),false]) h)
 (az xR (qF 34 (xH xN (a.len:Int)) (xH xN (a.len:Int))) aL h λe i=>
 aM (σ:=Int) (λb g d=>
 Br (b<(a.len:Int))
 (aR a b λa3=>
 gF .u8 d (a3.add (b.toNat*1)) λf=>
 aR c b λa5=>
 gF .u8 d (a5.add (b.toNat*1)) λk=>
 aR e b λj=>
 ag xR (qf 5 (j.add (b.toNat*1)) (xH xO (qc xO ((qD (qk xO) f^^^(qD (qk xO) k)).toNat:Nat)))) d λ_ h3=>
 (aA.ok [] h3)/\
 g (qc xN (b+1)) h3)
 (R (.tuple #[e,true]) d)) (0:Int) i)
theorem VI(a:Sl)(b:Sl)(c:@Qb R h a b):ac xR 253 #[a,b] h R:=au af func253 (al.tn (al.tn (al.tn (.two (al.tn (.inn (.loop [(18,ba)] [(7,8),(18,34)] .n))) .n)))) c
def HL(d:Int)(c:Sl):Prop:=
 bi (σ:=Unit) (λ_ s=>
 aM (σ:=Int) (λe t f=>
 Br (e<(c.len:Int))
 (aR c e λa3=>
 ∃r:Sl×Sl,an f (a3.add (e.toNat*2)) 0 r/\
 aU xR (qK 275 true (.tuple #[])) f λa5 h3=>
 ag xR (qf 275 a5 r) h3 λ_ o=>
 bn o a5 λq=>
 aM (σ:=Int) (λb p a=>
 Br (b<(q.len:Int))
 (aR q b λv=>
 bf a (v.add (b.toNat*1)) λg=>
 Br (g<0) (R false a) (Br (g>=d) (R false a) (Br (b>0) (bn a a5 λm=>
 aR m (qc xN (b-1)) λi=>
 bf a (i.add ((qc xN (b-1)).toNat*1)) λn=>
 Br (n>=g)
 (R false a)
 (p (qc xN (b+1)) a)) (p (qc xN (b+1)) a))))
 (bn a (a5.add 1) λk=>
 aR c (0:Int) λj=>
 bn a ((j.add ((0:Int).toNat*2)).add 1) λl=>
 Br ((k.len:Int) !=(l.len:Int))
 (R false a)
 (t (qc xN (e+1)) a))) (0:Int) o)
 (R true f)) (0:Int) s)
 (λu=>
 Br (d<0) (R false h) (Br (d>64)
 (R false h)
 (u () h)))
theorem OR(a:Int)(b:Sl)(c:@HL R h a b):ac xR 263 #[a,b] h R:=au af func263 (al.tn (.two (.join [] [(4,5),(9,15)] .n) (.two (al.tn (.inn (.loop [(17,ba)] [(4,5),(6,9),(17,61)] (al.tn (al.tn (.two (.inn (al.tn (.two (al.tn (.inn (.loop [(24,ba)] [(4,5),(7,9),(24,51)] .n))) .n))) .n)))))) .n))) c
def uA(a:aT):Prop:=
 aM (σ:=Unit) (λ_ y w=>
 ae xR 306 #[a] bz w λl j=>
 Br (l<0)
 (R (.tuple #[]) j)
 (∃a3,(a=dB a3)/\
 bn j a3 λx=>
 aR x l λa5=>
 ∃u:Sl×Sl,an j (a5.add (l.toNat*2)) 0 u/\
 ae xR 265 #[a,u] (.one (.agg [.slc,.slc])) j λz h3=>
 aU xR (qK 275 true (.tuple #[])) h3 λc v=>
 ag xR (qf 275 c z) v λ_ b=>
 ∃a9,(a=dB a9)/\
 bn b (a9.add 1) λr=>
 bn b c λq=>
 aR q (0:Int) λn=>
 bf b (n.add ((0:Int).toNat*1)) λg=>
 ∃d,(a=dB d)/\
 bn b (d.add 2) λm=>
 bn b c λi=>
 aR i (0:Int) λk=>
 bf b (k.add ((0:Int).toNat*1)) λe=>
 bn b (c.add 1) λf=>
 aR r g λo=>
 ag xR (qf 4 (o.add (g.toNat*1)) true) b λ_ t=>
 (aA.ok [(c.add 1,f),(c,i)] t)/\
 aR m e λp=>
 ag xR (qf 34 (p.add (e.toNat*1)) f) t λ_ s=>
 (aA.ok [] s)/\
 y () s)) () h
theorem Gd(a:aT)(b:@uA R h a):ac xR 264 #[a] h R:=au af func264 (.scope 0 [] [(2,37)] [] [.n] []) b
def tz(k:aT)(z:Sl×Sl):Prop:=
 aU xR (qO 275 z) h λD K=>
 aU xR (qK 275 true (.tuple #[])) K λG B=>
 bn B (D.add 1) λx3=>
 ae xR 146 #[x3] aL B λO h3=>
 aU xR (qK 275 true (.tuple #[])) h3 λa5 I=>
 ag xR (qf 275 a5 (xM #[(xI none 0 0),O])) I λ_ H=>
 bn H D λE=>
 aM (σ:=Int) (λl F d=>
 Br (l<(E.len:Int))
 (aR E l λN=>
 bf d (N.add (l.toNat*1)) λg=>
 ∃j,(k=dB j)/\
 bn d (j.add 1) λw=>
 aR w g λt=>
 rC d (t.add (g.toNat*1)) λr=>
 Br (!r)
 (bn d a5 λv=>
 az xR (qq 22 1 #[(0,g)]) aL d λo J=>
 az xR (qt #[22,22] 22 #[v,o]) aL J λs h8=>
 ag xR (qf 22 a5 s) h8 λ_ M=>
 F (qc xN (l+1)) M)
 (∃e,(k=dB e)/\
 bn d (e.add 2) λq=>
 aR q g λx=>
 bn d (x.add (g.toNat*1)) λn=>
 aM (σ:=Int) (λa L c=>
 Br (a<(n.len:Int))
 (aR n a λa22=>
 gF .u8 c (a22.add (a.toNat*1)) λu=>
 bn c (a5.add 1) λf=>
 aR f a λa25=>
 gF .u8 c (a25.add (a.toNat*1)) λp=>
 aR f a λy=>
 ag xR (qf 5 (y.add (a.toNat*1)) (xH xO (qc xO ((qD (qk xO) p^^^(qD (qk xO) u)).toNat:Nat)))) c λ_ A=>
 L (qc xN (a+1)) A)
 (F (qc xN (l+1)) c)) (0:Int) d))
 (∃m:Sl×Sl,an d a5 0 m/\
 ag xR (qf 275 G m) d λ_ i=>
 ∃b:Sl×Sl,an i G 0 b/\
 R b i)) (0:Int) H
theorem EI(a:aT)(b:Sl×Sl)(c:@tz R h a b):ac xR 265 #[a,b] h R:=au af func265 (al.tn (al.tn (.two (al.tn (.inn (.loop [(17,ba)] [(7,10),(17,58)] (al.tn (al.tn (.two (.inn (al.tn (al.tn (al.tn (.inn (.loop [(43,ba)] [(8,10),(43,57)] .n)))))) .n)))))) .n))) c
def FN(a:Sl):Prop:=
 ae xR 221 #[a,aaD] aL h λb c=>
 R (xL ((b.len:Int)==0)) c
theorem MQ(a:Sl)(b:@FN R h a):ac xR 266 #[a] h R:=au af func266 .n b
def HM(f:Int)(c:Sl):Prop:=
 aU xR (qK 279 true (.tuple #[])) h λJ h1=>
 ae xR 307 #[f,c] bK h1 λr2 K=>
 Br (!r2)
 (ag xR (qf 279 J (xM #[(xI none 0 0),(xI none 0 0),(xI none 0 0)])) K λ_ h3=>
 ∃m:Sl×Sl×Sl,an h3 J 0 m/\
 R (.tuple #[m,false]) h3)
 (bi (σ:=aT) (λa F=>
 ∃y,(a=dB y)/\
 bn F (y.add 1) λS=>
 aM (σ:=Int) (λk K2 q=>
 Br (k<(S.len:Int))
 (∃G,(a=dB G)/\
 bn q (G.add 1) λN=>
 aR N k λa3=>
 ag xR (qf 4 (a3.add (k.toNat*1)) true) q λ_ ao=>
 K2 (qc xN (k+1)) ao)
 (aU xR (qK 279 true (.tuple #[])) q λb a4=>
 aM (σ:=Unit) (λ_ K3 z=>
 ∃E,(a=dB E)/\
 bn z (E.add 1) λQ=>
 ae xR 308 #[Q,true] bK z λam o=>
 Br (!am)
 (∃a22,(a=dB a22)/\
 bn o (a22.add 2) λr=>
 aM (σ:=Int) (λe K4 d=>
 Br (e<(r.len:Int))
 (aR r e λa25=>
 rC d (a25.add (e.toNat*1)) λL=>
 Br (!L)
 (bn d (b.add 2) λM=>
 az xR (qq 22 1 #[(0,e)]) aL d λv28 Y=>
 az xR (qt #[22,22] 22 #[M,v28]) aL Y λa5 bb=>
 ag xR (qf 22 (b.add 2) a5) bb λ_ a0=>
 K4 (qc xN (e+1)) a0)
 (K4 (qc xN (e+1)) d))
 (∃s:Sl×Sl×Sl,an d b 0 s/\
 ag xR (qf 279 J s) d λ_ x=>
 ∃j:Sl×Sl×Sl,an x J 0 j/\
 R (.tuple #[j,true]) x)) (0:Int) o)
 (bi (σ:=Unit) (λ_ ar=>
 K3 () ar)
 (λK5=>
 ae xR 309 #[a] (.many [(.agg [(.int .i64),(.int .i64)]),jp]) o λt ay=>
 aU xR (qK 332 true (.tuple #[])) ay λi ab=>
 ag xR (qf 332 i t.1) ab λ_ l=>
 Br t.2
 (bn l b λX=>
 ∃v:Int×Int,an l i 0 v/\
 az xR (qq 277 1 #[(0,v)]) aL l λZ bd=>
 az xR (qt #[277,277] 277 #[X,Z]) aL bd λah ap=>
 ag xR (qf 277 b ah) ap λ_ g=>
 ∃D,(a=dB D)/\
 bn g (D.add 2) λa2=>
 bf g i λH=>
 ∃I,(a=dB I)/\
 bn g (I.add 1) λT=>
 bf g (i.add 1) λn=>
 aR a2 H λU=>
 ag xR (qf 4 (U.add (H.toNat*1)) true) g λ_ u=>
 (aA.ok [(i.add 1,n)] u)/\
 aR T n λa45=>
 ag xR (qf 4 (a45.add (n.toNat*1)) false) u λ_ A=>
 (aA.ok [] A)/\
 K5 () A)
 (ae xR 310 #[a] bz l λp w=>
 bn w (b.add 1) λP=>
 az xR (qq 22 1 #[(0,p)]) aL w λW V=>
 az xR (qt #[22,22] 22 #[P,W]) aL V λax a7=>
 ag xR (qf 22 (b.add 1) ax) a7 λ_ B=>
 ∃a50,(a=dB a50)/\
 bn B (a50.add 1) λO=>
 aR O p λad=>
 ag xR (qf 4 (ad.add (p.toNat*1)) false) B λ_ a8=>
 K5 () a8)))) () a4)) (0:Int) F)
 (λK1=>
 (az xR (qF 282 f f) aL K λv4 h4=>
 (aA.ok [] h4)/\
 az xR (qF 282 (xH xN (c.len:Int)) (xH xN (c.len:Int))) aL h4 λv5 h5=>
 (aA.ok [] h5)/\
 aU xR (qO 366 (xM #[c,v4,v5])) h5 λa6 h6=>
 (aA.ok [] h6)/\
 K1 (dB a6) h6)/\(az xR (qF 282 (xH xN (c.len:Int)) (xH xN (c.len:Int))) aL K λv7 h7=>
 (aA.ok [] h7)/\
 az xR (qF 282 f f) aL h7 λv8 h8=>
 (aA.ok [] h8)/\
 aU xR (qO 366 (xM #[c,v8,v7])) h8 λa9 h9=>
 (aA.ok [] h9)/\
 K1 (dB a9) h9)))
theorem OS(a:Int)(b:Sl)(c:@HM R h a b):ac xR 267 #[a,b] h R:=au af func267 (al.tn (.scope 1 [] [(5,6),(9,14),(42,108)] [.n,(.join [(6,LX)] [(6,7),(19,27)] .n),(al.tn (.inn (.loop [(32,ba)] [(7,8),(32,42)] .n))),.n] [(al.tn (.two (.join [] [(9,12),(48,88)] .n) .n))] [(0,[(.two (al.tn (.inn (.loop [(93,ba)] [(12,14),(93,107)] .n))) .n)])])) c
def iA(a:Sl)(b:cI):Prop:=
 ae xR 311 #[a,(.func (.func b.1) b.2.1 b.2.2)] bz h λe k=>
 Br (e==(-1:Int))
 (R a k)
 (aM (σ:=Int×Int) (λc m d=>
 Br (c.2<(a.len:Int))
 (aR a c.2 λa3=>
 ∃l:Int×Int,an d (a3.add (c.2.toNat*2)) 0 l/\
 aU xR (qK 332 true (.tuple #[])) d λa5 h3=>
 ag xR (qf 332 a5 l) h3 λ_ i=>
 ∃f:Int×Int,an i a5 0 f/\
 ia C b.1 (b.2.1.toList++[(xM #[f.1,f.2])]++b.2.2.toList) bK i λp g=>
 Br (!p)
 (∃j:Int×Int,an g a5 0 j/\
 aR a c.1 λa9=>
 ag xR (qf 332 (a9.add (c.1.toNat*2)) j) g λ_ o=>
 m (qc xN (c.1+1),qc xN (c.2+1)) o)
 (m (c.1,qc xN (c.2+1)) g))
 ((0<=c.1/\c.1<=(a.len:Int))/\
 ag xR (yy #[277] 0 #[(.slice (if a.cap=c.1.toNat then a.ptr else a.ptr.map (·.add (c.1.toNat*2))) (a.len-c.1.toNat) (a.cap-c.1.toNat))]) d λ_ n=>
 (0<=c.1/\c.1<=(a.cap:Int))/\
 R (xI a.ptr c.1.toNat a.cap) n)) (e,qc xN (e+1)) k)
theorem mf(b:Sl)(a:cI)(c:@iA R h b a):ac xR 268 #[b,(.func (.func a.1) a.2.1 a.2.2)] h R:=au af func268 (al.tn (al.tn (al.tn (.two (al.tn (.inn (.loop [(5,ba),(6,ba)] [(5,8),(16,36)] .n))) .n)))) c
def nL(c:Int×Int)(a:Addr):Prop:=
 aU xR (qO 332 c) h λd b=>
 bf b d λx2=>
 jI b a λx3=>
 ∃a4,(x3=dB a4)/\
 bn b (a4.add 5) λe=>
 R (decide (x2>=(e.len:Int))) b
theorem uP(b:Int×Int)(a:Addr)(c:@nL R h b a):ac xR 269 #[b,a] h R:=au af func269 .n c
def lJ(a:Sl)(b:cI):Prop:=
 ae xR 189 #[a,(.func (.func b.1) b.2.1 b.2.2)] bz h λe i=>
 Br (e==(-1:Int))
 (R a i)
 (aM (σ:=Int×Int) (λc g d=>
 Br (c.2<(a.len:Int))
 (aR a c.2 λa3=>
 bf d (a3.add (c.2.toNat*1)) λf=>
 ia C b.1 (b.2.1.toList++[(xH xN f)]++b.2.2.toList) bK d λj h3=>
 Br (!j)
 (aR a c.1 λl=>
 ag xR (qf 3 (l.add (c.1.toNat*1)) f) h3 λ_ k=>
 g (qc xN (c.1+1),qc xN (c.2+1)) k)
 (g (c.1,qc xN (c.2+1)) h3))
 ((0<=c.1/\c.1<=(a.len:Int))/\
 ag xR (yy #[22] 0 #[(.slice (if a.cap=c.1.toNat then a.ptr else a.ptr.map (·.add (c.1.toNat*1))) (a.len-c.1.toNat) (a.cap-c.1.toNat))]) d λ_ m=>
 (0<=c.1/\c.1<=(a.cap:Int))/\
 R (xI a.ptr c.1.toNat a.cap) m)) (e,qc xN (e+1)) i)
theorem rx(b:Sl)(a:cI)(c:@lJ R h b a):ac xR 270 #[b,(.func (.func a.1) a.2.1 a.2.2)] h R:=au af func270 (al.tn (al.tn (al.tn (.two (al.tn (.inn (.loop [(5,ba),(6,ba)] [(5,8),(16,36)] .n))) .n)))) c
def nM(b:Int)(a:Addr):Prop:=
 jI h a λd=>
 ∃c,(d=dB c)/\
 bn h (c.add 5) λx3=>
 R (decide (b>=(x3.len:Int))) h
theorem uQ(b:Int)(a:Addr)(c:@nM R h b a):ac xR 271 #[b,a] h R:=au af func271 .n c
def rP(f:aT)(b:Int)(g:Int)(d:Sl)(c:Sl):Prop:=
 ∃E,(f=dB E)/\
 bn h (E.add 9) λx2=>
 aR x2 g λa3=>
 bn h (a3.add (g.toNat*1)) λF=>
 aM (σ:=Int) (λe K i=>
 Br (e<(F.len:Int))
 (aR F e λL=>
 gF .u8 i (L.add (e.toNat*1)) λI=>
 aR d e λH=>
 gF .u8 i (H.add (e.toNat*1)) λB=>
 ∃n,(f=dB n)/\
 jI i n λw=>
 ae xR 280 #[w,(xH xO b),(xH xO I)] (.one (.sc (.int .u8))) i λr A=>
 (aA.ok [(H.add (e.toNat*1),(xH xO B))] A)/\
 aR d e λu=>
 ag xR (qf 5 (u.add (e.toNat*1)) (xH xO (qc xO ((qD (qk xO) B^^^(qD (qk xO) r)).toNat:Nat)))) A λ_ h3=>
 (aA.ok [] h3)/\
 K (qc xN (e+1)) h3)
 (∃m,(f=dB m)/\
 bn i (m.add 10) λt=>
 aR t g λz=>
 bn i (z.add (g.toNat*1)) λl=>
 aM (σ:=Int) (λa J k=>
 Br (a<(l.len:Int))
 (aR l a λy=>
 gF .u8 k (y.add (a.toNat*1)) λx=>
 aR c a λp=>
 gF .u8 k (p.add (a.toNat*1)) λo=>
 ∃j,(f=dB j)/\
 jI k j λq=>
 ae xR 280 #[q,(xH xO b),(xH xO x)] (.one (.sc (.int .u8))) k λs G=>
 (aA.ok [(p.add (a.toNat*1),(xH xO o))] G)/\
 aR c a λv=>
 ag xR (qf 5 (v.add (a.toNat*1)) (xH xO (qc xO ((qD (qk xO) o^^^(qD (qk xO) s)).toNat:Nat)))) G λ_ D=>
 (aA.ok [] D)/\
 J (qc xN (a+1)) D)
 (R (.tuple #[]) k)) (0:Int) i)) (0:Int) h
theorem Ds(e:aT)(a:Int)(d:Int)(c:Sl)(b:Sl)(f:@rP R h e a d c b):ac xR 272 #[e,(xH xO a),d,c,b] h R:=au af func272 (.two (al.tn (.inn (.loop [(22,ba)] [(10,12),(22,41)] .n))) (al.tn (.inn (.loop [(49,ba)] [(12,14),(49,68)] .n)))) f
def rg(b:Sl)(d:Int):Prop:=
 bi (σ:=Sl) (λf h3=>
 Br ((f.len:Int)==0)
 (R (xI none 0 0) h3)
 (R f h3))
 (λe=>
 aM (σ:=Sl) (λa i c=>
 bi (σ:=Unit) (λ_ g=>
 (0<=(1:Int)/\(1:Int)<=(a.len:Int))/\
 i (⟨(if a.cap=(1:Int).toNat then a.ptr else a.ptr.map (·.add ((1:Int).toNat*1))),(a.len-(1:Int).toNat),(a.cap-(1:Int).toNat)⟩:Sl) g)
 (λk=>
 Br ((a.len:Int)>0) (aR a (0:Int) λj=>
 gF .u8 c (j.add ((0:Int).toNat*1)) λx3=>
 Br (x3==d)
 (k () c)
 (e (⟨a.ptr,a.len,a.cap⟩:Sl) c)) (e (⟨a.ptr,a.len,a.cap⟩:Sl) c))) (⟨b.ptr,b.len,b.cap⟩:Sl) h)
theorem Cy(a:Sl)(b:Int)(c:@rg R h a b):ac xR 273 #[a,(xH xO b)] h R:=au af func273 (al.tn (.two (.join [(0,ci)] [(0,1),(5,17)] (.inn (.loop [(0,ci)] [(0,1),(5,17)] (.two (.join [] [(5,15)] .n) .n)))) .n)) c
def pm(b:Sl)(d:Int):Prop:=
 bi (σ:=Sl) (λk h3=>
 R k h3)
 (λe=>
 aM (σ:=Sl) (λa g c=>
 bi (σ:=Unit) (λ_ f=>
 (0<=(qc xN ((a.len:Int)-1))/\(qc xN ((a.len:Int)-1))<=(a.cap:Int))/\
 g (⟨a.ptr,(qc xN ((a.len:Int)-1)).toNat,a.cap⟩:Sl) f)
 (λj=>
 Br ((a.len:Int)>0) (aR a (qc xN ((a.len:Int)-1)) λi=>
 gF .u8 c (i.add ((qc xN ((a.len:Int)-1)).toNat*1)) λx3=>
 Br (x3==d)
 (j () c)
 (e (⟨a.ptr,a.len,a.cap⟩:Sl) c)) (e (⟨a.ptr,a.len,a.cap⟩:Sl) c))) (⟨b.ptr,b.len,b.cap⟩:Sl) h)
theorem Bi(a:Sl)(b:Int)(c:@pm R h a b):ac xR 274 #[a,(xH xO b)] h R:=au af func274 (al.tn (.two (.join [(0,ci)] [(0,1),(5,23)] (.inn (.loop [(0,ci)] [(0,1),(5,23)] (.two (.join [] [(5,18)] .n) .n)))) .n)) c
def Dt(e:aT)(a:Int)(b:Int):Prop:=
 bi (σ:=Unit) (λ_ l=>
 ae xR 206 #[e] jo l λf c=>
 ∃a3,(f=dB a3)/\
 (0<=a/\a<((256:Nat):Int))/\
 bf c ((a3.add 255).add (a.toNat*1)) λd=>
 ∃a5,(f=dB a5)/\
 (0<=b/\b<((256:Nat):Int))/\
 bf c ((a5.add 255).add (b.toNat*1)) λg=>
 ((255:Int)≠0)/\
 ∃i,(f=dB i)/\
 (0<=(wB (qc xN (d+g)) 255)/\(wB (qc xN (d+g)) 255)<((255:Nat):Int))/\
 gF .u8 c (i.add ((wB (qc xN (d+g)) 255).toNat*1)) λj=>
 R (xH xO j) c)
 (λk=>
 Br (a==0) (R (xH xO 0) h) (Br (b==0)
 (R (xH xO 0) h)
 (k () h)))
theorem KY(c:aT)(a:Int)(b:Int)(d:@Dt R h c a b):ac xR 280 #[c,(xH xO a),(xH xO b)] h R:=au af func280 (al.tn (.two (.join [] [(6,7),(8,14)] .n) .n)) d
def AB(a:Sl)(b:Int):Prop:=
 bi (σ:=Unit) (λ_ i=>
 aM (σ:=Int) (λc e d=>
 Br (c<(a.len:Int))
 (aR a c λa5=>
 bf d (a5.add (c.toNat*1)) λj=>
 Br (j>b)
 (R (qc xN (c+1)) d)
 (e (qc xN (c+1)) d))
 (R (xH xN 0) d)) (0:Int) i)
 (λf=>
 Br ((a.len:Int)==0) (R (xH xN 0) h) (Br (b<0) (R (xH xN 0) h) (aR a (qc xN ((a.len:Int)-1)) λg=>
 bf h (g.add ((qc xN ((a.len:Int)-1)).toNat*1)) λx2=>
 Br (b>=x2)
 (R (xH xN 0) h)
 (f () h))))
theorem HN(a:Sl)(b:Int)(c:@AB R h a b):ac xR 281 #[a,b] h R:=au af func281 (al.tn (.two (.join [] [(4,5),(7,24)] .n) (.two (al.tn (.inn (.loop [(26,ba)] [(4,7),(26,37)] .n))) .n))) c
end
end Go.Qw
