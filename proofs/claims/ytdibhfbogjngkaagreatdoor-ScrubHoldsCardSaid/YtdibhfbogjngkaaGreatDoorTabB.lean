/- Lemmas for the proof of the law; no condition. -/
import Derived.Test.YtdibhfbogjngkaaGreatDoorTabA
set_option linter.unusedVariables false
open Go.Proofs.Tryz renaming prog -> xB
open Option renaming isNone -> qS
open Go.Value renaming agg -> xw, bool -> xv, int -> xq, slice -> xr
open Go.IntKind renaming bits -> qk, i64 -> xx, u32 -> xz, u64 -> xA, u8 -> xy, wrap -> qc
open Go.Instr renaming alloc -> qL, box -> qM, buildSlice -> qq, makeSlice -> qF, storeAt -> qf
open Go.Builtin renaming append_ -> qt, clear_ -> yK
open BitVec renaming ofInt -> qD
open Int renaming fdiv -> qX, tdiv -> wy, tmod -> wi
open Go.Proofs.Tryz
set_option maxRecDepth 1000000
open Option renaming some -> dB
open Bool renaming false -> eR
namespace Go.Qw
open Go Go.Vc Go.Proofs
variable {R:KZ} {h:Heap}
noncomputable def rN(a:aO):Prop:=
 ∃p,(a=dB p)/\
 bi h (p.add 4) λx2=>
 aL (σ:=Int) (λb q e=>
 Br (b<(x2.len:Int))
 (aR x2 b λa4=>
 bi e (a4.add (b.toNat*1)) λo=>
 Br (!(qS o.ptr))
 (∃f,(a=dB f)/\
 bi e (f.add 9) λl=>
 ∃g,(a=dB g)/\
 bi e (g.add 10) λr=>
 ∃d,(a=dB d)/\
 bi e ((d.add 6).add 1) λc=>
 aB xB (qF 34 (xq xx (c.len:Int)) (xq xx (c.len:Int))) aI e λj m=>
 (az.ok [((d.add 6).add 1,c),(g.add 10,r),(f.add 9,l)] m)/\
 aR l b λi=>
 ag xB (qf 34 (i.add (b.toNat*1)) j) m λ_ h3=>
 (az.ok [] h3)/\
 aR r b λk=>
 ag xB (qf 34 (k.add (b.toNat*1)) o) h3 λ_ n=>
 (az.ok [] n)/\
 q (qc xx (b+1)) n)
 (q (qc xx (b+1)) e))
 (R (.tuple #[]) e)) (0:Int) h
theorem CP(a:aO)(b:@rN R h a):ac xB 219 #[a] h R:=aw af func219 (an.tn (.inn (.loop [(9,ba)] [(2,4),(9,37)] .n))) b
noncomputable def pQ(a:aO):Prop:=
 ∃a1,(a=dB a1)/\
 bi h ((a1.add 6).add 1) λx2=>
 ∃a3,(a=dB a3)/\
 bi h ((a3.add 6).add 2) λx4=>
 aL (σ:=Sl×Sl×Int) (λc K1 q=>
 Br (c.2.2<(x4.len:Int))
 (aR x4 c.2.2 λa6=>
 aZ q (a6.add (c.2.2.toNat*1)) λE=>
 bm (σ:=Sl×Sl) (λi O=>
 ∃B,(a=dB B)/\
 bi O (B.add 5) λU=>
 aR U E λad=>
 bi O (ad.add (E.toNat*2)) λK=>
 aL (σ:=Int) (λg K3 T=>
 Br (g<(K.len:Int))
 (aR K g λa22=>
 aZ T (a22.add (g.toNat*1)) λN=>
 ae xB 272 #[a,(xq xy 1),N,i.1,i.2] il T λ_ h8=>
 K3 (qc xx (g+1)) h8)
 (aB xB (qq 85 1 #[(0,i.1)]) aI T λv25 h9=>
 aB xB (qt #[85,85] 85 #[c.1,v25]) aI h9 λm Y=>
 aB xB (qq 85 1 #[(0,i.2)]) aI Y λW Z=>
 aB xB (qt #[85,85] 85 #[c.2.1,W]) aI Z λv28 X=>
 K1 ((⟨m.ptr,m.len,m.cap⟩:Sl),(⟨v28.ptr,v28.len,v28.cap⟩:Sl),qc xx (c.2.2+1)) X)) (0:Int) O)
 (λK2=>
 ∃y,(a=dB y)/\
 bi q (y.add 5) λI=>
 aR I E λA=>
 bi q ((A.add (E.toNat*2)).add 1) λk=>
 (aB xB (qF 34 (xq xx (x2.len:Int)) (xq xx (x2.len:Int))) aI q λs h2=>
 (az.ok [((A.add (E.toNat*2)).add 1,k),(y.add 5,I)] h2)/\
 ae xB 146 #[k] aI h2 λu h3=>
 (az.ok [(y.add 5,I)] h3)/\
 K2 ((⟨s.ptr,s.len,s.cap⟩:Sl),(⟨u.ptr,u.len,u.cap⟩:Sl)) h3)/\(ae xB 146 #[k] aI q λt h4=>
 (az.ok [(y.add 5,I)] h4)/\
 aB xB (qF 34 (xq xx (x2.len:Int)) (xq xx (x2.len:Int))) aI h4 λr h5=>
 (az.ok [(y.add 5,I)] h5)/\
 K2 ((⟨r.ptr,r.len,r.cap⟩:Sl),(⟨t.ptr,t.len,t.cap⟩:Sl)) h5)))
 (∃M,(a=dB M)/\
 ∃z:bR,aq q (M.add 1) 0 z/\
 ae xB 70 #[z] aI q λG Q=>
 aL (σ:=Sl×Sl×Int) (λb K4 e=>
 Br (b.2.2<(G.len:Int))
 (aR G b.2.2 λah=>
 bi e (ah.add (b.2.2.toNat*1)) λH=>
 bm (σ:=Sl×Sl) (λj P=>
 aL (σ:=Int) (λf K6 v=>
 Br (f<(H.len:Int))
 (aR H f λS=>
 gg .u8 v (S.add (f.toNat*1)) λar=>
 ae xB 272 #[a,(xq xy ar),f,j.1,j.2] il v λ_ ax=>
 K6 (qc xx (f+1)) ax)
 (aB xB (qq 85 1 #[(0,j.1)]) aI v λv46 ab=>
 aB xB (qt #[85,85] 85 #[b.1,v46]) aI ab λn ap=>
 aB xB (qq 85 1 #[(0,j.2)]) aI ap λao V=>
 aB xB (qt #[85,85] 85 #[b.2.1,ao]) aI V λp am=>
 K4 ((⟨n.ptr,n.len,n.cap⟩:Sl),(⟨p.ptr,p.len,p.cap⟩:Sl),qc xx (b.2.2+1)) am)) (0:Int) P)
 (λK5=>
 ∃o,(a=dB o)/\
 aZ e ((o.add 1).add 2) λd=>
 (aB xB (qF 34 (xq xx (x2.len:Int)) (xq xx (x2.len:Int))) aI e λx F=>
 (az.ok [((o.add 1).add 2,d)] F)/\
 aB xB (qF 34 d d) aI F λl D=>
 (az.ok [] D)/\
 K5 ((⟨x.ptr,x.len,x.cap⟩:Sl),(⟨l.ptr,l.len,l.cap⟩:Sl)) D)/\(aB xB (qF 34 d d) aI e λv39 J=>
 (az.ok [] J)/\
 aB xB (qF 34 (xq xx (x2.len:Int)) (xq xx (x2.len:Int))) aI J λw L=>
 (az.ok [] L)/\
 K5 ((⟨w.ptr,w.len,w.cap⟩:Sl),(⟨v39.ptr,v39.len,v39.cap⟩:Sl)) L)))
 (R (.tuple #[b.1,b.2.1]) e)) ((⟨c.1.ptr,c.1.len,c.1.cap⟩:Sl),(⟨c.2.1.ptr,c.2.1.len,c.2.1.cap⟩:Sl),(0:Int)) Q)) ((⟨none,0,0⟩:Sl),(⟨none,0,0⟩:Sl),(0:Int)) h
theorem Bz(a:aO)(b:@pQ R h a):ac xB 220 #[a] h R:=aw af func220 (an.tn (an.tn (.two (an.tn (.inn (.loop [(2,cA),(3,cA),(29,ba)] [(2,4),(6,9),(10,11),(29,72)] (an.tn (an.tn (.two (.inn (an.tn (.two (.join [(7,cA),(8,cA)] [(7,9),(33,44)] .n) (.two (an.tn (.inn (.loop [(53,ba)] [(10,11),(53,63)] .n))) .n)))) .n)))))) (.two (an.tn (.inn (.loop [(2,cA),(3,cA),(78,ba)] [(2,4),(12,17),(78,113)] (an.tn (an.tn (.two (.inn (an.tn (.two (.join [(13,cA),(14,cA)] [(13,15),(82,90)] .n) (.two (an.tn (.inn (.loop [(92,ba)] [(15,17),(92,104)] .n))) .n)))) .n)))))) .n)))) b
noncomputable def Ik(b:Sl)(a:ByteArray):Prop:=
 Br ((b.len:Int)==0)
 (R (xr none 0 0) h)
 (Br (a.toList==rz.toList)
 (R b h)
 (bm (σ:=Unit) (λ_ h3=>
 ae xB 275 #[a] (.many [(.arr .bool),kB]) h3 λo r=>
 aS xB (qL 338 true (.tuple #[])) r λc t=>
 ag xB (qf 338 c (xw (o.1.map (Sc.enc .bool)).toArray)) t λ_ i=>
 Br o.2
 (ae xB 277 #[b,c] aI i λu p=>
 ae xB 276 #[u,c] aI p λd h8=>
 R d h8)
 (ae xB 279 #[b,a] aI i λf q=>
 ae xB 278 #[f,a] aI q λe g=>
 R e g))
 (λm=>
 Br ((a.size:Int)==1) (∃k:UInt8,(0<=(0:Int)/\a.data[(0:Int).toNat]?=dB k)/\
 Br ((k.toNat:Int)<128)
 (∃n:UInt8,(0<=(0:Int)/\a.data[(0:Int).toNat]?=dB n)/\
 ∃c3:UInt8,(0<=(0:Int)/\a.data[(0:Int).toNat]?=dB c3)/\
 ae xB 274 #[b,(xq xy (n.toNat:Int))] aI h λv l=>
 (az.ok [] l)/\
 ae xB 273 #[v,(xq xy (c3.toNat:Int))] aI l λs j=>
 (az.ok [] j)/\
 R s j)
 (m () h)) (m () h))))
theorem PC(b:Sl)(a:ByteArray)(c:@Ik R h b a):ac xB 221 #[b,a] h R:=aw af func221 (an.tn (an.tn (an.tn (.two (.join [] [(4,5),(13,28)] .n) .n)))) c
noncomputable def sG(b:aO)(e:Sl):Prop:=
 ∃H,(b=dB H)/\
 bi h (H.add 4) λx2=>
 aL (σ:=Int) (λd I g=>
 Br (d<(x2.len:Int))
 (∃a4,(b=dB a4)/\
 bi g (a4.add 4) λP=>
 aR P d λK=>
 bi g (K.add (d.toNat*1)) λN=>
 Br (!(qS N.ptr))
 (I (qc xx (d+1)) g)
 (∃F,(b=dB F)/\
 bi g (F.add 10) λQ=>
 aR Q d λu=>
 bi g (u.add (d.toNat*1)) λt=>
 ae xB 146 #[t] aI g λf x=>
 ∃i,(b=dB i)/\
 bi x (i.add 9) λr=>
 aR r d λE=>
 bi x (E.add (d.toNat*1)) λo=>
 aL (σ:=Int) (λc M h3=>
 Br (c<(o.len:Int))
 (aR o c λA=>
 gg .u8 h3 (A.add (c.toNat*1)) λv=>
 aR e c λw=>
 bi h3 (w.add (c.toNat*1)) λm=>
 aL (σ:=Int) (λa O l=>
 Br (a<(m.len:Int))
 (aR m a λy=>
 gg .u8 l (y.add (a.toNat*1)) λs=>
 aR f a λa25=>
 gg .u8 l (a25.add (a.toNat*1)) λj=>
 ∃k,(b=dB k)/\
 kA l k λz=>
 ae xB 280 #[z,(xq xy v),(xq xy s)] (.one (.sc (.int .u8))) l λB J=>
 (az.ok [(a25.add (a.toNat*1),(xq xy j))] J)/\
 aR f a λD=>
 ag xB (qf 5 (D.add (a.toNat*1)) (xq xy (qc xy ((qD (qk xy) j^^^(qD (qk xy) B)).toNat:Nat)))) J λ_ G=>
 (az.ok [] G)/\
 O (qc xx (a+1)) G)
 (M (qc xx (c+1)) l)) (0:Int) h3)
 (∃n,(b=dB n)/\
 bi h3 (n.add 4) λq=>
 aR q d λp=>
 ag xB (qf 34 (p.add (d.toNat*1)) f) h3 λ_ L=>
 I (qc xx (d+1)) L)) (0:Int) x))
 (R (.tuple #[]) g)) (0:Int) h
theorem DI(b:aO)(a:Sl)(c:@sG R h b a):ac xB 222 #[b,a] h R:=aw af func222 (an.tn (.inn (.loop [(15,ba)] [(4,10),(15,80)] (an.tn (an.tn (.two (.inn (an.tn (an.tn (an.tn (.two (an.tn (.inn (.loop [(42,ba)] [(6,10),(42,72)] (an.tn (an.tn (.two (.inn (an.tn (an.tn (.inn (.loop [(52,ba)] [(8,10),(52,71)] .n))))) .n)))))) .n))))) .n)))))) c
noncomputable def Nx(a:Int):Prop:=
 aS xB (qM 344 (xw #[(xq xA (qc xA a))])) h λb c=>
 R b c
theorem Un(a:Int)(b:@Nx R h a):ac xB 223 #[(xq xz a)] h R:=aw af func223 .n b
noncomputable def AP(a:aO):Prop:=
 Br (qS a)
 (R (xq xz 0) h)
 (∃b,(a=dB b)/\
 gg .u64 h b λx2=>
 ∃a3,(a=dB a3)/\
 ag xB (qf 311 a3 (xq xA (qc xA ((qc xA (x2*6364136223846793005))+1442695040888963407)))) h λ_ c=>
 ∃a4,(a=dB a4)/\
 gg .u64 c a4 λd=>
 (0<=(32:Int))/\
 R (xq xz (qc xz (qX d (2^min (32:Int).toNat (qk xA))))) c)
theorem Il(a:aO)(b:@AP R h a):ac xB 224 #[a] h R:=aw af func224 .n b
noncomputable def DJ(a:Sl)(b:aO):Prop:=
 Br ((a.len:Int)==0)
 (R (xq xx 0) h)
 (aR a (qc xx ((a.len:Int)-1)) λc=>
 aZ h (c.add ((qc xx ((a.len:Int)-1)).toNat*1)) λx2=>
 ae xB 282 #[b,x2] bx h λf g=>
 ae xB 281 #[a,f] bx g λe d=>
 R e d)
theorem LD(a:Sl)(b:aO)(c:@DJ R h a b):ac xB 225 #[a,b] h R:=aw af func225 .n c
noncomputable def Cd(a:Int):Prop:=
 bm (σ:=Unit) (λ_ l=>
 aB xB (qF 22 (xq xx 0) a) aI l λc i=>
 aL (σ:=Sl×Int×Int) (λb g h3=>
 Br (b.2.2<=a)
 (ae xB 283 #[a,b.2.2] bx h3 λe j=>
 aB xB (qq 22 1 #[(0,(qc xx (b.2.1+e)))]) aI j λv5 f=>
 aB xB (qt #[22,22] 22 #[b.1,v5]) aI f λd m=>
 g ((⟨d.ptr,d.len,d.cap⟩:Sl),qc xx (b.2.1+e),qc xx (b.2.2+1)) m)
 (R b.1 h3)) ((⟨c.ptr,c.len,c.cap⟩:Sl),(0:Int),(1:Int)) i)
 (λk=>
 Br (a<1) (R (xr none 0 0) h) (Br (a>64)
 (R (xr none 0 0) h)
 (k () h)))
theorem JY(a:Int)(b:@Cd R h a):ac xB 226 #[a] h R:=aw af func226 (an.tn (.two (.join [] [(2,3),(6,12)] .n) (an.tn (an.tn (.two (an.tn (.inn (.loop [(3,cA),(4,ba),(5,ba)] [(3,6),(14,28)] .n))) .n))))) b
noncomputable def Gp(m:aO)(a:Int)(b:Int):Prop:=
 bm (σ:=Unit) (λ_ x=>
 aB xB (qF 22 a a) aI x λd t=>
 aL (σ:=Int) (λf r h3=>
 Br (f<(d.len:Int))
 (aR d f λa4=>
 ag xB (qf 3 (a4.add (f.toNat*1)) f) h3 λ_ v=>
 r (qc xx (f+1)) v)
 (aL (σ:=Int) (λc u p=>
 Br (c<b)
 (ae xB 282 #[m,(qc xx (a-c))] bx p λg k=>
 aR d (qc xx (c+g)) λs=>
 aZ k (s.add ((qc xx (c+g)).toNat*1)) λw=>
 aR d c λa9=>
 aZ k (a9.add (c.toNat*1)) λi=>
 aR d c λj=>
 ag xB (qf 3 (j.add (c.toNat*1)) w) k λ_ o=>
 (az.ok [] o)/\
 aR d (qc xx (c+g)) λl=>
 ag xB (qf 3 (l.add ((qc xx (c+g)).toNat*1)) i) o λ_ h8=>
 (az.ok [] h8)/\
 u (qc xx (c+1)) h8)
 ((0<=b/\b<=(d.cap:Int))/\
 ae xB 128 #[(xr d.ptr b.toNat d.cap)] aI p λe q=>
 ae xB 148 #[e] il q λ_ n=>
 R e n)) (0:Int) h3)) (0:Int) t)
 (λy=>
 Br (a<0) (R (xr none 0 0) h) (Br (a>64) (R (xr none 0 0) h) (Br (b<0) (R (xr none 0 0) h) (Br (b>a)
 (R (xr none 0 0) h)
 (y () h)))))
theorem Ny(a:aO)(b:Int)(c:Int)(d:@Gp R h a b c):ac xB 227 #[a,b,c] h R:=aw af func227 (an.tn (.two (.join [] [(6,7),(12,27)] .n) (an.tn (.two (an.tn (.inn (.loop [(31,ba)] [(8,9),(31,39)] .n))) (.two (an.tn (.inn (.loop [(40,ba)] [(9,11),(40,65)] .n))) .n))))) d
noncomputable def DL(a:Int):Prop:=
 ae xB 162 #[a,(xq xx 0),(xq xx 15)] bN h λc b=>
 R (xv (!c)) b
theorem LF(a:Int)(b:@DL R h a):ac xB 228 #[a] h R:=aw af func228 .n b
noncomputable def Gq:Prop:=
 aS xB (qM 299 (xw #[(.complex .f64 0 0),(.complex .f64 4607182418800017408 0),(xq xx 1),(xq xx 1),eR])) h λa b=>
 R a b
theorem Nz(a:@Gq R h):ac xB 229 #[] h R:=aw af func229 .n a
noncomputable def vg(a:aO):Prop:=
 ∃z,(a=dB z)/\
 ∃x2:Nat×Nat,cellOf h z=dB (.complex .f64 x2.1 x2.2)/\
 ∃a3,(a=dB a3)/\
 ∃o:Nat×Nat,cellOf h (a3.add 1)=dB (.complex .f64 o.1 o.2)/\
 ∃z5:Nat×Nat,(kK xB .add 235 (.tmp 5) (.tmp 9) (.complex .f64 x2.1 x2.2) (.complex .f64 o.1 o.2) (.complex .f64 z5.1 z5.2))/\
 ∃v,(a=dB v)/\
 ag xB (qf 235 v (.complex .f64 z5.1 z5.2)) h λ_ t=>
 (az.ok [] t)/\
 ∃y,(a=dB y)/\
 aZ t (y.add 2) λB=>
 ∃a9,(a=dB a9)/\
 ag xB (qf 3 (a9.add 2) (qc xx (B-1))) t λ_ m=>
 ∃c,(a=dB c)/\
 aZ m (c.add 2) λp=>
 Br (p>0)
 (R (.tuple #[]) m)
 (∃e,(a=dB e)/\
 ∃b:Nat×Nat,cellOf m (e.add 1)=dB (.complex .f64 b.1 b.2)/\
 ae xB 284 #[(.complex .f64 b.1 b.2),(xq xx 1)] (.one (.sc (.cpx .f64))) m λg h3=>
 ∃l,(a=dB l)/\
 ag xB (qf 235 (l.add 1) (.complex .f64 g.1 g.2)) h3 λ_ n=>
 bm (σ:=Unit) (λ_ x=>
 ∃a22,(a=dB a22)/\
 su x (a22.add 4) λq=>
 ∃j,(a=dB j)/\
 ag xB (qf 4 (j.add 4) (xv (!q))) x λ_ w=>
 ∃a25,(a=dB a25)/\
 aZ w (a25.add 3) λr=>
 ∃d,(a=dB d)/\
 ag xB (qf 3 (d.add 2) r) w λ_ h8=>
 R (.tuple #[]) h8)
 (λA=>
 ∃k,(a=dB k)/\
 su n (k.add 4) λu=>
 Br u
 (∃i,(a=dB i)/\
 aZ n (i.add 3) λs=>
 ∃f,(a=dB f)/\
 ag xB (qf 3 (f.add 3) (qc xx (s+1))) n λ_ D=>
 A () D)
 (A () n)))
theorem GG(a:aO)(b:@vg R h a):ac xB 230 #[a] h R:=aw af func230 (an.tn (an.tn (an.tn (an.tn (.two (.join [] [(33,44)] .n) .n))))) b
noncomputable def sH(a:Nat):Prop:=
 R (xv ((FloatKind.format .f64).order a a !=dB .eq)) h
theorem DM(a:Nat)(b:@sH R h a):ac xB 232 #[(.float .f64 a)] h R:=aw af func232 .n b
noncomputable def rO(a:Int):Prop:=
 R (xv (a !=a)) h
theorem vn(a:Int)(b:@rO R h a):ac xB 233 #[a] h R:=aw af func233 .n b
noncomputable def iB(a:Sl)(i:Int)(p:Int)(b:cN):Prop:=
 aL (σ:=Int) (λk r s=>
 Br (k<p)
 (aL (σ:=Int) (λc u f=>
 bm (σ:=Unit) (λ_ n=>
 aR a (qc xx (c-1)) λa9=>
 ∃d:iO,aq n (a9.add ((qc xx (c-1)).toNat*4)) 0 d/\
 aR a c λl=>
 ∃e:iO,aq n (l.add (c.toNat*4)) 0 e/\
 aR a c λm=>
 ag xB (qf 94 (m.add (c.toNat*4)) d) n λ_ t=>
 (az.ok [] t)/\
 aR a (qc xx (c-1)) λo=>
 ag xB (qf 94 (o.add ((qc xx (c-1)).toNat*4)) e) t λ_ q=>
 (az.ok [] q)/\
 u (qc xx (c-1)) q)
 (λv=>
 Br (c>i) (aR a c λa3=>
 ∃j:iO,aq f (a3.add (c.toNat*4)) 0 j/\
 aR a (qc xx (c-1)) λa5=>
 ∃g:iO,aq f (a5.add ((qc xx (c-1)).toNat*4)) 0 g/\
 iC C b.1 (b.2.1.toList++[(xw #[j.1,j.2.1,j.2.2.1,j.2.2.2]),(xw #[g.1,g.2.1,g.2.2.1,g.2.2.2])]++b.2.2.toList) bx f λw h3=>
 (az.ok [] h3)/\
 Br (w<0)
 (v () h3)
 (r (qc xx (k+1)) h3)) ((az.ok [] f)/\
 r (qc xx (k+1)) f))) k s)
 (R (.tuple #[]) s)) (qc xx (i+1)) h
theorem mb(b:Sl)(c:Int)(d:Int)(a:cN)(e:@iB R h b c d a):ac xB 234 #[b,c,d,(.func (.func a.1) a.2.1 a.2.2)] h R:=aw af func234 (an.tn (.inn (.loop [(8,ba)] [(8,10),(12,53)] (an.tn (.two (.inn (an.tn (.inn (.loop [(9,ba)] [(9,10),(18,53)] (.two (.join [] [(18,35)] .n) .n))))) .n))))) e
noncomputable def ut(a:aO):Prop:=
 Br (qS a)
 (R (xq xx 0) h)
 (∃b,(a=dB b)/\
 aZ h (b.add 1) λx2=>
 R x2 h)
theorem EY(a:aO)(b:@ut R h a):ac xB 244 #[a] h R:=aw af func244 .n b
noncomputable def sI(c:aO):Prop:=
 aS xB (qL 3 true (.tuple #[])) h λa k=>
 ag xB (qf 3 a (xq xx 0)) k λ_ f=>
 aL (σ:=Unit) (λ_ j h3=>
 ∃a3,(c=dB a3)/\
 bi h3 (a3.add 4) λi=>
 ae xB 298 #[i,(.func (.func 299) #[] #[a])] bN h3 λl b=>
 Br l
 (aZ b a λe=>
 ag xB (qf 3 a (qc xx (e+1))) b λ_ d=>
 j () d)
 (aZ b a λg=>
 R g b)) () f
theorem DN(a:aO)(b:@sI R h a):ac xB 245 #[a] h R:=aw af func245 (an.tn (an.tn (.two (.inn (.loop [] [(4,12)] .n)) .n))) b
noncomputable def Gr(b:Sl):Prop:=
 aL (σ:=Int×Int) (λa d c=>
 Br (a.2<(b.len:Int))
 (aR b a.2 λe=>
 gg .u8 c (e.add (a.2.toNat*1)) λx3=>
 (0<=(8:Int))/\
 d (qc xx ((qD (qk xx) (qc xx (a.1*2^min (8:Int).toNat (qk xx)))|||(qD (qk xx) (qc xx x3))).toNat:Nat),qc xx (a.2+1)) c)
 (R a.1 c)) ((0:Int),(0:Int)) h
theorem NA(a:Sl)(b:@Gr R h a):ac xB 246 #[a] h R:=aw af func246 (an.tn (an.tn (.two (an.tn (.inn (.loop [(3,ba),(8,ba)] [(3,4),(5,6),(8,18)] .n))) .n))) b
noncomputable def Ce(g:iO)(a:Addr):Prop:=
 aS xB (qM 94 g) h λc b=>
 aZ b (c.add 1) λx2=>
 aZ b a λx3=>
 Br (x2==x3) (bi b (c.add 3) λi=>
 aZ b (a.add 1) λe=>
 Br ((i.len:Int)>e) (gg .u32 b (a.add 6) λl=>
 aZ b a λp=>
 aZ b (a.add 1) λo=>
 bi b (c.add 3) λn=>
 aZ b (a.add 1) λd=>
 aR n d λj=>
 aZ b (j.add (d.toNat*1)) λf=>
 ae xB 62 #[p,o,f] (.one (.sc (.int .u32))) b λk m=>
 (az.ok [(a.add 1,d),(c.add 3,n),(a.add 6,(xq xz l)),(a.add 1,e),(c.add 3,i),(a,x3),(c.add 1,x2)] m)/\
 R (xv (l==k)) m) ((az.ok [(a.add 1,e),(c.add 3,i),(a,x3),(c.add 1,x2)] b)/\
 R eR b)) ((az.ok [(a,x3),(c.add 1,x2)] b)/\
 R eR b)
theorem JZ(b:iO)(a:Addr)(c:@Ce R h b a):ac xB 247 #[b,a] h R:=aw af func247 .n c
noncomputable def jT(b:Sl)(c:Int)(a:cN):Prop:=
 aL (σ:=Int×Int) (λf o k=>
 Br (f.2<=c)
 (ae xB 300 #[b,f.1,f.2,(.func (.func a.1) a.2.1 a.2.2)] il k λ_ m=>
 o (f.2,qc xx (f.2+20)) m)
 (ae xB 300 #[b,f.1,c,(.func (.func a.1) a.2.1 a.2.2)] il k λ_ h3=>
 aL (σ:=Int) (λe i j=>
 Br (e<c)
 (aL (σ:=Int×Int) (λd n g=>
 Br (d.2<=c)
 (ae xB 301 #[b,d.1,(qc xx (d.1+e)),d.2,(.func (.func a.1) a.2.1 a.2.2)] il g λ_ p=>
 n (d.2,qc xx (d.2+(qc xx (2*e)))) p)
 (Br ((qc xx (d.1+e))<c)
 (ae xB 301 #[b,d.1,(qc xx (d.1+e)),c,(.func (.func a.1) a.2.1 a.2.2)] il g λ_ l=>
 i (qc xx (e*2)) l)
 (i (qc xx (e*2)) g))) ((0:Int),qc xx (2*e)) j)
 (R (.tuple #[]) j)) (20:Int) h3)) ((0:Int),(20:Int)) h
theorem nV(b:Sl)(c:Int)(a:cN)(d:@jT R h b c a):ac xB 248 #[b,c,(.func (.func a.1) a.2.1 a.2.2)] h R:=aw af func248 (an.tn (an.tn (.two (.inn (.loop [(7,ba),(8,ba)] [(7,9),(11,23)] .n)) (an.tn (.inn (.loop [(6,ba)] [(6,10),(28,63)] (an.tn (.inn (an.tn (.two (.inn (.loop [(7,ba),(8,ba)] [(7,9),(33,49)] .n)) .n)))))))))) d
noncomputable def Im(c:Sl)(b:Int)(a:Int):Prop:=
 aL (σ:=Int) (λe g d=>
 Br (e>=(c.len:Int))
 (R (xq xx (-1:Int)) d)
 (aR c e λi=>
 bi d (i.add (e.toNat*1)) λx3=>
 aR x3 a λa4=>
 gg .u8 d (a4.add (a.toNat*1)) λf=>
 Br (f !=0)
 (R e d)
 (g (qc xx (e+1)) d))) b h
theorem PD(c:Sl)(b:Int)(a:Int)(d:@Im R h c b a):ac xB 249 #[c,b,a] h R:=aw af func249 (an.tn (.scope 0 [(7,ba)] [(6,8),(9,24)] [.n] [.n] [(1,[.n])])) d
noncomputable def KC(c:aO)(d:Int)(a:Sl):Prop:=
 ae xB 302 #[c] iP h λo n=>
 aB xB (qF 34 (xq xx (a.len:Int)) (xq xx (a.len:Int))) aI n λe j=>
 aL (σ:=Int) (λb l h3=>
 Br (b<(a.len:Int))
 (aR a b λa4=>
 gg .u8 h3 (a4.add (b.toNat*1)) λf=>
 ae xB 280 #[o,(xq xy d),(xq xy f)] (.one (.sc (.int .u8))) h3 λm k=>
 aR e b λg=>
 ag xB (qf 5 (g.add (b.toNat*1)) (xq xy m)) k λ_ i=>
 l (qc xx (b+1)) i)
 (R e h3)) (0:Int) j
theorem RW(c:aO)(a:Int)(b:Sl)(d:@KC R h c a b):ac xB 250 #[c,(xq xy a),b] h R:=aw af func250 (an.tn (an.tn (an.tn (.two (an.tn (.inn (.loop [(17,ba)] [(8,10),(17,30)] .n))) .n)))) d
noncomputable def DO(b:aO)(a:Int):Prop:=
 Br (a==0)
 (R (xq xy 0) h)
 (ae xB 206 #[b] iP h λe c=>
 ∃d,(e=dB d)/\
 (0<=a/\a<((256:Nat):Int))/\
 aZ c ((d.add 255).add (a.toNat*1)) λx3=>
 ((255:Int)≠0)/\
 ∃a4,(e=dB a4)/\
 (0<=(wi (qc xx (255-x3)) 255)/\(wi (qc xx (255-x3)) 255)<((255:Nat):Int))/\
 gg .u8 c (a4.add ((wi (qc xx (255-x3)) 255).toNat*1)) λf=>
 R (xq xy f) c)
theorem LG(b:aO)(a:Int)(c:@DO R h b a):ac xB 251 #[b,(xq xy a)] h R:=aw af func251 .n c
noncomputable def QJ(f:aO)(d:Int)(c:Sl)(b:Sl):Prop:=
 Br (d==0)
 (R (.tuple #[]) h)
 (aL (σ:=Int) (λa k e=>
 Br (a<(c.len:Int))
 (aR c a λm=>
 gg .u8 e (m.add (a.toNat*1)) λx3=>
 aR b a λa4=>
 gg .u8 e (a4.add (a.toNat*1)) λg=>
 ae xB 280 #[f,(xq xy d),(xq xy x3)] (.one (.sc (.int .u8))) e λl i=>
 (az.ok [(a4.add (a.toNat*1),(xq xy g))] i)/\
 aR b a λj=>
 ag xB (qf 5 (j.add (a.toNat*1)) (xq xy (qc xy ((qD (qk xy) g^^^(qD (qk xy) l)).toNat:Nat)))) i λ_ h3=>
 (az.ok [] h3)/\
 k (qc xx (a+1)) h3)
 (R (.tuple #[]) e)) (0:Int) h)
theorem Wt(b:aO)(d:Int)(c:Sl)(a:Sl)(e:@QJ R h b d c a):ac xB 252 #[b,(xq xy d),c,a] h R:=aw af func252 (an.tn (an.tn (.inn (.loop [(14,ba)] [(8,10),(14,30)] .n)))) e
noncomputable def QK(a:Sl)(c:Sl):Prop:=
 Br ((a.len:Int) !=(c.len:Int))
 (R (.tuple #[(xr none 0 0),eR]) h)
 (aB xB (qF 34 (xq xx (a.len:Int)) (xq xx (a.len:Int))) aI h λe k=>
 aL (σ:=Int) (λb j d=>
 Br (b<(a.len:Int))
 (aR a b λa3=>
 gg .u8 d (a3.add (b.toNat*1)) λi=>
 aR c b λa5=>
 gg .u8 d (a5.add (b.toNat*1)) λg=>
 aR e b λf=>
 ag xB (qf 5 (f.add (b.toNat*1)) (xq xy (qc xy ((qD (qk xy) i^^^(qD (qk xy) g)).toNat:Nat)))) d λ_ h3=>
 (az.ok [] h3)/\
 j (qc xx (b+1)) h3)
 (R (.tuple #[e,true]) d)) (0:Int) k)
theorem Wu(a:Sl)(b:Sl)(c:@QK R h a b):ac xB 253 #[a,b] h R:=aw af func253 (an.tn (an.tn (an.tn (.two (an.tn (.inn (.loop [(18,ba)] [(7,8),(18,34)] .n))) .n)))) c
noncomputable def Io(c:Int)(d:Sl):Prop:=
 bm (σ:=Unit) (λ_ u=>
 aL (σ:=Int) (λe t j=>
 Br (e<(d.len:Int))
 (aR d e λa3=>
 ∃r:Sl×Sl,aq j (a3.add (e.toNat*2)) 0 r/\
 aS xB (qL 275 true (.tuple #[])) j λa5 h3=>
 ag xB (qf 275 a5 r) h3 λ_ p=>
 bi p a5 λq=>
 aL (σ:=Int) (λb o a=>
 Br (b<(q.len:Int))
 (aR q b λs=>
 aZ a (s.add (b.toNat*1)) λn=>
 Br (n<0) (R eR a) (Br (n>=c) (R eR a) (Br (b>0) (bi a a5 λf=>
 aR f (qc xx (b-1)) λg=>
 aZ a (g.add ((qc xx (b-1)).toNat*1)) λi=>
 Br (i>=n)
 (R eR a)
 (o (qc xx (b+1)) a)) (o (qc xx (b+1)) a))))
 (bi a (a5.add 1) λl=>
 aR d (0:Int) λm=>
 bi a ((m.add ((0:Int).toNat*2)).add 1) λk=>
 Br ((l.len:Int) !=(k.len:Int))
 (R eR a)
 (t (qc xx (e+1)) a))) (0:Int) p)
 (R true j)) (0:Int) u)
 (λv=>
 Br (c<0) (R eR h) (Br (c>64)
 (R eR h)
 (v () h)))
theorem PE(a:Int)(b:Sl)(c:@Io R h a b):ac xB 263 #[a,b] h R:=aw af func263 (an.tn (.two (.join [] [(4,5),(9,15)] .n) (.two (an.tn (.inn (.loop [(17,ba)] [(4,5),(6,9),(17,61)] (an.tn (an.tn (.two (.inn (an.tn (.two (an.tn (.inn (.loop [(24,ba)] [(4,5),(7,9),(24,51)] .n))) .n))) .n)))))) .n))) c
noncomputable def vq(a:aO):Prop:=
 aL (σ:=Unit) (λ_ w x=>
 ae xB 306 #[a] bx x λr j=>
 Br (r<0)
 (R (.tuple #[]) j)
 (∃a3,(a=dB a3)/\
 bi j a3 λz=>
 aR z r λa5=>
 ∃u:Sl×Sl,aq j (a5.add (r.toNat*2)) 0 u/\
 ae xB 265 #[a,u] (.one (.agg [.slc,.slc])) j λy h3=>
 aS xB (qL 275 true (.tuple #[])) h3 λc v=>
 ag xB (qf 275 c y) v λ_ b=>
 ∃a9,(a=dB a9)/\
 bi b (a9.add 1) λk=>
 bi b c λl=>
 aR l (0:Int) λm=>
 aZ b (m.add ((0:Int).toNat*1)) λf=>
 ∃g,(a=dB g)/\
 bi b (g.add 2) λq=>
 bi b c λi=>
 aR i (0:Int) λp=>
 aZ b (p.add ((0:Int).toNat*1)) λd=>
 bi b (c.add 1) λe=>
 aR k f λn=>
 ag xB (qf 4 (n.add (f.toNat*1)) true) b λ_ t=>
 (az.ok [(c.add 1,e),(c,i)] t)/\
 aR q d λo=>
 ag xB (qf 34 (o.add (d.toNat*1)) e) t λ_ s=>
 (az.ok [] s)/\
 w () s)) () h
theorem GH(a:aO)(b:@vq R h a):ac xB 264 #[a] h R:=aw af func264 (.scope 0 [] [(2,37)] [] [.n] []) b
noncomputable def uu(k:aO)(A:Sl×Sl):Prop:=
 aS xB (qM 275 A) h λE N=>
 aS xB (qL 275 true (.tuple #[])) N λD B=>
 bi B (E.add 1) λx3=>
 ae xB 146 #[x3] aI B λO h3=>
 aS xB (qL 275 true (.tuple #[])) h3 λa5 M=>
 ag xB (qf 275 a5 (xw #[(xr none 0 0),O])) M λ_ H=>
 bi H E λF=>
 aL (σ:=Int) (λm G d=>
 Br (m<(F.len:Int))
 (aR F m λI=>
 aZ d (I.add (m.toNat*1)) λn=>
 ∃f,(k=dB f)/\
 bi d (f.add 1) λp=>
 aR p n λv=>
 su d (v.add (n.toNat*1)) λw=>
 Br (!w)
 (bi d a5 λo=>
 aB xB (qq 22 1 #[(0,n)]) aI d λz J=>
 aB xB (qt #[22,22] 22 #[o,z]) aI J λr h8=>
 ag xB (qf 22 a5 r) h8 λ_ K=>
 G (qc xx (m+1)) K)
 (∃i,(k=dB i)/\
 bi d (i.add 2) λq=>
 aR q n λx=>
 bi d (x.add (n.toNat*1)) λj=>
 aL (σ:=Int) (λa L c=>
 Br (a<(j.len:Int))
 (aR j a λa22=>
 gg .u8 c (a22.add (a.toNat*1)) λs=>
 bi c (a5.add 1) λe=>
 aR e a λa25=>
 gg .u8 c (a25.add (a.toNat*1)) λt=>
 aR e a λu=>
 ag xB (qf 5 (u.add (a.toNat*1)) (xq xy (qc xy ((qD (qk xy) t^^^(qD (qk xy) s)).toNat:Nat)))) c λ_ y=>
 L (qc xx (a+1)) y)
 (G (qc xx (m+1)) c)) (0:Int) d))
 (∃g:Sl×Sl,aq d a5 0 g/\
 ag xB (qf 275 D g) d λ_ l=>
 ∃b:Sl×Sl,aq l D 0 b/\
 R b l)) (0:Int) H
theorem EZ(b:aO)(a:Sl×Sl)(c:@uu R h b a):ac xB 265 #[b,a] h R:=aw af func265 (an.tn (an.tn (.two (an.tn (.inn (.loop [(17,ba)] [(7,10),(17,58)] (an.tn (an.tn (.two (.inn (an.tn (an.tn (an.tn (.inn (.loop [(43,ba)] [(8,10),(43,57)] .n)))))) .n)))))) .n))) c
noncomputable def Gs(a:Sl):Prop:=
 ae xB 221 #[a,abG] aI h λc b=>
 R (xv ((c.len:Int)==0)) b
theorem NB(a:Sl)(b:@Gs R h a):ac xB 266 #[a] h R:=aw af func266 .n b
noncomputable def Ip(i:Int)(b:Sl):Prop:=
 aS xB (qL 279 true (.tuple #[])) h λJ h1=>
 ae xB 307 #[i,b] bN h1 λr2 N=>
 Br (!r2)
 (ag xB (qf 279 J (xw #[(xr none 0 0),(xr none 0 0),(xr none 0 0)])) N λ_ h3=>
 ∃m:Sl×Sl×Sl,aq h3 J 0 m/\
 R (.tuple #[m,eR]) h3)
 (bm (σ:=aO) (λa y=>
 ∃F,(a=dB F)/\
 bi y (F.add 1) λU=>
 aL (σ:=Int) (λk K2 o=>
 Br (k<(U.len:Int))
 (∃u,(a=dB u)/\
 bi o (u.add 1) λar=>
 aR ar k λab=>
 ag xB (qf 4 (ab.add (k.toNat*1)) true) o λ_ Z=>
 K2 (qc xx (k+1)) Z)
 (aS xB (qL 279 true (.tuple #[])) o λc Q=>
 aL (σ:=Unit) (λ_ K3 z=>
 ∃D,(a=dB D)/\
 bi z (D.add 1) λa2=>
 ae xB 308 #[a2,true] bN z λap p=>
 Br (!ap)
 (∃a22,(a=dB a22)/\
 bi p (a22.add 2) λr=>
 aL (σ:=Int) (λe K4 d=>
 Br (e<(r.len:Int))
 (aR r e λa25=>
 su d (a25.add (e.toNat*1)) λT=>
 Br (!T)
 (bi d (c.add 2) λam=>
 aB xB (qq 22 1 #[(0,e)]) aI d λv28 a0=>
 aB xB (qt #[22,22] 22 #[am,v28]) aI a0 λP a4=>
 ag xB (qf 22 (c.add 2) P) a4 λ_ M=>
 K4 (qc xx (e+1)) M)
 (K4 (qc xx (e+1)) d))
 (∃w:Sl×Sl×Sl,aq d c 0 w/\
 ag xB (qf 279 J w) d λ_ E=>
 ∃f:Sl×Sl×Sl,aq E J 0 f/\
 R (.tuple #[f,true]) E)) (0:Int) p)
 (bm (σ:=Unit) (λ_ ay=>
 K3 () ay)
 (λK5=>
 ae xB 309 #[a] (.many [(.agg [(.int .i64),(.int .i64)]),kB]) p λt a8=>
 aS xB (qL 332 true (.tuple #[])) a8 λj ao=>
 ag xB (qf 332 j t.1) ao λ_ l=>
 Br t.2
 (bi l c λax=>
 ∃A:Int×Int,aq l j 0 A/\
 aB xB (qq 277 1 #[(0,A)]) aI l λbd X=>
 aB xB (qt #[277,277] 277 #[ax,bd]) aI X λa7 a3=>
 ag xB (qf 277 c a7) a3 λ_ g=>
 ∃s,(a=dB s)/\
 bi g (s.add 2) λS=>
 aZ g j λG=>
 ∃H,(a=dB H)/\
 bi g (H.add 1) λK=>
 aZ g (j.add 1) λn=>
 aR S G λad=>
 ag xB (qf 4 (ad.add (G.toNat*1)) true) g λ_ x=>
 (az.ok [(j.add 1,n)] x)/\
 aR K n λa45=>
 ag xB (qf 4 (a45.add (n.toNat*1)) eR) x λ_ I=>
 (az.ok [] I)/\
 K5 () I)
 (ae xB 310 #[a] bx l λq v=>
 bi v (c.add 1) λah=>
 aB xB (qq 22 1 #[(0,q)]) aI v λa5 Y=>
 aB xB (qt #[22,22] 22 #[ah,a5]) aI Y λV L=>
 ag xB (qf 22 (c.add 1) V) L λ_ B=>
 ∃a50,(a=dB a50)/\
 bi B (a50.add 1) λbb=>
 aR bb q λW=>
 ag xB (qf 4 (W.add (q.toNat*1)) eR) B λ_ O=>
 K5 () O)))) () Q)) (0:Int) y)
 (λK1=>
 (aB xB (qF 282 i i) aI N λv4 h4=>
 (az.ok [] h4)/\
 aB xB (qF 282 (xq xx (b.len:Int)) (xq xx (b.len:Int))) aI h4 λv5 h5=>
 (az.ok [] h5)/\
 aS xB (qM 366 (xw #[b,v4,v5])) h5 λa6 h6=>
 (az.ok [] h6)/\
 K1 (dB a6) h6)/\(aB xB (qF 282 (xq xx (b.len:Int)) (xq xx (b.len:Int))) aI N λv7 h7=>
 (az.ok [] h7)/\
 aB xB (qF 282 i i) aI h7 λv8 h8=>
 (az.ok [] h8)/\
 aS xB (qM 366 (xw #[b,v8,v7])) h8 λa9 h9=>
 (az.ok [] h9)/\
 K1 (dB a9) h9)))
theorem PF(a:Int)(b:Sl)(c:@Ip R h a b):ac xB 267 #[a,b] h R:=aw af func267 (an.tn (.scope 1 [] [(5,6),(9,14),(42,108)] [.n,(.join [(6,FR)] [(6,7),(19,27)] .n),(an.tn (.inn (.loop [(32,ba)] [(7,8),(32,42)] .n))),.n] [(an.tn (.two (.join [] [(9,12),(48,88)] .n) .n))] [(0,[(.two (an.tn (.inn (.loop [(93,ba)] [(12,14),(93,107)] .n))) .n)])])) c
noncomputable def ja(a:Sl)(b:cN):Prop:=
 ae xB 311 #[a,(.func (.func b.1) b.2.1 b.2.2)] bx h λg k=>
 Br (g==(-1:Int))
 (R a k)
 (aL (σ:=Int×Int) (λc l d=>
 Br (c.2<(a.len:Int))
 (aR a c.2 λa3=>
 ∃m:Int×Int,aq d (a3.add (c.2.toNat*2)) 0 m/\
 aS xB (qL 332 true (.tuple #[])) d λa5 h3=>
 ag xB (qf 332 a5 m) h3 λ_ i=>
 ∃e:Int×Int,aq i a5 0 e/\
 iC C b.1 (b.2.1.toList++[(xw #[e.1,e.2])]++b.2.2.toList) bN i λp f=>
 Br (!p)
 (∃j:Int×Int,aq f a5 0 j/\
 aR a c.1 λa9=>
 ag xB (qf 332 (a9.add (c.1.toNat*2)) j) f λ_ o=>
 l (qc xx (c.1+1),qc xx (c.2+1)) o)
 (l (c.1,qc xx (c.2+1)) f))
 ((0<=c.1/\c.1<=(a.len:Int))/\
 ag xB (yK #[277] 0 #[(.slice (if a.cap=c.1.toNat then a.ptr else a.ptr.map (·.add (c.1.toNat*2))) (a.len-c.1.toNat) (a.cap-c.1.toNat))]) d λ_ n=>
 (0<=c.1/\c.1<=(a.cap:Int))/\
 R (xr a.ptr c.1.toNat a.cap) n)) (g,qc xx (g+1)) k)
theorem mK(b:Sl)(a:cN)(c:@ja R h b a):ac xB 268 #[b,(.func (.func a.1) a.2.1 a.2.2)] h R:=aw af func268 (an.tn (an.tn (an.tn (.two (an.tn (.inn (.loop [(5,ba),(6,ba)] [(5,8),(16,36)] .n))) .n)))) c
noncomputable def om(c:Int×Int)(a:Addr):Prop:=
 aS xB (qM 332 c) h λe b=>
 aZ b e λx2=>
 kA b a λx3=>
 ∃a4,(x3=dB a4)/\
 bi b (a4.add 5) λd=>
 R (decide (x2>=(d.len:Int))) b
theorem xM(b:Int×Int)(a:Addr)(c:@om R h b a):ac xB 269 #[b,a] h R:=aw af func269 .n c
noncomputable def mg(a:Sl)(b:cN):Prop:=
 ae xB 189 #[a,(.func (.func b.1) b.2.1 b.2.2)] bx h λe g=>
 Br (e==(-1:Int))
 (R a g)
 (aL (σ:=Int×Int) (λc i d=>
 Br (c.2<(a.len:Int))
 (aR a c.2 λa3=>
 aZ d (a3.add (c.2.toNat*1)) λf=>
 iC C b.1 (b.2.1.toList++[(xq xx f)]++b.2.2.toList) bN d λj h3=>
 Br (!j)
 (aR a c.1 λk=>
 ag xB (qf 3 (k.add (c.1.toNat*1)) f) h3 λ_ m=>
 i (qc xx (c.1+1),qc xx (c.2+1)) m)
 (i (c.1,qc xx (c.2+1)) h3))
 ((0<=c.1/\c.1<=(a.len:Int))/\
 ag xB (yK #[22] 0 #[(.slice (if a.cap=c.1.toNat then a.ptr else a.ptr.map (·.add (c.1.toNat*1))) (a.len-c.1.toNat) (a.cap-c.1.toNat))]) d λ_ l=>
 (0<=c.1/\c.1<=(a.cap:Int))/\
 R (xr a.ptr c.1.toNat a.cap) l)) (e,qc xx (e+1)) g)
theorem sl(b:Sl)(a:cN)(c:@mg R h b a):ac xB 270 #[b,(.func (.func a.1) a.2.1 a.2.2)] h R:=aw af func270 (an.tn (an.tn (an.tn (.two (an.tn (.inn (.loop [(5,ba),(6,ba)] [(5,8),(16,36)] .n))) .n)))) c
noncomputable def oo(b:Int)(a:Addr):Prop:=
 kA h a λd=>
 ∃c,(d=dB c)/\
 bi h (c.add 5) λx3=>
 R (decide (b>=(x3.len:Int))) h
theorem xN(b:Int)(a:Addr)(c:@oo R h b a):ac xB 271 #[b,a] h R:=aw af func271 .n c
noncomputable def sJ(f:aO)(b:Int)(e:Int)(d:Sl)(c:Sl):Prop:=
 ∃E,(f=dB E)/\
 bi h (E.add 9) λx2=>
 aR x2 e λa3=>
 bi h (a3.add (e.toNat*1)) λG=>
 aL (σ:=Int) (λg L i=>
 Br (g<(G.len:Int))
 (aR G g λI=>
 gg .u8 i (I.add (g.toNat*1)) λK=>
 aR d g λA=>
 gg .u8 i (A.add (g.toNat*1)) λH=>
 ∃j,(f=dB j)/\
 kA i j λr=>
 ae xB 280 #[r,(xq xy b),(xq xy K)] (.one (.sc (.int .u8))) i λt D=>
 (az.ok [(A.add (g.toNat*1),(xq xy H))] D)/\
 aR d g λs=>
 ag xB (qf 5 (s.add (g.toNat*1)) (xq xy (qc xy ((qD (qk xy) H^^^(qD (qk xy) t)).toNat:Nat)))) D λ_ h3=>
 (az.ok [] h3)/\
 L (qc xx (g+1)) h3)
 (∃n,(f=dB n)/\
 bi i (n.add 10) λx=>
 aR x e λz=>
 bi i (z.add (e.toNat*1)) λp=>
 aL (σ:=Int) (λa J m=>
 Br (a<(p.len:Int))
 (aR p a λy=>
 gg .u8 m (y.add (a.toNat*1)) λw=>
 aR c a λl=>
 gg .u8 m (l.add (a.toNat*1)) λo=>
 ∃k,(f=dB k)/\
 kA m k λq=>
 ae xB 280 #[q,(xq xy b),(xq xy w)] (.one (.sc (.int .u8))) m λv F=>
 (az.ok [(l.add (a.toNat*1),(xq xy o))] F)/\
 aR c a λu=>
 ag xB (qf 5 (u.add (a.toNat*1)) (xq xy (qc xy ((qD (qk xy) o^^^(qD (qk xy) v)).toNat:Nat)))) F λ_ B=>
 (az.ok [] B)/\
 J (qc xx (a+1)) B)
 (R (.tuple #[]) m)) (0:Int) i)) (0:Int) h
theorem DP(e:aO)(a:Int)(d:Int)(c:Sl)(b:Sl)(f:@sJ R h e a d c b):ac xB 272 #[e,(xq xy a),d,c,b] h R:=aw af func272 (.two (an.tn (.inn (.loop [(22,ba)] [(10,12),(22,41)] .n))) (an.tn (.inn (.loop [(49,ba)] [(12,14),(49,68)] .n)))) f
noncomputable def rP(b:Sl)(d:Int):Prop:=
 bm (σ:=Sl) (λe h3=>
 Br ((e.len:Int)==0)
 (R (xr none 0 0) h3)
 (R e h3))
 (λf=>
 aL (σ:=Sl) (λa g c=>
 bm (σ:=Unit) (λ_ i=>
 (0<=(1:Int)/\(1:Int)<=(a.len:Int))/\
 g (⟨(if a.cap=(1:Int).toNat then a.ptr else a.ptr.map (·.add ((1:Int).toNat*1))),(a.len-(1:Int).toNat),(a.cap-(1:Int).toNat)⟩:Sl) i)
 (λj=>
 Br ((a.len:Int)>0) (aR a (0:Int) λk=>
 gg .u8 c (k.add ((0:Int).toNat*1)) λx3=>
 Br (x3==d)
 (j () c)
 (f (⟨a.ptr,a.len,a.cap⟩:Sl) c)) (f (⟨a.ptr,a.len,a.cap⟩:Sl) c))) (⟨b.ptr,b.len,b.cap⟩:Sl) h)
theorem CQ(a:Sl)(b:Int)(c:@rP R h a b):ac xB 273 #[a,(xq xy b)] h R:=aw af func273 (an.tn (.two (.join [(0,cA)] [(0,1),(5,17)] (.inn (.loop [(0,cA)] [(0,1),(5,17)] (.two (.join [] [(5,15)] .n) .n)))) .n)) c
noncomputable def pR(b:Sl)(d:Int):Prop:=
 bm (σ:=Sl) (λf h3=>
 R f h3)
 (λe=>
 aL (σ:=Sl) (λa g c=>
 bm (σ:=Unit) (λ_ i=>
 (0<=(qc xx ((a.len:Int)-1))/\(qc xx ((a.len:Int)-1))<=(a.cap:Int))/\
 g (⟨a.ptr,(qc xx ((a.len:Int)-1)).toNat,a.cap⟩:Sl) i)
 (λj=>
 Br ((a.len:Int)>0) (aR a (qc xx ((a.len:Int)-1)) λk=>
 gg .u8 c (k.add ((qc xx ((a.len:Int)-1)).toNat*1)) λx3=>
 Br (x3==d)
 (j () c)
 (e (⟨a.ptr,a.len,a.cap⟩:Sl) c)) (e (⟨a.ptr,a.len,a.cap⟩:Sl) c))) (⟨b.ptr,b.len,b.cap⟩:Sl) h)
theorem BA(a:Sl)(b:Int)(c:@pR R h a b):ac xB 274 #[a,(xq xy b)] h R:=aw af func274 (an.tn (.two (.join [(0,cA)] [(0,1),(5,23)] (.inn (.loop [(0,cA)] [(0,1),(5,23)] (.two (.join [] [(5,18)] .n) .n)))) .n)) c
noncomputable def DQ(d:aO)(a:Int)(b:Int):Prop:=
 bm (σ:=Unit) (λ_ l=>
 ae xB 206 #[d] iP l λg c=>
 ∃a3,(g=dB a3)/\
 (0<=a/\a<((256:Nat):Int))/\
 aZ c ((a3.add 255).add (a.toNat*1)) λf=>
 ∃a5,(g=dB a5)/\
 (0<=b/\b<((256:Nat):Int))/\
 aZ c ((a5.add 255).add (b.toNat*1)) λe=>
 ((255:Int)≠0)/\
 ∃i,(g=dB i)/\
 (0<=(wi (qc xx (f+e)) 255)/\(wi (qc xx (f+e)) 255)<((255:Nat):Int))/\
 gg .u8 c (i.add ((wi (qc xx (f+e)) 255).toNat*1)) λj=>
 R (xq xy j) c)
 (λk=>
 Br (a==0) (R (xq xy 0) h) (Br (b==0)
 (R (xq xy 0) h)
 (k () h)))
theorem LH(b:aO)(a:Int)(c:Int)(d:@DQ R h b a c):ac xB 280 #[b,(xq xy a),(xq xy c)] h R:=aw af func280 (an.tn (.two (.join [] [(6,7),(8,14)] .n) .n)) d
noncomputable def AQ(a:Sl)(b:Int):Prop:=
 bm (σ:=Unit) (λ_ j=>
 aL (σ:=Int) (λc f d=>
 Br (c<(a.len:Int))
 (aR a c λa5=>
 aZ d (a5.add (c.toNat*1)) λg=>
 Br (g>b)
 (R (qc xx (c+1)) d)
 (f (qc xx (c+1)) d))
 (R (xq xx 0) d)) (0:Int) j)
 (λi=>
 Br ((a.len:Int)==0) (R (xq xx 0) h) (Br (b<0) (R (xq xx 0) h) (aR a (qc xx ((a.len:Int)-1)) λe=>
 aZ h (e.add ((qc xx ((a.len:Int)-1)).toNat*1)) λx2=>
 Br (b>=x2)
 (R (xq xx 0) h)
 (i () h))))
theorem Iq(a:Sl)(b:Int)(c:@AQ R h a b):ac xB 281 #[a,b] h R:=aw af func281 (an.tn (.two (.join [] [(4,5),(7,24)] .n) (.two (an.tn (.inn (.loop [(26,ba)] [(4,7),(26,37)] .n))) .n))) c
end Go.Qw
namespace Go.Qw
open Go Go.Vc Go.Proofs
variable {R:KZ} {h:Heap}
noncomputable def vy(b:aO)(a:Int):Prop:=
 bm (σ:=Unit) (λ_ e=>
 ae xB 224 #[b] (.one (.sc (.int .u32))) e λd c=>
 ((qc xA a)≠0)/\
 R (qc xx (wi (qc xA d) (qc xA a))) c)
 (λf=>
 Br (qS b) (R (xq xx 0) h) (Br (a<=0)
 (R (xq xx 0) h)
 (f () h)))
theorem GI(a:aO)(b:Int)(c:@vy R h a b):ac xB 282 #[a,b] h R:=aw af func282 (an.tn (.two (.join [] [(4,11)] .n) .n)) c
noncomputable def AR(a:Int)(b:Int):Prop:=
 ae xB 316 #[a] bx h λc i=>
 (a≠0)/\
 bm (σ:=Int) (λf e=>
 bm (σ:=Int) (λj k=>
 R j k)
 (λd=>
 (c≠0)/\
 Br (b<(qc xx (wy a c)))
 (((qc xx (a*b))≠0)/\
 d (qc xx (f+(qc xx (wy (qc xx (1048576*c)) (qc xx (a*b)))))) e)
 (Br (b==(qc xx (wy a c)))
 (ae xB 187 #[(xq xA (qc xA c))] bx e λl h3=>
 (a≠0)/\
 d (qc xx (f+(qc xx (wy (qc xx ((qc xx (1048576*c))*l)) a)))) h3)
 (d f e))))
 (λg=>
 Br (b>1)
 (((qc xx (b*(qc xx (b-1))))≠0)/\
 g (qc xx (wy 1048576 (qc xx (b*(qc xx (b-1)))))) i)
 (g (qc xx (wy 1048576 a)) i))
theorem Ir(b:Int)(a:Int)(c:@AR R h b a):ac xB 283 #[b,a] h R:=aw af func283 (an.tn (an.tn (an.tn (.two (.join [(6,ba)] [(6,7),(12,19)] .n) (.two (.join [(6,ba)] [(6,8),(19,48)] .n) .n))))) c
noncomputable def Is(b:Nat×Nat)(d:Int):Prop:=
 ((4:Int)≠0)/\
 ((4:Int)≠0)/\
 aL (σ:=((Nat×Nat))×Int) (λa f e=>
 Br (decide (a.2<(wi (qc xx ((wi d 4)+4)) 4)))
 (∃c:Nat×Nat,(kK xB .mul 235 (.tmp 11) (.const (.complex .f64 0 4607182418800017408)) (.complex .f64 a.1.1 a.1.2) (.complex .f64 0 4607182418800017408) (.complex .f64 c.1 c.2))/\
 f ((c.1,c.2),qc xx (a.2+1)) e)
 (R (.complex .f64 a.1.1 a.1.2) e)) ((b.1,b.2),(0:Int)) h
theorem PG(a:Nat×Nat)(b:Int)(c:@Is R h a b):ac xB 284 #[(.complex .f64 a.1 a.2),b] h R:=aw af func284 (an.tn (.two (an.tn (.inn (.loop [(0,(.sc (.cpx .f64))),(9,ba)] [(0,1),(9,14)] .n))) .n)) c
noncomputable def kq(b:Sl)(a:cN):Prop:=
 ae xB 321 #[b,(.func (.func a.1) a.2.1 a.2.2)] bx h λd c=>
 R (decide (d>=0)) c
theorem ov(b:Sl)(a:cN)(c:@kq R h b a):ac xB 298 #[b,(.func (.func a.1) a.2.1 a.2.2)] h R:=aw af func298 .n c
noncomputable def pS(b:Sl)(a:Addr):Prop:=
 aZ h a λc=>
 ae xB 84 #[b,c] bN h λd e=>
 R d e
theorem BB(b:Sl)(a:Addr)(c:@pS R h b a):ac xB 299 #[b,a] h R:=aw af func299 .n c
noncomputable def iq(a:Sl)(j:Int)(p:Int)(b:cN):Prop:=
 aL (σ:=Int) (λk r s=>
 Br (k<p)
 (aL (σ:=Int) (λc u i=>
 bm (σ:=Unit) (λ_ n=>
 aR a (qc xx (c-1)) λa9=>
 ∃f:fg,aq n (a9.add ((qc xx (c-1)).toNat*8)) 0 f/\
 aR a c λl=>
 ∃g:fg,aq n (l.add (c.toNat*8)) 0 g/\
 aR a c λm=>
 ag xB (qf 170 (m.add (c.toNat*8)) f) n λ_ t=>
 (az.ok [] t)/\
 aR a (qc xx (c-1)) λo=>
 ag xB (qf 170 (o.add ((qc xx (c-1)).toNat*8)) g) t λ_ q=>
 (az.ok [] q)/\
 u (qc xx (c-1)) q)
 (λv=>
 Br (c>j) (aR a c λa3=>
 ∃e:fg,aq i (a3.add (c.toNat*8)) 0 e/\
 aR a (qc xx (c-1)) λa5=>
 ∃d:fg,aq i (a5.add ((qc xx (c-1)).toNat*8)) 0 d/\
 iC C b.1 (b.2.1.toList++[(xw #[e.1,e.2.1,e.2.2.1,e.2.2.2.1,e.2.2.2.2.1,e.2.2.2.2.2.1,(xq xz e.2.2.2.2.2.2.1),e.2.2.2.2.2.2.2]),(xw #[d.1,d.2.1,d.2.2.1,d.2.2.2.1,d.2.2.2.2.1,d.2.2.2.2.2.1,(xq xz d.2.2.2.2.2.2.1),d.2.2.2.2.2.2.2])]++b.2.2.toList) bx i λw h3=>
 (az.ok [] h3)/\
 Br (w<0)
 (v () h3)
 (r (qc xx (k+1)) h3)) ((az.ok [] i)/\
 r (qc xx (k+1)) i))) k s)
 (R (.tuple #[]) s)) (qc xx (j+1)) h
theorem lV(b:Sl)(c:Int)(d:Int)(a:cN)(e:@iq R h b c d a):ac xB 300 #[b,c,d,(.func (.func a.1) a.2.1 a.2.2)] h R:=aw af func300 (an.tn (.inn (.loop [(8,ba)] [(8,10),(12,53)] (an.tn (.two (.inn (an.tn (.inn (.loop [(9,ba)] [(9,10),(18,53)] (.two (.join [] [(18,35)] .n) .n))))) .n))))) e
noncomputable def jt(a:Sl)(d:Int)(e:Int)(f:Int)(b:cN):Prop:=
 Br ((qc xx (e-d))==1)
 (aL (σ:=Int×Int) (λo K1 A=>
 Br (o.1<o.2)
 ((0<=(1:Int))/\
 aR a (qc xx (qX (qc xA (qc xx (o.1+o.2))) (2^min (1:Int).toNat (qk xA)))) λa2=>
 ∃x3:fg,aq A (a2.add ((qc xx (qX (qc xA (qc xx (o.1+o.2))) (2^min (1:Int).toNat (qk xA)))).toNat*8)) 0 x3/\
 aR a d λa4=>
 ∃q:fg,aq A (a4.add (d.toNat*8)) 0 q/\
 iC C b.1 (b.2.1.toList++[(xw #[x3.1,x3.2.1,x3.2.2.1,x3.2.2.2.1,x3.2.2.2.2.1,x3.2.2.2.2.2.1,(xq xz x3.2.2.2.2.2.2.1),x3.2.2.2.2.2.2.2]),(xw #[q.1,q.2.1,q.2.2.1,q.2.2.2.1,q.2.2.2.2.1,q.2.2.2.2.2.1,(xq xz q.2.2.2.2.2.2.1),q.2.2.2.2.2.2.2])]++b.2.2.toList) bx A λr6 J=>
 (az.ok [] J)/\
 Br (r6<0)
 (K1 (qc xx ((qc xx (qX (qc xA (qc xx (o.1+o.2))) (2^min (1:Int).toNat (qk xA))))+1),o.2) J)
 (K1 (o.1,qc xx (qX (qc xA (qc xx (o.1+o.2))) (2^min (1:Int).toNat (qk xA)))) J))
 (aL (σ:=Int) (λp K2 h3=>
 Br (p<(qc xx (o.1-1)))
 (aR a (qc xx (p+1)) λa8=>
 ∃X:fg,aq h3 (a8.add ((qc xx (p+1)).toNat*8)) 0 X/\
 aR a p λF=>
 ∃v:fg,aq h3 (F.add (p.toNat*8)) 0 v/\
 aR a p λI=>
 ag xB (qf 170 (I.add (p.toNat*8)) X) h3 λ_ h4=>
 (az.ok [] h4)/\
 aR a (qc xx (p+1)) λE=>
 ag xB (qf 170 (E.add ((qc xx (p+1)).toNat*8)) v) h4 λ_ h5=>
 (az.ok [] h5)/\
 K2 (qc xx (p+1)) h5)
 (R (.tuple #[]) h3)) d A)) (e,f) h)
 (Br ((qc xx (f-e))==1)
 (aL (σ:=Int×Int) (λg Z z=>
 Br (g.1<g.2)
 ((0<=(1:Int))/\
 aR a e λW=>
 ∃m:fg,aq z (W.add (e.toNat*8)) 0 m/\
 aR a (qc xx (qX (qc xA (qc xx (g.1+g.2))) (2^min (1:Int).toNat (qk xA)))) λN=>
 ∃l:fg,aq z (N.add ((qc xx (qX (qc xA (qc xx (g.1+g.2))) (2^min (1:Int).toNat (qk xA)))).toNat*8)) 0 l/\
 iC C b.1 (b.2.1.toList++[(xw #[m.1,m.2.1,m.2.2.1,m.2.2.2.1,m.2.2.2.2.1,m.2.2.2.2.2.1,(xq xz m.2.2.2.2.2.2.1),m.2.2.2.2.2.2.2]),(xw #[l.1,l.2.1,l.2.2.1,l.2.2.2.1,l.2.2.2.2.1,l.2.2.2.2.2.1,(xq xz l.2.2.2.2.2.2.1),l.2.2.2.2.2.2.2])]++b.2.2.toList) bx z λS B=>
 (az.ok [] B)/\
 Br (!(decide (S<0)))
 (Z (qc xx ((qc xx (qX (qc xA (qc xx (g.1+g.2))) (2^min (1:Int).toNat (qk xA))))+1),g.2) B)
 (Z (g.1,qc xx (qX (qc xA (qc xx (g.1+g.2))) (2^min (1:Int).toNat (qk xA)))) B))
 (aL (σ:=Int) (λi K4 h8=>
 Br (i>g.1)
 (aR a (qc xx (i-1)) λM=>
 ∃y:fg,aq h8 (M.add ((qc xx (i-1)).toNat*8)) 0 y/\
 aR a i λL=>
 ∃u:fg,aq h8 (L.add (i.toNat*8)) 0 u/\
 aR a i λa25=>
 ag xB (qf 170 (a25.add (i.toNat*8)) y) h8 λ_ Y=>
 (az.ok [] Y)/\
 aR a (qc xx (i-1)) λK=>
 ag xB (qf 170 (K.add ((qc xx (i-1)).toNat*8)) u) Y λ_ x=>
 (az.ok [] x)/\
 K4 (qc xx (i-1)) x)
 (R (.tuple #[]) h8)) e z)) (d,e) h)
 ((0<=(1:Int))/\
 bm (σ:=Int×Int) (λw V=>
 aL (σ:=Int×Int) (λc K6 n=>
 Br (c.1<c.2)
 ((0<=(1:Int))/\
 aR a (qc xx ((qc xx ((qc xx ((qc xx (qX (qc xA (qc xx (d+f))) (2^min (1:Int).toNat (qk xA))))+e))-1))-(qc xx (qX (qc xA (qc xx (c.1+c.2))) (2^min (1:Int).toNat (qk xA)))))) λT=>
 ∃j:fg,aq n (T.add ((qc xx ((qc xx ((qc xx ((qc xx (qX (qc xA (qc xx (d+f))) (2^min (1:Int).toNat (qk xA))))+e))-1))-(qc xx (qX (qc xA (qc xx (c.1+c.2))) (2^min (1:Int).toNat (qk xA)))))).toNat*8)) 0 j/\
 aR a (qc xx (qX (qc xA (qc xx (c.1+c.2))) (2^min (1:Int).toNat (qk xA)))) λQ=>
 ∃k:fg,aq n (Q.add ((qc xx (qX (qc xA (qc xx (c.1+c.2))) (2^min (1:Int).toNat (qk xA)))).toNat*8)) 0 k/\
 iC C b.1 (b.2.1.toList++[(xw #[j.1,j.2.1,j.2.2.1,j.2.2.2.1,j.2.2.2.2.1,j.2.2.2.2.2.1,(xq xz j.2.2.2.2.2.2.1),j.2.2.2.2.2.2.2]),(xw #[k.1,k.2.1,k.2.2.1,k.2.2.2.1,k.2.2.2.2.1,k.2.2.2.2.2.1,(xq xz k.2.2.2.2.2.2.1),k.2.2.2.2.2.2.2])]++b.2.2.toList) bx n λH t=>
 (az.ok [] t)/\
 Br (!(decide (H<0)))
 (K6 (qc xx ((qc xx (qX (qc xA (qc xx (c.1+c.2))) (2^min (1:Int).toNat (qk xA))))+1),c.2) t)
 (K6 (c.1,qc xx (qX (qc xA (qc xx (c.1+c.2))) (2^min (1:Int).toNat (qk xA)))) t))
 (bm (σ:=Unit) (λ_ r=>
 bm (σ:=Unit) (λ_ s=>
 Br (decide ((qc xx (qX (qc xA (qc xx (d+f))) (2^min (1:Int).toNat (qk xA))))<(qc xx ((qc xx ((qc xx (qX (qc xA (qc xx (d+f))) (2^min (1:Int).toNat (qk xA))))+e))-c.1)))) (Br (decide ((qc xx ((qc xx ((qc xx (qX (qc xA (qc xx (d+f))) (2^min (1:Int).toNat (qk xA))))+e))-c.1))<f))
 (ae xB 301 #[a,(qc xx (qX (qc xA (qc xx (d+f))) (2^min (1:Int).toNat (qk xA)))),(qc xx ((qc xx ((qc xx (qX (qc xA (qc xx (d+f))) (2^min (1:Int).toNat (qk xA))))+e))-c.1)),f,(.func (.func b.1) b.2.1 b.2.2)] il s λ_ O=>
 R (.tuple #[]) O)
 (R (.tuple #[]) s)) (R (.tuple #[]) s))
 (λD=>
 Br (d<c.1) (Br (decide (c.1<(qc xx (qX (qc xA (qc xx (d+f))) (2^min (1:Int).toNat (qk xA))))))
 (ae xB 301 #[a,d,c.1,(qc xx (qX (qc xA (qc xx (d+f))) (2^min (1:Int).toNat (qk xA)))),(.func (.func b.1) b.2.1 b.2.2)] il r λ_ U=>
 D () U)
 (D () r)) (D () r)))
 (λP=>
 Br (c.1<e) (Br (decide (e<(qc xx ((qc xx ((qc xx (qX (qc xA (qc xx (d+f))) (2^min (1:Int).toNat (qk xA))))+e))-c.1))))
 (ae xB 322 #[a,c.1,e,(qc xx ((qc xx ((qc xx (qX (qc xA (qc xx (d+f))) (2^min (1:Int).toNat (qk xA))))+e))-c.1)),(.func (.func b.1) b.2.1 b.2.2)] il n λ_ G=>
 P () G)
 (P () n)) (P () n)))) (w.1,w.2) V)
 (λK5=>
 Br (decide (e>(qc xx (qX (qc xA (qc xx (d+f))) (2^min (1:Int).toNat (qk xA))))))
 (K5 (qc xx ((qc xx ((qc xx (qX (qc xA (qc xx (d+f))) (2^min (1:Int).toNat (qk xA))))+e))-f),qc xx (qX (qc xA (qc xx (d+f))) (2^min (1:Int).toNat (qk xA)))) h)
 (K5 (d,e) h))))
theorem ng(b:Sl)(e:Int)(c:Int)(d:Int)(a:cN)(f:@jt R h b e c d a):ac xB 301 #[b,e,c,d,(.func (.func a.1) a.2.1 a.2.2)] h R:=aw af func301 (.two (an.tn (.two (an.tn (an.tn (.two (.inn (.loop [(10,ba),(11,ba)] [(10,13),(31,54)] .n)) (.two (an.tn (.inn (.loop [(13,ba)] [(13,14),(55,77)] .n))) .n)))) .n)) (.two (an.tn (.two (an.tn (an.tn (.two (.inn (.loop [(14,ba),(15,ba)] [(14,17),(83,107)] .n)) (.two (an.tn (.inn (.loop [(17,ba)] [(17,18),(108,129)] .n))) .n)))) .n)) (an.tn (an.tn (an.tn (.two (.join [(20,ba),(21,ba)] [(20,22),(138,147)] .n) (an.tn (.two (.inn (.loop [(20,ba),(21,ba)] [(20,22),(23,24),(149,175)] .n)) (an.tn (.two (.join [] [(178,192)] .n) (.two (.join [] [(192,206)] .n) .n))))))))))) f
noncomputable def NC(a:aO):Prop:=
 Br (qS a)
 (ae xB 65 #[] iP h λc b=>
 R c b)
 (R a h)
theorem Uo(a:aO)(b:@NC R h a):ac xB 302 #[a] h R:=aw af func302 .n b
noncomputable def uv(e:aO):Prop:=
 ∃p,(e=dB p)/\
 bi h p λx2=>
 aL (σ:=Int) (λf r k=>
 Br (f<(x2.len:Int))
 (aR x2 f λa4=>
 ∃o:Sl×Sl,aq k (a4.add (f.toNat*2)) 0 o/\
 aS xB (qL 275 true (.tuple #[])) k λl q=>
 ag xB (qf 275 l o) q λ_ h3=>
 bi h3 l λn=>
 aL (σ:=Int×Int) (λa m b=>
 Br (a.2<(n.len:Int))
 (aR n a.2 λa9=>
 aZ b (a9.add (a.2.toNat*1)) λc=>
 ∃d,(e=dB d)/\
 bi b (d.add 1) λj=>
 aR j c λi=>
 su b (i.add (c.toNat*1)) λg=>
 Br (!g)
 (m (qc xx (a.1+1),qc xx (a.2+1)) b)
 (m (a.1,qc xx (a.2+1)) b))
 (Br (a.1==1)
 (R f b)
 (r (qc xx (f+1)) b))) ((0:Int),(0:Int)) h3)
 (R (xq xx (-1:Int)) k)) (0:Int) h
theorem Fa(a:aO)(b:@uv R h a):ac xB 306 #[a] h R:=aw af func306 (an.tn (.two (an.tn (.inn (.loop [(13,ba)] [(2,6),(7,8),(13,40)] (an.tn (an.tn (.two (.inn (an.tn (an.tn (.two (an.tn (.inn (.loop [(5,ba),(21,ba)] [(5,6),(7,8),(21,36)] .n))) .n)))) .n)))))) .n)) b
noncomputable def Gt(b:Int)(c:Sl):Prop:=
 bm (σ:=Unit) (λ_ o=>
 aL (σ:=Int) (λd m e=>
 Br (d<(c.len:Int))
 (aR c d λa3=>
 bi e (a3.add (d.toNat*1)) λg=>
 aL (σ:=Int) (λa i h3=>
 Br (a<(g.len:Int))
 (aR g a λj=>
 aZ h3 (j.add (a.toNat*1)) λf=>
 Br (f<0) (R eR h3) (Br (f>=b) (R eR h3) (Br (a>0) (aR g (qc xx (a-1)) λk=>
 aZ h3 (k.add ((qc xx (a-1)).toNat*1)) λl=>
 Br (l>=f)
 (R eR h3)
 (i (qc xx (a+1)) h3)) (i (qc xx (a+1)) h3))))
 (m (qc xx (d+1)) h3)) (0:Int) e)
 (R true e)) (0:Int) o)
 (λn=>
 Br (b<0) (R eR h) (Br (b>64)
 (R eR h)
 (n () h)))
theorem ND(a:Int)(b:Sl)(c:@Gt R h a b):ac xB 307 #[a,b] h R:=aw af func307 (an.tn (.two (.join [] [(4,5),(9,15)] .n) (.two (an.tn (.inn (.loop [(17,ba)] [(4,5),(6,9),(17,50)] (an.tn (an.tn (.two (.inn (an.tn (an.tn (.inn (.loop [(23,ba)] [(4,5),(7,9),(23,49)] .n))))) .n)))))) .n))) c
noncomputable def mh(b:Sl)(a:Bool):Prop:=
 ae xB 324 #[b,a] bx h λd c=>
 R (decide (d>=0)) c
theorem sn(a:Sl)(b:Bool)(c:@mh R h a b):ac xB 308 #[a,b] h R:=aw af func308 .n c
noncomputable def rQ(d:aO):Prop:=
 aS xB (qL 332 true (.tuple #[])) h λg n=>
 ∃k,(d=dB k)/\
 bi n k λx3=>
 aL (σ:=Int) (λc m e=>
 Br (c<(x3.len:Int))
 (aR x3 c λa5=>
 bi e (a5.add (c.toNat*1)) λq=>
 ∃j,(d=dB j)/\
 bi e (j.add 2) λp=>
 aR p c λa9=>
 su e (a9.add (c.toNat*1)) λi=>
 Br i
 (m (qc xx (c+1)) e)
 (ae xB 325 #[d,q] (.many [ba,kB]) e λf h3=>
 Br f.2
 (ag xB (qf 332 g (xw #[c,f.1])) h3 λ_ l=>
 ∃a:Int×Int,aq l g 0 a/\
 R (.tuple #[a,true]) l)
 (m (qc xx (c+1)) h3)))
 (ag xB (qf 332 g (xw #[(xq xx 0),(xq xx 0)])) e λ_ o=>
 ∃b:Int×Int,aq o g 0 b/\
 R (.tuple #[b,eR]) o)) (0:Int) n
theorem CR(a:aO)(b:@rQ R h a):ac xB 309 #[a] h R:=aw af func309 (an.tn (.two (an.tn (.inn (.loop [(13,ba)] [(3,8),(13,36)] .n))) .n)) b
noncomputable def rR(c:aO):Prop:=
 ∃A,(c=dB A)/\
 bi h (A.add 1) λx2=>
 aB xB (qF 22 (xq xx (x2.len:Int)) (xq xx (x2.len:Int))) aI h λv3 D=>
 ∃a4,(c=dB a4)/\
 bi D a4 λz=>
 aL (σ:=Int) (λe G k=>
 Br (e<(z.len:Int))
 (aR z e λE=>
 bi k (E.add (e.toNat*1)) λB=>
 aL (σ:=Int) (λg y h3=>
 Br (g<(B.len:Int))
 (aR B g λn=>
 aZ h3 (n.add (g.toNat*1)) λb=>
 ∃f,(c=dB f)/\
 bi h3 (f.add 2) λt=>
 aR t e λu=>
 su h3 (u.add (e.toNat*1)) λr=>
 Br (!r)
 (aR v3 b λv=>
 aZ h3 (v.add (b.toNat*1)) λw=>
 aR v3 b λq=>
 ag xB (qf 3 (q.add (b.toNat*1)) (qc xx (w+1))) h3 λ_ F=>
 y (qc xx (g+1)) F)
 (y (qc xx (g+1)) h3))
 (G (qc xx (e+1)) h3)) (0:Int) k)
 (∃j,(c=dB j)/\
 bi k (j.add 1) λi=>
 aL (σ:=Int×Int) (λa l d=>
 Br (a.2<(i.len:Int))
 (aR i a.2 λa22=>
 su d (a22.add (a.2.toNat*1)) λm=>
 Br m (Br (a.1<0) (l (a.2,qc xx (a.2+1)) d) (aR v3 a.2 λs=>
 aZ d (s.add (a.2.toNat*1)) λx=>
 aR v3 a.1 λp=>
 aZ d (p.add (a.1.toNat*1)) λo=>
 Br (x>o)
 (l (a.2,qc xx (a.2+1)) d)
 (l (a.1,qc xx (a.2+1)) d))) (l (a.1,qc xx (a.2+1)) d))
 (R a.1 d)) ((-1:Int),(0:Int)) k)) (0:Int) D
theorem CS(a:aO)(b:@rR R h a):ac xB 310 #[a] h R:=aw af func310 (an.tn (an.tn (.two (an.tn (.inn (.loop [(22,ba)] [(4,6),(7,8),(22,49)] (an.tn (an.tn (.two (.inn (an.tn (an.tn (.inn (.loop [(29,ba)] [(7,8),(29,48)] .n))))) .n)))))) (an.tn (.two (an.tn (.inn (.loop [(8,ba),(54,ba)] [(8,11),(54,77)] .n))) .n))))) b
noncomputable def jg(b:Sl)(a:cN):Prop:=
 aL (σ:=Int) (λc g d=>
 Br (c<(b.len:Int))
 (aR b c λi=>
 ∃x3:Int×Int,aq d (i.add (c.toNat*2)) 0 x3/\
 iC C a.1 (a.2.1.toList++[(xw #[x3.1,x3.2])]++a.2.2.toList) bN d λf e=>
 Br f
 (R c e)
 (g (qc xx (c+1)) e))
 (R (xq xx (-1:Int)) d)) (0:Int) h
theorem mV(b:Sl)(a:cN)(c:@jg R h b a):ac xB 311 #[b,(.func (.func a.1) a.2.1 a.2.2)] h R:=aw af func311 (an.tn (.two (an.tn (.inn (.loop [(8,ba)] [(4,6),(8,19)] .n))) .n)) c
noncomputable def DR(b:Int):Prop:=
 aL (σ:=Int) (λa d c=>
 Br ((qc xx (a*a))<b)
 (d (qc xx (a+1)) c)
 (R a c)) (0:Int) h
theorem LI(a:Int)(b:@DR R h a):ac xB 316 #[a] h R:=aw af func316 (an.tn (an.tn (.two (.inn (.loop [(3,ba)] [(3,11)] .n)) .n))) b
noncomputable def lE(b:Sl)(a:cN):Prop:=
 aL (σ:=Int) (λc g d=>
 Br (c<(b.len:Int))
 (aR b c λi=>
 bi d (i.add (c.toNat*1)) λx3=>
 iC C a.1 (a.2.1.toList++[(xr x3.ptr x3.len x3.cap)]++a.2.2.toList) bN d λf e=>
 Br f
 (R c e)
 (g (qc xx (c+1)) e))
 (R (xq xx (-1:Int)) d)) (0:Int) h
theorem pZ(b:Sl)(a:cN)(c:@lE R h b a):ac xB 321 #[b,(.func (.func a.1) a.2.1 a.2.2)] h R:=aw af func321 (an.tn (.two (an.tn (.inn (.loop [(8,ba)] [(4,6),(8,19)] .n))) .n)) c
noncomputable def jU(b:Sl)(f:Int)(d:Int)(e:Int)(a:cN):Prop:=
 aL (σ:=Int×Int) (λc i g=>
 Br (c.1 !=c.2)
 (Br (c.1>c.2)
 (ae xB 329 #[b,(qc xx (d-c.1)),d,c.2,(.func (.func a.1) a.2.1 a.2.2)] il g λ_ j=>
 i (qc xx (c.1-c.2),c.2) j)
 (ae xB 329 #[b,(qc xx (d-c.1)),(qc xx ((qc xx (d+c.2))-c.1)),c.1,(.func (.func a.1) a.2.1 a.2.2)] il g λ_ h3=>
 i (c.1,qc xx (c.2-c.1)) h3))
 (ae xB 329 #[b,(qc xx (d-c.1)),d,c.1,(.func (.func a.1) a.2.1 a.2.2)] il g λ_ k=>
 R (.tuple #[]) k)) (qc xx (d-f),qc xx (e-d)) h
theorem nW(b:Sl)(e:Int)(c:Int)(d:Int)(a:cN)(f:@jU R h b e c d a):ac xB 322 #[b,e,c,d,(.func (.func a.1) a.2.1 a.2.2)] h R:=aw af func322 (an.tn (an.tn (.two (.inn (.loop [(10,ba),(11,ba)] [(10,12),(18,50)] .n)) .n))) f
noncomputable def nC(a:Sl)(d:Bool):Prop:=
 aL (σ:=Int) (λb e c=>
 Br (b<(a.len:Int))
 (aR a b λf=>
 su c (f.add (b.toNat*1)) λx3=>
 Br (d==x3)
 (R b c)
 (e (qc xx (b+1)) c))
 (R (xq xx (-1:Int)) c)) (0:Int) h
theorem uJ(a:Sl)(b:Bool)(c:@nC R h a b):ac xB 324 #[a,b] h R:=aw af func324 (an.tn (.two (an.tn (.inn (.loop [(8,ba)] [(4,6),(8,19)] .n))) .n)) c
noncomputable def oN(d:aO)(c:Sl):Prop:=
 aL (σ:=bR) (λa e b=>
 Br (a.2.2<(c.len:Int))
 (aR c a.2.2 λj=>
 aZ b (j.add (a.2.2.toNat*1)) λx3=>
 ∃a4,(d=dB a4)/\
 bi b (a4.add 1) λg=>
 aR g x3 λf=>
 su b (f.add (x3.toNat*1)) λi=>
 Br i
 (e (x3,qc xx (a.2.1+1),qc xx (a.2.2+1)) b)
 (e (a.1,a.2.1,qc xx (a.2.2+1)) b))
 (R (.tuple #[a.1,(xv (a.2.1==1))]) b)) ((0:Int),(0:Int),(0:Int)) h
theorem AS(b:aO)(a:Sl)(c:@oN R h b a):ac xB 325 #[b,a] h R:=aw af func325 (an.tn (an.tn (.two (an.tn (.inn (.loop [(6,ba),(7,ba),(12,ba)] [(6,8),(9,10),(12,27)] .n))) .n))) c
noncomputable def jh(a:Sl)(c:Int)(d:Int)(f:Int)(g:cN):Prop:=
 aL (σ:=Int) (λb m e=>
 Br (b<f)
 (aR a (qc xx (d+b)) λn=>
 ∃x3:fg,aq e (n.add ((qc xx (d+b)).toNat*8)) 0 x3/\
 aR a (qc xx (c+b)) λa4=>
 ∃i:fg,aq e (a4.add ((qc xx (c+b)).toNat*8)) 0 i/\
 aR a (qc xx (c+b)) λk=>
 ag xB (qf 170 (k.add ((qc xx (c+b)).toNat*8)) x3) e λ_ j=>
 (az.ok [] j)/\
 aR a (qc xx (d+b)) λl=>
 ag xB (qf 170 (l.add ((qc xx (d+b)).toNat*8)) i) j λ_ h3=>
 (az.ok [] h3)/\
 m (qc xx (b+1)) h3)
 (R (.tuple #[]) e)) (0:Int) h
theorem mW(b:Sl)(d:Int)(e:Int)(c:Int)(a:cN)(f:@jh R h b d e c a):ac xB 329 #[b,d,e,c,(.func (.func a.1) a.2.1 a.2.2)] h R:=aw af func329 (an.tn (.inn (.loop [(10,ba)] [(10,38)] .n))) f
end Go.Qw
