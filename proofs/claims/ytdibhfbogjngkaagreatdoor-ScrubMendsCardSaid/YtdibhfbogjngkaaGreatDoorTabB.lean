/- Lemmas for the proof of the law; no condition. -/
import Derived.Test.YtdibhfbogjngkaaGreatDoorTabA
set_option linter.unusedVariables false
open Go.Proofs.Tryz renaming prog -> xt
open Option renaming isNone -> qY
open Go.Value renaming agg -> xn, bool -> xm, int -> xi, slice -> xj
open Go.IntKind renaming bits -> ql, i64 -> xo, u32 -> xq, u64 -> xr, u8 -> xp, wrap -> qc
open Go.Instr renaming alloc -> qP, box -> qO, buildSlice -> qp, makeSlice -> qG, storeAt -> qf
open Go.Builtin renaming append_ -> qu, clear_ -> yV
open BitVec renaming ofInt -> qF
open Int renaming fdiv -> q9, tdiv -> yc, tmod -> wj
open Go.Proofs.Tryz
set_option maxRecDepth 1000000
open Option renaming some -> dB
open Bool renaming false -> eS
namespace Go.Qw
open Go Go.Vc Go.Proofs
variable {R:KI} {h:Heap}
noncomputable def rp(b:aO):Prop:=
 ∃q,(b=dB q)/\
 bi h (q.add 4) λx2=>
 aJ (σ:=Int) (λa n c=>
 Br (a<(x2.len:Int))
 (aP x2 a λa4=>
 bi c (a4.add (a.toNat*1)) λl=>
 Br (!(qY l.ptr))
 (∃i,(b=dB i)/\
 bi c (i.add 9) λr=>
 ∃k,(b=dB k)/\
 bi c (k.add 10) λm=>
 ∃d,(b=dB d)/\
 bi c ((d.add 6).add 1) λe=>
 aA xt (qG 34 (xi xo (e.len:Int)) (xi xo (e.len:Int))) aI c λg o=>
 (av.ok [((d.add 6).add 1,e),(k.add 10,m),(i.add 9,r)] o)/\
 aP r a λf=>
 af xt (qf 34 (f.add (a.toNat*1)) g) o λ_ h3=>
 (av.ok [] h3)/\
 aP m a λj=>
 af xt (qf 34 (j.add (a.toNat*1)) l) h3 λ_ p=>
 (av.ok [] p)/\
 n (qc xo (a+1)) p)
 (n (qc xo (a+1)) c))
 (R (.tuple #[]) c)) (0:Int) h
theorem CB(a:aO)(b:@rp R h a):ab xt 219 #[a] h R:=au ac func219 (aj.tn (.inn (.loop [(9,aW)] [(2,4),(9,37)] .n))) b
noncomputable def pE(b:aO):Prop:=
 ∃a1,(b=dB a1)/\
 bi h ((a1.add 6).add 1) λx2=>
 ∃a3,(b=dB a3)/\
 bi h ((a3.add 6).add 2) λx4=>
 aJ (σ:=Sl×Sl×Int) (λc K1 o=>
 Br (c.2.2<(x4.len:Int))
 (aP x4 c.2.2 λa6=>
 be o (a6.add (c.2.2.toNat*1)) λG=>
 bg (σ:=Sl×Sl) (λi h6=>
 ∃A,(b=dB A)/\
 bi h6 (A.add 5) λO=>
 aP O G λah=>
 bi h6 (ah.add (G.toNat*2)) λz=>
 aJ (σ:=Int) (λg K3 W=>
 Br (g<(z.len:Int))
 (aP z g λa22=>
 be W (a22.add (g.toNat*1)) λQ=>
 ae xt 272 #[b,(xi xp 1),Q,i.1,i.2] iV W λ_ h8=>
 K3 (qc xo (g+1)) h8)
 (aA xt (qp 85 1 #[(0,i.1)]) aI W λv25 h9=>
 aA xt (qu #[85,85] 85 #[c.1,v25]) aI h9 λk ay=>
 aA xt (qp 85 1 #[(0,i.2)]) aI ay λU Y=>
 aA xt (qu #[85,85] 85 #[c.2.1,U]) aI Y λv28 Z=>
 K1 ((⟨k.ptr,k.len,k.cap⟩:Sl),(⟨v28.ptr,v28.len,v28.cap⟩:Sl),qc xo (c.2.2+1)) Z)) (0:Int) h6)
 (λK2=>
 ∃y,(b=dB y)/\
 bi o (y.add 5) λD=>
 aP D G λK=>
 bi o ((K.add (G.toNat*2)).add 1) λp=>
 (aA xt (qG 34 (xi xo (x2.len:Int)) (xi xo (x2.len:Int))) aI o λu h2=>
 (av.ok [((K.add (G.toNat*2)).add 1,p),(y.add 5,D)] h2)/\
 ae xt 146 #[p] aI h2 λq h3=>
 (av.ok [(y.add 5,D)] h3)/\
 K2 ((⟨u.ptr,u.len,u.cap⟩:Sl),(⟨q.ptr,q.len,q.cap⟩:Sl)) h3)/\(ae xt 146 #[p] aI o λl h4=>
 (av.ok [(y.add 5,D)] h4)/\
 aA xt (qG 34 (xi xo (x2.len:Int)) (xi xo (x2.len:Int))) aI h4 λm h5=>
 (av.ok [(y.add 5,D)] h5)/\
 K2 ((⟨m.ptr,m.len,m.cap⟩:Sl),(⟨l.ptr,l.len,l.cap⟩:Sl)) h5)))
 (∃B,(b=dB B)/\
 ∃I:bR,an o (B.add 1) 0 I/\
 ae xt 70 #[I] aI o λL P=>
 aJ (σ:=Sl×Sl×Int) (λa K4 f=>
 Br (a.2.2<(L.len:Int))
 (aP L a.2.2 λV=>
 bi f (V.add (a.2.2.toNat*1)) λH=>
 bg (σ:=Sl×Sl) (λj X=>
 aJ (σ:=Int) (λe K6 n=>
 Br (e<(H.len:Int))
 (aP H e λS=>
 gq .u8 n (S.add (e.toNat*1)) λap=>
 ae xt 272 #[b,(xi xp ap),e,j.1,j.2] iV n λ_ am=>
 K6 (qc xo (e+1)) am)
 (aA xt (qp 85 1 #[(0,j.1)]) aI n λv46 ad=>
 aA xt (qu #[85,85] 85 #[a.1,v46]) aI ad λs ax=>
 aA xt (qp 85 1 #[(0,j.2)]) aI ax λT N=>
 aA xt (qu #[85,85] 85 #[a.2.1,T]) aI N λt ar=>
 K4 ((⟨s.ptr,s.len,s.cap⟩:Sl),(⟨t.ptr,t.len,t.cap⟩:Sl),qc xo (a.2.2+1)) ar)) (0:Int) X)
 (λK5=>
 ∃x,(b=dB x)/\
 be f ((x.add 1).add 2) λd=>
 (aA xt (qG 34 (xi xo (x2.len:Int)) (xi xo (x2.len:Int))) aI f λr E=>
 (av.ok [((x.add 1).add 2,d)] E)/\
 aA xt (qG 34 d d) aI E λv M=>
 (av.ok [] M)/\
 K5 ((⟨r.ptr,r.len,r.cap⟩:Sl),(⟨v.ptr,v.len,v.cap⟩:Sl)) M)/\(aA xt (qG 34 d d) aI f λv39 F=>
 (av.ok [] F)/\
 aA xt (qG 34 (xi xo (x2.len:Int)) (xi xo (x2.len:Int))) aI F λw J=>
 (av.ok [] J)/\
 K5 ((⟨w.ptr,w.len,w.cap⟩:Sl),(⟨v39.ptr,v39.len,v39.cap⟩:Sl)) J)))
 (R (.tuple #[a.1,a.2.1]) f)) ((⟨c.1.ptr,c.1.len,c.1.cap⟩:Sl),(⟨c.2.1.ptr,c.2.1.len,c.2.1.cap⟩:Sl),(0:Int)) P)) ((⟨none,0,0⟩:Sl),(⟨none,0,0⟩:Sl),(0:Int)) h
theorem Bp(a:aO)(b:@pE R h a):ab xt 220 #[a] h R:=au ac func220 (aj.tn (aj.tn (.two (aj.tn (.inn (.loop [(2,ct),(3,ct),(29,aW)] [(2,4),(6,9),(10,11),(29,72)] (aj.tn (aj.tn (.two (.inn (aj.tn (.two (.join [(7,ct),(8,ct)] [(7,9),(33,44)] .n) (.two (aj.tn (.inn (.loop [(53,aW)] [(10,11),(53,63)] .n))) .n)))) .n)))))) (.two (aj.tn (.inn (.loop [(2,ct),(3,ct),(78,aW)] [(2,4),(12,17),(78,113)] (aj.tn (aj.tn (.two (.inn (aj.tn (.two (.join [(13,ct),(14,ct)] [(13,15),(82,90)] .n) (.two (aj.tn (.inn (.loop [(92,aW)] [(15,17),(92,104)] .n))) .n)))) .n)))))) .n)))) b
noncomputable def HS(b:Sl)(a:ByteArray):Prop:=
 Br ((b.len:Int)==0)
 (R (xj none 0 0) h)
 (Br (a.toList==aaQ.toList)
 (R b h)
 (bg (σ:=Unit) (λ_ h3=>
 ae xt 275 #[a] (.many [(.arr .bool),lK]) h3 λk s=>
 aQ xt (qP 338 true (.tuple #[])) s λg v=>
 af xt (qf 338 g (xn (k.1.map (Sc.enc .bool)).toArray)) v λ_ o=>
 Br k.2
 (ae xt 277 #[b,g] aI o λp q=>
 ae xt 276 #[p,g] aI q λc h8=>
 R c h8)
 (ae xt 279 #[b,a] aI o λe u=>
 ae xt 278 #[e,a] aI u λd f=>
 R d f))
 (λj=>
 Br ((a.size:Int)==1) (∃m:UInt8,(0<=(0:Int)/\a.data[(0:Int).toNat]?=dB m)/\
 Br ((m.toNat:Int)<128)
 (∃n:UInt8,(0<=(0:Int)/\a.data[(0:Int).toNat]?=dB n)/\
 ∃c3:UInt8,(0<=(0:Int)/\a.data[(0:Int).toNat]?=dB c3)/\
 ae xt 274 #[b,(xi xp (n.toNat:Int))] aI h λr i=>
 (av.ok [] i)/\
 ae xt 273 #[r,(xi xp (c3.toNat:Int))] aI i λt l=>
 (av.ok [] l)/\
 R t l)
 (j () h)) (j () h))))
theorem Pb(b:Sl)(a:ByteArray)(c:@HS R h b a):ab xt 221 #[b,a] h R:=au ac func221 (aj.tn (aj.tn (aj.tn (.two (.join [] [(4,5),(13,28)] .n) .n)))) c
noncomputable def sf(c:aO)(e:Sl):Prop:=
 ∃G,(c=dB G)/\
 bi h (G.add 4) λx2=>
 aJ (σ:=Int) (λd F f=>
 Br (d<(x2.len:Int))
 (∃a4,(c=dB a4)/\
 bi f (a4.add 4) λK=>
 aP K d λN=>
 bi f (N.add (d.toNat*1)) λQ=>
 Br (!(qY Q.ptr))
 (F (qc xo (d+1)) f)
 (∃H,(c=dB H)/\
 bi f (H.add 10) λM=>
 aP M d λw=>
 bi f (w.add (d.toNat*1)) λE=>
 ae xt 146 #[E] aI f λg z=>
 ∃i,(c=dB i)/\
 bi z (i.add 9) λD=>
 aP D d λu=>
 bi z (u.add (d.toNat*1)) λl=>
 aJ (σ:=Int) (λb L h3=>
 Br (b<(l.len:Int))
 (aP l b λA=>
 gq .u8 h3 (A.add (b.toNat*1)) λx=>
 aP e b λy=>
 bi h3 (y.add (b.toNat*1)) λj=>
 aJ (σ:=Int) (λa P o=>
 Br (a<(j.len:Int))
 (aP j a λr=>
 gq .u8 o (r.add (a.toNat*1)) λt=>
 aP g a λa25=>
 gq .u8 o (a25.add (a.toNat*1)) λn=>
 ∃k,(c=dB k)/\
 jp o k λs=>
 ae xt 280 #[s,(xi xp x),(xi xp t)] (.one (.sc (.int .u8))) o λv I=>
 (av.ok [(a25.add (a.toNat*1),(xi xp n))] I)/\
 aP g a λB=>
 af xt (qf 5 (B.add (a.toNat*1)) (xi xp (qc xp ((qF (ql xp) n^^^(qF (ql xp) v)).toNat:Nat)))) I λ_ J=>
 (av.ok [] J)/\
 P (qc xo (a+1)) J)
 (L (qc xo (b+1)) o)) (0:Int) h3)
 (∃m,(c=dB m)/\
 bi h3 (m.add 4) λp=>
 aP p d λq=>
 af xt (qf 34 (q.add (d.toNat*1)) g) h3 λ_ O=>
 F (qc xo (d+1)) O)) (0:Int) z))
 (R (.tuple #[]) f)) (0:Int) h
theorem Dw(b:aO)(a:Sl)(c:@sf R h b a):ab xt 222 #[b,a] h R:=au ac func222 (aj.tn (.inn (.loop [(15,aW)] [(4,10),(15,80)] (aj.tn (aj.tn (.two (.inn (aj.tn (aj.tn (aj.tn (.two (aj.tn (.inn (.loop [(42,aW)] [(6,10),(42,72)] (aj.tn (aj.tn (.two (.inn (aj.tn (aj.tn (.inn (.loop [(52,aW)] [(8,10),(52,71)] .n))))) .n)))))) .n))))) .n)))))) c
noncomputable def Nc(a:Int):Prop:=
 aQ xt (qO 344 (xn #[(xi xr (qc xr a))])) h λc b=>
 R c b
theorem TO(a:Int)(b:@Nc R h a):ab xt 223 #[(xi xq a)] h R:=au ac func223 .n b
noncomputable def AE(a:aO):Prop:=
 Br (qY a)
 (R (xi xq 0) h)
 (∃c,(a=dB c)/\
 gq .u64 h c λx2=>
 ∃a3,(a=dB a3)/\
 af xt (qf 311 a3 (xi xr (qc xr ((qc xr (x2*6364136223846793005))+1442695040888963407)))) h λ_ b=>
 ∃a4,(a=dB a4)/\
 gq .u64 b a4 λd=>
 (0<=(32:Int))/\
 R (xi xq (qc xq (q9 d (2^min (32:Int).toNat (ql xr))))) b)
theorem HT(a:aO)(b:@AE R h a):ab xt 224 #[a] h R:=au ac func224 .n b
noncomputable def Dx(a:Sl)(b:aO):Prop:=
 Br ((a.len:Int)==0)
 (R (xi xo 0) h)
 (aP a (qc xo ((a.len:Int)-1)) λg=>
 be h (g.add ((qc xo ((a.len:Int)-1)).toNat*1)) λx2=>
 ae xt 282 #[b,x2] bA h λe d=>
 ae xt 281 #[a,e] bA d λc f=>
 R c f)
theorem Ln(b:Sl)(a:aO)(c:@Dx R h b a):ab xt 225 #[b,a] h R:=au ac func225 .n c
noncomputable def BV(a:Int):Prop:=
 bg (σ:=Unit) (λ_ i=>
 aA xt (qG 22 (xi xo 0) a) aI i λd k=>
 aJ (σ:=Sl×Int×Int) (λb f h3=>
 Br (b.2.2<=a)
 (ae xt 283 #[a,b.2.2] bA h3 λe l=>
 aA xt (qp 22 1 #[(0,(qc xo (b.2.1+e)))]) aI l λv5 g=>
 aA xt (qu #[22,22] 22 #[b.1,v5]) aI g λc m=>
 f ((⟨c.ptr,c.len,c.cap⟩:Sl),qc xo (b.2.1+e),qc xo (b.2.2+1)) m)
 (R b.1 h3)) ((⟨d.ptr,d.len,d.cap⟩:Sl),(0:Int),(1:Int)) k)
 (λj=>
 Br (a<1) (R (xj none 0 0) h) (Br (a>64)
 (R (xj none 0 0) h)
 (j () h)))
theorem JI(a:Int)(b:@BV R h a):ab xt 226 #[a] h R:=au ac func226 (aj.tn (.two (.join [] [(2,3),(6,12)] .n) (aj.tn (aj.tn (.two (aj.tn (.inn (.loop [(3,ct),(4,aW),(5,aW)] [(3,6),(14,28)] .n))) .n))))) b
noncomputable def FV(k:aO)(a:Int)(b:Int):Prop:=
 bg (σ:=Unit) (λ_ r=>
 aA xt (qG 22 a a) aI r λd u=>
 aJ (σ:=Int) (λf q h3=>
 Br (f<(d.len:Int))
 (aP d f λa4=>
 af xt (qf 3 (a4.add (f.toNat*1)) f) h3 λ_ w=>
 q (qc xo (f+1)) w)
 (aJ (σ:=Int) (λc t p=>
 Br (c<b)
 (ae xt 282 #[k,(qc xo (a-c))] bA p λg n=>
 aP d (qc xo (c+g)) λv=>
 be n (v.add ((qc xo (c+g)).toNat*1)) λy=>
 aP d c λa9=>
 be n (a9.add (c.toNat*1)) λj=>
 aP d c λm=>
 af xt (qf 3 (m.add (c.toNat*1)) y) n λ_ o=>
 (av.ok [] o)/\
 aP d (qc xo (c+g)) λi=>
 af xt (qf 3 (i.add ((qc xo (c+g)).toNat*1)) j) o λ_ h8=>
 (av.ok [] h8)/\
 t (qc xo (c+1)) h8)
 ((0<=b/\b<=(d.cap:Int))/\
 ae xt 128 #[(xj d.ptr b.toNat d.cap)] aI p λe x=>
 ae xt 148 #[e] iV x λ_ l=>
 R e l)) (0:Int) h3)) (0:Int) u)
 (λs=>
 Br (a<0) (R (xj none 0 0) h) (Br (a>64) (R (xj none 0 0) h) (Br (b<0) (R (xj none 0 0) h) (Br (b>a)
 (R (xj none 0 0) h)
 (s () h)))))
theorem Nd(c:aO)(a:Int)(b:Int)(d:@FV R h c a b):ab xt 227 #[c,a,b] h R:=au ac func227 (aj.tn (.two (.join [] [(6,7),(12,27)] .n) (aj.tn (.two (aj.tn (.inn (.loop [(31,aW)] [(8,9),(31,39)] .n))) (.two (aj.tn (.inn (.loop [(40,aW)] [(9,11),(40,65)] .n))) .n))))) d
noncomputable def Dy(a:Int):Prop:=
 ae xt 162 #[a,(xi xo 0),(xi xo 15)] bK h λc b=>
 R (xm (!c)) b
theorem Lo(a:Int)(b:@Dy R h a):ab xt 228 #[a] h R:=au ac func228 .n b
noncomputable def FW:Prop:=
 aQ xt (qO 299 (xn #[(.complex .f64 0 0),(.complex .f64 4607182418800017408 0),(xi xo 1),(xi xo 1),eS])) h λb a=>
 R b a
theorem Nf(a:@FW R h):ab xt 229 #[] h R:=au ac func229 .n a
noncomputable def uX(a:aO):Prop:=
 ∃z,(a=dB z)/\
 ∃x2:Nat×Nat,cellOf h z=dB (.complex .f64 x2.1 x2.2)/\
 ∃a3,(a=dB a3)/\
 ∃o:Nat×Nat,cellOf h (a3.add 1)=dB (.complex .f64 o.1 o.2)/\
 ∃z5:Nat×Nat,(kB xt .add 235 (.tmp 5) (.tmp 9) (.complex .f64 x2.1 x2.2) (.complex .f64 o.1 o.2) (.complex .f64 z5.1 z5.2))/\
 ∃v,(a=dB v)/\
 af xt (qf 235 v (.complex .f64 z5.1 z5.2)) h λ_ p=>
 (av.ok [] p)/\
 ∃y,(a=dB y)/\
 be p (y.add 2) λD=>
 ∃a9,(a=dB a9)/\
 af xt (qf 3 (a9.add 2) (qc xo (D-1))) p λ_ m=>
 ∃f,(a=dB f)/\
 be m (f.add 2) λu=>
 Br (u>0)
 (R (.tuple #[]) m)
 (∃c,(a=dB c)/\
 ∃b:Nat×Nat,cellOf m (c.add 1)=dB (.complex .f64 b.1 b.2)/\
 ae xt 284 #[(.complex .f64 b.1 b.2),(xi xo 1)] (.one (.sc (.cpx .f64))) m λj h3=>
 ∃e,(a=dB e)/\
 af xt (qf 235 (e.add 1) (.complex .f64 j.1 j.2)) h3 λ_ n=>
 bg (σ:=Unit) (λ_ A=>
 ∃a22,(a=dB a22)/\
 rT A (a22.add 4) λs=>
 ∃g,(a=dB g)/\
 af xt (qf 4 (g.add 4) (xm (!s))) A λ_ w=>
 ∃a25,(a=dB a25)/\
 be w (a25.add 3) λr=>
 ∃d,(a=dB d)/\
 af xt (qf 3 (d.add 2) r) w λ_ h8=>
 R (.tuple #[]) h8)
 (λx=>
 ∃i,(a=dB i)/\
 rT n (i.add 4) λt=>
 Br t
 (∃l,(a=dB l)/\
 be n (l.add 3) λq=>
 ∃k,(a=dB k)/\
 af xt (qf 3 (k.add 3) (qc xo (q+1))) n λ_ B=>
 x () B)
 (x () n)))
theorem Gq(a:aO)(b:@uX R h a):ab xt 230 #[a] h R:=au ac func230 (aj.tn (aj.tn (aj.tn (aj.tn (.two (.join [] [(33,44)] .n) .n))))) b
noncomputable def sg(a:Nat):Prop:=
 R (xm ((FloatKind.format .f64).order a a !=dB .eq)) h
theorem Dz(a:Nat)(b:@sg R h a):ab xt 232 #[(.float .f64 a)] h R:=au ac func232 .n b
noncomputable def rq(a:Int):Prop:=
 R (xm (a !=a)) h
theorem uY(a:Int)(b:@rq R h a):ab xt 233 #[a] h R:=au ac func233 .n b
noncomputable def iF(a:Sl)(i:Int)(n:Int)(b:cG):Prop:=
 aJ (σ:=Int) (λk r q=>
 Br (k<n)
 (aJ (σ:=Int) (λc u f=>
 bg (σ:=Unit) (λ_ o=>
 aP a (qc xo (c-1)) λa9=>
 ∃e:iE,an o (a9.add ((qc xo (c-1)).toNat*4)) 0 e/\
 aP a c λp=>
 ∃d:iE,an o (p.add (c.toNat*4)) 0 d/\
 aP a c λl=>
 af xt (qf 94 (l.add (c.toNat*4)) e) o λ_ s=>
 (av.ok [] s)/\
 aP a (qc xo (c-1)) λm=>
 af xt (qf 94 (m.add ((qc xo (c-1)).toNat*4)) d) s λ_ t=>
 (av.ok [] t)/\
 u (qc xo (c-1)) t)
 (λv=>
 Br (c>i) (aP a c λa3=>
 ∃j:iE,an f (a3.add (c.toNat*4)) 0 j/\
 aP a (qc xo (c-1)) λa5=>
 ∃g:iE,an f (a5.add ((qc xo (c-1)).toNat*4)) 0 g/\
 iG C b.1 (b.2.1.toList++[(xn #[j.1,j.2.1,j.2.2.1,j.2.2.2]),(xn #[g.1,g.2.1,g.2.2.1,g.2.2.2])]++b.2.2.toList) bA f λw h3=>
 (av.ok [] h3)/\
 Br (w<0)
 (v () h3)
 (r (qc xo (k+1)) h3)) ((av.ok [] f)/\
 r (qc xo (k+1)) f))) k q)
 (R (.tuple #[]) q)) (qc xo (i+1)) h
theorem lW(b:Sl)(d:Int)(c:Int)(a:cG)(e:@iF R h b d c a):ab xt 234 #[b,d,c,(.func (.func a.1) a.2.1 a.2.2)] h R:=au ac func234 (aj.tn (.inn (.loop [(8,aW)] [(8,10),(12,53)] (aj.tn (.two (.inn (aj.tn (.inn (.loop [(9,aW)] [(9,10),(18,53)] (.two (.join [] [(18,35)] .n) .n))))) .n))))) e
noncomputable def uj(a:aO):Prop:=
 Br (qY a)
 (R (xi xo 0) h)
 (∃b,(a=dB b)/\
 be h (b.add 1) λx2=>
 R x2 h)
theorem EN(a:aO)(b:@uj R h a):ab xt 244 #[a] h R:=au ac func244 .n b
noncomputable def sh(c:aO):Prop:=
 aQ xt (qP 3 true (.tuple #[])) h λa f=>
 af xt (qf 3 a (xi xo 0)) f λ_ k=>
 aJ (σ:=Unit) (λ_ j h3=>
 ∃a3,(c=dB a3)/\
 bi h3 (a3.add 4) λi=>
 ae xt 298 #[i,(.func (.func 299) #[] #[a])] bK h3 λe b=>
 Br e
 (be b a λl=>
 af xt (qf 3 a (qc xo (l+1))) b λ_ g=>
 j () g)
 (be b a λd=>
 R d b)) () k
theorem DA(a:aO)(b:@sh R h a):ab xt 245 #[a] h R:=au ac func245 (aj.tn (aj.tn (.two (.inn (.loop [] [(4,12)] .n)) .n))) b
noncomputable def FX(b:Sl):Prop:=
 aJ (σ:=Int×Int) (λa d c=>
 Br (a.2<(b.len:Int))
 (aP b a.2 λe=>
 gq .u8 c (e.add (a.2.toNat*1)) λx3=>
 (0<=(8:Int))/\
 d (qc xo ((qF (ql xo) (qc xo (a.1*2^min (8:Int).toNat (ql xo)))|||(qF (ql xo) (qc xo x3))).toNat:Nat),qc xo (a.2+1)) c)
 (R a.1 c)) ((0:Int),(0:Int)) h
theorem Ng(a:Sl)(b:@FX R h a):ab xt 246 #[a] h R:=au ac func246 (aj.tn (aj.tn (.two (aj.tn (.inn (.loop [(3,aW),(8,aW)] [(3,4),(5,6),(8,18)] .n))) .n))) b
noncomputable def BW(g:iE)(a:Addr):Prop:=
 aQ xt (qO 94 g) h λc b=>
 be b (c.add 1) λx2=>
 be b a λx3=>
 Br (x2==x3) (bi b (c.add 3) λj=>
 be b (a.add 1) λe=>
 Br ((j.len:Int)>e) (gq .u32 b (a.add 6) λn=>
 be b a λo=>
 be b (a.add 1) λp=>
 bi b (c.add 3) λl=>
 be b (a.add 1) λd=>
 aP l d λk=>
 be b (k.add (d.toNat*1)) λi=>
 ae xt 62 #[o,p,i] (.one (.sc (.int .u32))) b λf m=>
 (av.ok [(a.add 1,d),(c.add 3,l),(a.add 6,(xi xq n)),(a.add 1,e),(c.add 3,j),(a,x3),(c.add 1,x2)] m)/\
 R (xm (n==f)) m) ((av.ok [(a.add 1,e),(c.add 3,j),(a,x3),(c.add 1,x2)] b)/\
 R eS b)) ((av.ok [(a,x3),(c.add 1,x2)] b)/\
 R eS b)
theorem JJ(b:iE)(a:Addr)(c:@BW R h b a):ab xt 247 #[b,a] h R:=au ac func247 .n c
noncomputable def jR(b:Sl)(c:Int)(a:cG):Prop:=
 aJ (σ:=Int×Int) (λf l j=>
 Br (f.2<=c)
 (ae xt 300 #[b,f.1,f.2,(.func (.func a.1) a.2.1 a.2.2)] iV j λ_ n=>
 l (f.2,qc xo (f.2+20)) n)
 (ae xt 300 #[b,f.1,c,(.func (.func a.1) a.2.1 a.2.2)] iV j λ_ h3=>
 aJ (σ:=Int) (λe i k=>
 Br (e<c)
 (aJ (σ:=Int×Int) (λd m g=>
 Br (d.2<=c)
 (ae xt 301 #[b,d.1,(qc xo (d.1+e)),d.2,(.func (.func a.1) a.2.1 a.2.2)] iV g λ_ p=>
 m (d.2,qc xo (d.2+(qc xo (2*e)))) p)
 (Br ((qc xo (d.1+e))<c)
 (ae xt 301 #[b,d.1,(qc xo (d.1+e)),c,(.func (.func a.1) a.2.1 a.2.2)] iV g λ_ o=>
 i (qc xo (e*2)) o)
 (i (qc xo (e*2)) g))) ((0:Int),qc xo (2*e)) k)
 (R (.tuple #[]) k)) (20:Int) h3)) ((0:Int),(20:Int)) h
theorem nJ(b:Sl)(c:Int)(a:cG)(d:@jR R h b c a):ab xt 248 #[b,c,(.func (.func a.1) a.2.1 a.2.2)] h R:=au ac func248 (aj.tn (aj.tn (.two (.inn (.loop [(7,aW),(8,aW)] [(7,9),(11,23)] .n)) (aj.tn (.inn (.loop [(6,aW)] [(6,10),(28,63)] (aj.tn (.inn (aj.tn (.two (.inn (.loop [(7,aW),(8,aW)] [(7,9),(33,49)] .n)) .n)))))))))) d
noncomputable def HU(e:Sl)(b:Int)(a:Int):Prop:=
 aJ (σ:=Int) (λc g d=>
 Br (c>=(e.len:Int))
 (R (xi xo (-1:Int)) d)
 (aP e c λi=>
 bi d (i.add (c.toNat*1)) λx3=>
 aP x3 a λa4=>
 gq .u8 d (a4.add (a.toNat*1)) λf=>
 Br (f !=0)
 (R c d)
 (g (qc xo (c+1)) d))) b h
theorem Pc(c:Sl)(a:Int)(b:Int)(d:@HU R h c a b):ab xt 249 #[c,a,b] h R:=au ac func249 (aj.tn (.scope 0 [(7,aW)] [(6,8),(9,24)] [.n] [.n] [(1,[.n])])) d
noncomputable def Km(c:aO)(d:Int)(a:Sl):Prop:=
 ae xt 302 #[c] jP h λl i=>
 aA xt (qG 34 (xi xo (a.len:Int)) (xi xo (a.len:Int))) aI i λe m=>
 aJ (σ:=Int) (λb j h3=>
 Br (b<(a.len:Int))
 (aP a b λa4=>
 gq .u8 h3 (a4.add (b.toNat*1)) λf=>
 ae xt 280 #[l,(xi xp d),(xi xp f)] (.one (.sc (.int .u8))) h3 λk o=>
 aP e b λn=>
 af xt (qf 5 (n.add (b.toNat*1)) (xi xp k)) o λ_ g=>
 j (qc xo (b+1)) g)
 (R e h3)) (0:Int) m
theorem Rz(b:aO)(a:Int)(c:Sl)(d:@Km R h b a c):ab xt 250 #[b,(xi xp a),c] h R:=au ac func250 (aj.tn (aj.tn (aj.tn (.two (aj.tn (.inn (.loop [(17,aW)] [(8,10),(17,30)] .n))) .n)))) d
noncomputable def DB(c:aO)(a:Int):Prop:=
 Br (a==0)
 (R (xi xp 0) h)
 (ae xt 206 #[c] jP h λe b=>
 ∃d,(e=dB d)/\
 (0<=a/\a<((256:Nat):Int))/\
 be b ((d.add 255).add (a.toNat*1)) λx3=>
 ((255:Int)≠0)/\
 ∃a4,(e=dB a4)/\
 (0<=(wj (qc xo (255-x3)) 255)/\(wj (qc xo (255-x3)) 255)<((255:Nat):Int))/\
 gq .u8 b (a4.add ((wj (qc xo (255-x3)) 255).toNat*1)) λf=>
 R (xi xp f) b)
theorem Lp(a:aO)(b:Int)(c:@DB R h a b):ab xt 251 #[a,(xi xp b)] h R:=au ac func251 .n c
noncomputable def Qi(f:aO)(d:Int)(c:Sl)(b:Sl):Prop:=
 Br (d==0)
 (R (.tuple #[]) h)
 (aJ (σ:=Int) (λa j e=>
 Br (a<(c.len:Int))
 (aP c a λl=>
 gq .u8 e (l.add (a.toNat*1)) λx3=>
 aP b a λa4=>
 gq .u8 e (a4.add (a.toNat*1)) λg=>
 ae xt 280 #[f,(xi xp d),(xi xp x3)] (.one (.sc (.int .u8))) e λk i=>
 (av.ok [(a4.add (a.toNat*1),(xi xp g))] i)/\
 aP b a λm=>
 af xt (qf 5 (m.add (a.toNat*1)) (xi xp (qc xp ((qF (ql xp) g^^^(qF (ql xp) k)).toNat:Nat)))) i λ_ h3=>
 (av.ok [] h3)/\
 j (qc xo (a+1)) h3)
 (R (.tuple #[]) e)) (0:Int) h)
theorem VJ(b:aO)(c:Int)(d:Sl)(a:Sl)(e:@Qi R h b c d a):ab xt 252 #[b,(xi xp c),d,a] h R:=au ac func252 (aj.tn (aj.tn (.inn (.loop [(14,aW)] [(8,10),(14,30)] .n)))) e
noncomputable def Qj(a:Sl)(c:Sl):Prop:=
 Br ((a.len:Int) !=(c.len:Int))
 (R (.tuple #[(xj none 0 0),eS]) h)
 (aA xt (qG 34 (xi xo (a.len:Int)) (xi xo (a.len:Int))) aI h λe f=>
 aJ (σ:=Int) (λb i d=>
 Br (b<(a.len:Int))
 (aP a b λa3=>
 gq .u8 d (a3.add (b.toNat*1)) λg=>
 aP c b λa5=>
 gq .u8 d (a5.add (b.toNat*1)) λk=>
 aP e b λj=>
 af xt (qf 5 (j.add (b.toNat*1)) (xi xp (qc xp ((qF (ql xp) g^^^(qF (ql xp) k)).toNat:Nat)))) d λ_ h3=>
 (av.ok [] h3)/\
 i (qc xo (b+1)) h3)
 (R (.tuple #[e,true]) d)) (0:Int) f)
theorem VK(a:Sl)(b:Sl)(c:@Qj R h a b):ab xt 253 #[a,b] h R:=au ac func253 (aj.tn (aj.tn (aj.tn (.two (aj.tn (.inn (.loop [(18,aW)] [(7,8),(18,34)] .n))) .n)))) c
noncomputable def HV(d:Int)(c:Sl):Prop:=
 bg (σ:=Unit) (λ_ t=>
 aJ (σ:=Int) (λe s l=>
 Br (e<(c.len:Int))
 (aP c e λa3=>
 ∃r:Sl×Sl,an l (a3.add (e.toNat*2)) 0 r/\
 aQ xt (qP 275 true (.tuple #[])) l λa5 h3=>
 af xt (qf 275 a5 r) h3 λ_ p=>
 bi p a5 λq=>
 aJ (σ:=Int) (λb o a=>
 Br (b<(q.len:Int))
 (aP q b λv=>
 be a (v.add (b.toNat*1)) λf=>
 Br (f<0) (R eS a) (Br (f>=d) (R eS a) (Br (b>0) (bi a a5 λj=>
 aP j (qc xo (b-1)) λm=>
 be a (m.add ((qc xo (b-1)).toNat*1)) λg=>
 Br (g>=f)
 (R eS a)
 (o (qc xo (b+1)) a)) (o (qc xo (b+1)) a))))
 (bi a (a5.add 1) λi=>
 aP c (0:Int) λk=>
 bi a ((k.add ((0:Int).toNat*2)).add 1) λn=>
 Br ((i.len:Int) !=(n.len:Int))
 (R eS a)
 (s (qc xo (e+1)) a))) (0:Int) p)
 (R true l)) (0:Int) t)
 (λu=>
 Br (d<0) (R eS h) (Br (d>64)
 (R eS h)
 (u () h)))
theorem Pd(b:Int)(a:Sl)(c:@HV R h b a):ab xt 263 #[b,a] h R:=au ac func263 (aj.tn (.two (.join [] [(4,5),(9,15)] .n) (.two (aj.tn (.inn (.loop [(17,aW)] [(4,5),(6,9),(17,61)] (aj.tn (aj.tn (.two (.inn (aj.tn (.two (aj.tn (.inn (.loop [(24,aW)] [(4,5),(7,9),(24,51)] .n))) .n))) .n)))))) .n))) c
noncomputable def uZ(a:aO):Prop:=
 aJ (σ:=Unit) (λ_ w v=>
 ae xt 306 #[a] bA v λl j=>
 Br (l<0)
 (R (.tuple #[]) j)
 (∃a3,(a=dB a3)/\
 bi j a3 λz=>
 aP z l λa5=>
 ∃t:Sl×Sl,an j (a5.add (l.toNat*2)) 0 t/\
 ae xt 265 #[a,t] (.one (.agg [.slc,.slc])) j λx h3=>
 aQ xt (qP 275 true (.tuple #[])) h3 λc y=>
 af xt (qf 275 c x) y λ_ b=>
 ∃a9,(a=dB a9)/\
 bi b (a9.add 1) λm=>
 bi b c λr=>
 aP r (0:Int) λk=>
 be b (k.add ((0:Int).toNat*1)) λd=>
 ∃g,(a=dB g)/\
 bi b (g.add 2) λo=>
 bi b c λf=>
 aP f (0:Int) λp=>
 be b (p.add ((0:Int).toNat*1)) λe=>
 bi b (c.add 1) λi=>
 aP m d λn=>
 af xt (qf 4 (n.add (d.toNat*1)) true) b λ_ u=>
 (av.ok [(c.add 1,i),(c,f)] u)/\
 aP o e λq=>
 af xt (qf 34 (q.add (e.toNat*1)) i) u λ_ s=>
 (av.ok [] s)/\
 w () s)) () h
theorem Gr(a:aO)(b:@uZ R h a):ab xt 264 #[a] h R:=au ac func264 (.scope 0 [] [(2,37)] [] [.n] []) b
noncomputable def uk(j:aO)(v:Sl×Sl):Prop:=
 aQ xt (qO 275 v) h λE K=>
 aQ xt (qP 275 true (.tuple #[])) K λG D=>
 bi D (E.add 1) λx3=>
 ae xt 146 #[x3] aI D λL h3=>
 aQ xt (qP 275 true (.tuple #[])) h3 λa5 M=>
 af xt (qf 275 a5 (xn #[(xj none 0 0),L])) M λ_ H=>
 bi H E λF=>
 aJ (σ:=Int) (λl B d=>
 Br (l<(F.len:Int))
 (aP F l λN=>
 be d (N.add (l.toNat*1)) λe=>
 ∃i,(j=dB i)/\
 bi d (i.add 1) λA=>
 aP A e λp=>
 rT d (p.add (e.toNat*1)) λo=>
 Br (!o)
 (bi d a5 λz=>
 aA xt (qp 22 1 #[(0,e)]) aI d λu J=>
 aA xt (qu #[22,22] 22 #[z,u]) aI J λt h8=>
 af xt (qf 22 a5 t) h8 λ_ O=>
 B (qc xo (l+1)) O)
 (∃n,(j=dB n)/\
 bi d (n.add 2) λq=>
 aP q e λs=>
 bi d (s.add (e.toNat*1)) λm=>
 aJ (σ:=Int) (λa I b=>
 Br (a<(m.len:Int))
 (aP m a λa22=>
 gq .u8 b (a22.add (a.toNat*1)) λy=>
 bi b (a5.add 1) λg=>
 aP g a λa25=>
 gq .u8 b (a25.add (a.toNat*1)) λx=>
 aP g a λr=>
 af xt (qf 5 (r.add (a.toNat*1)) (xi xp (qc xp ((qF (ql xp) x^^^(qF (ql xp) y)).toNat:Nat)))) b λ_ w=>
 I (qc xo (a+1)) w)
 (B (qc xo (l+1)) b)) (0:Int) d))
 (∃f:Sl×Sl,an d a5 0 f/\
 af xt (qf 275 G f) d λ_ k=>
 ∃c:Sl×Sl,an k G 0 c/\
 R c k)) (0:Int) H
theorem EO(b:aO)(a:Sl×Sl)(c:@uk R h b a):ab xt 265 #[b,a] h R:=au ac func265 (aj.tn (aj.tn (.two (aj.tn (.inn (.loop [(17,aW)] [(7,10),(17,58)] (aj.tn (aj.tn (.two (.inn (aj.tn (aj.tn (aj.tn (.inn (.loop [(43,aW)] [(8,10),(43,57)] .n)))))) .n)))))) .n))) c
noncomputable def FY(a:Sl):Prop:=
 ae xt 221 #[a,aaP] aI h λc b=>
 R (xm ((c.len:Int)==0)) b
theorem Nh(a:Sl)(b:@FY R h a):ab xt 266 #[a] h R:=au ac func266 .n b
noncomputable def HW(g:Int)(c:Sl):Prop:=
 aQ xt (qP 279 true (.tuple #[])) h λJ h1=>
 ae xt 307 #[g,c] bK h1 λr2 Y=>
 Br (!r2)
 (af xt (qf 279 J (xn #[(xj none 0 0),(xj none 0 0),(xj none 0 0)])) Y λ_ h3=>
 ∃m:Sl×Sl×Sl,an h3 J 0 m/\
 R (.tuple #[m,eS]) h3)
 (bg (σ:=aO) (λa H=>
 ∃E,(a=dB E)/\
 bi H (E.add 1) λV=>
 aJ (σ:=Int) (λl K2 n=>
 Br (l<(V.len:Int))
 (∃r,(a=dB r)/\
 bi n (r.add 1) λT=>
 aP T l λX=>
 af xt (qf 4 (X.add (l.toNat*1)) true) n λ_ ad=>
 K2 (qc xo (l+1)) ad)
 (aQ xt (qP 279 true (.tuple #[])) n λb P=>
 aJ (σ:=Unit) (λ_ K3 A=>
 ∃D,(a=dB D)/\
 bi A (D.add 1) λap=>
 ae xt 308 #[ap,true] bK A λO p=>
 Br (!O)
 (∃a22,(a=dB a22)/\
 bi p (a22.add 2) λs=>
 aJ (σ:=Int) (λd K4 e=>
 Br (d<(s.len:Int))
 (aP s d λa25=>
 rT e (a25.add (d.toNat*1)) λZ=>
 Br (!Z)
 (bi e (b.add 2) λa7=>
 aA xt (qp 22 1 #[(0,d)]) aI e λv28 a4=>
 aA xt (qu #[22,22] 22 #[a7,v28]) aI a4 λS bd=>
 af xt (qf 22 (b.add 2) S) bd λ_ W=>
 K4 (qc xo (d+1)) W)
 (K4 (qc xo (d+1)) e))
 (∃F:Sl×Sl×Sl,an e b 0 F/\
 af xt (qf 279 J F) e λ_ t=>
 ∃f:Sl×Sl×Sl,an t J 0 f/\
 R (.tuple #[f,true]) t)) (0:Int) p)
 (bg (σ:=Unit) (λ_ ay=>
 K3 () ay)
 (λK5=>
 ae xt 309 #[a] (.many [(.agg [(.int .i64),(.int .i64)]),lK]) p λu a8=>
 aQ xt (qP 332 true (.tuple #[])) a8 λi a3=>
 af xt (qf 332 i u.1) a3 λ_ k=>
 Br u.2
 (bi k b λa5=>
 ∃G:Int×Int,an k i 0 G/\
 aA xt (qp 277 1 #[(0,G)]) aI k λah K=>
 aA xt (qu #[277,277] 277 #[a5,ah]) aI K λax bk=>
 af xt (qf 277 b ax) bk λ_ j=>
 ∃w,(a=dB w)/\
 bi j (w.add 2) λa2=>
 be j i λx=>
 ∃v,(a=dB v)/\
 bi j (v.add 1) λbb=>
 be j (i.add 1) λq=>
 aP a2 x λM=>
 af xt (qf 4 (M.add (x.toNat*1)) true) j λ_ z=>
 (av.ok [(i.add 1,q)] z)/\
 aP bb q λa45=>
 af xt (qf 4 (a45.add (q.toNat*1)) eS) z λ_ I=>
 (av.ok [] I)/\
 K5 () I)
 (ae xt 310 #[a] bA k λo B=>
 bi B (b.add 1) λQ=>
 aA xt (qp 22 1 #[(0,o)]) aI B λU N=>
 aA xt (qu #[22,22] 22 #[Q,U]) aI N λa0 bl=>
 af xt (qf 22 (b.add 1) a0) bl λ_ y=>
 ∃a50,(a=dB a50)/\
 bi y (a50.add 1) λar=>
 aP ar o λam=>
 af xt (qf 4 (am.add (o.toNat*1)) eS) y λ_ L=>
 K5 () L)))) () P)) (0:Int) H)
 (λK1=>
 (aA xt (qG 282 g g) aI Y λv4 h4=>
 (av.ok [] h4)/\
 aA xt (qG 282 (xi xo (c.len:Int)) (xi xo (c.len:Int))) aI h4 λv5 h5=>
 (av.ok [] h5)/\
 aQ xt (qO 366 (xn #[c,v4,v5])) h5 λa6 h6=>
 (av.ok [] h6)/\
 K1 (dB a6) h6)/\(aA xt (qG 282 (xi xo (c.len:Int)) (xi xo (c.len:Int))) aI Y λv7 h7=>
 (av.ok [] h7)/\
 aA xt (qG 282 g g) aI h7 λv8 h8=>
 (av.ok [] h8)/\
 aQ xt (qO 366 (xn #[c,v8,v7])) h8 λa9 h9=>
 (av.ok [] h9)/\
 K1 (dB a9) h9)))
theorem Pe(b:Int)(a:Sl)(c:@HW R h b a):ab xt 267 #[b,a] h R:=au ac func267 (aj.tn (.scope 1 [] [(5,6),(9,14),(42,108)] [.n,(.join [(6,Db)] [(6,7),(19,27)] .n),(aj.tn (.inn (.loop [(32,aW)] [(7,8),(32,42)] .n))),.n] [(aj.tn (.two (.join [] [(9,12),(48,88)] .n) .n))] [(0,[(.two (aj.tn (.inn (.loop [(93,aW)] [(12,14),(93,107)] .n))) .n)])])) c
noncomputable def iX(a:Sl)(b:cG):Prop:=
 ae xt 311 #[a,(.func (.func b.1) b.2.1 b.2.2)] bA h λd i=>
 Br (d==(-1:Int))
 (R a i)
 (aJ (σ:=Int×Int) (λc j e=>
 Br (c.2<(a.len:Int))
 (aP a c.2 λa3=>
 ∃l:Int×Int,an e (a3.add (c.2.toNat*2)) 0 l/\
 aQ xt (qP 332 true (.tuple #[])) e λa5 h3=>
 af xt (qf 332 a5 l) h3 λ_ k=>
 ∃f:Int×Int,an k a5 0 f/\
 iG C b.1 (b.2.1.toList++[(xn #[f.1,f.2])]++b.2.2.toList) bK k λo g=>
 Br (!o)
 (∃m:Int×Int,an g a5 0 m/\
 aP a c.1 λa9=>
 af xt (qf 332 (a9.add (c.1.toNat*2)) m) g λ_ p=>
 j (qc xo (c.1+1),qc xo (c.2+1)) p)
 (j (c.1,qc xo (c.2+1)) g))
 ((0<=c.1/\c.1<=(a.len:Int))/\
 af xt (yV #[277] 0 #[(.slice (if a.cap=c.1.toNat then a.ptr else a.ptr.map (·.add (c.1.toNat*2))) (a.len-c.1.toNat) (a.cap-c.1.toNat))]) e λ_ n=>
 (0<=c.1/\c.1<=(a.cap:Int))/\
 R (xj a.ptr c.1.toNat a.cap) n)) (d,qc xo (d+1)) i)
theorem mI(b:Sl)(a:cG)(c:@iX R h b a):ab xt 268 #[b,(.func (.func a.1) a.2.1 a.2.2)] h R:=au ac func268 (aj.tn (aj.tn (aj.tn (.two (aj.tn (.inn (.loop [(5,aW),(6,aW)] [(5,8),(16,36)] .n))) .n)))) c
noncomputable def nV(c:Int×Int)(a:Addr):Prop:=
 aQ xt (qO 332 c) h λe b=>
 be b e λx2=>
 jp b a λx3=>
 ∃a4,(x3=dB a4)/\
 bi b (a4.add 5) λd=>
 R (decide (x2>=(d.len:Int))) b
theorem xB(b:Int×Int)(a:Addr)(c:@nV R h b a):ab xt 269 #[b,a] h R:=au ac func269 .n c
noncomputable def mb(a:Sl)(b:cG):Prop:=
 ae xt 189 #[a,(.func (.func b.1) b.2.1 b.2.2)] bA h λe f=>
 Br (e==(-1:Int))
 (R a f)
 (aJ (σ:=Int×Int) (λc i d=>
 Br (c.2<(a.len:Int))
 (aP a c.2 λa3=>
 be d (a3.add (c.2.toNat*1)) λg=>
 iG C b.1 (b.2.1.toList++[(xi xo g)]++b.2.2.toList) bK d λj h3=>
 Br (!j)
 (aP a c.1 λm=>
 af xt (qf 3 (m.add (c.1.toNat*1)) g) h3 λ_ l=>
 i (qc xo (c.1+1),qc xo (c.2+1)) l)
 (i (c.1,qc xo (c.2+1)) h3))
 ((0<=c.1/\c.1<=(a.len:Int))/\
 af xt (yV #[22] 0 #[(.slice (if a.cap=c.1.toNat then a.ptr else a.ptr.map (·.add (c.1.toNat*1))) (a.len-c.1.toNat) (a.cap-c.1.toNat))]) d λ_ k=>
 (0<=c.1/\c.1<=(a.cap:Int))/\
 R (xj a.ptr c.1.toNat a.cap) k)) (e,qc xo (e+1)) f)
theorem rP(b:Sl)(a:cG)(c:@mb R h b a):ab xt 270 #[b,(.func (.func a.1) a.2.1 a.2.2)] h R:=au ac func270 (aj.tn (aj.tn (aj.tn (.two (aj.tn (.inn (.loop [(5,aW),(6,aW)] [(5,8),(16,36)] .n))) .n)))) c
noncomputable def nW(b:Int)(a:Addr):Prop:=
 jp h a λd=>
 ∃c,(d=dB c)/\
 bi h (c.add 5) λx3=>
 R (decide (b>=(x3.len:Int))) h
theorem xC(b:Int)(a:Addr)(c:@nW R h b a):ab xt 271 #[b,a] h R:=au ac func271 .n c
noncomputable def si(e:aO)(b:Int)(g:Int)(d:Sl)(c:Sl):Prop:=
 ∃D,(e=dB D)/\
 bi h (D.add 9) λx2=>
 aP x2 g λa3=>
 bi h (a3.add (g.toNat*1)) λF=>
 aJ (σ:=Int) (λf K i=>
 Br (f<(F.len:Int))
 (aP F f λJ=>
 gq .u8 i (J.add (f.toNat*1)) λL=>
 aP d f λE=>
 gq .u8 i (E.add (f.toNat*1)) λA=>
 ∃l,(e=dB l)/\
 jp i l λz=>
 ae xt 280 #[z,(xi xp b),(xi xp L)] (.one (.sc (.int .u8))) i λs B=>
 (av.ok [(E.add (f.toNat*1),(xi xp A))] B)/\
 aP d f λq=>
 af xt (qf 5 (q.add (f.toNat*1)) (xi xp (qc xp ((qF (ql xp) A^^^(qF (ql xp) s)).toNat:Nat)))) B λ_ h3=>
 (av.ok [] h3)/\
 K (qc xo (f+1)) h3)
 (∃m,(e=dB m)/\
 bi i (m.add 10) λy=>
 aP y g λt=>
 bi i (t.add (g.toNat*1)) λo=>
 aJ (σ:=Int) (λa I n=>
 Br (a<(o.len:Int))
 (aP o a λu=>
 gq .u8 n (u.add (a.toNat*1)) λx=>
 aP c a λp=>
 gq .u8 n (p.add (a.toNat*1)) λj=>
 ∃k,(e=dB k)/\
 jp n k λr=>
 ae xt 280 #[r,(xi xp b),(xi xp x)] (.one (.sc (.int .u8))) n λw G=>
 (av.ok [(p.add (a.toNat*1),(xi xp j))] G)/\
 aP c a λv=>
 af xt (qf 5 (v.add (a.toNat*1)) (xi xp (qc xp ((qF (ql xp) j^^^(qF (ql xp) w)).toNat:Nat)))) G λ_ H=>
 (av.ok [] H)/\
 I (qc xo (a+1)) H)
 (R (.tuple #[]) n)) (0:Int) i)) (0:Int) h
theorem DC(e:aO)(a:Int)(d:Int)(c:Sl)(b:Sl)(f:@si R h e a d c b):ab xt 272 #[e,(xi xp a),d,c,b] h R:=au ac func272 (.two (aj.tn (.inn (.loop [(22,aW)] [(10,12),(22,41)] .n))) (aj.tn (.inn (.loop [(49,aW)] [(12,14),(49,68)] .n)))) f
noncomputable def ru(b:Sl)(d:Int):Prop:=
 bg (σ:=Sl) (λe h3=>
 Br ((e.len:Int)==0)
 (R (xj none 0 0) h3)
 (R e h3))
 (λf=>
 aJ (σ:=Sl) (λa g c=>
 bg (σ:=Unit) (λ_ k=>
 (0<=(1:Int)/\(1:Int)<=(a.len:Int))/\
 g (⟨(if a.cap=(1:Int).toNat then a.ptr else a.ptr.map (·.add ((1:Int).toNat*1))),(a.len-(1:Int).toNat),(a.cap-(1:Int).toNat)⟩:Sl) k)
 (λi=>
 Br ((a.len:Int)>0) (aP a (0:Int) λj=>
 gq .u8 c (j.add ((0:Int).toNat*1)) λx3=>
 Br (x3==d)
 (i () c)
 (f (⟨a.ptr,a.len,a.cap⟩:Sl) c)) (f (⟨a.ptr,a.len,a.cap⟩:Sl) c))) (⟨b.ptr,b.len,b.cap⟩:Sl) h)
theorem CC(a:Sl)(b:Int)(c:@ru R h a b):ab xt 273 #[a,(xi xp b)] h R:=au ac func273 (aj.tn (.two (.join [(0,ct)] [(0,1),(5,17)] (.inn (.loop [(0,ct)] [(0,1),(5,17)] (.two (.join [] [(5,15)] .n) .n)))) .n)) c
noncomputable def pF(b:Sl)(d:Int):Prop:=
 bg (σ:=Sl) (λg h3=>
 R g h3)
 (λe=>
 aJ (σ:=Sl) (λa f c=>
 bg (σ:=Unit) (λ_ k=>
 (0<=(qc xo ((a.len:Int)-1))/\(qc xo ((a.len:Int)-1))<=(a.cap:Int))/\
 f (⟨a.ptr,(qc xo ((a.len:Int)-1)).toNat,a.cap⟩:Sl) k)
 (λi=>
 Br ((a.len:Int)>0) (aP a (qc xo ((a.len:Int)-1)) λj=>
 gq .u8 c (j.add ((qc xo ((a.len:Int)-1)).toNat*1)) λx3=>
 Br (x3==d)
 (i () c)
 (e (⟨a.ptr,a.len,a.cap⟩:Sl) c)) (e (⟨a.ptr,a.len,a.cap⟩:Sl) c))) (⟨b.ptr,b.len,b.cap⟩:Sl) h)
theorem Bq(a:Sl)(b:Int)(c:@pF R h a b):ab xt 274 #[a,(xi xp b)] h R:=au ac func274 (aj.tn (.two (.join [(0,ct)] [(0,1),(5,23)] (.inn (.loop [(0,ct)] [(0,1),(5,23)] (.two (.join [] [(5,18)] .n) .n)))) .n)) c
noncomputable def DD(d:aO)(a:Int)(b:Int):Prop:=
 bg (σ:=Unit) (λ_ j=>
 ae xt 206 #[d] jP j λf c=>
 ∃a3,(f=dB a3)/\
 (0<=a/\a<((256:Nat):Int))/\
 be c ((a3.add 255).add (a.toNat*1)) λe=>
 ∃a5,(f=dB a5)/\
 (0<=b/\b<((256:Nat):Int))/\
 be c ((a5.add 255).add (b.toNat*1)) λg=>
 ((255:Int)≠0)/\
 ∃i,(f=dB i)/\
 (0<=(wj (qc xo (e+g)) 255)/\(wj (qc xo (e+g)) 255)<((255:Nat):Int))/\
 gq .u8 c (i.add ((wj (qc xo (e+g)) 255).toNat*1)) λl=>
 R (xi xp l) c)
 (λk=>
 Br (a==0) (R (xi xp 0) h) (Br (b==0)
 (R (xi xp 0) h)
 (k () h)))
theorem Lq(b:aO)(c:Int)(a:Int)(d:@DD R h b c a):ab xt 280 #[b,(xi xp c),(xi xp a)] h R:=au ac func280 (aj.tn (.two (.join [] [(6,7),(8,14)] .n) .n)) d
noncomputable def AF(a:Sl)(b:Int):Prop:=
 bg (σ:=Unit) (λ_ f=>
 aJ (σ:=Int) (λc e d=>
 Br (c<(a.len:Int))
 (aP a c λa5=>
 be d (a5.add (c.toNat*1)) λj=>
 Br (j>b)
 (R (qc xo (c+1)) d)
 (e (qc xo (c+1)) d))
 (R (xi xo 0) d)) (0:Int) f)
 (λg=>
 Br ((a.len:Int)==0) (R (xi xo 0) h) (Br (b<0) (R (xi xo 0) h) (aP a (qc xo ((a.len:Int)-1)) λi=>
 be h (i.add ((qc xo ((a.len:Int)-1)).toNat*1)) λx2=>
 Br (b>=x2)
 (R (xi xo 0) h)
 (g () h))))
theorem HX(b:Sl)(a:Int)(c:@AF R h b a):ab xt 281 #[b,a] h R:=au ac func281 (aj.tn (.two (.join [] [(4,5),(7,24)] .n) (.two (aj.tn (.inn (.loop [(26,aW)] [(4,7),(26,37)] .n))) .n))) c
end Go.Qw
namespace Go.Qw
open Go Go.Vc Go.Proofs
variable {R:KI} {h:Heap}
noncomputable def vC(b:aO)(a:Int):Prop:=
 bg (σ:=Unit) (λ_ c=>
 ae xt 224 #[b] (.one (.sc (.int .u32))) c λe f=>
 ((qc xr a)≠0)/\
 R (qc xo (wj (qc xr e) (qc xr a))) f)
 (λd=>
 Br (qY b) (R (xi xo 0) h) (Br (a<=0)
 (R (xi xo 0) h)
 (d () h)))
theorem Gs(b:aO)(a:Int)(c:@vC R h b a):ab xt 282 #[b,a] h R:=au ac func282 (aj.tn (.two (.join [] [(4,11)] .n) .n)) c
noncomputable def AG(a:Int)(b:Int):Prop:=
 ae xt 316 #[a] bA h λc g=>
 (a≠0)/\
 bg (σ:=Int) (λf e=>
 bg (σ:=Int) (λk l=>
 R k l)
 (λd=>
 (c≠0)/\
 Br (b<(qc xo (yc a c)))
 (((qc xo (a*b))≠0)/\
 d (qc xo (f+(qc xo (yc (qc xo (1048576*c)) (qc xo (a*b)))))) e)
 (Br (b==(qc xo (yc a c)))
 (ae xt 187 #[(xi xr (qc xr c))] bA e λj h3=>
 (a≠0)/\
 d (qc xo (f+(qc xo (yc (qc xo ((qc xo (1048576*c))*j)) a)))) h3)
 (d f e))))
 (λi=>
 Br (b>1)
 (((qc xo (b*(qc xo (b-1))))≠0)/\
 i (qc xo (yc 1048576 (qc xo (b*(qc xo (b-1)))))) g)
 (i (qc xo (yc 1048576 a)) g))
theorem HY(b:Int)(a:Int)(c:@AG R h b a):ab xt 283 #[b,a] h R:=au ac func283 (aj.tn (aj.tn (aj.tn (.two (.join [(6,aW)] [(6,7),(12,19)] .n) (.two (.join [(6,aW)] [(6,8),(19,48)] .n) .n))))) c
noncomputable def HZ(b:Nat×Nat)(d:Int):Prop:=
 ((4:Int)≠0)/\
 ((4:Int)≠0)/\
 aJ (σ:=((Nat×Nat))×Int) (λa f e=>
 Br (decide (a.2<(wj (qc xo ((wj d 4)+4)) 4)))
 (∃c:Nat×Nat,(kB xt .mul 235 (.tmp 11) (.const (.complex .f64 0 4607182418800017408)) (.complex .f64 a.1.1 a.1.2) (.complex .f64 0 4607182418800017408) (.complex .f64 c.1 c.2))/\
 f ((c.1,c.2),qc xo (a.2+1)) e)
 (R (.complex .f64 a.1.1 a.1.2) e)) ((b.1,b.2),(0:Int)) h
theorem Pf(a:Nat×Nat)(b:Int)(c:@HZ R h a b):ab xt 284 #[(.complex .f64 a.1 a.2),b] h R:=au ac func284 (aj.tn (.two (aj.tn (.inn (.loop [(0,(.sc (.cpx .f64))),(9,aW)] [(0,1),(9,14)] .n))) .n)) c
noncomputable def kh(b:Sl)(a:cG):Prop:=
 ae xt 321 #[b,(.func (.func a.1) a.2.1 a.2.2)] bA h λd c=>
 R (decide (d>=0)) c
theorem nZ(b:Sl)(a:cG)(c:@kh R h b a):ab xt 298 #[b,(.func (.func a.1) a.2.1 a.2.2)] h R:=au ac func298 .n c
noncomputable def pG(b:Sl)(a:Addr):Prop:=
 be h a λc=>
 ae xt 84 #[b,c] bK h λe d=>
 R e d
theorem Bt(b:Sl)(a:Addr)(c:@pG R h b a):ab xt 299 #[b,a] h R:=au ac func299 .n c
noncomputable def ie(a:Sl)(j:Int)(n:Int)(b:cG):Prop:=
 aJ (σ:=Int) (λk r q=>
 Br (k<n)
 (aJ (σ:=Int) (λc u i=>
 bg (σ:=Unit) (λ_ o=>
 aP a (qc xo (c-1)) λa9=>
 ∃g:fh,an o (a9.add ((qc xo (c-1)).toNat*8)) 0 g/\
 aP a c λp=>
 ∃f:fh,an o (p.add (c.toNat*8)) 0 f/\
 aP a c λl=>
 af xt (qf 170 (l.add (c.toNat*8)) g) o λ_ s=>
 (av.ok [] s)/\
 aP a (qc xo (c-1)) λm=>
 af xt (qf 170 (m.add ((qc xo (c-1)).toNat*8)) f) s λ_ t=>
 (av.ok [] t)/\
 u (qc xo (c-1)) t)
 (λv=>
 Br (c>j) (aP a c λa3=>
 ∃e:fh,an i (a3.add (c.toNat*8)) 0 e/\
 aP a (qc xo (c-1)) λa5=>
 ∃d:fh,an i (a5.add ((qc xo (c-1)).toNat*8)) 0 d/\
 iG C b.1 (b.2.1.toList++[(xn #[e.1,e.2.1,e.2.2.1,e.2.2.2.1,e.2.2.2.2.1,e.2.2.2.2.2.1,(xi xq e.2.2.2.2.2.2.1),e.2.2.2.2.2.2.2]),(xn #[d.1,d.2.1,d.2.2.1,d.2.2.2.1,d.2.2.2.2.1,d.2.2.2.2.2.1,(xi xq d.2.2.2.2.2.2.1),d.2.2.2.2.2.2.2])]++b.2.2.toList) bA i λw h3=>
 (av.ok [] h3)/\
 Br (w<0)
 (v () h3)
 (r (qc xo (k+1)) h3)) ((av.ok [] i)/\
 r (qc xo (k+1)) i))) k q)
 (R (.tuple #[]) q)) (qc xo (j+1)) h
theorem lP(b:Sl)(d:Int)(c:Int)(a:cG)(e:@ie R h b d c a):ab xt 300 #[b,d,c,(.func (.func a.1) a.2.1 a.2.2)] h R:=au ac func300 (aj.tn (.inn (.loop [(8,aW)] [(8,10),(12,53)] (aj.tn (.two (.inn (aj.tn (.inn (.loop [(9,aW)] [(9,10),(18,53)] (.two (.join [] [(18,35)] .n) .n))))) .n))))) e
noncomputable def jq(a:Sl)(d:Int)(e:Int)(f:Int)(b:cG):Prop:=
 Br ((qc xo (e-d))==1)
 (aJ (σ:=Int×Int) (λn Y z=>
 Br (n.1<n.2)
 ((0<=(1:Int))/\
 aP a (qc xo (q9 (qc xr (qc xo (n.1+n.2))) (2^min (1:Int).toNat (ql xr)))) λa2=>
 ∃x3:fh,an z (a2.add ((qc xo (q9 (qc xr (qc xo (n.1+n.2))) (2^min (1:Int).toNat (ql xr)))).toNat*8)) 0 x3/\
 aP a d λa4=>
 ∃q:fh,an z (a4.add (d.toNat*8)) 0 q/\
 iG C b.1 (b.2.1.toList++[(xn #[x3.1,x3.2.1,x3.2.2.1,x3.2.2.2.1,x3.2.2.2.2.1,x3.2.2.2.2.2.1,(xi xq x3.2.2.2.2.2.2.1),x3.2.2.2.2.2.2.2]),(xn #[q.1,q.2.1,q.2.2.1,q.2.2.2.1,q.2.2.2.2.1,q.2.2.2.2.2.1,(xi xq q.2.2.2.2.2.2.1),q.2.2.2.2.2.2.2])]++b.2.2.toList) bA z λr6 S=>
 (av.ok [] S)/\
 Br (r6<0)
 (Y (qc xo ((qc xo (q9 (qc xr (qc xo (n.1+n.2))) (2^min (1:Int).toNat (ql xr))))+1),n.2) S)
 (Y (n.1,qc xo (q9 (qc xr (qc xo (n.1+n.2))) (2^min (1:Int).toNat (ql xr)))) S))
 (aJ (σ:=Int) (λp K2 h3=>
 Br (p<(qc xo (n.1-1)))
 (aP a (qc xo (p+1)) λa8=>
 ∃X:fh,an h3 (a8.add ((qc xo (p+1)).toNat*8)) 0 X/\
 aP a p λN=>
 ∃y:fh,an h3 (N.add (p.toNat*8)) 0 y/\
 aP a p λE=>
 af xt (qf 170 (E.add (p.toNat*8)) X) h3 λ_ h4=>
 (av.ok [] h4)/\
 aP a (qc xo (p+1)) λB=>
 af xt (qf 170 (B.add ((qc xo (p+1)).toNat*8)) y) h4 λ_ h5=>
 (av.ok [] h5)/\
 K2 (qc xo (p+1)) h5)
 (R (.tuple #[]) h3)) d z)) (e,f) h)
 (Br ((qc xo (f-e))==1)
 (aJ (σ:=Int×Int) (λg K3 A=>
 Br (g.1<g.2)
 ((0<=(1:Int))/\
 aP a e λM=>
 ∃l:fh,an A (M.add (e.toNat*8)) 0 l/\
 aP a (qc xo (q9 (qc xr (qc xo (g.1+g.2))) (2^min (1:Int).toNat (ql xr)))) λU=>
 ∃k:fh,an A (U.add ((qc xo (q9 (qc xr (qc xo (g.1+g.2))) (2^min (1:Int).toNat (ql xr)))).toNat*8)) 0 k/\
 iG C b.1 (b.2.1.toList++[(xn #[l.1,l.2.1,l.2.2.1,l.2.2.2.1,l.2.2.2.2.1,l.2.2.2.2.2.1,(xi xq l.2.2.2.2.2.2.1),l.2.2.2.2.2.2.2]),(xn #[k.1,k.2.1,k.2.2.1,k.2.2.2.1,k.2.2.2.2.1,k.2.2.2.2.2.1,(xi xq k.2.2.2.2.2.2.1),k.2.2.2.2.2.2.2])]++b.2.2.toList) bA A λF I=>
 (av.ok [] I)/\
 Br (!(decide (F<0)))
 (K3 (qc xo ((qc xo (q9 (qc xr (qc xo (g.1+g.2))) (2^min (1:Int).toNat (ql xr))))+1),g.2) I)
 (K3 (g.1,qc xo (q9 (qc xr (qc xo (g.1+g.2))) (2^min (1:Int).toNat (ql xr)))) I))
 (aJ (σ:=Int) (λi K4 h8=>
 Br (i>g.1)
 (aP a (qc xo (i-1)) λV=>
 ∃u:fh,an h8 (V.add ((qc xo (i-1)).toNat*8)) 0 u/\
 aP a i λL=>
 ∃v:fh,an h8 (L.add (i.toNat*8)) 0 v/\
 aP a i λa25=>
 af xt (qf 170 (a25.add (i.toNat*8)) u) h8 λ_ h9=>
 (av.ok [] h9)/\
 aP a (qc xo (i-1)) λQ=>
 af xt (qf 170 (Q.add ((qc xo (i-1)).toNat*8)) v) h9 λ_ x=>
 (av.ok [] x)/\
 K4 (qc xo (i-1)) x)
 (R (.tuple #[]) h8)) e A)) (d,e) h)
 ((0<=(1:Int))/\
 bg (σ:=Int×Int) (λw T=>
 aJ (σ:=Int×Int) (λc Z o=>
 Br (c.1<c.2)
 ((0<=(1:Int))/\
 aP a (qc xo ((qc xo ((qc xo ((qc xo (q9 (qc xr (qc xo (d+f))) (2^min (1:Int).toNat (ql xr))))+e))-1))-(qc xo (q9 (qc xr (qc xo (c.1+c.2))) (2^min (1:Int).toNat (ql xr)))))) λP=>
 ∃m:fh,an o (P.add ((qc xo ((qc xo ((qc xo ((qc xo (q9 (qc xr (qc xo (d+f))) (2^min (1:Int).toNat (ql xr))))+e))-1))-(qc xo (q9 (qc xr (qc xo (c.1+c.2))) (2^min (1:Int).toNat (ql xr)))))).toNat*8)) 0 m/\
 aP a (qc xo (q9 (qc xr (qc xo (c.1+c.2))) (2^min (1:Int).toNat (ql xr)))) λH=>
 ∃j:fh,an o (H.add ((qc xo (q9 (qc xr (qc xo (c.1+c.2))) (2^min (1:Int).toNat (ql xr)))).toNat*8)) 0 j/\
 iG C b.1 (b.2.1.toList++[(xn #[m.1,m.2.1,m.2.2.1,m.2.2.2.1,m.2.2.2.2.1,m.2.2.2.2.2.1,(xi xq m.2.2.2.2.2.2.1),m.2.2.2.2.2.2.2]),(xn #[j.1,j.2.1,j.2.2.1,j.2.2.2.1,j.2.2.2.2.1,j.2.2.2.2.2.1,(xi xq j.2.2.2.2.2.2.1),j.2.2.2.2.2.2.2])]++b.2.2.toList) bA o λD r=>
 (av.ok [] r)/\
 Br (!(decide (D<0)))
 (Z (qc xo ((qc xo (q9 (qc xr (qc xo (c.1+c.2))) (2^min (1:Int).toNat (ql xr))))+1),c.2) r)
 (Z (c.1,qc xo (q9 (qc xr (qc xo (c.1+c.2))) (2^min (1:Int).toNat (ql xr)))) r))
 (bg (σ:=Unit) (λ_ s=>
 bg (σ:=Unit) (λ_ t=>
 Br (decide ((qc xo (q9 (qc xr (qc xo (d+f))) (2^min (1:Int).toNat (ql xr))))<(qc xo ((qc xo ((qc xo (q9 (qc xr (qc xo (d+f))) (2^min (1:Int).toNat (ql xr))))+e))-c.1)))) (Br (decide ((qc xo ((qc xo ((qc xo (q9 (qc xr (qc xo (d+f))) (2^min (1:Int).toNat (ql xr))))+e))-c.1))<f))
 (ae xt 301 #[a,(qc xo (q9 (qc xr (qc xo (d+f))) (2^min (1:Int).toNat (ql xr)))),(qc xo ((qc xo ((qc xo (q9 (qc xr (qc xo (d+f))) (2^min (1:Int).toNat (ql xr))))+e))-c.1)),f,(.func (.func b.1) b.2.1 b.2.2)] iV t λ_ G=>
 R (.tuple #[]) G)
 (R (.tuple #[]) t)) (R (.tuple #[]) t))
 (λO=>
 Br (d<c.1) (Br (decide (c.1<(qc xo (q9 (qc xr (qc xo (d+f))) (2^min (1:Int).toNat (ql xr))))))
 (ae xt 301 #[a,d,c.1,(qc xo (q9 (qc xr (qc xo (d+f))) (2^min (1:Int).toNat (ql xr)))),(.func (.func b.1) b.2.1 b.2.2)] iV s λ_ W=>
 O () W)
 (O () s)) (O () s)))
 (λJ=>
 Br (c.1<e) (Br (decide (e<(qc xo ((qc xo ((qc xo (q9 (qc xr (qc xo (d+f))) (2^min (1:Int).toNat (ql xr))))+e))-c.1))))
 (ae xt 322 #[a,c.1,e,(qc xo ((qc xo ((qc xo (q9 (qc xr (qc xo (d+f))) (2^min (1:Int).toNat (ql xr))))+e))-c.1)),(.func (.func b.1) b.2.1 b.2.2)] iV o λ_ K=>
 J () K)
 (J () o)) (J () o)))) (w.1,w.2) T)
 (λK5=>
 Br (decide (e>(qc xo (q9 (qc xr (qc xo (d+f))) (2^min (1:Int).toNat (ql xr))))))
 (K5 (qc xo ((qc xo ((qc xo (q9 (qc xr (qc xo (d+f))) (2^min (1:Int).toNat (ql xr))))+e))-f),qc xo (q9 (qc xr (qc xo (d+f))) (2^min (1:Int).toNat (ql xr)))) h)
 (K5 (d,e) h))))
theorem mZ(b:Sl)(d:Int)(e:Int)(c:Int)(a:cG)(f:@jq R h b d e c a):ab xt 301 #[b,d,e,c,(.func (.func a.1) a.2.1 a.2.2)] h R:=au ac func301 (.two (aj.tn (.two (aj.tn (aj.tn (.two (.inn (.loop [(10,aW),(11,aW)] [(10,13),(31,54)] .n)) (.two (aj.tn (.inn (.loop [(13,aW)] [(13,14),(55,77)] .n))) .n)))) .n)) (.two (aj.tn (.two (aj.tn (aj.tn (.two (.inn (.loop [(14,aW),(15,aW)] [(14,17),(83,107)] .n)) (.two (aj.tn (.inn (.loop [(17,aW)] [(17,18),(108,129)] .n))) .n)))) .n)) (aj.tn (aj.tn (aj.tn (.two (.join [(20,aW),(21,aW)] [(20,22),(138,147)] .n) (aj.tn (.two (.inn (.loop [(20,aW),(21,aW)] [(20,22),(23,24),(149,175)] .n)) (aj.tn (.two (.join [] [(178,192)] .n) (.two (.join [] [(192,206)] .n) .n))))))))))) f
noncomputable def Ni(a:aO):Prop:=
 Br (qY a)
 (ae xt 65 #[] jP h λc b=>
 R c b)
 (R a h)
theorem TP(a:aO)(b:@Ni R h a):ab xt 302 #[a] h R:=au ac func302 .n b
noncomputable def ul(e:aO):Prop:=
 ∃o,(e=dB o)/\
 bi h o λx2=>
 aJ (σ:=Int) (λc q j=>
 Br (c<(x2.len:Int))
 (aP x2 c λa4=>
 ∃l:Sl×Sl,an j (a4.add (c.toNat*2)) 0 l/\
 aQ xt (qP 275 true (.tuple #[])) j λn r=>
 af xt (qf 275 n l) r λ_ h3=>
 bi h3 n λp=>
 aJ (σ:=Int×Int) (λa m b=>
 Br (a.2<(p.len:Int))
 (aP p a.2 λa9=>
 be b (a9.add (a.2.toNat*1)) λd=>
 ∃f,(e=dB f)/\
 bi b (f.add 1) λi=>
 aP i d λg=>
 rT b (g.add (d.toNat*1)) λk=>
 Br (!k)
 (m (qc xo (a.1+1),qc xo (a.2+1)) b)
 (m (a.1,qc xo (a.2+1)) b))
 (Br (a.1==1)
 (R c b)
 (q (qc xo (c+1)) b))) ((0:Int),(0:Int)) h3)
 (R (xi xo (-1:Int)) j)) (0:Int) h
theorem EP(a:aO)(b:@ul R h a):ab xt 306 #[a] h R:=au ac func306 (aj.tn (.two (aj.tn (.inn (.loop [(13,aW)] [(2,6),(7,8),(13,40)] (aj.tn (aj.tn (.two (.inn (aj.tn (aj.tn (.two (aj.tn (.inn (.loop [(5,aW),(21,aW)] [(5,6),(7,8),(21,36)] .n))) .n)))) .n)))))) .n)) b
noncomputable def FZ(b:Int)(c:Sl):Prop:=
 bg (σ:=Unit) (λ_ m=>
 aJ (σ:=Int) (λd j g=>
 Br (d<(c.len:Int))
 (aP c d λa3=>
 bi g (a3.add (d.toNat*1)) λf=>
 aJ (σ:=Int) (λa i h3=>
 Br (a<(f.len:Int))
 (aP f a λo=>
 be h3 (o.add (a.toNat*1)) λe=>
 Br (e<0) (R eS h3) (Br (e>=b) (R eS h3) (Br (a>0) (aP f (qc xo (a-1)) λk=>
 be h3 (k.add ((qc xo (a-1)).toNat*1)) λl=>
 Br (l>=e)
 (R eS h3)
 (i (qc xo (a+1)) h3)) (i (qc xo (a+1)) h3))))
 (j (qc xo (d+1)) h3)) (0:Int) g)
 (R true g)) (0:Int) m)
 (λn=>
 Br (b<0) (R eS h) (Br (b>64)
 (R eS h)
 (n () h)))
theorem Nj(b:Int)(a:Sl)(c:@FZ R h b a):ab xt 307 #[b,a] h R:=au ac func307 (aj.tn (.two (.join [] [(4,5),(9,15)] .n) (.two (aj.tn (.inn (.loop [(17,aW)] [(4,5),(6,9),(17,50)] (aj.tn (aj.tn (.two (.inn (aj.tn (aj.tn (.inn (.loop [(23,aW)] [(4,5),(7,9),(23,49)] .n))))) .n)))))) .n))) c
noncomputable def md(a:Sl)(b:Bool):Prop:=
 ae xt 324 #[a,b] bA h λd c=>
 R (decide (d>=0)) c
theorem rQ(a:Sl)(b:Bool)(c:@md R h a b):ab xt 308 #[a,b] h R:=au ac func308 .n c
noncomputable def rv(d:aO):Prop:=
 aQ xt (qP 332 true (.tuple #[])) h λg j=>
 ∃n,(d=dB n)/\
 bi j n λx3=>
 aJ (σ:=Int) (λc k e=>
 Br (c<(x3.len:Int))
 (aP x3 c λa5=>
 bi e (a5.add (c.toNat*1)) λp=>
 ∃l,(d=dB l)/\
 bi e (l.add 2) λq=>
 aP q c λa9=>
 rT e (a9.add (c.toNat*1)) λi=>
 Br i
 (k (qc xo (c+1)) e)
 (ae xt 325 #[d,p] (.many [aW,lK]) e λf h3=>
 Br f.2
 (af xt (qf 332 g (xn #[c,f.1])) h3 λ_ m=>
 ∃b:Int×Int,an m g 0 b/\
 R (.tuple #[b,true]) m)
 (k (qc xo (c+1)) h3)))
 (af xt (qf 332 g (xn #[(xi xo 0),(xi xo 0)])) e λ_ o=>
 ∃a:Int×Int,an o g 0 a/\
 R (.tuple #[a,eS]) o)) (0:Int) j
theorem CD(a:aO)(b:@rv R h a):ab xt 309 #[a] h R:=au ac func309 (aj.tn (.two (aj.tn (.inn (.loop [(13,aW)] [(3,8),(13,36)] .n))) .n)) b
noncomputable def rx(b:aO):Prop:=
 ∃B,(b=dB B)/\
 bi h (B.add 1) λx2=>
 aA xt (qG 22 (xi xo (x2.len:Int)) (xi xo (x2.len:Int))) aI h λv3 A=>
 ∃a4,(b=dB a4)/\
 bi A a4 λy=>
 aJ (σ:=Int) (λe E l=>
 Br (e<(y.len:Int))
 (aP y e λF=>
 bi l (F.add (e.toNat*1)) λD=>
 aJ (σ:=Int) (λg z h3=>
 Br (g<(D.len:Int))
 (aP D g λp=>
 be h3 (p.add (g.toNat*1)) λc=>
 ∃f,(b=dB f)/\
 bi h3 (f.add 2) λm=>
 aP m e λr=>
 rT h3 (r.add (e.toNat*1)) λx=>
 Br (!x)
 (aP v3 c λs=>
 be h3 (s.add (c.toNat*1)) λw=>
 aP v3 c λu=>
 af xt (qf 3 (u.add (c.toNat*1)) (qc xo (w+1))) h3 λ_ G=>
 z (qc xo (g+1)) G)
 (z (qc xo (g+1)) h3))
 (E (qc xo (e+1)) h3)) (0:Int) l)
 (∃i,(b=dB i)/\
 bi l (i.add 1) λj=>
 aJ (σ:=Int×Int) (λa k d=>
 Br (a.2<(j.len:Int))
 (aP j a.2 λa22=>
 rT d (a22.add (a.2.toNat*1)) λv=>
 Br v (Br (a.1<0) (k (a.2,qc xo (a.2+1)) d) (aP v3 a.2 λq=>
 be d (q.add (a.2.toNat*1)) λo=>
 aP v3 a.1 λt=>
 be d (t.add (a.1.toNat*1)) λn=>
 Br (o>n)
 (k (a.2,qc xo (a.2+1)) d)
 (k (a.1,qc xo (a.2+1)) d))) (k (a.1,qc xo (a.2+1)) d))
 (R a.1 d)) ((-1:Int),(0:Int)) l)) (0:Int) A
theorem CE(a:aO)(b:@rx R h a):ab xt 310 #[a] h R:=au ac func310 (aj.tn (aj.tn (.two (aj.tn (.inn (.loop [(22,aW)] [(4,6),(7,8),(22,49)] (aj.tn (aj.tn (.two (.inn (aj.tn (aj.tn (.inn (.loop [(29,aW)] [(7,8),(29,48)] .n))))) .n)))))) (aj.tn (.two (aj.tn (.inn (.loop [(8,aW),(54,aW)] [(8,11),(54,77)] .n))) .n))))) b
noncomputable def jg(c:Sl)(a:cG):Prop:=
 aJ (σ:=Int) (λb g d=>
 Br (b<(c.len:Int))
 (aP c b λi=>
 ∃x3:Int×Int,an d (i.add (b.toNat*2)) 0 x3/\
 iG C a.1 (a.2.1.toList++[(xn #[x3.1,x3.2])]++a.2.2.toList) bK d λf e=>
 Br f
 (R b e)
 (g (qc xo (b+1)) e))
 (R (xi xo (-1:Int)) d)) (0:Int) h
theorem mT(b:Sl)(a:cG)(c:@jg R h b a):ab xt 311 #[b,(.func (.func a.1) a.2.1 a.2.2)] h R:=au ac func311 (aj.tn (.two (aj.tn (.inn (.loop [(8,aW)] [(4,6),(8,19)] .n))) .n)) c
noncomputable def DE(b:Int):Prop:=
 aJ (σ:=Int) (λa d c=>
 Br ((qc xo (a*a))<b)
 (d (qc xo (a+1)) c)
 (R a c)) (0:Int) h
theorem Lr(a:Int)(b:@DE R h a):ab xt 316 #[a] h R:=au ac func316 (aj.tn (aj.tn (.two (.inn (.loop [(3,aW)] [(3,11)] .n)) .n))) b
noncomputable def lr(c:Sl)(a:cG):Prop:=
 aJ (σ:=Int) (λb g d=>
 Br (b<(c.len:Int))
 (aP c b λi=>
 bi d (i.add (b.toNat*1)) λx3=>
 iG C a.1 (a.2.1.toList++[(xj x3.ptr x3.len x3.cap)]++a.2.2.toList) bK d λf e=>
 Br f
 (R b e)
 (g (qc xo (b+1)) e))
 (R (xi xo (-1:Int)) d)) (0:Int) h
theorem pL(b:Sl)(a:cG)(c:@lr R h b a):ab xt 321 #[b,(.func (.func a.1) a.2.1 a.2.2)] h R:=au ac func321 (aj.tn (.two (aj.tn (.inn (.loop [(8,aW)] [(4,6),(8,19)] .n))) .n)) c
noncomputable def jS(b:Sl)(g:Int)(d:Int)(e:Int)(a:cG):Prop:=
 aJ (σ:=Int×Int) (λc i f=>
 Br (c.1 !=c.2)
 (Br (c.1>c.2)
 (ae xt 329 #[b,(qc xo (d-c.1)),d,c.2,(.func (.func a.1) a.2.1 a.2.2)] iV f λ_ j=>
 i (qc xo (c.1-c.2),c.2) j)
 (ae xt 329 #[b,(qc xo (d-c.1)),(qc xo ((qc xo (d+c.2))-c.1)),c.1,(.func (.func a.1) a.2.1 a.2.2)] iV f λ_ h3=>
 i (c.1,qc xo (c.2-c.1)) h3))
 (ae xt 329 #[b,(qc xo (d-c.1)),d,c.1,(.func (.func a.1) a.2.1 a.2.2)] iV f λ_ k=>
 R (.tuple #[]) k)) (qc xo (d-g),qc xo (e-d)) h
theorem nK(b:Sl)(d:Int)(e:Int)(c:Int)(a:cG)(f:@jS R h b d e c a):ab xt 322 #[b,d,e,c,(.func (.func a.1) a.2.1 a.2.2)] h R:=au ac func322 (aj.tn (aj.tn (.two (.inn (.loop [(10,aW),(11,aW)] [(10,12),(18,50)] .n)) .n))) f
noncomputable def nt(b:Sl)(d:Bool):Prop:=
 aJ (σ:=Int) (λa e c=>
 Br (a<(b.len:Int))
 (aP b a λf=>
 rT c (f.add (a.toNat*1)) λx3=>
 Br (d==x3)
 (R a c)
 (e (qc xo (a+1)) c))
 (R (xi xo (-1:Int)) c)) (0:Int) h
theorem uD(a:Sl)(b:Bool)(c:@nt R h a b):ab xt 324 #[a,b] h R:=au ac func324 (aj.tn (.two (aj.tn (.inn (.loop [(8,aW)] [(4,6),(8,19)] .n))) .n)) c
noncomputable def oz(d:aO)(c:Sl):Prop:=
 aJ (σ:=bR) (λa e b=>
 Br (a.2.2<(c.len:Int))
 (aP c a.2.2 λi=>
 be b (i.add (a.2.2.toNat*1)) λx3=>
 ∃a4,(d=dB a4)/\
 bi b (a4.add 1) λf=>
 aP f x3 λj=>
 rT b (j.add (x3.toNat*1)) λg=>
 Br g
 (e (x3,qc xo (a.2.1+1),qc xo (a.2.2+1)) b)
 (e (a.1,a.2.1,qc xo (a.2.2+1)) b))
 (R (.tuple #[a.1,(xm (a.2.1==1))]) b)) ((0:Int),(0:Int),(0:Int)) h
theorem AH(a:aO)(b:Sl)(c:@oz R h a b):ab xt 325 #[a,b] h R:=au ac func325 (aj.tn (aj.tn (.two (aj.tn (.inn (.loop [(6,aW),(7,aW),(12,aW)] [(6,8),(9,10),(12,27)] .n))) .n))) c
noncomputable def jh(a:Sl)(c:Int)(d:Int)(f:Int)(g:cG):Prop:=
 aJ (σ:=Int) (λb k e=>
 Br (b<f)
 (aP a (qc xo (d+b)) λl=>
 ∃x3:fh,an e (l.add ((qc xo (d+b)).toNat*8)) 0 x3/\
 aP a (qc xo (c+b)) λa4=>
 ∃i:fh,an e (a4.add ((qc xo (c+b)).toNat*8)) 0 i/\
 aP a (qc xo (c+b)) λn=>
 af xt (qf 170 (n.add ((qc xo (c+b)).toNat*8)) x3) e λ_ j=>
 (av.ok [] j)/\
 aP a (qc xo (d+b)) λm=>
 af xt (qf 170 (m.add ((qc xo (d+b)).toNat*8)) i) j λ_ h3=>
 (av.ok [] h3)/\
 k (qc xo (b+1)) h3)
 (R (.tuple #[]) e)) (0:Int) h
theorem mU(b:Sl)(c:Int)(e:Int)(d:Int)(a:cG)(f:@jh R h b c e d a):ab xt 329 #[b,c,e,d,(.func (.func a.1) a.2.1 a.2.2)] h R:=au ac func329 (aj.tn (.inn (.loop [(10,aW)] [(10,38)] .n))) f
end Go.Qw
