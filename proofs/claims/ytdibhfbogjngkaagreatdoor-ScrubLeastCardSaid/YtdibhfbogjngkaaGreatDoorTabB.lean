/- Lemmas for the proof of the law; no condition. -/
import Derived.Test.YtdibhfbogjngkaaGreatDoorTabA
set_option linter.unusedVariables false
open Go.Proofs.Tryz renaming prog -> xm
open Option renaming isNone -> za
open Go.Value renaming agg -> xh, bool -> xg, int -> xb, slice -> xc
open Go.IntKind renaming bits -> qk, i64 -> xi, u32 -> xk, u64 -> xl, u8 -> xj, wrap -> qc
open Go.Instr renaming alloc -> qO, box -> qN, buildSlice -> qq, makeSlice -> qG, storeAt -> qf
open Go.Builtin renaming append_ -> qu, clear_ -> yS
open BitVec renaming ofInt -> qF
open Int renaming fdiv -> q9, tdiv -> yb, tmod -> wg
open Go.Proofs.Tryz
set_option maxRecDepth 1000000
open Option renaming some -> dB
open Bool renaming false -> eS
namespace Go.Qw
open Go Go.Vc Go.Proofs
variable {R:Ki} {h:Heap}
noncomputable def re(b:aQ):Prop:=
 ∃l,(b=dB l)/\
 bh h (l.add 4) λx2=>
 aJ (σ:=Int) (λa o d=>
 Br (a<(x2.len:Int))
 (aO x2 a λa4=>
 bh d (a4.add (a.toNat*1)) λq=>
 Br (!(za q.ptr))
 (∃f,(b=dB f)/\
 bh d (f.add 9) λr=>
 ∃g,(b=dB g)/\
 bh d (g.add 10) λm=>
 ∃c,(b=dB c)/\
 bh d ((c.add 6).add 1) λe=>
 aA xm (qG 34 (xb xi (e.len:Int)) (xb xi (e.len:Int))) aI d λi n=>
 (av.ok [((c.add 6).add 1,e),(g.add 10,m),(f.add 9,r)] n)/\
 aO r a λj=>
 af xm (qf 34 (j.add (a.toNat*1)) i) n λ_ h3=>
 (av.ok [] h3)/\
 aO m a λk=>
 af xm (qf 34 (k.add (a.toNat*1)) q) h3 λ_ p=>
 (av.ok [] p)/\
 o (qc xi (a+1)) p)
 (o (qc xi (a+1)) d))
 (R (.tuple #[]) d)) (0:Int) h
theorem Cm(a:aQ)(b:@re R h a):ab xm 219 #[a] h R:=az ac func219 (ak.tn (.inn (.loop [(9,aU)] [(2,4),(9,37)] .n))) b
noncomputable def pr(b:aQ):Prop:=
 ∃a1,(b=dB a1)/\
 bh h ((a1.add 6).add 1) λx2=>
 ∃a3,(b=dB a3)/\
 bh h ((a3.add 6).add 2) λx4=>
 aJ (σ:=Sl×Sl×Int) (λc K1 r=>
 Br (c.2.2<(x4.len:Int))
 (aO x4 c.2.2 λa6=>
 aZ r (a6.add (c.2.2.toNat*1)) λL=>
 bg (σ:=Sl×Sl) (λj Y=>
 ∃J,(b=dB J)/\
 bh Y (J.add 5) λay=>
 aO ay L λS=>
 bh Y (S.add (L.toNat*2)) λF=>
 aJ (σ:=Int) (λg K3 U=>
 Br (g<(F.len:Int))
 (aO F g λa22=>
 aZ U (a22.add (g.toNat*1)) λV=>
 ae xm 272 #[b,(xb xj 1),V,j.1,j.2] jm U λ_ h8=>
 K3 (qc xi (g+1)) h8)
 (aA xm (qq 85 1 #[(0,j.1)]) aI U λv25 h9=>
 aA xm (qu #[85,85] 85 #[c.1,v25]) aI h9 λm X=>
 aA xm (qq 85 1 #[(0,j.2)]) aI X λW am=>
 aA xm (qu #[85,85] 85 #[c.2.1,W]) aI am λv28 a0=>
 K1 ((⟨m.ptr,m.len,m.cap⟩:Sl),(⟨v28.ptr,v28.len,v28.cap⟩:Sl),qc xi (c.2.2+1)) a0)) (0:Int) Y)
 (λK2=>
 ∃y,(b=dB y)/\
 bh r (y.add 5) λM=>
 aO M L λI=>
 bh r ((I.add (L.toNat*2)).add 1) λx=>
 (aA xm (qG 34 (xb xi (x2.len:Int)) (xb xi (x2.len:Int))) aI r λl h2=>
 (av.ok [((I.add (L.toNat*2)).add 1,x),(y.add 5,M)] h2)/\
 ae xm 146 #[x] aI h2 λw h3=>
 (av.ok [(y.add 5,M)] h3)/\
 K2 ((⟨l.ptr,l.len,l.cap⟩:Sl),(⟨w.ptr,w.len,w.cap⟩:Sl)) h3)/\(ae xm 146 #[x] aI r λv h4=>
 (av.ok [(y.add 5,M)] h4)/\
 aA xm (qG 34 (xb xi (x2.len:Int)) (xb xi (x2.len:Int))) aI h4 λn h5=>
 (av.ok [(y.add 5,M)] h5)/\
 K2 ((⟨n.ptr,n.len,n.cap⟩:Sl),(⟨v.ptr,v.len,v.cap⟩:Sl)) h5)))
 (∃B,(b=dB B)/\
 ∃E:bS,an r (B.add 1) 0 E/\
 ae xm 70 #[E] aI r λG Q=>
 aJ (σ:=Sl×Sl×Int) (λa K4 e=>
 Br (a.2.2<(G.len:Int))
 (aO G a.2.2 λO=>
 bh e (O.add (a.2.2.toNat*1)) λz=>
 bg (σ:=Sl×Sl) (λi ap=>
 aJ (σ:=Int) (λd K6 k=>
 Br (d<(z.len:Int))
 (aO z d λT=>
 gj .u8 k (T.add (d.toNat*1)) λah=>
 ae xm 272 #[b,(xb xj ah),d,i.1,i.2] jm k λ_ P=>
 K6 (qc xi (d+1)) P)
 (aA xm (qq 85 1 #[(0,i.1)]) aI k λv46 ad=>
 aA xm (qu #[85,85] 85 #[a.1,v46]) aI ad λs ax=>
 aA xm (qq 85 1 #[(0,i.2)]) aI ax λZ N=>
 aA xm (qu #[85,85] 85 #[a.2.1,Z]) aI N λq ar=>
 K4 ((⟨s.ptr,s.len,s.cap⟩:Sl),(⟨q.ptr,q.len,q.cap⟩:Sl),qc xi (a.2.2+1)) ar)) (0:Int) ap)
 (λK5=>
 ∃t,(b=dB t)/\
 aZ e ((t.add 1).add 2) λf=>
 (aA xm (qG 34 (xb xi (x2.len:Int)) (xb xi (x2.len:Int))) aI e λo A=>
 (av.ok [((t.add 1).add 2,f)] A)/\
 aA xm (qG 34 f f) aI A λu K=>
 (av.ok [] K)/\
 K5 ((⟨o.ptr,o.len,o.cap⟩:Sl),(⟨u.ptr,u.len,u.cap⟩:Sl)) K)/\(aA xm (qG 34 f f) aI e λv39 D=>
 (av.ok [] D)/\
 aA xm (qG 34 (xb xi (x2.len:Int)) (xb xi (x2.len:Int))) aI D λp H=>
 (av.ok [] H)/\
 K5 ((⟨p.ptr,p.len,p.cap⟩:Sl),(⟨v39.ptr,v39.len,v39.cap⟩:Sl)) H)))
 (R (.tuple #[a.1,a.2.1]) e)) ((⟨c.1.ptr,c.1.len,c.1.cap⟩:Sl),(⟨c.2.1.ptr,c.2.1.len,c.2.1.cap⟩:Sl),(0:Int)) Q)) ((⟨none,0,0⟩:Sl),(⟨none,0,0⟩:Sl),(0:Int)) h
theorem AZ(a:aQ)(b:@pr R h a):ab xm 220 #[a] h R:=az ac func220 (ak.tn (ak.tn (.two (ak.tn (.inn (.loop [(2,cx),(3,cx),(29,aU)] [(2,4),(6,9),(10,11),(29,72)] (ak.tn (ak.tn (.two (.inn (ak.tn (.two (.join [(7,cx),(8,cx)] [(7,9),(33,44)] .n) (.two (ak.tn (.inn (.loop [(53,aU)] [(10,11),(53,63)] .n))) .n)))) .n)))))) (.two (ak.tn (.inn (.loop [(2,cx),(3,cx),(78,aU)] [(2,4),(12,17),(78,113)] (ak.tn (ak.tn (.two (.inn (ak.tn (.two (.join [(13,cx),(14,cx)] [(13,15),(82,90)] .n) (.two (ak.tn (.inn (.loop [(92,aU)] [(15,17),(92,104)] .n))) .n)))) .n)))))) .n)))) b
noncomputable def Hm(b:Sl)(a:ByteArray):Prop:=
 Br ((b.len:Int)==0)
 (R (xc none 0 0) h)
 (Br (a.toList==aal.toList)
 (R b h)
 (bg (σ:=Unit) (λ_ h3=>
 ae xm 275 #[a] (.many [(.arr .bool),kN]) h3 λi t=>
 aP xm (qO 338 true (.tuple #[])) t λd u=>
 af xm (qf 338 d (xh (i.1.map (Sc.enc .bool)).toArray)) u λ_ j=>
 Br i.2
 (ae xm 277 #[b,d] aI j λr s=>
 ae xm 276 #[r,d] aI s λf h8=>
 R f h8)
 (ae xm 279 #[b,a] aI j λe v=>
 ae xm 278 #[e,a] aI v λc g=>
 R c g))
 (λo=>
 Br ((a.size:Int)==1) (∃k:UInt8,(0<=(0:Int)/\a.data[(0:Int).toNat]?=dB k)/\
 Br ((k.toNat:Int)<128)
 (∃l:UInt8,(0<=(0:Int)/\a.data[(0:Int).toNat]?=dB l)/\
 ∃c3:UInt8,(0<=(0:Int)/\a.data[(0:Int).toNat]?=dB c3)/\
 ae xm 274 #[b,(xb xj (l.toNat:Int))] aI h λp n=>
 (av.ok [] n)/\
 ae xm 273 #[p,(xb xj (c3.toNat:Int))] aI n λq m=>
 (av.ok [] m)/\
 R q m)
 (o () h)) (o () h))))
theorem Ov(b:Sl)(a:ByteArray)(c:@Hm R h b a):ab xm 221 #[b,a] h R:=az ac func221 (ak.tn (ak.tn (ak.tn (.two (.join [] [(4,5),(13,28)] .n) .n)))) c
noncomputable def rT(c:aQ)(e:Sl):Prop:=
 ∃H,(c=dB H)/\
 bh h (H.add 4) λx2=>
 aJ (σ:=Int) (λd I g=>
 Br (d<(x2.len:Int))
 (∃a4,(c=dB a4)/\
 bh g (a4.add 4) λP=>
 aO P d λK=>
 bh g (K.add (d.toNat*1)) λQ=>
 Br (!(za Q.ptr))
 (I (qc xi (d+1)) g)
 (∃F,(c=dB F)/\
 bh g (F.add 10) λL=>
 aO L d λs=>
 bh g (s.add (d.toNat*1)) λE=>
 ae xm 146 #[E] aI g λf w=>
 ∃l,(c=dB l)/\
 bh w (l.add 9) λt=>
 aO t d λu=>
 bh w (u.add (d.toNat*1)) λm=>
 aJ (σ:=Int) (λb M h3=>
 Br (b<(m.len:Int))
 (aO m b λx=>
 gj .u8 h3 (x.add (b.toNat*1)) λy=>
 aO e b λz=>
 bh h3 (z.add (b.toNat*1)) λn=>
 aJ (σ:=Int) (λa O o=>
 Br (a<(n.len:Int))
 (aO n a λB=>
 gj .u8 o (B.add (a.toNat*1)) λq=>
 aO f a λa25=>
 gj .u8 o (a25.add (a.toNat*1)) λj=>
 ∃i,(c=dB i)/\
 kL o i λp=>
 ae xm 280 #[p,(xb xj y),(xb xj q)] (.one (.sc (.int .u8))) o λA J=>
 (av.ok [(a25.add (a.toNat*1),(xb xj j))] J)/\
 aO f a λD=>
 af xm (qf 5 (D.add (a.toNat*1)) (xb xj (qc xj ((qF (qk xj) j^^^(qF (qk xj) A)).toNat:Nat)))) J λ_ G=>
 (av.ok [] G)/\
 O (qc xi (a+1)) G)
 (M (qc xi (b+1)) o)) (0:Int) h3)
 (∃k,(c=dB k)/\
 bh h3 (k.add 4) λv=>
 aO v d λr=>
 af xm (qf 34 (r.add (d.toNat*1)) f) h3 λ_ N=>
 I (qc xi (d+1)) N)) (0:Int) w))
 (R (.tuple #[]) g)) (0:Int) h
theorem De(b:aQ)(a:Sl)(c:@rT R h b a):ab xm 222 #[b,a] h R:=az ac func222 (ak.tn (.inn (.loop [(15,aU)] [(4,10),(15,80)] (ak.tn (ak.tn (.two (.inn (ak.tn (ak.tn (ak.tn (.two (ak.tn (.inn (.loop [(42,aU)] [(6,10),(42,72)] (ak.tn (ak.tn (.two (.inn (ak.tn (ak.tn (.inn (.loop [(52,aU)] [(8,10),(52,71)] .n))))) .n)))))) .n))))) .n)))))) c
noncomputable def Mz(a:Int):Prop:=
 aP xm (qN 344 (xh #[(xb xl (qc xl a))])) h λb c=>
 R b c
theorem Tg(a:Int)(b:@Mz R h a):ab xm 223 #[(xb xk a)] h R:=az ac func223 .n b
noncomputable def Ai(a:aQ):Prop:=
 Br (za a)
 (R (xb xk 0) h)
 (∃b,(a=dB b)/\
 gj .u64 h b λx2=>
 ∃a3,(a=dB a3)/\
 af xm (qf 311 a3 (xb xl (qc xl ((qc xl (x2*6364136223846793005))+1442695040888963407)))) h λ_ c=>
 ∃a4,(a=dB a4)/\
 gj .u64 c a4 λd=>
 (0<=(32:Int))/\
 R (xb xk (qc xk (q9 d (2^min (32:Int).toNat (qk xl))))) c)
theorem Hn(a:aQ)(b:@Ai R h a):ab xm 224 #[a] h R:=az ac func224 .n b
noncomputable def Df(a:Sl)(b:aQ):Prop:=
 Br ((a.len:Int)==0)
 (R (xb xi 0) h)
 (aO a (qc xi ((a.len:Int)-1)) λd=>
 aZ h (d.add ((qc xi ((a.len:Int)-1)).toNat*1)) λx2=>
 ae xm 282 #[b,x2] bB h λc f=>
 ae xm 281 #[a,c] bB f λg e=>
 R g e)
theorem KL(b:Sl)(a:aQ)(c:@Df R h b a):ab xm 225 #[b,a] h R:=az ac func225 .n c
noncomputable def BE(a:Int):Prop:=
 bg (σ:=Unit) (λ_ m=>
 aA xm (qG 22 (xb xi 0) a) aI m λc j=>
 aJ (σ:=Sl×Int×Int) (λb l h3=>
 Br (b.2.2<=a)
 (ae xm 283 #[a,b.2.2] bB h3 λe g=>
 aA xm (qq 22 1 #[(0,(qc xi (b.2.1+e)))]) aI g λv5 i=>
 aA xm (qu #[22,22] 22 #[b.1,v5]) aI i λd k=>
 l ((⟨d.ptr,d.len,d.cap⟩:Sl),qc xi (b.2.1+e),qc xi (b.2.2+1)) k)
 (R b.1 h3)) ((⟨c.ptr,c.len,c.cap⟩:Sl),(0:Int),(1:Int)) j)
 (λf=>
 Br (a<1) (R (xc none 0 0) h) (Br (a>64)
 (R (xc none 0 0) h)
 (f () h)))
theorem Ji(a:Int)(b:@BE R h a):ab xm 226 #[a] h R:=az ac func226 (ak.tn (.two (.join [] [(2,3),(6,12)] .n) (ak.tn (ak.tn (.two (ak.tn (.inn (.loop [(3,cx),(4,aU),(5,aU)] [(3,6),(14,28)] .n))) .n))))) b
noncomputable def Fv(l:aQ)(b:Int)(a:Int):Prop:=
 bg (σ:=Unit) (λ_ t=>
 aA xm (qG 22 b b) aI t λd s=>
 aJ (σ:=Int) (λf r h3=>
 Br (f<(d.len:Int))
 (aO d f λa4=>
 af xm (qf 3 (a4.add (f.toNat*1)) f) h3 λ_ w=>
 r (qc xi (f+1)) w)
 (aJ (σ:=Int) (λc v p=>
 Br (c<a)
 (ae xm 282 #[l,(qc xi (b-c))] bB p λg j=>
 aO d (qc xi (c+g)) λq=>
 aZ j (q.add ((qc xi (c+g)).toNat*1)) λu=>
 aO d c λa9=>
 aZ j (a9.add (c.toNat*1)) λk=>
 aO d c λm=>
 af xm (qf 3 (m.add (c.toNat*1)) u) j λ_ o=>
 (av.ok [] o)/\
 aO d (qc xi (c+g)) λi=>
 af xm (qf 3 (i.add ((qc xi (c+g)).toNat*1)) k) o λ_ h8=>
 (av.ok [] h8)/\
 v (qc xi (c+1)) h8)
 ((0<=a/\a<=(d.cap:Int))/\
 ae xm 128 #[(xc d.ptr a.toNat d.cap)] aI p λe y=>
 ae xm 148 #[e] jm y λ_ n=>
 R e n)) (0:Int) h3)) (0:Int) s)
 (λx=>
 Br (b<0) (R (xc none 0 0) h) (Br (b>64) (R (xc none 0 0) h) (Br (a<0) (R (xc none 0 0) h) (Br (a>b)
 (R (xc none 0 0) h)
 (x () h)))))
theorem MB(c:aQ)(a:Int)(b:Int)(d:@Fv R h c a b):ab xm 227 #[c,a,b] h R:=az ac func227 (ak.tn (.two (.join [] [(6,7),(12,27)] .n) (ak.tn (.two (ak.tn (.inn (.loop [(31,aU)] [(8,9),(31,39)] .n))) (.two (ak.tn (.inn (.loop [(40,aU)] [(9,11),(40,65)] .n))) .n))))) d
noncomputable def Dg(a:Int):Prop:=
 ae xm 162 #[a,(xb xi 0),(xb xi 15)] ci h λc b=>
 R (xg (!c)) b
theorem KM(a:Int)(b:@Dg R h a):ab xm 228 #[a] h R:=az ac func228 .n b
noncomputable def Fw:Prop:=
 aP xm (qN 299 (xh #[(.complex .f64 0 0),(.complex .f64 4607182418800017408 0),(xb xi 1),(xb xi 1),eS])) h λa b=>
 R a b
theorem MC(a:@Fw R h):ab xm 229 #[] h R:=az ac func229 .n a
noncomputable def uF(a:aQ):Prop:=
 ∃y,(a=dB y)/\
 ∃x2:Nat×Nat,cellOf h y=dB (.complex .f64 x2.1 x2.2)/\
 ∃a3,(a=dB a3)/\
 ∃m:Nat×Nat,cellOf h (a3.add 1)=dB (.complex .f64 m.1 m.2)/\
 ∃z5:Nat×Nat,(kB xm .add 235 (.tmp 5) (.tmp 9) (.complex .f64 x2.1 x2.2) (.complex .f64 m.1 m.2) (.complex .f64 z5.1 z5.2))/\
 ∃v,(a=dB v)/\
 af xm (qf 235 v (.complex .f64 z5.1 z5.2)) h λ_ r=>
 (av.ok [] r)/\
 ∃w,(a=dB w)/\
 aZ r (w.add 2) λB=>
 ∃a9,(a=dB a9)/\
 af xm (qf 3 (a9.add 2) (qc xi (B-1))) r λ_ n=>
 ∃g,(a=dB g)/\
 aZ n (g.add 2) λu=>
 Br (u>0)
 (R (.tuple #[]) n)
 (∃c,(a=dB c)/\
 ∃b:Nat×Nat,cellOf n (c.add 1)=dB (.complex .f64 b.1 b.2)/\
 ae xm 284 #[(.complex .f64 b.1 b.2),(xb xi 1)] (.one (.sc (.cpx .f64))) n λe h3=>
 ∃i,(a=dB i)/\
 af xm (qf 235 (i.add 1) (.complex .f64 e.1 e.2)) h3 λ_ o=>
 bg (σ:=Unit) (λ_ x=>
 ∃a22,(a=dB a22)/\
 rN x (a22.add 4) λt=>
 ∃j,(a=dB j)/\
 af xm (qf 4 (j.add 4) (xg (!t))) x λ_ z=>
 ∃a25,(a=dB a25)/\
 aZ z (a25.add 3) λp=>
 ∃d,(a=dB d)/\
 af xm (qf 3 (d.add 2) p) z λ_ h8=>
 R (.tuple #[]) h8)
 (λA=>
 ∃f,(a=dB f)/\
 rN o (f.add 4) λq=>
 Br q
 (∃k,(a=dB k)/\
 aZ o (k.add 3) λs=>
 ∃l,(a=dB l)/\
 af xm (qf 3 (l.add 3) (qc xi (s+1))) o λ_ D=>
 A () D)
 (A () o)))
theorem FL(a:aQ)(b:@uF R h a):ab xm 230 #[a] h R:=az ac func230 (ak.tn (ak.tn (ak.tn (ak.tn (.two (.join [] [(33,44)] .n) .n))))) b
noncomputable def rU(a:Nat):Prop:=
 R (xg ((FloatKind.format .f64).order a a !=dB .eq)) h
theorem Dh(a:Nat)(b:@rU R h a):ab xm 232 #[(.float .f64 a)] h R:=az ac func232 .n b
noncomputable def rf(a:Int):Prop:=
 R (xg (a !=a)) h
theorem uG(a:Int)(b:@rf R h a):ab xm 233 #[a] h R:=az ac func233 .n b
noncomputable def iB(a:Sl)(f:Int)(p:Int)(b:cU):Prop:=
 aJ (σ:=Int) (λk s r=>
 Br (k<p)
 (aJ (σ:=Int) (λc v g=>
 bg (σ:=Unit) (λ_ o=>
 aO a (qc xi (c-1)) λa9=>
 ∃d:iA,an o (a9.add ((qc xi (c-1)).toNat*4)) 0 d/\
 aO a c λm=>
 ∃j:iA,an o (m.add (c.toNat*4)) 0 j/\
 aO a c λl=>
 af xm (qf 94 (l.add (c.toNat*4)) d) o λ_ t=>
 (av.ok [] t)/\
 aO a (qc xi (c-1)) λn=>
 af xm (qf 94 (n.add ((qc xi (c-1)).toNat*4)) j) t λ_ q=>
 (av.ok [] q)/\
 v (qc xi (c-1)) q)
 (λw=>
 Br (c>f) (aO a c λa3=>
 ∃e:iA,an g (a3.add (c.toNat*4)) 0 e/\
 aO a (qc xi (c-1)) λa5=>
 ∃i:iA,an g (a5.add ((qc xi (c-1)).toNat*4)) 0 i/\
 iM C b.1 (b.2.1.toList++[(xh #[e.1,e.2.1,e.2.2.1,e.2.2.2]),(xh #[i.1,i.2.1,i.2.2.1,i.2.2.2])]++b.2.2.toList) bB g λu h3=>
 (av.ok [] h3)/\
 Br (u<0)
 (w () h3)
 (s (qc xi (k+1)) h3)) ((av.ok [] g)/\
 s (qc xi (k+1)) g))) k r)
 (R (.tuple #[]) r)) (qc xi (f+1)) h
theorem lR(b:Sl)(d:Int)(c:Int)(a:cU)(e:@iB R h b d c a):ab xm 234 #[b,d,c,(.func (.func a.1) a.2.1 a.2.2)] h R:=az ac func234 (ak.tn (.inn (.loop [(8,aU)] [(8,10),(12,53)] (ak.tn (.two (.inn (ak.tn (.inn (.loop [(9,aU)] [(9,10),(18,53)] (.two (.join [] [(18,35)] .n) .n))))) .n))))) e
noncomputable def tK(a:aQ):Prop:=
 Br (za a)
 (R (xb xi 0) h)
 (∃b,(a=dB b)/\
 aZ h (b.add 1) λx2=>
 R x2 h)
theorem Es(a:aQ)(b:@tK R h a):ab xm 244 #[a] h R:=az ac func244 .n b
noncomputable def rV(c:aQ):Prop:=
 aP xm (qO 3 true (.tuple #[])) h λa l=>
 af xm (qf 3 a (xb xi 0)) l λ_ i=>
 aJ (σ:=Unit) (λ_ d h3=>
 ∃a3,(c=dB a3)/\
 bh h3 (a3.add 4) λf=>
 ae xm 298 #[f,(.func (.func 299) #[] #[a])] ci h3 λe b=>
 Br e
 (aZ b a λg=>
 af xm (qf 3 a (qc xi (g+1))) b λ_ j=>
 d () j)
 (aZ b a λk=>
 R k b)) () i
theorem Di(a:aQ)(b:@rV R h a):ab xm 245 #[a] h R:=az ac func245 (ak.tn (ak.tn (.two (.inn (.loop [] [(4,12)] .n)) .n))) b
noncomputable def Fx(b:Sl):Prop:=
 aJ (σ:=Int×Int) (λa d c=>
 Br (a.2<(b.len:Int))
 (aO b a.2 λe=>
 gj .u8 c (e.add (a.2.toNat*1)) λx3=>
 (0<=(8:Int))/\
 d (qc xi ((qF (qk xi) (qc xi (a.1*2^min (8:Int).toNat (qk xi)))|||(qF (qk xi) (qc xi x3))).toNat:Nat),qc xi (a.2+1)) c)
 (R a.1 c)) ((0:Int),(0:Int)) h
theorem MD(a:Sl)(b:@Fx R h a):ab xm 246 #[a] h R:=az ac func246 (ak.tn (ak.tn (.two (ak.tn (.inn (.loop [(3,aU),(8,aU)] [(3,4),(5,6),(8,18)] .n))) .n))) b
noncomputable def BF(i:iA)(a:Addr):Prop:=
 aP xm (qN 94 i) h λc b=>
 aZ b (c.add 1) λx2=>
 aZ b a λx3=>
 Br (x2==x3) (bh b (c.add 3) λf=>
 aZ b (a.add 1) λg=>
 Br ((f.len:Int)>g) (gj .u32 b (a.add 6) λn=>
 aZ b a λo=>
 aZ b (a.add 1) λp=>
 bh b (c.add 3) λl=>
 aZ b (a.add 1) λd=>
 aO l d λe=>
 aZ b (e.add (d.toNat*1)) λk=>
 ae xm 62 #[o,p,k] (.one (.sc (.int .u32))) b λj m=>
 (av.ok [(a.add 1,d),(c.add 3,l),(a.add 6,(xb xk n)),(a.add 1,g),(c.add 3,f),(a,x3),(c.add 1,x2)] m)/\
 R (xg (n==j)) m) ((av.ok [(a.add 1,g),(c.add 3,f),(a,x3),(c.add 1,x2)] b)/\
 R eS b)) ((av.ok [(a,x3),(c.add 1,x2)] b)/\
 R eS b)
theorem Jj(b:iA)(a:Addr)(c:@BF R h b a):ab xm 247 #[b,a] h R:=az ac func247 .n c
noncomputable def jO(b:Sl)(c:Int)(a:cU):Prop:=
 aJ (σ:=Int×Int) (λf l j=>
 Br (f.2<=c)
 (ae xm 300 #[b,f.1,f.2,(.func (.func a.1) a.2.1 a.2.2)] jm j λ_ n=>
 l (f.2,qc xi (f.2+20)) n)
 (ae xm 300 #[b,f.1,c,(.func (.func a.1) a.2.1 a.2.2)] jm j λ_ h3=>
 aJ (σ:=Int) (λe k i=>
 Br (e<c)
 (aJ (σ:=Int×Int) (λd m g=>
 Br (d.2<=c)
 (ae xm 301 #[b,d.1,(qc xi (d.1+e)),d.2,(.func (.func a.1) a.2.1 a.2.2)] jm g λ_ o=>
 m (d.2,qc xi (d.2+(qc xi (2*e)))) o)
 (Br ((qc xi (d.1+e))<c)
 (ae xm 301 #[b,d.1,(qc xi (d.1+e)),c,(.func (.func a.1) a.2.1 a.2.2)] jm g λ_ p=>
 k (qc xi (e*2)) p)
 (k (qc xi (e*2)) g))) ((0:Int),qc xi (2*e)) i)
 (R (.tuple #[]) i)) (20:Int) h3)) ((0:Int),(20:Int)) h
theorem nH(b:Sl)(c:Int)(a:cU)(d:@jO R h b c a):ab xm 248 #[b,c,(.func (.func a.1) a.2.1 a.2.2)] h R:=az ac func248 (ak.tn (ak.tn (.two (.inn (.loop [(7,aU),(8,aU)] [(7,9),(11,23)] .n)) (ak.tn (.inn (.loop [(6,aU)] [(6,10),(28,63)] (ak.tn (.inn (ak.tn (.two (.inn (.loop [(7,aU),(8,aU)] [(7,9),(33,49)] .n)) .n)))))))))) d
noncomputable def Ho(d:Sl)(b:Int)(a:Int):Prop:=
 aJ (σ:=Int) (λe f c=>
 Br (e>=(d.len:Int))
 (R (xb xi (-1:Int)) c)
 (aO d e λg=>
 bh c (g.add (e.toNat*1)) λx3=>
 aO x3 a λa4=>
 gj .u8 c (a4.add (a.toNat*1)) λi=>
 Br (i !=0)
 (R e c)
 (f (qc xi (e+1)) c))) b h
theorem Ow(c:Sl)(b:Int)(a:Int)(d:@Ho R h c b a):ab xm 249 #[c,b,a] h R:=az ac func249 (ak.tn (.scope 0 [(7,aU)] [(6,8),(9,24)] [.n] [.n] [(1,[.n])])) d
noncomputable def JL(d:aQ)(c:Int)(a:Sl):Prop:=
 ae xm 302 #[d] kM h λj o=>
 aA xm (qG 34 (xb xi (a.len:Int)) (xb xi (a.len:Int))) aI o λe m=>
 aJ (σ:=Int) (λb f h3=>
 Br (b<(a.len:Int))
 (aO a b λa4=>
 gj .u8 h3 (a4.add (b.toNat*1)) λn=>
 ae xm 280 #[j,(xb xj c),(xb xj n)] (.one (.sc (.int .u8))) h3 λk g=>
 aO e b λi=>
 af xm (qf 5 (i.add (b.toNat*1)) (xb xj k)) g λ_ l=>
 f (qc xi (b+1)) l)
 (R e h3)) (0:Int) m
theorem QO(c:aQ)(b:Int)(a:Sl)(d:@JL R h c b a):ab xm 250 #[c,(xb xj b),a] h R:=az ac func250 (ak.tn (ak.tn (ak.tn (.two (ak.tn (.inn (.loop [(17,aU)] [(8,10),(17,30)] .n))) .n)))) d
noncomputable def Dj(c:aQ)(a:Int):Prop:=
 Br (a==0)
 (R (xb xj 0) h)
 (ae xm 206 #[c] kM h λd b=>
 ∃e,(d=dB e)/\
 (0<=a/\a<((256:Nat):Int))/\
 aZ b ((e.add 255).add (a.toNat*1)) λx3=>
 ((255:Int)≠0)/\
 ∃a4,(d=dB a4)/\
 (0<=(wg (qc xi (255-x3)) 255)/\(wg (qc xi (255-x3)) 255)<((255:Nat):Int))/\
 gj .u8 b (a4.add ((wg (qc xi (255-x3)) 255).toNat*1)) λf=>
 R (xb xj f) b)
theorem KN(a:aQ)(b:Int)(c:@Dj R h a b):ab xm 251 #[a,(xb xj b)] h R:=az ac func251 .n c
noncomputable def PB(f:aQ)(d:Int)(c:Sl)(b:Sl):Prop:=
 Br (d==0)
 (R (.tuple #[]) h)
 (aJ (σ:=Int) (λa j e=>
 Br (a<(c.len:Int))
 (aO c a λl=>
 gj .u8 e (l.add (a.toNat*1)) λx3=>
 aO b a λa4=>
 gj .u8 e (a4.add (a.toNat*1)) λi=>
 ae xm 280 #[f,(xb xj d),(xb xj x3)] (.one (.sc (.int .u8))) e λm g=>
 (av.ok [(a4.add (a.toNat*1),(xb xj i))] g)/\
 aO b a λk=>
 af xm (qf 5 (k.add (a.toNat*1)) (xb xj (qc xj ((qF (qk xj) i^^^(qF (qk xj) m)).toNat:Nat)))) g λ_ h3=>
 (av.ok [] h3)/\
 j (qc xi (a+1)) h3)
 (R (.tuple #[]) e)) (0:Int) h)
theorem Ve(d:aQ)(c:Int)(b:Sl)(a:Sl)(e:@PB R h d c b a):ab xm 252 #[d,(xb xj c),b,a] h R:=az ac func252 (ak.tn (ak.tn (.inn (.loop [(14,aU)] [(8,10),(14,30)] .n)))) e
noncomputable def PC(a:Sl)(c:Sl):Prop:=
 Br ((a.len:Int) !=(c.len:Int))
 (R (.tuple #[(xc none 0 0),eS]) h)
 (aA xm (qG 34 (xb xi (a.len:Int)) (xb xi (a.len:Int))) aI h λe j=>
 aJ (σ:=Int) (λb f d=>
 Br (b<(a.len:Int))
 (aO a b λa3=>
 gj .u8 d (a3.add (b.toNat*1)) λi=>
 aO c b λa5=>
 gj .u8 d (a5.add (b.toNat*1)) λk=>
 aO e b λg=>
 af xm (qf 5 (g.add (b.toNat*1)) (xb xj (qc xj ((qF (qk xj) i^^^(qF (qk xj) k)).toNat:Nat)))) d λ_ h3=>
 (av.ok [] h3)/\
 f (qc xi (b+1)) h3)
 (R (.tuple #[e,true]) d)) (0:Int) j)
theorem Vf(a:Sl)(b:Sl)(c:@PC R h a b):ab xm 253 #[a,b] h R:=az ac func253 (ak.tn (ak.tn (ak.tn (.two (ak.tn (.inn (.loop [(18,aU)] [(7,8),(18,34)] .n))) .n)))) c
noncomputable def Hp(d:Int)(c:Sl):Prop:=
 bg (σ:=Unit) (λ_ u=>
 aJ (σ:=Int) (λe t m=>
 Br (e<(c.len:Int))
 (aO c e λa3=>
 ∃o:Sl×Sl,an m (a3.add (e.toNat*2)) 0 o/\
 aP xm (qO 275 true (.tuple #[])) m λa5 h3=>
 af xm (qf 275 a5 o) h3 λ_ r=>
 bh r a5 λp=>
 aJ (σ:=Int) (λb q a=>
 Br (b<(p.len:Int))
 (aO p b λs=>
 aZ a (s.add (b.toNat*1)) λi=>
 Br (i<0) (R eS a) (Br (i>=d) (R eS a) (Br (b>0) (bh a a5 λg=>
 aO g (qc xi (b-1)) λk=>
 aZ a (k.add ((qc xi (b-1)).toNat*1)) λn=>
 Br (n>=i)
 (R eS a)
 (q (qc xi (b+1)) a)) (q (qc xi (b+1)) a))))
 (bh a (a5.add 1) λj=>
 aO c (0:Int) λl=>
 bh a ((l.add ((0:Int).toNat*2)).add 1) λf=>
 Br ((j.len:Int) !=(f.len:Int))
 (R eS a)
 (t (qc xi (e+1)) a))) (0:Int) r)
 (R true m)) (0:Int) u)
 (λv=>
 Br (d<0) (R eS h) (Br (d>64)
 (R eS h)
 (v () h)))
theorem Ox(a:Int)(b:Sl)(c:@Hp R h a b):ab xm 263 #[a,b] h R:=az ac func263 (ak.tn (.two (.join [] [(4,5),(9,15)] .n) (.two (ak.tn (.inn (.loop [(17,aU)] [(4,5),(6,9),(17,61)] (ak.tn (ak.tn (.two (.inn (ak.tn (.two (ak.tn (.inn (.loop [(24,aU)] [(4,5),(7,9),(24,51)] .n))) .n))) .n)))))) .n))) c
noncomputable def uH(a:aQ):Prop:=
 aJ (σ:=Unit) (λ_ y x=>
 ae xm 306 #[a] bB x λo j=>
 Br (o<0)
 (R (.tuple #[]) j)
 (∃a3,(a=dB a3)/\
 bh j a3 λw=>
 aO w o λa5=>
 ∃u:Sl×Sl,an j (a5.add (o.toNat*2)) 0 u/\
 ae xm 265 #[a,u] (.one (.agg [.slc,.slc])) j λv h3=>
 aP xm (qO 275 true (.tuple #[])) h3 λc z=>
 af xm (qf 275 c v) z λ_ b=>
 ∃a9,(a=dB a9)/\
 bh b (a9.add 1) λn=>
 bh b c λr=>
 aO r (0:Int) λl=>
 aZ b (l.add ((0:Int).toNat*1)) λd=>
 ∃e,(a=dB e)/\
 bh b (e.add 2) λm=>
 bh b c λf=>
 aO f (0:Int) λp=>
 aZ b (p.add ((0:Int).toNat*1)) λg=>
 bh b (c.add 1) λi=>
 aO n d λq=>
 af xm (qf 4 (q.add (d.toNat*1)) true) b λ_ s=>
 (av.ok [(c.add 1,i),(c,f)] s)/\
 aO m g λk=>
 af xm (qf 34 (k.add (g.toNat*1)) i) s λ_ t=>
 (av.ok [] t)/\
 y () t)) () h
theorem FM(a:aQ)(b:@uH R h a):ab xm 264 #[a] h R:=az ac func264 (.scope 0 [] [(2,37)] [] [.n] []) b
noncomputable def tO(e:aQ)(y:Sl×Sl):Prop:=
 aP xm (qN 275 y) h λB L=>
 aP xm (qO 275 true (.tuple #[])) L λD E=>
 bh E (B.add 1) λx3=>
 ae xm 146 #[x3] aI E λK h3=>
 aP xm (qO 275 true (.tuple #[])) h3 λa5 N=>
 af xm (qf 275 a5 (xh #[(xc none 0 0),K])) N λ_ H=>
 bh H B λF=>
 aJ (σ:=Int) (λm G d=>
 Br (m<(F.len:Int))
 (aO F m λI=>
 aZ d (I.add (m.toNat*1)) λj=>
 ∃i,(e=dB i)/\
 bh d (i.add 1) λA=>
 aO A j λo=>
 rN d (o.add (j.toNat*1)) λu=>
 Br (!u)
 (bh d a5 λt=>
 aA xm (qq 22 1 #[(0,j)]) aI d λv M=>
 aA xm (qu #[22,22] 22 #[t,v]) aI M λz h8=>
 af xm (qf 22 a5 z) h8 λ_ O=>
 G (qc xi (m+1)) O)
 (∃k,(e=dB k)/\
 bh d (k.add 2) λw=>
 aO w j λr=>
 bh d (r.add (j.toNat*1)) λl=>
 aJ (σ:=Int) (λa J c=>
 Br (a<(l.len:Int))
 (aO l a λa22=>
 gj .u8 c (a22.add (a.toNat*1)) λx=>
 bh c (a5.add 1) λg=>
 aO g a λa25=>
 gj .u8 c (a25.add (a.toNat*1)) λq=>
 aO g a λp=>
 af xm (qf 5 (p.add (a.toNat*1)) (xb xj (qc xj ((qF (qk xj) q^^^(qF (qk xj) x)).toNat:Nat)))) c λ_ s=>
 J (qc xi (a+1)) s)
 (G (qc xi (m+1)) c)) (0:Int) d))
 (∃f:Sl×Sl,an d a5 0 f/\
 af xm (qf 275 D f) d λ_ n=>
 ∃b:Sl×Sl,an n D 0 b/\
 R b n)) (0:Int) H
theorem Et(b:aQ)(a:Sl×Sl)(c:@tO R h b a):ab xm 265 #[b,a] h R:=az ac func265 (ak.tn (ak.tn (.two (ak.tn (.inn (.loop [(17,aU)] [(7,10),(17,58)] (ak.tn (ak.tn (.two (.inn (ak.tn (ak.tn (ak.tn (.inn (.loop [(43,aU)] [(8,10),(43,57)] .n)))))) .n)))))) .n))) c
noncomputable def Fy(a:Sl):Prop:=
 ae xm 221 #[a,aak] aI h λc b=>
 R (xg ((c.len:Int)==0)) b
theorem ME(a:Sl)(b:@Fy R h a):ab xm 266 #[a] h R:=az ac func266 .n b
noncomputable def Hq(g:Int)(b:Sl):Prop:=
 aP xm (qO 279 true (.tuple #[])) h λJ h1=>
 ae xm 307 #[g,b] ci h1 λr2 h2=>
 Br (!r2)
 (af xm (qf 279 J (xh #[(xc none 0 0),(xc none 0 0),(xc none 0 0)])) h2 λ_ h3=>
 ∃m:Sl×Sl×Sl,an h3 J 0 m/\
 R (.tuple #[m,eS]) h3)
 (bg (σ:=aQ) (λa A=>
 ∃F,(a=dB F)/\
 bh A (F.add 1) λQ=>
 aJ (σ:=Int) (λk K2 q=>
 Br (k<(Q.len:Int))
 (∃I,(a=dB I)/\
 bh q (I.add 1) λa4=>
 aO a4 k λax=>
 af xm (qf 4 (ax.add (k.toNat*1)) true) q λ_ bd=>
 K2 (qc xi (k+1)) bd)
 (aP xm (qO 279 true (.tuple #[])) q λc U=>
 aJ (σ:=Unit) (λ_ K3 E=>
 ∃u,(a=dB u)/\
 bh E (u.add 1) λZ=>
 ae xm 308 #[Z,true] ci E λad n=>
 Br (!ad)
 (∃a22,(a=dB a22)/\
 bh n (a22.add 2) λz=>
 aJ (σ:=Int) (λe K4 d=>
 Br (e<(z.len:Int))
 (aO z e λa25=>
 rN d (a25.add (e.toNat*1)) λS=>
 Br (!S)
 (bh d (c.add 2) λap=>
 aA xm (qq 22 1 #[(0,e)]) aI d λv28 W=>
 aA xm (qu #[22,22] 22 #[ap,v28]) aI W λay ar=>
 af xm (qf 22 (c.add 2) ay) ar λ_ a5=>
 K4 (qc xi (e+1)) a5)
 (K4 (qc xi (e+1)) d))
 (∃w:Sl×Sl×Sl,an d c 0 w/\
 af xm (qf 279 J w) d λ_ s=>
 ∃i:Sl×Sl×Sl,an s J 0 i/\
 R (.tuple #[i,true]) s)) (0:Int) n)
 (bg (σ:=Unit) (λ_ N=>
 K3 () N)
 (λK5=>
 ae xm 309 #[a] (.many [(.agg [(.int .i64),(.int .i64)]),kN]) n λv T=>
 aP xm (qO 332 true (.tuple #[])) T λf a2=>
 af xm (qf 332 f v.1) a2 λ_ l=>
 Br v.2
 (bh l c λK=>
 ∃x:Int×Int,an l f 0 x/\
 aA xm (qq 277 1 #[(0,x)]) aI l λa3 L=>
 aA xm (qu #[277,277] 277 #[K,a3]) aI L λV bb=>
 af xm (qf 277 c V) bb λ_ j=>
 ∃D,(a=dB D)/\
 bh j (D.add 2) λO=>
 aZ j f λB=>
 ∃G,(a=dB G)/\
 bh j (G.add 1) λY=>
 aZ j (f.add 1) λp=>
 aO O B λah=>
 af xm (qf 4 (ah.add (B.toNat*1)) true) j λ_ r=>
 (av.ok [(f.add 1,p)] r)/\
 aO Y p λa45=>
 af xm (qf 4 (a45.add (p.toNat*1)) eS) r λ_ H=>
 (av.ok [] H)/\
 K5 () H)
 (ae xm 310 #[a] bB l λo t=>
 bh t (c.add 1) λam=>
 aA xm (qq 22 1 #[(0,o)]) aI t λa0 P=>
 aA xm (qu #[22,22] 22 #[am,a0]) aI P λX a7=>
 af xm (qf 22 (c.add 1) X) a7 λ_ y=>
 ∃a50,(a=dB a50)/\
 bh y (a50.add 1) λbk=>
 aO bk o λM=>
 af xm (qf 4 (M.add (o.toNat*1)) eS) y λ_ a8=>
 K5 () a8)))) () U)) (0:Int) A)
 (λK1=>
 (aA xm (qG 282 g g) aI h2 λv4 h4=>
 (av.ok [] h4)/\
 aA xm (qG 282 (xb xi (b.len:Int)) (xb xi (b.len:Int))) aI h4 λv5 h5=>
 (av.ok [] h5)/\
 aP xm (qN 366 (xh #[b,v4,v5])) h5 λa6 h6=>
 (av.ok [] h6)/\
 K1 (dB a6) h6)/\(aA xm (qG 282 (xb xi (b.len:Int)) (xb xi (b.len:Int))) aI h2 λv7 h7=>
 (av.ok [] h7)/\
 aA xm (qG 282 g g) aI h7 λv8 h8=>
 (av.ok [] h8)/\
 aP xm (qN 366 (xh #[b,v8,v7])) h8 λa9 h9=>
 (av.ok [] h9)/\
 K1 (dB a9) h9)))
theorem Oy(a:Int)(b:Sl)(c:@Hq R h a b):ab xm 267 #[a,b] h R:=az ac func267 (ak.tn (.scope 1 [] [(5,6),(9,14),(42,108)] [.n,(.join [(6,CN)] [(6,7),(19,27)] .n),(ak.tn (.inn (.loop [(32,aU)] [(7,8),(32,42)] .n))),.n] [(ak.tn (.two (.join [] [(9,12),(48,88)] .n) .n))] [(0,[(.two (ak.tn (.inn (.loop [(93,aU)] [(12,14),(93,107)] .n))) .n)])])) c
noncomputable def iV(a:Sl)(b:cU):Prop:=
 ae xm 311 #[a,(.func (.func b.1) b.2.1 b.2.2)] bB h λd j=>
 Br (d==(-1:Int))
 (R a j)
 (aJ (σ:=Int×Int) (λc l e=>
 Br (c.2<(a.len:Int))
 (aO a c.2 λa3=>
 ∃i:Int×Int,an e (a3.add (c.2.toNat*2)) 0 i/\
 aP xm (qO 332 true (.tuple #[])) e λa5 h3=>
 af xm (qf 332 a5 i) h3 λ_ m=>
 ∃f:Int×Int,an m a5 0 f/\
 iM C b.1 (b.2.1.toList++[(xh #[f.1,f.2])]++b.2.2.toList) ci m λn g=>
 Br (!n)
 (∃k:Int×Int,an g a5 0 k/\
 aO a c.1 λa9=>
 af xm (qf 332 (a9.add (c.1.toNat*2)) k) g λ_ o=>
 l (qc xi (c.1+1),qc xi (c.2+1)) o)
 (l (c.1,qc xi (c.2+1)) g))
 ((0<=c.1/\c.1<=(a.len:Int))/\
 af xm (yS #[277] 0 #[(.slice (if a.cap=c.1.toNat then a.ptr else a.ptr.map (·.add (c.1.toNat*2))) (a.len-c.1.toNat) (a.cap-c.1.toNat))]) e λ_ p=>
 (0<=c.1/\c.1<=(a.cap:Int))/\
 R (xc a.ptr c.1.toNat a.cap) p)) (d,qc xi (d+1)) j)
theorem mE(b:Sl)(a:cU)(c:@iV R h b a):ab xm 268 #[b,(.func (.func a.1) a.2.1 a.2.2)] h R:=az ac func268 (ak.tn (ak.tn (ak.tn (.two (ak.tn (.inn (.loop [(5,aU),(6,aU)] [(5,8),(16,36)] .n))) .n)))) c
noncomputable def nQ(c:Int×Int)(a:Addr):Prop:=
 aP xm (qN 332 c) h λd b=>
 aZ b d λx2=>
 kL b a λx3=>
 ∃a4,(x3=dB a4)/\
 bh b (a4.add 5) λe=>
 R (decide (x2>=(e.len:Int))) b
theorem uZ(b:Int×Int)(a:Addr)(c:@nQ R h b a):ab xm 269 #[b,a] h R:=az ac func269 .n c
noncomputable def lX(a:Sl)(b:cU):Prop:=
 ae xm 189 #[a,(.func (.func b.1) b.2.1 b.2.2)] bB h λd i=>
 Br (d==(-1:Int))
 (R a i)
 (aJ (σ:=Int×Int) (λc f e=>
 Br (c.2<(a.len:Int))
 (aO a c.2 λa3=>
 aZ e (a3.add (c.2.toNat*1)) λg=>
 iM C b.1 (b.2.1.toList++[(xb xi g)]++b.2.2.toList) ci e λl h3=>
 Br (!l)
 (aO a c.1 λj=>
 af xm (qf 3 (j.add (c.1.toNat*1)) g) h3 λ_ k=>
 f (qc xi (c.1+1),qc xi (c.2+1)) k)
 (f (c.1,qc xi (c.2+1)) h3))
 ((0<=c.1/\c.1<=(a.len:Int))/\
 af xm (yS #[22] 0 #[(.slice (if a.cap=c.1.toNat then a.ptr else a.ptr.map (·.add (c.1.toNat*1))) (a.len-c.1.toNat) (a.cap-c.1.toNat))]) e λ_ m=>
 (0<=c.1/\c.1<=(a.cap:Int))/\
 R (xc a.ptr c.1.toNat a.cap) m)) (d,qc xi (d+1)) i)
theorem rI(b:Sl)(a:cU)(c:@lX R h b a):ab xm 270 #[b,(.func (.func a.1) a.2.1 a.2.2)] h R:=az ac func270 (ak.tn (ak.tn (ak.tn (.two (ak.tn (.inn (.loop [(5,aU),(6,aU)] [(5,8),(16,36)] .n))) .n)))) c
noncomputable def nR(b:Int)(a:Addr):Prop:=
 kL h a λd=>
 ∃c,(d=dB c)/\
 bh h (c.add 5) λx3=>
 R (decide (b>=(x3.len:Int))) h
theorem vA(b:Int)(a:Addr)(c:@nR R h b a):ab xm 271 #[b,a] h R:=az ac func271 .n c
noncomputable def rX(g:aQ)(b:Int)(f:Int)(d:Sl)(c:Sl):Prop:=
 ∃D,(g=dB D)/\
 bh h (D.add 9) λx2=>
 aO x2 f λa3=>
 bh h (a3.add (f.toNat*1)) λF=>
 aJ (σ:=Int) (λe K i=>
 Br (e<(F.len:Int))
 (aO F e λI=>
 gj .u8 i (I.add (e.toNat*1)) λL=>
 aO d e λA=>
 gj .u8 i (A.add (e.toNat*1)) λE=>
 ∃k,(g=dB k)/\
 kL i k λz=>
 ae xm 280 #[z,(xb xj b),(xb xj L)] (.one (.sc (.int .u8))) i λq G=>
 (av.ok [(A.add (e.toNat*1),(xb xj E))] G)/\
 aO d e λv=>
 af xm (qf 5 (v.add (e.toNat*1)) (xb xj (qc xj ((qF (qk xj) E^^^(qF (qk xj) q)).toNat:Nat)))) G λ_ h3=>
 (av.ok [] h3)/\
 K (qc xi (e+1)) h3)
 (∃l,(g=dB l)/\
 bh i (l.add 10) λr=>
 aO r f λt=>
 bh i (t.add (f.toNat*1)) λm=>
 aJ (σ:=Int) (λa J n=>
 Br (a<(m.len:Int))
 (aO m a λu=>
 gj .u8 n (u.add (a.toNat*1)) λx=>
 aO c a λj=>
 gj .u8 n (j.add (a.toNat*1)) λo=>
 ∃p,(g=dB p)/\
 kL n p λs=>
 ae xm 280 #[s,(xb xj b),(xb xj x)] (.one (.sc (.int .u8))) n λy H=>
 (av.ok [(j.add (a.toNat*1),(xb xj o))] H)/\
 aO c a λw=>
 af xm (qf 5 (w.add (a.toNat*1)) (xb xj (qc xj ((qF (qk xj) o^^^(qF (qk xj) y)).toNat:Nat)))) H λ_ B=>
 (av.ok [] B)/\
 J (qc xi (a+1)) B)
 (R (.tuple #[]) n)) (0:Int) i)) (0:Int) h
theorem Dk(e:aQ)(a:Int)(d:Int)(c:Sl)(b:Sl)(f:@rX R h e a d c b):ab xm 272 #[e,(xb xj a),d,c,b] h R:=az ac func272 (.two (ak.tn (.inn (.loop [(22,aU)] [(10,12),(22,41)] .n))) (ak.tn (.inn (.loop [(49,aU)] [(12,14),(49,68)] .n)))) f
noncomputable def rg(b:Sl)(d:Int):Prop:=
 bg (σ:=Sl) (λf h3=>
 Br ((f.len:Int)==0)
 (R (xc none 0 0) h3)
 (R f h3))
 (λe=>
 aJ (σ:=Sl) (λa k c=>
 bg (σ:=Unit) (λ_ j=>
 (0<=(1:Int)/\(1:Int)<=(a.len:Int))/\
 k (⟨(if a.cap=(1:Int).toNat then a.ptr else a.ptr.map (·.add ((1:Int).toNat*1))),(a.len-(1:Int).toNat),(a.cap-(1:Int).toNat)⟩:Sl) j)
 (λg=>
 Br ((a.len:Int)>0) (aO a (0:Int) λi=>
 gj .u8 c (i.add ((0:Int).toNat*1)) λx3=>
 Br (x3==d)
 (g () c)
 (e (⟨a.ptr,a.len,a.cap⟩:Sl) c)) (e (⟨a.ptr,a.len,a.cap⟩:Sl) c))) (⟨b.ptr,b.len,b.cap⟩:Sl) h)
theorem Cn(b:Sl)(a:Int)(c:@rg R h b a):ab xm 273 #[b,(xb xj a)] h R:=az ac func273 (ak.tn (.two (.join [(0,cx)] [(0,1),(5,17)] (.inn (.loop [(0,cx)] [(0,1),(5,17)] (.two (.join [] [(5,15)] .n) .n)))) .n)) c
noncomputable def pu(b:Sl)(d:Int):Prop:=
 bg (σ:=Sl) (λi h3=>
 R i h3)
 (λe=>
 aJ (σ:=Sl) (λa k c=>
 bg (σ:=Unit) (λ_ j=>
 (0<=(qc xi ((a.len:Int)-1))/\(qc xi ((a.len:Int)-1))<=(a.cap:Int))/\
 k (⟨a.ptr,(qc xi ((a.len:Int)-1)).toNat,a.cap⟩:Sl) j)
 (λf=>
 Br ((a.len:Int)>0) (aO a (qc xi ((a.len:Int)-1)) λg=>
 gj .u8 c (g.add ((qc xi ((a.len:Int)-1)).toNat*1)) λx3=>
 Br (x3==d)
 (f () c)
 (e (⟨a.ptr,a.len,a.cap⟩:Sl) c)) (e (⟨a.ptr,a.len,a.cap⟩:Sl) c))) (⟨b.ptr,b.len,b.cap⟩:Sl) h)
theorem Ba(b:Sl)(a:Int)(c:@pu R h b a):ab xm 274 #[b,(xb xj a)] h R:=az ac func274 (ak.tn (.two (.join [(0,cx)] [(0,1),(5,23)] (.inn (.loop [(0,cx)] [(0,1),(5,23)] (.two (.join [] [(5,18)] .n) .n)))) .n)) c
noncomputable def Dl(f:aQ)(b:Int)(a:Int):Prop:=
 bg (σ:=Unit) (λ_ k=>
 ae xm 206 #[f] kM k λg c=>
 ∃a3,(g=dB a3)/\
 (0<=b/\b<((256:Nat):Int))/\
 aZ c ((a3.add 255).add (b.toNat*1)) λd=>
 ∃a5,(g=dB a5)/\
 (0<=a/\a<((256:Nat):Int))/\
 aZ c ((a5.add 255).add (a.toNat*1)) λe=>
 ((255:Int)≠0)/\
 ∃i,(g=dB i)/\
 (0<=(wg (qc xi (d+e)) 255)/\(wg (qc xi (d+e)) 255)<((255:Nat):Int))/\
 gj .u8 c (i.add ((wg (qc xi (d+e)) 255).toNat*1)) λl=>
 R (xb xj l) c)
 (λj=>
 Br (b==0) (R (xb xj 0) h) (Br (a==0)
 (R (xb xj 0) h)
 (j () h)))
theorem KO(b:aQ)(c:Int)(a:Int)(d:@Dl R h b c a):ab xm 280 #[b,(xb xj c),(xb xj a)] h R:=az ac func280 (ak.tn (.two (.join [] [(6,7),(8,14)] .n) .n)) d
noncomputable def Aj(a:Sl)(b:Int):Prop:=
 bg (σ:=Unit) (λ_ j=>
 aJ (σ:=Int) (λc i d=>
 Br (c<(a.len:Int))
 (aO a c λa5=>
 aZ d (a5.add (c.toNat*1)) λg=>
 Br (g>b)
 (R (qc xi (c+1)) d)
 (i (qc xi (c+1)) d))
 (R (xb xi 0) d)) (0:Int) j)
 (λe=>
 Br ((a.len:Int)==0) (R (xb xi 0) h) (Br (b<0) (R (xb xi 0) h) (aO a (qc xi ((a.len:Int)-1)) λf=>
 aZ h (f.add ((qc xi ((a.len:Int)-1)).toNat*1)) λx2=>
 Br (b>=x2)
 (R (xb xi 0) h)
 (e () h))))
theorem Hr(b:Sl)(a:Int)(c:@Aj R h b a):ab xm 281 #[b,a] h R:=az ac func281 (ak.tn (.two (.join [] [(4,5),(7,24)] .n) (.two (ak.tn (.inn (.loop [(26,aU)] [(4,7),(26,37)] .n))) .n))) c
end Go.Qw
namespace Go.Qw
open Go Go.Vc Go.Proofs
variable {R:Ki} {h:Heap}
noncomputable def uI(b:aQ)(a:Int):Prop:=
 bg (σ:=Unit) (λ_ f=>
 ae xm 224 #[b] (.one (.sc (.int .u32))) f λe d=>
 ((qc xl a)≠0)/\
 R (qc xi (wg (qc xl e) (qc xl a))) d)
 (λc=>
 Br (za b) (R (xb xi 0) h) (Br (a<=0)
 (R (xb xi 0) h)
 (c () h)))
theorem FN(b:aQ)(a:Int)(c:@uI R h b a):ab xm 282 #[b,a] h R:=az ac func282 (ak.tn (.two (.join [] [(4,11)] .n) .n)) c
noncomputable def Ak(a:Int)(b:Int):Prop:=
 ae xm 316 #[a] bB h λc i=>
 (a≠0)/\
 bg (σ:=Int) (λf d=>
 bg (σ:=Int) (λl k=>
 R l k)
 (λe=>
 (c≠0)/\
 Br (b<(qc xi (yb a c)))
 (((qc xi (a*b))≠0)/\
 e (qc xi (f+(qc xi (yb (qc xi (1048576*c)) (qc xi (a*b)))))) d)
 (Br (b==(qc xi (yb a c)))
 (ae xm 187 #[(xb xl (qc xl c))] bB d λj h3=>
 (a≠0)/\
 e (qc xi (f+(qc xi (yb (qc xi ((qc xi (1048576*c))*j)) a)))) h3)
 (e f d))))
 (λg=>
 Br (b>1)
 (((qc xi (b*(qc xi (b-1))))≠0)/\
 g (qc xi (yb 1048576 (qc xi (b*(qc xi (b-1)))))) i)
 (g (qc xi (yb 1048576 a)) i))
theorem Hs(b:Int)(a:Int)(c:@Ak R h b a):ab xm 283 #[b,a] h R:=az ac func283 (ak.tn (ak.tn (ak.tn (.two (.join [(6,aU)] [(6,7),(12,19)] .n) (.two (.join [(6,aU)] [(6,8),(19,48)] .n) .n))))) c
noncomputable def Ht(b:Nat×Nat)(d:Int):Prop:=
 ((4:Int)≠0)/\
 ((4:Int)≠0)/\
 aJ (σ:=((Nat×Nat))×Int) (λa f e=>
 Br (decide (a.2<(wg (qc xi ((wg d 4)+4)) 4)))
 (∃c:Nat×Nat,(kB xm .mul 235 (.tmp 11) (.const (.complex .f64 0 4607182418800017408)) (.complex .f64 a.1.1 a.1.2) (.complex .f64 0 4607182418800017408) (.complex .f64 c.1 c.2))/\
 f ((c.1,c.2),qc xi (a.2+1)) e)
 (R (.complex .f64 a.1.1 a.1.2) e)) ((b.1,b.2),(0:Int)) h
theorem Oz(a:Nat×Nat)(b:Int)(c:@Ht R h a b):ab xm 284 #[(.complex .f64 a.1 a.2),b] h R:=az ac func284 (ak.tn (.two (ak.tn (.inn (.loop [(0,(.sc (.cpx .f64))),(9,aU)] [(0,1),(9,14)] .n))) .n)) c
noncomputable def kc(b:Sl)(a:cU):Prop:=
 ae xm 321 #[b,(.func (.func a.1) a.2.1 a.2.2)] bB h λd c=>
 R (decide (d>=0)) c
theorem nT(b:Sl)(a:cU)(c:@kc R h b a):ab xm 298 #[b,(.func (.func a.1) a.2.1 a.2.2)] h R:=az ac func298 .n c
noncomputable def pv(b:Sl)(a:Addr):Prop:=
 aZ h a λc=>
 ae xm 84 #[b,c] ci h λd e=>
 R d e
theorem Bb(b:Sl)(a:Addr)(c:@pv R h b a):ab xm 299 #[b,a] h R:=az ac func299 .n c
noncomputable def ik(a:Sl)(g:Int)(p:Int)(b:cU):Prop:=
 aJ (σ:=Int) (λk s r=>
 Br (k<p)
 (aJ (σ:=Int) (λc v i=>
 bg (σ:=Unit) (λ_ o=>
 aO a (qc xi (c-1)) λa9=>
 ∃f:fh,an o (a9.add ((qc xi (c-1)).toNat*8)) 0 f/\
 aO a c λm=>
 ∃j:fh,an o (m.add (c.toNat*8)) 0 j/\
 aO a c λl=>
 af xm (qf 170 (l.add (c.toNat*8)) f) o λ_ t=>
 (av.ok [] t)/\
 aO a (qc xi (c-1)) λn=>
 af xm (qf 170 (n.add ((qc xi (c-1)).toNat*8)) j) t λ_ q=>
 (av.ok [] q)/\
 v (qc xi (c-1)) q)
 (λw=>
 Br (c>g) (aO a c λa3=>
 ∃d:fh,an i (a3.add (c.toNat*8)) 0 d/\
 aO a (qc xi (c-1)) λa5=>
 ∃e:fh,an i (a5.add ((qc xi (c-1)).toNat*8)) 0 e/\
 iM C b.1 (b.2.1.toList++[(xh #[d.1,d.2.1,d.2.2.1,d.2.2.2.1,d.2.2.2.2.1,d.2.2.2.2.2.1,(xb xk d.2.2.2.2.2.2.1),d.2.2.2.2.2.2.2]),(xh #[e.1,e.2.1,e.2.2.1,e.2.2.2.1,e.2.2.2.2.1,e.2.2.2.2.2.1,(xb xk e.2.2.2.2.2.2.1),e.2.2.2.2.2.2.2])]++b.2.2.toList) bB i λu h3=>
 (av.ok [] h3)/\
 Br (u<0)
 (w () h3)
 (s (qc xi (k+1)) h3)) ((av.ok [] i)/\
 s (qc xi (k+1)) i))) k r)
 (R (.tuple #[]) r)) (qc xi (g+1)) h
theorem lM(b:Sl)(d:Int)(c:Int)(a:cU)(e:@ik R h b d c a):ab xm 300 #[b,d,c,(.func (.func a.1) a.2.1 a.2.2)] h R:=az ac func300 (ak.tn (.inn (.loop [(8,aU)] [(8,10),(12,53)] (ak.tn (.two (.inn (ak.tn (.inn (.loop [(9,aU)] [(9,10),(18,53)] (.two (.join [] [(18,35)] .n) .n))))) .n))))) e
noncomputable def jn(a:Sl)(d:Int)(e:Int)(f:Int)(b:cU):Prop:=
 Br ((qc xi (e-d))==1)
 (aJ (σ:=Int×Int) (λo K1 A=>
 Br (o.1<o.2)
 ((0<=(1:Int))/\
 aO a (qc xi (q9 (qc xl (qc xi (o.1+o.2))) (2^min (1:Int).toNat (qk xl)))) λa2=>
 ∃x3:fh,an A (a2.add ((qc xi (q9 (qc xl (qc xi (o.1+o.2))) (2^min (1:Int).toNat (qk xl)))).toNat*8)) 0 x3/\
 aO a d λa4=>
 ∃q:fh,an A (a4.add (d.toNat*8)) 0 q/\
 iM C b.1 (b.2.1.toList++[(xh #[x3.1,x3.2.1,x3.2.2.1,x3.2.2.2.1,x3.2.2.2.2.1,x3.2.2.2.2.2.1,(xb xk x3.2.2.2.2.2.2.1),x3.2.2.2.2.2.2.2]),(xh #[q.1,q.2.1,q.2.2.1,q.2.2.2.1,q.2.2.2.2.1,q.2.2.2.2.2.1,(xb xk q.2.2.2.2.2.2.1),q.2.2.2.2.2.2.2])]++b.2.2.toList) bB A λr6 S=>
 (av.ok [] S)/\
 Br (r6<0)
 (K1 (qc xi ((qc xi (q9 (qc xl (qc xi (o.1+o.2))) (2^min (1:Int).toNat (qk xl))))+1),o.2) S)
 (K1 (o.1,qc xi (q9 (qc xl (qc xi (o.1+o.2))) (2^min (1:Int).toNat (qk xl)))) S))
 (aJ (σ:=Int) (λp K2 h3=>
 Br (p<(qc xi (o.1-1)))
 (aO a (qc xi (p+1)) λa8=>
 ∃Y:fh,an h3 (a8.add ((qc xi (p+1)).toNat*8)) 0 Y/\
 aO a p λI=>
 ∃y:fh,an h3 (I.add (p.toNat*8)) 0 y/\
 aO a p λE=>
 af xm (qf 170 (E.add (p.toNat*8)) Y) h3 λ_ h4=>
 (av.ok [] h4)/\
 aO a (qc xi (p+1)) λK=>
 af xm (qf 170 (K.add ((qc xi (p+1)).toNat*8)) y) h4 λ_ h5=>
 (av.ok [] h5)/\
 K2 (qc xi (p+1)) h5)
 (R (.tuple #[]) h3)) d A)) (e,f) h)
 (Br ((qc xi (f-e))==1)
 (aJ (σ:=Int×Int) (λg K3 z=>
 Br (g.1<g.2)
 ((0<=(1:Int))/\
 aO a e λL=>
 ∃l:fh,an z (L.add (e.toNat*8)) 0 l/\
 aO a (qc xi (q9 (qc xl (qc xi (g.1+g.2))) (2^min (1:Int).toNat (qk xl)))) λM=>
 ∃m:fh,an z (M.add ((qc xi (q9 (qc xl (qc xi (g.1+g.2))) (2^min (1:Int).toNat (qk xl)))).toNat*8)) 0 m/\
 iM C b.1 (b.2.1.toList++[(xh #[l.1,l.2.1,l.2.2.1,l.2.2.2.1,l.2.2.2.2.1,l.2.2.2.2.2.1,(xb xk l.2.2.2.2.2.2.1),l.2.2.2.2.2.2.2]),(xh #[m.1,m.2.1,m.2.2.1,m.2.2.2.1,m.2.2.2.2.1,m.2.2.2.2.2.1,(xb xk m.2.2.2.2.2.2.1),m.2.2.2.2.2.2.2])]++b.2.2.toList) bB z λT U=>
 (av.ok [] U)/\
 Br (!(decide (T<0)))
 (K3 (qc xi ((qc xi (q9 (qc xl (qc xi (g.1+g.2))) (2^min (1:Int).toNat (qk xl))))+1),g.2) U)
 (K3 (g.1,qc xi (q9 (qc xl (qc xi (g.1+g.2))) (2^min (1:Int).toNat (qk xl)))) U))
 (aJ (σ:=Int) (λi K4 h8=>
 Br (i>g.1)
 (aO a (qc xi (i-1)) λD=>
 ∃w:fh,an h8 (D.add ((qc xi (i-1)).toNat*8)) 0 w/\
 aO a i λV=>
 ∃v:fh,an h8 (V.add (i.toNat*8)) 0 v/\
 aO a i λa25=>
 af xm (qf 170 (a25.add (i.toNat*8)) w) h8 λ_ h9=>
 (av.ok [] h9)/\
 aO a (qc xi (i-1)) λP=>
 af xm (qf 170 (P.add ((qc xi (i-1)).toNat*8)) v) h9 λ_ x=>
 (av.ok [] x)/\
 K4 (qc xi (i-1)) x)
 (R (.tuple #[]) h8)) e z)) (d,e) h)
 ((0<=(1:Int))/\
 bg (σ:=Int×Int) (λu H=>
 aJ (σ:=Int×Int) (λc X n=>
 Br (c.1<c.2)
 ((0<=(1:Int))/\
 aO a (qc xi ((qc xi ((qc xi ((qc xi (q9 (qc xl (qc xi (d+f))) (2^min (1:Int).toNat (qk xl))))+e))-1))-(qc xi (q9 (qc xl (qc xi (c.1+c.2))) (2^min (1:Int).toNat (qk xl)))))) λQ=>
 ∃j:fh,an n (Q.add ((qc xi ((qc xi ((qc xi ((qc xi (q9 (qc xl (qc xi (d+f))) (2^min (1:Int).toNat (qk xl))))+e))-1))-(qc xi (q9 (qc xl (qc xi (c.1+c.2))) (2^min (1:Int).toNat (qk xl)))))).toNat*8)) 0 j/\
 aO a (qc xi (q9 (qc xl (qc xi (c.1+c.2))) (2^min (1:Int).toNat (qk xl)))) λG=>
 ∃k:fh,an n (G.add ((qc xi (q9 (qc xl (qc xi (c.1+c.2))) (2^min (1:Int).toNat (qk xl)))).toNat*8)) 0 k/\
 iM C b.1 (b.2.1.toList++[(xh #[j.1,j.2.1,j.2.2.1,j.2.2.2.1,j.2.2.2.2.1,j.2.2.2.2.2.1,(xb xk j.2.2.2.2.2.2.1),j.2.2.2.2.2.2.2]),(xh #[k.1,k.2.1,k.2.2.1,k.2.2.2.1,k.2.2.2.2.1,k.2.2.2.2.2.1,(xb xk k.2.2.2.2.2.2.1),k.2.2.2.2.2.2.2])]++b.2.2.toList) bB n λB r=>
 (av.ok [] r)/\
 Br (!(decide (B<0)))
 (X (qc xi ((qc xi (q9 (qc xl (qc xi (c.1+c.2))) (2^min (1:Int).toNat (qk xl))))+1),c.2) r)
 (X (c.1,qc xi (q9 (qc xl (qc xi (c.1+c.2))) (2^min (1:Int).toNat (qk xl)))) r))
 (bg (σ:=Unit) (λ_ t=>
 bg (σ:=Unit) (λ_ s=>
 Br (decide ((qc xi (q9 (qc xl (qc xi (d+f))) (2^min (1:Int).toNat (qk xl))))<(qc xi ((qc xi ((qc xi (q9 (qc xl (qc xi (d+f))) (2^min (1:Int).toNat (qk xl))))+e))-c.1)))) (Br (decide ((qc xi ((qc xi ((qc xi (q9 (qc xl (qc xi (d+f))) (2^min (1:Int).toNat (qk xl))))+e))-c.1))<f))
 (ae xm 301 #[a,(qc xi (q9 (qc xl (qc xi (d+f))) (2^min (1:Int).toNat (qk xl)))),(qc xi ((qc xi ((qc xi (q9 (qc xl (qc xi (d+f))) (2^min (1:Int).toNat (qk xl))))+e))-c.1)),f,(.func (.func b.1) b.2.1 b.2.2)] jm s λ_ F=>
 R (.tuple #[]) F)
 (R (.tuple #[]) s)) (R (.tuple #[]) s))
 (λW=>
 Br (d<c.1) (Br (decide (c.1<(qc xi (q9 (qc xl (qc xi (d+f))) (2^min (1:Int).toNat (qk xl))))))
 (ae xm 301 #[a,d,c.1,(qc xi (q9 (qc xl (qc xi (d+f))) (2^min (1:Int).toNat (qk xl)))),(.func (.func b.1) b.2.1 b.2.2)] jm t λ_ O=>
 W () O)
 (W () t)) (W () t)))
 (λN=>
 Br (c.1<e) (Br (decide (e<(qc xi ((qc xi ((qc xi (q9 (qc xl (qc xi (d+f))) (2^min (1:Int).toNat (qk xl))))+e))-c.1))))
 (ae xm 322 #[a,c.1,e,(qc xi ((qc xi ((qc xi (q9 (qc xl (qc xi (d+f))) (2^min (1:Int).toNat (qk xl))))+e))-c.1)),(.func (.func b.1) b.2.1 b.2.2)] jm n λ_ J=>
 N () J)
 (N () n)) (N () n)))) (u.1,u.2) H)
 (λZ=>
 Br (decide (e>(qc xi (q9 (qc xl (qc xi (d+f))) (2^min (1:Int).toNat (qk xl))))))
 (Z (qc xi ((qc xi ((qc xi (q9 (qc xl (qc xi (d+f))) (2^min (1:Int).toNat (qk xl))))+e))-f),qc xi (q9 (qc xl (qc xi (d+f))) (2^min (1:Int).toNat (qk xl)))) h)
 (Z (d,e) h))))
theorem mW(b:Sl)(e:Int)(c:Int)(d:Int)(a:cU)(f:@jn R h b e c d a):ab xm 301 #[b,e,c,d,(.func (.func a.1) a.2.1 a.2.2)] h R:=az ac func301 (.two (ak.tn (.two (ak.tn (ak.tn (.two (.inn (.loop [(10,aU),(11,aU)] [(10,13),(31,54)] .n)) (.two (ak.tn (.inn (.loop [(13,aU)] [(13,14),(55,77)] .n))) .n)))) .n)) (.two (ak.tn (.two (ak.tn (ak.tn (.two (.inn (.loop [(14,aU),(15,aU)] [(14,17),(83,107)] .n)) (.two (ak.tn (.inn (.loop [(17,aU)] [(17,18),(108,129)] .n))) .n)))) .n)) (ak.tn (ak.tn (ak.tn (.two (.join [(20,aU),(21,aU)] [(20,22),(138,147)] .n) (ak.tn (.two (.inn (.loop [(20,aU),(21,aU)] [(20,22),(23,24),(149,175)] .n)) (ak.tn (.two (.join [] [(178,192)] .n) (.two (.join [] [(192,206)] .n) .n))))))))))) f
noncomputable def MF(a:aQ):Prop:=
 Br (za a)
 (ae xm 65 #[] kM h λc b=>
 R c b)
 (R a h)
theorem Th(a:aQ)(b:@MF R h a):ab xm 302 #[a] h R:=az ac func302 .n b
noncomputable def tQ(c:aQ):Prop:=
 ∃m,(c=dB m)/\
 bh h m λx2=>
 aJ (σ:=Int) (λe r j=>
 Br (e<(x2.len:Int))
 (aO x2 e λa4=>
 ∃o:Sl×Sl,an j (a4.add (e.toNat*2)) 0 o/\
 aP xm (qO 275 true (.tuple #[])) j λl q=>
 af xm (qf 275 l o) q λ_ h3=>
 bh h3 l λp=>
 aJ (σ:=Int×Int) (λa n b=>
 Br (a.2<(p.len:Int))
 (aO p a.2 λa9=>
 aZ b (a9.add (a.2.toNat*1)) λd=>
 ∃f,(c=dB f)/\
 bh b (f.add 1) λk=>
 aO k d λi=>
 rN b (i.add (d.toNat*1)) λg=>
 Br (!g)
 (n (qc xi (a.1+1),qc xi (a.2+1)) b)
 (n (a.1,qc xi (a.2+1)) b))
 (Br (a.1==1)
 (R e b)
 (r (qc xi (e+1)) b))) ((0:Int),(0:Int)) h3)
 (R (xb xi (-1:Int)) j)) (0:Int) h
theorem Eu(a:aQ)(b:@tQ R h a):ab xm 306 #[a] h R:=az ac func306 (ak.tn (.two (ak.tn (.inn (.loop [(13,aU)] [(2,6),(7,8),(13,40)] (ak.tn (ak.tn (.two (.inn (ak.tn (ak.tn (.two (ak.tn (.inn (.loop [(5,aU),(21,aU)] [(5,6),(7,8),(21,36)] .n))) .n)))) .n)))))) .n)) b
noncomputable def Fz(b:Int)(c:Sl):Prop:=
 bg (σ:=Unit) (λ_ o=>
 aJ (σ:=Int) (λd n f=>
 Br (d<(c.len:Int))
 (aO c d λa3=>
 bh f (a3.add (d.toNat*1)) λe=>
 aJ (σ:=Int) (λa i h3=>
 Br (a<(e.len:Int))
 (aO e a λj=>
 aZ h3 (j.add (a.toNat*1)) λg=>
 Br (g<0) (R eS h3) (Br (g>=b) (R eS h3) (Br (a>0) (aO e (qc xi (a-1)) λm=>
 aZ h3 (m.add ((qc xi (a-1)).toNat*1)) λl=>
 Br (l>=g)
 (R eS h3)
 (i (qc xi (a+1)) h3)) (i (qc xi (a+1)) h3))))
 (n (qc xi (d+1)) h3)) (0:Int) f)
 (R true f)) (0:Int) o)
 (λk=>
 Br (b<0) (R eS h) (Br (b>64)
 (R eS h)
 (k () h)))
theorem MG(a:Int)(b:Sl)(c:@Fz R h a b):ab xm 307 #[a,b] h R:=az ac func307 (ak.tn (.two (.join [] [(4,5),(9,15)] .n) (.two (ak.tn (.inn (.loop [(17,aU)] [(4,5),(6,9),(17,50)] (ak.tn (ak.tn (.two (.inn (ak.tn (ak.tn (.inn (.loop [(23,aU)] [(4,5),(7,9),(23,49)] .n))))) .n)))))) .n))) c
noncomputable def lY(b:Sl)(a:Bool):Prop:=
 ae xm 324 #[b,a] bB h λd c=>
 R (decide (d>=0)) c
theorem rJ(b:Sl)(a:Bool)(c:@lY R h b a):ab xm 308 #[b,a] h R:=az ac func308 .n c
noncomputable def rh(d:aQ):Prop:=
 aP xm (qO 332 true (.tuple #[])) h λg l=>
 ∃k,(d=dB k)/\
 bh l k λx3=>
 aJ (σ:=Int) (λc m e=>
 Br (c<(x3.len:Int))
 (aO x3 c λa5=>
 bh e (a5.add (c.toNat*1)) λq=>
 ∃j,(d=dB j)/\
 bh e (j.add 2) λp=>
 aO p c λa9=>
 rN e (a9.add (c.toNat*1)) λi=>
 Br i
 (m (qc xi (c+1)) e)
 (ae xm 325 #[d,q] (.many [aU,kN]) e λf h3=>
 Br f.2
 (af xm (qf 332 g (xh #[c,f.1])) h3 λ_ n=>
 ∃a:Int×Int,an n g 0 a/\
 R (.tuple #[a,true]) n)
 (m (qc xi (c+1)) h3)))
 (af xm (qf 332 g (xh #[(xb xi 0),(xb xi 0)])) e λ_ o=>
 ∃b:Int×Int,an o g 0 b/\
 R (.tuple #[b,eS]) o)) (0:Int) l
theorem Co(a:aQ)(b:@rh R h a):ab xm 309 #[a] h R:=az ac func309 (ak.tn (.two (ak.tn (.inn (.loop [(13,aU)] [(3,8),(13,36)] .n))) .n)) b
noncomputable def ri(b:aQ):Prop:=
 ∃y,(b=dB y)/\
 bh h (y.add 1) λx2=>
 aA xm (qG 22 (xb xi (x2.len:Int)) (xb xi (x2.len:Int))) aI h λv3 A=>
 ∃a4,(b=dB a4)/\
 bh A a4 λD=>
 aJ (σ:=Int) (λe F k=>
 Br (e<(D.len:Int))
 (aO D e λE=>
 bh k (E.add (e.toNat*1)) λB=>
 aJ (σ:=Int) (λi z h3=>
 Br (i<(B.len:Int))
 (aO B i λo=>
 aZ h3 (o.add (i.toNat*1)) λc=>
 ∃f,(b=dB f)/\
 bh h3 (f.add 2) λp=>
 aO p e λq=>
 rN h3 (q.add (e.toNat*1)) λm=>
 Br (!m)
 (aO v3 c λn=>
 aZ h3 (n.add (c.toNat*1)) λt=>
 aO v3 c λu=>
 af xm (qf 3 (u.add (c.toNat*1)) (qc xi (t+1))) h3 λ_ G=>
 z (qc xi (i+1)) G)
 (z (qc xi (i+1)) h3))
 (F (qc xi (e+1)) h3)) (0:Int) k)
 (∃g,(b=dB g)/\
 bh k (g.add 1) λj=>
 aJ (σ:=Int×Int) (λa l d=>
 Br (a.2<(j.len:Int))
 (aO j a.2 λa22=>
 rN d (a22.add (a.2.toNat*1)) λw=>
 Br w (Br (a.1<0) (l (a.2,qc xi (a.2+1)) d) (aO v3 a.2 λs=>
 aZ d (s.add (a.2.toNat*1)) λv=>
 aO v3 a.1 λr=>
 aZ d (r.add (a.1.toNat*1)) λx=>
 Br (v>x)
 (l (a.2,qc xi (a.2+1)) d)
 (l (a.1,qc xi (a.2+1)) d))) (l (a.1,qc xi (a.2+1)) d))
 (R a.1 d)) ((-1:Int),(0:Int)) k)) (0:Int) A
theorem Cp(a:aQ)(b:@ri R h a):ab xm 310 #[a] h R:=az ac func310 (ak.tn (ak.tn (.two (ak.tn (.inn (.loop [(22,aU)] [(4,6),(7,8),(22,49)] (ak.tn (ak.tn (.two (.inn (ak.tn (ak.tn (.inn (.loop [(29,aU)] [(7,8),(29,48)] .n))))) .n)))))) (ak.tn (.two (ak.tn (.inn (.loop [(8,aU),(54,aU)] [(8,11),(54,77)] .n))) .n))))) b
noncomputable def jd(c:Sl)(a:cU):Prop:=
 aJ (σ:=Int) (λb f d=>
 Br (b<(c.len:Int))
 (aO c b λg=>
 ∃x3:Int×Int,an d (g.add (b.toNat*2)) 0 x3/\
 iM C a.1 (a.2.1.toList++[(xh #[x3.1,x3.2])]++a.2.2.toList) ci d λi e=>
 Br i
 (R b e)
 (f (qc xi (b+1)) e))
 (R (xb xi (-1:Int)) d)) (0:Int) h
theorem mN(b:Sl)(a:cU)(c:@jd R h b a):ab xm 311 #[b,(.func (.func a.1) a.2.1 a.2.2)] h R:=az ac func311 (ak.tn (.two (ak.tn (.inn (.loop [(8,aU)] [(4,6),(8,19)] .n))) .n)) c
noncomputable def Dm(b:Int):Prop:=
 aJ (σ:=Int) (λa d c=>
 Br ((qc xi (a*a))<b)
 (d (qc xi (a+1)) c)
 (R a c)) (0:Int) h
theorem KP(a:Int)(b:@Dm R h a):ab xm 316 #[a] h R:=az ac func316 (ak.tn (ak.tn (.two (.inn (.loop [(3,aU)] [(3,11)] .n)) .n))) b
noncomputable def lq(c:Sl)(a:cU):Prop:=
 aJ (σ:=Int) (λb f d=>
 Br (b<(c.len:Int))
 (aO c b λg=>
 bh d (g.add (b.toNat*1)) λx3=>
 iM C a.1 (a.2.1.toList++[(xc x3.ptr x3.len x3.cap)]++a.2.2.toList) ci d λi e=>
 Br i
 (R b e)
 (f (qc xi (b+1)) e))
 (R (xb xi (-1:Int)) d)) (0:Int) h
theorem pD(b:Sl)(a:cU)(c:@lq R h b a):ab xm 321 #[b,(.func (.func a.1) a.2.1 a.2.2)] h R:=az ac func321 (ak.tn (.two (ak.tn (.inn (.loop [(8,aU)] [(4,6),(8,19)] .n))) .n)) c
noncomputable def jP(b:Sl)(g:Int)(d:Int)(f:Int)(a:cU):Prop:=
 aJ (σ:=Int×Int) (λc i e=>
 Br (c.1 !=c.2)
 (Br (c.1>c.2)
 (ae xm 329 #[b,(qc xi (d-c.1)),d,c.2,(.func (.func a.1) a.2.1 a.2.2)] jm e λ_ k=>
 i (qc xi (c.1-c.2),c.2) k)
 (ae xm 329 #[b,(qc xi (d-c.1)),(qc xi ((qc xi (d+c.2))-c.1)),c.1,(.func (.func a.1) a.2.1 a.2.2)] jm e λ_ h3=>
 i (c.1,qc xi (c.2-c.1)) h3))
 (ae xm 329 #[b,(qc xi (d-c.1)),d,c.1,(.func (.func a.1) a.2.1 a.2.2)] jm e λ_ j=>
 R (.tuple #[]) j)) (qc xi (d-g),qc xi (f-d)) h
theorem nI(b:Sl)(e:Int)(c:Int)(d:Int)(a:cU)(f:@jP R h b e c d a):ab xm 322 #[b,e,c,d,(.func (.func a.1) a.2.1 a.2.2)] h R:=az ac func322 (ak.tn (ak.tn (.two (.inn (.loop [(10,aU),(11,aU)] [(10,12),(18,50)] .n)) .n))) f
noncomputable def np(b:Sl)(d:Bool):Prop:=
 aJ (σ:=Int) (λa e c=>
 Br (a<(b.len:Int))
 (aO b a λf=>
 rN c (f.add (a.toNat*1)) λx3=>
 Br (d==x3)
 (R a c)
 (e (qc xi (a+1)) c))
 (R (xb xi (-1:Int)) c)) (0:Int) h
theorem uo(b:Sl)(a:Bool)(c:@np R h b a):ab xm 324 #[b,a] h R:=az ac func324 (ak.tn (.two (ak.tn (.inn (.loop [(8,aU)] [(4,6),(8,19)] .n))) .n)) c
noncomputable def ou(d:aQ)(c:Sl):Prop:=
 aJ (σ:=bS) (λa e b=>
 Br (a.2.2<(c.len:Int))
 (aO c a.2.2 λg=>
 aZ b (g.add (a.2.2.toNat*1)) λx3=>
 ∃a4,(d=dB a4)/\
 bh b (a4.add 1) λi=>
 aO i x3 λf=>
 rN b (f.add (x3.toNat*1)) λj=>
 Br j
 (e (x3,qc xi (a.2.1+1),qc xi (a.2.2+1)) b)
 (e (a.1,a.2.1,qc xi (a.2.2+1)) b))
 (R (.tuple #[a.1,(xg (a.2.1==1))]) b)) ((0:Int),(0:Int),(0:Int)) h
theorem Al(b:aQ)(a:Sl)(c:@ou R h b a):ab xm 325 #[b,a] h R:=az ac func325 (ak.tn (ak.tn (.two (ak.tn (.inn (.loop [(6,aU),(7,aU),(12,aU)] [(6,8),(9,10),(12,27)] .n))) .n))) c
noncomputable def je(a:Sl)(d:Int)(c:Int)(g:Int)(f:cU):Prop:=
 aJ (σ:=Int) (λb l e=>
 Br (b<g)
 (aO a (qc xi (c+b)) λn=>
 ∃x3:fh,an e (n.add ((qc xi (c+b)).toNat*8)) 0 x3/\
 aO a (qc xi (d+b)) λa4=>
 ∃j:fh,an e (a4.add ((qc xi (d+b)).toNat*8)) 0 j/\
 aO a (qc xi (d+b)) λk=>
 af xm (qf 170 (k.add ((qc xi (d+b)).toNat*8)) x3) e λ_ i=>
 (av.ok [] i)/\
 aO a (qc xi (c+b)) λm=>
 af xm (qf 170 (m.add ((qc xi (c+b)).toNat*8)) j) i λ_ h3=>
 (av.ok [] h3)/\
 l (qc xi (b+1)) h3)
 (R (.tuple #[]) e)) (0:Int) h
theorem mO(b:Sl)(e:Int)(d:Int)(c:Int)(a:cU)(f:@je R h b e d c a):ab xm 329 #[b,e,d,c,(.func (.func a.1) a.2.1 a.2.2)] h R:=az ac func329 (ak.tn (.inn (.loop [(10,aU)] [(10,38)] .n))) f
end Go.Qw
