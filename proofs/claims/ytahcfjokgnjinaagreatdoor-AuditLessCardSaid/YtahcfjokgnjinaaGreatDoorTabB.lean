/- Lemmas for the proof of the law; no condition. -/
import Derived.Test.YtahcfjokgnjinaaGreatDoorTabA
set_option linter.unusedVariables false
open Go.Proofs.Tryz renaming prog -> xB
open Go.Value renaming agg -> xw, bool -> xv, int -> xq, slice -> xr
open Go.IntKind renaming bits -> qk, i64 -> xx, u32 -> xz, u64 -> xA, u8 -> xy, wrap -> qc
open Go.Instr renaming alloc -> qL, box -> qM, buildSlice -> qq, makeSlice -> qF, storeAt -> qf
open Go.Builtin renaming append_ -> qt, clear_ -> yw
open Option renaming isNone -> qT
open BitVec renaming ofInt -> qD
open Int renaming fdiv -> qX, tdiv -> wA, tmod -> wk
open Go.Proofs.Tryz
set_option maxRecDepth 1000000
open Option renaming some -> dB, none -> eH
open Bool renaming true -> eR, false -> eS
namespace Go.Qw
open Go Go.Vc Go.Proofs
variable {R:Hb} {h:Heap}
noncomputable def io(c:Sl)(a:cE):Prop:=
 aL (σ:=Int) (λb g d=>
 Br (b<(c.len:Int))
 (aQ c b λi=>
 ∃x3:Int×Sl,aq d (i.add (b.toNat*2)) 0 x3/\
 gY C a.1 (a.2.1.toList++[(xw #[x3.1,x3.2])]++a.2.2.toList) bN d λf e=>
 Br f
 (R b e)
 (g (qc xx (b+1)) e))
 (R (xq xx (-1:Int)) d)) (0:Int) h
theorem lV(b:Sl)(a:cE)(c:@io R h b a):ac xB 224 #[b,(.func (.func a.1) a.2.1 a.2.2)] h R:=aw af func224 (al.tn (.two (al.tn (.inn (.loop [(8,aZ)] [(4,6),(8,19)] .n))) .n)) c
noncomputable def KI(b:Int)(d:Sl):Prop:=
 ae xB 277 #[b,d] bN h λM w=>
 Br (!M)
 (R (.tuple #[(xr eH 0 0),(xr eH 0 0),(xr eH 0 0),(xq xx 1)]) w)
 (bg (σ:=aM) (λp h8=>
 ae xB 278 #[p] iF h8 λ_ Q=>
 aL (σ:=Sl×Int) (λa J e=>
 Br (a.2<(d.len:Int))
 (aQ d a.2 λq=>
 ∃n:Sl×Sl,aq e (q.add (a.2.toNat*2)) 0 n/\
 aT xB (qL 289 eR (.tuple #[])) e λi x=>
 ag xB (qf 289 i n) x λ_ j=>
 ∃m:Sl×Sl,aq j i 0 m/\
 ae xB 279 #[p,m] (.one (.agg [.slc,.slc])) j λD t=>
 aT xB (qL 289 eR (.tuple #[])) t λf A=>
 ag xB (qf 289 f D) A λ_ c=>
 bj c f λy=>
 Br ((y.len:Int)>0)
 (∃o:Sl×Sl,aq c f 0 o/\
 aB xB (qq 287 1 #[(0,o)]) aI c λu r=>
 aB xB (qt #[287,287] 287 #[a.1,u]) aI r λg E=>
 J ((⟨g.ptr,g.len,g.cap⟩:Sl),qc xx (a.2+1)) E)
 (bj c (f.add 1) λB=>
 ae xB 280 #[B] bN c λs k=>
 Br (!s)
 (R (.tuple #[(xr eH 0 0),(xr eH 0 0),(xr eH 0 0),(xq xx 10)]) k)
 (J ((⟨a.1.ptr,a.1.len,a.1.cap⟩:Sl),qc xx (a.2+1)) k)))
 (∃l,(p=dB l)/\
 bj e (l.add 1) λz=>
 ∃a25,(p=dB a25)/\
 bj e (a25.add 2) λv=>
 R (.tuple #[z,v,a.1,(xq xx 0)]) e)) ((⟨eH,0,0⟩:Sl),(0:Int)) Q)
 (λK=>
 (aB xB (qF 296 b b) aI w λO I=>
 (az.ok [] I)/\
 aB xB (qF 56 b b) aI I λv3 h3=>
 (az.ok [] h3)/\
 aT xB (qM 351 (xw #[d,O,v3])) h3 λa4 L=>
 (az.ok [] L)/\
 K (dB a4) L)/\(aB xB (qF 56 b b) aI w λv5 H=>
 (az.ok [] H)/\
 aB xB (qF 296 b b) aI H λN F=>
 (az.ok [] F)/\
 aT xB (qM 351 (xw #[d,N,v5])) F λP G=>
 (az.ok [] G)/\
 K (dB P) G)))
theorem Sj(a:Int)(b:Sl)(c:@KI R h a b):ac xB 225 #[a,b] h R:=aw af func225 (al.tn (al.tn (.two (.join [(8,FX)] [(8,9),(16,23)] .n) (al.tn (.two (al.tn (.inn (.loop [(6,cy),(27,aZ)] [(4,8),(10,12),(27,47)] .n))) .n))))) c
noncomputable def pQ(A:aM)(b:Sl):Prop:=
 aT xB (qM 290 A) h λm y=>
 jU y m λx2=>
 ∃a3,(x2=dB a3)/\
 bj y (a3.add 5) λJ=>
 aL (σ:=Sl×Int) (λd S F=>
 Br (d.2<(J.len:Int))
 (aQ J d.2 λQ=>
 ∃M:Sl×Sl,aq F (Q.add (d.2.toNat*2)) 0 M/\
 aT xB (qL 289 eR (.tuple #[])) F λK h3=>
 ag xB (qf 289 K M) h3 λ_ N=>
 bj N K λU=>
 aB xB (qq 37 1 #[(0,U)]) aI N λt P=>
 aB xB (qt #[37,37] 37 #[d.1,t]) aI P λe O=>
 S ((⟨e.ptr,e.len,e.cap⟩:Sl),qc xx (d.2+1)) O)
 (aL (σ:=Sl×Int) (λa L n=>
 Br (a.2<(b.len:Int))
 (aQ b a.2 λs=>
 sB n (s.add (a.2.toNat*1)) λE=>
 Br E
 (aB xB (qq 22 1 #[(0,a.2)]) aI n λr h8=>
 aB xB (qq 37 1 #[(0,r)]) aI h8 λw T=>
 aB xB (qt #[37,37] 37 #[a.1,w]) aI T λf I=>
 L ((⟨f.ptr,f.len,f.cap⟩:Sl),qc xx (a.2+1)) I)
 (L ((⟨a.1.ptr,a.1.len,a.1.cap⟩:Sl),qc xx (a.2+1)) n))
 (ae xB 281 #[(xq xx (b.len:Int)),a.1] (.many [(.agg [.slc,.slc,.slc]),iR]) n λD z=>
 aT xB (qL 293 eR (.tuple #[])) z λc v=>
 ag xB (qf 293 c D.1) v λ_ k=>
 bj k c λu=>
 ae xB 282 #[u,(.func (.func 283) #[] #[m])] aI k λB H=>
 ag xB (qf 291 c B) H λ_ j=>
 bj j (c.add 2) λo=>
 ae xB 284 #[o,(.func (.func 285) #[] #[m])] aI j λp q=>
 ag xB (qf 22 (c.add 2) p) q λ_ g=>
 jU g m λG=>
 ∃l:Sl×Sl×Sl,aq g c 0 l/\
 ∃i,(G=dB i)/\
 ag xB (qf 293 (i.add 6) l) g λ_ x=>
 R (.tuple #[]) x)) ((⟨d.1.ptr,d.1.len,d.1.cap⟩:Sl),(0:Int)) F)) ((⟨eH,0,0⟩:Sl),(0:Int)) y
theorem BE(b:aM)(a:Sl)(c:@pQ R h b a):ac xB 226 #[b,a] h R:=aw af func226 (al.tn (al.tn (.two (al.tn (.inn (.loop [(4,cy),(16,aZ)] [(4,5),(6,7),(16,26)] .n))) (.two (al.tn (.inn (.loop [(4,cy),(28,aZ)] [(4,5),(7,9),(28,40)] .n))) .n)))) c
noncomputable def pR(a:aM):Prop:=
 ∃a1,(a=dB a1)/\
 bj h ((a1.add 6).add 1) λx2=>
 bg (σ:=Unit) (λ_ ab=>
 ∃ax,(a=dB ax)/\
 bj ab ((ax.add 6).add 1) λZ=>
 aL (σ:=Int) (λg K2 d=>
 Br (g<(Z.len:Int))
 (aQ Z g λcl=>
 be d (cl.add (g.toNat*1)) λb=>
 bg (σ:=Unit) (λ_ y=>
 ∃a4,(a=dB a4)/\
 bj y (a4.add 9) λcc=>
 aQ cc b λc0=>
 bj y (c0.add (b.toNat*1)) λb0=>
 aQ b0 g λb7=>
 ag xB (qf 5 (b7.add (g.toNat*1)) (xq xy 1)) y λ_ b9=>
 K2 (qc xx (g+1)) b9)
 (λK3=>
 ∃j,(a=dB j)/\
 bj d (j.add 9) λi=>
 ∃a25,(a=dB a25)/\
 bj d (a25.add 10) λf=>
 ∃u,(a=dB u)/\
 be d ((u.add 1).add 2) λe=>
 (aB xB (qF 71 (xq xx (x2.len:Int)) (xq xx (x2.len:Int))) aI d λbd x=>
 (az.ok [((u.add 1).add 2,e),(a25.add 10,f),(j.add 9,i)] x)/\
 aQ i b λW=>
 (aB xB (qF 71 e e) aI x λb5 I=>
 (az.ok [(a25.add 10,f),(j.add 9,i)] I)/\
 ag xB (qf 71 (W.add (b.toNat*1)) bd) I λ_ Y=>
 (az.ok [] Y)/\
 aQ f b λb4=>
 ag xB (qf 71 (b4.add (b.toNat*1)) b5) Y λ_ ay=>
 (az.ok [] ay)/\
 K3 () ay)/\(ag xB (qf 71 (W.add (b.toNat*1)) bd) x λ_ am=>
 (az.ok [] am)/\
 aB xB (qF 71 e e) aI am λbr N=>
 (az.ok [] N)/\
 aQ f b λc1=>
 ag xB (qf 71 (c1.add (b.toNat*1)) br) N λ_ U=>
 (az.ok [] U)/\
 K3 () U))/\(aB xB (qF 71 e e) aI d λcf K=>
 (az.ok [(a25.add 10,f),(j.add 9,i)] K)/\
 aB xB (qF 71 (xq xx (x2.len:Int)) (xq xx (x2.len:Int))) aI K λcq M=>
 (az.ok [(a25.add 10,f),(j.add 9,i)] M)/\
 aQ i b λb1=>
 ag xB (qf 71 (b1.add (b.toNat*1)) cq) M λ_ ad=>
 (az.ok [] ad)/\
 aQ f b λcd=>
 ag xB (qf 71 (cd.add (b.toNat*1)) cf) ad λ_ a7=>
 (az.ok [] a7)/\
 K3 () a7)))
 (∃a45,(a=dB a45)/\
 bj d (a45.add 6) λap=>
 aL (σ:=Int) (λp K4 v=>
 Br (p<(ap.len:Int))
 (aQ ap p λcp=>
 ∃H:Int×Int,aq v (cp.add (p.toNat*2)) 0 H/\
 aT xB (qL 357 eR (.tuple #[])) v λa50 cr=>
 ag xB (qf 357 a50 H) cr λ_ q=>
 bg (σ:=Addr) (λz F=>
 bg (σ:=Sl×Sl) (λn bq=>
 bj bq z λah=>
 aL (σ:=Int) (λk K7 c=>
 Br (k<(ah.len:Int))
 (aQ ah k λa66=>
 be c (a66.add (k.toNat*1)) λV=>
 be c (a50.add 1) λc2=>
 Br (V !=c2)
 (ae xB 286 #[a,(xq xy 1),V,n.1,n.2] iF c λ_ cn=>
 K7 (qc xx (k+1)) cn)
 (K7 (qc xx (k+1)) c))
 (∃a70,(a=dB a70)/\
 bj c (a70.add 9) λb2=>
 be c (a50.add 1) λa0=>
 ∃a9,(a=dB a9)/\
 bj c (a9.add 10) λb3=>
 be c (a50.add 1) λt=>
 aQ b2 a0 λa76=>
 ag xB (qf 71 (a76.add (a0.toNat*1)) n.1) c λ_ ar=>
 (az.ok [(a50.add 1,t)] ar)/\
 aQ b3 t λa77=>
 ag xB (qf 71 (a77.add (t.toNat*1)) n.2) ar λ_ bk=>
 (az.ok [] bk)/\
 K4 (qc xx (p+1)) bk)) (0:Int) bq)
 (λK6=>
 bj F (z.add 1) λD=>
 (aB xB (qF 71 (xq xx (x2.len:Int)) (xq xx (x2.len:Int))) aI F λE S=>
 (az.ok [(z.add 1,D)] S)/\
 ae xB 101 #[D] aI S λB X=>
 (az.ok [] X)/\
 K6 ((⟨E.ptr,E.len,E.cap⟩:Sl),(⟨B.ptr,B.len,B.cap⟩:Sl)) X)/\(ae xB 101 #[D] aI F λw J=>
 (az.ok [] J)/\
 aB xB (qF 71 (xq xx (x2.len:Int)) (xq xx (x2.len:Int))) aI J λA T=>
 (az.ok [] T)/\
 K6 ((⟨A.ptr,A.len,A.cap⟩:Sl),(⟨w.ptr,w.len,w.cap⟩:Sl)) T)))
 (λK5=>
 ∃a51,(a=dB a51)/\
 bj q (a51.add 5) λbb=>
 be q a50 λl=>
 aQ bb l λs=>
 ∃o:Sl×Sl,aq q (s.add (l.toNat*2)) 0 o/\
 aT xB (qL 289 eR (.tuple #[])) q λa6 a2=>
 (az.ok [(s.add (l.toNat*2),o.1),((s.add (l.toNat*2)).add 1,o.2),(a50,l),(a51.add 5,bb)] a2)/\
 ag xB (qf 289 a6 o) a2 λ_ G=>
 (az.ok [] G)/\
 K5 a6 G))
 (R (.tuple #[]) v)) (0:Int) d)) (0:Int) ab)
 (λK1=>
 ∃a3,(a=dB a3)/\
 bj h (a3.add 4) λr=>
 ∃a5,(a=dB a5)/\
 bj h (a5.add 4) λm=>
 (aB xB (qF 56 (xq xx (r.len:Int)) (xq xx (r.len:Int))) aI h λv7 h1=>
 (az.ok [(a5.add 4,m),(a3.add 4,r)] h1)/\
 ∃a8,(a=dB a8)/\
 (aB xB (qF 56 (xq xx (m.len:Int)) (xq xx (m.len:Int))) aI h1 λv9 h2=>
 (az.ok [(a5.add 4,m),(a3.add 4,r)] h2)/\
 ag xB (qf 56 (a8.add 9) v7) h2 λ_ h3=>
 (az.ok [] h3)/\
 ∃O,(a=dB O)/\
 ag xB (qf 56 (O.add 10) v9) h3 λ_ h4=>
 (az.ok [] h4)/\
 K1 () h4)/\(ag xB (qf 56 (a8.add 9) v7) h1 λ_ h5=>
 (az.ok [] h5)/\
 aB xB (qF 56 (xq xx (m.len:Int)) (xq xx (m.len:Int))) aI h5 λc4 h6=>
 (az.ok [] h6)/\
 ∃bl,(a=dB bl)/\
 ag xB (qf 56 (bl.add 10) c4) h6 λ_ h7=>
 (az.ok [] h7)/\
 K1 () h7))/\(aB xB (qF 56 (xq xx (m.len:Int)) (xq xx (m.len:Int))) aI h λb6 h8=>
 (az.ok [(a5.add 4,m),(a3.add 4,r)] h8)/\
 aB xB (qF 56 (xq xx (r.len:Int)) (xq xx (r.len:Int))) aI h8 λcs h9=>
 (az.ok [(a5.add 4,m),(a3.add 4,r)] h9)/\
 ∃Q,(a=dB Q)/\
 ag xB (qf 56 (Q.add 9) cs) h9 λ_ P=>
 (az.ok [] P)/\
 ∃L,(a=dB L)/\
 ag xB (qf 56 (L.add 10) b6) P λ_ ao=>
 (az.ok [] ao)/\
 K1 () ao))
theorem BF(a:aM)(b:@pR R h a):ac xB 227 #[a] h R:=aw af func227 (al.tn (.two (.join [] [(18,36)] .n) (.two (al.tn (.inn (.loop [(42,aZ)] [(3,5),(42,77)] (al.tn (al.tn (.two (.inn (al.tn (.two (.join [] [(47,67)] .n) .n))) .n)))))) (al.tn (.inn (.loop [(83,aZ)] [(6,10),(11,12),(83,134)] (al.tn (al.tn (.two (.inn (al.tn (.two (.join [(7,(.sc .adr))] [(7,8),(87,95)] .n) (.two (.join [(8,cy),(9,cy)] [(8,10),(95,100)] .n) (.two (al.tn (.inn (.loop [(103,aZ)] [(11,12),(103,117)] .n))) .n))))) .n))))))))) b
noncomputable def rN(b:aM):Prop:=
 ∃l,(b=dB l)/\
 bj h (l.add 4) λx2=>
 aL (σ:=Int) (λa o c=>
 Br (a<(x2.len:Int))
 (aQ x2 a λa4=>
 bj c (a4.add (a.toNat*1)) λq=>
 Br (!(qT q.ptr))
 (∃j,(b=dB j)/\
 bj c (j.add 9) λp=>
 ∃g,(b=dB g)/\
 bj c (g.add 10) λm=>
 ∃d,(b=dB d)/\
 bj c ((d.add 6).add 1) λe=>
 aB xB (qF 71 (xq xx (e.len:Int)) (xq xx (e.len:Int))) aI c λf n=>
 (az.ok [((d.add 6).add 1,e),(g.add 10,m),(j.add 9,p)] n)/\
 aQ p a λi=>
 ag xB (qf 71 (i.add (a.toNat*1)) f) n λ_ h3=>
 (az.ok [] h3)/\
 aQ m a λk=>
 ag xB (qf 71 (k.add (a.toNat*1)) q) h3 λ_ r=>
 (az.ok [] r)/\
 o (qc xx (a+1)) r)
 (o (qc xx (a+1)) c))
 (R (.tuple #[]) c)) (0:Int) h
theorem CX(a:aM)(b:@rN R h a):ac xB 228 #[a] h R:=aw af func228 (al.tn (.inn (.loop [(9,aZ)] [(2,4),(9,37)] .n))) b
noncomputable def pS(b:aM):Prop:=
 ∃a1,(b=dB a1)/\
 bj h ((a1.add 6).add 1) λx2=>
 ∃a3,(b=dB a3)/\
 bj h ((a3.add 6).add 2) λx4=>
 aL (σ:=Sl×Sl×Int) (λc K1 k=>
 Br (c.2.2<(x4.len:Int))
 (aQ x4 c.2.2 λa6=>
 be k (a6.add (c.2.2.toNat*1)) λM=>
 bg (σ:=Sl×Sl) (λi h6=>
 ∃A,(b=dB A)/\
 bj h6 (A.add 5) λao=>
 aQ ao M λT=>
 bj h6 (T.add (M.toNat*2)) λH=>
 aL (σ:=Int) (λj K3 h7=>
 Br (j<(H.len:Int))
 (aQ H j λa22=>
 be h7 (a22.add (j.toNat*1)) λab=>
 ae xB 286 #[b,(xq xy 1),ab,i.1,i.2] iF h7 λ_ h8=>
 K3 (qc xx (j+1)) h8)
 (aB xB (qq 56 1 #[(0,i.1)]) aI h7 λv25 h9=>
 aB xB (qt #[56,56] 56 #[c.1,v25]) aI h9 λq S=>
 aB xB (qq 56 1 #[(0,i.2)]) aI S λV ad=>
 aB xB (qt #[56,56] 56 #[c.2.1,V]) aI ad λv28 Y=>
 K1 ((⟨q.ptr,q.len,q.cap⟩:Sl),(⟨v28.ptr,v28.len,v28.cap⟩:Sl),qc xx (c.2.2+1)) Y)) (0:Int) h6)
 (λK2=>
 ∃y,(b=dB y)/\
 bj k (y.add 5) λD=>
 aQ D M λB=>
 bj k ((B.add (M.toNat*2)).add 1) λv=>
 (aB xB (qF 71 (xq xx (x2.len:Int)) (xq xx (x2.len:Int))) aI k λw h2=>
 (az.ok [((B.add (M.toNat*2)).add 1,v),(y.add 5,D)] h2)/\
 ae xB 101 #[v] aI h2 λo h3=>
 (az.ok [(y.add 5,D)] h3)/\
 K2 ((⟨w.ptr,w.len,w.cap⟩:Sl),(⟨o.ptr,o.len,o.cap⟩:Sl)) h3)/\(ae xB 101 #[v] aI k λr h4=>
 (az.ok [(y.add 5,D)] h4)/\
 aB xB (qF 71 (xq xx (x2.len:Int)) (xq xx (x2.len:Int))) aI h4 λp h5=>
 (az.ok [(y.add 5,D)] h5)/\
 K2 ((⟨p.ptr,p.len,p.cap⟩:Sl),(⟨r.ptr,r.len,r.cap⟩:Sl)) h5)))
 (∃K,(b=dB K)/\
 ∃E:bS,aq k (K.add 1) 0 E/\
 ae xB 118 #[E] aI k λI ah=>
 aL (σ:=Sl×Sl×Int) (λa K4 d=>
 Br (a.2.2<(I.len:Int))
 (aQ I a.2.2 λap=>
 bj d (ap.add (a.2.2.toNat*1)) λG=>
 bg (σ:=Sl×Sl) (λg Q=>
 aL (σ:=Int) (λe K6 n=>
 Br (e<(G.len:Int))
 (aQ G e λU=>
 gv .u8 n (U.add (e.toNat*1)) λO=>
 ae xB 286 #[b,(xq xy O),e,g.1,g.2] iF n λ_ N=>
 K6 (qc xx (e+1)) N)
 (aB xB (qq 56 1 #[(0,g.1)]) aI n λv46 P=>
 aB xB (qt #[56,56] 56 #[a.1,v46]) aI P λu Z=>
 aB xB (qq 56 1 #[(0,g.2)]) aI Z λW am=>
 aB xB (qt #[56,56] 56 #[a.2.1,W]) aI am λs X=>
 K4 ((⟨u.ptr,u.len,u.cap⟩:Sl),(⟨s.ptr,s.len,s.cap⟩:Sl),qc xx (a.2.2+1)) X)) (0:Int) Q)
 (λK5=>
 ∃l,(b=dB l)/\
 be d ((l.add 1).add 2) λf=>
 (aB xB (qF 71 (xq xx (x2.len:Int)) (xq xx (x2.len:Int))) aI d λx z=>
 (az.ok [((l.add 1).add 2,f)] z)/\
 aB xB (qF 71 f f) aI z λt F=>
 (az.ok [] F)/\
 K5 ((⟨x.ptr,x.len,x.cap⟩:Sl),(⟨t.ptr,t.len,t.cap⟩:Sl)) F)/\(aB xB (qF 71 f f) aI d λv39 L=>
 (az.ok [] L)/\
 aB xB (qF 71 (xq xx (x2.len:Int)) (xq xx (x2.len:Int))) aI L λm J=>
 (az.ok [] J)/\
 K5 ((⟨m.ptr,m.len,m.cap⟩:Sl),(⟨v39.ptr,v39.len,v39.cap⟩:Sl)) J)))
 (R (.tuple #[a.1,a.2.1]) d)) ((⟨c.1.ptr,c.1.len,c.1.cap⟩:Sl),(⟨c.2.1.ptr,c.2.1.len,c.2.1.cap⟩:Sl),(0:Int)) ah)) ((⟨eH,0,0⟩:Sl),(⟨eH,0,0⟩:Sl),(0:Int)) h
theorem BG(a:aM)(b:@pS R h a):ac xB 229 #[a] h R:=aw af func229 (al.tn (al.tn (.two (al.tn (.inn (.loop [(2,cy),(3,cy),(29,aZ)] [(2,4),(6,9),(10,11),(29,72)] (al.tn (al.tn (.two (.inn (al.tn (.two (.join [(7,cy),(8,cy)] [(7,9),(33,44)] .n) (.two (al.tn (.inn (.loop [(53,aZ)] [(10,11),(53,63)] .n))) .n)))) .n)))))) (.two (al.tn (.inn (.loop [(2,cy),(3,cy),(78,aZ)] [(2,4),(12,17),(78,113)] (al.tn (al.tn (.two (.inn (al.tn (.two (.join [(13,cy),(14,cy)] [(13,15),(82,90)] .n) (.two (al.tn (.inn (.loop [(92,aZ)] [(15,17),(92,104)] .n))) .n)))) .n)))))) .n)))) b
noncomputable def Is(b:Sl)(a:ByteArray):Prop:=
 Br ((b.len:Int)==0)
 (R (xr eH 0 0) h)
 (Br (a.toList==rD.toList)
 (R b h)
 (bg (σ:=Unit) (λ_ h3=>
 ae xB 289 #[a] (.many [(.arr .bool),iR]) h3 λm u=>
 aT xB (qL 363 eR (.tuple #[])) u λc r=>
 ag xB (qf 363 c (xw (m.1.map (Sc.enc .bool)).toArray)) r λ_ i=>
 Br m.2
 (ae xB 291 #[b,c] aI i λq p=>
 ae xB 290 #[q,c] aI p λd h8=>
 R d h8)
 (ae xB 293 #[b,a] aI i λe t=>
 ae xB 292 #[e,a] aI t λf g=>
 R f g))
 (λo=>
 Br ((a.size:Int)==1) (∃l:UInt8,(0<=(0:Int)/\a.data[(0:Int).toNat]?=dB l)/\
 Br ((l.toNat:Int)<128)
 (∃j:UInt8,(0<=(0:Int)/\a.data[(0:Int).toNat]?=dB j)/\
 ∃c3:UInt8,(0<=(0:Int)/\a.data[(0:Int).toNat]?=dB c3)/\
 ae xB 288 #[b,(xq xy (j.toNat:Int))] aI h λs k=>
 (az.ok [] k)/\
 ae xB 287 #[s,(xq xy (c3.toNat:Int))] aI k λv n=>
 (az.ok [] n)/\
 R v n)
 (o () h)) (o () h))))
theorem PH(b:Sl)(a:ByteArray)(c:@Is R h b a):ac xB 230 #[b,a] h R:=aw af func230 (al.tn (al.tn (al.tn (.two (.join [] [(4,5),(13,28)] .n) .n)))) c
noncomputable def sK(c:aM)(e:Sl):Prop:=
 ∃G,(c=dB G)/\
 bj h (G.add 4) λx2=>
 aL (σ:=Int) (λd J f=>
 Br (d<(x2.len:Int))
 (∃a4,(c=dB a4)/\
 bj f (a4.add 4) λQ=>
 aQ Q d λO=>
 bj f (O.add (d.toNat*1)) λP=>
 Br (!(qT P.ptr))
 (J (qc xx (d+1)) f)
 (∃H,(c=dB H)/\
 bj f (H.add 10) λL=>
 aQ L d λz=>
 bj f (z.add (d.toNat*1)) λE=>
 ae xB 101 #[E] aI f λg x=>
 ∃i,(c=dB i)/\
 bj x (i.add 9) λv=>
 aQ v d λr=>
 bj x (r.add (d.toNat*1)) λm=>
 aL (σ:=Int) (λb N h3=>
 Br (b<(m.len:Int))
 (aQ m b λD=>
 gv .u8 h3 (D.add (b.toNat*1)) λp=>
 aQ e b λw=>
 bj h3 (w.add (b.toNat*1)) λo=>
 aL (σ:=Int) (λa M n=>
 Br (a<(o.len:Int))
 (aQ o a λs=>
 gv .u8 n (s.add (a.toNat*1)) λy=>
 aQ g a λa25=>
 gv .u8 n (a25.add (a.toNat*1)) λl=>
 ∃k,(c=dB k)/\
 jU n k λq=>
 ae xB 294 #[q,(xq xy p),(xq xy y)] (.one (.sc (.int .u8))) n λt I=>
 (az.ok [(a25.add (a.toNat*1),(xq xy l))] I)/\
 aQ g a λB=>
 ag xB (qf 5 (B.add (a.toNat*1)) (xq xy (qc xy ((qD (qk xy) l^^^(qD (qk xy) t)).toNat:Nat)))) I λ_ F=>
 (az.ok [] F)/\
 M (qc xx (a+1)) F)
 (N (qc xx (b+1)) n)) (0:Int) h3)
 (∃j,(c=dB j)/\
 bj h3 (j.add 4) λu=>
 aQ u d λA=>
 ag xB (qf 71 (A.add (d.toNat*1)) g) h3 λ_ K=>
 J (qc xx (d+1)) K)) (0:Int) x))
 (R (.tuple #[]) f)) (0:Int) h
theorem DR(b:aM)(a:Sl)(c:@sK R h b a):ac xB 231 #[b,a] h R:=aw af func231 (al.tn (.inn (.loop [(15,aZ)] [(4,10),(15,80)] (al.tn (al.tn (.two (.inn (al.tn (al.tn (al.tn (.two (al.tn (.inn (.loop [(42,aZ)] [(6,10),(42,72)] (al.tn (al.tn (.two (.inn (al.tn (al.tn (.inn (.loop [(52,aZ)] [(8,10),(52,71)] .n))))) .n)))))) .n))))) .n)))))) c
noncomputable def NB(a:Int):Prop:=
 aT xB (qM 369 (xw #[(xq xA (qc xA a))])) h λb c=>
 R b c
theorem Us(a:Int)(b:@NB R h a):ac xB 232 #[(xq xz a)] h R:=aw af func232 .n b
noncomputable def AU(a:aM):Prop:=
 Br (qT a)
 (R (xq xz 0) h)
 (∃b,(a=dB b)/\
 gv .u64 h b λx2=>
 ∃a3,(a=dB a3)/\
 ag xB (qf 284 a3 (xq xA (qc xA ((qc xA (x2*6364136223846793005))+1442695040888963407)))) h λ_ c=>
 ∃a4,(a=dB a4)/\
 gv .u64 c a4 λd=>
 (0<=(32:Int))/\
 R (xq xz (qc xz (qX d (2^min (32:Int).toNat (qk xA))))) c)
theorem It(a:aM)(b:@AU R h a):ac xB 233 #[a] h R:=aw af func233 .n b
noncomputable def DS(a:Sl)(b:aM):Prop:=
 Br ((a.len:Int)==0)
 (R (xq xx 0) h)
 (aQ a (qc xx ((a.len:Int)-1)) λc=>
 be h (c.add ((qc xx ((a.len:Int)-1)).toNat*1)) λx2=>
 ae xB 296 #[b,x2] bw h λg f=>
 ae xB 295 #[a,g] bw f λe d=>
 R e d)
theorem LH(b:Sl)(a:aM)(c:@DS R h b a):ac xB 234 #[b,a] h R:=aw af func234 .n c
noncomputable def Cj(a:Int):Prop:=
 bg (σ:=Unit) (λ_ m=>
 aB xB (qF 22 (xq xx 0) a) aI m λc g=>
 aL (σ:=Sl×Int×Int) (λb j h3=>
 Br (b.2.2<=a)
 (ae xB 297 #[a,b.2.2] bw h3 λe l=>
 aB xB (qq 22 1 #[(0,(qc xx (b.2.1+e)))]) aI l λv5 f=>
 aB xB (qt #[22,22] 22 #[b.1,v5]) aI f λd i=>
 j ((⟨d.ptr,d.len,d.cap⟩:Sl),qc xx (b.2.1+e),qc xx (b.2.2+1)) i)
 (R b.1 h3)) ((⟨c.ptr,c.len,c.cap⟩:Sl),(0:Int),(1:Int)) g)
 (λk=>
 Br (a<1) (R (xr eH 0 0) h) (Br (a>64)
 (R (xr eH 0 0) h)
 (k () h)))
theorem Kh(a:Int)(b:@Cj R h a):ac xB 235 #[a] h R:=aw af func235 (al.tn (.two (.join [] [(2,3),(6,12)] .n) (al.tn (al.tn (.two (al.tn (.inn (.loop [(3,cy),(4,aZ),(5,aZ)] [(3,6),(14,28)] .n))) .n))))) b
noncomputable def Gy(k:aM)(a:Int)(b:Int):Prop:=
 bg (σ:=Unit) (λ_ r=>
 aB xB (qF 22 a a) aI r λd t=>
 aL (σ:=Int) (λe u h3=>
 Br (e<(d.len:Int))
 (aQ d e λa4=>
 ag xB (qf 3 (a4.add (e.toNat*1)) e) h3 λ_ x=>
 u (qc xx (e+1)) x)
 (aL (σ:=Int) (λc y p=>
 Br (c<b)
 (ae xB 296 #[k,(qc xx (a-c))] bw p λg i=>
 aQ d (qc xx (c+g)) λs=>
 be i (s.add ((qc xx (c+g)).toNat*1)) λq=>
 aQ d c λa9=>
 be i (a9.add (c.toNat*1)) λn=>
 aQ d c λj=>
 ag xB (qf 3 (j.add (c.toNat*1)) q) i λ_ o=>
 (az.ok [] o)/\
 aQ d (qc xx (c+g)) λl=>
 ag xB (qf 3 (l.add ((qc xx (c+g)).toNat*1)) n) o λ_ h8=>
 (az.ok [] h8)/\
 y (qc xx (c+1)) h8)
 ((0<=b/\b<=(d.cap:Int))/\
 ae xB 104 #[(xr d.ptr b.toNat d.cap)] aI p λf w=>
 ae xB 96 #[f] iF w λ_ m=>
 R f m)) (0:Int) h3)) (0:Int) t)
 (λv=>
 Br (a<0) (R (xr eH 0 0) h) (Br (a>64) (R (xr eH 0 0) h) (Br (b<0) (R (xr eH 0 0) h) (Br (b>a)
 (R (xr eH 0 0) h)
 (v () h)))))
theorem NC(c:aM)(a:Int)(b:Int)(d:@Gy R h c a b):ac xB 236 #[c,a,b] h R:=aw af func236 (al.tn (.two (.join [] [(6,7),(12,27)] .n) (al.tn (.two (al.tn (.inn (.loop [(31,aZ)] [(8,9),(31,39)] .n))) (.two (al.tn (.inn (.loop [(40,aZ)] [(9,11),(40,65)] .n))) .n))))) d
noncomputable def Gz(b:Sl):Prop:=
 aL (σ:=Int×Int) (λa d c=>
 Br (a.2<(b.len:Int))
 (aQ b a.2 λe=>
 gv .u8 c (e.add (a.2.toNat*1)) λx3=>
 (0<=(8:Int))/\
 d (qc xx ((qD (qk xx) (qc xx (a.1*2^min (8:Int).toNat (qk xx)))|||(qD (qk xx) (qc xx x3))).toNat:Nat),qc xx (a.2+1)) c)
 (R a.1 c)) ((0:Int),(0:Int)) h
theorem ND(a:Sl)(b:@Gz R h a):ac xB 237 #[a] h R:=aw af func237 (al.tn (al.tn (.two (al.tn (.inn (.loop [(3,aZ),(8,aZ)] [(3,4),(5,6),(8,18)] .n))) .n))) b
noncomputable def Ck(i:iE)(a:Addr):Prop:=
 aT xB (qM 94 i) h λc b=>
 be b (c.add 1) λx2=>
 be b a λx3=>
 Br (x2==x3) (bj b (c.add 3) λg=>
 be b (a.add 1) λk=>
 Br ((g.len:Int)>k) (gv .u32 b (a.add 6) λl=>
 be b a λo=>
 be b (a.add 1) λp=>
 bj b (c.add 3) λn=>
 be b (a.add 1) λd=>
 aQ n d λf=>
 be b (f.add (d.toNat*1)) λe=>
 ae xB 48 #[o,p,e] (.one (.sc (.int .u32))) b λj m=>
 (az.ok [(a.add 1,d),(c.add 3,n),(a.add 6,(xq xz l)),(a.add 1,k),(c.add 3,g),(a,x3),(c.add 1,x2)] m)/\
 R (xv (l==j)) m) ((az.ok [(a.add 1,k),(c.add 3,g),(a,x3),(c.add 1,x2)] b)/\
 R eS b)) ((az.ok [(a,x3),(c.add 1,x2)] b)/\
 R eS b)
theorem Ki(b:iE)(a:Addr)(c:@Ck R h b a):ac xB 238 #[b,a] h R:=aw af func238 .n c
noncomputable def jX(b:Sl)(c:Int)(a:cE):Prop:=
 aL (σ:=Int×Int) (λf p k=>
 Br (f.2<=c)
 (ae xB 298 #[b,f.1,f.2,(.func (.func a.1) a.2.1 a.2.2)] iF k λ_ m=>
 p (f.2,qc xx (f.2+20)) m)
 (ae xB 298 #[b,f.1,c,(.func (.func a.1) a.2.1 a.2.2)] iF k λ_ h3=>
 aL (σ:=Int) (λe i j=>
 Br (e<c)
 (aL (σ:=Int×Int) (λd l g=>
 Br (d.2<=c)
 (ae xB 299 #[b,d.1,(qc xx (d.1+e)),d.2,(.func (.func a.1) a.2.1 a.2.2)] iF g λ_ n=>
 l (d.2,qc xx (d.2+(qc xx (2*e)))) n)
 (Br ((qc xx (d.1+e))<c)
 (ae xB 299 #[b,d.1,(qc xx (d.1+e)),c,(.func (.func a.1) a.2.1 a.2.2)] iF g λ_ o=>
 i (qc xx (e*2)) o)
 (i (qc xx (e*2)) g))) ((0:Int),qc xx (2*e)) j)
 (R (.tuple #[]) j)) (20:Int) h3)) ((0:Int),(20:Int)) h
theorem nX(b:Sl)(c:Int)(a:cE)(d:@jX R h b c a):ac xB 239 #[b,c,(.func (.func a.1) a.2.1 a.2.2)] h R:=aw af func239 (al.tn (al.tn (.two (.inn (.loop [(7,aZ),(8,aZ)] [(7,9),(11,23)] .n)) (al.tn (.inn (.loop [(6,aZ)] [(6,10),(28,63)] (al.tn (.inn (al.tn (.two (.inn (.loop [(7,aZ),(8,aZ)] [(7,9),(33,49)] .n)) .n)))))))))) d
noncomputable def QS(a:Sl):Prop:=
 aL (σ:=Int) (λc d b=>
 Br (c<(a.len:Int))
 (aQ a c λe=>
 bj b (e.add (c.toNat*1)) λx3=>
 aQ a (0:Int) λa4=>
 bj b (a4.add ((0:Int).toNat*1)) λf=>
 Br ((x3.len:Int) !=(f.len:Int)) (R eS b) (Br ((x3.len:Int)>64)
 (R eS b)
 (d (qc xx (c+1)) b)))
 (R eR b)) (0:Int) h
theorem WD(a:Sl)(b:@QS R h a):ac xB 240 #[a] h R:=aw af func240 (al.tn (.two (al.tn (.inn (.loop [(7,aZ)] [(2,3),(4,5),(7,24)] .n))) .n)) b
noncomputable def QU(a:Sl):Prop:=
 aB xB (qF 56 (xq xx 0) (xq xx (a.len:Int))) aI h λe l=>
 aL (σ:=Sl×Int) (λb j c=>
 Br (b.2<(a.len:Int))
 (aQ a b.2 λa3=>
 bj c (a3.add (b.2.toNat*1)) λg=>
 ae xB 101 #[g] aI c λm h3=>
 aB xB (qq 56 1 #[(0,m)]) aI h3 λi k=>
 aB xB (qt #[56,56] 56 #[b.1,i]) aI k λd f=>
 j ((⟨d.ptr,d.len,d.cap⟩:Sl),qc xx (b.2+1)) f)
 (R b.1 c)) ((⟨e.ptr,e.len,e.cap⟩:Sl),(0:Int)) l
theorem WE(a:Sl)(b:@QU R h a):ac xB 241 #[a] h R:=aw af func241 (al.tn (al.tn (.two (al.tn (.inn (.loop [(3,cy),(11,aZ)] [(3,4),(5,6),(11,21)] .n))) .n))) b
noncomputable def Iu(f:aM)(b:Sl)(e:Int):Prop:=
 aL (σ:=Int×Int) (λa F E=>
 Br (a.2<e)
 (ae xB 300 #[b,a.1,a.2] bw E λo q=>
 Br (o<0)
 (F (a.1,qc xx (a.2+1)) q)
 (bg (σ:=Unit) (λ_ p=>
 bg (σ:=Unit) (λ_ N=>
 aL (σ:=Int) (λc H d=>
 Br (c<(b.len:Int))
 (Br (c !=a.1)
 (aQ b c λm=>
 bj d (m.add (c.toNat*1)) λj=>
 aQ j a.2 λx=>
 gv .u8 d (x.add (a.2.toNat*1)) λz=>
 aQ b a.1 λa25=>
 bj d (a25.add (a.1.toNat*1)) λv=>
 aQ b c λt=>
 bj d (t.add (c.toNat*1)) λs=>
 ae xB 303 #[f,(xq xy z),v,s] iF d λ_ n=>
 (az.ok [(m.add (c.toNat*1),j)] n)/\
 H (qc xx (c+1)) n)
 (H (qc xx (c+1)) d))
 (F (qc xx (a.1+1),qc xx (a.2+1)) d)) (0:Int) N)
 (λO=>
 aQ b a.1 λg=>
 bj p (g.add (a.1.toNat*1)) λi=>
 aQ i a.2 λA=>
 gv .u8 p (A.add (a.2.toNat*1)) λu=>
 aQ b a.1 λl=>
 bj p (l.add (a.1.toNat*1)) λk=>
 ae xB 302 #[f,(xq xy u)] (.one (.sc (.int .u8))) p λw B=>
 (az.ok [(l.add (a.1.toNat*1),k),(g.add (a.1.toNat*1),i)] B)/\
 ae xB 301 #[f,(xq xy w),k] aI B λr D=>
 (az.ok [(g.add (a.1.toNat*1),i)] D)/\
 aQ b a.1 λy=>
 ag xB (qf 71 (y.add (a.1.toNat*1)) r) D λ_ h8=>
 (az.ok [] h8)/\
 O () h8))
 (λM=>
 aQ b o λa3=>
 bj q (a3.add (o.toNat*1)) λI=>
 aQ b a.1 λa5=>
 bj q (a5.add (a.1.toNat*1)) λL=>
 aQ b a.1 λK=>
 ag xB (qf 71 (K.add (a.1.toNat*1)) I) q λ_ h3=>
 (az.ok [] h3)/\
 aQ b o λJ=>
 ag xB (qf 71 (J.add (o.toNat*1)) L) h3 λ_ G=>
 (az.ok [] G)/\
 M () G)))
 (R a.1 E)) ((0:Int),(0:Int)) h
theorem PI(c:aM)(b:Sl)(a:Int)(d:@Iu R h c b a):ac xB 242 #[c,b,a] h R:=aw af func242 (al.tn (al.tn (.two (al.tn (.inn (.loop [(7,aZ),(12,aZ)] [(7,11),(12,82)] (al.tn (al.tn (.two (.inn (al.tn (al.tn (al.tn (.two (.join [] [(21,35)] .n) (.two (.join [] [(35,53)] .n) (.two (al.tn (.inn (.loop [(55,aZ)] [(10,11),(55,79)] .n))) .n))))))) .n)))))) .n))) d
noncomputable def NE(a:aM):Prop:=
 Br (qT a)
 (ae xB 109 #[] jt h λb c=>
 R b c)
 (R a h)
theorem Ut(a:aM)(b:@NE R h a):ac xB 243 #[a] h R:=aw af func243 .n b
noncomputable def KJ(a:Sl):Prop:=
 Br ((a.len:Int)==0)
 (R (xq xx 0) h)
 (aQ a (0:Int) λb=>
 bj h (b.add ((0:Int).toNat*1)) λx2=>
 R (xq xx (x2.len:Int)) h)
theorem Sk(a:Sl)(b:@KJ R h a):ac xB 244 #[a] h R:=aw af func244 .n b
noncomputable def NF(b:Int)(c:Int):Prop:=
 aL (σ:=bS) (λa k d=>
 Br (a.2.1==0)
 (R (xq xy a.2.2) d)
 (bg (σ:=Int) (λi f=>
 (0<=(1:Int))/\
 bg (σ:=Int) (λj h3=>
 (0<=(1:Int))/\
 k (j,qX a.2.1 (2^min (1:Int).toNat (qk xy)),i) h3)
 (λe=>
 Br ((qc xy ((qD (qk xy) a.1&&&(qD (qk xy) (128:Int))).toNat:Nat)) !=0)
 (e (qc xy ((qD (qk xy) (qc xy (a.1*2^min (1:Int).toNat (qk xy)))^^^(qD (qk xy) (27:Int))).toNat:Nat)) f)
 (e (qc xy (a.1*2^min (1:Int).toNat (qk xy))) f)))
 (λg=>
 Br ((qc xy ((qD (qk xy) a.2.1&&&(qD (qk xy) (1:Int))).toNat:Nat))==1)
 (g (qc xy ((qD (qk xy) a.2.2^^^(qD (qk xy) a.1)).toNat:Nat)) d)
 (g a.2.2 d)))) (b,c,(0:Int)) h
theorem Uu(a:Int)(b:Int)(c:@NF R h a b):ac xB 245 #[(xq xy a),(xq xy b)] h R:=aw af func245 (al.tn (.scope 0 [(0,(.sc (.int .u8))),(1,(.sc (.int .u8))),(5,(.sc (.int .u8)))] [(0,2),(4,26)] [.n] [(al.tn (.two (.join [(5,(.sc (.int .u8)))] [(5,6),(10,16)] .n) (al.tn (al.tn (.two (.join [(0,(.sc (.int .u8)))] [(0,1),(21,24)] .n) .n)))))] [])) c
noncomputable def sM(c:aM):Prop:=
 aT xB (qL 3 eR (.tuple #[])) h λa k=>
 ag xB (qf 3 a (xq xx 0)) k λ_ e=>
 aL (σ:=Unit) (λ_ i h3=>
 ∃a3,(c=dB a3)/\
 bj h3 (a3.add 4) λg=>
 ae xB 304 #[g,(.func (.func 305) #[] #[a])] bN h3 λl b=>
 Br l
 (be b a λd=>
 ag xB (qf 3 a (qc xx (d+1))) b λ_ f=>
 i () f)
 (be b a λj=>
 R j b)) () e
theorem DT(a:aM)(b:@sM R h a):ac xB 246 #[a] h R:=aw af func246 (al.tn (al.tn (.two (.inn (.loop [] [(4,12)] .n)) .n))) b
noncomputable def DU(a:aM):Prop:=
 Br (qT a)
 (ae xB 109 #[] jt h λb c=>
 R b c)
 (R a h)
theorem LI(a:aM)(b:@DU R h a):ac xB 247 #[a] h R:=aw af func247 .n b
noncomputable def NG(c:aM)(d:Int)(b:Sl)(a:Sl):Prop:=
 ae xB 301 #[c,(xq xy d),b] aI h λg i=>
 ae xB 306 #[g,a] (.many [cy,iR]) i λe f=>
 R (.tuple #[e.1,e.2]) f
theorem Uv(c:aM)(d:Int)(b:Sl)(a:Sl)(e:@NG R h c d b a):ac xB 248 #[c,(xq xy d),b,a] h R:=aw af func248 .n e
noncomputable def lW(c:Sl)(a:cE):Prop:=
 aL (σ:=Int) (λb g d=>
 Br (b<(c.len:Int))
 (aQ c b λi=>
 gv .u8 d (i.add (b.toNat*1)) λx3=>
 gY C a.1 (a.2.1.toList++[(xq xy x3)]++a.2.2.toList) bN d λf e=>
 Br f
 (R b e)
 (g (qc xx (b+1)) e))
 (R (xq xx (-1:Int)) d)) (0:Int) h
theorem rO(b:Sl)(a:cE)(c:@lW R h b a):ac xB 249 #[b,(.func (.func a.1) a.2.1 a.2.2)] h R:=aw af func249 (al.tn (.two (al.tn (.inn (.loop [(8,aZ)] [(4,6),(8,19)] .n))) .n)) c
noncomputable def Iv(a:Int):Prop:=
 R (xv (a !=0)) h
theorem PJ(a:Int)(b:@Iv R h a):ac xB 250 #[(xq xy a)] h R:=aw af func250 .n b
noncomputable def AV(b:aM):Prop:=
 Br (qT b)
 (R (xr eH 0 0) h)
 (∃e,(b=dB e)/\
 bj h (e.add 2) λx2=>
 aL (σ:=Sl×Int) (λa i d=>
 Br (a.2<(x2.len:Int))
 (aQ x2 a.2 λa4=>
 bj d (a4.add (a.2.toNat*1)) λl=>
 ae xB 101 #[l] aI d λk f=>
 aB xB (qq 56 1 #[(0,k)]) aI f λg h3=>
 aB xB (qt #[56,56] 56 #[a.1,g]) aI h3 λc j=>
 i ((⟨c.ptr,c.len,c.cap⟩:Sl),qc xx (a.2+1)) j)
 (R a.1 d)) ((⟨eH,0,0⟩:Sl),(0:Int)) h)
theorem Iw(a:aM)(b:@AV R h a):ac xB 251 #[a] h R:=aw af func251 (al.tn (al.tn (al.tn (.two (al.tn (.inn (.loop [(3,cy),(13,aZ)] [(3,4),(5,6),(13,23)] .n))) .n)))) b
noncomputable def kG(c:Sl)(a:cE):Prop:=
 aL (σ:=Int) (λb g d=>
 Br (b<(c.len:Int))
 (aQ c b λi=>
 bj d (i.add (b.toNat*1)) λx3=>
 gY C a.1 (a.2.1.toList++[(xr x3.ptr x3.len x3.cap)]++a.2.2.toList) bN d λf e=>
 Br f
 (R b e)
 (g (qc xx (b+1)) e))
 (R (xq xx (-1:Int)) d)) (0:Int) h
theorem oN(b:Sl)(a:cE)(c:@kG R h b a):ac xB 252 #[b,(.func (.func a.1) a.2.1 a.2.2)] h R:=aw af func252 (al.tn (.two (al.tn (.inn (.loop [(8,aZ)] [(4,6),(8,19)] .n))) .n)) c
noncomputable def DV(a:Int):Prop:=
 ae xB 190 #[a,(xq xx 0),(xq xx 15)] bN h λb c=>
 R (xv (!b)) c
theorem LJ(a:Int)(b:@DV R h a):ac xB 258 #[a] h R:=aw af func258 .n b
noncomputable def GA:Prop:=
 aT xB (qM 334 (xw #[(.complex .f64 0 0),(.complex .f64 4607182418800017408 0),(xq xx 1),(xq xx 1),eS])) h λa b=>
 R a b
theorem NH(a:@GA R h):ac xB 259 #[] h R:=aw af func259 .n a
noncomputable def vN(a:aM):Prop:=
 ∃w,(a=dB w)/\
 ∃x2:Nat×Nat,cellOf h w=dB (.complex .f64 x2.1 x2.2)/\
 ∃a3,(a=dB a3)/\
 ∃m:Nat×Nat,cellOf h (a3.add 1)=dB (.complex .f64 m.1 m.2)/\
 ∃z5:Nat×Nat,(kN xB .add 260 (.tmp 5) (.tmp 9) (.complex .f64 x2.1 x2.2) (.complex .f64 m.1 m.2) (.complex .f64 z5.1 z5.2))/\
 ∃z,(a=dB z)/\
 ag xB (qf 260 z (.complex .f64 z5.1 z5.2)) h λ_ s=>
 (az.ok [] s)/\
 ∃y,(a=dB y)/\
 be s (y.add 2) λB=>
 ∃a9,(a=dB a9)/\
 ag xB (qf 3 (a9.add 2) (qc xx (B-1))) s λ_ n=>
 ∃k,(a=dB k)/\
 be n (k.add 2) λu=>
 Br (u>0)
 (R (.tuple #[]) n)
 (∃l,(a=dB l)/\
 ∃b:Nat×Nat,cellOf n (l.add 1)=dB (.complex .f64 b.1 b.2)/\
 ae xB 313 #[(.complex .f64 b.1 b.2),(xq xx 1)] (.one (.sc (.cpx .f64))) n λf h3=>
 ∃e,(a=dB e)/\
 ag xB (qf 260 (e.add 1) (.complex .f64 f.1 f.2)) h3 λ_ o=>
 bg (σ:=Unit) (λ_ v=>
 ∃a22,(a=dB a22)/\
 sB v (a22.add 4) λr=>
 ∃d,(a=dB d)/\
 ag xB (qf 4 (d.add 4) (xv (!r))) v λ_ x=>
 ∃a25,(a=dB a25)/\
 be x (a25.add 3) λq=>
 ∃c,(a=dB c)/\
 ag xB (qf 3 (c.add 2) q) x λ_ h8=>
 R (.tuple #[]) h8)
 (λA=>
 ∃g,(a=dB g)/\
 sB o (g.add 4) λt=>
 Br t
 (∃i,(a=dB i)/\
 be o (i.add 3) λp=>
 ∃j,(a=dB j)/\
 ag xB (qf 3 (j.add 3) (qc xx (p+1))) o λ_ D=>
 A () D)
 (A () o)))
theorem GP(a:aM)(b:@vN R h a):ac xB 260 #[a] h R:=aw af func260 (al.tn (al.tn (al.tn (al.tn (.two (.join [] [(33,44)] .n) .n))))) b
noncomputable def sN(a:Nat):Prop:=
 R (xv ((FloatKind.format .f64).order a a !=dB .eq)) h
theorem DW(a:Nat)(b:@sN R h a):ac xB 262 #[(.float .f64 a)] h R:=aw af func262 .n b
noncomputable def rP(a:Int):Prop:=
 R (xv (a !=a)) h
theorem wc(a:Int)(b:@rP R h a):ac xB 263 #[a] h R:=aw af func263 .n b
noncomputable def iG(a:Sl)(i:Int)(n:Int)(b:cE):Prop:=
 aL (σ:=Int) (λk t r=>
 Br (k<n)
 (aL (σ:=Int) (λc w f=>
 bg (σ:=Unit) (λ_ o=>
 aQ a (qc xx (c-1)) λa9=>
 ∃j:iE,aq o (a9.add ((qc xx (c-1)).toNat*4)) 0 j/\
 aQ a c λl=>
 ∃e:iE,aq o (l.add (c.toNat*4)) 0 e/\
 aQ a c λm=>
 ag xB (qf 94 (m.add (c.toNat*4)) j) o λ_ s=>
 (az.ok [] s)/\
 aQ a (qc xx (c-1)) λp=>
 ag xB (qf 94 (p.add ((qc xx (c-1)).toNat*4)) e) s λ_ q=>
 (az.ok [] q)/\
 w (qc xx (c-1)) q)
 (λv=>
 Br (c>i) (aQ a c λa3=>
 ∃d:iE,aq f (a3.add (c.toNat*4)) 0 d/\
 aQ a (qc xx (c-1)) λa5=>
 ∃g:iE,aq f (a5.add ((qc xx (c-1)).toNat*4)) 0 g/\
 gY C b.1 (b.2.1.toList++[(xw #[d.1,d.2.1,d.2.2.1,d.2.2.2]),(xw #[g.1,g.2.1,g.2.2.1,g.2.2.2])]++b.2.2.toList) bw f λu h3=>
 (az.ok [] h3)/\
 Br (u<0)
 (v () h3)
 (t (qc xx (k+1)) h3)) ((az.ok [] f)/\
 t (qc xx (k+1)) f))) k r)
 (R (.tuple #[]) r)) (qc xx (i+1)) h
theorem me(b:Sl)(c:Int)(d:Int)(a:cE)(e:@iG R h b c d a):ac xB 264 #[b,c,d,(.func (.func a.1) a.2.1 a.2.2)] h R:=aw af func264 (al.tn (.inn (.loop [(8,aZ)] [(8,10),(12,53)] (al.tn (.two (.inn (al.tn (.inn (.loop [(9,aZ)] [(9,10),(18,53)] (.two (.join [] [(18,35)] .n) .n))))) .n))))) e
end Go.Qw
namespace Go.Qw
open Go Go.Vc Go.Proofs
variable {R:Hb} {h:Heap}
noncomputable def Ix(d:Int)(c:Sl):Prop:=
 bg (σ:=Unit) (λ_ t=>
 aL (σ:=Int) (λe u k=>
 Br (e<(c.len:Int))
 (aQ c e λa3=>
 ∃o:Sl×Sl,aq k (a3.add (e.toNat*2)) 0 o/\
 aT xB (qL 289 eR (.tuple #[])) k λa5 h3=>
 ag xB (qf 289 a5 o) h3 λ_ q=>
 bj q a5 λp=>
 aL (σ:=Int) (λb r a=>
 Br (b<(p.len:Int))
 (aQ p b λs=>
 be a (s.add (b.toNat*1)) λj=>
 Br (j<0) (R eS a) (Br (j>=d) (R eS a) (Br (b>0) (bj a a5 λn=>
 aQ n (qc xx (b-1)) λf=>
 be a (f.add ((qc xx (b-1)).toNat*1)) λl=>
 Br (l>=j)
 (R eS a)
 (r (qc xx (b+1)) a)) (r (qc xx (b+1)) a))))
 (bj a (a5.add 1) λi=>
 aQ c (0:Int) λm=>
 bj a ((m.add ((0:Int).toNat*2)).add 1) λg=>
 Br ((i.len:Int) !=(g.len:Int))
 (R eS a)
 (u (qc xx (e+1)) a))) (0:Int) q)
 (R eR k)) (0:Int) t)
 (λv=>
 Br (d<0) (R eS h) (Br (d>64)
 (R eS h)
 (v () h)))
theorem PK(a:Int)(b:Sl)(c:@Ix R h a b):ac xB 277 #[a,b] h R:=aw af func277 (al.tn (.two (.join [] [(4,5),(9,15)] .n) (.two (al.tn (.inn (.loop [(17,aZ)] [(4,5),(6,9),(17,61)] (al.tn (al.tn (.two (.inn (al.tn (.two (al.tn (.inn (.loop [(24,aZ)] [(4,5),(7,9),(24,51)] .n))) .n))) .n)))))) .n))) c
noncomputable def wd(a:aM):Prop:=
 aL (σ:=Unit) (λ_ y w=>
 ae xB 326 #[a] bw w λn j=>
 Br (n<0)
 (R (.tuple #[]) j)
 (∃a3,(a=dB a3)/\
 bj j a3 λv=>
 aQ v n λa5=>
 ∃u:Sl×Sl,aq j (a5.add (n.toNat*2)) 0 u/\
 ae xB 279 #[a,u] (.one (.agg [.slc,.slc])) j λx h3=>
 aT xB (qL 289 eR (.tuple #[])) h3 λc z=>
 ag xB (qf 289 c x) z λ_ b=>
 ∃a9,(a=dB a9)/\
 bj b (a9.add 1) λq=>
 bj b c λr=>
 aQ r (0:Int) λp=>
 be b (p.add ((0:Int).toNat*1)) λe=>
 ∃i,(a=dB i)/\
 bj b (i.add 2) λk=>
 bj b c λf=>
 aQ f (0:Int) λl=>
 be b (l.add ((0:Int).toNat*1)) λg=>
 bj b (c.add 1) λd=>
 aQ q e λo=>
 ag xB (qf 4 (o.add (e.toNat*1)) eR) b λ_ s=>
 (az.ok [(c.add 1,d),(c,f)] s)/\
 aQ k g λm=>
 ag xB (qf 71 (m.add (g.toNat*1)) d) s λ_ t=>
 (az.ok [] t)/\
 y () t)) () h
theorem GQ(a:aM)(b:@wd R h a):ac xB 278 #[a] h R:=aw af func278 (.scope 0 [] [(2,37)] [] [.n] []) b
noncomputable def uA(k:aM)(q:Sl×Sl):Prop:=
 aT xB (qM 289 q) h λB K=>
 aT xB (qL 289 eR (.tuple #[])) K λD G=>
 bj G (B.add 1) λx3=>
 ae xB 101 #[x3] aI G λL h3=>
 aT xB (qL 289 eR (.tuple #[])) h3 λa5 O=>
 ag xB (qf 289 a5 (xw #[(xr eH 0 0),L])) O λ_ F=>
 bj F B λE=>
 aL (σ:=Int) (λj H d=>
 Br (j<(E.len:Int))
 (aQ E j λI=>
 be d (I.add (j.toNat*1)) λn=>
 ∃m,(k=dB m)/\
 bj d (m.add 1) λA=>
 aQ A n λz=>
 sB d (z.add (n.toNat*1)) λt=>
 Br (!t)
 (bj d a5 λx=>
 aB xB (qq 22 1 #[(0,n)]) aI d λp J=>
 aB xB (qt #[22,22] 22 #[x,p]) aI J λs h8=>
 ag xB (qf 22 a5 s) h8 λ_ N=>
 H (qc xx (j+1)) N)
 (∃i,(k=dB i)/\
 bj d (i.add 2) λy=>
 aQ y n λo=>
 bj d (o.add (n.toNat*1)) λf=>
 aL (σ:=Int) (λa M c=>
 Br (a<(f.len:Int))
 (aQ f a λa22=>
 gv .u8 c (a22.add (a.toNat*1)) λv=>
 bj c (a5.add 1) λl=>
 aQ l a λa25=>
 gv .u8 c (a25.add (a.toNat*1)) λu=>
 aQ l a λr=>
 ag xB (qf 5 (r.add (a.toNat*1)) (xq xy (qc xy ((qD (qk xy) u^^^(qD (qk xy) v)).toNat:Nat)))) c λ_ w=>
 M (qc xx (a+1)) w)
 (H (qc xx (j+1)) c)) (0:Int) d))
 (∃e:Sl×Sl,aq d a5 0 e/\
 ag xB (qf 289 D e) d λ_ g=>
 ∃b:Sl×Sl,aq g D 0 b/\
 R b g)) (0:Int) F
theorem Fi(a:aM)(b:Sl×Sl)(c:@uA R h a b):ac xB 279 #[a,b] h R:=aw af func279 (al.tn (al.tn (.two (al.tn (.inn (.loop [(17,aZ)] [(7,10),(17,58)] (al.tn (al.tn (.two (.inn (al.tn (al.tn (al.tn (.inn (.loop [(43,aZ)] [(8,10),(43,57)] .n)))))) .n)))))) .n))) c
noncomputable def GB(a:Sl):Prop:=
 ae xB 230 #[a,abV] aI h λb c=>
 R (xv ((b.len:Int)==0)) c
theorem NI(a:Sl)(b:@GB R h a):ac xB 280 #[a] h R:=aw af func280 .n b
noncomputable def Iy(f:Int)(b:Sl):Prop:=
 aT xB (qL 293 eR (.tuple #[])) h λJ h1=>
 ae xB 327 #[f,b] bN h1 λr2 U=>
 Br (!r2)
 (ag xB (qf 293 J (xw #[(xr eH 0 0),(xr eH 0 0),(xr eH 0 0)])) U λ_ h3=>
 ∃m:Sl×Sl×Sl,aq h3 J 0 m/\
 R (.tuple #[m,eS]) h3)
 (bg (σ:=aM) (λa s=>
 ∃r,(a=dB r)/\
 bj s (r.add 1) λax=>
 aL (σ:=Int) (λl K2 q=>
 Br (l<(ax.len:Int))
 (∃I,(a=dB I)/\
 bj q (I.add 1) λX=>
 aQ X l λM=>
 ag xB (qf 4 (M.add (l.toNat*1)) eR) q λ_ am=>
 K2 (qc xx (l+1)) am)
 (aT xB (qL 293 eR (.tuple #[])) q λc a5=>
 aL (σ:=Unit) (λ_ K3 x=>
 ∃t,(a=dB t)/\
 bj x (t.add 1) λah=>
 ae xB 328 #[ah,eR] bN x λa8 n=>
 Br (!a8)
 (∃a22,(a=dB a22)/\
 bj n (a22.add 2) λA=>
 aL (σ:=Int) (λd K4 e=>
 Br (d<(A.len:Int))
 (aQ A d λa25=>
 sB e (a25.add (d.toNat*1)) λap=>
 Br (!ap)
 (bj e (c.add 2) λP=>
 aB xB (qq 22 1 #[(0,d)]) aI e λv28 a0=>
 aB xB (qt #[22,22] 22 #[P,v28]) aI a0 λbd ao=>
 ag xB (qf 22 (c.add 2) bd) ao λ_ O=>
 K4 (qc xx (d+1)) O)
 (K4 (qc xx (d+1)) e))
 (∃u:Sl×Sl×Sl,aq e c 0 u/\
 ag xB (qf 293 J u) e λ_ v=>
 ∃j:Sl×Sl×Sl,aq v J 0 j/\
 R (.tuple #[j,eR]) v)) (0:Int) n)
 (bg (σ:=Unit) (λ_ W=>
 K3 () W)
 (λK5=>
 ae xB 329 #[a] (.many [(.agg [(.int .i64),(.int .i64)]),iR]) n λy L=>
 aT xB (qL 357 eR (.tuple #[])) L λi N=>
 ag xB (qf 357 i y.1) N λ_ k=>
 Br y.2
 (bj k c λab=>
 ∃G:Int×Int,aq k i 0 G/\
 aB xB (qq 291 1 #[(0,G)]) aI k λay a7=>
 aB xB (qt #[291,291] 291 #[ab,ay]) aI a7 λa3 Y=>
 ag xB (qf 291 c a3) Y λ_ g=>
 ∃z,(a=dB z)/\
 bj g (z.add 2) λS=>
 be g i λB=>
 ∃D,(a=dB D)/\
 bj g (D.add 1) λa2=>
 be g (i.add 1) λo=>
 aQ S B λZ=>
 ag xB (qf 4 (Z.add (B.toNat*1)) eR) g λ_ w=>
 (az.ok [(i.add 1,o)] w)/\
 aQ a2 o λa45=>
 ag xB (qf 4 (a45.add (o.toNat*1)) eS) w λ_ E=>
 (az.ok [] E)/\
 K5 () E)
 (ae xB 330 #[a] bw k λp F=>
 bj F (c.add 1) λQ=>
 aB xB (qq 22 1 #[(0,p)]) aI F λV a4=>
 aB xB (qt #[22,22] 22 #[Q,V]) aI a4 λar K=>
 ag xB (qf 22 (c.add 1) ar) K λ_ H=>
 ∃a50,(a=dB a50)/\
 bj H (a50.add 1) λbb=>
 aQ bb p λad=>
 ag xB (qf 4 (ad.add (p.toNat*1)) eS) H λ_ T=>
 K5 () T)))) () a5)) (0:Int) s)
 (λK1=>
 (aB xB (qF 296 f f) aI U λv4 h4=>
 (az.ok [] h4)/\
 aB xB (qF 296 (xq xx (b.len:Int)) (xq xx (b.len:Int))) aI h4 λv5 h5=>
 (az.ok [] h5)/\
 aT xB (qM 399 (xw #[b,v4,v5])) h5 λa6 h6=>
 (az.ok [] h6)/\
 K1 (dB a6) h6)/\(aB xB (qF 296 (xq xx (b.len:Int)) (xq xx (b.len:Int))) aI U λv7 h7=>
 (az.ok [] h7)/\
 aB xB (qF 296 f f) aI h7 λv8 h8=>
 (az.ok [] h8)/\
 aT xB (qM 399 (xw #[b,v8,v7])) h8 λa9 h9=>
 (az.ok [] h9)/\
 K1 (dB a9) h9)))
theorem PL(a:Int)(b:Sl)(c:@Iy R h a b):ac xB 281 #[a,b] h R:=aw af func281 (al.tn (.scope 1 [] [(5,6),(9,14),(42,108)] [.n,(.join [(6,FX)] [(6,7),(19,27)] .n),(al.tn (.inn (.loop [(32,aZ)] [(7,8),(32,42)] .n))),.n] [(al.tn (.two (.join [] [(9,12),(48,88)] .n) .n))] [(0,[(.two (al.tn (.inn (.loop [(93,aZ)] [(12,14),(93,107)] .n))) .n)])])) c
noncomputable def jc(a:Sl)(b:cE):Prop:=
 ae xB 331 #[a,(.func (.func b.1) b.2.1 b.2.2)] bw h λd k=>
 Br (d==(-1:Int))
 (R a k)
 (aL (σ:=Int×Int) (λc l g=>
 Br (c.2<(a.len:Int))
 (aQ a c.2 λa3=>
 ∃i:Int×Int,aq g (a3.add (c.2.toNat*2)) 0 i/\
 aT xB (qL 357 eR (.tuple #[])) g λa5 h3=>
 ag xB (qf 357 a5 i) h3 λ_ m=>
 ∃e:Int×Int,aq m a5 0 e/\
 gY C b.1 (b.2.1.toList++[(xw #[e.1,e.2])]++b.2.2.toList) bN m λp f=>
 Br (!p)
 (∃j:Int×Int,aq f a5 0 j/\
 aQ a c.1 λa9=>
 ag xB (qf 357 (a9.add (c.1.toNat*2)) j) f λ_ n=>
 l (qc xx (c.1+1),qc xx (c.2+1)) n)
 (l (c.1,qc xx (c.2+1)) f))
 ((0<=c.1/\c.1<=(a.len:Int))/\
 ag xB (yw #[291] 0 #[(.slice (if a.cap=c.1.toNat then a.ptr else a.ptr.map (·.add (c.1.toNat*2))) (a.len-c.1.toNat) (a.cap-c.1.toNat))]) g λ_ o=>
 (0<=c.1/\c.1<=(a.cap:Int))/\
 R (xr a.ptr c.1.toNat a.cap) o)) (d,qc xx (d+1)) k)
theorem mN(b:Sl)(a:cE)(c:@jc R h b a):ac xB 282 #[b,(.func (.func a.1) a.2.1 a.2.2)] h R:=aw af func282 (al.tn (al.tn (al.tn (.two (al.tn (.inn (.loop [(5,aZ),(6,aZ)] [(5,8),(16,36)] .n))) .n)))) c
noncomputable def om(c:Int×Int)(a:Addr):Prop:=
 aT xB (qM 357 c) h λd b=>
 be b d λx2=>
 jU b a λx3=>
 ∃a4,(x3=dB a4)/\
 bj b (a4.add 5) λe=>
 R (decide (x2>=(e.len:Int))) b
theorem xP(b:Int×Int)(a:Addr)(c:@om R h b a):ac xB 283 #[b,a] h R:=aw af func283 .n c
noncomputable def mj(a:Sl)(b:cE):Prop:=
 ae xB 210 #[a,(.func (.func b.1) b.2.1 b.2.2)] bw h λe i=>
 Br (e==(-1:Int))
 (R a i)
 (aL (σ:=Int×Int) (λc g d=>
 Br (c.2<(a.len:Int))
 (aQ a c.2 λa3=>
 be d (a3.add (c.2.toNat*1)) λf=>
 gY C b.1 (b.2.1.toList++[(xq xx f)]++b.2.2.toList) bN d λm h3=>
 Br (!m)
 (aQ a c.1 λk=>
 ag xB (qf 3 (k.add (c.1.toNat*1)) f) h3 λ_ l=>
 g (qc xx (c.1+1),qc xx (c.2+1)) l)
 (g (c.1,qc xx (c.2+1)) h3))
 ((0<=c.1/\c.1<=(a.len:Int))/\
 ag xB (yw #[22] 0 #[(.slice (if a.cap=c.1.toNat then a.ptr else a.ptr.map (·.add (c.1.toNat*1))) (a.len-c.1.toNat) (a.cap-c.1.toNat))]) d λ_ j=>
 (0<=c.1/\c.1<=(a.cap:Int))/\
 R (xr a.ptr c.1.toNat a.cap) j)) (e,qc xx (e+1)) i)
theorem su(b:Sl)(a:cE)(c:@mj R h b a):ac xB 284 #[b,(.func (.func a.1) a.2.1 a.2.2)] h R:=aw af func284 (al.tn (al.tn (al.tn (.two (al.tn (.inn (.loop [(5,aZ),(6,aZ)] [(5,8),(16,36)] .n))) .n)))) c
noncomputable def oo(b:Int)(a:Addr):Prop:=
 jU h a λd=>
 ∃c,(d=dB c)/\
 bj h (c.add 5) λx3=>
 R (decide (b>=(x3.len:Int))) h
theorem xQ(b:Int)(a:Addr)(c:@oo R h b a):ac xB 285 #[b,a] h R:=aw af func285 .n c
noncomputable def sO(f:aM)(b:Int)(g:Int)(d:Sl)(c:Sl):Prop:=
 ∃B,(f=dB B)/\
 bj h (B.add 9) λx2=>
 aQ x2 g λa3=>
 bj h (a3.add (g.toNat*1)) λD=>
 aL (σ:=Int) (λe K i=>
 Br (e<(D.len:Int))
 (aQ D e λJ=>
 gv .u8 i (J.add (e.toNat*1)) λL=>
 aQ d e λE=>
 gv .u8 i (E.add (e.toNat*1)) λF=>
 ∃n,(f=dB n)/\
 jU i n λz=>
 ae xB 294 #[z,(xq xy b),(xq xy L)] (.one (.sc (.int .u8))) i λx H=>
 (az.ok [(E.add (e.toNat*1),(xq xy F))] H)/\
 aQ d e λu=>
 ag xB (qf 5 (u.add (e.toNat*1)) (xq xy (qc xy ((qD (qk xy) F^^^(qD (qk xy) x)).toNat:Nat)))) H λ_ h3=>
 (az.ok [] h3)/\
 K (qc xx (e+1)) h3)
 (∃p,(f=dB p)/\
 bj i (p.add 10) λq=>
 aQ q g λw=>
 bj i (w.add (g.toNat*1)) λm=>
 aL (σ:=Int) (λa I o=>
 Br (a<(m.len:Int))
 (aQ m a λr=>
 gv .u8 o (r.add (a.toNat*1)) λv=>
 aQ c a λk=>
 gv .u8 o (k.add (a.toNat*1)) λj=>
 ∃l,(f=dB l)/\
 jU o l λy=>
 ae xB 294 #[y,(xq xy b),(xq xy v)] (.one (.sc (.int .u8))) o λs G=>
 (az.ok [(k.add (a.toNat*1),(xq xy j))] G)/\
 aQ c a λt=>
 ag xB (qf 5 (t.add (a.toNat*1)) (xq xy (qc xy ((qD (qk xy) j^^^(qD (qk xy) s)).toNat:Nat)))) G λ_ A=>
 (az.ok [] A)/\
 I (qc xx (a+1)) A)
 (R (.tuple #[]) o)) (0:Int) i)) (0:Int) h
theorem DX(d:aM)(a:Int)(e:Int)(c:Sl)(b:Sl)(f:@sO R h d a e c b):ac xB 286 #[d,(xq xy a),e,c,b] h R:=aw af func286 (.two (al.tn (.inn (.loop [(22,aZ)] [(10,12),(22,41)] .n))) (al.tn (.inn (.loop [(49,aZ)] [(12,14),(49,68)] .n)))) f
noncomputable def rQ(b:Sl)(d:Int):Prop:=
 bg (σ:=Sl) (λf h3=>
 Br ((f.len:Int)==0)
 (R (xr eH 0 0) h3)
 (R f h3))
 (λe=>
 aL (σ:=Sl) (λa j c=>
 bg (σ:=Unit) (λ_ i=>
 (0<=(1:Int)/\(1:Int)<=(a.len:Int))/\
 j (⟨(if a.cap=(1:Int).toNat then a.ptr else a.ptr.map (·.add ((1:Int).toNat*1))),(a.len-(1:Int).toNat),(a.cap-(1:Int).toNat)⟩:Sl) i)
 (λg=>
 Br ((a.len:Int)>0) (aQ a (0:Int) λk=>
 gv .u8 c (k.add ((0:Int).toNat*1)) λx3=>
 Br (x3==d)
 (g () c)
 (e (⟨a.ptr,a.len,a.cap⟩:Sl) c)) (e (⟨a.ptr,a.len,a.cap⟩:Sl) c))) (⟨b.ptr,b.len,b.cap⟩:Sl) h)
theorem CY(b:Sl)(a:Int)(c:@rQ R h b a):ac xB 287 #[b,(xq xy a)] h R:=aw af func287 (al.tn (.two (.join [(0,cy)] [(0,1),(5,17)] (.inn (.loop [(0,cy)] [(0,1),(5,17)] (.two (.join [] [(5,15)] .n) .n)))) .n)) c
noncomputable def pT(b:Sl)(d:Int):Prop:=
 bg (σ:=Sl) (λj h3=>
 R j h3)
 (λe=>
 aL (σ:=Sl) (λa i c=>
 bg (σ:=Unit) (λ_ g=>
 (0<=(qc xx ((a.len:Int)-1))/\(qc xx ((a.len:Int)-1))<=(a.cap:Int))/\
 i (⟨a.ptr,(qc xx ((a.len:Int)-1)).toNat,a.cap⟩:Sl) g)
 (λf=>
 Br ((a.len:Int)>0) (aQ a (qc xx ((a.len:Int)-1)) λk=>
 gv .u8 c (k.add ((qc xx ((a.len:Int)-1)).toNat*1)) λx3=>
 Br (x3==d)
 (f () c)
 (e (⟨a.ptr,a.len,a.cap⟩:Sl) c)) (e (⟨a.ptr,a.len,a.cap⟩:Sl) c))) (⟨b.ptr,b.len,b.cap⟩:Sl) h)
theorem BH(b:Sl)(a:Int)(c:@pT R h b a):ac xB 288 #[b,(xq xy a)] h R:=aw af func288 (al.tn (.two (.join [(0,cy)] [(0,1),(5,23)] (.inn (.loop [(0,cy)] [(0,1),(5,23)] (.two (.join [] [(5,18)] .n) .n)))) .n)) c
noncomputable def DY(f:aM)(a:Int)(b:Int):Prop:=
 bg (σ:=Unit) (λ_ l=>
 ae xB 247 #[f] jt l λg c=>
 ∃a3,(g=dB a3)/\
 (0<=a/\a<((256:Nat):Int))/\
 be c ((a3.add 255).add (a.toNat*1)) λe=>
 ∃a5,(g=dB a5)/\
 (0<=b/\b<((256:Nat):Int))/\
 be c ((a5.add 255).add (b.toNat*1)) λd=>
 ((255:Int)≠0)/\
 ∃i,(g=dB i)/\
 (0<=(wk (qc xx (e+d)) 255)/\(wk (qc xx (e+d)) 255)<((255:Nat):Int))/\
 gv .u8 c (i.add ((wk (qc xx (e+d)) 255).toNat*1)) λk=>
 R (xq xy k) c)
 (λj=>
 Br (a==0) (R (xq xy 0) h) (Br (b==0)
 (R (xq xy 0) h)
 (j () h)))
theorem LK(b:aM)(a:Int)(c:Int)(d:@DY R h b a c):ac xB 294 #[b,(xq xy a),(xq xy c)] h R:=aw af func294 (al.tn (.two (.join [] [(6,7),(8,14)] .n) .n)) d
noncomputable def AW(a:Sl)(b:Int):Prop:=
 bg (σ:=Unit) (λ_ j=>
 aL (σ:=Int) (λc g d=>
 Br (c<(a.len:Int))
 (aQ a c λa5=>
 be d (a5.add (c.toNat*1)) λe=>
 Br (e>b)
 (R (qc xx (c+1)) d)
 (g (qc xx (c+1)) d))
 (R (xq xx 0) d)) (0:Int) j)
 (λi=>
 Br ((a.len:Int)==0) (R (xq xx 0) h) (Br (b<0) (R (xq xx 0) h) (aQ a (qc xx ((a.len:Int)-1)) λf=>
 be h (f.add ((qc xx ((a.len:Int)-1)).toNat*1)) λx2=>
 Br (b>=x2)
 (R (xq xx 0) h)
 (i () h))))
theorem Iz(a:Sl)(b:Int)(c:@AW R h a b):ac xB 295 #[a,b] h R:=aw af func295 (al.tn (.two (.join [] [(4,5),(7,24)] .n) (.two (al.tn (.inn (.loop [(26,aZ)] [(4,7),(26,37)] .n))) .n))) c
noncomputable def wf(b:aM)(a:Int):Prop:=
 bg (σ:=Unit) (λ_ f=>
 ae xB 233 #[b] (.one (.sc (.int .u32))) f λe c=>
 ((qc xA a)≠0)/\
 R (qc xx (wk (qc xA e) (qc xA a))) c)
 (λd=>
 Br (qT b) (R (xq xx 0) h) (Br (a<=0)
 (R (xq xx 0) h)
 (d () h)))
theorem GR(b:aM)(a:Int)(c:@wf R h b a):ac xB 296 #[b,a] h R:=aw af func296 (al.tn (.two (.join [] [(4,11)] .n) .n)) c
noncomputable def AX(a:Int)(b:Int):Prop:=
 ae xB 336 #[a] bw h λc i=>
 (a≠0)/\
 bg (σ:=Int) (λe d=>
 bg (σ:=Int) (λj k=>
 R j k)
 (λf=>
 (c≠0)/\
 Br (b<(qc xx (wA a c)))
 (((qc xx (a*b))≠0)/\
 f (qc xx (e+(qc xx (wA (qc xx (1048576*c)) (qc xx (a*b)))))) d)
 (Br (b==(qc xx (wA a c)))
 (ae xB 155 #[(xq xA (qc xA c))] bw d λl h3=>
 (a≠0)/\
 f (qc xx (e+(qc xx (wA (qc xx ((qc xx (1048576*c))*l)) a)))) h3)
 (f e d))))
 (λg=>
 Br (b>1)
 (((qc xx (b*(qc xx (b-1))))≠0)/\
 g (qc xx (wA 1048576 (qc xx (b*(qc xx (b-1)))))) i)
 (g (qc xx (wA 1048576 a)) i))
theorem IA(b:Int)(a:Int)(c:@AX R h b a):ac xB 297 #[b,a] h R:=aw af func297 (al.tn (al.tn (al.tn (.two (.join [(6,aZ)] [(6,7),(12,19)] .n) (.two (.join [(6,aZ)] [(6,8),(19,48)] .n) .n))))) c
noncomputable def iq(a:Sl)(i:Int)(n:Int)(b:cE):Prop:=
 aL (σ:=Int) (λk t r=>
 Br (k<n)
 (aL (σ:=Int) (λc w g=>
 bg (σ:=Unit) (λ_ o=>
 aQ a (qc xx (c-1)) λa9=>
 ∃j:fe,aq o (a9.add ((qc xx (c-1)).toNat*8)) 0 j/\
 aQ a c λl=>
 ∃f:fe,aq o (l.add (c.toNat*8)) 0 f/\
 aQ a c λm=>
 ag xB (qf 164 (m.add (c.toNat*8)) j) o λ_ s=>
 (az.ok [] s)/\
 aQ a (qc xx (c-1)) λp=>
 ag xB (qf 164 (p.add ((qc xx (c-1)).toNat*8)) f) s λ_ q=>
 (az.ok [] q)/\
 w (qc xx (c-1)) q)
 (λv=>
 Br (c>i) (aQ a c λa3=>
 ∃d:fe,aq g (a3.add (c.toNat*8)) 0 d/\
 aQ a (qc xx (c-1)) λa5=>
 ∃e:fe,aq g (a5.add ((qc xx (c-1)).toNat*8)) 0 e/\
 gY C b.1 (b.2.1.toList++[(xw #[d.1,d.2.1,d.2.2.1,d.2.2.2.1,d.2.2.2.2.1,d.2.2.2.2.2.1,(xq xz d.2.2.2.2.2.2.1),d.2.2.2.2.2.2.2]),(xw #[e.1,e.2.1,e.2.2.1,e.2.2.2.1,e.2.2.2.2.1,e.2.2.2.2.2.1,(xq xz e.2.2.2.2.2.2.1),e.2.2.2.2.2.2.2])]++b.2.2.toList) bw g λu h3=>
 (az.ok [] h3)/\
 Br (u<0)
 (v () h3)
 (t (qc xx (k+1)) h3)) ((az.ok [] g)/\
 t (qc xx (k+1)) g))) k r)
 (R (.tuple #[]) r)) (qc xx (i+1)) h
theorem lX(b:Sl)(c:Int)(d:Int)(a:cE)(e:@iq R h b c d a):ac xB 298 #[b,c,d,(.func (.func a.1) a.2.1 a.2.2)] h R:=aw af func298 (al.tn (.inn (.loop [(8,aZ)] [(8,10),(12,53)] (al.tn (.two (.inn (al.tn (.inn (.loop [(9,aZ)] [(9,10),(18,53)] (.two (.join [] [(18,35)] .n) .n))))) .n))))) e
noncomputable def jv(a:Sl)(d:Int)(e:Int)(f:Int)(b:cE):Prop:=
 Br ((qc xx (e-d))==1)
 (aL (σ:=Int×Int) (λn K1 A=>
 Br (n.1<n.2)
 ((0<=(1:Int))/\
 aQ a (qc xx (qX (qc xA (qc xx (n.1+n.2))) (2^min (1:Int).toNat (qk xA)))) λa2=>
 ∃x3:fe,aq A (a2.add ((qc xx (qX (qc xA (qc xx (n.1+n.2))) (2^min (1:Int).toNat (qk xA)))).toNat*8)) 0 x3/\
 aQ a d λa4=>
 ∃q:fe,aq A (a4.add (d.toNat*8)) 0 q/\
 gY C b.1 (b.2.1.toList++[(xw #[x3.1,x3.2.1,x3.2.2.1,x3.2.2.2.1,x3.2.2.2.2.1,x3.2.2.2.2.2.1,(xq xz x3.2.2.2.2.2.2.1),x3.2.2.2.2.2.2.2]),(xw #[q.1,q.2.1,q.2.2.1,q.2.2.2.1,q.2.2.2.2.1,q.2.2.2.2.2.1,(xq xz q.2.2.2.2.2.2.1),q.2.2.2.2.2.2.2])]++b.2.2.toList) bw A λr6 Q=>
 (az.ok [] Q)/\
 Br (r6<0)
 (K1 (qc xx ((qc xx (qX (qc xA (qc xx (n.1+n.2))) (2^min (1:Int).toNat (qk xA))))+1),n.2) Q)
 (K1 (n.1,qc xx (qX (qc xA (qc xx (n.1+n.2))) (2^min (1:Int).toNat (qk xA)))) Q))
 (aL (σ:=Int) (λp K2 h3=>
 Br (p<(qc xx (n.1-1)))
 (aQ a (qc xx (p+1)) λa8=>
 ∃Y:fe,aq h3 (a8.add ((qc xx (p+1)).toNat*8)) 0 Y/\
 aQ a p λT=>
 ∃x:fe,aq h3 (T.add (p.toNat*8)) 0 x/\
 aQ a p λU=>
 ag xB (qf 164 (U.add (p.toNat*8)) Y) h3 λ_ h4=>
 (az.ok [] h4)/\
 aQ a (qc xx (p+1)) λE=>
 ag xB (qf 164 (E.add ((qc xx (p+1)).toNat*8)) x) h4 λ_ Z=>
 (az.ok [] Z)/\
 K2 (qc xx (p+1)) Z)
 (R (.tuple #[]) h3)) d A)) (e,f) h)
 (Br ((qc xx (f-e))==1)
 (aL (σ:=Int×Int) (λg K3 z=>
 Br (g.1<g.2)
 ((0<=(1:Int))/\
 aQ a e λI=>
 ∃k:fe,aq z (I.add (e.toNat*8)) 0 k/\
 aQ a (qc xx (qX (qc xA (qc xx (g.1+g.2))) (2^min (1:Int).toNat (qk xA)))) λL=>
 ∃m:fe,aq z (L.add ((qc xx (qX (qc xA (qc xx (g.1+g.2))) (2^min (1:Int).toNat (qk xA)))).toNat*8)) 0 m/\
 gY C b.1 (b.2.1.toList++[(xw #[k.1,k.2.1,k.2.2.1,k.2.2.2.1,k.2.2.2.2.1,k.2.2.2.2.2.1,(xq xz k.2.2.2.2.2.2.1),k.2.2.2.2.2.2.2]),(xw #[m.1,m.2.1,m.2.2.1,m.2.2.2.1,m.2.2.2.2.1,m.2.2.2.2.2.1,(xq xz m.2.2.2.2.2.2.1),m.2.2.2.2.2.2.2])]++b.2.2.toList) bw z λJ F=>
 (az.ok [] F)/\
 Br (!(decide (J<0)))
 (K3 (qc xx ((qc xx (qX (qc xA (qc xx (g.1+g.2))) (2^min (1:Int).toNat (qk xA))))+1),g.2) F)
 (K3 (g.1,qc xx (qX (qc xA (qc xx (g.1+g.2))) (2^min (1:Int).toNat (qk xA)))) F))
 (aL (σ:=Int) (λi K4 h8=>
 Br (i>g.1)
 (aQ a (qc xx (i-1)) λM=>
 ∃u:fe,aq h8 (M.add ((qc xx (i-1)).toNat*8)) 0 u/\
 aQ a i λN=>
 ∃w:fe,aq h8 (N.add (i.toNat*8)) 0 w/\
 aQ a i λa25=>
 ag xB (qf 164 (a25.add (i.toNat*8)) u) h8 λ_ h9=>
 (az.ok [] h9)/\
 aQ a (qc xx (i-1)) λB=>
 ag xB (qf 164 (B.add ((qc xx (i-1)).toNat*8)) w) h9 λ_ y=>
 (az.ok [] y)/\
 K4 (qc xx (i-1)) y)
 (R (.tuple #[]) h8)) e z)) (d,e) h)
 ((0<=(1:Int))/\
 bg (σ:=Int×Int) (λv O=>
 aL (σ:=Int×Int) (λc X o=>
 Br (c.1<c.2)
 ((0<=(1:Int))/\
 aQ a (qc xx ((qc xx ((qc xx ((qc xx (qX (qc xA (qc xx (d+f))) (2^min (1:Int).toNat (qk xA))))+e))-1))-(qc xx (qX (qc xA (qc xx (c.1+c.2))) (2^min (1:Int).toNat (qk xA)))))) λS=>
 ∃j:fe,aq o (S.add ((qc xx ((qc xx ((qc xx ((qc xx (qX (qc xA (qc xx (d+f))) (2^min (1:Int).toNat (qk xA))))+e))-1))-(qc xx (qX (qc xA (qc xx (c.1+c.2))) (2^min (1:Int).toNat (qk xA)))))).toNat*8)) 0 j/\
 aQ a (qc xx (qX (qc xA (qc xx (c.1+c.2))) (2^min (1:Int).toNat (qk xA)))) λG=>
 ∃l:fe,aq o (G.add ((qc xx (qX (qc xA (qc xx (c.1+c.2))) (2^min (1:Int).toNat (qk xA)))).toNat*8)) 0 l/\
 gY C b.1 (b.2.1.toList++[(xw #[j.1,j.2.1,j.2.2.1,j.2.2.2.1,j.2.2.2.2.1,j.2.2.2.2.2.1,(xq xz j.2.2.2.2.2.2.1),j.2.2.2.2.2.2.2]),(xw #[l.1,l.2.1,l.2.2.1,l.2.2.2.1,l.2.2.2.2.1,l.2.2.2.2.2.1,(xq xz l.2.2.2.2.2.2.1),l.2.2.2.2.2.2.2])]++b.2.2.toList) bw o λH s=>
 (az.ok [] s)/\
 Br (!(decide (H<0)))
 (X (qc xx ((qc xx (qX (qc xA (qc xx (c.1+c.2))) (2^min (1:Int).toNat (qk xA))))+1),c.2) s)
 (X (c.1,qc xx (qX (qc xA (qc xx (c.1+c.2))) (2^min (1:Int).toNat (qk xA)))) s))
 (bg (σ:=Unit) (λ_ r=>
 bg (σ:=Unit) (λ_ t=>
 Br (decide ((qc xx (qX (qc xA (qc xx (d+f))) (2^min (1:Int).toNat (qk xA))))<(qc xx ((qc xx ((qc xx (qX (qc xA (qc xx (d+f))) (2^min (1:Int).toNat (qk xA))))+e))-c.1)))) (Br (decide ((qc xx ((qc xx ((qc xx (qX (qc xA (qc xx (d+f))) (2^min (1:Int).toNat (qk xA))))+e))-c.1))<f))
 (ae xB 299 #[a,(qc xx (qX (qc xA (qc xx (d+f))) (2^min (1:Int).toNat (qk xA)))),(qc xx ((qc xx ((qc xx (qX (qc xA (qc xx (d+f))) (2^min (1:Int).toNat (qk xA))))+e))-c.1)),f,(.func (.func b.1) b.2.1 b.2.2)] iF t λ_ K=>
 R (.tuple #[]) K)
 (R (.tuple #[]) t)) (R (.tuple #[]) t))
 (λP=>
 Br (d<c.1) (Br (decide (c.1<(qc xx (qX (qc xA (qc xx (d+f))) (2^min (1:Int).toNat (qk xA))))))
 (ae xB 299 #[a,d,c.1,(qc xx (qX (qc xA (qc xx (d+f))) (2^min (1:Int).toNat (qk xA)))),(.func (.func b.1) b.2.1 b.2.2)] iF r λ_ D=>
 P () D)
 (P () r)) (P () r)))
 (λW=>
 Br (c.1<e) (Br (decide (e<(qc xx ((qc xx ((qc xx (qX (qc xA (qc xx (d+f))) (2^min (1:Int).toNat (qk xA))))+e))-c.1))))
 (ae xB 337 #[a,c.1,e,(qc xx ((qc xx ((qc xx (qX (qc xA (qc xx (d+f))) (2^min (1:Int).toNat (qk xA))))+e))-c.1)),(.func (.func b.1) b.2.1 b.2.2)] iF o λ_ V=>
 W () V)
 (W () o)) (W () o)))) (v.1,v.2) O)
 (λK5=>
 Br (decide (e>(qc xx (qX (qc xA (qc xx (d+f))) (2^min (1:Int).toNat (qk xA))))))
 (K5 (qc xx ((qc xx ((qc xx (qX (qc xA (qc xx (d+f))) (2^min (1:Int).toNat (qk xA))))+e))-f),qc xx (qX (qc xA (qc xx (d+f))) (2^min (1:Int).toNat (qk xA)))) h)
 (K5 (d,e) h))))
theorem nk(b:Sl)(d:Int)(e:Int)(c:Int)(a:cE)(f:@jv R h b d e c a):ac xB 299 #[b,d,e,c,(.func (.func a.1) a.2.1 a.2.2)] h R:=aw af func299 (.two (al.tn (.two (al.tn (al.tn (.two (.inn (.loop [(10,aZ),(11,aZ)] [(10,13),(31,54)] .n)) (.two (al.tn (.inn (.loop [(13,aZ)] [(13,14),(55,77)] .n))) .n)))) .n)) (.two (al.tn (.two (al.tn (al.tn (.two (.inn (.loop [(14,aZ),(15,aZ)] [(14,17),(83,107)] .n)) (.two (al.tn (.inn (.loop [(17,aZ)] [(17,18),(108,129)] .n))) .n)))) .n)) (al.tn (al.tn (al.tn (.two (.join [(20,aZ),(21,aZ)] [(20,22),(138,147)] .n) (al.tn (.two (.inn (.loop [(20,aZ),(21,aZ)] [(20,22),(23,24),(149,175)] .n)) (al.tn (.two (.join [] [(178,192)] .n) (.two (.join [] [(192,206)] .n) .n))))))))))) f
noncomputable def IB(d:Sl)(b:Int)(a:Int):Prop:=
 aL (σ:=Int) (λc f e=>
 Br (c>=(d.len:Int))
 (R (xq xx (-1:Int)) e)
 (aQ d c λg=>
 bj e (g.add (c.toNat*1)) λx3=>
 aQ x3 a λa4=>
 gv .u8 e (a4.add (a.toNat*1)) λi=>
 Br (i !=0)
 (R c e)
 (f (qc xx (c+1)) e))) b h
theorem PM(c:Sl)(a:Int)(b:Int)(d:@IB R h c a b):ac xB 300 #[c,a,b] h R:=aw af func300 (al.tn (.scope 0 [(7,aZ)] [(6,8),(9,24)] [.n] [.n] [(1,[.n])])) d
noncomputable def KK(c:aM)(d:Int)(a:Sl):Prop:=
 ae xB 338 #[c] jt h λi o=>
 aB xB (qF 71 (xq xx (a.len:Int)) (xq xx (a.len:Int))) aI o λe g=>
 aL (σ:=Int) (λb j h3=>
 Br (b<(a.len:Int))
 (aQ a b λa4=>
 gv .u8 h3 (a4.add (b.toNat*1)) λk=>
 ae xB 294 #[i,(xq xy d),(xq xy k)] (.one (.sc (.int .u8))) h3 λn l=>
 aQ e b λm=>
 ag xB (qf 5 (m.add (b.toNat*1)) (xq xy n)) l λ_ f=>
 j (qc xx (b+1)) f)
 (R e h3)) (0:Int) g
theorem Sm(a:aM)(b:Int)(c:Sl)(d:@KK R h a b c):ac xB 301 #[a,(xq xy b),c] h R:=aw af func301 (al.tn (al.tn (al.tn (.two (al.tn (.inn (.loop [(17,aZ)] [(8,10),(17,30)] .n))) .n)))) d
noncomputable def DZ(b:aM)(a:Int):Prop:=
 Br (a==0)
 (R (xq xy 0) h)
 (ae xB 247 #[b] jt h λd c=>
 ∃e,(d=dB e)/\
 (0<=a/\a<((256:Nat):Int))/\
 be c ((e.add 255).add (a.toNat*1)) λx3=>
 ((255:Int)≠0)/\
 ∃a4,(d=dB a4)/\
 (0<=(wk (qc xx (255-x3)) 255)/\(wk (qc xx (255-x3)) 255)<((255:Nat):Int))/\
 gv .u8 c (a4.add ((wk (qc xx (255-x3)) 255).toNat*1)) λf=>
 R (xq xy f) c)
theorem LL(b:aM)(a:Int)(c:@DZ R h b a):ac xB 302 #[b,(xq xy a)] h R:=aw af func302 .n c
noncomputable def QV(f:aM)(d:Int)(c:Sl)(b:Sl):Prop:=
 Br (d==0)
 (R (.tuple #[]) h)
 (aL (σ:=Int) (λa j e=>
 Br (a<(c.len:Int))
 (aQ c a λl=>
 gv .u8 e (l.add (a.toNat*1)) λx3=>
 aQ b a λa4=>
 gv .u8 e (a4.add (a.toNat*1)) λi=>
 ae xB 294 #[f,(xq xy d),(xq xy x3)] (.one (.sc (.int .u8))) e λm g=>
 (az.ok [(a4.add (a.toNat*1),(xq xy i))] g)/\
 aQ b a λk=>
 ag xB (qf 5 (k.add (a.toNat*1)) (xq xy (qc xy ((qD (qk xy) i^^^(qD (qk xy) m)).toNat:Nat)))) g λ_ h3=>
 (az.ok [] h3)/\
 j (qc xx (a+1)) h3)
 (R (.tuple #[]) e)) (0:Int) h)
theorem WF(c:aM)(d:Int)(b:Sl)(a:Sl)(e:@QV R h c d b a):ac xB 303 #[c,(xq xy d),b,a] h R:=aw af func303 (al.tn (al.tn (.inn (.loop [(14,aZ)] [(8,10),(14,30)] .n)))) e
noncomputable def kv(b:Sl)(a:cE):Prop:=
 ae xB 339 #[b,(.func (.func a.1) a.2.1 a.2.2)] bw h λc d=>
 R (decide (c>=0)) d
theorem ow(b:Sl)(a:cE)(c:@kv R h b a):ac xB 304 #[b,(.func (.func a.1) a.2.1 a.2.2)] h R:=aw af func304 .n c
noncomputable def pU(b:Sl)(a:Addr):Prop:=
 be h a λc=>
 ae xB 50 #[b,c] bN h λd e=>
 R d e
theorem BI(b:Sl)(a:Addr)(c:@pU R h b a):ac xB 305 #[b,a] h R:=aw af func305 .n c
noncomputable def QW(a:Sl)(c:Sl):Prop:=
 Br ((a.len:Int) !=(c.len:Int))
 (R (.tuple #[(xr eH 0 0),eS]) h)
 (aB xB (qF 71 (xq xx (a.len:Int)) (xq xx (a.len:Int))) aI h λe k=>
 aL (σ:=Int) (λb i d=>
 Br (b<(a.len:Int))
 (aQ a b λa3=>
 gv .u8 d (a3.add (b.toNat*1)) λg=>
 aQ c b λa5=>
 gv .u8 d (a5.add (b.toNat*1)) λf=>
 aQ e b λj=>
 ag xB (qf 5 (j.add (b.toNat*1)) (xq xy (qc xy ((qD (qk xy) g^^^(qD (qk xy) f)).toNat:Nat)))) d λ_ h3=>
 (az.ok [] h3)/\
 i (qc xx (b+1)) h3)
 (R (.tuple #[e,eR]) d)) (0:Int) k)
theorem WG(a:Sl)(b:Sl)(c:@QW R h a b):ac xB 306 #[a,b] h R:=aw af func306 (al.tn (al.tn (al.tn (.two (al.tn (.inn (.loop [(18,aZ)] [(7,8),(18,34)] .n))) .n)))) c
noncomputable def IC(b:Nat×Nat)(d:Int):Prop:=
 ((4:Int)≠0)/\
 ((4:Int)≠0)/\
 aL (σ:=((Nat×Nat))×Int) (λa f e=>
 Br (decide (a.2<(wk (qc xx ((wk d 4)+4)) 4)))
 (∃c:Nat×Nat,(kN xB .mul 260 (.tmp 11) (.const (.complex .f64 0 4607182418800017408)) (.complex .f64 a.1.1 a.1.2) (.complex .f64 0 4607182418800017408) (.complex .f64 c.1 c.2))/\
 f ((c.1,c.2),qc xx (a.2+1)) e)
 (R (.complex .f64 a.1.1 a.1.2) e)) ((b.1,b.2),(0:Int)) h
theorem PN(a:Nat×Nat)(b:Int)(c:@IC R h a b):ac xB 313 #[(.complex .f64 a.1 a.2),b] h R:=aw af func313 (al.tn (.two (al.tn (.inn (.loop [(0,(.sc (.cpx .f64))),(9,aZ)] [(0,1),(9,14)] .n))) .n)) c
noncomputable def uB(e:aM):Prop:=
 ∃l,(e=dB l)/\
 bj h l λx2=>
 aL (σ:=Int) (λd r i=>
 Br (d<(x2.len:Int))
 (aQ x2 d λa4=>
 ∃p:Sl×Sl,aq i (a4.add (d.toNat*2)) 0 p/\
 aT xB (qL 289 eR (.tuple #[])) i λn q=>
 ag xB (qf 289 n p) q λ_ h3=>
 bj h3 n λo=>
 aL (σ:=Int×Int) (λa m b=>
 Br (a.2<(o.len:Int))
 (aQ o a.2 λa9=>
 be b (a9.add (a.2.toNat*1)) λf=>
 ∃c,(e=dB c)/\
 bj b (c.add 1) λk=>
 aQ k f λg=>
 sB b (g.add (f.toNat*1)) λj=>
 Br (!j)
 (m (qc xx (a.1+1),qc xx (a.2+1)) b)
 (m (a.1,qc xx (a.2+1)) b))
 (Br (a.1==1)
 (R d b)
 (r (qc xx (d+1)) b))) ((0:Int),(0:Int)) h3)
 (R (xq xx (-1:Int)) i)) (0:Int) h
theorem Fj(a:aM)(b:@uB R h a):ac xB 326 #[a] h R:=aw af func326 (al.tn (.two (al.tn (.inn (.loop [(13,aZ)] [(2,6),(7,8),(13,40)] (al.tn (al.tn (.two (.inn (al.tn (al.tn (.two (al.tn (.inn (.loop [(5,aZ),(21,aZ)] [(5,6),(7,8),(21,36)] .n))) .n)))) .n)))))) .n)) b
noncomputable def GC(b:Int)(c:Sl):Prop:=
 bg (σ:=Unit) (λ_ o=>
 aL (σ:=Int) (λd j e=>
 Br (d<(c.len:Int))
 (aQ c d λa3=>
 bj e (a3.add (d.toNat*1)) λf=>
 aL (σ:=Int) (λa i h3=>
 Br (a<(f.len:Int))
 (aQ f a λl=>
 be h3 (l.add (a.toNat*1)) λg=>
 Br (g<0) (R eS h3) (Br (g>=b) (R eS h3) (Br (a>0) (aQ f (qc xx (a-1)) λk=>
 be h3 (k.add ((qc xx (a-1)).toNat*1)) λn=>
 Br (n>=g)
 (R eS h3)
 (i (qc xx (a+1)) h3)) (i (qc xx (a+1)) h3))))
 (j (qc xx (d+1)) h3)) (0:Int) e)
 (R eR e)) (0:Int) o)
 (λm=>
 Br (b<0) (R eS h) (Br (b>64)
 (R eS h)
 (m () h)))
theorem NJ(a:Int)(b:Sl)(c:@GC R h a b):ac xB 327 #[a,b] h R:=aw af func327 (al.tn (.two (.join [] [(4,5),(9,15)] .n) (.two (al.tn (.inn (.loop [(17,aZ)] [(4,5),(6,9),(17,50)] (al.tn (al.tn (.two (.inn (al.tn (al.tn (.inn (.loop [(23,aZ)] [(4,5),(7,9),(23,49)] .n))))) .n)))))) .n))) c
noncomputable def mq(b:Sl)(a:Bool):Prop:=
 ae xB 348 #[b,a] bw h λc d=>
 R (decide (c>=0)) d
theorem sv(b:Sl)(a:Bool)(c:@mq R h b a):ac xB 328 #[b,a] h R:=aw af func328 .n c
noncomputable def rR(d:aM):Prop:=
 aT xB (qL 357 eR (.tuple #[])) h λg k=>
 ∃j,(d=dB j)/\
 bj k j λx3=>
 aL (σ:=Int) (λc n e=>
 Br (c<(x3.len:Int))
 (aQ x3 c λa5=>
 bj e (a5.add (c.toNat*1)) λq=>
 ∃l,(d=dB l)/\
 bj e (l.add 2) λp=>
 aQ p c λa9=>
 sB e (a9.add (c.toNat*1)) λi=>
 Br i
 (n (qc xx (c+1)) e)
 (ae xB 349 #[d,q] (.many [aZ,iR]) e λf h3=>
 Br f.2
 (ag xB (qf 357 g (xw #[c,f.1])) h3 λ_ o=>
 ∃a:Int×Int,aq o g 0 a/\
 R (.tuple #[a,eR]) o)
 (n (qc xx (c+1)) h3)))
 (ag xB (qf 357 g (xw #[(xq xx 0),(xq xx 0)])) e λ_ m=>
 ∃b:Int×Int,aq m g 0 b/\
 R (.tuple #[b,eS]) m)) (0:Int) k
theorem CZ(a:aM)(b:@rR R h a):ac xB 329 #[a] h R:=aw af func329 (al.tn (.two (al.tn (.inn (.loop [(13,aZ)] [(3,8),(13,36)] .n))) .n)) b
noncomputable def rS(b:aM):Prop:=
 ∃y,(b=dB y)/\
 bj h (y.add 1) λx2=>
 aB xB (qF 22 (xq xx (x2.len:Int)) (xq xx (x2.len:Int))) aI h λv3 A=>
 ∃a4,(b=dB a4)/\
 bj A a4 λD=>
 aL (σ:=Int) (λe F l=>
 Br (e<(D.len:Int))
 (aQ D e λE=>
 bj l (E.add (e.toNat*1)) λz=>
 aL (σ:=Int) (λj B h3=>
 Br (j<(z.len:Int))
 (aQ z j λv=>
 be h3 (v.add (j.toNat*1)) λc=>
 ∃i,(b=dB i)/\
 bj h3 (i.add 2) λq=>
 aQ q e λx=>
 sB h3 (x.add (e.toNat*1)) λn=>
 Br (!n)
 (aQ v3 c λr=>
 be h3 (r.add (c.toNat*1)) λt=>
 aQ v3 c λw=>
 ag xB (qf 3 (w.add (c.toNat*1)) (qc xx (t+1))) h3 λ_ G=>
 B (qc xx (j+1)) G)
 (B (qc xx (j+1)) h3))
 (F (qc xx (e+1)) h3)) (0:Int) l)
 (∃f,(b=dB f)/\
 bj l (f.add 1) λg=>
 aL (σ:=Int×Int) (λa k d=>
 Br (a.2<(g.len:Int))
 (aQ g a.2 λa22=>
 sB d (a22.add (a.2.toNat*1)) λs=>
 Br s (Br (a.1<0) (k (a.2,qc xx (a.2+1)) d) (aQ v3 a.2 λp=>
 be d (p.add (a.2.toNat*1)) λu=>
 aQ v3 a.1 λo=>
 be d (o.add (a.1.toNat*1)) λm=>
 Br (u>m)
 (k (a.2,qc xx (a.2+1)) d)
 (k (a.1,qc xx (a.2+1)) d))) (k (a.1,qc xx (a.2+1)) d))
 (R a.1 d)) ((-1:Int),(0:Int)) l)) (0:Int) A
theorem Da(a:aM)(b:@rS R h a):ac xB 330 #[a] h R:=aw af func330 (al.tn (al.tn (.two (al.tn (.inn (.loop [(22,aZ)] [(4,6),(7,8),(22,49)] (al.tn (al.tn (.two (.inn (al.tn (al.tn (.inn (.loop [(29,aZ)] [(7,8),(29,48)] .n))))) .n)))))) (al.tn (.two (al.tn (.inn (.loop [(8,aZ),(54,aZ)] [(8,11),(54,77)] .n))) .n))))) b
end Go.Qw
namespace Go.Qw
open Go Go.Vc Go.Proofs
variable {R:Hb} {h:Heap}
noncomputable def ji(c:Sl)(a:cE):Prop:=
 aL (σ:=Int) (λb g d=>
 Br (b<(c.len:Int))
 (aQ c b λi=>
 ∃x3:Int×Int,aq d (i.add (b.toNat*2)) 0 x3/\
 gY C a.1 (a.2.1.toList++[(xw #[x3.1,x3.2])]++a.2.2.toList) bN d λf e=>
 Br f
 (R b e)
 (g (qc xx (b+1)) e))
 (R (xq xx (-1:Int)) d)) (0:Int) h
theorem mZ(b:Sl)(a:cE)(c:@ji R h b a):ac xB 331 #[b,(.func (.func a.1) a.2.1 a.2.2)] h R:=aw af func331 (al.tn (.two (al.tn (.inn (.loop [(8,aZ)] [(4,6),(8,19)] .n))) .n)) c
noncomputable def Ea(b:Int):Prop:=
 aL (σ:=Int) (λa d c=>
 Br ((qc xx (a*a))<b)
 (d (qc xx (a+1)) c)
 (R a c)) (0:Int) h
theorem LM(a:Int)(b:@Ea R h a):ac xB 336 #[a] h R:=aw af func336 (al.tn (al.tn (.two (.inn (.loop [(3,aZ)] [(3,11)] .n)) .n))) b
noncomputable def jY(b:Sl)(f:Int)(d:Int)(e:Int)(a:cE):Prop:=
 aL (σ:=Int×Int) (λc i g=>
 Br (c.1 !=c.2)
 (Br (c.1>c.2)
 (ae xB 352 #[b,(qc xx (d-c.1)),d,c.2,(.func (.func a.1) a.2.1 a.2.2)] iF g λ_ j=>
 i (qc xx (c.1-c.2),c.2) j)
 (ae xB 352 #[b,(qc xx (d-c.1)),(qc xx ((qc xx (d+c.2))-c.1)),c.1,(.func (.func a.1) a.2.1 a.2.2)] iF g λ_ h3=>
 i (c.1,qc xx (c.2-c.1)) h3))
 (ae xB 352 #[b,(qc xx (d-c.1)),d,c.1,(.func (.func a.1) a.2.1 a.2.2)] iF g λ_ k=>
 R (.tuple #[]) k)) (qc xx (d-f),qc xx (e-d)) h
theorem nY(b:Sl)(d:Int)(e:Int)(c:Int)(a:cE)(f:@jY R h b d e c a):ac xB 337 #[b,d,e,c,(.func (.func a.1) a.2.1 a.2.2)] h R:=aw af func337 (al.tn (al.tn (.two (.inn (.loop [(10,aZ),(11,aZ)] [(10,12),(18,50)] .n)) .n))) f
noncomputable def NK(a:aM):Prop:=
 Br (qT a)
 (ae xB 109 #[] jt h λb c=>
 R b c)
 (R a h)
theorem Uw(a:aM)(b:@NK R h a):ac xB 338 #[a] h R:=aw af func338 .n b
noncomputable def lH(c:Sl)(a:cE):Prop:=
 aL (σ:=Int) (λb g d=>
 Br (b<(c.len:Int))
 (aQ c b λi=>
 bj d (i.add (b.toNat*1)) λx3=>
 gY C a.1 (a.2.1.toList++[(xr x3.ptr x3.len x3.cap)]++a.2.2.toList) bN d λf e=>
 Br f
 (R b e)
 (g (qc xx (b+1)) e))
 (R (xq xx (-1:Int)) d)) (0:Int) h
theorem re(b:Sl)(a:cE)(c:@lH R h b a):ac xB 339 #[b,(.func (.func a.1) a.2.1 a.2.2)] h R:=aw af func339 (al.tn (.two (al.tn (.inn (.loop [(8,aZ)] [(4,6),(8,19)] .n))) .n)) c
noncomputable def nF(b:Sl)(d:Bool):Prop:=
 aL (σ:=Int) (λa e c=>
 Br (a<(b.len:Int))
 (aQ b a λf=>
 sB c (f.add (a.toNat*1)) λx3=>
 Br (d==x3)
 (R a c)
 (e (qc xx (a+1)) c))
 (R (xq xx (-1:Int)) c)) (0:Int) h
theorem uM(b:Sl)(a:Bool)(c:@nF R h b a):ac xB 348 #[b,a] h R:=aw af func348 (al.tn (.two (al.tn (.inn (.loop [(8,aZ)] [(4,6),(8,19)] .n))) .n)) c
noncomputable def oO(d:aM)(c:Sl):Prop:=
 aL (σ:=bS) (λa e b=>
 Br (a.2.2<(c.len:Int))
 (aQ c a.2.2 λi=>
 be b (i.add (a.2.2.toNat*1)) λx3=>
 ∃a4,(d=dB a4)/\
 bj b (a4.add 1) λj=>
 aQ j x3 λf=>
 sB b (f.add (x3.toNat*1)) λg=>
 Br g
 (e (x3,qc xx (a.2.1+1),qc xx (a.2.2+1)) b)
 (e (a.1,a.2.1,qc xx (a.2.2+1)) b))
 (R (.tuple #[a.1,(xv (a.2.1==1))]) b)) ((0:Int),(0:Int),(0:Int)) h
theorem AY(a:aM)(b:Sl)(c:@oO R h a b):ac xB 349 #[a,b] h R:=aw af func349 (al.tn (al.tn (.two (al.tn (.inn (.loop [(6,aZ),(7,aZ),(12,aZ)] [(6,8),(9,10),(12,27)] .n))) .n))) c
noncomputable def jk(a:Sl)(c:Int)(d:Int)(g:Int)(f:cE):Prop:=
 aL (σ:=Int) (λb l e=>
 Br (b<g)
 (aQ a (qc xx (d+b)) λn=>
 ∃x3:fe,aq e (n.add ((qc xx (d+b)).toNat*8)) 0 x3/\
 aQ a (qc xx (c+b)) λa4=>
 ∃j:fe,aq e (a4.add ((qc xx (c+b)).toNat*8)) 0 j/\
 aQ a (qc xx (c+b)) λk=>
 ag xB (qf 164 (k.add ((qc xx (c+b)).toNat*8)) x3) e λ_ i=>
 (az.ok [] i)/\
 aQ a (qc xx (d+b)) λm=>
 ag xB (qf 164 (m.add ((qc xx (d+b)).toNat*8)) j) i λ_ h3=>
 (az.ok [] h3)/\
 l (qc xx (b+1)) h3)
 (R (.tuple #[]) e)) (0:Int) h
theorem na(b:Sl)(c:Int)(d:Int)(e:Int)(a:cE)(f:@jk R h b c d e a):ac xB 352 #[b,c,d,e,(.func (.func a.1) a.2.1 a.2.2)] h R:=aw af func352 (al.tn (.inn (.loop [(10,aZ)] [(10,38)] .n))) f
end Go.Qw
