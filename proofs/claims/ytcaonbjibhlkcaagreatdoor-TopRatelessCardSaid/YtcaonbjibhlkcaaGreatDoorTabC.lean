/- Lemmas for the proof of the law; no condition. -/
import Derived.Test.YtcaonbjibhlkcaaGreatDoorTabA
set_option linter.unusedVariables false
open Go.Proofs.Tryz renaming prog -> xv
open Go.Value renaming agg -> xp, bool -> xo, int -> xk, slice -> xl, string -> xn
open Go.IntKind renaming bits -> qk, i64 -> xq, u32 -> xt, u64 -> xu, u8 -> xr, wrap -> qc
open Go.Instr renaming alloc -> qP, box -> qH, buildSlice -> qt, makeSlice -> qB, storeAt -> qf
open Option renaming isNone -> q9
open Go.Builtin renaming append_ -> qq, copy_ -> wz
open BitVec renaming ofInt -> qu
open Int renaming fdiv -> qQ, tdiv -> z8, tmod -> zZ
open Go.Proofs.Tryz
set_option maxRecDepth 1000000
namespace Go.Qw
noncomputable section
open Go Go.Vc Go.Proofs
variable {R:Cu} {h:Heap}
def ov(b:aP):Prop:=
 ∃a1,(b=some a1)/\
 ∃x2:Sl,cellOf h ((a1.add 6).add 1)=some (x2:Value)/\
 aW (σ:=Unit) (fun _ b6=>
 ∃bd,(b=some bd)/\
 ∃w:Sl,cellOf b6 ((bd.add 6).add 1)=some (w:Value)/\
 aG (σ:=Int) (fun g K2 i=>
 Br (g<(w.len:Int))
 (∃a9,(w.ptr=some a9/\0<=g/\g<(w.len:Int))/\
 ∃a,cellOf i (a9.add (g.toNat*1))=some (xk xq a)/\
 aW (σ:=Unit) (fun _ O=>
 ∃b7,(b=some b7)/\
 ∃P:Sl,cellOf O (b7.add 9)=some (P:Value)/\
 ∃bb,(P.ptr=some bb/\0<=a/\a<(P.len:Int))/\
 ∃J:Sl,cellOf O (bb.add (a.toNat*1))=some (J:Value)/\
 ∃Y,(J.ptr=some Y/\0<=g/\g<(J.len:Int))/\
 ae xv (qf 5 (Y.add (g.toNat*1)) (xk xr 1)) O fun _ c2=>
 K2 (qc xq (g+1)) c2)
 (fun K3=>
 ∃l,(b=some l)/\
 ∃d:Sl,cellOf i (l.add 9)=some (d:Value)/\
 ∃a25,(b=some a25)/\
 ∃c:Sl,cellOf i (a25.add 10)=some (c:Value)/\
 ∃F,(b=some F)/\
 ∃f,cellOf i ((F.add 1).add 2)=some (xk xq f)/\
 (aw xv (qB 23 (xk xq (x2.len:Int)) (xk xq (x2.len:Int))) aK i fun bk I=>
 (aq.ok [((F.add 1).add 2,f),(a25.add 10,c),(l.add 9,d)] I)/\
 ∃E,(d.ptr=some E/\0<=a/\a<(d.len:Int))/\
 (aw xv (qB 23 f f) aK I fun c7 cc=>
 (aq.ok [(a25.add 10,c),(l.add 9,d)] cc)/\
 ae xv (qf 23 (E.add (a.toNat*1)) bk) cc fun _ cp=>
 (aq.ok [] cp)/\
 ∃cd,(c.ptr=some cd/\0<=a/\a<(c.len:Int))/\
 ae xv (qf 23 (cd.add (a.toNat*1)) c7) cp fun _ b3=>
 (aq.ok [] b3)/\
 K3 () b3)/\(ae xv (qf 23 (E.add (a.toNat*1)) bk) I fun _ X=>
 (aq.ok [] X)/\
 aw xv (qB 23 f f) aK X fun c3 b9=>
 (aq.ok [] b9)/\
 ∃b4,(c.ptr=some b4/\0<=a/\a<(c.len:Int))/\
 ae xv (qf 23 (b4.add (a.toNat*1)) c3) b9 fun _ cf=>
 (aq.ok [] cf)/\
 K3 () cf))/\(aw xv (qB 23 f f) aK i fun cq a6=>
 (aq.ok [(a25.add 10,c),(l.add 9,d)] a6)/\
 aw xv (qB 23 (xk xq (x2.len:Int)) (xk xq (x2.len:Int))) aK a6 fun c1 U=>
 (aq.ok [(a25.add 10,c),(l.add 9,d)] U)/\
 ∃a4,(d.ptr=some a4/\0<=a/\a<(d.len:Int))/\
 ae xv (qf 23 (a4.add (a.toNat*1)) c1) U fun _ b5=>
 (aq.ok [] b5)/\
 ∃bl,(c.ptr=some bl/\0<=a/\a<(c.len:Int))/\
 ae xv (qf 23 (bl.add (a.toNat*1)) cq) b5 fun _ S=>
 (aq.ok [] S)/\
 K3 () S)))
 (∃a45,(b=some a45)/\
 ∃z:Sl,cellOf i (a45.add 6)=some (z:Value)/\
 aG (σ:=Int) (fun m K4 N=>
 Br (m<(z.len:Int))
 (∃T,(z.ptr=some T/\0<=m/\m<(z.len:Int))/\
 ∃a2:Int×Int,al N (T.add (m.toNat*2)) 0 a2/\
 aO xv (qP 269 true (.tuple #[])) N fun a50 c6=>
 ae xv (qf 269 a50 a2) c6 fun _ s=>
 aW (σ:=Addr) (fun K Q=>
 aW (σ:=Sl×Sl) (fun q ad=>
 ∃t:Sl,cellOf ad K=some (t:Value)/\
 aG (σ:=Int) (fun k K7 e=>
 Br (k<(t.len:Int))
 (∃a66,(t.ptr=some a66/\0<=k/\k<(t.len:Int))/\
 ∃H,cellOf e (a66.add (k.toNat*1))=some (xk xq H)/\
 ∃a7,cellOf e (a50.add 1)=some (xk xq a7)/\
 Br (H !=a7)
 (af xv 202 #[b,(xk xr 1),H,q.1,q.2] ic e fun _ c0=>
 K7 (qc xq (k+1)) c0)
 (K7 (qc xq (k+1)) e))
 (∃a70,(b=some a70)/\
 ∃D:Sl,cellOf e (a70.add 9)=some (D:Value)/\
 ∃y,cellOf e (a50.add 1)=some (xk xq y)/\
 ∃bq,(b=some bq)/\
 ∃M:Sl,cellOf e (bq.add 10)=some (M:Value)/\
 ∃o,cellOf e (a50.add 1)=some (xk xq o)/\
 ∃a76,(D.ptr=some a76/\0<=y/\y<(D.len:Int))/\
 ae xv (qf 23 (a76.add (y.toNat*1)) q.1) e fun _ bs=>
 (aq.ok [(a50.add 1,o)] bs)/\
 ∃a77,(M.ptr=some a77/\0<=o/\o<(M.len:Int))/\
 ae xv (qf 23 (a77.add (o.toNat*1)) q.2) bs fun _ ay=>
 (aq.ok [] ay)/\
 K4 (qc xq (m+1)) ay)) (0:Int) ad)
 (fun K6=>
 ∃v:Sl,cellOf Q (K.add 1)=some (v:Value)/\
 (aw xv (qB 23 (xk xq (x2.len:Int)) (xk xq (x2.len:Int))) aK Q fun L a0=>
 (aq.ok [(K.add 1,v)] a0)/\
 af xv 29 #[v] aK a0 fun A am=>
 (aq.ok [] am)/\
 K6 ((⟨L.ptr,L.len,L.cap⟩:Sl),(⟨A.ptr,A.len,A.cap⟩:Sl)) am)/\(af xv 29 #[v] aK Q fun B cn=>
 (aq.ok [] cn)/\
 aw xv (qB 23 (xk xq (x2.len:Int)) (xk xq (x2.len:Int))) aK cn fun G V=>
 (aq.ok [] V)/\
 K6 ((⟨G.ptr,G.len,G.cap⟩:Sl),(⟨B.ptr,B.len,B.cap⟩:Sl)) V)))
 (fun K5=>
 ∃a51,(b=some a51)/\
 ∃p:Sl,cellOf s (a51.add 5)=some (p:Value)/\
 ∃j,cellOf s a50=some (xk xq j)/\
 ∃u,(p.ptr=some u/\0<=j/\j<(p.len:Int))/\
 ∃x:Sl×Sl,al s (u.add (j.toNat*2)) 0 x/\
 aO xv (qP 183 true (.tuple #[])) s fun ah W=>
 (aq.ok [(u.add (j.toNat*2),x.1),((u.add (j.toNat*2)).add 1,x.2),(a50,j),(a51.add 5,p)] W)/\
 ae xv (qf 183 ah x) W fun _ b2=>
 (aq.ok [] b2)/\
 K5 ah b2))
 (R (.tuple #[]) N)) (0:Int) i)) (0:Int) b6)
 (fun K1=>
 ∃a3,(b=some a3)/\
 ∃r:Sl,cellOf h (a3.add 4)=some (r:Value)/\
 ∃a5,(b=some a5)/\
 ∃n:Sl,cellOf h (a5.add 4)=some (n:Value)/\
 (aw xv (qB 49 (xk xq (r.len:Int)) (xk xq (r.len:Int))) aK h fun v7 h1=>
 (aq.ok [(a5.add 4,n),(a3.add 4,r)] h1)/\
 ∃a8,(b=some a8)/\
 (aw xv (qB 49 (xk xq (n.len:Int)) (xk xq (n.len:Int))) aK h1 fun v9 h2=>
 (aq.ok [(a5.add 4,n),(a3.add 4,r)] h2)/\
 ae xv (qf 49 (a8.add 9) v7) h2 fun _ h3=>
 (aq.ok [] h3)/\
 ∃b1,(b=some b1)/\
 ae xv (qf 49 (b1.add 10) v9) h3 fun _ h4=>
 (aq.ok [] h4)/\
 K1 () h4)/\(ae xv (qf 49 (a8.add 9) v7) h1 fun _ h5=>
 (aq.ok [] h5)/\
 aw xv (qB 49 (xk xq (n.len:Int)) (xk xq (n.len:Int))) aK h5 fun cr h6=>
 (aq.ok [] h6)/\
 ∃ax,(b=some ax)/\
 ae xv (qf 49 (ax.add 10) cr) h6 fun _ h7=>
 (aq.ok [] h7)/\
 K1 () h7))/\(aw xv (qB 49 (xk xq (n.len:Int)) (xk xq (n.len:Int))) aK h fun cs h8=>
 (aq.ok [(a5.add 4,n),(a3.add 4,r)] h8)/\
 aw xv (qB 49 (xk xq (r.len:Int)) (xk xq (r.len:Int))) aK h8 fun c4 h9=>
 (aq.ok [(a5.add 4,n),(a3.add 4,r)] h9)/\
 ∃Z,(b=some Z)/\
 ae xv (qf 49 (Z.add 9) c4) h9 fun _ b0=>
 (aq.ok [] b0)/\
 ∃ap,(b=some ap)/\
 ae xv (qf 49 (ap.add 10) cs) b0 fun _ br=>
 (aq.ok [] br)/\
 K1 () br))
theorem xR(a:aP)(b:@ov R h a):ab xv 124 #[a] h R:=ao ac func124 (ak.tn (.two (.join [] [(18,36)] .n) (.two (ak.tn (.inn (.loop [(42,aS)] [(3,5),(42,77)] (ak.tn (ak.tn (.two (.inn (ak.tn (.two (.join [] [(47,67)] .n) .n))) .n)))))) (ak.tn (.inn (.loop [(83,aS)] [(6,10),(11,12),(83,134)] (ak.tn (ak.tn (.two (.inn (ak.tn (.two (.join [(7,(.sc .adr))] [(7,8),(87,95)] .n) (.two (.join [(8,ca),(9,ca)] [(8,10),(95,100)] .n) (.two (ak.tn (.inn (.loop [(103,aS)] [(11,12),(103,117)] .n))) .n))))) .n))))))))) b
def pj(b:aP):Prop:=
 ∃q,(b=some q)/\
 ∃x2:Sl,cellOf h (q.add 4)=some (x2:Value)/\
 aG (σ:=Int) (fun a p e=>
 Br (a<(x2.len:Int))
 (∃a4,(x2.ptr=some a4/\0<=a/\a<(x2.len:Int))/\
 ∃m:Sl,cellOf e (a4.add (a.toNat*1))=some (m:Value)/\
 Br (!(q9 m.ptr))
 (∃k,(b=some k)/\
 ∃j:Sl,cellOf e (k.add 9)=some (j:Value)/\
 ∃n,(b=some n)/\
 ∃i:Sl,cellOf e (n.add 10)=some (i:Value)/\
 ∃d,(b=some d)/\
 ∃c:Sl,cellOf e ((d.add 6).add 1)=some (c:Value)/\
 aw xv (qB 23 (xk xq (c.len:Int)) (xk xq (c.len:Int))) aK e fun l o=>
 (aq.ok [((d.add 6).add 1,c),(n.add 10,i),(k.add 9,j)] o)/\
 ∃g,(j.ptr=some g/\0<=a/\a<(j.len:Int))/\
 ae xv (qf 23 (g.add (a.toNat*1)) l) o fun _ h3=>
 (aq.ok [] h3)/\
 ∃f,(i.ptr=some f/\0<=a/\a<(i.len:Int))/\
 ae xv (qf 23 (f.add (a.toNat*1)) m) h3 fun _ r=>
 (aq.ok [] r)/\
 p (qc xq (a+1)) r)
 (p (qc xq (a+1)) e))
 (R (.tuple #[]) e)) (0:Int) h
theorem AS(a:aP)(b:@pj R h a):ab xv 125 #[a] h R:=ao ac func125 (ak.tn (.inn (.loop [(9,aS)] [(2,4),(9,37)] .n))) b
def ow(b:aP):Prop:=
 ∃a1,(b=some a1)/\
 ∃x2:Sl,cellOf h ((a1.add 6).add 1)=some (x2:Value)/\
 ∃a3,(b=some a3)/\
 ∃U:Sl,cellOf h ((a3.add 6).add 2)=some (U:Value)/\
 aG (σ:=Sl×Sl×Int) (fun e K1 r=>
 Br (e.2.2<(U.len:Int))
 (∃a6,(U.ptr=some a6/\0<=e.2.2/\e.2.2<(U.len:Int))/\
 ∃n,cellOf r (a6.add (e.2.2.toNat*1))=some (xk xq n)/\
 aW (σ:=Sl×Sl) (fun i Y=>
 ∃I,(b=some I)/\
 ∃B:Sl,cellOf Y (I.add 5)=some (B:Value)/\
 ∃N,(B.ptr=some N/\0<=n/\n<(B.len:Int))/\
 ∃k:Sl,cellOf Y (N.add (n.toNat*2))=some (k:Value)/\
 aG (σ:=Int) (fun g K3 h7=>
 Br (g<(k.len:Int))
 (∃a22,(k.ptr=some a22/\0<=g/\g<(k.len:Int))/\
 ∃K,cellOf h7 (a22.add (g.toNat*1))=some (xk xq K)/\
 af xv 202 #[b,(xk xr 1),K,i.1,i.2] ic h7 fun _ h8=>
 K3 (qc xq (g+1)) h8)
 (aw xv (qt 49 1 #[(0,i.1)]) aK h7 fun v25 h9=>
 aw xv (qq #[49,49] 49 #[e.1,v25]) aK h9 fun x am=>
 aw xv (qt 49 1 #[(0,i.2)]) aK am fun ah ad=>
 aw xv (qq #[49,49] 49 #[e.2.1,ah]) aK ad fun v28 a0=>
 K1 ((⟨x.ptr,x.len,x.cap⟩:Sl),(⟨v28.ptr,v28.len,v28.cap⟩:Sl),qc xq (e.2.2+1)) a0)) (0:Int) Y)
 (fun K2=>
 ∃G,(b=some G)/\
 ∃A:Sl,cellOf r (G.add 5)=some (A:Value)/\
 ∃z,(A.ptr=some z/\0<=n/\n<(A.len:Int))/\
 ∃l:Sl,cellOf r ((z.add (n.toNat*2)).add 1)=some (l:Value)/\
 (aw xv (qB 23 (xk xq (x2.len:Int)) (xk xq (x2.len:Int))) aK r fun E h2=>
 (aq.ok [((z.add (n.toNat*2)).add 1,l),(G.add 5,A)] h2)/\
 af xv 29 #[l] aK h2 fun o h3=>
 (aq.ok [(G.add 5,A)] h3)/\
 K2 ((⟨E.ptr,E.len,E.cap⟩:Sl),(⟨o.ptr,o.len,o.cap⟩:Sl)) h3)/\(af xv 29 #[l] aK r fun y h4=>
 (aq.ok [(G.add 5,A)] h4)/\
 aw xv (qB 23 (xk xq (x2.len:Int)) (xk xq (x2.len:Int))) aK h4 fun D h5=>
 (aq.ok [(G.add 5,A)] h5)/\
 K2 ((⟨D.ptr,D.len,D.cap⟩:Sl),(⟨y.ptr,y.len,y.cap⟩:Sl)) h5)))
 (∃L,(b=some L)/\
 ∃J:bm,al r (L.add 1) 0 J/\
 af xv 43 #[J] aK r fun v ap=>
 aG (σ:=Sl×Sl×Int) (fun a K4 f=>
 Br (a.2.2<(v.len:Int))
 (∃S,(v.ptr=some S/\0<=a.2.2/\a.2.2<(v.len:Int))/\
 ∃m:Sl,cellOf f (S.add (a.2.2.toNat*1))=some (m:Value)/\
 aW (σ:=Sl×Sl) (fun j a2=>
 aG (σ:=Int) (fun d K6 F=>
 Br (d<(m.len:Int))
 (∃M,(m.ptr=some M/\0<=d/\d<(m.len:Int))/\
 ∃O,cellOf F (M.add (d.toNat*1))=some (xk xr O)/\
 af xv 202 #[b,(xk xr O),d,j.1,j.2] ic F fun _ Z=>
 K6 (qc xq (d+1)) Z)
 (aw xv (qt 49 1 #[(0,j.1)]) aK F fun v46 X=>
 aw xv (qq #[49,49] 49 #[a.1,v46]) aK X fun p ax=>
 aw xv (qt 49 1 #[(0,j.2)]) aK ax fun V W=>
 aw xv (qq #[49,49] 49 #[a.2.1,V]) aK W fun q ay=>
 K4 ((⟨p.ptr,p.len,p.cap⟩:Sl),(⟨q.ptr,q.len,q.cap⟩:Sl),qc xq (a.2.2+1)) ay)) (0:Int) a2)
 (fun K5=>
 ∃w,(b=some w)/\
 ∃c,cellOf f ((w.add 1).add 2)=some (xk xq c)/\
 (aw xv (qB 23 (xk xq (x2.len:Int)) (xk xq (x2.len:Int))) aK f fun s Q=>
 (aq.ok [((w.add 1).add 2,c)] Q)/\
 aw xv (qB 23 c c) aK Q fun u T=>
 (aq.ok [] T)/\
 K5 ((⟨s.ptr,s.len,s.cap⟩:Sl),(⟨u.ptr,u.len,u.cap⟩:Sl)) T)/\(aw xv (qB 23 c c) aK f fun v39 P=>
 (aq.ok [] P)/\
 aw xv (qB 23 (xk xq (x2.len:Int)) (xk xq (x2.len:Int))) aK P fun t H=>
 (aq.ok [] H)/\
 K5 ((⟨t.ptr,t.len,t.cap⟩:Sl),(⟨v39.ptr,v39.len,v39.cap⟩:Sl)) H)))
 (R (.tuple #[a.1,a.2.1]) f)) ((⟨e.1.ptr,e.1.len,e.1.cap⟩:Sl),(⟨e.2.1.ptr,e.2.1.len,e.2.1.cap⟩:Sl),(0:Int)) ap)) ((⟨none,0,0⟩:Sl),(⟨none,0,0⟩:Sl),(0:Int)) h
theorem xS(a:aP)(b:@ow R h a):ab xv 126 #[a] h R:=ao ac func126 (ak.tn (ak.tn (.two (ak.tn (.inn (.loop [(2,ca),(3,ca),(29,aS)] [(2,4),(6,9),(10,11),(29,72)] (ak.tn (ak.tn (.two (.inn (ak.tn (.two (.join [(7,ca),(8,ca)] [(7,9),(33,44)] .n) (.two (ak.tn (.inn (.loop [(53,aS)] [(10,11),(53,63)] .n))) .n)))) .n)))))) (.two (ak.tn (.inn (.loop [(2,ca),(3,ca),(78,aS)] [(2,4),(12,17),(78,113)] (ak.tn (ak.tn (.two (.inn (ak.tn (.two (.join [(13,ca),(14,ca)] [(13,15),(82,90)] .n) (.two (ak.tn (.inn (.loop [(92,aS)] [(15,17),(92,104)] .n))) .n)))) .n)))))) .n)))) b
def FK(b:Sl)(a:ByteArray):Prop:=
 Br ((b.len:Int)==0)
 (R (xl none 0 0) h)
 (Br (a.toList==aeA.toList)
 (R b h)
 (aW (σ:=Unit) (fun _ h3=>
 af xv 205 #[a] (.many [(.arr .bool),lL]) h3 fun l w=>
 aO xv (qP 274 true (.tuple #[])) w fun g q=>
 ae xv (qf 274 g (xp (l.1.map (Sc.enc .bool)).toArray)) q fun _ i=>
 Br l.2
 (af xv 207 #[b,g] aK i fun s u=>
 af xv 206 #[s,g] aK u fun e h8=>
 R e h8)
 (af xv 209 #[b,a] aK i fun c t=>
 af xv 208 #[c,a] aK t fun f d=>
 R f d))
 (fun p=>
 Br ((a.size:Int)==1) (∃j:UInt8,(0<=(0:Int)/\a.data[(0:Int).toNat]?=some j)/\
 Br ((j.toNat:Int)<128)
 (∃k:UInt8,(0<=(0:Int)/\a.data[(0:Int).toNat]?=some k)/\
 ∃m:UInt8,(0<=(0:Int)/\a.data[(0:Int).toNat]?=some m)/\
 af xv 204 #[b,(xk xr (k.toNat:Int))] aK h fun v n=>
 (aq.ok [] n)/\
 af xv 203 #[v,(xk xr (m.toNat:Int))] aK n fun r o=>
 (aq.ok [] o)/\
 R r o)
 (p () h)) (p () h))))
theorem LW(b:Sl)(a:ByteArray)(c:@FK R h b a):ab xv 127 #[b,a] h R:=ao ac func127 (ak.tn (ak.tn (ak.tn (.two (.join [] [(4,5),(13,28)] .n) .n)))) c
def pL(e:aP)(d:Sl):Prop:=
 ∃N,(e=some N)/\
 ∃x2:Sl,cellOf h (N.add 4)=some (x2:Value)/\
 aG (σ:=Int) (fun c J k=>
 Br (c<(x2.len:Int))
 (∃a4,(e=some a4)/\
 ∃F:Sl,cellOf k (a4.add 4)=some (F:Value)/\
 ∃H,(F.ptr=some H/\0<=c/\c<(F.len:Int))/\
 ∃L:Sl,cellOf k (H.add (c.toNat*1))=some (L:Value)/\
 Br (!(q9 L.ptr))
 (J (qc xq (c+1)) k)
 (∃M,(e=some M)/\
 ∃D:Sl,cellOf k (M.add 10)=some (D:Value)/\
 ∃n,(D.ptr=some n/\0<=c/\c<(D.len:Int))/\
 ∃x:Sl,cellOf k (n.add (c.toNat*1))=some (x:Value)/\
 af xv 29 #[x] aK k fun f E=>
 ∃s,(e=some s)/\
 ∃l:Sl,cellOf E (s.add 9)=some (l:Value)/\
 ∃z,(l.ptr=some z/\0<=c/\c<(l.len:Int))/\
 ∃g:Sl,cellOf E (z.add (c.toNat*1))=some (g:Value)/\
 aG (σ:=Int) (fun b O h3=>
 Br (b<(g.len:Int))
 (∃t,(g.ptr=some t/\0<=b/\b<(g.len:Int))/\
 ∃p,cellOf h3 (t.add (b.toNat*1))=some (xk xr p)/\
 ∃y,(d.ptr=some y/\0<=b/\b<(d.len:Int))/\
 ∃i:Sl,cellOf h3 (y.add (b.toNat*1))=some (i:Value)/\
 aG (σ:=Int) (fun a P B=>
 Br (a<(i.len:Int))
 (∃q,(i.ptr=some q/\0<=a/\a<(i.len:Int))/\
 ∃A,cellOf B (q.add (a.toNat*1))=some (xk xr A)/\
 ∃a25,(f.ptr=some a25/\0<=a/\a<(f.len:Int))/\
 ∃j,cellOf B (a25.add (a.toNat*1))=some (xk xr j)/\
 ∃r,(e=some r)/\
 ∃o:aP,cellOf B r=some (.pointer o)/\
 af xv 141 #[o,(xk xr p),(xk xr A)] (.one (.sc (.int .u8))) B fun G K=>
 (aq.ok [(a25.add (a.toNat*1),(xk xr j))] K)/\
 ∃u,(f.ptr=some u/\0<=a/\a<(f.len:Int))/\
 ae xv (qf 5 (u.add (a.toNat*1)) (xk xr (qc xr ((qu (qk xr) j^^^(qu (qk xr) G)).toNat:Nat)))) K fun _ I=>
 (aq.ok [] I)/\
 P (qc xq (a+1)) I)
 (O (qc xq (b+1)) B)) (0:Int) h3)
 (∃v,(e=some v)/\
 ∃m:Sl,cellOf h3 (v.add 4)=some (m:Value)/\
 ∃w,(m.ptr=some w/\0<=c/\c<(m.len:Int))/\
 ae xv (qf 23 (w.add (c.toNat*1)) f) h3 fun _ Q=>
 J (qc xq (c+1)) Q)) (0:Int) E))
 (R (.tuple #[]) k)) (0:Int) h
theorem BI(b:aP)(a:Sl)(c:@pL R h b a):ab xv 128 #[b,a] h R:=ao ac func128 (ak.tn (.inn (.loop [(15,aS)] [(4,10),(15,80)] (ak.tn (ak.tn (.two (.inn (ak.tn (ak.tn (ak.tn (.two (ak.tn (.inn (.loop [(42,aS)] [(6,10),(42,72)] (ak.tn (ak.tn (.two (.inn (ak.tn (ak.tn (.inn (.loop [(52,aS)] [(8,10),(52,71)] .n))))) .n)))))) .n))))) .n)))))) c
def uV(a:Sl)(b:Int):Prop:=
 aW (σ:=Unit) (fun _ j=>
 aG (σ:=Int) (fun c g d=>
 Br (c<(a.len:Int))
 (∃a5,(a.ptr=some a5/\0<=c/\c<(a.len:Int))/\
 ∃e,cellOf d (a5.add (c.toNat*1))=some (xk xq e)/\
 Br (e>b)
 (R (qc xq (c+1)) d)
 (g (qc xq (c+1)) d))
 (R (xk xq 0) d)) (0:Int) j)
 (fun i=>
 Br ((a.len:Int)==0) (R (xk xq 0) h) (Br (b<0) (R (xk xq 0) h) (∃f,(a.ptr=some f/\0<=(qc xq ((a.len:Int)-1))/\(qc xq ((a.len:Int)-1))<(a.len:Int))/\
 ∃x2:Int,cellOf h (f.add ((qc xq ((a.len:Int)-1)).toNat*1))=some (xk xq x2)/\
 Br (b>=x2)
 (R (xk xq 0) h)
 (i () h))))
theorem FL(a:Sl)(b:Int)(c:@uV R h a b):ab xv 129 #[a,b] h R:=ao ac func129 (ak.tn (.two (.join [] [(4,5),(7,24)] .n) (.two (ak.tn (.inn (.loop [(26,aS)] [(4,7),(26,37)] .n))) .n))) c
def tj(b:aP)(a:Int):Prop:=
 aW (σ:=Unit) (fun _ f=>
 af xv 61 #[b] (.one (.sc (.int .u32))) f fun c d=>
 ((qc xu a)≠0)/\
 R (qc xq (zZ (qc xu c) (qc xu a))) d)
 (fun e=>
 Br (q9 b) (R (xk xq 0) h) (Br (a<=0)
 (R (xk xq 0) h)
 (e () h)))
theorem Ew(a:aP)(b:Int)(c:@tj R h a b):ab xv 130 #[a,b] h R:=ao ac func130 (ak.tn (.two (.join [] [(4,11)] .n) .n)) c
def uW(a:Int)(b:Int):Prop:=
 af xv 210 #[a] bB h fun c i=>
 (a≠0)/\
 aW (σ:=Int) (fun f e=>
 aW (σ:=Int) (fun k j=>
 R k j)
 (fun d=>
 (c≠0)/\
 Br (b<(qc xq (z8 a c)))
 (((qc xq (a*b))≠0)/\
 d (qc xq (f+(qc xq (z8 (qc xq (1048576*c)) (qc xq (a*b)))))) e)
 (Br (b==(qc xq (z8 a c)))
 (af xv 168 #[(xk xu (qc xu c))] bB e fun l h3=>
 (a≠0)/\
 d (qc xq (f+(qc xq (z8 (qc xq ((qc xq (1048576*c))*l)) a)))) h3)
 (d f e))))
 (fun g=>
 Br (b>1)
 (((qc xq (b*(qc xq (b-1))))≠0)/\
 g (qc xq (z8 1048576 (qc xq (b*(qc xq (b-1)))))) i)
 (g (qc xq (z8 1048576 a)) i))
theorem FM(b:Int)(a:Int)(c:@uW R h b a):ab xv 131 #[b,a] h R:=ao ac func131 (ak.tn (ak.tn (ak.tn (.two (.join [(6,aS)] [(6,7),(12,19)] .n) (.two (.join [(6,aS)] [(6,8),(19,48)] .n) .n))))) c
def nk(a:Sl):Prop:=
 Br (q9 a.ptr)
 (R (xl none 0 0) h)
 (aw xv (qt 38 0 #[]) aK h fun d e=>
 aw xv (qq #[38,38] 38 #[d,a]) aK e fun c b=>
 R c b)
theorem uX(a:Sl)(b:@nk R h a):ab xv 132 #[a] h R:=ao ac func132 .n b
def lZ(a:Sl):Prop:=
 aG (σ:=Int) (fun b i c=>
 Br (b<(a.len:Int))
 (∃d,(a.ptr=some d/\0<=b/\b<(a.len:Int))/\
 ∃x3:Sl,cellOf c (d.add (b.toNat*1))=some (x3:Value)/\
 ∃a4,(a.ptr=some a4/\0<=(0:Int)/\(0:Int)<(a.len:Int))/\
 ∃e:Sl,cellOf c (a4.add ((0:Int).toNat*1))=some (e:Value)/\
 Br ((x3.len:Int) !=(e.len:Int)) (R false c) (∃f,(a.ptr=some f/\0<=b/\b<(a.len:Int))/\
 ∃g:Sl,cellOf c (f.add (b.toNat*1))=some (g:Value)/\
 Br ((g.len:Int)>64)
 (R false c)
 (i (qc xq (b+1)) c)))
 (R true c)) (0:Int) h
theorem sT(a:Sl)(b:@lZ R h a):ab xv 133 #[a] h R:=ao ac func133 (ak.tn (.two (ak.tn (.inn (.loop [(6,aS)] [(2,4),(6,28)] .n))) .n)) b
def mQ(b:Int)(a:Sl):Prop:=
 aw xv (qB 23 (xk xq (a.len:Int)) (xk xq (a.len:Int))) aK h fun f e=>
 af xv 136 #[(xk xr b),a,f] aK e fun c d=>
 R c d
theorem tW(b:Int)(a:Sl)(c:@mQ R h b a):ab xv 134 #[(xk xr b),a] h R:=ao ac func134 .n c
def ox(b:Int):Prop:=
 aG (σ:=Int) (fun a f d=>
 Br (a<256)
 (af xv 211 #[(xk xr b),(xk xr (qc xr a))] (.one (.sc (.int .u8))) d fun e c=>
 Br (e==1)
 (R (xk xr (qc xr a)) c)
 (f (qc xq (a+1)) c))
 (R (xk xr 0) d)) (1:Int) h
theorem xT(a:Int)(b:@ox R h a):ab xv 135 #[(xk xr a)] h R:=ao ac func135 (ak.tn (.two (ak.tn (.inn (.loop [(3,aS)] [(2,15)] .n))) .n)) b
def nl(e:Int)(c:Sl)(b:Sl):Prop:=
 aw xv (qB 23 (xk xq (b.len:Int)) (xk xq (b.len:Int))) aK h fun g n=>
 aG (σ:=Int) (fun a l d=>
 Br (a<(b.len:Int))
 (∃a3,(b.ptr=some a3/\0<=a/\a<(b.len:Int))/\
 ∃f,cellOf d (a3.add (a.toNat*1))=some (xk xr f)/\
 ∃a5,(c.ptr=some a5/\0<=a/\a<(c.len:Int))/\
 ∃k,cellOf d (a5.add (a.toNat*1))=some (xk xr k)/\
 af xv 211 #[(xk xr e),(xk xr k)] (.one (.sc (.int .u8))) d fun m h3=>
 (aq.ok [(a3.add (a.toNat*1),(xk xr f))] h3)/\
 ∃j,(g.ptr=some j/\0<=a/\a<(g.len:Int))/\
 ae xv (qf 5 (j.add (a.toNat*1)) (xk xr (qc xr ((qu (qk xr) f^^^(qu (qk xr) m)).toNat:Nat)))) h3 fun _ i=>
 (aq.ok [] i)/\
 l (qc xq (a+1)) i)
 (R g d)) (0:Int) n
theorem uY(b:Int)(a:Sl)(c:Sl)(d:@nl R h b a c):ab xv 136 #[(xk xr b),a,c] h R:=ao ac func136 (ak.tn (ak.tn (.two (ak.tn (.inn (.loop [(14,aS)] [(8,9),(14,32)] .n))) .n))) d
def oy(a:Int):Prop:=
 ((255:Int)≠0)/\
 aW (σ:=Int) (fun f i=>
 aG (σ:=Int×Int) (fun b e c=>
 Br (b.2<f)
 (af xv 211 #[(xk xr b.1),(xk xr 3)] (.one (.sc (.int .u8))) c fun g h3=>
 e (g,qc xq (b.2+1)) h3)
 (R (xk xr b.1) c)) ((1:Int),(0:Int)) i)
 (fun d=>
 Br ((zZ a 255)<0)
 (d (qc xq ((zZ a 255)+255)) h)
 (d (zZ a 255) h))
theorem xU(a:Int)(b:@oy R h a):ab xv 137 #[a] h R:=ao ac func137 (ak.tn (ak.tn (.two (.join [(0,aS)] [(0,1),(7,11)] .n) (ak.tn (.two (ak.tn (.inn (.loop [(3,(.sc (.int .u8))),(4,aS)] [(3,5),(11,18)] .n))) .n))))) b
def np(b:bm):Prop:=
 aO xv (qH 25 b) h fun c f=>
 ∃x2:bm,al f c 0 x2/\
 af xv 66 #[x2] bJ f fun g a=>
 Br (!g)
 (R (xk xq 0) a)
 (∃e,cellOf a c=some (xk xq e)/\
 ∃d,cellOf a (c.add 1)=some (xk xq d)/\
 R (qc xq (e+d)) a)
theorem uZ(a:bm)(b:@np R h a):ab xv 138 #[a] h R:=ao ac func138 .n b
def pk(l:bm)(a:Int)(b:Int):Prop:=
 aO xv (qH 25 l) h fun m p=>
 aW (σ:=Unit) (fun _ y=>
 aO xv (qH 281 (xp #[(xk xu (qc xu (qc xt ((qu (qk xt) a^^^(qu (qk xt) (qc xt ((qc xt b)*2654435761)))).toNat:Nat))))])) y fun f u=>
 af xv 212 #[f] (.one (.sc (.int .u32))) u fun _ o=>
 ∃n:bm,al o m 0 n/\
 af xv 138 #[n] bB o fun v w=>
 af xv 214 #[v] aK w fun i h8=>
 af xv 213 #[i,f] bB h8 fun d r=>
 ∃c:bm,al r m 0 c/\
 af xv 138 #[c] bB r fun g e=>
 af xv 215 #[f,g,d] aK e fun k j=>
 R k j)
 (fun t=>
 ∃x2:bm,al p m 0 x2/\
 af xv 66 #[x2] bJ p fun s q=>
 Br (!s) (R (xl none 0 0) q) (af xv 68 #[b] bJ q fun x h3=>
 Br (!x)
 (R (xl none 0 0) h3)
 (t () h3)))
theorem AT(c:bm)(a:Int)(b:Int)(d:@pk R h c a b):ab xv 139 #[c,(xk xt a),b] h R:=ao ac func139 (ak.tn (.two (.join [] [(6,7),(9,17)] .n) .n)) d
def Kf(a:aP):Prop:=
 Br (q9 a)
 (af xv 20 #[] mL h fun c b=>
 R c b)
 (R a h)
theorem QG(a:aP)(b:@Kf R h a):ab xv 140 #[a] h R:=ao ac func140 .n b
def BJ(g:aP)(a:Int)(b:Int):Prop:=
 aW (σ:=Unit) (fun _ l=>
 af xv 142 #[g] mL l fun f c=>
 ∃a3,(f=some a3)/\
 (0<=a/\a<((256:Nat):Int))/\
 ∃d,cellOf c ((a3.add 255).add (a.toNat*1))=some (xk xq d)/\
 ∃a5,(f=some a5)/\
 (0<=b/\b<((256:Nat):Int))/\
 ∃e,cellOf c ((a5.add 255).add (b.toNat*1))=some (xk xq e)/\
 ((255:Int)≠0)/\
 ∃i,(f=some i)/\
 (0<=(zZ (qc xq (d+e)) 255)/\(zZ (qc xq (d+e)) 255)<((255:Nat):Int))/\
 ∃j:Int,cellOf c (i.add ((zZ (qc xq (d+e)) 255).toNat*1))=some (xk xr j)/\
 R (xk xr j) c)
 (fun k=>
 Br (a==0) (R (xk xr 0) h) (Br (b==0)
 (R (xk xr 0) h)
 (k () h)))
theorem IX(a:aP)(b:Int)(c:Int)(d:@BJ R h a b c):ab xv 141 #[a,(xk xr b),(xk xr c)] h R:=ao ac func141 (ak.tn (.two (.join [] [(6,7),(8,14)] .n) .n)) d
def BL(a:aP):Prop:=
 Br (q9 a)
 (af xv 20 #[] mL h fun c b=>
 R c b)
 (R a h)
theorem IY(a:aP)(b:@BL R h a):ab xv 142 #[a] h R:=ao ac func142 .n b
def HU(ay:di):Prop:=
 aO xv (qH 136 ay) h fun e h1=>
 ∃x2:di,al h1 e 0 x2/\
 af xv 169 #[x2] bJ h1 fun r3 S=>
 Br (!r3)
 (R (xl none 0 0) S)
 (aW (σ:=Sl) (fun s8 w=>
 ∃x9,cellOf w (e.add 2)=some (xk xq x9)/\
 ∃N,cellOf w ((e.add 2).add 1)=some (xk xq N)/\
 ∃O,cellOf w ((e.add 2).add 2)=some (xk xq O)/\
 ∃H,cellOf w (e.add 5)=some (xk xq H)/\
 ∃M:Sl,cellOf w (e.add 6)=some (M:Value)/\
 aw xv (qt 23 5 #[(0,(xk xr (qc xr x9))),(1,(xk xr (qc xr N))),(2,(xk xr (qc xr O))),(3,(xk xr (qc xr H))),(4,(xk xr (qc xr (M.len:Int))))]) aK w fun ah h6=>
 aw xv (qq #[23,23] 23 #[s8,ah]) aK h6 fun r h7=>
 ∃i:Sl,cellOf h7 (e.add 6)=some (i:Value)/\
 aG (σ:=Sl×Int) (fun d K2 h8=>
 Br (d.2<(i.len:Int))
 (∃G,(i.ptr=some G/\0<=d.2/\d.2<(i.len:Int))/\
 ∃K,cellOf h8 (G.add (d.2.toNat*1))=some (xk xq K)/\
 aw xv (qt 23 1 #[(0,(xk xr (qc xr K)))]) aK h8 fun a2 h9=>
 aw xv (qq #[23,23] 23 #[d.1,a2]) aK h9 fun n am=>
 K2 ((⟨n.ptr,n.len,n.cap⟩:Sl),qc xq (d.2+1)) am)
 (∃y:Sl,cellOf h8 (e.add 7)=some (y:Value)/\
 aw xv (qt 23 1 #[(0,(xk xr (qc xr (y.len:Int))))]) aK h8 fun Y ad=>
 aw xv (qq #[23,23] 23 #[d.1,Y]) aK ad fun l L=>
 ∃j:Sl,cellOf L (e.add 7)=some (j:Value)/\
 aG (σ:=Sl×Int) (fun c K3 p=>
 Br (c.2<(j.len:Int))
 (∃B,(j.ptr=some B/\0<=c.2/\c.2<(j.len:Int))/\
 ∃D:jq,al p (B.add (c.2.toNat*4)) 0 D/\
 aO xv (qP 170 true (.tuple #[])) p fun a X=>
 ae xv (qf 170 a D) X fun _ v=>
 aW (σ:=Sl) (fun a0 u=>
 aW (σ:=Sl) (fun q x=>
 ∃k:Sl,cellOf x (a.add 3)=some (k:Value)/\
 aG (σ:=Sl×Int) (fun b K6 t=>
 Br (b.2<(k.len:Int))
 (∃E,(k.ptr=some E/\0<=b.2/\b.2<(k.len:Int))/\
 ∃I,cellOf t (E.add (b.2.toNat*1))=some (xk xq I)/\
 aw xv (qt 23 1 #[(0,(xk xr (qc xr I)))]) aK t fun v45 T=>
 aw xv (qq #[23,23] 23 #[b.1,v45]) aK T fun v46 ax=>
 K6 ((⟨v46.ptr,v46.len,v46.cap⟩:Sl),qc xq (b.2+1)) ax)
 (K3 ((⟨b.1.ptr,b.1.len,b.1.cap⟩:Sl),qc xq (c.2+1)) t)) ((⟨q.ptr,q.len,q.cap⟩:Sl),(0:Int)) x)
 (fun K5=>
 ∃A,cellOf u (a.add 1)=some (xk xq A)/\
 ∃m,cellOf u (a.add 2)=some (xk xq m)/\
 af xv 216 #[a0,A,(xk xq 3)] aK u fun V P=>
 (aq.ok [(a.add 2,m)] P)/\
 af xv 216 #[V,m,(xk xq 2)] aK P fun s F=>
 (aq.ok [] F)/\
 K5 (⟨s.ptr,s.len,s.cap⟩:Sl) F))
 (fun K4=>
 ∃f:ByteArray,cellOf v a=some (xn f)/\
 ∃g:ByteArray,cellOf v a=some (xn g)/\
 aw xv (qt 23 1 #[(0,(xk xr (qc xr (f.size:Int))))]) aK v fun ap Q=>
 (aq.ok [(a,g),(a,f)] Q)/\
 aw xv (qq #[23,23] 23 #[c.1,ap]) aK Q fun Z J=>
 (aq.ok [(a,g),(a,f)] J)/\
 aw xv (qq #[23,9] 23 #[Z,g]) aK J fun o z=>
 (aq.ok [(a,f)] z)/\
 K4 (⟨o.ptr,o.len,o.cap⟩:Sl) z))
 (R c.1 p)) ((⟨l.ptr,l.len,l.cap⟩:Sl),(0:Int)) L)) ((⟨r.ptr,r.len,r.cap⟩:Sl),(0:Int)) h7)
 (fun K1=>
 ∃x4,cellOf S e=some (xk xq x4)/\
 ∃U,cellOf S (e.add 1)=some (xk xq U)/\
 af xv 216 #[(xl none 0 0),x4,(xk xq 4)] aK S fun r6 h3=>
 (aq.ok [(e.add 1,U)] h3)/\
 af xv 216 #[r6,U,(xk xq 4)] aK h3 fun W h4=>
 (aq.ok [] h4)/\
 K1 (⟨W.ptr,W.len,W.cap⟩:Sl) h4))
theorem Ox(a:di)(b:@HU R h a):ab xv 143 #[a] h R:=ao ac func143 (ak.tn (ak.tn (.two (.join [(3,ca)] [(3,4),(13,19)] .n) (ak.tn (.two (ak.tn (.inn (.loop [(3,ca),(44,aS)] [(3,4),(5,6),(44,54)] .n))) (ak.tn (.two (ak.tn (.inn (.loop [(3,ca),(64,aS)] [(3,4),(7,8),(9,10),(64,99)] (ak.tn (ak.tn (.two (.inn (ak.tn (.two (.join [(3,ca)] [(3,4),(68,78)] .n) (.two (.join [(3,ca)] [(3,4),(78,85)] .n) (ak.tn (.inn (.loop [(3,ca),(88,aS)] [(3,4),(9,10),(88,98)] .n))))))) .n)))))) .n))))))) b
def Kg(a:Int)(b:Int)(c:Int)(d:Sl):Prop:=
 (0<=(24:Int))/\
 (0<=(16:Int))/\
 (0<=(8:Int))/\
 aw xv (qt 23 7 #[(0,(xk xr (qc xr (qQ a (2^min (24:Int).toNat (qk xq)))))),(1,(xk xr (qc xr (qQ a (2^min (16:Int).toNat (qk xq)))))),(2,(xk xr (qc xr (qQ a (2^min (8:Int).toNat (qk xq)))))),(3,(xk xr (qc xr a))),(4,(xk xr (qc xr b))),(5,(xk xr (qc xr c))),(6,(xk xr (qc xr (d.len:Int))))]) aK h fun i j=>
 aw xv (qq #[23,23] 23 #[i,d]) aK j fun g e=>
 af xv 190 #[(xk xq 2),g] aK e fun f h3=>
 R f h3
theorem QH(c:Int)(a:Int)(b:Int)(d:Sl)(e:@Kg R h c a b d):ab xv 144 #[c,a,b,d] h R:=ao ac func144 .n e
def kS(a:aP)(j:Sl):Prop:=
 aW (σ:=Unit) (fun _ h3=>
 aW (σ:=Unit) (fun _ h8=>
 ∃k,(a=some k)/\
 ∃g,cellOf h8 (k.add 3)=some (xk xq g)/\
 ∃i,(a=some i)/\
 ae xv (qf 3 (i.add 3) (qc xq (g+1))) h8 fun _ B=>
 ∃a22,(a=some a22)/\
 ∃l:aP,cellOf B a22=some (.pointer l)/\
 af xv 217 #[l] bJ B fun q e=>
 Br (!q)
 (R (xk xq 14) e)
 (af xv 218 #[a] bB e fun p r=>
 R p r))
 (fun J=>
 ∃b,(a=some b)/\
 ∃c:Sl,cellOf h3 (b.add 2)=some (c:Value)/\
 af xv 29 #[j] aK h3 fun s G=>
 (aq.ok [(b.add 2,c)] G)/\
 aw xv (qt 49 1 #[(0,s)]) aK G fun m y=>
 (aq.ok [(b.add 2,c)] y)/\
 aw xv (qq #[49,49] 49 #[c,m]) aK y fun o u=>
 (aq.ok [] u)/\
 ∃f,(a=some f)/\
 ae xv (qf 49 (f.add 2) o) u fun _ E=>
 (aq.ok [] E)/\
 J () E))
 (fun I=>
 Br ((j.len:Int) !=64)
 (R (xk xq 1) h)
 (aW (σ:=Bool) (fun H d=>
 Br H
 (R (xk xq 5) d)
 (∃a4,(a=some a4)/\
 ∃x:Sl,cellOf d (a4.add 2)=some (x:Value)/\
 ∃t,(a=some t)/\
 ∃z,cellOf d (t.add 1)=some (xk xq z)/\
 Br ((x.len:Int)>=z)
 (R (xk xq 7) d)
 (∃D,(a=some D)/\
 ∃v:aP,cellOf d D=some (.pointer v)/\
 af xv 114 #[v] bJ d fun n w=>
 Br (!n)
 (R (xk xq 14) w)
 (I () w))))
 (fun A=>
 Br (q9 a) (A true h) (∃F,(a=some F)/\
 ∃x2:Bool,cellOf h (F.add 6)=some (xo x2)/\
 A x2 h))))
theorem nr(a:aP)(b:Sl)(c:@kS R h a b):ab xv 145 #[a,b] h R:=ao ac func145 (ak.tn (.two (.join [] [(4,36)] (.inn (ak.tn (ak.tn (.two (.join [(9,lL)] [(9,18)] .n) .n))))) (.two (.join [] [(36,47)] .n) .n))) c
def Kh(b:cB)(a:Sl):Prop:=
 af xv 132 #[a] aK h fun i o=>
 af xv 98 #[i] ic o fun _ k=>
 af xv 219 #[i] aK k fun e h3=>
 aG (σ:=Int) (fun c l d=>
 Br (c<(e.len:Int))
 (∃a5,(e.ptr=some a5/\0<=c/\c<(e.len:Int))/\
 ∃j,cellOf d (a5.add (c.toNat*1))=some (xk xq j)/\
 hJ C b.1 (b.2.1.toList++[(xk xq j)]++b.2.2.toList) mL d fun m n=>
 af xv 220 #[m] bB n fun g f=>
 Br (g !=0)
 (R g f)
 (l (qc xq (c+1)) f))
 (R (xk xq 0) d)) (0:Int) h3
theorem QI(b:cB)(a:Sl)(c:@Kh R h b a):ab xv 146 #[(.func (.func b.1) b.2.1 b.2.2),a] h R:=ao ac func146 (ak.tn (ak.tn (ak.tn (.two (ak.tn (.inn (.loop [(15,aS)] [(4,5),(6,8),(15,27)] .n))) .n)))) c
def oz(a:aP)(b:ByteArray)(k:Sl):Prop:=
 af xv 156 #[a] bJ h fun v n=>
 Br v
 (R (xk xq 14) n)
 (af xv 221 #[b] bJ n fun u o=>
 Br (!u)
 (R (xk xq 3) o)
 (af xv 157 #[a,b] bB o fun w h3=>
 Br (w>=0)
 (R (xk xq 4) h3)
 (aW (σ:=Bool) (fun j t=>
 Br j
 (R (xk xq 6) t)
 (af xv 102 #[a] aK t fun i c=>
 Br ((i.len:Int)==0) (R (xk xq 7) c) (∃e,(a=some e)/\
 ∃f,cellOf c (e.add 1)=some (xk xq f)/\
 Br (f>16777215) (R (xk xq 7) c) (∃d,(a=some d)/\
 ∃g,cellOf c d=some (xk xq g)/\
 Br (g>=2147483647)
 (R (xk xq 7) c)
 (R (xk xq 0) c)))))
 (fun p=>
 ∃a4,(a=some a4)/\
 ∃q,cellOf h3 (a4.add 2)=some (xk xq q)/\
 ∃l,(a=some l)/\
 ∃r,cellOf h3 ((l.add 2).add 2)=some (xk xq r)/\
 Br (decide ((k.len:Int)>(qc xq ((qc xq (q*r))*8)))) (p true h3) (∃s,(a=some s)/\
 ∃m:Sl,cellOf h3 (s.add 7)=some (m:Value)/\
 p (decide ((m.len:Int)>=12)) h3)))))
theorem xV(b:aP)(a:ByteArray)(c:Sl)(d:@oz R h b a c):ab xv 147 #[b,a,c] h R:=ao ac func147 (ak.tn (.two (.inn (ak.tn (ak.tn (ak.tn (ak.tn (ak.tn (ak.tn (.two (.join [(19,lL)] [(19,46)] .n) .n)))))))) .n)) d
def DX(e:bm)(b:Int)(a:Int):Prop:=
 aO xv (qH 25 e) h fun l m=>
 aG (σ:=Sl×Int) (fun c j d=>
 Br (c.2<a)
 (∃x3:bm,al d l 0 x3/\
 af xv 222 #[x3,b,c.2] (.many [aS,lL]) d fun g h3=>
 Br (!g.2)
 (R (.tuple #[(xl none 0 0),false]) h3)
 (aw xv (qt 38 1 #[(0,g.1)]) aK h3 fun v5 i=>
 aw xv (qq #[38,38] 38 #[c.1,v5]) aK i fun f k=>
 j ((⟨f.ptr,f.len,f.cap⟩:Sl),qc xq (c.2+1)) k))
 (R (.tuple #[c.1,true]) d)) ((⟨none,0,0⟩:Sl),(0:Int)) m
theorem Ki(c:bm)(a:Int)(b:Int)(d:@DX R h c a b):ab xv 148 #[c,a,b] h R:=ao ac func148 (ak.tn (ak.tn (.two (ak.tn (.inn (.loop [(8,ca),(13,aS)] [(6,12),(13,30)] .n))) .n))) d
def DY(c:bm)(a:Int):Prop:=
 aO xv (qH 25 c) h fun f g=>
 aW (σ:=Unit) (fun _ h3=>
 ∃d:bm,al h3 f 0 d/\
 af xv 223 #[d] bB h3 fun e i=>
 (e≠0)/\
 R (qc xq ((qc xq (z8 (qc xq (a-1)) e))+1)) i)
 (fun k=>
 ∃x2:bm,al g f 0 x2/\
 af xv 18 #[x2] bJ g fun j b=>
 Br (!j) (R (xk xq 0) b) (Br (a<=0)
 (R (xk xq 0) b)
 (k () b)))
theorem Kj(b:bm)(a:Int)(c:@DY R h b a):ab xv 149 #[b,a] h R:=ao ac func149 (ak.tn (.two (.join [] [(4,12)] .n) .n)) c
def oA(g:aP)(N:jq)(S:Sl):Prop:=
 aO xv (qH 170 N) h fun j h1=>
 af xv 102 #[g] aK h1 fun r2 h2=>
 ∃a3,(g=some a3)/\
 ∃X:bm,al h2 (a3.add 2) 0 X/\
 af xv 224 #[X,S] aK h2 fun T h3=>
 aG (σ:=Sl×Int) (fun e K1 n=>
 Br (e.2<(T.len:Int))
 (∃Z,(T.ptr=some Z/\0<=e.2/\e.2<(T.len:Int))/\
 ∃W:Sl,cellOf n (Z.add (e.2.toNat*1))=some (W:Value)/\
 ∃Y,cellOf n (j.add 1)=some (xk xq Y)/\
 ∃i:Sl,cellOf n (j.add 3)=some (i:Value)/\
 ∃u,(i.ptr=some u/\0<=e.2/\e.2<(i.len:Int))/\
 ∃A,cellOf n (u.add (e.2.toNat*1))=some (xk xq A)/\
 af xv 160 #[Y,e.2,A] (.one (.sc (.int .u32))) n fun l P=>
 (aq.ok [(j.add 3,i)] P)/\
 ∃p,(g=some p)/\
 ∃D:bm,al P (p.add 2) 0 D/\
 af xv 7 #[D,(xk xt l),W] (.many [Nr,aS]) P fun k L=>
 Br (k.2 !=0)
 (R (.tuple #[(xl none 0 0),false]) L)
 (∃v,cellOf L (j.add 1)=some (xk xq v)/\
 af xv 225 #[v,e.2,r2] aK L fun O V=>
 ∃x,(g=some x)/\
 ∃q,cellOf V (x.add 2)=some (xk xq q)/\
 ∃t,(g=some t)/\
 ∃w,cellOf V (t.add 5)=some (xk xq w)/\
 aG (σ:=Sl×Int) (fun b K2 h8=>
 Br (b.2<(qc xq (q+w)))
 (aW (σ:=Addr) (fun d B=>
 ∃c:eF,al B d 0 c/\
 af xv 226 #[O,b.2] bB B fun M I=>
 (aq.ok [(d,c.1),(d.add 1,c.2.1),(d.add 2,c.2.2.1),(d.add 3,c.2.2.2.1),(d.add 4,c.2.2.2.2.1),(d.add 5,c.2.2.2.2.2.1),(d.add 6,(xk xt c.2.2.2.2.2.2.1)),(d.add 7,c.2.2.2.2.2.2.2)] I)/\
 af xv 227 #[c] aK I fun J s=>
 (aq.ok [] s)/\
 aw xv (qt 143 1 #[(0,(xp #[M,J]))]) aK s fun U G=>
 (aq.ok [] G)/\
 aw xv (qq #[143,143] 143 #[b.1,U]) aK G fun m z=>
 (aq.ok [] z)/\
 K2 ((⟨m.ptr,m.len,m.cap⟩:Sl),qc xq (b.2+1)) z)
 (fun K3=>
 ∃f,cellOf h8 (j.add 1)=some (xk xq f)/\
 ∃a25,(g=some a25)/\
 ∃a:bm,al h8 (a25.add 2) 0 a/\
 (af xv 14 #[k.1,b.2] aK h8 fun Q h9=>
 (aq.ok [(a25.add 2,a.1),((a25.add 2).add 1,a.2.1),((a25.add 2).add 2,a.2.2),(j.add 1,f)] h9)/\
 aO xv (qP 233 true (.tuple #[])) h9 fun a28 o=>
 (aq.ok [(a25.add 2,a.1),((a25.add 2).add 1,a.2.1),((a25.add 2).add 2,a.2.2),(j.add 1,f)] o)/\
 ae xv (qf 233 a28 (xp #[f,e.2,b.2,a.1,a.2.1,a.2.2,(xk xt l),Q])) o fun _ F=>
 (aq.ok [] F)/\
 K3 a28 F)/\(aO xv (qP 233 true (.tuple #[])) h8 fun H y=>
 (aq.ok [(a25.add 2,a.1),((a25.add 2).add 1,a.2.1),((a25.add 2).add 2,a.2.2),(j.add 1,f)] y)/\
 af xv 14 #[k.1,b.2] aK y fun K r=>
 (aq.ok [(a25.add 2,a.1),((a25.add 2).add 1,a.2.1),((a25.add 2).add 2,a.2.2),(j.add 1,f)] r)/\
 ae xv (qf 233 H (xp #[f,e.2,b.2,a.1,a.2.1,a.2.2,(xk xt l),K])) r fun _ E=>
 (aq.ok [] E)/\
 K3 H E)))
 (K1 ((⟨b.1.ptr,b.1.len,b.1.cap⟩:Sl),qc xq (e.2+1)) h8)) ((⟨e.1.ptr,e.1.len,e.1.cap⟩:Sl),(0:Int)) V))
 (R (.tuple #[e.1,true]) n)) ((⟨none,0,0⟩:Sl),(0:Int)) h3
theorem xW(b:aP)(a:jq)(c:Sl)(d:@oA R h b a c):ab xv 150 #[b,a,c] h R:=ao ac func150 (ak.tn (ak.tn (ak.tn (.two (ak.tn (.inn (.loop [(9,ca),(28,aS)] [(6,8),(9,18),(28,100)] (ak.tn (ak.tn (.two (.inn (ak.tn (ak.tn (ak.tn (ak.tn (ak.tn (ak.tn (.inn (.loop [(9,ca),(72,aS)] [(9,10),(16,18),(72,99)] (ak.tn (ak.tn (.two (.inn (ak.tn (.two (.join [(17,(.sc .adr))] [(17,18),(75,89)] .n) .n))) .n)))))))))))) .n)))))) .n)))) d
def FN(n:di)(l:jq):Prop:=
 aO xv (qH 136 n) h fun A u=>
 aO xv (qH 170 l) u fun v w=>
 aO xv (qP 136 true (.tuple #[])) w fun a3 h3=>
 ∃p:di,al h3 A 0 p/\
 af xv 162 #[p] VN h3 fun y B=>
 aO xv (qP 136 true (.tuple #[])) B fun b x=>
 ae xv (qf 136 b y) x fun _ q=>
 ∃s,cellOf q b=some (xk xq s)/\
 ae xv (qf 3 b (qc xq (s+1))) q fun _ t=>
 ∃o,cellOf t (b.add 1)=some (xk xq o)/\
 ae xv (qf 3 (b.add 1) (qc xq (o+1))) t fun _ h8=>
 ∃r:Sl,cellOf h8 (b.add 7)=some (r:Value)/\
 ∃f:jq,al h8 v 0 f/\
 aw xv (qt 134 1 #[(0,f)]) aK h8 fun k z=>
 aw xv (qq #[134,134] 134 #[r,k]) aK z fun m j=>
 ae xv (qf 134 (b.add 7) m) j fun _ i=>
 ∃e:Sl,cellOf i (b.add 7)=some (e:Value)/\
 af xv 228 #[e,(.func (.func 229) #[] #[])] ic i fun _ d=>
 ∃g:di,al d b 0 g/\
 ae xv (qf 136 a3 g) d fun _ c=>
 ∃a:di,al c a3 0 a/\
 R a c
theorem LX(b:di)(a:jq)(c:@FN R h b a):ab xv 151 #[b,a] h R:=ao ac func151 .n c
def pM(a:Int)(d:Addr)(c:Addr):Prop:=
 ∃f,cellOf h d=some (xk xq f)/\
 ∃x2:Sl,cellOf h c=some (x2:Value)/\
 aG (σ:=Int×Int) (fun b g e=>
 Br (b.2<(x2.len:Int))
 (∃a4,(x2.ptr=some a4/\0<=b.2/\b.2<(x2.len:Int))/\
 ∃i:Int×Sl,al e (a4.add (b.2.toNat*2)) 0 i/\
 aO xv (qP 211 true (.tuple #[])) e fun j l=>
 ae xv (qf 211 j i) l fun _ h3=>
 ∃k,cellOf h3 j=some (xk xq k)/\
 Br (k==a)
 (g (qc xq (b.1+1),qc xq (b.2+1)) h3)
 (g (b.1,qc xq (b.2+1)) h3))
 (R b.1 e)) (f,(0:Int)) h
theorem BM(a:Int)(c:Addr)(b:Addr)(d:@pM R h a c b):ab xv 152 #[a,c,b] h R:=ao ac func152 (ak.tn (ak.tn (.two (ak.tn (.inn (.loop [(5,aS),(11,aS)] [(5,6),(7,8),(11,22)] .n))) .n))) d
def sf(c:aP)(a:Sl)(b:cB):Prop:=
 aO xv (qH 97 c) h fun g i=>
 aO xv (qH 201 (.func (.func b.1) b.2.1 b.2.2)) i fun d e=>
 af xv 173 #[a,(.func (.func 231) #[] #[g,d])] bJ e fun f h3=>
 R (xo (!f)) h3
theorem Dd(c:aP)(a:Sl)(b:cB)(d:@sf R h c a b):ab xv 153 #[c,a,(.func (.func b.1) b.2.1 b.2.2)] h R:=ao ac func153 .n d
def pN(g:aP)(a:Sl)(d:cB):Prop:=
 aG (σ:=Int) (fun i o e=>
 Br (i<(a.len:Int))
 (∃k,(a.ptr=some k/\0<=i/\i<(a.len:Int))/\
 ∃x3,cellOf e (k.add (i.toNat*1))=some (xk xq x3)/\
 aW (σ:=Int) (fun f m=>
 Br (f !=0)
 (R f m)
 (o (qc xq (i+1)) m))
 (fun p=>
 ∃a4,(g=some a4)/\
 (0<=x3/\x3<((64:Nat):Int))/\
 ∃j:aP,cellOf e ((a4.add 10).add (x3.toNat*1))=some (.pointer j)/\
 ∃b,(g=some b)/\
 ∃c:di,al e b 0 c/\
 hJ C d.1 (d.2.1.toList++[(xk xq x3)]++d.2.2.toList) bB e fun n l=>
 (aq.ok [(b,c.1),(b.add 1,c.2.1),(b.add 2,c.2.2.1),(b.add 3,c.2.2.2.1),(b.add 4,c.2.2.2.2.1),(b.add 5,c.2.2.2.2.2.1),(b.add 6,c.2.2.2.2.2.2.1),(b.add 7,c.2.2.2.2.2.2.2),((a4.add 10).add (x3.toNat*1),j)] l)/\
 af xv 106 #[j,c,n] bB l fun q h3=>
 (aq.ok [] h3)/\
 p q h3))
 (R (xk xq 0) e)) (0:Int) h
theorem BN(c:aP)(a:Sl)(b:cB)(d:@pN R h c a b):ab xv 154 #[c,a,(.func (.func b.1) b.2.1 b.2.2)] h R:=ao ac func154 (ak.tn (.two (ak.tn (.inn (.loop [(12,aS)] [(6,7),(8,10),(12,34)] (ak.tn (ak.tn (.two (.inn (ak.tn (.two (.join [(9,aS)] [(9,10),(16,30)] .n) .n))) .n)))))) .n)) d
def sg(b:aP)(c:di)(a:Sl):Prop:=
 aO xv (qH 136 c) h fun g i=>
 ∃x2:di,al i g 0 x2/\
 af xv 85 #[x2,a] aK i fun l k=>
 af xv 83 #[(.func (.func 84) #[b] #[]),l] bB k fun f h3=>
 Br (f !=0)
 (R f h3)
 (∃e:di,al h3 g 0 e/\
 af xv 162 #[e] VN h3 fun n j=>
 ∃d,(b=some d)/\
 ae xv (qf 136 d n) j fun _ m=>
 R (xk xq 0) m)
theorem De(b:aP)(c:di)(a:Sl)(d:@sg R h b c a):ab xv 155 #[b,c,a] h R:=ao ac func155 .n d
def tk(a:aP):Prop:=
 Br (q9 a) (R true h) (af xv 90 #[a] bJ h fun c b=>
 R c b)
theorem Ex(a:aP)(b:@tk R h a):ab xv 156 #[a] h R:=ao ac func156 .n b
def sh(b:aP)(a:ByteArray):Prop:=
 aO xv (qH 9 a) h fun g d=>
 ∃c,(b=some c)/\
 ∃x3:Sl,cellOf d (c.add 7)=some (x3:Value)/\
 af xv 232 #[x3,(.func (.func 233) #[] #[g])] bB d fun f e=>
 R f e
theorem Df(b:aP)(a:ByteArray)(c:@sh R h b a):ab xv 157 #[b,a] h R:=ao ac func157 .n c
def pO(a:aP):Prop:=
 aO xv (qH 97 a) h fun b c=>
 ∃x2:aP,cellOf c b=some (.pointer x2)/\
 af xv 102 #[x2] aK c fun e d=>
 af xv 173 #[e,(.func (.func 234) #[] #[b])] bJ d fun f h3=>
 R f h3
theorem BO(a:aP)(b:@pO R h a):ab xv 158 #[a] h R:=ao ac func158 .n b
def DZ(d:cB)(a:Sl)(v:di)(c:Int)(e:Int):Prop:=
 aO xv (qH 136 v) h fun j D=>
 aG (σ:=Sl×Int) (fun i E s=>
 Br (i.2<(a.len:Int))
 (∃a3,(a.ptr=some a3/\0<=i.2/\i.2<(a.len:Int))/\
 ∃z,cellOf s (a3.add (i.2.toNat*1))=some (xk xq z)/\
 aW (σ:=Tu6) (fun t F=>
 aG (σ:=Sl×Int) (fun b y x=>
 Br (b.2<t.2.1)
 (∃l,(t.1.ptr=some l/\0<=b.2/\b.2<(t.1.len:Int))/\
 ∃p:eF,al x (l.add (b.2.toNat*8)) 0 p/\
 aO xv (qP 233 true (.tuple #[])) x fun f I=>
 ae xv (qf 233 f p) I fun _ h8=>
 ∃n,cellOf h8 f=some (xk xq n)/\
 Br (n==c) (∃q,cellOf h8 (f.add 1)=some (xk xq q)/\
 Br (q==e)
 (∃o,cellOf h8 (f.add 2)=some (xk xq o)/\
 ∃m:Sl,cellOf h8 (f.add 7)=some (m:Value)/\
 aw xv (qt 58 1 #[(0,(xp #[o,m]))]) aK h8 fun w H=>
 aw xv (qq #[58,58] 58 #[b.1,w]) aK H fun k u=>
 y ((⟨k.ptr,k.len,k.cap⟩:Sl),qc xq (b.2+1)) u)
 (y ((⟨b.1.ptr,b.1.len,b.1.cap⟩:Sl),qc xq (b.2+1)) h8)) (y ((⟨b.1.ptr,b.1.len,b.1.cap⟩:Sl),qc xq (b.2+1)) h8))
 (E ((⟨b.1.ptr,b.1.len,b.1.cap⟩:Sl),qc xq (i.2+1)) x)) ((⟨i.1.ptr,i.1.len,i.1.cap⟩:Sl),t.2.2) F)
 (fun G=>
 ∃g:di,al s j 0 g/\
 hJ C d.1 (d.2.1.toList++[(xk xq z)]++d.2.2.toList) mL s fun B h3=>
 (aq.ok [(j,g.1),(j.add 1,g.2.1),(j.add 2,g.2.2.1),(j.add 3,g.2.2.2.1),(j.add 4,g.2.2.2.2.1),(j.add 5,g.2.2.2.2.2.1),(j.add 6,g.2.2.2.2.2.2.1),(j.add 7,g.2.2.2.2.2.2.2)] h3)/\
 af xv 165 #[B,g] aK h3 fun r A=>
 (aq.ok [] A)/\
 G ((⟨r.ptr,r.len,r.cap⟩:Sl),(r.len:Int),(0:Int)) A))
 (R i.1 s)) ((⟨none,0,0⟩:Sl),(0:Int)) D
theorem Kk(d:cB)(b:Sl)(e:di)(a:Int)(c:Int)(f:@DZ R h d b e a c):ab xv 159 #[(.func (.func d.1) d.2.1 d.2.2),b,e,a,c] h R:=ao ac func159 (ak.tn (ak.tn (.two (ak.tn (.inn (.loop [(11,ca),(18,aS)] [(11,12),(13,14),(15,16),(18,52)] (ak.tn (ak.tn (.two (.inn (ak.tn (.two (.join [(26,ca),(27,aS),(28,aS)] [(22,29)] .n) (.inn (.loop [(11,ca),(28,aS)] [(11,12),(15,16),(28,51)] .n))))) .n)))))) .n))) f
def HV(b:Int)(c:Int)(a:Int):Prop:=
 R (xk xt (qc xt ((qc xt ((qc xt (128*(qc xt b)))+(qc xt (16*(qc xt c)))))+(qc xt a)))) h
theorem Oy(b:Int)(c:Int)(a:Int)(d:@HV R h b c a):ab xv 160 #[b,c,a] h R:=ao ac func160 .n d
def FO(l:bm)(b:Sl)(a:Int):Prop:=
 aO xv (qH 25 l) h fun m p=>
 aW (σ:=Unit) (fun _ w=>
 aG (σ:=Sl×Int) (fun c t g=>
 Br (c.2<(b.len:Int))
 (∃q,(b.ptr=some q/\0<=c.2/\c.2<(b.len:Int))/\
 ∃j:Sl,cellOf g (q.add (c.2.toNat*1))=some (j:Value)/\
 ∃e:bm,al g m 0 e/\
 af xv 223 #[e] bB g fun i o=>
 Br ((j.len:Int) !=i)
 (R (.tuple #[(xl none 0 0),false]) o)
 (aw xv (qq #[23,23] 23 #[c.1,j]) aK o fun d v=>
 t ((⟨d.ptr,d.len,d.cap⟩:Sl),qc xq (c.2+1)) v))
 (aw xv (Instr.sliceAt 23 c.1 none (some a) (some a)) aK g fun k h8=>
 R (.tuple #[k,true]) h8)) ((⟨none,0,0⟩:Sl),(0:Int)) w)
 (fun s=>
 ∃x2:bm,al p m 0 x2/\
 af xv 18 #[x2] bJ p fun r f=>
 Br (!r) (R (.tuple #[(xl none 0 0),false]) f) (Br (a<0) (R (.tuple #[(xl none 0 0),false]) f) (∃n:bm,al f m 0 n/\
 af xv 149 #[n,a] bB f fun u h3=>
 Br ((b.len:Int) !=u)
 (R (.tuple #[(xl none 0 0),false]) h3)
 (s () h3))))
theorem LY(c:bm)(a:Sl)(b:Int)(d:@FO R h c a b):ab xv 161 #[c,a,b] h R:=ao ac func161 (ak.tn (.two (.join [] [(6,8),(11,26)] .n) (ak.tn (.two (ak.tn (.inn (.loop [(8,ca),(28,aS)] [(6,9),(10,11),(28,41)] .n))) .n)))) d
def Kl(o:di):Prop:=
 aO xv (qH 136 o) h fun b y=>
 aO xv (qP 136 true (.tuple #[])) y fun s n=>
 aW (σ:=Unit) (fun _ v=>
 ∃q:Sl,cellOf v (b.add 7)=some (q:Value)/\
 aG (σ:=Int) (fun e A h8=>
 Br (e<(q.len:Int))
 (∃c:Sl,cellOf h8 (b.add 7)=some (c:Value)/\
 ∃d:Sl,cellOf h8 (b.add 7)=some (d:Value)/\
 ∃i,(d.ptr=some i/\0<=e/\e<(d.len:Int))/\
 ∃j:Sl,cellOf h8 ((i.add (e.toNat*4)).add 3)=some (j:Value)/\
 af xv 132 #[j] aK h8 fun p u=>
 (aq.ok [(b.add 7,d),(b.add 7,c)] u)/\
 ∃l,(c.ptr=some l/\0<=e/\e<(c.len:Int))/\
 ae xv (qf 38 ((l.add (e.toNat*4)).add 3) p) u fun _ f=>
 (aq.ok [] f)/\
 A (qc xq (e+1)) f)
 (∃g:di,al h8 b 0 g/\
 ae xv (qf 136 s g) h8 fun _ k=>
 ∃a:di,al k s 0 a/\
 R a k)) (0:Int) v)
 (fun z=>
 ∃x3:Sl,cellOf n (b.add 6)=some (x3:Value)/\
 ∃m:Sl,cellOf n (b.add 7)=some (m:Value)/\
 af xv 132 #[x3] aK n fun B h3=>
 (aq.ok [(b.add 7,m)] h3)/\
 af xv 236 #[m] aK h3 fun x w=>
 (aq.ok [] w)/\
 ae xv (qf 38 (b.add 6) B) w fun _ t=>
 (aq.ok [] t)/\
 ae xv (qf 134 (b.add 7) x) t fun _ r=>
 (aq.ok [] r)/\
 z () r)
theorem QJ(a:di)(b:@Kl R h a):ab xv 162 #[a] h R:=ao ac func162 (ak.tn (.two (.join [] [(4,12)] .n) (.two (ak.tn (.inn (.loop [(15,aS)] [(3,4),(15,31)] .n))) .n))) b
def BP(i:aP)(k:di):Prop:=
 aO xv (qH 136 k) h fun B v=>
 af xv 186 #[i] aK v fun j w=>
 aG (σ:=Sl×Int) (fun a x h3=>
 Br ((qc xq (a.2+1))>=(j.len:Int))
 (af xv 240 #[a.1,(.func (.func 241) #[] #[])] ic h3 fun _ D=>
 af xv 242 #[a.1,(.func (.func 243) #[] #[])] aK D fun z y=>
 R z y)
 (aW (σ:=Sl) (fun b l=>
 x ((⟨b.ptr,b.len,b.cap⟩:Sl),qc xq (a.2+1)) l)
 (fun n=>
 ∃r,(j.ptr=some r/\0<=(qc xq (a.2+1))/\(qc xq (a.2+1))<(j.len:Int))/\
 ∃t:Sl,cellOf h3 (r.add ((qc xq (a.2+1)).toNat*1))=some (t:Value)/\
 af xv 238 #[t] (.many [(.agg [(.int .i64),(.int .i64),(.int .i64),(.int .i64),(.int .i64),(.int .i64),(.int .u32),.slc]),lL]) h3 fun s u=>
 aO xv (qP 233 true (.tuple #[])) u fun a9 A=>
 ae xv (qf 233 a9 s.1) A fun _ h8=>
 Br s.2 (∃e:di,al h8 B 0 e/\
 ∃f:eF,al h8 a9 0 f/\
 af xv 239 #[e,f] bJ h8 fun m q=>
 Br m
 (∃d:eF,al q a9 0 d/\
 aw xv (qt 230 1 #[(0,d)]) aK q fun p g=>
 aw xv (qq #[230,230] 230 #[a.1,p]) aK g fun c o=>
 n (⟨c.ptr,c.len,c.cap⟩:Sl) o)
 (n (⟨a.1.ptr,a.1.len,a.1.cap⟩:Sl) q)) (n (⟨a.1.ptr,a.1.len,a.1.cap⟩:Sl) h8)))) ((⟨none,0,0⟩:Sl),(-1:Int)) w
theorem IZ(a:aP)(b:di)(c:@BP R h a b):ab xv 165 #[a,b] h R:=ao ac func165 (ak.tn (.scope 0 [(6,ca),(7,aS)] [(4,5),(6,10),(12,40)] [.n,.n,.n] [(ak.tn (ak.tn (.two (.join [(6,ca)] [(6,7),(8,10),(18,36)] .n) .n)))] [(1,[.n])])) c
def Km(x:di):Prop:=
 aO xv (qH 136 x) h fun c J=>
 aW (σ:=Unit) (fun _ H=>
 aW (σ:=Unit) (fun _ h8=>
 ∃e:Sl,cellOf h8 (c.add 7)=some (e:Value)/\
 aG (σ:=Int) (fun a P A=>
 Br (a<(e.len:Int))
 (∃j,(e.ptr=some j/\0<=a/\a<(e.len:Int))/\
 ∃n:jq,al A (j.add (a.toNat*4)) 0 n/\
 aO xv (qP 170 true (.tuple #[])) A fun d v=>
 ae xv (qf 170 d n) v fun _ i=>
 aW (σ:=Unit) (fun _ m=>
 ∃f:Sl,cellOf m (c.add 7)=some (f:Value)/\
 (0<=a/\a<=(f.cap:Int))/\
 af xv 258 #[(xl f.ptr a.toNat f.cap),(.func (.func 259) #[] #[d])] bJ m fun y t=>
 Br y
 (R false t)
 (P (qc xq (a+1)) t))
 (fun E=>
 ∃l:di,al i c 0 l/\
 ∃q:jq,al i d 0 q/\
 af xv 257 #[l,q] bJ i fun B b=>
 (aq.ok [] b)/\
 Br (!B) (R false b) (Br (a>0) (∃g:Sl,cellOf b (c.add 7)=some (g:Value)/\
 ∃p,(g.ptr=some p/\0<=(qc xq (a-1))/\(qc xq (a-1))<(g.len:Int))/\
 ∃k:ByteArray,cellOf b (p.add ((qc xq (a-1)).toNat*4))=some (xn k)/\
 ∃o:ByteArray,cellOf b d=some (xn o)/\
 Br (!(Op.bytesLess k.toList o.toList))
 (R false b)
 (E () b)) (E () b))))
 (R true A)) (0:Int) h8)
 (fun O=>
 ∃s:Sl,cellOf H (c.add 6)=some (s:Value)/\
 af xv 256 #[s,(xk xq 63)] bJ H fun z u=>
 Br (!z) (R false u) (∃r:Sl,cellOf u (c.add 7)=some (r:Value)/\
 Br ((r.len:Int)>12)
 (R false u)
 (O () u))))
 (fun N=>
 ∃x2,cellOf J c=some (xk xq x2)/\
 af xv 255 #[x2,(xk xq 1),(xk xq 2147483647)] bJ J fun M w=>
 Br (!M) (R false w) (∃G,cellOf w (c.add 1)=some (xk xq G)/\
 af xv 255 #[G,(xk xq 0),(xk xq 16777216)] bJ w fun Q h3=>
 Br (!Q) (R false h3) (∃I:bm,al h3 (c.add 2) 0 I/\
 af xv 18 #[I] bJ h3 fun L D=>
 Br (!L) (R false D) (∃F,cellOf D (c.add 5)=some (xk xq F)/\
 af xv 255 #[F,(xk xq 0),(xk xq 16)] bJ D fun S K=>
 Br (!S)
 (R false K)
 (N () K)))))
theorem QK(a:di)(b:@Km R h a):ab xv 169 #[a] h R:=ao ac func169 (ak.tn (.two (.join [] [(2,3),(5,27)] .n) (.two (.join [] [(2,3),(27,37)] .n) (.two (ak.tn (.inn (.loop [(40,aS)] [(2,5),(40,72)] (ak.tn (ak.tn (.two (.inn (ak.tn (.two (.join [] [(2,3),(45,65)] .n) .n))) .n)))))) .n)))) b
def Kn(c:cB)(a:Sl):Prop:=
 aG (σ:=Sl×Int) (fun b e f=>
 Br (b.2<(a.len:Int))
 (∃g,(a.ptr=some g/\0<=b.2/\b.2<(a.len:Int))/\
 ∃x3,cellOf f (g.add (b.2.toNat*1))=some (xk xq x3)/\
 hJ C c.1 (c.2.1.toList++[(xk xq x3)]++c.2.2.toList) mL f fun j i=>
 Br (!(q9 j)) (af xv 176 #[j] bJ i fun l h3=>
 Br (!l)
 (aw xv (qt 38 1 #[(0,x3)]) aK h3 fun n k=>
 aw xv (qq #[38,38] 38 #[b.1,n]) aK k fun d m=>
 e ((⟨d.ptr,d.len,d.cap⟩:Sl),qc xq (b.2+1)) m)
 (e ((⟨b.1.ptr,b.1.len,b.1.cap⟩:Sl),qc xq (b.2+1)) h3)) (e ((⟨b.1.ptr,b.1.len,b.1.cap⟩:Sl),qc xq (b.2+1)) i))
 (R b.1 f)) ((⟨none,0,0⟩:Sl),(0:Int)) h
theorem QL(b:cB)(a:Sl)(c:@Kn R h b a):ab xv 170 #[(.func (.func b.1) b.2.1 b.2.2),a] h R:=ao ac func170 (ak.tn (ak.tn (.two (ak.tn (.inn (.loop [(5,ca),(11,aS)] [(5,6),(7,9),(11,30)] .n))) .n))) c
def fN(b:Sl)(a:cB):Prop:=
 aG (σ:=Int) (fun c g d=>
 Br (c<(b.len:Int))
 (∃e,(b.ptr=some e/\0<=c/\c<(b.len:Int))/\
 ∃x3,cellOf d (e.add (c.toNat*1))=some (xk xq x3)/\
 hJ C a.1 (a.2.1.toList++[(xk xq x3)]++a.2.2.toList) bJ d fun i f=>
 Br i
 (R c f)
 (g (qc xq (c+1)) f))
 (R (xk xq (-1:Int)) d)) (0:Int) h
theorem gM(b:Sl)(a:cB)(c:@fN R h b a):ab xv 172 #[b,(.func (.func a.1) a.2.1 a.2.2)] h R:=ao ac func172 (ak.tn (.two (ak.tn (.inn (.loop [(8,aS)] [(4,6),(8,19)] .n))) .n)) c
def gA(b:Sl)(a:cB):Prop:=
 af xv 172 #[b,(.func (.func a.1) a.2.1 a.2.2)] bB h fun d c=>
 R (decide (d>=0)) c
theorem jr(b:Sl)(a:cB)(c:@gA R h b a):ab xv 173 #[b,(.func (.func a.1) a.2.1 a.2.2)] h R:=ao ac func173 .n c
def si(a:aP):Prop:=
 Br (!(q9 a)) (∃b,(a=some b)/\
 ∃x2:Bool,cellOf h (b.add 6)=some (xo x2)/\
 R x2 h) (R false h)
theorem Dg(a:aP)(b:@si R h a):ab xv 176 #[a] h R:=ao ac func176 .n b
def AU(a:aP)(c:di)(b:Int):Prop:=
 aO xv (qH 136 c) h fun q f=>
 aW (σ:=Unit) (fun _ h3=>
 af xv 181 #[a] bB h3 fun p r=>
 af xv 180 #[a,p,b] bJ r fun n d=>
 Br n (R true d) (∃e:di,al d q 0 e/\
 af xv 183 #[a,e] aK d fun l j=>
 af xv 180 #[a,(xk xq (l.len:Int)),b] bJ j fun i o=>
 R i o))
 (fun m=>
 Br (q9 a) (R false f) (af xv 176 #[a] bJ f fun k g=>
 Br k
 (R false g)
 (m () g)))
theorem Ea(a:aP)(c:di)(b:Int)(d:@AU R h a c b):ab xv 179 #[a,c,b] h R:=ao ac func179 (ak.tn (.two (.join [] [(6,13)] .n) .n)) d
def Eb(c:aP)(a:Int)(b:Int):Prop:=
 af xv 263 #[c] bB h fun d e=>
 R (decide ((if(0:Int)>b then(0:Int)else b)<=(qc xq (d-a)))) e
theorem Ko(b:aP)(a:Int)(c:Int)(d:@Eb R h b a c):ab xv 180 #[b,a,c] h R:=ao ac func180 .n d
def tm(a:aP):Prop:=
 Br (q9 a)
 (R (xk xq 0) h)
 (∃b,(a=some b)/\
 ∃x2:Sl,cellOf h (b.add 2)=some (x2:Value)/\
 R (xk xq (x2.len:Int)) h)
theorem Ey(a:aP)(b:@tm R h a):ab xv 181 #[a] h R:=ao ac func181 .n b
def oB(a:aP)(b:Sl):Prop:=
 aG (σ:=Int) (fun k F c=>
 Br (k<(b.len:Int))
 (∃v,(b.ptr=some v/\0<=k/\k<(b.len:Int))/\
 ∃x3:Sl,cellOf c (v.add (k.toNat*1))=some (x3:Value)/\
 Br ((x3.len:Int) !=64)
 (R (xk xq 1) c)
 (F (qc xq (k+1)) c))
 (aW (σ:=Unit) (fun _ B=>
 ∃f,(a=some f)/\
 ∃l:aP,cellOf B f=some (.pointer l)/\
 af xv 217 #[l] bJ B fun r y=>
 Br (!r)
 (af xv 264 #[b] aK y fun p D=>
 ∃d,(a=some d)/\
 ae xv (qf 49 (d.add 4) p) D fun _ I=>
 ∃g,(a=some g)/\
 ae xv (qf 4 (g.add 5) true) I fun _ h8=>
 R (xk xq 14) h8)
 (af xv 264 #[b] aK y fun q H=>
 ∃m,(a=some m)/\
 ae xv (qf 49 (m.add 2) q) H fun _ o=>
 ∃e,(a=some e)/\
 ae xv (qf 3 (e.add 3) (xk xq 0)) o fun _ t=>
 af xv 218 #[a] bB t fun u s=>
 R u s))
 (fun G=>
 aW (σ:=Bool) (fun E i=>
 Br E
 (R (xk xq 5) i)
 (∃w,(a=some w)/\
 ∃A,cellOf i (w.add 1)=some (xk xq A)/\
 Br ((b.len:Int)>A)
 (R (xk xq 7) i)
 (∃a9,(a=some a9)/\
 ∃j:aP,cellOf i a9=some (.pointer j)/\
 af xv 114 #[j] bJ i fun n h3=>
 Br (!n)
 (R (xk xq 14) h3)
 (G () h3))))
 (fun z=>
 Br (q9 a) (z true c) (∃a4,(a=some a4)/\
 ∃x:Bool,cellOf c (a4.add 6)=some (xo x)/\
 z x c))))) (0:Int) h
theorem xX(a:aP)(b:Sl)(c:@oB R h a b):ab xv 182 #[a,b] h R:=ao ac func182 (ak.tn (.two (ak.tn (.inn (.loop [(9,aS)] [(4,5),(6,7),(9,17)] .n))) (.two (.join [] [(4,5),(17,41)] (.inn (.two (.join [(17,lL)] [(17,26)] .n) .n))) .n))) c
def HW(b:aP)(c:di):Prop:=
 aO xv (qH 136 c) h fun a d=>
 ∃x2:di,al d a 0 x2/\
 ∃x3:di,al d a 0 x3/\
 af xv 81 #[x2] aK d fun i f=>
 (aq.ok [(a,x3.1),(a.add 1,x3.2.1),(a.add 2,x3.2.2.1),(a.add 3,x3.2.2.2.1),(a.add 4,x3.2.2.2.2.1),(a.add 5,x3.2.2.2.2.2.1),(a.add 6,x3.2.2.2.2.2.2.1),(a.add 7,x3.2.2.2.2.2.2.2)] f)/\
 af xv 265 #[b,x3] aK f fun g h3=>
 (aq.ok [] h3)/\
 aw xv (qq #[49,49] 49 #[i,g]) aK h3 fun j e=>
 (aq.ok [] e)/\
 R j e
theorem Oz(a:aP)(b:di)(c:@HW R h a b):ab xv 183 #[a,b] h R:=ao ac func183 .n c
def tq(a:aP):Prop:=
 Br (q9 a)
 (R (xl none 0 0) h)
 (∃b,(a=some b)/\
 ∃x2:Sl,cellOf h (b.add 2)=some (x2:Value)/\
 af xv 264 #[x2] aK h fun c d=>
 R c d)
theorem Ez(a:aP)(b:@tq R h a):ab xv 186 #[a] h R:=ao ac func186 .n b
def Ec(b:Sl)(a:Sl):Prop:=
 aw xv (convert 23 9 b) (.one tyT) h fun e f=>
 aw xv (convert 23 9 a) (.one tyT) f fun d c=>
 R (xo (e.toList==d.toList)) c
theorem Kp(a:Sl)(b:Sl)(c:@Ec R h a b):ab xv 187 #[a,b] h R:=ao ac func187 .n c
def Kq(a:Int)(c:Sl):Prop:=
 aW (σ:=Unit) (fun _ j=>
 aw xv (qB 23 (xk xq 64) (xk xq 64)) aK j fun b k=>
 aw xv (qt 23 4 #[(0,(xk xr 87)),(1,(xk xr 115)),(2,(xk xr 1)),(3,(xk xr (qc xr a)))]) aK k fun v3 h3=>
 aw xv (wz #[23,23] 3 #[b,v3]) bB h3 fun _ p=>
 (0<=(4:Int)/\(4:Int)<=(b.len:Int))/\
 aw xv (wz #[23,23] 3 #[(.slice (if b.cap=(4:Int).toNat then b.ptr else b.ptr.map (·.add ((4:Int).toNat*1))) (b.len-(4:Int).toNat) (b.cap-(4:Int).toNat)),c]) bB p fun _ m=>
 (0<=(59:Int)/\(59:Int)<=(b.cap:Int))/\
 af xv 269 #[(xl b.ptr ((59:Int).toNat) b.cap)] (.one (.sc (.int .u32))) m fun g i=>
 aG (σ:=Int) (fun d n f=>
 Br (d<4)
 ((0<=(qc xq (8*d)))/\
 ∃e,(b.ptr=some e/\0<=(qc xq (59+d))/\(qc xq (59+d))<(b.len:Int))/\
 ae xv (qf 5 (e.add ((qc xq (59+d)).toNat*1)) (xk xr (qc xr (qQ g (2^min (qc xq (8*d)).toNat (qk xt)))))) f fun _ h8=>
 n (qc xq (d+1)) h8)
 (∃a9,(b.ptr=some a9/\0<=(63:Int)/\(63:Int)<(b.len:Int))/\
 ae xv (qf 5 (a9.add ((63:Int).toNat*1)) (xk xr 165)) f fun _ o=>
 R b o)) (0:Int) i)
 (fun l=>
 Br (a<1) (R (xl none 0 0) h) (Br (a>255) (R (xl none 0 0) h) (Br ((c.len:Int)>55)
 (R (xl none 0 0) h)
 (l () h))))
theorem QM(b:Int)(a:Sl)(c:@Kq R h b a):ab xv 190 #[b,a] h R:=ao ac func190 (ak.tn (.two (.join [] [(4,5),(8,19)] .n) (ak.tn (ak.tn (ak.tn (ak.tn (.two (ak.tn (.inn (.loop [(32,aS)] [(7,8),(32,45)] .n))) .n))))))) c
def FP(d:Int)(b:Sl):Prop:=
 aW (σ:=Unit) (fun _ t=>
 aG (σ:=Int) (fun g v o=>
 Br (g<(b.len:Int))
 (∃a3,(b.ptr=some a3/\0<=g/\g<(b.len:Int))/\
 ∃p:Sl×Sl,al o (a3.add (g.toNat*2)) 0 p/\
 aO xv (qP 183 true (.tuple #[])) o fun a5 h3=>
 ae xv (qf 183 a5 p) h3 fun _ s=>
 ∃n:Sl,cellOf s a5=some (n:Value)/\
 aG (σ:=Int) (fun c q a=>
 Br (c<(n.len:Int))
 (∃r,(n.ptr=some r/\0<=c/\c<(n.len:Int))/\
 ∃m,cellOf a (r.add (c.toNat*1))=some (xk xq m)/\
 Br (m<0) (R false a) (Br (m>=d) (R false a) (Br (c>0) (∃e:Sl,cellOf a a5=some (e:Value)/\
 ∃i,(e.ptr=some i/\0<=(qc xq (c-1))/\(qc xq (c-1))<(e.len:Int))/\
 ∃j:Int,cellOf a (i.add ((qc xq (c-1)).toNat*1))=some (xk xq j)/\
 Br (j>=m)
 (R false a)
 (q (qc xq (c+1)) a)) (q (qc xq (c+1)) a))))
 (∃k:Sl,cellOf a (a5.add 1)=some (k:Value)/\
 ∃f,(b.ptr=some f/\0<=(0:Int)/\(0:Int)<(b.len:Int))/\
 ∃l:Sl,cellOf a ((f.add ((0:Int).toNat*2)).add 1)=some (l:Value)/\
 Br ((k.len:Int) !=(l.len:Int))
 (R false a)
 (v (qc xq (g+1)) a))) (0:Int) s)
 (R true o)) (0:Int) t)
 (fun u=>
 Br (d<0) (R false h) (Br (d>64)
 (R false h)
 (u () h)))
theorem LZ(a:Int)(b:Sl)(c:@FP R h a b):ab xv 194 #[a,b] h R:=ao ac func194 (ak.tn (.two (.join [] [(4,5),(9,15)] .n) (.two (ak.tn (.inn (.loop [(17,aS)] [(4,5),(6,9),(17,61)] (ak.tn (ak.tn (.two (.inn (ak.tn (.two (ak.tn (.inn (.loop [(24,aS)] [(4,5),(7,9),(24,51)] .n))) .n))) .n)))))) .n))) c
end
end Go.Qw
