/- Lemmas. -/
import Derived.Test.YtadfimdanpoafaaGreatDoorTabA
set_option linter.unusedVariables false
open Go.Proofs.Tryz renaming prog -> xx
open Go.Value renaming agg -> xr, bool -> xq, int -> xl, slice -> xn
open Go.IntKind renaming bits -> qk, i64 -> xt, u32 -> xv, u64 -> xw, u8 -> xu, wrap -> qc
open Go.Instr renaming alloc -> qK, box -> qM, buildSlice -> qt, makeSlice -> qF, storeAt -> qf
open Option renaming isNone -> ze
open Go.Builtin renaming append_ -> qw
open BitVec renaming ofInt -> qC
open Int renaming fdiv -> qU
open Go.Proofs.Tryz
set_option maxRecDepth 1000000
namespace Go.Qw
noncomputable section
open Go Go.Vc Go.Proofs
variable {R:AX} {h:Heap}
def ov(b:aO):Prop:=
 ∃a1,(b=some a1)/\
 ∃x2:Sl,cellOf h ((a1.add 6).add 1)=some (x2:Value)/\
 bf (σ:=Unit) (fun _ b2=>
 ∃bq,(b=some bq)/\
 ∃s:Sl,cellOf b2 ((bq.add 6).add 1)=some (s:Value)/\
 aJ (σ:=Int) (fun f K2 g=>
 Br (f<(s.len:Int))
 (∃b1,(s.ptr=some b1/\0<=f/\f<(s.len:Int))/\
 ∃a,cellOf g (b1.add (f.toNat*1))=some (xl xt a)/\
 bf (σ:=Unit) (fun _ G=>
 ∃b6,(b=some b6)/\
 ∃H:Sl,cellOf G (b6.add 9)=some (H:Value)/\
 ∃cd,(H.ptr=some cd/\0<=a/\a<(H.len:Int))/\
 ∃K:Sl,cellOf G (cd.add (a.toNat*1))=some (K:Value)/\
 ∃X,(K.ptr=some X/\0<=f/\f<(K.len:Int))/\
 ag xx (qf 5 (X.add (f.toNat*1)) (xl xu 1)) G fun _ cq=>
 K2 (qc xt (f+1)) cq)
 (fun K3=>
 ∃l,(b=some l)/\
 ∃d:Sl,cellOf g (l.add 9)=some (d:Value)/\
 ∃a25,(b=some a25)/\
 ∃c:Sl,cellOf g (a25.add 10)=some (c:Value)/\
 ∃E,(b=some E)/\
 ∃i,cellOf g ((E.add 1).add 2)=some (xl xt i)/\
 (az xx (qF 35 (xl xt (x2.len:Int)) (xl xt (x2.len:Int))) aH g fun V D=>
 (av.ok [((E.add 1).add 2,i),(a25.add 10,c),(l.add 9,d)] D)/\
 ∃I,(d.ptr=some I/\0<=a/\a<(d.len:Int))/\
 (az xx (qF 35 i i) aH D fun c0 Y=>
 (av.ok [(a25.add 10,c),(l.add 9,d)] Y)/\
 ag xx (qf 35 (I.add (a.toNat*1)) V) Y fun _ Z=>
 (av.ok [] Z)/\
 ∃am,(c.ptr=some am/\0<=a/\a<(c.len:Int))/\
 ag xx (qf 35 (am.add (a.toNat*1)) c0) Z fun _ ab=>
 (av.ok [] ab)/\
 K3 () ab)/\(ag xx (qf 35 (I.add (a.toNat*1)) V) D fun _ b3=>
 (av.ok [] b3)/\
 az xx (qF 35 i i) aH b3 fun ch ao=>
 (av.ok [] ao)/\
 ∃b7,(c.ptr=some b7/\0<=a/\a<(c.len:Int))/\
 ag xx (qf 35 (b7.add (a.toNat*1)) ch) ao fun _ bb=>
 (av.ok [] bb)/\
 K3 () bb))/\(az xx (qF 35 i i) aH g fun cr ax=>
 (av.ok [(a25.add 10,c),(l.add 9,d)] ax)/\
 az xx (qF 35 (xl xt (x2.len:Int)) (xl xt (x2.len:Int))) aH ax fun cs bl=>
 (av.ok [(a25.add 10,c),(l.add 9,d)] bl)/\
 ∃cc,(d.ptr=some cc/\0<=a/\a<(d.len:Int))/\
 ag xx (qf 35 (cc.add (a.toNat*1)) cs) bl fun _ ad=>
 (av.ok [] ad)/\
 ∃b4,(c.ptr=some b4/\0<=a/\a<(c.len:Int))/\
 ag xx (qf 35 (b4.add (a.toNat*1)) cr) ad fun _ b0=>
 (av.ok [] b0)/\
 K3 () b0)))
 (∃a45,(b=some a45)/\
 ∃t:Sl,cellOf g (a45.add 6)=some (t:Value)/\
 aJ (σ:=Int) (fun n K4 N=>
 Br (n<(t.len:Int))
 (∃b5,(t.ptr=some b5/\0<=n/\n<(t.len:Int))/\
 ∃U:Int×Int,aj N (b5.add (n.toNat*2)) 0 U/\
 aK xx (qK 347 true (.tuple #[])) N fun a50 c1=>
 ag xx (qf 347 a50 U) c1 fun _ r=>
 bf (σ:=Addr) (fun B O=>
 bf (σ:=Sl×Sl) (fun p a6=>
 ∃x:Sl,cellOf a6 B=some (x:Value)/\
 aJ (σ:=Int) (fun k K7 e=>
 Br (k<(x.len:Int))
 (∃a66,(x.ptr=some a66/\0<=k/\k<(x.len:Int))/\
 ∃M,cellOf e (a66.add (k.toNat*1))=some (xl xt M)/\
 ∃a4,cellOf e (a50.add 1)=some (xl xt a4)/\
 Br (M !=a4)
 (af xx 312 #[b,(xl xu 1),M,p.1,p.2] gF e fun _ c2=>
 K7 (qc xt (k+1)) c2)
 (K7 (qc xt (k+1)) e))
 (∃a70,(b=some a70)/\
 ∃Q:Sl,cellOf e (a70.add 9)=some (Q:Value)/\
 ∃y,cellOf e (a50.add 1)=some (xl xt y)/\
 ∃S,(b=some S)/\
 ∃J:Sl,cellOf e (S.add 10)=some (J:Value)/\
 ∃m,cellOf e (a50.add 1)=some (xl xt m)/\
 ∃a76,(Q.ptr=some a76/\0<=y/\y<(Q.len:Int))/\
 ag xx (qf 35 (a76.add (y.toNat*1)) p.1) e fun _ cf=>
 (av.ok [(a50.add 1,m)] cf)/\
 ∃a77,(J.ptr=some a77/\0<=m/\m<(J.len:Int))/\
 ag xx (qf 35 (a77.add (m.toNat*1)) p.2) cf fun _ b9=>
 (av.ok [] b9)/\
 K4 (qc xt (n+1)) b9)) (0:Int) a6)
 (fun K6=>
 ∃w:Sl,cellOf O (B.add 1)=some (w:Value)/\
 (az xx (qF 35 (xl xt (x2.len:Int)) (xl xt (x2.len:Int))) aH O fun F ah=>
 (av.ok [(B.add 1,w)] ah)/\
 af xx 206 #[w] aH ah fun A bk=>
 (av.ok [] bk)/\
 K6 ((⟨F.ptr,F.len,F.cap⟩:Sl),(⟨A.ptr,A.len,A.cap⟩:Sl)) bk)/\(af xx 206 #[w] aH O fun L a2=>
 (av.ok [] a2)/\
 az xx (qF 35 (xl xt (x2.len:Int)) (xl xt (x2.len:Int))) aH a2 fun P br=>
 (av.ok [] br)/\
 K6 ((⟨P.ptr,P.len,P.cap⟩:Sl),(⟨L.ptr,L.len,L.cap⟩:Sl)) br)))
 (fun K5=>
 ∃a51,(b=some a51)/\
 ∃u:Sl,cellOf r (a51.add 5)=some (u:Value)/\
 ∃j,cellOf r a50=some (xl xt j)/\
 ∃q,(u.ptr=some q/\0<=j/\j<(u.len:Int))/\
 ∃z:Sl×Sl,aj r (q.add (j.toNat*2)) 0 z/\
 aK xx (qK 263 true (.tuple #[])) r fun ap W=>
 (av.ok [(q.add (j.toNat*2),z.1),((q.add (j.toNat*2)).add 1,z.2),(a50,j),(a51.add 5,u)] W)/\
 ag xx (qf 263 ap z) W fun _ T=>
 (av.ok [] T)/\
 K5 ap T))
 (R (.tuple #[]) N)) (0:Int) g)) (0:Int) b2)
 (fun K1=>
 ∃a3,(b=some a3)/\
 ∃v:Sl,cellOf h (a3.add 4)=some (v:Value)/\
 ∃a5,(b=some a5)/\
 ∃o:Sl,cellOf h (a5.add 4)=some (o:Value)/\
 (az xx (qF 40 (xl xt (v.len:Int)) (xl xt (v.len:Int))) aH h fun v7 h1=>
 (av.ok [(a5.add 4,o),(a3.add 4,v)] h1)/\
 ∃a8,(b=some a8)/\
 (az xx (qF 40 (xl xt (o.len:Int)) (xl xt (o.len:Int))) aH h1 fun v9 h2=>
 (av.ok [(a5.add 4,o),(a3.add 4,v)] h2)/\
 ag xx (qf 40 (a8.add 9) v7) h2 fun _ h3=>
 (av.ok [] h3)/\
 ∃a0,(b=some a0)/\
 ag xx (qf 40 (a0.add 10) v9) h3 fun _ h4=>
 (av.ok [] h4)/\
 K1 () h4)/\(ag xx (qf 40 (a8.add 9) v7) h1 fun _ h5=>
 (av.ok [] h5)/\
 az xx (qF 40 (xl xt (o.len:Int)) (xl xt (o.len:Int))) aH h5 fun cp h6=>
 (av.ok [] h6)/\
 ∃ay,(b=some ay)/\
 ag xx (qf 40 (ay.add 10) cp) h6 fun _ h7=>
 (av.ok [] h7)/\
 K1 () h7))/\(az xx (qF 40 (xl xt (o.len:Int)) (xl xt (o.len:Int))) aH h fun cm h8=>
 (av.ok [(a5.add 4,o),(a3.add 4,v)] h8)/\
 az xx (qF 40 (xl xt (v.len:Int)) (xl xt (v.len:Int))) aH h8 fun cn h9=>
 (av.ok [(a5.add 4,o),(a3.add 4,v)] h9)/\
 ∃ce,(b=some ce)/\
 ag xx (qf 40 (ce.add 9) cn) h9 fun _ bd=>
 (av.ok [] bd)/\
 ∃a7,(b=some a7)/\
 ag xx (qf 40 (a7.add 10) cm) bd fun _ a9=>
 (av.ok [] a9)/\
 K1 () a9))
theorem Ag(a:aO)(b:@ov R h a):ac xx 235 #[a] h R:=au ae func235 (an.tn (.two (.join [] [(18,36)] .n) (.two (an.tn (.inn (.loop [(42,aZ)] [(3,5),(42,77)] (an.tn (an.tn (.two (.inn (an.tn (.two (.join [] [(47,67)] .n) .n))) .n)))))) (an.tn (.inn (.loop [(83,aZ)] [(6,10),(11,12),(83,134)] (an.tn (an.tn (.two (.inn (an.tn (.two (.join [(7,(.sc .adr))] [(7,8),(87,95)] .n) (.two (.join [(8,cv),(9,cv)] [(8,10),(95,100)] .n) (.two (an.tn (.inn (.loop [(103,aZ)] [(11,12),(103,117)] .n))) .n))))) .n))))))))) b
def pm(b:aO):Prop:=
 ∃r,(b=some r)/\
 ∃x2:Sl,cellOf h (r.add 4)=some (x2:Value)/\
 aJ (σ:=Int) (fun a q e=>
 Br (a<(x2.len:Int))
 (∃a4,(x2.ptr=some a4/\0<=a/\a<(x2.len:Int))/\
 ∃l:Sl,cellOf e (a4.add (a.toNat*1))=some (l:Value)/\
 Br (!(ze l.ptr))
 (∃k,(b=some k)/\
 ∃i:Sl,cellOf e (k.add 9)=some (i:Value)/\
 ∃m,(b=some m)/\
 ∃j:Sl,cellOf e (m.add 10)=some (j:Value)/\
 ∃d,(b=some d)/\
 ∃c:Sl,cellOf e ((d.add 6).add 1)=some (c:Value)/\
 az xx (qF 35 (xl xt (c.len:Int)) (xl xt (c.len:Int))) aH e fun n p=>
 (av.ok [((d.add 6).add 1,c),(m.add 10,j),(k.add 9,i)] p)/\
 ∃g,(i.ptr=some g/\0<=a/\a<(i.len:Int))/\
 ag xx (qf 35 (g.add (a.toNat*1)) n) p fun _ h3=>
 (av.ok [] h3)/\
 ∃f,(j.ptr=some f/\0<=a/\a<(j.len:Int))/\
 ag xx (qf 35 (f.add (a.toNat*1)) l) h3 fun _ o=>
 (av.ok [] o)/\
 q (qc xt (a+1)) o)
 (q (qc xt (a+1)) e))
 (R (.tuple #[]) e)) (0:Int) h
theorem Bo(a:aO)(b:@pm R h a):ac xx 236 #[a] h R:=au ae func236 (an.tn (.inn (.loop [(9,aZ)] [(2,4),(9,37)] .n))) b
def ow(b:aO):Prop:=
 ∃a1,(b=some a1)/\
 ∃x2:Sl,cellOf h ((a1.add 6).add 1)=some (x2:Value)/\
 ∃a3,(b=some a3)/\
 ∃U:Sl,cellOf h ((a3.add 6).add 2)=some (U:Value)/\
 aJ (σ:=Tu6) (fun c K1 q=>
 Br (c.2.2<(U.len:Int))
 (∃a6,(U.ptr=some a6/\0<=c.2.2/\c.2.2<(U.len:Int))/\
 ∃n,cellOf q (a6.add (c.2.2.toNat*1))=some (xl xt n)/\
 bf (σ:=Sl×Sl) (fun j h6=>
 ∃T,(b=some T)/\
 ∃r:Sl,cellOf h6 (T.add 5)=some (r:Value)/\
 ∃K,(r.ptr=some K/\0<=n/\n<(r.len:Int))/\
 ∃l:Sl,cellOf h6 (K.add (n.toNat*2))=some (l:Value)/\
 aJ (σ:=Int) (fun g K3 h7=>
 Br (g<(l.len:Int))
 (∃a22,(l.ptr=some a22/\0<=g/\g<(l.len:Int))/\
 ∃S,cellOf h7 (a22.add (g.toNat*1))=some (xl xt S)/\
 af xx 312 #[b,(xl xu 1),S,j.1,j.2] gF h7 fun _ h8=>
 K3 (qc xt (g+1)) h8)
 (az xx (qt 40 1 #[(0,j.1)]) aH h7 fun v25 h9=>
 az xx (qw #[40,40] 40 #[c.1,v25]) aH h9 fun o am=>
 az xx (qt 40 1 #[(0,j.2)]) aH am fun X ah=>
 az xx (qw #[40,40] 40 #[c.2.1,X]) aH ah fun v28 ax=>
 K1 ((⟨o.ptr,o.len,o.cap⟩:Sl),(⟨v28.ptr,v28.len,v28.cap⟩:Sl),qc xt (c.2.2+1)) ax)) (0:Int) h6)
 (fun K2=>
 ∃G,(b=some G)/\
 ∃w:Sl,cellOf q (G.add 5)=some (w:Value)/\
 ∃x,(w.ptr=some x/\0<=n/\n<(w.len:Int))/\
 ∃k:Sl,cellOf q ((x.add (n.toNat*2)).add 1)=some (k:Value)/\
 (az xx (qF 35 (xl xt (x2.len:Int)) (xl xt (x2.len:Int))) aH q fun B h2=>
 (av.ok [((x.add (n.toNat*2)).add 1,k),(G.add 5,w)] h2)/\
 af xx 206 #[k] aH h2 fun t h3=>
 (av.ok [(G.add 5,w)] h3)/\
 K2 ((⟨B.ptr,B.len,B.cap⟩:Sl),(⟨t.ptr,t.len,t.cap⟩:Sl)) h3)/\(af xx 206 #[k] aH q fun D h4=>
 (av.ok [(G.add 5,w)] h4)/\
 az xx (qF 35 (xl xt (x2.len:Int)) (xl xt (x2.len:Int))) aH h4 fun u h5=>
 (av.ok [(G.add 5,w)] h5)/\
 K2 ((⟨u.ptr,u.len,u.cap⟩:Sl),(⟨D.ptr,D.len,D.cap⟩:Sl)) h5)))
 (∃O,(b=some O)/\
 ∃P:bH,aj q (O.add 1) 0 P/\
 af xx 285 #[P] aH q fun p V=>
 aJ (σ:=Tu6) (fun a K4 f=>
 Br (a.2.2<(p.len:Int))
 (∃J,(p.ptr=some J/\0<=a.2.2/\a.2.2<(p.len:Int))/\
 ∃i:Sl,cellOf f (J.add (a.2.2.toNat*1))=some (i:Value)/\
 bf (σ:=Sl×Sl) (fun m Y=>
 aJ (σ:=Int) (fun d K6 z=>
 Br (d<(i.len:Int))
 (∃H,(i.ptr=some H/\0<=d/\d<(i.len:Int))/\
 ∃I,cellOf z (H.add (d.toNat*1))=some (xl xu I)/\
 af xx 312 #[b,(xl xu I),d,m.1,m.2] gF z fun _ ab=>
 K6 (qc xt (d+1)) ab)
 (az xx (qt 40 1 #[(0,m.1)]) aH z fun v46 ao=>
 az xx (qw #[40,40] 40 #[a.1,v46]) aH ao fun y W=>
 az xx (qt 40 1 #[(0,m.2)]) aH W fun ad ap=>
 az xx (qw #[40,40] 40 #[a.2.1,ad]) aH ap fun F Z=>
 K4 ((⟨y.ptr,y.len,y.cap⟩:Sl),(⟨F.ptr,F.len,F.cap⟩:Sl),qc xt (a.2.2+1)) Z)) (0:Int) Y)
 (fun K5=>
 ∃v,(b=some v)/\
 ∃e,cellOf f ((v.add 1).add 2)=some (xl xt e)/\
 (az xx (qF 35 (xl xt (x2.len:Int)) (xl xt (x2.len:Int))) aH f fun A L=>
 (av.ok [((v.add 1).add 2,e)] L)/\
 az xx (qF 35 e e) aH L fun E M=>
 (av.ok [] M)/\
 K5 ((⟨A.ptr,A.len,A.cap⟩:Sl),(⟨E.ptr,E.len,E.cap⟩:Sl)) M)/\(az xx (qF 35 e e) aH f fun v39 N=>
 (av.ok [] N)/\
 az xx (qF 35 (xl xt (x2.len:Int)) (xl xt (x2.len:Int))) aH N fun s Q=>
 (av.ok [] Q)/\
 K5 ((⟨s.ptr,s.len,s.cap⟩:Sl),(⟨v39.ptr,v39.len,v39.cap⟩:Sl)) Q)))
 (R (.tuple #[a.1,a.2.1]) f)) ((⟨c.1.ptr,c.1.len,c.1.cap⟩:Sl),(⟨c.2.1.ptr,c.2.1.len,c.2.1.cap⟩:Sl),(0:Int)) V)) ((⟨none,0,0⟩:Sl),(⟨none,0,0⟩:Sl),(0:Int)) h
theorem Ah(a:aO)(b:@ow R h a):ac xx 237 #[a] h R:=au ae func237 (an.tn (an.tn (.two (an.tn (.inn (.loop [(2,cv),(3,cv),(29,aZ)] [(2,4),(6,9),(10,11),(29,72)] (an.tn (an.tn (.two (.inn (an.tn (.two (.join [(7,cv),(8,cv)] [(7,9),(33,44)] .n) (.two (an.tn (.inn (.loop [(53,aZ)] [(10,11),(53,63)] .n))) .n)))) .n)))))) (.two (an.tn (.inn (.loop [(2,cv),(3,cv),(78,aZ)] [(2,4),(12,17),(78,113)] (an.tn (an.tn (.two (.inn (an.tn (.two (.join [(13,cv),(14,cv)] [(13,15),(82,90)] .n) (.two (an.tn (.inn (.loop [(92,aZ)] [(15,17),(92,104)] .n))) .n)))) .n)))))) .n)))) b
def Gd(b:Sl)(a:ByteArray):Prop:=
 Br ((b.len:Int)==0)
 (R (xn none 0 0) h)
 (Br (a.toList==np.toList)
 (R b h)
 (bf (σ:=Unit) (fun _ h3=>
 af xx 315 #[a] (.many [(.arr .bool),mg]) h3 fun k p=>
 aK xx (qK 352 true (.tuple #[])) p fun c t=>
 ag xx (qf 352 c (xr (k.1.map (Sc.enc .bool)).toArray)) t fun _ n=>
 Br k.2
 (af xx 317 #[b,c] aH n fun u s=>
 af xx 316 #[u,c] aH s fun g h8=>
 R g h8)
 (af xx 319 #[b,a] aH n fun e r=>
 af xx 318 #[e,a] aH r fun f d=>
 R f d))
 (fun l=>
 Br ((a.size:Int)==1) (∃m:UInt8,(0<=(0:Int)/\a.data[(0:Int).toNat]?=some m)/\
 Br ((m.toNat:Nat)<(128:Int))
 (∃i:UInt8,(0<=(0:Int)/\a.data[(0:Int).toNat]?=some i)/\
 ∃c3:UInt8,(0<=(0:Int)/\a.data[(0:Int).toNat]?=some c3)/\
 af xx 314 #[b,(xl xu (i.toNat:Nat))] aH h fun q o=>
 (av.ok [] o)/\
 af xx 313 #[q,(xl xu (c3.toNat:Nat))] aH o fun v j=>
 (av.ok [] j)/\
 R v j)
 (l () h)) (l () h))))
theorem MV(b:Sl)(a:ByteArray)(c:@Gd R h b a):ac xx 238 #[b,a] h R:=au ae func238 (an.tn (an.tn (an.tn (.two (.join [] [(4,5),(13,28)] .n) .n)))) c
def pU(e:aO)(d:Sl):Prop:=
 ∃L,(e=some L)/\
 ∃x2:Sl,cellOf h (L.add 4)=some (x2:Value)/\
 aJ (σ:=Int) (fun c J m=>
 Br (c<(x2.len:Int))
 (∃a4,(e=some a4)/\
 ∃D:Sl,cellOf m (a4.add 4)=some (D:Value)/\
 ∃H,(D.ptr=some H/\0<=c/\c<(D.len:Int))/\
 ∃M:Sl,cellOf m (H.add (c.toNat*1))=some (M:Value)/\
 Br (!(ze M.ptr))
 (J (qc xt (c+1)) m)
 (∃I,(e=some I)/\
 ∃G:Sl,cellOf m (I.add 10)=some (G:Value)/\
 ∃r,(G.ptr=some r/\0<=c/\c<(G.len:Int))/\
 ∃y:Sl,cellOf m (r.add (c.toNat*1))=some (y:Value)/\
 af xx 206 #[y] aH m fun f E=>
 ∃A,(e=some A)/\
 ∃l:Sl,cellOf E (A.add 9)=some (l:Value)/\
 ∃z,(l.ptr=some z/\0<=c/\c<(l.len:Int))/\
 ∃g:Sl,cellOf E (z.add (c.toNat*1))=some (g:Value)/\
 aJ (σ:=Int) (fun b P h3=>
 Br (b<(g.len:Int))
 (∃x,(g.ptr=some x/\0<=b/\b<(g.len:Int))/\
 ∃B,cellOf h3 (x.add (b.toNat*1))=some (xl xu B)/\
 ∃q,(d.ptr=some q/\0<=b/\b<(d.len:Int))/\
 ∃i:Sl,cellOf h3 (q.add (b.toNat*1))=some (i:Value)/\
 aJ (σ:=Int) (fun a Q n=>
 Br (a<(i.len:Int))
 (∃o,(i.ptr=some o/\0<=a/\a<(i.len:Int))/\
 ∃s,cellOf n (o.add (a.toNat*1))=some (xl xu s)/\
 ∃a25,(f.ptr=some a25/\0<=a/\a<(f.len:Int))/\
 ∃j,cellOf n (a25.add (a.toNat*1))=some (xl xu j)/\
 ∃p,(e=some p)/\
 ∃v:aO,cellOf n p=some (.pointer v)/\
 af xx 320 #[v,(xl xu B),(xl xu s)] (.one (.sc (.int .u8))) n fun F K=>
 (av.ok [(a25.add (a.toNat*1),(xl xu j))] K)/\
 ∃t,(f.ptr=some t/\0<=a/\a<(f.len:Int))/\
 ag xx (qf 5 (t.add (a.toNat*1)) (xl xu (qc xu ((qC (qk xu) j^^^(qC (qk xu) F)).toNat:Nat)))) K fun _ N=>
 (av.ok [] N)/\
 Q (qc xt (a+1)) N)
 (P (qc xt (b+1)) n)) (0:Int) h3)
 (∃u,(e=some u)/\
 ∃k:Sl,cellOf h3 (u.add 4)=some (k:Value)/\
 ∃w,(k.ptr=some w/\0<=c/\c<(k.len:Int))/\
 ag xx (qf 35 (w.add (c.toNat*1)) f) h3 fun _ O=>
 J (qc xt (c+1)) O)) (0:Int) E))
 (R (.tuple #[]) m)) (0:Int) h
theorem Cf(b:aO)(a:Sl)(c:@pU R h b a):ac xx 239 #[b,a] h R:=au ae func239 (an.tn (.inn (.loop [(15,aZ)] [(4,10),(15,80)] (an.tn (an.tn (.two (.inn (an.tn (an.tn (an.tn (.two (an.tn (.inn (.loop [(42,aZ)] [(6,10),(42,72)] (an.tn (an.tn (.two (.inn (an.tn (an.tn (.inn (.loop [(52,aZ)] [(8,10),(52,71)] .n))))) .n)))))) .n))))) .n)))))) c
def KW(a:Int):Prop:=
 aK xx (qM 359 (xr #[(xl xw (qc xw a))])) h fun c b=>
 R c b
theorem QS(a:Int)(b:@KW R h a):ac xx 240 #[(xl xv a)] h R:=au ae func240 .n b
def xA(a:aO):Prop:=
 Br (ze a)
 (R (xl xv 0) h)
 (∃b,(a=some b)/\
 ∃x2,cellOf h b=some (xl xw x2)/\
 ∃a3,(a=some a3)/\
 ag xx (qf 335 a3 (xl xw (qc xw ((qc xw (x2*6364136223846793005))+1442695040888963407)))) h fun _ d=>
 ∃a4,(a=some a4)/\
 ∃c,cellOf d a4=some (xl xw c)/\
 (0<=(32:Int))/\
 R (xl xv (qc xv (qU c (2^min (32:Int).toNat (qk xw))))) d)
theorem Ge(a:aO)(b:@xA R h a):ac xx 241 #[a] h R:=au ae func241 .n b
def Cg(a:Sl)(b:aO):Prop:=
 Br ((a.len:Int)==0)
 (R (xl xt 0) h)
 (∃c,(a.ptr=some c/\0<=(qc xt ((a.len:Int)-1))/\(qc xt ((a.len:Int)-1))<(a.len:Int))/\
 ∃x2:Int,cellOf h (c.add ((qc xt ((a.len:Int)-1)).toNat*1))=some (xl xt x2)/\
 af xx 322 #[b,x2] bt h fun f g=>
 af xx 321 #[a,f] bt g fun e d=>
 R e d)
theorem Jn(b:Sl)(a:aO)(c:@Cg R h b a):ac xx 242 #[b,a] h R:=au ae func242 .n c
def AI(a:Int):Prop:=
 bf (σ:=Unit) (fun _ m=>
 az xx (qF 22 (xl xt 0) a) aH m fun c k=>
 aJ (σ:=Tu7) (fun b j h3=>
 Br (b.2.2<=a)
 (af xx 323 #[a,b.2.2] bt h3 fun e f=>
 az xx (qt 22 1 #[(0,(qc xt (b.2.1+e)))]) aH f fun v5 g=>
 az xx (qw #[22,22] 22 #[b.1,v5]) aH g fun d l=>
 j ((⟨d.ptr,d.len,d.cap⟩:Sl),qc xt (b.2.1+e),qc xt (b.2.2+1)) l)
 (R b.1 h3)) ((⟨c.ptr,c.len,c.cap⟩:Sl),(0:Int),(1:Int)) k)
 (fun i=>
 Br (a<1) (R (xn none 0 0) h) (Br (a>64)
 (R (xn none 0 0) h)
 (i () h)))
theorem HT(a:Int)(b:@AI R h a):ac xx 243 #[a] h R:=au ae func243 (an.tn (.two (.join [] [(2,3),(6,12)] .n) (an.tn (an.tn (.two (an.tn (.inn (.loop [(3,cv),(4,aZ),(5,aZ)] [(3,6),(14,28)] .n))) .n))))) b
def Et(l:aO)(d:Int)(c:Int):Prop:=
 bf (σ:=Unit) (fun _ y=>
 az xx (qF 22 d d) aH y fun b t=>
 aJ (σ:=Int) (fun f v h3=>
 Br (f<(b.len:Int))
 (∃a4,(b.ptr=some a4/\0<=f/\f<(b.len:Int))/\
 ag xx (qf 3 (a4.add (f.toNat*1)) f) h3 fun _ s=>
 v (qc xt (f+1)) s)
 (aJ (σ:=Int) (fun a x q=>
 Br (a<c)
 (af xx 322 #[l,(qc xt (d-a))] bt q fun e n=>
 ∃p,(b.ptr=some p/\0<=(qc xt (a+e))/\(qc xt (a+e))<(b.len:Int))/\
 ∃r:Int,cellOf n (p.add ((qc xt (a+e)).toNat*1))=some (xl xt r)/\
 ∃a9,(b.ptr=some a9/\0<=a/\a<(b.len:Int))/\
 ∃k,cellOf n (a9.add (a.toNat*1))=some (xl xt k)/\
 ∃g,(b.ptr=some g/\0<=a/\a<(b.len:Int))/\
 ag xx (qf 3 (g.add (a.toNat*1)) r) n fun _ o=>
 (av.ok [] o)/\
 ∃i,(b.ptr=some i/\0<=(qc xt (a+e))/\(qc xt (a+e))<(b.len:Int))/\
 ag xx (qf 3 (i.add ((qc xt (a+e)).toNat*1)) k) o fun _ h8=>
 (av.ok [] h8)/\
 x (qc xt (a+1)) h8)
 ((0<=c/\c<=(b.cap:Int))/\
 af xx 80 #[(xn b.ptr c.toNat b.cap)] aH q fun j u=>
 af xx 168 #[j] gF u fun _ m=>
 R j m)) (0:Int) h3)) (0:Int) t)
 (fun w=>
 Br (d<0) (R (xn none 0 0) h) (Br (d>64) (R (xn none 0 0) h) (Br (c<0) (R (xn none 0 0) h) (Br (c>d)
 (R (xn none 0 0) h)
 (w () h)))))
theorem KX(b:aO)(a:Int)(c:Int)(d:@Et R h b a c):ac xx 244 #[b,a,c] h R:=au ae func244 (an.tn (.two (.join [] [(6,7),(12,27)] .n) (an.tn (.two (an.tn (.inn (.loop [(31,aZ)] [(8,9),(31,39)] .n))) (.two (an.tn (.inn (.loop [(40,aZ)] [(9,11),(40,65)] .n))) .n))))) d
def KY(d:df):Prop:=
 aK xx (qM 139 d) h fun c i=>
 aK xx (qK 286 true (.tuple #[])) i fun g b=>
 ∃x3,cellOf b c=some (xl xt x3)/\
 ∃e,cellOf b (c.add 1)=some (xl xt e)/\
 ∃f,cellOf b (c.add 2)=some (xl xt f)/\
 ag xx (qf 286 g (xr #[x3,e,f])) b fun _ h3=>
 ∃a:bH,aj h3 g 0 a/\
 R a h3
theorem QU(a:df)(b:@KY R h a):ac xx 245 #[a] h R:=au ae func245 .n b
def gv(a:Sl)(b:cA):Prop:=
 af xx 324 #[a,(.func (.func b.1) b.2.1 b.2.2)] bt h fun g m=>
 Br (g==(-1:Int))
 (R a m)
 (aJ (σ:=Int×Int) (fun c k e=>
 Br (c.2<(a.len:Int))
 (∃a3,(a.ptr=some a3/\0<=c.2/\c.2<(a.len:Int))/\
 ∃j:df,aj e (a3.add (c.2.toNat*8)) 0 j/\
 aK xx (qK 139 true (.tuple #[])) e fun a5 h3=>
 ag xx (qf 139 a5 j) h3 fun _ i=>
 ∃d:df,aj i a5 0 d/\
 gb C b.1 (b.2.1.toList++[(xr #[d.1,d.2.1,d.2.2.1,d.2.2.2.1,d.2.2.2.2.1,d.2.2.2.2.2.1,(xl xv d.2.2.2.2.2.2.1),d.2.2.2.2.2.2.2])]++b.2.2.toList) bE i fun o f=>
 Br (!o)
 (∃l:df,aj f a5 0 l/\
 ∃a9,(a.ptr=some a9/\0<=c.1/\c.1<(a.len:Int))/\
 ag xx (qf 139 (a9.add (c.1.toNat*8)) l) f fun _ p=>
 k (qc xt (c.1+1),qc xt (c.2+1)) p)
 (k (c.1,qc xt (c.2+1)) f))
 ((0<=c.1/\c.1<=(a.len:Int))/\
 ag xx (Builtin.clear_ #[136] 0 #[(.slice (if a.cap=c.1.toNat then a.ptr else a.ptr.map (·.add (c.1.toNat*8))) (a.len-c.1.toNat) (a.cap-c.1.toNat))]) e fun _ n=>
 (0<=c.1/\c.1<=(a.cap:Int))/\
 R (xn a.ptr c.1.toNat a.cap) n)) (g,qc xt (g+1)) m)
theorem ki(b:Sl)(a:cA)(c:@gv R h b a):ac xx 246 #[b,(.func (.func a.1) a.2.1 a.2.2)] h R:=au ae func246 (an.tn (an.tn (an.tn (.two (an.tn (.inn (.loop [(5,aZ),(6,aZ)] [(5,8),(16,36)] .n))) .n)))) c
def po(b:df)(a:Addr):Prop:=
 aK xx (qM 139 b) h fun e c=>
 ∃x2:Option Nat,cellOf c a=some (.map x2)/\
 ∃x3:df,aj c e 0 x3/\
 af xx 245 #[x3] aaF c fun f d=>
 (av.ok [(a,(.map x2))] d)/\
 az xx (Instr.lookup 284 (.map x2) f false) bE d fun v5 h3=>
 (av.ok [] h3)/\
 R v5 h3
theorem Bp(b:df)(a:Addr)(c:@po R h b a):ac xx 247 #[b,a] h R:=au ae func247 .n c
def Iv(a:Sl):Prop:=
 aJ (σ:=Sl×Int) (fun b g d=>
 Br (b.2<(a.len:Int))
 (∃e,(a.ptr=some e/\0<=b.2/\b.2<(a.len:Int))/\
 ∃x3:Sl,cellOf d (e.add (b.2.toNat*1))=some (x3:Value)/\
 af xx 206 #[x3] aH d fun j i=>
 az xx (qt 40 1 #[(0,j)]) aH i fun v5 h3=>
 az xx (qw #[40,40] 40 #[b.1,v5]) aH h3 fun c f=>
 g ((⟨c.ptr,c.len,c.cap⟩:Sl),qc xt (b.2+1)) f)
 (R b.1 d)) ((⟨none,0,0⟩:Sl),(0:Int)) h
theorem OW(a:Sl)(b:@Iv R h a):ac xx 248 #[a] h R:=au ae func248 (an.tn (an.tn (.two (an.tn (.inn (.loop [(3,cv),(8,aZ)] [(3,4),(5,6),(8,18)] .n))) .n))) b
def Gg(d:aO)(f:cJ):Prop:=
 aK xx (qM 59 f) h fun r l=>
 ∃x2:cJ,aj l r 0 x2/\
 af xx 81 #[d,x2] aH l fun e n=>
 aJ (σ:=Sl×Int) (fun b p h3=>
 Br (b.2<(e.len:Int))
 (∃a5,(e.ptr=some a5/\0<=b.2/\b.2<(e.len:Int))/\
 ∃g:df,aj h3 (a5.add (b.2.toNat*8)) 0 g/\
 aK xx (qK 139 true (.tuple #[])) h3 fun i m=>
 ag xx (qf 139 i g) m fun _ j=>
 ∃k:df,aj j i 0 k/\
 af xx 130 #[k] aH j fun q s=>
 az xx (qt 40 1 #[(0,q)]) aH s fun c o=>
 az xx (qw #[40,40] 40 #[b.1,c]) aH o fun a h8=>
 p ((⟨a.ptr,a.len,a.cap⟩:Sl),qc xt (b.2+1)) h8)
 (R b.1 h3)) ((⟨none,0,0⟩:Sl),(0:Int)) n
theorem MW(a:aO)(b:cJ)(c:@Gg R h a b):ac xx 249 #[a,b] h R:=au ae func249 (an.tn (an.tn (.two (an.tn (.inn (.loop [(5,cv),(12,aZ)] [(5,6),(7,8),(12,22)] .n))) .n))) c
def Iw(a:Sl):Prop:=
 Br ((a.len:Int) !=64)
 (R (.tuple #[(xl xt 0),(xn none 0 0),false]) h)
 (∃b,(a.ptr=some b/\0<=(3:Int)/\(3:Int)<(a.len:Int))/\
 ∃x2:Int,cellOf h (b.add ((3:Int).toNat*1))=some (xl xu x2)/\
 (0<=(4:Int)/\(4:Int)<=(59:Int)/\(59:Int)<=(a.cap:Int))/\
 af xx 206 #[(.slice (if a.cap=(4:Int).toNat then a.ptr else a.ptr.map (·.add ((4:Int).toNat*1))) ((59:Int).toNat-(4:Int).toNat) (a.cap-(4:Int).toNat))] aH h fun c d=>
 (av.ok [(b.add ((3:Int).toNat*1),(xl xu x2))] d)/\
 af xx 205 #[(qc xt x2),c] aH d fun g f=>
 af xx 229 #[a,g] bE f fun e h3=>
 Br (!e)
 (R (.tuple #[(xl xt 0),(xn none 0 0),false]) h3)
 (R (.tuple #[(qc xt x2),c,true]) h3))
theorem OX(a:Sl)(b:@Iw R h a):ac xx 250 #[a] h R:=au ae func250 .n b
def Eu(a:Sl):Prop:=
 aJ (σ:=Int×Int) (fun b e c=>
 Br (b.2<(a.len:Int))
 (∃d,(a.ptr=some d/\0<=b.2/\b.2<(a.len:Int))/\
 ∃x3,cellOf c (d.add (b.2.toNat*1))=some (xl xu x3)/\
 (0<=(8:Int))/\
 e (qc xt ((qC (qk xt) (qc xt (b.1*2^min (8:Int).toNat (qk xt)))|||(qC (qk xt) (qc xt x3))).toNat:Nat),qc xt (b.2+1)) c)
 (R b.1 c)) ((0:Int),(0:Int)) h
theorem KZ(a:Sl)(b:@Eu R h a):ac xx 251 #[a] h R:=au ae func251 (an.tn (an.tn (.two (an.tn (.inn (.loop [(3,aZ),(8,aZ)] [(3,4),(5,6),(8,18)] .n))) .n))) b
def AJ(m:iX)(a:Addr):Prop:=
 aK xx (qM 105 m) h fun d b=>
 ∃x2,cellOf b (d.add 1)=some (xl xt x2)/\
 ∃x3,cellOf b a=some (xl xt x3)/\
 Br (x2==x3) (∃g:Sl,cellOf b (d.add 3)=some (g:Value)/\
 ∃i,cellOf b (a.add 1)=some (xl xt i)/\
 Br ((g.len:Int)>i) (∃k,cellOf b (a.add 6)=some (xl xv k)/\
 ∃n,cellOf b a=some (xl xt n)/\
 ∃p,cellOf b (a.add 1)=some (xl xt p)/\
 ∃j:Sl,cellOf b (d.add 3)=some (j:Value)/\
 ∃c,cellOf b (a.add 1)=some (xl xt c)/\
 ∃e,(j.ptr=some e/\0<=c/\c<(j.len:Int))/\
 ∃f,cellOf b (e.add (c.toNat*1))=some (xl xt f)/\
 af xx 69 #[n,p,f] (.one (.sc (.int .u32))) b fun l o=>
 (av.ok [(a.add 1,c),(d.add 3,j),(a.add 6,(xl xv k)),(a.add 1,i),(d.add 3,g),(a,x3),(d.add 1,x2)] o)/\
 R (xq (k==l)) o) ((av.ok [(a.add 1,i),(d.add 3,g),(a,x3),(d.add 1,x2)] b)/\
 R false b)) ((av.ok [(a,x3),(d.add 1,x2)] b)/\
 R false b)
theorem HU(b:iX)(a:Addr)(c:@AJ R h b a):ac xx 252 #[b,a] h R:=au ae func252 .n c
def iZ(b:Sl)(c:Int)(a:cA):Prop:=
 aJ (σ:=Int×Int) (fun f l k=>
 Br (f.2<=c)
 (af xx 325 #[b,f.1,f.2,(.func (.func a.1) a.2.1 a.2.2)] gF k fun _ o=>
 l (f.2,qc xt (f.2+20)) o)
 (af xx 325 #[b,f.1,c,(.func (.func a.1) a.2.1 a.2.2)] gF k fun _ h3=>
 aJ (σ:=Int) (fun e j i=>
 Br (e<c)
 (aJ (σ:=Int×Int) (fun d n g=>
 Br (d.2<=c)
 (af xx 326 #[b,d.1,(qc xt (d.1+e)),d.2,(.func (.func a.1) a.2.1 a.2.2)] gF g fun _ p=>
 n (d.2,qc xt (d.2+(qc xt (2*e)))) p)
 (Br ((qc xt (d.1+e))<c)
 (af xx 326 #[b,d.1,(qc xt (d.1+e)),c,(.func (.func a.1) a.2.1 a.2.2)] gF g fun _ m=>
 j (qc xt (e*2)) m)
 (j (qc xt (e*2)) g))) ((0:Int),qc xt (2*e)) i)
 (R (.tuple #[]) i)) (20:Int) h3)) ((0:Int),(20:Int)) h
theorem mL(b:Sl)(c:Int)(a:cA)(d:@iZ R h b c a):ac xx 253 #[b,c,(.func (.func a.1) a.2.1 a.2.2)] h R:=au ae func253 (an.tn (an.tn (.two (.inn (.loop [(7,aZ),(8,aZ)] [(7,9),(11,23)] .n)) (an.tn (.inn (.loop [(6,aZ)] [(6,10),(28,63)] (an.tn (.inn (an.tn (.two (.inn (.loop [(7,aZ),(8,aZ)] [(7,9),(33,49)] .n)) .n)))))))))) d
def Ch(a:Int):Prop:=
 af xx 189 #[a,(xl xt 0),(xl xt 15)] bE h fun b c=>
 R (xq (!b)) c
theorem Jo(a:Int)(b:@Ch R h a):ac xx 271 #[a] h R:=au ae func271 .n b
def NU(b:Sl):Prop:=
 aJ (σ:=Int×Int) (fun c i e=>
 Br (c.2<(b.len:Int))
 (∃g,(b.ptr=some g/\0<=c.2/\c.2<(b.len:Int))/\
 ∃x3,cellOf e (g.add (c.2.toNat*1))=some (xl xu x3)/\
 aJ (σ:=Int×Int) (fun a f d=>
 Br (a.2<8)
 ((0<=(1:Int))/\
 Br ((qc xv ((qC (qk xv) a.1&&&(qC (qk xv) (1:Int))).toNat:Nat))==1)
 (f (qc xv ((qC (qk xv) (qU a.1 (2^min (1:Int).toNat (qk xv)))^^^(qC (qk xv) (3988292384:Int))).toNat:Nat),qc xt (a.2+1)) d)
 (f (qU a.1 (2^min (1:Int).toNat (qk xv)),qc xt (a.2+1)) d))
 (i (a.1,qc xt (c.2+1)) d)) (qc xv ((qC (qk xv) c.1^^^(qC (qk xv) (qc xv x3))).toNat:Nat),(0:Int)) e)
 (R (xl xv (qc xv ((qC (qk xv) (4294967295:Int)^^^(qC (qk xv) c.1)).toNat:Nat))) e)) ((4294967295:Int),(0:Int)) h
theorem SP(a:Sl)(b:@NU R h a):ac xx 276 #[a] h R:=au ae func276 (an.tn (an.tn (.two (an.tn (.inn (.loop [(3,(.sc (.int .u32))),(9,aZ)] [(3,4),(5,7),(9,29)] (an.tn (an.tn (.two (.inn (an.tn (an.tn (an.tn (.inn (.loop [(3,(.sc (.int .u32))),(17,aZ)] [(3,4),(6,7),(17,28)] .n)))))) .n)))))) .n))) b
def NV(a:Sl):Prop:=
 aJ (σ:=Int) (fun c f b=>
 Br (c<(a.len:Int))
 (∃e,(a.ptr=some e/\0<=c/\c<(a.len:Int))/\
 ∃x3:Sl,cellOf b (e.add (c.toNat*1))=some (x3:Value)/\
 ∃a4,(a.ptr=some a4/\0<=(0:Int)/\(0:Int)<(a.len:Int))/\
 ∃d:Sl,cellOf b (a4.add ((0:Int).toNat*1))=some (d:Value)/\
 Br ((x3.len:Int) !=(d.len:Int)) (R false b) (Br ((x3.len:Int)>64)
 (R false b)
 (f (qc xt (c+1)) b)))
 (R true b)) (0:Int) h
theorem SQ(a:Sl)(b:@NV R h a):ac xx 277 #[a] h R:=au ae func277 (an.tn (.two (an.tn (.inn (.loop [(7,aZ)] [(2,3),(4,5),(7,24)] .n))) .n)) b
def Ix(a:Sl):Prop:=
 Br ((a.len:Int)==0)
 (R (xl xt 0) h)
 (∃b,(a.ptr=some b/\0<=(0:Int)/\(0:Int)<(a.len:Int))/\
 ∃x2:Sl,cellOf h (b.add ((0:Int).toNat*1))=some (x2:Value)/\
 R (xl xt (x2.len:Int)) h)
theorem OY(a:Sl)(b:@Ix R h a):ac xx 278 #[a] h R:=au ae func278 .n b
def NW(a:Sl):Prop:=
 az xx (qF 40 (xl xt 0) (xl xt (a.len:Int))) aH h fun d m=>
 aJ (σ:=Sl×Int) (fun b j c=>
 Br (b.2<(a.len:Int))
 (∃a3,(a.ptr=some a3/\0<=b.2/\b.2<(a.len:Int))/\
 ∃f:Sl,cellOf c (a3.add (b.2.toNat*1))=some (f:Value)/\
 af xx 206 #[f] aH c fun g h3=>
 az xx (qt 40 1 #[(0,g)]) aH h3 fun l i=>
 az xx (qw #[40,40] 40 #[b.1,l]) aH i fun e k=>
 j ((⟨e.ptr,e.len,e.cap⟩:Sl),qc xt (b.2+1)) k)
 (R b.1 c)) ((⟨d.ptr,d.len,d.cap⟩:Sl),(0:Int)) m
theorem SS(a:Sl)(b:@NW R h a):ac xx 279 #[a] h R:=au ae func279 (an.tn (an.tn (.two (an.tn (.inn (.loop [(3,cv),(11,aZ)] [(3,4),(5,6),(11,21)] .n))) .n))) b
def Gh(m:aO)(a:Sl)(i:Int):Prop:=
 aJ (σ:=Int×Int) (fun b J L=>
 Br (b.2<i)
 (af xx 355 #[a,b.1,b.2] bt L fun j x=>
 Br (j<0)
 (J (b.1,qc xt (b.2+1)) x)
 (bf (σ:=Unit) (fun _ y=>
 bf (σ:=Unit) (fun _ M=>
 aJ (σ:=Int) (fun c F d=>
 Br (c<(a.len:Int))
 (Br (c !=b.1)
 (∃n,(a.ptr=some n/\0<=c/\c<(a.len:Int))/\
 ∃g:Sl,cellOf d (n.add (c.toNat*1))=some (g:Value)/\
 ∃p,(g.ptr=some p/\0<=b.2/\b.2<(g.len:Int))/\
 ∃s,cellOf d (p.add (b.2.toNat*1))=some (xl xu s)/\
 ∃a25,(a.ptr=some a25/\0<=b.1/\b.1<(a.len:Int))/\
 ∃o:Sl,cellOf d (a25.add (b.1.toNat*1))=some (o:Value)/\
 ∃q,(a.ptr=some q/\0<=c/\c<(a.len:Int))/\
 ∃u:Sl,cellOf d (q.add (c.toNat*1))=some (u:Value)/\
 af xx 358 #[m,(xl xu s),o,u] gF d fun _ t=>
 (av.ok [(n.add (c.toNat*1),g)] t)/\
 F (qc xt (c+1)) t)
 (F (qc xt (c+1)) d))
 (J (qc xt (b.1+1),qc xt (b.2+1)) d)) (0:Int) M)
 (fun O=>
 ∃f,(a.ptr=some f/\0<=b.1/\b.1<(a.len:Int))/\
 ∃e:Sl,cellOf y (f.add (b.1.toNat*1))=some (e:Value)/\
 ∃r,(e.ptr=some r/\0<=b.2/\b.2<(e.len:Int))/\
 ∃w,cellOf y (r.add (b.2.toNat*1))=some (xl xu w)/\
 ∃k,(a.ptr=some k/\0<=b.1/\b.1<(a.len:Int))/\
 ∃l:Sl,cellOf y (k.add (b.1.toNat*1))=some (l:Value)/\
 af xx 357 #[m,(xl xu w)] (.one (.sc (.int .u8))) y fun z K=>
 (av.ok [(k.add (b.1.toNat*1),l),(f.add (b.1.toNat*1),e)] K)/\
 af xx 356 #[m,(xl xu z),l] aH K fun A H=>
 (av.ok [(f.add (b.1.toNat*1),e)] H)/\
 ∃v,(a.ptr=some v/\0<=b.1/\b.1<(a.len:Int))/\
 ag xx (qf 35 (v.add (b.1.toNat*1)) A) H fun _ h8=>
 (av.ok [] h8)/\
 O () h8))
 (fun N=>
 ∃a3,(a.ptr=some a3/\0<=j/\j<(a.len:Int))/\
 ∃G:Sl,cellOf x (a3.add (j.toNat*1))=some (G:Value)/\
 ∃a5,(a.ptr=some a5/\0<=b.1/\b.1<(a.len:Int))/\
 ∃B:Sl,cellOf x (a5.add (b.1.toNat*1))=some (B:Value)/\
 ∃I,(a.ptr=some I/\0<=b.1/\b.1<(a.len:Int))/\
 ag xx (qf 35 (I.add (b.1.toNat*1)) G) x fun _ h3=>
 (av.ok [] h3)/\
 ∃E,(a.ptr=some E/\0<=j/\j<(a.len:Int))/\
 ag xx (qf 35 (E.add (j.toNat*1)) B) h3 fun _ D=>
 (av.ok [] D)/\
 N () D)))
 (R b.1 L)) ((0:Int),(0:Int)) h
theorem MX(c:aO)(b:Sl)(a:Int)(d:@Gh R h c b a):ac xx 280 #[c,b,a] h R:=au ae func280 (an.tn (an.tn (.two (an.tn (.inn (.loop [(7,aZ),(12,aZ)] [(7,11),(12,82)] (an.tn (an.tn (.two (.inn (an.tn (an.tn (an.tn (.two (.join [] [(21,35)] .n) (.two (.join [] [(35,53)] .n) (.two (an.tn (.inn (.loop [(55,aZ)] [(10,11),(55,79)] .n))) .n))))))) .n)))))) .n))) d
def La(a:aO):Prop:=
 Br (ze a)
 (af xx 212 #[] jp h fun b c=>
 R b c)
 (R a h)
theorem QV(a:aO)(b:@La R h a):ac xx 281 #[a] h R:=au ae func281 .n b
def Lb(a:Sl):Prop:=
 af xx 359 #[a,(.func (.func 360) #[] #[])] bt h fun b c=>
 R b c
theorem QW(a:Sl)(b:@Lb R h a):ac xx 282 #[a] h R:=au ae func282 .n b
def Iy:Prop:=
 aK xx (qK 314 true (.tuple #[])) h fun c k=>
 aJ (σ:=Int×Int) (fun b i e=>
 Br (b.2<255)
 ((0<=b.2/\b.2<((255:Nat):Int))/\
 ag xx (qf 5 (c.add (b.2.toNat*1)) (xl xu b.1)) e fun _ h3=>
 af xx 361 #[(xl xu b.1),(xl xu 3)] (.one (.sc (.int .u8))) h3 fun j g=>
 i (j,qc xt (b.2+1)) g)
 (∃d:List (Int),(d.length=255/\aj e c 0 (d.map (Sc.enc (.int .u8))))/\
 ag xx (qf 314 c (xr (d.map (Sc.enc (.int .u8))).toArray)) e fun _ f=>
 ∃a:List (Int),(a.length=255/\aj f c 0 (a.map (Sc.enc (.int .u8))))/\
 R (xr (a.map (Sc.enc (.int .u8))).toArray) f)) ((1:Int),(0:Int)) k
theorem OZ(a:@Iy R h):ac xx 283 #[] h R:=au ae func283 (an.tn (an.tn (.two (an.tn (.inn (.loop [(1,(.sc (.int .u8))),(3,aZ)] [(1,12)] .n))) .n))) a
def NX(f:List (Int)):Prop:=
 aK xx (qM 314 (xr (f.map (Sc.enc (.int .u8))).toArray)) h fun j m=>
 aK xx (qK 316 true (.tuple #[])) m fun d i=>
 ∃x3:List (Int),(x3.length=255/\aj i j 0 (x3.map (Sc.enc (.int .u8))))/\
 aJ (σ:=Int) (fun b l h3=>
 Br (b<255)
 (∃c:Int,(0<=b/\b<((255:Nat):Int)/\((x3.map (Sc.enc (.int .u8))).toArray:Array Value)[b.toNat]?=some (xl xu c))/\
 (0<=c/\c<((256:Nat):Int))/\
 ag xx (qf 3 (d.add (c.toNat*1)) b) h3 fun _ k=>
 l (qc xt (b+1)) k)
 (∃e:List (Int),(e.length=256/\aj h3 d 0 (e.map (Sc.enc (.int .i64))))/\
 ag xx (qf 316 d (xr (e.map (Sc.enc (.int .i64))).toArray)) h3 fun _ g=>
 ∃a:List (Int),(a.length=256/\aj g d 0 (a.map (Sc.enc (.int .i64))))/\
 R (xr (a.map (Sc.enc (.int .i64))).toArray) g)) (0:Int) i
theorem SU(a:List (Int))(b:@NX R h a):ac xx 284 #[(xr (a.map (Sc.enc (.int .u8))).toArray)] h R:=au ae func284 (an.tn (.two (an.tn (.inn (.loop [(6,aZ)] [(3,5),(6,14)] .n))) .n)) b
def Lc(q:bH):Prop:=
 aK xx (qM 24 q) h fun c x=>
 ∃x2:bH,aj x c 0 x2/\
 af xx 47 #[x2] bE x fun F s=>
 Br (!F)
 (R (xn none 0 0) s)
 (af xx 212 #[] jp s fun y h3=>
 ∃r,cellOf h3 (c.add 1)=some (xl xt r)/\
 aJ (σ:=Sl×Int) (fun f B j=>
 Br (f.2<r)
 (bf (σ:=Sl) (fun b t=>
 ∃i,cellOf t c=some (xl xt i)/\
 aJ (σ:=Int) (fun a E h8=>
 Br (a<i)
 (af xx 363 #[y,(qc xt ((qc xt (f.2+1))*(qc xt (a+1))))] (.one (.sc (.int .u8))) h8 fun n z=>
 ∃g,(b.ptr=some g/\0<=a/\a<(b.len:Int))/\
 ag xx (qf 5 (g.add (a.toNat*1)) (xl xu n)) z fun _ p=>
 E (qc xt (a+1)) p)
 (az xx (qt 40 1 #[(0,b)]) aH h8 fun m o=>
 az xx (qw #[40,40] 40 #[f.1,m]) aH o fun d l=>
 B ((⟨d.ptr,d.len,d.cap⟩:Sl),qc xt (f.2+1)) l)) (0:Int) t)
 (fun A=>
 ∃v:bH,aj j c 0 v/\
 ∃k,cellOf j c=some (xl xt k)/\
 af xx 232 #[v] bt j fun D u=>
 (av.ok [(c,k)] u)/\
 af xx 362 #[D,(qc xt (k+f.2))] aH u fun e w=>
 (av.ok [(c,k)] w)/\
 A (⟨e.ptr,e.len,e.cap⟩:Sl) w))
 (R f.1 j)) ((⟨none,0,0⟩:Sl),(0:Int)) h3)
theorem QX(a:bH)(b:@Lc R h a):ac xx 285 #[a] h R:=au ae func285 (an.tn (an.tn (an.tn (an.tn (.two (an.tn (.inn (.loop [(4,cv),(14,aZ)] [(4,8),(14,45)] (an.tn (an.tn (.two (.inn (an.tn (.two (.join [(6,cv)] [(6,7),(17,24)] .n) (.two (an.tn (.inn (.loop [(26,aZ)] [(7,8),(26,40)] .n))) .n)))) .n)))))) .n))))) b
def QY(k:bH)(c:Int)(b:Int):Prop:=
 aK xx (qM 24 k) h fun m r=>
 bf (σ:=Unit) (fun _ h3=>
 ∃n:bH,aj h3 m 0 n/\
 af xx 232 #[n] bt h3 fun p s=>
 az xx (qF 35 p p) aH s fun l o=>
 ∃q:bH,aj o m 0 q/\
 af xx 148 #[q,(xl xv c),b] aH o fun j w=>
 aJ (σ:=Int) (fun a t i=>
 Br (a<(j.len:Int))
 (∃e,(j.ptr=some e/\0<=a/\a<(j.len:Int))/\
 ∃d,cellOf i (e.add (a.toNat*1))=some (xl xt d)/\
 ∃f,(l.ptr=some f/\0<=d/\d<(l.len:Int))/\
 ag xx (qf 5 (f.add (d.toNat*1)) (xl xu 1)) i fun _ h8=>
 t (qc xt (a+1)) h8)
 (R l i)) (0:Int) w)
 (fun u=>
 ∃x2:bH,aj r m 0 x2/\
 af xx 47 #[x2] bE r fun v g=>
 Br (!v) (R (xn none 0 0) g) (Br (b<0) (R (xn none 0 0) g) (Br (b>65535)
 (R (xn none 0 0) g)
 (u () g))))
theorem VN(c:bH)(a:Int)(b:Int)(d:@QY R h c a b):ac xx 286 #[c,(xl xv a),b] h R:=au ae func286 (an.tn (.two (.join [] [(6,7),(10,21)] .n) (an.tn (.two (an.tn (.inn (.loop [(29,aZ)] [(9,10),(29,37)] .n))) .n)))) d
def Ev:Prop:=
 aK xx (qM 323 (xr #[(.complex .f64 0 0),(.complex .f64 4607182418800017408 0),(xl xt 1),(xl xt 1),false])) h fun b a=>
 R b a
theorem Ld(a:@Ev R h):ac xx 287 #[] h R:=au ae func287 .n a
def tG(a:aO):Prop:=
 ∃z,(a=some z)/\
 ∃x2:Nat×Nat,cellOf h z=some (.complex .f64 x2.1 x2.2)/\
 ∃a3,(a=some a3)/\
 ∃t:Nat×Nat,cellOf h (a3.add 1)=some (.complex .f64 t.1 t.2)/\
 ∃z5:Nat×Nat,(kr xx .add 242 (.tmp 5) (.tmp 9) (.complex .f64 x2.1 x2.2) (.complex .f64 t.1 t.2) (.complex .f64 z5.1 z5.2))/\
 ∃v,(a=some v)/\
 ag xx (qf 242 v (.complex .f64 z5.1 z5.2)) h fun _ u=>
 (av.ok [] u)/\
 ∃x,(a=some x)/\
 ∃A,cellOf u (x.add 2)=some (xl xt A)/\
 ∃a9,(a=some a9)/\
 ag xx (qf 3 (a9.add 2) (qc xt (A-1))) u fun _ s=>
 ∃j,(a=some j)/\
 ∃o,cellOf s (j.add 2)=some (xl xt o)/\
 Br (o>0)
 (R (.tuple #[]) s)
 (∃i,(a=some i)/\
 ∃b:Nat×Nat,cellOf s (i.add 1)=some (.complex .f64 b.1 b.2)/\
 af xx 364 #[(.complex .f64 b.1 b.2),(xl xt 1)] (.one (.sc (.cpx .f64))) s fun k h3=>
 ∃p,(a=some p)/\
 ag xx (qf 242 (p.add 1) (.complex .f64 k.1 k.2)) h3 fun _ r=>
 bf (σ:=Unit) (fun _ B=>
 ∃a22,(a=some a22)/\
 ∃d:Bool,cellOf B (a22.add 4)=some (xq d)/\
 ∃n,(a=some n)/\
 ag xx (qf 4 (n.add 4) (xq (!d))) B fun _ w=>
 ∃a25,(a=some a25)/\
 ∃c,cellOf w (a25.add 3)=some (xl xt c)/\
 ∃e,(a=some e)/\
 ag xx (qf 3 (e.add 2) c) w fun _ h8=>
 R (.tuple #[]) h8)
 (fun y=>
 ∃l,(a=some l)/\
 ∃f:Bool,cellOf r (l.add 4)=some (xq f)/\
 Br f
 (∃m,(a=some m)/\
 ∃q,cellOf r (m.add 3)=some (xl xt q)/\
 ∃g,(a=some g)/\
 ag xx (qf 3 (g.add 3) (qc xt (q+1))) r fun _ D=>
 y () D)
 (y () r)))
theorem EN(a:aO)(b:@tG R h a):ac xx 288 #[a] h R:=au ae func288 (an.tn (an.tn (an.tn (an.tn (.two (.join [] [(33,44)] .n) .n))))) b
def pV(a:Nat):Prop:=
 R (xq ((FloatKind.format .f64).order a a !=some .eq)) h
theorem Ci(a:Nat)(b:@pV R h a):ac xx 290 #[(.float .f64 a)] h R:=au ae func290 .n b
def pq(a:Int):Prop:=
 R (xq (a !=a)) h
theorem tH(a:Int)(b:@pq R h a):ac xx 291 #[a] h R:=au ae func291 .n b
def gS(a:Sl)(i:Int)(p:Int)(c:cA):Prop:=
 aJ (σ:=Int) (fun n q t=>
 Br (n<p)
 (aJ (σ:=Int) (fun b u f=>
 bf (σ:=Unit) (fun _ o=>
 ∃a9,(a.ptr=some a9/\0<=(qc xt (b-1))/\(qc xt (b-1))<(a.len:Int))/\
 ∃k:iX,aj o (a9.add ((qc xt (b-1)).toNat*4)) 0 k/\
 ∃e,(a.ptr=some e/\0<=b/\b<(a.len:Int))/\
 ∃l:iX,aj o (e.add (b.toNat*4)) 0 l/\
 ∃m,(a.ptr=some m/\0<=b/\b<(a.len:Int))/\
 ag xx (qf 105 (m.add (b.toNat*4)) k) o fun _ r=>
 (av.ok [] r)/\
 ∃j,(a.ptr=some j/\0<=(qc xt (b-1))/\(qc xt (b-1))<(a.len:Int))/\
 ag xx (qf 105 (j.add ((qc xt (b-1)).toNat*4)) l) r fun _ s=>
 (av.ok [] s)/\
 u (qc xt (b-1)) s)
 (fun w=>
 Br (b>i) (∃a3,(a.ptr=some a3/\0<=b/\b<(a.len:Int))/\
 ∃g:iX,aj f (a3.add (b.toNat*4)) 0 g/\
 ∃a5,(a.ptr=some a5/\0<=(qc xt (b-1))/\(qc xt (b-1))<(a.len:Int))/\
 ∃d:iX,aj f (a5.add ((qc xt (b-1)).toNat*4)) 0 d/\
 gb C c.1 (c.2.1.toList++[(xr #[g.1,g.2.1,g.2.2.1,g.2.2.2]),(xr #[d.1,d.2.1,d.2.2.1,d.2.2.2])]++c.2.2.toList) bt f fun v h3=>
 (av.ok [] h3)/\
 Br (v<0)
 (w () h3)
 (q (qc xt (n+1)) h3)) ((av.ok [] f)/\
 q (qc xt (n+1)) f))) n t)
 (R (.tuple #[]) t)) (qc xt (i+1)) h
theorem kJ(b:Sl)(d:Int)(c:Int)(a:cA)(e:@gS R h b d c a):ac xx 292 #[b,d,c,(.func (.func a.1) a.2.1 a.2.2)] h R:=au ae func292 (an.tn (.inn (.loop [(8,aZ)] [(8,10),(12,53)] (an.tn (.two (.inn (an.tn (.inn (.loop [(9,aZ)] [(9,10),(18,53)] (.two (.join [] [(18,35)] .n) .n))))) .n))))) e
end
end Go.Qw
