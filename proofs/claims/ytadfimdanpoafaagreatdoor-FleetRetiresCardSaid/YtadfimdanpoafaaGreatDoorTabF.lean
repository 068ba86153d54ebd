/- Lemmas. -/
import Derived.Test.YtadfimdanpoafaaGreatDoorTabA
set_option linter.unusedVariables false
open Go.Proofs.Tryz renaming prog -> xx
open Go.Value renaming agg -> xr, bool -> xq, int -> xl, slice -> xn
open Go.IntKind renaming bits -> qk, i64 -> xt, u32 -> xv, u64 -> xw, u8 -> xu, wrap -> qc
open Go.Instr renaming alloc -> qK, box -> qM, buildSlice -> qt, makeSlice -> qF, storeAt -> qf
open Go.Builtin renaming append_ -> qw
open BitVec renaming ofInt -> qC
open Int renaming fdiv -> qU, tdiv -> wI, tmod -> z7
open Go.Proofs.Tryz
set_option maxRecDepth 1000000
namespace Go.Qw
noncomputable section
open Go Go.Vc Go.Proofs
variable {R:AX} {h:Heap}
def jD(a:Sl)(b:cA):Prop:=
 aJ (σ:=Int) (fun c g d=>
 Br (c<(a.len:Int))
 (∃f,(a.ptr=some f/\0<=c/\c<(a.len:Int))/\
 ∃x3:Sl,cellOf d (f.add (c.toNat*1))=some (x3:Value)/\
 gb C b.1 (b.2.1.toList++[(xn x3.ptr x3.len x3.cap)]++b.2.2.toList) bE d fun i e=>
 Br i
 (R c e)
 (g (qc xt (c+1)) e))
 (R (xl xt (-1:Int)) d)) (0:Int) h
theorem nA(b:Sl)(a:cA)(c:@jD R h b a):ac xx 302 #[b,(.func (.func a.1) a.2.1 a.2.2)] h R:=au ae func302 (an.tn (.two (an.tn (.inn (.loop [(8,aZ)] [(4,6),(8,19)] .n))) .n)) c
def Le(b:aO)(a:Sl):Prop:=
 af xx 378 #[b,a] aH h fun c d=>
 R (xl xt (c.len:Int)) d
theorem QZ(b:aO)(a:Sl)(c:@Le R h b a):ac xx 303 #[b,a] h R:=au ae func303 .n c
def Gi(d:Int)(b:Sl):Prop:=
 bf (σ:=Unit) (fun _ v=>
 aJ (σ:=Int) (fun j t o=>
 Br (j<(b.len:Int))
 (∃a3,(b.ptr=some a3/\0<=j/\j<(b.len:Int))/\
 ∃r:Sl×Sl,aj o (a3.add (j.toNat*2)) 0 r/\
 aK xx (qK 263 true (.tuple #[])) o fun a5 h3=>
 ag xx (qf 263 a5 r) h3 fun _ p=>
 ∃m:Sl,cellOf p a5=some (m:Value)/\
 aJ (σ:=Int) (fun c s a=>
 Br (c<(m.len:Int))
 (∃q,(m.ptr=some q/\0<=c/\c<(m.len:Int))/\
 ∃n,cellOf a (q.add (c.toNat*1))=some (xl xt n)/\
 Br (n<0) (R false a) (Br (n>=d) (R false a) (Br (c>0) (∃e:Sl,cellOf a a5=some (e:Value)/\
 ∃f,(e.ptr=some f/\0<=(qc xt (c-1))/\(qc xt (c-1))<(e.len:Int))/\
 ∃l:Int,cellOf a (f.add ((qc xt (c-1)).toNat*1))=some (xl xt l)/\
 Br (l>=n)
 (R false a)
 (s (qc xt (c+1)) a)) (s (qc xt (c+1)) a))))
 (∃i:Sl,cellOf a (a5.add 1)=some (i:Value)/\
 ∃g,(b.ptr=some g/\0<=(0:Int)/\(0:Int)<(b.len:Int))/\
 ∃k:Sl,cellOf a ((g.add ((0:Int).toNat*2)).add 1)=some (k:Value)/\
 Br ((i.len:Int) !=(k.len:Int))
 (R false a)
 (t (qc xt (j+1)) a))) (0:Int) p)
 (R true o)) (0:Int) v)
 (fun u=>
 Br (d<0) (R false h) (Br (d>64)
 (R false h)
 (u () h)))
theorem MY(a:Int)(b:Sl)(c:@Gi R h a b):ac xx 304 #[a,b] h R:=au ae func304 (an.tn (.two (.join [] [(4,5),(9,15)] .n) (.two (an.tn (.inn (.loop [(17,aZ)] [(4,5),(6,9),(17,61)] (an.tn (an.tn (.two (.inn (an.tn (.two (an.tn (.inn (.loop [(24,aZ)] [(4,5),(7,9),(24,51)] .n))) .n))) .n)))))) .n))) c
def tI(a:aO):Prop:=
 aJ (σ:=Unit) (fun _ y z=>
 af xx 379 #[a] bt z fun r q=>
 Br (r<0)
 (R (.tuple #[]) q)
 (∃a3,(a=some a3)/\
 ∃s:Sl,cellOf q a3=some (s:Value)/\
 ∃a5,(s.ptr=some a5/\0<=r/\r<(s.len:Int))/\
 ∃t:Sl×Sl,aj q (a5.add (r.toNat*2)) 0 t/\
 af xx 306 #[a,t] (.one (.agg [.slc,.slc])) q fun x h3=>
 aK xx (qK 263 true (.tuple #[])) h3 fun k w=>
 ag xx (qf 263 k x) w fun _ e=>
 ∃a9,(a=some a9)/\
 ∃g:Sl,cellOf e (a9.add 1)=some (g:Value)/\
 ∃f:Sl,cellOf e k=some (f:Value)/\
 ∃m,(f.ptr=some m/\0<=(0:Int)/\(0:Int)<(f.len:Int))/\
 ∃d:Int,cellOf e (m.add ((0:Int).toNat*1))=some (xl xt d)/\
 ∃n,(a=some n)/\
 ∃i:Sl,cellOf e (n.add 2)=some (i:Value)/\
 ∃b:Sl,cellOf e k=some (b:Value)/\
 ∃o,(b.ptr=some o/\0<=(0:Int)/\(0:Int)<(b.len:Int))/\
 ∃c:Int,cellOf e (o.add ((0:Int).toNat*1))=some (xl xt c)/\
 ∃j:Sl,cellOf e (k.add 1)=some (j:Value)/\
 ∃l,(g.ptr=some l/\0<=d/\d<(g.len:Int))/\
 ag xx (qf 4 (l.add (d.toNat*1)) true) e fun _ v=>
 (av.ok [(k.add 1,j),(k,b)] v)/\
 ∃p,(i.ptr=some p/\0<=c/\c<(i.len:Int))/\
 ag xx (qf 35 (p.add (c.toNat*1)) j) v fun _ u=>
 (av.ok [] u)/\
 y () u)) () h
theorem EO(a:aO)(b:@tI R h a):ac xx 305 #[a] h R:=au ae func305 (.scope 0 [] [(2,37)] [] [.n] []) b
def sE(v:aO)(y:Sl×Sl):Prop:=
 aK xx (qM 263 y) h fun I O=>
 aK xx (qK 263 true (.tuple #[])) O fun F E=>
 ∃x3:Sl,cellOf E (I.add 1)=some (x3:Value)/\
 af xx 206 #[x3] aH E fun K h3=>
 aK xx (qK 263 true (.tuple #[])) h3 fun a5 J=>
 ag xx (qf 263 a5 (xr #[(xn none 0 0),K])) J fun _ G=>
 ∃x:Sl,cellOf G I=some (x:Value)/\
 aJ (σ:=Int) (fun k H e=>
 Br (k<(x.len:Int))
 (∃D,(x.ptr=some D/\0<=k/\k<(x.len:Int))/\
 ∃g,cellOf e (D.add (k.toNat*1))=some (xl xt g)/\
 ∃q,(v=some q)/\
 ∃j:Sl,cellOf e (q.add 1)=some (j:Value)/\
 ∃p,(j.ptr=some p/\0<=g/\g<(j.len:Int))/\
 ∃u:Bool,cellOf e (p.add (g.toNat*1))=some (xq u)/\
 Br (!u)
 (∃t:Sl,cellOf e a5=some (t:Value)/\
 az xx (qt 22 1 #[(0,g)]) aH e fun B M=>
 az xx (qw #[22,22] 22 #[t,B]) aH M fun z h8=>
 ag xx (qf 22 a5 z) h8 fun _ L=>
 H (qc xt (k+1)) L)
 (∃w,(v=some w)/\
 ∃i:Sl,cellOf e (w.add 2)=some (i:Value)/\
 ∃s,(i.ptr=some s/\0<=g/\g<(i.len:Int))/\
 ∃f:Sl,cellOf e (s.add (g.toNat*1))=some (f:Value)/\
 aJ (σ:=Int) (fun a N c=>
 Br (a<(f.len:Int))
 (∃a22,(f.ptr=some a22/\0<=a/\a<(f.len:Int))/\
 ∃n,cellOf c (a22.add (a.toNat*1))=some (xl xu n)/\
 ∃b:Sl,cellOf c (a5.add 1)=some (b:Value)/\
 ∃a25,(b.ptr=some a25/\0<=a/\a<(b.len:Int))/\
 ∃m,cellOf c (a25.add (a.toNat*1))=some (xl xu m)/\
 ∃o,(b.ptr=some o/\0<=a/\a<(b.len:Int))/\
 ag xx (qf 5 (o.add (a.toNat*1)) (xl xu (qc xu ((qC (qk xu) m^^^(qC (qk xu) n)).toNat:Nat)))) c fun _ A=>
 N (qc xt (a+1)) A)
 (H (qc xt (k+1)) c)) (0:Int) e))
 (∃r:Sl×Sl,aj e a5 0 r/\
 ag xx (qf 263 F r) e fun _ l=>
 ∃d:Sl×Sl,aj l F 0 d/\
 R d l)) (0:Int) G
theorem Dy(b:aO)(a:Sl×Sl)(c:@sE R h b a):ac xx 306 #[b,a] h R:=au ae func306 (an.tn (an.tn (.two (an.tn (.inn (.loop [(17,aZ)] [(7,10),(17,58)] (an.tn (an.tn (.two (.inn (an.tn (an.tn (an.tn (.inn (.loop [(43,aZ)] [(8,10),(43,57)] .n)))))) .n)))))) .n))) c
def Ew(a:Sl):Prop:=
 af xx 238 #[a,Yc] aH h fun b c=>
 R (xq ((b.len:Int)==0)) c
theorem Lf(a:Sl)(b:@Ew R h a):ac xx 307 #[a] h R:=au ae func307 .n b
def Gj(f:Int)(c:Sl):Prop:=
 aK xx (qK 267 true (.tuple #[])) h fun X h1=>
 af xx 380 #[f,c] bE h1 fun r2 h2=>
 Br (!r2)
 (ag xx (qf 267 X (xr #[(xn none 0 0),(xn none 0 0),(xn none 0 0)])) h2 fun _ h3=>
 ∃q:Sl×Sl×Sl,aj h3 X 0 q/\
 R (.tuple #[q,false]) h3)
 (bf (σ:=aO) (fun a K=>
 ∃O,(a=some O)/\
 ∃W:Sl,cellOf K (O.add 1)=some (W:Value)/\
 aJ (σ:=Int) (fun k K2 t=>
 Br (k<(W.len:Int))
 (∃T,(a=some T)/\
 ∃w:Sl,cellOf t (T.add 1)=some (w:Value)/\
 ∃I,(w.ptr=some I/\0<=k/\k<(w.len:Int))/\
 ag xx (qf 4 (I.add (k.toNat*1)) true) t fun _ a7=>
 K2 (qc xt (k+1)) a7)
 (aK xx (qK 267 true (.tuple #[])) t fun d Z=>
 aJ (σ:=Unit) (fun _ K3 F=>
 ∃y,(a=some y)/\
 ∃S:Sl,cellOf F (y.add 1)=some (S:Value)/\
 af xx 381 #[S,true] bE F fun bd s=>
 Br (!bd)
 (∃a22,(a=some a22)/\
 ∃p:Sl,cellOf s (a22.add 2)=some (p:Value)/\
 aJ (σ:=Int) (fun b K4 e=>
 Br (b<(p.len:Int))
 (∃a25,(p.ptr=some a25/\0<=b/\b<(p.len:Int))/\
 ∃E:Bool,cellOf e (a25.add (b.toNat*1))=some (xq E)/\
 Br (!E)
 (∃H:Sl,cellOf e (d.add 2)=some (H:Value)/\
 az xx (qt 22 1 #[(0,b)]) aH e fun v28 ah=>
 az xx (qw #[22,22] 22 #[H,v28]) aH ah fun ab a8=>
 ag xx (qf 22 (d.add 2) ab) a8 fun _ ao=>
 K4 (qc xt (b+1)) ao)
 (K4 (qc xt (b+1)) e))
 (∃N:Sl×Sl×Sl,aj e d 0 N/\
 ag xx (qf 267 X N) e fun _ J=>
 ∃i:Sl×Sl×Sl,aj J X 0 i/\
 R (.tuple #[i,true]) J)) (0:Int) s)
 (bf (σ:=Unit) (fun _ a2=>
 K3 () a2)
 (fun K5=>
 af xx 382 #[a] (.many [(.agg [(.int .i64),(.int .i64)]),mg]) s fun L ax=>
 aK xx (qK 347 true (.tuple #[])) ax fun g a3=>
 ag xx (qf 347 g L.1) a3 fun _ n=>
 Br L.2
 (∃G:Sl,cellOf n d=some (G:Value)/\
 ∃D:Int×Int,aj n g 0 D/\
 az xx (qt 265 1 #[(0,D)]) aH n fun a0 a5=>
 az xx (qw #[265,265] 265 #[G,a0]) aH a5 fun a4 ap=>
 ag xx (qf 265 d a4) ap fun _ j=>
 ∃P,(a=some P)/\
 ∃v:Sl,cellOf j (P.add 2)=some (v:Value)/\
 ∃o,cellOf j g=some (xl xt o)/\
 ∃A,(a=some A)/\
 ∃r:Sl,cellOf j (A.add 1)=some (r:Value)/\
 ∃l,cellOf j (g.add 1)=some (xl xt l)/\
 ∃B,(v.ptr=some B/\0<=o/\o<(v.len:Int))/\
 ag xx (qf 4 (B.add (o.toNat*1)) true) j fun _ U=>
 (av.ok [(g.add 1,l)] U)/\
 ∃a45,(r.ptr=some a45/\0<=l/\l<(r.len:Int))/\
 ag xx (qf 4 (a45.add (l.toNat*1)) false) U fun _ M=>
 (av.ok [] M)/\
 K5 () M)
 (af xx 383 #[a] bt n fun m x=>
 ∃z:Sl,cellOf x (d.add 1)=some (z:Value)/\
 az xx (qt 22 1 #[(0,m)]) aH x fun ay ad=>
 az xx (qw #[22,22] 22 #[z,ay]) aH ad fun bb Y=>
 ag xx (qf 22 (d.add 1) bb) Y fun _ V=>
 ∃a50,(a=some a50)/\
 ∃u:Sl,cellOf V (a50.add 1)=some (u:Value)/\
 ∃Q,(u.ptr=some Q/\0<=m/\m<(u.len:Int))/\
 ag xx (qf 4 (Q.add (m.toNat*1)) false) V fun _ am=>
 K5 () am)))) () Z)) (0:Int) K)
 (fun K1=>
 (az xx (qF 270 f f) aH h2 fun v4 h4=>
 (av.ok [] h4)/\
 az xx (qF 270 (xl xt (c.len:Int)) (xl xt (c.len:Int))) aH h4 fun v5 h5=>
 (av.ok [] h5)/\
 aK xx (qM 399 (xr #[c,v4,v5])) h5 fun a6 h6=>
 (av.ok [] h6)/\
 K1 (some a6) h6)/\(az xx (qF 270 (xl xt (c.len:Int)) (xl xt (c.len:Int))) aH h2 fun v7 h7=>
 (av.ok [] h7)/\
 az xx (qF 270 f f) aH h7 fun v8 h8=>
 (av.ok [] h8)/\
 aK xx (qM 399 (xr #[c,v8,v7])) h8 fun a9 h9=>
 (av.ok [] h9)/\
 K1 (some a9) h9)))
theorem MZ(a:Int)(b:Sl)(c:@Gj R h a b):ac xx 308 #[a,b] h R:=au ae func308 (an.tn (.scope 1 [] [(5,6),(9,14),(42,108)] [.n,(.join [(6,FI)] [(6,7),(19,27)] .n),(an.tn (.inn (.loop [(32,aZ)] [(7,8),(32,42)] .n))),.n] [(an.tn (.two (.join [] [(9,12),(48,88)] .n) .n))] [(0,[(.two (an.tn (.inn (.loop [(93,aZ)] [(12,14),(93,107)] .n))) .n)])])) c
def ik(a:Sl)(b:cA):Prop:=
 af xx 384 #[a,(.func (.func b.1) b.2.1 b.2.2)] bt h fun g m=>
 Br (g==(-1:Int))
 (R a m)
 (aJ (σ:=Int×Int) (fun c k e=>
 Br (c.2<(a.len:Int))
 (∃a3,(a.ptr=some a3/\0<=c.2/\c.2<(a.len:Int))/\
 ∃j:Int×Int,aj e (a3.add (c.2.toNat*2)) 0 j/\
 aK xx (qK 347 true (.tuple #[])) e fun a5 h3=>
 ag xx (qf 347 a5 j) h3 fun _ i=>
 ∃d:Int×Int,aj i a5 0 d/\
 gb C b.1 (b.2.1.toList++[(xr #[d.1,d.2])]++b.2.2.toList) bE i fun o f=>
 Br (!o)
 (∃l:Int×Int,aj f a5 0 l/\
 ∃a9,(a.ptr=some a9/\0<=c.1/\c.1<(a.len:Int))/\
 ag xx (qf 347 (a9.add (c.1.toNat*2)) l) f fun _ p=>
 k (qc xt (c.1+1),qc xt (c.2+1)) p)
 (k (c.1,qc xt (c.2+1)) f))
 ((0<=c.1/\c.1<=(a.len:Int))/\
 ag xx (Builtin.clear_ #[265] 0 #[(.slice (if a.cap=c.1.toNat then a.ptr else a.ptr.map (·.add (c.1.toNat*2))) (a.len-c.1.toNat) (a.cap-c.1.toNat))]) e fun _ n=>
 (0<=c.1/\c.1<=(a.cap:Int))/\
 R (xn a.ptr c.1.toNat a.cap) n)) (g,qc xt (g+1)) m)
theorem lu(b:Sl)(a:cA)(c:@ik R h b a):ac xx 309 #[b,(.func (.func a.1) a.2.1 a.2.2)] h R:=au ae func309 (an.tn (an.tn (an.tn (.two (an.tn (.inn (.loop [(5,aZ),(6,aZ)] [(5,8),(16,36)] .n))) .n)))) c
def mY(c:Int×Int)(a:Addr):Prop:=
 aK xx (qM 347 c) h fun e b=>
 ∃x2,cellOf b e=some (xl xt x2)/\
 ∃x3:aO,cellOf b a=some (.pointer x3)/\
 ∃a4,(x3=some a4)/\
 ∃d:Sl,cellOf b (a4.add 5)=some (d:Value)/\
 R (decide (x2>=(d.len:Int))) b
theorem ug(b:Int×Int)(a:Addr)(c:@mY R h b a):ac xx 310 #[b,a] h R:=au ae func310 .n c
def mZ(b:Int)(a:Addr):Prop:=
 ∃c:aO,cellOf h a=some (.pointer c)/\
 ∃d,(c=some d)/\
 ∃x3:Sl,cellOf h (d.add 5)=some (x3:Value)/\
 R (decide (b>=(x3.len:Int))) h
theorem uh(b:Int)(a:Addr)(c:@mZ R h b a):ac xx 311 #[b,a] h R:=au ae func311 .n c
def pW(g:aO)(d:Int)(e:Int)(c:Sl)(b:Sl):Prop:=
 ∃H,(g=some H)/\
 ∃x2:Sl,cellOf h (H.add 9)=some (x2:Value)/\
 ∃a3,(x2.ptr=some a3/\0<=e/\e<(x2.len:Int))/\
 ∃y:Sl,cellOf h (a3.add (e.toNat*1))=some (y:Value)/\
 aJ (σ:=Int) (fun f L l=>
 Br (f<(y.len:Int))
 (∃E,(y.ptr=some E/\0<=f/\f<(y.len:Int))/\
 ∃I,cellOf l (E.add (f.toNat*1))=some (xl xu I)/\
 ∃z,(c.ptr=some z/\0<=f/\f<(c.len:Int))/\
 ∃B,cellOf l (z.add (f.toNat*1))=some (xl xu B)/\
 ∃p,(g=some p)/\
 ∃v:aO,cellOf l p=some (.pointer v)/\
 af xx 320 #[v,(xl xu d),(xl xu I)] (.one (.sc (.int .u8))) l fun D F=>
 (av.ok [(z.add (f.toNat*1),(xl xu B))] F)/\
 ∃x,(c.ptr=some x/\0<=f/\f<(c.len:Int))/\
 ag xx (qf 5 (x.add (f.toNat*1)) (xl xu (qc xu ((qC (qk xu) B^^^(qC (qk xu) D)).toNat:Nat)))) F fun _ h3=>
 (av.ok [] h3)/\
 L (qc xt (f+1)) h3)
 (∃u,(g=some u)/\
 ∃k:Sl,cellOf l (u.add 10)=some (k:Value)/\
 ∃r,(k.ptr=some r/\0<=e/\e<(k.len:Int))/\
 ∃i:Sl,cellOf l (r.add (e.toNat*1))=some (i:Value)/\
 aJ (σ:=Int) (fun a K n=>
 Br (a<(i.len:Int))
 (∃t,(i.ptr=some t/\0<=a/\a<(i.len:Int))/\
 ∃s,cellOf n (t.add (a.toNat*1))=some (xl xu s)/\
 ∃m,(b.ptr=some m/\0<=a/\a<(b.len:Int))/\
 ∃j,cellOf n (m.add (a.toNat*1))=some (xl xu j)/\
 ∃o,(g=some o)/\
 ∃q:aO,cellOf n o=some (.pointer q)/\
 af xx 320 #[q,(xl xu d),(xl xu s)] (.one (.sc (.int .u8))) n fun A G=>
 (av.ok [(m.add (a.toNat*1),(xl xu j))] G)/\
 ∃w,(b.ptr=some w/\0<=a/\a<(b.len:Int))/\
 ag xx (qf 5 (w.add (a.toNat*1)) (xl xu (qc xu ((qC (qk xu) j^^^(qC (qk xu) A)).toNat:Nat)))) G fun _ J=>
 (av.ok [] J)/\
 K (qc xt (a+1)) J)
 (R (.tuple #[]) n)) (0:Int) l)) (0:Int) h
theorem Cj(d:aO)(a:Int)(e:Int)(c:Sl)(b:Sl)(f:@pW R h d a e c b):ac xx 312 #[d,(xl xu a),e,c,b] h R:=au ae func312 (.two (an.tn (.inn (.loop [(22,aZ)] [(10,12),(22,41)] .n))) (an.tn (.inn (.loop [(49,aZ)] [(12,14),(49,68)] .n)))) f
def pr(b:Sl)(d:Int):Prop:=
 bf (σ:=Sl) (fun e h3=>
 Br ((e.len:Int)==0)
 (R (xn none 0 0) h3)
 (R e h3))
 (fun f=>
 aJ (σ:=Sl) (fun a j c=>
 bf (σ:=Unit) (fun _ k=>
 (0<=(1:Int)/\(1:Int)<=(a.len:Int))/\
 j (⟨(if a.cap=(1:Int).toNat then a.ptr else a.ptr.map (·.add ((1:Int).toNat*1))),(a.len-(1:Int).toNat),(a.cap-(1:Int).toNat)⟩:Sl) k)
 (fun i=>
 Br ((a.len:Int)>0) (∃g,(a.ptr=some g/\0<=(0:Int)/\(0:Int)<(a.len:Int))/\
 ∃x3:Int,cellOf c (g.add ((0:Int).toNat*1))=some (xl xu x3)/\
 Br (x3==d)
 (i () c)
 (f (⟨a.ptr,a.len,a.cap⟩:Sl) c)) (f (⟨a.ptr,a.len,a.cap⟩:Sl) c))) (⟨b.ptr,b.len,b.cap⟩:Sl) h)
theorem Bq(b:Sl)(a:Int)(c:@pr R h b a):ac xx 313 #[b,(xl xu a)] h R:=au ae func313 (an.tn (.two (.join [(0,cv)] [(0,1),(5,17)] (.inn (.loop [(0,cv)] [(0,1),(5,17)] (.two (.join [] [(5,15)] .n) .n)))) .n)) c
def ox(b:Sl)(d:Int):Prop:=
 bf (σ:=Sl) (fun g h3=>
 R g h3)
 (fun e=>
 aJ (σ:=Sl) (fun a j c=>
 bf (σ:=Unit) (fun _ k=>
 (0<=(qc xt ((a.len:Int)-1))/\(qc xt ((a.len:Int)-1))<=(a.cap:Int))/\
 j (⟨a.ptr,(qc xt ((a.len:Int)-1)).toNat,a.cap⟩:Sl) k)
 (fun i=>
 Br ((a.len:Int)>0) (∃f,(a.ptr=some f/\0<=(qc xt ((a.len:Int)-1))/\(qc xt ((a.len:Int)-1))<(a.len:Int))/\
 ∃x3:Int,cellOf c (f.add ((qc xt ((a.len:Int)-1)).toNat*1))=some (xl xu x3)/\
 Br (x3==d)
 (i () c)
 (e (⟨a.ptr,a.len,a.cap⟩:Sl) c)) (e (⟨a.ptr,a.len,a.cap⟩:Sl) c))) (⟨b.ptr,b.len,b.cap⟩:Sl) h)
theorem Ai(b:Sl)(a:Int)(c:@ox R h b a):ac xx 314 #[b,(xl xu a)] h R:=au ae func314 (an.tn (.two (.join [(0,cv)] [(0,1),(5,23)] (.inn (.loop [(0,cv)] [(0,1),(5,23)] (.two (.join [] [(5,18)] .n) .n)))) .n)) c
def Ck(g:aO)(b:Int)(a:Int):Prop:=
 bf (σ:=Unit) (fun _ l=>
 af xx 389 #[g] jp l fun f e=>
 ∃a3,(f=some a3)/\
 (0<=b/\b<((256:Nat):Int))/\
 ∃d,cellOf e ((a3.add 255).add (b.toNat*1))=some (xl xt d)/\
 ∃a5,(f=some a5)/\
 (0<=a/\a<((256:Nat):Int))/\
 ∃c,cellOf e ((a5.add 255).add (a.toNat*1))=some (xl xt c)/\
 ((255:Int)≠0)/\
 ∃i,(f=some i)/\
 (0<=(z7 (qc xt (d+c)) 255)/\(z7 (qc xt (d+c)) 255)<((255:Nat):Int))/\
 ∃j:Int,cellOf e (i.add ((z7 (qc xt (d+c)) 255).toNat*1))=some (xl xu j)/\
 R (xl xu j) e)
 (fun k=>
 Br (b==0) (R (xl xu 0) h) (Br (a==0)
 (R (xl xu 0) h)
 (k () h)))
theorem Jp(c:aO)(b:Int)(a:Int)(d:@Ck R h c b a):ac xx 320 #[c,(xl xu b),(xl xu a)] h R:=au ae func320 (an.tn (.two (.join [] [(6,7),(8,14)] .n) .n)) d
def xB(a:Sl)(b:Int):Prop:=
 bf (σ:=Unit) (fun _ j=>
 aJ (σ:=Int) (fun c i d=>
 Br (c<(a.len:Int))
 (∃a5,(a.ptr=some a5/\0<=c/\c<(a.len:Int))/\
 ∃e,cellOf d (a5.add (c.toNat*1))=some (xl xt e)/\
 Br (e>b)
 (R (qc xt (c+1)) d)
 (i (qc xt (c+1)) d))
 (R (xl xt 0) d)) (0:Int) j)
 (fun g=>
 Br ((a.len:Int)==0) (R (xl xt 0) h) (Br (b<0) (R (xl xt 0) h) (∃f,(a.ptr=some f/\0<=(qc xt ((a.len:Int)-1))/\(qc xt ((a.len:Int)-1))<(a.len:Int))/\
 ∃x2:Int,cellOf h (f.add ((qc xt ((a.len:Int)-1)).toNat*1))=some (xl xt x2)/\
 Br (b>=x2)
 (R (xl xt 0) h)
 (g () h))))
theorem Gk(b:Sl)(a:Int)(c:@xB R h b a):ac xx 321 #[b,a] h R:=au ae func321 (an.tn (.two (.join [] [(4,5),(7,24)] .n) (.two (an.tn (.inn (.loop [(26,aZ)] [(4,7),(26,37)] .n))) .n))) c
def tJ(b:aO)(a:Int):Prop:=
 bf (σ:=Unit) (fun _ f=>
 af xx 241 #[b] (.one (.sc (.int .u32))) f fun e d=>
 ((qc xw a)≠0)/\
 R (qc xt (z7 (qc xw e) (qc xw a))) d)
 (fun c=>
 Br (Option.isNone b) (R (xl xt 0) h) (Br (a<=0)
 (R (xl xt 0) h)
 (c () h)))
theorem EP(b:aO)(a:Int)(c:@tJ R h b a):ac xx 322 #[b,a] h R:=au ae func322 (an.tn (.two (.join [] [(4,11)] .n) .n)) c
def xC(b:Int)(a:Int):Prop:=
 af xx 390 #[b] bt h fun c i=>
 (b≠0)/\
 bf (σ:=Int) (fun f e=>
 bf (σ:=Int) (fun j k=>
 R j k)
 (fun d=>
 (c≠0)/\
 Br (a<(qc xt (wI b c)))
 (((qc xt (b*a))≠0)/\
 d (qc xt (f+(qc xt (wI (qc xt (1048576*c)) (qc xt (b*a)))))) e)
 (Br (a==(qc xt (wI b c)))
 (af xx 225 #[(xl xw (qc xw c))] bt e fun l h3=>
 (b≠0)/\
 d (qc xt (f+(qc xt (wI (qc xt ((qc xt (1048576*c))*l)) b)))) h3)
 (d f e))))
 (fun g=>
 Br (a>1)
 (((qc xt (a*(qc xt (a-1))))≠0)/\
 g (qc xt (wI 1048576 (qc xt (a*(qc xt (a-1)))))) i)
 (g (qc xt (wI 1048576 b)) i))
theorem Gl(a:Int)(b:Int)(c:@xC R h a b):ac xx 323 #[a,b] h R:=au ae func323 (an.tn (an.tn (an.tn (.two (.join [(6,aZ)] [(6,7),(12,19)] .n) (.two (.join [(6,aZ)] [(6,8),(19,48)] .n) .n))))) c
def gI(a:Sl)(b:cA):Prop:=
 aJ (σ:=Int) (fun c g d=>
 Br (c<(a.len:Int))
 (∃f,(a.ptr=some f/\0<=c/\c<(a.len:Int))/\
 ∃x3:df,aj d (f.add (c.toNat*8)) 0 x3/\
 gb C b.1 (b.2.1.toList++[(xr #[x3.1,x3.2.1,x3.2.2.1,x3.2.2.2.1,x3.2.2.2.2.1,x3.2.2.2.2.2.1,(xl xv x3.2.2.2.2.2.2.1),x3.2.2.2.2.2.2.2])]++b.2.2.toList) bE d fun i e=>
 Br i
 (R c e)
 (g (qc xt (c+1)) e))
 (R (xl xt (-1:Int)) d)) (0:Int) h
theorem kD(b:Sl)(a:cA)(c:@gI R h b a):ac xx 324 #[b,(.func (.func a.1) a.2.1 a.2.2)] h R:=au ae func324 (an.tn (.two (an.tn (.inn (.loop [(8,aZ)] [(4,6),(8,19)] .n))) .n)) c
def gJ(a:Sl)(i:Int)(p:Int)(c:cA):Prop:=
 aJ (σ:=Int) (fun n q t=>
 Br (n<p)
 (aJ (σ:=Int) (fun b u g=>
 bf (σ:=Unit) (fun _ o=>
 ∃a9,(a.ptr=some a9/\0<=(qc xt (b-1))/\(qc xt (b-1))<(a.len:Int))/\
 ∃k:df,aj o (a9.add ((qc xt (b-1)).toNat*8)) 0 k/\
 ∃f,(a.ptr=some f/\0<=b/\b<(a.len:Int))/\
 ∃l:df,aj o (f.add (b.toNat*8)) 0 l/\
 ∃m,(a.ptr=some m/\0<=b/\b<(a.len:Int))/\
 ag xx (qf 139 (m.add (b.toNat*8)) k) o fun _ r=>
 (av.ok [] r)/\
 ∃j,(a.ptr=some j/\0<=(qc xt (b-1))/\(qc xt (b-1))<(a.len:Int))/\
 ag xx (qf 139 (j.add ((qc xt (b-1)).toNat*8)) l) r fun _ s=>
 (av.ok [] s)/\
 u (qc xt (b-1)) s)
 (fun w=>
 Br (b>i) (∃a3,(a.ptr=some a3/\0<=b/\b<(a.len:Int))/\
 ∃e:df,aj g (a3.add (b.toNat*8)) 0 e/\
 ∃a5,(a.ptr=some a5/\0<=(qc xt (b-1))/\(qc xt (b-1))<(a.len:Int))/\
 ∃d:df,aj g (a5.add ((qc xt (b-1)).toNat*8)) 0 d/\
 gb C c.1 (c.2.1.toList++[(xr #[e.1,e.2.1,e.2.2.1,e.2.2.2.1,e.2.2.2.2.1,e.2.2.2.2.2.1,(xl xv e.2.2.2.2.2.2.1),e.2.2.2.2.2.2.2]),(xr #[d.1,d.2.1,d.2.2.1,d.2.2.2.1,d.2.2.2.2.1,d.2.2.2.2.2.1,(xl xv d.2.2.2.2.2.2.1),d.2.2.2.2.2.2.2])]++c.2.2.toList) bt g fun v h3=>
 (av.ok [] h3)/\
 Br (v<0)
 (w () h3)
 (q (qc xt (n+1)) h3)) ((av.ok [] g)/\
 q (qc xt (n+1)) g))) n t)
 (R (.tuple #[]) t)) (qc xt (i+1)) h
theorem kE(b:Sl)(d:Int)(c:Int)(a:cA)(e:@gJ R h b d c a):ac xx 325 #[b,d,c,(.func (.func a.1) a.2.1 a.2.2)] h R:=au ae func325 (an.tn (.inn (.loop [(8,aZ)] [(8,10),(12,53)] (an.tn (.two (.inn (an.tn (.inn (.loop [(9,aZ)] [(9,10),(18,53)] (.two (.join [] [(18,35)] .n) .n))))) .n))))) e
def iE(a:Sl)(d:Int)(e:Int)(f:Int)(b:cA):Prop:=
 Br ((qc xt (e-d))==1)
 (aJ (σ:=Int×Int) (fun n K1 L=>
 Br (n.1<n.2)
 ((0<=(1:Int))/\
 ∃a2,(a.ptr=some a2/\0<=(qc xt (qU (qc xw (qc xt (n.1+n.2))) (2^min (1:Int).toNat (qk xw))))/\(qc xt (qU (qc xw (qc xt (n.1+n.2))) (2^min (1:Int).toNat (qk xw))))<(a.len:Int))/\
 ∃x3:df,aj L (a2.add ((qc xt (qU (qc xw (qc xt (n.1+n.2))) (2^min (1:Int).toNat (qk xw)))).toNat*8)) 0 x3/\
 ∃a4,(a.ptr=some a4/\0<=d/\d<(a.len:Int))/\
 ∃q:df,aj L (a4.add (d.toNat*8)) 0 q/\
 gb C b.1 (b.2.1.toList++[(xr #[x3.1,x3.2.1,x3.2.2.1,x3.2.2.2.1,x3.2.2.2.2.1,x3.2.2.2.2.2.1,(xl xv x3.2.2.2.2.2.2.1),x3.2.2.2.2.2.2.2]),(xr #[q.1,q.2.1,q.2.2.1,q.2.2.2.1,q.2.2.2.2.1,q.2.2.2.2.2.1,(xl xv q.2.2.2.2.2.2.1),q.2.2.2.2.2.2.2])]++b.2.2.toList) bt L fun r6 Q=>
 (av.ok [] Q)/\
 Br (r6<0)
 (K1 (qc xt ((qc xt (qU (qc xw (qc xt (n.1+n.2))) (2^min (1:Int).toNat (qk xw))))+1),n.2) Q)
 (K1 (n.1,qc xt (qU (qc xw (qc xt (n.1+n.2))) (2^min (1:Int).toNat (qk xw)))) Q))
 (aJ (σ:=Int) (fun o K2 h3=>
 Br (o<(qc xt (n.1-1)))
 (∃Y,(a.ptr=some Y/\0<=(qc xt (o+1))/\(qc xt (o+1))<(a.len:Int))/\
 ∃x9:df,aj h3 (Y.add ((qc xt (o+1)).toNat*8)) 0 x9/\
 ∃v,(a.ptr=some v/\0<=o/\o<(a.len:Int))/\
 ∃E:df,aj h3 (v.add (o.toNat*8)) 0 E/\
 ∃w,(a.ptr=some w/\0<=o/\o<(a.len:Int))/\
 ag xx (qf 139 (w.add (o.toNat*8)) x9) h3 fun _ X=>
 (av.ok [] X)/\
 ∃I,(a.ptr=some I/\0<=(qc xt (o+1))/\(qc xt (o+1))<(a.len:Int))/\
 ag xx (qf 139 (I.add ((qc xt (o+1)).toNat*8)) E) X fun _ h5=>
 (av.ok [] h5)/\
 K2 (qc xt (o+1)) h5)
 (R (.tuple #[]) h3)) d L)) (e,f) h)
 (Br ((qc xt (f-e))==1)
 (aJ (σ:=Int×Int) (fun g K3 K=>
 Br (g.1<g.2)
 ((0<=(1:Int))/\
 ∃H,(a.ptr=some H/\0<=e/\e<(a.len:Int))/\
 ∃j:df,aj K (H.add (e.toNat*8)) 0 j/\
 ∃G,(a.ptr=some G/\0<=(qc xt (qU (qc xw (qc xt (g.1+g.2))) (2^min (1:Int).toNat (qk xw))))/\(qc xt (qU (qc xw (qc xt (g.1+g.2))) (2^min (1:Int).toNat (qk xw))))<(a.len:Int))/\
 ∃k:df,aj K (G.add ((qc xt (qU (qc xw (qc xt (g.1+g.2))) (2^min (1:Int).toNat (qk xw)))).toNat*8)) 0 k/\
 gb C b.1 (b.2.1.toList++[(xr #[j.1,j.2.1,j.2.2.1,j.2.2.2.1,j.2.2.2.2.1,j.2.2.2.2.2.1,(xl xv j.2.2.2.2.2.2.1),j.2.2.2.2.2.2.2]),(xr #[k.1,k.2.1,k.2.2.1,k.2.2.2.1,k.2.2.2.2.1,k.2.2.2.2.2.1,(xl xv k.2.2.2.2.2.2.1),k.2.2.2.2.2.2.2])]++b.2.2.toList) bt K fun P T=>
 (av.ok [] T)/\
 Br (!(decide (P<0)))
 (K3 (qc xt ((qc xt (qU (qc xw (qc xt (g.1+g.2))) (2^min (1:Int).toNat (qk xw))))+1),g.2) T)
 (K3 (g.1,qc xt (qU (qc xw (qc xt (g.1+g.2))) (2^min (1:Int).toNat (qk xw)))) T))
 (aJ (σ:=Int) (fun i K4 h8=>
 Br (i>g.1)
 (∃J,(a.ptr=some J/\0<=(qc xt (i-1))/\(qc xt (i-1))<(a.len:Int))/\
 ∃y:df,aj h8 (J.add ((qc xt (i-1)).toNat*8)) 0 y/\
 ∃u,(a.ptr=some u/\0<=i/\i<(a.len:Int))/\
 ∃x:df,aj h8 (u.add (i.toNat*8)) 0 x/\
 ∃a25,(a.ptr=some a25/\0<=i/\i<(a.len:Int))/\
 ag xx (qf 139 (a25.add (i.toNat*8)) y) h8 fun _ Z=>
 (av.ok [] Z)/\
 ∃F,(a.ptr=some F/\0<=(qc xt (i-1))/\(qc xt (i-1))<(a.len:Int))/\
 ag xx (qf 139 (F.add ((qc xt (i-1)).toNat*8)) x) Z fun _ B=>
 (av.ok [] B)/\
 K4 (qc xt (i-1)) B)
 (R (.tuple #[]) h8)) e K)) (d,e) h)
 ((0<=(1:Int))/\
 bf (σ:=Int×Int) (fun D U=>
 aJ (σ:=Int×Int) (fun c K6 p=>
 Br (c.1<c.2)
 ((0<=(1:Int))/\
 ∃z,(a.ptr=some z/\0<=(qc xt ((qc xt ((qc xt ((qc xt (qU (qc xw (qc xt (d+f))) (2^min (1:Int).toNat (qk xw))))+e))-1))-(qc xt (qU (qc xw (qc xt (c.1+c.2))) (2^min (1:Int).toNat (qk xw))))))/\(qc xt ((qc xt ((qc xt ((qc xt (qU (qc xw (qc xt (d+f))) (2^min (1:Int).toNat (qk xw))))+e))-1))-(qc xt (qU (qc xw (qc xt (c.1+c.2))) (2^min (1:Int).toNat (qk xw))))))<(a.len:Int))/\
 ∃m:df,aj p (z.add ((qc xt ((qc xt ((qc xt ((qc xt (qU (qc xw (qc xt (d+f))) (2^min (1:Int).toNat (qk xw))))+e))-1))-(qc xt (qU (qc xw (qc xt (c.1+c.2))) (2^min (1:Int).toNat (qk xw)))))).toNat*8)) 0 m/\
 ∃A,(a.ptr=some A/\0<=(qc xt (qU (qc xw (qc xt (c.1+c.2))) (2^min (1:Int).toNat (qk xw))))/\(qc xt (qU (qc xw (qc xt (c.1+c.2))) (2^min (1:Int).toNat (qk xw))))<(a.len:Int))/\
 ∃l:df,aj p (A.add ((qc xt (qU (qc xw (qc xt (c.1+c.2))) (2^min (1:Int).toNat (qk xw)))).toNat*8)) 0 l/\
 gb C b.1 (b.2.1.toList++[(xr #[m.1,m.2.1,m.2.2.1,m.2.2.2.1,m.2.2.2.2.1,m.2.2.2.2.2.1,(xl xv m.2.2.2.2.2.2.1),m.2.2.2.2.2.2.2]),(xr #[l.1,l.2.1,l.2.2.1,l.2.2.2.1,l.2.2.2.2.1,l.2.2.2.2.2.1,(xl xv l.2.2.2.2.2.2.1),l.2.2.2.2.2.2.2])]++b.2.2.toList) bt p fun W s=>
 (av.ok [] s)/\
 Br (!(decide (W<0)))
 (K6 (qc xt ((qc xt (qU (qc xw (qc xt (c.1+c.2))) (2^min (1:Int).toNat (qk xw))))+1),c.2) s)
 (K6 (c.1,qc xt (qU (qc xw (qc xt (c.1+c.2))) (2^min (1:Int).toNat (qk xw)))) s))
 (bf (σ:=Unit) (fun _ t=>
 bf (σ:=Unit) (fun _ r=>
 Br (decide ((qc xt (qU (qc xw (qc xt (d+f))) (2^min (1:Int).toNat (qk xw))))<(qc xt ((qc xt ((qc xt (qU (qc xw (qc xt (d+f))) (2^min (1:Int).toNat (qk xw))))+e))-c.1)))) (Br (decide ((qc xt ((qc xt ((qc xt (qU (qc xw (qc xt (d+f))) (2^min (1:Int).toNat (qk xw))))+e))-c.1))<f))
 (af xx 326 #[a,(qc xt (qU (qc xw (qc xt (d+f))) (2^min (1:Int).toNat (qk xw)))),(qc xt ((qc xt ((qc xt (qU (qc xw (qc xt (d+f))) (2^min (1:Int).toNat (qk xw))))+e))-c.1)),f,(.func (.func b.1) b.2.1 b.2.2)] gF r fun _ N=>
 R (.tuple #[]) N)
 (R (.tuple #[]) r)) (R (.tuple #[]) r))
 (fun V=>
 Br (d<c.1) (Br (decide (c.1<(qc xt (qU (qc xw (qc xt (d+f))) (2^min (1:Int).toNat (qk xw))))))
 (af xx 326 #[a,d,c.1,(qc xt (qU (qc xw (qc xt (d+f))) (2^min (1:Int).toNat (qk xw)))),(.func (.func b.1) b.2.1 b.2.2)] gF t fun _ M=>
 V () M)
 (V () t)) (V () t)))
 (fun S=>
 Br (c.1<e) (Br (decide (e<(qc xt ((qc xt ((qc xt (qU (qc xw (qc xt (d+f))) (2^min (1:Int).toNat (qk xw))))+e))-c.1))))
 (af xx 391 #[a,c.1,e,(qc xt ((qc xt ((qc xt (qU (qc xw (qc xt (d+f))) (2^min (1:Int).toNat (qk xw))))+e))-c.1)),(.func (.func b.1) b.2.1 b.2.2)] gF p fun _ O=>
 S () O)
 (S () p)) (S () p)))) (D.1,D.2) U)
 (fun K5=>
 Br (decide (e>(qc xt (qU (qc xw (qc xt (d+f))) (2^min (1:Int).toNat (qk xw))))))
 (K5 (qc xt ((qc xt ((qc xt (qU (qc xw (qc xt (d+f))) (2^min (1:Int).toNat (qk xw))))+e))-f),qc xt (qU (qc xw (qc xt (d+f))) (2^min (1:Int).toNat (qk xw)))) h)
 (K5 (d,e) h))))
theorem lV(b:Sl)(e:Int)(c:Int)(d:Int)(a:cA)(f:@iE R h b e c d a):ac xx 326 #[b,e,c,d,(.func (.func a.1) a.2.1 a.2.2)] h R:=au ae func326 (.two (an.tn (.two (an.tn (an.tn (.two (.inn (.loop [(10,aZ),(11,aZ)] [(10,13),(31,54)] .n)) (.two (an.tn (.inn (.loop [(13,aZ)] [(13,14),(55,77)] .n))) .n)))) .n)) (.two (an.tn (.two (an.tn (an.tn (.two (.inn (.loop [(14,aZ),(15,aZ)] [(14,17),(83,107)] .n)) (.two (an.tn (.inn (.loop [(17,aZ)] [(17,18),(108,129)] .n))) .n)))) .n)) (an.tn (an.tn (an.tn (.two (.join [(20,aZ),(21,aZ)] [(20,22),(138,147)] .n) (an.tn (.two (.inn (.loop [(20,aZ),(21,aZ)] [(20,22),(23,24),(149,175)] .n)) (an.tn (.two (.join [] [(178,192)] .n) (.two (.join [] [(192,206)] .n) .n))))))))))) f
end
end Go.Qw
