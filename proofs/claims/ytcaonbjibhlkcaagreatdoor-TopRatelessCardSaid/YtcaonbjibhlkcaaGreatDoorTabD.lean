/- Lemmas for the proof of the law; no condition. -/
import Derived.Test.YtcaonbjibhlkcaaGreatDoorTabA
set_option linter.unusedVariables false
open Go.Proofs.Tryz renaming prog -> xv
open Go.Instr renaming alloc -> qP, box -> qH, buildSlice -> qt, makeSlice -> qB, storeAt -> qf
open Go.Value renaming agg -> xp, bool -> xo, int -> xk, slice -> xl, string -> xn
open Go.IntKind renaming bits -> qk, i64 -> xq, u32 -> xt, u64 -> xu, u8 -> xr, wrap -> qc
open Go.Builtin renaming append_ -> qq, clear_ -> yU
open BitVec renaming ofInt -> qu
open Int renaming fdiv -> qQ, tdiv -> z8, tmod -> zZ
open Option renaming isNone -> q9
open Go.Proofs.Tryz
set_option maxRecDepth 1000000
namespace Go.Qw
noncomputable section
open Go Go.Vc Go.Proofs
variable {R:Cu} {h:Heap}
def tt(a:aP):Prop:=
 aG (σ:=Unit) (fun _ y x=>
 af xv 271 #[a] bB x fun q r=>
 Br (q<0)
 (R (.tuple #[]) r)
 (∃a3,(a=some a3)/\
 ∃s:Sl,cellOf r a3=some (s:Value)/\
 ∃a5,(s.ptr=some a5/\0<=q/\q<(s.len:Int))/\
 ∃u:Sl×Sl,al r (a5.add (q.toNat*2)) 0 u/\
 af xv 196 #[a,u] (.one (.agg [.slc,.slc])) r fun w h3=>
 aO xv (qP 183 true (.tuple #[])) h3 fun k z=>
 ae xv (qf 183 k w) z fun _ e=>
 ∃a9,(a=some a9)/\
 ∃g:Sl,cellOf e (a9.add 1)=some (g:Value)/\
 ∃j:Sl,cellOf e k=some (j:Value)/\
 ∃o,(j.ptr=some o/\0<=(0:Int)/\(0:Int)<(j.len:Int))/\
 ∃d:Int,cellOf e (o.add ((0:Int).toNat*1))=some (xk xq d)/\
 ∃m,(a=some m)/\
 ∃i:Sl,cellOf e (m.add 2)=some (i:Value)/\
 ∃b:Sl,cellOf e k=some (b:Value)/\
 ∃l,(b.ptr=some l/\0<=(0:Int)/\(0:Int)<(b.len:Int))/\
 ∃c:Int,cellOf e (l.add ((0:Int).toNat*1))=some (xk xq c)/\
 ∃f:Sl,cellOf e (k.add 1)=some (f:Value)/\
 ∃p,(g.ptr=some p/\0<=d/\d<(g.len:Int))/\
 ae xv (qf 4 (p.add (d.toNat*1)) true) e fun _ t=>
 (aq.ok [(k.add 1,f),(k,b)] t)/\
 ∃n,(i.ptr=some n/\0<=c/\c<(i.len:Int))/\
 ae xv (qf 23 (n.add (c.toNat*1)) f) t fun _ v=>
 (aq.ok [] v)/\
 y () v)) () h
theorem EB(a:aP)(b:@tt R h a):ab xv 195 #[a] h R:=ao ac func195 (.scope 0 [] [(2,37)] [] [.n] []) b
def sj(w:aP)(A:Sl×Sl):Prop:=
 aO xv (qH 183 A) h fun I J=>
 aO xv (qP 183 true (.tuple #[])) J fun D E=>
 ∃x3:Sl,cellOf E (I.add 1)=some (x3:Value)/\
 af xv 29 #[x3] aK E fun N h3=>
 aO xv (qP 183 true (.tuple #[])) h3 fun a5 O=>
 ae xv (qf 183 a5 (xp #[(xl none 0 0),N])) O fun _ G=>
 ∃x:Sl,cellOf G I=some (x:Value)/\
 aG (σ:=Int) (fun k F e=>
 Br (k<(x.len:Int))
 (∃H,(x.ptr=some H/\0<=k/\k<(x.len:Int))/\
 ∃g,cellOf e (H.add (k.toNat*1))=some (xk xq g)/\
 ∃m,(w=some m)/\
 ∃j:Sl,cellOf e (m.add 1)=some (j:Value)/\
 ∃p,(j.ptr=some p/\0<=g/\g<(j.len:Int))/\
 ∃t:Bool,cellOf e (p.add (g.toNat*1))=some (xo t)/\
 Br (!t)
 (∃v:Sl,cellOf e a5=some (v:Value)/\
 aw xv (qt 38 1 #[(0,g)]) aK e fun y M=>
 aw xv (qq #[38,38] 38 #[v,y]) aK M fun z h8=>
 ae xv (qf 38 a5 z) h8 fun _ L=>
 F (qc xq (k+1)) L)
 (∃l,(w=some l)/\
 ∃i:Sl,cellOf e (l.add 2)=some (i:Value)/\
 ∃r,(i.ptr=some r/\0<=g/\g<(i.len:Int))/\
 ∃f:Sl,cellOf e (r.add (g.toNat*1))=some (f:Value)/\
 aG (σ:=Int) (fun a K b=>
 Br (a<(f.len:Int))
 (∃a22,(f.ptr=some a22/\0<=a/\a<(f.len:Int))/\
 ∃u,cellOf b (a22.add (a.toNat*1))=some (xk xr u)/\
 ∃c:Sl,cellOf b (a5.add 1)=some (c:Value)/\
 ∃a25,(c.ptr=some a25/\0<=a/\a<(c.len:Int))/\
 ∃o,cellOf b (a25.add (a.toNat*1))=some (xk xr o)/\
 ∃q,(c.ptr=some q/\0<=a/\a<(c.len:Int))/\
 ae xv (qf 5 (q.add (a.toNat*1)) (xk xr (qc xr ((qu (qk xr) o^^^(qu (qk xr) u)).toNat:Nat)))) b fun _ B=>
 K (qc xq (a+1)) B)
 (F (qc xq (k+1)) b)) (0:Int) e))
 (∃n:Sl×Sl,al e a5 0 n/\
 ae xv (qf 183 D n) e fun _ s=>
 ∃d:Sl×Sl,al s D 0 d/\
 R d s)) (0:Int) G
theorem Dh(b:aP)(a:Sl×Sl)(c:@sj R h b a):ab xv 196 #[b,a] h R:=ao ac func196 (ak.tn (ak.tn (.two (ak.tn (.inn (.loop [(17,aS)] [(7,10),(17,58)] (ak.tn (ak.tn (.two (.inn (ak.tn (ak.tn (ak.tn (.inn (.loop [(43,aS)] [(8,10),(43,57)] .n)))))) .n)))))) .n))) c
def Ed(a:Sl):Prop:=
 af xv 127 #[a,Yn] aK h fun c b=>
 R (xo ((c.len:Int)==0)) b
theorem Kr(a:Sl)(b:@Ed R h a):ab xv 197 #[a] h R:=ao ac func197 .n b
def FQ(f:Int)(d:Sl):Prop:=
 aO xv (qP 187 true (.tuple #[])) h fun X h1=>
 af xv 272 #[f,d] bJ h1 fun r2 h2=>
 Br (!r2)
 (ae xv (qf 187 X (xp #[(xl none 0 0),(xl none 0 0),(xl none 0 0)])) h2 fun _ h3=>
 ∃q:Sl×Sl×Sl,al h3 X 0 q/\
 R (.tuple #[q,false]) h3)
 (aW (σ:=aP) (fun a P=>
 ∃T,(a=some T)/\
 ∃L:Sl,cellOf P (T.add 1)=some (L:Value)/\
 aG (σ:=Int) (fun i K2 t=>
 Br (i<(L.len:Int))
 (∃I,(a=some I)/\
 ∃r:Sl,cellOf t (I.add 1)=some (r:Value)/\
 ∃F,(r.ptr=some F/\0<=i/\i<(r.len:Int))/\
 ae xv (qf 4 (F.add (i.toNat*1)) true) t fun _ bd=>
 K2 (qc xq (i+1)) bd)
 (aO xv (qP 187 true (.tuple #[])) t fun b a7=>
 aG (σ:=Unit) (fun _ K3 H=>
 ∃K,(a=some K)/\
 ∃J:Sl,cellOf H (K.add 1)=some (J:Value)/\
 af xv 273 #[J,true] bJ H fun bl w=>
 Br (!bl)
 (∃a22,(a=some a22)/\
 ∃n:Sl,cellOf w (a22.add 2)=some (n:Value)/\
 aG (σ:=Int) (fun c K4 e=>
 Br (c<(n.len:Int))
 (∃a25,(n.ptr=some a25/\0<=c/\c<(n.len:Int))/\
 ∃x:Bool,cellOf e (a25.add (c.toNat*1))=some (xo x)/\
 Br (!x)
 (∃y:Sl,cellOf e (b.add 2)=some (y:Value)/\
 aw xv (qt 38 1 #[(0,c)]) aK e fun v28 a8=>
 aw xv (qq #[38,38] 38 #[y,v28]) aK a8 fun a4 ap=>
 ae xv (qf 38 (b.add 2) a4) ap fun _ bk=>
 K4 (qc xq (c+1)) bk)
 (K4 (qc xq (c+1)) e))
 (∃D:Sl×Sl×Sl,al e b 0 D/\
 ae xv (qf 187 X D) e fun _ U=>
 ∃g:Sl×Sl×Sl,al U X 0 g/\
 R (.tuple #[g,true]) U)) (0:Int) w)
 (aW (σ:=Unit) (fun _ ax=>
 K3 () ax)
 (fun K5=>
 af xv 274 #[a] (.many [(.agg [(.int .i64),(.int .i64)]),lL]) w fun A a3=>
 aO xv (qP 269 true (.tuple #[])) a3 fun l ah=>
 ae xv (qf 269 l A.1) ah fun _ p=>
 Br A.2
 (∃V:Sl,cellOf p b=some (V:Value)/\
 ∃z:Int×Int,al p l 0 z/\
 aw xv (qt 185 1 #[(0,z)]) aK p fun a0 Z=>
 aw xv (qq #[185,185] 185 #[V,a0]) aK Z fun ay bb=>
 ae xv (qf 185 b ay) bb fun _ j=>
 ∃M,(a=some M)/\
 ∃s:Sl,cellOf j (M.add 2)=some (s:Value)/\
 ∃o,cellOf j l=some (xk xq o)/\
 ∃N,(a=some N)/\
 ∃u:Sl,cellOf j (N.add 1)=some (u:Value)/\
 ∃k,cellOf j (l.add 1)=some (xk xq k)/\
 ∃B,(s.ptr=some B/\0<=o/\o<(s.len:Int))/\
 ae xv (qf 4 (B.add (o.toNat*1)) true) j fun _ S=>
 (aq.ok [(l.add 1,k)] S)/\
 ∃a45,(u.ptr=some a45/\0<=k/\k<(u.len:Int))/\
 ae xv (qf 4 (a45.add (k.toNat*1)) false) S fun _ Q=>
 (aq.ok [] Q)/\
 K5 () Q)
 (af xv 275 #[a] bB p fun m G=>
 ∃O:Sl,cellOf G (b.add 1)=some (O:Value)/\
 aw xv (qt 38 1 #[(0,m)]) aK G fun Y am=>
 aw xv (qq #[38,38] 38 #[O,Y]) aK am fun ad a5=>
 ae xv (qf 38 (b.add 1) ad) a5 fun _ W=>
 ∃a50,(a=some a50)/\
 ∃v:Sl,cellOf W (a50.add 1)=some (v:Value)/\
 ∃E,(v.ptr=some E/\0<=m/\m<(v.len:Int))/\
 ae xv (qf 4 (E.add (m.toNat*1)) false) W fun _ a2=>
 K5 () a2)))) () a7)) (0:Int) P)
 (fun K1=>
 (aw xv (qB 190 f f) aK h2 fun v4 h4=>
 (aq.ok [] h4)/\
 aw xv (qB 190 (xk xq (d.len:Int)) (xk xq (d.len:Int))) aK h4 fun v5 h5=>
 (aq.ok [] h5)/\
 aO xv (qH 332 (xp #[d,v4,v5])) h5 fun a6 h6=>
 (aq.ok [] h6)/\
 K1 (some a6) h6)/\(aw xv (qB 190 (xk xq (d.len:Int)) (xk xq (d.len:Int))) aK h2 fun v7 h7=>
 (aq.ok [] h7)/\
 aw xv (qB 190 f f) aK h7 fun v8 h8=>
 (aq.ok [] h8)/\
 aO xv (qH 332 (xp #[d,v8,v7])) h8 fun a9 h9=>
 (aq.ok [] h9)/\
 K1 (some a9) h9)))
theorem Ma(a:Int)(b:Sl)(c:@FQ R h a b):ab xv 198 #[a,b] h R:=ao ac func198 (ak.tn (.scope 1 [] [(5,6),(9,14),(42,108)] [.n,(.join [(6,Nr)] [(6,7),(19,27)] .n),(ak.tn (.inn (.loop [(32,aS)] [(7,8),(32,42)] .n))),.n] [(ak.tn (.two (.join [] [(9,12),(48,88)] .n) .n))] [(0,[(.two (ak.tn (.inn (.loop [(93,aS)] [(12,14),(93,107)] .n))) .n)])])) c
def gS(a:Sl)(b:cB):Prop:=
 af xv 276 #[a,(.func (.func b.1) b.2.1 b.2.2)] bB h fun d j=>
 Br (d==(-1:Int))
 (R a j)
 (aG (σ:=Int×Int) (fun c k f=>
 Br (c.2<(a.len:Int))
 (∃a3,(a.ptr=some a3/\0<=c.2/\c.2<(a.len:Int))/\
 ∃i:Int×Int,al f (a3.add (c.2.toNat*2)) 0 i/\
 aO xv (qP 269 true (.tuple #[])) f fun a5 h3=>
 ae xv (qf 269 a5 i) h3 fun _ m=>
 ∃e:Int×Int,al m a5 0 e/\
 hJ C b.1 (b.2.1.toList++[(xp #[e.1,e.2])]++b.2.2.toList) bJ m fun o g=>
 Br (!o)
 (∃l:Int×Int,al g a5 0 l/\
 ∃a9,(a.ptr=some a9/\0<=c.1/\c.1<(a.len:Int))/\
 ae xv (qf 269 (a9.add (c.1.toNat*2)) l) g fun _ n=>
 k (qc xq (c.1+1),qc xq (c.2+1)) n)
 (k (c.1,qc xq (c.2+1)) g))
 ((0<=c.1/\c.1<=(a.len:Int))/\
 ae xv (yU #[185] 0 #[(.slice (if a.cap=c.1.toNat then a.ptr else a.ptr.map (·.add (c.1.toNat*2))) (a.len-c.1.toNat) (a.cap-c.1.toNat))]) f fun _ p=>
 (0<=c.1/\c.1<=(a.cap:Int))/\
 R (xl a.ptr c.1.toNat a.cap) p)) (d,qc xq (d+1)) j)
theorem lh(b:Sl)(a:cB)(c:@gS R h b a):ab xv 199 #[b,(.func (.func a.1) a.2.1 a.2.2)] h R:=ao ac func199 (ak.tn (ak.tn (ak.tn (.two (ak.tn (.inn (.loop [(5,aS),(6,aS)] [(5,8),(16,36)] .n))) .n)))) c
def mR(c:Int×Int)(a:Addr):Prop:=
 aO xv (qH 269 c) h fun e b=>
 ∃x2,cellOf b e=some (xk xq x2)/\
 ∃x3:aP,cellOf b a=some (.pointer x3)/\
 ∃a4,(x3=some a4)/\
 ∃d:Sl,cellOf b (a4.add 5)=some (d:Value)/\
 R (decide (x2>=(d.len:Int))) b
theorem tZ(b:Int×Int)(a:Addr)(c:@mR R h b a):ab xv 200 #[b,a] h R:=ao ac func200 .n c
def mS(b:Int)(a:Addr):Prop:=
 ∃d:aP,cellOf h a=some (.pointer d)/\
 ∃c,(d=some c)/\
 ∃x3:Sl,cellOf h (c.add 5)=some (x3:Value)/\
 R (decide (b>=(x3.len:Int))) h
theorem ua(b:Int)(a:Addr)(c:@mS R h b a):ab xv 201 #[b,a] h R:=ao ac func201 .n c
def pP(i:aP)(d:Int)(e:Int)(c:Sl)(b:Sl):Prop:=
 ∃J,(i=some J)/\
 ∃x2:Sl,cellOf h (J.add 9)=some (x2:Value)/\
 ∃a3,(x2.ptr=some a3/\0<=e/\e<(x2.len:Int))/\
 ∃y:Sl,cellOf h (a3.add (e.toNat*1))=some (y:Value)/\
 aG (σ:=Int) (fun f K k=>
 Br (f<(y.len:Int))
 (∃E,(y.ptr=some E/\0<=f/\f<(y.len:Int))/\
 ∃I,cellOf k (E.add (f.toNat*1))=some (xk xr I)/\
 ∃D,(c.ptr=some D/\0<=f/\f<(c.len:Int))/\
 ∃z,cellOf k (D.add (f.toNat*1))=some (xk xr z)/\
 ∃n,(i=some n)/\
 ∃v:aP,cellOf k n=some (.pointer v)/\
 af xv 141 #[v,(xk xr d),(xk xr I)] (.one (.sc (.int .u8))) k fun B G=>
 (aq.ok [(D.add (f.toNat*1),(xk xr z))] G)/\
 ∃t,(c.ptr=some t/\0<=f/\f<(c.len:Int))/\
 ae xv (qf 5 (t.add (f.toNat*1)) (xk xr (qc xr ((qu (qk xr) z^^^(qu (qk xr) B)).toNat:Nat)))) G fun _ h3=>
 (aq.ok [] h3)/\
 K (qc xq (f+1)) h3)
 (∃o,(i=some o)/\
 ∃m:Sl,cellOf k (o.add 10)=some (m:Value)/\
 ∃r,(m.ptr=some r/\0<=e/\e<(m.len:Int))/\
 ∃g:Sl,cellOf k (r.add (e.toNat*1))=some (g:Value)/\
 aG (σ:=Int) (fun a L x=>
 Br (a<(g.len:Int))
 (∃u,(g.ptr=some u/\0<=a/\a<(g.len:Int))/\
 ∃p,cellOf x (u.add (a.toNat*1))=some (xk xr p)/\
 ∃j,(b.ptr=some j/\0<=a/\a<(b.len:Int))/\
 ∃l,cellOf x (j.add (a.toNat*1))=some (xk xr l)/\
 ∃s,(i=some s)/\
 ∃w:aP,cellOf x s=some (.pointer w)/\
 af xv 141 #[w,(xk xr d),(xk xr p)] (.one (.sc (.int .u8))) x fun A H=>
 (aq.ok [(j.add (a.toNat*1),(xk xr l))] H)/\
 ∃q,(b.ptr=some q/\0<=a/\a<(b.len:Int))/\
 ae xv (qf 5 (q.add (a.toNat*1)) (xk xr (qc xr ((qu (qk xr) l^^^(qu (qk xr) A)).toNat:Nat)))) H fun _ F=>
 (aq.ok [] F)/\
 L (qc xq (a+1)) F)
 (R (.tuple #[]) x)) (0:Int) k)) (0:Int) h
theorem BQ(e:aP)(a:Int)(d:Int)(c:Sl)(b:Sl)(f:@pP R h e a d c b):ab xv 202 #[e,(xk xr a),d,c,b] h R:=ao ac func202 (.two (ak.tn (.inn (.loop [(22,aS)] [(10,12),(22,41)] .n))) (ak.tn (.inn (.loop [(49,aS)] [(12,14),(49,68)] .n)))) f
def pm(b:Sl)(d:Int):Prop:=
 aW (σ:=Sl) (fun f h3=>
 Br ((f.len:Int)==0)
 (R (xl none 0 0) h3)
 (R f h3))
 (fun g=>
 aG (σ:=Sl) (fun a i c=>
 aW (σ:=Unit) (fun _ k=>
 (0<=(1:Int)/\(1:Int)<=(a.len:Int))/\
 i (⟨(if a.cap=(1:Int).toNat then a.ptr else a.ptr.map (·.add ((1:Int).toNat*1))),(a.len-(1:Int).toNat),(a.cap-(1:Int).toNat)⟩:Sl) k)
 (fun j=>
 Br ((a.len:Int)>0) (∃e,(a.ptr=some e/\0<=(0:Int)/\(0:Int)<(a.len:Int))/\
 ∃x3:Int,cellOf c (e.add ((0:Int).toNat*1))=some (xk xr x3)/\
 Br (x3==d)
 (j () c)
 (g (⟨a.ptr,a.len,a.cap⟩:Sl) c)) (g (⟨a.ptr,a.len,a.cap⟩:Sl) c))) (⟨b.ptr,b.len,b.cap⟩:Sl) h)
theorem AV(a:Sl)(b:Int)(c:@pm R h a b):ab xv 203 #[a,(xk xr b)] h R:=ao ac func203 (ak.tn (.two (.join [(0,ca)] [(0,1),(5,17)] (.inn (.loop [(0,ca)] [(0,1),(5,17)] (.two (.join [] [(5,15)] .n) .n)))) .n)) c
def oC(b:Sl)(d:Int):Prop:=
 aW (σ:=Sl) (fun g h3=>
 R g h3)
 (fun f=>
 aG (σ:=Sl) (fun a i c=>
 aW (σ:=Unit) (fun _ k=>
 (0<=(qc xq ((a.len:Int)-1))/\(qc xq ((a.len:Int)-1))<=(a.cap:Int))/\
 i (⟨a.ptr,(qc xq ((a.len:Int)-1)).toNat,a.cap⟩:Sl) k)
 (fun j=>
 Br ((a.len:Int)>0) (∃e,(a.ptr=some e/\0<=(qc xq ((a.len:Int)-1))/\(qc xq ((a.len:Int)-1))<(a.len:Int))/\
 ∃x3:Int,cellOf c (e.add ((qc xq ((a.len:Int)-1)).toNat*1))=some (xk xr x3)/\
 Br (x3==d)
 (j () c)
 (f (⟨a.ptr,a.len,a.cap⟩:Sl) c)) (f (⟨a.ptr,a.len,a.cap⟩:Sl) c))) (⟨b.ptr,b.len,b.cap⟩:Sl) h)
theorem xY(a:Sl)(b:Int)(c:@oC R h a b):ab xv 204 #[a,(xk xr b)] h R:=ao ac func204 (ak.tn (.two (.join [(0,ca)] [(0,1),(5,23)] (.inn (.loop [(0,ca)] [(0,1),(5,23)] (.two (.join [] [(5,18)] .n) .n)))) .n)) c
def BR(b:Int):Prop:=
 aG (σ:=Int) (fun a d c=>
 Br ((qc xq (a*a))<b)
 (d (qc xq (a+1)) c)
 (R a c)) (0:Int) h
theorem Ja(a:Int)(b:@BR R h a):ab xv 210 #[a] h R:=ao ac func210 (ak.tn (ak.tn (.two (.inn (.loop [(3,aS)] [(3,11)] .n)) .n))) b
def oD(e:Int)(c:Int):Prop:=
 aG (σ:=Int×Int) (fun b i f=>
 Br (b.2<8)
 ((0<=b.2)/\
 Br ((qc xr ((qu (qk xr) (qQ c (2^min b.2.toNat (qk xr)))&&&(qu (qk xr) (1:Int))).toNat:Nat))==1)
 ((0<=b.2)/\
 i (qc .u16 ((qu (qk .u16) b.1^^^(qu (qk .u16) (qc .u16 ((qc .u16 e)*2^min b.2.toNat (qk .u16))))).toNat:Nat),qc xq (b.2+1)) f)
 (i (b.1,qc xq (b.2+1)) f))
 (aG (σ:=Int×Int) (fun a g d=>
 Br (a.2>=8)
 ((0<=a.2)/\
 Br ((qc .u16 ((qu (qk .u16) (qQ a.1 (2^min a.2.toNat (qk .u16)))&&&(qu (qk .u16) (1:Int))).toNat:Nat))==1)
 ((0<=(qc xq (a.2-8)))/\
 g (qc .u16 ((qu (qk .u16) a.1^^^(qu (qk .u16) (qc .u16 ((283:Int)*2^min (qc xq (a.2-8)).toNat (qk .u16))))).toNat:Nat),qc xq (a.2-1)) d)
 (g (a.1,qc xq (a.2-1)) d))
 (R (xk xr (qc xr a.1)) d)) (b.1,(15:Int)) f)) ((0:Int),(0:Int)) h
theorem xZ(a:Int)(b:Int)(c:@oD R h a b):ab xv 211 #[(xk xr a),(xk xr b)] h R:=ao ac func211 (ak.tn (ak.tn (.two (ak.tn (.inn (.loop [(5,(.sc (.int .u16))),(6,aS)] [(5,7),(8,23)] .n))) (.two (ak.tn (.inn (.loop [(5,(.sc (.int .u16))),(7,aS)] [(5,6),(7,8),(23,37)] .n))) .n)))) c
def kE(a:aP):Prop:=
 ∃c,(a=some c)/\
 ∃x2,cellOf h c=some (xk xu x2)/\
 ∃a3,(a=some a3)/\
 ae xv (qf 198 a3 (xk xu (qc xu ((qc xu (x2*6364136223846793005))+1442695040888963407)))) h fun _ d=>
 ∃a4,(a=some a4)/\
 ∃b,cellOf d a4=some (xk xu b)/\
 (0<=(32:Int))/\
 R (xk xt (qc xt (qQ b (2^min (32:Int).toNat (qk xu))))) d
theorem pH(a:aP)(b:@kE R h a):ab xv 212 #[a] h R:=ao ac func212 .n b
def kq(a:Sl)(b:aP):Prop:=
 Br ((a.len:Int)==0)
 (R (xk xq 0) h)
 (∃c,(a.ptr=some c/\0<=(qc xq ((a.len:Int)-1))/\(qc xq ((a.len:Int)-1))<(a.len:Int))/\
 ∃x2:Int,cellOf h (c.add ((qc xq ((a.len:Int)-1)).toNat*1))=some (xk xq x2)/\
 af xv 282 #[b,x2] bB h fun e g=>
 af xv 281 #[a,e] bB g fun f d=>
 R f d)
theorem po(b:Sl)(a:aP)(c:@kq R h b a):ab xv 213 #[b,a] h R:=ao ac func213 .n c
def mT(a:Int):Prop:=
 aW (σ:=Unit) (fun _ q=>
 aG (σ:=Int) (fun c s j=>
 Br ((qc xq (c*c))<a)
 (s (qc xq (c+1)) j)
 ((c≠0)/\
 aG (σ:=Int×Int) (fun d t h3=>
 Br (d.2>0)
 (((2:Int)≠0)/\
 t (qc xq (d.1+1),qc xq (z8 d.2 2)) h3)
 (aG (σ:=Tu6) (fun b p e=>
 Br (b.2.2<=a)
 ((a≠0)/\
 aW (σ:=Int) (fun o l=>
 aW (σ:=Int) (fun k i=>
 aW (σ:=Int) (fun g v=>
 aw xv (qt 38 1 #[(0,(qc xq (b.2.1+g)))]) aK v fun w h8=>
 aw xv (qq #[38,38] 38 #[b.1,w]) aK h8 fun v9 u=>
 p ((⟨v9.ptr,v9.len,v9.cap⟩:Sl),qc xq (b.2.1+g),qc xq (b.2.2+1)) u)
 (fun n=>
 Br (b.2.2==(qc xq (z8 a c)))
 ((a≠0)/\
 n (qc xq (k+(qc xq (z8 (qc xq ((qc xq (1048576*c))*d.1)) a)))) i)
 (n k i)))
 (fun m=>
 Br (b.2.2<(qc xq (z8 a c)))
 (((qc xq (a*b.2.2))≠0)/\
 m (qc xq (o+(qc xq (z8 (qc xq (1048576*c)) (qc xq (a*b.2.2)))))) l)
 (m o l)))
 (fun f=>
 Br (b.2.2>1)
 (((qc xq (b.2.2*(qc xq (b.2.2-1))))≠0)/\
 f (qc xq (z8 1048576 (qc xq (b.2.2*(qc xq (b.2.2-1)))))) e)
 (f (qc xq (z8 1048576 a)) e)))
 (R b.1 e)) ((⟨none,0,0⟩:Sl),(0:Int),(1:Int)) h3)) ((0:Int),c) j)) (0:Int) q)
 (fun r=>
 Br (a<1) (R (xl none 0 0) h) (Br (a>64)
 (R (xl none 0 0) h)
 (r () h)))
theorem ub(a:Int)(b:@mT R h a):ab xv 214 #[a] h R:=ao ac func214 (ak.tn (.two (.join [] [(2,3),(12,18)] .n) (ak.tn (ak.tn (.two (.inn (.loop [(4,aS)] [(4,5),(18,25)] .n)) (ak.tn (.two (ak.tn (.inn (.loop [(6,aS),(7,aS)] [(6,8),(29,35)] .n))) (ak.tn (ak.tn (.two (ak.tn (.inn (.loop [(8,ca),(9,aS),(10,aS)] [(8,12),(35,82)] (ak.tn (.two (.inn (ak.tn (.two (.join [(11,aS)] [(11,12),(43,51)] .n) (.two (.join [(11,aS)] [(11,12),(51,63)] .n) (.two (.join [(11,aS)] [(11,12),(63,75)] .n) .n))))) .n))))) .n)))))))))) b
def nt(x:aP)(f:Int)(b:Int):Prop:=
 aW (σ:=Unit) (fun _ I=>
 aG (σ:=Sl×Int) (fun c L B=>
 Br (c.2<f)
 (aw xv (qt 38 1 #[(0,c.2)]) aK B fun v3 h3=>
 aw xv (qq #[38,38] 38 #[c.1,v3]) aK h3 fun v4 N=>
 L ((⟨v4.ptr,v4.len,v4.cap⟩:Sl),qc xq (c.2+1)) N)
 (aG (σ:=Int) (fun d M D=>
 Br (d<b)
 (af xv 282 #[x,(qc xq (f-d))] bB D fun j y=>
 ∃A,(c.1.ptr=some A/\0<=(qc xq (d+j))/\(qc xq (d+j))<(c.1.len:Int))/\
 ∃G:Int,cellOf y (A.add ((qc xq (d+j)).toNat*1))=some (xk xq G)/\
 ∃a9,(c.1.ptr=some a9/\0<=d/\d<(c.1.len:Int))/\
 ∃t,cellOf y (a9.add (d.toNat*1))=some (xk xq t)/\
 ∃r,(c.1.ptr=some r/\0<=d/\d<(c.1.len:Int))/\
 ae xv (qf 3 (r.add (d.toNat*1)) G) y fun _ F=>
 (aq.ok [] F)/\
 ∃p,(c.1.ptr=some p/\0<=(qc xq (d+j))/\(qc xq (d+j))<(c.1.len:Int))/\
 ae xv (qf 3 (p.add ((qc xq (d+j)).toNat*1)) t) F fun _ h8=>
 (aq.ok [] h8)/\
 M (qc xq (d+1)) h8)
 ((0<=b/\b<=(c.1.cap:Int))/\
 aG (σ:=Int) (fun g z E=>
 Br (g<(b.toNat:Int))
 (aG (σ:=Int) (fun a H e=>
 aW (σ:=Unit) (fun _ i=>
 ∃v,(c.1.ptr=some v/\0<=(qc xq (a-1))/\(qc xq (a-1))<(b.toNat:Int))/\
 ∃q:Int,cellOf i (v.add ((qc xq (a-1)).toNat*1))=some (xk xq q)/\
 ∃a22,(c.1.ptr=some a22/\0<=a/\a<(b.toNat:Int))/\
 ∃u,cellOf i (a22.add (a.toNat*1))=some (xk xq u)/\
 ∃o,(c.1.ptr=some o/\0<=a/\a<(b.toNat:Int))/\
 ae xv (qf 3 (o.add (a.toNat*1)) q) i fun _ s=>
 (aq.ok [] s)/\
 ∃a25,(c.1.ptr=some a25/\0<=(qc xq (a-1))/\(qc xq (a-1))<(b.toNat:Int))/\
 ae xv (qf 3 (a25.add ((qc xq (a-1)).toNat*1)) u) s fun _ m=>
 (aq.ok [] m)/\
 H (qc xq (a-1)) m)
 (fun K=>
 Br (a>0) (∃w,(c.1.ptr=some w/\0<=a/\a<(b.toNat:Int))/\
 ∃l,cellOf e (w.add (a.toNat*1))=some (xk xq l)/\
 ∃k,(c.1.ptr=some k/\0<=(qc xq (a-1))/\(qc xq (a-1))<(b.toNat:Int))/\
 ∃n:Int,cellOf e (k.add ((qc xq (a-1)).toNat*1))=some (xk xq n)/\
 Br (l<n)
 (K () e)
 (z (qc xq (g+1)) e)) (z (qc xq (g+1)) e))) g E)
 (R (xl c.1.ptr b.toNat c.1.cap) E)) (0:Int) D)) (0:Int) B)) ((⟨none,0,0⟩:Sl),(0:Int)) I)
 (fun J=>
 Br (f<0) (R (xl none 0 0) h) (Br (f>64) (R (xl none 0 0) h) (Br (b<0) (R (xl none 0 0) h) (Br (b>f)
 (R (xl none 0 0) h)
 (J () h)))))
theorem vl(a:aP)(c:Int)(b:Int)(d:@nt R h a c b):ab xv 215 #[a,c,b] h R:=ao ac func215 (ak.tn (.two (.join [] [(6,7),(13,28)] .n) (ak.tn (.two (ak.tn (.inn (.loop [(7,ca),(8,aS)] [(7,9),(28,37)] .n))) (.two (ak.tn (.inn (.loop [(9,aS)] [(9,11),(37,63)] .n))) (ak.tn (.two (ak.tn (.inn (.loop [(68,aS)] [(11,13),(68,105)] (ak.tn (ak.tn (.two (.inn (ak.tn (ak.tn (.inn (.loop [(12,aS)] [(12,13),(72,104)] (.two (.join [] [(72,86)] .n) .n)))))) .n)))))) .n))))))) d
def Ee(a:Sl)(d:Int)(b:Int):Prop:=
 aG (σ:=Sl×Int) (fun c i e=>
 Br (c.2>=0)
 ((0<=(qc xq (8*c.2)))/\
 aw xv (qt 23 1 #[(0,(xk xr (qc xr (qQ d (2^min (qc xq (8*c.2)).toNat (qk xq))))))]) aK e fun g f=>
 aw xv (qq #[23,23] 23 #[c.1,g]) aK f fun v3 h3=>
 i ((⟨v3.ptr,v3.len,v3.cap⟩:Sl),qc xq (c.2-1)) h3)
 (R c.1 e)) ((⟨a.ptr,a.len,a.cap⟩:Sl),qc xq (b-1)) h
theorem Ks(b:Sl)(c:Int)(a:Int)(d:@Ee R h b c a):ab xv 216 #[b,c,a] h R:=ao ac func216 (ak.tn (.two (ak.tn (.inn (.loop [(0,ca),(7,aS)] [(0,1),(7,8),(10,22)] .n))) .n)) d
def sk(a:aP):Prop:=
 af xv 114 #[a] bJ h fun n b=>
 Br (!n)
 (R false b)
 (∃f,(a=some f)/\
 ∃x3:Bool,cellOf b (f.add 1)=some (xo x3)/\
 Br (!x3)
 (R true b)
 (∃a4,(a=some a4)/\
 ∃j,cellOf b (a4.add 2)=some (xk xq j)/\
 Br (j==0)
 (∃k,(a=some k)/\
 ae xv (qf 4 k true) b fun _ i=>
 ∃g,(a=some g)/\
 ∃l,cellOf i (g.add 3)=some (xk xq l)/\
 ∃a9,(a=some a9)/\
 ae xv (qf 3 (a9.add 3) (qc xq (l+1))) i fun _ h3=>
 R false h3)
 (∃d,(a=some d)/\
 ∃c,cellOf b (d.add 2)=some (xk xq c)/\
 ∃e,(a=some e)/\
 ae xv (qf 3 (e.add 2) (qc xq (c-1))) b fun _ m=>
 R true m)))
theorem Di(a:aP)(b:@sk R h a):ab xv 217 #[a] h R:=ao ac func217 .n b
def sl(a:aP):Prop:=
 ∃c,(a=some c)/\
 ae xv (qf 49 (c.add 4) (xl none 0 0)) h fun _ e=>
 ∃b,(a=some b)/\
 ae xv (qf 4 (b.add 5) false) e fun _ d=>
 R (xk xq 0) d
theorem Dj(a:aP)(b:@sl R h a):ab xv 218 #[a] h R:=ao ac func218 .n b
def ma(a:aP):Prop:=
 aW (σ:=Unit) (fun _ f=>
 ∃a4,(a=some a4)/\
 ∃d:aP,cellOf f a4=some (.pointer d)/\
 af xv 217 #[d] bJ f fun k c=>
 Br (!k)
 (R (xk xq 14) c)
 (∃b,(a=some b)/\
 ae xv (qf 3 (b.add 3) (xk xq 0)) c fun _ h3=>
 af xv 218 #[a] bB h3 fun i g=>
 R i g))
 (fun j=>
 Br (q9 a) (R (xk xq 5) h) (∃e,(a=some e)/\
 ∃x2:Bool,cellOf h (e.add 6)=some (xo x2)/\
 Br x2
 (R (xk xq 5) h)
 (j () h)))
theorem pq(a:aP)(b:@ma R h a):ab xv 220 #[a] h R:=ao ac func220 (ak.tn (.two (.join [] [(2,11)] .n) .n)) b
def HX(d:ByteArray):Prop:=
 aw xv (convert 9 23 d) aK h fun f g=>
 aG (σ:=Int) (fun b e a=>
 Br (b<(f.len:Int))
 (∃a3,(f.ptr=some a3/\0<=b/\b<(f.len:Int))/\
 ∃c,cellOf a (a3.add (b.toNat*1))=some (xk xr c)/\
 Br (c<97) (Br (c<48) (Br (c !=45)
 (R false a)
 (e (qc xq (b+1)) a)) (Br (c>57) (Br (c !=45)
 (R false a)
 (e (qc xq (b+1)) a)) (e (qc xq (b+1)) a))) (Br (c>122) (Br (c<48) (Br (c !=45)
 (R false a)
 (e (qc xq (b+1)) a)) (Br (c>57) (Br (c !=45)
 (R false a)
 (e (qc xq (b+1)) a)) (e (qc xq (b+1)) a))) (e (qc xq (b+1)) a)))
 (Br ((d.size:Int)>=1) (R (decide ((d.size:Int)<=12)) a) (R false a))) (0:Int) g
theorem OA(a:ByteArray)(b:@HX R h a):ab xv 221 #[a] h R:=ao ac func221 (ak.tn (.two (ak.tn (.inn (.loop [(8,aS)] [(2,3),(4,5),(8,31)] .n))) .n)) b
def HY(g:bm)(a:Int)(b:Int):Prop:=
 aO xv (qH 25 g) h fun d l=>
 aG (σ:=Int) (fun c j f=>
 Br (c<16)
 (∃x3:bm,al f d 0 x3/\
 af xv 160 #[a,b,c] (.one (.sc (.int .u32))) f fun k h3=>
 (aq.ok [(d,x3.1),(d.add 1,x3.2.1),(d.add 2,x3.2.2)] h3)/\
 af xv 17 #[x3,(xk xt k)] bJ h3 fun i e=>
 (aq.ok [] e)/\
 Br i
 (R (.tuple #[c,true]) e)
 (j (qc xq (c+1)) e))
 (R (.tuple #[(xk xq 0),false]) f)) (0:Int) l
theorem OB(c:bm)(a:Int)(b:Int)(d:@HY R h c a b):ab xv 222 #[c,a,b] h R:=ao ac func222 (ak.tn (.two (ak.tn (.inn (.loop [(9,aS)] [(6,20)] .n))) .n)) d
def vD(a:bm):Prop:=
 aO xv (qH 25 a) h fun c b=>
 ∃x2,cellOf b c=some (xk xq x2)/\
 ∃x3,cellOf b (c.add 2)=some (xk xq x3)/\
 R (qc xq (x2*x3)) b
theorem BS(a:bm)(b:@vD R h a):ab xv 223 #[a] h R:=ao ac func223 .n b
def Ef(f:bm)(a:Sl):Prop:=
 aO xv (qH 25 f) h fun g k=>
 ∃x2:bm,al k g 0 x2/\
 af xv 149 #[x2,(xk xq (a.len:Int))] bB k fun q p=>
 aG (σ:=Sl×Int) (fun b r h3=>
 Br (b.2<q)
 (∃l:bm,al h3 g 0 l/\
 af xv 223 #[l] bB h3 fun i u=>
 aw xv (qB 23 i i) aK u fun n m=>
 ∃j:bm,al m g 0 j/\
 af xv 223 #[j] bB m fun d o=>
 (0<=(qc xq (b.2*d))/\(qc xq (b.2*d))<=(a.len:Int))/\
 aw xv (Builtin.copy_ #[23,23] 3 #[n,(.slice (if a.cap=(qc xq (b.2*d)).toNat then a.ptr else a.ptr.map (·.add ((qc xq (b.2*d)).toNat*1))) (a.len-(qc xq (b.2*d)).toNat) (a.cap-(qc xq (b.2*d)).toNat))]) bB o fun _ t=>
 aw xv (qt 49 1 #[(0,n)]) aK t fun e h8=>
 aw xv (qq #[49,49] 49 #[b.1,e]) aK h8 fun c s=>
 r ((⟨c.ptr,c.len,c.cap⟩:Sl),qc xq (b.2+1)) s)
 (R b.1 h3)) ((⟨none,0,0⟩:Sl),(0:Int)) p
theorem Kt(b:bm)(a:Sl)(c:@Ef R h b a):ab xv 224 #[b,a] h R:=ao ac func224 (ak.tn (ak.tn (.two (ak.tn (.inn (.loop [(5,ca),(12,aS)] [(5,8),(12,31)] .n))) .n))) c
def Eg(a:Int)(b:Int)(c:Sl):Prop:=
 aW (σ:=Unit) (fun _ H=>
 ((64:Int)≠0)/\
 af xv 283 #[(zZ (qc xq ((qc xq (8*a))+b)) 64)] (.one (.sc (.cpx .f64))) H fun z I=>
 aO xv (qP 344 true (.tuple #[])) I fun a3 h3=>
 aG (σ:=Sl×Int) (fun e D l=>
 Br (e.2<(c.len:Int))
 (∃a5,(c.ptr=some a5/\0<=e.2/\e.2<(c.len:Int))/\
 ∃f,cellOf l (a5.add (e.2.toNat*1))=some (xk xq f)/\
 aW (σ:=Bool) (fun M A=>
 Br M
 ((0<=f/\f<((64:Nat):Int))/\
 ae xv (qf 4 (a3.add (f.toNat*1)) true) A fun _ G=>
 af xv 283 #[f] (.one (.sc (.cpx .f64))) G fun E L=>
 af xv 284 #[(.complex .f64 E.1 E.2),(.complex .f64 z.1 z.2)] (.one (.sc (.flt .f64))) L fun t h8=>
 aw xv (qt 343 1 #[(0,(xp #[f,(.float .f64 t)]))]) aK h8 fun r K=>
 aw xv (qq #[343,343] 343 #[e.1,r]) aK K fun i q=>
 D ((⟨i.ptr,i.len,i.cap⟩:Sl),qc xq (e.2+1)) q)
 (D ((⟨e.1.ptr,e.1.len,e.1.cap⟩:Sl),qc xq (e.2+1)) A))
 (fun v=>
 Br (f>=0) (Br (f<64) ((0<=f/\f<((64:Nat):Int))/\
 ∃B:Bool,cellOf l (a3.add (f.toNat*1))=some (xo B)/\
 v (!B) l) (v false l)) (v false l)))
 (af xv 285 #[e.1,(.func (.func 286) #[] #[])] ic l fun _ w=>
 aG (σ:=Sl×Int) (fun d F j=>
 Br (d.2<(e.1.len:Int))
 (∃p,(e.1.ptr=some p/\0<=d.2/\d.2<(e.1.len:Int))/\
 ∃g:Int×Nat,al j (p.add (d.2.toNat*2)) 0 [g.1,(.float .f64 g.2)]/\
 aO xv (qP 348 true (.tuple #[])) j fun m s=>
 ae xv (qf 348 m (xp #[g.1,(.float .f64 g.2)])) s fun _ o=>
 ∃n,cellOf o m=some (xk xq n)/\
 aw xv (qt 38 1 #[(0,n)]) aK o fun x u=>
 aw xv (qq #[38,38] 38 #[d.1,x]) aK u fun k y=>
 F ((⟨k.ptr,k.len,k.cap⟩:Sl),qc xq (d.2+1)) y)
 (R d.1 j)) ((⟨none,0,0⟩:Sl),(0:Int)) w)) ((⟨none,0,0⟩:Sl),(0:Int)) h3)
 (fun J=>
 Br (a<0) (R (xl none 0 0) h) (Br (a>16777215) (R (xl none 0 0) h) (Br (b<0) (R (xl none 0 0) h) (Br (b>=8)
 (R (xl none 0 0) h)
 (J () h)))))
theorem Ku(a:Int)(b:Int)(c:Sl)(d:@Eg R h a b c):ab xv 225 #[a,b,c] h R:=ao ac func225 (ak.tn (.two (.join [] [(6,7),(15,29)] .n) (ak.tn (ak.tn (ak.tn (.two (ak.tn (.inn (.loop [(8,ca),(37,aS)] [(8,9),(11,12),(37,65)] (ak.tn (ak.tn (.two (.inn (ak.tn (.two (.join [(52,lL)] [(41,53)] .n) .n))) .n)))))) (ak.tn (ak.tn (.two (ak.tn (.inn (.loop [(12,ca),(69,aS)] [(12,13),(14,15),(69,79)] .n))) .n))))))))) d
def Kv(a:Sl)(b:Int):Prop:=
 aW (σ:=Unit) (fun _ d=>
 ((a.len:Int)≠0)/\
 ∃c,(a.ptr=some c/\0<=(zZ b (a.len:Int))/\(zZ b (a.len:Int))<(a.len:Int))/\
 ∃x3:Int,cellOf d (c.add ((zZ b (a.len:Int)).toNat*1))=some (xk xq x3)/\
 R x3 d)
 (fun e=>
 Br ((a.len:Int)==0) (R (xk xq (-1:Int)) h) (Br (b<0)
 (R (xk xq (-1:Int)) h)
 (e () h)))
theorem QN(a:Sl)(b:Int)(c:@Kv R h a b):ab xv 226 #[a,b] h R:=ao ac func226 (ak.tn (.two (.join [] [(4,12)] .n) .n)) c
def FR(k:eF):Prop:=
 aO xv (qH 233 k) h fun a t=>
 ∃x2:eF,al t a 0 x2/\
 af xv 290 #[x2] bJ t fun y n=>
 Br (!y)
 (R (xl none 0 0) n)
 (∃r,cellOf n a=some (xk xq r)/\
 af xv 291 #[(xl none 0 0),r,(xk xq 3)] aK n fun z h3=>
 ∃s,cellOf h3 (a.add 1)=some (xk xq s)/\
 af xv 291 #[z,s,(xk xq 1)] aK h3 fun x v=>
 ∃q,cellOf v (a.add 2)=some (xk xq q)/\
 af xv 291 #[x,q,(xk xq 2)] aK v fun A g=>
 ∃d,cellOf g (a.add 3)=some (xk xq d)/\
 ∃f,cellOf g ((a.add 3).add 1)=some (xk xq f)/\
 ∃c,cellOf g ((a.add 3).add 2)=some (xk xq c)/\
 aw xv (qt 23 3 #[(0,(xk xr (qc xr d))),(1,(xk xr (qc xr f))),(2,(xk xr (qc xr c)))]) aK g fun m w=>
 aw xv (qq #[23,23] 23 #[A,m]) aK w fun p u=>
 ∃e,cellOf u (a.add 6)=some (xk xt e)/\
 af xv 291 #[p,(qc xq e),(xk xq 4)] aK u fun j h8=>
 ∃b:Sl,cellOf h8 (a.add 7)=some (b:Value)/\
 aw xv (qq #[23,23] 23 #[j,b]) aK h8 fun o B=>
 af xv 190 #[(xk xq 1),o] aK B fun l i=>
 R l i)
theorem Mb(a:eF)(b:@FR R h a):ab xv 227 #[a] h R:=ao ac func227 .n b
def gT(b:Sl)(a:cB):Prop:=
 af xv 168 #[(xk xu (qc xu (b.len:Int)))] bB h fun d e=>
 af xv 292 #[b,(xk xq 0),(xk xq (b.len:Int)),d,(.func (.func a.1) a.2.1 a.2.2)] ic e fun _ c=>
 R (.tuple #[]) c
theorem li(b:Sl)(a:cB)(c:@gT R h b a):ab xv 228 #[b,(.func (.func a.1) a.2.1 a.2.2)] h R:=ao ac func228 .n c
def BU(c:jq)(a:jq):Prop:=
 aO xv (qH 170 c) h fun g i=>
 aO xv (qH 170 a) i fun e b=>
 ∃x3:ByteArray,cellOf b g=some (xn x3)/\
 ∃d:ByteArray,cellOf b e=some (xn d)/\
 af xv 230 #[x3,d] bB b fun f h3=>
 R f h3
theorem Jb(a:jq)(b:jq)(c:@BU R h a b):ab xv 229 #[a,b] h R:=ao ac func229 .n c
def pr(b:ByteArray)(a:ByteArray):Prop:=
 af xv 293 #[b] bJ h fun e f=>
 af xv 293 #[a] bJ f fun d c=>
 Br e
 (Br d
 (R (xk xq 0) c)
 (R (xk xq (-1:Int)) c))
 (Br d
 (R (xk xq 1) c)
 (Br (Op.bytesLess b.toList a.toList)
 (R (xk xq (-1:Int)) c)
 (Br (!(Op.bytesLess b.toList a.toList||b.toList==a.toList))
 (R (xk xq 1) c)
 (R (xk xq 0) c))))
theorem AW(b:ByteArray)(a:ByteArray)(c:@pr R h b a):ab xv 230 #[b,a] h R:=ao ac func230 .n c
def pu(b:Int)(a:Addr)(d:Addr):Prop:=
 ∃f:aP,cellOf h a=some (.pointer f)/\
 ∃i,(f=some i)/\
 (0<=b/\b<((64:Nat):Int))/\
 ∃x3:aP,cellOf h ((i.add 10).add (b.toNat*1))=some (.pointer x3)/\
 ∃g:aP,cellOf h a=some (.pointer g)/\
 ∃a5,(g=some a5)/\
 ∃c:di,al h a5 0 c/\
 ∃e:cB,cellOf h d=some (.func (.func e.1) e.2.1 e.2.2)/\
 hJ C e.1 (e.2.1.toList++[(xk xq b)]++e.2.2.toList) bB h fun m k=>
 (aq.ok [(a5,c.1),(a5.add 1,c.2.1),(a5.add 2,c.2.2.1),(a5.add 3,c.2.2.2.1),(a5.add 4,c.2.2.2.2.1),(a5.add 5,c.2.2.2.2.2.1),(a5.add 6,c.2.2.2.2.2.2.1),(a5.add 7,c.2.2.2.2.2.2.2),(a,g),((i.add 10).add (b.toNat*1),x3),(a,f)] k)/\
 af xv 179 #[x3,c,m] bJ k fun l j=>
 (aq.ok [(a,g),(a,f)] j)/\
 R (xo (!l)) j
theorem AX(c:Int)(b:Addr)(a:Addr)(d:@pu R h c b a):ab xv 231 #[c,b,a] h R:=ao ac func231 .n d
def eO(b:Sl)(a:cB):Prop:=
 aG (σ:=Int) (fun c g d=>
 Br (c<(b.len:Int))
 (∃e,(b.ptr=some e/\0<=c/\c<(b.len:Int))/\
 ∃x3:jq,al d (e.add (c.toNat*4)) 0 x3/\
 hJ C a.1 (a.2.1.toList++[(xp #[x3.1,x3.2.1,x3.2.2.1,x3.2.2.2])]++a.2.2.toList) bJ d fun i f=>
 Br i
 (R c f)
 (g (qc xq (c+1)) f))
 (R (xk xq (-1:Int)) d)) (0:Int) h
theorem gj(b:Sl)(a:cB)(c:@eO R h b a):ab xv 232 #[b,(.func (.func a.1) a.2.1 a.2.2)] h R:=ao ac func232 (ak.tn (.two (ak.tn (.inn (.loop [(8,aS)] [(4,6),(8,19)] .n))) .n)) c
def pv(b:jq)(a:Addr):Prop:=
 aO xv (qH 170 b) h fun d c=>
 ∃x2:ByteArray,cellOf c d=some (xn x2)/\
 ∃x3:ByteArray,cellOf c a=some (xn x3)/\
 R (xo (x2.toList==x3.toList)) c
theorem AY(b:jq)(a:Addr)(c:@pv R h b a):ab xv 233 #[b,a] h R:=ao ac func233 .n c
def oE(b:Int)(a:Addr):Prop:=
 ∃c:aP,cellOf h a=some (.pointer c)/\
 ∃e,(c=some e)/\
 (0<=b/\b<((64:Nat):Int))/\
 ∃x3:aP,cellOf h ((e.add 10).add (b.toNat*1))=some (.pointer x3)/\
 ∃d:aP,cellOf h a=some (.pointer d)/\
 ∃a5,(d=some a5)/\
 ∃f:di,al h a5 0 f/\
 af xv 235 #[x3,f] bJ h fun i g=>
 (aq.ok [(a,d),(a,c)] g)/\
 R i g
theorem yG(b:Int)(a:Addr)(c:@oE R h b a):ab xv 234 #[b,a] h R:=ao ac func234 .n c
def FS(d:aP)(f:di):Prop:=
 aO xv (qH 136 f) h fun n j=>
 ∃x2:di,al j n 0 x2/\
 af xv 169 #[x2] bJ j fun p k=>
 Br (!p)
 (R false k)
 (af xv 186 #[d] aK k fun s h3=>
 ∃l:di,al h3 n 0 l/\
 af xv 81 #[l] aK h3 fun e t=>
 aG (σ:=Int) (fun a q g=>
 Br (a<(e.len:Int))
 (∃m,(e.ptr=some m/\0<=a/\a<(e.len:Int))/\
 ∃i:Sl,cellOf g (m.add (a.toNat*1))=some (i:Value)/\
 aO xv (qP 23 true (.tuple #[])) g fun b o=>
 ae xv (qf 23 b i) o fun _ r=>
 af xv 294 #[s,(.func (.func 295) #[] #[b])] bJ r fun c h8=>
 Br (!c)
 (R false h8)
 (q (qc xq (a+1)) h8))
 (R true g)) (0:Int) t)
theorem Mc(a:aP)(b:di)(c:@FS R h a b):ab xv 235 #[a,b] h R:=ao ac func235 (ak.tn (ak.tn (ak.tn (.two (ak.tn (.inn (.loop [(16,aS)] [(4,5),(7,8),(16,25)] .n))) .n)))) c
def iy(a:Sl):Prop:=
 Br (q9 a.ptr)
 (R (xl none 0 0) h)
 (aw xv (qt 134 0 #[]) aK h fun d e=>
 aw xv (qq #[134,134] 134 #[d,a]) aK e fun c b=>
 R c b)
theorem mb(a:Sl)(b:@iy R h a):ab xv 236 #[a] h R:=ao ac func236 .n b
def Eh(B:Sl):Prop:=
 aO xv (qP 233 true (.tuple #[])) h fun f h1=>
 af xv 111 #[B] (.many [aS,ca,lL]) h1 fun a h2=>
 aW (σ:=Unit) (fun _ h5=>
 aW (σ:=Addr) (fun b ax=>
 aW (σ:=Unit) (fun _ X=>
 (0<=(9:Int)/\(9:Int)<=(13:Int)/\(13:Int)<=(a.2.1.cap:Int))/\
 af xv 296 #[(.slice (if a.2.1.cap=(9:Int).toNat then a.2.1.ptr else a.2.1.ptr.map (·.add ((9:Int).toNat*1))) ((13:Int).toNat-(9:Int).toNat) (a.2.1.cap-(9:Int).toNat))] bB X fun a3 am=>
 ae xv (qf 27 (b.add 6) (xk xt (qc xt a3))) am fun _ G=>
 ∃t:bm,al G (b.add 3) 0 t/\
 af xv 18 #[t] bJ G fun V k=>
 Br (!V)
 (ae xv (qf 233 f (xp #[(xk xq 0),(xk xq 0),(xk xq 0),(xk xq 0),(xk xq 0),(xk xq 0),(xk xt 0),(xl none 0 0)])) k fun _ P=>
 ∃c:eF,al P f 0 c/\
 R (.tuple #[c,false]) P)
 (∃g,cellOf k ((b.add 3).add 2)=some (xk xq g)/\
 (0<=(13:Int)/\(13:Int)<=(qc xq (13+g))/\(qc xq (13+g))<=(a.2.1.cap:Int))/\
 af xv 29 #[(.slice (if a.2.1.cap=(13:Int).toNat then a.2.1.ptr else a.2.1.ptr.map (·.add ((13:Int).toNat*1))) ((qc xq (13+g)).toNat-(13:Int).toNat) (a.2.1.cap-(13:Int).toNat))] aK k fun a0 U=>
 ae xv (qf 23 (b.add 7) a0) U fun _ n=>
 ∃q:eF,al n b 0 q/\
 af xv 227 #[q] aK n fun a5 a4=>
 af xv 187 #[B,a5] bJ a4 fun ap l=>
 Br (!ap)
 (ae xv (qf 233 f (xp #[(xk xq 0),(xk xq 0),(xk xq 0),(xk xq 0),(xk xq 0),(xk xq 0),(xk xt 0),(xl none 0 0)])) l fun _ N=>
 ∃e:eF,al N f 0 e/\
 R (.tuple #[e,false]) N)
 (∃K:eF,al l b 0 K/\
 ae xv (qf 233 f K) l fun _ p=>
 ∃d:eF,al p f 0 d/\
 R (.tuple #[d,true]) p)))
 (fun K3=>
 (0<=(6:Int)/\(6:Int)<=(7:Int)/\(7:Int)<=(a.2.1.cap:Int))/\
 (0<=(7:Int)/\(7:Int)<=(8:Int)/\(8:Int)<=(a.2.1.cap:Int))/\
 (0<=(8:Int)/\(8:Int)<=(9:Int)/\(9:Int)<=(a.2.1.cap:Int))/\
 af xv 296 #[(.slice (if a.2.1.cap=(6:Int).toNat then a.2.1.ptr else a.2.1.ptr.map (·.add ((6:Int).toNat*1))) ((7:Int).toNat-(6:Int).toNat) (a.2.1.cap-(6:Int).toNat))] bB ax fun ah s=>
 (aq.ok [] s)/\
 af xv 296 #[(.slice (if a.2.1.cap=(7:Int).toNat then a.2.1.ptr else a.2.1.ptr.map (·.add ((7:Int).toNat*1))) ((8:Int).toNat-(7:Int).toNat) (a.2.1.cap-(7:Int).toNat))] bB s fun a2 A=>
 (aq.ok [] A)/\
 af xv 296 #[(.slice (if a.2.1.cap=(8:Int).toNat then a.2.1.ptr else a.2.1.ptr.map (·.add ((8:Int).toNat*1))) ((9:Int).toNat-(8:Int).toNat) (a.2.1.cap-(8:Int).toNat))] bB A fun a6 o=>
 (aq.ok [] o)/\
 ae xv (qf 25 (b.add 3) (xp #[ah,a2,a6])) o fun _ v=>
 (aq.ok [] v)/\
 K3 () v))
 (fun Q=>
 (0<=(3:Int)/\(3:Int)<=(a.2.1.cap:Int))/\
 (0<=(3:Int)/\(3:Int)<=(4:Int)/\(4:Int)<=(a.2.1.cap:Int))/\
 (0<=(4:Int)/\(4:Int)<=(6:Int)/\(6:Int)<=(a.2.1.cap:Int))/\
 (af xv 296 #[(xl a.2.1.ptr ((3:Int).toNat) a.2.1.cap)] bB h5 fun Y Z=>
 (aq.ok [] Z)/\
 (af xv 296 #[(.slice (if a.2.1.cap=(3:Int).toNat then a.2.1.ptr else a.2.1.ptr.map (·.add ((3:Int).toNat*1))) ((4:Int).toNat-(3:Int).toNat) (a.2.1.cap-(3:Int).toNat))] bB Z fun r7 h7=>
 (aq.ok [] h7)/\
 (af xv 296 #[(.slice (if a.2.1.cap=(4:Int).toNat then a.2.1.ptr else a.2.1.ptr.map (·.add ((4:Int).toNat*1))) ((6:Int).toNat-(4:Int).toNat) (a.2.1.cap-(4:Int).toNat))] bB h7 fun r8 h8=>
 (aq.ok [] h8)/\
 aO xv (qP 233 true (.tuple #[])) h8 fun a9 h9=>
 (aq.ok [] h9)/\
 ae xv (qf 233 a9 (xp #[Y,r7,r8,(xk xq 0),(xk xq 0),(xk xq 0),(xk xt 0),(xl none 0 0)])) h9 fun _ m=>
 (aq.ok [] m)/\
 Q a9 m)/\(aO xv (qP 233 true (.tuple #[])) h7 fun r I=>
 (aq.ok [] I)/\
 af xv 296 #[(.slice (if a.2.1.cap=(4:Int).toNat then a.2.1.ptr else a.2.1.ptr.map (·.add ((4:Int).toNat*1))) ((6:Int).toNat-(4:Int).toNat) (a.2.1.cap-(4:Int).toNat))] bB I fun S D=>
 (aq.ok [] D)/\
 ae xv (qf 233 r (xp #[Y,r7,S,(xk xq 0),(xk xq 0),(xk xq 0),(xk xt 0),(xl none 0 0)])) D fun _ u=>
 (aq.ok [] u)/\
 Q r u))/\(aO xv (qP 233 true (.tuple #[])) Z fun y H=>
 (aq.ok [] H)/\
 af xv 296 #[(.slice (if a.2.1.cap=(3:Int).toNat then a.2.1.ptr else a.2.1.ptr.map (·.add ((3:Int).toNat*1))) ((4:Int).toNat-(3:Int).toNat) (a.2.1.cap-(3:Int).toNat))] bB H fun ad F=>
 (aq.ok [] F)/\
 af xv 296 #[(.slice (if a.2.1.cap=(4:Int).toNat then a.2.1.ptr else a.2.1.ptr.map (·.add ((4:Int).toNat*1))) ((6:Int).toNat-(4:Int).toNat) (a.2.1.cap-(4:Int).toNat))] bB F fun a7 O=>
 (aq.ok [] O)/\
 ae xv (qf 233 y (xp #[Y,ad,a7,(xk xq 0),(xk xq 0),(xk xq 0),(xk xt 0),(xl none 0 0)])) O fun _ w=>
 (aq.ok [] w)/\
 Q y w))/\(aO xv (qP 233 true (.tuple #[])) h5 fun M L=>
 (aq.ok [] L)/\
 af xv 296 #[(xl a.2.1.ptr ((3:Int).toNat) a.2.1.cap)] bB L fun T E=>
 (aq.ok [] E)/\
 af xv 296 #[(.slice (if a.2.1.cap=(3:Int).toNat then a.2.1.ptr else a.2.1.ptr.map (·.add ((3:Int).toNat*1))) ((4:Int).toNat-(3:Int).toNat) (a.2.1.cap-(3:Int).toNat))] bB E fun W J=>
 (aq.ok [] J)/\
 af xv 296 #[(.slice (if a.2.1.cap=(4:Int).toNat then a.2.1.ptr else a.2.1.ptr.map (·.add ((4:Int).toNat*1))) ((6:Int).toNat-(4:Int).toNat) (a.2.1.cap-(4:Int).toNat))] bB J fun ay x=>
 (aq.ok [] x)/\
 ae xv (qf 233 M (xp #[T,W,ay,(xk xq 0),(xk xq 0),(xk xq 0),(xk xt 0),(xl none 0 0)])) x fun _ z=>
 (aq.ok [] z)/\
 Q M z)))
 (fun K1=>
 Br (!a.2.2) (ae xv (qf 233 f (xp #[(xk xq 0),(xk xq 0),(xk xq 0),(xk xq 0),(xk xq 0),(xk xq 0),(xk xt 0),(xl none 0 0)])) h2 fun _ h3=>
 ∃j:eF,al h3 f 0 j/\
 R (.tuple #[j,false]) h3) (Br (a.1 !=1)
 (ae xv (qf 233 f (xp #[(xk xq 0),(xk xq 0),(xk xq 0),(xk xq 0),(xk xq 0),(xk xq 0),(xk xt 0),(xl none 0 0)])) h2 fun _ h4=>
 ∃i:eF,al h4 f 0 i/\
 R (.tuple #[i,false]) h4)
 (K1 () h2)))
theorem Kw(a:Sl)(b:@Eh R h a):ab xv 238 #[a] h R:=ao ac func238 (ak.tn (ak.tn (.two (.join [] [(3,4),(14,21)] .n) (.two (.join [(7,(.sc .adr))] [(7,8),(21,31)] .n) (.two (.join [] [(31,42)] .n) .n))))) b
def Ei(d:di)(b:eF):Prop:=
 aO xv (qH 136 d) h fun k p=>
 aO xv (qH 233 b) p fun a i=>
 aW (σ:=Unit) (fun _ e=>
 ∃f:Sl,cellOf e (k.add 7)=some (f:Value)/\
 af xv 258 #[f,(.func (.func 297) #[] #[a])] bJ e fun c n=>
 R c n)
 (fun m=>
 ∃x3:eF,al i a 0 x3/\
 af xv 290 #[x3] bJ i fun o h3=>
 Br (!o) (R false h3) (∃j:bm,al h3 (a.add 3) 0 j/\
 ∃l:bm,al h3 (k.add 2) 0 l/\
 ∃g:Bool,(jy xv .neq 25 (.tmp 10) (.tmp 12) j l (xo g))/\
 Br g
 (R false h3)
 (m () h3)))
theorem Kx(b:di)(a:eF)(c:@Ei R h b a):ab xv 239 #[b,a] h R:=ao ac func239 (ak.tn (.two (.join [] [(4,15)] .n) .n)) c
def fG(b:Sl)(a:cB):Prop:=
 af xv 298 #[b,(xk xq (b.len:Int)),(.func (.func a.1) a.2.1 a.2.2)] ic h fun _ c=>
 R (.tuple #[]) c
theorem jo(b:Sl)(a:cB)(c:@fG R h b a):ab xv 240 #[b,(.func (.func a.1) a.2.1 a.2.2)] h R:=ao ac func240 .n c
def FT(j:eF)(l:eF):Prop:=
 aO xv (qH 233 j) h fun c t=>
 aO xv (qH 233 l) t fun b a=>
 ∃x3,cellOf a c=some (xk xq x3)/\
 ∃o,cellOf a b=some (xk xq o)/\
 ∃n,cellOf a (c.add 1)=some (xk xq n)/\
 ∃k,cellOf a (b.add 1)=some (xk xq k)/\
 ∃e,cellOf a (c.add 2)=some (xk xq e)/\
 ∃d,cellOf a (b.add 2)=some (xk xq d)/\
 af xv 289 #[x3,o] bB a fun u h3=>
 (aq.ok [(b.add 2,d),(c.add 2,e),(b.add 1,k),(c.add 1,n)] h3)/\
 af xv 289 #[n,k] bB h3 fun i s=>
 (aq.ok [(b.add 2,d),(c.add 2,e)] s)/\
 af xv 289 #[e,d] bB s fun f q=>
 (aq.ok [] q)/\
 aw xv (qt 38 3 #[(0,u),(1,i),(2,f)]) aK q fun m p=>
 (aq.ok [] p)/\
 af xv 287 #[m] bB p fun g r=>
 (aq.ok [] r)/\
 R g r
theorem Md(a:eF)(b:eF)(c:@FT R h a b):ab xv 241 #[a,b] h R:=ao ac func241 .n c
def fW(a:Sl)(d:cB):Prop:=
 Br ((a.len:Int)<2)
 (R a h)
 (aG (σ:=Int) (fun c v m=>
 Br (c<(a.len:Int))
 (∃q,(a.ptr=some q/\0<=c/\c<(a.len:Int))/\
 ∃x3:eF,al m (q.add (c.toNat*8)) 0 x3/\
 ∃a4,(a.ptr=some a4/\0<=(qc xq (c-1))/\(qc xq (c-1))<(a.len:Int))/\
 ∃g:eF,al m (a4.add ((qc xq (c-1)).toNat*8)) 0 g/\
 hJ C d.1 (d.2.1.toList++[(xp #[x3.1,x3.2.1,x3.2.2.1,x3.2.2.2.1,x3.2.2.2.2.1,x3.2.2.2.2.2.1,(xk xt x3.2.2.2.2.2.2.1),x3.2.2.2.2.2.2.2]),(xp #[g.1,g.2.1,g.2.2.1,g.2.2.2.1,g.2.2.2.2.1,g.2.2.2.2.2.1,(xk xt g.2.2.2.2.2.2.1),g.2.2.2.2.2.2.2])]++d.2.2.toList) bJ m fun t o=>
 (aq.ok [] o)/\
 Br t
 ((0<=c/\c<=(a.len:Int))/\
 aG (σ:=Int×Int) (fun b r h3=>
 Br (decide (b.2<(((a.len-c.toNat):Nat):Int)))
 (∃s:Addr,((if a.cap=c.toNat then a.ptr else a.ptr.map (·.add (c.toNat*8)))=some s/\0<=b.2/\b.2<(((a.len-c.toNat):Nat):Int))/\
 ∃f:eF,al h3 (s.add (b.2.toNat*8)) 0 f/\
 ∃i:Addr,((if a.cap=c.toNat then a.ptr else a.ptr.map (·.add (c.toNat*8)))=some i/\0<=(qc xq (b.2-1))/\(qc xq (b.2-1))<(((a.len-c.toNat):Nat):Int))/\
 ∃e:eF,al h3 (i.add ((qc xq (b.2-1)).toNat*8)) 0 e/\
 hJ C d.1 (d.2.1.toList++[(xp #[f.1,f.2.1,f.2.2.1,f.2.2.2.1,f.2.2.2.2.1,f.2.2.2.2.2.1,(xk xt f.2.2.2.2.2.2.1),f.2.2.2.2.2.2.2]),(xp #[e.1,e.2.1,e.2.2.1,e.2.2.2.1,e.2.2.2.2.1,e.2.2.2.2.2.1,(xk xt e.2.2.2.2.2.2.1),e.2.2.2.2.2.2.2])]++d.2.2.toList) bJ h3 fun p n=>
 (aq.ok [] n)/\
 Br (!p)
 (∃j:Addr,((if a.cap=c.toNat then a.ptr else a.ptr.map (·.add (c.toNat*8)))=some j/\0<=b.2/\b.2<(((a.len-c.toNat):Nat):Int))/\
 ∃k:eF,al n (j.add (b.2.toNat*8)) 0 k/\
 ∃l,(a.ptr=some l/\0<=b.1/\b.1<(a.len:Int))/\
 ae xv (qf 233 (l.add (b.1.toNat*8)) k) n fun _ w=>
 r (qc xq (b.1+1),qc xq (b.2+1)) w)
 (r (b.1,qc xq (b.2+1)) n))
 ((0<=b.1/\b.1<=(a.len:Int))/\
 ae xv (yU #[230] 0 #[(.slice (if a.cap=b.1.toNat then a.ptr else a.ptr.map (·.add (b.1.toNat*8))) (a.len-b.1.toNat) (a.cap-b.1.toNat))]) h3 fun _ u=>
 (0<=b.1/\b.1<=(a.cap:Int))/\
 R (xl a.ptr b.1.toNat a.cap) u)) (c,(1:Int)) o)
 (v (qc xq (c+1)) o))
 (R a m)) (1:Int) h)
theorem jS(b:Sl)(a:cB)(c:@fW R h b a):ab xv 242 #[b,(.func (.func a.1) a.2.1 a.2.2)] h R:=ao ac func242 (ak.tn (ak.tn (.two (ak.tn (.inn (.loop [(5,aS)] [(4,8),(12,65)] (ak.tn (.two (.inn (ak.tn (.two (ak.tn (.two (ak.tn (.inn (.loop [(5,aS),(7,aS)] [(5,6),(7,8),(32,59)] .n))) .n)) .n))) .n))))) .n))) c
def vG(c:eF)(a:eF):Prop:=
 aO xv (qH 233 c) h fun g i=>
 aO xv (qH 233 a) i fun e b=>
 ∃x3:eF,al b g 0 x3/\
 ∃d:eF,al b e 0 d/\
 af xv 241 #[x3,d] bB b fun f h3=>
 R (xo (f==0)) h3
theorem FU(a:eF)(b:eF)(c:@vG R h a b):ab xv 243 #[a,b] h R:=ao ac func243 .n c
def Ej(c:Int)(a:Int)(b:Int):Prop:=
 Br (c>=a) (R (decide (c<=b)) h) (R false h)
theorem Ky(c:Int)(a:Int)(b:Int)(d:@Ej R h c a b):ab xv 255 #[c,a,b] h R:=ao ac func255 .n d
def HZ(a:Sl)(c:Int):Prop:=
 aG (σ:=Int) (fun b g e=>
 Br (b<(a.len:Int))
 (∃f,(a.ptr=some f/\0<=b/\b<(a.len:Int))/\
 ∃x3,cellOf e (f.add (b.toNat*1))=some (xk xq x3)/\
 af xv 255 #[x3,(xk xq 0),c] bJ e fun j d=>
 Br (!j) (R false d) (Br (b>0) (∃a5,(a.ptr=some a5/\0<=(qc xq (b-1))/\(qc xq (b-1))<(a.len:Int))/\
 ∃i:Int,cellOf d (a5.add ((qc xq (b-1)).toNat*1))=some (xk xq i)/\
 Br (i>=x3)
 (R false d)
 (g (qc xq (b+1)) d)) (g (qc xq (b+1)) d)))
 (R true e)) (0:Int) h
theorem OC(b:Sl)(a:Int)(c:@HZ R h b a):ab xv 256 #[b,a] h R:=ao ac func256 (ak.tn (.two (ak.tn (.inn (.loop [(9,aS)] [(4,7),(9,32)] .n))) .n)) c
def FV(n:di)(l:jq):Prop:=
 aO xv (qH 136 n) h fun j x=>
 aO xv (qH 170 l) x fun a t=>
 aW (σ:=Unit) (fun _ q=>
 ∃f:Sl,cellOf q (a.add 3)=some (f:Value)/\
 af xv 173 #[f,(.func (.func 305) #[] #[])] bJ q fun o c=>
 Br (!o) (∃b:Sl,cellOf c (a.add 3)=some (b:Value)/\
 ∃d:bm,al c (j.add 2) 0 d/\
 ∃e,cellOf c (a.add 2)=some (xk xq e)/\
 af xv 149 #[d,e] bB c fun m h8=>
 (aq.ok [(a.add 3,b)] h8)/\
 R (xo ((b.len:Int)==m)) h8) ((aq.ok [] c)/\
 R false c))
 (fun y=>
 ∃x3:ByteArray,cellOf t a=some (xn x3)/\
 af xv 221 #[x3] bJ t fun z h3=>
 Br (!z) (R false h3) (∃u,cellOf h3 (a.add 1)=some (xk xq u)/\
 ∃s,cellOf h3 (j.add 1)=some (xk xq s)/\
 af xv 255 #[u,(xk xq 0),(qc xq (s-1))] bJ h3 fun w i=>
 Br (!w) (R false i) (∃p,cellOf i (a.add 2)=some (xk xq p)/\
 ∃r,cellOf i (j.add 2)=some (xk xq r)/\
 ∃g,cellOf i ((j.add 2).add 2)=some (xk xq g)/\
 af xv 255 #[p,(xk xq 0),(qc xq ((qc xq (r*g))*8))] bJ i fun k v=>
 Br (!k)
 (R false v)
 (y () v))))
theorem Me(b:di)(a:jq)(c:@FV R h b a):ab xv 257 #[b,a] h R:=ao ac func257 (ak.tn (.two (.join [] [(4,5),(6,33)] .n) .n)) c
def dV(b:Sl)(a:cB):Prop:=
 af xv 232 #[b,(.func (.func a.1) a.2.1 a.2.2)] bB h fun d c=>
 R (decide (d>=0)) c
theorem fR(b:Sl)(a:cB)(c:@dV R h b a):ab xv 258 #[b,(.func (.func a.1) a.2.1 a.2.2)] h R:=ao ac func258 .n c
def FW(b:jq)(a:Addr):Prop:=
 aO xv (qH 170 b) h fun d c=>
 ∃x2,cellOf c (d.add 1)=some (xk xq x2)/\
 ∃x3,cellOf c (a.add 1)=some (xk xq x3)/\
 R (xo (x2==x3)) c
theorem Mf(b:jq)(a:Addr)(c:@FW R h b a):ab xv 259 #[b,a] h R:=ao ac func259 .n c
end
end Go.Qw
