/- Lemmas. -/
import Derived.Test.YtadfimdanpoafaaGreatDoorTabA
set_option linter.unusedVariables false
open Go.Proofs.Tryz renaming prog -> xx
open Go.Instr renaming alloc -> qK, box -> qM, buildSlice -> qt, makeSlice -> qF, storeAt -> qf
open Go.Value renaming agg -> xr, bool -> xq, int -> xl, slice -> xn, string -> xp
open Go.IntKind renaming bits -> qk, i64 -> xt, u32 -> xv, u8 -> xu, wrap -> qc
open Option renaming isNone -> ze
open Go.Builtin renaming append_ -> qw, copy_ -> wX
open Int renaming fdiv -> qU, tdiv -> wI
open Go.Proofs.Tryz
set_option maxRecDepth 1000000
namespace Go.Qw
noncomputable section
open Go Go.Vc Go.Proofs
variable {R:AX} {h:Heap}
def Ek(c:cJ)(b:df):Prop:=
 aK xx (qM 59 c) h fun g p=>
 aK xx (qM 139 b) p fun d k=>
 bf (σ:=Unit) (fun _ i=>
 ∃l:Sl,cellOf i (g.add 7)=some (l:Value)/\
 af xx 192 #[l,(.func (.func 252) #[] #[d])] bE i fun a m=>
 R a m)
 (fun n=>
 ∃x3:df,aj k d 0 x3/\
 af xx 222 #[x3] bE k fun o h3=>
 Br (!o) (R false h3) (∃j:bH,aj h3 (d.add 3) 0 j/\
 ∃e:bH,aj h3 (g.add 2) 0 e/\
 ∃f:Bool,(kr xx .neq 24 (.tmp 10) (.tmp 12) j e (xq f))/\
 Br f
 (R false h3)
 (n () h3)))
theorem KM(b:cJ)(a:df)(c:@Ek R h b a):ac xx 162 #[b,a] h R:=au ae func162 (an.tn (.two (.join [] [(4,15)] .n) .n)) c
def fM(b:Sl)(a:cA):Prop:=
 af xx 253 #[b,(xl xt (b.len:Int)),(.func (.func a.1) a.2.1 a.2.2)] gF h fun _ c=>
 R (.tuple #[]) c
theorem jA(b:Sl)(a:cA)(c:@fM R h b a):ac xx 163 #[b,(.func (.func a.1) a.2.1 a.2.2)] h R:=au ae func163 .n c
def FY(n:df)(i:df):Prop:=
 aK xx (qM 139 n) h fun c u=>
 aK xx (qM 139 i) u fun b a=>
 ∃x3,cellOf a c=some (xl xt x3)/\
 ∃p,cellOf a b=some (xl xt p)/\
 ∃g,cellOf a (c.add 1)=some (xl xt g)/\
 ∃f,cellOf a (b.add 1)=some (xl xt f)/\
 ∃d,cellOf a (c.add 2)=some (xl xt d)/\
 ∃e,cellOf a (b.add 2)=some (xl xt e)/\
 af xx 221 #[x3,p] bt a fun t h3=>
 (av.ok [(b.add 2,e),(c.add 2,d),(b.add 1,f),(c.add 1,g)] h3)/\
 af xx 221 #[g,f] bt h3 fun m o=>
 (av.ok [(b.add 2,e),(c.add 2,d)] o)/\
 af xx 221 #[d,e] bt o fun k r=>
 (av.ok [] r)/\
 az xx (qt 22 3 #[(0,t),(1,m),(2,k)]) aH r fun l s=>
 (av.ok [] s)/\
 af xx 219 #[l] bt s fun j q=>
 (av.ok [] q)/\
 R j q
theorem MR(b:df)(a:df)(c:@FY R h b a):ac xx 164 #[b,a] h R:=au ae func164 .n c
def gj(a:Sl)(d:cA):Prop:=
 Br ((a.len:Int)<2)
 (R a h)
 (aJ (σ:=Int) (fun c t n=>
 Br (c<(a.len:Int))
 (∃r,(a.ptr=some r/\0<=c/\c<(a.len:Int))/\
 ∃x3:df,aj n (r.add (c.toNat*8)) 0 x3/\
 ∃a4,(a.ptr=some a4/\0<=(qc xt (c-1))/\(qc xt (c-1))<(a.len:Int))/\
 ∃f:df,aj n (a4.add ((qc xt (c-1)).toNat*8)) 0 f/\
 gb C d.1 (d.2.1.toList++[(xr #[x3.1,x3.2.1,x3.2.2.1,x3.2.2.2.1,x3.2.2.2.2.1,x3.2.2.2.2.2.1,(xl xv x3.2.2.2.2.2.2.1),x3.2.2.2.2.2.2.2]),(xr #[f.1,f.2.1,f.2.2.1,f.2.2.2.1,f.2.2.2.2.1,f.2.2.2.2.2.1,(xl xv f.2.2.2.2.2.2.1),f.2.2.2.2.2.2.2])]++d.2.2.toList) bE n fun v o=>
 (av.ok [] o)/\
 Br v
 ((0<=c/\c<=(a.len:Int))/\
 aJ (σ:=Int×Int) (fun b s h3=>
 Br (decide (b.2<(((a.len-c.toNat):Nat):Int)))
 (∃q:Addr,((if a.cap=c.toNat then a.ptr else a.ptr.map (·.add (c.toNat*8)))=some q/\0<=b.2/\b.2<(((a.len-c.toNat):Nat):Int))/\
 ∃g:df,aj h3 (q.add (b.2.toNat*8)) 0 g/\
 ∃i:Addr,((if a.cap=c.toNat then a.ptr else a.ptr.map (·.add (c.toNat*8)))=some i/\0<=(qc xt (b.2-1))/\(qc xt (b.2-1))<(((a.len-c.toNat):Nat):Int))/\
 ∃e:df,aj h3 (i.add ((qc xt (b.2-1)).toNat*8)) 0 e/\
 gb C d.1 (d.2.1.toList++[(xr #[g.1,g.2.1,g.2.2.1,g.2.2.2.1,g.2.2.2.2.1,g.2.2.2.2.2.1,(xl xv g.2.2.2.2.2.2.1),g.2.2.2.2.2.2.2]),(xr #[e.1,e.2.1,e.2.2.1,e.2.2.2.1,e.2.2.2.2.1,e.2.2.2.2.2.1,(xl xv e.2.2.2.2.2.2.1),e.2.2.2.2.2.2.2])]++d.2.2.toList) bE h3 fun p m=>
 (av.ok [] m)/\
 Br (!p)
 (∃l:Addr,((if a.cap=c.toNat then a.ptr else a.ptr.map (·.add (c.toNat*8)))=some l/\0<=b.2/\b.2<(((a.len-c.toNat):Nat):Int))/\
 ∃j:df,aj m (l.add (b.2.toNat*8)) 0 j/\
 ∃k,(a.ptr=some k/\0<=b.1/\b.1<(a.len:Int))/\
 ag xx (qf 139 (k.add (b.1.toNat*8)) j) m fun _ u=>
 s (qc xt (b.1+1),qc xt (b.2+1)) u)
 (s (b.1,qc xt (b.2+1)) m))
 ((0<=b.1/\b.1<=(a.len:Int))/\
 ag xx (Builtin.clear_ #[136] 0 #[(.slice (if a.cap=b.1.toNat then a.ptr else a.ptr.map (·.add (b.1.toNat*8))) (a.len-b.1.toNat) (a.cap-b.1.toNat))]) h3 fun _ w=>
 (0<=b.1/\b.1<=(a.cap:Int))/\
 R (xn a.ptr b.1.toNat a.cap) w)) (c,(1:Int)) o)
 (t (qc xt (c+1)) o))
 (R a n)) (1:Int) h)
theorem kb(b:Sl)(a:cA)(c:@gj R h b a):ac xx 165 #[b,(.func (.func a.1) a.2.1 a.2.2)] h R:=au ae func165 (an.tn (an.tn (.two (an.tn (.inn (.loop [(5,aZ)] [(4,8),(12,65)] (an.tn (.two (.inn (an.tn (.two (an.tn (.two (an.tn (.inn (.loop [(5,aZ),(7,aZ)] [(5,6),(7,8),(32,59)] .n))) .n)) .n))) .n))))) .n))) c
def xy(c:df)(b:df):Prop:=
 aK xx (qM 139 c) h fun e g=>
 aK xx (qM 139 b) g fun i a=>
 ∃x3:df,aj a e 0 x3/\
 ∃d:df,aj a i 0 d/\
 af xx 164 #[x3,d] bt a fun f h3=>
 R (xq (f==0)) h3
theorem FZ(b:df)(a:df)(c:@xy R h b a):ac xx 166 #[b,a] h R:=au ae func166 .n c
def El(b:Int)(a:Int):Prop:=
 Br (b>=0) (Br (b<64) (Br (a>=1) (R (decide (a<=512)) h) (R false h)) (R false h)) (R false h)
theorem KN(b:Int)(a:Int)(c:@El R h b a):ac xx 167 #[b,a] h R:=au ae func167 .n c
def Em(c:Int)(a:Int)(b:Int):Prop:=
 Br (c>=a) (R (decide (c<=b)) h) (R false h)
theorem KO(c:Int)(a:Int)(b:Int)(d:@Em R h c a b):ac xx 189 #[c,a,b] h R:=au ae func189 .n d
def Is(a:Sl)(c:Int):Prop:=
 aJ (σ:=Int) (fun b g e=>
 Br (b<(a.len:Int))
 (∃i,(a.ptr=some i/\0<=b/\b<(a.len:Int))/\
 ∃x3,cellOf e (i.add (b.toNat*1))=some (xl xt x3)/\
 af xx 189 #[x3,(xl xt 0),c] bE e fun j d=>
 Br (!j) (R false d) (Br (b>0) (∃a5,(a.ptr=some a5/\0<=(qc xt (b-1))/\(qc xt (b-1))<(a.len:Int))/\
 ∃f:Int,cellOf d (a5.add ((qc xt (b-1)).toNat*1))=some (xl xt f)/\
 Br (f>=x3)
 (R false d)
 (g (qc xt (b+1)) d)) (g (qc xt (b+1)) d)))
 (R true e)) (0:Int) h
theorem OT(b:Sl)(a:Int)(c:@Is R h b a):ac xx 190 #[b,a] h R:=au ae func190 (an.tn (.two (an.tn (.inn (.loop [(9,aZ)] [(4,7),(9,32)] .n))) .n)) c
def Ga(o:cJ)(l:iX):Prop:=
 aK xx (qM 59 o) h fun j z=>
 aK xx (qM 105 l) z fun a r=>
 bf (σ:=Unit) (fun _ v=>
 ∃g:Sl,cellOf v (a.add 3)=some (g:Value)/\
 af xx 134 #[g,(.func (.func 271) #[] #[])] bE v fun m c=>
 Br (!m) (∃b:Sl,cellOf c (a.add 3)=some (b:Value)/\
 ∃f:bH,aj c (j.add 2) 0 f/\
 ∃e,cellOf c (a.add 2)=some (xl xt e)/\
 af xx 56 #[f,e] bt c fun k h8=>
 (av.ok [(a.add 3,b)] h8)/\
 R (xq ((b.len:Int)==k)) h8) ((av.ok [] c)/\
 R false c))
 (fun y=>
 ∃x3:ByteArray,cellOf r a=some (xp x3)/\
 af xx 122 #[x3] bE r fun w h3=>
 Br (!w) (R false h3) (∃q,cellOf h3 (a.add 1)=some (xl xt q)/\
 ∃p,cellOf h3 (j.add 1)=some (xl xt p)/\
 af xx 189 #[q,(xl xt 0),(qc xt (p-1))] bE h3 fun x d=>
 Br (!x) (R false d) (∃u,cellOf d (a.add 2)=some (xl xt u)/\
 ∃s,cellOf d (j.add 2)=some (xl xt s)/\
 ∃i,cellOf d ((j.add 2).add 2)=some (xl xt i)/\
 af xx 189 #[u,(xl xt 0),(qc xt ((qc xt (s*i))*8))] bE d fun n t=>
 Br (!n)
 (R false t)
 (y () t))))
theorem MS(b:cJ)(a:iX)(c:@Ga R h b a):ac xx 191 #[b,a] h R:=au ae func191 (an.tn (.two (.join [] [(4,5),(6,33)] .n) .n)) c
def eJ(b:Sl)(a:cA):Prop:=
 af xx 138 #[b,(.func (.func a.1) a.2.1 a.2.2)] bt h fun c d=>
 R (decide (c>=0)) d
theorem fZ(b:Sl)(a:cA)(c:@eJ R h b a):ac xx 192 #[b,(.func (.func a.1) a.2.1 a.2.2)] h R:=au ae func192 .n c
def Gb(b:iX)(a:Addr):Prop:=
 aK xx (qM 105 b) h fun d c=>
 ∃x2,cellOf c (d.add 1)=some (xl xt x2)/\
 ∃x3,cellOf c (a.add 1)=some (xl xt x3)/\
 R (xq (x2==x3)) c
theorem MT(b:iX)(a:Addr)(c:@Gb R h b a):ac xx 193 #[b,a] h R:=au ae func193 .n c
def sB(a:aO):Prop:=
 Br (ze a)
 (R (xl xt 0) h)
 (∃b,(a=some b)/\
 ∃x2,cellOf h (b.add 1)=some (xl xt x2)/\
 R x2 h)
theorem Dv(a:aO)(b:@sB R h a):ac xx 201 #[a] h R:=au ae func201 .n b
def iK(a:Sl):Prop:=
 Br (ze a.ptr)
 (R (xn none 0 0) h)
 (az xx (qt 57 0 #[]) aH h fun d e=>
 az xx (qw #[57,57] 57 #[d,a]) aH e fun b c=>
 R b c)
theorem mj(a:Sl)(b:@iK R h a):ac xx 203 #[a] h R:=au ae func203 .n b
def En(a:Sl)(d:Int)(b:Int):Prop:=
 aJ (σ:=Sl×Int) (fun c f e=>
 Br (c.2>=0)
 ((0<=(qc xt (8*c.2)))/\
 az xx (qt 35 1 #[(0,(xl xu (qc xu (qU d (2^min (qc xt (8*c.2)).toNat (qk xt))))))]) aH e fun g i=>
 az xx (qw #[35,35] 35 #[c.1,g]) aH i fun v3 h3=>
 f ((⟨v3.ptr,v3.len,v3.cap⟩:Sl),qc xt (c.2-1)) h3)
 (R c.1 e)) ((⟨a.ptr,a.len,a.cap⟩:Sl),qc xt (b-1)) h
theorem KP(b:Sl)(c:Int)(a:Int)(d:@En R h b c a):ac xx 204 #[b,c,a] h R:=au ae func204 (an.tn (.two (an.tn (.inn (.loop [(0,cv),(7,aZ)] [(0,1),(7,8),(10,22)] .n))) .n)) d
def KQ(a:Int)(c:Sl):Prop:=
 bf (σ:=Unit) (fun _ p=>
 az xx (qF 35 (xl xt 64) (xl xt 64)) aH p fun b i=>
 az xx (qt 35 4 #[(0,(xl xu 87)),(1,(xl xu 115)),(2,(xl xu 1)),(3,(xl xu (qc xu a)))]) aH i fun v3 h3=>
 az xx (wX #[35,35] 3 #[b,v3]) bt h3 fun _ g=>
 (0<=(4:Int)/\(4:Int)<=(b.len:Int))/\
 az xx (wX #[35,35] 3 #[(.slice (if b.cap=(4:Int).toNat then b.ptr else b.ptr.map (·.add ((4:Int).toNat*1))) (b.len-(4:Int).toNat) (b.cap-(4:Int).toNat)),c]) bt g fun _ l=>
 (0<=(59:Int)/\(59:Int)<=(b.cap:Int))/\
 af xx 276 #[(xn b.ptr ((59:Int).toNat) b.cap)] (.one (.sc (.int .u32))) l fun n o=>
 aJ (σ:=Int) (fun d k f=>
 Br (d<4)
 ((0<=(qc xt (8*d)))/\
 ∃e,(b.ptr=some e/\0<=(qc xt (59+d))/\(qc xt (59+d))<(b.len:Int))/\
 ag xx (qf 5 (e.add ((qc xt (59+d)).toNat*1)) (xl xu (qc xu (qU n (2^min (qc xt (8*d)).toNat (qk xv)))))) f fun _ h8=>
 k (qc xt (d+1)) h8)
 (∃a9,(b.ptr=some a9/\0<=(63:Int)/\(63:Int)<(b.len:Int))/\
 ag xx (qf 5 (a9.add ((63:Int).toNat*1)) (xl xu 165)) f fun _ j=>
 R b j)) (0:Int) o)
 (fun m=>
 Br (a<1) (R (xn none 0 0) h) (Br (a>255) (R (xn none 0 0) h) (Br ((c.len:Int)>55)
 (R (xn none 0 0) h)
 (m () h))))
theorem QO(a:Int)(b:Sl)(c:@KQ R h a b):ac xx 205 #[a,b] h R:=au ae func205 (an.tn (.two (.join [] [(4,5),(8,19)] .n) (an.tn (an.tn (an.tn (an.tn (.two (an.tn (.inn (.loop [(32,aZ)] [(7,8),(32,45)] .n))) .n))))))) c
def Eo(a:Sl):Prop:=
 Br (ze a.ptr)
 (R (xn none 0 0) h)
 (az xx (qt 35 0 #[]) aH h fun d e=>
 az xx (qw #[35,35] 35 #[d,a]) aH e fun b c=>
 R b c)
theorem KR(a:Sl)(b:@Eo R h a):ac xx 206 #[a] h R:=au ae func206 .n b
def sC(a:aO):Prop:=
 ∃b,(a=some b)/\
 ag xx (qf 40 (b.add 4) (xn none 0 0)) h fun _ e=>
 ∃c,(a=some c)/\
 ag xx (qf 4 (c.add 5) false) e fun _ d=>
 R (xl xt 0) d
theorem Dw(a:aO)(b:@sC R h a):ac xx 207 #[a] h R:=au ae func207 .n b
def mq(a:aO):Prop:=
 bf (σ:=Unit) (fun _ f=>
 ∃a4,(a=some a4)/\
 ∃c:aO,cellOf f a4=some (.pointer c)/\
 af xx 35 #[c] bE f fun j d=>
 Br (!j)
 (R (xl xt 14) d)
 (∃e,(a=some e)/\
 ag xx (qf 3 (e.add 3) (xl xt 0)) d fun _ h3=>
 af xx 207 #[a] bt h3 fun k g=>
 R k g))
 (fun i=>
 Br (ze a) (R (xl xt 5) h) (∃b,(a=some b)/\
 ∃x2:Bool,cellOf h (b.add 6)=some (xq x2)/\
 Br x2
 (R (xl xt 5) h)
 (i () h)))
theorem pk(a:aO)(b:@mq R h a):ac xx 209 #[a] h R:=au ae func209 (an.tn (.two (.join [] [(2,11)] .n) .n)) b
def Cb(c:bH)(a:Int):Prop:=
 aK xx (qM 24 c) h fun b d=>
 ∃x2:bH,aj d b 0 x2/\
 ∃x3:bH,aj d b 0 x3/\
 af xx 214 #[x3] aH d fun g e=>
 (av.ok [(b,x2.1),(b.add 1,x2.2.1),(b.add 2,x2.2.2)] e)/\
 af xx 145 #[x2,(xl xv a),g] bE e fun f h3=>
 (av.ok [] h3)/\
 R f h3
theorem Jk(b:bH)(a:Int)(c:@Cb R h b a):ac xx 210 #[b,(xl xv a)] h R:=au ae func210 .n c
def Bn(F:aO)(e:Sl)(i:Sl):Prop:=
 bf (σ:=Unit) (fun _ h3=>
 af xx 278 #[e] bt h3 fun j K=>
 af xx 279 #[e] aH K fun d P=>
 aJ (σ:=Int) (fun f N v=>
 Br (f<(d.len:Int))
 (∃H,(d.ptr=some H/\0<=f/\f<(d.len:Int))/\
 ∃I:Sl,cellOf v (H.add (f.toNat*1))=some (I:Value)/\
 ∃a9,(i.ptr=some a9/\0<=f/\f<(i.len:Int))/\
 ∃t:Sl,cellOf v (a9.add (f.toNat*1))=some (t:Value)/\
 az xx (qw #[35,35] 35 #[I,t]) aH v fun D G=>
 (av.ok [] G)/\
 ∃p,(d.ptr=some p/\0<=f/\f<(d.len:Int))/\
 ag xx (qf 35 (p.add (f.toNat*1)) D) G fun _ h8=>
 (av.ok [] h8)/\
 N (qc xt (f+1)) h8)
 (af xx 281 #[F] jp v fun A M=>
 af xx 280 #[A,d,j] bt M fun a s=>
 Br (a<j)
 (R (.tuple #[(xn none 0 0),(xl xt 9)]) s)
 ((0<=a/\a<=(d.len:Int))/\
 aJ (σ:=Int) (fun g T k=>
 Br (decide (g<(((d.len-a.toNat):Nat):Int)))
 (∃r:Addr,((if d.cap=a.toNat then d.ptr else d.ptr.map (·.add (a.toNat*1)))=some r/\0<=g/\g<(((d.len-a.toNat):Nat):Int))/\
 ∃o:Sl,cellOf k (r.add (g.toNat*1))=some (o:Value)/\
 af xx 282 #[o] bt k fun y n=>
 Br (y>=0)
 (R (.tuple #[(xn none 0 0),(xl xt 10)]) n)
 (T (qc xt (g+1)) n))
 ((0<=a/\a<=(d.cap:Int))/\
 aJ (σ:=Sl×Int) (fun b L l=>
 Br (b.2<(a.toNat:Int))
 (∃q,(d.ptr=some q/\0<=b.2/\b.2<(a.toNat:Int))/\
 ∃c:Sl,cellOf l (q.add (b.2.toNat*1))=some (c:Value)/\
 (0<=j/\j<=(c.len:Int))/\
 af xx 206 #[(.slice (if c.cap=j.toNat then c.ptr else c.ptr.map (·.add (j.toNat*1))) (c.len-j.toNat) (c.cap-j.toNat))] aH l fun z x=>
 az xx (qt 40 1 #[(0,z)]) aH x fun B E=>
 az xx (qw #[40,40] 40 #[b.1,B]) aH E fun m w=>
 L ((⟨m.ptr,m.len,m.cap⟩:Sl),qc xt (b.2+1)) w)
 (R (.tuple #[b.1,(xl xt 0)]) l)) ((⟨none,0,0⟩:Sl),(0:Int)) k)) (0:Int) s))) (0:Int) P)
 (fun Q=>
 af xx 277 #[e] bE h fun S J=>
 Br (!S) (R (.tuple #[(xn none 0 0),(xl xt 1)]) J) (af xx 277 #[i] bE J fun O u=>
 Br (!O) (R (.tuple #[(xn none 0 0),(xl xt 1)]) u) (Br ((e.len:Int) !=(i.len:Int)) (R (.tuple #[(xn none 0 0),(xl xt 1)]) u) (Br ((e.len:Int)==0)
 (R (.tuple #[(xn none 0 0),(xl xt 1)]) u)
 (Q () u)))))
theorem Ep(c:aO)(b:Sl)(a:Sl)(d:@Bn R h c b a):ac xx 211 #[c,b,a] h R:=au ae func211 (an.tn (.two (.join [] [(6,8),(17,37)] .n) (an.tn (an.tn (.two (an.tn (.inn (.loop [(43,aZ)] [(10,11),(43,59)] .n))) (an.tn (an.tn (.two (an.tn (.inn (.loop [(71,aZ)] [(6,8),(13,14),(71,79)] .n))) (an.tn (.two (an.tn (.inn (.loop [(14,cv),(83,aZ)] [(14,15),(16,17),(83,95)] .n))) .n)))))))))) d
def QP:Prop:=
 af xx 283 #[] (.one (.arr (.int .u8))) h fun g k=>
 aK xx (qK 314 true (.tuple #[])) k fun a i=>
 ag xx (qf 314 a (xr (g.map (Sc.enc (.int .u8))).toArray)) i fun _ h3=>
 ∃x3:List (Int),(x3.length=255/\aj h3 a 0 (x3.map (Sc.enc (.int .u8))))/\
 ∃b:List (Int),(b.length=255/\aj h3 a 0 (b.map (Sc.enc (.int .u8))))/\
 af xx 284 #[(xr (b.map (Sc.enc (.int .u8))).toArray)] (.one (.arr (.int .i64))) h3 fun f c=>
 (av.ok (lW a 0 (x3.map (Sc.enc (.int .u8))) []) c)/\
 ∃e:Value,(aF xx (Instr.build 319 #[(0,(xr (x3.map (Sc.enc (.int .u8))).toArray)),(1,(xr (f.map (Sc.enc (.int .i64))).toArray))]) e)/\
 aK xx (qM 319 e) c fun j d=>
 (av.ok (lW a 0 (x3.map (Sc.enc (.int .u8))) []) d)/\
 R j d
theorem VM(a:@QP R h):ac xx 212 #[] h R:=au ae func212 .n a
def AF(e:bH)(c:Int)(a:Sl):Prop:=
 aK xx (qM 24 e) h fun l n=>
 ∃x2:bH,aj n l 0 x2/\
 af xx 285 #[x2] aH n fun f o=>
 aJ (σ:=Sl×Int) (fun b k h3=>
 Br (b.2<(a.len:Int))
 (∃a5,(a.ptr=some a5/\0<=b.2/\b.2<(a.len:Int))/\
 ∃g,cellOf h3 (a5.add (b.2.toNat*1))=some (xl xt g)/\
 ∃m:bH,aj h3 l 0 m/\
 af xx 286 #[m,(xl xv c),g] aH h3 fun j i=>
 Br (!(ze j.ptr))
 (az xx (qt 40 1 #[(0,j)]) aH i fun v9 p=>
 az xx (qw #[40,40] 40 #[b.1,v9]) aH p fun d q=>
 k ((⟨d.ptr,d.len,d.cap⟩:Sl),qc xt (b.2+1)) q)
 (k ((⟨b.1.ptr,b.1.len,b.1.cap⟩:Sl),qc xt (b.2+1)) i))
 (R b.1 h3)) ((⟨f.ptr,f.len,f.cap⟩:Sl),(0:Int)) o
theorem HQ(c:bH)(a:Int)(b:Sl)(d:@AF R h c a b):ac xx 213 #[c,(xl xv a),b] h R:=au ae func213 (an.tn (an.tn (.two (an.tn (.inn (.loop [(7,cv),(15,aZ)] [(7,8),(9,11),(15,30)] .n))) .n))) d
def Cc(b:bH):Prop:=
 aK xx (qM 24 b) h fun e d=>
 ∃x2,cellOf d e=some (xl xt x2)/\
 aJ (σ:=Sl×Int) (fun a g c=>
 Br (decide (a.2<(if(if(16:Int)<x2 then(16:Int)else x2)>(0:Int)then(if(16:Int)<x2 then(16:Int)else x2)else(0:Int))))
 (az xx (qt 22 1 #[(0,a.2)]) aH c fun v4 h3=>
 az xx (qw #[22,22] 22 #[a.1,v4]) aH h3 fun v5 f=>
 g ((⟨v5.ptr,v5.len,v5.cap⟩:Sl),qc xt (a.2+1)) f)
 (R a.1 c)) ((⟨none,0,0⟩:Sl),(0:Int)) d
theorem Jl(a:bH)(b:@Cc R h a):ac xx 214 #[a] h R:=au ae func214 (an.tn (an.tn (.two (an.tn (.inn (.loop [(3,cv),(9,aZ)] [(3,5),(9,17)] .n))) .n))) b
def KS(a:Int):Prop:=
 Br (a<0) (R (.complex .f64 0 0) h) (Br (a>=4096)
 (R (.complex .f64 0 0) h)
 (af xx 287 #[] jp h fun d g=>
 aJ (σ:=Int) (fun e f c=>
 Br (e==a)
 (∃a3,(d=some a3)/\
 ∃b:Nat×Nat,cellOf c a3=some (.complex .f64 b.1 b.2)/\
 R (.complex .f64 b.1 b.2) c)
 (af xx 288 #[d] gF c fun _ h3=>
 f (qc xt (e+1)) h3)) (0:Int) g))
theorem QQ(a:Int)(b:@KS R h a):ac xx 215 #[a] h R:=au ae func215 (an.tn (.scope 0 [(4,aZ)] [(2,3),(4,5),(12,23)] [.n,.n,.n] [.n] [])) b
def It(c:Nat×Nat)(b:Nat×Nat):Prop:=
 ∃a:Nat×Nat,(kr xx .sub 242 (.tmp 6) (.tmp 7) (.complex .f64 c.1 c.2) (.complex .f64 b.1 b.2) (.complex .f64 a.1 a.2))/\
 ∃e:Nat,((FloatKind.format .f64).mul a.1 a.1=some e)/\
 ∃d:Nat,((FloatKind.format .f64).mul a.2 a.2=some d)/\
 ∃f:Nat,((FloatKind.format .f64).add e d=some f)/\
 R (.float .f64 f) h
theorem OU(b:Nat×Nat)(a:Nat×Nat)(c:@It R h b a):ac xx 216 #[(.complex .f64 b.1 b.2),(.complex .f64 a.1 a.2)] h R:=au ae func216 .n c
def AG(c:Int×Nat)(b:Int×Nat):Prop:=
 aK xx (qM 249 (xr #[c.1,(.float .f64 c.2)])) h fun e p=>
 aK xx (qM 249 (xr #[b.1,(.float .f64 b.2)])) p fun i a=>
 ∃x3:Nat,cellOf a (e.add 1)=some (.float .f64 x3)/\
 ∃j:Nat,cellOf a (i.add 1)=some (.float .f64 j)/\
 ∃f,cellOf a e=some (xl xt f)/\
 ∃d,cellOf a i=some (xl xt d)/\
 af xx 220 #[(.float .f64 x3),(.float .f64 j)] bt a fun n h3=>
 (av.ok [(i,d),(e,f)] h3)/\
 af xx 221 #[f,d] bt h3 fun o k=>
 (av.ok [] k)/\
 az xx (qt 22 2 #[(0,n),(1,o)]) aH k fun v9 l=>
 (av.ok [] l)/\
 af xx 219 #[v9] bt l fun g m=>
 (av.ok [] m)/\
 R g m
theorem HR(b:Int×Nat)(a:Int×Nat)(c:@AG R h b a):ac xx 218 #[(xr #[b.1,(.float .f64 b.2)]),(xr #[a.1,(.float .f64 a.2)])] h R:=au ae func218 .n c
def xz(a:Sl):Prop:=
 aJ (σ:=Int) (fun b e c=>
 Br (b<(a.len:Int))
 (∃d,(a.ptr=some d/\0<=b/\b<(a.len:Int))/\
 ∃x3,cellOf c (d.add (b.toNat*1))=some (xl xt x3)/\
 Br (x3 !=0)
 (R x3 c)
 (e (qc xt (b+1)) c))
 (R (xl xt 0) c)) (0:Int) h
theorem Cd(a:Sl)(b:@xz R h a):ac xx 219 #[a] h R:=au ae func219 (an.tn (an.tn (.two (an.tn (.inn (.loop [(8,aZ)] [(2,3),(5,6),(8,17)] .n))) .n))) b
def ot(b:Nat)(a:Nat):Prop:=
 af xx 290 #[(.float .f64 b)] bE h fun f e=>
 af xx 290 #[(.float .f64 a)] bE e fun d c=>
 Br f
 (Br d
 (R (xl xt 0) c)
 (R (xl xt (-1:Int)) c))
 (Br d
 (R (xl xt 1) c)
 (Br ((FloatKind.format .f64).order b a==some .lt)
 (R (xl xt (-1:Int)) c)
 (Br ((FloatKind.format .f64).order b a==some .gt)
 (R (xl xt 1) c)
 (R (xl xt 0) c))))
theorem Ae(b:Nat)(a:Nat)(c:@ot R h b a):ac xx 220 #[(.float .f64 b),(.float .f64 a)] h R:=au ae func220 .n c
def nc(b:Int)(a:Int):Prop:=
 af xx 291 #[b] bE h fun f e=>
 af xx 291 #[a] bE e fun d c=>
 Br f
 (Br d
 (R (xl xt 0) c)
 (R (xl xt (-1:Int)) c))
 (Br d
 (R (xl xt 1) c)
 (Br (b<a)
 (R (xl xt (-1:Int)) c)
 (Br (b>a)
 (R (xl xt 1) c)
 (R (xl xt 0) c))))
theorem pT(b:Int)(a:Int)(c:@nc R h b a):ac xx 221 #[b,a] h R:=au ae func221 .n c
def Gc(f:df):Prop:=
 aK xx (qM 139 f) h fun b a=>
 bf (σ:=Bool) (fun o g=>
 Br o (∃n:bH,aj g (b.add 3) 0 n/\
 af xx 47 #[n] bE g fun i h3=>
 Br i (∃d:Sl,cellOf h3 (b.add 7)=some (d:Value)/\
 ∃e,cellOf h3 ((b.add 3).add 2)=some (xl xt e)/\
 R (xq ((d.len:Int)==e)) h3) (R false h3)) (R false g))
 (fun c=>
 ∃x2,cellOf a b=some (xl xt x2)/\
 Br (x2>=0) (∃x3,cellOf a b=some (xl xt x3)/\
 Br (x3<=16777215) (∃k,cellOf a (b.add 1)=some (xl xt k)/\
 Br (k>=0) (∃m,cellOf a (b.add 1)=some (xl xt m)/\
 Br (m<8) (∃j,cellOf a (b.add 2)=some (xl xt j)/\
 Br (j>=0) (∃l,cellOf a (b.add 2)=some (xl xt l)/\
 c (decide (l<=65535)) a) (c false a)) (c false a)) (c false a)) (c false a)) (c false a))
theorem MU(a:df)(b:@Gc R h a):ac xx 222 #[a] h R:=au ae func222 (an.tn (.two (.join [(3,mg)] [(3,32)] .n) .n)) b
def AH(a:Sl)(d:Int)(b:Int):Prop:=
 aJ (σ:=Sl×Int) (fun c f e=>
 Br (c.2>=0)
 ((0<=(qc xt (8*c.2)))/\
 az xx (qt 35 1 #[(0,(xl xu (qc xu (qU d (2^min (qc xt (8*c.2)).toNat (qk xt))))))]) aH e fun g i=>
 az xx (qw #[35,35] 35 #[c.1,g]) aH i fun v3 h3=>
 f ((⟨v3.ptr,v3.len,v3.cap⟩:Sl),qc xt (c.2-1)) h3)
 (R c.1 e)) ((⟨a.ptr,a.len,a.cap⟩:Sl),qc xt (b-1)) h
theorem HS(b:Sl)(c:Int)(a:Int)(d:@AH R h b c a):ac xx 223 #[b,c,a] h R:=au ae func223 (an.tn (.two (an.tn (.inn (.loop [(0,cv),(7,aZ)] [(0,1),(7,8),(10,22)] .n))) .n)) d
def iY(b:Sl)(A:Int)(z:Int)(e:Int)(a:cA):Prop:=
 aJ (σ:=Tu8) (fun c D t=>
 Br ((qc xt (c.2.1-c.1))<=12)
 (af xx 292 #[b,c.1,c.2.1,(.func (.func a.1) a.2.1 a.2.2)] gF t fun _ L=>
 R (.tuple #[]) L)
 (Br (c.2.2.1==0)
 (af xx 293 #[b,c.1,c.2.1,(.func (.func a.1) a.2.1 a.2.2)] gF t fun _ h3=>
 R (.tuple #[]) h3)
 (bf (σ:=Int) (fun n O=>
 af xx 295 #[b,c.1,c.2.1,(.func (.func a.1) a.2.1 a.2.2)] (.many [aZ,aZ]) O fun s J=>
 bf (σ:=Int×Int) (fun k h8=>
 bf (σ:=Unit) (fun _ f=>
 bf (σ:=Int) (fun j v=>
 af xx 299 #[b,j,c.2.1,k.1,(.func (.func a.1) a.2.1 a.2.2)] (.many [aZ,mg]) v fun d p=>
 ((8:Int)≠0)/\
 Br ((qc xt (d.1-j))<(qc xt (c.2.1-d.1)))
 (af xx 224 #[b,j,d.1,n,(.func (.func a.1) a.2.1 a.2.2)] gF p fun _ u=>
 D (qc xt (d.1+1),c.2.1,n,decide ((qc xt (d.1-j))>=(qc xt (wI (qc xt (c.2.1-c.1)) 8))),d.2) u)
 (af xx 224 #[b,(qc xt (d.1+1)),c.2.1,n,(.func (.func a.1) a.2.1 a.2.2)] gF p fun _ x=>
 D (j,d.1,n,decide ((qc xt (c.2.1-d.1))>=(qc xt (wI (qc xt (c.2.1-c.1)) 8))),d.2) x))
 (fun N=>
 bf (σ:=Bool) (fun y l=>
 Br y
 (af xx 298 #[b,c.1,c.2.1,k.1,(.func (.func a.1) a.2.1 a.2.2)] bt l fun E B=>
 D (E,c.2.1,n,c.2.2.2.1,c.2.2.2.2) B)
 (N c.1 l))
 (fun H=>
 Br (c.1>0) (∃m,(b.ptr=some m/\0<=(qc xt (c.1-1))/\(qc xt (c.1-1))<(b.len:Int))/\
 ∃i:iX,aj f (m.add ((qc xt (c.1-1)).toNat*4)) 0 i/\
 ∃q,(b.ptr=some q/\0<=k.1/\k.1<(b.len:Int))/\
 ∃g:iX,aj f (q.add (k.1.toNat*4)) 0 g/\
 gb C a.1 (a.2.1.toList++[(xr #[i.1,i.2.1,i.2.2.1,i.2.2.2]),(xr #[g.1,g.2.1,g.2.2.1,g.2.2.2])]++a.2.2.toList) bt f fun w o=>
 (av.ok [] o)/\
 H (!(decide (w<0))) o) ((av.ok [] f)/\
 H false f))))
 (fun r=>
 Br c.2.2.2.1 (Br c.2.2.2.2 (Br (k.2==1)
 (af xx 297 #[b,c.1,c.2.1,(.func (.func a.1) a.2.1 a.2.2)] bE h8 fun P F=>
 Br P
 (R (.tuple #[]) F)
 (r () F))
 (r () h8)) (r () h8)) (r () h8)))
 (fun I=>
 Br (s.2==2)
 (af xx 296 #[b,c.1,c.2.1,(.func (.func a.1) a.2.1 a.2.2)] gF J fun _ M=>
 I (qc xt ((qc xt (c.2.1-1))-(qc xt (s.1-c.1))),(1:Int)) M)
 (I (s.1,s.2) J)))
 (fun G=>
 Br (!c.2.2.2.1)
 (af xx 294 #[b,c.1,c.2.1,(.func (.func a.1) a.2.1 a.2.2)] gF t fun _ K=>
 G (qc xt (c.2.2.1-1)) K)
 (G c.2.2.1 t))))) (A,z,e,true,true) h
theorem mK(c:Sl)(e:Int)(d:Int)(b:Int)(a:cA)(f:@iY R h c e d b a):ac xx 224 #[c,e,d,b,(.func (.func a.1) a.2.1 a.2.2)] h R:=au ae func224 (an.tn (an.tn (.inn (.loop [(1,aZ),(2,aZ),(3,aZ),(10,mg),(11,mg)] [(1,4),(10,148)] (.inn (an.tn (an.tn (an.tn (.two (.join [(3,aZ)] [(3,4),(38,47)] .n) (an.tn (.two (.join [(13,aZ),(14,aZ)] [(13,15),(55,68)] .n) (.two (.join [] [(68,81)] .n) (.two (.join [(1,aZ)] [(1,2),(15,16),(81,105)] (.two (.join [(97,mg)] [(81,98)] .n) .n)) .n))))))))))))) f
def sD(a:ByteArray):Prop:=
 R (xq (!(a.toList==a.toList))) h
theorem Dx(a:ByteArray)(b:@sD R h a):ac xx 226 #[a] h R:=au ae func226 .n b
def iL(b:Sl)(a:cA):Prop:=
 af xx 302 #[b,(.func (.func a.1) a.2.1 a.2.2)] bt h fun c d=>
 R (decide (c>=0)) d
theorem ms(b:Sl)(a:cA)(c:@iL R h b a):ac xx 227 #[b,(.func (.func a.1) a.2.1 a.2.2)] h R:=au ae func227 .n c
def Ce(b:Sl)(a:Addr):Prop:=
 ∃c:Sl,cellOf h a=some (c:Value)/\
 af xx 229 #[b,c] bE h fun d e=>
 R d e
theorem Jm(b:Sl)(a:Addr)(c:@Ce R h b a):ac xx 228 #[b,a] h R:=au ae func228 .n c
def Er(b:Sl)(a:Sl):Prop:=
 az xx (convert 35 9 b) (.one Kx) h fun e f=>
 az xx (convert 35 9 a) (.one Kx) f fun c d=>
 R (xq (e.toList==c.toList)) d
theorem KT(b:Sl)(a:Sl)(c:@Er R h b a):ac xx 229 #[b,a] h R:=au ae func229 .n c
def gH(a:Sl)(b:cA):Prop:=
 aJ (σ:=Int) (fun c g d=>
 Br (c<(a.len:Int))
 (∃f,(a.ptr=some f/\0<=c/\c<(a.len:Int))/\
 ∃x3:Int×Sl,aj d (f.add (c.toNat*2)) 0 x3/\
 gb C b.1 (b.2.1.toList++[(xr #[x3.1,x3.2])]++b.2.2.toList) bE d fun i e=>
 Br i
 (R c e)
 (g (qc xt (c+1)) e))
 (R (xl xt (-1:Int)) d)) (0:Int) h
theorem kC(b:Sl)(a:cA)(c:@gH R h b a):ac xx 230 #[b,(.func (.func a.1) a.2.1 a.2.2)] h R:=au ae func230 (an.tn (.two (an.tn (.inn (.loop [(8,aZ)] [(4,6),(8,19)] .n))) .n)) c
def Es(d:bH)(a:Int)(b:Sl):Prop:=
 aK xx (qM 24 d) h fun c g=>
 ∃x2:bH,aj g c 0 x2/\
 af xx 212 #[] jp g fun k f=>
 (av.ok [(c,x2.1),(c.add 1,x2.2.1),(c.add 2,x2.2.2)] f)/\
 af xx 213 #[x2,(xl xv a),b] aH f fun j h3=>
 (av.ok [] h3)/\
 af xx 303 #[k,j] bt h3 fun i e=>
 (av.ok [] e)/\
 R i e
theorem KU(c:bH)(a:Int)(b:Sl)(d:@Es R h c a b):ac xx 231 #[c,(xl xv a),b] h R:=au ae func231 .n d
def KV(c:bH):Prop:=
 aK xx (qM 24 c) h fun b f=>
 ∃x2:bH,aj f b 0 x2/\
 af xx 47 #[x2] bE f fun g a=>
 Br (!g)
 (R (xl xt 0) a)
 (∃d,cellOf a b=some (xl xt d)/\
 ∃e,cellOf a (b.add 1)=some (xl xt e)/\
 R (qc xt (d+e)) a)
theorem QR(a:bH)(b:@KV R h a):ac xx 232 #[a] h R:=au ae func232 .n b
def Iu(b:Int)(c:Sl):Prop:=
 af xx 304 #[b,c] bE h fun P E=>
 Br (!P)
 (R (.tuple #[(xn none 0 0),(xn none 0 0),(xn none 0 0),(xl xt 1)]) E)
 (bf (σ:=aO) (fun u h8=>
 af xx 305 #[u] gF h8 fun _ M=>
 aJ (σ:=Sl×Int) (fun a I d=>
 Br (a.2<(c.len:Int))
 (∃m,(c.ptr=some m/\0<=a.2/\a.2<(c.len:Int))/\
 ∃t:Sl×Sl,aj d (m.add (a.2.toNat*2)) 0 t/\
 aK xx (qK 263 true (.tuple #[])) d fun s A=>
 ag xx (qf 263 s t) A fun _ i=>
 ∃q:Sl×Sl,aj i s 0 q/\
 af xx 306 #[u,q] (.one (.agg [.slc,.slc])) i fun w B=>
 aK xx (qK 263 true (.tuple #[])) B fun f x=>
 ag xx (qf 263 f w) x fun _ e=>
 ∃l:Sl,cellOf e f=some (l:Value)/\
 Br ((l.len:Int)>0)
 (∃o:Sl×Sl,aj e f 0 o/\
 az xx (qt 261 1 #[(0,o)]) aH e fun D v=>
 az xx (qw #[261,261] 261 #[a.1,D]) aH v fun g z=>
 I ((⟨g.ptr,g.len,g.cap⟩:Sl),qc xt (a.2+1)) z)
 (∃r:Sl,cellOf e (f.add 1)=some (r:Value)/\
 af xx 307 #[r] bE e fun y j=>
 Br (!y)
 (R (.tuple #[(xn none 0 0),(xn none 0 0),(xn none 0 0),(xl xt 10)]) j)
 (I ((⟨a.1.ptr,a.1.len,a.1.cap⟩:Sl),qc xt (a.2+1)) j)))
 (∃n,(u=some n)/\
 ∃p:Sl,cellOf d (n.add 1)=some (p:Value)/\
 ∃a25,(u=some a25)/\
 ∃k:Sl,cellOf d (a25.add 2)=some (k:Value)/\
 R (.tuple #[p,k,a.1,(xl xt 0)]) d)) ((⟨none,0,0⟩:Sl),(0:Int)) M)
 (fun J=>
 (az xx (qF 270 b b) aH E fun Q G=>
 (av.ok [] G)/\
 az xx (qF 40 b b) aH G fun v3 h3=>
 (av.ok [] h3)/\
 aK xx (qM 341 (xr #[c,Q,v3])) h3 fun a4 F=>
 (av.ok [] F)/\
 J (some a4) F)/\(az xx (qF 40 b b) aH E fun v5 K=>
 (av.ok [] K)/\
 az xx (qF 270 b b) aH K fun N L=>
 (av.ok [] L)/\
 aK xx (qM 341 (xr #[c,N,v5])) L fun O H=>
 (av.ok [] H)/\
 J (some O) H)))
theorem OV(a:Int)(b:Sl)(c:@Iu R h a b):ac xx 233 #[a,b] h R:=au ae func233 (an.tn (an.tn (.two (.join [(8,FI)] [(8,9),(16,23)] .n) (an.tn (.two (an.tn (.inn (.loop [(6,cv),(27,aZ)] [(4,8),(10,12),(27,47)] .n))) .n))))) c
def ou(A:aO)(a:Sl):Prop:=
 aK xx (qM 264 A) h fun t J=>
 ∃x2:aO,cellOf J t=some (.pointer x2)/\
 ∃a3,(x2=some a3)/\
 ∃r:Sl,cellOf J (a3.add 5)=some (r:Value)/\
 aJ (σ:=Sl×Int) (fun d S B=>
 Br (d.2<(r.len:Int))
 (∃L,(r.ptr=some L/\0<=d.2/\d.2<(r.len:Int))/\
 ∃P:Sl×Sl,aj B (L.add (d.2.toNat*2)) 0 P/\
 aK xx (qK 263 true (.tuple #[])) B fun M h3=>
 ag xx (qf 263 M P) h3 fun _ K=>
 ∃O:Sl,cellOf K M=some (O:Value)/\
 az xx (qt 83 1 #[(0,O)]) aH K fun y T=>
 az xx (qw #[83,83] 83 #[d.1,y]) aH T fun f U=>
 S ((⟨f.ptr,f.len,f.cap⟩:Sl),qc xt (d.2+1)) U)
 (aJ (σ:=Sl×Int) (fun b N s=>
 Br (b.2<(a.len:Int))
 (∃q,(a.ptr=some q/\0<=b.2/\b.2<(a.len:Int))/\
 ∃m:Bool,cellOf s (q.add (b.2.toNat*1))=some (xq m)/\
 Br m
 (az xx (qt 22 1 #[(0,b.2)]) aH s fun H h8=>
 az xx (qt 83 1 #[(0,H)]) aH h8 fun D Q=>
 az xx (qw #[83,83] 83 #[b.1,D]) aH Q fun g G=>
 N ((⟨g.ptr,g.len,g.cap⟩:Sl),qc xt (b.2+1)) G)
 (N ((⟨b.1.ptr,b.1.len,b.1.cap⟩:Sl),qc xt (b.2+1)) s))
 (af xx 308 #[(xl xt (a.len:Int)),b.1] (.many [(.agg [.slc,.slc,.slc]),mg]) s fun z F=>
 aK xx (qK 267 true (.tuple #[])) F fun c v=>
 ag xx (qf 267 c z.1) v fun _ l=>
 ∃k:Sl,cellOf l c=some (k:Value)/\
 af xx 309 #[k,(.func (.func 310) #[] #[t])] aH l fun I x=>
 ag xx (qf 265 c I) x fun _ p=>
 ∃j:Sl,cellOf p (c.add 2)=some (j:Value)/\
 af xx 74 #[j,(.func (.func 311) #[] #[t])] aH p fun E u=>
 ag xx (qf 22 (c.add 2) E) u fun _ e=>
 ∃i:aO,cellOf e t=some (.pointer i)/\
 ∃n:Sl×Sl×Sl,aj e c 0 n/\
 ∃o,(i=some o)/\
 ag xx (qf 267 (o.add 6) n) e fun _ w=>
 R (.tuple #[]) w)) ((⟨d.1.ptr,d.1.len,d.1.cap⟩:Sl),(0:Int)) B)) ((⟨none,0,0⟩:Sl),(0:Int)) J
theorem Af(b:aO)(a:Sl)(c:@ou R h b a):ac xx 234 #[b,a] h R:=au ae func234 (an.tn (an.tn (.two (an.tn (.inn (.loop [(4,cv),(16,aZ)] [(4,5),(6,7),(16,26)] .n))) (.two (an.tn (.inn (.loop [(4,cv),(28,aZ)] [(4,5),(7,9),(28,40)] .n))) .n)))) c
end
end Go.Qw
