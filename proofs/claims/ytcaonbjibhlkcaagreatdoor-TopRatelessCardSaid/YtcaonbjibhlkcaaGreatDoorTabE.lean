/- Lemmas for the proof of the law; no condition. -/
import Derived.Test.YtcaonbjibhlkcaaGreatDoorTabA
set_option linter.unusedVariables false
open Go.Proofs.Tryz renaming prog -> xv
open Go.Value renaming agg -> xp, bool -> xo, int -> xk
open Go.IntKind renaming bits -> qk, i64 -> xq, u32 -> xt, u64 -> xu, u8 -> xr, wrap -> qc
open Go.Instr renaming alloc -> qP, box -> qH, buildSlice -> qt, storeAt -> qf
open Go.Builtin renaming append_ -> qq
open BitVec renaming ofInt -> qu
open Int renaming fdiv -> qQ, tdiv -> z8
open Go.Proofs.Tryz
set_option maxRecDepth 1000000
namespace Go.Qw
noncomputable section
open Go Go.Vc Go.Proofs
variable {R:Cu} {h:Heap}
def sn(a:aP):Prop:=
 Br (Option.isNone a)
 (R (xk xq 0) h)
 (∃b,(a=some b)/\
 ∃x2,cellOf h (b.add 1)=some (xk xq x2)/\
 R x2 h)
theorem Dk(a:aP)(b:@sn R h a):ab xv 263 #[a] h R:=ao ac func263 .n b
def Ia(b:Sl):Prop:=
 aG (σ:=Sl×Int) (fun a i c=>
 Br (a.2<(b.len:Int))
 (∃e,(b.ptr=some e/\0<=a.2/\a.2<(b.len:Int))/\
 ∃x3:Sl,cellOf c (e.add (a.2.toNat*1))=some (x3:Value)/\
 af xv 29 #[x3] aK c fun j g=>
 aw xv (qt 49 1 #[(0,j)]) aK g fun v5 h3=>
 aw xv (qq #[49,49] 49 #[a.1,v5]) aK h3 fun d f=>
 i ((⟨d.ptr,d.len,d.cap⟩:Sl),qc xq (a.2+1)) f)
 (R a.1 c)) ((⟨none,0,0⟩:Sl),(0:Int)) h
theorem OD(a:Sl)(b:@Ia R h a):ab xv 264 #[a] h R:=ao ac func264 (ak.tn (ak.tn (.two (ak.tn (.inn (.loop [(3,ca),(8,aS)] [(3,4),(5,6),(8,18)] .n))) .n))) b
def FX(d:aP)(e:di):Prop:=
 aO xv (qH 136 e) h fun r j=>
 ∃x2:di,al j r 0 x2/\
 af xv 165 #[d,x2] aK j fun f n=>
 aG (σ:=Sl×Int) (fun b o h3=>
 Br (b.2<(f.len:Int))
 (∃a5,(f.ptr=some a5/\0<=b.2/\b.2<(f.len:Int))/\
 ∃i:eF,al h3 (a5.add (b.2.toNat*8)) 0 i/\
 aO xv (qP 233 true (.tuple #[])) h3 fun k s=>
 ae xv (qf 233 k i) s fun _ l=>
 ∃g:eF,al l k 0 g/\
 af xv 227 #[g] aK l fun p m=>
 aw xv (qt 49 1 #[(0,p)]) aK m fun c q=>
 aw xv (qq #[49,49] 49 #[b.1,c]) aK q fun a h8=>
 o ((⟨a.ptr,a.len,a.cap⟩:Sl),qc xq (b.2+1)) h8)
 (R b.1 h3)) ((⟨none,0,0⟩:Sl),(0:Int)) n
theorem Mg(a:aP)(b:di)(c:@FX R h a b):ab xv 265 #[a,b] h R:=ao ac func265 (ak.tn (ak.tn (.two (ak.tn (.inn (.loop [(5,ca),(12,aS)] [(5,6),(7,8),(12,22)] .n))) .n))) c
def NA(b:Sl):Prop:=
 aG (σ:=Int×Int) (fun c i e=>
 Br (c.2<(b.len:Int))
 (∃f,(b.ptr=some f/\0<=c.2/\c.2<(b.len:Int))/\
 ∃x3,cellOf e (f.add (c.2.toNat*1))=some (xk xr x3)/\
 aG (σ:=Int×Int) (fun a g d=>
 Br (a.2<8)
 ((0<=(1:Int))/\
 Br ((qc xt ((qu (qk xt) a.1&&&(qu (qk xt) (1:Int))).toNat:Nat))==1)
 (g (qc xt ((qu (qk xt) (qQ a.1 (2^min (1:Int).toNat (qk xt)))^^^(qu (qk xt) (3988292384:Int))).toNat:Nat),qc xq (a.2+1)) d)
 (g (qQ a.1 (2^min (1:Int).toNat (qk xt)),qc xq (a.2+1)) d))
 (i (a.1,qc xq (c.2+1)) d)) (qc xt ((qu (qk xt) c.1^^^(qu (qk xt) (qc xt x3))).toNat:Nat),(0:Int)) e)
 (R (xk xt (qc xt ((qu (qk xt) (4294967295:Int)^^^(qu (qk xt) c.1)).toNat:Nat))) e)) ((4294967295:Int),(0:Int)) h
theorem Td(a:Sl)(b:@NA R h a):ab xv 269 #[a] h R:=ao ac func269 (ak.tn (ak.tn (.two (ak.tn (.inn (.loop [(3,(.sc (.int .u32))),(9,aS)] [(3,4),(5,7),(9,29)] (ak.tn (ak.tn (.two (.inn (ak.tn (ak.tn (ak.tn (.inn (.loop [(3,(.sc (.int .u32))),(17,aS)] [(3,4),(6,7),(17,28)] .n)))))) .n)))))) .n))) b
def so(j:aP):Prop:=
 ∃p,(j=some p)/\
 ∃x2:Sl,cellOf h p=some (x2:Value)/\
 aG (σ:=Int) (fun e r l=>
 Br (e<(x2.len:Int))
 (∃a4,(x2.ptr=some a4/\0<=e/\e<(x2.len:Int))/\
 ∃n:Sl×Sl,al l (a4.add (e.toNat*2)) 0 n/\
 aO xv (qP 183 true (.tuple #[])) l fun m q=>
 ae xv (qf 183 m n) q fun _ h3=>
 ∃k:Sl,cellOf h3 m=some (k:Value)/\
 aG (σ:=Int×Int) (fun b o d=>
 Br (b.2<(k.len:Int))
 (∃a9,(k.ptr=some a9/\0<=b.2/\b.2<(k.len:Int))/\
 ∃a,cellOf d (a9.add (b.2.toNat*1))=some (xk xq a)/\
 ∃g,(j=some g)/\
 ∃c:Sl,cellOf d (g.add 1)=some (c:Value)/\
 ∃f,(c.ptr=some f/\0<=a/\a<(c.len:Int))/\
 ∃i:Bool,cellOf d (f.add (a.toNat*1))=some (xo i)/\
 Br (!i)
 (o (qc xq (b.1+1),qc xq (b.2+1)) d)
 (o (b.1,qc xq (b.2+1)) d))
 (Br (b.1==1)
 (R e d)
 (r (qc xq (e+1)) d))) ((0:Int),(0:Int)) h3)
 (R (xk xq (-1:Int)) l)) (0:Int) h
theorem Dl(a:aP)(b:@so R h a):ab xv 271 #[a] h R:=ao ac func271 (ak.tn (.two (ak.tn (.inn (.loop [(13,aS)] [(2,6),(7,8),(13,40)] (ak.tn (ak.tn (.two (.inn (ak.tn (ak.tn (.two (ak.tn (.inn (.loop [(5,aS),(21,aS)] [(5,6),(7,8),(21,36)] .n))) .n)))) .n)))))) .n)) b
def Ek(b:Int)(c:Sl):Prop:=
 aW (σ:=Unit) (fun _ o=>
 aG (σ:=Int) (fun e m g=>
 Br (e<(c.len:Int))
 (∃a3,(c.ptr=some a3/\0<=e/\e<(c.len:Int))/\
 ∃d:Sl,cellOf g (a3.add (e.toNat*1))=some (d:Value)/\
 aG (σ:=Int) (fun a i h3=>
 Br (a<(d.len:Int))
 (∃l,(d.ptr=some l/\0<=a/\a<(d.len:Int))/\
 ∃f,cellOf h3 (l.add (a.toNat*1))=some (xk xq f)/\
 Br (f<0) (R false h3) (Br (f>=b) (R false h3) (Br (a>0) (∃k,(d.ptr=some k/\0<=(qc xq (a-1))/\(qc xq (a-1))<(d.len:Int))/\
 ∃j:Int,cellOf h3 (k.add ((qc xq (a-1)).toNat*1))=some (xk xq j)/\
 Br (j>=f)
 (R false h3)
 (i (qc xq (a+1)) h3)) (i (qc xq (a+1)) h3))))
 (m (qc xq (e+1)) h3)) (0:Int) g)
 (R true g)) (0:Int) o)
 (fun n=>
 Br (b<0) (R false h) (Br (b>64)
 (R false h)
 (n () h)))
theorem Kz(a:Int)(b:Sl)(c:@Ek R h a b):ab xv 272 #[a,b] h R:=ao ac func272 (ak.tn (.two (.join [] [(4,5),(9,15)] .n) (.two (ak.tn (.inn (.loop [(17,aS)] [(4,5),(6,9),(17,50)] (ak.tn (ak.tn (.two (.inn (ak.tn (ak.tn (.inn (.loop [(23,aS)] [(4,5),(7,9),(23,49)] .n))))) .n)))))) .n))) c
def kF(b:Sl)(a:Bool):Prop:=
 af xv 314 #[b,a] bB h fun d c=>
 R (decide (d>=0)) c
theorem pI(b:Sl)(a:Bool)(c:@kF R h b a):ab xv 273 #[b,a] h R:=ao ac func273 .n c
def px(d:aP):Prop:=
 aO xv (qP 269 true (.tuple #[])) h fun i l=>
 ∃m,(d=some m)/\
 ∃x3:Sl,cellOf l m=some (x3:Value)/\
 aG (σ:=Int) (fun c o e=>
 Br (c<(x3.len:Int))
 (∃a5,(x3.ptr=some a5/\0<=c/\c<(x3.len:Int))/\
 ∃k:Sl,cellOf e (a5.add (c.toNat*1))=some (k:Value)/\
 ∃n,(d=some n)/\
 ∃j:Sl,cellOf e (n.add 2)=some (j:Value)/\
 ∃a9,(j.ptr=some a9/\0<=c/\c<(j.len:Int))/\
 ∃g:Bool,cellOf e (a9.add (c.toNat*1))=some (xo g)/\
 Br g
 (o (qc xq (c+1)) e)
 (af xv 315 #[d,k] (.many [aS,lL]) e fun f h3=>
 Br f.2
 (ae xv (qf 269 i (xp #[c,f.1])) h3 fun _ q=>
 ∃a:Int×Int,al q i 0 a/\
 R (.tuple #[a,true]) q)
 (o (qc xq (c+1)) h3)))
 (ae xv (qf 269 i (xp #[(xk xq 0),(xk xq 0)])) e fun _ p=>
 ∃b:Int×Int,al p i 0 b/\
 R (.tuple #[b,false]) p)) (0:Int) l
theorem AZ(a:aP)(b:@px R h a):ab xv 274 #[a] h R:=ao ac func274 (ak.tn (.two (ak.tn (.inn (.loop [(13,aS)] [(3,8),(13,36)] .n))) .n)) b
def py(d:aP):Prop:=
 ∃A,(d=some A)/\
 ∃x2:Sl,cellOf h (A.add 1)=some (x2:Value)/\
 aw xv (Instr.makeSlice 38 (xk xq (x2.len:Int)) (xk xq (x2.len:Int))) aK h fun v3 B=>
 ∃a4,(d=some a4)/\
 ∃x:Sl,cellOf B a4=some (x:Value)/\
 aG (σ:=Int) (fun e F w=>
 Br (e<(x.len:Int))
 (∃D,(x.ptr=some D/\0<=e/\e<(x.len:Int))/\
 ∃z:Sl,cellOf w (D.add (e.toNat*1))=some (z:Value)/\
 aG (σ:=Int) (fun i E h3=>
 Br (i<(z.len:Int))
 (∃j,(z.ptr=some j/\0<=i/\i<(z.len:Int))/\
 ∃b,cellOf h3 (j.add (i.toNat*1))=some (xk xq b)/\
 ∃p,(d=some p)/\
 ∃g:Sl,cellOf h3 (p.add 2)=some (g:Value)/\
 ∃l,(g.ptr=some l/\0<=e/\e<(g.len:Int))/\
 ∃v:Bool,cellOf h3 (l.add (e.toNat*1))=some (xo v)/\
 Br (!v)
 (∃n,(v3.ptr=some n/\0<=b/\b<(v3.len:Int))/\
 ∃r,cellOf h3 (n.add (b.toNat*1))=some (xk xq r)/\
 ∃s,(v3.ptr=some s/\0<=b/\b<(v3.len:Int))/\
 ae xv (qf 3 (s.add (b.toNat*1)) (qc xq (r+1))) h3 fun _ G=>
 E (qc xq (i+1)) G)
 (E (qc xq (i+1)) h3))
 (F (qc xq (e+1)) h3)) (0:Int) w)
 (∃t,(d=some t)/\
 ∃c:Sl,cellOf w (t.add 1)=some (c:Value)/\
 aG (σ:=Int×Int) (fun a y f=>
 Br (a.2<(c.len:Int))
 (∃a22,(c.ptr=some a22/\0<=a.2/\a.2<(c.len:Int))/\
 ∃u:Bool,cellOf f (a22.add (a.2.toNat*1))=some (xo u)/\
 Br u (Br (a.1<0) (y (a.2,qc xq (a.2+1)) f) (∃o,(v3.ptr=some o/\0<=a.2/\a.2<(v3.len:Int))/\
 ∃k,cellOf f (o.add (a.2.toNat*1))=some (xk xq k)/\
 ∃m,(v3.ptr=some m/\0<=a.1/\a.1<(v3.len:Int))/\
 ∃q,cellOf f (m.add (a.1.toNat*1))=some (xk xq q)/\
 Br (k>q)
 (y (a.2,qc xq (a.2+1)) f)
 (y (a.1,qc xq (a.2+1)) f))) (y (a.1,qc xq (a.2+1)) f))
 (R a.1 f)) ((-1:Int),(0:Int)) w)) (0:Int) B
theorem Ba(a:aP)(b:@py R h a):ab xv 275 #[a] h R:=ao ac func275 (ak.tn (ak.tn (.two (ak.tn (.inn (.loop [(22,aS)] [(4,6),(7,8),(22,49)] (ak.tn (ak.tn (.two (.inn (ak.tn (ak.tn (.inn (.loop [(29,aS)] [(7,8),(29,48)] .n))))) .n)))))) (ak.tn (.two (ak.tn (.inn (.loop [(8,aS),(54,aS)] [(8,11),(54,77)] .n))) .n))))) b
def ie(b:Sl)(a:cB):Prop:=
 aG (σ:=Int) (fun c g d=>
 Br (c<(b.len:Int))
 (∃e,(b.ptr=some e/\0<=c/\c<(b.len:Int))/\
 ∃x3:Int×Int,al d (e.add (c.toNat*2)) 0 x3/\
 hJ C a.1 (a.2.1.toList++[(xp #[x3.1,x3.2])]++a.2.2.toList) bJ d fun i f=>
 Br i
 (R c f)
 (g (qc xq (c+1)) f))
 (R (xk xq (-1:Int)) d)) (0:Int) h
theorem lC(b:Sl)(a:cB)(c:@ie R h b a):ab xv 276 #[b,(.func (.func a.1) a.2.1 a.2.2)] h R:=ao ac func276 (ak.tn (.two (ak.tn (.inn (.loop [(8,aS)] [(4,6),(8,19)] .n))) .n)) c
def md(a:Sl)(c:Int):Prop:=
 aG (σ:=Int) (fun b i e=>
 aW (σ:=Unit) (fun _ d=>
 ∃a3,(a.ptr=some a3/\0<=b/\b<(a.len:Int))/\
 ∃f,cellOf d (a3.add (b.toNat*1))=some (xk xq f)/\
 Br (f>c)
 (R (qc xq (b+1)) d)
 (i (qc xq (b+1)) d))
 (fun g=>
 Br (b<(a.len:Int)) (Br (c>=0)
 (g () e)
 (R (xk xq 0) e)) (R (xk xq 0) e))) (0:Int) h
theorem sU(a:Sl)(b:Int)(c:@md R h a b):ab xv 281 #[a,b] h R:=ao ac func281 (ak.tn (.two (ak.tn (.inn (.loop [(5,aS)] [(4,24)] (.two (.join [] [(6,14)] .n) .n)))) .n)) c
def kr(b:aP)(a:Int):Prop:=
 Br (a<=0)
 (R (xk xq 0) h)
 (af xv 212 #[b] (.one (.sc (.int .u32))) h fun d c=>
 ((qc xu a)≠0)/\
 R (qc xq (Int.tmod (qc xu d) (qc xu a))) c)
theorem pz(a:aP)(b:Int)(c:@kr R h a b):ab xv 282 #[a,b] h R:=ao ac func282 .n c
def KA(a:Int):Prop:=
 Br (a<0) (R (.complex .f64 0 0) h) (Br (a>=4096)
 (R (.complex .f64 0 0) h)
 (af xv 318 #[] mL h fun e g=>
 aG (σ:=Int) (fun d f c=>
 Br (d==a)
 (∃a3,(e=some a3)/\
 ∃b:Nat×Nat,cellOf c a3=some (.complex .f64 b.1 b.2)/\
 R (.complex .f64 b.1 b.2) c)
 (af xv 319 #[e] ic c fun _ h3=>
 f (qc xq (d+1)) h3)) (0:Int) g))
theorem QO(a:Int)(b:@KA R h a):ab xv 283 #[a] h R:=ao ac func283 (ak.tn (.scope 0 [(4,aS)] [(2,3),(4,5),(12,23)] [.n,.n,.n] [.n] [])) b
def Ib(c:Nat×Nat)(b:Nat×Nat):Prop:=
 ∃a:Nat×Nat,(jy xv .sub 341 (.tmp 6) (.tmp 7) (.complex .f64 c.1 c.2) (.complex .f64 b.1 b.2) (.complex .f64 a.1 a.2))/\
 ∃d:Nat,((FloatKind.format .f64).mul a.1 a.1=some d)/\
 ∃e:Nat,((FloatKind.format .f64).mul a.2 a.2=some e)/\
 ∃f:Nat,((FloatKind.format .f64).add d e=some f)/\
 R (.float .f64 f) h
theorem OE(a:Nat×Nat)(b:Nat×Nat)(c:@Ib R h a b):ab xv 284 #[(.complex .f64 a.1 a.2),(.complex .f64 b.1 b.2)] h R:=ao ac func284 .n c
def Aw(c:Int×Nat)(a:Int×Nat):Prop:=
 aO xv (qH 348 (xp #[c.1,(.float .f64 c.2)])) h fun g p=>
 aO xv (qH 348 (xp #[a.1,(.float .f64 a.2)])) p fun d b=>
 ∃x3:Nat,cellOf b (g.add 1)=some (.float .f64 x3)/\
 ∃m:Nat,cellOf b (d.add 1)=some (.float .f64 m)/\
 ∃f,cellOf b g=some (xk xq f)/\
 ∃i,cellOf b d=some (xk xq i)/\
 af xv 288 #[(.float .f64 x3),(.float .f64 m)] bB b fun n h3=>
 (aq.ok [(d,i),(g,f)] h3)/\
 af xv 289 #[f,i] bB h3 fun o k=>
 (aq.ok [] k)/\
 aw xv (qt 38 2 #[(0,n),(1,o)]) aK k fun v9 l=>
 (aq.ok [] l)/\
 af xv 287 #[v9] bB l fun e j=>
 (aq.ok [] j)/\
 R e j
theorem Hw(a:Int×Nat)(b:Int×Nat)(c:@Aw R h a b):ab xv 286 #[(xp #[a.1,(.float .f64 a.2)]),(xp #[b.1,(.float .f64 b.2)])] h R:=ao ac func286 .n c
def wb(a:Sl):Prop:=
 aG (σ:=Int) (fun b e c=>
 Br (b<(a.len:Int))
 (∃d,(a.ptr=some d/\0<=b/\b<(a.len:Int))/\
 ∃x3,cellOf c (d.add (b.toNat*1))=some (xk xq x3)/\
 Br (x3 !=0)
 (R x3 c)
 (e (qc xq (b+1)) c))
 (R (xk xq 0) c)) (0:Int) h
theorem BV(a:Sl)(b:@wb R h a):ab xv 287 #[a] h R:=ao ac func287 (ak.tn (ak.tn (.two (ak.tn (.inn (.loop [(8,aS)] [(2,3),(5,6),(8,17)] .n))) .n))) b
def oF(b:Nat)(a:Nat):Prop:=
 af xv 321 #[(.float .f64 b)] bJ h fun e f=>
 af xv 321 #[(.float .f64 a)] bJ f fun d c=>
 Br e
 (Br d
 (R (xk xq 0) c)
 (R (xk xq (-1:Int)) c))
 (Br d
 (R (xk xq 1) c)
 (Br ((FloatKind.format .f64).order b a==some .lt)
 (R (xk xq (-1:Int)) c)
 (Br ((FloatKind.format .f64).order b a==some .gt)
 (R (xk xq 1) c)
 (R (xk xq 0) c))))
theorem yP(b:Nat)(a:Nat)(c:@oF R h b a):ab xv 288 #[(.float .f64 b),(.float .f64 a)] h R:=ao ac func288 .n c
def mU(b:Int)(a:Int):Prop:=
 af xv 304 #[b] bJ h fun e f=>
 af xv 304 #[a] bJ f fun d c=>
 Br e
 (Br d
 (R (xk xq 0) c)
 (R (xk xq (-1:Int)) c))
 (Br d
 (R (xk xq 1) c)
 (Br (b<a)
 (R (xk xq (-1:Int)) c)
 (Br (b>a)
 (R (xk xq 1) c)
 (R (xk xq 0) c))))
theorem pQ(b:Int)(a:Int)(c:@mU R h b a):ab xv 289 #[b,a] h R:=ao ac func289 .n c
def FY(f:eF):Prop:=
 aO xv (qH 233 f) h fun b a=>
 aW (σ:=Bool) (fun o g=>
 Br o (∃j:bm,al g (b.add 3) 0 j/\
 af xv 18 #[j] bJ g fun i h3=>
 Br i (∃d:Sl,cellOf h3 (b.add 7)=some (d:Value)/\
 ∃e,cellOf h3 ((b.add 3).add 2)=some (xk xq e)/\
 R (xo ((d.len:Int)==e)) h3) (R false h3)) (R false g))
 (fun c=>
 ∃x2,cellOf a b=some (xk xq x2)/\
 Br (x2>=0) (∃x3,cellOf a b=some (xk xq x3)/\
 Br (x3<=16777215) (∃n,cellOf a (b.add 1)=some (xk xq n)/\
 Br (n>=0) (∃l,cellOf a (b.add 1)=some (xk xq l)/\
 Br (l<8) (∃m,cellOf a (b.add 2)=some (xk xq m)/\
 Br (m>=0) (∃k,cellOf a (b.add 2)=some (xk xq k)/\
 c (decide (k<=65535)) a) (c false a)) (c false a)) (c false a)) (c false a)) (c false a))
theorem Mh(a:eF)(b:@FY R h a):ab xv 290 #[a] h R:=ao ac func290 (ak.tn (.two (.join [(3,lL)] [(3,32)] .n) .n)) b
def Ax(a:Sl)(d:Int)(b:Int):Prop:=
 aG (σ:=Sl×Int) (fun c i e=>
 Br (c.2>=0)
 ((0<=(qc xq (8*c.2)))/\
 aw xv (qt 23 1 #[(0,(xk xr (qc xr (qQ d (2^min (qc xq (8*c.2)).toNat (qk xq))))))]) aK e fun g f=>
 aw xv (qq #[23,23] 23 #[c.1,g]) aK f fun v3 h3=>
 i ((⟨v3.ptr,v3.len,v3.cap⟩:Sl),qc xq (c.2-1)) h3)
 (R c.1 e)) ((⟨a.ptr,a.len,a.cap⟩:Sl),qc xq (b-1)) h
theorem Hx(b:Sl)(c:Int)(a:Int)(d:@Ax R h b c a):ab xv 291 #[b,c,a] h R:=ao ac func291 (ak.tn (.two (ak.tn (.inn (.loop [(0,ca),(7,aS)] [(0,1),(7,8),(10,22)] .n))) .n)) d
def iS(b:Sl)(y:Int)(B:Int)(g:Int)(a:cB):Prop:=
 aG (σ:=Tu8) (fun c A t=>
 Br ((qc xq (c.2.1-c.1))<=12)
 (af xv 322 #[b,c.1,c.2.1,(.func (.func a.1) a.2.1 a.2.2)] ic t fun _ L=>
 R (.tuple #[]) L)
 (Br (c.2.2.1==0)
 (af xv 323 #[b,c.1,c.2.1,(.func (.func a.1) a.2.1 a.2.2)] ic t fun _ h3=>
 R (.tuple #[]) h3)
 (aW (σ:=Int) (fun p M=>
 af xv 325 #[b,c.1,c.2.1,(.func (.func a.1) a.2.1 a.2.2)] (.many [aS,aS]) M fun s F=>
 aW (σ:=Int×Int) (fun k h8=>
 aW (σ:=Unit) (fun _ e=>
 aW (σ:=Int) (fun f D=>
 af xv 329 #[b,f,c.2.1,k.1,(.func (.func a.1) a.2.1 a.2.2)] (.many [aS,lL]) D fun d o=>
 ((8:Int)≠0)/\
 Br ((qc xq (d.1-f))<(qc xq (c.2.1-d.1)))
 (af xv 292 #[b,f,d.1,p,(.func (.func a.1) a.2.1 a.2.2)] ic o fun _ E=>
 A (qc xq (d.1+1),c.2.1,p,decide ((qc xq (d.1-f))>=(qc xq (z8 (qc xq (c.2.1-c.1)) 8))),d.2) E)
 (af xv 292 #[b,(qc xq (d.1+1)),c.2.1,p,(.func (.func a.1) a.2.1 a.2.2)] ic o fun _ x=>
 A (f,d.1,p,decide ((qc xq (c.2.1-d.1))>=(qc xq (z8 (qc xq (c.2.1-c.1)) 8))),d.2) x))
 (fun K=>
 aW (σ:=Bool) (fun u n=>
 Br u
 (af xv 328 #[b,c.1,c.2.1,k.1,(.func (.func a.1) a.2.1 a.2.2)] bB n fun v w=>
 A (v,c.2.1,p,c.2.2.2.1,c.2.2.2.2) w)
 (K c.1 n))
 (fun G=>
 Br (c.1>0) (∃m,(b.ptr=some m/\0<=(qc xq (c.1-1))/\(qc xq (c.1-1))<(b.len:Int))/\
 ∃i:jq,al e (m.add ((qc xq (c.1-1)).toNat*4)) 0 i/\
 ∃l,(b.ptr=some l/\0<=k.1/\k.1<(b.len:Int))/\
 ∃j:jq,al e (l.add (k.1.toNat*4)) 0 j/\
 hJ C a.1 (a.2.1.toList++[(xp #[i.1,i.2.1,i.2.2.1,i.2.2.2]),(xp #[j.1,j.2.1,j.2.2.1,j.2.2.2])]++a.2.2.toList) bB e fun z q=>
 (aq.ok [] q)/\
 G (!(decide (z<0))) q) ((aq.ok [] e)/\
 G false e))))
 (fun r=>
 Br c.2.2.2.1 (Br c.2.2.2.2 (Br (k.2==1)
 (af xv 327 #[b,c.1,c.2.1,(.func (.func a.1) a.2.1 a.2.2)] bJ h8 fun N J=>
 Br N
 (R (.tuple #[]) J)
 (r () J))
 (r () h8)) (r () h8)) (r () h8)))
 (fun H=>
 Br (s.2==2)
 (af xv 326 #[b,c.1,c.2.1,(.func (.func a.1) a.2.1 a.2.2)] ic F fun _ O=>
 H (qc xq ((qc xq (c.2.1-1))-(qc xq (s.1-c.1))),(1:Int)) O)
 (H (s.1,s.2) F)))
 (fun I=>
 Br (!c.2.2.2.1)
 (af xv 324 #[b,c.1,c.2.1,(.func (.func a.1) a.2.1 a.2.2)] ic t fun _ P=>
 I (qc xq (c.2.2.1-1)) P)
 (I c.2.2.1 t))))) (y,B,g,true,true) h
theorem mB(c:Sl)(d:Int)(e:Int)(b:Int)(a:cB)(f:@iS R h c d e b a):ab xv 292 #[c,d,e,b,(.func (.func a.1) a.2.1 a.2.2)] h R:=ao ac func292 (ak.tn (ak.tn (.inn (.loop [(1,aS),(2,aS),(3,aS),(10,lL),(11,lL)] [(1,4),(10,148)] (.inn (ak.tn (ak.tn (ak.tn (.two (.join [(3,aS)] [(3,4),(38,47)] .n) (ak.tn (.two (.join [(13,aS),(14,aS)] [(13,15),(55,68)] .n) (.two (.join [] [(68,81)] .n) (.two (.join [(1,aS)] [(1,2),(15,16),(81,105)] (.two (.join [(97,lL)] [(81,98)] .n) .n)) .n))))))))))))) f
def sq(a:ByteArray):Prop:=
 R (xo (!(a.toList==a.toList))) h
theorem Dm(a:ByteArray)(b:@sq R h a):ab xv 293 #[a] h R:=ao ac func293 .n b
def iz(b:Sl)(a:cB):Prop:=
 af xv 330 #[b,(.func (.func a.1) a.2.1 a.2.2)] bB h fun d c=>
 R (decide (d>=0)) c
theorem me(b:Sl)(a:cB)(c:@iz R h b a):ab xv 294 #[b,(.func (.func a.1) a.2.1 a.2.2)] h R:=ao ac func294 .n c
def BW(b:Sl)(a:Addr):Prop:=
 ∃c:Sl,cellOf h a=some (c:Value)/\
 af xv 187 #[b,c] bJ h fun d e=>
 R d e
theorem Jc(b:Sl)(a:Addr)(c:@BW R h b a):ab xv 295 #[b,a] h R:=ao ac func295 .n c
def El(a:Sl):Prop:=
 aG (σ:=Int×Int) (fun b e c=>
 Br (b.2<(a.len:Int))
 (∃d,(a.ptr=some d/\0<=b.2/\b.2<(a.len:Int))/\
 ∃x3,cellOf c (d.add (b.2.toNat*1))=some (xk xr x3)/\
 (0<=(8:Int))/\
 e (qc xq ((qu (qk xq) (qc xq (b.1*2^min (8:Int).toNat (qk xq)))|||(qu (qk xq) (qc xq x3))).toNat:Nat),qc xq (b.2+1)) c)
 (R b.1 c)) ((0:Int),(0:Int)) h
theorem KB(a:Sl)(b:@El R h a):ab xv 296 #[a] h R:=ao ac func296 (ak.tn (ak.tn (.two (ak.tn (.inn (.loop [(3,aS),(8,aS)] [(3,4),(5,6),(8,18)] .n))) .n))) b
def Ay(l:jq)(a:Addr):Prop:=
 aO xv (qH 170 l) h fun d b=>
 ∃x2,cellOf b (d.add 1)=some (xk xq x2)/\
 ∃x3,cellOf b a=some (xk xq x3)/\
 Br (x2==x3) (∃j:Sl,cellOf b (d.add 3)=some (j:Value)/\
 ∃i,cellOf b (a.add 1)=some (xk xq i)/\
 Br ((j.len:Int)>i) (∃m,cellOf b (a.add 6)=some (xk xt m)/\
 ∃o,cellOf b a=some (xk xq o)/\
 ∃p,cellOf b (a.add 1)=some (xk xq p)/\
 ∃g:Sl,cellOf b (d.add 3)=some (g:Value)/\
 ∃c,cellOf b (a.add 1)=some (xk xq c)/\
 ∃e,(g.ptr=some e/\0<=c/\c<(g.len:Int))/\
 ∃f,cellOf b (e.add (c.toNat*1))=some (xk xq f)/\
 af xv 160 #[o,p,f] (.one (.sc (.int .u32))) b fun k n=>
 (aq.ok [(a.add 1,c),(d.add 3,g),(a.add 6,(xk xt m)),(a.add 1,i),(d.add 3,j),(a,x3),(d.add 1,x2)] n)/\
 R (xo (m==k)) n) ((aq.ok [(a.add 1,i),(d.add 3,j),(a,x3),(d.add 1,x2)] b)/\
 R false b)) ((aq.ok [(a,x3),(d.add 1,x2)] b)/\
 R false b)
theorem Hy(b:jq)(a:Addr)(c:@Ay R h b a):ab xv 297 #[b,a] h R:=ao ac func297 .n c
def iT(b:Sl)(c:Int)(a:cB):Prop:=
 aG (σ:=Int×Int) (fun f o k=>
 Br (f.2<=c)
 (af xv 331 #[b,f.1,f.2,(.func (.func a.1) a.2.1 a.2.2)] ic k fun _ n=>
 o (f.2,qc xq (f.2+20)) n)
 (af xv 331 #[b,f.1,c,(.func (.func a.1) a.2.1 a.2.2)] ic k fun _ h3=>
 aG (σ:=Int) (fun e i j=>
 Br (e<c)
 (aG (σ:=Int×Int) (fun d m g=>
 Br (d.2<=c)
 (af xv 332 #[b,d.1,(qc xq (d.1+e)),d.2,(.func (.func a.1) a.2.1 a.2.2)] ic g fun _ l=>
 m (d.2,qc xq (d.2+(qc xq (2*e)))) l)
 (Br ((qc xq (d.1+e))<c)
 (af xv 332 #[b,d.1,(qc xq (d.1+e)),c,(.func (.func a.1) a.2.1 a.2.2)] ic g fun _ p=>
 i (qc xq (e*2)) p)
 (i (qc xq (e*2)) g))) ((0:Int),qc xq (2*e)) j)
 (R (.tuple #[]) j)) (20:Int) h3)) ((0:Int),(20:Int)) h
theorem mC(b:Sl)(c:Int)(a:cB)(d:@iT R h b c a):ab xv 298 #[b,c,(.func (.func a.1) a.2.1 a.2.2)] h R:=ao ac func298 (ak.tn (ak.tn (.two (.inn (.loop [(7,aS),(8,aS)] [(7,9),(11,23)] .n)) (ak.tn (.inn (.loop [(6,aS)] [(6,10),(28,63)] (ak.tn (.inn (ak.tn (.two (.inn (.loop [(7,aS),(8,aS)] [(7,9),(33,49)] .n)) .n)))))))))) d
def pA(a:Int):Prop:=
 R (xo (a !=a)) h
theorem tu(a:Int)(b:@pA R h a):ab xv 304 #[a] h R:=ao ac func304 .n b
def BX(a:Int):Prop:=
 af xv 255 #[a,(xk xq 0),(xk xq 15)] bJ h fun c b=>
 R (xo (!c)) b
theorem Jd(a:Int)(b:@BX R h a):ab xv 305 #[a] h R:=ao ac func305 .n b
def mf(a:Sl)(d:Bool):Prop:=
 aG (σ:=Int) (fun b f c=>
 Br (b<(a.len:Int))
 (∃e,(a.ptr=some e/\0<=b/\b<(a.len:Int))/\
 ∃x3:Bool,cellOf c (e.add (b.toNat*1))=some (xo x3)/\
 Br (d==x3)
 (R b c)
 (f (qc xq (b+1)) c))
 (R (xk xq (-1:Int)) c)) (0:Int) h
theorem sV(b:Sl)(a:Bool)(c:@mf R h b a):ab xv 314 #[b,a] h R:=ao ac func314 (ak.tn (.two (ak.tn (.inn (.loop [(8,aS)] [(4,6),(8,19)] .n))) .n)) c
def nu(e:aP)(b:Sl):Prop:=
 aG (σ:=bm) (fun a g c=>
 Br (a.2.2<(b.len:Int))
 (∃f,(b.ptr=some f/\0<=a.2.2/\a.2.2<(b.len:Int))/\
 ∃x3,cellOf c (f.add (a.2.2.toNat*1))=some (xk xq x3)/\
 ∃a4,(e=some a4)/\
 ∃d:Sl,cellOf c (a4.add 1)=some (d:Value)/\
 ∃i,(d.ptr=some i/\0<=x3/\x3<(d.len:Int))/\
 ∃j:Bool,cellOf c (i.add (x3.toNat*1))=some (xo j)/\
 Br j
 (g (x3,qc xq (a.2.1+1),qc xq (a.2.2+1)) c)
 (g (a.1,a.2.1,qc xq (a.2.2+1)) c))
 (R (.tuple #[a.1,(xo (a.2.1==1))]) c)) ((0:Int),(0:Int),(0:Int)) h
theorem wd(b:aP)(a:Sl)(c:@nu R h b a):ab xv 315 #[b,a] h R:=ao ac func315 (ak.tn (ak.tn (.two (ak.tn (.inn (.loop [(6,aS),(7,aS),(12,aS)] [(6,8),(9,10),(12,27)] .n))) .n))) c
def Em:Prop:=
 aO xv (qH 377 (xp #[(.complex .f64 0 0),(.complex .f64 4607182418800017408 0),(xk xq 1),(xk xq 1),false])) h fun a b=>
 R a b
theorem KC(a:@Em R h):ab xv 318 #[] h R:=ao ac func318 .n a
def tv(a:aP):Prop:=
 ∃B,(a=some B)/\
 ∃x2:Nat×Nat,cellOf h B=some (.complex .f64 x2.1 x2.2)/\
 ∃a3,(a=some a3)/\
 ∃r:Nat×Nat,cellOf h (a3.add 1)=some (.complex .f64 r.1 r.2)/\
 ∃z5:Nat×Nat,(jy xv .add 341 (.tmp 5) (.tmp 9) (.complex .f64 x2.1 x2.2) (.complex .f64 r.1 r.2) (.complex .f64 z5.1 z5.2))/\
 ∃v,(a=some v)/\
 ae xv (qf 341 v (.complex .f64 z5.1 z5.2)) h fun _ u=>
 (aq.ok [] u)/\
 ∃y,(a=some y)/\
 ∃w,cellOf u (y.add 2)=some (xk xq w)/\
 ∃a9,(a=some a9)/\
 ae xv (qf 3 (a9.add 2) (qc xq (w-1))) u fun _ s=>
 ∃c,(a=some c)/\
 ∃n,cellOf s (c.add 2)=some (xk xq n)/\
 Br (n>0)
 (R (.tuple #[]) s)
 (∃i,(a=some i)/\
 ∃b:Nat×Nat,cellOf s (i.add 1)=some (.complex .f64 b.1 b.2)/\
 af xv 345 #[(.complex .f64 b.1 b.2),(xk xq 1)] (.one (.sc (.cpx .f64))) s fun o h3=>
 ∃q,(a=some q)/\
 ae xv (qf 341 (q.add 1) (.complex .f64 o.1 o.2)) h3 fun _ t=>
 aW (σ:=Unit) (fun _ x=>
 ∃a22,(a=some a22)/\
 ∃m:Bool,cellOf x (a22.add 4)=some (xo m)/\
 ∃g,(a=some g)/\
 ae xv (qf 4 (g.add 4) (xo (!m))) x fun _ A=>
 ∃a25,(a=some a25)/\
 ∃f,cellOf A (a25.add 3)=some (xk xq f)/\
 ∃j,(a=some j)/\
 ae xv (qf 3 (j.add 2) f) A fun _ h8=>
 R (.tuple #[]) h8)
 (fun z=>
 ∃d,(a=some d)/\
 ∃k:Bool,cellOf t (d.add 4)=some (xo k)/\
 Br k
 (∃l,(a=some l)/\
 ∃e,cellOf t (l.add 3)=some (xk xq e)/\
 ∃p,(a=some p)/\
 ae xv (qf 3 (p.add 3) (qc xq (e+1))) t fun _ D=>
 z () D)
 (z () t)))
theorem EC(a:aP)(b:@tv R h a):ab xv 319 #[a] h R:=ao ac func319 (ak.tn (ak.tn (ak.tn (ak.tn (.two (.join [] [(33,44)] .n) .n))))) b
def pR(a:Nat):Prop:=
 R (xo ((FloatKind.format .f64).order a a !=some .eq)) h
theorem BY(a:Nat)(b:@pR R h a):ab xv 321 #[(.float .f64 a)] h R:=ao ac func321 .n b
def gw(a:Sl)(j:Int)(o:Int)(c:cB):Prop:=
 aG (σ:=Int) (fun n s r=>
 Br (n<o)
 (aG (σ:=Int) (fun b v k=>
 aW (σ:=Unit) (fun _ p=>
 ∃a9,(a.ptr=some a9/\0<=(qc xq (b-1))/\(qc xq (b-1))<(a.len:Int))/\
 ∃m:jq,al p (a9.add ((qc xq (b-1)).toNat*4)) 0 m/\
 ∃i,(a.ptr=some i/\0<=b/\b<(a.len:Int))/\
 ∃l:jq,al p (i.add (b.toNat*4)) 0 l/\
 ∃g,(a.ptr=some g/\0<=b/\b<(a.len:Int))/\
 ae xv (qf 170 (g.add (b.toNat*4)) m) p fun _ t=>
 (aq.ok [] t)/\
 ∃e,(a.ptr=some e/\0<=(qc xq (b-1))/\(qc xq (b-1))<(a.len:Int))/\
 ae xv (qf 170 (e.add ((qc xq (b-1)).toNat*4)) l) t fun _ q=>
 (aq.ok [] q)/\
 v (qc xq (b-1)) q)
 (fun w=>
 Br (b>j) (∃a3,(a.ptr=some a3/\0<=b/\b<(a.len:Int))/\
 ∃d:jq,al k (a3.add (b.toNat*4)) 0 d/\
 ∃a5,(a.ptr=some a5/\0<=(qc xq (b-1))/\(qc xq (b-1))<(a.len:Int))/\
 ∃f:jq,al k (a5.add ((qc xq (b-1)).toNat*4)) 0 f/\
 hJ C c.1 (c.2.1.toList++[(xp #[d.1,d.2.1,d.2.2.1,d.2.2.2]),(xp #[f.1,f.2.1,f.2.2.1,f.2.2.2])]++c.2.2.toList) bB k fun u h3=>
 (aq.ok [] h3)/\
 Br (u<0)
 (w () h3)
 (s (qc xq (n+1)) h3)) ((aq.ok [] k)/\
 s (qc xq (n+1)) k))) n r)
 (R (.tuple #[]) r)) (qc xq (j+1)) h
theorem kA(b:Sl)(c:Int)(d:Int)(a:cB)(e:@gw R h b c d a):ab xv 322 #[b,c,d,(.func (.func a.1) a.2.1 a.2.2)] h R:=ao ac func322 (ak.tn (.inn (.loop [(8,aS)] [(8,10),(12,53)] (ak.tn (.two (.inn (ak.tn (.inn (.loop [(9,aS)] [(9,10),(18,53)] (.two (.join [] [(18,35)] .n) .n))))) .n))))) e
end
end Go.Qw
