/- Lemmas. -/
import Derived.Test.YtadfimdanpoafaaGreatDoorTabA
set_option linter.unusedVariables false
open Go.Proofs.Tryz renaming prog -> xx
open Go.Value renaming agg -> xr, bool -> xq, int -> xl, slice -> xn
open Go.IntKind renaming bits -> qk, i64 -> xt, u8 -> xu, wrap -> qc
open Go.Instr renaming alloc -> qK, makeSlice -> qF, storeAt -> qf
open Int renaming tmod -> z7
open BitVec renaming ofInt -> qC
open Option renaming isNone -> ze
open Go.Proofs.Tryz
set_option maxRecDepth 1000000
namespace Go.Qw
noncomputable section
open Go Go.Vc Go.Proofs
variable {R:AX} {h:Heap}
def Gm(c:Sl)(b:Int)(a:Int):Prop:=
 aJ (σ:=Int) (fun d i e=>
 Br (d>=(c.len:Int))
 (R (xl xt (-1:Int)) e)
 (∃g,(c.ptr=some g/\0<=d/\d<(c.len:Int))/\
 ∃x3:Sl,cellOf e (g.add (d.toNat*1))=some (x3:Value)/\
 ∃a4,(x3.ptr=some a4/\0<=a/\a<(x3.len:Int))/\
 ∃f,cellOf e (a4.add (a.toNat*1))=some (xl xu f)/\
 Br (f !=0)
 (R d e)
 (i (qc xt (d+1)) e))) b h
theorem Na(c:Sl)(b:Int)(a:Int)(d:@Gm R h c b a):ac xx 355 #[c,b,a] h R:=au ae func355 (an.tn (.scope 0 [(7,aZ)] [(6,8),(9,24)] [.n] [.n] [(1,[.n])])) d
def Iz(e:aO)(d:Int)(a:Sl):Prop:=
 af xx 401 #[e] jp h fun j o=>
 az xx (qF 35 (xl xt (a.len:Int)) (xl xt (a.len:Int))) aH o fun c n=>
 aJ (σ:=Int) (fun b k h3=>
 Br (b<(a.len:Int))
 (∃a4,(a.ptr=some a4/\0<=b/\b<(a.len:Int))/\
 ∃f,cellOf h3 (a4.add (b.toNat*1))=some (xl xu f)/\
 af xx 320 #[j,(xl xu d),(xl xu f)] (.one (.sc (.int .u8))) h3 fun m i=>
 ∃g,(c.ptr=some g/\0<=b/\b<(c.len:Int))/\
 ag xx (qf 5 (g.add (b.toNat*1)) (xl xu m)) i fun _ l=>
 k (qc xt (b+1)) l)
 (R c h3)) (0:Int) n
theorem Pa(c:aO)(b:Int)(a:Sl)(d:@Iz R h c b a):ac xx 356 #[c,(xl xu b),a] h R:=au ae func356 (an.tn (an.tn (an.tn (.two (an.tn (.inn (.loop [(17,aZ)] [(8,10),(17,30)] .n))) .n)))) d
def Cl(b:aO)(a:Int):Prop:=
 Br (a==0)
 (R (xl xu 0) h)
 (af xx 389 #[b] jp h fun d c=>
 ∃f,(d=some f)/\
 (0<=a/\a<((256:Nat):Int))/\
 ∃x3,cellOf c ((f.add 255).add (a.toNat*1))=some (xl xt x3)/\
 ((255:Int)≠0)/\
 ∃a4,(d=some a4)/\
 (0<=(z7 (qc xt (255-x3)) 255)/\(z7 (qc xt (255-x3)) 255)<((255:Nat):Int))/\
 ∃e:Int,cellOf c (a4.add ((z7 (qc xt (255-x3)) 255).toNat*1))=some (xl xu e)/\
 R (xl xu e) c)
theorem Jq(b:aO)(a:Int)(c:@Cl R h b a):ac xx 357 #[b,(xl xu a)] h R:=au ae func357 .n c
def NY(f:aO)(d:Int)(c:Sl)(a:Sl):Prop:=
 Br (d==0)
 (R (.tuple #[]) h)
 (aJ (σ:=Int) (fun b l e=>
 Br (b<(c.len:Int))
 (∃k,(c.ptr=some k/\0<=b/\b<(c.len:Int))/\
 ∃x3,cellOf e (k.add (b.toNat*1))=some (xl xu x3)/\
 ∃a4,(a.ptr=some a4/\0<=b/\b<(a.len:Int))/\
 ∃g,cellOf e (a4.add (b.toNat*1))=some (xl xu g)/\
 af xx 320 #[f,(xl xu d),(xl xu x3)] (.one (.sc (.int .u8))) e fun m i=>
 (av.ok [(a4.add (b.toNat*1),(xl xu g))] i)/\
 ∃j,(a.ptr=some j/\0<=b/\b<(a.len:Int))/\
 ag xx (qf 5 (j.add (b.toNat*1)) (xl xu (qc xu ((qC (qk xu) g^^^(qC (qk xu) m)).toNat:Nat)))) i fun _ h3=>
 (av.ok [] h3)/\
 l (qc xt (b+1)) h3)
 (R (.tuple #[]) e)) (0:Int) h)
theorem SV(d:aO)(b:Int)(c:Sl)(a:Sl)(e:@NY R h d b c a):ac xx 358 #[d,(xl xu b),c,a] h R:=au ae func358 (an.tn (an.tn (.inn (.loop [(14,aZ)] [(8,10),(14,30)] .n)))) e
def kF(a:Sl)(b:cA):Prop:=
 aJ (σ:=Int) (fun c g d=>
 Br (c<(a.len:Int))
 (∃f,(a.ptr=some f/\0<=c/\c<(a.len:Int))/\
 ∃x3,cellOf d (f.add (c.toNat*1))=some (xl xu x3)/\
 gb C b.1 (b.2.1.toList++[(xl xu x3)]++b.2.2.toList) bE d fun i e=>
 Br i
 (R c e)
 (g (qc xt (c+1)) e))
 (R (xl xt (-1:Int)) d)) (0:Int) h
theorem pu(b:Sl)(a:cA)(c:@kF R h b a):ac xx 359 #[b,(.func (.func a.1) a.2.1 a.2.2)] h R:=au ae func359 (an.tn (.two (an.tn (.inn (.loop [(8,aZ)] [(4,6),(8,19)] .n))) .n)) c
def Gn(a:Int):Prop:=
 R (xq (a !=0)) h
theorem Nb(a:Int)(b:@Gn R h a):ac xx 360 #[(xl xu a)] h R:=au ae func360 .n b
def Lg(c:Int)(b:Int):Prop:=
 aJ (σ:=bH) (fun a j d=>
 Br (a.2.1==0)
 (R (xl xu a.2.2) d)
 (bf (σ:=Int) (fun k g=>
 (0<=(1:Int))/\
 bf (σ:=Int) (fun i h3=>
 (0<=(1:Int))/\
 j (i,Int.fdiv a.2.1 (2^min (1:Int).toNat (qk xu)),k) h3)
 (fun e=>
 Br ((qc xu ((qC (qk xu) a.1&&&(qC (qk xu) (128:Int))).toNat:Nat)) !=0)
 (e (qc xu ((qC (qk xu) (qc xu (a.1*2^min (1:Int).toNat (qk xu)))^^^(qC (qk xu) (27:Int))).toNat:Nat)) g)
 (e (qc xu (a.1*2^min (1:Int).toNat (qk xu))) g)))
 (fun f=>
 Br ((qc xu ((qC (qk xu) a.2.1&&&(qC (qk xu) (1:Int))).toNat:Nat))==1)
 (f (qc xu ((qC (qk xu) a.2.2^^^(qC (qk xu) a.1)).toNat:Nat)) d)
 (f a.2.2 d)))) (c,b,(0:Int)) h
theorem Ra(b:Int)(a:Int)(c:@Lg R h b a):ac xx 361 #[(xl xu b),(xl xu a)] h R:=au ae func361 (an.tn (.scope 0 [(0,(.sc (.int .u8))),(1,(.sc (.int .u8))),(5,(.sc (.int .u8)))] [(0,2),(4,26)] [.n] [(an.tn (.two (.join [(5,(.sc (.int .u8)))] [(5,6),(10,16)] .n) (an.tn (an.tn (.two (.join [(0,(.sc (.int .u8)))] [(0,1),(21,24)] .n) .n)))))] [])) c
def Lh(b:Int)(a:Int):Prop:=
 bf (σ:=Unit) (fun _ f=>
 az xx (qF 35 b b) aH f fun c e=>
 ∃a3,(c.ptr=some a3/\0<=a/\a<(c.len:Int))/\
 ag xx (qf 5 (a3.add (a.toNat*1)) (xl xu 1)) e fun _ h3=>
 R c h3)
 (fun d=>
 Br (b<1) (R (xn none 0 0) h) (Br (b>64) (R (xn none 0 0) h) (Br (a<0) (R (xn none 0 0) h) (Br (a>=b)
 (R (xn none 0 0) h)
 (d () h)))))
theorem Rb(b:Int)(a:Int)(c:@Lh R h b a):ac xx 362 #[b,a] h R:=au ae func362 (an.tn (.two (.join [] [(4,5),(6,21)] .n) .n)) c
def Cm(b:aO)(a:Int):Prop:=
 ((255:Int)≠0)/\
 bf (σ:=Int) (fun c i=>
 af xx 389 #[b] jp i fun g f=>
 ∃a3,(g=some a3)/\
 (0<=c/\c<((255:Nat):Int))/\
 ∃d,cellOf f (a3.add (c.toNat*1))=some (xl xu d)/\
 R (xl xu d) f)
 (fun e=>
 Br ((z7 a 255)<0)
 (e (qc xt ((z7 a 255)+255)) h)
 (e (z7 a 255) h))
theorem Jr(b:aO)(a:Int)(c:@Cm R h b a):ac xx 363 #[b,a] h R:=au ae func363 (an.tn (an.tn (.two (.join [(1,aZ)] [(1,2),(7,11)] .n) .n))) c
def Gp(b:Nat×Nat)(d:Int):Prop:=
 ((4:Int)≠0)/\
 ((4:Int)≠0)/\
 aJ (σ:=((Nat×Nat))×Int) (fun a f e=>
 Br (decide (a.2<(z7 (qc xt ((z7 d 4)+4)) 4)))
 (∃c:Nat×Nat,(kr xx .mul 242 (.tmp 11) (.const (.complex .f64 0 4607182418800017408)) (.complex .f64 a.1.1 a.1.2) (.complex .f64 0 4607182418800017408) (.complex .f64 c.1 c.2))/\
 f ((c.1,c.2),qc xt (a.2+1)) e)
 (R (.complex .f64 a.1.1 a.1.2) e)) ((b.1,b.2),(0:Int)) h
theorem Nc(a:Nat×Nat)(b:Int)(c:@Gp R h a b):ac xx 364 #[(.complex .f64 a.1 a.2),b] h R:=au ae func364 (an.tn (.two (an.tn (.inn (.loop [(0,(.sc (.cpx .f64))),(9,aZ)] [(0,1),(9,14)] .n))) .n)) c
def Gq(d:aO)(b:Sl):Prop:=
 af xx 277 #[b] bE h fun g e=>
 Br (!g)
 (R (xn none 0 0) e)
 (af xx 279 #[b] aH e fun a j=>
 af xx 281 #[d] jp j fun l h3=>
 af xx 278 #[a] bt h3 fun k f=>
 af xx 280 #[l,a,k] bt f fun c i=>
 (0<=c/\c<=(a.cap:Int))/\
 R (xn a.ptr c.toNat a.cap) i)
theorem Nd(b:aO)(a:Sl)(c:@Gq R h b a):ac xx 378 #[b,a] h R:=au ae func378 .n c
def sF(i:aO):Prop:=
 ∃p,(i=some p)/\
 ∃x2:Sl,cellOf h p=some (x2:Value)/\
 aJ (σ:=Int) (fun e r l=>
 Br (e<(x2.len:Int))
 (∃a4,(x2.ptr=some a4/\0<=e/\e<(x2.len:Int))/\
 ∃n:Sl×Sl,aj l (a4.add (e.toNat*2)) 0 n/\
 aK xx (qK 263 true (.tuple #[])) l fun m q=>
 ag xx (qf 263 m n) q fun _ h3=>
 ∃k:Sl,cellOf h3 m=some (k:Value)/\
 aJ (σ:=Int×Int) (fun b o c=>
 Br (b.2<(k.len:Int))
 (∃a9,(k.ptr=some a9/\0<=b.2/\b.2<(k.len:Int))/\
 ∃a,cellOf c (a9.add (b.2.toNat*1))=some (xl xt a)/\
 ∃f,(i=some f)/\
 ∃d:Sl,cellOf c (f.add 1)=some (d:Value)/\
 ∃j,(d.ptr=some j/\0<=a/\a<(d.len:Int))/\
 ∃g:Bool,cellOf c (j.add (a.toNat*1))=some (xq g)/\
 Br (!g)
 (o (qc xt (b.1+1),qc xt (b.2+1)) c)
 (o (b.1,qc xt (b.2+1)) c))
 (Br (b.1==1)
 (R e c)
 (r (qc xt (e+1)) c))) ((0:Int),(0:Int)) h3)
 (R (xl xt (-1:Int)) l)) (0:Int) h
theorem Dz(a:aO)(b:@sF R h a):ac xx 379 #[a] h R:=au ae func379 (an.tn (.two (an.tn (.inn (.loop [(13,aZ)] [(2,6),(7,8),(13,40)] (an.tn (an.tn (.two (.inn (an.tn (an.tn (.two (an.tn (.inn (.loop [(5,aZ),(21,aZ)] [(5,6),(7,8),(21,36)] .n))) .n)))) .n)))))) .n)) b
def Ex(c:Int)(b:Sl):Prop:=
 bf (σ:=Unit) (fun _ o=>
 aJ (σ:=Int) (fun e n g=>
 Br (e<(b.len:Int))
 (∃a3,(b.ptr=some a3/\0<=e/\e<(b.len:Int))/\
 ∃d:Sl,cellOf g (a3.add (e.toNat*1))=some (d:Value)/\
 aJ (σ:=Int) (fun a k h3=>
 Br (a<(d.len:Int))
 (∃j,(d.ptr=some j/\0<=a/\a<(d.len:Int))/\
 ∃f,cellOf h3 (j.add (a.toNat*1))=some (xl xt f)/\
 Br (f<0) (R false h3) (Br (f>=c) (R false h3) (Br (a>0) (∃l,(d.ptr=some l/\0<=(qc xt (a-1))/\(qc xt (a-1))<(d.len:Int))/\
 ∃i:Int,cellOf h3 (l.add ((qc xt (a-1)).toNat*1))=some (xl xt i)/\
 Br (i>=f)
 (R false h3)
 (k (qc xt (a+1)) h3)) (k (qc xt (a+1)) h3))))
 (n (qc xt (e+1)) h3)) (0:Int) g)
 (R true g)) (0:Int) o)
 (fun m=>
 Br (c<0) (R false h) (Br (c>64)
 (R false h)
 (m () h)))
theorem Li(a:Int)(b:Sl)(c:@Ex R h a b):ac xx 380 #[a,b] h R:=au ae func380 (an.tn (.two (.join [] [(4,5),(9,15)] .n) (.two (an.tn (.inn (.loop [(17,aZ)] [(4,5),(6,9),(17,50)] (an.tn (an.tn (.two (.inn (an.tn (an.tn (.inn (.loop [(23,aZ)] [(4,5),(7,9),(23,49)] .n))))) .n)))))) .n))) c
def kO(b:Sl)(a:Bool):Prop:=
 af xx 406 #[b,a] bt h fun c d=>
 R (decide (c>=0)) d
theorem pK(b:Sl)(a:Bool)(c:@kO R h b a):ac xx 381 #[b,a] h R:=au ae func381 .n c
def pv(d:aO):Prop:=
 aK xx (qK 347 true (.tuple #[])) h fun i q=>
 ∃m,(d=some m)/\
 ∃x3:Sl,cellOf q m=some (x3:Value)/\
 aJ (σ:=Int) (fun c o e=>
 Br (c<(x3.len:Int))
 (∃a5,(x3.ptr=some a5/\0<=c/\c<(x3.len:Int))/\
 ∃k:Sl,cellOf e (a5.add (c.toNat*1))=some (k:Value)/\
 ∃n,(d=some n)/\
 ∃j:Sl,cellOf e (n.add 2)=some (j:Value)/\
 ∃a9,(j.ptr=some a9/\0<=c/\c<(j.len:Int))/\
 ∃g:Bool,cellOf e (a9.add (c.toNat*1))=some (xq g)/\
 Br g
 (o (qc xt (c+1)) e)
 (af xx 407 #[d,k] (.many [aZ,mg]) e fun f h3=>
 Br f.2
 (ag xx (qf 347 i (xr #[c,f.1])) h3 fun _ l=>
 ∃b:Int×Int,aj l i 0 b/\
 R (.tuple #[b,true]) l)
 (o (qc xt (c+1)) h3)))
 (ag xx (qf 347 i (xr #[(xl xt 0),(xl xt 0)])) e fun _ p=>
 ∃a:Int×Int,aj p i 0 a/\
 R (.tuple #[a,false]) p)) (0:Int) q
theorem Bt(a:aO)(b:@pv R h a):ac xx 382 #[a] h R:=au ae func382 (an.tn (.two (an.tn (.inn (.loop [(13,aZ)] [(3,8),(13,36)] .n))) .n)) b
def px(d:aO):Prop:=
 ∃D,(d=some D)/\
 ∃x2:Sl,cellOf h (D.add 1)=some (x2:Value)/\
 az xx (qF 22 (xl xt (x2.len:Int)) (xl xt (x2.len:Int))) aH h fun v3 E=>
 ∃a4,(d=some a4)/\
 ∃w:Sl,cellOf E a4=some (w:Value)/\
 aJ (σ:=Int) (fun f G x=>
 Br (f<(w.len:Int))
 (∃B,(w.ptr=some B/\0<=f/\f<(w.len:Int))/\
 ∃z:Sl,cellOf x (B.add (f.toNat*1))=some (z:Value)/\
 aJ (σ:=Int) (fun i A h3=>
 Br (i<(z.len:Int))
 (∃m,(z.ptr=some m/\0<=i/\i<(z.len:Int))/\
 ∃b,cellOf h3 (m.add (i.toNat*1))=some (xl xt b)/\
 ∃l,(d=some l)/\
 ∃g:Sl,cellOf h3 (l.add 2)=some (g:Value)/\
 ∃r,(g.ptr=some r/\0<=f/\f<(g.len:Int))/\
 ∃v:Bool,cellOf h3 (r.add (f.toNat*1))=some (xq v)/\
 Br (!v)
 (∃o,(v3.ptr=some o/\0<=b/\b<(v3.len:Int))/\
 ∃j,cellOf h3 (o.add (b.toNat*1))=some (xl xt j)/\
 ∃q,(v3.ptr=some q/\0<=b/\b<(v3.len:Int))/\
 ag xx (qf 3 (q.add (b.toNat*1)) (qc xt (j+1))) h3 fun _ F=>
 A (qc xt (i+1)) F)
 (A (qc xt (i+1)) h3))
 (G (qc xt (f+1)) h3)) (0:Int) x)
 (∃p,(d=some p)/\
 ∃c:Sl,cellOf x (p.add 1)=some (c:Value)/\
 aJ (σ:=Int×Int) (fun a y e=>
 Br (a.2<(c.len:Int))
 (∃a22,(c.ptr=some a22/\0<=a.2/\a.2<(c.len:Int))/\
 ∃k:Bool,cellOf e (a22.add (a.2.toNat*1))=some (xq k)/\
 Br k (Br (a.1<0) (y (a.2,qc xt (a.2+1)) e) (∃s,(v3.ptr=some s/\0<=a.2/\a.2<(v3.len:Int))/\
 ∃t,cellOf e (s.add (a.2.toNat*1))=some (xl xt t)/\
 ∃u,(v3.ptr=some u/\0<=a.1/\a.1<(v3.len:Int))/\
 ∃n,cellOf e (u.add (a.1.toNat*1))=some (xl xt n)/\
 Br (t>n)
 (y (a.2,qc xt (a.2+1)) e)
 (y (a.1,qc xt (a.2+1)) e))) (y (a.1,qc xt (a.2+1)) e))
 (R a.1 e)) ((-1:Int),(0:Int)) x)) (0:Int) E
theorem Bu(a:aO)(b:@px R h a):ac xx 383 #[a] h R:=au ae func383 (an.tn (an.tn (.two (an.tn (.inn (.loop [(22,aZ)] [(4,6),(7,8),(22,49)] (an.tn (an.tn (.two (.inn (an.tn (an.tn (.inn (.loop [(29,aZ)] [(7,8),(29,48)] .n))))) .n)))))) (an.tn (.two (an.tn (.inn (.loop [(8,aZ),(54,aZ)] [(8,11),(54,77)] .n))) .n))))) b
def iz(a:Sl)(b:cA):Prop:=
 aJ (σ:=Int) (fun c g d=>
 Br (c<(a.len:Int))
 (∃f,(a.ptr=some f/\0<=c/\c<(a.len:Int))/\
 ∃x3:Int×Int,aj d (f.add (c.toNat*2)) 0 x3/\
 gb C b.1 (b.2.1.toList++[(xr #[x3.1,x3.2])]++b.2.2.toList) bE d fun i e=>
 Br i
 (R c e)
 (g (qc xt (c+1)) e))
 (R (xl xt (-1:Int)) d)) (0:Int) h
theorem lJ(b:Sl)(a:cA)(c:@iz R h b a):ac xx 384 #[b,(.func (.func a.1) a.2.1 a.2.2)] h R:=au ae func384 (an.tn (.two (an.tn (.inn (.loop [(8,aZ)] [(4,6),(8,19)] .n))) .n)) c
def Cn(a:aO):Prop:=
 Br (ze a)
 (af xx 212 #[] jp h fun b c=>
 R b c)
 (R a h)
theorem Js(a:aO)(b:@Cn R h a):ac xx 389 #[a] h R:=au ae func389 .n b
def Co(b:Int):Prop:=
 aJ (σ:=Int) (fun a d c=>
 Br ((qc xt (a*a))<b)
 (d (qc xt (a+1)) c)
 (R a c)) (0:Int) h
theorem Jt(a:Int)(b:@Co R h a):ac xx 390 #[a] h R:=au ae func390 (an.tn (an.tn (.two (.inn (.loop [(3,aZ)] [(3,11)] .n)) .n))) b
def ja(b:Sl)(f:Int)(d:Int)(e:Int)(a:cA):Prop:=
 aJ (σ:=Int×Int) (fun c i g=>
 Br (c.1 !=c.2)
 (Br (c.1>c.2)
 (af xx 410 #[b,(qc xt (d-c.1)),d,c.2,(.func (.func a.1) a.2.1 a.2.2)] gF g fun _ k=>
 i (qc xt (c.1-c.2),c.2) k)
 (af xx 410 #[b,(qc xt (d-c.1)),(qc xt ((qc xt (d+c.2))-c.1)),c.1,(.func (.func a.1) a.2.1 a.2.2)] gF g fun _ h3=>
 i (c.1,qc xt (c.2-c.1)) h3))
 (af xx 410 #[b,(qc xt (d-c.1)),d,c.1,(.func (.func a.1) a.2.1 a.2.2)] gF g fun _ j=>
 R (.tuple #[]) j)) (qc xt (d-f),qc xt (e-d)) h
theorem mM(b:Sl)(e:Int)(c:Int)(d:Int)(a:cA)(f:@ja R h b e c d a):ac xx 391 #[b,e,c,d,(.func (.func a.1) a.2.1 a.2.2)] h R:=au ae func391 (an.tn (an.tn (.two (.inn (.loop [(10,aZ),(11,aZ)] [(10,12),(18,50)] .n)) .n))) f
def Lj(a:aO):Prop:=
 Br (ze a)
 (af xx 212 #[] jp h fun b c=>
 R b c)
 (R a h)
theorem Rc(a:aO)(b:@Lj R h a):ac xx 401 #[a] h R:=au ae func401 .n b
def mu(a:Sl)(d:Bool):Prop:=
 aJ (σ:=Int) (fun b f c=>
 Br (b<(a.len:Int))
 (∃e,(a.ptr=some e/\0<=b/\b<(a.len:Int))/\
 ∃x3:Bool,cellOf c (e.add (b.toNat*1))=some (xq x3)/\
 Br (d==x3)
 (R b c)
 (f (qc xt (b+1)) c))
 (R (xl xt (-1:Int)) c)) (0:Int) h
theorem te(b:Sl)(a:Bool)(c:@mu R h b a):ac xx 406 #[b,a] h R:=au ae func406 (an.tn (.two (an.tn (.inn (.loop [(8,aZ)] [(4,6),(8,19)] .n))) .n)) c
end
end Go.Qw
