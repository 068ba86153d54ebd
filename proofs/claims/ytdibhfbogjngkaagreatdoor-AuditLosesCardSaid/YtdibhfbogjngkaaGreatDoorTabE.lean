/- Lemmas for the proof of the law; no condition. -/
import Derived.Test.YtdibhfbogjngkaaGreatDoorTabA
set_option linter.unusedVariables false
open Go.Proofs.Tryz renaming prog -> xR
open Go.IntKind renaming bits -> qk, i64 -> xN, u32 -> xP, u64 -> xQ, wrap -> qc
open Int renaming fdiv -> qX, tdiv -> wH, tmod -> wB
open Go.Value renaming agg -> xM, bool -> xL, int -> xH
open Option renaming isNone -> qW
open Go.Instr renaming alloc -> qK, storeAt -> qf
open Go.Proofs.Tryz
set_option maxRecDepth 1000000
namespace Go.Qw
noncomputable section
open Go Go.Vc Go.Proofs
variable {R:Kr} {h:Heap}
def uB(b:aT)(a:Int):Prop:=
 bi (σ:=Unit) (λ_ e=>
 ae xR 224 #[b] (.one (.sc (.int .u32))) e λf c=>
 ((qc xQ a)≠0)/\
 R (qc xN (wB (qc xQ f) (qc xQ a))) c)
 (λd=>
 Br (qW b) (R (xH xN 0) h) (Br (a<=0)
 (R (xH xN 0) h)
 (d () h)))
theorem Ge(a:aT)(b:Int)(c:@uB R h a b):ac xR 282 #[a,b] h R:=au af func282 (al.tn (.two (.join [] [(4,11)] .n) .n)) c
def AC(a:Int)(b:Int):Prop:=
 ae xR 316 #[a] bz h λc i=>
 (a≠0)/\
 bi (σ:=Int) (λf d=>
 bi (σ:=Int) (λk j=>
 R k j)
 (λe=>
 (c≠0)/\
 Br (b<(qc xN (wH a c)))
 (((qc xN (a*b))≠0)/\
 e (qc xN (f+(qc xN (wH (qc xN (1048576*c)) (qc xN (a*b)))))) d)
 (Br (b==(qc xN (wH a c)))
 (ae xR 187 #[(xH xQ (qc xQ c))] bz d λl h3=>
 (a≠0)/\
 e (qc xN (f+(qc xN (wH (qc xN ((qc xN (1048576*c))*l)) a)))) h3)
 (e f d))))
 (λg=>
 Br (b>1)
 (((qc xN (b*(qc xN (b-1))))≠0)/\
 g (qc xN (wH 1048576 (qc xN (b*(qc xN (b-1)))))) i)
 (g (qc xN (wH 1048576 a)) i))
theorem HO(a:Int)(b:Int)(c:@AC R h a b):ac xR 283 #[a,b] h R:=au af func283 (al.tn (al.tn (al.tn (.two (.join [(6,ba)] [(6,7),(12,19)] .n) (.two (.join [(6,ba)] [(6,8),(19,48)] .n) .n))))) c
def HQ(b:Nat×Nat)(d:Int):Prop:=
 ((4:Int)≠0)/\
 ((4:Int)≠0)/\
 aM (σ:=((Nat×Nat))×Int) (λa f e=>
 Br (decide (a.2<(wB (qc xN ((wB d 4)+4)) 4)))
 (∃c:Nat×Nat,(ke xR .mul 235 (.tmp 11) (.const (.complex .f64 0 4607182418800017408)) (.complex .f64 a.1.1 a.1.2) (.complex .f64 0 4607182418800017408) (.complex .f64 c.1 c.2))/\
 f ((c.1,c.2),qc xN (a.2+1)) e)
 (R (.complex .f64 a.1.1 a.1.2) e)) ((b.1,b.2),(0:Int)) h
theorem OT(a:Nat×Nat)(b:Int)(c:@HQ R h a b):ac xR 284 #[(.complex .f64 a.1 a.2),b] h R:=au af func284 (al.tn (.two (al.tn (.inn (.loop [(0,(.sc (.cpx .f64))),(9,ba)] [(0,1),(9,14)] .n))) .n)) c
def gV(a:Sl)(g:Int)(p:Int)(b:cI):Prop:=
 aM (σ:=Int) (λk s r=>
 Br (k<p)
 (aM (σ:=Int) (λc v f=>
 bi (σ:=Unit) (λ_ l=>
 aR a (qc xN (c-1)) λa9=>
 ∃i:eZ,an l (a9.add ((qc xN (c-1)).toNat*8)) 0 i/\
 aR a c λm=>
 ∃j:eZ,an l (m.add (c.toNat*8)) 0 j/\
 aR a c λo=>
 ag xR (qf 170 (o.add (c.toNat*8)) i) l λ_ t=>
 (aA.ok [] t)/\
 aR a (qc xN (c-1)) λn=>
 ag xR (qf 170 (n.add ((qc xN (c-1)).toNat*8)) j) t λ_ q=>
 (aA.ok [] q)/\
 v (qc xN (c-1)) q)
 (λu=>
 Br (c>g) (aR a c λa3=>
 ∃e:eZ,an f (a3.add (c.toNat*8)) 0 e/\
 aR a (qc xN (c-1)) λa5=>
 ∃d:eZ,an f (a5.add ((qc xN (c-1)).toNat*8)) 0 d/\
 ia C b.1 (b.2.1.toList++[(xM #[e.1,e.2.1,e.2.2.1,e.2.2.2.1,e.2.2.2.2.1,e.2.2.2.2.2.1,(xH xP e.2.2.2.2.2.2.1),e.2.2.2.2.2.2.2]),(xM #[d.1,d.2.1,d.2.2.1,d.2.2.2.1,d.2.2.2.2.1,d.2.2.2.2.2.1,(xH xP d.2.2.2.2.2.2.1),d.2.2.2.2.2.2.2])]++b.2.2.toList) bz f λw h3=>
 (aA.ok [] h3)/\
 Br (w<0)
 (u () h3)
 (s (qc xN (k+1)) h3)) ((aA.ok [] f)/\
 s (qc xN (k+1)) f))) k r)
 (R (.tuple #[]) r)) (qc xN (g+1)) h
theorem lu(b:Sl)(c:Int)(d:Int)(a:cI)(e:@gV R h b c d a):ac xR 300 #[b,c,d,(.func (.func a.1) a.2.1 a.2.2)] h R:=au af func300 (al.tn (.inn (.loop [(8,ba)] [(8,10),(12,53)] (al.tn (.two (.inn (al.tn (.inn (.loop [(9,ba)] [(9,10),(18,53)] (.two (.join [] [(18,35)] .n) .n))))) .n))))) e
def iR(a:Sl)(d:Int)(e:Int)(f:Int)(b:cI):Prop:=
 Br ((qc xN (e-d))==1)
 (aM (σ:=Int×Int) (λo K1 A=>
 Br (o.1<o.2)
 ((0<=(1:Int))/\
 aR a (qc xN (qX (qc xQ (qc xN (o.1+o.2))) (2^min (1:Int).toNat (qk xQ)))) λa2=>
 ∃x3:eZ,an A (a2.add ((qc xN (qX (qc xQ (qc xN (o.1+o.2))) (2^min (1:Int).toNat (qk xQ)))).toNat*8)) 0 x3/\
 aR a d λa4=>
 ∃q:eZ,an A (a4.add (d.toNat*8)) 0 q/\
 ia C b.1 (b.2.1.toList++[(xM #[x3.1,x3.2.1,x3.2.2.1,x3.2.2.2.1,x3.2.2.2.2.1,x3.2.2.2.2.2.1,(xH xP x3.2.2.2.2.2.2.1),x3.2.2.2.2.2.2.2]),(xM #[q.1,q.2.1,q.2.2.1,q.2.2.2.1,q.2.2.2.2.1,q.2.2.2.2.2.1,(xH xP q.2.2.2.2.2.2.1),q.2.2.2.2.2.2.2])]++b.2.2.toList) bz A λr6 B=>
 (aA.ok [] B)/\
 Br (r6<0)
 (K1 (qc xN ((qc xN (qX (qc xQ (qc xN (o.1+o.2))) (2^min (1:Int).toNat (qk xQ))))+1),o.2) B)
 (K1 (o.1,qc xN (qX (qc xQ (qc xN (o.1+o.2))) (2^min (1:Int).toNat (qk xQ)))) B))
 (aM (σ:=Int) (λp K2 h3=>
 Br (p<(qc xN (o.1-1)))
 (aR a (qc xN (p+1)) λa8=>
 ∃X:eZ,an h3 (a8.add ((qc xN (p+1)).toNat*8)) 0 X/\
 aR a p λG=>
 ∃x:eZ,an h3 (G.add (p.toNat*8)) 0 x/\
 aR a p λM=>
 ag xR (qf 170 (M.add (p.toNat*8)) X) h3 λ_ Y=>
 (aA.ok [] Y)/\
 aR a (qc xN (p+1)) λN=>
 ag xR (qf 170 (N.add ((qc xN (p+1)).toNat*8)) x) Y λ_ h5=>
 (aA.ok [] h5)/\
 K2 (qc xN (p+1)) h5)
 (R (.tuple #[]) h3)) d A)) (e,f) h)
 (Br ((qc xN (f-e))==1)
 (aM (σ:=Int×Int) (λg K3 z=>
 Br (g.1<g.2)
 ((0<=(1:Int))/\
 aR a e λP=>
 ∃k:eZ,an z (P.add (e.toNat*8)) 0 k/\
 aR a (qc xN (qX (qc xQ (qc xN (g.1+g.2))) (2^min (1:Int).toNat (qk xQ)))) λE=>
 ∃j:eZ,an z (E.add ((qc xN (qX (qc xQ (qc xN (g.1+g.2))) (2^min (1:Int).toNat (qk xQ)))).toNat*8)) 0 j/\
 ia C b.1 (b.2.1.toList++[(xM #[k.1,k.2.1,k.2.2.1,k.2.2.2.1,k.2.2.2.2.1,k.2.2.2.2.2.1,(xH xP k.2.2.2.2.2.2.1),k.2.2.2.2.2.2.2]),(xM #[j.1,j.2.1,j.2.2.1,j.2.2.2.1,j.2.2.2.2.1,j.2.2.2.2.2.1,(xH xP j.2.2.2.2.2.2.1),j.2.2.2.2.2.2.2])]++b.2.2.toList) bz z λD L=>
 (aA.ok [] L)/\
 Br (!(decide (D<0)))
 (K3 (qc xN ((qc xN (qX (qc xQ (qc xN (g.1+g.2))) (2^min (1:Int).toNat (qk xQ))))+1),g.2) L)
 (K3 (g.1,qc xN (qX (qc xQ (qc xN (g.1+g.2))) (2^min (1:Int).toNat (qk xQ)))) L))
 (aM (σ:=Int) (λi K4 h8=>
 Br (i>g.1)
 (aR a (qc xN (i-1)) λO=>
 ∃w:eZ,an h8 (O.add ((qc xN (i-1)).toNat*8)) 0 w/\
 aR a i λF=>
 ∃u:eZ,an h8 (F.add (i.toNat*8)) 0 u/\
 aR a i λa25=>
 ag xR (qf 170 (a25.add (i.toNat*8)) w) h8 λ_ h9=>
 (aA.ok [] h9)/\
 aR a (qc xN (i-1)) λQ=>
 ag xR (qf 170 (Q.add ((qc xN (i-1)).toNat*8)) u) h9 λ_ y=>
 (aA.ok [] y)/\
 K4 (qc xN (i-1)) y)
 (R (.tuple #[]) h8)) e z)) (d,e) h)
 ((0<=(1:Int))/\
 bi (σ:=Int×Int) (λv W=>
 aM (σ:=Int×Int) (λc Z n=>
 Br (c.1<c.2)
 ((0<=(1:Int))/\
 aR a (qc xN ((qc xN ((qc xN ((qc xN (qX (qc xQ (qc xN (d+f))) (2^min (1:Int).toNat (qk xQ))))+e))-1))-(qc xN (qX (qc xQ (qc xN (c.1+c.2))) (2^min (1:Int).toNat (qk xQ)))))) λH=>
 ∃m:eZ,an n (H.add ((qc xN ((qc xN ((qc xN ((qc xN (qX (qc xQ (qc xN (d+f))) (2^min (1:Int).toNat (qk xQ))))+e))-1))-(qc xN (qX (qc xQ (qc xN (c.1+c.2))) (2^min (1:Int).toNat (qk xQ)))))).toNat*8)) 0 m/\
 aR a (qc xN (qX (qc xQ (qc xN (c.1+c.2))) (2^min (1:Int).toNat (qk xQ)))) λK=>
 ∃l:eZ,an n (K.add ((qc xN (qX (qc xQ (qc xN (c.1+c.2))) (2^min (1:Int).toNat (qk xQ)))).toNat*8)) 0 l/\
 ia C b.1 (b.2.1.toList++[(xM #[m.1,m.2.1,m.2.2.1,m.2.2.2.1,m.2.2.2.2.1,m.2.2.2.2.2.1,(xH xP m.2.2.2.2.2.2.1),m.2.2.2.2.2.2.2]),(xM #[l.1,l.2.1,l.2.2.1,l.2.2.2.1,l.2.2.2.2.1,l.2.2.2.2.2.1,(xH xP l.2.2.2.2.2.2.1),l.2.2.2.2.2.2.2])]++b.2.2.toList) bz n λT r=>
 (aA.ok [] r)/\
 Br (!(decide (T<0)))
 (Z (qc xN ((qc xN (qX (qc xQ (qc xN (c.1+c.2))) (2^min (1:Int).toNat (qk xQ))))+1),c.2) r)
 (Z (c.1,qc xN (qX (qc xQ (qc xN (c.1+c.2))) (2^min (1:Int).toNat (qk xQ)))) r))
 (bi (σ:=Unit) (λ_ t=>
 bi (σ:=Unit) (λ_ s=>
 Br (decide ((qc xN (qX (qc xQ (qc xN (d+f))) (2^min (1:Int).toNat (qk xQ))))<(qc xN ((qc xN ((qc xN (qX (qc xQ (qc xN (d+f))) (2^min (1:Int).toNat (qk xQ))))+e))-c.1)))) (Br (decide ((qc xN ((qc xN ((qc xN (qX (qc xQ (qc xN (d+f))) (2^min (1:Int).toNat (qk xQ))))+e))-c.1))<f))
 (ae xR 301 #[a,(qc xN (qX (qc xQ (qc xN (d+f))) (2^min (1:Int).toNat (qk xQ)))),(qc xN ((qc xN ((qc xN (qX (qc xQ (qc xN (d+f))) (2^min (1:Int).toNat (qk xQ))))+e))-c.1)),f,(.func (.func b.1) b.2.1 b.2.2)] hJ s λ_ V=>
 R (.tuple #[]) V)
 (R (.tuple #[]) s)) (R (.tuple #[]) s))
 (λI=>
 Br (d<c.1) (Br (decide (c.1<(qc xN (qX (qc xQ (qc xN (d+f))) (2^min (1:Int).toNat (qk xQ))))))
 (ae xR 301 #[a,d,c.1,(qc xN (qX (qc xQ (qc xN (d+f))) (2^min (1:Int).toNat (qk xQ)))),(.func (.func b.1) b.2.1 b.2.2)] hJ t λ_ S=>
 I () S)
 (I () t)) (I () t)))
 (λU=>
 Br (c.1<e) (Br (decide (e<(qc xN ((qc xN ((qc xN (qX (qc xQ (qc xN (d+f))) (2^min (1:Int).toNat (qk xQ))))+e))-c.1))))
 (ae xR 322 #[a,c.1,e,(qc xN ((qc xN ((qc xN (qX (qc xQ (qc xN (d+f))) (2^min (1:Int).toNat (qk xQ))))+e))-c.1)),(.func (.func b.1) b.2.1 b.2.2)] hJ n λ_ J=>
 U () J)
 (U () n)) (U () n)))) (v.1,v.2) W)
 (λK5=>
 Br (decide (e>(qc xN (qX (qc xQ (qc xN (d+f))) (2^min (1:Int).toNat (qk xQ))))))
 (K5 (qc xN ((qc xN ((qc xN (qX (qc xQ (qc xN (d+f))) (2^min (1:Int).toNat (qk xQ))))+e))-f),qc xN (qX (qc xQ (qc xN (d+f))) (2^min (1:Int).toNat (qk xQ)))) h)
 (K5 (d,e) h))))
theorem mJ(b:Sl)(d:Int)(e:Int)(c:Int)(a:cI)(f:@iR R h b d e c a):ac xR 301 #[b,d,e,c,(.func (.func a.1) a.2.1 a.2.2)] h R:=au af func301 (.two (al.tn (.two (al.tn (al.tn (.two (.inn (.loop [(10,ba),(11,ba)] [(10,13),(31,54)] .n)) (.two (al.tn (.inn (.loop [(13,ba)] [(13,14),(55,77)] .n))) .n)))) .n)) (.two (al.tn (.two (al.tn (al.tn (.two (.inn (.loop [(14,ba),(15,ba)] [(14,17),(83,107)] .n)) (.two (al.tn (.inn (.loop [(17,ba)] [(17,18),(108,129)] .n))) .n)))) .n)) (al.tn (al.tn (al.tn (.two (.join [(20,ba),(21,ba)] [(20,22),(138,147)] .n) (al.tn (.two (.inn (.loop [(20,ba),(21,ba)] [(20,22),(23,24),(149,175)] .n)) (al.tn (.two (.join [] [(178,192)] .n) (.two (.join [] [(192,206)] .n) .n))))))))))) f
def MR(a:aT):Prop:=
 Br (qW a)
 (ae xR 65 #[] jo h λb c=>
 R b c)
 (R a h)
theorem TH(a:aT)(b:@MR R h a):ac xR 302 #[a] h R:=au af func302 .n b
def tC(d:aT):Prop:=
 ∃n,(d=some n)/\
 bn h n λx2=>
 aM (σ:=Int) (λe r i=>
 Br (e<(x2.len:Int))
 (aR x2 e λa4=>
 ∃l:Sl×Sl,an i (a4.add (e.toNat*2)) 0 l/\
 aU xR (qK 275 true (.tuple #[])) i λp q=>
 ag xR (qf 275 p l) q λ_ h3=>
 bn h3 p λm=>
 aM (σ:=Int×Int) (λa o b=>
 Br (a.2<(m.len:Int))
 (aR m a.2 λa9=>
 bf b (a9.add (a.2.toNat*1)) λf=>
 ∃c,(d=some c)/\
 bn b (c.add 1) λk=>
 aR k f λg=>
 rC b (g.add (f.toNat*1)) λj=>
 Br (!j)
 (o (qc xN (a.1+1),qc xN (a.2+1)) b)
 (o (a.1,qc xN (a.2+1)) b))
 (Br (a.1==1)
 (R e b)
 (r (qc xN (e+1)) b))) ((0:Int),(0:Int)) h3)
 (R (xH xN (-1:Int)) i)) (0:Int) h
theorem EJ(a:aT)(b:@tC R h a):ac xR 306 #[a] h R:=au af func306 (al.tn (.two (al.tn (.inn (.loop [(13,ba)] [(2,6),(7,8),(13,40)] (al.tn (al.tn (.two (.inn (al.tn (al.tn (.two (al.tn (.inn (.loop [(5,ba),(21,ba)] [(5,6),(7,8),(21,36)] .n))) .n)))) .n)))))) .n)) b
def FO(b:Int)(c:Sl):Prop:=
 bi (σ:=Unit) (λ_ m=>
 aM (σ:=Int) (λd j e=>
 Br (d<(c.len:Int))
 (aR c d λa3=>
 bn e (a3.add (d.toNat*1)) λg=>
 aM (σ:=Int) (λa i h3=>
 Br (a<(g.len:Int))
 (aR g a λn=>
 bf h3 (n.add (a.toNat*1)) λf=>
 Br (f<0) (R false h3) (Br (f>=b) (R false h3) (Br (a>0) (aR g (qc xN (a-1)) λo=>
 bf h3 (o.add ((qc xN (a-1)).toNat*1)) λk=>
 Br (k>=f)
 (R false h3)
 (i (qc xN (a+1)) h3)) (i (qc xN (a+1)) h3))))
 (j (qc xN (d+1)) h3)) (0:Int) e)
 (R true e)) (0:Int) m)
 (λl=>
 Br (b<0) (R false h) (Br (b>64)
 (R false h)
 (l () h)))
theorem MS(a:Int)(b:Sl)(c:@FO R h a b):ac xR 307 #[a,b] h R:=au af func307 (al.tn (.two (.join [] [(4,5),(9,15)] .n) (.two (al.tn (.inn (.loop [(17,ba)] [(4,5),(6,9),(17,50)] (al.tn (al.tn (.two (.inn (al.tn (al.tn (.inn (.loop [(23,ba)] [(4,5),(7,9),(23,49)] .n))))) .n)))))) .n))) c
def lK(b:Sl)(a:Bool):Prop:=
 ae xR 324 #[b,a] bz h λc d=>
 R (decide (c>=0)) d
theorem ry(a:Sl)(b:Bool)(c:@lK R h a b):ac xR 308 #[a,b] h R:=au af func308 .n c
def rh(d:aT):Prop:=
 aU xR (qK 332 true (.tuple #[])) h λg l=>
 ∃n,(d=some n)/\
 bn l n λx3=>
 aM (σ:=Int) (λc m e=>
 Br (c<(x3.len:Int))
 (aR x3 c λa5=>
 bn e (a5.add (c.toNat*1)) λq=>
 ∃k,(d=some k)/\
 bn e (k.add 2) λp=>
 aR p c λa9=>
 rC e (a9.add (c.toNat*1)) λi=>
 Br i
 (m (qc xN (c+1)) e)
 (ae xR 325 #[d,q] (.many [ba,jp]) e λf h3=>
 Br f.2
 (ag xR (qf 332 g (xM #[c,f.1])) h3 λ_ j=>
 ∃a:Int×Int,an j g 0 a/\
 R (.tuple #[a,true]) j)
 (m (qc xN (c+1)) h3)))
 (ag xR (qf 332 g (xM #[(xH xN 0),(xH xN 0)])) e λ_ o=>
 ∃b:Int×Int,an o g 0 b/\
 R (.tuple #[b,false]) o)) (0:Int) l
theorem Cz(a:aT)(b:@rh R h a):ac xR 309 #[a] h R:=au af func309 (al.tn (.two (al.tn (.inn (.loop [(13,ba)] [(3,8),(13,36)] .n))) .n)) b
def ri(b:aT):Prop:=
 ∃B,(b=some B)/\
 bn h (B.add 1) λx2=>
 az xR (Instr.makeSlice 22 (xH xN (x2.len:Int)) (xH xN (x2.len:Int))) aL h λv3 A=>
 ∃a4,(b=some a4)/\
 bn A a4 λy=>
 aM (σ:=Int) (λe G k=>
 Br (e<(y.len:Int))
 (aR y e λF=>
 bn k (F.add (e.toNat*1)) λz=>
 aM (σ:=Int) (λf D h3=>
 Br (f<(z.len:Int))
 (aR z f λp=>
 bf h3 (p.add (f.toNat*1)) λc=>
 ∃g,(b=some g)/\
 bn h3 (g.add 2) λr=>
 aR r e λo=>
 rC h3 (o.add (e.toNat*1)) λs=>
 Br (!s)
 (aR v3 c λx=>
 bf h3 (x.add (c.toNat*1)) λm=>
 aR v3 c λw=>
 ag xR (qf 3 (w.add (c.toNat*1)) (qc xN (m+1))) h3 λ_ E=>
 D (qc xN (f+1)) E)
 (D (qc xN (f+1)) h3))
 (G (qc xN (e+1)) h3)) (0:Int) k)
 (∃j,(b=some j)/\
 bn k (j.add 1) λi=>
 aM (σ:=Int×Int) (λa l d=>
 Br (a.2<(i.len:Int))
 (aR i a.2 λa22=>
 rC d (a22.add (a.2.toNat*1)) λv=>
 Br v (Br (a.1<0) (l (a.2,qc xN (a.2+1)) d) (aR v3 a.2 λn=>
 bf d (n.add (a.2.toNat*1)) λu=>
 aR v3 a.1 λt=>
 bf d (t.add (a.1.toNat*1)) λq=>
 Br (u>q)
 (l (a.2,qc xN (a.2+1)) d)
 (l (a.1,qc xN (a.2+1)) d))) (l (a.1,qc xN (a.2+1)) d))
 (R a.1 d)) ((-1:Int),(0:Int)) k)) (0:Int) A
theorem CB(a:aT)(b:@ri R h a):ac xR 310 #[a] h R:=au af func310 (al.tn (al.tn (.two (al.tn (.inn (.loop [(22,ba)] [(4,6),(7,8),(22,49)] (al.tn (al.tn (.two (.inn (al.tn (al.tn (.inn (.loop [(29,ba)] [(7,8),(29,48)] .n))))) .n)))))) (al.tn (.two (al.tn (.inn (.loop [(8,ba),(54,ba)] [(8,11),(54,77)] .n))) .n))))) b
def iG(b:Sl)(a:cI):Prop:=
 aM (σ:=Int) (λc f d=>
 Br (c<(b.len:Int))
 (aR b c λg=>
 ∃x3:Int×Int,an d (g.add (c.toNat*2)) 0 x3/\
 ia C a.1 (a.2.1.toList++[(xM #[x3.1,x3.2])]++a.2.2.toList) bK d λi e=>
 Br i
 (R c e)
 (f (qc xN (c+1)) e))
 (R (xH xN (-1:Int)) d)) (0:Int) h
theorem mA(b:Sl)(a:cI)(c:@iG R h b a):ac xR 311 #[b,(.func (.func a.1) a.2.1 a.2.2)] h R:=au af func311 (al.tn (.two (al.tn (.inn (.loop [(8,ba)] [(4,6),(8,19)] .n))) .n)) c
def Du(b:Int):Prop:=
 aM (σ:=Int) (λa d c=>
 Br ((qc xN (a*a))<b)
 (d (qc xN (a+1)) c)
 (R a c)) (0:Int) h
theorem KZ(a:Int)(b:@Du R h a):ac xR 316 #[a] h R:=au af func316 (al.tn (al.tn (.two (.inn (.loop [(3,ba)] [(3,11)] .n)) .n))) b
def jt(b:Sl)(f:Int)(d:Int)(e:Int)(a:cI):Prop:=
 aM (σ:=Int×Int) (λc i g=>
 Br (c.1 !=c.2)
 (Br (c.1>c.2)
 (ae xR 329 #[b,(qc xN (d-c.1)),d,c.2,(.func (.func a.1) a.2.1 a.2.2)] hJ g λ_ j=>
 i (qc xN (c.1-c.2),c.2) j)
 (ae xR 329 #[b,(qc xN (d-c.1)),(qc xN ((qc xN (d+c.2))-c.1)),c.1,(.func (.func a.1) a.2.1 a.2.2)] hJ g λ_ h3=>
 i (c.1,qc xN (c.2-c.1)) h3))
 (ae xR 329 #[b,(qc xN (d-c.1)),d,c.1,(.func (.func a.1) a.2.1 a.2.2)] hJ g λ_ k=>
 R (.tuple #[]) k)) (qc xN (d-f),qc xN (e-d)) h
theorem nA(b:Sl)(d:Int)(e:Int)(c:Int)(a:cI)(f:@jt R h b d e c a):ac xR 322 #[b,d,e,c,(.func (.func a.1) a.2.1 a.2.2)] h R:=au af func322 (al.tn (al.tn (.two (.inn (.loop [(10,ba),(11,ba)] [(10,12),(18,50)] .n)) .n))) f
def na(a:Sl)(d:Bool):Prop:=
 aM (σ:=Int) (λb e c=>
 Br (b<(a.len:Int))
 (aR a b λf=>
 rC c (f.add (b.toNat*1)) λx3=>
 Br (d==x3)
 (R b c)
 (e (qc xN (b+1)) c))
 (R (xH xN (-1:Int)) c)) (0:Int) h
theorem uf(a:Sl)(b:Bool)(c:@na R h a b):ac xR 324 #[a,b] h R:=au af func324 (al.tn (.two (al.tn (.inn (.loop [(8,ba)] [(4,6),(8,19)] .n))) .n)) c
def oh(d:aT)(c:Sl):Prop:=
 aM (σ:=bJ) (λa e b=>
 Br (a.2.2<(c.len:Int))
 (aR c a.2.2 λg=>
 bf b (g.add (a.2.2.toNat*1)) λx3=>
 ∃a4,(d=some a4)/\
 bn b (a4.add 1) λj=>
 aR j x3 λi=>
 rC b (i.add (x3.toNat*1)) λf=>
 Br f
 (e (x3,qc xN (a.2.1+1),qc xN (a.2.2+1)) b)
 (e (a.1,a.2.1,qc xN (a.2.2+1)) b))
 (R (.tuple #[a.1,(xL (a.2.1==1))]) b)) ((0:Int),(0:Int),(0:Int)) h
theorem AD(a:aT)(b:Sl)(c:@oh R h a b):ac xR 325 #[a,b] h R:=au af func325 (al.tn (al.tn (.two (al.tn (.inn (.loop [(6,ba),(7,ba),(12,ba)] [(6,8),(9,10),(12,27)] .n))) .n))) c
def iH(a:Sl)(c:Int)(d:Int)(g:Int)(f:cI):Prop:=
 aM (σ:=Int) (λb k e=>
 Br (b<g)
 (aR a (qc xN (d+b)) λl=>
 ∃x3:eZ,an e (l.add ((qc xN (d+b)).toNat*8)) 0 x3/\
 aR a (qc xN (c+b)) λa4=>
 ∃j:eZ,an e (a4.add ((qc xN (c+b)).toNat*8)) 0 j/\
 aR a (qc xN (c+b)) λm=>
 ag xR (qf 170 (m.add ((qc xN (c+b)).toNat*8)) x3) e λ_ i=>
 (aA.ok [] i)/\
 aR a (qc xN (d+b)) λn=>
 ag xR (qf 170 (n.add ((qc xN (d+b)).toNat*8)) j) i λ_ h3=>
 (aA.ok [] h3)/\
 k (qc xN (b+1)) h3)
 (R (.tuple #[]) e)) (0:Int) h
theorem mB(b:Sl)(c:Int)(d:Int)(e:Int)(a:cI)(f:@iH R h b c d e a):ac xR 329 #[b,c,d,e,(.func (.func a.1) a.2.1 a.2.2)] h R:=au af func329 (al.tn (.inn (.loop [(10,ba)] [(10,38)] .n))) f
end
end Go.Qw
