/- Lemmas for the proof of the law; no condition. -/
import Derived.Test.YtdibhfbogjngkaaGreatDoorTabA
set_option linter.unusedVariables false
open Go.Proofs.Tryz renaming prog -> xR
open Option renaming isNone -> qW
open Go.Value renaming agg -> xM, bool -> xL, int -> xH, pointer -> xJ, slice -> xI, string -> xK
open Go.Instr renaming alloc -> qK, box -> qO, buildSlice -> qq, makeSlice -> qF, storeAt -> qf
open Go.IntKind renaming bits -> qk, i64 -> xN, u32 -> xP, u8 -> xO, wrap -> qc
open Int renaming fdiv -> qX, tdiv -> wH
open Go.Builtin renaming append_ -> qt, clear_ -> yy, copy_ -> wJ
open BitVec renaming ofInt -> qD
open Go.Proofs.Tryz
set_option maxRecDepth 1000000
open Option renaming some -> dB, none -> eH
open Bool renaming true -> eL, false -> eR
namespace Go.Qw
noncomputable section
open Go Go.Vc Go.Proofs
variable {R:Kr} {h:Heap}
def My(a:Sl):Prop:=
 ae xR 208 #[a,(.func (.func 209) #[] #[])] bz h λb c=>
 R b c
theorem TA(a:Sl)(b:@My R h a):ac xR 139 #[a] h R:=au af func139 .n b
def uw(a:aT):Prop:=
 Br (qW a)
 (R (xJ eH) h)
 (∃b,(a=dB b)/\
 jI h b λx2=>
 ∃a3,(a=dB a3)/\
 bf h (a3.add 1) λc=>
 ae xR 210 #[a] aL h λf e=>
 (aA.ok [(a3.add 1,c),(b,x2)] e)/\
 aU xR (qO 200 (xM #[x2,c,f])) e λg d=>
 (aA.ok [(a3.add 1,c),(b,x2)] d)/\
 R g d)
theorem Ga(a:aT)(b:@uw R h a):ac xR 140 #[a] h R:=au af func140 .n b
def Au(a:aT):Prop:=
 Br (qW a)
 (R (xH xN 0) h)
 (∃b,(a=dB b)/\
 bn h (b.add 2) λx2=>
 R (xH xN (x2.len:Int)) h)
theorem Hs(a:aT)(b:@Au R h a):ac xR 141 #[a] h R:=au af func141 .n b
def pc(V:bJ)(ay:Int)(a:Int)(c:Int):Prop:=
 aU xR (qO 24 V) h λr h1=>
 aU xR (qK 135 eL (.tuple #[])) h1 λb h2=>
 ae xR 12 #[ay,(xH xN 26)] bz h2 λg h3=>
 Br (g<8)
 (((5:Int)≠0)/\
 bf h3 r λE=>
 bf h3 (r.add 2) λD=>
 ae xR 211 #[a] (.one LY) h3 λr6 h4=>
 (aA.ok [(r.add 2,D),(r,E)] h4)/\
 ae xR 12 #[(qc xN (wH a 5)),(qc xN ((qc xN ((qc xN (3*E))*D))+2))] bz h4 λr7 h5=>
 (aA.ok [(r.add 2,D),(r,E)] h5)/\
 ae xR 11 #[r7,c] aL h5 λr8 h6=>
 (aA.ok [(r.add 2,D),(r,E)] h6)/\
 ag xR (qf 135 b (xM #[(xH xN 1),r6,r8,(xH xN 0),(xH xN 0),(xH xN 0),(xH xP 0),(xI eH 0 0),(xI eH 0 0)])) h6 λ_ X=>
 (aA.ok [] X)/\
 ∃q:CR,an X b 0 q/\
 R q X)
 (Br (g<11)
 (ae xR 211 #[a] (.one LY) h3 λS h8=>
 ag xR (qf 135 b (xM #[(xH xN 2),S,(xI eH 0 0),(xH xN 0),(xH xN 0),(xH xN 0),(xH xP 0),(xI eH 0 0),(xI eH 0 0)])) h8 λ_ h9=>
 ∃l:CR,an h9 b 0 l/\
 R l h9)
 (Br (g<13)
 (ae xR 211 #[a] (.one LY) h3 λL a6=>
 ag xR (qf 135 b (xM #[(xH xN 3),L,(xI eH 0 0),(xH xN 0),(xH xN 0),(xH xN 0),(xH xP 0),(xI eH 0 0),(xI eH 0 0)])) a6 λ_ B=>
 ∃p:CR,an B b 0 p/\
 R p B)
 (Br (g==13)
 (ag xR (qf 135 b (xM #[(xH xN 4),nX,(xI eH 0 0),(xH xN 0),(xH xN 0),(xH xN 0),(xH xP 0),(xI eH 0 0),(xI eH 0 0)])) h3 λ_ s=>
 ∃m:CR,an s b 0 m/\
 R m s)
 (Br (g==14)
 (ae xR 211 #[a] (.one LY) h3 λG H=>
 ag xR (qf 135 b (xM #[(xH xN 5),G,(xI eH 0 0),(xH xN 0),(xH xN 0),(xH xN 0),(xH xP 0),(xI eH 0 0),(xI eH 0 0)])) H λ_ t=>
 ∃j:CR,an t b 0 j/\
 R j t)
 (Br (g==15)
 (ae xR 12 #[a,(xH xN 9)] bz h3 λJ a3=>
 ae xR 12 #[c,(xH xN 60)] bz a3 λM ar=>
 ag xR (qf 135 b (xM #[(xH xN 6),nX,(xI eH 0 0),J,(qc xN (6+M)),(xH xN 0),(xH xP 0),(xI eH 0 0),(xI eH 0 0)])) ar λ_ x=>
 ∃n:CR,an x b 0 n/\
 R n x)
 (Br (g==16)
 (ae xR 12 #[a,(xH xN 8)] bz h3 λQ a5=>
 ag xR (qf 135 b (xM #[(xH xN 7),nX,(xI eH 0 0),Q,(xH xN 0),(xH xN 0),(xH xP 0),(xI eH 0 0),(xI eH 0 0)])) a5 λ_ y=>
 ∃f:CR,an y b 0 f/\
 R f y)
 (Br (g==17)
 (ae xR 12 #[a,(xH xN 8)] bz h3 λT F=>
 ae xR 12 #[c,(xH xN 60)] bz F λad Y=>
 ag xR (qf 135 b (xM #[(xH xN 8),nX,(xI eH 0 0),T,(qc xN (6+ad)),(xH xN 0),(xH xP 0),(xI eH 0 0),(xI eH 0 0)])) Y λ_ z=>
 ∃i:CR,an z b 0 i/\
 R i z)
 (Br (g==18)
 (ae xR 12 #[a,(xH xN 8)] bz h3 λP I=>
 ag xR (qf 135 b (xM #[(xH xN 9),nX,(xI eH 0 0),P,(xH xN 0),(xH xN 0),(xH xP 0),(xI eH 0 0),(xI eH 0 0)])) I λ_ A=>
 ∃o:CR,an A b 0 o/\
 R o A)
 (Br (g<22)
 (ae xR 12 #[a,(xH xN 3)] bz h3 λK U=>
 ae xR 12 #[c,(xH xN 20)] bz U λa0 am=>
 ag xR (qf 135 b (xM #[(xH xN 10),nX,(xI eH 0 0),(xH xN 0),K,a0,(xH xP 0),(xI eH 0 0),(xI eH 0 0)])) am λ_ u=>
 ∃d:CR,an u b 0 d/\
 R d u)
 (Br (g==22)
 (ae xR 12 #[a,(xH xN 9)] bz h3 λa4 W=>
 ae xR 12 #[c,(xH xN 70)] bz W λZ ao=>
 ag xR (qf 135 b (xM #[(xH xN 10),nX,(xI eH 0 0),(xH xN 0),(qc xN (a4-1)),(qc xN (Z-1)),(xH xP 0),(xI eH 0 0),(xI eH 0 0)])) ao λ_ v=>
 ∃e:CR,an v b 0 e/\
 R e v)
 (ae xR 12 #[a,(xH xN 7)] bz h3 λax O=>
 ((7:Int)≠0)/\
 ae xR 12 #[(qc xN (wH a 7)),(xH xN 40)] bz O λap ab=>
 ae xR 12 #[c,(xH xN 61)] bz ab λN ah=>
 ag xR (qf 135 b (xM #[(xH xN 11),nX,(xI eH 0 0),ax,ap,N,(xH xP (qc xP ((qc xP ((qc xP c)*2654435761))+(qc xP a)))),(xI eH 0 0),(xI eH 0 0)])) ah λ_ w=>
 ∃k:CR,an w b 0 k/\
 R k w)))))))))))
theorem Bb(c:bJ)(d:Int)(b:Int)(a:Int)(e:@pc R h c d b a):ac xR 143 #[c,d,b,a] h R:=au af func143 .n e
def iQ(a:Sl)(d:Int)(b:Int):Prop:=
 az xR (Instr.sliceAt 42 a (dB d) (dB b) (dB (xH xN (a.len:Int)))) aL h λ_ f=>
 Br (d==b)
 (R a f)
 ((0<=d/\d<=(a.cap:Int))/\
 (0<=b/\b<=(a.len:Int))/\
 az xR (qt #[42,42] 42 #[(xI a.ptr d.toNat a.cap),(.slice (if a.cap=b.toNat then a.ptr else a.ptr.map (·.add (b.toNat*4))) (a.len-b.toNat) (a.cap-b.toNat))]) aL f λc e=>
 (aA.ok [] e)/\
 (0<=(c.len:Int)/\(c.len:Int)<=(a.len:Int)/\(a.len:Int)<=(c.cap:Int))/\
 ag xR (yy #[42] 0 #[(.slice (if c.cap=(c.len:Int).toNat then c.ptr else c.ptr.map (·.add ((c.len:Int).toNat*4))) ((a.len:Int).toNat-(c.len:Int).toNat) (c.cap-(c.len:Int).toNat))]) e λ_ h3=>
 R c h3)
theorem mI(a:Sl)(c:Int)(b:Int)(d:@iQ R h a c b):ac xR 144 #[a,c,b] h R:=au af func144 .n d
def pY(a:aT)(o:cW):Prop:=
 aU xR (qO 44 o) h λg A=>
 ae xR 55 #[a] bK A λv j=>
 Br v
 (R (xH xN 14) j)
 (bi (σ:=Unit) (λ_ q=>
 bn q (g.add 6) λu=>
 ae xR 80 #[(.func (.func 35) #[a] #[]),u] aL q λb r=>
 ∃i:cW,an r g 0 i/\
 ae xR 42 #[i] aL r λk y=>
 aU xR (qK 3 eL (.tuple #[])) y λc x=>
 ag xR (qf 3 c (xH xN (k.len:Int))) x λ_ h8=>
 bi (σ:=Unit) (λ_ p=>
 ae xR 53 #[a,b,(.func (.func 212) #[] #[c])] bz p λf d=>
 Br (f !=0)
 (R f d)
 (∃e:cW,an d g 0 e/\
 ae xR 54 #[a,e,b] bz d λl m=>
 R l m))
 (λB=>
 Br ((b.len:Int)==0) (R (xH xN 7) h8) (ae xR 52 #[a,b,(.func (.func 212) #[] #[c])] bK h8 λn t=>
 Br (!n)
 (R (xH xN 7) t)
 (B () t))))
 (λD=>
 ∃x3:cW,an j g 0 x3/\
 ae xR 95 #[x3] bK j λE h3=>
 (aA.ok [] h3)/\
 Br (!E) (R (xH xN 1) h3) (bf h3 g λw=>
 ∃s,(a=dB s)/\
 bf h3 s λz=>
 Br (w !=(qc xN (z+1)))
 (R (xH xN 1) h3)
 (D () h3))))
theorem Cu(a:aT)(b:cW)(c:@pY R h a b):ac xR 145 #[a,b] h R:=au af func145 (al.tn (al.tn (.two (.join [] [(4,5),(11,25)] .n) (al.tn (al.tn (al.tn (.two (.join [] [(4,5),(34,44)] .n) .n))))))) c
def FC(a:Sl):Prop:=
 Br (qW a.ptr)
 (R (xI eH 0 0) h)
 (az xR (qq 34 0 #[]) aL h λd c=>
 az xR (qt #[34,34] 34 #[d,a]) aL c λe b=>
 R e b)
theorem Mz(a:Sl)(b:@FC R h a):ac xR 146 #[a] h R:=au af func146 .n b
def MB(a:Int)(b:Sl):Prop:=
 bi (σ:=Unit) (λ_ j=>
 az xR (qF 34 (xH xN 64) (xH xN 64)) aL j λc f=>
 az xR (qq 34 4 #[(0,(xH xO 87)),(1,(xH xO 115)),(2,(xH xO 1)),(3,(xH xO (qc xO a)))]) aL f λv3 h3=>
 az xR (wJ #[34,34] 3 #[c,v3]) bz h3 λ_ g=>
 (0<=(4:Int)/\(4:Int)<=(c.len:Int))/\
 az xR (wJ #[34,34] 3 #[(.slice (if c.cap=(4:Int).toNat then c.ptr else c.ptr.map (·.add ((4:Int).toNat*1))) (c.len-(4:Int).toNat) (c.cap-(4:Int).toNat)),b]) bz g λ_ m=>
 (0<=(59:Int)/\(59:Int)<=(c.cap:Int))/\
 ae xR 213 #[(xI c.ptr ((59:Int).toNat) c.cap)] (.one (.sc (.int .u32))) m λp i=>
 aM (σ:=Int) (λd k e=>
 Br (d<4)
 ((0<=(qc xN (8*d)))/\
 aR c (qc xN (59+d)) λo=>
 ag xR (qf 5 (o.add ((qc xN (59+d)).toNat*1)) (xH xO (qc xO (qX p (2^min (qc xN (8*d)).toNat (qk xP)))))) e λ_ h8=>
 k (qc xN (d+1)) h8)
 (aR c (63:Int) λa9=>
 ag xR (qf 5 (a9.add ((63:Int).toNat*1)) (xH xO 165)) e λ_ n=>
 R c n)) (0:Int) i)
 (λl=>
 Br (a<1) (R (xI eH 0 0) h) (Br (a>255) (R (xI eH 0 0) h) (Br ((b.len:Int)>55)
 (R (xI eH 0 0) h)
 (l () h))))
theorem TB(a:Int)(b:Sl)(c:@MB R h a b):ac xR 147 #[a,b] h R:=au af func147 (al.tn (.two (.join [] [(4,5),(8,19)] .n) (al.tn (al.tn (al.tn (al.tn (.two (al.tn (.inn (.loop [(32,ba)] [(7,8),(32,45)] .n))) .n))))))) c
def tq(a:aT):Prop:=
 Br (!(qW a)) (∃b,(a=dB b)/\
 rC h (b.add 6) λx2=>
 R x2 h) (R eR h)
theorem ED(a:aT)(b:@tq R h a):ac xR 149 #[a] h R:=au af func149 .n b
def kH(a:Sl)(d:Int):Prop:=
 aM (σ:=Int) (λb e c=>
 Br (b<(a.len:Int))
 (aR a b λf=>
 bf c (f.add (b.toNat*1)) λx3=>
 Br (d==x3)
 (R b c)
 (e (qc xN (b+1)) c))
 (R (xH xN (-1:Int)) c)) (0:Int) h
theorem mY(a:Sl)(b:Int)(c:@kH R h a b):ac xR 150 #[a,b] h R:=au af func150 (al.tn (.two (al.tn (.inn (.loop [(8,ba)] [(4,6),(8,19)] .n))) .n)) c
def gr(b:Sl)(a:cI):Prop:=
 aM (σ:=Int) (λc f d=>
 Br (c<(b.len:Int))
 (aR b c λg=>
 td d (g.add (c.toNat*1)) λx3=>
 ia C a.1 (a.2.1.toList++[(xK x3)]++a.2.2.toList) bK d λi e=>
 Br i
 (R c e)
 (f (qc xN (c+1)) e))
 (R (xH xN (-1:Int)) d)) (0:Int) h
theorem iY(b:Sl)(a:cI)(c:@gr R h b a):ac xR 151 #[b,(.func (.func a.1) a.2.1 a.2.2)] h R:=au af func151 (al.tn (.two (al.tn (.inn (.loop [(8,ba)] [(4,6),(8,19)] .n))) .n)) c
def fo(b:Sl)(a:cI):Prop:=
 aM (σ:=Int) (λc f d=>
 Br (c<(b.len:Int))
 (aR b c λg=>
 ∃x3:jn,an d (g.add (c.toNat*4)) 0 x3/\
 ia C a.1 (a.2.1.toList++[(xM #[x3.1,x3.2.1,x3.2.2.1,x3.2.2.2])]++a.2.2.toList) bK d λi e=>
 Br i
 (R c e)
 (f (qc xN (c+1)) e))
 (R (xH xN (-1:Int)) d)) (0:Int) h
theorem gT(b:Sl)(a:cI)(c:@fo R h b a):ac xR 152 #[b,(.func (.func a.1) a.2.1 a.2.2)] h R:=au af func152 (al.tn (.two (al.tn (.inn (.loop [(8,ba)] [(4,6),(8,19)] .n))) .n)) c
def pZ(b:jn)(a:Addr):Prop:=
 aU xR (qO 94 b) h λd c=>
 td c d λx2=>
 td c a λx3=>
 R (xL (x2.toList==x3.toList)) c
theorem Cv(b:jn)(a:Addr)(c:@pZ R h b a):ac xR 153 #[b,a] h R:=au af func153 .n c
def pd(b:Int)(a:Addr):Prop:=
 jI h a λg=>
 ∃e,(g=dB e)/\
 (0<=b/\b<((64:Nat):Int))/\
 jI h ((e.add 10).add (b.toNat*1)) λx3=>
 jI h a λd=>
 ∃a5,(d=dB a5)/\
 ∃c:cW,an h a5 0 c/\
 ae xR 34 #[x3,c] bK h λi f=>
 (aA.ok [(a,d),(a,g)] f)/\
 R i f
theorem Bc(b:Int)(a:Addr)(c:@pd R h b a):ac xR 154 #[b,a] h R:=au af func154 .n c
def go(b:Sl)(a:cI):Prop:=
 ae xR 215 #[b,(.func (.func a.1) a.2.1 a.2.2)] bz h λc d=>
 R (decide (c>=0)) d
theorem km(b:Sl)(a:cI)(c:@go R h b a):ac xR 155 #[b,(.func (.func a.1) a.2.1 a.2.2)] h R:=au af func155 .n c
def Av(b:Int×Sl)(a:Addr):Prop:=
 aU xR (qO 117 b) h λe c=>
 ∃x2:bJ,an c a 0 x2/\
 ∃x3:Int×Sl,an c e 0 x3/\
 ae xR 157 #[x2,x3] bK c λf d=>
 R (xL (!f)) d
theorem Ht(b:Int×Sl)(a:Addr)(c:@Av R h b a):ac xR 156 #[b,a] h R:=au af func156 .n c
def Di(d:bJ)(c:Int×Sl):Prop:=
 aU xR (qO 24 d) h λf g=>
 aU xR (qO 117 c) g λb a=>
 bf a b λx3=>
 Br (x3>=0) (bf a b λe=>
 Br (e<=65535) (bn a (b.add 1) λi=>
 bf a (f.add 2) λj=>
 R (xL ((i.len:Int)==j)) a) (R eR a)) (R eR a)
theorem KR(a:bJ)(b:Int×Sl)(c:@Di R h a b):ac xR 157 #[a,b] h R:=au af func157 .n c
def FD(f:bJ)(a:Int)(c:Sl):Prop:=
 aU xR (qO 24 f) h λd j=>
 ∃x2:bJ,an j d 0 x2/\
 ae xR 40 #[x2] bK j λl b=>
 (aA.ok [] b)/\
 Br l (∃g:bJ,an b d 0 g/\
 ∃e:bJ,an b d 0 e/\
 ae xR 20 #[g,(xH xP a),c] bz b λm h3=>
 (aA.ok [(d,e.1),(d.add 1,e.2.1),(d.add 2,e.2.2)] h3)/\
 ae xR 21 #[e] bz h3 λk i=>
 (aA.ok [] i)/\
 R (xL (m==k)) i) ((aA.ok [] b)/\
 (aA.ok [] b)/\
 R eR b)
theorem MC(c:bJ)(a:Int)(b:Sl)(d:@FD R h c a b):ac xR 158 #[c,(xH xP a),b] h R:=au af func158 .n d
def Hu(b:Sl):Prop:=
 aM (σ:=Sl×Int) (λa f d=>
 Br (a.2<(b.len:Int))
 (aR b a.2 λg=>
 ∃x3:Int×Sl,an d (g.add (a.2.toNat*2)) 0 x3/\
 aU xR (qK 117 eL (.tuple #[])) d λa4 e=>
 ag xR (qf 117 a4 x3) e λ_ h3=>
 bf h3 a4 λl=>
 az xR (qq 22 1 #[(0,l)]) aL h3 λk i=>
 az xR (qt #[22,22] 22 #[a.1,k]) aL i λc j=>
 f ((⟨c.ptr,c.len,c.cap⟩:Sl),qc xN (a.2+1)) j)
 (R a.1 d)) ((⟨eH,0,0⟩:Sl),(0:Int)) h
theorem OG(a:Sl)(b:@Hu R h a):ac xR 159 #[a] h R:=au af func159 (al.tn (al.tn (.two (al.tn (.inn (.loop [(3,ci),(8,ba)] [(3,4),(5,6),(8,18)] .n))) .n))) b
def Hv(K:bJ)(e:Int)(x:Sl):Prop:=
 aU xR (qO 24 K) h λg h1=>
 aM (σ:=Sl×Int) (λl K1 A=>
 Br (l.2<(x.len:Int))
 (aR x l.2 λa3=>
 ∃Z:Int×Sl,an A (a3.add (l.2.toNat*2)) 0 Z/\
 aU xR (qK 117 eL (.tuple #[])) A λa5 h3=>
 ag xR (qf 117 a5 Z) h3 λ_ B=>
 ∃Y:bJ,an B g 0 Y/\
 bf B a5 λx7=>
 bn B (a5.add 1) λD=>
 ae xR 161 #[Y,(xH xP e),x7] aL B λr9 h5=>
 (aA.ok [(a5.add 1,D)] h5)/\
 az xR (qq 273 1 #[(0,(xM #[r9,D]))]) aL h5 λP X=>
 (aA.ok [(a5.add 1,D)] X)/\
 az xR (qt #[273,273] 273 #[l.1,P]) aL X λj W=>
 (aA.ok [(a5.add 1,D)] W)/\
 K1 ((⟨j.ptr,j.len,j.cap⟩:Sl),qc xN (l.2+1)) W)
 (bi (σ:=aT) (λa z=>
 ∃u:bJ,an z g 0 u/\
 ae xR 21 #[u] bz z λI V=>
 ae xR 216 #[I,l.1] (.many [ci,ci,ci,ba]) V λc p=>
 Br (c.2.2.2 !=0)
 (R (.tuple #[(xI eH 0 0),(xH xN 10)]) p)
 (∃y,(a=dB y)/\
 ag xR (qf 85 (y.add 4) c.2.1) p λ_ F=>
 ∃s,(a=dB s)/\
 ag xR (qf 273 (s.add 5) c.2.2.1) F λ_ L=>
 ae xR 217 #[a,c.1] hJ L λ_ S=>
 ae xR 218 #[a] hJ S λ_ O=>
 ae xR 219 #[a] hJ O λ_ N=>
 ae xR 220 #[a] (.many [ci,ci]) N λf i=>
 ∃a25,(a=dB a25)/\
 bn i ((a25.add 6).add 1) λE=>
 Br ((E.len:Int)==0)
 (aM (σ:=Int) (λd K3 k=>
 Br (d<(f.2.len:Int))
 (aR f.2 d λa28=>
 bn k (a28.add (d.toNat*1)) λT=>
 ae xR 221 #[T,aaD] aL k λQ m=>
 Br ((Q.len:Int)>0)
 (R (.tuple #[(xI eH 0 0),(xH xN 10)]) m)
 (K3 (qc xN (d+1)) m))
 (ae xR 222 #[a,(xI eH 0 0)] hJ k λ_ t=>
 ∃o,(a=dB o)/\
 bn t (o.add 4) λM=>
 R (.tuple #[M,(xH xN 0)]) t)) (0:Int) i)
 (∃q,(a=dB q)/\
 jI i q λG=>
 ae xR 175 #[G,f.1,f.2] (.many [ci,ba]) i λr w=>
 Br (r.2 !=0)
 (R (.tuple #[(xI eH 0 0),(xH xN 10)]) w)
 (ae xR 222 #[a,r.1] hJ w λ_ n=>
 ∃v,(a=dB v)/\
 bn n (v.add 4) λU=>
 R (.tuple #[U,(xH xN 0)]) n))))
 (λK2=>
 ∃b:bJ,an A g 0 b/\
 ae xR 65 #[] jo A λH h8=>
 (aA.ok [(g,b.1),(g.add 1,b.2.1),(g.add 2,b.2.2)] h8)/\
 aU xR (qO 281 (xM #[H,b.1,b.2.1,b.2.2,(xI eH 0 0),(xI eH 0 0),(xI eH 0 0),(xI eH 0 0),(xI eH 0 0),(xI eH 0 0),(xI eH 0 0)])) h8 λJ h9=>
 (aA.ok [(g,b.1),(g.add 1,b.2.1),(g.add 2,b.2.2)] h9)/\
 K2 (dB J) h9))) ((⟨eH,0,0⟩:Sl),(0:Int)) h1
theorem OH(b:bJ)(a:Int)(c:Sl)(d:@Hv R h b a c):ac xR 160 #[b,(xH xP a),c] h R:=au af func160 (al.tn (.fwd (al.tn (.two (al.tn (.inn (.loop [(8,ci),(23,ba)] [(8,9),(10,11),(23,39)] .n))) (.two (.join [(11,LX)] [(11,12),(39,43)] .n) .n))) [(0,[.n]),(1,[(.two (al.tn (.inn (.loop [(95,ba)] [(20,21),(95,104)] .n))) .n)]),(2,[.n])])) d
def PW(e:bJ)(b:Int)(a:Int):Prop:=
 aU xR (qO 24 e) h λj k=>
 bi (σ:=Unit) (λ_ h3=>
 ∃i:bJ,an h3 j 0 i/\
 ae xR 21 #[i] bz h3 λl m=>
 ae xR 223 #[(xH xP (qc xP ((qD (qk xP) b^^^(qD (qk xP) (qc xP ((qc xP a)*2654435761)))).toNat:Nat)))] jo m λg r=>
 ae xR 224 #[g] (.one (.sc (.int .u32))) r λ_ p=>
 ae xR 226 #[l] aL p λt n=>
 ae xR 225 #[t,g] bz n λd h8=>
 ae xR 227 #[g,l,d] aL h8 λf s=>
 R f s)
 (λq=>
 ∃x2:bJ,an k j 0 x2/\
 ae xR 40 #[x2] bK k λo c=>
 Br (!o) (R (xI eH 0 0) c) (Br (a<0) (R (xI eH 0 0) c) (Br (a>65535)
 (R (xI eH 0 0) c)
 (q () c))))
theorem VD(c:bJ)(a:Int)(b:Int)(d:@PW R h c a b):ac xR 161 #[c,(xH xP a),b] h R:=au af func161 (al.tn (.two (.join [] [(6,7),(10,21)] .n) .n)) d
def FE(c:Int)(a:Int)(b:Int):Prop:=
 Br (c>=a) (R (decide (c<=b)) h) (R eR h)
theorem MD(c:Int)(a:Int)(b:Int)(d:@FE R h c a b):ac xR 162 #[c,a,b] h R:=au af func162 .n d
def JU(c:Sl)(a:Int):Prop:=
 aM (σ:=Int) (λb f e=>
 Br (b<(c.len:Int))
 (aR c b λg=>
 bf e (g.add (b.toNat*1)) λx3=>
 ae xR 162 #[x3,(xH xN 0),a] bK e λj d=>
 Br (!j) (R eR d) (Br (b>0) (aR c (qc xN (b-1)) λa5=>
 bf d (a5.add ((qc xN (b-1)).toNat*1)) λi=>
 Br (i>=x3)
 (R eR d)
 (f (qc xN (b+1)) d)) (f (qc xN (b+1)) d)))
 (R eL e)) (0:Int) h
theorem Rf(b:Sl)(a:Int)(c:@JU R h b a):ac xR 163 #[b,a] h R:=au af func163 (al.tn (.two (al.tn (.inn (.loop [(9,ba)] [(4,7),(9,32)] .n))) .n)) c
def Hw(g:cW)(n:jn):Prop:=
 aU xR (qO 44 g) h λf v=>
 aU xR (qO 94 n) v λa p=>
 bi (σ:=Unit) (λ_ q=>
 bn q (a.add 3) λk=>
 ae xR 116 #[k,(.func (.func 228) #[] #[])] bK q λm b=>
 Br (!m) (bn b (a.add 3) λd=>
 ∃e:bJ,an b (f.add 2) 0 e/\
 bf b (a.add 2) λj=>
 ae xR 48 #[e,j] bz b λi h8=>
 (aA.ok [(a.add 3,d)] h8)/\
 R (xL ((d.len:Int)==i)) h8) ((aA.ok [] b)/\
 R eR b))
 (λx=>
 td p a λx3=>
 ae xR 104 #[x3] bK p λz h3=>
 Br (!z) (R eR h3) (bf h3 (a.add 1) λt=>
 bf h3 (f.add 1) λw=>
 ae xR 162 #[t,(xH xN 0),(qc xN (w-1))] bK h3 λy c=>
 Br (!y) (R eR c) (bf c (a.add 2) λu=>
 bf c (f.add 2) λs=>
 bf c ((f.add 2).add 2) λo=>
 ae xR 162 #[u,(xH xN 0),(qc xN ((qc xN (s*o))*8))] bK c λl r=>
 Br (!l)
 (R eR r)
 (x () r))))
theorem OI(a:cW)(b:jn)(c:@Hw R h a b):ac xR 164 #[a,b] h R:=au af func164 (al.tn (.two (.join [] [(4,5),(6,33)] .n) .n)) c
def eM(b:Sl)(a:cI):Prop:=
 ae xR 152 #[b,(.func (.func a.1) a.2.1 a.2.2)] bz h λc d=>
 R (decide (c>=0)) d
theorem gp(b:Sl)(a:cI)(c:@eM R h b a):ac xR 165 #[b,(.func (.func a.1) a.2.1 a.2.2)] h R:=au af func165 .n c
def Hx(b:jn)(a:Addr):Prop:=
 aU xR (qO 94 b) h λd c=>
 bf c (d.add 1) λx2=>
 bf c (a.add 1) λx3=>
 R (xL (x2==x3)) c
theorem OJ(b:jn)(a:Addr)(c:@Hx R h b a):ac xR 166 #[b,a] h R:=au af func166 .n c
def JV(b:Sl):Prop:=
 aM (σ:=Sl×Int) (λa f c=>
 Br (a.2<(b.len:Int))
 (aR b a.2 λg=>
 bn c (g.add (a.2.toNat*1)) λx3=>
 ae xR 146 #[x3] aL c λj e=>
 az xR (qq 85 1 #[(0,j)]) aL e λv5 h3=>
 az xR (qt #[85,85] 85 #[a.1,v5]) aL h3 λd i=>
 f ((⟨d.ptr,d.len,d.cap⟩:Sl),qc xN (a.2+1)) i)
 (R a.1 c)) ((⟨eH,0,0⟩:Sl),(0:Int)) h
theorem Rg(a:Sl)(b:@JV R h a):ac xR 167 #[a] h R:=au af func167 (al.tn (al.tn (.two (al.tn (.inn (.loop [(3,ci),(8,ba)] [(3,4),(5,6),(8,18)] .n))) .n))) b
def jT(b:Sl)(a:cI):Prop:=
 aM (σ:=Int) (λc f d=>
 Br (c<(b.len:Int))
 (aR b c λg=>
 bn d (g.add (c.toNat*1)) λx3=>
 ia C a.1 (a.2.1.toList++[(xI x3.ptr x3.len x3.cap)]++a.2.2.toList) bK d λi e=>
 Br i
 (R c e)
 (f (qc xN (c+1)) e))
 (R (xH xN (-1:Int)) d)) (0:Int) h
theorem oe(b:Sl)(a:cI)(c:@jT R h b a):ac xR 168 #[b,(.func (.func a.1) a.2.1 a.2.2)] h R:=au af func168 (al.tn (.two (al.tn (.inn (.loop [(8,ba)] [(4,6),(8,19)] .n))) .n)) c
def FF(a:Sl)(d:Int)(b:Int):Prop:=
 aM (σ:=Sl×Int) (λc g e=>
 Br (c.2>=0)
 ((0<=(qc xN (8*c.2)))/\
 az xR (qq 34 1 #[(0,(xH xO (qc xO (qX d (2^min (qc xN (8*c.2)).toNat (qk xN))))))]) aL e λi f=>
 az xR (qt #[34,34] 34 #[c.1,i]) aL f λv3 h3=>
 g ((⟨v3.ptr,v3.len,v3.cap⟩:Sl),qc xN (c.2-1)) h3)
 (R c.1 e)) ((⟨a.ptr,a.len,a.cap⟩:Sl),qc xN (b-1)) h
theorem ME(b:Sl)(c:Int)(a:Int)(d:@FF R h b c a):ac xR 169 #[b,c,a] h R:=au af func169 (al.tn (.two (al.tn (.inn (.loop [(0,ci),(7,ba)] [(0,1),(7,8),(10,22)] .n))) .n)) d
def tt(a:aT):Prop:=
 ae xR 121 #[a] bK h λl b=>
 Br (!l)
 (R eR b)
 (∃g,(a=dB g)/\
 rC b (g.add 1) λx3=>
 Br (!x3)
 (R eL b)
 (∃a4,(a=dB a4)/\
 bf b (a4.add 2) λn=>
 Br (n==0)
 (∃i,(a=dB i)/\
 ag xR (qf 4 i eL) b λ_ f=>
 ∃j,(a=dB j)/\
 bf f (j.add 3) λk=>
 ∃a9,(a=dB a9)/\
 ag xR (qf 3 (a9.add 3) (qc xN (k+1))) f λ_ h3=>
 R eR h3)
 (∃c,(a=dB c)/\
 bf b (c.add 2) λe=>
 ∃d,(a=dB d)/\
 ag xR (qf 3 (d.add 2) (qc xN (e-1))) b λ_ m=>
 R eL m)))
theorem EE(a:aT)(b:@tt R h a):ac xR 170 #[a] h R:=au af func170 .n b
def tu(a:aT):Prop:=
 ∃c,(a=dB c)/\
 ag xR (qf 85 (c.add 4) (xI eH 0 0)) h λ_ e=>
 ∃b,(a=dB b)/\
 ag xR (qf 4 (b.add 5) eR) e λ_ d=>
 R (xH xN 0) d
theorem EF(a:aT)(b:@tu R h a):ac xR 171 #[a] h R:=au af func171 .n b
def mZ(a:aT):Prop:=
 bi (σ:=Unit) (λ_ d=>
 ∃a4,(a=dB a4)/\
 jI d a4 λj=>
 ae xR 170 #[j] bK d λk b=>
 Br (!k)
 (R (xH xN 14) b)
 (∃e,(a=dB e)/\
 ag xR (qf 3 (e.add 3) (xH xN 0)) b λ_ h3=>
 ae xR 171 #[a] bz h3 λf i=>
 R f i))
 (λg=>
 Br (qW a) (R (xH xN 5) h) (∃c,(a=dB c)/\
 rC h (c.add 6) λx2=>
 Br x2
 (R (xH xN 5) h)
 (g () h)))
theorem ra(a:aT)(b:@mZ R h a):ac xR 173 #[a] h R:=au af func173 (al.tn (.two (.join [] [(2,11)] .n) .n)) b
def Dj(d:bJ)(a:Int):Prop:=
 aU xR (qO 24 d) h λb c=>
 ∃x2:bJ,an c b 0 x2/\
 ∃x3:bJ,an c b 0 x3/\
 ae xR 176 #[x3] aL c λg e=>
 (aA.ok [(b,x2.1),(b.add 1,x2.2.1),(b.add 2,x2.2.2)] e)/\
 ae xR 158 #[x2,(xH xP a),g] bK e λf h3=>
 (aA.ok [] h3)/\
 R f h3
theorem KS(b:bJ)(a:Int)(c:@Dj R h b a):ac xR 174 #[b,(xH xP a)] h R:=au af func174 .n c
def Cw(B:aT)(e:Sl)(l:Sl):Prop:=
 bi (σ:=Unit) (λ_ h3=>
 ae xR 204 #[e] bz h3 λi I=>
 ae xR 201 #[e] aL I λd S=>
 aM (σ:=Int) (λg P s=>
 Br (g<(d.len:Int))
 (aR d g λL=>
 bn s (L.add (g.toNat*1)) λM=>
 aR l g λa9=>
 bn s (a9.add (g.toNat*1)) λF=>
 az xR (qt #[34,34] 34 #[M,F]) aL s λy G=>
 (aA.ok [] G)/\
 aR d g λA=>
 ag xR (qf 34 (A.add (g.toNat*1)) y) G λ_ h8=>
 (aA.ok [] h8)/\
 P (qc xN (g+1)) h8)
 (ae xR 203 #[B] jo s λt T=>
 ae xR 202 #[t,d,i] bz T λa q=>
 Br (a<i)
 (R (.tuple #[(xI eH 0 0),(xH xN 9)]) q)
 ((0<=a/\a<=(d.len:Int))/\
 aM (σ:=Int) (λf O m=>
 Br (decide (f<(((d.len-a.toNat):Nat):Int)))
 (∃p:Addr,((if d.cap=a.toNat then d.ptr else d.ptr.map (·.add (a.toNat*1)))=dB p/\0<=f/\f<(((d.len-a.toNat):Nat):Int))/\
 bn m (p.add (f.toNat*1)) λv=>
 ae xR 139 #[v] bz m λu n=>
 Br (u>=0)
 (R (.tuple #[(xI eH 0 0),(xH xN 10)]) n)
 (O (qc xN (f+1)) n))
 ((0<=a/\a<=(d.cap:Int))/\
 aM (σ:=Sl×Int) (λb K j=>
 Br (b.2<(a.toNat:Int))
 (∃o,(d.ptr=dB o/\0<=b.2/\b.2<(a.toNat:Int))/\
 bn j (o.add (b.2.toNat*1)) λc=>
 (0<=i/\i<=(c.len:Int))/\
 ae xR 146 #[(.slice (if c.cap=i.toNat then c.ptr else c.ptr.map (·.add (i.toNat*1))) (c.len-i.toNat) (c.cap-i.toNat))] aL j λw x=>
 az xR (qq 85 1 #[(0,w)]) aL x λz E=>
 az xR (qt #[85,85] 85 #[b.1,z]) aL E λk D=>
 K ((⟨k.ptr,k.len,k.cap⟩:Sl),qc xN (b.2+1)) D)
 (R (.tuple #[b.1,(xH xN 0)]) j)) ((⟨eH,0,0⟩:Sl),(0:Int)) m)) (0:Int) q))) (0:Int) S)
 (λQ=>
 ae xR 200 #[e] bK h λN H=>
 Br (!N) (R (.tuple #[(xI eH 0 0),(xH xN 1)]) H) (ae xR 200 #[l] bK H λJ r=>
 Br (!J) (R (.tuple #[(xI eH 0 0),(xH xN 1)]) r) (Br ((e.len:Int) !=(l.len:Int)) (R (.tuple #[(xI eH 0 0),(xH xN 1)]) r) (Br ((e.len:Int)==0)
 (R (.tuple #[(xI eH 0 0),(xH xN 1)]) r)
 (Q () r)))))
theorem FG(c:aT)(a:Sl)(b:Sl)(d:@Cw R h c a b):ac xR 175 #[c,a,b] h R:=au af func175 (al.tn (.two (.join [] [(6,8),(17,37)] .n) (al.tn (al.tn (.two (al.tn (.inn (.loop [(43,ba)] [(10,11),(43,59)] .n))) (al.tn (al.tn (.two (al.tn (.inn (.loop [(71,ba)] [(6,8),(13,14),(71,79)] .n))) (al.tn (.two (al.tn (.inn (.loop [(14,ci),(83,ba)] [(14,15),(16,17),(83,95)] .n))) .n)))))))))) d
def Dk(b:bJ):Prop:=
 aU xR (qO 24 b) h λf d=>
 bf d f λx2=>
 aM (σ:=Sl×Int) (λa e c=>
 Br (decide (a.2<(if(if(16:Int)<x2 then(16:Int)else x2)>(0:Int)then(if(16:Int)<x2 then(16:Int)else x2)else(0:Int))))
 (az xR (qq 22 1 #[(0,a.2)]) aL c λv4 h3=>
 az xR (qt #[22,22] 22 #[a.1,v4]) aL h3 λv5 g=>
 e ((⟨v5.ptr,v5.len,v5.cap⟩:Sl),qc xN (a.2+1)) g)
 (R a.1 c)) ((⟨eH,0,0⟩:Sl),(0:Int)) d
theorem KT(a:bJ)(b:@Dk R h a):ac xR 176 #[a] h R:=au af func176 (al.tn (al.tn (.two (al.tn (.inn (.loop [(3,ci),(9,ba)] [(3,5),(9,17)] .n))) .n))) b
def MF(a:Int):Prop:=
 Br (a<0) (R (.complex .f64 0 0) h) (Br (a>=4096)
 (R (.complex .f64 0 0) h)
 (ae xR 229 #[] jo h λd g=>
 aM (σ:=Int) (λe f c=>
 Br (e==a)
 (∃a3,(d=dB a3)/\
 ∃b:Nat×Nat,cellOf c a3=dB (.complex .f64 b.1 b.2)/\
 R (.complex .f64 b.1 b.2) c)
 (ae xR 230 #[d] hJ c λ_ h3=>
 f (qc xN (e+1)) h3)) (0:Int) g))
theorem TC(a:Int)(b:@MF R h a):ac xR 177 #[a] h R:=au af func177 (al.tn (.scope 0 [(4,ba)] [(2,3),(4,5),(12,23)] [.n,.n,.n] [.n] [])) b
def JW(b:Nat×Nat)(c:Nat×Nat):Prop:=
 ∃a:Nat×Nat,(ke xR .sub 235 (.tmp 6) (.tmp 7) (.complex .f64 b.1 b.2) (.complex .f64 c.1 c.2) (.complex .f64 a.1 a.2))/\
 ∃d:Nat,((FloatKind.format .f64).mul a.1 a.1=dB d)/\
 ∃e:Nat,((FloatKind.format .f64).mul a.2 a.2=dB e)/\
 ∃f:Nat,((FloatKind.format .f64).add d e=dB f)/\
 R (.float .f64 f) h
theorem Rh(a:Nat×Nat)(b:Nat×Nat)(c:@JW R h a b):ac xR 178 #[(.complex .f64 a.1 a.2),(.complex .f64 b.1 b.2)] h R:=au af func178 .n c
def BN(b:Int×Nat)(c:Int×Nat):Prop:=
 aU xR (qO 242 (xM #[b.1,(.float .f64 b.2)])) h λe o=>
 aU xR (qO 242 (xM #[c.1,(.float .f64 c.2)])) o λd a=>
 ∃x3:Nat,cellOf a (e.add 1)=dB (.float .f64 x3)/\
 ∃i:Nat,cellOf a (d.add 1)=dB (.float .f64 i)/\
 bf a e λl=>
 bf a d λm=>
 ae xR 182 #[(.float .f64 x3),(.float .f64 i)] bz a λp h3=>
 (aA.ok [(d,m),(e,l)] h3)/\
 ae xR 183 #[l,m] bz h3 λn j=>
 (aA.ok [] j)/\
 az xR (qq 22 2 #[(0,p),(1,n)]) aL j λv9 k=>
 (aA.ok [] k)/\
 ae xR 181 #[v9] bz k λf g=>
 (aA.ok [] g)/\
 R f g
theorem Jr(a:Int×Nat)(b:Int×Nat)(c:@BN R h a b):ac xR 180 #[(xM #[a.1,(.float .f64 a.2)]),(xM #[b.1,(.float .f64 b.2)])] h R:=au af func180 .n c
def Aw(a:Sl):Prop:=
 aM (σ:=Int) (λc d b=>
 Br (c<(a.len:Int))
 (aR a c λe=>
 bf b (e.add (c.toNat*1)) λx3=>
 Br (x3 !=0)
 (R x3 b)
 (d (qc xN (c+1)) b))
 (R (xH xN 0) b)) (0:Int) h
theorem Dl(a:Sl)(b:@Aw R h a):ac xR 181 #[a] h R:=au af func181 (al.tn (al.tn (.two (al.tn (.inn (.loop [(8,ba)] [(2,3),(5,6),(8,17)] .n))) .n))) b
def pf(a:Nat)(b:Nat):Prop:=
 ae xR 232 #[(.float .f64 a)] bK h λe f=>
 ae xR 232 #[(.float .f64 b)] bK f λd c=>
 Br e
 (Br d
 (R (xH xN 0) c)
 (R (xH xN (-1:Int)) c))
 (Br d
 (R (xH xN 1) c)
 (Br ((FloatKind.format .f64).order a b==dB .lt)
 (R (xH xN (-1:Int)) c)
 (Br ((FloatKind.format .f64).order a b==dB .gt)
 (R (xH xN 1) c)
 (R (xH xN 0) c))))
theorem Bd(a:Nat)(b:Nat)(c:@pf R h a b):ac xR 182 #[(.float .f64 a),(.float .f64 b)] h R:=au af func182 .n c
def nP(a:Int)(b:Int):Prop:=
 ae xR 233 #[a] bK h λe f=>
 ae xR 233 #[b] bK f λd c=>
 Br e
 (Br d
 (R (xH xN 0) c)
 (R (xH xN (-1:Int)) c))
 (Br d
 (R (xH xN 1) c)
 (Br (a<b)
 (R (xH xN (-1:Int)) c)
 (Br (a>b)
 (R (xH xN 1) c)
 (R (xH xN 0) c))))
theorem rL(a:Int)(b:Int)(c:@nP R h a b):ac xR 183 #[a,b] h R:=au af func183 .n c
def Hy(g:eZ):Prop:=
 aU xR (qO 170 g) h λb a=>
 bi (σ:=Bool) (λk d=>
 Br k (∃j:bJ,an d (b.add 3) 0 j/\
 ae xR 40 #[j] bK d λf h3=>
 Br f (bn h3 (b.add 7) λe=>
 bf h3 ((b.add 3).add 2) λi=>
 R (xL ((e.len:Int)==i)) h3) (R eR h3)) (R eR d))
 (λc=>
 bf a b λx2=>
 Br (x2>=0) (bf a b λx3=>
 Br (x3<=16777215) (bf a (b.add 1) λm=>
 Br (m>=0) (bf a (b.add 1) λn=>
 Br (n<8) (bf a (b.add 2) λo=>
 Br (o>=0) (bf a (b.add 2) λl=>
 c (decide (l<=65535)) a) (c eR a)) (c eR a)) (c eR a)) (c eR a)) (c eR a))
theorem OK(a:eZ)(b:@Hy R h a):ac xR 184 #[a] h R:=au af func184 (al.tn (.two (.join [(3,jp)] [(3,32)] .n) .n)) b
def BO(a:Sl)(d:Int)(b:Int):Prop:=
 aM (σ:=Sl×Int) (λc g e=>
 Br (c.2>=0)
 ((0<=(qc xN (8*c.2)))/\
 az xR (qq 34 1 #[(0,(xH xO (qc xO (qX d (2^min (qc xN (8*c.2)).toNat (qk xN))))))]) aL e λi f=>
 az xR (qt #[34,34] 34 #[c.1,i]) aL f λv3 h3=>
 g ((⟨v3.ptr,v3.len,v3.cap⟩:Sl),qc xN (c.2-1)) h3)
 (R c.1 e)) ((⟨a.ptr,a.len,a.cap⟩:Sl),qc xN (b-1)) h
theorem Js(b:Sl)(c:Int)(a:Int)(d:@BO R h b c a):ac xR 185 #[b,c,a] h R:=au af func185 (al.tn (.two (al.tn (.inn (.loop [(0,ci),(7,ba)] [(0,1),(7,8),(10,22)] .n))) .n)) d
def jq(b:Sl)(y:Int)(B:Int)(e:Int)(a:cI):Prop:=
 aM (σ:=Tu5) (λc E q=>
 Br ((qc xN (c.2.1-c.1))<=12)
 (ae xR 234 #[b,c.1,c.2.1,(.func (.func a.1) a.2.1 a.2.2)] hJ q λ_ K=>
 R (.tuple #[]) K)
 (Br (c.2.2.1==0)
 (ae xR 235 #[b,c.1,c.2.1,(.func (.func a.1) a.2.1 a.2.2)] hJ q λ_ h3=>
 R (.tuple #[]) h3)
 (bi (σ:=Int) (λm O=>
 ae xR 237 #[b,c.1,c.2.1,(.func (.func a.1) a.2.1 a.2.2)] (.many [ba,ba]) O λr F=>
 bi (σ:=Int×Int) (λl h8=>
 bi (σ:=Unit) (λ_ j=>
 bi (σ:=Int) (λi x=>
 ae xR 241 #[b,i,c.2.1,l.1,(.func (.func a.1) a.2.1 a.2.2)] (.many [ba,jp]) x λd n=>
 ((8:Int)≠0)/\
 Br ((qc xN (d.1-i))<(qc xN (c.2.1-d.1)))
 (ae xR 186 #[b,i,d.1,m,(.func (.func a.1) a.2.1 a.2.2)] hJ n λ_ D=>
 E (qc xN (d.1+1),c.2.1,m,decide ((qc xN (d.1-i))>=(qc xN (wH (qc xN (c.2.1-c.1)) 8))),d.2) D)
 (ae xR 186 #[b,(qc xN (d.1+1)),c.2.1,m,(.func (.func a.1) a.2.1 a.2.2)] hJ n λ_ z=>
 E (i,d.1,m,decide ((qc xN (c.2.1-d.1))>=(qc xN (wH (qc xN (c.2.1-c.1)) 8))),d.2) z))
 (λN=>
 bi (σ:=Bool) (λw k=>
 Br w
 (ae xR 240 #[b,c.1,c.2.1,l.1,(.func (.func a.1) a.2.1 a.2.2)] bz k λu s=>
 E (u,c.2.1,m,c.2.2.2.1,c.2.2.2.2) s)
 (N c.1 k))
 (λG=>
 Br (c.1>0) (aR b (qc xN (c.1-1)) λv=>
 ∃f:jn,an j (v.add ((qc xN (c.1-1)).toNat*4)) 0 f/\
 aR b l.1 λA=>
 ∃g:jn,an j (A.add (l.1.toNat*4)) 0 g/\
 ia C a.1 (a.2.1.toList++[(xM #[f.1,f.2.1,f.2.2.1,f.2.2.2]),(xM #[g.1,g.2.1,g.2.2.1,g.2.2.2])]++a.2.2.toList) bz j λt o=>
 (aA.ok [] o)/\
 G (!(decide (t<0))) o) ((aA.ok [] j)/\
 G eR j))))
 (λp=>
 Br c.2.2.2.1 (Br c.2.2.2.2 (Br (l.2==1)
 (ae xR 239 #[b,c.1,c.2.1,(.func (.func a.1) a.2.1 a.2.2)] bK h8 λP J=>
 Br P
 (R (.tuple #[]) J)
 (p () J))
 (p () h8)) (p () h8)) (p () h8)))
 (λH=>
 Br (r.2==2)
 (ae xR 238 #[b,c.1,c.2.1,(.func (.func a.1) a.2.1 a.2.2)] hJ F λ_ M=>
 H (qc xN ((qc xN (c.2.1-1))-(qc xN (r.1-c.1))),(1:Int)) M)
 (H (r.1,r.2) F)))
 (λI=>
 Br (!c.2.2.2.1)
 (ae xR 236 #[b,c.1,c.2.1,(.func (.func a.1) a.2.1 a.2.2)] hJ q λ_ L=>
 I (qc xN (c.2.2.1-1)) L)
 (I c.2.2.1 q))))) (y,B,e,eL,eL) h
theorem ny(c:Sl)(d:Int)(e:Int)(b:Int)(a:cI)(f:@jq R h c d e b a):ac xR 186 #[c,d,e,b,(.func (.func a.1) a.2.1 a.2.2)] h R:=au af func186 (al.tn (al.tn (.inn (.loop [(1,ba),(2,ba),(3,ba),(10,jp),(11,jp)] [(1,4),(10,148)] (.inn (al.tn (al.tn (al.tn (.two (.join [(3,ba)] [(3,4),(38,47)] .n) (al.tn (.two (.join [(13,ba),(14,ba)] [(13,15),(55,68)] .n) (.two (.join [] [(68,81)] .n) (.two (.join [(1,ba)] [(1,2),(15,16),(81,105)] (.two (.join [(97,jp)] [(81,98)] .n) .n)) .n))))))))))))) f
def tv(a:ByteArray):Prop:=
 R (xL (!(a.toList==a.toList))) h
theorem EG(a:ByteArray)(b:@tv R h a):ac xR 188 #[a] h R:=au af func188 .n b
def gm(b:Sl)(a:cI):Prop:=
 aM (σ:=Int) (λc f d=>
 Br (c<(b.len:Int))
 (aR b c λg=>
 bf d (g.add (c.toNat*1)) λx3=>
 ia C a.1 (a.2.1.toList++[(xH xN x3)]++a.2.2.toList) bK d λi e=>
 Br i
 (R c e)
 (f (qc xN (c+1)) e))
 (R (xH xN (-1:Int)) d)) (0:Int) h
theorem iv(b:Sl)(a:cI)(c:@gm R h b a):ac xR 189 #[b,(.func (.func a.1) a.2.1 a.2.2)] h R:=au af func189 (al.tn (.two (al.tn (.inn (.loop [(8,ba)] [(4,6),(8,19)] .n))) .n)) c
def FH(c:aT)(a:Int)(b:Int):Prop:=
 ae xR 244 #[c] bz h λd e=>
 R (decide ((if(0:Int)>b then(0:Int)else b)<=(qc xN (d-a)))) e
theorem MG(b:aT)(a:Int)(c:Int)(d:@FH R h b a c):ac xR 190 #[b,a,c] h R:=au af func190 .n d
def ux(a:aT):Prop:=
 Br (qW a)
 (R (xH xN 0) h)
 (∃b,(a=dB b)/\
 bn h (b.add 2) λx2=>
 R (xH xN (x2.len:Int)) h)
theorem Gb(a:aT)(b:@ux R h a):ac xR 191 #[a] h R:=au af func191 .n b
def Hz(c:aT)(e:cW):Prop:=
 aU xR (qO 44 e) h λq j=>
 ∃x2:cW,an j q 0 x2/\
 ae xR 130 #[c,x2] aL j λf m=>
 aM (σ:=Sl×Int) (λb r h3=>
 Br (b.2<(f.len:Int))
 (aR f b.2 λa5=>
 ∃k:eZ,an h3 (a5.add (b.2.toNat*8)) 0 k/\
 aU xR (qK 170 eL (.tuple #[])) h3 λg n=>
 ag xR (qf 170 g k) n λ_ l=>
 ∃i:eZ,an l g 0 i/\
 ae xR 112 #[i] aL l λs p=>
 az xR (qq 85 1 #[(0,s)]) aL p λd o=>
 az xR (qt #[85,85] 85 #[b.1,d]) aL o λa h8=>
 r ((⟨a.ptr,a.len,a.cap⟩:Sl),qc xN (b.2+1)) h8)
 (R b.1 h3)) ((⟨eH,0,0⟩:Sl),(0:Int)) m
theorem OL(a:aT)(b:cW)(c:@Hz R h a b):ac xR 192 #[a,b] h R:=au af func192 (al.tn (al.tn (.two (al.tn (.inn (.loop [(5,ci),(12,ba)] [(5,6),(7,8),(12,22)] .n))) .n))) c
def FI(K:Sl):Prop:=
 aU xR (qK 170 eL (.tuple #[])) h λf h1=>
 ae xR 76 #[K] (.many [ba,ci,jp]) h1 λa T=>
 bi (σ:=Unit) (λ_ h5=>
 bi (σ:=Addr) (λb U=>
 bi (σ:=Unit) (λ_ Z=>
 (0<=(9:Int)/\(9:Int)<=(13:Int)/\(13:Int)<=(a.2.1.cap:Int))/\
 ae xR 246 #[(.slice (if a.2.1.cap=(9:Int).toNat then a.2.1.ptr else a.2.1.ptr.map (·.add ((9:Int).toNat*1))) ((13:Int).toNat-(9:Int).toNat) (a.2.1.cap-(9:Int).toNat))] bz Z λam ax=>
 ag xR (qf 46 (b.add 6) (xH xP (qc xP am))) ax λ_ t=>
 ∃D:bJ,an t (b.add 3) 0 D/\
 ae xR 40 #[D] bK t λad k=>
 Br (!ad)
 (ag xR (qf 170 f (xM #[(xH xN 0),(xH xN 0),(xH xN 0),(xH xN 0),(xH xN 0),(xH xN 0),(xH xP 0),(xI eH 0 0)])) k λ_ A=>
 ∃d:eZ,an A f 0 d/\
 R (.tuple #[d,eR]) A)
 (bf k ((b.add 3).add 2) λl=>
 (0<=(13:Int)/\(13:Int)<=(qc xN (13+l))/\(qc xN (13+l))<=(a.2.1.cap:Int))/\
 ae xR 146 #[(.slice (if a.2.1.cap=(13:Int).toNat then a.2.1.ptr else a.2.1.ptr.map (·.add ((13:Int).toNat*1))) ((qc xN (13+l)).toNat-(13:Int).toNat) (a.2.1.cap-(13:Int).toNat))] aL k λa2 ar=>
 ag xR (qf 34 (b.add 7) a2) ar λ_ v=>
 ∃I:eZ,an v b 0 I/\
 ae xR 112 #[I] aL v λao ay=>
 ae xR 99 #[K,ao] bK ay λa0 j=>
 Br (!a0)
 (ag xR (qf 170 f (xM #[(xH xN 0),(xH xN 0),(xH xN 0),(xH xN 0),(xH xN 0),(xH xN 0),(xH xP 0),(xI eH 0 0)])) j λ_ p=>
 ∃e:eZ,an p f 0 e/\
 R (.tuple #[e,eR]) p)
 (∃x:eZ,an j b 0 x/\
 ag xR (qf 170 f x) j λ_ E=>
 ∃c:eZ,an E f 0 c/\
 R (.tuple #[c,eL]) E)))
 (λK3=>
 (0<=(6:Int)/\(6:Int)<=(7:Int)/\(7:Int)<=(a.2.1.cap:Int))/\
 (0<=(7:Int)/\(7:Int)<=(8:Int)/\(8:Int)<=(a.2.1.cap:Int))/\
 (0<=(8:Int)/\(8:Int)<=(9:Int)/\(9:Int)<=(a.2.1.cap:Int))/\
 ae xR 246 #[(.slice (if a.2.1.cap=(6:Int).toNat then a.2.1.ptr else a.2.1.ptr.map (·.add ((6:Int).toNat*1))) ((7:Int).toNat-(6:Int).toNat) (a.2.1.cap-(6:Int).toNat))] bz U λa3 O=>
 (aA.ok [] O)/\
 ae xR 246 #[(.slice (if a.2.1.cap=(7:Int).toNat then a.2.1.ptr else a.2.1.ptr.map (·.add ((7:Int).toNat*1))) ((8:Int).toNat-(7:Int).toNat) (a.2.1.cap-(7:Int).toNat))] bz O λX s=>
 (aA.ok [] s)/\
 ae xR 246 #[(.slice (if a.2.1.cap=(8:Int).toNat then a.2.1.ptr else a.2.1.ptr.map (·.add ((8:Int).toNat*1))) ((9:Int).toNat-(8:Int).toNat) (a.2.1.cap-(8:Int).toNat))] bz s λY F=>
 (aA.ok [] F)/\
 ag xR (qf 24 (b.add 3) (xM #[a3,X,Y])) F λ_ P=>
 (aA.ok [] P)/\
 K3 () P))
 (λQ=>
 (0<=(3:Int)/\(3:Int)<=(a.2.1.cap:Int))/\
 (0<=(3:Int)/\(3:Int)<=(4:Int)/\(4:Int)<=(a.2.1.cap:Int))/\
 (0<=(4:Int)/\(4:Int)<=(6:Int)/\(6:Int)<=(a.2.1.cap:Int))/\
 (ae xR 246 #[(xI a.2.1.ptr ((3:Int).toNat) a.2.1.cap)] bz h5 λr6 h6=>
 (aA.ok [] h6)/\
 (ae xR 246 #[(.slice (if a.2.1.cap=(3:Int).toNat then a.2.1.ptr else a.2.1.ptr.map (·.add ((3:Int).toNat*1))) ((4:Int).toNat-(3:Int).toNat) (a.2.1.cap-(3:Int).toNat))] bz h6 λr7 h7=>
 (aA.ok [] h7)/\
 (ae xR 246 #[(.slice (if a.2.1.cap=(4:Int).toNat then a.2.1.ptr else a.2.1.ptr.map (·.add ((4:Int).toNat*1))) ((6:Int).toNat-(4:Int).toNat) (a.2.1.cap-(4:Int).toNat))] bz h7 λr8 h8=>
 (aA.ok [] h8)/\
 aU xR (qK 170 eL (.tuple #[])) h8 λa9 h9=>
 (aA.ok [] h9)/\
 ag xR (qf 170 a9 (xM #[r6,r7,r8,(xH xN 0),(xH xN 0),(xH xN 0),(xH xP 0),(xI eH 0 0)])) h9 λ_ N=>
 (aA.ok [] N)/\
 Q a9 N)/\(aU xR (qK 170 eL (.tuple #[])) h7 λr o=>
 (aA.ok [] o)/\
 ae xR 246 #[(.slice (if a.2.1.cap=(4:Int).toNat then a.2.1.ptr else a.2.1.ptr.map (·.add ((4:Int).toNat*1))) ((6:Int).toNat-(4:Int).toNat) (a.2.1.cap-(4:Int).toNat))] bz o λah q=>
 (aA.ok [] q)/\
 ag xR (qf 170 r (xM #[r6,r7,ah,(xH xN 0),(xH xN 0),(xH xN 0),(xH xP 0),(xI eH 0 0)])) q λ_ n=>
 (aA.ok [] n)/\
 Q r n))/\(aU xR (qK 170 eL (.tuple #[])) h6 λw u=>
 (aA.ok [] u)/\
 ae xR 246 #[(.slice (if a.2.1.cap=(3:Int).toNat then a.2.1.ptr else a.2.1.ptr.map (·.add ((3:Int).toNat*1))) ((4:Int).toNat-(3:Int).toNat) (a.2.1.cap-(3:Int).toNat))] bz u λS J=>
 (aA.ok [] J)/\
 ae xR 246 #[(.slice (if a.2.1.cap=(4:Int).toNat then a.2.1.ptr else a.2.1.ptr.map (·.add ((4:Int).toNat*1))) ((6:Int).toNat-(4:Int).toNat) (a.2.1.cap-(4:Int).toNat))] bz J λap G=>
 (aA.ok [] G)/\
 ag xR (qf 170 w (xM #[r6,S,ap,(xH xN 0),(xH xN 0),(xH xN 0),(xH xP 0),(xI eH 0 0)])) G λ_ y=>
 (aA.ok [] y)/\
 Q w y))/\(aU xR (qK 170 eL (.tuple #[])) h5 λB L=>
 (aA.ok [] L)/\
 ae xR 246 #[(xI a.2.1.ptr ((3:Int).toNat) a.2.1.cap)] bz L λab H=>
 (aA.ok [] H)/\
 ae xR 246 #[(.slice (if a.2.1.cap=(3:Int).toNat then a.2.1.ptr else a.2.1.ptr.map (·.add ((3:Int).toNat*1))) ((4:Int).toNat-(3:Int).toNat) (a.2.1.cap-(3:Int).toNat))] bz H λV m=>
 (aA.ok [] m)/\
 ae xR 246 #[(.slice (if a.2.1.cap=(4:Int).toNat then a.2.1.ptr else a.2.1.ptr.map (·.add ((4:Int).toNat*1))) ((6:Int).toNat-(4:Int).toNat) (a.2.1.cap-(4:Int).toNat))] bz m λW z=>
 (aA.ok [] z)/\
 ag xR (qf 170 B (xM #[ab,V,W,(xH xN 0),(xH xN 0),(xH xN 0),(xH xP 0),(xI eH 0 0)])) z λ_ M=>
 (aA.ok [] M)/\
 Q B M)))
 (λK1=>
 Br (!a.2.2) (ag xR (qf 170 f (xM #[(xH xN 0),(xH xN 0),(xH xN 0),(xH xN 0),(xH xN 0),(xH xN 0),(xH xP 0),(xI eH 0 0)])) T λ_ h3=>
 ∃g:eZ,an h3 f 0 g/\
 R (.tuple #[g,eR]) h3) (Br (a.1 !=1)
 (ag xR (qf 170 f (xM #[(xH xN 0),(xH xN 0),(xH xN 0),(xH xN 0),(xH xN 0),(xH xN 0),(xH xP 0),(xI eH 0 0)])) T λ_ h4=>
 ∃i:eZ,an h4 f 0 i/\
 R (.tuple #[i,eR]) h4)
 (K1 () T)))
theorem MH(a:Sl)(b:@FI R h a):ac xR 194 #[a] h R:=au af func194 (al.tn (al.tn (.two (.join [] [(3,4),(14,21)] .n) (.two (.join [(7,(.sc .adr))] [(7,8),(21,31)] .n) (.two (.join [] [(31,42)] .n) .n))))) b
def FJ(a:cW)(c:eZ):Prop:=
 aU xR (qO 44 a) h λg n=>
 aU xR (qO 170 c) n λb e=>
 bi (σ:=Unit) (λ_ f=>
 bn f (g.add 7) λl=>
 ae xR 165 #[l,(.func (.func 247) #[] #[b])] bK f λd o=>
 R d o)
 (λm=>
 ∃x3:eZ,an e b 0 x3/\
 ae xR 184 #[x3] bK e λp h3=>
 Br (!p) (R eR h3) (∃j:bJ,an h3 (b.add 3) 0 j/\
 ∃k:bJ,an h3 (g.add 2) 0 k/\
 ∃i:Bool,(ke xR .neq 24 (.tmp 10) (.tmp 12) j k (xL i))/\
 Br i
 (R eR h3)
 (m () h3)))
theorem MI(b:cW)(a:eZ)(c:@FJ R h b a):ac xR 195 #[b,a] h R:=au af func195 (al.tn (.two (.join [] [(4,15)] .n) .n)) c
def gb(b:Sl)(a:cI):Prop:=
 ae xR 248 #[b,(xH xN (b.len:Int)),(.func (.func a.1) a.2.1 a.2.2)] hJ h λ_ c=>
 R (.tuple #[]) c
theorem jQ(b:Sl)(a:cI)(c:@gb R h b a):ac xR 196 #[b,(.func (.func a.1) a.2.1 a.2.2)] h R:=au af func196 .n c
def HB(l:eZ)(g:eZ):Prop:=
 aU xR (qO 170 l) h λb s=>
 aU xR (qO 170 g) s λc a=>
 bf a b λx3=>
 bf a c λt=>
 bf a (b.add 1) λn=>
 bf a (c.add 1) λq=>
 bf a (b.add 2) λj=>
 bf a (c.add 2) λi=>
 ae xR 183 #[x3,t] bz a λu h3=>
 (aA.ok [(c.add 2,i),(b.add 2,j),(c.add 1,q),(b.add 1,n)] h3)/\
 ae xR 183 #[n,q] bz h3 λe m=>
 (aA.ok [(c.add 2,i),(b.add 2,j)] m)/\
 ae xR 183 #[j,i] bz m λf r=>
 (aA.ok [] r)/\
 az xR (qq 22 3 #[(0,u),(1,e),(2,f)]) aL r λk p=>
 (aA.ok [] p)/\
 ae xR 181 #[k] bz p λd o=>
 (aA.ok [] o)/\
 R d o
theorem OM(a:eZ)(b:eZ)(c:@HB R h a b):ac xR 197 #[a,b] h R:=au af func197 .n c
def gx(a:Sl)(c:cI):Prop:=
 Br ((a.len:Int)<2)
 (R a h)
 (aM (σ:=Int) (λd t m=>
 Br (d<(a.len:Int))
 (aR a d λu=>
 ∃x3:eZ,an m (u.add (d.toNat*8)) 0 x3/\
 aR a (qc xN (d-1)) λa4=>
 ∃g:eZ,an m (a4.add ((qc xN (d-1)).toNat*8)) 0 g/\
 ia C c.1 (c.2.1.toList++[(xM #[x3.1,x3.2.1,x3.2.2.1,x3.2.2.2.1,x3.2.2.2.2.1,x3.2.2.2.2.2.1,(xH xP x3.2.2.2.2.2.2.1),x3.2.2.2.2.2.2.2]),(xM #[g.1,g.2.1,g.2.2.1,g.2.2.2.1,g.2.2.2.2.1,g.2.2.2.2.2.1,(xH xP g.2.2.2.2.2.2.1),g.2.2.2.2.2.2.2])]++c.2.2.toList) bK m λw n=>
 (aA.ok [] n)/\
 Br w
 ((0<=d/\d<=(a.len:Int))/\
 aM (σ:=Int×Int) (λb q h3=>
 Br (decide (b.2<(((a.len-d.toNat):Nat):Int)))
 (∃r:Addr,((if a.cap=d.toNat then a.ptr else a.ptr.map (·.add (d.toNat*8)))=dB r/\0<=b.2/\b.2<(((a.len-d.toNat):Nat):Int))/\
 ∃f:eZ,an h3 (r.add (b.2.toNat*8)) 0 f/\
 ∃i:Addr,((if a.cap=d.toNat then a.ptr else a.ptr.map (·.add (d.toNat*8)))=dB i/\0<=(qc xN (b.2-1))/\(qc xN (b.2-1))<(((a.len-d.toNat):Nat):Int))/\
 ∃e:eZ,an h3 (i.add ((qc xN (b.2-1)).toNat*8)) 0 e/\
 ia C c.1 (c.2.1.toList++[(xM #[f.1,f.2.1,f.2.2.1,f.2.2.2.1,f.2.2.2.2.1,f.2.2.2.2.2.1,(xH xP f.2.2.2.2.2.2.1),f.2.2.2.2.2.2.2]),(xM #[e.1,e.2.1,e.2.2.1,e.2.2.2.1,e.2.2.2.2.1,e.2.2.2.2.2.1,(xH xP e.2.2.2.2.2.2.1),e.2.2.2.2.2.2.2])]++c.2.2.toList) bK h3 λo l=>
 (aA.ok [] l)/\
 Br (!o)
 (∃j:Addr,((if a.cap=d.toNat then a.ptr else a.ptr.map (·.add (d.toNat*8)))=dB j/\0<=b.2/\b.2<(((a.len-d.toNat):Nat):Int))/\
 ∃k:eZ,an l (j.add (b.2.toNat*8)) 0 k/\
 aR a b.1 λp=>
 ag xR (qf 170 (p.add (b.1.toNat*8)) k) l λ_ v=>
 q (qc xN (b.1+1),qc xN (b.2+1)) v)
 (q (b.1,qc xN (b.2+1)) l))
 ((0<=b.1/\b.1<=(a.len:Int))/\
 ag xR (yy #[189] 0 #[(.slice (if a.cap=b.1.toNat then a.ptr else a.ptr.map (·.add (b.1.toNat*8))) (a.len-b.1.toNat) (a.cap-b.1.toNat))]) h3 λ_ s=>
 (0<=b.1/\b.1<=(a.cap:Int))/\
 R (xI a.ptr b.1.toNat a.cap) s)) (d,(1:Int)) n)
 (t (qc xN (d+1)) n))
 (R a m)) (1:Int) h)
theorem kI(b:Sl)(a:cI)(c:@gx R h b a):ac xR 198 #[b,(.func (.func a.1) a.2.1 a.2.2)] h R:=au af func198 (al.tn (al.tn (.two (al.tn (.inn (.loop [(5,ba)] [(4,8),(12,65)] (al.tn (.two (.inn (al.tn (.two (al.tn (.two (al.tn (.inn (.loop [(5,ba),(7,ba)] [(5,6),(7,8),(32,59)] .n))) .n)) .n))) .n))))) .n))) c
def Ax(b:eZ)(c:eZ):Prop:=
 aU xR (qO 170 b) h λg i=>
 aU xR (qO 170 c) i λf a=>
 ∃x3:eZ,an a g 0 x3/\
 ∃d:eZ,an a f 0 d/\
 ae xR 197 #[x3,d] bz a λe h3=>
 R (xL (e==0)) h3
theorem HC(a:eZ)(b:eZ)(c:@Ax R h a b):ac xR 199 #[a,b] h R:=au af func199 .n c
def PX(a:Sl):Prop:=
 aM (σ:=Int) (λc d b=>
 Br (c<(a.len:Int))
 (aR a c λe=>
 bn b (e.add (c.toNat*1)) λx3=>
 aR a (0:Int) λa4=>
 bn b (a4.add ((0:Int).toNat*1)) λf=>
 Br ((x3.len:Int) !=(f.len:Int)) (R eR b) (Br ((x3.len:Int)>64)
 (R eR b)
 (d (qc xN (c+1)) b)))
 (R eL b)) (0:Int) h
theorem VE(a:Sl)(b:@PX R h a):ac xR 200 #[a] h R:=au af func200 (al.tn (.two (al.tn (.inn (.loop [(7,ba)] [(2,3),(4,5),(7,24)] .n))) .n)) b
def PY(a:Sl):Prop:=
 az xR (qF 85 (xH xN 0) (xH xN (a.len:Int))) aL h λe k=>
 aM (σ:=Sl×Int) (λb i c=>
 Br (b.2<(a.len:Int))
 (aR a b.2 λa3=>
 bn c (a3.add (b.2.toNat*1)) λg=>
 ae xR 146 #[g] aL c λf h3=>
 az xR (qq 85 1 #[(0,f)]) aL h3 λm j=>
 az xR (qt #[85,85] 85 #[b.1,m]) aL j λd l=>
 i ((⟨d.ptr,d.len,d.cap⟩:Sl),qc xN (b.2+1)) l)
 (R b.1 c)) ((⟨e.ptr,e.len,e.cap⟩:Sl),(0:Int)) k
theorem VF(a:Sl)(b:@PY R h a):ac xR 201 #[a] h R:=au af func201 (al.tn (al.tn (.two (al.tn (.inn (.loop [(3,ci),(11,ba)] [(3,4),(5,6),(11,21)] .n))) .n))) b
def HD(g:aT)(b:Sl)(e:Int):Prop:=
 aM (σ:=Int×Int) (λa H G=>
 Br (a.2<e)
 (ae xR 249 #[b,a.1,a.2] bz G λk p=>
 Br (k<0)
 (H (a.1,qc xN (a.2+1)) p)
 (bi (σ:=Unit) (λ_ q=>
 bi (σ:=Unit) (λ_ N=>
 aM (σ:=Int) (λc D d=>
 Br (c<(b.len:Int))
 (Br (c !=a.1)
 (aR b c λn=>
 bn d (n.add (c.toNat*1)) λm=>
 aR m a.2 λu=>
 gF .u8 d (u.add (a.2.toNat*1)) λt=>
 aR b a.1 λa25=>
 bn d (a25.add (a.1.toNat*1)) λr=>
 aR b c λA=>
 bn d (A.add (c.toNat*1)) λz=>
 ae xR 252 #[g,(xH xO t),r,z] hJ d λ_ o=>
 (aA.ok [(n.add (c.toNat*1),m)] o)/\
 D (qc xN (c+1)) o)
 (D (qc xN (c+1)) d))
 (H (qc xN (a.1+1),qc xN (a.2+1)) d)) (0:Int) N)
 (λJ=>
 aR b a.1 λf=>
 bn q (f.add (a.1.toNat*1)) λi=>
 aR i a.2 λx=>
 gF .u8 q (x.add (a.2.toNat*1)) λw=>
 aR b a.1 λj=>
 bn q (j.add (a.1.toNat*1)) λl=>
 ae xR 251 #[g,(xH xO w)] (.one (.sc (.int .u8))) q λv F=>
 (aA.ok [(j.add (a.1.toNat*1),l),(f.add (a.1.toNat*1),i)] F)/\
 ae xR 250 #[g,(xH xO v),l] aL F λs E=>
 (aA.ok [(f.add (a.1.toNat*1),i)] E)/\
 aR b a.1 λy=>
 ag xR (qf 34 (y.add (a.1.toNat*1)) s) E λ_ h8=>
 (aA.ok [] h8)/\
 J () h8))
 (λL=>
 aR b k λa3=>
 bn p (a3.add (k.toNat*1)) λM=>
 aR b a.1 λa5=>
 bn p (a5.add (a.1.toNat*1)) λK=>
 aR b a.1 λI=>
 ag xR (qf 34 (I.add (a.1.toNat*1)) M) p λ_ h3=>
 (aA.ok [] h3)/\
 aR b k λO=>
 ag xR (qf 34 (O.add (k.toNat*1)) K) h3 λ_ B=>
 (aA.ok [] B)/\
 L () B)))
 (R a.1 G)) ((0:Int),(0:Int)) h
theorem ON(c:aT)(b:Sl)(a:Int)(d:@HD R h c b a):ac xR 202 #[c,b,a] h R:=au af func202 (al.tn (al.tn (.two (al.tn (.inn (.loop [(7,ba),(12,ba)] [(7,11),(12,82)] (al.tn (al.tn (.two (.inn (al.tn (al.tn (al.tn (.two (.join [] [(21,35)] .n) (.two (.join [] [(35,53)] .n) (.two (al.tn (.inn (.loop [(55,ba)] [(10,11),(55,79)] .n))) .n))))))) .n)))))) .n))) d
def MJ(a:aT):Prop:=
 Br (qW a)
 (ae xR 65 #[] jo h λb c=>
 R b c)
 (R a h)
theorem TD(a:aT)(b:@MJ R h a):ac xR 203 #[a] h R:=au af func203 .n b
def JX(a:Sl):Prop:=
 Br ((a.len:Int)==0)
 (R (xH xN 0) h)
 (aR a (0:Int) λb=>
 bn h (b.add ((0:Int).toNat*1)) λx2=>
 R (xH xN (x2.len:Int)) h)
theorem Ri(a:Sl)(b:@JX R h a):ac xR 204 #[a] h R:=au af func204 .n b
def MK(c:Int)(d:Int):Prop:=
 aM (σ:=bJ) (λa i b=>
 Br (a.2.1==0)
 (R (xH xO a.2.2) b)
 (bi (σ:=Int) (λk e=>
 (0<=(1:Int))/\
 bi (σ:=Int) (λj h3=>
 (0<=(1:Int))/\
 i (j,qX a.2.1 (2^min (1:Int).toNat (qk xO)),k) h3)
 (λg=>
 Br ((qc xO ((qD (qk xO) a.1&&&(qD (qk xO) (128:Int))).toNat:Nat)) !=0)
 (g (qc xO ((qD (qk xO) (qc xO (a.1*2^min (1:Int).toNat (qk xO)))^^^(qD (qk xO) (27:Int))).toNat:Nat)) e)
 (g (qc xO (a.1*2^min (1:Int).toNat (qk xO))) e)))
 (λf=>
 Br ((qc xO ((qD (qk xO) a.2.1&&&(qD (qk xO) (1:Int))).toNat:Nat))==1)
 (f (qc xO ((qD (qk xO) a.2.2^^^(qD (qk xO) a.1)).toNat:Nat)) b)
 (f a.2.2 b)))) (c,d,(0:Int)) h
theorem TE(a:Int)(b:Int)(c:@MK R h a b):ac xR 205 #[(xH xO a),(xH xO b)] h R:=au af func205 (al.tn (.scope 0 [(0,(.sc (.int .u8))),(1,(.sc (.int .u8))),(5,(.sc (.int .u8)))] [(0,2),(4,26)] [.n] [(al.tn (.two (.join [(5,(.sc (.int .u8)))] [(5,6),(10,16)] .n) (al.tn (al.tn (.two (.join [(0,(.sc (.int .u8)))] [(0,1),(21,24)] .n) .n)))))] [])) c
def Dm(a:aT):Prop:=
 Br (qW a)
 (ae xR 65 #[] jo h λb c=>
 R b c)
 (R a h)
theorem KU(a:aT)(b:@Dm R h a):ac xR 206 #[a] h R:=au af func206 .n b
def ML(b:aT)(d:Int)(c:Sl)(a:Sl):Prop:=
 ae xR 250 #[b,(xH xO d),c] aL h λg i=>
 ae xR 253 #[g,a] (.many [ci,jp]) i λe f=>
 R (.tuple #[e.1,e.2]) f
theorem TF(c:aT)(d:Int)(b:Sl)(a:Sl)(e:@ML R h c d b a):ac xR 207 #[c,(xH xO d),b,a] h R:=au af func207 .n e
def lq(b:Sl)(a:cI):Prop:=
 aM (σ:=Int) (λc f d=>
 Br (c<(b.len:Int))
 (aR b c λg=>
 gF .u8 d (g.add (c.toNat*1)) λx3=>
 ia C a.1 (a.2.1.toList++[(xH xO x3)]++a.2.2.toList) bK d λi e=>
 Br i
 (R c e)
 (f (qc xN (c+1)) e))
 (R (xH xN (-1:Int)) d)) (0:Int) h
theorem rc(b:Sl)(a:cI)(c:@lq R h b a):ac xR 208 #[b,(.func (.func a.1) a.2.1 a.2.2)] h R:=au af func208 (al.tn (.two (al.tn (.inn (.loop [(8,ba)] [(4,6),(8,19)] .n))) .n)) c
def HE(a:Int):Prop:=
 R (xL (a !=0)) h
theorem OO(a:Int)(b:@HE R h a):ac xR 209 #[(xH xO a)] h R:=au af func209 .n b
def Ay(b:aT):Prop:=
 Br (qW b)
 (R (xI eH 0 0) h)
 (∃e,(b=dB e)/\
 bn h (e.add 2) λx2=>
 aM (σ:=Sl×Int) (λa g c=>
 Br (a.2<(x2.len:Int))
 (aR x2 a.2 λa4=>
 bn c (a4.add (a.2.toNat*1)) λk=>
 ae xR 146 #[k] aL c λl f=>
 az xR (qq 85 1 #[(0,l)]) aL f λi h3=>
 az xR (qt #[85,85] 85 #[a.1,i]) aL h3 λd j=>
 g ((⟨d.ptr,d.len,d.cap⟩:Sl),qc xN (a.2+1)) j)
 (R a.1 c)) ((⟨eH,0,0⟩:Sl),(0:Int)) h)
theorem HG(a:aT)(b:@Ay R h a):ac xR 210 #[a] h R:=au af func210 (al.tn (al.tn (al.tn (.two (al.tn (.inn (.loop [(3,ci),(13,ba)] [(3,4),(5,6),(13,23)] .n))) .n)))) b
def ph(a:Int):Prop:=
 az xR (qq 37 5 #[(0,afQ),(1,afR),(2,Yk),(3,afS),(4,Hd)]) aL h λf e=>
 ae xR 12 #[a,(xH xN 5)] bz e λc b=>
 aR f c λa3=>
 td b (a3.add (c.toNat*1)) λd=>
 R d b
theorem Be(a:Int)(b:@ph R h a):ac xR 211 #[a] h R:=au af func211 .n b
def og(b:Int)(a:Addr):Prop:=
 bf h a λc=>
 R c h
theorem Az(b:Int)(a:Addr)(c:@og R h b a):ac xR 212 #[b,a] h R:=au af func212 .n c
def PZ(c:Sl):Prop:=
 aM (σ:=Int×Int) (λb g e=>
 Br (b.2<(c.len:Int))
 (aR c b.2 λi=>
 gF .u8 e (i.add (b.2.toNat*1)) λx3=>
 aM (σ:=Int×Int) (λa f d=>
 Br (a.2<8)
 ((0<=(1:Int))/\
 Br ((qc xP ((qD (qk xP) a.1&&&(qD (qk xP) (1:Int))).toNat:Nat))==1)
 (f (qc xP ((qD (qk xP) (qX a.1 (2^min (1:Int).toNat (qk xP)))^^^(qD (qk xP) (3988292384:Int))).toNat:Nat),qc xN (a.2+1)) d)
 (f (qX a.1 (2^min (1:Int).toNat (qk xP)),qc xN (a.2+1)) d))
 (g (a.1,qc xN (b.2+1)) d)) (qc xP ((qD (qk xP) b.1^^^(qD (qk xP) (qc xP x3))).toNat:Nat),(0:Int)) e)
 (R (xH xP (qc xP ((qD (qk xP) (4294967295:Int)^^^(qD (qk xP) b.1)).toNat:Nat))) e)) ((4294967295:Int),(0:Int)) h
theorem VG(a:Sl)(b:@PZ R h a):ac xR 213 #[a] h R:=au af func213 (al.tn (al.tn (.two (al.tn (.inn (.loop [(3,(.sc (.int .u32))),(9,ba)] [(3,4),(5,7),(9,29)] (al.tn (al.tn (.two (.inn (al.tn (al.tn (al.tn (.inn (.loop [(3,(.sc (.int .u32))),(17,ba)] [(3,4),(6,7),(17,28)] .n)))))) .n)))))) .n))) b
def gU(b:Sl)(a:cI):Prop:=
 aM (σ:=Int) (λc f d=>
 Br (c<(b.len:Int))
 (aR b c λg=>
 ∃x3:Int×Sl,an d (g.add (c.toNat*2)) 0 x3/\
 ia C a.1 (a.2.1.toList++[(xM #[x3.1,x3.2])]++a.2.2.toList) bK d λi e=>
 Br i
 (R c e)
 (f (qc xN (c+1)) e))
 (R (xH xN (-1:Int)) d)) (0:Int) h
theorem lr(b:Sl)(a:cI)(c:@gU R h b a):ac xR 215 #[b,(.func (.func a.1) a.2.1 a.2.2)] h R:=au af func215 (al.tn (.two (al.tn (.inn (.loop [(8,ba)] [(4,6),(8,19)] .n))) .n)) c
def JY(b:Int)(c:Sl):Prop:=
 ae xR 263 #[b,c] bK h λO B=>
 Br (!O)
 (R (.tuple #[(xI eH 0 0),(xI eH 0 0),(xI eH 0 0),(xH xN 1)]) B)
 (bi (σ:=aT) (λp h8=>
 ae xR 264 #[p] hJ h8 λ_ Q=>
 aM (σ:=Sl×Int) (λa J e=>
 Br (a.2<(c.len:Int))
 (aR c a.2 λw=>
 ∃o:Sl×Sl,an e (w.add (a.2.toNat*2)) 0 o/\
 aU xR (qK 275 eL (.tuple #[])) e λl E=>
 ag xR (qf 275 l o) E λ_ j=>
 ∃m:Sl×Sl,an j l 0 m/\
 ae xR 265 #[p,m] (.one (.agg [.slc,.slc])) j λr s=>
 aU xR (qK 275 eL (.tuple #[])) s λf z=>
 ag xR (qf 275 f r) z λ_ d=>
 bn d f λv=>
 Br ((v.len:Int)>0)
 (∃k:Sl×Sl,an d f 0 k/\
 az xR (qq 273 1 #[(0,k)]) aL d λx D=>
 az xR (qt #[273,273] 273 #[a.1,x]) aL D λg A=>
 J ((⟨g.ptr,g.len,g.cap⟩:Sl),qc xN (a.2+1)) A)
 (bn d (f.add 1) λu=>
 ae xR 266 #[u] bK d λy n=>
 Br (!y)
 (R (.tuple #[(xI eH 0 0),(xI eH 0 0),(xI eH 0 0),(xH xN 10)]) n)
 (J ((⟨a.1.ptr,a.1.len,a.1.cap⟩:Sl),qc xN (a.2+1)) n)))
 (∃i,(p=dB i)/\
 bn e (i.add 1) λt=>
 ∃a25,(p=dB a25)/\
 bn e (a25.add 2) λq=>
 R (.tuple #[t,q,a.1,(xH xN 0)]) e)) ((⟨eH,0,0⟩:Sl),(0:Int)) Q)
 (λK=>
 (az xR (qF 282 b b) aL B λP F=>
 (aA.ok [] F)/\
 az xR (qF 85 b b) aL F λv3 h3=>
 (aA.ok [] h3)/\
 aU xR (qO 326 (xM #[c,P,v3])) h3 λa4 G=>
 (aA.ok [] G)/\
 K (dB a4) G)/\(az xR (qF 85 b b) aL B λv5 L=>
 (aA.ok [] L)/\
 az xR (qF 282 b b) aL L λM I=>
 (aA.ok [] I)/\
 aU xR (qO 326 (xM #[c,M,v5])) I λN H=>
 (aA.ok [] H)/\
 K (dB N) H)))
theorem Rj(a:Int)(b:Sl)(c:@JY R h a b):ac xR 216 #[a,b] h R:=au af func216 (al.tn (al.tn (.two (.join [(8,LX)] [(8,9),(16,23)] .n) (al.tn (.two (al.tn (.inn (.loop [(6,ci),(27,ba)] [(4,8),(10,12),(27,47)] .n))) .n))))) c
def pi(B:aT)(b:Sl):Prop:=
 aU xR (qO 276 B) h λn z=>
 jI z n λx2=>
 ∃a3,(x2=dB a3)/\
 bn z (a3.add 5) λM=>
 aM (σ:=Sl×Int) (λd Q o=>
 Br (d.2<(M.len:Int))
 (aR M d.2 λS=>
 ∃K:Sl×Sl,an o (S.add (d.2.toNat*2)) 0 K/\
 aU xR (qK 275 eL (.tuple #[])) o λN h3=>
 ag xR (qf 275 N K) h3 λ_ J=>
 bn J N λO=>
 az xR (qq 51 1 #[(0,O)]) aL J λE T=>
 az xR (qt #[51,51] 51 #[d.1,E]) aL T λe P=>
 Q ((⟨e.ptr,e.len,e.cap⟩:Sl),qc xN (d.2+1)) P)
 (aM (σ:=Sl×Int) (λa L m=>
 Br (a.2<(b.len:Int))
 (aR b a.2 λx=>
 rC m (x.add (a.2.toNat*1)) λD=>
 Br D
 (az xR (qq 22 1 #[(0,a.2)]) aL m λp h8=>
 az xR (qq 51 1 #[(0,p)]) aL h8 λv U=>
 az xR (qt #[51,51] 51 #[a.1,v]) aL U λg H=>
 L ((⟨g.ptr,g.len,g.cap⟩:Sl),qc xN (a.2+1)) H)
 (L ((⟨a.1.ptr,a.1.len,a.1.cap⟩:Sl),qc xN (a.2+1)) m))
 (ae xR 267 #[(xH xN (b.len:Int)),a.1] (.many [(.agg [.slc,.slc,.slc]),jp]) m λr I=>
 aU xR (qK 279 eL (.tuple #[])) I λc t=>
 ag xR (qf 279 c r.1) t λ_ i=>
 bn i c λF=>
 ae xR 268 #[F,(.func (.func 269) #[] #[n])] aL i λs u=>
 ag xR (qf 277 c s) u λ_ l=>
 bn l (c.add 2) λw=>
 ae xR 270 #[w,(.func (.func 271) #[] #[n])] aL l λy A=>
 ag xR (qf 22 (c.add 2) y) A λ_ f=>
 jI f n λq=>
 ∃k:Sl×Sl×Sl,an f c 0 k/\
 ∃j,(q=dB j)/\
 ag xR (qf 279 (j.add 6) k) f λ_ G=>
 R (.tuple #[]) G)) ((⟨d.1.ptr,d.1.len,d.1.cap⟩:Sl),(0:Int)) o)) ((⟨eH,0,0⟩:Sl),(0:Int)) z
theorem Bf(b:aT)(a:Sl)(c:@pi R h b a):ac xR 217 #[b,a] h R:=au af func217 (al.tn (al.tn (.two (al.tn (.inn (.loop [(4,ci),(16,ba)] [(4,5),(6,7),(16,26)] .n))) (.two (al.tn (.inn (.loop [(4,ci),(28,ba)] [(4,5),(7,9),(28,40)] .n))) .n)))) c
def pj(a:aT):Prop:=
 ∃a1,(a=dB a1)/\
 bn h ((a1.add 6).add 1) λx2=>
 bi (σ:=Unit) (λ_ Y=>
 ∃ap,(a=dB ap)/\
 bn Y ((ap.add 6).add 1) λH=>
 aM (σ:=Int) (λi K2 d=>
 Br (i<(H.len:Int))
 (aR H i λcp=>
 bf d (cp.add (i.toNat*1)) λb=>
 bi (σ:=Unit) (λ_ z=>
 ∃bd,(a=dB bd)/\
 bn z (bd.add 9) λb9=>
 aR b9 b λcd=>
 bn z (cd.add (b.toNat*1)) λbr=>
 aR br i λb3=>
 ag xR (qf 5 (b3.add (i.toNat*1)) (xH xO 1)) z λ_ b6=>
 K2 (qc xN (i+1)) b6)
 (λK3=>
 ∃j,(a=dB j)/\
 bn d (j.add 9) λg=>
 ∃a25,(a=dB a25)/\
 bn d (a25.add 10) λe=>
 ∃D,(a=dB D)/\
 bf d ((D.add 1).add 2) λf=>
 (az xR (qF 34 (xH xN (x2.len:Int)) (xH xN (x2.len:Int))) aL d λa0 A=>
 (aA.ok [((D.add 1).add 2,f),(a25.add 10,e),(j.add 9,g)] A)/\
 aR g b λa6=>
 (az xR (qF 34 f f) aL A λc4 S=>
 (aA.ok [(a25.add 10,e),(j.add 9,g)] S)/\
 ag xR (qf 34 (a6.add (b.toNat*1)) a0) S λ_ J=>
 (aA.ok [] J)/\
 aR e b λc0=>
 ag xR (qf 34 (c0.add (b.toNat*1)) c4) J λ_ P=>
 (aA.ok [] P)/\
 K3 () P)/\(ag xR (qf 34 (a6.add (b.toNat*1)) a0) A λ_ bk=>
 (aA.ok [] bk)/\
 az xR (qF 34 f f) aL bk λb2 ao=>
 (aA.ok [] ao)/\
 aR e b λb0=>
 ag xR (qf 34 (b0.add (b.toNat*1)) b2) ao λ_ V=>
 (aA.ok [] V)/\
 K3 () V))/\(az xR (qF 34 f f) aL d λb5 ah=>
 (aA.ok [(a25.add 10,e),(j.add 9,g)] ah)/\
 az xR (qF 34 (xH xN (x2.len:Int)) (xH xN (x2.len:Int))) aL ah λb7 T=>
 (aA.ok [(a25.add 10,e),(j.add 9,g)] T)/\
 aR g b λcs=>
 ag xR (qf 34 (cs.add (b.toNat*1)) b7) T λ_ L=>
 (aA.ok [] L)/\
 aR e b λcq=>
 ag xR (qf 34 (cq.add (b.toNat*1)) b5) L λ_ bl=>
 (aA.ok [] bl)/\
 K3 () bl)))
 (∃a45,(a=dB a45)/\
 bn d (a45.add 6) λab=>
 aM (σ:=Int) (λn K4 s=>
 Br (n<(ab.len:Int))
 (aR ab n λc2=>
 ∃N:Int×Int,an s (c2.add (n.toNat*2)) 0 N/\
 aU xR (qK 332 eL (.tuple #[])) s λa50 cf=>
 ag xR (qf 332 a50 N) cf λ_ p=>
 bi (σ:=Addr) (λE B=>
 bi (σ:=Sl×Sl) (λq G=>
 bn G E λU=>
 aM (σ:=Int) (λk K7 c=>
 Br (k<(U.len:Int))
 (aR U k λa66=>
 bf c (a66.add (k.toNat*1)) λM=>
 bf c (a50.add 1) λcr=>
 Br (M !=cr)
 (ae xR 272 #[a,(xH xO 1),M,q.1,q.2] hJ c λ_ c5=>
 K7 (qc xN (k+1)) c5)
 (K7 (qc xN (k+1)) c))
 (∃a70,(a=dB a70)/\
 bn c (a70.add 9) λcc=>
 bf c (a50.add 1) λbq=>
 ∃a7,(a=dB a7)/\
 bn c (a7.add 10) λc1=>
 bf c (a50.add 1) λt=>
 aR cc bq λa76=>
 ag xR (qf 34 (a76.add (bq.toNat*1)) q.1) c λ_ Q=>
 (aA.ok [(a50.add 1,t)] Q)/\
 aR c1 t λa77=>
 ag xR (qf 34 (a77.add (t.toNat*1)) q.2) Q λ_ Z=>
 (aA.ok [] Z)/\
 K4 (qc xN (n+1)) Z)) (0:Int) G)
 (λK6=>
 bn B (E.add 1) λy=>
 (az xR (qF 34 (xH xN (x2.len:Int)) (xH xN (x2.len:Int))) aL B λv bb=>
 (aA.ok [(E.add 1,y)] bb)/\
 ae xR 146 #[y] aL bb λw ad=>
 (aA.ok [] ad)/\
 K6 ((⟨v.ptr,v.len,v.cap⟩:Sl),(⟨w.ptr,w.len,w.cap⟩:Sl)) ad)/\(ae xR 146 #[y] aL B λF I=>
 (aA.ok [] I)/\
 az xR (qF 34 (xH xN (x2.len:Int)) (xH xN (x2.len:Int))) aL I λu X=>
 (aA.ok [] X)/\
 K6 ((⟨u.ptr,u.len,u.cap⟩:Sl),(⟨F.ptr,F.len,F.cap⟩:Sl)) X)))
 (λK5=>
 ∃a51,(a=dB a51)/\
 bn p (a51.add 5) λW=>
 bf p a50 λl=>
 aR W l λx=>
 ∃o:Sl×Sl,an p (x.add (l.toNat*2)) 0 o/\
 aU xR (qK 275 eL (.tuple #[])) p λK O=>
 (aA.ok [(x.add (l.toNat*2),o.1),((x.add (l.toNat*2)).add 1,o.2),(a50,l),(a51.add 5,W)] O)/\
 ag xR (qf 275 K o) O λ_ a2=>
 (aA.ok [] a2)/\
 K5 K a2))
 (R (.tuple #[]) s)) (0:Int) d)) (0:Int) Y)
 (λK1=>
 ∃a3,(a=dB a3)/\
 bn h (a3.add 4) λr=>
 ∃a5,(a=dB a5)/\
 bn h (a5.add 4) λm=>
 (az xR (qF 85 (xH xN (r.len:Int)) (xH xN (r.len:Int))) aL h λv7 h1=>
 (aA.ok [(a5.add 4,m),(a3.add 4,r)] h1)/\
 ∃a8,(a=dB a8)/\
 (az xR (qF 85 (xH xN (m.len:Int)) (xH xN (m.len:Int))) aL h1 λv9 h2=>
 (aA.ok [(a5.add 4,m),(a3.add 4,r)] h2)/\
 ag xR (qf 85 (a8.add 9) v7) h2 λ_ h3=>
 (aA.ok [] h3)/\
 ∃a4,(a=dB a4)/\
 ag xR (qf 85 (a4.add 10) v9) h3 λ_ h4=>
 (aA.ok [] h4)/\
 K1 () h4)/\(ag xR (qf 85 (a8.add 9) v7) h1 λ_ h5=>
 (aA.ok [] h5)/\
 az xR (qF 85 (xH xN (m.len:Int)) (xH xN (m.len:Int))) aL h5 λb1 h6=>
 (aA.ok [] h6)/\
 ∃a9,(a=dB a9)/\
 ag xR (qf 85 (a9.add 10) b1) h6 λ_ h7=>
 (aA.ok [] h7)/\
 K1 () h7))/\(az xR (qF 85 (xH xN (m.len:Int)) (xH xN (m.len:Int))) aL h λcn h8=>
 (aA.ok [(a5.add 4,m),(a3.add 4,r)] h8)/\
 az xR (qF 85 (xH xN (r.len:Int)) (xH xN (r.len:Int))) aL h8 λb4 h9=>
 (aA.ok [(a5.add 4,m),(a3.add 4,r)] h9)/\
 ∃am,(a=dB am)/\
 ag xR (qf 85 (am.add 9) b4) h9 λ_ ax=>
 (aA.ok [] ax)/\
 ∃ar,(a=dB ar)/\
 ag xR (qf 85 (ar.add 10) cn) ax λ_ ay=>
 (aA.ok [] ay)/\
 K1 () ay))
theorem Bg(a:aT)(b:@pj R h a):ac xR 218 #[a] h R:=au af func218 (al.tn (.two (.join [] [(18,36)] .n) (.two (al.tn (.inn (.loop [(42,ba)] [(3,5),(42,77)] (al.tn (al.tn (.two (.inn (al.tn (.two (.join [] [(47,67)] .n) .n))) .n)))))) (al.tn (.inn (.loop [(83,ba)] [(6,10),(11,12),(83,134)] (al.tn (al.tn (.two (.inn (al.tn (.two (.join [(7,(.sc .adr))] [(7,8),(87,95)] .n) (.two (.join [(8,ci),(9,ci)] [(8,10),(95,100)] .n) (.two (al.tn (.inn (.loop [(103,ba)] [(11,12),(103,117)] .n))) .n))))) .n))))))))) b
end
end Go.Qw
