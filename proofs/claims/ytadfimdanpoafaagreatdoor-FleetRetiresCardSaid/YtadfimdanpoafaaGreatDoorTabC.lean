/- Lemmas. -/
import Derived.Test.YtadfimdanpoafaaGreatDoorTabA
set_option linter.unusedVariables false
open Go.Proofs.Tryz renaming prog -> xx
open Option renaming isNone -> ze
open Go.Value renaming agg -> xr, bool -> xq, int -> xl, pointer -> xo, slice -> xn, string -> xp
open Go.Instr renaming alloc -> qK, box -> qM, buildSlice -> qt, makeSlice -> qF, storeAt -> qf
open Go.IntKind renaming bits -> qk, i64 -> xt, u32 -> xv, u64 -> xw, u8 -> xu, wrap -> qc
open Go.Builtin renaming append_ -> qw, copy_ -> wX
open Int renaming fdiv -> qU, tmod -> z7
open BitVec renaming ofInt -> qC
open Go.Proofs.Tryz
set_option maxRecDepth 1000000
namespace Go.Qw
noncomputable section
open Go Go.Vc Go.Proofs
variable {R:AX} {h:Heap}
def ws(a:aO):Prop:=
 Br (!(ze a)) (∃b,(a=some b)/\
 ∃x2:Bool,cellOf h b=some (xq x2)/\
 R (xq (!x2)) h) (R false h)
theorem FR(a:aO)(b:@ws R h a):ac xx 99 #[a] h R:=au ae func99 .n b
def KC(D:cJ):Prop:=
 aK xx (qM 59 D) h fun c K=>
 bf (σ:=Unit) (fun _ J=>
 bf (σ:=Unit) (fun _ h8=>
 ∃f:Sl,cellOf h8 (c.add 7)=some (f:Value)/\
 aJ (σ:=Int) (fun a Q y=>
 Br (a<(f.len:Int))
 (∃s,(f.ptr=some s/\0<=a/\a<(f.len:Int))/\
 ∃l:iX,aj y (s.add (a.toNat*4)) 0 l/\
 aK xx (qK 105 true (.tuple #[])) y fun e A=>
 ag xx (qf 105 e l) A fun _ i=>
 bf (σ:=Unit) (fun _ n=>
 ∃d:Sl,cellOf n (c.add 7)=some (d:Value)/\
 (0<=a/\a<=(d.cap:Int))/\
 af xx 192 #[(xn d.ptr a.toNat d.cap),(.func (.func 193) #[] #[e])] bE n fun z k=>
 Br z
 (R false k)
 (Q (qc xt (a+1)) k))
 (fun F=>
 ∃m:cJ,aj i c 0 m/\
 ∃t:iX,aj i e 0 t/\
 af xx 191 #[m,t] bE i fun x b=>
 (av.ok [] b)/\
 Br (!x) (R false b) (Br (a>0) (∃g:Sl,cellOf b (c.add 7)=some (g:Value)/\
 ∃p,(g.ptr=some p/\0<=(qc xt (a-1))/\(qc xt (a-1))<(g.len:Int))/\
 ∃r:ByteArray,cellOf b (p.add ((qc xt (a-1)).toNat*4))=some (xp r)/\
 ∃j:ByteArray,cellOf b e=some (xp j)/\
 Br (!(Op.bytesLess r.toList j.toList))
 (R false b)
 (F () b)) (F () b))))
 (R true y)) (0:Int) h8)
 (fun L=>
 ∃q:Sl,cellOf J (c.add 6)=some (q:Value)/\
 af xx 190 #[q,(xl xt 63)] bE J fun B u=>
 Br (!B) (R false u) (∃o:Sl,cellOf u (c.add 7)=some (o:Value)/\
 Br ((o.len:Int)>12)
 (R false u)
 (L () u))))
 (fun N=>
 ∃x2,cellOf K c=some (xl xt x2)/\
 af xx 189 #[x2,(xl xt 1),(xl xt 2147483647)] bE K fun S w=>
 Br (!S) (R false w) (∃G,cellOf w (c.add 1)=some (xl xt G)/\
 af xx 189 #[G,(xl xt 0),(xl xt 16777216)] bE w fun P h3=>
 Br (!P) (R false h3) (∃E:bH,aj h3 (c.add 2) 0 E/\
 af xx 47 #[E] bE h3 fun M v=>
 Br (!M) (R false v) (∃I,cellOf v (c.add 5)=some (xl xt I)/\
 af xx 189 #[I,(xl xt 0),(xl xt 16)] bE v fun O H=>
 Br (!O)
 (R false H)
 (N () H)))))
theorem QJ(a:cJ)(b:@KC R h a):ac xx 100 #[a] h R:=au ae func100 (an.tn (.two (.join [] [(2,3),(5,27)] .n) (.two (.join [] [(2,3),(27,37)] .n) (.two (an.tn (.inn (.loop [(40,aZ)] [(2,5),(40,72)] (an.tn (an.tn (.two (.inn (an.tn (.two (.join [] [(2,3),(45,65)] .n) .n))) .n)))))) .n)))) b
def nw(c:Int)(a:Addr):Prop:=
 ∃b,cellOf h a=some (xl xt b)/\
 R b h
theorem wt(b:Int)(a:Addr)(c:@nw R h b a):ac xx 101 #[b,a] h R:=au ae func101 .n c
def KD(p:cJ):Prop:=
 aK xx (qM 59 p) h fun b B=>
 aK xx (qK 59 true (.tuple #[])) B fun s m=>
 bf (σ:=Unit) (fun _ t=>
 ∃v:Sl,cellOf t (b.add 7)=some (v:Value)/\
 aJ (σ:=Int) (fun e x h8=>
 Br (e<(v.len:Int))
 (∃d:Sl,cellOf h8 (b.add 7)=some (d:Value)/\
 ∃c:Sl,cellOf h8 (b.add 7)=some (c:Value)/\
 ∃g,(c.ptr=some g/\0<=e/\e<(c.len:Int))/\
 ∃k:Sl,cellOf h8 ((g.add (e.toNat*4)).add 3)=some (k:Value)/\
 af xx 80 #[k] aH h8 fun n r=>
 (av.ok [(b.add 7,c),(b.add 7,d)] r)/\
 ∃l,(d.ptr=some l/\0<=e/\e<(d.len:Int))/\
 ag xx (qf 22 ((l.add (e.toNat*4)).add 3) n) r fun _ j=>
 (av.ok [] j)/\
 x (qc xt (e+1)) j)
 (∃f:cJ,aj h8 b 0 f/\
 ag xx (qf 59 s f) h8 fun _ i=>
 ∃a:cJ,aj i s 0 a/\
 R a i)) (0:Int) t)
 (fun y=>
 ∃x3:Sl,cellOf m (b.add 6)=some (x3:Value)/\
 ∃o:Sl,cellOf m (b.add 7)=some (o:Value)/\
 af xx 80 #[x3] aH m fun A h3=>
 (av.ok [(b.add 7,o)] h3)/\
 af xx 203 #[o] aH h3 fun z q=>
 (av.ok [] q)/\
 ag xx (qf 22 (b.add 6) A) q fun _ u=>
 (av.ok [] u)/\
 ag xx (qf 57 (b.add 7) z) u fun _ w=>
 (av.ok [] w)/\
 y () w)
theorem QK(a:cJ)(b:@KD R h a):ac xx 114 #[a] h R:=au ae func114 (an.tn (.two (.join [] [(4,12)] .n) (.two (an.tn (.inn (.loop [(15,aZ)] [(3,4),(15,31)] .n))) .n))) b
def Io(ax:cJ):Prop:=
 aK xx (qM 59 ax) h fun e h1=>
 ∃x2:cJ,aj h1 e 0 x2/\
 af xx 100 #[x2] bE h1 fun r3 S=>
 Br (!r3)
 (R (xn none 0 0) S)
 (bf (σ:=Sl) (fun s8 w=>
 ∃x9,cellOf w (e.add 2)=some (xl xt x9)/\
 ∃O,cellOf w ((e.add 2).add 1)=some (xl xt O)/\
 ∃F,cellOf w ((e.add 2).add 2)=some (xl xt F)/\
 ∃Q,cellOf w (e.add 5)=some (xl xt Q)/\
 ∃L:Sl,cellOf w (e.add 6)=some (L:Value)/\
 az xx (qt 35 5 #[(0,(xl xu (qc xu x9))),(1,(xl xu (qc xu O))),(2,(xl xu (qc xu F))),(3,(xl xu (qc xu Q))),(4,(xl xu (qc xu (L.len:Int))))]) aH w fun V h6=>
 az xx (qw #[35,35] 35 #[s8,V]) aH h6 fun u h7=>
 ∃k:Sl,cellOf h7 (e.add 6)=some (k:Value)/\
 aJ (σ:=Sl×Int) (fun d K2 h8=>
 Br (d.2<(k.len:Int))
 (∃K,(k.ptr=some K/\0<=d.2/\d.2<(k.len:Int))/\
 ∃z,cellOf h8 (K.add (d.2.toNat*1))=some (xl xt z)/\
 az xx (qt 35 1 #[(0,(xl xu (qc xu z)))]) aH h8 fun X h9=>
 az xx (qw #[35,35] 35 #[d.1,X]) aH h9 fun r ah=>
 K2 ((⟨r.ptr,r.len,r.cap⟩:Sl),qc xt (d.2+1)) ah)
 (∃H:Sl,cellOf h8 (e.add 7)=some (H:Value)/\
 az xx (qt 35 1 #[(0,(xl xu (qc xu (H.len:Int))))]) aH h8 fun ap ad=>
 az xx (qw #[35,35] 35 #[d.1,ap]) aH ad fun v M=>
 ∃i:Sl,cellOf M (e.add 7)=some (i:Value)/\
 aJ (σ:=Sl×Int) (fun c K3 l=>
 Br (c.2<(i.len:Int))
 (∃B,(i.ptr=some B/\0<=c.2/\c.2<(i.len:Int))/\
 ∃E:iX,aj l (B.add (c.2.toNat*4)) 0 E/\
 aK xx (qK 105 true (.tuple #[])) l fun a Y=>
 ag xx (qf 105 a E) Y fun _ n=>
 bf (σ:=Sl) (fun am t=>
 bf (σ:=Sl) (fun q J=>
 ∃j:Sl,cellOf J (a.add 3)=some (j:Value)/\
 aJ (σ:=Sl×Int) (fun b K6 s=>
 Br (b.2<(j.len:Int))
 (∃x,(j.ptr=some x/\0<=b.2/\b.2<(j.len:Int))/\
 ∃y,cellOf s (x.add (b.2.toNat*1))=some (xl xt y)/\
 az xx (qt 35 1 #[(0,(xl xu (qc xu y)))]) aH s fun v45 ao=>
 az xx (qw #[35,35] 35 #[b.1,v45]) aH ao fun v46 ab=>
 K6 ((⟨v46.ptr,v46.len,v46.cap⟩:Sl),qc xt (b.2+1)) ab)
 (K3 ((⟨b.1.ptr,b.1.len,b.1.cap⟩:Sl),qc xt (c.2+1)) s)) ((⟨q.ptr,q.len,q.cap⟩:Sl),(0:Int)) J)
 (fun K5=>
 ∃P,cellOf t (a.add 1)=some (xl xt P)/\
 ∃m,cellOf t (a.add 2)=some (xl xt m)/\
 af xx 204 #[am,P,(xl xt 3)] aH t fun W I=>
 (av.ok [(a.add 2,m)] I)/\
 af xx 204 #[W,m,(xl xt 2)] aH I fun o G=>
 (av.ok [] G)/\
 K5 (⟨o.ptr,o.len,o.cap⟩:Sl) G))
 (fun K4=>
 ∃f:ByteArray,cellOf n a=some (xp f)/\
 ∃g:ByteArray,cellOf n a=some (xp g)/\
 az xx (qt 35 1 #[(0,(xl xu (qc xu (f.size:Int))))]) aH n fun Z A=>
 (av.ok [(a,g),(a,f)] A)/\
 az xx (qw #[35,35] 35 #[c.1,Z]) aH A fun U D=>
 (av.ok [(a,g),(a,f)] D)/\
 az xx (qw #[35,9] 35 #[U,g]) aH D fun p N=>
 (av.ok [(a,f)] N)/\
 K4 (⟨p.ptr,p.len,p.cap⟩:Sl) N))
 (R c.1 l)) ((⟨v.ptr,v.len,v.cap⟩:Sl),(0:Int)) M)) ((⟨u.ptr,u.len,u.cap⟩:Sl),(0:Int)) h7)
 (fun K1=>
 ∃x4,cellOf S e=some (xl xt x4)/\
 ∃T,cellOf S (e.add 1)=some (xl xt T)/\
 af xx 204 #[(xn none 0 0),x4,(xl xt 4)] aH S fun r6 h3=>
 (av.ok [(e.add 1,T)] h3)/\
 af xx 204 #[r6,T,(xl xt 4)] aH h3 fun r7 h4=>
 (av.ok [] h4)/\
 K1 (⟨r7.ptr,r7.len,r7.cap⟩:Sl) h4))
theorem OP(a:cJ)(b:@Io R h a):ac xx 116 #[a] h R:=au ae func116 (an.tn (an.tn (.two (.join [(3,cv)] [(3,4),(13,19)] .n) (an.tn (.two (an.tn (.inn (.loop [(3,cv),(44,aZ)] [(3,4),(5,6),(44,54)] .n))) (an.tn (.two (an.tn (.inn (.loop [(3,cv),(64,aZ)] [(3,4),(7,8),(9,10),(64,99)] (an.tn (an.tn (.two (.inn (an.tn (.two (.join [(3,cv)] [(3,4),(68,78)] .n) (.two (.join [(3,cv)] [(3,4),(78,85)] .n) (an.tn (.inn (.loop [(3,cv),(88,aZ)] [(3,4),(9,10),(88,98)] .n))))))) .n)))))) .n))))))) b
def KE(a:Int)(b:Int)(c:Int)(d:Sl):Prop:=
 (0<=(24:Int))/\
 (0<=(16:Int))/\
 (0<=(8:Int))/\
 az xx (qt 35 7 #[(0,(xl xu (qc xu (qU a (2^min (24:Int).toNat (qk xt)))))),(1,(xl xu (qc xu (qU a (2^min (16:Int).toNat (qk xt)))))),(2,(xl xu (qc xu (qU a (2^min (8:Int).toNat (qk xt)))))),(3,(xl xu (qc xu a))),(4,(xl xu (qc xu b))),(5,(xl xu (qc xu c))),(6,(xl xu (qc xu (d.len:Int))))]) aH h fun i j=>
 az xx (qw #[35,35] 35 #[i,d]) aH j fun e f=>
 af xx 205 #[(xl xt 2),e] aH f fun g h3=>
 R g h3
theorem QL(c:Int)(a:Int)(b:Int)(d:Sl)(e:@KE R h c a b d):ac xx 117 #[c,a,b,d] h R:=au ae func117 .n e
def kW(a:aO)(f:Sl):Prop:=
 bf (σ:=Unit) (fun _ h3=>
 bf (σ:=Unit) (fun _ h8=>
 ∃j,(a=some j)/\
 ∃g,cellOf h8 (j.add 3)=some (xl xt g)/\
 ∃l,(a=some l)/\
 ag xx (qf 3 (l.add 3) (qc xt (g+1))) h8 fun _ y=>
 ∃a22,(a=some a22)/\
 ∃e:aO,cellOf y a22=some (.pointer e)/\
 af xx 35 #[e] bE y fun q i=>
 Br (!q)
 (R (xl xt 14) i)
 (af xx 207 #[a] bt i fun p o=>
 R p o))
 (fun J=>
 ∃b,(a=some b)/\
 ∃c:Sl,cellOf h3 (b.add 2)=some (c:Value)/\
 af xx 206 #[f] aH h3 fun n t=>
 (av.ok [(b.add 2,c)] t)/\
 az xx (qt 40 1 #[(0,n)]) aH t fun r D=>
 (av.ok [(b.add 2,c)] D)/\
 az xx (qw #[40,40] 40 #[c,r]) aH D fun m G=>
 (av.ok [] G)/\
 ∃k,(a=some k)/\
 ag xx (qf 40 (k.add 2) m) G fun _ z=>
 (av.ok [] z)/\
 J () z))
 (fun H=>
 Br ((f.len:Int) !=64)
 (R (xl xt 1) h)
 (bf (σ:=Bool) (fun I d=>
 Br I
 (R (xl xt 5) d)
 (∃a4,(a=some a4)/\
 ∃v:Sl,cellOf d (a4.add 2)=some (v:Value)/\
 ∃u,(a=some u)/\
 ∃F,cellOf d (u.add 1)=some (xl xt F)/\
 Br ((v.len:Int)>=F)
 (R (xl xt 7) d)
 (∃w,(a=some w)/\
 ∃B:aO,cellOf d w=some (.pointer B)/\
 af xx 99 #[B] bE d fun s x=>
 Br (!s)
 (R (xl xt 14) x)
 (H () x))))
 (fun A=>
 Br (ze a) (A true h) (∃E,(a=some E)/\
 ∃x2:Bool,cellOf h (E.add 6)=some (xq x2)/\
 A x2 h))))
theorem ny(b:aO)(a:Sl)(c:@kW R h b a):ac xx 118 #[b,a] h R:=au ae func118 (an.tn (.two (.join [] [(4,36)] (.inn (an.tn (an.tn (.two (.join [(9,mg)] [(9,18)] .n) .n))))) (.two (.join [] [(36,47)] .n) .n))) c
def KF(a:cA)(b:Sl):Prop:=
 af xx 80 #[b] aH h fun g o=>
 af xx 168 #[g] gF o fun _ n=>
 af xx 208 #[g] aH n fun e h3=>
 aJ (σ:=Int) (fun c l d=>
 Br (c<(e.len:Int))
 (∃a5,(e.ptr=some a5/\0<=c/\c<(e.len:Int))/\
 ∃f,cellOf d (a5.add (c.toNat*1))=some (xl xt f)/\
 gb C a.1 (a.2.1.toList++[(xl xt f)]++a.2.2.toList) jp d fun k m=>
 af xx 209 #[k] bt m fun j i=>
 Br (j !=0)
 (R j i)
 (l (qc xt (c+1)) i))
 (R (xl xt 0) d)) (0:Int) h3
theorem QM(b:cA)(a:Sl)(c:@KF R h b a):ac xx 119 #[(.func (.func b.1) b.2.1 b.2.2),a] h R:=au ae func119 (an.tn (an.tn (an.tn (.two (an.tn (.inn (.loop [(15,aZ)] [(4,5),(6,8),(15,27)] .n))) .n)))) c
def og(a:Int):Prop:=
 az xx (qt 41 5 #[(0,ado),(1,adn),(2,VI),(3,adm),(4,FJ)]) aH h fun e f=>
 af xx 13 #[a,(xl xt 5)] bt f fun b d=>
 ∃a3,(e.ptr=some a3/\0<=b/\b<(e.len:Int))/\
 ∃c:ByteArray,cellOf d (a3.add (b.toNat*1))=some (xp c)/\
 R c d
theorem zY(a:Int)(b:@og R h a):ac xx 120 #[a] h R:=au ae func120 .n b
def oh(c:Int)(b:Int):Prop:=
 aJ (σ:=Sl×Int) (fun a e d=>
 Br (a.2<c)
 (((7:Int)≠0)/\
 (0<=(z7 a.2 7))/\
 az xx (qt 35 1 #[(0,(xl xu (qc xu (qc xt ((qU b (2^min (z7 a.2 7).toNat (qk xt)))+(qc xt (a.2*(qc xt ((qC (qk xt) b|||(qC (qk xt) (1:Int))).toNat:Nat)))))))))]) aH d fun f g=>
 az xx (qw #[35,35] 35 #[a.1,f]) aH g fun v3 h3=>
 e ((⟨v3.ptr,v3.len,v3.cap⟩:Sl),qc xt (a.2+1)) h3)
 (R a.1 d)) ((⟨none,0,0⟩:Sl),(0:Int)) h
theorem Aa(a:Int)(b:Int)(c:@oh R h a b):ac xx 121 #[a,b] h R:=au ae func121 (an.tn (an.tn (.two (an.tn (.inn (.loop [(5,cv),(6,aZ)] [(5,25)] .n))) .n))) c
def Ip(d:ByteArray):Prop:=
 az xx (convert 9 35 d) aH h fun f g=>
 aJ (σ:=Int) (fun c e a=>
 Br (c<(f.len:Int))
 (∃a3,(f.ptr=some a3/\0<=c/\c<(f.len:Int))/\
 ∃b,cellOf a (a3.add (c.toNat*1))=some (xl xu b)/\
 Br (b<97) (Br (b<48) (Br (b !=45)
 (R false a)
 (e (qc xt (c+1)) a)) (Br (b>57) (Br (b !=45)
 (R false a)
 (e (qc xt (c+1)) a)) (e (qc xt (c+1)) a))) (Br (b>122) (Br (b<48) (Br (b !=45)
 (R false a)
 (e (qc xt (c+1)) a)) (Br (b>57) (Br (b !=45)
 (R false a)
 (e (qc xt (c+1)) a)) (e (qc xt (c+1)) a))) (e (qc xt (c+1)) a)))
 (Br ((d.size:Int)>=1) (R (decide ((d.size:Int)<=12)) a) (R false a))) (0:Int) g
theorem OQ(a:ByteArray)(b:@Ip R h a):ac xx 122 #[a] h R:=au ae func122 (an.tn (.two (an.tn (.inn (.loop [(8,aZ)] [(2,3),(4,5),(8,31)] .n))) .n)) b
def Iq(g:bH)(a:Int)(b:Int):Prop:=
 aK xx (qM 24 g) h fun c l=>
 aJ (σ:=Int) (fun d j f=>
 Br (d<16)
 (∃x3:bH,aj f c 0 x3/\
 af xx 69 #[a,b,d] (.one (.sc (.int .u32))) f fun k h3=>
 (av.ok [(c,x3.1),(c.add 1,x3.2.1),(c.add 2,x3.2.2)] h3)/\
 af xx 210 #[x3,(xl xv k)] bE h3 fun i e=>
 (av.ok [] e)/\
 Br i
 (R (.tuple #[d,true]) e)
 (j (qc xt (d+1)) e))
 (R (.tuple #[(xl xt 0),false]) f)) (0:Int) l
theorem OR(c:bH)(a:Int)(b:Int)(d:@Iq R h c a b):ac xx 123 #[c,a,b] h R:=au ae func123 (an.tn (.two (an.tn (.inn (.loop [(9,aZ)] [(6,20)] .n))) .n)) d
def ww(a:bH):Prop:=
 aK xx (qM 24 a) h fun c b=>
 ∃x2,cellOf b c=some (xl xt x2)/\
 ∃x3,cellOf b (c.add 2)=some (xl xt x3)/\
 R (qc xt (x2*x3)) b
theorem BX(a:bH)(b:@ww R h a):ac xx 124 #[a] h R:=au ae func124 .n b
def Ee(f:bH)(a:Sl):Prop:=
 aK xx (qM 24 f) h fun g n=>
 ∃x2:bH,aj n g 0 x2/\
 af xx 56 #[x2,(xl xt (a.len:Int))] bt n fun t p=>
 aJ (σ:=Sl×Int) (fun b s h3=>
 Br (b.2<t)
 (∃i:bH,aj h3 g 0 i/\
 af xx 124 #[i] bt h3 fun k o=>
 az xx (qF 35 k k) aH o fun l j=>
 ∃m:bH,aj j g 0 m/\
 af xx 124 #[m] bt j fun d u=>
 (0<=(qc xt (b.2*d))/\(qc xt (b.2*d))<=(a.len:Int))/\
 az xx (wX #[35,35] 3 #[l,(.slice (if a.cap=(qc xt (b.2*d)).toNat then a.ptr else a.ptr.map (·.add ((qc xt (b.2*d)).toNat*1))) (a.len-(qc xt (b.2*d)).toNat) (a.cap-(qc xt (b.2*d)).toNat))]) bt u fun _ r=>
 az xx (qt 40 1 #[(0,l)]) aH r fun e h8=>
 az xx (qw #[40,40] 40 #[b.1,e]) aH h8 fun c q=>
 s ((⟨c.ptr,c.len,c.cap⟩:Sl),qc xt (b.2+1)) q)
 (R b.1 h3)) ((⟨none,0,0⟩:Sl),(0:Int)) p
theorem KG(b:bH)(a:Sl)(c:@Ee R h b a):ac xx 125 #[b,a] h R:=au ae func125 (an.tn (an.tn (.two (an.tn (.inn (.loop [(5,cv),(12,aZ)] [(5,8),(12,31)] .n))) .n))) c
def FS(J:bH)(d:Int)(a:Sl):Prop:=
 aK xx (qM 24 J) h fun c Q=>
 bf (σ:=Unit) (fun _ h3=>
 ∃P:bH,aj h3 c 0 P/\
 af xx 210 #[P,(xl xv d)] bE h3 fun T z=>
 Br (!T)
 (R (.tuple #[(xo none),(xl xt 8)]) z)
 (∃O,cellOf z (c.add 1)=some (xl xt O)/\
 aJ (σ:=Sl×Int) (fun g V y=>
 Br (g.2<O)
 (∃p,cellOf y (c.add 2)=some (xl xt p)/\
 az xx (qF 35 p p) aH y fun L Z=>
 az xx (qt 40 1 #[(0,L)]) aH Z fun H U=>
 az xx (qw #[40,40] 40 #[g.1,H]) aH U fun n h8=>
 V ((⟨n.ptr,n.len,n.cap⟩:Sl),qc xt (g.2+1)) h8)
 (∃x,cellOf y c=some (xl xt x)/\
 aJ (σ:=Sl×Int) (fun b X q=>
 Br (b.2<x)
 (∃f,cellOf q (c.add 2)=some (xl xt f)/\
 ∃j,cellOf q (c.add 2)=some (xl xt j)/\
 (0<=(qc xt (b.2*f))/\(qc xt (b.2*f))<=(qc xt ((qc xt (b.2+1))*j))/\(qc xt ((qc xt (b.2+1))*j))<=(a.cap:Int))/\
 az xx (qt 40 1 #[(0,(.slice (if a.cap=(qc xt (b.2*f)).toNat then a.ptr else a.ptr.map (·.add ((qc xt (b.2*f)).toNat*1))) ((qc xt ((qc xt (b.2+1))*j)).toNat-(qc xt (b.2*f)).toNat) (a.cap-(qc xt (b.2*f)).toNat)))]) aH q fun K G=>
 az xx (qw #[40,40] 40 #[b.1,K]) aH G fun o E=>
 X ((⟨o.ptr,o.len,o.cap⟩:Sl),qc xt (b.2+1)) E)
 (bf (σ:=Sl×Int) (fun v m=>
 Br (v.2 !=0)
 (R (.tuple #[(xo none),(xl xt 8)]) m)
 (∃l:bH,aj m c 0 l/\
 aK xx (qM 241 (xr #[l.1,l.2.1,l.2.2,(xl xv d),v.1])) m fun D B=>
 R (.tuple #[D,(xl xt 0)]) B))
 (fun S=>
 ∃e:bH,aj q c 0 e/\
 ∃i:bH,aj q c 0 i/\
 af xx 212 #[] jp q fun A r=>
 (av.ok [(c,i.1),(c.add 1,i.2.1),(c.add 2,i.2.2),(c,e.1),(c.add 1,e.2.1),(c.add 2,e.2.2)] r)/\
 af xx 214 #[i] aH r fun I u=>
 (av.ok [(c,e.1),(c.add 1,e.2.1),(c.add 2,e.2.2)] u)/\
 af xx 213 #[e,(xl xv d),I] aH u fun F s=>
 (av.ok [] s)/\
 af xx 211 #[A,F,b.1] (.many [cv,aZ]) s fun k w=>
 (av.ok [] w)/\
 S ((⟨k.1.ptr,k.1.len,k.1.cap⟩:Sl),k.2) w))) ((⟨g.1.ptr,g.1.len,g.1.cap⟩:Sl),(0:Int)) y)) ((⟨none,0,0⟩:Sl),(0:Int)) z))
 (fun W=>
 ∃x2:bH,aj Q c 0 x2/\
 af xx 47 #[x2] bE Q fun Y t=>
 Br (!Y) (R (.tuple #[(xo none),(xl xt 1)]) t) (∃N,cellOf t c=some (xl xt N)/\
 ∃M,cellOf t (c.add 2)=some (xl xt M)/\
 Br ((a.len:Int) !=(qc xt (N*M)))
 (R (.tuple #[(xo none),(xl xt 1)]) t)
 (W () t)))
theorem MM(c:bH)(b:Int)(a:Sl)(d:@FS R h c b a):ac xx 126 #[c,(xl xv b),a] h R:=au ae func126 (an.tn (.two (.join [] [(6,8),(12,25)] .n) (an.tn (an.tn (.two (an.tn (.inn (.loop [(8,cv),(31,aZ)] [(8,9),(31,40)] .n))) (.two (an.tn (.inn (.loop [(8,cv),(42,aZ)] [(8,10),(42,60)] .n))) (.two (.join [(10,cv),(11,aZ)] [(10,12),(60,71)] .n) .n))))))) d
def Ef(a:Int)(b:Int)(c:Sl):Prop:=
 bf (σ:=Unit) (fun _ K=>
 ((64:Int)≠0)/\
 af xx 215 #[(z7 (qc xt ((qc xt (8*a))+b)) 64)] (.one (.sc (.cpx .f64))) K fun A F=>
 aK xx (qK 245 true (.tuple #[])) F fun a3 h3=>
 aJ (σ:=Sl×Int) (fun e z l=>
 Br (e.2<(c.len:Int))
 (∃a5,(c.ptr=some a5/\0<=e.2/\e.2<(c.len:Int))/\
 ∃f,cellOf l (a5.add (e.2.toNat*1))=some (xl xt f)/\
 bf (σ:=Bool) (fun M B=>
 Br M
 ((0<=f/\f<((64:Nat):Int))/\
 ag xx (qf 4 (a3.add (f.toNat*1)) true) B fun _ L=>
 af xx 215 #[f] (.one (.sc (.cpx .f64))) L fun D I=>
 af xx 216 #[(.complex .f64 D.1 D.2),(.complex .f64 A.1 A.2)] (.one (.sc (.flt .f64))) I fun y h8=>
 az xx (qt 244 1 #[(0,(xr #[f,(.float .f64 y)]))]) aH h8 fun u H=>
 az xx (qw #[244,244] 244 #[e.1,u]) aH H fun k s=>
 z ((⟨k.ptr,k.len,k.cap⟩:Sl),qc xt (e.2+1)) s)
 (z ((⟨e.1.ptr,e.1.len,e.1.cap⟩:Sl),qc xt (e.2+1)) B))
 (fun x=>
 Br (f>=0) (Br (f<64) ((0<=f/\f<((64:Nat):Int))/\
 ∃E:Bool,cellOf l (a3.add (f.toNat*1))=some (xq E)/\
 x (!E) l) (x false l)) (x false l)))
 (af xx 217 #[e.1,(.func (.func 218) #[] #[])] gF l fun _ r=>
 aJ (σ:=Sl×Int) (fun d G i=>
 Br (d.2<(e.1.len:Int))
 (∃p,(e.1.ptr=some p/\0<=d.2/\d.2<(e.1.len:Int))/\
 ∃g:Int×Nat,aj i (p.add (d.2.toNat*2)) 0 [g.1,(.float .f64 g.2)]/\
 aK xx (qK 249 true (.tuple #[])) i fun o t=>
 ag xx (qf 249 o (xr #[g.1,(.float .f64 g.2)])) t fun _ m=>
 ∃n,cellOf m o=some (xl xt n)/\
 az xx (qt 22 1 #[(0,n)]) aH m fun v w=>
 az xx (qw #[22,22] 22 #[d.1,v]) aH w fun j q=>
 G ((⟨j.ptr,j.len,j.cap⟩:Sl),qc xt (d.2+1)) q)
 (R d.1 i)) ((⟨none,0,0⟩:Sl),(0:Int)) r)) ((⟨none,0,0⟩:Sl),(0:Int)) h3)
 (fun J=>
 Br (a<0) (R (xn none 0 0) h) (Br (a>16777215) (R (xn none 0 0) h) (Br (b<0) (R (xn none 0 0) h) (Br (b>=8)
 (R (xn none 0 0) h)
 (J () h)))))
theorem KH(a:Int)(b:Int)(c:Sl)(d:@Ef R h a b c):ac xx 127 #[a,b,c] h R:=au ae func127 (an.tn (.two (.join [] [(6,7),(15,29)] .n) (an.tn (an.tn (an.tn (.two (an.tn (.inn (.loop [(8,cv),(37,aZ)] [(8,9),(11,12),(37,65)] (an.tn (an.tn (.two (.inn (an.tn (.two (.join [(52,mg)] [(41,53)] .n) .n))) .n)))))) (an.tn (an.tn (.two (an.tn (.inn (.loop [(12,cv),(69,aZ)] [(12,13),(14,15),(69,79)] .n))) .n))))))))) d
def ol(c:aO)(d:Int):Prop:=
 bf (σ:=Unit) (fun _ x=>
 ∃u,(c=some u)/\
 ∃x3,cellOf x (u.add 2)=some (xl xt x3)/\
 az xx (qF 35 x3 x3) aH x fun v4 r=>
 ∃a5,(c=some a5)/\
 ∃t:bH,aj r a5 0 t/\
 ∃v,(c=some v)/\
 ∃w,cellOf r (v.add 3)=some (xl xv w)/\
 af xx 148 #[t,(xl xv w),d] aH r fun s h3=>
 (av.ok [] h3)/\
 aJ (σ:=Int) (fun b y j=>
 Br (b<(s.len:Int))
 (∃i,(s.ptr=some i/\0<=b/\b<(s.len:Int))/\
 ∃f,cellOf j (i.add (b.toNat*1))=some (xl xt f)/\
 ∃o,(c=some o)/\
 ∃g:Sl,cellOf j (o.add 4)=some (g:Value)/\
 ∃m,(g.ptr=some m/\0<=f/\f<(g.len:Int))/\
 ∃e:Sl,cellOf j (m.add (f.toNat*1))=some (e:Value)/\
 aJ (σ:=Int) (fun a A q=>
 Br (a<(e.len:Int))
 (∃l,(e.ptr=some l/\0<=a/\a<(e.len:Int))/\
 ∃p,cellOf q (l.add (a.toNat*1))=some (xl xu p)/\
 ∃k,(v4.ptr=some k/\0<=a/\a<(v4.len:Int))/\
 ∃n,cellOf q (k.add (a.toNat*1))=some (xl xu n)/\
 ∃a22,(v4.ptr=some a22/\0<=a/\a<(v4.len:Int))/\
 ag xx (qf 5 (a22.add (a.toNat*1)) (xl xu (qc xu ((qC (qk xu) n^^^(qC (qk xu) p)).toNat:Nat)))) q fun _ B=>
 A (qc xt (a+1)) B)
 (y (qc xt (b+1)) q)) (0:Int) j)
 (R v4 j)) (0:Int) h3)
 (fun z=>
 Br (ze c) (R (xn none 0 0) h) (Br (d<0) (R (xn none 0 0) h) (Br (d>65535)
 (R (xn none 0 0) h)
 (z () h))))
theorem Ab(b:aO)(a:Int)(c:@ol R h b a):ac xx 128 #[b,a] h R:=au ae func128 (an.tn (.two (.join [] [(4,5),(10,20)] .n) (an.tn (.two (an.tn (.inn (.loop [(37,aZ)] [(7,10),(37,63)] (an.tn (an.tn (.two (.inn (an.tn (an.tn (.inn (.loop [(49,aZ)] [(8,10),(49,62)] .n))))) .n)))))) .n)))) c
def KI(a:Sl)(b:Int):Prop:=
 bf (σ:=Unit) (fun _ c=>
 ((a.len:Int)≠0)/\
 ∃d,(a.ptr=some d/\0<=(z7 b (a.len:Int))/\(z7 b (a.len:Int))<(a.len:Int))/\
 ∃x3:Int,cellOf c (d.add ((z7 b (a.len:Int)).toNat*1))=some (xl xt x3)/\
 R x3 c)
 (fun e=>
 Br ((a.len:Int)==0) (R (xl xt (-1:Int)) h) (Br (b<0)
 (R (xl xt (-1:Int)) h)
 (e () h)))
theorem QN(a:Sl)(b:Int)(c:@KI R h a b):ac xx 129 #[a,b] h R:=au ae func129 (an.tn (.two (.join [] [(4,12)] .n) .n)) c
def FT(j:df):Prop:=
 aK xx (qM 139 j) h fun a v=>
 ∃x2:df,aj v a 0 x2/\
 af xx 222 #[x2] bE v fun A l=>
 Br (!A)
 (R (xn none 0 0) l)
 (∃s,cellOf l a=some (xl xt s)/\
 af xx 223 #[(xn none 0 0),s,(xl xt 3)] aH l fun z h3=>
 ∃q,cellOf h3 (a.add 1)=some (xl xt q)/\
 af xx 223 #[z,q,(xl xt 1)] aH h3 fun x r=>
 ∃u,cellOf r (a.add 2)=some (xl xt u)/\
 af xx 223 #[x,u,(xl xt 2)] aH r fun y g=>
 ∃d,cellOf g (a.add 3)=some (xl xt d)/\
 ∃c,cellOf g ((a.add 3).add 1)=some (xl xt c)/\
 ∃e,cellOf g ((a.add 3).add 2)=some (xl xt e)/\
 az xx (qt 35 3 #[(0,(xl xu (qc xu d))),(1,(xl xu (qc xu c))),(2,(xl xu (qc xu e)))]) aH g fun o B=>
 az xx (qw #[35,35] 35 #[y,o]) aH B fun p t=>
 ∃f,cellOf t (a.add 6)=some (xl xv f)/\
 af xx 223 #[p,(qc xt f),(xl xt 4)] aH t fun i h8=>
 ∃b:Sl,cellOf h8 (a.add 7)=some (b:Value)/\
 az xx (qw #[35,35] 35 #[i,b]) aH h8 fun m w=>
 af xx 205 #[(xl xt 1),m] aH w fun k n=>
 R k n)
theorem MN(a:df)(b:@FT R h a):ac xx 130 #[a] h R:=au ae func130 .n b
def ij(b:Sl)(a:cA):Prop:=
 af xx 225 #[(xl xw (qc xw (b.len:Int)))] bt h fun c e=>
 af xx 224 #[b,(xl xt 0),(xl xt (b.len:Int)),c,(.func (.func a.1) a.2.1 a.2.2)] gF e fun _ d=>
 R (.tuple #[]) d
theorem lr(b:Sl)(a:cA)(c:@ij R h b a):ac xx 131 #[b,(.func (.func a.1) a.2.1 a.2.2)] h R:=au ae func131 .n c
def BY(c:iX)(b:iX):Prop:=
 aK xx (qM 105 c) h fun e g=>
 aK xx (qM 105 b) g fun i a=>
 ∃x3:ByteArray,cellOf a e=some (xp x3)/\
 ∃d:ByteArray,cellOf a i=some (xp d)/\
 af xx 133 #[x3,d] bt a fun f h3=>
 R f h3
theorem Ji(b:iX)(a:iX)(c:@BY R h b a):ac xx 132 #[b,a] h R:=au ae func132 .n c
def pe(b:ByteArray)(a:ByteArray):Prop:=
 af xx 226 #[b] bE h fun f e=>
 af xx 226 #[a] bE e fun d c=>
 Br f
 (Br d
 (R (xl xt 0) c)
 (R (xl xt (-1:Int)) c))
 (Br d
 (R (xl xt 1) c)
 (Br (Op.bytesLess b.toList a.toList)
 (R (xl xt (-1:Int)) c)
 (Br (!(Op.bytesLess b.toList a.toList||b.toList==a.toList))
 (R (xl xt 1) c)
 (R (xl xt 0) c))))
theorem Bh(b:ByteArray)(a:ByteArray)(c:@pe R h b a):ac xx 133 #[b,a] h R:=au ae func133 .n c
def gV(b:Sl)(a:cA):Prop:=
 af xx 150 #[b,(.func (.func a.1) a.2.1 a.2.2)] bt h fun c d=>
 R (decide (c>=0)) d
theorem jC(b:Sl)(a:cA)(c:@gV R h b a):ac xx 134 #[b,(.func (.func a.1) a.2.1 a.2.2)] h R:=au ae func134 .n c
def pf(b:Int)(a:Addr)(d:Addr):Prop:=
 ∃g:aO,cellOf h a=some (.pointer g)/\
 ∃i,(g=some i)/\
 (0<=b/\b<((64:Nat):Int))/\
 ∃x3:aO,cellOf h ((i.add 10).add (b.toNat*1))=some (.pointer x3)/\
 ∃f:aO,cellOf h a=some (.pointer f)/\
 ∃a5,(f=some a5)/\
 ∃c:cJ,aj h a5 0 c/\
 ∃e:cA,cellOf h d=some (.func (.func e.1) e.2.1 e.2.2)/\
 gb C e.1 (e.2.1.toList++[(xl xt b)]++e.2.2.toList) bt h fun m k=>
 (av.ok [(a5,c.1),(a5.add 1,c.2.1),(a5.add 2,c.2.2.1),(a5.add 3,c.2.2.2.1),(a5.add 4,c.2.2.2.2.1),(a5.add 5,c.2.2.2.2.2.1),(a5.add 6,c.2.2.2.2.2.2.1),(a5.add 7,c.2.2.2.2.2.2.2),(a,f),((i.add 10).add (b.toNat*1),x3),(a,g)] k)/\
 af xx 136 #[x3,c,m] bE k fun l j=>
 (av.ok [(a,f),(a,g)] j)/\
 R (xq (!l)) j
theorem Bi(c:Int)(b:Addr)(a:Addr)(d:@pf R h c b a):ac xx 135 #[c,b,a] h R:=au ae func135 .n d
def Bj(a:aO)(d:cJ)(b:Int):Prop:=
 aK xx (qM 59 d) h fun p g=>
 bf (σ:=Unit) (fun _ h3=>
 af xx 157 #[a] bt h3 fun j i=>
 af xx 156 #[a,j,b] bE i fun q c=>
 Br q (R true c) (∃e:cJ,aj c p 0 e/\
 af xx 159 #[a,e] aH c fun n r=>
 af xx 156 #[a,(xl xt (n.len:Int)),b] bE r fun k l=>
 R k l))
 (fun o=>
 Br (ze a) (R false g) (af xx 153 #[a] bE g fun m f=>
 Br m
 (R false f)
 (o () f)))
theorem Eg(a:aO)(c:cJ)(b:Int)(d:@Bj R h a c b):ac xx 136 #[a,c,b] h R:=au ae func136 (an.tn (.two (.join [] [(6,13)] .n) .n)) d
def kB(a:ByteArray):Prop:=
 Br ((a.size:Int)==0)
 (R np h)
 (az xx (qF 35 (xl xt (a.size:Int)) (xl xt (a.size:Int))) aH h fun b d=>
 az xx (wX #[35,9] 3 #[b,a]) bt d fun _ c=>
 ∃a3,(b.ptr=some a3/\0<=(0:Int)/\(0:Int)<(b.len:Int))/\
 az xx (Builtin.unsafeString_ #[256,3] 9 #[(a3.add ((0:Int).toNat*1)),(xl xt (b.len:Int))]) (.one Kx) c fun v4 h3=>
 R v4 h3)
theorem ph(a:ByteArray)(b:@kB R h a):ac xx 137 #[a] h R:=au ae func137 .n b
def ff(a:Sl)(b:cA):Prop:=
 aJ (σ:=Int) (fun c g d=>
 Br (c<(a.len:Int))
 (∃f,(a.ptr=some f/\0<=c/\c<(a.len:Int))/\
 ∃x3:iX,aj d (f.add (c.toNat*4)) 0 x3/\
 gb C b.1 (b.2.1.toList++[(xr #[x3.1,x3.2.1,x3.2.2.1,x3.2.2.2])]++b.2.2.toList) bE d fun i e=>
 Br i
 (R c e)
 (g (qc xt (c+1)) e))
 (R (xl xt (-1:Int)) d)) (0:Int) h
theorem gG(b:Sl)(a:cA)(c:@ff R h b a):ac xx 138 #[b,(.func (.func a.1) a.2.1 a.2.2)] h R:=au ae func138 (an.tn (.two (an.tn (.inn (.loop [(8,aZ)] [(4,6),(8,19)] .n))) .n)) c
def pi(c:iX)(a:Addr):Prop:=
 aK xx (qM 105 c) h fun d b=>
 ∃x2:ByteArray,cellOf b d=some (xp x2)/\
 ∃x3:ByteArray,cellOf b a=some (xp x3)/\
 R (xq (x2.toList==x3.toList)) b
theorem Bl(b:iX)(a:Addr)(c:@pi R h b a):ac xx 139 #[b,a] h R:=au ae func139 .n c
def om(b:Int)(a:Addr):Prop:=
 ∃d:aO,cellOf h a=some (.pointer d)/\
 ∃g,(d=some g)/\
 (0<=b/\b<((64:Nat):Int))/\
 ∃x3:aO,cellOf h ((g.add 10).add (b.toNat*1))=some (.pointer x3)/\
 ∃c:aO,cellOf h a=some (.pointer c)/\
 ∃a5,(c=some a5)/\
 ∃e:cJ,aj h a5 0 e/\
 af xx 141 #[x3,e] bE h fun i f=>
 (av.ok [(a,c),(a,d)] f)/\
 R i f
theorem Ac(b:Int)(a:Addr)(c:@om R h b a):ac xx 140 #[b,a] h R:=au ae func140 .n c
def FU(c:aO)(g:cJ):Prop:=
 aK xx (qM 59 g) h fun m n=>
 ∃x2:cJ,aj n m 0 x2/\
 af xx 100 #[x2] bE n fun s k=>
 Br (!s)
 (R false k)
 (af xx 160 #[c] aH k fun p h3=>
 ∃i:cJ,aj h3 m 0 i/\
 af xx 43 #[i] aH h3 fun e o=>
 aJ (σ:=Int) (fun b r d=>
 Br (b<(e.len:Int))
 (∃j,(e.ptr=some j/\0<=b/\b<(e.len:Int))/\
 ∃l:Sl,cellOf d (j.add (b.toNat*1))=some (l:Value)/\
 aK xx (qK 35 true (.tuple #[])) d fun a t=>
 ag xx (qf 35 a l) t fun _ q=>
 af xx 227 #[p,(.func (.func 228) #[] #[a])] bE q fun f h8=>
 Br (!f)
 (R false h8)
 (r (qc xt (b+1)) h8))
 (R true d)) (0:Int) o)
theorem MO(a:aO)(b:cJ)(c:@FU R h a b):ac xx 141 #[a,b] h R:=au ae func141 (an.tn (an.tn (an.tn (.two (an.tn (.inn (.loop [(16,aZ)] [(4,5),(7,8),(16,25)] .n))) .n)))) c
def fY(b:Sl)(a:cA):Prop:=
 af xx 230 #[b,(.func (.func a.1) a.2.1 a.2.2)] bt h fun c d=>
 R (decide (c>=0)) d
theorem jR(b:Sl)(a:cA)(c:@fY R h b a):ac xx 142 #[b,(.func (.func a.1) a.2.1 a.2.2)] h R:=au ae func142 .n c
def xa(c:Int×Sl)(a:Addr):Prop:=
 aK xx (qM 157 c) h fun d b=>
 ∃x2:bH,aj b a 0 x2/\
 ∃x3:Int×Sl,aj b d 0 x3/\
 af xx 144 #[x2,x3] bE b fun f e=>
 R (xq (!f)) e
theorem FV(b:Int×Sl)(a:Addr)(c:@xa R h b a):ac xx 143 #[b,a] h R:=au ae func143 .n c
def BZ(c:bH)(b:Int×Sl):Prop:=
 aK xx (qM 24 c) h fun i j=>
 aK xx (qM 157 b) j fun d a=>
 ∃x3,cellOf a d=some (xl xt x3)/\
 Br (x3>=0) (∃f,cellOf a d=some (xl xt f)/\
 Br (f<=65535) (∃g:Sl,cellOf a (d.add 1)=some (g:Value)/\
 ∃e,cellOf a (i.add 2)=some (xl xt e)/\
 R (xq ((g.len:Int)==e)) a) (R false a)) (R false a)
theorem Jj(b:bH)(a:Int×Sl)(c:@BZ R h b a):ac xx 144 #[b,a] h R:=au ae func144 .n c
def Eh(f:bH)(a:Int)(c:Sl):Prop:=
 aK xx (qM 24 f) h fun d j=>
 ∃x2:bH,aj j d 0 x2/\
 af xx 47 #[x2] bE j fun m b=>
 (av.ok [] b)/\
 Br m (∃g:bH,aj b d 0 g/\
 ∃e:bH,aj b d 0 e/\
 af xx 231 #[g,(xl xv a),c] bt b fun l h3=>
 (av.ok [(d,e.1),(d.add 1,e.2.1),(d.add 2,e.2.2)] h3)/\
 af xx 232 #[e] bt h3 fun k i=>
 (av.ok [] i)/\
 R (xq (l==k)) i) ((av.ok [] b)/\
 (av.ok [] b)/\
 R false b)
theorem KJ(c:bH)(a:Int)(b:Sl)(d:@Eh R h c a b):ac xx 145 #[c,(xl xv a),b] h R:=au ae func145 .n d
def FW(a:Sl):Prop:=
 aJ (σ:=Sl×Int) (fun b i d=>
 Br (b.2<(a.len:Int))
 (∃f,(a.ptr=some f/\0<=b.2/\b.2<(a.len:Int))/\
 ∃x3:Int×Sl,aj d (f.add (b.2.toNat*2)) 0 x3/\
 aK xx (qK 157 true (.tuple #[])) d fun a4 l=>
 ag xx (qf 157 a4 x3) l fun _ h3=>
 ∃e,cellOf h3 a4=some (xl xt e)/\
 az xx (qt 22 1 #[(0,e)]) aH h3 fun k g=>
 az xx (qw #[22,22] 22 #[b.1,k]) aH g fun c j=>
 i ((⟨c.ptr,c.len,c.cap⟩:Sl),qc xt (b.2+1)) j)
 (R b.1 d)) ((⟨none,0,0⟩:Sl),(0:Int)) h
theorem MP(a:Sl)(b:@FW R h a):ac xx 146 #[a] h R:=au ae func146 (an.tn (an.tn (.two (an.tn (.inn (.loop [(3,cv),(8,aZ)] [(3,4),(5,6),(8,18)] .n))) .n))) b
def FX(T:bH)(g:Int)(j:Sl):Prop:=
 aK xx (qM 24 T) h fun i h1=>
 aJ (σ:=Sl×Int) (fun k K1 I=>
 Br (k.2<(j.len:Int))
 (∃a3,(j.ptr=some a3/\0<=k.2/\k.2<(j.len:Int))/\
 ∃Y:Int×Sl,aj I (a3.add (k.2.toNat*2)) 0 Y/\
 aK xx (qK 157 true (.tuple #[])) I fun a5 h3=>
 ag xx (qf 157 a5 Y) h3 fun _ H=>
 ∃W:bH,aj H i 0 W/\
 ∃x7,cellOf H a5=some (xl xt x7)/\
 ∃F:Sl,cellOf H (a5.add 1)=some (F:Value)/\
 af xx 148 #[W,(xl xv g),x7] aH H fun r9 h5=>
 (av.ok [(a5.add 1,F)] h5)/\
 az xx (qt 261 1 #[(0,(xr #[r9,F]))]) aH h5 fun L h6=>
 (av.ok [(a5.add 1,F)] h6)/\
 az xx (qw #[261,261] 261 #[k.1,L]) aH h6 fun l Z=>
 (av.ok [(a5.add 1,F)] Z)/\
 K1 ((⟨l.ptr,l.len,l.cap⟩:Sl),qc xt (k.2+1)) Z)
 (bf (σ:=aO) (fun a x=>
 ∃q:bH,aj x i 0 q/\
 af xx 232 #[q] bt x fun V O=>
 af xx 233 #[V,k.1] (.many [cv,cv,cv,aZ]) O fun f n=>
 Br (f.2.2.2 !=0)
 (R (.tuple #[(xn none 0 0),(xl xt 10)]) n)
 (∃B,(a=some B)/\
 ag xx (qf 40 (B.add 4) f.2.1) n fun _ Q=>
 ∃r,(a=some r)/\
 ag xx (qf 261 (r.add 5) f.2.2.1) Q fun _ K=>
 af xx 234 #[a,f.1] gF K fun _ U=>
 af xx 235 #[a] gF U fun _ J=>
 af xx 236 #[a] gF J fun _ M=>
 af xx 237 #[a] (.many [cv,cv]) M fun c e=>
 ∃a25,(a=some a25)/\
 ∃p:Sl,cellOf e ((a25.add 6).add 1)=some (p:Value)/\
 Br ((p.len:Int)==0)
 (aJ (σ:=Int) (fun d K3 m=>
 Br (d<(c.2.len:Int))
 (∃a28,(c.2.ptr=some a28/\0<=d/\d<(c.2.len:Int))/\
 ∃w:Sl,cellOf m (a28.add (d.toNat*1))=some (w:Value)/\
 af xx 238 #[w,Yc] aH m fun N v=>
 Br ((N.len:Int)>0)
 (R (.tuple #[(xn none 0 0),(xl xt 10)]) v)
 (K3 (qc xt (d+1)) v))
 (af xx 239 #[a,(xn none 0 0)] gF m fun _ s=>
 ∃D,(a=some D)/\
 ∃u:Sl,cellOf s (D.add 4)=some (u:Value)/\
 R (.tuple #[u,(xl xt 0)]) s)) (0:Int) e)
 (∃y,(a=some y)/\
 ∃G:aO,cellOf e y=some (.pointer G)/\
 af xx 211 #[G,c.1,c.2] (.many [cv,aZ]) e fun E z=>
 Br (E.2 !=0)
 (R (.tuple #[(xn none 0 0),(xl xt 10)]) z)
 (af xx 239 #[a,E.1] gF z fun _ A=>
 ∃t,(a=some t)/\
 ∃o:Sl,cellOf A (t.add 4)=some (o:Value)/\
 R (.tuple #[o,(xl xt 0)]) A))))
 (fun K2=>
 ∃b:bH,aj I i 0 b/\
 af xx 212 #[] jp I fun P h8=>
 (av.ok [(i,b.1),(i.add 1,b.2.1),(i.add 2,b.2.2)] h8)/\
 aK xx (qM 269 (xr #[P,b.1,b.2.1,b.2.2,(xn none 0 0),(xn none 0 0),(xn none 0 0),(xn none 0 0),(xn none 0 0),(xn none 0 0),(xn none 0 0)])) h8 fun S X=>
 (av.ok [(i,b.1),(i.add 1,b.2.1),(i.add 2,b.2.2)] X)/\
 K2 (some S) X))) ((⟨none,0,0⟩:Sl),(0:Int)) h1
theorem MQ(b:bH)(a:Int)(c:Sl)(d:@FX R h b a c):ac xx 147 #[b,(xl xv a),c] h R:=au ae func147 (an.tn (.fwd (an.tn (.two (an.tn (.inn (.loop [(8,cv),(23,aZ)] [(8,9),(10,11),(23,39)] .n))) (.two (.join [(11,FI)] [(11,12),(39,43)] .n) .n))) [(0,[.n]),(1,[(.two (an.tn (.inn (.loop [(95,aZ)] [(20,21),(95,104)] .n))) .n)]),(2,[.n])])) d
def NT(f:bH)(b:Int)(a:Int):Prop:=
 aK xx (qM 24 f) h fun k l=>
 bf (σ:=Unit) (fun _ h3=>
 ∃i:bH,aj h3 k 0 i/\
 af xx 232 #[i] bt h3 fun j m=>
 af xx 240 #[(xl xv (qc xv ((qC (qk xv) b^^^(qC (qk xv) (qc xv ((qc xv a)*2654435761)))).toNat:Nat)))] jp m fun d p=>
 af xx 241 #[d] (.one (.sc (.int .u32))) p fun _ t=>
 af xx 243 #[j] aH t fun r o=>
 af xx 242 #[r,d] bt o fun g h8=>
 af xx 244 #[d,j,g] aH h8 fun e n=>
 R e n)
 (fun q=>
 ∃x2:bH,aj l k 0 x2/\
 af xx 47 #[x2] bE l fun s c=>
 Br (!s) (R (xn none 0 0) c) (Br (a<0) (R (xn none 0 0) c) (Br (a>65535)
 (R (xn none 0 0) c)
 (q () c))))
theorem SO(c:bH)(a:Int)(b:Int)(d:@NT R h c a b):ac xx 148 #[c,(xl xv a),b] h R:=au ae func148 (an.tn (.two (.join [] [(6,7),(10,21)] .n) .n)) d
def nz(a:Sl)(d:Int):Prop:=
 aJ (σ:=Int) (fun b f c=>
 Br (b<(a.len:Int))
 (∃e,(a.ptr=some e/\0<=b/\b<(a.len:Int))/\
 ∃x3,cellOf c (e.add (b.toNat*1))=some (xl xt x3)/\
 Br (d==x3)
 (R b c)
 (f (qc xt (b+1)) c))
 (R (xl xt (-1:Int)) c)) (0:Int) h
theorem xg(b:Sl)(a:Int)(c:@nz R h b a):ac xx 149 #[b,a] h R:=au ae func149 (an.tn (.two (an.tn (.inn (.loop [(8,aZ)] [(4,6),(8,19)] .n))) .n)) c
def fU(a:Sl)(b:cA):Prop:=
 aJ (σ:=Int) (fun c g d=>
 Br (c<(a.len:Int))
 (∃f,(a.ptr=some f/\0<=c/\c<(a.len:Int))/\
 ∃x3,cellOf d (f.add (c.toNat*1))=some (xl xt x3)/\
 gb C b.1 (b.2.1.toList++[(xl xt x3)]++b.2.2.toList) bE d fun i e=>
 Br i
 (R c e)
 (g (qc xt (c+1)) e))
 (R (xl xt (-1:Int)) d)) (0:Int) h
theorem ic(b:Sl)(a:cA)(c:@fU R h b a):ac xx 150 #[b,(.func (.func a.1) a.2.1 a.2.2)] h R:=au ae func150 (an.tn (.two (an.tn (.inn (.loop [(8,aZ)] [(4,6),(8,19)] .n))) .n)) c
def pR(b:Int)(a:Addr):Prop:=
 ∃c:aO,cellOf h a=some (.pointer c)/\
 af xx 152 #[c,b,(xl xt 0)] bE h fun d e=>
 R (xq (!d)) e
theorem Ca(b:Int)(a:Addr)(c:@pR R h b a):ac xx 151 #[b,a] h R:=au ae func151 .n c
def tC(d:aO)(a:Int)(c:Int):Prop:=
 ∃j,(d=some j)/\
 ∃x2:aO,cellOf h j=some (.pointer x2)/\
 ∃a3,(d=some a3)/\
 ∃b:cJ,aj h (a3.add 1) 0 b/\
 ∃a5,(d=some a5)/\
 ∃e,cellOf h (a5.add 18)=some (xl xt e)/\
 ∃f,(d=some f)/\
 (0<=a/\a<((64:Nat):Int))/\
 ∃g,cellOf h ((f.add 19).add (a.toNat*1))=some (xl xt g)/\
 af xx 16 #[x2,a] jp h fun m l=>
 (av.ok [((f.add 19).add (a.toNat*1),g),(a5.add 18,e),(a3.add 1,b.1),((a3.add 1).add 1,b.2.1),((a3.add 1).add 2,b.2.2.1),((a3.add 1).add 3,b.2.2.2.1),((a3.add 1).add 4,b.2.2.2.2.1),((a3.add 1).add 5,b.2.2.2.2.2.1),((a3.add 1).add 6,b.2.2.2.2.2.2.1),((a3.add 1).add 7,b.2.2.2.2.2.2.2)] l)/\
 af xx 136 #[m,b,(qc xt ((qc xt (e+g))+c))] bE l fun i k=>
 (av.ok [((f.add 19).add (a.toNat*1),g),(a5.add 18,e)] k)/\
 R i k
theorem EL(c:aO)(b:Int)(a:Int)(d:@tC R h c b a):ac xx 152 #[c,b,a] h R:=au ae func152 .n d
def mi(a:aO):Prop:=
 Br (!(ze a)) (∃b,(a=some b)/\
 ∃x2:Bool,cellOf h (b.add 6)=some (xq x2)/\
 R x2 h) (R false h)
theorem pj(a:aO)(b:@mi R h a):ac xx 153 #[a] h R:=au ae func153 .n b
def sw(d:aO)(v:aO):Prop:=
 az xx (Instr.makeMap 284 none) (.one (.sc .mp)) h fun N P=>
 aK xx (qK 284 true (.tuple #[])) P fun s I=>
 ag xx (qf 284 s (.map N)) I fun _ h3=>
 ∃a3,(d=some a3)/\
 ∃t:Sl,cellOf h3 (a3.add 17)=some (t:Value)/\
 aJ (σ:=Int) (fun l M j=>
 Br (l<(t.len:Int))
 (∃B,(t.ptr=some B/\0<=l/\l<(t.len:Int))/\
 ∃G,cellOf j (B.add (l.toNat*1))=some (xl xt G)/\
 bf (σ:=Tu7) (fun e K=>
 aJ (σ:=Int) (fun c O h8=>
 Br (c<e.2.1)
 (∃o,(e.1.ptr=some o/\0<=c/\c<(e.1.len:Int))/\
 ∃m:df,aj h8 (o.add (c.toNat*8)) 0 m/\
 aK xx (qK 139 true (.tuple #[])) h8 fun r J=>
 ag xx (qf 139 r m) J fun _ g=>
 ∃i:Option Nat,cellOf g s=some (.map i)/\
 ∃q:df,aj g r 0 q/\
 af xx 245 #[q] aaF g fun A p=>
 (av.ok [(s,(.map i))] p)/\
 ag xx (Instr.mapUpdate 284 (.map i) A true) p fun _ k=>
 (av.ok [] k)/\
 O (qc xt (c+1)) k)
 (M (qc xt (l+1)) h8)) e.2.2 K)
 (fun L=>
 ∃D,(d=some D)/\
 ∃E:aO,cellOf j D=some (.pointer E)/\
 ∃a,(d=some a)/\
 ∃b:cJ,aj j (a.add 1) 0 b/\
 af xx 16 #[E,G] jp j fun z F=>
 (av.ok [(a.add 1,b.1),((a.add 1).add 1,b.2.1),((a.add 1).add 2,b.2.2.1),((a.add 1).add 3,b.2.2.2.1),((a.add 1).add 4,b.2.2.2.2.1),((a.add 1).add 5,b.2.2.2.2.2.1),((a.add 1).add 6,b.2.2.2.2.2.2.1),((a.add 1).add 7,b.2.2.2.2.2.2.2)] F)/\
 af xx 81 #[z,b] aH F fun f H=>
 (av.ok [] H)/\
 L ((⟨f.ptr,f.len,f.cap⟩:Sl),(f.len:Int),(0:Int)) H))
 (∃a22,(d=some a22)/\
 ∃n:cJ,aj j (a22.add 1) 0 n/\
 af xx 81 #[v,n] aH j fun x y=>
 af xx 246 #[x,(.func (.func 247) #[] #[s])] aH y fun w u=>
 R w u)) (0:Int) h3
theorem Dt(b:aO)(a:aO)(c:@sw R h b a):ac xx 154 #[b,a] h R:=au ae func154 (an.tn (an.tn (.two (an.tn (.inn (.loop [(16,aZ)] [(7,8),(9,10),(16,41)] (an.tn (an.tn (.two (.inn (an.tn (.two (.join [(30,cv),(31,aZ),(32,aZ)] [(20,33)] .n) (.inn (.loop [(32,aZ)] [(9,10),(32,40)] .n))))) .n)))))) .n))) c
def sA(a:aO)(u:df):Prop:=
 aK xx (qM 139 u) h fun l n=>
 ∃x2,cellOf n l=some (xl xt x2)/\
 ∃x3,cellOf n (l.add 1)=some (xl xt x3)/\
 ∃a4,(a=some a4)/\
 ∃v:Sl,cellOf n (a4.add 17)=some (v:Value)/\
 af xx 127 #[x2,x3,v] aH n fun z w=>
 (av.ok [] w)/\
 aJ (σ:=Int) (fun r D h3=>
 Br (r<(z.len:Int))
 (∃A,cellOf h3 (l.add 2)=some (xl xt A)/\
 af xx 129 #[z,(qc xt (A+r))] bt h3 fun d B=>
 af xx 152 #[a,d,(xl xt 1)] bE B fun s p=>
 Br s
 (∃e,(a=some e)/\
 (0<=d/\d<((64:Nat):Int))/\
 ∃k,cellOf p ((e.add 19).add (d.toNat*1))=some (xl xt k)/\
 ∃j,(a=some j)/\
 (0<=d/\d<((64:Nat):Int))/\
 ag xx (qf 3 ((j.add 19).add (d.toNat*1)) (qc xt (k+1))) p fun _ m=>
 (av.ok [] m)/\
 ∃b,(a=some b)/\
 ∃c:Sl,cellOf m (b.add 83)=some (c:Value)/\
 ∃f:df,aj m l 0 f/\
 af xx 130 #[f] aH m fun t y=>
 (av.ok [(b.add 83,c)] y)/\
 az xx (qt 98 1 #[(0,(xr #[d,t]))]) aH y fun o h8=>
 (av.ok [(b.add 83,c)] h8)/\
 az xx (qw #[98,98] 98 #[c,o]) aH h8 fun q x=>
 (av.ok [] x)/\
 ∃g,(a=some g)/\
 ag xx (qf 98 (g.add 83) q) x fun _ i=>
 (av.ok [] i)/\
 R true i)
 (D (qc xt (r+1)) p))
 (R false h3)) (0:Int) w
theorem Du(b:aO)(a:df)(c:@sA R h b a):ac xx 155 #[b,a] h R:=au ae func155 (an.tn (an.tn (.two (an.tn (.inn (.loop [(19,aZ)] [(4,5),(6,8),(19,55)] .n))) .n))) c
def Ei(c:aO)(a:Int)(b:Int):Prop:=
 af xx 201 #[c] bt h fun d e=>
 R (decide ((if(0:Int)>b then(0:Int)else b)<=(qc xt (d-a)))) e
theorem KK(b:aO)(a:Int)(c:Int)(d:@Ei R h b a c):ac xx 156 #[b,a,c] h R:=au ae func156 .n d
def tE(a:aO):Prop:=
 Br (ze a)
 (R (xl xt 0) h)
 (∃b,(a=some b)/\
 ∃x2:Sl,cellOf h (b.add 2)=some (x2:Value)/\
 R (xl xt (x2.len:Int)) h)
theorem EM(a:aO)(b:@tE R h a):ac xx 157 #[a] h R:=au ae func157 .n b
def oq(a:aO)(b:Sl):Prop:=
 aJ (σ:=Int) (fun f G c=>
 Br (f<(b.len:Int))
 (∃x,(b.ptr=some x/\0<=f/\f<(b.len:Int))/\
 ∃x3:Sl,cellOf c (x.add (f.toNat*1))=some (x3:Value)/\
 Br ((x3.len:Int) !=64)
 (R (xl xt 1) c)
 (G (qc xt (f+1)) c))
 (bf (σ:=Unit) (fun _ v=>
 ∃l,(a=some l)/\
 ∃i:aO,cellOf v l=some (.pointer i)/\
 af xx 35 #[i] bE v fun p z=>
 Br (!p)
 (af xx 248 #[b] aH z fun o I=>
 ∃k,(a=some k)/\
 ag xx (qf 40 (k.add 4) o) I fun _ E=>
 ∃g,(a=some g)/\
 ag xx (qf 4 (g.add 5) true) E fun _ h8=>
 R (xl xt 14) h8)
 (af xx 248 #[b] aH z fun q D=>
 ∃e,(a=some e)/\
 ag xx (qf 40 (e.add 2) q) D fun _ t=>
 ∃m,(a=some m)/\
 ag xx (qf 3 (m.add 3) (xl xt 0)) t fun _ s=>
 af xx 207 #[a] bt s fun r n=>
 R r n))
 (fun F=>
 bf (σ:=Bool) (fun H d=>
 Br H
 (R (xl xt 5) d)
 (∃y,(a=some y)/\
 ∃B,cellOf d (y.add 1)=some (xl xt B)/\
 Br ((b.len:Int)>B)
 (R (xl xt 7) d)
 (∃a9,(a=some a9)/\
 ∃j:aO,cellOf d a9=some (.pointer j)/\
 af xx 99 #[j] bE d fun u h3=>
 Br (!u)
 (R (xl xt 14) h3)
 (F () h3))))
 (fun A=>
 Br (ze a) (A true c) (∃a4,(a=some a4)/\
 ∃w:Bool,cellOf c (a4.add 6)=some (xq w)/\
 A w c))))) (0:Int) h
theorem Ad(a:aO)(b:Sl)(c:@oq R h a b):ac xx 158 #[a,b] h R:=au ae func158 (an.tn (.two (an.tn (.inn (.loop [(9,aZ)] [(4,5),(6,7),(9,17)] .n))) (.two (.join [] [(4,5),(17,41)] (.inn (.two (.join [(17,mg)] [(17,26)] .n) .n))) .n))) c
def Ir(b:aO)(d:cJ):Prop:=
 aK xx (qM 59 d) h fun a c=>
 ∃x2:cJ,aj c a 0 x2/\
 ∃x3:cJ,aj c a 0 x3/\
 af xx 43 #[x2] aH c fun j f=>
 (av.ok [(a,x3.1),(a.add 1,x3.2.1),(a.add 2,x3.2.2.1),(a.add 3,x3.2.2.2.1),(a.add 4,x3.2.2.2.2.1),(a.add 5,x3.2.2.2.2.2.1),(a.add 6,x3.2.2.2.2.2.2.1),(a.add 7,x3.2.2.2.2.2.2.2)] f)/\
 af xx 249 #[b,x3] aH f fun g h3=>
 (av.ok [] h3)/\
 az xx (qw #[40,40] 40 #[j,g]) aH h3 fun i e=>
 (av.ok [] e)/\
 R i e
theorem OS(a:aO)(b:cJ)(c:@Ir R h a b):ac xx 159 #[a,b] h R:=au ae func159 .n c
def na(a:aO):Prop:=
 Br (ze a)
 (R (xn none 0 0) h)
 (∃b,(a=some b)/\
 ∃x2:Sl,cellOf h (b.add 2)=some (x2:Value)/\
 af xx 248 #[x2] aH h fun c d=>
 R c d)
theorem pS(a:aO)(b:@na R h a):ac xx 160 #[a] h R:=au ae func160 .n b
def Ej(E:Sl):Prop:=
 aK xx (qK 139 true (.tuple #[])) h fun f h1=>
 af xx 250 #[E] (.many [aZ,cv,mg]) h1 fun a U=>
 bf (σ:=Unit) (fun _ h5=>
 bf (σ:=Addr) (fun b ao=>
 bf (σ:=Unit) (fun _ a2=>
 (0<=(9:Int)/\(9:Int)<=(13:Int)/\(13:Int)<=(a.2.1.cap:Int))/\
 af xx 251 #[(.slice (if a.2.1.cap=(9:Int).toNat then a.2.1.ptr else a.2.1.ptr.map (·.add ((9:Int).toNat*1))) ((13:Int).toNat-(9:Int).toNat) (a.2.1.cap-(9:Int).toNat))] bt a2 fun ah am=>
 ag xx (qf 36 (b.add 6) (xl xv (qc xv ah))) am fun _ F=>
 ∃I:bH,aj F (b.add 3) 0 I/\
 af xx 47 #[I] bE F fun Z k=>
 Br (!Z)
 (ag xx (qf 139 f (xr #[(xl xt 0),(xl xt 0),(xl xt 0),(xl xt 0),(xl xt 0),(xl xt 0),(xl xv 0),(xn none 0 0)])) k fun _ O=>
 ∃e:df,aj O f 0 e/\
 R (.tuple #[e,false]) O)
 (∃g,cellOf k ((b.add 3).add 2)=some (xl xt g)/\
 (0<=(13:Int)/\(13:Int)<=(qc xt (13+g))/\(qc xt (13+g))<=(a.2.1.cap:Int))/\
 af xx 206 #[(.slice (if a.2.1.cap=(13:Int).toNat then a.2.1.ptr else a.2.1.ptr.map (·.add ((13:Int).toNat*1))) ((qc xt (13+g)).toNat-(13:Int).toNat) (a.2.1.cap-(13:Int).toNat))] aH k fun W ap=>
 ag xx (qf 35 (b.add 7) W) ap fun _ A=>
 ∃P:df,aj A b 0 P/\
 af xx 130 #[P] aH A fun ax X=>
 af xx 229 #[E,ax] bE X fun ad l=>
 Br (!ad)
 (ag xx (qf 139 f (xr #[(xl xt 0),(xl xt 0),(xl xt 0),(xl xt 0),(xl xt 0),(xl xt 0),(xl xv 0),(xn none 0 0)])) l fun _ v=>
 ∃c:df,aj v f 0 c/\
 R (.tuple #[c,false]) v)
 (∃q:df,aj l b 0 q/\
 ag xx (qf 139 f q) l fun _ H=>
 ∃d:df,aj H f 0 d/\
 R (.tuple #[d,true]) H)))
 (fun K3=>
 (0<=(6:Int)/\(6:Int)<=(7:Int)/\(7:Int)<=(a.2.1.cap:Int))/\
 (0<=(7:Int)/\(7:Int)<=(8:Int)/\(8:Int)<=(a.2.1.cap:Int))/\
 (0<=(8:Int)/\(8:Int)<=(9:Int)/\(9:Int)<=(a.2.1.cap:Int))/\
 af xx 251 #[(.slice (if a.2.1.cap=(6:Int).toNat then a.2.1.ptr else a.2.1.ptr.map (·.add ((6:Int).toNat*1))) ((7:Int).toNat-(6:Int).toNat) (a.2.1.cap-(6:Int).toNat))] bt ao fun a0 L=>
 (av.ok [] L)/\
 af xx 251 #[(.slice (if a.2.1.cap=(7:Int).toNat then a.2.1.ptr else a.2.1.ptr.map (·.add ((7:Int).toNat*1))) ((8:Int).toNat-(7:Int).toNat) (a.2.1.cap-(7:Int).toNat))] bt L fun a4 J=>
 (av.ok [] J)/\
 af xx 251 #[(.slice (if a.2.1.cap=(8:Int).toNat then a.2.1.ptr else a.2.1.ptr.map (·.add ((8:Int).toNat*1))) ((9:Int).toNat-(8:Int).toNat) (a.2.1.cap-(8:Int).toNat))] bt J fun V w=>
 (av.ok [] w)/\
 ag xx (qf 24 (b.add 3) (xr #[a0,a4,V])) w fun _ N=>
 (av.ok [] N)/\
 K3 () N))
 (fun Q=>
 (0<=(3:Int)/\(3:Int)<=(a.2.1.cap:Int))/\
 (0<=(3:Int)/\(3:Int)<=(4:Int)/\(4:Int)<=(a.2.1.cap:Int))/\
 (0<=(4:Int)/\(4:Int)<=(6:Int)/\(6:Int)<=(a.2.1.cap:Int))/\
 (af xx 251 #[(xn a.2.1.ptr ((3:Int).toNat) a.2.1.cap)] bt h5 fun r6 h6=>
 (av.ok [] h6)/\
 (af xx 251 #[(.slice (if a.2.1.cap=(3:Int).toNat then a.2.1.ptr else a.2.1.ptr.map (·.add ((3:Int).toNat*1))) ((4:Int).toNat-(3:Int).toNat) (a.2.1.cap-(3:Int).toNat))] bt h6 fun r7 h7=>
 (av.ok [] h7)/\
 (af xx 251 #[(.slice (if a.2.1.cap=(4:Int).toNat then a.2.1.ptr else a.2.1.ptr.map (·.add ((4:Int).toNat*1))) ((6:Int).toNat-(4:Int).toNat) (a.2.1.cap-(4:Int).toNat))] bt h7 fun r8 h8=>
 (av.ok [] h8)/\
 aK xx (qK 139 true (.tuple #[])) h8 fun a9 h9=>
 (av.ok [] h9)/\
 ag xx (qf 139 a9 (xr #[r6,r7,r8,(xl xt 0),(xl xt 0),(xl xt 0),(xl xv 0),(xn none 0 0)])) h9 fun _ z=>
 (av.ok [] z)/\
 Q a9 z)/\(aK xx (qK 139 true (.tuple #[])) h7 fun t x=>
 (av.ok [] x)/\
 af xx 251 #[(.slice (if a.2.1.cap=(4:Int).toNat then a.2.1.ptr else a.2.1.ptr.map (·.add ((4:Int).toNat*1))) ((6:Int).toNat-(4:Int).toNat) (a.2.1.cap-(4:Int).toNat))] bt x fun ay n=>
 (av.ok [] n)/\
 ag xx (qf 139 t (xr #[r6,r7,ay,(xl xt 0),(xl xt 0),(xl xt 0),(xl xv 0),(xn none 0 0)])) n fun _ B=>
 (av.ok [] B)/\
 Q t B))/\(aK xx (qK 139 true (.tuple #[])) h6 fun s p=>
 (av.ok [] p)/\
 af xx 251 #[(.slice (if a.2.1.cap=(3:Int).toNat then a.2.1.ptr else a.2.1.ptr.map (·.add ((3:Int).toNat*1))) ((4:Int).toNat-(3:Int).toNat) (a.2.1.cap-(3:Int).toNat))] bt p fun ab K=>
 (av.ok [] K)/\
 af xx 251 #[(.slice (if a.2.1.cap=(4:Int).toNat then a.2.1.ptr else a.2.1.ptr.map (·.add ((4:Int).toNat*1))) ((6:Int).toNat-(4:Int).toNat) (a.2.1.cap-(4:Int).toNat))] bt K fun Y m=>
 (av.ok [] m)/\
 ag xx (qf 139 s (xr #[r6,ab,Y,(xl xt 0),(xl xt 0),(xl xt 0),(xl xv 0),(xn none 0 0)])) m fun _ u=>
 (av.ok [] u)/\
 Q s u))/\(aK xx (qK 139 true (.tuple #[])) h5 fun M o=>
 (av.ok [] o)/\
 af xx 251 #[(xn a.2.1.ptr ((3:Int).toNat) a.2.1.cap)] bt o fun S G=>
 (av.ok [] G)/\
 af xx 251 #[(.slice (if a.2.1.cap=(3:Int).toNat then a.2.1.ptr else a.2.1.ptr.map (·.add ((3:Int).toNat*1))) ((4:Int).toNat-(3:Int).toNat) (a.2.1.cap-(3:Int).toNat))] bt G fun a3 y=>
 (av.ok [] y)/\
 af xx 251 #[(.slice (if a.2.1.cap=(4:Int).toNat then a.2.1.ptr else a.2.1.ptr.map (·.add ((4:Int).toNat*1))) ((6:Int).toNat-(4:Int).toNat) (a.2.1.cap-(4:Int).toNat))] bt y fun T r=>
 (av.ok [] r)/\
 ag xx (qf 139 M (xr #[S,a3,T,(xl xt 0),(xl xt 0),(xl xt 0),(xl xv 0),(xn none 0 0)])) r fun _ D=>
 (av.ok [] D)/\
 Q M D)))
 (fun K1=>
 Br (!a.2.2) (ag xx (qf 139 f (xr #[(xl xt 0),(xl xt 0),(xl xt 0),(xl xt 0),(xl xt 0),(xl xt 0),(xl xv 0),(xn none 0 0)])) U fun _ h3=>
 ∃i:df,aj h3 f 0 i/\
 R (.tuple #[i,false]) h3) (Br (a.1 !=1)
 (ag xx (qf 139 f (xr #[(xl xt 0),(xl xt 0),(xl xt 0),(xl xt 0),(xl xt 0),(xl xt 0),(xl xv 0),(xn none 0 0)])) U fun _ h4=>
 ∃j:df,aj h4 f 0 j/\
 R (.tuple #[j,false]) h4)
 (K1 () U)))
theorem KL(a:Sl)(b:@Ej R h a):ac xx 161 #[a] h R:=au ae func161 (an.tn (an.tn (.two (.join [] [(3,4),(14,21)] .n) (.two (.join [(7,(.sc .adr))] [(7,8),(21,31)] .n) (.two (.join [] [(31,42)] .n) .n))))) b
end
end Go.Qw
