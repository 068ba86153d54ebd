/- Lemmas. -/
import Derived.Test.YtadfimdanpoafaaGreatDoorTabA
set_option linter.unusedVariables false
open Go.Proofs.Tryz renaming prog -> xx
open Go.Instr renaming alloc -> qK, box -> qM, buildSlice -> qt, storeAt -> qf
open Go.Value renaming agg -> xr, bool -> xq, int -> xl, pointer -> xo, slice -> xn
open Go.IntKind renaming bits -> qk, i64 -> xt, u32 -> xv, u8 -> xu, wrap -> qc
open Option renaming isNone -> ze
open Int renaming tdiv -> wI
open Go.Builtin renaming append_ -> qw
open BitVec renaming ofInt -> qC
open Go.Proofs.Tryz
set_option maxRecDepth 1000000
namespace Go.Qw
noncomputable section
open Go Go.Vc Go.Proofs
variable {R:AX} {h:Heap}
def pc(a:aO)(o:cJ):Prop:=
 aK xx (qM 59 o) h fun i E=>
 af xx 63 #[a] bE E fun A l=>
 Br A
 (R (xl xt 14) l)
 (bf (σ:=Unit) (fun _ q=>
 ∃u:Sl,cellOf q (i.add 6)=some (u:Value)/\
 af xx 79 #[(.func (.func 16) #[a] #[]),u] aH q fun b v=>
 ∃g:cJ,aj v i 0 g/\
 af xx 43 #[g] aH v fun p D=>
 aK xx (qK 3 true (.tuple #[])) D fun d y=>
 ag xx (qf 3 d (xl xt (p.len:Int))) y fun _ h8=>
 bf (σ:=Unit) (fun _ n=>
 af xx 61 #[a,b,(.func (.func 101) #[] #[d])] bt n fun e c=>
 Br (e !=0)
 (R e c)
 (∃f:cJ,aj c i 0 f/\
 af xx 62 #[a,f,b] bt c fun k j=>
 R k j))
 (fun z=>
 Br ((b.len:Int)==0) (R (xl xt 7) h8) (af xx 60 #[a,b,(.func (.func 101) #[] #[d])] bE h8 fun m t=>
 Br (!m)
 (R (xl xt 7) t)
 (z () t))))
 (fun B=>
 ∃x3:cJ,aj l i 0 x3/\
 af xx 100 #[x3] bE l fun x h3=>
 (av.ok [] h3)/\
 Br (!x) (R (xl xt 1) h3) (∃s,cellOf h3 i=some (xl xt s)/\
 ∃r,(a=some r)/\
 ∃w,cellOf h3 r=some (xl xt w)/\
 Br (s !=(qc xt (w+1)))
 (R (xl xt 1) h3)
 (B () h3))))
theorem Be(b:aO)(a:cJ)(c:@pc R h b a):ac xx 30 #[b,a] h R:=au ae func30 (an.tn (an.tn (.two (.join [] [(4,5),(11,25)] .n) (an.tn (an.tn (an.tn (.two (.join [] [(4,5),(34,44)] .n) .n))))))) c
def ka(c:aO):Prop:=
 aK xx (qK 59 true (.tuple #[])) h fun d e=>
 Br (ze c)
 (ag xx (qf 59 d (xr #[(xl xt 0),(xl xt 0),(xl xt 0),(xl xt 0),(xl xt 0),(xl xt 0),(xn none 0 0),(xn none 0 0)])) e fun _ i=>
 ∃b:cJ,aj i d 0 b/\
 R b i)
 (∃a3,(c=some a3)/\
 ∃f:cJ,aj e a3 0 f/\
 af xx 114 #[f] FH e fun j h3=>
 ag xx (qf 59 d j) h3 fun _ g=>
 ∃a:cJ,aj g d 0 a/\
 R a g)
theorem mh(a:aO)(b:@ka R h a):ac xx 34 #[a] h R:=au ae func34 .n b
def sj(a:aO):Prop:=
 af xx 99 #[a] bE h fun n b=>
 Br (!n)
 (R false b)
 (∃l,(a=some l)/\
 ∃x3:Bool,cellOf b (l.add 1)=some (xq x3)/\
 Br (!x3)
 (R true b)
 (∃a4,(a=some a4)/\
 ∃g,cellOf b (a4.add 2)=some (xl xt g)/\
 Br (g==0)
 (∃f,(a=some f)/\
 ag xx (qf 4 f true) b fun _ i=>
 ∃j,(a=some j)/\
 ∃k,cellOf i (j.add 3)=some (xl xt k)/\
 ∃a9,(a=some a9)/\
 ag xx (qf 3 (a9.add 3) (qc xt (k+1))) i fun _ h3=>
 R false h3)
 (∃e,(a=some e)/\
 ∃c,cellOf b (e.add 2)=some (xl xt c)/\
 ∃d,(a=some d)/\
 ag xx (qf 3 (d.add 2) (qc xt (c-1))) b fun _ m=>
 R true m)))
theorem Dm(a:aO)(b:@sj R h a):ac xx 35 #[a] h R:=au ae func35 .n b
def sk(a:aO):Prop:=
 Br (!(ze a)) (∃e,(a=some e)/\
 ∃x2:aO,cellOf h (e.add 8)=some (.pointer x2)/\
 af xx 99 #[x2] bE h fun i b=>
 (av.ok [] b)/\
 Br (!i) ((av.ok [] b)/\
 R true b) (∃a4,(a=some a4)/\
 ∃f:aO,cellOf b (a4.add 8)=some (.pointer f)/\
 ∃d,(a=some d)/\
 ∃c,cellOf b (d.add 9)=some (xl xt c)/\
 af xx 48 #[f] bt b fun j g=>
 (av.ok [(d.add 9,c)] g)/\
 R (xq (j !=c)) g)) ((av.ok [] h)/\
 (av.ok [] h)/\
 R false h)
theorem Dn(a:aO)(b:@sk R h a):ac xx 39 #[a] h R:=au ae func39 .n b
def tv(b:aO)(a:Int)(c:aO):Prop:=
 Br (!(ze b)) (Br (a>=0) (Br (a<64)
 (∃d,(b=some d)/\
 (0<=a/\a<((64:Nat):Int))/\
 ag xx (qf 48 ((d.add 10).add (a.toNat*1)) c) h fun _ e=>
 R (.tuple #[]) e)
 (R (.tuple #[]) h)) (R (.tuple #[]) h)) (R (.tuple #[]) h)
theorem EI(c:aO)(a:Int)(b:aO)(d:@tv R h c a b):ac xx 41 #[c,a,b] h R:=au ae func41 .n d
def FK(d:cJ):Prop:=
 aK xx (qM 59 d) h fun e k=>
 ∃x2:cJ,aj k e 0 x2/\
 af xx 116 #[x2] aH k fun b n=>
 ((48:Int)≠0)/\
 aJ (σ:=Sl×Int) (fun a l h3=>
 Br (decide (a.2<(qc xt (wI (qc xt ((qc xt ((b.len:Int)+48))-1)) 48))))
 (∃i,cellOf h3 e=some (xl xt i)/\
 (0<=(qc xt (a.2*48))/\(qc xt (a.2*48))<=(if(qc xt ((qc xt (a.2+1))*48))<(b.len:Int)then qc xt ((qc xt (a.2+1))*48)else(b.len:Int))/\(if(qc xt ((qc xt (a.2+1))*48))<(b.len:Int)then qc xt ((qc xt (a.2+1))*48)else(b.len:Int))<=(b.cap:Int))/\
 af xx 117 #[i,a.2,(qc xt (wI (qc xt ((qc xt ((b.len:Int)+48))-1)) 48)),(.slice (if b.cap=(qc xt (a.2*48)).toNat then b.ptr else b.ptr.map (·.add ((qc xt (a.2*48)).toNat*1))) ((if(qc xt ((qc xt (a.2+1))*48))<(b.len:Int)then qc xt ((qc xt (a.2+1))*48)else(b.len:Int)).toNat-(qc xt (a.2*48)).toNat) (b.cap-(qc xt (a.2*48)).toNat))] aH h3 fun m f=>
 (av.ok [] f)/\
 az xx (qt 40 1 #[(0,m)]) aH f fun o g=>
 (av.ok [] g)/\
 az xx (qw #[40,40] 40 #[a.1,o]) aH g fun c j=>
 (av.ok [] j)/\
 l ((⟨c.ptr,c.len,c.cap⟩:Sl),qc xt (a.2+1)) j)
 (R a.1 h3)) ((⟨none,0,0⟩:Sl),(0:Int)) n
theorem MI(a:cJ)(b:@FK R h a):ac xx 43 #[a] h R:=au ae func43 (an.tn (an.tn (an.tn (an.tn (.two (an.tn (.inn (.loop [(5,cv),(16,aZ)] [(5,8),(16,39)] .n))) .n))))) b
def nu(c:Int)(b:Int)(d:Int):Prop:=
 aK xx (qK 24 true (.tuple #[])) h fun e m=>
 af xx 13 #[c,(xl xt 6)] bt m fun l i=>
 af xx 13 #[b,(xl xt 3)] bt i fun k h3=>
 af xx 13 #[d,(xl xt 9)] bt h3 fun j g=>
 ag xx (qf 24 e (xr #[(qc xt (1+l)),(qc xt (1+k)),(qc xt (1+j))])) g fun _ f=>
 ∃a:bH,aj f e 0 a/\
 R a f
theorem vE(c:Int)(a:Int)(b:Int)(d:@nu R h c a b):ac xx 44 #[c,a,b] h R:=au ae func44 .n d
def pd(b:Sl)(a:Int):Prop:=
 Br (a<(b.len:Int))
 (∃c,(b.ptr=some c/\0<=a/\a<(b.len:Int))/\
 ∃x2,cellOf h (c.add (a.toNat*1))=some (xl xt x2)/\
 R x2 h)
 (R (xl xt 0) h)
theorem Bf(a:Sl)(b:Int)(c:@pd R h a b):ac xx 45 #[a,b] h R:=au ae func45 .n c
def BR(a:Sl):Prop:=
 aJ (σ:=Sl×Int) (fun b e c=>
 Br (b.2<(a.len:Int))
 (∃g,(a.ptr=some g/\0<=b.2/\b.2<(a.len:Int))/\
 ∃x3,cellOf c (g.add (b.2.toNat*1))=some (xl xt x3)/\
 bf (σ:=Unit) (fun _ f=>
 Br (x3>0)
 (az xx (qt 22 1 #[(0,b.2)]) aH f fun v5 h3=>
 az xx (qw #[22,22] 22 #[b.1,v5]) aH h3 fun d i=>
 e ((⟨d.ptr,d.len,d.cap⟩:Sl),qc xt (b.2+1)) i)
 (e ((⟨b.1.ptr,b.1.len,b.1.cap⟩:Sl),qc xt (b.2+1)) f))
 (fun j=>
 Br (x3<0) (R (.tuple #[(xn none 0 0),false]) c) (Br (x3>512)
 (R (.tuple #[(xn none 0 0),false]) c)
 (j () c))))
 (Br ((a.len:Int)<=64) (R (.tuple #[b.1,(decide ((b.1.len:Int)>0))]) c) (R (.tuple #[b.1,false]) c))) ((⟨none,0,0⟩:Sl),(0:Int)) h
theorem Jg(a:Sl)(b:@BR R h a):ac xx 46 #[a] h R:=au ae func46 (an.tn (an.tn (.two (an.tn (.inn (.loop [(4,cv),(9,aZ)] [(2,7),(9,27)] (an.tn (an.tn (.two (.inn (an.tn (.two (.join [] [(2,4),(14,20)] .n) .n))) .n)))))) .n))) b
def NR(c:bH):Prop:=
 aK xx (qM 24 c) h fun b a=>
 ∃x2,cellOf a b=some (xl xt x2)/\
 Br (x2>=1) (∃x3,cellOf a b=some (xl xt x3)/\
 Br (x3<=16) (∃e,cellOf a (b.add 1)=some (xl xt e)/\
 Br (e>=1) (∃g,cellOf a (b.add 1)=some (xl xt g)/\
 Br (g<=4) (∃d,cellOf a (b.add 2)=some (xl xt d)/\
 Br (d>=1) (∃f,cellOf a (b.add 2)=some (xl xt f)/\
 R (decide (f<=24)) a) (R false a)) (R false a)) (R false a)) (R false a)) (R false a)
theorem SM(a:bH)(b:@NR R h a):ac xx 47 #[a] h R:=au ae func47 .n b
def so(a:aO):Prop:=
 Br (ze a)
 (R (xl xt 0) h)
 (∃b,(a=some b)/\
 ∃x2,cellOf h (b.add 3)=some (xl xt x2)/\
 R x2 h)
theorem Do(a:aO)(b:@so R h a):ac xx 48 #[a] h R:=au ae func48 .n b
def Ii(a:Int)(b:aO):Prop:=
 bf (σ:=Unit) (fun _ e=>
 aK xx (qM 161 (xr #[b,a,(xn none 0 0),(xl xt 0),(xn none 0 0),false,false])) e fun f d=>
 R f d)
 (fun c=>
 Br (a<1) (R (xo none) h) (Br (a>512) (R (xo none) h) (Br (ze b)
 (R (xo none) h)
 (c () h))))
theorem OK(a:Int)(b:aO)(c:@Ii R h a b):ac xx 49 #[a,b] h R:=au ae func49 (an.tn (.two (.join [] [(4,15)] .n) .n)) c
def NS(a:cA)(d:Sl):Prop:=
 aJ (σ:=Sl×Int) (fun b x k=>
 Br (b.2<(d.len:Int))
 (∃n,(d.ptr=some n/\0<=b.2/\b.2<(d.len:Int))/\
 ∃x3:Int×Sl,aj k (n.add (b.2.toNat*2)) 0 x3/\
 aK xx (qK 112 true (.tuple #[])) k fun a4 s=>
 ag xx (qf 112 a4 x3) s fun _ h3=>
 bf (σ:=Unit) (fun _ o=>
 ∃e,cellOf o a4=some (xl xt e)/\
 az xx (qt 22 1 #[(0,e)]) aH o fun j h8=>
 az xx (qw #[22,22] 22 #[b.1,j]) aH h8 fun c t=>
 x ((⟨c.ptr,c.len,c.cap⟩:Sl),qc xt (b.2+1)) t)
 (fun v=>
 bf (σ:=Int) (fun r q=>
 Br (r !=0)
 (R r q)
 (v () q))
 (fun y=>
 ∃m,cellOf h3 a4=some (xl xt m)/\
 ∃f:Sl,cellOf h3 (a4.add 1)=some (f:Value)/\
 gb C a.1 (a.2.1.toList++[(xl xt m)]++a.2.2.toList) jp h3 fun w l=>
 (av.ok [(a4.add 1,f)] l)/\
 af xx 118 #[w,f] bt l fun u p=>
 (av.ok [] p)/\
 y u p)))
 (af xx 119 #[(.func (.func a.1) a.2.1 a.2.2),b.1] bt k fun g i=>
 R g i)) ((⟨none,0,0⟩:Sl),(0:Int)) h
theorem SN(a:cA)(b:Sl)(c:@NS R h a b):ac xx 50 #[(.func (.func a.1) a.2.1 a.2.2),b] h R:=au ae func50 (an.tn (an.tn (.two (an.tn (.inn (.loop [(5,cv),(11,aZ)] [(4,6),(7,9),(11,31)] (an.tn (an.tn (.two (.inn (an.tn (.two (.join [] [(4,5),(8,9),(15,25)] (.two (.join [(8,aZ)] [(8,9),(15,22)] .n) .n)) .n))) .n)))))) .n))) c
def Ij(g:cJ)(a:Sl):Prop:=
 aK xx (qM 59 g) h fun r l=>
 ∃x2:cJ,aj l r 0 x2/\
 af xx 43 #[x2] aH l fun i n=>
 aJ (σ:=Sl×Int) (fun b p h3=>
 Br (b.2<(a.len:Int))
 (∃a5,(a.ptr=some a5/\0<=b.2/\b.2<(a.len:Int))/\
 ∃j,cellOf h3 (a5.add (b.2.toNat*1))=some (xl xt j)/\
 aJ (σ:=Sl×Int) (fun c o f=>
 Br (c.2<(i.len:Int))
 (∃k,(i.ptr=some k/\0<=c.2/\c.2<(i.len:Int))/\
 ∃m:Sl,cellOf f (k.add (c.2.toNat*1))=some (m:Value)/\
 az xx (qt 98 1 #[(0,(xr #[j,m]))]) aH f fun e q=>
 az xx (qw #[98,98] 98 #[c.1,e]) aH q fun d s=>
 o ((⟨d.ptr,d.len,d.cap⟩:Sl),qc xt (c.2+1)) s)
 (p ((⟨c.1.ptr,c.1.len,c.1.cap⟩:Sl),qc xt (b.2+1)) f)) ((⟨b.1.ptr,b.1.len,b.1.cap⟩:Sl),(0:Int)) h3)
 (R b.1 h3)) ((⟨none,0,0⟩:Sl),(0:Int)) n
theorem OL(b:cJ)(a:Sl)(c:@Ij R h b a):ac xx 51 #[b,a] h R:=au ae func51 (an.tn (an.tn (an.tn (.two (an.tn (.inn (.loop [(6,cv),(15,aZ)] [(6,7),(8,9),(10,11),(15,33)] (an.tn (an.tn (.two (.inn (an.tn (an.tn (.inn (.loop [(6,cv),(21,aZ)] [(6,7),(10,11),(21,32)] .n))))) .n)))))) .n)))) c
def oc(ao:bH)(a4:Int)(a:Int)(c:Int):Prop:=
 aK xx (qM 24 ao) h fun r h1=>
 aK xx (qK 38 true (.tuple #[])) h1 fun b h2=>
 af xx 13 #[a4,(xl xt 26)] bt h2 fun p h3=>
 Br (p<8)
 (((5:Int)≠0)/\
 ∃w,cellOf h3 r=some (xl xt w)/\
 ∃u,cellOf h3 (r.add 2)=some (xl xt u)/\
 af xx 120 #[a] (.one Kx) h3 fun r6 h4=>
 (av.ok [(r.add 2,u),(r,w)] h4)/\
 af xx 13 #[(qc xt (wI a 5)),(qc xt ((qc xt ((qc xt (3*w))*u))+2))] bt h4 fun r7 h5=>
 (av.ok [(r.add 2,u),(r,w)] h5)/\
 af xx 121 #[r7,c] aH h5 fun r8 h6=>
 (av.ok [(r.add 2,u),(r,w)] h6)/\
 ag xx (qf 38 b (xr #[(xl xt 1),r6,r8,(xl xt 0),(xl xt 0),(xl xt 0),(xl xv 0),(xn none 0 0),(xn none 0 0)])) h6 fun _ P=>
 (av.ok [] P)/\
 ∃q:BN,aj P b 0 q/\
 R q P)
 (Br (p<11)
 (af xx 120 #[a] (.one Kx) h3 fun a6 h8=>
 ag xx (qf 38 b (xr #[(xl xt 2),a6,(xn none 0 0),(xl xt 0),(xl xt 0),(xl xt 0),(xl xv 0),(xn none 0 0),(xn none 0 0)])) h8 fun _ h9=>
 ∃o:BN,aj h9 b 0 o/\
 R o h9)
 (Br (p<13)
 (af xx 120 #[a] (.one Kx) h3 fun am U=>
 ag xx (qf 38 b (xr #[(xl xt 3),am,(xn none 0 0),(xl xt 0),(xl xt 0),(xl xt 0),(xl xv 0),(xn none 0 0),(xn none 0 0)])) U fun _ x=>
 ∃d:BN,aj x b 0 d/\
 R d x)
 (Br (p==13)
 (ag xx (qf 38 b (xr #[(xl xt 4),np,(xn none 0 0),(xl xt 0),(xl xt 0),(xl xt 0),(xl xv 0),(xn none 0 0),(xn none 0 0)])) h3 fun _ s=>
 ∃i:BN,aj s b 0 i/\
 R i s)
 (Br (p==14)
 (af xx 120 #[a] (.one Kx) h3 fun H Y=>
 ag xx (qf 38 b (xr #[(xl xt 5),H,(xn none 0 0),(xl xt 0),(xl xt 0),(xl xt 0),(xl xv 0),(xn none 0 0),(xn none 0 0)])) Y fun _ t=>
 ∃f:BN,aj t b 0 f/\
 R f t)
 (Br (p==15)
 (af xx 13 #[a,(xl xt 9)] bt h3 fun a7 a0=>
 af xx 13 #[c,(xl xt 60)] bt a0 fun I F=>
 ag xx (qf 38 b (xr #[(xl xt 6),np,(xn none 0 0),a7,(qc xt (6+I)),(xl xt 0),(xl xv 0),(xn none 0 0),(xn none 0 0)])) F fun _ v=>
 ∃g:BN,aj v b 0 g/\
 R g v)
 (Br (p==16)
 (af xx 13 #[a,(xl xt 8)] bt h3 fun ay G=>
 ag xx (qf 38 b (xr #[(xl xt 7),np,(xn none 0 0),ay,(xl xt 0),(xl xt 0),(xl xv 0),(xn none 0 0),(xn none 0 0)])) G fun _ D=>
 ∃j:BN,aj D b 0 j/\
 R j D)
 (Br (p==17)
 (af xx 13 #[a,(xl xt 8)] bt h3 fun K T=>
 af xx 13 #[c,(xl xt 60)] bt T fun J L=>
 ag xx (qf 38 b (xr #[(xl xt 8),np,(xn none 0 0),K,(qc xt (6+J)),(xl xt 0),(xl xv 0),(xn none 0 0),(xn none 0 0)])) L fun _ A=>
 ∃e:BN,aj A b 0 e/\
 R e A)
 (Br (p==18)
 (af xx 13 #[a,(xl xt 8)] bt h3 fun S Z=>
 ag xx (qf 38 b (xr #[(xl xt 9),np,(xn none 0 0),S,(xl xt 0),(xl xt 0),(xl xv 0),(xn none 0 0),(xn none 0 0)])) Z fun _ E=>
 ∃n:BN,aj E b 0 n/\
 R n E)
 (Br (p<22)
 (af xx 13 #[a,(xl xt 3)] bt h3 fun W ap=>
 af xx 13 #[c,(xl xt 20)] bt ap fun ah Q=>
 ag xx (qf 38 b (xr #[(xl xt 10),np,(xn none 0 0),(xl xt 0),W,ah,(xl xv 0),(xn none 0 0),(xn none 0 0)])) Q fun _ z=>
 ∃k:BN,aj z b 0 k/\
 R k z)
 (Br (p==22)
 (af xx 13 #[a,(xl xt 9)] bt h3 fun N a5=>
 af xx 13 #[c,(xl xt 70)] bt a5 fun ad X=>
 ag xx (qf 38 b (xr #[(xl xt 10),np,(xn none 0 0),(xl xt 0),(qc xt (N-1)),(qc xt (ad-1)),(xl xv 0),(xn none 0 0),(xn none 0 0)])) X fun _ B=>
 ∃l:BN,aj B b 0 l/\
 R l B)
 (af xx 13 #[a,(xl xt 7)] bt h3 fun ax V=>
 ((7:Int)≠0)/\
 af xx 13 #[(qc xt (wI a 7)),(xl xt 40)] bt V fun O M=>
 af xx 13 #[c,(xl xt 61)] bt M fun a3 ab=>
 ag xx (qf 38 b (xr #[(xl xt 11),np,(xn none 0 0),ax,O,a3,(xl xv (qc xv ((qc xv ((qc xv c)*2654435761))+(qc xv a)))),(xn none 0 0),(xn none 0 0)])) ab fun _ y=>
 ∃m:BN,aj y b 0 m/\
 R m y)))))))))))
theorem xZ(d:bH)(a:Int)(b:Int)(c:Int)(e:@oc R h d a b c):ac xx 53 #[d,a,b,c] h R:=au ae func53 .n e
def od(a:aO)(b:ByteArray)(j:Sl):Prop:=
 af xx 63 #[a] bE h fun v r=>
 Br v
 (R (xl xt 14) r)
 (af xx 122 #[b] bE r fun u p=>
 Br (!u)
 (R (xl xt 3) p)
 (af xx 65 #[a,b] bt p fun w h3=>
 Br (w>=0)
 (R (xl xt 4) h3)
 (bf (σ:=Bool) (fun i l=>
 Br i
 (R (xl xt 6) l)
 (af xx 15 #[a] aH l fun k c=>
 Br ((k.len:Int)==0) (R (xl xt 7) c) (∃d,(a=some d)/\
 ∃f,cellOf c (d.add 1)=some (xl xt f)/\
 Br (f>16777215) (R (xl xt 7) c) (∃e,(a=some e)/\
 ∃g,cellOf c e=some (xl xt g)/\
 Br (g>=2147483647)
 (R (xl xt 7) c)
 (R (xl xt 0) c)))))
 (fun q=>
 ∃a4,(a=some a4)/\
 ∃n,cellOf h3 (a4.add 2)=some (xl xt n)/\
 ∃m,(a=some m)/\
 ∃s,cellOf h3 ((m.add 2).add 2)=some (xl xt s)/\
 Br (decide ((j.len:Int)>(qc xt ((qc xt (n*s))*8)))) (q true h3) (∃o,(a=some o)/\
 ∃t:Sl,cellOf h3 (o.add 7)=some (t:Value)/\
 q (decide ((t.len:Int)>=12)) h3)))))
theorem yN(c:aO)(a:ByteArray)(b:Sl)(d:@od R h c a b):ac xx 54 #[c,a,b] h R:=au ae func54 (an.tn (.two (.inn (an.tn (an.tn (an.tn (an.tn (an.tn (an.tn (.two (.join [(19,mg)] [(19,46)] .n) .n)))))))) .n)) d
def Ea(f:bH)(b:Int)(a:Int):Prop:=
 aK xx (qM 24 f) h fun i m=>
 aJ (σ:=Sl×Int) (fun c k e=>
 Br (c.2<a)
 (∃x3:bH,aj e i 0 x3/\
 af xx 123 #[x3,b,c.2] (.many [aZ,mg]) e fun g h3=>
 Br (!g.2)
 (R (.tuple #[(xn none 0 0),false]) h3)
 (az xx (qt 22 1 #[(0,g.1)]) aH h3 fun v5 j=>
 az xx (qw #[22,22] 22 #[c.1,v5]) aH j fun d l=>
 k ((⟨d.ptr,d.len,d.cap⟩:Sl),qc xt (c.2+1)) l))
 (R (.tuple #[c.1,true]) e)) ((⟨none,0,0⟩:Sl),(0:Int)) m
theorem Ky(c:bH)(b:Int)(a:Int)(d:@Ea R h c b a):ac xx 55 #[c,b,a] h R:=au ae func55 (an.tn (an.tn (.two (an.tn (.inn (.loop [(8,cv),(13,aZ)] [(6,12),(13,30)] .n))) .n))) d
def Eb(c:bH)(a:Int):Prop:=
 aK xx (qM 24 c) h fun d g=>
 bf (σ:=Unit) (fun _ h3=>
 ∃f:bH,aj h3 d 0 f/\
 af xx 124 #[f] bt h3 fun e i=>
 (e≠0)/\
 R (qc xt ((qc xt (wI (qc xt (a-1)) e))+1)) i)
 (fun j=>
 ∃x2:bH,aj g d 0 x2/\
 af xx 47 #[x2] bE g fun k b=>
 Br (!k) (R (xl xt 0) b) (Br (a<=0)
 (R (xl xt 0) b)
 (j () b)))
theorem Kz(b:bH)(a:Int)(c:@Eb R h b a):ac xx 56 #[b,a] h R:=au ae func56 (an.tn (.two (.join [] [(4,12)] .n) .n)) c
def oe(g:aO)(K:iX)(P:Sl):Prop:=
 aK xx (qM 105 K) h fun j h1=>
 af xx 15 #[g] aH h1 fun r2 W=>
 ∃a3,(g=some a3)/\
 ∃Y:bH,aj W (a3.add 2) 0 Y/\
 af xx 125 #[Y,P] aH W fun T h3=>
 aJ (σ:=Sl×Int) (fun e K1 n=>
 Br (e.2<(T.len:Int))
 (∃Z,(T.ptr=some Z/\0<=e.2/\e.2<(T.len:Int))/\
 ∃x8:Sl,cellOf n (Z.add (e.2.toNat*1))=some (x8:Value)/\
 ∃x9,cellOf n (j.add 1)=some (xl xt x9)/\
 ∃i:Sl,cellOf n (j.add 3)=some (i:Value)/\
 ∃s,(i.ptr=some s/\0<=e.2/\e.2<(i.len:Int))/\
 ∃G,cellOf n (s.add (e.2.toNat*1))=some (xl xt G)/\
 af xx 69 #[x9,e.2,G] (.one (.sc (.int .u32))) n fun l S=>
 (av.ok [(j.add 3,i)] S)/\
 ∃D,(g=some D)/\
 ∃H:bH,aj S (D.add 2) 0 H/\
 af xx 126 #[H,(xl xv l),x8] (.many [FI,aZ]) S fun k V=>
 Br (k.2 !=0)
 (R (.tuple #[(xn none 0 0),false]) V)
 (∃t,cellOf V (j.add 1)=some (xl xt t)/\
 af xx 127 #[t,e.2,r2] aH V fun J O=>
 ∃B,(g=some B)/\
 ∃y,cellOf O (B.add 2)=some (xl xt y)/\
 ∃I,(g=some I)/\
 ∃v,cellOf O (I.add 5)=some (xl xt v)/\
 aJ (σ:=Sl×Int) (fun b K2 h8=>
 Br (b.2<(qc xt (y+v)))
 (bf (σ:=Addr) (fun d F=>
 ∃c:df,aj F d 0 c/\
 af xx 129 #[J,b.2] bt F fun U o=>
 (av.ok [(d,c.1),(d.add 1,c.2.1),(d.add 2,c.2.2.1),(d.add 3,c.2.2.2.1),(d.add 4,c.2.2.2.2.1),(d.add 5,c.2.2.2.2.2.1),(d.add 6,(xl xv c.2.2.2.2.2.2.1)),(d.add 7,c.2.2.2.2.2.2.2)] o)/\
 af xx 130 #[c] aH o fun N u=>
 (av.ok [] u)/\
 az xx (qt 98 1 #[(0,(xr #[U,N]))]) aH u fun L q=>
 (av.ok [] q)/\
 az xx (qw #[98,98] 98 #[b.1,L]) aH q fun m E=>
 (av.ok [] E)/\
 K2 ((⟨m.ptr,m.len,m.cap⟩:Sl),qc xt (b.2+1)) E)
 (fun K3=>
 ∃f,cellOf h8 (j.add 1)=some (xl xt f)/\
 ∃a25,(g=some a25)/\
 ∃a:bH,aj h8 (a25.add 2) 0 a/\
 (af xx 128 #[k.1,b.2] aH h8 fun Q X=>
 (av.ok [(a25.add 2,a.1),((a25.add 2).add 1,a.2.1),((a25.add 2).add 2,a.2.2),(j.add 1,f)] X)/\
 aK xx (qK 139 true (.tuple #[])) X fun a28 z=>
 (av.ok [(a25.add 2,a.1),((a25.add 2).add 1,a.2.1),((a25.add 2).add 2,a.2.2),(j.add 1,f)] z)/\
 ag xx (qf 139 a28 (xr #[f,e.2,b.2,a.1,a.2.1,a.2.2,(xl xv l),Q])) z fun _ x=>
 (av.ok [] x)/\
 K3 a28 x)/\(aK xx (qK 139 true (.tuple #[])) h8 fun w p=>
 (av.ok [(a25.add 2,a.1),((a25.add 2).add 1,a.2.1),((a25.add 2).add 2,a.2.2),(j.add 1,f)] p)/\
 af xx 128 #[k.1,b.2] aH p fun M A=>
 (av.ok [(a25.add 2,a.1),((a25.add 2).add 1,a.2.1),((a25.add 2).add 2,a.2.2),(j.add 1,f)] A)/\
 ag xx (qf 139 w (xr #[f,e.2,b.2,a.1,a.2.1,a.2.2,(xl xv l),M])) A fun _ r=>
 (av.ok [] r)/\
 K3 w r)))
 (K1 ((⟨b.1.ptr,b.1.len,b.1.cap⟩:Sl),qc xt (e.2+1)) h8)) ((⟨e.1.ptr,e.1.len,e.1.cap⟩:Sl),(0:Int)) O))
 (R (.tuple #[e.1,true]) n)) ((⟨none,0,0⟩:Sl),(0:Int)) h3
theorem yP(c:aO)(a:iX)(b:Sl)(d:@oe R h c a b):ac xx 57 #[c,a,b] h R:=au ae func57 (an.tn (an.tn (an.tn (.two (an.tn (.inn (.loop [(9,cv),(28,aZ)] [(6,8),(9,18),(28,100)] (an.tn (an.tn (.two (.inn (an.tn (an.tn (an.tn (an.tn (an.tn (an.tn (.inn (.loop [(9,cv),(72,aZ)] [(9,10),(16,18),(72,99)] (an.tn (an.tn (.two (.inn (an.tn (.two (.join [(17,(.sc .adr))] [(17,18),(75,89)] .n) .n))) .n)))))))))))) .n)))))) .n)))) d
def FL(n:cJ)(j:iX):Prop:=
 aK xx (qM 59 n) h fun z B=>
 aK xx (qM 105 j) B fun x v=>
 aK xx (qK 59 true (.tuple #[])) v fun a3 h3=>
 ∃o:cJ,aj h3 z 0 o/\
 af xx 114 #[o] FH h3 fun A u=>
 aK xx (qK 59 true (.tuple #[])) u fun b y=>
 ag xx (qf 59 b A) y fun _ t=>
 ∃r,cellOf t b=some (xl xt r)/\
 ag xx (qf 3 b (qc xt (r+1))) t fun _ p=>
 ∃s,cellOf p (b.add 1)=some (xl xt s)/\
 ag xx (qf 3 (b.add 1) (qc xt (s+1))) p fun _ h8=>
 ∃q:Sl,cellOf h8 (b.add 7)=some (q:Value)/\
 ∃g:iX,aj h8 x 0 g/\
 az xx (qt 57 1 #[(0,g)]) aH h8 fun l w=>
 az xx (qw #[57,57] 57 #[q,l]) aH w fun m k=>
 ag xx (qf 57 (b.add 7) m) k fun _ d=>
 ∃f:Sl,cellOf d (b.add 7)=some (f:Value)/\
 af xx 131 #[f,(.func (.func 132) #[] #[])] gF d fun _ c=>
 ∃i:cJ,aj c b 0 i/\
 ag xx (qf 59 a3 i) c fun _ e=>
 ∃a:cJ,aj e a3 0 a/\
 R a e
theorem MJ(b:cJ)(a:iX)(c:@FL R h b a):ac xx 58 #[b,a] h R:=au ae func58 .n c
def pO(b:Int)(d:Addr)(c:Addr):Prop:=
 ∃j,cellOf h d=some (xl xt j)/\
 ∃x2:Sl,cellOf h c=some (x2:Value)/\
 aJ (σ:=Int×Int) (fun a g e=>
 Br (a.2<(x2.len:Int))
 (∃a4,(x2.ptr=some a4/\0<=a.2/\a.2<(x2.len:Int))/\
 ∃k:Int×Sl,aj e (a4.add (a.2.toNat*2)) 0 k/\
 aK xx (qK 112 true (.tuple #[])) e fun i l=>
 ag xx (qf 112 i k) l fun _ h3=>
 ∃f,cellOf h3 i=some (xl xt f)/\
 Br (f==b)
 (g (qc xt (a.1+1),qc xt (a.2+1)) h3)
 (g (a.1,qc xt (a.2+1)) h3))
 (R a.1 e)) (j,(0:Int)) h
theorem BS(a:Int)(c:Addr)(b:Addr)(d:@pO R h a c b):ac xx 59 #[a,c,b] h R:=au ae func59 (an.tn (an.tn (.two (an.tn (.inn (.loop [(5,aZ),(11,aZ)] [(5,6),(7,8),(11,22)] .n))) .n))) d
def sp(c:aO)(a:Sl)(b:cA):Prop:=
 aK xx (qM 27 c) h fun d g=>
 aK xx (qM 113 (.func (.func b.1) b.2.1 b.2.2)) g fun i e=>
 af xx 134 #[a,(.func (.func 135) #[] #[d,i])] bE e fun f h3=>
 R (xq (!f)) h3
theorem Dp(c:aO)(a:Sl)(b:cA)(d:@sp R h c a b):ac xx 60 #[c,a,(.func (.func b.1) b.2.1 b.2.2)] h R:=au ae func60 .n d
def pP(f:aO)(a:Sl)(d:cA):Prop:=
 aJ (σ:=Int) (fun g p i=>
 Br (g<(a.len:Int))
 (∃m,(a.ptr=some m/\0<=g/\g<(a.len:Int))/\
 ∃x3,cellOf i (m.add (g.toNat*1))=some (xl xt x3)/\
 bf (σ:=Int) (fun e k=>
 Br (e !=0)
 (R e k)
 (p (qc xt (g+1)) k))
 (fun o=>
 ∃a4,(f=some a4)/\
 (0<=x3/\x3<((64:Nat):Int))/\
 ∃j:aO,cellOf i ((a4.add 10).add (x3.toNat*1))=some (.pointer j)/\
 ∃b,(f=some b)/\
 ∃c:cJ,aj i b 0 c/\
 gb C d.1 (d.2.1.toList++[(xl xt x3)]++d.2.2.toList) bt i fun n l=>
 (av.ok [(b,c.1),(b.add 1,c.2.1),(b.add 2,c.2.2.1),(b.add 3,c.2.2.2.1),(b.add 4,c.2.2.2.2.1),(b.add 5,c.2.2.2.2.2.1),(b.add 6,c.2.2.2.2.2.2.1),(b.add 7,c.2.2.2.2.2.2.2),((a4.add 10).add (x3.toNat*1),j)] l)/\
 af xx 78 #[j,c,n] bt l fun q h3=>
 (av.ok [] h3)/\
 o q h3))
 (R (xl xt 0) i)) (0:Int) h
theorem BU(c:aO)(a:Sl)(b:cA)(d:@pP R h c a b):ac xx 61 #[c,a,(.func (.func b.1) b.2.1 b.2.2)] h R:=au ae func61 (an.tn (.two (an.tn (.inn (.loop [(12,aZ)] [(6,7),(8,10),(12,34)] (an.tn (an.tn (.two (.inn (an.tn (.two (.join [(9,aZ)] [(9,10),(16,30)] .n) .n))) .n)))))) .n)) d
def sq(b:aO)(c:cJ)(a:Sl):Prop:=
 aK xx (qM 59 c) h fun d i=>
 ∃x2:cJ,aj i d 0 x2/\
 af xx 51 #[x2,a] aH i fun n m=>
 af xx 50 #[(.func (.func 16) #[b] #[]),n] bt m fun f h3=>
 Br (f !=0)
 (R f h3)
 (∃e:cJ,aj h3 d 0 e/\
 af xx 114 #[e] FH h3 fun l j=>
 ∃g,(b=some g)/\
 ag xx (qf 59 g l) j fun _ k=>
 R (xl xt 0) k)
theorem Dq(c:aO)(b:cJ)(a:Sl)(d:@sq R h c b a):ac xx 62 #[c,b,a] h R:=au ae func62 .n d
def tw(a:aO):Prop:=
 Br (ze a) (R true h) (af xx 39 #[a] bE h fun b c=>
 R b c)
theorem EJ(a:aO)(b:@tw R h a):ac xx 63 #[a] h R:=au ae func63 .n b
def AE(a:ByteArray):Prop:=
 af xx 137 #[a] (.one Kx) h fun b c=>
 R b c
theorem HO(a:ByteArray)(b:@AE R h a):ac xx 64 #[a] h R:=au ae func64 .n b
def su(b:aO)(a:ByteArray):Prop:=
 aK xx (qM 9 a) h fun e c=>
 ∃d,(b=some d)/\
 ∃x3:Sl,cellOf c (d.add 7)=some (x3:Value)/\
 af xx 138 #[x3,(.func (.func 139) #[] #[e])] bt c fun g f=>
 R g f
theorem Dr(b:aO)(a:ByteArray)(c:@su R h b a):ac xx 65 #[b,a] h R:=au ae func65 .n c
def pQ(a:aO):Prop:=
 aK xx (qM 27 a) h fun b c=>
 ∃x2:aO,cellOf c b=some (.pointer x2)/\
 af xx 15 #[x2] aH c fun f d=>
 af xx 134 #[f,(.func (.func 140) #[] #[b])] bE d fun e h3=>
 R e h3
theorem BV(a:aO)(b:@pQ R h a):ac xx 66 #[a] h R:=au ae func66 .n b
def Ec(e:cA)(a:Sl)(u:cJ)(c:Int)(f:Int):Prop:=
 aK xx (qM 59 u) h fun j I=>
 aJ (σ:=Sl×Int) (fun i F r=>
 Br (i.2<(a.len:Int))
 (∃a3,(a.ptr=some a3/\0<=i.2/\i.2<(a.len:Int))/\
 ∃A,cellOf r (a3.add (i.2.toNat*1))=some (xl xt A)/\
 bf (σ:=Tu7) (fun t G=>
 aJ (σ:=Sl×Int) (fun b w y=>
 Br (b.2<t.2.1)
 (∃m,(t.1.ptr=some m/\0<=b.2/\b.2<(t.1.len:Int))/\
 ∃p:df,aj y (m.add (b.2.toNat*8)) 0 p/\
 aK xx (qK 139 true (.tuple #[])) y fun d D=>
 ag xx (qf 139 d p) D fun _ h8=>
 ∃o,cellOf h8 d=some (xl xt o)/\
 Br (o==c) (∃n,cellOf h8 (d.add 1)=some (xl xt n)/\
 Br (n==f)
 (∃q,cellOf h8 (d.add 2)=some (xl xt q)/\
 ∃l:Sl,cellOf h8 (d.add 7)=some (l:Value)/\
 az xx (qt 119 1 #[(0,(xr #[q,l]))]) aH h8 fun x B=>
 az xx (qw #[119,119] 119 #[b.1,x]) aH B fun k v=>
 w ((⟨k.ptr,k.len,k.cap⟩:Sl),qc xt (b.2+1)) v)
 (w ((⟨b.1.ptr,b.1.len,b.1.cap⟩:Sl),qc xt (b.2+1)) h8)) (w ((⟨b.1.ptr,b.1.len,b.1.cap⟩:Sl),qc xt (b.2+1)) h8))
 (F ((⟨b.1.ptr,b.1.len,b.1.cap⟩:Sl),qc xt (i.2+1)) y)) ((⟨i.1.ptr,i.1.len,i.1.cap⟩:Sl),t.2.2) G)
 (fun E=>
 ∃g:cJ,aj r j 0 g/\
 gb C e.1 (e.2.1.toList++[(xl xt A)]++e.2.2.toList) jp r fun H h3=>
 (av.ok [(j,g.1),(j.add 1,g.2.1),(j.add 2,g.2.2.1),(j.add 3,g.2.2.2.1),(j.add 4,g.2.2.2.2.1),(j.add 5,g.2.2.2.2.2.1),(j.add 6,g.2.2.2.2.2.2.1),(j.add 7,g.2.2.2.2.2.2.2)] h3)/\
 af xx 81 #[H,g] aH h3 fun s z=>
 (av.ok [] z)/\
 E ((⟨s.ptr,s.len,s.cap⟩:Sl),(s.len:Int),(0:Int)) z))
 (R i.1 r)) ((⟨none,0,0⟩:Sl),(0:Int)) I
theorem KA(d:cA)(c:Sl)(e:cJ)(a:Int)(b:Int)(f:@Ec R h d c e a b):ac xx 67 #[(.func (.func d.1) d.2.1 d.2.2),c,e,a,b] h R:=au ae func67 (an.tn (an.tn (.two (an.tn (.inn (.loop [(11,cv),(18,aZ)] [(11,12),(13,14),(15,16),(18,52)] (an.tn (an.tn (.two (.inn (an.tn (.two (.join [(26,cv),(27,aZ),(28,aZ)] [(22,29)] .n) (.inn (.loop [(11,cv),(28,aZ)] [(11,12),(15,16),(28,51)] .n))))) .n)))))) .n))) f
def BW(F:bH)(b:Int)(m:Sl):Prop:=
 aK xx (qM 24 F) h fun f M=>
 bf (σ:=Unit) (fun _ I=>
 bf (σ:=Unit) (fun _ K=>
 ∃x:bH,aj K f 0 x/\
 af xx 147 #[x,(xl xv b),m] (.many [cv,aZ]) K fun l h8=>
 Br (l.2 !=0)
 (R (.tuple #[(xn none 0 0),l.2]) h8)
 (∃z,cellOf h8 f=some (xl xt z)/\
 aJ (σ:=Sl×Int) (fun d V D=>
 Br (d.2<z)
 (∃n,cellOf D (f.add 2)=some (xl xt n)/\
 az xx (Instr.makeSlice 35 n n) aH D fun c t=>
 ∃r:bH,aj t f 0 r/\
 af xx 148 #[r,(xl xv b),d.2] aH t fun p E=>
 aJ (σ:=Int) (fun e N g=>
 Br (e<(p.len:Int))
 (∃u,(p.ptr=some u/\0<=e/\e<(p.len:Int))/\
 ∃j,cellOf g (u.add (e.toNat*1))=some (xl xt j)/\
 ∃A,(l.1.ptr=some A/\0<=j/\j<(l.1.len:Int))/\
 ∃i:Sl,cellOf g (A.add (j.toNat*1))=some (i:Value)/\
 aJ (σ:=Int) (fun a Q k=>
 Br (a<(i.len:Int))
 (∃v,(i.ptr=some v/\0<=a/\a<(i.len:Int))/\
 ∃w,cellOf k (v.add (a.toNat*1))=some (xl xu w)/\
 ∃y,(c.ptr=some y/\0<=a/\a<(c.len:Int))/\
 ∃s,cellOf k (y.add (a.toNat*1))=some (xl xu s)/\
 ∃a28,(c.ptr=some a28/\0<=a/\a<(c.len:Int))/\
 ag xx (qf 5 (a28.add (a.toNat*1)) (xl xu (qc xu ((qC (qk xu) s^^^(qC (qk xu) w)).toNat:Nat)))) k fun _ B=>
 Q (qc xt (a+1)) B)
 (N (qc xt (e+1)) k)) (0:Int) g)
 (az xx (qw #[35,35] 35 #[d.1,c]) aH g fun o G=>
 V ((⟨o.ptr,o.len,o.cap⟩:Sl),qc xt (d.2+1)) G)) (0:Int) E)
 (R (.tuple #[d.1,(xl xt 0)]) D)) ((⟨none,0,0⟩:Sl),(0:Int)) h8))
 (fun S=>
 ∃q:bH,aj I f 0 q/\
 af xx 146 #[m] aH I fun T L=>
 (av.ok [(f,q.1),(f.add 1,q.2.1),(f.add 2,q.2.2)] L)/\
 af xx 145 #[q,(xl xv b),T] bE L fun P H=>
 (av.ok [] H)/\
 Br (!P)
 (R (.tuple #[(xn none 0 0),(xl xt 9)]) H)
 (S () H)))
 (fun U=>
 ∃x2:bH,aj M f 0 x2/\
 af xx 47 #[x2] bE M fun W J=>
 Br (!W) (R (.tuple #[(xn none 0 0),(xl xt 1)]) J) (af xx 142 #[m,(.func (.func 143) #[] #[f])] bE J fun O h3=>
 Br O
 (R (.tuple #[(xn none 0 0),(xl xt 1)]) h3)
 (U () h3)))
theorem Jh(b:bH)(a:Int)(c:Sl)(d:@BW R h b a c):ac xx 68 #[b,(xl xv a),c] h R:=au ae func68 (an.tn (.two (.join [] [(6,8),(17,25)] .n) (.two (.join [] [(6,8),(25,31)] .n) (an.tn (an.tn (an.tn (.two (an.tn (.inn (.loop [(10,cv),(43,aZ)] [(10,13),(14,17),(43,81)] (an.tn (an.tn (.two (.inn (an.tn (an.tn (.two (an.tn (.inn (.loop [(54,aZ)] [(14,17),(54,77)] (an.tn (an.tn (.two (.inn (an.tn (an.tn (.inn (.loop [(63,aZ)] [(15,17),(63,76)] .n))))) .n)))))) .n)))) .n)))))) .n))))))) d
def Ik(c:Int)(b:Int)(a:Int):Prop:=
 R (xl xv (qc xv ((qc xv ((qc xv (128*(qc xv c)))+(qc xv (16*(qc xv b)))))+(qc xv a)))) h
theorem OM(c:Int)(b:Int)(a:Int)(d:@Ik R h c b a):ac xx 69 #[c,b,a] h R:=au ae func69 .n d
def FM(l:bH)(a:Sl)(b:Int):Prop:=
 aK xx (qM 24 l) h fun m q=>
 bf (σ:=Unit) (fun _ r=>
 aJ (σ:=Sl×Int) (fun d t g=>
 Br (d.2<(a.len:Int))
 (∃n,(a.ptr=some n/\0<=d.2/\d.2<(a.len:Int))/\
 ∃i:Sl,cellOf g (n.add (d.2.toNat*1))=some (i:Value)/\
 ∃e:bH,aj g m 0 e/\
 af xx 124 #[e] bt g fun k p=>
 Br ((i.len:Int) !=k)
 (R (.tuple #[(xn none 0 0),false]) p)
 (az xx (qw #[35,35] 35 #[d.1,i]) aH p fun c s=>
 t ((⟨c.ptr,c.len,c.cap⟩:Sl),qc xt (d.2+1)) s))
 (az xx (Instr.sliceAt 35 d.1 none (some b) (some b)) aH g fun j h8=>
 R (.tuple #[j,true]) h8)) ((⟨none,0,0⟩:Sl),(0:Int)) r)
 (fun u=>
 ∃x2:bH,aj q m 0 x2/\
 af xx 47 #[x2] bE q fun w f=>
 Br (!w) (R (.tuple #[(xn none 0 0),false]) f) (Br (b<0) (R (.tuple #[(xn none 0 0),false]) f) (∃o:bH,aj f m 0 o/\
 af xx 56 #[o,b] bt f fun v h3=>
 Br ((a.len:Int) !=v)
 (R (.tuple #[(xn none 0 0),false]) h3)
 (u () h3))))
theorem MK(b:bH)(c:Sl)(a:Int)(d:@FM R h b c a):ac xx 70 #[b,c,a] h R:=au ae func70 (an.tn (.two (.join [] [(6,8),(11,26)] .n) (an.tn (.two (an.tn (.inn (.loop [(8,cv),(28,aZ)] [(6,9),(10,11),(28,41)] .n))) .n)))) d
def Il(a:aO):Prop:=
 Br (ze a) (R true h) (af xx 39 #[a] bE h fun b c=>
 R b c)
theorem ON(a:aO)(b:@Il R h a):ac xx 71 #[a] h R:=au ae func71 .n b
def lR(b:Sl)(a:Int):Prop:=
 af xx 149 #[b,a] bt h fun c d=>
 R (decide (c>=0)) d
theorem sv(b:Sl)(a:Int)(c:@lR R h b a):ac xx 72 #[b,a] h R:=au ae func72 .n c
def vG(b:Int)(a:Addr):Prop:=
 ∃c,cellOf h a=some (xl xt c)/\
 R (xq (b !=c)) h
theorem FN(b:Int)(a:Addr)(c:@vG R h b a):ac xx 73 #[b,a] h R:=au ae func73 .n c
def kN(a:Sl)(b:cA):Prop:=
 af xx 150 #[a,(.func (.func b.1) b.2.1 b.2.2)] bt h fun e j=>
 Br (e==(-1:Int))
 (R a j)
 (aJ (σ:=Int×Int) (fun c g f=>
 Br (c.2<(a.len:Int))
 (∃a3,(a.ptr=some a3/\0<=c.2/\c.2<(a.len:Int))/\
 ∃d,cellOf f (a3.add (c.2.toNat*1))=some (xl xt d)/\
 gb C b.1 (b.2.1.toList++[(xl xt d)]++b.2.2.toList) bE f fun k h3=>
 Br (!k)
 (∃i,(a.ptr=some i/\0<=c.1/\c.1<(a.len:Int))/\
 ag xx (qf 3 (i.add (c.1.toNat*1)) d) h3 fun _ l=>
 g (qc xt (c.1+1),qc xt (c.2+1)) l)
 (g (c.1,qc xt (c.2+1)) h3))
 ((0<=c.1/\c.1<=(a.len:Int))/\
 ag xx (Builtin.clear_ #[22] 0 #[(.slice (if a.cap=c.1.toNat then a.ptr else a.ptr.map (·.add (c.1.toNat*1))) (a.len-c.1.toNat) (a.cap-c.1.toNat))]) f fun _ m=>
 (0<=c.1/\c.1<=(a.cap:Int))/\
 R (xn a.ptr c.1.toNat a.cap) m)) (e,qc xt (e+1)) j)
theorem pJ(b:Sl)(a:cA)(c:@kN R h b a):ac xx 74 #[b,(.func (.func a.1) a.2.1 a.2.2)] h R:=au ae func74 (an.tn (an.tn (an.tn (.two (an.tn (.inn (.loop [(5,aZ),(6,aZ)] [(5,8),(16,36)] .n))) .n)))) c
def vP(c:Int)(a:Addr):Prop:=
 ∃b:cA,cellOf h a=some (.func (.func b.1) b.2.1 b.2.2)/\
 gb C b.1 (b.2.1.toList++[(xl xt c)]++b.2.2.toList) bE h fun d e=>
 R (xq (!d)) e
theorem FO(b:Int)(a:Addr)(c:@vP R h b a):ac xx 75 #[b,a] h R:=au ae func75 .n c
def wd(c:Int)(a:Addr):Prop:=
 ∃b:cA,cellOf h a=some (.func (.func b.1) b.2.1 b.2.2)/\
 gb C b.1 (b.2.1.toList++[(xl xt c)]++b.2.2.toList) bE h fun d e=>
 R (xq (!d)) e
theorem FP(b:Int)(a:Addr)(c:@wd R h b a):ac xx 76 #[b,a] h R:=au ae func76 .n c
def tz(o:aO)(b:Int):Prop:=
 aK xx (qM 128 o) h fun g t=>
 ∃x2:aO,cellOf t g=some (.pointer x2)/\
 ∃a3,(x2=some a3)/\
 ∃w:Sl,cellOf t (a3.add 17)=some (w:Value)/\
 af xx 134 #[w,(.func (.func 151) #[] #[g])] bE t fun E m=>
 Br E
 (R false m)
 (∃u:aO,cellOf m g=some (.pointer u)/\
 ∃x,(u=some x)/\
 ∃B:aO,cellOf m x=some (.pointer B)/\
 af xx 16 #[B,b] jp m fun A h3=>
 bf (σ:=aO) (fun n y=>
 ∃k:aO,cellOf y g=some (.pointer k)/\
 af xx 154 #[k,n] aH y fun c F=>
 aJ (σ:=Int) (fun a D q=>
 Br (a<(c.len:Int))
 (∃j,(c.ptr=some j/\0<=a/\a<(c.len:Int))/\
 ∃d:df,aj q (j.add (a.toNat*8)) 0 d/\
 aK xx (qK 139 true (.tuple #[])) q fun i h8=>
 ag xx (qf 139 i d) h8 fun _ p=>
 ∃e:aO,cellOf p g=some (.pointer e)/\
 ∃l:df,aj p i 0 l/\
 af xx 155 #[e,l] bE p fun r f=>
 Br (!r)
 (R false f)
 (D (qc xt (a+1)) f))
 (R true q)) (0:Int) F)
 (fun z=>
 af xx 153 #[A] bE h3 fun s v=>
 Br s
 (z none v)
 (z A v)))
theorem EK(b:aO)(a:Int)(c:@tz R h b a):ac xx 77 #[b,a] h R:=au ae func77 (an.tn (an.tn (an.tn (.two (.join [(5,FI)] [(5,6),(20,22)] .n) (.two (an.tn (.inn (.loop [(26,aZ)] [(4,5),(7,8),(26,35)] .n))) .n))))) c
def Bg(a:aO)(e:cJ)(b:Int):Prop:=
 aK xx (qM 59 e) h fun l n=>
 bf (σ:=Unit) (fun _ i=>
 ∃k:cJ,aj i l 0 k/\
 af xx 159 #[a,k] aH i fun d h8=>
 af xx 158 #[a,d] bt h8 fun c p=>
 R c p)
 (fun s=>
 bf (σ:=Bool) (fun v h3=>
 Br v
 (R (xl xt 5) h3)
 (∃g:cJ,aj h3 l 0 g/\
 af xx 136 #[a,g,b] bE h3 fun w f=>
 Br (!w)
 (R (xl xt 7) f)
 (af xx 157 #[a] bt f fun u t=>
 af xx 156 #[a,u,b] bE t fun r m=>
 Br r
 (R (xl xt 0) m)
 (s () m))))
 (fun j=>
 Br (ze a) (j true n) (af xx 153 #[a] bE n fun q o=>
 j q o)))
theorem Ed(a:aO)(c:cJ)(b:Int)(d:@Bg R h a c b):ac xx 78 #[a,c,b] h R:=au ae func78 (an.tn (.two (.join [] [(6,26)] (.inn (.two (.join [(7,mg)] [(7,14)] .n) .n))) .n)) d
def KB(c:cA)(a:Sl):Prop:=
 aJ (σ:=Sl×Int) (fun b d f=>
 Br (b.2<(a.len:Int))
 (∃j,(a.ptr=some j/\0<=b.2/\b.2<(a.len:Int))/\
 ∃x3,cellOf f (j.add (b.2.toNat*1))=some (xl xt x3)/\
 gb C c.1 (c.2.1.toList++[(xl xt x3)]++c.2.2.toList) jp f fun i g=>
 Br (!(ze i)) (af xx 153 #[i] bE g fun k h3=>
 Br (!k)
 (az xx (qt 22 1 #[(0,x3)]) aH h3 fun n l=>
 az xx (qw #[22,22] 22 #[b.1,n]) aH l fun e m=>
 d ((⟨e.ptr,e.len,e.cap⟩:Sl),qc xt (b.2+1)) m)
 (d ((⟨b.1.ptr,b.1.len,b.1.cap⟩:Sl),qc xt (b.2+1)) h3)) (d ((⟨b.1.ptr,b.1.len,b.1.cap⟩:Sl),qc xt (b.2+1)) g))
 (R b.1 f)) ((⟨none,0,0⟩:Sl),(0:Int)) h
theorem QI(b:cA)(a:Sl)(c:@KB R h b a):ac xx 79 #[(.func (.func b.1) b.2.1 b.2.2),a] h R:=au ae func79 (an.tn (an.tn (.two (an.tn (.inn (.loop [(5,cv),(11,aZ)] [(5,6),(7,9),(11,30)] .n))) .n))) c
def nv(a:Sl):Prop:=
 Br (ze a.ptr)
 (R (xn none 0 0) h)
 (az xx (qt 22 0 #[]) aH h fun d e=>
 az xx (qw #[22,22] 22 #[d,a]) aH e fun b c=>
 R b c)
theorem wf(a:Sl)(b:@nv R h a):ac xx 80 #[a] h R:=au ae func80 .n b
def rn(i:aO)(q:cJ):Prop:=
 aK xx (qM 59 q) h fun z D=>
 af xx 160 #[i] aH D fun l v=>
 aJ (σ:=Sl×Int) (fun a x h3=>
 Br ((qc xt (a.2+1))>=(l.len:Int))
 (af xx 163 #[a.1,(.func (.func 164) #[] #[])] gF h3 fun _ u=>
 af xx 165 #[a.1,(.func (.func 166) #[] #[])] aH u fun A y=>
 R A y)
 (bf (σ:=Sl) (fun b g=>
 x ((⟨b.ptr,b.len,b.cap⟩:Sl),qc xt (a.2+1)) g)
 (fun k=>
 ∃r,(l.ptr=some r/\0<=(qc xt (a.2+1))/\(qc xt (a.2+1))<(l.len:Int))/\
 ∃t:Sl,cellOf h3 (r.add ((qc xt (a.2+1)).toNat*1))=some (t:Value)/\
 af xx 161 #[t] (.many [afR,mg]) h3 fun s B=>
 aK xx (qK 139 true (.tuple #[])) B fun a9 w=>
 ag xx (qf 139 a9 s.1) w fun _ h8=>
 Br s.2 (∃f:cJ,aj h8 z 0 f/\
 ∃e:df,aj h8 a9 0 e/\
 af xx 162 #[f,e] bE h8 fun p j=>
 Br p
 (∃d:df,aj j a9 0 d/\
 az xx (qt 136 1 #[(0,d)]) aH j fun o n=>
 az xx (qw #[136,136] 136 #[a.1,o]) aH n fun c m=>
 k (⟨c.ptr,c.len,c.cap⟩:Sl) m)
 (k (⟨a.1.ptr,a.1.len,a.1.cap⟩:Sl) j)) (k (⟨a.1.ptr,a.1.len,a.1.cap⟩:Sl) h8)))) ((⟨none,0,0⟩:Sl),(-1:Int)) v
theorem wn(a:aO)(b:cJ)(c:@rn R h a b):ac xx 81 #[a,b] h R:=au ae func81 (an.tn (.scope 0 [(6,cv),(7,aZ)] [(4,5),(6,10),(12,40)] [.n,.n,.n] [(an.tn (an.tn (.two (.join [(6,cv)] [(6,7),(8,10),(18,36)] .n) .n)))] [(1,[.n])])) c
def FQ(b:aO)(a:Int):Prop:=
 af xx 71 #[b] bE h fun e c=>
 Br e
 (R (xl xt 14) c)
 (af xx 15 #[b] aH c fun k g=>
 af xx 72 #[k,a] bE g fun j h3=>
 Br (!j)
 (R (xl xt 5) h3)
 (af xx 16 #[b,a] jp h3 fun i d=>
 af xx 93 #[i] gF d fun _ f=>
 R (xl xt 0) f))
theorem ML(b:aO)(a:Int)(c:@FQ R h b a):ac xx 82 #[b,a] h R:=au ae func82 .n c
def Im(c:aO)(a:Int)(b:Int):Prop:=
 af xx 71 #[c] bE h fun J z=>
 Br J
 (R (xl xt 14) z)
 (af xx 34 #[c] FH z fun G B=>
 aK xx (qK 59 true (.tuple #[])) B fun a3 h3=>
 ag xx (qf 59 a3 G) h3 fun _ A=>
 af xx 167 #[a,b] bE A fun D u=>
 Br (!D)
 (R (xl xt 1) u)
 (∃v:Sl,cellOf u (a3.add 6)=some (v:Value)/\
 af xx 72 #[v,a] bE u fun H n=>
 Br H
 (R (xl xt 4) n)
 (∃y,cellOf n a3=some (xl xt y)/\
 Br (y>=2147483647)
 (R (xl xt 7) n)
 (af xx 27 #[c] jp n fun E F=>
 af xx 49 #[b,E] jp F fun I h8=>
 af xx 41 #[c,a,I] gF h8 fun _ w=>
 ∃j,cellOf w a3=some (xl xt j)/\
 ag xx (qf 3 a3 (qc xt (j+1))) w fun _ g=>
 ∃l:Sl,cellOf g (a3.add 6)=some (l:Value)/\
 az xx (qt 22 1 #[(0,a)]) aH g fun s r=>
 az xx (qw #[22,22] 22 #[l,s]) aH r fun t p=>
 ag xx (qf 22 (a3.add 6) t) p fun _ i=>
 ∃m:Sl,cellOf i (a3.add 6)=some (m:Value)/\
 af xx 168 #[m] gF i fun _ d=>
 ∃f:cJ,aj d a3 0 f/\
 af xx 30 #[c,f] bt d fun e k=>
 bf (σ:=Unit) (fun _ q=>
 R e q)
 (fun x=>
 Br (e==7)
 (af xx 41 #[c,a,(xo none)] gF k fun _ o=>
 x () o)
 (x () k))))))
theorem OO(c:aO)(b:Int)(a:Int)(d:@Im R h c b a):ac xx 83 #[c,b,a] h R:=au ae func83 (an.tn (an.tn (an.tn (an.tn (an.tn (an.tn (an.tn (an.tn (an.tn (.two (.join [] [(50,55)] .n) .n)))))))))) d
end
end Go.Qw
