/- Part of the proofs that the laws of this seat answer true whatever the input reads, and leave it as it was; no condition. -/
import Derived.Test.YtdhamoojccmbdaaGreatDoorTabA
set_option linter.unusedVariables false
set_option linter.unusedSimpArgs false
open Go.Proofs.Tryz renaming prog -> xl
open Go.Value renaming agg -> xg, bool -> xf, int -> vX, pointer -> vZ, slice -> vY, string -> xd
open Go.IntKind renaming bits -> qk, i64 -> xh, u32 -> xj, u64 -> xk, u8 -> xi, wrap -> qc
open Go.Instr renaming alloc -> qK, box -> qL, buildSlice -> qq, makeSlice -> qD, sliceAt -> wE, storeAt -> qf
open Go.Builtin renaming append_ -> qt, clear_ -> yt, copy_ -> wX
open Option renaming isNone -> zi
open Int renaming fdiv -> qT, tdiv -> wH, tmod -> zX
open BitVec renaming ofInt -> qA
set_option maxRecDepth 1000000
namespace Go.Proofs.YtdhamoojccmbdaaGreatDoor
noncomputable section
open Go Go.Vc Go.Proofs
variable {R:Value->Heap->Prop} {h:Heap}
abbrev CN:FuncId:=37
def pR(b:Sl)(a:Int):Prop:=
 Br (a<(b.len:Int))
 (∃c,(b.ptr=some c/\0<=a/\a<(b.len:Int))/\
 ∃x2,cellOf h (c.add (a.toNat*1))=some (vX xh x2)/\
 R x2 h)
 (R (vX xh (0:Int)) h)
theorem BQ(b:Sl)(a:Int)(c: @pR R h b a):ae xl 37 #[b,a] h R:=au af Tryz.func37 .n c
abbrev Mc:FuncId:=38
def CO(a:Sl):Prop:=
 aM (σ:=Sl×Int) (fun b e c=>
 Br (b.2<(a.len:Int))
 (∃f,(a.ptr=some f/\0<=b.2/\b.2<(a.len:Int))/\
 ∃x3,cellOf c (f.add (b.2.toNat*1))=some (vX xh x3)/\
 bf (σ:=Unit) (fun _ g=>
 Br (x3>0)
 (av xl (qq 22 1 #[(0,b.2)]) aK g fun v5 h3=>
 av xl (qt #[22,22] 22 #[b.1,v5]) aK h3 fun d i=>
 e ((⟨d.ptr,d.len,d.cap⟩:Sl),qc xh (b.2+1)) i)
 (e ((⟨b.1.ptr,b.1.len,b.1.cap⟩:Sl),qc xh (b.2+1)) g))
 (fun j=>
 Br (x3<0) (R (.tuple #[(vY none 0 0),false]) c) (Br (x3>512)
 (R (.tuple #[(vY none 0 0),false]) c)
 (j () c))))
 (Br ((a.len:Int)<=64) (R (.tuple #[b.1,(decide ((b.1.len:Int)>0))]) c) (R (.tuple #[b.1,false]) c))) ((⟨none,0,0⟩:Sl),(0:Int)) h
theorem Kw(a:Sl)(b: @CO R h a):ae xl 38 #[a] h R:=au af Tryz.func38 (al.tn (al.tn (.two (al.tn (.inn (.loop [(4,cu),(9,ba)] [(2,7),(9,27)] (al.tn (al.tn (.two (.inn (al.tn (.two (.join [] [(2,4),(14,20)] .n) .n))) .n)))))) .n))) b
abbrev YD:FuncId:=39
def Qb(c:bH):Prop:=
 aQ xl (qL 24 c) h fun b a=>
 ∃x2,cellOf a b=some (vX xh x2)/\
 Br (x2>=1) (∃x3,cellOf a b=some (vX xh x3)/\
 Br (x3<=16) (∃g,cellOf a (b.add 1)=some (vX xh g)/\
 Br (g>=1) (∃d,cellOf a (b.add 1)=some (vX xh d)/\
 Br (d<=4) (∃e,cellOf a (b.add 2)=some (vX xh e)/\
 Br (e>=1) (∃f,cellOf a (b.add 2)=some (vX xh f)/\
 R (decide (f<=24)) a) (R false a)) (R false a)) (R false a)) (R false a)) (R false a)
theorem VE(a:bH)(b: @Qb R h a):ae xl 39 #[a] h R:=au af Tryz.func39 .n b
abbrev FR:FuncId:=40
def tk(a:Option Addr):Prop:=
 Br (zi a)
 (R (vX xh (0:Int)) h)
 (∃b,(a=some b)/\
 ∃x2,cellOf h (b.add 3)=some (vX xh x2)/\
 R x2 h)
theorem Eo(a:Option Addr)(b: @tk R h a):ae xl 40 #[a] h R:=au af Tryz.func40 .n b
abbrev QW:FuncId:=41
def He(d:cV):Prop:=
 aQ xl (qL 47 d) h fun f j=>
 ∃x2:cV,aj j f 0 x2/\
 ag xl 87 #[x2] aK j fun b o=>
 ((48:Int)≠0)/\
 aM (σ:=Sl×Int) (fun a l h3=>
 Br (decide (a.2<(qc xh (wH (qc xh ((qc xh ((b.len:Int)+48))-1)) 48))))
 (∃e,cellOf h3 f=some (vX xh e)/\
 (0<=(qc xh (a.2*48))/\(qc xh (a.2*48))<=(if(qc xh ((qc xh (a.2+1))*48))<(b.len:Int)then qc xh ((qc xh (a.2+1))*48)else(b.len:Int))/\(if(qc xh ((qc xh (a.2+1))*48))<(b.len:Int)then qc xh ((qc xh (a.2+1))*48)else(b.len:Int))<=(b.cap:Int))/\
 ag xl 88 #[e,a.2,(qc xh (wH (qc xh ((qc xh ((b.len:Int)+48))-1)) 48)),(.slice (if b.cap=(qc xh (a.2*48)).toNat then b.ptr else b.ptr.map (·.add ((qc xh (a.2*48)).toNat*1))) ((if(qc xh ((qc xh (a.2+1))*48))<(b.len:Int)then qc xh ((qc xh (a.2+1))*48)else(b.len:Int)).toNat-(qc xh (a.2*48)).toNat) (b.cap-(qc xh (a.2*48)).toNat))] aK h3 fun m i=>
 (ar.ok [] i)/\
 av xl (qq 59 1 #[(0,m)]) aK i fun n k=>
 (ar.ok [] k)/\
 av xl (qt #[59,59] 59 #[a.1,n]) aK k fun c g=>
 (ar.ok [] g)/\
 l ((⟨c.ptr,c.len,c.cap⟩:Sl),qc xh (a.2+1)) g)
 (R a.1 h3)) ((⟨none,0,0⟩:Sl),(0:Int)) o
theorem Ov(a:cV)(b: @He R h a):ae xl 41 #[a] h R:=au af Tryz.func41 (al.tn (al.tn (al.tn (al.tn (.two (al.tn (.inn (.loop [(5,cu),(16,ba)] [(5,8),(16,39)] .n))) .n))))) b
abbrev YE:FuncId:=42
def Qc(a:FuncId×Array Value×Array Value)(c:Sl):Prop:=
 aM (σ:=Sl×Int) (fun d w g=>
 Br (d.2<(c.len:Int))
 (∃m,(c.ptr=some m/\0<=d.2/\d.2<(c.len:Int))/\
 ∃x3:Int×Sl,aj g (m.add (d.2.toNat*2)) 0 x3/\
 aQ xl (qK 102 true (.tuple #[])) g fun a4 t=>
 ac xl (qf 102 a4 x3) t fun _ h3=>
 bf (σ:=Unit) (fun _ l=>
 ∃e,cellOf l a4=some (vX xh e)/\
 av xl (qq 22 1 #[(0,e)]) aK l fun i h8=>
 av xl (qt #[22,22] 22 #[d.1,i]) aK h8 fun b s=>
 w ((⟨b.ptr,b.len,b.cap⟩:Sl),qc xh (d.2+1)) s)
 (fun x=>
 bf (σ:=Int) (fun p o=>
 Br (p !=0)
 (R p o)
 (x () o))
 (fun v=>
 ∃q,cellOf h3 a4=some (vX xh q)/\
 ∃f:Sl,cellOf h3 (a4.add 1)=some (f:Value)/\
 iq C a.1 (a.2.1.toList++[(vX xh q)]++a.2.2.toList) mL h3 fun y r=>
 (ar.ok [(a4.add 1,f)] r)/\
 ag xl 89 #[y,f] bt r fun u n=>
 (ar.ok [] n)/\
 v u n)))
 (ag xl 90 #[(.func (.func a.1) a.2.1 a.2.2),d.1] bt g fun j k=>
 R j k)) ((⟨none,0,0⟩:Sl),(0:Int)) h
theorem VF(a:FuncId×Array Value×Array Value)(b:Sl)(c: @Qc R h a b):ae xl 42 #[(.func (.func a.1) a.2.1 a.2.2),b] h R:=au af Tryz.func42 (al.tn (al.tn (.two (al.tn (.inn (.loop [(5,cu),(11,ba)] [(4,6),(7,9),(11,31)] (al.tn (al.tn (.two (.inn (al.tn (.two (.join [] [(4,5),(8,9),(15,25)] (.two (.join [(8,ba)] [(8,9),(15,22)] .n) .n)) .n))) .n)))))) .n))) c
abbrev Tt:FuncId:=43
def JE(e:cV)(a:Sl):Prop:=
 aQ xl (qL 47 e) h fun s l=>
 ∃x2:cV,aj l s 0 x2/\
 ag xl 41 #[x2] aK l fun i n=>
 aM (σ:=Sl×Int) (fun b q h3=>
 Br (b.2<(a.len:Int))
 (∃a5,(a.ptr=some a5/\0<=b.2/\b.2<(a.len:Int))/\
 ∃k,cellOf h3 (a5.add (b.2.toNat*1))=some (vX xh k)/\
 aM (σ:=Sl×Int) (fun c r g=>
 Br (c.2<(i.len:Int))
 (∃j,(i.ptr=some j/\0<=c.2/\c.2<(i.len:Int))/\
 ∃m:Sl,cellOf g (j.add (c.2.toNat*1))=some (m:Value)/\
 av xl (qq 90 1 #[(0,(xg #[k,m]))]) aK g fun f o=>
 av xl (qt #[90,90] 90 #[c.1,f]) aK o fun d p=>
 r ((⟨d.ptr,d.len,d.cap⟩:Sl),qc xh (c.2+1)) p)
 (q ((⟨c.1.ptr,c.1.len,c.1.cap⟩:Sl),qc xh (b.2+1)) g)) ((⟨b.1.ptr,b.1.len,b.1.cap⟩:Sl),(0:Int)) h3)
 (R b.1 h3)) ((⟨none,0,0⟩:Sl),(0:Int)) n
theorem QX(b:cV)(a:Sl)(c: @JE R h b a):ae xl 43 #[b,a] h R:=au af Tryz.func43 (al.tn (al.tn (al.tn (.two (al.tn (.inn (.loop [(6,cu),(15,ba)] [(6,7),(8,9),(10,11),(15,33)] (al.tn (al.tn (.two (.inn (al.tn (al.tn (.inn (.loop [(6,cu),(21,ba)] [(6,7),(10,11),(21,32)] .n))))) .n)))))) .n)))) c
abbrev Tu:FuncId:=44
def JF(b:Sl):Prop:=
 aM (σ:=Sl×Int) (fun a f d=>
 Br (a.2<(b.len:Int))
 (∃e,(b.ptr=some e/\0<=a.2/\a.2<(b.len:Int))/\
 ∃x3:Sl,cellOf d (e.add (a.2.toNat*1))=some (x3:Value)/\
 ag xl 91 #[x3] aK d fun g j=>
 av xl (qq 59 1 #[(0,g)]) aK j fun v5 h3=>
 av xl (qt #[59,59] 59 #[a.1,v5]) aK h3 fun c i=>
 f ((⟨c.ptr,c.len,c.cap⟩:Sl),qc xh (a.2+1)) i)
 (R a.1 d)) ((⟨none,0,0⟩:Sl),(0:Int)) h
theorem QY(a:Sl)(b: @JF R h a):ae xl 44 #[a] h R:=au af Tryz.func44 (al.tn (al.tn (.two (al.tn (.inn (.loop [(3,cu),(8,ba)] [(3,4),(5,6),(8,18)] .n))) .n))) b
abbrev BR:FuncId:=45
def oQ(a:Option Addr)(b:ByteArray)(j:Sl):Prop:=
 ag xl 69 #[a] bX h fun u o=>
 Br u
 (R (vX xh (14:Int)) o)
 (ag xl 92 #[b] bX o fun v n=>
 Br (!v)
 (R (vX xh (3:Int)) n)
 (ag xl 70 #[a,b] bt n fun w h3=>
 Br (w>=0)
 (R (vX xh (4:Int)) h3)
 (bf (σ:=Bool) (fun i s=>
 Br i
 (R (vX xh (6:Int)) s)
 (ag xl 21 #[a] aK s fun k c=>
 Br ((k.len:Int)==0) (R (vX xh (7:Int)) c) (∃f,(a=some f)/\
 ∃d,cellOf c (f.add 1)=some (vX xh d)/\
 Br (d>16777215) (R (vX xh (7:Int)) c) (∃g,(a=some g)/\
 ∃e,cellOf c g=some (vX xh e)/\
 Br (e>=2147483647)
 (R (vX xh (7:Int)) c)
 (R (vX xh (0:Int)) c)))))
 (fun r=>
 ∃a4,(a=some a4)/\
 ∃q,cellOf h3 (a4.add 2)=some (vX xh q)/\
 ∃l,(a=some l)/\
 ∃t,cellOf h3 ((l.add 2).add 2)=some (vX xh t)/\
 Br (decide ((j.len:Int)>(qc xh ((qc xh (q*t))*8)))) (r true h3) (∃m,(a=some m)/\
 ∃p:Sl,cellOf h3 (m.add 7)=some (p:Value)/\
 r (decide ((p.len:Int)>=12)) h3)))))
theorem AC(b:Option Addr)(a:ByteArray)(c:Sl)(d: @oQ R h b a c):ae xl 45 #[b,a,c] h R:=au af Tryz.func45 (al.tn (.two (.inn (al.tn (al.tn (al.tn (al.tn (al.tn (al.tn (.two (.join [(19,lI)] [(19,46)] .n) .n)))))))) .n)) d
abbrev Ow:FuncId:=46
def Fh(d:bH)(b:Int)(a:Int):Prop:=
 aQ xl (qL 24 d) h fun j l=>
 aM (σ:=Sl×Int) (fun c i f=>
 Br (c.2<a)
 (∃x3:bH,aj f j 0 x3/\
 ag xl 93 #[x3,b,c.2] (.many [ba,lI]) f fun g h3=>
 Br (!g.2)
 (R (.tuple #[(vY none 0 0),false]) h3)
 (av xl (qq 22 1 #[(0,g.1)]) aK h3 fun v5 k=>
 av xl (qt #[22,22] 22 #[c.1,v5]) aK k fun e m=>
 i ((⟨e.ptr,e.len,e.cap⟩:Sl),qc xh (c.2+1)) m))
 (R (.tuple #[c.1,true]) f)) ((⟨none,0,0⟩:Sl),(0:Int)) l
theorem Md(c:bH)(a:Int)(b:Int)(d: @Fh R h c a b):ae xl 46 #[c,a,b] h R:=au af Tryz.func46 (al.tn (al.tn (.two (al.tn (.inn (.loop [(8,cu),(13,ba)] [(6,12),(13,30)] .n))) .n))) d
abbrev BS:FuncId:=47
def oR(g:Option Addr)(U:jg)(S:Sl):Prop:=
 aQ xl (qL 96 U) h fun j h1=>
 ag xl 21 #[g] aK h1 fun r2 X=>
 ∃a3,(g=some a3)/\
 ∃x4:bH,aj X (a3.add 2) 0 x4/\
 ag xl 94 #[x4,S] aK X fun L h3=>
 aM (σ:=Sl×Int) (fun e K1 n=>
 Br (e.2<(L.len:Int))
 (∃a7,(L.ptr=some a7/\0<=e.2/\e.2<(L.len:Int))/\
 ∃x8:Sl,cellOf n (a7.add (e.2.toNat*1))=some (x8:Value)/\
 ∃Y,cellOf n (j.add 1)=some (vX xh Y)/\
 ∃i:Sl,cellOf n (j.add 3)=some (i:Value)/\
 ∃x,(i.ptr=some x/\0<=e.2/\e.2<(i.len:Int))/\
 ∃u,cellOf n (x.add (e.2.toNat*1))=some (vX xh u)/\
 ag xl 77 #[Y,e.2,u] (.one (.sc (.int .u32))) n fun l O=>
 (ar.ok [(j.add 3,i)] O)/\
 ∃s,(g=some s)/\
 ∃v:bH,aj O (s.add 2) 0 v/\
 ag xl 95 #[v,(vX xj l),x8] (.many [LX,ba]) O fun k P=>
 Br (k.2 !=0)
 (R (.tuple #[(vY none 0 0),false]) P)
 (∃y,cellOf P (j.add 1)=some (vX xh y)/\
 ag xl 96 #[y,e.2,r2] aK P fun K J=>
 ∃B,(g=some B)/\
 ∃I,cellOf J (B.add 2)=some (vX xh I)/\
 ∃z,(g=some z)/\
 ∃D,cellOf J (z.add 5)=some (vX xh D)/\
 aM (σ:=Sl×Int) (fun b K2 h8=>
 Br (b.2<(qc xh (I+D)))
 (bf (σ:=Addr) (fun d o=>
 ∃c:ee,aj o d 0 c/\
 ag xl 98 #[K,b.2] bt o fun N F=>
 (ar.ok [(d,c.1),(d.add 1,c.2.1),(d.add 2,c.2.2.1),(d.add 3,c.2.2.2.1),(d.add 4,c.2.2.2.2.1),(d.add 5,c.2.2.2.2.2.1),(d.add 6,(vX xj c.2.2.2.2.2.2.1)),(d.add 7,c.2.2.2.2.2.2.2)] F)/\
 ag xl 99 #[c] aK F fun Q r=>
 (ar.ok [] r)/\
 av xl (qq 90 1 #[(0,(xg #[N,Q]))]) aK r fun T H=>
 (ar.ok [] H)/\
 av xl (qt #[90,90] 90 #[b.1,T]) aK H fun m w=>
 (ar.ok [] w)/\
 K2 ((⟨m.ptr,m.len,m.cap⟩:Sl),qc xh (b.2+1)) w)
 (fun Z=>
 ∃f,cellOf h8 (j.add 1)=some (vX xh f)/\
 ∃a25,(g=some a25)/\
 ∃a:bH,aj h8 (a25.add 2) 0 a/\
 (ag xl 97 #[k.1,b.2] aK h8 fun M W=>
 (ar.ok [(a25.add 2,a.1),((a25.add 2).add 1,a.2.1),((a25.add 2).add 2,a.2.2),(j.add 1,f)] W)/\
 aQ xl (qK 134 true (.tuple #[])) W fun a28 A=>
 (ar.ok [(a25.add 2,a.1),((a25.add 2).add 1,a.2.1),((a25.add 2).add 2,a.2.2),(j.add 1,f)] A)/\
 ac xl (qf 134 a28 (xg #[f,e.2,b.2,a.1,a.2.1,a.2.2,(vX xj l),M])) A fun _ E=>
 (ar.ok [] E)/\
 Z a28 E)/\(aQ xl (qK 134 true (.tuple #[])) h8 fun p q=>
 (ar.ok [(a25.add 2,a.1),((a25.add 2).add 1,a.2.1),((a25.add 2).add 2,a.2.2),(j.add 1,f)] q)/\
 ag xl 97 #[k.1,b.2] aK q fun V t=>
 (ar.ok [(a25.add 2,a.1),((a25.add 2).add 1,a.2.1),((a25.add 2).add 2,a.2.2),(j.add 1,f)] t)/\
 ac xl (qf 134 p (xg #[f,e.2,b.2,a.1,a.2.1,a.2.2,(vX xj l),V])) t fun _ G=>
 (ar.ok [] G)/\
 Z p G)))
 (K1 ((⟨b.1.ptr,b.1.len,b.1.cap⟩:Sl),qc xh (e.2+1)) h8)) ((⟨e.1.ptr,e.1.len,e.1.cap⟩:Sl),(0:Int)) J))
 (R (.tuple #[e.1,true]) n)) ((⟨none,0,0⟩:Sl),(0:Int)) h3
theorem AD(a:Option Addr)(b:jg)(c:Sl)(d: @oR R h a b c):ae xl 47 #[a,b,c] h R:=au af Tryz.func47 (al.tn (al.tn (al.tn (.two (al.tn (.inn (.loop [(9,cu),(28,ba)] [(6,8),(9,18),(28,100)] (al.tn (al.tn (.two (.inn (al.tn (al.tn (al.tn (al.tn (al.tn (al.tn (.inn (.loop [(9,cu),(72,ba)] [(9,10),(16,18),(72,99)] (al.tn (al.tn (.two (.inn (al.tn (.two (.join [(17,(.sc .adr))] [(17,18),(75,89)] .n) .n))) .n)))))))))))) .n)))))) .n)))) d
abbrev Fi:FuncId:=48
def Hg(k:cV)(n:jg):Prop:=
 aQ xl (qL 47 k) h fun B y=>
 aQ xl (qL 96 n) y fun v x=>
 aQ xl (qK 47 true (.tuple #[])) x fun a3 h3=>
 ∃t:cV,aj h3 B 0 t/\
 ag xl 62 #[t] Tq h3 fun w A=>
 aQ xl (qK 47 true (.tuple #[])) A fun b z=>
 ac xl (qf 47 b w) z fun _ q=>
 ∃s,cellOf q b=some (vX xh s)/\
 ac xl (qf 3 b (qc xh (s+1))) q fun _ o=>
 ∃r,cellOf o (b.add 1)=some (vX xh r)/\
 ac xl (qf 3 (b.add 1) (qc xh (r+1))) o fun _ h8=>
 ∃p:Sl,cellOf h8 (b.add 7)=some (p:Value)/\
 ∃c:jg,aj h8 v 0 c/\
 av xl (qq 45 1 #[(0,c)]) aK h8 fun l u=>
 av xl (qt #[45,45] 45 #[p,l]) aK u fun j m=>
 ac xl (qf 45 (b.add 7) j) m fun _ i=>
 ∃e:Sl,cellOf i (b.add 7)=some (e:Value)/\
 ag xl 100 #[e,(.func (.func 101) #[] #[])] iC i fun _ d=>
 ∃g:cV,aj d b 0 g/\
 ac xl (qf 47 a3 g) d fun _ f=>
 ∃a:cV,aj f a3 0 a/\
 R a f
theorem Ox(a:cV)(b:jg)(c: @Hg R h a b):ae xl 48 #[a,b] h R:=au af Tryz.func48 .n c
abbrev iV:FuncId:=49
def rG(b:Int)(c:Addr)(d:Addr):Prop:=
 ∃k,cellOf h c=some (vX xh k)/\
 ∃x2:Sl,cellOf h d=some (x2:Value)/\
 aM (σ:=Int×Int) (fun a g e=>
 Br (a.2<(x2.len:Int))
 (∃a4,(x2.ptr=some a4/\0<=a.2/\a.2<(x2.len:Int))/\
 ∃i:Int×Sl,aj e (a4.add (a.2.toNat*2)) 0 i/\
 aQ xl (qK 102 true (.tuple #[])) e fun f l=>
 ac xl (qf 102 f i) l fun _ h3=>
 ∃j,cellOf h3 f=some (vX xh j)/\
 Br (j==b)
 (g (qc xh (a.1+1),qc xh (a.2+1)) h3)
 (g (a.1,qc xh (a.2+1)) h3))
 (R a.1 e)) (k,(0:Int)) h
theorem CP(a:Int)(b:Addr)(c:Addr)(d: @rG R h a b c):ae xl 49 #[a,b,c] h R:=au af Tryz.func49 (al.tn (al.tn (.two (al.tn (.inn (.loop [(5,ba),(11,ba)] [(5,6),(7,8),(11,22)] .n))) .n))) d
abbrev FS:FuncId:=50
def tl(c:Option Addr)(a:Sl)(b:FuncId×Array Value×Array Value):Prop:=
 aQ xl (qL 29 c) h fun d i=>
 aQ xl (qL 103 (.func (.func b.1) b.2.1 b.2.2)) i fun e g=>
 ag xl 103 #[a,(.func (.func 104) #[] #[d,e])] bX g fun f h3=>
 R (xf (!f)) h3
theorem Ep(c:Option Addr)(a:Sl)(b:FuncId×Array Value×Array Value)(d: @tl R h c a b):ae xl 50 #[c,a,(.func (.func b.1) b.2.1 b.2.2)] h R:=au af Tryz.func50 .n d
abbrev Er:FuncId:=51
def rH(g:Option Addr)(a:Sl)(d:FuncId×Array Value×Array Value):Prop:=
 aM (σ:=Int) (fun i p f=>
 Br (i<(a.len:Int))
 (∃k,(a.ptr=some k/\0<=i/\i<(a.len:Int))/\
 ∃x3,cellOf f (k.add (i.toNat*1))=some (vX xh x3)/\
 bf (σ:=Int) (fun e m=>
 Br (e !=0)
 (R e m)
 (p (qc xh (i+1)) m))
 (fun q=>
 ∃a4,(g=some a4)/\
 (0<=x3/\x3<((64:Nat):Int))/\
 ∃j:Option Addr,cellOf f ((a4.add 10).add (x3.toNat*1))=some (.pointer j)/\
 ∃b,(g=some b)/\
 ∃c:cV,aj f b 0 c/\
 iq C d.1 (d.2.1.toList++[(vX xh x3)]++d.2.2.toList) bt f fun n l=>
 (ar.ok [(b,c.1),(b.add 1,c.2.1),(b.add 2,c.2.2.1),(b.add 3,c.2.2.2.1),(b.add 4,c.2.2.2.2.1),(b.add 5,c.2.2.2.2.2.1),(b.add 6,c.2.2.2.2.2.2.1),(b.add 7,c.2.2.2.2.2.2.2),((a4.add 10).add (x3.toNat*1),j)] l)/\
 ag xl 106 #[j,c,n] bt l fun o h3=>
 (ar.ok [] h3)/\
 q o h3))
 (R (vX xh (0:Int)) f)) (0:Int) h
theorem CQ(c:Option Addr)(a:Sl)(b:FuncId×Array Value×Array Value)(d: @rH R h c a b):ae xl 51 #[c,a,(.func (.func b.1) b.2.1 b.2.2)] h R:=au af Tryz.func51 (al.tn (.two (al.tn (.inn (.loop [(12,ba)] [(6,7),(8,10),(12,34)] (al.tn (al.tn (.two (.inn (al.tn (.two (.join [(9,ba)] [(9,10),(16,30)] .n) .n))) .n)))))) .n)) d
abbrev FT:FuncId:=52
def tm(b:Option Addr)(c:cV)(a:Sl):Prop:=
 aQ xl (qL 47 c) h fun e i=>
 ∃x2:cV,aj i e 0 x2/\
 ag xl 43 #[x2,a] aK i fun k m=>
 ag xl 42 #[(.func (.func 11) #[b] #[]),k] bt m fun g h3=>
 Br (g !=0)
 (R g h3)
 (∃d:cV,aj h3 e 0 d/\
 ag xl 62 #[d] Tq h3 fun j l=>
 ∃f,(b=some f)/\
 ac xl (qf 47 f j) l fun _ n=>
 R (vX xh (0:Int)) n)
theorem Es(b:Option Addr)(c:cV)(a:Sl)(d: @tm R h b c a):ae xl 52 #[b,c,a] h R:=au af Tryz.func52 .n d
abbrev FU:FuncId:=54
def tq(a:Option Addr):Prop:=
 Br (!(zi a)) (∃b,(a=some b)/\
 ∃x2:Bool,cellOf h (b.add 6)=some (xf x2)/\
 R x2 h) (R false h)
theorem Et(a:Option Addr)(b: @tq R h a):ae xl 54 #[a] h R:=au af Tryz.func54 .n b
abbrev Hi:FuncId:=57
def ur(a:Option Addr):Prop:=
 Br (zi a)
 (R (vY none 0 0) h)
 (∃b,(a=some b)/\
 ∃x2:Sl,cellOf h (b.add 2)=some (x2:Value)/\
 ag xl 44 #[x2] aK h fun c d=>
 R c d)
theorem FV(a:Option Addr)(b: @ur R h a):ae xl 57 #[a] h R:=au af Tryz.func57 .n b
abbrev Oy:FuncId:=58
def Fj(a:Sl)(b:Sl):Prop:=
 av xl (convert 38 9 a) (.one LY) h fun c e=>
 av xl (convert 38 9 b) (.one LY) e fun f d=>
 R (xf (c.toList==f.toList)) d
theorem Me(a:Sl)(b:Sl)(c: @Fj R h a b):ae xl 58 #[a,b] h R:=au af Tryz.func58 .n c
abbrev BU:FuncId:=59
def oS(a:Option Addr)(b:Sl):Prop:=
 aM (σ:=Int) (fun l H c=>
 Br (l<(b.len:Int))
 (∃v,(b.ptr=some v/\0<=l/\l<(b.len:Int))/\
 ∃x3:Sl,cellOf c (v.add (l.toNat*1))=some (x3:Value)/\
 Br ((x3.len:Int) !=64)
 (R (vX xh (1:Int)) c)
 (H (qc xh (l+1)) c))
 (bf (σ:=Unit) (fun _ A=>
 ∃m,(a=some m)/\
 ∃k:Option Addr,cellOf A m=some (.pointer k)/\
 ag xl 34 #[k] bX A fun u w=>
 Br (!u)
 (ag xl 44 #[b] aK w fun p G=>
 ∃d,(a=some d)/\
 ac xl (qf 59 (d.add 4) p) G fun _ D=>
 ∃i,(a=some i)/\
 ac xl (qf 4 (i.add 5) true) D fun _ h8=>
 R (vX xh (14:Int)) h8)
 (ag xl 44 #[b] aK w fun o E=>
 ∃g,(a=some g)/\
 ac xl (qf 59 (g.add 2) o) E fun _ q=>
 ∃j,(a=some j)/\
 ac xl (qf 3 (j.add 3) (vX xh (0:Int))) q fun _ t=>
 ag xl 111 #[a] bt t fun s n=>
 R s n))
 (fun I=>
 bf (σ:=Bool) (fun F f=>
 Br F
 (R (vX xh (5:Int)) f)
 (∃B,(a=some B)/\
 ∃z,cellOf f (B.add 1)=some (vX xh z)/\
 Br ((b.len:Int)>z)
 (R (vX xh (7:Int)) f)
 (∃a9,(a=some a9)/\
 ∃e:Option Addr,cellOf f a9=some (.pointer e)/\
 ag xl 86 #[e] bX f fun r h3=>
 Br (!r)
 (R (vX xh (14:Int)) h3)
 (I () h3))))
 (fun x=>
 Br (zi a) (x true c) (∃a4,(a=some a4)/\
 ∃y:Bool,cellOf c (a4.add 6)=some (xf y)/\
 x y c))))) (0:Int) h
theorem AE(a:Option Addr)(b:Sl)(c: @oS R h a b):ae xl 59 #[a,b] h R:=au af Tryz.func59 (al.tn (.two (al.tn (.inn (.loop [(9,ba)] [(4,5),(6,7),(9,17)] .n))) (.two (.join [] [(4,5),(17,41)] (.inn (.two (.join [(17,lI)] [(17,26)] .n) .n))) .n))) c
abbrev JG:FuncId:=62
def Mf(n:cV):Prop:=
 aQ xl (qL 47 n) h fun b z=>
 aQ xl (qK 47 true (.tuple #[])) z fun s m=>
 bf (σ:=Unit) (fun _ q=>
 ∃v:Sl,cellOf q (b.add 7)=some (v:Value)/\
 aM (σ:=Int) (fun e B h8=>
 Br (e<(v.len:Int))
 (∃c:Sl,cellOf h8 (b.add 7)=some (c:Value)/\
 ∃d:Sl,cellOf h8 (b.add 7)=some (d:Value)/\
 ∃j,(d.ptr=some j/\0<=e/\e<(d.len:Int))/\
 ∃g:Sl,cellOf h8 ((j.add (e.toNat*4)).add 3)=some (g:Value)/\
 ag xl 79 #[g] aK h8 fun o r=>
 (ar.ok [(b.add 7,d),(b.add 7,c)] r)/\
 ∃l,(c.ptr=some l/\0<=e/\e<(c.len:Int))/\
 ac xl (qf 22 ((l.add (e.toNat*4)).add 3) o) r fun _ i=>
 (ar.ok [] i)/\
 B (qc xh (e+1)) i)
 (∃f:cV,aj h8 b 0 f/\
 ac xl (qf 47 s f) h8 fun _ k=>
 ∃a:cV,aj k s 0 a/\
 R a k)) (0:Int) q)
 (fun A=>
 ∃x3:Sl,cellOf m (b.add 6)=some (x3:Value)/\
 ∃p:Sl,cellOf m (b.add 7)=some (p:Value)/\
 ag xl 79 #[x3] aK m fun y h3=>
 (ar.ok [(b.add 7,p)] h3)/\
 ag xl 112 #[p] aK h3 fun x w=>
 (ar.ok [] w)/\
 ac xl (qf 22 (b.add 6) y) w fun _ t=>
 (ar.ok [] t)/\
 ac xl (qf 45 (b.add 7) x) t fun _ u=>
 (ar.ok [] u)/\
 A () u)
theorem Tv(a:cV)(b: @Mf R h a):ae xl 62 #[a] h R:=au af Tryz.func62 (al.tn (.two (.join [] [(4,12)] .n) (.two (al.tn (.inn (.loop [(15,ba)] [(3,4),(15,31)] .n))) .n))) b
abbrev VG:FuncId:=63
def Mg(y:cV):Prop:=
 aQ xl (qL 47 y) h fun c F=>
 bf (σ:=Unit) (fun _ H=>
 bf (σ:=Unit) (fun _ h8=>
 ∃e:Sl,cellOf h8 (c.add 7)=some (e:Value)/\
 aM (σ:=Int) (fun a M v=>
 Br (a<(e.len:Int))
 (∃j,(e.ptr=some j/\0<=a/\a<(e.len:Int))/\
 ∃r:jg,aj v (j.add (a.toNat*4)) 0 r/\
 aQ xl (qK 96 true (.tuple #[])) v fun f z=>
 ac xl (qf 96 f r) z fun _ g=>
 bf (σ:=Unit) (fun _ m=>
 ∃d:Sl,cellOf m (c.add 7)=some (d:Value)/\
 (0<=a/\a<=(d.cap:Int))/\
 ag xl 116 #[(vY d.ptr a.toNat d.cap),(.func (.func 117) #[] #[f])] bX m fun D s=>
 Br D
 (R false s)
 (M (qc xh (a+1)) s))
 (fun J=>
 ∃t:cV,aj g c 0 t/\
 ∃k:jg,aj g f 0 k/\
 ag xl 115 #[t,k] bX g fun A b=>
 (ar.ok [] b)/\
 Br (!A) (R false b) (Br (a>0) (∃i:Sl,cellOf b (c.add 7)=some (i:Value)/\
 ∃p,(i.ptr=some p/\0<=(qc xh (a-1))/\(qc xh (a-1))<(i.len:Int))/\
 ∃o:ByteArray,cellOf b (p.add ((qc xh (a-1)).toNat*4))=some (xd o)/\
 ∃q:ByteArray,cellOf b f=some (xd q)/\
 Br (!(Op.bytesLess o.toList q.toList))
 (R false b)
 (J () b)) (J () b))))
 (R true v)) (0:Int) h8)
 (fun P=>
 ∃n:Sl,cellOf H (c.add 6)=some (n:Value)/\
 ag xl 114 #[n,(vX xh (63:Int))] bX H fun x u=>
 Br (!x) (R false u) (∃l:Sl,cellOf u (c.add 7)=some (l:Value)/\
 Br ((l.len:Int)>12)
 (R false u)
 (P () u))))
 (fun O=>
 ∃x2,cellOf F c=some (vX xh x2)/\
 ag xl 113 #[x2,(vX xh (1:Int)),(vX xh (2147483647:Int))] bX F fun S w=>
 Br (!S) (R false w) (∃K,cellOf w (c.add 1)=some (vX xh K)/\
 ag xl 113 #[K,(vX xh (0:Int)),(vX xh (16777216:Int))] bX w fun L h3=>
 Br (!L) (R false h3) (∃E:bH,aj h3 (c.add 2) 0 E/\
 ag xl 39 #[E] bX h3 fun Q B=>
 Br (!Q) (R false B) (∃I,cellOf B (c.add 5)=some (vX xh I)/\
 ag xl 113 #[I,(vX xh (0:Int)),(vX xh (16:Int))] bX B fun N G=>
 Br (!N)
 (R false G)
 (O () G)))))
theorem Tw(a:cV)(b: @Mg R h a):ae xl 63 #[a] h R:=au af Tryz.func63 (al.tn (.two (.join [] [(2,3),(5,27)] .n) (.two (.join [] [(2,3),(27,37)] .n) (.two (al.tn (.inn (.loop [(40,ba)] [(2,5),(40,72)] (al.tn (al.tn (.two (.inn (al.tn (.two (.join [] [(2,3),(45,65)] .n) .n))) .n)))))) .n)))) b
abbrev np:FuncId:=64
def iN(b:Sl)(a:FuncId×Array Value×Array Value):Prop:=
 ag xl 118 #[b,(.func (.func a.1) a.2.1 a.2.2)] bt h fun c d=>
 R (decide (c>=0)) d
theorem mN(b:Sl)(a:FuncId×Array Value×Array Value)(c: @iN R h b a):ae xl 64 #[b,(.func (.func a.1) a.2.1 a.2.2)] h R:=au af Tryz.func64 .n c
abbrev pS:FuncId:=65
def CR(b:Sl)(a:Addr):Prop:=
 ∃c:Sl,cellOf h a=some (c:Value)/\
 ag xl 58 #[b,c] bX h fun d e=>
 R d e
theorem Kx(b:Sl)(a:Addr)(c: @CR R h b a):ae xl 65 #[b,a] h R:=au af Tryz.func65 .n c
abbrev VH:FuncId:=66
def Mh(c:FuncId×Array Value×Array Value)(a:Sl):Prop:=
 aM (σ:=Sl×Int) (fun b d e=>
 Br (b.2<(a.len:Int))
 (∃g,(a.ptr=some g/\0<=b.2/\b.2<(a.len:Int))/\
 ∃x3,cellOf e (g.add (b.2.toNat*1))=some (vX xh x3)/\
 iq C c.1 (c.2.1.toList++[(vX xh x3)]++c.2.2.toList) mL e fun i j=>
 Br (!(zi i)) (ag xl 54 #[i] bX j fun k h3=>
 Br (!k)
 (av xl (qq 22 1 #[(0,x3)]) aK h3 fun l m=>
 av xl (qt #[22,22] 22 #[b.1,l]) aK m fun f n=>
 d ((⟨f.ptr,f.len,f.cap⟩:Sl),qc xh (b.2+1)) n)
 (d ((⟨b.1.ptr,b.1.len,b.1.cap⟩:Sl),qc xh (b.2+1)) h3)) (d ((⟨b.1.ptr,b.1.len,b.1.cap⟩:Sl),qc xh (b.2+1)) j))
 (R b.1 e)) ((⟨none,0,0⟩:Sl),(0:Int)) h
theorem Tx(b:FuncId×Array Value×Array Value)(a:Sl)(c: @Mh R h b a):ae xl 66 #[(.func (.func b.1) b.2.1 b.2.2),a] h R:=au af Tryz.func66 (al.tn (al.tn (.two (al.tn (.inn (.loop [(5,cu),(11,ba)] [(5,6),(7,9),(11,30)] .n))) .n))) c
abbrev BV:FuncId:=68
def oT(a3:bH)(P:Int)(a:Int)(c:Int):Prop:=
 aQ xl (qL 24 a3) h fun r h1=>
 aQ xl (qK 57 true (.tuple #[])) h1 fun b h2=>
 ag xl 10 #[P,(vX xh (26:Int))] bt h2 fun p h3=>
 Br (p<8)
 (((5:Int)≠0)/\
 ∃E,cellOf h3 r=some (vX xh E)/\
 ∃y,cellOf h3 (r.add 2)=some (vX xh y)/\
 ag xl 119 #[a] (.one LY) h3 fun r6 h4=>
 (ar.ok [(r.add 2,y),(r,E)] h4)/\
 ag xl 10 #[(qc xh (wH a 5)),(qc xh ((qc xh ((qc xh (3*E))*y))+2))] bt h4 fun r7 h5=>
 (ar.ok [(r.add 2,y),(r,E)] h5)/\
 ag xl 14 #[r7,c] aK h5 fun r8 h6=>
 (ar.ok [(r.add 2,y),(r,E)] h6)/\
 ac xl (qf 57 b (xg #[(vX xh (1:Int)),r6,r8,(vX xh (0:Int)),(vX xh (0:Int)),(vX xh (0:Int)),(vX xj (0:Int)),(vY none 0 0),(vY none 0 0)])) h6 fun _ F=>
 (ar.ok [] F)/\
 ∃q:CJ,aj F b 0 q/\
 R q F)
 (Br (p<11)
 (ag xl 119 #[a] (.one LY) h3 fun ap h8=>
 ac xl (qf 57 b (xg #[(vX xh (2:Int)),ap,(vY none 0 0),(vX xh (0:Int)),(vX xh (0:Int)),(vX xh (0:Int)),(vX xj (0:Int)),(vY none 0 0),(vY none 0 0)])) h8 fun _ h9=>
 ∃e:CJ,aj h9 b 0 e/\
 R e h9)
 (Br (p<13)
 (ag xl 119 #[a] (.one LY) h3 fun V Y=>
 ac xl (qf 57 b (xg #[(vX xh (3:Int)),V,(vY none 0 0),(vX xh (0:Int)),(vX xh (0:Int)),(vX xh (0:Int)),(vX xj (0:Int)),(vY none 0 0),(vY none 0 0)])) Y fun _ z=>
 ∃o:CJ,aj z b 0 o/\
 R o z)
 (Br (p==13)
 (ac xl (qf 57 b (xg #[(vX xh (4:Int)),nZ,(vY none 0 0),(vX xh (0:Int)),(vX xh (0:Int)),(vX xh (0:Int)),(vX xj (0:Int)),(vY none 0 0),(vY none 0 0)])) h3 fun _ t=>
 ∃i:CJ,aj t b 0 i/\
 R i t)
 (Br (p==14)
 (ag xl 119 #[a] (.one LY) h3 fun am T=>
 ac xl (qf 57 b (xg #[(vX xh (5:Int)),am,(vY none 0 0),(vX xh (0:Int)),(vX xh (0:Int)),(vX xh (0:Int)),(vX xj (0:Int)),(vY none 0 0),(vY none 0 0)])) T fun _ D=>
 ∃g:CJ,aj D b 0 g/\
 R g D)
 (Br (p==15)
 (ag xl 10 #[a,(vX xh (9:Int))] bt h3 fun a6 I=>
 ag xl 10 #[c,(vX xh (60:Int))] bt I fun G ax=>
 ac xl (qf 57 b (xg #[(vX xh (6:Int)),nZ,(vY none 0 0),a6,(qc xh (6+G)),(vX xh (0:Int)),(vX xj (0:Int)),(vY none 0 0),(vY none 0 0)])) ax fun _ u=>
 ∃l:CJ,aj u b 0 l/\
 R l u)
 (Br (p==16)
 (ag xl 10 #[a,(vX xh (8:Int))] bt h3 fun a0 a4=>
 ac xl (qf 57 b (xg #[(vX xh (7:Int)),nZ,(vY none 0 0),a0,(vX xh (0:Int)),(vX xh (0:Int)),(vX xj (0:Int)),(vY none 0 0),(vY none 0 0)])) a4 fun _ w=>
 ∃d:CJ,aj w b 0 d/\
 R d w)
 (Br (p==17)
 (ag xl 10 #[a,(vX xh (8:Int))] bt h3 fun ah Z=>
 ag xl 10 #[c,(vX xh (60:Int))] bt Z fun a7 N=>
 ac xl (qf 57 b (xg #[(vX xh (8:Int)),nZ,(vY none 0 0),ah,(qc xh (6+a7)),(vX xh (0:Int)),(vX xj (0:Int)),(vY none 0 0),(vY none 0 0)])) N fun _ s=>
 ∃j:CJ,aj s b 0 j/\
 R j s)
 (Br (p==18)
 (ag xl 10 #[a,(vX xh (8:Int))] bt h3 fun K Q=>
 ac xl (qf 57 b (xg #[(vX xh (9:Int)),nZ,(vY none 0 0),K,(vX xh (0:Int)),(vX xh (0:Int)),(vX xj (0:Int)),(vY none 0 0),(vY none 0 0)])) Q fun _ x=>
 ∃k:CJ,aj x b 0 k/\
 R k x)
 (Br (p<22)
 (ag xl 10 #[a,(vX xh (3:Int))] bt h3 fun L ab=>
 ag xl 10 #[c,(vX xh (20:Int))] bt ab fun J U=>
 ac xl (qf 57 b (xg #[(vX xh (10:Int)),nZ,(vY none 0 0),(vX xh (0:Int)),L,J,(vX xj (0:Int)),(vY none 0 0),(vY none 0 0)])) U fun _ A=>
 ∃f:CJ,aj A b 0 f/\
 R f A)
 (Br (p==22)
 (ag xl 10 #[a,(vX xh (9:Int))] bt h3 fun a5 ao=>
 ag xl 10 #[c,(vX xh (70:Int))] bt ao fun ay H=>
 ac xl (qf 57 b (xg #[(vX xh (10:Int)),nZ,(vY none 0 0),(vX xh (0:Int)),(qc xh (a5-1)),(qc xh (ay-1)),(vX xj (0:Int)),(vY none 0 0),(vY none 0 0)])) H fun _ B=>
 ∃n:CJ,aj B b 0 n/\
 R n B)
 (ag xl 10 #[a,(vX xh (7:Int))] bt h3 fun M O=>
 ((7:Int)≠0)/\
 ag xl 10 #[(qc xh (wH a 7)),(vX xh (40:Int))] bt O fun S W=>
 ag xl 10 #[c,(vX xh (61:Int))] bt W fun ad X=>
 ac xl (qf 57 b (xg #[(vX xh (11:Int)),nZ,(vY none 0 0),M,S,ad,(vX xj (qc xj ((qc xj ((qc xj c)*2654435761))+(qc xj a)))),(vY none 0 0),(vY none 0 0)])) X fun _ v=>
 ∃m:CJ,aj v b 0 m/\
 R m v)))))))))))
theorem AF(b:bH)(c:Int)(d:Int)(a:Int)(e: @oT R h b c d a):ae xl 68 #[b,c,d,a] h R:=au af Tryz.func68 .n e
abbrev Hj:FuncId:=69
def nL(a:Option Addr):Prop:=
 Br (zi a) (R true h) (ag xl 82 #[a] bX h fun b c=>
 R b c)
theorem rI(a:Option Addr)(b: @nL R h a):ae xl 69 #[a] h R:=au af Tryz.func69 .n b
abbrev FW:FuncId:=70
def tt(b:Option Addr)(a:ByteArray):Prop:=
 aQ xl (qL 9 a) h fun e d=>
 ∃c,(b=some c)/\
 ∃x3:Sl,cellOf d (c.add 7)=some (x3:Value)/\
 ag xl 120 #[x3,(.func (.func 121) #[] #[e])] bt d fun f g=>
 R f g
theorem Eu(b:Option Addr)(a:ByteArray)(c: @tt R h b a):ae xl 70 #[b,a] h R:=au af Tryz.func70 .n c
abbrev mO:FuncId:=71
def iD(a:Sl)(d:Int)(b:Int):Prop:=
 av xl (wE 45 a (some d) (some b) (some (vX xh (a.len:Int)))) aK h fun _ f=>
 Br (d==b)
 (R a f)
 ((0<=d/\d<=(a.cap:Int))/\
 (0<=b/\b<=(a.len:Int))/\
 av xl (qt #[45,45] 45 #[(vY a.ptr d.toNat a.cap),(.slice (if a.cap=b.toNat then a.ptr else a.ptr.map (·.add (b.toNat*4))) (a.len-b.toNat) (a.cap-b.toNat))]) aK f fun c e=>
 (ar.ok [] e)/\
 (0<=(c.len:Int)/\(c.len:Int)<=(a.len:Int)/\(a.len:Int)<=(c.cap:Int))/\
 ac xl (yt #[45] 0 #[(.slice (if c.cap=(c.len:Int).toNat then c.ptr else c.ptr.map (·.add ((c.len:Int).toNat*4))) ((a.len:Int).toNat-(c.len:Int).toNat) (c.cap-(c.len:Int).toNat))]) e fun _ h3=>
 R c h3)
theorem mz(a:Sl)(b:Int)(c:Int)(d: @iD R h a b c):ae xl 71 #[a,b,c] h R:=au af Tryz.func71 .n d
abbrev CS:FuncId:=72
def pT(a:Option Addr)(m:cV):Prop:=
 aQ xl (qL 47 m) h fun i y=>
 ag xl 69 #[a] bX y fun E l=>
 Br E
 (R (vX xh (14:Int)) l)
 (bf (σ:=Unit) (fun _ v=>
 ∃s:Sl,cellOf v (i.add 6)=some (s:Value)/\
 ag xl 66 #[(.func (.func 11) #[a] #[]),s] aK v fun b t=>
 ∃f:cV,aj t i 0 f/\
 ag xl 41 #[f] aK t fun n z=>
 aQ xl (qK 3 true (.tuple #[])) z fun d x=>
 ac xl (qf 3 d (vX xh (n.len:Int))) x fun _ h8=>
 bf (σ:=Unit) (fun _ p=>
 ag xl 51 #[a,b,(.func (.func 122) #[] #[d])] bt p fun e c=>
 Br (e !=0)
 (R e c)
 (∃g:cV,aj c i 0 g/\
 ag xl 52 #[a,g,b] bt c fun j k=>
 R j k))
 (fun D=>
 Br ((b.len:Int)==0) (R (vX xh (7:Int)) h8) (ag xl 50 #[a,b,(.func (.func 122) #[] #[d])] bX h8 fun o r=>
 Br (!o)
 (R (vX xh (7:Int)) r)
 (D () r))))
 (fun B=>
 ∃x3:cV,aj l i 0 x3/\
 ag xl 63 #[x3] bX l fun A h3=>
 (ar.ok [] h3)/\
 Br (!A) (R (vX xh (1:Int)) h3) (∃u,cellOf h3 i=some (vX xh u)/\
 ∃q,(a=some q)/\
 ∃w,cellOf h3 q=some (vX xh w)/\
 Br (u !=(qc xh (w+1)))
 (R (vX xh (1:Int)) h3)
 (B () h3))))
theorem BW(a:Option Addr)(b:cV)(c: @pT R h a b):ae xl 72 #[a,b] h R:=au af Tryz.func72 (al.tn (al.tn (.two (.join [] [(4,5),(11,25)] .n) (al.tn (al.tn (al.tn (.two (.join [] [(4,5),(34,44)] .n) .n))))))) c
abbrev Ky:FuncId:=73
def Bn(a:ByteArray):Prop:=
 ag xl 123 #[a] (.one LY) h fun b c=>
 R b c
theorem Jh(a:ByteArray)(b: @Bn R h a):ae xl 73 #[a] h R:=au af Tryz.func73 .n b
abbrev Ev:FuncId:=74
def rJ(a:Option Addr):Prop:=
 aQ xl (qL 29 a) h fun b c=>
 ∃x2:Option Addr,cellOf c b=some (.pointer x2)/\
 ag xl 21 #[x2] aK c fun d f=>
 ag xl 103 #[d,(.func (.func 124) #[] #[b])] bX f fun e h3=>
 R e h3
theorem CT(a:Option Addr)(b: @rJ R h a):ae xl 74 #[a] h R:=au af Tryz.func74 .n b
abbrev Oz:FuncId:=75
def Fk(f:FuncId×Array Value×Array Value)(a:Sl)(u:cV)(c:Int)(e:Int):Prop:=
 aQ xl (qL 47 u) h fun j F=>
 aM (σ:=Sl×Int) (fun i H r=>
 Br (i.2<(a.len:Int))
 (∃a3,(a.ptr=some a3/\0<=i.2/\i.2<(a.len:Int))/\
 ∃A,cellOf r (a3.add (i.2.toNat*1))=some (vX xh A)/\
 bf (σ:=Sl×Int×Int) (fun s G=>
 aM (σ:=Sl×Int) (fun b v w=>
 Br (b.2<s.2.1)
 (∃m,(s.1.ptr=some m/\0<=b.2/\b.2<(s.1.len:Int))/\
 ∃o:ee,aj w (m.add (b.2.toNat*8)) 0 o/\
 aQ xl (qK 134 true (.tuple #[])) w fun d B=>
 ac xl (qf 134 d o) B fun _ h8=>
 ∃n,cellOf h8 d=some (vX xh n)/\
 Br (n==c) (∃q,cellOf h8 (d.add 1)=some (vX xh q)/\
 Br (q==e)
 (∃p,cellOf h8 (d.add 2)=some (vX xh p)/\
 ∃l:Sl,cellOf h8 (d.add 7)=some (l:Value)/\
 av xl (qq 125 1 #[(0,(xg #[p,l]))]) aK h8 fun x D=>
 av xl (qt #[125,125] 125 #[b.1,x]) aK D fun k y=>
 v ((⟨k.ptr,k.len,k.cap⟩:Sl),qc xh (b.2+1)) y)
 (v ((⟨b.1.ptr,b.1.len,b.1.cap⟩:Sl),qc xh (b.2+1)) h8)) (v ((⟨b.1.ptr,b.1.len,b.1.cap⟩:Sl),qc xh (b.2+1)) h8))
 (H ((⟨b.1.ptr,b.1.len,b.1.cap⟩:Sl),qc xh (i.2+1)) w)) ((⟨i.1.ptr,i.1.len,i.1.cap⟩:Sl),s.2.2) G)
 (fun I=>
 ∃g:cV,aj r j 0 g/\
 iq C f.1 (f.2.1.toList++[(vX xh A)]++f.2.2.toList) mL r fun E h3=>
 (ar.ok [(j,g.1),(j.add 1,g.2.1),(j.add 2,g.2.2.1),(j.add 3,g.2.2.2.1),(j.add 4,g.2.2.2.2.1),(j.add 5,g.2.2.2.2.2.1),(j.add 6,g.2.2.2.2.2.2.1),(j.add 7,g.2.2.2.2.2.2.2)] h3)/\
 ag xl 80 #[E,g] aK h3 fun t z=>
 (ar.ok [] z)/\
 I ((⟨t.ptr,t.len,t.cap⟩:Sl),(t.len:Int),(0:Int)) z))
 (R i.1 r)) ((⟨none,0,0⟩:Sl),(0:Int)) F
theorem Mi(d:FuncId×Array Value×Array Value)(c:Sl)(e:cV)(a:Int)(b:Int)(f: @Fk R h d c e a b):ae xl 75 #[(.func (.func d.1) d.2.1 d.2.2),c,e,a,b] h R:=au af Tryz.func75 (al.tn (al.tn (.two (al.tn (.inn (.loop [(11,cu),(18,ba)] [(11,12),(13,14),(15,16),(18,52)] (al.tn (al.tn (.two (.inn (al.tn (.two (.join [(26,cu),(27,ba),(28,ba)] [(22,29)] .n) (.inn (.loop [(11,cu),(28,ba)] [(11,12),(15,16),(28,51)] .n))))) .n)))))) .n))) f
abbrev Mj:FuncId:=76
def CU(G:bH)(b:Int)(n:Sl):Prop:=
 aQ xl (qL 24 G) h fun f K=>
 bf (σ:=Unit) (fun _ M=>
 bf (σ:=Unit) (fun _ I=>
 ∃q:bH,aj I f 0 q/\
 ag xl 130 #[q,(vX xj b),n] (.many [cu,ba]) I fun j h8=>
 Br (j.2 !=0)
 (R (.tuple #[(vY none 0 0),j.2]) h8)
 (∃t,cellOf h8 f=some (vX xh t)/\
 aM (σ:=Sl×Int) (fun d P D=>
 Br (d.2<t)
 (∃o,cellOf D (f.add 2)=some (vX xh o)/\
 av xl (qD 38 o o) aK D fun c w=>
 ∃r:bH,aj w f 0 r/\
 ag xl 131 #[r,(vX xj b),d.2] aK w fun p F=>
 aM (σ:=Int) (fun e T g=>
 Br (e<(p.len:Int))
 (∃x,(p.ptr=some x/\0<=e/\e<(p.len:Int))/\
 ∃l,cellOf g (x.add (e.toNat*1))=some (vX xh l)/\
 ∃v,(j.1.ptr=some v/\0<=l/\l<(j.1.len:Int))/\
 ∃k:Sl,cellOf g (v.add (l.toNat*1))=some (k:Value)/\
 aM (σ:=Int) (fun a N i=>
 Br (a<(k.len:Int))
 (∃A,(k.ptr=some A/\0<=a/\a<(k.len:Int))/\
 ∃y,cellOf i (A.add (a.toNat*1))=some (vX xi y)/\
 ∃z,(c.ptr=some z/\0<=a/\a<(c.len:Int))/\
 ∃u,cellOf i (z.add (a.toNat*1))=some (vX xi u)/\
 ∃a28,(c.ptr=some a28/\0<=a/\a<(c.len:Int))/\
 ac xl (qf 5 (a28.add (a.toNat*1)) (vX xi (qc xi ((qA (qk xi) u^^^(qA (qk xi) y)).toNat:Nat)))) i fun _ H=>
 N (qc xh (a+1)) H)
 (T (qc xh (e+1)) i)) (0:Int) g)
 (av xl (qt #[38,38] 38 #[d.1,c]) aK g fun m B=>
 P ((⟨m.ptr,m.len,m.cap⟩:Sl),qc xh (d.2+1)) B)) (0:Int) F)
 (R (.tuple #[d.1,(vX xh (0:Int))]) D)) ((⟨none,0,0⟩:Sl),(0:Int)) h8))
 (fun U=>
 ∃s:bH,aj M f 0 s/\
 ag xl 129 #[n] aK M fun V L=>
 (ar.ok [(f,s.1),(f.add 1,s.2.1),(f.add 2,s.2.2)] L)/\
 ag xl 128 #[s,(vX xj b),V] bX L fun O E=>
 (ar.ok [] E)/\
 Br (!O)
 (R (.tuple #[(vY none 0 0),(vX xh (9:Int))]) E)
 (U () E)))
 (fun S=>
 ∃x2:bH,aj K f 0 x2/\
 ag xl 39 #[x2] bX K fun W J=>
 Br (!W) (R (.tuple #[(vY none 0 0),(vX xh (1:Int))]) J) (ag xl 125 #[n,(.func (.func 126) #[] #[f])] bX J fun Q h3=>
 Br Q
 (R (.tuple #[(vY none 0 0),(vX xh (1:Int))]) h3)
 (S () h3)))
theorem Kz(c:bH)(a:Int)(b:Sl)(d: @CU R h c a b):ae xl 76 #[c,(vX xj a),b] h R:=au af Tryz.func76 (al.tn (.two (.join [] [(6,8),(17,25)] .n) (.two (.join [] [(6,8),(25,31)] .n) (al.tn (al.tn (al.tn (.two (al.tn (.inn (.loop [(10,cu),(43,ba)] [(10,13),(14,17),(43,81)] (al.tn (al.tn (.two (.inn (al.tn (al.tn (.two (al.tn (.inn (.loop [(54,ba)] [(14,17),(54,77)] (al.tn (al.tn (.two (.inn (al.tn (al.tn (.inn (.loop [(63,ba)] [(15,17),(63,76)] .n))))) .n)))))) .n)))) .n)))))) .n))))))) d
abbrev Tz:FuncId:=77
def JH(b:Int)(c:Int)(a:Int):Prop:=
 R (vX xj (qc xj ((qc xj ((qc xj (128*(qc xj b)))+(qc xj (16*(qc xj c)))))+(qc xj a)))) h
theorem QZ(b:Int)(c:Int)(a:Int)(d: @JH R h b c a):ae xl 77 #[b,c,a] h R:=au af Tryz.func77 .n d
abbrev Ra:FuncId:=78
def Hk(l:bH)(a:Sl)(b:Int):Prop:=
 aQ xl (qL 24 l) h fun m o=>
 bf (σ:=Unit) (fun _ u=>
 aM (σ:=Sl×Int) (fun d v g=>
 Br (d.2<(a.len:Int))
 (∃n,(a.ptr=some n/\0<=d.2/\d.2<(a.len:Int))/\
 ∃j:Sl,cellOf g (n.add (d.2.toNat*1))=some (j:Value)/\
 ∃e:bH,aj g m 0 e/\
 ag xl 81 #[e] bt g fun k p=>
 Br ((j.len:Int) !=k)
 (R (.tuple #[(vY none 0 0),false]) p)
 (av xl (qt #[38,38] 38 #[d.1,j]) aK p fun c r=>
 v ((⟨c.ptr,c.len,c.cap⟩:Sl),qc xh (d.2+1)) r))
 (av xl (wE 38 d.1 none (some b) (some b)) aK g fun i h8=>
 R (.tuple #[i,true]) h8)) ((⟨none,0,0⟩:Sl),(0:Int)) u)
 (fun t=>
 ∃x2:bH,aj o m 0 x2/\
 ag xl 39 #[x2] bX o fun w f=>
 Br (!w) (R (.tuple #[(vY none 0 0),false]) f) (Br (b<0) (R (.tuple #[(vY none 0 0),false]) f) (∃q:bH,aj f m 0 q/\
 ag xl 30 #[q,b] bt f fun s h3=>
 Br ((a.len:Int) !=s)
 (R (.tuple #[(vY none 0 0),false]) h3)
 (t () h3))))
theorem OA(b:bH)(c:Sl)(a:Int)(d: @Hk R h b c a):ae xl 78 #[b,c,a] h R:=au af Tryz.func78 (al.tn (.two (.join [] [(6,8),(11,26)] .n) (al.tn (.two (al.tn (.inn (.loop [(8,cu),(28,ba)] [(6,9),(10,11),(28,41)] .n))) .n)))) d
abbrev AG:FuncId:=79
def od(a:Sl):Prop:=
 Br (zi a.ptr)
 (R (vY none 0 0) h)
 (av xl (qq 22 0 #[]) aK h fun b d=>
 av xl (qt #[22,22] 22 #[b,a]) aK d fun e c=>
 R e c)
theorem xQ(a:Sl)(b: @od R h a):ae xl 79 #[a] h R:=au af Tryz.func79 .n b
abbrev Bo:FuncId:=80
def CV(m:Option Addr)(j:cV):Prop:=
 aQ xl (qL 47 j) h fun D x=>
 ag xl 57 #[m] aK x fun q w=>
 aM (σ:=Sl×Int) (fun a A h3=>
 Br ((qc xh (a.2+1))>=(q.len:Int))
 (ag xl 134 #[a.1,(.func (.func 135) #[] #[])] iC h3 fun _ B=>
 ag xl 136 #[a.1,(.func (.func 137) #[] #[])] aK B fun v y=>
 R v y)
 (bf (σ:=Sl) (fun b g=>
 A ((⟨b.ptr,b.len,b.cap⟩:Sl),qc xh (a.2+1)) g)
 (fun p=>
 ∃r,(q.ptr=some r/\0<=(qc xh (a.2+1))/\(qc xh (a.2+1))<(q.len:Int))/\
 ∃t:Sl,cellOf h3 (r.add ((qc xh (a.2+1)).toNat*1))=some (t:Value)/\
 ag xl 132 #[t] (.many [(.agg [(.int .i64),(.int .i64),(.int .i64),(.int .i64),(.int .i64),(.int .i64),(.int .u32),.slc]),lI]) h3 fun s z=>
 aQ xl (qK 134 true (.tuple #[])) z fun a9 u=>
 ac xl (qf 134 a9 s.1) u fun _ h8=>
 Br s.2 (∃d:cV,aj h8 D 0 d/\
 ∃f:ee,aj h8 a9 0 f/\
 ag xl 133 #[d,f] bX h8 fun k i=>
 Br k
 (∃e:ee,aj i a9 0 e/\
 av xl (qq 131 1 #[(0,e)]) aK i fun n l=>
 av xl (qt #[131,131] 131 #[a.1,n]) aK l fun c o=>
 p (⟨c.ptr,c.len,c.cap⟩:Sl) o)
 (p (⟨a.1.ptr,a.1.len,a.1.cap⟩:Sl) i)) (p (⟨a.1.ptr,a.1.len,a.1.cap⟩:Sl) h8)))) ((⟨none,0,0⟩:Sl),(-1:Int)) w
theorem KA(b:Option Addr)(a:cV)(c: @CV R h b a):ae xl 80 #[b,a] h R:=au af Tryz.func80 (al.tn (.scope 0 [(6,cu),(7,ba)] [(4,5),(6,10),(12,40)] [.n,.n,.n] [(al.tn (al.tn (.two (.join [(6,cu)] [(6,7),(8,10),(18,36)] .n) .n)))] [(1,[.n])])) c
abbrev Rb:FuncId:=81
def xR(a:bH):Prop:=
 aQ xl (qL 24 a) h fun c b=>
 ∃x2,cellOf b c=some (vX xh x2)/\
 ∃x3,cellOf b (c.add 2)=some (vX xh x3)/\
 R (qc xh (x2*x3)) b
theorem CW(a:bH)(b: @xR R h a):ae xl 81 #[a] h R:=au af Tryz.func81 .n b
abbrev FX:FuncId:=82
def tu(a:Option Addr):Prop:=
 Br (!(zi a)) (∃f,(a=some f)/\
 ∃x2:Option Addr,cellOf h (f.add 8)=some (.pointer x2)/\
 ag xl 86 #[x2] bX h fun i b=>
 (ar.ok [] b)/\
 Br (!i) ((ar.ok [] b)/\
 R true b) (∃a4,(a=some a4)/\
 ∃e:Option Addr,cellOf b (a4.add 8)=some (.pointer e)/\
 ∃c,(a=some c)/\
 ∃d,cellOf b (c.add 9)=some (vX xh d)/\
 ag xl 40 #[e] bt b fun j g=>
 (ar.ok [(c.add 9,d)] g)/\
 R (xf (j !=d)) g)) ((ar.ok [] h)/\
 (ar.ok [] h)/\
 R false h)
theorem Ew(a:Option Addr)(b: @tu R h a):ae xl 82 #[a] h R:=au af Tryz.func82 .n b
abbrev Ji:FuncId:=86
def xS(a:Option Addr):Prop:=
 Br (!(zi a)) (∃b,(a=some b)/\
 ∃x2:Bool,cellOf h b=some (xf x2)/\
 R (xf (!x2)) h) (R false h)
theorem Hl(a:Option Addr)(b: @xS R h a):ae xl 86 #[a] h R:=au af Tryz.func86 .n b
abbrev TA:FuncId:=87
def JI(U:cV):Prop:=
 aQ xl (qL 47 U) h fun e h1=>
 ∃x2:cV,aj h1 e 0 x2/\
 ag xl 63 #[x2] bX h1 fun r3 S=>
 Br (!r3)
 (R (vY none 0 0) S)
 (bf (σ:=Sl) (fun s8 w=>
 ∃x9,cellOf w (e.add 2)=some (vX xh x9)/\
 ∃x,cellOf w ((e.add 2).add 1)=some (vX xh x)/\
 ∃O,cellOf w ((e.add 2).add 2)=some (vX xh O)/\
 ∃z,cellOf w (e.add 5)=some (vX xh z)/\
 ∃F:Sl,cellOf w (e.add 6)=some (F:Value)/\
 av xl (qq 38 5 #[(0,(vX xi (qc xi x9))),(1,(vX xi (qc xi x))),(2,(vX xi (qc xi O))),(3,(vX xi (qc xi z))),(4,(vX xi (qc xi (F.len:Int))))]) aK w fun V h6=>
 av xl (qt #[38,38] 38 #[s8,V]) aK h6 fun m h7=>
 ∃g:Sl,cellOf h7 (e.add 6)=some (g:Value)/\
 aM (σ:=Sl×Int) (fun c K2 h8=>
 Br (c.2<(g.len:Int))
 (∃P,(g.ptr=some P/\0<=c.2/\c.2<(g.len:Int))/\
 ∃Q,cellOf h8 (P.add (c.2.toNat*1))=some (vX xh Q)/\
 av xl (qq 38 1 #[(0,(vX xi (qc xi Q)))]) aK h8 fun T h9=>
 av xl (qt #[38,38] 38 #[c.1,T]) aK h9 fun u X=>
 K2 ((⟨u.ptr,u.len,u.cap⟩:Sl),qc xh (c.2+1)) X)
 (∃H:Sl,cellOf h8 (e.add 7)=some (H:Value)/\
 av xl (qq 38 1 #[(0,(vX xi (qc xi (H.len:Int))))]) aK h8 fun W ap=>
 av xl (qt #[38,38] 38 #[c.1,W]) aK ap fun r K=>
 ∃k:Sl,cellOf K (e.add 7)=some (k:Value)/\
 aM (σ:=Sl×Int) (fun d K3 n=>
 Br (d.2<(k.len:Int))
 (∃D,(k.ptr=some D/\0<=d.2/\d.2<(k.len:Int))/\
 ∃G:jg,aj n (D.add (d.2.toNat*4)) 0 G/\
 aQ xl (qK 96 true (.tuple #[])) n fun a ab=>
 ac xl (qf 96 a G) ab fun _ l=>
 bf (σ:=Sl) (fun ax t=>
 bf (σ:=Sl) (fun q B=>
 ∃j:Sl,cellOf B (a.add 3)=some (j:Value)/\
 aM (σ:=Sl×Int) (fun b K6 s=>
 Br (b.2<(j.len:Int))
 (∃N,(j.ptr=some N/\0<=b.2/\b.2<(j.len:Int))/\
 ∃M,cellOf s (N.add (b.2.toNat*1))=some (vX xh M)/\
 av xl (qq 38 1 #[(0,(vX xi (qc xi M)))]) aK s fun v45 ao=>
 av xl (qt #[38,38] 38 #[b.1,v45]) aK ao fun v46 ad=>
 K6 ((⟨v46.ptr,v46.len,v46.cap⟩:Sl),qc xh (b.2+1)) ad)
 (K3 ((⟨b.1.ptr,b.1.len,b.1.cap⟩:Sl),qc xh (d.2+1)) s)) ((⟨q.ptr,q.len,q.cap⟩:Sl),(0:Int)) B)
 (fun K5=>
 ∃I,cellOf t (a.add 1)=some (vX xh I)/\
 ∃v,cellOf t (a.add 2)=some (vX xh v)/\
 ag xl 141 #[ax,I,(vX xh (3:Int))] aK t fun ah A=>
 (ar.ok [(a.add 2,v)] A)/\
 ag xl 141 #[ah,v,(vX xh (2:Int))] aK A fun p y=>
 (ar.ok [] y)/\
 K5 (⟨p.ptr,p.len,p.cap⟩:Sl) y))
 (fun K4=>
 ∃f:ByteArray,cellOf l a=some (xd f)/\
 ∃i:ByteArray,cellOf l a=some (xd i)/\
 av xl (qq 38 1 #[(0,(vX xi (qc xi (f.size:Int))))]) aK l fun am E=>
 (ar.ok [(a,i),(a,f)] E)/\
 av xl (qt #[38,38] 38 #[d.1,am]) aK E fun Z L=>
 (ar.ok [(a,i),(a,f)] L)/\
 av xl (qt #[38,9] 38 #[Z,i]) aK L fun o J=>
 (ar.ok [(a,f)] J)/\
 K4 (⟨o.ptr,o.len,o.cap⟩:Sl) J))
 (R d.1 n)) ((⟨r.ptr,r.len,r.cap⟩:Sl),(0:Int)) K)) ((⟨m.ptr,m.len,m.cap⟩:Sl),(0:Int)) h7)
 (fun K1=>
 ∃x4,cellOf S e=some (vX xh x4)/\
 ∃Y,cellOf S (e.add 1)=some (vX xh Y)/\
 ag xl 141 #[(vY none 0 0),x4,(vX xh (4:Int))] aK S fun r6 h3=>
 (ar.ok [(e.add 1,Y)] h3)/\
 ag xl 141 #[r6,Y,(vX xh (4:Int))] aK h3 fun r7 h4=>
 (ar.ok [] h4)/\
 K1 (⟨r7.ptr,r7.len,r7.cap⟩:Sl) h4))
theorem Rc(a:cV)(b: @JI R h a):ae xl 87 #[a] h R:=au af Tryz.func87 (al.tn (al.tn (.two (.join [(3,cu)] [(3,4),(13,19)] .n) (al.tn (.two (al.tn (.inn (.loop [(3,cu),(44,ba)] [(3,4),(5,6),(44,54)] .n))) (al.tn (.two (al.tn (.inn (.loop [(3,cu),(64,ba)] [(3,4),(7,8),(9,10),(64,99)] (al.tn (al.tn (.two (.inn (al.tn (.two (.join [(3,cu)] [(3,4),(68,78)] .n) (.two (.join [(3,cu)] [(3,4),(78,85)] .n) (al.tn (.inn (.loop [(3,cu),(88,ba)] [(3,4),(9,10),(88,98)] .n))))))) .n)))))) .n))))))) b
abbrev VI:FuncId:=88
def Mk(a:Int)(b:Int)(c:Int)(d:Sl):Prop:=
 (0<=(24:Int))/\
 (0<=(16:Int))/\
 (0<=(8:Int))/\
 av xl (qq 38 7 #[(0,(vX xi (qc xi (qT a (2^min (24:Int).toNat (qk xh)))))),(1,(vX xi (qc xi (qT a (2^min (16:Int).toNat (qk xh)))))),(2,(vX xi (qc xi (qT a (2^min (8:Int).toNat (qk xh)))))),(3,(vX xi (qc xi a))),(4,(vX xi (qc xi b))),(5,(vX xi (qc xi c))),(6,(vX xi (qc xi (d.len:Int))))]) aK h fun e i=>
 av xl (qt #[38,38] 38 #[e,d]) aK i fun j g=>
 ag xl 142 #[(vX xh (2:Int)),j] aK g fun f h3=>
 R f h3
theorem TB(c:Int)(a:Int)(b:Int)(d:Sl)(e: @Mk R h c a b d):ae xl 88 #[c,a,b,d] h R:=au af Tryz.func88 .n e
abbrev oU:FuncId:=89
def ly(a:Option Addr)(j:Sl):Prop:=
 bf (σ:=Unit) (fun _ h3=>
 bf (σ:=Unit) (fun _ h8=>
 ∃i,(a=some i)/\
 ∃l,cellOf h8 (i.add 3)=some (vX xh l)/\
 ∃f,(a=some f)/\
 ac xl (qf 3 (f.add 3) (qc xh (l+1))) h8 fun _ w=>
 ∃a22,(a=some a22)/\
 ∃k:Option Addr,cellOf w a22=some (.pointer k)/\
 ag xl 34 #[k] bX w fun s g=>
 Br (!s)
 (R (vX xh (14:Int)) g)
 (ag xl 111 #[a] bt g fun m p=>
 R m p))
 (fun H=>
 ∃c,(a=some c)/\
 ∃b:Sl,cellOf h3 (c.add 2)=some (b:Value)/\
 ag xl 91 #[j] aK h3 fun o D=>
 (ar.ok [(c.add 2,b)] D)/\
 av xl (qq 59 1 #[(0,o)]) aK D fun q z=>
 (ar.ok [(c.add 2,b)] z)/\
 av xl (qt #[59,59] 59 #[b,q]) aK z fun n A=>
 (ar.ok [] A)/\
 ∃e,(a=some e)/\
 ac xl (qf 59 (e.add 2) n) A fun _ u=>
 (ar.ok [] u)/\
 H () u))
 (fun I=>
 Br ((j.len:Int) !=64)
 (R (vX xh (1:Int)) h)
 (bf (σ:=Bool) (fun J d=>
 Br J
 (R (vX xh (5:Int)) d)
 (∃a4,(a=some a4)/\
 ∃B:Sl,cellOf d (a4.add 2)=some (B:Value)/\
 ∃t,(a=some t)/\
 ∃F,cellOf d (t.add 1)=some (vX xh F)/\
 Br ((B.len:Int)>=F)
 (R (vX xh (7:Int)) d)
 (∃v,(a=some v)/\
 ∃y:Option Addr,cellOf d v=some (.pointer y)/\
 ag xl 86 #[y] bX d fun r x=>
 Br (!r)
 (R (vX xh (14:Int)) x)
 (I () x))))
 (fun E=>
 Br (zi a) (E true h) (∃G,(a=some G)/\
 ∃x2:Bool,cellOf h (G.add 6)=some (xf x2)/\
 E x2 h))))
theorem oe(b:Option Addr)(a:Sl)(c: @ly R h b a):ae xl 89 #[b,a] h R:=au af Tryz.func89 (al.tn (.two (.join [] [(4,36)] (.inn (al.tn (al.tn (.two (.join [(9,lI)] [(9,18)] .n) .n))))) (.two (.join [] [(36,47)] .n) .n))) c
abbrev VJ:FuncId:=90
def Ml(b:FuncId×Array Value×Array Value)(a:Sl):Prop:=
 ag xl 79 #[a] aK h fun j l=>
 ag xl 143 #[j] iC l fun _ m=>
 ag xl 144 #[j] aK m fun d h3=>
 aM (σ:=Int) (fun c k e=>
 Br (c<(d.len:Int))
 (∃a5,(d.ptr=some a5/\0<=c/\c<(d.len:Int))/\
 ∃g,cellOf e (a5.add (c.toNat*1))=some (vX xh g)/\
 iq C b.1 (b.2.1.toList++[(vX xh g)]++b.2.2.toList) mL e fun o n=>
 ag xl 145 #[o] bt n fun f i=>
 Br (f !=0)
 (R f i)
 (k (qc xh (c+1)) i))
 (R (vX xh (0:Int)) e)) (0:Int) h3
theorem TC(b:FuncId×Array Value×Array Value)(a:Sl)(c: @Ml R h b a):ae xl 90 #[(.func (.func b.1) b.2.1 b.2.2),a] h R:=au af Tryz.func90 (al.tn (al.tn (al.tn (.two (al.tn (.inn (.loop [(15,ba)] [(4,5),(6,8),(15,27)] .n))) .n)))) c
abbrev sj:FuncId:=91
def Fl(a:Sl):Prop:=
 Br (zi a.ptr)
 (R (vY none 0 0) h)
 (av xl (qq 38 0 #[]) aK h fun b d=>
 av xl (qt #[38,38] 38 #[b,a]) aK d fun e c=>
 R e c)
theorem Mm(a:Sl)(b: @Fl R h a):ae xl 91 #[a] h R:=au af Tryz.func91 .n b
abbrev TD:FuncId:=92
def JJ(e:ByteArray):Prop:=
 av xl (convert 9 38 e) aK h fun f g=>
 aM (σ:=Int) (fun b d a=>
 Br (b<(f.len:Int))
 (∃a3,(f.ptr=some a3/\0<=b/\b<(f.len:Int))/\
 ∃c,cellOf a (a3.add (b.toNat*1))=some (vX xi c)/\
 Br (c<97) (Br (c<48) (Br (c !=45)
 (R false a)
 (d (qc xh (b+1)) a)) (Br (c>57) (Br (c !=45)
 (R false a)
 (d (qc xh (b+1)) a)) (d (qc xh (b+1)) a))) (Br (c>122) (Br (c<48) (Br (c !=45)
 (R false a)
 (d (qc xh (b+1)) a)) (Br (c>57) (Br (c !=45)
 (R false a)
 (d (qc xh (b+1)) a)) (d (qc xh (b+1)) a))) (d (qc xh (b+1)) a)))
 (Br ((e.size:Int)>=1) (R (decide ((e.size:Int)<=12)) a) (R false a))) (0:Int) g
theorem Re(a:ByteArray)(b: @JJ R h a):ae xl 92 #[a] h R:=au af Tryz.func92 (al.tn (.two (al.tn (.inn (.loop [(8,ba)] [(2,3),(4,5),(8,31)] .n))) .n)) b
abbrev TE:FuncId:=93
def JK(e:bH)(a:Int)(b:Int):Prop:=
 aQ xl (qL 24 e) h fun c l=>
 aM (σ:=Int) (fun d i g=>
 Br (d<16)
 (∃x3:bH,aj g c 0 x3/\
 ag xl 77 #[a,b,d] (.one (.sc (.int .u32))) g fun j h3=>
 (ar.ok [(c,x3.1),(c.add 1,x3.2.1),(c.add 2,x3.2.2)] h3)/\
 ag xl 146 #[x3,(vX xj j)] bX h3 fun k f=>
 (ar.ok [] f)/\
 Br k
 (R (.tuple #[d,true]) f)
 (i (qc xh (d+1)) f))
 (R (.tuple #[(vX xh (0:Int)),false]) g)) (0:Int) l
theorem Rf(c:bH)(a:Int)(b:Int)(d: @JK R h c a b):ae xl 93 #[c,a,b] h R:=au af Tryz.func93 (al.tn (.two (al.tn (.inn (.loop [(9,ba)] [(6,20)] .n))) .n)) d
abbrev OB:FuncId:=94
def Fm(f:bH)(a:Sl):Prop:=
 aQ xl (qL 24 f) h fun g k=>
 ∃x2:bH,aj k g 0 x2/\
 ag xl 30 #[x2,(vX xh (a.len:Int))] bt k fun u q=>
 aM (σ:=Sl×Int) (fun b s h3=>
 Br (b.2<u)
 (∃m:bH,aj h3 g 0 m/\
 ag xl 81 #[m] bt h3 fun i t=>
 av xl (qD 38 i i) aK t fun j l=>
 ∃n:bH,aj l g 0 n/\
 ag xl 81 #[n] bt l fun d r=>
 (0<=(qc xh (b.2*d))/\(qc xh (b.2*d))<=(a.len:Int))/\
 av xl (wX #[38,38] 3 #[j,(.slice (if a.cap=(qc xh (b.2*d)).toNat then a.ptr else a.ptr.map (·.add ((qc xh (b.2*d)).toNat*1))) (a.len-(qc xh (b.2*d)).toNat) (a.cap-(qc xh (b.2*d)).toNat))]) bt r fun _ o=>
 av xl (qq 59 1 #[(0,j)]) aK o fun e h8=>
 av xl (qt #[59,59] 59 #[b.1,e]) aK h8 fun c p=>
 s ((⟨c.ptr,c.len,c.cap⟩:Sl),qc xh (b.2+1)) p)
 (R b.1 h3)) ((⟨none,0,0⟩:Sl),(0:Int)) q
theorem Mn(a:bH)(b:Sl)(c: @Fm R h a b):ae xl 94 #[a,b] h R:=au af Tryz.func94 (al.tn (al.tn (.two (al.tn (.inn (.loop [(5,cu),(12,ba)] [(5,8),(12,31)] .n))) .n))) c
abbrev Fo:FuncId:=95
def Hm(J:bH)(d:Int)(a:Sl):Prop:=
 aQ xl (qL 24 J) h fun c M=>
 bf (σ:=Unit) (fun _ h3=>
 ∃P:bH,aj h3 c 0 P/\
 ag xl 146 #[P,(vX xj d)] bX h3 fun T I=>
 Br (!T)
 (R (.tuple #[(vZ none),(vX xh (8:Int))]) I)
 (∃N,cellOf I (c.add 1)=some (vX xh N)/\
 aM (σ:=Sl×Int) (fun g Y y=>
 Br (g.2<N)
 (∃n,cellOf y (c.add 2)=some (vX xh n)/\
 av xl (qD 38 n n) aK y fun F U=>
 av xl (qq 59 1 #[(0,F)]) aK U fun D S=>
 av xl (qt #[59,59] 59 #[g.1,D]) aK S fun o h8=>
 Y ((⟨o.ptr,o.len,o.cap⟩:Sl),qc xh (g.2+1)) h8)
 (∃v,cellOf y c=some (vX xh v)/\
 aM (σ:=Sl×Int) (fun b V q=>
 Br (b.2<v)
 (∃f,cellOf q (c.add 2)=some (vX xh f)/\
 ∃l,cellOf q (c.add 2)=some (vX xh l)/\
 (0<=(qc xh (b.2*f))/\(qc xh (b.2*f))<=(qc xh ((qc xh (b.2+1))*l))/\(qc xh ((qc xh (b.2+1))*l))<=(a.cap:Int))/\
 av xl (qq 59 1 #[(0,(.slice (if a.cap=(qc xh (b.2*f)).toNat then a.ptr else a.ptr.map (·.add ((qc xh (b.2*f)).toNat*1))) ((qc xh ((qc xh (b.2+1))*l)).toNat-(qc xh (b.2*f)).toNat) (a.cap-(qc xh (b.2*f)).toNat)))]) aK q fun A G=>
 av xl (qt #[59,59] 59 #[b.1,A]) aK G fun m H=>
 V ((⟨m.ptr,m.len,m.cap⟩:Sl),qc xh (b.2+1)) H)
 (bf (σ:=Sl×Int) (fun w p=>
 Br (w.2 !=0)
 (R (.tuple #[(vZ none),(vX xh (8:Int))]) p)
 (∃k:bH,aj p c 0 k/\
 aQ xl (qL 211 (xg #[k.1,k.2.1,k.2.2,(vX xj d),w.1])) p fun z B=>
 R (.tuple #[z,(vX xh (0:Int))]) B))
 (fun X=>
 ∃e:bH,aj q c 0 e/\
 ∃i:bH,aj q c 0 i/\
 ag xl 148 #[] mL q fun L s=>
 (ar.ok [(c,i.1),(c.add 1,i.2.1),(c.add 2,i.2.2),(c,e.1),(c.add 1,e.2.1),(c.add 2,e.2.2)] s)/\
 ag xl 150 #[i] aK s fun K u=>
 (ar.ok [(c,e.1),(c.add 1,e.2.1),(c.add 2,e.2.2)] u)/\
 ag xl 149 #[e,(vX xj d),K] aK u fun E x=>
 (ar.ok [] x)/\
 ag xl 147 #[L,E,b.1] (.many [cu,ba]) x fun j r=>
 (ar.ok [] r)/\
 X ((⟨j.1.ptr,j.1.len,j.1.cap⟩:Sl),j.2) r))) ((⟨g.1.ptr,g.1.len,g.1.cap⟩:Sl),(0:Int)) y)) ((⟨none,0,0⟩:Sl),(0:Int)) I))
 (fun W=>
 ∃x2:bH,aj M c 0 x2/\
 ag xl 39 #[x2] bX M fun Z t=>
 Br (!Z) (R (.tuple #[(vZ none),(vX xh (1:Int))]) t) (∃Q,cellOf t c=some (vX xh Q)/\
 ∃O,cellOf t (c.add 2)=some (vX xh O)/\
 Br ((a.len:Int) !=(qc xh (Q*O)))
 (R (.tuple #[(vZ none),(vX xh (1:Int))]) t)
 (W () t)))
theorem OC(c:bH)(b:Int)(a:Sl)(d: @Hm R h c b a):ae xl 95 #[c,(vX xj b),a] h R:=au af Tryz.func95 (al.tn (.two (.join [] [(6,8),(12,25)] .n) (al.tn (al.tn (.two (al.tn (.inn (.loop [(8,cu),(31,ba)] [(8,9),(31,40)] .n))) (.two (al.tn (.inn (.loop [(8,cu),(42,ba)] [(8,10),(42,60)] .n))) (.two (.join [(10,cu),(11,ba)] [(10,12),(60,71)] .n) .n))))))) d
abbrev OD:FuncId:=96
def Fp(a:Int)(b:Int)(c:Sl):Prop:=
 bf (σ:=Unit) (fun _ I=>
 ((64:Int)≠0)/\
 ag xl 151 #[(zX (qc xh ((qc xh (8*a))+b)) 64)] (.one (.sc (.cpx .f64))) I fun E H=>
 aQ xl (qK 215 true (.tuple #[])) H fun a3 h3=>
 aM (σ:=Sl×Int) (fun e B l=>
 Br (e.2<(c.len:Int))
 (∃a5,(c.ptr=some a5/\0<=e.2/\e.2<(c.len:Int))/\
 ∃f,cellOf l (a5.add (e.2.toNat*1))=some (vX xh f)/\
 bf (σ:=Bool) (fun L z=>
 Br L
 ((0<=f/\f<((64:Nat):Int))/\
 ac xl (qf 4 (a3.add (f.toNat*1)) true) z fun _ J=>
 ag xl 151 #[f] (.one (.sc (.cpx .f64))) J fun A F=>
 ag xl 152 #[(.complex .f64 A.1 A.2),(.complex .f64 E.1 E.2)] (.one (.sc (.flt .f64))) F fun x h8=>
 av xl (qq 214 1 #[(0,(xg #[f,(.float .f64 x)]))]) aK h8 fun u G=>
 av xl (qt #[214,214] 214 #[e.1,u]) aK G fun j v=>
 B ((⟨j.ptr,j.len,j.cap⟩:Sl),qc xh (e.2+1)) v)
 (B ((⟨e.1.ptr,e.1.len,e.1.cap⟩:Sl),qc xh (e.2+1)) z))
 (fun s=>
 Br (f>=0) (Br (f<64) ((0<=f/\f<((64:Nat):Int))/\
 ∃D:Bool,cellOf l (a3.add (f.toNat*1))=some (xf D)/\
 s (!D) l) (s false l)) (s false l)))
 (ag xl 153 #[e.1,(.func (.func 154) #[] #[])] iC l fun _ w=>
 aM (σ:=Sl×Int) (fun d M i=>
 Br (d.2<(e.1.len:Int))
 (∃o,(e.1.ptr=some o/\0<=d.2/\d.2<(e.1.len:Int))/\
 ∃g:Int×Nat,aj i (o.add (d.2.toNat*2)) 0 [g.1,(.float .f64 g.2)]/\
 aQ xl (qK 219 true (.tuple #[])) i fun m t=>
 ac xl (qf 219 m (xg #[g.1,(.float .f64 g.2)])) t fun _ p=>
 ∃n,cellOf p m=some (vX xh n)/\
 av xl (qq 22 1 #[(0,n)]) aK p fun r q=>
 av xl (qt #[22,22] 22 #[d.1,r]) aK q fun k y=>
 M ((⟨k.ptr,k.len,k.cap⟩:Sl),qc xh (d.2+1)) y)
 (R d.1 i)) ((⟨none,0,0⟩:Sl),(0:Int)) w)) ((⟨none,0,0⟩:Sl),(0:Int)) h3)
 (fun K=>
 Br (a<0) (R (vY none 0 0) h) (Br (a>16777215) (R (vY none 0 0) h) (Br (b<0) (R (vY none 0 0) h) (Br (b>=8)
 (R (vY none 0 0) h)
 (K () h)))))
theorem Mo(a:Int)(b:Int)(c:Sl)(d: @Fp R h a b c):ae xl 96 #[a,b,c] h R:=au af Tryz.func96 (al.tn (.two (.join [] [(6,7),(15,29)] .n) (al.tn (al.tn (al.tn (.two (al.tn (.inn (.loop [(8,cu),(37,ba)] [(8,9),(11,12),(37,65)] (al.tn (al.tn (.two (.inn (al.tn (.two (.join [(52,lI)] [(41,53)] .n) .n))) .n)))))) (al.tn (al.tn (.two (al.tn (.inn (.loop [(12,cu),(69,ba)] [(12,13),(14,15),(69,79)] .n))) .n))))))))) d
abbrev og:FuncId:=97
def oV(d:Option Addr)(c:Int):Prop:=
 bf (σ:=Unit) (fun _ v=>
 ∃u,(d=some u)/\
 ∃x3,cellOf v (u.add 2)=some (vX xh x3)/\
 av xl (qD 38 x3 x3) aK v fun v4 r=>
 ∃a5,(d=some a5)/\
 ∃t:bH,aj r a5 0 t/\
 ∃x,(d=some x)/\
 ∃w,cellOf r (x.add 3)=some (vX xj w)/\
 ag xl 131 #[t,(vX xj w),c] aK r fun s h3=>
 (ar.ok [] h3)/\
 aM (σ:=Int) (fun b B m=>
 Br (b<(s.len:Int))
 (∃k,(s.ptr=some k/\0<=b/\b<(s.len:Int))/\
 ∃f,cellOf m (k.add (b.toNat*1))=some (vX xh f)/\
 ∃p,(d=some p)/\
 ∃g:Sl,cellOf m (p.add 4)=some (g:Value)/\
 ∃o,(g.ptr=some o/\0<=f/\f<(g.len:Int))/\
 ∃e:Sl,cellOf m (o.add (f.toNat*1))=some (e:Value)/\
 aM (σ:=Int) (fun a y q=>
 Br (a<(e.len:Int))
 (∃l,(e.ptr=some l/\0<=a/\a<(e.len:Int))/\
 ∃n,cellOf q (l.add (a.toNat*1))=some (vX xi n)/\
 ∃j,(v4.ptr=some j/\0<=a/\a<(v4.len:Int))/\
 ∃i,cellOf q (j.add (a.toNat*1))=some (vX xi i)/\
 ∃a22,(v4.ptr=some a22/\0<=a/\a<(v4.len:Int))/\
 ac xl (qf 5 (a22.add (a.toNat*1)) (vX xi (qc xi ((qA (qk xi) i^^^(qA (qk xi) n)).toNat:Nat)))) q fun _ z=>
 y (qc xh (a+1)) z)
 (B (qc xh (b+1)) q)) (0:Int) m)
 (R v4 m)) (0:Int) h3)
 (fun A=>
 Br (zi d) (R (vY none 0 0) h) (Br (c<0) (R (vY none 0 0) h) (Br (c>65535)
 (R (vY none 0 0) h)
 (A () h))))
theorem AH(b:Option Addr)(a:Int)(c: @oV R h b a):ae xl 97 #[b,a] h R:=au af Tryz.func97 (al.tn (.two (.join [] [(4,5),(10,20)] .n) (al.tn (.two (al.tn (.inn (.loop [(37,ba)] [(7,10),(37,63)] (al.tn (al.tn (.two (.inn (al.tn (al.tn (.inn (.loop [(49,ba)] [(8,10),(49,62)] .n))))) .n)))))) .n)))) c
abbrev VK:FuncId:=98
def Mp(a:Sl)(b:Int):Prop:=
 bf (σ:=Unit) (fun _ d=>
 ((a.len:Int)≠0)/\
 ∃c,(a.ptr=some c/\0<=(zX b (a.len:Int))/\(zX b (a.len:Int))<(a.len:Int))/\
 ∃x3:Int,cellOf d (c.add ((zX b (a.len:Int)).toNat*1))=some (vX xh x3)/\
 R x3 d)
 (fun e=>
 Br ((a.len:Int)==0) (R (vX xh (-1:Int)) h) (Br (b<0)
 (R (vX xh (-1:Int)) h)
 (e () h)))
theorem TF(a:Sl)(b:Int)(c: @Mp R h a b):ae xl 98 #[a,b] h R:=au af Tryz.func98 (al.tn (.two (.join [] [(4,12)] .n) .n)) c
abbrev Rg:FuncId:=99
def Hn(n:ee):Prop:=
 aQ xl (qL 134 n) h fun a s=>
 ∃x2:ee,aj s a 0 x2/\
 ag xl 158 #[x2] bX s fun B i=>
 Br (!B)
 (R (vY none 0 0) i)
 (∃v,cellOf i a=some (vX xh v)/\
 ag xl 159 #[(vY none 0 0),v,(vX xh (3:Int))] aK i fun x h3=>
 ∃r,cellOf h3 (a.add 1)=some (vX xh r)/\
 ag xl 159 #[x,r,(vX xh (1:Int))] aK h3 fun A u=>
 ∃t,cellOf u (a.add 2)=some (vX xh t)/\
 ag xl 159 #[A,t,(vX xh (2:Int))] aK u fun z g=>
 ∃b,cellOf g (a.add 3)=some (vX xh b)/\
 ∃d,cellOf g ((a.add 3).add 1)=some (vX xh d)/\
 ∃c,cellOf g ((a.add 3).add 2)=some (vX xh c)/\
 av xl (qq 38 3 #[(0,(vX xi (qc xi b))),(1,(vX xi (qc xi d))),(2,(vX xi (qc xi c)))]) aK g fun j y=>
 av xl (qt #[38,38] 38 #[z,j]) aK y fun p q=>
 ∃e,cellOf q (a.add 6)=some (vX xj e)/\
 ag xl 159 #[p,(qc xh e),(vX xh (4:Int))] aK q fun l h8=>
 ∃f:Sl,cellOf h8 (a.add 7)=some (f:Value)/\
 av xl (qt #[38,38] 38 #[l,f]) aK h8 fun o w=>
 ag xl 142 #[(vX xh (1:Int)),o] aK w fun k m=>
 R k m)
theorem OE(a:ee)(b: @Hn R h a):ae xl 99 #[a] h R:=au af Tryz.func99 .n b
abbrev lZ:FuncId:=100
def ie(b:Sl)(a:FuncId×Array Value×Array Value):Prop:=
 ag xl 161 #[(vX xk (qc xk (b.len:Int)))] bt h fun e c=>
 ag xl 160 #[b,(vX xh (0:Int)),(vX xh (b.len:Int)),e,(.func (.func a.1) a.2.1 a.2.2)] iC c fun _ d=>
 R (.tuple #[]) d
theorem lL(b:Sl)(a:FuncId×Array Value×Array Value)(c: @ie R h b a):ae xl 100 #[b,(.func (.func a.1) a.2.1 a.2.2)] h R:=au af Tryz.func100 .n c
abbrev gD:FuncId:=101
def CX(a:jg)(c:jg):Prop:=
 aQ xl (qL 96 a) h fun e i=>
 aQ xl (qL 96 c) i fun f b=>
 ∃x3:ByteArray,cellOf b e=some (xd x3)/\
 ∃d:ByteArray,cellOf b f=some (xd d)/\
 ag xl 102 #[x3,d] bt b fun g h3=>
 R g h3
theorem KB(a:jg)(b:jg)(c: @CX R h a b):ae xl 101 #[a,b] h R:=au af Tryz.func101 .n c
abbrev CY:FuncId:=102
def pU(b:ByteArray)(a:ByteArray):Prop:=
 ag xl 162 #[b] bX h fun f e=>
 ag xl 162 #[a] bX e fun d c=>
 Br f
 (Br d
 (R (vX xh (0:Int)) c)
 (R (vX xh (-1:Int)) c))
 (Br d
 (R (vX xh (1:Int)) c)
 (Br (Op.bytesLess b.toList a.toList)
 (R (vX xh (-1:Int)) c)
 (Br (!(Op.bytesLess b.toList a.toList||b.toList==a.toList))
 (R (vX xh (1:Int)) c)
 (R (vX xh (0:Int)) c))))
theorem BX(a:ByteArray)(b:ByteArray)(c: @pU R h a b):ae xl 102 #[a,b] h R:=au af Tryz.func102 .n c
abbrev jX:FuncId:=103
def gQ(b:Sl)(a:FuncId×Array Value×Array Value):Prop:=
 ag xl 163 #[b,(.func (.func a.1) a.2.1 a.2.2)] bt h fun c d=>
 R (decide (c>=0)) d
theorem jL(b:Sl)(a:FuncId×Array Value×Array Value)(c: @gQ R h b a):ae xl 103 #[b,(.func (.func a.1) a.2.1 a.2.2)] h R:=au af Tryz.func103 .n c
abbrev CZ:FuncId:=104
def pV(b:Int)(a:Addr)(d:Addr):Prop:=
 ∃f:Option Addr,cellOf h a=some (.pointer f)/\
 ∃i,(f=some i)/\
 (0<=b/\b<((64:Nat):Int))/\
 ∃x3:Option Addr,cellOf h ((i.add 10).add (b.toNat*1))=some (.pointer x3)/\
 ∃g:Option Addr,cellOf h a=some (.pointer g)/\
 ∃a5,(g=some a5)/\
 ∃c:cV,aj h a5 0 c/\
 ∃e:FuncId×Array Value×Array Value,cellOf h d=some (.func (.func e.1) e.2.1 e.2.2)/\
 iq C e.1 (e.2.1.toList++[(vX xh b)]++e.2.2.toList) bt h fun m k=>
 (ar.ok [(a5,c.1),(a5.add 1,c.2.1),(a5.add 2,c.2.2.1),(a5.add 3,c.2.2.2.1),(a5.add 4,c.2.2.2.2.1),(a5.add 5,c.2.2.2.2.2.1),(a5.add 6,c.2.2.2.2.2.2.1),(a5.add 7,c.2.2.2.2.2.2.2),(a,g),((i.add 10).add (b.toNat*1),x3),(a,f)] k)/\
 ag xl 105 #[x3,c,m] bX k fun l j=>
 (ar.ok [(a,g),(a,f)] j)/\
 R (xf (!l)) j
theorem BY(c:Int)(a:Addr)(b:Addr)(d: @pV R h c a b):ae xl 104 #[c,a,b] h R:=au af Tryz.func104 .n d
abbrev Ho:FuncId:=105
def BZ(a:Option Addr)(c:cV)(b:Int):Prop:=
 aQ xl (qL 47 c) h fun r g=>
 bf (σ:=Unit) (fun _ h3=>
 ag xl 165 #[a] bt h3 fun m o=>
 ag xl 164 #[a,m,b] bX o fun j d=>
 Br j (R true d) (∃e:cV,aj d r 0 e/\
 ag xl 108 #[a,e] aK d fun p l=>
 ag xl 164 #[a,(vX xh (p.len:Int)),b] bX l fun k i=>
 R k i))
 (fun n=>
 Br (zi a) (R false g) (ag xl 54 #[a] bX g fun q f=>
 Br q
 (R false f)
 (n () f)))
theorem Fq(c:Option Addr)(a:cV)(b:Int)(d: @BZ R h c a b):ae xl 105 #[c,a,b] h R:=au af Tryz.func105 (al.tn (.two (.join [] [(6,13)] .n) .n)) d
abbrev Hp:FuncId:=106
def Ca(a:Option Addr)(c:cV)(b:Int):Prop:=
 aQ xl (qL 47 c) h fun m g=>
 bf (σ:=Unit) (fun _ f=>
 ∃i:cV,aj f m 0 i/\
 ag xl 108 #[a,i] aK f fun e h8=>
 ag xl 59 #[a,e] bt h8 fun d o=>
 R d o)
 (fun t=>
 bf (σ:=Bool) (fun w h3=>
 Br w
 (R (vX xh (5:Int)) h3)
 (∃n:cV,aj h3 m 0 n/\
 ag xl 105 #[a,n,b] bX h3 fun q k=>
 Br (!q)
 (R (vX xh (7:Int)) k)
 (ag xl 165 #[a] bt k fun p s=>
 ag xl 164 #[a,p,b] bX s fun u j=>
 Br u
 (R (vX xh (0:Int)) j)
 (t () j))))
 (fun l=>
 Br (zi a) (l true g) (ag xl 54 #[a] bX g fun v r=>
 l v r)))
theorem Fs(c:Option Addr)(a:cV)(b:Int)(d: @Ca R h c a b):ae xl 106 #[c,a,b] h R:=au af Tryz.func106 (al.tn (.two (.join [] [(6,26)] (.inn (.two (.join [(7,lI)] [(7,14)] .n) .n))) .n)) d
abbrev TG:FuncId:=108
def JL(b:Option Addr)(d:cV):Prop:=
 aQ xl (qL 47 d) h fun a c=>
 ∃x2:cV,aj c a 0 x2/\
 ∃x3:cV,aj c a 0 x3/\
 ag xl 41 #[x2] aK c fun i f=>
 (ar.ok [(a,x3.1),(a.add 1,x3.2.1),(a.add 2,x3.2.2.1),(a.add 3,x3.2.2.2.1),(a.add 4,x3.2.2.2.2.1),(a.add 5,x3.2.2.2.2.2.1),(a.add 6,x3.2.2.2.2.2.2.1),(a.add 7,x3.2.2.2.2.2.2.2)] f)/\
 ag xl 110 #[b,x3] aK f fun g h3=>
 (ar.ok [] h3)/\
 av xl (qt #[59,59] 59 #[i,g]) aK h3 fun j e=>
 (ar.ok [] e)/\
 R j e
theorem Rh(b:Option Addr)(a:cV)(c: @JL R h b a):ae xl 108 #[b,a] h R:=au af Tryz.func108 .n c
abbrev FY:FuncId:=109
def tv(a:Option Addr):Prop:=
 Br (zi a)
 (R (vX xh (0:Int)) h)
 (∃b,(a=some b)/\
 ∃x2,cellOf h (b.add 1)=some (vX xh x2)/\
 R x2 h)
theorem Ex(a:Option Addr)(b: @tv R h a):ae xl 109 #[a] h R:=au af Tryz.func109 .n b
abbrev Ri:FuncId:=110
def Hq(d:Option Addr)(c:cV):Prop:=
 aQ xl (qL 47 c) h fun s i=>
 ∃x2:cV,aj i s 0 x2/\
 ag xl 80 #[d,x2] aK i fun f n=>
 aM (σ:=Sl×Int) (fun a q h3=>
 Br (a.2<(f.len:Int))
 (∃a5,(f.ptr=some a5/\0<=a.2/\a.2<(f.len:Int))/\
 ∃g:ee,aj h3 (a5.add (a.2.toNat*8)) 0 g/\
 aQ xl (qK 134 true (.tuple #[])) h3 fun l r=>
 ac xl (qf 134 l g) r fun _ j=>
 ∃k:ee,aj j l 0 k/\
 ag xl 99 #[k] aK j fun p o=>
 av xl (qq 59 1 #[(0,p)]) aK o fun e m=>
 av xl (qt #[59,59] 59 #[a.1,e]) aK m fun b h8=>
 q ((⟨b.ptr,b.len,b.cap⟩:Sl),qc xh (a.2+1)) h8)
 (R a.1 h3)) ((⟨none,0,0⟩:Sl),(0:Int)) n
theorem OF(b:Option Addr)(a:cV)(c: @Hq R h b a):ae xl 110 #[b,a] h R:=au af Tryz.func110 (al.tn (al.tn (.two (al.tn (.inn (.loop [(5,cu),(12,ba)] [(5,6),(7,8),(12,22)] .n))) .n))) c
abbrev FZ:FuncId:=111
def tw(a:Option Addr):Prop:=
 ∃b,(a=some b)/\
 ac xl (qf 59 (b.add 4) (vY none 0 0)) h fun _ e=>
 ∃c,(a=some c)/\
 ac xl (qf 4 (c.add 5) false) e fun _ d=>
 R (vX xh (0:Int)) d
theorem Ey(a:Option Addr)(b: @tw R h a):ae xl 111 #[a] h R:=au af Tryz.func111 .n b
abbrev nt:FuncId:=112
def iO(a:Sl):Prop:=
 Br (zi a.ptr)
 (R (vY none 0 0) h)
 (av xl (qq 45 0 #[]) aK h fun b d=>
 av xl (qt #[45,45] 45 #[b,a]) aK d fun e c=>
 R e c)
theorem mP(a:Sl)(b: @iO R h a):ae xl 112 #[a] h R:=au af Tryz.func112 .n b
abbrev OG:FuncId:=113
def Ft(c:Int)(a:Int)(b:Int):Prop:=
 Br (c>=a) (R (decide (c<=b)) h) (R false h)
theorem Mq(c:Int)(a:Int)(b:Int)(d: @Ft R h c a b):ae xl 113 #[c,a,b] h R:=au af Tryz.func113 .n d
abbrev TH:FuncId:=114
def JM(a:Sl)(c:Int):Prop:=
 aM (σ:=Int) (fun b f e=>
 Br (b<(a.len:Int))
 (∃i,(a.ptr=some i/\0<=b/\b<(a.len:Int))/\
 ∃x3,cellOf e (i.add (b.toNat*1))=some (vX xh x3)/\
 ag xl 113 #[x3,(vX xh (0:Int)),c] bX e fun j d=>
 Br (!j) (R false d) (Br (b>0) (∃a5,(a.ptr=some a5/\0<=(qc xh (b-1))/\(qc xh (b-1))<(a.len:Int))/\
 ∃g:Int,cellOf d (a5.add ((qc xh (b-1)).toNat*1))=some (vX xh g)/\
 Br (g>=x3)
 (R false d)
 (f (qc xh (b+1)) d)) (f (qc xh (b+1)) d)))
 (R true e)) (0:Int) h
theorem Rj(b:Sl)(a:Int)(c: @JM R h b a):ae xl 114 #[b,a] h R:=au af Tryz.func114 (al.tn (.two (al.tn (.inn (.loop [(9,ba)] [(4,7),(9,32)] .n))) .n)) c
end
end Go.Proofs.YtdhamoojccmbdaaGreatDoor
