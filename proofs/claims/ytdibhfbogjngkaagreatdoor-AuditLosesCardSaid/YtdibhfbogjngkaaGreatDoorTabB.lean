/- Lemmas for the proof of the law; no condition. -/
import Derived.Test.YtdibhfbogjngkaaGreatDoorTabA
set_option linter.unusedVariables false
open Go.Proofs.Tryz renaming prog -> xR
open Go.Instr renaming alloc -> qK, box -> qO, buildSlice -> qq, makeSlice -> qF, storeAt -> qf
open Go.Value renaming agg -> xM, bool -> xL, int -> xH, pointer -> xJ, slice -> xI, string -> xK
open Go.IntKind renaming bits -> qk, i64 -> xN, u32 -> xP, u64 -> xQ, u8 -> xO, wrap -> qc
open Go.Builtin renaming append_ -> qt, copy_ -> wJ
open Option renaming isNone -> qW
open Int renaming fdiv -> qX, tdiv -> wH, tmod -> wB
open BitVec renaming ofInt -> qD
open Go.Proofs.Tryz
set_option maxRecDepth 1000000
open Option renaming some -> dB, none -> eH
open Bool renaming true -> eL, false -> eR
namespace Go.Qw
noncomputable section
open Go Go.Vc Go.Proofs
variable {R:Kr} {h:Heap}
def oX(g:aT)(T:jn)(N:Sl):Prop:=
 aU xR (qO 94 T) h λi h1=>
 ae xR 25 #[g] aL h1 λr2 V=>
 ∃a3,(g=dB a3)/\
 ∃Y:bJ,an V (a3.add 2) 0 Y/\
 ae xR 107 #[Y,N] aL V λW h3=>
 aM (σ:=Sl×Int) (λe K1 m=>
 Br (e.2<(W.len:Int))
 (aR W e.2 λa7=>
 bn m (a7.add (e.2.toNat*1)) λx8=>
 bf m (i.add 1) λx9=>
 bn m (i.add 3) λB=>
 aR B e.2 λH=>
 bf m (H.add (e.2.toNat*1)) λU=>
 ae xR 62 #[x9,e.2,U] (.one (.sc (.int .u32))) m λj S=>
 (aA.ok [(i.add 3,B)] S)/\
 ∃p,(g=dB p)/\
 ∃s:bJ,an S (p.add 2) 0 s/\
 ae xR 108 #[s,(xH xP j),x8] (.many [LX,ba]) S λk L=>
 Br (k.2 !=0)
 (R (.tuple #[(xI eH 0 0),eR]) L)
 (bf L (i.add 1) λG=>
 ae xR 109 #[G,e.2,r2] aL L λE J=>
 ∃z,(g=dB z)/\
 bf J (z.add 2) λQ=>
 ∃u,(g=dB u)/\
 bf J (u.add 5) λK=>
 aM (σ:=Sl×Int) (λb K2 h8=>
 Br (b.2<(qc xN (Q+K)))
 (bi (σ:=Addr) (λd x=>
 ∃c:eZ,an x d 0 c/\
 ae xR 111 #[E,b.2] bz x λO w=>
 (aA.ok [(d,c.1),(d.add 1,c.2.1),(d.add 2,c.2.2.1),(d.add 3,c.2.2.2.1),(d.add 4,c.2.2.2.2.1),(d.add 5,c.2.2.2.2.2.1),(d.add 6,(xH xP c.2.2.2.2.2.2.1)),(d.add 7,c.2.2.2.2.2.2.2)] w)/\
 ae xR 112 #[c] aL w λM t=>
 (aA.ok [] t)/\
 az xR (qq 89 1 #[(0,(xM #[O,M]))]) aL t λI y=>
 (aA.ok [] y)/\
 az xR (qt #[89,89] 89 #[b.1,I]) aL y λl v=>
 (aA.ok [] v)/\
 K2 ((⟨l.ptr,l.len,l.cap⟩:Sl),qc xN (b.2+1)) v)
 (λX=>
 bf h8 (i.add 1) λf=>
 ∃a25,(g=dB a25)/\
 ∃a:bJ,an h8 (a25.add 2) 0 a/\
 (ae xR 110 #[k.1,b.2] aL h8 λF Z=>
 (aA.ok [(a25.add 2,a.1),((a25.add 2).add 1,a.2.1),((a25.add 2).add 2,a.2.2),(i.add 1,f)] Z)/\
 aU xR (qK 170 eL (.tuple #[])) Z λa28 A=>
 (aA.ok [(a25.add 2,a.1),((a25.add 2).add 1,a.2.1),((a25.add 2).add 2,a.2.2),(i.add 1,f)] A)/\
 ag xR (qf 170 a28 (xM #[f,e.2,b.2,a.1,a.2.1,a.2.2,(xH xP j),F])) A λ_ D=>
 (aA.ok [] D)/\
 X a28 D)/\(aU xR (qK 170 eL (.tuple #[])) h8 λq o=>
 (aA.ok [(a25.add 2,a.1),((a25.add 2).add 1,a.2.1),((a25.add 2).add 2,a.2.2),(i.add 1,f)] o)/\
 ae xR 110 #[k.1,b.2] aL o λP n=>
 (aA.ok [(a25.add 2,a.1),((a25.add 2).add 1,a.2.1),((a25.add 2).add 2,a.2.2),(i.add 1,f)] n)/\
 ag xR (qf 170 q (xM #[f,e.2,b.2,a.1,a.2.1,a.2.2,(xH xP j),P])) n λ_ r=>
 (aA.ok [] r)/\
 X q r)))
 (K1 ((⟨b.1.ptr,b.1.len,b.1.cap⟩:Sl),qc xN (e.2+1)) h8)) ((⟨e.1.ptr,e.1.len,e.1.cap⟩:Sl),(0:Int)) J))
 (R (.tuple #[e.1,eL]) m)) ((⟨eH,0,0⟩:Sl),(0:Int)) h3
theorem AY(a:aT)(c:jn)(b:Sl)(d:@oX R h a c b):ac xR 49 #[a,c,b] h R:=au af func49 (al.tn (al.tn (al.tn (.two (al.tn (.inn (.loop [(9,ci),(28,ba)] [(6,8),(9,18),(28,100)] (al.tn (al.tn (.two (.inn (al.tn (al.tn (al.tn (al.tn (al.tn (al.tn (.inn (.loop [(9,ci),(72,ba)] [(9,10),(16,18),(72,99)] (al.tn (al.tn (.two (.inn (al.tn (.two (.join [(17,(.sc .adr))] [(17,18),(75,89)] .n) .n))) .n)))))))))))) .n)))))) .n)))) d
def Hi(i:cW)(n:jn):Prop:=
 aU xR (qO 44 i) h λx y=>
 aU xR (qO 94 n) y λz r=>
 aU xR (qK 44 eL (.tuple #[])) r λa3 h3=>
 ∃q:cW,an h3 x 0 q/\
 ae xR 61 #[q] Eu h3 λv t=>
 aU xR (qK 44 eL (.tuple #[])) t λb A=>
 ag xR (qf 44 b v) A λ_ p=>
 bf p b λw=>
 ag xR (qf 3 b (qc xN (w+1))) p λ_ o=>
 bf o (b.add 1) λu=>
 ag xR (qf 3 (b.add 1) (qc xN (u+1))) o λ_ h8=>
 bn h8 (b.add 7) λs=>
 ∃f:jn,an h8 z 0 f/\
 az xR (qq 42 1 #[(0,f)]) aL h8 λj B=>
 az xR (qt #[42,42] 42 #[s,j]) aL B λl m=>
 ag xR (qf 42 (b.add 7) l) m λ_ g=>
 bn g (b.add 7) λk=>
 ae xR 113 #[k,(.func (.func 114) #[] #[])] hJ g λ_ d=>
 ∃e:cW,an d b 0 e/\
 ag xR (qf 44 a3 e) d λ_ c=>
 ∃a:cW,an c a3 0 a/\
 R a c
theorem Oy(a:cW)(b:jn)(c:@Hi R h a b):ac xR 50 #[a,b] h R:=au af func50 .n c
def rF(a:Int)(c:Addr)(d:Addr):Prop:=
 bf h c λl=>
 bn h d λx2=>
 aM (σ:=Int×Int) (λb g e=>
 Br (b.2<(x2.len:Int))
 (aR x2 b.2 λa4=>
 ∃f:Int×Sl,an e (a4.add (b.2.toNat*2)) 0 f/\
 aU xR (qK 101 eL (.tuple #[])) e λi j=>
 ag xR (qf 101 i f) j λ_ h3=>
 bf h3 i λk=>
 Br (k==a)
 (g (qc xN (b.1+1),qc xN (b.2+1)) h3)
 (g (b.1,qc xN (b.2+1)) h3))
 (R b.1 e)) (l,(0:Int)) h
theorem CX(a:Int)(b:Addr)(c:Addr)(d:@rF R h a b c):ac xR 51 #[a,b,c] h R:=au af func51 (al.tn (al.tn (.two (al.tn (.inn (.loop [(5,ba),(11,ba)] [(5,6),(7,8),(11,22)] .n))) .n))) d
def th(c:aT)(a:Sl)(b:cI):Prop:=
 aU xR (qO 27 c) h λf g=>
 aU xR (qO 102 (.func (.func b.1) b.2.1 b.2.2)) g λe d=>
 ae xR 116 #[a,(.func (.func 117) #[] #[f,e])] bK d λi h3=>
 R (xL (!i)) h3
theorem Ex(c:aT)(a:Sl)(b:cI)(d:@th R h c a b):ac xR 52 #[c,a,(.func (.func b.1) b.2.1 b.2.2)] h R:=au af func52 .n d
def rG(g:aT)(a:Sl)(d:cI):Prop:=
 aM (σ:=Int) (λi o f=>
 Br (i<(a.len:Int))
 (aR a i λp=>
 bf f (p.add (i.toNat*1)) λx3=>
 bi (σ:=Int) (λe k=>
 Br (e !=0)
 (R e k)
 (o (qc xN (i+1)) k))
 (λn=>
 ∃a4,(g=dB a4)/\
 (0<=x3/\x3<((64:Nat):Int))/\
 jI f ((a4.add 10).add (x3.toNat*1)) λl=>
 ∃c,(g=dB c)/\
 ∃b:cW,an f c 0 b/\
 ia C d.1 (d.2.1.toList++[(xH xN x3)]++d.2.2.toList) bz f λm j=>
 (aA.ok [(c,b.1),(c.add 1,b.2.1),(c.add 2,b.2.2.1),(c.add 3,b.2.2.2.1),(c.add 4,b.2.2.2.2.1),(c.add 5,b.2.2.2.2.2.1),(c.add 6,b.2.2.2.2.2.2.1),(c.add 7,b.2.2.2.2.2.2.2),((a4.add 10).add (x3.toNat*1),l)] j)/\
 ae xR 119 #[l,b,m] bz j λq h3=>
 (aA.ok [] h3)/\
 n q h3))
 (R (xH xN 0) f)) (0:Int) h
theorem CY(c:aT)(a:Sl)(b:cI)(d:@rG R h c a b):ac xR 53 #[c,a,(.func (.func b.1) b.2.1 b.2.2)] h R:=au af func53 (al.tn (.two (al.tn (.inn (.loop [(12,ba)] [(6,7),(8,10),(12,34)] (al.tn (al.tn (.two (.inn (al.tn (.two (.join [(9,ba)] [(9,10),(16,30)] .n) .n))) .n)))))) .n)) d
def tj(b:aT)(c:cW)(a:Sl):Prop:=
 aU xR (qO 44 c) h λd e=>
 ∃x2:cW,an e d 0 x2/\
 ae xR 45 #[x2,a] aL e λm j=>
 ae xR 44 #[(.func (.func 35) #[b] #[]),m] bz j λi h3=>
 Br (i !=0)
 (R i h3)
 (∃g:cW,an h3 d 0 g/\
 ae xR 61 #[g] Eu h3 λn k=>
 ∃f,(b=dB f)/\
 ag xR (qf 44 f n) k λ_ l=>
 R (xH xN 0) l)
theorem Ey(b:aT)(c:cW)(a:Sl)(d:@tj R h b c a):ac xR 54 #[b,c,a] h R:=au af func54 .n d
def uu(a:aT):Prop:=
 Br (qW a) (R eL h) (ae xR 57 #[a] bK h λb c=>
 R b c)
theorem FY(a:aT)(b:@uu R h a):ac xR 55 #[a] h R:=au af func55 .n b
def BI(a:ByteArray):Prop:=
 ae xR 120 #[a] (.one LY) h λb c=>
 R b c
theorem Jn(a:ByteArray)(b:@BI R h a):ac xR 56 #[a] h R:=au af func56 .n b
def tk(a:aT):Prop:=
 Br (!(qW a)) (∃f,(a=dB f)/\
 jI h (f.add 8) λx2=>
 ae xR 121 #[x2] bK h λi b=>
 (aA.ok [] b)/\
 Br (!i) ((aA.ok [] b)/\
 R eL b) (∃a4,(a=dB a4)/\
 jI b (a4.add 8) λj=>
 ∃c,(a=dB c)/\
 bf b (c.add 9) λe=>
 ae xR 41 #[j] bz b λg d=>
 (aA.ok [(c.add 9,e)] d)/\
 R (xL (g !=e)) d)) ((aA.ok [] h)/\
 (aA.ok [] h)/\
 R eR h)
theorem Ez(a:aT)(b:@tk R h a):ac xR 57 #[a] h R:=au af func57 .n b
def Hj(a:Int)(b:Int):Prop:=
 ae xR 122 #[a,b] bK h λf e=>
 Br (!f)
 (R (xH xN 0) e)
 (aM (σ:=Int×Int) (λc g d=>
 Br (decide (c.2<(if(qc xN (a-b))<b then qc xN (a-b)else b)))
 (((qc xN (c.2+1))≠0)/\
 Br (decide ((qc xN (wH (qc xN (c.1*(qc xN (a-c.2)))) (qc xN (c.2+1))))>4096))
 (R (xH xN 4097) d)
 (g (qc xN (wH (qc xN (c.1*(qc xN (a-c.2)))) (qc xN (c.2+1))),qc xN (c.2+1)) d))
 (R c.1 d)) ((1:Int),(0:Int)) e)
theorem Oz(a:Int)(b:Int)(c:@Hj R h a b):ac xR 58 #[a,b] h R:=au af func58 (al.tn (al.tn (al.tn (.two (al.tn (.inn (.loop [(5,ba),(16,ba)] [(4,7),(16,30)] .n))) .n)))) c
def Mf(k:cW):Prop:=
 aU xR (qO 44 k) h λa y=>
 aU xR (qK 44 eL (.tuple #[])) y λt j=>
 bi (σ:=Unit) (λ_ q=>
 bn q (a.add 7) λw=>
 aM (σ:=Int) (λc z h8=>
 Br (c<(w.len:Int))
 (bn h8 (a.add 7) λg=>
 bn h8 (a.add 7) λe=>
 aR e c λm=>
 bn h8 ((m.add (c.toNat*4)).add 3) λl=>
 ae xR 128 #[l] aL h8 λo v=>
 (aA.ok [(a.add 7,e),(a.add 7,g)] v)/\
 aR g c λn=>
 ag xR (qf 22 ((n.add (c.toNat*4)).add 3) o) v λ_ f=>
 (aA.ok [] f)/\
 z (qc xN (c+1)) f)
 (∃d:cW,an h8 a 0 d/\
 ag xR (qf 44 t d) h8 λ_ i=>
 ∃b:cW,an i t 0 b/\
 R b i)) (0:Int) q)
 (λA=>
 bn j (a.add 6) λx3=>
 bn j (a.add 7) λs=>
 ae xR 128 #[x3] aL j λx h3=>
 (aA.ok [(a.add 7,s)] h3)/\
 ae xR 129 #[s] aL h3 λB p=>
 (aA.ok [] p)/\
 ag xR (qf 22 (a.add 6) x) p λ_ u=>
 (aA.ok [] u)/\
 ag xR (qf 42 (a.add 7) B) u λ_ r=>
 (aA.ok [] r)/\
 A () r)
theorem Tm(a:cW)(b:@Mf R h a):ac xR 61 #[a] h R:=au af func61 (al.tn (.two (.join [] [(4,12)] .n) (.two (al.tn (.inn (.loop [(15,ba)] [(3,4),(15,31)] .n))) .n))) b
def JJ(b:Int)(c:Int)(a:Int):Prop:=
 R (xH xP (qc xP ((qc xP ((qc xP (128*(qc xP b)))+(qc xP (16*(qc xP c)))))+(qc xP a)))) h
theorem QS(b:Int)(c:Int)(a:Int)(d:@JJ R h b c a):ac xR 62 #[b,c,a] h R:=au af func62 .n d
def Ft(e:cI)(a:Sl)(q:cW)(c:Int)(d:Int):Prop:=
 aU xR (qO 44 q) h λi B=>
 aM (σ:=Sl×Int) (λj F m=>
 Br (j.2<(a.len:Int))
 (aR a j.2 λa3=>
 bf m (a3.add (j.2.toNat*1)) λE=>
 bi (σ:=Sl×Int×Int) (λt G=>
 aM (σ:=Sl×Int) (λb v s=>
 Br (b.2<t.2.1)
 (aR t.1 b.2 λo=>
 ∃l:eZ,an s (o.add (b.2.toNat*8)) 0 l/\
 aU xR (qK 170 eL (.tuple #[])) s λf A=>
 ag xR (qf 170 f l) A λ_ h8=>
 bf h8 f λp=>
 Br (p==c) (bf h8 (f.add 1) λw=>
 Br (w==d)
 (bf h8 (f.add 2) λr=>
 bn h8 (f.add 7) λu=>
 az xR (qq 114 1 #[(0,(xM #[r,u]))]) aL h8 λx H=>
 az xR (qt #[114,114] 114 #[b.1,x]) aL H λk y=>
 v ((⟨k.ptr,k.len,k.cap⟩:Sl),qc xN (b.2+1)) y)
 (v ((⟨b.1.ptr,b.1.len,b.1.cap⟩:Sl),qc xN (b.2+1)) h8)) (v ((⟨b.1.ptr,b.1.len,b.1.cap⟩:Sl),qc xN (b.2+1)) h8))
 (F ((⟨b.1.ptr,b.1.len,b.1.cap⟩:Sl),qc xN (j.2+1)) s)) ((⟨j.1.ptr,j.1.len,j.1.cap⟩:Sl),t.2.2) G)
 (λD=>
 ∃g:cW,an m i 0 g/\
 ia C e.1 (e.2.1.toList++[(xH xN E)]++e.2.2.toList) jo m λI h3=>
 (aA.ok [(i,g.1),(i.add 1,g.2.1),(i.add 2,g.2.2.1),(i.add 3,g.2.2.2.1),(i.add 4,g.2.2.2.2.1),(i.add 5,g.2.2.2.2.2.1),(i.add 6,g.2.2.2.2.2.2.1),(i.add 7,g.2.2.2.2.2.2.2)] h3)/\
 ae xR 130 #[I,g] aL h3 λn z=>
 (aA.ok [] z)/\
 D ((⟨n.ptr,n.len,n.cap⟩:Sl),(n.len:Int),(0:Int)) z))
 (R j.1 m)) ((⟨eH,0,0⟩:Sl),(0:Int)) B
theorem Mg(d:cI)(c:Sl)(e:cW)(a:Int)(b:Int)(f:@Ft R h d c e a b):ac xR 63 #[(.func (.func d.1) d.2.1 d.2.2),c,e,a,b] h R:=au af func63 (al.tn (al.tn (.two (al.tn (.inn (.loop [(11,ci),(18,ba)] [(11,12),(13,14),(15,16),(18,52)] (al.tn (al.tn (.two (.inn (al.tn (.two (.join [(26,ci),(27,ba),(28,ba)] [(22,29)] .n) (.inn (.loop [(11,ci),(28,ba)] [(11,12),(15,16),(28,51)] .n))))) .n)))))) .n))) f
def Mh(b:aT)(a:Sl):Prop:=
 ae xR 131 #[b,a] aL h λc d=>
 R (xH xN (c.len:Int)) d
theorem Tn(b:aT)(a:Sl)(c:@Mh R h b a):ac xR 64 #[b,a] h R:=au af func64 .n c
def To:Prop:=
 ae xR 132 #[] (.one (.arr (.int .u8))) h λg j=>
 aU xR (qK 192 eL (.tuple #[])) j λa f=>
 ag xR (qf 192 a (xM (g.map (Sc.enc (.int .u8))).toArray)) f λ_ h3=>
 ∃x3:List (Int),(x3.length=255/\an h3 a 0 (x3.map (Sc.enc (.int .u8))))/\
 ∃b:List (Int),(b.length=255/\an h3 a 0 (b.map (Sc.enc (.int .u8))))/\
 ae xR 133 #[(xM (b.map (Sc.enc (.int .u8))).toArray)] (.one (.arr (.int .i64))) h3 λi c=>
 (aA.ok (mK a 0 (x3.map (Sc.enc (.int .u8))) []) c)/\
 ∃e:Value,(aH xR (Instr.build 197 #[(0,(xM (x3.map (Sc.enc (.int .u8))).toArray)),(1,(xM (i.map (Sc.enc (.int .i64))).toArray))]) e)/\
 aU xR (qO 197 e) c λk d=>
 (aA.ok (mK a 0 (x3.map (Sc.enc (.int .u8))) []) d)/\
 R k d
theorem Ym(a:@To R h):ac xR 65 #[] h R:=au af func65 .n a
def BJ(e:bJ)(c:Int)(a:Sl):Prop:=
 aU xR (qO 24 e) h λk l=>
 ∃x2:bJ,an l k 0 x2/\
 ae xR 70 #[x2] aL l λf n=>
 aM (σ:=Sl×Int) (λb m h3=>
 Br (b.2<(a.len:Int))
 (aR a b.2 λa5=>
 bf h3 (a5.add (b.2.toNat*1)) λp=>
 ∃j:bJ,an h3 k 0 j/\
 ae xR 134 #[j,(xH xP c),p] aL h3 λi g=>
 Br (!(qW i.ptr))
 (az xR (qq 85 1 #[(0,i)]) aL g λv9 q=>
 az xR (qt #[85,85] 85 #[b.1,v9]) aL q λd o=>
 m ((⟨d.ptr,d.len,d.cap⟩:Sl),qc xN (b.2+1)) o)
 (m ((⟨b.1.ptr,b.1.len,b.1.cap⟩:Sl),qc xN (b.2+1)) g))
 (R b.1 h3)) ((⟨f.ptr,f.len,f.cap⟩:Sl),(0:Int)) n
theorem Jo(c:bJ)(a:Int)(b:Sl)(d:@BJ R h c a b):ac xR 66 #[c,(xH xP a),b] h R:=au af func66 (al.tn (al.tn (.two (al.tn (.inn (.loop [(7,ci),(15,ba)] [(7,8),(9,11),(15,30)] .n))) .n))) d
def Mi(b:Int)(a:Int):Prop:=
 ae xR 122 #[b,a] bK h λt o=>
 Br (!t)
 (R (.tuple #[(xI eH 0 0),(xH xN 1)]) o)
 (ae xR 58 #[b,a] bz o λq l=>
 Br (q>4096)
 (R (.tuple #[(xI eH 0 0),(xH xN 13)]) l)
 (az xR (qF 22 a a) aL l λv3 h3=>
 aM (σ:=Int) (λd v m=>
 Br (d<(v3.len:Int))
 (aR v3 d λa5=>
 ag xR (qf 3 (a5.add (d.toNat*1)) d) m λ_ w=>
 v (qc xN (d+1)) w)
 (ae xR 128 #[v3] aL m λy s=>
 az xR (qq 51 1 #[(0,y)]) aL s λi r=>
 aM (σ:=Sl) (λn u h8=>
 ae xR 135 #[v3,b] bK h8 λx p=>
 Br x
 (ae xR 128 #[v3] aL p λf j=>
 az xR (qq 51 1 #[(0,f)]) aL j λg k=>
 az xR (qt #[51,51] 51 #[n,g]) aL k λc e=>
 u (⟨c.ptr,c.len,c.cap⟩:Sl) e)
 (R (.tuple #[n,(xH xN 0)]) p)) (⟨i.ptr,i.len,i.cap⟩:Sl) r)) (0:Int) h3))
theorem Tp(a:Int)(b:Int)(c:@Mi R h a b):ac xR 68 #[a,b] h R:=au af func68 (al.tn (al.tn (al.tn (.two (al.tn (.inn (.loop [(23,ba)] [(7,8),(23,31)] .n))) (al.tn (.two (.inn (.loop [(8,ci)] [(8,9),(34,42)] .n)) .n)))))) c
def Mj(b:aT)(a:Int):Prop:=
 bi (σ:=Unit) (λ_ d=>
 bi (σ:=aT) (λi h3=>
 aU xR (qO 200 (xM #[i,a,(xI eH 0 0)])) h3 λa4 g=>
 R a4 g)
 (λc=>
 Br (qW b)
 (ae xR 65 #[] jo d λj e=>
 c j e)
 (c b d)))
 (λf=>
 Br (a<0) (R (xJ eH) h) (Br (a>64)
 (R (xJ eH) h)
 (f () h)))
theorem Tq(a:aT)(b:Int)(c:@Mj R h a b):ac xR 69 #[a,b] h R:=au af func69 (al.tn (.two (.join [] [(4,11)] .n) (.two (.join [(0,LX)] [(0,1),(11,14)] .n) .n))) c
def Mk(j:bJ):Prop:=
 aU xR (qO 24 j) h λc v=>
 ∃x2:bJ,an v c 0 x2/\
 ae xR 40 #[x2] bK v λy r=>
 Br (!y)
 (R (xI eH 0 0) r)
 (ae xR 65 #[] jo r λF h3=>
 bf h3 (c.add 1) λx=>
 aM (σ:=Sl×Int) (λe B g=>
 Br (e.2<x)
 (bi (σ:=Sl) (λf s=>
 bf s c λq=>
 aM (σ:=Int) (λa z h8=>
 Br (a<q)
 (ae xR 137 #[F,(qc xN ((qc xN (e.2+1))*(qc xN (a+1))))] (.one (.sc (.int .u8))) h8 λn D=>
 aR f a λm=>
 ag xR (qf 5 (m.add (a.toNat*1)) (xH xO n)) D λ_ o=>
 z (qc xN (a+1)) o)
 (az xR (qq 85 1 #[(0,f)]) aL h8 λk p=>
 az xR (qt #[85,85] 85 #[e.1,k]) aL p λd i=>
 B ((⟨d.ptr,d.len,d.cap⟩:Sl),qc xN (e.2+1)) i)) (0:Int) s)
 (λA=>
 ∃u:bJ,an g c 0 u/\
 bf g c λl=>
 ae xR 21 #[u] bz g λE w=>
 (aA.ok [(c,l)] w)/\
 ae xR 136 #[E,(qc xN (l+e.2))] aL w λb t=>
 (aA.ok [(c,l)] t)/\
 A (⟨b.ptr,b.len,b.cap⟩:Sl) t))
 (R e.1 g)) ((⟨eH,0,0⟩:Sl),(0:Int)) h3)
theorem Tr(a:bJ)(b:@Mk R h a):ac xR 70 #[a] h R:=au af func70 (al.tn (al.tn (al.tn (al.tn (.two (al.tn (.inn (.loop [(4,ci),(14,ba)] [(4,8),(14,45)] (al.tn (al.tn (.two (.inn (al.tn (.two (.join [(6,ci)] [(6,7),(17,24)] .n) (.two (al.tn (.inn (.loop [(26,ba)] [(7,8),(26,40)] .n))) .n)))) .n)))))) .n))))) b
def BL(a:aT)(e:Sl):Prop:=
 ae xR 138 #[a,e] (.many [ci,jp]) h λf n=>
 bi (σ:=Unit) (λ_ h3=>
 ∃a4,(a=dB a4)/\
 jI h3 a4 λd=>
 ∃g,(a=dB g)/\
 bn h3 (g.add 2) λm=>
 az xR (qq 85 1 #[(0,f.1)]) aL h3 λq j=>
 (aA.ok [(g.add 2,m),(a4,d)] j)/\
 az xR (qt #[85,85] 85 #[m,q]) aL j λv9 o=>
 (aA.ok [(a4,d)] o)/\
 ae xR 131 #[d,v9] aL o λc l=>
 (aA.ok [] l)/\
 ∃b,(a=dB b)/\
 ag xR (qf 85 (b.add 2) c) l λ_ k=>
 (aA.ok [] k)/\
 R eL k)
 (λr=>
 Br (!f.2) (R eR n) (ae xR 139 #[f.1] bz n λp i=>
 Br (p<0)
 (R eR i)
 (r () i)))
theorem Jp(a:aT)(b:Sl)(c:@BL R h a b):ac xR 71 #[a,b] h R:=au af func71 (al.tn (al.tn (.two (.join [] [(4,5),(13,20)] .n) .n))) c
def Fu(i:bJ)(c:Int)(a:Sl):Prop:=
 aU xR (qO 24 i) h λt u=>
 aM (σ:=Sl×Int) (λf v g=>
 Br (f.2<(a.len:Int))
 (aR a f.2 λa3=>
 bn g (a3.add (f.2.toNat*1)) λo=>
 aM (σ:=Sl×Int) (λb n h3=>
 Br (b.2<(o.len:Int))
 (aR o b.2 λw=>
 bf h3 (w.add (b.2.toNat*1)) λs=>
 ∃m:bJ,an h3 t 0 m/\
 ae xR 134 #[m,(xH xP c),s] aL h3 λp l=>
 Br (!(qW p.ptr))
 (az xR (qq 85 1 #[(0,p)]) aL l λk x=>
 az xR (qt #[85,85] 85 #[b.1,k]) aL x λd r=>
 n ((⟨d.ptr,d.len,d.cap⟩:Sl),qc xN (b.2+1)) r)
 (n ((⟨b.1.ptr,b.1.len,b.1.cap⟩:Sl),qc xN (b.2+1)) l))
 (az xR (qq 129 1 #[(0,b.1)]) aL h3 λj q=>
 az xR (qt #[129,129] 129 #[f.1,j]) aL q λe h8=>
 v ((⟨e.ptr,e.len,e.cap⟩:Sl),qc xN (f.2+1)) h8)) ((⟨eH,0,0⟩:Sl),(0:Int)) g)
 (R f.1 g)) ((⟨eH,0,0⟩:Sl),(0:Int)) u
theorem Ml(c:bJ)(b:Int)(a:Sl)(d:@Fu R h c b a):ac xR 72 #[c,(xH xP b),a] h R:=au af func72 (al.tn (al.tn (.two (al.tn (.inn (.loop [(7,ci),(16,ba)] [(7,8),(9,11),(12,14),(16,42)] (al.tn (al.tn (.two (.inn (al.tn (al.tn (.two (al.tn (.inn (.loop [(10,ci),(22,ba)] [(10,11),(12,14),(22,37)] .n))) .n)))) .n)))))) .n))) d
def Fv(b:aT)(e:Sl)(c:Sl)(a:Int):Prop:=
 ae xR 140 #[b] jo h λk t=>
 aM (σ:=Int) (λd m g=>
 Br (d<(e.len:Int))
 (aR e d λa3=>
 bn g (a3.add (d.toNat*1)) λl=>
 ae xR 84 #[c,d] bK g λs h3=>
 Br s
 (m (qc xN (d+1)) h3)
 (aM (σ:=Int) (λf u i=>
 Br (f<(l.len:Int))
 (aR l f λp=>
 bn i (p.add (f.toNat*1)) λq=>
 ae xR 141 #[k] bz i λv n=>
 Br (v==a)
 (R eL n)
 (ae xR 71 #[k,q] bK n λ_ r=>
 u (qc xN (f+1)) r))
 (m (qc xN (d+1)) i)) (0:Int) h3))
 (ae xR 141 #[k] bz g λj o=>
 R (xL (j==a)) o)) (0:Int) t
theorem Mm(a:aT)(d:Sl)(c:Sl)(b:Int)(e:@Fv R h a d c b):ac xR 73 #[a,d,c,b] h R:=au af func73 (al.tn (al.tn (.two (al.tn (.inn (.loop [(18,ba)] [(8,9),(10,12),(13,14),(18,41)] (al.tn (al.tn (.two (.inn (al.tn (al.tn (al.tn (.inn (.loop [(28,ba)] [(8,9),(13,14),(28,40)] .n)))))) .n)))))) .n))) e
def oa(z:bJ)(b:Sl)(d:Int)(c:Bool):Prop:=
 aU xR (qO 24 z) h λT V=>
 bi (σ:=Sl) (λw s=>
 R w s)
 (λN=>
 aM (σ:=Sl×Int) (λa M r=>
 bi (σ:=Unit) (λ_ h3=>
 bi (σ:=Sl) (λG o=>
 ∃k:bJ,an o T 0 k/\
 aR b a.2 λf=>
 bf o (f.add (a.2.toNat*1)) λe=>
 ((5:Int)≠0)/\
 aR b (qc xN (a.2+1)) λF=>
 bf o (F.add ((qc xN (a.2+1)).toNat*1)) λE=>
 aR b (qc xN (a.2+2)) λv=>
 bf o (v.add ((qc xN (a.2+2)).toNat*1)) λu=>
 ae xR 143 #[k,(qc xN (wH e 5)),E,u] ahh o λx m=>
 (aA.ok [(f.add (a.2.toNat*1),e)] m)/\
 az xR (qq 132 1 #[(0,x)]) aL m λB n=>
 (aA.ok [(f.add (a.2.toNat*1),e)] n)/\
 az xR (qt #[132,132] 132 #[G,B]) aL n λi j=>
 (aA.ok [(f.add (a.2.toNat*1),e)] j)/\
 M ((⟨i.ptr,i.len,i.cap⟩:Sl),qc xN (a.2+3)) j)
 (λP=>
 bi (σ:=Bool) (λS l=>
 Br S
 (aR b a.2 λq=>
 bf l (q.add (a.2.toNat*1)) λp=>
 ((5:Int)≠0)/\
 aR b (qc xN (a.2+1)) λy=>
 bf l (y.add ((qc xN (a.2+1)).toNat*1)) λI=>
 aR b (qc xN (a.2+2)) λD=>
 bf l (D.add ((qc xN (a.2+2)).toNat*1)) λA=>
 ae xR 142 #[(qc xN (wH p 5)),I,A] ahh l λH K=>
 (aA.ok [(q.add (a.2.toNat*1),p)] K)/\
 az xR (qq 132 1 #[(0,H)]) aL K λt J=>
 (aA.ok [(q.add (a.2.toNat*1),p)] J)/\
 az xR (qt #[132,132] 132 #[a.1,t]) aL J λg h8=>
 (aA.ok [(q.add (a.2.toNat*1),p)] h8)/\
 M ((⟨g.ptr,g.len,g.cap⟩:Sl),qc xN (a.2+3)) h8)
 (P (⟨a.1.ptr,a.1.len,a.1.cap⟩:Sl) l))
 (λL=>
 Br c (aR b a.2 λa4=>
 bf h3 (a4.add (a.2.toNat*1)) λQ=>
 ae xR 12 #[Q,(xH xN 5)] bz h3 λW O=>
 L (W==4) O) (L eR h3))))
 (λU=>
 Br ((qc xN (a.2+2))<(b.len:Int)) (Br ((a.1.len:Int)<d)
 (U () r)
 (N (⟨a.1.ptr,a.1.len,a.1.cap⟩:Sl) r)) (N (⟨a.1.ptr,a.1.len,a.1.cap⟩:Sl) r))) ((⟨eH,0,0⟩:Sl),(0:Int)) V)
theorem An(d:bJ)(c:Sl)(b:Int)(a:Bool)(e:@oa R h d c b a):ac xR 74 #[d,c,b,a] h R:=au af func74 (al.tn (al.tn (.two (.join [(9,ci)] [(9,72)] (al.tn (.inn (.loop [(9,ci),(10,ba)] [(9,72)] (.two (.join [] [(11,22)] .n) (.two (.inn (.two (.join [(9,ci)] [(9,10),(24,52)] (.two (.join [(32,jp)] [(24,33)] .n) .n)) .n)) .n)))))) .n))) e
def pT(a:aT)(b:ByteArray):Prop:=
 ae xR 55 #[a] bK h λr l=>
 Br r
 (R (xH xN 14) l)
 (ae xR 91 #[a,b] bz l λg d=>
 Br (g<0)
 (R (xH xN 5) d)
 (∃a3,(a=dB a3)/\
 bf d a3 λs=>
 Br (s>=2147483647)
 (R (xH xN 7) d)
 (∃a5,(a=dB a5)/\
 ∃m:cW,an d a5 0 m/\
 ae xR 61 #[m] Eu d λt h3=>
 aU xR (qK 44 eL (.tuple #[])) h3 λc p=>
 ag xR (qf 44 c t) p λ_ n=>
 bf n c λo=>
 ag xR (qf 3 c (qc xN (o+1))) n λ_ k=>
 bn k (c.add 7) λj=>
 ae xR 144 #[j,g,(qc xN (g+1))] aL k λi q=>
 ag xR (qf 42 (c.add 7) i) q λ_ h8=>
 ∃e:cW,an h8 c 0 e/\
 ae xR 145 #[a,e] bz h8 λf u=>
 R f u)))
theorem Co(b:aT)(a:ByteArray)(c:@pT R h b a):ac xR 75 #[b,a] h R:=au af func75 .n c
def JK(a:Sl):Prop:=
 Br ((a.len:Int) !=64)
 (R (.tuple #[(xH xN 0),(xI eH 0 0),eR]) h)
 (aR a (3:Int) λb=>
 gF .u8 h (b.add ((3:Int).toNat*1)) λx2=>
 (0<=(4:Int)/\(4:Int)<=(59:Int)/\(59:Int)<=(a.cap:Int))/\
 ae xR 146 #[(.slice (if a.cap=(4:Int).toNat then a.ptr else a.ptr.map (·.add ((4:Int).toNat*1))) ((59:Int).toNat-(4:Int).toNat) (a.cap-(4:Int).toNat))] aL h λd c=>
 (aA.ok [(b.add ((3:Int).toNat*1),(xH xO x2))] c)/\
 ae xR 147 #[(qc xN x2),d] aL c λg e=>
 ae xR 99 #[a,g] bK e λf h3=>
 Br (!f)
 (R (.tuple #[(xH xN 0),(xI eH 0 0),eR]) h3)
 (R (.tuple #[(qc xN x2),d,eL]) h3))
theorem QU(a:Sl)(b:@JK R h a):ac xR 76 #[a] h R:=au af func76 .n b
def mV(b:aT)(a:Int):Prop:=
 bi (σ:=Unit) (λ_ c=>
 ∃a4,(b=dB a4)/\
 bn c (a4.add 2) λk=>
 aR k a λj=>
 bn c (j.add (a.toNat*1)) λg=>
 ae xR 146 #[g] aL c λf e=>
 R f e)
 (λi=>
 Br (qW b) (R (xI eH 0 0) h) (Br (a<0) (R (xI eH 0 0) h) (∃d,(b=dB d)/\
 bn h (d.add 2) λx2=>
 Br (a>=(x2.len:Int))
 (R (xI eH 0 0) h)
 (i () h))))
theorem pU(b:aT)(a:Int)(c:@mV R h b a):ac xR 77 #[b,a] h R:=au af func77 (al.tn (.two (.join [] [(4,20)] .n) .n)) c
def rH(e:aT)(c:Int)(a:Int)(b:Int):Prop:=
 bi (σ:=Unit) (λ_ m=>
 aM (σ:=Int) (λd o f=>
 Br (d<4)
 (∃a5,(e=dB a5)/\
 bn f (a5.add 2) λn=>
 aR n c λl=>
 bn f (l.add (c.toNat*1)) λj=>
 aR j (qc xN (a+d)) λa9=>
 gF .u8 f (a9.add ((qc xN (a+d)).toNat*1)) λi=>
 (0<=(qc xN (8*d)))/\
 aR j (qc xN (a+d)) λg=>
 ag xR (qf 5 (g.add ((qc xN (a+d)).toNat*1)) (xH xO (qc xO ((qD (qk xO) i^^^(qD (qk xO) (qc xO (qX b (2^min (qc xN (8*d)).toNat (qk xP)))))).toNat:Nat)))) f λ_ h3=>
 (aA.ok [] h3)/\
 o (qc xN (d+1)) h3)
 (R eL f)) (0:Int) m)
 (λp=>
 Br (qW e) (R eR h) (Br (c<0) (R eR h) (∃k,(e=dB k)/\
 bn h (k.add 2) λx2=>
 Br (c>=(x2.len:Int)) (R eR h) (Br (a<0) (R eR h) (Br (a>60) (R eR h) (Br (b==0)
 (R eR h)
 (p () h)))))))
theorem CZ(d:aT)(c:Int)(b:Int)(a:Int)(e:@rH R h d c b a):ac xR 78 #[d,c,b,(xH xP a)] h R:=au af func78 (al.tn (.two (.join [] [(8,9),(10,37)] .n) (.two (al.tn (.inn (.loop [(37,ba)] [(9,10),(37,60)] .n))) .n))) e
def JL(c:aT)(a:Int)(b:Int):Prop:=
 ae xR 83 #[c] bK h λF v=>
 Br F
 (R (xH xN 14) v)
 (ae xR 16 #[c] Eu v λA y=>
 aU xR (qK 44 eL (.tuple #[])) y λa3 h3=>
 ag xR (qf 44 a3 A) h3 λ_ z=>
 ae xR 88 #[a,b] bK z λI t=>
 Br (!I)
 (R (xH xN 1) t)
 (bn t (a3.add 6) λD=>
 ae xR 84 #[D,a] bK t λJ k=>
 Br J
 (R (xH xN 4) k)
 (bf k a3 λG=>
 Br (G>=2147483647)
 (R (xH xN 7) k)
 (ae xR 90 #[c] jo k λB E=>
 ae xR 43 #[b,B] jo E λH h8=>
 ae xR 89 #[c,a,H] hJ h8 λ_ x=>
 bf x a3 λs=>
 ag xR (qf 3 a3 (qc xN (s+1))) x λ_ j=>
 bn j (a3.add 6) λq=>
 az xR (qq 22 1 #[(0,a)]) aL j λn u=>
 az xR (qt #[22,22] 22 #[q,n]) aL u λm l=>
 ag xR (qf 22 (a3.add 6) m) l λ_ d=>
 bn d (a3.add 6) λo=>
 ae xR 148 #[o] hJ d λ_ g=>
 ∃f:cW,an g a3 0 f/\
 ae xR 145 #[c,f] bz g λe i=>
 bi (σ:=Unit) (λ_ p=>
 R e p)
 (λw=>
 Br (e==7)
 (ae xR 89 #[c,a,(xJ eH)] hJ i λ_ r=>
 w () r)
 (w () i))))))
theorem QV(c:aT)(b:Int)(a:Int)(d:@JL R h c b a):ac xR 79 #[c,b,a] h R:=au af func79 (al.tn (al.tn (al.tn (al.tn (al.tn (al.tn (al.tn (al.tn (al.tn (.two (.join [] [(50,55)] .n) .n)))))))))) d
def Mn(c:cI)(a:Sl):Prop:=
 aM (σ:=Sl×Int) (λb d f=>
 Br (b.2<(a.len:Int))
 (aR a b.2 λk=>
 bf f (k.add (b.2.toNat*1)) λx3=>
 ia C c.1 (c.2.1.toList++[(xH xN x3)]++c.2.2.toList) jo f λi g=>
 Br (!(qW i)) (ae xR 149 #[i] bK g λj h3=>
 Br (!j)
 (az xR (qq 22 1 #[(0,x3)]) aL h3 λn l=>
 az xR (qt #[22,22] 22 #[b.1,n]) aL l λe m=>
 d ((⟨e.ptr,e.len,e.cap⟩:Sl),qc xN (b.2+1)) m)
 (d ((⟨b.1.ptr,b.1.len,b.1.cap⟩:Sl),qc xN (b.2+1)) h3)) (d ((⟨b.1.ptr,b.1.len,b.1.cap⟩:Sl),qc xN (b.2+1)) g))
 (R b.1 f)) ((⟨eH,0,0⟩:Sl),(0:Int)) h
theorem Ts(b:cI)(a:Sl)(c:@Mn R h b a):ac xR 80 #[(.func (.func b.1) b.2.1 b.2.2),a] h R:=au af func80 (al.tn (al.tn (.two (al.tn (.inn (.loop [(5,ci),(11,ba)] [(5,6),(7,9),(11,30)] .n))) .n))) c
def JM(a:aT):Prop:=
 Br (qW a) (R eL h) (ae xR 57 #[a] bK h λb c=>
 R b c)
theorem QW(a:aT)(b:@JM R h a):ac xR 81 #[a] h R:=au af func81 .n b
def Hk(d:aT)(g:Int):Prop:=
 ae xR 16 #[d] Eu h λo p=>
 aU xR (qK 44 eL (.tuple #[])) p λb l=>
 ag xR (qf 44 b o) l λ_ h3=>
 ae xR 25 #[d] aL h3 λi m=>
 aM (σ:=Int×Int) (λc k e=>
 Br (c.2<(i.len:Int))
 (aR i c.2 λa5=>
 bf e (a5.add (c.2.toNat*1)) λq=>
 ∃a:cW,an e b 0 a/\
 ae xR 35 #[d,q] jo e λn j=>
 (aA.ok [(b,a.1),(b.add 1,a.2.1),(b.add 2,a.2.2.1),(b.add 3,a.2.2.2.1),(b.add 4,a.2.2.2.2.1),(b.add 5,a.2.2.2.2.2.1),(b.add 6,a.2.2.2.2.2.2.1),(b.add 7,a.2.2.2.2.2.2.2)] j)/\
 ae xR 34 #[n,a] bK j λr f=>
 (aA.ok [] f)/\
 Br r
 (k (qc xN (c.1+1),qc xN (c.2+1)) f)
 (k (c.1,qc xN (c.2+1)) f))
 (R (decide (c.1>g)) e)) ((0:Int),(0:Int)) m
theorem OA(a:aT)(b:Int)(c:@Hk R h a b):ac xR 82 #[a,b] h R:=au af func82 (al.tn (al.tn (al.tn (.two (al.tn (.inn (.loop [(6,ba),(14,ba)] [(6,7),(8,9),(14,26)] .n))) .n)))) c
def JN(a:aT):Prop:=
 Br (qW a) (R eL h) (ae xR 57 #[a] bK h λb c=>
 R b c)
theorem QX(a:aT)(b:@JN R h a):ac xR 83 #[a] h R:=au af func83 .n b
def jd(b:Sl)(a:Int):Prop:=
 ae xR 150 #[b,a] bz h λc d=>
 R (decide (c>=0)) d
theorem lI(a:Sl)(b:Int)(c:@jd R h a b):ac xR 84 #[a,b] h R:=au af func84 .n c
def tl(a:aT):Prop:=
 Br (!(qW a))
 (∃c,(a=dB c)/\
 ag xR (qf 4 (c.add 6) eL) h λ_ f=>
 ∃b,(a=dB b)/\
 ag xR (qf 85 (b.add 2) (xI eH 0 0)) f λ_ d=>
 ∃a3,(a=dB a3)/\
 ag xR (qf 3 (a3.add 3) (xH xN 0)) d λ_ h3=>
 ∃a4,(a=dB a4)/\
 ag xR (qf 85 (a4.add 4) (xI eH 0 0)) h3 λ_ e=>
 ∃a5,(a=dB a5)/\
 ag xR (qf 4 (a5.add 5) eR) e λ_ g=>
 R (.tuple #[]) g)
 (R (.tuple #[]) h)
theorem EB(a:aT)(b:@tl R h a):ac xR 85 #[a] h R:=au af func85 .n b
def gi(a:Sl)(b:cI):Prop:=
 ae xR 151 #[a,(.func (.func b.1) b.2.1 b.2.2)] bz h λe i=>
 Br (e==(-1:Int))
 (R a i)
 (aM (σ:=Int×Int) (λc g d=>
 Br (c.2<(a.len:Int))
 (aR a c.2 λa3=>
 td d (a3.add (c.2.toNat*1)) λf=>
 ia C b.1 (b.2.1.toList++[(xK f)]++b.2.2.toList) bK d λj h3=>
 Br (!j)
 (aR a c.1 λl=>
 ag xR (qf 9 (l.add (c.1.toNat*1)) f) h3 λ_ k=>
 g (qc xN (c.1+1),qc xN (c.2+1)) k)
 (g (c.1,qc xN (c.2+1)) h3))
 ((0<=c.1/\c.1<=(a.len:Int))/\
 ag xR (Builtin.clear_ #[37] 0 #[(.slice (if a.cap=c.1.toNat then a.ptr else a.ptr.map (·.add (c.1.toNat*1))) (a.len-c.1.toNat) (a.cap-c.1.toNat))]) d λ_ m=>
 (0<=c.1/\c.1<=(a.cap:Int))/\
 R (xI a.ptr c.1.toNat a.cap) m)) (e,qc xN (e+1)) i)
theorem iP(b:Sl)(a:cI)(c:@gi R h b a):ac xR 86 #[b,(.func (.func a.1) a.2.1 a.2.2)] h R:=au af func86 (al.tn (al.tn (al.tn (.two (al.tn (.inn (.loop [(5,ba),(6,ba)] [(5,8),(16,36)] .n))) .n)))) c
def BM(a:ByteArray)(b:Addr):Prop:=
 jI h b λe=>
 ae xR 32 #[e,a] (.many [ci,ba]) h λd c=>
 R (xL (d.2 !=0)) c
theorem Jq(a:ByteArray)(b:Addr)(c:@BM R h a b):ac xR 87 #[a,b] h R:=au af func87 .n c
def Fw(b:Int)(a:Int):Prop:=
 Br (b>=0) (Br (b<64) (Br (a>=1) (R (decide (a<=512)) h) (R eR h)) (R eR h)) (R eR h)
theorem Mo(b:Int)(a:Int)(c:@Fw R h b a):ac xR 88 #[b,a] h R:=au af func88 .n c
def nO(b:aT)(a:Int)(c:aT):Prop:=
 Br (!(qW b)) (Br (a>=0) (Br (a<64)
 (∃d,(b=dB d)/\
 (0<=a/\a<((64:Nat):Int))/\
 ag xR (qf 74 ((d.add 10).add (a.toNat*1)) c) h λ_ e=>
 R (.tuple #[]) e)
 (R (.tuple #[]) h)) (R (.tuple #[]) h)) (R (.tuple #[]) h)
theorem rI(b:aT)(a:Int)(c:aT)(d:@nO R h b a c):ac xR 89 #[b,a,c] h R:=au af func89 .n d
def rJ(a:aT):Prop:=
 Br (qW a)
 (R (xJ eH) h)
 (∃b,(a=dB b)/\
 jI h (b.add 8) λx2=>
 R x2 h)
theorem Da(a:aT)(b:@rJ R h a):ac xR 90 #[a] h R:=au af func90 .n b
def tm(b:aT)(a:ByteArray):Prop:=
 aU xR (qO 9 a) h λf d=>
 ∃c,(b=dB c)/\
 bn d (c.add 7) λx3=>
 ae xR 152 #[x3,(.func (.func 153) #[] #[f])] bz d λg e=>
 R g e
theorem EC(b:aT)(a:ByteArray)(c:@tm R h b a):ac xR 91 #[b,a] h R:=au af func91 .n c
def rK(a:aT):Prop:=
 aU xR (qO 27 a) h λb c=>
 jI c b λx2=>
 ae xR 25 #[x2] aL c λe d=>
 ae xR 116 #[e,(.func (.func 154) #[] #[b])] bK d λf h3=>
 R f h3
theorem Db(a:aT)(b:@rK R h a):ac xR 92 #[a] h R:=au af func92 .n b
def Dc(v:bJ)(a:Int)(l:Sl):Prop:=
 aU xR (qO 24 v) h λd L=>
 bi (σ:=Unit) (λ_ J=>
 bi (σ:=Unit) (λ_ K=>
 ∃t:bJ,an K d 0 t/\
 ae xR 160 #[t,(xH xP a),l] (.many [ci,ba]) K λk h8=>
 Br (k.2 !=0)
 (R (.tuple #[(xI eH 0 0),k.2]) h8)
 (bf h8 d λH=>
 aM (σ:=Sl×Int) (λc Q G=>
 Br (c.2<H)
 (bf G (d.add 2) λp=>
 az xR (qF 34 p p) aL G λi s=>
 ∃o:bJ,an s d 0 o/\
 ae xR 161 #[o,(xH xP a),c.2] aL s λm F=>
 aM (σ:=Int) (λg N f=>
 Br (g<(m.len:Int))
 (aR m g λE=>
 bf f (E.add (g.toNat*1)) λr=>
 aR k.1 r λy=>
 bn f (y.add (r.toNat*1)) λn=>
 aM (σ:=Int) (λb S e=>
 Br (b<(n.len:Int))
 (aR n b λu=>
 gF .u8 e (u.add (b.toNat*1)) λB=>
 aR i b λA=>
 gF .u8 e (A.add (b.toNat*1)) λw=>
 aR i b λa28=>
 ag xR (qf 5 (a28.add (b.toNat*1)) (xH xO (qc xO ((qD (qk xO) w^^^(qD (qk xO) B)).toNat:Nat)))) e λ_ x=>
 S (qc xN (b+1)) x)
 (N (qc xN (g+1)) e)) (0:Int) f)
 (az xR (qt #[34,34] 34 #[c.1,i]) aL f λj D=>
 Q ((⟨j.ptr,j.len,j.cap⟩:Sl),qc xN (c.2+1)) D)) (0:Int) F)
 (R (.tuple #[c.1,(xH xN 0)]) G)) ((⟨eH,0,0⟩:Sl),(0:Int)) h8))
 (λT=>
 ∃q:bJ,an J d 0 q/\
 ae xR 159 #[l] aL J λV M=>
 (aA.ok [(d,q.1),(d.add 1,q.2.1),(d.add 2,q.2.2)] M)/\
 ae xR 158 #[q,(xH xP a),V] bK M λO z=>
 (aA.ok [] z)/\
 Br (!O)
 (R (.tuple #[(xI eH 0 0),(xH xN 9)]) z)
 (T () z)))
 (λU=>
 ∃x2:bJ,an L d 0 x2/\
 ae xR 40 #[x2] bK L λP I=>
 Br (!P) (R (.tuple #[(xI eH 0 0),(xH xN 1)]) I) (ae xR 155 #[l,(.func (.func 156) #[] #[d])] bK I λW h3=>
 Br W
 (R (.tuple #[(xI eH 0 0),(xH xN 1)]) h3)
 (U () h3)))
theorem KM(b:bJ)(a:Int)(c:Sl)(d:@Dc R h b a c):ac xR 93 #[b,(xH xP a),c] h R:=au af func93 (al.tn (.two (.join [] [(6,8),(17,25)] .n) (.two (.join [] [(6,8),(25,31)] .n) (al.tn (al.tn (al.tn (.two (al.tn (.inn (.loop [(10,ci),(43,ba)] [(10,13),(14,17),(43,81)] (al.tn (al.tn (.two (.inn (al.tn (al.tn (.two (al.tn (.inn (.loop [(54,ba)] [(14,17),(54,77)] (al.tn (al.tn (.two (.inn (al.tn (al.tn (.inn (.loop [(63,ba)] [(15,17),(63,76)] .n))))) .n)))))) .n)))) .n)))))) .n))))))) d
def Hl(i:bJ)(b:Sl)(a:Int):Prop:=
 aU xR (qO 24 i) h λl o=>
 bi (σ:=Unit) (λ_ q=>
 aM (σ:=Sl×Int) (λd u g=>
 Br (d.2<(b.len:Int))
 (aR b d.2 λw=>
 bn g (w.add (d.2.toNat*1)) λm=>
 ∃e:bJ,an g l 0 e/\
 ae xR 106 #[e] bz g λj n=>
 Br ((m.len:Int) !=j)
 (R (.tuple #[(xI eH 0 0),eR]) n)
 (az xR (qt #[34,34] 34 #[d.1,m]) aL n λc r=>
 u ((⟨c.ptr,c.len,c.cap⟩:Sl),qc xN (d.2+1)) r))
 (az xR (Instr.sliceAt 34 d.1 eH (dB a) (dB a)) aL g λk h8=>
 R (.tuple #[k,eL]) h8)) ((⟨eH,0,0⟩:Sl),(0:Int)) q)
 (λv=>
 ∃x2:bJ,an o l 0 x2/\
 ae xR 40 #[x2] bK o λs f=>
 Br (!s) (R (.tuple #[(xI eH 0 0),eR]) f) (Br (a<0) (R (.tuple #[(xI eH 0 0),eR]) f) (∃p:bJ,an f l 0 p/\
 ae xR 48 #[p,a] bz f λt h3=>
 Br ((b.len:Int) !=t)
 (R (.tuple #[(xI eH 0 0),eR]) h3)
 (v () h3))))
theorem OB(a:bJ)(b:Sl)(c:Int)(d:@Hl R h a b c):ac xR 94 #[a,b,c] h R:=au af func94 (al.tn (.two (.join [] [(6,8),(11,26)] .n) (al.tn (.two (al.tn (.inn (.loop [(8,ci),(28,ba)] [(6,9),(10,11),(28,41)] .n))) .n)))) d
def Mp(r:cW):Prop:=
 aU xR (qO 44 r) h λc G=>
 bi (σ:=Unit) (λ_ F=>
 bi (σ:=Unit) (λ_ h8=>
 bn h8 (c.add 7) λl=>
 aM (σ:=Int) (λa M D=>
 Br (a<(l.len:Int))
 (aR l a λq=>
 ∃j:jn,an D (q.add (a.toNat*4)) 0 j/\
 aU xR (qK 94 eL (.tuple #[])) D λd B=>
 ag xR (qf 94 d j) B λ_ f=>
 bi (σ:=Unit) (λ_ g=>
 bn g (c.add 7) λe=>
 (0<=a/\a<=(e.cap:Int))/\
 ae xR 165 #[(xI e.ptr a.toNat e.cap),(.func (.func 166) #[] #[d])] bK g λz k=>
 Br z
 (R eR k)
 (M (qc xN (a+1)) k))
 (λE=>
 ∃m:cW,an f c 0 m/\
 ∃i:jn,an f d 0 i/\
 ae xR 164 #[m,i] bK f λv b=>
 (aA.ok [] b)/\
 Br (!v) (R eR b) (Br (a>0) (bn b (c.add 7) λy=>
 aR y (qc xN (a-1)) λu=>
 td b (u.add ((qc xN (a-1)).toNat*4)) λx=>
 td b d λo=>
 Br (!(Op.bytesLess x.toList o.toList))
 (R eR b)
 (E () b)) (E () b))))
 (R eL D)) (0:Int) h8)
 (λN=>
 bn F (c.add 6) λA=>
 ae xR 163 #[A,(xH xN 63)] bK F λs n=>
 Br (!s) (R eR n) (bn n (c.add 7) λw=>
 Br ((w.len:Int)>12)
 (R eR n)
 (N () n))))
 (λP=>
 bf G c λx2=>
 ae xR 162 #[x2,(xH xN 1),(xH xN 2147483647)] bK G λJ p=>
 Br (!J) (R eR p) (bf p (c.add 1) λO=>
 ae xR 162 #[O,(xH xN 0),(xH xN 16777216)] bK p λL h3=>
 Br (!L) (R eR h3) (∃H:bJ,an h3 (c.add 2) 0 H/\
 ae xR 40 #[H] bK h3 λQ t=>
 Br (!Q) (R eR t) (bf t (c.add 5) λK=>
 ae xR 162 #[K,(xH xN 0),(xH xN 16)] bK t λS I=>
 Br (!S)
 (R eR I)
 (P () I)))))
theorem Tt(a:cW)(b:@Mp R h a):ac xR 95 #[a] h R:=au af func95 (al.tn (.two (.join [] [(2,3),(5,27)] .n) (.two (.join [] [(2,3),(27,37)] .n) (.two (al.tn (.inn (.loop [(40,ba)] [(2,5),(40,72)] (al.tn (al.tn (.two (.inn (al.tn (.two (.join [] [(2,3),(45,65)] .n) .n))) .n)))))) .n)))) b
def uv(a:aT):Prop:=
 Br (qW a)
 (R (xI eH 0 0) h)
 (∃b,(a=dB b)/\
 bn h (b.add 2) λx2=>
 ae xR 167 #[x2] aL h λd c=>
 R d c)
theorem FZ(a:aT)(b:@uv R h a):ac xR 96 #[a] h R:=au af func96 .n b
def iW(b:Sl)(a:cI):Prop:=
 ae xR 168 #[b,(.func (.func a.1) a.2.1 a.2.2)] bz h λc d=>
 R (decide (c>=0)) d
theorem mW(b:Sl)(a:cI)(c:@iW R h b a):ac xR 97 #[b,(.func (.func a.1) a.2.1 a.2.2)] h R:=au af func97 .n c
def Dd(b:Sl)(a:Addr):Prop:=
 bn h a λe=>
 ae xR 99 #[b,e] bK h λd c=>
 R d c
theorem KN(b:Sl)(a:Addr)(c:@Dd R h b a):ac xR 98 #[b,a] h R:=au af func98 .n c
def Fx(a:Sl)(b:Sl):Prop:=
 az xR (convert 34 9 a) (.one LY) h λe d=>
 az xR (convert 34 9 b) (.one LY) d λf c=>
 R (xL (e.toList==f.toList)) c
theorem Mq(a:Sl)(b:Sl)(c:@Fx R h a b):ac xR 99 #[a,b] h R:=au af func99 .n c
def JO(Q:cW):Prop:=
 aU xR (qO 44 Q) h λe h1=>
 ∃x2:cW,an h1 e 0 x2/\
 ae xR 95 #[x2] bK h1 λr3 G=>
 Br (!r3)
 (R (xI eH 0 0) G)
 (bi (σ:=Sl) (λs8 s=>
 bf s (e.add 2) λx9=>
 bf s ((e.add 2).add 1) λao=>
 bf s ((e.add 2).add 2) λam=>
 bf s (e.add 5) λK=>
 bn s (e.add 6) λI=>
 az xR (qq 34 5 #[(0,(xH xO (qc xO x9))),(1,(xH xO (qc xO ao))),(2,(xH xO (qc xO am))),(3,(xH xO (qc xO K))),(4,(xH xO (qc xO (I.len:Int))))]) aL s λN h6=>
 az xR (qt #[34,34] 34 #[s8,N]) aL h6 λp h7=>
 bn h7 (e.add 6) λD=>
 aM (σ:=Sl×Int) (λd K2 h8=>
 Br (d.2<(D.len:Int))
 (aR D d.2 λV=>
 bf h8 (V.add (d.2.toNat*1)) λH=>
 az xR (qq 34 1 #[(0,(xH xO (qc xO H)))]) aL h8 λO h9=>
 az xR (qt #[34,34] 34 #[d.1,O]) aL h9 λi X=>
 K2 ((⟨i.ptr,i.len,i.cap⟩:Sl),qc xN (d.2+1)) X)
 (bn h8 (e.add 7) λah=>
 az xR (qq 34 1 #[(0,(xH xO (qc xO (ah.len:Int))))]) aL h8 λab Z=>
 az xR (qt #[34,34] 34 #[d.1,ab]) aL Z λr z=>
 bn z (e.add 7) λE=>
 aM (σ:=Sl×Int) (λc K3 q=>
 Br (c.2<(E.len:Int))
 (aR E c.2 λY=>
 ∃v:jn,an q (Y.add (c.2.toNat*4)) 0 v/\
 aU xR (qK 94 eL (.tuple #[])) q λa T=>
 ag xR (qf 94 a v) T λ_ k=>
 bi (σ:=Sl) (λU o=>
 bi (σ:=Sl) (λm x=>
 bn x (a.add 3) λw=>
 aM (σ:=Sl×Int) (λb K6 j=>
 Br (b.2<(w.len:Int))
 (aR w b.2 λP=>
 bf j (P.add (b.2.toNat*1)) λL=>
 az xR (qq 34 1 #[(0,(xH xO (qc xO L)))]) aL j λv45 ap=>
 az xR (qt #[34,34] 34 #[b.1,v45]) aL ap λv46 S=>
 K6 ((⟨v46.ptr,v46.len,v46.cap⟩:Sl),qc xN (b.2+1)) S)
 (K3 ((⟨b.1.ptr,b.1.len,b.1.cap⟩:Sl),qc xN (c.2+1)) j)) ((⟨m.ptr,m.len,m.cap⟩:Sl),(0:Int)) x)
 (λK5=>
 bf o (a.add 1) λW=>
 bf o (a.add 2) λB=>
 ae xR 169 #[U,W,(xH xN 3)] aL o λad y=>
 (aA.ok [(a.add 2,B)] y)/\
 ae xR 169 #[ad,B,(xH xN 2)] aL y λg A=>
 (aA.ok [] A)/\
 K5 (⟨g.ptr,g.len,g.cap⟩:Sl) A))
 (λK4=>
 td k a λf=>
 td k a λl=>
 az xR (qq 34 1 #[(0,(xH xO (qc xO (f.size:Int))))]) aL k λM t=>
 (aA.ok [(a,l),(a,f)] t)/\
 az xR (qt #[34,34] 34 #[c.1,M]) aL t λJ u=>
 (aA.ok [(a,l),(a,f)] u)/\
 az xR (qt #[34,9] 34 #[J,l]) aL u λn F=>
 (aA.ok [(a,f)] F)/\
 K4 (⟨n.ptr,n.len,n.cap⟩:Sl) F))
 (R c.1 q)) ((⟨r.ptr,r.len,r.cap⟩:Sl),(0:Int)) z)) ((⟨p.ptr,p.len,p.cap⟩:Sl),(0:Int)) h7)
 (λK1=>
 bf G e λx4=>
 bf G (e.add 1) λx5=>
 ae xR 169 #[(xI eH 0 0),x4,(xH xN 4)] aL G λr6 h3=>
 (aA.ok [(e.add 1,x5)] h3)/\
 ae xR 169 #[r6,x5,(xH xN 4)] aL h3 λr7 h4=>
 (aA.ok [] h4)/\
 K1 (⟨r7.ptr,r7.len,r7.cap⟩:Sl) h4))
theorem QY(a:cW)(b:@JO R h a):ac xR 100 #[a] h R:=au af func100 (al.tn (al.tn (.two (.join [(3,ci)] [(3,4),(13,19)] .n) (al.tn (.two (al.tn (.inn (.loop [(3,ci),(44,ba)] [(3,4),(5,6),(44,54)] .n))) (al.tn (.two (al.tn (.inn (.loop [(3,ci),(64,ba)] [(3,4),(7,8),(9,10),(64,99)] (al.tn (al.tn (.two (.inn (al.tn (.two (.join [(3,ci)] [(3,4),(68,78)] .n) (.two (.join [(3,ci)] [(3,4),(78,85)] .n) (al.tn (.inn (.loop [(3,ci),(88,ba)] [(3,4),(9,10),(88,98)] .n))))))) .n)))))) .n))))))) b
def Mr(a:Int)(b:Int)(c:Int)(d:Sl):Prop:=
 (0<=(24:Int))/\
 (0<=(16:Int))/\
 (0<=(8:Int))/\
 az xR (qq 34 7 #[(0,(xH xO (qc xO (qX a (2^min (24:Int).toNat (qk xN)))))),(1,(xH xO (qc xO (qX a (2^min (16:Int).toNat (qk xN)))))),(2,(xH xO (qc xO (qX a (2^min (8:Int).toNat (qk xN)))))),(3,(xH xO (qc xO a))),(4,(xH xO (qc xO b))),(5,(xH xO (qc xO c))),(6,(xH xO (qc xO (d.len:Int))))]) aL h λg f=>
 az xR (qt #[34,34] 34 #[g,d]) aL f λi e=>
 ae xR 147 #[(xH xN 2),i] aL e λj h3=>
 R j h3
theorem Tu(c:Int)(a:Int)(b:Int)(d:Sl)(e:@Mr R h c a b d):ac xR 101 #[c,a,b,d] h R:=au af func101 .n e
def lT(a:aT)(f:Sl):Prop:=
 bi (σ:=Unit) (λ_ h3=>
 bi (σ:=Unit) (λ_ h8=>
 ∃i,(a=dB i)/\
 bf h8 (i.add 3) λr=>
 ∃g,(a=dB g)/\
 ag xR (qf 3 (g.add 3) (qc xN (r+1))) h8 λ_ B=>
 ∃a22,(a=dB a22)/\
 jI B a22 λq=>
 ae xR 170 #[q] bK B λo j=>
 Br (!o)
 (R (xH xN 14) j)
 (ae xR 171 #[a] bz j λl s=>
 R l s))
 (λH=>
 ∃b,(a=dB b)/\
 bn h3 (b.add 2) λc=>
 ae xR 146 #[f] aL h3 λp u=>
 (aA.ok [(b.add 2,c)] u)/\
 az xR (qq 85 1 #[(0,p)]) aL u λk z=>
 (aA.ok [(b.add 2,c)] z)/\
 az xR (qt #[85,85] 85 #[c,k]) aL z λn w=>
 (aA.ok [] w)/\
 ∃e,(a=dB e)/\
 ag xR (qf 85 (e.add 2) n) w λ_ v=>
 (aA.ok [] v)/\
 H () v))
 (λJ=>
 Br ((f.len:Int) !=64)
 (R (xH xN 1) h)
 (bi (σ:=Bool) (λI d=>
 Br I
 (R (xH xN 5) d)
 (∃a4,(a=dB a4)/\
 bn d (a4.add 2) λF=>
 ∃A,(a=dB A)/\
 bf d (A.add 1) λG=>
 Br ((F.len:Int)>=G)
 (R (xH xN 7) d)
 (∃D,(a=dB D)/\
 jI d D λE=>
 ae xR 121 #[E] bK d λm t=>
 Br (!m)
 (R (xH xN 14) t)
 (J () t))))
 (λy=>
 Br (qW a) (y eL h) (∃x,(a=dB x)/\
 rC h (x.add 6) λx2=>
 y x2 h))))
theorem oc(a:aT)(b:Sl)(c:@lT R h a b):ac xR 102 #[a,b] h R:=au af func102 (al.tn (.two (.join [] [(4,36)] (.inn (al.tn (al.tn (.two (.join [(9,jp)] [(9,18)] .n) .n))))) (.two (.join [] [(36,47)] .n) .n))) c
def Ms(a:cI)(b:Sl):Prop:=
 ae xR 128 #[b] aL h λf l=>
 ae xR 148 #[f] hJ l λ_ j=>
 ae xR 172 #[f] aL j λg h3=>
 aM (σ:=Int) (λc k d=>
 Br (c<(g.len:Int))
 (aR g c λa5=>
 bf d (a5.add (c.toNat*1)) λo=>
 ia C a.1 (a.2.1.toList++[(xH xN o)]++a.2.2.toList) jo d λm n=>
 ae xR 173 #[m] bz n λi e=>
 Br (i !=0)
 (R i e)
 (k (qc xN (c+1)) e))
 (R (xH xN 0) d)) (0:Int) h3
theorem Tv(b:cI)(a:Sl)(c:@Ms R h b a):ac xR 103 #[(.func (.func b.1) b.2.1 b.2.2),a] h R:=au af func103 (al.tn (al.tn (al.tn (.two (al.tn (.inn (.loop [(15,ba)] [(4,5),(6,8),(15,27)] .n))) .n)))) c
def JP(e:ByteArray):Prop:=
 az xR (convert 9 34 e) aL h λf g=>
 aM (σ:=Int) (λc d a=>
 Br (c<(f.len:Int))
 (aR f c λa3=>
 gF .u8 a (a3.add (c.toNat*1)) λb=>
 Br (b<97) (Br (b<48) (Br (b !=45)
 (R eR a)
 (d (qc xN (c+1)) a)) (Br (b>57) (Br (b !=45)
 (R eR a)
 (d (qc xN (c+1)) a)) (d (qc xN (c+1)) a))) (Br (b>122) (Br (b<48) (Br (b !=45)
 (R eR a)
 (d (qc xN (c+1)) a)) (Br (b>57) (Br (b !=45)
 (R eR a)
 (d (qc xN (c+1)) a)) (d (qc xN (c+1)) a))) (d (qc xN (c+1)) a)))
 (Br ((e.size:Int)>=1) (R (decide ((e.size:Int)<=12)) a) (R eR a))) (0:Int) g
theorem QZ(a:ByteArray)(b:@JP R h a):ac xR 104 #[a] h R:=au af func104 (al.tn (.two (al.tn (.inn (.loop [(8,ba)] [(2,3),(4,5),(8,31)] .n))) .n)) b
def JQ(g:bJ)(a:Int)(b:Int):Prop:=
 aU xR (qO 24 g) h λc k=>
 aM (σ:=Int) (λd j e=>
 Br (d<16)
 (∃x3:bJ,an e c 0 x3/\
 ae xR 62 #[a,b,d] (.one (.sc (.int .u32))) e λl h3=>
 (aA.ok [(c,x3.1),(c.add 1,x3.2.1),(c.add 2,x3.2.2)] h3)/\
 ae xR 174 #[x3,(xH xP l)] bK h3 λi f=>
 (aA.ok [] f)/\
 Br i
 (R (.tuple #[d,eL]) f)
 (j (qc xN (d+1)) f))
 (R (.tuple #[(xH xN 0),eR]) e)) (0:Int) k
theorem Ra(c:bJ)(a:Int)(b:Int)(d:@JQ R h c a b):ac xR 105 #[c,a,b] h R:=au af func105 (al.tn (.two (al.tn (.inn (.loop [(9,ba)] [(6,20)] .n))) .n)) d
def Ao(b:bJ):Prop:=
 aU xR (qO 24 b) h λc a=>
 bf a c λx2=>
 bf a (c.add 2) λx3=>
 R (qc xN (x2*x3)) a
theorem De(a:bJ)(b:@Ao R h a):ac xR 106 #[a] h R:=au af func106 .n b
def Fy(e:bJ)(a:Sl):Prop:=
 aU xR (qO 24 e) h λg k=>
 ∃x2:bJ,an k g 0 x2/\
 ae xR 48 #[x2,(xH xN (a.len:Int))] bz k λr o=>
 aM (σ:=Sl×Int) (λb t h3=>
 Br (b.2<r)
 (∃i:bJ,an h3 g 0 i/\
 ae xR 106 #[i] bz h3 λn p=>
 az xR (qF 34 n n) aL p λl m=>
 ∃j:bJ,an m g 0 j/\
 ae xR 106 #[j] bz m λd s=>
 (0<=(qc xN (b.2*d))/\(qc xN (b.2*d))<=(a.len:Int))/\
 az xR (wJ #[34,34] 3 #[l,(.slice (if a.cap=(qc xN (b.2*d)).toNat then a.ptr else a.ptr.map (·.add ((qc xN (b.2*d)).toNat*1))) (a.len-(qc xN (b.2*d)).toNat) (a.cap-(qc xN (b.2*d)).toNat))]) bz s λ_ q=>
 az xR (qq 85 1 #[(0,l)]) aL q λf h8=>
 az xR (qt #[85,85] 85 #[b.1,f]) aL h8 λc u=>
 t ((⟨c.ptr,c.len,c.cap⟩:Sl),qc xN (b.2+1)) u)
 (R b.1 h3)) ((⟨eH,0,0⟩:Sl),(0:Int)) o
theorem Mt(a:bJ)(b:Sl)(c:@Fy R h a b):ac xR 107 #[a,b] h R:=au af func107 (al.tn (al.tn (.two (al.tn (.inn (.loop [(5,ci),(12,ba)] [(5,8),(12,31)] .n))) .n))) c
def Hm(D:bJ)(d:Int)(a:Sl):Prop:=
 aU xR (qO 24 D) h λc N=>
 bi (σ:=Unit) (λ_ h3=>
 ∃M:bJ,an h3 c 0 M/\
 ae xR 174 #[M,(xH xP d)] bK h3 λQ y=>
 Br (!Q)
 (R (.tuple #[(xJ eH),(xH xN 8)]) y)
 (bf y (c.add 1) λO=>
 aM (σ:=Sl×Int) (λg X x=>
 Br (g.2<O)
 (bf x (c.add 2) λw=>
 az xR (qF 34 w w) aL x λJ V=>
 az xR (qq 85 1 #[(0,J)]) aL V λE T=>
 az xR (qt #[85,85] 85 #[g.1,E]) aL T λm h8=>
 X ((⟨m.ptr,m.len,m.cap⟩:Sl),qc xN (g.2+1)) h8)
 (bf x c λF=>
 aM (σ:=Sl×Int) (λb W p=>
 Br (b.2<F)
 (bf p (c.add 2) λf=>
 bf p (c.add 2) λl=>
 (0<=(qc xN (b.2*f))/\(qc xN (b.2*f))<=(qc xN ((qc xN (b.2+1))*l))/\(qc xN ((qc xN (b.2+1))*l))<=(a.cap:Int))/\
 az xR (qq 85 1 #[(0,(.slice (if a.cap=(qc xN (b.2*f)).toNat then a.ptr else a.ptr.map (·.add ((qc xN (b.2*f)).toNat*1))) ((qc xN ((qc xN (b.2+1))*l)).toNat-(qc xN (b.2*f)).toNat) (a.cap-(qc xN (b.2*f)).toNat)))]) aL p λz K=>
 az xR (qt #[85,85] 85 #[b.1,z]) aL K λn L=>
 W ((⟨n.ptr,n.len,n.cap⟩:Sl),qc xN (b.2+1)) L)
 (bi (σ:=Sl×Int) (λs o=>
 Br (s.2 !=0)
 (R (.tuple #[(xJ eH),(xH xN 8)]) o)
 (∃k:bJ,an o c 0 k/\
 aU xR (qO 234 (xM #[k.1,k.2.1,k.2.2,(xH xP d),s.1])) o λB H=>
 R (.tuple #[B,(xH xN 0)]) H))
 (λP=>
 ∃e:bJ,an p c 0 e/\
 ∃i:bJ,an p c 0 i/\
 ae xR 65 #[] jo p λI t=>
 (aA.ok [(c,i.1),(c.add 1,i.2.1),(c.add 2,i.2.2),(c,e.1),(c.add 1,e.2.1),(c.add 2,e.2.2)] t)/\
 ae xR 176 #[i] aL t λG r=>
 (aA.ok [(c,e.1),(c.add 1,e.2.1),(c.add 2,e.2.2)] r)/\
 ae xR 66 #[e,(xH xP d),G] aL r λA u=>
 (aA.ok [] u)/\
 ae xR 175 #[I,A,b.1] (.many [ci,ba]) u λj v=>
 (aA.ok [] v)/\
 P ((⟨j.1.ptr,j.1.len,j.1.cap⟩:Sl),j.2) v))) ((⟨g.1.ptr,g.1.len,g.1.cap⟩:Sl),(0:Int)) x)) ((⟨eH,0,0⟩:Sl),(0:Int)) y))
 (λZ=>
 ∃x2:bJ,an N c 0 x2/\
 ae xR 40 #[x2] bK N λU q=>
 Br (!U) (R (.tuple #[(xJ eH),(xH xN 1)]) q) (bf q c λY=>
 bf q (c.add 2) λS=>
 Br ((a.len:Int) !=(qc xN (Y*S)))
 (R (.tuple #[(xJ eH),(xH xN 1)]) q)
 (Z () q)))
theorem OC(c:bJ)(b:Int)(a:Sl)(d:@Hm R h c b a):ac xR 108 #[c,(xH xP b),a] h R:=au af func108 (al.tn (.two (.join [] [(6,8),(12,25)] .n) (al.tn (al.tn (.two (al.tn (.inn (.loop [(8,ci),(31,ba)] [(8,9),(31,40)] .n))) (.two (al.tn (.inn (.loop [(8,ci),(42,ba)] [(8,10),(42,60)] .n))) (.two (.join [(10,ci),(11,ba)] [(10,12),(60,71)] .n) .n))))))) d
def Fz(a:Int)(b:Int)(c:Sl):Prop:=
 bi (σ:=Unit) (λ_ K=>
 ((64:Int)≠0)/\
 ae xR 177 #[(wB (qc xN ((qc xN (8*a))+b)) 64)] (.one (.sc (.cpx .f64))) K λz E=>
 aU xR (qK 238 eL (.tuple #[])) E λa3 h3=>
 aM (σ:=Sl×Int) (λe A l=>
 Br (e.2<(c.len:Int))
 (aR c e.2 λa5=>
 bf l (a5.add (e.2.toNat*1)) λf=>
 bi (σ:=Bool) (λI B=>
 Br I
 ((0<=f/\f<((64:Nat):Int))/\
 ag xR (qf 4 (a3.add (f.toNat*1)) eL) B λ_ H=>
 ae xR 177 #[f] (.one (.sc (.cpx .f64))) H λD G=>
 ae xR 178 #[(.complex .f64 D.1 D.2),(.complex .f64 z.1 z.2)] (.one (.sc (.flt .f64))) G λq h8=>
 az xR (qq 237 1 #[(0,(xM #[f,(.float .f64 q)]))]) aL h8 λs M=>
 az xR (qt #[237,237] 237 #[e.1,s]) aL M λk x=>
 A ((⟨k.ptr,k.len,k.cap⟩:Sl),qc xN (e.2+1)) x)
 (A ((⟨e.1.ptr,e.1.len,e.1.cap⟩:Sl),qc xN (e.2+1)) B))
 (λu=>
 Br (f>=0) (Br (f<64) ((0<=f/\f<((64:Nat):Int))/\
 rC l (a3.add (f.toNat*1)) λJ=>
 u (!J) l) (u eR l)) (u eR l)))
 (ae xR 179 #[e.1,(.func (.func 180) #[] #[])] hJ l λ_ y=>
 aM (σ:=Sl×Int) (λd F i=>
 Br (d.2<(e.1.len:Int))
 (aR e.1 d.2 λt=>
 ∃g:Int×Nat,an i (t.add (d.2.toNat*2)) 0 [g.1,(.float .f64 g.2)]/\
 aU xR (qK 242 eL (.tuple #[])) i λm o=>
 ag xR (qf 242 m (xM #[g.1,(.float .f64 g.2)])) o λ_ n=>
 bf n m λr=>
 az xR (qq 22 1 #[(0,r)]) aL n λp w=>
 az xR (qt #[22,22] 22 #[d.1,p]) aL w λj v=>
 F ((⟨j.ptr,j.len,j.cap⟩:Sl),qc xN (d.2+1)) v)
 (R d.1 i)) ((⟨eH,0,0⟩:Sl),(0:Int)) y)) ((⟨eH,0,0⟩:Sl),(0:Int)) h3)
 (λL=>
 Br (a<0) (R (xI eH 0 0) h) (Br (a>16777215) (R (xI eH 0 0) h) (Br (b<0) (R (xI eH 0 0) h) (Br (b>=8)
 (R (xI eH 0 0) h)
 (L () h)))))
theorem Mu(a:Int)(b:Int)(c:Sl)(d:@Fz R h a b c):ac xR 109 #[a,b,c] h R:=au af func109 (al.tn (.two (.join [] [(6,7),(15,29)] .n) (al.tn (al.tn (al.tn (.two (al.tn (.inn (.loop [(8,ci),(37,ba)] [(8,9),(11,12),(37,65)] (al.tn (al.tn (.two (.inn (al.tn (.two (.join [(52,jp)] [(41,53)] .n) .n))) .n)))))) (al.tn (al.tn (.two (al.tn (.inn (.loop [(12,ci),(69,ba)] [(12,13),(14,15),(69,79)] .n))) .n))))))))) d
def oY(c:aT)(b:Int):Prop:=
 bi (σ:=Unit) (λ_ t=>
 ∃v,(c=dB v)/\
 bf t (v.add 2) λx3=>
 az xR (qF 34 x3 x3) aL t λv4 k=>
 ∃a5,(c=dB a5)/\
 ∃u:bJ,an k a5 0 u/\
 ∃s,(c=dB s)/\
 gF .u32 k (s.add 3) λx=>
 ae xR 161 #[u,(xH xP x),b] aL k λw h3=>
 (aA.ok [] h3)/\
 aM (σ:=Int) (λd A e=>
 Br (d<(w.len:Int))
 (aR w d λm=>
 bf e (m.add (d.toNat*1)) λi=>
 ∃f,(c=dB f)/\
 bn e (f.add 4) λq=>
 aR q i λp=>
 bn e (p.add (i.toNat*1)) λg=>
 aM (σ:=Int) (λa z j=>
 Br (a<(g.len:Int))
 (aR g a λr=>
 gF .u8 j (r.add (a.toNat*1)) λn=>
 aR v4 a λo=>
 gF .u8 j (o.add (a.toNat*1)) λl=>
 aR v4 a λa22=>
 ag xR (qf 5 (a22.add (a.toNat*1)) (xH xO (qc xO ((qD (qk xO) l^^^(qD (qk xO) n)).toNat:Nat)))) j λ_ y=>
 z (qc xN (a+1)) y)
 (A (qc xN (d+1)) j)) (0:Int) e)
 (R v4 e)) (0:Int) h3)
 (λB=>
 Br (qW c) (R (xI eH 0 0) h) (Br (b<0) (R (xI eH 0 0) h) (Br (b>65535)
 (R (xI eH 0 0) h)
 (B () h))))
theorem AZ(b:aT)(a:Int)(c:@oY R h b a):ac xR 110 #[b,a] h R:=au af func110 (al.tn (.two (.join [] [(4,5),(10,20)] .n) (al.tn (.two (al.tn (.inn (.loop [(37,ba)] [(7,10),(37,63)] (al.tn (al.tn (.two (.inn (al.tn (al.tn (.inn (.loop [(49,ba)] [(8,10),(49,62)] .n))))) .n)))))) .n)))) c
def Mw(a:Sl)(b:Int):Prop:=
 bi (σ:=Unit) (λ_ c=>
 ((a.len:Int)≠0)/\
 aR a (wB b (a.len:Int)) λe=>
 bf c (e.add ((wB b (a.len:Int)).toNat*1)) λx3=>
 R x3 c)
 (λd=>
 Br ((a.len:Int)==0) (R (xH xN (-1:Int)) h) (Br (b<0)
 (R (xH xN (-1:Int)) h)
 (d () h)))
theorem Tw(a:Sl)(b:Int)(c:@Mw R h a b):ac xR 111 #[a,b] h R:=au af func111 (al.tn (.two (.join [] [(4,12)] .n) .n)) c
def Hn(l:eZ):Prop:=
 aU xR (qO 170 l) h λa s=>
 ∃x2:eZ,an s a 0 x2/\
 ae xR 184 #[x2] bK s λt c=>
 Br (!t)
 (R (xI eH 0 0) c)
 (bf c a λy=>
 ae xR 185 #[(xI eH 0 0),y,(xH xN 3)] aL c λw h3=>
 bf h3 (a.add 1) λx=>
 ae xR 185 #[w,x,(xH xN 1)] aL h3 λz q=>
 bf q (a.add 2) λu=>
 ae xR 185 #[z,u,(xH xN 2)] aL q λB b=>
 bf b (a.add 3) λo=>
 bf b ((a.add 3).add 1) λm=>
 bf b ((a.add 3).add 2) λp=>
 az xR (qq 34 3 #[(0,(xH xO (qc xO o))),(1,(xH xO (qc xO m))),(2,(xH xO (qc xO p)))]) aL b λj v=>
 az xR (qt #[34,34] 34 #[B,j]) aL v λi r=>
 gF .u32 r (a.add 6) λk=>
 ae xR 185 #[i,(qc xN k),(xH xN 4)] aL r λg h8=>
 bn h8 (a.add 7) λf=>
 az xR (qt #[34,34] 34 #[g,f]) aL h8 λe A=>
 ae xR 147 #[(xH xN 1),e] aL A λd n=>
 R d n)
theorem OD(a:eZ)(b:@Hn R h a):ac xR 112 #[a] h R:=au af func112 .n b
def iz(b:Sl)(a:cI):Prop:=
 ae xR 187 #[(xH xQ (qc xQ (b.len:Int)))] bz h λd e=>
 ae xR 186 #[b,(xH xN 0),(xH xN (b.len:Int)),d,(.func (.func a.1) a.2.1 a.2.2)] hJ e λ_ c=>
 R (.tuple #[]) c
theorem me(b:Sl)(a:cI)(c:@iz R h b a):ac xR 113 #[b,(.func (.func a.1) a.2.1 a.2.2)] h R:=au af func113 .n c
def Df(b:jn)(c:jn):Prop:=
 aU xR (qO 94 b) h λg i=>
 aU xR (qO 94 c) i λf a=>
 td a g λx3=>
 td a f λe=>
 ae xR 115 #[x3,e] bz a λd h3=>
 R d h3
theorem KO(a:jn)(b:jn)(c:@Df R h a b):ac xR 114 #[a,b] h R:=au af func114 .n c
def pV(a:ByteArray)(b:ByteArray):Prop:=
 ae xR 188 #[a] bK h λe f=>
 ae xR 188 #[b] bK f λd c=>
 Br e
 (Br d
 (R (xH xN 0) c)
 (R (xH xN (-1:Int)) c))
 (Br d
 (R (xH xN 1) c)
 (Br (Op.bytesLess a.toList b.toList)
 (R (xH xN (-1:Int)) c)
 (Br (!(Op.bytesLess a.toList b.toList||a.toList==b.toList))
 (R (xH xN 1) c)
 (R (xH xN 0) c))))
theorem Cp(a:ByteArray)(b:ByteArray)(c:@pV R h a b):ac xR 115 #[a,b] h R:=au af func115 .n c
def ic(b:Sl)(a:cI):Prop:=
 ae xR 189 #[b,(.func (.func a.1) a.2.1 a.2.2)] bz h λc d=>
 R (decide (c>=0)) d
theorem jS(b:Sl)(a:cI)(c:@ic R h b a):ac xR 116 #[b,(.func (.func a.1) a.2.1 a.2.2)] h R:=au af func116 .n c
def pW(b:Int)(a:Addr)(d:Addr):Prop:=
 jI h a λi=>
 ∃g,(i=dB g)/\
 (0<=b/\b<((64:Nat):Int))/\
 jI h ((g.add 10).add (b.toNat*1)) λx3=>
 jI h a λf=>
 ∃a5,(f=dB a5)/\
 ∃c:cW,an h a5 0 c/\
 ∃e:cI,cellOf h d=dB (.func (.func e.1) e.2.1 e.2.2)/\
 ia C e.1 (e.2.1.toList++[(xH xN b)]++e.2.2.toList) bz h λm k=>
 (aA.ok [(a5,c.1),(a5.add 1,c.2.1),(a5.add 2,c.2.2.1),(a5.add 3,c.2.2.2.1),(a5.add 4,c.2.2.2.2.1),(a5.add 5,c.2.2.2.2.2.1),(a5.add 6,c.2.2.2.2.2.2.1),(a5.add 7,c.2.2.2.2.2.2.2),(a,f),((g.add 10).add (b.toNat*1),x3),(a,i)] k)/\
 ae xR 118 #[x3,c,m] bK k λl j=>
 (aA.ok [(a,f),(a,i)] j)/\
 R (xL (!l)) j
theorem Cq(c:Int)(a:Addr)(b:Addr)(d:@pW R h c a b):ac xR 117 #[c,a,b] h R:=au af func117 .n d
def Cr(a:aT)(d:cW)(b:Int):Prop:=
 aU xR (qO 44 d) h λo f=>
 bi (σ:=Unit) (λ_ h3=>
 ae xR 191 #[a] bz h3 λr i=>
 ae xR 190 #[a,r,b] bK i λn c=>
 Br n (R eL c) (∃g:cW,an c o 0 g/\
 ae xR 123 #[a,g] aL c λq m=>
 ae xR 190 #[a,(xH xN (q.len:Int)),b] bK m λk l=>
 R k l))
 (λp=>
 Br (qW a) (R eR f) (ae xR 149 #[a] bK f λj e=>
 Br j
 (R eR e)
 (p () e)))
theorem FA(a:aT)(c:cW)(b:Int)(d:@Cr R h a c b):ac xR 118 #[a,c,b] h R:=au af func118 (al.tn (.two (.join [] [(6,13)] .n) .n)) d
def Ct(a:aT)(e:cW)(b:Int):Prop:=
 aU xR (qO 44 e) h λk l=>
 bi (σ:=Unit) (λ_ i=>
 ∃f:cW,an i k 0 f/\
 ae xR 123 #[a,f] aL i λc h8=>
 ae xR 125 #[a,c] bz h8 λd v=>
 R d v)
 (λs=>
 bi (σ:=Bool) (λr h3=>
 Br r
 (R (xH xN 5) h3)
 (∃n:cW,an h3 k 0 n/\
 ae xR 118 #[a,n,b] bK h3 λq g=>
 Br (!q)
 (R (xH xN 7) g)
 (ae xR 191 #[a] bz g λw t=>
 ae xR 190 #[a,w,b] bK t λu j=>
 Br u
 (R (xH xN 0) j)
 (s () j))))
 (λm=>
 Br (qW a) (m eL l) (ae xR 149 #[a] bK l λp o=>
 m p o)))
theorem FB(a:aT)(c:cW)(b:Int)(d:@Ct R h a c b):ac xR 119 #[a,c,b] h R:=au af func119 (al.tn (.two (.join [] [(6,26)] (.inn (.two (.join [(7,jp)] [(7,14)] .n) .n))) .n)) d
def lp(a:ByteArray):Prop:=
 Br ((a.size:Int)==0)
 (R nX h)
 (az xR (qF 34 (xH xN (a.size:Int)) (xH xN (a.size:Int))) aL h λb d=>
 az xR (wJ #[34,9] 3 #[b,a]) bz d λ_ c=>
 aR b (0:Int) λa3=>
 az xR (Builtin.unsafeString_ #[252,3] 9 #[(a3.add ((0:Int).toNat*1)),(xH xN (b.len:Int))]) (.one LY) c λv4 h3=>
 R v4 h3)
theorem pX(a:ByteArray)(b:@lp R h a):ac xR 120 #[a] h R:=au af func120 .n b
def Ap(a:aT):Prop:=
 Br (!(qW a)) (∃b,(a=dB b)/\
 rC h b λx2=>
 R (xL (!x2)) h) (R eR h)
theorem Ho(a:aT)(b:@Ap R h a):ac xR 121 #[a] h R:=au af func121 .n b
def Hp(a:Int)(b:Int):Prop:=
 Br (a>=0) (Br (a<=64) (Br (b>=0) (R (decide (b<=a)) h) (R eR h)) (R eR h)) (R eR h)
theorem OE(a:Int)(b:Int)(c:@Hp R h a b):ac xR 122 #[a,b] h R:=au af func122 .n c
def JR(d:aT)(c:cW):Prop:=
 aU xR (qO 44 c) h λa b=>
 ∃x2:cW,an b a 0 x2/\
 ∃x3:cW,an b a 0 x3/\
 ae xR 42 #[x2] aL b λj e=>
 (aA.ok [(a,x3.1),(a.add 1,x3.2.1),(a.add 2,x3.2.2.1),(a.add 3,x3.2.2.2.1),(a.add 4,x3.2.2.2.2.1),(a.add 5,x3.2.2.2.2.2.1),(a.add 6,x3.2.2.2.2.2.2.1),(a.add 7,x3.2.2.2.2.2.2.2)] e)/\
 ae xR 192 #[d,x3] aL e λg h3=>
 (aA.ok [] h3)/\
 az xR (qt #[85,85] 85 #[j,g]) aL h3 λi f=>
 (aA.ok [] f)/\
 R i f
theorem Rb(a:aT)(b:cW)(c:@JR R h a b):ac xR 123 #[a,b] h R:=au af func123 .n c
def oZ(a:aT)(b:Sl):Prop:=
 aM (σ:=Int) (λk G c=>
 Br (k<(b.len:Int))
 (aR b k λH=>
 bn c (H.add (k.toNat*1)) λx3=>
 Br ((x3.len:Int) !=64)
 (R (xH xN 1) c)
 (G (qc xN (k+1)) c))
 (bi (σ:=Unit) (λ_ v=>
 ∃g,(a=dB g)/\
 jI v g λr=>
 ae xR 170 #[r] bK v λl y=>
 Br (!l)
 (ae xR 167 #[b] aL y λp B=>
 ∃e,(a=dB e)/\
 ag xR (qf 85 (e.add 4) p) B λ_ A=>
 ∃j,(a=dB j)/\
 ag xR (qf 4 (j.add 5) eL) A λ_ h8=>
 R (xH xN 14) h8)
 (ae xR 167 #[b] aL y λm I=>
 ∃f,(a=dB f)/\
 ag xR (qf 85 (f.add 2) m) I λ_ s=>
 ∃i,(a=dB i)/\
 ag xR (qf 3 (i.add 3) (xH xN 0)) s λ_ u=>
 ae xR 171 #[a] bz u λo n=>
 R o n))
 (λF=>
 bi (σ:=Bool) (λE d=>
 Br E
 (R (xH xN 5) d)
 (∃w,(a=dB w)/\
 bf d (w.add 1) λD=>
 Br ((b.len:Int)>D)
 (R (xH xN 7) d)
 (∃a9,(a=dB a9)/\
 jI d a9 λt=>
 ae xR 121 #[t] bK d λq h3=>
 Br (!q)
 (R (xH xN 14) h3)
 (F () h3))))
 (λx=>
 Br (qW a) (x eL c) (∃a4,(a=dB a4)/\
 rC c (a4.add 6) λz=>
 x z c))))) (0:Int) h
theorem Ba(a:aT)(b:Sl)(c:@oZ R h a b):ac xR 125 #[a,b] h R:=au af func125 (al.tn (.two (al.tn (.inn (.loop [(9,ba)] [(4,5),(6,7),(9,17)] .n))) (.two (.join [] [(4,5),(17,41)] (.inn (.two (.join [(17,jp)] [(17,26)] .n) .n))) .n))) c
def od(a:Sl):Prop:=
 Br (qW a.ptr)
 (R (xI eH 0 0) h)
 (az xR (qq 22 0 #[]) aL h λd c=>
 az xR (qt #[22,22] 22 #[d,a]) aL c λe b=>
 R e b)
theorem Aq(a:Sl)(b:@od R h a):ac xR 128 #[a] h R:=au af func128 .n b
def iX(a:Sl):Prop:=
 Br (qW a.ptr)
 (R (xI eH 0 0) h)
 (az xR (qq 42 0 #[]) aL h λd c=>
 az xR (qt #[42,42] 42 #[d,a]) aL c λe b=>
 R e b)
theorem mX(a:Sl)(b:@iX R h a):ac xR 129 #[a] h R:=au af func129 .n b
def Dg(k:aT)(m:cW):Prop:=
 aU xR (qO 44 m) h λy z=>
 ae xR 96 #[k] aL z λq s=>
 aM (σ:=Sl×Int) (λa A h3=>
 Br ((qc xN (a.2+1))>=(q.len:Int))
 (ae xR 196 #[a.1,(.func (.func 197) #[] #[])] hJ h3 λ_ t=>
 ae xR 198 #[a.1,(.func (.func 199) #[] #[])] aL t λw B=>
 R w B)
 (bi (σ:=Sl) (λc i=>
 A ((⟨c.ptr,c.len,c.cap⟩:Sl),qc xN (a.2+1)) i)
 (λl=>
 aR q (qc xN (a.2+1)) λD=>
 bn h3 (D.add ((qc xN (a.2+1)).toNat*1)) λx=>
 ae xR 194 #[x] (.many [(.agg [(.int .i64),(.int .i64),(.int .i64),(.int .i64),(.int .i64),(.int .i64),(.int .u32),.slc]),jp]) h3 λr v=>
 aU xR (qK 170 eL (.tuple #[])) v λa9 u=>
 ag xR (qf 170 a9 r.1) u λ_ h8=>
 Br r.2 (∃f:cW,an h8 y 0 f/\
 ∃e:eZ,an h8 a9 0 e/\
 ae xR 195 #[f,e] bK h8 λg p=>
 Br g
 (∃d:eZ,an p a9 0 d/\
 az xR (qq 189 1 #[(0,d)]) aL p λj n=>
 az xR (qt #[189,189] 189 #[a.1,j]) aL n λb o=>
 l (⟨b.ptr,b.len,b.cap⟩:Sl) o)
 (l (⟨a.1.ptr,a.1.len,a.1.cap⟩:Sl) p)) (l (⟨a.1.ptr,a.1.len,a.1.cap⟩:Sl) h8)))) ((⟨eH,0,0⟩:Sl),(-1:Int)) s
theorem KP(a:aT)(b:cW)(c:@Dg R h a b):ac xR 130 #[a,b] h R:=au af func130 (al.tn (.scope 0 [(6,ci),(7,ba)] [(4,5),(6,10),(12,40)] [.n,.n,.n] [(al.tn (al.tn (.two (.join [(6,ci)] [(6,7),(8,10),(18,36)] .n) .n)))] [(1,[.n])])) c
def Hq(d:aT)(a:Sl):Prop:=
 ae xR 200 #[a] bK h λg e=>
 Br (!g)
 (R (xI eH 0 0) e)
 (ae xR 201 #[a] aL e λb f=>
 ae xR 203 #[d] jo f λk h3=>
 ae xR 204 #[b] bz h3 λl i=>
 ae xR 202 #[k,b,l] bz i λc j=>
 (0<=c/\c<=(b.cap:Int))/\
 R (xI b.ptr c.toNat b.cap) j)
theorem OF(b:aT)(a:Sl)(c:@Hq R h b a):ac xR 131 #[b,a] h R:=au af func131 .n c
def JS:Prop:=
 aU xR (qK 192 eL (.tuple #[])) h λc j=>
 aM (σ:=Int×Int) (λb g d=>
 Br (b.2<255)
 ((0<=b.2/\b.2<((255:Nat):Int))/\
 ag xR (qf 5 (c.add (b.2.toNat*1)) (xH xO b.1)) d λ_ h3=>
 ae xR 205 #[(xH xO b.1),(xH xO 3)] (.one (.sc (.int .u8))) h3 λk i=>
 g (k,qc xN (b.2+1)) i)
 (∃e:List (Int),(e.length=255/\an d c 0 (e.map (Sc.enc (.int .u8))))/\
 ag xR (qf 192 c (xM (e.map (Sc.enc (.int .u8))).toArray)) d λ_ f=>
 ∃a:List (Int),(a.length=255/\an f c 0 (a.map (Sc.enc (.int .u8))))/\
 R (xM (a.map (Sc.enc (.int .u8))).toArray) f)) ((1:Int),(0:Int)) j
theorem Rc(a:@JS R h):ac xR 132 #[] h R:=au af func132 (al.tn (al.tn (.two (al.tn (.inn (.loop [(1,(.sc (.int .u8))),(3,ba)] [(1,12)] .n))) .n))) a
def PU(e:List (Int)):Prop:=
 aU xR (qO 192 (xM (e.map (Sc.enc (.int .u8))).toArray)) h λl m=>
 aU xR (qK 194 eL (.tuple #[])) m λc g=>
 ∃x3:List (Int),(x3.length=255/\an g l 0 (x3.map (Sc.enc (.int .u8))))/\
 aM (σ:=Int) (λb j h3=>
 Br (b<255)
 (∃d:Int,(0<=b/\b<((255:Nat):Int)/\((x3.map (Sc.enc (.int .u8))).toArray:Array Value)[b.toNat]?=dB (xH xO d))/\
 (0<=d/\d<((256:Nat):Int))/\
 ag xR (qf 3 (c.add (d.toNat*1)) b) h3 λ_ k=>
 j (qc xN (b+1)) k)
 (∃f:List (Int),(f.length=256/\an h3 c 0 (f.map (Sc.enc (.int .i64))))/\
 ag xR (qf 194 c (xM (f.map (Sc.enc (.int .i64))).toArray)) h3 λ_ i=>
 ∃a:List (Int),(a.length=256/\an i c 0 (a.map (Sc.enc (.int .i64))))/\
 R (xM (a.map (Sc.enc (.int .i64))).toArray) i)) (0:Int) g
theorem VC(a:List (Int))(b:@PU R h a):ac xR 133 #[(xM (a.map (Sc.enc (.int .u8))).toArray)] h R:=au af func133 (al.tn (.two (al.tn (.inn (.loop [(6,ba)] [(3,5),(6,14)] .n))) .n)) b
def Tx(g:bJ)(b:Int)(a:Int):Prop:=
 aU xR (qO 24 g) h λk o=>
 bi (σ:=Unit) (λ_ h3=>
 ∃l:bJ,an h3 k 0 l/\
 ae xR 21 #[l] bz h3 λn s=>
 az xR (qF 34 n n) aL s λp q=>
 ∃m:bJ,an q k 0 m/\
 ae xR 161 #[m,(xH xP b),a] aL q λr u=>
 aM (σ:=Int) (λc v i=>
 Br (c<(r.len:Int))
 (aR r c λf=>
 bf i (f.add (c.toNat*1)) λd=>
 aR p d λj=>
 ag xR (qf 5 (j.add (d.toNat*1)) (xH xO 1)) i λ_ h8=>
 v (qc xN (c+1)) h8)
 (R p i)) (0:Int) u)
 (λw=>
 ∃x2:bJ,an o k 0 x2/\
 ae xR 40 #[x2] bK o λt e=>
 Br (!t) (R (xI eH 0 0) e) (Br (a<0) (R (xI eH 0 0) e) (Br (a>65535)
 (R (xI eH 0 0) e)
 (w () e))))
theorem Yn(c:bJ)(a:Int)(b:Int)(d:@Tx R h c a b):ac xR 134 #[c,(xH xP a),b] h R:=au af func134 (al.tn (.two (.join [] [(6,7),(10,21)] .n) (al.tn (.two (al.tn (.inn (.loop [(29,ba)] [(9,10),(29,37)] .n))) .n)))) d
def JT(a:Sl)(f:Int):Prop:=
 aM (σ:=Int) (λb m d=>
 Br (b>=0)
 (aR a b λn=>
 bf d (n.add (b.toNat*1)) λx3=>
 Br (decide (x3<(qc xN ((qc xN (f-(a.len:Int)))+b))))
 (aR a b λa4=>
 bf d (a4.add (b.toNat*1)) λk=>
 aR a b λo=>
 ag xR (qf 3 (o.add (b.toNat*1)) (qc xN (k+1))) d λ_ g=>
 aM (σ:=Int) (λc l h3=>
 Br (c<(a.len:Int))
 (aR a (qc xN (c-1)) λp=>
 bf h3 (p.add ((qc xN (c-1)).toNat*1)) λi=>
 aR a c λe=>
 ag xR (qf 3 (e.add (c.toNat*1)) (qc xN (i+1))) h3 λ_ j=>
 l (qc xN (c+1)) j)
 (R eL h3)) (qc xN (b+1)) g)
 (m (qc xN (b-1)) d))
 (R eR d)) (qc xN ((a.len:Int)-1)) h
theorem Re(a:Sl)(b:Int)(c:@JT R h a b):ac xR 135 #[a,b] h R:=au af func135 (al.tn (.two (al.tn (.inn (.loop [(5,ba)] [(4,7),(10,48)] (al.tn (.two (.inn (al.tn (.two (al.tn (.two (al.tn (.inn (.loop [(6,ba)] [(6,7),(33,48)] .n))) .n)) .n))) .n))))) .n)) c
def Mx(b:Int)(a:Int):Prop:=
 bi (σ:=Unit) (λ_ f=>
 az xR (qF 34 b b) aL f λc d=>
 aR c a λa3=>
 ag xR (qf 5 (a3.add (a.toNat*1)) (xH xO 1)) d λ_ h3=>
 R c h3)
 (λe=>
 Br (b<1) (R (xI eH 0 0) h) (Br (b>64) (R (xI eH 0 0) h) (Br (a<0) (R (xI eH 0 0) h) (Br (a>=b)
 (R (xI eH 0 0) h)
 (e () h)))))
theorem Tz(b:Int)(a:Int)(c:@Mx R h b a):ac xR 136 #[b,a] h R:=au af func136 (al.tn (.two (.join [] [(4,5),(6,21)] .n) .n)) c
def Dh(b:aT)(a:Int):Prop:=
 ((255:Int)≠0)/\
 bi (σ:=Int) (λc g=>
 ae xR 206 #[b] jo g λi d=>
 ∃a3,(i=dB a3)/\
 (0<=c/\c<((255:Nat):Int))/\
 gF .u8 d (a3.add (c.toNat*1)) λf=>
 R (xH xO f) d)
 (λe=>
 Br ((wB a 255)<0)
 (e (qc xN ((wB a 255)+255)) h)
 (e (wB a 255) h))
theorem KQ(a:aT)(b:Int)(c:@Dh R h a b):ac xR 137 #[a,b] h R:=au af func137 (al.tn (al.tn (.two (.join [(1,ba)] [(1,2),(7,11)] .n) .n))) c
def Ar(b:aT)(e:Sl):Prop:=
 bi (σ:=Unit) (λ_ r=>
 ae xR 146 #[e] aL r λl m=>
 ∃a5,(b=dB a5)/\
 bn m (a5.add 2) λp=>
 aM (σ:=Sl×Int) (λa q h3=>
 Br (a.2<(p.len:Int))
 (aR p a.2 λu=>
 bn h3 (u.add (a.2.toNat*1)) λn=>
 ae xR 139 #[n] bz h3 λd i=>
 aR a.1 d λj=>
 gF .u8 i (j.add (d.toNat*1)) λg=>
 Br (g !=0)
 (∃f,(b=dB f)/\
 jI i f λk=>
 ae xR 207 #[k,(xH xO g),n,a.1] (.many [ci,jp]) i λc t=>
 q ((⟨c.1.ptr,c.1.len,c.1.cap⟩:Sl),qc xN (a.2+1)) t)
 (q ((⟨a.1.ptr,a.1.len,a.1.cap⟩:Sl),qc xN (a.2+1)) i))
 (R (.tuple #[a.1,eL]) h3)) ((⟨l.ptr,l.len,l.cap⟩:Sl),(0:Int)) m)
 (λs=>
 Br (qW b) (R (.tuple #[(xI eH 0 0),eR]) h) (∃o,(b=dB o)/\
 bf h (o.add 1) λx2=>
 Br ((e.len:Int) !=x2)
 (R (.tuple #[(xI eH 0 0),eR]) h)
 (s () h)))
theorem Hr(a:aT)(b:Sl)(c:@Ar R h a b):ac xR 138 #[a,b] h R:=au af func138 (al.tn (.two (.join [] [(4,6),(10,21)] .n) (al.tn (.two (al.tn (.inn (.loop [(6,ci),(28,ba)] [(6,7),(8,10),(28,51)] .n))) .n)))) c
end
end Go.Qw
