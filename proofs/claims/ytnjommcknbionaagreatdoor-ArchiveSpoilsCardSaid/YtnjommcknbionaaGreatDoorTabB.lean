/- Lemmas for the proof of the law; no condition. -/
import Derived.Test.YtnjommcknbionaaGreatDoorTabA
set_option linter.unusedVariables false
open Go.Proofs.Tryz renaming prog -> vV
open Go.Instr renaming alloc -> qJ, box -> qI, buildSlice -> qu, storeAt -> qe
open Go.Value renaming agg -> vQ, bool -> vP, int -> vL, slice -> vM, string -> vO
open Go.IntKind renaming bits -> qf, i64 -> vR, u32 -> vT, u8 -> vS, wrap -> qc
open Go.Builtin renaming append_ -> qx
open Option renaming isNone -> qS
open BitVec renaming ofInt -> qq
open Int renaming fdiv -> qD
open Go.Proofs.Tryz
set_option maxRecDepth 1000000
namespace Go.Qw
noncomputable section
open Go Go.Vc Go.Proofs
variable {R:wt} {h:Heap}
def Gw(a:dl)(d:Sl):Prop:=
 aS (σ:=Sl×Int) (fun c s k=>
 Br (c.2<(d.len:Int))
 (∃m,(d.ptr=some m/\0<=c.2/\c.2<(d.len:Int))/\
 ∃x3:Int×Sl,ah k (m.add (c.2.toNat*2)) 0 x3/\
 aL vV (qJ 137 true (.tuple #[])) k fun a4 v=>
 ae vV (qe 137 a4 x3) v fun _ h3=>
 aV (σ:=Unit) (fun _ r=>
 ∃e,cellOf r a4=some (vL vR e)/\
 aw vV (qu 22 1 #[(0,e)]) aN r fun j h8=>
 aw vV (qx #[22,22] 22 #[c.1,j]) aN h8 fun b u=>
 s ((⟨b.ptr,b.len,b.cap⟩:Sl),qc vR (c.2+1)) u)
 (fun y=>
 aV (σ:=Int) (fun n l=>
 Br (n !=0)
 (R n l)
 (y () l))
 (fun x=>
 ∃o,cellOf h3 a4=some (vL vR o)/\
 ∃f:Sl,cellOf h3 (a4.add 1)=some (f:Value)/\
 iJ C a.1 (a.2.1.toList++[(vL vR o)]++a.2.2.toList) kb h3 fun t q=>
 (ar.ok [(a4.add 1,f)] q)/\
 ac vV 79 #[t,f] bo q fun w p=>
 (ar.ok [] p)/\
 x w p)))
 (ac vV 80 #[(.func (.func a.1) a.2.1 a.2.2),c.1] bo k fun i g=>
 R i g)) ((⟨none,0,0⟩:Sl),(0:Int)) h
theorem KN(a:dl)(b:Sl)(c:@Gw R h a b):ab vV 40 #[(.func (.func a.1) a.2.1 a.2.2),b] h R:=aq af func40 (an.tn (an.tn (.two (an.tn (.inn (.loop [(5,dv),(11,be)] [(4,6),(7,9),(11,31)] (an.tn (an.tn (.two (.inn (an.tn (.two (.join [] [(4,5),(8,9),(15,25)] (.two (.join [(8,be)] [(8,9),(15,22)] .n) .n)) .n))) .n)))))) .n))) c
def Bt(i:db)(a:Sl):Prop:=
 aL vV (qI 88 i) h fun r l=>
 ∃x2:db,ah l r 0 x2/\
 ac vV 38 #[x2] aN l fun f p=>
 aS (σ:=Sl×Int) (fun c o h3=>
 Br (c.2<(a.len:Int))
 (∃a5,(a.ptr=some a5/\0<=c.2/\c.2<(a.len:Int))/\
 ∃j,cellOf h3 (a5.add (c.2.toNat*1))=some (vL vR j)/\
 aS (σ:=Sl×Int) (fun b s g=>
 Br (b.2<(f.len:Int))
 (∃m,(f.ptr=some m/\0<=b.2/\b.2<(f.len:Int))/\
 ∃k:Sl,cellOf g (m.add (b.2.toNat*1))=some (k:Value)/\
 aw vV (qu 94 1 #[(0,(vQ #[j,k]))]) aN g fun e q=>
 aw vV (qx #[94,94] 94 #[b.1,e]) aN q fun d n=>
 s ((⟨d.ptr,d.len,d.cap⟩:Sl),qc vR (b.2+1)) n)
 (o ((⟨b.1.ptr,b.1.len,b.1.cap⟩:Sl),qc vR (c.2+1)) g)) ((⟨c.1.ptr,c.1.len,c.1.cap⟩:Sl),(0:Int)) h3)
 (R c.1 h3)) ((⟨none,0,0⟩:Sl),(0:Int)) p
theorem Hi(b:db)(a:Sl)(c:@Bt R h b a):ab vV 41 #[b,a] h R:=aq af func41 (an.tn (an.tn (an.tn (.two (an.tn (.inn (.loop [(6,dv),(15,be)] [(6,7),(8,9),(10,11),(15,33)] (an.tn (an.tn (.two (.inn (an.tn (an.tn (.inn (.loop [(6,dv),(21,be)] [(6,7),(10,11),(21,32)] .n))))) .n)))))) .n)))) c
def nS(a:aK)(e:ByteArray)(j:Sl):Prop:=
 ac vV 81 #[a,e,j] bo h fun r1 h1=>
 Br (r1 !=0)
 (R r1 h1)
 (∃a2,(a=some a2)/\
 ∃x3,cellOf h1 (a2.add 1)=some (vL vR x3)/\
 aL vV (qJ 123 true (.tuple #[])) h1 fun a4 h2=>
 ae vV (qe 123 a4 (vQ #[e,x3,(vL vR (j.len:Int)),(vM none 0 0)])) h2 fun _ h3=>
 aV (σ:=Sl×Bool) (fun L h6=>
 Br (!L.2)
 (R (vL vR 8) h6)
 (ae vV (qe 22 (a4.add 3) L.1) h6 fun _ h7=>
 ∃H:gD,ah h7 a4 0 H/\
 ac vV 84 #[a,H,j] (.many [dv,kc]) h7 fun D h8=>
 aL vV (qJ 94 true (.tuple #[])) h8 fun k h9=>
 ae vV (qe 94 k D.1) h9 fun _ f=>
 Br (!D.2)
 (R (vL vR 8) f)
 (aV (σ:=Addr×Sl) (fun g I=>
 ∃P:db,ah I g.1 0 P/\
 ac vV 38 #[P] aN I fun ad al=>
 aL vV (qJ 3 true (.tuple #[])) al fun m U=>
 ae vV (qe 3 m (vL vR (ad.len:Int))) U fun _ S=>
 ac vV 87 #[a,g.2,(.func (.func 86) #[] #[m,k])] bU S fun V E=>
 Br (!V)
 (R (vL vR 7) E)
 (ac vV 88 #[a,g.2,(.func (.func 86) #[] #[m,k])] bo E fun z r=>
 Br (z !=0)
 (R z r)
 (∃B:Sl,cellOf r k=some (B:Value)/\
 ac vV 40 #[(.func (.func 28) #[a] #[]),B] bo r fun x q=>
 Br (x !=0)
 (R x q)
 (∃K:db,ah q g.1 0 K/\
 ac vV 89 #[a,K,g.2] bo q fun Y Z=>
 R Y Z))))
 (fun K2=>
 ∃c,(a=some c)/\
 ∃b:db,ah f c 0 b/\
 ∃d:gD,ah f a4 0 d/\
 (ac vV 85 #[b,d] MZ f fun N l=>
 (ar.ok [] l)/\
 (ac vV 58 #[a] aN l fun p J=>
 (ar.ok [] J)/\
 aL vV (qJ 88 true (.tuple #[])) J fun w A=>
 (ar.ok [] A)/\
 ae vV (qe 88 w N) A fun _ u=>
 (ar.ok [] u)/\
 K2 (w,(⟨p.ptr,p.len,p.cap⟩:Sl)) u)/\(aL vV (qJ 88 true (.tuple #[])) l fun a22 M=>
 (ar.ok [] M)/\
 ac vV 58 #[a] aN M fun n v=>
 (ar.ok [] v)/\
 ae vV (qe 88 a22 N) v fun _ F=>
 (ar.ok [] F)/\
 K2 (a22,(⟨n.ptr,n.len,n.cap⟩:Sl)) F))/\(aL vV (qJ 88 true (.tuple #[])) f fun y s=>
 (ar.ok [(a4,d.1),(a4.add 1,d.2.1),(a4.add 2,d.2.2.1),(a4.add 3,d.2.2.2),(c,b.1),(c.add 1,b.2.1),(c.add 2,b.2.2.1),(c.add 3,b.2.2.2.1),(c.add 4,b.2.2.2.2.1),(c.add 5,b.2.2.2.2.2.1),(c.add 6,b.2.2.2.2.2.2.1),(c.add 7,b.2.2.2.2.2.2.2)] s)/\
 ac vV 85 #[b,d] MZ s fun W Q=>
 (ar.ok [] Q)/\
 ac vV 58 #[a] aN Q fun o O=>
 (ar.ok [] O)/\
 ae vV (qe 88 y W) O fun _ G=>
 (ar.ok [] G)/\
 K2 (y,(⟨o.ptr,o.len,o.cap⟩:Sl)) G)))))
 (fun K1=>
 ∃a5,(a=some a5)/\
 ∃t:bL,ah h3 (a5.add 2) 0 t/\
 ∃X,cellOf h3 (a4.add 1)=some (vL vR X)/\
 ∃a8,(a=some a8)/\
 ∃x9:bL,ah h3 (a8.add 2) 0 x9/\
 ac vV 83 #[x9,(vL vR (j.len:Int))] bo h3 fun T h4=>
 (ar.ok [(a4.add 1,X),(a5.add 2,t.1),((a5.add 2).add 1,t.2.1),((a5.add 2).add 2,t.2.2)] h4)/\
 ac vV 82 #[t,X,T] (.many [dv,kc]) h4 fun i h5=>
 (ar.ok [] h5)/\
 K1 ((⟨i.1.ptr,i.1.len,i.1.cap⟩:Sl),i.2) h5))
theorem uV(c:aK)(a:ByteArray)(b:Sl)(d:@nS R h c a b):ab vV 42 #[c,a,b] h R:=aq af func42 (an.tn (an.tn (an.tn (.two (.join [(9,dv),(10,kc)] [(9,11),(34,53)] .n) (an.tn (an.tn (an.tn (an.tn (.two (.join [(12,(.sc .adr)),(13,dv)] [(12,14),(66,74)] .n) .n))))))))) d
def nk(c:aK):Prop:=
 ac vV 90 #[c] bU h fun n f=>
 Br n
 (R (vM none 0 0) f)
 (∃i,(c=some i)/\
 ∃x3:Sl,cellOf f (i.add 7)=some (x3:Value)/\
 aS (σ:=Sl×Int) (fun b o e=>
 Br (b.2<(x3.len:Int))
 (∃a5,(x3.ptr=some a5/\0<=b.2/\b.2<(x3.len:Int))/\
 ∃g:gD,ah e (a5.add (b.2.toNat*4)) 0 g/\
 aL vV (qJ 123 true (.tuple #[])) e fun j h3=>
 ae vV (qe 123 j g) h3 fun _ k=>
 ∃l:ByteArray,cellOf k j=some (vO l)/\
 ac vV 99 #[l] (.one Vm) k fun q p=>
 aw vV (qu 32 1 #[(0,q)]) aN p fun d m=>
 aw vV (qx #[32,32] 32 #[b.1,d]) aN m fun a r=>
 o ((⟨a.ptr,a.len,a.cap⟩:Sl),qc vR (b.2+1)) r)
 (R b.1 e)) ((⟨none,0,0⟩:Sl),(0:Int)) f)
theorem tC(a:aK)(b:@nk R h a):ab vV 45 #[a] h R:=aq af func45 (an.tn (an.tn (an.tn (.two (an.tn (.inn (.loop [(3,dv),(14,be)] [(3,4),(5,6),(14,25)] .n))) .n)))) b
def nl(a:aK):Prop:=
 Br (!(qS a)) (∃g,(a=some g)/\
 ∃x2:aK,cellOf h (g.add 8)=some (.pointer x2)/\
 ac vV 69 #[x2] bU h fun i b=>
 (ar.ok [] b)/\
 Br (!i) ((ar.ok [] b)/\
 R true b) (∃a4,(a=some a4)/\
 ∃f:aK,cellOf b (a4.add 8)=some (.pointer f)/\
 ∃c,(a=some c)/\
 ∃d,cellOf b (c.add 9)=some (vL vR d)/\
 ac vV 37 #[f] bo b fun j e=>
 (ar.ok [(c.add 9,d)] e)/\
 R (vP (j !=d)) e)) ((ar.ok [] h)/\
 (ar.ok [] h)/\
 R false h)
theorem tE(a:aK)(b:@nl R h a):ab vV 46 #[a] h R:=aq af func46 .n b
def np(f:aK)(k:ByteArray):Prop:=
 aL vV (qJ 34 true (.tuple #[])) h fun t h1=>
 ac vV 90 #[f] bU h1 fun r2 h2=>
 Br r2
 (ae vV (qe 34 t (vQ #[(vL vR 0),(vL vR 0),(vL vR 0),(vM none 0 0)])) h2 fun _ h3=>
 ∃n:SS,ah h3 t 0 n/\
 R (.tuple #[n,(vL vR 14)]) h3)
 (ac vV 91 #[f,k] bo h2 fun P Q=>
 Br (P<0)
 (ae vV (qe 34 t (vQ #[(vL vR 0),(vL vR 0),(vL vR 0),(vM none 0 0)])) Q fun _ h5=>
 ∃o:SS,ah h5 t 0 o/\
 R (.tuple #[o,(vL vR 5)]) h5)
 (∃Z,(f=some Z)/\
 ∃W:Sl,cellOf Q (Z.add 7)=some (W:Value)/\
 ∃a8,(W.ptr=some a8/\0<=P/\P<(W.len:Int))/\
 ∃x9:gD,ah Q (a8.add (P.toNat*4)) 0 x9/\
 aL vV (qJ 123 true (.tuple #[])) Q fun a h6=>
 ae vV (qe 123 a x9) h6 fun _ M=>
 aV (σ:=Addr) (fun s T=>
 ac vV 58 #[f] aN T fun r Y=>
 aS (σ:=Int) (fun i K2 e=>
 Br (i<(r.len:Int))
 (∃z,(r.ptr=some z/\0<=i/\i<(r.len:Int))/\
 ∃m,cellOf e (z.add (i.toNat*1))=some (vL vR m)/\
 ∃A,(f=some A)/\
 (0<=m/\m<((64:Nat):Int))/\
 ∃J:aK,cellOf e ((A.add 10).add (m.toNat*1))=some (.pointer J)/\
 ∃a25,(f=some a25)/\
 ∃w:db,ah e a25 0 w/\
 ac vV 101 #[J,w] aN e fun q F=>
 (ar.ok [] F)/\
 aS (σ:=Int) (fun d K3 p=>
 Br (d<(q.len:Int))
 (∃x,(q.ptr=some x/\0<=d/\d<(q.len:Int))/\
 ∃y:cH,ah p (x.add (d.toNat*8)) 0 y/\
 aL vV (qJ 49 true (.tuple #[])) p fun N S=>
 ae vV (qe 49 N y) S fun _ j=>
 ∃D,cellOf j N=some (vL vR D)/\
 ∃E,cellOf j (a.add 1)=some (vL vR E)/\
 Br (D==E)
 (∃L,cellOf j (s.add 2)=some (vL vR L)/\
 ae vV (qe 3 (s.add 2) (qc vR (L+1))) j fun _ X=>
 K3 (qc vR (d+1)) X)
 (K3 (qc vR (d+1)) j))
 (K2 (qc vR (i+1)) p)) (0:Int) F)
 (∃I:SS,ah e s 0 I/\
 ae vV (qe 34 t I) e fun _ G=>
 ∃g:SS,ah G t 0 g/\
 R (.tuple #[g,(vL vR 0)]) G)) (0:Int) Y)
 (fun K1=>
 ∃b,cellOf M (a.add 2)=some (vL vR b)/\
 ∃c:Sl,cellOf M (a.add 3)=some (c:Value)/\
 ∃l:Sl,cellOf M (a.add 3)=some (l:Value)/\
 (ac vV 100 #[l] aN M fun V h8=>
 (ar.ok [(a.add 3,c),(a.add 2,b)] h8)/\
 aL vV (qJ 34 true (.tuple #[])) h8 fun K h9=>
 (ar.ok [(a.add 3,c),(a.add 2,b)] h9)/\
 ae vV (qe 34 K (vQ #[b,(vL vR (c.len:Int)),(vL vR 0),V])) h9 fun _ u=>
 (ar.ok [] u)/\
 K1 K u)/\(aL vV (qJ 34 true (.tuple #[])) M fun O v=>
 (ar.ok [(a.add 3,l),(a.add 3,c),(a.add 2,b)] v)/\
 ac vV 100 #[l] aN v fun U H=>
 (ar.ok [(a.add 3,c),(a.add 2,b)] H)/\
 ae vV (qe 34 O (vQ #[b,(vL vR (c.len:Int)),(vL vR 0),U])) H fun _ B=>
 (ar.ok [] B)/\
 K1 O B))))
theorem tG(b:aK)(a:ByteArray)(c:@np R h b a):ab vV 47 #[b,a] h R:=aq af func47 (an.tn (an.tn (an.tn (an.tn (an.tn (.two (.join [(8,(.sc .adr))] [(8,9),(30,39)] .n) (.two (an.tn (.inn (.loop [(42,be)] [(10,11),(12,13),(42,73)] (an.tn (an.tn (.two (.inn (an.tn (an.tn (.inn (.loop [(58,be)] [(12,13),(58,72)] .n))))) .n)))))) .n))))))) c
def nr(a:aK):Prop:=
 Br (qS a)
 (R (vM none 0 0) h)
 (∃b,(a=some b)/\
 ∃x2:Sl,cellOf h (b.add 6)=some (x2:Value)/\
 ac vV 106 #[(.func (.func 28) #[a] #[]),x2] aN h fun c d=>
 R c d)
theorem tH(a:aK)(b:@nr R h a):ab vV 58 #[a] h R:=aq af func58 .n b
def rD(a:aK)(e:db)(b:Int):Prop:=
 aL vV (qI 88 e) h fun j m=>
 aV (σ:=Unit) (fun _ n=>
 ∃i:db,ah n j 0 i/\
 ac vV 118 #[a,i] aN n fun d h8=>
 ac vV 117 #[a,d] bo h8 fun c r=>
 R c r)
 (fun p=>
 aV (σ:=Bool) (fun o h3=>
 Br o
 (R (vL vR 5) h3)
 (∃g:db,ah h3 j 0 g/\
 ac vV 115 #[a,g,b] bU h3 fun s k=>
 Br (!s)
 (R (vL vR 7) k)
 (ac vV 11 #[a] bo k fun w u=>
 ac vV 116 #[a,w,b] bU u fun q f=>
 Br q
 (R (vL vR 0) f)
 (p () f))))
 (fun l=>
 Br (qS a) (l true m) (ac vV 112 #[a] bU m fun v t=>
 l v t)))
theorem ux(a:aK)(c:db)(b:Int)(d:@rD R h a c b):ab vV 62 #[a,c,b] h R:=aq af func62 (an.tn (.two (.join [] [(6,26)] (.inn (.two (.join [(7,kc)] [(7,14)] .n) .n))) .n)) d
def Bu(a:Sl):Prop:=
 Br ((a.len:Int) !=64)
 (R (.tuple #[(vL vR 0),(vM none 0 0),false]) h)
 (∃b,(a.ptr=some b/\0<=(3:Int)/\(3:Int)<(a.len:Int))/\
 ∃x2:Int,cellOf h (b.add ((3:Int).toNat*1))=some (vL vS x2)/\
 (0<=(4:Int)/\(4:Int)<=(59:Int)/\(59:Int)<=(a.cap:Int))/\
 ac vV 34 #[(.slice (if a.cap=(4:Int).toNat then a.ptr else a.ptr.map (·.add ((4:Int).toNat*1))) ((59:Int).toNat-(4:Int).toNat) (a.cap-(4:Int).toNat))] aN h fun c d=>
 (ar.ok [(b.add ((3:Int).toNat*1),(vL vS x2))] d)/\
 ac vV 125 #[(qc vR x2),c] aN d fun f e=>
 ac vV 122 #[a,f] bU e fun g h3=>
 Br (!g)
 (R (.tuple #[(vL vR 0),(vM none 0 0),false]) h3)
 (R (.tuple #[(qc vR x2),c,true]) h3))
theorem Hj(a:Sl)(b:@Bu R h a):ab vV 67 #[a] h R:=aq af func67 .n b
def me(e:aK)(c:Int)(a:Int)(b:Int):Prop:=
 aV (σ:=Unit) (fun _ p=>
 aS (σ:=Int) (fun d o f=>
 Br (d<4)
 (∃a5,(e=some a5)/\
 ∃k:Sl,cellOf f (a5.add 2)=some (k:Value)/\
 ∃l,(k.ptr=some l/\0<=c/\c<(k.len:Int))/\
 ∃j:Sl,cellOf f (l.add (c.toNat*1))=some (j:Value)/\
 ∃a9,(j.ptr=some a9/\0<=(qc vR (a+d))/\(qc vR (a+d))<(j.len:Int))/\
 ∃i:Int,cellOf f (a9.add ((qc vR (a+d)).toNat*1))=some (vL vS i)/\
 (0<=(qc vR (8*d)))/\
 ∃g,(j.ptr=some g/\0<=(qc vR (a+d))/\(qc vR (a+d))<(j.len:Int))/\
 ae vV (qe 5 (g.add ((qc vR (a+d)).toNat*1)) (vL vS (qc vS ((qq (qf vS) i^^^(qq (qf vS) (qc vS (qD b (2^min (qc vR (8*d)).toNat (qf vT)))))).toNat:Nat)))) f fun _ h3=>
 (ar.ok [] h3)/\
 o (qc vR (d+1)) h3)
 (R true f)) (0:Int) p)
 (fun n=>
 Br (qS e) (R false h) (Br (c<0) (R false h) (∃m,(e=some m)/\
 ∃x2:Sl,cellOf h (m.add 2)=some (x2:Value)/\
 Br (c>=(x2.len:Int)) (R false h) (Br (a<0) (R false h) (Br (a>60) (R false h) (Br (b==0)
 (R false h)
 (n () h)))))))
theorem se(c:aK)(d:Int)(b:Int)(a:Int)(e:@me R h c d b a):ab vV 68 #[c,d,b,(vL vT a)] h R:=aq af func68 (an.tn (.two (.join [] [(8,9),(10,37)] .n) (.two (an.tn (.inn (.loop [(37,be)] [(9,10),(37,60)] .n))) .n))) e
def oW(a:aK):Prop:=
 Br (!(qS a)) (∃b,(a=some b)/\
 ∃x2:Bool,cellOf h b=some (vP x2)/\
 R (vP (!x2)) h) (R false h)
theorem xC(a:aK)(b:@oW R h a):ab vV 69 #[a] h R:=aq af func69 .n b
def ju(a:Int)(b:Sl):Prop:=
 aV (σ:=Unit) (fun _ o=>
 aw vV (qu 31 4 #[(0,(vL vS 87)),(1,(vL vS 115)),(2,(vL vS 1)),(3,(vL vS (qc vS a)))]) aN o fun q l=>
 aw vV (qx #[31,31] 31 #[q,b]) aN l fun v3 h3=>
 aS (σ:=Sl) (fun d n f=>
 Br ((d.len:Int)<59)
 (aw vV (qu 31 1 #[(0,(vL vS 0))]) aN f fun v5 m=>
 aw vV (qx #[31,31] 31 #[d,v5]) aN m fun e g=>
 n (⟨e.ptr,e.len,e.cap⟩:Sl) g)
 (ac vV 129 #[d] (.one (.sc (.int .u32))) f fun c p=>
 (0<=(8:Int))/\
 (0<=(16:Int))/\
 (0<=(24:Int))/\
 aw vV (qu 31 5 #[(0,(vL vS (qc vS c))),(1,(vL vS (qc vS (qD c (2^min (8:Int).toNat (qf vT)))))),(2,(vL vS (qc vS (qD c (2^min (16:Int).toNat (qf vT)))))),(3,(vL vS (qc vS (qD c (2^min (24:Int).toNat (qf vT)))))),(4,(vL vS 165))]) aN p fun j h8=>
 aw vV (qx #[31,31] 31 #[d,j]) aN h8 fun v9 k=>
 R v9 k)) (⟨v3.ptr,v3.len,v3.cap⟩:Sl) h3)
 (fun i=>
 Br (a<1) (R (vM none 0 0) h) (Br (a>255) (R (vM none 0 0) h) (Br ((b.len:Int)>55)
 (R (vM none 0 0) h)
 (i () h))))
theorem nt(b:Int)(a:Sl)(c:@ju R h b a):ab vV 74 #[b,a] h R:=aq af func74 (an.tn (.two (.join [] [(4,5),(7,18)] .n) (an.tn (.two (.inn (.loop [(5,dv)] [(5,6),(23,29)] .n)) .n)))) c
def iI(f:cH):Prop:=
 aL vV (qI 49 f) h fun b a=>
 ∃x2,cellOf a b=some (vL vR x2)/\
 Br (x2>=0) (∃x3,cellOf a b=some (vL vR x3)/\
 Br (x3<=16777215) (∃i,cellOf a (b.add 1)=some (vL vR i)/\
 Br (i>=0) (∃j,cellOf a (b.add 1)=some (vL vR j)/\
 Br (j<8) (∃g,cellOf a (b.add 2)=some (vL vR g)/\
 ac vV 130 #[g] bU a fun l e=>
 Br l (∃k:bL,ah e (b.add 3) 0 k/\
 ac vV 31 #[k] bU e fun m h3=>
 Br m (∃d:Sl,cellOf h3 (b.add 7)=some (d:Value)/\
 ∃c,cellOf h3 ((b.add 3).add 2)=some (vL vR c)/\
 R (vP ((d.len:Int)==c)) h3) (R false h3)) (R false e)) (R false a)) (R false a)) (R false a)) (R false a)
theorem lZ(a:cH)(b:@iI R h a):ab vV 75 #[a] h R:=aq af func75 .n b
def kB(a:Sl)(d:Int)(c:Int):Prop:=
 aS (σ:=Sl×Int) (fun b g e=>
 Br (b.2>=0)
 ((0<=(qc vR (8*b.2)))/\
 aw vV (qu 31 1 #[(0,(vL vS (qc vS (qD d (2^min (qc vR (8*b.2)).toNat (qf vR))))))]) aN e fun i f=>
 aw vV (qx #[31,31] 31 #[b.1,i]) aN f fun v3 h3=>
 g ((⟨v3.ptr,v3.len,v3.cap⟩:Sl),qc vR (b.2-1)) h3)
 (R b.1 e)) ((⟨a.ptr,a.len,a.cap⟩:Sl),qc vR (c-1)) h
theorem oX(c:Sl)(b:Int)(a:Int)(d:@kB R h c b a):ab vV 76 #[c,b,a] h R:=aq af func76 (an.tn (.two (an.tn (.inn (.loop [(0,dv),(7,be)] [(0,1),(7,8),(10,22)] .n))) .n)) d
def Bv(Y:db):Prop:=
 aL vV (qI 88 Y) h fun e h1=>
 ∃x2:db,ah h1 e 0 x2/\
 ac vV 105 #[x2] bU h1 fun r3 S=>
 Br (!r3)
 (R (vM none 0 0) S)
 (aV (σ:=Sl) (fun s8 w=>
 ∃x9,cellOf w (e.add 2)=some (vL vR x9)/\
 ∃F,cellOf w ((e.add 2).add 1)=some (vL vR F)/\
 ∃E,cellOf w ((e.add 2).add 2)=some (vL vR E)/\
 ∃Q,cellOf w (e.add 5)=some (vL vR Q)/\
 ∃D:Sl,cellOf w (e.add 6)=some (D:Value)/\
 aw vV (qu 31 5 #[(0,(vL vS (qc vS x9))),(1,(vL vS (qc vS F))),(2,(vL vS (qc vS E))),(3,(vL vS (qc vS Q))),(4,(vL vS (qc vS (D.len:Int))))]) aN w fun Z h6=>
 aw vV (qx #[31,31] 31 #[s8,Z]) aN h6 fun p h7=>
 ∃k:Sl,cellOf h7 (e.add 6)=some (k:Value)/\
 aS (σ:=Sl×Int) (fun c K2 h8=>
 Br (c.2<(k.len:Int))
 (∃x,(k.ptr=some x/\0<=c.2/\c.2<(k.len:Int))/\
 ∃z,cellOf h8 (x.add (c.2.toNat*1))=some (vL vR z)/\
 aw vV (qu 31 1 #[(0,(vL vS (qc vS z)))]) aN h8 fun ad h9=>
 aw vV (qx #[31,31] 31 #[c.1,ad]) aN h9 fun u T=>
 K2 ((⟨u.ptr,u.len,u.cap⟩:Sl),qc vR (c.2+1)) T)
 (∃P:Sl,cellOf h8 (e.add 7)=some (P:Value)/\
 aw vV (qu 31 1 #[(0,(vL vS (qc vS (P.len:Int))))]) aN h8 fun am al=>
 aw vV (qx #[31,31] 31 #[c.1,am]) aN al fun o O=>
 ∃g:Sl,cellOf O (e.add 7)=some (g:Value)/\
 aS (σ:=Sl×Int) (fun d K3 m=>
 Br (d.2<(g.len:Int))
 (∃M,(g.ptr=some M/\0<=d.2/\d.2<(g.len:Int))/\
 ∃A:gD,ah m (M.add (d.2.toNat*4)) 0 A/\
 aL vV (qJ 123 true (.tuple #[])) m fun a ay=>
 ae vV (qe 123 a A) ay fun _ r=>
 aV (σ:=Sl) (fun a0 s=>
 aV (σ:=Sl) (fun l J=>
 ∃j:Sl,cellOf J (a.add 3)=some (j:Value)/\
 aS (σ:=Sl×Int) (fun b K6 n=>
 Br (b.2<(j.len:Int))
 (∃I,(j.ptr=some I/\0<=b.2/\b.2<(j.len:Int))/\
 ∃K,cellOf n (I.add (b.2.toNat*1))=some (vL vR K)/\
 aw vV (qu 31 1 #[(0,(vL vS (qc vS K)))]) aN n fun v45 U=>
 aw vV (qx #[31,31] 31 #[b.1,v45]) aN U fun v46 a2=>
 K6 ((⟨v46.ptr,v46.len,v46.cap⟩:Sl),qc vR (b.2+1)) a2)
 (K3 ((⟨b.1.ptr,b.1.len,b.1.cap⟩:Sl),qc vR (d.2+1)) n)) ((⟨l.ptr,l.len,l.cap⟩:Sl),(0:Int)) J)
 (fun K5=>
 ∃y,cellOf s (a.add 1)=some (vL vR y)/\
 ∃t,cellOf s (a.add 2)=some (vL vR t)/\
 ac vV 131 #[a0,y,(vL vR 3)] aN s fun X G=>
 (ar.ok [(a.add 2,t)] G)/\
 ac vV 131 #[X,t,(vL vR 2)] aN G fun v N=>
 (ar.ok [] N)/\
 K5 (⟨v.ptr,v.len,v.cap⟩:Sl) N))
 (fun K4=>
 ∃f:ByteArray,cellOf r a=some (vO f)/\
 ∃i:ByteArray,cellOf r a=some (vO i)/\
 aw vV (qu 31 1 #[(0,(vL vS (qc vS (f.size:Int))))]) aN r fun ax B=>
 (ar.ok [(a,i),(a,f)] B)/\
 aw vV (qx #[31,31] 31 #[d.1,ax]) aN B fun V H=>
 (ar.ok [(a,i),(a,f)] H)/\
 aw vV (qx #[31,9] 31 #[V,i]) aN H fun q L=>
 (ar.ok [(a,f)] L)/\
 K4 (⟨q.ptr,q.len,q.cap⟩:Sl) L))
 (R d.1 m)) ((⟨o.ptr,o.len,o.cap⟩:Sl),(0:Int)) O)) ((⟨p.ptr,p.len,p.cap⟩:Sl),(0:Int)) h7)
 (fun K1=>
 ∃x4,cellOf S e=some (vL vR x4)/\
 ∃W,cellOf S (e.add 1)=some (vL vR W)/\
 ac vV 131 #[(vM none 0 0),x4,(vL vR 4)] aN S fun r6 h3=>
 (ar.ok [(e.add 1,W)] h3)/\
 ac vV 131 #[r6,W,(vL vR 4)] aN h3 fun r7 h4=>
 (ar.ok [] h4)/\
 K1 (⟨r7.ptr,r7.len,r7.cap⟩:Sl) h4))
theorem Hk(a:db)(b:@Bv R h a):ab vV 77 #[a] h R:=aq af func77 (an.tn (an.tn (.two (.join [(3,dv)] [(3,4),(13,19)] .n) (an.tn (.two (an.tn (.inn (.loop [(3,dv),(44,be)] [(3,4),(5,6),(44,54)] .n))) (an.tn (.two (an.tn (.inn (.loop [(3,dv),(64,be)] [(3,4),(7,8),(9,10),(64,99)] (an.tn (an.tn (.two (.inn (an.tn (.two (.join [(3,dv)] [(3,4),(68,78)] .n) (.two (.join [(3,dv)] [(3,4),(78,85)] .n) (an.tn (.inn (.loop [(3,dv),(88,be)] [(3,4),(9,10),(88,98)] .n))))))) .n)))))) .n))))))) b
def DD(a:Int)(b:Int)(c:Int)(d:Sl):Prop:=
 (0<=(24:Int))/\
 (0<=(16:Int))/\
 (0<=(8:Int))/\
 aw vV (qu 31 7 #[(0,(vL vS (qc vS (qD a (2^min (24:Int).toNat (qf vR)))))),(1,(vL vS (qc vS (qD a (2^min (16:Int).toNat (qf vR)))))),(2,(vL vS (qc vS (qD a (2^min (8:Int).toNat (qf vR)))))),(3,(vL vS (qc vS a))),(4,(vL vS (qc vS b))),(5,(vL vS (qc vS c))),(6,(vL vS (qc vS (d.len:Int))))]) aN h fun i g=>
 aw vV (qx #[31,31] 31 #[i,d]) aN g fun j e=>
 ac vV 125 #[(vL vR 2),j] aN e fun f h3=>
 R f h3
theorem Jd(c:Int)(a:Int)(b:Int)(d:Sl)(e:@DD R h c a b d):ab vV 78 #[c,a,b,d] h R:=aq af func78 .n e
def iP(a:aK)(f:Sl):Prop:=
 aV (σ:=Unit) (fun _ h3=>
 aV (σ:=Unit) (fun _ h8=>
 ∃l,(a=some l)/\
 ∃k,cellOf h8 (l.add 3)=some (vL vR k)/\
 ∃g,(a=some g)/\
 ae vV (qe 3 (g.add 3) (qc vR (k+1))) h8 fun _ v=>
 ∃a22,(a=some a22)/\
 ∃j:aK,cellOf v a22=some (.pointer j)/\
 ac vV 132 #[j] bU v fun s e=>
 Br (!s)
 (R (vL vR 14) e)
 (ac vV 133 #[a] bo e fun q o=>
 R q o))
 (fun J=>
 ∃c,(a=some c)/\
 ∃b:Sl,cellOf h3 (c.add 2)=some (b:Value)/\
 ac vV 34 #[f] aN h3 fun r D=>
 (ar.ok [(c.add 2,b)] D)/\
 aw vV (qu 72 1 #[(0,r)]) aN D fun m z=>
 (ar.ok [(c.add 2,b)] z)/\
 aw vV (qx #[72,72] 72 #[b,m]) aN z fun n t=>
 (ar.ok [] t)/\
 ∃i,(a=some i)/\
 ae vV (qe 72 (i.add 2) n) t fun _ G=>
 (ar.ok [] G)/\
 J () G))
 (fun I=>
 Br ((f.len:Int) !=64)
 (R (vL vR 1) h)
 (aV (σ:=Bool) (fun H d=>
 Br H
 (R (vL vR 5) d)
 (∃a4,(a=some a4)/\
 ∃y:Sl,cellOf d (a4.add 2)=some (y:Value)/\
 ∃u,(a=some u)/\
 ∃w,cellOf d (u.add 1)=some (vL vR w)/\
 Br ((y.len:Int)>=w)
 (R (vL vR 7) d)
 (∃F,(a=some F)/\
 ∃A:aK,cellOf d F=some (.pointer A)/\
 ac vV 69 #[A] bU d fun p x=>
 Br (!p)
 (R (vL vR 14) x)
 (I () x))))
 (fun E=>
 Br (qS a) (E true h) (∃B,(a=some B)/\
 ∃x2:Bool,cellOf h (B.add 6)=some (vP x2)/\
 E x2 h))))
theorem kC(a:aK)(b:Sl)(c:@iP R h a b):ab vV 79 #[a,b] h R:=aq af func79 (an.tn (.two (.join [] [(4,36)] (.inn (an.tn (an.tn (.two (.join [(9,kc)] [(9,18)] .n) .n))))) (.two (.join [] [(36,47)] .n) .n))) c
def DE(a:dl)(b:Sl):Prop:=
 ac vV 100 #[b] aN h fun j n=>
 ac vV 54 #[j] iG n fun _ k=>
 ac vV 134 #[j] aN k fun d h3=>
 aS (σ:=Int) (fun c l e=>
 Br (c<(d.len:Int))
 (∃a5,(d.ptr=some a5/\0<=c/\c<(d.len:Int))/\
 ∃i,cellOf e (a5.add (c.toNat*1))=some (vL vR i)/\
 iJ C a.1 (a.2.1.toList++[(vL vR i)]++a.2.2.toList) kb e fun m o=>
 ac vV 135 #[m] bo o fun f g=>
 Br (f !=0)
 (R f g)
 (l (qc vR (c+1)) g))
 (R (vL vR 0) e)) (0:Int) h3
theorem Je(b:dl)(a:Sl)(c:@DE R h b a):ab vV 80 #[(.func (.func b.1) b.2.1 b.2.2),a] h R:=aq af func80 (an.tn (an.tn (an.tn (.two (an.tn (.inn (.loop [(15,be)] [(4,5),(6,8),(15,27)] .n))) .n)))) c
def kV(a:aK)(b:ByteArray)(j:Sl):Prop:=
 ac vV 90 #[a] bU h fun u s=>
 Br u
 (R (vL vR 14) s)
 (ac vV 136 #[b] bU s fun w o=>
 Br (!w)
 (R (vL vR 3) o)
 (ac vV 91 #[a,b] bo o fun v h3=>
 Br (v>=0)
 (R (vL vR 4) h3)
 (aV (σ:=Bool) (fun k r=>
 Br k
 (R (vL vR 6) r)
 (ac vV 58 #[a] aN r fun i c=>
 Br ((i.len:Int)==0) (R (vL vR 7) c) (∃f,(a=some f)/\
 ∃e,cellOf c (f.add 1)=some (vL vR e)/\
 Br (e>16777215) (R (vL vR 7) c) (∃g,(a=some g)/\
 ∃d,cellOf c g=some (vL vR d)/\
 Br (d>=2147483647)
 (R (vL vR 7) c)
 (R (vL vR 0) c)))))
 (fun m=>
 ∃a4,(a=some a4)/\
 ∃p,cellOf h3 (a4.add 2)=some (vL vR p)/\
 ∃l,(a=some l)/\
 ∃n,cellOf h3 ((l.add 2).add 2)=some (vL vR n)/\
 Br (decide ((j.len:Int)>(qc vR ((qc vR (p*n))*8)))) (m true h3) (∃t,(a=some t)/\
 ∃q:Sl,cellOf h3 (t.add 7)=some (q:Value)/\
 m (decide ((q.len:Int)>=12)) h3)))))
theorem pF(c:aK)(a:ByteArray)(b:Sl)(d:@kV R h c a b):ab vV 81 #[c,a,b] h R:=aq af func81 (an.tn (.two (.inn (an.tn (an.tn (an.tn (an.tn (an.tn (an.tn (.two (.join [(19,kc)] [(19,46)] .n) .n)))))))) .n)) d
def uy(f:bL)(b:Int)(a:Int):Prop:=
 aL vV (qI 24 f) h fun m k=>
 aS (σ:=Sl×Int) (fun c i d=>
 Br (c.2<a)
 (∃x3:bL,ah d m 0 x3/\
 ac vV 137 #[x3,b,c.2] (.many [be,kc]) d fun g h3=>
 Br (!g.2)
 (R (.tuple #[(vM none 0 0),false]) h3)
 (aw vV (qu 22 1 #[(0,g.1)]) aN h3 fun v5 j=>
 aw vV (qx #[22,22] 22 #[c.1,v5]) aN j fun e l=>
 i ((⟨e.ptr,e.len,e.cap⟩:Sl),qc vR (c.2+1)) l))
 (R (.tuple #[c.1,true]) d)) ((⟨none,0,0⟩:Sl),(0:Int)) k
theorem DF(c:bL)(a:Int)(b:Int)(d:@uy R h c a b):ab vV 82 #[c,a,b] h R:=aq af func82 (an.tn (an.tn (.two (an.tn (.inn (.loop [(8,dv),(13,be)] [(6,12),(13,30)] .n))) .n))) d
def uz(c:bL)(a:Int):Prop:=
 aL vV (qI 24 c) h fun g e=>
 aV (σ:=Unit) (fun _ h3=>
 ∃d:bL,ah h3 g 0 d/\
 ac vV 138 #[d] bo h3 fun f i=>
 (f≠0)/\
 R (qc vR ((qc vR (Int.tdiv (qc vR (a-1)) f))+1)) i)
 (fun j=>
 ∃x2:bL,ah e g 0 x2/\
 ac vV 36 #[x2] bU e fun k b=>
 Br (!k) (R (vL vR 0) b) (Br (a<=0)
 (R (vL vR 0) b)
 (j () b)))
theorem DG(b:bL)(a:Int)(c:@uz R h b a):ab vV 83 #[b,a] h R:=aq af func83 (an.tn (.two (.join [] [(4,12)] .n) .n)) c
def kW(g:aK)(Q:gD)(L:Sl):Prop:=
 aL vV (qI 123 Q) h fun j h1=>
 ac vV 58 #[g] aN h1 fun r2 X=>
 ∃a3,(g=some a3)/\
 ∃x4:bL,ah X (a3.add 2) 0 x4/\
 ac vV 139 #[x4,L] aN X fun O h3=>
 aS (σ:=Sl×Int) (fun e K1 n=>
 Br (e.2<(O.len:Int))
 (∃Y,(O.ptr=some Y/\0<=e.2/\e.2<(O.len:Int))/\
 ∃x8:Sl,cellOf n (Y.add (e.2.toNat*1))=some (x8:Value)/\
 ∃x9,cellOf n (j.add 1)=some (vL vR x9)/\
 ∃i:Sl,cellOf n (j.add 3)=some (i:Value)/\
 ∃y,(i.ptr=some y/\0<=e.2/\e.2<(i.len:Int))/\
 ∃F,cellOf n (y.add (e.2.toNat*1))=some (vL vR F)/\
 ac vV 95 #[x9,e.2,F] (.one (.sc (.int .u32))) n fun k T=>
 (ar.ok [(j.add 3,i)] T)/\
 ∃G,(g=some G)/\
 ∃w:bL,ah T (G.add 2) 0 w/\
 ac vV 140 #[w,(vL vT k),x8] (.many [Pk,be]) T fun m K=>
 Br (m.2 !=0)
 (R (.tuple #[(vM none 0 0),false]) K)
 (∃D,cellOf K (j.add 1)=some (vL vR D)/\
 ac vV 141 #[D,e.2,r2] aN K fun M U=>
 ∃H,(g=some H)/\
 ∃E,cellOf U (H.add 2)=some (vL vR E)/\
 ∃u,(g=some u)/\
 ∃A,cellOf U (u.add 5)=some (vL vR A)/\
 aS (σ:=Sl×Int) (fun b K2 h8=>
 Br (b.2<(qc vR (E+A)))
 (aV (σ:=Addr) (fun d B=>
 ∃c:cH,ah B d 0 c/\
 ac vV 143 #[M,b.2] bo B fun S s=>
 (ar.ok [(d,c.1),(d.add 1,c.2.1),(d.add 2,c.2.2.1),(d.add 3,c.2.2.2.1),(d.add 4,c.2.2.2.2.1),(d.add 5,c.2.2.2.2.2.1),(d.add 6,(vL vT c.2.2.2.2.2.2.1)),(d.add 7,c.2.2.2.2.2.2.2)] s)/\
 ac vV 144 #[c] aN s fun N x=>
 (ar.ok [] x)/\
 aw vV (qu 94 1 #[(0,(vQ #[S,N]))]) aN x fun J o=>
 (ar.ok [] o)/\
 aw vV (qx #[94,94] 94 #[b.1,J]) aN o fun l I=>
 (ar.ok [] I)/\
 K2 ((⟨l.ptr,l.len,l.cap⟩:Sl),qc vR (b.2+1)) I)
 (fun Z=>
 ∃f,cellOf h8 (j.add 1)=some (vL vR f)/\
 ∃a25,(g=some a25)/\
 ∃a:bL,ah h8 (a25.add 2) 0 a/\
 (ac vV 142 #[m.1,b.2] aN h8 fun P W=>
 (ar.ok [(a25.add 2,a.1),((a25.add 2).add 1,a.2.1),((a25.add 2).add 2,a.2.2),(j.add 1,f)] W)/\
 aL vV (qJ 49 true (.tuple #[])) W fun a28 p=>
 (ar.ok [(a25.add 2,a.1),((a25.add 2).add 1,a.2.1),((a25.add 2).add 2,a.2.2),(j.add 1,f)] p)/\
 ae vV (qe 49 a28 (vQ #[f,e.2,b.2,a.1,a.2.1,a.2.2,(vL vT k),P])) p fun _ r=>
 (ar.ok [] r)/\
 Z a28 r)/\(aL vV (qJ 49 true (.tuple #[])) h8 fun t z=>
 (ar.ok [(a25.add 2,a.1),((a25.add 2).add 1,a.2.1),((a25.add 2).add 2,a.2.2),(j.add 1,f)] z)/\
 ac vV 142 #[m.1,b.2] aN z fun V v=>
 (ar.ok [(a25.add 2,a.1),((a25.add 2).add 1,a.2.1),((a25.add 2).add 2,a.2.2),(j.add 1,f)] v)/\
 ae vV (qe 49 t (vQ #[f,e.2,b.2,a.1,a.2.1,a.2.2,(vL vT k),V])) v fun _ q=>
 (ar.ok [] q)/\
 Z t q)))
 (K1 ((⟨b.1.ptr,b.1.len,b.1.cap⟩:Sl),qc vR (e.2+1)) h8)) ((⟨e.1.ptr,e.1.len,e.1.cap⟩:Sl),(0:Int)) U))
 (R (.tuple #[e.1,true]) n)) ((⟨none,0,0⟩:Sl),(0:Int)) h3
theorem pG(b:aK)(c:gD)(a:Sl)(d:@kW R h b c a):ab vV 84 #[b,c,a] h R:=aq af func84 (an.tn (an.tn (an.tn (.two (an.tn (.inn (.loop [(9,dv),(28,be)] [(6,8),(9,18),(28,100)] (an.tn (an.tn (.two (.inn (an.tn (an.tn (an.tn (an.tn (an.tn (an.tn (.inn (.loop [(9,dv),(72,be)] [(9,10),(16,18),(72,99)] (an.tn (an.tn (.two (.inn (an.tn (.two (.join [(17,(.sc .adr))] [(17,18),(75,89)] .n) .n))) .n)))))))))))) .n)))))) .n)))) d
def xD(n:db)(l:gD):Prop:=
 aL vV (qI 88 n) h fun z B=>
 aL vV (qI 123 l) B fun u x=>
 aL vV (qJ 88 true (.tuple #[])) x fun a3 h3=>
 ∃q:db,ah h3 z 0 q/\
 ac vV 97 #[q] MZ h3 fun w A=>
 aL vV (qJ 88 true (.tuple #[])) A fun b y=>
 ae vV (qe 88 b w) y fun _ o=>
 ∃p,cellOf o b=some (vL vR p)/\
 ae vV (qe 3 b (qc vR (p+1))) o fun _ s=>
 ∃t,cellOf s (b.add 1)=some (vL vR t)/\
 ae vV (qe 3 (b.add 1) (qc vR (t+1))) s fun _ h8=>
 ∃r:Sl,cellOf h8 (b.add 7)=some (r:Value)/\
 ∃i:gD,ah h8 u 0 i/\
 aw vV (qu 86 1 #[(0,i)]) aN h8 fun k v=>
 aw vV (qx #[86,86] 86 #[r,k]) aN v fun m j=>
 ae vV (qe 86 (b.add 7) m) j fun _ c=>
 ∃f:Sl,cellOf c (b.add 7)=some (f:Value)/\
 ac vV 145 #[f,(.func (.func 146) #[] #[])] iG c fun _ g=>
 ∃e:db,ah g b 0 e/\
 ae vV (qe 88 a3 e) g fun _ d=>
 ∃a:db,ah d a3 0 a/\
 R a d
theorem Ft(a:db)(b:gD)(c:@xD R h a b):ab vV 85 #[a,b] h R:=aq af func85 .n c
def mf(a:Int)(d:Addr)(c:Addr):Prop:=
 ∃g,cellOf h d=some (vL vR g)/\
 ∃x2:Sl,cellOf h c=some (x2:Value)/\
 aS (σ:=Int×Int) (fun b f e=>
 Br (b.2<(x2.len:Int))
 (∃a4,(x2.ptr=some a4/\0<=b.2/\b.2<(x2.len:Int))/\
 ∃i:Int×Sl,ah e (a4.add (b.2.toNat*2)) 0 i/\
 aL vV (qJ 137 true (.tuple #[])) e fun j l=>
 ae vV (qe 137 j i) l fun _ h3=>
 ∃k,cellOf h3 j=some (vL vR k)/\
 Br (k==a)
 (f (qc vR (b.1+1),qc vR (b.2+1)) h3)
 (f (b.1,qc vR (b.2+1)) h3))
 (R b.1 e)) (g,(0:Int)) h
theorem sf(a:Int)(b:Addr)(c:Addr)(d:@mf R h a b c):ab vV 86 #[a,b,c] h R:=aq af func86 (an.tn (an.tn (.two (an.tn (.inn (.loop [(5,be),(11,be)] [(5,6),(7,8),(11,22)] .n))) .n))) d
def nu(c:aK)(a:Sl)(b:dl):Prop:=
 aL vV (qI 60 c) h fun i f=>
 aL vV (qI 145 (.func (.func b.1) b.2.1 b.2.2)) f fun g d=>
 ac vV 109 #[a,(.func (.func 148) #[] #[i,g])] bU d fun e h3=>
 R (vP (!e)) h3
theorem tI(c:aK)(a:Sl)(b:dl)(d:@nu R h c a b):ab vV 87 #[c,a,(.func (.func b.1) b.2.1 b.2.2)] h R:=aq af func87 .n d
def mg(e:aK)(a:Sl)(d:dl):Prop:=
 aS (σ:=Int) (fun f n i=>
 Br (f<(a.len:Int))
 (∃k,(a.ptr=some k/\0<=f/\f<(a.len:Int))/\
 ∃x3,cellOf i (k.add (f.toNat*1))=some (vL vR x3)/\
 aV (σ:=Int) (fun g m=>
 Br (g !=0)
 (R g m)
 (n (qc vR (f+1)) m))
 (fun q=>
 ∃a4,(e=some a4)/\
 (0<=x3/\x3<((64:Nat):Int))/\
 ∃j:aK,cellOf i ((a4.add 10).add (x3.toNat*1))=some (.pointer j)/\
 ∃b,(e=some b)/\
 ∃c:db,ah i b 0 c/\
 iJ C d.1 (d.2.1.toList++[(vL vR x3)]++d.2.2.toList) bo i fun o l=>
 (ar.ok [(b,c.1),(b.add 1,c.2.1),(b.add 2,c.2.2.1),(b.add 3,c.2.2.2.1),(b.add 4,c.2.2.2.2.1),(b.add 5,c.2.2.2.2.2.1),(b.add 6,c.2.2.2.2.2.2.1),(b.add 7,c.2.2.2.2.2.2.2),((a4.add 10).add (x3.toNat*1),j)] l)/\
 ac vV 62 #[j,c,o] bo l fun p h3=>
 (ar.ok [] h3)/\
 q p h3))
 (R (vL vR 0) i)) (0:Int) h
theorem sg(c:aK)(a:Sl)(b:dl)(d:@mg R h c a b):ab vV 88 #[c,a,(.func (.func b.1) b.2.1 b.2.2)] h R:=aq af func88 (an.tn (.two (an.tn (.inn (.loop [(12,be)] [(6,7),(8,10),(12,34)] (an.tn (an.tn (.two (.inn (an.tn (.two (.join [(9,be)] [(9,10),(16,30)] .n) .n))) .n)))))) .n)) d
def nv(b:aK)(c:db)(a:Sl):Prop:=
 aL vV (qI 88 c) h fun i f=>
 ∃x2:db,ah f i 0 x2/\
 ac vV 41 #[x2,a] aN f fun l j=>
 ac vV 40 #[(.func (.func 28) #[b] #[]),l] bo j fun g h3=>
 Br (g !=0)
 (R g h3)
 (∃e:db,ah h3 i 0 e/\
 ac vV 97 #[e] MZ h3 fun n k=>
 ∃d,(b=some d)/\
 ae vV (qe 88 d n) k fun _ m=>
 R (vL vR 0) m)
theorem tJ(c:aK)(b:db)(a:Sl)(d:@nv R h c b a):ab vV 89 #[c,b,a] h R:=aq af func89 .n d
def kj(a:aK):Prop:=
 Br (qS a) (R true h) (ac vV 46 #[a] bU h fun c b=>
 R c b)
theorem mh(a:aK)(b:@kj R h a):ab vV 90 #[a] h R:=aq af func90 .n b
def nw(b:aK)(a:ByteArray):Prop:=
 aL vV (qI 9 a) h fun g c=>
 ∃d,(b=some d)/\
 ∃x3:Sl,cellOf c (d.add 7)=some (x3:Value)/\
 ac vV 149 #[x3,(.func (.func 150) #[] #[g])] bo c fun f e=>
 R f e
theorem tK(b:aK)(a:ByteArray)(c:@nw R h b a):ab vV 91 #[b,a] h R:=aq af func91 .n c
def Bw(c:Int)(b:Int)(a:Int):Prop:=
 R (vL vT (qc vT ((qc vT ((qc vT (128*(qc vT c)))+(qc vT (16*(qc vT b)))))+(qc vT a)))) h
theorem Hl(c:Int)(b:Int)(a:Int)(d:@Bw R h c b a):ab vV 95 #[c,b,a] h R:=aq af func95 .n d
def DH(p:db):Prop:=
 aL vV (qI 88 p) h fun b A=>
 aL vV (qJ 88 true (.tuple #[])) A fun r n=>
 aV (σ:=Unit) (fun _ v=>
 ∃w:Sl,cellOf v (b.add 7)=some (w:Value)/\
 aS (σ:=Int) (fun e z h8=>
 Br (e<(w.len:Int))
 (∃d:Sl,cellOf h8 (b.add 7)=some (d:Value)/\
 ∃c:Sl,cellOf h8 (b.add 7)=some (c:Value)/\
 ∃l,(c.ptr=some l/\0<=e/\e<(c.len:Int))/\
 ∃j:Sl,cellOf h8 ((l.add (e.toNat*4)).add 3)=some (j:Value)/\
 ac vV 100 #[j] aN h8 fun m s=>
 (ar.ok [(b.add 7,c),(b.add 7,d)] s)/\
 ∃k,(d.ptr=some k/\0<=e/\e<(d.len:Int))/\
 ae vV (qe 22 ((k.add (e.toNat*4)).add 3) m) s fun _ f=>
 (ar.ok [] f)/\
 z (qc vR (e+1)) f)
 (∃i:db,ah h8 b 0 i/\
 ae vV (qe 88 r i) h8 fun _ g=>
 ∃a:db,ah g r 0 a/\
 R a g)) (0:Int) v)
 (fun x=>
 ∃x3:Sl,cellOf n (b.add 6)=some (x3:Value)/\
 ∃o:Sl,cellOf n (b.add 7)=some (o:Value)/\
 ac vV 100 #[x3] aN n fun y h3=>
 (ar.ok [(b.add 7,o)] h3)/\
 ac vV 160 #[o] aN h3 fun B u=>
 (ar.ok [] u)/\
 ae vV (qe 22 (b.add 6) y) u fun _ t=>
 (ar.ok [] t)/\
 ae vV (qe 86 (b.add 7) B) t fun _ q=>
 (ar.ok [] q)/\
 x () q)
theorem Jf(a:db)(b:@DH R h a):ab vV 97 #[a] h R:=aq af func97 (an.tn (.two (.join [] [(4,12)] .n) (.two (an.tn (.inn (.loop [(15,be)] [(3,4),(15,31)] .n))) .n))) b
def kD(a:Sl):Prop:=
 Br (qS a.ptr)
 (R (vM none 0 0) h)
 (aw vV (qu 22 0 #[]) aN h fun d c=>
 aw vV (qx #[22,22] 22 #[d,a]) aN c fun e b=>
 R e b)
theorem oY(a:Sl)(b:@kD R h a):ab vV 100 #[a] h R:=aq af func100 .n b
def si(l:aK)(k:db):Prop:=
 aL vV (qI 88 k) h fun z B=>
 ac vV 121 #[l] aN B fun p x=>
 aS (σ:=Sl×Int) (fun a v h3=>
 Br ((qc vR (a.2+1))>=(p.len:Int))
 (ac vV 164 #[a.1,(.func (.func 165) #[] #[])] iG h3 fun _ A=>
 ac vV 166 #[a.1,(.func (.func 167) #[] #[])] aN A fun w y=>
 R w y)
 (aV (σ:=Sl) (fun c o=>
 v ((⟨c.ptr,c.len,c.cap⟩:Sl),qc vR (a.2+1)) o)
 (fun q=>
 ∃r,(p.ptr=some r/\0<=(qc vR (a.2+1))/\(qc vR (a.2+1))<(p.len:Int))/\
 ∃s:Sl,cellOf h3 (r.add ((qc vR (a.2+1)).toNat*1))=some (s:Value)/\
 ac vV 162 #[s] (.many [(.agg [(.int .i64),(.int .i64),(.int .i64),(.int .i64),(.int .i64),(.int .i64),(.int .u32),.slc]),kc]) h3 fun t u=>
 aL vV (qJ 49 true (.tuple #[])) u fun a9 D=>
 ae vV (qe 49 a9 t.1) D fun _ h8=>
 Br t.2 (∃f:db,ah h8 z 0 f/\
 ∃e:cH,ah h8 a9 0 e/\
 ac vV 163 #[f,e] bU h8 fun n m=>
 Br n
 (∃d:cH,ah m a9 0 d/\
 aw vV (qu 160 1 #[(0,d)]) aN m fun i g=>
 aw vV (qx #[160,160] 160 #[a.1,i]) aN g fun b j=>
 q (⟨b.ptr,b.len,b.cap⟩:Sl) j)
 (q (⟨a.1.ptr,a.1.len,a.1.cap⟩:Sl) m)) (q (⟨a.1.ptr,a.1.len,a.1.cap⟩:Sl) h8)))) ((⟨none,0,0⟩:Sl),(-1:Int)) x
theorem Cv(a:aK)(b:db)(c:@si R h a b):ab vV 101 #[a,b] h R:=aq af func101 (an.tn (.scope 0 [(6,dv),(7,be)] [(4,5),(6,10),(12,40)] [.n,.n,.n] [(an.tn (an.tn (.two (.join [(6,dv)] [(6,7),(8,10),(18,36)] .n) .n)))] [(1,[.n])])) c
def DI(D:db):Prop:=
 aL vV (qI 88 D) h fun c J=>
 aV (σ:=Unit) (fun _ F=>
 aV (σ:=Unit) (fun _ h8=>
 ∃d:Sl,cellOf h8 (c.add 7)=some (d:Value)/\
 aS (σ:=Int) (fun a P w=>
 Br (a<(d.len:Int))
 (∃n,(d.ptr=some n/\0<=a/\a<(d.len:Int))/\
 ∃j:gD,ah w (n.add (a.toNat*4)) 0 j/\
 aL vV (qJ 123 true (.tuple #[])) w fun f v=>
 ae vV (qe 123 f j) v fun _ g=>
 aV (σ:=Unit) (fun _ p=>
 ∃e:Sl,cellOf p (c.add 7)=some (e:Value)/\
 (0<=a/\a<=(e.cap:Int))/\
 ac vV 182 #[(vM e.ptr a.toNat e.cap),(.func (.func 183) #[] #[f])] bU p fun B k=>
 Br B
 (R false k)
 (P (qc vR (a+1)) k))
 (fun I=>
 ∃t:db,ah g c 0 t/\
 ∃q:gD,ah g f 0 q/\
 ac vV 181 #[t,q] bU g fun x b=>
 (ar.ok [] b)/\
 Br (!x) (R false b) (Br (a>0) (∃i:Sl,cellOf b (c.add 7)=some (i:Value)/\
 ∃o,(i.ptr=some o/\0<=(qc vR (a-1))/\(qc vR (a-1))<(i.len:Int))/\
 ∃l:ByteArray,cellOf b (o.add ((qc vR (a-1)).toNat*4))=some (vO l)/\
 ∃m:ByteArray,cellOf b f=some (vO m)/\
 Br (!(Op.bytesLess l.toList m.toList))
 (R false b)
 (I () b)) (I () b))))
 (R true w)) (0:Int) h8)
 (fun S=>
 ∃s:Sl,cellOf F (c.add 6)=some (s:Value)/\
 ac vV 180 #[s,(vL vR 63)] bU F fun y u=>
 Br (!y) (R false u) (∃r:Sl,cellOf u (c.add 7)=some (r:Value)/\
 Br ((r.len:Int)>12)
 (R false u)
 (S () u))))
 (fun L=>
 ∃x2,cellOf J c=some (vL vR x2)/\
 ac vV 179 #[x2,(vL vR 1),(vL vR 2147483647)] bU J fun O z=>
 Br (!O) (R false z) (∃G,cellOf z (c.add 1)=some (vL vR G)/\
 ac vV 179 #[G,(vL vR 0),(vL vR 16777216)] bU z fun N h3=>
 Br (!N) (R false h3) (∃E:bL,ah h3 (c.add 2) 0 E/\
 ac vV 36 #[E] bU h3 fun M A=>
 Br (!M) (R false A) (∃K,cellOf A (c.add 5)=some (vL vR K)/\
 ac vV 179 #[K,(vL vR 0),(vL vR 16)] bU A fun Q H=>
 Br (!Q)
 (R false H)
 (L () H)))))
theorem Jg(a:db)(b:@DI R h a):ab vV 105 #[a] h R:=aq af func105 (an.tn (.two (.join [] [(2,3),(5,27)] .n) (.two (.join [] [(2,3),(27,37)] .n) (.two (an.tn (.inn (.loop [(40,be)] [(2,5),(40,72)] (an.tn (an.tn (.two (.inn (an.tn (.two (.join [] [(2,3),(45,65)] .n) .n))) .n)))))) .n)))) b
def DJ(c:dl)(a:Sl):Prop:=
 aS (σ:=Sl×Int) (fun b d f=>
 Br (b.2<(a.len:Int))
 (∃i,(a.ptr=some i/\0<=b.2/\b.2<(a.len:Int))/\
 ∃x3,cellOf f (i.add (b.2.toNat*1))=some (vL vR x3)/\
 iJ C c.1 (c.2.1.toList++[(vL vR x3)]++c.2.2.toList) kb f fun j g=>
 Br (!(qS j)) (ac vV 112 #[j] bU g fun n h3=>
 Br (!n)
 (aw vV (qu 22 1 #[(0,x3)]) aN h3 fun k l=>
 aw vV (qx #[22,22] 22 #[b.1,k]) aN l fun e m=>
 d ((⟨e.ptr,e.len,e.cap⟩:Sl),qc vR (b.2+1)) m)
 (d ((⟨b.1.ptr,b.1.len,b.1.cap⟩:Sl),qc vR (b.2+1)) h3)) (d ((⟨b.1.ptr,b.1.len,b.1.cap⟩:Sl),qc vR (b.2+1)) g))
 (R b.1 f)) ((⟨none,0,0⟩:Sl),(0:Int)) h
theorem Jh(b:dl)(a:Sl)(c:@DJ R h b a):ab vV 106 #[(.func (.func b.1) b.2.1 b.2.2),a] h R:=aq af func106 (an.tn (an.tn (.two (an.tn (.inn (.loop [(5,dv),(11,be)] [(5,6),(7,9),(11,30)] .n))) .n))) c
def fY(b:Sl)(a:dl):Prop:=
 aS (σ:=Int) (fun c g d=>
 Br (c<(b.len:Int))
 (∃f,(b.ptr=some f/\0<=c/\c<(b.len:Int))/\
 ∃x3,cellOf d (f.add (c.toNat*1))=some (vL vR x3)/\
 iJ C a.1 (a.2.1.toList++[(vL vR x3)]++a.2.2.toList) bU d fun i e=>
 Br i
 (R c e)
 (g (qc vR (c+1)) e))
 (R (vL vR (-1:Int)) d)) (0:Int) h
theorem iA(b:Sl)(a:dl)(c:@fY R h b a):ab vV 108 #[b,(.func (.func a.1) a.2.1 a.2.2)] h R:=aq af func108 (an.tn (.two (an.tn (.inn (.loop [(8,be)] [(4,6),(8,19)] .n))) .n)) c
def fw(b:Sl)(a:dl):Prop:=
 ac vV 108 #[b,(.func (.func a.1) a.2.1 a.2.2)] bo h fun d c=>
 R (decide (d>=0)) c
theorem gM(b:Sl)(a:dl)(c:@fw R h b a):ab vV 109 #[b,(.func (.func a.1) a.2.1 a.2.2)] h R:=aq af func109 .n c
def ny(a:aK):Prop:=
 Br (!(qS a)) (∃b,(a=some b)/\
 ∃x2:Bool,cellOf h (b.add 6)=some (vP x2)/\
 R x2 h) (R false h)
theorem tO(a:aK)(b:@ny R h a):ab vV 112 #[a] h R:=aq af func112 .n b
end
end Go.Qw
