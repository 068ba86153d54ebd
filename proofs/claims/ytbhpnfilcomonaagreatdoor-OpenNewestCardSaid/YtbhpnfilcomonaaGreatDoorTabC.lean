/- Lemmas for the proof of the law; no condition. -/
import Derived.Test.YtbhpnfilcomonaaGreatDoorTabA
set_option linter.unusedVariables false
open Go.Proofs.Tryz renaming prog -> xa
open Go.Instr renaming alloc -> qG, box -> qI, buildSlice -> qt, makeSlice -> zD, storeAt -> qe
open Go.Value renaming agg -> vV, bool -> vU, int -> vQ, slice -> vR
open Go.IntKind renaming bits -> qj, i64 -> vW, u32 -> vY, u8 -> vX, wrap -> qc
open BitVec renaming ofInt -> qy
open Go.Builtin renaming append_ -> qu
open Int renaming tmod -> zY
open Go.Proofs.Tryz
set_option maxRecDepth 1000000
namespace Go.Qw
noncomputable section
open Go Go.Vc Go.Proofs
variable {R:ug} {h:Heap}
def CK(p:Sl):Prop:=
 aI xa (qG 214 true (.tuple #[])) h fun f B=>
 ae xa 204 #[p] (.many [bc,dg,ji]) B fun b t=>
 aY (σ:=Unit) (fun _ D=>
 (0<=(4:Int)/\(4:Int)<=(b.2.1.cap:Int))/\
 aN (σ:=Int×Int) (fun l z n=>
 Br (decide (l.2<(((4:Int).toNat:Nat):Int)))
 (∃v,(b.2.1.ptr=some v/\0<=l.2/\l.2<(((4:Int).toNat:Nat):Int))/\
 ∃x,cellOf n (v.add (l.2.toNat*1))=some (vQ vX x)/\
 (0<=(8:Int))/\
 z (qc vW ((qy (qj vW) (qc vW (l.1*2^min (8:Int).toNat (qj vW)))|||(qy (qj vW) (qc vW x))).toNat:Nat),qc vW (l.2+1)) n)
 (∃a9,(b.2.1.ptr=some a9/\0<=(6:Int)/\(6:Int)<(b.2.1.len:Int))/\
 ∃a:Int,cellOf n (a9.add ((6:Int).toNat*1))=some (vQ vX a)/\
 aY (σ:=Unit) (fun _ k=>
 ∃q,(b.2.1.ptr=some q/\0<=(4:Int)/\(4:Int)<(b.2.1.len:Int))/\
 ∃o:Int,cellOf k (q.add ((4:Int).toNat*1))=some (vQ vX o)/\
 ∃r,(b.2.1.ptr=some r/\0<=(5:Int)/\(5:Int)<(b.2.1.len:Int))/\
 ∃m:Int,cellOf k (r.add ((5:Int).toNat*1))=some (vQ vX m)/\
 (0<=(7:Int)/\(7:Int)<=(qc vW (7+(qc vW a)))/\(qc vW (7+(qc vW a)))<=(b.2.1.cap:Int))/\
 ab xa (qe 214 f (vV #[l.1,(qc vW o),(qc vW m),(.slice (if b.2.1.cap=(7:Int).toNat then b.2.1.ptr else b.2.1.ptr.map (·.add ((7:Int).toNat*1))) ((qc vW (7+(qc vW a))).toNat-(7:Int).toNat) (b.2.1.cap-(7:Int).toNat)),p])) k fun _ j=>
 (aB.ok [] j)/\
 ∃c:lN,ai j f 0 c/\
 R (.tuple #[c,true]) j)
 (fun A=>
 Br ((qc vW a)>48) (ab xa (qe 214 f (vV #[(vQ vW 0),(vQ vW 0),(vQ vW 0),(vR none 0 0),(vR none 0 0)])) n fun _ w=>
 ∃d:lN,ai w f 0 d/\
 R (.tuple #[d,false]) w) ((0<=(qc vW (7+(qc vW a)))/\(qc vW (7+(qc vW a)))<=(b.2.1.len:Int))/\
 ae xa 205 #[(.slice (if b.2.1.cap=(qc vW (7+(qc vW a))).toNat then b.2.1.ptr else b.2.1.ptr.map (·.add ((qc vW (7+(qc vW a))).toNat*1))) (b.2.1.len-(qc vW (7+(qc vW a))).toNat) (b.2.1.cap-(qc vW (7+(qc vW a))).toNat)),Xm] aO n fun s h8=>
 Br ((s.len:Int)>0)
 (ab xa (qe 214 f (vV #[(vQ vW 0),(vQ vW 0),(vQ vW 0),(vR none 0 0),(vR none 0 0)])) h8 fun _ u=>
 ∃e:lN,ai u f 0 e/\
 R (.tuple #[e,false]) u)
 (A () h8))))) ((0:Int),(0:Int)) D)
 (fun K1=>
 Br (!b.2.2) (ab xa (qe 214 f (vV #[(vQ vW 0),(vQ vW 0),(vQ vW 0),(vR none 0 0),(vR none 0 0)])) t fun _ h3=>
 ∃i:lN,ai h3 f 0 i/\
 R (.tuple #[i,false]) h3) (Br (b.1 !=2)
 (ab xa (qe 214 f (vV #[(vQ vW 0),(vQ vW 0),(vQ vW 0),(vR none 0 0),(vR none 0 0)])) t fun _ y=>
 ∃g:lN,ai y f 0 g/\
 R (.tuple #[g,false]) y)
 (K1 () t)))
theorem IX(a:Sl)(b:@CK R h a):ac xa 157 #[a] h R:=ao af func157 (ak.tn (ak.tn (.two (.join [] [(3,4),(17,24)] .n) (ak.tn (.two (ak.tn (.inn (.loop [(7,bc),(27,bc)] [(7,8),(9,10),(27,37)] .n))) (ak.tn (.two (.join [] [(3,4),(41,53)] .n) .n))))))) b
def xp(d:Sl)(a:lN):Prop:=
 aI xa (qI 214 a) h fun n s=>
 ∃x2:lN,ai s n 0 x2/\
 av xa (qt 212 1 #[(0,x2)]) aO s fun v3 v=>
 aI xa (qG 3 true (.tuple #[])) v fun a4 h3=>
 ab xa (qe 3 a4 (vQ vW 1)) h3 fun _ x=>
 aN (σ:=Sl×Addr) (fun g K1 l=>
 ∃t:Int,cellOf l g.2=some (vQ vW t)/\
 ∃r,cellOf l (n.add 2)=some (vQ vW r)/\
 Br (t<r)
 (ae xa 206 #[d,(.func (.func 207) #[] #[n,g.2])] bp l fun m p=>
 Br (m<0)
 (R (.tuple #[(vR none 0 0),false]) p)
 (∃a9,(d.ptr=some a9/\0<=m/\m<(d.len:Int))/\
 ∃i:lN,ai p (a9.add (m.toNat*5)) 0 i/\
 av xa (qt 212 1 #[(0,i)]) aO p fun q w=>
 av xa (qu #[212,212] 212 #[g.1,q]) aO w fun c h8=>
 ∃e:Int,cellOf h8 g.2=some (vQ vW e)/\
 aI xa (qG 3 true (.tuple #[])) h8 fun b u=>
 ab xa (qe 3 b e) u fun _ j=>
 ∃k,cellOf j b=some (vQ vW k)/\
 ab xa (qe 3 b (qc vW (k+1))) j fun _ o=>
 K1 ((⟨c.ptr,c.len,c.cap⟩:Sl),b) o))
 (∃f,cellOf l (n.add 2)=some (vQ vW f)/\
 R (.tuple #[g.1,(decide (f>0))]) l)) ((⟨v3.ptr,v3.len,v3.cap⟩:Sl),a4) x
theorem Fi(b:Sl)(a:lN)(c:@xp R h b a):ac xa 158 #[b,a] h R:=ao af func158 (ak.tn (ak.tn (.two (ak.tn (.inn (.loop [(6,dg),(7,(.sc .adr))] [(4,9),(11,30)] .n))) .n))) c
def AE(c:Sl):Prop:=
 aI xa (qG 47 true (.tuple #[])) h fun j v=>
 aN (σ:=Sl×Int) (fun d K1 l=>
 Br (d.2<(c.len:Int))
 (∃a3,(c.ptr=some a3/\0<=d.2/\d.2<(c.len:Int))/\
 ∃q:lN,ai l (a3.add (d.2.toNat*5)) 0 q/\
 aI xa (qG 214 true (.tuple #[])) l fun a5 h3=>
 ab xa (qe 214 a5 q) h3 fun _ t=>
 ∃s:Sl,cellOf t (a5.add 3)=some (s:Value)/\
 av xa (qu #[38,38] 38 #[d.1,s]) aO t fun n x=>
 K1 ((⟨n.ptr,n.len,n.cap⟩:Sl),qc vW (d.2+1)) x)
 (ae xa 208 #[d.1] (.many [TO,ji]) l fun r u=>
 aI xa (qG 47 true (.tuple #[])) u fun a9 w=>
 ab xa (qe 47 a9 r.1) w fun _ h8=>
 Br (!r.2)
 (ab xa (qe 47 j (vV #[(vQ vW 0),(vQ vW 0),(vQ vW 0),(vQ vW 0),(vQ vW 0),(vQ vW 0),(vR none 0 0),(vR none 0 0)])) h8 fun _ p=>
 ∃b:bH,ai p j 0 b/\
 R (.tuple #[b,false]) p)
 (∃i:bH,ai h8 a9 0 i/\
 ae xa 25 #[i] aO h8 fun k o=>
 ae xa 209 #[k,c,(.func (.func 210) #[] #[])] bY o fun m e=>
 ∃f:bH,ai e a9 0 f/\
 ab xa (qe 47 j f) e fun _ g=>
 ∃a:bH,ai g j 0 a/\
 R (.tuple #[a,m]) g))) ((⟨none,0,0⟩:Sl),(0:Int)) v
theorem GK(a:Sl)(b:@AE R h a):ac xa 159 #[a] h R:=ao af func159 (ak.tn (ak.tn (.two (ak.tn (.inn (.loop [(4,dg),(12,bc)] [(4,5),(6,7),(12,21)] .n))) .n))) b
def dM(b:Sl)(a:cq):Prop:=
 ae xa 211 #[b,(vQ vW (b.len:Int)),(.func (.func a.1) a.2.1 a.2.2)] ia h fun _ c=>
 R (.tuple #[]) c
theorem gw(b:Sl)(a:cq)(c:@dM R h b a):ac xa 160 #[b,(.func (.func a.1) a.2.1 a.2.2)] h R:=ao af func160 .n c
def xq(c:bH)(b:bH):Prop:=
 aI xa (qI 47 c) h fun f g=>
 aI xa (qI 47 b) g fun e a=>
 ∃x3,cellOf a e=some (vQ vW x3)/\
 ∃d,cellOf a f=some (vQ vW d)/\
 ae xa 110 #[x3,d] bp a fun i h3=>
 R i h3
theorem Fj(b:bH)(a:bH)(c:@xq R h b a):ac xa 161 #[b,a] h R:=ao af func161 .n c
def xr(o:Sl):Prop:=
 aI xa (qG 119 true (.tuple #[])) h fun f h1=>
 ae xa 204 #[o] (.many [bc,dg,ji]) h1 fun a Z=>
 aY (σ:=Unit) (fun _ h5=>
 aY (σ:=Addr) (fun b a8=>
 aY (σ:=Unit) (fun _ ad=>
 (0<=(9:Int)/\(9:Int)<=(13:Int)/\(13:Int)<=(a.2.1.cap:Int))/\
 ae xa 212 #[(.slice (if a.2.1.cap=(9:Int).toNat then a.2.1.ptr else a.2.1.ptr.map (·.add ((9:Int).toNat*1))) ((13:Int).toNat-(9:Int).toNat) (a.2.1.cap-(9:Int).toNat))] bp ad fun U ay=>
 ab xa (qe 111 (b.add 6) (vQ vY (qc vY U))) ay fun _ M=>
 ∃w:bX,ai M (b.add 3) 0 w/\
 ae xa 23 #[w] bY M fun a6 k=>
 Br (!a6)
 (ab xa (qe 119 f (vV #[(vQ vW 0),(vQ vW 0),(vQ vW 0),(vQ vW 0),(vQ vW 0),(vQ vW 0),(vQ vY 0),(vR none 0 0)])) k fun _ A=>
 ∃d:dA,ai A f 0 d/\
 R (.tuple #[d,false]) A)
 (∃g,cellOf k ((b.add 3).add 2)=some (vQ vW g)/\
 (0<=(13:Int)/\(13:Int)<=(qc vW (13+g))/\(qc vW (13+g))<=(a.2.1.cap:Int))/\
 ae xa 56 #[(.slice (if a.2.1.cap=(13:Int).toNat then a.2.1.ptr else a.2.1.ptr.map (·.add ((13:Int).toNat*1))) ((qc vW (13+g)).toNat-(13:Int).toNat) (a.2.1.cap-(13:Int).toNat))] aO k fun S X=>
 ab xa (qe 38 (b.add 7) S) X fun _ E=>
 ∃K:dA,ai E b 0 K/\
 ae xa 68 #[K] aO E fun a5 a2=>
 ae xa 43 #[o,a5] bY a2 fun a4 l=>
 Br (!a4)
 (ab xa (qe 119 f (vV #[(vQ vW 0),(vQ vW 0),(vQ vW 0),(vQ vW 0),(vQ vW 0),(vQ vW 0),(vQ vY 0),(vR none 0 0)])) l fun _ N=>
 ∃e:dA,ai N f 0 e/\
 R (.tuple #[e,false]) N)
 (∃D:dA,ai l b 0 D/\
 ab xa (qe 119 f D) l fun _ z=>
 ∃c:dA,ai z f 0 c/\
 R (.tuple #[c,true]) z)))
 (fun K3=>
 (0<=(6:Int)/\(6:Int)<=(7:Int)/\(7:Int)<=(a.2.1.cap:Int))/\
 (0<=(7:Int)/\(7:Int)<=(8:Int)/\(8:Int)<=(a.2.1.cap:Int))/\
 (0<=(8:Int)/\(8:Int)<=(9:Int)/\(9:Int)<=(a.2.1.cap:Int))/\
 ae xa 212 #[(.slice (if a.2.1.cap=(6:Int).toNat then a.2.1.ptr else a.2.1.ptr.map (·.add ((6:Int).toNat*1))) ((7:Int).toNat-(6:Int).toNat) (a.2.1.cap-(6:Int).toNat))] bp a8 fun T J=>
 (aB.ok [] J)/\
 ae xa 212 #[(.slice (if a.2.1.cap=(7:Int).toNat then a.2.1.ptr else a.2.1.ptr.map (·.add ((7:Int).toNat*1))) ((8:Int).toNat-(7:Int).toNat) (a.2.1.cap-(7:Int).toNat))] bp J fun a0 F=>
 (aB.ok [] F)/\
 ae xa 212 #[(.slice (if a.2.1.cap=(8:Int).toNat then a.2.1.ptr else a.2.1.ptr.map (·.add ((8:Int).toNat*1))) ((9:Int).toNat-(8:Int).toNat) (a.2.1.cap-(8:Int).toNat))] bp F fun bb q=>
 (aB.ok [] q)/\
 ab xa (qe 24 (b.add 3) (vV #[T,a0,bb])) q fun _ p=>
 (aB.ok [] p)/\
 K3 () p))
 (fun Q=>
 (0<=(3:Int)/\(3:Int)<=(a.2.1.cap:Int))/\
 (0<=(3:Int)/\(3:Int)<=(4:Int)/\(4:Int)<=(a.2.1.cap:Int))/\
 (0<=(4:Int)/\(4:Int)<=(6:Int)/\(6:Int)<=(a.2.1.cap:Int))/\
 (ae xa 212 #[(vR a.2.1.ptr ((3:Int).toNat) a.2.1.cap)] bp h5 fun r6 Y=>
 (aB.ok [] Y)/\
 (ae xa 212 #[(.slice (if a.2.1.cap=(3:Int).toNat then a.2.1.ptr else a.2.1.ptr.map (·.add ((3:Int).toNat*1))) ((4:Int).toNat-(3:Int).toNat) (a.2.1.cap-(3:Int).toNat))] bp Y fun r7 h7=>
 (aB.ok [] h7)/\
 (ae xa 212 #[(.slice (if a.2.1.cap=(4:Int).toNat then a.2.1.ptr else a.2.1.ptr.map (·.add ((4:Int).toNat*1))) ((6:Int).toNat-(4:Int).toNat) (a.2.1.cap-(4:Int).toNat))] bp h7 fun r8 h8=>
 (aB.ok [] h8)/\
 aI xa (qG 119 true (.tuple #[])) h8 fun a9 h9=>
 (aB.ok [] h9)/\
 ab xa (qe 119 a9 (vV #[r6,r7,r8,(vQ vW 0),(vQ vW 0),(vQ vW 0),(vQ vY 0),(vR none 0 0)])) h9 fun _ H=>
 (aB.ok [] H)/\
 Q a9 H)/\(aI xa (qG 119 true (.tuple #[])) h7 fun O n=>
 (aB.ok [] n)/\
 ae xa 212 #[(.slice (if a.2.1.cap=(4:Int).toNat then a.2.1.ptr else a.2.1.ptr.map (·.add ((4:Int).toNat*1))) ((6:Int).toNat-(4:Int).toNat) (a.2.1.cap-(4:Int).toNat))] bp n fun V r=>
 (aB.ok [] r)/\
 ab xa (qe 119 O (vV #[r6,r7,V,(vQ vW 0),(vQ vW 0),(vQ vW 0),(vQ vY 0),(vR none 0 0)])) r fun _ x=>
 (aB.ok [] x)/\
 Q O x))/\(aI xa (qG 119 true (.tuple #[])) Y fun t B=>
 (aB.ok [] B)/\
 ae xa 212 #[(.slice (if a.2.1.cap=(3:Int).toNat then a.2.1.ptr else a.2.1.ptr.map (·.add ((3:Int).toNat*1))) ((4:Int).toNat-(3:Int).toNat) (a.2.1.cap-(3:Int).toNat))] bp B fun ax u=>
 (aB.ok [] u)/\
 ae xa 212 #[(.slice (if a.2.1.cap=(4:Int).toNat then a.2.1.ptr else a.2.1.ptr.map (·.add ((4:Int).toNat*1))) ((6:Int).toNat-(4:Int).toNat) (a.2.1.cap-(4:Int).toNat))] bp u fun am P=>
 (aB.ok [] P)/\
 ab xa (qe 119 t (vV #[r6,ax,am,(vQ vW 0),(vQ vW 0),(vQ vW 0),(vQ vY 0),(vR none 0 0)])) P fun _ s=>
 (aB.ok [] s)/\
 Q t s))/\(aI xa (qG 119 true (.tuple #[])) h5 fun I G=>
 (aB.ok [] G)/\
 ae xa 212 #[(vR a.2.1.ptr ((3:Int).toNat) a.2.1.cap)] bp G fun a3 v=>
 (aB.ok [] v)/\
 ae xa 212 #[(.slice (if a.2.1.cap=(3:Int).toNat then a.2.1.ptr else a.2.1.ptr.map (·.add ((3:Int).toNat*1))) ((4:Int).toNat-(3:Int).toNat) (a.2.1.cap-(3:Int).toNat))] bp v fun a7 y=>
 (aB.ok [] y)/\
 ae xa 212 #[(.slice (if a.2.1.cap=(4:Int).toNat then a.2.1.ptr else a.2.1.ptr.map (·.add ((4:Int).toNat*1))) ((6:Int).toNat-(4:Int).toNat) (a.2.1.cap-(4:Int).toNat))] bp y fun W L=>
 (aB.ok [] L)/\
 ab xa (qe 119 I (vV #[a3,a7,W,(vQ vW 0),(vQ vW 0),(vQ vW 0),(vQ vY 0),(vR none 0 0)])) L fun _ m=>
 (aB.ok [] m)/\
 Q I m)))
 (fun K1=>
 Br (!a.2.2) (ab xa (qe 119 f (vV #[(vQ vW 0),(vQ vW 0),(vQ vW 0),(vQ vW 0),(vQ vW 0),(vQ vW 0),(vQ vY 0),(vR none 0 0)])) Z fun _ h3=>
 ∃j:dA,ai h3 f 0 j/\
 R (.tuple #[j,false]) h3) (Br (a.1 !=1)
 (ab xa (qe 119 f (vV #[(vQ vW 0),(vQ vW 0),(vQ vW 0),(vQ vW 0),(vQ vW 0),(vQ vW 0),(vQ vY 0),(vR none 0 0)])) Z fun _ h4=>
 ∃i:dA,ai h4 f 0 i/\
 R (.tuple #[i,false]) h4)
 (K1 () Z)))
theorem Fk(a:Sl)(b:@xr R h a):ac xa 162 #[a] h R:=ao af func162 (ak.tn (ak.tn (.two (.join [] [(3,4),(14,21)] .n) (.two (.join [(7,(.sc .adr))] [(7,8),(21,31)] .n) (.two (.join [] [(31,42)] .n) .n))))) b
def xt(b:bH)(c:dA):Prop:=
 aI xa (qI 47 b) h fun i o=>
 aI xa (qI 119 c) o fun a e=>
 aY (σ:=Unit) (fun _ l=>
 ∃j:Sl,cellOf l (i.add 7)=some (j:Value)/\
 ae xa 88 #[j,(.func (.func 213) #[] #[a])] bY l fun d n=>
 R d n)
 (fun K1=>
 ∃x3:dA,ai e a 0 x3/\
 ae xa 112 #[x3] bY e fun m h3=>
 Br (!m) (R false h3) (∃f:bX,ai h3 (a.add 3) 0 f/\
 ∃k:bX,ai h3 (i.add 2) 0 k/\
 ∃g:Bool,(fR xa .neq 24 (.tmp 10) (.tmp 12) f k (vU g))/\
 Br g
 (R false h3)
 (K1 () h3)))
theorem Fl(a:bH)(b:dA)(c:@xt R h a b):ac xa 163 #[a,b] h R:=ao af func163 (ak.tn (.two (.join [] [(4,15)] .n) .n)) c
def eP(b:Sl)(a:cq):Prop:=
 ae xa 214 #[b,(vQ vW (b.len:Int)),(.func (.func a.1) a.2.1 a.2.2)] ia h fun _ c=>
 R (.tuple #[]) c
theorem il(b:Sl)(a:cq)(c:@eP R h b a):ac xa 164 #[b,(.func (.func a.1) a.2.1 a.2.2)] h R:=ao af func164 .n c
def AF(n:dA)(k:dA):Prop:=
 aI xa (qI 119 n) h fun c u=>
 aI xa (qI 119 k) u fun b a=>
 ∃x3,cellOf a c=some (vQ vW x3)/\
 ∃o,cellOf a b=some (vQ vW o)/\
 ∃f,cellOf a (c.add 1)=some (vQ vW f)/\
 ∃m,cellOf a (b.add 1)=some (vQ vW m)/\
 ∃d,cellOf a (c.add 2)=some (vQ vW d)/\
 ∃e,cellOf a (b.add 2)=some (vQ vW e)/\
 ae xa 110 #[x3,o] bp a fun t h3=>
 (aB.ok [(b.add 2,e),(c.add 2,d),(b.add 1,m),(c.add 1,f)] h3)/\
 ae xa 110 #[f,m] bp h3 fun l q=>
 (aB.ok [(b.add 2,e),(c.add 2,d)] q)/\
 ae xa 110 #[d,e] bp q fun g s=>
 (aB.ok [] s)/\
 av xa (qt 22 3 #[(0,t),(1,l),(2,g)]) aO s fun i p=>
 (aB.ok [] p)/\
 ae xa 108 #[i] bp p fun j r=>
 (aB.ok [] r)/\
 R j r
theorem GL(b:dA)(a:dA)(c:@AF R h b a):ac xa 165 #[b,a] h R:=ao af func165 .n c
def fg(a:Sl)(d:cq):Prop:=
 Br ((a.len:Int)<2)
 (R a h)
 (aN (σ:=Int) (fun c K1 m=>
 Br (c<(a.len:Int))
 (∃r,(a.ptr=some r/\0<=c/\c<(a.len:Int))/\
 ∃x3:dA,ai m (r.add (c.toNat*8)) 0 x3/\
 ∃a4,(a.ptr=some a4/\0<=(qc vW (c-1))/\(qc vW (c-1))<(a.len:Int))/\
 ∃f:dA,ai m (a4.add ((qc vW (c-1)).toNat*8)) 0 f/\
 gy C d.1 (d.2.1.toList++[(vV #[x3.1,x3.2.1,x3.2.2.1,x3.2.2.2.1,x3.2.2.2.2.1,x3.2.2.2.2.2.1,(vQ vY x3.2.2.2.2.2.2.1),x3.2.2.2.2.2.2.2]),(vV #[f.1,f.2.1,f.2.2.1,f.2.2.2.1,f.2.2.2.2.1,f.2.2.2.2.2.1,(vQ vY f.2.2.2.2.2.2.1),f.2.2.2.2.2.2.2])]++d.2.2.toList) bY m fun u p=>
 (aB.ok [] p)/\
 Br u
 ((0<=c/\c<=(a.len:Int))/\
 aN (σ:=Int×Int) (fun b q h3=>
 Br (decide (b.2<(((a.len-c.toNat):Nat):Int)))
 (∃s:Addr,((if a.cap=c.toNat then a.ptr else a.ptr.map (·.add (c.toNat*8)))=some s/\0<=b.2/\b.2<(((a.len-c.toNat):Nat):Int))/\
 ∃g:dA,ai h3 (s.add (b.2.toNat*8)) 0 g/\
 ∃l:Addr,((if a.cap=c.toNat then a.ptr else a.ptr.map (·.add (c.toNat*8)))=some l/\0<=(qc vW (b.2-1))/\(qc vW (b.2-1))<(((a.len-c.toNat):Nat):Int))/\
 ∃e:dA,ai h3 (l.add ((qc vW (b.2-1)).toNat*8)) 0 e/\
 gy C d.1 (d.2.1.toList++[(vV #[g.1,g.2.1,g.2.2.1,g.2.2.2.1,g.2.2.2.2.1,g.2.2.2.2.2.1,(vQ vY g.2.2.2.2.2.2.1),g.2.2.2.2.2.2.2]),(vV #[e.1,e.2.1,e.2.2.1,e.2.2.2.1,e.2.2.2.2.1,e.2.2.2.2.2.1,(vQ vY e.2.2.2.2.2.2.1),e.2.2.2.2.2.2.2])]++d.2.2.toList) bY h3 fun o n=>
 (aB.ok [] n)/\
 Br (!o)
 (∃k:Addr,((if a.cap=c.toNat then a.ptr else a.ptr.map (·.add (c.toNat*8)))=some k/\0<=b.2/\b.2<(((a.len-c.toNat):Nat):Int))/\
 ∃i:dA,ai n (k.add (b.2.toNat*8)) 0 i/\
 ∃j,(a.ptr=some j/\0<=b.1/\b.1<(a.len:Int))/\
 ab xa (qe 119 (j.add (b.1.toNat*8)) i) n fun _ v=>
 q (qc vW (b.1+1),qc vW (b.2+1)) v)
 (q (b.1,qc vW (b.2+1)) n))
 ((0<=b.1/\b.1<=(a.len:Int))/\
 ab xa (Builtin.clear_ #[172] 0 #[(.slice (if a.cap=b.1.toNat then a.ptr else a.ptr.map (·.add (b.1.toNat*8))) (a.len-b.1.toNat) (a.cap-b.1.toNat))]) h3 fun _ t=>
 (0<=b.1/\b.1<=(a.cap:Int))/\
 R (vR a.ptr b.1.toNat a.cap) t)) (c,(1:Int)) p)
 (K1 (qc vW (c+1)) p))
 (R a m)) (1:Int) h)
theorem iK(b:Sl)(a:cq)(c:@fg R h b a):ac xa 166 #[b,(.func (.func a.1) a.2.1 a.2.2)] h R:=ao af func166 (ak.tn (ak.tn (.two (ak.tn (.inn (.loop [(5,bc)] [(4,8),(12,65)] (ak.tn (.two (.inn (ak.tn (.two (ak.tn (.two (ak.tn (.inn (.loop [(5,bc),(7,bc)] [(5,6),(7,8),(32,59)] .n))) .n)) .n))) .n))))) .n))) c
def pR(c:dA)(b:dA):Prop:=
 aI xa (qI 119 c) h fun f g=>
 aI xa (qI 119 b) g fun e a=>
 ∃x3:dA,ai a f 0 x3/\
 ∃d:dA,ai a e 0 d/\
 ae xa 165 #[x3,d] bp a fun i h3=>
 R (vU (i==0)) h3
theorem AG(b:dA)(a:dA)(c:@pR R h b a):ac xa 167 #[b,a] h R:=ao af func167 .n c
def xu(d:bX)(a:Int)(b:Sl):Prop:=
 aI xa (qI 24 d) h fun c f=>
 ∃x2:bX,ai f c 0 x2/\
 ae xa 101 #[] iX f fun j e=>
 (aB.ok [(c,x2.1),(c.add 1,x2.2.1),(c.add 2,x2.2.2)] e)/\
 ae xa 102 #[x2,(vQ vY a),b] aO e fun i h3=>
 (aB.ok [] h3)/\
 ae xa 218 #[j,i] bp h3 fun k g=>
 (aB.ok [] g)/\
 R k g
theorem Fm(c:bX)(a:Int)(b:Sl)(d:@xu R h c a b):ac xa 177 #[c,(vQ vY a),b] h R:=ao af func177 .n d
def AH(c:Sl)(b:Int)(a:Int):Prop:=
 aN (σ:=Int) (fun d K1 e=>
 Br (d>=(c.len:Int))
 (R (vQ vW (-1:Int)) e)
 (∃g,(c.ptr=some g/\0<=d/\d<(c.len:Int))/\
 ∃x3:Sl,cellOf e (g.add (d.toNat*1))=some (x3:Value)/\
 ∃a4,(x3.ptr=some a4/\0<=a/\a<(x3.len:Int))/\
 ∃f,cellOf e (a4.add (a.toNat*1))=some (vQ vX f)/\
 Br (f !=0)
 (R d e)
 (K1 (qc vW (d+1)) e))) b h
theorem GM(c:Sl)(a:Int)(b:Int)(d:@AH R h c a b):ac xa 178 #[c,a,b] h R:=ao af func178 (ak.tn (.scope 0 [(7,bc)] [(6,8),(9,24)] [.n] [.n] [(1,[.n])])) d
def CL(c:aM)(d:Int)(a:Sl):Prop:=
 ae xa 219 #[c] iX h fun j l=>
 av xa (zD 38 (vQ vW (a.len:Int)) (vQ vW (a.len:Int))) aO l fun e i=>
 aN (σ:=Int) (fun b K1 h3=>
 Br (b<(a.len:Int))
 (∃a4,(a.ptr=some a4/\0<=b/\b<(a.len:Int))/\
 ∃f,cellOf h3 (a4.add (b.toNat*1))=some (vQ vX f)/\
 ae xa 220 #[j,(vQ vX d),(vQ vX f)] (.one (.sc (.int .u8))) h3 fun k m=>
 ∃g,(e.ptr=some g/\0<=b/\b<(e.len:Int))/\
 ab xa (qe 5 (g.add (b.toNat*1)) (vQ vX k)) m fun _ n=>
 K1 (qc vW (b+1)) n)
 (R e h3)) (0:Int) i
theorem IY(a:aM)(c:Int)(b:Sl)(d:@CL R h a c b):ac xa 179 #[a,(vQ vX c),b] h R:=ao af func179 (ak.tn (ak.tn (ak.tn (.two (ak.tn (.inn (.loop [(17,bc)] [(8,10),(17,30)] .n))) .n)))) d
def tj(b:aM)(a:Int):Prop:=
 Br (a==0)
 (R (vQ vX 0) h)
 (ae xa 221 #[b] iX h fun e c=>
 ∃f,(e=some f)/\
 (0<=a/\a<((256:Nat):Int))/\
 ∃x3,cellOf c ((f.add 255).add (a.toNat*1))=some (vQ vW x3)/\
 ((255:Int)≠0)/\
 ∃a4,(e=some a4)/\
 (0<=(zY (qc vW (255-x3)) 255)/\(zY (qc vW (255-x3)) 255)<((255:Nat):Int))/\
 ∃d:Int,cellOf c (a4.add ((zY (qc vW (255-x3)) 255).toNat*1))=some (vQ vX d)/\
 R (vQ vX d) c)
theorem DG(a:aM)(b:Int)(c:@tj R h a b):ac xa 180 #[a,(vQ vX b)] h R:=ao af func180 .n c
def HW(g:aM)(d:Int)(c:Sl)(a:Sl):Prop:=
 Br (d==0)
 (R (.tuple #[]) h)
 (aN (σ:=Int) (fun b K1 e=>
 Br (b<(c.len:Int))
 (∃j,(c.ptr=some j/\0<=b/\b<(c.len:Int))/\
 ∃x3,cellOf e (j.add (b.toNat*1))=some (vQ vX x3)/\
 ∃a4,(a.ptr=some a4/\0<=b/\b<(a.len:Int))/\
 ∃f,cellOf e (a4.add (b.toNat*1))=some (vQ vX f)/\
 ae xa 220 #[g,(vQ vX d),(vQ vX x3)] (.one (.sc (.int .u8))) e fun l i=>
 (aB.ok [(a4.add (b.toNat*1),(vQ vX f))] i)/\
 ∃k,(a.ptr=some k/\0<=b/\b<(a.len:Int))/\
 ab xa (qe 5 (k.add (b.toNat*1)) (vQ vX (qc vX ((qy (qj vX) f^^^(qy (qj vX) l)).toNat:Nat)))) i fun _ h3=>
 (aB.ok [] h3)/\
 K1 (qc vW (b+1)) h3)
 (R (.tuple #[]) e)) (0:Int) h)
theorem MJ(b:aM)(c:Int)(d:Sl)(a:Sl)(e:@HW R h b c d a):ac xa 181 #[b,(vQ vX c),d,a] h R:=ao af func181 (ak.tn (ak.tn (.inn (.loop [(14,bc)] [(8,10),(14,30)] .n)))) e
def Fo(d:Int)(b:Int):Prop:=
 aN (σ:=bX) (fun a K1 c=>
 Br (a.2.1==0)
 (R (vQ vX a.2.2) c)
 (aY (σ:=Int) (fun i e=>
 (0<=(1:Int))/\
 aY (σ:=Int) (fun j h3=>
 (0<=(1:Int))/\
 K1 (j,Int.fdiv a.2.1 (2^min (1:Int).toNat (qj vX)),i) h3)
 (fun f=>
 Br ((qc vX ((qy (qj vX) a.1&&&(qy (qj vX) (128:Int))).toNat:Nat)) !=0)
 (f (qc vX ((qy (qj vX) (qc vX (a.1*2^min (1:Int).toNat (qj vX)))^^^(qy (qj vX) (27:Int))).toNat:Nat)) e)
 (f (qc vX (a.1*2^min (1:Int).toNat (qj vX))) e)))
 (fun g=>
 Br ((qc vX ((qy (qj vX) a.2.1&&&(qy (qj vX) (1:Int))).toNat:Nat))==1)
 (g (qc vX ((qy (qj vX) a.2.2^^^(qy (qj vX) a.1)).toNat:Nat)) c)
 (g a.2.2 c)))) (d,b,(0:Int)) h
theorem KY(b:Int)(a:Int)(c:@Fo R h b a):ac xa 184 #[(vQ vX b),(vQ vX a)] h R:=ao af func184 (ak.tn (.scope 0 [(0,(.sc (.int .u8))),(1,(.sc (.int .u8))),(5,(.sc (.int .u8)))] [(0,2),(4,26)] [.n] [(ak.tn (.two (.join [(5,(.sc (.int .u8)))] [(5,6),(10,16)] .n) (ak.tn (ak.tn (.two (.join [(0,(.sc (.int .u8)))] [(0,1),(21,24)] .n) .n)))))] [])) c
def Fp(b:Int)(a:Int):Prop:=
 aY (σ:=Unit) (fun _ e=>
 av xa (zD 38 b b) aO e fun c d=>
 ∃a3,(c.ptr=some a3/\0<=a/\a<(c.len:Int))/\
 ab xa (qe 5 (a3.add (a.toNat*1)) (vQ vX 1)) d fun _ h3=>
 R c h3)
 (fun K1=>
 Br (b<1) (R (vR none 0 0) h) (Br (b>64) (R (vR none 0 0) h) (Br (a<0) (R (vR none 0 0) h) (Br (a>=b)
 (R (vR none 0 0) h)
 (K1 () h)))))
theorem KZ(b:Int)(a:Int)(c:@Fp R h b a):ac xa 185 #[b,a] h R:=ao af func185 (ak.tn (.two (.join [] [(4,5),(6,21)] .n) .n)) c
def tk(c:aM)(a:Int):Prop:=
 ((255:Int)≠0)/\
 aY (σ:=Int) (fun b f=>
 ae xa 221 #[c] iX f fun g d=>
 ∃a3,(g=some a3)/\
 (0<=b/\b<((255:Nat):Int))/\
 ∃e,cellOf d (a3.add (b.toNat*1))=some (vQ vX e)/\
 R (vQ vX e) d)
 (fun K1=>
 Br ((zY a 255)<0)
 (K1 (qc vW ((zY a 255)+255)) h)
 (K1 (zY a 255) h))
theorem DH(a:aM)(b:Int)(c:@tk R h a b):ac xa 186 #[a,b] h R:=ao af func186 (ak.tn (ak.tn (.two (.join [(1,bc)] [(1,2),(7,11)] .n) .n))) c
def AI(b:Nat×Nat)(d:Int):Prop:=
 ((4:Int)≠0)/\
 ((4:Int)≠0)/\
 aN (σ:=((Nat×Nat))×Int) (fun a K1 e=>
 Br (decide (a.2<(zY (qc vW ((zY d 4)+4)) 4)))
 (∃c:Nat×Nat,(fR xa .mul 153 (.tmp 11) (.const (.complex .f64 0 4607182418800017408)) (.complex .f64 a.1.1 a.1.2) (.complex .f64 0 4607182418800017408) (.complex .f64 c.1 c.2))/\
 K1 ((c.1,c.2),qc vW (a.2+1)) e)
 (R (.complex .f64 a.1.1 a.1.2) e)) ((b.1,b.2),(0:Int)) h
theorem GN(a:Nat×Nat)(b:Int)(c:@AI R h a b):ac xa 187 #[(.complex .f64 a.1 a.2),b] h R:=ao af func187 (ak.tn (.two (ak.tn (.inn (.loop [(0,(.sc (.cpx .f64))),(9,bc)] [(0,1),(9,14)] .n))) .n)) c
end
end Go.Qw
