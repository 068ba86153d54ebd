/- Lemmas for the proof of the law; no condition. -/
import Derived.Test.YtcaonbjibhlkcaaGreatDoorTabA
set_option linter.unusedVariables false
open Go.Proofs.Tryz renaming prog -> xv
open Go.Value renaming agg -> xp, int -> xk, slice -> xl
open Go.IntKind renaming bits -> qk, i64 -> xq, u32 -> xt, u64 -> xu, wrap -> qc
open Go.Instr renaming storeAt -> qf
open Int renaming fdiv -> qQ, tmod -> zZ
set_option maxRecDepth 1000000
namespace Go.Qw
noncomputable section
open Go Go.Vc Go.Proofs
variable {R:Cu} {h:Heap}
def jt(b:Sl)(a:cB):Prop:=
 aG (σ:=Int) (fun c g d=>
 Br (c<(b.len:Int))
 (∃e,(b.ptr=some e/\0<=c/\c<(b.len:Int))/\
 ∃x3:Sl,cellOf d (e.add (c.toNat*1))=some (x3:Value)/\
 hJ C a.1 (a.2.1.toList++[(xl x3.ptr x3.len x3.cap)]++a.2.2.toList) bJ d fun i f=>
 Br i
 (R c f)
 (g (qc xq (c+1)) f))
 (R (xk xq (-1:Int)) d)) (0:Int) h
theorem nv(b:Sl)(a:cB)(c:@jt R h b a):ab xv 330 #[b,(.func (.func a.1) a.2.1 a.2.2)] h R:=ao ac Tryz.func330 (ak.tn (.two (ak.tn (.inn (.loop [(8,aS)] [(4,6),(8,19)] .n))) .n)) c
def gl(a:Sl)(j:Int)(o:Int)(c:cB):Prop:=
 aG (σ:=Int) (fun n s r=>
 Br (n<o)
 (aG (σ:=Int) (fun b v k=>
 aW (σ:=Unit) (fun _ p=>
 ∃a9,(a.ptr=some a9/\0<=(qc xq (b-1))/\(qc xq (b-1))<(a.len:Int))/\
 ∃m:eF,al p (a9.add ((qc xq (b-1)).toNat*8)) 0 m/\
 ∃i,(a.ptr=some i/\0<=b/\b<(a.len:Int))/\
 ∃l:eF,al p (i.add (b.toNat*8)) 0 l/\
 ∃g,(a.ptr=some g/\0<=b/\b<(a.len:Int))/\
 ae xv (qf 233 (g.add (b.toNat*8)) m) p fun _ t=>
 (aq.ok [] t)/\
 ∃f,(a.ptr=some f/\0<=(qc xq (b-1))/\(qc xq (b-1))<(a.len:Int))/\
 ae xv (qf 233 (f.add ((qc xq (b-1)).toNat*8)) l) t fun _ q=>
 (aq.ok [] q)/\
 v (qc xq (b-1)) q)
 (fun w=>
 Br (b>j) (∃a3,(a.ptr=some a3/\0<=b/\b<(a.len:Int))/\
 ∃d:eF,al k (a3.add (b.toNat*8)) 0 d/\
 ∃a5,(a.ptr=some a5/\0<=(qc xq (b-1))/\(qc xq (b-1))<(a.len:Int))/\
 ∃e:eF,al k (a5.add ((qc xq (b-1)).toNat*8)) 0 e/\
 hJ C c.1 (c.2.1.toList++[(xp #[d.1,d.2.1,d.2.2.1,d.2.2.2.1,d.2.2.2.2.1,d.2.2.2.2.2.1,(xk xt d.2.2.2.2.2.2.1),d.2.2.2.2.2.2.2]),(xp #[e.1,e.2.1,e.2.2.1,e.2.2.2.1,e.2.2.2.2.1,e.2.2.2.2.2.1,(xk xt e.2.2.2.2.2.2.1),e.2.2.2.2.2.2.2])]++c.2.2.toList) bB k fun u h3=>
 (aq.ok [] h3)/\
 Br (u<0)
 (w () h3)
 (s (qc xq (n+1)) h3)) ((aq.ok [] k)/\
 s (qc xq (n+1)) k))) n r)
 (R (.tuple #[]) r)) (qc xq (j+1)) h
theorem ku(b:Sl)(c:Int)(d:Int)(a:cB)(e:@gl R h b c d a):ab xv 331 #[b,c,d,(.func (.func a.1) a.2.1 a.2.2)] h R:=ao ac Tryz.func331 (ak.tn (.inn (.loop [(8,aS)] [(8,10),(12,53)] (ak.tn (.two (.inn (ak.tn (.inn (.loop [(9,aS)] [(9,10),(18,53)] (.two (.join [] [(18,35)] .n) .n))))) .n))))) e
def iq(a:Sl)(d:Int)(e:Int)(f:Int)(b:cB):Prop:=
 Br ((qc xq (e-d))==1)
 (aG (σ:=Int×Int) (fun n K1 L=>
 Br (n.1<n.2)
 ((0<=(1:Int))/\
 ∃Z,(a.ptr=some Z/\0<=(qc xq (qQ (qc xu (qc xq (n.1+n.2))) (2^min (1:Int).toNat (qk xu))))/\(qc xq (qQ (qc xu (qc xq (n.1+n.2))) (2^min (1:Int).toNat (qk xu))))<(a.len:Int))/\
 ∃x3:eF,al L (Z.add ((qc xq (qQ (qc xu (qc xq (n.1+n.2))) (2^min (1:Int).toNat (qk xu)))).toNat*8)) 0 x3/\
 ∃a4,(a.ptr=some a4/\0<=d/\d<(a.len:Int))/\
 ∃q:eF,al L (a4.add (d.toNat*8)) 0 q/\
 hJ C b.1 (b.2.1.toList++[(xp #[x3.1,x3.2.1,x3.2.2.1,x3.2.2.2.1,x3.2.2.2.2.1,x3.2.2.2.2.2.1,(xk xt x3.2.2.2.2.2.2.1),x3.2.2.2.2.2.2.2]),(xp #[q.1,q.2.1,q.2.2.1,q.2.2.2.1,q.2.2.2.2.1,q.2.2.2.2.2.1,(xk xt q.2.2.2.2.2.2.1),q.2.2.2.2.2.2.2])]++b.2.2.toList) bB L fun r6 P=>
 (aq.ok [] P)/\
 Br (r6<0)
 (K1 (qc xq ((qc xq (qQ (qc xu (qc xq (n.1+n.2))) (2^min (1:Int).toNat (qk xu))))+1),n.2) P)
 (K1 (n.1,qc xq (qQ (qc xu (qc xq (n.1+n.2))) (2^min (1:Int).toNat (qk xu)))) P))
 (aG (σ:=Int) (fun o K2 h3=>
 Br (o<(qc xq (n.1-1)))
 (∃a8,(a.ptr=some a8/\0<=(qc xq (o+1))/\(qc xq (o+1))<(a.len:Int))/\
 ∃Y:eF,al h3 (a8.add ((qc xq (o+1)).toNat*8)) 0 Y/\
 ∃x,(a.ptr=some x/\0<=o/\o<(a.len:Int))/\
 ∃H:eF,al h3 (x.add (o.toNat*8)) 0 H/\
 ∃D,(a.ptr=some D/\0<=o/\o<(a.len:Int))/\
 ae xv (qf 233 (D.add (o.toNat*8)) Y) h3 fun _ h4=>
 (aq.ok [] h4)/\
 ∃E,(a.ptr=some E/\0<=(qc xq (o+1))/\(qc xq (o+1))<(a.len:Int))/\
 ae xv (qf 233 (E.add ((qc xq (o+1)).toNat*8)) H) h4 fun _ h5=>
 (aq.ok [] h5)/\
 K2 (qc xq (o+1)) h5)
 (R (.tuple #[]) h3)) d L)) (e,f) h)
 (Br ((qc xq (f-e))==1)
 (aG (σ:=Int×Int) (fun g K3 K=>
 Br (g.1<g.2)
 ((0<=(1:Int))/\
 ∃I,(a.ptr=some I/\0<=e/\e<(a.len:Int))/\
 ∃k:eF,al K (I.add (e.toNat*8)) 0 k/\
 ∃w,(a.ptr=some w/\0<=(qc xq (qQ (qc xu (qc xq (g.1+g.2))) (2^min (1:Int).toNat (qk xu))))/\(qc xq (qQ (qc xu (qc xq (g.1+g.2))) (2^min (1:Int).toNat (qk xu))))<(a.len:Int))/\
 ∃l:eF,al K (w.add ((qc xq (qQ (qc xu (qc xq (g.1+g.2))) (2^min (1:Int).toNat (qk xu)))).toNat*8)) 0 l/\
 hJ C b.1 (b.2.1.toList++[(xp #[k.1,k.2.1,k.2.2.1,k.2.2.2.1,k.2.2.2.2.1,k.2.2.2.2.2.1,(xk xt k.2.2.2.2.2.2.1),k.2.2.2.2.2.2.2]),(xp #[l.1,l.2.1,l.2.2.1,l.2.2.2.1,l.2.2.2.2.1,l.2.2.2.2.2.1,(xk xt l.2.2.2.2.2.2.1),l.2.2.2.2.2.2.2])]++b.2.2.toList) bB K fun M V=>
 (aq.ok [] V)/\
 Br (!(decide (M<0)))
 (K3 (qc xq ((qc xq (qQ (qc xu (qc xq (g.1+g.2))) (2^min (1:Int).toNat (qk xu))))+1),g.2) V)
 (K3 (g.1,qc xq (qQ (qc xu (qc xq (g.1+g.2))) (2^min (1:Int).toNat (qk xu)))) V))
 (aG (σ:=Int) (fun i K4 h8=>
 Br (i>g.1)
 (∃A,(a.ptr=some A/\0<=(qc xq (i-1))/\(qc xq (i-1))<(a.len:Int))/\
 ∃F:eF,al h8 (A.add ((qc xq (i-1)).toNat*8)) 0 F/\
 ∃B,(a.ptr=some B/\0<=i/\i<(a.len:Int))/\
 ∃y:eF,al h8 (B.add (i.toNat*8)) 0 y/\
 ∃a25,(a.ptr=some a25/\0<=i/\i<(a.len:Int))/\
 ae xv (qf 233 (a25.add (i.toNat*8)) F) h8 fun _ h9=>
 (aq.ok [] h9)/\
 ∃z,(a.ptr=some z/\0<=(qc xq (i-1))/\(qc xq (i-1))<(a.len:Int))/\
 ae xv (qf 233 (z.add ((qc xq (i-1)).toNat*8)) y) h9 fun _ u=>
 (aq.ok [] u)/\
 K4 (qc xq (i-1)) u)
 (R (.tuple #[]) h8)) e K)) (d,e) h)
 ((0<=(1:Int))/\
 aW (σ:=Int×Int) (fun v T=>
 aG (σ:=Int×Int) (fun c K6 p=>
 Br (c.1<c.2)
 ((0<=(1:Int))/\
 ∃J,(a.ptr=some J/\0<=(qc xq ((qc xq ((qc xq ((qc xq (qQ (qc xu (qc xq (d+f))) (2^min (1:Int).toNat (qk xu))))+e))-1))-(qc xq (qQ (qc xu (qc xq (c.1+c.2))) (2^min (1:Int).toNat (qk xu))))))/\(qc xq ((qc xq ((qc xq ((qc xq (qQ (qc xu (qc xq (d+f))) (2^min (1:Int).toNat (qk xu))))+e))-1))-(qc xq (qQ (qc xu (qc xq (c.1+c.2))) (2^min (1:Int).toNat (qk xu))))))<(a.len:Int))/\
 ∃j:eF,al p (J.add ((qc xq ((qc xq ((qc xq ((qc xq (qQ (qc xu (qc xq (d+f))) (2^min (1:Int).toNat (qk xu))))+e))-1))-(qc xq (qQ (qc xu (qc xq (c.1+c.2))) (2^min (1:Int).toNat (qk xu)))))).toNat*8)) 0 j/\
 ∃G,(a.ptr=some G/\0<=(qc xq (qQ (qc xu (qc xq (c.1+c.2))) (2^min (1:Int).toNat (qk xu))))/\(qc xq (qQ (qc xu (qc xq (c.1+c.2))) (2^min (1:Int).toNat (qk xu))))<(a.len:Int))/\
 ∃m:eF,al p (G.add ((qc xq (qQ (qc xu (qc xq (c.1+c.2))) (2^min (1:Int).toNat (qk xu)))).toNat*8)) 0 m/\
 hJ C b.1 (b.2.1.toList++[(xp #[j.1,j.2.1,j.2.2.1,j.2.2.2.1,j.2.2.2.2.1,j.2.2.2.2.2.1,(xk xt j.2.2.2.2.2.2.1),j.2.2.2.2.2.2.2]),(xp #[m.1,m.2.1,m.2.2.1,m.2.2.2.1,m.2.2.2.2.1,m.2.2.2.2.2.1,(xk xt m.2.2.2.2.2.2.1),m.2.2.2.2.2.2.2])]++b.2.2.toList) bB p fun N r=>
 (aq.ok [] r)/\
 Br (!(decide (N<0)))
 (K6 (qc xq ((qc xq (qQ (qc xu (qc xq (c.1+c.2))) (2^min (1:Int).toNat (qk xu))))+1),c.2) r)
 (K6 (c.1,qc xq (qQ (qc xu (qc xq (c.1+c.2))) (2^min (1:Int).toNat (qk xu)))) r))
 (aW (σ:=Unit) (fun _ t=>
 aW (σ:=Unit) (fun _ s=>
 Br (decide ((qc xq (qQ (qc xu (qc xq (d+f))) (2^min (1:Int).toNat (qk xu))))<(qc xq ((qc xq ((qc xq (qQ (qc xu (qc xq (d+f))) (2^min (1:Int).toNat (qk xu))))+e))-c.1)))) (Br (decide ((qc xq ((qc xq ((qc xq (qQ (qc xu (qc xq (d+f))) (2^min (1:Int).toNat (qk xu))))+e))-c.1))<f))
 (af xv 332 #[a,(qc xq (qQ (qc xu (qc xq (d+f))) (2^min (1:Int).toNat (qk xu)))),(qc xq ((qc xq ((qc xq (qQ (qc xu (qc xq (d+f))) (2^min (1:Int).toNat (qk xu))))+e))-c.1)),f,(.func (.func b.1) b.2.1 b.2.2)] ic s fun _ U=>
 R (.tuple #[]) U)
 (R (.tuple #[]) s)) (R (.tuple #[]) s))
 (fun O=>
 Br (d<c.1) (Br (decide (c.1<(qc xq (qQ (qc xu (qc xq (d+f))) (2^min (1:Int).toNat (qk xu))))))
 (af xv 332 #[a,d,c.1,(qc xq (qQ (qc xu (qc xq (d+f))) (2^min (1:Int).toNat (qk xu)))),(.func (.func b.1) b.2.1 b.2.2)] ic t fun _ W=>
 O () W)
 (O () t)) (O () t)))
 (fun Q=>
 Br (c.1<e) (Br (decide (e<(qc xq ((qc xq ((qc xq (qQ (qc xu (qc xq (d+f))) (2^min (1:Int).toNat (qk xu))))+e))-c.1))))
 (af xv 357 #[a,c.1,e,(qc xq ((qc xq ((qc xq (qQ (qc xu (qc xq (d+f))) (2^min (1:Int).toNat (qk xu))))+e))-c.1)),(.func (.func b.1) b.2.1 b.2.2)] ic p fun _ S=>
 Q () S)
 (Q () p)) (Q () p)))) (v.1,v.2) T)
 (fun X=>
 Br (decide (e>(qc xq (qQ (qc xu (qc xq (d+f))) (2^min (1:Int).toNat (qk xu))))))
 (X (qc xq ((qc xq ((qc xq (qQ (qc xu (qc xq (d+f))) (2^min (1:Int).toNat (qk xu))))+e))-f),qc xq (qQ (qc xu (qc xq (d+f))) (2^min (1:Int).toNat (qk xu)))) h)
 (X (d,e) h))))
theorem lN(b:Sl)(c:Int)(d:Int)(e:Int)(a:cB)(f:@iq R h b c d e a):ab xv 332 #[b,c,d,e,(.func (.func a.1) a.2.1 a.2.2)] h R:=ao ac Tryz.func332 (.two (ak.tn (.two (ak.tn (ak.tn (.two (.inn (.loop [(10,aS),(11,aS)] [(10,13),(31,54)] .n)) (.two (ak.tn (.inn (.loop [(13,aS)] [(13,14),(55,77)] .n))) .n)))) .n)) (.two (ak.tn (.two (ak.tn (ak.tn (.two (.inn (.loop [(14,aS),(15,aS)] [(14,17),(83,107)] .n)) (.two (ak.tn (.inn (.loop [(17,aS)] [(17,18),(108,129)] .n))) .n)))) .n)) (ak.tn (ak.tn (ak.tn (.two (.join [(20,aS),(21,aS)] [(20,22),(138,147)] .n) (ak.tn (.two (.inn (.loop [(20,aS),(21,aS)] [(20,22),(23,24),(149,175)] .n)) (ak.tn (.two (.join [] [(178,192)] .n) (.two (.join [] [(192,206)] .n) .n))))))))))) f
def FZ(b:Nat×Nat)(d:Int):Prop:=
 ((4:Int)≠0)/\
 ((4:Int)≠0)/\
 aG (σ:=((Nat×Nat))×Int) (fun a f e=>
 Br (decide (a.2<(zZ (qc xq ((zZ d 4)+4)) 4)))
 (∃c:Nat×Nat,(jy xv .mul 341 (.tmp 11) (.const (.complex .f64 0 4607182418800017408)) (.complex .f64 a.1.1 a.1.2) (.complex .f64 0 4607182418800017408) (.complex .f64 c.1 c.2))/\
 f ((c.1,c.2),qc xq (a.2+1)) e)
 (R (.complex .f64 a.1.1 a.1.2) e)) ((b.1,b.2),(0:Int)) h
theorem Mi(a:Nat×Nat)(b:Int)(c:@FZ R h a b):ab xv 345 #[(.complex .f64 a.1 a.2),b] h R:=ao ac Tryz.func345 (ak.tn (.two (ak.tn (.inn (.loop [(0,(.sc (.cpx .f64))),(9,aS)] [(0,1),(9,14)] .n))) .n)) c
def iU(b:Sl)(f:Int)(d:Int)(e:Int)(a:cB):Prop:=
 aG (σ:=Int×Int) (fun c i g=>
 Br (c.1 !=c.2)
 (Br (c.1>c.2)
 (af xv 371 #[b,(qc xq (d-c.1)),d,c.2,(.func (.func a.1) a.2.1 a.2.2)] ic g fun _ k=>
 i (qc xq (c.1-c.2),c.2) k)
 (af xv 371 #[b,(qc xq (d-c.1)),(qc xq ((qc xq (d+c.2))-c.1)),c.1,(.func (.func a.1) a.2.1 a.2.2)] ic g fun _ h3=>
 i (c.1,qc xq (c.2-c.1)) h3))
 (af xv 371 #[b,(qc xq (d-c.1)),d,c.1,(.func (.func a.1) a.2.1 a.2.2)] ic g fun _ j=>
 R (.tuple #[]) j)) (qc xq (d-f),qc xq (e-d)) h
theorem mD(b:Sl)(c:Int)(d:Int)(e:Int)(a:cB)(f:@iU R h b c d e a):ab xv 357 #[b,c,d,e,(.func (.func a.1) a.2.1 a.2.2)] h R:=ao ac Tryz.func357 (ak.tn (ak.tn (.two (.inn (.loop [(10,aS),(11,aS)] [(10,12),(18,50)] .n)) .n))) f
def ig(a:Sl)(c:Int)(d:Int)(f:Int)(g:cB):Prop:=
 aG (σ:=Int) (fun b n e=>
 Br (b<f)
 (∃i,(a.ptr=some i/\0<=(qc xq (d+b))/\(qc xq (d+b))<(a.len:Int))/\
 ∃x3:eF,al e (i.add ((qc xq (d+b)).toNat*8)) 0 x3/\
 ∃a4,(a.ptr=some a4/\0<=(qc xq (c+b))/\(qc xq (c+b))<(a.len:Int))/\
 ∃l:eF,al e (a4.add ((qc xq (c+b)).toNat*8)) 0 l/\
 ∃m,(a.ptr=some m/\0<=(qc xq (c+b))/\(qc xq (c+b))<(a.len:Int))/\
 ae xv (qf 233 (m.add ((qc xq (c+b)).toNat*8)) x3) e fun _ k=>
 (aq.ok [] k)/\
 ∃j,(a.ptr=some j/\0<=(qc xq (d+b))/\(qc xq (d+b))<(a.len:Int))/\
 ae xv (qf 233 (j.add ((qc xq (d+b)).toNat*8)) l) k fun _ h3=>
 (aq.ok [] h3)/\
 n (qc xq (b+1)) h3)
 (R (.tuple #[]) e)) (0:Int) h
theorem lD(b:Sl)(c:Int)(e:Int)(d:Int)(a:cB)(f:@ig R h b c e d a):ab xv 371 #[b,c,e,d,(.func (.func a.1) a.2.1 a.2.2)] h R:=ao ac Tryz.func371 (ak.tn (.inn (.loop [(10,aS)] [(10,38)] .n))) f
end
end Go.Qw
