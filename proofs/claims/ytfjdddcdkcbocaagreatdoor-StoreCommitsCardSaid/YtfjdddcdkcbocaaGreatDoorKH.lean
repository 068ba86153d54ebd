/- Lemmas for the proof of the law; no condition. -/
import Derived.Test.YtfjdddcdkcbocaaGreatDoorKG
set_option maxHeartbeats 2000000
set_option linter.unusedVariables false
set_option maxHeartbeats 8000000
set_option linter.unusedSimpArgs false
open Go.Proofs.Tryz renaming prog -> xZ
open Go.Value renaming agg -> xU, bool -> xT, int -> xP, pointer -> xR, slice -> xQ, string -> xS
open Go.IntKind renaming bits -> qx, i64 -> xV, signed -> yG, u32 -> xX, u8 -> xW, wrap -> qe
open Nat renaming beq -> wv, eq_of_beq_eq_true -> zy, not_lt_zero -> xC
open List renaming drop -> wW, map_set -> xM, range -> qz, replicate -> qi, take -> yy
open Int renaming fdiv -> zr, tdiv -> yD
open Go.Builtin renaming append_ -> zb
open Go.Instr renaming buildSlice -> zJ, storeAt -> qL
open Prod renaming fst -> qF, snd -> zk
set_option maxRecDepth 100000
open Option renaming some -> cO, none -> dB
open Bool renaming true -> eH, false -> eL
open Go renaming Addr -> fY
open Go.Qw renaming cellOf -> hU, Heap -> hY
open List renaming length -> n1
open Go.Qw.cT renaming two -> E8, n -> E9, inn -> F8, loop -> G0, join -> G6, tn -> G7, lp -> Hf, jn -> HF
namespace Go.Qw
open Go.Proofs
variable {B:au} {h0 h:hY} {As:List HP} {a:fY} {offs:Int} {da:List bK} {w:Pow} {ds:aG}
variable {m:aA} {d:bu}
variable {b:fY} {mc:aR}
variable {a2 pw2:fY} {da2:List bK}
variable {t t2 e eb k:Nat} {z:aR} {by_:Nat} {α:Type} {p:au} {v:Sl} {f:α->aR} {l l2:List α} {pre post:aR}
section
theorem TJ(s:Sl)(l:aD)(h:hY)(hs:Rd h s 1 aq l):an xZ 9 #[s] h λv h'=>∃(y:aY) (m:aA),v=cu y/\bG m/\Sp h h' [be y m]:=by
 refine ts Tryz.func9 ?_ (G7 (G7 (G7 (E8 (G7 (F8 (G0 [(5,aH)] [(5,6),(27,49)] E9))) (G7 (E8 (G7 (F8 (G0 [(6,aH)] [(6,10),(53,123)] (G7 (E8 (F8 (G7 (HF [(8,(.sc .adr))] [(8,9),(65,97)] (Hf [(9,aH)] [(9,10),(97,117)])))) E9))))) E9)))))) [(13,(.y [0,1,2,3,4,5,11,12,13,14,15,18,19,20,21,22,23,24,25,26,27,28,29] (.y [6,7,8] (.y [9] (.y [10] (.y [16,17] (.l [30,31,32,33]) (.l [32,30,31,33])) (.l [32,16,17,30,31,33])) (.y [] (.y [16,17] (.y [10] (.l [30,31,32,33]) (.l [32,30,31,33])) (.y [] (.y [30] (.l [10,31,32,33]) (.l [32,10,31,33])) (.y [32] (.l [10,30,31,33]) (.l [30,10,31,33])))) (.y [32] (.l [10,16,17,30,31,33]) (.y [16,17] (.l [10,30,31,33]) (.l [30,10,31,33]))))) (.y [] (.y [16,17] (.y [9] (.y [10] (.l [30,31,32,33]) (.l [32,30,31,33])) (.y [] (.y [30] (.l [10,31,32,33]) (.l [32,10,31,33])) (.y [32] (.l [10,30,31,33]) (.l [30,10,31,33])))) (.y [] (.y [30] (.y [9] (.l [10,31,32,33]) (.l [32,10,31,33])) (.l [32,9,10,31,33])) (.y [32] (.y [9] (.l [10,30,31,33]) (.l [30,10,31,33])) (.l [30,9,10,31,33])))) (.y [32] (.y [9] (.l [10,16,17,30,31,33]) (.y [16,17] (.l [10,30,31,33]) (.l [30,10,31,33]))) (.y [16,17] (.y [9] (.l [10,30,31,33]) (.l [30,10,31,33])) (.l [30,9,10,31,33]))))) (.y [32,6,7,8] (.y [9] (.l [10,16,17,30,31,33]) (.y [16,17] (.l [10,30,31,33]) (.l [30,10,31,33]))) (.y [16,17] (.y [9] (.l [10,30,31,33]) (.l [30,10,31,33])) (.l [30,9,10,31,33])))))];refine(Sp.refl h).alloc af n2 λa1 h1 H1=>?_;have ah:=hs.up H1.ac;refine(gm s l 0 h1 ah).I0 ⟨_,n2,(bm _ 1000 _).I0 ?_⟩;refine⟨_,n2,(gm s l 1 _ ah).I0 ?_⟩;refine⟨_,n2,(gm s l 2 _ ah).I0 ?_⟩;refine⟨_,n2,(gm s l 3 _ ah).I0 ?_⟩;refine⟨_,n2,(Hx _ _ _ _).I1 λh7 R7=>?_⟩;obtain⟨p,hp⟩:=I3 (DA (jT l 1) (jT l 2) (jT l 3))
 have ab:(0<=p.1/\p.1<=6)/\(0<=p.2.2/\p.2.2<=9):=by rw[hp];unfold DA;(try dsimp only);omega
 have c9:0<=p.1*p.2.2/\p.1*p.2.2<=6*9:=⟨Int.mul_nonneg ab.1.1 ab.2.1,wi ab.1.2 ab.2.2 n3 n3⟩
 rw[<-hp];have H7:=H1.up R7.ac;have cr:=hs.up H7.ac;refine⟨p,n2,(gm s l 4 _ cr).I0 ?_⟩;refine⟨_,n2,(bm _ 17 _).I0 ?_⟩;refine⟨_,n2,H7.alloc af n2 λc dx cq=>?_⟩;obtain⟨sq,bl⟩:=I3 (qe xV (1+jT l 0%1000))
 obtain⟨ex,b4⟩:=I3 (jT l 4%17)
 rw[<-bl,<-b4];obtain⟨Y,Q⟩:∃Y:Int->Sl->Sl->aY,Y=λn d o=>(sq,n,p.1,p.2.1,p.2.2,ex,d,o):=⟨_,rfl⟩
 refine cq.storeAll af 1 n2 n2 (az (sq,0,p.1,p.2.1,p.2.2,ex,⟨dB,0,0⟩,⟨dB,0,0⟩)) n2 n2 n2 n2 λcn ax=>?_;have ax:Sp h cn [aj a1 27 (az lS),aj c 27 (az (Y 0 ⟨dB,0,0⟩ ⟨dB,0,0⟩)),ai 3 ⟨dB,0,0⟩ 1 aq []]:=by rw[Q];exact ax.nil 3 1 aq
 have c6:∀{h':hY} {n:Int} {d o:Sl},bR h' c 27 (az (Y n d o))->hU h' (c.add 6)=cO (xQ d.ptr d.len d.cap):=λhb=>by rw[Q]at hb;exact hb.cell n2
 have c7:∀{h':hY} {n:Int} {d o:Sl},bR h' c 27 (az (Y n d o))->hU h' (c.add 7)=cO (xQ o.ptr o.len o.cap):=λhb=>by rw[Q]at hb;exact hb.cell n2
 refine ak (λt:Nat×Sl×aD=>(t.1:Int)) (λt h'=>t.1<=8/\t.2.2.length<=t.1/\Sp h h' [aj a1 27 (az lS),aj c 27 (az (Y 0 t.2.1 ⟨dB,0,0⟩)),ai 3 t.2.1 1 aq t.2.2]) (λt=>8-t.1) (0,⟨dB,0,0⟩,[]) n2 ⟨n4,qk _,ax⟩ ?_;rintro⟨i,d,k⟩ ci ⟨hi,hk,g⟩;dsimp only at hi hk g⊢;have ao:=hs.up g.ac;refine ae (λe=>?_) λe=>?_
 .refine(gm s l 5 _ ao).I0 ⟨_,n2,n3,(bm _ 2 _).I0 ?_⟩;refine⟨_,n2,aV (λ_=>?_) λ_=>⟨(i+1,d,k),oi,⟨n5,n5,g⟩,n5⟩⟩;refine⟨d,c6 (g.box 1 n2),(gm s l 6 _ ao).I0 ?_⟩;refine⟨_,n2,⟨c6 (g.box 1 n2),I4⟩,(bm _ 9 _).I0 ?_⟩;refine⟨_,n2,⟨c6 (g.box 1 n2),I4⟩,?_⟩;refine g.ir af aq eK n2 [qe xV ((i:Int)*(jT l 6%9))] n2 (show 1*1<=2^20 by decide) n2 ⟨c6 (g.box 1 n2),I4⟩ ?_;refine g.push af 2 n2 eK n2 n4 (λ_=>rfl) cP (qe xV ((i:Int)*(jT l 6%9))) n2 n4 n3 λd' dk b5=>⟨I4,?_⟩
  refine b5.store af 1 n2 n2 6 [d'] n2 n2 n2 (show 6+1<=8 by decide) λdu a7=>⟨I4,?_⟩
  refine⟨(i+1,d',k++[qe xV ((i:Int)*(jT l 6%9))]),oi,⟨n5,p7,?_⟩,n5⟩
  try dsimp only
  rw[Q]at a7⊢;exact a7
 refine⟨d,c6 (g.box 1 n2),(PL d k ci (g.seq 2 n2 λ_=>rfl) n3).mono ?_⟩;rintro _ dd ⟨G,k2,rfl,da,cd⟩;have b6:=g.comp cd;refine⟨G,n2,b6.store af 1 n2 n2 6 [G] n2 n2 n2 (show 6+1<=8 by decide) λcs O=>?_⟩;have O:Sp h cs [aj a1 27 (az lS),aj c 27 (az (Y 0 G ⟨dB,0,0⟩)),ai 3 G 1 aq k2,db 59 ⟨dB,0,0⟩ 4 aT eC []]:=by have O:=(aa.bs O [0,1,3]).Ix 59 4 aT eC;rw[Q]at O⊢;exact O
 refine ak (λt:Nat×Sl×List Qw.cS=>(t.1:Int)) (λt h'=>t.1<=6/\t.2.2.length<=t.1/\(∀e∈t.2.2,e.name.size<=2^30/\e.tries.length<=2^30)/\Sp h h' [aj a1 27 (az lS),aj c 27 (az (Y 0 G t.2.1)),ai 3 G 1 aq k2,db 59 t.2.1 4 aT eC t.2.2]) (λt=>6-t.1) (0,⟨dB,0,0⟩,[]) n2 ⟨n4,qk _,λe he=>(by cases he),O⟩ ?_;rintro⟨j,o,E⟩ a4 ⟨hj,hE,ap,X⟩;dsimp only at hj hE ap X⊢;have S:=hs.up X.ac;refine(gm s l 7 _ S).I0 ⟨_,n2,(bm _ 6 _).I0 ?_⟩;refine⟨_,n2,ae (λe=>?_) λe=>?_⟩
 rotate_left
 .refine(gm s l 14 _ S).I0 ⟨_,n2,(bm _ 100 _).I0 ?_⟩;refine⟨_,n2,X.storeAt af 1 n2 n2 (off:=1) n2 n2 n2 (show 1<8 by decide) λb7 W=>?_⟩;obtain⟨nx,bk⟩:=I3 (qe xV (20+jT l 14%100))
  have W:Sp h b7 [aj a1 27 (az lS),aj c 27 (az (Y nx G o)),ai 3 G 1 aq k2,db 59 o 4 aT eC E]:=by rw[bk];rw[Q]at W⊢;exact W
  refine⟨Y nx G o,(W.box 1 n2).aw _ n2,W.storeAll af 0 n2 n2 (az (Y nx G o)) n2 n2 n2 n2 λds ay=>?_⟩;refine⟨Y nx G o,(ay.box 0 n2).aw _ n2,Y nx G o,⟨sq,nx,p,ex,k2,E⟩,n2,⟨by show k2.length<=_;omega,by show E.length<=_;omega,ap⟩,?_⟩;refine aa.Wc (by rw[Q];exact⟨n2,n2,n2,n2⟩) ?_;have br:=aa.bs ay [2,3];rw[Q];exact br
 have dr:j<5:=n3
 have b1:qe xV (8+(j:Int))=((8+j:Nat):Int):=o6
 rw[b1];refine(gm s l (8+j) _ S).mono ?_;rintro _ a4 ⟨rfl,rfl⟩;refine⟨_,n2,?_⟩;obtain⟨N,hN⟩:=I3 (jT l (8+j))
 rw[<-hN];obtain⟨I,w⟩:∃I:HP->HP->List HP,I=λV A=>[aj a1 27 (az lS),aj c 27 (az (Y 0 G o)),ai 3 G 1 aq k2,db 59 o 4 aT eC E,V,A]:=⟨_,rfl⟩
 have ad:∀{h':hY} {V A:HP},Sp h h' (I V A)->bF.ok [((c.add 2).add 2,xP xV p.2.2),(c.add 2,xP xV p.1)] h':=λ{h' V A} H=>by
  rw[w]at H;have hb:=H.box 1 n2;rw[Q]at hb;exact⟨hb.lF 2 2 n2,hb.cell n2,I4⟩
 have hw:∀{h':hY} {V A:HP} {x n:Int} {K:Int->hY->Prop},0<n->n<=2^62->Sp h h' (I V A)->(∀r,0<=r->r<n->K r h')->jV xZ 12 #[xP xV x,xP xV n] (.one (.sc (.int .i64))) h' λr b=>bF.ok [((c.add 2).add 2,xP xV p.2.2),(c.add 2,xP xV p.1)] b/\K r b:=λ{h' V A x n K} h1 h2 H hK=>by
  refine(bm x n h' h1 h2).I0 ⟨_,n2,ad H,hK _ (ya _ n3) (zZ _ h1)⟩
 have b9:∀{h':hY} {A:HP} {x y:Int} {K:Sl->hY->Prop},Sp h h' (I emp A)->(∀v b,Sp h b (I (ai 5 v 1 ar [b8 x,b8 y]) A)->K v b)->bC xZ (zJ 41 2 #[(0,xP xW (qe xW x)),(1,xP xW (qe xW y))]) (.one (.sc .slc)) h' λv b=>bF.ok [((c.add 2).add 2,xP xV p.2.2),(c.add 2,xP xV p.1)] b/\K v b:=λ{h' A x y K} H hK=>by
  rw[bT,bT];have P:=H;rw[w]at P;refine P.lit af ar cN n2 [b8 x,b8 y] n2 (show 2*1<=2^20 by decide) o0 λv b Z=>?_;have H3:Sp h b (I (ai 5 v 1 ar [b8 x,b8 y]) A):=by rw[w];exact aa.bs Z [0,1,2,3,6,5]
  exact⟨ad H3,hK v b H3⟩
 have cf:∀{h':hY} {A:HP} {v:Sl} {x y:UInt8} {K:ByteArray->hY->Prop},Sp h h' (I (ai 5 v 1 ar [x,y]) A)->(∀s:ByteArray,s.size=2->K s h')->bC xZ (convert 41 9 (xQ v.ptr v.len v.cap)) (.one (.sc .str)) h' λs b=>bF.ok [((c.add 2).add 2,xP xV p.2.2),(c.add 2,xP xV p.1)] b/\K s b:=λ{h' A v x y K} H hK=>by
  have P:=H;rw[w]at P;exact Ef af ⟨_,n2,n2⟩ ⟨_,n2,n2⟩ ⟨_,n2,n2⟩ (P.seq 4 n2 λ_=>rfl) ⟨ad H,hK _ n2⟩
 have cc:∀{h':hY} {V:HP} {K:fY->hY->Prop},Sp h h' (I V emp)->(∀a b,Sp h b (I V (aj a 59 (aT (⟨#[]⟩,0,0,⟨dB,0,0⟩))))->K a b)->oF xZ (Instr.alloc 59 eH (.tuple #[])) h' λa b=>bF.ok [((c.add 2).add 2,xP xV p.2.2),(c.add 2,xP xV p.1)] b/\K a b:=λ{h' V K} H hK=>by
  have P:=H;rw[w]at P;refine P.alloc af n2 λa b Z=>?_;have H3:Sp h b (I V (aj a 59 (aT (⟨#[]⟩,0,0,⟨dB,0,0⟩)))):=by rw[w];exact aa.bs Z [0,1,2,3,4,6]
  exact⟨ad H3,hK a b H3⟩
 have ca:∀{h':hY} {V:HP} {a:fY} {B:ByteArray} {F f:Int},Sp h h' (I V (aj a 59 (aT (⟨#[]⟩,0,0,⟨dB,0,0⟩))))->B.size=2->0<=f->f<2^20->av xZ (qL 59 (xR (cO a)) (xU #[xS B,xP xV F,xP xV f,xQ dB 0 0])) h' λ_ b=>bF.ok [] b/\∃(B:ByteArray) (F f:Int),B.size=2/\(0<=f/\f<2^20)/\Sp h b (I emp (aj a 59 (aT (B,F,f,⟨dB,0,0⟩)))):=λ{h' V a B F f} H h1 h2 h3=>by
  have P:=H;rw[w]at P;refine P.storeAll af 5 n2 n2 (aT (B,F,f,⟨dB,0,0⟩)) n2 n2 n2 n2 λb Z=>⟨I4,B,F,f,h1,⟨h2,h3⟩,?_⟩
  rw[w];have H3:=Z.comp (.one (A:=emp) (aP.refl _ _) I4);exact aa.bs H3 [0,1,2,3,6,5]
 refine bj (λ(a:fY) h'=>∃(B:ByteArray) (F f:Int),B.size=2/\(0<=f/\f<2^20)/\Sp h h' (I emp (aj a 59 (aT (B,F,f,⟨dB,0,0⟩))))) ?_ ?_
 .have R:=X.box 1 n2;rw[Q]at R;refine⟨n4,n4,p.1,R.cell n2,p.2.2,R.lF 2 2 n2,?_⟩;obtain⟨M,hM⟩:=I3 (qe xV (qe xV (qe xV (p.1*p.2.2)*4)+1))
  have b0:0<M/\M<2^20:=by rw[hM,ag (p.1*p.2.2),ag (p.1*p.2.2*4),ag _];omega
  rw[<-hM];have P:Sp h a4 (I emp emp):=by rw[w];exact(X.comp (.one (A:=emp) (aP.refl _ _) I4)).comp (.one (A:=emp) (aP.refl _ _) I4)
  have q3:(0:Int)<3/\(3:Int)<=2^62:=n4
  have a3:(0:Int)<26/\(26:Int)<=2^62:=n4
  have qM:0<M/\M<=2^62:=⟨b0.1,n3⟩
  clear hM
  repeat' first
   |exact ca pa pa pa n3
   |refine hw q3.1 q3.2 pa λ_ _ _=>?_
   |refine hw a3.1 a3.2 pa λ_ _ _=>?_
   |refine hw qM.1 qM.2 pa λ_ _ _=>?_
   |refine b9 pa λ_ _ _=>?_
   |refine cf pa λ_ _=>?_
   |refine cc pa λ_ _ _=>?_
   |refine And.intro ?_ ?_
 rintro a c1 ⟨B,F,f,dy,b2,J⟩;rw[w]at J;have J:=(aa.bs J [0,1,2,3,5]).nil 3 1 aq;have c0:=count_le p f b2.1;refine ak (λt:Nat×Sl×aD=>(t.1:Int)) (λt h'=>t.1<=2^20/\t.2.2.length=t.1/\Sp h h' [aj a1 27 (az lS),aj c 27 (az (Y 0 G o)),ai 3 G 1 aq k2,db 59 o 4 aT eC E,aj a 59 (aT (B,F,f,t.2.1)),ai 3 t.2.1 1 aq t.2.2]) (λt=>2^20-t.1) (0,⟨dB,0,0⟩,[]) n2 ⟨n4,n2,J⟩ ?_;rintro⟨k,tr,T⟩ a5 ⟨cp,hT,L⟩;dsimp only at cp hT L⊢;have am:=L.box 1 n2;rw[Q]at am;have b3:=L.box 4 n2;refine⟨p,am.lN 2 n2 n2 n2,f,b3.cell n2,(nB p f a5).I1 λa2 bb=>?_⟩;have u:=L.up bb.ac;have bq:=hs.up u.ac;refine⟨_,n2,ae (λe2=>?_) λe2=>?_⟩
 .refine⟨tr,(u.box 4 n2).cell n2,o6,(bm _ 16 a2).I0 ?_⟩;obtain⟨z,hz⟩:=I3 (zr N (2^min (qe xV ((k:Int)+3)).toNat (qx xV))%16)
  rw[<-hz];refine⟨z,n2,⟨(u.box 4 n2).cell n2,I4⟩,?_⟩;refine u.ir af aq eK n2 [z] n2 (show 1*1<=2^20 by decide) n2 ⟨(u.box 4 n2).cell n2,I4⟩ ?_;refine u.push af 5 n2 eK n2 n4 (λ_=>rfl) cP z n2 n4 n3 λa9 c2 a6=>⟨I4,?_⟩
  refine a6.store af 4 n2 n2 3 [a9] n2 n2 n2 n9 λc8 bd=>⟨I4,?_⟩
  exact⟨(k+1,a9,T++[z]),oi,⟨n5,by dsimp only;simp[hT],bd⟩,n5⟩
 have U:=aa.dG u 5 n2 (D:=EA eC (B,F,f,tr) ⟨B,F,f,T⟩) λq hq=>⟨⟨n2,n2,n2⟩,hq.1.seq (λ_=>rfl) hq.2⟩
 refine⟨o,c7 (U.box 1 n2),(B,F,f,tr),(U.box 4 n2).aw _ n2,?_⟩;refine aa.AY af U 3 5 n4 (a:=(B,F,f,tr)) n2 n2 kQ n2 n4 (λ_=>rfl) ow (parts:=#[(0,xU #[xS B,xP xV F,xP xV f,tr])]) o0 n4 n3 λo' c4 a8=>?_;refine a8.store af 1 n2 n2 7 [o'] n2 n2 n2 (show 7+1<=8 by decide) λc5 a0=>?_;refine⟨(j+1,o',E++[⟨B,F,f,T⟩]),oi,⟨n5,p7,λe he=>?_,?_⟩,n5⟩
 .rcases qu.1 he with he|he
  .exact ap e he
  .rw[qA.1 he];exact⟨by show B.size<=_;omega,by show T.length<=_;omega⟩
 .have al:=aa.bs a0 [0,1,2,3];rw[Q]at al⊢;exact al
structure HZ (m:aA):Prop where
 dr:m.drives.length<=70
 ob:m.objs.length<=16
 nm:∀e∈m.objs,e.name.size<=20/\e.tries.length<=20
theorem HZ.sz{m:aA}(h:HZ m):bG m:=⟨by have:=h.dr;omega,by have:=h.ob;omega,λe a=>by have:=h.nm e a;omega⟩
theorem TK(x:aY)(m:aA)(h:hY)(s:cj h x m):an xZ 4 #[cu x] h λv h'=>∃b:Bool,v=xT b/\(b=eH->HZ m)/\Sp h h' []:=by
 refine ts Tryz.func4 ?_ (G7 (HF [] [(2,3),(5,15)] (Hf [(18,aH)] [(2,3),(4,5),(18,33)]))) (args:=[x]);refine(Sp.refl h).boxed λP A f=>?_;have z:=s.drives.len;obtain⟨k,r,N,D⟩:=bW.ku s.objs;have I:=r.len;have o:∀{h':hY} {Bs:List HP},Sp h h' Bs->∃b:Bool,(Value.bool eL)=xT b/\(b=eH->HZ m)/\Sp h h' []:=λH=>⟨eL,n2,λe=>oj,.zip H.ac⟩
 refine bj (λ(_:Unit) h'=>m.drives.length<=70/\m.objs.length<=16/\h'=A) ?_ ?_
 .refine⟨x.2.2.2.2.2.2.1,(f.box 0 n2).cell n2,ae (λ_=>o f) λE=>?_⟩;exact⟨x.2.2.2.2.2.2.2,(f.box 0 n2).cell n2,ae (λ_=>o f) λF=>⟨n3,n3,n2⟩⟩
 rintro _ _ ⟨w,G,rfl⟩;refine⟨x.2.2.2.2.2.2.2,(f.box 0 n2).cell n2,?_⟩;refine ak (λi:Nat=>(i:Int)) (λi h'=>i<=m.objs.length/\(∀e∈m.objs.take i,e.name.size<=20/\e.tries.length<=20)/\Sp h h' []) (λi=>m.objs.length-i) 0 n2 ⟨qT _,λe d=>(by simp at d),.zip f.ac⟩ ?_;rintro i h3 ⟨O,a,p⟩
 try dsimp only
 refine ae (λe=>?_) λe=>?_
 .have c:i<m.objs.length:=n3
  have j:i<k.length:=n3
  obtain⟨⟨B,L,K⟩,t⟩:=D i j c;refine(Seq.up r p.ac).cH (g:=aT) i n2 j k[i] n2 ?_;refine p.alloc af n2 λa9 J y=>y.storeAll af 0 n2 n2 (aT k[i]) n2 n2 n2 n2 λM l=>?_;refine⟨k[i].1,(l.box 0 n2).cell0 n2,ae (λ_=>o l) λE=>⟨k[i].2.2.2,(l.box 0 n2).cell n2,ae (λ_=>o l) λF=>?_⟩⟩;have u:=t.len;refine⟨i+1,oi,⟨c,λe d=>?_,.zip l.ac⟩,n3⟩;rw[aC _ _ c,qu,qA]at d;rcases d with d|rfl
  .exact a e d
  .rw[<-B];omega
 .have q:i=m.objs.length:=n3
  rw[q,qy]at a;exact⟨eH,n2,λ_=>⟨w,G,a⟩,p⟩
variable {B:au} {h0 h:hY} {As:List HP}
theorem acZ{rs:List Sl}{a:cR}(d:n1 rs=n1 a){r:Sl}(b:r∈rs):∃l∈a,(r,l)∈rs.zip a:=by obtain⟨j,c,rfl⟩:=qE b;exact⟨a[j]'n3,qf _,List.mem_iff_getElem.2 ⟨j,n7,n9⟩⟩
theorem ada{y:aY}{dr:aD}{a:List dg}{rs:List Sl}{o:cR}(A:rs.length=o.length)(r:dr.length<=2^30)(g:a.length<=2^30)(t:∀e∈a,e.1.size<=2^30/\e.2.2.2∈rs)(j:∀k∈o,k.length<=2^30)
  (H:aa B h0 h (ai 3 y.2.2.2.2.2.2.1 1 aq dr::ai 59 y.2.2.2.2.2.2.2 4 aT a::(bg 3 1 aq rs o++As))):∃m,bG m/\aa B h0 h (be y m::As):=by
 obtain⟨P,v,_,E⟩:=nV (As:=As++[ai 3 y.2.2.2.2.2.2.1 1 aq dr,ai 59 y.2.2.2.2.2.2.2 4 aT a]) (aa.Ax (by rw[<-qo];exact aa.front (As:=[_,_]) H) 1 aq);have i:∀a:List dg,(∀e∈a,e.1.size<=2^30/\e.2.2.2∈rs)->∃L:List (dg×Qw.cS),L.map qF=a/\∀p∈L,Bo P p/\p.2.name.size<=2^30/\p.2.tries.length<=2^30:=by
  intro a
  induction a with
  |nil=>exactλ_=>⟨[],n2,λp b=>(by cases b)⟩
  |cons e a ih=>
   intro h;obtain⟨L,c,d⟩:=ih λx s=>h x (qt _ s);obtain⟨u,D⟩:=h e List.mem_cons_self;obtain⟨l,n,q⟩:=acZ A D;refine⟨(e,⟨e.1,e.2.1,e.2.2.1,l⟩)::L,by rw[List.map_cons,c],λp b=>?_⟩;rcases qQ.1 b with rfl|b
   .exact⟨⟨⟨n2,n2,n2⟩,v _ q⟩,u,j l n⟩
   .exact d p b
 obtain⟨L,c,d⟩:=i a t;refine⟨⟨y.1,y.2.1,(y.2.2.1,y.2.2.2.1,y.2.2.2.2.1),y.2.2.2.2.2.1,dr,L.map zk⟩,⟨r,?_,λe z=>?_⟩,aa.ua (L:=L) (pool:=P) ⟨n2,n2,n2,n2⟩ n2 (λp b=>(d p b).1) ?_⟩
 .show(L.map zk).length<=_;rw[qp,<-qp (f:=qF),c];exact g
 .obtain⟨p,b,rfl⟩:=qI.1 z;exact(d p b).2
 .rw[c];have w:aa B h0 h ((ib 1 aq P::As)++[ai 3 y.2.2.2.2.2.2.1 1 aq dr,ai 59 y.2.2.2.2.2.2.2 4 aT a]):=E;exact w.front.aF 3 [2,0,1]
theorem adb{p:au}{s:Sl}{b:List dg}(d:Seq h p s 4 aT b){i:Int}(n:Nat)(j:i=n)(e:n<n1 b):∃a:fY,(s.ptr=cO a/\0<=i/\i<((s.len:Nat):Int))/\bA h (a.add (i.toNat*4)) 0 (aT b[n]):=by obtain⟨a,f,x,c,h3⟩:=d.cH (g:=aT) n j e b[n] rfl (K:=λx=>x=b[n]) rfl;exact⟨a,f,by rw[<-h3];exact c⟩
theorem Wz(x:aY)(m:aA)(E v:Int)(h:hY)(hx:cj h x m)(hz:bG m)(cd:m.drives.length<=2^20/\m.objs.length<=2^20/\∀e∈m.objs,e.name.size<=2^20/\e.tries.length<=2^20):an xZ 11 #[cu x,xP xV E,xP xV v] h λu h'=>∃(y:aY) (m':aA),u=cu y/\bG m'/\Sp h h' [be y m']:=by
 refine ts Tryz.func11 ?_ (G7 (G7 (G7 (HF [(7,aH)] [(7,8),(11,21)] (E8 (G6 [] [(8,9),(21,183)] (G7 (F8 (G7 (G7 (G7 (G7 (G7 (G7 (G7 (G7 (G7 (G7 (G7 (G7 (G7 (G7 (G7 (G7 (G7 (G7 (G7 (G7 (G7 (G7 (G7 (G7 (G7 (G7 (G7 (G7 (G7 (G7 (HF [(162,mH)] [(162,175)] E9)))))))))))))))))))))))))))))))))) E9))))) (args:=[x,(E:Int),(v:Int)]);refine(Sp.refl h).boxed λI h1 H1=>H1.alloc af n2 λa2 h2 H2=>?_;refine⟨x,(H2.box 0 n2).aw _ n2,(uW x m h2 (hx.up H2.ac) hz).mono ?_⟩;rintro _ h3 ⟨d,o,c,rfl,br,b0,R3⟩;obtain⟨y,hy⟩:∃y:aY,y=(x.1,x.2.1,x.2.2.1,x.2.2.2.1,x.2.2.2.2.1,x.2.2.2.2.2.1,d,o):=⟨_,rfl⟩
 obtain⟨rs,O⟩:=I3 ((c.map λr=>r.2.2.2).reverse++[(⟨dB,0,0⟩:Sl)])
 obtain⟨G,ah⟩:=I3 ((m.objs.map λe=>e.tries).reverse++[([]:aD)])
 obtain⟨s1,s2,s3⟩:=cd;have N:rs.length=G.length:=by rw[O,ah];simp[br]
 have ay:∀k∈G,k.length<=2^20:=λk hk=>by
  rw[ah,qu,List.mem_reverse,qA]at hk;rcases hk with hk|rfl
  .obtain⟨e,A,rfl⟩:=qI.1 hk;exact(s3 e A).2
  .exact qT _
 have T:∀(j:Nat) (L:j<c.length),rs[c.length-1-j]?=cO c[j].2.2.2:=λj L=>by
  rw[O,qw n7,List.getElem?_reverse n7,qP,qp,show c.length-1-(c.length-1-j)=j by omega,qd L];rfl
 have ao:∀e∈c,e.1.size<=2^20/\e.2.2.2∈rs:=λe A=>by
  obtain⟨j,L,rfl⟩:=qE A;refine⟨?_,zN (T j L)⟩;rw[(b0 j _ _ (qd L) (qd n3)).1];exact(s3 _ (qf _)).1
 have p:∀e∈c,e.1.size<=2^30/\e.2.2.2∈rs:=λe A=>⟨by have:=(ao e A).1;omega,(ao e A).2⟩
 have w:∀k∈G,k.length<=2^30:=λk hk=>by have:=ay k hk;omega
 have H3:Sp h h3 (ai 3 y.2.2.2.2.2.2.1 1 aq m.drives::ai 59 y.2.2.2.2.2.2.2 4 aT c::aj I 27 (az x)::aj a2 27 (az lS)::bg 3 1 aq rs G):=by have Hc:Sp h h3 (aj I 27 (az x)::aj a2 27 (az lS)::ai 3 d 1 aq m.drives::ai 59 o 4 aT c::(bg 3 1 aq (c.map λr=>r.2.2.2).reverse (m.objs.map λe=>e.tries).reverse++[ai 3 ⟨dB,0,0⟩ 1 aq []])):=(H2.comp R3).nil 3 1 aq;rw[<-mA (by simp[br]),<-O,<-ah]at Hc;rw[hy];exact Hc.aF 4 [2,3,0,1]
 rw[<-hy];have bk:(⟨dB,0,0⟩:Sl)∈rs:=by rw[O];simp
 clear b0 R3 H2 O ah;refine⟨y,n2,H3.storeAll af 2 n2 n2 (az y) n2 n2 n2 n2 λh4 f=>?_⟩;clear H3;have cn:=(f.own 1 n2).len;have c8:=(f.own 0 n2).len;obtain⟨Fin,ap⟩:∃F:hY->Prop,F=λh'=>∃(y':aY) (m':aA),bG m'/\Sp h h' [aj I 27 (az y'),aj a2 27 (az lS),be y' m']:=⟨_,rfl⟩
 have fin:∀{h':hY} {y':aY} {dr':aD} {ns':List dg} {R:List Sl} {U:cR},R.length=U.length->dr'.length<=2^30->ns'.length<=2^30->(∀e∈ns',e.1.size<=2^30/\e.2.2.2∈R)->(∀k∈U,k.length<=2^30)->
   Sp h h' (ai 3 y'.2.2.2.2.2.2.1 1 aq dr'::ai 59 y'.2.2.2.2.2.2.2 4 aT ns'::aj I 27 (az y')::aj a2 27 (az lS)::bg 3 1 aq R U)->Fin h':=by
  intro h' y' dr' ns' R U e1 e2 e3 e4 e5 H';have H1:Sp h h' ([aj I 27 (az y'),aj a2 27 (az lS)]++(ai 3 y'.2.2.2.2.2.2.1 1 aq dr'::ai 59 y'.2.2.2.2.2.2.2 4 aT ns'::bg 3 1 aq R U)):=H'.aF 4 [2,3,0,1];obtain⟨m',a5,H2⟩:=ada e1 e2 e3 e4 e5 H1.front;rw[ap];exact⟨y',m',a5,H2.aF 3 [1,2,0]⟩
 have B:∀{h':hY} (y':aY),y'.2.2.2.2.2.2=y.2.2.2.2.2.2->Sp h h' (ai 3 y.2.2.2.2.2.2.1 1 aq m.drives::ai 59 y.2.2.2.2.2.2.2 4 aT c::aj I 27 (az y')::aj a2 27 (az lS)::bg 3 1 aq rs G)->Fin h':=λy' e H'=>
  fin (y':=y') (dr':=m.drives) (ns':=c) N n3 n3 p w (by rw[e];exact H')
 refine bj (λ(s:Int) h'=>h'=h4/\(0<c.length->∃n:Nat,s=n/\n<c.length)) ?_ ?_
 .refine⟨y.2.2.2.2.2.2.2,(f.box 2 n2).cell n2,ae (λe=>?_) λe=>⟨n2,λh=>absurd e n3⟩⟩;refine⟨n4,y.2.2.2.2.2.2.2,(f.box 2 n2).cell n2,(bm _ _ h4 n3 n3).I0 ?_⟩;refine⟨_,n2,n2,λ_=>?_⟩;generalize qe xV (yD E 16)=z;have g1:=ya z (b:=(y.2.2.2.2.2.2.2.len:Int)) n3;have g2:=zZ z (b:=(y.2.2.2.2.2.2.2.len:Int)) n3;exact⟨(z%(y.2.2.2.2.2.2.2.len:Int)).toNat,n3,n3⟩
 rintro at_ _ ⟨rfl,c0⟩;refine bj (λ(_:Unit) h'=>Fin h') ?_ ?_
 rotate_left
 .rintro _ dk hF;rw[ap]at hF;obtain⟨y',m',a5,b4⟩:=hF;exact⟨y',(b4.box 0 n2).aw _ n2,b4.storeAll af 1 n2 n2 (az y') n2 n2 n2 n2 λc6 b3=>⟨y',(b3.box 1 n2).aw _ n2,y',m',n2,a5,b3.bs [2]⟩⟩
 refine(bm E 16 _).mono ?_;rintro _ h4 ⟨rfl,rfl⟩;refine⟨_,n2,?_⟩;generalize E%16=q;refine aV (λ_=>f.gx af 2 n2 n2 [xP xV v] n2 n2 n2 (show 1<=8 by decide) λh8 J=>B (v,y.2) n2 J) λ_=>?_;refine aV (λ_=>f.store af 2 n2 n2 1 [xP xV v] n2 n2 n2 (show 1+1<=8 by decide) λh8 J=>B (y.1,v,y.2.2) n2 J) λ_=>?_;refine aV (λ_=>f.store af 2 n2 n2 2 [xP xV v] n2 n2 n2 (show 2+1<=8 by decide) λh8 J=>B (y.1,y.2.1,v,y.2.2.2) n2 J) λ_=>?_;refine aV (λ_=>by rw[addr_add];exact f.store af 2 n2 n2 3 [xP xV v] n2 n2 n2 (show 3+1<=8 by decide) λh8 J=>B (y.1,y.2.1,y.2.2.1,v,y.2.2.2.2) n2 J) λ_=>?_;refine aV (λ_=>by rw[addr_add];exact f.store af 2 n2 n2 4 [xP xV v] n2 n2 n2 (show 4+1<=8 by decide) λh8 J=>B (y.1,y.2.1,y.2.2.1,y.2.2.2.1,v,y.2.2.2.2.2) n2 J) λ_=>?_;refine aV (λ_=>f.store af 2 n2 n2 5 [xP xV v] n2 n2 n2 (show 5+1<=8 by decide) λh8 J=>B (y.1,y.2.1,y.2.2.1,y.2.2.2.1,y.2.2.2.2.1,v,y.2.2.2.2.2.2) n2 J) λ_=>?_;have D:∀{h':hY} {X Y:HP} {Rs:List HP},Sp h h' (X::Y::aj I 27 (az y)::Rs)->hU h' (I.add 7)=cO (xQ y.2.2.2.2.2.2.2.ptr y.2.2.2.2.2.2.2.len y.2.2.2.2.2.2.2.cap):=λH=>(H.box 2 n2).cell n2;refine aV (λ_=>⟨y.2.2.2.2.2.2.1,(f.box 2 n2).cell n2,?_⟩) λ_=>?_
 .refine f.push af 0 n2 eK n2 n4 (λ_=>rfl) cP v n2 n4 n3 λd' b5 bb=>?_;refine bb.store af 2 n2 n2 6 [d'] n2 n2 n2 (show 6+1<=8 by decide) λcr a6=>?_;exact fin (y':=(y.1,y.2.1,y.2.2.1,y.2.2.2.1,y.2.2.2.2.1,y.2.2.2.2.2.1,d',y.2.2.2.2.2.2.2)) N n7 n3 p w a6
 refine aV (λ_=>?_) λ_=>?_
 .refine(bm v 20 _).mono ?_;rintro _ h4 ⟨rfl,rfl⟩;exact⟨_,n2,f.store af 2 n2 n2 1 [xP xV (v%20)] n2 n2 n2 (show 1+1<=8 by decide) λh8 J=>B (y.1,v%20,y.2.2) n2 J⟩
 refine aV (λ_=>?_) λ_=>?_
 .refine(bm v 4 _).mono ?_;rintro _ h4 ⟨rfl,rfl⟩;exact⟨_,n2,f.store af 2 n2 n2 1 [xP xV (qe xV (16777215+v%4))] n2 n2 n2 (show 1+1<=8 by decide) λh8 J=>B (y.1,qe xV (16777215+v%4),y.2.2) n2 J⟩
 refine⟨y.2.2.2.2.2.2.2,D f,aV (λ_=>⟨y.2.2.2.2.2.2.2,D f,?_⟩) λcf=>?_⟩
 .have app:∀(S:ByteArray),S.size<=2^20->bC xZ (zJ 25 1 #[(0,xU #[xS S,xP xV 0,xP xV v,xQ dB 0 0])]) (.one (.sc .slc)) h4 λcc cs=>bC xZ (zb #[25,25] 25 #[y.2.2.2.2.2.2.2,cc]) (.one (.sc .slc)) cs λa4 b9=>av xZ (qL 25 (xR (cO (I.add 7))) (xQ a4.ptr a4.len a4.cap)) b9 λ_ b7=>Fin b7:=λS hS=>by
   refine f.push af 1 n2 kQ n2 n4 (λ_=>rfl) ow (S,0,v,⟨dB,0,0⟩) o0 n4 n3 λo' b5 bb=>?_;refine bb.store af 2 n2 n2 7 [o'] n2 n2 n2 (show 7+1<=8 by decide) λcr a6=>?_;refine fin (y':=(y.1,y.2.1,y.2.2.1,y.2.2.2.1,y.2.2.2.2.1,y.2.2.2.2.2.1,y.2.2.2.2.2.2.1,o')) N n3 n7 (λe A=>?_) w a6;rcases qu.1 A with A|A
   .exact p e A
   .rw[qA.1 A];exact⟨by show S.size<=_;omega,bk⟩
  exact app _ n4
 have bd:0<c.length:=by
  rcases Nat.eq_zero_or_pos c.length with e|e
  .exact absurd (by rw[cn,e];rfl) cf
  .exact e
 obtain⟨n,rfl,Z⟩:=c0 bd;have a3:Rd h4 y.2.2.2.2.2.2.2 4 aT c:=f.seq 1 n2 λ_=>rfl;have al:∀{h':hY} {e':dg},e'.1.size<=2^30->e'.2.2.2=c[n].2.2.2->Sp h h' (ai 3 y.2.2.2.2.2.2.1 1 aq m.drives::ai 59 y.2.2.2.2.2.2.2 4 aT (c.set n e')::aj I 27 (az y)::aj a2 27 (az lS)::bg 3 1 aq rs G)->Fin h':=λ{h' e'} g1 g2 H'=>
  fin N n3 xa (λe A=>by
   rcases zT A with A|rfl
   .exact p e A
   .exact⟨g1,by rw[g2];exact(p _ (qf Z)).2⟩) w H'
 have M:c[n].1.size<=2^30:=(p _ (qf Z)).1;refine aV (λ_=>⟨y.2.2.2.2.2.2.2,D f,?_⟩) λ_=>?_
 .have a9:∀{h':hY} {Rs:List HP} (S:ByteArray),S.size<=2^20->Sp h h' (ai 3 y.2.2.2.2.2.2.1 1 aq m.drives::ai 59 y.2.2.2.2.2.2.2 4 aT c::aj I 27 (az y)::aj a2 27 (az lS)::bg 3 1 aq rs G)->
    ∃a:fY,(y.2.2.2.2.2.2.2.ptr=cO a/\0<=(n:Int)/\(n:Int)<((y.2.2.2.2.2.2.2.len:Nat):Int))/\av xZ (qL 9 (xR (cO (a.add ((n:Int).toNat*4)))) (xS S)) h' λ_ h'=>Fin h':=λ{h' Rs} S hS H'=>by
   obtain⟨a,k1,k2⟩:=aa.CG af H' 1 rfl (λ_=>rfl) (t:=9) rfl n rfl Z 0 [xS S] (show 0+1<=4 by decide) (val:=xS S) (S,c[n].2) rfl rfl rfl rfl (K:=Fin) λc9 c1=>al (e':=(S,c[n].2)) (by show S.size<=_;omega) n2 c1;rw[addr_add,yh]at k2;exact⟨a,k1,k2⟩
  rw[bT];refine f.lit af ar cN n2 [b8 v] n2 (show 1*1<=2^20 by decide) n2 λc4 dd ad=>?_;have ad:=ad.bf;refine Ef af ⟨_,n2,n2⟩ ⟨_,n2,n2⟩ ⟨_,n2,n2⟩ (ad.seq 0 n2 λ_=>rfl) ⟨by show((1+1:Nat):Int)<=IntKind.max xV;decide,?_⟩;exact a9 (Rs:=[]) _ (by rw[ByteArray.size_append];show 1+1<=_;decide) (aa.nE ad)
 refine aV (λ_=>⟨y.2.2.2.2.2.2.2,D f,?_⟩) λ_=>?_
 .exact aa.CG af f 1 n2 (λ_=>rfl) n2 n n2 Z 1 [xP xV v] (show 1+1<=4 by decide) (c[n].1,v,c[n].2.2) n2 n2 n2 n2 λbl P=>al (e':=(c[n].1,v,c[n].2.2)) M n2 P
 refine aV (λ_=>⟨y.2.2.2.2.2.2.2,D f,y.2.2.2.2.2.2.2,D f,?_⟩) λ_=>?_
 .obtain⟨ca,g1,g2⟩:=adb a3 (i:=0) 0 rfl bd;refine⟨ca,g1,c[0].2.1,g2.2.1,?_⟩;exact aa.CG af f 1 n2 (λ_=>rfl) n2 n n2 Z 1 [xP xV c[0].2.1] (show 1+1<=4 by decide) (c[n].1,c[0].2.1,c[n].2.2) n2 n2 n2 n2 λbl P=>⟨I4,al (e':=(c[n].1,c[0].2.1,c[n].2.2)) M n2 P⟩
 refine aV (λ_=>⟨y.2.2.2.2.2.2.2,D f,?_⟩) λ_=>?_
 .exact aa.CG af f 1 n2 (λ_=>rfl) n2 n n2 Z 2 [xP xV v] (show 2+1<=4 by decide) (c[n].1,c[n].2.1,v,c[n].2.2.2) n2 n2 n2 n2 λbl P=>al (e':=(c[n].1,c[n].2.1,v,c[n].2.2.2)) M n2 P
 obtain⟨am,g1,g2⟩:=adb a3 n rfl Z;obtain⟨i,hi⟩:=I3 (c.length-1-n)
 have a0:=T n Z;rw[<-hi]at a0;have a7:i<rs.length:=(qm.1 a0).1;have b1:rs[i]=c[n].2.2.2:=by have:=qd a7;rw[a0]at this;injection this with this;exact this.symm
 have b2:i<G.length:=n3
 have ab:(ai 3 y.2.2.2.2.2.2.1 1 aq m.drives::ai 59 y.2.2.2.2.2.2.2 4 aT c::aj I 27 (az y)::aj a2 27 (az lS)::bg 3 1 aq rs G)[i+4]?=cO (ai 3 c[n].2.2.2 1 aq G[i]):=by rw[<-b1];exact dU N i b2
 have ax:∀(tr:Sl) (j:Nat) (L:j<c.length),(j=n->c[j].2.2.2=tr)->c[j].2.2.2∈rs.set i tr:=λtr j L h1=>by
  by_cases Q:j=n
  .rw[h1 Q];exact zN (i:=i) (zG a7)
  .refine zN (i:=c.length-1-j) ?_;rw[wP n3];exact T j L
 have W:∀l:aD,l.length<=2^30->∀k∈G.set i l,k.length<=2^30:=λl N k hk=>by
  rcases zT hk with hk|rfl
  .exact w k hk
  .exact N
 have c5:=ay _ (qf b2);refine aV (λ_=>⟨y.2.2.2.2.2.2.2,D f,y.2.2.2.2.2.2.2,D f,?_⟩) λ_=>?_
 .refine⟨am,g1,c[n].2.2.2,g2.2.2.2.1,(bm v 20 _).mono ?_⟩;rintro _ h4 ⟨rfl,rfl⟩;have held:bF.ok [((am.add ((n:Int).toNat*4)).add 3,.slice c[n].2.2.2.ptr c[n].2.2.2.len c[n].2.2.2.cap),(I.add 7,xQ y.2.2.2.2.2.2.2.ptr y.2.2.2.2.2.2.2.len y.2.2.2.2.2.2.2.cap),(I.add 7,xQ y.2.2.2.2.2.2.2.ptr y.2.2.2.2.2.2.2.len y.2.2.2.2.2.2.2.cap)] h4:=⟨g2.2.2.2.1,D f,D f,I4⟩
  refine⟨v%20,n2,held,?_⟩;refine f.ir af aq eK n2 [v%20] n2 (show 1*1<=2^20 by decide) n2 held ?_;refine f.push af (i+4) ab eK n2 n4 (λ_=>rfl) cP (v%20) n2 n4 n3 λtr cq V=>?_;have V:Sp h cq (ai 3 y.2.2.2.2.2.2.1 1 aq m.drives::ai 59 y.2.2.2.2.2.2.2 4 aT c::aj I 27 (az y)::aj a2 27 (az lS)::bg 3 1 aq (rs.set i tr) (G.set i (G[i]++[v%20]))):=by rw[<-gS N];exact V
  refine⟨⟨D V,D V,I4⟩,?_⟩;refine aa.CG af V 1 n2 (λ_=>rfl) n2 n n2 Z 3 [tr] (show 3+1<=4 by decide) (c[n].1,c[n].2.1,c[n].2.2.1,tr) n2 n2 n2 n2 λc7 ci=>⟨I4,?_⟩
  refine fin (y':=y) (by simp[N]) n3 xa (λe A=>?_) (W _ n7) ci;obtain⟨j,L,rfl⟩:=qE A;rw[qK]at L;by_cases Q:n=j
  .subst Q;rw[wD];exact⟨M,zN (i:=i) (zG a7)⟩
  .rw[yY Q];exact⟨(p _ (qf L)).1,ax tr j L λh=>absurd h.symm Q⟩
 refine bj (λ(b:Bool) h'=>h'=h4/\(b=eH->0<c[n].2.2.2.len)) ?_ ?_
 .refine aV (λ_=>⟨y.2.2.2.2.2.2.2,D f,am,g1,c[n].2.2.2,g2.2.2.2.1,n2,λe=>?_⟩) λ_=>⟨n2,λe=>oj⟩
  have:=nq e;omega
 rintro b _ ⟨rfl,hb⟩;refine aU (λe=>?_) λe=>?_
 .refine⟨y.2.2.2.2.2.2.2,D f,am,g1,c[n].2.2.2,g2.2.2.2.1,?_⟩;have hb:=hb e;have c2:=(f.own (i+4) ab).len;refine aa.set af f (i+4) ab (λ_=>rfl) n2 (x:=0) 0 n2 n3 v n2 n2 n2 λcp a8=>?_;have a8:Sp h cp (ai 3 y.2.2.2.2.2.2.1 1 aq m.drives::ai 59 y.2.2.2.2.2.2.2 4 aT c::aj I 27 (az y)::aj a2 27 (az lS)::bg 3 1 aq (rs.set i c[n].2.2.2) (G.set i (G[i].set 0 v))):=by rw[<-gS N];exact a8
  refine fin (y':=y) (by simp[N]) n3 n3 (λe A=>?_) (W _ xa) a8;obtain⟨j,L,rfl⟩:=qE A;exact⟨(p _ (qf L)).1,ax _ j L λh=>by subst h;rfl⟩
 .refine⟨y.2.2.2.2.2.2.2,D f,y.2.2.2.2.2.2.2,D f,a3.cH (g:=aT) n n2 Z c[n] n2 ?_⟩;refine f.ir af aT kQ n2 [c[n]] n2 (show 1*4<=2^20 by decide) o0 ⟨D f,D f,I4⟩ ?_;refine f.push af 1 n2 kQ n2 n4 (λ_=>rfl) ow c[n] o0 n4 n3 λo' dr bq=>⟨⟨D bq,I4⟩,?_⟩
  refine bq.store af 2 n2 n2 7 [o'] n2 n2 n2 (show 7+1<=8 by decide) λda b6=>⟨I4,?_⟩
  refine fin (y':=(y.1,y.2.1,y.2.2.1,y.2.2.2.1,y.2.2.2.2.1,y.2.2.2.2.2.1,y.2.2.2.2.2.2.1,o')) N n3 n7 (λe A=>?_) w b6;rcases qu.1 A with A|A
  .exact p e A
  .rw[qA.1 A];exact p _ (qf Z)
end
section
variable {pw:fY}
abbrev adB:bS C.toAk 49 27 8 (az lS) 96:=⟨_,_,n2,n2,n2,n2,n2,n2⟩
theorem aaT(z:aY)(n:aA)(d:St B h0 As λh=>cj h z n)(c:bH m=eH)(b:bG n)(H:aa B h0 h (iA a pw da offs w ds m::As)):
  an xZ 17 #[xR (cO a),cu z] h λv h'=>v=xP xV (ce m offs w ds n).1/\aa B h0 h' (iA a pw da offs (ce m offs w ds n).2.2.1 (ce m offs w ds n).2.2.2 (ce m offs w ds n).2.1::As):=by
 obtain⟨x,H⟩:=iQ H;obtain⟨f,_⟩:=(fR m).1 ((ck m).1 c).1;refine(DP x m z n d (iO c) b n3 H).mono ?_;rintro _ h' ⟨rfl,y,e⟩;exact⟨n2,mR e⟩
theorem aaU(H:aa B h0 h (iA a pw da offs w ds m::As)):hU h a=cO (xP xV m.seq):=by obtain⟨y,b⟩:=iQ H;rw[<-(b.at 1 rfl:cj h y m).seq];exact(aa.cK b).2.cell0 n2
theorem Jg{h:hY}{a:fY}{x:aY}(b:bR h a 27 (az x)):bF.ok [(a,xP xV x.1),(a.add 1,xP xV x.2.1),(a.add 2,xP xV x.2.2.1),(a.add 3,xP xV x.2.2.2.1),(a.add 4,xP xV x.2.2.2.2.1),(a.add 5,xP xV x.2.2.2.2.2.1),(a.add 6,xQ x.2.2.2.2.2.2.1.ptr x.2.2.2.2.2.2.1.len x.2.2.2.2.2.2.1.cap),(a.add 7,xQ x.2.2.2.2.2.2.2.ptr x.2.2.2.2.2.2.2.len x.2.2.2.2.2.2.2.cap)] h:=
 ⟨b.cell0 n2,b.cell n2,b.cell n2,b.cell n2,b.cell n2,b.cell n2,b.cell n2,b.cell n2,I4⟩
theorem QM{h:hY}:∀{L M:bF},L.ok h->M.ok h->bF.ok (L++M) h
 |[],_,_,h2=>h2
 |_::_,_,⟨h1,h1'⟩,h2=>⟨h1,QM h1' h2⟩
theorem uu(s1:Sl)(c:aD)(s2:Sl)(l:aD)(s3:Sl)(k:aD)(x:aY)(n:aA)(Q v H:Int)(h:hY)(ed:Rd h s1 1 aq c)(d9:Rd h s2 1 aq l)(c9:Rd h s3 1 aq k)(hx:cj h x n):
  an xZ 3 #[s1,s2,s3,cu x,xP xV Q,xP xV v,xP xV H] h λr h'=>r=xT eH/\Sp h h' []:=by
 refine ts Tryz.func3 ?_ (G7 (G7 (G7 (E8 (G6 [] [(14,15),(32,47)] (HF [(37,mH)] [(32,38)] E9)) (E8 (G7 (F8 (G0 [(55,aH)] [(14,15),(18,19),(55,65)] E9))) (G7 (HF [] [(67,87)] (G7 (G7 (G7 (E8 (G6 [] [(14,15),(22,23),(105,159)] (HF [(111,bN),(112,aH),(113,aH)] [(105,114)] (F8 (G0 [(113,aH)] [(14,15),(22,23),(113,159)] (G7 (G7 (E8 (F8 (G7 (E8 (G6 [] [(117,145)] (HF [(130,mH)] [(117,131)] E9)) E9))) E9))))))) E9))))))))))) [(17,(.l [0,1,2,3,5,8,4,6,7])),(23,(.l [0,1,3,4,2,5,6,7,8,9,10,11,12]))] (args:=[s1,s2,s3,x,(Q:Int),(v:Int),(H:Int)]);refine(Sp.refl h).boxed λa1 h1 H1=>?_;have wk:∀{h':hY} {Bs:List HP},Sp h h' Bs->jV xZ 5 #[] (.one (.sc .bool)) h' λr cd=>Value.bool r=xT eH/\Sp h cd []:=λ{h' Bs} H'=>by
  refine(NI h').I1 λcd R=>⟨eH,n2,n2,.zip (H'.up R.ac).ac⟩
 refine⟨x,(H1.box 0 n2).aw _ n2,(TK x n h1 (hx.up H1.ac)).I2 λb h2 ⟨el,R2⟩=>?_⟩;have H2:=H1.up R2.ac;refine⟨b,n2,aI (λ_=>wk H2) λeb=>?_⟩;have d3:=(el eb).sz;refine(Wy s1 c h2 (ed.up H2.ac)).mono ?_;rintro _ h5 ⟨Q1,Q0⟩;by_cases e0:iN (dC c) (sn c) (jU c)=0
 rotate_left
 .obtain⟨rfl,R5⟩:=Q1 e0;exact⟨(dB,dB),n2,aE (aE (aU (λ_=>aU (λ_=>aU (λ_=>aU (λ_=>wk (H2.up R5.ac)) λe=>oj) λe=>oj) λe=>oj) λe=>oj))⟩
 obtain⟨a,a2,pw,pw2,y,y2,da,da2,rfl,R5⟩:=Q0 e0;have e3:=FY c;have eq:=Jb c;have a8:bH (BL c)=eH:=Yg n3 e0;have a6:=((fR _).1 ((ck _).1 a8).1).2.2.1;obtain⟨m,dk⟩:=I3 (BL c)
 rw[<-dk]at a8 a6 R5;have H5:=nU (aa.bs (mR ((H2.comp R5).bs [3,4,1,2,0])) [1,2,0,3]);refine⟨(cO a,cO a2),n2,aE (aE (aU (λe=>oj) λ_=>aU (λe=>oj) λ_=>?_))⟩;obtain⟨y5,Hy⟩:=iQ (H5.bs [1,0,2]);have d0:(y5.2.2.1,y5.2.2.2.1,y5.2.2.2.2.1)=m.p:=(Hy.at 1 rfl:cj h5 y5 m).p;have ap:=(aa.cK Hy).2;refine⟨a2,n2,m.p,?_,(PF m.p s2 l 5 eL h5 a6 (d9.up H5.ac) n4).mono ?_⟩
 .rw[<-d0];exact⟨by rw[addr_add];exact ap.cell n2,by rw[addr_add];exact ap.cell n2,by rw[addr_add];exact ap.cell n2,I4⟩
 rintro _ h8 ⟨r,L,rfl,du,hL,R8⟩;obtain⟨ys,H8⟩:=(H5.comp R8).Fw 3 rfl λ_=>rfl;have e9:=(H8.dv 3 n2).1.len;have e8:=(H8.dv 3 n2).2.1;refine⟨r,n2,?_⟩;refine ak (λi:Nat=>(i:Int)) (λi h'=>i<=L.length/\ZS (λb=>b<h.size) h h' [aj a1 27 (az x),cy jx 9 jd r ys L] a pw a2 pw2 0 da da2) (λi=>L.length-i) 0 n2 ⟨qT _,Pow.new,EB c,m,a8,H8⟩ ?_;rintro i h9 ⟨hi,w,ds,d,E,H9⟩
 try dsimp only
 refine ae (λe=>?_) λe=>?_
 .have a5:i<L.length:=n3
  have F9:=H9.dv 3 n2;obtain⟨xx,cc⟩:=I3 (ys[i]'n3)
  obtain⟨b,hb⟩:=I3 (L[i])
  have cf:∀{h':hY},gA jx 9 jd h' r ys L->fk jx h' xx b:=λF=>by rw[cc,hb];exact Fix.row F a5
  refine F9.1.cH (g:=jd) i n2 n3 xx (by rw[cc]) ?_;refine H9.alloc af n2 λdx fi ek=>?_;refine ek.storeAll af 4 n2 n2 (jd xx) n2 n2 n2 n2 λe5 b6=>?_;have d8:kU m.p b:=by
   rcases du b (by rw[hb];exact qf a5)with hh|⟨hh,_⟩
   .exact hh
   .cases hh
  refine⟨xx,(b6.box 4 n2).aw _ n2,?_⟩;refine(PJ xx b (As:=[aj a1 27 (az x),cy jx 9 jd r ys L,aj dx 44 (jd xx)]) (St.dN 1 n2 λh' D=>cf D) (kU.sm a6 d8) E b6).I1 λeh ⟨w2,ec,m2,I,_,ef⟩=>⟨eH,n2,aI (λe=>oj) λ_=>⟨i+1,oi,⟨a5,w2,ec,m2,I,aa.bs ef [0,1,2,3]⟩,n3⟩⟩
 have H9:=aa.bs H9 [0,1,2];obtain⟨g1,_⟩:=(fR d).1 ((ck d).1 E).1;refine(TJ s3 k h9 (c9.up H9.ac)).mono ?_;rintro _ b9 ⟨z,mk,rfl,d4,cq⟩;obtain⟨J,O⟩:=iQ ((H9.comp cq).bs [1,0,2,3]);have ah:cj b9 J d:=O.at 1 n2;obtain⟨N,T⟩:∃N:HP,N=aJ bD a2 pw2 (az J) 0 da2 w ds:=⟨_,rfl⟩
 have O:Sp h b9 [N,be J d,fK a pw da 0 w ds d,aj a1 27 (az x),be z mk]:=by rw[T];exact O
 have qb:∀{h':hY} {Bs:List HP},Sp h h' (N::Bs)->∃cs,cs.take 8=az J/\bR h' a2 40 cs:=λ{h' Bs} H'=>by
  rw[T]at H';exact⟨_,n2,(aa.cK H').2⟩
 have qc:∀{h':hY} {Bs:List HP},Sp h h' (N::Bs)->bA h' a2 0 (az J):=λ{h' Bs} H'=>by
  rw[T]at H';exact pV J H'
 have qn:∀{h':hY} {Bs:List HP},Sp h h' (N::Bs)->hU h' a2=cO (xP xV d.seq)/\hU h' (a2.add 1)=cO (xP xV d.next)/\(hU h' (a2.add 2)=cO (xP xV d.p.1)/\hU h' ((a2.add 2).add 1)=cO (xP xV d.p.2.1)/\hU h' ((a2.add 2).add 2)=cO (xP xV d.p.2.2))/\hU h' (a2.add 5)=cO (xP xV d.extra):=λ{h' Bs} H'=>by
  rw[T]at H';have hb:=(aa.cK H').2;rw[<-ah.seq,<-ah.next,<-ah.p,<-ah.extra];exact⟨hb.cell0 n2,hb.cell n2,⟨hb.cell n2,o5,o5⟩,hb.cell n2⟩
 refine⟨z,n2,O.alloc af n2 λab fn b0=>?_⟩;refine b0.storeAll af 5 n2 n2 (az z) n2 n2 n2 n2 λep a9=>?_;refine aE ?_;obtain⟨c1,c2,⟨c3,c4,c5⟩,c6⟩:=qn a9;refine⟨a2,n2,d.seq,c1,a2,n2,d.p,⟨by rw[addr_add];exact c3,by exact c4,by exact c5,I4⟩,a2,n2,d.extra,c6,?_⟩
 try dsimp only
 rw[ag (d.seq+1)];refine a9.gx af 5 n2 n2 [xP xV (d.seq+1)] n2 n2 n2 (show 1<=8 by decide) λfq a4=>?_;obtain⟨_,_,⟨c3,c4,c5⟩,c6⟩:=qn a4;refine⟨⟨c6,c3,c4,c5,I4⟩,a4.store af 5 n2 n2 2 [xP xV d.p.1,xP xV d.p.2.1,xP xV d.p.2.2] n2 n2 n2 (show 2+3<=8 by decide) λe4 a7=>⟨⟨(qn a7).2.2.2,I4⟩,?_⟩⟩;refine a7.store af 5 n2 n2 7 [xQ dB 0 0] n2 n2 n2 (show 7+1<=8 by decide) λer a0=>⟨⟨(qn a0).2.2.2,I4⟩,?_⟩
 refine a0.store af 5 n2 n2 5 [xP xV d.extra] n2 n2 n2 (show 5+1<=8 by decide) λej K=>⟨I4,?_⟩
 obtain⟨Z,hZ⟩:∃Z:Int->aY,Z=λA=>(d.seq+1,A,d.p.1,d.p.2.1,d.p.2.2,d.extra,z.2.2.2.2.2.2.1,⟨dB,0,0⟩):=⟨_,rfl⟩
 have K:Sp h ej [N,be J d,fK a pw da 0 w ds d,aj a1 27 (az x),be z mk,aj ab 27 (az (Z z.2.1))]:=by rw[hZ];exact K
 refine⟨z.2.1,by rw[show z.2.1=(Z z.2.1).2.1 by rw[hZ]];exact(K.box 5 n2).cell n2,a2,n2,d.next,(qn K).2.1,?_⟩;obtain⟨A,cr⟩:=I3 (if d.next>z.2.1 then d.next else z.2.1)
 rw[<-cr];refine K.storeAt af 5 n2 n2 (off:=1) n2 n2 n2 (show 1<8 by decide) λcp G=>⟨I4,?_⟩
 have G:Sp h cp [N,be J d,fK a pw da 0 w ds d,aj a1 27 (az x),be z mk,aj ab 27 (az (Z A))]:=by rw[hZ]at G⊢;exact G
 refine⟨a2,n2,J,qc G,(pT J d cp (G.at 1 n2) (iO E)).I2 λg ew eg=>?_⟩;refine⟨g,n2,(G.comp eg).alloc af n2 λax et d2=>?_⟩;refine d2.storeAll af 7 n2 n2 (az g) n2 n2 n2 n2 λei ad=>?_;have d7:g.1=d.seq:=(ad.at 6 rfl:cj ei g d).seq;refine⟨g.1,(ad.box 7 n2).cell0 n2,?_⟩
 try dsimp only
 rw[d7,ag (d.seq+1)];refine ad.gx af 7 n2 n2 [xP xV (d.seq+1)] n2 n2 n2 (show 1<=8 by decide) λam o=>?_;obtain⟨g',cn⟩:∃g':aY,g'=(d.seq+1,g.2):=⟨_,rfl⟩
 have o:Sp h am [N,be J d,fK a pw da 0 w ds d,aj a1 27 (az x),be z mk,aj ab 27 (az (Z A)),be g d,aj ax 27 (az g')]:=by rw[cn];exact o
 have o:Sp h am [N,be J d,fK a pw da 0 w ds d,aj a1 27 (az x),be z mk,aj ab 27 (az (Z A)),be g' (fJ d),aj ax 27 (az g')]:=o.dG 6 n2 λq D=>by
  rw[cn];exact⟨n2,D.next,D.p,D.extra,D.drives,D.objs,D.dcap,D.ocap⟩
 obtain⟨Mz,ca⟩:∃Mz:aA,Mz=⟨d.seq+1,A,d.p,d.extra,mk.drives,[]⟩:=⟨_,rfl⟩
 have b7:bG Mz:=by rw[ca];exact⟨d4.dr,qT _,λe he=>by cases he⟩
 have o:Sp h am [N,be J d,fK a pw da 0 w ds d,aj a1 27 (az x),be (Z A) Mz,aj ab 27 (az (Z A)),be g' (fJ d),aj ax 27 (az g')]:=o.dG 4 n2 λq D=>by
  rw[hZ,ca];exact⟨n2,n2,n2,n2,D.drives,⟨[],⟨n2,λi x hx=>(by simp at hx)⟩,n2,λi r l hr=>(by simp at hr)⟩,D.dcap,qk _⟩
 refine aE (aE ?_);have W:=iO E;have d6:(fJ d).drives.length<=2^20/\(fJ d).objs.length<=2^20/\∀e∈(fJ d).objs,e.name.size<=2^20/\e.tries.length<=2^20:=by
  have hM:=(ck d).1 E;have eh:=hM.2.2.2.1;refine⟨by show d.drives.length<=_;have:=gJ E;omega,by show d.objs.length<=_;omega,λe he=>?_⟩;obtain⟨b1,_,b3,_,b5⟩:=(gX d e).1 (hM.2.2.2.2.1 e he);have:=kG b3.2;have hn:e.name.size<=12:=by unfold gB at b1;simp at b1;omega
  omega
 refine⟨x,(o.box 3 n2).aw _ n2,g',(o.box 7 n2).aw _ n2,Z A,(o.box 5 n2).aw _ n2,(Wz g' (fJ d) Q v am (o.at 6 n2) ⟨W.dr,W.ob,W.nm⟩ d6).mono ?_⟩;rintro _ e1 ⟨t,Mt,rfl,c8,d5⟩;have al:=o.comp d5;refine⟨t,n2,QM (Jg (al.box 5 n2)) (Jg (al.box 3 n2)),?_⟩;refine al.lit af az adB n2 [x,t,Z A] n2 (show 3*8<=2^20 by decide) o0 λv39 d1 s=>⟨I4,?_⟩
 have s:=s.bs [0,1,2,9,8,4];rw[T]at s;have s:=aa.aF (mR s) 2 [1,0];have c7:=(s.own 2 n2).len;obtain⟨Ls,bl⟩:∃Ls:List HP,Ls=[ai 27 v39 8 az [x,t,Z A],be t Mt,be (Z A) Mz]:=⟨_,rfl⟩
 have c0:∀(j:Nat) (hj:j<3),∃(u:aY) (M:aA),u=[x,t,Z A][j]/\bG M/\St (λb=>b<h.size) h Ls λh'=>cj h' u M:=λj hj=>by
  rw[bl]
  match j,hj with
  |0,_=>exact⟨x,n,n2,d3,St.base hx λh' hp=>hx.up hp⟩
  |1,_=>exact⟨t,Mt,n2,c8,St.dN 1 n2 λh' D=>D⟩
  |2,_=>exact⟨Z A,Mz,n2,b7,St.dN 2 n2 λh' D=>D⟩
 have ea:∀{h':hY} {X Y:HP},Sp h h' (X::Y::Ls)->Rd h' v39 8 az [x,t,Z A]:=λ{h' X Y} H'=>by
  rw[bl]at H';exact H'.seq 2 n2 λ_=>rfl
 have s:Sp h d1 (fK a pw da 0 w ds d::iA a2 pw2 da2 0 w ds d::Ls):=by rw[bl];exact s
 clear al o ad G K a0 a7 a4 a9 b0 O qn qc qb;refine ak (λj:Nat=>(j:Int)) (λj h'=>j<=3/\ZS (λb=>b<h.size) h h' Ls a pw a2 pw2 0 da da2) (λj=>3-j) 0 n2 ⟨qT _,w,ds,d,E,s⟩ ?_;rintro j fa ⟨hj,w1,a3,m2,I,bk⟩
 try dsimp only
 refine ae (λe=>?_) λ_=>wk bk;have ay:j<3:=by
  have:(v39.len:Int)=3:=by rw[c7];rfl
  omega
 obtain⟨u,M,hu,hM,hS⟩:=c0 j ay;refine(ea bk).cH (g:=az) j n2 ay u (by rw[hu]) ?_;refine bk.alloc af n2 λci eo ao=>?_;have ao:=aa.bf ao;refine ao.storeAll af 0 n2 n2 (az u) n2 n2 n2 n2 λU B=>?_;have B:=B.aF 3 [1,2,0];obtain⟨g2,_⟩:=(fR m2).1 ((ck m2).1 I).1;refine bj (λ(_:Unit) h'=>∃w2,Sp h h' (fK a pw da 0 w2 a3 m2::iA a2 pw2 da2 0 w2 a3 m2::aj ci 27 (az u)::Ls)) ?_ ?_
 .have hc:hU U a2=cO (xP xV m2.seq):=aaU (B.aF 2 [1,0]);have V:bF.ok [(a2,xP xV m2.seq),(ci,xP xV u.1)] U:=⟨hc,(B.box 2 n2).cell0 n2,I4⟩
  refine bj (λ(_:Bool) h'=>h'=U) ?_ ?_
  .refine⟨u.1,(B.box 2 n2).cell0 n2,a2,n2,m2.seq,hc,aV (λ_=>?_) λ_=>⟨V,n2⟩⟩;refine(bm H 3 _).I0 ⟨_,n2,V,n2⟩
  rintro bb _ rfl;refine aU (λ_=>?_) λ_=>⟨w1,B⟩
  refine(Kh B).mono ?_;rintro _ U ⟨rfl,rfl⟩;refine⟨cO pw,n2,n4,(bm _ 20 _).I0 ?_⟩;obtain⟨f,hf⟩:=I3 (qe xV (yD H 3)%20)
  have b4:f<2^62:=by rw[hf];omega
  rw[<-hf];refine⟨f,n2,(QE f b4 B).I1 λdd b2=>?_⟩;have hp:=QL (b2.aF 2 [1,0]);refine⟨(),n2,a2,n2,cO pw2,hp,n4,(bm _ 20 _).I0 ?_⟩;rw[<-hf];refine⟨f,n2,⟨hp,I4⟩,(QK f b4 (b2.aF 2 [1,0])).I1 λe6 dy=>?_⟩;exact⟨(),n2,I4,_,dy.aF 2 [1,0]⟩
 rintro _ fb ⟨w2,bq⟩;refine⟨u,(bq.box 2 n2).aw _ n2,u,(bq.box 2 n2).aw _ n2,?_⟩;refine(aaS u M (St.cons (St.cons hS)) I hM bq).I1 λe2 bd=>?_;obtain⟨P,hP⟩:=I3 (ce m2 0 w2 a3 M)
 rw[<-hP]at bd⊢;refine⟨P.1,n2,Jg (bd.box 2 n2),(aaT u M (St.cons (St.cons hS)) I hM (bd.aF 2 [1,0])).I1 λes S=>?_⟩;rw[<-hP]at S⊢;have br:bH P.2.1=eH:=by rw[hP];exact HY I _ _ _ _
 have S:=S.aF 2 [1,0];refine⟨P.1,n2,I4,bt (λe=>absurd n2 e) λ_=>(Ww br S).I1 λe7 en=>?_⟩;exact⟨eH,n2,I4,aI (λe=>oj) λ_=>⟨j+1,oi,⟨ay,P.2.2.1,P.2.2.2,P.2.1,br,(S.up en.ac).aF 3 [0,1]⟩,n3⟩⟩
theorem AL(o:Sl)(c:aD)(i:Sl)(l:aD)(m:Sl)(k:aD)(x:aY)(n:aA)(e v d:Int)(h:hY)(j:Rd h o 1 aq c)(g:Rd h i 1 aq l)(f:Rd h m 1 aq k)(p:cj h x n):
  an xZ 3 #[o,i,m,cu x,xP xV e,xP xV v,xP xV d] h λr h'=>r=xT eH/\aP (λb=>b<h.size) h h':=
 (uu o c i l m k x n e v d h j g f p).mono λ_ _ ⟨a,b⟩=>⟨a,b.ac⟩
end
section
open Go.RowKit Go.ChangeShapes Go.WideShapes Go.Joins Go.Deep
section
variable {H:Type} {enc:TypeId×Value->H} {P:Program} {W W':World}
def Oa:List Field->List (Nat×Nat)->Bool
 |[],[]=>eH
 |f::fs,x::xs=>wv f.offset x.1&&wv f.type x.2&&Oa fs xs
 |_,_=>eL
def oC(P:Program)(t:TypeId)(n:Nat)(l:List (Nat×Nat)):Bool:=
 match P.underlying t with
 |some (.struct ⟨fs⟩)=>Oa fs l&&wv (P.cellsOf t) n
 |_=>eL
theorem WA:∀{a:List Field} {l:List (Nat×Nat)},Oa a l=eH->∀(i:Nat) (x:Nat×Nat),l[i]?=cO x->∃f:Field,a[i]?=cO f/\f.offset=x.1/\f.type=x.2
 |[],[],_,i,x,h=>C4
 |f::a,y::l,h,0,x,hx=>by
  simp only[Oa,qC]at h;simp at hx;subst hx;exact⟨f,n2,zy h.1.1,zy h.1.2⟩
 |f::a,y::l,h,i+1,x,hx=>by
  simp only[Oa,qC]at h;exact WA h.2 i x hx
theorem Ah{t:TypeId}{n b:Nat}{l:List (Nat×Nat)}{c:aR}{x:DataW H×List MemPlace}(a:oC P t n l=eH)(h:DataW.trod enc P W 0 (λ_=>eH) eH b t c=cO x):
  c.length=n/\∃m,∀(i o u:Nat),l[i]?=cO (o,u)->∃y,DataW.trod enc P W 0 (λ_=>eH) eH m u ((c.drop o).take (P.cellsOf u))=cO y:=by
 unfold oC at a;split at a
 .rename_i r p;simp only[qC]at a;obtain⟨xs,m,_,_,j,g,k⟩:=DataW.trod_struct p h;refine⟨j.trans (zy a.2),m,λi o u q=>?_⟩;obtain⟨f,e,rfl,rfl⟩:=WA a.1 i _ q;have d:i<n1 xs:=by rw[g];exact(qm.1 e).1
  exact⟨xs[i],by rw[k i f pt,qd d]⟩
 .cases a
theorem adC{α:Type}{l:List α}(h:n1 l=8):∃b g d c3 f a e c,l=[b,g,d,c3,f,a,e,c]:=by
 match l,h with
 |[b,g,d,c3,f,a,e,c],_=>exact⟨b,g,d,c3,f,a,e,c,n2⟩
theorem WB{v:Value}{n:Nat}{r:_root_.Go.Reach}{c:Nat}{t:TypeId}{l:List (Nat×Nat)}(b:oC P t n l=eH)(e:Value.okWide P W r c t v):∃a:aR,v=xU a.toArray/\(Value.cells v).toList=a:=by
 unfold oC at b;split at b
 .rename_i f d;obtain⟨a,rfl,_⟩:=okWide_struct d e;exact⟨a.toList,n9,o8⟩
 .cases b
theorem adD{α:Type}{l:List α}(h:n1 l=4):∃a c b c3,l=[a,c,b,c3]:=by
 match l,h with
 |[a,c,b,c3],_=>exact⟨a,c,b,c3,n2⟩
theorem Ia{t e:TypeId}{n:Nat}{v:Value}{x:DataW H×List MemPlace}(a:P.underlying t=cO (.slice e))(i:P.underlying e=cO (.int .i64))(g:P.cellsOf e=1)
  (h:DataW.trod enc P W 0 (λ_=>eH) eH n t [v]=cO x):∃(s:Sl) (l:aD),v=s/\Seq W.heap (λb=>b<W.heap.size) s 1 aq l/\s.len<=s.cap:=by
 obtain⟨p,l,c,f⟩:=slice_form a h;simp at f;subst f;exact UE (d:=x.1) (ps:=x.2) a i g ⟨_,_,_,n2⟩ ⟨n,by simpa[Value.cells]using h⟩
theorem WC{i q es en s:TypeId}{n:Nat}{v:Value}{x:DataW H×List MemPlace}(B:P.underlying i=cO (.int .i64))(S:P.cellsOf i=1)(fq:P.underlying q=cO (.slice i))(cq:P.cellsOf q=1)(fs:P.underlying s=cO .string)(cs:P.cellsOf s=1)(F:P.underlying es=cO (.slice en))(A:P.cellsOf en=4)
  (hE:oC P en 4 [(0,s),(1,i),(2,i),(3,q)]=eH) (h:DataW.trod enc P W 0 (λ_=>eH) eH n es [v]=cO x):∃(o:Sl) (l:List Qw.cS),v=o/\ov.p W.heap (λb=>b<W.heap.size) o l/\o.len<=o.cap:=by
 rcases open_slice F h with⟨h1,_⟩|⟨a,len,cap,m,k,D,Pl,h1,_,hle,_,hm,_,hcell⟩
 .simp at h1;exact⟨⟨dB,0,0⟩,[],h1,⟨[],Seq.nil _ _ _ _ _ _,n2,λi r l h=>C4⟩,qk _⟩
 .simp at h1;simp only[if_true]at hm;have g:∀j,j<len->∃z:dg×Qw.cS,hU W.heap (a.add (j*4))=cO (xS z.1.1)/\hU W.heap (a.add (j*4+1))=cO (xP xV z.1.2.1)/\hU W.heap (a.add (j*4+2))=cO (xP xV z.1.2.2.1)/\hU W.heap (a.add (j*4+3))=cO (xQ z.1.2.2.2.ptr z.1.2.2.2.len z.1.2.2.2.cap)/\eC.p W.heap (λb=>b<W.heap.size) z.1 z.2:=λj hj=>by
   obtain⟨c,f,t⟩:=hcell j n3;rw[A]at f;obtain⟨_,J,d⟩:=World.cells?_some f;obtain⟨hl,m',y⟩:=Ah hE t;obtain⟨c0,c1,c2,c3,rfl⟩:=adD hl;obtain⟨_,X⟩:=y 0 0 s rfl;obtain⟨_,L⟩:=y 1 1 i rfl;obtain⟨_,V⟩:=y 2 2 i rfl;obtain⟨_,R⟩:=y 3 3 q rfl;rw[cs]at X;rw[S]at L V;rw[cq]at R;obtain⟨M,N,_⟩:=DataW.trod_string fs X;obtain⟨O,Q,_⟩:=DataW.trod_int B L;obtain⟨x2,u,_⟩:=DataW.trod_int B V;obtain⟨x3,l3,e3,r3,_⟩:=Ia fq B S (v:=c3) (by simpa using R);simp at N Q u;subst N Q u e3;have z0:=d 0 n3;have T:=d 1 n3;have K:=d 2 n3;have z3:=d 3 n3;rw[rh,addr_add]at z0 T K z3;exact⟨((M,O,x2,x3),⟨M,O,x2,l3⟩),by simpa using z0,D3,by simpa using K,by simpa using z3,⟨n2,n2,n2⟩,r3⟩
  haveI:Inhabited (dg×Qw.cS):=⟨((⟨#[]⟩,0,0,⟨dB,0,0⟩),⟨⟨#[]⟩,0,0,[]⟩)⟩
  obtain⟨Z,E⟩:=choose_lt g;refine⟨⟨cO a,len,cap⟩,(qz len).map λj=>(Z j).2,h1,⟨(qz len).map λj=>(Z j).1,⟨n9,λi x hx=>?_⟩,n9,λi r l Y q2=>?_⟩,hle⟩
  .obtain⟨w,e⟩:=qm.1 hx;simp at w e;obtain⟨I,f,t,G,_⟩:=E i w;have z0:=(E 0 n3).1;rw[Nat.zero_mul,add_zero]at z0;have U:=JG z0;refine⟨a.block,a.off,by rw[<-U],cZ z0,?_⟩;subst e;rw[U]at I f t G;simp only[add_eq]at I f t G⊢;exact⟨by simpa[add_eq]using I,by simpa[add_eq,wA]using f,by simpa[add_eq,wA]using t,by simpa[add_eq,wA]using G,I4⟩
  .obtain⟨w,e⟩:=qm.1 Y;obtain⟨_,u⟩:=qm.1 q2;simp at w e u;subst e u;exact(E i w).2.2.2.2
theorem WD{r:_root_.Go.Reach}{b0:Nat}{i s q pm es en t:TypeId}{v:Value}{d:DataW H}{p:List MemPlace}(a:P.underlying i=cO (.int .i64))(f:P.cellsOf i=1)(E:P.underlying q=cO (.slice i))(L:P.cellsOf q=1)(fs:P.underlying s=cO .string)(cs:P.cellsOf s=1)(l:P.underlying es=cO (.slice en))(n:P.cellsOf es=1)(k:P.cellsOf en=4)(j:P.cellsOf pm=3)
  (hE:oC P en 4 [(0,s),(1,i),(2,i),(3,q)]=eH) (hP:oC P pm 3 [(0,i),(1,i),(2,i)]=eH) (B:oC P t 8 [(0,i),(1,i),(2,pm),(5,i),(6,q),(7,es)]=eH)
  (hv:Value.okWide P W r b0 t v) (h:DataW.Trod enc P W 0 (λ_=>eH) eH t v d p):∃(x:aY) (m:aA),v=cu x/\cj W.heap x m:=by
 obtain⟨G,h⟩:=h;obtain⟨cc,rfl,e⟩:=WB B hv;rw[e]at h;obtain⟨V,m,c⟩:=Ah B h;obtain⟨c0,c1,U,c3,c4,c5,c6,c7,rfl⟩:=adC V;obtain⟨_,u⟩:=c 0 0 i rfl;obtain⟨_,y⟩:=c 1 1 i rfl;obtain⟨_,g⟩:=c 2 2 pm rfl;obtain⟨_,R⟩:=c 3 5 i rfl;obtain⟨_,A⟩:=c 4 6 q rfl;obtain⟨_,T⟩:=c 5 7 es rfl;rw[f]at u y R;rw[j]at g;rw[L]at A;rw[n]at T;have g:DataW.trod enc P W 0 (λ_=>eH) eH m pm [U,c3,c4]=cO _:=g;obtain⟨_,m',b⟩:=Ah hP g;obtain⟨_,M⟩:=b 0 0 i rfl;obtain⟨_,o⟩:=b 1 1 i rfl;obtain⟨_,F⟩:=b 2 2 i rfl;rw[f]at M o F;obtain⟨N,Q,_⟩:=DataW.trod_int a u;obtain⟨z,K,_⟩:=DataW.trod_int a y;obtain⟨x2,S,_⟩:=DataW.trod_int a M;obtain⟨x3,O,_⟩:=DataW.trod_int a o;obtain⟨I,D,_⟩:=DataW.trod_int a F;obtain⟨J,w,_⟩:=DataW.trod_int a R;obtain⟨x6,l6,e6,Z,k6⟩:=Ia E a f (v:=c6) (by simpa using A);obtain⟨X,l7,e7,Y,k7⟩:=WC a f E L fs cs l k hE (v:=c7) D3;simp at Q K S O D w;subst Q K S O D w e6 e7;exact⟨(N,z,x2,x3,I,J,x6,X),⟨N,z,(x2,x3,I),J,l6,l7⟩,n2,⟨n2,n2,n2,n2,Z,Y,k6,k7⟩⟩
end
end
end Go.Qw
