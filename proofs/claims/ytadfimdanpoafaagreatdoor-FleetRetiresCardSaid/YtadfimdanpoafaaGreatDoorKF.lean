/- Lemmas. -/
import Derived.Test.YtadfimdanpoafaaGreatDoorKE
import Derived.Test.YtadfimdanpoafaaGreatDoorKD
set_option linter.unusedVariables false
set_option linter.unusedSimpArgs false
open Go.Proofs.Tryz renaming prog -> xx
open Go.Value renaming bool -> xq, int -> xl, pointer -> xo, string -> xp
open List renaming getElem_map -> zS, getElem_mem -> qh, length_map -> qu
open Go.IntKind renaming i64 -> xt, wrap -> qc
open Int renaming le_refl -> vB, mul_le_mul -> wF
set_option maxRecDepth 100000
namespace Go.Qw
open Go Go.Vc Go.Proofs Wl
def sT(m:aG)(offs:Int)(w:Pow):List ByteArray:=if dC w offs then[]else m.objs.map Wl.bV.name
section
variable {B:aB} {h0 h:Heap} {As:List HP} {a pw:Addr} {offs:Int} {da:List aO} {w:Pow} {ds:aT} {m:aG}
theorem Xf(x:bD)(s:bO m=true)(H:aa B h0 h (aV bj a pw (aP x) offs da w ds::bU x m::As)):
  ac xx 11 #[xo (some a)] h fun v h'=>∃r:Sl,v=r/\Sp h h' [ar 9 r 1 rI (sT m offs w)]:=by
 refine Dj (some a) ?_;unfold sg;refine(sH H).mono ?_;rintro _ k ⟨rfl,rfl⟩;refine⟨_,rfl,bw (fun e=>?_) fun M=>?_⟩
 ·have:sT m offs w=[]:=by unfold sT;rw[if_pos e]
  rw[this];exact⟨⟨none,0,0⟩,rfl,(Sp.refl k).nil 9 1 rI⟩
 have O:sT m offs w=m.objs.map Wl.bV.name:=by unfold sT;rw[if_neg (by rw[M];decide)]
 rw[O];have J:=(aa.cB H).2;have D:dK k x m:=H.at 1 rfl;have y:=((bZ m).1 s).2.2.2.1;obtain⟨K,F⟩:=cF.fix D.objs;have R:=F.2.1;have A:=F.1.len;refine⟨a,rfl,x.2.2.2.2.2.2.2,J.cell rfl,?_⟩;refine aw (fun t:Sl×Nat=>(t.1,(t.2:Int))) (fun t h'=>t.2<=m.objs.length/\Sp k h' [ar 9 t.1 1 rI ((m.objs.map Wl.bV.name).take t.2)]) (fun t=>m.objs.length-t.2) (⟨none,0,0⟩,0) rfl ⟨by simp,by simpa using(Sp.refl k).nil 9 1 rI⟩ ?_;rintro⟨o,i⟩ S ⟨P,d⟩;dsimp only at P d⊢;refine al (fun e=>?_) fun e=>?_
 ·have c:i<m.objs.length:=by omega
  have b:=Fix.row F c;obtain⟨E,p⟩:∃E,E=m.objs[i]:=⟨_,rfl⟩
  have n:E∈m.objs:=by rw[p];exact qh c
  obtain⟨xe,j⟩:∃xe,xe=K[i]'(by omega):=⟨_,rfl⟩
  rw[<-p,<-j]at b;have f:xe.1=E.name:=b.1.1;have Q:E.name.size<=12:=by
   have:=((gC m E).1 (((bZ m).1 s).2.2.2.2.1 E n)).1;unfold jv at this;simp at this;omega
  refine(Seq.up F.1 d.ai).dt (g:=bI) i rfl (by omega) xe (by rw[j]) ?_;refine d.alloc ae rfl fun L h3 z=>?_;refine z.storeAll ae 1 rfl rfl (bI xe) rfl rfl rfl rfl fun q l=>?_;have l:Sp k q [ar 9 o 1 rI ((m.objs.map Wl.bV.name).take i),aq L 105 (bI xe)]:=l;refine⟨xe.1,(l.box 1 rfl).cell0 rfl,(Pq xe.1 q (by rw[f];omega)).mono ?_⟩;rintro _ U ⟨rfl,u⟩;have N:=(l.up u.ai).bK [0];refine⟨_,rfl,N.push ae 0 rfl afm rfl (by decide) (fun _=>rfl) adP xe.1 rfl (by decide) (by simp;omega) fun G T I=>?_⟩;refine⟨(G,i+1),by dsimp only;rw[ak _];rfl,⟨by dsimp only;omega,?_⟩,by dsimp only;omega⟩;dsimp only;rw[aI _ _ (show i<(m.objs.map Wl.bV.name).length by simpa using c),zS,<-p,<-f];exact I
 ·rw[List.take_of_length_le (by rw[qu];omega)]at d;exact⟨o,rfl,d⟩
theorem abO(b:bO m=true)(H:aa B h0 h (ig a pw da offs w ds m::As)):
  ac xx 11 #[xo (some a)] h fun v h'=>∃r:Sl,v=r/\Sp h h' [ar 9 r 1 rI (sT m offs w)]:=by
 obtain⟨x,H⟩:=mR H;exact Xf x b H
end
section
variable {B:aB} {h0 h:Heap} {As:List HP} {a pw:Addr} {offs:Int} {da:List aO} {w:Pow} {ds:aT}
end
section
theorem UP{B:aB}{h0 h:Heap}{As:List HP}{a pw:Addr}{offs:Int}{e:List aO}{w:Pow}{ds:aT}{m:aG}(name:ByteArray)(g:bO m=true)(H:aa B h0 h (ig a pw e offs w ds m::As)):
  ac xx 12 #[xo (some a),xp name] h fun v h'=>∃r:Sl,v=.tuple #[r,xl xt (nf m offs w ds name).2]/\Sp h h' [EA (gr 1 aE) r (nf m offs w ds name).1]:=by
 have b:=(YW H).2;obtain⟨x,f⟩:=mR H;exact abJ x name g (fun k d c=>Nat.le_trans (b k d c).1 (b k d c).2.1) f
theorem ZM{m:aG}:sT m 0 Pow.new=m.objs.map Wl.bV.name:=by unfold sT;rw[if_neg (by decide)]
end
end Go.Qw
namespace Wl
open Go Go.Qw Go.Vc
end Wl
namespace Go.Qw
open Go Go.Vc Go.Proofs Wl
section
variable {B:aB} {h0 h:Heap} {As:List HP} {a pw:Addr} {offs:Int} {da:List aO} {w:Pow} {ds:aT} {m:aG}
theorem Me(b:Int)(e:bO m=true)(H:aa B h0 h (ig a pw da offs w ds m::As)):
  ac xx 14 #[xo (some a),xl xt b] h fun v h'=>v=xl xt (dE m offs w ds b).1/\
   ∃c,aa B h0 h' (ig a pw c offs (dE m offs w ds b).2.2.1 (dE m offs w ds b).2.2.2 (dE m offs w ds b).2.1::As):=by
 obtain⟨x,H⟩:=mR H;refine(TK b x m e H).mono ?_;rintro _ h' ⟨rfl,y,c,d⟩;exact⟨rfl,c,JF d⟩
end
section
variable {B:aB} {h0 h:Heap} {As:List HP} {a pw b:Addr} {mc:aW} {offs:Int} {da:List aO} {w:Pow} {ds:aT} {d:bB}
theorem Pr:dC (eN (1,1,1) 0 Pow.new [5]).2.1 Pow.new.offs=false/\(3:Int)∉bc (eN (1,1,1) 0 Pow.new [5]).2.2 (ck (1,1,1) 0 [5]).drives/\(0:Int)∈(ck (1,1,1) 0 [5]).drives:=by decide+kernel
theorem Su(h:Heap):ac xx 19 #[] h fun v h'=>v=xq true/\Sp h h' []:=by
 refine uf ?_;unfold mX;obtain⟨g,l,n⟩:=Pr;refine(Gr h).mono ?_;rintro _ s ⟨pw,rfl,m⟩;refine⟨_,rfl,?_⟩;refine m.lit ae aD lL rfl [5] rfl (show 1*1<=2^20 by decide) rfl fun i q o=>?_;refine(IE (1,1,1) 0 i [5] (As:=[ar 3 i 1 aD [5]]) (St.dU 0 rfl fun h' j=>j.1.seq (fun _=>rfl) j.2) (by decide) o).mono ?_;rintro _ h3 ⟨_,Q⟩;obtain⟨a,x,da,rfl,b⟩:=Q abH;have d:cO (ck (1,1,1) 0 [5]):=Lv _ _ _ (by decide);have f:dK h3 x (ck (1,1,1) 0 [5]):=b.at 1 rfl;refine⟨(some a,0),rfl,cI (fun _=>?_) fun e=>absurd rfl e⟩;refine(RR 3 x _ f d b (.inr l)).mono ?_;rintro _ p ⟨rfl,c⟩;rw[g,if_neg (by decide)];refine⟨5,rfl,cI (fun _=>?_) fun e=>absurd rfl e⟩;refine(TF 0 5 x _ (f.up c.ai) d (b.up c.ai) (.inr (.inr n))).mono ?_;rintro _ r ⟨rfl,k⟩;rw[g,if_neg (by decide),show gh 0 5=true by decide,if_pos rfl];exact⟨4,rfl,rfl,.zip ((b.up c.ai).up k.ai).ai⟩
end
section
theorem Inv.afE{m:aG}{C:Int->aX}{ds:aT}{N:Nat}(I:Inv m C ds N)(O:BB m ds){e:Wl.bV}(a:e∈m.objs):lU m 0 Pow.new ds e.name=((((C e.object).length:Int),countP m.p (C e.object).length,countP m.p (C e.object).length*(m.p.1+m.extra)),0):=by
 have b:m.objs.find? (dP e.name)=some e:=by
  cases b:m.objs.find? (dP e.name)with
  |none=>exact absurd (List.find?_eq_none.1 b e a) (by unfold dP;simp)
  |some e'=>
   have i:=List.mem_of_find?_eq_some b;have d:=List.find?_some b;unfold dP at d;rw[OB I.sto.may i a (lh (by simpa using d))]
 obtain⟨c,j⟩:=I.sto.ents e a;have g:=(gC m e).1 (I.sto.entry a);have h:(e.tries.length:Int)=countP m.p (C e.object).length:=by rw[c];exact g.2.2.2.2
 have f:=(bM m.p).1 I.sto.BA;have k:=((dM m).1 ((bZ m).1 I.sto.may).1).2.2.2;unfold lU;rw[if_neg (by decide),b];dsimp only;rw[I.full.bc,Xd O I.full I.low I.sto a,<-c,<-h];have:(((e.tries.length*(m.p.1+m.extra).toNat:Nat)):Int)=(e.tries.length:Int)*(m.p.1+m.extra):=by
  rw[Int.natCast_mul,Int.toNat_of_nonneg (by omega)]
 rw[this]
abbrev iI:aC:=[400,400,400,400]
theorem UQ{g:Int}(h0:0<=g)(a:g<4):g=0∨g=1∨g=2∨g=3:=by omega
theorem HW(c0:Sl)(l:aC)(s1:Sl)(l1:aC)(B:Int)(h:Heap)(hs:Rd h c0 1 aD l)(eb:Rd h s1 1 aD l1):
  ac xx 3 #[c0,s1,xl xt B] h fun v h'=>v=xq true/\Sp h h' []:=by
 refine nP c0 s1 B ?_;unfold jQ;refine(TZ c0 l h hs).mono ?_;rintro _ h1 ⟨r,rfl,R1⟩;refine⟨(iH l,WZ l,r),rfl,R1.alloc ae rfl fun w h2 H2=>?_⟩;refine H2.storeAll ae 1 rfl rfl [xl xt (iH l).1,xl xt (iH l).2.1,xl xt (iH l).2.2] rfl rfl rfl rfl fun h3 H3=>?_;obtain⟨p,Y⟩:∃p,p=iH l:=⟨_,rfl⟩
 obtain⟨E,hE⟩:∃E,E=WZ l:=⟨_,rfl⟩
 have hp:bL p=true:=by rw[Y];exact YV _ _ _
 have X:p.1<=6/\p.2.2<=9:=by rw[Y];unfold iH CC;dsimp only;omega
 have ei:=(bM p).1 hp;have es:0<=E/\E<=6:=by rw[hE];unfold WZ;omega
 rw[<-Y,<-hE];rw[<-Y]at H3;have H3:Sp h h3 [aq w 24 [xl xt p.1,xl xt p.2.1,xl xt p.2.2]]:=H3.bK [1];obtain⟨e0,ec⟩:=adQ (extra:=E) (l:=iI) hp (by omega) (by decide) (by decide);refine cl (fun(t:aO×Int) h'=>∃(a pw:Addr) (da:List aO) (D:aT),t=(some a,0)/\D.length=64/\(∀s,bp D s=if s∈bm iI iI.length then some ⟨(iI.getD s.toNat 0).toNat,aY (ck p E iI),0,[],false,false⟩else none)/\
  Sp h h' [ig a pw da 0 Pow.new D (ck p E iI),aq w 24 [xl xt p.1,xl xt p.2.1,xl xt p.2.2]]) ?_ ?_
 ·have hb:=H3.box 0 rfl;have ce:∀{h5:Heap} {pw:Addr} {q:Sl},Sp h h5 [dN 101 pw Pow.new,aq w 24 [xl xt p.1,xl xt p.2.1,xl xt p.2.2],ar 3 q 1 aD iI]->ac xx 7 #[kh p,xl xt E,xo (some pw),q] h5 fun v h'=>∃(a:Addr) (da:List aO) (D:aT),v=.tuple #[xo (some a),xl xt 0]/\D.length=64/\
    (∀s,bp D s=if s∈bm iI iI.length then some ⟨(iI.getD s.toNat 0).toNat,aY (ck p E iI),0,[],false,false⟩else none)/\Sp h h' [ig a pw da 0 Pow.new D (ck p E iI),aq w 24 [xl xt p.1,xl xt p.2.1,xl xt p.2.2]]:=fun{h5 pw q} H5=>by
   refine(Ww p E q iI (As:=[aq w 24 [xl xt p.1,xl xt p.2.1,xl xt p.2.2],ar 3 q 1 aD iI]) (St.dU (A:=ar 3 q 1 aD iI) 1 rfl fun h' hq=>hq.1.seq (fun _=>rfl) hq.2) (by decide) e0 rfl H5).mono ?_;rintro _ h7 ⟨a,da,D,rfl,f2,f3,H7⟩;exact⟨a,da,D,rfl,f2,f3,H7.bK [0,1]⟩
  refine⟨p,hb.aL _ rfl,?_,?_⟩
  ·refine(Gr h3).mono ?_;rintro _ h4 ⟨pw,rfl,R4⟩;have H4:=H3.cS R4;have ay:=H4.box 1 rfl;refine⟨_,rfl,⟨ay.cell0 rfl,ay.cell rfl,ay.cell rfl,trivial⟩,?_⟩;refine H4.lit ae aD lL rfl iI rfl (show 4*1<=2^20 by decide) rfl fun q h5 H5=>?_;have a7:=H5.box 1 rfl;refine⟨⟨a7.cell0 rfl,a7.cell rfl,a7.cell rfl,trivial⟩,(ce H5).mono ?_⟩;rintro _ h6 ⟨a,da,D,rfl,f2,f3,H6⟩;exact⟨(some a,0),rfl,trivial,a,pw,da,D,rfl,f2,f3,H6⟩
  ·refine H3.lit ae aD lL rfl iI rfl (show 4*1<=2^20 by decide) rfl fun q h7 H7=>?_;have a1:=H7.box 0 rfl;refine⟨⟨a1.cell0 rfl,a1.cell rfl,a1.cell rfl,trivial⟩,(Gr h7).mono ?_⟩;rintro _ h8 ⟨pw,rfl,R8⟩;have H8:=H7.cS R8;have a0:=H8.box 1 rfl;refine⟨_,rfl,⟨a0.cell0 rfl,a0.cell rfl,a0.cell rfl,trivial⟩,(ce H8).mono ?_⟩;rintro _ h6 ⟨a,da,D,rfl,f2,f3,H6⟩;exact⟨(some a,0),rfl,trivial,a,pw,da,D,rfl,f2,f3,H6⟩
 rintro⟨_,_⟩ h8 ⟨a,pw,da,D,W,f2,f3,H8⟩;injection W with he1 he2
 subst he1 he2;obtain⟨S0,F0,L0⟩:=ZF (m:=ck p E iI) rfl e0 (by decide) f2 f3 (fun _=>[]);have a8:bm iI iI.length=[0,1,2,3]:=by rw[ec];rfl
 have I0:tm (ck p E iI) (fun _=>[]) D 0:=by
  refine⟨⟨S0,F0,L0,fun e W=>(by cases W),?_,vB _,vB _⟩,Xc (n:=ck p E iI) fun k d hd c hc=>?_,fun k P=>?_,fun e W=>(by cases W),by show(p.1+E).toNat<=12;omega⟩
  ·show bm _ _≠[];rw[a8];simp
  ·rw[f3]at hd;split at hd
   ·injection hd with hd;subst hd;exact hc
   ·cases hd
  ·have P:k∈bm iI iI.length:=P;refine⟨_,by rw[f3,if_pos P],rfl,?_⟩;rw[a8]at P;simp at P;rcases P with rfl|rfl|rfl|rfl<;>rfl
 refine be (ca (fun e=>absurd rfl e) fun _=>bw (fun e=>by cases e) fun _=>?_);refine⟨p,(H8.box 1 rfl).aL _ rfl,?_⟩;refine(Xa p s1 l1 6 h8 hp (eb.up H8.ai) (by decide)).mono ?_;rintro _ cq ⟨q,M,rfl,hM,eh,bk⟩;obtain⟨rs,bk⟩:=bk.IU 0 rfl fun _=>rfl;have a6:Sp h cq [ig a pw da 0 Pow.new D (ck p E iI),aq w 24 [xl xt p.1,xl xt p.2.1,xl xt p.2.2],cu lT 9 nE q rs M]:=H8.comp bk;refine⟨q,rfl,?_⟩;have c1:rs.length=M.length:=(a6.dV 2 rfl).2.1;have fn:q.len=M.length:=by rw[(a6.dV 2 rfl).1.len,c1]
 refine aw (fun i:Nat=>(i:Int)) (fun i h'=>i<=M.length/\∃ds m C,tm m C ds i/\m.p=p/\m.extra=E/\m.drives=[0,1,2,3]/\Sp h h' [ig a pw da 0 Pow.new ds m,aq w 24 [xl xt p.1,xl xt p.2.1,xl xt p.2.2],cu lT 9 nE q rs M]) (fun i=>M.length-i) 0 rfl ⟨by omega,D,_,_,I0,rfl,rfl,a8,a6⟩ ?_;rintro i el ⟨hi,ds,m,C,I,L,U,G,O⟩;dsimp only;have ad:=I.inv.sto.may;have et:=I.inv.seq;have e3:=I.inv.nx;refine al (fun e=>?_) fun e=>?_
 ·have bl:i<M.length:=by omega
  have hF:=O.dV 2 rfl;have cn:i<rs.length:=by omega
  refine hF.1.dt i rfl cn rs[i] rfl ?_;refine O.alloc ae rfl fun b6 ej c9=>?_;refine c9.storeAll ae 3 rfl rfl (nE rs[i]) rfl rfl rfl rfl fun c4 J=>?_;have J:Sp h c4 [ig a pw da 0 Pow.new ds m,aq w 24 [xl xt p.1,xl xt p.2.1,xl xt p.2.2],cu lT 9 nE q rs M,aq b6 38 (nE rs[i])]:=J;have hb:=J.box 3 rfl;obtain⟨⟨k1,k2,_,_,_,_,kc⟩,kd,_,_⟩:=Fix.row (J.dV 2 rfl) bl;have P:tl p M[i]:=hM _ (qh bl);have next:∀{h':Heap} {ds':aT} {V:aG} {C':Int->aX},tm V C' ds' (i+1)->V.p=p->V.extra=E->V.drives=[0,1,2,3]->Sp h h' [ig a pw da 0 Pow.new ds' V,aq w 24 [xl xt p.1,xl xt p.2.1,xl xt p.2.2],cu lT 9 nE q rs M]->
    ∃t':Nat,qc xt ((i:Int)+1)=(t':Int)/\(t'<=M.length/\∃ds m C,tm m C ds t'/\m.p=p/\m.extra=E/\m.drives=[0,1,2,3]/\Sp h h' [ig a pw da 0 Pow.new ds m,aq w 24 [xl xt p.1,xl xt p.2.1,xl xt p.2.2],cu lT 9 nE q rs M])/\M.length-t'<M.length-i:=fun q1 q2 q3 q4 q5=>
   ⟨i+1,by rw[ak _];rfl,⟨by omega,_,_,_,q1,q2,q3,q4,q5⟩,by omega⟩
  refine⟨rs[i].1,hb.cell0 rfl,cI (fun e1=>?_) fun _=>next I.step L U G (J.bK [0,1,2])⟩;obtain⟨n1,n2⟩:=tl.put P (k1.symm.trans e1);have d2:p.1*p.2.2<=6*9:=wF X.1 X.2 (by omega) (by omega);refine⟨rs[i].2.1,hb.cell rfl,rs[i].2.2.1,hb.cell rfl,?_⟩;rw[k2];refine(adD (As:=[aq w 24 [xl xt p.1,xl xt p.2.1,xl xt p.2.2],cu lT 9 nE q rs M,aq b6 38 (nE rs[i])]) M[i].name rs[i].2.2.1 M[i].data (St.dU (A:=cu lT 9 nE q rs M) 1 rfl fun h' hq=>(Fix.row hq bl).2.1) kc (by have:=abI _ n1;omega) ad (by omega) J).mono ?_;rintro _ e9 ⟨rfl,F⟩;refine⟨_,rfl,?_⟩;by_cases ah:∃e∈m.objs,e.name=M[i].name
  ·rw[ZL ah (UM _ n1)]at F;exact next I.step L U G (F.bK [0,1,2])
  ·rcases I.put (b:=M[i].data) n1 (by rw[L];exact n2) (fun e W hh=>ah ⟨e,W,hh⟩) (by omega)with hq|⟨t,ds',hq,I'⟩
   ·rw[hq]at F;exact next I.step L U G (F.bK [0,1,2])
   ·rw[hq]at F;exact next I' L U G (F.bK [0,1,2])
 have cs:=JP I.inv;have x:∀{h':Heap} {Bs:List HP} {dz:List aO} {d:aT} {V:aG},bO V=true->aa (fun b=>b<h.size) h h' (ig a pw dz 0 Pow.new d V::Bs)->ac xx 11 #[xo (some a)] h' fun v h2=>∃r:Sl,v=r/\r.len=V.objs.length/\Sp h' h2 [ar 9 r 1 rI (V.objs.map Wl.bV.name)]:=fun d8 H'=>by
  refine(abO d8 H').mono ?_;rintro _ h2 ⟨r,rfl,R⟩;rw[ZM]at R;exact⟨r,rfl,by rw[(R.own 0 rfl).len,qu],R⟩
 have O:=O.bK [0,1];refine(x ad O).mono ?_;rintro _ e6 ⟨nr,rfl,ek,cm⟩;have d7:=(O.comp cm).My 35 1 bJ (gr 1 aE);refine⟨nr,rfl,?_⟩;refine aw (fun t:Sl×Nat=>(t.1,(t.2:Int))) (fun t h'=>t.2<=m.objs.length/\Sp h h' [ig a pw da 0 Pow.new ds m,aq w 24 [xl xt p.1,xl xt p.2.1,xl xt p.2.2],ar 9 nr 1 rI (m.objs.map Wl.bV.name),cx 35 t.1 1 bJ (gr 1 aE) ((m.objs.take t.2).map fun e=>C e.object)]) (fun t=>m.objs.length-t.2) (⟨none,0,0⟩,0) rfl ⟨by omega,d7⟩ ?_;rintro⟨o,k⟩ b1 ⟨P,f⟩;dsimp only at P f⊢;refine al (fun e=>?_) fun e=>?_
 ·have a3:k<m.objs.length:=by omega
  refine(f.seq 2 rfl fun _=>rfl).bx k rfl (by rw[qu];exact a3) (m.objs[k]).name (by rw[zS]) ?_;refine(UP (m.objs[k]).name ad f).mono ?_;rintro _ d1 ⟨g,rfl,b3⟩;rw[I.inv.get (qh a3)]at b3⊢;refine⟨(g,0),rfl,ca (fun e=>absurd rfl e) fun _=>?_⟩;refine(f.comp b3).CR ae 3 4 (by decide) rfl rfl fG rfl (by decide) (fun _=>rfl) lY rfl (by decide) (by simp;omega) fun o' d4 T=>?_;refine⟨(o',k+1),by rw[ak _];rfl,⟨by omega,?_⟩,by omega⟩;dsimp only;rw[List.take_succ_eq_append_getElem a3,List.map_append];exact T.bK [0,1,2,3]
 have d9:k=m.objs.length:=by omega
 subst d9;rw[List.take_length]at f;have dd:o.len=m.objs.length:=by rw[(f.aeg 3 rfl).1,qu]
 have f:Sp h b1 [ig a pw da 0 Pow.new ds m,aq w 24 [xl xt p.1,xl xt p.2.1,xl xt p.2.2],cx 35 o 1 bJ (gr 1 aE) (m.objs.map fun e=>C e.object)]:=f.bK [0,1,3];refine(bQ B 4 b1 (by decide) (by decide)).mono ?_;rintro _ d1 ⟨rfl,rfl⟩;obtain⟨g,hg⟩:∃g:Int,g=B%4:=⟨_,rfl⟩
 have ab:0<=g/\g<4:=by omega
 rw[<-hg];refine⟨_,rfl,?_⟩;obtain⟨others,ao⟩:∃others:aC,others=m.drives.filter fun k=>!decide (k=g):=⟨_,rfl⟩
 have Z:others.length=3/\others≠[]/\g∉others:=by
  rw[ao,G];rcases UQ ab.1 ab.2 with e|e|e|e<;>rw[e]<;>decide
 have ea:g∈m.drives:=by
  rw[G];rcases UQ ab.1 ab.2 with e|e|e|e<;>rw[e]<;>decide
 have ef:=I.ids;obtain⟨ds',er,S',F',L',O',ah⟩:=Xe (offs:=0) (R:=400) (c:=4) (n:=5) DI I.inv.sto I.inv.full I.inv.low I.once rfl ea ao Z.2.1 (by omega) I.four cs (fun k P=>by obtain⟨d,h1,_,h3⟩:=I.room k P;exact⟨d,h1,h3⟩) (by omega);obtain⟨N,hN⟩:∃N,N=mQ m others:=⟨_,rfl⟩
 rw[<-hN]at er S' F' L' O';have am:N.objs=m.objs:=by rw[hN];rfl
 have a4:N.p=p:=by rw[hN];exact L
 have c8:N.extra=E:=by rw[hN];exact U
 have bd:N.drives=others:=by rw[hN];rfl
 have I':Inv N C ds' (i+1):=⟨S',F',L',fun e W=>I.inv.nm e (by rw[am]at W;exact W),by rw[bd];exact Z.2.1,by rw[hN];show m.seq+1<=_;omega,by rw[hN];show m.next<=_;omega⟩
 have H:=S'.may;have d3:bc ds' N.drives=others:=by rw[F'.bc,bd]
 refine cl (fun _ h'=>∃S,Sp h h' [ig a pw S 0 Pow.new ds' N,aq w 24 [xl xt p.1,xl xt p.2.1,xl xt p.2.2],cx 35 o 1 bJ (gr 1 aE) (m.objs.map fun e=>C e.object)]) ?_ ?_
 ·refine(Me g ad f).mono ?_;rintro _ ep ⟨rfl,S,a9⟩;rw[er]at a9⊢;refine⟨0,rfl,ca (fun e=>absurd rfl e) fun _=>?_⟩;refine(abp H a9).mono ?_;rintro _ d4 ⟨lv,rfl,ax⟩;rw[d3]at ax;have du:=(ax.own 0 rfl).len;have T:=a9.up ax.ai;refine⟨lv,rfl,ca (fun e=>absurd (by rw[du,Z.1];rfl) e) fun _=>?_⟩;refine(YX g T).mono ?_;rintro _ ew ⟨rfl,rfl⟩;rw[YY ah T];refine⟨none,rfl,bw (fun e=>by cases e) fun _=>?_⟩;have e5:dE N 0 Pow.new ds' g=(5,N,Pow.new,ds'):=by
   unfold dE;rw[if_neg (by decide),if_pos (by rw[bd];exact Z.2.2)]
  refine(Me g H T).mono ?_;rintro _ eo ⟨rfl,c2,cc⟩;rw[e5]at cc⊢;exact⟨5,rfl,ca (fun e=>absurd rfl e) fun _=>⟨c2,cc⟩⟩
 rintro _ f0 ⟨S,b2⟩;refine(x H b2).mono ?_;rintro _ e8 ⟨bb,rfl,cd,c5⟩;have b4:=b2.comp c5;rw[am]at cd b4;refine⟨bb,rfl,?_⟩;refine aw (fun i:Nat=>(i:Int)) (fun i h'=>i<=m.objs.length/\Sp h h' [ig a pw S 0 Pow.new ds' N,aq w 24 [xl xt p.1,xl xt p.2.1,xl xt p.2.2],cx 35 o 1 bJ (gr 1 aE) (m.objs.map fun e=>C e.object),ar 9 bb 1 rI (m.objs.map Wl.bV.name)]) (fun i=>m.objs.length-i) 0 rfl ⟨by omega,b4⟩ ?_;rintro j e7 ⟨hj,Q⟩;dsimp only;refine al (fun e=>?_) fun e=>?_
 ·have a5:j<m.objs.length:=by omega
  have z:m.objs[j]∈N.objs:=by rw[am];exact qh a5
  refine(Q.seq 3 rfl fun _=>rfl).bx j rfl (by rw[qu];exact a5) (m.objs[j]).name (by rw[zS]) ?_;refine(UP (m.objs[j]).name H Q).mono ?_;rintro _ e4 ⟨gg,rfl,b9⟩;rw[I'.get z]at b9⊢;have b5:=Q.comp b9;refine⟨(gg,0),rfl,(abK (m.objs[j]).name H b5).mono ?_⟩;rintro _ fz ⟨t,rfl,c6⟩;have c7:=b5.up c6.ai;have b0:=I'.afE O' z;rw[a4,c8]at b0;rw[b0];obtain⟨K,hK⟩:∃K:Int,K=countP p (C (m.objs[j]).object).length:=⟨_,rfl⟩
  rw[<-hK];refine⟨((((C (m.objs[j]).object).length:Int),K,K*(p.1+E),t),0),rfl,c7.alloc ae rfl fun d5 fr cf=>?_⟩;refine cf.storeAll ae 5 rfl rfl (ng (((C (m.objs[j]).object).length:Int),K,K*(p.1+E)) t) rfl rfl rfl rfl fun bq y=>?_;have y:Sp h bq [ig a pw S 0 Pow.new ds' N,aq w 24 [xl xt p.1,xl xt p.2.1,xl xt p.2.2],cx 35 o 1 bJ (gr 1 aE) (m.objs.map fun e=>C e.object),ar 9 bb 1 rI (m.objs.map Wl.bV.name),EA (gr 1 aE) gg (C (m.objs[j]).object),aq d5 51 (ng (((C (m.objs[j]).object).length:Int),K,K*(p.1+E)) t)]:=y;refine ca (fun e=>absurd rfl e) fun _=>ca (fun e=>absurd rfl e) fun _=>?_;refine cF.oJ (y.eRd 2 rfl fun _=>rfl) j rfl (by rw[qu];exact a5) fun u hu=>?_;rw[zS]at hu;have d0:Rd bq gg 1 aE (C (m.objs[j]).object):=y.at 4 rfl;have dx:=(I'.sto.ents _ z).1;have br:=(gC N _).1 (I'.sto.entry z);have d2:p.1*p.2.2<=6*9:=wF X.1 X.2 (by omega) (by omega);have d6:=br.2.2.1;rw[a4]at d6;have dy:K<=8:=by rw[hK];exact mP (by omega)
  have cr:0<=K:=by
   have:=br.2.2.2.2;rw[a4,<-dx,<-hK]at this;omega
  refine(VO gg u _ _ bq d0 hu (by omega)).mono ?_;rintro _ fs ⟨rfl,rfl⟩;have b7:=y.box 5 rfl;refine⟨_,rfl,bw (fun e=>by simp at e) fun _=>⟨K*(p.1+E),b7.cell rfl,K,b7.cell rfl,p.1,(y.box 1 rfl).cell0 rfl,ca (fun e2=>absurd ?_ e2) fun _=>?_⟩⟩
  ·have ed:K*(p.1+E)<=8*12:=wF dy (by omega) (by omega) (by omega);have eg:0<=K*(p.1+E):=Int.mul_nonneg cr (by omega);rw[ak (p.1+E),ak _]
  ·exact⟨j+1,by rw[ak _];rfl,⟨by omega,y.bK [0,1,2,3]⟩,by omega⟩
 refine(x H Q).mono ?_;rintro _ dr ⟨cp,rfl,ap,dk⟩;rw[am]at ap;refine⟨cp,rfl,cI (fun _=>?_) fun e=>absurd (by rw[ap,dd]) e⟩;refine(Su dr).mono ?_;rintro _ en ⟨rfl,ch⟩;exact⟨true,rfl,rfl,.zip ((Q.up dk.ai).up ch.ai).ai⟩
theorem CG(s:Sl)(l:aC)(e:Sl)(l1:aC)(c:Int)(h:Heap)(f:Rd h s 1 aD l)(d:Rd h e 1 aD l1):
  ac xx 3 #[s,e,xl xt c] h fun v h'=>v=xq true/\aU (fun b=>b<h.size) h h':=
 (HW s l e l1 c h f d).mono fun _ _ ⟨a,b⟩=>⟨a,b.ai⟩
end
end Go.Qw
