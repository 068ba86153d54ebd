/- Lemmas for the proof of the law; no condition. -/
import Derived.Test.YtbhpnfilcomonaaGreatDoorKC
set_option linter.unusedVariables false
set_option linter.unusedSimpArgs false
open Go.Proofs.Tryz renaming prog -> xa
open Go.Value renaming bool -> vU, int -> vQ, pointer -> vS
open Go.IntKind renaming i64 -> vW
open List renaming getD_eq_getElem?_getD -> qf, take_of_length_le -> qi
open Int renaming toNat_natCast -> qq
set_option maxRecDepth 20000
namespace Go.Vc
open Go Wl Go.Qw
def nu(l:aD)(k:Nat):Int:=l.getD k 0
def gc(l:aD):Pm:=Bq (nu l 0) (nu l 1) (nu l 2)
def rg(l:aD):Nat:=(2+nu l 4%4).toNat
def BB(l:aD):aD:=(List.range (rg l)).map fun i=>8+nu l (5+i)%50
def Qq(l:aD):Int:=nu l 3%7
theorem WL(l:aD):2<=rg l/\rg l<=5:=by unfold rg;omega
theorem UJ(l:aD):(BB l).length=rg l:=by simp[BB]
end Go.Vc
namespace Go.Qw
open Go Go.Vc Go.Proofs Wl
section
variable {B:ap} {h0 h:Heap} {As:List HP} {a pw:Addr} {offs:Int} {da:List aM} {w:Pow} {ds:aS}
theorem nv(s:Sl)(l:aD)(k:Nat)(h:Heap)(b:Rd h s 1 aE l):ac xa 21 #[s,vQ vW k] h fun v c=>v=vQ vW (nu l k)/\c=h:=by
 refine so s k ?_;unfold mv nu;have d:=b.len;refine al (fun e=>?_) (fun e=>⟨?_,rfl⟩)
 ·have a:k<l.length:=by omega
  refine b.cK k rfl a (l.getD k 0) (by rw[getD_lt a];rfl) ⟨rfl,rfl⟩
 ·rw[qf,List.getElem?_eq_none (by omega)];rfl
theorem NE(s:Sl)(l:aD)(h:Heap)(q:Rd h s 1 aE l):ac xa 4 #[s] h fun v n=>∃r:Sl,v=.tuple #[kP (gc l),vQ vW (Qq l),r]/\Sp h n [aj 3 r 1 aE (BB l)]:=by
 refine oN s ?_;unfold kM;refine(Sp.refl h).alloc af rfl fun w H x=>?_;have a:=q.up x.ah;refine(nv s l 0 H a).mono ?_;rintro _ _ ⟨rfl,rfl⟩;refine⟨_,rfl,(nv s l 1 _ a).mono ?_⟩;rintro _ _ ⟨rfl,rfl⟩;refine⟨_,rfl,(nv s l 2 _ a).mono ?_⟩;rintro _ N ⟨rfl,rfl⟩;refine⟨_,rfl,(PP _ _ _ N).mono ?_⟩;rintro _ Q ⟨rfl,J⟩;have y:=x.up J.ah;refine⟨gc l,rfl,?_⟩;refine y.alloc af rfl fun d O I=>?_;refine I.storeAll af 1 rfl rfl [vQ vW (gc l).1,vQ vW (gc l).2.1,vQ vW (gc l).2.2] rfl rfl rfl rfl fun K k=>?_;have k:Sp h K [aj 3 ⟨none,0,0⟩ 1 aE ((BB l).take 0),ag d 24 [vQ vW (gc l).1,vQ vW (gc l).2.1,vQ vW (gc l).2.2],ag w 24 [vQ vW 0,vQ vW 0,vQ vW 0]]:=(k.nil 3 1 aE).ca [2,1,0];have R:=WL l;have D:=UJ l;refine az (fun t:Sl×Nat=>(t.1,(t.2:Int))) (fun t n=>t.2<=rg l/\Sp h n [aj 3 t.1 1 aE ((BB l).take t.2),ag d 24 [vQ vW (gc l).1,vQ vW (gc l).2.1,vQ vW (gc l).2.2],ag w 24 [vQ vW 0,vQ vW 0,vQ vW 0]]) (fun t=>rg l-t.2) (⟨none,0,0⟩,0) rfl ⟨by simp,k⟩ ?_;rintro⟨o,i⟩ h8 ⟨P,c⟩;dsimp only at*;have b:=q.up c.ah;refine(nv s l 4 h8 b).mono ?_;rintro _ _ ⟨rfl,rfl⟩;refine⟨_,rfl,(dT _ 4 _ (by decide) (by decide)).mono ?_⟩;rintro _ h8 ⟨rfl,rfl⟩;refine⟨_,rfl,?_⟩;have g:=c.box 1 rfl;dsimp only;rw[an (2+nu l 4%4)];have p:2+nu l 4%4=(rg l:Int):=by unfold rg;omega
 rw[p];refine al (fun e=>?_) (fun e=>?_)
 ·have G:i<rg l:=by omega
  rw[an ((5:Int)+i)];have L:(5:Int)+i=((5+i:Nat):Int):=by omega
  rw[L];refine(nv s l (5+i) h8 b).mono ?_;rintro _ _ ⟨rfl,rfl⟩;refine⟨_,rfl,(dT _ 50 _ (by decide) (by decide)).mono ?_⟩;rintro _ z ⟨rfl,rfl⟩;refine⟨_,rfl,?_⟩;dsimp only;rw[an (8+nu l (5+i)%50)];refine c.push af 0 rfl kS rfl (by decide) (fun _=>rfl) iU (8+nu l (5+i)%50) rfl (by decide) (by simp;omega) fun F B j=>?_;refine⟨(F,i+1),by dsimp only;rw[an _];rfl,⟨by dsimp only;omega,?_⟩,by dsimp only;omega⟩;dsimp only;rw[aK _ _ (show i<(BB l).length by omega)];have E:(BB l)[i]'(by omega)=8+nu l (5+i)%50:=by simp[BB]
  rw[E];exact j
 ·have m:i=rg l:=by omega
  subst m;rw[qi (by omega)]at c;have u:aB.ok [(d,(vQ vW (gc l).1)),(d.add 1,(vQ vW (gc l).2.1)),(d.add 2,(vQ vW (gc l).2.2))] h8:=⟨g.cell0 rfl,g.cell rfl,g.cell rfl,trivial⟩
  refine⟨gc l,g.aF _ rfl,(nv s l 3 h8 b).mono ?_⟩;rintro _ _ ⟨rfl,rfl⟩;refine⟨_,rfl,u,(dT _ 7 _ (by decide) (by decide)).mono ?_⟩;rintro _ M ⟨rfl,rfl⟩;refine⟨_,rfl,u,?_⟩;refine c.storeAll af 2 rfl rfl [vQ vW (gc l).1,vQ vW (gc l).2.1,vQ vW (gc l).2.2] rfl rfl rfl rfl fun A f=>⟨trivial,?_⟩
  exact⟨gc l,(f.box 2 rfl).aF _ rfl,o,rfl,f.ca [0]⟩
end
section
variable {B:ap} {h0 h:Heap} {As:List HP} {a pw:Addr} {offs:Int} {da:List aM} {w:Pow} {ds:aS} {m:ar}
theorem WM:gC pJ=true:=by decide+kernel
theorem WN{x y:Operand}(p:aM):fR xa .neq 34 x y (.pointer p) (.pointer p) (vU false):=by
 obtain⟨i,a⟩:=Option.isSome_iff_exists.1 (show(Tryz.prog.info? 70).isSome=true by kernel_rfl);exact TK (e:=70) (by kernel_rfl) a p
theorem IA(x:bn)(g:eS h x m)(n:cn m)(f:bZ h a 63 (bL (aq x) pw offs da)):
  ac xa 16 #[vS (some a)] h fun v i=>∃y:bn,v=cN y/\Sp h i [bt y m]:=by
 refine kj (some a) ?_;unfold iJ;refine(Sp.refl h).alloc af rfl fun p k c=>?_;have b:=f.ah c.ah f.lt;refine bq (fun e=>by cases e) (fun _=>⟨a,rfl,x,b.aF _ rfl,(oR x m k (g.up c.ah) n).mono ?_⟩);rintro _ o ⟨y,rfl,j⟩;have l:=c.comp j;refine⟨y,rfl,?_⟩;refine l.store af 0 rfl rfl 0 (aq y) rfl rfl rfl (by simp[Value.cells]) fun h3 d=>?_;exact⟨y,(d.box 0 rfl).aF _ rfl,y,rfl,d.ca [1]⟩
theorem Mp(h:Heap):ac xa 19 #[] h fun v a=>v=vU true/\Sp h a []:=by
 refine oP ?_;unfold kO;refine(HX h).mono ?_;rintro _ j ⟨pw,rfl,f⟩;have k:Sp h j [de bh pw [] [],bP 56 pw Pow.new]:=aa.tolA (aa.closeAll [] f) ⟨rfl,fun i=>rfl⟩;refine⟨_,rfl,(Iz (As:=[]) ⟨none,0,0⟩ (.base (Seq.nil _ _ _ _ _ _) fun a _=>Seq.nil _ _ _ _ _ _) (by decide) (by decide) (fun d c=>by cases c) (fun m l=>by cases l) k).mono ?_⟩;rintro _ b ⟨Q,_⟩;obtain⟨rfl,g⟩:=Q rfl;refine⟨(none,11),rfl,(Mm ⟨none,0,0⟩ b).mono ?_⟩;rintro _ _ ⟨rfl,rfl⟩;exact⟨(none,1),rfl,bq (fun _=>dN (fun _=>⟨rfl,.zip g.ah⟩) fun e=>absurd rfl e) fun e=>by cases e⟩
theorem Qr(H:aa B h0 h (gq a pw da offs w ds m::As)):ac xa 12 #[vS (some a)] h fun v d=>∃r:Sl,v=r/\Sp h d [aj 34 r 1 ft da]:=by
 refine ri (some a) ?_;unfold lP;obtain⟨x,H⟩:=jd H;obtain⟨ok,f⟩:=aa.db H;have g:=ok.la;refine az (fun t:Sl×Nat=>(t.1,(t.2:Int))) (fun t d=>t.2<=64/\Sp h d [aj 34 t.1 1 ft (da.take t.2)]) (fun t=>64-t.2) (⟨none,0,0⟩,0) rfl ⟨Nat.zero_le _,(Sp.refl h).nil 34 1 ft⟩ ?_;rintro⟨s,i⟩ p ⟨n,c⟩;dsimp only at n c⊢;refine al (fun e=>?_) fun e=>?_
 ·have b:i<da.length:=by omega
  refine(lj (i:Int) ok (f.ah c.ah f.lt)).mono ?_;rintro _ _ ⟨rfl,rfl⟩;have l:gH da (i:Int)=da[i]:=by unfold gH;rw[if_pos (by omega),qq,List.getElem?_eq_getElem b];rfl
  rw[l];refine⟨_,rfl,c.push af 0 rfl UG rfl (by decide) (fun _=>rfl) Of da[i] rfl (by decide) (by simp;omega) fun j o k=>?_⟩;refine⟨(j,i+1),by dsimp only;rw[an _];rfl,⟨by dsimp only;omega,?_⟩,by dsimp only;omega⟩;dsimp only;rw[aK _ _ b];exact k
 ·have b:i=64:=by omega
  rw[b,qi (by omega)]at c;exact⟨s,rfl,c⟩
theorem Ge(s:Sl)(l:aD)(n x w:Int)(h:Heap)(hs:Rd h s 1 aE l):
  ac xa 3 #[s,vQ vW n,vQ vW x,vQ vW w] h fun v L=>v=vU true/\Sp h L []:=by
 refine mu s n x w ?_;unfold iY;refine(NE s l h hs).mono ?_;rintro _ h1 ⟨r,rfl,R1⟩;refine⟨(gc l,Qq l,r),rfl,R1.alloc af rfl fun a2 h2 H2=>?_⟩;refine H2.storeAll af 1 rfl rfl [vQ vW (gc l).1,vQ vW (gc l).2.1,vQ vW (gc l).2.2] rfl rfl rfl rfl fun h3 H3=>?_;obtain⟨p,B⟩:∃p,p=gc l:=⟨_,rfl⟩
 obtain⟨E,hE⟩:∃E,E=Qq l:=⟨_,rfl⟩
 have hp:bV p=true:=by rw[B];unfold gc;rw[cb];unfold Bq;dsimp only;omega
 have a6:p.1<=6/\p.2.2<=9:=by rw[B];unfold gc Bq;dsimp only;omega
 have dx:=(cb p).1 hp;have c4:0<=E/\E<=6:=by rw[hE];unfold Qq;omega
 rw[<-B,<-hE];rw[<-B]at H3;have H3:Sp h h3 [ag a2 24 [vQ vW p.1,vQ vW p.2.1,vQ vW p.2.2]]:=H3.ca [1];have e0:re p E [90,90,90]=0:=SU hp (by omega) 3 90 (by omega) (by omega);have a9:0<p.1*p.2.2:=Int.mul_pos (by omega) (by omega);have d2:p.1*p.2.2<=6*9:=Int.mul_le_mul a6.1 a6.2 (by omega) (by omega);refine(HX h3).mono ?_;rintro _ h4 ⟨pw,rfl,R4⟩;have H4:=H3.cM R4;refine⟨_,rfl,p,(H4.box 1 rfl).aF _ rfl,H4.lit af aE kS rfl [90,90,90] rfl (show 3*1<=2^20 by decide) rfl fun v5 h5 H5=>?_⟩;refine(Ql p E v5 [90,90,90] (As:=[ag a2 24 [vQ vW p.1,vQ vW p.2.1,vQ vW p.2.2],aj 3 v5 1 aE [90,90,90]]) (St.iv 1 rfl fun L K=>K.1.seq (fun _=>rfl) K.2) (by decide) e0 rfl H5).mono ?_;rintro _ h6 ⟨a,da,D,rfl,f2,f3,H6⟩;have F:=UH (c:=3) (x:=90) hp (by omega) (by omega) (by omega) f2 f3;obtain⟨m,hm⟩:∃m,m=cu p E (List.replicate 3 90):=⟨_,rfl⟩
 rw[<-hm]at F;have H6:Sp h h6 [gq a pw da 0 Pow.new D m,ag a2 24 [vQ vW p.1,vQ vW p.2.1,vQ vW p.2.2]]:=by rw[hm];exact H6.ca [0,1]
 refine⟨(some a,0),rfl,aU (ci (fun e=>absurd rfl e) fun _=>bq (fun e=>by cases e) fun _=>?_)⟩;refine(dT w 3 h6 (by decide) (by decide)).mono ?_;rintro _ h6 ⟨rfl,rfl⟩;obtain⟨k,hk⟩:∃k:Nat,(k:Int)=w%3:=⟨(w%3).toNat,by omega⟩
 have a8:k<3:=by omega
 rw[<-hk];refine⟨_,rfl,(BA (k:Int) H6).mono ?_⟩;rintro _ h6 ⟨rfl,rfl⟩;have a7:bs D (k:Int)=some ⟨90,aP m,0,[],false,false⟩:=by
  rw[F.at_,if_pos (by rw[F.dr];exact List.mem_map.2 ⟨k,List.mem_range.2 a8,rfl⟩)];rfl
 obtain⟨bw,z⟩:=WJ a7 H6;rw[z];obtain⟨xm,bl⟩:=jd H6;have c5:D[k]?=some (some ⟨90,aP m,0,[],false,false⟩):=by
  have:=a7;unfold bs at this;rw[if_pos (by omega),qq]at this;cases hX:D[k]? with
  |none=>rw[hX]at this;cases this
  |some o=>rw[hX]at this;exact congrArg some this
 obtain⟨b',c6,c2⟩:=Go.Vc.aa.kq bl c5;have cp:b'=bw:=by
  unfold gH at z;rw[if_pos (by omega),qq,c6]at z;injection z
 subst cp;refine⟨_,rfl,(NB c2 pw).mono ?_⟩;rintro _ h7 ⟨old,rfl,R7⟩;have H7:Sp h h7 [fq pw old ⟨90,aP m,0,[],false,false⟩,gq a pw da 0 Pow.new D m,ag a2 24 [vQ vW p.1,vQ vW p.2.1,vQ vW p.2.2]]:=H6.cM R7;refine⟨_,rfl,p.1,(H7.box 2 rfl).cell0 rfl,p.2.2,(H7.box 2 rfl).cell rfl,?_⟩;rw[an (p.1*p.2.2),an (p.1*p.2.2+1)];refine(dT n (p.1*p.2.2+1) h7 (by omega) (by omega)).mono ?_;rintro _ h7 ⟨rfl,rfl⟩;have dw:=Int.emod_nonneg n (show p.1*p.2.2+1≠0 by omega);have d5:=Int.emod_lt_of_pos n (show 0<p.1*p.2.2+1 by omega);obtain⟨N,hN⟩:∃N:Nat,(N:Int)=n%(p.1*p.2.2+1):=⟨(n%(p.1*p.2.2+1)).toNat,by omega⟩
 refine⟨_,rfl,?_⟩;dsimp only;rw[<-hN];refine(PG N x h7 (by omega)).mono ?_;rintro _ h8 ⟨sb,b,rfl,d1,R8⟩;have H8:Sp h h8 [gq a pw da 0 Pow.new D m,aj 5 sb 1 aw b,fq pw old ⟨90,aP m,0,[],false,false⟩]:=(H7.cM R8).ca [2,0,1];refine⟨sb,rfl,(WI pJ sb b (As:=[aj 5 sb 1 aw b,fq pw old ⟨90,aP m,0,[],false,false⟩]) (St.iv 0 rfl fun L K=>K.1.seq (fun _=>rfl) K.2) (H8.own 1 rfl).cap (by decide) F.may (by omega) H8).mono ?_⟩;obtain⟨b2,b9,C,S,y,J,i,ad,ay⟩:=ND F c4 (by omega) a9 WM (b:=b) (by omega);rintro _ h9 ⟨rfl,Q⟩;rw[b9]at Q;obtain⟨f,ax⟩:∃f,f=(cZ m 0 Pow.new D pJ b).2.1:=⟨_,rfl⟩
 obtain⟨D2,a3⟩:∃D2,D2=(cZ m 0 Pow.new D pJ b).2.2.2:=⟨_,rfl⟩
 rw[<-ax,<-a3]at S J Q;rw[<-ax]at y ad ay;rw[<-a3]at i;have Q:Sp h h9 [gq a pw da 0 Pow.new D2 f,fq pw old ⟨90,aP m,0,[],false,false⟩]:=Q.ca [0,2];have c9:=S.len;have I:=nr S.may;obtain⟨o1,o2,o3⟩:=Qp S y a8 J i ad ay;obtain⟨D',o4,o5,o6,o7,dk,o8,o9⟩:=o3;refine⟨_,rfl,cv (fun _ L=>L=h9) (bq (fun e=>by cases e) fun _=>?_) ?_⟩
 ·rcases b2 with e|e
  ·rw[e];exact ci (fun h=>absurd rfl h) fun _=>rfl
  ·rw[e];exact ci (fun _=>ci (fun h=>absurd rfl h) fun _=>rfl) fun h=>absurd h (by decide)
 rintro _ d0 rfl;refine(Qr Q).mono ?_;rintro _ d4 ⟨X,rfl,bb⟩;have b3:=Q.cM bb;have dd:da.length=64:=by
  obtain⟨_,q⟩:=jd Q;exact(aa.db q).1.la
 refine⟨X,rfl,?_⟩;refine b3.set af 0 rfl (fun _=>rfl) rfl k rfl (by omega) (some old) rfl rfl rfl fun am R=>?_;have R:Sp h am [aj 34 X 1 ft (da.set k (some old)),gq a pw da 0 Pow.new D2 f,fq pw old ⟨90,aP m,0,[],false,false⟩]:=R;refine(Fv 5 pw am).mono ?_;rintro _ dl ⟨c0,_⟩;obtain⟨d,rfl,c1⟩:=c0 (by decide);have b7:=R.comp c1;refine⟨_,rfl,?_⟩;refine b7.set af 0 rfl (fun _=>rfl) rfl 9 rfl (by simp;omega) (some d) rfl rfl rfl fun V T=>?_;have T:Sp h V [aj 34 X 1 ft ((da.set k (some old)).set 9 (some d)),gq a pw da 0 Pow.new D2 f,fq pw old ⟨90,aP m,0,[],false,false⟩,fq pw d (bf.new (5:Int).toNat)]:=T;obtain⟨xs,b0⟩:=jd (T.bj 2 [1,0]);obtain⟨c8,b5⟩:=aa.SO b0;have cs:Sp h V [de bh pw da D2,fq pw old ⟨90,aP m,0,[],false,false⟩,bP 56 pw Pow.new,ag a 63 (bL (aq xs) pw 0 da),bt xs f,aj 34 X 1 ft ((da.set k (some old)).set 9 (some d)),fq pw d (bf.new (5:Int).toNat)]:=b5.ca [0,5,1,2,3,4,6];have b4:=(aa.VC (n:=k) (by omega) cs).ca [0,5,1,2,3,4];have H:=aa.VC (n:=9) (by simp;omega) b4;have H:Sp h V [de bh pw ((da.set k (some old)).set 9 (some d)) ((D2.set k (some ⟨90,aP m,0,[],false,false⟩)).set 9 (some (bf.new 5))),bP 56 pw Pow.new,ag a 63 (bL (aq xs) pw 0 da),bt xs f,aj 34 X 1 ft ((da.set k (some old)).set 9 (some d))]:=H;have a0:=(H.own 4 rfl).cap;refine(Iz (As:=[ag a 63 (bL (aq xs) pw 0 da),bt xs f,aj 34 X 1 ft ((da.set k (some old)).set 9 (some d))]) X (St.iv 2 rfl fun L K=>K.1.seq (fun _=>rfl) K.2) (by simp;omega) a0 o1 (fun mm A=>by rw[o2]at A;injection A with A;rw[<-A];exact S.may) H).mono ?_;rintro _ bd ⟨_,G⟩;obtain⟨_,G⟩:=G f o2;rw[o4]at G;obtain⟨a',rfl,u⟩:=G rfl;have u:Sp h bd [gq a' pw (dm (ic f) ((da.set k (some old)).set 9 (some d))) 0 Pow.new (dm (ic f) D') f,ag a 63 (bL (aq xs) pw 0 da),bt xs f]:=u.ca [0,1,2];obtain⟨g,O⟩:∃g,g=dm (ic f) ((da.set k (some old)).set 9 (some d)):=⟨_,rfl⟩
 obtain⟨j,M⟩:∃j,j=dm (ic f) D':=⟨_,rfl⟩
 have a4:gH g (k:Int)=some old:=by
  unfold gH;rw[if_pos (by omega),qq,O,lY _ _ _];have:ic f k=true:=by
   unfold ic;rw[y];exact decide_eq_true (by simp;omega)
  rw[this,qf,List.getElem?_set_ne (by omega),List.getElem?_set_self (by omega)];rfl
 rw[<-O,<-M]at u;rw[<-M]at o6 o7 o8;refine⟨(some a',0),rfl,cv (fun _ L=>Sp h L [gq a' pw g 0 Pow.new j f]) ?_ ?_⟩
 ·refine ci (fun e=>absurd rfl e) fun _=>bq (fun e=>by cases e) fun _=>(UF S.may u).mono ?_;rintro _ d3 ⟨y1,rfl,cd⟩;have P:=u.comp cd;refine⟨y1,rfl,(IA xs (P.at 2 rfl) I (P.box 1 rfl)).mono ?_⟩;rintro _ a5 ⟨y2,rfl,br⟩;have Z:Sp h a5 [gq a' pw g 0 Pow.new j f,ag a 63 (bL (aq xs) pw 0 da),bt xs f,bt y1 f,bt y2 f]:=P.comp br;refine⟨y2,rfl,(Hl y1 y2 f a5 (Z.at 3 rfl) (Z.at 4 rfl) I).mono ?_⟩;rintro _ U ⟨rfl,c7⟩;have t:Sp h U [gq a' pw g 0 Pow.new j f,ag a 63 (bL (aq xs) pw 0 da),bt xs f]:=(Z.up c7.ah).ca [0,1,2];refine⟨true,rfl,aW (fun e=>by cases e) fun _=>(BA 9 t).mono ?_⟩;rintro _ U ⟨rfl,rfl⟩;rw[SQ o7 t];refine⟨none,rfl,aW (fun e=>by cases e) fun _=>(BA (k:Int) t).mono ?_⟩;rintro _ U ⟨rfl,rfl⟩;rw[a4];refine⟨some old,rfl,false,WN _,bq (fun e=>by cases e) fun _=>?_⟩;refine(IA xs (t.at 2 rfl) I (t.box 1 rfl)).mono ?_;rintro _ ch ⟨y3,rfl,b1⟩;have W:Sp h ch [gq a' pw g 0 Pow.new j f,ag a 63 (bL (aq xs) pw 0 da),bt xs f,bt y3 f]:=t.comp b1;refine⟨y3,rfl,(SR y3 f o8 a4 (W.at 3 rfl) I W).mono ?_⟩;rintro _ ds ⟨rfl,b6⟩;exact⟨_,rfl,aW (fun e=>by rw[o9]at e;cases e) fun _=>(W.up b6.ah).ca [0]⟩
 ·rintro _ dy a1;refine(UE S.may a1).mono ?_;rintro _ cc ⟨lr,rfl,Y⟩;rw[o6,y]at Y;have bk:lr.len=3:=(Y.own 0 rfl).len;refine⟨lr,rfl,dN (fun _=>(Mp cc).mono ?_) fun e=>absurd ?_ e⟩
  ·rintro _ dj ⟨rfl,cf⟩;exact⟨true,rfl,rfl,.zip ((a1.comp Y).up cf.ah).ah⟩
  ·rw[bk];rfl
theorem xK(s:Sl)(l:aD)(n x c:Int)(h:Heap)(e:Rd h s 1 aE l):
  ac xa 3 #[s,vQ vW n,vQ vW x,vQ vW c] h fun v d=>v=vU true/\aG (fun b=>b<h.size) h d:=
 (Ge s l n x c h e).mono fun _ _ ⟨a,b⟩=>⟨a,b.ah⟩
end
end Go.Qw
