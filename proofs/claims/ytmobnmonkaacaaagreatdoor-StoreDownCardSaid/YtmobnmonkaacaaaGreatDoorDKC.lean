/- Lemmas for the proof of the law; no condition. -/
import Derived.Test.YtmobnmonkaacaaaGreatDoorDKB
import Derived.Test.YtmobnmonkaacaaaGreatDoorDPlB
set_option maxHeartbeats 2000000
set_option linter.unusedVariables false
set_option maxHeartbeats 4000000
set_option linter.unusedSimpArgs false
open Go.Proofs.Tryz renaming prog -> xT
open Bool renaming and_eq_false_iff -> vf
open Go.Value renaming agg -> xO, bool -> xN, int -> xJ, pointer -> xL, slice -> xK, string -> xM
open Go.IntKind renaming bits -> qq, i64 -> xP, u32 -> xR, u8 -> xQ, wrap -> qd
open Go.Instr renaming makeSlice -> zB, storeAt -> qG
open List renaming getElem_append_right -> yF, pairwise_singleton -> vN, replicate -> qf, zipWith -> zj
open Nat renaming le_of_ble_eq_true -> zF
open Int renaming fdiv -> zp
open Prod renaming fst -> qC
open BitVec renaming ofInt -> qF
open Option renaming some -> z8
set_option maxRecDepth 100000
open Option renaming some -> dB, none -> eH
open Bool renaming true -> eL, false -> eR
open Go renaming Addr -> fY
open Go.Qw renaming cellOf -> hU, Heap -> hY
open List renaming length -> m8
open Go.Qw.bU renaming two -> E5, n -> E6, inn -> E7, loop -> E8, join -> E9, tn -> F8, lp -> F9, jn -> G0
namespace Go.Qw
open Go.Proofs
def iX(p:Pm)(a:Int)(l:aC):Int:=
 if(dN l).2&&(bH p&&dQ a 0 16)then
  if(bg l l.length).any λi=>decide (l.getD i.toNat 0<((bG (cw p a l)).length:Int))then 7 else 0
 else 1
theorem ta(p:Pm)(a:Int)(w:Pow)(l:aC):dc p a w l=if iX p a l=0 then layAll (bi (cw p a l) (bg l l.length)) w (fO l (bg l l.length).length)else(iX p a l,w,[]):=by
 unfold dc iX;by_cases h:((dN l).2&&(bH p&&dQ a 0 16))=eL
 .rw[hZ h,hZ h];by_cases b:((bg l l.length).any λi=>decide (l.getD i.toNat 0<((bG (cw p a l)).length:Int)))=eL
  .rw[hZ b,hZ b];rfl
  .rw[k4 b,k4 b];rfl
 .rw[k4 h,k4 h];rfl
theorem BP{p:Pm}{a:Int}{l:aC}(h:iX p a l=0):bH p=eL/\0<=a/\a<=16/\(dN l).2=eL/\((bg l l.length).any λi=>decide (l.getD i.toNat 0<((bG (cw p a l)).length:Int)))=eR:=by
 unfold iX at h;by_cases b:((dN l).2&&(bH p&&dQ a 0 16))=eL
 .rw[hZ b]at h;by_cases c:((bg l l.length).any λi=>decide (l.getD i.toNat 0<((bG (cw p a l)).length:Int)))=eL
  .rw[hZ c]at h;cases h
  .unfold dQ at b;simp only[qz,decide_eq_true_eq]at b;exact⟨b.2.1,b.2.2.1,b.2.2.2,b.1,by simpa using c⟩
 .rw[k4 b]at h;cases h
abbrev rF:bc:=(0,0,0,0,0,0,⟨eH,0,0⟩,⟨eH,0,0⟩)
theorem HN(p:Pm)(a:Int)(s:Sl)(l:aC)(h:hY)(T:Rd h s 1 av l)(hl:m8 l<=2^20):
  aj xT 109 #[gx p,xJ xP a,s] h λv h'=>∃y:bc,v=.tuple #[cC y,xJ xP (iX p a l)]/\(iX p a l≠0->Sp h h' [])/\(iX p a l=0->Sp h h' [bo y (cw p a l)]):=by
 refine ts Tryz.func109 ?_ (F8 (G0 [] [(7,8),(13,30)] (F8 (E5 (F8 (E7 (E8 [(35,aI)] [(7,8),(9,11),(35,56)] (F8 (F8 (E5 (E7 (F8 (G0 [] [(7,8),(40,47)] E6))) E6)))))) (F8 (F9 [(64,aI)] [(7,8),(12,13),(64,78)])))))) (args:=[p,(a:Int),s]);have ao:=T.len;refine(Sp.refl h).boxed λa1 h1 H1=>?_;refine H1.alloc ag m9 λD h2 Q=>?_;have Q:Sp h h2 [an a1 24 [xJ xP p.1,xJ xP p.2.1,xJ xP p.2.2],an D 27 (aD rF)]:=Q;have f:∀(e:Int) {h':hY} {Bs:List HP},Sp h h' (an D 27 (aD rF)::Bs)->iX p a l=e->e≠0->
   au xT (qG 27 (xL (dB D)) (cC rF)) h' λ_ I=>∃O:bc,bp I D 0 (aD O)/\∃y:bc,Value.tuple #[cC O,xJ xP e]=.tuple #[cC y,xJ xP (iX p a l)]/\(iX p a l≠0->Sp h I [])/\(iX p a l=0->Sp h I [bo y (cw p a l)]):=λe {h' Bs} H' he h0=>by
  refine H'.storeAll ag 0 m9 m9 (aD rF) m9 m9 m9 m9 λI R=>?_;exact⟨rF,(R.box 0 m9).aw _ m9,rF,by rw[he],λ_=>.zip R.ac,λB=>absurd (he.symm.trans B) h0⟩
 have A:((dN l).2&&(bH p&&dQ a 0 16))=eR->iX p a l=1:=λB=>by unfold iX;rw[B];rfl
 refine aE ⟨p,(Q.box 0 m9).aw _ m9,(dV p h2).G7 λh3 R3=>?_⟩;have G:Sp h h3 [an D 27 (aD rF),an a1 24 [xJ xP p.1,xJ xP p.2.1,xJ xP p.2.2]]:=(Q.up R3.ac).bs [1,0];refine⟨_,m9,aH (λb=>f 1 G (A (by rw[b];simp)) nq) λb1=>ae (λb=>f 1 G (A pb) nq) λb2=>ae (λb=>f 1 G (A pb) nq) λb3=>ae (λb=>f 1 G (A ?_) nq) λb4=>?_⟩
 .have:(dN l).2=eR:=by
   unfold dN;by_cases B:l.all (dQ · 0 512)=eL
   .rw[hZ B];simp;omega
   .rw[k4 B]
  rw[this];rfl
 have r:m8 l<=64:=nb
 refine⟨p,(G.box 1 m9).aw _ m9,?_⟩;refine G.alloc ag m9 λz I R=>?_;refine R.storeAll ag 2 m9 m9 (aD (1,0,p.1,p.2.1,p.2.2,a,⟨eH,0,0⟩,⟨eH,0,0⟩)) m9 m9 m9 m9 λh5 U=>?_;have U:Sp h h5 [an D 27 (aD rF),an z 27 (aD (1,0,p.1,p.2.1,p.2.2,a,⟨eH,0,0⟩,⟨eH,0,0⟩)),ai 3 ⟨eH,0,0⟩ 1 av (bg l 0)]:=(U.nil 3 1 av).bs [0,2,3];refine ak (λt:Sl×Nat=>(t.2:Int)) (λt h'=>t.2<=m8 l/\(l.take t.2).all (dQ · 0 512)=eL/\Sp h h' [an D 27 (aD rF),an z 27 (aD (1,0,p.1,p.2.1,p.2.2,a,t.1,⟨eH,0,0⟩)),ai 3 t.1 1 av (bg l t.2)]) (λt=>m8 l-t.2) (⟨eH,0,0⟩,0) m9 ⟨n4,n4,U⟩ ?_;rintro⟨o,i⟩ h6 ⟨hi,d,g⟩;dsimp only at*;have E:∀(c:i<m8 l),dQ l[i] 0 512=eR->iX p a l=1:=λc hb=>A (by
  have:(dN l).2=eR:=by unfold dN;rw[k4];intro hc;have:=qQ.1 hc _ (qe c);rw[hb]at this;cases this
  rw[this];rfl)
 refine ae (λe=>?_) (λe=>?_)
 .have c:i<m8 l:=nb
  have am:=lJ l i;refine(Seq.up T g.ac).aW i m9 c l[i] m9 ?_;refine aE (ae (λA=>f 1 g (E c pb) nq) λA=>ae (λe2=>f 1 g (E c pb) nq) λe2=>?_);have k:(l.take (i+1)).all (dQ · 0 512)=eL:=by rw[aA l i c,wx,d,z7,yB,vw,xo];unfold dQ;simp;omega
  refine ae (λe3=>?_) (λe3=>?_)
  .refine⟨o,(g.box 1 m9).cell m9,?_⟩;refine g.push ag 2 m9 ge m9 nq (λ_=>rfl) dt (i:Int) m9 nq nb λo' h7 w=>?_;refine w.storeAt ag 1 m9 m9 m9 m9 m9 (by simp[aD]) λh8 S=>?_;refine⟨(o',i+1),n3,⟨n1,k,?_⟩,n1⟩
   try dsimp only
   rw[nT l i c,hZ nb];exact S
  .refine⟨(o,i+1),n3,⟨n1,k,?_⟩,n1⟩
   try dsimp only
   rw[nT l i c,k4 nb,qL];exact g
 .have Y:i=m8 l:=nb
  subst Y;rw[qt]at d;have V:=(g.own 2 m9).len;have hp:dN l=(bg l l.length,decide (m8 l<=64)&&decide (0<(bg l l.length).length)):=by unfold dN;rw[hZ d]
  refine⟨o,(g.box 1 m9).cell m9,aZ (λb=>f 1 g (A ?_) nq) λb=>?_⟩
  .rw[hp]
   try dsimp only
   rw[m5 (show¬0<(bg l l.length).length by omega),Bool.and_false];rfl
  have K:((dN l).2&&(bH p&&dQ a 0 16))=eL:=by rw[hp,b1,ln r,ln (show 0<(bg l l.length).length by omega)];unfold dQ;simp;omega
  obtain⟨m,H⟩:=HF (cw p a l)
  obtain⟨P,F⟩:=HF (bg l l.length)
  have hz:bM m:=H▸sY p a l r;have ah:m8 P<=64:=by rw[F];exact qX (lJ _ _) r
  obtain⟨x,Z⟩:∃x:bc,x=(1,0,p.1,p.2.1,p.2.2,a,o,⟨eH,0,0⟩):=⟨_,rfl⟩
  rw[<-Z,<-F]at g;rw[<-F]at V;have N:∀{h':hY} {q:ar},Seq h' q o 1 av P->o.len<=o.cap->lm h' q x m:=λ{h' q} J hc=>by
   subst Z;subst H;exact⟨m9,m9,m9,m9,by show Seq _ _ o 1 av (bg l l.length);rw[<-F];exact J,ce.nil _ _ _ _,hc,qj _⟩
  have X:hU h6 (z.add 6)=dB (xK o.ptr o.len o.cap):=by have:=(g.box 1 m9).cell (j:=6) (v:=xK o.ptr o.len o.cap) (by rw[Z];rfl);exact this
  refine⟨o,X,?_⟩;refine ak (λi:Nat=>(i:Int)) (λi h'=>i<=m8 P/\((P.take i).any λi=>decide (l.getD i.toNat 0<((bG m).length:Int)))=eR/\Sp h h' [an D 27 (aD rF),an z 27 (aD x),ai 3 o 1 av P]) (λi=>m8 P-i) 0 m9 ⟨nb,n4,g⟩ ?_;rintro i h7 ⟨hi,d,w⟩;dsimp only at*;refine ae (λe5=>?_) (λe5=>?_)
  .have c:i<m8 P:=nb
   obtain⟨n,hn,en,ab⟩:∃n:Nat,n<m8 l/\P[i]=(n:Int)/\0<l.getD n 0:=by subst F;exact An l l.length i c
   refine(w.seq 2 m9 λ_=>rfl).aW i m9 c (n:Int) (by rw[en];rfl) ?_;refine(Seq.up T w.ac).nO n m9 hn (l.getD n 0) (by rw[getD_lt hn];rfl) λad L=>?_;refine⟨x,(w.box 1 m9).aw _ m9,(mz x m h7 (N (w.seq 2 m9 λ_=>rfl) (w.own 2 m9).cap) hz).Hf λu h9 R9=>?_⟩;have M:=w.bS R9;have al:=(aa.lC M).1;refine⟨u,m9,gP R9.ac ⟨L,I0⟩,?_⟩;refine ae (λe6=>f 7 M.oQ ?_ nq) (λe6=>?_)
   .unfold iX;rw[hZ K,<-F,<-H,hZ (List.any_eq_true.2 ⟨P[i],qe c,by rw[en,qi];exact ln nb⟩)]
   .refine⟨i+1,n7,⟨nb,?_,M.oQ⟩,nb⟩;rw[aA _ _ c,ye,d,Bool.false_or,List.any_cons,List.any_nil,Bool.or_false,en,qi];exact m5 nb
  .have W:i=m8 P:=nb
   subst W;rw[qt]at d;refine⟨x,(w.box 1 m9).aw _ m9,?_⟩;refine w.storeAll ag 0 m9 m9 (aD x) m9 m9 m9 m9 λh8 S=>?_;have h0:iX p a l=0:=by unfold iX;rw[hZ K,<-F,<-H,d];rfl
   refine⟨x,(S.box 0 m9).aw _ m9,x,by rw[h0],λB=>absurd h0 B,λ_=>?_⟩;rw[<-H];have M:Sp h h8 [ai 3 o 1 av P]:=S.bs [2];exact M.dY 0 m9 λq J=>N (J.1.seq (λ_=>rfl) J.2) J.1.cap
def jt(m:aB)(l:dT):Bool:=bF m&&(bG m).all λp=>decide (p∈l)
theorem VX(a:fY)(e:Sl)(p:aT)(l:Sl)(ll:Cells)(h:hY)(s:bQ h a 41 [e])(n:Rd h e 1 aq p)(k:eF h l 1 aq ll)(u:m8 ll<=2^30):
  aj xT 218 #[l,.func (.func 219) #[] #[xL (dB a)]] h λv h'=>v=xN (decide (p∈ll))/\h'=h:=by
 refine ts Tryz.func218 ?_ (args:=[l,(.func (.func 219) #[] #[xL (dB a)])]);refine(nI l (219,#[],#[xL (dB a)]) (R:=λv h'=>(∃i:Int,v=xJ xP i/\(decide (i>=0)=decide (p∈ll)))/\h'=h) ?_).mono ?_
 .skip
  have o:=k.len;refine ak (λi:Nat=>(i:Int)) (λi h'=>i<=m8 ll/\p∉ll.take i/\h'=h) (λi=>m8 ll-i) 0 m9 ⟨nb,n4,m9⟩ ?_;rintro i f ⟨m,c,rfl⟩;refine ae (λj=>?_) (λj=>?_)
  .have b:i<m8 ll:=by have q:(i:Int)<(l.len:Int):=j;omega
   refine k.get i m9 b λr t=>fF pa ?_;refine(FY r a (R:=λv h'=>v=xN (decide (ll[i]=p))/\h'=f) ?_).mono ?_
   .skip
    refine⟨e,s.cell0 m9,(ur r e ll[i] p f t n).G6 ?_⟩;exact⟨_,m9,m9,m9⟩
   .rintro _ _ ⟨rfl,rfl⟩;refine⟨_,m9,ae (λg=>⟨⟨i,m9,?_⟩,m9⟩) λg=>?_⟩
    .rw[ln (show(i:Int)>=0 by omega),ln (by rw[<-g];exact qe b)]
    .refine⟨i+1,n7,⟨nb,λd=>?_,m9⟩,nb⟩;rw[aA _ _ b]at d;rcases qw.1 d with d|d
     .exact c d
     .exact g (qB.1 d).symm
  .have q:¬(i:Int)<(l.len:Int):=j;rw[qh nb]at c;exact⟨⟨-1,m9,by rw[m5 c];rfl⟩,m9⟩
 .rintro _ f ⟨⟨i,rfl,m⟩,rfl⟩;exact⟨i,m9,by rw[m],m9⟩
theorem Tg(a pw:fY)(d:bu)(s b:Sl)(x:bc)(m:aB)(h:hY)(L:bQ h a 172 (ft pw d s b))(O:eF h s 1 aq d.l)(ok:ff d)(J:cv h x m)(z:bM m):
  aj xT 159 #[xL (dB a),cC x] h λv h'=>v=xN (jt m d.l)/\Sp h h' []:=by
 refine ts Tryz.func159 ?_ (F8 (F8 (F8 (F9 [(16,aI)] [(4,5),(7,8),(16,25)])))) (args:=[(dB a),x]);have K:=ok.len;have H:=ok.room;refine(Sp.refl h).boxed λZ S B=>?_;refine⟨x,(B.box 0 m9).aw _ m9,(un x m S (J.up B.ac) z).G7 λY V=>?_⟩;have u:=B.up V.ac;refine⟨_,m9,aH (λg=>⟨by unfold jt;rw[g];rfl,.zip u.ac⟩) λg=>?_⟩;refine(Ga s b (L.ac u.ac L.lt) (O.up u.ac) ok).Hf λD h3 P=>?_;have F:=u.comp P;refine⟨D,m9,x,(F.box 0 m9).aw _ m9,(lV x m h3 (J.up F.ac) z).Hf λw h4 Q=>?_⟩;have o:=F.comp Q;have G:=jJ m z;obtain⟨c,j⟩:=HF (bG m)
 rw[<-j]at o G;have W:=(aa.lC (o.aF 3 [2])).1;refine⟨w,m9,?_⟩;obtain⟨rs,o⟩:=(o.bs [2,1]).ML λ_=>rfl;refine ak (λi:Nat=>(i:Int)) (λi h'=>i<=m8 c/\((c.take i).all λp=>decide (p∈d.l))=eL/\Sp h h' [cB (iR 1 aq) 1 bv w rs c,cj D d.l]) (λi=>m8 c-i) 0 m9 ⟨nb,n4,o⟩ ?_;rintro i X ⟨hi,f,y⟩;have U:=(y.dv 0 m9).2.1;refine ae (λe=>?_) (λe=>?_)
 .have k:i<m8 c:=by have R:(i:Int)<(w.len:Int):=e;omega
  refine(y.dv 0 m9).1.ly i m9 nb ?_;obtain⟨r,M⟩:=HF (rs[i]'nb)
  rw[<-M];refine y.alloc ag m9 λA h6 T=>?_;refine T.storeAll ag 2 m9 m9 [r] m9 m9 m9 m9 λN t=>?_;have q:Rd N r 1 aq c[i]:=by rw[M];exact Fix.row (t.dv 0 m9) k
  have E:=aa.Ch (t.aF 2 [1]) λ_=>rfl;refine(VX A r c[i] D d.l N (t.box 2 m9) q E nb).G6 ⟨_,m9,aH (λI=>⟨?_,.zip t.ac⟩) λI=>?_⟩
  .have:jt m d.l=eR:=by unfold jt;rw[g,z7,<-j];exact zZ.2 ⟨c[i],qe k,by rw[I];simp⟩
   rw[this]
  .refine⟨i+1,n7,⟨nb,?_,t.bs [0,1]⟩,nb⟩;rw[aA _ _ k,wx,f,yB,vw,I];rfl
 .have:i=m8 c:=by have R:¬(i:Int)<(w.len:Int):=e;omega
  subst this;rw[qt]at f;exact⟨by unfold jt;rw[g,<-j,f];rfl,.zip y.ac⟩
theorem YG{w:Pow}(h:w.calm){S:aC}(P:List (Int×aT))(a:aG)(F:Fit a S (P.map qC))(c:∀x∈P,x.1∈S/\x.2.length=64):
  (layAll P w a).1=0/\Fit (layAll P w a).2.2 S []/\∀s,bX (layAll P w a).2.2 s=(Ln a P s).map λd=>if s∈gA (P.map qC)then{d with wait:=0,laid:=[],has:=eR}else d:=by
 obtain⟨k,e,a3⟩:=DH h P a F c;have f:=pq h P a;unfold layAll;obtain⟨i,j,g⟩:=HI h (S:=S) (gA (P.map qC)) (fX P w a).2.2 e λx b=>by
  unfold gA at b
  grind
 grind
theorem abb(p:Pm)(a:Int)(l:aC)(e:m8 l<=64)(f:((bg l l.length).any λi=>decide (l.getD i.toNat 0<((bG (cw p a l)).length:Int)))=eR):
  Fit (fO l (bg l l.length).length) (bg l l.length) ((bi (cw p a l) (bg l l.length)).map qC):=by
 refine⟨Am _ _,λs d=>?_⟩;obtain⟨n,h,rfl,c⟩:=(pj l l.length s).1 d;have b:((bG (cw p a l)).length)<=l.getD n 0:=n8
 refine⟨bu.new (l.getD n 0).toNat,?_,m9,?_⟩
 .unfold bX fO;rw[hZ nb,qi,qM,List.getElem?_range nb,Option.map_some,qt,hZ d];rfl
 .rw[sB];have:=List.nodup_iff_count.1 (pY l l.length) (n);have g:List.count (n:Int) (bg l l.length)*(bG (cw p a l)).length<=1*(bG (cw p a l)).length:=Nat.mul_le_mul_right _ this;simp only[bu.new,wL];omega
theorem Pp{p:Pm}{a:Int}{l:aC}(c:m8 l<=64)(b:iX p a l=0):
  (dc p a Pow.new l).1=0/\(dc p a Pow.new l).2.1=Pow.new/\Fit (dc p a Pow.new l).2.2 (bg l l.length) []:=by
 rw[ta,hZ b];obtain⟨e,f,_⟩:=YG Gi (S:=bg l l.length) _ _ (abb p a l c (BP b).2.2.2.2) λx d=>mw d;exact⟨e,uB Gi _ _,f⟩
theorem KK(l:aC)(k:Nat):(bg l k).Pairwise (·<·):=by refine List.Pairwise.filter _ (List.pairwise_map.2 ?_);exact(List.pairwise_lt_range (n:=k)).imp λh=>nb
theorem abc{l:aC}{a:Int}(e:l.Pairwise (·<·))(d:∀x∈l,0<=x/\x<=a):oM l a=eL:=by
 refine sp λi c=>?_;unfold fU dQ;have f:l.getD i 0=l[i]:=n8
 have:=d l[i] (qe c);rw[f,ln this.1,ln this.2,z7,z7];by_cases h0:i=0
 .grind
 .have b:l.getD (i-1) 0=l[i-1]:=n8
  rw[b,ln (List.pairwise_iff_getElem.1 e (i-1) i nb c nb),Bool.or_true]
theorem YH{p:Pm}{a:Int}{l:aC}(f:m8 l<=64)(b:iX p a l=0):bF (cw p a l)=eL:=by
 obtain⟨i,g,h3,_⟩:=BP b;have c:kz (cw p a l)=eL:=by
  unfold kz dQ cw
  grind
 have e:oM (cw p a l).drives 63=eL:=abc (KK l l.length) λx d=>by
  obtain⟨n,h,rfl,_⟩:=(pj l l.length x).1 d;omega
 unfold bF;rw[c,e];rfl
theorem HO{m:aB}{r:ct}(h:dK m r=eL):jR r=eL:=by unfold dK at h;grind
theorem YI{l:List ct}{r:ct}(h:r∈ny l):r∈l:=by
 unfold ny at h
 grind
theorem Th{m:aB}{c:aT}{r:ct}(h:gv m c=dB r):dq c=dB r/\dK m r=eL:=by
 unfold gv at h
 grind
theorem BQ{m:aB}{l:dT}{r:ct}(h:r∈iI m l):∃c∈l,dq c=dB r/\dK m r=eL:=by have h:=List.mem_mergeSort.1 (YI h);obtain⟨c,a,b⟩:=List.mem_filterMap.1 h;exact⟨c,a,Th b⟩
theorem Fj(a:ByteArray):cW a a=eR:=UB _
theorem DL{a b:ByteArray}(h:jc a b=eL)(c:a≠b):cW a b=eL:=by
 rcases(GQ a b).1 h with h|h
 .exact h
 .exact absurd (Sm h) c
theorem Kl{a b:ByteArray}(h:cW a b=eL):a≠b:=λe=>by subst e;rw[Fj]at h;cases h
theorem VY:Ord nh:=⟨λa b c e d=>Da _ _ _ e d,λa b=>Db _ _⟩
theorem YJ{m:aB}{x e:cZ}:e∈(nR m x).objs↔e∈m.objs∨e=x:=by show e∈(m.objs++[x]).mergeSort nh↔_;simp
theorem Km{a:ByteArray}{l:List Qw.cZ}(h:l.any (dH a)=eR):∀e∈l,e.name≠a:=λe b c=>by
 have:=wh.1 h e b;unfold dH at this
 grind
theorem VZ{m:aB}{x:Qw.cZ}(u:bF m=eL)(f:gU x.name=eL)(n:∀e∈m.objs,e.name≠x.name)(o:x.object=m.next)(J:m.objs.length<=11)(I:m.next<=16777215)(K:m.seq<=2147483646)
  (i:0<=x.length/\x.length<=m.p.1*m.p.2.2*8) (y:∀t∈x.tries,0<=t/\t<=15) (D:(x.tries.length:Int)=countP m.p x.length):bF (nR m x)=eL:=by
 obtain⟨w,z,h3,M,l,B,A⟩:=(cM m).1 u;obtain⟨N,L,a3,a4⟩:=(iC m).1 w;have c:(nR m x).objs.Perm (m.objs++[x]):=List.mergeSort_perm _ _;have q:∀e∈m.objs,e.object<m.next:=λe g=>((iT m e).1 (l e g)).2.1.2;refine(cM _).2 ⟨(iC _).2 ⟨⟨?_,?_⟩,⟨?_,?_⟩,a3,a4⟩,z,h3,?_,λe g=>?_,?_,?_⟩
 .show 1<=m.seq+1;omega
 .show m.seq+1<=_;omega
 .show 0<=m.next+1;omega
 .show m.next+1<=_;omega
 .rw[c.length_eq];simp;omega
 .rcases YJ.1 g with g|rfl
  .obtain⟨r,s,F,H,E⟩:=(iT m e).1 (l e g);exact(iT _ e).2 ⟨r,⟨s.1,by show _<m.next+1;omega⟩,F,H,E⟩
  .exact(iT _ _).2 ⟨f,⟨nb,by show _<m.next+1;omega⟩,i,y,D⟩
 .have d:(m.objs++[x]).Pairwise (λa b:Qw.cZ=>a.name≠b.name):=zy.2 ⟨B.imp λh=>Kl h,vN _ _,λa G b v=>n8⟩;have j:=(c.pairwise_iff (R:=λa b:Qw.cZ=>a.name≠b.name) λ{a b} h=>Ne.symm h).2 d;have k:(nR m x).objs.Pairwise (λa b=>nh a b=eL):=(ua VY (m.objs++[x])).1;exact(k.and j).imp λh=>DL h.1 h.2
 .have d:(m.objs++[x]).Pairwise (λa b:Qw.cZ=>a.object≠b.object):=zy.2 ⟨A,vN _ _,λa G b v=>n8⟩;exact(c.pairwise_iff (R:=λa b:Qw.cZ=>a.object≠b.object) λ{a b} h=>Ne.symm h).2 d
theorem Pq{p:Pm}{o:Int}{n:Nat}{t:aC}(h:cX p o n=dB t):∀x∈t,0<=x/\x<=15:=λx b=>by
 obtain⟨i,c,rfl⟩:=qD b;obtain⟨k,d,a⟩:=Dz h i c;have:=(Dy a).1;rw[d];omega
theorem Nr{p:Pm}(a:bH p=eL)(b:aT):((splitB p b).length:Int)=countP p b.length:=by have:=(kq a b.length).1;unfold splitB;rw[qn,List.length_range];omega
theorem Ns{m:aB}{d:Bool}{o:aG}{a:ByteArray}{b:aT}{t:aC}(g:bF m=eL)(l:dI m d o a b.length=0)(i:cX m.p m.next (splitB m.p b).length=dB t):bF (nR m ⟨a,m.next,m8 b,t⟩)=eL:=by
 obtain⟨q,n,z3,z4,z5⟩:=uA l;have k:¬m.p.1*m.p.2.2*8<(m8 b:Int):=λh=>z4 (.inl h);have c:m8 m.objs<=11:=by have:¬12<=m8 m.objs:=λh=>z4 (.inr h);omega
 have f:m.next<=16777215:=by have:¬16777215<m.next:=λh=>z5 (.inr (.inl h));omega
 have e:m.seq<=2147483646:=by have:¬2147483647<=m.seq:=λh=>z5 (.inr (.inr h));omega
 have j:=((iC m).1 ((cM m).1 g).1).2.2.1;refine VZ g n (Km z3) m9 c f e ⟨by show 0<=(m8 b:Int);omega,by show(m8 b:Int)<=_;omega⟩ (Pq i) ?_;show(m8 t:Int)=countP m.p b.length;rw[kH i,Nr j]
def HQ(a:dT)(d:bu):bu:=if a.isEmpty then d else{d with l:=d.l++a,wait:=0,laid:=[],has:=eR}
theorem pZ{a:aG}{l:aC}{k:Int}(h:k∈bh a l):k∈l/\∃d,bX a k=dB d/\d.lost=eR:=by
 obtain⟨c,b⟩:=qJ.1 h;unfold isLive at b
 grind
theorem Ti(m:aB):(bG m).length=((gG m).length+47)/48:=by unfold bG fl;simp
theorem adg(x:Qw.cZ):(gu x).length=6+x.name.size+x.tries.length:=by unfold gu;simp[bL];omega
theorem Wa{m:aB}(h:bF m=eL):(gG m).length=14+m8 m.drives+(m.objs.flatMap gu).length:=by unfold gG;rw[hZ h];simp only[qo,bL,q7,wL,qn];omega
theorem ma{p:Pm}{n:Int}(h:n<=p.1*p.2.2*8):countP p n<=8:=by
 unfold countP;split
 .rename_i a;rw[qz,]at a;have:=(bI p).1 a.1;have b:0<p.1*p.2.2:=Int.mul_pos nb nb;have:(n-1)/(p.1*p.2.2)<8:=Int.ediv_lt_of_lt_mul b n8;omega
 simp
theorem abd{m:aB}{x:Qw.cZ}(h:gC m x=eL):(gu x).length<=26:=by
 obtain⟨a,b,h3,e,c⟩:=(iT m x).1 h;have:=ma h3.2;have d:x.name.size<=12:=by unfold gU at a;grind
 rw[adg];omega
theorem Jb{α β:Type}{f:α->List β}{c:Nat}:∀{l:List α},(∀x∈l,(f x).length<=c)->(l.flatMap f).length<=m8 l*c
 |[],_=>n4
 |x::l,h=>by
  have d:=h x List.mem_cons_self;have b:=Jb (l:=l) λy a=>h y (qp _ a);rw[List.flatMap_cons,qo,q7,Nat.succ_mul];omega
theorem YK{m:aB}(h:bF m=eL):(bG m).length*48<=61+m8 m.drives+m8 m.objs*26:=by have:=Jb (f:=gu) (l:=m.objs) λx a=>abd (((cM m).1 h).2.2.2.2.1 x a);have b:=Wa h;rw[Ti];omega
theorem adh{m:aB}(h:bF m=eL):(bG m).length<=9:=by have b:=YK h;have a:=iD h;have h3:=((cM m).1 h).2.2.2.1;omega
def cm(m:aB)(b:Int)(w:Pow)(a:aG)(n:aB):Int×aB×Pow×aG:=
 if gy w b then(14,m,w,a)else if !bF n||decide (n.seq≠m.seq+1)then(1,m,w,a)else
 let live:=bh a n.drives;let N:Int->Int:=λ_=>((bG n).length:Int)
 if live=[]∨iz m a live N=eR then(7,m,w,a)else
 if(makes m N live w a).1≠0 then((makes m N live w a).1,m,(makes m N live w a).2)else
 let c:=layAll (bi n live) (makes m N live w a).2.1 (makes m N live w a).2.2
 (c.1,if c.1=0 then n else m,c.2)
theorem iA{m:aB}(h:bF m=eL):bM m:=by
 obtain⟨n,f,h3,l,d,j,g⟩:=(cM m).1 h;have q:=iD h;refine⟨nb,nb,λe b=>?_⟩;obtain⟨a,o,c,p,i⟩:=(iT m e).1 (d e b);have:=ma c.2;have k:e.name.size<=12:=by unfold gU at a;simp at a;omega
 omega
variable {B:ar} {h0 h:hY} {As:List HP} {a:fY} {offs:Int} {da:List bx} {w:Pow} {ds:aG}
section
variable {pw:fY}
theorem Fk(x:bc)(m:aB)(z:bc)(n:aB)(Y:St B h0 As λh=>cv h z n)(hz:bM m)(l:bM n)(ap:-1<=m.seq/\m.seq<=2^40)
  (H:aa B h0 h (aJ bP a pw (aD x) offs da w ds::bo x m::As)):
  aj xT 18 #[xL (dB a),cC z] h λv h'=>v=xJ xP (cm m offs w ds n).1/\
   ∃y,aa B h0 h' (aJ bP a pw (aD y) offs da (cm m offs w ds n).2.2.1 (cm m offs w ds n).2.2.2::bo y (cm m offs w ds n).2.1::As):=by
 refine ts Tryz.func18 ?_ (F8 (F8 (G0 [] [(4,5),(11,25)] (F8 (F8 (F8 (G0 [] [(4,5),(34,44)] E6))))))) (args:=[(dB a),z]);refine H.boxed λK P r=>(oD r).mono ?_;have r:=r.ba;rintro _ P ⟨rfl,rfl⟩;have D:cv P z n:=Y.at [_,_,_] r;have al:cv P x m:=r.at 2 m9;refine⟨_,m9,aS (λe=>?_) λe1=>?_⟩
 .have G:cm m offs w ds n=(14,m,w,ds):=by unfold cm;rw[hZ e]
  rw[G];exact⟨m9,x,r.aF 3 [1,2]⟩
 refine aE ?_;refine⟨z,(r.box 0 m9).aw _ m9,(un z n P D l).G7 λh3 R3=>?_⟩;have E:=r.up R3.ac;have ad:=D.up R3.ac;have no:∀{h':hY},aa B h0 h' (an K 27 (aD z)::aJ bP a pw (aD x) offs da w ds::bo x m::As)->(bF n=eR∨n.seq≠m.seq+1)->(Value.int .i64 1=xJ xP (cm m offs w ds n).1/\∃y,aa B h0 h' (aJ bP a pw (aD y) offs da (cm m offs w ds n).2.2.1 (cm m offs w ds n).2.2.2::bo y (cm m offs w ds n).2.1::As)):=λ{h'} d hc=>by
  have G:cm m offs w ds n=(1,m,w,ds):=by
   unfold cm;rw[k4 o4,hZ];rcases hc with hc|hc
   .rw[hc];rfl
   .rw[ln hc,Bool.or_true]
  rw[G];exact⟨m9,x,d.aF 3 [1,2]⟩
 refine⟨_,m9,I0,aH (λe=>no E (.inl e)) λe2=>?_⟩;have F:=E.box 0 m9;have V:=(aa.cF (E.aF 2 [1,0])).2;refine⟨z.1,F.cell0 m9,a,m9,x.1,V.cell0 m9,?_⟩
 try dsimp only
 rw[D.seq,al.seq,af (m.seq+1)];refine bm (λe=>no E (.inr e)) λe3=>?_;refine⟨_,F.cell m9,?_⟩;have ab:=iD e2;have ah:∀k∈n.drives,0<=k/\k<64:=gZ e2;refine(Hj z.2.2.2.2.2.2.1 n.drives ad.drives nb (E.aF 2 [1,0])).Hf λo h5 R5=>?_;obtain⟨live,b⟩:=HF (bh ds n.drives)
 rw[<-b]at R5;have am:m8 live<=64:=by rw[b];exact qX (qK _ _) ab
 have f:∀k∈live,0<=k/\k<64:=λk S=>by rw[b]at S;exact ah k (qJ.1 S).1
 have W:=(E.bS R5).aF 4 [2,3,0,1];refine⟨o,m9,z,(W.box 3 m9).aw _ m9,(lV z n h5 (Y.at [_,_,_,_] W) l).Hf λpg h6 R6=>?_⟩;have q:=(aa.lC R6).1;have L:=jJ n l;obtain⟨p,I⟩:=HF ((bG n).length)
 rw[<-I]at q L;have H6:=W.up R6.ac;refine⟨pg,m9,H6.alloc ag m9 λc h7 H7=>?_⟩;have H7:=H7.ba;refine H7.storeAll ag 0 m9 m9 [xJ xP (pg.len:Int)] m9 m9 m9 m9 λh8 j=>?_;rw[q]at j;have j:aa B h0 h8 (aJ bP a pw (aD x) offs da w ds::bo x m::an c 3 [xJ xP (p:Int)]::ai 3 o 1 av live::an K 27 (aD z)::As):=j.aF 5 [1,2,0,3,4];obtain⟨T,t⟩:=HF (bo x m::an c 3 [xJ xP (p:Int)]::ai 3 o 1 av live::an K 27 (aD z)::As)
 have tX:St B h0 T λh=>cv h x m:=by rw[t];exact St.dS 0 m9 λ_ s=>s
 have tN:St B h0 T λh=>bQ h c 3 [xJ xP (p:Int)]:=by rw[t];exact St.dS (A:=an c 3 [xJ xP (p:Int)]) 1 m9 λ_ s=>s.1
 have O:St B h0 T λh=>Rd h o 1 av live:=by rw[t];exact St.dS (A:=ai 3 o 1 av live) 2 m9 λ_ s=>s.1.seq (λ_=>rfl) s.2
 have tM:St B h0 T λh=>bQ h K 27 (aD z):=by rw[t];exact St.dS (A:=an K 27 (aD z)) 3 m9 λ_ s=>s.1
 have tY:St B h0 T λh=>cv h z n:=by rw[t];exact Y.cons.cons.cons.cons
 obtain⟨N,hN⟩:∃N:Int->Int,N=λ_=>(p:Int):=⟨_,rfl⟩
 have tT:St B h0 T λh=>Lk 67 #[] #[xL (dB c)] N live h:=λBs h' d k S=>by
  refine ts Tryz.func67 ?_ (args:=[(k:Int),c]);exact⟨(p:Int),(tN Bs h' d).cell0 m9,by rw[hN],Sp.refl h'⟩
 have fin:∀{h':hY} {w':Pow} {u:aG},aa B h0 h' (aJ bP a pw (aD x) offs da w' u::T)->aa B h0 h' (aJ bP a pw (aD x) offs da w' u::bo x m::As):=λ{h' w' u} d=>by
  rw[t]at d;exact d.aF 5 [0,1]
 rw[<-t]at j;have G:cm m offs w ds n=(if live=[]∨iz m ds live N=eR then(7,m,w,ds)else
   if(makes m N live w ds).1≠0 then((makes m N live w ds).1,m,(makes m N live w ds).2)else
   ((layAll (bi n live) (makes m N live w ds).2.1 (makes m N live w ds).2.2).1,if(layAll (bi n live) (makes m N live w ds).2.1 (makes m N live w ds).2.2).1=0 then n else m,(layAll (bi n live) (makes m N live w ds).2.1 (makes m N live w ds).2.2).2)):=by
  rw[hN,I,b];unfold cm;rw[k4 o4,k4 (by rw[e2,m5 (by simpa using e3)];decide)]
 rw[G];have J:=(O.at [_] j).len;refine aE (aZ (λe=>?_) λe4=>?_)
 .have:live=[]:=List.length_eq_zero_iff.1 nb;rw[hZ (.inl this)];exact⟨m9,x,fin j⟩
 have U:live≠[]:=λh=>e4 (by rw[J,h];rfl);refine(Hv 67 #[] #[xL (dB c)] N x m o live pa (λBs h' d=>⟨tX Bs h' d,tT Bs h' d⟩) hz (O.at [_] j) nb f j).G7 λh9 R9=>?_;have H9:=j.up R9.ac;refine⟨_,m9,aH (λg=>?_) λg=>?_⟩
 .rw[hZ (.inr g)];exact⟨m9,x,fin H9⟩
 rw[k4 (by rintro(h|h);exact U h;rw[g]at h;cases h)];refine(Hx 67 #[] #[xL (dB c)] N x m o live pa (λBs h' d=>⟨tX Bs h' d,tT Bs h' d,O Bs h' d⟩) hz nb f H9).G7 λax i=>?_;obtain⟨Q,Z⟩:=HF (makes m N live w ds)
 rw[<-Z]at i⊢;refine⟨_,m9,bm (λX=>?_) λX=>?_⟩
 .rw[hZ X];exact⟨m9,x,fin i⟩
 rw[k4 (by simpa using X)];refine⟨z,(tM.at [_] i).aw _ m9,(HB x z n o live (λBs h' d=>⟨tY Bs h' d,O Bs h' d⟩) l nb f i).G7 λao ⟨Q1,Q0⟩=>?_⟩;refine⟨_,m9,m9,?_⟩;by_cases R:(layAll (bi n live) Q.2.1 Q.2.2).1=0
 .obtain⟨y2,M⟩:=Q0 R;rw[hZ R];rw[t]at M;exact⟨y2,M.aF 6 [0,1]⟩
 .rw[k4 R];exact⟨x,fin (Q1 R)⟩
end
variable {k:Kit} {b:fY} {mc:aR} {d:bu} {n:Nat}
section
variable {pw:fY}
end
section
variable {pw:fY}
theorem Tj(H:aa B h0 h (jx pw b d::As)):aj xT 55 #[xL (dB b)] h λv h'=>v=.tuple #[]/\aa B h0 h' (jx pw b d.IA::As):=by
 refine ts Tryz.func55 ?_;obtain⟨ok,s,n,g⟩:=H.kb;refine aS (λ_=>?_) λe=>n5
 refine⟨b,m9,g.store ag 0 m9 m9 6 [xN eL] m9 m9 m9 qa λl a=>?_⟩;refine⟨b,m9,a.store ag 0 m9 m9 2 [xK eH 0 0] m9 m9 m9 qa λh3 i=>?_⟩;refine⟨b,m9,i.store ag 0 m9 m9 3 [xJ xP 0] m9 m9 m9 qa λo c=>?_⟩;refine⟨b,m9,c.store ag 0 m9 m9 4 [xK eH 0 0] m9 m9 m9 qa λk j=>?_⟩;refine⟨b,m9,j.store ag 0 m9 m9 5 [xN eR] m9 m9 m9 qa λm f=>⟨m9,?_⟩⟩;refine aa.iO (s:=⟨eH,0,0⟩) (b:=⟨eH,0,0⟩) ⟨qj _,qW _,ok.room,by simp[bu.IA],qW _,by simp[bu.IA]⟩ ?_;exact((f.kf 41 5 1 aq).kf 41 5 1 aq).aF 5 [2,0,1]
end
section
variable {pw:fY}
end
section
variable {pw:fY}
end
section
variable {pw:fY}
theorem DM{k:Int}{d:bu}(e:bX ds k=dB d)(H:aa B h0 h (aJ bP a pw mc offs da w ds::As)):∃(b:fY) (s bl:Sl),cT da k=dB b/\bQ h b 172 (ft pw d s bl)/\eF h s 1 aq d.l/\ff d:=by
 obtain⟨ok,_⟩:=aa.cF H;rcases gp ok k with⟨h1,_⟩|⟨n,d',b,rfl,hn,h1,h2,h3,h4⟩
 .rw[h1]at e;cases e
 .rw[h2]at e;injection e with e
  subst e;obtain⟨j,c,i⟩:=Qw.aa.fD H h1;rw[h3]at c;injection c with c
  injection c with c
  subst c;obtain⟨f,s,bl,g⟩:=aa.kb i;exact⟨b,s,bl,h4,g.box 0 m9,(g.aF 2 [1,0]).Ch λ_=>rfl,f⟩
theorem adi{k:Int}(c:bX ds k=eH)(H:aa B h0 h (aJ bP a pw mc offs da w ds::As)):cT da k=eH:=by
 obtain⟨ok,_⟩:=aa.cF H;rcases gp ok k with⟨_,h2⟩|⟨n,d',b,rfl,hn,h1,h2,h3,h4⟩
 .exact h2
 .rw[h2]at c;cases c
theorem Nt{k:Int}(H:aa B h0 h (aJ bP a pw mc offs da w ds::As)):aj xT 26 #[xL (dB a),xJ xP k] h λv h'=>v=.pointer (cT da k)/\h'=h:=by obtain⟨ok,b⟩:=aa.cF H;exact jI k ok b
theorem Nu{k:Int}{d:bu}{b:fY}(x:bc)(m:aB)(i:bX ds k=dB d)(j:cT da k=dB b)(f:cv h x m)(e:bM m)(H:aa B h0 h (aJ bP a pw mc offs da w ds::As)):
  aj xT 159 #[xL (dB b),cC x] h λv h'=>v=xN (jt m d.l)/\Sp h h' []:=by
 obtain⟨p,s,bl,c,o,g,n⟩:=DM i H;rw[j]at c;injection c with c
 subst c;exact Tg b pw d s bl x m h o g n f e
end
def Nv(a b c:Int):Int×Int×Int:=(1+a%6,1+b%3,1+c%9)
theorem Tk(a b c:Int)(h:hY):aj xT 60 #[xJ xP a,xJ xP b,xJ xP c] h λv h'=>v=gx (Nv a b c)/\Sp h h' []:=by
 refine ts Tryz.func60 ?_;refine(Sp.refl h).alloc ag m9 λx g f=>?_;refine(bT a 6 g).mono ?_;rintro v e ⟨rfl,rfl⟩;refine⟨_,m9,(bT b 3 e).mono ?_⟩;rintro v h3 ⟨rfl,rfl⟩;refine⟨_,m9,(bT c 9 h3).G6 ?_⟩;refine⟨_,m9,?_⟩
 try dsimp only
 rw[af _,af _,af _];refine f.storeAll ag 0 m9 m9 [xJ xP (1+a%6),xJ xP (1+b%3),xJ xP (1+c%9)] m9 m9 m9 m9 λi d=>?_;exact⟨Nv a b c,(d.box 0 m9).aw _ m9,m9,.zip d.ac⟩
def fv(a pw:fY)(c:List bx)(b:Int)(w:Pow)(d:aG)(m:aB):HP:=HP.ex λx:bc=>(aJ bP a pw (aD x) b c w d).sep (bo x m)
variable {m:aB}
section
variable {pw:fY}
theorem fP(H:aa B h0 h (fv a pw da offs w ds m::As)):∃x,aa B h0 h (aJ bP a pw (aD x) offs da w ds::bo x m::As):=by obtain⟨x,H⟩:=H.Bq;exact⟨x,H.CW.nF⟩
theorem mb{x:bc}(H:aa B h0 h (aJ bP a pw (aD x) offs da w ds::bo x m::As)):aa B h0 h (fv a pw da offs w ds m::As):=
 aa.CV (F:=λx:bc=>(aJ bP a pw (aD x) offs da w ds).sep (bo x m)) x H.nF.kA
theorem Wb(H:aa B h0 h (fv a pw da offs w ds m::As)):m8 ds=64/\∀k d,bX ds k=dB d->m8 d.l<=d.room/\d.room<=512/\ff d:=by obtain⟨x,H⟩:=fP H;obtain⟨ok,_⟩:=aa.cF H;refine⟨ok.ls,λk d e=>?_⟩;obtain⟨b,s,bl,_,_,_,c⟩:=DM e H;exact⟨c.len,c.room,c⟩
theorem QQ(c:ByteArray)(s:Sl)(b:aT)(l:St B h0 As λh=>Rd h s 1 aq b)(f:s.len<=s.cap)(g:c.size<=2^40)(d:bF m=eL)(e:m8 b<=2^20)(H:aa B h0 h (fv a pw da offs w ds m::As)):
  aj xT 34 #[xL (dB a),xM c,s] h λv h'=>v=xJ xP (ez m offs w ds c b).1/\
   aa B h0 h' (fv a pw da offs (ez m offs w ds c b).2.2.1 (ez m offs w ds c b).2.2.2 (ez m offs w ds c b).2.1::As):=by
 obtain⟨x,H⟩:=fP H;obtain⟨n,o,k,i⟩:=(iC m).1 ((cM m).1 d).1;refine(YD x m c s b l f g (iA d) k i (gZ d) (iD d) nb nb e H).mono ?_;rintro _ h' ⟨rfl,y,j⟩;exact⟨m9,mb j⟩
theorem BR(b:bF m=eL)(H:aa B h0 h (fv a pw da offs w ds m::As)):
  aj xT 25 #[xL (dB a)] h λv h'=>∃y:bc,v=cC y/\Sp h h' [bo y m]:=by
 obtain⟨x,H⟩:=fP H;exact AP x m (H.at 1 m9) (iA b) H
theorem sa(k:Int)(H:aa B h0 h (fv a pw da offs w ds m::As)):aj xT 26 #[xL (dB a),xJ xP k] h λv h'=>v=.pointer (cT da k)/\h'=h:=by obtain⟨x,H⟩:=fP H;exact Nt H
theorem QR{k:Int}{d:bu}(e:bX ds k=dB d)(H:aa B h0 h (fv a pw da offs w ds m::As)):∃b,cT da k=dB b:=by obtain⟨x,H⟩:=fP H;obtain⟨b,_,_,c,_⟩:=DM e H;exact⟨b,c⟩
theorem Kn{k:Int}(b:bX ds k=eH)(H:aa B h0 h (fv a pw da offs w ds m::As)):cT da k=eH:=by obtain⟨x,H⟩:=fP H;exact adi b H
theorem YL(H:aa B h0 h (fv a pw da offs w ds m::As)):aj xT 33 #[xL (dB a)] h λv h'=>v=xN (gy w offs)/\h'=h:=by obtain⟨x,H⟩:=fP H;exact nr H
theorem oI(H:aa B h0 h (fv a pw da offs w ds m::As)):aj xT 15 #[xL (dB a)] h λv h'=>v=xL (dB pw)/\h'=h:=by obtain⟨x,H⟩:=fP H;exact nU H
end
def BS(a:Int)(k:Nat):UInt8:=b8 (zp a (2^(8*k)))
def dj(c:aT)(at_:Nat)(a:Int):Nat->aT
 |0=>c
 |k+1=>(dj c at_ a k).set (at_+k) ((dj c at_ a k).getD (at_+k) 0^^^BS a k)
def aeb(c:aT)(at_:Int)(a:Int):aT:=dj c at_.toNat a 4
theorem se(c:aT)(a:Nat)(b:Int):∀k,(dj c a b k).length=m8 c
 |0=>rfl
 |k+1=>by unfold dj;rw[qP];exact se c a b k
def lL(d:bu)(i at_ a:Int):Bool:=decide ((0<=i/\i<(m8 d.l:Int))/\(0<=at_/\at_<=60)/\a≠0)
def bu.mF(d:bu)(i at_ a:Int):bu:=if lL d i at_ a then{d with l:=d.l.set i.toNat (aeb (d.l.getD i.toNat []) at_ a)}else d
theorem Nw{α:Type}{e k:Nat}{f:α->aR}{rs:List Sl}{ll:List (List α)}(h:m8 rs=m8 ll)(n:Nat)(c:n<m8 ll)(x:List α):bt e k f rs (ll.set n x)=(bt e k f rs ll).set n (ai e (rs[n]'nb) k f x):=by
 apply List.ext_getElem?;intro j;by_cases b:j<m8 ll
 .rw[eN (by rw[qP];exact h) j (by rw[qP];exact b)];by_cases a:n=j
  .subst a;rw[List.getElem?_set_self (by rw[gD h];exact c),wU]
  .rw[List.getElem?_set_ne a,eN h j b,vz a]
 .rw[zf (by rw[gD (by rw[qP];exact h),qP];omega),zf (by rw[qP,gD h];omega)]
section
variable {pw:fY}
theorem KL(i at_ a:Int)(h:hY):aj xT 57 #[xL eH,xJ xP i,xJ xP at_,xJ xR a] h λv h'=>v=xN eR/\Sp h h' []:=by refine ts Tryz.func57 ?_ (F8 (G0 [] [(8,9),(10,37)] (F9 [(37,aI)] [(9,10),(37,60)])));exact aE (aS (λ_=>⟨m9,Sp.refl h⟩) λe=>n5)
theorem Tl(i at_ f:Int)(hm:0<=f/\f<2^32)(H:aa B h0 h (jx pw a d::As)):
  aj xT 57 #[xL (dB a),xJ xP i,xJ xP at_,xJ xR f] h λv h'=>v=xN (lL d i at_ f)/\aa B h0 h' (jx pw a (d.mF i at_ f)::As):=by
 refine ts Tryz.func57 ?_ (F8 (G0 [] [(8,9),(10,37)] (F9 [(37,aI)] [(9,10),(37,60)])));obtain⟨ok,s,bl,N⟩:=aa.kb H;have X:=(aa.lC (N.aF 2 [1,0])).1;have W:=N.box 0 m9;have w:lL d i at_ f=eR->(Value.bool eR=xN (lL d i at_ f)/\aa B h0 h (jx pw a (d.mF i at_ f)::As)):=λe=>by
  unfold bu.mF;rw[e];exact⟨m9,H⟩
 have g:¬((0<=i/\i<(m8 d.l:Int))/\(0<=at_/\at_<=60)/\f≠0)->lL d i at_ f=eR:=λh=>m5 h;refine aE (aS (λe=>n5) λ_=>ae (λe=>w (g nb)) λe1=>⟨a,m9,s,W.cell m9,ae (λe=>w (g nb)) λe2=>ae (λe=>w (g nb)) λe3=>ae (λe=>w (g nb)) λe4=>aZ (λe=>w (g nb)) λZ=>?_⟩);have Y:0<=i/\i<(m8 d.l:Int):=nb
 have o:lL d i at_ f=eL:=ln ⟨Y,⟨nb,nb⟩,Z⟩;obtain⟨n,rfl⟩:∃n:Nat,i=n:=⟨i.toNat,nb⟩
 obtain⟨p,rfl⟩:∃p:Nat,at_=p:=⟨at_.toNat,nb⟩
 have Q:n<m8 d.l:=nb
 have u:d.l[n].length=64:=ok.cell _ (qe Q);obtain⟨c,G⟩:=HF (d.l[n])
 have T:aa B h0 h (lh 41 s 5 1 aq (d.l.set n (dj c p f 0))::an a 172 (ft pw d s bl)::cj bl d.laid::As):=by
  have e:d.l.set n (dj c p f 0)=d.l:=by show d.l.set n c=d.l;rw[G];exact List.set_getElem_self _
  rw[e];exact N.aF 3 [1,0,2]
 refine ak (λk:Nat=>(k:Int)) (λk h'=>k<=4/\aa B h0 h' (lh 41 s 5 1 aq (d.l.set n (dj c p f k))::an a 172 (ft pw d s bl)::cj bl d.laid::As)) (λk=>4-k) 0 m9 ⟨nb,T⟩ ?_;rintro k h3 ⟨hk,I⟩
 try dsimp only
 refine ae (λe=>?_) λe=>?_
 .have A:k<4:=nb
  have L:=I.box 1 m9;obtain⟨rs,j,F⟩:=I.Bt;have P:=(I.lC).1;have V:(d.l.set n (dj c p f k)).length=m8 d.l:=qP;have m:n<(d.l.set n (dj c p f k)).length:=nb
  have y:(bt 5 1 aq rs (d.l.set n (dj c p f k)))[n]?=dB (ai 5 (rs[n]'nb) 1 aq (dj c p f k)):=by rw[eN j n m,wU]
  have q:((ai 41 s 1 bv rs::bt 5 1 aq rs (d.l.set n (dj c p f k)))++(an a 172 (ft pw d s bl)::cj bl d.laid::As))[n+1]?=dB (ai 5 (rs[n]'nb) 1 aq (dj c p f k)):=by rw[zD,List.getElem?_cons_succ,qu (by rw[gD j];exact m)];exact y
  have U:(dj c p f k).length=64:=by rw[se,G];exact u
  have S:=F.own (n+1) q;refine⟨a,m9,s,L.cell m9,?_⟩;have M:=F.seq 0 m9 λ_=>rfl;refine M.ly n m9 nb ?_;obtain⟨z,O⟩:=HF ((dj c p f k)[p+k]'nb)
  have K:qd xP ((p:Int)+(k:Int))=((p+k:Nat):Int):=o0
  rw[K];have D:Qw.Seq h3 (λb=>b<h3.size) (rs[n]'nb) 1 aq (dj c p f k):=F.seq (n+1) q λ_=>rfl;refine D.aW (p+k) m9 nb (z.toNat:Int) (by rw[O];rfl) ?_;refine⟨o0,?_⟩;have E:min (qd xP ((8:Int)*(k:Int))).toNat (qq xR)=8*k:=by rw[af _];show min ((8:Int)*k).toNat 32=8*k;omega
  rw[E,cg (zp f (2^(8*k)))];have J:=mi z (b8 (zp f (2^(8*k))));rw[J];refine F.set ag (n+1) q (λ_=>rfl) m9 (p+k) m9 nb (z^^^BS f k) m9 m9 m9 λh5 R=>⟨I0,?_⟩
  refine⟨k+1,n7,⟨nb,?_⟩,nb⟩;have r:dj c p f (k+1)=(dj c p f k).set (p+k) (z^^^BS f k):=by show(dj c p f k).set (p+k) ((dj c p f k).getD (p+k) 0^^^BS f k)=_;rw[rQ 0,O]
  refine aa.CZ (rs:=rs) D1 ?_;have e:bt 5 1 aq rs (d.l.set n (dj c p f (k+1)))=(bt 5 1 aq rs (d.l.set n (dj c p f k))).set n (ai 5 (rs[n]'nb) 1 aq (dj c p f (k+1))):=by rw[<-Nw j n m,List.set_set]
  rw[e,r];rw[zD,wZ,List.set_append_left _ _ (by rw[gD j];exact m)]at R;exact R
 .have A:k=4:=nb
  subst A;have t:d.mF (n:Int) (p:Int) f={d with l:=d.l.set n (dj c p f 4)}:=by unfold bu.mF;rw[o,hZ m9,qi,rQ [] Q,<-G];rfl
  refine⟨by rw[o],?_⟩;rw[t];refine aa.iO (s:=s) (b:=bl) ⟨by show d.wait<=_;rw[qP];exact ok.wait,by show(d.l.set n _).length<=_;rw[qP];exact ok.len,ok.room,λx J=>?_,ok.laid,ok.cellL⟩ (I.aF 3 [1,0,2]);rcases List.mem_or_eq_of_mem_set J with h|rfl
  .exact ok.cell x h
  .rw[se,G];exact u
end
def ints(l:List Nat):aC:=l.map λx:Nat=>(x:Int)
theorem abe(h:hY)(x:UInt8):aj xT 349 #[xJ xQ x.toNat] h λv h'=>v=xN (x !=0)/\h'=h:=by
 refine ts Tryz.func349 ?_;refine⟨?_,m9⟩;congr 1;by_cases a:x=0
 .subst a;rfl
 .have:((x.toNat:Nat):Int)≠0:=λb=>a (nA.1 b);rw[bne_iff_ne.2 a];exact bne_iff_ne.2 this
theorem Wc(a:Sl)(l:Row)(h:hY)(p:Rd h a 1 aq l)(s:m8 l<=2^30):aj xT 299 #[a] h λv h'=>v=xJ xP (if ic l<m8 l then(ic l:Int)else-1)/\h'=h:=by
 refine ts Tryz.func299 ?_;refine(ph a (349,#[],#[]) (R:=λv h'=>v=xJ xP (if ic l<m8 l then(ic l:Int)else-1)/\h'=h) ?_).mono ?_
 .skip
  have r:=p.len;refine ak (λi:Nat=>(i:Int)) (λi h'=>h'=h/\i<=m8 l/\∀j (d:j<m8 l),j<i->l[j]=0) (λi=>m8 l-i) 0 m9 ⟨m9,nb,λj _ d=>nb⟩ ?_;rintro i o ⟨rfl,u,c⟩;refine ae (λe=>?_) (λe=>?_)
  .have b:i<m8 l:=nb
   refine p.aW i m9 b _ m9 ?_;refine fF pa ?_;refine(abe o l[i]).mono ?_;rintro v t ⟨rfl,rfl⟩;refine⟨_,m9,aS (λm=>?_) λm=>?_⟩
   .have n:ic l=i:=by rw[ic,List.findIdx_eq b];exact⟨m,λj d=>by simp[c j nb d]⟩
    rw[n,hZ b];exact⟨m9,m9⟩
   .refine⟨i+1,n7,⟨m9,nb,λj d k=>?_⟩,nb⟩;rcases q8.1 k with h3|rfl
    .exact c j d h3
    .simpa using m
  .have g:¬ic l<m8 l:=by rw[ic,List.findIdx_lt_length];rintro⟨x,q,f⟩;obtain⟨j,d,rfl⟩:=qD q;rw[c j d nb]at f;simp at f
   rw[k4 g];exact⟨m9,m9⟩
 .rintro v o ⟨rfl,rfl⟩;exact⟨_,m9,m9,m9⟩
def aap(n t:Nat):cV:=(ZN t 0 n).map ints
theorem nV{p q:ar}(a b:Sl)(c j:aC)(h:hY)(s:Seq h p a 1 av c)(r:Seq h q b 1 av j)(x:m8 c<=2^40:=by omega):
  aj xT 80 #[a,b] h λv h'=>v=xN (decide (c=j))/\h'=h:=by
 refine ts Tryz.func80 ?_ (F8 (F8 (F9 [(13,aI)] [(4,6),(13,26)])));have o:=s.len;have l:=r.len;refine bm (λd=>⟨?_,m9⟩) (λf=>?_)
 .rw[m5 λe=>d (by rw[o,l,e])]
 .refine ak (λk:Nat=>(k:Int)) (λk h'=>h'=h/\k<=m8 c/\c.take k=j.take k) (λk=>m8 c-k) 0 m9 ⟨m9,nb,n4⟩ ?_;rintro k h' ⟨rfl,w,m⟩;refine ae (λu=>?_) (λt=>?_)
  .have g:k<m8 c:=nb
   have i:k<m8 j:=nb
   refine s.aW k m9 g _ m9 ?_;refine r.aW k m9 i _ m9 ?_;refine bm (λd=>⟨?_,m9⟩) (λf=>?_)
   .rw[m5];intro e;subst e;exact d m9
   .rw[af _];exact⟨k+1,n4,⟨m9,nb,by rw[aA _ _ g,aA _ _ i,m,f]⟩,nb⟩
  .have:k=m8 c:=nb
   subst this;rw[qh nb,qh nb]at m;exact⟨by rw[ln m],m9⟩
theorem Pr{p:ar}(a:Sl)(c:aC)(x:Int)(h:hY)(i:Seq h p a 1 av c)(q:m8 c<=2^40):
  aj xT 195 #[a,xJ xP x] h λv h'=>v=xN (decide (x∈c))/\h'=h:=by
 refine ts Tryz.func195 ?_ (F8 (F9 [(8,aI)] [(4,6),(8,18)]));have l:=i.len;refine ak (λk:Nat=>(k:Int)) (λk h'=>h'=h/\k<=m8 c/\x∉c.take k) (λk=>m8 c-k) 0 m9 ⟨m9,nb,n4⟩ ?_;rintro k h' ⟨rfl,o,f⟩;refine ae (λm=>?_) (λj=>?_)
 .have b:k<m8 c:=nb
  refine i.aW k m9 b _ m9 ?_;refine aZ (λg=>⟨?_,m9⟩) (λd=>?_)
  .rw[ln (by rw[<-g];exact qe b)]
  .rw[af _];refine⟨k+1,n4,⟨m9,nb,?_⟩,nb⟩;rw[aA _ _ b];simp only[qw,qB,not_or];exact⟨f,λe=>d e.symm⟩
 .rw[qh nb]at f;exact⟨by rw[m5 f],m9⟩
def Tm(W:cV)(a:aC):Nat->aC
 |0=>[]
 |k+1=>Tm W a k++if(k:Int)∈a then[]else W.getD k []
def adj(p:Pm)(seed:Int)(W:cV)(a:aC):Nat:=Bv p seed (Tm W a W.length)
def aec(p:Pm)(seed:Int)(W:cV)(t:Nat):Option (aC):=(aap W.length t).find? λg=>decide ((adj p seed W g:Int)≠bD p)
section
variable {pw:fY}
end
structure aeU (p:Pm) (extra:Int) (c:Nat) (x:Int) (m:aB) (D:aG):Prop where
 m_eq:m=cw p extra (qf c x)
 len:m8 D=64
 may:bF m=eL
 dr:m.drives=(List.range c).map λi:Nat=>(i:Int)
 at_:∀s,bX D s=if s∈m.drives then dB ⟨x.toNat,bG m,0,[],eR,eR⟩else eH
section
variable {pw:fY}
theorem Wd{k:Int}{d:bu}{b:fY}(i at_ c:Int)(p:0<=c/\c<2^32)(f:bX ds k=dB d)(j:cT da k=dB b)(H:aa B h0 h (fv a pw da offs w ds m::As)):
  aj xT 57 #[xL (dB b),xJ xP i,xJ xP at_,xJ xR c] h λv h'=>v=xN (lL d i at_ c)/\aa B h0 h' (fv a pw da offs w (iP ds k (d.mF i at_ c)) m::As):=by
 obtain⟨x,H⟩:=fP H;obtain⟨ok,_⟩:=aa.cF H;obtain⟨n,rfl,y⟩:=kJ f;have u:ds[n]?=dB (dB d):=by
  unfold bX at f;rw[hZ nb,qi]at f;cases hX:ds[n]? with
  |none=>rw[hX]at f;cases f
  |some o=>rw[hX]at f;exact congrArg dB f
 obtain⟨r,g,s⟩:=Qw.aa.fD H u;have l:r=b:=by unfold cT at j;rw[hZ nb,qi,g]at j;injection j
 subst l;refine(Tl i at_ c p s).mono ?_;rintro _ h' ⟨rfl,q⟩;have t:=Qw.aa.kW (k:=bP) (n:=n) g q;refine⟨m9,?_⟩;have e:iP ds (n:Int) (d.mF i at_ c)=ds.set n (dB (d.mF i at_ c)):=by simp only[iP,qi]
 rw[e];exact mb t
end
structure Pg where
 seq:Int
 num:Int
 many:Int
 bears:aT
 cell:aT
def aev(x c:aT):Pg:=⟨dp (x.take 4),((x.getD 4 0).toNat:Int),((x.getD 5 0).toNat:Int),(x.drop 7).take (x.getD 6 0).toNat,c⟩
def DN(c:aT):Option Pg:=
 match gH c with
 |some (k,x)=>if k=2/\(x.getD 6 0).toNat<=48/\(x.drop (7+(x.getD 6 0).toNat)).all (λb=>decide (b=0))=eL then dB (aev x c)else eH
 |none=>eH
def abf(f:Pg)(i:Int)(x:Pg):Bool:=decide (x.seq=f.seq/\x.many=f.many/\x.num=i)
def QS(l:List Pg)(f:Pg):Nat->Option (List Pg)
 |0=>dB [f]
 |n+1=>match QS l f n with
  |none=>eH
  |some out=>match l.find? (abf f ((n+1:Nat):Int))with
   |none=>eH
   |some x=>dB (out++[x])
def abg(l:List Pg)(f:Pg):Option (List Pg):=if f.many<=0 then eH else QS l f (f.many.toNat-1)
def adk(s:List Pg):Option aB:=
 match acw (s.flatMap Pg.bears)with
 |none=>eH
 |some m=>if bG m=s.map Pg.cell then dB m else eH
def YM(a:List Pg)(out:List aB)(x:Pg):List aB:=
 if x.num≠0 then out else match abg a x with
 |none=>out
 |some s=>match adk s with
  |none=>out
  |some m=>if out.any (λy=>decide (gG y=gG m))then out else out++[m]
def adl(a:List Pg)(xs:List Pg):List aB:=xs.foldl (YM a) []
def aed(a b:aB):Bool:=decide (b.seq<=a.seq)
def aee(l:dT):List aB:=(adl (l.filterMap DN) (l.filterMap DN)).mergeSort aed
theorem Jc(s:Sl)(l:Row)(c:UInt8)(h:hY)(q:Rd h s 1 aq l)(z:s.len<=s.cap)(w:m8 l<=2^30):
  aj xT 301 #[s,xJ xQ c.toNat] h λv h'=>∃k:Nat,v=xK s.ptr k s.cap/\k<=m8 l/\(∀j (f:j<m8 l),k<=j->l[j]=c)/\(∀(d:k-1<m8 l),0<k->l[k-1]≠c)/\h'=h:=by
 refine ts Tryz.func301 ?_ (F8 (E5 (E9 [(0,bJ)] [(0,1),(5,23)] (E7 (E8 [(0,bJ)] [(0,1),(5,23)] (G0 [] [(5,18)] E6)))) E6));have p:=q.len;refine aE ?_;refine ak (λk:Nat=>(⟨s.ptr,k,s.cap⟩:Sl)) (λk h'=>h'=h/\k<=m8 l/\∀j (f:j<m8 l),k<=j->l[j]=c) (λk=>k) l.length (by rw[<-p]) ⟨m9,qj _,λj f d=>nb⟩ ?_;rintro k y ⟨rfl,d,b⟩
 try dsimp only
 refine aE (ae (λe=>?_) λe=>?_)
 .have t:0<k:=nb
  rw[af _];refine(q.take k d).aW (g:=λx:UInt8=>Value.int .u8 x.toNat) (k-1) nb n2 (l[k-1]'nb) (by simp[aq]) ?_|>λ⟨a,ha,x,hx,hK⟩=>⟨a,ha,x.toNat,hx,hK⟩
  refine aZ (λi=>?_) (λi=>?_)
  .have o:l[k-1]'nb=c:=by
    have:(l[k-1]'nb).toNat=c.toNat:=by exact_mod_cast i
    exact yy.1 this
   refine⟨⟨nb,nb⟩,k-1,by congr 1;omega,⟨m9,nb,λj f u=>?_⟩,nb⟩;by_cases m:j=k-1
   .subst m;exact o
   .exact b j f nb
  .refine⟨k,m9,d,b,λ_ _ r=>i (by rw[r]),m9⟩
 .exact⟨k,m9,d,b,λ_ h0=>nb,m9⟩
theorem KM(s:Sl)(l:Row)(c:UInt8)(h:hY)(q:Rd h s 1 aq l)(A:s.len<=s.cap)(E:m8 l<=2^30):
  aj xT 300 #[s,xJ xQ c.toNat] h λv h'=>(∃r:Sl,v=r/\(r.len=0↔∀x∈l,x=c))/\h'=h:=by
 refine ts Tryz.func300 ?_ (F8 (E5 (E9 [(0,bJ)] [(0,1),(5,17)] (E7 (E8 [(0,bJ)] [(0,1),(5,17)] (G0 [] [(5,15)] E6)))) E6));have B:=q.len;refine bn (λr h'=>h'=h/\(r.len=0↔∀x∈l,x=c)) ?_ ?_
 .refine ak (λt:Sl×Nat=>t.1) (λt h'=>h'=h/\t.2<=m8 l/\(∀j (d:j<m8 l),j<t.2->l[j]=c)/\Rd h t.1 1 aq (l.drop t.2)/\t.1.len<=t.1.cap) (λt=>m8 l-t.2) (s,0) m9 ⟨m9,n4,λj _ d=>nb,by simpa using q,A⟩ ?_;rintro⟨r,k⟩ y ⟨rfl,F,a,b,g⟩;dsimp only at*;have f:=b.len;rw[qH]at f;refine aE (ae (λe=>?_) λe=>?_)
  .have p:k<m8 l:=nb
   refine b.aW 0 m9 o6 _ m9 ?_;have w:(l.drop k)[0]'(by rw[qH];omega)=l[k]:=n4
   rw[w];refine aZ (λi=>?_) (λi=>?_)
   .have o:l[k]=c:=by
     have:(l[k]).toNat=c.toNat:=by exact_mod_cast i
     exact yy.1 this
    refine⟨⟨nb,nb⟩,(⟨if r.cap=1 then r.ptr else r.ptr.map (·.add (1*1)),r.len-1,r.cap-1⟩,k+1),m9,⟨m9,nb,λj d m=>?_,?_,n1⟩,n1⟩
    .rcases q8.1 m with h2|rfl
     .exact a j d h2
     .exact o
    .have:=b.drop 1 g;rw[List.drop_drop]at this;exact this
   .refine⟨m9,⟨λh0=>nb,λz=>absurd ?_ i⟩⟩;rw[z _ (qe p)]
  .have D:k=m8 l:=nb
   refine⟨m9,⟨λ_ x u=>?_,λ_=>by show r.len=0;omega⟩⟩;obtain⟨j,d,rfl⟩:=qD u;exact a j d nb
 .rintro r y ⟨rfl,b⟩;refine aZ (λe=>?_) (λe=>?_)
  .exact⟨⟨⟨eH,0,0⟩,m9,by rw[<-b];exact⟨λ_=>nb,λ_=>rfl⟩⟩,m9⟩
  .exact⟨⟨r,m9,b⟩,m9⟩
theorem Ko(s:Sl)(l:Row)(cut:ByteArray)(b:cut=⟨#[0]⟩)(h:hY)(d:Rd h s 1 aq l)(q:s.len<=s.cap)(f:m8 l<=2^30):
  aj xT 231 #[s,xM cut] h λv h'=>(∃r:Sl,v=r/\(r.len=0↔∀x∈l,x=0))/\h'=h:=by
 subst b;refine ts Tryz.func231 ?_ (F8 (F8 (F8 (G0 [] [(4,5),(13,28)] E6)))) [(6,(.l [0,1,2,4,5,3,6,7]))];have u:=d.len;refine aZ (λe=>?_) (λe=>?_)
 .refine⟨⟨⟨eH,0,0⟩,m9,⟨λ_ x a=>?_,λ_=>rfl⟩⟩,m9⟩;have:l=[]:=List.eq_nil_of_length_eq_zero nb;subst this;cases a
 .refine sn oi (aE (Fz oi ?_));refine⟨0,⟨nq,m9⟩,Fz nq ?_⟩;refine⟨0,⟨nq,m9⟩,0,⟨nq,m9⟩,?_⟩;refine(Jc s l 0 h d q f).mono ?_;rintro v i ⟨k,rfl,g,o,h3,rfl⟩;refine⟨⟨s.ptr,k,s.cap⟩,m9,I0,?_⟩;refine(KM ⟨s.ptr,k,s.cap⟩ (l.take k) 0 i (d.take k g) (by show k<=s.cap;omega) n2).mono ?_;rintro v w ⟨⟨r,rfl,m⟩,rfl⟩;refine⟨r,m9,I0,⟨r,m9,m.trans ⟨λc x a=>?_,λc x a=>c x (zK a)⟩⟩,m9⟩;obtain⟨j,t,rfl⟩:=qD a;by_cases p:j<k
  .exact c _ (by rw[List.mem_take_iff_getElem];exact⟨j,nb,m9⟩)
  .exact o j t nb
def qv(x:Sl×Sl):aR:=[x.1,x.2]
theorem We:∀x,∀c∈qv x,c.oneCell'=eL:=λx c a=>by
 simp only[qv,qN,List.not_mem_nil,or_false]at a;rcases a with rfl|rfl<;>rfl
def kl:jq (Sl×Sl) fp:=⟨λh q a e=>Seq h q a.1 1 av e.1/\Seq h q a.2 1 aq e.2,λa c=>⟨a.1.ac c,a.2.ac c⟩,λa b=>⟨a.1.mono b,a.2.mono b⟩⟩
abbrev pu:jq Sl (List fp):=ce kl 2 qv
abbrev aef:jq Sl aO:=ce (sq 1 aq) 1 bv
abbrev eQ:bO C.toAA 251 253 2 [xK eH 0 0,xK eH 0 0] 48:=⟨_,_,m9,m9,m9,m9,m9,m9⟩
abbrev Wf:bO C.toAA 79 41 1 [xK eH 0 0] 24:=⟨_,_,m9,m9,m9,m9,m9,m9⟩
abbrev aaq:bO C.toAA 262 4 1 [xN eR] 1:=⟨_,_,m9,m9,m9,m9,m9,m9⟩
theorem pu.get{h:hY}{q:ar}{s:Sl}{L:List fp}(x:pu.p h q s L){i:Int}(n:Nat)(b:i=n)(c:n<m8 L){K:Sl×Sl->Prop}(e:∀r,kl.p h q r L[n]->K r):
  ∃a:fY,(s.ptr=dB a/\0<=i/\i<((s.len:Nat):Int))/\∃x:Sl×Sl,bp h (a.add (i.toNat*2)) 0 [x.1,x.2]/\K x:=by
 obtain⟨rs,d,f,h3⟩:=ce.kZ x;exact d.cQ (g:=qv) n b nb (rs[n]'nb) m9 (e _ (h3 n nb c))
structure uC (h:hY) (p:fY) (l k v:Sl) (L:List fp) (kn:List Bool) (vs:aO):Prop where
 box:bQ h p 320 [l,k,v]
 eqs:fm pu h l L
 known:Rd h k 1 fw kn
 vals:fm aef h v vs
theorem uC.up{h h':hY}{p:fY}{l k v:Sl}{L:List fp}{kn:List Bool}{vs:aO}(x:uC h p l k v L kn vs)(a:aQ (λb=>b<h.size) h h'):uC h' p l k v L kn vs:=
 ⟨x.box.ac a x.box.lt,fm.up x.eqs a,Seq.up x.known a,fm.up x.vals a⟩
theorem Nx{kn:List Bool}{c:Int}(b:0<=c)(a:c.toNat<m8 kn):Qw.kn kn c=kn[c.toNat]:=by unfold Qw.kn;rw[qg,qc a];rfl
theorem mA{m:aO}{i:Nat}(h:i<m8 m):az m i=m[i]:=be h
theorem jK{α:Type}(f:α->Bool)(l:List α){k:Nat}(a:k<m8 l):(l.take (k+1)).filter f=(l.take k).filter f++if f l[k]then[l[k]]else[]:=by rw[aA _ _ a,zi,List.filter_cons];cases f l[k]<;>rfl
theorem sf(V:aO)(a:Row)(l:aC)(c:Int):cY V a (l++[c])=cN 1 (az V c.toNat) (cY V a l):=by unfold cY;rw[wB];rfl
theorem QU(a t:Row):cN 1 a t=zj (λx y=>y^^^x) a t:=by unfold cN;congr 1;funext x y;rw[Gf.one_mul]
theorem DO{a t:Row}(d:m8 a=m8 t){k:Nat}(b:k<m8 t:=by omega):(zj (λx y=>y^^^x) (a.take k) (t.take k)++t.drop k).set k (t[k]^^^(a[k]'nb))=zj (λx y=>y^^^x) (a.take (k+1)) (t.take (k+1))++t.drop (k+1):=by
 have c:(zj (λx y=>y^^^x) (a.take k) (t.take k)).length=k:=n2
 rw[qZ _ _ nb,c,zd,qT b,zt,aA _ _ b,aA _ _ (show k<m8 a by omega),List.zipWith_append n2];simp
theorem Ny(p:fY)(l k v:Sl)(L:List fp)(kn:List Bool)(vs:aO)(n:Nat)(h:hY)(t:uC h p l k v L kn vs)(M:m8 kn=n)(P:∀e∈L,∀c∈e.1,0<=c/\c<(n:Int))(R:m8 L<=2^30)(w:∀e∈L,m8 e.1<=2^30):
  aj xT 336 #[xL (dB p)] h λv h'=>(∃i:Int,v=xJ xP i/\(0<=i->∃(Q:i.toNat<m8 L),((L[i.toNat]).1.filter λc=>!Qw.kn kn c).length=1))/\Sp h h' []:=by
 refine ts Tryz.func336 ?_ (F8 (E5 (F8 (E7 (E8 [(13,aI)] [(2,6),(7,8),(13,40)] (F8 (F8 (E5 (E7 (F8 (F8 (F9 [(5,aI),(21,aI)] [(5,6),(7,8),(21,36)])))) E6)))))) E6));have H:=ce.len t.eqs;refine⟨p,m9,l,t.box.cell0 m9,?_⟩;refine ak (λi:Nat=>(i:Int)) (λi h'=>i<=m8 L/\Sp h h' []) (λi=>m8 L-i) 0 m9 ⟨nb,Sp.refl h⟩ ?_;rintro i K ⟨Q,D⟩;refine ae (λe=>?_) λe=>⟨⟨-1,m9,λT=>nb⟩,D⟩;have g:i<m8 L:=nb
 refine pu.get (fm.up t.eqs D.ac) i m9 g λx G=>?_;refine(Sp.refl K).alloc ag m9 λa S F=>?_;refine F.storeAll ag 0 m9 m9 (qv x) m9 m9 m9 m9 λh3 u=>?_;have A:=up D.ac u.ac;have o:=t.up A;have q:=kl.mono (kl.loc G u.ac) λb J=>qU J u.ac.1;have B:=u.box 0 m9;refine⟨x.1,B.cell0 m9,?_⟩;have O:=q.1.len;have E:=w _ (qe g);let d:Nat->Nat:=λj=>(((L[i]).1.take j).filter λc=>!Qw.kn kn c).length;refine ak (λj:Nat=>(((d j:Nat):Int),(j:Int))) (λj h'=>h'=h3/\j<=(L[i]).1.length) (λj=>(L[i]).1.length-j) 0 A4 ⟨m9,nb⟩ ?_;rintro j V ⟨rfl,U⟩
 try dsimp only
 have I:d j<=j:=qX (qK _ _) n2;refine ae (λN=>?_) (λN=>?_)
 .have f:j<(L[i]).1.length:=nb
  have y:=P _ (qe g) _ (qe f);refine q.1.aW j m9 f _ m9 ?_;refine⟨p,m9,k,o.box.cell m9,?_⟩;refine o.known.aW (L[i]).1[j].toNat nb nb _ m9 ?_;rw[af ((j:Int)+1),af _];have r:=Nx (kn:=kn) y.1 nb;refine aH (λm=>?_) (λm=>?_)
  .refine⟨j+1,?_,⟨m9,nb⟩,nb⟩;have:d (j+1)=d j+1:=by simp only[d];rw[jK _ _ f,r,m];simp
   rw[this];rfl
  .refine⟨j+1,?_,⟨m9,nb⟩,nb⟩;have:d (j+1)=d j:=by simp only[d];rw[jK _ _ f,r,m];simp
   rw[this];rfl
 .have z:j=(L[i]).1.length:=nb
  subst z;have s:d (L[i]).1.length=((L[i]).1.filter λc=>!Qw.kn kn c).length:=by simp only[d];rw[qt]
  rw[s];refine aZ (λm=>⟨⟨i,m9,λ_=>⟨nb,by exact_mod_cast m⟩⟩,.zip A⟩) λm=>?_;exact⟨i+1,n7,⟨nb,.zip A⟩,nb⟩
theorem Kp(p:fY)(l k v:Sl)(L:List fp)(kn:List Bool)(vs:aO)(n w:Nat)(x:Sl×Sl)(e:fp)(h:hY)(hP:uC h p l k v L kn vs)(K:jV n w L kn vs)(W:fm kl h x e)(H:jd n w e)(hw:w<=2^20)(ao:m8 e.1<=2^20):
  aj xT 285 #[xL (dB p),xO #[x.1,x.2]] h λr h'=>∃a b:Sl,r=xO #[a,b]/\Sp h h' [ai 3 a 1 av (fA kn vs e).1,ai 5 b 1 aq (fA kn vs e).2]:=by
 refine ts Tryz.func285 ?_ (F8 (F8 (E5 (F8 (E7 (E8 [(17,aI)] [(7,10),(17,58)] (F8 (F8 (E5 (E7 (F8 (F8 (F8 (E7 (E8 [(43,aI)] [(8,10),(43,57)] E6)))))) E6)))))) E6))) (args:=[(dB p),x]);refine(Sp.refl h).boxed λU h1 H1=>?_;refine H1.alloc ag m9 λT h2 O=>?_;have P2:=O.ac;refine⟨x.2,(O.box 0 m9).cell m9,(fW x.2 e.2 h2 (Seq.up W.2 P2) (by have:=H.len;omega)).Hf λd h3 R3=>?_⟩;have H3:=O.comp R3;refine⟨d,m9,H3.alloc ag m9 λa5 h4 H4=>?_⟩;refine H4.storeAll ag 3 m9 m9 (qv (⟨eH,0,0⟩,d)) m9 m9 m9 m9 λh5 H5=>?_;have H6:Sp h h5 [an U 253 (qv x),an T 253 [xK eH 0 0,xK eH 0 0],ai 5 d 1 aq e.2,an a5 253 (qv (⟨eH,0,0⟩,d)),ai 3 ⟨eH,0,0⟩ 1 av []]:=H5.nil 3 1 av;refine⟨x.1,(H6.box 0 m9).cell0 m9,?_⟩;have al:=W.1.len;have ap:=K.klen;have ab:=K.vlen;refine ak (λt:Nat×Sl=>(t.1:Int)) (λt h'=>t.1<=m8 e.1/\Sp h h' [an U 253 (qv x),an T 253 [xK eH 0 0,xK eH 0 0],ai 5 d 1 aq (cY vs e.2 ((e.1.take t.1).filter λc=>Qw.kn kn c)),an a5 253 (qv (t.2,d)),ai 3 t.2 1 av ((e.1.take t.1).filter λc=>!Qw.kn kn c)]) (λt=>m8 e.1-t.1) (0,⟨eH,0,0⟩) m9 ⟨n4,by simpa[cY]using H6⟩ ?_;rintro⟨j,o⟩ h7 ⟨hj,q⟩;dsimp only at*;have u:(cY vs e.2 ((e.1.take j).filter λc=>Qw.kn kn c)).length=w:=jU H.len λc hc=>by
  have G:=qJ.1 hc;have E:=zK G.1;exact K.Dj (H.df c E).1 (H.df c E).2 G.2
 have ad:((e.1.take j).filter λc=>!Qw.kn kn c).length<=j:=qX (qK _ _) n2;refine ae (λe2=>?_) (λe2=>?_)
 .have f:j<m8 e.1:=nb
  have s:=H.df _ (qe f);have z:=hP.up q.ac;refine(Seq.up W.1 q.ac).aW j m9 f _ m9 ?_;refine⟨p,m9,k,z.box.cell m9,?_⟩;refine z.known.aW (e.1[j]).toNat nb nb _ m9 ?_;have F:=Nx (kn:=kn) s.1 nb;refine aH (λB=>?_) (λB=>?_)
  .rw[<-F]at B;refine⟨o,(q.box 3 m9).cell0 m9,?_⟩;refine q.push ag 4 m9 ge m9 nq (λ_=>rfl) dt e.1[j] m9 nq nb λo' h8 g=>?_;refine g.gO ag 3 m9 m9 [o'] m9 m9 m9 (by simp[qv]) λh9 M=>?_;refine⟨(j+1,o'),n3,⟨n1,?_⟩,n1⟩
   try dsimp only
   rw[jK _ _ f,jK _ _ f,B];simp only[Bool.not_false,if_true,zc,if_false,qL];exact M
  .rw[<-F]at B;have J:=K.Dj s.1 s.2 B;rw[mA nb]at J;refine⟨p,m9,v,z.box.cell m9,?_⟩;obtain⟨vr,X,am,Q⟩:=ce.kZ hP.vals;have i:(e.1[j]).toNat<m8 vs:=nb
   refine(Seq.up X q.ac).ly (e.1[j]).toNat nb nb ?_;have N:=(Q (e.1[j]).toNat nb i).1;have I:=N.len;generalize vr[(e.1[j]).toNat]'nb=y at N I⊢;obtain⟨A,Z⟩:=HF (vs[(e.1[j]).toNat]'i)
   obtain⟨D,Y⟩:=HF (cY vs e.2 ((e.1.take j).filter λc=>Qw.kn kn c))
   rw[<-Z]at J N I;rw[<-Y]at q u;refine ak (λm:Nat=>(m:Int)) (λm h'=>m<=w/\Sp h h' [an U 253 (qv x),an T 253 [xK eH 0 0,xK eH 0 0],ai 5 d 1 aq (zj (λx y=>y^^^x) (A.take m) (D.take m)++D.drop m),an a5 253 (qv (o,d)),ai 3 o 1 av ((e.1.take j).filter λc=>!Qw.kn kn c)]) (λm=>w-m) 0 m9 ⟨nb,by simpa using q⟩ ?_;rintro m h8 ⟨hm,g⟩;have R:(zj (λx y=>y^^^x) (A.take m) (D.take m)).length=m:=n2
   refine ae (λe4=>?_) (λe4=>?_)
   .have ah:m<w:=nb
    refine(Seq.up N g.ac).aW m m9 nb _ m9 ?_;refine⟨d,(g.box 3 m9).cell m9,?_⟩;refine(g.seq 2 m9 λ_=>rfl).aW m m9 n2 _ m9 ?_;have S:((zj (λx y=>y^^^x) (A.take m) (D.take m)++D.drop m)[m]'(by simp;omega))=D[m]'nb:=by rw[yF nb];simp[R]
    rw[S,mi];refine g.set ag 2 m9 (λ_=>rfl) m9 m m9 n2 (D[m]'nb^^^A[m]'nb) m9 m9 m9 λh9 M=>?_;rw[DO nb]at M;exact⟨m+1,n7,⟨nb,M⟩,nb⟩
   .have P:m=w:=nb
    subst P;refine⟨(j+1,o),n3,⟨n1,?_⟩,n1⟩
    try dsimp only
    rw[jK _ _ f,jK _ _ f,B];simp only[Bool.not_true,if_true,zc,if_false,qL];rw[sf,mA i,<-Z,<-Y,QU];rw[qh nb,qh nb,zh nb,qL]at g;exact g
 .have V:j=m8 e.1:=nb
  subst V;rw[qt]at q;refine⟨(o,d),(q.box 3 m9).aw _ m9,?_⟩;refine q.storeAll ag 1 m9 m9 (qv (o,d)) m9 m9 m9 m9 λh8 g=>?_;refine⟨(o,d),(g.box 1 m9).aw _ m9,o,d,m9,?_⟩;exact g.bs [4,2]
theorem aa.aew{B:ar}{c h:hY}{As:List HP}{e k:Nat}{α:Type}{f:α->aR}{s:Sl}{l:List α}(H:aa B c h As)(i:Nat)(m:As[i]?=dB (ai e s k f l))(g:∀x,(f x).length=k)(d:l≠[]):aa B c h (As.set i (EA (sq k f) s l)):=
 H.dY i m λq ⟨a,b⟩=>⟨a.seq g b,λj=>absurd j d⟩
theorem count_set{l:List Bool}:∀{i:Nat} (h:i<m8 l),l[i]=eR->((l.set i eL).count eR)+1=l.count eR:=by
 induction l with
 |nil=>intro i h;simp at h
 |cons a l ih=>
  intro i h b;cases i with
  |zero=>simp at b;subst b;simp
  |succ i=>
   have:=ih (i:=i) p5 u6;rw[wZ,List.count_cons,List.count_cons];omega
theorem Wg(p:fY)(l k v:Sl)(L:List fp)(n w:Nat)(o h:hY)(Q:fm pu o l L)(D:∀e∈L,jd n w e)(hn:n<=64)(X:m8 L<=2^20)(R:1<=w/\w<=2^20)(s:∀e∈L,m8 e.1<=2^20)
  (H:Sp o h [an p 320 [l,k,v],ai 4 k 1 fw (qf n eR),dP 41 v 1 bv (sq 1 aq) (qf n [])]):
  aj xT 284 #[xL (dB p)] h λr h'=>r=.tuple #[]/\∃kn vs,jV n w L kn vs/\Sp o h' [an p 320 [l,k,v],ai 4 k 1 fw kn,dP 41 v 1 bv (sq 1 aq) vs]:=by
 refine ts Tryz.func284 ?_ (.scope 0 [] [(2,37)] [] [E6] []);refine ak (λ_:List Bool×aO=>()) (λt h'=>jV n w L t.1 t.2/\Sp o h' [an p 320 [l,k,v],ai 4 k 1 fw t.1,dP 41 v 1 bv (sq 1 aq) t.2]) (λt=>t.1.count eR) (qf n eR,qf n []) m9 ⟨Ss n w L,H⟩ ?_;rintro⟨kn,vs⟩ K ⟨m,O⟩;dsimp only at*;have N:=m.klen;have W:=m.vlen;have mk:∀{z},Sp o z [an p 320 [l,k,v],ai 4 k 1 fw kn,dP 41 v 1 bv (sq 1 aq) vs]->uC z p l k v L kn vs:=λf=>
  ⟨f.box 0 m9,fm.up Q f.ac,f.seq 1 m9 λ_=>rfl,f.eRd 2 m9 λ_=>rfl⟩
 refine(Ny p l k v L kn vs n K (mk O) N (λe F=>(D e F).df) nb λe F=>by have:=s e F;omega).mono ?_;rintro _ z ⟨⟨i,rfl,hi⟩,Z⟩;refine⟨i,m9,?_⟩;have f:=O.up Z.ac;refine ae (λe=>⟨m9,kn,vs,m,f⟩) λe=>?_;have G:0<=i:=Int.not_lt.1 e;obtain⟨A,q⟩:=hi G;have g:=mk f;refine⟨p,m9,l,g.box.cell0 m9,?_⟩;refine pu.get g.eqs i.toNat nb A λx T=>?_;have d:=qe A;refine(Kp p l k v L kn vs n w x L[i.toNat] z g m T (D _ d) R.2 (s _ d)).mono ?_;rintro _ h3 ⟨a,b,rfl,U⟩;refine⟨(a,b),m9,?_⟩;obtain⟨c,E⟩:∃c,(fA kn vs L[i.toNat]).1=[c]:=by
  have K:(fA kn vs L[i.toNat]).1.length=1:=q
  match z:(fA kn vs L[i.toNat]).1,K with
  |[c],_=>exact⟨c,m9⟩
 have u:=m.AH (D _ d);have J:=u.df c (by rw[E];simp);have y:Qw.kn kn c=eR:=Dk m L[i.toNat] c (by rw[E];simp);rw[Nx J.1 nb]at y;have P:=f.comp U;rw[E]at P;refine P.alloc ag m9 λa8 h4 V=>?_;refine V.storeAll ag 5 m9 m9 (qv (a,b)) m9 m9 m9 m9 λh5 j=>?_;refine⟨p,m9,k,(j.box 0 m9).cell m9,a,(j.box 5 m9).cell0 m9,?_⟩;have B:=j.seq 3 m9 λ_=>rfl;refine B.aW 0 m9 n4 c m9 ?_;refine⟨p,m9,v,(j.box 0 m9).cell m9,a,(j.box 5 m9).cell0 m9,?_⟩;refine B.aW 0 m9 n4 c m9 ?_;refine⟨b,(j.box 5 m9).cell m9,?_⟩;refine j.set ag 1 m9 (λ_=>rfl) m9 c.toNat nb nb eL m9 m9 m9 λh6 M=>?_;refine⟨⟨(M.box 5 m9).cell m9,(M.box 5 m9).cell0 m9,I0⟩,?_⟩;have I:(fA kn vs L[i.toNat]).2≠[]:=λY=>by have:=u.len;rw[Y]at this;simp at this;omega
 have H7:=aa.aew M 4 m9 (λ_=>rfl) I;refine H7.aep ag 2 4 nq m9 m9 (λ_=>rfl) m9 c.toNat nb nb m9 m9 m9 λh8 S=>⟨I0,?_⟩
 refine⟨(kn.set c.toNat eL,vs.set c.toNat (fA kn vs L[i.toNat]).2),m9,⟨UO m D d E,S.bs [0,1,2]⟩,?_⟩;have:=count_set (l:=kn) (i:=c.toNat) nb y;dsimp only;omega
theorem Ps(s:Sl)(l:Row)(h:hY)(c:Rd h s 1 aq l)(b:s.len<=s.cap)(a:m8 l<=2^30):
  aj xT 286 #[s] h λv h'=>v=xN (!(l.any (· !=0)))/\h'=h:=by
 refine ts Tryz.func286 ?_;refine(Ko s l _ m9 h c b a).mono ?_;rintro _ e ⟨⟨r,rfl,d⟩,rfl⟩;refine⟨r,m9,?_,m9⟩;congr 1;rw[yG];simp only[beq_iff_eq,Bool.not_eq_true',wh,bne_iff_ne,ne_eq,Decidable.not_not];rw[<-d];omega
def Jd(l:aC):Prop:=∀i (h:i+1<m8 l),l[i]<l[i+1]
theorem KN(n:Nat)(l:Sl)(L:List fp)(w:Nat)(h:hY)(q:fm pu h l L)(G:∀e∈L,jd n w e/\Jd e.1)(hn:n<=64)(O:m8 L<=2^20)(s:∀e∈L,m8 e.1<=2^20):
  aj xT 283 #[xJ xP n,l] h λv h'=>v=xN eL/\Sp h h' []:=by
 refine ts Tryz.func283 ?_ (F8 (G0 [] [(4,5),(9,15)] (E5 (F8 (E7 (E8 [(17,aI)] [(4,5),(6,9),(17,61)] (F8 (F8 (E5 (E7 (F8 (F9 [(24,aI)] [(4,5),(7,9),(24,51)]))) E6)))))) E6)));have M:=ce.len q;refine aE (ae (λe=>nb) λ_=>ae (λe=>nb) λ_=>?_);refine ak (λi:Nat=>(i:Int)) (λi h'=>i<=m8 L/\Sp h h' []) (λi=>m8 L-i) 0 m9 ⟨nb,Sp.refl h⟩ ?_;rintro i R ⟨hi,z⟩;refine ae (λe=>?_) λe=>⟨m9,z⟩;have d:i<m8 L:=nb
 refine pu.get (fm.up q z.ac) i m9 d λx J=>?_;refine(Sp.refl R).alloc ag m9 λa h2 I=>?_;refine I.storeAll ag 0 m9 m9 (qv x) m9 m9 m9 m9 λh3 p=>?_;have E:=up z.ac p.ac;have c:=kl.mono (kl.loc J p.ac) λb P=>qU P p.ac.1;have f:=p.box 0 m9;refine⟨x.1,f.cell0 m9,?_⟩;have T:=c.1.len;have F:=s _ (qe d);obtain⟨m,t⟩:=G _ (qe d);refine ak (λj:Nat=>(j:Int)) (λj h'=>h'=h3/\j<=(L[i]).1.length) (λj=>(L[i]).1.length-j) 0 m9 ⟨m9,nb⟩ ?_;rintro j H ⟨rfl,hj⟩;refine ae (λS=>?_) (λS=>?_)
 .have o:j<(L[i]).1.length:=nb
  have N:=m.df _ (qe o);refine c.1.aW j m9 o _ m9 ?_;refine ae (λe=>nb) λ_=>ae (λe=>nb) λ_=>?_;have D:∃A:Nat,qd xP ((j:Int)+1)=(A:Int)/\(H=H/\A<=(L[i]).1.length)/\(L[i]).1.length-A<(L[i]).1.length-j:=⟨j+1,n7,⟨m9,nb⟩,nb⟩
  refine ae (λV=>?_) λV=>D;refine⟨x.1,f.cell0 m9,?_⟩;rw[af ((j:Int)-1)];refine c.1.aW (j-1) nb nb _ m9 ?_;have B:=t (j-1) nb;have W:(L[i]).1[j-1+1]'nb=(L[i]).1[j]:=by congr 1;omega
  rw[W]at B;exact ae (λe=>absurd B nb) λ_=>D
 .refine⟨x.2,f.cell m9,?_⟩;obtain⟨rs,U,h8,Q⟩:=ce.kZ (fm.up q E);have u:=(Q 0 nb nb).2.len;obtain⟨r,Y,y,X,Z⟩:=U.cQ (g:=qv) (i:=(0:Int)) 0 rfl nb (rs[0]'nb) rfl (K:=λy=>y.2.len=w) (by rw[u];exact(G _ (qe (show 0<m8 L by omega))).1.len);refine⟨r,Y,y.2,?_,?_⟩
  .exact X.2.1
  have k:=c.2.len;rw[m.len]at k;refine bm (λe=>absurd (by rw[k,Z]) e) λ_=>?_;exact⟨i+1,n7,⟨nb,.zip E⟩,nb⟩
theorem aa.Wh{B:ar}{m h:hY}{As:List HP}{e k:Nat}{α β:Type}{E:jq α β}{f:α->aR}{s:Sl}{n:Nat}{a:α}{b:β}(H:aa B m h As)(i:Nat)(v:As[i]?=dB (ai e s k f (qf n a)))(o:∀h,E.p h (λ_=>False) a b):aa B m h (As.set i (dP e s k f E (qf n b))):=
 H.dY i v λq ⟨x,y⟩=>⟨_,λ_=>False,x,λc t=>⟨y c t,λh=>h⟩,λ_ h=>h.elim,n4,λj r l d g=>by
  rw[wE]at d g;split at d
  .rename_i u;rw[hZ u]at g;cases d;cases g;exact o h
  .cases d⟩
theorem aa.adm{B:ar}{f h:hY}{As:List HP}{e m:Nat}{a b:Sl}{l:aC}{r:Row}(H:aa B f h As)(i j:Nat)(d:i≠j)(o:As[i]?=dB (ai e a 1 av l))(n:As[j]?=dB (ai m b 1 aq r)):aa B f h ((As.set i (EA kl (a,b) (l,r))).set j emp):=
 H.merge i j d o n λq p _ k g=>⟨k.1.seq (λ_=>rfl) λx c=>.inl (k.2 x c),g.1.seq (λ_=>rfl) λx c=>.inr (g.2 x c)⟩
theorem Wi(kn:List Bool)(vs:aO)(L:List fp){i:Nat}(a:i<m8 L):aX kn vs (L.take (i+1))=if(fA kn vs L[i]).1.isEmpty then aX kn vs (L.take i)else aX kn vs (L.take i)++[fA kn vs L[i]]:=by unfold aX;rw[aA _ _ a,qE,zi];cases h:(fA kn vs L[i]).1.isEmpty<;>simp[h]
theorem To(kn:List Bool)(vs:aO)(L:List fp){i:Nat}(a:i<m8 L):kE kn vs (L.take (i+1))=(kE kn vs (L.take i)||((fA kn vs L[i]).1.isEmpty&&(fA kn vs L[i]).2.any (· !=0))):=by unfold kE;rw[aA _ _ a,qE,ye];simp
theorem Tp{kn:List Bool}{vs:aO}{L:List fp}{i:Nat}(h:kE kn vs (L.take i)=eL):kE kn vs L=eL:=by rw[<-qA i L];unfold kE at*;rw[qE,ye,h];rfl
theorem Wj(l:Sl)(L:List fp)(n w:Nat)(h:hY)(F:fm pu h l L)(V:∀e∈L,jd n w e/\Jd e.1)(hn:n<=64)(H:m8 L<=2^20)(hw:1<=w/\w<=2^20)(B:∀e∈L,m8 e.1<=2^20):
  aj xT 225 #[xJ xP n,l] h λr h'=>∃kn vs,jV n w L kn vs/\((kE kn vs L=eL/\r=.tuple #[xK eH 0 0,xK eH 0 0,xK eH 0 0,xJ xP 10]/\Sp h h' [])∨
   (kE kn vs L=eR/\∃k v s:Sl,r=.tuple #[k,v,s,xJ xP 0]/\Sp h h' [ai 4 k 1 fw kn,dP 41 v 1 bv (sq 1 aq) vs,dP 253 s 2 qv kl (aX kn vs L)])):=by
 refine ts Tryz.func225 ?_ (F8 (F8 (G0 [(8,QG)] [(8,9),(16,23)] (F8 (F9 [(6,bJ),(27,aI)] [(4,8),(10,12),(27,47)]))))) [(3,(.y [0,1,3] (.l [2,4,5,6,7]) (.l [4,2,5,6,7])))];have al:=ce.len F;refine(KN n l L w h F V hn H B).G7 λh1 R1=>⟨eL,m9,aH (λe=>n5) λ_=>?_⟩;refine bn (λs h'=>∃(p:fY) (k v:Sl),s=dB p/\Sp h h' [an p 320 [l,k,v],ai 4 k 1 fw (qf n eR),dP 41 v 1 bv (sq 1 aq) (qf n [])]) ⟨?_,?_⟩ ?_
 .refine R1.make ag fw aaq nq eR m9 m9 n n m9 m9 (qj _) nb λk h2 ad O Q=>⟨I0,?_⟩
  refine Q.make ag bv Wf nq ⟨eH,0,0⟩ m9 m9 n n m9 m9 (qj _) nb λv h3 M R T=>⟨I0,?_⟩
  refine T.boxed λp P G=>⟨I0,p,k,v,m9,?_⟩
  exact(aa.Wh (E:=sq 1 aq) (b:=[]) G 1 m9 λh=>⟨Seq.nil _ _ _ _ _ _,λ_=>rfl⟩).bs [2,0,1]
 .refine R1.make ag bv Wf nq ⟨eH,0,0⟩ m9 m9 n n m9 m9 (qj _) nb λv h3 M R T=>⟨I0,?_⟩
  refine T.make ag fw aaq nq eR m9 m9 n n m9 m9 (qj _) nb λk h2 ad O Q=>⟨I0,?_⟩
  refine Q.boxed λp P G=>⟨I0,p,k,v,m9,?_⟩
  exact(aa.Wh (E:=sq 1 aq) (b:=[]) G 0 m9 λh=>⟨Seq.nil _ _ _ _ _ _,λ_=>rfl⟩).bs [2,1,0]
 rintro s P ⟨p,k,v,rfl,G⟩;refine(Wg p l k v L n w h P F (λe he=>(V e he).1) hn H hw B G).G7 λh5 ⟨kn,vs,K,H5⟩=>⟨(),m9,?_⟩;refine ak (λt:Nat×Sl=>(t.2,(t.1:Int))) (λt h'=>t.1<=m8 L/\kE kn vs (L.take t.1)=eR/\Sp h h' [an p 320 [l,k,v],ai 4 k 1 fw kn,dP 41 v 1 bv (sq 1 aq) vs,dP 253 t.2 2 qv kl (aX kn vs (L.take t.1))]) (λt=>m8 L-t.1) (0,⟨eH,0,0⟩) m9 ⟨n4,m9,H5.Ma 253 2 qv kl⟩ ?_;rintro⟨i,o⟩ h6 ⟨hi,q,D⟩;dsimp only at*;refine ae (λe=>?_) (λe=>?_)
 .have m:i<m8 L:=nb
  obtain⟨rs,q1,q2,q3⟩:=ce.kZ F;have hx:=q3 i nb m;refine(Seq.up q1 D.ac).cQ (g:=qv) i m9 nb (rs[i]'nb) m9 ?_;generalize rs[i]'nb=x at hx⊢;refine D.alloc ag m9 λa h7 H7=>?_;refine H7.storeAll ag 4 m9 m9 (qv x) m9 m9 m9 m9 λh8 A=>?_;refine⟨x,(A.box 4 m9).aw _ m9,?_⟩;have W:uC h8 p l k v L kn vs:=⟨A.box 0 m9,fm.up F A.ac,A.seq 1 m9 λ_=>rfl,A.eRd 2 m9 λ_=>rfl⟩
  obtain⟨I,-⟩:=V _ (qe m);have ah:fm kl h8 x L[i]:=fm.up hx A.ac;refine(Kp p l k v L kn vs n w x L[i] h8 W K ah I hw.2 (B _ (qe m))).mono ?_;rintro _ h9 ⟨c,d,rfl,R9⟩;refine⟨(c,d),m9,?_⟩;have H9:=A.comp R9;refine H9.alloc ag m9 λa2 am Y=>?_;refine Y.storeAll ag 7 m9 m9 (qv (c,d)) m9 m9 m9 m9 λab f=>?_;refine⟨c,(f.box 7 m9).cell0 m9,?_⟩;have z:=(f.own 5 m9).len;have ax:(aX kn vs (L.take i)).length<=m8 L:=by unfold aX;refine qX (qK _ _) ?_;simp;omega
  have u:=Wi kn vs L m;have j:=To kn vs L m;refine ae (λe2=>?_) (λe2=>?_)
  .have N:(fA kn vs L[i]).1.isEmpty=eR:=by
    cases hh:(fA kn vs L[i]).1 with
    |nil=>rw[hh]at z;simp at z;omega
    |cons a l=>rfl
   rw[N]at u j;refine⟨(c,d),(f.box 7 m9).aw _ m9,?_⟩;have Z:=aa.adm f 5 6 nq m9 m9;refine Z.En ag 3 5 nq m9 m9 eQ m9 nq (λ_=>rfl) We m9 nq nb λo' ap S=>?_;refine⟨(i+1,o'),n3,⟨n1,by dsimp only;rw[j,q];rfl,?_⟩,n1⟩
   try dsimp only
   rw[u];exact S.bs [0,1,2,3]
  .have X:(fA kn vs L[i]).1.isEmpty=eL:=by
    cases hh:(fA kn vs L[i]).1 with
    |nil=>rfl
    |cons a l=>rw[hh]at z;simp at z;omega
   rw[X]at u j;refine⟨d,(f.box 7 m9).cell m9,?_⟩;refine(Ps d _ ab (f.seq 6 m9 λ_=>rfl) (f.own 6 m9).cap (by have:=(K.AH I).len;omega)).G6 ⟨_,m9,aH (λJ=>?_) λJ=>?_⟩
   .refine⟨kn,vs,K,.inl ⟨Tp (i:=i+1) ?_,m9,f.bs []⟩⟩;rw[j];simp at J;simp[J]
   .refine⟨(i+1,o),n3,⟨n1,?_,?_⟩,n1⟩
    ·(try dsimp only);rw[j,q];simp at J;simp;exact J
    .try dsimp only
     rw[u];exact f.bs [0,1,2,3]
 .have U:i=m8 L:=nb
  subst U;rw[qt]at D q;refine⟨p,m9,k,(D.box 0 m9).cell m9,p,m9,v,(D.box 0 m9).cell m9,kn,vs,K,.inr ⟨q,k,v,o,m9,D.bs [1,2,3]⟩⟩
def fT(pool:List (Sl×Row)):HP:=⟨λh q=>∀x∈pool,Seq h q x.1 1 aq x.2,λa d x b=>(a x b).ac d,λa c x b=>(a x b).mono c⟩
theorem aa.aar{B:ar}{a h:hY}{As:List HP}(H:aa B a h As):aa B a h (As++[fT []]):=
 H.comp (.one (aQ.refl _ _) λx b=>by cases b)
theorem aa.pool{B:ar}{c h:hY}{As:List HP}(H:aa B c h As)(i j:Nat)(b:i≠j){pool:List (Sl×Row)}{r:Sl}{l:Row}(f:As[i]?=dB (fT pool))(e:As[j]?=dB (Ae r 1 aq l)):aa B c h ((As.set i (fT ((r,l)::pool))).set j emp):=
 H.merge i j b f e λm k _ g d x a=>by
  rcases qN.1 a with rfl|a
  .exact Seq.mono d λ_ h=>.inr h
  .exact(g x a).mono λ_ h=>.inl h
theorem aa.iu{B:ar}{b h:hY}{As:List HP}(H:aa B b h As)(i:Nat){pool:List (Sl×Row)}(c:As[i]?=dB (fT pool)){r:Sl}{l:Row}(a:(r,l)∈pool):Rd h r 1 aq l:=(H.at i c) _ a
theorem aa.rc{B:ar}{d h:hY}{As:List HP}(H:aa B d h As)(i j:Nat)(a:i≠j){pool:List (Sl×Row)}{s:Sl}{rs:List Sl}{ll:aO}(u:As[i]?=dB (ai 41 s 1 bv rs))(t:As[j]?=dB (fT pool))
  (f:m8 rs=m8 ll) (n:∀(k:Nat) r l,rs[k]?=dB r->ll[k]?=dB l->(r,l)∈pool):aa B d h ((As.set i (dE 41 s 1 aq ll)).set j emp):=
 H.merge i j a u t λv g m c q=>⟨rs,g,c.1,λb e=>⟨.inl (c.2 b e),m b (c.2 b e)⟩,λ_ h=>.inr h,f,λk r l o p=>q _ (n k r l o p)⟩
def bZ(pool:List (Sl×Row))(g:Row->Row)(rs:List Sl)(m:aO):Prop:=m8 rs=m8 m/\∀(i:Nat) r l,rs[i]?=dB r->m[i]?=dB l->(r,g l)∈pool
theorem bZ.get{pool:List (Sl×Row)}{g:Row->Row}{rs:List Sl}{m:aO}(h:bZ pool g rs m){i:Nat}(a:i<m8 m):(rs[i]'(by rw[h.1];exact a),g m[i])∈pool:=
 h.2 i _ _ (qc _) (qc _)
theorem bZ.mono{pool a:List (Sl×Row)}{g:Row->Row}{rs:List Sl}{m:aO}(h:bZ pool g rs m)(c:∀x∈pool,x∈a):bZ a g rs m:=⟨h.1,λi r l d b=>c _ (h.2 i r l d b)⟩
theorem bZ.set{pool:List (Sl×Row)}{g:Row->Row}{rs:List Sl}{m:aO}(h:bZ pool g rs m)(i:Nat){r:Sl}{l:Row}(f:(r,g l)∈pool):bZ pool g (rs.set i r) (m.set i l):=by
 refine⟨by simp[h.1],λk d e c a=>?_⟩;rw[List.getElem?_set]at c a;by_cases b:i=k
 .grind
 .rw[k4 b]at c a;exact h.2 k d e c a
theorem bZ.snoc{pool:List (Sl×Row)}{g:Row->Row}{rs:List Sl}{m:aO}(h:bZ pool g rs m){r:Sl}{l:Row}(f:(r,g l)∈pool):bZ pool g (rs++[r]) (m++[l]):=by
 refine⟨by simp[h.1],λk d e b a=>?_⟩;by_cases c:k<m8 rs
 .rw[qu c]at b;rw[qu (by rw[<-h.1];exact c)]at a;exact h.2 k d e b a
 .have:k=m8 rs:=n8
  subst this;rw[h.1]at a
  grind
theorem bZ.nil(pool:List (Sl×Row))(g:Row->Row):bZ pool g [] []:=⟨m9,λi r l h=>n4⟩
theorem aa.BU{B:ar}{c h:hY}{As:List HP}(H:aa B c h As)(i j:Nat){pool:List (Sl×Row)}{e:Nat}{s:Sl}{rs:List Sl}{ll:aO}(m:As[i]?=dB (ai e s 1 bv rs))(g:As[j]?=dB (fT pool))
  (a:bZ pool id rs ll):gW h (λb=>b<h.size) s 1 aq ll rs:=⟨H.seq i m λ_=>rfl,a.1,λk r l d f=>H.iu j g (a.2 k r l d f)⟩
theorem DP{B:ar}{r h:hY}{As:List HP}(s f:fY)(t:UInt8)(g a:Sl)(b c:Row)(H:aa B r h (ai 5 a 1 aq c::As))(I:St B r As λh=>hU h s=dB (xL (dB f))/\io h f/\Rd h g 1 aq b)
  (J:m8 b=m8 c) (T:m8 b<=2^30) {K:hY->Prop} (M:∀h',aa B r h' (ai 5 a 1 aq (cN t b c)::As)->K h'):
  gr (σ:=Int) (λd O i=>
 Br (decide (d<((g.len:Nat):Int)))
 (∃E:fY,(g.ptr=dB E/\0<=d/\d<((g.len:Nat):Int))/\
 ∃F:Int,hU i (E.add (d.toNat*1))=dB (xJ xQ F)/\
 ∃z:fY,(a.ptr=dB z/\0<=d/\d<((a.len:Nat):Int))/\
 ∃D:Int,hU i (z.add (d.toNat*1))=dB (xJ xQ D)/\
 ∃j:fY,(dB s=dB j)/\
 ∃m:bx,hU i j=dB (.pointer m)/\
 jZ xT 307 #[(.pointer m),(xJ xQ (t.toNat:Int)),(xJ xQ F)] (.one (.sc (.int .u8))) i λu w=>
 (bK.ok [(z.add (d.toNat*1),(xJ xQ D))] w)/\
 ∃o:fY,(a.ptr=dB o/\0<=d/\d<((a.len:Nat):Int))/\
 au xT (qG 5 (xL (dB (o.add (d.toNat*1)))) (xJ xQ (qd xQ ((qF (qq xQ) D^^^(qF (qq xQ) u)).toNat:Nat)))) w λ_ h3=>
 (bK.ok [] h3)/\
 O (qd xP (d+(1:Int))) h3) (K i)) (0:Int) h:=by
 have P:g.len=m8 b:=(I.at [ai 5 a 1 aq c] H).2.2.len;refine ak (λk:Nat=>(k:Int)) (λk h'=>k<=m8 b/\aa B r h' (ai 5 a 1 aq (zj (λx y=>y^^^Gf.mul t x) (b.take k) (c.take k)++c.drop k)::As)) (λk=>m8 b-k) 0 m9 ⟨nb,tg⟩ ?_;rintro k i ⟨R,n⟩;obtain⟨Q,N,S⟩:=I.at [_] n;refine ae (λe=>?_) (λe=>?_)
 .have A:k<m8 b:=nb
  have l:(zj (λx y=>y^^^Gf.mul t x) (b.take k) (c.take k)).length=k:=n2
  have L:(zj (λx y=>y^^^Gf.mul t x) (b.take k) (c.take k)++c.drop k).length=m8 c:=by rw[qo,l,qH];omega
  refine S.aW k m9 A _ m9 ?_;have p:(zj (λx y=>y^^^Gf.mul t x) (b.take k) (c.take k)++c.drop k)[k]'nb=c[k]:=by rw[yF nb];simp[l]
  refine(n.seq 0 m9 λ_=>rfl).nO k m9 nb _ m9 λax q=>?_;rw[p]at q⊢;refine⟨s,m9,dB f,Q,(Gc f t b[k] i N).G6 ?_⟩;refine⟨_,m9,⟨q,I0⟩,?_⟩;rw[mi];refine n.set ag 0 m9 (λ_=>rfl) m9 k m9 nb _ m9 m9 m9 λh3 G=>⟨I0,?_⟩
  rw[zt,ux J nb]at G;exact⟨k+1,n7,⟨nb,G⟩,nb⟩
 .have:k=m8 b:=nb
  subst this;rw[qh (qj _),qh nb,zh nb,qL]at n;exact M i n
def iv(f:fY)(p:Int×Int×Int)(v r e d a c b:Sl):aR:=[xL (dB f),xJ xP p.1,xJ xP p.2.1,xJ xP p.2.2,v,r,e,d,a,c,b]
structure AT (h:hY) (s f:fY) (wa mo:Sl) (wr mr:List Sl) (W M:aO):Prop where
 fld:hU h s=dB (xL (dB f))
 way:hU h (s.add 9)=dB (xK wa.ptr wa.len wa.cap)
 more:hU h (s.add 10)=dB (xK mo.ptr mo.len mo.cap)
 field:io h f
 rW:gW h (λb=>b<h.size) wa 1 aq W wr
 rM:gW h (λb=>b<h.size) mo 1 aq M mr
theorem AT.of{h:hY}{s f:fY}{p:Int×Int×Int}{v r n i j a d:Sl}{e g:List Sl}{W M:aO}(c:bQ h s 261 (iv f p v r n i j a d))(l:io h f)(k:gW h (λb=>b<h.size) a 1 aq W e)(m:gW h (λb=>b<h.size) d 1 aq M g):AT h s f a d e g W M:=
 ⟨c.cell0 m9,c.cell m9,c.cell m9,l,k,m⟩
theorem DQ{B:ar}{j h:hY}{As:List HP}(s f:fY)(t:UInt8)(c:Int)(b a p y:Sl)(w0 e:Row)(w A:List Sl)(W M:aO)(H:aa B j h (ai 5 b 1 aq w0::ai 5 a 1 aq e::As))(i:St B j As λh=>AT h s f p y w A W M)
  (G:0<=c) (o:c.toNat<m8 W) (x:c.toNat<m8 M) (l:(az W c.toNat).length=m8 w0) (u:(az M c.toNat).length=m8 e) (E:m8 w0<=2^30) (F:m8 e<=2^30):
  aj xT 292 #[xL (dB s),xJ xQ t.toNat,xJ xP c,b,a] h λv h'=>v=.tuple #[]/\aa B j h' (ai 5 b 1 aq (cN t (az W c.toNat) w0)::ai 5 a 1 aq (cN t (az M c.toNat) e)::As):=by
 refine ts Tryz.func292 ?_ (E5 (F8 (E7 (E8 [(22,aI)] [(10,12),(22,41)] E6))) (F8 (E7 (E8 [(49,aI)] [(12,14),(49,68)] E6))));have S:=i.at [_,_] H;refine⟨s,m9,p,S.way,?_⟩;rw[mA o]at l⊢;rw[mA x]at u⊢;have q:=S.rW;have D:=q.len;refine q.top.ly c.toNat nb nb ?_;refine DP s f t (w[c.toNat]'nb) b (W[c.toNat]) w0 H (St.mk' λh' k=>?_) l nb λh3 g=>?_
 .have d:=i.at [_] k;exact⟨d.fld,d.field,d.rW.row _ _ _ (qc _) (qc o)⟩
 have z:=i.at [_,_] g;refine⟨s,m9,y,z.more,?_⟩;have r:=z.rM;have m:=r.len;refine r.top.ly c.toNat nb nb ?_;refine DP s f t (A[c.toNat]'nb) a (M[c.toNat]) e g.nF (St.mk' λh' k=>?_) u nb λh3 g=>⟨m9,g.nF⟩
 .have d:=i.at [_] k;exact⟨d.fld,d.field,d.rM.row _ _ _ (qc _) (qc x)⟩
def fM:aC->Bool
 |[]=>eL
 |[_]=>eL
 |a::b::r=>decide (a<b)&&fM (b::r)
theorem HS:∀(l:aC) (a b:Int),fM (l++[a,b])=(fM (l++[a])&&decide (a<b))
 |[],a,b=>by simp[fM]
 |[c],a,b=>by simp[fM]
 |c::d::r,a,b=>by
  have:=HS (d::r) a b;simp only[zD]at this⊢;simp only[fM,this,Bool.and_assoc]
theorem Wk{l r:aC}(h:fM l=eR):fM (l++r)=eR:=by
 induction l with
 |nil=>simp[fM]at h
 |cons a t ih=>
  cases t with
  |nil=>simp[fM]at h
  |cons b t=>
   simp only[fM,vf]at h;simp only[zD,fM,vf];rcases h with h|h
   .exact .inl h
   .exact .inr (ih h)
theorem YN(l:aC)(k:Nat)(h:k+1<m8 l):l.take (k+2)=l.take k++[l[k],l[k+1]]:=by have b:l.take (k+2)=l.take (k+1)++[l[k+1]]:=aA l (k+1) h;have a:=aA l k;rw[b,a,ql];rfl
def fN(n:Int)(r:aC):Bool:=r.all (λc=>decide (0<=c/\c<n))&&fM r
theorem Wm{n:Int}{l r:aC}(h:fN n l=eR):fN n (l++r)=eR:=by
 simp only[fN,vf]at*;rcases h with h|h
 .left;rw[wx,h];rfl
 .right;exact Wk h
theorem Tq{n:Int}{r:aC}(h:0<m8 r):fN n (r.take 1)=decide (0<=r[0]/\r[0]<n):=by
 cases r with
 |nil=>simp at h
 |cons a t=>simp[fN,fM]
theorem Tr{n:Int}{r:aC}{k:Nat}(h:k+1<m8 r):fN n (r.take (k+2))=(fN n (r.take (k+1))&&decide (0<=r[k+1]/\r[k+1]<n)&&decide (r[k]<r[k+1])):=by
 have b:r.take (k+2)=r.take (k+1)++[r[k+1]]:=aA r (k+1) h;have a:fM (r.take (k+2))=(fM (r.take (k+1))&&decide (r[k]<r[k+1])):=by rw[YN r k h,HS,aA r k]
 simp only[fN,a];rw[b,wx];simp only[yB,vw,xo]
 cases(r.take (k+1)).all λc=>decide (0<=c/\c<n)<;>cases fM (r.take (k+1))<;>cases decide (0<=r[k+1]/\r[k+1]<n)<;>simp
theorem uD{n:Int}{r:aC}{k:Nat}(h:fN n (r.take k)=eR):fN n r=eR:=by rw[<-qA k r];exact Wm h
theorem Ts{n:Int}{r:aC}{k:Nat}(c:k<m8 r)(h:fN n (r.take k)=eL):
  (r[k]<0->fN n r=eR)/\(n<=r[k]->fN n r=eR)/\(∀(h0:0<k),r[k]<=r[k-1]->fN n r=eR)/\
  (0<=r[k]->r[k]<n->(∀h0:0<k,r[k-1]<r[k])->fN n (r.take (k+1))=eL):=by
 cases k with
 |zero=>
  have e:=Tq (n:=n) c;refine⟨λa=>uD (k:=1) ?_,λa=>uD (k:=1) ?_,λh0=>nb,λa b _=>?_⟩
  .rw[e,m5 nb]
  .rw[e,m5 nb]
  .rw[e,ln ⟨a,b⟩]
 |succ k=>
  have e:=Tr (n:=n) c;refine⟨λa=>uD (k:=k+2) ?_,λa=>uD (k:=k+2) ?_,λh0 a=>uD (k:=k+2) ?_,λa b h3=>?_⟩
  .rw[e,m5 (p:=0<=r[k+1]/\r[k+1]<n) nb];simp
  .rw[e,m5 (p:=0<=r[k+1]/\r[k+1]<n) nb];simp
  .rw[e,m5 (p:=r[k]<r[k+1]) A8];simp
  .have d:r[k]<r[k+1]:=by simpa using h3 nb
   rw[e,h,ln (p:=0<=r[k+1]/\r[k+1]<n) ⟨a,b⟩,ln d];rfl
def jP(n:Int)(ll:cV):Bool:=decide (0<=n/\n<=64)&&ll.all (fN n)
theorem YO{α:Type}{f:α->Bool}{l:List α}{k:Nat}(a:k<m8 l)(h:(l.take k).all f=eL):(l.take (k+1)).all f=f l[k]:=by rw[aA _ _ a,wx,h];simp
theorem adn{α:Type}{f:α->Bool}{l:List α}{k:Nat}(a:k<m8 l)(h:f l[k]=eR):l.all f=eR:=by rw[zZ];exact⟨l[k],qe a,by simp[h]⟩
theorem Je{p:ar}(n:Int)(a:Sl)(ll:cV)(rs:List Sl)(h:hY)(z:gW h p a 1 av ll rs)(J:m8 ll<=2^40)(s:∀l∈ll,m8 l<=2^40):
  aj xT 337 #[xJ xP n,a] h λv h'=>v=xN (jP n ll)/\h'=h:=by
 refine ts Tryz.func337 ?_ (F8 (G0 [] [(4,5),(9,15)] (E5 (F8 (E7 (E8 [(17,aI)] [(4,5),(6,9),(17,50)] (F8 (F8 (E5 (E7 (F8 (F8 (E7 (E8 [(23,aI)] [(4,5),(7,9),(23,49)] E6))))) E6)))))) E6)));have H:=z.LQ;refine bn (λ_ h'=>h'=h/\0<=n/\n<=64) ?_ ?_
 .refine ae (λg=>⟨?_,m9⟩) (λg=>ae (λe=>⟨?_,m9⟩) λe=>⟨m9,nb,nb⟩)
  .rw[jP,m5 nb];rfl
  .rw[jP,m5 nb];rfl
 .rintro _ h' ⟨rfl,m,u⟩;have x:jP n ll=ll.all (fN n):=by rw[jP,ln ⟨m,u⟩];rfl
  refine ak (λk:Nat=>(k:Int)) (λk h0=>h0=h'/\k<=m8 ll/\(ll.take k).all (fN n)=eL) (λk=>m8 ll-k) 0 m9 ⟨m9,nb,n4⟩ ?_;rintro i h0 ⟨rfl,K,c⟩;refine ae (λt=>?_) (λj=>?_)
  .have d:i<m8 ll:=nb
   refine z.get i m9 d λr o _=>?_;have B:=o.len;have D:=s _ (qe d);have b:fN n ll[i]=eR->jP n ll=eR:=λE=>by rw[x];exact adn d E
   refine ak (λk:Nat=>(k:Int)) (λk e=>e=h0/\k<=ll[i].length/\fN n (ll[i].take k)=eL) (λk=>ll[i].length-k) 0 m9 ⟨m9,nb,by simp[fN,fM]⟩ ?_;rintro k e ⟨rfl,I,q⟩;refine ae (λt=>?_) (λj=>?_)
   .have f:k<ll[i].length:=nb
    obtain⟨F,G,A,w⟩:=Ts f q;refine o.aW k m9 f _ m9 ?_;refine ae (λg=>⟨by rw[b (F g)],m9⟩) λg=>?_;refine ae (λe=>⟨by rw[b (G e)],m9⟩) λe=>?_;rw[af (k+1),af (k-1)];refine ae (λh3=>?_) (λh3=>?_)
    .refine o.aW (k-1) nb nb _ m9 ?_;refine ae (λy=>⟨by rw[b (A nb y)],m9⟩) λy=>?_;exact⟨k+1,n4,⟨m9,nb,w nb nb λ_=>nb⟩,nb⟩
    .exact⟨k+1,n4,⟨m9,nb,w nb nb λ_=>nb⟩,nb⟩
   .rw[qh nb]at q;rw[af (i+1)];exact⟨i+1,n4,⟨m9,nb,by rw[YO d c,q]⟩,nb⟩
  .rw[qh nb]at c;exact⟨by rw[x,c],m9⟩
theorem HT{p:ar}(a:Sl)(c:List Bool)(x:Bool)(h:hY)(i:Seq h p a 1 fw c)(q:m8 c<=2^40):
  aj xT 380 #[a,xN x] h λv h'=>∃r:Int,v=xJ xP r/\(0<=r↔x∈c)/\h'=h:=by
 refine ts Tryz.func380 ?_ (F8 (F9 [(8,aI)] [(4,6),(8,19)]));have l:=i.len;refine ak (λk:Nat=>(k:Int)) (λk h'=>h'=h/\k<=m8 c/\x∉c.take k) (λk=>m8 c-k) 0 m9 ⟨m9,nb,n4⟩ ?_;rintro k h' ⟨rfl,o,f⟩;refine ae (λm=>?_) (λj=>?_)
 .have b:k<m8 c:=nb
  refine i.aW k m9 b _ m9 ?_;refine aS (λg=>⟨_,m9,⟨λ_=>?_,λ_=>nb⟩,m9⟩) (λd=>?_)
  .rw[eq_of_beq g];exact qe b
  .rw[af _];refine⟨k+1,n4,⟨m9,nb,?_⟩,nb⟩;rw[aA _ _ b];simp only[qw,qB,not_or];exact⟨f,λe=>by rw[e]at d;simp at d⟩
 .rw[qh nb]at f;exact⟨_,m9,⟨λh=>nb,λh=>absurd h f⟩,m9⟩
theorem DR{p:ar}(a:Sl)(b:List Bool)(x:Bool)(h:hY)(c:Seq h p a 1 fw b)(d:m8 b<=2^40):
  aj xT 338 #[a,xN x] h λv h'=>v=xN (decide (x∈b))/\h'=h:=by
 refine ts Tryz.func338 ?_;refine(HT a b x h c d).mono ?_;rintro v h' ⟨r,rfl,e,rfl⟩;refine⟨r,m9,?_,m9⟩;exact congrArg Value.bool (decide_eq_decide.2 e)
theorem Pt{α:Type}{f:α->Bool}{l:List α}{k:Nat}(a:k<m8 l):(l.take (k+1)).filter f=if f l[k]then(l.take k).filter f++[l[k]]else(l.take k).filter f:=by rw[aA _ _ a,zi];by_cases h:f l[k]=eL<;>simp[h]
theorem HU{p q:ar}(j:fY)(o r:Sl)(op:List Bool)(row:aC)(h:hY)(w:hU h (j.add 1)=dB (xK o.ptr o.len o.cap))(x:Seq h p o 1 fw op)(m:Seq h q r 1 av row)
  (l:∀c∈row,0<=c/\c<m8 op) (B:m8 row<=2^40):
  aj xT 381 #[xL (dB j),r] h λv h'=>
   v=.tuple #[xJ xP ((dh op row).getLast?.getD 0),xN ((dh op row).length==1)]/\h'=h:=by
 refine ts Tryz.func381 ?_ (F8 (F8 (F9 [(6,aI),(7,aI),(12,aI)] [(6,8),(9,10),(12,27)])));have u:=m.len;refine ak (λk:Nat=>((dh op (row.take k)).getLast?.getD 0,((dh op (row.take k)).length:Int),(k:Int))) (λk h'=>h'=h/\k<=m8 row) (λk=>m8 row-k) 0 m9 ⟨m9,nb⟩ ?_;rintro k h' ⟨rfl,z⟩
 try dsimp only
 refine ae (λy=>?_) (λs=>?_)
 .have d:k<m8 row:=nb
  have A:=l _ (qe d);refine m.aW k m9 d _ m9 ?_;refine⟨j,m9,o,w,?_⟩;have b:row[k].toNat<m8 op:=nb
  refine x.aW row[k].toNat nb b _ m9 ?_;have a:ke op row[k]=op[row[k].toNat]:=by simp[ke,qg,qc b]
  have g:=Pt (f:=ke op) d;have t:(dh op (row.take k)).length<=m8 row:=qX (qK _ _) p8;rw[af (k+1),af _];refine aS (λi=>?_) (λi=>?_)
  .refine⟨k+1,?_,⟨m9,nb⟩,nb⟩;have e:dh op (row.take (k+1))=dh op (row.take k)++[row[k]]:=by rw[dh,g,a,i];rfl
   simp[e]
  .refine⟨k+1,?_,⟨m9,nb⟩,nb⟩;have e:dh op (row.take (k+1))=dh op (row.take k):=by rw[dh,g,a,i];rfl
   simp[e]
 .have e:row.take k=row:=qh nb;refine⟨?_,m9⟩;simp only[e];congr 4;congr 1;rw[yG];simp;omega
structure ww (h:hY) (p:ar) (a:fY) (l o u:Sl) (rows:cV) (rs:List Sl) (op us:List Bool):Prop where
 c0:hU h a=dB (xK l.ptr l.len l.cap)
 c1:hU h (a.add 1)=dB (xK o.ptr o.len o.cap)
 c2:hU h (a.add 2)=dB (xK u.ptr u.len u.cap)
 blk:p a.block
 sRows:gW h p l 1 av rows rs
 sOp:Seq h p o 1 fw op
 sUs:Seq h p u 1 fw us
 ulen:m8 us=m8 rows
 df:∀r∈rows,∀c∈r,0<=c/\c<m8 op
 short:∀r∈rows,m8 r<=64
theorem ww.ac{h h':hY}{p:ar}{a:fY}{l o u:Sl}{rows:cV}{rs:List Sl}{op us:List Bool}(c:ww h p a l o u rows rs op us)(k:aQ p h h'):ww h' p a l o u rows rs op us:=by
 have b:∀n,(a.add n).block=a.block:=λn=>by unfold Addr.add;split<;>rfl
 exact⟨k.cell c.blk c.c0,k.cell (by rw[b];exact c.blk) c.c1,k.cell (by rw[b];exact c.blk) c.c2,c.blk,c.sRows.ac k,c.sOp.ac k,c.sUs.ac k,c.ulen,c.df,c.short⟩
theorem KO{p:ar}(a:fY)(l o u:Sl)(rows:cV)(rs:List Sl)(op us:List Bool)(h:hY)(z:ww h p a l o u rows rs op us)(Q:m8 rows<=2^40):
  aj xT 339 #[xL (dB a)] h λv h'=>aQ (λ_=>True) h h'/\
   v=match lR rows op us with
    |some i=>.tuple #[xO #[xJ xP i,xJ xP (eV rows op i)],xN eL]
    |none=>.tuple #[xO #[xJ xP 0,xJ xP 0],xN eR]:=by
 refine ts Tryz.func339 ?_ (F8 (F9 [(13,aI)] [(3,8),(13,36)]));refine uN ag m9 λb J O t c M=>?_;have f:=z.ac (c.mono λ_ _ _=>trivial);refine⟨a,m9,l,f.c0,?_⟩;have H:=z.sRows.LQ;refine ak (λk:Nat=>(k:Int)) (λk h'=>h'=J/\k<=m8 rows/\∀j,j<k->lj rows op us j=eR) (λk=>m8 rows-k) 0 m9 ⟨m9,nb,λj q=>nb⟩ ?_;rintro k h' ⟨rfl,N,D⟩;refine ae (λL=>?_) (λG=>?_)
 .have e:k<m8 rows:=nb
  refine f.sRows.get k m9 e λr K _=>?_;refine⟨a,m9,u,f.c2,?_⟩;refine f.sUs.aW k m9 (by rw[z.ulen];exact e) _ m9 ?_;have F:us.getD k eR=us[k]'(by rw[z.ulen];exact e):=by rw[qg,qc];rfl
  have s:rows.getD k []=rows[k]:=by rw[qg,qc e];rfl
  rw[af _];refine aS (λw=>?_) (λw=>?_)
  .refine⟨k+1,n4,⟨m9,nb,λj q=>?_⟩,nb⟩;rcases q8.1 q with q|rfl
   .exact D j q
   .simp only[lj,F,w];rfl
  .refine(HU a o r op rows[k] h' f.c1 f.sOp K (z.df _ (qe e)) (qX (z.short _ (qe e)) nb)).G6 ⟨(_,_),m9,?_⟩;have g:lj rows op us k=((dh op rows[k]).length==1):=by simp only[lj,F,w,s];rfl
   refine aS (λy=>?_) (λy=>?_)
   .have m:lj rows op us k=eL:=g.trans y;refine sI ag t m9 _ m9 m9 m9 (qj _) λh3 d x B=>?_;refine⟨(_,_),d.aw _ m9,c.then x (λI E _=>nb),?_⟩;have A:eV rows op k=(dh op rows[k]).getLast?.getD 0:=by unfold eV;rw[s]
    rw[lR,UQ e D m];show _=Value.tuple #[xO #[xJ xP k,xJ xP (eV rows op k)],xN eL];rw[A];rfl
   .have m:lj rows op us k=eR:=g.trans y;refine⟨k+1,n4,⟨m9,nb,λj q=>?_⟩,nb⟩;rcases q8.1 q with q|rfl
    .exact D j q
    .exact m
 .refine sI ag t m9 _ m9 m9 m9 (qj _) λh3 d x B=>?_;refine⟨(_,_),d.aw _ m9,c.then x (λI E _=>nb),?_⟩;rw[lR,UP λj q=>D j nb]
theorem Gk{l:List Bool}{i:Nat}(h:i<m8 l):l.getD i eR=l[i]:=by rw[qg,qc h];rfl
theorem QV(op:List Bool)(a:aC):∀k,-1<=iZ op a k/\iZ op a k<k
 |0=>by simp[iZ]
 |k+1=>by
  have:=QV op a k;unfold iZ;split<;>omega
theorem KP{p:ar}(a:fY)(l o u:Sl)(rows:cV)(rs:List Sl)(op us:List Bool)(h:hY)(z:ww h p a l o u rows rs op us)(hs:m8 rows<=2^30)(a4:m8 op<=2^30):
  aj xT 340 #[xL (dB a)] h λv h'=>aQ (λ_=>True) h h'/\v=xJ xP (iJ rows op us):=by
 refine ts Tryz.func340 ?_ (F8 (F8 (E5 (F8 (E7 (E8 [(22,aI)] [(4,6),(7,8),(22,49)] (F8 (F8 (E5 (E7 (F8 (F8 (E7 (E8 [(29,aI)] [(7,8),(29,48)] E6))))) E6)))))) (F8 (F9 [(8,aI),(54,aI)] [(8,11),(54,77)])))));refine⟨a,m9,o,z.c1,?_⟩;have a2:=z.sOp.len;refine Qw.run_make (f:=av) ag ⟨_,_,m9,m9,m9,m9,m9,m9⟩ nq 0 m9 m9 op.length op.length nb nb (qj _) nb λs h1 Q ab a5 t a8=>?_;have ah:=z.ac (t.mono λ_ _ _=>trivial);refine⟨a,m9,l,ah.c0,?_⟩;have a1:=z.sRows.LQ;have B:∀b,s.on b->b=h.size:=by rintro b ⟨o',P⟩;rw[ab]at P;cases P;rfl
 have ap:∀k,((λ_ r=>r:Nat->aC->aC) k (rows.getD k [])).length<=64:=λk=>by
  show(rows.getD k []).length<=64;by_cases S:k<m8 rows
  .rw[qg,qc S];exact z.short _ (qe S)
  .rw[qg,zf nb];simp
 let d:=lF (λ_ r=>r) rows us (qf op.length 0);have J:∀k,(d k).length=m8 op:=λk=>by rw[By];simp
 have al:∀k,∀x∈d k,0<=x/\x<=64*k:=λk x hx=>Mr (λ_ r=>r) ap k x hx;refine ak (λk:Nat=>(k:Int)) (λk h'=>aQ (λb=>b<h.size) h h'/\k<=m8 rows/\Own h' 3 s 1 av (d k)) (λk=>m8 rows-k) 0 m9 ⟨t.mono λ_ _ _=>trivial,nb,Q⟩ ?_;rintro i h2 ⟨E,hi,w⟩;have q:ww h2 p a l o u rows rs op us:=z.ac (E.mono λb e _=>e);refine ae (λN=>?_) (λI=>?_)
 .have g:i<m8 rows:=nb
  have O:rows.getD i []=rows[i]:=by rw[qg,qc g];rfl
  have hu:us.getD i eR=us[i]'(by rw[z.ulen];exact g):=Gk _;refine q.sRows.get i m9 g λr hr W=>?_;have a7:=hr.len;have R:=z.short _ (qe g);refine ak (λk:Nat=>(k:Int)) (λk h'=>aQ (λb=>b<h.size) h h'/\k<=rows[i].length/\Own h' 3 s 1 av (if us.getD i eR then d i else kF (d i) (rows[i].take k))) (λk=>rows[i].length-k) 0 m9
   ⟨E,nb,by simpa[kF]using w⟩ ?_
  rintro j h3 ⟨A,hj,c⟩;have y:ww h3 p a l o u rows rs op us:=z.ac (A.mono λb e _=>e);refine ae (λN=>?_) (λI=>?_)
  .have F:j<rows[i].length:=nb
   have ad:=y.sRows.row i r _ W (qc g);have hc:=z.df _ (qe g) _ (qe F);refine ad.aW j m9 F _ m9 ?_;refine⟨a,m9,u,y.c2,?_⟩;refine y.sUs.aW i m9 (by rw[z.ulen];exact g) _ m9 ?_;rw[af (j+1)];refine aH (λe=>?_) (λe=>?_)
   .rw[hu,e]at c;simp only[zc,if_false]at c;have K:(kF (d i) (rows[i].take j)).length=m8 op:=by rw[Cl,J]
    have m:rows[i][j].toNat<(kF (d i) (rows[i].take j)).length:=by rw[K];omega
    have a6:=Dl (r:=rows[i].take j) (al i) _ (qe m);have a3:(rows[i].take j).length<=64:=p8
    have T:Seq h3 (λ_=>True) s 1 av (kF (d i) (rows[i].take j)):=c.seq (λ_=>rfl) λ_ _=>trivial;refine T.aW rows[i][j].toNat nb m _ m9 ?_;rw[af _];refine c.set ag (λ_=>rfl) m9 rows[i][j].toNat nb m _ m9 m9 m9 λh4 G Y ay=>?_;refine⟨j+1,n4,⟨A.then Y (λb e _=>λX=>by have:=B b X;omega),nb,?_⟩,nb⟩;rw[hu,e];simp only[zc,if_false];rw[aA _ _ F,OC,getD_lt m];exact G
   .refine⟨j+1,n4,⟨A,nb,?_⟩,nb⟩;rw[hu,e]at c⊢;exact c
  .rw[af (i+1)];rw[qh nb]at c;refine⟨i+1,n4,⟨A,nb,?_⟩,nb⟩;have:d (i+1)=if us.getD i eR then d i else kF (d i) rows[i]:=by show lF _ _ _ _ (i+1)=_;rw[lF];simp only[O];rfl
   rw[this];exact c
 .have Z:i=m8 rows:=nb
  subst Z;refine⟨a,m9,o,q.c1,?_⟩;have H:Seq h2 (λ_=>True) s 1 av (d rows.length):=w.seq (λ_=>rfl) λ_ _=>trivial;have ax:=J rows.length;refine ak (λk:Nat=>(iZ op (d rows.length) k,(k:Int))) (λk h'=>h'=h2/\k<=m8 op) (λk=>m8 op-k) 0 m9 ⟨m9,nb⟩ ?_;rintro k h3 ⟨rfl,S⟩
  try dsimp only
  have a0:=QV op (d rows.length) k;refine ae (λN=>?_) (λI=>?_)
  .have M:k<m8 op:=nb
   refine q.sOp.aW k m9 M _ m9 ?_;rw[af (k+1)];have D:op.getD k eR=op[k]:=Gk M;refine aS (λe=>?_) (λe=>?_)
   .refine ae (λL=>?_) (λam=>?_)
    .refine⟨k+1,?_,⟨m9,nb⟩,nb⟩;rw[iZ,hZ (by rw[D,e,ln L];rfl)];rfl
    .refine H.aW k m9 nb _ m9 ?_;refine H.aW (iZ op (d rows.length) k).toNat nb nb _ m9 ?_;have e1:(d rows.length).getD k 0=(d rows.length)[k]:=getD_lt;have e2:(d rows.length).getD (iZ op (d rows.length) k).toNat 0=(d rows.length)[(iZ op (d rows.length) k).toNat]:=getD_lt;refine ae (λao=>?_) (λV=>?_)
     .refine⟨k+1,?_,⟨m9,nb⟩,nb⟩;rw[iZ,hZ (by rw[D,e,e1,e2,ln ao];simp)];rfl
     .refine⟨k+1,?_,⟨m9,nb⟩,nb⟩;rw[iZ,k4 (by rw[D,e,e1,e2,m5 V,m5 am];simp)];rfl
   .refine⟨k+1,?_,⟨m9,nb⟩,nb⟩;rw[iZ,k4 (by rw[D,e];simp)];rfl
  .have U:k=m8 op:=nb
   subst U;exact⟨E.mono λb e _=>e,m9⟩
def gh(p:Int×Int):aR:=[xJ xP p.1,xJ xP p.2]
theorem YP:∀x,∀c∈gh x,c.oneCell'=eL:=by intro x c a;simp only[gh,qN,List.not_mem_nil,or_false]at a;rcases a with rfl|rfl<;>rfl
def BV(n:Int)(rows:cV):List (Int×Int)×aC×aC:=
 if jP n rows then((eP n.toNat rows).steps,(eP n.toNat rows).dead,fS (eP n.toNat rows).used rows.length)else([],[],[])
def ado(a h:hY)(v:Value)(ok:Bool)(e:List (Int×Int))(c b:aC):Prop:=
 ∃s d f:Sl,v=.tuple #[xO #[s,d,f],xN ok]/\
  Sp a h [ai 326 s 2 gh e,ai 3 d 1 av c,ai 3 f 1 av b]
theorem abh{α β γ:Type}{j h:hY}{c:Nat->Nat}{v r t s w g:Nat}{n:α->aR}{o:β->aR}{u:γ->aR}{k m q:Sl}{l1:List α}{l2:List β}{l:List γ}(p:mJ j h c)(f:dU h c 6 v k s n l1)(e:dU h c 7 r m w o l2)(a3:dU h c 8 t q g u l):
  Sp j h [ai v k s n l1,ai r m w o l2,ai t q g u l]:=by
 refine⟨λ_ h=>h,p.ac,λb=>c b-5,λb a=>?_,λi A d=>?_⟩
 .have:=p.aV b a;(try dsimp only);omega
 .match i,d with
  |0,d=>simp at d;subst d;exact⟨f.own,λb a=>⟨f.own.lt a,by have:=f.aV b a;(try dsimp only);omega⟩⟩
  |1,d=>simp at d;subst d;exact⟨e.own,λb a=>⟨e.own.lt a,by have:=e.aV b a;(try dsimp only);omega⟩⟩
  |2,d=>simp at d;subst d;exact⟨a3.own,λb a=>⟨a3.own.lt a,by have:=a3.aV b a;(try dsimp only);omega⟩⟩
  |i+3,d=>simp at d
theorem abi{n:Int}{rows:cV}(h:jP n rows=eL):0<=n/\n<=64/\∀r∈rows,fN n r=eL:=by simp only[jP,qz,decide_eq_true_eq,qQ]at h;exact⟨h.1.1,h.1.2,h.2⟩
theorem Gl{n:Int}{r:aC}(h:fN n r=eL):∀c∈r,0<=c/\c<n:=by simp only[fN,qz,qQ,decide_eq_true_eq]at h;exact h.1
theorem Kq:∀{r:aC} {a n:Int},fM r=eL->(∀c∈r,a<=c/\c<n)->(m8 r:Int)<=max 0 (n-a)
 |[],a,n,_,_=>n2
 |[x],a,n,_,h=>by have:=h x n4;simp;omega
 |x::y::t,a,n,hr,h=>by
  simp only[fM,qz,decide_eq_true_eq]at hr;have g:=h x n4;have f:=h y n4;have e:∀(l:aC) (z:Int),fM (z::l)=eL->∀c∈l,z<c:=by
   intro l
   induction l with
   |nil=>intro z _ c b;simp at b
   |cons w t ih=>
    intro z d c b;simp only[fM,qz,decide_eq_true_eq]at d;rcases qN.1 b with rfl|b
    .exact d.1
    .have:=ih w d.2 c b;omega
  have:=Kq (r:=y::t) (a:=x+1) (n:=n) hr.2 λc b=>⟨by
   rcases qN.1 b with rfl|b
   .omega
   .have:=e t y hr.2 c b;omega,(h c (by simp only[qN]at b⊢;exact .inr b)).2⟩
  simp only[q7]at this⊢;omega
theorem Wo{n:Int}{r:aC}(h:fN n r=eL)(c:n<=64):m8 r<=64:=by have b:=Gl h;simp only[fN,qz]at h;have:=Kq (a:=0) h.2 b;omega
theorem YQ(n k:Nat)(h:k<n):(qf k eL++qf (n-k) eR).set k eL=qf (k+1) eL++qf (n-(k+1)) eR:=by
 have e:n-k=(n-(k+1))+1:=nb
 rw[qZ _ _ n4,e,List.replicate_succ];simp only[List.length_replicate,zd,zt];rw[List.replicate_succ' (n:=k)];simp
theorem Nz{h f:hY}{c:Nat->Nat}{a:fY}{l o u:Sl}{rows:cV}{rs:List Sl}{op us:List Bool}(p:gW f (λb=>b<f.size) l 1 av rows rs)(j:mJ f h c)(e:kP h c 2 a 364 [l,o,u])
  (n:dU h c 3 4 o 1 fw op) (q:dU h c 4 4 u 1 fw us) (i:m8 us=m8 rows) (m:m8 op<=64) (k:∀r∈rows,fN op.length r=eL):ww h (λb=>b<h.size) a l o u rows rs op us:=
 ⟨e.box.cell0 m9,e.box.cell m9,e.box.cell m9,e.box.lt,(p.ac j.ac).mono λb g=>qU g j.ac.1,n.RX λ_=>rfl,q.RX λ_=>rfl,i,λr d=>Gl (k r d),λr d=>Wo (k r d) nb⟩
theorem Wq(n:Int)(l:Sl)(rows:cV)(rs:List Sl)(h:hY)(hl:gW h (λb=>b<h.size) l 1 av rows rs)(hs:m8 rows<=2^30)(c9:∀r∈rows,m8 r<=2^40):
  aj xT 287 #[xJ xP n,l] h λv h'=>ado h h' v (jP n rows) (BV n rows).1 (BV n rows).2.1 (BV n rows).2.2:=by
 refine ts Tryz.func287 ?_ (F8 (.scope 1 [] [(5,6),(9,14),(42,108)] [E6,(.join [(6,QG)] [(6,7),(19,27)] E6),(.two E6 (.inn (.loop [(32,aI)] [(7,8),(32,42)] E6))),E6] [(.two E6 (.two (.join [] [(9,12),(48,88)] E6) E6))] [(0,[(.two (.two E6 (.inn (.loop [(93,aI)] [(12,14),(93,107)] E6))) E6)])])) [(3,(.y [0,1,3,4] (.l [2,5,6,7,8]) (.l [5,2,6,7,8])))];have en:=hl.LQ;refine sJ ag (mJ.refl h) 1 m9 λa1 h1 b4 d5=>?_;have F:=(mJ.refl h).keep (m:=1) d5 nq;refine(Je n l rows rs h1 (hl.ac F.ac) nb c9).mono ?_;rintro v h2 ⟨rfl,rfl⟩;refine⟨_,m9,?_⟩;refine aH (λhr=>?_) (λhr=>?_)
 .refine b4.gO ag m9 _ m9 m9 m9 (qj _) λh3 a2 D=>?_;refine⟨(⟨eH,0,0⟩,⟨eH,0,0⟩,⟨eH,0,0⟩),a2.box.aw _ m9,?_⟩;refine⟨⟨eH,0,0⟩,⟨eH,0,0⟩,⟨eH,0,0⟩,by rw[hr],?_⟩;simp only[BV,hr,zc,if_false];exact(((Sp.zip (F.keep (m:=1) D nq).ac).nil 326 2 gh).nil 3 1 av).nil 3 1 av
 .obtain⟨ek,et,cb⟩:=abi hr;obtain⟨N,rfl⟩:∃N:Nat,n=N:=⟨n.toNat,nb⟩
  have hN:N<=64:=nb
  refine bn (λs h'=>∃c a o u,s=dB a/\mJ h h' c/\kP h' c 1 a1 259 [xK eH 0 0,xK eH 0 0,xK eH 0 0]/\kP h' c 2 a 364 [l,xK o.ptr o.len o.cap,xK u.ptr u.len u.cap]/\
   dU h' c 3 4 o 1 fw (qf N eR)/\dU h' c 4 4 u 1 fw (qf rows.length eR)) ⟨?_,?_⟩ ?_
  .refine uO ag F 3 fw ⟨_,_,m9,m9,m9,m9,m9,m9⟩ nq eR m9 m9 N m9 m9 nb λo h3 ho D=>?_;refine⟨I0,?_⟩;refine uO ag (F.keep (m:=3) D nq) 4 fw ⟨_,_,m9,m9,m9,m9,m9,m9⟩ nq eR m9 m9 rows.length nb nb nb λu h4 hu H=>?_;refine⟨I0,?_⟩;refine LU _ ((F.keep (m:=3) D nq).keep (m:=4) H nq) 2 λa h5 ha B=>?_;exact⟨I0,_,a,o,u,m9,((F.keep D nq).keep H nq).keep B nq,((b4.keep D nq).keep H nq).keep B nq,ha,(ho.keep H nq).keep B nq,hu.keep B nq⟩
  .refine uO ag F 4 fw ⟨_,_,m9,m9,m9,m9,m9,m9⟩ nq eR m9 m9 rows.length nb nb nb λu h3 hu D=>?_;refine⟨I0,?_⟩;refine uO ag (F.keep (m:=4) D nq) 3 fw ⟨_,_,m9,m9,m9,m9,m9,m9⟩ nq eR m9 m9 N m9 m9 nb λo h4 ho H=>?_;refine⟨I0,?_⟩;refine LU _ ((F.keep (m:=4) D nq).keep (m:=3) H nq) 2 λa h5 ha B=>?_;exact⟨I0,_,a,o,u,m9,((F.keep D nq).keep H nq).keep B nq,((b4.keep D nq).keep H nq).keep B nq,ha,ho.keep B nq,(hu.keep H nq).keep B nq⟩
  .rintro s h3 ⟨c,a,o,u,rfl,ci,bq,a2,a7,cn⟩;refine⟨a,m9,o,a2.box.cell m9,?_⟩;have eo:o.len=N:=by rw[a7.own.len];simp
   refine ak (λt:Nat×(Nat->Nat)=>(t.1:Int)) (λt h'=>t.1<=N/\mJ h h' t.2/\kP h' t.2 1 a1 259 [xK eH 0 0,xK eH 0 0,xK eH 0 0]/\kP h' t.2 2 a 364 [l,o,u]/\
    dU h' t.2 3 4 o 1 fw (qf t.1 eL++qf (N-t.1) eR)/\dU h' t.2 4 4 u 1 fw (qf rows.length eR)) (λt=>N-t.1) (0,c) m9 ⟨n4,ci,bq,a2,by simpa using a7,cn⟩ ?_
   rintro⟨k,c⟩ h4 ⟨hk,bk,b2,bb,bd,b7⟩;dsimp only at*;refine ae (λd6=>?_) (λda=>?_)
   .have d4:k<N:=nb
    refine⟨a,m9,o,bb.box.cell m9,?_⟩;refine bd.set ag (λ_=>rfl) m9 k m9 n2 eL m9 m9 m9 λh5 br B=>?_;rw[af _];rw[YQ _ _ d4]at br;exact⟨(k+1,_),n4,⟨n2,bk.keep B nq,b2.keep B nq,bb.keep B nq,br,b7.keep B nq⟩,n2⟩
   .have du:k=N:=nb
    subst du;simp only[zd,List.replicate_zero,qL]at bd;refine sJ ag bk 5 m9 λap h5 eb B=>?_;have ef:=bk.keep (m:=5) B nq;have c4:=b2.keep (m:=5) B nq;have ec:=bb.keep (m:=5) B nq;have br:=bd.keep (m:=5) B nq;have d3:=b7.keep (m:=5) B nq;clear bk b2 bb bd b7 ci bq a2 a7 cn;generalize grow c h4.size 5=c5 at*;refine ak (τ:=Nat×List Bool×List Bool×(List (Int×Int))×aC×(Nat->Nat)×Sl×Sl) (λ_=>())
     (λ⟨f,op,us,st,dd,c,ss,ds⟩ h'=>m8 op=k/\us.length=m8 rows/\op.count eL<=f/\f<=k/\st.length<=k-f/\dd.length<=k-f/\
      (∃r,cE rows f op us=r/\eP k rows=⟨st++r.steps,dd++r.dead,r.used⟩)/\mJ h h' c/\
      kP h' c 1 a1 259 [xK eH 0 0,xK eH 0 0,xK eH 0 0]/\kP h' c 2 a 364 [l,o,u]/\
      dU h' c 3 4 o 1 fw op/\dU h' c 4 4 u 1 fw us/\
      kP h' c 5 ap 259 [ss,ds,xK eH 0 0]/\dU h' c 6 326 ss 2 gh st/\dU h' c 7 3 ds 1 av dd)
     (λt=>t.1) (k,qf k eL,qf rows.length eR,[],[],c5,⟨eH,0,0⟩,⟨eH,0,0⟩) m9
     ⟨n4,n4,n4,n4,n4,n4,⟨_,m9,by simp[eP]⟩,ef,c4,ec,br,d3,eb,dU.nil _ _ _ _ _ _,dU.nil _ _ _ _ _ _⟩ ?_
    rintro⟨f,op,us,st,dd,c,ss,ds⟩ h6 ⟨a5,L,eg,eq,ej,eh,⟨r,al,bl⟩,O,a8,T,ad,S,M,K,J⟩;dsimp only at*;have I:∀r∈rows,fN op.length r=eL:=by rw[a5];exact cb
    have am:=Nz hl O T ad S L nb I;refine⟨a,m9,o,T.box.cell m9,?_⟩;refine(DR o op eL h6 (ad.RX λ_=>rfl) nb).mono ?_;rintro v h7 ⟨rfl,rfl⟩;refine⟨_,m9,?_⟩;refine aH (λhc=>?_) (λhc=>?_)
    .have ab:op.contains eL=eR:=by simpa using hc
     have bq:r=⟨[],[],us⟩:=by rw[<-al];exact uW ab f
     subst bq;simp only[qL]at bl;refine⟨a,m9,u,T.box.cell m9,?_⟩;have el:u.len=m8 rows:=by rw[S.own.len,L]
     refine ak (λt:Nat×(Nat->Nat)×Sl=>(t.1:Int)) (λ⟨j,c,fs⟩ h'=>j<=m8 rows/\mJ h h' c/\
      kP h' c 1 a1 259 [xK eH 0 0,xK eH 0 0,xK eH 0 0]/\dU h' c 4 4 u 1 fw us/\
      kP h' c 5 ap 259 [ss,ds,fs]/\dU h' c 6 326 ss 2 gh st/\dU h' c 7 3 ds 1 av dd/\dU h' c 8 3 fs 1 av (fS us j)) (λt=>m8 rows-t.1) (0,c,⟨eH,0,0⟩) m9
      ⟨n4,O,a8,S,M,K,J,dU.nil _ _ _ _ _ _⟩ ?_
     rintro⟨j,c,fs⟩ h8 ⟨hj,a9,b1,b0,Y,a6,a4,a3⟩;dsimp only at*;refine ae (λd6=>?_) (λda=>?_)
     .have er:j<m8 rows:=nb
      have es:(fS us j).length<=j:=EB us j;refine(b0.RX λ_=>rfl).aW j m9 nb _ m9 ?_;have cy:us.getD j eR=us[j]:=Gk nb;rw[af _];refine aH (λhb=>?_) (λhb=>?_)
      .refine⟨fs,Y.box.cell m9,?_⟩;refine FB ag a9 9 av ⟨_,_,m9,m9,m9,m9,m9,m9⟩ m9 [(j:Int)] m9 (zF m9) m9 λv h9 dy p=>?_;refine(a3.keep (m:=9) p nq).append ag ⟨_,_,m9,m9,m9,m9,m9,m9⟩ ⟨_,_,m9,m9⟩ m9 nq (λ_=>rfl) (dy.seq λ_=>rfl) dt n2 λdr b3 b5 g=>?_;refine((Y.keep (m:=9) p nq).keep (m:=8) g nq).store ag m9 2 _ m9 m9 m9 (zF m9) λc2 cd d=>?_;refine⟨(j+1,_,dr),n4,⟨n2,((a9.keep p nq).keep g nq).keep d nq,((b1.keep p nq).keep g nq).keep d nq,((b0.keep p nq).keep g nq).keep d nq,cd,
        ((a6.keep p nq).keep g nq).keep d nq,((a4.keep p nq).keep g nq).keep d nq,?_⟩,n2⟩
       have e:fS us (j+1)=fS us j++[(j:Int)]:=by rw[fS,cy,hb];rfl
       rw[e];exact b5.keep d nq
      .have e:fS us (j+1)=fS us j:=by rw[fS,cy,hb];rfl
       exact⟨(j+1,c,fs),n4,⟨n2,a9,b1,b0,Y,a6,a4,by rw[e];exact a3⟩,n2⟩
     .have d8:j=m8 rows:=nb
      subst d8;refine⟨(ss,ds,fs),Y.box.aw _ m9,?_⟩;refine b1.gO ag m9 _ m9 m9 m9 (qj _) λh9 d0 p=>?_;refine⟨(ss,ds,fs),d0.box.aw _ m9,?_⟩;refine⟨ss,ds,fs,by rw[hr],?_⟩;simp only[BV,hr,if_true,qi,bl];exact abh (a9.keep (m:=1) p nq) (a6.keep (m:=1) p nq) (a4.keep (m:=1) p nq) (a3.keep (m:=1) p nq)
    .have ab:op.contains eL=eL:=by simpa using hc
     obtain⟨f',rfl⟩:∃f',f=f'+1:=by obtain⟨j,hj,e⟩:=Dm ab;have:=jH e;exact⟨f-1,nb⟩
     refine aE ?_;refine(KO a l o u rows rs op us h7 am nb).mono ?_;rintro v h8 ⟨A,rfl⟩;have A:=A.aV c 9;cases hst:lR rows op us with
     |some i=>
      obtain⟨hi,d9⟩:=oY hst;obtain⟨ep,d1,a7⟩:=ui d9;have c1:rows.getD i []=rows[i]:=by rw[qg,qc hi];rfl
      have ei:=Gl (I _ (qe hi)) _ (c1▸d1);refine⟨((i,eV rows op i),eL),m9,?_⟩
      try dsimp only
      refine sJ ag (O.keep (m:=9) A nq) 9 m9 λax h9 has p=>?_;refine has.gO ag m9 _ m9 m9 m9 (qj _) λb3 U g=>?_;refine Fz m9 ?_;have G:=((O.keep (m:=9) A nq).keep (m:=9) p nq).keep (m:=9) g nq;have ao:=((a8.keep (m:=9) A nq).keep (m:=9) p nq).keep (m:=9) g nq;have X:=((T.keep (m:=9) A nq).keep (m:=9) p nq).keep (m:=9) g nq;have W:=((ad.keep (m:=9) A nq).keep (m:=9) p nq).keep (m:=9) g nq;have Z:=((S.keep (m:=9) A nq).keep (m:=9) p nq).keep (m:=9) g nq;have E:=((M.keep (m:=9) A nq).keep (m:=9) p nq).keep (m:=9) g nq;have Q:=((K.keep (m:=9) A nq).keep (m:=9) p nq).keep (m:=9) g nq;have R:=((J.keep (m:=9) A nq).keep (m:=9) p nq).keep (m:=9) g nq;clear O a8 T ad S M K J A p has am;generalize grow (grow (grow c h7.size 9) h8.size 9) h9.size 9=c10 at*;refine⟨ss,E.box.cell0 m9,(_,_),U.box.aw _ m9,?_⟩
      try dsimp only
      refine FB ag G 10 gh ⟨_,_,m9,m9,m9,m9,m9,m9⟩ m9 [((i:Int),eV rows op i)] m9 (zF m9) m9 λv c2 cr d=>?_;refine(Q.keep (m:=10) d nq).append ag ⟨_,_,m9,m9,m9,m9,m9,m9⟩ ⟨_,_,m9,m9⟩ m9 nq (λ_=>rfl) (cr.seq λ_=>rfl) YP n2 λed dk ca q=>?_;refine((E.keep (m:=10) d nq).keep (m:=6) q nq).gO ag m9 _ m9 m9 m9 (zF m9) λd2 b6 x=>?_;have P:=((U.keep (m:=10) d nq).keep (m:=6) q nq).keep (m:=5) x nq;have ay:=((X.keep (m:=10) d nq).keep (m:=6) q nq).keep (m:=5) x nq;have cs:=((Z.keep (m:=10) d nq).keep (m:=6) q nq).keep (m:=5) x nq;have c0:=((W.keep (m:=10) d nq).keep (m:=6) q nq).keep (m:=5) x nq;refine⟨a,m9,u,ay.box.cell m9,(i:Int),P.box.cell0 m9,a,m9,o,ay.box.cell m9,eV rows op i,P.box.cell m9,?_⟩;refine cs.set ag (λ_=>rfl) m9 i m9 nb eL m9 m9 m9 λd7 cf z=>?_;have a0:=P.keep (m:=4) z nq;have V:=ay.keep (m:=4) z nq;refine⟨⟨a0.box.cell m9,I0⟩,?_⟩;refine(c0.keep (m:=4) z nq).set ag (λ_=>rfl) m9 (eV rows op i).toNat nb nb eR m9 m9 m9 λdx ah w=>?_;have ea:=a0.keep (m:=3) w nq;have cp:=V.keep (m:=3) w nq;refine⟨I0,?_⟩;have c7:=jH (op:=op) (j:=(eV rows op i).toNat) a7;rw[mO ab hst]at al;refine⟨(f',op.set (eV rows op i).toNat eR,us.set i eL,st++[((i:Int),eV rows op i)],dd,_,ed,ds),m9,⟨by simp[a5],by simp[L],n1,n1,n2,n1,⟨_,m9,?_⟩,
       ((((G.keep d nq).keep q nq).keep x nq).keep z nq).keep w nq,
       ((((ao.keep d nq).keep q nq).keep x nq).keep z nq).keep w nq,
       cp,ah,cf.keep w nq,(b6.keep z nq).keep w nq,((ca.keep x nq).keep z nq).keep w nq,
       ((((R.keep d nq).keep q nq).keep x nq).keep z nq).keep w nq⟩,n1⟩
      rw[bl,<-al];simp
     |none=>
      have c8:=rR (rows:=rows) (us:=us) ab;refine⟨((0,0),eR),m9,?_⟩
      try dsimp only
      refine sJ ag (O.keep (m:=9) A nq) 9 m9 λax h9 has p=>?_;refine has.gO ag m9 _ m9 m9 m9 (qj _) λb3 U g=>?_;refine sn m9 ?_;have G:=((O.keep (m:=9) A nq).keep (m:=9) p nq).keep (m:=9) g nq;have ao:=((a8.keep (m:=9) A nq).keep (m:=9) p nq).keep (m:=9) g nq;have X:=((T.keep (m:=9) A nq).keep (m:=9) p nq).keep (m:=9) g nq;have W:=((ad.keep (m:=9) A nq).keep (m:=9) p nq).keep (m:=9) g nq;have Z:=((S.keep (m:=9) A nq).keep (m:=9) p nq).keep (m:=9) g nq;have E:=((M.keep (m:=9) A nq).keep (m:=9) p nq).keep (m:=9) g nq;have Q:=((K.keep (m:=9) A nq).keep (m:=9) p nq).keep (m:=9) g nq;have R:=((J.keep (m:=9) A nq).keep (m:=9) p nq).keep (m:=9) g nq;clear O a8 T ad S M K J A p has am;generalize grow (grow (grow c h7.size 9) h8.size 9) h9.size 9=c10 at*;have am:=Nz hl G X W Z L nb I;refine(KP a l o u rows rs op us b3 am nb nb).mono ?_;rintro v c2 ⟨d,rfl⟩;have d:=d.aV c10 9;refine⟨_,m9,?_⟩;refine⟨ds,(E.keep (m:=9) d nq).box.cell m9,?_⟩;refine FB ag (G.keep (m:=9) d nq) 10 av ⟨_,_,m9,m9,m9,m9,m9,m9⟩ m9 [iJ rows op us] m9 (zF m9) m9 λv dk cq q=>?_;refine((R.keep (m:=9) d nq).keep (m:=10) q nq).append ag ⟨_,_,m9,m9,m9,m9,m9,m9⟩ ⟨_,_,m9,m9⟩ m9 nq (λ_=>rfl) (cq.seq λ_=>rfl) dt n2 λc6 d2 b9 x=>?_;refine(((E.keep (m:=9) d nq).keep (m:=10) q nq).keep (m:=7) x nq).store ag m9 1 _ m9 m9 m9 (zF m9) λd7 cc z=>?_;have V:=(((X.keep (m:=9) d nq).keep (m:=10) q nq).keep (m:=7) x nq).keep (m:=5) z nq;have cu:=(((W.keep (m:=9) d nq).keep (m:=10) q nq).keep (m:=7) x nq).keep (m:=5) z nq;refine⟨a,m9,o,V.box.cell m9,?_⟩;refine cu.set ag (λ_=>rfl) m9 (iJ rows op us).toNat nb nb eR m9 m9 m9 λdx ah w=>?_;have c7:=jH (op:=op) (j:=(iJ rows op us).toNat) c8.2.2;rw[oA ab hst]at al;refine⟨(f',op.set (iJ rows op us).toNat eR,us,st,dd++[iJ rows op us],_,ss,c6),m9,⟨by simp[a5],L,n1,n1,n1,n2,⟨_,m9,?_⟩,
       ((((G.keep d nq).keep q nq).keep x nq).keep z nq).keep w nq,
       ((((ao.keep d nq).keep q nq).keep x nq).keep z nq).keep w nq,
       V.keep w nq,ah,((((Z.keep d nq).keep q nq).keep x nq).keep z nq).keep w nq,cc.keep w nq,
       ((((Q.keep d nq).keep q nq).keep x nq).keep z nq).keep w nq,
       (b9.keep z nq).keep w nq⟩,n1⟩
      rw[bl,<-al];simp
theorem HV(pool:List (Sl×Row))(d:(⟨eH,0,0⟩,[])∈pool)(n:Nat):bZ pool id (qf n ⟨eH,0,0⟩) (qf n []):=
 ⟨n4,λi r l a b=>by
  rw[wE]at a b;split at a
  .rename_i c;rw[hZ c]at b;cases a;cases b;exact d
  .cases a⟩
theorem aa.abj{B:ar}{b h:hY}{As:List HP}(H:aa B b h As)(i:Nat){pool:List (Sl×Row)}(c:As[i]?=dB (fT pool)):aa B b h (As.set i (fT ((⟨eH,0,0⟩,[])::pool))):=
 H.dY i c λq d x a=>by
  rcases qN.1 a with rfl|a
  .exact Seq.nil _ _ _ _ _ _
  .exact d x a
structure Tt (h:hY) (f:fY) (r st dd lf:Sl) (rr:List (Sl×Sl)) (R:List fp) (ST:List (Int×Int)) (D L:aC):Prop where
 field:io h f
 rest:gE kl 2 qv h r rr R
 steps:Rd h st 2 gh ST
 dead:Rd h dd 1 av D
 left:Rd h lf 1 av L
abbrev SA(s:fY)(a:aR):HP:=an s 261 a
abbrev HA(s:Sl)(rs:List Sl):HP:=ai 41 s 1 bv rs
abbrev RA(s:Sl)(l:Row):HP:=ai 5 s 1 aq l
theorem Kr{R:cV}:∀{l1 l2:List (Int×Int)} {D:Int->Prop},rT R D (l1++l2)->rT R D l1/\rT R (λx=>D x∨∃i,(i,x)∈l1) l2
 |[],l2,D,h=>⟨I0,by
  have:(λx=>D x∨∃i,(i,x)∈([]:List (Int×Int)))=D:=by funext x;simp
  rw[this];exact h⟩
 |(i,c)::l1,l2,D,h=>by
  obtain⟨a,b,k,d,e⟩:=h;obtain⟨g,f⟩:=Kr e;refine⟨⟨a,b,k,d,g⟩,?_⟩;have:(λx=>D x∨∃j,(j,x)∈(i,c)::l1)=λx=>(D x∨x=c)∨∃j,(j,x)∈l1:=by
   funext x;simp only[qN,Prod.mk.injEq,eq_iff_iff];constructor
   .rintro(h|⟨j,⟨_,h⟩|h⟩)
    .exact .inl (.inl h)
    .exact .inl (.inr h)
    .exact .inr ⟨j,h⟩
   .rintro((h|h)|⟨j,h⟩)
    .exact .inl h
    .exact .inr ⟨i,.inl ⟨m9,h⟩⟩
    .exact .inr ⟨j,.inr h⟩
  rw[this];exact f
theorem Pu(s f:fY)(p:Int×Int×Int)(v r st U V O Q:Sl)(n:Nat)(pool:List (Sl×Row))(H:aa B h0 h (SA s (iv f p v r st U V O Q)::fT pool::As))(l:v.len=n)(hn:n<=64){K:Unit->hY->Prop}
  (N:∀i d h',i.len=n->d.len=n->aa B h0 h' (SA s (iv f p v r st U V i d)::HA i (qf n ⟨eH,0,0⟩)::HA d (qf n ⟨eH,0,0⟩)::fT pool::As)->K () h'):(λ(c:bx) (R:Unit->hY->Prop)=>
 ∃a3:fY,(c=dB a3)/\
 ∃b:Sl,hU h (a3.add 4)=dB (xK b.ptr b.len b.cap)/\
 ∃a5:fY,(c=dB a5)/\
 ∃a:Sl,hU h (a5.add 4)=dB (xK a.ptr a.len a.cap)/\
 (bC xT (zB 79 (xJ xP ((b.len:Nat):Int)) (xJ xP ((b.len:Nat):Int))) (.one (.sc .slc)) h λy G=>
 (bK.ok [(a5.add 4,(xK a.ptr a.len a.cap)),(a3.add 4,(xK b.ptr b.len b.cap))] G)/\
 ∃S:fY,(c=dB S)/\
 (bC xT (zB 79 (xJ xP ((a.len:Nat):Int)) (xJ xP ((a.len:Nat):Int))) (.one (.sc .slc)) G λv9 J=>
 (bK.ok [(a5.add 4,(xK a.ptr a.len a.cap)),(a3.add 4,(xK b.ptr b.len b.cap))] J)/\
 au xT (qG 79 (xL (dB (S.add 9))) (xK y.ptr y.len y.cap)) J λ_ h3=>
 (bK.ok [] h3)/\
 ∃z:fY,(c=dB z)/\
 au xT (qG 79 (xL (dB (z.add 10))) (xK v9.ptr v9.len v9.cap)) h3 λ_ q=>
 (bK.ok [] q)/\
 R () q)/\(au xT (qG 79 (xL (dB (S.add 9))) (xK y.ptr y.len y.cap)) G λ_ T=>
 (bK.ok [] T)/\
 bC xT (zB 79 (xJ xP ((a.len:Nat):Int)) (xJ xP ((a.len:Nat):Int))) (.one (.sc .slc)) T λu Z=>
 (bK.ok [] Z)/\
 ∃I:fY,(c=dB I)/\
 au xT (qG 79 (xL (dB (I.add 10))) (xK u.ptr u.len u.cap)) Z λ_ Y=>
 (bK.ok [] Y)/\
 R () Y))/\(bC xT (zB 79 (xJ xP ((a.len:Nat):Int)) (xJ xP ((a.len:Nat):Int))) (.one (.sc .slc)) h λt h8=>
 (bK.ok [(a5.add 4,(xK a.ptr a.len a.cap)),(a3.add 4,(xK b.ptr b.len b.cap))] h8)/\
 bC xT (zB 79 (xJ xP ((b.len:Nat):Int)) (xJ xP ((b.len:Nat):Int))) (.one (.sc .slc)) h8 λw X=>
 (bK.ok [(a5.add 4,(xK a.ptr a.len a.cap)),(a3.add 4,(xK b.ptr b.len b.cap))] X)/\
 ∃A:fY,(c=dB A)/\
 au xT (qG 79 (xL (dB (A.add 9))) (xK w.ptr w.len w.cap)) X λ_ E=>
 (bK.ok [] E)/\
 ∃M:fY,(c=dB M)/\
 au xT (qG 79 (xL (dB (M.add 10))) (xK t.ptr t.len t.cap)) E λ_ L=>
 (bK.ok [] L)/\
 R () L)) (dB s) K:=by
 have W:=H.box 0 m9;refine⟨s,m9,v,W.cell m9,s,m9,v,W.cell m9,?_,?_⟩
 .refine H.make ag bv cO nq ⟨eH,0,0⟩ m9 m9 n n B2 B2 (qj _) nb λi G o P m=>?_;have m:=m.ba;have j:=m.box 1 m9;refine⟨⟨j.cell m9,j.cell m9,I0⟩,s,m9,?_,?_⟩
  .refine m.make ag bv cO nq ⟨eH,0,0⟩ m9 m9 n n B2 B2 (qj _) nb λd J g F e=>?_;have e:=e.ba;have k:=e.box 2 m9;refine⟨⟨k.cell m9,k.cell m9,I0⟩,?_⟩;refine e.store ag 2 m9 m9 9 [i] m9 m9 m9 A0 λh3 x=>⟨I0,s,m9,?_⟩
   refine x.store ag 2 m9 m9 10 [d] m9 m9 m9 A0 λq D=>⟨I0,?_⟩
   exact N i d q o g (D.aF 4 [2,1,0,3])
  .refine m.store ag 1 m9 m9 9 [i] m9 m9 m9 A0 λJ e=>⟨I0,?_⟩
   refine e.make ag bv cO nq ⟨eH,0,0⟩ m9 m9 n n B2 B2 (qj _) nb λd h3 g F x=>⟨I0,s,m9,?_⟩
   have x:=x.ba;refine x.store ag 2 m9 m9 10 [d] m9 m9 m9 A0 λq D=>⟨I0,?_⟩
   exact N i d q o g (D.aF 4 [2,1,0,3])
 .refine H.make ag bv cO nq ⟨eH,0,0⟩ m9 m9 n n B2 B2 (qj _) nb λd G o P m=>?_;have m:=m.ba;have j:=m.box 1 m9;refine⟨⟨j.cell m9,j.cell m9,I0⟩,?_⟩;refine m.make ag bv cO nq ⟨eH,0,0⟩ m9 m9 n n B2 B2 (qj _) nb λi J g F e=>?_;have e:=e.ba;have k:=e.box 2 m9;refine⟨⟨k.cell m9,k.cell m9,I0⟩,s,m9,?_⟩;refine e.store ag 2 m9 m9 9 [i] m9 m9 m9 A0 λh3 x=>⟨I0,s,m9,?_⟩
  refine x.store ag 2 m9 m9 10 [d] m9 m9 m9 A0 λq D=>⟨I0,?_⟩
  exact N i d q g o (D.aF 4 [2,0,1,3])
theorem Wr(n nd w:Nat)(d:aC):(gc n nd w d).1.length=n/\(gc n nd w d).2.length=n:=by
 unfold gc;have:∀(l:List (Int×Nat)) (s:aO×aO),(l.foldl (λs p=>(s.1.set p.1.toNat (nS nd p.2),s.2.set p.1.toNat (aN w))) s).1.length=m8 s.1/\(l.foldl (λs p=>(s.1.set p.1.toNat (nS nd p.2),s.2.set p.1.toNat (aN w))) s).2.length=m8 s.2:=by
  intro l
  induction l with
  |nil=>intro s;exact⟨m9,m9⟩
  |cons a l ih=>intro s;rw[zO];have:=ih (s.1.set a.1.toNat (nS nd a.2),s.2.set a.1.toNat (aN w));simpa using this
 have:=this d.zipIdx (qf n [],qf n []);simpa using this
abbrev Told(s f:fY)(p:Int×Int×Int)(v r h g c b a:Sl)(d e:List Sl)(pl:List (Sl×Row)):List HP:=[SA s (iv f p v r h g c b a),HA b d,HA a e,fT pl]
theorem Tu(s f:fY)(p:Int×Int×Int)(v r st W lf wa T:Sl)(I mr:List Sl)(pl:List (Sl×Row))(c:Int)(nd w:Nat)(H:aa B h0 h (Told s f p v r st W lf wa T I mr pl++As))(ay:0<=c)(hw:c.toNat<m8 I)(Z:c.toNat<m8 mr)(Y:p.2.2=w)(hd:W.len=nd)(ax:nd<=64)(P:w<=2^20){K:Unit->hY->Prop}
  (hk:∀a b h',aa B h0 h' (RA a (aN nd)::RA b (aN w)::(Told s f p v r st W lf wa T (I.set c.toNat a) (mr.set c.toNat b) pl++As))->K () h'):(λ(J:bx) (K3:Unit->hY->Prop)=>
 ∃l:fY,(J=dB l)/\
 ∃g:Sl,hU h (l.add 9)=dB (xK g.ptr g.len g.cap)/\
 ∃a25:fY,(J=dB a25)/\
 ∃d:Sl,hU h (a25.add 10)=dB (xK d.ptr d.len d.cap)/\
 ∃Q:fY,(J=dB Q)/\
 ∃j:Int,hU h ((Q.add 1).add 2)=dB (xJ xP j)/\
 (bC xT (zB 41 (xJ xP ((W.len:Nat):Int)) (xJ xP ((W.len:Nat):Int))) (.one (.sc .slc)) h λo U=>
 (bK.ok [((Q.add 1).add 2,(xJ xP j)),(a25.add 10,(xK d.ptr d.len d.cap)),(l.add 9,(xK g.ptr g.len g.cap))] U)/\
 ∃V:fY,(g.ptr=dB V/\0<=c/\c<((g.len:Nat):Int))/\
 (bC xT (zB 41 (xJ xP j) (xJ xP j)) (.one (.sc .slc)) U λS am=>
 (bK.ok [(a25.add 10,(xK d.ptr d.len d.cap)),(l.add 9,(xK g.ptr g.len g.cap))] am)/\
 au xT (qG 41 (xL (dB (V.add (c.toNat*1)))) (xK o.ptr o.len o.cap)) am λ_ E=>
 (bK.ok [] E)/\
 ∃F:fY,(d.ptr=dB F/\0<=c/\c<((d.len:Nat):Int))/\
 au xT (qG 41 (xL (dB (F.add (c.toNat*1)))) (xK S.ptr S.len S.cap)) E λ_ t=>
 (bK.ok [] t)/\
 K3 () t)/\(au xT (qG 41 (xL (dB (V.add (c.toNat*1)))) (xK o.ptr o.len o.cap)) U λ_ y=>
 (bK.ok [] y)/\
 bC xT (zB 41 (xJ xP j) (xJ xP j)) (.one (.sc .slc)) y λk A=>
 (bK.ok [] A)/\
 ∃u:fY,(d.ptr=dB u/\0<=c/\c<((d.len:Nat):Int))/\
 au xT (qG 41 (xL (dB (u.add (c.toNat*1)))) (xK k.ptr k.len k.cap)) A λ_ D=>
 (bK.ok [] D)/\
 K3 () D))/\(bC xT (zB 41 (xJ xP j) (xJ xP j)) (.one (.sc .slc)) h λM ap=>
 (bK.ok [(a25.add 10,(xK d.ptr d.len d.cap)),(l.add 9,(xK g.ptr g.len g.cap))] ap)/\
 bC xT (zB 41 (xJ xP ((W.len:Nat):Int)) (xJ xP ((W.len:Nat):Int))) (.one (.sc .slc)) ap λO ah=>
 (bK.ok [(a25.add 10,(xK d.ptr d.len d.cap)),(l.add 9,(xK g.ptr g.len g.cap))] ah)/\
 ∃ab:fY,(g.ptr=dB ab/\0<=c/\c<((g.len:Nat):Int))/\
 au xT (qG 41 (xL (dB (ab.add (c.toNat*1)))) (xK O.ptr O.len O.cap)) ah λ_ al=>
 (bK.ok [] al)/\
 ∃ao:fY,(d.ptr=dB ao/\0<=c/\c<((d.len:Nat):Int))/\
 au xT (qG 41 (xL (dB (ao.add (c.toNat*1)))) (xK M.ptr M.len M.cap)) al λ_ ad=>
 (bK.ok [] ad)/\
 K3 () ad)) (dB s) K:=by
 have hb:=H.box 0 m9;have mk:∀{X:hY} {Cs:List HP} (m:Nat) (Z:m<=2^20) {z1 z2:Int},z1=(m:Int)->z2=(m:Int)->aa B h0 X Cs->∀{K:Sl->hY->Prop},(∀a h',aa B h0 h' (RA a (aN m)::Cs)->K a h')->
   bC xT (zB 41 (xJ xP z1) (xJ xP z2)) (.one (.sc .slc)) X K:=by
  intro X Cs m Z z1 z2 e1 e2 G K hK;subst e1;subst e2;exact G.make ag aq cR nq 0 m9 m9 m m m9 m9 (qj _) nb λa h' _ _ H'=>hK a h' H'.ba
 refine⟨s,m9,wa,hb.cell m9,s,m9,T,hb.cell m9,s,m9,p.2.2,show hU h (s.add 3)=_ from hb.cell m9,?_,?_⟩
 .refine mk nd nb (by rw[hd]) (by rw[hd]) H λa X G=>?_;have n:=G.box 1 m9;refine⟨⟨show hU X (s.add 3)=_ from n.cell m9,n.cell m9,n.cell m9,I0⟩,?_⟩;have q:∀{h2:hY} {Cs:List HP} {I:List Sl} (i:Nat) (a:Sl) {s':Sl},aa B h0 h2 Cs->Cs[i]?=dB (HA s' I)->c.toNat<m8 I->∀{K:hY->Prop},(∀h',aa B h0 h' (Cs.set i (HA s' (I.set c.toNat a)))->K h')->∃x:fY,(s'.ptr=dB x/\0<=c/\c<((s'.len:Nat):Int))/\au xT (qG 41 (xL (dB (x.add (c.toNat*1)))) (xK a.ptr a.len a.cap)) h2 λ_ h'=>K h':=by intro h2 Cs I i a s' N hi hl K hK;exact N.set ag i hi (λ_=>rfl) m9 c.toNat nb hl a m9 m9 m9 λh3 R=>hK h3 R
  obtain⟨x,hx,-⟩:=q (K:=λ_=>True) 2 a G rfl hw λ_ _=>trivial;refine⟨x,hx,?_,?_⟩
  .refine mk w P Y Y G λb h2 N=>?_;have z:=N.box 2 m9;refine⟨⟨z.cell m9,z.cell m9,I0⟩,?_⟩;obtain⟨x',L,hr⟩:=q (K:=λE=>bK.ok [] E/\∃F:fY,(T.ptr=dB F/\0<=c/\c<((T.len:Nat):Int))/\
 au xT (qG 41 (xL (dB (F.add (c.toNat*1)))) (xK b.ptr b.len b.cap)) E λ_ t=>(bK.ok [] t)/\K () t) 3 a N m9 hw λh3 R=>⟨I0,q 4 b R m9 Z λh4 H4=>⟨I0,hk a b h4 (H4.aF 6 [1,0,2,3,4,5])⟩⟩
   have e:x=x':=z8.inj (hx.1.symm.trans L.1);subst e;exact hr
  .obtain⟨x',L,hr⟩:=q (K:=λy=>bK.ok [] y/\bC xT (zB 41 (xJ xP p.2.2) (xJ xP p.2.2)) (.one (.sc .slc)) y λk A=>
 (bK.ok [] A)/\
 ∃u:fY,(T.ptr=dB u/\0<=c/\c<((T.len:Nat):Int))/\
 au xT (qG 41 (xL (dB (u.add (c.toNat*1)))) (xK k.ptr k.len k.cap)) A λ_ D=>
 (bK.ok [] D)/\K () D) 2 a G m9 hw λh3 R=>⟨I0,mk w P Y Y R λb h4 H4=>⟨I0,q 4 b H4 m9 Z λh5 H5=>⟨I0,hk a b h5 (H5.aF 6 [1,0,2,3,4,5])⟩⟩⟩
   have e:x=x':=z8.inj (hx.1.symm.trans L.1);subst e;exact hr
 .refine mk w P Y Y H λb X G=>?_;have n:=G.box 1 m9;refine⟨⟨n.cell m9,n.cell m9,I0⟩,?_⟩;refine mk nd nb (by rw[hd]) (by rw[hd]) G λa h2 N=>?_;have z:=N.box 2 m9;refine⟨⟨z.cell m9,z.cell m9,I0⟩,?_⟩;refine N.set ag 3 m9 (λ_=>rfl) m9 c.toNat nb hw a m9 m9 m9 λh3 R=>⟨I0,?_⟩
  refine R.set ag 4 m9 (λ_=>rfl) m9 c.toNat nb Z b m9 m9 m9 λh4 H4=>⟨I0,hk a b h4 (H4.aF 6 [0,1,2,3,4,5])⟩
theorem NA{h:hY}{Cs:List HP}(x:Sl)(m:Row)(nd:Nat)(z:Int)(H:aa B h0 h Cs)(w:z=nd)(A:nd<=64)(E:m8 m<=2^20){L L2:bK}(D:L.ok h)(l:L2.ok h)(r:St B h0 Cs λh=>Rd h x 1 aq m){K:Sl->Sl->hY->Prop}
  (s:∀a b h',aQ (λb=>b<h.size) h h'->aa B h0 h' (RA a (aN nd)::RA b m::Cs)->K a b h'):
  (bC xT (zB 41 (xJ xP z) (xJ xP z)) (.one (.sc .slc)) h λf d=>
 (bK.ok L d)/\
 jZ xT 213 #[(xK x.ptr x.len x.cap)] (.one (.sc .slc)) d λg o=>K f g o)/\(jZ xT 213 #[(xK x.ptr x.len x.cap)] (.one (.sc .slc)) h λi e=>
 (bK.ok L2 e)/\
 bC xT (zB 41 (xJ xP z) (xJ xP z)) (.one (.sc .slc)) e λj p=>K j i p):=by
 subst w;constructor
 .refine H.Ep ag aq cR nq 0 m9 m9 nd nd m9 m9 (qj _) nb λa t _ q c=>⟨gP q D,?_⟩
  have c:=c.ba;refine(fW x m t (r.at [_] c)).Hf λb k u=>⟨b,m9,s a b k (up q u.ac) ((c.bS u).nF)⟩
 .refine(fW x m h (r.at [] H)).Hf λb t n=>?_;have c:=H.bS n;refine⟨b,m9,gP n.ac l,?_⟩;refine c.Ep ag aq cR nq 0 m9 m9 nd nd m9 m9 (qj _) nb λa k _ y v=>?_;exact s a b k (up n.ac y) v.ba
structure mu (pool pl:List (Sl×Row)) (wr mr:List Sl) (W M:aO):Prop where
 sub:∀x∈pool,x∈pl
 way:bZ pl id wr W
 more:bZ pl id mr M
theorem mu.step{pool pl:List (Sl×Row)}{e f:List Sl}{W M:aO}(x:mu pool pl e f W M)(c:Nat)(a b:Sl)(l m:Row):mu pool ((b,m)::(a,l)::pl) (e.set c a) (f.set c b) (W.set c l) (M.set c m):=
 ⟨λy d=>by simp[x.sub y d],(x.way.mono λy d=>A4).set c n4,(x.more.mono λy d=>A4).set c n4⟩
theorem Tv(s f:fY)(p:Int×Int×Int)(v r A q I a5 ay:Sl)(rr:List (Sl×Sl))(R:List fp)(ST:List (Int×Int))(D L:aC)(n nd w:Nat)(pool:List (Sl×Row))(H:aa B h0 h (SA s (iv f p v r A q I a5 ay)::fT pool::As))(Y:St B h0 As λh=>Tt h f r A q I rr R ST D L)
  (hv:v.len=n) (hn:n<=64) (hp:p.2.2=w) (hw:w<=2^20) (b4:m8 D=nd) (ad:nd<=64) (hR:∀e∈R,jd n w e) (hD:∀c∈D,0<=c/\c<(n:Int)) (b1:D.Nodup) (hg:rT (R.map qC) (·∈D) ST) (cb:m8 ST<=2^20) (ca:∀e∈R,m8 e.1<=2^20) (a7:(⟨eH,0,0⟩,[])∈pool):
  aj xT 227 #[xL (dB s)] h λv' h'=>v'=.tuple #[]/\∃k m z E pl,aa B h0 h' (Told s f p v r A q I k m z E pl++As)/\mu pool pl z E (ST.foldl (ie R nd) (gc n nd w D)).1 (ST.foldl (ie R nd) (gc n nd w D)).2:=by
 refine ts Tryz.func227 ?_ (F8 (G0 [] [(18,36)] (E5 (F8 (E7 (E8 [(42,aI)] [(3,5),(42,77)] (F8 (F8 (E5 (E7 (F8 (G0 [] [(47,67)] E6))) E6)))))) (F8 (E7 (E8 [(83,aI)] [(6,10),(11,12),(83,134)] (F8 (F8 (E5 (E7 (F8 (G0 [(7,(.sc .adr))] [(7,8),(87,95)] (G0 [(8,bJ),(9,bJ)] [(8,10),(95,100)] (F9 [(103,aI)] [(11,12),(103,117)]))))) E6))))))))) [(1,(.y [0,1,2,3,4,5,6,8,9,10,11,12] (.y [7,14,15] (.l [13,16,17,18,19]) (.l [16,13,17,18,19])) (.l [13,7,14,15,16,17,18,19]))),(5,(.y [0,1,2,3,4,5,6,7,8,9,10,12,13,14,15,16] (.y [11,18] (.l [17,19,20,21]) (.l [19,17,20,21])) (.l [17,11,18,19,20,21]))),(12,(.y [0,2,3] (.l [1,4,5,6]) (.l [4,1,5,6])))];have hb:=H.box 0 m9;have a6:q.len=nd:=by rw[(Y.at [_,_] H).dead.len,b4]
 refine⟨s,m9,q,show hU h (s.add 7)=_ from hb.cell m9,?_⟩;refine bn (λ_ h'=>∃k m,k.len=n/\m.len=n/\aa B h0 h' (Told s f p v r A q I k m (qf n ⟨eH,0,0⟩) (qf n ⟨eH,0,0⟩) pool++As)) ?_ ?_
 .exact Pu (K:=λ_ h'=>∃k m,k.len=n/\m.len=n/\aa B h0 h' (Told s f p v r A q I k m (qf n ⟨eH,0,0⟩) (qf n ⟨eH,0,0⟩) pool++As)) s f p v r A q I a5 ay n pool H hv hn λk m h' h1 h2 O=>⟨k,m,h1,h2,O⟩
 rintro-h1 ⟨k,m,cs,cd,H1⟩;have b6:=H1.box 0 m9;refine⟨s,m9,q,show hU h1 (s.add 7)=_ from b6.cell m9,?_⟩;refine ak (λt:Nat×List Sl×List Sl×List (Sl×Row)=>(t.1:Int)) (λt h'=>t.1<=nd/\aa B h0 h' (Told s f p v r A q I k m t.2.1 t.2.2.1 t.2.2.2++As)/\mu pool t.2.2.2 t.2.1 t.2.2.1 (gc n nd w (D.take t.1)).1 (gc n nd w (D.take t.1)).2) (λt=>nd-t.1)
  (0,qf n ⟨eH,0,0⟩,qf n ⟨eH,0,0⟩,pool) m9 ⟨nb,H1,⟨λ_ h=>h,HV pool a7 n,HV pool a7 n⟩⟩ ?_
 rintro⟨i,z,E,pl⟩ h2 ⟨hi,H2,T2⟩;dsimp only at*;have bl:=Wr n nd w (D.take i);have Q:=T2.way.1;have S:=T2.more.1;refine ae (λe=>?_) (λe=>?_)
 .have ab:i<nd:=nb
  have X:=hD _ (qe (show i<m8 D by omega));refine(Y.at [_,_,_,_] H2).dead.aW i m9 nb _ m9 ?_;refine bn (λ_ h'=>∃a b,aa B h0 h' (RA a (aN nd)::RA b (aN w)::(Told s f p v r A q I k m (z.set D[i].toNat a) (E.set D[i].toNat b) pl++As))) ?_ ?_
  .exact Tu (K:=λ_ h'=>∃a b,aa B h0 h' (RA a (aN nd)::RA b (aN w)::(Told s f p v r A q I k m (z.set D[i].toNat a) (E.set D[i].toNat b) pl++As))) s f p v r A q I k m z E pl D[i] nd w H2 X.1 nb nb hp a6 ad hw λa b h' O=>⟨a,b,O⟩
  rintro-h3 ⟨a,b,H3⟩;refine⟨s,m9,k,(H3.box 2 m9).cell m9,?_⟩;refine(H3.seq 3 m9 λ_=>rfl).ly D[i].toNat nb n2 ?_;rw[wU];refine H3.set ag 0 m9 (λ_=>rfl) m9 i m9 (by simp[aN];omega) 1 m9 m9 m9 λh4 H4=>?_;have H5:=(H4.freeze 0 m9 λ_=>rfl).pool 5 0 nq m9 m9;have H6:=(H5.freeze 1 m9 λ_=>rfl).pool 5 1 nq m9 m9;refine⟨(i+1,z.set D[i].toNat a,E.set D[i].toNat b,_),n3,⟨n1,H6.aF 6 [2,3,4,5],?_⟩,n1⟩
  try dsimp only
  have e1:D.take (i+1)=D.take i++[D[i]]:=aA _ _;have e2:(D.take i).length=i:=n2
  rw[e1,GZ,e2];exact T2.step D[i].toNat a b (nS nd i) (aN w)
 have ao:i=m8 D:=nb
 subst ao;rw[qt]at T2 bl Q S;refine⟨s,m9,A,(H2.box 0 m9).cell m9,?_⟩;have cc:=(Y.at [_,_,_,_] H2).steps.len;refine ak (λt:Nat×List Sl×List Sl×List (Sl×Row)=>(t.1:Int)) (λt h'=>t.1<=m8 ST/\aa B h0 h' (Told s f p v r A q I k m t.2.1 t.2.2.1 t.2.2.2++As)/\mu pool t.2.2.2 t.2.1 t.2.2.1 ((ST.take t.1).foldl (ie R nd) (gc n nd w D)).1 ((ST.take t.1).foldl (ie R nd) (gc n nd w D)).2) (λt=>m8 ST-t.1)
  (0,z,E,pl) m9 ⟨n4,H2,T2⟩ ?_
 clear Q S T2 H2 hi e;rintro⟨i,z,E,pl⟩ h3 ⟨hi,H3,T3⟩;dsimp only at*;obtain⟨dk,-⟩:=IN (nd:=nd) (w:=w) hD b1 D.length (qj _);rw[qt]at dk;have a8:=Kr (l1:=ST.take i) (l2:=ST.drop i) (by rw[qA];exact hg);obtain⟨a3,-⟩:=FT hR a8.1 dk;obtain⟨W,hW⟩:=HF (((ST.take i).foldl (ie R nd) (gc n nd w D)).1)
 obtain⟨M,hM⟩:=HF (((ST.take i).foldl (ie R nd) (gc n nd w D)).2)
 have am:(ST.take i).foldl (ie R nd) (gc n nd w D)=(W,M):=by rw[hW,hM]
 have J:UR n nd w (λc=>c∈D∨∃j,(j,c)∈ST.take i) W M:=by rw[hW,hM];exact a3
 rw[<-hW,<-hM]at T3;clear a3 hW hM;have cf:=J.wl;have cn:=J.ml;have Q:=T3.way.1;have S:=T3.more.1;refine ae (λe=>?_) (λe=>?_)
 .have ab:i<m8 ST:=nb
  have al:=a8.2;rw[qT ab]at al;obtain⟨row,aV,ap⟩:∃row aV,ST[i]=(row,aV):=⟨_,_,rfl⟩
  rw[ap]at al;obtain⟨g1,g2,g3,g4,-⟩:=al;have o:row.toNat<m8 R:=by have:=g1.2;rw[qn]at this;omega
  obtain⟨d,P⟩:=HF (R[row.toNat])
  have er:R.getD row.toNat ([],[])=d:=by rw[qg,qc o,P];rfl
  have b2:(R.map qC).getD row.toNat []=d.1:=by rw[qg,qM,qc o,P];rfl
  rw[b2]at g3 g4;have N:=hR d (P▸qe o);have cr:=ca d (P▸qe o);have ci:=N.df aV g3;have G3:=Y.at [_,_,_,_] H3;have hF:=G3.rest.2.1;refine G3.steps.cQ (g:=gh) i m9 ab ST[i] m9 ?_;rw[ap];refine H3.ub ag m9 λa50 h4 P4 H4=>?_;have H4:=H4.ba;refine H4.storeAll ag 0 m9 m9 (gh (row,aV)) m9 m9 m9 m9 λh5 H5=>?_;have b5:row.toNat<m8 rr:=by rw[hF];exact o
  obtain⟨y,hy⟩:=HF (rr[row.toNat])
  have G:∀{h'},gE kl 2 qv h' r rr R->kl.p h' (λb=>b<h'.size) y d:=λhh=>by rw[hy,P];exact Fix.row hh o
  refine bn (λa' h'=>aa B h0 h' (an a' 253 (qv y)::an a50 326 (gh (row,aV))::(Told s f p v r A q I k m z E pl++As))) ?_ ?_
  .have bd:=H5.box 1 m9;have G5:=Y.at [_,_,_,_,_] H5;refine⟨s,m9,r,bd.cell m9,row,(H5.box 0 m9).cell0 m9,?_⟩;obtain⟨b3,ha,x,X,rfl⟩:=G5.rest.1.cQ (g:=qv) (i:=row) row.toNat nb b5 y (by rw[hy]) (K:=λx=>x=y) rfl;refine⟨b3,ha,_,X,?_⟩;refine H5.ub ag m9 λU h6 P6 H6=>⟨⟨eE X.1 P6,eE X.2.1 P6,eE ((H5.box 0 m9).cell0 m9) P6,eE (bd.cell m9) P6,I0⟩,?_⟩
   have H6:=H6.ba;refine H6.storeAll ag 0 m9 m9 (qv x) m9 m9 m9 m9 λh7 H7=>⟨I0,H7⟩
  intro U h7 H7;refine bn (λt h'=>aa B h0 h' (RA t.1 (aN nd)::RA t.2 d.2::an U 253 (qv y)::an a50 326 (gh (row,aV))::(Told s f p v r A q I k m z E pl++As))) ?_ ?_
  .have bb:=H7.box 0 m9;refine⟨y.2,bb.cell m9,?_⟩;exact NA (L:=[(U.add 1,xK y.2.ptr y.2.len y.2.cap)]) (K:=λa b h'=>bK.ok [] h'/\aa B h0 h' (RA a (aN nd)::RA b d.2::an U 253 (qv y)::an a50 326 (gh (row,aV))::(Told s f p v r A q I k m z E pl++As))) y.2 d.2 nd _ H7 (by rw[a6]) ad (by rw[N.len];exact hw) ⟨bb.cell m9,I0⟩ (L2:=[]) I0 (St.mk' λh' O=>(G (Y.at [_,_,_,_,_,_] O).rest).2) λa b h' _ O=>⟨I0,O⟩
  rintro⟨V,u⟩ h8 H8;dsimp only at H8;refine⟨y.1,(H8.box 2 m9).cell0 m9,?_⟩;have cp:=(G (Y.at [_,_,_,_,_,_,_,_] H8).rest).1.len;let F:Nat->aC:=λj=>(d.1.take j).filter λc=>!decide (c=aV);refine ak (λj:Nat=>(j:Int)) (λj h'=>j<=m8 d.1/\aa B h0 h' (RA V (cY W (aN nd) (F j))::RA u (cY M d.2 (F j))::an U 253 (qv y)::an a50 326 (gh (row,aV))::(Told s f p v r A q I k m z E pl++As))) (λj=>m8 d.1-j) 0 m9 ⟨nb,by simpa[F,cY]using H8⟩ ?_;rintro j h9 ⟨hj,H9⟩;have told:∀c∈F j,(az W c.toNat).length=nd/\(az M c.toNat).length=w:=λc X=>by
   have a2:=qJ.1 X;have hm:=zK a2.1;exact J.rw_ c (g4 c hm (by simpa using a2.2)) (N.df c hm).1 (N.df c hm).2
  have a1:(cY W (aN nd) (F j)).length=nd:=jU pt λc X=>(told c X).1;have a0:(cY M d.2 (F j)).length=w:=jU N.len λc X=>(told c X).2;refine ae (λe2=>?_) (λe2=>?_)
  .have T:j<m8 d.1:=nb
   have ah:=N.df _ (qe T);refine(G (Y.at [_,_,_,_,_,_,_,_] H9).rest).1.aW j m9 T _ m9 ?_;refine⟨aV,(H9.box 3 m9).cell m9,?_⟩;refine bm (λax=>?_) (λbr=>?_)
   .have tc:=J.rw_ d.1[j] (g4 _ (qe T) ax) ah.1 ah.2;refine(DQ s f 1 d.1[j] V u k m _ _ z E W M H9 (St.mk' λh' O=>?_) ah.1 nb nb (by rw[tc.1,a1]) (by rw[tc.2,a0]) nb nb).mono ?_
    .exact AT.of (O.box 2 m9) (Y.at [_,_,_,_,_,_] O).field (O.BU 3 5 m9 m9 T3.way) (O.BU 4 5 m9 m9 T3.more)
    rintro _ bq ⟨rfl,Z⟩;have e3:F (j+1)=F j++[d.1[j]]:=by simp only[F];rw[jK _ _ T];simp[ax]
    exact⟨(),m9,j+1,n7,⟨nb,by rw[e3,sf,sf];exact Z⟩,nb⟩
   .have e3:F (j+1)=F j:=by simp only[F];rw[jK _ _ T];simp[br]
    exact⟨j+1,n7,⟨nb,by rw[e3];exact H9⟩,nb⟩
  .have b7:j=m8 d.1:=nb
   subst b7;have a9:=H9.box 3 m9;have a4:=H9.box 4 m9;refine⟨s,m9,k,a4.cell m9,aV,a9.cell m9,s,m9,m,a4.cell m9,aV,a9.cell m9,?_⟩;refine H9.set ag 5 m9 (λ_=>rfl) m9 aV.toNat nb nb V m9 m9 m9 λbq Z=>⟨⟨(Z.box 3 m9).cell m9,I0⟩,?_⟩
   refine Z.set ag 6 m9 (λ_=>rfl) m9 aV.toNat nb nb u m9 m9 m9 λcq bk=>⟨I0,?_⟩
   have b9:=(bk.freeze 0 m9 λ_=>rfl).pool 7 0 nq m9 m9;have b0:=(b9.freeze 1 m9 λ_=>rfl).pool 7 1 nq m9 m9;refine⟨(i+1,z.set aV.toNat V,E.set aV.toNat u,_),n3,⟨n1,b0.aF 8 [4,5,6,7],?_⟩,n1⟩
   try dsimp only
   rw[aA _ _ ab,wB,am,ap];have e3:[(row,aV)].foldl (ie R nd) (W,M)=(W.set aV.toNat (cY W (aN nd) (F d.1.length)),M.set aV.toNat (cY M d.2 (F d.1.length))):=by simp only[zO,List.foldl_nil,ie,er,F,qt]
   rw[e3];exact T3.step aV.toNat V u _ _
 .have ao:i=m8 ST:=nb
  subst ao;rw[qt]at am;exact⟨m9,k,m,z,E,pl,H3,by rw[am];exact T3⟩
def kL(nd:Nat)(known:List Bool)(vals:aO)(s:aO×aO)(i:Nat):aO×aO:=
 (s.1.mapIdx λc r=>if c<i/\known.getD c eR=eL then aN nd else r,s.2.mapIdx λc r=>if c<i/\known.getD c eR=eL then az vals c else r)
theorem Tw(nd:Nat)(known:List Bool)(vals:aO)(s:aO×aO):kL nd known vals s 0=s:=by unfold kL;refine yU ?_ ?_<;>refine zW n4 λi b a=>?_<;>simp
theorem Ws(nd:Nat)(known:List Bool)(vals:aO)(s:aO×aO){n:Nat}(a:m8 s.1=n)(b:m8 s.2=n):kL nd known vals s n=iK nd known vals s:=by unfold kL iK;refine yU ?_ ?_<;>refine zW n4 λi a b=>?_<;>simp at a<;>simp[show i<n by omega]
theorem Wu(nd:Nat)(known:List Bool)(vals:aO)(s:aO×aO){i:Nat}(d:known.getD i eR=eL):kL nd known vals s (i+1)=((kL nd known vals s i).1.set i (aN nd),(kL nd known vals s i).2.set i (az vals i)):=by
 unfold kL;refine yU ?_ ?_<;>refine zW n4 λj f e=>?_<;>simp only[List.getElem_mapIdx,xl]<;>by_cases c:i=j
 .subst c;rw[hZ ⟨nb,d⟩,hZ rfl]
 .rw[k4 c];congr 1;simp only[eq_iff_iff];constructor<;>rintro⟨a,b⟩<;>exact⟨nb,b⟩
 .subst c;rw[hZ ⟨nb,d⟩,hZ rfl]
 .rw[k4 c];congr 1;simp only[eq_iff_iff];constructor<;>rintro⟨a,b⟩<;>exact⟨nb,b⟩
theorem YR(nd:Nat)(known:List Bool)(vals:aO)(s:aO×aO){i:Nat}(e:known.getD i eR=eR):kL nd known vals s (i+1)=kL nd known vals s i:=by
 have d:∀j,(j<i+1/\known.getD j eR=eL)↔(j<i/\known.getD j eR=eL):=λj=>by
  constructor
  .rintro⟨a,b⟩;by_cases c:j=i
   .subst c;rw[e]at b;cases b
   .exact⟨nb,b⟩
  .rintro⟨a,b⟩;exact⟨nb,b⟩
 unfold kL;simp only[d]
theorem Wv(s f:fY)(p:Int×Int×Int)(v r O y L I J:Sl)(j d g:List Sl)(pl:List (Sl×Row))(known:List Bool)(V W M:aO)(n nd:Nat)(H:aa B h0 h (Told s f p v r O y L I J d g pl++HA v j::As))(hn:n<=64)(w:y.len=nd)(ah:nd<=64)(hT:mu pl pl d g W M)(R:bZ pl id j V)(ab:m8 V=n)(F:m8 W=n)(A:m8 M=n)
  (Y:∀(c:Nat) (hc:c<m8 j),j[c].ptr.isNone=!(known.getD c eR)):
  aj xT 228 #[xL (dB s)] h λU h'=>U=.tuple #[]/\∃d g b,aa B h0 h' (Told s f p v r O y L I J d g b++HA v j::As)/\mu pl b d g (iK nd known V (W,M)).1 (iK nd known V (W,M)).2:=by
 refine ts Tryz.func228 ?_ (F8 (E7 (E8 [(9,aI)] [(2,4),(9,37)] E6))) [(4,(.l [0,1,2,3,4,5,6,7,8,9,10,11,12,13,14,15,17,16,18,19,20,21]))];have P:=R.1;have N:v.len=n:=by rw[(H.own 4 m9).len];omega
 refine⟨s,m9,v,(H.box 0 m9).cell m9,?_⟩;refine ak (λt:Nat×List Sl×List Sl×List (Sl×Row)=>(t.1:Int)) (λt h'=>t.1<=n/\aa B h0 h' (Told s f p v r O y L I J t.2.1 t.2.2.1 t.2.2.2++HA v j::As)/\mu pl t.2.2.2 t.2.1 t.2.2.1 (kL nd known V (W,M) t.1).1 (kL nd known V (W,M) t.1).2) (λt=>n-t.1) (0,d,g,pl) m9 ⟨nb,H,by rw[Tw];exact hT⟩ ?_;rintro⟨i,d,g,b⟩ h1 ⟨hi,E,k⟩;dsimp only at*;have al:(kL nd known V (W,M) i).1.length=n:=by simp[kL,F]
 have T:(kL nd known V (W,M) i).2.length=n:=by simp[kL,A]
 have S:=k.way.1;have Q:=k.more.1;refine ae (λe=>?_) (λe=>?_)
 .have ad:i<n:=nb
  refine(E.seq 4 m9 λ_=>rfl).ly i m9 nb ?_;have z:=Y i nb;refine aH (λD=>?_) (λD=>?_)
  .have m:known.getD i eR=eL:=by rw[z]at D;simpa using D
   have o:=E.box 0 m9;refine⟨s,m9,I,o.cell m9,s,m9,J,o.cell m9,s,m9,y,show hU h1 (s.add 7)=_ from o.cell m9,?_⟩;refine E.Ep ag aq cR nq 0 m9 m9 nd nd (by rw[w]) (by rw[w]) (qj _) nb λa h2 _ P2 G=>?_;have G:=G.ba;have q:=G.box 1 m9;refine⟨⟨show hU h2 (s.add 7)=_ from q.cell m9,q.cell m9,q.cell m9,I0⟩,?_⟩;refine G.set ag 2 m9 (λ_=>rfl) m9 i m9 nb a m9 m9 m9 λh3 H3=>⟨I0,?_⟩
   refine H3.set ag 3 m9 (λ_=>rfl) m9 i m9 nb (j[i]'nb) m9 m9 m9 λh4 X=>⟨I0,?_⟩
   have H5:=(X.freeze 0 m9 λ_=>rfl).pool 4 0 nq m9 m9;refine⟨(i+1,d.set i a,g.set i (j[i]'nb),_),n3,⟨n1,H5.aF 5 [1,2,3,4],?_⟩,n1⟩
   try dsimp only
   rw[Wu nd known V (W,M) m];have Z:((j[i]'nb),az V i)∈pl:=by have:=R.get (i:=i) nb;rw[mA nb];exact this
   exact⟨λx u=>qp _ (k.sub x u),(k.way.mono λx u=>qp _ u).set i pt,(k.more.mono λx u=>qp _ u).set i (qp _ (k.sub _ Z))⟩
  .have m:known.getD i eR=eR:=by rw[z]at D;simpa using D
   exact⟨(i+1,d,g,b),n3,⟨n1,E,by dsimp only;rw[YR nd known V (W,M) m];exact k⟩,n1⟩
 .have K:i=n:=nb
  subst K;exact⟨m9,d,g,b,E,by rw[<-Ws nd known V (W,M) F A];exact k⟩
def nt(nd:Nat)(known:List Bool)(vals W M D:aO)(i:Nat):aO:=vals.mapIdx λc r=>if c<i/\known.getD c eR=eR then gX D (az W c) (az M c) nd else r
theorem Ww(nd:Nat)(known:List Bool)(vals W M D:aO):nt nd known vals W M D 0=vals:=by unfold nt;refine zW n4 λi b a=>?_;simp
theorem YS(nd:Nat)(known:List Bool)(vals W M D:aO){n:Nat}(a:m8 vals=n):nt nd known vals W M D n=uk nd known vals W M D:=by
 unfold nt uk;refine zW n4 λi a b=>?_;simp at a;simp only[List.getElem_mapIdx];cases hk:known.getD i eR
 .rw[hZ ⟨nb,m9⟩,k4 n4]
 .rw[k4 n4,hZ rfl]
theorem YT(nd:Nat)(known:List Bool)(vals W M D:aO){i:Nat}(e:known.getD i eR=eL):nt nd known vals W M D (i+1)=nt nd known vals W M D i:=by
 have d:∀j,(j<i+1/\known.getD j eR=eR)↔(j<i/\known.getD j eR=eR):=λj=>by
  constructor
  .rintro⟨a,b⟩;by_cases c:j=i
   .subst c;rw[e]at b;cases b
   .exact⟨nb,b⟩
  .rintro⟨a,b⟩;exact⟨nb,b⟩
 unfold nt;simp only[d]
theorem abk(nd:Nat)(known:List Bool)(vals W M D:aO){i:Nat}(d:known.getD i eR=eR):nt nd known vals W M D (i+1)=(nt nd known vals W M D i).set i (gX D (az W i) (az M i) nd):=by
 unfold nt;refine zW n4 λj f e=>?_;simp only[List.getElem_mapIdx,xl];by_cases c:i=j
 .subst c;rw[hZ ⟨nb,d⟩,hZ rfl]
 .rw[k4 c];congr 1;simp only[eq_iff_iff];constructor<;>rintro⟨a,b⟩<;>exact⟨nb,b⟩
theorem Wx(s f:fY)(p:Int×Int×Int)(v r Z U X Q O dead:Sl)(g z A dr:List Sl)(pl:List (Sl×Row))(known:List Bool)(V W M D:aO)(n nd w:Nat)(H:aa B h0 h (Told s f p v r Z U X Q O z A pl++HA v g::As))(hS:St B h0 As λh=>io h f/\gW h (λb=>b<h.size) dead 1 aq D dr)(hn:n<=64)(hw:w<=2^20)(bd:nd<=64)(Y:mu pl pl z A W M)(hV:bZ pl id g V)(F:m8 V=n)(a5:m8 W=n)(a7:m8 M=n)
  (J:∀c,c<n->(az W c).length=nd/\(az M c).length=w) (bb:m8 D=nd) (L:aU w D) (hk:∀(c:Nat) (l:c<m8 g),g[c].ptr.isNone=!(known.getD c eR)):
  aj xT 232 #[xL (dB s),dead] h λv' h'=>v'=.tuple #[]/\∃R a,aa B h0 h' (Told s f p v r Z U X Q O z A a++HA v R::As)/\bZ a id R (uk nd known V W M D):=by
 refine ts Tryz.func232 ?_ (F8 (E7 (E8 [(15,aI)] [(4,10),(15,80)] (F8 (F8 (E5 (E7 (F8 (F8 (F8 (E5 (F8 (E7 (E8 [(42,aI)] [(6,10),(42,72)] (F8 (F8 (E5 (E7 (F8 (F8 (E7 (E8 [(52,aI)] [(8,10),(52,71)] E6))))) E6)))))) E6))))) E6))))));have a2:=hV.1;have a0:v.len=n:=by rw[(H.own 4 m9).len];omega
 have a1:=Y.way.1;have a3:=Y.more.1;refine⟨s,m9,v,(H.box 0 m9).cell m9,?_⟩;refine ak (λt:Nat×List Sl×List (Sl×Row)=>(t.1:Int)) (λt h'=>t.1<=n/\aa B h0 h' (Told s f p v r Z U X Q O z A t.2.2++HA v t.2.1::As)/\bZ t.2.2 id t.2.1 (nt nd known V W M D t.1)/\(∀x∈pl,x∈t.2.2)/\∀(c:Nat) (l:c<m8 t.2.1),t.1<=c->t.2.1[c].ptr.isNone=!(known.getD c eR)) (λt=>n-t.1) (0,g,pl) m9 ⟨nb,H,by rw[Ww];exact hV,λ_ h=>h,λc l _=>hk c l⟩ ?_;rintro⟨i,g,a⟩ h1 ⟨hi,o,S,d,u⟩;dsimp only at*;have a6:(nt nd known V W M D i).length=n:=by simp[nt,F]
 have a4:=S.1;refine ae (λe=>?_) (λe=>?_)
 .have ap:i<n:=nb
  have P:=o.box 0 m9;refine⟨s,m9,v,P.cell m9,?_⟩;refine(o.seq 4 m9 λ_=>rfl).ly i m9 nb ?_;have K:=u i nb (qj _);refine aH (λN=>?_) (λN=>?_)
  .have q:known.getD i eR=eL:=by rw[K]at N;simpa using N
   exact⟨(i+1,g,a),n3,⟨n1,o,by dsimp only;rw[YT nd known V W M D q];exact S,d,λc l h=>u c l (by dsimp only at h;omega)⟩,n1⟩
  have q:known.getD i eR=eR:=by rw[K]at N;simpa using N
  have ax:=J i ap;have am:((A[i]'nb),az M i)∈a:=by have:=(Y.more.mono d).get (i:=i) nb;rw[mA nb];exact this
  have E:((z[i]'nb),az W i)∈a:=by have:=(Y.way.mono d).get (i:=i) nb;rw[mA nb];exact this
  refine⟨s,m9,O,P.cell m9,?_⟩;refine(o.seq 2 m9 λ_=>rfl).ly i m9 nb ?_;refine(fW _ (az M i) h1 (o.iu 3 m9 am)).Hf λb h2 R2=>?_;have T:=o.bS R2;have al:=T.box 1 m9;refine⟨b,m9,s,m9,Q,al.cell m9,?_⟩;refine(T.seq 2 m9 λ_=>rfl).ly i m9 nb ?_;have ad:=(T.iu 4 m9 E).len;refine ak (λj:Nat=>(j:Int)) (λj h'=>j<=nd/\aa B h0 h' (RA b (gX D (az W i) (az M i) j)::(Told s f p v r Z U X Q O z A a++HA v g::As))) (λj=>nd-j) 0 m9 ⟨nb,T⟩ ?_;rintro j h3 ⟨hj,I⟩;refine ae (λe3=>?_) (λe3=>?_)
  .have a8:j<nd:=nb
   have y:j<(az W i).length:=nb
   refine(I.iu 4 m9 E).aW j m9 y _ m9 ?_;obtain⟨S1,S2⟩:=hS.at [_,_,_,_,_,_] I;have a9:=S2.len;refine S2.top.ly j m9 nb ?_;have ab:(D[j]'nb).length=w:=L _ (qe _);have G:(az W i)[j]'y=aM (az W i) j:=by rw[aM,qg,qc y];rfl
   have ay:(gX D (az W i) (az M i) j).length=w:=lS _ ax.2 λk hk=>bY L;rw[G];refine DP s f (aM (az W i) j) (dr[j]'nb) b (D[j]'nb) _ I (St.mk' λh' H'=>?_) (by rw[ab,ay]) nb λh4 H4=>?_
   .obtain⟨q1,q2⟩:=hS.at [_,_,_,_,_] H';exact⟨(H'.box 0 m9).cell0 m9,q1,q2.row _ _ _ (qc _) (qc _)⟩
   .refine⟨j+1,n7,⟨nb,?_⟩,nb⟩;rw[gX,mA (m:=D) (i:=j) nb];exact H4
  .have ah:j=nd:=nb
   subst ah;refine⟨s,m9,v,(I.box 1 m9).cell m9,?_⟩;refine I.set ag 5 m9 (λ_=>rfl) m9 i m9 nb b m9 m9 m9 λh4 H4=>?_;have H5:=(H4.freeze 0 m9 λ_=>rfl).pool 4 0 nq m9 m9;refine⟨(i+1,g.set i b,_),n3,⟨n1,H5.aF 6 [1,2,3,4,5],?_,λx hx=>qp _ (d x hx),λc l h=>?_⟩,n1⟩
   .try dsimp only
    rw[abk j known V W M D q];exact(S.mono λx hx=>qp _ hx).set i n4
   .dsimp only at l h⊢;rw[vz nb];exact u c (by simpa using l) nb
 .have ao:i=n:=nb
  subst ao;exact⟨m9,g,a,o,by rw[<-YS nd known V W M D F];exact S⟩
abbrev MA(s:Sl)(m:aO):HP:=dE 41 s 1 aq m
abbrev NB:jq Sl Row:=acm (iR 1 aq) λr _=>r.len<=r.cap
abbrev CA(s:Sl)(m:aO):HP:=dP 41 s 1 bv NB m
theorem aa.Wy{e:Nat}{s:Sl}{l:Row}(H:aa B h0 h As)(i:Nat)(c:As[i]?=dB (ai e s 1 aq l)):aa B h0 h (As.set i (EA NB s l)):=
 H.dY i c λ_ ⟨a,b⟩=>⟨a.seq (λ_=>rfl) b,a.cap⟩
theorem Tx(s f:fY)(p:Int×Int×Int)(v r V Q T O N:Sl)(G I:List Sl)(pl:List (Sl×Row))(rr:List (Sl×Sl))(R:List fp)(ST:List (Int×Int))(D L:aC)(W M:aO)(n nd w:Nat)(H:aa B h0 h (Told s f p v r V Q T O N G I pl++As))(hS:St B h0 As λh=>Tt h f r V Q T rr R ST D L)
  (hn:n=p.1.toNat+p.2.1.toNat) (hp:p.2.2=w) (hw:w<=2^20) (ay:bH p=eL) (br:m8 D=nd) (bd:nd<=64) (hR:∀e∈R,jd n w e) (b1:∀e∈R,m8 e.1<=2^20) (hL:∀i∈L,0<=i/\i<(m8 R:Int)) (ci:m8 L<=2^20) (hT:mu pl pl G I W M) (ca:m8 W=n) (cc:m8 M=n)
  (o:∀c,c<n->(az W c).length=nd/\(az M c).length=w):
  aj xT 229 #[xL (dB s)] h λv' h'=>∃a b:Sl,v'=.tuple #[a,b]/\aa B h0 h' (MA a (dJ n nd R W L (bA p.1.toNat p.2.1.toNat))::CA b (fJ n w R M L (bA p.1.toNat p.2.1.toNat))::(Told s f p v r V Q T O N G I pl++As)):=by
 refine ts Tryz.func229 ?_ (F8 (F8 (E5 (F8 (E7 (E8 [(2,bJ),(3,bJ),(29,aI)] [(2,4),(6,9),(10,11),(29,72)] (F8 (F8 (E5 (E7 (F8 (G0 [(7,bJ),(8,bJ)] [(7,9),(33,44)] (F9 [(53,aI)] [(10,11),(53,63)])))) E6)))))) (E5 (F8 (E7 (E8 [(2,bJ),(3,bJ),(78,aI)] [(2,4),(12,17),(78,113)] (F8 (F8 (E5 (E7 (F8 (G0 [(13,bJ),(14,bJ)] [(13,15),(82,90)] (F9 [(92,aI)] [(15,17),(92,104)])))) E6)))))) E6)))) [(5,(.y [0,2,3,4,5,6,7,8,9] (.l [1,10,11,12]) (.l [10,1,11,12]))),(16,(.y [0,2,3,4,5,6] (.l [1,8,7,9]) (.l [7,1,8,9])))];have hb:=H.box 0 m9;have ad:Q.len=nd:=by rw[(hS.at [_,_,_,_] H).dead.len,br]
 have b9:=(bI p).1 ay;have b5:=hT.way.1;have b6:=hT.more.1;refine⟨s,m9,Q,show hU h (s.add 7)=_ from hb.cell m9,s,m9,T,show hU h (s.add 8)=_ from hb.cell m9,?_⟩;have cb:=(hS.at [_,_,_,_] H).left.len;have ax:∀{h':hY} {Cs:List HP},aa B h0 h' (Cs++(Told s f p v r V Q T O N G I pl++As))->aa B h0 h' (Told s f p v r V Q T O N G I pl++As):=λ{h' Cs} S=>S.take Cs.length λi A hi=>by
  rw[List.getElem?_append_right nb,Nat.add_sub_cancel_left];exact hi
 have SR:∀{h':hY},aa B h0 h' (Told s f p v r V Q T O N G I pl++As)->AT h' s f O N G I W M:=λS=>AT.of (S.box 0 m9) (hS.at [_,_,_,_] S).field (S.BU 1 3 m9 m9 hT.way) (S.BU 2 3 m9 m9 hT.more);let rA:Int->Row:=λi=>cY W (aN nd) (R.getD i.toNat ([],[])).1;let rB:Int->Row:=λi=>cY M (R.getD i.toNat ([],[])).2 (R.getD i.toNat ([],[])).1;have H0:=((H.Ma 41 1 bv NB).ba.sK 41 1 aq).ba;refine ak (λt:Nat×Sl×Sl=>(t.2.1,t.2.2,(t.1:Int))) (λt h'=>t.1<=m8 L/\aa B h0 h' (MA t.2.1 ((L.take t.1).map rA)::CA t.2.2 ((L.take t.1).map rB)::(Told s f p v r V Q T O N G I pl++As))) (λt=>m8 L-t.1) (0,⟨eH,0,0⟩,⟨eH,0,0⟩) m9 ⟨n4,H0⟩ ?_;rintro⟨i,a,b⟩ h1 ⟨hi,H1⟩;dsimp only at*;refine ae (λe=>?_) (λe=>?_)
 .have E:i<m8 L:=nb
  have G1:=hS.at [_,_,_,_,_,_] H1;refine G1.left.aW i m9 E _ m9 ?_;have hx:=hL _ (qe E);generalize b2:L[i]=x at hx⊢;have F:x.toNat<m8 R:=nb
  obtain⟨m,am⟩:=HF (R[x.toNat])
  have er:R.getD x.toNat ([],[])=m:=by rw[qg,qc F,am];rfl
  have ao:=hR m (am▸qe F);have cn:=b1 m (am▸qe F);have hF:=G1.rest.2.1;have bb:x.toNat<m8 rr:=by rw[hF];exact F
  obtain⟨y,hy⟩:=HF (rr[x.toNat])
  have J:∀{h'},gE kl 2 qv h' r rr R->kl.p h' (λb=>b<h'.size) y m:=λhh=>by rw[hy,am];exact Fix.row hh F
  refine bn (λt h'=>aa B h0 h' (RA t.1 (aN nd)::RA t.2 m.2::MA a ((L.take i).map rA)::CA b ((L.take i).map rB)::(Told s f p v r V Q T O N G I pl++As))) ?_ ?_
  .have ap:=H1.box 2 m9;refine⟨s,m9,r,ap.cell m9,?_⟩;obtain⟨a8,ha,z,hc,rfl⟩:=G1.rest.1.cQ (g:=qv) (i:=x) x.toNat nb bb y (by rw[hy]) (K:=λz=>z=y) rfl;refine⟨a8,ha,z.2,hc.2.1,?_⟩;have a2:bK.ok [(s.add 5,xK r.ptr r.len r.cap)] h1:=⟨ap.cell m9,I0⟩
   exact NA (L:=[((a8.add (x.toNat*2)).add 1,xK z.2.ptr z.2.len z.2.cap),(s.add 5,xK r.ptr r.len r.cap)]) (L2:=[(s.add 5,xK r.ptr r.len r.cap)]) (K:=λa' b' h'=>bK.ok [(s.add 5,xK r.ptr r.len r.cap)] h'/\aa B h0 h' (RA a' (aN nd)::RA b' m.2::MA a ((L.take i).map rA)::CA b ((L.take i).map rB)::(Told s f p v r V Q T O N G I pl++As)))
    z.2 m.2 nd _ H1 (by rw[ad]) bd (by rw[ao.len];exact hw) ⟨hc.2.1,a2⟩ a2 (St.mk' λh' S=>(J (hS.at [_,_,_,_,_,_] S).rest).2) λa b h' P S=>⟨gP P a2,S⟩
  rintro⟨al,u⟩ h2 H2;dsimp only at H2;have G2:=hS.at [_,_,_,_,_,_,_,_] H2;refine⟨s,m9,r,(H2.box 4 m9).cell m9,?_⟩;obtain⟨b3,ha,z,hc,rfl⟩:=G2.rest.1.cQ (g:=qv) (i:=x) x.toNat nb bb y (by rw[hy]) (K:=λz=>z=y) rfl;refine⟨b3,ha,z.1,hc.1,?_⟩;have b0:=(J G2.rest).1.len;refine ak (λj:Nat=>(j:Int)) (λj h'=>j<=m8 m.1/\aa B h0 h' (RA al (cY W (aN nd) (m.1.take j))::RA u (cY M m.2 (m.1.take j))::MA a ((L.take i).map rA)::CA b ((L.take i).map rB)::(Told s f p v r V Q T O N G I pl++As))) (λj=>m8 m.1-j) 0 m9 ⟨nb,by simpa[cY]using H2⟩ ?_;rintro j h3 ⟨hj,Z⟩;have told:∀c∈m.1.take j,(az W c.toNat).length=nd/\(az M c.toNat).length=w:=λc hc=>by
   have cd:=ao.df c (zK hc);exact o c.toNat nb
  have Y:(cY W (aN nd) (m.1.take j)).length=nd:=jU pt λc hc=>(told c hc).1;have X:(cY M m.2 (m.1.take j)).length=w:=jU ao.len λc hc=>(told c hc).2;refine ae (λe2=>?_) (λe2=>?_)
  .have ab:j<m8 m.1:=nb
   have bk:=ao.df _ (qe ab);refine(J (hS.at [_,_,_,_,_,_,_,_] Z).rest).1.aW j m9 ab _ m9 ?_;have tc:=o m.1[j].toNat nb;refine(DQ s f 1 m.1[j] al u O N _ _ G I W M Z (St.mk' λh' S=>SR (ax (Cs:=[_,_]) S)) bk.1 nb nb (by rw[tc.1,Y]) (by rw[tc.2,X]) nb nb).G7 λh4 U=>⟨(),m9,j+1,n7,⟨nb,by rw[aA _ _ ab,sf,sf];exact U⟩,nb⟩
  .have a6:j=m8 m.1:=nb
   subst a6;rw[qt]at Z;have U:=aa.Wy (Z.freeze 0 m9 λ_=>rfl) 1 m9;refine U.jM ag 2 0 nq m9 m9 cO n2 λa' h5 H5=>?_;refine H5.En ag 3 1 nq m9 m9 cO m9 nq (λ_=>rfl) jQ m9 nq n2 λb' h6 H6=>?_;refine⟨(i+1,a',b'),n3,⟨n1,?_⟩,n1⟩
   try dsimp only
   rw[aA _ _ E,qE,qE,b2];have e3:[x].map rA=[cY W (aN nd) m.1]:=by simp only[wy,y7,rA,er]
   have e4:[x].map rB=[cY M m.2 m.1]:=by simp only[wy,y7,rB,er]
   rw[e3,e4];exact H6.aF 8 [2,3,4,5,6,7]
 have a3:i=m8 L:=nb
 subst a3;rw[qt]at H1;have ap:=H1.box 2 m9;refine⟨s,m9,p,ap.cells 1 _ m9,(Cr p h1).Hf λq h2 R2=>?_⟩;rw[ay,hZ rfl]at R2;obtain⟨d,a0⟩:=HF (bA p.1.toNat p.2.1.toNat)
 have b4:m8 d=p.2.1.toNat:=by rw[a0];simp[bA]
 have a7:∀x∈d,m8 x=n:=λx hx=>by rw[hn];exact GS _ _ x (a0▸hx)
 rw[<-a0]at R2⊢;have H2:=(H1.bS R2).Sb 0 m9;obtain⟨qr,H2⟩:=H2.FI 0 rfl λ_=>rfl;have b7:=(H2.dv 0 m9).1.len;have cf:=(H2.dv 0 m9).2.1;refine⟨q,m9,?_⟩;let a5:Row->Row:=λx=>gX W x (aN nd) n;let a4:Row->Row:=λx=>gX M x (aN w) n;refine ak (λt:Nat×Sl×Sl=>(t.2.1,t.2.2,(t.1:Int))) (λt h'=>t.1<=m8 d/\aa B h0 h' (cB (iR 1 aq) 1 bv q qr d::MA t.2.1 (L.map rA++(d.take t.1).map a5)::CA t.2.2 (L.map rB++(d.take t.1).map a4)::(Told s f p v r V Q T O N G I pl++As))) (λt=>m8 d-t.1) (0,a,b) m9 ⟨n4,by simpa using H2⟩ ?_;rintro⟨i,a,b⟩ h3 ⟨hi,Z⟩;dsimp only at*;refine ae (λe=>?_) (λe=>?_)
 .have E:i<m8 d:=nb
  have bq:=a7 _ (qe E);have F3:=Z.dv 0 m9;refine F3.1.ly i m9 nb ?_;have b0:(qr[i]'nb).len=n:=by rw[(Fix.row F3 E).len,bq]
  refine bn (λt h'=>aa B h0 h' (RA t.1 (aN nd)::RA t.2 (aN w)::cB (iR 1 aq) 1 bv q qr d::MA a (L.map rA++(d.take i).map a5)::CA b (L.map rB++(d.take i).map a4)::(Told s f p v r V Q T O N G I pl++As))) ?_ ?_
  .have bl:=Z.box 3 m9;refine⟨s,m9,p.2.2,show hU h3 (s.add 3)=_ from bl.cell m9,?_,?_⟩
   .refine Z.make ag aq cR nq 0 m9 m9 nd nd (by rw[ad]) (by rw[ad]) (qj _) nb λx h4 _ _ U=>?_;have U:=U.ba;refine⟨⟨show hU h4 (s.add 3)=_ from(U.box 4 m9).cell m9,I0⟩,?_⟩;refine U.make ag aq cR nq 0 m9 m9 w w hp hp (qj _) nb λy h5 _ _ H5=>⟨I0,H5.ba.nF⟩
   .refine Z.make ag aq cR nq 0 m9 m9 w w hp hp (qj _) nb λy h4 _ _ U=>⟨I0,?_⟩
    refine U.ba.make ag aq cR nq 0 m9 m9 nd nd (by rw[ad]) (by rw[ad]) (qj _) nb λx h5 _ _ H5=>⟨I0,H5.ba⟩
  rintro⟨al,u⟩ h4 U;dsimp only at U⊢;refine ak (λj:Nat=>(j:Int)) (λj h'=>j<=n/\aa B h0 h' (RA al (gX W d[i] (aN nd) j)::RA u (gX M d[i] (aN w) j)::cB (iR 1 aq) 1 bv q qr d::MA a (L.map rA++(d.take i).map a5)::CA b (L.map rB++(d.take i).map a4)::(Told s f p v r V Q T O N G I pl++As))) (λj=>n-j) 0 m9 ⟨nb,U⟩ ?_;rintro j h5 ⟨hj,H5⟩;have Y:(gX W d[i] (aN nd) j).length=nd:=lS _ pt λk hk=>(o k nb).1;have X:(gX M d[i] (aN w) j).length=w:=lS _ pt λk hk=>(o k nb).2;refine ae (λe2=>?_) (λe2=>?_)
  .have ab:j<n:=nb
   have a1:j<d[i].length:=nb
   refine(Fix.row (H5.dv 2 m9) E).aW j m9 a1 _ m9 ?_;have a9:d[i][j]'a1=aM d[i] j:=by rw[aM,qg,qc a1];rfl
   rw[a9];have tc:=o j ab;refine(DQ s f (aM d[i] j) (j:Int) al u O N _ _ G I W M H5 (St.mk' λh' S=>SR (ax (Cs:=[_,_,_]) S)) nb nb nb (by rw[qi,tc.1,Y]) (by rw[qi,tc.2,X]) nb nb).G7 λh6 H6=>?_;rw[qi]at H6;exact⟨(),m9,j+1,n7,⟨nb,H6⟩,nb⟩
  .have a6:j=n:=nb
   subst a6;have H6:=aa.Wy (H5.freeze 0 m9 λ_=>rfl) 1 m9;refine H6.jM ag 3 0 nq m9 m9 cO n2 λa' h7 H7=>?_;refine H7.En ag 4 1 nq m9 m9 cO m9 nq (λ_=>rfl) jQ m9 nq n2 λb' h8 H8=>?_;refine⟨(i+1,a',b'),n3,⟨n1,?_⟩,n1⟩
   try dsimp only
   rw[aA _ _ E,qE,qE,<-ql,<-ql];exact H8.aF 9 [2,3,4,5,6,7,8]
 .have a3:i=m8 d:=nb
  subst a3;rw[qt]at Z;exact⟨a,b,m9,Z.rest⟩
end Go.Qw
