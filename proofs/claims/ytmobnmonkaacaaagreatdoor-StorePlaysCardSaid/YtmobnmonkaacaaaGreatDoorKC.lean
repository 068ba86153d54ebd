/- Lemmas for the proof of the law; no condition. -/
import Derived.Test.YtmobnmonkaacaaaGreatDoorKB
import Derived.Test.YtmobnmonkaacaaaGreatDoorPlB
set_option maxHeartbeats 2000000
set_option linter.unusedVariables false
set_option maxHeartbeats 4000000
set_option linter.unusedSimpArgs false
open Go.Proofs.Tryz renaming prog -> xR
open Bool renaming and_eq_false_iff -> vf
open Go.Value renaming agg -> xM, bool -> xL, int -> xH, pointer -> xJ, slice -> xI, string -> xK
open Go.IntKind renaming bits -> qq, i64 -> xN, u32 -> xP, u8 -> xO, wrap -> qc
open Go.Instr renaming makeSlice -> zB, storeAt -> qD
open List renaming getElem_append_right -> yD, pairwise_singleton -> vL, replicate -> qh, zipWith -> zl
open Nat renaming le_of_ble_eq_true -> zE
open Int renaming fdiv -> zo
open Prod renaming fst -> qA
open BitVec renaming ofInt -> qG
open Option renaming some -> wb
set_option maxRecDepth 100000
open Option renaming some -> dB, none -> eH
open Bool renaming true -> eX, false -> eY
open Go renaming Addr -> hU
open Go.Qw renaming cellOf -> hY, Heap -> m5
open List renaming length -> n4
open Go.Qw.cg renaming two -> G0, n -> G6, inn -> G7, loop -> G9, join -> Hf, tn -> HF, lp -> I0, jn -> I1
namespace Go.Qw
open Go.Proofs
def iL(p:Pm)(a:Int)(l:aC):Int:=
 if(dI l).2&&(bH p&&dM a 0 16)then
  if(bh l l.length).any λi=>decide (l.getD i.toNat 0<(n4 (bG (co p a l)):Int))then 7 else 0
 else 1
theorem sM(p:Pm)(a:Int)(w:Pow)(l:aC):cV p a w l=if iL p a l=0 then layAll (bj (co p a l) (bh l l.length)) w (fG l (bh l l.length).length)else(iL p a l,w,[]):=by
 unfold cV iL;by_cases h:((dI l).2&&(bH p&&dM a 0 16))=eX
 .rw[m6 h,m6 h];by_cases b:((bh l l.length).any λi=>decide (l.getD i.toNat 0<(n4 (bG (co p a l)):Int)))=eX
  .rw[m6 b,m6 b];rfl
  .rw[nq b,nq b];rfl
 .rw[nq h,nq h];rfl
theorem Bv{p:Pm}{a:Int}{l:aC}(h:iL p a l=0):bH p=eX/\0<=a/\a<=16/\(dI l).2=eX/\((bh l l.length).any λi=>decide (l.getD i.toNat 0<(n4 (bG (co p a l)):Int)))=eY:=by
 unfold iL at h;by_cases b:((dI l).2&&(bH p&&dM a 0 16))=eX
 .rw[m6 b]at h;by_cases c:((bh l l.length).any λi=>decide (l.getD i.toNat 0<(n4 (bG (co p a l)):Int)))=eX
  .rw[m6 c]at h;cases h
  .unfold dM at b;simp only[qC,decide_eq_true_eq]at b;exact⟨b.2.1,b.2.2.1,b.2.2.2,b.1,D7⟩
 .rw[nq b]at h;cases h
abbrev ri:bi:=(0,0,0,0,0,0,⟨eH,0,0⟩,⟨eH,0,0⟩)
theorem Hr(p:Pm)(a:Int)(s:Sl)(l:aC)(h:m5)(V:Rd h s 1 ar l)(hl:n4 l<=2^20):
  ak xR 109 #[go p,xH xN a,s] h λv h'=>∃y:bi,v=.tuple #[cL y,xH xN (iL p a l)]/\(iL p a l≠0->Sp h h' [])/\(iL p a l=0->Sp h h' [bn y (co p a l)]):=by
 refine ts Tryz.func109 ?_ (HF (I1 [] [(7,8),(13,30)] (HF (G0 (HF (G7 (G9 [(35,aI)] [(7,8),(9,11),(35,56)] (HF (HF (G0 (G7 (HF (I1 [] [(7,8),(40,47)] G6))) G6)))))) (HF (I0 [(64,aI)] [(7,8),(12,13),(64,78)])))))) (args:=[p,(a:Int),s]);have al:=V.len;refine(Sp.refl h).boxed λa1 h1 H1=>?_;refine H1.alloc ag n5 λB h2 R=>?_;have R:Sp h h2 [an a1 24 [xH xN p.1,xH xN p.2.1,xH xN p.2.2],an B 27 (aD ri)]:=R;have f:∀(e:Int) {h':m5} {Bs:List HP},Sp h h' (an B 27 (aD ri)::Bs)->iL p a l=e->e≠0->
   av xR (qD 27 (xJ (dB B)) (cL ri)) h' λ_ M=>∃L:bi,aZ M B 0 (aD L)/\∃y:bi,Value.tuple #[cL L,xH xN e]=.tuple #[cL y,xH xN (iL p a l)]/\(iL p a l≠0->Sp h M [])/\(iL p a l=0->Sp h M [bn y (co p a l)]):=λe {h' Bs} H' he h0=>by
  refine H'.storeAll ag 0 n5 n5 (aD ri) n5 n5 n5 n5 λM S=>?_;exact⟨ri,(S.box 0 n5).aw _ n5,ri,by rw[he],λ_=>.zip S.ac,λE=>absurd (he.symm.trans E) h0⟩
 have A:((dI l).2&&(bH p&&dM a 0 16))=eY->iL p a l=1:=λE=>by unfold iL;rw[E];rfl
 refine aE ⟨p,(R.box 0 n5).aw _ n5,(dS p h2).I3 λh3 R3=>?_⟩;have G:Sp h h3 [an B 27 (aD ri),an a1 24 [xH xN p.1,xH xN p.2.1,xH xN p.2.2]]:=(R.up R3.ac).bu [1,0];refine⟨_,n5,aH (λb=>f 1 G (A (by rw[b];simp)) n8) λb1=>ae (λb=>f 1 G (A qb) n8) λb2=>ae (λb=>f 1 G (A qb) n8) λb3=>ae (λb=>f 1 G (A ?_) n8) λb4=>?_⟩
 .have:(dI l).2=eY:=by
   unfold dI;by_cases E:l.all (dM · 0 512)=eX
   .rw[m6 E];simp;omega
   .rw[nq E]
  rw[this];rfl
 have r:n4 l<=64:=n7
 refine⟨p,(G.box 1 n5).aw _ n5,?_⟩;refine G.alloc ag n5 λz M S=>?_;refine S.storeAll ag 2 n5 n5 (aD (1,0,p.1,p.2.1,p.2.2,a,⟨eH,0,0⟩,⟨eH,0,0⟩)) n5 n5 n5 n5 λh5 U=>?_;have U:Sp h h5 [an B 27 (aD ri),an z 27 (aD (1,0,p.1,p.2.1,p.2.2,a,⟨eH,0,0⟩,⟨eH,0,0⟩)),ai 3 ⟨eH,0,0⟩ 1 ar (bh l 0)]:=(U.nil 3 1 ar).bu [0,2,3];refine aj (λt:Sl×Nat=>(t.2:Int)) (λt h'=>t.2<=n4 l/\(l.take t.2).all (dM · 0 512)=eX/\Sp h h' [an B 27 (aD ri),an z 27 (aD (1,0,p.1,p.2.1,p.2.2,a,t.1,⟨eH,0,0⟩)),ai 3 t.1 1 ar (bh l t.2)]) (λt=>n4 l-t.2) (⟨eH,0,0⟩,0) n5 ⟨oo,oo,U⟩ ?_;rintro⟨o,i⟩ h6 ⟨hi,d,g⟩;dsimp only at*;have D:∀(c:i<n4 l),dM l[i] 0 512=eY->iL p a l=1:=λc hb=>A (by
  have:(dI l).2=eY:=by unfold dI;rw[nq];intro X;have:=qP.1 X _ (qe c);rw[hb]at this;cases this
  rw[this];rfl)
 refine ae (λe=>?_) (λe=>?_)
 .have c:i<n4 l:=n7
  have ax:=lp l i;refine(Seq.up V g.ac).aV i n5 c l[i] n5 ?_;refine aE (ae (λA=>f 1 g (D c qb) n8) λA=>ae (λe2=>f 1 g (D c qb) n8) λe2=>?_);have k:(l.take (i+1)).all (dM · 0 512)=eX:=by rw[az l i c,wq,d,z8,yz,vu,xm];unfold dM;simp;omega
  refine ae (λe3=>?_) (λe3=>?_)
  .refine⟨o,(g.box 1 n5).cell n5,?_⟩;refine g.push ag 2 n5 fu n5 n8 (λ_=>rfl) db (i:Int) n5 n8 n7 λo' h7 w=>?_;refine w.storeAt ag 1 n5 n5 n5 n5 n5 (by simp[aD]) λh8 Q=>?_;refine⟨(o',i+1),oj,⟨n9,k,?_⟩,n9⟩
   try dsimp only
   rw[nE l i c,m6 n7];exact Q
  .refine⟨(o,i+1),oj,⟨n9,k,?_⟩,n9⟩
   try dsimp only
   rw[nE l i c,nq n7,qL];exact g
 .have W:i=n4 l:=n7
  subst W;rw[qt]at d;have ab:=(g.own 2 n5).len;have hp:dI l=(bh l l.length,decide (n4 l<=64)&&decide (0<n4 (bh l l.length))):=by unfold dI;rw[m6 d]
  refine⟨o,(g.box 1 n5).cell n5,be (λb=>f 1 g (A ?_) n8) λb=>?_⟩
  .rw[hp]
   try dsimp only
   rw[n2 (show¬0<n4 (bh l l.length) by omega),Bool.and_false];rfl
  have K:((dI l).2&&(bH p&&dM a 0 16))=eX:=by rw[hp,b1,n1 r,n1 (show 0<n4 (bh l l.length) by omega)];unfold dM;simp;omega
  obtain⟨m,J⟩:=I5 (co p a l)
  obtain⟨P,F⟩:=I5 (bh l l.length)
  have hz:bM m:=J▸sJ p a l r;have ao:n4 P<=64:=by rw[F];exact qV (lp _ _) r
  obtain⟨x,T⟩:∃x:bi,x=(1,0,p.1,p.2.1,p.2.2,a,o,⟨eH,0,0⟩):=⟨_,rfl⟩
  rw[<-T,<-F]at g;rw[<-F]at ab;have O:∀{h':m5} {q:au},Seq h' q o 1 ar P->o.len<=o.cap->kS h' q x m:=λ{h' q} I X=>by
   subst T;subst J;exact⟨n5,n5,n5,n5,by show Seq _ _ o 1 ar (bh l l.length);rw[<-F];exact I,bZ.nil _ _ _ _,X,qj _⟩
  have ad:hY h6 (z.add 6)=dB (xI o.ptr o.len o.cap):=by have:=(g.box 1 n5).cell (j:=6) (v:=xI o.ptr o.len o.cap) (by rw[T];rfl);exact this
  refine⟨o,ad,?_⟩;refine aj (λi:Nat=>(i:Int)) (λi h'=>i<=n4 P/\((P.take i).any λi=>decide (l.getD i.toNat 0<(n4 (bG m):Int)))=eY/\Sp h h' [an B 27 (aD ri),an z 27 (aD x),ai 3 o 1 ar P]) (λi=>n4 P-i) 0 n5 ⟨n7,oo,g⟩ ?_;rintro i h7 ⟨hi,d,w⟩;dsimp only at*;refine ae (λe5=>?_) (λe5=>?_)
  .have c:i<n4 P:=n7
   obtain⟨n,hn,Y,ah⟩:∃n:Nat,n<n4 l/\P[i]=(n:Int)/\0<l.getD n 0:=by subst F;exact xU l l.length i c
   refine(w.seq 2 n5 λ_=>rfl).aV i n5 c (n:Int) (by rw[Y];rfl) ?_;refine(Seq.up V w.ac).nA n n5 hn (l.getD n 0) (by rw[getD_lt hn];rfl) λap N=>?_;refine⟨x,(w.box 1 n5).aw _ n5,(ma x m h7 (O (w.seq 2 n5 λ_=>rfl) (w.own 2 n5).cap) hz).I4 λu h9 R9=>?_⟩;have H:=w.bQ R9;have am:=(aa.lE H).1;refine⟨u,n5,gF R9.ac ⟨N,I6⟩,?_⟩;refine ae (λe6=>f 7 H.oA ?_ n8) (λe6=>?_)
   .unfold iL;rw[m6 K,<-F,<-J,m6 (List.any_eq_true.2 ⟨P[i],qe c,by rw[Y,qi];exact n1 n7⟩)]
   .refine⟨i+1,o0,⟨n7,?_,H.oA⟩,n7⟩;rw[az _ _ c,yb,d,Bool.false_or,List.any_cons,List.any_nil,Bool.or_false,Y,qi];exact n2 n7
  .have Z:i=n4 P:=n7
   subst Z;rw[qt]at d;refine⟨x,(w.box 1 n5).aw _ n5,?_⟩;refine w.storeAll ag 0 n5 n5 (aD x) n5 n5 n5 n5 λh8 Q=>?_;have h0:iL p a l=0:=by unfold iL;rw[m6 K,<-F,<-J,d];rfl
   refine⟨x,(Q.box 0 n5).aw _ n5,x,by rw[h0],λE=>absurd h0 E,λ_=>?_⟩;rw[<-J];have H:Sp h h8 [ai 3 o 1 ar P]:=Q.bu [2];exact H.dW 0 n5 λq I=>O (I.1.seq (λ_=>rfl) I.2) I.1.cap
def jh(m:aB)(l:dP):Bool:=bE m&&(bG m).all λp=>decide (p∈l)
theorem Vq(a:hU)(e:Sl)(p:aR)(l:Sl)(ll:Cells)(h:m5)(t:bV h a 41 [e])(s:Rd h e 1 aq p)(k:dT h l 1 aq ll)(u:n4 ll<=2^30):
  ak xR 218 #[l,.func (.func 219) #[] #[xJ (dB a)]] h λv h'=>v=xL (decide (p∈ll))/\h'=h:=by
 refine ts Tryz.func218 ?_ (args:=[l,(.func (.func 219) #[] #[xJ (dB a)])]);refine(nr l (219,#[],#[xJ (dB a)]) (R:=λv h'=>(∃i:Int,v=xH xN i/\(decide (i>=0)=decide (p∈ll)))/\h'=h) ?_).mono ?_
 .skip
  have q:=k.len;refine aj (λi:Nat=>(i:Int)) (λi h'=>i<=n4 ll/\p∉ll.take i/\h'=h) (λi=>n4 ll-i) 0 n5 ⟨n7,oo,n5⟩ ?_;rintro i j ⟨m,b,rfl⟩;refine ae (λg=>?_) (λg=>?_)
  .have c:i<n4 ll:=by have n:(i:Int)<(l.len:Int):=g;omega
   refine k.get i n5 c λr o=>fv qa ?_;refine(FJ r a (R:=λv h'=>v=xL (decide (ll[i]=p))/\h'=j) ?_).mono ?_
   .skip
    refine⟨e,t.cell0 n5,(uc r e ll[i] p j o s).I2 ?_⟩;exact⟨_,n5,n5,n5⟩
   .rintro _ _ ⟨rfl,rfl⟩;refine⟨_,n5,ae (λf=>⟨⟨i,n5,?_⟩,n5⟩) λf=>?_⟩
    .rw[n1 (show(i:Int)>=0 by omega),n1 (by rw[<-f];exact qe c)]
    .refine⟨i+1,o0,⟨n7,λd=>?_,n5⟩,n7⟩;rw[az _ _ c]at d;rcases qx.1 d with d|d
     .exact b d
     .exact f (qB.1 d).symm
  .have n:¬(i:Int)<(l.len:Int):=g;rw[qf n7]at b;exact⟨⟨-1,n5,v7⟩,n5⟩
 .rintro _ j ⟨⟨i,rfl,m⟩,rfl⟩;exact⟨i,n5,by rw[m],n5⟩
theorem Sr(a pw:hU)(d:bp)(s b:Sl)(x:bi)(m:aB)(h:m5)(K:bV h a 172 (fj pw d s b))(R:dT h s 1 aq d.l)(ok:eZ d)(J:ct h x m)(I:bM m):
  ak xR 159 #[xJ (dB a),cL x] h λv h'=>v=xL (jh m d.l)/\Sp h h' []:=by
 refine ts Tryz.func159 ?_ (HF (HF (HF (I0 [(16,aI)] [(4,5),(7,8),(16,25)])))) (args:=[(dB a),x]);have L:=ok.len;have B:=ok.room;refine(Sp.refl h).boxed λX V E=>?_;refine⟨x,(E.box 0 n5).aw _ n5,(FM x m V (J.up E.ac) I).I3 λY T=>?_⟩;have u:=E.up T.ac;refine⟨_,n5,aH (λg=>⟨by unfold jh;rw[g];rfl,.zip u.ac⟩) λg=>?_⟩;refine(FL s b (K.ac u.ac K.lt) (R.up u.ac) ok).I4 λz h3 O=>?_;have H:=u.comp O;refine⟨z,n5,x,(H.box 0 n5).aw _ n5,(mT x m h3 (J.up H.ac) I).I4 λy Z S=>?_⟩;have o:=H.comp S;have A:=jA m I;obtain⟨c,k⟩:=I5 (bG m)
 rw[<-k]at o A;have W:=(aa.lE (o.aG 3 [2])).1;refine⟨y,n5,?_⟩;obtain⟨rs,o⟩:=(o.bu [2,1]).Mr λ_=>rfl;refine aj (λi:Nat=>(i:Int)) (λi h'=>i<=n4 c/\((c.take i).all λp=>decide (p∈d.l))=eX/\Sp h h' [ci (iG 1 aq) 1 bv y rs c,ce z d.l]) (λi=>n4 c-i) 0 n5 ⟨n7,oo,o⟩ ?_;rintro i h5 ⟨hi,f,w⟩;have Q:=(w.dg 0 n5).2.1;refine ae (λe=>?_) (λe=>?_)
 .have j:i<n4 c:=by have P:(i:Int)<(y.len:Int):=e;omega
  refine(w.dg 0 n5).1.kX i n5 n7 ?_;obtain⟨r,M⟩:=I5 (rs[i]'n7)
  rw[<-M];refine w.alloc ag n5 λF h6 U=>?_;refine U.storeAll ag 2 n5 n5 [r] n5 n5 n5 n5 λN q=>?_;have t:Rd N r 1 aq c[i]:=by rw[M];exact Fix.row (q.dg 0 n5) j
  have G:=aa.uC (q.aG 2 [1]) λ_=>rfl;refine(Vq F r c[i] z d.l N (q.box 2 n5) t G n7).I2 ⟨_,n5,aH (λD=>⟨?_,.zip q.ac⟩) λD=>?_⟩
  .have:jh m d.l=eY:=by unfold jh;rw[g,z8,<-k];exact z6.2 ⟨c[i],qe j,by rw[D];simp⟩
   rw[this]
  .refine⟨i+1,o0,⟨n7,?_,q.bu [0,1]⟩,n7⟩;rw[az _ _ j,wq,f,yz,vu,D];rfl
 .have:i=n4 c:=by have P:¬(i:Int)<(y.len:Int):=e;omega
  subst this;rw[qt]at f;exact⟨by unfold jh;rw[g,<-k,f];rfl,.zip w.ac⟩
theorem XT{w:Pow}(h:w.calm){S:aC}(P:List (Int×aR))(a:aF)(F:Fit a S (P.map qA))(b:∀x∈P,x.1∈S/\x.2.length=64):
  (layAll P w a).1=0/\Fit (layAll P w a).2.2 S []/\∀s,bR (layAll P w a).2.2 s=(KX a P s).map λd=>if s∈gq (P.map qA)then{d with wait:=0,laid:=[],has:=eY}else d:=by
 obtain⟨j,e,a3⟩:=Do h P a F b;have g:=oQ h P a;unfold layAll;obtain⟨f,k,i⟩:=Hl h (S:=S) (gq (P.map qA)) (fQ P w a).2.2 e λx c=>by
  unfold gq at c
  grind
 grind
theorem aaj(p:Pm)(a:Int)(l:aC)(e:n4 l<=64)(f:((bh l l.length).any λi=>decide (l.getD i.toNat 0<(n4 (bG (co p a l)):Int)))=eY):
  Fit (fG l (bh l l.length).length) (bh l l.length) ((bj (co p a l) (bh l l.length)).map qA):=by
 refine⟨xT _ _,λs d=>?_⟩;obtain⟨n,h,rfl,c⟩:=(oM l l.length s).1 d;have b:(n4 (bG (co p a l)))<=l.getD n 0:=o4
 refine⟨bp.new (l.getD n 0).toNat,?_,n5,?_⟩
 .unfold bR fG;rw[m6 n7,qi,qM,List.getElem?_range n7,Option.map_some,qt,m6 d];rfl
 .rw[sh];have:=List.nodup_iff_count.1 (pI l l.length) (n);have g:List.count (n:Int) (bh l l.length)*n4 (bG (co p a l))<=1*n4 (bG (co p a l)):=Nat.mul_le_mul_right _ this;simp only[bp.new,wK];omega
theorem OM{p:Pm}{a:Int}{l:aC}(d:n4 l<=64)(b:iL p a l=0):
  (cV p a Pow.new l).1=0/\(cV p a Pow.new l).2.1=Pow.new/\Fit (cV p a Pow.new l).2.2 (bh l l.length) []:=by
 rw[sM,m6 b];obtain⟨f,e,_⟩:=XT MU (S:=bh l l.length) _ _ (aaj p a l d (Bv b).2.2.2.2) λx c=>lY c;exact⟨f,ul MU _ _,e⟩
theorem Ko(l:aC)(k:Nat):(bh l k).Pairwise (·<·):=by refine List.Pairwise.filter _ (List.pairwise_map.2 ?_);exact(List.pairwise_lt_range (n:=k)).imp λh=>n7
theorem aak{l:aC}{a:Int}(d:l.Pairwise (·<·))(f:∀x∈l,0<=x/\x<=a):ow l a=eX:=by
 refine rX λi c=>?_;unfold fL dM;have e:l.getD i 0=l[i]:=o4
 have:=f l[i] (qe c);rw[e,n1 this.1,n1 this.2,z8,z8];by_cases h0:i=0
 .grind
 .have b:l.getD (i-1) 0=l[i-1]:=o4
  rw[b,n1 (List.pairwise_iff_getElem.1 d (i-1) i n7 c n7),Bool.or_true]
theorem XU{p:Pm}{a:Int}{l:aC}(g:n4 l<=64)(c:iL p a l=0):bE (co p a l)=eX:=by
 obtain⟨f,h,h3,_⟩:=Bv c;have d:kp (co p a l)=eX:=by
  unfold kp dM co
  grind
 have e:ow (co p a l).drives 63=eX:=aak (Ko l l.length) λx b=>by
  obtain⟨n,i,rfl,_⟩:=(oM l l.length x).1 b;omega
 unfold bE;rw[d,e];rfl
theorem Hs{m:aB}{r:ck}(h:dF m r=eX):jL r=eX:=by unfold dF at h;grind
theorem XV{l:List ck}{r:ck}(h:r∈mZ l):r∈l:=by
 unfold mZ at h
 grind
theorem Ss{m:aB}{c:aR}{r:ck}(h:gj m c=dB r):dn c=dB r/\dF m r=eX:=by
 unfold gj at h
 grind
theorem Bw{m:aB}{l:dP}{r:ck}(h:r∈gK m l):∃c∈l,dn c=dB r/\dF m r=eX:=by have h:=List.mem_mergeSort.1 (XV h);obtain⟨c,a,b⟩:=List.mem_filterMap.1 h;exact⟨c,a,Ss b⟩
theorem ET(a:ByteArray):cQ a a=eY:=TU _
theorem Dr{a b:ByteArray}(h:iS a b=eX)(c:a≠b):cQ a b=eX:=by
 rcases(Gy a b).1 h with h|h
 .exact h
 .exact absurd (Rx h) c
theorem JP{a b:ByteArray}(h:cQ a b=eX):a≠b:=λe=>by subst e;rw[ET]at h;cases h
theorem Vr:Ord mP:=⟨λa b c d e=>Cy _ _ _ d e,λa b=>Cz _ _⟩
theorem XW{m:aB}{x e:cT}:e∈(nC m x).objs↔e∈m.objs∨e=x:=by show e∈(m.objs++[x]).mergeSort mP↔_;simp
theorem JQ{a:ByteArray}{l:List Qw.cT}(h:l.any (dD a)=eY):∀e∈l,e.name≠a:=λe b c=>by
 have:=wg.1 h e b;unfold dD at this
 grind
theorem Vs{m:aB}{x:Qw.cT}(D:bE m=eX)(d:gJ x.name=eX)(l:∀e∈m.objs,e.name≠x.name)(q:x.object=m.next)(M:m.objs.length<=11)(I:m.next<=16777215)(L:m.seq<=2147483646)
  (g:0<=x.length/\x.length<=m.p.1*m.p.2.2*8) (E:∀t∈x.tries,0<=t/\t<=15) (r:(x.tries.length:Int)=countP m.p x.length):bE (nC m x)=eX:=by
 obtain⟨z,u,h3,K,o,G,F⟩:=(cJ m).1 D;obtain⟨J,N,a3,a4⟩:=(iT m).1 z;have c:(nC m x).objs.Perm (m.objs++[x]):=List.mergeSort_perm _ _;have n:∀e∈m.objs,e.object<m.next:=λe i=>((iI m e).1 (o e i)).2.1.2;refine(cJ _).2 ⟨(iT _).2 ⟨⟨?_,?_⟩,⟨?_,?_⟩,a3,a4⟩,u,h3,?_,λe i=>?_,?_,?_⟩
 .show 1<=m.seq+1;omega
 .show m.seq+1<=_;omega
 .show 0<=m.next+1;omega
 .show m.next+1<=_;omega
 .rw[c.length_eq];simp;omega
 .rcases XW.1 i with i|rfl
  .obtain⟨s,v,A,w,y⟩:=(iI m e).1 (o e i);exact(iI _ e).2 ⟨s,⟨v.1,by show _<m.next+1;omega⟩,A,w,y⟩
  .exact(iI _ _).2 ⟨d,⟨n7,by show _<m.next+1;omega⟩,g,E,r⟩
 .have f:(m.objs++[x]).Pairwise (λa b:Qw.cT=>a.name≠b.name):=zA.2 ⟨G.imp λh=>JP h,vL _ _,λa B b H=>o4⟩;have j:=(c.pairwise_iff (R:=λa b:Qw.cT=>a.name≠b.name) λ{a b} h=>Ne.symm h).2 f;have k:(nC m x).objs.Pairwise (λa b=>mP a b=eX):=(tC Vr (m.objs++[x])).1;exact(k.and j).imp λh=>Dr h.1 h.2
 .have f:(m.objs++[x]).Pairwise (λa b:Qw.cT=>a.object≠b.object):=zA.2 ⟨F,vL _ _,λa B b H=>o4⟩;exact(c.pairwise_iff (R:=λa b:Qw.cT=>a.object≠b.object) λ{a b} h=>Ne.symm h).2 f
theorem ON{p:Pm}{o:Int}{n:Nat}{t:aC}(h:cR p o n=dB t):∀x∈t,0<=x/\x<=15:=λx c=>by
 obtain⟨i,d,rfl⟩:=qE c;obtain⟨k,b,a⟩:=Df h i d;have:=(De a).1;rw[b];omega
theorem MX{p:Pm}(a:bH p=eX)(b:aR):(n4 (splitB p b):Int)=countP p b.length:=by have:=(kg a b.length).1;unfold splitB;rw[qm,List.length_range];omega
theorem MY{m:aB}{d:Bool}{n:aF}{a:ByteArray}{b:aR}{t:aC}(g:bE m=eX)(k:dO m d n a b.length=0)(i:cR m.p m.next (splitB m.p b).length=dB t):bE (nC m ⟨a,m.next,n4 b,t⟩)=eX:=by
 obtain⟨q,j,z3,z4,z5⟩:=uk k;have l:¬m.p.1*m.p.2.2*8<(n4 b:Int):=λh=>z4 (.inl h);have e:n4 m.objs<=11:=by have:¬12<=n4 m.objs:=λh=>z4 (.inr h);omega
 have c:m.next<=16777215:=by have:¬16777215<m.next:=λh=>z5 (.inr (.inl h));omega
 have f:m.seq<=2147483646:=by have:¬2147483647<=m.seq:=λh=>z5 (.inr (.inr h));omega
 have o:=((iT m).1 ((cJ m).1 g).1).2.2.1;refine Vs g j (JQ z3) n5 e c f ⟨by show 0<=(n4 b:Int);omega,by show(n4 b:Int)<=_;omega⟩ (ON i) ?_;show(n4 t:Int)=countP m.p b.length;rw[kz i,MX o]
def Ht(a:dP)(d:bp):bp:=if a.isEmpty then d else{d with l:=d.l++a,wait:=0,laid:=[],has:=eY}
theorem pJ{a:aF}{l:aC}{k:Int}(h:k∈aY a l):k∈l/\∃d,bR a k=dB d/\d.lost=eY:=by
 obtain⟨c,b⟩:=qK.1 h;unfold isLive at b
 grind
theorem Su(m:aB):n4 (bG m)=(n4 (gy m)+47)/48:=by unfold bG fg;simp
theorem acl(x:Qw.cT):(gh x).length=6+x.name.size+x.tries.length:=by unfold gh;simp[bL];omega
theorem Vt{m:aB}(h:bE m=eX):n4 (gy m)=14+n4 m.drives+n4 (m.objs.flatMap gh):=by unfold gy;rw[m6 h];simp only[qo,bL,q7,wK,qm];omega
theorem lN{p:Pm}{n:Int}(h:n<=p.1*p.2.2*8):countP p n<=8:=by
 unfold countP;split
 .rename_i a;rw[qC,]at a;have:=(bI p).1 a.1;have b:0<p.1*p.2.2:=Int.mul_pos n7 n7;have:(n-1)/(p.1*p.2.2)<8:=Int.ediv_lt_of_lt_mul b o4;omega
 simp
theorem aal{m:aB}{x:Qw.cT}(h:gv m x=eX):n4 (gh x)<=26:=by
 obtain⟨a,d,h3,c,b⟩:=(iI m x).1 h;have:=lN h3.2;have e:x.name.size<=12:=by unfold gJ at a;grind
 rw[acl];omega
theorem En{α β:Type}{f:α->List β}{c:Nat}:∀{l:List α},(∀x∈l,n4 (f x)<=c)->n4 (l.flatMap f)<=n4 l*c
 |[],_=>oo
 |x::l,h=>by
  have b:=h x List.mem_cons_self;have d:=En (l:=l) λy a=>h y (qp _ a);rw[List.flatMap_cons,qo,q7,Nat.succ_mul];omega
theorem XX{m:aB}(h:bE m=eX):n4 (bG m)*48<=61+n4 m.drives+n4 m.objs*26:=by have:=En (f:=gh) (l:=m.objs) λx a=>aal (((cJ m).1 h).2.2.2.2.1 x a);have b:=Vt h;rw[Su];omega
theorem acm{m:aB}(h:bE m=eX):n4 (bG m)<=9:=by have a:=XX h;have b:=gn h;have h3:=((cJ m).1 h).2.2.2.1;omega
def cM(m:aB)(b:Int)(w:Pow)(a:aF)(n:aB):Int×aB×Pow×aF:=
 if gN w b then(14,m,w,a)else if !bE n||decide (n.seq≠m.seq+1)then(1,m,w,a)else
 let live:=aY a n.drives;let N:Int->Int:=λ_=>(n4 (bG n):Int)
 if live=[]∨ik m a live N=eY then(7,m,w,a)else
 if(makes m N live w a).1≠0 then((makes m N live w a).1,m,(makes m N live w a).2)else
 let c:=layAll (bj n live) (makes m N live w a).2.1 (makes m N live w a).2.2
 (c.1,if c.1=0 then n else m,c.2)
theorem jH{m:aB}(h:bE m=eX):bM m:=by
 obtain⟨f,l,h3,g,b,p,n⟩:=(cJ m).1 h;have i:=gn h;refine⟨n7,n7,λe d=>?_⟩;obtain⟨a,j,c,q,k⟩:=(iI m e).1 (b e d);have:=lN c.2;have o:e.name.size<=12:=by unfold gJ at a;simp at a;omega
 omega
variable {B:au} {h0 h:m5} {As:List HP} {a:hU} {offs:Int} {da:List bJ} {w:Pow} {ds:aF}
section
variable {pw:hU}
theorem OO(x:bi)(m:aB)(z:bi)(n:aB)(V:St B h0 As λh=>ct h z n)(hz:bM m)(j:bM n)(ao:-1<=m.seq/\m.seq<=2^40)
  (H:aa B h0 h (aJ bN a pw (aD x) offs da w ds::bn x m::As)):
  ak xR 18 #[xJ (dB a),cL z] h λv h'=>v=xH xN (cM m offs w ds n).1/\
   ∃y,aa B h0 h' (aJ bN a pw (aD y) offs da (cM m offs w ds n).2.2.1 (cM m offs w ds n).2.2.2::bn y (cM m offs w ds n).2.1::As):=by
 refine ts Tryz.func18 ?_ (HF (HF (I1 [] [(4,5),(11,25)] (HF (HF (HF (I1 [] [(4,5),(34,44)] G6))))))) (args:=[(dB a),z]);refine H.boxed λI Q q=>(og q).mono ?_;have q:=q.bc;rintro _ Q ⟨rfl,rfl⟩;have u:ct Q z n:=V.at [_,_,_] q;have ah:ct Q x m:=q.at 2 n5;refine⟨_,n5,aT (λe=>?_) λe1=>?_⟩
 .have M:cM m offs w ds n=(14,m,w,ds):=by unfold cM;rw[m6 e]
  rw[M];exact⟨n5,x,q.aG 3 [1,2]⟩
 refine aE ?_;refine⟨z,(q.box 0 n5).aw _ n5,(FM z n Q u j).I3 λh3 R3=>?_⟩;have E:=q.up R3.ac;have Z:=u.up R3.ac;have no:∀{h':m5},aa B h0 h' (an I 27 (aD z)::aJ bN a pw (aD x) offs da w ds::bn x m::As)->(bE n=eY∨n.seq≠m.seq+1)->(Value.int .i64 1=xH xN (cM m offs w ds n).1/\∃y,aa B h0 h' (aJ bN a pw (aD y) offs da (cM m offs w ds n).2.2.1 (cM m offs w ds n).2.2.2::bn y (cM m offs w ds n).2.1::As)):=λ{h'} d hc=>by
  have M:cM m offs w ds n=(1,m,w,ds):=by
   unfold cM;rw[nq pa,m6];rcases hc with hc|hc
   .rw[hc];rfl
   .rw[n1 hc,Bool.or_true]
  rw[M];exact⟨n5,x,d.aG 3 [1,2]⟩
 refine⟨_,n5,I6,aH (λe=>no E (.inl e)) λX=>?_⟩;have F:=E.box 0 n5;have am:=(aa.cw (E.aG 2 [1,0])).2;refine⟨z.1,F.cell0 n5,a,n5,x.1,am.cell0 n5,?_⟩
 try dsimp only
 rw[u.seq,ah.seq,af (m.seq+1)];refine bt (λe=>no E (.inr e)) λe3=>?_;refine⟨_,F.cell n5,?_⟩;have W:=gn X;have al:∀k∈n.drives,0<=k/\k<64:=gx X;refine(GN z.2.2.2.2.2.2.1 n.drives Z.drives n7 (E.aG 2 [1,0])).I4 λr h5 R5=>?_;obtain⟨live,b⟩:=I5 (aY ds n.drives)
 rw[<-b]at R5;have ax:n4 live<=64:=by rw[b];exact qV (qH _ _) W
 have f:∀k∈live,0<=k/\k<64:=λk U=>by rw[b]at U;exact al k (qK.1 U).1
 have S:=(E.bQ R5).aG 4 [2,3,0,1];refine⟨r,n5,z,(S.box 3 n5).aw _ n5,(mT z n h5 (V.at [_,_,_,_] S) j).I4 λpg h6 R6=>?_⟩;have t:=(aa.lE R6).1;have K:=jA n j;obtain⟨p,L⟩:=I5 (n4 (bG n))
 rw[<-L]at t K;have H6:=S.up R6.ac;refine⟨pg,n5,H6.alloc ag n5 λc h7 H7=>?_⟩;have H7:=H7.bc;refine H7.storeAll ag 0 n5 n5 [xH xN (pg.len:Int)] n5 n5 n5 n5 λh8 l=>?_;rw[t]at l;have l:aa B h0 h8 (aJ bN a pw (aD x) offs da w ds::bn x m::an c 3 [xH xN (p:Int)]::ai 3 r 1 ar live::an I 27 (aD z)::As):=l.aG 5 [1,2,0,3,4];obtain⟨T,s⟩:=I5 (bn x m::an c 3 [xH xN (p:Int)]::ai 3 r 1 ar live::an I 27 (aD z)::As)
 have tX:St B h0 T λh=>ct h x m:=by rw[s];exact St.dU 0 n5 λ_ o=>o
 have tN:St B h0 T λh=>bV h c 3 [xH xN (p:Int)]:=by rw[s];exact St.dU (A:=an c 3 [xH xN (p:Int)]) 1 n5 λ_ o=>o.1
 have P:St B h0 T λh=>Rd h r 1 ar live:=by rw[s];exact St.dU (A:=ai 3 r 1 ar live) 2 n5 λ_ o=>o.1.seq (λ_=>rfl) o.2
 have tM:St B h0 T λh=>bV h I 27 (aD z):=by rw[s];exact St.dU (A:=an I 27 (aD z)) 3 n5 λ_ o=>o.1
 have tY:St B h0 T λh=>ct h z n:=by rw[s];exact V.cons.cons.cons.cons
 obtain⟨N,hN⟩:∃N:Int->Int,N=λ_=>(p:Int):=⟨_,rfl⟩
 have tT:St B h0 T λh=>KU 67 #[] #[xJ (dB c)] N live h:=λBs h' d k U=>by
  refine ts Tryz.func67 ?_ (args:=[(k:Int),c]);exact⟨(p:Int),(tN Bs h' d).cell0 n5,by rw[hN],Sp.refl h'⟩
 have fin:∀{h':m5} {Y:Pow} {D:aF},aa B h0 h' (aJ bN a pw (aD x) offs da Y D::T)->aa B h0 h' (aJ bN a pw (aD x) offs da Y D::bn x m::As):=λ{h' Y D} d=>by
  rw[s]at d;exact d.aG 5 [0,1]
 rw[<-s]at l;have M:cM m offs w ds n=(if live=[]∨ik m ds live N=eY then(7,m,w,ds)else
   if(makes m N live w ds).1≠0 then((makes m N live w ds).1,m,(makes m N live w ds).2)else
   ((layAll (bj n live) (makes m N live w ds).2.1 (makes m N live w ds).2.2).1,if(layAll (bj n live) (makes m N live w ds).2.1 (makes m N live w ds).2.2).1=0 then n else m,(layAll (bj n live) (makes m N live w ds).2.1 (makes m N live w ds).2.2).2)):=by
  rw[hN,L,b];unfold cM;rw[nq pa,nq (by rw[X,n2 (by simpa using e3)];decide)]
 rw[M];have G:=(P.at [_] l).len;refine aE (be (λe=>?_) λe4=>?_)
 .have:live=[]:=List.length_eq_zero_iff.1 n7;rw[m6 (.inl this)];exact⟨n5,x,fin l⟩
 have ad:live≠[]:=λh=>e4 (by rw[G,h];rfl);refine(GZ 67 #[] #[xJ (dB c)] N x m r live qa (λBs h' d=>⟨tX Bs h' d,tT Bs h' d⟩) hz (P.at [_] l) n7 f l).I3 λh9 R9=>?_;have H9:=l.up R9.ac;refine⟨_,n5,aH (λg=>?_) λg=>?_⟩
 .rw[m6 (.inr g)];exact⟨n5,x,fin H9⟩
 rw[nq (by rintro(h|h);exact ad h;rw[g]at h;cases h)];refine(Hb 67 #[] #[xJ (dB c)] N x m r live qa (λBs h' d=>⟨tX Bs h' d,tT Bs h' d,P Bs h' d⟩) hz n7 f H9).I3 λay i=>?_;obtain⟨R,ab⟩:=I5 (makes m N live w ds)
 rw[<-ab]at i⊢;refine⟨_,n5,bt (λg2=>?_) λg2=>?_⟩
 .rw[m6 g2];exact⟨n5,x,fin i⟩
 rw[nq (by simpa using g2)];refine⟨z,(tM.at [_] i).aw _ n5,(Hg x z n r live (λBs h' d=>⟨tY Bs h' d,P Bs h' d⟩) j n7 f i).I3 λap ⟨Q1,Q0⟩=>?_⟩;refine⟨_,n5,n5,?_⟩;by_cases O:(layAll (bj n live) R.2.1 R.2.2).1=0
 .obtain⟨y2,J⟩:=Q0 O;rw[m6 O];rw[s]at J;exact⟨y2,J.aG 6 [0,1]⟩
 .rw[nq O];exact⟨x,fin (Q1 O)⟩
end
variable {k:Kit} {b:hU} {mc:aS} {d:bp} {n:Nat}
section
variable {pw:hU}
end
section
variable {pw:hU}
theorem Sv(H:aa B h0 h (jo pw b d::As)):ak xR 55 #[xJ (dB b)] h λv h'=>v=.tuple #[]/\aa B h0 h' (jo pw b d.Ic::As):=by
 refine ts Tryz.func55 ?_;obtain⟨ok,s,n,i⟩:=H.jV;refine aT (λ_=>?_) λe=>o1
 refine⟨b,n5,i.store ag 0 n5 n5 6 [xL eX] n5 n5 n5 t8 λk a=>?_⟩;refine⟨b,n5,a.store ag 0 n5 n5 2 [xI eH 0 0] n5 n5 n5 t8 λh3 j=>?_⟩;refine⟨b,n5,j.store ag 0 n5 n5 3 [xH xN 0] n5 n5 n5 t8 λl f=>?_⟩;refine⟨b,n5,f.store ag 0 n5 n5 4 [xI eH 0 0] n5 n5 n5 t8 λm c=>?_⟩;refine⟨b,n5,c.store ag 0 n5 n5 5 [xL eY] n5 n5 n5 t8 λo g=>⟨n5,?_⟩⟩;refine aa.iC (s:=⟨eH,0,0⟩) (b:=⟨eH,0,0⟩) ⟨qj _,qX _,ok.room,by simp[bp.Ic],qX _,by simp[bp.Ic]⟩ ?_;exact((g.jm 41 5 1 aq).jm 41 5 1 aq).aG 5 [2,0,1]
end
section
variable {pw:hU}
end
section
variable {pw:hU}
end
section
variable {pw:hU}
theorem Ds{k:Int}{d:bp}(e:bR ds k=dB d)(H:aa B h0 h (aJ bN a pw mc offs da w ds::As)):∃(b:hU) (s bl:Sl),de da k=dB b/\bV h b 172 (fj pw d s bl)/\dT h s 1 aq d.l/\eZ d:=by
 obtain⟨ok,_⟩:=aa.cw H;rcases gf ok k with⟨h1,_⟩|⟨n,d',b,rfl,hn,h1,h2,h3,h4⟩
 .rw[h1]at e;cases e
 .rw[h2]at e;injection e with e
  subst e;obtain⟨j,c,i⟩:=Qw.aa.fq H h1;rw[h3]at c;injection c with c
  injection c with c
  subst c;obtain⟨f,s,bl,g⟩:=aa.jV i;exact⟨b,s,bl,h4,g.box 0 n5,(g.aG 2 [1,0]).uC λ_=>rfl,f⟩
theorem acn{k:Int}(c:bR ds k=eH)(H:aa B h0 h (aJ bN a pw mc offs da w ds::As)):de da k=eH:=by
 obtain⟨ok,_⟩:=aa.cw H;rcases gf ok k with⟨_,h2⟩|⟨n,d',b,rfl,hn,h1,h2,h3,h4⟩
 .exact h2
 .rw[h2]at c;cases c
theorem MZ{k:Int}(H:aa B h0 h (aJ bN a pw mc offs da w ds::As)):ak xR 26 #[xJ (dB a),xH xN k] h λv h'=>v=.pointer (de da k)/\h'=h:=by obtain⟨ok,b⟩:=aa.cw H;exact jz k ok b
theorem Na{k:Int}{d:bp}{b:hU}(x:bi)(m:aB)(f:bR ds k=dB d)(o:de da k=dB b)(e:ct h x m)(n:bM m)(H:aa B h0 h (aJ bN a pw mc offs da w ds::As)):
  ak xR 159 #[xJ (dB b),cL x] h λv h'=>v=xL (jh m d.l)/\Sp h h' []:=by
 obtain⟨p,s,bl,c,j,g,i⟩:=Ds f H;rw[o]at c;injection c with c
 subst c;exact Sr b pw d s bl x m h j g i e n
end
def Nb(a b c:Int):Int×Int×Int:=(1+a%6,1+b%3,1+c%9)
theorem Sw(a b c:Int)(h:m5):ak xR 60 #[xH xN a,xH xN b,xH xN c] h λv h'=>v=go (Nb a b c)/\Sp h h' []:=by
 refine tW a b c ?_;refine(Sp.refl h).alloc ag n5 λx e f=>?_;refine(bT a 6 e).mono ?_;rintro v g ⟨rfl,rfl⟩;refine⟨_,n5,(bT b 3 g).mono ?_⟩;rintro v h3 ⟨rfl,rfl⟩;refine⟨_,n5,(bT c 9 h3).I2 ?_⟩;refine⟨_,n5,?_⟩
 try dsimp only
 rw[af _,af _,af _];refine f.storeAll ag 0 n5 n5 [xH xN (1+a%6),xH xN (1+b%3),xH xN (1+c%9)] n5 n5 n5 n5 λi d=>?_;exact⟨Nb a b c,(d.box 0 n5).aw _ n5,n5,.zip d.ac⟩
def gQ(a pw:hU)(c:List bJ)(b:Int)(w:Pow)(d:aF)(m:aB):HP:=HP.ex λx:bi=>(aJ bN a pw (aD x) b c w d).sep (bn x m)
variable {m:aB}
section
variable {pw:hU}
theorem iM(H:aa B h0 h (gQ a pw da offs w ds m::As)):∃x,aa B h0 h (aJ bN a pw (aD x) offs da w ds::bn x m::As):=by obtain⟨x,H⟩:=H.AV;exact⟨x,H.Cu.nj⟩
theorem pK{x:bi}(H:aa B h0 h (aJ bN a pw (aD x) offs da w ds::bn x m::As)):aa B h0 h (gQ a pw da offs w ds m::As):=
 aa.Ct (F:=λx:bi=>(aJ bN a pw (aD x) offs da w ds).sep (bn x m)) x H.nj.kq
theorem Nc(H:aa B h0 h (gQ a pw da offs w ds m::As)):n4 ds=64/\∀k d,bR ds k=dB d->n4 d.l<=d.room/\d.room<=512/\eZ d:=by obtain⟨x,H⟩:=iM H;obtain⟨ok,_⟩:=aa.cw H;refine⟨ok.ls,λk d e=>?_⟩;obtain⟨b,s,bl,_,_,_,c⟩:=Ds e H;exact⟨c.len,c.room,c⟩
theorem aam(c:ByteArray)(s:Sl)(b:aR)(j:St B h0 As λh=>Rd h s 1 aq b)(e:s.len<=s.cap)(i:c.size<=2^40)(d:bE m=eX)(f:n4 b<=2^20)(H:aa B h0 h (gQ a pw da offs w ds m::As)):
  ak xR 34 #[xJ (dB a),xK c,s] h λv h'=>v=xH xN (eG m offs w ds c b).1/\
   aa B h0 h' (gQ a pw da offs (eG m offs w ds c b).2.2.1 (eG m offs w ds c b).2.2.2 (eG m offs w ds c b).2.1::As):=by
 obtain⟨x,H⟩:=iM H;obtain⟨n,o,g,k⟩:=(iT m).1 ((cJ m).1 d).1;refine(XQ x m c s b j e i (jH d) g k (gx d) (gn d) n7 n7 f H).mono ?_;rintro _ h' ⟨rfl,y,l⟩;exact⟨n5,pK l⟩
theorem JR(k:Int)(H:aa B h0 h (gQ a pw da offs w ds m::As)):ak xR 26 #[xJ (dB a),xH xN k] h λv h'=>v=.pointer (de da k)/\h'=h:=by obtain⟨x,H⟩:=iM H;exact MZ H
theorem Ql{k:Int}{d:bp}(c:bR ds k=dB d)(H:aa B h0 h (gQ a pw da offs w ds m::As)):∃b,de da k=dB b:=by obtain⟨x,H⟩:=iM H;obtain⟨b,_,_,e,_⟩:=Ds c H;exact⟨b,e⟩
theorem JS{k:Int}(b:bR ds k=eH)(H:aa B h0 h (gQ a pw da offs w ds m::As)):de da k=eH:=by obtain⟨x,H⟩:=iM H;exact acn b H
theorem Vu(o b:Int)(e:bE m=eX)(H:aa B h0 h (gQ a pw da offs w ds m::As)):
  ak xR 22 #[xJ (dB a),xH xN o,xH xN b] h λv h'=>∃r:Sl,v=r/\Sp h h' [gA 22 r 3 1 ar (fD m ds o b (aY ds m.drives))]:=by
 have c:=(Nc H).2;obtain⟨x,H⟩:=iM H;exact Sk x m o b (H.at 1 n5) (jH e) (gn e) (λk d f=>by have:=c k d f;omega) H
theorem Vv(H:aa B h0 h (gQ a pw da offs w ds m::As)):ak xR 15 #[xJ (dB a)] h λv h'=>v=xJ (dB pw)/\h'=h:=by obtain⟨x,H⟩:=iM H;exact nF H
end
def Bx(a:Int)(k:Nat):UInt8:=b8 (zo a (2^(8*k)))
def dh(c:aR)(at_:Nat)(a:Int):Nat->aR
 |0=>c
 |k+1=>(dh c at_ a k).set (at_+k) ((dh c at_ a k).getD (at_+k) 0^^^Bx a k)
def acZ(c:aR)(at_:Int)(a:Int):aR:=dh c at_.toNat a 4
theorem rN(c:aR)(a:Nat)(b:Int):∀k,n4 (dh c a b k)=n4 c
 |0=>rfl
 |k+1=>by unfold dh;rw[qO];exact rN c a b k
def lr(d:bp)(i at_ a:Int):Bool:=decide ((0<=i/\i<(n4 d.l:Int))/\(0<=at_/\at_<=60)/\a≠0)
def bp.mq(d:bp)(i at_ a:Int):bp:=if lr d i at_ a then{d with l:=d.l.set i.toNat (acZ (d.l.getD i.toNat []) at_ a)}else d
theorem Nd{α:Type}{e k:Nat}{f:α->aS}{rs:List Sl}{ll:List (List α)}(h:n4 rs=n4 ll)(n:Nat)(c:n<n4 ll)(x:List α):bo e k f rs (ll.set n x)=(bo e k f rs ll).set n (ai e (rs[n]'n7) k f x):=by
 apply List.ext_getElem?;intro j;by_cases b:j<n4 ll
 .rw[eC (by rw[qO];exact h) j (by rw[qO];exact b)];by_cases a:n=j
  .subst a;rw[List.getElem?_set_self (by rw[gw h];exact c),wT]
  .rw[List.getElem?_set_ne a,eC h j b,vy a]
 .rw[zf (by rw[gw (by rw[qO];exact h),qO];omega),zf (by rw[qO,gw h];omega)]
section
variable {pw:hU}
theorem Kp(i at_ a:Int)(h:m5):ak xR 57 #[xJ eH,xH xN i,xH xN at_,xH xP a] h λv h'=>v=xL eY/\Sp h h' []:=by refine ts Tryz.func57 ?_ (HF (I1 [] [(8,9),(10,37)] (I0 [(37,aI)] [(9,10),(37,60)])));exact aE (aT (λ_=>⟨n5,Sp.refl h⟩) λe=>o1)
theorem Sx(i at_ f:Int)(hm:0<=f/\f<2^32)(H:aa B h0 h (jo pw a d::As)):
  ak xR 57 #[xJ (dB a),xH xN i,xH xN at_,xH xP f] h λv h'=>v=xL (lr d i at_ f)/\aa B h0 h' (jo pw a (d.mq i at_ f)::As):=by
 refine ts Tryz.func57 ?_ (HF (I1 [] [(8,9),(10,37)] (I0 [(37,aI)] [(9,10),(37,60)])));obtain⟨ok,s,bl,N⟩:=aa.jV H;have V:=(aa.lE (N.aG 2 [1,0])).1;have Z:=N.box 0 n5;have A:lr d i at_ f=eY->(Value.bool eY=xL (lr d i at_ f)/\aa B h0 h (jo pw a (d.mq i at_ f)::As)):=λe=>by
  unfold bp.mq;rw[e];exact⟨n5,H⟩
 have g:¬((0<=i/\i<(n4 d.l:Int))/\(0<=at_/\at_<=60)/\f≠0)->lr d i at_ f=eY:=λh=>n2 h;refine aE (aT (λe=>o1) λ_=>ae (λe=>A (g n7)) λe1=>⟨a,n5,s,Z.cell n5,ae (λe=>A (g n7)) λe2=>ae (λe=>A (g n7)) λe3=>ae (λe=>A (g n7)) λe4=>be (λe=>A (g n7)) λU=>?_⟩);have W:0<=i/\i<(n4 d.l:Int):=n7
 have o:lr d i at_ f=eX:=n1 ⟨W,⟨n7,n7⟩,U⟩;obtain⟨n,rfl⟩:∃n:Nat,i=n:=⟨i.toNat,n7⟩
 obtain⟨p,rfl⟩:∃p:Nat,at_=p:=⟨at_.toNat,n7⟩
 have P:n<n4 d.l:=n7
 have y:d.l[n].length=64:=ok.cell _ (qe P);obtain⟨c,F⟩:=I5 (d.l[n])
 have T:aa B h0 h (gA 41 s 5 1 aq (d.l.set n (dh c p f 0))::an a 172 (fj pw d s bl)::ce bl d.laid::As):=by
  have e:d.l.set n (dh c p f 0)=d.l:=by show d.l.set n c=d.l;rw[F];exact List.set_getElem_self _
  rw[e];exact N.aG 3 [1,0,2]
 refine aj (λk:Nat=>(k:Int)) (λk h'=>k<=4/\aa B h0 h' (gA 41 s 5 1 aq (d.l.set n (dh c p f k))::an a 172 (fj pw d s bl)::ce bl d.laid::As)) (λk=>4-k) 0 n5 ⟨n7,T⟩ ?_;rintro k h3 ⟨hk,I⟩
 try dsimp only
 refine ae (λe=>?_) λe=>?_
 .have u:k<4:=n7
  have K:=I.box 1 n5;obtain⟨rs,m,G⟩:=I.AW;have R:=(I.lE).1;have X:n4 (d.l.set n (dh c p f k))=n4 d.l:=qO;have j:n<n4 (d.l.set n (dh c p f k)):=n7
  have E:(bo 5 1 aq rs (d.l.set n (dh c p f k)))[n]?=dB (ai 5 (rs[n]'n7) 1 aq (dh c p f k)):=by rw[eC m n j,wT]
  have q:((ai 41 s 1 bv rs::bo 5 1 aq rs (d.l.set n (dh c p f k)))++(an a 172 (fj pw d s bl)::ce bl d.laid::As))[n+1]?=dB (ai 5 (rs[n]'n7) 1 aq (dh c p f k)):=by rw[zD,List.getElem?_cons_succ,qu (by rw[gw m];exact j)];exact E
  have Y:n4 (dh c p f k)=64:=by rw[rN,F];exact y
  have Q:=G.own (n+1) q;refine⟨a,n5,s,K.cell n5,?_⟩;have M:=G.seq 0 n5 λ_=>rfl;refine M.kX n n5 n7 ?_;obtain⟨z,S⟩:=I5 ((dh c p f k)[p+k]'n7)
  have L:qc xN ((p:Int)+(k:Int))=((p+k:Nat):Int):=o9
  rw[L];have w:Qw.Seq h3 (λb=>b<h3.size) (rs[n]'n7) 1 aq (dh c p f k):=G.seq (n+1) q λ_=>rfl;refine w.aV (p+k) n5 n7 (z.toNat:Int) (by rw[S];rfl) ?_;refine⟨o9,?_⟩;have t:min (qc xN ((8:Int)*(k:Int))).toNat (qq xP)=8*k:=by rw[af _];show min ((8:Int)*k).toNat 32=8*k;omega
  rw[t,cb (zo f (2^(8*k)))];have J:=lQ z (b8 (zo f (2^(8*k))));rw[J];refine G.set ag (n+1) q (λ_=>rfl) n5 (p+k) n5 n7 (z^^^Bx f k) n5 n5 n5 λh5 O=>⟨I6,?_⟩
  refine⟨k+1,o0,⟨n7,?_⟩,n7⟩;have r:dh c p f (k+1)=(dh c p f k).set (p+k) (z^^^Bx f k):=by show(dh c p f k).set (p+k) ((dh c p f k).getD (p+k) 0^^^Bx f k)=_;rw[rC 0,S]
  refine aa.Cx (rs:=rs) D8 ?_;have e:bo 5 1 aq rs (d.l.set n (dh c p f (k+1)))=(bo 5 1 aq rs (d.l.set n (dh c p f k))).set n (ai 5 (rs[n]'n7) 1 aq (dh c p f (k+1))):=by rw[<-Nd m n j,List.set_set]
  rw[e,r];rw[zD,wY,List.set_append_left _ _ (by rw[gw m];exact j)]at O;exact O
 .have u:k=4:=n7
  subst u;have D:d.mq (n:Int) (p:Int) f={d with l:=d.l.set n (dh c p f 4)}:=by unfold bp.mq;rw[o,m6 n5,qi,rC [] P,<-F];rfl
  refine⟨by rw[o],?_⟩;rw[D];refine aa.iC (s:=s) (b:=bl) ⟨by show d.wait<=_;rw[qO];exact ok.wait,by show(d.l.set n _).length<=_;rw[qO];exact ok.len,ok.room,λx J=>?_,ok.laid,ok.cellL⟩ (I.aG 3 [1,0,2]);rcases List.mem_or_eq_of_mem_set J with h|rfl
  .exact ok.cell x h
  .rw[rN,F];exact y
end
def ints(l:List Nat):aC:=l.map λx:Nat=>(x:Int)
theorem aan(h:m5)(x:UInt8):ak xR 349 #[xH xO x.toNat] h λv h'=>v=xL (x !=0)/\h'=h:=by
 refine ts Tryz.func349 ?_;refine⟨?_,n5⟩;congr 1;by_cases a:x=0
 .subst a;rfl
 .have:((x.toNat:Nat):Int)≠0:=λb=>a (nc.1 b);rw[bne_iff_ne.2 a];exact bne_iff_ne.2 this
theorem Vw(a:Sl)(l:Row)(h:m5)(p:Rd h a 1 aq l)(t:n4 l<=2^30):ak xR 299 #[a] h λv h'=>v=xH xN (if gV l<n4 l then(gV l:Int)else-1)/\h'=h:=by
 refine ts Tryz.func299 ?_;refine(oK a (349,#[],#[]) (R:=λv h'=>v=xH xN (if gV l<n4 l then(gV l:Int)else-1)/\h'=h) ?_).mono ?_
 .skip
  have r:=p.len;refine aj (λi:Nat=>(i:Int)) (λi h'=>h'=h/\i<=n4 l/\∀j (d:j<n4 l),j<i->l[j]=0) (λi=>n4 l-i) 0 n5 ⟨n5,n7,λj _ d=>n7⟩ ?_;rintro i o ⟨rfl,u,b⟩;refine ae (λe=>?_) (λe=>?_)
  .have c:i<n4 l:=n7
   refine p.aV i n5 c _ n5 ?_;refine fv qa ?_;refine(aan o l[i]).mono ?_;rintro v s ⟨rfl,rfl⟩;refine⟨_,n5,aT (λm=>?_) λm=>?_⟩
   .have k:gV l=i:=by rw[gV,List.findIdx_eq c];exact⟨m,λj d=>by simp[b j n7 d]⟩
    rw[k,m6 c];exact⟨n5,n5⟩
   .refine⟨i+1,o0,⟨n5,n7,λj d n=>?_⟩,n7⟩;rcases q8.1 n with h3|rfl
    .exact b j d h3
    .simpa using m
  .have f:¬gV l<n4 l:=by rw[gV,List.findIdx_lt_length];rintro⟨x,q,g⟩;obtain⟨j,d,rfl⟩:=qE q;rw[b j d n7]at g;simp at g
   rw[nq f];exact⟨n5,n5⟩
 .rintro v o ⟨rfl,rfl⟩;exact⟨_,n5,n5,n5⟩
def Zz(n t:Nat):cO:=(YW t 0 n).map ints
theorem lU{p q:au}(a b:Sl)(c j:aC)(h:m5)(r:Seq h p a 1 ar c)(s:Seq h q b 1 ar j)(x:n4 c<=2^40):
  ak xR 80 #[a,b] h λv h'=>v=xL (decide (c=j))/\h'=h:=by
 refine ts Tryz.func80 ?_ (HF (HF (I0 [(13,aI)] [(4,6),(13,26)])));have m:=r.len;have l:=s.len;refine bt (λd=>⟨?_,n5⟩) (λg=>?_)
 .rw[n2 λe=>d (by rw[m,l,e])]
 .refine aj (λk:Nat=>(k:Int)) (λk h'=>h'=h/\k<=n4 c/\c.take k=j.take k) (λk=>n4 c-k) 0 n5 ⟨n5,n7,oo⟩ ?_;rintro k h' ⟨rfl,w,o⟩;refine ae (λu=>?_) (λt=>?_)
  .have f:k<n4 c:=n7
   have i:k<n4 j:=n7
   refine r.aV k n5 f _ n5 ?_;refine s.aV k n5 i _ n5 ?_;refine bt (λd=>⟨?_,n5⟩) (λg=>?_)
   .rw[n2];intro e;subst e;exact d n5
   .rw[af _];exact⟨k+1,oo,⟨n5,n7,by rw[az _ _ f,az _ _ i,o,g]⟩,n7⟩
  .have:k=n4 c:=n7
   subst this;rw[qf n7,qf n7]at o;exact⟨by rw[n1 o],n5⟩
theorem OP{p:au}(a:Sl)(c:aC)(x:Int)(h:m5)(i:Seq h p a 1 ar c)(q:n4 c<=2^40):
  ak xR 195 #[a,xH xN x] h λv h'=>v=xL (decide (x∈c))/\h'=h:=by
 refine ts Tryz.func195 ?_ (HF (I0 [(8,aI)] [(4,6),(8,18)]));have m:=i.len;refine aj (λk:Nat=>(k:Int)) (λk h'=>h'=h/\k<=n4 c/\x∉c.take k) (λk=>n4 c-k) 0 n5 ⟨n5,n7,oo⟩ ?_;rintro k h' ⟨rfl,o,g⟩;refine ae (λl=>?_) (λj=>?_)
 .have b:k<n4 c:=n7
  refine i.aV k n5 b _ n5 ?_;refine be (λd=>⟨?_,n5⟩) (λf=>?_)
  .rw[n1 (by rw[<-d];exact qe b)]
  .rw[af _];refine⟨k+1,oo,⟨n5,n7,?_⟩,n7⟩;rw[az _ _ b];simp only[qx,qB,not_or];exact⟨g,λe=>f e.symm⟩
 .rw[qf n7]at g;exact⟨by rw[n2 g],n5⟩
def Sy(W:cO)(a:aC):Nat->aC
 |0=>[]
 |k+1=>Sy W a k++if(k:Int)∈a then[]else W.getD k []
def aco(p:Pm)(seed:Int)(W:cO)(a:aC):Nat:=AY p seed (Sy W a W.length)
def ada(p:Pm)(seed:Int)(W:cO)(t:Nat):Option (aC):=(Zz W.length t).find? λg=>decide ((aco p seed W g:Int)≠bD p)
section
variable {pw:hU}
end
structure adS (p:Pm) (extra:Int) (c:Nat) (x:Int) (m:aB) (D:aF):Prop where
 m_eq:m=co p extra (qh c x)
 len:n4 D=64
 may:bE m=eX
 dr:m.drives=(List.range c).map λi:Nat=>(i:Int)
 at_:∀s,bR D s=if s∈m.drives then dB ⟨x.toNat,bG m,0,[],eY,eY⟩else eH
section
variable {pw:hU}
theorem Vx{k:Int}{d:bp}{b:hU}(i at_ c:Int)(j:0<=c/\c<2^32)(f:bR ds k=dB d)(p:de da k=dB b)(H:aa B h0 h (gQ a pw da offs w ds m::As)):
  ak xR 57 #[xJ (dB b),xH xN i,xH xN at_,xH xP c] h λv h'=>v=xL (lr d i at_ c)/\aa B h0 h' (gQ a pw da offs w (iD ds k (d.mq i at_ c)) m::As):=by
 obtain⟨x,H⟩:=iM H;obtain⟨ok,_⟩:=aa.cw H;obtain⟨n,rfl,y⟩:=kB f;have s:ds[n]?=dB (dB d):=by
  unfold bR at f;rw[m6 n7,qi]at f;cases hX:ds[n]? with
  |none=>rw[hX]at f;cases f
  |some o=>rw[hX]at f;exact congrArg dB f
 obtain⟨r,g,t⟩:=Qw.aa.fq H s;have l:r=b:=by unfold de at p;rw[m6 n7,qi,g]at p;injection p
 subst l;refine(Sx i at_ c j t).mono ?_;rintro _ h' ⟨rfl,q⟩;have u:=Qw.aa.kN (k:=bN) (n:=n) g q;refine⟨n5,?_⟩;have e:iD ds (n:Int) (d.mq i at_ c)=ds.set n (dB (d.mq i at_ c)):=by simp only[iD,qi]
 rw[e];exact pK u
end
structure Pg where
 seq:Int
 num:Int
 many:Int
 bears:aR
 cell:aR
def adv(x c:aR):Pg:=⟨dm (x.take 4),((x.getD 4 0).toNat:Int),((x.getD 5 0).toNat:Int),(x.drop 7).take (x.getD 6 0).toNat,c⟩
def Dt(c:aR):Option Pg:=
 match gz c with
 |some (k,x)=>if k=2/\(x.getD 6 0).toNat<=48/\(x.drop (7+(x.getD 6 0).toNat)).all (λb=>decide (b=0))=eX then dB (adv x c)else eH
 |none=>eH
def aao(f:Pg)(i:Int)(x:Pg):Bool:=decide (x.seq=f.seq/\x.many=f.many/\x.num=i)
def Qm(l:List Pg)(f:Pg):Nat->Option (List Pg)
 |0=>dB [f]
 |n+1=>match Qm l f n with
  |none=>eH
  |some out=>match l.find? (aao f ((n+1:Nat):Int))with
   |none=>eH
   |some x=>dB (out++[x])
def aap(l:List Pg)(f:Pg):Option (List Pg):=if f.many<=0 then eH else Qm l f (f.many.toNat-1)
def acp(s:List Pg):Option aB:=
 match abB (s.flatMap Pg.bears)with
 |none=>eH
 |some m=>if bG m=s.map Pg.cell then dB m else eH
def XY(a:List Pg)(out:List aB)(x:Pg):List aB:=
 if x.num≠0 then out else match aap a x with
 |none=>out
 |some s=>match acp s with
  |none=>out
  |some m=>if out.any (λy=>decide (gy y=gy m))then out else out++[m]
def acq(a:List Pg)(xs:List Pg):List aB:=xs.foldl (XY a) []
def adb(a b:aB):Bool:=decide (b.seq<=a.seq)
def adc(l:dP):List aB:=(acq (l.filterMap Dt) (l.filterMap Dt)).mergeSort adb
theorem IG(s:Sl)(l:Row)(c:UInt8)(h:m5)(q:Rd h s 1 aq l)(w:s.len<=s.cap)(y:n4 l<=2^30):
  ak xR 301 #[s,xH xO c.toNat] h λv h'=>∃k:Nat,v=xI s.ptr k s.cap/\k<=n4 l/\(∀j (f:j<n4 l),k<=j->l[j]=c)/\(∀(d:k-1<n4 l),0<k->l[k-1]≠c)/\h'=h:=by
 refine ts Tryz.func301 ?_ (HF (G0 (Hf [(0,bK)] [(0,1),(5,23)] (G7 (G9 [(0,bK)] [(0,1),(5,23)] (I1 [] [(5,18)] G6)))) G6));have i:=q.len;refine aE ?_;refine aj (λk:Nat=>(⟨s.ptr,k,s.cap⟩:Sl)) (λk h'=>h'=h/\k<=n4 l/\∀j (f:j<n4 l),k<=j->l[j]=c) (λk=>k) l.length (by rw[<-i]) ⟨n5,qj _,λj f d=>n7⟩ ?_;rintro k z ⟨rfl,d,b⟩
 try dsimp only
 refine aE (ae (λe=>?_) λe=>?_)
 .have u:0<k:=n7
  rw[af _];refine(q.take k d).aV (g:=λx:UInt8=>Value.int .u8 x.toNat) (k-1) n7 oi (l[k-1]'n7) (by simp[aq]) ?_|>λ⟨a,ha,x,hx,hK⟩=>⟨a,ha,x.toNat,hx,hK⟩
  refine be (λo=>?_) (λo=>?_)
  .have m:l[k-1]'n7=c:=by
    have:(l[k-1]'n7).toNat=c.toNat:=by exact_mod_cast o
    exact yw.1 this
   refine⟨⟨n7,n7⟩,k-1,by congr 1;omega,⟨n5,n7,λj f t=>?_⟩,n7⟩;by_cases p:j=k-1
   .subst p;exact m
   .exact b j f n7
  .refine⟨k,n5,d,b,λ_ _ r=>o F9,n5⟩
 .exact⟨k,n5,d,b,λ_ h0=>n7,n5⟩
theorem Kq(s:Sl)(l:Row)(c:UInt8)(h:m5)(q:Rd h s 1 aq l)(u:s.len<=s.cap)(F:n4 l<=2^30):
  ak xR 300 #[s,xH xO c.toNat] h λv h'=>(∃r:Sl,v=r/\(r.len=0↔∀x∈l,x=c))/\h'=h:=by
 refine ts Tryz.func300 ?_ (HF (G0 (Hf [(0,bK)] [(0,1),(5,17)] (G7 (G9 [(0,bK)] [(0,1),(5,17)] (I1 [] [(5,15)] G6)))) G6));have y:=q.len;refine bs (λr h'=>h'=h/\(r.len=0↔∀x∈l,x=c)) ?_ ?_
 .refine aj (λt:Sl×Nat=>t.1) (λt h'=>h'=h/\t.2<=n4 l/\(∀j (d:j<n4 l),j<t.2->l[j]=c)/\Rd h t.1 1 aq (l.drop t.2)/\t.1.len<=t.1.cap) (λt=>n4 l-t.2) (s,0) n5 ⟨n5,oo,λj _ d=>n7,by simpa using q,u⟩ ?_;rintro⟨r,k⟩ D ⟨rfl,E,a,b,p⟩;dsimp only at*;have o:=b.len;rw[qJ]at o;refine aE (ae (λe=>?_) λe=>?_)
  .have f:k<n4 l:=n7
   refine b.aV 0 n5 p6 _ n5 ?_;have A:(l.drop k)[0]'(by rw[qJ];omega)=l[k]:=oo
   rw[A];refine be (λm=>?_) (λm=>?_)
   .have i:l[k]=c:=by
     have:(l[k]).toNat=c.toNat:=by exact_mod_cast m
     exact yw.1 this
    refine⟨⟨n7,n7⟩,(⟨if r.cap=1 then r.ptr else r.ptr.map (·.add (1*1)),r.len-1,r.cap-1⟩,k+1),n5,⟨n5,n7,λj d g=>?_,?_,n9⟩,n9⟩
    .rcases q8.1 g with h2|rfl
     .exact a j d h2
     .exact i
    .have:=b.drop 1 p;rw[List.drop_drop]at this;exact this
   .refine⟨n5,⟨λh0=>n7,λB=>absurd ?_ m⟩⟩;rw[B _ (qe f)]
  .have z:k=n4 l:=n7
   refine⟨n5,⟨λ_ x w=>?_,λ_=>by show r.len=0;omega⟩⟩;obtain⟨j,d,rfl⟩:=qE w;exact a j d n7
 .rintro r D ⟨rfl,b⟩;refine be (λe=>?_) (λe=>?_)
  .exact⟨⟨⟨eH,0,0⟩,n5,by rw[<-b];exact⟨λ_=>n7,λ_=>rfl⟩⟩,n5⟩
  .exact⟨⟨r,n5,b⟩,n5⟩
theorem JT(s:Sl)(l:Row)(cut:ByteArray)(b:cut=⟨#[0]⟩)(h:m5)(c:Rd h s 1 aq l)(f:s.len<=s.cap)(p:n4 l<=2^30):
  ak xR 231 #[s,xK cut] h λv h'=>(∃r:Sl,v=r/\(r.len=0↔∀x∈l,x=0))/\h'=h:=by
 subst b;refine ts Tryz.func231 ?_ (HF (HF (HF (I1 [] [(4,5),(13,28)] G6)))) [(6,(.l [0,1,2,4,5,3,6,7]))];have o:=c.len;refine be (λe=>?_) (λe=>?_)
 .refine⟨⟨⟨eH,0,0⟩,n5,⟨λ_ x a=>?_,λ_=>rfl⟩⟩,n5⟩;have:l=[]:=List.eq_nil_of_length_eq_zero n7;subst this;cases a
 .refine rV o6 (aE (Fi o6 ?_));refine⟨0,⟨n8,n5⟩,Fi n8 ?_⟩;refine⟨0,⟨n8,n5⟩,0,⟨n8,n5⟩,?_⟩;refine(IG s l 0 h c f p).mono ?_;rintro v u ⟨k,rfl,m,i,h3,rfl⟩;refine⟨⟨s.ptr,k,s.cap⟩,n5,I6,?_⟩;refine(Kq ⟨s.ptr,k,s.cap⟩ (l.take k) 0 u (c.take k m) (by show k<=s.cap;omega) oi).mono ?_;rintro v w ⟨⟨r,rfl,q⟩,rfl⟩;refine⟨r,n5,I6,⟨r,n5,q.trans ⟨λd x a=>?_,λd x a=>d x (zK a)⟩⟩,n5⟩;obtain⟨j,t,rfl⟩:=qE a;by_cases g:j<k
  .exact d _ (by rw[List.mem_take_iff_getElem];exact⟨j,n7,n5⟩)
  .exact i j t n7
def qv(x:Sl×Sl):aS:=[x.1,x.2]
theorem Vy:∀x,∀c∈qv x,c.oneCell'=eX:=λx c a=>by
 simp only[qv,qN,List.not_mem_nil,or_false]at a;rcases a with rfl|rfl<;>rfl
def kd:ja (Sl×Sl) fi:=⟨λh q a e=>Seq h q a.1 1 ar e.1/\Seq h q a.2 1 aq e.2,λa c=>⟨a.1.ac c,a.2.ac c⟩,λa b=>⟨a.1.mono b,a.2.mono b⟩⟩
abbrev oS:ja Sl (List fi):=bZ kd 2 qv
abbrev ade:ja Sl aO:=bZ (rY 1 aq) 1 bv
abbrev eQ:bS C.toAg 251 253 2 [xI eH 0 0,xI eH 0 0] 48:=⟨_,_,n5,n5,n5,n5,n5,n5⟩
abbrev Vz:bS C.toAg 79 41 1 [xI eH 0 0] 24:=⟨_,_,n5,n5,n5,n5,n5,n5⟩
abbrev ZA:bS C.toAg 262 4 1 [xL eY] 1:=⟨_,_,n5,n5,n5,n5,n5,n5⟩
theorem oS.get{h:m5}{q:au}{s:Sl}{L:List fi}(x:oS.p h q s L){i:Int}(n:Nat)(d:i=n)(e:n<n4 L){K:Sl×Sl->Prop}(b:∀r,kd.p h q r L[n]->K r):
  ∃a:hU,(s.ptr=dB a/\0<=i/\i<((s.len:Nat):Int))/\∃x:Sl×Sl,aZ h (a.add (i.toNat*2)) 0 [x.1,x.2]/\K x:=by
 obtain⟨rs,c,f,h3⟩:=bZ.kQ x;exact c.cG (g:=qv) n d n7 (rs[n]'n7) n5 (b _ (h3 n n7 e))
structure um (h:m5) (p:hU) (l k v:Sl) (L:List fi) (kn:List Bool) (vs:aO):Prop where
 box:bV h p 320 [l,k,v]
 eqs:eN oS h l L
 known:Rd h k 1 fk kn
 vals:eN ade h v vs
theorem um.up{h h':m5}{p:hU}{l k v:Sl}{L:List fi}{kn:List Bool}{vs:aO}(x:um h p l k v L kn vs)(a:aQ (λb=>b<h.size) h h'):um h' p l k v L kn vs:=
 ⟨x.box.ac a x.box.lt,eN.up x.eqs a,Seq.up x.known a,eN.up x.vals a⟩
theorem Nf{kn:List Bool}{c:Int}(b:0<=c)(a:c.toNat<n4 kn):Qw.kn kn c=kn[c.toNat]:=by unfold Qw.kn;rw[qg,qd a];rfl
theorem mb{m:aO}{i:Nat}(h:i<n4 m):aA m i=m[i]:=bf h
theorem jB{α:Type}(f:α->Bool)(l:List α){k:Nat}(a:k<n4 l):(l.take (k+1)).filter f=(l.take k).filter f++if f l[k]then[l[k]]else[]:=by rw[az _ _ a,zg,List.filter_cons];cases f l[k]<;>rfl
theorem rO(V:aO)(a:Row)(l:aC)(c:Int):cS V a (l++[c])=cH 1 (aA V c.toNat) (cS V a l):=by unfold cS;rw[wz];rfl
theorem Qn(a t:Row):cH 1 a t=zl (λx y=>y^^^x) a t:=by unfold cH;congr 1;funext x y;rw[Gf.one_mul]
theorem Du{a t:Row}(d:n4 a=n4 t){k:Nat}(b:k<n4 t:=by omega):(zl (λx y=>y^^^x) (a.take k) (t.take k)++t.drop k).set k (t[k]^^^(a[k]'n7))=zl (λx y=>y^^^x) (a.take (k+1)) (t.take (k+1))++t.drop (k+1):=by
 have c:n4 (zl (λx y=>y^^^x) (a.take k) (t.take k))=k:=oi
 rw[qZ _ _ n7,c,zd,qT b,zu,az _ _ b,az _ _ (show k<n4 a by omega),List.zipWith_append oi];simp
theorem Ng(p:hU)(l k v:Sl)(L:List fi)(kn:List Bool)(vs:aO)(n:Nat)(h:m5)(t:um h p l k v L kn vs)(I:n4 kn=n)(H:∀e∈L,∀c∈e.1,0<=c/\c<(n:Int))(S:n4 L<=2^30)(z:∀e∈L,n4 e.1<=2^30):
  ak xR 336 #[xJ (dB p)] h λv h'=>(∃i:Int,v=xH xN i/\(0<=i->∃(J:i.toNat<n4 L),n4 ((L[i.toNat]).1.filter λc=>!Qw.kn kn c)=1))/\Sp h h' []:=by
 refine ts Tryz.func336 ?_ (HF (G0 (HF (G7 (G9 [(13,aI)] [(2,6),(7,8),(13,40)] (HF (HF (G0 (G7 (HF (HF (I0 [(5,aI),(21,aI)] [(5,6),(7,8),(21,36)])))) G6)))))) G6));have M:=bZ.len t.eqs;refine⟨p,n5,l,t.box.cell0 n5,?_⟩;refine aj (λi:Nat=>(i:Int)) (λi h'=>i<=n4 L/\Sp h h' []) (λi=>n4 L-i) 0 n5 ⟨n7,Sp.refl h⟩ ?_;rintro i O ⟨J,D⟩;refine ae (λe=>?_) λe=>⟨⟨-1,n5,λU=>n7⟩,D⟩;have g:i<n4 L:=n7
 refine oS.get (eN.up t.eqs D.ac) i n5 g λx F=>?_;refine(Sp.refl O).alloc ag n5 λa R G=>?_;refine G.storeAll ag 0 n5 n5 (qv x) n5 n5 n5 n5 λh3 u=>?_;have w:=up D.ac u.ac;have q:=t.up w;have r:=kd.mono (kd.loc F u.ac) λb Q=>qS Q u.ac.1;have A:=u.box 0 n5;refine⟨x.1,A.cell0 n5,?_⟩;have N:=r.1.len;have E:=z _ (qe g);let d:Nat->Nat:=λj=>n4 (((L[i]).1.take j).filter λc=>!Qw.kn kn c);refine aj (λj:Nat=>(((d j:Nat):Int),(j:Int))) (λj h'=>h'=h3/\j<=(L[i]).1.length) (λj=>(L[i]).1.length-j) 0 Bk ⟨n5,n7⟩ ?_;rintro j T ⟨rfl,V⟩
 try dsimp only
 have P:d j<=j:=qV (qH _ _) oi;refine ae (λK=>?_) (λK=>?_)
 .have f:j<(L[i]).1.length:=n7
  have y:=H _ (qe g) _ (qe f);refine r.1.aV j n5 f _ n5 ?_;refine⟨p,n5,k,q.box.cell n5,?_⟩;refine q.known.aV (L[i]).1[j].toNat n7 n7 _ n5 ?_;rw[af ((j:Int)+1),af _];have o:=Nf (kn:=kn) y.1 n7;refine aH (λm=>?_) (λm=>?_)
  .refine⟨j+1,?_,⟨n5,n7⟩,n7⟩;have:d (j+1)=d j+1:=by simp only[d];rw[jB _ _ f,o,m];simp
   rw[this];rfl
  .refine⟨j+1,?_,⟨n5,n7⟩,n7⟩;have:d (j+1)=d j:=by simp only[d];rw[jB _ _ f,o,m];simp
   rw[this];rfl
 .have B:j=(L[i]).1.length:=n7
  subst B;have s:d (L[i]).1.length=n4 ((L[i]).1.filter λc=>!Qw.kn kn c):=by simp only[d];rw[qt]
  rw[s];refine be (λm=>⟨⟨i,n5,λ_=>⟨n7,by exact_mod_cast m⟩⟩,.zip w⟩) λm=>?_;exact⟨i+1,o0,⟨n7,.zip w⟩,n7⟩
theorem JU(p:hU)(l k v:Sl)(L:List fi)(kn:List Bool)(vs:aO)(n w:Nat)(x:Sl×Sl)(e:fi)(h:m5)(hP:um h p l k v L kn vs)(M:jP n w L kn vs)(O:eN kd h x e)(J:iU n w e)(hw:w<=2^20)(ao:n4 e.1<=2^20):
  ak xR 285 #[xJ (dB p),xM #[x.1,x.2]] h λr h'=>∃a b:Sl,r=xM #[a,b]/\Sp h h' [ai 3 a 1 ar (fm kn vs e).1,ai 5 b 1 aq (fm kn vs e).2]:=by
 refine ts Tryz.func285 ?_ (HF (HF (G0 (HF (G7 (G9 [(17,aI)] [(7,10),(17,58)] (HF (HF (G0 (G7 (HF (HF (HF (G7 (G9 [(43,aI)] [(8,10),(43,57)] G6)))))) G6)))))) G6))) (args:=[(dB p),x]);refine(Sp.refl h).boxed λT h1 H1=>?_;refine H1.alloc ag n5 λR h2 S=>?_;have P2:=S.ac;refine⟨x.2,(S.box 0 n5).cell n5,(fN x.2 e.2 h2 (Seq.up O.2 P2) (by have:=J.len;omega)).I4 λd h3 R3=>?_⟩;have H3:=S.comp R3;refine⟨d,n5,H3.alloc ag n5 λa5 h4 H4=>?_⟩;refine H4.storeAll ag 3 n5 n5 (qv (⟨eH,0,0⟩,d)) n5 n5 n5 n5 λh5 H5=>?_;have Y:Sp h h5 [an T 253 (qv x),an R 253 [xI eH 0 0,xI eH 0 0],ai 5 d 1 aq e.2,an a5 253 (qv (⟨eH,0,0⟩,d)),ai 3 ⟨eH,0,0⟩ 1 ar []]:=H5.nil 3 1 ar;refine⟨x.1,(Y.box 0 n5).cell0 n5,?_⟩;have ad:=O.1.len;have ap:=M.klen;have al:=M.vlen;refine aj (λt:Nat×Sl=>(t.1:Int)) (λt h'=>t.1<=n4 e.1/\Sp h h' [an T 253 (qv x),an R 253 [xI eH 0 0,xI eH 0 0],ai 5 d 1 aq (cS vs e.2 ((e.1.take t.1).filter λc=>Qw.kn kn c)),an a5 253 (qv (t.2,d)),ai 3 t.2 1 ar ((e.1.take t.1).filter λc=>!Qw.kn kn c)]) (λt=>n4 e.1-t.1) (0,⟨eH,0,0⟩) n5 ⟨oo,by simpa[cS]using Y⟩ ?_;rintro⟨j,o⟩ h7 ⟨hj,q⟩;dsimp only at*;have u:n4 (cS vs e.2 ((e.1.take j).filter λc=>Qw.kn kn c))=w:=jO J.len λc hc=>by
  have G:=qK.1 hc;have I:=zK G.1;exact M.CI (J.cX c I).1 (J.cX c I).2 G.2
 have ah:n4 ((e.1.take j).filter λc=>!Qw.kn kn c)<=j:=qV (qH _ _) oi;refine ae (λe2=>?_) (λe2=>?_)
 .have f:j<n4 e.1:=n7
  have s:=J.cX _ (qe f);have z:=hP.up q.ac;refine(Seq.up O.1 q.ac).aV j n5 f _ n5 ?_;refine⟨p,n5,k,z.box.cell n5,?_⟩;refine z.known.aV (e.1[j]).toNat n7 n7 _ n5 ?_;have E:=Nf (kn:=kn) s.1 n7;refine aH (λB=>?_) (λB=>?_)
  .rw[<-E]at B;refine⟨o,(q.box 3 n5).cell0 n5,?_⟩;refine q.push ag 4 n5 fu n5 n8 (λ_=>rfl) db e.1[j] n5 n8 n7 λo' h8 g=>?_;refine g.iB ag 3 n5 n5 [o'] n5 n5 n5 (by simp[qv]) λh9 K=>?_;refine⟨(j+1,o'),oj,⟨n9,?_⟩,n9⟩
   try dsimp only
   rw[jB _ _ f,jB _ _ f,B];simp only[Bool.not_false,if_true,zc,if_false,qL];exact K
  .rw[<-E]at B;have F:=M.CI s.1 s.2 B;rw[mb n7]at F;refine⟨p,n5,v,z.box.cell n5,?_⟩;obtain⟨vr,U,ab,W⟩:=bZ.kQ hP.vals;have i:(e.1[j]).toNat<n4 vs:=n7
   refine(Seq.up U q.ac).kX (e.1[j]).toNat n7 n7 ?_;have N:=(W (e.1[j]).toNat n7 i).1;have H:=N.len;generalize vr[(e.1[j]).toNat]'n7=y at N H⊢;obtain⟨A,hA⟩:=I5 (vs[(e.1[j]).toNat]'i)
   obtain⟨D,Z⟩:=I5 (cS vs e.2 ((e.1.take j).filter λc=>Qw.kn kn c))
   rw[<-hA]at F N H;rw[<-Z]at q u;refine aj (λm:Nat=>(m:Int)) (λm h'=>m<=w/\Sp h h' [an T 253 (qv x),an R 253 [xI eH 0 0,xI eH 0 0],ai 5 d 1 aq (zl (λx y=>y^^^x) (A.take m) (D.take m)++D.drop m),an a5 253 (qv (o,d)),ai 3 o 1 ar ((e.1.take j).filter λc=>!Qw.kn kn c)]) (λm=>w-m) 0 n5 ⟨n7,by simpa using q⟩ ?_;rintro m h8 ⟨hm,g⟩;have Q:n4 (zl (λx y=>y^^^x) (A.take m) (D.take m))=m:=oi
   refine ae (λe4=>?_) (λe4=>?_)
   .have am:m<w:=n7
    refine(Seq.up N g.ac).aV m n5 n7 _ n5 ?_;refine⟨d,(g.box 3 n5).cell n5,?_⟩;refine(g.seq 2 n5 λ_=>rfl).aV m n5 oi _ n5 ?_;have V:((zl (λx y=>y^^^x) (A.take m) (D.take m)++D.drop m)[m]'(by simp;omega))=D[m]'n7:=by rw[yD n7];simp[Q]
    rw[V,lQ];refine g.set ag 2 n5 (λ_=>rfl) n5 m n5 oi (D[m]'n7^^^A[m]'n7) n5 n5 n5 λh9 K=>?_;rw[Du n7]at K;exact⟨m+1,o0,⟨n7,K⟩,n7⟩
   .have X:m=w:=n7
    subst X;refine⟨(j+1,o),oj,⟨n9,?_⟩,n9⟩
    try dsimp only
    rw[jB _ _ f,jB _ _ f,B];simp only[Bool.not_true,if_true,zc,if_false,qL];rw[rO,mb i,<-hA,<-Z,Qn];rw[qf n7,qf n7,zj n7,qL]at g;exact g
 .have P:j=n4 e.1:=n7
  subst P;rw[qt]at q;refine⟨(o,d),(q.box 3 n5).aw _ n5,?_⟩;refine q.storeAll ag 1 n5 n5 (qv (o,d)) n5 n5 n5 n5 λh8 g=>?_;refine⟨(o,d),(g.box 1 n5).aw _ n5,o,d,n5,?_⟩;exact g.bu [4,2]
theorem aa.adw{B:au}{c h:m5}{As:List HP}{e k:Nat}{α:Type}{f:α->aS}{s:Sl}{l:List α}(H:aa B c h As)(i:Nat)(j:As[i]?=dB (ai e s k f l))(d:∀x,n4 (f x)=k)(g:l≠[]):aa B c h (As.set i (EA (rY k f) s l)):=
 H.dW i j λq ⟨a,b⟩=>⟨a.seq d b,λm=>absurd m g⟩
theorem count_set{l:List Bool}:∀{i:Nat} (h:i<n4 l),l[i]=eY->((l.set i eX).count eY)+1=l.count eY:=by
 induction l with
 |nil=>intro i h;simp at h
 |cons a l ih=>
  intro i h b;cases i with
  |zero=>simp at b;subst b;simp
  |succ i=>
   have:=ih (i:=i) sR x0;rw[wY,List.count_cons,List.count_cons];omega
theorem VA(p:hU)(l k v:Sl)(L:List fi)(n w:Nat)(A h:m5)(V:eN oS A l L)(E:∀e∈L,iU n w e)(hn:n<=64)(X:n4 L<=2^20)(R:1<=w/\w<=2^20)(s:∀e∈L,n4 e.1<=2^20)
  (H:Sp A h [an p 320 [l,k,v],ai 4 k 1 fk (qh n eY),dK 41 v 1 bv (rY 1 aq) (qh n [])]):
  ak xR 284 #[xJ (dB p)] h λr h'=>r=.tuple #[]/\∃kn vs,jP n w L kn vs/\Sp A h' [an p 320 [l,k,v],ai 4 k 1 fk kn,dK 41 v 1 bv (rY 1 aq) vs]:=by
 refine ts Tryz.func284 ?_ (.scope 0 [] [(2,37)] [] [G6] []);refine aj (λ_:List Bool×aO=>()) (λt h'=>jP n w L t.1 t.2/\Sp A h' [an p 320 [l,k,v],ai 4 k 1 fk t.1,dK 41 v 1 bv (rY 1 aq) t.2]) (λt=>t.1.count eY) (qh n eY,qh n []) n5 ⟨RE n w L,H⟩ ?_;rintro⟨kn,vs⟩ M ⟨j,O⟩;dsimp only at*;have G:=j.klen;have Z:=j.vlen;have mk:∀{q},Sp A q [an p 320 [l,k,v],ai 4 k 1 fk kn,dK 41 v 1 bv (rY 1 aq) vs]->um q p l k v L kn vs:=λf=>
  ⟨f.box 0 n5,eN.up V f.ac,f.seq 1 n5 λ_=>rfl,f.eRd 2 n5 λ_=>rfl⟩
 refine(Ng p l k v L kn vs n M (mk O) G (λe I=>(E e I).cX) n7 λe I=>by have:=s e I;omega).mono ?_;rintro _ q ⟨⟨i,rfl,U⟩,W⟩;refine⟨i,n5,?_⟩;have f:=O.up W.ac;refine ae (λe=>⟨n5,kn,vs,j,f⟩) λe=>?_;have N:0<=i:=Int.not_lt.1 e;obtain⟨o,z⟩:=U N;have m:=mk f;refine⟨p,n5,l,m.box.cell0 n5,?_⟩;refine oS.get m.eqs i.toNat n7 o λx Q=>?_;have d:=qe o;refine(JU p l k v L kn vs n w x L[i.toNat] q m j Q (E _ d) R.2 (s _ d)).mono ?_;rintro _ h3 ⟨a,b,rfl,S⟩;refine⟨(a,b),n5,?_⟩;obtain⟨c,D⟩:∃c,(fm kn vs L[i.toNat]).1=[c]:=by
  have M:(fm kn vs L[i.toNat]).1.length=1:=z
  match q:(fm kn vs L[i.toNat]).1,M with
  |[c],_=>exact⟨c,n5⟩
 have y:=j.Ao (E _ d);have F:=y.cX c (by rw[D];simp);have u:Qw.kn kn c=eY:=CJ j L[i.toNat] c (by rw[D];simp);rw[Nf F.1 n7]at u;have P:=f.comp S;rw[D]at P;refine P.alloc ag n5 λa8 h4 T=>?_;refine T.storeAll ag 5 n5 n5 (qv (a,b)) n5 n5 n5 n5 λh5 g=>?_;refine⟨p,n5,k,(g.box 0 n5).cell n5,a,(g.box 5 n5).cell0 n5,?_⟩;have B:=g.seq 3 n5 λ_=>rfl;refine B.aV 0 n5 oo c n5 ?_;refine⟨p,n5,v,(g.box 0 n5).cell n5,a,(g.box 5 n5).cell0 n5,?_⟩;refine B.aV 0 n5 oo c n5 ?_;refine⟨b,(g.box 5 n5).cell n5,?_⟩;refine g.set ag 1 n5 (λ_=>rfl) n5 c.toNat n7 n7 eX n5 n5 n5 λh6 K=>?_;refine⟨⟨(K.box 5 n5).cell n5,(K.box 5 n5).cell0 n5,I6⟩,?_⟩;have J:(fm kn vs L[i.toNat]).2≠[]:=λY=>by have:=y.len;rw[Y]at this;simp at this;omega
 have H7:=aa.adw K 4 n5 (λ_=>rfl) J;refine H7.ado ag 2 4 n8 n5 n5 (λ_=>rfl) n5 c.toNat n7 n7 n5 n5 n5 λh8 H8=>⟨I6,?_⟩
 refine⟨(kn.set c.toNat eX,vs.set c.toNat (fm kn vs L[i.toNat]).2),n5,⟨Uh j E d D,H8.bu [0,1,2]⟩,?_⟩;have:=count_set (l:=kn) (i:=c.toNat) n7 u;dsimp only;omega
theorem OQ(s:Sl)(l:Row)(h:m5)(c:Rd h s 1 aq l)(a:s.len<=s.cap)(b:n4 l<=2^30):
  ak xR 286 #[s] h λv h'=>v=xL (!(l.any (· !=0)))/\h'=h:=by
 refine ts Tryz.func286 ?_;refine(JT s l _ n5 h c a b).mono ?_;rintro _ e ⟨⟨r,rfl,d⟩,rfl⟩;refine⟨r,n5,?_,n5⟩;congr 1;rw[yE];simp only[beq_iff_eq,Bool.not_eq_true',wg,bne_iff_ne,ne_eq,Decidable.not_not];rw[<-d];omega
def IH(l:aC):Prop:=∀i (h:i+1<n4 l),l[i]<l[i+1]
theorem Kr(n:Nat)(l:Sl)(L:List fi)(w:Nat)(h:m5)(t:eN oS h l L)(D:∀e∈L,iU n w e/\IH e.1)(hn:n<=64)(R:n4 L<=2^20)(s:∀e∈L,n4 e.1<=2^20):
  ak xR 283 #[xH xN n,l] h λv h'=>v=xL eX/\Sp h h' []:=by
 refine ts Tryz.func283 ?_ (HF (I1 [] [(4,5),(9,15)] (G0 (HF (G7 (G9 [(17,aI)] [(4,5),(6,9),(17,61)] (HF (HF (G0 (G7 (HF (I0 [(24,aI)] [(4,5),(7,9),(24,51)]))) G6)))))) G6)));have S:=bZ.len t;refine aE (ae (λe=>n7) λ_=>ae (λe=>n7) λ_=>?_);refine aj (λi:Nat=>(i:Int)) (λi h'=>i<=n4 L/\Sp h h' []) (λi=>n4 L-i) 0 n5 ⟨n7,Sp.refl h⟩ ?_;rintro i V ⟨hi,u⟩;refine ae (λe=>?_) λe=>⟨n5,u⟩;have d:i<n4 L:=n7
 refine oS.get (eN.up t u.ac) i n5 d λx I=>?_;refine(Sp.refl V).alloc ag n5 λa h2 M=>?_;refine M.storeAll ag 0 n5 n5 (qv x) n5 n5 n5 n5 λh3 p=>?_;have B:=up u.ac p.ac;have c:=kd.mono (kd.loc I p.ac) λb Z=>qS Z p.ac.1;have f:=p.box 0 n5;refine⟨x.1,f.cell0 n5,?_⟩;have U:=c.1.len;have F:=s _ (qe d);obtain⟨m,z⟩:=D _ (qe d);refine aj (λj:Nat=>(j:Int)) (λj h'=>h'=h3/\j<=(L[i]).1.length) (λj=>(L[i]).1.length-j) 0 n5 ⟨n5,n7⟩ ?_;rintro j E ⟨rfl,hj⟩;refine ae (λQ=>?_) (λQ=>?_)
 .have k:j<(L[i]).1.length:=n7
  have N:=m.cX _ (qe k);refine c.1.aV j n5 k _ n5 ?_;refine ae (λe=>n7) λ_=>ae (λe=>n7) λ_=>?_;have G:∃A:Nat,qc xN ((j:Int)+1)=(A:Int)/\(E=E/\A<=(L[i]).1.length)/\(L[i]).1.length-A<(L[i]).1.length-j:=⟨j+1,o0,⟨n5,n7⟩,n7⟩
  refine ae (λJ=>?_) λJ=>G;refine⟨x.1,f.cell0 n5,?_⟩;rw[af ((j:Int)-1)];refine c.1.aV (j-1) n7 n7 _ n5 ?_;have H:=z (j-1) n7;have Y:(L[i]).1[j-1+1]'n7=(L[i]).1[j]:=by congr 1;omega
  rw[Y]at H;exact ae (λe=>absurd H n7) λ_=>G
 .refine⟨x.2,f.cell n5,?_⟩;obtain⟨rs,X,h8,P⟩:=bZ.kQ (eN.up t B);have r:=(P 0 n7 n7).2.len;obtain⟨q,W,y,O,T⟩:=X.cG (g:=qv) (i:=(0:Int)) 0 rfl n7 (rs[0]'n7) rfl (K:=λy=>y.2.len=w) (by rw[r];exact(D _ (qe (show 0<n4 L by omega))).1.len);refine⟨q,W,y.2,?_,?_⟩
  .exact O.2.1
  have o:=c.2.len;rw[m.len]at o;refine bt (λe=>absurd (by rw[o,T]) e) λ_=>?_;exact⟨i+1,o0,⟨n7,.zip B⟩,n7⟩
theorem aa.VB{B:au}{m h:m5}{As:List HP}{e k:Nat}{α β:Type}{E:ja α β}{f:α->aS}{s:Sl}{n:Nat}{a:α}{b:β}(H:aa B m h As)(i:Nat)(t:As[i]?=dB (ai e s k f (qh n a)))(v:∀h,E.p h (λ_=>False) a b):aa B m h (As.set i (dK e s k f E (qh n b))):=
 H.dW i t λq ⟨x,y⟩=>⟨_,λ_=>False,x,λc o=>⟨y c o,λh=>h⟩,λ_ h=>h.elim,oo,λj r l d g=>by
  rw[wD]at d g;split at d
  .rename_i u;rw[m6 u]at g;cases d;cases g;exact v h
  .cases d⟩
theorem aa.acr{B:au}{k h:m5}{As:List HP}{e n:Nat}{a b:Sl}{l:aC}{r:Row}(H:aa B k h As)(i j:Nat)(d:i≠j)(m:As[i]?=dB (ai e a 1 ar l))(o:As[j]?=dB (ai n b 1 aq r)):aa B k h ((As.set i (EA kd (a,b) (l,r))).set j emp):=
 H.merge i j d m o λq p _ f g=>⟨f.1.seq (λ_=>rfl) λx c=>.inl (f.2 x c),g.1.seq (λ_=>rfl) λx c=>.inr (g.2 x c)⟩
theorem VC(kn:List Bool)(vs:aO)(L:List fi){i:Nat}(a:i<n4 L):aX kn vs (L.take (i+1))=if(fm kn vs L[i]).1.isEmpty then aX kn vs (L.take i)else aX kn vs (L.take i)++[fm kn vs L[i]]:=by unfold aX;rw[az _ _ a,qF,zg];cases h:(fm kn vs L[i]).1.isEmpty<;>simp[h]
theorem Sz(kn:List Bool)(vs:aO)(L:List fi){i:Nat}(a:i<n4 L):kv kn vs (L.take (i+1))=(kv kn vs (L.take i)||((fm kn vs L[i]).1.isEmpty&&(fm kn vs L[i]).2.any (· !=0))):=by unfold kv;rw[az _ _ a,qF,yb];simp
theorem SB{kn:List Bool}{vs:aO}{L:List fi}{i:Nat}(h:kv kn vs (L.take i)=eX):kv kn vs L=eX:=by rw[<-qz i L];unfold kv at*;rw[qF,yb,h];rfl
theorem VD(l:Sl)(L:List fi)(n w:Nat)(h:m5)(H:eN oS h l L)(X:∀e∈L,iU n w e/\IH e.1)(hn:n<=64)(F:n4 L<=2^20)(hw:1<=w/\w<=2^20)(B:∀e∈L,n4 e.1<=2^20):
  ak xR 225 #[xH xN n,l] h λr h'=>∃kn vs,jP n w L kn vs/\((kv kn vs L=eX/\r=.tuple #[xI eH 0 0,xI eH 0 0,xI eH 0 0,xH xN 10]/\Sp h h' [])∨
   (kv kn vs L=eY/\∃k v s:Sl,r=.tuple #[k,v,s,xH xN 0]/\Sp h h' [ai 4 k 1 fk kn,dK 41 v 1 bv (rY 1 aq) vs,dK 253 s 2 qv kd (aX kn vs L)])):=by
 refine ts Tryz.func225 ?_ (HF (HF (I1 [(8,YZ)] [(8,9),(16,23)] (HF (I0 [(6,bK),(27,aI)] [(4,8),(10,12),(27,47)]))))) [(3,(.y [0,1,3] (.l [2,4,5,6,7]) (.l [4,2,5,6,7])))];have ap:=bZ.len H;refine(Kr n l L w h H X hn F B).I3 λh1 R1=>⟨eX,n5,aH (λe=>o1) λ_=>?_⟩;refine bs (λs h'=>∃(p:hU) (k v:Sl),s=dB p/\Sp h h' [an p 320 [l,k,v],ai 4 k 1 fk (qh n eY),dK 41 v 1 bv (rY 1 aq) (qh n [])]) ⟨?_,?_⟩ ?_
 .refine R1.make ag fk ZA n8 eY n5 n5 n n n5 n5 (qj _) n7 λk h2 ad T P=>⟨I6,?_⟩
  refine P.make ag bv Vz n8 ⟨eH,0,0⟩ n5 n5 n n n5 n5 (qj _) n7 λv h3 U R W=>⟨I6,?_⟩
  refine W.boxed λp Z J=>⟨I6,p,k,v,n5,?_⟩
  exact(aa.VB (E:=rY 1 aq) (b:=[]) J 1 n5 λh=>⟨Seq.nil _ _ _ _ _ _,λ_=>rfl⟩).bu [2,0,1]
 .refine R1.make ag bv Vz n8 ⟨eH,0,0⟩ n5 n5 n n n5 n5 (qj _) n7 λv h3 U R W=>⟨I6,?_⟩
  refine W.make ag fk ZA n8 eY n5 n5 n n n5 n5 (qj _) n7 λk h2 ad T P=>⟨I6,?_⟩
  refine P.boxed λp Z J=>⟨I6,p,k,v,n5,?_⟩
  exact(aa.VB (E:=rY 1 aq) (b:=[]) J 0 n5 λh=>⟨Seq.nil _ _ _ _ _ _,λ_=>rfl⟩).bu [2,1,0]
 rintro s Z ⟨p,k,v,rfl,J⟩;refine(VA p l k v L n w h Z H (λe he=>(X e he).1) hn F hw B J).I3 λh5 ⟨kn,vs,K,H5⟩=>⟨(),n5,?_⟩;refine aj (λt:Nat×Sl=>(t.2,(t.1:Int))) (λt h'=>t.1<=n4 L/\kv kn vs (L.take t.1)=eY/\Sp h h' [an p 320 [l,k,v],ai 4 k 1 fk kn,dK 41 v 1 bv (rY 1 aq) vs,dK 253 t.2 2 qv kd (aX kn vs (L.take t.1))]) (λt=>n4 L-t.1) (0,⟨eH,0,0⟩) n5 ⟨oo,n5,H5.LI 253 2 qv kd⟩ ?_;rintro⟨i,o⟩ h6 ⟨hi,z,D⟩;dsimp only at*;refine ae (λe=>?_) (λe=>?_)
 .have m:i<n4 L:=n7
  obtain⟨rs,q1,q2,q3⟩:=bZ.kQ H;have hx:=q3 i n7 m;refine(Seq.up q1 D.ac).cG (g:=qv) i n5 n7 (rs[i]'n7) n5 ?_;generalize rs[i]'n7=x at hx⊢;refine D.alloc ag n5 λa h7 H7=>?_;refine H7.storeAll ag 4 n5 n5 (qv x) n5 n5 n5 n5 λh8 A=>?_;refine⟨x,(A.box 4 n5).aw _ n5,?_⟩;have ah:um h8 p l k v L kn vs:=⟨A.box 0 n5,eN.up H A.ac,A.seq 1 n5 λ_=>rfl,A.eRd 2 n5 λ_=>rfl⟩
  obtain⟨G,-⟩:=X _ (qe m);have S:eN kd h8 x L[i]:=eN.up hx A.ac;refine(JU p l k v L kn vs n w x L[i] h8 ah K S G hw.2 (B _ (qe m))).mono ?_;rintro _ h9 ⟨c,d,rfl,R9⟩;refine⟨(c,d),n5,?_⟩;have H9:=A.comp R9;refine H9.alloc ag n5 λa2 ax O=>?_;refine O.storeAll ag 7 n5 n5 (qv (c,d)) n5 n5 n5 n5 λab f=>?_;refine⟨c,(f.box 7 n5).cell0 n5,?_⟩;have u:=(f.own 5 n5).len;have am:n4 (aX kn vs (L.take i))<=n4 L:=by unfold aX;refine qV (qH _ _) ?_;simp;omega
  have q:=VC kn vs L m;have j:=Sz kn vs L m;refine ae (λe2=>?_) (λe2=>?_)
  .have Y:(fm kn vs L[i]).1.isEmpty=eY:=by
    cases hh:(fm kn vs L[i]).1 with
    |nil=>rw[hh]at u;simp at u;omega
    |cons a l=>rfl
   rw[Y]at q j;refine⟨(c,d),(f.box 7 n5).aw _ n5,?_⟩;have Q:=aa.acr f 5 6 n8 n5 n5;refine Q.DT ag 3 5 n8 n5 n5 eQ n5 n8 (λ_=>rfl) Vy n5 n8 n7 λo' al V=>?_;refine⟨(i+1,o'),oj,⟨n9,by dsimp only;rw[j,z];rfl,?_⟩,n9⟩
   try dsimp only
   rw[q];exact V.bu [0,1,2,3]
  .have M:(fm kn vs L[i]).1.isEmpty=eX:=by
    cases hh:(fm kn vs L[i]).1 with
    |nil=>rfl
    |cons a l=>rw[hh]at u;simp at u;omega
   rw[M]at q j;refine⟨d,(f.box 7 n5).cell n5,?_⟩;refine(OQ d _ ab (f.seq 6 n5 λ_=>rfl) (f.own 6 n5).cap (by have:=(K.Ao G).len;omega)).I2 ⟨_,n5,aH (λI=>?_) λI=>?_⟩
   .refine⟨kn,vs,K,.inl ⟨SB (i:=i+1) ?_,n5,f.bu []⟩⟩;rw[j];simp at I;simp[I]
   .refine⟨(i+1,o),oj,⟨n9,?_,?_⟩,n9⟩
    ·(try dsimp only);rw[j,z];simp at I;simp;exact I
    .try dsimp only
     rw[q];exact f.bu [0,1,2,3]
 .have N:i=n4 L:=n7
  subst N;rw[qt]at D z;refine⟨p,n5,k,(D.box 0 n5).cell n5,p,n5,v,(D.box 0 n5).cell n5,kn,vs,K,.inr ⟨z,k,v,o,n5,D.bu [1,2,3]⟩⟩
def fK(pool:List (Sl×Row)):HP:=⟨λh q=>∀x∈pool,Seq h q x.1 1 aq x.2,λa d x b=>(a x b).ac d,λa c x b=>(a x b).mono c⟩
theorem aa.ZB{B:au}{a h:m5}{As:List HP}(H:aa B a h As):aa B a h (As++[fK []]):=
 H.comp (.one (aQ.refl _ _) λx b=>by cases b)
theorem aa.pool{B:au}{c h:m5}{As:List HP}(H:aa B c h As)(i j:Nat)(b:i≠j){pool:List (Sl×Row)}{r:Sl}{l:Row}(e:As[i]?=dB (fK pool))(g:As[j]?=dB (wd r 1 aq l)):aa B c h ((As.set i (fK ((r,l)::pool))).set j emp):=
 H.merge i j b e g λm k _ d f x a=>by
  rcases qN.1 a with rfl|a
  .exact Seq.mono f λ_ h=>.inr h
  .exact(d x a).mono λ_ h=>.inl h
theorem aa.ic{B:au}{b h:m5}{As:List HP}(H:aa B b h As)(i:Nat){pool:List (Sl×Row)}(a:As[i]?=dB (fK pool)){r:Sl}{l:Row}(c:(r,l)∈pool):Rd h r 1 aq l:=(H.at i a) _ c
theorem aa.pL{B:au}{d h:m5}{As:List HP}(H:aa B d h As)(i j:Nat)(c:i≠j){pool:List (Sl×Row)}{s:Sl}{rs:List Sl}{ll:aO}(m:As[i]?=dB (ai 41 s 1 bv rs))(q:As[j]?=dB (fK pool))
  (g:n4 rs=n4 ll) (u:∀(k:Nat) r l,rs[k]?=dB r->ll[k]?=dB l->(r,l)∈pool):aa B d h ((As.set i (dw 41 s 1 aq ll)).set j emp):=
 H.merge i j c m q λv p o a n=>⟨rs,p,a.1,λb e=>⟨.inl (a.2 b e),o b (a.2 b e)⟩,λ_ h=>.inr h,g,λk r l t f=>n _ (u k r l t f)⟩
def bY(pool:List (Sl×Row))(g:Row->Row)(rs:List Sl)(m:aO):Prop:=n4 rs=n4 m/\∀(i:Nat) r l,rs[i]?=dB r->m[i]?=dB l->(r,g l)∈pool
theorem bY.get{pool:List (Sl×Row)}{g:Row->Row}{rs:List Sl}{m:aO}(h:bY pool g rs m){i:Nat}(a:i<n4 m):(rs[i]'(by rw[h.1];exact a),g m[i])∈pool:=
 h.2 i _ _ (qd _) (qd _)
theorem bY.mono{pool a:List (Sl×Row)}{g:Row->Row}{rs:List Sl}{m:aO}(h:bY pool g rs m)(c:∀x∈pool,x∈a):bY a g rs m:=⟨h.1,λi r l b d=>c _ (h.2 i r l b d)⟩
theorem bY.set{pool:List (Sl×Row)}{g:Row->Row}{rs:List Sl}{m:aO}(h:bY pool g rs m)(i:Nat){r:Sl}{l:Row}(f:(r,g l)∈pool):bY pool g (rs.set i r) (m.set i l):=by
 refine⟨by simp[h.1],λk d e a c=>?_⟩;rw[List.getElem?_set]at a c;by_cases b:i=k
 .grind
 .rw[nq b]at a c;exact h.2 k d e a c
theorem bY.snoc{pool:List (Sl×Row)}{g:Row->Row}{rs:List Sl}{m:aO}(h:bY pool g rs m){r:Sl}{l:Row}(f:(r,g l)∈pool):bY pool g (rs++[r]) (m++[l]):=by
 refine⟨by simp[h.1],λk d e c a=>?_⟩;by_cases b:k<n4 rs
 .rw[qu b]at c;rw[qu (by rw[<-h.1];exact b)]at a;exact h.2 k d e c a
 .have:k=n4 rs:=o4
  subst this;rw[h.1]at a
  grind
theorem bY.nil(pool:List (Sl×Row))(g:Row->Row):bY pool g [] []:=⟨n5,λi r l h=>oo⟩
theorem aa.By{B:au}{f h:m5}{As:List HP}(H:aa B f h As)(i j:Nat){pool:List (Sl×Row)}{e:Nat}{s:Sl}{rs:List Sl}{ll:aO}(d:As[i]?=dB (ai e s 1 bv rs))(g:As[j]?=dB (fK pool))
  (a:bY pool id rs ll):gu h (λb=>b<h.size) s 1 aq ll rs:=⟨H.seq i d λ_=>rfl,a.1,λk r l m c=>H.ic j g (a.2 k r l m c)⟩
theorem Dv{B:au}{r h:m5}{As:List HP}(s f:hU)(t:UInt8)(g a:Sl)(b c:Row)(H:aa B r h (ai 5 a 1 aq c::As))(G:St B r As λh=>hY h s=dB (xJ (dB f))/\ia h f/\Rd h g 1 aq b)
  (N:n4 b=n4 c) (T:n4 b<=2^30) {K:m5->Prop} (L:∀h',aa B r h' (ai 5 a 1 aq (cH t b c)::As)->K h'):
  fP (σ:=Int) (λd O i=>
 Br (decide (d<((g.len:Nat):Int)))
 (∃F:hU,(g.ptr=dB F/\0<=d/\d<((g.len:Nat):Int))/\
 ∃E:Int,hY i (F.add (d.toNat*1))=dB (xH xO E)/\
 ∃D:hU,(a.ptr=dB D/\0<=d/\d<((a.len:Nat):Int))/\
 ∃z:Int,hY i (D.add (d.toNat*1))=dB (xH xO z)/\
 ∃o:hU,(dB s=dB o)/\
 ∃l:bJ,hY i o=dB (.pointer l)/\
 ji xR 307 #[(.pointer l),(xH xO (t.toNat:Int)),(xH xO E)] (.one (.sc (.int .u8))) i λA w=>
 (bx.ok [(D.add (d.toNat*1),(xH xO z))] w)/\
 ∃m:hU,(a.ptr=dB m/\0<=d/\d<((a.len:Nat):Int))/\
 av xR (qD 5 (xJ (dB (m.add (d.toNat*1)))) (xH xO (qc xO ((qG (qq xO) z^^^(qG (qq xO) A)).toNat:Nat)))) w λ_ h3=>
 (bx.ok [] h3)/\
 O (qc xN (d+(1:Int))) h3) (K i)) (0:Int) h:=by
 have M:g.len=n4 b:=(G.at [ai 5 a 1 aq c] H).2.2.len;refine aj (λk:Nat=>(k:Int)) (λk h'=>k<=n4 b/\aa B r h' (ai 5 a 1 aq (zl (λx y=>y^^^Gf.mul t x) (b.take k) (c.take k)++c.drop k)::As)) (λk=>n4 b-k) 0 n5 ⟨n7,v8⟩ ?_;rintro k i ⟨S,n⟩;obtain⟨R,P,J⟩:=G.at [_] n;refine ae (λe=>?_) (λe=>?_)
 .have u:k<n4 b:=n7
  have p:n4 (zl (λx y=>y^^^Gf.mul t x) (b.take k) (c.take k))=k:=oi
  have Q:n4 (zl (λx y=>y^^^Gf.mul t x) (b.take k) (c.take k)++c.drop k)=n4 c:=by rw[qo,p,qJ];omega
  refine J.aV k n5 u _ n5 ?_;have j:(zl (λx y=>y^^^Gf.mul t x) (b.take k) (c.take k)++c.drop k)[k]'n7=c[k]:=by rw[yD n7];simp[p]
  refine(n.seq 0 n5 λ_=>rfl).nA k n5 n7 _ n5 λax q=>?_;rw[j]at q⊢;refine⟨s,n5,dB f,R,(FO f t b[k] i P).I2 ?_⟩;refine⟨_,n5,⟨q,I6⟩,?_⟩;rw[lQ];refine n.set ag 0 n5 (λ_=>rfl) n5 k n5 n7 _ n5 n5 n5 λh3 I=>⟨I6,?_⟩
  rw[zu,uh N n7]at I;exact⟨k+1,o0,⟨n7,I⟩,n7⟩
 .have:k=n4 b:=n7
  subst this;rw[qf (qj _),qf n7,zj n7,qL]at n;exact L i n
def ie(f:hU)(p:Int×Int×Int)(v r a b c e d:Sl):aS:=[xJ (dB f),xH xN p.1,xH xN p.2.1,xH xN p.2.2,v,r,a,b,c,e,d]
structure AA (h:m5) (s f:hU) (wa mo:Sl) (wr mr:List Sl) (W M:aO):Prop where
 fld:hY h s=dB (xJ (dB f))
 way:hY h (s.add 9)=dB (xI wa.ptr wa.len wa.cap)
 more:hY h (s.add 10)=dB (xI mo.ptr mo.len mo.cap)
 field:ia h f
 rW:gu h (λb=>b<h.size) wa 1 aq W wr
 rM:gu h (λb=>b<h.size) mo 1 aq M mr
theorem AA.of{h:m5}{s f:hU}{p:Int×Int×Int}{v r j k m a c:Sl}{e g:List Sl}{W M:aO}(d:bV h s 261 (ie f p v r j k m a c))(l:ia h f)(n:gu h (λb=>b<h.size) a 1 aq W e)(i:gu h (λb=>b<h.size) c 1 aq M g):AA h s f a c e g W M:=
 ⟨d.cell0 n5,d.cell n5,d.cell n5,l,n,i⟩
theorem Dw{B:au}{j h:m5}{As:List HP}(s f:hU)(t:UInt8)(c:Int)(b a o u:Sl)(w0 e:Row)(r z:List Sl)(W M:aO)(H:aa B j h (ai 5 b 1 aq w0::ai 5 a 1 aq e::As))(g:St B j As λh=>AA h s f o u r z W M)
  (E:0<=c) (y:c.toNat<n4 W) (x:c.toNat<n4 M) (l:n4 (aA W c.toNat)=n4 w0) (A:n4 (aA M c.toNat)=n4 e) (G:n4 w0<=2^30) (F:n4 e<=2^30):
  ak xR 292 #[xJ (dB s),xH xO t.toNat,xH xN c,b,a] h λv h'=>v=.tuple #[]/\aa B j h' (ai 5 b 1 aq (cH t (aA W c.toNat) w0)::ai 5 a 1 aq (cH t (aA M c.toNat) e)::As):=by
 refine ts Tryz.func292 ?_ (G0 (HF (G7 (G9 [(22,aI)] [(10,12),(22,41)] G6))) (HF (G7 (G9 [(49,aI)] [(12,14),(49,68)] G6))));have S:=g.at [_,_] H;refine⟨s,n5,o,S.way,?_⟩;rw[mb y]at l⊢;rw[mb x]at A⊢;have q:=S.rW;have D:=q.len;refine q.top.kX c.toNat n7 n7 ?_;refine Dv s f t (r[c.toNat]'n7) b (W[c.toNat]) w0 H (St.mk' λh' k=>?_) l n7 λh3 i=>?_
 .have d:=g.at [_] k;exact⟨d.fld,d.field,d.rW.row _ _ _ (qd _) (qd y)⟩
 have p:=g.at [_,_] i;refine⟨s,n5,u,p.more,?_⟩;have w:=p.rM;have m:=w.len;refine w.top.kX c.toNat n7 n7 ?_;refine Dv s f t (z[c.toNat]'n7) a (M[c.toNat]) e i.nj (St.mk' λh' k=>?_) A n7 λh3 i=>⟨n5,i.nj⟩
 .have d:=g.at [_] k;exact⟨d.fld,d.field,d.rM.row _ _ _ (qd _) (qd x)⟩
def fE:aC->Bool
 |[]=>eX
 |[_]=>eX
 |a::b::r=>decide (a<b)&&fE (b::r)
theorem Hu:∀(l:aC) (a b:Int),fE (l++[a,b])=(fE (l++[a])&&decide (a<b))
 |[],a,b=>by simp[fE]
 |[c],a,b=>by simp[fE]
 |c::d::r,a,b=>by
  have:=Hu (d::r) a b;simp only[zD]at this⊢;simp only[fE,this,Bool.and_assoc]
theorem VE{l r:aC}(h:fE l=eY):fE (l++r)=eY:=by
 induction l with
 |nil=>simp[fE]at h
 |cons a t ih=>
  cases t with
  |nil=>simp[fE]at h
  |cons b t=>
   simp only[fE,vf]at h;simp only[zD,fE,vf];rcases h with h|h
   .exact .inl h
   .exact .inr (ih h)
theorem XZ(l:aC)(k:Nat)(h:k+1<n4 l):l.take (k+2)=l.take k++[l[k],l[k+1]]:=by have b:l.take (k+2)=l.take (k+1)++[l[k+1]]:=az l (k+1) h;have a:=az l k;rw[b,a,ql];rfl
def fF(n:Int)(r:aC):Bool:=r.all (λc=>decide (0<=c/\c<n))&&fE r
theorem VF{n:Int}{l r:aC}(h:fF n l=eY):fF n (l++r)=eY:=by
 simp only[fF,vf]at*;rcases h with h|h
 .left;rw[wq,h];rfl
 .right;exact VE h
theorem SC{n:Int}{r:aC}(h:0<n4 r):fF n (r.take 1)=decide (0<=r[0]/\r[0]<n):=by
 cases r with
 |nil=>simp at h
 |cons a t=>simp[fF,fE]
theorem SD{n:Int}{r:aC}{k:Nat}(h:k+1<n4 r):fF n (r.take (k+2))=(fF n (r.take (k+1))&&decide (0<=r[k+1]/\r[k+1]<n)&&decide (r[k]<r[k+1])):=by
 have b:r.take (k+2)=r.take (k+1)++[r[k+1]]:=az r (k+1) h;have a:fE (r.take (k+2))=(fE (r.take (k+1))&&decide (r[k]<r[k+1])):=by rw[XZ r k h,Hu,az r k]
 simp only[fF,a];rw[b,wq];simp only[yz,vu,xm]
 cases(r.take (k+1)).all λc=>decide (0<=c/\c<n)<;>cases fE (r.take (k+1))<;>cases decide (0<=r[k+1]/\r[k+1]<n)<;>simp
theorem un{n:Int}{r:aC}{k:Nat}(h:fF n (r.take k)=eY):fF n r=eY:=by rw[<-qz k r];exact VF h
theorem SE{n:Int}{r:aC}{k:Nat}(c:k<n4 r)(h:fF n (r.take k)=eX):
  (r[k]<0->fF n r=eY)/\(n<=r[k]->fF n r=eY)/\(∀(h0:0<k),r[k]<=r[k-1]->fF n r=eY)/\
  (0<=r[k]->r[k]<n->(∀h0:0<k,r[k-1]<r[k])->fF n (r.take (k+1))=eX):=by
 cases k with
 |zero=>
  have e:=SC (n:=n) c;refine⟨λa=>un (k:=1) ?_,λa=>un (k:=1) ?_,λh0=>n7,λa b _=>?_⟩
  .rw[e,n2 n7]
  .rw[e,n2 n7]
  .rw[e,n1 ⟨a,b⟩]
 |succ k=>
  have e:=SD (n:=n) c;refine⟨λa=>un (k:=k+2) ?_,λa=>un (k:=k+2) ?_,λh0 a=>un (k:=k+2) ?_,λa b h3=>?_⟩
  .rw[e,n2 (p:=0<=r[k+1]/\r[k+1]<n) n7];simp
  .rw[e,n2 (p:=0<=r[k+1]/\r[k+1]<n) n7];simp
  .rw[e,n2 (p:=r[k]<r[k+1]) B5];simp
  .have d:r[k]<r[k+1]:=by simpa using h3 n7
   rw[e,h,n1 (p:=0<=r[k+1]/\r[k+1]<n) ⟨a,b⟩,n1 d];rfl
def jI(n:Int)(ll:cO):Bool:=decide (0<=n/\n<=64)&&ll.all (fF n)
theorem Ya{α:Type}{f:α->Bool}{l:List α}{k:Nat}(a:k<n4 l)(h:(l.take k).all f=eX):(l.take (k+1)).all f=f l[k]:=by rw[az _ _ a,wq,h];simp
theorem acs{α:Type}{f:α->Bool}{l:List α}{k:Nat}(a:k<n4 l)(h:f l[k]=eY):l.all f=eY:=by rw[z6];exact⟨l[k],qe a,by simp[h]⟩
theorem II{p:au}(n:Int)(a:Sl)(ll:cO)(rs:List Sl)(h:m5)(z:gu h p a 1 ar ll rs)(J:n4 ll<=2^40)(j:∀l∈ll,n4 l<=2^40):
  ak xR 337 #[xH xN n,a] h λv h'=>v=xL (jI n ll)/\h'=h:=by
 refine ts Tryz.func337 ?_ (HF (I1 [] [(4,5),(9,15)] (G0 (HF (G7 (G9 [(17,aI)] [(4,5),(6,9),(17,50)] (HF (HF (G0 (G7 (HF (HF (G7 (G9 [(23,aI)] [(4,5),(7,9),(23,49)] G6))))) G6)))))) G6)));have E:=z.Fj;refine bs (λ_ h'=>h'=h/\0<=n/\n<=64) ?_ ?_
 .refine ae (λg=>⟨?_,n5⟩) (λg=>ae (λe=>⟨?_,n5⟩) λe=>⟨n5,n7,n7⟩)
  .rw[jI,n2 n7];rfl
  .rw[jI,n2 n7];rfl
 .rintro _ h' ⟨rfl,t,q⟩;have y:jI n ll=ll.all (fF n):=by rw[jI,n1 ⟨t,q⟩];rfl
  refine aj (λk:Nat=>(k:Int)) (λk h0=>h0=h'/\k<=n4 ll/\(ll.take k).all (fF n)=eX) (λk=>n4 ll-k) 0 n5 ⟨n5,n7,oo⟩ ?_;rintro i h0 ⟨rfl,K,c⟩;refine ae (λs=>?_) (λm=>?_)
  .have d:i<n4 ll:=n7
   refine z.get i n5 d λr o _=>?_;have D:=o.len;have B:=j _ (qe d);have b:fF n ll[i]=eY->jI n ll=eY:=λH=>by rw[y];exact acs d H
   refine aj (λk:Nat=>(k:Int)) (λk e=>e=h0/\k<=ll[i].length/\fF n (ll[i].take k)=eX) (λk=>ll[i].length-k) 0 n5 ⟨n5,n7,by simp[fF,fE]⟩ ?_;rintro k e ⟨rfl,I,u⟩;refine ae (λs=>?_) (λm=>?_)
   .have f:k<ll[i].length:=n7
    obtain⟨F,A,G,x⟩:=SE f u;refine o.aV k n5 f _ n5 ?_;refine ae (λg=>⟨by rw[b (F g)],n5⟩) λg=>?_;refine ae (λe=>⟨by rw[b (A e)],n5⟩) λe=>?_;rw[af (k+1),af (k-1)];refine ae (λh3=>?_) (λh3=>?_)
    .refine o.aV (k-1) n7 n7 _ n5 ?_;refine ae (λw=>⟨by rw[b (G n7 w)],n5⟩) λw=>?_;exact⟨k+1,oo,⟨n5,n7,x n7 n7 λ_=>n7⟩,n7⟩
    .exact⟨k+1,oo,⟨n5,n7,x n7 n7 λ_=>n7⟩,n7⟩
   .rw[qf n7]at u;rw[af (i+1)];exact⟨i+1,oo,⟨n5,n7,by rw[Ya d c,u]⟩,n7⟩
  .rw[qf n7]at c;exact⟨by rw[y,c],n5⟩
theorem Hv{p:au}(a:Sl)(c:List Bool)(x:Bool)(h:m5)(i:Seq h p a 1 fk c)(q:n4 c<=2^40):
  ak xR 380 #[a,xL x] h λv h'=>∃r:Int,v=xH xN r/\(0<=r↔x∈c)/\h'=h:=by
 refine ts Tryz.func380 ?_ (HF (I0 [(8,aI)] [(4,6),(8,19)]));have m:=i.len;refine aj (λk:Nat=>(k:Int)) (λk h'=>h'=h/\k<=n4 c/\x∉c.take k) (λk=>n4 c-k) 0 n5 ⟨n5,n7,oo⟩ ?_;rintro k h' ⟨rfl,o,g⟩;refine ae (λl=>?_) (λj=>?_)
 .have b:k<n4 c:=n7
  refine i.aV k n5 b _ n5 ?_;refine aT (λf=>⟨_,n5,⟨λ_=>?_,λ_=>n7⟩,n5⟩) (λd=>?_)
  .rw[eq_of_beq f];exact qe b
  .rw[af _];refine⟨k+1,oo,⟨n5,n7,?_⟩,n7⟩;rw[az _ _ b];simp only[qx,qB,not_or];exact⟨g,λe=>by rw[e]at d;simp at d⟩
 .rw[qf n7]at g;exact⟨_,n5,⟨λh=>n7,λh=>absurd h g⟩,n5⟩
theorem Dx{p:au}(a:Sl)(b:List Bool)(x:Bool)(h:m5)(c:Seq h p a 1 fk b)(d:n4 b<=2^40):
  ak xR 338 #[a,xL x] h λv h'=>v=xL (decide (x∈b))/\h'=h:=by
 refine ts Tryz.func338 ?_;refine(Hv a b x h c d).mono ?_;rintro v h' ⟨r,rfl,e,rfl⟩;refine⟨r,n5,?_,n5⟩;exact congrArg Value.bool (decide_eq_decide.2 e)
theorem OR{α:Type}{f:α->Bool}{l:List α}{k:Nat}(a:k<n4 l):(l.take (k+1)).filter f=if f l[k]then(l.take k).filter f++[l[k]]else(l.take k).filter f:=by rw[az _ _ a,zg];by_cases h:f l[k]=eX<;>simp[h]
theorem Hw{p q:au}(j:hU)(o r:Sl)(op:List Bool)(row:aC)(h:m5)(y:hY h (j.add 1)=dB (xI o.ptr o.len o.cap))(x:Seq h p o 1 fk op)(m:Seq h q r 1 ar row)
  (i:∀c∈row,0<=c/\c<n4 op) (B:n4 row<=2^40):
  ak xR 381 #[xJ (dB j),r] h λv h'=>
   v=.tuple #[xH xN ((dc op row).getLast?.getD 0),xL (n4 (dc op row)==1)]/\h'=h:=by
 refine ts Tryz.func381 ?_ (HF (HF (I0 [(6,aI),(7,aI),(12,aI)] [(6,8),(9,10),(12,27)])));have w:=m.len;refine aj (λk:Nat=>((dc op (row.take k)).getLast?.getD 0,(n4 (dc op (row.take k)):Int),(k:Int))) (λk h'=>h'=h/\k<=n4 row) (λk=>n4 row-k) 0 n5 ⟨n5,n7⟩ ?_;rintro k h' ⟨rfl,A⟩
 try dsimp only
 refine ae (λu=>?_) (λs=>?_)
 .have d:k<n4 row:=n7
  have z:=i _ (qe d);refine m.aV k n5 d _ n5 ?_;refine⟨j,n5,o,y,?_⟩;have b:row[k].toNat<n4 op:=n7
  refine x.aV row[k].toNat n7 b _ n5 ?_;have a:jY op row[k]=op[row[k].toNat]:=by simp[jY,qg,qd b]
  have g:=OR (f:=jY op) d;have t:n4 (dc op (row.take k))<=n4 row:=qV (qH _ _) t6;rw[af (k+1),af _];refine aT (λl=>?_) (λl=>?_)
  .refine⟨k+1,?_,⟨n5,n7⟩,n7⟩;have e:dc op (row.take (k+1))=dc op (row.take k)++[row[k]]:=by rw[dc,g,a,l];rfl
   simp[e]
  .refine⟨k+1,?_,⟨n5,n7⟩,n7⟩;have e:dc op (row.take (k+1))=dc op (row.take k):=by rw[dc,g,a,l];rfl
   simp[e]
 .have e:row.take k=row:=qf n7;refine⟨?_,n5⟩;simp only[e];congr 4;congr 1;rw[yE];simp;omega
structure uT (h:m5) (p:au) (a:hU) (l o u:Sl) (rows:cO) (rs:List Sl) (op us:List Bool):Prop where
 c0:hY h a=dB (xI l.ptr l.len l.cap)
 c1:hY h (a.add 1)=dB (xI o.ptr o.len o.cap)
 c2:hY h (a.add 2)=dB (xI u.ptr u.len u.cap)
 blk:p a.block
 sRows:gu h p l 1 ar rows rs
 sOp:Seq h p o 1 fk op
 sUs:Seq h p u 1 fk us
 ulen:n4 us=n4 rows
 cX:∀r∈rows,∀c∈r,0<=c/\c<n4 op
 short:∀r∈rows,n4 r<=64
theorem uT.ac{h h':m5}{p:au}{a:hU}{l o u:Sl}{rows:cO}{rs:List Sl}{op us:List Bool}(c:uT h p a l o u rows rs op us)(k:aQ p h h'):uT h' p a l o u rows rs op us:=by
 have b:∀n,(a.add n).block=a.block:=λn=>by unfold Addr.add;split<;>rfl
 exact⟨k.cell c.blk c.c0,k.cell (by rw[b];exact c.blk) c.c1,k.cell (by rw[b];exact c.blk) c.c2,c.blk,c.sRows.ac k,c.sOp.ac k,c.sUs.ac k,c.ulen,c.cX,c.short⟩
theorem Ks{p:au}(a:hU)(l o u:Sl)(rows:cO)(rs:List Sl)(op us:List Bool)(h:m5)(z:uT h p a l o u rows rs op us)(P:n4 rows<=2^40):
  ak xR 339 #[xJ (dB a)] h λv h'=>aQ (λ_=>True) h h'/\
   v=match lG rows op us with
    |some i=>.tuple #[xM #[xH xN i,xH xN (eO rows op i)],xL eX]
    |none=>.tuple #[xM #[xH xN 0,xH xN 0],xL eY]:=by
 refine ts Tryz.func339 ?_ (HF (I0 [(13,aI)] [(3,8),(13,36)]));refine uz ag n5 λb M Q s e I=>?_;have f:=z.ac (e.mono λ_ _ _=>trivial);refine⟨a,n5,l,f.c0,?_⟩;have K:=z.sRows.Fj;refine aj (λk:Nat=>(k:Int)) (λk h'=>h'=M/\k<=n4 rows/\∀j,j<k->kR rows op us j=eY) (λk=>n4 rows-k) 0 n5 ⟨n5,n7,λj q=>n7⟩ ?_;rintro k h' ⟨rfl,O,D⟩;refine ae (λL=>?_) (λG=>?_)
 .have c:k<n4 rows:=n7
  refine f.sRows.get k n5 c λr J _=>?_;refine⟨a,n5,u,f.c2,?_⟩;refine f.sUs.aV k n5 (by rw[z.ulen];exact c) _ n5 ?_;have F:us.getD k eY=us[k]'(by rw[z.ulen];exact c):=by rw[qg,qd];rfl
  have t:rows.getD k []=rows[k]:=by rw[qg,qd c];rfl
  rw[af _];refine aT (λx=>?_) (λx=>?_)
  .refine⟨k+1,oo,⟨n5,n7,λj q=>?_⟩,n7⟩;rcases q8.1 q with q|rfl
   .exact D j q
   .simp only[kR,F,x];rfl
  .refine(Hw a o r op rows[k] h' f.c1 f.sOp J (z.cX _ (qe c)) (qV (z.short _ (qe c)) n7)).I2 ⟨(_,_),n5,?_⟩;have g:kR rows op us k=(n4 (dc op rows[k])==1):=by simp only[kR,F,x,t];rfl
   refine aT (λy=>?_) (λy=>?_)
   .have m:kR rows op us k=eX:=g.trans y;refine sn ag s n5 _ n5 n5 n5 (qj _) λh3 d w A=>?_;refine⟨(_,_),d.aw _ n5,e.then w (λH E _=>n7),?_⟩;have B:eO rows op k=(dc op rows[k]).getLast?.getD 0:=by unfold eO;rw[t]
    rw[lG,Uj c D m];show _=Value.tuple #[xM #[xH xN k,xH xN (eO rows op k)],xL eX];rw[B];rfl
   .have m:kR rows op us k=eY:=g.trans y;refine⟨k+1,oo,⟨n5,n7,λj q=>?_⟩,n7⟩;rcases q8.1 q with q|rfl
    .exact D j q
    .exact m
 .refine sn ag s n5 _ n5 n5 n5 (qj _) λh3 d w A=>?_;refine⟨(_,_),d.aw _ n5,e.then w (λH E _=>n7),?_⟩;rw[lG,Ui λj q=>D j n7]
theorem FT{l:List Bool}{i:Nat}(h:i<n4 l):l.getD i eY=l[i]:=by rw[qg,qd h];rfl
theorem Qp(op:List Bool)(a:aC):∀k,-1<=iP op a k/\iP op a k<k
 |0=>by simp[iP]
 |k+1=>by
  have:=Qp op a k;unfold iP;split<;>omega
theorem Ku{p:au}(a:hU)(l o u:Sl)(rows:cO)(rs:List Sl)(op us:List Bool)(h:m5)(t:uT h p a l o u rows rs op us)(hs:n4 rows<=2^30)(a6:n4 op<=2^30):
  ak xR 340 #[xJ (dB a)] h λv h'=>aQ (λ_=>True) h h'/\v=xH xN (iw rows op us):=by
 refine ts Tryz.func340 ?_ (HF (HF (G0 (HF (G7 (G9 [(22,aI)] [(4,6),(7,8),(22,49)] (HF (HF (G0 (G7 (HF (HF (G7 (G9 [(29,aI)] [(7,8),(29,48)] G6))))) G6)))))) (HF (I0 [(8,aI),(54,aI)] [(8,11),(54,77)])))));refine⟨a,n5,o,t.c1,?_⟩;have a2:=t.sOp.len;refine Qw.run_make (f:=ar) ag ⟨_,_,n5,n5,n5,n5,n5,n5⟩ n8 0 n5 n5 op.length op.length n7 n7 (qj _) n7 λs h1 O al a8 z a7=>?_;have ab:=t.ac (z.mono λ_ _ _=>trivial);refine⟨a,n5,l,ab.c0,?_⟩;have a3:=t.sRows.Fj;have D:∀b,s.on b->b=h.size:=by rintro b ⟨o',N⟩;rw[al]at N;cases N;rfl
 have Y:∀k,n4 ((λ_ r=>r:Nat->aC->aC) k (rows.getD k []))<=64:=λk=>by
  show(rows.getD k []).length<=64;by_cases V:k<n4 rows
  .rw[qg,qd V];exact t.short _ (qe V)
  .rw[qg,zf n7];simp
 let d:=lh (λ_ r=>r) rows us (qh op.length 0);have K:∀k,n4 (d k)=n4 op:=λk=>by rw[Bb];simp
 have ad:∀k,∀x∈d k,0<=x/\x<=64*k:=λk x hx=>LZ (λ_ r=>r) Y k x hx;refine aj (λk:Nat=>(k:Int)) (λk h'=>aQ (λb=>b<h.size) h h'/\k<=n4 rows/\Own h' 3 s 1 ar (d k)) (λk=>n4 rows-k) 0 n5 ⟨z.mono λ_ _ _=>trivial,n7,O⟩ ?_;rintro i h2 ⟨E,hi,y⟩;have w:uT h2 p a l o u rows rs op us:=t.ac (E.mono λb e _=>e);refine ae (λH=>?_) (λQ=>?_)
 .have g:i<n4 rows:=n7
  have I:rows.getD i []=rows[i]:=by rw[qg,qd g];rfl
  have hu:us.getD i eY=us[i]'(by rw[t.ulen];exact g):=FT _;refine w.sRows.get i n5 g λr hr Z=>?_;have a0:=hr.len;have R:=t.short _ (qe g);refine aj (λk:Nat=>(k:Int)) (λk h'=>aQ (λb=>b<h.size) h h'/\k<=rows[i].length/\Own h' 3 s 1 ar (if us.getD i eY then d i else kw (d i) (rows[i].take k))) (λk=>rows[i].length-k) 0 n5
   ⟨E,n7,by simpa[kw]using y⟩ ?_
  rintro j h3 ⟨A,hj,c⟩;have q:uT h3 p a l o u rows rs op us:=t.ac (A.mono λb e _=>e);refine ae (λH=>?_) (λQ=>?_)
  .have G:j<rows[i].length:=n7
   have ap:=q.sRows.row i r _ Z (qd g);have hc:=t.cX _ (qe g) _ (qe G);refine ap.aV j n5 G _ n5 ?_;refine⟨a,n5,u,q.c2,?_⟩;refine q.sUs.aV i n5 (by rw[t.ulen];exact g) _ n5 ?_;rw[af (j+1)];refine aH (λe=>?_) (λe=>?_)
   .rw[hu,e]at c;simp only[zc,if_false]at c;have L:n4 (kw (d i) (rows[i].take j))=n4 op:=by rw[BL,K]
    have m:rows[i][j].toNat<n4 (kw (d i) (rows[i].take j)):=by rw[L];omega
    have a5:=CK (r:=rows[i].take j) (ad i) _ (qe m);have a1:n4 (rows[i].take j)<=64:=t6
    have ah:Seq h3 (λ_=>True) s 1 ar (kw (d i) (rows[i].take j)):=c.seq (λ_=>rfl) λ_ _=>trivial;refine ah.aV rows[i][j].toNat n7 m _ n5 ?_;rw[af _];refine c.set ag (λ_=>rfl) n5 rows[i][j].toNat n7 m _ n5 n5 n5 λh4 F U ax=>?_;refine⟨j+1,oo,⟨A.then U (λb e _=>λao=>by have:=D b ao;omega),n7,?_⟩,n7⟩;rw[hu,e];simp only[zc,if_false];rw[az _ _ G,NY,getD_lt m];exact F
   .refine⟨j+1,oo,⟨A,n7,?_⟩,n7⟩;rw[hu,e]at c⊢;exact c
  .rw[af (i+1)];rw[qf n7]at c;refine⟨i+1,oo,⟨A,n7,?_⟩,n7⟩;have:d (i+1)=if us.getD i eY then d i else kw (d i) rows[i]:=by show lh _ _ _ _ (i+1)=_;rw[lh];simp only[I];rfl
   rw[this];exact c
 .have X:i=n4 rows:=n7
  subst X;refine⟨a,n5,o,w.c1,?_⟩;have P:Seq h2 (λ_=>True) s 1 ar (d rows.length):=y.seq (λ_=>rfl) λ_ _=>trivial;have ay:=K rows.length;refine aj (λk:Nat=>(iP op (d rows.length) k,(k:Int))) (λk h'=>h'=h2/\k<=n4 op) (λk=>n4 op-k) 0 n5 ⟨n5,n7⟩ ?_;rintro k h3 ⟨rfl,V⟩
  try dsimp only
  have a4:=Qp op (d rows.length) k;refine ae (λH=>?_) (λQ=>?_)
  .have M:k<n4 op:=n7
   refine w.sOp.aV k n5 M _ n5 ?_;rw[af (k+1)];have B:op.getD k eY=op[k]:=FT M;refine aT (λe=>?_) (λe=>?_)
   .refine ae (λJ=>?_) (λam=>?_)
    .refine⟨k+1,?_,⟨n5,n7⟩,n7⟩;rw[iP,m6 (by rw[B,e,n1 J];rfl)];rfl
    .refine P.aV k n5 n7 _ n5 ?_;refine P.aV (iP op (d rows.length) k).toNat n7 n7 _ n5 ?_;have e1:(d rows.length).getD k 0=(d rows.length)[k]:=getD_lt;have e2:(d rows.length).getD (iP op (d rows.length) k).toNat 0=(d rows.length)[(iP op (d rows.length) k).toNat]:=getD_lt;refine ae (λS=>?_) (λW=>?_)
     .refine⟨k+1,?_,⟨n5,n7⟩,n7⟩;rw[iP,m6 (by rw[B,e,e1,e2,n1 S];simp)];rfl
     .refine⟨k+1,?_,⟨n5,n7⟩,n7⟩;rw[iP,nq (by rw[B,e,e1,e2,n2 W,n2 am];simp)];rfl
   .refine⟨k+1,?_,⟨n5,n7⟩,n7⟩;rw[iP,nq (by rw[B,e];simp)];rfl
  .have T:k=n4 op:=n7
   subst T;exact⟨E.mono λb e _=>e,n5⟩
def fX(p:Int×Int):aS:=[xH xN p.1,xH xN p.2]
theorem Yb:∀x,∀c∈fX x,c.oneCell'=eX:=by intro x c a;simp only[fX,qN,List.not_mem_nil,or_false]at a;rcases a with rfl|rfl<;>rfl
def Bz(n:Int)(rows:cO):List (Int×Int)×aC×aC:=
 if jI n rows then((eI n.toNat rows).steps,(eI n.toNat rows).dead,fJ (eI n.toNat rows).used rows.length)else([],[],[])
def act(c h:m5)(v:Value)(ok:Bool)(a:List (Int×Int))(b e:aC):Prop:=
 ∃s d f:Sl,v=.tuple #[xM #[s,d,f],xL ok]/\
  Sp c h [ai 326 s 2 fX a,ai 3 d 1 ar b,ai 3 f 1 ar e]
theorem aaq{α β γ:Type}{t h:m5}{c:Nat->Nat}{s q j n l g:Nat}{p:α->aS}{k:β->aS}{o:γ->aS}{u v r:Sl}{l1:List α}{l2:List β}{m:List γ}(w:mv t h c)(e:dQ h c 6 s u n p l1)(f:dQ h c 7 q v l k l2)(a3:dQ h c 8 j r g o m):
  Sp t h [ai s u n p l1,ai q v l k l2,ai j r g o m]:=by
 refine⟨λ_ h=>h,w.ac,λb=>c b-5,λb a=>?_,λi A d=>?_⟩
 .have:=w.aW b a;(try dsimp only);omega
 .match i,d with
  |0,d=>simp at d;subst d;exact⟨e.own,λb a=>⟨e.own.lt a,by have:=e.aW b a;(try dsimp only);omega⟩⟩
  |1,d=>simp at d;subst d;exact⟨f.own,λb a=>⟨f.own.lt a,by have:=f.aW b a;(try dsimp only);omega⟩⟩
  |2,d=>simp at d;subst d;exact⟨a3.own,λb a=>⟨a3.own.lt a,by have:=a3.aW b a;(try dsimp only);omega⟩⟩
  |i+3,d=>simp at d
theorem aar{n:Int}{rows:cO}(h:jI n rows=eX):0<=n/\n<=64/\∀r∈rows,fF n r=eX:=by simp only[jI,qC,decide_eq_true_eq,qP]at h;exact⟨h.1.1,h.1.2,h.2⟩
theorem FU{n:Int}{r:aC}(h:fF n r=eX):∀c∈r,0<=c/\c<n:=by simp only[fF,qC,qP,decide_eq_true_eq]at h;exact h.1
theorem JV:∀{r:aC} {a n:Int},fE r=eX->(∀c∈r,a<=c/\c<n)->(n4 r:Int)<=max 0 (n-a)
 |[],a,n,_,_=>oi
 |[x],a,n,_,h=>by have:=h x oo;simp;omega
 |x::y::t,a,n,hr,h=>by
  simp only[fE,qC,decide_eq_true_eq]at hr;have f:=h x oo;have g:=h y oo;have e:∀(l:aC) (z:Int),fE (z::l)=eX->∀c∈l,z<c:=by
   intro l
   induction l with
   |nil=>intro z _ c b;simp at b
   |cons w t ih=>
    intro z d c b;simp only[fE,qC,decide_eq_true_eq]at d;rcases qN.1 b with rfl|b
    .exact d.1
    .have:=ih w d.2 c b;omega
  have:=JV (r:=y::t) (a:=x+1) (n:=n) hr.2 λc b=>⟨by
   rcases qN.1 b with rfl|b
   .omega
   .have:=e t y hr.2 c b;omega,(h c (by simp only[qN]at b⊢;exact .inr b)).2⟩
  simp only[q7]at this⊢;omega
theorem VG{n:Int}{r:aC}(h:fF n r=eX)(c:n<=64):n4 r<=64:=by have b:=FU h;simp only[fF,qC]at h;have:=JV (a:=0) h.2 b;omega
theorem Yc(n k:Nat)(h:k<n):(qh k eX++qh (n-k) eY).set k eX=qh (k+1) eX++qh (n-(k+1)) eY:=by
 have e:n-k=(n-(k+1))+1:=n7
 rw[qZ _ _ oo,e,List.replicate_succ];simp only[List.length_replicate,zd,zu];rw[List.replicate_succ' (n:=k)];simp
theorem Nh{h g:m5}{c:Nat->Nat}{a:hU}{l o u:Sl}{rows:cO}{rs:List Sl}{op us:List Bool}(m:gu g (λb=>b<g.size) l 1 ar rows rs)(k:mv g h c)(e:kH h c 2 a 364 [l,o,u])
  (p:dQ h c 3 4 o 1 fk op) (q:dQ h c 4 4 u 1 fk us) (f:n4 us=n4 rows) (n:n4 op<=64) (j:∀r∈rows,fF op.length r=eX):uT h (λb=>b<h.size) a l o u rows rs op us:=
 ⟨e.box.cell0 n5,e.box.cell n5,e.box.cell n5,e.box.lt,(m.ac k.ac).mono λb i=>qS i k.ac.1,p.Rh λ_=>rfl,q.Rh λ_=>rfl,f,λr d=>FU (j r d),λr d=>VG (j r d) n7⟩
theorem VH(n:Int)(l:Sl)(rows:cO)(rs:List Sl)(h:m5)(hl:gu h (λb=>b<h.size) l 1 ar rows rs)(hs:n4 rows<=2^30)(c9:∀r∈rows,n4 r<=2^40):
  ak xR 287 #[xH xN n,l] h λv h'=>act h h' v (jI n rows) (Bz n rows).1 (Bz n rows).2.1 (Bz n rows).2.2:=by
 refine ts Tryz.func287 ?_ (HF (.scope 1 [] [(5,6),(9,14),(42,108)] [G6,(.join [(6,YZ)] [(6,7),(19,27)] G6),(.two G6 (.inn (.loop [(32,aI)] [(7,8),(32,42)] G6))),G6] [(.two G6 (.two (.join [] [(9,12),(48,88)] G6) G6))] [(0,[(.two (.two G6 (.inn (.loop [(93,aI)] [(12,14),(93,107)] G6))) G6)])])) [(3,(.y [0,1,3,4] (.l [2,5,6,7,8]) (.l [5,2,6,7,8])))];have e0:=hl.Fj;refine sp ag (mv.refl h) 1 n5 λa1 h1 b7 d6=>?_;have F:=(mv.refl h).keep (m:=1) d6 n8;refine(II n l rows rs h1 (hl.ac F.ac) n7 c9).mono ?_;rintro v h2 ⟨rfl,rfl⟩;refine⟨_,n5,?_⟩;refine aH (λhr=>?_) (λhr=>?_)
 .refine b7.iB ag n5 _ n5 n5 n5 (qj _) λh3 ay D=>?_;refine⟨(⟨eH,0,0⟩,⟨eH,0,0⟩,⟨eH,0,0⟩),ay.box.aw _ n5,?_⟩;refine⟨⟨eH,0,0⟩,⟨eH,0,0⟩,⟨eH,0,0⟩,by rw[hr],?_⟩;simp only[Bz,hr,zc,if_false];exact(((Sp.zip (F.keep (m:=1) D n8).ac).nil 326 2 fX).nil 3 1 ar).nil 3 1 ar
 .obtain⟨ep,e2,cd⟩:=aar hr;obtain⟨N,rfl⟩:∃N:Nat,n=N:=⟨n.toNat,n7⟩
  have hN:N<=64:=n7
  refine bs (λs h'=>∃c a o u,s=dB a/\mv h h' c/\kH h' c 1 a1 259 [xI eH 0 0,xI eH 0 0,xI eH 0 0]/\kH h' c 2 a 364 [l,xI o.ptr o.len o.cap,xI u.ptr u.len u.cap]/\
   dQ h' c 3 4 o 1 fk (qh N eY)/\dQ h' c 4 4 u 1 fk (qh rows.length eY)) ⟨?_,?_⟩ ?_
  .refine uA ag F 3 fk ⟨_,_,n5,n5,n5,n5,n5,n5⟩ n8 eY n5 n5 N n5 n5 n7 λo h3 ho D=>?_;refine⟨I6,?_⟩;refine uA ag (F.keep (m:=3) D n8) 4 fk ⟨_,_,n5,n5,n5,n5,n5,n5⟩ n8 eY n5 n5 rows.length n7 n7 n7 λu h4 hu H=>?_;refine⟨I6,?_⟩;refine LB _ ((F.keep (m:=3) D n8).keep (m:=4) H n8) 2 λa h5 ha B=>?_;exact⟨I6,_,a,o,u,n5,((F.keep D n8).keep H n8).keep B n8,((b7.keep D n8).keep H n8).keep B n8,ha,(ho.keep H n8).keep B n8,hu.keep B n8⟩
  .refine uA ag F 4 fk ⟨_,_,n5,n5,n5,n5,n5,n5⟩ n8 eY n5 n5 rows.length n7 n7 n7 λu h3 hu D=>?_;refine⟨I6,?_⟩;refine uA ag (F.keep (m:=4) D n8) 3 fk ⟨_,_,n5,n5,n5,n5,n5,n5⟩ n8 eY n5 n5 N n5 n5 n7 λo h4 ho H=>?_;refine⟨I6,?_⟩;refine LB _ ((F.keep (m:=4) D n8).keep (m:=3) H n8) 2 λa h5 ha B=>?_;exact⟨I6,_,a,o,u,n5,((F.keep D n8).keep H n8).keep B n8,((b7.keep D n8).keep H n8).keep B n8,ha,ho.keep B n8,(hu.keep H n8).keep B n8⟩
  .rintro s h3 ⟨c,a,o,u,rfl,cp,br,ay,a0,c7⟩;refine⟨a,n5,o,ay.box.cell n5,?_⟩;have ew:o.len=N:=by rw[a0.own.len];simp
   refine aj (λt:Nat×(Nat->Nat)=>(t.1:Int)) (λt h'=>t.1<=N/\mv h h' t.2/\kH h' t.2 1 a1 259 [xI eH 0 0,xI eH 0 0,xI eH 0 0]/\kH h' t.2 2 a 364 [l,o,u]/\
    dQ h' t.2 3 4 o 1 fk (qh t.1 eX++qh (N-t.1) eY)/\dQ h' t.2 4 4 u 1 fk (qh rows.length eY)) (λt=>N-t.1) (0,c) n5 ⟨oo,cp,br,ay,by simpa using a0,c7⟩ ?_
   rintro⟨k,c⟩ h4 ⟨hk,bb,b9,a9,bd,b0⟩;dsimp only at*;refine ae (λdr=>?_) (λeh=>?_)
   .have ea:k<N:=n7
    refine⟨a,n5,o,a9.box.cell n5,?_⟩;refine bd.set ag (λ_=>rfl) n5 k n5 oi eX n5 n5 n5 λh5 bq B=>?_;rw[af _];rw[Yc _ _ ea]at bq;exact⟨(k+1,_),oo,⟨oi,bb.keep B n8,b9.keep B n8,a9.keep B n8,bq,b0.keep B n8⟩,oi⟩
   .have d3:k=N:=n7
    subst d3;simp only[zd,List.replicate_zero,qL]at bd;refine sp ag bb 5 n5 λap h5 dk B=>?_;have du:=bb.keep (m:=5) B n8;have eg:=b9.keep (m:=5) B n8;have ef:=a9.keep (m:=5) B n8;have bq:=bd.keep (m:=5) B n8;have d8:=b0.keep (m:=5) B n8;clear bb b9 a9 bd b0 cp br ay a0 c7;generalize grow c h4.size 5=c5 at*;refine aj (τ:=Nat×List Bool×List Bool×(List (Int×Int))×aC×(Nat->Nat)×Sl×Sl) (λ_=>())
     (λ⟨f,op,us,st,dd,c,ss,ds⟩ h'=>n4 op=k/\us.length=n4 rows/\op.count eX<=f/\f<=k/\st.length<=k-f/\dd.length<=k-f/\
      (∃r,cz rows f op us=r/\eI k rows=⟨st++r.steps,dd++r.dead,r.used⟩)/\mv h h' c/\
      kH h' c 1 a1 259 [xI eH 0 0,xI eH 0 0,xI eH 0 0]/\kH h' c 2 a 364 [l,o,u]/\
      dQ h' c 3 4 o 1 fk op/\dQ h' c 4 4 u 1 fk us/\
      kH h' c 5 ap 259 [ss,ds,xI eH 0 0]/\dQ h' c 6 326 ss 2 fX st/\dQ h' c 7 3 ds 1 ar dd)
     (λt=>t.1) (k,qh k eX,qh rows.length eY,[],[],c5,⟨eH,0,0⟩,⟨eH,0,0⟩) n5
     ⟨oo,oo,oo,oo,oo,oo,⟨_,n5,by simp[eI]⟩,du,eg,ef,bq,d8,dk,dQ.nil _ _ _ _ _ _,dQ.nil _ _ _ _ _ _⟩ ?_
    rintro⟨f,op,us,st,dd,c,ss,ds⟩ h6 ⟨al,K,ek,e1,el,en,⟨r,am,bk⟩,M,a4,T,ab,Q,O,L,J⟩;dsimp only at*;have I:∀r∈rows,fF op.length r=eX:=by rw[al];exact cd
    have a5:=Nh hl M T ab Q K n7 I;refine⟨a,n5,o,T.box.cell n5,?_⟩;refine(Dx o op eX h6 (ab.Rh λ_=>rfl) n7).mono ?_;rintro v h7 ⟨rfl,rfl⟩;refine⟨_,n5,?_⟩;refine aH (λhc=>?_) (λhc=>?_)
    .have ad:op.contains eX=eY:=by simpa using hc
     have br:r=⟨[],[],us⟩:=by rw[<-am];exact uJ ad f
     subst br;simp only[qL]at bk;refine⟨a,n5,u,T.box.cell n5,?_⟩;have es:u.len=n4 rows:=by rw[Q.own.len,K]
     refine aj (λt:Nat×(Nat->Nat)×Sl=>(t.1:Int)) (λ⟨j,c,fs⟩ h'=>j<=n4 rows/\mv h h' c/\
      kH h' c 1 a1 259 [xI eH 0 0,xI eH 0 0,xI eH 0 0]/\dQ h' c 4 4 u 1 fk us/\
      kH h' c 5 ap 259 [ss,ds,fs]/\dQ h' c 6 326 ss 2 fX st/\dQ h' c 7 3 ds 1 ar dd/\dQ h' c 8 3 fs 1 ar (fJ us j)) (λt=>n4 rows-t.1) (0,c,⟨eH,0,0⟩) n5
      ⟨oo,M,a4,Q,O,L,J,dQ.nil _ _ _ _ _ _⟩ ?_
     rintro⟨j,c,fs⟩ h8 ⟨hj,bl,cf,b2,Y,a8,ah,ao⟩;dsimp only at*;refine ae (λdr=>?_) (λeh=>?_)
     .have et:j<n4 rows:=n7
      have eq:n4 (fJ us j)<=j:=Ed us j;refine(b2.Rh λ_=>rfl).aV j n5 n7 _ n5 ?_;have c2:us.getD j eY=us[j]:=FT n7;rw[af _];refine aH (λhb=>?_) (λhb=>?_)
      .refine⟨fs,Y.box.cell n5,?_⟩;refine Fl ag bl 9 ar ⟨_,_,n5,n5,n5,n5,n5,n5⟩ n5 [(j:Int)] n5 (zE n5) n5 λv h9 ec p=>?_;refine(ao.keep (m:=9) p n8).append ag ⟨_,_,n5,n5,n5,n5,n5,n5⟩ ⟨_,_,n5,n5⟩ n5 n8 (λ_=>rfl) (ec.seq λ_=>rfl) db oi λed ca b3 g=>?_;refine((Y.keep (m:=9) p n8).keep (m:=8) g n8).store ag n5 2 _ n5 n5 n5 (zE n5) λc8 b5 d=>?_;refine⟨(j+1,_,ed),oo,⟨oi,((bl.keep p n8).keep g n8).keep d n8,((cf.keep p n8).keep g n8).keep d n8,((b2.keep p n8).keep g n8).keep d n8,b5,
        ((a8.keep p n8).keep g n8).keep d n8,((ah.keep p n8).keep g n8).keep d n8,?_⟩,oi⟩
       have e:fJ us (j+1)=fJ us j++[(j:Int)]:=by rw[fJ,c2,hb];rfl
       rw[e];exact b3.keep d n8
      .have e:fJ us (j+1)=fJ us j:=by rw[fJ,c2,hb];rfl
       exact⟨(j+1,c,fs),oo,⟨oi,bl,cf,b2,Y,a8,ah,by rw[e];exact ao⟩,oi⟩
     .have dx:j=n4 rows:=n7
      subst dx;refine⟨(ss,ds,fs),Y.box.aw _ n5,?_⟩;refine cf.iB ag n5 _ n5 n5 n5 (qj _) λh9 dy p=>?_;refine⟨(ss,ds,fs),dy.box.aw _ n5,?_⟩;refine⟨ss,ds,fs,by rw[hr],?_⟩;simp only[Bz,hr,if_true,qi,bk];exact aaq (bl.keep (m:=1) p n8) (a8.keep (m:=1) p n8) (ah.keep (m:=1) p n8) (ao.keep (m:=1) p n8)
    .have ad:op.contains eX=eX:=by simpa using hc
     obtain⟨f',rfl⟩:∃f',f=f'+1:=by obtain⟨j,hj,e⟩:=CL ad;have:=jy e;exact⟨f-1,n7⟩
     refine aE ?_;refine(Ks a l o u rows rs op us h7 a5 n7).mono ?_;rintro v h8 ⟨A,rfl⟩;have A:=A.aW c 9;cases hst:lG rows op us with
     |some i=>
      obtain⟨hi,ei⟩:=oI hst;obtain⟨er,d4,a0⟩:=tO ei;have c0:rows.getD i []=rows[i]:=by rw[qg,qd hi];rfl
      have eo:=FU (I _ (qe hi)) _ (c0▸d4);refine⟨((i,eO rows op i),eX),n5,?_⟩
      try dsimp only
      refine sp ag (M.keep (m:=9) A n8) 9 n5 λax h9 has p=>?_;refine has.iB ag n5 _ n5 n5 n5 (qj _) λca S g=>?_;refine Fi n5 ?_;have G:=((M.keep (m:=9) A n8).keep (m:=9) p n8).keep (m:=9) g n8;have a3:=((a4.keep (m:=9) A n8).keep (m:=9) p n8).keep (m:=9) g n8;have Z:=((T.keep (m:=9) A n8).keep (m:=9) p n8).keep (m:=9) g n8;have X:=((ab.keep (m:=9) A n8).keep (m:=9) p n8).keep (m:=9) g n8;have W:=((Q.keep (m:=9) A n8).keep (m:=9) p n8).keep (m:=9) g n8;have E:=((O.keep (m:=9) A n8).keep (m:=9) p n8).keep (m:=9) g n8;have R:=((L.keep (m:=9) A n8).keep (m:=9) p n8).keep (m:=9) g n8;have U:=((J.keep (m:=9) A n8).keep (m:=9) p n8).keep (m:=9) g n8;clear M a4 T ab Q O L J A p has a5;generalize grow (grow (grow c h7.size 9) h8.size 9) h9.size 9=c10 at*;refine⟨ss,E.box.cell0 n5,(_,_),S.box.aw _ n5,?_⟩
      try dsimp only
      refine Fl ag G 10 fX ⟨_,_,n5,n5,n5,n5,n5,n5⟩ n5 [((i:Int),eO rows op i)] n5 (zE n5) n5 λv c8 cr d=>?_;refine(R.keep (m:=10) d n8).append ag ⟨_,_,n5,n5,n5,n5,n5,n5⟩ ⟨_,_,n5,n5⟩ n5 n8 (λ_=>rfl) (cr.seq λ_=>rfl) Yb oi λd5 d9 b6 q=>?_;refine((E.keep (m:=10) d n8).keep (m:=6) q n8).iB ag n5 _ n5 n5 n5 (zE n5) λd0 b1 w=>?_;have P:=((S.keep (m:=10) d n8).keep (m:=6) q n8).keep (m:=5) w n8;have a6:=((Z.keep (m:=10) d n8).keep (m:=6) q n8).keep (m:=5) w n8;have c1:=((W.keep (m:=10) d n8).keep (m:=6) q n8).keep (m:=5) w n8;have c4:=((X.keep (m:=10) d n8).keep (m:=6) q n8).keep (m:=5) w n8;refine⟨a,n5,u,a6.box.cell n5,(i:Int),P.box.cell0 n5,a,n5,o,a6.box.cell n5,eO rows op i,P.box.cell n5,?_⟩;refine c1.set ag (λ_=>rfl) n5 i n5 n7 eX n5 n5 n5 λd7 cs z=>?_;have a7:=P.keep (m:=4) z n8;have V:=a6.keep (m:=4) z n8;refine⟨⟨a7.box.cell n5,I6⟩,?_⟩;refine(c4.keep (m:=4) z n8).set ag (λ_=>rfl) n5 (eO rows op i).toNat n7 n7 eY n5 n5 n5 λd1 a2 x=>?_;have ej:=a7.keep (m:=3) x n8;have cq:=V.keep (m:=3) x n8;refine⟨I6,?_⟩;have da:=jy (op:=op) (j:=(eO rows op i).toNat) a0;rw[mB ad hst]at am;refine⟨(f',op.set (eO rows op i).toNat eY,us.set i eX,st++[((i:Int),eO rows op i)],dd,_,d5,ds),n5,⟨by simp[al],by simp[K],n9,n9,oi,n9,⟨_,n5,?_⟩,
       ((((G.keep d n8).keep q n8).keep w n8).keep z n8).keep x n8,
       ((((a3.keep d n8).keep q n8).keep w n8).keep z n8).keep x n8,
       cq,a2,cs.keep x n8,(b1.keep z n8).keep x n8,((b6.keep w n8).keep z n8).keep x n8,
       ((((U.keep d n8).keep q n8).keep w n8).keep z n8).keep x n8⟩,n9⟩
      rw[bk,<-am];simp
     |none=>
      have d2:=rD (rows:=rows) (us:=us) ad;refine⟨((0,0),eY),n5,?_⟩
      try dsimp only
      refine sp ag (M.keep (m:=9) A n8) 9 n5 λax h9 has p=>?_;refine has.iB ag n5 _ n5 n5 n5 (qj _) λca S g=>?_;refine rV n5 ?_;have G:=((M.keep (m:=9) A n8).keep (m:=9) p n8).keep (m:=9) g n8;have a3:=((a4.keep (m:=9) A n8).keep (m:=9) p n8).keep (m:=9) g n8;have Z:=((T.keep (m:=9) A n8).keep (m:=9) p n8).keep (m:=9) g n8;have X:=((ab.keep (m:=9) A n8).keep (m:=9) p n8).keep (m:=9) g n8;have W:=((Q.keep (m:=9) A n8).keep (m:=9) p n8).keep (m:=9) g n8;have E:=((O.keep (m:=9) A n8).keep (m:=9) p n8).keep (m:=9) g n8;have R:=((L.keep (m:=9) A n8).keep (m:=9) p n8).keep (m:=9) g n8;have U:=((J.keep (m:=9) A n8).keep (m:=9) p n8).keep (m:=9) g n8;clear M a4 T ab Q O L J A p has a5;generalize grow (grow (grow c h7.size 9) h8.size 9) h9.size 9=c10 at*;have a5:=Nh hl G Z X W K n7 I;refine(Ku a l o u rows rs op us ca a5 n7 n7).mono ?_;rintro v c8 ⟨d,rfl⟩;have d:=d.aW c10 9;refine⟨_,n5,?_⟩;refine⟨ds,(E.keep (m:=9) d n8).box.cell n5,?_⟩;refine Fl ag (G.keep (m:=9) d n8) 10 ar ⟨_,_,n5,n5,n5,n5,n5,n5⟩ n5 [iw rows op us] n5 (zE n5) n5 λv d9 c6 q=>?_;refine((U.keep (m:=9) d n8).keep (m:=10) q n8).append ag ⟨_,_,n5,n5,n5,n5,n5,n5⟩ ⟨_,_,n5,n5⟩ n5 n8 (λ_=>rfl) (c6.seq λ_=>rfl) db oi λeb d0 b4 w=>?_;refine(((E.keep (m:=9) d n8).keep (m:=10) q n8).keep (m:=7) w n8).store ag n5 1 _ n5 n5 n5 (zE n5) λd7 cc z=>?_;have V:=(((Z.keep (m:=9) d n8).keep (m:=10) q n8).keep (m:=7) w n8).keep (m:=5) z n8;have cn:=(((X.keep (m:=9) d n8).keep (m:=10) q n8).keep (m:=7) w n8).keep (m:=5) z n8;refine⟨a,n5,o,V.box.cell n5,?_⟩;refine cn.set ag (λ_=>rfl) n5 (iw rows op us).toNat n7 n7 eY n5 n5 n5 λd1 a2 x=>?_;have da:=jy (op:=op) (j:=(iw rows op us).toNat) d2.2.2;rw[oc ad hst]at am;refine⟨(f',op.set (iw rows op us).toNat eY,us,st,dd++[iw rows op us],_,ss,eb),n5,⟨by simp[al],K,n9,n9,n9,oi,⟨_,n5,?_⟩,
       ((((G.keep d n8).keep q n8).keep w n8).keep z n8).keep x n8,
       ((((a3.keep d n8).keep q n8).keep w n8).keep z n8).keep x n8,
       V.keep x n8,a2,((((W.keep d n8).keep q n8).keep w n8).keep z n8).keep x n8,cc.keep x n8,
       ((((R.keep d n8).keep q n8).keep w n8).keep z n8).keep x n8,
       (b4.keep z n8).keep x n8⟩,n9⟩
      rw[bk,<-am];simp
theorem Hx(pool:List (Sl×Row))(c:(⟨eH,0,0⟩,[])∈pool)(n:Nat):bY pool id (qh n ⟨eH,0,0⟩) (qh n []):=
 ⟨oo,λi r l a b=>by
  rw[wD]at a b;split at a
  .rename_i d;rw[m6 d]at b;cases a;cases b;exact c
  .cases a⟩
theorem aa.aas{B:au}{b h:m5}{As:List HP}(H:aa B b h As)(i:Nat){pool:List (Sl×Row)}(c:As[i]?=dB (fK pool)):aa B b h (As.set i (fK ((⟨eH,0,0⟩,[])::pool))):=
 H.dW i c λq d x a=>by
  rcases qN.1 a with rfl|a
  .exact Seq.nil _ _ _ _ _ _
  .exact d x a
structure SF (h:m5) (f:hU) (r st dd lf:Sl) (rr:List (Sl×Sl)) (R:List fi) (ST:List (Int×Int)) (D L:aC):Prop where
 field:ia h f
 rest:fO kd 2 qv h r rr R
 steps:Rd h st 2 fX ST
 dead:Rd h dd 1 ar D
 left:Rd h lf 1 ar L
abbrev SA(s:hU)(a:aS):HP:=an s 261 a
abbrev HA(s:Sl)(rs:List Sl):HP:=ai 41 s 1 bv rs
abbrev RA(s:Sl)(l:Row):HP:=ai 5 s 1 aq l
theorem JW{R:cO}:∀{l1 l2:List (Int×Int)} {D:Int->Prop},rF R D (l1++l2)->rF R D l1/\rF R (λx=>D x∨∃i,(i,x)∈l1) l2
 |[],l2,D,h=>⟨I6,by
  have:(λx=>D x∨∃i,(i,x)∈([]:List (Int×Int)))=D:=by funext x;simp
  rw[this];exact h⟩
 |(i,c)::l1,l2,D,h=>by
  obtain⟨a,b,k,d,e⟩:=h;obtain⟨g,f⟩:=JW e;refine⟨⟨a,b,k,d,g⟩,?_⟩;have:(λx=>D x∨∃j,(j,x)∈(i,c)::l1)=λx=>(D x∨x=c)∨∃j,(j,x)∈l1:=by
   funext x;simp only[qN,Prod.mk.injEq,eq_iff_iff];constructor
   .rintro(h|⟨j,⟨_,h⟩|h⟩)
    .exact .inl (.inl h)
    .exact .inl (.inr h)
    .exact .inr ⟨j,h⟩
   .rintro((h|h)|⟨j,h⟩)
    .exact .inl h
    .exact .inr ⟨i,.inl ⟨n5,h⟩⟩
    .exact .inr ⟨j,.inr h⟩
  rw[this];exact f
theorem OS(s f:hU)(p:Int×Int×Int)(v r U V W P R:Sl)(n:Nat)(pool:List (Sl×Row))(H:aa B h0 h (SA s (ie f p v r U V W P R)::fK pool::As))(l:v.len=n)(hn:n<=64){K:Unit->m5->Prop}
  (O:∀g d h',g.len=n->d.len=n->aa B h0 h' (SA s (ie f p v r U V W g d)::HA g (qh n ⟨eH,0,0⟩)::HA d (qh n ⟨eH,0,0⟩)::fK pool::As)->K () h'):(λ(c:bJ) (Q:Unit->m5->Prop)=>
 ∃a3:hU,(c=dB a3)/\
 ∃b:Sl,hY h (a3.add 4)=dB (xI b.ptr b.len b.cap)/\
 ∃a5:hU,(c=dB a5)/\
 ∃a:Sl,hY h (a5.add 4)=dB (xI a.ptr a.len a.cap)/\
 (bF xR (zB 79 (xH xN ((b.len:Nat):Int)) (xH xN ((b.len:Nat):Int))) (.one (.sc .slc)) h λy L=>
 (bx.ok [(a5.add 4,(xI a.ptr a.len a.cap)),(a3.add 4,(xI b.ptr b.len b.cap))] L)/\
 ∃S:hU,(c=dB S)/\
 (bF xR (zB 79 (xH xN ((a.len:Nat):Int)) (xH xN ((a.len:Nat):Int))) (.one (.sc .slc)) L λv9 D=>
 (bx.ok [(a5.add 4,(xI a.ptr a.len a.cap)),(a3.add 4,(xI b.ptr b.len b.cap))] D)/\
 av xR (qD 79 (xJ (dB (S.add 9))) (xI y.ptr y.len y.cap)) D λ_ h3=>
 (bx.ok [] h3)/\
 ∃J:hU,(c=dB J)/\
 av xR (qD 79 (xJ (dB (J.add 10))) (xI v9.ptr v9.len v9.cap)) h3 λ_ q=>
 (bx.ok [] q)/\
 Q () q)/\(av xR (qD 79 (xJ (dB (S.add 9))) (xI y.ptr y.len y.cap)) L λ_ X=>
 (bx.ok [] X)/\
 bF xR (zB 79 (xH xN ((a.len:Nat):Int)) (xH xN ((a.len:Nat):Int))) (.one (.sc .slc)) X λt Z=>
 (bx.ok [] Z)/\
 ∃I:hU,(c=dB I)/\
 av xR (qD 79 (xJ (dB (I.add 10))) (xI t.ptr t.len t.cap)) Z λ_ Y=>
 (bx.ok [] Y)/\
 Q () Y))/\(bF xR (zB 79 (xH xN ((a.len:Nat):Int)) (xH xN ((a.len:Nat):Int))) (.one (.sc .slc)) h λw h8=>
 (bx.ok [(a5.add 4,(xI a.ptr a.len a.cap)),(a3.add 4,(xI b.ptr b.len b.cap))] h8)/\
 bF xR (zB 79 (xH xN ((b.len:Nat):Int)) (xH xN ((b.len:Nat):Int))) (.one (.sc .slc)) h8 λu T=>
 (bx.ok [(a5.add 4,(xI a.ptr a.len a.cap)),(a3.add 4,(xI b.ptr b.len b.cap))] T)/\
 ∃A:hU,(c=dB A)/\
 av xR (qD 79 (xJ (dB (A.add 9))) (xI u.ptr u.len u.cap)) T λ_ z=>
 (bx.ok [] z)/\
 ∃M:hU,(c=dB M)/\
 av xR (qD 79 (xJ (dB (M.add 10))) (xI w.ptr w.len w.cap)) z λ_ E=>
 (bx.ok [] E)/\
 Q () E)) (dB s) K:=by
 have hb:=H.box 0 n5;refine⟨s,n5,v,hb.cell n5,s,n5,v,hb.cell n5,?_,?_⟩
 .refine H.make ag bv cI n8 ⟨eH,0,0⟩ n5 n5 n n C3 C3 (qj _) n7 λg L o N m=>?_;have m:=m.bc;have i:=m.box 1 n5;refine⟨⟨i.cell n5,i.cell n5,I6⟩,s,n5,?_,?_⟩
  .refine m.make ag bv cI n8 ⟨eH,0,0⟩ n5 n5 n n C3 C3 (qj _) n7 λd D j G e=>?_;have e:=e.bc;have k:=e.box 2 n5;refine⟨⟨k.cell n5,k.cell n5,I6⟩,?_⟩;refine e.store ag 2 n5 n5 9 [g] n5 n5 n5 A7 λh3 x=>⟨I6,s,n5,?_⟩
   refine x.store ag 2 n5 n5 10 [d] n5 n5 n5 A7 λq F=>⟨I6,?_⟩
   exact O g d q o j (F.aG 4 [2,1,0,3])
  .refine m.store ag 1 n5 n5 9 [g] n5 n5 n5 A7 λD e=>⟨I6,?_⟩
   refine e.make ag bv cI n8 ⟨eH,0,0⟩ n5 n5 n n C3 C3 (qj _) n7 λd h3 j G x=>⟨I6,s,n5,?_⟩
   have x:=x.bc;refine x.store ag 2 n5 n5 10 [d] n5 n5 n5 A7 λq F=>⟨I6,?_⟩
   exact O g d q o j (F.aG 4 [2,1,0,3])
 .refine H.make ag bv cI n8 ⟨eH,0,0⟩ n5 n5 n n C3 C3 (qj _) n7 λd L o N m=>?_;have m:=m.bc;have i:=m.box 1 n5;refine⟨⟨i.cell n5,i.cell n5,I6⟩,?_⟩;refine m.make ag bv cI n8 ⟨eH,0,0⟩ n5 n5 n n C3 C3 (qj _) n7 λg D j G e=>?_;have e:=e.bc;have k:=e.box 2 n5;refine⟨⟨k.cell n5,k.cell n5,I6⟩,s,n5,?_⟩;refine e.store ag 2 n5 n5 9 [g] n5 n5 n5 A7 λh3 x=>⟨I6,s,n5,?_⟩
  refine x.store ag 2 n5 n5 10 [d] n5 n5 n5 A7 λq F=>⟨I6,?_⟩
  exact O g d q j o (F.aG 4 [2,0,1,3])
theorem VI(n nd w:Nat)(d:aC):(fU n nd w d).1.length=n/\(fU n nd w d).2.length=n:=by
 unfold fU;have:∀(l:List (Int×Nat)) (s:aO×aO),(l.foldl (λs p=>(s.1.set p.1.toNat (nD nd p.2),s.2.set p.1.toNat (aN w))) s).1.length=n4 s.1/\(l.foldl (λs p=>(s.1.set p.1.toNat (nD nd p.2),s.2.set p.1.toNat (aN w))) s).2.length=n4 s.2:=by
  intro l
  induction l with
  |nil=>intro s;exact⟨n5,n5⟩
  |cons a l ih=>intro s;rw[zN];have:=ih (s.1.set a.1.toNat (nD nd a.2),s.2.set a.1.toNat (aN w));simpa using this
 have:=this d.zipIdx (qh n [],qh n []);simpa using this
abbrev Told(s f:hU)(p:Int×Int×Int)(v r c d g b a:Sl)(h e:List Sl)(pl:List (Sl×Row)):List HP:=[SA s (ie f p v r c d g b a),HA b h,HA a e,fK pl]
theorem SG(s f:hU)(p:Int×Int×Int)(v r st M lf wa W:Sl)(I mr:List Sl)(pl:List (Sl×Row))(c:Int)(nd w:Nat)(H:aa B h0 h (Told s f p v r st M lf wa W I mr pl++As))(ax:0<=c)(hw:c.toNat<n4 I)(hm:c.toNat<n4 mr)(Y:p.2.2=w)(hd:M.len=nd)(ay:nd<=64)(J:w<=2^20){K:Unit->m5->Prop}
  (hk:∀a b h',aa B h0 h' (RA a (aN nd)::RA b (aN w)::(Told s f p v r st M lf wa W (I.set c.toNat a) (mr.set c.toNat b) pl++As))->K () h'):(λ(L:bJ) (K3:Unit->m5->Prop)=>
 ∃o:hU,(L=dB o)/\
 ∃g:Sl,hY h (o.add 9)=dB (xI g.ptr g.len g.cap)/\
 ∃a25:hU,(L=dB a25)/\
 ∃d:Sl,hY h (a25.add 10)=dB (xI d.ptr d.len d.cap)/\
 ∃O:hU,(L=dB O)/\
 ∃j:Int,hY h ((O.add 1).add 2)=dB (xH xN j)/\
 (bF xR (zB 41 (xH xN ((M.len:Nat):Int)) (xH xN ((M.len:Nat):Int))) (.one (.sc .slc)) h λl P=>
 (bx.ok [((O.add 1).add 2,(xH xN j)),(a25.add 10,(xI d.ptr d.len d.cap)),(o.add 9,(xI g.ptr g.len g.cap))] P)/\
 ∃S:hU,(g.ptr=dB S/\0<=c/\c<((g.len:Nat):Int))/\
 (bF xR (zB 41 (xH xN j) (xH xN j)) (.one (.sc .slc)) P λR ab=>
 (bx.ok [(a25.add 10,(xI d.ptr d.len d.cap)),(o.add 9,(xI g.ptr g.len g.cap))] ab)/\
 av xR (qD 41 (xJ (dB (S.add (c.toNat*1)))) (xI l.ptr l.len l.cap)) ab λ_ y=>
 (bx.ok [] y)/\
 ∃F:hU,(d.ptr=dB F/\0<=c/\c<((d.len:Nat):Int))/\
 av xR (qD 41 (xJ (dB (F.add (c.toNat*1)))) (xI R.ptr R.len R.cap)) y λ_ u=>
 (bx.ok [] u)/\
 K3 () u)/\(av xR (qD 41 (xJ (dB (S.add (c.toNat*1)))) (xI l.ptr l.len l.cap)) P λ_ E=>
 (bx.ok [] E)/\
 bF xR (zB 41 (xH xN j) (xH xN j)) (.one (.sc .slc)) E λk D=>
 (bx.ok [] D)/\
 ∃q:hU,(d.ptr=dB q/\0<=c/\c<((d.len:Nat):Int))/\
 av xR (qD 41 (xJ (dB (q.add (c.toNat*1)))) (xI k.ptr k.len k.cap)) D λ_ z=>
 (bx.ok [] z)/\
 K3 () z))/\(bF xR (zB 41 (xH xN j) (xH xN j)) (.one (.sc .slc)) h λT ad=>
 (bx.ok [(a25.add 10,(xI d.ptr d.len d.cap)),(o.add 9,(xI g.ptr g.len g.cap))] ad)/\
 bF xR (zB 41 (xH xN ((M.len:Nat):Int)) (xH xN ((M.len:Nat):Int))) (.one (.sc .slc)) ad λV ao=>
 (bx.ok [(a25.add 10,(xI d.ptr d.len d.cap)),(o.add 9,(xI g.ptr g.len g.cap))] ao)/\
 ∃ap:hU,(g.ptr=dB ap/\0<=c/\c<((g.len:Nat):Int))/\
 av xR (qD 41 (xJ (dB (ap.add (c.toNat*1)))) (xI V.ptr V.len V.cap)) ao λ_ al=>
 (bx.ok [] al)/\
 ∃ah:hU,(d.ptr=dB ah/\0<=c/\c<((d.len:Nat):Int))/\
 av xR (qD 41 (xJ (dB (ah.add (c.toNat*1)))) (xI T.ptr T.len T.cap)) al λ_ am=>
 (bx.ok [] am)/\
 K3 () am)) (dB s) K:=by
 have hb:=H.box 0 n5;have mk:∀{X:m5} {Cs:List HP} (m:Nat) (hm:m<=2^20) {z1 z2:Int},z1=(m:Int)->z2=(m:Int)->aa B h0 X Cs->∀{K:Sl->m5->Prop},(∀a h',aa B h0 h' (RA a (aN m)::Cs)->K a h')->
   bF xR (zB 41 (xH xN z1) (xH xN z2)) (.one (.sc .slc)) X K:=by
  intro X Cs m hm z1 z2 e1 e2 G K hK;subst e1;subst e2;exact G.make ag aq cK n8 0 n5 n5 m m n5 n5 (qj _) n7 λa h' _ _ H'=>hK a h' H'.bc
 refine⟨s,n5,wa,hb.cell n5,s,n5,W,hb.cell n5,s,n5,p.2.2,show hY h (s.add 3)=_ from hb.cell n5,?_,?_⟩
 .refine mk nd n7 (by rw[hd]) (by rw[hd]) H λa X G=>?_;have n:=G.box 1 n5;refine⟨⟨show hY X (s.add 3)=_ from n.cell n5,n.cell n5,n.cell n5,I6⟩,?_⟩;have A:∀{h2:m5} {Cs:List HP} {I:List Sl} (i:Nat) (a:Sl) {Z:Sl},aa B h0 h2 Cs->Cs[i]?=dB (HA Z I)->c.toNat<n4 I->∀{K:m5->Prop},(∀h',aa B h0 h' (Cs.set i (HA Z (I.set c.toNat a)))->K h')->∃x:hU,(Z.ptr=dB x/\0<=c/\c<((Z.len:Nat):Int))/\av xR (qD 41 (xJ (dB (x.add (c.toNat*1)))) (xI a.ptr a.len a.cap)) h2 λ_ h'=>K h':=by intro h2 Cs I i a Z N hi hl K hK;exact N.set ag i hi (λ_=>rfl) n5 c.toNat n7 hl a n5 n5 n5 λh3 Q=>hK h3 Q
  obtain⟨x,hx,-⟩:=A (K:=λ_=>True) 2 a G rfl hw λ_ _=>trivial;refine⟨x,hx,?_,?_⟩
  .refine mk w J Y Y G λb h2 N=>?_;have t:=N.box 2 n5;refine⟨⟨t.cell n5,t.cell n5,I6⟩,?_⟩;obtain⟨x',U,hr⟩:=A (K:=λy=>bx.ok [] y/\∃F:hU,(W.ptr=dB F/\0<=c/\c<((W.len:Nat):Int))/\
 av xR (qD 41 (xJ (dB (F.add (c.toNat*1)))) (xI b.ptr b.len b.cap)) y λ_ u=>(bx.ok [] u)/\K () u) 3 a N n5 hw λh3 Q=>⟨I6,A 4 b Q n5 hm λh4 H4=>⟨I6,hk a b h4 (H4.aG 6 [1,0,2,3,4,5])⟩⟩
   have e:x=x':=wb.inj (hx.1.symm.trans U.1);subst e;exact hr
  .obtain⟨x',U,hr⟩:=A (K:=λE=>bx.ok [] E/\bF xR (zB 41 (xH xN p.2.2) (xH xN p.2.2)) (.one (.sc .slc)) E λk D=>
 (bx.ok [] D)/\
 ∃q:hU,(W.ptr=dB q/\0<=c/\c<((W.len:Nat):Int))/\
 av xR (qD 41 (xJ (dB (q.add (c.toNat*1)))) (xI k.ptr k.len k.cap)) D λ_ z=>
 (bx.ok [] z)/\K () z) 2 a G n5 hw λh3 Q=>⟨I6,mk w J Y Y Q λb h4 H4=>⟨I6,A 4 b H4 n5 hm λh5 H5=>⟨I6,hk a b h5 (H5.aG 6 [1,0,2,3,4,5])⟩⟩⟩
   have e:x=x':=wb.inj (hx.1.symm.trans U.1);subst e;exact hr
 .refine mk w J Y Y H λb X G=>?_;have n:=G.box 1 n5;refine⟨⟨n.cell n5,n.cell n5,I6⟩,?_⟩;refine mk nd n7 (by rw[hd]) (by rw[hd]) G λa h2 N=>?_;have t:=N.box 2 n5;refine⟨⟨t.cell n5,t.cell n5,I6⟩,?_⟩;refine N.set ag 3 n5 (λ_=>rfl) n5 c.toNat n7 hw a n5 n5 n5 λh3 Q=>⟨I6,?_⟩
  refine Q.set ag 4 n5 (λ_=>rfl) n5 c.toNat n7 hm b n5 n5 n5 λh4 H4=>⟨I6,hk a b h4 (H4.aG 6 [0,1,2,3,4,5])⟩
theorem Ni{h:m5}{Cs:List HP}(x:Sl)(m:Row)(nd:Nat)(z:Int)(H:aa B h0 h Cs)(D:z=nd)(y:nd<=64)(E:n4 m<=2^20){L L2:bx}(w:L.ok h)(f:L2.ok h)(r:St B h0 Cs λh=>Rd h x 1 aq m){K:Sl->Sl->m5->Prop}
  (s:∀a b h',aQ (λb=>b<h.size) h h'->aa B h0 h' (RA a (aN nd)::RA b m::Cs)->K a b h'):
  (bF xR (zB 41 (xH xN z) (xH xN z)) (.one (.sc .slc)) h λk d=>
 (bx.ok L d)/\
 ji xR 213 #[(xI x.ptr x.len x.cap)] (.one (.sc .slc)) d λp o=>K k p o)/\(ji xR 213 #[(xI x.ptr x.len x.cap)] (.one (.sc .slc)) h λl e=>
 (bx.ok L2 e)/\
 bF xR (zB 41 (xH xN z) (xH xN z)) (.one (.sc .slc)) e λi j=>K i l j):=by
 subst D;constructor
 .refine H.DV ag aq cK n8 0 n5 n5 nd nd n5 n5 (qj _) n7 λa u _ q c=>⟨gF q w,?_⟩
  have c:=c.bc;refine(fN x m u (r.at [_] c)).I4 λb g t=>⟨b,n5,s a b g (up q t.ac) ((c.bQ t).nj)⟩
 .refine(fN x m h (r.at [] H)).I4 λb u n=>?_;have c:=H.bQ n;refine⟨b,n5,gF n.ac f,?_⟩;refine c.DV ag aq cK n8 0 n5 n5 nd nd n5 n5 (qj _) n7 λa g _ A v=>?_;exact s a b g (up n.ac A) v.bc
structure lV (pool pl:List (Sl×Row)) (wr mr:List Sl) (W M:aO):Prop where
 sub:∀x∈pool,x∈pl
 way:bY pl id wr W
 more:bY pl id mr M
theorem lV.step{pool pl:List (Sl×Row)}{f e:List Sl}{W M:aO}(x:lV pool pl f e W M)(c:Nat)(a b:Sl)(l m:Row):lV pool ((b,m)::(a,l)::pl) (f.set c a) (e.set c b) (W.set c l) (M.set c m):=
 ⟨λy d=>by simp[x.sub y d],(x.way.mono λy d=>Bk).set c oo,(x.more.mono λy d=>Bk).set c oo⟩
theorem SH(s f:hU)(p:Int×Int×Int)(v r E q G a3 a6:Sl)(rr:List (Sl×Sl))(R:List fi)(ST:List (Int×Int))(D L:aC)(n nd w:Nat)(pool:List (Sl×Row))(H:aa B h0 h (SA s (ie f p v r E q G a3 a6)::fK pool::As))(Z:St B h0 As λh=>SF h f r E q G rr R ST D L)
  (hv:v.len=n) (hn:n<=64) (hp:p.2.2=w) (hw:w<=2^20) (b5:n4 D=nd) (ad:nd<=64) (hR:∀e∈R,iU n w e) (hD:∀c∈D,0<=c/\c<(n:Int)) (b6:D.Nodup) (hg:rF (R.map qA) (·∈D) ST) (cc:n4 ST<=2^20) (b0:∀e∈R,n4 e.1<=2^20) (bd:(⟨eH,0,0⟩,[])∈pool):
  ak xR 227 #[xJ (dB s)] h λv' h'=>v'=.tuple #[]/\∃d m A z pl,aa B h0 h' (Told s f p v r E q G d m A z pl++As)/\lV pool pl A z (ST.foldl (gW R nd) (fU n nd w D)).1 (ST.foldl (gW R nd) (fU n nd w D)).2:=by
 refine ts Tryz.func227 ?_ (HF (I1 [] [(18,36)] (G0 (HF (G7 (G9 [(42,aI)] [(3,5),(42,77)] (HF (HF (G0 (G7 (HF (I1 [] [(47,67)] G6))) G6)))))) (HF (G7 (G9 [(83,aI)] [(6,10),(11,12),(83,134)] (HF (HF (G0 (G7 (HF (I1 [(7,(.sc .adr))] [(7,8),(87,95)] (I1 [(8,bK),(9,bK)] [(8,10),(95,100)] (I0 [(103,aI)] [(11,12),(103,117)]))))) G6))))))))) [(1,(.y [0,1,2,3,4,5,6,8,9,10,11,12] (.y [7,14,15] (.l [13,16,17,18,19]) (.l [16,13,17,18,19])) (.l [13,7,14,15,16,17,18,19]))),(5,(.y [0,1,2,3,4,5,6,7,8,9,10,12,13,14,15,16] (.y [11,18] (.l [17,19,20,21]) (.l [19,17,20,21])) (.l [17,11,18,19,20,21]))),(12,(.y [0,2,3] (.l [1,4,5,6]) (.l [4,1,5,6])))];have hb:=H.box 0 n5;have a8:q.len=nd:=by rw[(Z.at [_,_] H).dead.len,b5]
 refine⟨s,n5,q,show hY h (s.add 7)=_ from hb.cell n5,?_⟩;refine bs (λ_ h'=>∃d m,d.len=n/\m.len=n/\aa B h0 h' (Told s f p v r E q G d m (qh n ⟨eH,0,0⟩) (qh n ⟨eH,0,0⟩) pool++As)) ?_ ?_
 .exact OS (K:=λ_ h'=>∃d m,d.len=n/\m.len=n/\aa B h0 h' (Told s f p v r E q G d m (qh n ⟨eH,0,0⟩) (qh n ⟨eH,0,0⟩) pool++As)) s f p v r E q G a3 a6 n pool H hv hn λd m h' h1 h2 O=>⟨d,m,h1,h2,O⟩
 rintro-h1 ⟨d,m,cf,cq,H1⟩;have b2:=H1.box 0 n5;refine⟨s,n5,q,show hY h1 (s.add 7)=_ from b2.cell n5,?_⟩;refine aj (λt:Nat×List Sl×List Sl×List (Sl×Row)=>(t.1:Int)) (λt h'=>t.1<=nd/\aa B h0 h' (Told s f p v r E q G d m t.2.1 t.2.2.1 t.2.2.2++As)/\lV pool t.2.2.2 t.2.1 t.2.2.1 (fU n nd w (D.take t.1)).1 (fU n nd w (D.take t.1)).2) (λt=>nd-t.1)
  (0,qh n ⟨eH,0,0⟩,qh n ⟨eH,0,0⟩,pool) n5 ⟨n7,H1,⟨λ_ h=>h,Hx pool bd n,Hx pool bd n⟩⟩ ?_
 rintro⟨i,A,z,pl⟩ h2 ⟨hi,H2,T2⟩;dsimp only at*;have b3:=VI n nd w (D.take i);have V:=T2.way.1;have U:=T2.more.1;refine ae (λe=>?_) (λe=>?_)
 .have ab:i<nd:=n7
  have Q:=hD _ (qe (show i<n4 D by omega));refine(Z.at [_,_,_,_] H2).dead.aV i n5 n7 _ n5 ?_;refine bs (λ_ h'=>∃a b,aa B h0 h' (RA a (aN nd)::RA b (aN w)::(Told s f p v r E q G d m (A.set D[i].toNat a) (z.set D[i].toNat b) pl++As))) ?_ ?_
  .exact SG (K:=λ_ h'=>∃a b,aa B h0 h' (RA a (aN nd)::RA b (aN w)::(Told s f p v r E q G d m (A.set D[i].toNat a) (z.set D[i].toNat b) pl++As))) s f p v r E q G d m A z pl D[i] nd w H2 Q.1 n7 n7 hp a8 ad hw λa b h' O=>⟨a,b,O⟩
  rintro-h3 ⟨a,b,H3⟩;refine⟨s,n5,d,(H3.box 2 n5).cell n5,?_⟩;refine(H3.seq 3 n5 λ_=>rfl).kX D[i].toNat n7 oi ?_;rw[wT];refine H3.set ag 0 n5 (λ_=>rfl) n5 i n5 (by simp[aN];omega) 1 n5 n5 n5 λh4 H4=>?_;have H5:=(H4.freeze 0 n5 λ_=>rfl).pool 5 0 n8 n5 n5;have H6:=(H5.freeze 1 n5 λ_=>rfl).pool 5 1 n8 n5 n5;refine⟨(i+1,A.set D[i].toNat a,z.set D[i].toNat b,_),oj,⟨n9,H6.aG 6 [2,3,4,5],?_⟩,n9⟩
  try dsimp only
  have e1:D.take (i+1)=D.take i++[D[i]]:=az _ _;have e2:n4 (D.take i)=i:=oi
  rw[e1,GH,e2];exact T2.step D[i].toNat a b (nD nd i) (aN w)
 have ah:i=n4 D:=n7
 subst ah;rw[qt]at T2 b3 V U;refine⟨s,n5,E,(H2.box 0 n5).cell n5,?_⟩;have cd:=(Z.at [_,_,_,_] H2).steps.len;refine aj (λt:Nat×List Sl×List Sl×List (Sl×Row)=>(t.1:Int)) (λt h'=>t.1<=n4 ST/\aa B h0 h' (Told s f p v r E q G d m t.2.1 t.2.2.1 t.2.2.2++As)/\lV pool t.2.2.2 t.2.1 t.2.2.1 ((ST.take t.1).foldl (gW R nd) (fU n nd w D)).1 ((ST.take t.1).foldl (gW R nd) (fU n nd w D)).2) (λt=>n4 ST-t.1)
  (0,A,z,pl) n5 ⟨oo,H2,T2⟩ ?_
 clear V U T2 H2 hi e;rintro⟨i,A,z,pl⟩ h3 ⟨hi,H3,T3⟩;dsimp only at*;obtain⟨dk,-⟩:=Is (nd:=nd) (w:=w) hD b6 D.length (qj _);rw[qt]at dk;have ay:=JW (l1:=ST.take i) (l2:=ST.drop i) (by rw[qz];exact hg);obtain⟨a7,-⟩:=FF hR ay.1 dk;obtain⟨W,hW⟩:=I5 (((ST.take i).foldl (gW R nd) (fU n nd w D)).1)
 obtain⟨M,hM⟩:=I5 (((ST.take i).foldl (gW R nd) (fU n nd w D)).2)
 have ao:(ST.take i).foldl (gW R nd) (fU n nd w D)=(W,M):=by rw[hW,hM]
 have J:Uk n nd w (λc=>c∈D∨∃j,(j,c)∈ST.take i) W M:=by rw[hW,hM];exact a7
 rw[<-hW,<-hM]at T3;clear a7 hW hM;have cr:=J.wl;have cn:=J.ml;have V:=T3.way.1;have U:=T3.more.1;refine ae (λe=>?_) (λe=>?_)
 .have ab:i<n4 ST:=n7
  have am:=ay.2;rw[qT ab]at am;obtain⟨row,aW,ap⟩:∃row aW,ST[i]=(row,aW):=⟨_,_,rfl⟩
  rw[ap]at am;obtain⟨g1,g2,g3,g4,-⟩:=am;have o:row.toNat<n4 R:=by have:=g1.2;rw[qm]at this;omega
  obtain⟨k,X⟩:=I5 (R[row.toNat])
  have er:R.getD row.toNat ([],[])=k:=by rw[qg,qd o,X];rfl
  have b7:(R.map qA).getD row.toNat []=k.1:=by rw[qg,qM,qd o,X];rfl
  rw[b7]at g3 g4;have N:=hR k (X▸qe o);have c0:=b0 k (X▸qe o);have cp:=N.cX aW g3;have G3:=Z.at [_,_,_,_] H3;have hF:=G3.rest.2.1;refine G3.steps.cG (g:=fX) i n5 ab ST[i] n5 ?_;rw[ap];refine H3.tE ag n5 λa50 h4 P4 H4=>?_;have H4:=H4.bc;refine H4.storeAll ag 0 n5 n5 (fX (row,aW)) n5 n5 n5 n5 λh5 H5=>?_;have b4:row.toNat<n4 rr:=by rw[hF];exact o
  obtain⟨y,hy⟩:=I5 (rr[row.toNat])
  have I:∀{h'},fO kd 2 qv h' r rr R->kd.p h' (λb=>b<h'.size) y k:=λhh=>by rw[hy,X];exact Fix.row hh o
  refine bs (λa' h'=>aa B h0 h' (an a' 253 (qv y)::an a50 326 (fX (row,aW))::(Told s f p v r E q G d m A z pl++As))) ?_ ?_
  .have a0:=H5.box 1 n5;have G5:=Z.at [_,_,_,_,_] H5;refine⟨s,n5,r,a0.cell n5,row,(H5.box 0 n5).cell0 n5,?_⟩;obtain⟨bq,ha,x,Q,rfl⟩:=G5.rest.1.cG (g:=qv) (i:=row) row.toNat n7 b4 y (by rw[hy]) (K:=λx=>x=y) rfl;refine⟨bq,ha,_,Q,?_⟩;refine H5.tE ag n5 λP h6 P6 H6=>⟨⟨dY Q.1 P6,dY Q.2.1 P6,dY ((H5.box 0 n5).cell0 n5) P6,dY (a0.cell n5) P6,I6⟩,?_⟩
   have H6:=H6.bc;refine H6.storeAll ag 0 n5 n5 (qv x) n5 n5 n5 n5 λh7 H7=>⟨I6,H7⟩
  intro P h7 H7;refine bs (λt h'=>aa B h0 h' (RA t.1 (aN nd)::RA t.2 k.2::an P 253 (qv y)::an a50 326 (fX (row,aW))::(Told s f p v r E q G d m A z pl++As))) ?_ ?_
  .have ax:=H7.box 0 n5;refine⟨y.2,ax.cell n5,?_⟩;exact Ni (L:=[(P.add 1,xI y.2.ptr y.2.len y.2.cap)]) (K:=λa b h'=>bx.ok [] h'/\aa B h0 h' (RA a (aN nd)::RA b k.2::an P 253 (qv y)::an a50 326 (fX (row,aW))::(Told s f p v r E q G d m A z pl++As))) y.2 k.2 nd _ H7 (by rw[a8]) ad (by rw[N.len];exact hw) ⟨ax.cell n5,I6⟩ (L2:=[]) I6 (St.mk' λh' O=>(I (Z.at [_,_,_,_,_,_] O).rest).2) λa b h' _ O=>⟨I6,O⟩
  rintro⟨T,u⟩ h8 H8;dsimp only at H8;refine⟨y.1,(H8.box 2 n5).cell0 n5,?_⟩;have cs:=(I (Z.at [_,_,_,_,_,_,_,_] H8).rest).1.len;let F:Nat->aC:=λj=>(k.1.take j).filter λc=>!decide (c=aW);refine aj (λj:Nat=>(j:Int)) (λj h'=>j<=n4 k.1/\aa B h0 h' (RA T (cS W (aN nd) (F j))::RA u (cS M k.2 (F j))::an P 253 (qv y)::an a50 326 (fX (row,aW))::(Told s f p v r E q G d m A z pl++As))) (λj=>n4 k.1-j) 0 n5 ⟨n7,by simpa[F,cS]using H8⟩ ?_;rintro j h9 ⟨hj,H9⟩;have told:∀c∈F j,n4 (aA W c.toNat)=nd/\(aA M c.toNat).length=w:=λc Q=>by
   have a1:=qK.1 Q;have hm:=zK a1.1;exact J.rw_ c (g4 c hm (by simpa using a1.2)) (N.cX c hm).1 (N.cX c hm).2
  have a2:n4 (cS W (aN nd) (F j))=nd:=jO sL λc Q=>(told c Q).1;have a4:n4 (cS M k.2 (F j))=w:=jO N.len λc Q=>(told c Q).2;refine ae (λe2=>?_) (λe2=>?_)
  .have S:j<n4 k.1:=n7
   have al:=N.cX _ (qe S);refine(I (Z.at [_,_,_,_,_,_,_,_] H9).rest).1.aV j n5 S _ n5 ?_;refine⟨aW,(H9.box 3 n5).cell n5,?_⟩;refine bt (λa9=>?_) (λca=>?_)
   .have tc:=J.rw_ k.1[j] (g4 _ (qe S) a9) al.1 al.2;refine(Dw s f 1 k.1[j] T u d m _ _ A z W M H9 (St.mk' λh' O=>?_) al.1 n7 n7 (by rw[tc.1,a2]) (by rw[tc.2,a4]) n7 n7).mono ?_
    .exact AA.of (O.box 2 n5) (Z.at [_,_,_,_,_,_] O).field (O.By 3 5 n5 n5 T3.way) (O.By 4 5 n5 n5 T3.more)
    rintro _ b9 ⟨rfl,Y⟩;have e3:F (j+1)=F j++[k.1[j]]:=by simp only[F];rw[jB _ _ S];simp[a9]
    exact⟨(),n5,j+1,o0,⟨n7,by rw[e3,rO,rO];exact Y⟩,n7⟩
   .have e3:F (j+1)=F j:=by simp only[F];rw[jB _ _ S];simp[ca]
    exact⟨j+1,o0,⟨n7,by rw[e3];exact H9⟩,n7⟩
  .have bl:j=n4 k.1:=n7
   subst bl;have bb:=H9.box 3 n5;have a5:=H9.box 4 n5;refine⟨s,n5,d,a5.cell n5,aW,bb.cell n5,s,n5,m,a5.cell n5,aW,bb.cell n5,?_⟩;refine H9.set ag 5 n5 (λ_=>rfl) n5 aW.toNat n7 n7 T n5 n5 n5 λb9 Y=>⟨⟨(Y.box 3 n5).cell n5,I6⟩,?_⟩
   refine Y.set ag 6 n5 (λ_=>rfl) n5 aW.toNat n7 n7 u n5 n5 n5 λc1 bk=>⟨I6,?_⟩
   have br:=(bk.freeze 0 n5 λ_=>rfl).pool 7 0 n8 n5 n5;have b1:=(br.freeze 1 n5 λ_=>rfl).pool 7 1 n8 n5 n5;refine⟨(i+1,A.set aW.toNat T,z.set aW.toNat u,_),oj,⟨n9,b1.aG 8 [4,5,6,7],?_⟩,n9⟩
   try dsimp only
   rw[az _ _ ab,wz,ao,ap];have e3:[(row,aW)].foldl (gW R nd) (W,M)=(W.set aW.toNat (cS W (aN nd) (F k.1.length)),M.set aW.toNat (cS M k.2 (F k.1.length))):=by simp only[zN,List.foldl_nil,gW,er,F,qt]
   rw[e3];exact T3.step aW.toNat T u _ _
 .have ah:i=n4 ST:=n7
  subst ah;rw[qt]at ao;exact⟨n5,d,m,A,z,pl,H3,by rw[ao];exact T3⟩
def kD(nd:Nat)(known:List Bool)(vals:aO)(s:aO×aO)(i:Nat):aO×aO:=
 (s.1.mapIdx λc r=>if c<i/\known.getD c eY=eX then aN nd else r,s.2.mapIdx λc r=>if c<i/\known.getD c eY=eX then aA vals c else r)
theorem SI(nd:Nat)(known:List Bool)(vals:aO)(s:aO×aO):kD nd known vals s 0=s:=by unfold kD;refine yU ?_ ?_<;>refine zX oo λi a b=>?_<;>simp
theorem VJ(nd:Nat)(known:List Bool)(vals:aO)(s:aO×aO){n:Nat}(a:n4 s.1=n)(b:n4 s.2=n):kD nd known vals s n=iy nd known vals s:=by unfold kD iy;refine yU ?_ ?_<;>refine zX oo λi a b=>?_<;>simp at a<;>simp[show i<n by omega]
theorem VK(nd:Nat)(known:List Bool)(vals:aO)(s:aO×aO){i:Nat}(d:known.getD i eY=eX):kD nd known vals s (i+1)=((kD nd known vals s i).1.set i (aN nd),(kD nd known vals s i).2.set i (aA vals i)):=by
 unfold kD;refine yU ?_ ?_<;>refine zX oo λj e f=>?_<;>simp only[List.getElem_mapIdx,xj]<;>by_cases c:i=j
 .subst c;rw[m6 ⟨n7,d⟩,m6 rfl]
 .rw[nq c];congr 1;simp only[eq_iff_iff];constructor<;>rintro⟨a,b⟩<;>exact⟨n7,b⟩
 .subst c;rw[m6 ⟨n7,d⟩,m6 rfl]
 .rw[nq c];congr 1;simp only[eq_iff_iff];constructor<;>rintro⟨a,b⟩<;>exact⟨n7,b⟩
theorem Yd(nd:Nat)(known:List Bool)(vals:aO)(s:aO×aO){i:Nat}(e:known.getD i eY=eY):kD nd known vals s (i+1)=kD nd known vals s i:=by
 have c:∀j,(j<i+1/\known.getD j eY=eX)↔(j<i/\known.getD j eY=eX):=λj=>by
  constructor
  .rintro⟨a,b⟩;by_cases d:j=i
   .subst d;rw[e]at b;cases b
   .exact⟨n7,b⟩
  .rintro⟨a,b⟩;exact⟨n7,b⟩
 unfold kD;simp only[c]
theorem VL(s f:hU)(p:Int×Int×Int)(v r L D O I J:Sl)(j d g:List Sl)(pl:List (Sl×Row))(known:List Bool)(V W M:aO)(n nd:Nat)(H:aa B h0 h (Told s f p v r L D O I J d g pl++HA v j::As))(hn:n<=64)(w:D.len=nd)(ad:nd<=64)(T:lV pl pl d g W M)(R:bY pl id j V)(ah:n4 V=n)(F:n4 W=n)(z:n4 M=n)
  (Y:∀(c:Nat) (hc:c<n4 j),j[c].ptr.isNone=!(known.getD c eY)):
  ak xR 228 #[xJ (dB s)] h λZ h'=>Z=.tuple #[]/\∃d g b,aa B h0 h' (Told s f p v r L D O I J d g b++HA v j::As)/\lV pl b d g (iy nd known V (W,M)).1 (iy nd known V (W,M)).2:=by
 refine ts Tryz.func228 ?_ (HF (G7 (G9 [(9,aI)] [(2,4),(9,37)] G6))) [(4,(.l [0,1,2,3,4,5,6,7,8,9,10,11,12,13,14,15,17,16,18,19,20,21]))];have S:=R.1;have K:v.len=n:=by rw[(H.own 4 n5).len];omega
 refine⟨s,n5,v,(H.box 0 n5).cell n5,?_⟩;refine aj (λt:Nat×List Sl×List Sl×List (Sl×Row)=>(t.1:Int)) (λt h'=>t.1<=n/\aa B h0 h' (Told s f p v r L D O I J t.2.1 t.2.2.1 t.2.2.2++HA v j::As)/\lV pl t.2.2.2 t.2.1 t.2.2.1 (kD nd known V (W,M) t.1).1 (kD nd known V (W,M) t.1).2) (λt=>n-t.1) (0,d,g,pl) n5 ⟨n7,H,by rw[SI];exact T⟩ ?_;rintro⟨i,d,g,b⟩ h1 ⟨hi,E,k⟩;dsimp only at*;have al:(kD nd known V (W,M) i).1.length=n:=by simp[kD,F]
 have am:(kD nd known V (W,M) i).2.length=n:=by simp[kD,z]
 have Q:=k.way.1;have P:=k.more.1;refine ae (λe=>?_) (λe=>?_)
 .have ab:i<n:=n7
  refine(E.seq 4 n5 λ_=>rfl).kX i n5 n7 ?_;have y:=Y i n7;refine aH (λA=>?_) (λA=>?_)
  .have m:known.getD i eY=eX:=by rw[y]at A;simpa using A
   have o:=E.box 0 n5;refine⟨s,n5,I,o.cell n5,s,n5,J,o.cell n5,s,n5,D,show hY h1 (s.add 7)=_ from o.cell n5,?_⟩;refine E.DV ag aq cK n8 0 n5 n5 nd nd (by rw[w]) (by rw[w]) (qj _) n7 λa U _ P2 G=>?_;have G:=G.bc;have q:=G.box 1 n5;refine⟨⟨show hY U (s.add 7)=_ from q.cell n5,q.cell n5,q.cell n5,I6⟩,?_⟩;refine G.set ag 2 n5 (λ_=>rfl) n5 i n5 n7 a n5 n5 n5 λh3 H3=>⟨I6,?_⟩
   refine H3.set ag 3 n5 (λ_=>rfl) n5 i n5 n7 (j[i]'n7) n5 n5 n5 λh4 H4=>⟨I6,?_⟩
   have X:=(H4.freeze 0 n5 λ_=>rfl).pool 4 0 n8 n5 n5;refine⟨(i+1,d.set i a,g.set i (j[i]'n7),_),oj,⟨n9,X.aG 5 [1,2,3,4],?_⟩,n9⟩
   try dsimp only
   rw[VK nd known V (W,M) m];have hm:((j[i]'n7),aA V i)∈pl:=by have:=R.get (i:=i) n7;rw[mb n7];exact this
   exact⟨λx u=>qp _ (k.sub x u),(k.way.mono λx u=>qp _ u).set i sL,(k.more.mono λx u=>qp _ u).set i (qp _ (k.sub _ hm))⟩
  .have m:known.getD i eY=eY:=by rw[y]at A;simpa using A
   exact⟨(i+1,d,g,b),oj,⟨n9,E,by dsimp only;rw[Yd nd known V (W,M) m];exact k⟩,n9⟩
 .have N:i=n:=n7
  subst N;exact⟨n5,d,g,b,E,by rw[<-VJ nd known V (W,M) F z];exact k⟩
def mW(nd:Nat)(known:List Bool)(vals W M D:aO)(i:Nat):aO:=vals.mapIdx λc r=>if c<i/\known.getD c eY=eY then gO D (aA W c) (aA M c) nd else r
theorem VM(nd:Nat)(known:List Bool)(vals W M D:aO):mW nd known vals W M D 0=vals:=by unfold mW;refine zX oo λi a b=>?_;simp
theorem Ye(nd:Nat)(known:List Bool)(vals W M D:aO){n:Nat}(a:n4 vals=n):mW nd known vals W M D n=tR nd known vals W M D:=by
 unfold mW tR;refine zX oo λi a b=>?_;simp at a;simp only[List.getElem_mapIdx];cases hk:known.getD i eY
 .rw[m6 ⟨n7,n5⟩,nq oo]
 .rw[nq oo,m6 rfl]
theorem Yf(nd:Nat)(known:List Bool)(vals W M D:aO){i:Nat}(e:known.getD i eY=eX):mW nd known vals W M D (i+1)=mW nd known vals W M D i:=by
 have c:∀j,(j<i+1/\known.getD j eY=eY)↔(j<i/\known.getD j eY=eY):=λj=>by
  constructor
  .rintro⟨a,b⟩;by_cases d:j=i
   .subst d;rw[e]at b;cases b
   .exact⟨n7,b⟩
  .rintro⟨a,b⟩;exact⟨n7,b⟩
 unfold mW;simp only[c]
theorem aat(nd:Nat)(known:List Bool)(vals W M D:aO){i:Nat}(d:known.getD i eY=eY):mW nd known vals W M D (i+1)=(mW nd known vals W M D i).set i (gO D (aA W i) (aA M i) nd):=by
 unfold mW;refine zX oo λj e f=>?_;simp only[List.getElem_mapIdx,xj];by_cases c:i=j
 .subst c;rw[m6 ⟨n7,d⟩,m6 rfl]
 .rw[nq c];congr 1;simp only[eq_iff_iff];constructor<;>rintro⟨a,b⟩<;>exact⟨n7,b⟩
theorem VN(s f:hU)(p:Int×Int×Int)(v r Z S U E P dead:Sl)(g A z dr:List Sl)(pl:List (Sl×Row))(known:List Bool)(V W M D:aO)(n nd w:Nat)(H:aa B h0 h (Told s f p v r Z S U E P A z pl++HA v g::As))(hS:St B h0 As λh=>ia h f/\gu h (λb=>b<h.size) dead 1 aq D dr)(hn:n<=64)(hw:w<=2^20)(bb:nd<=64)(X:lV pl pl A z W M)(hV:bY pl id g V)(I:n4 V=n)(a7:n4 W=n)(a5:n4 M=n)
  (G:∀c,c<n->n4 (aA W c)=nd/\(aA M c).length=w) (a6:n4 D=nd) (K:aU w D) (hk:∀(c:Nat) (l:c<n4 g),g[c].ptr.isNone=!(known.getD c eY)):
  ak xR 232 #[xJ (dB s),dead] h λv' h'=>v'=.tuple #[]/\∃O a,aa B h0 h' (Told s f p v r Z S U E P A z a++HA v O::As)/\bY a id O (tR nd known V W M D):=by
 refine ts Tryz.func232 ?_ (HF (G7 (G9 [(15,aI)] [(4,10),(15,80)] (HF (HF (G0 (G7 (HF (HF (HF (G0 (HF (G7 (G9 [(42,aI)] [(6,10),(42,72)] (HF (HF (G0 (G7 (HF (HF (G7 (G9 [(52,aI)] [(8,10),(52,71)] G6))))) G6)))))) G6))))) G6))))));have a2:=hV.1;have ao:v.len=n:=by rw[(H.own 4 n5).len];omega
 have a4:=X.way.1;have a3:=X.more.1;refine⟨s,n5,v,(H.box 0 n5).cell n5,?_⟩;refine aj (λt:Nat×List Sl×List (Sl×Row)=>(t.1:Int)) (λt h'=>t.1<=n/\aa B h0 h' (Told s f p v r Z S U E P A z t.2.2++HA v t.2.1::As)/\bY t.2.2 id t.2.1 (mW nd known V W M D t.1)/\(∀x∈pl,x∈t.2.2)/\∀(c:Nat) (l:c<n4 t.2.1),t.1<=c->t.2.1[c].ptr.isNone=!(known.getD c eY)) (λt=>n-t.1) (0,g,pl) n5 ⟨n7,H,by rw[VM];exact hV,λ_ h=>h,λc l _=>hk c l⟩ ?_;rintro⟨i,g,a⟩ h1 ⟨hi,q,Y,d,u⟩;dsimp only at*;have bd:n4 (mW nd known V W M D i)=n:=by simp[mW,I]
 have a1:=Y.1;refine ae (λe=>?_) (λe=>?_)
 .have ap:i<n:=n7
  have J:=q.box 0 n5;refine⟨s,n5,v,J.cell n5,?_⟩;refine(q.seq 4 n5 λ_=>rfl).kX i n5 n7 ?_;have Q:=u i n7 (qj _);refine aH (λN=>?_) (λN=>?_)
  .have o:known.getD i eY=eX:=by rw[Q]at N;simpa using N
   exact⟨(i+1,g,a),oj,⟨n9,q,by dsimp only;rw[Yf nd known V W M D o];exact Y,d,λc l h=>u c l (by dsimp only at h;omega)⟩,n9⟩
  have o:known.getD i eY=eY:=by rw[Q]at N;simpa using N
  have ax:=G i ap;have a0:((z[i]'n7),aA M i)∈a:=by have:=(X.more.mono d).get (i:=i) n7;rw[mb n7];exact this
  have F:((A[i]'n7),aA W i)∈a:=by have:=(X.way.mono d).get (i:=i) n7;rw[mb n7];exact this
  refine⟨s,n5,P,J.cell n5,?_⟩;refine(q.seq 2 n5 λ_=>rfl).kX i n5 n7 ?_;refine(fN _ (aA M i) h1 (q.ic 3 n5 a0)).I4 λb h2 R2=>?_;have T:=q.bQ R2;have al:=T.box 1 n5;refine⟨b,n5,s,n5,E,al.cell n5,?_⟩;refine(T.seq 2 n5 λ_=>rfl).kX i n5 n7 ?_;have am:=(T.ic 4 n5 F).len;refine aj (λj:Nat=>(j:Int)) (λj h'=>j<=nd/\aa B h0 h' (RA b (gO D (aA W i) (aA M i) j)::(Told s f p v r Z S U E P A z a++HA v g::As))) (λj=>nd-j) 0 n5 ⟨n7,T⟩ ?_;rintro j h3 ⟨hj,L⟩;refine ae (λe3=>?_) (λe3=>?_)
  .have a8:j<nd:=n7
   have y:j<n4 (aA W i):=n7
   refine(L.ic 4 n5 F).aV j n5 y _ n5 ?_;obtain⟨S1,S2⟩:=hS.at [_,_,_,_,_,_] L;have a9:=S2.len;refine S2.top.kX j n5 n7 ?_;have ah:n4 (D[j]'n7)=w:=K _ (qe _);have R:(aA W i)[j]'y=aM (aA W i) j:=by rw[aM,qg,qd y];rfl
   have ab:n4 (gO D (aA W i) (aA M i) j)=w:=lH _ ax.2 λk hk=>bX K;rw[R];refine Dv s f (aM (aA W i) j) (dr[j]'n7) b (D[j]'n7) _ L (St.mk' λh' H'=>?_) (by rw[ah,ab]) n7 λh4 H4=>?_
   .obtain⟨q1,q2⟩:=hS.at [_,_,_,_,_] H';exact⟨(H'.box 0 n5).cell0 n5,q1,q2.row _ _ _ (qd _) (qd _)⟩
   .refine⟨j+1,o0,⟨n7,?_⟩,n7⟩;rw[gO,mb (m:=D) (i:=j) n7];exact H4
  .have ay:j=nd:=n7
   subst ay;refine⟨s,n5,v,(L.box 1 n5).cell n5,?_⟩;refine L.set ag 5 n5 (λ_=>rfl) n5 i n5 n7 b n5 n5 n5 λh4 H4=>?_;have H5:=(H4.freeze 0 n5 λ_=>rfl).pool 4 0 n8 n5 n5;refine⟨(i+1,g.set i b,_),oj,⟨n9,H5.aG 6 [1,2,3,4,5],?_,λx hx=>qp _ (d x hx),λc l h=>?_⟩,n9⟩
   .try dsimp only
    rw[aat j known V W M D o];exact(Y.mono λx hx=>qp _ hx).set i oo
   .dsimp only at l h⊢;rw[vy n7];exact u c (by simpa using l) n7
 .have ad:i=n:=n7
  subst ad;exact⟨n5,g,a,q,by rw[<-Ye nd known V W M D I];exact Y⟩
abbrev MA(s:Sl)(m:aO):HP:=dw 41 s 1 aq m
abbrev Nj:ja Sl Row:=abr (iG 1 aq) λr _=>r.len<=r.cap
abbrev CA(s:Sl)(m:aO):HP:=dK 41 s 1 bv Nj m
theorem aa.VO{e:Nat}{s:Sl}{l:Row}(H:aa B h0 h As)(i:Nat)(c:As[i]?=dB (ai e s 1 aq l)):aa B h0 h (As.set i (EA Nj s l)):=
 H.dW i c λ_ ⟨a,b⟩=>⟨a.seq (λ_=>rfl) b,a.cap⟩
theorem SJ(s f:hU)(p:Int×Int×Int)(v r V N S J Q:Sl)(I G:List Sl)(pl:List (Sl×Row))(rr:List (Sl×Sl))(R:List fi)(ST:List (Int×Int))(D L:aC)(W M:aO)(n nd w:Nat)(H:aa B h0 h (Told s f p v r V N S J Q I G pl++As))(hS:St B h0 As λh=>SF h f r V N S rr R ST D L)
  (hn:n=p.1.toNat+p.2.1.toNat) (hp:p.2.2=w) (hw:w<=2^20) (ax:bH p=eX) (b1:n4 D=nd) (a7:nd<=64) (hR:∀e∈R,iU n w e) (br:∀e∈R,n4 e.1<=2^20) (hL:∀i∈L,0<=i/\i<(n4 R:Int)) (b9:n4 L<=2^20) (hT:lV pl pl I G W M) (cd:n4 W=n) (ca:n4 M=n)
  (E:∀c,c<n->n4 (aA W c)=nd/\(aA M c).length=w):
  ak xR 229 #[xJ (dB s)] h λv' h'=>∃a b:Sl,v'=.tuple #[a,b]/\aa B h0 h' (MA a (dE n nd R W L (bA p.1.toNat p.2.1.toNat))::CA b (fA n w R M L (bA p.1.toNat p.2.1.toNat))::(Told s f p v r V N S J Q I G pl++As)):=by
 refine ts Tryz.func229 ?_ (HF (HF (G0 (HF (G7 (G9 [(2,bK),(3,bK),(29,aI)] [(2,4),(6,9),(10,11),(29,72)] (HF (HF (G0 (G7 (HF (I1 [(7,bK),(8,bK)] [(7,9),(33,44)] (I0 [(53,aI)] [(10,11),(53,63)])))) G6)))))) (G0 (HF (G7 (G9 [(2,bK),(3,bK),(78,aI)] [(2,4),(12,17),(78,113)] (HF (HF (G0 (G7 (HF (I1 [(13,bK),(14,bK)] [(13,15),(82,90)] (I0 [(92,aI)] [(15,17),(92,104)])))) G6)))))) G6)))) [(5,(.y [0,2,3,4,5,6,7,8,9] (.l [1,10,11,12]) (.l [10,1,11,12]))),(16,(.y [0,2,3,4,5,6] (.l [1,8,7,9]) (.l [7,1,8,9])))];have hb:=H.box 0 n5;have ad:N.len=nd:=by rw[(hS.at [_,_,_,_] H).dead.len,b1]
 have b7:=(bI p).1 ax;have b6:=hT.way.1;have b5:=hT.more.1;refine⟨s,n5,N,show hY h (s.add 7)=_ from hb.cell n5,s,n5,S,show hY h (s.add 8)=_ from hb.cell n5,?_⟩;have cf:=(hS.at [_,_,_,_] H).left.len;have ay:∀{h':m5} {Cs:List HP},aa B h0 h' (Cs++(Told s f p v r V N S J Q I G pl++As))->aa B h0 h' (Told s f p v r V N S J Q I G pl++As):=λ{h' Cs} T=>T.take Cs.length λi A hi=>by
  rw[List.getElem?_append_right n7,Nat.add_sub_cancel_left];exact hi
 have SR:∀{h':m5},aa B h0 h' (Told s f p v r V N S J Q I G pl++As)->AA h' s f J Q I G W M:=λT=>AA.of (T.box 0 n5) (hS.at [_,_,_,_] T).field (T.By 1 3 n5 n5 hT.way) (T.By 2 3 n5 n5 hT.more);let rA:Int->Row:=λi=>cS W (aN nd) (R.getD i.toNat ([],[])).1;let rB:Int->Row:=λi=>cS M (R.getD i.toNat ([],[])).2 (R.getD i.toNat ([],[])).1;have H0:=((H.LI 41 1 bv Nj).bc.sq 41 1 aq).bc;refine aj (λt:Nat×Sl×Sl=>(t.2.1,t.2.2,(t.1:Int))) (λt h'=>t.1<=n4 L/\aa B h0 h' (MA t.2.1 ((L.take t.1).map rA)::CA t.2.2 ((L.take t.1).map rB)::(Told s f p v r V N S J Q I G pl++As))) (λt=>n4 L-t.1) (0,⟨eH,0,0⟩,⟨eH,0,0⟩) n5 ⟨oo,H0⟩ ?_;rintro⟨i,a,b⟩ h1 ⟨hi,H1⟩;dsimp only at*;refine ae (λe=>?_) (λe=>?_)
 .have F:i<n4 L:=n7
  have G1:=hS.at [_,_,_,_,_,_] H1;refine G1.left.aV i n5 F _ n5 ?_;have hx:=hL _ (qe F);generalize bq:L[i]=x at hx⊢;have o:x.toNat<n4 R:=n7
  obtain⟨m,ap⟩:=I5 (R[x.toNat])
  have er:R.getD x.toNat ([],[])=m:=by rw[qg,qd o,ap];rfl
  have am:=hR m (ap▸qe o);have cp:=br m (ap▸qe o);have hF:=G1.rest.2.1;have a9:x.toNat<n4 rr:=by rw[hF];exact o
  obtain⟨y,hy⟩:=I5 (rr[x.toNat])
  have O:∀{h'},fO kd 2 qv h' r rr R->kd.p h' (λb=>b<h'.size) y m:=λhh=>by rw[hy,ap];exact Fix.row hh o
  refine bs (λt h'=>aa B h0 h' (RA t.1 (aN nd)::RA t.2 m.2::MA a ((L.take i).map rA)::CA b ((L.take i).map rB)::(Told s f p v r V N S J Q I G pl++As))) ?_ ?_
  .have ao:=H1.box 2 n5;refine⟨s,n5,r,ao.cell n5,?_⟩;obtain⟨bb,ha,z,hc,rfl⟩:=G1.rest.1.cG (g:=qv) (i:=x) x.toNat n7 a9 y (by rw[hy]) (K:=λz=>z=y) rfl;refine⟨bb,ha,z.2,hc.2.1,?_⟩;have a3:bx.ok [(s.add 5,xI r.ptr r.len r.cap)] h1:=⟨ao.cell n5,I6⟩
   exact Ni (L:=[((bb.add (x.toNat*2)).add 1,xI z.2.ptr z.2.len z.2.cap),(s.add 5,xI r.ptr r.len r.cap)]) (L2:=[(s.add 5,xI r.ptr r.len r.cap)]) (K:=λa' b' h'=>bx.ok [(s.add 5,xI r.ptr r.len r.cap)] h'/\aa B h0 h' (RA a' (aN nd)::RA b' m.2::MA a ((L.take i).map rA)::CA b ((L.take i).map rB)::(Told s f p v r V N S J Q I G pl++As)))
    z.2 m.2 nd _ H1 (by rw[ad]) a7 (by rw[am.len];exact hw) ⟨hc.2.1,a3⟩ a3 (St.mk' λh' T=>(O (hS.at [_,_,_,_,_,_] T).rest).2) λa b h' P T=>⟨gF P a3,T⟩
  rintro⟨al,u⟩ h2 H2;dsimp only at H2;have G2:=hS.at [_,_,_,_,_,_,_,_] H2;refine⟨s,n5,r,(H2.box 4 n5).cell n5,?_⟩;obtain⟨b3,ha,z,hc,rfl⟩:=G2.rest.1.cG (g:=qv) (i:=x) x.toNat n7 a9 y (by rw[hy]) (K:=λz=>z=y) rfl;refine⟨b3,ha,z.1,hc.1,?_⟩;have b2:=(O G2.rest).1.len;refine aj (λj:Nat=>(j:Int)) (λj h'=>j<=n4 m.1/\aa B h0 h' (RA al (cS W (aN nd) (m.1.take j))::RA u (cS M m.2 (m.1.take j))::MA a ((L.take i).map rA)::CA b ((L.take i).map rB)::(Told s f p v r V N S J Q I G pl++As))) (λj=>n4 m.1-j) 0 n5 ⟨n7,by simpa[cS]using H2⟩ ?_;rintro j h3 ⟨hj,Z⟩;have told:∀c∈m.1.take j,n4 (aA W c.toNat)=nd/\(aA M c.toNat).length=w:=λc hc=>by
   have cc:=am.cX c (zK hc);exact E c.toNat n7
  have X:n4 (cS W (aN nd) (m.1.take j))=nd:=jO sL λc hc=>(told c hc).1;have Y:n4 (cS M m.2 (m.1.take j))=w:=jO am.len λc hc=>(told c hc).2;refine ae (λe2=>?_) (λe2=>?_)
  .have ab:j<n4 m.1:=n7
   have b0:=am.cX _ (qe ab);refine(O (hS.at [_,_,_,_,_,_,_,_] Z).rest).1.aV j n5 ab _ n5 ?_;have tc:=E m.1[j].toNat n7;refine(Dw s f 1 m.1[j] al u J Q _ _ I G W M Z (St.mk' λh' T=>SR (ay (Cs:=[_,_]) T)) b0.1 n7 n7 (by rw[tc.1,X]) (by rw[tc.2,Y]) n7 n7).I3 λh4 U=>⟨(),n5,j+1,o0,⟨n7,by rw[az _ _ ab,rO,rO];exact U⟩,n7⟩
  .have a1:j=n4 m.1:=n7
   subst a1;rw[qt]at Z;have U:=aa.VO (Z.freeze 0 n5 λ_=>rfl) 1 n5;refine U.jD ag 2 0 n8 n5 n5 cI oi λa' h5 H5=>?_;refine H5.DT ag 3 1 n8 n5 n5 cI n5 n8 (λ_=>rfl) jK n5 n8 oi λb' h6 H6=>?_;refine⟨(i+1,a',b'),oj,⟨n9,?_⟩,n9⟩
   try dsimp only
   rw[az _ _ F,qF,qF,bq];have e3:[x].map rA=[cS W (aN nd) m.1]:=by simp only[wu,y5,rA,er]
   have e4:[x].map rB=[cS M m.2 m.1]:=by simp only[wu,y5,rB,er]
   rw[e3,e4];exact H6.aG 8 [2,3,4,5,6,7]
 have a2:i=n4 L:=n7
 subst a2;rw[qt]at H1;have ao:=H1.box 2 n5;refine⟨s,n5,p,ao.cells 1 _ n5,(BP p h1).I4 λq h2 R2=>?_⟩;rw[ax,m6 rfl]at R2;obtain⟨d,a6⟩:=I5 (bA p.1.toNat p.2.1.toNat)
 have b4:n4 d=p.2.1.toNat:=by rw[a6];simp[bA]
 have a8:∀x∈d,n4 x=n:=λx hx=>by rw[hn];exact GA _ _ x (a6▸hx)
 rw[<-a6]at R2⊢;have H2:=(H1.bQ R2).Rl 0 n5;obtain⟨qr,H2⟩:=H2.Fu 0 rfl λ_=>rfl;have cq:=(H2.dg 0 n5).1.len;have cn:=(H2.dg 0 n5).2.1;refine⟨q,n5,?_⟩;let a4:Row->Row:=λx=>gO W x (aN nd) n;let a0:Row->Row:=λx=>gO M x (aN w) n;refine aj (λt:Nat×Sl×Sl=>(t.2.1,t.2.2,(t.1:Int))) (λt h'=>t.1<=n4 d/\aa B h0 h' (ci (iG 1 aq) 1 bv q qr d::MA t.2.1 (L.map rA++(d.take t.1).map a4)::CA t.2.2 (L.map rB++(d.take t.1).map a0)::(Told s f p v r V N S J Q I G pl++As))) (λt=>n4 d-t.1) (0,a,b) n5 ⟨oo,by simpa using H2⟩ ?_;rintro⟨i,a,b⟩ h3 ⟨hi,Z⟩;dsimp only at*;refine ae (λe=>?_) (λe=>?_)
 .have F:i<n4 d:=n7
  have bl:=a8 _ (qe F);have F3:=Z.dg 0 n5;refine F3.1.kX i n5 n7 ?_;have b2:(qr[i]'n7).len=n:=by rw[(Fix.row F3 F).len,bl]
  refine bs (λt h'=>aa B h0 h' (RA t.1 (aN nd)::RA t.2 (aN w)::ci (iG 1 aq) 1 bv q qr d::MA a (L.map rA++(d.take i).map a4)::CA b (L.map rB++(d.take i).map a0)::(Told s f p v r V N S J Q I G pl++As))) ?_ ?_
  .have bk:=Z.box 3 n5;refine⟨s,n5,p.2.2,show hY h3 (s.add 3)=_ from bk.cell n5,?_,?_⟩
   .refine Z.make ag aq cK n8 0 n5 n5 nd nd (by rw[ad]) (by rw[ad]) (qj _) n7 λx h4 _ _ U=>?_;have U:=U.bc;refine⟨⟨show hY h4 (s.add 3)=_ from(U.box 4 n5).cell n5,I6⟩,?_⟩;refine U.make ag aq cK n8 0 n5 n5 w w hp hp (qj _) n7 λy h5 _ _ H5=>⟨I6,H5.bc.nj⟩
   .refine Z.make ag aq cK n8 0 n5 n5 w w hp hp (qj _) n7 λy h4 _ _ U=>⟨I6,?_⟩
    refine U.bc.make ag aq cK n8 0 n5 n5 nd nd (by rw[ad]) (by rw[ad]) (qj _) n7 λx h5 _ _ H5=>⟨I6,H5.bc⟩
  rintro⟨al,u⟩ h4 U;dsimp only at U⊢;refine aj (λj:Nat=>(j:Int)) (λj h'=>j<=n/\aa B h0 h' (RA al (gO W d[i] (aN nd) j)::RA u (gO M d[i] (aN w) j)::ci (iG 1 aq) 1 bv q qr d::MA a (L.map rA++(d.take i).map a4)::CA b (L.map rB++(d.take i).map a0)::(Told s f p v r V N S J Q I G pl++As))) (λj=>n-j) 0 n5 ⟨n7,U⟩ ?_;rintro j h5 ⟨hj,H5⟩;have X:n4 (gO W d[i] (aN nd) j)=nd:=lH _ sL λk hk=>(E k n7).1;have Y:n4 (gO M d[i] (aN w) j)=w:=lH _ sL λk hk=>(E k n7).2;refine ae (λe2=>?_) (λe2=>?_)
  .have ab:j<n:=n7
   have a5:j<d[i].length:=n7
   refine(Fix.row (H5.dg 2 n5) F).aV j n5 a5 _ n5 ?_;have bd:d[i][j]'a5=aM d[i] j:=by rw[aM,qg,qd a5];rfl
   rw[bd];have tc:=E j ab;refine(Dw s f (aM d[i] j) (j:Int) al u J Q _ _ I G W M H5 (St.mk' λh' T=>SR (ay (Cs:=[_,_,_]) T)) n7 n7 n7 (by rw[qi,tc.1,X]) (by rw[qi,tc.2,Y]) n7 n7).I3 λh6 H6=>?_;rw[qi]at H6;exact⟨(),n5,j+1,o0,⟨n7,H6⟩,n7⟩
  .have a1:j=n:=n7
   subst a1;have H6:=aa.VO (H5.freeze 0 n5 λ_=>rfl) 1 n5;refine H6.jD ag 3 0 n8 n5 n5 cI oi λa' h7 H7=>?_;refine H7.DT ag 4 1 n8 n5 n5 cI n5 n8 (λ_=>rfl) jK n5 n8 oi λb' h8 H8=>?_;refine⟨(i+1,a',b'),oj,⟨n9,?_⟩,n9⟩
   try dsimp only
   rw[az _ _ F,qF,qF,<-ql,<-ql];exact H8.aG 9 [2,3,4,5,6,7,8]
 .have a2:i=n4 d:=n7
  subst a2;rw[qt]at Z;exact⟨a,b,n5,Z.rest⟩
end Go.Qw
