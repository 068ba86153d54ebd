/- Lemmas for the proof of the law; no condition. -/
import Derived.Test.YtfjdddcdkcbocaaGreatDoorKC
set_option maxHeartbeats 2000000
set_option linter.unusedVariables false
set_option maxHeartbeats 4000000
set_option linter.unusedSimpArgs false
open Go.Proofs.Tryz renaming prog -> xZ
open List renaming eq_replicate_iff -> vo, getElem?_zip_eq_some -> ym, length_eq_zero_iff -> yA, mem_iff_getElem? -> wV, range -> qz, replicate -> qi, zipWith -> zn, zip_append -> xD
open Go.Value renaming agg -> xU, bool -> xT, int -> xP, pointer -> xR, slice -> xQ, string -> xS
open Go.IntKind renaming bits -> qx, i64 -> xV, signed -> yG, u32 -> xX, u64 -> xY, u8 -> xW, wrap -> qe
open Prod renaming fst -> qF, snd -> zk
open Option renaming some -> wm
open Int renaming fdiv -> zr, tdiv -> yD
open Go.Instr renaming slice -> xO, sliceAt -> ye, sliceBounds -> we, storeAt -> qL
open BitVec renaming ofInt -> qH
open UInt8 renaming ofNat -> zO
set_option maxRecDepth 100000
open Option renaming some -> cO, none -> dB
open Bool renaming true -> eH, false -> eL
open Go renaming Addr -> fY
open Go.Qw renaming cellOf -> hU, Heap -> hY
open List renaming length -> n1
open Go.Qw.cT renaming two -> E8, n -> E9, inn -> F8, loop -> G0, tn -> G7, lp -> Hf, jn -> HF
namespace Go.Qw
open Go.Proofs
variable {B:au} {h0 h:hY} {As:List HP}
def uS(pool:List (Sl×aD)):HP:=⟨λh q=>∀x∈pool,Seq h q x.1 1 aq x.2,λa d x b=>(a x b).ac d,λa c x b=>(a x b).mono c⟩
theorem aa.VV(H:aa B h0 h As):aa B h0 h (As++[uS []]):=H.comp (.one (aP.refl _ _) λx a=>E3)
theorem aa.ZO(H:aa B h0 h As)(i j:Nat)(b:i≠j){pool:List (Sl×aD)}{r:Sl}{l:aD}(f:As[i]?=cO (uS pool))(e:As[j]?=cO (vz r 1 aq l)):aa B h0 h ((As.set i (uS (pool++[(r,l)]))).set j emp):=
 H.merge i j b f e λg k _ c d x a=>by
  rcases qu.1 a with a|a
  .exact(c x a).mono λ_ h=>.inl h
  .rw[qA]at a;subst a;exact Seq.mono d λ_ h=>.inr h
abbrev acL:bS C.toAk 333 22 1 [xQ dB 0 0] 24:=⟨_,_,n2,n2,n2,n2,n2,n2⟩
theorem Pd(s c:fY)(r:Sl)(x:Int×Int)(h':hY)(e:hU h' c=cO (xR (cO s))/\hU h' (s.add 5)=cO (xQ r.ptr r.len r.cap)):
  an xZ 306 ([Value.agg #[xP xV x.1,xP xV x.2]]++(#[Value.pointer (cO c)]:Array Value).toList).toArray h' λv d=>v=xT (decide (x.1>=(r.len:Int)))/\Sp h' d []:=by
 refine ts Tryz.func306 ?_ (args:=[x,c]);refine(Sp.refl h').boxed λa f b=>?_;exact⟨x.1,(b.box 0 n2).cell0 n2,cO s,ee e.1 b.ac,s,n2,r,ee e.2 b.ac,n2,.zip b.ac⟩
theorem Pe(s a:fY)(r:Sl)(x:Int)(h':hY)(c:hU h' a=cO (xR (cO s))/\hU h' (s.add 5)=cO (xQ r.ptr r.len r.cap)):
  an xZ 308 ([Value.int .i64 x]++(#[Value.pointer (cO a)]:Array Value).toList).toArray h' λv b=>v=xT (decide (x>=(r.len:Int)))/\Sp h' b []:=by
 refine ts Tryz.func308 ?_ (args:=[(x:Int),a]);exact⟨cO s,c.1,s,n2,r,c.2,n2,Sp.refl _⟩
theorem Pf(s f:fY)(p:Int×Int×Int)(v r m d j P Q kn:Sl)(A:List (Sl×Sl))(R:List fm)(known:List Bool)(n:Nat)(H:aa B h0 h (SA s (il f p v r m d j P Q)::As))(hS:St B h0 As λh=>gA kh 2 qv h r A R/\Rd h kn 1 fp known)(ap:n1 known=n)(hn:n<=64)(a5:n1 R<=2^19)(al:∀e∈R,n1 e.1<=2^20)
  (z:jI (n:Int) (rowsOf R known n)=eH) (W:(eN n (rowsOf R known n)).steps.length<=2^20/\(fO (eN n (rowsOf R known n)).used (rowsOf R known n).length).length<=2^20):
  an xZ 246 #[xR (cO s),kn] h λv' h'=>v'=.tuple #[]/\∃N E J:Sl,aa B h0 h' (SA s (il f p v r N E J P Q)::ai 338 N 2 ge ((eN n (rowsOf R known n)).steps.filter λx=>decide (x.1<n1 R))::ai 3 E 1 aq (eN n (rowsOf R known n)).dead::ai 3 J 1 aq ((fO (eN n (rowsOf R known n)).used (rowsOf R known n).length).filter λx=>decide (x<n1 R))::As):=by
 refine ts Tryz.func246 ?_ (G7 (G7 (E8 (G7 (F8 (G0 [(4,bN),(16,aH)] [(4,5),(6,7),(16,26)] E9))) (Hf [(4,bN),(28,aH)] [(4,5),(7,9),(28,40)]))));refine H.boxed λq F T=>?_;have T:=T.bf;refine⟨cO s,(T.box 0 n2).cell0 n2,s,n2,r,(T.box 1 n2).cell n2,?_⟩;have G1:=hS.at [_,_] T;have ab:=G1.1.1.len;have I:=G1.1.2.1;have Y:=G1.2.len;let pre:List HP:=[aj q 280 [xR (cO s)],SA s (il f p v r m d j P Q)]
 have H2:aa B h0 F (ai 22 ⟨dB,0,0⟩ 1 bv []::uS []::aj q 280 [xR (cO s)]::SA s (il f p v r m d j P Q)::As):=((aa.VV T).bf.nil 22 1 bv).bf;refine ak (λt:Nat×Sl=>(t.2,(t.1:Int))) (λt h'=>t.1<=n1 R/\aa B h0 h' (ai 22 t.2 1 bv ((A.take t.1).map qF)::uS []::aj q 280 [xR (cO s)]::SA s (il f p v r m d j P Q)::As)) (λt=>n1 R-t.1) (0,⟨dB,0,0⟩) n2 ⟨n9,by simpa using H2⟩ ?_;rintro⟨i,o⟩ h3 ⟨hi,H3⟩;dsimp only at*;refine ae (λe=>?_) (λe=>?_)
 .have ax:i<n1 R:=n3
  have G3:=hS.at [_,_,_,_] H3;refine G3.1.1.cH (g:=qv) i n2 n3 (A[i]'n3) n2 ?_;refine H3.alloc af n2 λa8 h4 u=>?_;have u:=u.bf;refine u.storeAll af 0 n2 n2 (qv (A[i]'n3)) n2 n2 n2 n2 λh5 G=>?_;refine⟨(A[i]'n3).1,(G.box 0 n2).cell0 n2,?_⟩;refine G.nE.push af 0 n2 acL n2 n4 (λ_=>rfl) jK (A[i]'n3).1 n2 n4 n7 λo' h6 V=>?_;refine⟨(i+1,o'),n8,⟨n5,?_⟩,n5⟩
  try dsimp only
  rw[aC A i,qG];exact V
 have M:i=n1 R:=n3
 subst M;rw[qh n3]at H3;refine ak (λt:Nat×Sl×List Sl=>(t.2.1,(t.1:Int))) (λt h'=>t.1<=n/\t.2.2.length=(iw known t.1).length/\aa B h0 h' (ai 22 t.2.1 1 bv (A.map qF++t.2.2)::uS (t.2.2.zip (iw known t.1))::aj q 280 [xR (cO s)]::SA s (il f p v r m d j P Q)::As)) (λt=>n-t.1) (0,o,[]) n2 ⟨n3,n2,by simpa using H3⟩ ?_;rintro⟨i,o,sr⟩ h4 ⟨hi,D,u⟩;dsimp only at*;have a0:=BS known i;refine ae (λe=>?_) (λe=>?_)
 .have ax:i<n:=n3
  have G4:=hS.at [_,_,_,_] u;refine G4.2.aX i n2 n3 _ n2 ?_;have am:known.getD i eL=known[i]'n3:=by rw[qg,qd n3];rfl
  have L:=IG known i;rw[am]at L;refine aU (λe2=>?_) (λe2=>?_)
  .rw[e2,l0 rfl]at L;refine u.lit af aq eK n2 [(i:Int)] n2 (show 1*1<=2^20 by decide) n2 λb h5 G=>?_;have G:=G.bf.freeze 0 n2 λ_=>rfl;have V:=aa.ZO G 2 0 n4 n2 n2;refine V.push af 1 n2 acL n2 n4 (λ_=>rfl) jK b n2 n4 n7 λo' h7 X=>?_;refine⟨(i+1,o',sr++[b]),n8,⟨n5,by dsimp only;rw[L];simp[D],?_⟩,n5⟩
   try dsimp only
   rw[L,xD D,<-qo];exact X.nE
  .rw[e2,m6 n9,qR]at L;exact⟨(i+1,o,sr),n8,⟨n5,by dsimp only;rw[L];exact D,by dsimp only;rw[L];exact u⟩,n5⟩
 have M:i=n:=n3
 subst M;have G4:=hS.at [_,_,_,_] u;have O:(rowsOf R known i).length=n1 R+n1 sr:=by rw[rowsOf,qq,qp,D]
 have Z:gP h4 (λb=>b<h4.size) o 1 aq (rowsOf R known i) (A.map qF++sr):=by
  refine⟨u.seq 0 n2 λ_=>rfl,by rw[O];simp;omega,λk a l F S=>?_⟩;by_cases hk:k<n1 R
  .rw[qw n7,qP,qd n3]at F;rw[rowsOf,qw n7,qP,qd hk]at S;simp only[zp,wm.injEq]at F S;subst F;subst S;exact(Fix.row G4.1 hk).1
  .rw[ql n7]at F;rw[rowsOf,ql n7]at S;simp only[qp,I]at F S;have hm:(a,l)∈sr.zip (iw known i):=by refine wV.2 ⟨k-n1 R,?_⟩;rw[ym];exact⟨F,S⟩
   exact(u.at 1 n2) _ hm
 rw[Y,ap];refine(VN (i:Int) o (rowsOf R known i) _ h4 Z n3 ?_).mono ?_
 .intro x hx;rcases qu.1 hx with hx|hx
  .obtain⟨e,he,rfl⟩:=qI.1 hx;have:=al e he;omega
  .obtain⟨c,hc,rfl⟩:=qI.1 hx;simp
 rintro _ h5 ⟨N,E,J,rfl,R5⟩;have ah:BD (i:Int) (rowsOf R known i)=((eN i (rowsOf R known i)).steps,(eN i (rowsOf R known i)).dead,fO (eN i (rowsOf R known i)).used (rowsOf R known i).length):=by unfold BD;rw[l0 z,qj]
 rw[ah]at R5;dsimp only at R5;have G:=((u.nE).nE).comp R5;refine⟨((N,E,J),_),n2,?_⟩;have V:=aa.front (As:=aj q 280 [xR (cO s)]::SA s (il f p v r m d j P Q)::As) (Bs:=[_,_,_]) G;refine V.alloc af n2 λa7 h7 X=>?_;have X:=X.bf;refine X.storeAll af 0 n2 n2 [N,E,J] n2 n2 n2 n2 λh8 H8=>?_;refine⟨N,(H8.box 0 n2).cell0 n2,?_⟩;refine(Nx N _ 306 #[xR (cO q)] (λx=>decide (x.1>=(r.len:Int))) (λh'=>hU h' q=cO (xR (cO s))/\hU h' (s.add 5)=cO (xQ r.ptr r.len r.cap)) n2 (St.mk' λh' H'=>⟨(H'.box 3 n2).cell0 n2,(H'.box 4 n2).cell n2⟩) (λx h' hq=>Pd s q r x h' hq) H8.nt W.1).I2 λw h9 H9=>⟨w,n2,?_⟩;refine H9.gx af 1 n2 n2 [w] n2 n2 n2 n9 λa4 ad=>?_;refine⟨J,(ad.box 1 n2).cell n2,?_⟩;have ao:=ad.aF 6 [3,0,1,2,4,5];refine(Nw J _ 308 #[xR (cO q)] (λx=>decide (x>=(r.len:Int))) (λh'=>hU h' q=cO (xR (cO s))/\hU h' (s.add 5)=cO (xQ r.ptr r.len r.cap)) n2 (St.mk' λh' H'=>⟨(H'.box 3 n2).cell0 n2,(H'.box 4 n2).cell n2⟩) (λx h' hq=>Pe s q r x h' hq) ao W.2).I2 λy a3 ay=>⟨y,n2,?_⟩;refine ay.store af 2 n2 n2 2 [y] n2 n2 n2 n9 λa2 K=>?_;refine⟨cO s,(K.box 4 n2).cell0 n2,(w,E,y),(K.box 2 n2).aw _ n2,s,n2,?_⟩;refine K.store af 5 n2 n2 6 [w,E,y] n2 n2 n2 A7 λa6 U=>⟨n2,w,E,y,?_⟩
 have e1:(λx:Int×Int=>!decide (x.1>=(r.len:Int)))=λx=>decide (x.1<(n1 R:Int)):=by
  funext x;rw[ab,I];by_cases h:x.1<(n1 R:Int)
  .rw[m9 h,nb n3];rfl
  .rw[nb h,m9 n3];rfl
 have e2:(λx:Int=>!decide (x>=(r.len:Int)))=λx=>decide (x<(n1 R:Int)):=by
  funext x;rw[ab,I];by_cases h:x<(n1 R:Int)
  .rw[m9 h,nb n3];rfl
  .rw[nb h,m9 n3];rfl
 rw[e1,e2]at U;exact U.aF 6 [5,1,3,0]
theorem uT{l:Row}:¬gY l<n1 l↔l=aN l.length:=by
 rw[gY,List.findIdx_lt_length];constructor
 .intro h;refine vo.2 ⟨n2,λx b=>?_⟩;by_cases a:x=0
  .exact a
  .exact absurd ⟨x,b,B4⟩ h
 .rintro h ⟨x,b,a⟩;have:=(vo.1 h).2 x b;subst this;simp at a
theorem Ph(f:fY)(a b:Sl)(A B:aO)(m n w:Nat)(h:hY)(hf:ig h f)(ha:eu h a 1 ar A)(hb:eu h b 1 ar B)(hl:n1 A=m)(b0:n1 B=m)(q:aW n A)(hB:aW w B)(b1:1<=n)(hn:n+w<=64)(hm:m<=2^20)(hr:cx A=n):
  an xZ 208 #[xR (cO f),a,b] h λv h'=>(jc n A B/\∃r:Sl,v=.tuple #[r,xP xV 0]/\Sp h h' [dD 41 r 1 ar (eS n A B)])∨(¬jc n A B/\v=.tuple #[xQ dB 0 0,xP xV 10]/\Sp h h' []):=by
 have br:n<=m:=by have:=mD A q;omega
 have d:n1 B=n1 A:=n3
 have a3:=ha.len;have Y:=hb.len;refine ts Tryz.func208 ?_ (G7 (HF [] [(6,8),(17,37)] (G7 (G7 (E8 (G7 (F8 (G0 [(43,aH)] [(10,11),(43,59)] E9))) (G7 (G7 (E8 (G7 (F8 (G0 [(71,aH)] [(6,8),(13,14),(71,79)] E9))) (G7 (Hf [(14,bN),(83,aH)] [(14,15),(16,17),(83,95)]))))))))));refine aE ?_;refine(mL a A n h ha q).mono ?_;rintro v K ⟨rfl,rfl⟩;refine⟨_,n2,aI (λe=>oj) λ_=>?_⟩;refine(mL b B w K hb hB).mono ?_;rintro v N ⟨rfl,rfl⟩;refine⟨_,n2,aI (λe=>oj) λ_=>?_⟩;refine bt (λe=>absurd (by rw[a3,Y,d]) e) λ_=>?_;refine aV (λe=>n3) λ_=>?_;refine(pP a A N ha).mono ?_;rintro v h3 ⟨rfl,rfl⟩;have al:ez A=n:=by
  cases A with
  |nil=>simp at hl;omega
  |cons x t=>rw[ez,bh n9];exact q _ n9
 refine⟨_,n2,?_⟩;rw[al];refine(uf a A n h3 ha q).mono ?_;rintro v h4 ⟨r,rs,rfl,a8,R4⟩;refine⟨r,n2,?_⟩;have a5:=(R4.own 0 n2).len;refine ak (λt:Nat×List Sl=>(t.1:Int)) (λt h'=>t.1<=m/\t.2.length=m/\Sp h3 h' (kS r t.2 (oy A B t.1))) (λt=>m-t.1) (0,rs) n2 ⟨n9,n5,by simpa[oy,eI]using R4⟩ ?_;rintro⟨k,rs⟩ h5 ⟨hk,b2,X⟩;dsimp only at*;have W:n1 rs=(oy A B k).length:=A9
 refine ae (λe=>?_) (λe=>?_)
 .have Z:k<m:=n3
  have R:k<n1 A:=n3
  have F:=lC (a:=r) W k A9;have eg:(oy A B k)[k]'(by rw[rK d];omega)=A[k]:=by have:=Vl d R;rw[qd A9]at this;exact wm.inj this
  rw[eg]at F;have l1:A[k].length=n:=q _ (qf _);have l2:(B[k]'n3).length=w:=hB _ (qf _);refine(X.seq 0 n2 λ_=>rfl).dQ k n2 n3 λa1 ab S=>?_;refine(hb.up X.ac).get k n2 n3 λrb ao=>?_;refine X.append af (k+1) F cN uh n2 n4 (λ_=>rfl) ao cD n3 λs6 h6 H6=>⟨I4,?_⟩
  refine H6.set af 0 n2 (λ_=>rfl) n2 k n2 n3 s6 n2 n2 n2 λh7 H7=>⟨I4,?_⟩
  refine⟨(k+1,rs.set k s6),n8,⟨n5,p7,?_⟩,n5⟩
  try dsimp only
  rw[<-Vm d R];show Sp h3 h7 (ai 41 r 1 bv (rs.set k s6)::bg 5 1 ar (rs.set k s6) ((oy A B k).set k _));rw[<-gS W];exact H7
 .have ay:k=n1 A:=n3
  subst ay;rw[Vn d]at X;refine(sh f h5).mono ?_;rintro v h6 ⟨rfl,rfl⟩;refine⟨cO f,n2,?_⟩;have G:=lJ d.symm q hB;have a9:=lq d.symm;refine(wS (m:=eI A B) (n:=n+w) hf hf.lt n3 G n3 n3 n3 X).mono ?_;rintro v h7 ⟨l,rfl,a6,u⟩;rw[tK d.symm q,hr];refine⟨_,n2,?_⟩
  try dsimp only
  have P:=(u.own 0 n2).cap;have bl:=(u.own 0 n2).len;have N:=fS G n;refine ae (λe=>absurd (show(n:Int)<(n:Int)from e) n3) λ_=>?_;refine⟨⟨zi _,wG.2 (show n<=r.len by omega)⟩,?_⟩;obtain⟨M,Q⟩:=I3 ((bc (eI A B) n).2)
  have bb:n1 M=n1 A:=by have:=N.2;rw[<-Q]at this;omega
  have J:aW (n+w) M:=by rw[Q];exact N.1
  rw[<-Q]at u;have I:n1 l=n1 M:=n3
  have p:jc n A B↔∀i (H:i<n1 M),n<=i->M[i]=aN M[i].length:=by
   unfold jc;rw[<-Q];constructor
   .intro U i H hn;refine U _ (wV.2 ⟨i-n,?_⟩);rw[List.getElem?_drop,show n+(i-n)=i by omega,qd H]
   .intro U x hx;obtain⟨i,H,rfl⟩:=qE hx;simp only[qJ]at H;rw[zR];exact U _ n3 n3
  refine ak (λi:Nat=>(i:Int)) (λi h'=>h'=h7/\n+i<=n1 M/\∀j (hj:j<n1 M),n<=j->j<n+i->M[j]=aN M[j].length) (λi=>n1 M-(n+i)) 0 n2 ⟨n2,n3,λj _ _ _=>n3⟩ ?_;rintro i h8 ⟨rfl,H,o⟩;rw[qj];refine ae (λe=>?_) (λe=>?_)
  .have g:n+i<n1 M:=n3
   have F:=lC (a:=r) I (n+i) n3;have a2:(M[n+i]'g).length=n+w:=J _ (qf _);have E:=u.seq (n+i+1) F λ_=>rfl;have y:=(u.seq 0 n2 λ_=>rfl).drop n P;have ad:(l.drop n)[i]'(by simp;omega)=l[n+i]'n3:=zR;refine y.dQ i n2 n7 λa1 ab S=>?_;rw[ad];refine(VC _ _ h8 E n3).mono ?_;rintro _ h9 ⟨rfl,rfl⟩;refine⟨_,n2,ae (λV=>?_) λV=>?_⟩
   .right;have z:gY (M[n+i]'g)<(M[n+i]'g).length:=by
     by_cases hh:gY (M[n+i]'g)<(M[n+i]'g).length
     .exact hh
     .rw[m6 hh]at V;exact absurd V n4
    refine⟨λU=>?_,n2,.zip u.ac⟩;have:=p.1 U (n+i) g n3;exact absurd z (uT.2 this)
   .have z:¬gY (M[n+i]'g)<(M[n+i]'g).length:=λhh=>by
     rw[l0 hh]at V;exact V (zi _)
    refine⟨i+1,oi,⟨n2,n3,λj hj K N=>?_⟩,n3⟩;by_cases ap:j=n+i
    .subst ap;exact uT.1 z
    .exact o j hj K n3
  refine⟨⟨zi _,wG.2 (show n<=r.cap by omega)⟩,?_⟩;have D:jc n A B:=p.2 λj hj K=>o j hj K n3;have e1:eS n A B=(M.take n).map (List.drop n):=by rw[eS,<-Q]
  have L:∀k (hk:k<n),(eS n A B).take (k+1)=(eS n A B).take k++[(M[k]'n3).drop n]:=λk hk=>by
   rw[e1,aC _ _ n7,zB,zL]
  have a7:(eS n A B).length=n:=(pH d.symm q hB hr).1;refine ak (λt:Sl×Nat=>(t.1,(t.2:Int))) (λt h'=>t.2<=n/\Sp h8 h' [dD 41 t.1 1 ar ((eS n A B).take t.2)]) (λt=>n-t.2) (⟨dB,0,0⟩,0) n2 ⟨n9,(Sp.refl h8).sv 41 1 ar⟩ ?_;rintro⟨s,k⟩ h9 ⟨bd,H9⟩;dsimp only at*;have HH:=u.comp H9;refine ae (λe=>?_) (λe=>?_)
  .have Z:k<n:=n3
   have F:=lC (a:=r) I k n3;have O:(kS r l M++[dD 41 s 1 ar ((eS n A B).take k)])[k+1]?=cO (ai 5 (l[k]'n3) 1 ar (M[k]'n3)):=by rw[qw (by simp[bg];omega)];exact F
   have a2:(M[k]'n3).length=n+w:=J _ (qf _);have T:=HH.own (k+1) O;have E:=HH.seq (k+1) O λ_=>rfl;have a4:=T.len;have y:=(HH.seq 0 n2 λ_=>rfl).take n n3;have ax:(l.take n)[k]'(by simp;omega)=l[k]'n3:=zL;refine y.dQ k n2 n7 λa1 ab S=>?_;rw[ax];refine⟨⟨zi _,wG.2 n3⟩,?_⟩;refine(fT _ _ h9 (E.drop n T.cap) n7).I2 λc bq am=>?_;have a0:=(H9.comp am).freeze 1 n2 λ_=>rfl;refine⟨c,n2,?_⟩;refine a0.jE af 0 1 n4 n2 n2 cM n7 λs' bk ah=>?_;refine⟨(s',k+1),n8,⟨n5,?_⟩,n5⟩
   try dsimp only
   rw[L k Z];exact ah.del 1
  .rw[qh n3]at H9;refine .inl ⟨D,s,n2,?_⟩;have:=(Sp.zip u.ac).comp H9;exact this
theorem Ny:∀{l:aD},l.Pairwise (·<·)->fH l=eH
 |[],_=>rfl
 |[_],_=>rfl
 |a::b::r,h=>by
  rw[List.pairwise_cons]at h;rw[fH,Ny h.2,m9 (h.1 b n9)];rfl
theorem Tb{l:aD}(h:l.Pairwise (·<·)):IU l:=λi a=>List.pairwise_iff_getElem.1 h i (i+1) n3 a n3
theorem Tc{n:Nat}{R:List fm}{known:List Bool}(i:n<=64)(f:∀e∈R,(∀c∈e.1,0<=c/\c<(n:Int))/\e.1.Pairwise (·<·)):jI (n:Int) (rowsOf R known n)=eH:=by
 unfold jI;rw[qC];refine⟨n7,qU.2 λr a=>?_⟩;unfold fI;rw[qC];rcases qu.1 a with a|a
 .obtain⟨e,b,rfl⟩:=qI.1 a;exact⟨qU.2 λc g=>oo,Ny (f e b).2⟩
 .obtain⟨d,rfl,h,_⟩:=uL a;exact⟨oo,n2⟩
theorem aa.acM{e:Nat}{v:Sl}{vs:aO}(H:aa B h0 h As)(i:Nat)(r:As[i]?=cO (db e v 1 bv (rZ 1 ar) vs)):
  ∃f:List Sl,aa B h0 h (As.set i (ai e v 1 bv f)++[fP (f.zip vs)])/\f.length=n1 vs/\∀(c:Nat) (m:c<n1 f) (o:c<n1 vs),f[c].ptr.isNone=vs[c].isEmpty:=by
 have g:i<n1 As:=(qm.1 r).1;have w:aa B h0 h (As.set i (HP.ex λf:List Sl=>((ai e v 1 bv f).sep (fP (f.zip vs))).and (n1 f=n1 vs/\∀(c:Nat) (m:c<n1 f) (o:c<n1 vs),f[c].ptr.isNone=vs[c].isEmpty))):=
  H.dG i r λq ⟨rs,s,a,b,c,d,e⟩=>⟨rs,⟨λb=>v.on b,s,λx j=>(b x j).2,λx j=>(b x j).1,c,⟨a,λx j=>j⟩,λx j=>by
   obtain⟨k,u,l⟩:=qE j;simp only[List.length_zip]at u;rw[yt]at l;subst l;exact(e k _ _ (qd n3) (qd n3)).1⟩,d,λk m o=>by
   obtain⟨x,y⟩:=e k _ _ (qd m) (qd o);cases hv:vs[k]with
   |nil=>grind
   |cons z t=>
    have:=x.isSome oo
    grind⟩
 obtain⟨f,n⟩:=w.La i (zG g);rw[vd]at n;have D:=n.fact i (zG g);have p:=n.Zf i (zG g);rw[vd]at p;have A:=p.split i (zG g);rw[vd]at A
 grind
def yv(x:Int×Sl):aR:=[xP xV x.1,x.2]
def adU:jg (Int×Sl) (Int×Row):=⟨λh q a b=>a.1=b.1/\Seq h q a.2 1 ar b.2,λa d=>⟨a.1,a.2.ac d⟩,λa c=>⟨a.1,a.2.mono c⟩⟩
abbrev BE:jg Sl (List (Int×Row)):=bW adU 2 yv
theorem Te{a:List Sl}{vs:aO}(h:n1 a=n1 vs)(pl:List (Sl×Row))(b:∀x∈a.zip vs,x∈pl):cb pl id a vs:=
 ⟨h,λi r l d c=>b _ (wV.2 ⟨i,by rw[ym];exact⟨d,c⟩⟩)⟩
theorem Nz{α β:Type}:∀(a:List α) (x:α) (l:List β) (h:n1 a<n1 l),(a++[x]).zip l=a.zip l++[(x,l[n1 a])]
 |[],x,b::l,_=>n9
 |c::a,x,b::l,h=>by
  have:=Nz a x l u0;simp[this]
def ZP(h h':hY)(v:Value)(n:Nat)(A a:aO):Prop:=
 (jc n A a/\∃r:Sl,v=.tuple #[r,xP xV 0]/\Sp h h' [MA r (eS n A a)])∨(¬jc n A a/\v=.tuple #[xQ dB 0 0,xP xV 10]/\Sp h h' [])
theorem Ys(p:Pm)(seed:Int)(l:Sl)(d:List (Int×Row))(n w:Nat)(h:hY)(hl:fk BE h l d)(z:bJ p=eH)(b0:∀x∈d,Eo p x)(hn:(bE p).toNat=n)(hw:p.2.2.toNat=w)(ek:n1 d<=2^18)(hr:cx (eG p seed (d.map qF))=n):
  an xZ 177 #[gr p,xP xX seed,l] h λv h'=>ZP h h' v n (eG p seed (d.map qF)) (mG p d):=by
 refine ts Tryz.func177 ?_ (G7 (.fwd (G7 (E8 (G7 (F8 (G0 [(8,bN),(23,aH)] [(8,9),(10,11),(23,39)] E9))) (HF [(11,Zm)] [(11,12),(39,43)] E9))) [(0,[E9]),(1,[(.two (.two E9 (.inn (.loop [(95,aH)] [(20,21),(95,104)] E9))) E9)]),(2,[E9])])) [(5,(.l [0,1,2,3,4,6,7,5,8,9,10,11])),(7,(.l [1,0,2,3,4]))] (args:=[p,(xP xX (seed:Int)),l]);have en:=(bL p).1 z;have eh:bE p=n:=by rw[<-hn];have:=pG z;omega
 have c0:n=p.1.toNat+p.2.1.toNat:=by rw[<-hn,pG z];omega
 have c4:p.2.2=(w:Int):=n3
 have c5:1<=n:=n3
 have cc:n<=20:=n3
 obtain⟨U,ef,e4,c6⟩:=bW.ku hl;have er:=bW.len hl;let m:List fm:=sE n seed d;have ej:n1 m=n1 d:=by simp[m,sE]
 have K:=abU (seed:=seed) c5 cc b0 hw;let y:Nat->cR:=λi=>(d.take i).map λx=>ey n seed x.1;have ab:∀x:Int×Row,x∈d->(bJ p&&bQ x.1)=eH:=λx hx=>by rw[z,(b0 x hx).id];rfl
 refine(Sp.refl h).boxed λa1 N H1=>?_;have d8:=((aa.VV H1).nil 279 2 qv).bs [2,1,0];refine ak (λt:Nat×Sl×List Sl=>(t.2.1,(t.1:Int))) (λt h'=>t.1<=n1 d/\t.2.2.length=t.1/\Sp h h' [ai 279 t.2.1 2 qv (t.2.2.zip (U.map zk)),uS (t.2.2.zip (y t.1)),aj a1 24 [xP xV p.1,xP xV p.2.1,xP xV p.2.2]]) (λt=>n1 d-t.1) (0,⟨dB,0,0⟩,[]) n2 ⟨n9,n2,d8⟩ ?_;rintro⟨i,o,cr⟩ h2 ⟨hi,b2,H2⟩;dsimp only at*;have ca:(y i).length=i:=by simp[y];omega
 refine ae (λe=>?_) (λe=>?_)
 .have V:i<n1 d:=n3
  obtain⟨y1,y2⟩:=c6 i n3 V;refine(Seq.up ef H2.ac).cH (g:=yv) i n2 n3 (U[i]'n3) n2 ?_;refine H2.alloc af n2 λa5 h3 H3=>?_;refine H3.storeAll af 3 n2 n2 (yv (U[i]'n3)) n2 n2 n2 n2 λh4 P=>?_;refine⟨p,(P.box 2 n2).aw _ n2,(U[i]'n3).1,(P.box 3 n2).cell0 n2,(U[i]'n3).2,(P.box 3 n2).cell n2,?_⟩;refine(uP p seed (U[i]'n3).1 h4).I2 λr h5 R5=>?_;rw[y1,ab _ (qf V),l0 rfl,hn]at R5;have H5:=(P.comp R5).freeze 4 n2 λ_=>rfl;refine⟨r,n2,⟨(H5.box 3 n2).cell n2,I4⟩,?_⟩;have H6:=aa.ZO H5 1 4 n4 n2 n2;have eb:=H6.box 3 n2;refine H6.ir af qv eQ n2 [(r,(U[i]'n3).2)] n2 (show 1*2<=2^20 by decide) n2 ⟨eb.cell n2,I4⟩ ?_;refine H6.push af 0 n2 eQ n2 n4 (λ_=>rfl) VE (r,(U[i]'n3).2) n2 n4 n7 λo' h7 H7=>?_;refine⟨⟨(H7.box 3 n2).cell n2,I4⟩,?_⟩;refine⟨(i+1,o',cr++[r]),n8,⟨n5,by simp[b2],?_⟩,n5⟩
  try dsimp only
  have e1:y (i+1)=y i++[ey n seed d[i].1]:=by simp only[y];rw[aC _ _ V,qG];rfl
  have e2:(cr++[r]).zip (U.map zk)=cr.zip (U.map zk)++[(r,(U[i]'n3).2)]:=by rw[Nz cr r (U.map zk) n7,zB];simp only[b2]
  rw[e1,e2,xD (by rw[b2,ca])];exact H7.bs [0,1,2]
 have d1:i=n1 d:=n3
 subst d1;have d2:y d.length=d.map λx=>ey n seed x.1:=by simp only[y];rw[qy]
 rw[d2]at H2;have d0:∀{h':hY},(∀x∈cr.zip (d.map λx=>ey n seed x.1),Qw.Seq h' (λb=>b<h'.size) x.1 1 aq x.2)->aP (λb=>b<h.size) h h'->Qw.Seq h' (λb=>b<h'.size) o 2 qv (cr.zip (U.map zk))->fk pf h' o m:=λ{h'} hp hpr hs=>by
  refine⟨_,hs,by simp[m,sE];omega,λk a b N h2=>?_⟩;have hk:k<n1 d:=by have:=(qm.1 h2).1;omega
  rw[qd n7,yt,zB]at N;have e2:m[k]?=cO (ey n seed d[k].1,d[k].2):=by simp[m,sE,hk]
  rw[e2]at h2;simp only[wm.injEq]at N h2;subst N;subst h2;refine⟨hp (cr[k]'n3,ey n seed d[k].1) (wV.2 ⟨k,?_⟩),Seq.up (c6 k n3 hk).2 hpr⟩;rw[ym];exact⟨qd _,by simp[hk]⟩
 refine bj (λs h'=>∃(a4 f:fY),s=cO a4/\Sp h h' [SA a4 (il f p ⟨dB,0,0⟩ ⟨dB,0,0⟩ ⟨dB,0,0⟩ ⟨dB,0,0⟩ ⟨dB,0,0⟩ ⟨dB,0,0⟩ ⟨dB,0,0⟩),ai 279 o 2 qv (cr.zip (U.map zk)),uS (cr.zip (d.map λx=>ey n seed x.1)),aj a1 24 [xP xV p.1,xP xV p.2.1,xP xV p.2.2],aj f 309 eU]) ?_ ?_
 .refine⟨p,(H2.box 2 n2).aw _ n2,(sJ h2).I2 λf h3 R3=>?_⟩;have H3:=H2.comp R3;refine⟨cO f,n2,⟨(H3.box 2 n2).cell0 n2,(H3.box 2 n2).cell n2,(H3.box 2 n2).cell n2,I4⟩,?_⟩;refine H3.boxed λa4 h4 P=>?_;exact⟨⟨(P.box 2 n2).cell0 n2,(P.box 2 n2).cell n2,(P.box 2 n2).cell n2,I4⟩,a4,f,n2,P.bs [4,0,1,2,3]⟩
 rintro _ h3 ⟨s,f,rfl,H3⟩;refine⟨p,(H3.box 3 n2).aw _ n2,(lW p h3).I1 λh4 R4=>?_⟩;have P:=H3.up R4.ac;refine⟨_,n2,?_⟩;rw[eh];have ec:fk pf h4 o m:=d0 (P.at 2 n2) P.ac (P.seq 1 n2 λ_=>rfl);have b6:∀e∈m,n1 e.1<=2^20:=λe G=>by
  obtain⟨x,hx,rfl⟩:=qI.1 G;have:=mz c5 cc seed x.1;dsimp only;omega
 refine(VJ o m n w h4 ec (λe G=>⟨(K e G).1,Tb (K e G).2⟩) n3 n3 ⟨n3,n3⟩ b6).mono ?_;have hA:aW n (bz p.1.toNat p.2.1.toNat):=by rw[c0];exact GC _ _
 have eA:=RX (seed:=seed) z hn b0;have eB:=RY (seed:=seed) (n:=n) (p:=p) (l:=d) hw;rw[<-eA]at hr⊢;rw[<-eB];rintro _ h5 ⟨known,vals,hI,⟨ab,rfl,R5⟩|⟨ab,k,v,rs,rfl,R5⟩⟩
 .refine⟨(⟨dB,0,0⟩,⟨dB,0,0⟩,⟨dB,0,0⟩,10),n2,bt (λ_=>?_) λe=>absurd e n4⟩;exact .inr ⟨Ux (λe G=>(K e G).1) hA hI ab hr,n2,(P.up R5.ac).bs []⟩
 refine⟨(k,v,rs,0),n2,bt (λe=>absurd n2 e) λ_=>?_⟩;have S:=XB (λe G=>(K e G).1) hA hI ab;have F:=JF (λe G=>(K e G).1) hI;obtain⟨f1,f2,f3,f4,f5⟩:=GK (λe G=>(K e G).1) hI;have H:=ou hI λe G=>(K e G).1;have bk:=aak (known:=known) (vals:=vals) λe G=>(K e G).2;have eg:=Uy (l:=m) (known:=known) (vals:=vals);have a3:=Uz (known:=known) (vals:=vals) b6;have b7:=hI.vlen;have du:=hI.klen;unfold Ld at S;obtain⟨R,a8⟩:=I3 (ba known vals m)
 change gN n w m _ known vals _ _ _ _ at S;rw[<-a8]at S F f1 f2 f3 f4 f5 H bk eg a3 R5;obtain⟨Y,H6,dx,cn⟩:=aa.acM (P.comp R5) 6 rfl;obtain⟨rr,H7⟩:=aa.Fw H6 7 rfl λ_=>rfl;have H8:=aa.aaG H7 8 n2;have H9:=aa.bs H8 [0,8,6,7,5,4];have bl:v.len=n:=by rw[(H9.own 2 n2).len];omega
 have hk:∀(c:Nat) (Z:c<n1 Y),Y[c].ptr.isNone=!(known.getD c eL):=λc Z=>by
  rw[cn c Z n3];have N:=hI.row c n3;rw[mh (show c<n1 vals by omega)]at N;cases hkn:known.getD c eL with
  |true=>
   rw[hkn,l0 rfl]at N;cases hv:vals[c]'n3 with
   |nil=>rw[hv]at N;simp at N;omega
   |cons x t=>rfl
  |false=>
   rw[hkn,m6 n9]at N;rw[yA.1 N];rfl
 refine⟨s,n2,H9.store af 0 n2 n2 4 [v] n2 n2 n2 A7 λh6 ea=>?_⟩;refine⟨s,n2,ea.store af 0 n2 n2 5 [rs] n2 n2 n2 A7 λh7 c9=>?_⟩;have cs:=Tc (known:=known) (n:=n) n3 λe G=>⟨(H e G).de,bk e G⟩
 have ad:=tR (rows:=rowsOf R known n) (n:=n) (by rw[a8];exact sV (a8▸H));have es:(rowsOf R known n).length<=n1 R+n:=by rw[rowsOf,qq,qp];have:=BS known n;omega
 refine(Pf s f p v rs _ _ _ _ _ k rr R known n (As:=[fP ((⟨dB,0,0⟩,[])::Y.zip vals),HA v Y,cy kh 2 qv rs rr R,ai 4 k 1 fp known,aj f 309 eU]) c9 (St.mk' λh' H'=>⟨H'.dv 2 n2,H'.seq 3 n2 λ_=>rfl⟩) du n3 n3 a3 cs ⟨by have:=ad.1;omega,by have:=En (eN n (rowsOf R known n)).used (rowsOf R known n).length;omega⟩).I1 λh8 ⟨st,dd,lf,d3⟩=>⟨(),n2,?_⟩;obtain⟨D,hD⟩:=I3 ((gK R known n).dead)
 obtain⟨ST,b1⟩:=I3 (mW R known n)
 obtain⟨L,hL⟩:=I3 (Qw.leftOf R known n)
 have ds:Sp h h8 (SA s (il f p v rs st dd lf ⟨dB,0,0⟩ ⟨dB,0,0⟩)::fP ((⟨dB,0,0⟩,[])::Y.zip vals)::[HA v Y,ai 338 st 2 ge ST,ai 3 dd 1 aq D,ai 3 lf 1 aq L,cy kh 2 qv rs rr R,aj f 309 eU]):=by rw[hD,b1,hL];exact aa.bs d3 [0,4,5,1,2,3,6,8]
 rw[<-hD]at S F f1 f2 f3 f5;rw[<-b1]at S F;rw[<-hL]at S f4;have cp:n1 ST<=2^20:=by rw[b1,mW,gK];have:=qO (λx:Int×Int=>decide (x.1<n1 R)) (eN n (rowsOf R known n)).steps;have:=ad.1;omega
 have et:n1 L<=2^20-2^10:=by rw[hL,Qw.leftOf,gK];have:=qO (λx:Int=>decide (x<n1 R)) (fO (eN n (rowsOf R known n)).used (rowsOf R known n).length);have:=En (eN n (rowsOf R known n)).used (rowsOf R known n).length;omega
 have B:St (λb=>b<h.size) h [HA v Y,ai 338 st 2 ge ST,ai 3 dd 1 aq D,ai 3 lf 1 aq L,cy kh 2 qv rs rr R,aj f 309 eU] λh=>SU h f rs st dd lf rr R ST D L:=
  St.mk' λh' H'=>⟨H'.box 5 n2,H'.dv 4 n2,H'.seq 1 n2 λ_=>rfl,H'.seq 2 n2 λ_=>rfl,H'.seq 3 n2 λ_=>rfl⟩
 refine(SX s f p v rs st dd lf _ _ rr R ST D L n D.length w _ ds B bl n3 c4 n3 n2 n3 H f1 f2 F cp a3 n9).I1 λh9 ⟨wa,mo,wr,mr,pl,b4,ay⟩=>⟨(),n2,?_⟩;have d4:=(B.at [_,_,_,_] b4).dead.len;generalize eo:ST.foldl (gZ R D.length) (fZ n D.length w D)=S0 at ay S;have d9:n1 S0.1=n:=by have:=S.lens.1;simpa[iD]using this
 have d6:n1 S0.2=n:=by have:=S.lens.2.1;simpa[iD]using this
 have hV:cb pl id Y vals:=Te dx pl λx hx=>ay.sub x (qt _ hx);refine(VR s f p v rs st dd lf wa mo Y wr mr pl known vals S0.1 S0.2 n D.length b4 n3 d4 n3 ⟨λ_ h=>h,ay.way,ay.more⟩ hV b7 d9 d6 hk).I1 λew ⟨ax,a9,al,d5,O⟩=>⟨(),n2,?_⟩;obtain⟨W,hW⟩:=I3 ((iD D.length known vals S0).1)
 obtain⟨M,hM⟩:=I3 ((iD D.length known vals S0).2)
 change lZ pl al ax a9 (iD D.length known vals S0).1 (iD D.length known vals S0).2 at O;rw[<-hW,<-hM]at O S;have u:=S.lens;refine(SZ s f p v rs st dd lf wa mo ax a9 al rr R ST D L W M n D.length w d5 B c0 c4 n3 z n2 n3 H a3 f4 n3 ⟨λ_ h=>h,O.way,O.more⟩ u.1 u.2.1 u.2.2).mono ?_;rintro _ a7 ⟨a,b,rfl,a0⟩;refine⟨(a,b),n2,s,n2,dd,show hU a7 (s.add 7)=_ from(a0.box 2 n2).cell n2,?_⟩;have dk:cb al id Y vals:=hV.mono O.sub;obtain⟨e1,e2⟩:=oS S;have T:=uK (n:=n) (w:=w) (ahead:=bz p.1.toNat p.2.1.toNat) (l:=m) (known:=known) (vals:=vals) (dead:=D) (left:=L) (W:=W) (M:=M);have ao:∀{X:aO},_->_:=λ{X} hs=>S.Qg hr (D:=X) hs;have ap:=S.Qh hr;have a2:=S.RZ n3 hr;have bb:=S.IC n3 hr;rw[<-a8]at e1 e2 T ao ap a2 bb;obtain⟨dA,cq⟩:=I3 (dI n D.length R W L (bz p.1.toNat p.2.1.toNat))
 obtain⟨I,da⟩:=I3 (fF n w R M L (bz p.1.toNat p.2.1.toNat))
 rw[<-cq]at e1 T ao ap a2 bb a0;rw[<-da]at e2 T ao ap a2 a0;have ed:n1 dA=n1 L+p.2.1.toNat:=by rw[cq];simp[dI,bz]
 have bd:∀{h':hY} {pre:List HP} {dead:Sl} {dr:List Sl} {X:aO} {Q:HP},Sp h h' (Told s f p v rs st dd lf wa mo ax a9 al++HA v Y::[ai 338 st 2 ge ST,ai 3 dd 1 aq D,ai 3 lf 1 aq L,cy kh 2 qv rs rr R,aj f 309 eU,Q])->(∀h',Q.p h' (λb=>b<h'.size)->gP h' (λb=>b<h'.size) dead 1 ar X dr)->jh D.length w dA I X->
   an xZ 251 #[xR (cO s),dead] h' λv' ah=>v'=.tuple #[]/\hU ah (s.add 4)=cO (xQ v.ptr v.len v.cap)/\ZP h ah (.tuple #[v,xP xV 0]) n (dK n m (bz p.1.toNat p.2.1.toNat)) (iz w m (bz p.1.toNat p.2.1.toNat)):=by
  intro h' pre dead dr X Q H' hQ hs;refine(VT s f p v rs st dd lf wa mo dead Y ax a9 dr al known vals W M X n D.length w H' (St.mk' λah am=>⟨am.box 4 n2,hQ ah (am.at 5 n2)⟩) n3 n3 n3 ⟨λ_ h=>h,O.way,O.more⟩ dk b7 u.1 u.2.1 u.2.2 hs.1 hs.2.1 hk).I1 λah ⟨el,ep,am,ip⟩=>⟨n2,(am.box 0 n2).cell n2,?_⟩;obtain⟨c1,c2⟩:=ao hs;refine .inl ⟨c1,v,n2,?_⟩;rw[<-c2];exact(am.nV 4 3 n4 n2 n2 ip.1 λk r l N h2=>ip.2 k r l N h2).bs [4]
 have J:=a0;have b5:=J.eRd 1 n2 λ_=>rfl;have b9:eu a7 b 1 ar I:=bW.toeu (by
  have:=bW.impl (α':=Sl) (E:=Nv) (E':=iJ 1 ar) id (λ{h q a b} (hx:Nv.p h q a b)=>hx.1) b5
  rwa [List.map_id]at this)
 have c8:=b9.len;refine aV (λe0=>?_) (λe0=>?_)
 .have cd:n1 D=0:=n3
  obtain⟨br,q1,q2,q3⟩:=bW.ku b5;refine ak (λi:Nat=>(i:Int)) (λi h'=>h'=a7/\i<=n1 I/\∀j (hj:j<n1 I),j<i->I[j]=aN w) (λi=>n1 I-i) 0 n2 ⟨n2,n3,λj _ hj=>n3⟩ ?_;rintro i a6 ⟨rfl,hi,hz⟩;have b3:jh D.length w dA I []↔∀r∈I,r=aN w:=by rw[cd];exact GL T
  refine ae (λe=>?_) (λe=>?_)
  .have V:i<n1 I:=by have e':(i:Int)<(b.len:Int):=e;omega
   obtain⟨y1,y2⟩:=q3 i n3 V;have c7:I[i].length=w:=e2 _ (qf _);refine q1.lm i n2 n3 ?_;refine(Ki (br[i]'n3) I[i] _ n2 a6 y1 y2 n3).mono ?_;rintro _ cf ⟨⟨t,rfl,ht⟩,rfl⟩;refine⟨t,n2,ae (λe3=>?_) λe3=>?_⟩
   .refine .inr ⟨λZ=>?_,n2,J.bs []⟩;have ci:=ap Z;have ei:D=[]:=yA.1 cd;rw[ei]at ci;have:=(GL T).1 ci _ (qf V);have h0:t.len=0:=ht.2 λx hx=>by rw[this]at hx;exact(yq.1 hx).2
    omega
   .have h0:t.len=0:=n3
    refine⟨i+1,oi,⟨n2,n3,λj hj eq=>?_⟩,n3⟩;by_cases hh:j=i
    .subst hh;exact vo.2 ⟨c7,ht.1 h0⟩
    .exact hz j hj n3
  .have hs:jh D.length w dA I []:=b3.2 λr hr=>by
    obtain⟨j,hj,rfl⟩:=qE hr;have e':¬(i:Int)<(b.len:Int):=e;exact hz j hj n3
   have bq:=aa.comp (J.bs [2,3,4,5,6,7,8,9,10,11]) (Sp.one (h:=a6) (h':=a6) (A:=emp) (aP.refl _ _) I4);refine(bd (pre:=[]) (dead:=⟨dB,0,0⟩) (dr:=[]) (X:=[]) (Q:=emp) ?_ (λh' _=>⟨Seq.nil _ _ _ _ _ _,n2,λk r l N _=>by cases N⟩) hs).mono ?_
   .exact bq
   .rintro _ cf ⟨rfl,Z,hm⟩;exact⟨(),n2,s,n2,v,Z,hm⟩
 .have dy:1<=n1 D:=n3
  refine⟨s,n2,cO f,(J.box 2 n2).cell0 n2,?_⟩;refine(Ph f a b dA I dA.length D.length w a7 (J.box 11 n2) (J.oG 0 n2) b9 n2 T.symm e1 e2 dy n3 n3 bb).mono ?_;rintro _ a6 (⟨Z,r,rfl,R12⟩|⟨Z,rfl,R12⟩)
  .refine⟨(r,0),n2,bt (λe=>absurd n2 e) λ_=>?_⟩;have bq:=(J.comp R12).RG 12 n2;obtain⟨dr,d7⟩:=aa.Fw bq 12 rfl λ_=>rfl;have hs:=sB T e1 e2 bb Z;refine(bd (pre:=[]) (dead:=r) (dr:=dr) (X:=eS D.length dA I) (Q:=cy (iJ 1 ar) 1 bv r dr (eS D.length dA I)) (d7.bs [2,3,4,5,6,7,8,9,10,11,12]) (λh' x=>⟨x.1,x.2.1,x.2.2⟩) hs).I1 λcf ⟨Z,hm⟩=>⟨(),n2,s,n2,v,Z,hm⟩
  .refine⟨(⟨dB,0,0⟩,10),n2,bt (λ_=>?_) λe=>absurd e n4⟩;exact .inr ⟨λhh=>Z (a2.2 hh),n2,(J.up R12.ac).bs []⟩
def jw(p:Int×Int×Int)(x:Int×Row):Bool:=bQ x.1&&decide ((n1 x.2:Int)=p.2.2)
theorem VW{p:Int×Int×Int}{x:Int×Row}(c:bJ p=eH):jw p x=eH↔Eo p x:=by have:=(bL p).1 c;unfold jw;rw[qC,decide_eq_true_iff];exact⟨λ⟨a,b⟩=>⟨a,n3⟩,λh=>⟨h.id,by have:=h.len;omega⟩⟩
def nk(p:Int×Int×Int)(seed:Int)(X:aO)(i:Nat):Row:=(qz i).flatMap λj:Nat=>jN p.2.2.toNat X (ey (bE p).toNat seed (j:Int))
theorem uU(p:Int×Int×Int)(seed:Int)(X:aO)(i:Nat):nk p seed X (i+1)=nk p seed X i++jN p.2.2.toNat X (ey (bE p).toNat seed (i:Int)):=by unfold nk;rw[zH,List.flatMap_append];simp
open Classical in
noncomputable def iY(p:Int×Int×Int)(seed:Int)(l:List (Int×Row)):Row×Int:=
 if bJ p&&l.all (jw p)then
  if fE p seed (l.map qF)then
   if jc (bE p).toNat (eG p seed (l.map qF)) (mG p l)then(nk p seed (eS (bE p).toNat (eG p seed (l.map qF)) (mG p l)) p.1.toNat,0)else([],10)
  else([],9)
 else([],1)
theorem Pj(p:Pm)(x:Int×Sl)(l:Row)(h:hY)(d:Rd h x.2 1 ar l):an xZ 174 #[gr p,xU #[xP xV x.1,x.2]] h λv h'=>v=xT (jw p (x.1,l))/\Sp h h' []:=by
 refine ts Tryz.func174 ?_ (args:=[p,x]);refine(Sp.refl h).boxed λg j e=>?_;refine e.boxed λa2 i a=>?_;have f:=d.len;refine⟨x.1,(a.box 1 n2).cell0 n2,ae (λb=>?_) λb=>?_⟩
 .refine⟨x.1,(a.box 1 n2).cell0 n2,ae (λc=>?_) λc=>?_⟩
  .refine⟨x.2,(a.box 1 n2).cell n2,p.2.2,(a.box 0 n2).cell n2,?_,.zip a.ac⟩;congr 1;unfold jw bQ;rw[m9 (show 0<=x.1 from b),m9 (show x.1<=65535 from c),f];rw[yK];simp
  .refine⟨?_,.zip a.ac⟩;unfold jw bQ;rw[nb (show¬x.1<=65535 from c)];simp
 .refine⟨?_,.zip a.ac⟩;unfold jw bQ;rw[nb (show¬0<=x.1 from b)];simp
theorem Pk(p:Pm)(b:fY)(x:Int×Sl)(l:Row)(h:hY)(c:bR h b 24 [xP xV p.1,xP xV p.2.1,xP xV p.2.2])(e:Rd h x.2 1 ar l):an xZ 173 #[xU #[xP xV x.1,x.2],xR (cO b)] h λv h'=>v=xT (!jw p (x.1,l))/\Sp h h' []:=by refine ts Tryz.func173 ?_ (args:=[x,b]);refine(Sp.refl h).boxed λa2 f a=>?_;refine⟨p,(c.ac a.ac c.lt).aw _ n2,x,(a.box 0 n2).aw _ n2,?_⟩;refine(Pj p x l f (Seq.up e a.ac)).I1 λg d=>⟨_,n2,n2,.zip (a.up d.ac).ac⟩
theorem Pn(p:Pm)(f:fY)(l:Sl)(a:List (Int×Row))(h:hY)(r:bR h f 24 [xP xV p.1,xP xV p.2.1,xP xV p.2.2])(o:fk BE h l a)(B:n1 a<=2^30):an xZ 172 #[l,.func (.func 173) #[] #[xR (cO f)]] h λv h'=>v=xT (!a.all (jw p))/\Sp h h' []:=by
 refine ts Tryz.func172 ?_ (args:=[l,(.func (.func 173) #[] #[xR (cO f)])]);refine(lu l (173,#[],#[xR (cO f)]) (R:=λv h'=>(∃i:Int,v=xP xV i/\(decide (i>=0)=!a.all (jw p)))/\Sp h h' []) ?_).mono ?_
 .skip
  obtain⟨j,t,A,y⟩:=bW.ku o;have z:=bW.len o;refine ak (λi:Nat=>(i:Int)) (λi h'=>i<=n1 a/\(a.take i).all (jw p)=eH/\Sp h h' []) (λi=>n1 a-i) 0 n2 ⟨n3,n9,Sp.refl h⟩ ?_;rintro i n ⟨s,b,d⟩;refine ae (λe=>?_) (λe=>?_)
  .have c:i<n1 a:=n3
   obtain⟨w,u⟩:=y i n3 c;refine(Seq.up t d.ac).cH (g:=yv) i n2 n3 (j[i]'n3) n2 ?_;refine fB qa ?_;refine(Pk p f (j[i]'n3) a[i].2 n (r.ac d.ac r.lt) (Seq.up u d.ac)).I1 λD q=>?_;have k:((j[i]'n3).1,a[i].2)=a[i]:=by rw[w]
   rw[k];refine⟨_,n2,aI (λm=>?_) λm=>?_⟩
   .refine⟨⟨i,n2,?_⟩,d.up q.ac⟩;rw[m9 (show(i:Int)>=0 by omega)];have:a.all (jw p)=eL:=List.all_eq_false.2 ⟨_,qf c,D2⟩;rw[this];rfl
   .refine⟨i+1,oi,⟨n3,?_,d.up q.ac⟩,n3⟩;rw[aC _ _ c,List.all_append,b];simpa using m
  .refine⟨⟨-1,n2,?_⟩,d⟩;rw[qh n3]at b;rw[b];rfl
 .rintro _ n ⟨⟨i,rfl,s⟩,x⟩;exact⟨i,n2,by rw[s],x⟩
theorem VX(l:Sl)(b:List (Int×Row))(h:hY)(k:fk BE h l b)(D:n1 b<=2^30):an xZ 176 #[l] h λv h'=>∃r:Sl,v=r/\Sp h h' [ai 3 r 1 aq (b.map qF)]:=by
 refine ts Tryz.func176 ?_ (G7 (G7 (Hf [(3,bN),(8,aH)] [(3,4),(5,6),(8,18)])));obtain⟨d,p,B,w⟩:=bW.ku k;have x:=bW.len k;refine ak (λt:Nat×Sl=>(t.2,(t.1:Int))) (λt h'=>t.1<=n1 b/\Sp h h' [ai 3 t.2 1 aq ((b.take t.1).map qF)]) (λt=>n1 b-t.1) (0,⟨dB,0,0⟩) n2 ⟨n9,(Sp.refl h).nil 3 1 aq⟩ ?_;rintro⟨i,o⟩ A ⟨F,f⟩;dsimp only at*;refine ae (λe=>?_) (λe=>?_)
 .have c:i<n1 b:=n3
  obtain⟨u,z⟩:=w i n3 c;refine(Seq.up p f.ac).cH (g:=yv) i n2 n3 (d[i]'n3) n2 ?_;refine f.alloc af n2 λa E q=>?_;refine q.storeAll af 1 n2 n2 (yv (d[i]'n3)) n2 n2 n2 n2 λh3 m=>?_;refine⟨(d[i]'n3).1,(m.box 1 n2).cell0 n2,?_⟩;refine m.push af 0 n2 eK n2 n4 (λ_=>rfl) cP (d[i]'n3).1 n2 n4 n7 λs y j=>?_;refine⟨(i+1,s),n8,⟨n5,?_⟩,n5⟩
  try dsimp only
  rw[aC _ _ c,qG];rw[u]at j;exact j.bs [0]
 .have:i=n1 b:=n3
  subst this;rw[qy]at f;exact⟨o,n2,f⟩
theorem Yt{B:au}{q h:hY}{As:List HP}(f b:Sl)(c d:Row)(H:aa B q h (ai 5 b 1 ar d::As))(u:St B q As λh=>Rd h f 1 ar c)
  (A:n1 c=n1 d) (I:n1 c<=2^30) {K:hY->Prop} (w:∀h',aa B q h' (ai 5 b 1 ar (cL 1 c d)::As)->K h'):
  gU (σ:=Int) (λa G g=>
 Br (decide (a<((f.len:Nat):Int)))
 (∃o:fY,(f.ptr=cO o/\0<=a/\a<((f.len:Nat):Int))/\
 ∃i:Int,hU g (o.add (a.toNat*1))=cO (xP xW i)/\
 ∃j:fY,(b.ptr=cO j/\0<=a/\a<((b.len:Nat):Int))/\
 ∃n:Int,hU g (j.add (a.toNat*1))=cO (xP xW n)/\
 ∃a28:fY,(b.ptr=cO a28/\0<=a/\a<((b.len:Nat):Int))/\
 av xZ (qL 5 (xR (cO (a28.add (a.toNat*1)))) (xP xW (qe xW ((qH (qx xW) n^^^(qH (qx xW) i)).toNat:Nat)))) g λ_ r=>
 G (qe xV (a+(1:Int))) r) (K g)) (0:Int) h:=by
 have D:f.len=n1 c:=(u.at [ai 5 b 1 ar d] H).len;refine ak (λk:Nat=>(k:Int)) (λk h'=>k<=n1 c/\aa B q h' (ai 5 b 1 ar (zn (λx y=>y^^^x) (c.take k) (d.take k)++d.drop k)::As)) (λk=>n1 c-k) 0 n2 ⟨n3,u7⟩ ?_;rintro k v ⟨E,p⟩;have z:=u.at [_] p;refine ae (λe=>?_) (λe=>?_)
 .have s:k<n1 c:=n3
  have m:(zn (λx y=>y^^^x) (c.take k) (d.take k)).length=k:=n7
  have F:(zn (λx y=>y^^^x) (c.take k) (d.take k)++d.drop k).length=n1 d:=by rw[qq,m,qJ];omega
  refine z.aX k n2 s _ n2 ?_;have l:(zn (λx y=>y^^^x) (c.take k) (d.take k)++d.drop k)[k]'n3=d[k]:=by rw[List.getElem_append_right n3];simp[m]
  refine(p.seq 0 n2 λ_=>rfl).aX k n2 n3 _ n2 ?_;rw[l,lV];refine p.set af 0 n2 (λ_=>rfl) n2 k n2 n3 _ n2 n2 n2 λh3 t=>?_;rw[zx,DC A]at t;exact⟨k+1,oi,⟨n3,t⟩,n3⟩
 .have:k=n1 c:=n3
  subst this;rw[qh (qk _),qh n3,List.drop_of_length_le n3,qR,<-QA]at p;exact w v p
theorem Tf(p:Pm)(seed:Int)(l:Sl)(a:List (Int×Row))(h:hY)(T:fk BE h l a)(U:n1 a<=2^18):
  an xZ 104 #[gr p,xP xX seed,l] h λv h'=>∃r:Sl,v=.tuple #[r,xP xV (iY p seed a).2]/\Sp h h' [ai 5 r 1 ar (iY p seed a).1]:=by
 refine ts Tryz.func104 ?_ (G7 (HF [] [(6,8),(17,25)] (HF [] [(6,8),(25,31)] (G7 (G7 (G7 (E8 (G7 (F8 (G0 [(10,bN),(43,aH)] [(10,13),(14,17),(43,81)] (G7 (G7 (E8 (F8 (G7 (G7 (E8 (G7 (F8 (G0 [(54,aH)] [(14,17),(54,77)] (G7 (G7 (E8 (F8 (G7 (G7 (F8 (G0 [(63,aH)] [(15,17),(63,76)] E9))))) E9)))))) E9)))) E9)))))) E9))))))) (args:=[p,(xP xX (seed:Int)),l]);refine(Sp.refl h).boxed λL h1 H1=>?_;have u:∀{h':hY} (e:Int),Sp h h' [aj L 24 [xP xV p.1,xP xV p.2.1,xP xV p.2.2]]->iY p seed a=([],e)->∃r:Sl,(.tuple #[xQ dB 0 0,xP xV e]:Value)=.tuple #[r,xP xV (iY p seed a).2]/\Sp h h' [ai 5 r 1 ar (iY p seed a).1]:=λe H' he=>by
  rw[he];exact⟨⟨dB,0,0⟩,n2,(H'.nil 5 1 ar).bs [1]⟩
 refine aE ⟨p,(H1.box 0 n2).aw _ n2,?_⟩;refine(fc p h1).I1 λh2 R2=>?_;have P:=H1.up R2.ac;refine⟨_,n2,aI (λe=>?_) λb=>?_⟩
 .exact u 1 P (by unfold iY;rw[e];rfl)
 refine(Pn p L l a h2 (P.box 0 n2) (fk.up T P.ac) n3).I1 λh3 R3=>?_;have R:=P.up R3.ac;refine⟨_,n2,aI (λe=>?_) λf=>?_⟩
 .exact u 1 R (by unfold iY;rw[b,e];rfl)
 refine aE ⟨p,(R.box 0 n2).aw _ n2,?_⟩;refine(VX l a h3 (fk.up T R.ac) n3).I2 λr h4 R4=>?_;have Y:=R.comp R4;have z:=Y.box 0 n2;refine⟨r,n2,⟨z.cell0 n2,z.cell n2,z.cell n2,I4⟩,?_⟩;refine(JQ p seed r (a.map qF) h4 (Y.seq 1 n2 λ_=>rfl) n7).I1 λh5 R5=>?_;have O:=(Y.up R5.ac).bs [0];refine⟨_,n2,I4,aI (λe=>?_) λd=>?_⟩
 .exact u 9 O (by unfold iY;rw[b,f,e];rfl)
 have G:∀x∈a,Eo p x:=λx k=>(VW b).1 (qU.1 f x k);have ao:=(bL p).1 b;have a3:=pG b;have hr:cx (eG p seed (a.map qF))=(bE p).toNat:=by have:=d;unfold fE Bc at this;rw[b]at this;simp at this;omega
 refine⟨p,(O.box 0 n2).aw _ n2,?_⟩;refine(Ys p seed l a (bE p).toNat p.2.2.toNat h5 (fk.up T O.ac) b G n2 n2 U hr).mono ?_;rintro _ h6 (⟨hc,m,rfl,R6⟩|⟨hc,rfl,R6⟩)
 rotate_left
 .refine⟨(⟨dB,0,0⟩,10),n2,bt (λ_=>u 10 (O.up R6.ac) ?_) λe=>absurd e n4⟩;unfold iY;rw[b,f,d,m6 hc];rfl
 refine⟨(m,0),n2,bt (λe=>absurd n2 e) λ_=>?_⟩;obtain⟨X,hX⟩:=I3 (eS (bE p).toNat (eG p seed (a.map qF)) (mG p a))
 have K:iY p seed a=(nk p seed X p.1.toNat,0):=by unfold iY;rw[b,f,d,l0 hc,hX];rfl
 have W:aW p.2.2.toNat (mG p a):=λx k=>by
  rcases qu.1 k with k|k
  .rw[(yq.1 k).2];simp[aN]
  .obtain⟨y,hy,rfl⟩:=qI.1 k;exact(G y hy).len
 have ad:(eG p seed (a.map qF)).length=(mG p a).length:=by rw[<-RX (n:=(bE p).toNat) (seed:=seed) b n2 G,<-RY (n:=(bE p).toNat) (seed:=seed) (p:=p) (l:=a) rfl];exact sU
 obtain⟨A,q⟩:=pH ad (om p seed _) W hr;rw[<-hX]at R6 A q;have H6:=(O.comp R6).RG 1 n2;obtain⟨Q,S⟩:=aa.Fw H6 1 rfl λ_=>rfl;have a2:=(S.dv 1 n2).1.len;have a5:=(S.dv 1 n2).2.1;refine⟨p.1,(S.box 0 n2).cell0 n2,?_⟩;rw[K];have N:Sp h h6 [ai 5 ⟨dB,0,0⟩ 1 ar [],aj L 24 [xP xV p.1,xP xV p.2.1,xP xV p.2.2],cy (iJ 1 ar) 1 bv m Q X]:=(S.nil 5 1 ar).bs [2,0,1];have M:∀j:Nat,(jN p.2.2.toNat X (ey (bE p).toNat seed (j:Int))).length=p.2.2.toNat:=λj=>Qc q A λx k=>kq n3 n3 k;have F:∀i,(nk p seed X i).length=i*p.2.2.toNat:=λi=>by
  induction i with
  |zero=>simp[nk]
  |succ i ih=>rw[uU,qq,ih,M,z7]
 refine ak (λt:Nat×Sl=>(t.2,(t.1:Int))) (λt h'=>t.1<=p.1.toNat/\Sp h h' [ai 5 t.2 1 ar (nk p seed X t.1),aj L 24 [xP xV p.1,xP xV p.2.1,xP xV p.2.2],cy (iJ 1 ar) 1 bv m Q X]) (λt=>p.1.toNat-t.1) (0,⟨dB,0,0⟩) n2 ⟨n3,by simpa[nk]using N⟩ ?_;rintro⟨i,o⟩ h8 ⟨hi,N⟩;dsimp only at*;refine ae (λe=>?_) (λe=>?_)
 .have ax:i<p.1.toNat:=n3
  refine⟨p.2.2,(N.box 1 n2).cell n2,?_⟩;refine N.make af ar cN n4 0 n2 n2 p.2.2.toNat p.2.2.toNat n3 n3 (qk _) n3 λsm h9 _ _ H9=>?_;refine⟨p,(H9.box 1 n2).aw _ n2,(uP p seed (i:Int) h9).I2 λc a0 B=>?_⟩;have V:(bJ p&&bQ (i:Int))=eH:=by rw[b];unfold bQ;simp;omega
  rw[V,l0 rfl]at B;have J:=(H9.comp B).bs [3,0,1,2,4];refine⟨c,n2,?_⟩;generalize H:ey (bE p).toNat seed (i:Int)=cs at J B;have w:∀x∈cs,0<=x/\x<((bE p).toNat:Int):=λx k=>kq n3 n3 (H▸k);have ap:n1 cs<=20:=by have:=mz (n:=(bE p).toNat) n3 n3 seed (i:Int);rw[H]at this;omega
  have am:=(J.own 4 n2).len;refine ak (λj:Nat=>(j:Int)) (λj h'=>j<=n1 cs/\Sp h h' [ai 5 sm 1 ar (jN p.2.2.toNat X (cs.take j)),ai 5 o 1 ar (nk p seed X i),aj L 24 [xP xV p.1,xP xV p.2.1,xP xV p.2.2],cy (iJ 1 ar) 1 bv m Q X,ai 3 c 1 aq cs]) (λj=>n1 cs-j) 0 n2 ⟨n3,J⟩ ?_;rintro j ay ⟨hj,g⟩;have E:=oN q A w j hj;refine ae (λe2=>?_) (λe2=>?_)
  .have D:j<n1 cs:=n3
   have a4:=w _ (qf D);refine(g.seq 4 n2 λ_=>rfl).aX j n2 D _ n2 ?_;have s:cs[j].toNat<n1 X:=n3
   refine(g.dv 3 n2).1.lm cs[j].toNat n3 n3 ?_;have ab:(X[cs[j].toNat]'s).length=p.2.2.toNat:=q _ (qf _);refine Yt (Q[cs[j].toNat]'n3) sm (X[cs[j].toNat]'s) _ g (St.mk' λh' H'=>Fix.row (H'.dv 2 n2) s) (by rw[ab,E]) n3 λah I=>?_;refine⟨j+1,oi,⟨n3,?_⟩,n3⟩;rw[aC _ _ D,Bd,mh s];exact I
  .have al:j=n1 cs:=n3
   subst al;rw[qy]at g E;refine g.append af 1 n2 cN uh n2 n4 (λ_=>rfl) (g.seq 0 n2 λ_=>rfl) cD (by rw[F,E];have:i*p.2.2.toNat<=16*24:=zu n3 n3;omega) λo' ah I=>?_;refine⟨(i+1,o'),n8,⟨n5,?_⟩,n5⟩
   try dsimp only
   rw[uU,H];exact I.bs [1,2,3]
 .have Z:i=p.1.toNat:=n3
  subst Z;exact⟨o,n2,N.bs [0]⟩
variable {p:Int×Int×Int} {seed:Int} {d:Row} {K H w n:Nat}
theorem Tg{m:aA}{r:ct}:dJ m r=eH↔jL r=eH/\r.p=m.p/\∃x∈m.objs,x.object=r.object/\r.block<(x.tries.length:Int)/\r.seed=ft r.object r.block (x.tries.getD r.block.toNat 0):=by unfold dJ;simp
def Th(m:aA)(C:Int->aS)(o b:Int):aS:=(splitB m.p (C o)).getD b.toNat []
def adV(m:aA)(C:Int->aS)(r:ct):Prop:=r.data=Bv m.p r.seed (Th m C r.object r.block) r.id
structure acN (m:aA) (C:Int->aS) (c:aS):Prop where
 old:∀r,dt c=cO r->r.object<m.next
 tru:∀r,dt c=cO r->dJ m r=eH->adV m C r
 page:∀g,DB c=cO g->g.seq<=m.seq/\(g.seq=m.seq->c∈bI m)
theorem VY{m:aA}{l:dS}{r:ct}(h:r∈iB m l):gg r∈l/\dt (gg r)=cO r/\dJ m r=eH:=by
 obtain⟨c,b,a,d⟩:=BA h;rw[(RE a).1]
 grind
structure NA (m:aA) (C:Int->aS) (ds:aG):Prop where
 may:bH m=eH
 len:ds.length=64
 cells:∀k d,bY ds k=cO d->∀c∈d.l,acN m C c
 ents:∀e∈m.objs,((C e.object).length:Int)=e.length/\cV m.p e.object (splitB m.p (C e.object)).length=cO e.tries
def iE(p:Int×Int×Int)(bl:dS)(n:Int):aS:=if bJ p=eH/\0<=n/\(n1 bl:Int)=countP p n/\(bl.all λx=>decide (n1 x=cQ p))=eH then bl.flatten.take n.toNat else[]
noncomputable def kI(m:aA)(a:aG)(o:Int)(tries:aD)(k:Nat):aS×Int:=iY m.p (ft o k (tries.getD k 0)) (dW m a (bn a m.drives) o k)
def ph(m:aA)(a:aG)(k:Int):Bool:=match bY a k with|some d=>jl m d.l|none=>eL
def BF(m:aA)(a:aG):Bool:=(bn a m.drives).any (ph m a)
noncomputable def pS(m:aA)(a:aG)(e:cS):aS×Int:=
 if BF m a=eL then([],11)else if((qz e.tries.length).all λk=>decide ((kI m a e.object e.tries k).2=0))=eH then(iE m.p ((qz e.tries.length).map λk=>(kI m a e.object e.tries k).1) e.length,0)else([],11)
noncomputable def iZ(m:aA)(a:Int)(w:Pow)(c:aG)(b:ByteArray):aS×Int:=
 if gO w a then([],14)else match m.objs.find? (dH b)with
 |none=>([],5)
 |some e=>pS m c e
def aaI(m:aA)(a:aG)(o b:Int):aD:=(dW m a (bn a m.drives) o b).map qF
theorem EY{p:Int×Int×Int}(a:bJ p=eH)(n:Nat):n<=(countP p n).toNat*cQ p:=by
 obtain⟨g,f,d⟩:=ic a;unfold countP;rw[a,Bool.true_and];by_cases h0:0<(n:Int)
 .rw[m9 h0,l0 n2,<-d];have h:=zZ ((n)-1) (show(0:Int)<(cQ p)by omega);have c:=Int.mul_ediv_add_emod ((n)-1) (cQ p);have h3:0<=((n)-1)/(cQ p:Int):=Int.ediv_nonneg n3 n3;obtain⟨q,b⟩:=Int.eq_ofNat_of_zero_le h3;rw[b]at c⊢;have e:((q:Int)+1).toNat=q+1:=rfl;rw[e,]
  grind
 .omega
variable {m:aA} {ds:aG} {offs:Int}
section
variable {C:Int->aS} {w:Pow}
end
theorem AF{sz:Nat}:∀{l:dS},(∀x∈l,n1 x=sz)->n1 l.flatten=n1 l*sz
 |[],_=>n9
 |x::l,h=>by
  rw[List.flatten_cons,qq,h x List.mem_cons_self,AF λy a=>h y (qt _ a),zc,z7];omega
theorem Ti(p:Pm)(l:Sl)(ll:dS)(n:Int)(h:hY)(J:eu h l 1 ar ll)(hn:n<=2^20)(ab:n1 ll<=2^10):
  an xZ 106 #[gr p,l,xP xV n] h λv h'=>∃(r:Sl) (b:Bool),v=.tuple #[r,xT b]/\Sp h h' [EA (iJ 1 ar) r (iE p ll n)]:=by
 refine ts Tryz.func106 ?_ (G7 (HF [] [(6,8),(11,26)] (G7 (Hf [(8,bN),(28,aH)] [(6,9),(10,11),(28,41)])))) (args:=[p,l,(n:Int)]);have g:=J.len;refine(Sp.refl h).boxed λO R P=>?_;have f:∀{h':hY},Sp h h' [aj O 24 [xP xV p.1,xP xV p.2.1,xP xV p.2.2]]->iE p ll n=[]->∃(r:Sl) (b:Bool),(.tuple #[xQ dB 0 0,xT eL]:Value)=.tuple #[r,xT b]/\Sp h h' [EA (iJ 1 ar) r (iE p ll n)]:=λH' U=>by
  rw[U];exact⟨⟨dB,0,0⟩,eL,n2,(((H'.nil 5 1 ar).bs [1]).Ed 0 n2 λ_=>rfl)⟩
 refine aE ⟨p,(P.box 0 n2).aw _ n2,(fc p R).I1 λW X=>?_⟩;have y:=P.up X.ac;refine⟨_,n2,aI (λe=>f y (by unfold iE;rw[m6 (by rintro⟨h,_⟩;rw[e]at h;cases h)])) λY=>ae (λe=>f y (by unfold iE;rw[m6 (by rintro⟨_,h,_⟩;omega)])) λe2=>?_⟩;have z:bJ p=eH:=by simpa using Y
 refine⟨p,(y.box 0 n2).aw _ n2,(sF p n W).I1 λh3 R3=>?_⟩;have K:=y.up R3.ac;refine⟨_,n2,bt (λe=>f K (by unfold iE;rw[m6 (by rintro⟨_,_,h,_⟩;rw[g]at e;exact e h)])) λI=>?_⟩;have D:(n1 ll:Int)=countP p n:=by rw[g]at I;exact I
 obtain⟨s1,s2,s3⟩:=ic z;refine ak (λt:Sl×Nat=>(t.1,(t.2:Int))) (λt h'=>t.2<=n1 ll/\(∀x∈ll.take t.2,n1 x=cQ p)/\Sp h h' [aj O 24 [xP xV p.1,xP xV p.2.1,xP xV p.2.2],ai 5 t.1 1 ar (ll.take t.2).flatten]) (λt=>n1 ll-t.2) (⟨dB,0,0⟩,0) n2 ⟨n9,n9,K.nil 5 1 ar⟩ ?_;rintro⟨o,i⟩ Q ⟨N,a,s⟩;dsimp only at N a s⊢;refine ae (λe=>?_) λe=>?_
 .have d:i<n1 ll:=by have e':(i:Int)<(l.len:Int):=e;omega
  refine(J.up s.ac).get i n2 d λr M=>⟨p,(s.box 0 n2).aw _ n2,(Do p Q z).I1 λh5 L=>?_⟩;have A:=s.up L.ac;have w:=M.len;refine⟨_,n2,bt (λB=>?_) λB=>?_⟩
  .refine f (A.bs [0]) ?_;unfold iE;rw[m6];rintro⟨_,_,_,h⟩;have:=nq (qU.1 h _ (qf d));exact B (by rw[w,this])
  .have G:ll[i].length=cQ p:=by rw[w]at B;exact yV.1 B
   have u:=AF a;rw[List.length_take_of_le N]at u;have hb:i*cQ p<=2^10*2^10:=zu n3 n3;refine A.append af 1 n2 cN ⟨_,_,n2,n2⟩ n2 n4 (λ_=>rfl) (Seq.up M L.ac) cD n3 λV h6 T=>?_;refine⟨(V,i+1),n8,⟨n5,?_,?_⟩,n5⟩
   .try dsimp only
    intro x j;rw[aC _ _ d]at j;rcases qu.1 j with j|j
    .exact a x j
    .rw[qA.1 j];exact G
   .try dsimp only
    rw[aC _ _ d,List.flatten_append];simpa using T
 .rw[qh (by have e':¬(i:Int)<(l.len:Int):=e;omega)]at a s;have u:=AF a;have m:=s.own 1 n2;have E:=m.len;obtain⟨k,S⟩:∃k:Nat,n=k:=⟨n.toNat,n3⟩
  subst S;have c:=EY z k;have F:(countP p (k:Int)).toNat=n1 ll:=n3
  rw[F,<-u,<-E]at c;have Z:iE p ll (k:Int)=ll.flatten.take k:=by unfold iE;rw[l0 ⟨z,n3,D,qU.2 λx j=>m9 (a x j)⟩,qj]
  refine hJ af cN k n2 n2 (q7 c m.cap) ?_;refine⟨⟨o.ptr,k,k⟩,eH,n2,?_⟩;rw[Z];have A:=(s.bs [1]).Ed 0 n2 λ_=>rfl;refine A.dG 0 n2 λq hq=>?_;have H:=Seq.take hq k n3;exact⟨H.1,H.2⟩
variable {a:fY} {da:List bK}
section
variable {pw:fY} {w:Pow}
theorem Po(x:aY)(y:bH m=eH)(H:aa B h0 h (aJ bP a pw (az x) offs da w ds::be x m::As)):
  an xZ 102 #[xR (cO a)] h λv h'=>v=xT (BF m ds)/\Sp h h' []:=by
 refine ts Tryz.func102 ?_;have z:=iO y;have l:=gJ y;refine(Sp.refl h).boxed λr N p=>?_;have t:=H.up p.ac;refine⟨cO a,(p.box 0 n2).cell0 n2,(fx x m (t.at 1 n2) z t).I2 λF K o=>?_⟩;have e:=p.comp o;have L:(bn ds m.drives).length<=64:=q7 (qO _ _) l;refine⟨F,n2,(JW 170 #[] #[xR (cO r)] (ph m ds) F (bn ds m.drives) K qa (o.seq 0 n2 λ_=>rfl) n3 ?_).mono ?_⟩
 .intro k J h3 g;have f:=t.up (o.up g.ac).ac;have i:bR h3 r 30 [xR (cO a)]:=(e.up g.ac).box 0 n2;obtain⟨ok,E⟩:=aa.cB f;obtain⟨q,d,j,_⟩:=pR J;have A:=gT y k q;refine ts Tryz.func170 ?_ (args:=[(k:Int),r]);obtain⟨n,rfl⟩:∃n:Nat,k=n:=⟨k.toNat,n3⟩
  have D:n<n1 da:=B8
  have cd:hU h3 ((a.add 10).add ((n:Int).toNat*1))=cO (.pointer da[n]):=by rw[qj,zM];refine E.lF 10 n ?_;rw[mK ok.l8,qd D];rfl
  have u:dj da (n:Int)=da[n]:=by unfold dj;rw[l0 n3,qj,qd D];rfl
  obtain⟨b,s,bl,c,_⟩:=Dz j f;refine⟨cO a,i.cell0 n2,a,n2,⟨n3,n3⟩,da[n],cd,cO a,i.cell0 n2,a,n2,x,E.aw _ n2,?_⟩;rw[<-u,c];refine(Np x m j c (f.at 1 n2) z f).I1 λM G=>?_;have I:=(i.ac G.ac i.lt).cell0 n2;refine⟨_,n2,⟨I,I,I4⟩,?_,G⟩;unfold ph;rw[j]
 .rintro _ h3 ⟨rfl,g⟩;exact⟨_,n2,n2,.zip (e.up g.ac).ac⟩
theorem Ey{a:ByteArray}{l:List Qw.cS}{i:Int}(h:MJ (dH a) l i):(i<0/\l.find? (dH a)=dB)∨∃(n:Nat) (c:n<n1 l),i=n/\l.find? (dH a)=cO l[n]:=by
 rcases h with⟨rfl,h⟩|⟨n,c,rfl,h1,h2⟩
 .exact .inl ⟨n4,List.find?_eq_none.2 λe b=>wu.1 h e b⟩
 .refine .inr ⟨n,c,n2,List.find?_eq_some_iff_append.2 ⟨h1,l.take n,l.drop (n+1),?_,λe b=>?_⟩⟩
  .rw[<-qW c,List.take_append_drop]
  .have:=wu.1 h2 e b;simpa using this
theorem Yu(x:aY)(f:ByteArray)(T:bH m=eH)(I:∀k d,bY ds k=cO d->d.l.length<=512)(H:aa B h0 h (aJ bP a pw (az x) offs da w ds::be x m::As)):
  an xZ 31 #[xR (cO a),xS f] h λv h'=>∃r:Sl,v=.tuple #[r,xP xV (iZ m offs w ds f).2]/\Sp h h' [EA (iJ 1 ar) r (iZ m offs w ds f).1]:=by
 refine ts Tryz.func31 ?_ (G7 (G7 (G7 (G7 (G7 (G7 (G7 (E8 (G7 (F8 (G0 [(8,bN),(37,aH)] [(4,6),(8,14),(37,76)] (G7 (G7 (E8 (F8 (G7 (HF [(11,bN)] [(11,12),(42,54)] (HF [(12,bN),(13,aH)] [(12,14),(54,69)] E9)))) E9)))))) E9)))))))) [(13,(.l [0,1,2,4,5,6,7,8,9,10,3,11,12])),(14,(.l [0,1,2,3,4,5,6,7,8,10,9,11,12,13,14,15,16]))];have hz:=iO T;have ao:=gJ T;have am:(bn ds m.drives).length<=64:=q7 (qO _ _) ao;have q:∀{h':hY} (e:Int),Sp h h' []->iZ m offs w ds f=([],e)->∃r:Sl,(.tuple #[xQ dB 0 0,xP xV e]:Value)=.tuple #[r,xP xV (iZ m offs w ds f).2]/\Sp h h' [EA (iJ 1 ar) r (iZ m offs w ds f).1]:=λe R he=>by
  rw[he];exact⟨⟨dB,0,0⟩,n2,(R.nil 5 1 ar).Ed 0 n2 λ_=>rfl⟩
 refine(ox H).mono ?_;rintro _ h1 ⟨rfl,rfl⟩;refine⟨_,n2,aU (λe=>q 14 (Sp.refl _) (by unfold iZ;rw[l0 e])) λe1=>?_⟩;refine(find_spec x m f (H.at 1 n2) hz H).mono ?_;rintro _ h2 ⟨⟨i,rfl,hi⟩,R2⟩;have H2:=H.up R2.ac;refine⟨i,n2,?_⟩;rcases Ey hi with⟨hneg,hf⟩|⟨n,hn,rfl,hf⟩
 .exact ae (λ_=>q 5 R2 (by unfold iZ;rw[m6 o7,hf])) λe=>absurd hneg e
 refine ae (λe=>absurd e (xq.2 (zi n))) λ_=>?_;obtain⟨E,hE⟩:=I3 (m.objs[n])
 have ax:E∈m.objs:=CH
 have ep:iZ m offs w ds f=pS m ds E:=by unfold iZ;rw[m6 o7,hf,hE]
 rw[ep]at q⊢;refine(Po x T H2).I1 λh3 R3=>?_;have H3:=H2.up R3.ac;have D:=R2.up R3.ac;refine⟨_,n2,aI (λe=>q 11 D (by unfold pS;rw[l0 e])) λe3=>?_⟩;have e3:BF m ds=eH:=by simpa using e3
 have X:=(gX m E).1 (((ck m).1 T).2.2.2.2.1 E ax);have a5:E.tries.length<=8:=by have:=kG X.2.2.1.2;omega
 have a0:=((fR m).1 ((ck m).1 T).1).2.2.1;have ap:=(aa.cB H3).2;have a1:cj h1 x m:=H.at 1 n2;obtain⟨ys,F⟩:=bW.fix a1.objs;have a9:=F.2.1;have u:=Fix.row F hn;obtain⟨xe,S⟩:=I3 (ys[n]'n3)
 rw[<-hE,<-S]at u;refine⟨a,n2,x.2.2.2.2.2.2.2,ap.cell n2,(Seq.up F.1 D.ac).cH (g:=aT) n n2 n3 xe (by rw[S]) ?_⟩;refine(Sp.refl h3).alloc af n2 λa8 h4 Q4=>?_;refine Q4.storeAll af 0 n2 n2 (aT xe) n2 n2 n2 n2 λh5 Q5=>?_;have R5:=D.comp Q5;have Y:Rd h1 xe.2.2.2 1 aq E.tries:=u.2;have a3:=Y.len;have eo:xe.2.1=E.object:=u.1.2.1;have el:xe.2.2.1=E.length:=u.1.2.2;have R5:=R5.kc 41 5 1 ar;refine⟨xe.2.2.2,(Q5.box 0 n2).cell n2,?_⟩;refine ak (λt:Sl×Nat=>(t.1,(t.2:Int))) (λt h'=>t.2<=E.tries.length/\(∀j,j<t.2->(kI m ds E.object E.tries j).2=0)/\Sp h1 h' [cg t.1 ((qz t.2).map λj=>(kI m ds E.object E.tries j).1),aj a8 59 (aT xe)]) (λt=>E.tries.length-t.2) (⟨dB,0,0⟩,0) n2 ⟨n9,λj y=>absurd y (Nat.not_lt_zero _),R5⟩ ?_;rintro⟨o,k⟩ h6 ⟨hk,J,z⟩;dsimp only at hk J z⊢;have H6:=H.up z.ac;have W:=(aa.cB H6).2;have O:cj h6 x m:=H6.at 1 n2;have cp:∀{h':hY},bR h' a 94 (dh (az x) pw offs da)->bA h' (a.add 2) 0 [xP xV m.p.1,xP xV m.p.2.1,xP xV m.p.2.2]:=λ{h'} hb=>by
  rw[<-O.p];exact⟨o5,o5,o5,I4⟩
 refine ae (λe=>?_) λe=>?_
 .have M:k<E.tries.length:=by have e':(k:Int)<(xe.2.2.2.len:Int):=e;omega
  refine(Seq.up Y z.ac).aX k n2 M E.tries[k] n2 ?_;refine aE ⟨a,n2,x,W.aw _ n2,xe.2.1,(z.box 1 n2).cell n2,(fx x m O hz H6).I2 λlv h7 R7=>?_⟩;have H7:=H6.up R7.ac;have s:=(aa.cB H7).2;have N:=z.up R7.ac;refine⟨lv,n2,⟨(N.box 1 n2).cell n2,s.cell0 n2,s.cell n2,s.cell n2,s.cell n2,s.cell n2,s.cell n2,s.cell n2,s.cell n2,I4⟩,?_⟩;rw[eo];refine(Nh x m lv (bn ds m.drives) E.object k (H7.at 1 rfl) hz (R7.seq 0 rfl λ_=>rfl) n3 (λj y=>by obtain⟨_,d,hd,_⟩:=pR y;exact⟨d,hd⟩) H7).mono ?_;rintro _ h8 ⟨r,ss,rfl,R8⟩;have H8:=H7.up R8.ac;have U:=(aa.cB H8).2;have K:=N.up R8.ac;refine⟨r,n2,I4,aE ⟨a,n2,m.p,cp U,xe.2.1,(K.box 1 n2).cell n2,(sH xe.2.1 k E.tries[k] h8).mono ?_⟩⟩;rintro _ Z ⟨rfl,rfl⟩;obtain⟨c1,c2,c3,_⟩:=cp U;have L:Fix dZ 2 piv Z (λb=>b<Z.size) r ss (dW m ds (bn ds m.drives) E.object k):=R8.at 0 n2;have a2:fk BE Z r (dW m ds (bn ds m.drives) E.object k):=⟨ss,L.1,L.2.1,L.2.2⟩
  have a4:(dW m ds (bn ds m.drives) E.object k).length<=64*512:=by unfold dW;refine q7 (IS (c:=512) λj y=>?_) (Nat.mul_le_mul_right _ am);obtain⟨_,d,hd,_⟩:=pR y;unfold mP;rw[hd];have h1:=Hm m E.object k d.l;have h2:=I j d hd;show(rN m E.object k d.l).length<=512;omega
  rw[eo];refine⟨_,n2,⟨c1,c2,c3,I4⟩,(Tf m.p (ft E.object k E.tries[k]) r _ Z a2 n3).I2 λab bb G=>?_⟩;have eb:iY m.p (ft E.object k E.tries[k]) (dW m ds (bn ds m.drives) E.object k)=kI m ds E.object E.tries k:=by unfold kI;rw[rF 0 M]
  rw[eb]at G⊢;have Q:=K.up G.ac;refine⟨(ab,(kI m ds E.object E.tries k).2),n2,I4,bt (λe4=>q 11 (.zip Q.ac) ?_) λe4=>?_⟩
  .unfold pS;rw[m6 D0,m6];intro P;exact e4 (nq (qU.1 P k (q8.2 M)))
  .have ay:=(K.comp G).aF 3 [0,2,1];refine aa.nG af ay cM n7 λo' a7 ad=>?_;refine⟨(o',k+1),n8,⟨n5,λj y=>?_,?_⟩,n5⟩
   .rcases zd.1 y with y|rfl
    .exact J j y
    .simpa using e4
   .try dsimp only
    rw[zH,qG];exact ad
 .have al:k=E.tries.length:=by have e':¬(k:Int)<(xe.2.2.2.len:Int):=e;omega
  subst al;refine⟨a,n2,m.p,cp W,xe.2.2.1,(z.box 1 n2).cell n2,?_⟩;rw[el];have A:E.length<=2^20:=by obtain⟨⟨k1,k2⟩,_,z1,z2⟩:=(bL m.p).1 a0;have:m.p.1*m.p.2.2<=16*24:=wi k2 z2 n3 n3;have:=X.2.2.1.2;omega
  refine(Ti m.p o _ E.length h6 (z.BN λ_=>rfl) A n7).mono ?_;rintro _ a6 ⟨V,b,rfl,ah⟩;have eg:pS m ds E=(iE m.p ((qz E.tries.length).map λk=>(kI m ds E.object E.tries k).1) E.length,0):=by unfold pS;rw[m6 D0,l0 (qU.2 λj y=>m9 (J j (q8.1 y)))]
  rw[eg];exact⟨(V,b),n2,I4,V,n2,((z.comp ah).bs [2])⟩
end
def DH(m:aA)(a:aG)(o k:Int):Nat:=match bY a k with|some d=>(iB m d.l).countP (λr=>decide (r.object=o))|none=>0
def nW(m:aA)(a:aG)(live:aD)(o:Int):Nat:=(live.map (DH m a o)).sum
def gG(m:aA)(a:Int)(w:Pow)(c:aG)(b:ByteArray):(Int×Int×Int)×Int:=
 if gO w a=eH then((0,0,0),14)else match m.objs.find? (dH b)with
 |none=>((0,0,0),5)
 |some e=>((e.length,(e.tries.length:Int),(nW m c (bn c m.drives) e.object:Int)),0)
section
variable {pw:fY} {w:Pow}
abbrev mi(s:Int×Int×Int)(t:Sl):aR:=[xP xV s.1,xP xV s.2.1,xP xV s.2.2,t]
theorem aaJ(m:aA)(b:aG)(o k:Int)(a:∀k d,bY b k=cO d->n1 d.l<=512):DH m b o k<=512:=by
 unfold DH;cases hd:bY b k with
 |none=>exact qT _
 |some d=>exact q7 List.countP_le_length (q7 (iX m d.l) (a k d hd))
theorem QC(m:aA)(b:aG)(o:Int)(a:∀k d,bY b k=cO d->n1 d.l<=512):∀l:aD,nW m b l o<=n1 l*512
 |[]=>by simp[nW]
 |k::l=>by
  have:=QC m b o a l;have:=aaJ m b o k a;unfold nW at*;rw[List.map_cons,List.sum_cons,zc,z7];omega
theorem VZ(m:aA)(a:aG)(o:Int)(l:aD)(i:Nat)(b:i<n1 l):nW m a (l.take (i+1)) o=nW m a (l.take i) o+DH m a o l[i]:=by unfold nW;rw[List.take_succ_eq_append_getElem b,qG,List.sum_append];simp
end
structure aeC (m:aA) (o:Int) (d:bu) (bad:Nat->Prop):Prop where
 lost:d.lost=eL
 pos:0<d.l.length
 len:d.l.length<=60
 cell:∀c∈d.l,c.length=64
 bad:∀j (hj:j<d.l.length),gD d.l[j]=dB↔bad j
 cnt:∀c∈d.l,∀r,dt c=cO r->dJ m r=eH/\r.object=o
 apart:(d.l.filterMap (gp m)).Pairwise λa b=>dM a b=eL
theorem Km(k:Nat):upto (k+1)=upto k++[(k:Int)]:=by simp[upto,zH]
theorem Yv(n:Nat)(a:n<65536):(qH (qx .u16) (n:Int)).toNat=n:=by simp[qx];omega
theorem QD(p q:Nat)(b:p<65536)(a:q<65536):qe .u16 ((qH (qx .u16) (p:Int)^^^qH (qx .u16) (q:Int)).toNat:Nat)=((p^^^q:Nat):Int):=by rw[BitVec.toNat_xor,Yv p b,Yv q a];have:p^^^q<2^16:=Nat.xor_lt_two_pow b a;show((p^^^q:Nat):Int)%65536=_;omega
theorem Ae(a b:UInt8)(h:hY):an xZ 294 #[xP xW a.toNat,xP xW b.toNat] h λv h'=>v=xP xW (Gf.mul a b).toNat/\h'=h:=by
 have q:∀b:Nat,b<256->∀i:Nat,i<8->(qe xW ((qH (qx xW) (zr (b:Int) (2^min (i:Int).toNat (qx xW)))&&&(qH (qx xW) (1:Int))).toNat:Nat))=((b/2^i%2:Nat):Int):=o1
 have t:∀a:Nat,a<256->∀i:Nat,i<8->qe .u16 ((qe .u16 (a:Int))*2^min (i:Int).toNat (qx .u16))=((a*2^i:Nat):Int)/\a*2^i<65536:=o1
 have t3:∀(p i:Nat),p<65536->i<16->qe .u16 ((qH (qx .u16) (zr (p:Int) (2^min (i:Int).toNat (qx .u16)))&&&(qH (qx .u16) (1:Int))).toNat:Nat)=((p/2^i%2:Nat):Int):=by
  intro p i g f;have d:min (i:Int).toNat (qx .u16)=i:=by simp[qx];omega
  rw[d];have w:zr (p:Int) (2^i)=((p/2^i:Nat):Int):=by rw[Int.fdiv_eq_ediv_of_nonneg _ (by exact Int.pow_nonneg n4)];simp
  rw[w];have k:p/2^i<65536:=Nat.lt_of_le_of_lt (Nat.div_le_self _ _) g;have r:(qH (qx .u16) ((p/2^i:Nat):Int)).toNat=p/2^i:=Yv _ k;have x:(qH (qx .u16) (1:Int)).toNat=1:=n4
  rw[BitVec.toNat_and,r,x,Nat.and_one_is_mod];show((p/2^i%2:Nat):Int)%65536=_;omega
 have t4:∀i:Nat,i<8->qe .u16 ((283:Int)*2^min (qe xV (((15-i:Nat):Int)-(8:Int))).toNat (qx .u16))=((283*2^(7-i):Nat):Int)/\283*2^(7-i)<65536/\0<=qe xV (((15-i:Nat):Int)-(8:Int)):=o1
 have l:=zV a;have u:=zV b;refine ts Tryz.func294 ?_ (G7 (G7 (E8 (G7 (F8 (G0 [(5,(.sc (.int .u16))),(6,aH)] [(5,7),(8,23)] E9))) (Hf [(5,(.sc (.int .u16))),(7,aH)] [(5,6),(7,8),(23,37)]))));refine ak (λi:Nat=>((Gf.pl a.toNat b.toNat i:Int),(i:Int))) (λi h'=>h'=h/\i<=8) (λi=>8-i) 0 n2 ⟨n2,n3⟩ ?_;rintro i k ⟨rfl,f⟩
 try dsimp only
 refine ae (λe=>?_) (λe=>?_)
 .have c:i<8:=n3
  refine⟨n3,?_⟩;rw[q _ u i c,ag _];refine aV (λd=>?_) (λd=>?_)
  .refine⟨n3,i+1,?_,⟨n2,n3⟩,n3⟩;have:=t _ l i c;rw[this.1,QD _ _ (Gf.Sb _ _ l i f) this.2,Gf.pl,l0 n3];rfl
  .refine⟨i+1,?_,⟨n2,n3⟩,n3⟩;rw[Gf.pl,m6 n3];rfl
 .have c:i=8:=n3
  subst c;have g:=Gf.Sb _ b.toNat l 8 (qk _);generalize s:Gf.pl a.toNat b.toNat 8=P at g⊢;refine ak (λi:Nat=>((Gf.rd P i:Int),(15:Int)-(i:Int))) (λi h'=>h'=k/\i<=8) (λi=>8-i) 0 n2 ⟨n2,n3⟩ ?_;rintro i y ⟨rfl,f⟩;have m:=Gf.Zj P g i f
  try dsimp only
  refine ae (λe=>?_) (λe=>?_)
  .have c:i<8:=n3
   have o:(15:Int)-(i:Int)=((15-i:Nat):Int):=n3
   rw[o];refine⟨n3,?_⟩;rw[t3 _ (15-i) m n3,ag (((15-i:Nat):Int)-1)];have j:=t4 i c;refine aV (λd=>?_) (λd=>?_)
   .refine⟨j.2.2,i+1,?_,⟨n2,n3⟩,n3⟩;rw[j.1,QD _ _ m j.2.1,Gf.rd,l0 n3];exact y7 n2 n5
   .refine⟨i+1,?_,⟨n2,n3⟩,n3⟩;rw[Gf.rd,m6 n3];exact y7 n2 n5
  .have c:i=8:=n3
   subst c;refine⟨?_,n2⟩;have:=Gf.Sa a b;rw[Gf.mX,s]at this;rw[<-this];show Value.int .u8 (((Gf.rd P 8:Nat):Int)%256)=_;rfl
theorem Pp(n:Int)(h:hY):an xZ 226 #[xP xV n] h λv h'=>v=xP xW (Gf.pw (n%255).toNat).toNat/\h'=h:=by
 refine ts Tryz.func226 ?_ (G7 (G7 (HF [(0,aH)] [(0,1),(7,11)] (G7 (Hf [(3,(.sc (.int .u8))),(4,aH)] [(3,5),(11,18)])))));have l:=Int.tmod_lt_of_pos n (show(0:Int)<255 by decide);have b:-255<n.tmod 255:=Int.lt_tmod_of_pos n n4;have a:=Fp n 255;have k:=ya n (show(255:Int)≠0 by decide);have f:=zZ n (show(0:Int)<255 by decide);refine⟨n4,bj (λs h'=>s=n%255/\h'=h) ?_ ?_⟩
 .refine ae (λd=>?_) (λc=>?_)
  .rw[l0 d]at a;exact⟨by rw[ag _,a],n2⟩
  .rw[m6 c]at a;exact⟨a.symm,n2⟩
 .rintro s h' ⟨rfl,rfl⟩;obtain⟨N,j⟩:∃N:Nat,n%255=N:=⟨(n%255).toNat,n3⟩
  rw[j,qj];refine ak (λi:Nat=>(((Gf.pw i).toNat:Int),(i:Int))) (λi b=>b=h'/\i<=N) (λi=>N-i) 0 n2 ⟨n2,n3⟩ ?_;rintro i b ⟨rfl,m⟩
  try dsimp only
  refine ae (λe=>?_) (λe=>?_)
  .have g:=Ae (Gf.pw i) 3 b;refine g.mono ?_;rintro v h3 ⟨rfl,rfl⟩;refine⟨_,n2,i+1,?_,⟨n2,n3⟩,n3⟩;rw[ag _,Gf.UD];rfl
  .have:i=N:=n3
   subst this;exact⟨n2,n2⟩
theorem Af(a:UInt8)(h:hY):an xZ 229 #[xP xW a.toNat] h λv h'=>v=xP xW (Gf.inv a).toNat/\h'=h:=by
 refine ts Tryz.func229 ?_ (G7 (Hf [(3,aH)] [(2,15)]));refine ak (λk:Nat=>(k:Int)) (λk h'=>h'=h/\1<=k/\k<=256/\∀j,j<k->Gf.mul a (zO j)≠1) (λk=>256-k) 1 n2 ⟨n2,n3,n3,λj f=>?_⟩ ?_
 .have:j=0:=n3
  subst this;show Gf.mul a 0≠1;rw[Gf.mul_zero];decide
 .rintro k h' ⟨rfl,m,l,f⟩;refine ae (λe=>?_) (λe=>?_)
  .have i:k<256:=n3
   have o:qe xW (k:Int)=((zO k).toNat:Int):=by show(k:Int)%256=_;simp[Nat.mod_eq_of_lt i];omega
   rw[o];refine(Ae a (zO k) h').I0 ⟨_,n2,?_⟩;refine aV (λd=>?_) (λd=>?_)
   .have b:Gf.mul a (zO k)=1:=UInt8.toNat_inj.1 (show(Gf.mul a (zO k)).toNat=1 from yV.1 d);exact⟨by rw[<-Gf.Se b],n2⟩
   .refine⟨k+1,oi,⟨n2,n3,n3,λj c=>?_⟩,n3⟩;rcases zd.1 c with b|rfl
    .exact f j b
    .intro b;apply d;rw[b];rfl
  .have:k=256:=n3
   subst this;have g:a=0:=by refine Classical.byContradiction λg=>?_;have:=f (Gf.inv a).toNat (zV _);rw[UInt8.ofNat_toNat]at this;exact this (Gf.Ao g)
   subst g;exact⟨n2,n2⟩
theorem jS(c:UInt8)(a b:Sl)(f d:Row)(h:hY)(o:Rd h a 1 ar f)(m:Rd h b 1 ar d)(p:n1 f=n1 d)(F:n1 d<=2^30):
  an xZ 231 #[xP xW c.toNat,a,b] h λv h'=>∃r:Sl,v=r/\Sp h h' [ai 5 r 1 ar (cL c f d)]:=by
 refine ts Tryz.func231 ?_ (G7 (G7 (Hf [(14,aH)] [(8,9),(14,32)])));have x:=o.len;have u:=m.len;refine(Sp.refl h).make af ar cN n4 0 n2 n2 d.length d.length n3 n3 (qk _) n3 λs B q G z=>?_;refine ak (λk:Nat=>(k:Int)) (λk h'=>k<=n1 d/\Sp h h' [ai 5 s 1 ar ((cL c f d).take k++qi (n1 d-k) 0)]) (λk=>n1 d-k) 0 n2 ⟨n3,by simpa using z⟩ ?_;rintro k t ⟨D,g⟩;have l:=cm (c:=c) p;refine ae (λe=>?_) (λe=>?_)
 .have j:k<n1 d:=n3
  refine(Seq.up m g.ac).nD k n2 j _ n2 λa3 h3=>?_;refine(Seq.up o g.ac).aX k n2 n3 _ n2 ?_;refine(Ae c _ t).I0 ⟨_,n2,⟨h3,I4⟩,?_⟩
  try dsimp only
  rw[lV];refine g.set af 0 n2 (λ_=>rfl) n2 k n2 n7 _ n2 n2 n2 λE y=>⟨I4,?_⟩
  refine⟨k+1,oi,⟨n3,?_⟩,n3⟩;have i:((cL c f d).take k).length=k:=t6
  have w:((cL c f d).take k++qi (n1 d-k) 0).set k (d[k]^^^Gf.mul c (f[k]'n3))=(cL c f d).take (k+1)++qi (n1 d-(k+1)) 0:=by rw[List.set_append_right _ _ n3,i,zh,show d.length-k=n1 d-(k+1)+1 by omega,List.replicate_succ,zx,aC _ _,qo];simp[cL]
  rw[<-w];exact y
 .have:k=n1 d:=n3
  subst this;refine⟨s,n2,?_⟩;rw[qh n3,zh,List.replicate_zero,qR]at g;exact g
theorem ma(c:UInt8)(a:Sl)(b:Row)(h:hY)(g:Rd h a 1 ar b)(p:n1 b<=2^30):
  an xZ 230 #[xP xW c.toNat,a] h λv h'=>∃r:Sl,v=r/\Sp h h' [ai 5 r 1 ar (scaleB c b)]:=by
 refine ts Tryz.func230 ?_;have o:=g.len;refine(Sp.refl h).make af ar cN n4 0 n2 n2 b.length b.length n3 n3 (qk _) n3 λs k l t d=>?_;refine(jS c a s b _ k (Seq.up g d.ac) (d.seq 0 n2 λ_=>rfl) n9 n7).I2 λr q m=>⟨r,n2,r,n2,?_⟩;have e:cL c b (qi b.length 0)=scaleB c b:=gw (n:=n1 b) (by rw[cm n9];simp) (rD _ _) λj _=>by
  rw[cX n9,rE,show qi b.length (0:UInt8)=aN b.length from n2,cJ,UInt8.zero_xor]
 rw[<-e];exact(d.comp m).take 1 (λi A f=>by cases i with|zero=>exact f|succ i=>simp at f)
theorem pi(p:Pm)(h:hY):an xZ 225 #[gr p] h λv h'=>v=xP xV (bE p)/\Sp h h' []:=by refine ts Tryz.func225 ?_ (args:=[p]);refine(Sp.refl h).boxed λa g c=>?_;refine⟨p,(c.box 0 n2).aw _ n2,?_⟩;refine(dV p g).I1 λi f=>?_;have b:=c.comp f;have d:=b.box 0 n2;refine⟨_,n2,aI (λe=>⟨by simp[bE,e],.zip b.ac⟩) λe=>?_⟩;refine⟨_,d.cell0 n2,_,d.cell n2,?_,.zip b.ac⟩;have:=(bL p).1 e;rw[ag _,bE,l0 e]
theorem kl(id:Int)(h:hY):an xZ 162 #[xP xV id] h λv h'=>v=xT (bQ id)/\h'=h:=by
 refine ts Tryz.func162 ?_;refine ae (λe=>⟨?_,n2⟩) (λe=>⟨?_,n2⟩)
 .rw[bQ,m9 (show 0<=id from e)];rfl
 .rw[bQ,nb (show¬0<=id from e)];rfl
theorem DI(a:fY)(s:Int)(h:hY)(d:bR h a 269 [xP xY s]):an xZ 234 #[xR (cO a)] h λv h'=>v=xP xX (told s)/\bR h' a 269 [xP xY (tw s)]/\aP (·≠a.block) h h':=by refine ts Tryz.func234 ?_;refine⟨a,n2,s,d.cell0 n2,a,n2,?_⟩;refine sp af d n2 _ n2 n2 n2 (qk _) λe b c _=>?_;exact⟨a,n2,_,b.cell0 n2,n4,n2,b,c⟩
theorem Cb(a:fY)(s n:Int)(h:hY)(d:bR h a 269 [xP xY s])(g:0<n:=by omega)(f:n<=2^62:=by omega):an xZ 297 #[xR (cO a),xP xV n] h λv h'=>v=xP xV (jf s n)/\bR h' a 269 [xP xY (tw s)]/\aP (·≠a.block) h h':=by refine ts Tryz.func297 ?_;refine ae (λe=>n3) λ_=>?_;refine(DI a s h d).I1 λi ⟨c,b⟩=>⟨_,n2,B1,n2,c,b⟩
theorem IW{p:au}(t:Sl)(lt:aD)(x a:Int)(h:hY)(i:Seq h p t 1 aq lt)(o:0<=x)(b:lt.getLast?=cO a)(d:x<a)(r:n1 lt<=2^40):
  an xZ 296 #[t,xP xV x] h λv h'=>v=xP xV (Iv lt x)/\h'=h:=by
 refine ts Tryz.func296 ?_ (G7 (E8 (G7 (F8 (G0 [(5,aH)] [(4,24)] (HF [] [(6,14)] E9)))) E9));have q:=i.len;have f:(lt.findIdx λy=>decide (y>x))<n1 lt:=List.findIdx_lt_length_of_exists ⟨a,List.mem_of_getLast? b,by simpa using d⟩;refine ak (λk:Nat=>(k:Int)) (λk h'=>h'=h/\k<=(lt.findIdx λy=>decide (y>x))) (λk=>n1 lt-k) 0 n2 ⟨n2,n3⟩ ?_;rintro k h' ⟨rfl,j⟩;refine aE ?_;refine ae (λe=>?_) (λe=>n3);refine ae (λ_=>?_) (λe=>n3);have g:k<n1 lt:=n3
 refine i.aX k n2 g _ n2 ?_;rw[ag _];refine ae (λm=>?_) (λm=>?_)
 .have:(lt.findIdx λy=>decide (y>x))=k:=Nat.le_antisymm (Nat.le_of_not_lt λc=>by have:=List.not_of_lt_findIdx c;simp at this;omega) j;exact⟨by rw[Iv,this];rfl,n2⟩
 .refine⟨k+1,n2,⟨n2,?_⟩,n3⟩;refine Nat.lt_of_le_of_ne j λl=>?_;have:=List.findIdx_getElem (xs:=lt) (p:=λy=>decide (y>x)) (w:=f);simp only[<-l]at this;simp at this;omega
theorem NB(t:Sl)(n:Nat)(a:fY)(s:Int)(h:hY)(f:Seq h (·≠a.block) t 1 aq (fD n))(m:bR h a 269 [xP xY s])(d:1<=n)(g:n<=20):
  an xZ 235 #[t,xR (cO a)] h λv h'=>v=xP xV (AX s n)/\bR h' a 269 [xP xY (tw s)]/\aP (·≠a.block) h h':=by
 refine ts Tryz.func235 ?_;have l:=f.len;rw[fV]at l;refine aV (λe=>n3) λ_=>?_;rw[ag _];refine f.aX (n-1) n3 v6 _ n2 ?_;have o:(fD n)[n-1]'(by rw[fV];omega)=((jm n n:Nat):Int):=by simp only[fD,zB,List.getElem_range];rw[show n-1+1=n by omega]
 rw[o];have q:=Ft n g d;have k:=sQ n g n g;refine(Cb a s _ h m).mono ?_;rintro v j ⟨rfl,i,b⟩;have c:=nQ s (jm n n);refine⟨_,n2,(IW t (fD n) _ _ j (f.ac b) c.1 (AW n d) c.2 v6).I0 ?_⟩;exact⟨_,n2,n2,i,b⟩
def rR(r:Nat):Nat->Nat
 |0=>r
 |k+1=>rR r k/2
theorem KK(l:Nat)(h:hY)(f:l<=20)(b:1<=l):an xZ 236 #[xP xV l] h λv h'=>∃s:Sl,v=s/\Sp h h' [ai 3 s 1 aq (fD l)]:=by
 have K:∀l:Nat,l<=20->∀r:Nat,r<=5->(∀j,j<r->j*j<l)->r*r<l->r<5:=n4
 have Y:∀l:Nat,l<=20->∀r:Nat,r<=5->(∀j,j<r->j*j<l)->¬r*r<l->r=cw l:=n4
 have b1:∀r:Nat,r<=5->∀k:Nat,k<=3->0<rR r k->k<3/\qe xV (yD (rR r k:Int) 2)=(rR r (k+1):Int):=n4
 have T:∀r:Nat,r<=5->∀k:Nat,k<=3->rR r k=0->(∀j,j<k->0<rR r j)->k=rf r:=n4
 have V:∀k:Nat,k<=20->1<k->qe xV ((k:Int)*qe xV ((k:Int)-1))=((k*(k-1):Nat):Int)/\k*(k-1)≠0:=n4
 have M:∀l:Nat,l<=20->1<=l->1<=cw l/\cw l<=5:=n4
 have c3:∀l:Nat,l<=20->1<=l->qe xV (yD (l:Int) (cw l))=((l/cw l:Nat):Int):=n4
 have U:∀l:Nat,l<=20->1<=l->∀k:Nat,k<=20->1<=k->qe xV ((l:Int)*k)≠0:=o1
 have S:∀k:Nat,k<=20->1<k->qe xV (yD (1048576:Int) (qe xV ((k:Int)*qe xV ((k:Int)-1))))=((1048576/(k*(k-1)):Nat):Int):=o1
 have Z:∀l:Nat,l<=20->1<=l->qe xV (yD (1048576:Int) (l:Int))=((1048576/l:Nat):Int):=o1
 have L:∀l:Nat,l<=20->1<=l->∀k:Nat,k<=20->1<=k->qe xV (yD (qe xV ((1048576:Int)*cw l)) (qe xV ((l:Int)*k)))=((1048576*cw l/(l*k):Nat):Int):=o1
 have X:∀l:Nat,l<=20->1<=l->qe xV (yD (qe xV ((qe xV ((1048576:Int)*cw l))*rf (cw l))) (l:Int))=((1048576*cw l*rf (cw l)/l:Nat):Int):=o1
 have Q:∀l:Nat,l<=20->∀k:Nat,k<=20->1048576*cw l/(l*k)<=2^30/\1048576*cw l*rf (cw l)/l<=2^30/\1048576/(k*(k-1))<=2^30/\1048576/l<=2^30:=o1
 refine ts Tryz.func236 ?_ (G7 (HF [] [(2,3),(12,18)] (G7 (G7 (E8 (F8 (G0 [(4,aH)] [(4,5),(18,25)] E9)) (G7 (E8 (G7 (F8 (G0 [(6,aH),(7,aH)] [(6,8),(29,35)] E9))) (G7 (G7 (E8 (G7 (F8 (G0 [(8,bN),(9,aH),(10,aH)] [(8,12),(35,82)] (G7 (E8 (F8 (G7 (HF [(11,aH)] [(11,12),(43,51)] (HF [(11,aH)] [(11,12),(51,63)] (HF [(11,aH)] [(11,12),(63,75)] E9))))) E9))))) E9))))))))));refine aE (ae (λe=>n3) λ_=>ae (λe=>n3) λ_=>?_);refine ak (λr:Nat=>(r:Int)) (λr h'=>h'=h/\r<=5/\∀j,j<r->j*j<l) (λr=>5-r) 0 n2 ⟨n2,n3,λj q=>n3⟩ ?_;rintro r h' ⟨rfl,y,q⟩;have O:r*r<=25:=zu y y;have e:qe xV ((r:Int)*(r:Int))=((r*r:Nat):Int):=by rw[<-Int.natCast_mul];exact kp _
 rw[e];refine ae (λP=>?_) (λJ=>?_)
 .have g:r*r<l:=n3
  have H:=K l f r y q g;refine⟨r+1,oi,⟨n2,n3,λj a=>?_⟩,n3⟩;rcases zd.1 a with a|rfl
  .exact q j a
  .exact g
 .have A:=Y l f r y q n3;have p:=M l f b;rw[A];refine⟨n3,?_⟩;refine ak (λk:Nat=>((k:Int),(rR (cw l) k:Int))) (λk w=>w=h'/\k<=3/\∀j,j<k->0<rR (cw l) j) (λk=>3-k) 0 n2 ⟨n2,n3,λj q=>n3⟩ ?_;rintro k w ⟨rfl,B,u⟩
  try dsimp only
  refine ae (λm=>?_) (λm=>?_)
  .have I:=b1 _ p.2 k B n3;refine⟨n4,k+1,?_,⟨n2,n3,λj a=>?_⟩,n3⟩
   .rw[I.2,ag _];rfl
   .rcases zd.1 a with a|rfl
    .exact u j a
    .omega
  .have D:=T _ p.2 k B n3 u;subst D;refine ak (λt:Sl×Nat=>(t.1,((jm l t.2:Nat):Int),((t.2+1:Nat):Int))) (λt h'=>t.2<=l/\Sp w h' [ai 3 t.1 1 aq ((fD l).take t.2)]) (λt=>l-t.2) (⟨dB,0,0⟩,0) n2 ⟨n9,aa.nil (Sp.refl w) 3 1 aq⟩ ?_;rintro⟨s,k⟩ h3 ⟨B,E⟩;dsimp only at*;refine ae (λe=>?_) (λe=>?_)
   .have d:k+1<=20:=n3
    have z:=Q l f (k+1) d;have b3:=sQ l f k n3;have b4:=AV l f (k+1) d;refine⟨n3,bj (λx h'=>x=(((if k+1>1 then 1048576/((k+1)*(k+1-1))else 1048576/l):Nat):Int)/\h'=h3) ?_ ?_⟩
    .refine ae (λm=>?_) (λm=>?_)
     .have:=V (k+1) d n3;exact⟨by rw[this.1];omega,by rw[S (k+1) d n3,l0 n3],n2⟩
     .exact⟨by rw[Z l f b,m6 n3],n2⟩
    .rintro x G ⟨rfl,rfl⟩;have I:(if k+1>1 then 1048576/((k+1)*(k+1-1))else 1048576/l)<=2^30:=by split<;>first|exact z.2.2.1|exact z.2.2.2
     refine bj (λx h'=>x=(((if k+1>1 then 1048576/((k+1)*(k+1-1))else 1048576/l)+(if k+1<l/cw l then 1048576*cw l/(l*(k+1))else 0):Nat):Int)/\h'=G) ?_ ?_
     .rw[c3 l f b];refine ae (λm=>⟨U l f b (k+1) d n3,?_,n2⟩) (λm=>⟨?_,n2⟩)
      .rw[L l f b (k+1) d n3,Ew _ _ n3 (q7 z.1 n4),l0 (c:=k+1<l/cw l) (xG.1 m)]
      .rw[m6 (c:=k+1<l/cw l) λF=>m (xG.2 F)];rfl
     .rintro x H ⟨rfl,rfl⟩;refine bj (λx h'=>x=((lj l (k+1):Nat):Int)/\h'=H) ?_ ?_
      .rw[c3 l f b];refine aV (λo=>⟨n3,?_,n2⟩) (λo=>⟨?_,n2⟩)
       .have i:k+1=l/cw l:=yV.1 o;rw[X l f b,m6 (c:=k+1<l/cw l) n3,Nat.add_zero,Ew _ _ n3 (q7 z.2.1 n4),lj,m6 (c:=k+1<l/cw l) n3,l0 (c:=k+1=l/cw l) i]
       .have i:¬k+1=l/cw l:=λF=>o (yV.2 F);rw[lj,m6 (c:=k+1=l/cw l) i]
      .rintro x h6 ⟨rfl,rfl⟩;have o:qe xV ((jm l k:Int)+(lj l (k+1):Int))=((jm l (k+1):Nat):Int):=by rw[ag _,jm];rfl
       rw[o];refine E.push af 0 n2 eK n2 n4 (λ_=>rfl) cP _ n2 n4 t6 λW G N=>?_;refine⟨(W,k+1),n8,⟨n5,?_⟩,n5⟩;have R:(fD l).take (k+1)=(fD l).take k++[((jm l (k+1):Nat):Int)]:=by rw[aC _ _ v6];simp[fD]
       dsimp only;rw[R];exact N
   .refine⟨s,n2,?_⟩;rw[qh v6]at E;exact E
theorem DJ(b:Sl)(l:aS)(h:hY)(d:Rd h b 1 ar l)(o:n1 l<=4):an xZ 322 #[b] h λv h'=>v=xP xV (dq l)/\h'=h:=by
 refine ts Tryz.func322 ?_ (G7 (G7 (Hf [(3,aH),(7,aH)] [(3,5),(7,19)])));have j:=d.len;refine ak (λi:Nat=>(dq (l.take i),(i:Int))) (λi h'=>i<=n1 l/\h'=h) (λi=>n1 l-i) 0 n2 ⟨n3,n2⟩ ?_;rintro i m ⟨p,rfl⟩
 try dsimp only
 refine ae (λe=>?_) (λe=>?_)
 .have a:i<n1 l:=n3
  refine⟨n4,d.aX i n2 a (l[i].toNat:Int) n2 ?_⟩;have c:=(Bq (l.take i) n7)
  have g:=c.2.2 n7;have k:=l[i].toNat_lt;obtain⟨n,f⟩:∃n:Nat,dq (l.take i)=(n:Int):=⟨(dq (l.take i)).toNat,n3⟩
  refine⟨i+1,?_,⟨n3,n2⟩,n3⟩;rw[aC _ _ a,GN,f,UQ n _,ag ((i:Int)+1)];rfl
 .rw[qh n3];exact⟨n2,n2⟩
theorem HG(k:Int)(b:aS):(eV k b).length<=64:=by
 by_cases h:1<=k/\k<=255/\b.length<=55
 .rw[nr h.1 h.2.1 h.2.2];exact qk _
 .unfold eV;rw[m6 h];exact qT _
theorem IX(b:Sl)(c:aS)(h:hY)(l:Rd h b 1 ar c)(A:n1 c<=2^30)(i:b.len<=b.cap):
  an xZ 321 #[b] h λv h'=>(gD c=dB->v=.tuple #[xP xV 0,xQ dB 0 0,xT eL]/\Sp h h' [])/\
   ∀k x,gD c=cO (k,x)->∃r:Sl,v=.tuple #[xP xV k,r,xT eH]/\Sp h h' [ai 5 r 1 ar x]:=by
 refine ts Tryz.func321 ?_;have z:=l.len;refine bt (λe=>?_) (λe=>?_)
 .have:gD c=dB:=by unfold gD;rw[m6 λa=>e n3]
  rw[this];exact⟨λ_=>⟨n2,Sp.refl h⟩,λk x h=>t7⟩
 have n:n1 c=64:=n3
 have h3:3<n1 c:=n3
 refine l.nD 3 n2 h3 ((c.getD 3 0).toNat:Int) (by rw[getD_lt h3];rfl) λB p=>⟨⟨n4,n4,n3⟩,?_⟩
 have f:=(l.drop 4 i).take 55 n7;have d:((c.drop 4).take 55).length=55:=n7
 refine((Sp.refl h).nil 5 1 ar).append af 0 n2 cN ⟨_,_,n2,n2⟩ n2 n4 (λ_=>rfl) f cD (by rw[d];decide) λr s g=>?_;have g:Sp h s [ai 5 r 1 ar ((c.drop 4).take 55)]:=g;refine⟨gI g.ac ⟨p,I4⟩,?_⟩;have y:=(c.getD 3 0).toNat_lt;rw[ag ((c.getD 3 0).toNat:Int)];refine(Dw ((c.getD 3 0).toNat:Int) r ((c.drop 4).take 55) s (g.seq 0 n2 λ_=>rfl)).I2 λt u w=>?_;have j:=g.comp w;refine⟨t,n2,(lM t b _ c u (j.seq 1 n2 λ_=>rfl) (l.up j.ac) ?_).mono ?_⟩
 .exact q7 (HG _ _) n4
 rintro _ h3 ⟨rfl,rfl⟩;refine⟨_,n2,aI (λq=>?_) λq=>?_⟩
 .have o:¬eV ((c.getD 3 0).toNat:Int) ((c.drop 4).take 55)=c:=of_decide_eq_false q;have:gD c=dB:=by unfold gD;rw[m6 λa=>o a.2]
  rw[this];exact⟨λ_=>⟨n2,.zip j.ac⟩,λk x h=>t7⟩
 .have m:eV ((c.getD 3 0).toNat:Int) ((c.drop 4).take 55)=c:=nq q;have:gD c=cO (((c.getD 3 0).toNat:Int),(c.drop 4).take 55):=by unfold gD;rw[l0 ⟨n,m⟩]
  rw[this];refine⟨λh=>t7,λk x a=>?_⟩;injection a with a
  injection a with hh1 hh2
  subst hh1;subst hh2;exact⟨r,n2,j.bs [0]⟩
theorem DL(x:bw)(r:ct)(h:hY)(w:fk cG h x r):an xZ 165 #[recv x] h λv h'=>v=xT (jL r)/\Sp h h' []:=by
 refine ts Tryz.func165 ?_ (args:=[x]);obtain⟨⟨B,E,A,s,K,_⟩,F⟩:=w;have m:x.2.2.2.1=r.p.1:=congrArg (·.1) s;have o:x.2.2.2.2.1=r.p.2.1:=congrArg (·.2.1) s;have j:x.2.2.2.2.2.1=r.p.2.2:=congrArg (·.2.2) s;have z:=Seq.len F;refine(Sp.refl h).boxed λd f b=>?_;have b:Sp h f [aj d 144 (bB x)]:=b;have l:=b.box 0 n2;have u:hU f d=cO (xP xV r.object):=by rw[<-B];exact l.cell0 n2
 have t:hU f (d.add 1)=cO (xP xV r.block):=by rw[<-E];exact l.cell n2
 have y:hU f (d.add 2)=cO (xP xV r.id):=by rw[<-A];exact l.cell n2
 have e:∀{h':hY},Sp h h' [aj d 144 (bB x)]->(jL r=eH->False)->Value.bool eL=xT (jL r)/\Sp h h' []:=λ{h'} H' hn=>⟨by cases hq:jL r with|false=>rfl|true=>exact absurd hq hn,.zip H'.ac⟩
 have c:∀a:jL r=eH,(0<=r.object/\r.object<=16777215)/\(0<=r.block/\r.block<=7)/\(0<=r.id/\r.id<=65535)/\bJ r.p=eH/\(r.data.length:Int)=r.p.2.2:=λa=>(jM r).1 a;refine⟨_,u,ae (λG=>⟨_,u,ae (λI=>⟨_,t,ae (λH=>⟨_,t,ae (λJ=>⟨_,y,(kl r.id f).mono ?_⟩) λg=>e b λa=>g C1⟩) λg=>e b λa=>g C1⟩) λg=>e b λa=>g C1⟩) λg=>e b λa=>g C1⟩;rintro _ _ ⟨rfl,rfl⟩;refine⟨_,n2,aU (λk=>?_) λk=>e b λa=>by have:=c a;unfold bQ at k;simp at k;omega⟩;refine⟨r.p,by rw[<-m,<-o,<-j];exact l.lN 3 n2 n2 n2,(dV r.p _).I1 λh3 D=>?_⟩;have n:Sp h h3 [aj d 144 (bB x)]:=b.up D.ac;have i:=n.box 0 n2;refine⟨_,n2,aU (λq=>?_) λq=>e n λa=>by have:=(c a).2.2.2.1;rw[q]at this;cases this⟩;refine⟨x.2.2.2.2.2.2.2,i.cell n2,r.p.2.2,by rw[<-j];exact i.lF 3 2 n2,?_,.zip n.ac⟩;have hid:0<=r.id/\r.id<=65535:=by unfold bQ at k;simp at k;omega
 have:(((x.2.2.2.2.2.2.2.len:Nat):Int)==r.p.2.2)=jL r:=by
  rw[yK,jM,beq_iff_eq];constructor
  .intro a;exact⟨n3,n3,hid,q,n3⟩
  .rintro⟨_,_,_,_,a⟩;omega
 rw[this]
theorem un(x:bw)(r:ct)(h:hY)(N:fk cG h x r):an xZ 98 #[recv x] h λv h'=>∃s:Sl,v=s/\Sp h h' [ai 5 s 1 ar (gg r)]:=by
 refine ts Tryz.func98 ?_ (G7 (G7 (HF [(3,bN)] [(3,4),(7,16)] E9))) [(3,(.l [0,1,3,4,6,7,2,5,8,9])),(5,(.l [0,1,2,3,5,6,4,7,8,9]))] (args:=[x]);obtain⟨⟨e1,O,w,F,o,e7,e8⟩,e6⟩:=id N;have u:x.2.2.2.1=r.p.1:=congrArg (·.1) F;have E:x.2.2.2.2.1=r.p.2.1:=congrArg (·.2.1) F;have D:x.2.2.2.2.2.1=r.p.2.2:=congrArg (·.2.2) F;refine(Sp.refl h).boxed λq J d=>?_;have d:Sp h J [aj q 144 (bB x)]:=d;refine⟨x,(d.box 0 n2).aw _ n2,(DL x r J (cG.mono (cG.loc N d.ac) λ_ Z=>Nat.lt_of_lt_of_le Z d.ac.1)).I1 λX Y=>?_⟩;have z:Sp h X [aj q 144 (bB x)]:=d.up Y.ac;refine⟨_,n2,aI (λg=>?_) λg=>?_⟩
 .unfold gg;rw[g];exact⟨⟨dB,0,0⟩,n2,(z.nil 5 1 ar).bs [1]⟩
 have V:=rC g;have a:=z.box 0 n2;refine aE ⟨r.object,by rw[<-e1];exact a.cell0 n2,r.block,by rw[<-O];exact a.cell n2,r.id,by rw[<-w];exact a.cell n2,(jv ⟨dB,0,0⟩ [] r.object 3 n4 n9 (z.nil 5 1 ar).bf).I2 λP h3 M=>?_⟩;have i:=M.box 1 n2;refine⟨P,n2,⟨by rw[<-w];exact i.cell n2,by rw[<-O];exact i.cell n2,I4⟩,(jv P _ r.block 1 n4 tq M).I2 λL h4 I=>?_⟩;have A:=I.box 1 n2;refine⟨L,n2,⟨by rw[<-w];exact A.cell n2,I4⟩,(jv L _ r.id 2 n4 tq I).I2 λs5 h5 R=>?_⟩;have b:=R.box 1 n2;refine⟨s5,n2,I4,r.p.1,by rw[<-u];exact b.cell n2,r.p.2.1,by rw[<-E];exact b.lF 3 1 n2,r.p.2.2,by rw[<-D];exact b.lF 3 2 n2,?_⟩
 try dsimp only
 rw[bT,bT,bT];refine R.lit af ar cN n2 [b8 r.p.1,b8 r.p.2.1,b8 r.p.2.2] n2 (show 3*1<=2^20 by decide) n2 λT h6 K=>?_;refine K.append af 0 n2 cN ⟨_,_,n2,n2⟩ n2 n4 (λ_=>rfl) (K.seq 2 n2 λ_=>rfl) cD tq λH h7 t=>?_;have t:Sp h h7 [ai 5 H 1 ar ([]++cz r.object 3++cz r.block 1++cz r.id 2++[b8 r.p.1,b8 r.p.2.1,b8 r.p.2.2]),aj q 144 (bB x)]:=t.bs [0,1];have f:=t.box 1 n2;refine⟨r.seed,by rw[<-o];exact f.cell n2,x.2.2.2.2.2.2.2,f.cell n2,?_⟩;rw[ag r.seed];refine(jv H _ r.seed 4 n4 tq t).I2 λU h8 y=>?_;have j:=y.box 1 n2;refine⟨U,n2,⟨j.cell n2,by rw[<-o];exact j.cell n2,I4⟩,?_⟩;refine y.append af 0 n2 cN ⟨_,_,n2,n2⟩ n2 n4 (λ_=>rfl) (Seq.up e6 y.ac) cD p9 λQ G c=>?_;have S:[]++cz r.object 3++cz r.block 1++cz r.id 2++[b8 r.p.1,b8 r.p.2.1,b8 r.p.2.2]++cz r.seed 4++r.data=oI r:=by unfold oI;simp[qo]
 have c:Sp h G [ai 5 Q 1 ar (oI r),aj q 144 (bB x)]:=by rw[<-S];exact c
 have B:=c.box 1 n2;refine⟨⟨by rw[<-o];exact B.cell n2,I4⟩,(Dw 1 Q (oI r) G (c.seq 0 n2 λ_=>rfl)).I2 λe W m=>?_⟩;have k:=(c.comp m).box 1 n2;refine⟨e,n2,⟨by rw[<-o];exact k.cell n2,I4⟩,e,n2,?_⟩;unfold gg;rw[g,l0 rfl];exact(c.comp m).bs [2]
theorem uV{x:aS}{j:Nat}(a:j<n1 x:=by omega):dq ((x.drop j).take 1)=(x[j].toNat:Int):=by rw[qW a];show dq [x[j]]=_;unfold dq;show(0:Int)*256+(x[j].toNat:Int)=_;omega
theorem IY(b:Sl)(c:aS)(h:hY)(hb:Rd h b 1 ar c)(hc:c.length<=2^30)(U:b.len<=b.cap):
  an xZ 257 #[b] h λv h'=>∃x:bw,v=.tuple #[recv x,xT (dt c).isSome]/\((dt c=dB/\Sp h h' [])∨∃R,dt c=cO R/\Sp h h' [EA cG x R]):=by
 refine ts Tryz.func257 ?_ (G7 (G7 (HF [] [(3,4),(14,21)] (HF [(7,(.sc .adr))] [(7,8),(21,49)] E9)))) [(4,(.y [0,1,3,4,5,6,7,8,10,11,12,13,14,15,16,17,18,19,20,21,22,23,24] (.y [2] (.y [9] (.l [25,26,27,28,29]) (.l [28,25,26,27,29])) (.l [28,9,25,26,27,29])) (.l [28,2,9,25,26,27,29])))];refine(Sp.refl h).alloc af n2 λt h1 V=>?_;have V:Sp h h1 [aj t 144 (bB (0,0,0,0,0,0,0,⟨dB,0,0⟩))]:=V;have D:∀{h':hY} {Bs:List HP},Sp h h' (aj t 144 (bB (0,0,0,0,0,0,0,⟨dB,0,0⟩))::Bs)->dt c=dB->
   av xZ (qL 144 (xR (cO t)) (recv (0,0,0,0,0,0,0,⟨dB,0,0⟩))) h' λ_ G=>∃T:bw,bA G t 0 (bB T)/\∃x:bw,Value.tuple #[recv T,xT eL]=.tuple #[recv x,xT (dt c).isSome]/\((dt c=dB/\Sp h G [])∨∃R,dt c=cO R/\Sp h G [EA cG x R]):=λ{h' Bs} Y hn=>by
  refine Y.storeAll af 0 n2 n2 (bB (0,0,0,0,0,0,0,⟨dB,0,0⟩)) n2 n2 n2 n2 λG H4=>?_;exact⟨(0,0,0,0,0,0,0,⟨dB,0,0⟩),(H4.box 0 n2).aw _ n2,(0,0,0,0,0,0,0,⟨dB,0,0⟩),by rw[hn];rfl,.inl ⟨hn,.zip H4.ac⟩⟩
 refine(IX b c h1 (hb.up V.ac) hc U).mono ?_;rintro _ f ⟨Q0,Q1⟩;cases htc:gD c with
 |none=>
  obtain⟨rfl,R2⟩:=Q0 htc;have hn:dt c=dB:=by unfold dt;rw[htc]
  exact⟨(0,⟨dB,0,0⟩,eL),n2,aE (aI (λ_=>D (V.up R2.ac) hn) λe=>oj)⟩
 |some kx=>
  obtain⟨k,x⟩:=kx;obtain⟨r,rfl,R2⟩:=Q1 k x htc;have P:Sp h f [aj t 144 (bB (0,0,0,0,0,0,0,⟨dB,0,0⟩)),ai 5 r 1 ar x]:=V.comp R2;have a5:x.length=55:=by
   unfold gD at htc;split at htc
   .rename_i o;injection htc with htc
    injection htc with _ htc
    rw[<-htc];simp;omega
   .cases htc
  have bd:=(P.own 1 n2).len;have J:=(P.own 1 n2).cap;refine⟨(k,r,eH),n2,aE (aI (λe=>oj) λ_=>bt (λe=>D P ?_) λN=>?_)⟩
  .unfold dt;rw[htc];exact m6 λo=>e o.1
  try dsimp only
  have N:k=1:=N;obtain⟨R,E⟩:=I3 (uA x)
  have I:dt c=if bJ R.p=eH/\gg R=c then cO R else dB:=by
   unfold dt;rw[htc]
   try dsimp only
   rw[<-E];by_cases o:bJ R.p=eH/\gg R=c
   .rw[l0 o];exact l0 ⟨N,o⟩
   .rw[m6 o];exact m6 λh=>o h.2
  have i:Rd f r 1 ar x:=P.seq 1 n2 λ_=>rfl;have tA:∀{h':hY},Rd h' r 1 ar x->an xZ 322 #[xQ r.ptr 3 r.cap] h' λv H=>v=xP xV R.object/\H=h':=λ{h'} hr=>by
   rw[E];exact DJ ⟨r.ptr,3,r.cap⟩ (x.take 3) h' (hr.take 3 n3) n7
  have tB:∀{h':hY} (j n:Nat),j+n<=55->n<=4->Rd h' r 1 ar x->an xZ 322 #[.slice (if r.cap=j then r.ptr else r.ptr.map (·.add (j*1))) n (r.cap-j)] h' λv H=>v=xP xV (dq ((x.drop j).take n))/\H=h':=λ{h'} j n h1 f hr=>
   DJ ⟨if r.cap=j then r.ptr else r.ptr.map (·.add (j*1)),n,r.cap-j⟩ ((x.drop j).take n) h' ((hr.drop j J).take n pb) n7
  have ei:dq ((x.drop 4).take 2)=R.id:=by rw[E];rfl
  have es:dq ((x.drop 9).take 4)=R.seed:=by rw[E];rfl
  have e3:R.block=(x[3].toNat:Int):=D8
  have e6:R.p.1=(x[6].toNat:Int):=D8
  have e7:R.p.2.1=(x[7].toNat:Int):=D8
  have e8:R.p.2.2=(x[8].toNat:Int):=D8
  have B:0<=R.seed/\R.seed<4294967296:=by have:=Bq ((x.drop 9).take 4) n7;rw[<-es];exact⟨this.1,this.2.1⟩
  have ew:qe xX R.seed=R.seed:=by unfold qe;simp[qx,yG];omega
  refine bj (λ(a:fY) h'=>Sp h h' [aj a 144 (bB (R.object,R.block,R.id,R.p.1,R.p.2.1,R.p.2.2,R.seed,⟨dB,0,0⟩)),aj t 144 (bB (0,0,0,0,0,0,0,⟨dB,0,0⟩)),ai 5 r 1 ar x]) ?_ ?_
  .refine⟨⟨n4,n3⟩,i.nD 3 n2 n3 (x[3].toNat:Int) n2 λa6 c6=>⟨⟨n4,n4,n3⟩,i.nD 6 n2 n3 (x[6].toNat:Int) n2 λa8 c8=>i.nD 7 n2 n3 (x[7].toNat:Int) n2 λa4 ao=>i.nD 8 n2 n3 (x[8].toNat:Int) n2 λa2 ap=>⟨⟨n4,n4,n3⟩,?_⟩⟩⟩;have w:∀z:UInt8,qe xV (z.toNat:Int)=(z.toNat:Int):=λz=>by have:=z.toNat_lt;exact ag _
   rw[w,w,w,w];have held:∀{h':hY},aP (λb=>b<f.size) f h'->bF.ok [(a2.add ((8:Int).toNat*1),xP xW (x[8].toNat:Int)),(a4.add ((7:Int).toNat*1),xP xW (x[7].toNat:Int)),(a8.add ((6:Int).toNat*1),xP xW (x[6].toNat:Int)),(a6.add ((3:Int).toNat*1),xP xW (x[3].toNat:Int))] h':=λ{h'} d=>gI d ⟨ap,ao,c8,c6,I4⟩;have A_:∀{h':hY} {K:Int->hY->Prop},aP (λb=>b<f.size) f h'->K R.object h'->jV xZ 322 #[xQ r.ptr 3 r.cap] (.one (.sc (.int .i64))) h' K:=λ{h' K} d hK=>by
    refine(tA (i.up d)).I0 ⟨_,n2,hK⟩
   have B_:∀{h':hY} {K:Int->hY->Prop},aP (λb=>b<f.size) f h'->K R.id h'->jV xZ 322 #[.slice (if r.cap=4 then r.ptr else r.ptr.map (·.add (4*1))) 2 (r.cap-4)] (.one (.sc (.int .i64))) h' K:=λ{h' K} d hK=>by
    refine(tB 4 2 n4 n4 (i.up d)).I0 ⟨_,n2,by rw[ei];exact hK⟩
   have C_:∀{h':hY} {K:Int->hY->Prop},aP (λb=>b<f.size) f h'->K R.seed h'->jV xZ 322 #[.slice (if r.cap=9 then r.ptr else r.ptr.map (·.add (9*1))) 4 (r.cap-9)] (.one (.sc (.int .i64))) h' K:=λ{h' K} d hK=>by
    refine(tB 9 4 n4 n4 (i.up d)).I0 ⟨_,n2,by rw[es];exact hK⟩
   have fin:∀{h':hY} {a:fY},Sp h h' [aj t 144 (bB (0,0,0,0,0,0,0,⟨dB,0,0⟩)),ai 5 r 1 ar x,aj a 144 (bB (0,0,0,0,0,0,0,⟨dB,0,0⟩))]->
     av xZ (qL 144 (xR (cO a)) (recv (R.object,x[3].toNat,R.id,x[6].toNat,x[7].toNat,x[8].toNat,qe xX R.seed,⟨dB,0,0⟩))) h' λ_ G=>bF.ok [] G/\Sp h G [aj a 144 (bB (R.object,R.block,R.id,R.p.1,R.p.2.1,R.p.2.2,R.seed,⟨dB,0,0⟩)),aj t 144 (bB (0,0,0,0,0,0,0,⟨dB,0,0⟩)),ai 5 r 1 ar x]:=λ{h' a} Y=>by
    rw[ew,<-e3,<-e6,<-e7,<-e8];exact Y.storeAll af 2 n2 n2 (bB (R.object,R.block,R.id,R.p.1,R.p.2.1,R.p.2.2,R.seed,⟨dB,0,0⟩)) n2 n2 n2 n2 λG H4=>⟨I4,H4.bs [2,0,1]⟩
   have O:=aP.refl (λb=>b<f.size) f;have al:∀{K:fY->hY->Prop},(∀a h',aP (λb=>b<f.size) f h'->Sp h h' [aj t 144 (bB (0,0,0,0,0,0,0,⟨dB,0,0⟩)),ai 5 r 1 ar x,aj a 144 (bB (0,0,0,0,0,0,0,⟨dB,0,0⟩))]->K a h')->oF xZ (Instr.alloc 144 eH (.tuple #[])) f K:=λ{K} hk=>by
    refine P.tE af n2 ?_;exactλa h' d Y=>hk a h' d Y
   refine⟨A_ O ⟨held O,B_ O ⟨held O,C_ O ⟨held O,al λa h9 d L=>⟨held d,fin L⟩⟩,al λa h9 d L=>⟨held d,C_ d ⟨held d,fin L⟩⟩⟩,al λa h9 d L=>⟨held d,B_ d ⟨held d,C_ d ⟨held d,fin L⟩⟩⟩⟩,al λa h9 d L=>⟨held d,A_ d ⟨held d,B_ d ⟨held d,C_ d ⟨held d,fin L⟩⟩⟩⟩⟩
  .rintro a9 ah Q;refine⟨R.p,(Q.box 0 n2).lN 3 n2 n2 n2,(dV R.p ah).I1 λa0 am=>?_⟩;have M:Sp h a0 [aj a9 144 (bB (R.object,R.block,R.id,R.p.1,R.p.2.1,R.p.2.2,R.seed,⟨dB,0,0⟩)),aj t 144 (bB (0,0,0,0,0,0,0,⟨dB,0,0⟩)),ai 5 r 1 ar x]:=Q.up am.ac;refine⟨_,n2,aI (λg=>D (M.aF 2 [1,0]) (by rw[I,m6 λo=>by rw[g]at o;cases o.1])) λg=>?_⟩;have a7:=(bL R.p).1 g;refine⟨R.p.2.2,(M.box 0 n2).lF 3 2 n2,?_⟩
   try dsimp only
   rw[ag ((13:Int)+R.p.2.2)];refine⟨⟨n4,n3,n3⟩,?_⟩;have ax:((13:Int)+R.p.2.2).toNat-(13:Int).toNat=R.p.2.2.toNat:=n3
   rw[ax];have F:(x.drop 13).take R.p.2.2.toNat=R.data:=by rw[E];rfl
   obtain⟨u,hu⟩:∃u:Sl,u=⟨if r.cap=13 then r.ptr else r.ptr.map (·.add (13*1)),R.p.2.2.toNat,r.cap-13⟩:=⟨_,rfl⟩
   have ad:∀{h':hY},Rd h' r 1 ar x->Rd h' u 1 ar R.data:=λ{h'} hr=>by
    rw[hu,<-F];exact(hr.drop 13 J).take R.p.2.2.toNat pb
   refine M.store af 0 n2 n2 7 [u] (by rw[hu];rfl) n2 n2 n9 λab m=>?_;have m:Sp h ab [aj a9 144 (bB (R.object,R.block,R.id,R.p.1,R.p.2.1,R.p.2.2,R.seed,u)),aj t 144 (bB (0,0,0,0,0,0,0,⟨dB,0,0⟩)),ai 5 r 1 ar x]:=m;obtain⟨X,hX⟩:∃X:bw,X=(R.object,R.block,R.id,R.p.1,R.p.2.1,R.p.2.2,R.seed,u):=⟨_,rfl⟩
   rw[<-hX]at m;refine⟨X,(m.box 0 n2).aw _ n2,(un X R ab (by rw[hX];exact⟨⟨n2,n2,n2,n2,n2,B⟩,ad (m.seq 2 n2 λ_=>rfl)⟩)).I2 λs5 a3 ay=>?_⟩;have A:=m.comp ay;refine⟨s5,n2,(lM s5 b (gg R) c a3 (A.seq 3 n2 λ_=>rfl) (hb.up A.ac) ?_).mono ?_⟩
   .unfold gg;split
    .exact q7 (HG _ _) n4
    .exact qT _
   rintro _ bb ⟨rfl,rfl⟩;refine⟨_,n2,aI (λW=>D (A.aF 2 [1,0]) (by rw[I,m6 λo=>(of_decide_eq_false W) o.2])) λW=>?_⟩;have W:gg R=c:=nq W;refine⟨X,(A.box 0 n2).aw _ n2,?_⟩;refine A.storeAll af 1 n2 n2 (bB X) n2 n2 n2 n2 λZ S=>?_;have s:dt c=cO R:=by rw[I,l0 ⟨g,W⟩]
   refine⟨X,(S.box 1 n2).aw _ n2,X,by rw[s];rfl,.inr ⟨R,s,?_⟩⟩;refine(S.bs [2]).dG 0 n2 λq hq=>?_;have hs:Seq Z q r 1 ar x:=hq.1.seq (λ_=>rfl) hq.2;rw[hX];refine⟨⟨n2,n2,n2,n2,n2,B⟩,?_⟩;show Seq Z q u 1 ar R.data;rw[hu,<-F];exact(hs.drop 13 J).take R.p.2.2.toNat pb
section
variable {pw:fY} {w:Pow}
theorem QE(n:Int)(b:n<2^62)(H:aa B h0 h (fK a pw da offs w ds m::As)):an xZ 14 #[xR (cO pw),xP xV n] h λv h'=>v=.tuple #[]/\aa B h0 h' (fK a pw da offs (w.arm n) ds m::As):=by obtain⟨x,H⟩:=iP H;obtain⟨ok,d⟩:=H.jQ;refine(XH n b (d.aF 2 [1,0])).mono ?_;rintro _ h' ⟨rfl,c⟩;exact⟨n2,nU ((c.aF 2 [1,0]).mJ ok)⟩
end
def adW(W:cR):Nat:=W.flatten.foldr (λx a=>max a x.toNat) 0
def acO(live:aD)(s:Int):Int:=match live.idxOf? s with|some k=>(k:Int)|none=>-1
structure Blk where
 o:Int
 b:Int
 seed:Int
 M:aO
 W:cR
 got:aD
 deriving Inhabited
section
variable {pw:fY} {w:Pow}
end
structure aen (m:aA) (live:aD) (x:Blk):Prop where
 seed:0<=x.seed/\x.seed<4294967296
 ev:aW m.p.2.2.toNat x.M
 ml:n1 x.M=(bE m.p).toNat
 wl:n1 x.W=n1 live
 rl:∀l∈x.W,n1 l<=2^12+n1 x.got
 top:adW x.W<=2^20+n1 x.got
 gl:n1 x.got<=64
 gi:∀s∈x.got,s∈live
variable {s:Sl} {W:cR} {k:Nat}
variable {b cd:fY} {x:Blk}
section
variable {pw:fY} {w:Pow}
end
structure aet (ds ds':aG):Prop where
 len:n1 ds'=n1 ds
 at_:∀k,(bY ds' k).map bu.lost=(bY ds k).map bu.lost
section
variable {pw:fY} {w:Pow}
end
def ZQ(r:ct):Int×Int×Int:=(r.object,r.block,r.id)
section
variable {C:Int->aS} {w:Pow}
def Low(m:aA)(a:aG):Prop:=∀k d,bY a k=cO d->∀c∈d.l,∀r,dt c=cO r->dJ m r=eH->r.id<m.p.1+m.extra
structure Full (m:aA) (C:Int->aS) (ds:aG):Prop where
 live:∀k∈m.drives,∃d,bY ds k=cO d/\d.lost=eL/\jl m d.l=eH
 all:∀e∈m.objs,∀i:Nat,i<e.tries.length->∀id:Nat,id<(m.p.1+m.extra).toNat->∃k∈m.drives,∃d,bY ds k=cO d/\gg (SB m e.object i (ft e.object i (e.tries.getD i 0)) (Th m C e.object i) id)∈d.l
end
def pj(m:aA)(i:Nat):aA:={m with seq:=m.seq+1,objs:=m.objs.take i++m.objs.drop (i+1)}
def cI(m:aA)(a:Int)(w:Pow)(c:aG)(b:ByteArray):Int×aA×Pow×aG:=
 if gO w a then(14,m,w,c)else if m.objs.any (dH b)=eL then(5,m,w,c)else if m.seq>=2147483647 then(7,m,w,c)else
 ce m a w c (pj m (m.objs.findIdx (dH b)))
theorem NC{C:Ctx}{t e k:Nat}{z:aR}{c:Nat}{h:hY}{s:Sl}(a:C.Ok)(b:bS C.toAk t e k z c){x y u:Int}(i j n:Nat)(d:x=i)(J:y=j)(I:u=n)(l:i<=j)(D:j<=n)(h3:n<=s.cap){K:Sl->hY->Prop}(m:∀v,K v h):
  bC C.P (ye t (xQ s.ptr s.len s.cap) (cO (xP xV x)) (cO (xP xV y)) (cO (xP xV u))) (.one (.sc .slc)) h K:=by
 subst d;subst J;subst I;have F:aL C.P (we eH s.len s.cap (cO (xP xV (i:Int))) (cO (xP xV (j:Int))) (cO (xP xV (n:Int)))) (i,j,n):=λw=>by
  have E:¬((n:Int)<0):=n3
  have x2:¬((s.cap:Int)<(n:Int)):=n3
  have x3:(n:Int)<=(s.cap:Int):=n3
  have q:(0:Int)<=(n:Int):=n3
  have A:(0:Int)<=(j:Int):=n3
  have L:(0:Int)<=(i:Int):=n3
  have M:(j:Int)<=(n:Int):=n3
  have p:(i:Int)<=(j:Int):=n3
  have G:¬((j:Int)<0):=n3
  have o:¬((i:Int)<0):=n3
  have r:¬((n:Int)<(j:Int)):=n3
  have H:¬((j:Int)<(i:Int)):=n3
  have B:¬(n<j):=n3
  have g:¬(j<i):=n3
  have f:¬(s.cap<n):=n3
  simp[we,Instr.sliceBound,asIntOf,E,x2,x3,q,A,L,M,p,G,o,r,H,B,g,f,l,D,h3]
 unfold bC ye;refine av.bind (av.always (aK (b.under a)) ?_);show av C.P (xO t (xQ s.ptr s.len s.cap) (cO (xP xV (i:Int))) (cO (xP xV (j:Int))) (cO (xP xV (n:Int)))) h _;unfold xO;refine av.bind (av.always (aK (b.under a)) ?_);refine av.bind (av.always F ?_);refine av.bind (av.always (b.size a) ?_);exact av.pure' ⟨⟨_,_,_⟩,n2,m _⟩
section
variable {pw:fY} {w:Pow}
theorem Pq(d:List dg)(i:Nat)(l:i<n1 d)(n:n1 d<=2^30)(H:aa B h0 h (ai 59 s 4 aT d::As)):
  an xZ 112 #[s,xP xV i,xP xV (i+1)] h λv h'=>∃r:Sl,v=r/\aa B h0 h' (ai 59 r 4 aT (d.take i++d.drop (i+1))::As):=by
 refine ts Tryz.func112 ?_;have c:=H.own 0 n2;have p:=c.len;have j:=c.cap;refine NC af kQ i (i+1) s.len n2 n2 n2 n3 n3 j λ_=>?_;refine aV (λe=>absurd e n3) λ_=>⟨⟨n3,n3⟩,⟨n3,n3⟩,?_⟩
 have k:((i:Int)+1).toNat=i+1:=n3
 rw[k,qj];refine H.IH af 0 n2 kQ ⟨_,_,n2,n2⟩ (λ_=>rfl) ow i l λo m=>⟨I4,⟨n3,n5,n5⟩,?_⟩
 have a:(d.take i++d.drop (i+1)).length=n1 d-1:=n7
 try dsimp only
 rw[qj,qj];refine m.ol af 0 n2 kQ (λ_=>rfl) n2 (by intro v f;simp at f;rcases f with rfl|rfl|rfl<;>rfl) (n1 d-1) n7 λq b=>?_;have g:((d.take i++d.drop (i+1))++d.drop (n1 d-1)).take (n1 d-1)=d.take i++d.drop (i+1):=by rw[<-a,List.take_left]
 rw[g]at b;exact⟨⟨s.ptr,n1 d-1,s.cap⟩,n2,b⟩
theorem ND(b:ByteArray)(x:aY)(m:aA)(I:bH m=eH)(H:aa B h0 h (aJ bP a pw (az x) offs da w ds::be x m::As)):
  an xZ 33 #[xR (cO a),xS b] h λv h'=>v=xP xV (cI m offs w ds b).1/\
   ∃y,aa B h0 h' (aJ bP a pw (az y) offs da (cI m offs w ds b).2.2.1 (cI m offs w ds b).2.2.2::be y (cI m offs w ds b).2.1::As):=by
 refine ts Tryz.func33 ?_;have r:=iO I;have S:=gJ I;obtain⟨g1,g2,g3,g4⟩:=(fR m).1 ((ck m).1 I).1;have ab:=((ck m).1 I).2.2.2.1;refine(ox H).I0 ⟨_,n2,aU (λe=>?_) λN=>?_⟩
 .have k:cI m offs w ds b=(14,m,w,ds):=by unfold cI;rw[l0 e]
  rw[k];exact⟨n2,x,H⟩
 refine(find_spec x m b (H.at 1 n2) r H).mono ?_;rintro _ T ⟨⟨i,rfl,hi⟩,R2⟩;have s:=H.up R2.ac;refine⟨i,n2,?_⟩;rcases hi with⟨rfl,hno⟩|⟨n,hn,rfl,f,hbef⟩
 .refine ae (λ_=>?_) λe=>absurd n4 e;have k:cI m offs w ds b=(5,m,w,ds):=by unfold cI;rw[m6 (by rw[N];decide),l0 hno]
  rw[k];exact⟨n2,x,s⟩
 have g:m.objs.any (dH b)=eH:=List.any_eq_true.2 ⟨_,qf hn,f⟩;have z:m.objs.findIdx (dH b)=n:=by rw[List.findIdx_eq hn];refine⟨f,λj hj=>?_⟩;have:=wu.1 hbef (m.objs[j]'n3) (List.mem_take_iff_getElem.2 ⟨j,n3,n2⟩);simpa using this
 have t:=(aa.cB s).2;have u:cj T x m:=s.at 1 n2;refine ae (λe=>absurd e (xq.2 (zi n))) λ_=>⟨a,n2,x.1,t.cell0 n2,?_⟩
 rw[u.seq];refine ae (λP=>?_) λP=>?_
 .have k:cI m offs w ds b=(7,m,w,ds):=by unfold cI;rw[m6 (by rw[N];decide),m6 D7,l0 P]
  rw[k];exact⟨n2,x,s⟩
 refine⟨a,n2,x,t.aw _ n2,(pJ x m T u r).mono ?_⟩;rintro _ h3 ⟨y,L,pool,rfl,G,A,W,R3⟩;have H3:=(s.comp R3).front;refine⟨y,n2,H3.alloc af n2 λa3 h4 J=>?_⟩;have J:=J.bf;refine J.storeAll af 0 n2 n2 (az y) n2 n2 n2 n2 λh5 U=>?_;refine⟨y.1,(U.box 0 n2).cell0 n2,?_⟩
 try dsimp only
 rw[G.1,ag (m.seq+1)];refine U.gx af 0 n2 n2 [xP xV (m.seq+1)] n2 n2 n2 o8 λh6 E=>?_;refine⟨_,(E.box 0 n2).cell n2,?_⟩;have X:n1 L=n1 m.objs:=by rw[<-A,qp]
 have E:=E.aF 6 [3,0,1,2,4,5];rw[ag ((n:Int)+1)];refine(Pq (L.map qF) n B5 B5 E).I2 λo h7 R=>?_;have R:=R.aF 6 [1,2,3,0,4,5];refine⟨o,n2,R.store af 0 n2 n2 7 [o] n2 n2 n2 o8 λh8 F=>?_⟩;obtain⟨c,d⟩:∃c:aY,c=(m.seq+1,y.2.1,y.2.2.1,y.2.2.2.1,y.2.2.2.2.1,y.2.2.2.2.2.1,y.2.2.2.2.2.2.1,o):=⟨_,rfl⟩
 have ed:c.2.2.2.2.2.2.1=y.2.2.2.2.2.2.1:=by rw[d]
 have Z:c.2.2.2.2.2.2.2=o:=by rw[d]
 obtain⟨L2,q⟩:=I3 (L.take n++L.drop (n+1))
 have Q:L2.map qF=(L.map qF).take n++(L.map qF).drop (n+1):=by rw[q,qG,xK,xu]
 have F:aa B h0 h8 (aj a3 27 (az c)::ib 1 aq pool::ai 3 c.2.2.2.2.2.2.1 1 aq m.drives::ai 59 c.2.2.2.2.2.2.2 4 aT (L2.map qF)::aJ bP a pw (az x) offs da w ds::be x m::As):=by rw[ed,Z,Q,d];exact F
 refine⟨c,(F.box 0 n2).aw _ n2,?_⟩;obtain⟨M,D⟩:=I3 (pj m n)
 have H9:aa B h0 h8 (be c M::aJ bP a pw (az x) offs da w ds::be x m::As):=aa.ua (m:=M) (L:=L2) (pool:=pool) (by rw[D,d];exact⟨n2,G.2.1,G.2.2.1,G.2.2.2⟩)
  (by rw[D,q,qG,xK,xu,A];rfl) (λp f=>W p (by
   rw[q]at f;rcases qu.1 f with f|f
   .exact zP f
   .exact yT f)) (by rw[D];exact F.aF 6 [1,2,3,4,5])
 have O:bG M:=by
  rw[D];have sub:∀e,e∈m.objs.take n++m.objs.drop (n+1)->e∈m.objs:=λe l=>by
   rcases qu.1 l with l|l
   .exact zP l
   .exact yT l
  refine⟨r.dr,?_,?_⟩
  .have:=r.ob;show(m.objs.take n++m.objs.drop (n+1)).length<=_;simp;omega
  .exactλe l=>r.nm e (sub e l)
 refine(EX x m c M (As:=be c M::As) (St.dN 0 n2 λ_ hq=>hq) r O n3 (H9.aF 3 [1,2,0])).I1 λY ⟨V,K⟩=>?_;have k:cI m offs w ds b=ce m offs w ds M:=by unfold cI;rw[m6 (by rw[N];decide),m6 D7,m6 P,z,D]
 rw[k];exact⟨_,n2,n2,V,K.aF 3 [0,1]⟩
theorem Tj(b:ByteArray)(d:bH m=eH)(H:aa B h0 h (fK a pw da offs w ds m::As)):
  an xZ 33 #[xR (cO a),xS b] h λv h'=>v=xP xV (cI m offs w ds b).1/\
   aa B h0 h' (fK a pw da offs (cI m offs w ds b).2.2.1 (cI m offs w ds b).2.2.2 (cI m offs w ds b).2.1::As):=by
 obtain⟨x,H⟩:=iP H;refine(ND b x m d H).mono ?_;rintro _ h' ⟨rfl,y,c⟩;exact⟨n2,nU c⟩
end
theorem IZ(x y:aY)(m:aA)(h:hY)(o:cj h x m)(k:cj h y m)(T:bG m):an xZ 66 #[cu x,cu y] h λv h'=>v=xT eH/\Sp h h' []:=by
 refine ts Tryz.func66 ?_ (G7 (HF [] [(4,5),(8,51)] (E8 (G7 (F8 (G0 [(54,aH)] [(4,8),(54,95)] (G7 (G7 (E8 (F8 (G7 (HF [(6,(.sc .adr)),(7,(.sc .adr))] [(6,8),(57,67)] E9))) E9)))))) E9))) [(6,(.y [0,1,2,3,4,5,6,7,8,9] (.l [10,11,12,13]) (.l [11,10,12,13])))] (args:=[x,y]);refine(Sp.refl h).boxed λH h1 H1=>?_;refine H1.boxed λa2 h2 q=>?_;have q:Sp h h2 [aj H 27 (az x),aj a2 27 (az y)]:=q;have r:=q.box 0 n2;have z:=q.box 1 n2;have S:x.2.2.1=m.p.1:=congrArg (·.1) o.p;have V:x.2.2.2.1=m.p.2.1:=congrArg (·.2.1) o.p;have U:x.2.2.2.2.1=m.p.2.2:=congrArg (·.2.2) o.p;have ad:y.2.2.1=m.p.1:=congrArg (·.1) k.p;have Z:y.2.2.2.1=m.p.2.1:=congrArg (·.2.1) k.p;have ab:y.2.2.2.2.1=m.p.2.2:=congrArg (·.2.2) k.p;have ao:=T.dr;have ap:=T.ob;have a3:=bW.len o.objs;have ax:=bW.len k.objs;refine aE ⟨m.seq,by rw[<-o.seq];exact r.cell0 n2,m.seq,by rw[<-k.seq];exact z.cell0 n2,bt (λe=>absurd n2 e) λ_=>?_⟩;refine⟨m.next,by rw[<-o.next];exact r.cell n2,m.next,by rw[<-k.next];exact z.cell n2,bt (λe=>absurd n2 e) λ_=>?_⟩;refine⟨m.p,by rw[<-S,<-V,<-U];exact r.lN 2 n2 n2 n2,m.p,by rw[<-ad,<-Z,<-ab];exact z.lN 2 n2 n2 n2,_,MI _ _ m.p m.p,aI (λe=>absurd e n9) λ_=>?_⟩;refine⟨m.extra,by rw[<-o.extra];exact r.cell n2,m.extra,by rw[<-k.extra];exact z.cell n2,bt (λe=>absurd n2 e) λ_=>?_⟩;refine⟨x.2.2.2.2.2.2.1,r.cell n2,y.2.2.2.2.2.2.1,z.cell n2,(nL _ _ m.drives m.drives h2 (o.up q.ac).drives (k.up q.ac).drives).I0 ?_⟩;refine⟨_,n2,aI (λe=>absurd e n9) λ_=>⟨x.2.2.2.2.2.2.2,r.cell n2,y.2.2.2.2.2.2.2,z.cell n2,bt (λe=>absurd n3 e) λ_=>?_⟩⟩;refine⟨x.2.2.2.2.2.2.2,r.cell n2,?_⟩;obtain⟨us,F⟩:=bW.fix o.objs;obtain⟨vs,G⟩:=bW.fix k.objs;have al:=F.2.1;have ah:=G.2.1;refine ak (λi:Nat=>(i:Int)) (λi h'=>i<=m.objs.length/\Sp h h' [aj H 27 (az x),aj a2 27 (az y)]) (λi=>m.objs.length-i) 0 n2 ⟨n3,q⟩ ?_;rintro i h5 ⟨hi,w⟩;refine ae (λe=>?_) (λe=>?_)
 .have s:i<m.objs.length:=by have e':(i:Int)<(x.2.2.2.2.2.2.2.len:Int):=e;omega
  obtain⟨E,hE⟩:=I3 (m.objs[i])
  have D:=T.nm _ (qf s);rw[<-hE]at D;obtain⟨u,hu⟩:=I3 (us[i]'n3)
  obtain⟨v,hv⟩:=I3 (vs[i]'n3)
  obtain⟨f,ha,zz,c,P⟩:=F.1.cH (g:=aT) (i:=(i:Int)) i rfl n3 u (by rw[hu]) (K:=λt=>t=u) rfl;obtain⟨d,hb,am,b,B⟩:=G.1.cH (g:=aT) (i:=(i:Int)) i rfl n3 v (by rw[hv]) (K:=λt=>t=v) rfl;rw[P]at c;rw[B]at b;obtain⟨⟨u1,u2,u3⟩,u4⟩:=Fix.row F s;obtain⟨⟨v1,v2,v3⟩,v4⟩:=Fix.row G s;rw[<-hE,<-hu]at u1 u2 u3 u4;rw[<-hE,<-hv]at v1 v2 v3 v4;refine bj (λst h'=>∃Bs,Sp h h' (aj H 27 (az x)::aj a2 27 (az y)::aj st.1 59 (aT u)::aj st.2 59 (aT v)::Bs)) ?_ ?_
  .have keep:∀{h':hY} {Bs:List HP},Sp h h' (aj H 27 (az x)::aj a2 27 (az y)::Bs)->
     bF.ok [(d.add ((i:Int).toNat*4),(xS v.1)),((d.add ((i:Int).toNat*4)).add 1,(xP xV v.2.1)),((d.add ((i:Int).toNat*4)).add 2,(xP xV v.2.2.1)),((d.add ((i:Int).toNat*4)).add 3,(xQ v.2.2.2.ptr v.2.2.2.len v.2.2.2.cap)),(a2.add 7,(xQ y.2.2.2.2.2.2.2.ptr y.2.2.2.2.2.2.2.len y.2.2.2.2.2.2.2.cap)),(f.add ((i:Int).toNat*4),(xS u.1)),((f.add ((i:Int).toNat*4)).add 1,(xP xV u.2.1)),((f.add ((i:Int).toNat*4)).add 2,(xP xV u.2.2.1)),((f.add ((i:Int).toNat*4)).add 3,(xQ u.2.2.2.ptr u.2.2.2.len u.2.2.2.cap)),(H.add 7,(xQ x.2.2.2.2.2.2.2.ptr x.2.2.2.2.2.2.2.len x.2.2.2.2.2.2.2.cap))] h':=λ{h' Bs} H'=>by
    have a:=H'.ac;exact⟨a.cell (cZ b.1) b.1,a.cell (cZ b.2.1) b.2.1,a.cell (cZ b.2.2.1) b.2.2.1,a.cell (cZ b.2.2.2.1) b.2.2.2.1,(H'.box 1 n2).cell n2,a.cell (cZ c.1) c.1,a.cell (cZ c.2.1) c.2.1,a.cell (cZ c.2.2.1) c.2.2.1,a.cell (cZ c.2.2.2.1) c.2.2.2.1,(H'.box 0 n2).cell n2,I4⟩
   have M:=keep w;have a:=w.ac;refine⟨x.2.2.2.2.2.2.2,(w.box 0 n2).cell n2,f,ha,u,⟨a.cell (cZ c.1) c.1,a.cell (cZ c.2.1) c.2.1,a.cell (cZ c.2.2.1) c.2.2.1,a.cell (cZ c.2.2.2.1) c.2.2.2.1,I4⟩,y.2.2.2.2.2.2.2,(w.box 1 n2).cell n2,d,hb,v,⟨a.cell (cZ b.1) b.1,a.cell (cZ b.2.1) b.2.1,a.cell (cZ b.2.2.1) b.2.2.1,a.cell (cZ b.2.2.2.1) b.2.2.2.1,I4⟩,?_,?_⟩
   .refine w.alloc af n2 λY h6 A=>⟨keep A,A.alloc af n2 λX h7 J=>⟨keep J,?_⟩⟩
    refine J.storeAll af 2 n2 n2 (aT u) n2 n2 n2 n2 λh8 I=>?_;obtain⟨Q,W,R,k4,M,_⟩:=keep I;refine⟨⟨Q,W,R,k4,M,I4⟩,I.storeAll af 3 n2 n2 (aT v) n2 n2 n2 n2 λO j=>⟨I4,[],j⟩⟩
   .refine w.alloc af n2 λY h6 A=>⟨keep A,A.alloc af n2 λX h7 J=>⟨keep J,?_⟩⟩
    refine J.storeAll af 3 n2 n2 (aT u) n2 n2 n2 n2 λh8 I=>?_;obtain⟨Q,W,R,k4,M,_⟩:=keep I;refine⟨⟨Q,W,R,k4,M,I4⟩,I.storeAll af 2 n2 n2 (aT v) n2 n2 n2 n2 λO j=>⟨I4,[],j.aF 4 [0,1,3,2]⟩⟩
  .rintro⟨s1,s2⟩ O ⟨Bs,j⟩;dsimp only at j⊢;have N:=j.box 2 n2;have L:=j.box 3 n2;have ay:=D.2;refine⟨E.name,by rw[<-u1];exact N.cell0 n2,E.name,by rw[<-v1];exact L.cell0 n2,aI (λe=>absurd e n9) λ_=>?_⟩;refine⟨E.object,by rw[<-u2];exact N.cell n2,E.object,by rw[<-v2];exact L.cell n2,bt (λe=>absurd n2 e) λ_=>?_⟩;refine⟨E.length,by rw[<-u3];exact N.cell n2,E.length,by rw[<-v3];exact L.cell n2,bt (λe=>absurd n2 e) λ_=>?_⟩;refine⟨u.2.2.2,N.cell n2,v.2.2.2,L.cell n2,(nL _ _ E.tries E.tries O (Seq.up u4 j.ac) (Seq.up v4 j.ac)).I0 ?_⟩;refine⟨_,n2,aI (λe=>absurd e n9) λ_=>⟨i+1,oi,⟨n3,j.aF 2 [0,1]|>.tG (As:=[_,_])⟩,n3⟩⟩
 .exact⟨n2,.zip w.ac⟩
theorem Tk(a b:Sl)(c f:aO)(h:hY)(p:eu h a 1 ar c)(o:eu h b 1 ar f)(D:n1 c<=2^40)(y:∀r∈c,n1 r<=2^40):
  an xZ 200 #[a,b] h λv h'=>v=xT (decide (c=f))/\h'=h:=by
 refine ts Tryz.func200 ?_ (G7 (G7 (Hf [(13,aH)] [(4,6),(13,27)])));have m:=p.len;have l:=o.len;refine bt (λd=>⟨?_,n2⟩) (λs=>?_)
 .rw[nb λe=>d (by rw[m,l,e])]
 .refine ak (λk:Nat=>(k:Int)) (λk h'=>h'=h/\k<=n1 c/\c.take k=f.take k) (λk=>n1 c-k) 0 n2 ⟨n2,n3,n9⟩ ?_;rintro k h' ⟨rfl,B,j⟩;refine ae (λu=>?_) (λq=>?_)
  .have i:k<n1 c:=n3
   have g:k<n1 f:=n3
   refine p.get k n2 i λz t=>?_;refine o.get k n2 g λA x=>?_;refine(lM z A _ _ h' t x (y _ (qf _))).I0 ⟨_,n2,I4,?_⟩;refine aI (λe=>⟨?_,n2⟩) (λe=>?_)
   .have d:c[k]≠f[k]:=of_decide_eq_false e;rw[nb];intro e;subst e;exact d n2
   .have w:c[k]=f[k]:=nq e;rw[ag _];exact⟨k+1,n9,⟨n2,n3,by rw[aC _ _ i,aC _ _ g,j,w]⟩,n3⟩
  .have:k=n1 c:=n3
   subst this;rw[qh n3,qh n3]at j;exact⟨by rw[m9 j],n2⟩
theorem HI(s:Sl)(f b:fY)(d:bu)(rs k:Sl)(h:hY)(i:eu h s 1 ar d.l)(a:bR h b 161 (dE f d rs k))(g:eu h rs 1 ar d.l)(ok:fd d):
  an xZ 136 #[xP xV d.room,xP xV d.wait,s,xT d.lost,xR (cO b)] h λv h'=>v=xT eH/\h'=h:=by
 refine ts Tryz.func136 ?_;have:=ok.len;have:=ok.room;refine⟨b,n2,_,a.cell0 n2,aV (λ_=>?_) λe=>absurd n2 e⟩;refine⟨b,n2,_,a.cell n2,aV (λ_=>?_) λe=>absurd n2 e⟩;refine⟨b,n2,d.lost,a.cell n2,aU (λ_=>?_) λe=>absurd e n9⟩;refine⟨b,n2,rs,a.cell n2,(Tk s rs d.l d.l h i g n3 λc j=>by rw[ok.cell c j];decide).I0 ?_⟩;exact⟨_,n2,n9,n2⟩
def ro(d:bu)(i:Int):aS:=if 0<=i then d.l.getD i.toNat []else[]
variable {B':au} {h0' h':hY} {As':List HP} {pw2:fY}
section
variable {pw:fY} {d:bu}
theorem Pr(H:aa B h0 h (jq pw a d::As))(H':aa B' h0' h (ij pw2 b d::As')):
  an xZ 72 #[xR (cO a),xR (cO b)] h λv h'=>v=xT eH/\Sp h h' []:=by
 refine ts Tryz.func72 ?_ (G7 (G7 (G7 (E8 (G7 (F8 (G0 [(28,aH)] [(4,5),(6,8),(28,57)] (G7 (G7 (E8 (F8 (G7 (G7 (HF [(7,bN)] [(7,8),(32,50)] E9)))) E9)))))) E9)))) [(5,(.l [0,1,2,3,4,5,6,7,8,9,10,13,11,12])),(14,(.l [0,2,3,4,5,6,1,7,8,9,11,13,15,17,10,12,14,16,18,19,20]))];obtain⟨s,w,R,V,K⟩:=jq.box H;obtain⟨ok,rs,rb,j,G,m⟩:=ij.box H';have P:=ok.len;have O:=ok.room;refine aU (λe=>oj) λ_=>aU (λe=>oj) λ_=>⟨b,n2,rs,j.cell n2,b,n2,rs,j.cell n2,?_⟩
 try dsimp only
 rw[ag ((rs.len:Int)-1),m];obtain⟨L,I⟩:∃L:aD,L=[-1,0,(n1 d.l:Int)-1,(n1 d.l:Int)]:=⟨_,rfl⟩
 have S:n1 L=4:=by rw[I];rfl
 refine(Sp.refl h).ir af aq eK n2 [-1,0,(n1 d.l:Int)-1,(n1 d.l:Int)] n2 (show 4*1<=2^20 by decide) n2 ⟨by rw[<-m];exact j.cell n2,by rw[<-m];exact j.cell n2,I4⟩ ?_;refine(Sp.refl h).lit af aq eK n2 [-1,0,(n1 d.l:Int)-1,(n1 d.l:Int)] n2 (show 4*1<=2^20 by decide) n2 λv5 T F=>?_;have F:Sp h T [ai 3 v5 1 aq L]:=by rw[I];exact F
 have Y:=(F.own 0 n2).len;refine ak (λi:Nat=>(i:Int)) (λi h'=>i<=4/\Sp h h' [ai 3 v5 1 aq L]) (λi=>4-i) 0 n2 ⟨n3,F⟩ ?_;rintro i E ⟨hi,u⟩;have g:=R.ac u.ac R.lt;have f:=j.ac u.ac j.lt;have D:=V.up u.ac;have t:=G.up u.ac;refine ae (λe=>?_) (λe=>?_)
 .have y:i<n1 L:=by have e':(i:Int)<(v5.len:Int):=e;omega
  obtain⟨x,Q⟩:=I3 (L[i])
  have U:-1<=x/\x<=n1 d.l:=by
   have:x∈L:=by rw[Q];exact qf y
   rw[I]at this;simp only[List.mem_cons,List.not_mem_nil,or_false]at this;omega
  refine(u.seq 0 n2 λ_=>rfl).aX i n2 y x (by rw[Q];rfl) ?_;refine bj (λr h'=>h'=E/\Rd E r 1 ar (ro d x)) ?_ ?_
  .have p:ro d x=[]->Rd E ⟨dB,0,0⟩ 1 ar (ro d x):=λW=>by rw[W];exact Seq.nil _ _ _ _ _ _
   refine ae (λZ=>⟨b,n2,rs,f.cell n2,ae (λe2=>?_) λe2=>⟨n2,p ?_⟩⟩) (λZ=>⟨n2,p ?_⟩)
   .refine⟨b,n2,rs,f.cell n2,t.get x.toNat n3 n3 λr N=>⟨n2,?_⟩⟩;unfold ro;rw[l0 n3,getD_lt (show x.toNat<n1 d.l by omega)];exact N
   .unfold ro;rw[l0 n3,qg,zj n3];rfl
   .unfold ro;rw[m6 n3]
  .rintro r _ ⟨rfl,N⟩;refine(UK s w x g D ok.cell).I2 λz h3 M=>?_;have ab:(ro d x).length<=64:=by
    unfold ro;split
    .rw[qg];cases hg:d.l[x.toNat]? with
     |none=>simp
     |some c=>simp[ok.cell c (List.mem_of_getElem? hg)]
    .simp
   refine⟨z,n2,(lM z r (ro d x) (ro d x) h3 (M.seq 0 n2 λ_=>rfl) (N.up M.ac) n3).I0 ?_⟩;refine⟨_,n2,aI (λe=>absurd e n9) λ_=>⟨i+1,oi,⟨n3,u.up M.ac⟩,n3⟩⟩
 .have o:hU E (b.add 2)=cO (xQ rs.ptr rs.len rs.cap):=f.cell n2;refine⟨b,n2,rs,o,(Dg s w g K).I0 ?_⟩;refine⟨_,n2,⟨o,I4⟩,aV (λ_=>?_) λe=>absurd n3 e⟩;refine(JK s w g).I0 ⟨_,n2,⟨o,I4⟩,(UJ s w g).I0 ?_⟩;refine⟨_,n2,⟨o,I4⟩,(FO s w g D ok).I2 λr X A=>?_⟩;have J:=g.ac A.ac g.lt;have q:=f.ac A.ac f.lt;have k:hU X (b.add 2)=cO (xQ rs.ptr rs.len rs.cap):=q.cell n2;refine⟨r,n2,⟨k,I4⟩,(uM s w J).mono ?_⟩;rintro _ h7 ⟨rfl,rfl⟩;refine⟨_,n2,⟨k,I4⟩,(HI r pw2 b d rs rb h7 (aa.BN A λ_=>rfl) q (t.up A.ac) ok).I0 ?_⟩;exact⟨_,n2,⟨k,I4⟩,n2,.zip (up u.ac A.ac)⟩
theorem Ja(h:hY):an xZ 72 #[xR dB,xR dB] h λv h'=>v=xT eH/\Sp h h' []:=by refine ts Tryz.func72 ?_ (G7 (G7 (G7 (E8 (G7 (F8 (G0 [(28,aH)] [(4,5),(6,8),(28,57)] (G7 (G7 (E8 (F8 (G7 (G7 (HF [(7,bN)] [(7,8),(32,50)] E9)))) E9)))))) E9)))) [(5,(.l [0,1,2,3,4,5,6,7,8,9,10,13,11,12])),(14,(.l [0,2,3,4,5,6,1,7,8,9,11,13,15,17,10,12,14,16,18,19,20]))];exact aU (λe=>oj) λ_=>aU (λ_=>⟨n2,Sp.refl h⟩) λe=>oj
end
variable {a2:fY} {mc:aR} {da2:List bK}
section
variable {pw:fY} {w:Pow}
theorem mv(x:aY)(m:aA)(c:cj h x m)(e:bG m)(b:∀y∈m.drives,0<=y/\y<64)(H:aa B h0 h (aJ bD a pw (az x) offs da w ds::As)):
  an xZ 69 #[xR (cO a)] h λv h'=>∃r:Sl,v=r/\Sp h h' [ai 3 r 1 aq (bn ds m.drives)]:=by
 refine ts Tryz.func69 ?_;obtain⟨ok,f⟩:=aa.cK H;have g:=e.dr;refine⟨a,n2,x.2.2.2.2.2.2.1,f.cell n2,(Ht _ m.drives c.drives n3 b H).I2 λr i d=>?_⟩;exact⟨r,n2,r,n2,d⟩
theorem aa.NE(H:aa B h0 h (aJ bD a pw mc offs da w ds::As)):∃l,Es w l/\bR h pw 68 (powC w l):=by obtain⟨ok,c⟩:=Qw.aa.jQ H;have b:=c.rest;obtain⟨l,d,e⟩:=aa.jF b;exact⟨l,d,e.box 0 n2⟩
theorem io(H:aa B h0 h (aJ bD a pw mc offs da w ds::As)):
  an xZ 58 #[xR (cO a)] h λv h'=>v=xT (gO w offs)/\h'=h:=by
 refine ts Tryz.func58 ?_;obtain⟨ok,b⟩:=aa.cK H;obtain⟨l,g,c⟩:=aa.NE H;have d:hU h (a.add 8)=cO (xR (cO pw)):=b.cell (uc ok.l8);have f:hU h (a.add 9)=cO (xP xV offs):=b.cell (GO ok.l8);refine⟨a,n2,cO pw,d,pw,n2,w.off,c.cell0 n2,aU (λe=>⟨by unfold gO;rw[e];rfl,n2⟩) λe=>?_⟩;refine⟨a,n2,cO pw,d,pw,n2,w.offs,c.cell n2,a,n2,offs,f,by unfold gO;rw[e];rfl,n2⟩
theorem Ps(x x2:aY)(m:aA)(hx:cj h x m)(E:cj h x2 m)(G:bG m)(N:∀y∈m.drives,0<=y/\y<64){k:Int}(D:k=offs)
  (H:aa B h0 h (aJ bP a pw (az x) offs da w ds::aJ bD a2 pw2 (az x2) k da2 w ds::As)):
  an xZ 18 #[xR (cO a),xR (cO a2)] h λv h'=>v=xT eH/\Sp h h' []:=by
 subst D;refine ts Tryz.func18 ?_ (G7 (G7 (G7 (HF [] [(4,5),(13,67)] (Hf [(67,aH)] [(4,6),(67,82)]))))) [(5,(.l [0,2,3,4,5,1,6,7,8,9,11,10,12,13,14,15,16,17,19,18,20,21,22,23,24,25,26,27,28,29,32,33,34,35,36,37,38,30,31,39,40,41,42,45,46,47,48,49,50,51,43,44,52,53])),(10,(.l [0,1,3,4,5,6,7,8,2,9,10]))];have K:=H.nt;refine aU (λe=>oj) λ_=>aU (λe=>oj) λ_=>?_;obtain⟨ok,Y⟩:=aa.cB H;obtain⟨A,j⟩:=aa.cK K;obtain⟨l2,am,J⟩:=aa.NE K;obtain⟨l1,ab,F⟩:=aa.Qp H;have al:=G.dr;refine bj (λ_ h'=>Sp h h' []) ?_ ?_
 .refine⟨a2,n2,x2,j.aw _ n2,(IN x m hx G H).I2 λy h1 L=>?_⟩;have s:=j.ac L.ac j.lt;refine⟨y,n2,⟨s.cell0 n2,s.cell n2,s.cell n2,s.cell n2,s.cell n2,s.cell n2,s.cell n2,s.cell n2,I4⟩,?_⟩;refine(IZ y x2 m h1 (L.at 0 n2) (E.up L.ac) G).I1 λh2 R2=>?_;have P:=up L.ac R2.ac;refine⟨eH,n2,I4,aI (λe=>oj) λ_=>?_⟩;refine(fx x m (hx.up P) G (aa.up H P)).I2 λr5 h3 R3=>?_;have V:=up P R3.ac;refine⟨r5,n2,I4,(mv x2 m (E.up V) G N (aa.up K V)).I2 λX h4 O=>?_⟩;have o:=up V O.ac;have ah:(bn ds m.drives).length<=n1 m.drives:=qO _ _;refine⟨X,n2,I4,(nL r5 X _ _ h4 ((R3.seq 0 n2 λ_=>rfl).up O.ac) (O.seq 0 n2 λ_=>rfl)).I0 ?_⟩;refine⟨_,n2,I4,aI (λe=>absurd e n9) λ_=>?_⟩;refine(pM (aa.up H o)).I0 ⟨_,n2,I4,(io (aa.up K o)).mono ?_⟩;rintro _ S ⟨rfl,rfl⟩;refine⟨_,n2,I4,aI (λe=>absurd e n9) λ_=>?_⟩;have r:hU S (a2.add 8)=cO (xR (cO pw2)):=(j.ac o j.lt).cell (uc A.l8);have u:=J.ac o J.lt;have t:hU S pw2=cO (xT w.off):=u.cell0 n2;have c3:hU S (pw2.add 3)=cO (xP xV w.offs):=u.cell n2;have q:=F.ac o F.lt;refine(nK (aa.up H o)).I0 ⟨_,n2,I4,aU (λe=>oj) λ_=>?_⟩;refine⟨a2,n2,cO pw2,r,pw2,n2,w.off,t,(nK (aa.up H o)).I0 ?_⟩;refine⟨_,n2,⟨t,r,I4⟩,(sW l1 q).I0 ?_⟩;refine⟨_,n2,⟨t,r,I4⟩,aU (λe=>absurd e (by cases w.off<;>decide)) λ_=>?_⟩;refine⟨a2,n2,cO pw2,r,pw2,n2,w.offs,c3,(nK (aa.up H o)).I0 ?_⟩;refine⟨_,n2,⟨c3,r,t,r,I4⟩,(Dd l1 q).I0 ?_⟩;exact⟨_,n2,⟨c3,r,t,r,I4⟩,bt (λe=>absurd n2 e) λ_=>.zip o⟩
 .rintro _ ad M;refine ak (λi:Nat=>(i:Int)) (λi h'=>i<=64/\Sp h h' []) (λi=>64-i) 0 n2 ⟨n3,M⟩ ?_;rintro i ao ⟨hi,g⟩;have c:=Y.ac g.ac Y.lt;have f:=j.ac g.ac j.lt;refine ae (λe=>?_) (λe=>?_)
  .have U:i<64:=n3
   obtain⟨p,Z,I⟩:=Nl A f i U;refine⟨a2,n2,⟨n3,n3⟩,p,by rw[qj];exact Z,(jA (i:Int) ok c).I0 ?_⟩;refine⟨_,n2,⟨by rw[qj];exact Z,I4⟩,?_⟩;have next:∀{h':hY},Sp h h' []->∃Q:Nat,qe xV ((i:Int)+1)=(Q:Int)/\(Q<=64/\Sp h h' [])/\64-Q<64-i:=λR=>⟨i+1,oi,⟨n3,R⟩,n3⟩
   have Hc:=aa.up H g.ac;have T:=aa.up K g.ac;rcases gj ok (i:Int)with⟨c1,c2⟩|⟨n,d,b,t,c1,c2,c3,c4,c5⟩
   .rcases gj A (i:Int)with⟨g1,g2⟩|⟨n,d,b,g0,g1,g2,g3,g4,g5⟩
    .have:p=dB:=by unfold dj at g2;rw[l0 n3,qj,I]at g2;exact g2
     subst this;rw[c2];refine(Ja _).I1 λW z=>⟨eH,n2,I4,aI (λe=>oj) λ_=>next (aa.up g z.ac)⟩
    .rw[c1]at g3;cases g3
   .have t:i=n:=n3
    subst t;rw[c5];obtain⟨b',c,H5⟩:=Qw.aa.fy Hc c2;rw[c4]at c;injection c with c
    injection c with c
    subst c;obtain⟨b2,f,H6⟩:=Qw.aa.fy T c2;rw[I]at f;injection f with f
    subst f;refine(Pr H5 H6).I1 λW z=>⟨eH,n2,I4,aI (λe=>oj) λ_=>next (aa.up g z.ac)⟩
  .refine(jA (-1) ok c).I0 ?_;have e1:dj da (-1)=dB:=by unfold dj;rw[m6 n4]
   rw[e1];refine⟨_,n2,aU (λ_=>?_) λe=>oj⟩;refine(jA 64 ok c).I0 ?_;have e2:dj da 64=dB:=by unfold dj;rw[m6 n4]
   rw[e2];exact⟨_,n2,n2,g⟩
end
section
theorem Tl(x:aY)(pw:fY)(a:Int):aL xZ (Instr.build 40 #[(0,cu x),(1,xR (cO pw)),(2,xP xV a)]) (xU (dh (az x) pw a (qi 64 dB)).toArray):=
 tv af (i:=_) n2 n2 n2 (vs:=[(0,cu x),(1,xR (cO pw)),(2,xP xV a)]) (cells:=(dh (az x) pw a (qi 64 dB)).toArray) o0
variable {B:au} {h0 h:hY} {As:List HP} {a pw b:fY} {x:aY} {offs:Int} {da:List bK} {w:Pow} {ds:aG} {d:bu}
theorem aa.Wa(n:Nat)(i:n<64)(g:ds[n]?=cO dB)(H:aa B h0 h (aJ bD a pw (az x) offs da w ds::ij pw b d::As)){K:Unit->hY->Prop}
  (j:∀h',aa B h0 h' (aJ bD a pw (az x) offs (da.set n (cO b)) w (ds.set n (cO d))::As)->K () h'):
  av xZ (qL 37 (xR (cO ((a.add 10).add n))) (xR (cO b))) h K:=by
 obtain⟨ok,f⟩:=Qw.aa.jQ H;have e:(a.add 10).add n=a.add (10+n):=by unfold Addr.add;simp[Nat.add_assoc]
 rw[e];refine f.storeAt af 0 n2 n2 n2 n2 n2 (by simp[ok.la];omega) λh' c=>j h' ?_;rw[zx,JO ok.l8]at c;exact aa.Qq ok i g c
theorem DM(p:Pm)(c:Int)(s:Sl)(l:aD)(hS:St B h0 As λh=>Rd h s 1 aq l)(hl:n1 l<=2^20)(H:aa B h0 h (gc pw w::As)):
  an xZ 24 #[gr p,xP xV c,xR (cO pw),s] h λv h'=>
   ((cY p c w l).1≠0->v=.tuple #[xR dB,xP xV (cY p c w l).1]/\aa B h0 h' As)/\
   ((cY p c w l).1=0->∃(a:fY) (x:aY) (da:List bK),v=.tuple #[xR (cO a),xP xV 0]/\aa B h0 h' (aJ bD a pw (az x) w.offs da (cY p c w l).2.1 (cY p c w l).2.2::be x (cv p c l)::As)):=by
 refine ts Tryz.func24 ?_ (G7 (G7 (G7 (G7 (G7 (Hf [(38,aH)] [(14,15),(38,54)])))))) [(10,(.l [0,1,2,3,4,5,6,8,9,7,10,11]))] (args:=[p,(c:Int),(cO pw),s]);refine H.boxed λa1 h1 K=>aU (λe=>oj) λ_=>?_;have K:aa B h0 h1 (aj a1 24 [xP xV p.1,xP xV p.2.1,xP xV p.2.2]::gc pw w::As):=K.bf;refine⟨p,(K.box 0 n2).aw _ n2,(Hu p c s l h1 (hS.at [_,_] K) hl).I2 λx h2 ⟨U,ah⟩=>?_⟩;refine⟨(x,iN p c l),n2,?_⟩
 try dsimp only
 by_cases u:iN p c l=0
 case neg=>
  have ef:cY p c w l=(iN p c l,w,[]):=by rw[sM,m6 u]
  rw[ef];have Z:=K.up (U u).ac;refine Z.alloc af n2 λa4 h3 H3=>?_;refine H3.bf.storeAll af 0 n2 n2 (az x) n2 n2 n2 n2 λh4 F=>?_;exact bt (λ_=>⟨λ_=>⟨n2,F.rest.rest.rest⟩,λh=>absurd h u⟩) λe=>absurd e u
 have U:=ah u;obtain⟨em,bk,bb,ep,M⟩:=Bz u;obtain⟨a7,o,E⟩:=Ha ep;have D:cY p c w l=layAll (bo (cv p c l) (bi l l.length)) w (fL l (bi l l.length).length):=by rw[sM,l0 u]
 have f14:=ON p c w l o M;rw[<-D]at f14;obtain⟨m,Q⟩:=I3 (cv p c l)
 obtain⟨P,I⟩:=I3 (bi l l.length)
 have z:m.drives=P:=by rw[Q,I];rfl
 rw[<-Q,<-I]at D;rw[<-Q]at U;have hz:bG m:=Q▸sK p c l o;have br:n1 P<=64:=by rw[I];exact q7 (ly _ _) o
 have Z:aa B h0 h2 (be x m::gc pw w::As):=(K.nE).bV U;refine Z.alloc af n2 λa4 h3 H3=>?_;refine H3.bf.storeAll af 0 n2 n2 (az x) n2 n2 n2 n2 λh4 F=>?_;have F:aa B h0 h4 (aj a4 27 (az x)::be x m::gc pw w::As):=F;refine bt (λe=>absurd u e) λ_=>?_;obtain⟨lw,bd,al⟩:=(F.aF 3 [2,1,0]).jF;have ab:=F.box 0 n2;refine⟨x,ab.aw _ n2,pw,n2,w.offs,(al.box 0 n2).cell n2,_,Tl x pw w.offs,?_⟩;refine F.boxed λa9 h5 q=>?_;have J:(Value.agg (dh (az x) pw w.offs (qi 64 dB)).toArray).cells.toList=dh (az x) pw w.offs (qi 64 dB):=o8
 rw[J]at q;have q:aa B h0 h5 (aj a9 40 (dh (az x) pw w.offs (qi 64 dB))::aj a4 27 (az x)::be x m::gc pw w::As):=q.bf;have d:=q.box 1 n2;obtain⟨b0,a2,ap⟩:=(q.aF 4 [3,0,1,2]).jF;refine⟨⟨(ap.box 0 n2).cell n2,d.cell0 n2,d.cell n2,d.cell n2,d.cell n2,d.cell n2,d.cell n2,d.cell n2,d.cell n2,I4⟩,?_⟩;have q:=aa.JN (k:=bD) (h8:=by simp) (q.aF 4 [0,3,1,2]);refine⟨x.2.2.2.2.2.2.1,d.cell n2,?_⟩;have T:∀i (hi:i<n1 P),∃n:Nat,n<n1 l/\P[i]=(n:Int)/\0<l.getD n 0:=by subst I;exactλi hi=>ww l l.length i hi
 rw[<-Dk l]at q;have L:∀{h':hY} {X Y:HP} {Bs:List HP},aa B h0 h' (X::Y::be x m::Bs)->cj h' x m:=λ{h' X Y Bs} H'=>H'.at 2 n2;have a0:=(L q).drives.len;rw[z]at a0;refine ak (λt:Nat×List bK=>(t.1:Int)) (λt h'=>t.1<=n1 P/\aa B h0 h' (aJ bD a9 pw (az x) w.offs t.2 w (fL l t.1)::aj a4 27 (az x)::be x m::As)) (λt=>n1 P-t.1) (0,qi 64 dB) n2 ⟨n9,q⟩ ?_;rintro⟨i,da⟩ ay ⟨hi,g⟩;dsimp only at*;obtain⟨a8,a5⟩:=aa.cK g;have N:=L g;have r:=N.drives;rw[z]at r;refine ae (λe6=>?_) (λe6=>?_)
 .have G:i<n1 P:=n3
  obtain⟨n,hn,en,a3⟩:=T i G;have a6:=E n;refine Seq.aX (f:=aq) r i n2 G (n:Int) E6 ?_;refine(hS.at [_,_,_] g).aX n n2 hn (l.getD n 0) (by rw[getD_lt hn];rfl) ?_;refine⟨a9,n2,(OU (l.getD n 0) pw ay).mono ?_⟩;rintro _ bq ⟨Q1,_⟩;obtain⟨b,rfl,am⟩:=Q1 n3;have ad:=(g.bV am).aF 4 [1,0,2,3];refine⟨_,n2,I4,⟨n3,n3⟩,?_⟩;rw[qj,zM];have O:i<(bi l l.length).length:=by rw[<-I];exact G
  have R:(bi l l.length)[i]=(n:Int):=by rw[<-en];simp only[I]
  refine Qw.aa.Wa n n3 (Dt l i n O R) ad λbl ao=>?_;refine⟨I4,(i+1,da.set n (cO b)),n8,⟨n5,?_⟩,n5⟩
  try dsimp only
  rw[<-Dl l i n O R];exact ao
 .have ax:i=n1 P:=n3
  subst ax;refine⟨x,(g.box 1 n2).aw _ n2,x.2.2.2.2.2.2.1,(g.box 1 n2).cell n2,?_⟩;have S:Has (fL l P.length) P:=⟨ws _ _,λs hs=>by
   obtain⟨j,hj,ej⟩:=qE hs;obtain⟨n,hn,en,_⟩:=T j hj;rw[<-ej,en];refine⟨bu.new (l.getD n 0).toNat,?_⟩;unfold bY fL;rw[l0 n3,qj,qP,List.getElem?_range n3,zp,l0 (by rw[<-I,qy,<-en];exact qf hj)];rfl⟩
  refine(Ad (As:=aj a4 27 (az x)::be x m::As) x m x.2.2.2.2.2.2.1 P (St.mono (St.dN (A:=be x m) 1 n2 λh' V=>V) λh' V=>⟨V,by have:=kX.drives V;rw[z]at this;exact this⟩) hz n3 S g).I1 λb1 y=>?_;rw[<-D]at y⊢;refine⟨_,n2,bt (λW=>⟨λ_=>⟨?_,y.rest.rest.rest⟩,λh=>absurd h W⟩) λW=>⟨λh=>absurd W h,λ_=>⟨a9,x,da,n2,?_⟩⟩⟩
  .rcases f14 with f|f
   .exact absurd f W
   .rw[f]
  .rw[<-Q];exact y.nF
end
def jT(l:aD)(k:Nat):Int:=l.getD k 0
def dC(l:aD):Pm:=DA (jT l 0) (jT l 1) (jT l 2)
def uo(l:aD):Nat:=(2+jT l 4%4).toNat
def jU(l:aD):aD:=(qz (uo l)).map λi=>8+jT l (5+i)%50
def sn(l:aD):Int:=jT l 3%7
theorem Jb(l:aD):2<=uo l/\uo l<=5:=by unfold uo;omega
theorem FY(l:aD):(jU l).length=uo l:=by simp[jU]
section
variable {pw:fY} {w:Pow}
theorem gm(s:Sl)(l:aD)(k:Nat)(h:hY)(a:Rd h s 1 aq l):an xZ 45 #[s,xP xV k] h λv h'=>v=xP xV (jT l k)/\h'=h:=by
 refine ts Tryz.func45 ?_;unfold jT;have c:=a.len;refine ae (λe=>?_) (λe=>⟨?_,n2⟩)
 .have b:k<n1 l:=n3
  refine a.aX k n2 b (l.getD k 0) (by rw[getD_lt b];rfl) ⟨n2,n2⟩
 .rw[qg,zj n3];rfl
theorem Pt(s:Sl)(l:aD)(h:hY)(q:Rd h s 1 aq l):an xZ 23 #[s] h λv h'=>∃r:Sl,v=.tuple #[gr (dC l),xP xV (sn l),r]/\Sp h h' [ai 3 r 1 aq (jU l)]:=by
 refine ts Tryz.func23 ?_ (G7 (G7 (G7 (G7 (Hf [(7,bN),(8,aH)] [(7,9),(16,35)]))))) [(8,(.l [0,1,2,5,3,4,6,7,8]))];refine(Sp.refl h).alloc af n2 λM z w=>?_;have b:=q.up w.ac;refine(gm s l 0 z b).I0 ⟨_,n2,(gm s l 1 _ b).I0 ?_⟩;refine⟨_,n2,(gm s l 2 _ b).mono ?_⟩;rintro _ x ⟨rfl,rfl⟩;refine⟨_,n2,(Hx _ _ _ x).I1 λO H=>?_⟩;have L:=w.up H.ac;refine⟨dC l,n2,?_⟩;refine L.alloc af n2 λf P D=>?_;refine D.storeAll af 1 n2 n2 [xP xV (dC l).1,xP xV (dC l).2.1,xP xV (dC l).2.2] n2 n2 n2 n2 λQ p=>?_;have p:=(p.nil 3 1 aq).bs [2,1,0];have N:=Jb l;have A:=FY l;refine ak (λt:Sl×Nat=>(t.1,(t.2:Int))) (λt h'=>t.2<=uo l/\Sp h h' [ai 3 t.1 1 aq ((jU l).take t.2),aj f 24 [xP xV (dC l).1,xP xV (dC l).2.1,xP xV (dC l).2.2],aj M 24 [xP xV 0,xP xV 0,xP xV 0]]) (λt=>uo l-t.2) (⟨dB,0,0⟩,0) n2 ⟨n9,p⟩ ?_;rintro⟨o,i⟩ h8 ⟨R,c⟩;dsimp only at*;have a:=q.up c.ac;refine(gm s l 4 h8 a).I0 ⟨_,n2,(bm _ 4 _).mono ?_⟩;rintro _ h8 ⟨rfl,rfl⟩;refine⟨_,n2,?_⟩;have g:=c.box 1 n2
 try dsimp only
 rw[ag (2+jT l 4%4)];have m:2+jT l 4%4=(uo l:Int):=by unfold uo;omega
 rw[m];refine ae (λe=>?_) (λe=>?_)
 .have B:i<uo l:=n3
  rw[ag ((5:Int)+i)];have E:(5:Int)+i=((5+i:Nat):Int):=n3
  rw[E];refine(gm s l (5+i) h8 a).I0 ⟨_,n2,(bm _ 50 _).I0 ?_⟩;refine⟨_,n2,?_⟩
  try dsimp only
  rw[ag (8+jT l (5+i)%50)];refine c.push af 0 n2 eK n2 n4 (λ_=>rfl) cP (8+jT l (5+i)%50) n2 n4 n7 λG y j=>?_;refine⟨(G,i+1),n8,⟨n5,?_⟩,n5⟩
  try dsimp only
  rw[aC _ _ (show i<(jU l).length by omega)];have J:(jU l)[i]'n3=8+jT l (5+i)%50:=by simp[jU]
  rw[J];exact j
 .have k:i=uo l:=n3
  subst k;rw[qh n3]at c;have u:bF.ok [(f,(xP xV (dC l).1)),(f.add 1,(xP xV (dC l).2.1)),(f.add 2,(xP xV (dC l).2.2))] h8:=⟨g.cell0 n2,g.cell n2,g.cell n2,I4⟩
  refine⟨dC l,g.aw _ n2,(gm s l 3 h8 a).I0 ?_⟩;refine⟨_,n2,u,(bm _ 7 _).I0 ?_⟩;refine⟨_,n2,u,?_⟩;refine c.storeAll af 2 n2 n2 [xP xV (dC l).1,xP xV (dC l).2.1,xP xV (dC l).2.2] n2 n2 n2 n2 λF d=>⟨I4,?_⟩
  exact⟨dC l,(d.box 2 n2).aw _ n2,o,n2,d.bs [0]⟩
theorem Yw:(cY (1,1,1) 0 Pow.new [5]).1=0:=o1
theorem Tm:(bn (cY (1,1,1) 0 Pow.new [5]).2.2 (cv (1,1,1) 0 [5]).drives).length=1:=o1
end
structure Mv where
 kind:Int
 name:ByteArray
 data:aS
 slot:Int
 n:Int
 m:Int
 mask:Int
 keeps:aD
 torns:aD
def EZ:List ByteArray:=[⟨#[97]⟩,⟨#[98]⟩,⟨#[99,97,116,45,55]⟩,⟨#[100]⟩,⟨#[101,49,50,51,52,53,54,55,56,57,48,49]⟩]
def kU(p:Int×Int×Int)(b:Mv):Prop:=
 (b.kind=1/\b.name∈EZ/\(n1 b.data:Int)<=3*(p.1*p.2.2)+1)∨((b.kind=2∨b.kind=3∨b.kind=5)/\b.name∈EZ)∨b.kind=4∨
 (b.kind=6/\(0<=b.slot/\b.slot<9)/\6<=b.n/\b.n<66)∨(b.kind=7/\0<=b.slot/\b.slot<8)∨(b.kind=8/\(0<=b.slot/\b.slot<8)/\6<=b.n/\b.n<66)∨(b.kind=9/\0<=b.slot/\b.slot<8)∨
 (b.kind=10/\(-1<=b.n/\b.n<=7)/\-1<=b.m/\b.m<=68)∨(b.kind=11/\(0<=b.slot/\b.slot<7)/\(0<=b.n/\b.n<40)/\(0<=b.m/\b.m<61)/\0<=b.mask/\b.mask<4294967296)
def NG(b:Mv):Prop:=b=⟨b.kind,if b.kind=1∨b.kind=2∨b.kind=3∨b.kind=5 then b.name else⟨#[]⟩,if b.kind=1 then b.data else[],if b.kind=6∨b.kind=7∨b.kind=8∨b.kind=9∨b.kind=11 then b.slot else 0,
 if b.kind=6∨b.kind=8∨b.kind=10∨b.kind=11 then b.n else 0,if b.kind=10∨b.kind=11 then b.m else 0,if b.kind=11 then b.mask else 0,[],[]⟩
abbrev pk(s:ByteArray):aR:=[xS s]
abbrev AG:=Int×ByteArray×Sl×Int×Int×Int×Int×Sl×Sl
abbrev jd(x:AG):aR:=[xP xV x.1,xS x.2.1,x.2.2.1,xP xV x.2.2.2.1,xP xV x.2.2.2.2.1,xP xV x.2.2.2.2.2.1,xP xX x.2.2.2.2.2.2.1,x.2.2.2.2.2.2.2.1,x.2.2.2.2.2.2.2.2]
abbrev NH(x:AG):Value:=xU #[xP xV x.1,xS x.2.1,x.2.2.1,xP xV x.2.2.2.1,xP xV x.2.2.2.2.1,xP xV x.2.2.2.2.2.1,xP xX x.2.2.2.2.2.2.1,x.2.2.2.2.2.2.2.1,x.2.2.2.2.2.2.2.2]
def jx:jg AG Mv:=⟨λh q a b=>(a.1=b.kind/\a.2.1=b.name/\a.2.2.2.1=b.slot/\a.2.2.2.2.1=b.n/\a.2.2.2.2.2.1=b.m/\a.2.2.2.2.2.2.1=b.mask/\a.2.2.1.len<=a.2.2.1.cap)/\Seq h q a.2.2.1 1 ar b.data/\Seq h q a.2.2.2.2.2.2.2.1 1 aq b.keeps/\Seq h q a.2.2.2.2.2.2.2.2 1 aq b.torns,
 λa d=>⟨a.1,a.2.1.ac d,a.2.2.1.ac d,a.2.2.2.ac d⟩,λa c=>⟨a.1,a.2.1.mono c,a.2.2.1.mono c,a.2.2.2.mono c⟩⟩
theorem QF:∀x,∀c∈pk x,c.oneCell'=eH:=by intro x c a;simp[pk]at a;subst a;rfl
theorem acQ:∀x,∀c∈jd x,c.oneCell'=eH:=by intro x c a;simp[jd]at a;rcases a with rfl|rfl|rfl|rfl|rfl|rfl|rfl|rfl|rfl<;>rfl
abbrev Yx:bS C.toAk 62 9 1 [xS ⟨#[]⟩] 16:=⟨_,_,n2,n2,n2,n2,n2,n2⟩
abbrev Kn:aR:=[xP xV 0,xS ⟨#[]⟩,xQ dB 0 0,xP xV 0,xP xV 0,xP xV 0,xP xX 0,xQ dB 0 0,xQ dB 0 0]
abbrev eMv:bS C.toAk 34 44 9 Kn 128:=⟨_,_,n2,n2,n2,n2,n2,n2⟩
theorem sN(n:Int)(h:hY):an xZ 81 #[xP xV n] h λv h'=>∃s∈EZ,v=xS s/\Sp h h' []:=by refine ts Tryz.func81 ?_;refine(Sp.refl h).lit af pk Yx n2 EZ n2 n4 o0 λc b a=>?_;refine(bm n 5 b).I0 ?_;have e:=ya n (show(5:Int)≠0 by decide);have f:=zZ n (show(0:Int)<5 by decide);have g:n1 EZ=5:=rfl;refine⟨_,n2,(a.seq 0 n2 λ_=>rfl).aX (n%5).toNat n3 n3 (EZ[(n%5).toNat]'n3) n2 ⟨_,qf _,n2,.zip a.ac⟩⟩
theorem To(p:Pm)(k a b:Int)(h:hY)(X:bJ p=eH):an xZ 26 #[gr p,xP xV k,xP xV a,xP xV b] h λv h'=>∃(x:AG) (m:Mv),v=NH x/\kU p m/\NG m/\Sp h h' [EA jx x m]:=by
 refine ts Tryz.func26 ?_ E9 [(4,(.l [0,2,3,4,5,6,7,8,9,10,11,13,1,12,14,15,16]))] (args:=[p,(k:Int),(a:Int),(b:Int)]);obtain⟨⟨O,S⟩,_,z1,K⟩:=(bL p).1 X;have Z:1<=p.1*p.2.2/\p.1*p.2.2<=16*24:=⟨wi O z1 n3 n3,wi S K n3 n3⟩
 refine(Sp.refl h).boxed λY h1 H1=>H1.alloc af n2 λa2 R i=>?_;have fin:∀(d f n m c:Int) (e:ByteArray) {h':hY},Sp h h' [aj Y 24 [xP xV p.1,xP xV p.2.1,xP xV p.2.2],aj a2 44 Kn]->kU p ⟨d,e,[],f,n,m,c,[],[]⟩->NG ⟨d,e,[],f,n,m,c,[],[]⟩->
   av xZ (qL 44 (xR (cO a2)) (xU #[xP xV d,xS e,xQ dB 0 0,xP xV f,xP xV n,xP xV m,xP xX c,xQ dB 0 0,xQ dB 0 0])) h' λ_ j=>
    ∃r:AG,bA j a2 0 (jd r)/\∃(x:AG) (m:Mv),NH r=NH x/\kU p m/\NG m/\Sp h j [EA jx x m]:=by
  intro d f n m c e h' H' F V;refine H'.storeAll af 1 n2 n2 (jd (d,e,⟨dB,0,0⟩,f,n,m,c,⟨dB,0,0⟩,⟨dB,0,0⟩)) n2 n2 n2 n2 λj B=>?_;refine⟨(d,e,⟨dB,0,0⟩,f,n,m,c,⟨dB,0,0⟩,⟨dB,0,0⟩),(B.box 1 n2).aw _ n2,_,_,n2,F,V,?_⟩;have P:Sp h j []:=.zip B.ac;exact P.comp (.one (aP.refl _ _) ⟨⟨n2,n2,n2,n2,n2,n2,qk _⟩,Seq.nil _ _ _ _ _ _,Seq.nil _ _ _ _ _ _,Seq.nil _ _ _ _ _ _⟩)
 refine(bm k 26 R).mono ?_;rintro _ h3 ⟨rfl,rfl⟩;have k0:=ya k (show(26:Int)≠0 by decide);have k1:=zZ k (show(0:Int)<26 by decide);have W:∀(x n:Int),0<n->0<=x%n/\x%n<n:=λx n L=>⟨ya x n3,zZ x L⟩
 refine⟨_,n2,ae (λ_=>?_) λ_=>?_⟩
 .refine⟨n4,p.1,(i.box 0 n2).cell0 n2,p.2.2,(i.box 0 n2).cell n2,(sN a h3).mono ?_⟩;rintro _ g ⟨s,t,rfl,u⟩;have w:=i.up u.ac;have U:qe xV ((qe xV ((qe xV ((3:Int)*p.1))*p.2.2))+(2:Int))=3*(p.1*p.2.2)+2:=by rw[ag (3*p.1),Int.mul_assoc,ag (3*(p.1*p.2.2)),ag _]
  refine⟨s,n2,⟨(w.box 0 n2).cell n2,(w.box 0 n2).cell0 n2,I4⟩,?_⟩;rw[U];refine(bm _ (3*(p.1*p.2.2)+2) g n3 n3).mono ?_;rintro _ o ⟨rfl,rfl⟩;obtain⟨q,D⟩:=I3 (qe xV (yD a 5)%(3*(p.1*p.2.2)+2))
  have H:=W (qe xV (yD a 5)) (3*(p.1*p.2.2)+2) n3;rw[<-D]at H⊢;obtain⟨N,T⟩:∃N:Nat,q=N:=⟨q.toNat,n3⟩
  subst T;refine⟨_,n2,⟨(w.box 0 n2).cell n2,(w.box 0 n2).cell0 n2,I4⟩,(SC N b o n3).mono ?_⟩;rintro _ Q ⟨r,l,rfl,hl,I⟩;have E:=w.comp I;have A:=(I.own 0 n2).cap;refine⟨r,n2,⟨(E.box 0 n2).cell n2,(E.box 0 n2).cell0 n2,I4⟩,?_⟩;refine E.storeAll af 1 n2 n2 (jd (1,s,r,0,0,0,0,⟨dB,0,0⟩,⟨dB,0,0⟩)) n2 n2 n2 n2 λh7 J=>?_;refine⟨I4,(1,s,r,0,0,0,0,⟨dB,0,0⟩,⟨dB,0,0⟩),(J.box 1 n2).aw _ n2,_,(⟨1,s,l,0,0,0,0,[],[]⟩:Mv),n2,.inl ⟨n2,t,n5⟩,n2,?_⟩;have M:=J.bs [2];exact M.dG 0 n2 λq D=>⟨⟨n2,n2,n2,n2,n2,n2,A⟩,D.1.seq (λ_=>rfl) D.2,Seq.nil _ _ _ _ _ _,Seq.nil _ _ _ _ _ _⟩
 refine ae (λ_=>(sN a h3).mono ?_) λ_=>ae (λ_=>(sN a h3).mono ?_) λ_=>aV (λ_=>?_) λ_=>aV (λ_=>(sN a h3).mono ?_) λ_=>aV (λ_=>?_) λ_=>aV (λ_=>?_) λ_=>aV (λ_=>?_) λ_=>aV (λ_=>?_) λ_=>ae (λ_=>?_) λ_=>aV (λ_=>?_) λ_=>?_
 .rintro _ g ⟨s,t,rfl,u⟩;exact⟨s,n2,fin 2 0 0 0 0 s (i.up u.ac) (.inr (.inl ⟨.inl n2,t⟩)) n2⟩
 .rintro _ g ⟨s,t,rfl,u⟩;exact⟨s,n2,fin 3 0 0 0 0 s (i.up u.ac) (.inr (.inl ⟨.inr (.inl n2),t⟩)) n2⟩
 .exact fin 4 0 0 0 0 _ i (.inr (.inr (.inl n2))) n2
 .rintro _ g ⟨s,t,rfl,u⟩;exact⟨s,n2,fin 5 0 0 0 0 s (i.up u.ac) (.inr (.inl ⟨.inr (.inr n2),t⟩)) n2⟩
 .refine(bm a 9 h3).mono ?_;rintro _ g ⟨rfl,rfl⟩;refine⟨_,n2,(bm b 60 g).mono ?_⟩;rintro _ o ⟨rfl,rfl⟩;have y:=W a 9 n4;have G:=W b 60 n4;refine⟨_,n2,?_⟩
  try dsimp only
  rw[ag (6+b%60)];exact fin 6 _ _ 0 0 _ i (.inr (.inr (.inr (.inl ⟨n2,y,n5,n5⟩)))) n2
 .refine(bm a 8 h3).I0 ⟨_,n2,fin 7 _ 0 0 0 _ i (.inr (.inr (.inr (.inr (.inl ⟨n2,W a 8 n4⟩))))) n2⟩
 .refine(bm a 8 h3).mono ?_;rintro _ g ⟨rfl,rfl⟩;refine⟨_,n2,(bm b 60 g).mono ?_⟩;rintro _ o ⟨rfl,rfl⟩;have y:=W a 8 n4;have G:=W b 60 n4;refine⟨_,n2,?_⟩
  try dsimp only
  rw[ag (6+b%60)];exact fin 8 _ _ 0 0 _ i (.inr (.inr (.inr (.inr (.inr (.inl ⟨n2,y,n5,n5⟩)))))) n2
 .refine(bm a 8 h3).I0 ⟨_,n2,fin 9 _ 0 0 0 _ i (.inr (.inr (.inr (.inr (.inr (.inr (.inl ⟨n2,W a 8 n4⟩))))))) n2⟩
 .refine(bm a 3 h3).mono ?_;rintro _ g ⟨rfl,rfl⟩;refine⟨_,n2,(bm b 20 g).mono ?_⟩;rintro _ o ⟨rfl,rfl⟩;have y:=W a 3 n4;have G:=W b 20 n4;exact⟨_,n2,fin 10 0 _ _ 0 _ i (.inr (.inr (.inr (.inr (.inr (.inr (.inr (.inl ⟨n2,n5,n5,n5⟩)))))))) n2⟩
 .refine(bm a 9 h3).mono ?_;rintro _ g ⟨rfl,rfl⟩;refine⟨_,n2,(bm b 70 g).mono ?_⟩;rintro _ o ⟨rfl,rfl⟩;have y:=W a 9 n4;have G:=W b 70 n4;refine⟨_,n2,?_⟩
  try dsimp only
  rw[ag (a%9-1),ag (b%70-1)];exact fin 10 0 _ _ 0 _ i (.inr (.inr (.inr (.inr (.inr (.inr (.inr (.inl ⟨n2,n5,n5,n5⟩)))))))) n2
 .refine(bm a 7 h3).mono ?_;rintro _ g ⟨rfl,rfl⟩;refine⟨_,n2,n4,(bm _ 40 g).mono ?_⟩;rintro _ o ⟨rfl,rfl⟩;refine⟨_,n2,(bm b 61 o).I0 ?_⟩;have hw:∀z:Int,0<=qe xX z/\qe xX z<4294967296:=λz=>by rw[Cv];have:=(qH 32 z).isLt;omega
  exact⟨_,n2,fin 11 _ _ _ _ _ i (.inr (.inr (.inr (.inr (.inr (.inr (.inr (.inr ⟨n2,W a 7 n4,W _ 40 n4,W b 61 n4,hw _⟩)))))))) n2⟩
theorem Wb(p:Pm)(k a b:Int)(h:hY)(c:bJ p=eH):an xZ 26 #[gr p,xP xV k,xP xV a,xP xV b] h λv h'=>∃(x:AG) (m:Mv),v=NH x/\kU p m/\Sp h h' [EA jx x m]:=
 (To p k a b h c).mono λ_ _ ⟨x,m,e,o,_,H⟩=>⟨x,m,e,o,H⟩
theorem kU.put{p:Pm}{b:Mv}(h:kU p b)(a:b.kind=1):b.name∈EZ/\(n1 b.data:Int)<=3*(p.1*p.2.2)+1:=by
 unfold kU at h;rw[a]at h;rcases h with h|h|h|h|h|h|h|h|h
 .exact h.2
 .exact absurd h.1 n4
 .exact absurd h n4
 all_goals exact absurd h.1 n4
theorem Yy:∀s∈EZ,s.size<=12:=o1
structure Inv (m:aA) (C:Int->aS) (ds:aG) (N:Nat):Prop where
 sto:NA m C ds
 full:Full m C ds
 low:Low m ds
 nm:∀e∈m.objs,e.name∈EZ
 dr:m.drives≠[]
 seq:m.seq<=1+N
 nx:m.next<=N
end Go.Qw
