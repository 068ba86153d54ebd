/- Lemmas for the proof of the law; no condition. -/
import Derived.Test.YtdibhfbogjngkaaGreatDoorKC
set_option linter.unusedVariables false
set_option maxHeartbeats 4000000
set_option linter.unusedSimpArgs false
open Go.Proofs.Tryz renaming prog -> xB
open List renaming eq_replicate_iff -> vP, getElem?_zip_eq_some -> vt, getElem_range -> vF, length_eq_zero_iff -> vH, mem_flatten -> vo, mem_iff_getElem? -> yP, range -> qy, replicate -> qh, zipWith -> zi
open Go.Value renaming agg -> xw, bool -> xv, int -> xq, pointer -> xt, slice -> xr, string -> xu
open Go.IntKind renaming bits -> qk, i64 -> xx, u32 -> xz, u8 -> xy, wrap -> qc
open Prod renaming fst -> qH, snd -> zJ
open Option renaming some -> zR
open Int renaming fdiv -> qX, tdiv -> wy
open Go.Instr renaming slice -> xo, sliceAt -> yo, sliceBounds -> wD, storeAt -> qf
open BitVec renaming ofInt -> qD
set_option maxRecDepth 100000
open Option renaming some -> dB, none -> eH
open Bool renaming true -> eL, false -> eR
open Go renaming Addr -> eX
open Go.Vc renaming cellOf -> f7, Heap -> f8
open List renaming length -> ii
namespace Go.Qw
open Go Go.Vc Go.Proofs Wl
section
variable {B:aD} {h0 h:f8} {As:List HP}
def xQ(pool:List (Sl×aC)):HP:=⟨λh q=>∀x∈pool,Seq h q x.1 1 av x.2,λa d x b=>(a x b).aj d,λa c x b=>(a x b).mono c⟩
theorem aa.adk(H:aa B h0 h As):aa B h0 h (As++[xQ []]):=H.comp (.one (be.refl _ _) λx a=>by cases a)
theorem aa.agJ(H:aa B h0 h As)(i j:Nat)(b:i≠j){pool:List (Sl×aC)}{r:Sl}{l:aC}(d:As[i]?=dB (xQ pool))(c:As[j]?=dB (uC r 1 av l)):aa B h0 h ((As.set i (xQ (pool++[(r,l)]))).set j emp):=
 H.merge i j b d c λg k _ e f x a=>by
  rcases qA.1 a with a|a
  ·exact(e x a).mono λ_ h=>.inl h
  ·rw[qC]at a;subst a;exact Seq.mono f λ_ h=>.inr h
abbrev ajr:bY C.toDi 51 22 1 [xr eH 0 0] 24:=⟨_,_,i0,i0,i0,i0,i0,i0⟩
theorem Xe(s d:eX)(r:Sl)(x:Int×Int)(h':f8)(e:f7 h' d=dB (xt (dB s))/\f7 h' (s.add 5)=dB (xr r.ptr r.len r.cap)):
  ac xB 269 ([Value.agg #[xq xx x.1,xq xx x.2]]++(#[Value.pointer (dB d)]:Array Value).toList).toArray h' λv c=>v=xv (decide (x.1>=(r.len:Int)))/\Sp h' c []:=by
 refine xM x d ?_;unfold om;refine(Sp.refl h').boxed λa f b=>?_;exact⟨x.1,(b.box 0 i0).cell0 i0,dB s,pV e.1 b.aj,s,i0,r,pV e.2 b.aj,i0,.zip b.aj⟩
theorem Xf(s b:eX)(r:Sl)(x:Int)(h':f8)(c:f7 h' b=dB (xt (dB s))/\f7 h' (s.add 5)=dB (xr r.ptr r.len r.cap)):
  ac xB 271 ([Value.int .i64 x]++(#[Value.pointer (dB b)]:Array Value).toList).toArray h' λv a=>v=xv (decide (x>=(r.len:Int)))/\Sp h' a []:=by
 refine xN x b ?_;unfold oo;exact⟨dB s,c.1,s,i0,r,c.2,i0,Sp.refl _⟩
theorem Xg(s f:eX)(p:Int×Int×Int)(v r j m d I F kn:Sl)(E:List (Sl×Sl))(R:List fv)(known:List Bool)(n:Nat)(H:aa B h0 h (SA s (gH f p v r j m d I F)::As))(hS:St B h0 As λh=>oC jL 2 qv h r E R/\Rd h kn 1 fi known)(ao:ii known=n)(hn:n<=64)(a9:ii R<=2^19)(a0:∀e∈R,ii e.1<=2^20)
  (A:ke (n:Int) (rowsOf R known n)=eL) (Z:(dN n (rowsOf R known n)).steps.length<=2^20/\(fJ (dN n (rowsOf R known n)).used (rowsOf R known n).length).length<=2^20):
  ac xB 217 #[xt (dB s),kn] h λv' h'=>v'=.tuple #[]/\∃J D L:Sl,aa B h0 h' (SA s (gH f p v r J D L I F)::ak 332 J 2 fQ ((dN n (rowsOf R known n)).steps.filter λx=>decide (x.1<ii R))::ak 3 D 1 av (dN n (rowsOf R known n)).dead::ak 3 L 1 av ((fJ (dN n (rowsOf R known n)).used (rowsOf R known n).length).filter λx=>decide (x<ii R))::As):=by
 refine Bx (dB s) kn ?_;unfold pO;refine H.boxed λq G T=>?_;have T:=T.bA;refine⟨dB s,(T.box 0 i0).cell0 i0,s,i0,r,(T.box 1 i0).cell i0,?_⟩;have G1:=hS.at [_,_] T;have ab:=G1.1.1.len;have P:=G1.1.2.1;have V:=G1.2.len;let pre:List HP:=[au q 276 [xt (dB s)],SA s (gH f p v r j m d I F)]
 have H2:aa B h0 G (ak 22 ⟨eH,0,0⟩ 1 bw []::xQ []::au q 276 [xt (dB s)]::SA s (gH f p v r j m d I F)::As):=((aa.adk T).bA.nil 22 1 bw).bA;refine aA (λt:Nat×Sl=>(t.2,(t.1:Int))) (λt h'=>t.1<=ii R/\aa B h0 h' (ak 22 t.2 1 bw ((E.take t.1).map qH)::xQ []::au q 276 [xt (dB s)]::SA s (gH f p v r j m d I F)::As)) (λt=>ii R-t.1) (0,⟨eH,0,0⟩) i0 ⟨i9,by simpa using H2⟩ ?_;rintro⟨i,o⟩ h3 ⟨hi,H3⟩;dsimp only at*;refine ai (λe=>?_) (λe=>?_)
 ·have ap:i<ii R:=i4
  have G3:=hS.at [_,_,_,_] H3;refine G3.1.1.eu (g:=qv) i i0 i4 (E[i]'(by omega)) i0 ?_;refine H3.alloc af i0 λa8 h4 y=>?_;have y:=y.bA;refine y.storeAll af 0 i0 i0 (qv (E[i]'(by omega))) i0 i0 i0 i0 λh5 K=>?_;refine⟨(E[i]'(by omega)).1,(K.box 0 i0).cell0 i0,?_⟩;refine K.oU.push af 0 i0 ajr i0 i5 (λ_=>rfl) kh (E[i]'(by omega)).1 i0 i5 i7 λo' h6 U=>?_;refine⟨(i+1,o'),jj,⟨i6,?_⟩,i6⟩;dsimp only;rw[aK E i,qU];exact U
 have Q:i=ii R:=i4
 subst Q;rw[qi i4]at H3;refine aA (λt:Nat×Sl×List Sl=>(t.2.1,(t.1:Int))) (λt h'=>t.1<=n/\t.2.2.length=ii (iA known t.1)/\aa B h0 h' (ak 22 t.2.1 1 bw (E.map qH++t.2.2)::xQ (t.2.2.zip (iA known t.1))::au q 276 [xt (dB s)]::SA s (gH f p v r j m d I F)::As)) (λt=>n-t.1) (0,o,[]) i0 ⟨i4,i0,by simpa using H3⟩ ?_;rintro⟨i,o,sr⟩ h4 ⟨hi,z,y⟩;dsimp only at*;have a2:=FN known i;refine ai (λe=>?_) (λe=>?_)
 ·have ap:i<n:=i4
  have G4:=hS.at [_,_,_,_] y;refine G4.2.bH i i0 i4 _ i0 ?_;have ay:known.getD i eR=known[i]'(by omega):=by rw[qe,qd i4];rfl
  have M:=Pf known i;rw[ay]at M;refine bC (λX=>?_) (λX=>?_)
  ·rw[X,f9 rfl]at M;refine y.lit af av gN i0 [(i:Int)] i0 (show 1*1<=2^20 by decide) i0 λb h5 K=>?_;have K:=K.bA.freeze 0 i0 λ_=>rfl;have U:=aa.agJ K 2 0 i5 i0 i0;refine U.push af 1 i0 ajr i0 i5 (λ_=>rfl) kh b i0 i5 i7 λo' h7 H7=>?_;refine⟨(i+1,o',sr++[b]),jj,⟨i6,by dsimp only;rw[M];simp[z],?_⟩,i6⟩;dsimp only;rw[M,List.zip_append z,<-qp];exact H7.oU
  ·rw[X,g0 i9,qO]at M;exact⟨(i+1,o,sr),jj,⟨i6,by dsimp only;rw[M];exact z,by dsimp only;rw[M];exact y⟩,i6⟩
 have Q:i=n:=i4
 subst Q;have G4:=hS.at [_,_,_,_] y;have N:ii (rowsOf R known i)=ii R+ii sr:=by rw[rowsOf,qx,qz,z]
 have W:iD h4 (λb=>b<h4.size) o 1 av (rowsOf R known i) (E.map qH++sr):=by
  refine⟨y.seq 0 i0 λ_=>rfl,by rw[N];simp;omega,λk a l G S=>?_⟩;by_cases hk:k<ii R
  ·rw[qo i7,qT,qd i4]at G;rw[rowsOf,qo i7,qT,qd hk]at S;simp only[Option.map_some,zR.injEq]at G S;subst G;subst S;exact(Fix.row G4.1 hk).1
  ·rw[qj i7]at G;rw[rowsOf,qj i7]at S;simp only[qz,P]at G S;have hm:(a,l)∈sr.zip (iA known i):=by refine yP.2 ⟨k-ii R,?_⟩;rw[vt];exact⟨G,S⟩
   exact(y.at 1 i0) _ hm
 rw[V,ao];refine(adb (i:Int) o (rowsOf R known i) _ h4 W i4 ?_).mono ?_
 ·intro x hx;rcases qA.1 hx with hx|hx
  ·obtain⟨e,he,rfl⟩:=qu.1 hx;have:=a0 e he;omega
  ·obtain⟨c,hc,rfl⟩:=qu.1 hx;simp
 rintro _ h5 ⟨J,D,L,rfl,R5⟩;have am:Fv (i:Int) (rowsOf R known i)=((dN i (rowsOf R known i)).steps,(dN i (rowsOf R known i)).dead,fJ (dN i (rowsOf R known i)).used (rowsOf R known i).length):=by unfold Fv;rw[f9 A,ql]
 rw[am]at R5;dsimp only at R5;have K:=((y.oU).oU).comp R5;refine⟨((J,D,L),_),i0,?_⟩;have U:aa B h0 h5 (ak 332 J 2 fQ (dN i (rowsOf R known i)).steps::ak 3 D 1 av (dN i (rowsOf R known i)).dead::ak 3 L 1 av (fJ (dN i (rowsOf R known i)).used (rowsOf R known i).length)::au q 276 [xt (dB s)]::SA s (gH f p v r j m d I F)::As):=aa.front (As:=au q 276 [xt (dB s)]::SA s (gH f p v r j m d I F)::As) (Bs:=[_,_,_]) K;refine U.alloc af i0 λa7 h7 H7=>?_;have H7:=H7.bA;refine H7.storeAll af 0 i0 i0 [J,D,L] i0 i0 i0 i0 λh8 H8=>?_;refine⟨J,(H8.box 0 i0).cell0 i0,?_⟩;refine(Vu J _ 269 #[xt (dB q)] (λx=>decide (x.1>=(r.len:Int))) (λh'=>f7 h' q=dB (xt (dB s))/\f7 h' (s.add 5)=dB (xr r.ptr r.len r.cap)) i0 (St.mk' λh' Y=>⟨(Y.box 3 i0).cell0 i0,(Y.box 4 i0).cell i0⟩) (λx h' hq=>Xe s q r x h' hq) H8.oB Z.1).mono ?_;rintro _ h9 ⟨w,rfl,H9⟩;refine⟨w,i0,?_⟩;refine H9.kg af 1 i0 i0 [w] i0 i0 i0 i9 λa5 ah=>?_;refine⟨L,(ah.box 1 i0).cell i0,?_⟩;have ax:=ah.aX 6 [3,0,1,2,4,5];refine(Vt L _ 271 #[xt (dB q)] (λx=>decide (x>=(r.len:Int))) (λh'=>f7 h' q=dB (xt (dB s))/\f7 h' (s.add 5)=dB (xr r.ptr r.len r.cap)) i0 (St.mk' λh' Y=>⟨(Y.box 3 i0).cell0 i0,(Y.box 4 i0).cell i0⟩) (λx h' hq=>Xf s q r x h' hq) ax Z.2).mono ?_;rintro _ a4 ⟨u,rfl,ar⟩;refine⟨u,i0,?_⟩;refine ar.store af 2 i0 i0 2 [u] i0 i0 i0 i9 λa3 O=>?_;refine⟨dB s,(O.box 4 i0).cell0 i0,(w,D,u),(O.box 2 i0).aU _ i0,s,i0,?_⟩;refine O.store af 5 i0 i0 6 [w,D,u] i0 i0 i0 nn λa6 ad=>⟨i0,w,D,u,?_⟩
 have e1:(λx:Int×Int=>!decide (x.1>=(r.len:Int)))=λx=>decide (x.1<(ii R:Int)):=by
  funext x;rw[ab,P];by_cases h:x.1<(ii R:Int)
  ·rw[g9 h,hU i4];rfl
  ·rw[hU h,g9 i4];rfl
 have X:(λx:Int=>!decide (x>=(r.len:Int)))=λx=>decide (x<(ii R:Int)):=by
  funext x;rw[ab,P];by_cases h:x<(ii R:Int)
  ·rw[g9 h,hU i4];rfl
  ·rw[hU h,g9 i4];rfl
 rw[e1,X]at ad;exact ad.aX 6 [5,1,3,0]
end
theorem Rn{l:Row}:¬fl l<ii l↔l=aM l.length:=by
 rw[fl,List.findIdx_lt_length];constructor
 ·intro h;refine vP.2 ⟨i0,λx b=>?_⟩;by_cases a:x=0
  ·exact a
  ·exact absurd ⟨x,b,j8⟩ h
 ·rintro h ⟨x,b,a⟩;have:=(vP.1 h).2 x b;subst this;simp at a
theorem Xh(f:eX)(a b:Sl)(A B:aP)(m n w:Nat)(h:f8)(hf:fM h f)(ha:fR h a 1 aF A)(hb:fR h b 1 aF B)(hl:ii A=m)(b1:ii B=m)(q:bc n A)(hB:bc w B)(a7:1<=n)(hn:n+w<=64)(hm:m<=2^20)(hr:ce A=n):
  ac xB 175 #[xt (dB f),a,b] h λv h'=>(lI n A B/\∃r:Sl,v=.tuple #[r,xq xx 0]/\Sp h h' [fS 34 r 1 aF (gp n A B)])∨(¬lI n A B/\v=.tuple #[xr eH 0 0,xq xx 10]/\Sp h h' []):=by
 have bs:n<=m:=by have:=rn A q;omega
 have d:ii B=ii A:=i4
 have ah:=ha.len;have ab:=hb.len;refine Gk (dB f) a b ?_;unfold CO;refine bj ?_;refine(nF a A n h ha q).mono ?_;rintro v R ⟨rfl,rfl⟩;refine⟨_,i0,bo (λe=>j0) λ_=>?_⟩;refine(nF b B w R hb hB).mono ?_;rintro v H ⟨rfl,rfl⟩;refine⟨_,i0,bo (λe=>j0) λ_=>?_⟩;refine cb (λe=>absurd (by rw[ah,ab,d]) e) λ_=>?_;refine cy (λe=>i4) λ_=>?_;refine(tk a A H ha).mono ?_;rintro v h3 ⟨rfl,rfl⟩;have a2:eJ A=n:=by
  cases A with
  |nil=>simp at hl;omega
  |cons x t=>rw[eJ,bE i9];exact q _ i9
 refine⟨_,i0,?_⟩;rw[a2];refine(AW a A n h3 ha q).mono ?_;rintro v h4 ⟨r,rs,rfl,a8,R4⟩;refine⟨r,i0,?_⟩;have a4:=(R4.own 0 i0).len;refine aA (λt:Nat×List Sl=>(t.1:Int)) (λt h'=>t.1<=m/\t.2.length=m/\Sp h3 h' (ow r t.2 (pW A B t.1))) (λt=>m-t.1) (0,rs) i0 ⟨i9,i6,by simpa[pW,fd]using R4⟩ ?_;rintro⟨k,rs⟩ h5 ⟨hk,bd,U⟩;dsimp only at*;have G:ii rs=ii (pW A B k):=ns
 refine ai (λe=>?_) (λe=>?_)
 ·have J:k<m:=i4
  have S:k<ii A:=i4
  have F:=pU (a:=r) G k ns;have eg:(pW A B k)[k]'(by rw[uw d];omega)=A[k]:=by have:=ack d S;rw[qd ns]at this;exact zR.inj this
  rw[eg]at F;have l1:A[k].length=n:=q _ (qg _);have l2:ii (B[k]'(by omega))=w:=hB _ (qg _);refine(U.seq 0 i0 λ_=>rfl).oq k i0 i4 λa1 I V=>?_;refine(hb.up U.aj).get k i0 i4 λrb ad=>?_;refine U.append af (k+1) F hJ UK i0 i5 (λ_=>rfl) ad iM i4 λs6 h6 H6=>⟨trivial,?_⟩
  refine H6.set af 0 i0 (λ_=>rfl) i0 k i0 i4 s6 i0 i0 i0 λh7 H7=>⟨trivial,?_⟩
  refine⟨(k+1,rs.set k s6),jj,⟨i6,lz,?_⟩,i6⟩;dsimp only;rw[<-acl d S];show Sp h3 h7 (ak 34 r 1 bw (rs.set k s6)::bF 5 1 aF (rs.set k s6) ((pW A B k).set k _));rw[<-lj G];exact H7
 ·have ax:k=ii A:=i4
  subst ax;rw[acm d]at U;refine(uL f h5).mono ?_;rintro v h6 ⟨rfl,rfl⟩;refine⟨dB f,i0,?_⟩;have L:=nr d.symm q hB;have bq:=mR d.symm;refine(CV (m:=fd A B) (n:=n+w) hf hf.lt i4 L i4 i4 i4 U).mono ?_;rintro v h7 ⟨l,rfl,a5,u⟩;rw[Lj d.symm q,hr];refine⟨_,i0,?_⟩;dsimp only;have Z:=(u.own 0 i0).cap;have br:=(u.own 0 i0).len;have H:=hO L n;refine ai (λe=>absurd (show(n:Int)<(n:Int)from e) i4) λ_=>?_;refine⟨⟨z7 _,y0.2 (show n<=r.len by omega)⟩,?_⟩;obtain⟨M,Y⟩:∃M,M=(bL (fd A B) n).2:=⟨_,rfl⟩
  have bb:ii M=ii A:=by have:=H.2;rw[<-Y]at this;omega
  have T:bc (n+w) M:=by rw[Y];exact H.1
  rw[<-Y]at u;have N:ii l=ii M:=i4
  have p:lI n A B↔∀i (P:i<ii M),n<=i->M[i]=aM M[i].length:=by
   unfold lI;rw[<-Y];constructor
   ·intro Q i P hn;refine Q _ (yP.2 ⟨i-n,?_⟩);rw[List.getElem?_drop,show n+(i-n)=i by omega,qd P]
   ·intro Q x hx;obtain⟨i,P,rfl⟩:=qK hx;simp only[ze]at P;rw[wh];exact Q _ i4 i4
  refine aA (λi:Nat=>(i:Int)) (λi h'=>h'=h7/\n+i<=ii M/\∀j (hj:j<ii M),n<=j->j<n+i->M[j]=aM M[j].length) (λi=>ii M-(n+i)) 0 i0 ⟨i0,i4,λj _ _ _=>i4⟩ ?_;rintro i h8 ⟨rfl,P,o⟩;rw[ql];refine ai (λe=>?_) (λe=>?_)
  ·have g:n+i<ii M:=i4
   have F:=pU (a:=r) N (n+i) i4;have ay:ii (M[n+i]'g)=n+w:=T _ (qg _);have y:=u.seq (n+i+1) F λ_=>rfl;have D:=(u.seq 0 i0 λ_=>rfl).drop n Z;have ar:(l.drop n)[i]'(by simp;omega)=l[n+i]'(by omega):=wh;refine D.oq i i0 i7 λa1 I V=>?_;rw[ar];refine(IS _ _ h8 y).mono ?_;rintro _ h9 ⟨rfl,rfl⟩;refine⟨_,i0,ai (λK=>?_) λK=>?_⟩
   ·right;have z:fl (M[n+i]'g)<ii (M[n+i]'g):=by
     by_cases hh:fl (M[n+i]'g)<ii (M[n+i]'g)
     ·exact hh
     ·rw[g0 hh]at K;exact absurd K i5
    refine⟨λQ=>?_,i0,.zip u.aj⟩;have:=p.1 Q (n+i) g i4;exact absurd z (Rn.2 this)
   ·have z:¬fl (M[n+i]'g)<ii (M[n+i]'g):=λhh=>by
     rw[f9 hh]at K;exact K (z7 _)
    refine⟨i+1,js,⟨i0,i4,λj hj R H=>?_⟩,i4⟩;by_cases am:j=n+i
    ·subst am;exact Rn.1 z
    ·exact o j hj R i4
  refine⟨⟨z7 _,y0.2 (show n<=r.cap by omega)⟩,?_⟩;have E:lI n A B:=p.2 λj hj R=>o j hj R i4;have e1:gp n A B=(M.take n).map (List.drop n):=by rw[gp,<-Y]
  have X:∀k (hk:k<n),(gp n A B).take (k+1)=(gp n A B).take k++[(M[k]'(by omega)).drop n]:=λk hk=>by
   rw[e1,aK _ _ i7,yb,yg]
  have b0:ii (gp n A B)=n:=(xY d.symm q hB hr).1;refine aA (λt:Sl×Nat=>(t.1,(t.2:Int))) (λt h'=>t.2<=n/\Sp h8 h' [fS 34 t.1 1 aF ((gp n A B).take t.2)]) (λt=>n-t.2) (⟨eH,0,0⟩,0) i0 ⟨i9,(Sp.refl h8).Mt 34 1 aF⟩ ?_;rintro⟨s,k⟩ h9 ⟨a9,H9⟩;dsimp only at*;have HH:=u.comp H9;refine ai (λe=>?_) (λe=>?_)
  ·have J:k<n:=i4
   have F:=pU (a:=r) N k i4;have O:(ow r l M++[fS 34 s 1 aF ((gp n A B).take k)])[k+1]?=dB (ak 5 (l[k]'(by omega)) 1 aF (M[k]'(by omega))):=by rw[qo (by simp[bF];omega)];exact F
   have ay:ii (M[k]'(by omega))=n+w:=T _ (qg _);have W:=HH.own (k+1) O;have y:=HH.seq (k+1) O λ_=>rfl;have a6:=W.len;have D:=(HH.seq 0 i0 λ_=>rfl).take n i4;have a0:(l.take n)[k]'(by simp;omega)=l[k]'(by omega):=yg;refine D.oq k i0 i7 λa1 I V=>?_;rw[a0];refine⟨⟨z7 _,y0.2 i4⟩,?_⟩;refine(fa _ _ h9 (y.drop n W.cap) i7).mono ?_;rintro v bl ⟨c,rfl,ap⟩;have a3:=(H9.comp ap).freeze 1 i0 λ_=>rfl;refine⟨c,i0,?_⟩;refine a3.xV af 0 1 i5 i0 i0 fL i7 λs' bk ao=>?_;refine⟨(s',k+1),jj,⟨i6,?_⟩,i6⟩;dsimp only;rw[X k J];exact ao.del 1
  ·rw[qi i4]at H9;refine .inl ⟨E,s,i0,?_⟩;have:=(Sp.zip u.aj).comp H9;exact this
section
variable {B:aD} {h0 h:f8} {As:List HP}
theorem Vv:∀{l:aC},l.Pairwise (·<·)->fO l=eL
 |[],_=>rfl
 |[_],_=>rfl
 |a::b::r,h=>by
  rw[List.pairwise_cons]at h;rw[fO,Vv h.2,g9 (h.1 b i9)];rfl
theorem aae{l:aC}(h:l.Pairwise (·<·)):PW l:=λi a=>zx.1 h i (i+1) i4 a i4
theorem aaf{n:Nat}{R:List fv}{known:List Bool}(i:n<=64)(b:∀e∈R,(∀c∈e.1,0<=c/\c<(n:Int))/\e.1.Pairwise (·<·)):ke (n:Int) (rowsOf R known n)=eL:=by
 unfold ke;rw[qB];refine⟨i7,q9.2 λr a=>?_⟩;unfold fP;rw[qB];rcases qA.1 a with a|a
 ·obtain⟨e,f,rfl⟩:=qu.1 a;exact⟨q9.2 λc g=>by simpa using(b e f).1 c g,Vv (b e f).2⟩
 ·obtain⟨d,rfl,h,_⟩:=BV a;exact⟨i7,i0⟩
theorem aa.ajs{e:Nat}{v:Sl}{vs:aP}(H:aa B h0 h As)(i:Nat)(r:As[i]?=dB (cg e v 1 bw (uD 1 aF) vs)):
  ∃f:List Sl,aa B h0 h (As.set i (ak e v 1 bw f)++[lJ (f.zip vs)])/\f.length=ii vs/\∀(c:Nat) (n:c<ii f) (m:c<ii vs),f[c].ptr.isNone=vs[c].isEmpty:=by
 have g:i<ii As:=(qn.1 r).1;have u:aa B h0 h (As.set i (HP.ex λf:List Sl=>((ak e v 1 bw f).sep (lJ (f.zip vs))).and (ii f=ii vs/\∀(c:Nat) (n:c<ii f) (m:c<ii vs),f[c].ptr.isNone=vs[c].isEmpty))):=
  H.fZ i r λq ⟨rs,D,a,b,c,d,e⟩=>⟨rs,⟨λb=>v.on b,D,λx j=>(b x j).2,λx j=>(b x j).1,c,⟨a,λx j=>j⟩,λx j=>by
   obtain⟨k,A,l⟩:=qK j;simp only[List.length_zip]at A;rw[y9]at l;subst l;exact(e k _ _ (qd i4) (qd i4)).1⟩,d,λk n m=>by
   obtain⟨x,y⟩:=e k _ _ (qd n) (qd m);cases hv:vs[k]with
   |nil=>rw[y hv];rfl
   |cons z t=>
    have:=x.isSome (by rw[hv];simp);rw[this];rfl⟩
 obtain⟨f,o⟩:=u.YD i (zl g);rw[yq]at o;have w:=o.fact i (zl g);have s:=o.aga i (zl g);rw[yq]at s;have p:=s.split i (zl g);rw[yq]at p;exact⟨f,p,w⟩
def yv(x:Int×Sl):bg:=[xq xx x.1,x.2]
def akn:jn (Int×Sl) (Int×Row):=⟨λh q a b=>a.1=b.1/\Seq h q a.2 1 aF b.2,λa d=>⟨a.1,a.2.aj d⟩,λa c=>⟨a.1,a.2.mono c⟩⟩
abbrev Ou:jn Sl (List (Int×Row)):=bO akn 2 yv
end
theorem aag{a:List Sl}{vs:aP}(h:ii a=ii vs)(b:List (Sl×Row))(c:∀x∈a.zip vs,x∈b):iy b id a vs:=
 ⟨h,λi r l e d=>c _ (yP.2 ⟨i,by rw[vt];exact⟨e,d⟩⟩)⟩
theorem Vw{α β:Type}:∀(a:List α) (x:α) (l:List β) (h:ii a<ii l),(a++[x]).zip l=a.zip l++[(x,l[ii a])]
 |[],x,b::l,_=>i9
 |c::a,x,b::l,h=>by
  have:=Vw a x l j5;simp[this]
def agK(h h':f8)(v:Value)(n:Nat)(A a:aP):Prop:=
 (lI n A a/\∃r:Sl,v=.tuple #[r,xq xx 0]/\Sp h h' [MA r (gp n A a)])∨(¬lI n A a/\v=.tuple #[xr eH 0 0,xq xx 10]/\Sp h h' [])
theorem afy(p:Pm)(seed:Int)(l:Sl)(syms:List (Int×Row))(n w:Nat)(h:f8)(hl:dW Ou h l syms)(y:bP p=eL)(bk:∀x∈syms,BW p x)(hn:(bK p).toNat=n)(hw:p.2.2.toNat=w)(ep:ii syms<=2^18)(hr:ce (dR p seed (syms.map qH))=n):
  ac xB 160 #[kS p,xq xz seed,l] h λv h'=>agK h h' v n (dR p seed (syms.map qH)) (sY p syms):=by
 refine Pu p seed l ?_;unfold HZ;have eq:=(cu p).1 y;have d3:bK p=n:=by rw[<-hn];have:=pm y;omega
 have b4:n=p.1.toNat+p.2.1.toNat:=by rw[<-hn,pm y];omega
 have c5:p.2.2=(w:Int):=i4
 have b3:1<=n:=i4
 have cc:n<=20:=i4
 obtain⟨U,c8,et,b6⟩:=bO.kt hl;have es:=bO.len hl;let d:List fv:=xI n seed syms;have eh:ii d=ii syms:=by simp[d,xI]
 have H:=aiz (seed:=seed) b3 cc bk hw;let u:Nat->ct:=λi=>(syms.take i).map λx=>dz n seed x.1;have ab:∀x:Int×Row,x∈syms->(bP p&&bZ x.1)=eL:=λx hx=>by rw[y,(bk x hx).id];rfl
 refine(Sp.refl h).boxed λa1 K H1=>?_;have du:Sp h K [ak 275 ⟨eH,0,0⟩ 2 qv [],xQ [],au a1 24 [xq xx p.1,xq xx p.2.1,xq xx p.2.2]]:=((aa.adk H1).nil 275 2 qv).cG [2,1,0];refine aA (λt:Nat×Sl×List Sl=>(t.2.1,(t.1:Int))) (λt h'=>t.1<=ii syms/\t.2.2.length=t.1/\Sp h h' [ak 275 t.2.1 2 qv (t.2.2.zip (U.map zJ)),xQ (t.2.2.zip (u t.1)),au a1 24 [xq xx p.1,xq xx p.2.1,xq xx p.2.2]]) (λt=>ii syms-t.1) (0,⟨eH,0,0⟩,[]) i0 ⟨i9,i0,du⟩ ?_;rintro⟨i,o,cr⟩ h2 ⟨hi,b0,H2⟩;dsimp only at*;have cl:ii (u i)=i:=by simp[u];omega
 refine ai (λe=>?_) (λe=>?_)
 ·have V:i<ii syms:=i4
  obtain⟨y1,y2⟩:=b6 i i4 V;refine(Seq.up c8 H2.aj).eu (g:=yv) i i0 i4 (U[i]'(by omega)) i0 ?_;refine H2.alloc af i0 λa5 h3 H3=>?_;refine H3.storeAll af 3 i0 i0 (yv (U[i]'(by omega))) i0 i0 i0 i0 λh4 O=>?_;refine⟨p,(O.box 2 i0).aU _ i0,(U[i]'(by omega)).1,(O.box 3 i0).cell0 i0,(U[i]'(by omega)).2,(O.box 3 i0).cell i0,?_⟩;refine(Ci p seed (U[i]'(by omega)).1 h4).mono ?_;rintro _ h5 ⟨r,rfl,R5⟩;rw[y1,ab _ (qg V),f9 rfl,hn]at R5;have H5:=(O.comp R5).freeze 4 i0 λ_=>rfl;refine⟨r,i0,⟨(H5.box 3 i0).cell i0,trivial⟩,?_⟩;have H6:=aa.agJ H5 1 4 i5 i0 i0;have ds:=H6.box 3 i0;refine H6.nQ af qv eQ i0 [(r,(U[i]'(by omega)).2)] i0 (show 1*2<=2^20 by decide) i0 ⟨ds.cell i0,trivial⟩ ?_;refine H6.push af 0 i0 eQ i0 i5 (λ_=>rfl) acS (r,(U[i]'(by omega)).2) i0 i5 i7 λo' h7 H7=>?_;refine⟨⟨(H7.box 3 i0).cell i0,trivial⟩,?_⟩;refine⟨(i+1,o',cr++[r]),jj,⟨i6,by simp[b0],?_⟩,i6⟩;dsimp only;have e1:u (i+1)=u i++[dz n seed syms[i].1]:=by simp only[u];rw[aK _ _ V,qU];rfl
  have e2:(cr++[r]).zip (U.map zJ)=cr.zip (U.map zJ)++[(r,(U[i]'(by omega)).2)]:=by rw[Vw cr r (U.map zJ) i7,yb];simp only[b0]
  rw[e1,e2,List.zip_append (by rw[b0,cl])];exact H7.cG [0,1,2]
 have ea:i=ii syms:=i4
 subst ea;have d1:u syms.length=syms.map λx=>dz n seed x.1:=by simp only[u];rw[qY]
 rw[d1]at H2;have eb:∀{h':f8},(∀x∈cr.zip (syms.map λx=>dz n seed x.1),Vc.Seq h' (λb=>b<h'.size) x.1 1 av x.2)->be (λb=>b<h.size) h h'->Vc.Seq h' (λb=>b<h'.size) o 2 qv (cr.zip (U.map zJ))->dW sj h' o d:=λ{h'} hp hpr hs=>by
  refine⟨_,hs,by simp[d,xI];omega,λk a b K h2=>?_⟩;have hk:k<ii syms:=by have:=(qn.1 h2).1;omega
  rw[qd i7,y9,yb]at K;have e2:d[k]?=dB (dz n seed syms[k].1,syms[k].2):=by simp[d,xI,hk]
  rw[e2]at h2;simp only[zR.injEq]at K h2;subst K;subst h2;refine⟨hp (cr[k]'(by omega),dz n seed syms[k].1) (yP.2 ⟨k,?_⟩),Seq.up (b6 k i4 hk).2 hpr⟩;rw[vt];exact⟨qd _,by simp[hk]⟩
 refine bX (λs h'=>∃(a2 f:eX),s=dB a2/\Sp h h' [SA a2 (gH f p ⟨eH,0,0⟩ ⟨eH,0,0⟩ ⟨eH,0,0⟩ ⟨eH,0,0⟩ ⟨eH,0,0⟩ ⟨eH,0,0⟩ ⟨eH,0,0⟩),ak 275 o 2 qv (cr.zip (U.map zJ)),xQ (cr.zip (syms.map λx=>dz n seed x.1)),au a1 24 [xq xx p.1,xq xx p.2.1,xq xx p.2.2],au f 197 dc]) ?_ ?_
 ·refine⟨p,(H2.box 2 i0).aU _ i0,(sa h2).mono ?_⟩;rintro _ h3 ⟨f,rfl,R3⟩;have H3:=H2.comp R3;refine⟨dB f,i0,⟨(H3.box 2 i0).cell0 i0,(H3.box 2 i0).cell i0,(H3.box 2 i0).cell i0,trivial⟩,?_⟩;refine H3.boxed λa2 h4 O=>?_;exact⟨⟨(O.box 2 i0).cell0 i0,(O.box 2 i0).cell i0,(O.box 2 i0).cell i0,trivial⟩,a2,f,i0,O.cG [4,0,1,2,3]⟩
 rintro _ h3 ⟨s,f,rfl,H3⟩;refine⟨p,(H3.box 3 i0).aU _ i0,(kI p h3).mono ?_⟩;rintro _ h4 ⟨rfl,R4⟩;have O:=H3.up R4.aj;refine⟨_,i0,?_⟩;rw[d3];have d4:dW sj h4 o d:=eb (O.at 2 i0) O.aj (O.seq 1 i0 λ_=>rfl);have c4:∀e∈d,ii e.1<=2^20:=λe F=>by
  obtain⟨x,hx,rfl⟩:=qu.1 F;have:=BI b3 cc seed x.1;dsimp only;omega
 refine(acX o d n w h4 d4 (λe F=>⟨(H e F).1,aae (H e F).2⟩) i4 i4 ⟨i4,i4⟩ c4).mono ?_;have hA:bc n (bG p.1.toNat p.2.1.toNat):=by rw[b4];exact MG _ _
 have eA:=Zg (seed:=seed) y hn bk;have eB:=Zh (seed:=seed) (n:=n) (p:=p) (l:=syms) hw;rw[<-eA]at hr⊢;rw[<-eB];rintro _ h5 ⟨known,vals,hI,⟨ab,rfl,R5⟩|⟨ab,k,v,rs,rfl,R5⟩⟩
 ·refine⟨(⟨eH,0,0⟩,⟨eH,0,0⟩,⟨eH,0,0⟩,10),i0,cb (λ_=>?_) λe=>absurd e i5⟩;exact .inr ⟨abB (λe F=>(H e F).1) hA hI ab hr,i0,(O.up R5.aj).cG []⟩
 refine⟨(k,v,rs,0),i0,cb (λe=>absurd i0 e) λ_=>?_⟩;have S:=aeF (λe F=>(H e F).1) hA hI ab;have B:=QA (λe F=>(H e F).1) hI;obtain⟨f1,f2,f3,f4,f5⟩:=MK (λe F=>(H e F).1) hI;have J:=pB hI λe F=>(H e F).1;have bd:=ahn (known:=known) (vals:=vals) λe F=>(H e F).2;have d9:=abC (l:=d) (known:=known) (vals:=vals);have a0:=abD (known:=known) (vals:=vals) c4;have cf:=hI.vlen;have c9:=hI.klen;unfold SC at S;obtain⟨R,a7⟩:∃R,R=bn known vals d:=⟨_,rfl⟩
 change gX n w d _ known vals _ _ _ _ at S;rw[<-a7]at S B f1 f2 f3 f4 f5 J bd d9 a0 R5;obtain⟨T,H6,ef,c0⟩:=aa.ajs (O.comp R5) 6 rfl;obtain⟨rr,H7⟩:=aa.OT H6 7 rfl λ_=>rfl;have H8:=aa.ahM H7 8 i0;have H9:Sp h h5 [SA s (gH f p ⟨eH,0,0⟩ ⟨eH,0,0⟩ ⟨eH,0,0⟩ ⟨eH,0,0⟩ ⟨eH,0,0⟩ ⟨eH,0,0⟩ ⟨eH,0,0⟩),lJ ((⟨eH,0,0⟩,[])::T.zip vals),HA v T,cO jL 2 qv rs rr R,ak 4 k 1 fi known,au f 197 dc]:=aa.cG H8 [0,8,6,7,5,4];have bq:v.len=n:=by rw[(H9.own 2 i0).len];omega
 have hk:∀(c:Nat) (hc:c<ii T),T[c].ptr.isNone=!(known.getD c eR):=λc hc=>by
  rw[c0 c hc i4];have K:=hI.row c i4;rw[mU (show c<ii vals by omega)]at K;cases hkn:known.getD c eR with
  |true=>
   rw[hkn,f9 rfl]at K;cases hv:vals[c]'(by omega)with
   |nil=>rw[hv]at K;simp at K;omega
   |cons x t=>rfl
  |false=>
   rw[hkn,g0 i9]at K;rw[vH.1 K];rfl
 refine⟨s,i0,H9.store af 0 i0 i0 4 [v] i0 i0 i0 nn λh6 eg=>?_⟩;refine⟨s,i0,eg.store af 0 i0 i0 5 [rs] i0 i0 i0 nn λh7 d8=>?_⟩;have cd:=aaf (known:=known) (n:=n) i4 λe F=>⟨(J e F).cY,bd e F⟩
 have ah:=Ax (rows:=rowsOf R known n) (n:=n) (by rw[a7];exact yu (a7▸J));have eo:ii (rowsOf R known n)<=ii R+n:=by rw[rowsOf,qx,qz];have:=FN known n;omega
 refine(Xg s f p v rs _ _ _ _ _ k rr R known n (As:=[lJ ((⟨eH,0,0⟩,[])::T.zip vals),HA v T,cO jL 2 qv rs rr R,ak 4 k 1 fi known,au f 197 dc]) d8 (St.mk' λh' H'=>⟨H'.eV 2 i0,H'.seq 3 i0 λ_=>rfl⟩) c9 i4 i4 a0 cd ⟨by have:=ah.1;omega,by have:=JG (dN n (rowsOf R known n)).used (rowsOf R known n).length;omega⟩).mono ?_;rintro _ h8 ⟨rfl,st,Y,lf,d2⟩;refine⟨(),i0,?_⟩;obtain⟨D,hD⟩:∃D,D=(gU R known n).dead:=⟨_,rfl⟩
 obtain⟨ST,bs⟩:∃ST,ST=nT R known n:=⟨_,rfl⟩
 obtain⟨L,hL⟩:∃L,L=Wl.leftOf R known n:=⟨_,rfl⟩
 have d5:Sp h h8 (SA s (gH f p v rs st Y lf ⟨eH,0,0⟩ ⟨eH,0,0⟩)::lJ ((⟨eH,0,0⟩,[])::T.zip vals)::[HA v T,ak 332 st 2 fQ ST,ak 3 Y 1 av D,ak 3 lf 1 av L,cO jL 2 qv rs rr R,au f 197 dc]):=by rw[hD,bs,hL];exact aa.cG d2 [0,4,5,1,2,3,6,8]
 rw[<-hD]at S B f1 f2 f3 f5;rw[<-bs]at S B;rw[<-hL]at S f4;have b9:ii ST<=2^20:=by rw[bs,nT,gU];have:=qR (λx:Int×Int=>decide (x.1<ii R)) (dN n (rowsOf R known n)).steps;have:=ah.1;omega
 have ei:ii L<=2^20-2^10:=by rw[hL,Wl.leftOf,gU];have:=qR (λx:Int=>decide (x<ii R)) (fJ (dN n (rowsOf R known n)).used (rowsOf R known n).length);have:=JG (dN n (rowsOf R known n)).used (rowsOf R known n).length;omega
 have z:St (λb=>b<h.size) h [HA v T,ak 332 st 2 fQ ST,ak 3 Y 1 av D,ak 3 lf 1 av L,cO jL 2 qv rs rr R,au f 197 dc] λh=>ZY h f rs st Y lf rr R ST D L:=
  St.mk' λh' H'=>⟨H'.box 5 i0,H'.eV 4 i0,H'.seq 1 i0 λ_=>rfl,H'.seq 2 i0 λ_=>rfl,H'.seq 3 i0 λ_=>rfl⟩
 refine(aaa s f p v rs st Y lf _ _ rr R ST D L n D.length w _ d5 z bq i4 c5 i4 i0 i4 J f1 f2 B b9 a0 i9).mono ?_;rintro _ h9 ⟨rfl,wa,mo,wr,mr,pl,cn,a8⟩;refine⟨(),i0,?_⟩;have d0:=(z.at [_,_,_,_] cn).dead.len;generalize ej:ST.foldl (ik R D.length) (gb n D.length w D)=S0 at a8 S;have d7:ii S0.1=n:=by have:=S.lens.1;simpa[iK]using this
 have d6:ii S0.2=n:=by have:=S.lens.2.1;simpa[iK]using this
 have hV:iy pl id T vals:=aag ef pl λx hx=>a8.sub x (qG _ hx);refine(adg s f p v rs st Y lf wa mo T wr mr pl known vals S0.1 S0.2 n D.length cn i4 d0 i4 ⟨λ_ h=>h,a8.way,a8.more⟩ hV cf d7 d6 hk).mono ?_;rintro _ en ⟨rfl,ad,ap,Z,ed,P⟩;refine⟨(),i0,?_⟩;obtain⟨W,hW⟩:∃W,W=(iK D.length known vals S0).1:=⟨_,rfl⟩
 obtain⟨M,hM⟩:∃M,M=(iK D.length known vals S0).2:=⟨_,rfl⟩
 change mN pl Z ad ap (iK D.length known vals S0).1 (iK D.length known vals S0).2 at P;rw[<-hW,<-hM]at P S;have m:=S.lens;refine(aac s f p v rs st Y lf wa mo ad ap Z rr R ST D L W M n D.length w ed z b4 c5 i4 y i0 i4 J a0 f4 i4 ⟨λ_ h=>h,P.way,P.more⟩ m.1 m.2.1 m.2.2).mono ?_;rintro _ ao ⟨a,b,rfl,a9⟩;refine⟨(a,b),i0,s,i0,Y,show f7 ao (s.add 7)=_ from(a9.box 2 i0).cell i0,?_⟩;have c7:iy Z id T vals:=hV.mono P.sub;obtain⟨e1,e2⟩:=ry S;have N:=BU (n:=n) (w:=w) (ahead:=bG p.1.toNat p.2.1.toNat) (l:=d) (known:=known) (vals:=vals) (dead:=D) (left:=L) (W:=W) (M:=M);have ay:∀{X:aP},_->_:=λ{X} hs=>S.XS hr (D:=X) hs;have ax:=S.XT hr;have a6:=S.Zi i4 hr;have a4:=S.OZ i4 hr;rw[<-a7]at e1 e2 N ay ax a6 a4;obtain⟨dA,b2⟩:∃dA,dA=dH n D.length R W L (bG p.1.toNat p.2.1.toNat):=⟨_,rfl⟩
 obtain⟨G,dy⟩:∃G,G=fK n w R M L (bG p.1.toNat p.2.1.toNat):=⟨_,rfl⟩
 rw[<-b2]at e1 N ay ax a6 a4 a9;rw[<-dy]at e2 N ay ax a6 a9;have dx:ii dA=ii L+p.2.1.toNat:=by rw[b2];simp[dH,bG]
 have bb:∀{h':f8} {pre:List HP} {dead:Sl} {dr:List Sl} {X:aP} {Q:HP},Sp h h' (Told s f p v rs st Y lf wa mo ad ap Z++HA v T::[ak 332 st 2 fQ ST,ak 3 Y 1 av D,ak 3 lf 1 av L,cO jL 2 qv rs rr R,au f 197 dc,Q])->(∀h',Q.p h' (λb=>b<h'.size)->iD h' (λb=>b<h'.size) dead 1 aF X dr)->fI D.length w dA G X->
   ac xB 222 #[xt (dB s),dead] h' λv' am=>v'=.tuple #[]/\f7 am (s.add 4)=dB (xr v.ptr v.len v.cap)/\agK h am (.tuple #[v,xq xx 0]) n (dI n d (bG p.1.toNat p.2.1.toNat)) (iE w d (bG p.1.toNat p.2.1.toNat)):=by
  intro h' pre dead dr X Q H' hQ hs;refine(adi s f p v rs st Y lf wa mo dead T ad ap dr Z known vals W M X n D.length w H' (St.mk' λam ar=>⟨ar.box 4 i0,hQ am (ar.at 5 i0)⟩) i4 i4 i4 ⟨λ_ h=>h,P.way,P.more⟩ c7 cf m.1 m.2.1 m.2.2 hs.1 hs.2.1 hk).mono ?_;rintro _ am ⟨rfl,el,er,ar,ip⟩;refine⟨i0,(ar.box 0 i0).cell i0,?_⟩;obtain⟨c1,c2⟩:=ay hs;refine .inl ⟨c1,v,i0,?_⟩;rw[<-c2];exact(ar.afq 4 3 i5 i0 i0 ip.1 λk r l K h2=>ip.2 k r l K h2).cG [4]
 have I:Sp h ao (MA a dA::CA b G::(Told s f p v rs st Y lf wa mo ad ap Z++HA v T::[ak 332 st 2 fQ ST,ak 3 Y 1 av D,ak 3 lf 1 av L,cO jL 2 qv rs rr R,au f 197 dc])):=a9;have cq:=I.Qi 1 i0 λ_=>rfl;have cs:fR ao b 1 aF G:=bO.tofR (by
  have:=bO.impl (α':=Sl) (E:=Vs) (E':=cF 1 aF) id (λ{h q a b} (hx:Vs.p h q a b)=>hx.1) cq
  rwa [List.map_id]at this)
 have dk:=cs.len;refine cy (λe0=>?_) (λe0=>?_)
 ·have b7:ii D=0:=i4
  obtain⟨br,q1,q2,q3⟩:=bO.kt cq;refine aA (λi:Nat=>(i:Int)) (λi h'=>h'=ao/\i<=ii G/\∀j (hj:j<ii G),j<i->G[j]=aM w) (λi=>ii G-i) 0 i0 ⟨i0,i4,λj _ hj=>i4⟩ ?_;rintro i a3 ⟨rfl,hi,hz⟩;have bl:fI D.length w dA G []↔∀r∈G,r=aM w:=by rw[b7];exact ML N
  refine ai (λe=>?_) (λe=>?_)
  ·have V:i<ii G:=by have e':(i:Int)<(b.len:Int):=e;omega
   obtain⟨y1,y2⟩:=q3 i i4 V;have da:G[i].length=w:=e2 _ (qg _);refine q1.mq i i0 i4 ?_;refine(Rj (br[i]'(by omega)) G[i] _ i0 a3 y1 y2 i4).mono ?_;rintro _ b5 ⟨⟨t,rfl,ht⟩,rfl⟩;refine⟨t,i0,ai (λe3=>?_) λe3=>?_⟩
   ·refine .inr ⟨λhc=>?_,i0,I.cG []⟩;have cp:=ax hc;have c6:D=[]:=vH.1 b7;rw[c6]at cp;have:=(ML N).1 cp _ (qg V);have h0:t.len=0:=ht.2 λx hx=>by rw[this]at hx;exact(w7.1 hx).2
    omega
   ·have h0:t.len=0:=i4
    refine⟨i+1,js,⟨i0,i4,λj hj ek=>?_⟩,i4⟩;by_cases hh:j=i
    ·subst hh;exact vP.2 ⟨da,ht.1 h0⟩
    ·exact hz j hj i4
  ·have hs:fI D.length w dA G []:=bl.2 λr hr=>by
    obtain⟨j,hj,rfl⟩:=qK hr;have e':¬(i:Int)<(b.len:Int):=e;exact hz j hj i4
   have b1:=aa.comp (I.cG [2,3,4,5,6,7,8,9,10,11]) (Sp.one (h:=a3) (h':=a3) (A:=emp) (be.refl _ _) trivial);refine(bb (pre:=[]) (dead:=⟨eH,0,0⟩) (dr:=[]) (X:=[]) (Q:=emp) ?_ (λh' _=>⟨Seq.nil _ _ _ _ _ _,i0,λk r l K _=>by cases K⟩) hs).mono ?_
   ·exact b1
   ·rintro _ b5 ⟨rfl,hc,hm⟩;exact⟨(),i0,s,i0,v,hc,hm⟩
 ·have dp:1<=ii D:=i4
  refine⟨s,i0,dB f,(I.box 2 i0).cell0 i0,?_⟩;refine(Xh f a b dA G dA.length D.length w ao (I.box 11 i0) (I.GX 0 i0) cs i0 N.symm e1 e2 dp i4 i4 a4).mono ?_;rintro _ a3 (⟨hc,r,rfl,R12⟩|⟨hc,rfl,R12⟩)
  ·refine⟨(r,0),i0,cb (λe=>absurd i0 e) λ_=>?_⟩;have b1:=(I.comp R12).Sy 12 i0;obtain⟨dr,ec⟩:=aa.OT b1 12 rfl λ_=>rfl;have hs:=rp N e1 e2 a4 hc;refine(bb (pre:=[]) (dead:=r) (dr:=dr) (X:=gp D.length dA G) (Q:=cO (cF 1 aF) 1 bw r dr (gp D.length dA G)) (ec.cG [2,3,4,5,6,7,8,9,10,11,12]) (λh' x=>⟨x.1,x.2.1,x.2.2⟩) hs).mono ?_;rintro _ b5 ⟨rfl,hc,hm⟩;exact⟨(),i0,s,i0,v,hc,hm⟩
  ·refine⟨(⟨eH,0,0⟩,10),i0,cb (λ_=>?_) λe=>absurd e i5⟩;exact .inr ⟨λhh=>hc (a6.2 hh),i0,(I.up R12.aj).cG []⟩
end Go.Qw
namespace Wl
def ne(p:Int×Int×Int)(x:Int×Row):Bool:=bZ x.1&&decide ((ii x.2:Int)=p.2.2)
theorem Vx{p:Int×Int×Int}{x:Int×Row}(c:bP p=eL):ne p x=eL↔BW p x:=by have:=(cu p).1 c;unfold ne;rw[qB,decide_eq_true_iff];exact⟨λ⟨a,b⟩=>⟨a,i4⟩,λh=>⟨h.id,by have:=h.len;omega⟩⟩
def uS(p:Int×Int×Int)(seed:Int)(X:aP)(i:Nat):Row:=(qy i).flatMap λj:Nat=>fW p.2.2.toNat X (dz (bK p).toNat seed (j:Int))
theorem Ro(p:Int×Int×Int)(seed:Int)(X:aP)(i:Nat):uS p seed X (i+1)=uS p seed X i++fW p.2.2.toNat X (dz (bK p).toNat seed (i:Int)):=by unfold uS;rw[zQ,zd];simp
open Classical in
noncomputable def mC(p:Int×Int×Int)(seed:Int)(l:List (Int×Row)):Row×Int:=
 if bP p&&l.all (ne p)then
  if gC p seed (l.map qH)then
   if lI (bK p).toNat (dR p seed (l.map qH)) (sY p l)then(uS p seed (gp (bK p).toNat (dR p seed (l.map qH)) (sY p l)) p.1.toNat,0)else([],10)
  else([],9)
 else([],1)
end Wl
namespace Go.Qw
open Go Go.Vc Go.Proofs Wl
theorem Xi(p:Pm)(x:Int×Sl)(l:Row)(h:f8)(d:Rd h x.2 1 aF l):ac xB 157 #[kS p,xw #[xq xx x.1,x.2]] h λv h'=>v=xv (ne p (x.1,l))/\Sp h h' []:=by
 refine Lz p x ?_;unfold DD;refine(Sp.refl h).boxed λg j e=>?_;refine e.boxed λk i a=>?_;have f:=d.len;refine⟨x.1,(a.box 1 i0).cell0 i0,ai (λb=>?_) λb=>?_⟩
 ·refine⟨x.1,(a.box 1 i0).cell0 i0,ai (λc=>?_) λc=>?_⟩
  ·refine⟨x.2,(a.box 1 i0).cell i0,p.2.2,(a.box 0 i0).cell i0,?_,.zip a.aj⟩;congr 1;unfold ne bZ;rw[g9 (show 0<=x.1 from b),g9 (show x.1<=65535 from c),f];rw[Bool.eq_iff_iff];simp
  ·refine⟨?_,.zip a.aj⟩;unfold ne bZ;rw[hU (show¬x.1<=65535 from c)];simp
 ·refine⟨?_,.zip a.aj⟩;unfold ne bZ;rw[hU (show¬0<=x.1 from b)];simp
theorem Xj(p:Pm)(b:eX)(x:Int×Sl)(l:Row)(h:f8)(c:cx h b 24 [xq xx p.1,xq xx p.2.1,xq xx p.2.2])(d:Rd h x.2 1 aF l):ac xB 156 #[xw #[xq xx x.1,x.2],xt (dB b)] h λv h'=>v=xv (!ne p (x.1,l))/\Sp h h' []:=by refine HX x b ?_;unfold AK;refine(Sp.refl h).boxed λi f a=>?_;refine⟨p,(c.aj a.aj c.lt).aU _ i0,x,(a.box 0 i0).aU _ i0,?_⟩;refine(Xi p x l f (Seq.up d a.aj)).mono ?_;rintro _ g ⟨rfl,e⟩;exact⟨_,i0,i0,.zip (a.up e.aj).aj⟩
theorem Xk(p:Pm)(d:eX)(l:Sl)(syms:List (Int×Row))(h:f8)(o:cx h d 24 [xq xx p.1,xq xx p.2.1,xq xx p.2.2])(n:dW Ou h l syms)(B:ii syms<=2^30):ac xB 155 #[l,.func (.func 156) #[] #[xt (dB d)]] h λv h'=>v=xv (!syms.all (ne p))/\Sp h h' []:=by
 refine kR l (156,#[],#[xt (dB d)]) ?_;unfold gI;refine(lU l (156,#[],#[xt (dB d)]) (R:=λv h'=>(∃i:Int,v=xq xx i/\(decide (i>=0)=!syms.all (ne p)))/\Sp h h' []) ?_).mono ?_
 ·unfold io;obtain⟨k,s,A,w⟩:=bO.kt n;have x:=bO.len n;refine aA (λi:Nat=>(i:Int)) (λi h'=>i<=ii syms/\(syms.take i).all (ne p)=eL/\Sp h h' []) (λi=>ii syms-i) 0 i0 ⟨i4,i9,Sp.refl h⟩ ?_;rintro i r ⟨q,a,c⟩;refine ai (λe=>?_) (λe=>?_)
  ·have b:i<ii syms:=i4
   obtain⟨t,u⟩:=w i i4 b;refine(Seq.up s c.aj).eu (g:=yv) i i0 i4 (k[i]'(by omega)) i0 ?_;refine ff ld ?_;refine(Xj p d (k[i]'(by omega)) syms[i].2 r (o.aj c.aj o.lt) (Seq.up u c.aj)).mono ?_;rintro _ z ⟨rfl,m⟩;have f:((k[i]'(by omega)).1,syms[i].2)=syms[i]:=by rw[t]
   rw[f];refine⟨_,i0,bo (λj=>?_) λj=>?_⟩
   ·refine⟨⟨i,i0,?_⟩,c.up m.aj⟩;rw[g9 (show(i:Int)>=0 by omega)];have:syms.all (ne p)=eR:=List.all_eq_false.2 ⟨_,qg b,by simpa using j⟩;rw[this];rfl
   ·refine⟨i+1,js,⟨i4,?_,c.up m.aj⟩,i4⟩;rw[aK _ _ b,List.all_append,a];simpa using j
  ·refine⟨⟨-1,i0,?_⟩,c⟩;rw[qi i4]at a;rw[a];rfl
 ·rintro _ r ⟨⟨i,rfl,q⟩,y⟩;exact⟨i,i0,by rw[q],y⟩
theorem adl(l:Sl)(syms:List (Int×Row))(h:f8)(f:dW Ou h l syms)(D:ii syms<=2^30):ac xB 159 #[l] h λv h'=>∃r:Sl,v=r/\Sp h h' [ak 3 r 1 av (syms.map qH)]:=by
 refine Pt l ?_;unfold HY;obtain⟨d,p,A,s⟩:=bO.kt f;have u:=bO.len f;refine aA (λt:Nat×Sl=>(t.2,(t.1:Int))) (λt h'=>t.1<=ii syms/\Sp h h' [ak 3 t.2 1 av ((syms.take t.1).map qH)]) (λt=>ii syms-t.1) (0,⟨eH,0,0⟩) i0 ⟨i9,(Sp.refl h).nil 3 1 av⟩ ?_;rintro⟨i,o⟩ B ⟨z,c⟩;dsimp only at*;refine ai (λe=>?_) (λe=>?_)
 ·have b:i<ii syms:=i4
  obtain⟨q,y⟩:=s i i4 b;refine(Seq.up p c.aj).eu (g:=yv) i i0 i4 (d[i]'(by omega)) i0 ?_;refine c.alloc af i0 λa w m=>?_;refine m.storeAll af 1 i0 i0 (yv (d[i]'(by omega))) i0 i0 i0 i0 λh3 k=>?_;refine⟨(d[i]'(by omega)).1,(k.box 1 i0).cell0 i0,?_⟩;refine k.push af 0 i0 gN i0 i5 (λ_=>rfl) fD (d[i]'(by omega)).1 i0 i5 i7 λn x j=>?_;refine⟨(i+1,n),jj,⟨i6,?_⟩,i6⟩;dsimp only;rw[aK _ _ b,qU];rw[q]at j;exact j.cG [0]
 ·have:i=ii syms:=i4
  subst this;rw[qY]at c;exact⟨o,i0,c⟩
theorem afz{B:aD}{q h:f8}{As:List HP}(f b:Sl)(d c:Row)(H:aa B q h (ak 5 b 1 aF c::As))(t:St B q As λh=>Rd h f 1 aF d)
  (A:ii d=ii c) (I:ii d<=2^30) {K:f8->Prop} (v:∀h',aa B q h' (ak 5 b 1 aF (cX 1 d c)::As)->K h'):
  aL (σ:=Int) (λa E g=>
 Br (decide (a<((f.len:Nat):Int)))
 (∃o:eX,(f.ptr=dB o/\0<=a/\a<((f.len:Nat):Int))/\
 ∃p:Int,f7 g (o.add (a.toNat*1))=dB (xq xy p)/\
 ∃m:eX,(b.ptr=dB m/\0<=a/\a<((b.len:Nat):Int))/\
 ∃l:Int,f7 g (m.add (a.toNat*1))=dB (xq xy l)/\
 ∃a28:eX,(b.ptr=dB a28/\0<=a/\a<((b.len:Nat):Int))/\
 ag xB (qf 5 (xt (dB (a28.add (a.toNat*1)))) (xq xy (qc xy ((qD (qk xy) l^^^(qD (qk xy) p)).toNat:Nat)))) g λ_ r=>
 E (qc xx (a+(1:Int))) r) (K g)) (0:Int) h:=by
 have G:f.len=ii d:=(t.at [ak 5 b 1 aF c] H).len;refine aA (λk:Nat=>(k:Int)) (λk h'=>k<=ii d/\aa B q h' (ak 5 b 1 aF (zi (λx y=>y^^^x) (d.take k) (c.take k)++c.drop k)::As)) (λk=>ii d-k) 0 i0 ⟨i4,l6⟩ ?_;rintro k D ⟨w,n⟩;have z:=t.at [_] n;refine ai (λe=>?_) (λe=>?_)
 ·have s:k<ii d:=i4
  have j:ii (zi (λx y=>y^^^x) (d.take k) (c.take k))=k:=i7
  have F:ii (zi (λx y=>y^^^x) (d.take k) (c.take k)++c.drop k)=ii c:=by rw[qx,j,ze];omega
  refine z.bH k i0 s _ i0 ?_;have i:(zi (λx y=>y^^^x) (d.take k) (c.take k)++c.drop k)[k]'(by omega)=c[k]:=by rw[zY i4];simp[j]
  refine(n.seq 0 i0 λ_=>rfl).bH k i0 i4 _ i0 ?_;rw[i,nE];refine n.set af 0 i0 (λ_=>rfl) i0 k i0 i4 _ i0 i0 i0 λh3 u=>?_;rw[List.set_cons_zero,IW A]at u;exact⟨k+1,js,⟨i4,u⟩,i4⟩
 ·have:k=ii d:=i4
  subst this;rw[qi (qm _),qi i4,zg i4,qO,<-Yj]at n;exact v D n
theorem aah(p:Pm)(seed:Int)(l:Sl)(syms:List (Int×Row))(h:f8)(hl:dW Ou h l syms)(ab:ii syms<=2^18):
  ac xB 93 #[kS p,xq xz seed,l] h λv h'=>∃r:Sl,v=.tuple #[r,xq xx (mC p seed syms).2]/\Sp h h' [ak 5 r 1 aF (mC p seed syms).1]:=by
 refine Lu p seed l ?_;unfold Dx;refine(Sp.refl h).boxed λJ h1 H1=>?_;have s:∀{h':f8} (e:Int),Sp h h' [au J 24 [xq xx p.1,xq xx p.2.1,xq xx p.2.2]]->mC p seed syms=([],e)->∃r:Sl,(.tuple #[xr eH 0 0,xq xx e]:Value)=.tuple #[r,xq xx (mC p seed syms).2]/\Sp h h' [ak 5 r 1 aF (mC p seed syms).1]:=λe Y he=>by
  rw[he];exact⟨⟨eH,0,0⟩,i0,(Y.nil 5 1 aF).cG [1]⟩
 refine bj ⟨p,(H1.box 0 i0).aU _ i0,?_⟩;refine(eN p h1).mono ?_;rintro _ h2 ⟨rfl,R2⟩;have Q:=H1.up R2.aj;refine⟨_,i0,bo (λe=>?_) λa=>?_⟩
 ·exact s 1 Q (by unfold mC;rw[e];rfl)
 refine(Xk p J l syms h2 (Q.box 0 i0) (dW.up hl Q.aj) i4).mono ?_;rintro _ h3 ⟨rfl,R3⟩;have P:=Q.up R3.aj;refine⟨_,i0,bo (λe=>?_) λd=>?_⟩
 ·exact s 1 P (by unfold mC;rw[a,e];rfl)
 refine bj ⟨p,(P.box 0 i0).aU _ i0,?_⟩;refine(adl l syms h3 (dW.up hl P.aj) i4).mono ?_;rintro _ h4 ⟨r,rfl,R4⟩;have U:=P.comp R4;have B:=U.box 0 i0;refine⟨r,i0,⟨B.cell0 i0,B.cell i0,B.cell i0,trivial⟩,?_⟩;refine(QV p seed r (syms.map qH) h4 (U.seq 1 i0 λ_=>rfl) i7).mono ?_;rintro _ h5 ⟨rfl,R5⟩;have L:Sp h h5 [au J 24 [xq xx p.1,xq xx p.2.1,xq xx p.2.2]]:=(U.up R5.aj).cG [0];refine⟨_,i0,trivial,bo (λe=>?_) λb=>?_⟩
 ·exact s 9 L (by unfold mC;rw[a,d,e];rfl)
 have w:∀x∈syms,BW p x:=λx g=>(Vx a).1 (q9.1 d x g);have a3:=(cu p).1 a;have ay:=pm a;have hr:ce (dR p seed (syms.map qH))=(bK p).toNat:=by have:=b;unfold gC oW at this;rw[a]at this;simp at this;omega
 refine⟨p,(L.box 0 i0).aU _ i0,?_⟩;refine(afy p seed l syms (bK p).toNat p.2.2.toNat h5 (dW.up hl L.aj) a w i0 i0 ab hr).mono ?_;rintro _ h6 (⟨hc,m,rfl,R6⟩|⟨hc,rfl,R6⟩)
 rotate_left
 ·refine⟨(⟨eH,0,0⟩,10),i0,cb (λ_=>s 10 (L.up R6.aj) ?_) λe=>absurd e i5⟩;unfold mC;rw[a,d,b,g0 hc];rfl
 refine⟨(m,0),i0,cb (λe=>absurd i0 e) λ_=>?_⟩;obtain⟨X,hX⟩:∃X,X=gp (bK p).toNat (dR p seed (syms.map qH)) (sY p syms):=⟨_,rfl⟩
 have K:mC p seed syms=(uS p seed X p.1.toNat,0):=by unfold mC;rw[a,d,b,f9 hc,hX];rfl
 have ad:bc p.2.2.toNat (sY p syms):=λx g=>by
  rcases qA.1 g with g|g
  ·rw[(w7.1 g).2];simp[aM]
  ·obtain⟨y,hy,rfl⟩:=qu.1 g;exact(w y hy).len
 have T:ii (dR p seed (syms.map qH))=ii (sY p syms):=by rw[<-Zg (n:=(bK p).toNat) (seed:=seed) a i0 w,<-Zh (n:=(bK p).toNat) (seed:=seed) (p:=p) (l:=syms) rfl];exact xZ
 obtain⟨A,q⟩:=xY T (jP p seed _) ad hr;rw[<-hX]at R6 A q;have H6:=(L.comp R6).Sy 1 i0;obtain⟨O,R⟩:=aa.OT H6 1 rfl λ_=>rfl;have a4:=(R.eV 1 i0).1.len;have ao:=(R.eV 1 i0).2.1;refine⟨p.1,(R.box 0 i0).cell0 i0,?_⟩;rw[K];have M:Sp h h6 [ak 5 ⟨eH,0,0⟩ 1 aF [],au J 24 [xq xx p.1,xq xx p.2.1,xq xx p.2.2],cO (cF 1 aF) 1 bw m O X]:=(R.nil 5 1 aF).cG [2,0,1];have N:∀j:Nat,ii (fW p.2.2.toNat X (dz (bK p).toNat seed (j:Int)))=p.2.2.toNat:=λj=>XP q A λx g=>nk i4 i4 g;have I:∀i,ii (uS p seed X i)=i*p.2.2.toNat:=λi=>by
  induction i with
  |zero=>simp[uS]
  |succ i ih=>rw[Ro,qx,ih,N,zT]
 refine aA (λt:Nat×Sl=>(t.2,(t.1:Int))) (λt h'=>t.1<=p.1.toNat/\Sp h h' [ak 5 t.2 1 aF (uS p seed X t.1),au J 24 [xq xx p.1,xq xx p.2.1,xq xx p.2.2],cO (cF 1 aF) 1 bw m O X]) (λt=>p.1.toNat-t.1) (0,⟨eH,0,0⟩) i0 ⟨i4,by simpa[uS]using M⟩ ?_;rintro⟨i,o⟩ h8 ⟨hi,M⟩;dsimp only at*;refine ai (λe=>?_) (λe=>?_)
 ·have ax:i<p.1.toNat:=i4
  refine⟨p.2.2,(M.box 1 i0).cell i0,?_⟩;refine M.make af aF hJ i5 0 i0 i0 p.2.2.toNat p.2.2.toNat i4 i4 (qm _) i4 λsm h9 _ _ H9=>?_;refine⟨p,(H9.box 1 i0).aU _ i0,(Ci p seed (i:Int) h9).mono ?_⟩;rintro _ a0 ⟨c,rfl,G⟩;have V:(bP p&&bZ (i:Int))=eL:=by rw[a];unfold bZ;simp;omega
  rw[V,f9 rfl]at G;have H:=(H9.comp G).cG [3,0,1,2,4];refine⟨c,i0,?_⟩;generalize F:dz (bK p).toNat seed (i:Int)=cs at H G;have u:∀x∈cs,0<=x/\x<((bK p).toNat:Int):=λx g=>nk i4 i4 (F▸g);have ap:ii cs<=20:=by have:=BI (n:=(bK p).toNat) i4 i4 seed (i:Int);rw[F]at this;omega
  have am:=(H.own 4 i0).len;refine aA (λj:Nat=>(j:Int)) (λj h'=>j<=ii cs/\Sp h h' [ak 5 sm 1 aF (fW p.2.2.toNat X (cs.take j)),ak 5 o 1 aF (uS p seed X i),au J 24 [xq xx p.1,xq xx p.2.1,xq xx p.2.2],cO (cF 1 aF) 1 bw m O X,ak 3 c 1 av cs]) (λj=>ii cs-j) 0 i0 ⟨i4,H⟩ ?_;rintro j a2 ⟨hj,f⟩;have D:=rq q A u j hj;refine ai (λe2=>?_) (λe2=>?_)
  ·have z:j<ii cs:=i4
   have ar:=u _ (qg z);refine(f.seq 4 i0 λ_=>rfl).bH j i0 z _ i0 ?_;have k:cs[j].toNat<ii X:=i4
   refine(f.eV 3 i0).1.mq cs[j].toNat i4 i4 ?_;have S:ii (X[cs[j].toNat]'k)=p.2.2.toNat:=q _ (qg _);refine afz (O[cs[j].toNat]'(by omega)) sm (X[cs[j].toNat]'k) _ f (St.mk' λh' Y=>Fix.row (Y.eV 2 i0) k) (by rw[S,D]) i4 λW E=>?_;refine⟨j+1,js,⟨i4,?_⟩,i4⟩;rw[aK _ _ z,EC,mU k];exact E
  ·have Z:j=ii cs:=i4
   subst Z;rw[qY]at f D;refine f.append af 1 i0 hJ UK i0 i5 (λ_=>rfl) (f.seq 0 i0 λ_=>rfl) iM (by rw[I,D];have:i*p.2.2.toNat<=16*24:=Nat.mul_le_mul i4 i4;omega) λo' W E=>?_;refine⟨(i+1,o'),jj,⟨i6,?_⟩,i6⟩;dsimp only;rw[Ro,F];exact E.cG [1,2,3]
 ·have ah:i=p.1.toNat:=i4
  subst ah;exact⟨o,i0,M.cG [0]⟩
end Go.Qw
namespace Wl
section
variable {p:Int×Int×Int} {seed:Int} {d:Row} {K H w n:Nat}
def mD(p:Int×Int×Int)(seed:Int)(X:aP)(a:aC):List (Int×Row):=a.map λi=>(i,fW p.2.2.toNat X (dz (bK p).toNat seed i))
theorem cw.size(B:cw p seed d K H w n):p.2.2.toNat=w:=by have:=B.s;omega
theorem Mb(X:aP)(a:aC):(mD p seed X a).map qH=a:=by simp[mD,w6,Function.comp_def]
theorem cw.Vy(B:cw p seed d K H w n){a:aC}(hid:∀i∈a,bZ i=eL):(mD p seed (dv p seed d) a).all (ne p)=eL:=q9.2 λx c=>by
 obtain⟨i,b,rfl⟩:=qu.1 c;refine(Vx B.may).2 ⟨hid i b,?_⟩;dsimp only;rw[B.size,B.ru];exact B.abn i
theorem Ov{α β:Type}{f g:α->List β}:∀(l:List α),(∀x∈l,f x=g x)->l.flatMap f=l.flatMap g
 |[],_=>rfl
 |a::l,h=>by rw[zk,zk,h a i9,Ov l λx b=>h x l7]
theorem Rp(d:Row)(w:Nat):∀i,i*w<=ii d->(qy i).flatMap (Go.Vc.GY d w)=d.take (i*w)
 |0,_=>i9
 |i+1,h=>by
  have e:(i+1)*w=i*w+w:=zT i w;rw[zQ,zd,Rp d w i i4,e,List.take_add];simp[Go.Vc.GY]
theorem cw.out(B:cw p seed d K H w n):uS p seed (dv p seed d) p.1.toNat=d:=by
 have b:p.1.toNat=K:=by have:=B.k;omega
 unfold uS;rw[b,B.size,B.ru];have:(qy K).flatMap (λj:Nat=>fW w (dv p seed d) (dz n seed (j:Int)))=(qy K).flatMap (Go.Vc.GY d w):=by exact Ov _ λj a=>B.aew (qJ.1 a)
 rw[this,Rp d w K (by rw[B.len];exact qm _),qi (by rw[B.len];exact qm _)]
theorem cw.adm(B:cw p seed d K H w n){a:aC}(hid:∀i∈a,bZ i=eL):Wl.fI n w (dR p seed a) (sY p (mD p seed (dv p seed d) a)) (dv p seed d):=by
 have l:a.filter bZ=a:=zX.2 hid;have m:dR p seed a=bG K H++a.map (pf n seed):=by
  unfold dR;rw[B.may,f9 i0,l,B.ru];have o:p.1.toNat=K:=by have:=B.k;omega
  have g:p.2.1.toNat=H:=by have:=B.h;omega
  rw[o,g]
 have q:sY p (mD p seed (dv p seed d) a)=qh H (aM w)++a.map λi=>fW w (dv p seed d) (dz n seed i):=by
  unfold sY mD;have g:p.2.1.toNat=H:=by have:=B.h;omega
  rw[g,B.size,B.ru,w6];rfl
 refine⟨B.oD.1,B.oD.2,λi j=>?_⟩;rw[m]at j⊢;rw[q];have c:ii (bG K H)=H:=by simp[bG]
 simp only[qx,qz,c]at j;by_cases b:i<H
 ·have e:aE (bG K H++a.map (pf n seed)) i=mu K H i:=by rw[bE i7,wZ i4];simp[bG]
  have f:aE (qh H (aM w)++a.map λi=>fW w (dv p seed d) (dz n seed i)) i=aM w:=by rw[bE i7,wZ j7];simp
  rw[e,f];exact B.low b
 ·have e:aE (bG K H++a.map (pf n seed)) i=pf n seed (a[i-H]'(by omega)):=by rw[bE i7,zY i4];simp[c]
  have f:aE (qh H (aM w)++a.map λi=>fW w (dv p seed d) (dz n seed i)) i=fW w (dv p seed d) (dz n seed (a[i-H]'(by omega))):=by rw[bE i7,zY j7];simp
  rw[e,f,B.sym]
theorem adn{l:List (Int×Row)}(b:∀x∈l,BW p x):bc p.2.2.toNat (sY p l):=λx a=>by
 rcases qA.1 a with a|a
 ·rw[(w7.1 a).2];simp[aM]
 ·obtain⟨y,c,rfl⟩:=qu.1 a;exact(b y c).len
theorem Xl(b:bP p=eL){l:List (Int×Row)}(a:∀x∈l,BW p x):ii (dR p seed (l.map qH))=ii (sY p l):=by rw[<-Zg (n:=(bK p).toNat) (seed:=seed) b i0 a,<-Zh (n:=(bK p).toNat) (seed:=seed) (p:=p) (l:=l) rfl];exact xZ
theorem Jb(b:bP p=eL){a:aC}:gC p seed a=eL↔ce (dR p seed a)=(bK p).toNat:=by have:=pm b;have:=(cu p).1 b;unfold gC oW;rw[b,wg];simp;omega
theorem cw.dec(B:cw p seed d K H w n){a:aC}(hid:∀i∈a,bZ i=eL)(e:gC p seed a=eL):mC p seed (mD p seed (dv p seed d) a)=(d,0):=by have b:∀x∈mD p seed (dv p seed d) a,BW p x:=λx g=>(Vx B.may).1 (q9.1 (B.Vy hid) x g);have h:=B.adm hid;have f:=Xl (seed:=seed) B.may b;rw[Mb]at f;have j:=(Jb B.may).1 e;have c:=mw f (jP p seed a) (adn b) j (by rw[B.ru,B.size];exact h);unfold mC;rw[B.may,B.Vy hid,Mb,e];simp only[Bool.and_self,if_true];rw[f9 c.2,<-c.1,B.out]
theorem afA(b:bP p=eL){l:List (Int×Row)}(a:l.all (ne p)=eL)(c:gC p seed (l.map qH)=eR):mC p seed l=([],9):=by unfold mC;rw[b,a,c];rfl
end
end Wl
namespace Go.Qw
open Go Go.Vc Go.Proofs Wl
theorem Xm(l:Sl)(r:aC)(c:eX)(x:Int)(h:f8)(d:cx h c 3 [xq xx x])(b:Rd h l 1 av r)(a:ii r<=2^30):
  ac xB 299 #[l,xt (dB c)] h λv h'=>v=xv (decide (x∈r))/\h'=h:=by
 refine BB l c ?_;unfold pS;refine⟨x,d.cell0 i0,(uQ l r x h b a).mono ?_⟩;rintro _ _ ⟨rfl,rfl⟩;exact⟨_,i0,i0,i0⟩
theorem Xn(s:Sl)(W:ct)(c:eX)(x:Int)(h:f8)(k:cx h c 3 [xq xx x])(g:fR h s 1 av W)(q:ii W<=2^20)(m:∀l∈W,ii l<=2^20):
  ac xB 298 #[s,.func (.func 299) #[] #[xt (dB c)]] h λv h'=>v=xv (mB W x)/\h'=h:=by
 refine ov s (299,#[],#[xt (dB c)]) ?_;unfold kq;refine(pZ s (299,#[],#[xt (dB c)]) (R:=λv h'=>(∃i:Int,v=xq xx i/\(decide (i>=0)=mB W x))/\h'=h) ?_).mono ?_
 ·unfold lE;have p:=g.len;refine aA (λi:Nat=>(i:Int)) (λi h'=>i<=ii W/\mB (W.take i) x=eR/\h'=h) (λi=>ii W-i) 0 i0 ⟨i4,by simp[mB],i0⟩ ?_;rintro i n ⟨j,b,rfl⟩;refine ai (λe=>?_) λe=>?_
  ·have a:i<ii W:=by have o:(i:Int)<(s.len:Int):=e;omega
   refine g.get i i0 a λr f=>ff ld ?_;refine(Xm r W[i] c x n k f (by have:=m _ (qg a);omega)).mono ?_;rintro _ _ ⟨rfl,rfl⟩;refine⟨_,i0,ai (λd=>⟨⟨i,i0,?_⟩,i0⟩) λd=>?_⟩
   ·rw[g9 (show(i:Int)>=0 by omega)]
    symm
    unfold mB;rw[wz];exact⟨_,qg a,g9 d⟩
   ·refine⟨i+1,js,⟨i4,?_,i0⟩,i4⟩;unfold mB at b⊢;rw[aK _ _ a,List.any_append,b,List.any_cons,List.any_nil,hU d];rfl
  ·have o:¬(i:Int)<(s.len:Int):=e;rw[qi i4]at b;exact⟨⟨-1,i0,by rw[b];rfl⟩,i0⟩
 ·rintro _ _ ⟨⟨i,rfl,j⟩,rfl⟩;exact⟨i,i0,by rw[j],i0⟩
abbrev gu(x:jC)(a:aO)(wS gS:Sl):bg:=[xq xx x.o,xq xx x.b,xq xz x.seed,.pointer a,wS,gS]
theorem Xo(b:eX)(x:jC)(t:aO)(wS gS:Sl)(h:f8)(k:cx h b 187 (gu x t wS gS))(o:fR h wS 1 av x.W)(q:ii x.W<=2^20)(s:∀l∈x.W,ii l<=2^20)(z:Dc x.W<=2^40):
  ac xB 245 #[xt (dB b)] h λv h'=>v=xq xx (eU x.W)/\Sp h h' []:=by
 refine DN (dB b) ?_;unfold sI;refine(Sp.refl h).alloc af i0 λc y p=>?_;refine p.storeAll af 0 i0 i0 [xq xx 0] i0 i0 i0 i0 λu m=>?_;refine aA (λ_:Nat=>()) (λi h'=>i<=Dc x.W+1/\(∀j,j<i->mB x.W (j:Int)=eL)/\Sp h h' [au c 3 [xq xx i]]) (λi=>Dc x.W+1-i) 0 i0 ⟨i4,λj n=>i4,m⟩ ?_;rintro i h3 ⟨w,a,d⟩;refine⟨b,i0,wS,(k.aj d.aj k.lt).cell i0,(Xn wS x.W c i h3 (d.box 0 i0) (o.up d.aj) q s).mono ?_⟩;rintro _ _ ⟨rfl,rfl⟩;refine⟨_,i0,bC (λe=>?_) λe=>?_⟩
 ·have:=PT e;refine⟨i,(d.box 0 i0).cell0 i0,d.storeAll af 0 i0 i0 [xq xx (qc xx ((i:Int)+1))] i0 i0 i0 i0 λr f=>?_⟩;refine⟨i+1,i0,⟨i4,λj n=>?_,?_⟩,i4⟩
  ·by_cases g:j=i
   ·rw[g];exact e
   ·exact a j i4
  ·have f:Sp h r [au c 3 [xq xx (qc xx ((i:Int)+1))]]:=f;rw[al _]at f;exact f
 ·refine⟨i,(d.box 0 i0).cell0 i0,?_,.zip d.aj⟩;rw[ZS e a]
section
variable {B:aD} {h0 h:f8} {As:List HP} {a pw:eX} {offs:Int} {da:List aO} {w:Pow} {ds:aJ} {m:aG}
theorem afB{k:Int}{d:bt}{b:eX}(y:bU)(n:Int)(e:bh ds k=dB d)(i:gr da k=dB b)(o:df h y m)(j:cS m)(H:aa B h0 h (bB a pw da offs w ds m::As)):
  ac xB 118 #[xt (dB b),fw y,xq xx n] h λv h'=>v=xv (iu m d n)/\Sp h h' []:=by
 obtain⟨s,f,g,c,l⟩:=LW e i H;exact IG s f y m n g c c.len l o j
theorem Jc{k:Int}{d:bt}{b:eX}(c:bh ds k=dB d)(i:gr da k=dB b)(H:aa B h0 h (bB a pw da offs w ds m::As)):
  ∃p A2:HP,aa B h0 h (ji pw b d::dn 92 pw w::p::A2::As)/\
   ∀h' l g,aa B h0 h' (ji pw b g::dn 92 pw l::p::A2::As)->aa B h0 h' (bB a pw da offs l (bQ ds k g) m::As):=by
 obtain⟨y,H⟩:=gf H;obtain⟨n,rfl,v⟩:=kW c;have t:ds[n]?=dB (dB d):=by
  unfold bh at c;rw[f9 i4,ql]at c;cases hX:ds[n]? with
  |none=>rw[hX]at c;cases c
  |some o=>rw[hX]at c;exact congrArg dB c
 obtain⟨r,f,s⟩:=Go.Vc.aa.jV H t;have j:r=b:=by unfold gr at i;rw[f9 i4,ql,f]at i;injection i
 subst j;refine⟨_,_,s,λh' l g q=>?_⟩;have u:=Go.Vc.aa.te (k:=bz) (n:=n) f q;have e:bQ ds (n:Int) g=ds.set n (dB g):=by simp only[bQ,ql]
 rw[e];exact lB u
theorem afC{k:Int}{d:bt}{b:eX}(y:bU)(n:Int)(l:St B h0 As λh=>df h y m)(j:cS m)(f:bh ds k=dB d)(i:gr da k=dB b)(H:aa B h0 h (bB a pw da offs w ds m::As)):
  ac xB 119 #[xt (dB b),fw y,xq xx n] h λv h'=>v=xq xx (ge m w d n).1/\aa B h0 h' (bB a pw da offs (ge m w d n).2.1 (bQ ds k (ge m w d n).2.2) m::As):=by
 obtain⟨o,A2,g,c⟩:=Jc f i H;refine(QW y m n l.cons.cons j g).mono ?_;rintro _ h' ⟨rfl,e⟩;exact⟨i0,c _ _ _ e⟩
theorem aai{k:Int}{d:bt}{b:eX}(x:Sl)(row:bf)(l:Rd h x 1 aF row)(j:ii row<=2^20)(f:bh ds k=dB d)(i:gr da k=dB b)(H:aa B h0 h (bB a pw da offs w ds m::As)):
  ac xB 102 #[xt (dB b),x] h λv h'=>v=xq xx (d.append w row).1/\aa B h0 h' (bB a pw da offs (d.append w row).2.1 (bQ ds k (d.append w row).2.2) m::As):=by
 obtain⟨n,A2,g,c⟩:=Jc f i H;refine(KD x row g l j).mono ?_;rintro _ h' ⟨rfl,e⟩;exact⟨i0,c _ _ _ e⟩
theorem afD(s:Sl)(l:aC)(e:St B h0 As λh=>Rd h s 1 av l)(d:ii l<=2^30)(b:∀x∈l,0<=x/\x<64)(H:aa B h0 h (bB a pw da offs w ds m::As)):
  ac xB 103 #[.func (.func 35) #[xt (dB a)] #[],s] h λv h'=>v=xq xx (eW (cM l) w ds).1/\aa B h0 h' (bB a pw da offs (eW (cM l) w ds).2.1 (eW (cM l) w ds).2.2 m::As):=by
 obtain⟨y,H⟩:=gf H;refine(NJ s l e.cons d b H).mono ?_;rintro _ h' ⟨rfl,c⟩;exact⟨i0,lB c⟩
theorem Xp(y:bU)(s:Sl)(bV:aC)(o b:Int)(j:df h y m)(f:cS m)(g:Rd h s 1 av bV)(e:ii bV<=2^10)(c:∀k∈bV,∃d,bh ds k=dB d)(H:aa B h0 h (bB a pw da offs w ds m::As)):
  ac xB 63 #[.func (.func 35) #[xt (dB a)] #[],s,fw y,xq xx o,xq xx b] h λv h'=>∃(r:Sl) (i:List (Int×Sl)),v=r/\Sp h h' [cO jI 2 piv r i (fN m ds bV o b)]:=by
 obtain⟨x,H⟩:=gf H;exact IM y m s bV o b j f g e c H
end
end Go.Qw
namespace Wl
open Go Go.Qw Go.Vc
theorem xR(ds:aJ)(k:Int)(d e:bt):bQ (bQ ds k d) k e=bQ ds k e:=by unfold bQ;rw[yq]
theorem afE{live:aC}{s i:Int}(g:0<=i↔s∈live)(f:0<=i->live[i.toNat]?=dB s/\∀j,j<i.toNat->live[j]?≠dB s)(h3:-1<=i):gm live s=i:=by
 unfold gm;by_cases c:0<=i
 ·obtain⟨a,b⟩:=f c;have e:live.idxOf? s=dB i.toNat:=by unfold List.idxOf?;rw[List.findIdx?_eq_some_iff_getElem];obtain⟨k,l⟩:=qn.1 a;refine⟨k,by rw[l];simp,λj d=>?_⟩;have:=b j d;rw[qd i4]at this;simpa using λh=>this (by rw[h])
  rw[e];dsimp only;omega
 ·have e:live.idxOf? s=eH:=by unfold List.idxOf?;rw[List.findIdx?_eq_none_iff];intro z m;have:s∉live:=λh=>c (g.2 h);simp only[beq_eq_false_iff_ne];rintro rfl;exact this m
  rw[e];dsimp only;omega
theorem Xq(k:Int)(b:bf):ii (dX k b)<=64:=by
 by_cases h:1<=k/\k<=255/\b.length<=55
 ·rw[mQ h.1 h.2.1 h.2.2];exact qm _
 ·unfold dX;rw[g0 h];exact zt _
theorem PY{o:aC}{i:Int}(a:o≠[])(b:0<=i:=by omega):gj o i∈o:=by unfold gj;rw[g0 λh=>h.elim a λh=>i4];have e:0<ii o:=List.length_pos_iff.2 a;have d:=w5 i (show(ii o:Int)≠0 by omega);have c:=wm i (show(0:Int)<ii o by omega);unfold SF;rw[qe,qd i4];exact qg _
theorem Fw{o b s:Int}{l:aC}(h:s∈fy o b l):s∈l:=by
 unfold fy at h;split at h
 ·exact((Rb _ _ _).1 h).1
 ·cases h
theorem afF(l:aC):ii (ju l)<=ii l:=by
 have:=UR l l.length
 rwa [qi (qm _)]at this
theorem aaj(o b:Int)(l:aC):ii (fy o b l)<=ii l:=by
 unfold fy;split
 ·rw[(NX _ _).length_eq];exact afF l
 ·simp
structure nL (m:aG) (live:aC) (x:jC):Prop where
 seed:0<=x.seed/\x.seed<4294967296
 ev:bc m.p.2.2.toNat x.M
 ml:ii x.M=(bK m.p).toNat
 wl:ii x.W=ii live
 rl:∀l∈x.W,ii l<=2^12+ii x.got
 top:Dc x.W<=2^20+ii x.got
 gl:ii x.got<=64
 gi:∀s∈x.got,s∈live
end Wl
namespace Go.Qw
open Go Go.Vc Go.Proofs Wl
theorem _root_.Go.Vc.Seq.ahO{h:f8}{p:aD}{s:Sl}{rs:List Sl}(i:Vc.Seq h p s 1 bw rs){n:Nat}(g:n<ii rs){a:eX}(f:s.ptr=dB a):f7 h (a.add (n*1))=dB (.slice rs[n].ptr rs[n].len rs[n].cap):=by
 obtain⟨b,o,c,j,e⟩:=i.elem n rs[n] (qd g);rw[f]at c;injection c with c
 subst c;have d:=e.1;rw[add_eq,wN]at d;rw[add_eq];exact d
def tv(s:Sl)(W:ct)(k:Nat)(rs:List Sl):HP:=HP.all (ak 22 s 1 bw rs::(bF 3 1 av rs W).set k emp)
section
variable {B:aD} {h0 h:f8} {As:List HP} {s:Sl} {W:ct} {k:Nat}
theorem Vz(H:aa B h0 h As):aa B h0 h (emp::As):=(H.comp (.one (A:=emp) (be.refl _ _) trivial)).bA
theorem ajt(g:k<ii W)(H:aa B h0 h (dK 22 s 3 1 av W::As)):
  ∃(rs:List Sl) (p:eX) (b:ii rs=ii W),s.ptr=dB p/\s.len=ii W/\aa B h0 h (ak 3 (rs[k]'(by omega)) 1 av W[k]::tv s W k rs::As):=by
 obtain⟨rs,b,a⟩:=H.Es;have j:=(a.own 0 i0).len;obtain⟨p,o,e,_⟩:=(a.seq 0 rfl λ_=>rfl).elem k (rs[k]'(by omega)) (qd i4);have d:aa B h0 h (ak 22 s 1 bw rs::emp::(bF 3 1 av rs W++As)):=(Vz a).aX 2 [1,0];have i:=(aa.XZ k (fX b k g) d).aX 3 [0,2];have f:aa B h0 h ([ak 3 (rs[k]'(by omega)) 1 av W[k]]++((ak 22 s 1 bw rs::(bF 3 1 av rs W).set k emp)++As)):=i;have c:=f.front;rw[qp]at c;exact⟨rs,_,b,e,i4,(aa.closeAll _ c).bA⟩
theorem ahP{rs:List Sl}{p:eX}(i:Nat){Bs:List HP}(e:ii rs=ii W)(d:k<ii W)(b:s.ptr=dB p)(a:Bs[i]?=dB (tv s W k rs))(H:aa B h0 h Bs):f7 h (p.add (k*1))=dB (.slice (rs[k]'(by omega)).ptr (rs[k]'(by omega)).len (rs[k]'(by omega)).cap):=by have c:=(H.cons i a).pu;exact(c.seq 0 i0 λ_=>rfl).ahO i4 b
theorem aju{rs:List Sl}{v:Sl}{l:aC}{x:Int}(f:ii rs=ii W)(n:k<ii W)(j:x=k)(H:aa B h0 h (ak 3 v 1 av l::tv s W k rs::As)){K:f8->Prop}
  (m:∀h',aa B h0 h' (dK 22 s 3 1 av (W.set k l)::As)->K h'):
  ∃a:eX,(s.ptr=dB a/\0<=x/\x<((s.len:Nat):Int))/\ag xB (qf 22 (xt (dB (a.add (x.toNat*1)))) (xr v.ptr v.len v.cap)) h λ_ h'=>K h':=by
 have i:=H.oB.pu;refine i.set af 0 i0 (λ_=>rfl) i0 k j i4 v i0 i0 i0 λh' g=>m h' ?_;have b:ii (bF 3 1 av rs W)=ii W:=by simp[bF];omega
 have d:=g.cons (ii W+1) (A:=ak 3 v 1 av l) (by
  show((ak 22 s 1 bw (rs.set k v)::((bF 3 1 av rs W).set k emp++ak 3 v 1 av l::As)))[ii W+1]?=_;rw[qw,qj l7];simp[b])
 have e:((ak 22 s 1 bw (rs.set k v)::((bF 3 1 av rs W).set k emp++ak 3 v 1 av l::As))).set (ii W+1) emp=ak 22 s 1 bw (rs.set k v)::((bF 3 1 av rs W).set k emp++emp::As):=by rw[zw,List.set_append_right _ _ l7];simp[b]
 have d:aa B h0 h' (ak 3 v 1 av l::ak 22 s 1 bw (rs.set k v)::((bF 3 1 av rs W).set k emp++emp::As)):=by rw[<-e];exact d
 have c:=(aa.JJ k i4 ((Vz d).aX 3 [1,0,2])).aX 2 [0];have c:aa B h0 h' (ak 22 s 1 bw (rs.set k v)::((bF 3 1 av rs W).set k (ak 3 v 1 av l)++emp::As)):=c;rw[lj f]at c;exact(aa.He pb c).aX 2 [0]
end
def sk(b a:eX)(x:jC):HP:=HP.ex λp:Sl×Sl=>(au b 187 (gu x (dB a) p.1 p.2)).sep ((dK 22 p.1 3 1 av x.W).sep (ak 3 p.2 1 av x.got))
section
variable {B:aD} {h0 h:f8} {As:List HP} {b cd:eX} {x:jC}
theorem JP(H:aa B h0 h (sk b cd x::As)):∃wS gS:Sl,aa B h0 h (ak 3 gS 1 av x.got::dK 22 wS 3 1 av x.W::au b 187 (gu x (dB cd) wS gS)::As):=by obtain⟨⟨wS,gS⟩,H⟩:=H.tG;exact⟨wS,gS,H.uc.uc⟩
theorem Bf{wS gS:Sl}(H:aa B h0 h (ak 3 gS 1 av x.got::dK 22 wS 3 1 av x.W::au b 187 (gu x (dB cd) wS gS)::As)):aa B h0 h (sk b cd x::As):=
 aa.Ah (F:=λp:Sl×Sl=>(au b 187 (gu x (dB cd) p.1 p.2)).sep ((dK 22 p.1 3 1 av x.W).sep (ak 3 p.2 1 av x.got))) (wS,gS) H.mj.mj
end
section
variable {B:aD} {h0 h:f8} {As:List HP} {a pw:eX} {offs:Int} {da:List aO} {w:Pow} {ds:aJ} {m:aG}
theorem ado{c b j:eX}(y:bU)(E g:Sl)(live set:aC)(t most k:Int)(x:jC)(hm:bS m=eL)(hp:bP m.p=eL)(hl:ii live<=64)(bb:∀k∈live,∃d,bh ds k=dB d)(hk:0<=k/\k<=2^40)(F:nL m live x)(er:ii set<=2^20)
  (hS:St B h0 As λh=>df h y m/\Rd h E 1 av live/\Rd h g 1 av set/\AY h j m.p x.seed x.M)
  (H:aa B h0 h (bB a pw da offs w ds m::au c 109 (cU a y E t most k)::sk b j x::As)):
  ac xB 193 #[xt (dB c),xt (dB b),g] h λv h'=>v=xq xx (fb m live set w ds x).1/\
   aa B h0 h' (bB a pw da offs (fb m live set w ds x).2.1 (fb m live set w ds x).2.2.1 m::au c 109 (cU a y E t most (if(fb m live set w ds x).1=0 then k+1 else k))::sk b j (fb m live set w ds x).2.2.2::As):=by
 refine Bv (dB c) (dB b) g ?_;unfold pM;obtain⟨wS,gS,H1⟩:=JP (H.aX 3 [2,0,1]);have am:=H1.box 2 i0;have b1:=H1.box 4 i0;have c9:fR h wS 1 av x.W:=aa.FH (H1.aX 2 [1,0]) λ_=>rfl;have es:=F.gl;have cc:∀l∈x.W,ii l<=2^13:=λl hl=>by have:=F.rl l hl;omega
 obtain⟨id,hid⟩:∃id,id=eU x.W:=⟨_,rfl⟩
 have ed:id<=2^21:=by have:=Vn x.W;have:=F.top;omega
 refine(Xo b x (dB j) wS gS h am c9 (by rw[F.wl];omega) (λl hl=>by have:=cc l hl;omega) (by have:=F.top;omega)).mono ?_;rintro _ h1 ⟨rfl,R1⟩;rw[<-hid];have H1:=H1.up R1.aj;have d8:=(hS.cons.cons.cons.cons.cons).here H1;obtain⟨ef,bq,et,eh⟩:=d8;have am:=H1.box 2 i0;have b1:=H1.box 4 i0;refine⟨(id:Int),i0,b,i0,x.o,am.cell0 i0,b,i0,x.b,am.cell i0,c,i0,E,b1.cell i0,(KK x.o x.b E live h1 bq).mono ?_⟩;rintro _ h2 ⟨r8,rfl,R2⟩;obtain⟨o,ho⟩:∃o,o=fy x.o x.b live:=⟨_,rfl⟩
 rw[<-ho]at R2;have eo:ii o<=64:=by rw[ho];exact zf (aaj _ _ _) hl
 have H2:=H1.co R2;have e5:=(H2.own 0 i0).len;refine⟨r8,i0,trivial,?_⟩;obtain⟨cell,N⟩:∃cell,cell=dG (x.Ol m id):=⟨_,rfl⟩
 have e0:fb m live set w ds x=(let r:=gG m live set o cell id w ds (qy o.length);(r.1.1,r.1.2.1,r.1.2.2,if r.1.1=0 then x.De id r.2.1 r.2.2 else x)):=by rw[ho,N,hid];rfl
 rw[e0];refine aA (λi:Nat=>(i:Int)) (λi h'=>i<=ii o/\gG m live set o cell id w ds (qy o.length)=gG m live set o cell id w ds ((qy o.length).drop i)/\aa B h0 h' (ak 3 r8 1 av o::ak 3 gS 1 av x.got::dK 22 wS 3 1 av x.W::au b 187 (gu x (dB j) wS gS)::bB a pw da offs w ds m::au c 109 (cU a y E t most k)::As)) (λi=>ii o-i) 0 i0 ⟨i4,i0,H2⟩ ?_;rintro i h3 ⟨hi,b4,T⟩;refine ai (λe=>?_) λe=>?_
 rotate_left
 ·have el:i=ii o:=i4
  have hd:(qy o.length).drop i=[]:=List.drop_eq_nil_of_le i7;rw[b4,hd];refine⟨i0,?_⟩;have T:=T.rest;exact((Bf (T.aX 5 [0,1,2,3,4])).aX 3 [1,2,0])
 have b3:i<ii o:=i4
 have hd:(qy o.length).drop i=i::(qy o.length).drop (i+1):=by rw[qP i7,vF]
 rw[al ((id:Int)+(i:Int))];refine(Ye r8 o ((id:Int)+i) h3 (T.seq 0 i0 λ_=>rfl)).mono ?_;rintro _ _ ⟨rfl,rfl⟩;obtain⟨s,hs⟩:∃s,s=gj o ((id:Int)+i):=⟨_,rfl⟩
 rw[<-hs];have d3:s∈o:=by rw[hs];exact PY (by intro h;rw[h]at b3;simp at b3)
 have a1:s∈live:=Fw (by rw[<-ho];exact d3);obtain⟨d,V⟩:=bb s a1;have O:gG m live set o cell id w ds (qy o.length)=(if gm live s∈set∨iu m d 1=eR then gG m live set o cell id w ds ((qy o.length).drop (i+1))else(jB m cell w ds s d,gm live s,s)):=by rw[b4,hd,gG,<-hs,V]
 obtain⟨c5,b7,c0,ej⟩:=(hS.cons.cons.cons.cons.cons.cons).here T;have Z:=T.box 5 i0;refine⟨_,i0,c,i0,E,Z.cell i0,(index_spec E live s _ b7 i4).mono ?_⟩;rintro _ _ ⟨⟨I,rfl,q1,q2,q3,q4⟩,rfl⟩;have a2:gm live s=I:=afE q1 q2 q4;have d6:0<=I:=q1.2 a1;refine⟨I,i0,c,i0,dB a,Z.cell0 i0,(uy s (T.aX 5 [4])).mono ?_⟩;rintro _ _ ⟨rfl,rfl⟩;obtain⟨dp,ah⟩:=JN V (T.aX 5 [4]);rw[ah];refine⟨_,i0,?_⟩;refine bX (λ(_:Unit) h'=>¬(gm live s∈set∨iu m d 1=eR)/\aa B h0 h' (ak 3 r8 1 av o::ak 3 gS 1 av x.got::dK 22 wS 3 1 av x.W::au b 187 (gu x (dB j) wS gS)::bB a pw da offs w ds m::au c 109 (cU a y E t most k)::As)) ?_ ?_
 ·refine(uQ g set I _ c0 i4).mono ?_;rintro _ _ ⟨rfl,rfl⟩;refine⟨_,i0,ai (λe1=>?_) λe1=>?_⟩
  ·refine⟨i+1,js,⟨i4,?_,T⟩,i4⟩;rw[O,f9 (.inl (by rw[a2];exact e1))]
  ·refine⟨c,i0,y,Z.cells 1 _ i0,(afB y 1 V ah c5 (kb hm) (T.aX 5 [4])).mono ?_⟩;rintro _ h4 ⟨rfl,R4⟩;refine⟨_,i0,bo (λe2=>?_) λe2=>?_⟩
   ·refine⟨i+1,js,⟨i4,?_,T.up R4.aj⟩,i4⟩;rw[O,f9 (.inr e2)]
   ·exact⟨λh=>h.elim (λh=>e1 (by rw[<-a2];exact h)) (λh=>by rw[h]at e2;cases e2),T.up R4.aj⟩
 rintro _ h5 ⟨dd,H5⟩;rw[O,g0 dd];dsimp only;have b9:=H5.box 5 i0;have H5:aa B h0 h5 (bB a pw da offs w ds m::ak 3 gS 1 av x.got::dK 22 wS 3 1 av x.W::au b 187 (gu x (dB j) wS gS)::au c 109 (cU a y E t most k)::As):=H5.aX 6 [4,1,2,3,5];refine⟨c,i0,y,b9.cells 1 _ i0,(afC y 1 (hS.cons.cons.cons.cons.mono λ_ q=>q.1) (kb hm) V ah H5).mono ?_⟩;rintro _ h6 ⟨rfl,H6⟩;obtain⟨mk,a8⟩:∃mk,mk=ge m w d 1:=⟨_,rfl⟩
 rw[<-a8]at H6⊢;refine⟨_,i0,cb (λe3=>?_) λe3=>?_⟩
 ·have ea:jB m cell w ds s d=(mk.1,mk.2.1,bQ ds s mk.2.2):=by unfold jB;rw[<-a8];dsimp only;rw[f9 e3]
  rw[ea];dsimp only;rw[g0 e3,g0 e3];refine⟨i0,?_⟩;exact(Bf (H6.aX 5 [1,2,3,0,4])).aX 3 [1,2,0]
 have cl:bh (bQ ds s mk.2.2) s=dB mk.2.2:=by rw[iv (nJ H).1 V,f9 rfl]
 obtain⟨n,bl⟩:∃n,n=mk.2.2.append mk.2.1 cell:=⟨_,rfl⟩
 have ea:jB m cell w ds s d=(n.1,n.2.1,bQ (bQ ds s mk.2.2) s n.2.2):=by unfold jB;rw[<-a8];dsimp only;rw[g0 λh=>h e3,<-bl,xR]
 rw[ea];dsimp only;obtain⟨d7,eb,eg,dy⟩:=(hS.cons.cons.cons.cons.cons).here H6;have P:=H6.box 3 i0;have cr:=H6.box 4 i0;have b0:∀{h':f8},cx h' c 109 (cU a y E t most k)->df h' y m->aq h' ((c.add 1).add 2) 0 [xq xx m.p.1,xq xx m.p.2.1,xq xx m.p.2.2]:=λ{h'} hb hy=>by
  have dk:y.2.2.1=m.p.1:=congrArg (·.1) hy.p;have d0:y.2.2.2.1=m.p.2.1:=congrArg (·.2.1) hy.p;have d5:y.2.2.2.2.1=m.p.2.2:=congrArg (·.2.2) hy.p;rw[addr_add,<-dk,<-d0,<-d5];exact hb.cells 3 _ i0
 refine bX (λ(z:eX) h'=>∃A:Sl,aa B h0 h' (au z 170 (bT (x.o,x.b,(id:Int),m.p.1,m.p.2.1,m.p.2.2,x.seed,A))::ak 5 A 1 aF (x.Ol m id).data::bB a pw da offs mk.2.1 (bQ ds s mk.2.2) m::ak 3 gS 1 av x.got::dK 22 wS 3 1 av x.W::au b 187 (gu x (dB j) wS gS)::au c 109 (cU a y E t most k)::As)) ?_ ?_
 ·have c2:=b0 cr d7;have L:∀{h':f8},cx h' b 187 (gu x (dB j) wS gS)->cx h' c 109 (cU a y E t most k)->df h' y m->az.ok [(b.add 2,xq xz x.seed),((c.add 1).add 2,xq xx m.p.1),(((c.add 1).add 2).add 1,xq xx m.p.2.1),(((c.add 1).add 2).add 2,xq xx m.p.2.2),(b.add 1,xq xx x.b),(b,xq xx x.o)] h':=λ{h'} hb hc hy=>by
   have q:=b0 hc hy;exact⟨hb.cell i0,q.1,q.2.1,q.2.2.1,hb.cell i0,hb.cell0 i0,trivial⟩
  refine⟨b,i0,x.o,P.cell0 i0,b,i0,x.b,P.cell i0,c,i0,m.p,c2,b,i0,x.seed,P.cell i0,b,i0,dB j,P.cell i0,?_,?_⟩
  ·refine(CZ j m.p x.seed id x.M (bK m.p).toNat m.p.2.2.toNat h6 dy hp (by have:=(cu m.p).1 hp;omega) i0 F.ev F.ml).mono ?_;rintro _ h7 ⟨A,rfl,R7⟩;have H7:=H6.co R7;refine⟨A,i0,L (H7.box 4 i0) (H7.box 5 i0) ((hS.cons.cons.cons.cons.cons.cons).here H7).1,H7.alloc af i0 λc8 h8 R=>?_⟩;have R:=R.bA;refine⟨L (R.box 5 i0) (R.box 6 i0) ((hS.cons.cons.cons.cons.cons.cons.cons).here R).1,?_⟩;refine R.storeAll af 0 i0 i0 (bT (x.o,x.b,(id:Int),m.p.1,m.p.2.1,m.p.2.2,x.seed,A)) i0 i0 i0 i0 λh9 H9=>⟨trivial,A,H9⟩
  ·refine H6.alloc af i0 λc8 h8 R=>?_;have R:=R.bA;obtain⟨dr,_,_,c4⟩:=(hS.cons.cons.cons.cons.cons.cons).here R;refine⟨⟨(R.box 4 i0).cell i0,L (R.box 4 i0) (R.box 5 i0) dr⟩,?_⟩;refine(CZ j m.p x.seed id x.M (bK m.p).toNat m.p.2.2.toNat h8 c4 hp (by have:=(cu m.p).1 hp;omega) i0 F.ev F.ml).mono ?_;rintro _ h7 ⟨A,rfl,R7⟩;have H7:=R.co R7;refine⟨A,i0,L (H7.box 5 i0) (H7.box 6 i0) ((hS.cons.cons.cons.cons.cons.cons.cons).here H7).1,?_⟩;refine H7.storeAll af 1 i0 i0 (bT (x.o,x.b,(id:Int),m.p.1,m.p.2.1,m.p.2.2,x.seed,A)) i0 i0 i0 i0 λh9 H9=>⟨trivial,A,H9.oB⟩
 rintro z du ⟨A,bk⟩;have b2:=bk.box 0 i0;refine⟨(x.o,x.b,(id:Int),m.p.1,m.p.2.1,m.p.2.2,x.seed,A),b2.aU _ i0,?_⟩;have a5:=bk.seq 1 i0 λ_=>rfl;refine(tQ (x.o,x.b,(id:Int),m.p.1,m.p.2.1,m.p.2.2,x.seed,A) (x.Ol m id) du ⟨⟨i0,i0,i0,i0,i0,F.seed⟩,a5⟩).mono ?_;rintro _ dx ⟨a9,rfl,cs⟩;rw[<-N]at cs;have ar:=bk.co cs;have c7:ii cell<=2^20:=by
  rw[N];unfold dG;split
  ·exact zf (Xq _ _) i5
  ·simp
 have ar:aa B h0 dx (bB a pw da offs mk.2.1 (bQ ds s mk.2.2) m::ak 5 a9 1 aF cell::ak 3 gS 1 av x.got::dK 22 wS 3 1 av x.W::au b 187 (gu x (dB j) wS gS)::au c 109 (cU a y E t most k)::As):=ar.aX 8 [3,0,4,5,6,7];refine⟨a9,i0,(aai a9 cell (ar.seq 1 i0 λ_=>rfl) c7 cl ah ar).mono ?_⟩;rintro _ b5 ⟨rfl,X⟩;rw[<-bl]at X⊢;have X:aa B h0 b5 (ak 3 gS 1 av x.got::dK 22 wS 3 1 av x.W::au b 187 (gu x (dB j) wS gS)::bB a pw da offs n.2.1 (bQ (bQ ds s mk.2.2) s n.2.2) m::au c 109 (cU a y E t most k)::As):=X.aX 6 [2,3,4,0,5];refine⟨_,i0,cb (λe4=>?_) λe4=>?_⟩
 ·rw[g0 e4,g0 e4];refine⟨i0,?_⟩;exact(Bf X).aX 3 [1,2,0]
 rw[e4,f9 i0,f9 rfl];obtain⟨f,a0⟩:∃f:Nat,I=(f:Int):=⟨I.toNat,i4⟩
 have J:f<ii x.W:=by rw[F.wl];omega
 have bd:x.De id (gm live s) s={x with W:=x.W.set f (x.W[f]++[(id:Int)]),got:=x.got++[s]}:=by unfold jC.De;rw[a2,a0,ql,qe,qd J];rfl
 rw[bd];refine bX (λ(_:Unit) h'=>aa B h0 h' (bB a pw da offs n.2.1 (bQ (bQ ds s mk.2.2) s n.2.2) m::au c 109 (cU a y E t most k)::sk b j {x with W:=x.W.set f (x.W[f]++[(id:Int)]),got:=x.got++[s]}::As)) ?_ ?_
 ·obtain⟨rs,pp,br,cf,c1,S⟩:=ajt J (X.aX 2 [1,0]);have ec:=cc _ (qg J);have S:aa B h0 b5 (ak 3 (rs[f]'(by omega)) 1 av x.W[f]::tv wS x.W f rs::ak 3 gS 1 av x.got::au b 187 (gu x (dB j) wS gS)::bB a pw da offs n.2.1 (bQ (bQ ds s mk.2.2) s n.2.2) m::au c 109 (cU a y E t most k)::As):=S;have K:∀{h':f8} {r r':HP} {Cs:List HP},aa B h0 h' (r::tv wS x.W f rs::r'::au b 187 (gu x (dB j) wS gS)::Cs)->cx h' b 187 (gu x (dB j) wS gS)/\f7 h' (pp.add (I.toNat*1))=dB (.slice (rs[f]'(by omega)).ptr (rs[f]'(by omega)).len (rs[f]'(by omega)).cap):=λ{h' r r' Cs} Q=>
   ⟨Q.box 3 i0,by rw[a0,ql];exact ahP 1 br J cf i0 Q⟩
  have U:=S.box 3 i0;have fin:∀{h':f8} {v v':Sl} {Cs:List HP},aa B h0 h' (ak 3 v 1 av (x.W[f]++[(id:Int)])::tv wS x.W f rs::ak 3 v' 1 av (x.got++[s])::au b 187 (gu x (dB j) wS gS)::bB a pw da offs n.2.1 (bQ (bQ ds s mk.2.2) s n.2.2) m::au c 109 (cU a y E t most k)::As)->
    az.ok [(b.add 4,xr wS.ptr wS.len wS.cap),(b.add 4,xr wS.ptr wS.len wS.cap)] h'/\∃a55:eX,(wS.ptr=dB a55/\0<=I/\I<(wS.len:Int))/\ag xB (qf 22 (xt (dB (a55.add (I.toNat*1)))) (xr v.ptr v.len v.cap)) h' λ_ a4=>
     az.ok [] a4/\∃cn:eX,(dB b=dB cn)/\ag xB (qf 22 (xt (dB (cn.add 5))) (xr v'.ptr v'.len v'.cap)) a4 λ_ ax=>az.ok [] ax/\
      aa B h0 ax (bB a pw da offs n.2.1 (bQ (bQ ds s mk.2.2) s n.2.2) m::au c 109 (cU a y E t most k)::sk b j {x with W:=x.W.set f (x.W[f]++[(id:Int)]),got:=x.got++[s]}::As):=λ{h' v v' Cs} Q=>by
   have bs:=(K Q).1;refine⟨⟨bs.cell i0,bs.cell i0,trivial⟩,aju br J a0 Q λa4 c6=>⟨trivial,b,i0,c6.storeAt af 2 i0 i0 i0 i0 i0 (show 5<6 by decide) λax a3=>⟨trivial,?_⟩⟩⟩;have a3:aa B h0 ax (dK 22 wS 3 1 av (x.W.set f (x.W[f]++[(id:Int)]))::ak 3 v' 1 av (x.got++[s])::au b 187 (gu x (dB j) wS v')::bB a pw da offs n.2.1 (bQ (bQ ds s mk.2.2) s n.2.2) m::au c 109 (cU a y E t most k)::As):=a3;exact(Bf (x:={x with W:=x.W.set f (x.W[f]++[(id:Int)]),got:=x.got++[s]}) (wS:=wS) (gS:=v') (a3.aX 5 [1,0,2,3,4])).aX 3 [1,2,0]
  have ab:∀{h':f8} {r r':HP} {Cs:List HP},aa B h0 h' (r::tv wS x.W f rs::r'::au b 187 (gu x (dB j) wS gS)::Cs)->
    az.ok [(b.add 5,xr gS.ptr gS.len gS.cap),(b.add 4,xr wS.ptr wS.len wS.cap),(b.add 4,xr wS.ptr wS.len wS.cap)] h':=λQ=>⟨(K Q).1.cell i0,(K Q).1.cell i0,(K Q).1.cell i0,trivial⟩
  have ad:∀{h':f8} {r r':HP} {Cs:List HP},aa B h0 h' (r::tv wS x.W f rs::r'::au b 187 (gu x (dB j) wS gS)::Cs)->
    az.ok [(b.add 5,xr gS.ptr gS.len gS.cap),(pp.add (I.toNat*1),.slice (rs[f]'(by omega)).ptr (rs[f]'(by omega)).len (rs[f]'(by omega)).cap),(b.add 4,xr wS.ptr wS.len wS.cap),(b.add 4,xr wS.ptr wS.len wS.cap)] h':=λQ=>⟨(K Q).1.cell i0,(K Q).2,(K Q).1.cell i0,(K Q).1.cell i0,trivial⟩
  refine⟨b,i0,wS,U.cell i0,b,i0,wS,U.cell i0,pp,⟨cf,d6,(by rw[a0,c1];exact Int.ofNat_lt.2 J)⟩,rs[f]'(by omega),(K S).2,b,i0,gS,U.cell i0,?_,?_⟩
  ·refine S.lit af av gN i0 [(id:Int)] i0 (show 1*1<=2^20 by decide) i0 λv51 a7 G=>?_;have G:aa B h0 a7 (ak 3 v51 1 av [(id:Int)]::ak 3 (rs[f]'(by omega)) 1 av x.W[f]::tv wS x.W f rs::ak 3 gS 1 av x.got::au b 187 (gu x (dB j) wS gS)::bB a pw da offs n.2.1 (bQ (bQ ds s mk.2.2) s n.2.2) m::au c 109 (cU a y E t most k)::As):=G.bA;refine⟨ad G.rest,?_,?_⟩
   ·refine G.append af 1 i0 gN ⟨_,_,i0,i0⟩ i0 i5 (λ_=>rfl) (G.seq 0 i0 λ_=>rfl) fD i7 λd2 ao u=>⟨ab u.rest,?_⟩
    refine u.lit af av gN i0 [s] i0 (show 1*1<=2^20 by decide) i0 λv53 a6 D=>?_;have D:aa B h0 a6 (ak 3 v53 1 av [s]::ak 3 d2 1 av (x.W[f]++[(id:Int)])::tv wS x.W f rs::ak 3 gS 1 av x.got::au b 187 (gu x (dB j) wS gS)::bB a pw da offs n.2.1 (bQ (bQ ds s mk.2.2) s n.2.2) m::au c 109 (cU a y E t most k)::As):=(D.bA).aX 3 [0,2];refine⟨ab D.rest,?_⟩;refine D.append af 3 i0 gN ⟨_,_,i0,i0⟩ i0 i5 (λ_=>rfl) (D.seq 0 i0 λ_=>rfl) fD i7 λew cp Y=>?_;exact fin (Cs:=[]) Y.rest
   ·refine G.lit af av gN i0 [s] i0 (show 1*1<=2^20 by decide) i0 λd4 ao u=>?_;have u:aa B h0 ao (ak 3 d4 1 av [s]::ak 3 v51 1 av [(id:Int)]::ak 3 (rs[f]'(by omega)) 1 av x.W[f]::tv wS x.W f rs::ak 3 gS 1 av x.got::au b 187 (gu x (dB j) wS gS)::bB a pw da offs n.2.1 (bQ (bQ ds s mk.2.2) s n.2.2) m::au c 109 (cU a y E t most k)::As):=u.bA;refine⟨ad u.rest.rest,?_⟩;refine u.append af 2 i0 gN ⟨_,_,i0,i0⟩ i0 i5 (λ_=>rfl) (u.seq 1 i0 λ_=>rfl) fD i7 λek a6 D=>⟨ab D.rest.rest,?_⟩
    refine D.append af 4 i0 gN ⟨_,_,i0,i0⟩ i0 i5 (λ_=>rfl) (D.seq 0 i0 λ_=>rfl) fD i7 λep cp Y=>?_;exact fin (Cs:=[]) Y.rest.rest
  ·refine S.lit af av gN i0 [s] i0 (show 1*1<=2^20 by decide) i0 λcq a7 G=>?_;have G:aa B h0 a7 (ak 3 cq 1 av [s]::ak 3 (rs[f]'(by omega)) 1 av x.W[f]::tv wS x.W f rs::ak 3 gS 1 av x.got::au b 187 (gu x (dB j) wS gS)::bB a pw da offs n.2.1 (bQ (bQ ds s mk.2.2) s n.2.2) m::au c 109 (cU a y E t most k)::As):=G.bA;refine⟨ad G.rest,?_⟩;refine G.lit af av gN i0 [(id:Int)] i0 (show 1*1<=2^20 by decide) i0 λd1 ao u=>?_;have u:aa B h0 ao (ak 3 d1 1 av [(id:Int)]::ak 3 cq 1 av [s]::ak 3 (rs[f]'(by omega)) 1 av x.W[f]::tv wS x.W f rs::ak 3 gS 1 av x.got::au b 187 (gu x (dB j) wS gS)::bB a pw da offs n.2.1 (bQ (bQ ds s mk.2.2) s n.2.2) m::au c 109 (cU a y E t most k)::As):=u.bA;refine⟨ad u.rest.rest,?_⟩;refine u.append af 2 i0 gN ⟨_,_,i0,i0⟩ i0 i5 (λ_=>rfl) (u.seq 0 i0 λ_=>rfl) fD i7 λen a6 D=>⟨ab D.rest.rest,?_⟩
   refine D.append af 4 i0 gN ⟨_,_,i0,i0⟩ i0 i5 (λ_=>rfl) (D.seq 1 i0 λ_=>rfl) fD i7 λei cp Y=>?_;exact fin (Cs:=[]) Y.rest.rest
 rintro _ eq b6;refine⟨c,i0,k,(b6.box 1 i0).cell i0,c,i0,b6.storeAt af 1 i0 i0 i0 i0 i0 (show 12<13 by decide) λd9 ay=>⟨i0,?_⟩⟩;have ay:aa B h0 d9 (bB a pw da offs n.2.1 (bQ (bQ ds s mk.2.2) s n.2.2) m::au c 109 (cU a y E t most (qc xx (k+1)))::sk b j {x with W:=x.W.set f (x.W[f]++[(id:Int)]),got:=x.got++[s]}::As):=ay;rw[al _]at ay;exact ay
end
end Go.Qw
namespace Wl
open Go Go.Qw Go.Vc
theorem Mc{m:aG}{live set order:aC}{c:bf}{id:Nat}{w:Pow}{ds:aJ}:∀{l:List Nat},(gG m live set order c id w ds l).1.1=0->
  ∃i∈l,∃d,bh ds (gj order ((id:Int)+i))=dB d/\gm live (gj order ((id:Int)+i))∉set/\iu m d 1=eL/\gG m live set order c id w ds l=(jB m c w ds (gj order ((id:Int)+i)) d,gm live (gj order ((id:Int)+i)),gj order ((id:Int)+i))
 |[],h=>j6
 |i::l,h=>by
  unfold gG at h⊢;dsimp only at h⊢;cases hd:bh ds (gj order ((id:Int)+i))with
  |none=>
   rw[hd]at h;obtain⟨j,b,r⟩:=Mc h;exact⟨j,qG _ b,r⟩
  |some d=>
   rw[hd]at h;dsimp only at h⊢;by_cases a:gm live (gj order ((id:Int)+i))∈set∨iu m d 1=eR
   ·rw[f9 a]at h⊢;obtain⟨j,b,r⟩:=Mc h;exact⟨j,qG _ b,r⟩
   ·rw[g0 a];exact⟨i,qN,d,hd,λh=>a (.inl h),by cases hf:iu m d 1 with|true=>rfl|false=>exact absurd (.inr hf) a,rfl⟩
theorem adp{m:aG}{c:bf}{w:Pow}{ds:aJ}{s:Int}{d:bt}:∃a,(jB m c w ds s d).2.2=bQ ds s a:=by
 unfold jB;dsimp only;split
 ·exact⟨_,i0⟩
 ·exact⟨_,xR _ _ _ _⟩
theorem Md{m:aG}{live set order:aC}{c:bf}{id:Nat}{w:Pow}{ds:aJ}(a:ii ds=64){P:Int->Prop}(b:∀k,P k->∃d,bh ds k=dB d):∀{l:List Nat},∀k,P k->∃d,bh (gG m live set order c id w ds l).1.2.2 k=dB d
 |[],k,hk=>b k hk
 |i::l,k,hk=>by
  unfold gG;dsimp only;cases hd:bh ds (gj order ((id:Int)+i))with
  |none=>exact Md a b k hk
  |some d=>
   dsimp only;split
   ·exact Md a b k hk
   ·obtain⟨f,e⟩:=adp (m:=m) (c:=c) (w:=w) (ds:=ds) (s:=gj order ((id:Int)+i)) (d:=d);dsimp only;rw[e,iv a hd];split
    ·exact⟨_,i0⟩
    ·exact b k hk
theorem VA{W:ct}{n:Nat}(h:∀l∈W,∀x∈l,x.toNat<=n):Dc W<=n:=by
 have c:∀l:aC,(∀x∈l,x.toNat<=n)->l.foldr (λx a=>max a x.toNat) 0<=n:=by
  intro l
  induction l with
  |nil=>intro _;exact zt _
  |cons x l ih=>
   intro h;rw[List.foldr_cons];have g:=ih λy e=>h y (qG _ e);have f:=h x qN;omega
 exact c _ λx b=>by
  obtain⟨l,d,b⟩:=vo.1 b;exact h l d x b
theorem Me{m:aG}{live set:aC}{w:Pow}{ds:aJ}{x:jC}(F:nL m live x)(E:ii x.got<64):nL m live (fb m live set w ds x).2.2.2/\((fb m live set w ds x).1=0->∃s,s∈live/\(fb m live set w ds x).2.2.2=x.De (eU x.W) (gm live s) s)/\((fb m live set w ds x).1≠0->(fb m live set w ds x).2.2.2=x):=by
 unfold fb;dsimp only;obtain⟨r,q⟩:∃r,r=gG m live set (fy x.o x.b live) (dG (x.Ol m (eU x.W))) (eU x.W) w ds (qy (fy x.o x.b live).length):=⟨_,rfl⟩
 rw[<-q];by_cases h:r.1.1=0
 ·rw[f9 h];obtain⟨i,n,d,G,D,h3,p⟩:=Mc (by rw[<-q];exact h);rw[<-q]at p;have n:=qJ.1 n;have y:gj (fy x.o x.b live) ((eU x.W:Int)+i)∈live:=Fw (PY (by intro h;rw[h]at n;simp at n));have A:r.2.1=gm live (gj (fy x.o x.b live) ((eU x.W:Int)+i)):=by rw[p]
  have v:r.2.2=gj (fy x.o x.b live) ((eU x.W:Int)+i):=by rw[p]
  refine⟨?_,λ_=>⟨_,y,by rw[A,v]⟩,λt=>absurd h t⟩;have g:(x.De (eU x.W) r.2.1 r.2.2).got.length=ii x.got+1:=by simp[jC.De]
  have c:∀l∈(x.De (eU x.W) r.2.1 r.2.2).W,l∈x.W∨l=x.W.getD r.2.1.toNat []++[(eU x.W:Int)]:=λl j=>zS j;have a:∀k,x.W.getD k []∈x.W∨x.W.getD k []=[]:=λk=>by
   by_cases u:k<ii x.W
   ·rw[fu [] u];exact .inl (qg u)
   ·exact .inr (by rw[qe,qQ i4];rfl)
  have B:=Vn x.W;have H:=F.top;refine⟨F.seed,F.ev,F.ml,by show(x.W.set _ _).length=_;rw[zh];exact F.wl,λl j=>?_,?_,i4,λs f=>?_⟩
  ·rw[g];rcases c l j with h|rfl
   ·have:=F.rl l h;omega
   ·rw[qx,List.length_singleton];rcases a r.2.1.toNat with h|h
    ·have:=F.rl _ h;omega
    ·rw[h,List.length_nil];omega
  ·rw[g];refine VA λl j z e=>?_;rcases c l j with h|rfl
   ·have:=PS (vo.2 ⟨l,h,e⟩);omega
   ·rcases qA.1 e with e|e
    ·rcases a r.2.1.toNat with h|h
     ·have:=PS (vo.2 ⟨_,h,e⟩);omega
     ·rw[h]at e;cases e
    ·rw[qC.1 e];omega
  ·have f:s∈x.got++[r.2.2]:=f;rcases qA.1 f with h|h
   ·exact F.gi s h
   ·rw[qC.1 h,v];exact y
 ·rw[g0 h];exact⟨F,λt=>absurd t h,λ_=>rfl⟩
theorem adq(p:Pm)(seed:Int)(W:ct)(t:Int):(gF p seed W t).1.length<=64:=by
 unfold gF;split
 ·split
  ·split
   ·exact zt _
   ·rename_i h _;split
    ·rename_i g a;obtain⟨y,b,rfl⟩:=qu.1 (List.mem_of_find?_eq_some a);dsimp only;rw[lC,(ED b).1];omega
    ·exact zt _
  ·exact zt _
 ·exact zt _
end Wl
namespace Go.Qw
open Go Go.Vc Go.Proofs Wl
section
variable {B:aD} {h0 h:f8} {As:List HP} {a pw:eX} {offs:Int} {da:List aO} {w:Pow} {ds:aJ} {m:aG}
theorem aak{c b O:eX}(y:bU)(D:Sl)(live:aC)(t most k:Int)(x:jC)(hm:bS m=eL)(hp:bP m.p=eL)(hl:ii live<=64)(N:∀k∈live,∃d,bh ds k=dB d)(hk:0<=k/\k<=2^39)(F:nL m live x)(J:x.got=[])(K:0<=most/\most<=64)
  (hS:St B h0 As λh=>df h y m/\Rd h D 1 av live/\AY h O m.p x.seed x.M)
  (H:aa B h0 h (bB a pw da offs w ds m::au c 109 (cU a y D t most k)::sk b O x::As)):
  ac xB 127 #[xt (dB c),xt (dB b)] h λv h'=>v=xq xx (dF m live t most 65 w ds x).1/\
   aa B h0 h' (bB a pw da offs (dF m live t most 65 w ds x).2.1 (dF m live t most 65 w ds x).2.2.1 m::au c 109 (cU a y D t most (k+(dF m live t most 65 w ds x).2.2.2.got.length))::sk b O (dF m live t most 65 w ds x).2.2.2::As):=by
 refine Bq (dB c) (dB b) ?_;unfold pJ;obtain⟨G,hG⟩:∃G,G=dF m live t most 65 w ds x:=⟨_,rfl⟩
 rw[<-hG];refine aA (λ_:Nat×Pow×aJ×jC=>()) (λz h'=>z.1+ii z.2.2.2.got=65/\(ii z.2.2.2.got:Int)<=most/\G=dF m live t most z.1 z.2.1 z.2.2.1 z.2.2.2/\nL m live z.2.2.2/\z.2.2.2.seed=x.seed/\z.2.2.2.M=x.M/\(∀k∈live,∃d,bh z.2.2.1 k=dB d)/\
  aa B h0 h' (bB a pw da offs z.2.1 z.2.2.1 m::au c 109 (cU a y D t most (k+ii z.2.2.2.got))::sk b O z.2.2.2::As)) (λz=>z.1) (65,w,ds,x) i0 ⟨by rw[J];rfl,by rw[J];exact K.1,hG,F,i0,i0,N,by rw[J];show aa B h0 h (_::au c _ (cU a y D t most (k+0))::_);rw[Int.add_zero];exact H⟩ ?_
 rintro⟨f,w1,n,j⟩ h1 ⟨hf,a1,g,I,es,eM,i,E⟩;dsimp only at hf a1 g I es eM i E⊢;obtain⟨f',rfl⟩:∃f',f=f'+1:=⟨f-1,i4⟩
 have S:=E.box 1 i0;obtain⟨wS,gS,H2⟩:=JP (E.aX 3 [2,0,1]);have U:=H2.box 2 i0;have am:fR h1 wS 1 av j.W:=aa.FH (H2.aX 2 [1,0]) λ_=>rfl;have ax:dW (bO (cF 1 av) 1 bw) h1 wS j.W:=by obtain⟨rs,q1,q2,q3⟩:=am;exact⟨rs,q1,q2,q3⟩
 obtain⟨hy,a3,hM⟩:=(hS.cons.cons.cons).here E;have ao:y.2.2.1=m.p.1:=congrArg (·.1) hy.p;have ap:y.2.2.2.1=m.p.2.1:=congrArg (·.2.1) hy.p;have a0:y.2.2.2.2.1=m.p.2.2:=congrArg (·.2.2) hy.p;have ah:aq h1 ((c.add 1).add 2) 0 [xq xx m.p.1,xq xx m.p.2.1,xq xx m.p.2.2]:=by rw[addr_add,<-ao,<-ap,<-a0];exact S.cells 3 _ i0
 refine⟨c,i0,m.p,ah,b,i0,j.seed,U.cell i0,b,i0,wS,U.cell i0,c,i0,t,S.cell i0,?_⟩;refine(Cp m.p j.seed wS j.W t h1 ax (by rw[I.wl];omega) (λl hl=>by have:=I.rl l hl;have:=I.gl;omega) (vW _)).mono ?_;rintro _ h2 ⟨r,rfl,R2⟩;obtain⟨q,Z⟩:∃q,q=gF m.p j.seed j.W t:=⟨_,rfl⟩
 rw[<-Z]at R2⊢;rw[dF]at g;dsimp only at g;rw[<-Z]at g;have V:=E.up R2.aj;refine⟨(r,q.2.1,q.2.2),i0,trivial,?_⟩;dsimp only;refine cb (λe=>?_) λe=>?_
 ·rw[f9 e]at g;rw[g];exact⟨i0,V⟩
 rw[g0 λh=>h e]at g;refine bo (λe1=>?_) λe1=>?_
 ·rw[f9 e1]at g;rw[g];exact⟨i0,V⟩
 rw[g0 n4]at g;obtain⟨a2,ad,H4⟩:=JP (V.aX 3 [2,0,1]);have X:=H4.box 2 i0;have u:=(H4.own 0 i0).len;have Y:=V.box 1 i0;refine⟨b,i0,ad,X.cell i0,c,i0,most,Y.cell i0,ai (λT=>?_) λT=>?_⟩
 ·rw[u]at T;rw[f9 T]at g;rw[g];exact⟨i0,V⟩
 rw[u]at T;rw[g0 T]at g;have H5:aa B h0 h2 (bB a pw da offs w1 n m::au c 109 (cU a y D t most (k+ii j.got))::sk b O j::EA (cF 1 av) r q.1::As):=(E.co R2).aX 4 [1,2,3,0];have ay:ii q.1<=2^20:=by have:=adq m.p j.seed j.W t;rw[Z];omega
 have ar:St B h0 (EA (cF 1 av) r q.1::As) λh=>df h y m/\Rd h D 1 av live/\Rd h r 1 av q.1/\AY h O m.p j.seed j.M:=λBs h' H'=>by
  obtain⟨z1,z2,z3⟩:=hS.cons Bs h' H';rw[es,eM];exact⟨z1,z2,(St.dS (A:=EA (cF 1 av) r q.1) (Q:=λh=>Rd h r 1 av q.1) 0 i0 λh' Z=>Z) Bs h' H',z3⟩
 refine(ado y D r live q.1 t most (k+ii j.got) j hm hp hl i (by have:=I.gl;omega) I ay ar H5).mono ?_;rintro _ h6 ⟨rfl,o⟩;obtain⟨g1,g2,g3⟩:=Me (set:=q.1) (w:=w1) (ds:=n) I i4;have R:∀k∈live,∃d,bh (fb m live q.1 w1 n j).2.2.1 k=dB d:=λk hk=>Md (P:=λk=>k∈live) (nJ E).1 i k hk;obtain⟨Q,hQ⟩:∃Q,Q=fb m live q.1 w1 n j:=⟨_,rfl⟩
 rw[<-hQ]at o g1 g2 g3 R g⊢;have o:=o.aX 4 [0,1,2];refine⟨_,i0,cb (λL=>?_) λL=>?_⟩
 ·rw[f9 L]at g;rw[g];refine⟨i0,?_⟩;rw[g0 L]at o;rw[g3 L]at o⊢;exact o
 ·rw[g0 λh=>h L]at g;rw[f9 L]at o;obtain⟨s,hs,eg⟩:=g2 L;have ab:ii Q.2.2.2.got=ii j.got+1:=by rw[eg];simp[jC.De]
  refine⟨(f',Q.2.1,Q.2.2.1,Q.2.2.2),i0,⟨?_,?_,g,g1,?_,?_,R,?_⟩,i6⟩
  ·dsimp only;omega
  ·dsimp only;omega
  ·dsimp only;rw[eg];exact es
  ·dsimp only;rw[eg];exact eM
  ·dsimp only;rw[ab,Int.natCast_add,<-Int.add_assoc];exact o
end
end Go.Qw
namespace Wl
open Go
structure Pg where
 seq:Int
 num:Int
 many:Int
 bears:bf
 cell:bf
def ajv(x c:bf):Pg:=⟨dC (x.take 4),((x.getD 4 0).toNat:Int),((x.getD 5 0).toNat:Int),(x.drop 7).take (x.getD 6 0).toNat,c⟩
def uA(c:bf):Option Pg:=
 match fz c with
 |some (k,x)=>if k=2/\(x.getD 6 0).toNat<=48/\(x.drop (7+(x.getD 6 0).toNat)).all (λb=>decide (b=0))=eL then dB (ajv x c)else eH
 |none=>eH
theorem aal{seq c a:Int}{b:bf}(h:0<=seq/\seq<4294967296)(q:0<=c/\c<256)(h3:0<=a/\a<256)(r:ii b<=48):uA (kF seq c a b)=dB ⟨seq,c,a,b,kF seq c a b⟩:=by
 have m:ii (ci seq 4++([b8 c,b8 a,b8 b.length]++b))=7+ii b:=m0
 obtain⟨x,e⟩:∃x,x=ci seq 4++([b8 c,b8 a,b8 b.length]++b)++qh (55-ii (ci seq 4++([b8 c,b8 a,b8 b.length]++b))) 0:=⟨_,rfl⟩
 have k:fz (kF seq c a b)=dB (2,x):=by unfold kF;rw[BM,e]
 have d:=MB seq;have f:x.getD 6 0=b8 b.length:=sb
 have n:x.getD 5 0=b8 a:=sb
 have j:x.getD 4 0=b8 c:=sb
 have o:x.take 4=ci seq 4:=sb
 have i:x.drop 7=b++qh (55-(7+ii b)) 0:=by rw[e,m,d];rfl
 have g:((b8 (ii b:Int)).toNat)=ii b:=by have:=ri (ii b:Int);omega
 unfold uA;rw[k];dsimp only;have l:(b8 (ii b:Int)).toNat<=48:=i4
 rw[f9 ⟨i0,by rw[f];exact l,by
  rw[f,g,<-List.drop_drop,i,List.drop_left];exact q9.2 λy p=>g9 (List.eq_of_mem_replicate p)⟩]
 unfold ajv;rw[o,j,n,f,i,Qm h.1 h.2,g,vK];have:=ri c;have:=ri a;congr 2<;>omega
def pgN(m:aG)(i:Nat):Pg:=⟨m.seq,i,iI (gW m),((gW m).drop (48*i)).take 48,kF m.seq i (iI (gW m)) (((gW m).drop (48*i)).take 48)⟩
theorem Rq(m:aG):bu m=(qy (iI (gW m))).map λi=>(pgN m i).cell:=rfl
theorem ahQ{m:aG}(a:bS m=eL):iI (gW m)<=9:=by
 have:=Go.Qw.ajl a;unfold bu at this
 rwa [qz,List.length_range]at this
theorem aam{m:aG}(a:bS m=eL){i:Nat}(b:i<iI (gW m)):uA (pgN m i).cell=dB (pgN m i):=by have c:=ahQ a;have d:=((fF m).1 ((cD m).1 a).1).1;exact aal ⟨i4,i4⟩ ⟨i4,i4⟩ ⟨i4,i4⟩ i7
section
variable {p:Int×Int×Int} {seed:Int} {d:Row} {K H w n:Nat}
end
theorem Xr{n:Nat}{A:aP}(l:bc n A)(d:ce A=n){y:Nat->UInt8}(v:∀r∈A,bW (λj=>aQ r j) y n=0):∀i,i<n->y i=0:=by
 intro i o;let Y:aP:=(qy n).map λc=>[y c]
 have p:bc 1 (qh A.length (aM 1)):=λr d=>by rw[(w7.1 d).2];rfl
 have a:ii A=ii (qh A.length (aM 1)):=i9
 have e:∀j,j<ii A->aE (qh A.length (aM 1)) j=aM 1:=λj g=>by rw[bE m4];simp
 have f:∀z:Nat->UInt8,(∀r∈A,bW (λj=>aQ r j) z n=0)->fI n 1 A (qh A.length (aM 1)) ((qy n).map λc=>[z c]):=λz q=>by
  have b:bc 1 ((qy n).map λc=>[z c]):=λr d=>by obtain⟨c,_,rfl⟩:=qu.1 d;rfl
  refine⟨i9,b,λj g=>?_⟩;rw[e j g];refine eK (n:=1) (iS b i9 _ n (qm _)) i0 λk w=>?_;obtain rfl:k=0:=i4
  rw[ic b i9 _ 0 n (qm _),cC,<-q _ (mem_row g)];refine ga n (λ_ _=>rfl) λc s=>?_;rw[bE (by simpa using s)];simp[aQ]
 have u:=(mw a l p d (f (λ_=>0) λr _=>dot_zero' r n)).1;have t:=(mw a l p d (f y v)).1;have h:aQ (aE ((qy n).map λc=>[y c]) i) 0=aQ (aE ((qy n).map λ_=>[(0:UInt8)]) i) 0:=congrArg (λm=>aQ (aE m i) 0) (t.trans u.symm);rw[bE m5,bE m5]at h;simpa[aQ]using h
where
 dot_zero' (r:Row):∀n,bW (λj=>aQ r j) (λ_=>(0:UInt8)) n=0
  |0=>rfl
  |n+1=>by rw[bW,dot_zero' r n,Gf.mul_zero];rfl
section
variable {p:Int×Int×Int} {seed:Int} {d:Row} {K H w n:Nat}
theorem ahR{b d:aC}(h:∀i∈b,i∈d):∀r∈dR p seed b,r∈dR p seed d:=λr a=>by
 unfold dR at*;cases hm:bP p
 ·rw[hm]at a;simp at a
 ·rw[hm,f9 rfl,qA]at a;rw[f9 i0,qA];rcases a with a|a
  ·exact .inl a
  ·obtain⟨i,c,rfl⟩:=qu.1 a;rw[qI]at c;exact .inr (qu.2 ⟨i,qI.2 ⟨h i c.1,c.2⟩,i0⟩)
theorem ads(e:bP p=eL){a b:aC}(h:∀i∈a,i∈b)(g:gC p seed a=eL):gC p seed b=eL:=by
 have d:=(Jb e).1 g;refine(Jb e).2 ?_;have j:=lQ (jP p seed b);by_cases c:ce (dR p seed b)<(bK p).toNat
 ·exfalso;obtain⟨y,⟨i,f,l⟩,k⟩:=kernel (jP p seed b) c;exact l (Xr (jP p seed a) d (λr d=>k r (ahR h r d)) i f)
 ·omega
end
end Wl
namespace Go.Qw
open Go Go.Vc Go.Proofs Wl
theorem mi(a b:dm):oV a b=eL↔a.object=b.object/\a.block=b.block/\a.id=b.id:=by unfold oV;rw[decide_eq_true_eq]
theorem Yl{l:List dm}{i:Nat}(a:i<ii l)(b:rj l i=eL):l[i]∈rk l:=by unfold rk;exact qu.2 ⟨i,qI.2 ⟨qJ.2 a,b⟩,fu _ a⟩
theorem afG{l:List dm}{r:dm}(h:r∈l):∃c∈rk l,oV c r=eL:=by
 have e:∀i (a:i<ii l),∃c∈rk l,oV c l[i]=eL:=by
  intro i
  induction i with
  |zero=>intro a;exact⟨l[0],Yl a (by unfold rj;simp),(mi _ _).2 ⟨i0,i0,i0⟩⟩
  |succ i ih=>
   intro a;cases hk:rj l (i+1)with
   |true=>exact⟨_,Yl a hk,(mi _ _).2 ⟨i0,i0,i0⟩⟩
   |false=>
    obtain⟨c,f,d⟩:=ih i4;unfold rj at hk;rw[Bool.or_eq_false_iff,Bool.not_eq_false']at hk;have b:=hk.2;rw[Nat.add_sub_cancel,fu _ a,fu _ (show i<ii l by omega)]at b;rw[mi]at d b;exact⟨c,f,(mi _ _).2 ⟨by rw[d.1,b.1],by rw[d.2.1,b.2.1],by rw[d.2.2,b.2.2]⟩⟩
 obtain⟨i,a,rfl⟩:=qK h;exact e i a
theorem jM{m:aG}{r:dm}:fh m r=eL↔jw r=eL/\r.p=m.p/\∃x∈m.aH,x.object=r.object/\r.block<(x.tries.length:Int)/\r.seed=cz r.object r.block (x.tries.getD r.block.toNat 0):=by unfold fh;rw[qB,qB,decide_eq_true_eq,wz];simp only[qB,decide_eq_true_eq]
theorem VB{m:aG}(e:bS m=eL){x y:Wl.cv}(d:x∈m.aH)(f:y∈m.aH)(h:x.object=y.object):x=y:=by
 have c:=zx.1 ((cD m).1 e).2.2.2.2.2.2;obtain⟨i,b,rfl⟩:=qK d;obtain⟨j,a,rfl⟩:=qK f;rcases Nat.lt_trichotomy i j with hl|rfl|hl
 ·exact absurd h (c i j b a hl)
 ·rfl
 ·exact absurd h.symm (c j i a b hl)
def jc(m:aG)(C:Int->bf)(o b:Int):bf:=(splitB m.p (C o)).getD b.toNat []
def Fx(m:aG)(C:Int->bf)(r:dm):Prop:=r.data=uO m.p r.seed (jc m C r.object r.block) r.id
theorem afH{m:aG}{C:Int->bf}{r a:dm}(u:bS m=eL)(p:fh m r=eL)(k:fh m a=eL)(f:Fx m C r)(g:Fx m C a)(h:oV a r=eL):a=r:=by
 obtain⟨_,i,n,d,w,_,q⟩:=jM.1 p;obtain⟨_,l,x2,c,t,_,v⟩:=jM.1 k;rw[mi]at h;obtain⟨b,e,j⟩:=h;have o:n=x2:=VB u d c (by rw[w,t,b]);subst o;have s:a.seed=r.seed:=by rw[q,v,b,e]
 unfold Fx at f g;cases r;cases a;simp only at*;subst b e j s;rw[i,l,f,g]
structure dM (m:aG) (C:Int->bf) (c:bf):Prop where
 old:∀r,eC c=dB r->r.object<m.next
 tru:∀r,eC c=dB r->fh m r=eL->Fx m C r
 page:∀g,uA c=dB g->g.seq<=m.seq/\(g.seq=m.seq->c∈bu m)
theorem Fy{m:aG}{C:Int->bf}{l:cL}(p:bS m=eL)(k:∀c∈l,dM m C c){c:bf}(h:c∈l){r:dm}(i:eC c=dB r)(d:fh m r=eL):r∈eZ m l:=by have a:r∈(l.filterMap (jq m)).mergeSort sq:=List.mem_mergeSort.2 (List.mem_filterMap.2 ⟨c,h,by unfold jq;rw[i];dsimp only;rw[f9 d]⟩);obtain⟨j,g,o⟩:=afG a;obtain⟨n,e,f,b⟩:=xP (m:=m) (l:=l) (r:=j) g;have:=afH p d b ((k c h).tru r i d) ((k n e).tru j f b) o;rw[<-this];exact g
theorem nM{m:aG}{l:cL}{r:dm}(h:r∈eZ m l):dG r∈l/\eC (dG r)=dB r/\fh m r=eL:=by obtain⟨c,b,a,d⟩:=xP h;rw[(YP a).1];exact⟨b,a,d⟩
theorem JQ{n:aG}(C:Int->bf){c:bf}(e:bS n=eL)(h:c∈bu n):dM n C c:=by
 have h0:=tJ h;refine⟨λr a=>(by rw[h0]at a;cases a),λr a _=>(by rw[h0]at a;cases a),λg b=>?_⟩;rw[Rq]at h;obtain⟨i,d,rfl⟩:=qu.1 h;rw[aam e (qJ.1 d)]at b;injection b with b
 subst b;exact⟨vW _,λ_=>by rw[Rq];exact qu.2 ⟨i,d,i0⟩⟩
theorem PZ{m:aG}{C:Int->bf}{l:cL}(d:bS m=eL)(b:∀c∈l,dM m C c):∀c∈ck m l,dM m C c:=λc a=>by
 rcases qA.1 a with h|h
 ·exact JQ C d h
 ·obtain⟨r,e,rfl⟩:=qu.1 h;exact b _ (nM e).1
theorem Qa{m:aG}{C:Int->bf}{d:bt}{N:Int}(e:bS m=eL)(b:∀c∈d.l,dM m C c):∀c∈(dD m d N).l,dM m C c:=λc a=>by
 unfold dD at a;split at a
 ·exact b c a
 ·exact PZ e b c a
theorem Ow{r:dm}(h:jw r=eL):uA (dG r)=eH:=by have a:=px h;unfold uA dG;rw[f9 h,BM];dsimp only;rw[g0 (by rintro⟨h,_⟩;exact absurd h i5)]
theorem aan{m n:aG}{C D:Int->bf}{o b:Int}(a:n.p=m.p)(h:D o=C o):jc n D o b=jc m C o b:=by unfold jc;rw[a,h]
theorem Fx.congr{m n:aG}{C D:Int->bf}{r:dm}(a:n.p=m.p)(b:D r.object=C r.object)(h:Fx m C r):Fx n D r:=by unfold Fx at h⊢;rw[aan a b,a];exact h
theorem aao{m n:aG}{r:dm}(e:n.p=m.p)(a:∀x∈n.aH,x∈m.aH)(h:fh n r=eL):fh m r=eL:=by obtain⟨d,c,x,b,h3⟩:=jM.1 h;exact jM.2 ⟨d,by rw[c,e],x,a x b,h3⟩
theorem dM.next{m n:aG}{C:Int->bf}{c:bf}(h:dM m C c)(d:n.p=m.p)(k:m.next<=n.next)(j:m.seq<n.seq)(a:∀x∈n.aH,x∈m.aH):dM n C c:=
 ⟨λr b=>by have:=h.old r b;omega,λr b i=>(h.tru r b (aao d a i)).congr d i0,λg f=>by have:=(h.page g f).1;exact⟨i4,λe=>i4⟩⟩
def tw(C:Int->bf)(o:Int)(b:bf):Int->bf:=λk=>if k=o then b else C k
theorem dM.with{m:aG}{C:Int->bf}{e:Wl.cv}{b c:bf}(h:dM m C c)(o:e.object=m.next):dM (iJ m e) (tw C m.next b) c:=by
 refine⟨λr a=>?_,λr a n=>?_,λg k=>?_⟩
 ·have:=h.old r a;show r.object<m.next+1;omega
 ·have j:=h.old r a;obtain⟨l,f,x,d,h3,i⟩:=jM.1 n;rcases LU.1 d with d|rfl
  ·refine(h.tru r a (jM.2 ⟨l,f,x,d,h3,i⟩)).congr (m:=m) i0 ?_;unfold tw;rw[g0 i4]
  ·omega
 ·have:=(h.page g k).1;show g.seq<=m.seq+1/\(g.seq=m.seq+1->_)
  exact⟨i4,λe=>i4⟩
theorem ajx{m:aG}{C:Int->bf}{e:Wl.cv}{b:bf}{seed:Int}{i id:Nat}(d:0<=seed/\seed<4294967296)(c:jw (ox m m.next i seed ((splitB m.p b).getD i []) id)=eL):
  dM (iJ m e) (tw C m.next b) (dG (ox m m.next i seed ((splitB m.p b).getD i []) id)):=by
 have a:=Hl c d;refine⟨λr h=>?_,λr h j=>?_,λg h=>?_⟩
 ·rw[a]at h;injection h with h;subst h
  show m.next<m.next+1;omega
 ·rw[a]at h;injection h with h;subst h
  have f:jc (iJ m e) (tw C m.next b) m.next (i:Int)=(splitB m.p b).getD i []:=by unfold jc tw;rw[f9 i0,ql];rfl
  show uO m.p seed ((splitB m.p b).getD i []) id=uO (iJ m e).p seed (jc (iJ m e) (tw C m.next b) m.next (i:Int)) id;rw[f];rfl
 ·rw[Ow c]at h;cases h
structure gA (m:aG) (C:Int->bf) (ds:aJ):Prop where
 may:bS m=eL
 len:ds.length=64
 cells:∀k d,bh ds k=dB d->∀c∈d.l,dM m C c
 ents:∀e∈m.aH,((C e.object).length:Int)=e.length/\di m.p e.object (splitB m.p (C e.object)).length=dB e.tries
theorem gA.old{m:aG}{C:Int->bf}{ds:aJ}(S:gA m C ds){e:Wl.cv}(a:e∈m.aH):e.object<m.next:=((ig m e).1 (((cD m).1 S.may).2.2.2.2.1 e a)).2.1.2
theorem VC{ds b:aJ}{f:Int->bt->bt}(h:∀k,bh b k=(bh ds k).map (f k)){k:Int}{d:bt}(a:bh b k=dB d):∃c,bh ds k=dB c/\d=f k c:=by
 rw[h]at a;cases h0:bh ds k with
 |none=>rw[h0]at a;cases a
 |some c=>rw[h0]at a;injection a with a;exact⟨c,i0,a.symm⟩
theorem Ym{n:aG}{C:Int->bf}{b:cL}{d:bt}(f:∀c∈d.l,dM n C c)(e:∀c∈b,dM n C c):∀c∈(eI b d).l,dM n C c:=λc a=>by
 rw[acB]at a;rcases qA.1 a with h|h
 ·exact f c h
 ·exact e c h
def JR(m:aG)(ds:aJ)(t:aC)(b:bf)(n:aG)(k:Int)(d:bt):bt:=
 if k∈aT ds m.drives then eI ((lW m m.next t (splitB m.p b) (aT ds m.drives) k (splitB m.p b).length).map dG++bu n) (dD m d (kX (bu n).length (dV m m.next t (splitB m.p b) (aT ds m.drives) (splitB m.p b).length) k))else d
theorem ahS{m:aG}{offs:Int}{w:Pow}{ds:aJ}{C:Int->bf}{name:ByteArray}{b:bf}(G:w.calm)(S:gA m C ds):
  ((∃e,e≠0/\iH m offs w ds name b=(e,m,w,ds))/\((iH m offs w ds name b).1=eT m (eF w offs) ds name b.length∨(eT m (eF w offs) ds name b.length=0/\((iH m offs w ds name b).1=8/\di m.p m.next (splitB m.p b).length=eH∨(iH m offs w ds name b).1=7/\∃t,di m.p m.next (splitB m.p b).length=dB t/\dP m ds (aT ds m.drives) (kX (bu (iJ m ⟨name,m.next,b.length,t⟩)).length (dV m m.next t (splitB m.p b) (aT ds m.drives) (splitB m.p b).length))=eR))))∨
  (eT m (eF w offs) ds name b.length=0/\∃t a,di m.p m.next (splitB m.p b).length=dB t/\iH m offs w ds name b=(0,iJ m ⟨name,m.next,b.length,t⟩,w,a)/\gA (iJ m ⟨name,m.next,b.length,t⟩) (tw C m.next b) a/\
   ∀k,bh a k=(bh ds k).map (JR m ds t b (iJ m ⟨name,m.next,b.length,t⟩) k)):=by
 obtain⟨B,F⟩:=acC (offs:=offs) (name:=name) (b:=b) G S.len S.may;by_cases f:eT m (eF w offs) ds name b.length=0
 ·obtain⟨H,I⟩:=F f;cases ht:di m.p m.next (splitB m.p b).length with
  |none=>rw[H ht];exact .inl ⟨⟨8,i5,i0⟩,.inr ⟨f,.inl ⟨i0,i0⟩⟩⟩
  |some t=>
   obtain⟨g,x,y⟩:=I t ht;cases hf:dP m ds (aT ds m.drives) (kX (bu (iJ m ⟨name,m.next,b.length,t⟩)).length (dV m m.next t (splitB m.p b) (aT ds m.drives) (splitB m.p b).length))with
   |false=>rw[x hf];exact .inl ⟨⟨7,i5,i0⟩,.inr ⟨f,.inr ⟨i0,t,i0,hf⟩⟩⟩
   |true=>
    obtain⟨a,u,A,z⟩:=y hf;have j:∀k,bh a k=(bh ds k).map (JR m ds t b (iJ m ⟨name,m.next,b.length,t⟩) k):=z;refine .inr ⟨f,t,a,i0,u,⟨g,A,λk d v=>?_,λe n=>?_⟩,j⟩
    ·obtain⟨s,h0,rfl⟩:=VC j v;unfold JR;split
     ·refine Ym (λc l=>(Qa S.may (S.cells k s h0) c l).with i0) λc l=>?_;rcases qA.1 l with h|h
      ·obtain⟨r,o,rfl⟩:=qu.1 h;obtain⟨i,id,rfl,D,hid⟩:=ZJ o;obtain⟨K,J,z3,z4,z5⟩:=se f;have q:=((fF m).1 ((cD m).1 S.may).1)
       have h8:=PP q.2.2.1 λh=>z4 (.inl h);exact ajx (oQ _ _ _) (Yg S.may (by have:¬16777215<m.next:=λh=>z5 (.inr (.inl h));omega) h8 ht D hid)
      ·exact JQ _ g h
     ·exactλc l=>(S.cells k s h0 c l).with i0
    ·rcases LU.1 n with n|rfl
     ·have E:=S.old n;have:tw C m.next b e.object=C e.object:=by unfold tw;rw[g0 i4]
      rw[this];exact S.ents e n
     ·have:tw C m.next b m.next=b:=by unfold tw;rw[f9 rfl]
      show((tw C m.next b m.next).length:Int)=(b.length:Int)/\di m.p m.next (splitB m.p (tw C m.next b m.next)).length=dB t;rw[this];exact⟨i0,ht⟩
 ·rw[B f];exact .inl ⟨⟨_,f,i0⟩,.inl i0⟩
theorem aap{m n:aG}{offs:Int}{w:Pow}{ds:aJ}{C:Int->bf}(D:w.calm)(S:gA m C ds)(y:eF w offs=eR)(j:bS n=eL)(E:n.seq=m.seq+1)(o:n.p=m.p)(u:m.next<=n.next)(a:∀x∈n.aH,x∈m.aH):
  ((aT ds n.drives=[]∨dP m ds (aT ds n.drives) (λ_=>(ii (bu n):Int))=eR)/\db m offs w ds n=(7,m,w,ds))∨
  ((aT ds n.drives≠[]/\dP m ds (aT ds n.drives) (λ_=>(ii (bu n):Int))=eL)/\∃b,db m offs w ds n=(0,n,w,b)/\gA n C b/\
   ∀k,bh b k=(bh ds k).map λd=>if k∈aT ds n.drives then eI (bu n) (dD m d (bu n).length)else d):=by
 obtain⟨A,B⟩:=Vh (m:=m) (n:=n) (offs:=offs) (w:=w) (ds:=ds) D S.len y j E;by_cases i:aT ds n.drives=[]∨dP m ds (aT ds n.drives) (λ_=>(ii (bu n):Int))=eR
 ·exact .inl ⟨i,A i⟩
 ·have t:aT ds n.drives≠[]:=λh=>i (.inl h);have q:dP m ds (aT ds n.drives) (λ_=>(ii (bu n):Int))=eL:=by
   cases h:dP m ds (aT ds n.drives) (λ_=>(ii (bu n):Int))with
   |false=>exact absurd (.inr h) i
   |true=>rfl
  obtain⟨b,v,z,s⟩:=B t q;refine .inr ⟨⟨t,q⟩,b,v,⟨j,z,λk d l=>?_,λe F=>?_⟩,s⟩
  ·obtain⟨r,h0,rfl⟩:=VC (f:=λk d=>if k∈aT ds n.drives then eI (bu n) (dD m d (bu n).length)else d) s l;split
   ·exact Ym (λc g=>(Qa S.may (S.cells k r h0) c g).next o u i4 a) λc g=>JQ C j g
   ·exactλc g=>(S.cells k r h0 c g).next o u i4 a
  ·have:=S.ents e (a e F);rw[o];exact this
end Go.Qw
namespace Wl
open Go Go.Qw Go.Vc
noncomputable def Jd(m:aG)(ds:aJ)(o:Int)(tries:aC)(k:Nat):bf×Int:=mC m.p (cz o k (tries.getD k 0)) (fN m ds (aT ds m.drives) o k)
def JS(m:aG)(ds:aJ)(o b:Int):aC:=(fN m ds (aT ds m.drives) o b).map qH
end Wl
namespace Go.Qw
open Go Go.Vc Go.Proofs Wl
section
variable {m:aG} {C:Int->bf} {ds:aJ} {offs:Int} {w:Pow}
theorem Fz{o b k:Int}{x:Int×bf}(h:x∈iQ m ds o b k):∃d r,bh ds k=dB d/\r∈eZ m d.l/\r.object=o/\r.block=b/\x=(r.id,r.data):=by
 unfold iQ at h;cases hd:bh ds k with
 |none=>rw[hd]at h;cases h
 |some d=>
  rw[hd]at h;unfold Ed at h;obtain⟨r,e,rfl⟩:=qu.1 h;obtain⟨c,a⟩:=qI.1 e;rw[qB,decide_eq_true_eq,decide_eq_true_eq]at a;exact⟨d,r,i0,c,a.1,a.2,i0⟩
theorem gA.entry(S:gA m C ds){e:Wl.cv}(a:e∈m.aH):ib m e=eL:=((cD m).1 S.may).2.2.2.2.1 e a
theorem gA.VD(S:gA m C ds):bP m.p=eL:=((fF m).1 ((cD m).1 S.may).1).2.2.1
theorem gA.blocks(S:gA m C ds){e:Wl.cv}(a:e∈m.aH):(splitB m.p (C e.object)).length=e.tries.length:=(kV (S.ents e a).2).symm
theorem gA.fY(S:gA m C ds){e:Wl.cv}(a:e∈m.aH){k:Nat}(b:k<e.tries.length):∃K H w n,cw m.p (cz e.object k (e.tries.getD k 0)) (jc m C e.object k) K H w n:=by have h:=Yf S.VD (S.ents e a).2 (i:=k) (by rw[S.blocks a];exact b);unfold jc;rw[ql];exact h
theorem gA.sym(S:gA m C ds){e:Wl.cv}(v:e∈m.aH){k:Nat}(z:k<e.tries.length){s:Int}{x:Int×bf}(h:x∈iQ m ds e.object k s):
  bZ x.1=eL/\x.2=fW m.p.2.2.toNat (dv m.p (cz e.object k (e.tries.getD k 0)) (jc m C e.object k)) (dz (bK m.p).toNat (cz e.object k (e.tries.getD k 0)) x.1):=by
 obtain⟨d,r,l,q,b,g,rfl⟩:=Fz h;obtain⟨n,u,i⟩:=nM q;obtain⟨o,A,y,w,t,_,j⟩:=jM.1 i;have c:y=e:=VB S.may w v (by rw[t,b]);subst c;have hid:=((lm r).1 o).2.2.1;have a:bZ r.id=eL:=by unfold bZ;simp;omega
 have f:=(S.cells s d l _ n).tru r u i;unfold Fx at f;rw[b,g]at f;rw[b,g,ql]at j;refine⟨a,?_⟩;show r.data=_;rw[f,j];unfold uO;rw[f9 a]
theorem Ox{α β:Type}{f:α->β}:∀{l:List (α×β)},(∀x∈l,x.2=f x.1)->l=(l.map qH).map λi=>(i,f i)
 |[],_=>rfl
 |x::l,h=>by
  have b:=h x qN;have a:=Ox (l:=l) λy c=>h y (qG _ c);rw[yG,yG,<-a,<-b]
theorem gA.syms(S:gA m C ds){e:Wl.cv}(f:e∈m.aH){k:Nat}(d:k<e.tries.length)(bV:aC):
  fN m ds bV e.object k=mD m.p (cz e.object k (e.tries.getD k 0)) (dv m.p (cz e.object k (e.tries.getD k 0)) (jc m C e.object k)) ((fN m ds bV e.object k).map qH)/\∀i∈(fN m ds bV e.object k).map qH,bZ i=eL:=by
 have b:∀x∈fN m ds bV e.object k,bZ x.1=eL/\x.2=fW m.p.2.2.toNat (dv m.p (cz e.object k (e.tries.getD k 0)) (jc m C e.object k)) (dz (bK m.p).toNat (cz e.object k (e.tries.getD k 0)) x.1):=λx a=>by
  unfold fN at a;obtain⟨s,_,a⟩:=List.mem_flatMap.1 a;exact S.sym f d a
 refine⟨Ox λx a=>(b x a).2,λi c=>?_⟩;obtain⟨x,a,rfl⟩:=qu.1 c;exact(b x a).1
theorem gA.Jd(S:gA m C ds){e:Wl.cv}(d:e∈m.aH){k:Nat}(c:k<e.tries.length):
  Wl.Jd m ds e.object e.tries k=if gC m.p (cz e.object k (e.tries.getD k 0)) (JS m ds e.object k)=eL then(jc m C e.object k,0)else([],9):=by
 obtain⟨K,H,w,n,B⟩:=S.fY d c;obtain⟨f,b⟩:=S.syms d c (aT ds m.drives);unfold Wl.Jd;rw[f];by_cases a:gC m.p (cz e.object k (e.tries.getD k 0)) (JS m ds e.object k)=eL
 ·rw[f9 a];exact B.dec b a
 ·rw[g0 a];refine afA B.may (B.Vy b) ?_;rw[Mb];exact eq_false_of_ne_true a
end
end Go.Qw
namespace Wl
open Go Go.Qw Go.Vc
end Wl
namespace Go.Qw
open Go Go.Vc Go.Proofs Wl
section
variable {B:aD} {h0 h:f8} {As:List HP} {a pw:eX} {offs:Int} {da:List aO} {w:Pow} {ds:aJ} {m:aG}
end
end Go.Qw
namespace Wl
open Go Go.Qw Go.Vc
noncomputable def fp(m:aG)(live:aC)(ds:aJ)(o:Int)(tries:aC)(i:Nat):Int×jC:=
 let seed:=cz o i (tries.getD i 0);let r:=mC m.p seed (fN m ds live o i)
 if r.2≠0 then(11,⟨o,i,seed,[],[],[]⟩)else if iW m.p seed r.1.length≠0 then(11,⟨o,i,seed,[],[],[]⟩)else(0,⟨o,i,seed,dv m.p seed r.1,de m ds o i (aT ds m.drives),[]⟩)
theorem adt{p:Pm}{seed:Int}{l:Nat}(h:iW p seed l=0):bP p=eL/\gC p seed (fV p)=eL/\(l:Int)=p.1*p.2.2:=by
 unfold iW at h;split at h
 ·rename_i a;rw[qB,decide_eq_true_eq]at a;split at h
  ·rename_i b;exact⟨a.1,b,a.2⟩
  ·cases h
 ·cases h
theorem FA{m:aG}{ds:aJ}{o b k:Int}(a:∀k d,bh ds k=dB d->ii d.l<=512):ii (iQ m ds o b k)<=512:=by
 unfold iQ;cases hd:bh ds k with
 |none=>exact zt _
 |some d=>exact zf (Oa m o b d.l) (a k d hd)
theorem adu{m:aG}{ds:aJ}{o b:Int}{live:aC}(e:ii live<=64)(a:∀k d,bh ds k=dB d->ii d.l<=512):ii (fN m ds live o b)<=64*512:=by unfold fN;exact zf (JL (c:=512) λj _=>FA a) (Nat.mul_le_mul_right _ e)
theorem adv{m:aG}{ds:aJ}{o b k:Int}{x:Int×bf}(h:x∈iQ m ds o b k):0<=x.1/\x.1<=65535:=by obtain⟨d,r,_,e,_,_,rfl⟩:=Fz h;obtain⟨_,_,_,c⟩:=xP e;have a:=(jM.1 c).1;unfold jw at a;rw[qB,qB,qB]at a;have:=a.1.2.2;unfold bZ at this;rw[qB,decide_eq_true_eq,decide_eq_true_eq]at this;exact this
theorem Je{m:aG}{ds:aJ}{o b:Int}{live l:aC}(h:l∈de m ds o b live):∃k∈live,l=(iQ m ds o b k).map qH:=by unfold de at h;obtain⟨k,a,rfl⟩:=qu.1 h;refine⟨k,a,?_⟩;unfold fN;rw[zk,List.flatMap_nil,qO]
theorem Mf{m:aG}{live:aC}{ds:aJ}{o:Int}{tries:aC}{i:Nat}(e:∀k d,bh ds k=dB d->ii d.l<=512)(t:ii (aT ds m.drives)=ii live)(h:(fp m live ds o tries i).1=0):nL m live (fp m live ds o tries i).2/\(fp m live ds o tries i).2.got=[]:=by
 unfold fp at h⊢;dsimp only at h⊢;obtain⟨r,u⟩:∃r,r=mC m.p (cz o i (tries.getD i 0)) (fN m ds live o i):=⟨_,rfl⟩
 rw[<-u]at h⊢;by_cases j:r.2≠0
 ·rw[f9 j]at h;cases h
 rw[g0 j]at h⊢;by_cases g:iW m.p (cz o i (tries.getD i 0)) r.1.length≠0
 ·rw[f9 g]at h;cases h
 rw[g0 g]at h⊢;obtain⟨a,b,c⟩:=adt m4;obtain⟨K,H,w,n,B⟩:=YV a b c;have A:m.p.2.2.toNat=w:=B.size;have q:(bK m.p).toNat=n:=by have:=B.k;have:=B.h;have:=B.n;rw[bK,f9 a];omega
 refine⟨⟨oQ _ _ _,by rw[A];exact B.oD.2,by rw[q];exact B.oD.1,by show(de _ _ _ _ _).length=_;unfold de;rw[qz];exact t,λl f=>?_,?_,zt _,λs D=>by cases D⟩,i0⟩
 ·obtain⟨k,_,rfl⟩:=Je f;rw[qz];have:=FA (m:=m) (ds:=ds) (o:=o) (b:=i) (k:=k) e;omega
 ·refine zf (VA (n:=65535) λl f x y=>?_) (by show(65535:Nat)<=2^20+0;decide);obtain⟨k,_,rfl⟩:=Je f;obtain⟨z,v,rfl⟩:=qu.1 y;have:=adv v;omega
end Wl
namespace Go.Qw
open Go Go.Vc Go.Proofs Wl
def Bg(a:eX)(p:Pm)(seed:Int)(M:aP):HP:=HP.ex λm:Sl=>(au a 234 (CY p seed m)).sep (fS 34 m 1 aF M)
section
variable {B:aD} {h0 h:f8} {As:List HP} {a pw:eX} {offs:Int} {da:List aO} {w:Pow} {ds:aJ} {m:aG}
theorem ajU{a:eX}{p:Pm}{seed:Int}{M:aP}:St B h0 (Bg a p seed M::As) λh=>AY h a p seed M:=λBs h' d=>by
 have e:=d.cons Bs.length (A:=Bg a p seed M) (by rw[qj (qm _),Nat.sub_self];rfl);obtain⟨q,c⟩:=e.tG;have b:=c.uc;exact⟨q,b.box 1 i0,b.GX 0 i0⟩
theorem aaq{c:eX}(y:bU)(f:Sl)(live:aC)(t most k:Int)(x:dU)(e:Wl.cv)(i:Nat)(hm:bS m=eL)(hl:live.length<=64)(R:∀k∈live,∃d,bh ds k=dB d)(hi:i<e.tries.length)(bb:e.tries.length<=2^20)
  (hS:St B h0 As λh=>df h y m/\Rd h f 1 av live/\dW jA h x e)
  (H:aa B h0 h (bB a pw da offs w ds m::au c 109 (cU a y f t most k)::As)):
  ac xB 126 #[xt (dB c),xw (bI x).toArray,xq xx i] h λv h'=>
   ((fp m live ds e.object e.tries i).1≠0->v=.tuple #[xt eH,xq xx (fp m live ds e.object e.tries i).1]/\aa B h0 h' (bB a pw da offs w ds m::au c 109 (cU a y f t most k)::As))/\
   ((fp m live ds e.object e.tries i).1=0->∃b cd:eX,v=.tuple #[xt (dB b),xq xx 0]/\aa B h0 h' (bB a pw da offs w ds m::au c 109 (cU a y f t most k)::sk b cd (fp m live ds e.object e.tries i).2::Bg cd m.p (fp m live ds e.object e.tries i).2.seed (fp m live ds e.object e.tries i).2.M::As)):=by
 have hz:=kb hm;have ab:=(nJ H).2;have K:∀k d,bh ds k=dB d->d.l.length<=512:=λk d hd=>by have:=ab k d hd;omega
 obtain⟨seed,X⟩:∃seed,seed=cz e.object i (e.tries.getD i 0):=⟨_,rfl⟩
 obtain⟨r,hr⟩:∃r,r=mC m.p seed (fN m ds live e.object i):=⟨_,rfl⟩
 have eP:fp m live ds e.object e.tries i=(if r.2≠0 then(11,⟨e.object,i,seed,[],[],[]⟩)else if iW m.p seed r.1.length≠0 then(11,⟨e.object,i,seed,[],[],[]⟩)else(0,⟨e.object,i,seed,dv m.p seed r.1,de m ds e.object i (aT ds m.drives),[]⟩)):=by rw[hr,X];rfl
 refine Bp (dB c) x i ?_;unfold pI;refine H.boxed λn h1 U=>?_;have U:aa B h0 h1 (au n 94 (bI x)::bB a pw da offs w ds m::au c 109 (cU a y f t most k)::As):=U.bA;obtain⟨hy,bd,hx⟩:=(hS.cons.cons.cons).here U;have g:=U.box 0 i0;obtain⟨⟨x1,x2,x3⟩,x4⟩:=id hx;have bs:=x4.len;have no:∀{h':f8} {Cs:List HP},aa B h0 h' (au n 94 (bI x)::bB a pw da offs w ds m::au c 109 (cU a y f t most k)::As)->(fp m live ds e.object e.tries i).1=11->
   ((fp m live ds e.object e.tries i).1≠0->Value.tuple #[xt eH,xq xx 11]=.tuple #[xt eH,xq xx (fp m live ds e.object e.tries i).1]/\aa B h0 h' (bB a pw da offs w ds m::au c 109 (cU a y f t most k)::As))/\
   ((fp m live ds e.object e.tries i).1=0->∃b cd:eX,Value.tuple #[xt eH,xq xx 11]=.tuple #[xt (dB b),xq xx 0]/\aa B h0 h' (bB a pw da offs w ds m::au c 109 (cU a y f t most k)::sk b cd (fp m live ds e.object e.tries i).2::Bg cd m.p (fp m live ds e.object e.tries i).2.seed (fp m live ds e.object e.tries i).2.M::As)):=λ{h' Cs} H' he=>by
  rw[he];exact⟨λ_=>⟨i0,H'.rest⟩,λh=>absurd h i5⟩
 have N:∀{h':f8},df h' y m->cx h' c 109 (cU a y f t most k)->aq h' ((c.add 1).add 2) 0 [xq xx m.p.1,xq xx m.p.2.1,xq xx m.p.2.2]:=λ{h'} hy hc=>by
  have ay:y.2.2.1=m.p.1:=congrArg (·.1) hy.p;have a2:y.2.2.2.1=m.p.2.1:=congrArg (·.2.1) hy.p;have a6:y.2.2.2.2.1=m.p.2.2:=congrArg (·.2.2) hy.p;rw[addr_add,<-ay,<-a2,<-a6];exact hc.cells 3 _ i0
 obtain⟨j,A⟩:∃j:jC,j=⟨e.object,i,seed,[],[],[]⟩:=⟨_,rfl⟩
 refine bX (λ(z:aO) h'=>∃b:eX,z=dB b/\aa B h0 h' (au b 187 (gu j eH ⟨eH,0,0⟩ ⟨eH,0,0⟩)::au n 94 (bI x)::bB a pw da offs w ds m::au c 109 (cU a y f t most k)::As)) ?_ ?_
 ·refine⟨x.2.1,g.cell i0,x.2.1,g.cell i0,x.2.2.2,g.cell i0,?_⟩;refine x4.bH i i0 hi e.tries[i] i0 ?_;refine(rV x.2.1 i e.tries[i] h1).mono ?_;rintro _ _ ⟨rfl,rfl⟩;refine⟨_,i0,⟨g.cell i0,g.cell i0,trivial⟩,?_⟩;refine U.boxed λa8 h3 T=>?_;have T:=T.bA;refine⟨⟨(T.box 1 i0).cell i0,(T.box 1 i0).cell i0,trivial⟩,a8,i0,?_⟩;have es:cz x.2.1 i e.tries[i]=seed:=by rw[X,x2,fu 0 hi]
  rw[es,x2]at T;rw[A];exact T
 rintro _ h4 ⟨b,rfl,S⟩;have a0:=S.box 0 i0;have s:=S.box 3 i0;have am:=S.box 1 i0;obtain⟨W,Z,bk⟩:=(hS.cons.cons.cons.cons).here S;have Q:j.seed=seed:=by rw[A]
 have br:j.o=e.object:=by rw[A]
 refine bX (λ(z:Sl×Int) h'=>z.2=r.2/\aa B h0 h' (ak 5 z.1 1 aF r.1::au b 187 (gu j eH ⟨eH,0,0⟩ ⟨eH,0,0⟩)::au n 94 (bI x)::bB a pw da offs w ds m::au c 109 (cU a y f t most k)::As)) ?_ ?_
 ·refine⟨c,i0,m.p,N W s,b,i0,seed,by rw[<-Q];exact a0.cell i0,c,i0,dB a,s.cell0 i0,c,i0,f,s.cell i0,c,i0,y,s.cells 1 _ i0,x.2.1,am.cell i0,?_⟩;rw[x2];refine(Xp y f live e.object i W hz Z i4 R (S.aX 3 [2])).mono ?_;rintro _ h5 ⟨G,ss,rfl,R5⟩;have Y:=S.up R5.aj;have L:Fix jI 2 piv h5 (λb=>b<h5.size) G ss (fN m ds live e.object i):=R5.at 0 i0;have ar:dW Ou h5 G (fN m ds live e.object i):=⟨ss,L.1,L.2.1,L.2.2⟩
  have b1:=adu (m:=m) (o:=e.object) (b:=i) hl K;obtain⟨a7,_,_⟩:=(hS.cons.cons.cons.cons).here Y;have q5:=N a7 (Y.box 3 i0);refine⟨G,i0,⟨(Y.box 3 i0).cell0 i0,by rw[<-Q];exact(Y.box 0 i0).cell i0,q5.1,q5.2.1,q5.2.2.1,trivial⟩,?_⟩;refine(aah m.p seed G _ h5 ar i4).mono ?_;rintro _ h6 ⟨a4,rfl,R6⟩;rw[<-hr]at R6⊢;have H6:=Y.co R6;refine⟨(a4,r.2),i0,⟨(H6.box 4 i0).cell0 i0,trivial⟩,i0,?_⟩;exact H6
 rintro⟨z,_⟩ h7 ⟨rfl,J⟩;dsimp only at J⊢;refine cb (λe1=>?_) λe1=>?_
 ·exact no (Cs:=[]) J.rest.rest (by rw[eP,f9 e1])
 have ao:=J.own 0 i0;refine bX (λ(_:Unit) h'=>iW m.p seed r.1.length=0/\∃cd:eX,aa B h0 h' (au b 187 (gu j (dB cd) ⟨eH,0,0⟩ ⟨eH,0,0⟩)::Bg cd m.p seed (dv m.p seed r.1)::au n 94 (bI x)::bB a pw da offs w ds m::au c 109 (cU a y f t most k)::As)) ?_ ?_
 ·refine bX (λ(z:Int) h'=>(z≠0->iW m.p seed r.1.length≠0/\aa B h0 h' (au n 94 (bI x)::bB a pw da offs w ds m::au c 109 (cU a y f t most k)::As))/\(z=0->iW m.p seed r.1.length=0/\∃cd:eX,aa B h0 h' (au b 187 (gu j (dB cd) ⟨eH,0,0⟩ ⟨eH,0,0⟩)::Bg cd m.p seed (dv m.p seed r.1)::au n 94 (bI x)::bB a pw da offs w ds m::au c 109 (cU a y f t most k)::As))) ?_ ?_
  ·obtain⟨a3,_,_⟩:=(hS.cons.cons.cons.cons.cons).here J;refine⟨c,i0,m.p,N a3 (J.box 4 i0),b,i0,seed,by rw[<-Q];exact(J.box 1 i0).cell i0,?_⟩;refine(UL m.p seed z r.1 h7 (J.seq 0 i0 λ_=>rfl) ao.cap).mono ?_;rintro _ h8 ⟨n1,n2⟩;by_cases D:iW m.p seed r.1.length=0
   ·obtain⟨cd,mm,rfl,R8⟩:=n1 D;have H8:=(J.comp R8).front;refine⟨(dB cd,0),i0,trivial,b,i0,?_⟩;refine H8.storeAt af 3 i0 i0 i0 i0 i0 (show 3<6 by decide) λV u=>⟨trivial,?_⟩
    have u:aa B h0 V (fS 34 mm 1 aF (dv m.p seed r.1)::au cd 234 (CY m.p seed mm)::ak 5 z 1 aF r.1::au b 187 (gu j (dB cd) ⟨eH,0,0⟩ ⟨eH,0,0⟩)::au n 94 (bI x)::bB a pw da offs w ds m::au c 109 (cU a y f t most k)::As):=u;have a9:aa B h0 V (Bg cd m.p seed (dv m.p seed r.1)::ak 5 z 1 aF r.1::au b 187 (gu j (dB cd) ⟨eH,0,0⟩ ⟨eH,0,0⟩)::au n 94 (bI x)::bB a pw da offs w ds m::au c 109 (cU a y f t most k)::As):=
     aa.Ah (F:=λq:Sl=>(au cd 234 (CY m.p seed q)).sep (fS 34 q 1 aF (dv m.p seed r.1))) mm u.mj
    exact⟨λh=>absurd i0 h,λ_=>⟨D,cd,a9.aX 3 [2,0]⟩⟩
   ·obtain⟨rfl,R8⟩:=n2 D;have H8:=J.up R8.aj;refine⟨(eH,iW m.p seed r.1.length),i0,trivial,b,i0,?_⟩;refine H8.storeAt af 1 i0 i0 i0 i0 i0 (show 3<6 by decide) λV u=>⟨trivial,?_⟩
    have u:aa B h0 V (ak 5 z 1 aF r.1::au b 187 (gu j eH ⟨eH,0,0⟩ ⟨eH,0,0⟩)::au n 94 (bI x)::bB a pw da offs w ds m::au c 109 (cU a y f t most k)::As):=u;exact⟨λ_=>⟨D,u.rest.rest⟩,λh=>absurd h D⟩
  ·rintro z V ⟨n1,n2⟩;refine cb (λe2=>?_) λe2=>n2 e2;obtain⟨D,u⟩:=n1 e2;exact no (Cs:=[]) u (by rw[eP,g0 λh=>h e1,f9 D])
 rintro _ bq ⟨D,cd,I⟩;have ap:fp m live ds e.object e.tries i=(0,⟨e.object,i,seed,dv m.p seed r.1,de m ds e.object i (aT ds m.drives),[]⟩):=by rw[eP,g0 λh=>h e1,g0 λh=>h D]
 rw[ap];dsimp only;refine bX (λ(_:Unit) h'=>aa B h0 h' (bB a pw da offs w ds m::au c 109 (cU a y f t most k)::sk b cd ⟨e.object,i,seed,dv m.p seed r.1,de m ds e.object i (aT ds m.drives),[]⟩::Bg cd m.p seed (dv m.p seed r.1)::As)) ?_ ?_
 ·refine⟨c,i0,dB a,(I.box 4 i0).cell0 i0,x.2.1,(I.box 2 i0).cell i0,?_⟩;rw[x2];refine(Rf e.object i hm (I.aX 4 [3])).mono ?_;rintro _ bl ⟨P,rfl,ah⟩;have ax:=I.co ah;refine⟨P,i0,trivial,b,i0,?_⟩;refine ax.storeAt af 1 i0 i0 i0 i0 i0 (show 4<6 by decide) λad E=>⟨trivial,?_⟩
  have E:aa B h0 ad (dK 22 P 3 1 av (de m ds e.object i (aT ds m.drives))::au b 187 (gu ⟨e.object,i,seed,dv m.p seed r.1,de m ds e.object i (aT ds m.drives),[]⟩ (dB cd) P ⟨eH,0,0⟩)::Bg cd m.p seed (dv m.p seed r.1)::au n 94 (bI x)::bB a pw da offs w ds m::au c 109 (cU a y f t most k)::As):=by rw[A]at E;exact E
  have O:=(E.nil 3 1 av).bA;have a5:=Bf (x:=⟨e.object,i,seed,dv m.p seed r.1,de m ds e.object i (aT ds m.drives),[]⟩) O;exact a5.aX 5 [3,4,0,1]
 ·rintro _ b0 O;exact⟨λh=>absurd i0 h,λ_=>⟨b,cd,i0,O⟩⟩
end
end Go.Qw
namespace Wl
open Go Go.Qw Go.Vc
theorem Xs(w:Pow)(d:bt)(b:bf):(d.append w b).2.2.lost=d.lost:=by unfold bt.append;(repeat' split)<;>rfl
theorem Jf(w:Pow)(d:bt)(l:cL):(d.rewrite w l).2.2.lost=d.lost:=by unfold bt.rewrite;(repeat' split)<;>rfl
theorem adw(w:Pow)(d:bt):(d.sync w).2.2.lost=d.lost:=by unfold bt.sync;(repeat' split)<;>rfl
theorem Oy(m:aG)(w:Pow)(d:bt)(n:Int):(ge m w d n).2.2.lost=d.lost:=by
 unfold ge;split
 ·rfl
 ·split
  ·rfl
  ·split
   ·rfl
   ·exact Jf _ _ _
structure iL (ds ds':aJ):Prop where
 len:ii ds'=ii ds
 at_:∀k,(bh ds' k).map bt.lost=(bh ds k).map bt.lost
theorem iL.refl(ds:aJ):iL ds ds:=⟨i0,λ_=>rfl⟩
theorem iL.trans{a b c:aJ}(e:iL a b)(d:iL b c):iL a c:=⟨d.len.trans e.len,λk=>(d.at_ k).trans (e.at_ k)⟩
theorem iL.set{ds:aJ}{k:Int}{d e:bt}(a:ii ds=64)(b:bh ds k=dB d)(c:e.lost=d.lost):iL ds (bQ ds k e):=⟨Bc _ _ _,λs=>by
 rw[iv a b];split
 ·rename_i h;subst h;rw[b];simp[c]
 ·rfl⟩
theorem iL.live{ds a:aJ}(h:iL ds a)(l:aC):aT a l=aT ds l:=by unfold aT;refine List.filter_congr λx _=>?_;unfold isLive;have:=h.at_ x;cases h1:bh a x<;>cases h2:bh ds x<;>rw[h1,h2]at this<;>first|rfl|cases this|(injection this with this;simp only[this])
theorem Xt{m:aG}{c:bf}{w:Pow}{ds:aJ}{s:Int}{d:bt}(a:ii ds=64)(b:bh ds s=dB d):iL ds (jB m c w ds s d).2.2:=by
 unfold jB;dsimp only;split
 ·exact .set a b (Oy _ _ _ _)
 ·rw[xR];exact .set a b ((Xs _ _ _).trans (Oy _ _ _ _))
theorem FB{m:aG}{live set order:aC}{c:bf}{id:Nat}{w:Pow}{ds:aJ}(a:ii ds=64):∀{l:List Nat},iL ds (gG m live set order c id w ds l).1.2.2
 |[]=>.refl _
 |i::l=>by
  unfold gG;dsimp only;cases hd:bh ds (gj order ((id:Int)+i))with
  |none=>exact FB a
  |some d=>
   dsimp only;split
   ·exact FB a
   ·exact Xt a hd
theorem adx{m:aG}{live set:aC}{w:Pow}{ds:aJ}{x:jC}(a:ii ds=64):iL ds (fb m live set w ds x).2.2.1:=FB a
theorem Oz{m:aG}{live:aC}{t most:Int}:∀{f:Nat} {w:Pow} {ds:aJ} {x:jC},ii ds=64->iL ds (dF m live t most f w ds x).2.2.1
 |0,_,_,_,_=>.refl _
 |f+1,w,ds,x,h64=>by
  unfold dF;dsimp only;split
  ·exact .refl _
  ·split
   ·exact .refl _
   ·split
    ·exact .refl _
    ·have a:=adx (m:=m) (live:=live) (set:=(gF m.p x.seed x.W t).1) (w:=w) (x:=x) h64;split
     ·exact a
     ·exact a.trans (Oz (a.len.trans h64))
theorem Jg{m:aG}{live:aC}{t most:Int}(j:most<=64):∀{f:Nat} {w:Pow} {ds:aJ} {x:jC},nL m live x->nL m live (dF m live t most f w ds x).2.2.2/\(dF m live t most f w ds x).2.2.2.seed=x.seed/\(dF m live t most f w ds x).2.2.2.M=x.M
 |0,_,_,_,F=>⟨F,i0,i0⟩
 |f+1,w,ds,x,F=>by
  unfold dF;dsimp only;split
  ·exact⟨F,i0,i0⟩
  ·split
   ·exact⟨F,i0,i0⟩
   ·split
    ·exact⟨F,i0,i0⟩
    ·rename_i k;obtain⟨g,i,h3⟩:=Me (set:=(gF m.p x.seed x.W t).1) (w:=w) (ds:=ds) F i4;have d:(fb m live (gF m.p x.seed x.W t).1 w ds x).2.2.2.seed=x.seed/\(fb m live (gF m.p x.seed x.W t).1 w ds x).2.2.2.M=x.M:=by
      by_cases h:(fb m live (gF m.p x.seed x.W t).1 w ds x).1=0
      ·obtain⟨s,_,e⟩:=i h;rw[e];exact⟨i0,i0⟩
      ·rw[h3 h];exact⟨i0,i0⟩
     split
     ·exact⟨g,d⟩
     ·obtain⟨a,b,c⟩:=Jg j (f:=f) (w:=(fb m live (gF m.p x.seed x.W t).1 w ds x).2.1) (ds:=(fb m live (gF m.p x.seed x.W t).1 w ds x).2.2.1) g;exact⟨a,b.trans d.1,c.trans d.2⟩
theorem OA:∀{l:aC} {w:Pow} {ds:aJ},ii ds=64->iL ds (eW l w ds).2.2
 |[],_,_,_=>.refl _
 |x::l,w,ds,h64=>by
  have a:iL ds (gQ w ds x).2.2:=by
   unfold gQ;cases hd:bh ds x with
   |none=>exact .refl _
   |some d=>exact .set h64 hd (adw _ _)
  rw[wn];split
  ·exact a.trans (OA (a.len.trans h64))
  ·exact a
theorem xS{m:aG}:∀{l:aC} {w:Pow} {ds:aJ},ii ds=64->iL ds (dq m l w ds).2.2
 |[],_,_,_=>.refl _
 |k::l,w,ds,h64=>by
  unfold dq;cases hd:bh ds k with
  |none=>exact xS h64
  |some d=>
   dsimp only;split
   ·exact xS h64
   ·have a:iL ds (bQ ds k (d.rewrite w (ck m d.l)).2.2):=.set h64 hd (Jf _ _ _);split
    ·exact a.trans (xS (a.len.trans h64))
    ·exact a
noncomputable def dJ(m:aG)(live:aC)(t most:Int)(w:Pow)(ds:aJ)(e:cv)(i:Nat):Int×Pow×aJ×Nat:=
 let p:=fp m live ds e.object e.tries i
 if p.1≠0 then(p.1,w,ds,0)else
  let q:=dF m live t most 65 w ds p.2
  if q.1=14 then(14,q.2.1,q.2.2.1,q.2.2.2.got.length)else
   let z:=eW (cM q.2.2.2.got) q.2.1 q.2.2.1
   (if z.1≠0 then z.1 else q.1,z.2.1,z.2.2,q.2.2.2.got.length)
theorem Xu{m:aG}{live:aC}{t most:Int}{w:Pow}{ds:aJ}{e:cv}{i:Nat}(a:ds.length=64):iL ds (dJ m live t most w ds e i).2.2.1:=by
 unfold dJ;dsimp only;split
 ·exact .refl _
 ·have b:=Oz (m:=m) (live:=live) (t:=t) (most:=most) (f:=65) (w:=w) (x:=(fp m live ds e.object e.tries i).2) a;split
  ·exact b
  ·exact b.trans (OA (b.len.trans a))
theorem aar{m:aG}{live:aC}{t most:Int}{w:Pow}{ds:aJ}{e:cv}{i:Nat}(c:most<=64)(a:∀k d,bh ds k=dB d->ii d.l<=512)(b:ii (aT ds m.drives)=ii live):(dJ m live t most w ds e i).2.2.2<=64:=by
 unfold dJ;dsimp only;split
 ·exact zt _
 ·rename_i h;have F:=(Mf a b j5).1;have:=(Jg (t:=t) (most:=most) c (f:=65) (w:=w) (ds:=ds) F).1.gl;split<;>exact this
noncomputable def gO(m:aG)(live:aC)(t most:Int)(e:cv):List Nat->Pow->aJ->Nat->Int×Pow×aJ×Nat
 |[],w,ds,k=>(0,w,ds,k)
 |i::l,w,ds,k=>
  let q:=dJ m live t most w ds e i
  if q.1≠0 then(q.1,q.2.1,q.2.2.1,k+q.2.2.2)else gO m live t most e l q.2.1 q.2.2.1 (k+q.2.2.2)
noncomputable def lc(m:aG)(live:aC)(t most:Int):List cv->Pow->aJ->Nat->Int×Pow×aJ×Nat
 |[],w,ds,k=>(0,w,ds,k)
 |e::l,w,ds,k=>
  let q:=gO m live t most e (qy e.tries.length) w ds k
  if q.1≠0 then q else lc m live t most l q.2.1 q.2.2.1 q.2.2.2
noncomputable def gn(m:aG)(offs:Int)(w:Pow)(ds:aJ)(t most:Int):Nat×Int×Pow×aJ:=
 if eF w offs then(0,14,w,ds)else if t<0∨t>=(ii (aT ds m.drives):Int)∨most<0∨most>64 then(0,1,w,ds)else if iN (ii (aT ds m.drives):Int) t>4096 then(0,13,w,ds)else
 let c:=dq m (aT ds m.drives) w ds
 if c.1≠0 then(0,c.1,c.2.1,c.2.2)else
  let q:=lc m (aT ds m.drives) t most m.aH c.2.1 c.2.2 0
  (q.2.2.2,q.1,q.2.1,q.2.2.1)
end Wl
namespace Go.Qw
open Go Go.Vc Go.Proofs Wl
section
variable {B:aD} {h0 h:f8} {As:List HP} {a pw:eX} {offs:Int} {da:List aO} {w:Pow} {ds:aJ} {m:aG}
theorem Xv{c:eX}(y:bU)(u:Sl)(live:aC)(t most:Int)(k:Nat)(x:dU)(e:Wl.cv)(i:Nat)(I:bS m=eL)(r:live=aT ds m.drives)(Z:k<=2^30)(n:0<=most/\most<=64)(hi:i<e.tries.length)(W:e.tries.length<=2^20)
  (hS:St B h0 As λh=>df h y m/\Rd h u 1 av live/\dW jA h x e)
  (H:aa B h0 h (bB a pw da offs w ds m::au c 109 (cU a y u t most k)::As)):
  ac xB 60 #[xt (dB c),xw (bI x).toArray,xq xx i] h λv h'=>v=xq xx (dJ m live t most w ds e i).1/\
   aa B h0 h' (bB a pw da offs (dJ m live t most w ds e i).2.1 (dJ m live t most w ds e i).2.2.1 m::au c 109 (cU a y u t most ((k+(dJ m live t most w ds e i).2.2.2:Nat):Int))::As):=by
 refine AD (dB c) x i ?_;unfold oH;have hp:bP m.p=eL:=((fF m).1 ((cD m).1 I).1).2.2.1;have S:=jQ I;have hl:live.length<=64:=by rw[r];exact zf (qR _ _) S
 have j:∀k∈live,∃d,bh ds k=dB d:=λk Z=>by obtain⟨_,d,P,_⟩:=kr (show k∈aT ds m.drives by rw[<-r];exact Z);exact⟨d,P⟩
 have Q:=(nJ H).2;have ab:=(nJ H).1;have z:∀k d,bh ds k=dB d->d.l.length<=512:=λk d P=>by have:=Q k d P;omega
 obtain⟨p,g⟩:∃p,p=fp m live ds e.object e.tries i:=⟨_,rfl⟩
 refine H.boxed λY h1 L=>?_;have L:aa B h0 h1 (bB a pw da offs w ds m::au c 109 (cU a y u t most k)::au Y 94 (bI x)::As):=L.bA.aX 3 [1,2,0];refine⟨x,(L.box 2 i0).aU _ i0,(aaq y u live t most k x e i I hl j hi W hS.cons L).mono ?_⟩;rw[<-g];rintro _ h2 ⟨n1,n2⟩;by_cases E:p.1=0
 rotate_left
 ·obtain⟨rfl,O⟩:=n1 E;have K:dJ m live t most w ds e i=(p.1,w,ds,0):=by unfold dJ;dsimp only;rw[<-g,f9 E]
  rw[K];exact⟨(eH,p.1),i0,cb (λ_=>⟨i0,O.aX 3 [0,1]⟩) λh=>absurd h E⟩
 obtain⟨b,cd,rfl,O⟩:=n2 E;have F:=Mf (m:=m) (live:=live) (ds:=ds) (o:=e.object) (tries:=e.tries) (i:=i) z sL (by rw[<-g];exact E);rw[<-g]at F;obtain⟨q,D⟩:∃q,q=dF m live t most 65 w ds p.2:=⟨_,rfl⟩
 have K:dJ m live t most w ds e i=(if q.1=14 then(14,q.2.1,q.2.2.1,q.2.2.2.got.length)else
   (if(eW (cM q.2.2.2.got) q.2.1 q.2.2.1).1≠0 then(eW (cM q.2.2.2.got) q.2.1 q.2.2.1).1 else q.1,(eW (cM q.2.2.2.got) q.2.1 q.2.2.1).2.1,(eW (cM q.2.2.2.got) q.2.1 q.2.2.1).2.2,q.2.2.2.got.length)):=by
  unfold dJ;dsimp only;rw[<-g,g0 λh=>h E,<-D]
 refine⟨(dB b,0),i0,cb (λh=>absurd i0 h) λ_=>?_⟩;have U:St B h0 (Bg cd m.p p.2.seed p.2.M::au Y 94 (bI x)::As) λh=>df h y m/\Rd h u 1 av live/\AY h cd m.p p.2.seed p.2.M:=λBs h' H'=>by
  obtain⟨z1,z2,_⟩:=hS.cons.cons Bs h' H';exact⟨z1,z2,ajU Bs h' H'⟩
 refine(aak y u live t most k p.2 I hp hl j i4 F.1 F.2 n U O).mono ?_;rw[<-D];rintro _ h3 ⟨rfl,H3⟩;refine⟨_,i0,cy (λJ=>?_) λJ=>?_⟩
 ·rw[K,f9 J];exact⟨by rw[J],H3.aX 5 [0,1]⟩
 rw[K,g0 J];have V:=(Jg (m:=m) (live:=live) (t:=t) (most:=most) n.2 (f:=65) (w:=w) (ds:=ds) F.1).1;rw[<-D]at V;obtain⟨wS,gS,G⟩:=JP (H3.aX 3 [2,0,1]);have ad:=G.box 4 i0;have G:aa B h0 h3 (bB a pw da offs q.2.1 q.2.2.1 m::au c 109 (cU a y u t most ((k:Int)+q.2.2.2.got.length))::ak 3 gS 1 av q.2.2.2.got::au b 187 (gu q.2.2.2 (dB cd) wS gS)::Bg cd m.p p.2.seed p.2.M::au Y 94 (bI x)::As):=G.aX 5 [3,4,0,2];have T:∀s∈q.2.2.2.got,0<=s/\s<64:=λs N=>by
  have N:=V.gi s N;rw[r]at N;exact lq I s (kr N).1
 refine⟨c,i0,dB a,(G.box 1 i0).cell0 i0,b,i0,gS,(G.box 3 i0).cell i0,?_⟩;refine(afD gS q.2.2.2.got (St.dS (A:=ak 3 gS 1 av q.2.2.2.got) 1 i0 λh' D=>D.1.seq (λ_=>rfl) D.2) (by have:=V.gl;omega) T G).mono ?_;rintro _ h5 ⟨rfl,X⟩;refine⟨_,i0,⟨(X.box 1 i0).cell0 i0,trivial⟩,cb (λR=>?_) λR=>?_⟩
 ·rw[f9 R];exact⟨i0,X.aX 6 [0,1]⟩
 ·rw[g0 λh=>h R];exact⟨i0,X.aX 6 [0,1]⟩
def Jh(y:bU)(m:aG)(i:Nat)(e:Wl.cv)(x:dU):HP:=
 ⟨λh q=>(cj y m).p h q/\jA.p h q x e/\∃d,Vc.Seq h q y.2.2.2.2.2.2.2 4 bI d/\d[i]?=dB x,
  λa g=>⟨(cj y m).loc a.1 g,jA.loc a.2.1 g,by obtain⟨d,b,c⟩:=a.2.2;exact⟨d,b.aj g,c⟩⟩,
  λa f=>⟨(cj y m).mono a.1 f,jA.mono a.2.1 f,by obtain⟨d,b,c⟩:=a.2.2;exact⟨d,b.mono f,c⟩⟩⟩
theorem ajy{y:bU}{i:Nat}(d:i<ii m.aH)(H:aa B h0 h (cj y m::As)):∃x,aa B h0 h (Jh y m i m.aH[i] x::As):=
 aa.tG (F:=λx=>Jh y m i m.aH[i] x) (H.fZ 0 i0 λq c=>by
  have a:tK h q y m:=c;obtain⟨b,e,g,f⟩:=bO.kt a.aH;exact⟨b[i]'(by omega),c,f i i4 d,b,e,qd i4⟩)
theorem ajV{y:bU}{i:Nat}{e:Wl.cv}{x:dU}(H:aa B h0 h (Jh y m i e x::As)):aa B h0 h (cj y m::As):=H.fZ 0 i0 λq a=>a.1
theorem OB(t most:Int)(V:bS m=eL)(ht:-(2^62)<=t/\t<=2^62)(H:aa B h0 h (bB a pw da offs w ds m::As)):
  ac xB 15 #[xt (dB a),xq xx t,xq xx most] h λv h'=>v=.tuple #[xq xx ((gn m offs w ds t most).1:Nat),xq xx (gn m offs w ds t most).2.1]/\aa B h0 h' (bB a pw da offs (gn m offs w ds t most).2.2.1 (gn m offs w ds t most).2.2.2 m::As):=by
 refine BX (dB a) t most ?_;unfold uH;have ao:=jQ V;have am:=(nJ H).1;obtain⟨live,f⟩:∃live,live=aT ds m.drives:=⟨_,rfl⟩
 have bd:live.length<=64:=by rw[f];exact zf (qR _ _) ao
 obtain⟨G,l⟩:∃G,G=gn m offs w ds t most:=⟨_,rfl⟩
 rw[<-l];unfold gn at l;rw[<-f]at l;refine bj (bC (λe=>j0) λ_=>(Vg H).mono ?_);rintro _ h1 ⟨rfl,rfl⟩;refine⟨_,i0,bC (λe=>?_) λe1=>?_⟩
 ·rw[f9 e]at l;rw[l];exact⟨i0,H⟩
 rw[g0 n4]at l;refine(LV V H).mono ?_;rintro _ h2 ⟨y,rfl,R2⟩;have H2:=H.co R2;refine⟨y,i0,(Fs V (H2.aX 2 [1,0])).mono ?_⟩;rintro _ h3 ⟨c,rfl,R3⟩;rw[<-f]at R3;have H3:=H2.co R3;refine⟨c,i0,H3.boxed λa5 h5 O=>?_⟩;have O:aa B h0 h5 (bB a pw da offs w ds m::au a5 109 (cU a y c t most 0)::ak 3 c 1 av live::cj y m::As):=(O.bA).aX 4 [3,0,1,2];have ad:=(O.own 2 i0).len;have W:=O.box 1 i0;refine bj (bX (λ(b:Bool) h'=>b=decide (t<0∨t>=(live.length:Int)∨most<0∨most>64)/\h'=h5) ?_ ?_)
 ·refine ai (λe=>⟨by rw[g9 (.inl e)],i0⟩) λea=>⟨a5,i0,c,W.cell i0,ai (λe=>⟨by rw[g9 (.inr (.inl i4))],i0⟩) λeb=>ai (λe=>⟨by rw[g9 (.inr (.inr (.inl e)))],i0⟩) λec=>⟨?_,i0⟩⟩
  rw[decide_eq_decide];omega
 rintro b h6 ⟨rfl,rfl⟩;refine ai (λe=>by rw[f9 e]at l;rw[l];exact⟨i0,O.aX 4 [0]⟩) λe2=>?_;rw[g0 e2]at l;have s:0<=most/\most<=64:=i4
 refine⟨a5,i0,c,W.cell i0,(tm ((c.len:Nat):Int) t h6 i4 ht).mono ?_⟩;rintro _ h7 ⟨rfl,rfl⟩;rw[ad];refine⟨_,i0,ai (λe=>by rw[f9 e]at l;rw[l];exact⟨i0,O.aX 4 [0]⟩) λe3=>?_⟩;rw[g0 e3]at l;dsimp only at l;have hS:St B h0 (au a5 109 (cU a y c t most 0)::ak 3 c 1 av live::cj y m::As) λh=>cx h a5 109 (cU a y c t most 0)/\df h y m/\Rd h c 1 av live:=λBs h' F=>
  ⟨(St.dS (A:=au a5 109 (cU a y c t most 0)) 0 i0 λ_ o=>o.1) Bs h' F,(St.dS (A:=cj y m) 2 i0 λ_ o=>o) Bs h' F,(St.dS (A:=ak 3 c 1 av live) (Q:=λh=>Rd h c 1 av live) 1 i0 λh' o=>o.1.seq (λ_=>rfl) o.2) Bs h' F⟩
 refine(Oi y c live t most 0 V bd (λk hk=>by obtain⟨_,d,X,_⟩:=kr (show k∈aT ds m.drives by rw[<-f];exact hk);exact⟨d,X⟩) hS O).mono ?_;rintro _ h8 ⟨rfl,H8⟩;obtain⟨L,Y⟩:∃L,L=dq m live w ds:=⟨_,rfl⟩
 have S:iL ds L.2.2:=by rw[Y];exact xS am
 rw[<-Y]at H8 l⊢;refine⟨_,i0,cb (λe=>by rw[f9 e]at l;rw[l];exact⟨i0,H8.aX 4 [0]⟩) λe4=>?_⟩;rw[g0 λh=>h e4]at l;have a0:=H8.box 1 i0;have a2:df h8 y m:=H8.at 3 i0;refine⟨a5,i0,y.2.2.2.2.2.2.2,by rw[addr_add];exact a0.cell i0,?_⟩;have bq:m.aH.length<=12:=((cD m).1 V).2.2.2.1;have a8:∀e∈m.aH,e.tries.length<=8:=λe he=>by
  have h1:=(ig m e).1 (((cD m).1 V).2.2.2.2.1 e he);have h2:=oc h1.2.2.1.2;omega
 have b5:=bO.len a2.aH;have b7:St B h0 (ak 3 c 1 av live::cj y m::As) λh=>df h y m/\Rd h c 1 av live:=λBs h' F=>
  ⟨(St.dS (A:=cj y m) 1 i0 λ_ o=>o) Bs h' F,(St.dS (A:=ak 3 c 1 av live) (Q:=λh=>Rd h c 1 av live) 0 i0 λh' o=>o.1.seq (λ_=>rfl) o.2) Bs h' F⟩
 refine aA (λz:Nat×Pow×aJ×Nat=>(z.1:Int)) (λz h'=>z.1<=m.aH.length/\z.2.2.2<=z.1*512/\iL ds z.2.2.1/\lc m live t most m.aH L.2.1 L.2.2 0=lc m live t most (m.aH.drop z.1) z.2.1 z.2.2.1 z.2.2.2/\
  aa B h0 h' (bB a pw da offs z.2.1 z.2.2.1 m::au a5 109 (cU a y c t most (z.2.2.2:Nat))::ak 3 c 1 av live::cj y m::As)) (λz=>m.aH.length-z.1) (0,L.2.1,L.2.2,0) i0 ⟨zt _,zt _,S,i0,H8⟩ ?_
 rintro⟨i,w1,T,k⟩ h9 ⟨hi,hk,ah,J,H9⟩;dsimp only at hi hk ah J H9⊢;refine ai (λe5=>?_) λe5=>?_
 rotate_left
 ·have a3:i=m.aH.length:=i4
  rw[a3,List.drop_length]at J;rw[J]at l;rw[l];exact⟨a5,i0,(k:Int),(H9.box 1 i0).cell i0,i0,H9.aX 4 [0]⟩
 have N:i<m.aH.length:=by have b1:(i:Int)<(y.2.2.2.2.2.2.2.len:Int):=e5;omega
 obtain⟨x,U⟩:=ajy N (H9.aX 4 [3,0,1,2]);obtain⟨E,M⟩:∃E,E=m.aH[i]:=⟨_,rfl⟩
 rw[<-M]at U;obtain⟨br,bl,ys,a6,a4⟩:=U.at 0 rfl;obtain⟨a9,bk⟩:=qn.1 a4;have b6:E.tries.length<=8:=a8 E (by rw[M];exact qg N);refine a6.eu (g:=bI) i i0 a9 x (by rw[bk]) ?_;refine U.alloc af i0 λP b2 R=>?_;have R:=R.bA;refine R.storeAll af 0 i0 i0 (bI x) i0 i0 i0 i0 λa1 r=>?_;have r:aa B h0 a1 (bB a pw da offs w1 T m::au a5 109 (cU a y c t most (k:Nat))::au P 94 (bI x)::Jh y m i E x::ak 3 c 1 av live::As):=r.aX 5 [2,3,0,1,4];have b3:=(r.at 3 i0).2.1.2.len;refine⟨x.2.2.2,(r.box 2 i0).cell i0,?_⟩;have a7:St B h0 (au P 94 (bI x)::Jh y m i E x::ak 3 c 1 av live::As) λh=>df h y m/\Rd h c 1 av live/\dW jA h x E:=λBs h' F=>by
  obtain⟨z1,z2,_⟩:=(St.dS (A:=Jh y m i E x) (Q:=λh=>(Jh y m i E x).p h λb=>b<h.size) 1 rfl λ_ o=>o) Bs h' F;exact⟨z1,(St.dS (A:=ak 3 c 1 av live) (Q:=λh=>Rd h c 1 av live) 2 i0 λh' o=>o.1.seq (λ_=>rfl) o.2) Bs h' F,z2⟩
 have e0:m.aH.drop i=E::m.aH.drop (i+1):=by rw[M];exact qP N
 rw[e0,lc]at J;obtain⟨Q,hQ⟩:∃Q,Q=gO m live t most E (qy E.tries.length) w1 T k:=⟨_,rfl⟩
 rw[<-hQ]at J;refine aA (λz:Nat×Pow×aJ×Nat=>(z.1:Int)) (λz h'=>z.1<=E.tries.length/\z.2.2.2<=k+z.1*64/\iL ds z.2.2.1/\Q=gO m live t most E ((qy E.tries.length).drop z.1) z.2.1 z.2.2.1 z.2.2.2/\
  aa B h0 h' (bB a pw da offs z.2.1 z.2.2.1 m::au a5 109 (cU a y c t most (z.2.2.2:Nat))::au P 94 (bI x)::Jh y m i E x::ak 3 c 1 av live::As)) (λz=>E.tries.length-z.1) (0,w1,T,k) i0 ⟨zt _,qm _,ah,hQ,r⟩ ?_
 rintro⟨j,w2,D,k2⟩ b0 ⟨hj,ax,q,n,u⟩;dsimp only at hj ax q n u⊢;have bs:i<=12:=i4
 refine ai (λe6=>?_) λe6=>?_
 ·have ap:j<E.tries.length:=by have ar:(j:Int)<(x.2.2.2.len:Int):=e6;omega
  have X:(qy E.tries.length).drop j=j::(qy E.tries.length).drop (j+1):=by rw[qP i7,vF]
  rw[X,gO]at n;have K:live=aT D m.drives:=by rw[q.live];exact f
  refine⟨x,(u.box 2 i0).aU _ i0,(Xv y c live t most k2 x E j V K i4 s ap i4 a7 u).mono ?_⟩;rintro _ b4 ⟨rfl,I⟩;have Z:=aar (m:=m) (live:=live) (t:=t) (most:=most) (w:=w2) (ds:=D) (e:=E) (i:=j) s.2 (λk d X=>by have:=(nJ u).2 k d X;omega) (by rw[<-K]);have ab:=Xu (m:=m) (live:=live) (t:=t) (most:=most) (w:=w2) (ds:=D) (e:=E) (i:=j) (q.len.trans am);obtain⟨b,hb⟩:∃b,b=dJ m live t most w2 D E j:=⟨_,rfl⟩
  rw[<-hb]at I n Z ab⊢;refine⟨_,i0,cb (λe7=>?_) λe7=>?_⟩
  ·rw[f9 e7]at n;rw[n,f9 e7]at J;rw[J]at l;rw[l];exact⟨a5,i0,((k2+b.2.2.2:Nat):Int),(I.box 1 i0).cell i0,i0,I.aX 5 [0]⟩
  ·rw[g0 λh=>h e7]at n;refine⟨(j+1,b.2.1,b.2.2.1,k2+b.2.2.2),jj,⟨i6,i6,q.trans ab,n,I⟩,i6⟩
 ·have ay:j=E.tries.length:=by have ar:¬(j:Int)<(x.2.2.2.len:Int):=e6;omega
  rw[ay,zg i9,gO]at n;rw[n,g0 λh=>h rfl]at J;have bb:=(ajV (u.aX 4 [3,0,1])).aX 3 [1,2,0];refine⟨(i+1,w2,D,k2),jj,⟨i6,i6,q,J,?_⟩,i6⟩;exact bb.aX 4 [0,1,3,2]
end
theorem afI{a b:dm}(c:sq a b=eL)(d:sq b a=eL):oV a b=eL:=by unfold sq at c d;rw[decide_eq_true_eq]at c d;rw[mi];omega
theorem afJ{a b c:dm}(h:sq a b=eL)(d:oV a c=eL):sq c b=eL:=by rw[mi]at d;unfold sq at h⊢;rw[decide_eq_true_eq]at h⊢;omega
theorem aas{l:List dm}(h:l.Pairwise λa b=>sq a b=eL):(rk l).Pairwise λa b=>oV a b=eR:=by
 unfold rk;rw[List.pairwise_map];have o:((qy l.length).filter (rj l)).Pairwise (·<·):=(List.pairwise_lt_range (n:=ii l)).filter _;refine o.imp_of_mem λ{i j} hi hj hlt=>?_;have c:=qJ.1 (qI.1 hj).1;have d:=(qI.1 hj).2;rw[fu _ (show i<ii l by omega),fu _ c];refine eq_false_of_ne_true λm=>?_;unfold rj at d;rw[hU i4,Bool.false_or,Bool.not_eq_true',fu _ c,fu _ (show j-1<ii l by omega)]at d;have f:=zx.1 h;have k:sq l[i] l[j-1]=eL:=by
  by_cases e:i=j-1
  ·subst e;unfold sq;rw[decide_eq_true_eq];omega
  ·exact f i (j-1) i4 i4 i4
 have g:sq l[j-1] l[j]=eL:=f (j-1) j i4 c i4;have:=afI (afJ k m) g;rw[d]at this;cases this
theorem Xw(m:aG)(l:cL):(eZ m l).Pairwise λa b=>oV a b=eR:=aas (List.pairwise_mergeSort aio.1 aio.2 _)
theorem FC{α:Type}[DecidableEq α]:∀{l m:List α},l.Nodup->(∀x∈l,x∈m)->ii l<=ii m
 |[],m,_,_=>zt _
 |x::l,m,h,hs=>by
  obtain⟨f,d⟩:=List.nodup_cons.1 h;have b:=hs x qN;have:=FC (l:=l) (m:=m.erase x) d λy c=>by
   have a:y≠x:=λe=>f (e▸c);exact(List.mem_erase_of_ne a).2 (hs y (qG _ c))
  rw[List.length_erase_of_mem b]at this;have:=List.length_pos_of_mem b;rw[List.length_cons];omega
section
variable {m:aG} {C:Int->bf} {ds:aJ} {offs:Int} {w:Pow}
def Low(m:aG)(ds:aJ):Prop:=∀k d,bh ds k=dB d->∀c∈d.l,∀r,eC c=dB r->fh m r=eL->r.id<m.p.1+m.extra
structure Full (m:aG) (C:Int->bf) (ds:aJ):Prop where
 live:∀k∈m.drives,∃d,bh ds k=dB d/\d.lost=eR/\kY m d.l=eL
 all:∀e∈m.aH,∀i:Nat,i<e.tries.length->∀id:Nat,id<(m.p.1+m.extra).toNat->∃k∈m.drives,∃d,bh ds k=dB d/\dG (ox m e.object i (cz e.object i (e.tries.getD i 0)) (jc m C e.object i) id)∈d.l
theorem Full.aT(F:Full m C ds):Wl.aT ds m.drives=m.drives:=zX.2 λk b=>by
 obtain⟨d,c,a,_⟩:=F.live k b;unfold isLive;rw[c];simp[a]
theorem gA.ajz(S:gA m C ds){e:Wl.cv}(a:e∈m.aH):e.tries.length<=8:=by obtain⟨_,_,h3,_,b⟩:=(ig m e).1 (S.entry a);have:=oc h3.2;omega
theorem gA.VE(S:gA m C ds){e:Wl.cv}(a:e∈m.aH){i:Nat}(c:i<e.tries.length){id:Nat}(hid:id<=65535):jw (ox m e.object i (cz e.object i (e.tries.getD i 0)) (jc m C e.object i) id)=eL:=by obtain⟨K,H,w,n,B⟩:=S.fY a c;have h8:=S.ajz a;have b:=((ig m e).1 (S.entry a)).2.1;have d:=((fF m).1 ((cD m).1 S.may).1).2.1;exact UT B ⟨b.1,i4⟩ ⟨i4,i4⟩ ⟨i4,i4⟩
theorem gA.counts(S:gA m C ds){e:Wl.cv}(a:e∈m.aH){i:Nat}(b:i<e.tries.length){id:Nat}(hid:id<=65535):fh m (ox m e.object i (cz e.object i (e.tries.getD i 0)) (jc m C e.object i) id)=eL:=
 jM.2 ⟨S.VE a b hid,i0,e,a,i0,by show(i:Int)<_;omega,by show cz e.object i _=cz e.object (i:Int) (e.tries.getD (i:Int).toNat 0);rw[ql]⟩
theorem Rr(m:aG)(d:bt)(N:Int):(dD m d N).lost=d.lost/\(dD m d N).room=d.room:=by unfold dD;split<;>exact⟨i0,i0⟩
end
section
variable {m:aG} {C:Int->bf} {ds:aJ} {offs:Int} {w:Pow}
end
end Go.Qw
namespace Wl
open Go Go.Qw Go.Vc
def Mg(m:aG)(i:Nat):aG:={m with seq:=m.seq+1,aH:=m.aH.take i++m.aH.drop (i+1)}
def gB(m:aG)(offs:Int)(w:Pow)(ds:aJ)(name:ByteArray):Int×aG×Pow×aJ:=
 if eF w offs then(14,m,w,ds)else if m.aH.any (mM name)=eR then(5,m,w,ds)else if m.seq>=2147483647 then(7,m,w,ds)else
 db m offs w ds (Mg m (m.aH.findIdx (mM name)))
end Wl
namespace Go.Vc
open Go
theorem VF{C:Ctx}{t e k:Nat}{z:bg}{a:Nat}{h:f8}{s:Sl}(b:C.Ok)(c:bY C.toDi t e k z a){x y u:Int}(i j n:Nat)(F:x=i)(M:y=j)(D:u=n)(H:i<=j)(o:j<=n)(h3:n<=s.cap){K:Sl->f8->Prop}(g:∀v,K v h):
  aB C.P (yo t (xr s.ptr s.len s.cap) (dB (xq xx x)) (dB (xq xx y)) (dB (xq xx u))) (.one (.sc .slc)) h K:=by
 subst F;subst M;subst D;have q:aN C.P (wD eL s.len s.cap (dB (xq xx (i:Int))) (dB (xq xx (j:Int))) (dB (xq xx (n:Int)))) (i,j,n):=λw=>by
  have A:¬((n:Int)<0):=i4
  have x2:¬((s.cap:Int)<(n:Int)):=i4
  have x3:(n:Int)<=(s.cap:Int):=i4
  have J:(0:Int)<=(n:Int):=i4
  have B:(0:Int)<=(j:Int):=i4
  have G:(0:Int)<=(i:Int):=i4
  have f:(j:Int)<=(n:Int):=i4
  have E:(i:Int)<=(j:Int):=i4
  have L:¬((j:Int)<0):=i4
  have d:¬((i:Int)<0):=i4
  have l:¬((n:Int)<(j:Int)):=i4
  have m:¬((j:Int)<(i:Int)):=i4
  have p:¬(n<j):=i4
  have r:¬(j<i):=i4
  have I:¬(s.cap<n):=i4
  simp[wD,Instr.sliceBound,asIntOf,A,x2,x3,J,B,G,f,E,L,d,l,m,p,r,I,H,o,h3]
 unfold aB yo;refine ag.bind (ag.always (aW (c.under b)) ?_);show ag C.P (xo t (xr s.ptr s.len s.cap) (dB (xq xx (i:Int))) (dB (xq xx (j:Int))) (dB (xq xx (n:Int)))) h _;unfold xo;refine ag.bind (ag.always (aW (c.under b)) ?_);refine ag.bind (ag.always q ?_);refine ag.bind (ag.always (c.size b) ?_);exact ag.pure' ⟨⟨_,_,_⟩,i0,g _⟩
end Go.Vc
namespace Go.Qw
open Go Go.Vc Go.Proofs Wl
section
variable {B:aD} {h0 h:f8} {As:List HP} {a pw:eX} {offs:Int} {da:List aO} {w:Pow} {ds:aJ} {m:aG} {s:Sl}
theorem Xx(d:List dU)(i:Nat)(l:i<ii d)(o:ii d<=2^30)(H:aa B h0 h (ak 94 s 4 bI d::As)):
  ac xB 144 #[s,xq xx i,xq xx (i+1)] h λv h'=>∃r:Sl,v=r/\aa B h0 h' (ak 94 r 4 bI (d.take i++d.drop (i+1))::As):=by
 refine nf s i (i+1) ?_;unfold jr;have f:=H.own 0 i0;have q:=f.len;have m:=f.cap;refine VF af PJ i (i+1) s.len i0 i0 i0 i4 i4 m λ_=>?_;refine cy (λe=>absurd e i4) λ_=>⟨⟨i4,i4⟩,⟨i4,i4⟩,?_⟩
 have j:((i:Int)+1).toNat=i+1:=i4
 rw[j,ql];refine H.Ph af 0 i0 PJ ⟨_,_,i0,i0⟩ (λ_=>rfl) PI i l λn b=>⟨trivial,⟨i4,i6,i6⟩,?_⟩
 have b:aa B h0 n (ak 94 s 4 bI ((d.take i++d.drop (i+1))++d.drop (ii d-1))::As):=b;have a:ii (d.take i++d.drop (i+1))=ii d-1:=i7
 dsimp only;rw[ql,ql];refine b.py af 0 i0 PJ (λ_=>rfl) i0 (by intro v g;simp at g;rcases g with rfl|rfl|rfl<;>rfl) (ii d-1) i7 λp c=>?_;have k:((d.take i++d.drop (i+1))++d.drop (ii d-1)).take (ii d-1)=d.take i++d.drop (i+1):=by rw[<-a,vK]
 rw[k]at c;exact⟨⟨s.ptr,ii d-1,s.cap⟩,i0,c⟩
theorem VG(name:ByteArray)(x:bU)(m:aG)(I:bS m=eL)(H:aa B h0 h (bp bz a pw (aV x) offs da w ds::cj x m::As)):
  ac xB 75 #[xt (dB a),xu name] h λv h'=>v=xq xx (gB m offs w ds name).1/\
   ∃y,aa B h0 h' (bp bz a pw (aV y) offs da (gB m offs w ds name).2.2.1 (gB m offs w ds name).2.2.2::cj y (gB m offs w ds name).2.1::As):=by
 refine CH (dB a) name ?_;unfold rE;have r:=kb I;have T:=jQ I;obtain⟨g1,g2,g3,g4⟩:=(fF m).1 ((cD m).1 I).1;have ab:=((cD m).1 I).2.2.2.1;refine(II H).mono ?_;rintro _ h1 ⟨rfl,rfl⟩;refine⟨_,i0,bC (λe=>?_) λJ=>?_⟩
 ·have g:gB m offs w ds name=(14,m,w,ds):=by unfold gB;rw[f9 e]
  rw[g];exact⟨i0,x,H⟩
 refine(find_spec x m name (H.at 1 i0) r H).mono ?_;rintro _ S ⟨⟨i,rfl,hi⟩,Z⟩;have s:=H.up Z.aj;refine⟨i,i0,?_⟩;rcases hi with⟨rfl,hno⟩|⟨n,hn,rfl,c,hbef⟩
 ·refine ai (λ_=>?_) λe=>absurd i5 e;have g:gB m offs w ds name=(5,m,w,ds):=by unfold gB;rw[g0 (by rw[J];decide),f9 hno]
  rw[g];exact⟨i0,x,s⟩
 have f:m.aH.any (mM name)=eL:=wz.2 ⟨_,qg hn,c⟩;have D:m.aH.findIdx (mM name)=n:=by rw[List.findIdx_eq hn];refine⟨c,λj hj=>?_⟩;have:=wF.1 hbef (m.aH[j]'(by omega)) (List.mem_take_iff_getElem.2 ⟨j,i4,i0⟩);simpa using this
 have u:=(aa.dh s).2;have A:df S x m:=s.at 1 i0;dsimp only;refine ai (λe=>absurd e (Int.not_lt.2 (z7 n))) λ_=>⟨a,i0,x.1,u.cell0 i0,?_⟩
 rw[A.seq];refine ai (λN=>?_) λN=>?_
 ·have g:gB m offs w ds name=(7,m,w,ds):=by unfold gB;rw[g0 (by rw[J];decide),g0 (by rw[f];decide),f9 N]
  rw[g];exact⟨i0,x,s⟩
 refine⟨a,i0,x,u.aU _ i0,(nY x m S A r).mono ?_⟩;rintro _ h3 ⟨y,L,pool,rfl,E,t,Y,R3⟩;have H3:=(s.comp R3).front;refine⟨y,i0,H3.alloc af i0 λa3 h4 Q=>?_⟩;have Q:=Q.bA;refine Q.storeAll af 0 i0 i0 (aV y) i0 i0 i0 i0 λh5 F=>?_;have F:aa B h0 h5 (au a3 44 (aV y)::dO 1 av pool::ak 3 y.2.2.2.2.2.2.1 1 av m.drives::ak 94 y.2.2.2.2.2.2.2 4 bI (L.map qH)::bp bz a pw (aV x) offs da w ds::cj x m::As):=F;refine⟨y.1,(F.box 0 i0).cell0 i0,?_⟩;dsimp only;rw[E.1,al (m.seq+1)];refine F.kg af 0 i0 i0 [xq xx (m.seq+1)] i0 i0 i0 j9 λW q=>?_;have q:aa B h0 W (au a3 44 (xq xx (m.seq+1)::(aV y).drop 1)::dO 1 av pool::ak 3 y.2.2.2.2.2.2.1 1 av m.drives::ak 94 y.2.2.2.2.2.2.2 4 bI (L.map qH)::bp bz a pw (aV x) offs da w ds::cj x m::As):=q;refine⟨_,(q.box 0 i0).cell i0,?_⟩;have X:ii L=ii m.aH:=by rw[<-t,qz]
 have q:=q.aX 6 [3,0,1,2,4,5];rw[al ((n:Int)+1)];refine(Xx (L.map qH) n oi oi q).mono ?_;rintro _ U ⟨o,rfl,P⟩;have P:aa B h0 U (au a3 44 (xq xx (m.seq+1)::(aV y).drop 1)::dO 1 av pool::ak 3 y.2.2.2.2.2.2.1 1 av m.drives::ak 94 o 4 bI ((L.map qH).take n++(L.map qH).drop (n+1))::bp bz a pw (aV x) offs da w ds::cj x m::As):=P.aX 6 [1,2,3,0,4,5];refine⟨o,i0,P.store af 0 i0 i0 7 [o] i0 i0 i0 j9 λh8 G=>?_⟩;obtain⟨b,d⟩:∃b:bU,b=(m.seq+1,y.2.1,y.2.2.1,y.2.2.2.1,y.2.2.2.2.1,y.2.2.2.2.2.1,y.2.2.2.2.2.2.1,o):=⟨_,rfl⟩
 have ed:b.2.2.2.2.2.2.1=y.2.2.2.2.2.2.1:=by rw[d]
 have eo:b.2.2.2.2.2.2.2=o:=by rw[d]
 obtain⟨L2,k⟩:∃L2,L2=L.take n++L.drop (n+1):=⟨_,rfl⟩
 have K:L2.map qH=(L.map qH).take n++(L.map qH).drop (n+1):=by rw[k,qU,List.map_take,List.map_drop]
 have G:aa B h0 h8 (au a3 44 (aV b)::dO 1 av pool::ak 3 b.2.2.2.2.2.2.1 1 av m.drives::ak 94 b.2.2.2.2.2.2.2 4 bI (L2.map qH)::bp bz a pw (aV x) offs da w ds::cj x m::As):=by rw[ed,eo,K,d];exact G
 refine⟨b,(G.box 0 i0).aU _ i0,?_⟩;obtain⟨M,z⟩:∃M,M=Mg m n:=⟨_,rfl⟩
 have V:aa B h0 h8 (cj b M::bp bz a pw (aV x) offs da w ds::cj x m::As):=aa.Fe (m:=M) (L:=L2) (pool:=pool) (by rw[z,d];exact⟨i0,E.2.1,E.2.2.1,E.2.2.2⟩)
  (by rw[z,k,qU,List.map_take,List.map_drop,t];rfl) (λp c=>Y p (by
   rw[k]at c;rcases qA.1 c with c|c
   ·exact zA c
   ·exact List.mem_of_mem_drop c)) (by rw[z];exact G.aX 6 [1,2,3,4,5])
 have O:cS M:=by
  rw[z];have sub:∀e,e∈m.aH.take n++m.aH.drop (n+1)->e∈m.aH:=λe l=>by
   rcases qA.1 l with l|l
   ·exact zA l
   ·exact List.mem_of_mem_drop l
  refine⟨r.dr,?_,?_⟩
  ·have:=r.ob;show(m.aH.take n++m.aH.drop (n+1)).length<=_;simp;omega
  ·exactλe l=>r.nm e (sub e l)
 refine(KN x m b M (As:=cj b M::As) (St.dS 0 i0 λ_ hq=>hq) r O i4 (V.aX 3 [1,2,0])).mono ?_;rintro _ ad ⟨rfl,y3,R⟩;have g:gB m offs w ds name=db m offs w ds M:=by unfold gB;rw[g0 (by rw[J];decide),g0 (by rw[f];decide),g0 N,D,z]
 rw[g];exact⟨_,i0,i0,y3,R.aX 3 [0,1]⟩
theorem aat(name:ByteArray)(c:bS m=eL)(H:aa B h0 h (bB a pw da offs w ds m::As)):
  ac xB 75 #[xt (dB a),xu name] h λv h'=>v=xq xx (gB m offs w ds name).1/\
   aa B h0 h' (bB a pw da offs (gB m offs w ds name).2.2.1 (gB m offs w ds name).2.2.2 (gB m offs w ds name).2.1::As):=by
 obtain⟨x,H⟩:=gf H;refine(VG name x m c H).mono ?_;rintro _ h' ⟨rfl,y,b⟩;exact⟨i0,lB b⟩
end
end Go.Qw
namespace Wl
structure Mv where
 kind:Int
 name:ByteArray
 data:bf
 slot:Int
 n:Int
 m:Int
 mask:Int
 keeps:aC
 torns:aC
def OC:List ByteArray:=[⟨#[97]⟩,⟨#[98]⟩,⟨#[99,97,116,45,55]⟩,⟨#[100]⟩,⟨#[101,49,50,51,52,53,54,55,56,57,48,49]⟩]
def mX(p:Int×Int×Int)(b:Mv):Prop:=
 (b.kind=1/\b.name∈OC/\(ii b.data:Int)<=3*(p.1*p.2.2)+1)∨((b.kind=2∨b.kind=3∨b.kind=5)/\b.name∈OC)∨b.kind=4∨
 (b.kind=6/\(0<=b.slot/\b.slot<9)/\6<=b.n/\b.n<66)∨(b.kind=7/\0<=b.slot/\b.slot<8)∨(b.kind=8/\(0<=b.slot/\b.slot<8)/\6<=b.n/\b.n<66)∨(b.kind=9/\0<=b.slot/\b.slot<8)∨
 (b.kind=10/\(-1<=b.n/\b.n<=7)/\-1<=b.m/\b.m<=68)∨(b.kind=11/\(0<=b.slot/\b.slot<7)/\(0<=b.n/\b.n<40)/\(0<=b.m/\b.m<61)/\0<=b.mask/\b.mask<4294967296)
def VH(b:Mv):Prop:=b=⟨b.kind,if b.kind=1∨b.kind=2∨b.kind=3∨b.kind=5 then b.name else⟨#[]⟩,if b.kind=1 then b.data else[],if b.kind=6∨b.kind=7∨b.kind=8∨b.kind=9∨b.kind=11 then b.slot else 0,
 if b.kind=6∨b.kind=8∨b.kind=10∨b.kind=11 then b.n else 0,if b.kind=10∨b.kind=11 then b.m else 0,if b.kind=11 then b.mask else 0,[],[]⟩
end Wl
namespace Go.Vc
open Go Wl
abbrev ako(s:ByteArray):bg:=[xu s]
abbrev VI:=Int×ByteArray×Sl×Int×Int×Int×Int×Sl×Sl
abbrev oR(x:VI):bg:=[xq xx x.1,xu x.2.1,x.2.2.1,xq xx x.2.2.2.1,xq xx x.2.2.2.2.1,xq xx x.2.2.2.2.2.1,xq xz x.2.2.2.2.2.2.1,x.2.2.2.2.2.2.2.1,x.2.2.2.2.2.2.2.2]
abbrev mvV(x:VI):Value:=xw #[xq xx x.1,xu x.2.1,x.2.2.1,xq xx x.2.2.2.1,xq xx x.2.2.2.2.1,xq xx x.2.2.2.2.2.1,xq xz x.2.2.2.2.2.2.1,x.2.2.2.2.2.2.2.1,x.2.2.2.2.2.2.2.2]
def mE:jn VI Mv:=⟨λh q a b=>(a.1=b.kind/\a.2.1=b.name/\a.2.2.2.1=b.slot/\a.2.2.2.2.1=b.n/\a.2.2.2.2.2.1=b.m/\a.2.2.2.2.2.2.1=b.mask/\a.2.2.1.len<=a.2.2.1.cap)/\Seq h q a.2.2.1 1 aF b.data/\Seq h q a.2.2.2.2.2.2.2.1 1 av b.keeps/\Seq h q a.2.2.2.2.2.2.2.2 1 av b.torns,
 λa d=>⟨a.1,a.2.1.aj d,a.2.2.1.aj d,a.2.2.2.aj d⟩,λa c=>⟨a.1,a.2.1.mono c,a.2.2.1.mono c,a.2.2.2.mono c⟩⟩
theorem ajA:∀x,∀c∈oR x,c.oneCell'=eL:=by intro x c a;simp[oR]at a;rcases a with rfl|rfl|rfl|rfl|rfl|rfl|rfl|rfl|rfl<;>rfl
end Go.Vc
namespace Go.Qw
open Go Go.Vc Go.Proofs Wl
abbrev akp:bY C.toDi 37 9 1 [xu ⟨#[]⟩] 16:=⟨_,_,i0,i0,i0,i0,i0,i0⟩
abbrev zMv:bg:=[xq xx 0,xu ⟨#[]⟩,xr eH 0 0,xq xx 0,xq xx 0,xq xx 0,xq xz 0,xr eH 0 0,xr eH 0 0]
abbrev eMv:bY C.toDi 132 135 9 zMv 128:=⟨_,_,i0,i0,i0,i0,i0,i0⟩
theorem xT(n:Int)(h:f8):ac xB 211 #[xq xx n] h λv h'=>∃s∈OC,v=xu s/\Sp h h' []:=by refine Bw n ?_;unfold pN;refine(Sp.refl h).lit af ako akp i0 OC i0 i5 j1 λf b a=>?_;refine(cm n 5 b i5 i5).mono ?_;rintro _ d ⟨rfl,rfl⟩;have c:=w5 n (show(5:Int)≠0 by decide);have e:=wm n (show(0:Int)<5 by decide);have g:ii OC=5:=rfl;refine⟨_,i0,(a.seq 0 i0 λ_=>rfl).bH (n%5).toNat i4 i4 (OC[(n%5).toNat]'(by omega)) i0 ⟨_,qg _,i0,.zip a.aj⟩⟩
theorem aau(p:Pm)(k a b:Int)(h:f8)(Z:bP p=eL):ac xB 143 #[kS p,xq xx k,xq xx a,xq xx b] h λv h'=>∃(x:VI) (m:Mv),v=mvV x/\mX p m/\VH m/\Sp h h' [EA mE x m]:=by
 refine Bt p k a b ?_;unfold pK;obtain⟨⟨O,P⟩,_,z1,Q⟩:=(cu p).1 Z;have U:1<=p.1*p.2.2/\p.1*p.2.2<=16*24:=⟨yw O z1 i4 i4,yw P Q i4 i4⟩
 refine(Sp.refl h).boxed λI h1 R=>R.alloc af i0 λA H d=>?_;have d:Sp h H [au I 24 [xq xx p.1,xq xx p.2.1,xq xx p.2.2],au A 135 zMv]:=d;have fin:∀(kind slot n m c:Int) (name:ByteArray) {h':f8},Sp h h' [au I 24 [xq xx p.1,xq xx p.2.1,xq xx p.2.2],au A 135 zMv]->mX p ⟨kind,name,[],slot,n,m,c,[],[]⟩->VH ⟨kind,name,[],slot,n,m,c,[],[]⟩->
   ag xB (qf 135 (xt (dB A)) (xw #[xq xx kind,xu name,xr eH 0 0,xq xx slot,xq xx n,xq xx m,xq xz c,xr eH 0 0,xr eH 0 0])) h' λ_ f=>
    ∃r:VI,aq f A 0 (oR r)/\∃(x:VI) (m:Mv),mvV r=mvV x/\mX p m/\VH m/\Sp h f [EA mE x m]:=by
  intro kind slot n m c name h' X D S;refine X.storeAll af 1 i0 i0 (oR (kind,name,⟨eH,0,0⟩,slot,n,m,c,⟨eH,0,0⟩,⟨eH,0,0⟩)) i0 i0 i0 i0 λf w=>?_;refine⟨(kind,name,⟨eH,0,0⟩,slot,n,m,c,⟨eH,0,0⟩,⟨eH,0,0⟩),(w.box 1 i0).aU _ i0,_,_,i0,D,S,?_⟩;have H3:Sp h f []:=.zip w.aj;exact H3.comp (.one (be.refl _ _) ⟨⟨i0,i0,i0,i0,i0,i0,qm _⟩,Seq.nil _ _ _ _ _ _,Seq.nil _ _ _ _ _ _,Seq.nil _ _ _ _ _ _⟩)
 refine(cm k 26 H i5 i5).mono ?_;rintro _ h3 ⟨rfl,rfl⟩;have k0:=w5 k (show(26:Int)≠0 by decide);have k1:=wm k (show(0:Int)<26 by decide);have W:∀(x n:Int),0<n->0<=x%n/\x%n<n:=λx n M=>⟨w5 x i4,wm x M⟩
 refine⟨_,i0,ai (λ_=>?_) λ_=>?_⟩
 ·refine⟨i5,p.1,(d.box 0 i0).cell0 i0,p.2.2,(d.box 0 i0).cell i0,(xT a h3).mono ?_⟩;rintro _ e ⟨s,i,rfl,g⟩;have u:=d.up g.aj;have K:qc xx ((qc xx ((qc xx ((3:Int)*p.1))*p.2.2))+(2:Int))=3*(p.1*p.2.2)+2:=by rw[al (3*p.1),Int.mul_assoc,al (3*(p.1*p.2.2)),al _]
  refine⟨s,i0,⟨(u.box 0 i0).cell i0,(u.box 0 i0).cell0 i0,trivial⟩,?_⟩;rw[K];refine(cm _ (3*(p.1*p.2.2)+2) e i4 i4).mono ?_;rintro _ j ⟨rfl,rfl⟩;obtain⟨q,y⟩:∃q,q=qc xx (wy a 5)%(3*(p.1*p.2.2)+2):=⟨_,rfl⟩
  have F:=W (qc xx (wy a 5)) (3*(p.1*p.2.2)+2) i4;rw[<-y]at F⊢;obtain⟨N,T⟩:∃N:Nat,q=N:=⟨q.toNat,i4⟩
  subst T;refine⟨_,i0,⟨(u.box 0 i0).cell i0,(u.box 0 i0).cell0 i0,trivial⟩,(ZD N b j i4).mono ?_⟩;rintro _ L ⟨r,l,rfl,hl,J⟩;have B:=u.comp J;have o:=(J.own 0 i0).cap;refine⟨r,i0,⟨(B.box 0 i0).cell i0,(B.box 0 i0).cell0 i0,trivial⟩,?_⟩;refine B.storeAll af 1 i0 i0 (oR (1,s,r,0,0,0,0,⟨eH,0,0⟩,⟨eH,0,0⟩)) i0 i0 i0 i0 λh7 G=>?_;refine⟨trivial,(1,s,r,0,0,0,0,⟨eH,0,0⟩,⟨eH,0,0⟩),(G.box 1 i0).aU _ i0,_,(⟨1,s,l,0,0,0,0,[],[]⟩:Mv),i0,.inl ⟨i0,i,i6⟩,i0,?_⟩;have V:=G.cG [2];exact V.fZ 0 i0 λq y=>⟨⟨i0,i0,i0,i0,i0,i0,o⟩,y.1.seq (λ_=>rfl) y.2,Seq.nil _ _ _ _ _ _,Seq.nil _ _ _ _ _ _⟩
 refine ai (λ_=>(xT a h3).mono ?_) λ_=>ai (λ_=>(xT a h3).mono ?_) λ_=>cy (λ_=>?_) λ_=>cy (λ_=>(xT a h3).mono ?_) λ_=>cy (λ_=>?_) λ_=>cy (λ_=>?_) λ_=>cy (λ_=>?_) λ_=>cy (λ_=>?_) λ_=>ai (λ_=>?_) λ_=>cy (λ_=>?_) λ_=>?_
 ·rintro _ e ⟨s,i,rfl,g⟩;exact⟨s,i0,fin 2 0 0 0 0 s (d.up g.aj) (.inr (.inl ⟨.inl i0,i⟩)) i0⟩
 ·rintro _ e ⟨s,i,rfl,g⟩;exact⟨s,i0,fin 3 0 0 0 0 s (d.up g.aj) (.inr (.inl ⟨.inr (.inl i0),i⟩)) i0⟩
 ·exact fin 4 0 0 0 0 _ d (.inr (.inr (.inl i0))) i0
 ·rintro _ e ⟨s,i,rfl,g⟩;exact⟨s,i0,fin 5 0 0 0 0 s (d.up g.aj) (.inr (.inl ⟨.inr (.inr i0),i⟩)) i0⟩
 ·refine(cm a 9 h3 i5 i5).mono ?_;rintro _ e ⟨rfl,rfl⟩;refine⟨_,i0,(cm b 60 e i5 i5).mono ?_⟩;rintro _ j ⟨rfl,rfl⟩;have t:=W a 9 i5;have E:=W b 60 i5;refine⟨_,i0,?_⟩;dsimp only;rw[al (6+b%60)];exact fin 6 _ _ 0 0 _ d (.inr (.inr (.inr (.inl ⟨i0,t,i6,i6⟩)))) i0
 ·refine(cm a 8 h3 i5 i5).mono ?_;rintro _ _ ⟨rfl,rfl⟩;exact⟨_,i0,fin 7 _ 0 0 0 _ d (.inr (.inr (.inr (.inr (.inl ⟨i0,W a 8 i5⟩))))) i0⟩
 ·refine(cm a 8 h3 i5 i5).mono ?_;rintro _ e ⟨rfl,rfl⟩;refine⟨_,i0,(cm b 60 e i5 i5).mono ?_⟩;rintro _ j ⟨rfl,rfl⟩;have t:=W a 8 i5;have E:=W b 60 i5;refine⟨_,i0,?_⟩;dsimp only;rw[al (6+b%60)];exact fin 8 _ _ 0 0 _ d (.inr (.inr (.inr (.inr (.inr (.inl ⟨i0,t,i6,i6⟩)))))) i0
 ·refine(cm a 8 h3 i5 i5).mono ?_;rintro _ _ ⟨rfl,rfl⟩;exact⟨_,i0,fin 9 _ 0 0 0 _ d (.inr (.inr (.inr (.inr (.inr (.inr (.inl ⟨i0,W a 8 i5⟩))))))) i0⟩
 ·refine(cm a 3 h3 i5 i5).mono ?_;rintro _ e ⟨rfl,rfl⟩;refine⟨_,i0,(cm b 20 e i5 i5).mono ?_⟩;rintro _ j ⟨rfl,rfl⟩;have t:=W a 3 i5;have E:=W b 20 i5;exact⟨_,i0,fin 10 0 _ _ 0 _ d (.inr (.inr (.inr (.inr (.inr (.inr (.inr (.inl ⟨i0,i6,i6,i6⟩)))))))) i0⟩
 ·refine(cm a 9 h3 i5 i5).mono ?_;rintro _ e ⟨rfl,rfl⟩;refine⟨_,i0,(cm b 70 e i5 i5).mono ?_⟩;rintro _ j ⟨rfl,rfl⟩;have t:=W a 9 i5;have E:=W b 70 i5;refine⟨_,i0,?_⟩;dsimp only;rw[al (a%9-1),al (b%70-1)];exact fin 10 0 _ _ 0 _ d (.inr (.inr (.inr (.inr (.inr (.inr (.inr (.inl ⟨i0,i6,i6,i6⟩)))))))) i0
 ·refine(cm a 7 h3 i5 i5).mono ?_;rintro _ e ⟨rfl,rfl⟩;refine⟨_,i0,i5,(cm _ 40 e i5 i5).mono ?_⟩;rintro _ j ⟨rfl,rfl⟩;refine⟨_,i0,(cm b 61 j i5 i5).mono ?_⟩;rintro _ L ⟨rfl,rfl⟩;have Y:∀z:Int,0<=qc xz z/\qc xz z<4294967296:=λz=>by rw[Ql];have:=(qD 32 z).isLt;omega
  exact⟨_,i0,fin 11 _ _ _ _ _ d (.inr (.inr (.inr (.inr (.inr (.inr (.inr (.inr ⟨i0,W a 7 i5,W _ 40 i5,W b 61 i5,Y _⟩)))))))) i0⟩
theorem ady(p:Pm)(k a b:Int)(h:f8)(c:bP p=eL):ac xB 143 #[kS p,xq xx k,xq xx a,xq xx b] h λv h'=>∃(x:VI) (m:Mv),v=mvV x/\mX p m/\Sp h h' [EA mE x m]:=
 (aau p k a b h c).mono λ_ _ ⟨x,m,e,o,_,H⟩=>⟨x,m,e,o,H⟩
theorem aav(p:Pm)(s:Sl)(l:aC)(most:Nat)(h:f8)(Q:bP p=eL)(f:Rd h s 1 av l)(V:most<=100):
  ac xB 74 #[kS p,s,xq xx most,xv eR] h λv h'=>∃(r:Sl) (L:List Mv),v=r/\(∀m∈L,mX p m)/\L.length<=most/\Sp h h' [cg 135 r 9 oR mE L]:=by
 refine AE p s most eR ?_;unfold oI;have R:=f.len;refine(Sp.refl h).boxed λy P w=>?_;have w:Sp h P [au y 24 [xq xx p.1,xq xx p.2.1,xq xx p.2.2]]:=w;have fin:∀{h':f8} (r:Sl) (L:List Mv),(∀m∈L,mX p m)->ii L<=most->Sp h h' [au y 24 [xq xx p.1,xq xx p.2.1,xq xx p.2.2],cg 135 r 9 oR mE L]->∃(i:Sl) (L:List Mv),(Value.slice r.ptr r.len r.cap)=xr i.ptr i.len i.cap/\(∀m∈L,mX p m)/\L.length<=most/\Sp h h' [cg 135 i 9 oR mE L]:=λr L j M K=>⟨r,L,i0,j,M,K.cG [1]⟩
 refine bj ?_;refine aA (λt:Sl×List Mv=>(t.1,((3*ii t.2:Nat):Int))) (λt h'=>(∀m∈t.2,mX p m)/\t.2.length<=most/\Sp h h' [au y 24 [xq xx p.1,xq xx p.2.1,xq xx p.2.2],cg 135 t.1 9 oR mE t.2]) (λt=>most-ii t.2) (⟨eH,0,0⟩,[]) i0 ⟨i9,i9,w.GZ 135 9 oR mE⟩ ?_;rintro⟨o,L⟩ J ⟨b,D,c⟩;dsimp only at b D c⊢;obtain⟨k,B⟩:∃k,k=ii L:=⟨_,rfl⟩
 rw[<-B]at D⊢;obtain⟨Y,W⟩:=c.YE 1 rfl;refine bj ?_;rw[al (((3*k:Nat):Int)+2)];refine ai (λS=>?_) λ_=>fin o L b i4 c;refine ai (λU=>?_) λ_=>fin o L b i4 c;have H:3*k+2<ii l:=i4
 have I:k<most:=i4
 refine bj (bj (bC (λe=>j0) λ_=>bC (λe=>j0) λ_=>?_));have d:=f.up c.aj;obtain⟨G,z,j,_,_⟩:=f.elem (3*k) l[3*k] (qd i4);have a:∀{h':f8},Rd h' s 1 av l->f7 h' ((⟨G,z,eH⟩:eX).add (((3*k:Nat):Int).toNat*1))=dB (xq xx l[3*k]):=λ{h'} hr=>by
  obtain⟨T,A,g,_,u3⟩:=hr.elem (3*k) l[3*k] (qd i4);rw[j]at g;injection g with g
  injection g with g u2
  subst g;subst u2;rw[ql,add_eq];have E:=u3.1;rw[add_eq,wN]at E;exact E
 refine⟨p,(c.box 0 i0).aU _ i0,⟨G,z,eH⟩,⟨j,i4,i4⟩,l[3*k],a d,i5,?_⟩;rw[al (((3*k:Nat):Int)+1)];refine d.bH (3*k+1) i4 i4 l[3*k+1] i0 ?_;refine d.bH (3*k+2) i4 i4 l[3*k+2] i0 ?_;refine(ady p _ _ _ J Q).mono ?_;rintro _ h3 ⟨x,m,rfl,q,N⟩;have n:=c.comp N;refine⟨x,i0,⟨a (f.up n.aj),trivial⟩,?_⟩;refine n.nQ af oR eMv i0 [x] i0 (show 1*9<=2^20 by decide) j1 ⟨a (f.up n.aj),trivial⟩ ?_;refine n.tE af 1 2 i5 i0 i0 eMv i0 i5 (λ_=>rfl) ajA j1 i5 i4 λA X F=>?_;refine⟨⟨a (f.up F.aj),trivial⟩,(A,L++[m]),?_,⟨λO u=>?_,lz,F.cG [0,1]⟩,lz⟩
 ·dsimp only;rw[al (((3*k:Nat):Int)+3),qx,<-B];rfl
 ·rcases qA.1 u with h|h
  ·exact b O h
  ·rw[qC.1 h];exact q
theorem mX.put{p:Pm}{b:Mv}(h:mX p b)(a:b.kind=1):b.name∈OC/\(ii b.data:Int)<=3*(p.1*p.2.2)+1:=by
 unfold mX at h;rw[a]at h;rcases h with h|h|h|h|h|h|h|h|h
 ·exact h.2
 ·exact absurd h.1 i5
 ·exact absurd h i5
 all_goals exact absurd h.1 i5
theorem afK:∀s∈OC,s.size<=12:=j4
theorem ahT{p:Pm}{extra:Int}{l:aC}(k:bP p=eL)(g:0<=extra/\extra<=16)(f:1<=ii l/\l.length<=24)(h:∀x∈l,1<=x/\x<=512):
  tl p extra l=0/\bv l l.length=(qy l.length).map λi:Nat=>(i:Int):=by
 have d:∀i (a:i<ii l),1<=l.getD i 0/\l.getD i 0<=512:=λi a=>by rw[fu 0 a];exact h _ (qg a)
 have h0:bv l l.length=(qy l.length).map λi:Nat=>(i:Int):=by unfold bv;refine zX.2 λy b=>?_;obtain⟨i,a,rfl⟩:=qu.1 b;have a:=qJ.1 a;have:=d i a;rw[ql];exact g9 i4
 refine⟨?_,h0⟩;have j:(eO l).2=eL:=by have c:l.all (fq · 0 512)=eL:=q9.2 λy b=>(kG _ _ _).2 ⟨by have:=h y b;omega,(h y b).2⟩;unfold eO;rw[f9 c,h0];simp;omega
 have e:fq extra 0 16=eL:=(kG _ _ _).2 g;have h3:((bv l l.length).any λi=>decide (l.getD i.toNat 0<(ii (bu (cH p extra l)):Int)))=eR:=by refine wF.2 λy b=>?_;rw[h0]at b;obtain⟨i,a,rfl⟩:=qu.1 b;have a:=qJ.1 a;have m:=Gx p extra l f.2;have:=d i a;rw[ql,decide_eq_true_eq];omega
 unfold tl;rw[j,k,e,h3];rfl
theorem adz{p:Pm}{extra:Int}{l:aC}{D:aJ}{m:aG}(n:m=cH p extra l)(w:tl p extra l=0)(v:ii l<=64)(j:ii D=64)
  (u:∀s,bh D s=if s∈bv l l.length then dB ⟨(l.getD s.toNat 0).toNat,bu m,0,[],eR,eR⟩else eH) (C:Int->bf):gA m C D/\Full m C D/\Low m D:=by
 have b:bS m=eL:=by rw[n];exact LS v w
 have i:m.drives=bv l l.length:=by rw[n];rfl
 have o:m.aH=[]:=by rw[n];rfl
 have f:∀k d,bh D k=dB d->∀c∈d.l,c∈bu m:=λk d a c f=>by
  rw[u]at a;split at a
  ·injection a with a;subst a;exact f
  ·cases a
 refine⟨⟨b,j,λk d a c h=>JQ C b (f k d a c h),λe g=>by rw[o]at g;cases g⟩,⟨λk q=>?_,λe g=>by rw[o]at g;cases g⟩,λk d a c h r t=>?_⟩
 ·rw[i]at q;refine⟨_,by rw[u,f9 q],i0,?_⟩;unfold kY;rw[b,wg];exact q9.2 λc f=>g9 f
 ·rw[tJ (f k d a c h)]at t;cases t
theorem Yn{m:aG}{i:Nat}{e:Wl.cv}(h:e∈(Mg m i).aH):e∈m.aH:=by
 have h:e∈m.aH.take i++m.aH.drop (i+1):=h;rcases qA.1 h with h|h
 ·exact zA h
 ·exact List.mem_of_mem_drop h
theorem ajC(m:aG)(i:Nat):(Mg m i).aH=m.aH.eraseIdx i:=by show m.aH.take i++m.aH.drop (i+1)=_;rw[List.eraseIdx_eq_take_drop_succ]
theorem afL{m:aG}(g:bS m=eL)(n:m.seq<=2147483646)(i:Nat):bS (Mg m i)=eL:=by
 obtain⟨h,f,h3,k,d,b,c⟩:=(cD m).1 g;obtain⟨o,j,a3,a4⟩:=(fF m).1 h;have a:(Mg m i).aH.Sublist m.aH:=by rw[ajC];exact List.eraseIdx_sublist ..
 refine(cD _).2 ⟨(fF _).2 ⟨⟨?_,?_⟩,j,a3,a4⟩,f,h3,zf a.length_le k,λe l=>?_,b.sublist a,c.sublist a⟩
 ·show 1<=m.seq+1;omega
 ·show m.seq+1<=_;omega
 ·exact(ig _ _).2 ((ig _ _).1 (d e (Yn l)))
structure Inv (m:aG) (C:Int->bf) (ds:aJ) (N:Nat):Prop where
 sto:gA m C ds
 full:Full m C ds
 low:Low m ds
 nm:∀e∈m.aH,e.name∈OC
 dr:m.drives≠[]
 seq:m.seq<=1+N
 nx:m.next<=N
section
variable {B:aD} {h0 h:f8} {As:List HP}
end
end Go.Qw
namespace Wl
open Go Go.Qw Go.Vc
end Wl
namespace Go.Qw
open Go Go.Vc Go.Proofs Wl
section
variable {B:aD} {h0 h:f8} {As:List HP} {a pw v:eX} {offs:Int} {da:List aO} {w:Pow} {ds:aJ} {mc:bg}
end
section
variable {B:aD} {h0 h:f8} {As:List HP} {a pw v:eX} {offs:Int} {da:List aO} {w:Pow} {ds:aJ} {mc:bg}
end
section
variable {B:aD} {h0 h:f8} {As:List HP} {a pw v:eX} {offs:Int} {da:List aO} {w:Pow} {ds:aJ} {mc:bg}
end
end Go.Qw
namespace Wl
open Go Go.Qw Go.Vc
end Wl
namespace Go.Qw
open Go Go.Vc Go.Proofs Wl
section
variable {B:aD} {h0 h:f8} {As:List HP} {a pw v:eX} {offs:Int} {da:List aO} {w:Pow} {ds:aJ} {mc:bg}
end
end Go.Qw
namespace Wl
open Go Go.Qw Go.Vc
end Wl
namespace Go.Qw
open Go Go.Vc Go.Proofs Wl
section
variable {B:aD} {h0 h:f8} {As:List HP} {a pw v:eX} {offs:Int} {da:List aO} {w:Pow} {ds:aJ} {mc:bg}
end
end Go.Qw
namespace Wl
open Go Go.Qw Go.Vc
def tV(m:aG)(offs:Int)(w:Pow)(ds:aJ)(slot:Int):Int×aJ:=
 if eF w offs then(14,ds)else if slot∉aT ds m.drives then(5,ds)else
 match bh ds slot with
 |some d=>(0,bQ ds slot d.Et)
 |none=>(5,ds)
end Wl
namespace Go.Qw
open Go Go.Vc Go.Proofs Wl
section
variable {B:aD} {h0 h:f8} {As:List HP} {a pw:eX} {offs:Int} {da:List aO} {w:Pow} {ds:aJ} {m:aG}
theorem afM(slot:Int)(j:bS m=eL)(H:aa B h0 h (bB a pw da offs w ds m::As)):
  ac xB 28 #[xt (dB a),xq xx slot] h λv h'=>v=xq xx (tV m offs w ds slot).1/\aa B h0 h' (bB a pw da offs w (tV m offs w ds slot).2 m::As):=by
 obtain⟨x,H⟩:=gf H;by_cases i:eF w offs=eL∨slot∉aT ds m.drives
 ·refine(Vb slot x m (H.at 1 i0) (kb j) H i).mono ?_;rintro _ h' ⟨rfl,R⟩;by_cases b:eF w offs=eL
  ·have e:tV m offs w ds slot=(14,ds):=by unfold tV;rw[f9 b]
   rw[e,f9 b];exact⟨i0,lB (H.up R.aj)⟩
  ·have g:slot∉aT ds m.drives:=i.resolve_left b;have e:tV m offs w ds slot=(5,ds):=by unfold tV;rw[g0 b,f9 g]
   rw[e,g0 b];exact⟨i0,lB (H.up R.aj)⟩
 ·have b:¬eF w offs=eL:=λh=>i (.inl h);have g:¬slot∉aT ds m.drives:=λh=>i (.inr h);have f:slot∈aT ds m.drives:=Decidable.not_not.1 g;obtain⟨q,d,c,h3⟩:=kr f;obtain⟨n,rfl,p⟩:=kW c;have k:ds[n]?=dB (dB d):=by
   unfold bh at c;rw[f9 i4,ql]at c;cases hX:ds[n]? with
   |none=>rw[hX]at c;cases c
   |some o=>rw[hX]at c;exact congrArg dB c
  refine(WR n x m (H.at 1 i0) (kb j) H j7 f k).mono ?_;rintro _ h' ⟨rfl,l⟩;have e:tV m offs w ds (n:Int)=(0,ds.set n (dB d.Et)):=by unfold tV;rw[g0 b,g0 g,c];simp only[bQ,ql]
  rw[e];exact⟨i0,lB l⟩
end
end Go.Qw
namespace Wl
open Go Go.Qw Go.Vc
def SG(a:Int)(k:Nat):UInt8:=b8 (qX a (2^(8*k)))
def fB(c:bf)(at_:Nat)(a:Int):Nat->bf
 |0=>c
 |k+1=>(fB c at_ a k).set (at_+k) ((fB c at_ a k).getD (at_+k) 0^^^SG a k)
def Cr(c:bf)(at_:Int)(a:Int):bf:=fB c at_.toNat a 4
theorem Ct(c:bf)(a:Nat)(b:Int):∀k,ii (fB c a b k)=ii c
 |0=>rfl
 |k+1=>by unfold fB;rw[zh];exact Ct c a b k
def Ei(d:bt)(i at_ a:Int):Bool:=decide ((0<=i/\i<(ii d.l:Int))/\(0<=at_/\at_<=60)/\a≠0)
def bt.lK(d:bt)(i at_ a:Int):bt:=if Ei d i at_ a then{d with l:=d.l.set i.toNat (Cr (d.l.getD i.toNat []) at_ a)}else d
end Wl
namespace Go.Vc
theorem VJ{α:Type}{e k:Nat}{f:α->bg}{rs:List Sl}{b:List (List α)}(h:ii rs=ii b)(n:Nat)(d:n<ii b)(x:List α):bF e k f rs (b.set n x)=(bF e k f rs b).set n (ak e (rs[n]'(by omega)) k f x):=by
 apply List.ext_getElem?;intro j;by_cases c:j<ii b
 ·rw[fX (by rw[zh];exact h) j (by rw[zh];exact c)];by_cases a:n=j
  ·subst a;rw[zl (by rw[mO h];exact d),yl]
  ·rw[List.getElem?_set_ne a,fX h j c,List.getElem_set_ne a]
 ·rw[qQ (by rw[mO (by rw[zh];exact h),zh];omega),qQ (by rw[zh,mO h];omega)]
end Go.Vc
namespace Go.Qw
open Go Go.Vc Go.Proofs Wl
section
variable {B:aD} {h0 h:f8} {As:List HP} {a pw:eX} {d:bt}
theorem aaw(i at_ f:Int)(hm:0<=f/\f<2^32)(H:aa B h0 h (ji pw a d::As)):
  ac xB 78 #[xt (dB a),xq xx i,xq xx at_,xq xz f] h λv h'=>v=xv (Ei d i at_ f)/\aa B h0 h' (ji pw a (d.lK i at_ f)::As):=by
 refine Dv (dB a) i at_ f ?_;unfold sC;obtain⟨ok,s,q,L⟩:=aa.rS H;have ab:=(aa.Ai (L.aX 2 [1,0])).1;have W:=L.box 0 i0;have E:Ei d i at_ f=eR->(Value.bool eR=xv (Ei d i at_ f)/\aa B h0 h (ji pw a (d.lK i at_ f)::As)):=λe=>by
  unfold bt.lK;rw[e];exact⟨i0,H⟩
 have g:¬((0<=i/\i<(ii d.l:Int))/\(0<=at_/\at_<=60)/\f≠0)->Ei d i at_ f=eR:=λh=>hU h;refine bj (bC (λe=>j0) λ_=>ai (λe=>E (g i4)) λe1=>⟨a,i0,s,W.cell i0,ai (λe=>E (g i4)) λe2=>ai (λe=>E (g i4)) λe3=>ai (λe=>E (g i4)) λe4=>cy (λe=>E (g i4)) λY=>?_⟩);have X:0<=i/\i<(ii d.l:Int):=i4
 have o:Ei d i at_ f=eL:=g9 ⟨X,⟨i4,i4⟩,Y⟩;obtain⟨n,rfl⟩:∃n:Nat,i=n:=⟨i.toNat,i4⟩
 obtain⟨p,rfl⟩:∃p:Nat,at_=p:=⟨at_.toNat,i4⟩
 have P:n<ii d.l:=i4
 have w:d.l[n].length=64:=ok.cell _ (qg P);obtain⟨c,G⟩:∃c,c=d.l[n]:=⟨_,rfl⟩
 have U:aa B h0 h (dK 34 s 5 1 aF (d.l.set n (fB c p f 0))::au a 156 (fo pw d s q)::eE q d.laid::As):=by
  have e:d.l.set n (fB c p f 0)=d.l:=by show d.l.set n c=d.l;rw[G];exact List.set_getElem_self _
  rw[e];exact L.aX 3 [1,0,2]
 refine aA (λk:Nat=>(k:Int)) (λk h'=>k<=4/\aa B h0 h' (dK 34 s 5 1 aF (d.l.set n (fB c p f k))::au a 156 (fo pw d s q)::eE q d.laid::As)) (λk=>4-k) 0 i0 ⟨i4,U⟩ ?_;rintro k h3 ⟨hk,J⟩;dsimp only;refine ai (λe=>?_) λe=>?_
 ·have A:k<4:=i4
  have O:=J.box 1 i0;obtain⟨rs,j,I⟩:=J.Es;have Q:=(J.Ai).1;have Z:ii (d.l.set n (fB c p f k))=ii d.l:=zh;have m:n<ii (d.l.set n (fB c p f k)):=i4
  have u:(bF 5 1 aF rs (d.l.set n (fB c p f k)))[n]?=dB (ak 5 (rs[n]'(by omega)) 1 aF (fB c p f k)):=by rw[fX j n m,yl]
  have t:((ak 34 s 1 bw rs::bF 5 1 aF rs (d.l.set n (fB c p f k)))++(au a 156 (fo pw d s q)::eE q d.laid::As))[n+1]?=dB (ak 5 (rs[n]'(by omega)) 1 aF (fB c p f k)):=by rw[zy,qw,qo (by rw[mO j];exact m)];exact u
  have V:ii (fB c p f k)=64:=by rw[Ct,G];exact w
  have T:=I.own (n+1) t;refine⟨a,i0,s,O.cell i0,?_⟩;have K:=I.seq 0 i0 λ_=>rfl;refine K.mq n i0 i4 ?_;obtain⟨z,R⟩:∃z,z=(fB c p f k)[p+k]'(by omega):=⟨_,rfl⟩
  have M:qc xx ((p:Int)+(k:Int))=((p+k:Nat):Int):=j3
  rw[M];have F:Vc.Seq h3 (λb=>b<h3.size) (rs[n]'(by omega)) 1 aF (fB c p f k):=I.seq (n+1) t λ_=>rfl;refine F.bH (p+k) i0 i4 (z.toNat:Int) (by rw[R];rfl) ?_;refine⟨j3,?_⟩;have y:min (qc xx ((8:Int)*(k:Int))).toNat (qk xz)=8*k:=by rw[al _];show min ((8:Int)*k).toNat 32=8*k;omega
  rw[y,ey (qX f (2^(8*k)))];have N:=nE z (b8 (qX f (2^(8*k))));rw[N];refine I.set af (n+1) t (λ_=>rfl) i0 (p+k) i0 i4 (z^^^SG f k) i0 i0 i0 λh5 S=>⟨trivial,?_⟩
  refine⟨k+1,js,⟨i4,?_⟩,i4⟩;have r:fB c p f (k+1)=(fB c p f k).set (p+k) (z^^^SG f k):=by show(fB c p f k).set (p+k) ((fB c p f k).getD (p+k) 0^^^SG f k)=_;rw[fu 0,R]
  refine aa.He (rs:=rs) (by rw[zh];omega) ?_;have e:bF 5 1 aF rs (d.l.set n (fB c p f (k+1)))=(bF 5 1 aF rs (d.l.set n (fB c p f k))).set n (ak 5 (rs[n]'(by omega)) 1 aF (fB c p f (k+1))):=by rw[<-VJ j n m,yq]
  rw[e,r];rw[zy,zw,List.set_append_left _ _ (by rw[mO j];exact m)]at S;exact S
 ·have A:k=4:=i4
  subst A;have D:d.lK (n:Int) (p:Int) f={d with l:=d.l.set n (fB c p f 4)}:=by unfold bt.lK;rw[o,f9 i0,ql,fu [] P,<-G];rfl
  refine⟨by rw[o],?_⟩;rw[D];refine aa.AT (s:=s) (b:=q) ⟨by show d.wait<=_;rw[zh];exact ok.wait,by show(d.l.set n _).length<=_;rw[zh];exact ok.len,ok.room,λx N=>?_,ok.laid,ok.cellL⟩ (J.aX 3 [1,0,2]);rcases zS N with h|rfl
  ·exact ok.cell x h
  ·rw[Ct,G];exact w
end
section
variable {B:aD} {h0 h:f8} {As:List HP} {a pw:eX} {offs:Int} {da:List aO} {w:Pow} {ds:aJ} {m:aG}
end
end Go.Qw
