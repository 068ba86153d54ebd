/- Lemmas for the proof of the law; no condition. -/
import Derived.Test.YtfjdddcdkcbocaaGreatDoorKA
import Derived.Test.YtfjdddcdkcbocaaGreatDoorShelfB
set_option maxHeartbeats 2000000
set_option linter.unusedVariables false
set_option maxHeartbeats 2000000
set_option linter.unusedSimpArgs false
open Go.Proofs.Tryz renaming prog -> xZ
open List renaming contains_eq_mem -> vA, find?_some -> vL, mem_iff_getElem -> yR, pairwise_map -> vp, range -> qz, replicate -> qi, replicate_succ' -> yS, zipWith -> zn, zipWith_append -> vH
open Go.Value renaming agg -> xU, bool -> xT, int -> xP, pointer -> xR, slice -> xQ, string -> xS
open Go.IntKind renaming bits -> qx, i64 -> xV, signed -> yG, u32 -> xX, u64 -> xY, u8 -> xW, wrap -> qe
open Bool renaming eq_false_iff -> xg
open Nat renaming lt_trichotomy -> vY
open Int renaming fdiv -> zr, tmod -> xH
open Option renaming some -> wm
open Go.Instr renaming storeAt -> qL
open Prod renaming fst -> qF, snd -> zk
open BitVec renaming ofInt -> qH, ofNat -> yP
open UInt8 renaming lt_iff_toNat_lt -> wZ
set_option maxRecDepth 100000
open Option renaming some -> cO, none -> dB
open Bool renaming true -> eH, false -> eL
open Go renaming Addr -> fY
open Go.Qw renaming cellOf -> hU, Heap -> hY
open List renaming length -> n1
open Go.Qw.cT renaming two -> E8, n -> E9, inn -> F8, loop -> G0, join -> G6, tn -> G7, lp -> Hf, jn -> HF
namespace Go.Qw
open Go.Proofs
theorem GX(p:Pm)(h:hY):an xZ 211 #[gr p] h λv h'=>∃r:Sl,v=r/\Sp h h' [ai 3 r 1 aq (upto (max 0 (min p.1 16)).toNat)]:=by
 refine ts Tryz.func211 ?_ (G7 (G7 (Hf [(3,bN),(9,aH)] [(3,5),(9,17)]))) (args:=[p]);refine(Sp.refl h).boxed λa m f=>?_;refine⟨p.1,(f.box 0 n2).cell0 n2,?_⟩;have em:(if(if(16:Int)<p.1 then(16:Int)else p.1)>(0:Int)then(if(16:Int)<p.1 then(16:Int)else p.1)else(0:Int))=((max 0 (min p.1 16)).toNat:Int):=by split<;>split<;>omega
 try dsimp only
 rw[em];generalize q:(max 0 (min p.1 16)).toNat=N;have c:N<=16:=n3
 refine ak (λt:Sl×Nat=>(t.1,(t.2:Int))) (λt h'=>t.2<=N/\Sp h h' [emp,ai 3 t.1 1 aq (upto t.2)]) (λt=>N-t.2) (⟨dB,0,0⟩,0) n2 ⟨n9,(f.dG 0 n2 λ_ _=>trivial).nil 3 1 aq⟩ ?_;rintro⟨s,k⟩ u ⟨o,b⟩;dsimp only at*;refine ae (λe=>?_) (λe=>?_)
 .refine b.push af 1 n2 eK n2 n4 (λ_=>rfl) cP (k:Int) n2 n4 B6 λl h3 g=>?_;refine⟨(l,k+1),n8,⟨n5,?_⟩,n5⟩;have j:upto (k+1)=upto k++[(k:Int)]:=by simp[upto,zH]
  dsimp only;rw[j];exact g
 .have:k=N:=n3
  subst this;exact⟨s,n2,b.take 1 λi A d=>by cases i with|zero=>exact d|succ i=>simp at d⟩
theorem EQ(p:Pm)(seed:Int)(d:Sl)(l:aD)(h:hY)(D:Rd h d 1 aq l)(M:n1 l<=2^30):an xZ 210 #[gr p,xP xX seed,d] h λv h'=>∃r:Sl,v=r/\Sp h h' [dD 41 r 1 ar (eG p seed l)]:=by
 refine ts Tryz.func210 ?_ (G7 (G7 (Hf [(7,bN),(15,aH)] [(7,8),(9,11),(15,30)]))) (args:=[p,(xP xX (seed:Int)),d]);refine(Sp.refl h).boxed λa z F=>?_;refine⟨p,(F.box 0 n2).aw _ n2,(BX p z).mono ?_⟩;rintro v H ⟨r,rfl,I⟩;have B:=F.comp I;refine⟨r,n2,?_⟩;have y:=D.len;let at_:Nat->dS:=λk=>eG p seed (l.take k);have h0:(if bJ p then bz p.1.toNat p.2.1.toNat else[])=at_ 0:=by simp[at_,eG]
 rw[h0]at B;refine ak (λt:Sl×Nat=>(t.1,(t.2:Int))) (λt h'=>t.2<=n1 l/\Sp h h' [aj a 24 [xP xV p.1,xP xV p.2.1,xP xV p.2.2],dD 41 t.1 1 ar (at_ t.2)]) (λt=>n1 l-t.2) (r,0) n2 ⟨n9,B⟩ ?_;rintro⟨s,k⟩ h3 ⟨O,j⟩;dsimp only at*;refine ae (λe=>?_) (λe=>?_)
 .have f:k<n1 l:=n3
  refine(Seq.up D j.ac).aX k n2 f _ n2 ?_;refine⟨p,(j.box 0 n2).aw _ n2,(XQ p seed l[k] h3).I2 λw N ⟨K,c⟩=>?_⟩;have q:=(j.comp K).freeze 2 n2 λ_=>rfl;refine⟨w,n2,?_⟩;have x:(at_ k).length<=4+k∨at_ k=[]:=by
   by_cases u:bJ p
   .left;have:=(bL p).1 u;have z:=qO bQ (l.take k);have H:=List.length_take_le k l;simp only[at_,eG,u,if_true,qq,qp,bz,zQ];omega
   .right;simp[at_,eG,u]
  have o:(at_ k).length+1<=2^32:=by
   rcases x with h|h
   .omega
   .rw[h];simp
  try dsimp only
  refine aI (λg=>?_) (λg=>?_)
  .rw[c]at g;have b:(bJ p&&bQ l[k])=eH:=D9
   rw[b,l0 rfl]at q;refine q.jE af 1 2 n4 n2 n2 cM o λJ P L=>?_;refine⟨(J,k+1),n8,⟨n5,?_⟩,n5⟩;rw[qC]at b;have m:at_ (k+1)=at_ k++[pF (bE p).toNat seed l[k]]:=by simp only[at_,eG,b.1,if_true];rw[tz f,l0 b.2,qG,qo];rfl
   try dsimp only
   rw[m];exact L.del 2
  .rw[c]at g;have b:(bJ p&&bQ l[k])=eL:=by
    cases hh:(bJ p&&bQ l[k])with
    |false=>rfl
    |true=>rw[hh]at g;cases g
   refine⟨(s,k+1),n8,⟨n5,?_⟩,n5⟩;have m:at_ (k+1)=at_ k:=by
    simp only[at_,eG];rw[Bool.and_eq_false_iff]at b;rcases b with h|h
    .simp[h]
    .have G:(l.take (k+1)).filter bQ=(l.take k).filter bQ:=by rw[tz f,m6 (by simp[h])]
     rw[G]
   try dsimp only
   rw[m];exact q.del 2
 .refine⟨s,n2,?_⟩;have m:at_ k=eG p seed l:=by simp only[at_];rw[qh n3]
  rw[m]at j;exact j.take 1 (λi A E=>by cases i with|zero=>exact E|succ i=>simp at E)
theorem mL(a:Sl)(m:aO)(n:Nat)(h:hY)(c:eu h a 1 ar m)(j:aW n m)(l:n<=64:=by omega)(s:n1 m<=2^30:=by omega):an xZ 269 #[a] h λv h'=>v=xT eH/\h'=h:=by
 refine ts Tryz.func269 ?_ (G7 (Hf [(7,aH)] [(2,3),(4,5),(7,24)]));have q:=c.len;refine ak (λk:Nat=>(k:Int)) (λk h'=>h'=h/\k<=n1 m) (λk=>n1 m-k) 0 n2 ⟨n2,n3⟩ ?_;rintro k h' ⟨rfl,o⟩;refine ae (λe=>?_) λe=>⟨n2,n2⟩;have d:k<n1 m:=n3
 refine c.get k n2 d λr i=>?_;refine c.get 0 n2 n3 λp b=>?_;have f:=i.len;have g:=b.len;rw[j _ (qf _)]at f g;refine bt (λe=>n3) λ_=>ae (λe=>n3) λ_=>?_;exact⟨k+1,oi,⟨n2,n3⟩,n3⟩
theorem uf(a:Sl)(m:aO)(n:Nat)(h:hY)(d:eu h a 1 ar m)(x:aW n m)(z:n<=64:=by omega)(E:n1 m<=2^30:=by omega):an xZ 271 #[a] h λv h'=>∃(r:Sl) (rs:List Sl),v=r/\rs.length=n1 m/\Sp h h' (ai 41 r 1 bv rs::bg 5 1 ar rs m):=by
 refine ts Tryz.func271 ?_ (G7 (G7 (Hf [(3,bN),(11,aH)] [(3,4),(5,6),(11,21)])));have D:=d.len;refine(Sp.refl h).make af bv cM n4 ⟨dB,0,0⟩ n2 n2 0 m.length n2 n3 n3 n3 λs A j F u=>?_;refine ak (λt:Sl×List Sl=>(t.1,(n1 t.2:Int))) (λt h'=>n1 t.2<=n1 m/\Sp h h' (ai 41 t.1 1 bv t.2::bg 5 1 ar t.2 (m.take t.2.length))) (λt=>n1 m-n1 t.2) (s,[]) n2 ⟨n9,by simpa[bg]using u⟩ ?_;rintro⟨s,rs⟩ k ⟨B,c⟩;dsimp only at*;refine ae (λe=>?_) (λe=>?_)
 .have b:n1 rs<n1 m:=n3
  refine(d.up c.ac).get rs.length n2 b λr p=>?_;have f:m[n1 rs].length=n:=x _ (qf _);refine(fT r _ k p).I2 λw h3 l=>?_;have i:=c.comp l;refine⟨w,n2,?_⟩;refine i.push af 0 n2 cM n2 n4 (λ_=>rfl) jK w n2 n4 n3 λq y g=>?_;refine⟨(q,rs++[w]),by dsimp only;rw[ag _];simp,⟨n7,?_⟩,n7⟩
  try dsimp only
  rw[show(rs++[w]).length=n1 rs+1 by simp,aC _ _ b,mA t6];exact g
 .have o:m.take rs.length=m:=qh n3;rw[o]at c;exact⟨s,rs,n2,n3,c⟩
theorem pP(a:Sl)(m:aO)(h:hY)(b:eu h a 1 ar m):an xZ 270 #[a] h λv h'=>v=xP xV (ez m)/\h'=h:=by
 refine ts Tryz.func270 ?_;have d:=b.len;refine aV (λe=>?_) (λe=>?_)
 .have:m=[]:=qV n3;subst this;exact⟨n2,n2⟩
 .refine b.get 0 n2 n3 λr c=>⟨?_,n2⟩
  rw[c.len,ez,bh n3]
theorem lX{r:Row}{c:Nat}(h:c<n1 r:=by omega):aM r c=r[c]:=by rw[aM,qg,qd h];rfl
theorem OH(a:Sl)(m:aO)(n b aZ:Nat)(h:hY)(q:eu h a 1 ar m)(w:aW n m)(z:aZ<n)(y:n1 m<=2^30):
  an xZ 334 #[a,xP xV b,xP xV aZ] h λv h'=>v=xP xV (match fw m b aZ with|some i=>(i:Int)|none=>-1)/\h'=h:=by
 refine ts Tryz.func334 ?_ (G7 (.scope 0 [(7,aH)] [(6,8),(9,24)] [E9] [E9] [(1,[E9])]));have x:=q.len;refine ak (λk:Nat=>(k:Int)) (λk h'=>h'=h/\b<=k/\k<=max b m.length/\∀j,j<k->(decide (b<=j)&&(aM (aB m j) aZ !=0))=eL) (λk=>n1 m-k) b n2 ⟨n2,n3,n3,λj g=>by rw[nb n3];rfl⟩ ?_;rintro k h' ⟨rfl,p,t,g⟩;refine ae (λe=>?_) (λe=>?_)
 .rw[fw,Gy λj f=>g j n3];exact⟨n2,n2⟩
 .have d:k<n1 m:=n3
  have s:m[k].length=n:=w _ (qf _);refine q.get k n2 d λr u=>?_;refine u.aX aZ n2 n3 _ n2 ?_;have c:aM (aB m k) aZ=m[k][aZ]'n3:=by rw[bh d,lX]
  refine bt (λo=>?_) (λo=>?_)
  .have l:(decide (b<=k)&&(aM (aB m k) aZ !=0))=eH:=by rw[m9 p,c];simp;exactλh0=>o (by rw[h0];rfl)
   rw[fw,RH d g l];exact⟨n2,n2⟩
  .refine⟨k+1,oi,⟨n2,n3,n3,λj f=>?_⟩,n3⟩;rcases Nat.lt_succ_iff_lt_or_eq.1 f with h1|rfl
   .exact g j h1
   .rw[c,nj.1 o];simp
theorem Sr(f:fY)(c:UInt8)(a:Sl)(l:Row)(h:hY)(j:ig h f)(m:Rd h a 1 ar l)(z:n1 l<=2^30):an xZ 335 #[xR (cO f),xP xW c.toNat,a] h λv h'=>∃r:Sl,v=r/\Sp h h' [ai 5 r 1 ar (scaleB c l)]:=by
 refine ts Tryz.func335 ?_ (G7 (G7 (G7 (Hf [(17,aH)] [(8,10),(17,30)]))));have y:=m.len;refine(Kz f h).mono ?_;rintro v i ⟨rfl,rfl⟩;refine⟨cO f,n2,?_⟩;refine(Sp.refl i).make af ar cN n4 0 n2 n2 l.length l.length n3 n3 (qk _) n3 λs A p B o=>?_;refine ak (λk:Nat=>(k:Int)) (λk h'=>k<=n1 l/\Sp i h' [ai 5 s 1 ar ((l.take k).map (Gf.mul c)++qi (n1 l-k) 0)]) (λk=>n1 l-k) 0 n2 ⟨n3,by simpa using o⟩ ?_;rintro k h3 ⟨w,b⟩;refine ae (λe=>?_) (λe=>?_)
 .have d:k<n1 l:=n3
  refine(Seq.up m b.ac).aX k n2 d _ n2 ?_;refine(FR f c l[k] h3 (j.ac b.ac j.lt)).I0 ⟨_,n2,?_⟩;refine b.set af 0 n2 (λ_=>rfl) n2 k n2 n7 _ n2 n2 n2 λx t=>?_;refine⟨k+1,oi,⟨n3,?_⟩,n3⟩;have g:((l.take k).map (Gf.mul c)).length=k:=n7
  have q:((l.take k).map (Gf.mul c)++qi (n1 l-k) 0).set k (Gf.mul c l[k])=(l.take (k+1)).map (Gf.mul c)++qi (n1 l-(k+1)) 0:=by rw[za _ _ n3,g,zh,show l.length-k=n1 l-(k+1)+1 by omega,List.replicate_succ,zx,aC _ _ d,qG,qo];rfl
  rw[<-q];exact t
 .have:k=n1 l:=n3
  subst this;refine⟨s,n2,?_⟩;rw[qh (qk _),zh,List.replicate_zero,qR]at b;exact b
theorem ug{c:UInt8}{a t:Row}(d:n1 a=n1 t){k:Nat}(b:k<n1 t):(zn (λx y=>y^^^Gf.mul c x) (a.take k) (t.take k)++t.drop k).set k (t[k]^^^Gf.mul c (a[k]'n3))=zn (λx y=>y^^^Gf.mul c x) (a.take (k+1)) (t.take (k+1))++t.drop (k+1):=by
 have e:(zn (λx y=>y^^^Gf.mul c x) (a.take k) (t.take k)).length=k:=n7
 rw[za _ _ n3,e,zh,qW b,zx,aC _ _ b,aC _ _ (show k<n1 a by omega),vH n7];simp
theorem XR(f:fY)(c:UInt8)(a l:Sl)(d lt:Row)(h:hY)(F:ig h f)(w:¬l.on f.block)(D:Seq h (λb=>¬l.on b) a 1 ar d)(s:Own h 5 l 1 ar lt)(r:n1 d=n1 lt)(L:n1 d<=2^30):
  an xZ 337 #[xR (cO f),xP xW c.toNat,a,l] h λv h'=>v=.tuple #[]/\Own h' 5 l 1 ar (cL c d lt)/\aP (λb=>¬l.on b) h h':=by
 refine ts Tryz.func337 ?_ (G7 (G7 (F8 (G0 [(14,aH)] [(8,10),(14,30)] E9))));have K:=D.len;have E:=s.len;refine aV (λe=>?_) (λ_=>?_)
 .have H:c=0:=nj.1 e;subst H;have:cL 0 d lt=lt:=by apply List.ext_getElem (by rw[cm r]);intro i B G;simp[cL,Gf.zero_mul]
  exact⟨n2,by rw[this];exact s,aP.refl _ _⟩
 .refine ak (λk:Nat=>(k:Int)) (λk h'=>k<=n1 d/\Own h' 5 l 1 ar (zn (λx y=>y^^^Gf.mul c x) (d.take k) (lt.take k)++lt.drop k)/\aP (λb=>¬l.on b) h h') (λk=>n1 d-k) 0 n2 ⟨n3,D6,aP.refl _ _⟩ ?_;rintro k B ⟨J,j,g⟩;refine ae (λe=>?_) (λe=>?_)
  .have A:k<n1 d:=n3
   have u:k<n1 lt:=n3
   have o:(zn (λx y=>y^^^Gf.mul c x) (d.take k) (lt.take k)).length=k:=n7
   have I:(zn (λx y=>y^^^Gf.mul c x) (d.take k) (lt.take k)++lt.drop k).length=n1 lt:=by rw[qq,o,qJ];omega
   refine(D.ac g).aX k n2 A _ n2 ?_;have m:(zn (λx y=>y^^^Gf.mul c x) (d.take k) (lt.take k)++lt.drop k)[k]'n3=lt[k]:=by rw[List.getElem_append_right n3];simp[o]
   refine(j.seq (p:=λ_=>True) (λ_=>rfl) λ_ _=>trivial).nD k n2 n3 _ n2 λax q=>?_;rw[m]at q⊢;refine(FR f c d[k] B (F.ac g w)).I0 ⟨_,n2,⟨q,I4⟩,?_⟩
   try dsimp only
   rw[lV];refine j.set af (λ_=>rfl) n2 k n2 n3 _ n2 n2 n2 λh3 t z _=>⟨I4,?_⟩
   refine⟨k+1,oi,⟨n3,?_,g.trans z⟩,n3⟩;rw[<-ug r u];exact t
  .have:k=n1 d:=n3
   subst this;rw[qh (qk _),qh n3,zl n3,qR]at j;exact⟨n2,j,g⟩
abbrev kS(a:Sl)(rs:List Sl)(m:aO):List HP:=ai 41 a 1 bv rs::bg 5 1 ar rs m
theorem lC{a:Sl}{rs:List Sl}{m:aO}(b:n1 rs=n1 m)(i:Nat)(c:i<n1 m):(kS a rs m)[i+1]?=cO (ai 5 (rs[i]'n3) 1 ar m[i]):=by rw[qX];exact dU b i c
theorem ee{h h':hY}{a:fY}{v:Value}(c:hU h a=cO v)(d:aP (λb=>b<h.size) h h'):hU h' a=cO v:=d.cell (cZ c) c
theorem Vd{B:au}{y:hY}{f:fY}(P:ig y f)(E:B f.block){a:Sl}{n c aZ:Nat}{rs:List Sl}{m:aO}(Y:n1 rs=n1 m)(hm:aW n m)(hc:aZ<n)(hn:n<=64)(U:c<n1 m)(hs:n1 m<=2^30)
  {h:hY} (H:aa B y h (kS a rs m)) {K:hY->Prop} (hk:∀h',aa B y h' (kS a rs (bO c aZ m m.length))->K h'):
 gU (σ:=Int) (λd V i=>
 Br (decide (d<((a.len:Nat):Int)))
 (Br (d !=(c:Int))
 (∃w:fY,(a.ptr=cO w/\0<=d/\d<((a.len:Nat):Int))/\
 ∃g:Sl,hU i (w.add (d.toNat*1))=cO (xQ g.ptr g.len g.cap)/\
 ∃J:fY,(g.ptr=cO J/\0<=(aZ:Int)/\(aZ:Int)<((g.len:Nat):Int))/\
 ∃A:Int,hU i (J.add ((aZ:Int).toNat*1))=cO (xP xW A)/\
 ∃a25:fY,(a.ptr=cO a25/\0<=(c:Int)/\(c:Int)<((a.len:Nat):Int))/\
 ∃j:Sl,hU i (a25.add ((c:Int).toNat*1))=cO (xQ j.ptr j.len j.cap)/\
 ∃z:fY,(a.ptr=cO z/\0<=d/\d<((a.len:Nat):Int))/\
 ∃l:Sl,hU i (z.add (d.toNat*1))=cO (xQ l.ptr l.len l.cap)/\
 jV xZ 337 #[(xR (cO f)),(xP xW A),(xQ j.ptr j.len j.cap),(xQ l.ptr l.len l.cap)] (.many []) i λ_ G=>
 (bF.ok [(w.add (d.toNat*1),(xQ g.ptr g.len g.cap))] G)/\
 V (qe xV (d+(1:Int))) G)
 (V (qe xV (d+(1:Int))) i))
 (K i)) (0:Int) h:=by
 have ad:a.len=n1 m:=by rw[(H.own 0 n2).len,Y]
 refine ak (λk:Nat=>(k:Int)) (λk h'=>k<=n1 m/\aa B y h' (kS a rs (bO c aZ m k))) (λk=>n1 m-k) 0 n2 ⟨n3,by rw[oh];exact H⟩ ?_;rintro k W ⟨ab,o⟩;have N:=kN c aZ m k;have u:n1 rs=(bO c aZ m k).length:=by rw[N];exact Y
 refine ae (λe=>?_) (λe=>?_)
 .have x:k<n1 m:=n3
  refine bt (λe2=>?_) (λe2=>?_)
  .have s:k≠c:=λhh=>e2 (by rw[hh]);have S:aB (bO c aZ m k) k=aB m k:=by rw[je x,m6 n3]
   have O:aB (bO c aZ m k) c=aB m c:=by rw[je U,m6 n3]
   have e4:(bO c aZ m k)[k]'n3=aB m k:=by rw[<-S,bh]
   have e5:(bO c aZ m k)[c]'n3=aB m c:=by rw[<-O,bh]
   have r:=lC (a:=a) u k n3;have Z:=lC (a:=a) u c n3;rw[e4]at r;rw[e5]at Z;have lk:=bZ hm x;have lt:=bZ hm U;have q:=o.off (k+1) 0 n3 r n2;have t:=q.1.seq (λ_=>rfl) q.2;refine t.dQ k n2 n3 λa1 T Q=>?_;have M:=o.seq (k+1) r λ_=>rfl;refine M.aX aZ n2 n3 _ n2 ?_;refine t.dQ c n2 n3 λ_ _ _=>?_;refine t.dQ k n2 n3 λ_ _ _=>?_;have I:(vz (rs[c]'n3) 1 ar (aB m c)).p W (λb=>¬(rs[k]'n3).on b):=by have:=o.off (k+1) (c+1) n3 r Z;exact(this.1.seq (λ_=>rfl) this.2).mono λb hb=>hb.2
   refine(XR f _ _ _ (aB m c) (aB m k) W (P.ac o.ac E) (o.base (k+1) r E) I (o.own (k+1) r) n3 n3).I1 λh2 ⟨R,F⟩=>?_;have X:=o.oa (k+1) r F R;have L:=F.cell Q.2 T;refine⟨(),n2,⟨L,I4⟩,?_⟩;refine⟨k+1,oi,⟨n3,?_⟩,n3⟩;rw[kv x s];show aa B y h2 (ai 41 a 1 bv rs::bg 5 1 ar rs ((bO c aZ m k).set k _));rw[<-LU u k n3];have D:(aB m k)[aZ]'n3=aM (aB m k) aZ:=(lX).symm;rw[D]at X;exact X
  .have s:k=c:=n3
   subst s;exact⟨k+1,oi,⟨n3,by rw[uC];exact o⟩,n3⟩
 .have:k=n1 m:=n3
  subst this;exact hk _ o
theorem Dr{rs:List Sl}{m:aO}(a:n1 rs=n1 m)(i j:Nat)(c:i<n1 m)(b:j<n1 m):
  ((bg 5 1 ar rs m).set i (ai 5 (rs[j]'n3) 1 ar m[j])).set j (ai 5 (rs[i]'n3) 1 ar m[i])=bg 5 1 ar ((rs.set i (rs[j]'n3)).set j (rs[i]'n3)) (fM m i j):=by
 rw[gS a,gS B4,fM,bh c,bh b]
theorem wS{B:au}{y:hY}{f:fY}(U:ig y f)(Q:B f.block){a:Sl}{n de:Nat}{rs:List Sl}{m:aO}(hl:n1 rs=n1 m)(hm:aW n m)(hc:de<=n)(hn:n<=64)(hs:n1 m<=2^30)
  {h:hY} (H:aa B y h (kS a rs m)):an xZ 272 #[xR (cO f),a,xP xV de] h λv h'=>
   ∃S:List Sl,v=xP xV (bc m de).1/\S.length=n1 m/\aa B y h' (kS a S (bc m de).2):=by
 have ad:a.len=n1 m:=by rw[(H.own 0 n2).len,hl]
 refine ts Tryz.func272 ?_ (G7 (G7 (E8 (G7 (F8 (G0 [(7,aH),(12,aH)] [(7,11),(12,82)] (G7 (G7 (E8 (F8 (G7 (G7 (G7 (HF [] [(21,35)] (HF [] [(35,53)] (Hf [(55,aH)] [(10,11),(55,79)]))))))) E9)))))) E9))) [(8,(.l [0,1,2,3,4,5,6,7,8,9,10,12,13,14,15,11,16,17,18]))];refine ak (λt:List Sl×Nat=>(((bc m t.2).1:Int),(t.2:Int))) (λt h'=>t.2<=de/\t.1.length=n1 m/\aa B y h' (kS a t.1 (bc m t.2).2)) (λt=>de-t.2) (rs,0) n2 ⟨n9,hl,H⟩ ?_;rintro⟨c,aZ⟩ h1 ⟨hk,N,K⟩;dsimp only at*;have u:=fS hm aZ;have E:=oK m aZ;obtain⟨st,w⟩:=I3 (bc m aZ)
 rw[<-w]at u E K⊢;obtain⟨b,k⟩:=st;dsimp only at u E K⊢;have x:n1 c=n1 k:=n3
 have d:bc m (aZ+1)=fN (b,k) aZ:=by rw[bc,<-w]
 refine ae (λe=>?_) (λe=>?_)
 .have O:aZ<n:=n3
  have P:eu h1 a 1 ar k:=K.Jq x λ_=>rfl;refine(OH a k n b aZ h1 P u.1 O n3).mono ?_;rintro v h2 ⟨rfl,rfl⟩;refine⟨_,n2,?_⟩
  try dsimp only
  cases hb:fw k b aZ with
  |none=>
   refine ae (λ_=>?_) λe2=>absurd n4 e2;refine⟨(c,aZ+1),?_,⟨n5,N,?_⟩,n5⟩
   ·(try dsimp only);rw[d,fN,hb,ag _];rfl
   ·(try dsimp only);rw[d,fN,hb];exact K
  |some i=>
   have hh:=kL hb;refine ae (λe2=>absurd (show((i:Nat):Int)<0 from e2) n3) (λ_=>?_)
   try dsimp only
   have J:b<n1 k:=n3
   have Y:=hh.2.1;have M:=K.seq 0 n2 λ_=>rfl;refine aE ?_;refine M.dQ i n2 n3 λ_ _ _=>?_;refine M.dQ b n2 n3 λ_ _ _=>?_;refine K.set af 0 n2 (λ_=>rfl) n2 b n2 n3 (c[i]'n3) n2 n2 n2 λh3 H3=>⟨I4,?_⟩
   refine H3.set af 0 n2 (λ_=>rfl) n2 i n2 n7 (c[b]'n3) n2 n2 n2 λW H4=>⟨I4,?_⟩
   have o:aa B y W (kS a ((c.set b (c[i]'n3)).set i (c[b]'n3)) (fM k b i)):=by have:=H4.RF (b+1) (i+1) (A:=ai 5 (c[b]'n3) 1 ar k[b]) (A2:=ai 5 (c[i]'n3) 1 ar k[i]) (dU x b J) (dU x i Y);show aa B y W (ai 41 a 1 bv _::bg 5 1 ar _ _);rw[<-Dr x b i J Y];exact this
   obtain⟨g,D⟩:=I3 ((c.set b (c[i]'n3)).set i (c[b]'n3))
   rw[<-D]at o;have al:n1 g=n1 k:=by rw[D];simp;omega
   obtain⟨m2,s⟩:=I3 (fM k b i)
   have z:aW n m2:=by rw[s];exact og u.1 J Y
   have L:n1 m2=n1 k:=by rw[s];exact iU _ _ _
   rw[<-s]at o;have q:n1 g=n1 m2:=n3
   have j:b<n1 m2:=n3
   refine aE ?_;have gt:=lC (a:=a) q b j;have lt:m2[b].length=n:=z _ (qf _);have T:=o.seq 0 n2 λ_=>rfl;refine T.dQ b n2 n3 λam G _=>?_;have F:=o.seq (b+1) gt λ_=>rfl;refine F.aX aZ n2 n3 _ n2 ?_;refine T.dQ b n2 n3 λah R _=>?_;have V:ig W f:=U.ac o.ac Q;refine(XN f _ W V).mono ?_;rintro v h5 ⟨rfl,rfl⟩;refine⟨_,n2,⟨R,G,I4⟩,?_⟩;refine(Sr f _ _ _ h5 V F n3).I2 λr h6 R6=>⟨r,n2,⟨ee G R6.ac,I4⟩,?_⟩;have H6:=o.comp R6
   try dsimp only
   refine H6.set af 0 n2 (λ_=>rfl) n2 b n2 n3 r n2 n2 n2 λh7 H7=>⟨I4,?_⟩
   have ab:m2[b]=aB m2 b:=(bh j).symm;have Z:(m2[b])[aZ]'n3=aM (aB m2 b) aZ:=by rw[lX (by rw[bh j];omega)];simp only[bh j]
   have X:aa B y h7 (kS a (g.set b r) (fW b aZ m2)):=by have h8:aa B y h7 ((ai 41 a 1 bv (g.set b r)::bg 5 1 ar g m2)++[ai 5 r 1 ar (scaleB (Gf.inv ((m2[b])[aZ]'n3)) m2[b])]):=H7;have h9:=h8.LS (b+1) (by simp[gz q];omega);rw[Z,ab]at h9;show aa B y h7 (ai 41 a 1 bv _::bg 5 1 ar _ (m2.set b _));rw[<-gS q];exact h9
   have I:(fW b aZ m2).length=n1 m2:=kM _ _ _;refine Vd U Q n7 (mB z j) O hn n3 n3 X λh8 H8=>?_;have p:fN (b,k) aZ=(b+1,bO b aZ (fW b aZ m2) k.length):=by rw[fN];(try dsimp only);rw[hb,s]
   refine⟨(g.set b r,aZ+1),?_,⟨n5,n7,?_⟩,n5⟩
   ·(try dsimp only);rw[d,p,ag _,ag _];rfl
   ·(try dsimp only);rw[d,p];rw[I,L]at H8;exact H8
 .have:aZ=de:=n3
  subst this;exact⟨c,by rw[<-w],N,by rw[<-w];exact K⟩
theorem OI(f:fY)(a:Sl)(m:aO)(n:Nat)(h:hY)(u:ig h f)(z:eu h a 1 ar m)(g:aW n m)(j:n<=64)(q:n1 m<=2^30):
  an xZ 357 #[xR (cO f),a] h λv h'=>∃(r:Sl) (rs:List Sl),v=r/\r.len=cx m/\rs.length=n1 m/\r.len<=n1 m/\Sp h h' (kS ⟨r.ptr,n1 m,r.cap⟩ rs (bc m (ez m)).2):=by
 refine ts Tryz.func357 ?_;refine(mL a m n h z g j q).mono ?_;rintro v A ⟨rfl,rfl⟩;refine⟨_,n2,aI (λe=>oj) λ_=>?_⟩;refine(uf a m n A z g j q).mono ?_;rintro v B ⟨r,rs,rfl,s,w⟩;refine⟨r,n2,(sh f B).mono ?_⟩;rintro v h3 ⟨rfl,rfl⟩;refine⟨cO f,n2,(pP r m h3 (w.Jq s λ_=>rfl)).mono ?_⟩;rintro v E ⟨rfl,rfl⟩;have D:ez m<=n:=by
  cases m with
  |nil=>simp[ez,aB]
  |cons x t=>rw[ez,bh n9];exact Nat.le_of_eq (g _ n9)
 refine⟨_,n2,(wS u u.lt s g D j q w).I2 λo F ⟨i,k⟩=>?_⟩;have d:=oK m (ez m);rw[(fS g _).2]at d;have y:=(k.own 0 n2).cap;have b:=(k.own 0 n2).len;refine⟨_,n2,⟨zi _,wG.2 (show(bc m (ez m)).1<=r.cap by omega)⟩,⟨r.ptr,(bc m (ez m)).1,r.cap⟩,o,n9,n2,i,d,?_⟩;have:r=⟨r.ptr,n1 m,r.cap⟩:=by obtain⟨p,l,c⟩:=r;simp only at b⊢;rw[<-i,<-b]
 rw[<-this];exact k
theorem Ve(f:fY)(a:Sl)(m:aO)(n:Nat)(h:hY)(c:ig h f)(j:eu h a 1 ar m)(i:aW n m)(b:n<=64)(d:n1 m<=2^30):
  an xZ 299 #[xR (cO f),a] h λv h'=>v=xP xV (cx m)/\Sp h h' []:=by
 refine ts Tryz.func299 ?_;refine(OI f a m n h c j i b d).mono ?_;rintro v k ⟨r,rs,rfl,g,_,_,e⟩;exact⟨r,n2,by rw[g],.zip e.ac⟩
theorem FS(p:Pm)(seed:Int)(b:Sl)(l:aD)(h:hY)(m:Rd h b 1 aq l)(w:n1 l<=2^29):an xZ 243 #[gr p,xP xX seed,b] h λv h'=>v=xP xV (Bc p seed l)/\Sp h h' []:=by
 refine ts Tryz.func243 ?_ E9 [(1,(.l [1,2,3,0,4,5,6]))] (args:=[p,(xP xX (seed:Int)),b]);refine(Sp.refl h).boxed λa j i=>?_;refine⟨p,(i.box 0 n2).aw _ n2,(sJ j).mono ?_⟩;rintro v o ⟨f,rfl,q⟩;have c:=i.comp q;have e:=c.box 0 n2;refine⟨cO f,n2,⟨e.cell0 n2,e.cell n2,e.cell n2,I4⟩,?_⟩;refine(EQ p seed b l o (Seq.up m c.ac) n3).mono ?_;rintro v h3 ⟨r,rfl,s⟩;have d:=c.comp s;refine⟨r,n2,I4,?_⟩;have k:=FA p seed l;have g:(bE p).toNat<=64:=by
  unfold bE;split
  .rename_i u;have:=(bL p).1 u;omega
  .omega
 refine(Ve f r _ _ h3 (d.box 1 n2) (d.oG 2 n2) (om p seed l) g n3).I1 λx t=>⟨_,n2,I4,n2,.zip (d.comp t).ac⟩
theorem JQ(p:Pm)(seed:Int)(b:Sl)(l:aD)(h:hY)(m:Rd h b 1 aq l)(f:n1 l<=2^29):an xZ 175 #[gr p,xP xX seed,b] h λv h'=>v=xT (fE p seed l)/\Sp h h' []:=by refine ts Tryz.func175 ?_ E9 [(1,(.l [0,1,2,3,4,5,7,6,8,9,10,11]))] (args:=[p,(xP xX (seed:Int)),b]);refine(Sp.refl h).boxed λa k j=>?_;refine⟨p,(j.box 0 n2).aw _ n2,(fc p k).mono ?_⟩;rintro v o ⟨rfl,q⟩;have d:=j.comp q;refine⟨_,n2,I4,aU (λe=>?_) λe=>⟨I4,I4,E5,.zip d.ac⟩⟩;have i:=d.box 0 n2;refine⟨p,i.aw _ n2,p,i.aw _ n2,(FS p seed b l o (Seq.up m d.ac) f).mono ?_⟩;rintro v h3 ⟨rfl,r⟩;have g:=d.comp r;have c:=g.box 0 n2;refine⟨_,n2,⟨c.cell0 n2,c.cell n2,c.cell n2,I4⟩,(lW p h3).I1 λt s=>?_⟩;exact⟨_,n2,I4,E5,.zip (g.comp s).ac⟩
theorem GY(p:Pm)(seed:Int)(h:hY):an xZ 207 #[gr p,xP xX seed] h λv h'=>v=xT (fE p seed (fl p))/\Sp h h' []:=by refine ts Tryz.func207 ?_ (args:=[p,(xP xX (seed:Int))]);refine(Sp.refl h).boxed λa j d=>?_;have e:=d.box 0 n2;refine⟨p,e.aw _ n2,p,e.aw _ n2,(GX p j).mono ?_⟩;rintro v f ⟨r,rfl,g⟩;have c:=d.comp g;have b:=c.box 0 n2;refine⟨r,n2,⟨b.cell0 n2,b.cell n2,b.cell n2,I4⟩,(JQ p seed r _ f (c.seq 1 n2 λ_=>rfl) B6).I1 λh3 i=>?_⟩;exact⟨_,n2,I4,n2,.zip (c.comp i).ac⟩
theorem XS(p:Pm)(o b:Int)(h:hY):an xZ 144 #[gr p,xP xV o,xP xV b] h λv h'=>
  v=.tuple #[xP xV (((lP p o b).getD 0:Nat):Int),xT (lP p o b).isSome]/\Sp h h' []:=by
 refine ts Tryz.func144 ?_ (G7 (Hf [(9,aH)] [(6,20)])) (args:=[p,(o:Int),(b:Int)]);refine(Sp.refl h).boxed λA E B=>?_;refine ak (λi:Nat=>(i:Int)) (λi h'=>i<=16/\(∀k,k<i->uO p o b k=eL)/\Sp h h' [aj A 24 [xP xV p.1,xP xV p.2.1,xP xV p.2.2]]) (λi=>16-i) 0 n2 ⟨n3,λk f=>absurd f (Nat.not_lt_zero k),B⟩ ?_;rintro i y ⟨F,c,m⟩;refine ae (λe=>?_) λe=>?_
 .have x:i<16:=n3
  have a:=m.box 0 n2;refine⟨p,a.aw _ n2,(sH _ _ _ y).mono ?_⟩;rintro _ h3 ⟨rfl,rfl⟩;refine⟨_,n2,⟨a.cell0 n2,a.cell n2,a.cell n2,I4⟩,(GY p _ h3).I1 λD z=>?_⟩;have t:=m.up z.ac;refine⟨_,n2,I4,aU (λg=>?_) λg=>?_⟩
  .have l:lP p o b=cO i:=by
    unfold lP;refine List.find?_eq_some_iff_append.2 ⟨g,qz i,(qz (15-i)).map (·+(i+1)),?_,λk f=>?_⟩
    .apply zq;intro j;by_cases u:j<i
     .rw[qw (by simpa using u),zt n3,zt u]
     .rw[ql n7,zQ];by_cases r:j=i
      .subst r;rw[zh,zt n3];rfl
      .obtain⟨d,w⟩:∃d,j=i+(d+1):=⟨j-i-1,n3⟩
       subst w;rw[wK,qX,qP];by_cases s:d<15-i
       .rw[zt s,zt n3];simp;omega
       .rw[zj n7,zj n7];rfl
    .rw[c k (q8.1 f)];rfl
   rw[l];exact⟨n2,.zip t.ac⟩
  .refine⟨i+1,oi,⟨n3,λk f=>?_,t⟩,n3⟩;by_cases q:k<i
   .exact c k q
   .have:k=i:=n3
    subst this;exact g
 .have l:lP p o b=dB:=by unfold lP;rw[yp];intro k f;rw[c k (by have:=q8.1 f;omega)];simp
  rw[l];exact⟨n2,.zip m.ac⟩
theorem Ss(p:Pm)(o:Int)(n:Nat)(h:hY)(E:n<=2^30):an xZ 84 #[gr p,xP xV o,xP xV n] h λv h'=>
  (cV p o n=dB->v=.tuple #[xQ dB 0 0,xT eL]/\Sp h h' [])/\
  (∀l,cV p o n=cO l->∃r:Sl,v=.tuple #[r,xT eH]/\Sp h h' [ai 3 r 1 aq l]):=by
 refine ts Tryz.func84 ?_ (G7 (G7 (Hf [(8,bN),(13,aH)] [(6,12),(13,30)]))) (args:=[p,(o:Int),(n:Int)]);refine(Sp.refl h).boxed λB F m=>?_;have m:=(m.nil 3 1 aq).bs [1,0];refine ak (λt:Sl×Nat×aD=>(t.1,(t.2.1:Int))) (λt h'=>t.2.1<=n/\cV p o t.2.1=cO t.2.2/\Sp h h' [ai 3 t.1 1 aq t.2.2,aj B 24 [xP xV p.1,xP xV p.2.1,xP xV p.2.2]]) (λt=>n-t.2.1) (⟨dB,0,0⟩,0,[]) n2 ⟨n9,n2,m⟩ ?_;rintro⟨s,i,l⟩ x ⟨I,c,k⟩;dsimp only at*;have D:=kC c;have b:∀j,lP p o i=dB->j<=n-(i+1)->cV p o (i+1+j)=dB:=λj d=>by
  induction j with
  |zero=>intro _;show cV p o (i+1)=dB;unfold cV;rw[c,d];rfl
  |succ j ih=>intro J;show cV p o ((i+1+j)+1)=dB;unfold cV;rw[ih n3];rfl
 refine ae (λe=>?_) λe=>?_
 .have w:i<n:=n3
  refine⟨p,(k.box 1 n2).aw _ n2,(XS p o i x).I1 λh3 y=>?_⟩;have u:=k.up y.ac;refine⟨(_,_),n2,aI (λg=>?_) λg=>?_⟩
  .have a:cV p o n=dB:=by have:=b (n-(i+1)) (Option.isSome_eq_false_iff.1 g|>Option.isNone_iff_eq_none.1) (qk _);rw[show i+1+(n-(i+1))=n by omega]at this;exact this
   rw[a];exact⟨λ_=>⟨n2,.zip u.ac⟩,λl h=>t7⟩
  .obtain⟨t,q⟩:∃t,lP p o i=cO t:=yW.1 g;rw[q];refine u.push af 0 n2 eK n2 n4 (λ_=>rfl) cP (t:Int) n2 n4 n3 λz G A=>?_;refine⟨(z,i+1,l++[(t:Int)]),n8,⟨n5,?_,A⟩,n5⟩;show cV p o (i+1)=_;unfold cV;rw[c,q];rfl
 .have f:i=n:=n3
  subst f;rw[c];exact⟨λh=>t7,λH h=>(by injection h with h;subst h;exact⟨s,n2,k.bs [0]⟩)⟩
def kD(m:aA)(l:dS):dS:=(iB m l).map gg
def gu(m:aA)(l:dS):dS:=bI m++kD m l
def jH(d:bu)(a:Nat)(n:Int):Bool:=decide (max n 0<=(d.room:Int)-a)
def rj(m:aA)(d:bu)(n:Int):Bool:=!d.lost&&(jH d d.l.length n||jH d (gu m d.l).length n)
def eO(m:aA)(w:Pow)(d:bu)(n:Int):Int×Pow×bu:=
 if d.lost then(5,w,d)else if !rj m d n then(7,w,d)else if jH d d.l.length n then(0,w,d)else d.rewrite w (gu m d.l)
theorem XT(l:List ct):(nh l).length<=n1 l:=by unfold nh;rw[qp];exact q7 (qO _ _) n9
theorem iX(m:aA)(l:dS):(iB m l).length<=n1 l:=by unfold iB;refine q7 (XT _) ?_;rw[wT];exact List.length_filterMap_le _ _
theorem Bt(m:aA)(l:dS):(kD m l).length<=n1 l:=by unfold kD;rw[qp];exact iX m l
variable {B:au} {h0 h:hY} {As:List HP} {a:fY} {d:bu} {w:Pow}
section
variable {pw:fY}
theorem MM(x:Sl)(l:dS)(H:aa B h0 h (jq pw a d::eJ 96 pw w::As))(Q:St B h0 As λh=>eu h x 1 ar l)(P:n1 l<=2^20)(u:∀c∈l,n1 c<=2^20):
  an xZ 195 #[xR (cO a),x] h λv h'=>v=xP xV (d.rewrite w l).1/\aa B h0 h' (jq pw a (d.rewrite w l).2.2::eJ 96 pw (d.rewrite w l).2.1::As):=by
 refine ts Tryz.func195 ?_ (G7 (E8 (G7 (F8 (G0 [(9,aH)] [(4,5),(6,7),(9,17)] E9))) (E8 (G6 [] [(4,5),(17,41)] (F8 (HF [(17,mH)] [(17,26)] E9))) E9)));have N:=Q.at [_,_] H;have X:=N.len;have q:=fd.rewrite (w:=w) (l:=l) (And.left (id H).jX);have j:∀(e:Int),d.rewrite w l=(e,w,d)->(Value.int .i64 e=xP xV (d.rewrite w l).1/\aa B h0 h (jq pw a (d.rewrite w l).2.2::eJ 96 pw (d.rewrite w l).2.1::As)):=λe U=>by
  rw[U];exact⟨n2,H⟩
 refine ak (λi:Nat=>(i:Int)) (λi h'=>i<=n1 l/\(∀c∈l.take i,n1 c=64)/\h'=h) (λi=>n1 l-i) 0 n2 ⟨n3,n9,n2⟩ ?_;rintro i h1 ⟨hi,f,rfl⟩;refine ae (λe=>?_) λe=>?_
 .have o:i<n1 l:=n3
  refine N.get i n2 o λr hr=>?_;have S:=hr.len;refine bt (λZ=>j 1 ?_) λZ=>?_
  .unfold bu.rewrite;rw[l0];rw[yf,wg];exact⟨l[i],qf o,n7⟩
  .refine⟨i+1,oi,⟨n3,λc k=>?_,n2⟩,n3⟩;rw[aC _ _ o]at k;rcases qu.1 k with k|k
   .exact f c k
   .rw[qA.1 k];omega
 have f:∀c∈l,n1 c=64:=by rw[qh n3]at f;exact f
 have m:(!l.all λb=>decide (n1 b=64))=eL:=by rw[Bool.not_eq_false',qU];exactλc k=>m9 (f c k)
 have D:d.rewrite w l=(if d.lost then(5,w,d)else if d.room<n1 l then(7,w,d)else if w.off then(14,w,d)else if w.step.1 then(0,w.step.2,{d with l:=l,wait:=0,laid:=[],has:=eL})else(14,w.step.2,{d with laid:=l,has:=eH})):=by unfold bu.rewrite;rw[m];rfl
 obtain⟨ok,s,b,K⟩:=H.jX;have A:=K.box 0 n2;refine aE (aE (aU (λe=>oj) λ_=>⟨a,n2,d.lost,A.cell n2,aU (λe=>j 5 (by rw[D,l0 e])) λg=>?_⟩));refine⟨a,n2,(d.room:Int),A.cell n2,ae (λe=>j 7 (by rw[D,m6 A4,l0 n3])) λM=>?_⟩;obtain⟨T,R,G⟩:=(K.aF 4 [3,0,1,2]).jF;refine⟨a,n2,cO pw,A.cell0 n2,(sW T (G.box 0 n2)).I0 ?_⟩;refine⟨_,n2,aI (λe=>j 14 ?_) λz=>?_⟩
 .rw[D,m6 A4,m6 n3,l0 pt]
 have p:w.off=eL:=by simpa using z
 have t:d.rewrite w l=(if w.step.1 then(0,w.step.2,{d with l:=l,wait:=0,laid:=[],has:=eL})else(14,w.step.2,{d with laid:=l,has:=eH})):=by rw[D,m6 A4,m6 n3,m6 (by simp[p])]
 refine⟨a,n2,cO pw,A.cell0 n2,(De (K.aF 4 [3,0,1,2])).I1 λO I=>?_⟩;have y:=Q.at [_,_,_,_] I;refine⟨_,n2,aI (λe=>?_) λe=>?_⟩
 .rw[t,m6 C3]at q⊢;refine(FN x l O y P u).I2 λr W J=>?_;have E:=(I.bV J).aF 5 [2,3,0,1];refine⟨r,n2,a,n2,E.store af 0 n2 n2 4 [r] n2 n2 n2 t8 λY L=>?_⟩;refine⟨a,n2,L.store af 0 n2 n2 5 [xT eH] n2 n2 n2 t8 λh8 F=>⟨n2,?_⟩⟩;exact aa.iF (s:=s) (b:=r) q F
 .rw[t,l0 e]at q⊢;refine(FN x l O y P u).I2 λr W J=>?_;have E:=(I.bV J).aF 5 [2,0,4,1];refine⟨r,n2,a,n2,E.store af 0 n2 n2 2 [r] n2 n2 n2 t8 λY L=>?_⟩;refine⟨a,n2,L.store af 0 n2 n2 3 [xP xV 0] n2 n2 n2 t8 λh8 F=>?_⟩;refine(Df (d:={d with l:=l,wait:=0}) r b _ F ⟨qT _,n5,ok.room,f,ok.laid,ok.cellL⟩ n2).I1 λh9 V=>⟨0,n2,n2,V⟩
theorem xj(s b:Sl)(c:Nat)(n:Int)(e:bR h a 159 (fo pw d s b))(g:d.room<=512)(f:c<=2^40:=by omega):an xZ 193 #[xR (cO a),xP xV c,xP xV n] h λv h'=>v=xT (jH d c n)/\h'=h:=by refine ts Tryz.func193 ?_;refine(JK s b e).I0 ⟨_,n2,?_,n2⟩;rw[ag ((d.room:Int)-c)];unfold jH;congr 1;rw[decide_eq_decide];split<;>omega
theorem Su(s b:Sl)(x:aY)(m:aA)(F:bR h a 159 (fo pw d s b))(Q:eu h s 1 ar d.l)(ok:fd d)(H:cj h x m)(I:bG m):
  an xZ 265 #[xR (cO a),cu x] h λv h'=>∃r:Sl,v=r/\Sp h h' [cg r (kD m d.l)]:=by
 refine ts Tryz.func265 ?_ (G7 (G7 (Hf [(5,bN),(12,aH)] [(5,6),(7,8),(12,22)]))) (args:=[(cO a),x]);have B:=ok.len;have A:=ok.room;refine(Sp.refl h).boxed λZ K c=>?_;refine⟨x,(c.box 0 n2).aw _ n2,(ud a pw d s b x m K (F.ac c.ac F.lt) (Q.up c.ac) ok (H.up c.ac) I).mono ?_⟩;rintro _ W ⟨r,f,rfl,S⟩;have q:=(c.bV S).kc 41 5 1 ar;refine⟨r,n2,?_⟩;have k:=iX m d.l;obtain⟨L,D⟩:=I3 (iB m d.l)
 have y:(kD m d.l)=L.map gg:=by unfold kD;rw[D]
 rw[<-D]at q k;rw[y];have E:=q.dv 1 n2;have G:=E.2.1;have w:=E.1.len;refine ak (λt:Sl×Nat=>(t.1,(t.2:Int))) (λt h'=>t.2<=n1 L/\Sp h h' [cg t.1 ((L.map gg).take t.2),cy cG 8 bB r f L]) (λt=>n1 L-t.2) (⟨dB,0,0⟩,0) n2 ⟨n9,q.bs [0,1]⟩ ?_;rintro⟨o,i⟩ h3 ⟨X,j⟩;dsimp only at*;have R:=j.dv 1 n2;refine ae (λe=>?_) (λe=>?_)
 .have p:i<n1 L:=n3
  refine R.1.cH (g:=bB) i n2 n3 (f[i]'n3) n2 ?_;refine j.alloc af n2 λY U J=>?_;refine J.storeAll af 2 n2 n2 (bB (f[i]'n3)) n2 n2 n2 n2 λP z=>?_;refine⟨f[i]'n3,(z.box 2 n2).aw _ n2,(wd _ L[i] P (Fix.row (z.dv 1 n2) p)).I2 λu V T=>?_⟩;have M:=(z.bV T).aF 3 [1,0,2];refine⟨u,n2,M.nG af cM n7 λO h8 N=>?_⟩;refine⟨(O,i+1),n8,⟨n5,?_⟩,n5⟩
  try dsimp only
  rw[aC _ _ (show i<(L.map gg).length by simp;omega),zB];exact N.bs [0,1]
 .rw[qh n7]at j;exact⟨o,n2,j.bs [0]⟩
end
theorem kT(a b:ct):dM a b=eH↔a.object=b.object/\a.block=b.block/\a.id=b.id:=by unfold dM;rw[decide_eq_true_eq]
theorem le_iff(a b:ct):lU a b=eH↔a.object<b.object∨(a.object=b.object/\(a.block<b.block∨(a.block=b.block/\a.id<=b.id))):=by unfold lU;rw[decide_eq_true_eq]
theorem XU{a b:ct}(h:dM a b=eH):dM a=dM b:=by obtain⟨d,c,h3⟩:=(kT a b).1 h;funext x;unfold dM;rw[d,c,h3]
theorem JR(a:ct):dM a a=eH:=(kT a a).2 ⟨n2,n2,n2⟩
theorem Vf(a b:ct):dM a b=dM b a:=by rw[Bool.eq_iff_iff,kT,kT];exact⟨λ⟨x,y,z⟩=>⟨x.symm,y.symm,z.symm⟩,λ⟨x,y,z⟩=>⟨x.symm,y.symm,z.symm⟩⟩
theorem MN(L:List ct)(a:ct):nh (L++[a])=nh L++if L=[]∨dM a (L.getD (n1 L-1) nC)=eL then[a]else[]:=by
 have c:∀k<n1 L,(L++[a]).getD k nC=L.getD k nC:=λk b=>by
  rw[qg,qg,qw b]
 have b:∀k<n1 L,oJ (L++[a]) k=oJ L k:=λk b=>by
  unfold oJ;rw[c k b];cases k with
  |zero=>rfl
  |succ k=>rw[show k+1-1=k by omega,c k n3]
 have d:(L++[a]).getD L.length nC=a:=by rw[qg,ql (qk _)];simp
 unfold nh;rw[qq,List.length_singleton,zH,zm,qG];have e:(qz L.length).filter (oJ (L++[a]))=(qz L.length).filter (oJ L):=List.filter_congr λk h=>b k (q8.1 h);rw[e];congr 1
 .exact List.map_congr_left λk h=>c k (q8.1 (qN.1 h).1)
 .have f:oJ (L++[a]) L.length=decide (L=[]∨dM a (L.getD (n1 L-1) nC)=eL):=by
   unfold oJ;rw[d];cases L with
   |nil=>simp
   |cons x L=>
    rw[c _ n9];simp
  rw[zE,f];by_cases h:L=[]∨dM a (L.getD (n1 L-1) nC)=eL
  .rw[l0 h,m9 h,l0 n2,w9,List.map_singleton,d]
  .rw[m6 h,nb h,m6 n4,w9,vg]
theorem MO{P:List ct->Prop}(c:P [])(b:∀L a,P L->P (L++[a]))(L:List ct):P L:=by
 have h:P L.reverse.reverse:=by
  induction L.reverse with
  |nil=>exact c
  |cons a l ih=>rw[List.reverse_cons];exact b _ _ ih
 rwa [List.reverse_reverse]at h
theorem JS{L:List ct}{a:ct}(l:L.Pairwise λa b=>lU a b=eH)(j:∀y∈L,lU y a=eH)(c:L=[]∨dM a (L.getD (n1 L-1) nC)=eL):∀y∈L,dM a y=eL:=λy d=>by
 rw[xg];intro f;rcases c with c|c
 .rw[c]at d;cases d
 .obtain⟨i,m,rfl⟩:=yR.1 d;have e:n1 L-1<n1 L:=n3
  rw[qg,qd e,vE]at c;have k:lU L[i] L[n1 L-1]=eH:=by
   rcases Nat.lt_or_ge i (n1 L-1)with h|h
   .exact zf.1 l _ _ m e h
   .have:i=n1 L-1:=n3
    rw[le_iff];subst this;omega
  have g:=j _ (qf e);rw[le_iff]at k g;rw[kT]at f;have:dM a L[n1 L-1]=eH:=(kT _ _).2 n3;rw[this]at c;cases c
theorem Qr{x:ct}:∀(L:List ct),L.Pairwise (λa b=>lU a b=eH)->(x∈nh L↔L.find? (dM x)=cO x):=by
 refine MO (λ_=>by simp[nh]) λL a l m=>?_;obtain⟨g,_,i⟩:=zD.1 m;have c:=JS (a:=a) g λy j=>i y j a n9;rw[MN,qu,l g,xh];cases hf:L.find? (dM x)with
 |some z=>
  rw[Option.some_or];refine⟨λh=>?_,.inl⟩;rcases h with h|h
  .exact h
  .split at h
   .rename_i k;have h:x=a:=u0
    subst h;have:=c k z (zU hf);rw[vL hf]at this;cases this
   .cases h
 |none=>
  rw[Option.none_or];have d:=yp.1 hf;refine⟨λh=>?_,λh=>?_⟩
  .rcases h with h|h
   .cases h
   .split at h
    .have h:x=a:=u0
     subst h;rw[List.find?_cons,JR]
    .cases h
  .have e:=zU h;have e:x=a:=pt
   subst e;refine .inr ?_;rw[l0]
   .simp
   .cases L with
    |nil=>exact .inl n2
    |cons y L=>
     refine .inr ?_;have f:(y::L).length-1<(y::L).length:=n9
     rw[qg,qd f,vE];simpa using d _ (qf f)
theorem acr:∀(L:List ct),L.Pairwise (λa b=>lU a b=eH)->(nh L).Pairwise oe:=by
 refine MO (λ_=>by simp[nh]) λL a g k=>?_;obtain⟨e,_,h⟩:=zD.1 k;have d:∀y∈L,lU y a=eH:=λy f=>h y f a n9;rw[MN];split
 .rename_i i;refine zD.2 ⟨g e,n9,λy f b j=>?_⟩;rw[qA.1 j];have c:=zU ((Qr L e).1 f);exact⟨d y c,by rw[Vf];exact JS e d i y c⟩
 .rw[qR];exact g e
theorem OJ(x:ct)(l:List ct):(l.mergeSort lU).filter (dM x)=l.filter (dM x):=by
 have m:(l.filter (dM x)).Pairwise λa b=>lU a b=eH:=by rw[zf];intro i j k g h;have e:=(qN.1 (qf k)).2;have d:=(qN.1 (qf g)).2;rw[kT]at e d;rw[le_iff];omega
 have f:List.Sublist (l.filter (dM x)) (l.mergeSort lU):=List.sublist_mergeSort (le:=lU) (λa b c e d=>Iw.1 a b c e d) (λa b=>Iw.2 a b) m List.filter_sublist;have d:=f.filter (dM x);rw[List.filter_filter]at d;simp only[vl]at d;refine(d.eq_of_length ?_).symm;exact((wo l lU).filter _).length_eq.symm
theorem JT{α:Type}(p:α->Bool)(l:List α):l.find? p=(l.filter p).head?:=List.head?_filter.symm
theorem MP{x:ct}{l:List ct}:x∈nh (l.mergeSort lU)↔l.find? (dM x)=cO x:=by rw[Qr _ (wI (le:=lU) (λa b c e d=>Iw.1 a b c e d) (λa b=>Iw.2 a b) l),JT,JT,OJ]
theorem lt_iff(a b:ct):oe a b↔a.object<b.object∨(a.object=b.object/\(a.block<b.block∨(a.block=b.block/\a.id<b.id))):=by unfold oe;rw[le_iff,xg,ne_eq,kT];omega
theorem ER:∀{l m:List ct},l.Pairwise oe->m.Pairwise oe->(∀x,x∈l↔x∈m)->l=m
 |[],[],_,_,_=>rfl
 |[],b::m,_,_,h=>by have:=(h b).2 qS;cases this
 |a::l,[],_,_,h=>by have:=(h a).1 qS;cases this
 |a::l,b::m,hl,hm,h=>by
  obtain⟨l1,l2⟩:=zw.1 hl;obtain⟨g,m2⟩:=zw.1 hm;have f:a=b:=by
   rcases qQ.1 ((h a).1 qS)with e|e
   .exact e
   .rcases qQ.1 ((h b).2 qS)with e'|e'
    .exact e'.symm
    .have j:=(lt_iff _ _).1 (g a e);have k:=(lt_iff _ _).1 (l1 b e');omega
  subst f;rw[ER l2 m2 λx=>?_];have d:∀y,oe y y->False:=λy i=>by have:=(lt_iff _ _).1 i;omega
  refine⟨λc=>?_,λc=>?_⟩
  .rcases qQ.1 ((h x).1 (qt _ c))with e|e
   .exact(d a (e▸l1 x c)).elim
   .exact e
  .rcases qQ.1 ((h x).2 (qt _ c))with e|e
   .exact(d a (e▸g x c)).elim
   .exact e
structure lQ (goods out:List ct):Prop where
 lt:out.Pairwise oe
 mem:∀x,x∈out↔goods.find? (dM x)=cO x
theorem lQ.nil:lQ [] []:=⟨.nil,λx=>n9⟩
theorem lQ.done{d out:List ct}(h:lQ d out):out=nh (d.mergeSort lU):=
 ER h.lt (acr _ (wI (le:=lU) (λa b c f e=>Iw.1 a b c f e) (λa b=>Iw.2 a b) d)) λx=>by rw[h.mem,MP]
theorem Vg{a:List ct}{r z:ct}(h:a.find? (dM r)=cO z):a.find? (dM z)=cO z:=by rw[<-XU (vL h)];exact h
theorem lQ.acs{a out:List ct}(h:lQ a out){r:ct}:a.find? (dM r)=dB↔∀z∈out,dM r z=eL:=by
 refine⟨λb z c=>?_,λb=>?_⟩
 .have:=yp.1 b z (zU ((h.mem z).1 c));simpa using this
 .cases hf:a.find? (dM r)with
  |none=>rfl
  |some z=>
   have:=b z ((h.mem z).2 (Vg hf));rw[vL hf]at this;cases this
theorem lQ.step{c out:List ct}(h:lQ c out){r:ct}{k:Nat}(D:k<=n1 out)(q:∀x∈out.drop k,oe r x)(y:∀(f:0<k),¬oe r (out[k-1]'n3)):
  ((k=0∨∃f:0<k,oe (out[k-1]'n3) r)->lQ (c++[r]) (out.take k++r::out.drop k))/\((∃f:0<k,¬oe (out[k-1]'n3) r)->lQ (c++[r]) out):=by
 have e:∀x,(c++[r]).find? (dM x)=cO x↔c.find? (dM x)=cO x∨(c.find? (dM x)=dB/\x=r):=λx=>by
  rw[xh];cases hf:c.find? (dM x)with
  |some z=>simp
  |none=>
   rw[Option.none_or];refine⟨λh=>.inr ⟨n2,by simpa using zU h⟩,λh=>?_⟩;rcases h with h|⟨_,rfl⟩
   .cases h
   .rw[List.find?_cons,JR]
 have g:=h.lt;refine⟨λj=>?_,λ⟨f,j⟩=>?_⟩
 .have m:∀x∈out.take k,oe x r:=λx d=>by
   obtain⟨i,B,rfl⟩:=yR.1 d;rw[qB]at B;rcases j with j|⟨f,j⟩
   .omega
   .rw[List.getElem_take];rcases Nat.lt_or_ge i (k-1)with hik|hik
    .have:=zf.1 g i (k-1) n3 n3 hik;rw[lt_iff]at this j⊢;omega
    .have:i=k-1:=n3
     subst this;exact j
  have n:∀z∈out,dM r z=eL:=λz l=>by
   rw[<-qD k out]at l;rw[xg,ne_eq,kT];rcases qu.1 l with l|l
   .have:=(lt_iff _ _).1 (m z l);omega
   .have:=(lt_iff _ _).1 (q z l);omega
  refine⟨?_,λx=>?_⟩
  .rw[<-qD k out]at g;obtain⟨t,u,A⟩:=zD.1 g;refine zD.2 ⟨t,zw.2 ⟨q,u⟩,λa s b o=>?_⟩;rcases qQ.1 o with rfl|o
   .exact m a s
   .exact A a s b o
  .rw[e,<-h.mem];have p:x∈out↔x∈out.take k∨x∈out.drop k:=by rw[<-qu,qD]
   rw[qu,qQ,p];refine⟨λd=>?_,λd=>?_⟩
   .rcases d with d|rfl|d
    .exact .inl (.inl d)
    .exact .inr ⟨h.acs.2 n,n2⟩
    .exact .inl (.inr d)
   .rcases d with(d|d)|⟨_,d⟩
    .exact .inl d
    .exact .inr (.inr d)
    .exact .inr (.inl d)
 .refine⟨g,λx=>?_⟩;rw[e,<-h.mem];refine⟨.inl,λd=>d.elim id λ⟨hn,d⟩=>?_⟩;subst d;have w:=h.acs.1 hn _ (qf (show k-1<n1 out by omega));have v:=y f;rw[lt_iff]at v j;rw[xg,ne_eq,kT]at w;omega
section
variable {pw:fY}
theorem OK{m:aA}{l:dS}{c:aS}(h:c∈kD m l):n1 c<=64:=by
 unfold kD at h;obtain⟨r,_,rfl⟩:=qI.1 h;unfold gg;split
 .rename_i a;refine Nat.le_of_eq (nr n4 n4 ?_);have:=rC a;omega
 .simp
theorem JU(s b:Sl)(x:aY)(m:aA)(o:bR h a 159 (fo pw d s b))(w:eu h s 1 ar d.l)(ok:fd d)(k:cj h x m)(g:bG m):
  an xZ 194 #[xR (cO a),cu x] h λv h'=>∃r:Sl,v=r/\Sp h h' [cg r (gu m d.l)]:=by
 refine ts Tryz.func194 ?_ E9 [(1,(.l [0,2,3,1,4,5,6]))] (args:=[(cO a),x]);have j:=ok.len;have i:=ok.room;refine(Sp.refl h).boxed λG t f=>?_;refine⟨x,(f.box 0 n2).aw _ n2,x,(f.box 0 n2).aw _ n2,(mY x m t (k.up f.ac) g).I2 λr F A=>?_⟩;have e:=f.bV A;have c:=e.box 1 n2;refine⟨r,n2,⟨c.cell0 n2,c.cell n2,c.cell n2,c.cell n2,c.cell n2,c.cell n2,c.cell n2,c.cell n2,I4⟩,(Su s b x m (o.ac e.ac o.lt) (w.up e.ac) ok (k.up e.ac) g).I2 λu h3 B=>?_⟩;have y:=(e.bV B).aF 2 [1,0];have z:=jB m g;have q:=Bt m d.l;refine⟨u,n2,I4,y.Qd af cM ⟨_,_,n2,n2⟩ n3 λD E p=>?_⟩;exact⟨I4,D,n2,p.bs [0]⟩
theorem JV(s b:Sl)(x:aY)(m:aA)(n:Int)(u:bR h a 159 (fo pw d s b))(z:eu h s 1 ar d.l)(i:s.len=n1 d.l)(ok:fd d)(w:cj h x m)(q:bG m):
  an xZ 127 #[xR (cO a),cu x,xP xV n] h λv h'=>v=xT (rj m d n)/\Sp h h' []:=by
 refine ts Tryz.func127 ?_ (G7 (HF [] [(6,13)] E9)) (args:=[(cO a),x,(n:Int)]);have p:=ok.len;have o:=ok.room;refine(Sp.refl h).boxed λE B f=>?_;have c:=u.ac f.ac u.lt;refine aE (aU (λe=>oj) λ_=>(uM s b c).mono ?_);rintro _ _ ⟨rfl,rfl⟩;refine⟨_,n2,aU (λe=>⟨B9,.zip f.ac⟩) λe=>?_⟩;have t:rj m d n=(jH d d.l.length n||jH d (gu m d.l).length n):=B9
 refine(Dg s b c i).I0 ⟨_,n2,(xj s b d.l.length n c ok.room).I0 ?_⟩;refine⟨_,n2,aU (λk=>⟨by rw[t,k];rfl,.zip f.ac⟩) λk=>?_⟩;refine⟨x,(f.box 0 n2).aw _ n2,(JU s b x m c (z.up f.ac) ok (w.up f.ac) q).I2 λr D j=>?_⟩;have g:=(aa.lI j).1;have A:(gu m d.l).length<=4000:=by have:=jB m q;have:=Bt m d.l;unfold gu;rw[qq];omega
 have y:=f.bV j;refine⟨r,n2,(xj s b r.len n (c.ac j.ac c.lt) ok.room).I0 ?_⟩;exact⟨_,n2,by rw[t,k,yw,g],.zip y.ac⟩
theorem MQ(x:aY)(n:Int)(h:hY):an xZ 127 #[xR dB,cu x,xP xV n] h λv h'=>v=xT eL/\Sp h h' []:=by refine ts Tryz.func127 ?_ (G7 (HF [] [(6,13)] E9)) (args:=[(dB:bK),x,(n:Int)]);refine(Sp.refl h).boxed λb c a=>?_;exact aE (aU (λ_=>⟨n2,.zip a.ac⟩) λe=>oj)
theorem Vh(x:aY)(m:aA)(n:Int)(K:St B h0 As λh=>cj h x m)(u:bG m)(H:aa B h0 h (jq pw a d::eJ 96 pw w::As)):
  an xZ 128 #[xR (cO a),cu x,xP xV n] h λv h'=>v=xP xV (eO m w d n).1/\aa B h0 h' (jq pw a (eO m w d n).2.2::eJ 96 pw (eO m w d n).2.1::As):=by
 refine ts Tryz.func128 ?_ (G7 (E8 (G6 [] [(6,26)] (F8 (HF [(7,mH)] [(7,14)] E9))) E9)) (args:=[(cO a),x,(n:Int)]);refine(Sp.refl h).boxed λU y P=>?_;have p:=(H.bV P).aF 3 [1,2,0];have f:∀(e:Int) {h':hY},aP (λb=>b<y.size) y h'->eO m w d n=(e,w,d)->(Value.int .i64 e=xP xV (eO m w d n).1/\aa B h0 h' (jq pw a (eO m w d n).2.2::eJ 96 pw (eO m w d n).2.1::As)):=λe {h'} R M=>by
  rw[M];exact⟨n2,((p.up R).aF 3 [0,1])⟩
 obtain⟨ok,s,b,g⟩:=(id p).jX;have q:=g.box 0 n2;have N:eu y s 1 ar d.l:=(g.aF 2 [1]).BN λ_=>rfl;have k:=(aa.lI (g.aF 2 [1])).1;have J:=ok.len;have I:=ok.room;refine aE (aE (aU (λe=>oj) λ_=>(uM s b q).mono ?_));rintro _ _ ⟨rfl,rfl⟩;refine⟨_,n2,aU (λe=>f 5 (aP.refl _ _) (by unfold eO;rw[l0 e])) λe=>?_⟩;refine⟨x,(p.box 2 n2).aw _ n2,(JV s b x m n q N k ok (K.at [_,_,_] p) u).I1 λT o=>?_⟩;have z:=g.up o.ac;have j:=q.ac o.ac q.lt;have E:=p.up o.ac;refine⟨_,n2,aI (λt=>f 7 o.ac (by unfold eO;rw[m6 C3,l0 E2])) λt=>?_⟩;refine(Dg s b j k).I0 ⟨_,n2,(xj s b d.l.length n j ok.room).I0 ?_⟩;refine⟨_,n2,aU (λD=>f 0 o.ac (by unfold eO;rw[m6 C3,m6 E2,l0 D])) λD=>?_⟩;have em:eO m w d n=d.rewrite w (gu m d.l):=by unfold eO;rw[m6 C3,m6 E2,m6 (by simp[D])]
 rw[em];have O:(gu m d.l).length<=4000:=by have:=jB m u;have:=Bt m d.l;unfold gu;rw[qq];omega
 have A:∀c∈gu m d.l,n1 c<=64:=λc i=>by
  unfold gu at i;rcases qu.1 i with i|i
  .exact Nat.le_of_eq (sw i)
  .exact OK i
 refine⟨x,(E.box 2 n2).aw _ n2,(JU s b x m j ((z.aF 2 [1]).BN λ_=>rfl) ok (K.at [_,_,_] E) u).I2 λr h3 Q=>?_⟩;obtain⟨rs,F⟩:=(E.bV Q).MF λ_=>rfl;have F:=F.aF 4 [1,2,0];refine⟨r,n2,(MM r (gu m d.l) F (St.dN 0 n2 λh' G=>?_) n3 λc i=>q7 (A c i) n4).mono ?_⟩
 .exact⟨rs,G.1,G.2.1,G.2.2⟩
 rintro _ S ⟨rfl,L⟩;exact⟨_,n2,n2,L.aF 3 [0,1]⟩
end
variable {b:fY} {x:aY} {offs:Int} {da:List bK} {ds:aG}
section
variable {pw:fY}
theorem aa.XV(n:Nat)(i:n<64)(g:ds[n]?=cO dB)(H:aa B h0 h (aJ bP a pw (az x) offs da w ds::jq pw b d::As)){K:Unit->hY->Prop}
  (j:∀h',aa B h0 h' (aJ bP a pw (az x) offs (da.set n (cO b)) w (ds.set n (cO d))::As)->K () h'):
  av xZ (qL 85 (xR (cO ((a.add 10).add n))) (xR (cO b))) h K:=by
 obtain⟨ok,f⟩:=Qw.aa.jQ H;have e:(a.add 10).add n=a.add (10+n):=by unfold Addr.add;simp[Nat.add_assoc]
 rw[e];refine f.storeAt af 0 n2 n2 n2 n2 n2 (by simp[ok.la];omega) λh' c=>j h' ?_;rw[zx,JO ok.l8]at c;exact aa.Qq ok i g c
end
theorem AC(a:aG)(n:Nat)(d:bu)(s:Int)(c:n<64)(b:n1 a=64):bY (iG a (n:Int) d) s=if s=(n:Int)then cO d else bY a s:=by
 unfold bY iG
 grind
theorem kE{a:aG}{s:Int}{d:bu}(h:bY a s=cO d):∃n:Nat,s=(n:Int)/\n<64:=by
 unfold bY at h
 grind
structure Fit (ds:aG) (S Q:aD):Prop where
 len:n1 ds=64
 at_:∀s∈S,∃d,bY ds s=cO d/\d.lost=eL/\d.l.length+Q.count s<=d.room
theorem OL{d:bu}{n:Nat}(w:Pow)(b:aS)(e:d.lost=eL)(a:n1 d.l+(n+1)<=d.room)(c:n1 b=64):
  ((d.append w b).1=0∨(d.append w b).1=14)/\(d.append w b).2.2.lost=eL/\(d.append w b).2.2.l.length+n<=(d.append w b).2.2.room:=by
 unfold bu.append
 grind
theorem Vi{d:bu}(w:Pow)(a:d.lost=eL):((d.sync w).1=0∨(d.sync w).1=14)/\(d.sync w).2.2.lost=eL/\(d.sync w).2.2.l=d.l/\(d.sync w).2.2.room=d.room:=by
 unfold bu.sync
 grind
theorem BY{a:aG}{S Q:aD}{x:Int}(w:Pow)(b:aS)(F:Fit a S (x::Q))(f:x∈S)(l:n1 b=64):
  ((dX w a x b).1=0∨(dX w a x b).1=14)/\Fit (dX w a x b).2.2 S Q:=by
 obtain⟨d,c,i,k⟩:=F.at_ x f;rw[List.count_cons_self]at k;obtain⟨n,rfl,h⟩:=kE c;have A:=OL w b i (n:=Q.count (n:Int)) n3 l;have e:dX w a (n) b=((d.append w b).1,(d.append w b).2.1,iG a (n) (d.append w b).2.2):=by unfold dX;rw[c]
 rw[e];refine⟨A.1,by unfold iG;rw[qK];exact F.len,λs j=>?_⟩;rw[AC _ _ _ _ h F.len];by_cases m:s=(n)
 .grind
 .obtain⟨q,g,o,p⟩:=F.at_ s j
  grind
theorem Ds{S:aD}:∀(P:List (Int×aS)) (w:Pow) (ds:aG),Fit ds S (P.map qF)->(∀x∈P,x.1∈S/\x.2.length=64)->
  ((fU P w ds).1=0∨(fU P w ds).1=14)/\((fU P w ds).1=0->Fit (fU P w ds).2.2 S [])
 |[],w,ds,F,_=>⟨.inl n2,λ_=>F⟩
 |x::P,w,ds,F,hP=>by
  rw[lh];obtain⟨A,a⟩:=BY w x.2 (x:=x.1) (Q:=P.map qF) F (hP x (qS ..)).1 (hP x (qS ..)).2;by_cases h0:(dX w ds x.1 x.2).1=0
  .rw[l0 h0];exact Ds P _ _ a λy b=>hP y (qt _ b)
  grind
theorem ES{a:aG}{S:aD}{x:Int}(w:Pow)(F:Fit a S [])(f:x∈S):((fC w a x).1=0∨(fC w a x).1=14)/\Fit (fC w a x).2.2 S []:=by
 obtain⟨d,c,h,m⟩:=F.at_ x f;obtain⟨n,rfl,g⟩:=kE c;obtain⟨i,A2,k,l⟩:=Vi w h;have e:fC w a (n)=((d.sync w).1,(d.sync w).2.1,iG a (n) (d.sync w).2.2):=by unfold fC;rw[c]
 rw[e];refine⟨i,by unfold iG;rw[qK];exact F.len,λs j=>?_⟩;rw[AC _ _ _ _ g F.len];by_cases b:s=(n)
 .grind
 .rw[m6 b];exact F.at_ s j
theorem GZ{S:aD}:∀(l:aD) (w:Pow) (ds:aG),Fit ds S []->(∀x∈l,x∈S)->((iR l w ds).1=0∨(iR l w ds).1=14)
 |[],_,_,_,_=>.inl n2
 |x::l,w,ds,F,hl=>by
  rw[mT];obtain⟨A,a⟩:=ES w F (hl x (qS ..));by_cases h0:(fC w ds x).1=0
  .rw[l0 h0];exact GZ l _ _ a λy b=>hl y (qt _ b)
  grind
theorem OM{S:aD}(P:List (Int×aS))(w:Pow)(a:aG)(F:Fit a S (P.map qF))(c:∀x∈P,x.1∈S/\x.2.length=64):(layAll P w a).1=0∨(layAll P w a).1=14:=by
 obtain⟨A,b⟩:=Ds P w a F c;unfold layAll;by_cases h0:(fU P w a).1=0
 .rw[l0 h0];refine GZ _ _ _ (b h0) λx d=>?_;unfold gv at d
  grind
 grind
theorem si(m:aA)(s:Int):∀S:aD,((bo m S).map qF).count s=S.count s*(bI m).length
 |[]=>by simp[bo]
 |n::S=>by
  have e:bo m (n::S)=(bI m).map (λc=>(n,c))++bo m S:=rfl;rw[e,qG,List.count_append,si m s S,];have a:(bI m).map (qF∘λc=>(n,c))=qi (bI m).length n:=by rw[List.eq_replicate_iff];simp
  grind
theorem pQ(l:aD)(k:Nat):(bi l k).Nodup:=by refine List.Pairwise.filter _ (vp.2 ?_);exact(List.nodup_range (n:=k)).imp λh=>n3
theorem ON(p:Pm)(a:Int)(w:Pow)(l:aD)(g:n1 l<=64)(j:((bi l l.length).any λi=>decide (l.getD i.toNat 0<((bI (cv p a l)).length:Int)))=eL):
  (layAll (bo (cv p a l) (bi l l.length)) w (fL l (bi l l.length).length)).1=0∨(layAll (bo (cv p a l) (bi l l.length)) w (fL l (bi l l.length).length)).1=14:=by
 refine OM (S:=bi l l.length) _ _ _ ⟨ws _ _,λs c=>?_⟩ λx e=>me e;obtain⟨n,h,rfl,d⟩:=(oV l l.length s).1 c;have b:((bI (cv p a l)).length)<=l.getD n 0:=oo
 refine⟨bu.new (l.getD n 0).toNat,?_,n2,?_⟩
 .unfold bY fL;rw[l0 n3,qj,qP,zt n3,zp,qy,l0 c];rfl
 .rw[si];have:=List.nodup_iff_count.1 (pQ l l.length) (n);have f:List.count (n:Int) (bi l l.length)*(bI (cv p a l)).length<=1*(bI (cv p a l)).length:=zo _ this;simp only[bu.new,wQ];omega
theorem Ha{l:aD}(h:(dL l).2=eH):(dL l).1=bi l l.length/\l.length<=64/\∀n:Nat,l.getD n 0<=512:=by
 unfold dL at h⊢;by_cases a:l.all (dP · 0 512)=eH
 .rw[l0 a]at h⊢;refine⟨n2,by simp at h;exact h.1,λn=>?_⟩;rw[qg];by_cases b:n<n1 l
  .rw[qd b];have:=qU.1 a _ (qf b);unfold dP at this;simp at this⊢;omega
  .rw[zj n3];simp
 .rw[m6 a]at h;cases h
theorem Dt(l:aD)(i n:Nat)(g:i<(bi l l.length).length)(f:(bi l l.length)[i]=(n:Int))(c:n<64:=by omega):(fL l i)[n]?=cO dB:=by unfold fL;rw[qP,zt c,zp,m6];intro e;obtain⟨j,h,d⟩:=z8.1 e;have:=CF (pQ l l.length) (a:=j) (b:=i) n3 g (by rw[d,f]);omega
theorem Aa(m:aA):∀S:aD,(bo m S).length=n1 S*(bI m).length
 |[]=>by simp[bo]
 |n::S=>by
  have e:bo m (n::S)=(bI m).map (λc=>(n,c))++bo m S:=by unfold bo;rw[zA]
  rw[e,qq,qp,Aa m S,zc,z7,Nat.add_comm]
theorem sK(p:Pm)(a:Int)(l:aD)(b:n1 l<=64):bG (cv p a l):=⟨by have:=ly l l.length;simp[cv];omega,by simp[cv],by simp[cv]⟩
section
variable {pw:fY}
theorem ET(p:Pm)(c:Int)(s:Sl)(l:aD)(hS:St B h0 As λh=>Rd h s 1 aq l)(hl:n1 l<=2^20)(H:aa B h0 h (eJ 96 pw w::As)):
  an xZ 19 #[gr p,xP xV c,xR (cO pw),s] h λv h'=>
   ((cY p c w l).1≠0->v=.tuple #[xR dB,xP xV (cY p c w l).1]/\aa B h0 h' As)/\
   ((cY p c w l).1=0->∃(a:fY) (x:aY) (da:List bK),v=.tuple #[xR (cO a),xP xV 0]/\aa B h0 h' (aJ bP a pw (az x) w.offs da (cY p c w l).2.1 (cY p c w l).2.2::be x (cv p c l)::As)):=by
 refine ts Tryz.func19 ?_ (G7 (G7 (HF [] [(8,10),(23,42)] (HF [(12,Zm)] [(12,13),(42,51)] (E8 (G7 (F8 (G0 [(53,aH)] [(8,10),(14,15),(53,69)] E9))) (Hf [(71,aH)] [(16,17),(71,87)])))))) [(14,(.l [0,1,2,3,4,5,6,8,9,7,10,11]))] (args:=[p,(c:Int),(cO pw),s]);refine H.boxed λa1 h1 H1=>?_;have H1:=H1.bf;refine(OB s l h1 (hS.at [_,_] H1) hl).I2 λr h2 R2=>?_;have H2:=H1.bV R2;refine⟨(r,(dL l).2),n2,?_⟩;have o:∀{h':hY},aa B h0 h' As->((dL l).2&&(bJ p&&dP c 0 16))=eL->
   ((cY p c w l).1≠0->Value.tuple #[xR dB,xP xV 1]=.tuple #[xR dB,xP xV (cY p c w l).1]/\aa B h0 h' As)/\
   ((cY p c w l).1=0->∃(a:fY) (x:aY) (da:List bK),Value.tuple #[xR dB,xP xV 1]=.tuple #[xR (cO a),xP xV 0]/\aa B h0 h' (aJ bP a pw (az x) w.offs da (cY p c w l).2.1 (cY p c w l).2.2::be x (cv p c l)::As)):=λ{h'} H' hc=>by
  have e:cY p c w l=(1,w,[]):=by unfold cY;rw[hc];rfl
  rw[e];exact⟨λ_=>⟨n2,H'⟩,λh=>absurd h (show¬(1:Int)=0 by decide)⟩
 refine aE (aI (λe=>o H2.rest.rest.rest A1) λe=>?_);have ep:(dL l).2=eH:=pt
 obtain⟨ap,A,F⟩:=Ha ep;refine⟨p,(H2.box 1 n2).aw _ n2,(fc p h2).I1 λh3 R3=>?_⟩;have D:aa B h0 h3 (ai 3 r 1 aq (dL l).1::aj a1 24 [xP xV p.1,xP xV p.2.1,xP xV p.2.2]::eJ 96 pw w::As):=by have:=H2.comp R3;rw[qR]at this;exact this
 refine⟨_,n2,aI (λe2=>o D.rest.rest.rest E4) λe2=>?_⟩;have em:bJ p=eH:=v7
 refine ae (λe3=>o D.rest.rest.rest sL) λe3=>ae (λe4=>o D.rest.rest.rest sL) λe4=>aU (λe5=>by cases e5) λ_=>?_;rw[ap]at D;refine aE ⟨p,(D.box 1 n2).aw _ n2,?_⟩;obtain⟨lw,bq,a0⟩:=(D.aF 3 [2,1,0]).jF;refine(Dd lw (a0.box 0 n2)).I0 ?_;have G:=D.box 1 n2;refine⟨_,n2,⟨G.cell0 n2,G.cell n2,G.cell n2,I4⟩,?_⟩;obtain⟨m,N⟩:=I3 (cv p c l)
 refine⟨_,UW (1,0,p.1,p.2.1,p.2.2,c,r,⟨dB,0,0⟩) pw w.offs,?_⟩;refine D.boxed λa9 h6 g=>?_;obtain⟨x,hx⟩:∃x:aY,x=(1,0,p.1,p.2.1,p.2.2,c,r,⟨dB,0,0⟩):=⟨_,rfl⟩
 rw[<-hx]at g;have K:(Value.agg (dh (az x) pw w.offs (qi 64 dB)).toArray).cells.toList=dh (az x) pw w.offs (qi 64 dB):=o8
 rw[K]at g;have g:=g.bf;have J:=g.box 2 n2;refine⟨⟨J.cell0 n2,J.cell n2,J.cell n2,I4⟩,?_⟩;have g:=g.aF 4 [0,3,1];have g:=aa.JN (k:=bP) (h8:=by simp) g;obtain⟨P,z⟩:=I3 (bi l l.length)
 rw[<-z]at g;have hz:bG m:=N▸sK p c l A;have a4:n1 P<=64:=by rw[z];exact q7 (ly _ _) A
 have V:∀{h':hY} {Bs:List HP} {X:HP},aa B h0 h' (X::ai 3 r 1 aq P::Bs)->cj h' x m:=λ{h' Bs X} H'=>by
  have hs:=H'.seq 1 n2 λ_=>rfl;have hc:=(H'.own 1 n2).cap;subst hx;subst N;exact⟨n2,n2,n2,n2,by show Seq _ _ r 1 aq (bi l l.length);rw[<-z];exact hs,bW.nil _ _ _ _,hc,qk _⟩
 have U:((dL l).2&&(bJ p&&dP c 0 16))=eH:=by rw[ep,em];unfold dP;simp;omega
 have R:(P.any λi=>decide (l.getD i.toNat 0<((bI m).length:Int)))=eH->cY p c w l=(7,w,[]):=λhh=>by
  unfold cY;rw[l0 U,<-z,<-N,l0 hh]
 have al:(P.any λi=>decide (l.getD i.toNat 0<((bI m).length:Int)))=eL->cY p c w l=layAll (bo m P) w (fL l P.length):=λhh=>by
  unfold cY;rw[l0 U,<-z,<-N,hh,m6 n4]
 have L:∀i (M:i<n1 P),∃n:Nat,n<n1 l/\P[i]=(n:Int)/\0<l.getD n 0:=by subst z;exactλi M=>ww l l.length i M
 refine ak (λi:Nat=>(i:Int)) (λi h'=>i<=n1 P/\((P.take i).any λi=>decide (l.getD i.toNat 0<((bI m).length:Int)))=eL/\aa B h0 h' (aJ bP a9 pw (az x) w.offs (qi 64 dB) w (qi 64 dB)::ai 3 r 1 aq P::As)) (λi=>n1 P-i) 0 n2 ⟨n3,n9,g⟩ ?_;rintro i h7 ⟨M,j,E⟩;dsimp only at*;obtain⟨bb,a5⟩:=aa.cB E;have b2:r.len=n1 P:=(E.own 1 n2).len;refine ae (λe5=>?_) (λe5=>?_)
 .have d:i<n1 P:=n3
  obtain⟨n,O,en,T⟩:=L i d;refine(E.seq 1 n2 λ_=>rfl).aX i n2 d (n:Int) E6 ?_;refine(hS.at [_,_] E).nD n n2 O (l.getD n 0) (by rw[getD_lt O];rfl) λbr ah=>?_;refine⟨a9,n2,x,a5.aw _ qa,(mY x m h7 (V E) hz).I2 λu h9 R9=>?_⟩;have H9:=E.bV R9;have bd:=(aa.lI H9).1;refine⟨u,n2,gI R9.ac ⟨ah,I4⟩,?_⟩;refine ae (λe6=>?_) (λe6=>?_)
  .rw[R (zW.2 ⟨P[i],qf d,by rw[en,qj];exact m9 n3⟩)];exact⟨λ_=>⟨n2,H9.rest.rest.rest⟩,λh=>absurd h (show¬(7:Int)=0 by decide)⟩
  .refine⟨i+1,oi,⟨n3,?_,H9.rest⟩,n3⟩;rw[aC _ _ d,yl,j,yw,vJ,xf,vj,en,qj];exact nb n3
 .have I:i=n1 P:=n3
  subst I;rw[qy]at j;have ay:=al j;rw[<-Dk l]at E;refine ak (λt:Nat×List bK=>(t.1:Int)) (λt h'=>t.1<=n1 P/\aa B h0 h' (aJ bP a9 pw (az x) w.offs t.2 w (fL l t.1)::ai 3 r 1 aq P::As)) (λt=>n1 P-t.1) (0,qi 64 dB) n2 ⟨n9,E⟩ ?_;rintro⟨i,da⟩ ab ⟨M,f⟩;dsimp only at*;obtain⟨bl,Z⟩:=aa.cB f;refine ae (λe6=>?_) (λe6=>?_)
  .have d:i<n1 P:=n3
   obtain⟨n,O,en,T⟩:=L i d;have a8:=F n;refine(f.seq 1 n2 λ_=>rfl).aX i n2 d (n:Int) E6 ?_;refine(hS.at [_,_] f).aX n n2 O (l.getD n 0) (by rw[getD_lt O];rfl) ?_;refine⟨a9,n2,(Si (l.getD n 0) pw ab).mono ?_⟩;rintro _ b1 ⟨Q1,_⟩;obtain⟨b,rfl,a2⟩:=Q1 n3;have ao:=(f.bV a2).aF 2 [1,0];refine⟨_,n2,I4,⟨n3,n3⟩,?_⟩;rw[qj,zM];have Y:i<(bi l l.length).length:=by rw[<-z];exact d
   have ad:(bi l l.length)[i]=(n:Int):=by rw[<-en];simp only[z]
   refine Qw.aa.XV n n3 (Dt l i n Y ad) ao λb0 a3=>?_;refine⟨I4,(i+1,da.set n (cO b)),n8,⟨n5,?_⟩,n5⟩
   try dsimp only
   rw[<-Dl l i n Y ad];exact a3
  .have I:i=n1 P:=n3
   subst I;refine⟨a9,n2,x,Z.aw _ qa,(EO x m r P ab (V f) hz (f.seq 1 n2 λ_=>rfl) n3).mono ?_⟩;rintro _ bk ⟨u,ys,rfl,am⟩;have ax:=(f.bV am).aF 2 [1,0];refine⟨u,n2,?_⟩;have S:=jB m hz;refine(Di u ys (bo m P) (St.dN 0 n2 λ_ W=>W) ?_ ?_ ax).mono ?_
   .rw[Aa];have:=zu a4 S;omega
   .intro y hy;obtain⟨a7,a6⟩:=me hy;obtain⟨i,M,e⟩:=qE a7;obtain⟨n,O,en,_⟩:=L i M;rw[<-e,en,a6];exact⟨⟨n3,n3⟩,n4⟩
   rintro _ b3 ⟨rfl,Q⟩;rw[ay];refine⟨_,n2,bt (λe7=>⟨λ_=>⟨n2,Q.rest.rest.rest⟩,λh=>absurd h e7⟩) λe7=>⟨λh=>absurd e7 h,λ_=>⟨a9,x,da,n2,?_⟩⟩⟩;rw[<-N];exact Q.nF.dG 1 n2 λq W=>by
    subst hx;subst N;exact⟨n2,n2,n2,n2,by show Seq _ _ r 1 aq (bi l l.length);rw[<-z];exact W.1.seq (λ_=>rfl) W.2,bW.nil _ _ _ _,W.1.cap,qk _⟩
end
def nw(m:aA)(a:aG)(k n:Int):Bool:=match bY a k with|some d=>rj m d n|none=>eL
def iu(m:aA)(a:aG)(l:aD)(N:Int->Int):Bool:=l.all λk=>nw m a k (N k)
def fG(m:aA)(w:Pow)(a:aG)(k n:Int):Int×Pow×aG:=
 match bY a k with
 |none=>(5,w,a)
 |some d=>((eO m w d n).1,(eO m w d n).2.1,iG a k (eO m w d n).2.2)
def makes(m:aA)(N:Int->Int):aD->Pow->aG->Int×Pow×aG
 |[],w,ds=>(0,w,ds)
 |k::l,w,ds=>if(fG m w ds k (N k)).1=0 then makes m N l (fG m w ds k (N k)).2.1 (fG m w ds k (N k)).2.2 else fG m w ds k (N k)
theorem JW(f:FuncId)(pre post:Array Value)(P:Int->Bool)(s:Sl)(l:aD)(h:hY)(q:C.fns[f]?=cO eH)(n:Rd h s 1 aq l)(w:n1 l<=2^30)
  (t:∀k∈l,∀h',Sp h h' []->an xZ f (pre.toList++[Value.int .i64 k]++post.toList).toArray h' λv d=>v=xT (P k)/\Sp h' d []):
  an xZ 125 #[s,.func (.func f) pre post] h λv h'=>v=xT (l.any P)/\Sp h h' []:=by
 refine ts Tryz.func125 ?_ (args:=[s,(.func (.func f) pre post)]);refine(iL s (f,pre,post) (R:=λv h'=>(∃i:Int,v=xP xV i/\decide (i>=0)=l.any P)/\Sp h h' []) ?_).mono ?_
 .skip
  have p:=n.len;refine ak (λi:Nat=>(i:Int)) (λi h'=>i<=n1 l/\(l.take i).any P=eL/\Sp h h' []) (λi=>n1 l-i) 0 n2 ⟨n3,n9,Sp.refl h⟩ ?_;rintro i j ⟨o,a,c⟩;refine ae (λe=>?_) (λe=>?_)
  .have b:i<n1 l:=by have e':(i:Int)<(s.len:Int):=e;omega
   refine(Seq.up n c.ac).aX i n2 b l[i] n2 (fB q ?_);refine(t l[i] (qf b) j c).I1 λx r=>?_;have m:=c.up r.ac;refine⟨_,n2,aU (λg=>⟨⟨i,n2,?_⟩,m⟩) λg=>?_⟩
   .rw[zW.2 ⟨_,qf b,g⟩];exact m9 n3
   .refine⟨i+1,oi,⟨n3,?_,m⟩,n3⟩;rw[aC _ _ b,yl,a,vJ,xf,g];rfl
  .have e':¬(i:Int)<(s.len:Int):=e;rw[qh n3]at a;exact⟨⟨-1,n2,by rw[a];rfl⟩,c⟩
 .rintro _ j ⟨⟨i,rfl,o⟩,u⟩;exact⟨i,n2,by rw[o],u⟩
section
variable {pw:fY}
def Le(f:FuncId)(pre post:Array Value)(N:Int->Int)(l:aD)(h:hY):Prop:=∀k∈l,an xZ f (pre.toList++[Value.int .i64 k]++post.toList).toArray h λv h'=>v=xP xV (N k)/\Sp h h' []
theorem Hb(f:FuncId)(pre post:Array Value)(N:Int->Int)(x:aY)(m:aA)(s:Sl)(l:aD)(hf:C.fns[f]?=cO eH)(T:St B h0 As λh=>cj h x m/\Le f pre post N l h)(V:bG m)(hs:Rd h s 1 aq l)(hl:n1 l<=2^30)(E:∀k∈l,0<=k/\k<64)(H:aa B h0 h (aJ bP a pw (az x) offs da w ds::As)):
  an xZ 55 #[xR (cO a),s,.func (.func f) pre post] h λv h'=>v=xT (iu m ds l N)/\Sp h h' []:=by
 refine ts Tryz.func55 ?_ (args:=[(cO a),s,(.func (.func f) pre post)]);refine(Sp.refl h).boxed λt h1 R1=>R1.boxed λQ S p=>?_;have X:=H.up p.ac;have g:bR S t 30 [xR (cO a)]:=p.box 0 n2;have P:=p.box 1 n2;refine(JW 126 #[] #[xR (cO t),xR (cO Q)] (λk=>!nw m ds k (N k)) s l S qa (hs.up p.ac) hl ?_).mono ?_
 .intro k O h3 i;have G:=X.up i.ac;have R:=(g.ac i.ac g.lt).cell0 n2;have W:=(P.ac i.ac P.lt).cell0 n2;obtain⟨ok,u⟩:=aa.cB G;have L:=E k O;refine ts Tryz.func126 ?_ (args:=[(k:Int),t,Q]);obtain⟨n,rfl⟩:∃n:Nat,k=n:=⟨k.toNat,n3⟩
  have z:n<n1 da:=B8
  have cd:hU h3 ((a.add 10).add ((n:Int).toNat*1))=cO (.pointer da[n]):=by rw[qj,zM];refine u.lF 10 n ?_;rw[mK ok.l8,qd z];rfl
  obtain⟨Z,J⟩:=T.at [_] G;refine⟨cO a,R,a,n2,⟨n3,n3⟩,da[n],cd,cO a,R,a,n2,x,u.aw _ n2,(f,pre,post),W,fB hf ?_⟩;refine(J n O).I1 λy r=>?_;have M:=G.up r.ac;have q:=((g.ac i.ac g.lt).ac r.ac (g.ac i.ac g.lt).lt).cell0 n2;have c:=u.ac r.ac u.lt;have I:hU y ((a.add 10).add ((n:Int).toNat*1))=cO (.pointer da[n]):=by rw[qj,zM];refine c.lF 10 n ?_;rw[mK ok.l8,qd z];rfl
  refine⟨_,n2,⟨c.cell0 n2,c.cell n2,c.cell n2,c.cell n2,c.cell n2,c.cell n2,c.cell n2,c.cell n2,q,I,q,I4⟩,?_⟩;have K:dj da (n:Int)=da[n]:=by unfold dj;rw[l0 n3,qj,qd z];rfl
  rw[<-K];have fin:∀{A:Bool} {j:hY},A=nw m ds n (N n)->Sp y j []->bF.ok [(t,xR (cO a)),(t,xR (cO a))] j/\(Value.bool (!A)=xT (!nw m ds n (N n))/\Sp h3 j []):=λ{A j} he o=>by
   have U:=(g.ac i.ac g.lt).ac r.ac (g.ac i.ac g.lt).lt;have:=(U.ac o.ac U.lt).cell0 n2;exact⟨⟨this,this,I4⟩,by rw[he],.zip (aa.up r o.ac).ac⟩
  rcases gj ok (n:Int)with⟨e1,e2⟩|⟨n',d,b,e0,e1,e2,e3,e4,e5⟩
  .rw[e2];refine(MQ x _ y).I1 λj o=>⟨_,n2,fin (by unfold nw;rw[e1]) o⟩
  .rw[e5];obtain⟨b',e,H5⟩:=Qw.aa.fy M e2;rw[e4]at e;injection e with e
   injection e with e
   subst e;obtain⟨F,Y,bd,D⟩:=aa.jX H5;refine(JV Y bd x m (N n) (D.box 0 n2) ((D.aF 2 [1]).BN λ_=>rfl) (aa.lI (D.aF 2 [1])).1 F (T.at [_] M).1 V).I1 λj o=>⟨_,n2,fin (by unfold nw;rw[e3]) o⟩
 .rintro _ h3 ⟨rfl,i⟩;refine⟨_,n2,?_,.zip (aa.up p i.ac).ac⟩;unfold iu;rw[List.not_any_eq_all_not];simp
theorem MR(x:aY)(n:Int)(h:hY):an xZ 128 #[xR dB,cu x,xP xV n] h λv h'=>v=xP xV 5/\Sp h h' []:=by refine ts Tryz.func128 ?_ (G7 (E8 (G6 [] [(6,26)] (F8 (HF [(7,mH)] [(7,14)] E9))) E9)) (args:=[(dB:bK),x,(n:Int)]);refine(Sp.refl h).boxed λb c a=>?_;exact aE (aE (aU (λ_=>aU (λ_=>⟨n2,.zip a.ac⟩) λe=>oj) λe=>oj))
theorem He(m:aA)(N:Int->Int)(l:aD)(w:Pow)(a:aG)(i:Nat)(b:i<n1 l):makes m N (l.drop i) w a=if(fG m w a l[i] (N l[i])).1=0 then makes m N (l.drop (i+1)) (fG m w a l[i] (N l[i])).2.1 (fG m w a l[i] (N l[i])).2.2 else fG m w a l[i] (N l[i]):=by rw[qW b];rfl
theorem Hg(f:FuncId)(pre post:Array Value)(N:Int->Int)(x:aY)(m:aA)(s:Sl)(l:aD)(X:C.fns[f]?=cO eH)(K:St B h0 As λh=>cj h x m/\Le f pre post N l h/\Rd h s 1 aq l)(T:bG m)(hl:n1 l<=2^30)(G:∀k∈l,0<=k/\k<64)(H:aa B h0 h (aJ bP a pw (az x) offs da w ds::As)):
  an xZ 56 #[xR (cO a),s,.func (.func f) pre post] h λv h'=>v=xP xV (makes m N l w ds).1/\aa B h0 h' (aJ bP a pw (az x) offs da (makes m N l w ds).2.1 (makes m N l w ds).2.2::As):=by
 refine ts Tryz.func56 ?_ (G7 (E8 (G7 (F8 (G0 [(12,aH)] [(6,7),(8,10),(12,34)] (G7 (G7 (E8 (F8 (G7 (HF [(9,aH)] [(9,10),(16,30)] E9))) E9)))))) E9)) (args:=[(cO a),s,(.func (.func f) pre post)]);have W:=(K.at [_] H).2.2.len;obtain⟨Z,P⟩:=I3 (makes m N l w ds)
 rw[<-P];refine ak (λt:Nat×Pow×aG=>(t.1:Int)) (λt h'=>t.1<=n1 l/\Z=makes m N (l.drop t.1) t.2.1 t.2.2/\aa B h0 h' (aJ bP a pw (az x) offs da t.2.1 t.2.2::As)) (λt=>n1 l-t.1) (0,w,ds) n2 ⟨n9,P,H⟩ ?_;rintro⟨i,D,y⟩ h1 ⟨hi,q,E⟩;dsimp only at*;refine ae (λe=>?_) λe=>?_
 .have p:i<n1 l:=n3
  rw[He _ _ _ _ _ _ p]at q;obtain⟨ab,L,J⟩:=K.at [_] E;refine J.aX i n2 p l[i] n2 (aE ?_);have A:=G l[i] (qf p);obtain⟨k,F⟩:=I3 (l[i])
  have I:k∈l:=by rw[F];exact qf p
  rw[<-F]at q A;rw[<-F];obtain⟨n,rfl⟩:∃n:Nat,k=n:=⟨k.toNat,n3⟩
  obtain⟨ok,z⟩:=aa.cB E;have O:n<n1 da:=B8
  have R:∀{h':hY},bR h' a 94 (dh (az x) pw offs da)->hU h' ((a.add 10).add ((n:Int).toNat*1))=cO (.pointer da[n]):=λ{h'} z=>by
   rw[qj,zM];refine z.lF 10 n ?_;rw[mK ok.l8,qd O];rfl
  refine⟨a,n2,⟨n3,n3⟩,da[n],R z,a,n2,x,z.aw _ n2,fB X ?_⟩;refine(L n I).I1 λY S=>?_;have Q:=E.up S.ac;have g:=z.ac S.ac z.lt;refine⟨_,n2,⟨g.cell0 n2,g.cell n2,g.cell n2,g.cell n2,g.cell n2,g.cell n2,g.cell n2,g.cell n2,R g,I4⟩,?_⟩;have M:dj da (n:Int)=da[n]:=by unfold dj;rw[l0 n3,qj,qd O];rfl
  rw[<-M];obtain⟨c,o⟩:=I3 (fG m D y n (N n))
  rw[<-o]at q;have fin:∀{h3:hY},aa B h0 h3 (aJ bP a pw (az x) offs da c.2.1 c.2.2::As)->bF.ok [] h3/\Br (c.1 !=(0:Int)) (Value.int .i64 c.1=xP xV Z.1/\aa B h0 h3 (aJ bP a pw (az x) offs da Z.2.1 Z.2.2::As))
    (∃r:Nat×Pow×aG,qe xV ((i:Int)+1)=(r.1:Int)/\(r.1<=n1 l/\Z=makes m N (l.drop r.1) r.2.1 r.2.2/\aa B h0 h3 (aJ bP a pw (az x) offs da r.2.1 r.2.2::As))/\l.length-r.1<n1 l-i):=λ{h3} H3=>by
   refine⟨I4,bt (λu=>?_) λu=>?_⟩
   .rw[m6 u]at q;rw[q];exact⟨n2,H3⟩
   .rw[l0 u]at q;exact⟨(i+1,c.2.1,c.2.2),n8,⟨n5,q,H3⟩,n5⟩
  rcases gj ok (n:Int)with⟨e1,u⟩|⟨n',d,b,e0,e1,u,e3,e4,e5⟩
  .rw[u];have es:c=(5,D,y):=by rw[o];unfold fG;rw[e1]
   refine(MR x _ Y).I1 λh3 R3=>⟨c.1,by rw[es],fin (h3:=h3) (by rw[es];exact Q.up R3.ac)⟩
  .rw[e5];have en:n=n':=n3
   subst en;obtain⟨b',j,H5⟩:=Qw.aa.fy Q u;rw[e4]at j;injection j with j
   injection j with j
   subst j;have es:c=((eO m D d (N n)).1,(eO m D d (N n)).2.1,y.set n (cO (eO m D d (N n)).2.2)):=by rw[o];unfold fG;rw[e3];simp only[iG,qj]
   refine(Vh x m (N n) (λBs h' V=>(K (Bs++[_]) h' (by rw[qo];exact V)).1) T H5).I1 λh3 U=>?_;have H7:=Qw.aa.kR (k:=bP) (n:=n) e4 U;exact⟨c.1,by rw[es],fin (h3:=h3) (by rw[es];exact H7)⟩
 .rw[zl n3]at q;rw[q];exact⟨n2,E⟩
end
def XW(a b:dg):Int:=if cU a.1 b.1 then-1 else if iV a.1 b.1 then 0 else 1
def kF(a b:dg):Bool:=iV a.1 b.1
theorem MS(a b:dg):XW a b<0↔¬kF b a=eH:=by unfold XW kF iV;cases h:cU a.1 b.1<;>simp;split<;>omega
theorem Du:Ord kF:=⟨λa b c=>CJ a.1 b.1 c.1,λa b=>CK a.1 b.1⟩
abbrev MT(x:dg):Value:=xU #[xS x.1,xP xV x.2.1,xP xV x.2.2.1,x.2.2.2]
theorem KB(x y:ByteArray)(h:hY):an xZ 154 #[xS x,xS y] h λv h'=>v=xP xV (if cU x y then-1 else if iV x y then 0 else 1)/\h'=h:=by
 refine ts Tryz.func154 ?_;have a:∀z:ByteArray,an xZ 223 #[xS z] h λv h'=>v=xT eL/\h'=h:=λz=>by
  refine ts Tryz.func223 ?_;exact⟨n9,n2⟩
 refine(a x).I0 ⟨_,n2,(a y).I0 ?_⟩;refine⟨_,n2,aU (λe=>oj) λ_=>aU (λe=>oj) λ_=>?_⟩;have d:Op.bytesLess x.toList y.toList=cU x y:=rfl;rw[Lb,d];have c:(!Op.bytesLess y.toList x.toList)=iV x y:=rfl;rw[c];refine aU (λe=>⟨A1,n2⟩) λe=>aI (λb=>⟨by rw[e,b];rfl,n2⟩) λb=>⟨by rw[e,b];rfl,n2⟩
theorem Sv(a b:dg)(h:hY):an xZ 153 #[MT a,MT b] h λv h'=>v=xP xV (XW a b)/\Sp h h' []:=by refine ts Tryz.func153 ?_ (args:=[a,b]);refine(Sp.refl h).boxed λf g e=>e.boxed λi d c=>?_;refine⟨a.1,(c.box 0 n2).cell0 n2,b.1,(c.box 1 n2).cell0 n2,(KB a.1 b.1 d).I0 ?_⟩;exact⟨_,n2,n2,.zip c.ac⟩
abbrev Ac(s:Sl)(d:List dg):HP:=ai 59 s 4 aT d
variable {h':hY} {s:Sl}
section
variable {d:List dg}
theorem OO{d b:List dg}{y:dg}(c:Sd kF (d++b))(g:∀z∈d,kF z y=eH)(f:∀z∈b,¬kF z y=eH):Sd kF (d++y::b):=
 Sd.app Du c.left (zw.2 ⟨λz a=>Du.CB (f z a),c.right⟩) λx e z a=>by
  rcases qQ.1 a with rfl|a
  .exact g x e
  .exact c.Ec x e z a
theorem Hj(X M Y:List dg)(a b:Int)(ha:a=(n1 X:Int))(hb:b=(n1 X+n1 M:Nat))(ah:n1 X+n1 M+n1 Y<=2^40)(H:aa B h0 h (Ac s (X++(M++Y))::As)):
  an xZ 284 #[s,xP xV a,xP xV b,.func (.func 153) #[] #[]] h λv h'=>v=.tuple #[]/\∃V,Sd kF V/\cE kF M V/\aa B h0 h' (Ac s (X++(V++Y))::As):=by
 refine ts Tryz.func284 ?_ (G7 (F8 (G0 [(8,aH)] [(8,10),(12,53)] (G7 (E8 (F8 (G7 (F8 (G0 [(9,aH)] [(9,10),(18,53)] (HF [] [(18,35)] E9))))) E9))))) (args:=[s,(a:Int),(b:Int),(.func (.func 153) #[] #[])]);subst ha;subst hb;rw[ag ((n1 X:Int)+1)];refine ak (λt:Nat×List dg=>((n1 X+1+t.1:Nat):Int)) (λt h'=>(t.1+1<=n1 M∨t.1=0)/\Sd kF t.2/\cE kF (M.take (t.1+1)) t.2/\t.2.length=(M.take (t.1+1)).length/\aa B h0 h' (Ac s (X++(t.2++(M.drop (t.1+1)++Y)))::As)) (λt=>n1 M-t.1) (0,M.take 1) n2 ?_ ?_
 .refine⟨.inr n2,?_,cE.refl _,n2,?_⟩
  .cases M with
   |nil=>exact List.Pairwise.nil
   |cons x M=>exact zw.2 ⟨λ_ h=>C4,n9⟩
  .rw[<-qo (M.take (0+1)),qD];exact H
 rintro⟨t,P⟩ h1 ⟨ht,q,r,ad,S⟩;dsimp only at*;refine ae (λe=>?_) (λe=>?_)
 .have J:t+1<n1 M:=n3
  obtain⟨y,hy⟩:=I3 (M[t+1])
  have G:n1 P=t+1:=by rw[ad];simp;omega
  have eD:M.drop (t+1)=y::M.drop (t+1+1):=by rw[qW J,hy]
  rw[eD]at S;refine ak (λu:List dg×List dg=>((n1 X+n1 u.1:Nat):Int)) (λu h'=>u.1++u.2=P/\(∀z∈u.2,¬kF z y=eH)/\aa B h0 h' (Ac s (X++(u.1++(y::(u.2++(M.drop (t+1+1)++Y)))))::As)) (λu=>n1 u.1) (P,[]) (by dsimp only;rw[G];congr 1;omega) ⟨n9,n9,C6⟩ ?_;rintro⟨c,d⟩ Z ⟨L,f,I⟩;dsimp only at*;have al:n1 c+n1 d=t+1:=by rw[<-G,<-L,qq]
  have done:∀{h':hY},(∀z∈c,kF z y=eH)->aa B h0 h' (Ac s (X++(c++(y::(d++(M.drop (t+1+1)++Y)))))::As)->
    ∃k:Nat×List dg,qe xV (((n1 X+1+t:Nat):Int)+1)=((n1 X+1+k.1:Nat):Int)/\((k.1+1<=n1 M∨k.1=0)/\Sd kF k.2/\cE kF (M.take (k.1+1)) k.2/\k.2.length=(M.take (k.1+1)).length/\aa B h0 h' (Ac s (X++(k.2++(M.drop (k.1+1)++Y)))::As))/\M.length-k.1<n1 M-t:=λ{h'} hle H'=>by
   refine⟨(t+1,c++y::d),by dsimp only;rw[ag _];omega,⟨.inl n5,?_,?_,?_,?_⟩,n5⟩
   .exact OO C9 hle f
   .try dsimp only
    rw[aC M (t+1) J,<-hy];have h1:cE kF (M.take (t+1)++[y]) (P++[y]):=r.app (cE.refl _);refine h1.trans ?_;rw[<-L,qo];have Z:cE kF (d++[y]) ([y]++d):=cE.Ub Du λx hx z R=>by rw[qA.1 R];exact f x hx
    exact(cE.refl _).app Z
   ·(try dsimp only);simp;omega
   .try dsimp only
    have:X++((c++y::d)++(M.drop (t+1+1)++Y))=X++(c++(y::(d++(M.drop (t+1+1)++Y)))):=n9
    rw[this];exact H'
  obtain⟨D,O⟩:=I3 (X++(c++(y::(d++(M.drop (t+1+1)++Y)))))
  refine bj (λ_ h'=>∃(Q:List dg) (z:dg),c=Q++[z]/\¬kF z y=eH/\aa B h0 h' (Ac s D::As)) ?_ ?_
  .rw[<-O]at I done;refine ae (λU=>?_) (λU=>⟨I4,done (λz R=>?_) I⟩)
   .have K:c≠[]:=λh=>by rw[h]at U;simp at U
    obtain⟨Q,z,o⟩:∃(Q:List dg) (z:dg),c=Q++[z]:=⟨c.dropLast,c.getLast K,(List.dropLast_concat_getLast K).symm⟩
    have ab:n1 c=n1 Q+1:=by rw[o];simp
    have g1:D[n1 X+n1 c]?=cO y:=by rw[O,ql n3,show X.length+n1 c-n1 X=n1 c by omega,ql n3,zh];rfl
    have g2:D[n1 X+n1 c-1]?=cO z:=by rw[O,ql n3,show X.length+n1 c-1-n1 X=n1 Q by omega,o,qo,ql (qk _),zh];rfl
    obtain⟨N,E⟩:=qm.1 g1;obtain⟨T,p⟩:=qm.1 g2;refine(I.seq 0 n2 λ_=>rfl).cH (g:=aT) _ n2 N y (by rw[E]) ?_;have W:qe xV (((n1 X+n1 c:Nat):Int)-1)=((n1 X+n1 c-1:Nat):Int):=o6
    rw[W];refine(I.seq 0 n2 λ_=>rfl).cH (g:=aT) _ n2 T z (by rw[p]) (fB qa ?_);refine(Sv y z Z).I1 λh3 R3=>?_;have F:=I.up R3.ac;refine⟨_,n2,I4,ae (λe3=>⟨Q,z,o,(MS y z).1 e3,F⟩) λe3=>done (λw l=>?_) F⟩;have m:kF z y=eH:=by
     by_cases hc:kF z y=eH
     .exact hc
     .exact absurd ((MS y z).2 hc) e3
    rw[o]at l;rcases qu.1 l with l|l
    .refine Du.trans _ _ _ ?_ m;have:Sd kF (Q++[z]):=by rw[<-o];exact Sd.left (v:=d) C9
     exact this.Ec w l z n9
    .rw[qA.1 l];exact m
   .have:c=[]:=by
     cases c with
     |nil=>rfl
     |cons x P=>exfalso;simp only[zc]at U;omega
    rw[this]at R;cases R
  .rintro _ h3 ⟨Q,z,o,m,F⟩;have ab:n1 c=n1 Q+1:=by rw[o];simp
   have A:D=(X++Q)++z::([]++y::(d++(M.drop (t+1+1)++Y))):=by rw[O,o];simp
   obtain⟨q1,q2,q3,q4⟩:=MB (X++Q) [] (d++(M.drop (t+1+1)++Y)) z y (i:=n1 X+n1 c-1) (j:=n1 X+n1 c) n7 n7;rw[<-A]at q1 q2 q3 q4;obtain⟨T,p⟩:=qm.1 q1;obtain⟨N,E⟩:=qm.1 q2;have W:qe xV (((n1 X+n1 c:Nat):Int)-1)=((n1 X+n1 c-1:Nat):Int):=o6
   rw[W];refine(F.seq 0 n2 λ_=>rfl).cH (g:=aT) _ n2 T z (by rw[p]) ?_;refine(F.seq 0 n2 λ_=>rfl).cH (g:=aT) _ n2 N y (by rw[E]) ?_;refine F.set af 0 n2 (λ_=>rfl) n2 (n1 X+n1 c) n2 N z n2 n2 n2 λh4 H4=>⟨I4,?_⟩
   refine H4.set af 0 n2 (λ_=>rfl) n2 (n1 X+n1 c-1) n2 D3 y n2 n2 n2 λh5 H5=>⟨I4,?_⟩
   refine⟨(Q,z::d),by dsimp only;congr 1;omega,⟨by dsimp only;rw[<-L,o];simp,?_,?_⟩,n5⟩
   .try dsimp only
    intro w l;rcases qQ.1 l with rfl|l
    .exact m
    .exact f w l
   .try dsimp only
    have:X++(Q++(y::(z::d++(M.drop (t+1+1)++Y))))=(X++Q)++y::([]++z::(d++(M.drop (t+1+1)++Y))):=n9
    rw[this,<-q4];exact H5
 .refine⟨n2,P,q,?_,?_⟩
  .rw[qh n3]at r;exact r
  .rw[zl n3]at S;simpa using S
theorem MU(r:Nat)(h:hY)(b:r<=2^32):an xZ 222 #[xP xY r] h λv h'=>(∃k:Int,v=xP xV k)/\h'=h:=by intro w a;refine(Tryz.bits_Len (r:Int) w n3 n3).mono ?_;rintro e c ⟨rfl,rfl⟩;exact⟨_,n2,dn.refl _,⟨_,n2⟩,a⟩
theorem Sw(d:List dg)(m:n1 d<=12)(H:aa B h0 h (Ac s d::As)):
  an xZ 152 #[s,.func (.func 153) #[] #[]] h λv h'=>v=.tuple #[]/\aa B h0 h' (Ac s (d.mergeSort kF)::As):=by
 refine ts Tryz.func152 ?_ (args:=[s,(.func (.func 153) #[] #[])]);have i:=(H.own 0 n2).len;have a:∀k:Int,an xZ 221 #[s,xP xV 0,xP xV (s.len:Nat),xP xV k,.func (.func 153) #[] #[]] h λv h'=>v=.tuple #[]/\aa B h0 h' (Ac s (d.mergeSort kF)::As):=λk=>by
  refine ts Tryz.func221 ?_ (G7 (G7 (F8 (G0 [(1,aH),(2,aH),(3,aH),(10,mH),(11,mH)] [(1,4),(10,148)] (F8 (G7 (G7 (G7 (HF [(3,aH)] [(3,4),(38,47)] (G7 (HF [(13,aH),(14,aH)] [(13,15),(55,68)] (HF [] [(68,81)] (E8 (G6 [(1,aH)] [(1,2),(15,16),(81,105)] (HF [(97,mH)] [(81,98)] E9)) E9))))))))))))) (args:=[s,(0:Int),((s.len:Nat):Int),(k:Int),(.func (.func 153) #[] #[])]);refine ak (λ_:Unit=>((0:Int),((s.len:Nat):Int),k,eH,eH)) (λ_ h'=>h'=h) (λ_=>0) () n2 n2 ?_;rintro _ f rfl;refine ae (λ_=>?_) λe=>absurd (show qe xV (((s.len:Nat):Int)-0)<=12 by rw[ag _];omega) e;refine(Hj [] d [] 0 (s.len:Nat) n2 (by simp[i]) n7 u7).mono ?_;rintro _ l ⟨rfl,M,j,g,b⟩;refine⟨(),n2,n2,?_⟩;rw[<-Ze Du j g];simpa using b
 have c:qe xY ((s.len:Nat):Int)=((s.len:Nat):Int):=by unfold qe;simp[qx,yG];omega
 rw[c];refine(MU s.len h n3).mono ?_;rintro _ f ⟨⟨k,rfl⟩,rfl⟩;refine⟨k,n2,(a k).I1 λl b=>?_⟩;exact⟨(),n2,n2,b⟩
end
def act:aY:=(0,0,0,0,0,0,⟨dB,0,0⟩,⟨dB,0,0⟩)
theorem OP{m:aA}{e:Qw.cS}{xe:dg}{L:List (dg×Qw.cS)}{pool:List (Sl×aD)}(k:L.map zk=m.objs)(j:∀p∈L,Bo pool p)(h:Bo pool (xe,e)):
  ∃g:List (dg×Qw.cS),g.map qF=(L.map qF++[xe]).mergeSort kF/\g.map zk=(m.objs++[e]).mergeSort mU/\∀p∈g,Bo pool p:=by
 have c:∀p∈L++[(xe,e)],Bo pool p:=λp d=>by
  rcases qu.1 d with d|d
  .exact j p d
  .rw[qA.1 d];exact h
 refine⟨(L++[(xe,e)]).mergeSort λa b=>kF a.1 b.1,?_,?_,λp d=>c p ((wo _ _).mem_iff.1 d)⟩
 .rw[vS (r:=λa b=>kF a.1 b.1) (s:=kF) (f:=qF) λa _ b _=>rfl,qG];rfl
 .rw[vS (r:=λa b=>kF a.1 b.1) (s:=mU) (f:=zk) (λa l b i=>by unfold kF mU;rw[(c a l).1.1,(c b i).1.1]),qG,k];rfl
theorem Vj(x:aY)(m:aA)(xe:dg)(e:Qw.cS)(z:cj h x m)(D:bG m)(hs:0<=m.seq/\m.seq<=2^40)(W:0<=m.next/\m.next<=2^40)(ho:m.objs.length<=11)(K:xe.1=e.name/\xe.2.1=e.object/\xe.2.2.1=e.length)(H:aa B h0 h (vz xe.2.2.2 1 aq e.tries::As)):
  an xZ 87 #[cu x,MT xe] h λv h'=>∃y:aY,v=cu y/\aa B h0 h' (be y (nH m e)::As):=by
 refine ts Tryz.func87 ?_ (args:=[x,xe]);refine(Sp.refl h).boxed λa1 X U=>U.boxed λM h2 I=>I.alloc af n2 λa3 h3 l=>?_;refine⟨x,(l.box 0 n2).aw _ n2,(pJ x m h3 (z.up l.ac) D).mono ?_⟩;rintro _ V ⟨y,L,pool,rfl,g,u,r,R⟩;have E:=((l.bs [1,2]).comp R).front;refine⟨y,n2,E.alloc af n2 λO Y q=>?_⟩;have q:=q.bf;refine q.storeAll af 0 n2 n2 (az y) n2 n2 n2 n2 λh6 s=>?_;refine⟨y.1,(s.box 0 n2).cell0 n2,?_⟩;have P:qe xV (y.1+1)=m.seq+1:=by rw[g.1,ag _]
 have Q:qe xV (y.2.1+1)=m.next+1:=by rw[g.2.1,ag _]
 try dsimp only
 rw[P];refine s.gx af 0 n2 n2 [xP xV (m.seq+1)] n2 n2 n2 o8 λh7 w=>?_;refine⟨y.2.1,(w.box 0 n2).cell n2,?_⟩
 try dsimp only
 rw[Q];refine w.store af 0 n2 n2 1 [xP xV (m.next+1)] n2 n2 n2 o8 λh8 k=>?_;have A:L.length=m.objs.length:=by rw[<-u,qp]
 refine⟨y.2.2.2.2.2.2.2,(k.box 0 n2).cell n2,xe,(k.box 4 n2).aw _ n2,?_⟩;refine k.push af 3 n2 kQ n2 n4 (λ_=>rfl) ow xe n2 n4 n7 λo G j=>?_;refine j.store af 0 n2 n2 7 [o] n2 n2 n2 o8 λn b=>?_;obtain⟨c,a⟩:∃c:aY,c=(m.seq+1,m.next+1,y.2.2.1,y.2.2.2.1,y.2.2.2.2.1,y.2.2.2.2.2.1,y.2.2.2.2.2.2.1,o):=⟨_,rfl⟩
 have T:c.2.2.2.2.2.2.1=y.2.2.2.2.2.2.1:=by rw[a]
 have J:c.2.2.2.2.2.2.2=o:=by rw[a]
 have b:Sp h n [aj O 27 (az c),ib 1 aq pool,ai 3 c.2.2.2.2.2.2.1 1 aq m.drives,ai 59 c.2.2.2.2.2.2.2 4 aT (L.map qF++[xe]),aj M 59 (aT xe),aj a3 27 (az act)]:=by rw[T,J,a];exact b
 refine⟨c.2.2.2.2.2.2.2,(b.box 0 n2).cell n2,?_⟩;have b:=b.aF 6 [3,0,1,2,4,5];refine(Sw (L.map qF++[xe]) n7 b).I1 λS f=>⟨(),n2,c,(f.box 1 n2).aw _ n2,?_⟩;refine f.storeAll af 5 n2 n2 (az c) n2 n2 n2 n2 λF d=>?_;refine⟨c,(d.box 5 n2).aw _ n2,c,n2,?_⟩;obtain⟨Z,l1,l2,N⟩:=OP (pool:=(xe.2.2.2,e.tries)::pool) (m:=m) (e:=e) (xe:=xe) u (λp t=>⟨(r p t).1,qt _ (r p t).2⟩) ⟨K,qS⟩;have i:=((H.comp (d.bs [2,3,0])).front).aF 4 [0,3,1,2];have i:=aa.IK i;rw[<-l1]at i;refine aa.ua (m:=nH m e) ⟨by rw[a];rfl,by rw[a];rfl,by rw[a];exact g.2.2.1,by rw[a];exact g.2.2.2⟩ l2 N i
section
variable {pw:fY}
theorem aa.Vk{x y:aY}(H:aa B h0 h (aJ bP a pw (az x) offs da w ds::As)){K:Unit->hY->Prop}(d:∀h',aa B h0 h' (aJ bP a pw (az y) offs da w ds::As)->K () h'):
  av xZ (qL 27 (xR (cO a)) (cu y)) h K:=by
 obtain⟨ok,c⟩:=Qw.aa.jQ H;refine c.gx af 0 n2 n2 (az y) n2 n2 n2 n9 λh' b=>d h' ?_;exact aa.mJ (k:=bP) ⟨n2,ok.la,ok.ls,ok.same⟩ b
theorem Hk(x z:aY)(b:aA)(s:Sl)(l:aD)(m:St B h0 As λh=>cj h z b/\Rd h s 1 aq l)(g:bG b)(t:n1 l<=2^10)(i:∀k∈l,0<=k/\k<64)(H:aa B h0 h (aJ bP a pw (az x) offs da w ds::As)):
  an xZ 57 #[xR (cO a),cu z,s] h λv h'=>v=xP xV (layAll (bo b l) w ds).1/\
   ((layAll (bo b l) w ds).1≠0->aa B h0 h' (aJ bP a pw (az x) offs da (layAll (bo b l) w ds).2.1 (layAll (bo b l) w ds).2.2::As))/\
   ((layAll (bo b l) w ds).1=0->∃y,aa B h0 h' (aJ bP a pw (az y) offs da (layAll (bo b l) w ds).2.1 (layAll (bo b l) w ds).2.2::be y b::As)):=by
 refine ts Tryz.func57 ?_ (args:=[(cO a),z,s]);refine H.boxed λN D c=>?_;have c:=c.bf;refine⟨z,(c.box 0 n2).aw _ n2,(EO z b s l D (m.at [_,_] c).1 g (m.at [_,_] c).2 t).mono ?_⟩;rintro _ M ⟨r,u,rfl,F⟩;have E:=(c.bV F).aF 3 [2,0,1];have f:=jB b g;have p:=zu t f;refine⟨r,n2,(Di r u (bo b l) (St.dN 0 n2 λ_ o=>o) (by rw[Aa];omega) (λq o=>?_) E).mono ?_⟩
 .obtain⟨n,j⟩:=me o;rw[j];exact⟨i _ n,n4⟩
 rintro _ h3 ⟨rfl,d⟩;obtain⟨R,G⟩:=I3 (layAll (bo b l) w ds)
 rw[<-G]at d⊢;refine⟨_,n2,bt (λe=>⟨n2,λ_=>d.aF 3 [0],λh=>absurd h e⟩) λe=>?_⟩;refine⟨z,(d.box 2 n2).aw _ n2,(GM z b h3 (m.at [_,_,_] d).1 g).I2 λy K I=>?_⟩;have A:=(d.bV I).aF 4 [1,0];refine⟨y,n2,a,n2,aa.Vk A λL J=>?_⟩;exact⟨by rw[e],λh=>absurd e h,λ_=>⟨y,J⟩⟩
def dH(a:ByteArray)(e:Qw.cS):Bool:=e.name.toList==a.toList
theorem find_spec(x:aY)(m:aA)(b:ByteArray)(q:cj h x m)(r:bG m)(H:aa B h0 h (aJ bP a pw (az x) offs da w ds::As)):
  an xZ 101 #[xR (cO a),xS b] h λv h'=>(∃i:Int,v=xP xV i/\MJ (dH b) m.objs i)/\Sp h h' []:=by
 refine ts Tryz.func101 ?_;refine(Sp.refl h).boxed λj k c=>?_;have p:bR k j 9 [xS b]:=c.box 0 n2;obtain⟨ok,n⟩:=aa.cB H;have e:=n.ac c.ac n.lt;have d:=r.ob;refine⟨a,n2,x.2.2.2.2.2.2.2,e.cell n2,?_⟩;refine(EP 169 #[] #[xR (cO j)] (dH b) x.2.2.2.2.2.2.2 m.objs k qa (q.up c.ac).objs d ?_).mono ?_
 .intro u E l f s z;refine ts Tryz.func169 ?_ (args:=[u,j]);refine(Sp.refl l).boxed λA h3 g=>?_;have o:=(p.ac f.ac p.lt)
  have y:=o.ac g.ac o.lt;refine⟨u.1,(g.box 0 n2).cell0 n2,b,y.cell0 n2,?_,.zip g.ac⟩;unfold dH;rw[s.1.1]
 .rintro _ l ⟨⟨i,rfl,t⟩,f⟩;exact⟨i,n2,⟨i,n2,t⟩,.zip (aa.up c f.ac).ac⟩
theorem ox{b:aR}(H:aa B h0 h (aJ bP a pw b offs da w ds::As)):an xZ 50 #[xR (cO a)] h λv h'=>v=xT (gO w offs)/\h'=h:=by refine pr (cO a) ?_;refine aU (λe=>oj) λ_=>(pM H).I0 ⟨_,n2,n2,n2⟩
def dR(m:aA)(down:Bool)(b:aG)(a:ByteArray)(n:Nat):Int:=
 if down then 14 else if !gB a then 3 else if m.objs.any (dH a)then 4
 else if m.p.1*m.p.2.2*8<(n:Int)∨12<=n1 m.objs then 6
 else if bn b m.drives=[]∨16777215<m.next∨2147483647<=m.seq then 7 else 0
theorem MV(x:aY)(m:aA)(b:ByteArray)(s:Sl)(n:Nat)(Z:s.len=n)(u:b.size<=2^40)(N:cj h x m)(J:bG m)(U:bJ m.p=eH)(H:aa B h0 h (aJ bP a pw (az x) offs da w ds::As)):
  an xZ 83 #[xR (cO a),xS b,s] h λv h'=>v=xP xV (dR m (gO w offs) ds b n)/\Sp h h' []:=by
 refine ts Tryz.func83 ?_ (G7 (E8 (F8 (G7 (G7 (G7 (G7 (G7 (G7 (HF [(19,mH)] [(19,46)] E9)))))))) E9));have V:=(bL m.p).1 U;refine(ox H).mono ?_;rintro _ y ⟨rfl,rfl⟩;refine⟨_,n2,aU (λe=>⟨by unfold dR;rw[e];rfl,Sp.refl _⟩) λq=>?_⟩;refine(JL b y u).I1 λh2 o=>⟨_,n2,aI (λe=>⟨by unfold dR;rw[q,e];rfl,o⟩) λG=>?_⟩;have K:=H.up o.ac;have k:=N.up o.ac;refine(find_spec x m b k J K).mono ?_;rintro _ h3 ⟨⟨i,rfl,T⟩,F⟩;have z:Sp y h3 []:=.zip (aa.up o F.ac).ac;have d:=MK T;refine⟨i,n2,aU (λe=>⟨by unfold dR;rw[q,G,<-d,e];rfl,z⟩) λR=>?_⟩;rw[R]at d;have L:=K.up F.ac;have c:=k.up F.ac;obtain⟨ok,l⟩:=aa.cB L;have M:=bW.len c.objs;have E:x.2.2.1=m.p.1:=congrArg (·.1) c.p;have D:x.2.2.2.2.1=m.p.2.2:=congrArg (·.2.2) c.p;have hk:m.p.1*m.p.2.2<=16*24:=wi n3 n3 n3 n3;have Y:0<=m.p.1*m.p.2.2:=vy n3 n3;refine bj (λ(t:Bool) h'=>t=decide (m.p.1*m.p.2.2*8<(n:Int)∨12<=n1 m.objs)/\h'=h3) ?_ ?_
 .refine⟨a,n2,x.2.2.1,l.cell n2,a,n2,x.2.2.2.2.1,by rw[addr_add];exact l.cell n2,?_⟩
  try dsimp only
  rw[E,D,ag (m.p.1*m.p.2.2),ag (m.p.1*m.p.2.2*8)];refine ae (λe=>⟨(m9 (.inl n3)).symm,n2⟩) λe=>?_;refine⟨a,n2,x.2.2.2.2.2.2.2,l.cell n2,?_,n2⟩;rw[decide_eq_decide];omega
 rintro t _ ⟨rfl,rfl⟩;refine ae (λe=>⟨by unfold dR;rw[q,G,<-d,l0 e];rfl,z⟩) λX=>?_;have W:dR m (gO w offs) ds b n=if bn ds m.drives=[]∨16777215<m.next∨2147483647<=m.seq then 7 else 0:=by unfold dR;rw[q,G,<-d,m6 X];rfl
 rw[W];refine(fx x m c J L).I2 λr O I=>?_;have g:=(I.own 0 n2).len;have f:Sp y O []:=.zip (aa.up z I.ac).ac;have j:=l.ac I.ac l.lt;refine⟨r,n2,aV (λe=>⟨by rw[l0 (.inl (qV n3))],f⟩) λe=>?_⟩;have A:bn ds m.drives≠[]:=λS=>by rw[S]at g;simp at g;omega
 refine⟨a,n2,x.2.1,j.cell n2,ae (λe=>⟨by rw[l0 (.inr (.inl (by rw[<-c.next];omega)))],f⟩) λe6=>?_⟩;have P:=c.next;have Q:=c.seq;refine⟨a,n2,x.1,j.cell0 n2,ae (λe=>⟨by rw[l0 (.inr (.inr n3))],f⟩) λe7=>⟨?_,f⟩⟩;rw[m6];rintro(h|h|h)
 .exact A h
 .omega
 .omega
end
theorem uh:∃i a,C.T.get 41=cO i/\i.co=.slice a:=⟨_,_,n2,n2⟩
def oy(A B:aO)(k:Nat):aO:=eI (A.take k) (B.take k)++A.drop k
theorem rK{A B:aO}(h:n1 B=n1 A)(k:Nat):(oy A B k).length=n1 A:=by simp[oy,eI,h];omega
theorem Vl{A B:aO}(h:n1 B=n1 A){k:Nat}(a:k<n1 A):(oy A B k)[k]?=cO A[k]:=by
 have:(eI (A.take k) (B.take k)).length=k:=by simp[eI];omega
 rw[oy,ql n3,this,zh,wO,yh,qd a]
theorem Vm{A B:aO}(h:n1 B=n1 A){k:Nat}(a:k<n1 A):(oy A B k).set k (A[k]++B[k]'n3)=oy A B (k+1):=by
 have b:(eI (A.take k) (B.take k)).length=k:=by simp[eI];omega
 rw[oy,za _ _ n3,b,zh,qW a,zx,oy,aC _ _ a,aC _ _ (show k<n1 B by omega),eI,eI,vH n7,qo];rfl
theorem Vn{A B:aO}(h:n1 B=n1 A):oy A B A.length=eI A B:=by rw[oy,qy,<-h,qy,h,y0,qR]
theorem Sx(f:fY)(a b:Sl)(A B:aO)(n w:Nat)(h:hY)(hf:ig h f)(H:eu h a 1 ar A)(V:eu h b 1 ar B)(hl:n1 A=n)(a8:n1 B=n)(g:aW n A)(J:aW w B)(a9:1<=n)(hn:n+w<=64)(hr:cx A=n):
  an xZ 208 #[xR (cO f),a,b] h λv h'=>∃r:Sl,v=.tuple #[r,xP xV 0]/\Sp h h' [dD 41 r 1 ar (eS n A B)]:=by
 have d:n1 B=n1 A:=n3
 have ab:=H.len;have E:=V.len;refine ts Tryz.func208 ?_ (G7 (HF [] [(6,8),(17,37)] (G7 (G7 (E8 (G7 (F8 (G0 [(43,aH)] [(10,11),(43,59)] E9))) (G7 (G7 (E8 (G7 (F8 (G0 [(71,aH)] [(6,8),(13,14),(71,79)] E9))) (G7 (Hf [(14,bN),(83,aH)] [(14,15),(16,17),(83,95)]))))))))));refine aE ?_;refine(mL a A n h H g).mono ?_;rintro v h1 ⟨rfl,rfl⟩;refine⟨_,n2,aI (λe=>oj) λ_=>?_⟩;refine(mL b B w h1 V J).mono ?_;rintro v I ⟨rfl,rfl⟩;refine⟨_,n2,aI (λe=>oj) λ_=>?_⟩;refine bt (λe=>absurd (by rw[ab,E,d]) e) λ_=>?_;refine aV (λe=>n3) λ_=>?_;refine(pP a A I H).mono ?_;rintro v h3 ⟨rfl,rfl⟩;have Q:ez A=n:=by
  cases A with
  |nil=>simp at hl;omega
  |cons x t=>rw[ez,bh n9];exact g _ n9
 refine⟨_,n2,?_⟩;rw[Q];refine(uf a A n h3 H g).mono ?_;rintro v h4 ⟨r,rs,rfl,ay,R4⟩;refine⟨r,n2,?_⟩;have ao:=(R4.own 0 n2).len;refine ak (λt:Nat×List Sl=>(t.1:Int)) (λt h'=>t.1<=n/\t.2.length=n/\Sp h3 h' (kS r t.2 (oy A B t.1))) (λt=>n-t.1) (0,rs) n2 ⟨n9,n5,by simpa[oy,eI]using R4⟩ ?_;rintro⟨k,rs⟩ h5 ⟨hk,bb,D⟩;dsimp only at*;have z:n1 rs=(oy A B k).length:=A9
 refine ae (λe=>?_) (λe=>?_)
 .have F:k<n:=n3
  have u:k<n1 A:=n3
  have L:=lC (a:=r) z k A9;have eg:(oy A B k)[k]'(by rw[rK d];omega)=A[k]:=by have:=Vl d u;rw[qd A9]at this;exact wm.inj this
  rw[eg]at L;have l1:A[k].length=n:=g _ (qf _);have l2:(B[k]'n3).length=w:=J _ (qf _);refine(D.seq 0 n2 λ_=>rfl).dQ k n2 n3 λa1 ah Y=>?_;refine(V.up D.ac).get k n2 n3 λrb U=>?_;refine D.append af (k+1) L cN uh n2 n4 (λ_=>rfl) U cD n3 λG h6 H6=>⟨I4,?_⟩
  refine H6.set af 0 n2 (λ_=>rfl) n2 k n2 n3 G n2 n2 n2 λW H7=>⟨I4,?_⟩
  refine⟨(k+1,rs.set k G),n8,⟨n5,p7,?_⟩,n5⟩
  try dsimp only
  rw[<-Vm d u];show Sp h3 W (ai 41 r 1 bv (rs.set k G)::bg 5 1 ar (rs.set k G) ((oy A B k).set k _));rw[<-gS z];exact H7
 .have X:k=n1 A:=n3
  subst X;rw[Vn d]at D;refine(sh f h5).mono ?_;rintro v h6 ⟨rfl,rfl⟩;refine⟨cO f,n2,?_⟩;have l:=lJ d.symm g J;have a0:=lq d.symm;refine(wS (m:=eI A B) (n:=n+w) hf hf.lt n3 l n3 n3 n3 D).mono ?_;rintro v W ⟨i,rfl,ap,p⟩;rw[tK d.symm g,hr];refine⟨_,n2,?_⟩
  try dsimp only
  have al:=(p.own 0 n2).cap;have a5:=(p.own 0 n2).len;have I:=fS l n;refine ae (λe=>absurd (show(n:Int)<(n:Int)from e) n3) λ_=>?_;refine⟨⟨zi _,wG.2 (show n<=r.len by omega)⟩,?_⟩;refine ak (λ_:Unit=>(0:Int)) (λ_ h'=>h'=W) (λ_=>0) () n2 n2 ?_;rintro _ h8 rfl;rw[qj];refine ae (λe=>n3) λ_=>?_;refine⟨⟨zi _,wG.2 (show n<=r.cap by omega)⟩,?_⟩;obtain⟨M,K⟩:=I3 ((bc (eI A B) n).2)
  have a2:n1 M=n:=by have:=I.2;rw[<-K]at this;omega
  have T:aW (n+w) M:=by rw[K];exact I.1
  have o:∀k (hk:k<n),(eS n A B).take (k+1)=(eS n A B).take k++[(M[k]'n3).drop n]:=λk hk=>by
   have e1:eS n A B=M.map (List.drop n):=by rw[eS,<-K,qh n3]
   rw[e1,aC _ _ n7,zB]
  have ax:(eS n A B).length=n:=(pH d.symm g J hr).1;rw[<-K]at p;refine ak (λt:Sl×Nat=>(t.1,(t.2:Int))) (λt h'=>t.2<=n/\Sp h8 h' [dD 41 t.1 1 ar ((eS n A B).take t.2)]) (λt=>n-t.2) (⟨dB,0,0⟩,0) n2 ⟨n9,(Sp.refl h8).sv 41 1 ar⟩ ?_;rintro⟨s,k⟩ h9 ⟨a3,N⟩;dsimp only at*;have P:=p.comp N;have R:n1 i=n1 M:=n3
  refine ae (λe=>?_) (λe=>?_)
  .have F:k<n:=n3
   have L:=lC (a:=r) R k n3;have q:(kS r i M++[dD 41 s 1 ar ((eS n A B).take k)])[k+1]?=cO (ai 5 (i[k]'n3) 1 ar (M[k]'n3)):=by rw[qw (by simp[bg];omega)];exact L
   have a7:(M[k]'n3).length=n+w:=T _ (qf _);have y:=P.own (k+1) q;have ad:=P.seq (k+1) q λ_=>rfl;have am:=y.len;have j:=(P.seq 0 n2 λ_=>rfl).take n n3;rw[qh n3]at j;refine j.dQ k n2 n3 λa1 ah Y=>?_;refine⟨⟨zi _,wG.2 n3⟩,?_⟩;refine(fT _ _ h9 (ad.drop n y.cap) n7).I2 λc a6 S=>?_;have Z:=(N.comp S).freeze 1 n2 λ_=>rfl;refine⟨c,n2,?_⟩;refine Z.jE af 0 1 n4 n2 n2 cM n7 λs' a4 O=>?_;refine⟨(s',k+1),n8,⟨n5,?_⟩,n5⟩
   try dsimp only
   rw[o k F];exact O.del 1
  .rw[qh n3]at N;refine⟨s,n2,?_⟩;have:=(Sp.zip p.ac).comp N;exact this
def iM(p:Pm)(seed:Int)(l:Nat):Int:=if bJ p&&decide ((l:Int)=p.1*p.2.2)then(if fE p seed (fl p)then 0 else 8)else 1
abbrev sj(p:Pm)(seed:Int)(m:Sl):aR:=[xP xV p.1,xP xV p.2.1,xP xV p.2.2,xP xX seed,m]
theorem XX(p:Pm)(seed:Int)(data:Sl)(d:Row)(h:hY)(hd:Rd h data 1 ar d)(hc:data.len<=data.cap):
  an xZ 147 #[gr p,xP xX seed,data] h λv h'=>
   (iM p seed d.length=0->∃(b:fY) (m:Sl),v=.tuple #[xR (cO b),xP xV 0]/\Sp h h' [dD 41 m 1 ar (kd p seed d),aj b 243 (sj p seed m)])/\
   (iM p seed d.length≠0->v=.tuple #[xR dB,xP xV (iM p seed d.length)]/\Sp h h' []):=by
 have Y:=hd.len;refine ts Tryz.func147 ?_ (G7 (HF [] [(6,8),(12,25)] (G7 (G7 (E8 (G7 (F8 (G0 [(8,bN),(31,aH)] [(8,9),(31,40)] E9))) (E8 (G7 (F8 (G0 [(8,bN),(42,aH)] [(8,10),(42,60)] E9))) (HF [(10,bN),(11,aH)] [(10,12),(60,71)] E9))))))) [(15,(.l [1,2,3,6,0,4,5,7,8,9,10,11,12]))] (args:=[p,(xP xX (seed:Int)),data]);refine(Sp.refl h).boxed λa h1 H1=>?_;refine aE ?_;refine⟨p,(H1.box 0 n2).aw _ n2,(fc p h1).mono ?_⟩;rintro v h2 ⟨rfl,R2⟩;have N:=H1.comp R2;have no:∀{h3:hY} (x:Int),x≠0->iM p seed d.length=x->Sp h h3 [aj a 24 [xP xV p.1,xP xV p.2.1,xP xV p.2.2]]->
   (iM p seed d.length=0->∃(b:fY) (m:Sl),Value.tuple #[xR dB,xP xV x]=.tuple #[xR (cO b),xP xV 0]/\Sp h h3 [dD 41 m 1 ar (kd p seed d),aj b 243 (sj p seed m)])/\
   (iM p seed d.length≠0->Value.tuple #[xR dB,xP xV x]=.tuple #[xR dB,xP xV (iM p seed d.length)]/\Sp h h3 []):=λx hx R H=>by
  refine⟨λe=>absurd (R.symm.trans e) hx,λ_=>⟨by rw[R],.zip H.ac⟩⟩
 refine⟨_,n2,aI (λe=>no 1 n4 (by rw[iM,e];rfl) N) λS=>?_⟩;have ay:=(bL p).1 S;obtain⟨K,hK⟩:∃K:Nat,p.1=K:=⟨p.1.toNat,n3⟩
 obtain⟨y,hH⟩:∃H:Nat,p.2.1=H:=⟨p.2.1.toNat,n3⟩
 obtain⟨w,O⟩:∃w:Nat,p.2.2=w:=⟨p.2.2.toNat,n3⟩
 have am:K*w<=16*24:=zu n3 n3;have L:p.1*p.2.2=((K*w:Nat):Int):=by rw[hK,O,zX]
 refine⟨p.1,(N.box 0 n2).cell0 n2,p.2.2,(N.box 0 n2).cell n2,?_⟩
 try dsimp only
 rw[L,ag _];refine bt (λe=>no 1 n4 (by rw[iM,S,nb (by rw[L];intro e2;exact e (by rw[Y];exact e2))];rfl) N) λel=>?_;have I:n1 d=K*w:=n3
 refine⟨p,(N.box 0 n2).aw _ n2,(GY p seed h2).mono ?_⟩;rintro v h3 ⟨rfl,R3⟩;have Z:=N.comp R3;have D:iM p seed d.length=if fE p seed (fl p)then 0 else 8:=by rw[iM,S,m9 (by rw[L,I])];rfl
 refine⟨_,n2,aI (λe=>no 8 n4 (by rw[D,e];rfl) Z) λhf=>?_⟩;rw[hf,l0 rfl]at D;have B:gq p seed d K y w (K+y):=⟨S,hf,hK,hH,O,n2,n3,n3,n3,n3,n3,n3,I⟩
 refine⟨p.2.1,(Z.box 0 n2).cell n2,?_⟩;refine ak (λt:Sl×List Sl=>(t.1,(n1 t.2:Int))) (λt h'=>n1 t.2<=y/\Sp h h' (aj a 24 [xP xV p.1,xP xV p.2.1,xP xV p.2.2]::kS t.1 t.2 (qi t.2.length (aN w)))) (λt=>y-n1 t.2) (⟨dB,0,0⟩,[]) n2 ⟨n9,Z.nil 41 1 bv⟩ ?_;rintro⟨s,rs⟩ h4 ⟨hk,P⟩;dsimp only at*;refine ae (λe=>?_) (λe=>?_)
 .refine⟨p.2.2,(P.box 0 n2).cell n2,?_⟩;refine P.make af ar cN n4 0 n2 n2 w w O O (qk _) n3 λz V ax ap E=>?_;refine E.push af 1 n2 cM n2 n4 (λ_=>rfl) jK z n2 n4 n3 λW h6 U=>?_;refine⟨(W,rs++[z]),by dsimp only;rw[ag _];simp,⟨n7,?_⟩,n7⟩
  try dsimp only
  have e7:kS W (rs++[z]) (qi rs.length (aN w)++[aN w])=ai 41 W 1 bv (rs++[z])::(bg 5 1 ar rs (qi rs.length (aN w))++[ai 5 z 1 ar (aN w)]):=congrArg _ (mA n9 z (aN w));rw[show(rs++[z]).length=n1 rs+1 by simp,yS,e7];exact U
 .have J:n1 rs=y:=n3
  rw[J]at P;refine⟨p.1,(P.box 0 n2).cell0 n2,?_⟩;let own:=bg 5 1 ar rs (qi y (aN w));refine ak (λt:Sl×Nat=>(t.1,(t.2:Int))) (λt h'=>t.2<=K/\Sp h h' (aj a 24 [xP xV p.1,xP xV p.2.1,xP xV p.2.2]::ai 41 t.1 1 bv (rs++(qz t.2).map (Fv data w))::own)) (λt=>K-t.2) (s,0) n2 ⟨n9,by simpa using P⟩ ?_;rintro⟨t,k⟩ V ⟨al,E⟩;dsimp only at*;refine ae (λe2=>?_) (λe2=>?_)
  .have ad:k<K:=n3
   have m1:(k+1)*w<=K*w:=zo w ad;have m2:k*w<=(k+1)*w:=zo w n3;refine⟨p.2.2,(E.box 0 n2).cell n2,p.2.2,(E.box 0 n2).cell n2,?_⟩;rw[ag ((k:Int)+1)];have e5:(k:Int)*p.2.2=((k*w:Nat):Int):=by rw[O,zX]
   have e6:((k:Int)+1)*p.2.2=(((k+1)*w:Nat):Int):=by rw[O,zX];rfl
   try dsimp only
   rw[e5,e6,kp _,kp _,qj,qj];refine⟨⟨zi _,wG.2 m2,wG.2 n3⟩,?_⟩;refine E.push af 1 n2 cM n2 n4 (λ_=>rfl) jK (Fv data w k) n2 n4 n7 λt' h6 U=>?_;refine⟨(t',k+1),n2,⟨n5,?_⟩,n5⟩
   try dsimp only
   rw[zH,qG,<-qo];exact U
  .have ah:k=K:=n3
   subst ah;refine aE ?_;have F:eu V t 1 ar (nu k y w d):=by
    refine⟨rs++(qz k).map (Fv data w),E.seq 1 n2 λ_=>rfl,by rw[uD];simp;omega,λi r l o q=>?_⟩;by_cases G:i<y
    .rw[qw n3,qd n3]at o;rw[nu,qw (by simpa using G)]at q;have hz:l=aN w:=by simp[G]at q;exact q.symm
     have hr:rs[i]'n3=r:=wm.inj o;have g:(aj a 24 [xP xV p.1,xP xV p.2.1,xP xV p.2.2]::ai 41 t 1 bv (rs++(qz k).map (Fv data w))::own)[i+2]?=cO (ai 5 (rs[i]'n3) 1 ar ((qi y (aN w))[i]'(by simpa using G))):=dU (by simpa using J) i (by simpa using G);have:=E.seq (i+2) g λ_=>rfl;rw[List.getElem_replicate,hr]at this;rw[hz];exact this
    .obtain⟨j,rfl⟩:∃j,i=y+j:=⟨i-y,n3⟩
     rw[ql n3,J,wK]at o;rw[nu,ql n9,wY,wK]at q;have hj:j<k:=by have:=(qm.1 o).1;simpa using this
     simp[hj]at o q;have m1:(j+1)*w<=k*w:=zo w hj;rw[<-o,<-q];exact(Seq.up hd E.ac).piece hc w j
   have c:=E.box 0 n2;refine⟨p,c.aw _ n2,p,c.aw _ n2,(sJ V).mono ?_⟩;rintro v h6 ⟨f,rfl,R6⟩;have u:=c.ac R6.ac c.lt;refine⟨cO f,n2,⟨u.cell0 n2,u.cell n2,u.cell n2,u.cell0 n2,u.cell n2,u.cell n2,I4⟩,(GX p h6).mono ?_⟩;rintro v h7 ⟨r7,rfl,R7⟩;have Q7:=R6.comp R7;have M:=c.ac Q7.ac c.lt;refine⟨r7,n2,⟨M.cell0 n2,M.cell n2,M.cell n2,I4⟩,?_⟩;refine(EQ p seed r7 (fl p) h7 (Q7.seq 1 n2 λ_=>rfl) (by rw[fl,fA];omega)).mono ?_;rintro v h8 ⟨r8,rfl,R8⟩;have T:=Q7.comp R8;refine⟨r8,n2,I4,?_⟩;refine(Sx f r8 t _ _ (k+y) w h8 (T.box 0 n2) (T.oG 2 n2) (F.up T.ac) B.Mf (by rw[uD]) B.IB (Be B.len) n3 n3 B.IC).I2 λr9 h9 R9=>?_;have Q9:=T.comp R9;refine⟨(r9,0),n2,I4,?_⟩;refine bt (λe=>absurd n2 e) λ_=>?_;have X:=c.ac Q9.ac c.lt;refine⟨p,X.aw _ n2,?_⟩;refine Q9.boxed (t:=243) λb ao ab=>?_;refine⟨λ_=>⟨b,r9,n2,?_⟩,λe=>absurd D e⟩;have Q:=(Sp.zip E.ac).comp ab;rw[<-B.BP]at Q;exact Q.take 3 (λi A G=>by
    cases i with
    |zero=>exact G
    |succ i=>cases i with
     |zero=>exact G
     |succ i=>simp at G)
def IQ(h:hY)(b:fY)(p:Pm)(seed:Int)(M:aO):Prop:=∃m:Sl,bR h b 243 (sj p seed m)/\eu h m 1 ar M
theorem IQ.up{h h':hY}{b:fY}{p:Pm}{seed:Int}{M:aO}(e:IQ h b p seed M)(c:aP (λb=>b<h.size) h h'):IQ h' b p seed M:=by obtain⟨m,a,d⟩:=e;exact⟨m,a.ac c a.lt,d.up c⟩
theorem OQ{a t:Row}(b:n1 a=n1 t){k:Nat}(d:k<n1 t):(zn (λx y=>y^^^Gf.mul 1 x) (a.take k) (t.take k)++t.drop k).set k (t[k]^^^(a[k]'n3))=zn (λx y=>y^^^Gf.mul 1 x) (a.take (k+1)) (t.take (k+1))++t.drop (k+1):=by have:=ug (c:=1) b d;rw[Gf.one_mul]at this;exact this
theorem acu{a t:Row}(b:n1 a=n1 t){k:Nat}(d:k<n1 t):(zn (λx y=>y^^^Gf.mul 1 x) (a.take k) (t.take k)++t.drop k)[k]?=cO t[k]:=by
 have c:(zn (λx y=>y^^^Gf.mul 1 x) (a.take k) (t.take k)).length=k:=n7
 rw[ql n3,c,zh,wO,yh,qd d]
theorem OR(b:fY)(p:Pm)(seed id:Int)(M:aO)(n w:Nat)(h:hY)(hb:IQ h b p seed M)(N:bJ p=eH)(P:p.2.2=w)(hn:(bE p).toNat=n)(U:aW w M)(hl:n1 M=n):
  an xZ 149 #[xR (cO b),xP xV id] h λv h'=>∃r:Sl,v=r/\Sp h h' [ai 5 r 1 ar (if bQ id then jN w M (ey n seed id)else[])]:=by
 obtain⟨m,f,V⟩:=hb;have ax:=V.len;have a0:=(bL p).1 N;have hc:bE p=p.1+p.2.1:=by rw[bE,l0 N]
 refine ts Tryz.func149 ?_ (G7 (HF [] [(4,5),(10,20)] (G7 (E8 (G7 (F8 (G0 [(37,aH)] [(7,10),(37,63)] (G7 (G7 (E8 (F8 (G7 (G7 (F8 (G0 [(49,aH)] [(8,10),(49,62)] E9))))) E9)))))) E9)))) [(4,(.l [0,1,2,3,4,5,6,7,8,11,9,10]))];have Z:bQ id=eL->∃r:Sl,Value.slice dB 0 0=xQ r.ptr r.len r.cap/\Sp h h [ai 5 r 1 ar (if bQ id then jN w M (ey n seed id)else[])]:=λe=>by
  rw[e];exact⟨⟨dB,0,0⟩,n2,(Sp.refl h).nil 5 1 ar⟩
 refine aE (aU (λe=>oj) λ_=>ae (λe=>Z u6) λe1=>ae (λe=>Z u6) λX=>?_);have hid:bQ id=eH:=u6
 refine⟨b,n2,p.2.2,f.cell n2,?_⟩;refine(Sp.refl h).make af ar cN n4 0 n2 n2 w w P P (qk _) n3 λo h1 ao ad T=>?_;have z:=f.ac T.ac f.lt;refine⟨b,n2,p,z.aw _ n2,b,n2,seed,z.cell n2,(uP p seed id h1).I2 λc h2 O=>?_⟩;rw[N,hid,vl,l0 rfl,hn]at O;rw[hid,l0 rfl];have G:=T.comp O;obtain⟨d,j⟩:=I3 (ey n seed id)
 have u:∀x∈d,0<=x/\x<(n:Int):=λx W=>kq n3 n3 (by rw[<-j];exact W);have R:n1 d<=n:=by rw[j];exact mz n3 n3 _ _
 rw[<-j]at G⊢;have am:=(G.seq 1 n2 λ_=>rfl).len;refine⟨c,n2,I4,?_⟩;refine ak (λi:Nat=>(i:Int)) (λi h'=>i<=n1 d/\Sp h h' [ai 5 o 1 ar (jN w M (d.take i)),ai 3 c 1 aq d]) (λi=>n1 d-i) 0 n2 ⟨n3,G⟩ ?_;rintro i h3 ⟨F,s⟩;refine ae (λe=>?_) (λe=>?_)
 .have q:i<n1 d:=n3
  have W:=u _ (qf q);refine(s.seq 1 n2 λ_=>rfl).aX i n2 q _ n2 ?_;have L:=f.ac s.ac f.lt;refine⟨b,n2,m,L.cell n2,?_⟩;obtain⟨al,Q⟩:=V;refine(Q.ac s.ac).get d[i].toNat n3 n3 λr Y H=>?_;have B:=Q.row _ r _ H (qd (show d[i].toNat<n1 M by omega));obtain⟨row,g⟩:=I3 (M[d[i].toNat]'n3)
  have ap:n1 row=w:=by rw[g];exact U _ (qf _)
  rw[<-g]at Y B;obtain⟨S,J⟩:=I3 (jN w M (d.take i))
  have ah:n1 S=w:=by rw[J];exact oN U hl u i F
  have ab:=Y.len;have X:jN w M (d.take (i+1))=cL 1 row S:=by rw[aC _ _ q,Bd,J,g,bh n3]
  rw[<-J]at s;refine ak (λk:Nat=>(k:Int)) (λk h'=>k<=w/\Sp h h' [ai 5 o 1 ar (zn (λx y=>y^^^Gf.mul 1 x) (row.take k) (S.take k)++S.drop k),ai 3 c 1 aq d]) (λk=>w-k) 0 n2 ⟨n3,D6⟩ ?_;rintro k h4 ⟨hk,D⟩;have I:=B.ac D.ac;have ay:(zn (λx y=>y^^^Gf.mul 1 x) (row.take k) (S.take k)++S.drop k).length=w:=n7
  refine ae (λe3=>?_) (λe3=>?_)
  .have a1:k<w:=n3
   have E:(zn (λx y=>y^^^Gf.mul 1 x) (row.take k) (S.take k)++S.drop k)[k]'n3=S[k]'n3:=by have:=acu (a:=row) (t:=S) n3 (show k<n1 S by omega);rw[qd n3]at this;exact wm.inj this
   refine I.aX k n2 n3 _ n2 ?_;refine(D.seq 0 n2 λ_=>rfl).aX k n2 n3 _ n2 ?_;rw[E,lV];refine D.set af 0 n2 (λ_=>rfl) n2 k n2 n3 _ n2 n2 n2 λh5 H5=>?_;refine⟨k+1,oi,⟨n3,?_⟩,n3⟩;rw[<-OQ n3 (show k<n1 S by omega)];exact H5
  .have K:k=w:=n3
   subst K;rw[qh n3,qh n3,zl n3,qR]at D;refine⟨i+1,oi,⟨n3,?_⟩,n3⟩;rw[X];exact D
 .rw[qh n3]at s;exact⟨o,n2,s.take 0 λi A F=>by cases i with|zero=>exact F|succ i=>simp at F⟩
theorem gq.iM{p:Pm}{seed:Int}{d:Row}{K H w n:Nat}(B:gq p seed d K H w n):iM p seed d.length=0:=by rw[Qw.iM,B.may,B.full,B.len,B.k,B.s,m9 (by rw[zX])];rfl
theorem acv{p:Pm}{seed:Int}{d:Row}{K H w n:Nat}(B:gq p seed d K H w n)(data:Sl)(h:hY)(c:Rd h data 1 ar d)(a:data.len<=data.cap):
  an xZ 147 #[gr p,xP xX seed,data] h λv h'=>
   ∃(b:fY) (m:Sl),v=.tuple #[xR (cO b),xP xV 0]/\Sp h h' [dD 41 m 1 ar (kd p seed d),aj b 243 (sj p seed m)]:=
 (XX p seed data d h c a).mono λ_ _ e=>e.1 B.iM
theorem gq.symbol{p:Pm}{seed:Int}{d:Row}{K H w n:Nat}(B:gq p seed d K H w n)(b:fY)(id:Int)(h:hY)(a:IQ h b p seed (kd p seed d)):
  an xZ 149 #[xR (cO b),xP xV id] h λv h'=>∃r:Sl,v=r/\Sp h h' [ai 5 r 1 ar (if bQ id then jN w (kd p seed d) (ey n seed id)else[])]:=
 OR b p seed id _ n w h a B.may B.s B.sC B.Ar.2 B.Ar.1
def AD(s:BQ):aR:=[.complex .f64 s.ax s.ay,.complex .f64 s.sx s.sy,xP xV s.left,xP xV s.leg,xT s.second]
theorem oz{o:Option Nat}(h:o.isSome=eH):o=cO (o.getD 0):=by
 cases o with
 |none=>cases h
 |some x=>rfl
theorem Sy(h:hY):an xZ 279 #[] h λv h'=>∃a:fY,v=xR (cO a)/\Sp h h' [aj a 313 (AD fs0)]:=by refine ts Tryz.func279 ?_;refine(Sp.refl h).boxed (t:=313) λa c b=>?_;exact⟨a,n2,b⟩
theorem Vo(a b:Nat)(h:hY)(j:(gW.mul a 0).isSome=eH)(d:(gW.mul b oO).isSome=eH)(h3:(gW.sub (sa a 0) (sa b oO)).isSome=eH)(f:(gW.mul a oO).isSome=eH)(i:(gW.mul b 0).isSome=eH)(c:(gW.add (sa a oO) (sa b 0)).isSome=eH):
  an xZ 343 #[.complex .f64 a b,xP xV 1] h λv h'=>v=.complex .f64 (tx a b) (ty a b)/\h'=h:=by
 refine ts Tryz.func343 ?_ (G7 (Hf [(0,(.sc (.cpx .f64))),(9,aH)] [(0,1),(9,14)])) (args:=[(.complex .f64 (a,b).1 (a,b).2),(1:Int)]);refine⟨n4,n4,?_⟩;refine ak (λk:Nat=>(if k=0 then(a,b)else(tx a b,ty a b),(k:Int))) (λk h'=>k<=1/\h'=h) (λk=>1-k) 0 n2 ⟨n3,n2⟩ ?_;rintro k h' ⟨l,rfl⟩;have g:xH (qe xV (xH 1 4+4)) 4=1:=n4
 try dsimp only
 rw[g];refine ae (λe=>?_) (λe=>?_)
 .have:k=0:=n3
  subst this;refine⟨(tx a b,ty a b),aag (oz j) (oz d) (oz h3) (oz f) (oz i) (oz c),?_⟩;exact⟨1,n2,⟨n3,n2⟩,n3⟩
 .have:k=1:=n3
  subst this;exact⟨n2,n2⟩
theorem XY(a:fY)(s:BQ)(h:hY)(g:bR h a 313 (AD s))(c:s.ok=eH):an xZ 280 #[xR (cO a)] h λv h'=>v=.tuple #[]/\bR h' a 313 (AD s.on)/\aP (λb=>b≠a.block) h h':=by
 simp only[BQ.ok,qC,decide_eq_true_eq]at c;obtain⟨⟨⟨⟨⟨⟨⟨⟨⟨⟨⟨w,L⟩,E⟩,G⟩,A⟩,K⟩,B⟩,J⟩,P⟩,F⟩,u⟩,x⟩:=c;refine ts Tryz.func280 ?_ (G7 (G7 (G7 (G7 (HF [] [(33,44)] E9)))));have y:aa (λb=>b<h.size/\¬b=a.block) h h [aj a 313 (AD s)]:=.LP (λb=>b=a.block) (λb i=>by rw[i];exact g.lt) ⟨g,n2⟩;have fin:∀{h':hY},aa (λb=>b<h.size/\¬b=a.block) h h' [aj a 313 (AD s.on)]->Value.tuple #[]=.tuple #[]/\bR h' a 313 (AD s.on)/\aP (λb=>b≠a.block) h h':=λH=>
  ⟨n2,H.box 0 n2,H.ac.1,λk p m=>H.ac.2 k p ⟨p,m⟩⟩
 refine⟨a,n2,(s.ax,s.ay),g.cell0 n2,a,n2,(s.sx,s.sy),g.cell n2,(nS s.ax s.sx,nS s.ay s.sy),aae (oz w) (oz L),a,n2,?_⟩;refine y.gx af 0 n2 n2 [.complex .f64 (nS s.ax s.sx) (nS s.ay s.sy)] n2 n2 n2 (by simp[AD]) λN r=>⟨I4,?_⟩
 refine⟨a,n2,s.left,(r.box 0 n2).cell (j:=2) n2,a,n2,?_⟩;rw[ag (s.left-1)];refine r.storeAt af 0 n2 n2 (off:=2) n2 n2 n2 (by simp[AD]) λD f=>?_;refine⟨a,n2,s.left-1,(f.box 0 n2).cell (j:=2) n2,?_⟩;refine ae (λe=>?_) (λe=>?_)
 .have l:AD s.on=[.complex .f64 (nS s.ax s.sx) (nS s.ay s.sy),.complex .f64 s.sx s.sy,xP xV (s.left-1),xP xV s.leg,xT s.second]:=by rw[BQ.on,l0 e];rfl
  refine fin ?_;rw[l];exact f
 .refine⟨a,n2,(s.sx,s.sy),(f.box 0 n2).cell (j:=1) n2,(Vo s.sx s.sy D E G A K B J).I0 ?_⟩;refine⟨(tx s.sx s.sy,ty s.sx s.sy),n2,a,n2,?_⟩;refine f.storeAt af 0 n2 n2 (off:=1) n2 n2 n2 (by simp[AD]) λM d=>?_;refine bj (λ_ h'=>aa (λb=>b<h.size/\¬b=a.block) h h' [aj a 313 [.complex .f64 (nS s.ax s.sx) (nS s.ay s.sy),.complex .f64 (tx s.sx s.sy) (ty s.sx s.sy),xP xV (s.left-1),xP xV (if s.second then s.leg+1 else s.leg),xT s.second]]) ?_ ?_
  .refine⟨a,n2,s.second,(d.box 0 n2).cell (j:=4) n2,aU (λo=>?_) λo=>?_⟩
   .refine⟨a,n2,s.leg,(d.box 0 n2).cell (j:=3) n2,a,n2,?_⟩;rw[ag (s.leg+1)];refine d.storeAt af 0 n2 n2 (off:=3) n2 n2 n2 (by simp[AD]) λO I=>?_;rw[l0 o];exact I
   .rw[m6 (by rw[o];decide)];exact d
  .rintro _ Q q;refine⟨a,n2,s.second,(q.box 0 n2).cell (j:=4) n2,a,n2,?_⟩;refine q.storeAt af 0 n2 n2 (off:=4) n2 n2 n2 n9 λR t=>?_;refine⟨a,n2,_,(t.box 0 n2).cell (j:=3) n2,a,n2,?_⟩;refine t.storeAt af 0 n2 n2 (off:=2) n2 n2 n2 n9 λh8 z=>?_;have l:AD s.on=[.complex .f64 (nS s.ax s.sx) (nS s.ay s.sy),.complex .f64 (tx s.sx s.sy) (ty s.sx s.sy),xP xV (if s.second then s.leg+1 else s.leg),xP xV (if s.second then s.leg+1 else s.leg),xT (!s.second)]:=by rw[BQ.on,m6 e];rfl
   refine fin ?_;rw[l];exact z
theorem Qs(n:Nat)(h:hY)(i:n<64):an xZ 212 #[xP xV n] h λv h'=>v=.complex .f64 (jy n).ax (jy n).ay/\Sp h h' []:=by
 refine ts Tryz.func212 ?_ (G7 (.scope 0 [(4,aH)] [(2,3),(4,5),(12,23)] [E9,E9,E9] [E9] []));refine ae (λe=>n3) λ_=>ae (λe=>n3) λ_=>?_;refine(Sy h).mono ?_;rintro v j ⟨a,rfl,g⟩;refine⟨cO a,n2,?_⟩;refine ak (λk:Nat=>(k:Int)) (λk h'=>k<=n/\Sp h h' [aj a 313 (AD (jy k))]) (λk=>n-k) 0 n2 ⟨n3,g⟩ ?_;rintro k f ⟨l,b⟩;refine aV (λe=>?_) (λe=>?_)
 .have:k=n:=n3
  subst this;exact⟨a,n2,((jy k).ax,(jy k).ay),(b.box 0 n2).cell0 n2,n2,.zip b.ac⟩
 .refine(XY a (jy k) f (b.box 0 n2) (adm k n3)).I1 λh3 ⟨c,d⟩=>⟨(),n2,k+1,oi,⟨n3,b.oc 0 n2 d c⟩,n3⟩
theorem JX{a b:Int}(e:-4<=a:=by omega)(c:a<=4:=by omega)(h3:-4<=b:=by omega)(d:b<=4:=by omega):gW.sub (dc a) (dc b)=cO (dc (a-b)):=by have:=abM (a+4).toNat n3 (b+4).toNat n3;rw[show((a+4).toNat:Int)-4=a by omega,show((b+4).toNat:Int)-4=b by omega,show((a+4).toNat:Int)-((b+4).toNat:Int)=a-b by omega]at this;exact this
theorem JY{a:Int}(b:-8<=a:=by omega)(c:a<=8:=by omega):gW.mul (dc a) (dc a)=cO (dc (a*a)):=by have:=abN (a+8).toNat n3;rw[show((a+8).toNat:Int)-8=a by omega]at this;exact this
theorem MW(a:Int):((a.natAbs:Nat):Int)*(a.natAbs:Nat)=a*a:=Int.natAbs_mul_self
theorem Vp{a b:Int}(e:-8<=a)(c:a<=8)(h3:-8<=b)(d:b<=8):gW.add (dc (a*a)) (dc (b*b))=cO (dc (a*a+b*b)):=by have:=abO a.natAbs n3 b.natAbs n3;rw[MW,MW]at this;exact this
def lR(i j:Nat):Int:=((bx i).x-(bx j).x)*((bx i).x-(bx j).x)+((bx i).y-(bx j).y)*((bx i).y-(bx j).y)
theorem Lf{a:Int}(b:-8<=a)(c:a<=8):0<=a*a/\a*a<=64:=by rw[<-MW,<-zX];have:a.natAbs*a.natAbs<=8*8:=zu n3 n3;omega
theorem oA{n:Nat}(h:n<64):(jy n).ax=dc (bx n).x/\(jy n).ay=dc (bx n).y/\-4<=(bx n).x/\(bx n).x<=4/\-4<=(bx n).y/\(bx n).y<=4:=by have:=abL n h;simp only[qC,decide_eq_true_eq,beq_iff_eq]at this;obtain⟨⟨⟨⟨⟨a,b⟩,c⟩,d⟩,e⟩,f⟩:=this;exact⟨a,b,c,d,e,f⟩
theorem Vq{i j:Nat}(d:i<64)(c:j<64):0<=lR i j/\lR i j<=128:=by have a:=oA d;have b:=oA c;have f:=Lf (a:=(bx i).x-(bx j).x) n3 n3;have e:=Lf (a:=(bx i).y-(bx j).y) n3 n3;unfold lR;omega
theorem XZ(i j:Nat)(h:hY)(f:i<64)(e:j<64):an xZ 213 #[.complex .f64 (jy i).ax (jy i).ay,.complex .f64 (jy j).ax (jy j).ay] h λv h'=>v=.float .f64 (dc (lR i j))/\h'=h:=by
 have a:=oA f;have b:=oA e;refine ts Tryz.func213 ?_ (args:=[(.complex .f64 ((jy i).ax,(jy i).ay).1 ((jy i).ax,(jy i).ay).2),(.complex .f64 ((jy j).ax,(jy j).ay).1 ((jy j).ax,(jy j).ay).2)]);have d:gW.sub (jy i).ax (jy j).ax=cO (dc ((bx i).x-(bx j).x)):=by rw[a.1,b.1];exact JX
 have c:gW.sub (jy i).ay (jy j).ay=cO (dc ((bx i).y-(bx j).y)):=by rw[a.2.1,b.2.1];exact JX
 refine⟨(dc ((bx i).x-(bx j).x),dc ((bx i).y-(bx j).y)),aaf d c,_,JY,_,JY,_,Vp n3 n3 n3 n3,n2,n2⟩
abbrev oW:bS C.toAk 22 3 1 [xP xV 0] 8:=⟨_,_,n2,n2,n2,n2,n2,n2⟩
def mM(a b:Int):Int:=if a<b then-1 else if a>b then 1 else 0
theorem MX(m:Nat)(h:hY)(a:m<129):an xZ 282 #[.float .f64 (dc (m:Nat))] h λv h'=>v=xT eL/\h'=h:=by refine ts Tryz.func282 ?_;have:=Ur m a m a;rw[show(FloatKind.format .f64).order (dc (m:Nat)) (dc (m:Nat))=cO (compare m m)from this,Nat.compare_eq_eq.2 rfl];exact⟨n2,n2⟩
theorem Vr(m n:Nat)(h:hY)(b:m<129)(c:n<129):an xZ 217 #[.float .f64 (dc (m:Nat)),.float .f64 (dc (n:Nat))] h λv h'=>v=xP xV (mM m n)/\h'=h:=by
 refine ts Tryz.func217 ?_;refine(MX m h b).mono ?_;rintro v a ⟨rfl,rfl⟩;refine⟨_,n2,(MX n a c).I0 ?_⟩;refine⟨_,n2,aU (λe=>oj) λ_=>aU (λe=>oj) λ_=>?_⟩;have d:(FloatKind.format .f64).order (dc (m:Nat)) (dc (n:Nat))=cO (compare m n):=Ur m b n c;rw[d];rcases vY m n with a|a|a
 .rw[Nat.compare_eq_lt.2 a];refine aU (λ_=>⟨by rw[mM,l0 n3],n2⟩) (λe=>oj)
 .subst a;rw[Nat.compare_eq_eq.2 rfl];refine aU (λe=>oj) λ_=>aU (λe=>oj) λ_=>⟨by rw[mM,m6 n3,m6 n3],n2⟩
 .rw[Nat.compare_eq_gt.2 a];refine aU (λe=>oj) λ_=>aU (λ_=>⟨by rw[mM,m6 n3,l0 n3],n2⟩) (λe=>oj)
theorem JZ(m:Int)(h:hY):an xZ 283 #[xP xV m] h λv h'=>v=xT eL/\h'=h:=by refine ts Tryz.func283 ?_;exact⟨n9,n2⟩
theorem Vs(m n:Int)(h:hY):an xZ 218 #[xP xV m,xP xV n] h λv h'=>v=xP xV (mM m n)/\h'=h:=by refine ts Tryz.func218 ?_;refine(JZ m h).mono ?_;rintro v b ⟨rfl,rfl⟩;refine⟨_,n2,(JZ n b).I0 ?_⟩;refine⟨_,n2,aU (λe=>oj) λ_=>aU (λe=>oj) λ_=>?_⟩;refine ae (λe=>⟨by rw[mM,l0 e],n2⟩) λe=>ae (λa=>⟨by rw[mM,m6 e,l0 a],n2⟩) λa=>⟨by rw[mM,m6 e,m6 a],n2⟩
def Qu(a b:Int):Int:=if a≠0 then a else b
theorem aar(s:Sl)(a b:Int)(h:hY)(f:Rd h s 1 aq [a,b]):an xZ 216 #[s] h λv h'=>v=xP xV (Qu a b)/\h'=h:=by
 refine Aw s ?_;have m:s.len=2:=f.len;refine ak (λk:Nat=>(k:Int)) (λk h'=>h'=h/\k<=2/\(1<=k->a=0)/\(2<=k->b=0)) (λk=>2-k) 0 n2 ⟨n2,n3,n3,n3⟩ ?_;rintro k h' ⟨rfl,l,g,j⟩;refine ae (λe=>?_) (λe=>?_)
 .rcases(show k=0∨k=1 by omega)with rfl|rfl
  .refine f.aX 0 n2 n9 a n2 ?_;refine bt (λc=>⟨by rw[Qu,l0 c],n2⟩) λc=>?_;exact⟨1,n2,⟨n2,n3,λ_=>c,n3⟩,n3⟩
  .refine f.aX 1 n2 n9 b n2 ?_;have d:=g n3;refine bt (λc=>⟨by rw[Qu,m6 Bk],n2⟩) λc=>?_;exact⟨2,n2,⟨n2,n3,λ_=>d,λ_=>c⟩,n3⟩
 .have d:=g n3;have i:=j n3;exact⟨by rw[Qu,m6 Bk,i],n2⟩
abbrev Fr:=Int×Fin 129
def ui(x:Fr):aR:=[xP xV x.1,.float .f64 (dc ((x.2:Nat):Int))]
def oX(x y:Fr):Int:=Qu (mM (x.2:Nat) (y.2:Nat)) (mM x.1 y.1)
theorem MY(x y:Fr)(h:hY):an xZ 215 #[xU (ui x).toArray,xU (ui y).toArray] h λv h'=>v=xP xV (oX x y)/\aP (λb=>b<h.size) h h':=by
 refine ts Tryz.func215 ?_ E9 [(1,(.l [0,1,2,3,5,6,7,8,4,9,10,11,12]))] (args:=[(xU #[(x.1,dc ((x.2:Nat):Int)).1,(.float .f64 (x.1,dc ((x.2:Nat):Int)).2)]),(xU #[(y.1,dc ((y.2:Nat):Int)).1,(.float .f64 (y.1,dc ((y.2:Nat):Int)).2)])]);refine(Sp.refl h).boxed (t:=250) λa k g=>?_;refine g.boxed (t:=250) λb f c=>?_;refine⟨_,(c.box 0 n2).cell (j:=1) n2,_,(c.box 1 n2).cell (j:=1) n2,_,(c.box 0 n2).cell0 n2,_,(c.box 1 n2).cell0 n2,?_⟩;refine(Vr x.2 y.2 f x.2.isLt y.2.isLt).mono ?_;rintro v h3 ⟨rfl,rfl⟩;refine⟨_,n2,⟨(c.box 1 n2).cell0 n2,(c.box 0 n2).cell0 n2,I4⟩,(Vs _ _ h3).mono ?_⟩;rintro v i ⟨rfl,rfl⟩;refine⟨_,n2,I4,?_⟩;refine c.lit af aq oW n2 [mM (x.2:Nat) (y.2:Nat),mM x.1 y.1] n2 (show 2*1<=2^20 by decide) n2 λs e d=>⟨I4,?_⟩
 refine(aar s _ _ e (d.seq 2 n2 λ_=>rfl)).I0 ⟨_,n2,I4,n2,d.ac⟩
theorem Qv{a b:Int}:mM a b<0↔a<b:=by unfold mM;split<;>(try split)<;>omega
theorem Ka{a b:Int}:mM a b=0↔a=b:=by unfold mM;split<;>(try split)<;>omega
theorem Sz{x y:Fr}:ltOf oX x y=eH↔((x.2:Nat):Int)<(y.2:Nat)∨(((x.2:Nat):Int)=(y.2:Nat)/\x.1<y.1):=by
 have h0:ltOf oX x y=eH↔oX x y<0:=by simp[ltOf]
 rw[h0,oX,Qu];by_cases h:mM (x.2:Nat) (y.2:Nat)=0
 .rw[m6 (by simp[h]),Qv];have:=Ka.1 h;constructor
  .exactλa=>.inr ⟨this,a⟩
  .rintro(a|a)
   .omega
   .exact a.2
 .rw[l0 h,Qv];have b:((x.2:Nat):Int)≠(y.2:Nat):=λe=>h (Ka.2 e);constructor
  .exact .inl
  .rintro(a|a)
   .exact a
   .exact absurd a.1 b
theorem oB{x y:Fr}:ltOf oX x y=eL↔¬(((x.2:Nat):Int)<(y.2:Nat)∨(((x.2:Nat):Int)=(y.2:Nat)/\x.1<y.1)):=by rw[<-Sz];simp
theorem acw:Sort.SWO (ltOf oX) where
 irrefl x:=oB.2 n3
 trans x y z h1 h2:=by rw[Sz]at*;omega
 ntrans x y z h1 h2:=by rw[oB]at*;omega
theorem acx(x y:Fr)(a:ltOf oX x y=eL)(b:ltOf oX y x=eL):x=y:=by rw[oB]at a b;refine Prod.ext n3 (Fin.ext n3)
theorem MZ{e:TypeId}{s:Sl}{l:List Fr}{h:hY}(o:Own h e s 2 ui l)(c:n1 l<2^40):
  an xZ 214 #[s,.func (.func 215) #[] #[]] h λv h'=>v=.tuple #[]/\Own h' e s 2 ui (l.mergeSort λx y=>!(ltOf oX) y x)/\aP (λb=>¬s.on b) h h':=by
 have i:∀x:Fr,(ui x).length=2:=λ_=>rfl;refine Kv (P:=xZ) (id_:=214) (g:=215) (enc:=ui) (k:=2) (cf:=oX) i ?_ ?_ (λx y h=>MY x y h) o c
 .intro a cap l w m j n f;have:=AnyQ.slices_SortFunc_total Tryz.Qk 2 Tryz.abW Tryz.aam ui (λ_=>rfl) (λx v d=>by simp[ui]at d;rcases d with rfl|rfl<;>rfl) oX acw 215 #[] a 0 cap l.toArray w (enters_of Tryz.aan o0 n2) D2 j n B2 acx;simp at this;exact this
 .intro p cap w;exact AnyF.slices_SortFunc_none Tryz.Qk p cap _ w
def oY(a:aD)(n:Int):aD:=if 0<=n/\n<64/\a.contains n=eL then a++[n]else a
def eP(l:aD):aD:=l.foldl oY []
theorem rL(l:aD){k:Nat}(a:k<n1 l:=by omega):eP (l.take (k+1))=oY (eP (l.take k)) l[k]:=by rw[eP,aC _ _ a,List.foldl_append];rfl
theorem FT(l:aD):∀k,k<=n1 l->∀x,x∈eP (l.take k)↔x∈l.take k/\0<=x/\x<64
 |0,_,x=>by simp[eP]
 |k+1,hk,x=>by
  have c:=FT l k n3;rw[rL l,aC _ _ (show k<n1 l by omega),oY];by_cases h:0<=l[k]/\l[k]<64/\(eP (l.take k)).contains l[k]=eL
  .rw[l0 h,qu,qu,qA,c x];constructor
   .rintro(a|rfl)
    .exact⟨.inl a.1,a.2⟩
    .exact⟨.inr n2,h.1,h.2.1⟩
   .rintro⟨a|a,b⟩
    .exact .inl ⟨a,b⟩
    .exact .inr a
  .rw[m6 h,qu,qA,c x];constructor
   .rintro a;exact⟨.inl a.1,a.2⟩
   .rintro⟨a|rfl,b⟩
    .exact⟨a,b⟩
    .have:(eP (l.take k)).contains l[k]=eH:=by
      cases hc:(eP (l.take k)).contains l[k]with
      |true=>rfl
      |false=>exact absurd ⟨b.1,b.2,hc⟩ h
     exact(c _).1 (by simpa using this)
theorem Hl(l:aD):∀k,k<=n1 l->(eP (l.take k)).Nodup
 |0,_=>by simp[eP]
 |k+1,hk=>by
  have c:=Hl l k n3;rw[rL l,oY];split
  .rename_i h;rw[List.nodup_append];refine⟨c,n9,λa e b d=>?_⟩;rw[qA.1 d];rintro rfl;have:=h.2.2;rw[vA]at this;simp[e]at this
  .exact c
theorem Na(l:aD)(k:Nat):(eP (l.take k)).length<=k:=by
 induction k with
 |zero=>simp[eP]
 |succ k ih=>
  by_cases a:k<n1 l
  .rw[rL l a,oY];split
   .simp;omega
   .omega
  .rw[qh n3]at ih⊢;omega
def sl(c:Nat)(n:Int):Fr:=(n,Fin.ofNat 129 (lR n.toNat c).toNat)
theorem Nb{c:Nat}{n:Int}(a:c<64)(d:0<=n)(b:n<64):(((sl c n).2:Nat):Int)=lR n.toNat c:=by have:=Vq (i:=n.toNat) (j:=c) n3 a;show(((lR n.toNat c).toNat%129:Nat):Int)=_;omega
def ny(c:Nat)(l:aD):aD:=(((eP l).map (sl c)).mergeSort λx y=>!(ltOf oX) y x).map (·.1)
def jk(a block:Int)(l:aD):aD:=if 0<=a/\a<=16777215/\0<=block/\block<8 then ny ((8*a+block)%64).toNat l else[]
def rk(a:aD):aR:=(qz 64).map λi:Nat=>xT (a.contains (i:Int))
theorem aas(a:aD){n:Int}(b:0<=n)(c:n<64):(rk a)[n.toNat]?=cO (xT (a.contains n)):=by rw[rk,qP,zt n3,zp,show((n.toNat:Nat):Int)=n by omega]
theorem Ya(a:aD){n:Int}(d:0<=n)(c:n<64):(rk a).set n.toNat (xT eH)=rk (a++[n]):=by
 apply zq;intro i;rw[qZ,rk,rk,qP,qP,qp,zQ];by_cases b:i<64
 .rw[zt b,zp,zp];by_cases h:n.toNat=i
  .rw[l0 h,l0 n3,show((i:Nat):Int)=n by omega];simp
  .rw[m6 h];have:(a++[n]).contains (i:Int)=a.contains (i:Int):=by rw[vA,vA];simp;omega
   rw[this]
 .rw[m6 n3,zj n7];rfl
abbrev eFr:bS C.toAk 246 250 2 [xP xV 0,.float .f64 0] 16:=⟨_,_,n2,n2,n2,n2,n2,n2⟩
theorem acy:∀x,∀c∈ui x,c.oneCell'=eH:=by intro x c a;simp[ui]at a;rcases a with rfl|rfl<;>rfl
theorem OS(b block:Int)(live:Sl)(l:aD)(h:hY)(T:Rd h live 1 aq l)(ab:n1 l<=2^30):
  an xZ 148 #[xP xV b,xP xV block,live] h λv h'=>∃r:Sl,v=r/\Sp h h' [ai 3 r 1 aq (jk b block l)]:=by
 have ad:=T.len;refine ts Tryz.func148 ?_ (G7 (HF [] [(6,7),(15,29)] (G7 (G7 (G7 (E8 (G7 (F8 (G0 [(8,bN),(37,aH)] [(8,9),(11,12),(37,65)] (G7 (G7 (E8 (F8 (G7 (HF [(52,mH)] [(41,53)] E9))) E9)))))) (G7 (G7 (Hf [(12,bN),(69,aH)] [(12,13),(14,15),(69,79)])))))))));have H:¬(0<=b/\b<=16777215/\0<=block/\block<8)->∃r:Sl,Value.slice dB 0 0=xQ r.ptr r.len r.cap/\Sp h h [ai 3 r 1 aq (jk b block l)]:=λO=>by
  rw[jk,m6 O];exact⟨⟨dB,0,0⟩,n2,(Sp.refl h).nil 3 1 aq⟩
 refine aE (ae (λe=>H n3) λe1=>ae (λe=>H n3) λe2=>ae (λe=>H n3) λe3=>ae (λe=>H n3) λe4=>?_);have I:0<=b/\b<=16777215/\0<=block/\block<8:=n3
 rw[jk,l0 I];rw[ag (8*b),ag (8*b+block),zY n3];obtain⟨c,hc⟩:∃c:Nat,(8*b+block)%64=c:=⟨((8*b+block)%64).toNat,n3⟩
 have j:c<64:=n3
 rw[hc,qj];refine⟨n4,(Qs c h j).mono ?_⟩;rintro v h2 ⟨rfl,Z⟩;refine⟨((jy c).ax,(jy c).ay),n2,?_⟩;refine Z.alloc af n2 λa h3 H3=>?_;have K:Sp h h3 [aj a 205 (rk []),ai 250 ⟨dB,0,0⟩ 2 ui []]:=H3.nil 250 2 ui;refine ak (λt:Sl×Nat=>(t.1,(t.2:Int))) (λt h'=>t.2<=n1 l/\Sp h h' [aj a 205 (rk (eP (l.take t.2))),ai 250 t.1 2 ui ((eP (l.take t.2)).map (sl c))]) (λt=>n1 l-t.2) (⟨dB,0,0⟩,0) n2 ⟨n9,K⟩ ?_;rintro⟨s,k⟩ h4 ⟨hk,p⟩;dsimp only at*;have w:=Na l k;refine ae (λe=>?_) (λe=>?_)
 .have E:k<n1 l:=n3
  have F:=rL l E;obtain⟨f,D⟩:=I3 (eP (l.take k))
  rw[<-D]at p w F;refine(Seq.up T p.ac).aX k n2 E _ n2 ?_;obtain⟨x,hx⟩:=I3 (l[k])
  rw[<-hx]at F⊢;refine bj (λt h'=>(t=eH↔0<=x/\x<64/\f.contains x=eL)/\h'=h4) ?_ ?_
  .refine ae (λq=>ae (λm=>?_) λm=>⟨⟨λe=>oj,λz=>absurd z.2.1 m⟩,n2⟩) λq=>⟨⟨λe=>oj,λz=>absurd z.1 q⟩,n2⟩;refine⟨⟨q,m⟩,f.contains x,?_,?_,n2⟩
   .rw[zM];exact(p.box 0 n2).cell (aas f q m)
   .cases f.contains x<;>simp<;>omega
  .rintro t X ⟨V,rfl⟩;refine aU (λe=>?_) (λe=>?_)
   .obtain⟨q,m,x2⟩:=V.1 e;refine⟨⟨q,m⟩,?_⟩;rw[zM];refine p.storeAt af 0 n2 n2 n2 n2 n2 (by simp[rk];omega) λN u=>?_;have S:Sp h N [aj a 205 (rk (f++[x])),ai 250 s 2 ui (f.map (sl c))]:=by rw[<-Ya f q m];exact u
    obtain⟨n,O⟩:∃n:Nat,x=n:=⟨x.toNat,n3⟩
    subst O;refine(Qs n N n3).mono ?_;rintro v U ⟨rfl,R7⟩;refine⟨((jy n).ax,(jy n).ay),n2,(XZ n c U n3 j).mono ?_⟩;rintro v h8 ⟨rfl,rfl⟩;have G:=S.up R7.ac;have ev:dc (lR n c)=dc (((sl c (n:Int)).2:Nat):Int):=by rw[Nb j n3 n3,qj]
    refine⟨_,n2,?_⟩;rw[ev];refine G.push af 1 n2 eFr n2 n4 (λ_=>rfl) acy (sl c (n:Int)) n2 n4 n7 λs' W P=>?_;refine⟨(s',k+1),n8,⟨n5,?_⟩,n5⟩
    try dsimp only
    rw[F,oY,l0 ⟨q,m,x2⟩,qG];exact P
   .refine⟨(s,k+1),n8,⟨n5,?_⟩,n5⟩
    try dsimp only
    rw[F,oY,m6 λz=>by rw[V.2 z]at e;cases e];exact p
 have M:k=n1 l:=n3
 subst M;rw[qy]at p w;refine(MZ (p.own 1 n2) n7).I1 λX ⟨J,Q⟩=>?_;have R:=p.oa 1 n2 Q J;obtain⟨d,g⟩:=I3 (((eP l).map (sl c)).mergeSort λx y=>!(ltOf oX) y x)
 have Y:n1 d=(eP l).length:=by rw[g,wT,qp]
 have eo:ny c l=d.map (·.1):=by rw[ny,<-g]
 rw[<-g]at R;have ah:=(R.own 1 n2).len;rw[eo];refine⟨(),n2,?_⟩;refine ak (λt:Sl×Nat=>(t.1,(t.2:Int))) (λt h'=>t.2<=n1 d/\Sp h h' [ai 250 s 2 ui d,ai 3 t.1 1 aq ((d.take t.2).map (·.1))]) (λt=>n1 d-t.2) (⟨dB,0,0⟩,0) n2 ⟨n9,(R.del 0).nil 3 1 aq⟩ ?_;rintro⟨o,i⟩ N ⟨L,u⟩;dsimp only at*;refine ae (λe=>?_) (λe=>?_)
 .have B:i<n1 d:=n3
  refine(u.seq 0 n2 λ_=>rfl).cH i n2 B (d[i].1,dc ((d[i].2:Nat):Int)) n2 ?_;refine u.alloc af n2 λy U H7=>?_;refine H7.storeAll af 2 n2 n2 [xP xV d[i].1,.float .f64 (dc ((d[i].2:Nat):Int))] n2 n2 n2 n2 λh8 G=>?_;refine⟨d[i].1,(G.box 2 n2).cell0 n2,?_⟩;refine G.push af 1 n2 oW n2 n4 (λ_=>rfl) cP d[i].1 n2 n4 n7 λo' W P=>?_;refine⟨(o',i+1),n8,⟨n5,?_⟩,n5⟩
  try dsimp only
  rw[aC _ _ B,qG];exact P.del 2
 .rw[qh n3]at u;exact⟨o,n2,u.take 1 λi A L=>by cases i with|zero=>exact L|succ i=>simp at L⟩
def gF(c:Nat)(a b:Int):Prop:=lR a.toNat c<lR b.toNat c∨(lR a.toNat c=lR b.toNat c/\a<b)
theorem Nc(l:aD)(x:Int):x∈eP l↔x∈l/\0<=x/\x<64:=by
 have:=FT l l.length (qk _) x
 rwa [qy]at this
theorem aat(l:aD):(eP l).Nodup:=by
 have:=Hl l l.length (qk _)
 rwa [qy]at this
theorem Bu(c:Nat)(l:aD):(ny c l).Perm (eP l):=by have h:=(wo ((eP l).map (sl c)) λx y=>!(ltOf oX) y x).map (·.1);rw[vf]at h;have e:((λx:Fr=>x.1)∘sl c)=id:=rfl;rw[e,List.map_id]at h;exact h
theorem Vt(c:Nat)(l:aD)(x:Int):x∈ny c l↔x∈l/\0<=x/\x<64:=by rw[(Bu c l).mem_iff,Nc]
theorem Yb(c:Nat)(l:aD):(ny c l).Nodup:=(Bu c l).nodup_iff.2 (aat l)
theorem Nd(c:Nat)(l:aD)(g:c<64):(ny c l).Pairwise (gF c):=by
 have h:=wI (le:=λx y:Fr=>!(ltOf oX) y x) (by
  intro a b d f q;simp only[yf,oB]at*;omega) (by
  intro a b;cases f:ltOf oX b a with
  |false=>rfl
  |true=>
   have:ltOf oX a b=eL:=by rw[Sz]at f;rw[oB];omega
   rw[this];rfl) ((eP l).map (sl c))
 have i:∀x∈((eP l).map (sl c)).mergeSort λx y:Fr=>!(ltOf oX) y x,x=sl c x.1/\0<=x.1/\x.1<64:=λx k=>by
  have:=(wo _ _).mem_iff.1 k;obtain⟨n,o,rfl⟩:=qI.1 this;exact⟨n2,((Nc l n).1 o).2⟩
 have e:=Yb c l;unfold ny at e⊢;rw[vp];rw[List.nodup_iff_pairwise_ne,vp]at e;refine(h.and e).imp_of_mem λ{a b} ha hb hh=>?_;obtain⟨t,a0,s⟩:=i a ha;obtain⟨r,j,u⟩:=i b hb;have f:=hh.1;simp only[yf,oB]at f;have p:=Nb g a0 s;have m:=Nb g j u;rw[<-t]at p;rw[<-r]at m;have q:=hh.2;unfold gF;omega
theorem Nf{c:Nat}{l o:aD}(f:c<64)(h:o.Perm (eP l))(d:o.Pairwise (gF c)):ny c l=o:=by refine((Bu c l).trans h.symm).eq_of_pairwise (le:=gF c) ?_ (Nd c l f) d;intro a b _ _ g e;unfold gF at g e;omega
def Lg(l:aD)(i:Nat):Int:=l.getD i 0
def nz(o:aD)(id:Int):Int:=if o=[]∨id<0 then-1 else Lg o (id%(n1 o:Int)).toNat
theorem aau(s:Sl)(o:aD)(id:Int)(h:hY)(f:Rd h s 1 aq o):an xZ 150 #[s,xP xV id] h λv h'=>v=xP xV (nz o id)/\h'=h:=by
 have g:=f.len;refine ts Tryz.func150 ?_ (G7 (HF [] [(4,12)] E9));refine aE (aV (λe=>⟨by rw[nz,l0 (.inl (qV n3))],n2⟩) λe=>ae (λd=>⟨by rw[nz,l0 (.inr d)],n2⟩) λd=>?_);refine⟨e,?_⟩;have c:¬(o=[]∨id<0):=by
  rintro(rfl|h2)
  .simp at g;omega
  .exact d h2
 have b:xH id ((s.len:Nat):Int)=((id%(n1 o:Int)).toNat:Int):=by rw[zY n3,g];have:=ya id (show(n1 o:Int)≠0 by omega);omega
 have a:(id%(n1 o:Int)).toNat<n1 o:=by have:=zZ id (show(0:Int)<n1 o by omega);omega
 rw[b];refine f.aX _ n2 a _ n2 ⟨?_,n2⟩;rw[nz,m6 c,Lg,qg,qd a];rfl
def Bv(p:Pm)(seed:Int)(d:Row)(id:Int):aS:=if bQ id then jN p.2.2.toNat (kd p seed d) (ey (bE p).toNat seed id)else[]
def SB(m:aA)(o b seed:Int)(d:Row)(id:Int):ct:=⟨o,b,id,m.p,seed,Bv m.p seed d id⟩
def mN(m:aA)(o b seed:Int)(d:Row)(a:aD)(id:Int):Int×aS:=(nz a id,gg (SB m o b seed d id))
def nA(m:aA)(o:Int)(tries:aD)(bl:dS)(live:aD)(i:Nat):List (Int×aS):=
 (qz (m.p.1+m.extra).toNat).map λid:Nat=>mN m o i (ft o i (tries.getD i 0)) (bl.getD i []) (jk o i live) id
def dz(m:aA)(o:Int)(tries:aD)(bl:dS)(live:aD)(n:Nat):List (Int×aS):=(qz n).flatMap (nA m o tries bl live)
theorem lY(m:aA)(o:Int)(tries:aD)(bl:dS)(live:aD)(n:Nat):dz m o tries bl live (n+1)=dz m o tries bl live n++nA m o tries bl live n:=by unfold dz;rw[zH,ze,zA,wB,qR]
theorem Bw(m:aA)(o:Int)(tries:aD)(bl:dS)(live:aD)(i:Nat):(nA m o tries bl live i).length=(m.p.1+m.extra).toNat:=by simp[nA]
theorem mO(m:aA)(o:Int)(tries:aD)(bl:dS)(live:aD):∀n,(dz m o tries bl live n).length=n*(m.p.1+m.extra).toNat
 |0=>by simp[dz]
 |n+1=>by rw[lY,qq,mO m o tries bl live n,Bw,z7]
theorem EU(o b t:Int):0<=ft o b t/\ft o b t<4294967296:=by unfold ft;omega
section
variable {pw:fY}
theorem KC(x:aY)(m:aA)(xe:dg)(e:Qw.cS)(s:Sl)(b:aS)(hS:St B h0 As λh=>cj h x m/\fk eC h xe e/\Rd h s 1 ar b)(cq:s.len<=s.cap)(hz:bG m)(R:bJ m.p=eH)(du:0<=m.extra/\m.extra<=16)(c8:b.length<=2^20)
  (ht:cV m.p e.object (splitB m.p b).length=cO e.tries) (H:aa B h0 h (aJ bP a pw (az x) offs da w ds::As)):
  an xZ 86 #[xR (cO a),MT xe,s] h λv h'=>∃(r:Sl) (ys:List (Int×Sl)),v=.tuple #[r,xT eH]/\
   aa B h0 h' (aJ bP a pw (az x) offs da w ds::cy dZ 2 piv r ys (dz m e.object e.tries (splitB m.p b) (bn ds m.drives) (splitB m.p b).length)::As):=by
 refine ts Tryz.func86 ?_ (G7 (G7 (G7 (E8 (G7 (F8 (G0 [(9,bN),(28,aH)] [(6,8),(9,18),(28,100)] (G7 (G7 (E8 (F8 (G7 (G7 (G7 (G7 (G7 (G7 (F8 (G0 [(9,bN),(72,aH)] [(9,10),(16,18),(72,99)] (G7 (G7 (E8 (F8 (G7 (HF [(17,(.sc .adr))] [(17,18),(75,89)] E9))) E9)))))))))))) E9)))))) E9)))) [(14,(.y [0,1,2,3,4,5,6,7,8,9,10,11] (.l [12,13,14,15]) (.l [14,12,13,15]))),(15,(.l [0,1,2,4,3,5,6,7,8,9]))] (args:=[(cO a),xe,s]);refine H.boxed λa1 h1 H1=>?_;have H1:=H1.bf;have H1:=H1.aF 2 [1,0];refine(fx x m (hS.at [_,_] H1).1 hz H1).I2 λlv h2 R2=>?_;have H2:=(H1.bV R2).aF 3 [1,0,2];obtain⟨ok,W⟩:=aa.cB H2;obtain⟨bq,dd,ca⟩:=hS.at [_,_,_] H2;have al:(x.2.2.1,x.2.2.2.1,x.2.2.2.2.1)=m.p:=bq.p;have c0:=(bL m.p).1 R;obtain⟨s1,s2,s3⟩:=ic R;obtain⟨c1,c2,c3⟩:=kj R b.length;have b7:(bn ds m.drives).length<=m.drives.length:=qO _ _;have c4:=hz.dr;obtain⟨live,ax⟩:=I3 (bn ds m.drives)
 rw[<-ax]at H2 b7⊢;obtain⟨bl,F⟩:=I3 (splitB m.p b)
 have a9:bl.length<=2^20:=by rw[F];unfold splitB;simp;omega
 have Y:∀r∈bl,r.length=cQ m.p:=by rw[F];intro r hr;unfold splitB at hr;obtain⟨i,_,rfl⟩:=qI.1 hr;exact JP _ _ _
 refine⟨lv,n2,a,n2,(x.2.2.1,x.2.2.2.1,x.2.2.2.2.1),⟨by rw[addr_add];exact W.cell n2,by rw[addr_add];exact W.cell n2,by rw[addr_add];exact W.cell n2,I4⟩,?_⟩;rw[al];refine(OC m.p s b h2 R ca cq n3).I2 λq h3 R3=>?_;rw[<-F]at R3 ht⊢;obtain⟨rs,H3⟩:=Qw.aa.GU (H2.bV R3) λ_=>rfl;have H3:=(H3.Ix 131 2 piv dZ).bf;have H3:=H3.aF 5 [2,0,1,3,4];have c7:=(H3.dv 2 n2).1.len;have dy:=(H3.dv 2 n2).2.1;have c5:=kC ht;refine⟨q,n2,?_⟩;obtain⟨j,G⟩:∃j:Nat,j=(m.p.1+m.extra).toNat:=⟨_,rfl⟩
 have L:j<=32:=n3
 refine ak (λt:Sl×Nat=>(t.1,(t.2:Int))) (λt h'=>t.2<=bl.length/\aa B h0 h' (aJ bP a pw (az x) offs da w ds::db 131 t.1 2 piv dZ (dz m e.object e.tries bl live t.2)::cy (ga 1 ar) 1 bv q rs bl::ai 3 lv 1 aq live::aj a1 59 (aT xe)::As)) (λt=>bl.length-t.2) (⟨dB,0,0⟩,0) n2 ⟨n9,H3⟩ ?_;rintro⟨o,i⟩ h4 ⟨hi,H4⟩;dsimp only at*;refine ae (λe1=>?_) (λe1=>?_)
 .have ad:i<bl.length:=n3
  have F4:=H4.dv 2 n2;have X:=H4.box 4 n2;obtain⟨bb,a4,c9⟩:=hS.at [_,_,_,_,_] H4;obtain⟨_,br⟩:=aa.cB H4;obtain⟨t,a7,b5⟩:=Dn ht i n3;have b4:e.tries.getD i 0=(t:Int):=by rw[qg,qd n3];exact a7
  have b6:bl.getD i []=bl[i]:=by rw[qg,qd ad];rfl
  have O:∀{h':hY},bR h' a1 59 (aT xe)->hU h' (a1.add 1)=cO (xP xV e.object):=λ{h'} hb=>by rw[<-a4.1.2.1];exact hb.cell n2
  have cp:∀{h':hY},bR h' a 94 (dh (az x) pw offs da)->bA h' (a.add 2) 0 [xP xV m.p.1,xP xV m.p.2.1,xP xV m.p.2.2]:=λ{h'} hb=>by
   rw[<-al];exact⟨o5,o5,o5,I4⟩
  have a3:=Fix.row F4 ad;refine F4.1.aX i n2 n3 (rs[i]'n3) n2 ?_;refine⟨e.object,O X,xe.2.2.2,X.cell n2,?_⟩;refine Seq.aX (f:=aq) a4.2 i n2 n3 (t:Int) (by rw[a7];rfl) ?_;refine(sH _ _ _ h4).I0 ⟨_,n2,⟨X.cell n2,I4⟩,a,n2,m.p,cp br,?_⟩;obtain⟨seed,k⟩:=I3 (ft e.object i t)
  have hg:=(Dm b5).2.1;have am:fE m.p seed (fl m.p)=eH:=by rw[k];exact hg
  obtain⟨K,Hh,w',n,BK⟩:=Zh (seed:=seed) (d:=bl[i]) R am (by rw[Y _ (qf ad),s3]);rw[<-k];refine(acv BK (rs[i]'n3) _ a3.1 a3.2).mono ?_;rintro _ h6 ⟨bk,mm,rfl,R6⟩;have H6:=(H4.comp R6).front;have H6:=H6.aF 7 [2,3,4,5,6,0,1];refine⟨(cO bk,0),n2,bt (λe2=>absurd n2 e2) λ_=>?_⟩;have ci:=H6.box 4 n2;refine⟨e.object,O ci,(OS e.object i lv live h6 (H6.seq 3 n2 λ_=>rfl) n3).I2 λN h7 R7=>?_⟩;have H7:=(H6.bV R7).aF 8 [1,2,3,4,5,6,7,0];obtain⟨c,A⟩:=I3 (jk e.object i live)
  rw[<-A]at H7;have a2:=(aa.cB H7).2;have b2:x.2.2.1=m.p.1:=congrArg (·.1) al;refine⟨N,n2,a,n2,x.2.2.1,a2.cell n2,a,n2,x.2.2.2.2.2.1,a2.cell n2,?_⟩;have en:qe xV (x.2.2.1+x.2.2.2.2.2.1)=(j:Int):=by rw[b2,bb.extra,ag _];omega
  try dsimp only
  rw[en];have P:nA m e.object e.tries bl live i=(qz j).map λid:Nat=>mN m e.object i seed bl[i] c id:=by unfold nA;rw[b4,b6,<-k,<-A,<-G]
  have b1:(nA m e.object e.tries bl live i).length=j:=by rw[Bw,<-G]
  obtain⟨E,I⟩:=I3 (dz m e.object e.tries bl live i)
  have cs:E.length<=2^26:=by rw[I,mO,<-G];have:=zu (show i<=2^20 by omega) L;omega
  obtain⟨Q,hQ⟩:=I3 (nA m e.object e.tries bl live i)
  rw[<-hQ]at P b1;rw[<-I]at H7;refine ak (λt:Sl×Nat=>(t.1,(t.2:Int))) (λt h'=>t.2<=j/\aa B h0 h' (aJ bP a pw (az x) offs da w ds::db 131 t.1 2 piv dZ (E++Q.take t.2)::cy (ga 1 ar) 1 bv q rs bl::ai 3 lv 1 aq live::aj a1 59 (aT xe)::dD 41 mm 1 ar (kd m.p seed bl[i])::aj bk 243 (sj m.p seed mm)::ai 3 N 1 aq c::As)) (λt=>j-t.2) (o,0) n2 ⟨n9,by simpa using H7⟩ ?_;rintro⟨o2,id⟩ h8 ⟨hid,T⟩;dsimp only at*;refine ae (λe3=>?_) λe3=>?_
  .have cr:id<j:=n3
   have ao:=T.box 4 n2;have Z:=(aa.cB T).2;have J:IQ h8 bk m.p seed (kd m.p seed bl[i]):=⟨mm,T.box 6 n2,T.oG 5 n2⟩
   have S:Bv m.p seed bl[i] id=if bQ id then jN w' (kd m.p seed bl[i]) (ey n seed id)else[]:=by unfold Bv;rw[BK.sC,show m.p.2.2.toNat=w' by have:=BK.s;omega]
   have held:∀{h':hY},aP (λb=>b<h8.size) h8 h'->bF.ok [((a.add 2),xP xV m.p.1),((a.add 2).add 1,xP xV m.p.2.1),((a.add 2).add 2,xP xV m.p.2.2),(a1.add 1,xP xV e.object)] h':=λ{h'} R=>by
    obtain⟨q1,q2,q3,_⟩:=cp (Z.ac R Z.lt);exact⟨q1,q2,q3,O (ao.ac R ao.lt),I4⟩
   refine bj (λ(a6:fY) h'=>∃r:Sl,aa B h0 h' (aj a6 144 (bB (e.object,(i:Int),(id:Int),m.p.1,m.p.2.1,m.p.2.2,seed,r))::ai 5 r 1 ar (Bv m.p seed bl[i] id)::aJ bP a pw (az x) offs da w ds::db 131 o2 2 piv dZ (E++Q.take id)::cy (ga 1 ar) 1 bv q rs bl::ai 3 lv 1 aq live::aj a1 59 (aT xe)::dD 41 mm 1 ar (kd m.p seed bl[i])::aj bk 243 (sj m.p seed mm)::ai 3 N 1 aq c::As)) ?_ ?_
   .refine⟨e.object,O ao,a,n2,m.p,cp Z,?_,?_⟩
    .refine(BK.symbol bk id h8 J).I2 λr h9 R9=>?_;rw[<-S]at R9;have H9:=T.bV R9;refine⟨r,n2,held R9.ac,H9.tE af n2 λa28 d1 b9 ap=>⟨held (aa.up R9 b9).ac,?_⟩⟩;have ap:=ap.bf;refine ap.storeAll af 0 n2 n2 (bB (e.object,(i:Int),(id:Int),m.p.1,m.p.2.1,m.p.2.2,seed,r)) n2 n2 n2 n2 λdx b0=>⟨I4,r,b0⟩
    .refine T.tE af n2 λd2 cc ab ah=>⟨held ab,?_⟩
     have ah:=ah.bf;refine(BK.symbol bk id cc (J.up ab)).I2 λr c6 U=>?_;rw[<-S]at U;have b3:=(ah.bV U).aF 2 [1,0];refine⟨r,n2,held (aa.up (Sp.zip ab) U.ac).ac,?_⟩;refine b3.storeAll af 0 n2 n2 (bB (e.object,(i:Int),(id:Int),m.p.1,m.p.2.1,m.p.2.2,seed,r)) n2 n2 n2 n2 λd3 a8=>⟨I4,r,a8⟩
   .rintro a6 bd ⟨r,M⟩;have g:=M.box 0 n2;have ay:=EU e.object i t;rw[<-k]at ay;refine⟨(e.object,(i:Int),(id:Int),m.p.1,m.p.2.1,m.p.2.2,seed,r),g.aw _ n2,(aau N c id bd (M.seq 9 n2 λ_=>rfl)).mono ?_⟩;rintro _ cn ⟨rfl,rfl⟩;refine⟨_,n2,⟨g.cell0 n2,g.cell n2,g.cell n2,g.cell n2,g.cell n2,g.cell n2,g.cell n2,g.cell n2,I4⟩,?_⟩;refine(wd (e.object,(i:Int),(id:Int),m.p.1,m.p.2.1,m.p.2.2,seed,r) (SB m e.object i seed bl[i] id) cn ⟨⟨n2,n2,n2,n2,n2,ay.1,ay.2⟩,M.seq 1 n2 λ_=>rfl⟩).I2 λu dk cd=>?_;have a5:=(M.bV cd).dG 0 n2 (D:=EA dZ (nz c id,u) (mN m e.object i seed bl[i] c id)) λz hz=>⟨n2,hz.1.seq (λ_=>rfl) hz.2⟩
    have a0:Q[id]'n3=mN m e.object i seed bl[i] c id:=by simp[P]
    refine⟨u,n2,I4,?_⟩;refine a5.ir af piv MG n2 [(nz c id,u)] n2 (show 1*2<=2^20 by decide) n2 I4 ?_;refine aa.AY af a5 4 0 n4 (a:=(nz c id,u)) n2 n2 MG n2 n4 (λ_=>rfl) sX (parts:=#[(0,xU #[xP xV (nz c id),u])]) o0 n4 n7 λo3 d0 cf=>⟨I4,?_⟩
    refine⟨(o3,id+1),n8,⟨n5,?_⟩,n5⟩
    try dsimp only
    rw[aC Q id,a0,<-qo];exact cf.rest.rest.rest
  .have V:id=j:=n3
   subst V;rw[qh n3]at T;refine⟨(o2,i+1),n8,⟨n5,?_⟩,n5⟩
   try dsimp only
   rw[lY,<-I,<-hQ];exact T.aF 8 [0,1,2,3,4]
 .have V:i=bl.length:=n3
  subst V;obtain⟨ys,H5⟩:=H4.Fw 1 rfl λ_=>rfl;exact⟨o,ys,n2,H5.aF 5 [0,1]⟩
end
def cl(a:Nat)(l:List (Int×aS))(k:Int):Int:=(a:Int)+(l.filter λy=>decide (y.1=k)).length
theorem Vu(k:Int)(d c:fY)(a:Nat)(r:Sl)(o:List (Int×Sl))(l:List (Int×aS))(h:hY)(D:a<=2^30)(F:n1 l<=2^30)(p:bR h d 3 [xP xV a])(w:bR h c 118 [r])(t:gA dZ 2 piv h r o l):
  an xZ 88 #[xP xV k,xR (cO d),xR (cO c)] h λv h'=>v=xP xV (cl a l k)/\Sp h h' []:=by
 refine ts Tryz.func88 ?_ (G7 (G7 (Hf [(5,aH),(11,aH)] [(5,6),(7,8),(11,22)]))) (args:=[(k:Int),d,c]);have A:=t.1.len;have z:=t.2.1;refine⟨(a:Int),p.cell0 n2,r,w.cell0 n2,?_⟩;refine ak (λi:Nat=>(cl a (l.take i) k,(i:Int))) (λi h'=>i<=n1 l/\Sp h h' []) (λi=>n1 l-i) 0 (by simp[cl]) ⟨n3,Sp.refl h⟩ ?_;rintro i E ⟨I,u⟩
 try dsimp only
 have x:(((l.take i).filter λy=>decide (y.1=k)).length:Int)<=i:=by have:=qO (λy:Int×aS=>decide (y.1=k)) (l.take i);simp at this;omega
 refine ae (λe=>?_) λe=>?_
 .have j:i<n1 l:=n3
  have m:=gA.up t u.ac;refine m.1.cH (g:=piv) i n2 n3 (o[i]'n3) n2 ?_;refine u.alloc af n2 λH G B=>?_;refine B.storeAll af 0 n2 n2 (piv (o[i]'n3)) n2 n2 n2 n2 λh3 s=>?_;have f:=Fix.row m j;have b:cl a (l.take (i+1)) k=cl a (l.take i) k+(if l[i].1=k then 1 else 0):=by
   unfold cl;rw[aC _ _ j,zm,qq,zE,w9];split
   .rename_i q;rw[l0 (nq q)];simp;omega
   .rename_i q;rw[m6 w5];simp
  refine⟨l[i].1,by rw[<-f.1];exact(s.box 0 n2).cell0 n2,aV (λg=>?_) λg=>?_⟩
  .refine⟨i+1,?_,⟨n3,.zip s.ac⟩,n3⟩;rw[b,l0 g,ag (cl a (l.take i) k+1) (by unfold cl;omega) (by unfold cl;omega),ag _];rfl
  .refine⟨i+1,?_,⟨n3,.zip s.ac⟩,n3⟩;rw[b,m6 g,Int.add_zero,ag _];rfl
 .rw[qh n3];exact⟨n2,u⟩
def eM(m:aA)(e:Int)(w:Pow)(a:aG)(c:ByteArray)(b:aS):Int×aA×Pow×aG:=
 if dR m (gO w e) a c b.length≠0 then(dR m (gO w e) a c b.length,m,w,a)else
 match cV m.p m.next (splitB m.p b).length with
 |none=>(8,m,w,a)
 |some t=>
  let live:=bn a m.drives;let l:=dz m m.next t (splitB m.p b) live (splitB m.p b).length;let n:=nH m ⟨c,m.next,n1 b,t⟩;let N:=cl (bI n).length l
  if iu m a live N=eL then(7,m,w,a)else
  if(makes m N live w a).1≠0 then((makes m N live w a).1,m,(makes m N live w a).2)else
  let d:=layAll l (makes m N live w a).2.1 (makes m N live w a).2.2
  if d.1≠0 then(d.1,m,d.2)else
  ((layAll (bo n live) d.2.1 d.2.2).1,if(layAll (bo n live) d.2.1 d.2.2).1=0 then n else m,(layAll (bo n live) d.2.1 d.2.2).2)
theorem uj{m:aA}{d:Bool}{b:aG}{a:ByteArray}{n:Nat}(h:dR m d b a n=0):
  d=eL/\gB a=eH/\m.objs.any (dH a)=eL/\¬(m.p.1*m.p.2.2*8<(n:Int)∨12<=n1 m.objs)/\¬(bn b m.drives=[]∨16777215<m.next∨2147483647<=m.seq):=by
 unfold dR at h
 grind
theorem Qx{m:aA}{b:aS}(a:bJ m.p=eH)(h:¬m.p.1*m.p.2.2*8<(n1 b:Int)):(splitB m.p b).length<=8:=by obtain⟨e,c,f⟩:=ic a;obtain⟨g,d,c3⟩:=kj a b.length;unfold splitB;rw[qp,zQ];refine Nat.le_of_not_lt λh8=>?_;have:=c3 8 n3;omega
theorem acz{o:aD}(b:o≠[])(id:Nat):nz o id∈o:=by
 unfold nz Lg;have c:0<n1 o:=oo
 have a:((id)%(n1 o:Int)).toNat<n1 o:=by have:=zZ (id) (show(0:Int)<n1 o by omega);omega
 grind
theorem FU{m:aA}{o:Int}{tries:aD}{bl:dS}{live:aD}(r:0<=o/\o<=16777215)(p:live≠[])(d:∀k∈live,0<=k/\k<64){n:Nat}(j:n<=8){y:Int×aS}(f:y∈dz m o tries bl live n):y.1∈live/\y.2.length<=64:=by
 obtain⟨i,q,f⟩:=List.mem_flatMap.1 f;obtain⟨id,_,rfl⟩:=qI.1 f;refine⟨?_,?_⟩
 .have c:jk o i live=ny ((8*o+i)%64).toNat live:=by unfold jk;grind
  have b:∀a,a∈jk o i live↔a∈live/\0<=a/\a<64:=λa=>by rw[c];exact Vt _ _ _
  have e:jk o i live≠[]:=λh=>by
   cases live with
   |nil=>grind
   |cons a l=>
    have:=(b a).2 ⟨qS,d a qS⟩
    grind
  exact((b _).1 (acz e id)).1
 .show(gg _).length<=64;unfold gg;split
  .rename_i g;refine Nat.le_of_eq (nr n4 n4 ?_);have:=rC g;omega
  .simp
theorem aav{m:aA}{e:Qw.cS}(b:bG m)(g:m.objs.length<=11)(d:e.name.size<=2^30)(c:e.tries.length<=2^30):bG (nH m e):=by
 refine⟨b.dr,?_,λf a=>?_⟩
 .show((m.objs++[e]).mergeSort mU).length<=2^30;rw[wT];simp;omega
 .have a:f∈(m.objs++[e]).mergeSort mU:=a;rcases qu.1 ((wo _ _).mem_iff.1 a)with h|h
  .exact b.nm f h
  .rw[qA.1 h];exact⟨d,c⟩
section
variable {pw:fY}
theorem Yc(x:aY)(m:aA)(c:ByteArray)(s:Sl)(b:aS)(hS:St B h0 As λh=>Rd h s 1 ar b)(du:s.len<=s.cap)(hn:c.size<=2^40)(V:bG m)(hp:bJ m.p=eH)(c8:0<=m.extra/\m.extra<=16)(b4:∀k∈m.drives,0<=k/\k<64)(c0:m.drives.length<=64)(b3:0<=m.seq)(a1:0<=m.next)(cf:b.length<=2^20)
  (H:aa B h0 h (aJ bP a pw (az x) offs da w ds::be x m::As)):
  an xZ 28 #[xR (cO a),xS c,s] h λv h'=>v=xP xV (eM m offs w ds c b).1/\
   ∃y,aa B h0 h' (aJ bP a pw (az y) offs da (eM m offs w ds c b).2.2.1 (eM m offs w ds c b).2.2.2::be y (eM m offs w ds c b).2.1::As):=by
 refine ts Tryz.func28 ?_ (G7 (G7 (G7 (HF [(9,bN),(10,mH)] [(9,11),(34,53)] (G7 (G7 (G7 (G7 (HF [(12,(.sc .adr)),(13,bN)] [(12,14),(66,74)] E9))))))))) [(12,(.y [0,1,2,3,4,6] (.y [5] (.l [7,8,9,10]) (.l [8,7,9,10])) (.l [8,5,7,9,10])))];have ap:=(hS.at [_,_] H).len;refine(MV x m c s b.length ap hn (H.at 1 n2) V hp H).I1 λh1 R1=>?_;have H1:=H.up R1.ac;refine⟨_,n2,bt (λe=>?_) λe1=>?_⟩
 .have ep:eM m offs w ds c b=(dR m (gO w offs) ds c b.length,m,w,ds):=by unfold eM;rw[l0 e]
  rw[ep];exact⟨n2,x,H1⟩
 obtain⟨z1,z2,z3,z4,z5⟩:=uj e1;have dy:¬m.p.1*m.p.2.2*8<(b.length:Int):=λh=>z4 (.inl h);have bq:m.objs.length<=11:=by have:¬12<=m.objs.length:=λh=>z4 (.inr h);omega
 have b7:bn ds m.drives≠[]:=λh=>z5 (.inl h);have c9:m.next<=16777215:=by have:¬16777215<m.next:=λh=>z5 (.inr (.inl h));omega
 have d7:m.seq<=2147483646:=by have:¬2147483647<=m.seq:=λh=>z5 (.inr (.inr h));omega
 have h8:=Qx hp dy;have ef:c.size<=12:=by unfold gB at z2;simp at z2;omega
 have c7:=(aa.cB H1).2;have b1:cj h1 x m:=H1.at 1 n2;refine⟨a,n2,x.2.1,c7.cell n2,H1.alloc af n2 λa4 h2 H2=>?_⟩;have H2:=H2.bf;refine H2.storeAll af 0 n2 n2 (aT (c,x.2.1,(s.len:Int),⟨dB,0,0⟩)) n2 n2 n2 n2 λh3 H3=>?_;have H3:aa B h0 h3 (aj a4 59 (aT (c,m.next,(b.length:Int),⟨dB,0,0⟩))::aJ bP a pw (az x) offs da w ds::be x m::As):=by rw[<-b1.next,<-ap];exact H3
 have cp:∀{h':hY},bR h' a 94 (dh (az x) pw offs da)->bA h' (a.add 2) 0 [xP xV m.p.1,xP xV m.p.2.1,xP xV m.p.2.2]:=λ{h'} hb=>by
  rw[<-b1.p];exact⟨o5,o5,o5,I4⟩
 obtain⟨R,M⟩:=I3 ((splitB m.p b).length)
 have a3:countP m.p (s.len:Nat)=(R:Int):=by have:=(kj hp b.length).1;rw[M,ap];unfold splitB;rw[qp,zQ];omega
 refine bj (λ(t:Sl×Bool) h'=>(cV m.p m.next R=dB->t.2=eL/\aa B h0 h' (aJ bP a pw (az x) offs da w ds::be x m::As))/\(∀l,cV m.p m.next R=cO l->t.2=eH/\aa B h0 h' (ai 3 t.1 1 aq l::aj a4 59 (aT (c,m.next,(b.length:Int),⟨dB,0,0⟩))::aJ bP a pw (az x) offs da w ds::be x m::As))) ?_ ?_
 .have c2:=H3.box 0 n2;have ab:=(aa.cB (H3.aF 3 [1,0,2])).2;refine⟨a,n2,m.p,cp ab,m.next,c2.cell n2,a,n2,m.p,cp ab,(sF m.p s.len h3).I1 λh4 R4=>?_⟩;have H4:=H3.up R4.ac;have b6:=ab.ac R4.ac ab.lt;obtain⟨q1,q2,q3,_⟩:=cp b6;refine⟨_,n2,⟨(H4.box 0 n2).cell n2,q1,q2,q3,I4⟩,?_⟩;rw[a3];refine(Ss m.p m.next R h4 n3).mono ?_;rintro _ h5 ⟨T0,T1⟩;cases ht:cV m.p m.next R with
  |none=>
   obtain⟨rfl,R5⟩:=T0 ht;exact⟨(⟨dB,0,0⟩,eL),n2,I4,λ_=>⟨n2,(H4.up R5.ac).aF 3 [1,2]⟩,λl h=>t7⟩
  |some l=>
   obtain⟨r,rfl,R5⟩:=T1 l ht;exact⟨(r,eH),n2,I4,λh=>t7,λl' h=>(by injection h with h;subst h;exact⟨n2,H4.bV R5⟩)⟩
 rintro⟨D,tb⟩ h6 ⟨T0,T1⟩;dsimp only at T0 T1⊢;cases ht:cV m.p m.next R with
 |none=>
  obtain⟨rfl,H6⟩:=T0 ht;have ep:eM m offs w ds c b=(8,m,w,ds):=by unfold eM;rw[m6 o7,<-M,ht]
  rw[ep];exact aI (λ_=>⟨n2,x,H6⟩) λe=>oj
 |some t=>
  obtain⟨rfl,H6⟩:=T1 t ht;refine aI (λe=>oj) λ_=>?_;have d6:=kC ht;refine H6.store af 1 n2 n2 3 [D] n2 n2 n2 n9 λh7 H7=>?_;obtain⟨e,he⟩:∃e:Qw.cS,e=⟨c,m.next,b.length,t⟩:=⟨_,rfl⟩
  have H7:aa B h0 h7 (ai 3 D 1 aq e.tries::aj a4 59 (aT (c,m.next,(b.length:Int),D))::aJ bP a pw (az x) offs da w ds::be x m::As):=by rw[he];exact H7
  have H7:=H7.aF 4 [2,3,0,1];have b9:St B h0 (be x m::ai 3 D 1 aq e.tries::aj a4 59 (aT (c,m.next,(b.length:Int),D))::As) λh=>cj h x m/\fk eC h (c,m.next,(b.length:Int),D) e/\Rd h s 1 ar b:=λBs h' i=>
   ⟨(St.dN 0 n2 λ_ o=>o) Bs h' i,(St.dN (A:=ai 3 D 1 aq e.tries) (Q:=λh=>fk eC h (c,m.next,(b.length:Int),D) e) 1 n2 λh' o=>⟨by rw[he];exact⟨n2,n2,n2⟩,o.1.seq (λ_=>rfl) o.2⟩) Bs h' i,(hS.cons.cons.cons) Bs h' i⟩
  refine⟨(c,m.next,(b.length:Int),D),(H7.box 3 n2).aw _ n2,?_⟩;refine(KC x m (c,m.next,(b.length:Int),D) e s b b9 du V hp c8 cf (by rw[he,<-M];exact ht) H7).mono ?_;rintro _ ej ⟨r,ys,rfl,H8⟩;obtain⟨live,d⟩:=I3 (bn ds m.drives)
  obtain⟨l,hl⟩:=I3 (dz m m.next t (splitB m.p b) live R)
  have dd:dz m e.object e.tries (splitB m.p b) (bn ds m.drives) (splitB m.p b).length=l:=by rw[hl,he,<-d,<-M]
  rw[dd]at H8;refine⟨(r,eH),n2,H8.alloc af n2 λj h9 H9=>?_⟩;have H9:=H9.bf;refine H9.storeAll af 0 n2 n2 [r] n2 n2 n2 n2 λdr F=>?_;refine aI (λe=>oj) λ_=>?_;obtain⟨n,ad⟩:=I3 (nH m e)
  have F:=(F.freeze 4 n2 λ_=>rfl).aF 6 [4,1,3,2,0,5];have c1:((c,m.next,(b.length:Int),D):dg).1=e.name/\((c,m.next,(b.length:Int),D):dg).2.1=e.object/\((c,m.next,(b.length:Int),D):dg).2.2.1=e.length:=by rw[he];exact⟨n2,n2,n2⟩
  have K:∀{h':hY} {Cs:List HP},aa B h0 h' (vz D 1 aq e.tries::Cs)->cj h' x m->an xZ 87 #[cu x,MT (c,m.next,(b.length:Int),D)] h' λv c4=>∃y:aY,v=cu y/\aa B h0 c4 (be y n::Cs):=λ{h' Cs} i hx'=>by
   rw[ad];exact Vj x m _ e hx' V ⟨b3,n3⟩ ⟨a1,n3⟩ bq c1 i
  have L:=(aa.cB (F.aF 2 [1,0])).2;have P:=F.box 5 n2;have a5:cj dr x m:=F.at 2 n2;refine bj (λ(t:fY×Sl) h'=>∃y,aa B h0 h' (aJ bP a pw (az x) offs da w ds::be x m::cy dZ 2 piv r ys l::aj j 118 [r]::aj t.1 27 (az y)::be y n::ai 3 t.2 1 aq live::As)) ?_ ?_
  .refine⟨a,n2,x,L.aw _ n2,(c,m.next,(b.length:Int),D),P.aw _ n2,?_,?_⟩
   .refine(K F a5).I2 λy ei I=>?_;have I:=I.aF 6 [1,2,3,4,0];refine⟨y,n2,I4,?_,?_⟩
    .refine(fx x m (I.at 1 n2) V I).I2 λJ eh a7=>?_;rw[<-d]at a7;have c6:=I.bV a7;refine⟨J,n2,I4,c6.alloc af n2 λes d8 ax=>⟨I4,?_⟩⟩;have ax:=ax.bf;refine ax.storeAll af 0 n2 n2 (az y) n2 n2 n2 n2 λeo b2=>⟨I4,y,?_⟩
     exact b2.aF 7 [2,3,4,5,0,6,1]
    .refine I.alloc af n2 λa22 d2 Z=>⟨I4,?_⟩
     have Z:=Z.bf;have ah:=Z.aF 6 [1,2,3,4,5,0];refine(fx x m (ah.at 1 n2) V ah).I2 λJ er a2=>?_;rw[<-d]at a2;have cr:=(Z.bV a2).aF 2 [1,0];refine⟨J,n2,I4,cr.storeAll af 0 n2 n2 (az y) n2 n2 n2 n2 λeg c5=>⟨I4,y,?_⟩⟩;exact c5.aF 7 [2,3,4,5,0,6,1]
   .refine F.tE af n2 λeb d4 a9 W=>?_;have f:=L.ac a9 L.lt;have G:=P.ac a9 P.lt;refine⟨⟨G.cell0 n2,G.cell n2,G.cell n2,G.cell n2,f.cell0 n2,f.cell n2,f.cell n2,f.cell n2,f.cell n2,f.cell n2,f.cell n2,f.cell n2,I4⟩,?_⟩;have W:=(W.bf).aF 7 [1,0,2,3,4,5];refine(K W (W.at 3 n2)).I2 λy el dk=>?_;have O:=dk.aF 6 [2,3,4,5,0,1];refine⟨y,n2,I4,(fx x m (O.at 1 n2) V O).I2 λJ d3 bk=>?_⟩;rw[<-d]at bk;have cd:=(O.bV bk).aF 7 [6,0,1,2,3,4,5];refine⟨J,n2,I4,cd.storeAll af 0 n2 n2 (az y) n2 n2 n2 n2 λeq cs=>⟨I4,y,?_⟩⟩;exact cs.aF 7 [2,3,4,5,0,6,1]
  rintro⟨am,J⟩ cn ⟨y,X⟩;dsimp only at X⊢;have a0:bG n:=by rw[ad];exact aav V bq (by rw[he];show c.size<=2^30;omega) (by rw[he];show t.length<=2^30;omega)
  have d0:n.drives=m.drives:=by rw[ad];rfl
  have ec:live.length<=64:=by rw[d];exact q7 (qO _ _) c0
  have u:∀k∈live,0<=k/\k<64:=λk hk=>by rw[d]at hk;exact b4 k (qN.1 hk).1
  have bl:(m.p.1+m.extra).toNat<=32:=by have:=(bL m.p).1 hp;omega
  have d5:l.length<=256:=by rw[hl,mO];exact zu (show R<=8 by omega) bl
  have b5:∀z∈l,(0<=z.1/\z.1<64)/\z.2.length<=2^20:=λz bb=>by
   rw[hl]at bb;obtain⟨p1,p2⟩:=FU (m:=m) ⟨a1,c9⟩ (by rw[d];exact b7) u (show R<=8 by omega) bb;exact⟨u _ p1,q7 p2 n4⟩
  refine⟨y,(X.box 4 n2).aw _ n2,(mY y n cn (X.at 5 n2) a0).I2 λpg d9 a6=>?_⟩;have al:=(aa.lI a6).1;have a8:=jB n a0;obtain⟨pn,bd⟩:=I3 ((bI n).length)
  rw[<-bd]at al a8;have ci:=X.up a6.ac;refine⟨pg,n2,ci.alloc af n2 λq ek ao=>?_⟩;have ao:=ao.bf;refine ao.storeAll af 0 n2 n2 [xP xV (pg.len:Int)] n2 n2 n2 n2 λdx E=>?_;rw[al]at E;have E:aa B h0 dx (aJ bP a pw (az x) offs da w ds::be x m::cy dZ 2 piv r ys l::aj j 118 [r]::aj am 27 (az y)::be y n::ai 3 J 1 aq live::aj q 3 [xP xV (pn:Int)]::As):=E.aF 8 [1,2,3,4,5,6,7,0];obtain⟨N,hN⟩:=I3 (cl pn l)
  obtain⟨T,S⟩:=I3 (be x m::cy dZ 2 piv r ys l::aj j 118 [r]::aj am 27 (az y)::be y n::ai 3 J 1 aq live::aj q 3 [xP xV (pn:Int)]::As)
  have tX:St B h0 T λh=>cj h x m:=by rw[S];exact St.dN 0 n2 λ_ o=>o
  have tF:St B h0 T λh=>gA dZ 2 piv h r ys l:=by rw[S];exact St.dN 1 n2 λ_ o=>o
  have tB:St B h0 T λh=>bR h j 118 [r]:=by rw[S];exact St.dN (A:=aj j 118 [r]) 2 n2 λ_ o=>o.1
  have tM:St B h0 T λh=>bR h am 27 (az y):=by rw[S];exact St.dN (A:=aj am 27 (az y)) 3 n2 λ_ o=>o.1
  have tY:St B h0 T λh=>cj h y n:=by rw[S];exact St.dN 4 n2 λ_ o=>o
  have tL:St B h0 T λh=>Rd h J 1 aq live:=by rw[S];exact St.dN (A:=ai 3 J 1 aq live) 5 n2 λ_ o=>o.1.seq (λ_=>rfl) o.2
  have tN:St B h0 T λh=>bR h q 3 [xP xV (pn:Int)]:=by rw[S];exact St.dN (A:=aj q 3 [xP xV (pn:Int)]) 6 n2 λ_ o=>o.1
  have tT:St B h0 T λh=>Le 88 #[] #[xR (cO q),xR (cO j)] N live h:=λBs h' i k hk=>by
   rw[hN];exact Vu k q j pn r ys l h' n3 n3 (tN Bs h' i) (tB Bs h' i) (tF Bs h' i)
  have fin:∀{h':hY} {z:aY} {w':Pow} {ay:aG},aa B h0 h' (aJ bP a pw (az x) offs da w' ay::T)->aa B h0 h' (aJ bP a pw (az x) offs da w' ay::be x m::As):=λ{h' z w' ay} i=>by
   rw[S]at i;exact i.aF 8 [0,1]
  rw[<-S]at E;have ep:eM m offs w ds c b=(if iu m ds live N=eL then(7,m,w,ds)else if(makes m N live w ds).1≠0 then((makes m N live w ds).1,m,(makes m N live w ds).2)else
    if(layAll l (makes m N live w ds).2.1 (makes m N live w ds).2.2).1≠0 then((layAll l (makes m N live w ds).2.1 (makes m N live w ds).2.2).1,m,(layAll l (makes m N live w ds).2.1 (makes m N live w ds).2.2).2)else
    ((layAll (bo n live) (layAll l (makes m N live w ds).2.1 (makes m N live w ds).2.2).2.1 (layAll l (makes m N live w ds).2.1 (makes m N live w ds).2.2).2.2).1,if(layAll (bo n live) (layAll l (makes m N live w ds).2.1 (makes m N live w ds).2.2).2.1 (layAll l (makes m N live w ds).2.1 (makes m N live w ds).2.2).2.2).1=0 then n else m,(layAll (bo n live) (layAll l (makes m N live w ds).2.1 (makes m N live w ds).2.2).2.1 (layAll l (makes m N live w ds).2.1 (makes m N live w ds).2.2).2.2).2)):=by
   rw[hN,bd,hl,ad,he,d];unfold eM;rw[m6 o7,<-M,ht]
  rw[ep];refine(Hb 88 #[] #[xR (cO q),xR (cO j)] N x m J live qa (λBs h' i=>⟨tX Bs h' i,tT Bs h' i⟩) V (tL.at [_] E) n3 u E).I1 λed cq=>?_;have br:=E.up cq.ac;refine⟨_,n2,aI (λg=>?_) λg=>?_⟩
  .rw[l0 g];exact⟨n2,x,fin (z:=x) br⟩
  rw[m6 D7];refine(Hg 88 #[] #[xR (cO q),xR (cO j)] N x m J live qa (λBs h' i=>⟨tX Bs h' i,tT Bs h' i,tL Bs h' i⟩) V n3 u br).I1 λea U=>?_;obtain⟨m1,cc⟩:=I3 (makes m N live w ds)
  rw[<-cc]at U⊢;refine⟨_,n2,bt (λg2=>?_) λg2=>?_⟩
  .rw[l0 g2];exact⟨n2,x,fin (z:=x) U⟩
  rw[m6 (by simpa using g2)];refine⟨r,(tB.at [_] U).cell0 n2,(Di r ys l tF n3 b5 U).I1 λd1 Y=>?_⟩;obtain⟨r2,ca⟩:=I3 (layAll l m1.2.1 m1.2.2)
  rw[<-ca]at Y⊢;refine⟨_,n2,bt (λg3=>?_) λg3=>?_⟩
  .rw[l0 g3];exact⟨n2,x,fin (z:=x) Y⟩
  rw[m6 (by simpa using g3)];refine⟨y,(tM.at [_] Y).aw _ n2,(Hk x y n J live (λBs h' i=>⟨tY Bs h' i,tL Bs h' i⟩) a0 n3 u Y).I1 λen ⟨Q1,Q0⟩=>?_⟩;refine⟨_,n2,n2,?_⟩;by_cases g4:(layAll (bo n live) r2.2.1 r2.2.2).1=0
  .obtain⟨y2,b0⟩:=Q0 g4;rw[l0 g4];rw[S]at b0;exact⟨y2,b0.aF 9 [0,1]⟩
  .rw[m6 g4];exact⟨x,fin (z:=x) (Q1 g4)⟩
end
theorem SC(n:Nat)(x:Int)(h:hY)(j:n<=2^30):an xZ 82 #[xP xV n,xP xV x] h λv h'=>∃(r:Sl) (l:aS),v=r/\l.length=n/\Sp h h' [ai 5 r 1 ar l]:=by
 refine ts Tryz.func82 ?_ (G7 (G7 (Hf [(5,bN),(6,aH)] [(5,25)])));refine ak (λt:Sl×Nat×aS=>(t.1,(t.2.1:Int))) (λt h'=>t.2.1<=n/\t.2.2.length=t.2.1/\Sp h h' [ai 5 t.1 1 ar t.2.2]) (λt=>n-t.2.1) (⟨dB,0,0⟩,0,[]) n2 ⟨n9,n2,(Sp.refl h).nil 5 1 ar⟩ ?_;rintro⟨o,i,l⟩ k ⟨p,g,a⟩;dsimp only at*;refine ae (λe=>?_) λe=>?_
 .have b:i<n:=n3
  refine⟨n4,Int.tmod_nonneg _ n3,?_⟩;rw[bT];generalize b8 (qe xV _)=c;refine a.push af 0 n2 cN n2 n4 (λ_=>rfl) cD c n2 n4 n3 λf m d=>?_;refine⟨(f,i+1,l++[c]),n8,⟨n5,?_,d⟩,n5⟩;simp[g]
 .exact⟨o,l,n2,n3,a⟩
variable {α:Type} {k:Nat} {f:α->aR} {L M:List (Sl×List α)}
theorem aa.Ng(H:aa B h0 h (ib k f L::ib k f M::As)):aa B h0 h (ib k f (L++M)::As):=by
 have g:=H.jW;refine g.dG 0 n2 λq ⟨i,j,_,b,c,d,e⟩ y a=>?_;rcases qu.1 a with a|a
 .exact(e y a).mono c
 .exact(d y a).mono b
def kg(o b:Int)(a:List ct):List (Int×aS):=(a.filter λr=>decide (r.object=o)&&decide (r.block=b)).map λr=>(r.id,r.data)
def rN(m:aA)(o b:Int)(l:dS):List (Int×aS):=((iB m l).filter λr=>decide (r.object=o)&&decide (r.block=b)).map λr=>(r.id,r.data)
def mP(m:aA)(a:aG)(o b:Int)(k:Int):List (Int×aS):=match bY a k with|some d=>rN m o b d.l|none=>[]
def dW(m:aA)(c:aG)(a:aD)(o b:Int):List (Int×aS):=a.flatMap (mP m c o b)
abbrev acA:bS C.toAk 148 210 2 [xP xV 0,xQ dB 0 0] 32:=⟨_,_,n2,n2,n2,n2,n2,n2⟩
def Ex(pool:List (Sl×aS))(p:(Int×Sl)×(Int×aS)):Prop:=p.1.1=p.2.1/\(p.1.2,p.2.2)∈pool
variable {mc:aR}
section
variable {pw:fY}
theorem Nh(x:aY)(m:aA)(s:Sl)(f:aD)(o b:Int)(hx:cj h x m)(hz:bG m)(hs:Rd h s 1 aq f)(hl:f.length<=2^10)(hd:∀k∈f,∃d,bY ds k=cO d)(H:aa B h0 h (aJ bP a pw mc offs da w ds::As)):
  an xZ 103 #[.func (.func 40) #[xR (cO a)] #[],s,cu x,xP xV o,xP xV b] h λv h'=>∃(r:Sl) (ys:List (Int×Sl)),v=r/\Sp h h' [cy dZ 2 piv r ys (dW m ds f o b)]:=by
 refine ts Tryz.func103 ?_ (G7 (G7 (E8 (G7 (F8 (G0 [(11,bN),(18,aH)] [(11,12),(13,14),(15,16),(18,52)] (G7 (G7 (E8 (F8 (G7 (HF [(26,bN),(27,aH),(28,aH)] [(22,29)] (F8 (G0 [(11,bN),(28,aH)] [(11,12),(15,16),(28,51)] E9))))) E9)))))) E9))) [(5,(.l [0,1,3,6,2,4,5]))] (args:=[(.func (.func 40) #[xR (cO a)] #[]),s,x,(o:Int),(b:Int)]);have a5:=hs.len;refine(Sp.refl h).boxed λa1 Y H1=>?_;have H1:=((H1.Ax 1 ar).nil 210 2 piv).bs [2,0,1];refine ak (λt:Sl×Nat×List ((Int×Sl)×(Int×aS))×List (Sl×aS)=>(t.1,(t.2.1:Int))) (λt h'=>t.2.1<=f.length/\t.2.2.1.length<=t.2.1*512/\t.2.2.1.map zk=dW m ds (f.take t.2.1) o b/\(∀p∈t.2.2.1,Ex t.2.2.2 p)/\Sp h h' [ai 210 t.1 2 piv (t.2.2.1.map qF),ib 1 ar t.2.2.2,aj a1 27 (az x)]) (λt=>f.length-t.2.1) (⟨dB,0,0⟩,0,[],[]) n2 ⟨n9,n9,by simp[dW],n9,H1⟩ ?_;rintro⟨u,i,L,P⟩ h2 ⟨hi,a9,N,W,X⟩;dsimp only at*;refine ae (λe=>?_) λe=>?_
 .have U:i<f.length:=n3
  refine(Seq.up hs X.ac).aX i n2 U f[i] n2 (aE ?_);obtain⟨d,F⟩:=hd f[i] (qf U);have Hc:=H.up X.ac;obtain⟨ok,hb⟩:=aa.cB Hc;have A:=X.box 2 n2;refine⟨x,A.aw _ n2,fB qa ?_⟩;refine(jA f[i] ok hb).mono ?_;rintro _ h3 ⟨rfl,rfl⟩;refine⟨_,n2,⟨A.cell0 n2,A.cell n2,A.cell n2,A.cell n2,A.cell n2,A.cell n2,A.cell n2,A.cell n2,I4⟩,?_⟩;rcases gj ok f[i]with⟨c1,c2⟩|⟨n,d',bb,c0,c1,c2,c3,c4,c5⟩
  .rw[F]at c1;cases c1
  have ad:d=d':=by rw[c3]at F;injection F with F;exact F.symm
  subst ad;rw[c5];obtain⟨a4,E,H3⟩:=Qw.aa.fy Hc c2;rw[c4]at E;injection E with E
  injection E with E
  subst E;obtain⟨S,sd,bd,ab⟩:=aa.jX H3;have a2:=S.len;have ap:=S.room;refine(ud bb pw d sd bd x m h3 (ab.box 0 n2) ((ab.aF 2 [1]).BN λ_=>rfl) S (hx.up X.ac) hz).mono ?_;rintro _ h4 ⟨r7,J,rfl,R4⟩;have ay:=iX m d.l;obtain⟨c,G⟩:=I3 (iB m d.l)
  rw[<-G]at R4 ay;have H4:=(X.bV R4).aF 4 [1,2,0,3];have F4:=H4.dv 2 n2;have a8:=F4.2.1;have a7:=F4.1.len;refine⟨r7,n2,I4,?_⟩;have ah:mP m ds o b f[i]=kg o b c:=by unfold mP;rw[F];show rN m o b d.l=_;unfold rN kg;rw[G]
  have V:dW m ds (f.take (i+1)) o b=dW m ds (f.take i) o b++kg o b c:=by unfold dW;rw[aC _ _ U,ze,zA,wB,qR,ah]
  obtain⟨Q,hQ⟩:∃Q:List (Sl×aS),Q=(J.zip c).map λz=>(z.1.2.2.2.2.2.2.2,z.2.data):=⟨_,rfl⟩
  refine ak (λt:Sl×Nat×List ((Int×Sl)×(Int×aS))=>(t.1,(t.2.1:Int))) (λt h'=>t.2.1<=c.length/\t.2.2.length<=L.length+t.2.1/\t.2.2.map zk=dW m ds (f.take i) o b++kg o b (c.take t.2.1)/\(∀p∈t.2.2,Ex (P++Q) p)/\Sp h h' [ai 210 t.1 2 piv (t.2.2.map qF),ib 1 ar P,cy cG 8 bB r7 J c,aj a1 27 (az x)]) (λt=>c.length-t.2.1) (u,0,L) n2 ⟨n9,n9,by simp[kg,N],λp O=>⟨(W p O).1,List.mem_append_left _ (W p O).2⟩,H4⟩ ?_;rintro⟨u2,j,L2⟩ h5 ⟨hj,a6,K,T,H5⟩;dsimp only at*;have F5:=H5.dv 2 n2;refine ae (λe2=>?_) λe2=>?_
  .have Z:j<c.length:=n3
   have al:=Fix.row F5 Z;obtain⟨⟨g1,g2,g3,g4,g5,g6,g7⟩,g8⟩:=al;refine F5.1.cH (g:=bB) j n2 n3 (J[j]'n3) n2 ?_;refine H5.alloc af n2 λbk h6 H6=>?_;refine H6.storeAll af 4 n2 n2 (bB (J[j]'n3)) n2 n2 n2 n2 λh7 H7=>?_;have M:=H7.box 4 n2;have R:kg o b (c.take (j+1))=kg o b (c.take j)++(if(decide (c[j].object=o)&&decide (c[j].block=b))=eH then[(c[j].id,c[j].data)]else[]):=by unfold kg;rw[aC _ _ Z,zm,qG,zE,w9];split<;>rfl
   have skip:(decide (c[j].object=o)&&decide (c[j].block=b))=eL->∃I:Sl×Nat×List ((Int×Sl)×(Int×aS)),((⟨u2.ptr,u2.len,u2.cap⟩:Sl),qe xV ((j:Int)+1))=(I.1,(I.2.1:Int))/\(I.2.1<=c.length/\I.2.2.length<=L.length+I.2.1/\I.2.2.map zk=dW m ds (f.take i) o b++kg o b (c.take I.2.1)/\(∀p∈I.2.2,Ex (P++Q) p)/\Sp h h7 [ai 210 I.1 2 piv (I.2.2.map qF),ib 1 ar P,cy cG 8 bB r7 J c,aj a1 27 (az x)])/\c.length-I.2.1<c.length-j:=λhc=>
    ⟨(u2,j+1,L2),n8,⟨n5,n5,by dsimp only;rw[R,hc];simpa using K,T,H7.bs [0,1,2,3]⟩,n5⟩
   refine⟨c[j].object,by rw[<-g1];exact M.cell0 n2,aV (λq1=>?_) λq1=>skip (by rw[nb q1];rfl)⟩;refine⟨c[j].block,by rw[<-g2];exact M.cell n2,aV (λq2=>?_) λq2=>skip (by rw[nb q2,vx])⟩;refine⟨c[j].id,by rw[<-g3];exact M.cell n2,(J[j]'n3).2.2.2.2.2.2.2,M.cell n2,?_⟩;refine H7.push af 0 n2 acA n2 n4 (λ_=>rfl) sX (c[j].id,(J[j]'n3).2.2.2.2.2.2.2) o0 n4 n7 λu3 bl a0=>?_;refine⟨(u3,j+1,L2++[((c[j].id,(J[j]'n3).2.2.2.2.2.2.2),(c[j].id,c[j].data))]),n8,⟨n5,n7,?_,λp O=>?_,?_⟩,n5⟩
   .try dsimp only
    rw[qG,K,R,l0 (by rw[m9 q1,m9 q2];rfl),qo];rfl
   .rcases qu.1 O with O|O
    .exact T p O
    .rw[qA.1 O];refine⟨n2,List.mem_append_right _ ?_⟩;rw[hQ];refine qI.2 ⟨(J[j]'n3,c[j]),?_,n2⟩;rw[<-yt (h:=by simp;omega)];exact qf _
   .try dsimp only
    rw[qG];exact a0.bs [0,1,2,3]
  .have am:j=c.length:=n3
   subst am;rw[qy,<-V]at K;have a3:=F5.2.1;have H6:=(H5.dG 2 n2 (D:=ib 1 ar Q) λq hq y hy=>by
    rw[hQ]at hy;obtain⟨z,ax,rfl⟩:=qI.1 hy;obtain⟨k,hk,rfl⟩:=qE ax;have ao:k<c.length:=by simp at hk;omega
    have:=(Fix.row hq ao).2;rw[yt];exact this).bs [1,2,0,3]
   have H7:=aa.Ng H6;refine⟨(u2,i+1,L2,P++Q),n8,⟨n5,n5,K,T,H7.bs [1,0,2]⟩,n5⟩
 .rw[qh n3]at N;refine⟨u,L.map qF,n2,?_⟩;have H3:=((X.freeze 0 n2 λ_=>rfl).bs [1,0]).jW;refine H3.dG 0 n2 λq ⟨q1,q2,_,bq,cq,z1,z2⟩=>?_;refine⟨z1.mono bq,by rw[<-N];simp,λj r e Y h2=>?_⟩;rw[<-N]at h2;rw[qP]at Y h2;cases hj:L[j]? with
  |none=>rw[hj]at Y;cases Y
  |some p=>
   rw[hj]at Y h2;have e1:=wm.inj (show cO p.1=cO r from Y);have e2:=wm.inj (show cO p.2=cO e from h2);subst e1;subst e2;obtain⟨k1,k2⟩:=W p (zN hj);exact⟨k1,(z2 _ k2).mono cq⟩
end
def Ni(m:aA)(a:aG)(o b:Int)(live:aD):cR:=live.map λk=>(dW m a [k] o b).map qF
section
variable {pw:fY}
theorem aaw{k:Int}{l:aD}(h:k∈bn ds l):∃d,bY ds k=cO d/\d.lost=eL:=by
 have h:=(qN.1 h).2;unfold isLive at h;cases hd:bY ds k with
 |none=>rw[hd]at h;cases h
 |some d=>rw[hd]at h;exact⟨d,n2,u0⟩
theorem Hm(m:aA)(o b:Int)(l:dS):(rN m o b l).length<=n1 l:=by unfold rN;rw[qp];exact q7 (qO _ _) (iX m l)
end
def Pow.calm(w:Pow):Prop:=w.off=eL/\w.fuse=dB
theorem Nj:Pow.new.calm:=⟨n2,n2⟩
theorem rO{w:Pow}(h:w.calm):w.step=(eH,w):=by unfold Pow.step;rw[m6 (by simp[h.1]),h.2]
theorem EV{w:Pow}(h:w.calm)(a:aG)(x:Int)(b:aS):(dX w a x b).2.1=w:=by
 unfold dX;cases bY a x with
 |none=>rfl
 |some d=>
  try dsimp only
  unfold bu.append;split
  .rfl
  .split
   .rfl
   .split
    .rfl
    .split
     .rfl
     .rw[rO h];rfl
theorem Kb{w:Pow}(h:w.calm)(a:aG)(x:Int):(fC w a x).2.1=w:=by
 unfold fC;cases bY a x with
 |none=>rfl
 |some d=>
  try dsimp only
  unfold bu.sync;split
  .rfl
  .rw[rO h];rfl
theorem oZ{w:Pow}(h:w.calm):∀(l:List (Int×aS)) (ds:aG),(fU l w ds).2.1=w
 |[],_=>rfl
 |x::l,ds=>by
  rw[lh,EV h];split
  .exact oZ h l _
  .exact EV h _ _ _
theorem Ho{w:Pow}(h:w.calm):∀(l:aD) (ds:aG),(iR l w ds).2.1=w
 |[],_=>rfl
 |x::l,ds=>by
  rw[mT,Kb h];split
  .exact Ho h l _
  .exact Kb h _ _
theorem uk{w:Pow}(h:w.calm)(l:List (Int×aS))(a:aG):(layAll l w a).2.1=w:=by
 unfold layAll
 try dsimp only
 rw[oZ h];split
 .exact Ho h _ _
 .exact oZ h _ _
theorem OT{w:Pow}{d:bu}{n:Nat}{b:aS}(h:w.calm)(e:d.lost=eL)(a:n1 d.l+(n+1)<=d.room)(c:n1 b=64):d.append w b=(0,w,{d with l:=d.l++[b],wait:=d.wait+1,laid:=[],has:=eL}):=by unfold bu.append;rw[m6 n3,m6 oo,m6 n3,m6 (by simp[h.1]),rO h];rfl
theorem Vv{w:Pow}{d:bu}(h:w.calm)(a:d.lost=eL):d.sync w=(0,w,{d with wait:=0,laid:=[],has:=eL}):=by unfold bu.sync;rw[m6 oo,rO h];rfl
def Lh(a:aG)(P:List (Int×aS))(s:Int):Option bu:=
 (bY a s).map λd=>{d with l:=d.l++(P.filter λx=>decide (x.1=s)).map zk,wait:=d.wait+(P.filter λx=>decide (x.1=s)).length,laid:=if(P.filter λx=>decide (x.1=s)).isEmpty then d.laid else[],has:=if(P.filter λx=>decide (x.1=s)).isEmpty then d.has else eL}
theorem Dv{w:Pow}(h:w.calm){S:aD}:∀(P:List (Int×aS)) (ds:aG),Fit ds S (P.map qF)->(∀x∈P,x.1∈S/\x.2.length=64)->
  (fU P w ds).1=0/\Fit (fU P w ds).2.2 S []/\∀s,bY (fU P w ds).2.2 s=Lh ds P s
 |[],ds,F,_=>⟨n2,F,λs=>by unfold Lh;show bY ds s=_;simp⟩
 |x::P,ds,F,hP=>by
  obtain⟨d,g,j,m⟩:=F.at_ x.1 (hP x (qS ..)).1;rw[wq,List.count_cons_self]at m;have b:=(hP x (qS ..)).2;obtain⟨n,i,a⟩:=kE g;have f:=OT (n:=(P.map qF).count x.1) h j n3 b;have e:dX w ds x.1 x.2=(0,w,iG ds x.1 {d with l:=d.l++[x.2],wait:=d.wait+1,laid:=[],has:=eL}):=by unfold dX;grind
  obtain⟨_,c⟩:=BY w x.2 (x:=x.1) (Q:=P.map qF) F (hP x (qS ..)).1 b;rw[lh,e];rw[e]at c;rw[l0 rfl];obtain⟨o,k,a3⟩:=Dv h P _ c λy p=>hP y (qt _ p);refine⟨o,k,λs=>?_⟩;rw[a3 s];unfold Lh;rw[i,AC _ _ _ _ a F.len,]
  grind
theorem Hp{w:Pow}(h:w.calm){S:aD}:∀(l:aD) (ds:aG),Fit ds S []->(∀x∈l,x∈S)->
  (iR l w ds).1=0/\Fit (iR l w ds).2.2 S []/\∀s,bY (iR l w ds).2.2 s=(bY ds s).map λd=>if s∈l then{d with wait:=0,laid:=[],has:=eL}else d
 |[],ds,F,_=>⟨n2,F,λs=>by show bY ds s=_;simp⟩
 |x::l,ds,F,hl=>by
  obtain⟨d,b,g,m⟩:=F.at_ x (hl x (qS ..));obtain⟨n,c,a⟩:=kE b;have e:fC w ds x=(0,w,iG ds x {d with wait:=0,laid:=[],has:=eL}):=by unfold fC;rw[b];(try dsimp only);rw[Vv h g]
  obtain⟨_,f⟩:=ES w F (hl x (qS ..));rw[mT,e];rw[e]at f;rw[l0 rfl];obtain⟨j,i,a3⟩:=Hp h l _ f λy k=>hl y (qt _ k);refine⟨j,i,λs=>?_⟩;rw[a3 s,c,AC _ _ _ _ a F.len,<-c]
  grind
abbrev gc(a:fY)(w:Pow):HP:=eJ 68 a w
theorem Bx(H:aa B h0 h (gc a w::As)):an xZ 238 #[xR (cO a)] h λv h'=>v=xT w.step.1/\aa B h0 h' (gc a w.step.2::As):=by
 obtain⟨l,r,c⟩:=H.jF;refine ts Tryz.func238 ?_ (G7 (G7 (E8 (G6 [] [(2,3),(7,28)] (HF [(17,mH)] [(7,18)] E9)) E9)));refine⟨a,n2,w.off,(c.box 0 n2).cell0 n2,aU (λe=>?_) λe=>?_⟩
 .have:w.step=(eL,w):=by unfold Pow.step;rw[l0 e]
  rw[this];exact⟨n2,H⟩
 have o:w.off=eL:=e;refine aE (aE ⟨a,n2,_,(c.box 0 n2).cell n2,aU (λm=>?_) λm=>?_⟩)
 .obtain⟨k,b⟩:∃k,w.fuse=cO k:=yW.1 m;obtain⟨rfl,x⟩:=r k b;have t:powC w (k:Int)=[xT eL,xT eH,xP xV k,xP xV w.offs]:=by simp[powC,o,b]
  rw[t]at c;refine⟨a,n2,_,(c.box 0 n2).cell n2,aV (λi=>?_) λi=>?_⟩
  .have p:k=0:=n3
   subst p;have g:w.step=(eL,⟨eH,cO 0,qe xV (w.offs+1)⟩):=by unfold Pow.step;rw[m6 (by simp[o]),b]
   rw[g];refine⟨a,n2,c.gx af 0 n2 n2 [xT eH] n2 n2 n2 n9 λy q=>?_⟩;refine⟨a,n2,w.offs,(q.box 0 n2).cell n2,a,n2,q.store af 0 n2 n2 3 [xP xV (qe xV (w.offs+1))] n2 n2 n2 Cr λh3 f=>⟨n2,?_⟩⟩;refine aa.mI (l:=((0:Nat):Int)) (λs d=>by cases d;exact⟨n2,n4⟩) ?_;exact f
  .obtain⟨j,rfl⟩:∃j,k=j+1:=⟨k-1,n3⟩
   have g:w.step=(eH,⟨eL,cO j,w.offs⟩):=by unfold Pow.step;rw[m6 (by simp[o]),b]
   rw[g];refine⟨a,n2,_,(c.box 0 n2).cell n2,aU (λ_=>?_) λe=>oj⟩;refine⟨a,n2,_,(c.box 0 n2).cell n2,a,n2,c.store af 0 n2 n2 2 [xP xV (qe xV (((j+1:Nat):Int)-1))] n2 n2 n2 Cr λh3 f=>⟨n2,?_⟩⟩;refine aa.mI (l:=(j:Int)) (λs d=>by cases d;exact⟨n2,n3⟩) ?_;rw[ag _]at f;have u:((j+1:Nat):Int)-1=(j:Int):=n3
   rw[u]at f;exact f
 .have b:w.fuse=dB:=by cases b:w.fuse with|none=>rfl|some k=>rw[b]at m;cases m
  have g:w.step=(eH,w):=by unfold Pow.step;rw[m6 (by simp[o]),b]
  rw[g];refine aU (λe=>oj) λ_=>⟨a,n2,_,(c.box 0 n2).cell n2,aU (λi=>by rw[b]at i;cases i) λ_=>⟨rfl,H⟩⟩
abbrev dE(pw:fY)(d:bu)(s b:Sl):aR:=[xP xV d.room,xR (cO pw),s,xP xV d.wait,xT d.has,b,xT d.lost]
abbrev ij(pw a:fY)(d:bu):HP:=ke 161 (dE pw) a d
section
variable {pw:fY}
theorem OU(n:Int)(pw:fY)(h:hY):an xZ 80 #[xP xV n,xR (cO pw)] h λv h'=>
  (1<=n/\n<=512->∃a,v=xR (cO a)/\Sp h h' [ij pw a (bu.new n.toNat)])/\(¬(1<=n/\n<=512)->v=xR dB/\Sp h h' []):=by
 refine ts Tryz.func80 ?_ (G7 (HF [] [(4,15)] E9));refine aE (ae (λe=>⟨λc=>absurd c n3,λ_=>⟨n2,Sp.refl h⟩⟩) λi=>ae (λe=>⟨λc=>absurd c n3,λ_=>⟨n2,Sp.refl h⟩⟩) λd=>aU (λe=>oj) λ_=>?_);refine(Sp.refl h).boxed λa j g=>⟨λ_=>⟨a,n2,?_⟩,λc=>absurd n3 c⟩
 refine aa.iF (s:=⟨dB,0,0⟩) (b:=⟨dB,0,0⟩) (fd.new n3) ?_;have e:((n.toNat:Nat):Int)=n:=n3
 have f:=((g.kc 41 5 1 ar).kc 41 5 1 ar).aF 3 [2,1,0];have d:dE pw (bu.new n.toNat) ⟨dB,0,0⟩ ⟨dB,0,0⟩=[xP xV n,xR (cO pw),xQ dB 0 0,xP xV 0,xT eL,xQ dB 0 0,xT eL]:=by simp only[dE,bu.new,e];rfl
 rw[d];exact f
theorem Nk(x:Sl)(row:aS)(H:aa B h0 h (ij pw a d::gc pw w::As))(V:St B h0 As λh=>Rd h x 1 ar row)(hr:n1 row<=2^20):
  an xZ 166 #[xR (cO a),x] h λv h'=>v=xP xV (d.append w row).1/\aa B h0 h' (ij pw a (d.append w row).2.2::gc pw (d.append w row).2.1::As):=by
 refine ts Tryz.func166 ?_ (G7 (G7 (G7 (G7 (HF [] [(40,60)] E9))))) [(10,(.l [0,1,2,3,4,5,6,10,11,12,13,14,7,8,9,15,16,17,18,19,20]))];have ah:=(V.at [_,_] H).len;obtain⟨ok,s,b,Q⟩:=H.jX;have F:=Q.box 0 n2;obtain⟨ad,_⟩:=aa.lI (Q.aF 4 [1]);have M:=ok.room;have T:=ok.len;have O:=ok.wait;have j:∀(e:Int),d.append w row=(e,w,d)->(Value.int .i64 e=xP xV (d.append w row).1/\aa B h0 h (ij pw a (d.append w row).2.2::gc pw (d.append w row).2.1::As)):=λe Z=>by
  rw[Z];exact⟨n2,H⟩
 refine bt (λe=>j 1 (by unfold bu.append;rw[l0 n3])) λab=>?_;have J:n1 row=64:=n3
 refine⟨a,n2,d.lost,F.cell n2,aU (λe=>j 5 ?_) λg=>?_⟩
 .unfold bu.append;rw[m6 n3,l0 e]
 refine⟨a,n2,s,F.cell n2,a,n2,(d.room:Int),F.cell0 n2,aV (λe=>j 7 ?_) λt=>?_⟩
 .unfold bu.append;rw[m6 n3,m6 A4,l0 n3]
 have E:=Q.aF 4 [3,0,1,2];obtain⟨l,hl,R⟩:=E.jF;have W:∀{P:Prop},d.room<=n1 d.l->P:=λL=>absurd (show(s.len:Int)=d.room by omega) t;refine⟨a,n2,cO pw,F.cell n2,pw,n2,w.off,(R.box 0 n2).cell0 n2,a,n2,cO pw,F.cell n2,(Bx E).I1 λh2 p=>?_⟩;have p:=p.aF 4 [1,2,3,0];have A:=p.box 0 n2;refine⟨_,n2,?_⟩;by_cases f:w.off=eH
 .have hs:w.step=(eL,w):=by unfold Pow.step;rw[l0 f]
  have er:d.append w row=(14,w,d):=by unfold bu.append;rw[m6 n3,m6 A4,m6 λL=>W L,l0 f]
  rw[hs]at p⊢;refine aE (aI (λe=>absurd e (by simp[f])) λ_=>aI (λ_=>?_) λe=>oj);rw[er];exact⟨n2,p.iF ok⟩
 have q:w.off=eL:=B2
 have I:d.append w row=if w.step.1 then(0,w.step.2,{d with l:=d.l++[row],wait:=d.wait+1,laid:=[],has:=eL})else(14,w.step.2,{d with l:=d.l++[row],wait:=d.wait+1}):=by unfold bu.append;rw[m6 n3,m6 A4,m6 λL=>W L,m6 f]
 rw[I];refine aE (aI (λ_=>?_) λe=>absurd e (by simp[q]));refine⟨a,n2,s,A.cell n2,a,n2,(d.wait:Int),A.cell n2,?_⟩;have N:=V.at [_,_,_,_] p;refine(p.nil 5 1 ar).bf.append af 0 n2 cN ⟨_,_,n2,n2⟩ n2 n4 (λ_=>rfl) N cD n7 λr U y=>?_;have y:aa B h0 U (ai 5 r 1 ar row::aj a 161 (dE pw d s b)::cg s d.l::cg b d.laid::gc pw w.step.2::As):=y;have m:=y.box 1 n2;refine⟨⟨m.cell n2,m.cell n2,I4⟩,?_⟩;refine y.ir af bv cM n2 [r] n2 (show 1*1<=2^20 by decide) n2 ⟨m.cell n2,m.cell n2,I4⟩ ?_;have S:aa B h0 U (cg s d.l::ai 5 r 1 ar row::aj a 161 (dE pw d s b)::cg b d.laid::gc pw w.step.2::As):=y.aF 5 [2,0,1,3,4];refine S.nG af cM n3 λG h6 K=>?_;have K:aa B h0 h6 (aj a 161 (dE pw d s b)::cg G (d.l++[row])::cg b d.laid::gc pw w.step.2::As):=K.aF 4 [1,0,2,3];refine⟨⟨(K.box 0 n2).cell n2,I4⟩,?_⟩;refine⟨a,n2,K.store af 0 n2 n2 2 [G] n2 n2 n2 p8 λh7 H7=>⟨I4,?_⟩⟩;refine⟨a,n2,?_⟩;rw[ag ((d.wait:Int)+1)];refine H7.store af 0 n2 n2 3 [xP xV ((d.wait:Int)+1)] n2 n2 n2 p8 λh8 Y=>⟨I4,?_⟩
 obtain⟨u,k⟩:∃u:bu,u={d with l:=d.l++[row],wait:=d.wait+1}:=⟨_,rfl⟩
 have i:fd u:=by
  subst k;refine⟨n7,n7,ok.room,λc D=>?_,ok.laid,ok.cellL⟩;rcases qu.1 D with D|D
  .exact ok.cell c D
  .rw[qA.1 D];exact J
 have o:aa B h0 h8 (aj a 161 (dE pw u G b)::cg G u.l::cg b u.laid::gc pw w.step.2::As):=by rw[k];exact Y
 refine aI (λe=>?_) (λe=>?_)
 .rw[e,m6 n4];rw[k]at o i;exact⟨n2,o.iF i⟩
 .rw[e,l0 rfl];refine⟨a,n2,o.store af 0 n2 n2 4 [xT eL] n2 n2 n2 p8 λh9 H9=>?_⟩;refine⟨a,n2,H9.store af 0 n2 n2 5 [xQ dB 0 0] n2 n2 n2 p8 λX z=>⟨n2,?_⟩⟩;rw[k]at z i;refine aa.iF (s:=G) (b:=⟨dB,0,0⟩) ⟨i.wait,i.len,i.room,i.cell,qT _,n9⟩ ?_;exact((z.kc 41 5 1 ar).aF 5 [1,2,0,4])
theorem SD(H:aa B h0 h (ij pw a d::gc pw w::As)):
  an xZ 167 #[xR (cO a)] h λv h'=>v=xP xV (d.sync w).1/\aa B h0 h' (ij pw a (d.sync w).2.2::gc pw (d.sync w).2.1::As):=by
 refine ts Tryz.func167 ?_;obtain⟨ok,s,b,j⟩:=H.jX;have i:=j.box 0 n2;refine⟨a,n2,d.lost,i.cell n2,aU (λe=>?_) λc=>?_⟩
 .have:d.sync w=(5,w,d):=by unfold bu.sync;rw[l0 e]
  rw[this];exact⟨n2,H⟩
 refine⟨a,n2,cO pw,i.cell n2,(Bx (j.aF 4 [3,0,1,2])).I1 λp g=>?_⟩;have g:=g.aF 4 [1,2,3,0];have f:d.sync w=if w.step.1 then(0,w.step.2,{{d with wait:=0}with laid:=[],has:=eL})else(14,w.step.2,d):=by unfold bu.sync;rw[m6 C0]
 rw[f];refine⟨_,n2,aI (λe=>?_) λe=>?_⟩
 .rw[e];exact⟨n2,g.iF ok⟩
 .rw[e];refine⟨a,n2,g.store af 0 n2 n2 3 [xP xV 0] n2 n2 n2 p8 λh3 l=>?_⟩;refine⟨a,n2,l.store af 0 n2 n2 4 [xT eL] n2 n2 n2 p8 λn k=>?_⟩;refine⟨a,n2,k.store af 0 n2 n2 5 [xQ dB 0 0] n2 n2 n2 p8 λo m=>⟨n2,?_⟩⟩;refine aa.iF (s:=s) (b:=⟨dB,0,0⟩) ⟨qT _,ok.len,ok.room,ok.cell,qT _,n9⟩ ?_;exact((m.kc 41 5 1 ar).aF 5 [1,2,0,4])
theorem ij.box(H:aa B h0 h (ij pw a d::As)):fd d/\∃s b:Sl,bR h a 161 (dE pw d s b)/\eu h s 1 ar d.l/\s.len=n1 d.l:=by obtain⟨ok,s,b,c⟩:=H.jX;exact⟨ok,s,b,c.box 0 n2,(c.aF 3 [1]).BN λ_=>rfl,(aa.lI (c.aF 3 [1])).1⟩
end
theorem Vw(b:Sl)(l:aS)(h:hY)(q:Rd h b 1 ar l)(D:n1 l<=2^40):an xZ 196 #[b] h λv h'=>v=xP xX (Cu l).toNat/\h'=h:=by
 refine ts Tryz.func196 ?_ (G7 (G7 (E8 (G7 (F8 (G0 [(3,(.sc (.int .u32))),(8,aH)] [(3,6),(8,31)] (G7 (G7 (E8 (F8 (G7 (G7 (G7 (F8 (G0 [(3,(.sc (.int .u32))),(5,aH)] [(3,4),(5,6),(18,30)] E9)))))) E9)))))) E9)));have B:=q.len;refine ak (λt:Nat=>(((mj (l.take t)).toNat:Int),(t:Int))) (λt h'=>t<=n1 l/\h'=h) (λt=>n1 l-t) 0 n2 ⟨n3,n2⟩ ?_;rintro i s ⟨E,rfl⟩;refine ae (λe=>?_) (λe=>?_)
 .have d:i<n1 l:=by have e':(i:Int)<(b.len:Int):=e;omega
  refine q.aX i n2 d (l[i].toNat:Int) n2 ?_;have x:qe xX (l[i].toNat:Int)=((yP 32 l[i].toNat).toNat:Int):=by rw[Cv,BitVec.ofInt_natCast]
  rw[x,DZ];refine ak (λk:Nat=>(((nZ k (mj (l.take i)^^^yP 32 l[i].toNat)).toNat:Int),(k:Int))) (λk h'=>k<=8/\h'=s) (λk=>8-k) 0 n2 ⟨n3,n2⟩ ?_;rintro k p ⟨A,rfl⟩;obtain⟨c,m⟩:=I3 (nZ k (mj (l.take i)^^^yP 32 l[i].toNat))
  try dsimp only
  rw[<-m];refine ae (λy=>?_) (λy=>?_)
  .have a:∀n:rz,n=tm c->∃f:Nat,(((n.toNat:Nat):Int),qe xV ((k:Int)+1))=(((nZ f (mj (l.take i)^^^yP 32 l[i].toNat)).toNat:Int),(f:Int))/\(f<=8/\p=p)/\8-f<8-k:=λn r=>
    ⟨k+1,by rw[ag _,r,m];rfl,⟨n3,n2⟩,n3⟩
   have u:qe xX ((qH (qx xX) (c.toNat:Int)&&&qH (qx xX) (1:Int)).toNat:Nat)=((c&&&1#32).toNat:Int):=Zd c 1#32;have z:qe xX ((qH (qx xX) ((c>>>1).toNat:Int)^^^qH (qx xX) (3988292384:Int)).toNat:Nat)=(((c>>>1)^^^3988292384#32).toNat:Int):=DZ (c>>>1) 3988292384#32;rw[u,PR,z];refine aV (λo=>⟨n4,a _ ?_⟩) (λo=>⟨n4,a _ ?_⟩)
   .unfold tm;rw[l0 ((Ea c).1 o)]
   .unfold tm;rw[m6 λw=>o ((Ea c).2 w)]
  .have g:k=8:=n3
   subst g;refine⟨i+1,?_,⟨n3,n2⟩,n3⟩;rw[ag _,aC _ _ d,Gw,m];rfl
 .have j:i=n1 l:=by have e':¬(i:Int)<(b.len:Int):=e;omega
  subst j;refine⟨?_,n2⟩;rw[qy];exact congrArg (Value.int .u32) (DZ 4294967295#32 (mj l))
theorem SE(n:Int)(k t:Nat)(a:t<k):(cz n k).take t++[b8 (zr n (2^(8*(k-1-t))))]=(cz n k).take (t+1):=by rw[aC _ _ (by rw[bM];exact a)];congr 2;simp[cz]
theorem jv(s:Sl)(l:aS)(n:Int)(k:Nat)(o:k<=4)(p:n1 l<=2^30)(H:aa B h0 h (ai 5 s 1 ar l::As)):
  an xZ 131 #[s,xP xV n,xP xV k] h λv h'=>∃r:Sl,v=r/\aa B h0 h' (ai 5 r 1 ar (l++cz n k)::As):=by
 refine ts Tryz.func131 ?_ (G7 (Hf [(0,bN),(7,aH)] [(0,1),(7,8),(10,22)]));rw[ag ((k:Int)-1)];refine ak (λt:Sl×Nat=>(t.1,(k:Int)-1-t.2)) (λt h'=>t.2<=k/\aa B h0 h' (ai 5 t.1 1 ar (l++(cz n k).take t.2)::As)) (λt=>k-t.2) (s,0) n9 ⟨n9,u7⟩ ?_;rintro⟨r,t⟩ m ⟨j,a⟩;dsimp only at*;refine ae (λe=>?_) (λe=>?_)
 .have b:t<k:=n3
  have f:qe xV ((8:Int)*((k:Int)-1-t))=((8*(k-1-t):Nat):Int):=by rw[ag _];omega
  rw[f,qj];have g:min (8*(k-1-t)) (qx xV)=8*(k-1-t):=by have:qx xV=64:=rfl;omega
  rw[g,bT];refine⟨n3,?_⟩;refine a.push af 0 n2 cN n2 n4 (λ_=>rfl) cD (b8 (zr n (2^(8*(k-1-t))))) n2 n4 p9 λi q d=>?_;refine⟨(i,t+1),?_,⟨n5,?_⟩,n5⟩
  .try dsimp only
   have c:qe xV ((k:Int)-1-t-1)=(k:Int)-1-((t+1:Nat):Int):=by rw[ag _];omega
   rw[c]
  .try dsimp only
   rw[<-SE n k t b,<-qo];exact d
 .have:t=k:=n3
  subst this;rw[qh (by rw[bM];omega)]at a;exact⟨r,n2,a⟩
theorem Dw(a:Int)(b:Sl)(l:aS)(h:hY)(y:Rd h b 1 ar l)(N:n1 l<=2^40:=by omega):an xZ 130 #[xP xV a,b] h λv h'=>∃r:Sl,v=r/\Sp h h' [ai 5 r 1 ar (eV a l)]:=by
 refine ts Tryz.func130 ?_ (G7 (HF [] [(4,5),(7,18)] (G7 (E8 (F8 (G0 [(5,bN)] [(5,6),(23,29)] E9)) E9))));have M:=y.len;have d:¬(1<=a/\a<=255/\l.length<=55)->∃r:Sl,Value.slice dB 0 0=xQ r.ptr r.len r.cap/\Sp h h [ai 5 r 1 ar (eV a l)]:=λe=>by
  unfold eV;rw[m6 e];exact⟨⟨dB,0,0⟩,n2,(Sp.refl h).nil 5 1 ar⟩
 refine aE (ae (λe=>d n3) λO=>ae (λe=>d n3) λQ=>ae (λe=>d n3) λL=>?_);rw[bT];refine(Sp.refl h).lit af ar cN n2 [87,115,1,b8 a] n2 (show 4*1<=2^20 by decide) n2 λv3 h3 w=>?_;refine w.append af 0 n2 cN ⟨_,_,n2,n2⟩ n2 n4 (λ_=>rfl) (Seq.up y w.ac) cD n7 λu A k=>?_;have k:Sp h A [ai 5 u 1 ar ([87,115,1,b8 a]++l)]:=k;refine ak (λt:Sl×Nat=>t.1) (λt h'=>t.2<=55-n1 l/\Sp h h' [ai 5 t.1 1 ar ([87,115,1,b8 a]++l++qi t.2 0)]) (λt=>55-n1 l-t.2) (u,0) n2 ⟨n9,D4⟩ ?_;rintro⟨J,j⟩ E ⟨R,f⟩;dsimp only at*;have i:=(f.own 0 n2).len;simp only[qq,zc,wQ,wY]at i;refine ae (λe=>?_) (λe=>?_)
 .refine f.push af 0 n2 cN n2 n4 (λ_=>rfl) cD 0 n2 n4 n7 λF G D=>?_;refine⟨(F,j+1),n2,⟨n5,?_⟩,n5⟩
  try dsimp only
  rw[yS,<-qo];exact D
 .have p:j=55-n1 l:=n3
  subst p;have I:[87,115,1,b8 a]++l++qi (55-n1 l) 0=fh a l:=rfl;rw[I]at f;have m:(fh a l).length=59:=tp;refine(Vw J (fh a l) E (f.seq 0 n2 λ_=>rfl) n3).I0 ?_;obtain⟨c,x⟩:=I3 (Cu (fh a l))
  rw[<-x];refine⟨_,n2,n4,n4,n4,?_⟩;have H:min (8:Int).toNat (qx xX)=8:=rfl;have q:min (16:Int).toNat (qx xX)=16:=rfl;have o:min (24:Int).toNat (qx xX)=24:=rfl;rw[H,q,o,bT,bT,bT,bT];refine f.lit af ar cN n2 [b8 (c.toNat:Int),b8 (zr (c.toNat:Int) (2^8)),b8 (zr (c.toNat:Int) (2^16)),b8 (zr (c.toNat:Int) (2^24)),165] n2 (show 5*1<=2^20 by decide) n2 λK P z=>?_;refine z.append af 0 n2 cN ⟨_,_,n2,n2⟩ n2 n4 (λ_=>rfl) (z.seq 1 n2 λ_=>rfl) cD (by simp[m]) λB h8 s=>⟨B,n2,?_⟩
  have g:fh a l++[b8 (c.toNat:Int),b8 (zr (c.toNat:Int) (2^8)),b8 (zr (c.toNat:Int) (2^16)),b8 (zr (c.toNat:Int) (2^24)),165]=eV a l:=by unfold eV;rw[l0 ⟨n3,n3,n3⟩,<-x];simp[rV,zH]
  rw[g]at s;exact s.bs [0]
theorem dV(p:Pm)(h:hY):an xZ 116 #[gr p] h λv h'=>v=xT (bJ p)/\Sp h h' []:=by refine ts Tryz.func116 ?_ (args:=[p]);refine(Sp.refl h).boxed λa d g=>?_;have e:=g.box 0 n2;have c:Sp h d []:=.zip g.ac;have f:hU d a=cO (xP xV p.1):=e.cell0 n2;have j:hU d (a.add 1)=cO (xP xV p.2.1):=e.cell n2;have i:hU d (a.add 2)=cO (xP xV p.2.2):=e.cell n2;unfold bJ;refine⟨_,f,ae (λb=>?_) λb=>⟨u9,c⟩⟩;rw[m9 b];refine⟨_,f,ae (λb=>?_) λb=>⟨u9,c⟩⟩;rw[m9 b];refine⟨_,j,ae (λb=>?_) λb=>⟨u9,c⟩⟩;rw[m9 b];refine⟨_,j,ae (λb=>?_) λb=>⟨u9,c⟩⟩;rw[m9 b];refine⟨_,i,ae (λb=>?_) λb=>⟨u9,c⟩⟩;rw[m9 b];exact⟨_,i,n2,c⟩
theorem BZ:∀x y:aS,(Op.bytesLess x y||x==y)=!Op.bytesLess y x
 |[],[]=>rfl
 |[],_::_=>rfl
 |_::_,[]=>by simp[Op.bytesLess]
 |a::x,b::y=>by
  have f:=BZ x y;have e:a<b∨a=b∨b<a:=by
   rcases vY a.toNat b.toNat with h|h|h
   .exact .inl (wZ.2 h)
   .exact .inr (.inl (UInt8.toNat_inj.1 h))
   .exact .inr (.inr (wZ.2 h))
  rcases e with h|rfl|h
  .have c:¬b<a:=λh'=>by have:=wZ.1 h;have:=wZ.1 h';omega
   have d:b≠a:=λh'=>by subst h';exact c h
   simp[Op.bytesLess,h,c,d]
  .have c:¬a<a:=λh'=>by have:=wZ.1 h';omega
   simp only[Op.bytesLess,c,decide_false,yw,beq_self_eq_true,wj];rw[<-f];congr 1;simp
  .have c:¬a<b:=λh'=>by have:=wZ.1 h;have:=wZ.1 h';omega
   have d:a≠b:=λh'=>by subst h';exact c h
   simp[Op.bytesLess,h,c,d]
theorem Hq(s:ByteArray)(h:hY)(D:s.size<=2^40):an xZ 89 #[xS s] h λv h'=>v=xT (gB s)/\h'=h:=by
 refine ts Tryz.func89 ?_ (G7 (Hf [(3,aH)] [(2,33)]));have z:n1 s.data.toList=s.size:=tH s;refine ak (λi:Nat=>(i:Int)) (λi h'=>i<=s.size/\h'=h/\∀c∈s.data.toList.take i,gf c=eH) (λi=>s.size-i) 0 n2 ⟨n3,n2,n9⟩ ?_;rintro i j ⟨E,rfl,f⟩;refine ae (λe=>?_) (λe=>?_)
 .have k:i<n1 s.data.toList:=by have e':(i:Int)<(s.size:Int):=e;omega
  obtain⟨c,r⟩:=I3 (s.data.toList[i])
  refine⟨c,⟨n3,?_⟩,?_⟩
  .rw[qj,<-Array.getElem?_toList,qd k,r]
  have a:gf c=eH->∃g:Nat,qe xV ((i:Int)+1)=(g:Int)/\(g<=s.size/\j=j/\∀c∈s.data.toList.take g,gf c=eH)/\s.size-g<s.size-i:=λp=>
   ⟨i+1,oi,⟨n3,n2,λx l=>by
    rw[aC _ _ k]at l;rcases qu.1 l with l|l
    .exact f x l
    .rw[qA.1 l,<-r];exact p⟩,n3⟩
  have q:gf c=eL->Value.bool eL=xT (gB s)/\j=j:=λp=>by
   refine⟨?_,n2⟩;unfold gB;have:s.data.toList.all gf=eL:=wg.2 ⟨c,by rw[r];exact qf k,by rw[p];simp⟩;rw[this];rfl
  have d:gf c=eH↔((97<=(c.toNat:Int)/\(c.toNat:Int)<=122)∨(48<=(c.toNat:Int)/\(c.toNat:Int)<=57)∨(c.toNat:Int)=45):=by unfold gf;simp[or_assoc];omega
  have o:gf c=eL↔¬((97<=(c.toNat:Int)/\(c.toNat:Int)<=122)∨(48<=(c.toNat:Int)/\(c.toNat:Int)<=57)∨(c.toNat:Int)=45):=by rw[<-d];cases gf c<;>simp
  have b:¬(97<=(c.toNat:Int)/\(c.toNat:Int)<=122)->¬(48<=(c.toNat:Int)/\(c.toNat:Int)<=57)->Br (!((c.toNat:Nat)==(45:Int))) (Value.bool eL=xT (gB s)/\j=j) (∃g:Nat,qe xV ((i:Int)+1)=(g:Int)/\(g<=s.size/\j=j/\∀c∈s.data.toList.take g,gf c=eH)/\s.size-g<s.size-i):=λA B=>by
   refine bt (λm=>q (o.2 n3)) λm=>a (d.2 n3)
  exact ae (λt=>ae (λy=>a (d.2 n3)) λy=>ae (λm=>ae (λu=>a (d.2 n3)) λu=>b n3 n3) λm=>b n3 n3) λt=>ae (λm=>ae (λu=>a (d.2 n3)) λu=>b n3 n3) λm=>b n3 n3
 .have e':¬(i:Int)<(s.size:Int):=e;rw[qh n3]at f;have w:s.data.toList.all gf=eH:=qU.2 f;refine ae (λt=>⟨?_,n2⟩) (λt=>⟨?_,n2⟩)
  .unfold gB;rw[w,m9 (show 1<=s.size by omega)];congr 1;simp;omega
  .unfold gB;rw[w,nb (show¬1<=s.size by omega)];rfl
theorem Yd(n w:Int)(g:0<n)(f:0<w):(if n%w>0 then n/w+1 else n/w)=(n-1)/w+1:=by
 have d:=Int.emod_add_mul_ediv n w;have c:=ya n (show w≠0 by omega);have h3:=zZ n f;obtain⟨q,b⟩:=I3 (n/w)
 obtain⟨r,a⟩:=I3 (n%w)
 rw[<-b,<-a]at d;rw[<-a]at c h3;rw[<-a,<-b];by_cases h:r>0
 .rw[l0 h];have e:n-1=(r-1)+w*q:=n3
  rw[e,Int.add_mul_ediv_left _ _ n3,Int.ediv_eq_zero_of_lt n3 n3];omega
 .rw[m6 h];have e:n-1=(w-1)+w*(q-1):=by rw[Int.mul_sub];omega
  rw[e,Int.add_mul_ediv_left _ _ n3,Int.ediv_eq_zero_of_lt n3 n3];omega
theorem nB(p:Pm)(n:Int)(h:hY)(q:n<=2^40:=by omega):an xZ 48 #[gr p,xP xV n] h λv h'=>v=xP xV (countP p n)/\Sp h h' []:=by
 refine ts Tryz.func48 ?_ (G7 (HF [] [(4,5),(6,13)] (G7 (HF [(5,aH)] [(5,6),(20,30)] E9)))) (args:=[p,(n:Int)]);refine(Sp.refl h).boxed λt i g=>?_;refine aE ⟨p,(g.box 0 n2).aw _ n2,(dV p i).I1 λs l=>?_⟩;have b:=g.up l.ac;have c:=b.box 0 n2;refine⟨_,n2,aI (λe=>⟨by unfold countP;rw[e];rfl,.zip b.ac⟩) λe=>?_⟩;have em:bJ p=eH:=pt
 have o:=(bL p).1 em;have r:p.1*p.2.2<=16*24:=wi n3 n3 n3 n3;have f:0<p.1*p.2.2:=Int.mul_pos n3 n3;refine ae (λm=>⟨by unfold countP;rw[em,nb n3];rfl,.zip b.ac⟩) λm=>?_;refine⟨p.1,c.cell0 n2,p.2.2,c.cell n2,?_⟩
 try dsimp only
 rw[ag (p.1*p.2.2)];refine⟨n3,aE ⟨p.1,c.cell0 n2,p.2.2,c.cell n2,?_⟩⟩
 try dsimp only
 rw[ag (p.1*p.2.2)];refine⟨n3,?_⟩;rw[yH n3,zY n3];have k:0<=n/(p.1*p.2.2):=Int.ediv_nonneg n3 n3;have j:n/(p.1*p.2.2)<=n:=Int.ediv_le_self _ n3;rw[ag (n/(p.1*p.2.2))];have a:(if n%(p.1*p.2.2)>0 then n/(p.1*p.2.2)+1 else n/(p.1*p.2.2))=countP p n:=by
  unfold countP;rw[em];by_cases h0:0<n
  .rw[m9 h0];exact(Yd n _ h0 f).trans (l0 n2).symm
  .have:n=0:=n3
   subst this;rw[m6 n9,m6 n9];simp
 refine ae (λd=>?_) (λd=>?_)
 .rw[l0 d]at a;rw[ag _];exact⟨by rw[a],.zip b.ac⟩
 .rw[m6 d]at a;exact⟨by rw[a],.zip b.ac⟩
theorem jR(m:aA):bH m=eH↔((1<=m.seq/\m.seq<=2147483647)/\(0<=m.next/\m.next<=16777216)/\bJ m.p=eH/\0<=m.extra/\m.extra<=16)/\(∀i,i<n1 m.drives->fQ m.drives 63 i=eH)/\m.objs.length<=12/\∀i,i<n1 m.objs->kr m i=eH:=by
 unfold bH oH;rw[qC,qC,qC,qU,qU,decide_eq_true_eq];constructor
 .rintro⟨d,b,h3,c⟩;exact⟨Fu d,λi a=>b i (q8.2 a),h3,λi a=>c i (q8.2 a)⟩
 .rintro⟨⟨⟨e,g⟩,⟨a3,a4⟩,a5,f,h⟩,b,h3,c⟩;refine⟨?_,λi a=>b i (q8.1 a),h3,λi a=>c i (q8.1 a)⟩;unfold kt dP;simp[*]
theorem SF(l:aD)(a:Int)(i:Nat):fQ l a i=eH↔(0<=l.getD i 0/\l.getD i 0<=a)/\(i=0∨l.getD (i-1) 0<l.getD i 0):=by unfold fQ dP;simp
theorem Hr(m:aA)(e:cS):gy m e=eH↔gB e.name=eH/\(0<=e.object/\e.object<=m.next-1)/\(0<=e.length/\e.length<=m.p.1*m.p.2.2*8)/\(∀t∈e.tries,0<=t/\t<=15)/\(e.tries.length:Int)=countP m.p e.length:=by unfold gy dP;simp[qU]
theorem uQ(m:aA)(i:Nat):kr m i=eH↔gy m (jo m.objs i)=eH/\(i=0∨cU (jo m.objs (i-1)).name (jo m.objs i).name=eH)/\∀y∈m.objs.take i,y.object≠(jo m.objs i).object:=by unfold kr;simp
theorem Dx(x:aY)(m:aA)(h:hY)(D:cj h x m)(hz:bG m):an xZ 59 #[cu x] h λv h'=>v=xT (bH m)/\Sp h h' []:=by
 refine rJ x ?_;refine(Sp.refl h).boxed λB h1 U=>?_;have hb:=U.box 0 n2;have Q:x.2.2.1=m.p.1:=congrArg (·.1) D.p;have ad:x.2.2.2.1=m.p.2.1:=congrArg (·.2.1) D.p;have R:x.2.2.2.2.1=m.p.2.2:=congrArg (·.2.2) D.p;have F:∀{h':hY} {As:List HP},Sp h h' As->(bH m=eH->False)->Value.bool eL=xT (bH m)/\Sp h h' []:=λ{h' As} H' hn=>⟨by cases hq:bH m with|false=>rfl|true=>exact absurd hq hn,.zip H'.ac⟩
 have c0:hU h1 B=cO (xP xV m.seq):=by rw[<-D.seq];exact hb.cell0 n2
 have c1:hU h1 (B.add 1)=cO (xP xV m.next):=by rw[<-D.next];exact hb.cell n2
 refine aE ⟨m.seq,c0,ae (λe=>F U λa=>tg) λY=>⟨m.seq,c0,ae (λe=>F U λa=>tg) λO=>⟨m.next,c1,ae (λe=>F U λa=>tg) λz=>⟨m.next,c1,ae (λe=>F U λa=>tg) λV=>?_⟩⟩⟩⟩;refine⟨m.p,by rw[<-Q,<-ad,<-R];exact hb.lN 2 n2 n2 n2,(dV m.p _).I1 λh2 R2=>?_⟩;have L:=U.up R2.ac;have A:=L.box 0 n2;have ab:=D.up L.ac;have c5:hU h2 (B.add 5)=cO (xP xV m.extra):=by rw[<-D.extra];exact A.cell n2
 have bd:=hz.dr;have bl:=hz.ob;have a6:=bW.len D.objs;have a5:=D.drives.len;refine⟨_,n2,aI (λb=>F L λa=>by have:=((jR m).1 a).1.2.2.1;rw[b]at this;cases this) λb3=>?_⟩;refine⟨m.extra,c5,ae (λe=>F L λa=>tg) λe5=>⟨m.extra,c5,ae (λe=>F L λa=>tg) λe6=>?_⟩⟩;refine⟨x.2.2.2.2.2.2.2,A.cell n2,ae (λe=>F L λa=>by have:=((jR m).1 a).2.2.1;omega) λbb=>?_⟩;have a3:m.objs.length<=12:=n3
 have a8:=(bL m.p).1 b3;have hk:m.p.1*m.p.2.2<=16*24:=wi n3 n3 n3 n3;have bk:0<=m.p.1*m.p.2.2:=vy n3 n3;have S:(1<=m.seq/\m.seq<=2147483647)/\(0<=m.next/\m.next<=16777216)/\bJ m.p=eH/\0<=m.extra/\m.extra<=16:=⟨n3,n3,b3,n3,n3⟩
 refine⟨x.2.2.2.2.2.2.1,A.cell n2,?_⟩;refine ak (λi:Nat=>(i:Int)) (λi h'=>i<=m.drives.length/\(∀j,j<i->fQ m.drives 63 j=eH)/\h'=h2) (λi=>m.drives.length-i) 0 n2 ⟨n3,n3,n2⟩ ?_;rintro i h3 ⟨hi,o,rfl⟩;refine ae (λe=>?_) (λe=>?_)
 .have l:i<m.drives.length:=by have e':(i:Int)<(x.2.2.2.2.2.2.1.len:Int):=e;omega
  have c:¬fQ m.drives 63 i=eH->Value.bool eL=xT (bH m)/\Sp h h3 []:=λhn=>F L λa=>hn (((jR m).1 a).2.1 i l);have next:fQ m.drives 63 i=eH->∃t':Nat,qe xV ((i:Int)+1)=(t':Int)/\(t'<=m.drives.length/\(∀j,j<t'->fQ m.drives 63 j=eH)/\h3=h3)/\m.drives.length-t'<m.drives.length-i:=λhr=>
   ⟨i+1,oi,⟨n3,λj hj=>by
    by_cases a0:j=i
    .subst a0;exact hr
    .exact o j n3,n2⟩,n3⟩
  rw[SF]at c next
  refine ab.drives.aX i n2 l (m.drives.getD i 0) (by rw[getD_lt l];rfl) ?_;refine ae (λY=>c n3) λY=>ae (λO=>c n3) λO=>ae (λz=>?_) λz=>next ⟨n3,.inl n3⟩
  rw[ag ((i:Int)-1)];refine⟨x.2.2.2.2.2.2.1,A.cell n2,ab.drives.aX (i-1) n3 n3 (m.drives.getD (i-1) 0) (by rw[getD_lt (show i-1<m.drives.length by omega)];rfl) ?_⟩;exact ae (λV=>c n3) λV=>next ⟨n3,.inr n3⟩
 have ao:∀i,i<m.drives.length->fQ m.drives 63 i=eH:=λj hj=>o j (by
  have e':¬(i:Int)<(x.2.2.2.2.2.2.1.len:Int):=e;omega)
 refine⟨x.2.2.2.2.2.2.2,A.cell n2,?_⟩;obtain⟨r,F0⟩:=bW.fix D.objs;have bq:=F0.2.1;refine ak (λi:Nat=>(i:Int)) (λi h'=>i<=m.objs.length/\(∀j,j<i->kr m j=eH)/\Sp h h' [aj B 27 (az x)]) (λi=>m.objs.length-i) 0 n2 ⟨n3,n3,L⟩ ?_;rintro i h3 ⟨hi,o,H3⟩;refine ae (λe=>?_) (λe=>?_)
 .have l:i<m.objs.length:=by have e':(i:Int)<(x.2.2.2.2.2.2.2.len:Int):=e;omega
  obtain⟨E,hE⟩:=I3 (m.objs[i])
  have ax:=hz.nm _ (qf l);rw[<-hE]at ax;have J:jo m.objs i=E:=by rw[hE];exact lH l
  have c:∀{h':hY} {As:List HP},Sp h h' As->(kr m i=eH->False)->Value.bool eL=xT (bH m)/\Sp h h' []:=λ{h' As} H' hb=>F H' λa=>hb (((jR m).1 a).2.2.2 i l);have d:kr m i=eH->_:=λa=>(Hr m E).1 (by rw[<-J];exact((uQ m i).1 a).1);have F3:=gA.up F0 H3.ac;refine F3.1.cH (g:=aT) i n2 n3 (r[i]'n3) n2 ?_;refine H3.alloc af n2 λu h4 H4=>?_;refine H4.storeAll af 1 n2 n2 (aT (r[i]'n3)) n2 n2 n2 n2 λs q=>?_;have q:Sp h s [aj B 27 (az x),aj u 59 (aT (r[i]'n3))]:=q;have F5:=gA.up F0 q.ac;obtain⟨⟨y1,y2,y3⟩,Z⟩:=Fix.row F5 l;rw[<-hE]at y1 y2 y3 Z;have I:=q.box 1 n2;have n0:hU s u=cO (xS E.name):=by rw[<-y1];exact I.cell0 n2
  refine bj (λ_ h'=>(gB E.name=eH/\(0<=E.object/\E.object<=m.next-1)/\(0<=E.length/\E.length<=m.p.1*m.p.2.2*8)/\(E.tries.length:Int)=countP m.p E.length)/\(i=0∨cU (jo m.objs (i-1)).name E.name=eH)/\Sp h h' [aj B 27 (az x),aj u 59 (aT (r[i]'n3))]) ?_ ?_
  .refine⟨E.name,n0,(Hq E.name s n3).mono ?_⟩;rintro _ s ⟨rfl,rfl⟩;have k0:hU s u=cO (xS E.name):=n0;have k1:hU s (u.add 1)=cO (xP xV E.object):=by rw[<-y2];exact I.cell n2
   have W:hU s (u.add 2)=cO (xP xV E.length):=by rw[<-y3];exact I.cell n2
   have k3:hU s (u.add 3)=cO (.slice (r[i]'n3).2.2.2.ptr (r[i]'n3).2.2.2.len (r[i]'n3).2.2.2.cap):=I.cell n2;have n:=q.box 0 n2;have m1:hU s (B.add 1)=cO (xP xV m.next):=by rw[<-D.next];exact n.cell n2
   have m2:hU s (B.add 2)=cO (xP xV m.p.1):=by rw[<-Q];exact n.cell n2
   have m4:hU s ((B.add 2).add 2)=cO (xP xV m.p.2.2):=by rw[<-R];exact n.lF 2 2 n2
   have m7:hU s (B.add 7)=cO (xQ x.2.2.2.2.2.2.2.ptr x.2.2.2.2.2.2.2.len x.2.2.2.2.2.2.2.cap):=n.cell n2;have mp:bA s (B.add 2) 0 [xP xV m.p.1,xP xV m.p.2.1,xP xV m.p.2.2]:=by rw[<-Q,<-ad,<-R];exact n.lN 2 n2 n2 n2
   refine⟨_,n2,I4,aI (λb=>⟨I4,c q λa=>by have:=(d a).1;rw[b]at this;cases this⟩) λb1=>ae (λO=>?_) λO=>?_⟩
   .rw[ag ((i:Int)-1)];have M:jo m.objs (i-1)=m.objs[i-1]:=lH;obtain⟨H,ha,zz,hc,rfl⟩:=F5.1.cH (g:=aT) (i:=(i:Int)-1) (i-1) n3 n3 (r[i-1]'n3) rfl (K:=λt=>t=r[i-1]'n3) rfl;have q0:hU s (H.add (((i:Int)-1).toNat*4))=cO (xS m.objs[i-1].name):=by rw[<-(Fix.row F5 (show i-1<m.objs.length by omega)).1.1];exact hc.1
    refine⟨E.name,k0,x.2.2.2.2.2.2.2,m7,H,ha,m.objs[i-1].name,q0,?_⟩
    try dsimp only
    rw[BZ];refine aI (λz=>⟨by repeat (first|exact trivial|refine⟨pa,?_⟩),c q λa=>?_⟩) λz=>?_
    .rcases((uQ m i).1 a).2.1 with h0|h0
     .omega
     .rw[J,M]at h0;unfold cU at h0;rw[h0]at z;cases z
    have a4:cU (jo m.objs (i-1)).name E.name=eH:=by rw[M];exact z
    refine⟨E.object,k1,ae (λV=>⟨by repeat (first|exact trivial|refine⟨pa,?_⟩),c q λa=>B7⟩) λV=>⟨E.object,k1,m.next,m1,ae (λe5=>⟨by repeat (first|exact trivial|refine⟨pa,?_⟩),c q λa=>B7⟩) λe5=>?_⟩⟩;refine⟨E.length,W,ae (λe6=>⟨by repeat (first|exact trivial|refine⟨pa,?_⟩),c q λa=>B0⟩) λe6=>⟨E.length,W,m.p.1,m2,m.p.2.2,m4,?_⟩⟩
    try dsimp only
    rw[ag (m.p.1*m.p.2.2),ag (m.p.1*m.p.2.2*8)];refine ae (λe7=>⟨by repeat (first|exact trivial|refine⟨pa,?_⟩),c q λa=>B0⟩) λe7=>?_;refine⟨(r[i]'n3).2.2.2,k3,m.p,mp,E.length,W,(nB m.p E.length s).I1 λh6 R6=>?_⟩;have w:=q.up R6.ac;refine⟨_,n2,gI R6.ac (by repeat (first|exact trivial|refine⟨pa,?_⟩)),bt (λe8=>c w λa=>?_) λe8=>⟨⟨b1,n3,n3,?_⟩,.inr a4,w⟩⟩
    .have:=(d a).2.2.2.2;have:=Z.len;omega
    .have:=Z.len;omega
   .refine⟨E.object,k1,ae (λV=>⟨by repeat (first|exact trivial|refine⟨pa,?_⟩),c q λa=>B7⟩) λV=>⟨E.object,k1,m.next,m1,ae (λe5=>⟨by repeat (first|exact trivial|refine⟨pa,?_⟩),c q λa=>B7⟩) λe5=>?_⟩⟩;refine⟨E.length,W,ae (λe6=>⟨by repeat (first|exact trivial|refine⟨pa,?_⟩),c q λa=>B0⟩) λe6=>⟨E.length,W,m.p.1,m2,m.p.2.2,m4,?_⟩⟩
    try dsimp only
    rw[ag (m.p.1*m.p.2.2),ag (m.p.1*m.p.2.2*8)];refine ae (λe7=>⟨by repeat (first|exact trivial|refine⟨pa,?_⟩),c q λa=>B0⟩) λe7=>?_;refine⟨(r[i]'n3).2.2.2,k3,m.p,mp,E.length,W,(nB m.p E.length s).I1 λh6 R6=>?_⟩;have w:=q.up R6.ac;refine⟨_,n2,gI R6.ac (by repeat (first|exact trivial|refine⟨pa,?_⟩)),bt (λe8=>c w λa=>?_) λe8=>⟨⟨b1,n3,n3,?_⟩,.inl n3,w⟩⟩
    .have:=(d a).2.2.2.2;have:=Z.len;omega
    .have:=Z.len;omega
  .rintro _ h6 ⟨⟨b1,b2,ap,b4⟩,b5,w⟩;have F6:=gA.up F0 w.ac;have y6:=(Fix.row F6 l).2;rw[<-hE]at y6;have am:=w.box 1 n2;have a9:=Z.len;refine⟨(r[i]'n3).2.2.2,am.cell n2,?_⟩;refine ak (λj:Nat=>(j:Int)) (λj h'=>j<=E.tries.length/\(∀t∈E.tries.take j,0<=t/\t<=15)/\h'=h6) (λj=>E.tries.length-j) 0 n2 ⟨n3,n9,n2⟩ ?_;rintro j h7 ⟨hj,P,rfl⟩;refine ae (λY=>?_) (λY=>?_)
   .have G:j<E.tries.length:=by have e':(j:Int)<((r[i]'n3).2.2.2.len:Int):=Y;omega
    refine Seq.aX (f:=aq) y6 j n2 G E.tries[j] n2 ?_;have N:=qf G;refine ae (λO=>c w λa=>by have:=(d a).2.2.2.1 _ N;omega) λO=>ae (λz=>c w λa=>by have:=(d a).2.2.2.1 _ N;omega) λz=>?_;refine⟨j+1,oi,⟨n3,λt X=>?_,n2⟩,n3⟩;rw[aC _ _ G]at X;rcases qu.1 X with X|X
    .exact P t X
    .rw[qA.1 X];omega
   .have e':¬(j:Int)<((r[i]'n3).2.2.2.len:Int):=Y;rw[qh n3]at P;refine ak (λk:Nat=>(k:Int)) (λk h'=>k<=i/\(∀y∈m.objs.take k,y.object≠E.object)/\h'=h7) (λk=>i-k) 0 n2 ⟨n3,n9,n2⟩ ?_;rintro k h8 ⟨br,ah,rfl⟩;refine ae (λO=>?_) (λO=>?_)
    .have a7:k<i:=n3
     obtain⟨H,ha,zz,hc,rfl⟩:=F6.1.cH (g:=aT) (i:=(k:Int)) k rfl n3 (r[k]'n3) rfl (K:=λt=>t=r[k]'n3) rfl;have al:k<m.objs.length:=n3
     refine⟨x.2.2.2.2.2.2.2,(w.box 0 n2).cell n2,H,ha,m.objs[k].object,?_,E.object,?_,?_⟩
     .rw[<-(Fix.row F6 al).1.2.1];exact hc.2.1
     .rw[<-y2];exact am.cell n2
     .refine aV (λz=>c w λa=>?_) λz=>?_
      .have:=((uQ m i).1 a).2.2 m.objs[k] (z8.2 ⟨k,n3,n2⟩);rw[J]at this;exact this z
      .refine⟨k+1,oi,⟨n3,λy T=>?_,n2⟩,n3⟩;rw[aC _ _ al]at T;rcases qu.1 T with T|T
       .exact ah y T
       .rw[qA.1 T];exact z
    .have ay:k=i:=n3
     subst ay;refine⟨k+1,oi,⟨n3,λj' G=>?_,w.bs [0]⟩,n3⟩;by_cases a2:j'=k
     .subst a2;rw[uQ,J,Hr];exact⟨⟨b1,b2,ap,P,b4⟩,b5,ah⟩
     .exact o j' n3
 .have e':¬(i:Int)<(x.2.2.2.2.2.2.2.len:Int):=e;have:bH m=eH:=(jR m).2 ⟨S,ao,a3,λj hj=>o j n3⟩;exact⟨by rw[this],.zip H3.ac⟩
theorem SG(x:aY)(m:aA)(h:hY)(d:cj h x m)(hz:bG m):an xZ 129 #[cu x] h λv h'=>∃r:Sl,v=r/\Sp h h' [ai 5 r 1 ar (gC m)]:=by
 refine ts Tryz.func129 ?_ (G7 (G7 (HF [(3,bN)] [(3,4),(13,19)] (G7 (E8 (G7 (F8 (G0 [(3,bN),(44,aH)] [(3,4),(5,6),(44,54)] E9))) (G7 (E8 (G7 (F8 (G0 [(3,bN),(64,aH)] [(3,4),(7,8),(9,10),(64,99)] (G7 (G7 (E8 (F8 (G7 (HF [(3,bN)] [(3,4),(68,78)] (HF [(3,bN)] [(3,4),(78,85)] (G7 (F8 (G0 [(3,bN),(88,aH)] [(3,4),(9,10),(88,98)] E9))))))) E9)))))) E9))))))) [(3,(.l [0,1,3,4,2,5,6])),(14,(.l [0,1,2,3,4,7,8,5,6,9,10])),(15,(.l [0,1,2,4,5,3,6,7]))] (args:=[x]);refine(Sp.refl h).boxed λa1 h1 H1=>?_;refine⟨x,(H1.box 0 n2).aw _ n2,(Dx x m h1 (d.up H1.ac) hz).I1 λh2 R2=>?_⟩;have V:=H1.up R2.ac;refine⟨_,n2,aI (λe=>?_) λB=>?_⟩
 .unfold gC;rw[e];exact⟨⟨dB,0,0⟩,n2,((V.nil 5 1 ar).bs [1])⟩
 have Z:x.2.2.1=m.p.1:=congrArg (·.1) d.p;have ad:x.2.2.2.1=m.p.2.1:=congrArg (·.2.1) d.p;have ab:x.2.2.2.2.1=m.p.2.2:=congrArg (·.2.2) d.p;have F:=V.box 0 n2;have c:=tZ m hz;unfold gC at c;rw[B,l0 rfl]at c;have hM:∀{h':hY} {As:List HP},Sp h h' As->cj h' x m:=λ{h' As} N=>d.up N.ac;refine aE ⟨m.seq,by rw[<-d.seq];exact F.cell0 n2,m.next,by rw[<-d.next];exact F.cell n2,?_⟩;have H3:=(V.nil 5 1 ar).bf;refine(jv ⟨dB,0,0⟩ [] m.seq 4 n4 n9 H3).I2 λs4 h4 H4=>⟨s4,n2,⟨by rw[<-d.next];exact(H4.box 1 n2).cell n2,I4⟩,?_⟩;refine(jv s4 _ m.next 4 n4 tq H4).I2 λs5 h5 H5=>⟨s5,n2,I4,?_⟩;have q:=H5.box 1 n2;refine⟨m.p.1,by rw[<-Z];exact q.cell n2,m.p.2.1,by rw[<-ad];exact q.lF 2 1 n2,m.p.2.2,by rw[<-ab];exact q.lF 2 2 n2,m.extra,by rw[<-d.extra];exact q.cell n2,x.2.2.2.2.2.2.1,q.cell n2,?_⟩;have al:=d.drives.len;have ao:=bW.len d.objs
 try dsimp only
 rw[bT,bT,bT,bT,bT,al];refine H5.lit af ar cN n2 [b8 m.p.1,b8 m.p.2.1,b8 m.p.2.2,b8 m.extra,b8 (m.drives.length:Nat)] n2 (show 5*1<=2^20 by decide) n2 λa4 h6 H6=>?_;refine H6.append af 0 n2 cN ⟨_,_,n2,n2⟩ n2 n4 (λ_=>rfl) (H6.seq 2 n2 λ_=>rfl) cD tq λs7 h7 T=>?_;have T:=T.bs [0,1];refine⟨x.2.2.2.2.2.2.1,(T.box 1 n2).cell n2,?_⟩;have a3:(([]++cz m.seq 4)++cz m.next 4++[b8 m.p.1,b8 m.p.2.1,b8 m.p.2.2,b8 m.extra,b8 (m.drives.length:Nat)]).length=13:=tq
 have a7:=hz.dr;refine sG x.2.2.2.2.2.2.1 m.drives s7 _ T (St.mk' λh' N=>(hM N).drives) n3 n3 λs8 h8 H8=>?_
 try dsimp only
 refine⟨x.2.2.2.2.2.2.2,(H8.box 1 n2).cell n2,?_⟩
 try dsimp only
 rw[bT,ao];obtain⟨a,b⟩:=I3 (([]++cz m.seq 4)++cz m.next 4++[b8 m.p.1,b8 m.p.2.1,b8 m.p.2.2,b8 m.extra,b8 (m.drives.length:Nat)]++m.drives.map b8)
 rw[<-b]at H8;have ah:a.length=13+m.drives.length:=by rw[b];simp[bM];omega
 simp only[qq,zc,wQ,qp,bM]at c;refine H8.push af 0 n2 cN n2 n4 (λ_=>rfl) cD (b8 (m.objs.length:Nat)) n2 n4 n3 λs9 h9 S=>?_;have S:Sp h h9 [ai 5 s9 1 ar (a++[b8 (m.objs.length:Nat)]),aj a1 27 (az x)]:=S;refine⟨x.2.2.2.2.2.2.2,(S.box 1 n2).cell n2,?_⟩;obtain⟨D,R⟩:=bW.fix d.objs;have bd:=R.2.1;refine ak (λt:Sl×Nat=>(t.1,(t.2:Int))) (λt h'=>t.2<=m.objs.length/\Sp h h' [ai 5 t.1 1 ar (a++[b8 (m.objs.length:Nat)]++(m.objs.take t.2).flatMap go),aj a1 27 (az x)]) (λt=>m.objs.length-t.2) (s9,0) n2 ⟨n9,C6⟩ ?_;rintro⟨o,i⟩ bk ⟨hi,k⟩;dsimp only at*;refine ae (λe=>?_) (λe=>?_)
 .have u:i<m.objs.length:=n3
  have ap:=gA.up R k.ac;have a0:=My B u;have w:((m.objs.take i).flatMap go).length<=50000:=by have h1:=uN B i hi;have:=tW B;have:i*4000<=12*4000:=zo _ n3;omega
  refine ap.1.cH (g:=aT) i n2 n3 (D[i]'n3) n2 ?_;refine k.alloc af n2 λax bb X=>?_;refine X.storeAll af 2 n2 n2 (aT (D[i]'n3)) n2 n2 n2 n2 λam j=>?_;have a2:=gA.up R j.ac;obtain⟨⟨z,y2,y3⟩,y4⟩:=Fix.row a2 u;obtain⟨E,hE⟩:=I3 (m.objs[i])
  rw[<-hE]at z y2 y3 y4 a0;have y:=j.box 2 n2;refine aE ⟨E.name,A6,E.name,A6,?_⟩;rw[bT];refine j.ir af ar cN n2 [b8 (E.name.size:Nat)] n2 (show 1*1<=2^20 by decide) n2 ⟨A6,A6,I4⟩ ?_;have P:(a++[b8 (m.objs.length:Nat)]++(m.objs.take i).flatMap go).length<=160000:=by rw[qq,qq,ah];simp;simp at w;omega
  obtain⟨f,J⟩:=I3 (a++[b8 (m.objs.length:Nat)]++(m.objs.take i).flatMap go)
  rw[<-J]at j P;refine j.push af 0 n2 cN n2 n4 (λ_=>rfl) cD (b8 (E.name.size:Nat)) n2 n4 n3 λbq a8 H=>?_;have G:=H.box 2 n2;refine⟨⟨by rw[<-z];exact G.cell0 n2,by rw[<-z];exact G.cell0 n2,I4⟩,?_⟩;refine H.Jt af 0 n2 cN ⟨_,n2,n2⟩ n2 n4 E.name n7 λI ay s=>?_;have A:=s.box 2 n2;refine⟨⟨by rw[<-z];exact A.cell0 n2,I4⟩,?_⟩;have s:Sp h ay [ai 5 I 1 ar (f++[b8 (E.name.size:Nat)]++iK E.name),aj a1 27 (az x),aj ax 59 (aT (D[i]'n3))]:=s;refine aE ⟨E.object,by rw[<-y2];exact A.cell n2,E.length,by rw[<-y3];exact A.cell n2,?_⟩;have a6:=tH E.name;refine(jv I _ E.object 3 n4 n7 s).I2 λQ a5 O=>?_;have Y:=O.box 2 n2;refine⟨Q,n2,⟨by rw[<-y3];exact Y.cell n2,I4⟩,?_⟩;refine(jv Q _ E.length 2 n4 p9 O).I2 λM bl K=>?_;have U:=K.box 2 n2;refine⟨M,n2,I4,(D[i]'n3).2.2.2,U.cell n2,?_⟩;refine sG (D[i]'n3).2.2.2 E.tries M _ K (St.mk' λh' N=>by rw[hE];exact(Fix.row (gA.up R N.ac) u).2) p9 n3 λW a9 L=>?_
  try dsimp only
  have am:=tW B;refine⟨(W,i+1),n8,⟨n5,?_⟩,n5⟩
  try dsimp only
  rw[aC _ _ u,ze,<-qo,<-J,zA,wB,qR,<-hE];have e3:f++[b8 (E.name.size:Nat)]++iK E.name++cz E.object 3++cz E.length 2++E.tries.map b8=f++go E:=by unfold go iK;simp[qo]
  rw[e3]at L;exact L.bs [0,1]
 .rw[qh n3]at k;refine⟨o,n2,?_⟩;have e2:a++[b8 (m.objs.length:Nat)]++m.objs.flatMap go=gC m:=by rw[b];unfold gC;rw[B,l0 rfl];simp[qo]
  rw[e2]at k;exact k.bs [0]
theorem mg(x:aY)(m:aA)(h:hY)(F:cj h x m)(H:bG m):an xZ 62 #[cu x] h λv h'=>∃r:Sl,v=r/\Sp h h' [cg r (bI m)]:=by
 refine ts Tryz.func62 ?_ (G7 (G7 (G7 (G7 (Hf [(5,bN),(6,aH)] [(5,8),(15,48)]))))) (args:=[x]);refine(Sp.refl h).boxed λs Q E=>?_;refine⟨x,(E.box 0 n2).aw _ n2,(SG x m Q (F.up E.ac) H).I2 λb Y Z=>?_⟩;have p:=E.comp Z;have w:=tZ m H;obtain⟨l,B⟩:=I3 (gC m)
 rw[<-B]at p w;have ab:=(p.own 1 n2).len;have j:=(p.own 1 n2).cap;refine⟨b,n2,n4,?_⟩;have f:qe xV (Int.tdiv (qe xV ((qe xV (((b.len:Nat):Int)+(48:Int)))-(1:Int))) (48:Int))=(fj l:Int):=by rw[ag ((b.len:Int)+48),ag ((b.len:Int)+48-1),yH n3];unfold fj;rw[ag (((b.len:Int)+48-1)/48)];omega
 have S:fj l<=3000:=by unfold fj;omega
 rw[f];obtain⟨a,d⟩:∃a:dS,a=bI m:=⟨_,rfl⟩
 have L:n1 a=fj l:=by rw[d,B];simp[bI]
 have c:Sp h Y [cg ⟨dB,0,0⟩ (a.take 0),aj s 27 (az x),ai 5 b 1 ar l]:=p.kc 41 5 1 ar;refine ak (λt:Sl×Nat=>(t.1,(t.2:Int))) (λt h'=>t.2<=fj l/\Sp h h' [cg t.1 (a.take t.2),aj s 27 (az x),ai 5 b 1 ar l]) (λt=>fj l-t.2) (⟨dB,0,0⟩,0) n2 ⟨n9,c⟩ ?_;rintro⟨o,i⟩ h3 ⟨hi,c⟩;dsimp only at*;refine ae (λe=>?_) (λe=>?_)
 .have A:i<fj l:=n3
  have I:48*i<n1 l:=by unfold fj at A;omega
  rw[ag ((i:Int)*48),ag ((i:Int)+1),ag (((i:Int)+1)*48)];obtain⟨en,R⟩:∃en:Nat,en=min (48*i+48) l.length:=⟨_,rfl⟩
  have D:(if((b.len:Nat):Int)<((i:Int)+1)*48 then((b.len:Nat):Int)else((i:Int)+1)*48)=(en:Int):=by split<;>omega
  rw[D];refine⟨⟨n3,n3,n3⟩,m.seq,by rw[<-F.seq];exact(c.box 1 n2).cell0 n2,?_⟩;have e1:((i:Int)*48).toNat=48*i:=n3
  rw[e1,qj];have P:=((c.seq 2 n2 λ_=>rfl).drop (48*i) j).take (en-48*i) pb;have K:(l.drop (48*i)).take (en-48*i)=(l.drop (48*i)).take 48:=by
   by_cases hh:48*i+48<=n1 l
   .rw[show en-48*i=48 by omega]
   .rw[qh pb,qh pb]
  rw[K,zM]at P;rw[zM];refine(jv ⟨dB,0,0⟩ [] m.seq 4 n4 n9 (c.nil 5 1 ar).bf).I2 λW h4 y=>⟨W,n2,?_⟩;rw[bT,bT,bT];refine y.lit af ar cN n2 [b8 (i:Int),b8 (fj l:Int),b8 ((en-48*i:Nat):Int)] n2 (show 3*1<=2^20 by decide) n2 λv7 V q=>?_;refine q.append af 0 n2 cN ⟨_,_,n2,n2⟩ n2 n4 (λ_=>rfl) (q.seq 4 n2 λ_=>rfl) cD tq λO X k=>?_;have k:Sp h X [ai 5 O 1 ar ([]++cz m.seq 4++[b8 (i:Int),b8 (fj l:Int),b8 ((en-48*i:Nat):Int)]),cg o (a.take i),aj s 27 (az x),ai 5 b 1 ar l]:=k.bs [0,1,2,3];have g:=((k.seq 3 n2 λ_=>rfl).drop (48*i) j).take (en-48*i) pb;rw[K,zM]at g;have z:((l.drop (48*i)).take 48).length=en-48*i:=n7
  refine k.append af 0 n2 cN ⟨_,_,n2,n2⟩ n2 n4 (λ_=>rfl) g cD p9 λM J u=>?_;have u:Sp h J [ai 5 M 1 ar ([]++cz m.seq 4++[b8 (i:Int),b8 (fj l:Int),b8 ((en-48*i:Nat):Int)]++(l.drop (48*i)).take 48),cg o (a.take i),aj s 27 (az x),ai 5 b 1 ar l]:=u;refine(Dw 2 M _ J (u.seq 0 n2 λ_=>rfl) p9).I2 λr h8 G=>?_;have N:eV 2 ([]++cz m.seq 4++[b8 (i:Int),b8 (fj l:Int),b8 ((en-48*i:Nat):Int)]++(l.drop (48*i)).take 48)=od m.seq i (fj l) ((l.drop (48*i)).take 48):=by unfold od;rw[z];simp
  rw[N]at G;have y:=((u.nE).bV G).aF 4 [1,0,2,3];refine⟨r,n2,?_⟩;refine y.nG af cM n7 λU V q=>?_;refine⟨(U,i+1),n2,⟨n5,?_⟩,n5⟩
  try dsimp only
  rw[aC _ _ (show i<n1 a by omega)];have T:a[i]'n3=od m.seq i (fj l) ((l.drop (48*i)).take 48):=by subst d;subst B;simp[bI]
  rw[T];exact q
 .rw[qh n3,d]at c;exact⟨o,n2,c.bs [0]⟩
def Has(a:aG)(S:aD):Prop:=n1 a=64/\∀s∈S,∃d,bY a s=cO d
theorem Has.set{a:aG}{S:aD}{n:Nat}{d:bu}(F:Has a S)(c:n<64):Has (iG a (n:Int) d) S:=by
 refine⟨by unfold iG;rw[qK];exact F.1,λs b=>?_⟩;rw[AC _ _ _ _ c F.1];by_cases h:s=(n:Int)
 .rw[l0 h];exact⟨_,n2⟩
 .rw[m6 h];exact F.2 s b
theorem Has.append{a:aG}{S:aD}(F:Has a S)(w:Pow)(x:Int)(b:aS):Has (dX w a x b).2.2 S:=by
 unfold dX;cases hd:bY a x with
 |none=>exact F
 |some d=>
  obtain⟨n,rfl,c⟩:=kE hd;exact F.set c
theorem Has.sync{a:aG}{S:aD}(F:Has a S)(w:Pow)(x:Int):Has (fC w a x).2.2 S:=by
 unfold fC;cases hd:bY a x with
 |none=>exact F
 |some d=>
  obtain⟨n,rfl,b⟩:=kE hd;exact F.set b
def mQ(l:aD)(i:Nat):aD:=(((qz 64).drop i).map λi:Nat=>(i:Int)).filter λi=>decide (i∈l)
theorem KD(l:aD):mQ l 64=[]:=by unfold mQ;rw[zl n9];rfl
theorem IR(l:aD)(i:Nat)(a:i<64):mQ l i=if(i:Int)∈l then(i:Int)::mQ l (i+1)else mQ l (i+1):=by
 unfold mQ;rw[qW B4,List.getElem_range,wq,zE];by_cases h:(i:Int)∈l
 .rw[l0 u0,l0 h]
 .rw[m6 u0,m6 h]
def pd(l:aD):aR:=(qz 64).map λi:Nat=>xT (decide ((i:Int)∈l))
theorem By(l:aD):(pd l).length=64:=by simp[pd]
theorem FV(l:aD)(n:Nat)(a:n<64):(pd l)[n]?=cO (xT (decide ((n:Int)∈l))):=by unfold pd;rw[qP,zt a];rfl
theorem Ye(l:aD)(n:Nat)(c:n<64):(pd l).set n (xT eH)=pd (l++[(n:Int)]):=by
 apply zq;intro j;rw[qZ,By];by_cases b:j<64
 .rw[FV _ _ b,FV _ _ b];by_cases h:n=j
  .subst h;rw[l0 n2,l0 c];simp
  .rw[m6 h];have:(j:Int)∈l++[(n:Int)]↔(j:Int)∈l:=by rw[qu,qA];exact⟨λh'=>h'.elim id λa=>absurd a n3,.inl⟩
   simp only[this]
 .rw[m6 n3,zj (by rw[By];omega),zj (by rw[By];omega)]
def Hs(T:List ((Int×Sl)×(Int×aS))):HP:=⟨λh q=>∀t∈T,dZ.p h q t.1 t.2,λa d t b=>dZ.loc (a t b) d,λa c t b=>dZ.mono (a t b) c⟩
abbrev bD:Qw.Kit:=⟨40,68,161,λpw=>dE pw⟩
abbrev ZK:bS C.toAk 134 146 2 [xP xV 0,xQ dB 0 0] 32:=⟨_,_,n2,n2,n2,n2,n2,n2⟩
section
variable {pw:fY}
theorem aa.cK(H:aa B h0 h (aJ bD a pw mc offs da w ds::As)):gM mc da ds/\bR h a 40 (dh mc pw offs da):=by obtain⟨ok,b⟩:=Qw.aa.jQ H;exact⟨ok,b.box 0 n2⟩
theorem Nl{h:hY}(ok:gM mc da ds)(c:bR h a 40 (dh mc pw offs da))(n:Nat)(d:n<64):∃x:bK,hU h ((a.add 10).add (n*1))=cO (.pointer x)/\da[n]?=cO x:=by
 have b:n<n1 da:=by rw[ok.la];exact d
 refine⟨da[n],?_,qd b⟩;rw[zM];refine c.lF 10 n ?_;rw[mK ok.l8,qd b];rfl
theorem Kc(s:Sl)(z:List (Int×Sl))(P:List (Int×aS))(Q:St B h0 As λh=>gA dZ 2 piv h s z P)(hl:n1 P<=2^30)(W:∀x∈P,n1 x.2<=2^20)(hh:Has ds (P.map qF))(H:aa B h0 h (aJ bD a pw mc offs da w ds::As)):
  an xZ 100 #[xR (cO a),s] h λv h'=>v=xP xV (layAll P w ds).1/\aa B h0 h' (aJ bD a pw mc offs da (layAll P w ds).2.1 (layAll P w ds).2.2::As):=by
 refine ts Tryz.func100 ?_ (G7 (G7 (E8 (G7 (F8 (G0 [(13,aH)] [(4,5),(7,9),(13,34)] E9))) (Hf [(34,aH)] [(4,5),(9,11),(34,52)]))));have ah:=(Q.at [_] H).1.len;have al:=(Q.at [_] H).2.1;refine H.alloc af n2 λg h1 E=>?_;have E:aa B h0 h1 (aj g 205 (pd [])::aJ bD a pw mc offs da w ds::As):=E.bf;refine ak (λt:Nat×Pow×aG=>(t.1:Int)) (λt h'=>t.1<=n1 P/\Has t.2.2 (P.map qF)/\fU P w ds=fU (P.drop t.1) t.2.1 t.2.2/\aa B h0 h' (aj g 205 (pd ((P.take t.1).map qF))::aJ bD a pw mc offs da t.2.1 t.2.2::As)) (λt=>n1 P-t.1) (0,w,ds) n2 ⟨n9,hh,n2,by simpa using E⟩ ?_;rintro⟨i,M,r⟩ h1 ⟨hi,D,p,E⟩;dsimp only at*;refine ae (λe=>?_) (λe=>?_)
 .have m:i<n1 P:=n3
  rw[qW m,lh]at p;have F1:=Q.at [_,_] E;have ab:=W _ (qf m);refine F1.1.cH (g:=piv) i n2 n3 (z[i]'n3) n2 ?_;refine E.alloc af n2 λa4 h2 G=>?_;have G:=G.bf;refine G.storeAll af 0 n2 n2 (piv (z[i]'n3)) n2 n2 n2 n2 λh3 u=>?_;obtain⟨y1,y2⟩:=Fix.row (Q.at [_,_,_] u) m;have u:aa B h0 h3 (aj a4 146 (piv (z[i]'n3))::aj g 205 (pd ((P.take i).map qF))::aJ bD a pw mc offs da M r::As):=u;have u:=u.aF 3 [2,0,1];obtain⟨ok,X⟩:=aa.cK u;obtain⟨c,o⟩:=I3 (dX M r P[i].1 P[i].2)
  rw[<-o]at p;obtain⟨d0,y⟩:=D.2 P[i].1 (qI.2 ⟨_,qf m,rfl⟩);rcases gj ok P[i].1 with⟨c1,c2⟩|⟨n,d,b,I,c1,c2,c3,c4,c5⟩
  .rw[c1]at y;cases y
  obtain⟨x8,O,f⟩:=Nl ok X n c1;rw[c4]at f;injection f with f
  subst f;refine⟨(n:Int),by rw[<-I,<-y1];exact(u.box 1 n2).cell0 n2,a,n2,⟨n3,n3⟩,cO b,by rw[qj];exact O,(z[i]'n3).2,(u.box 1 n2).cell n2,?_⟩;obtain⟨b',j,H5⟩:=Qw.aa.fy u c2;rw[c4]at j;injection j with j
  injection j with j
  subst j;have ad:St B h0 (Et bD a pw mc offs da r n::aj a4 146 (piv (z[i]'n3))::aj g 205 (pd ((P.take i).map qF))::As) λh=>Rd h (z[i]'n3).2 1 ar P[i].2:=
   ((Q.mono λh hF=>(Fix.row hF m).2).cons).cons.cons
  refine(Nk (z[i]'n3).2 P[i].2 H5 ad ab).I1 λZ V=>?_;have A:=Qw.aa.kR (k:=bD) (n:=n) c4 V;have es:c=((d.append M P[i].2).1,(d.append M P[i].2).2.1,r.set n (cO (d.append M P[i].2).2.2)):=by rw[o];unfold dX;rw[c3];simp only[iG,I,qj]
  have A:aa B h0 Z (aJ bD a pw mc offs da c.2.1 c.2.2::aj a4 146 (piv (z[i]'n3))::aj g 205 (pd ((P.take i).map qF))::As):=by rw[es];exact A
  have q:(d.append M P[i].2).1=c.1:=by rw[es]
  rw[q];have S:=A.box 1 n2;refine⟨_,n2,⟨by rw[<-I,<-y1];exact S.cell0 n2,I4⟩,bt (λK=>?_) λK=>?_⟩
  .rw[m6 K]at p;have:layAll P w ds=c:=by unfold layAll;rw[p];exact m6 K
   rw[this];exact⟨n2,A.nF.nF⟩
  .rw[l0 K]at p;refine⟨(n:Int),by rw[<-I,<-y1];exact S.cell0 n2,⟨n3,n3⟩,?_⟩;rw[qj,zM];refine A.storeAt af 2 n2 n2 n2 n2 n2 (by rw[By];exact c1) λh8 U=>?_;have U:aa B h0 h8 (aJ bD a pw mc offs da c.2.1 c.2.2::aj a4 146 (piv (z[i]'n3))::aj g 205 ((pd ((P.take i).map qF)).set n (xT eH))::As):=U;rw[Ye _ _ c1]at U;refine⟨(i+1,c.2.1,c.2.2),n8,⟨n5,by rw[o];exact D.append _ _ _,p,?_⟩,n5⟩
   try dsimp only
   rw[aC _ _ m,qG,wq,vg,I];exact U.aF 3 [2,0]
 .have Y:i=n1 P:=n3
  subst Y;rw[y0]at p;rw[qy]at E;have T:layAll P w ds=iR (gv (P.map qF)) M r:=by unfold layAll;rw[p];rfl
  obtain⟨L,hL⟩:=I3 (P.map qF)
  rw[<-hL]at E T D;refine ak (λt:Nat×Pow×aG=>(t.1:Int)) (λt h'=>t.1<=64/\Has t.2.2 L/\layAll P w ds=iR (mQ L t.1) t.2.1 t.2.2/\aa B h0 h' (aj g 205 (pd L)::aJ bD a pw mc offs da t.2.1 t.2.2::As)) (λt=>64-t.1) (0,M,r) n2 ⟨n9,D,T,E⟩ ?_;rintro⟨i,J,F⟩ h2 ⟨hi,N,l,G⟩;dsimp only at*;refine ae (λe=>?_) (λe=>?_)
  .have m:i<64:=n3
   rw[IR _ _ m]at l;refine⟨⟨n3,n3⟩,decide ((i:Int)∈L),?_,aI (λK=>?_) λK=>?_⟩
   .rw[qj,zM];exact(G.box 0 n2).cell (FV _ _ m)
   .rw[m6 (by simpa using K)]at l;exact⟨(i+1,J,F),n8,⟨n5,N,l,G⟩,n5⟩
   .have hm:(i:Int)∈L:=by simpa using K
    rw[l0 hm,mT]at l;have u:=G.aF 2 [1,0];obtain⟨ok,X⟩:=aa.cK u;obtain⟨d0,y⟩:=N.2 _ hm;rcases gj ok (i:Int)with⟨c1,c2⟩|⟨n,d,b,I,c1,c2,c3,c4,c5⟩
    .rw[c1]at y;cases y
    have I:i=n:=n3
    subst I;obtain⟨x8,O,f⟩:=Nl ok X i c1;rw[c4]at f;injection f with f
    subst f;refine⟨a,n2,⟨n3,n3⟩,cO b,by rw[qj];exact O,?_⟩;obtain⟨b',j,H5⟩:=Qw.aa.fy u c2;rw[c4]at j;injection j with j
    injection j with j
    subst j;refine(SD H5).I1 λZ V=>?_;have A:=Qw.aa.kR (k:=bD) (n:=i) c4 V;have es:fC J F (i:Int)=((d.sync J).1,(d.sync J).2.1,F.set i (cO (d.sync J).2.2)):=by unfold fC;rw[c3];simp only[iG,qj]
    have R:=N.sync J (i:Int);obtain⟨c,o⟩:=I3 (fC J F (i:Int))
    rw[<-o]at l es R;have A:aa B h0 Z (aJ bD a pw mc offs da c.2.1 c.2.2::aj g 205 (pd L)::As):=by rw[es];exact A
    have q:(d.sync J).1=c.1:=by rw[es]
    rw[q];refine⟨_,n2,bt (λe3=>?_) λe3=>?_⟩
    .rw[m6 e3]at l;rw[l];exact⟨n2,A.nF⟩
    .rw[l0 e3]at l;exact⟨(i+1,c.2.1,c.2.2),n8,⟨n5,R,l,A.aF 2 [1,0]⟩,n5⟩
  .have:i=64:=n3
   subst this;rw[KD]at l;rw[l];exact⟨n2,G.nE⟩
theorem Ad(x:aY)(m:aA)(s:Sl)(d:aD)(hX:St B h0 As λh=>cj h x m/\Rd h s 1 aq d)(V:bG m)(ap:n1 d<=2^10)(hh:Has ds d)(H:aa B h0 h (aJ bD a pw mc offs da w ds::As)):
  an xZ 65 #[xR (cO a),cu x,s] h λv h'=>v=xP xV (layAll (bo m d) w ds).1/\aa B h0 h' (aJ bD a pw mc offs da (layAll (bo m d) w ds).2.1 (layAll (bo m d) w ds).2.2::As):=by
 refine ts Tryz.func65 ?_ (G7 (G7 (E8 (G7 (F8 (G0 [(7,bN),(14,aH)] [(7,8),(9,10),(11,12),(14,33)] (G7 (G7 (E8 (F8 (G7 (G7 (F8 (G0 [(7,bN),(21,aH)] [(7,8),(11,12),(21,32)] E9))))) E9)))))) E9))) (args:=[(cO a),x,s]);refine H.boxed λQ h1 J=>?_;have J:aa B h0 h1 (aj Q 27 (az x)::aJ bD a pw mc offs da w ds::As):=J.bf;have J:aa B h0 h1 (Hs []::aj Q 27 (az x)::aJ bD a pw mc offs da w ds::As):=(J.comp (.one (A:=Hs []) (aP.refl _ _) λt G=>by cases G)).bf;have J:=(J.nil 146 2 piv).bf;have N:=jB m V;obtain⟨f,F⟩:=I3 (bI m)
 rw[<-F]at N;have ay:=(hX.at [_] H).2.len;refine ak (λt:Sl×Nat×List ((Int×Sl)×(Int×aS))=>(t.1,(t.2.1:Int))) (λt h'=>t.2.1<=n1 d/\t.2.2.map zk=bo m (d.take t.2.1)/\aa B h0 h' (ai 146 t.1 2 piv (t.2.2.map qF)::Hs t.2.2::aj Q 27 (az x)::aJ bD a pw mc offs da w ds::As)) (λt=>n1 d-t.2.1) (⟨dB,0,0⟩,0,[]) n2 ⟨n9,by simp[bo],J⟩ ?_;rintro⟨o,i,p⟩ h2 ⟨hi,g,O⟩;dsimp only at*;have ab:n1 p=i*n1 f:=by
  have:=congrArg List.length g;have e:∀S:aD,(bo m S).length=n1 S*n1 f:=λS=>by
   induction S with
   |nil=>simp[bo]
   |cons n S ih=>
    have e1:bo m (n::S)=(bI m).map (λc=>(n,c))++bo m S:=by unfold bo;rw[zA]
    rw[e1,qq,qp,ih,zc,z7,F,Nat.add_comm]
  rw[e,qp,qB]at this;rw[this,Nat.min_eq_left n3]
 have al:n1 p<=2^10*3000:=by rw[ab];exact zu n3 N
 refine ae (λe=>?_) (λe=>?_)
 .have R:i<n1 d:=n3
  obtain⟨n,hn⟩:=I3 (d[i])
  refine(hX.at [_,_,_,_] O).2.aX i n2 R n (by rw[hn];rfl) ?_;refine⟨x,(O.box 2 n2).aw _ n2,(mg x m h2 (hX.at [_,_,_,_] O).1 V).I2 λr h3 R3=>?_⟩;obtain⟨rs,E⟩:=(O.bV R3).MF λ_=>rfl;rw[<-F]at E;refine⟨r,n2,?_⟩;have F3:=E.dv 0 n2;have a2:=F3.1.len;have ax:=F3.2.1;obtain⟨T,U⟩:∃T:List ((Int×Sl)×(Int×aS)),T=(rs.zip f).map λz=>((n,z.1),(n,z.2)):=⟨_,rfl⟩
  have I:n1 T=n1 f:=by rw[U];simp;omega
  have ah:T.map zk=f.map λc=>(n,c):=by
   have V:=List.map_snd_zip (l₁:=rs) (l₂:=f) n3
   conv=>rhs;rw[<-V]
   rw[U];simp[vf,Function.comp_def]
  have Y:∀j (hj:j<n1 f),T[j]'(by rw[I];exact hj)=((n,rs[j]'n3),(n,f[j])):=λj hj=>by subst U;simp
  refine ak (λt:Sl×Nat=>(t.1,(t.2:Int))) (λt h'=>t.2<=n1 f/\aa B h0 h' (cy (iJ 1 ar) 1 bv r rs f::ai 146 t.1 2 piv (p.map qF++(T.take t.2).map qF)::Hs p::aj Q 27 (az x)::aJ bD a pw mc offs da w ds::As)) (λt=>n1 f-t.2) (o,0) n2 ⟨n9,by simpa using E⟩ ?_;rintro⟨u,j⟩ h4 ⟨hj,M⟩;dsimp only at*;refine ae (λe2=>?_) (λe2=>?_)
  .have P:j<n1 f:=n3
   refine(M.dv 0 n2).1.lm j n2 n3 ?_;refine M.push af 1 n2 ZK n2 n4 (λ_=>rfl) sX (n,rs[j]'n3) n2 n4 (by simp only[qq,qp,qB];omega) λu' h5 H5=>?_;refine⟨(u',j+1),n8,⟨n5,?_⟩,n5⟩
   try dsimp only
   rw[aC T j (by rw[I];exact P),qG,Y _ P,<-qo];exact H5
  .have ao:j=n1 f:=n3
   subst ao;rw[qh (l:=T) (by rw[I];exact qk _),<-qG]at M;have H5:=M.merge 2 0 n4 n2 n2 (D:=Hs (p++T)) (λq1 q2 _ p1 p2 t G=>by
    rcases qu.1 G with G|G
    .exact dZ.mono (p1 t G) λ_ hb=>.inl hb
    .rw[U]at G;obtain⟨z,am,rfl⟩:=qI.1 G;obtain⟨k,hk⟩:=List.mem_iff_getElem?.1 am;have K:=hk;rw[List.getElem?_zip_eq_some]at K;exact⟨n2,Seq.mono (p2.2.2 k z.1 z.2 K.1 K.2) λ_ hb=>.inr hb⟩)
   refine⟨(u,i+1,p++T),n8,⟨n5,?_,H5.nE⟩,n5⟩
   try dsimp only
   rw[qG,g,ah,aC _ _ R];unfold bo;rw[ze,zA,wB,qR,<-F,hn]
 .have ad:i=n1 d:=n3
  subst ad;rw[qy]at g;have E:=(O.freeze 0 n2 λ_=>rfl).jW;have E:aa B h0 h2 (cy dZ 2 piv o (p.map qF) (bo m d)::aj Q 27 (az x)::aJ bD a pw mc offs da w ds::As):=E.dG 0 n2 λq ⟨q1,q2,_,b,c,z1,z2⟩=>by
   rw[<-g];refine⟨Seq.mono z2 c,n9,λj r' l' L W=>?_⟩;rw[qP]at L W;cases g3:p[j]? with
   |none=>rw[g3]at L;cases L
   |some t=>
    rw[g3]at L W;simp at L W;subst L;subst W;exact dZ.mono (z1 t (zN g3)) b
  have E:=E.aF 3 [2,0,1];have a0:(bo m d).length<=2^10*3000:=by rw[<-g,qp];exact al
  refine(Kc o (p.map qF) (bo m d) (St.dN 0 n2 λ_ hq=>hq) n3 (λy X=>?_) ⟨hh.1,λy X=>?_⟩ E).mono ?_
  .rw[(me X).2];decide
  .obtain⟨z,Z,rfl⟩:=qI.1 X;exact hh.2 _ (me Z).1
  rintro _ h4 ⟨rfl,M⟩;exact⟨_,n2,n2,M.nF.nF⟩
theorem Ht(s:Sl)(l:aD)(F:Rd h s 1 aq l)(U:n1 l<=2^30)(D:∀x∈l,0<=x/\x<64)(H:aa B h0 h (aJ bD a pw mc offs da w ds::As)):
  an xZ 60 #[xR (cO a),s] h λv h'=>∃r:Sl,v=r/\Sp h h' [ai 3 r 1 aq (bn ds l)]:=by
 refine ts Tryz.func60 ?_ (G7 (G7 (Hf [(5,bN),(10,aH)] [(5,6),(7,8),(10,38)])));have M:=F.len;refine ak (λt:Sl×Nat=>(t.1,(t.2:Int))) (λt h'=>t.2<=n1 l/\Sp h h' [ai 3 t.1 1 aq (bn ds (l.take t.2))]) (λt=>n1 l-t.2) (⟨dB,0,0⟩,0) n2 ⟨n9,by simpa[bn]using(Sp.refl h).nil 3 1 aq⟩ ?_;rintro⟨o,i⟩ S ⟨W,q⟩;dsimp only at*;refine ae (λe=>?_) (λe=>?_)
 .have j:i<n1 l:=n3
  have c:bn ds (l.take (i+1))=bn ds (l.take i)++(if isLive ds l[i]then[l[i]]else[]):=by unfold bn;rw[aC _ _ j,zm,zE,w9]
  have O:(bn ds (l.take i)).length<=n1 l:=by have:=qO (isLive ds) (l.take i);unfold bn;simp at this⊢;omega
  have next:∀{h':hY} {k:Sl},Sp h h' [ai 3 k 1 aq (bn ds (l.take (i+1)))]->∃u:Sl×Nat,((⟨k.ptr,k.len,k.cap⟩:Sl),qe xV ((i:Int)+1))=(u.1,(u.2:Int))/\(u.2<=n1 l/\Sp h h' [ai 3 u.1 1 aq (bn ds (l.take u.2))])/\l.length-u.2<n1 l-i:=λ{h' k} H'=>
   ⟨(k,i+1),n8,⟨n5,H'⟩,n5⟩
  refine(Seq.up F q.ac).aX i n2 j l[i] n2 ?_;have Q:=D _ (qf j);have I:=aa.up H q.ac;obtain⟨ok,N⟩:=aa.cK I;obtain⟨n,K⟩:∃n:Nat,l[i]=(n:Int):=⟨l[i].toNat,n3⟩
  have z:n<64:=n3
  obtain⟨p,y,m⟩:=Nl ok N n z;rw[K]at c⊢;refine⟨a,n2,⟨n3,n3⟩,p,by rw[qj];exact y,?_⟩;rcases gj ok (n:Int)with⟨c1,c2⟩|⟨n',d,b,G,c1,c2,c3,c4,c5⟩
  .have E:p=dB:=by unfold dj at c2;rw[l0 n3,qj,m]at c2;exact c2
   subst E;have g:isLive ds (n:Int)=eL:=by unfold isLive;rw[c1]
   rw[g]at c;exact aU (λe=>oj) λ_=>next (by rw[c];simpa using q)
  .have G:n=n':=n3
   subst G;rw[m]at c4;injection c4 with c4
   subst c4;have g:isLive ds (n:Int)=!d.lost:=by unfold isLive;rw[c3]
   obtain⟨R,f,L⟩:=Qw.aa.fy I c2;rw[m]at f;injection f with f
   injection f with f
   subst f;obtain⟨_,T,V,A,_,_⟩:=ij.box L;refine aU (λ_=>?_) λe=>oj
   refine⟨a,n2,⟨n3,n3⟩,cO b,by rw[qj];exact y,b,n2,d.lost,A.cell n2,aI (λe=>?_) λe=>?_⟩
   .rw[g,e]at c;refine q.push af 0 n2 eK n2 n4 (λ_=>rfl) cP (n:Int) n2 n4 n3 λk P J=>next ?_
    rw[c];exact J
   .rw[g,e]at c;exact next (by rw[c];simpa using q)
 .rw[qh n3]at q;exact⟨o,n2,q⟩
end
def iN(p:Pm)(a:Int)(l:aD):Int:=
 if(dL l).2&&(bJ p&&dP a 0 16)then
  if(bi l l.length).any λi=>decide (l.getD i.toNat 0<((bI (cv p a l)).length:Int))then 7 else 0
 else 1
theorem sM(p:Pm)(a:Int)(w:Pow)(l:aD):cY p a w l=if iN p a l=0 then layAll (bo (cv p a l) (bi l l.length)) w (fL l (bi l l.length).length)else(iN p a l,w,[]):=by
 unfold cY iN;by_cases h:((dL l).2&&(bJ p&&dP a 0 16))=eH
 .rw[l0 h,l0 h];by_cases b:((bi l l.length).any λi=>decide (l.getD i.toNat 0<((bI (cv p a l)).length:Int)))=eH
  .rw[l0 b,l0 b];rfl
  .rw[m6 b,m6 b];rfl
 .rw[m6 h,m6 h];rfl
theorem Bz{p:Pm}{a:Int}{l:aD}(h:iN p a l=0):bJ p=eH/\0<=a/\a<=16/\(dL l).2=eH/\((bi l l.length).any λi=>decide (l.getD i.toNat 0<((bI (cv p a l)).length:Int)))=eL:=by
 unfold iN at h;by_cases b:((dL l).2&&(bJ p&&dP a 0 16))=eH
 .rw[l0 b]at h;by_cases c:((bi l l.length).any λi=>decide (l.getD i.toNat 0<((bI (cv p a l)).length:Int)))=eH
  .rw[l0 c]at h;cases h
  .unfold dP at b;simp only[qC,decide_eq_true_eq]at b;exact⟨b.2.1,b.2.2.1,b.2.2.2,b.1,D5⟩
 .rw[m6 b]at h;cases h
abbrev rn:aY:=(0,0,0,0,0,0,⟨dB,0,0⟩,⟨dB,0,0⟩)
theorem Hu(p:Pm)(a:Int)(s:Sl)(l:aD)(h:hY)(T:Rd h s 1 aq l)(hl:n1 l<=2^20):
  an xZ 79 #[gr p,xP xV a,s] h λv h'=>∃y:aY,v=.tuple #[cu y,xP xV (iN p a l)]/\(iN p a l≠0->Sp h h' [])/\(iN p a l=0->Sp h h' [be y (cv p a l)]):=by
 refine ts Tryz.func79 ?_ (G7 (HF [] [(7,8),(13,30)] (G7 (E8 (G7 (F8 (G0 [(35,aH)] [(7,8),(9,11),(35,56)] (G7 (G7 (E8 (F8 (G7 (HF [] [(7,8),(40,47)] E9))) E9)))))) (G7 (Hf [(64,aH)] [(7,8),(12,13),(64,78)])))))) (args:=[p,(a:Int),s]);have al:=T.len;refine(Sp.refl h).boxed λa1 h1 H1=>?_;refine H1.alloc af n2 λB h2 Q=>?_;have Q:Sp h h2 [aj a1 24 [xP xV p.1,xP xV p.2.1,xP xV p.2.2],aj B 27 (az rn)]:=Q;have f:∀(e:Int) {h':hY} {Bs:List HP},Sp h h' (aj B 27 (az rn)::Bs)->iN p a l=e->e≠0->
   av xZ (qL 27 (xR (cO B)) (cu rn)) h' λ_ M=>∃J:aY,bA M B 0 (az J)/\∃y:aY,Value.tuple #[cu J,xP xV e]=.tuple #[cu y,xP xV (iN p a l)]/\(iN p a l≠0->Sp h M [])/\(iN p a l=0->Sp h M [be y (cv p a l)]):=λe {h' Bs} H' he h0=>by
  refine H'.storeAll af 0 n2 n2 (az rn) n2 n2 n2 n2 λM R=>?_;exact⟨rn,(R.box 0 n2).aw _ n2,rn,by rw[he],λ_=>.zip R.ac,λD=>absurd (he.symm.trans D) h0⟩
 have E:((dL l).2&&(bJ p&&dP a 0 16))=eL->iN p a l=1:=λD=>by unfold iN;rw[D];rfl
 refine aE ⟨p,(Q.box 0 n2).aw _ n2,(dV p h2).I1 λh3 R3=>?_⟩;have G:Sp h h3 [aj B 27 (az rn),aj a1 24 [xP xV p.1,xP xV p.2.1,xP xV p.2.2]]:=(Q.up R3.ac).bs [1,0];refine⟨_,n2,aI (λb=>f 1 G (E (by rw[b];simp)) n4) λb1=>ae (λb=>f 1 G (E sL) n4) λb2=>ae (λb=>f 1 G (E sL) n4) λb3=>ae (λb=>f 1 G (E ?_) n4) λb4=>?_⟩
 .have:(dL l).2=eL:=by
   unfold dL;by_cases D:l.all (dP · 0 512)=eH
   .rw[l0 D];simp;omega
   .rw[m6 D]
  rw[this];rfl
 have k:n1 l<=64:=n3
 refine⟨p,(G.box 1 n2).aw _ n2,?_⟩;refine G.alloc af n2 λz M R=>?_;refine R.storeAll af 2 n2 n2 (az (1,0,p.1,p.2.1,p.2.2,a,⟨dB,0,0⟩,⟨dB,0,0⟩)) n2 n2 n2 n2 λh5 H5=>?_;have H5:Sp h h5 [aj B 27 (az rn),aj z 27 (az (1,0,p.1,p.2.1,p.2.2,a,⟨dB,0,0⟩,⟨dB,0,0⟩)),ai 3 ⟨dB,0,0⟩ 1 aq (bi l 0)]:=(H5.nil 3 1 aq).bs [0,2,3];refine ak (λt:Sl×Nat=>(t.2:Int)) (λt h'=>t.2<=n1 l/\(l.take t.2).all (dP · 0 512)=eH/\Sp h h' [aj B 27 (az rn),aj z 27 (az (1,0,p.1,p.2.1,p.2.2,a,t.1,⟨dB,0,0⟩)),ai 3 t.1 1 aq (bi l t.2)]) (λt=>n1 l-t.2) (⟨dB,0,0⟩,0) n2 ⟨n9,n9,H5⟩ ?_;rintro⟨o,i⟩ h6 ⟨hi,d,g⟩;dsimp only at*;have A:∀(c:i<n1 l),dP l[i] 0 512=eL->iN p a l=1:=λc hb=>E (by
  have:(dL l).2=eL:=by unfold dL;rw[m6];intro Z;have:=qU.1 Z _ (qf c);rw[hb]at this;cases this
  rw[this];rfl)
 refine ae (λe=>?_) (λe=>?_)
 .have c:i<n1 l:=n3
  have ad:=ly l i;refine(Seq.up T g.ac).aX i n2 c l[i] n2 ?_;refine aE (ae (λE=>f 1 g (A c sL) n4) λE=>ae (λe2=>f 1 g (A c sL) n4) λe2=>?_);have r:(l.take (i+1)).all (dP · 0 512)=eH:=by rw[aC l i c,List.all_append,d,wj,List.all_cons,List.all_nil,Bool.and_true];unfold dP;simp;omega
  refine ae (λe3=>?_) (λe3=>?_)
  .refine⟨o,(g.box 1 n2).cell n2,?_⟩;refine g.push af 2 n2 eK n2 n4 (λ_=>rfl) cP (i:Int) n2 n4 n3 λo' h7 w=>?_;refine w.storeAt af 1 n2 n2 n2 n2 n2 (by simp[az]) λh8 S=>?_;refine⟨(o',i+1),n8,⟨n5,r,?_⟩,n5⟩
   try dsimp only
   rw[nJ l i c,l0 n3];exact S
  .refine⟨(o,i+1),n8,⟨n5,r,?_⟩,n5⟩
   try dsimp only
   rw[nJ l i c,m6 n3,qR];exact g
 .have U:i=n1 l:=n3
  subst U;rw[qy]at d;have W:=(g.own 2 n2).len;have hp:dL l=(bi l l.length,decide (n1 l<=64)&&decide (0<(bi l l.length).length)):=by unfold dL;rw[l0 d]
  refine⟨o,(g.box 1 n2).cell n2,aV (λb=>f 1 g (E ?_) n4) λb=>?_⟩
  .rw[hp]
   try dsimp only
   rw[nb (show¬0<(bi l l.length).length by omega),vx];rfl
  have H:((dL l).2&&(bJ p&&dP a 0 16))=eH:=by rw[hp,b1,m9 k,m9 (show 0<(bi l l.length).length by omega)];unfold dP;simp;omega
  obtain⟨m,L⟩:=I3 (cv p a l)
  obtain⟨P,F⟩:=I3 (bi l l.length)
  have hz:bG m:=L▸sK p a l k;have ao:n1 P<=64:=by rw[F];exact q7 (ly _ _) k
  obtain⟨x,X⟩:∃x:aY,x=(1,0,p.1,p.2.1,p.2.2,a,o,⟨dB,0,0⟩):=⟨_,rfl⟩
  rw[<-X,<-F]at g;rw[<-F]at W;have I:∀{h':hY} {q:au},Seq h' q o 1 aq P->o.len<=o.cap->kX h' q x m:=λ{h' q} K Z=>by
   subst X;subst L;exact⟨n2,n2,n2,n2,by show Seq _ _ o 1 aq (bi l l.length);rw[<-F];exact K,bW.nil _ _ _ _,Z,qk _⟩
  have V:hU h6 (z.add 6)=cO (xQ o.ptr o.len o.cap):=by have:=(g.box 1 n2).cell (j:=6) (v:=xQ o.ptr o.len o.cap) (by rw[X];rfl);exact this
  refine⟨o,V,?_⟩;refine ak (λi:Nat=>(i:Int)) (λi h'=>i<=n1 P/\((P.take i).any λi=>decide (l.getD i.toNat 0<((bI m).length:Int)))=eL/\Sp h h' [aj B 27 (az rn),aj z 27 (az x),ai 3 o 1 aq P]) (λi=>n1 P-i) 0 n2 ⟨n3,n9,g⟩ ?_;rintro i h7 ⟨hi,d,w⟩;dsimp only at*;refine ae (λe5=>?_) (λe5=>?_)
  .have c:i<n1 P:=n3
   obtain⟨n,hn,en,ab⟩:∃n:Nat,n<n1 l/\P[i]=(n:Int)/\0<l.getD n 0:=by subst F;exact ww l l.length i c
   refine(w.seq 2 n2 λ_=>rfl).aX i n2 c (n:Int) E6 ?_;refine(Seq.up T w.ac).nD n n2 hn (l.getD n 0) (by rw[getD_lt hn];rfl) λam O=>?_;refine⟨x,(w.box 1 n2).aw _ n2,(mg x m h7 (I (w.seq 2 n2 λ_=>rfl) (w.own 2 n2).cap) hz).I2 λu h9 R9=>?_⟩;have N:=w.bV R9;have ah:=(aa.lI N).1;refine⟨u,n2,gI R9.ac ⟨O,I4⟩,?_⟩;refine ae (λe6=>f 7 N.nE ?_ n4) (λe6=>?_)
   .unfold iN;rw[l0 H,<-F,<-L,l0 (zW.2 ⟨P[i],qf c,by rw[en,qj];exact m9 n3⟩)]
   .refine⟨i+1,oi,⟨n3,?_,N.nE⟩,n3⟩;rw[aC _ _ c,yl,d,yw,vJ,xf,vj,en,qj];exact nb n3
  .have Y:i=n1 P:=n3
   subst Y;rw[qy]at d;refine⟨x,(w.box 1 n2).aw _ n2,?_⟩;refine w.storeAll af 0 n2 n2 (az x) n2 n2 n2 n2 λh8 S=>?_;have h0:iN p a l=0:=by unfold iN;rw[l0 H,<-F,<-L,d];rfl
   refine⟨x,(S.box 0 n2).aw _ n2,x,by rw[h0],λD=>absurd h0 D,λ_=>?_⟩;rw[<-L];have N:Sp h h8 [ai 3 o 1 aq P]:=S.bs [2];exact N.dG 0 n2 λq K=>I (K.1.seq (λ_=>rfl) K.2) K.1.cap
end Go.Qw
