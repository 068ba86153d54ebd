/- Lemmas for the proof of the law; no condition. -/
import Derived.Test.YtmobnmonkaacaaaGreatDoorDKA
import Derived.Test.YtmobnmonkaacaaaGreatDoorDShelfB
set_option maxHeartbeats 2000000
set_option linter.unusedVariables false
set_option maxHeartbeats 2000000
set_option linter.unusedSimpArgs false
open Go.Proofs.Tryz renaming prog -> xT
open List renaming contains_eq_mem -> vp, find?_some -> vD, mem_iff_getElem -> vn, pairwise_map -> vh, range -> qy, replicate -> qf, zipWith -> zj, zipWith_append -> vy
open Go.Value renaming agg -> xO, bool -> xN, int -> xJ, pointer -> xL, slice -> xK, string -> xM
open Go.IntKind renaming bits -> qq, i64 -> xP, signed -> yC, u32 -> xR, u64 -> xS, u8 -> xQ, wrap -> qd
open Bool renaming eq_false_iff -> vW
open Nat renaming lt_trichotomy -> vR
open Int renaming fdiv -> zp, tmod -> xB
open Option renaming some -> z8
open Go.Instr renaming storeAt -> qG
open Prod renaming fst -> qC, snd -> zg
open BitVec renaming ofInt -> qF, ofNat -> yL
open UInt8 renaming lt_iff_toNat_lt -> wW
set_option maxRecDepth 100000
open Option renaming some -> dB, none -> eH
open Bool renaming true -> eL, false -> eR
open Go renaming Addr -> fY
open Go.Qw renaming cellOf -> hU, Heap -> hY
open List renaming length -> m8
open Go.Qw.bU renaming two -> E5, n -> E6, inn -> E7, loop -> E8, join -> E9, tn -> F8, lp -> F9, jn -> G0
namespace Go.Qw
open Go.Proofs
theorem Hr(p:Pm)(h:hY):aj xT 247 #[gx p] h λv h'=>∃r:Sl,v=r/\Sp h h' [ai 3 r 1 av (upto (max 0 (min p.1 16)).toNat)]:=by
 refine ts Tryz.func247 ?_ (F8 (F8 (F9 [(3,bJ),(9,aI)] [(3,5),(9,17)]))) (args:=[p]);refine(Sp.refl h).boxed λa o c=>?_;refine⟨p.1,(c.box 0 m9).cell0 m9,?_⟩;have em:(if(if(16:Int)<p.1 then(16:Int)else p.1)>(0:Int)then(if(16:Int)<p.1 then(16:Int)else p.1)else(0:Int))=((max 0 (min p.1 16)).toNat:Int):=by split<;>split<;>omega
 try dsimp only
 rw[em];generalize u:(max 0 (min p.1 16)).toNat=N;have f:N<=16:=nb
 refine ak (λt:Sl×Nat=>(t.1,(t.2:Int))) (λt h'=>t.2<=N/\Sp h h' [emp,ai 3 t.1 1 av (upto t.2)]) (λt=>N-t.2) (⟨eH,0,0⟩,0) m9 ⟨n4,(c.dY 0 m9 λ_ _=>trivial).nil 3 1 av⟩ ?_;rintro⟨s,k⟩ q ⟨m,b⟩;dsimp only at*;refine ae (λe=>?_) (λe=>?_)
 .refine b.push ag 1 m9 ge m9 nq (λ_=>rfl) dt (k:Int) m9 nq Bk λg h3 l=>?_;refine⟨(g,k+1),n3,⟨n1,?_⟩,n1⟩;have j:upto (k+1)=upto k++[(k:Int)]:=by simp[upto,zC]
  dsimp only;rw[j];exact l
 .have:k=N:=nb
  subst this;exact⟨s,m9,b.take 1 λi A d=>by cases i with|zero=>exact d|succ i=>simp at d⟩
theorem Fc(p:Pm)(seed:Int)(f:Sl)(l:aC)(h:hY)(y:Rd h f 1 av l)(M:m8 l<=2^30):aj xT 246 #[gx p,xJ xR seed,f] h λv h'=>∃r:Sl,v=r/\Sp h h' [dE 41 r 1 aq (eM p seed l)]:=by
 refine ts Tryz.func246 ?_ (F8 (F8 (F9 [(7,bJ),(15,aI)] [(7,8),(9,11),(15,30)]))) (args:=[p,(xJ xR (seed:Int)),f]);refine(Sp.refl h).boxed λa D E=>?_;refine⟨p,(E.box 0 m9).aw _ m9,(Cr p D).mono ?_⟩;rintro v J ⟨r,rfl,K⟩;have z:=E.comp K;refine⟨r,m9,?_⟩;have B:=y.len;let at_:Nat->dT:=λk=>eM p seed (l.take k);have h0:(if bH p then bA p.1.toNat p.2.1.toNat else[])=at_ 0:=by simp[at_,eM]
 rw[h0]at z;refine ak (λt:Sl×Nat=>(t.1,(t.2:Int))) (λt h'=>t.2<=m8 l/\Sp h h' [an a 24 [xJ xP p.1,xJ xP p.2.1,xJ xP p.2.2],dE 41 t.1 1 aq (at_ t.2)]) (λt=>m8 l-t.2) (r,0) m9 ⟨n4,z⟩ ?_;rintro⟨s,k⟩ h3 ⟨O,o⟩;dsimp only at*;refine ae (λe=>?_) (λe=>?_)
 .have d:k<m8 l:=nb
  refine(Seq.up y o.ac).aW k m9 d _ m9 ?_;refine⟨p,(o.box 0 m9).aw _ m9,(Yr p seed l[k] h3).Hf λw P ⟨G,c⟩=>?_⟩;have u:=(o.comp G).freeze 2 m9 λ_=>rfl;refine⟨w,m9,?_⟩;have q:(at_ k).length<=4+k∨at_ k=[]:=by
   by_cases x:bH p
   .left;have:=(bI p).1 x;have D:=qK bR (l.take k);have J:=List.length_take_le k l;simp only[at_,eM,x,if_true,qo,qn,bA,zL];omega
   .right;simp[at_,eM,x]
  have j:(at_ k).length+1<=2^32:=by
   rcases q with h|h
   .omega
   .rw[h];simp
  try dsimp only
  refine aH (λg=>?_) (λg=>?_)
  .rw[c]at g;have b:(bH p&&bR l[k])=eL:=C7
   rw[b,hZ rfl]at u;refine u.jM ag 1 2 nq m9 m9 cO j λH N L=>?_;refine⟨(H,k+1),n3,⟨n1,?_⟩,n1⟩;rw[qz]at b;have m:at_ (k+1)=at_ k++[pO (bD p).toNat seed l[k]]:=by simp only[at_,eM,b.1,if_true];rw[tZ d,hZ b.2,qE,ql];rfl
   try dsimp only
   rw[m];exact L.del 2
  .rw[c]at g;have b:(bH p&&bR l[k])=eR:=by
    cases hh:(bH p&&bR l[k])with
    |false=>rfl
    |true=>rw[hh]at g;cases g
   refine⟨(s,k+1),n3,⟨n1,?_⟩,n1⟩;have m:at_ (k+1)=at_ k:=by
    simp only[at_,eM];rw[Bool.and_eq_false_iff]at b;rcases b with h|h
    .simp[h]
    .have I:(l.take (k+1)).filter bR=(l.take k).filter bR:=by rw[tZ d,k4 (by simp[h])]
     rw[I]
   try dsimp only
   rw[m];exact u.del 2
 .refine⟨s,m9,?_⟩;have m:at_ k=eM p seed l:=by simp only[at_];rw[qh nb]
  rw[m]at o;exact o.take 1 (λi A F=>by cases i with|zero=>exact F|succ i=>simp at F)
theorem mU(a:Sl)(m:aO)(n:Nat)(h:hY)(d:eF h a 1 aq m)(f:aU n m)(q:n<=64:=by omega)(s:m8 m<=2^30:=by omega):aj xT 294 #[a] h λv h'=>v=xN eL/\h'=h:=by
 refine ts Tryz.func294 ?_ (F8 (F9 [(7,aI)] [(2,3),(4,5),(7,24)]));have l:=d.len;refine ak (λk:Nat=>(k:Int)) (λk h'=>h'=h/\k<=m8 m) (λk=>m8 m-k) 0 m9 ⟨m9,nb⟩ ?_;rintro k h' ⟨rfl,o⟩;refine ae (λe=>?_) λe=>⟨m9,m9⟩;have c:k<m8 m:=nb
 refine d.get k m9 c λr i=>?_;refine d.get 0 m9 nb λp b=>?_;have g:=i.len;have j:=b.len;rw[f _ (qe _)]at g j;refine bm (λe=>nb) λ_=>ae (λe=>nb) λ_=>?_;exact⟨k+1,n7,⟨m9,nb⟩,nb⟩
theorem uw(a:Sl)(m:aO)(n:Nat)(h:hY)(d:eF h a 1 aq m)(j:aU n m)(A:n<=64:=by omega)(E:m8 m<=2^30:=by omega):aj xT 296 #[a] h λv h'=>∃(r:Sl) (rs:List Sl),v=r/\rs.length=m8 m/\Sp h h' (ai 41 r 1 bv rs::bt 5 1 aq rs m):=by
 refine ts Tryz.func296 ?_ (F8 (F8 (F9 [(3,bJ),(11,aI)] [(3,4),(5,6),(11,21)])));have y:=d.len;refine(Sp.refl h).make ag bv cO nq ⟨eH,0,0⟩ m9 m9 0 m.length m9 nb nb nb λs B u D q=>?_;refine ak (λt:Sl×List Sl=>(t.1,(m8 t.2:Int))) (λt h'=>m8 t.2<=m8 m/\Sp h h' (ai 41 t.1 1 bv t.2::bt 5 1 aq t.2 (m.take t.2.length))) (λt=>m8 m-m8 t.2) (s,[]) m9 ⟨n4,by simpa[bt]using q⟩ ?_;rintro⟨s,rs⟩ p ⟨z,c⟩;dsimp only at*;refine ae (λe=>?_) (λe=>?_)
 .have b:m8 rs<m8 m:=nb
  refine(d.up c.ac).get rs.length m9 b λr l=>?_;have g:m[m8 rs].length=n:=j _ (qe _);refine(fW r _ p l).Hf λw h3 f=>?_;have x:=c.comp f;refine⟨w,m9,?_⟩;refine x.push ag 0 m9 cO m9 nq (λ_=>rfl) jQ w m9 nq nb λk F i=>?_;refine⟨(k,rs++[w]),by dsimp only;rw[af _];simp,⟨n2,?_⟩,n2⟩
  try dsimp only
  rw[show(rs++[w]).length=m8 rs+1 by simp,aA _ _ b,oP p8];exact i
 .have o:m.take rs.length=m:=qh nb;rw[o]at c;exact⟨s,rs,m9,nb,c⟩
theorem pX(a:Sl)(m:aO)(h:hY)(b:eF h a 1 aq m):aj xT 295 #[a] h λv h'=>v=xJ xP (eI m)/\h'=h:=by
 refine ts Tryz.func295 ?_;have d:=b.len;refine aZ (λe=>?_) (λe=>?_)
 .have:m=[]:=qR nb;subst this;exact⟨m9,m9⟩
 .refine b.get 0 m9 nb λr c=>⟨?_,m9⟩
  rw[c.len,eI,be nb]
theorem mq{r:Row}{c:Nat}(h:c<m8 r:=by omega):aM r c=r[c]:=by rw[aM,qg,qc h];rfl
theorem OX(a:Sl)(m:aO)(n b aV:Nat)(h:hY)(q:eF h a 1 aq m)(t:aU n m)(y:aV<n)(z:m8 m<=2^30):
  aj xT 344 #[a,xJ xP b,xJ xP aV] h λv h'=>v=xJ xP (match fB m b aV with|some i=>(i:Int)|none=>-1)/\h'=h:=by
 refine ts Tryz.func344 ?_ (F8 (.scope 0 [(7,aI)] [(6,8),(9,24)] [E6] [E6] [(1,[E6])]));have x:=q.len;refine ak (λk:Nat=>(k:Int)) (λk h'=>h'=h/\b<=k/\k<=max b m.length/\∀j,j<k->(decide (b<=j)&&(aM (az m j) aV !=0))=eR) (λk=>m8 m-k) b m9 ⟨m9,nb,nb,λj g=>by rw[m5 nb];rfl⟩ ?_;rintro k h' ⟨rfl,p,w,g⟩;refine ae (λe=>?_) (λe=>?_)
 .rw[fB,GO λj f=>g j nb];exact⟨m9,m9⟩
 .have d:k<m8 m:=nb
  have s:m[k].length=n:=t _ (qe _);refine q.get k m9 d λr u=>?_;refine u.aW aV m9 nb _ m9 ?_;have c:aM (az m k) aV=m[k][aV]'nb:=by rw[be d,mq]
  refine bm (λo=>?_) (λo=>?_)
  .have l:(decide (b<=k)&&(aM (az m k) aV !=0))=eL:=by rw[ln p,c];simp;exactλh0=>o (by rw[h0];rfl)
   rw[fB,Se d g l];exact⟨m9,m9⟩
  .refine⟨k+1,n7,⟨m9,nb,nb,λj f=>?_⟩,nb⟩;rcases Nat.lt_succ_iff_lt_or_eq.1 f with h1|rfl
   .exact g j h1
   .rw[c,nA.1 o];simp
theorem SO(f:fY)(c:UInt8)(a:Sl)(l:Row)(h:hY)(j:io h f)(m:Rd h a 1 aq l)(A:m8 l<=2^30):aj xT 345 #[xL (dB f),xJ xQ c.toNat,a] h λv h'=>∃r:Sl,v=r/\Sp h h' [ai 5 r 1 aq (scaleB c l)]:=by
 refine ts Tryz.func345 ?_ (F8 (F8 (F8 (F9 [(17,aI)] [(8,10),(17,30)]))));have u:=m.len;refine(KF f h).mono ?_;rintro v i ⟨rfl,rfl⟩;refine⟨dB f,m9,?_⟩;refine(Sp.refl i).make ag aq cR nq 0 m9 m9 l.length l.length nb nb (qj _) nb λs y q z o=>?_;refine ak (λk:Nat=>(k:Int)) (λk h'=>k<=m8 l/\Sp i h' [ai 5 s 1 aq ((l.take k).map (Gf.mul c)++qf (m8 l-k) 0)]) (λk=>m8 l-k) 0 m9 ⟨nb,B3⟩ ?_;rintro k h3 ⟨x,d⟩;refine ae (λe=>?_) (λe=>?_)
 .have b:k<m8 l:=nb
  refine(Seq.up m d.ac).aW k m9 b _ m9 ?_;refine(Gc f c l[k] h3 (j.ac d.ac j.lt)).G6 ⟨_,m9,?_⟩;refine d.set ag 0 m9 (λ_=>rfl) m9 k m9 n2 _ m9 m9 m9 λw t=>?_;refine⟨k+1,n7,⟨nb,?_⟩,nb⟩;have g:((l.take k).map (Gf.mul c)).length=k:=n2
  have p:((l.take k).map (Gf.mul c)++qf (m8 l-k) 0).set k (Gf.mul c l[k])=(l.take (k+1)).map (Gf.mul c)++qf (m8 l-(k+1)) 0:=by rw[qZ _ _ nb,g,zd,show l.length-k=m8 l-(k+1)+1 by omega,List.replicate_succ,zt,aA _ _ b,qE,ql];rfl
  rw[<-p];exact t
 .have:k=m8 l:=nb
  subst this;refine⟨s,m9,?_⟩;rw[qh (qj _),zd,List.replicate_zero,qL]at d;exact d
theorem ux{c:UInt8}{a t:Row}(e:m8 a=m8 t){k:Nat}(b:k<m8 t):(zj (λx y=>y^^^Gf.mul c x) (a.take k) (t.take k)++t.drop k).set k (t[k]^^^Gf.mul c (a[k]'nb))=zj (λx y=>y^^^Gf.mul c x) (a.take (k+1)) (t.take (k+1))++t.drop (k+1):=by
 have d:(zj (λx y=>y^^^Gf.mul c x) (a.take k) (t.take k)).length=k:=n2
 rw[qZ _ _ nb,d,zd,qT b,zt,aA _ _ b,aA _ _ (show k<m8 a by omega),vy n2];simp
theorem Ys(f:fY)(c:UInt8)(a l:Sl)(d lt:Row)(h:hY)(F:io h f)(u:¬l.on f.block)(D:Seq h (λb=>¬l.on b) a 1 aq d)(s:Own h 5 l 1 aq lt)(m:m8 d=m8 lt)(L:m8 d<=2^30):
  aj xT 347 #[xL (dB f),xJ xQ c.toNat,a,l] h λv h'=>v=.tuple #[]/\Own h' 5 l 1 aq (cN c d lt)/\aQ (λb=>¬l.on b) h h':=by
 refine ts Tryz.func347 ?_ (F8 (F8 (E7 (E8 [(14,aI)] [(8,10),(14,30)] E6))));have J:=D.len;have I:=s.len;refine aZ (λe=>?_) (λ_=>?_)
 .have H:c=0:=nA.1 e;subst H;have:cN 0 d lt=lt:=by apply List.ext_getElem (by rw[cl m]);intro i B G;simp[cN,Gf.zero_mul]
  exact⟨m9,by rw[this];exact s,aQ.refl _ _⟩
 .refine ak (λk:Nat=>(k:Int)) (λk h'=>k<=m8 d/\Own h' 5 l 1 aq (zj (λx y=>y^^^Gf.mul c x) (d.take k) (lt.take k)++lt.drop k)/\aQ (λb=>¬l.on b) h h') (λk=>m8 d-k) 0 m9 ⟨nb,by simpa using s,aQ.refl _ _⟩ ?_;rintro k B ⟨K,g,j⟩;refine ae (λe=>?_) (λe=>?_)
  .have z:k<m8 d:=nb
   have t:k<m8 lt:=nb
   have o:(zj (λx y=>y^^^Gf.mul c x) (d.take k) (lt.take k)).length=k:=n2
   have E:(zj (λx y=>y^^^Gf.mul c x) (d.take k) (lt.take k)++lt.drop k).length=m8 lt:=by rw[qo,o,qH];omega
   refine(D.ac j).aW k m9 z _ m9 ?_;have q:(zj (λx y=>y^^^Gf.mul c x) (d.take k) (lt.take k)++lt.drop k)[k]'nb=lt[k]:=by rw[List.getElem_append_right nb];simp[o]
   refine(g.seq (p:=λ_=>True) (λ_=>rfl) λ_ _=>trivial).nO k m9 nb _ m9 λax r=>?_;rw[q]at r⊢;refine(Gc f c d[k] B (F.ac j u)).G6 ⟨_,m9,⟨r,I0⟩,?_⟩
   try dsimp only
   rw[mi];refine g.set ag (λ_=>rfl) m9 k m9 nb _ m9 m9 m9 λh3 A w _=>⟨I0,?_⟩
   refine⟨k+1,n7,⟨nb,?_,j.trans w⟩,nb⟩;rw[<-ux m t];exact A
  .have:k=m8 d:=nb
   subst this;rw[qh (qj _),qh nb,zh nb,qL]at g;exact⟨m9,g,j⟩
abbrev kX(a:Sl)(rs:List Sl)(m:aO):List HP:=ai 41 a 1 bv rs::bt 5 1 aq rs m
theorem lK{a:Sl}{rs:List Sl}{m:aO}(b:m8 rs=m8 m)(i:Nat)(c:i<m8 m):(kX a rs m)[i+1]?=dB (ai 5 (rs[i]'nb) 1 aq m[i]):=by rw[qO];exact eN b i c
theorem eE{h h':hY}{a:fY}{v:Value}(c:hU h a=dB v)(d:aQ (λb=>b<h.size) h h'):hU h' a=dB v:=d.cell (di c) c
theorem VD{B:ar}{y:hY}{f:fY}(L:io y f)(F:B f.block){a:Sl}{n c aV:Nat}{rs:List Sl}{m:aO}(U:m8 rs=m8 m)(W:aU n m)(hc:aV<n)(hn:n<=64)(Z:c<m8 m)(hs:m8 m<=2^30)
  {h:hY} (H:aa B y h (kX a rs m)) {K:hY->Prop} (hk:∀h',aa B y h' (kX a rs (bN c aV m m.length))->K h'):
 gr (σ:=Int) (λd K4 i=>
 Br (decide (d<((a.len:Nat):Int)))
 (Br (d !=(c:Int))
 (∃x:fY,(a.ptr=dB x/\0<=d/\d<((a.len:Nat):Int))/\
 ∃g:Sl,hU i (x.add (d.toNat*1))=dB (xK g.ptr g.len g.cap)/\
 ∃J:fY,(g.ptr=dB J/\0<=(aV:Int)/\(aV:Int)<((g.len:Nat):Int))/\
 ∃I:Int,hU i (J.add ((aV:Int).toNat*1))=dB (xJ xQ I)/\
 ∃a25:fY,(a.ptr=dB a25/\0<=(c:Int)/\(c:Int)<((a.len:Nat):Int))/\
 ∃l:Sl,hU i (a25.add ((c:Int).toNat*1))=dB (xK l.ptr l.len l.cap)/\
 ∃z:fY,(a.ptr=dB z/\0<=d/\d<((a.len:Nat):Int))/\
 ∃j:Sl,hU i (z.add (d.toNat*1))=dB (xK j.ptr j.len j.cap)/\
 jZ xT 347 #[(xL (dB f)),(xJ xQ I),(xK l.ptr l.len l.cap),(xK j.ptr j.len j.cap)] (.many []) i λ_ G=>
 (bK.ok [(x.add (d.toNat*1),(xK g.ptr g.len g.cap))] G)/\
 K4 (qd xP (d+(1:Int))) G)
 (K4 (qd xP (d+(1:Int))) i))
 (K i)) (0:Int) h:=by
 have ab:a.len=m8 m:=by rw[(H.own 0 m9).len,U]
 refine ak (λk:Nat=>(k:Int)) (λk h'=>k<=m8 m/\aa B y h' (kX a rs (bN c aV m k))) (λk=>m8 m-k) 0 m9 ⟨nb,by rw[ow];exact H⟩ ?_;rintro k X ⟨ad,o⟩;have R:=kS c aV m k;have r:m8 rs=(bN c aV m k).length:=by rw[R];exact U
 refine ae (λe=>?_) (λe=>?_)
 .have w:k<m8 m:=nb
  refine bm (λY=>?_) (λY=>?_)
  .have u:k≠c:=λhh=>Y (by rw[hh]);have S:az (bN c aV m k) k=az m k:=by rw[jm w,k4 nb]
   have P:az (bN c aV m k) c=az m c:=by rw[jm Z,k4 nb]
   have e4:(bN c aV m k)[k]'nb=az m k:=by rw[<-S,be]
   have e5:(bN c aV m k)[c]'nb=az m c:=by rw[<-P,be]
   have s:=lK (a:=a) r k nb;have gt:=lK (a:=a) r c nb;rw[e4]at s;rw[e5]at gt;have lk:=bY W w;have lt:=bY W Z;have q:=o.off (k+1) 0 nb s m9;have t:=q.1.seq (λ_=>rfl) q.2;refine t.dR k m9 nb λa1 O Q=>?_;have T:=o.seq (k+1) s λ_=>rfl;refine T.aW aV m9 nb _ m9 ?_;refine t.dR c m9 nb λ_ _ _=>?_;refine t.dR k m9 nb λ_ _ _=>?_;have E:(Ae (rs[c]'nb) 1 aq (az m c)).p X (λb=>¬(rs[k]'nb).on b):=by have:=o.off (k+1) (c+1) nb s gt;exact(this.1.seq (λ_=>rfl) this.2).mono λb hb=>hb.2
   refine(Ys f _ _ _ (az m c) (az m k) X (L.ac o.ac F) (o.base (k+1) s F) E (o.own (k+1) s) nb nb).G7 λh2 ⟨M,D⟩=>?_;have V:=o.oq (k+1) s D M;have N:=D.cell Q.2 O;refine⟨(),m9,⟨N,I0⟩,?_⟩;refine⟨k+1,n7,⟨nb,?_⟩,nb⟩;rw[kB w u];show aa B y h2 (ai 41 a 1 bv rs::bt 5 1 aq rs ((bN c aV m k).set k _));rw[<-LZ r k nb];have A:(az m k)[aV]'nb=aM (az m k) aV:=(mq).symm;rw[A]at V;exact V
  .have u:k=c:=nb
   subst u;exact⟨k+1,n7,⟨nb,by rw[uR];exact o⟩,nb⟩
 .have:k=m8 m:=nb
  subst this;exact hk _ o
theorem DD{rs:List Sl}{m:aO}(a:m8 rs=m8 m)(i j:Nat)(c:i<m8 m)(b:j<m8 m):
  ((bt 5 1 aq rs m).set i (ai 5 (rs[j]'nb) 1 aq m[j])).set j (ai 5 (rs[i]'nb) 1 aq m[i])=bt 5 1 aq ((rs.set i (rs[j]'nb)).set j (rs[i]'nb)) (fQ m i j):=by
 rw[jF a,jF A8,fQ,be c,be b]
theorem Ao{B:ar}{u:hY}{f:fY}(T:io u f)(V:B f.block){a:Sl}{n df:Nat}{rs:List Sl}{m:aO}(hl:m8 rs=m8 m)(hm:aU n m)(hc:df<=n)(hn:n<=64)(hs:m8 m<=2^30)
  {h:hY} (H:aa B u h (kX a rs m)):aj xT 297 #[xL (dB f),a,xJ xP df] h λv h'=>
   ∃N:List Sl,v=xJ xP (aY m df).1/\N.length=m8 m/\aa B u h' (kX a N (aY m df).2):=by
 have am:a.len=m8 m:=by rw[(H.own 0 m9).len,hl]
 refine ts Tryz.func297 ?_ (F8 (F8 (E5 (F8 (E7 (E8 [(7,aI),(12,aI)] [(7,11),(12,82)] (F8 (F8 (E5 (E7 (F8 (F8 (F8 (G0 [] [(21,35)] (G0 [] [(35,53)] (F9 [(55,aI)] [(10,11),(55,79)]))))))) E6)))))) E6))) [(8,(.l [0,1,2,3,4,5,6,7,8,9,10,12,13,14,15,11,16,17,18]))];refine ak (λt:List Sl×Nat=>(((aY m t.2).1:Int),(t.2:Int))) (λt h'=>t.2<=df/\t.1.length=m8 m/\aa B u h' (kX a t.1 (aY m t.2).2)) (λt=>df-t.2) (rs,0) m9 ⟨n4,hl,H⟩ ?_;rintro⟨c,aV⟩ h1 ⟨hk,R,J⟩;dsimp only at*;have y:=fV hm aV;have E:=oR m aV;obtain⟨st,w⟩:=HF (aY m aV)
 rw[<-w]at y E J⊢;obtain⟨b,k⟩:=st;dsimp only at y E J⊢;have x:m8 c=m8 k:=nb
 have d:aY m (aV+1)=fR (b,k) aV:=by rw[aY,<-w]
 refine ae (λe=>?_) (λe=>?_)
 .have U:aV<n:=nb
  have P:eF h1 a 1 aq k:=J.Jy x λ_=>rfl;refine(OX a k n b aV h1 P y.1 U nb).mono ?_;rintro v h2 ⟨rfl,rfl⟩;refine⟨_,m9,?_⟩
  try dsimp only
  cases hb:fB k b aV with
  |none=>
   refine ae (λ_=>?_) λe2=>absurd nq e2;refine⟨(c,aV+1),?_,⟨n1,R,?_⟩,n1⟩
   ·(try dsimp only);rw[d,fR,hb,af _];rfl
   ·(try dsimp only);rw[d,fR,hb];exact J
  |some i=>
   have hh:=kQ hb;refine ae (λe2=>absurd (show((i:Nat):Int)<0 from e2) nb) (λ_=>?_)
   try dsimp only
   have K:b<m8 k:=nb
   have Y:=hh.2.1;have Q:=J.seq 0 m9 λ_=>rfl;refine aE ?_;refine Q.dR i m9 nb λ_ _ _=>?_;refine Q.dR b m9 nb λ_ _ _=>?_;refine J.set ag 0 m9 (λ_=>rfl) m9 b m9 nb (c[i]'nb) m9 m9 m9 λh3 H3=>⟨I0,?_⟩
   refine H3.set ag 0 m9 (λ_=>rfl) m9 i m9 n2 (c[b]'nb) m9 m9 m9 λW H4=>⟨I0,?_⟩
   have o:aa B u W (kX a ((c.set b (c[i]'nb)).set i (c[b]'nb)) (fQ k b i)):=by have:=H4.Sa (b+1) (i+1) (A:=ai 5 (c[b]'nb) 1 aq k[b]) (A2:=ai 5 (c[i]'nb) 1 aq k[i]) (eN x b K) (eN x i Y);show aa B u W (ai 41 a 1 bv _::bt 5 1 aq _ _);rw[<-DD x b i K Y];exact this
   obtain⟨j,D⟩:=HF ((c.set b (c[i]'nb)).set i (c[b]'nb))
   rw[<-D]at o;have ah:m8 j=m8 k:=by rw[D];simp;omega
   obtain⟨m2,s⟩:=HF (fQ k b i)
   have z:aU n m2:=by rw[s];exact ov y.1 K Y
   have S:m8 m2=m8 k:=by rw[s];exact jb _ _ _
   rw[<-s]at o;have p:m8 j=m8 m2:=nb
   have g:b<m8 m2:=nb
   refine aE ?_;have gt:=lK (a:=a) p b g;have lt:m2[b].length=n:=z _ (qe _);have L:=o.seq 0 m9 λ_=>rfl;refine L.dR b m9 nb λal F _=>?_;have G:=o.seq (b+1) gt λ_=>rfl;refine G.aW aV m9 nb _ m9 ?_;refine L.dR b m9 nb λad O _=>?_;have M:io W f:=T.ac o.ac V;refine(Yo f _ W M).mono ?_;rintro v h5 ⟨rfl,rfl⟩;refine⟨_,m9,⟨O,F,I0⟩,?_⟩;refine(SO f _ _ _ h5 M G nb).Hf λr h6 R6=>⟨r,m9,⟨eE F R6.ac,I0⟩,?_⟩;have H6:=o.comp R6
   try dsimp only
   refine H6.set ag 0 m9 (λ_=>rfl) m9 b m9 nb r m9 m9 m9 λh7 H7=>⟨I0,?_⟩
   have X:m2[b]=az m2 b:=(be g).symm;have ab:(m2[b])[aV]'nb=aM (az m2 b) aV:=by rw[mq (by rw[be g];omega)];simp only[be g]
   have Z:aa B u h7 (kX a (j.set b r) (ga b aV m2)):=by have h8:aa B u h7 ((ai 41 a 1 bv (j.set b r)::bt 5 1 aq j m2)++[ai 5 r 1 aq (scaleB (Gf.inv ((m2[b])[aV]'nb)) m2[b])]):=H7;have h9:=h8.LY (b+1) (by simp[gD p];omega);rw[ab,X]at h9;show aa B u h7 (ai 41 a 1 bv _::bt 5 1 aq _ (m2.set b _));rw[<-jF p];exact h9
   have I:(ga b aV m2).length=m8 m2:=kR _ _ _;refine VD T V n2 (mL z g) U hn nb nb Z λh8 H8=>?_;have q:fR (b,k) aV=(b+1,bN b aV (ga b aV m2) k.length):=by rw[fR];(try dsimp only);rw[hb,s]
   refine⟨(j.set b r,aV+1),?_,⟨n1,n2,?_⟩,n1⟩
   ·(try dsimp only);rw[d,q,af _,af _];rfl
   ·(try dsimp only);rw[d,q];rw[I,S]at H8;exact H8
 .have:aV=df:=nb
  subst this;exact⟨c,by rw[<-w],R,by rw[<-w];exact J⟩
theorem OY(f:fY)(a:Sl)(m:aO)(n:Nat)(h:hY)(w:io h f)(z:eF h a 1 aq m)(i:aU n m)(k:n<=64)(o:m8 m<=2^30):
  aj xT 334 #[xL (dB f),a] h λv h'=>∃(r:Sl) (rs:List Sl),v=r/\r.len=cz m/\rs.length=m8 m/\r.len<=m8 m/\Sp h h' (kX ⟨r.ptr,m8 m,r.cap⟩ rs (aY m (eI m)).2):=by
 refine ts Tryz.func334 ?_;refine(mU a m n h z i k o).mono ?_;rintro v B ⟨rfl,rfl⟩;refine⟨_,m9,aH (λe=>n5) λ_=>?_⟩;refine(uw a m n B z i k o).mono ?_;rintro v D ⟨r,rs,rfl,s,y⟩;refine⟨r,m9,(sA f D).mono ?_⟩;rintro v h3 ⟨rfl,rfl⟩;refine⟨dB f,m9,(pX r m h3 (y.Jy s λ_=>rfl)).mono ?_⟩;rintro v F ⟨rfl,rfl⟩;have A:eI m<=n:=by
  cases m with
  |nil=>simp[eI,az]
  |cons x t=>rw[eI,be n4];exact Nat.le_of_eq (i _ n4)
 refine⟨_,m9,(Ao w w.lt s i A k o y).Hf λj E ⟨g,q⟩=>?_⟩;have b:=oR m (eI m);rw[(fV i _).2]at b;have u:=(q.own 0 m9).cap;have d:=(q.own 0 m9).len;refine⟨_,m9,⟨ze _,wC.2 (show(aY m (eI m)).1<=r.cap by omega)⟩,⟨r.ptr,(aY m (eI m)).1,r.cap⟩,j,n4,m9,g,b,?_⟩;have:r=⟨r.ptr,m8 m,r.cap⟩:=by obtain⟨p,l,c⟩:=r;simp only at d⊢;rw[<-g,<-d]
 rw[<-this];exact q
theorem VE(f:fY)(a:Sl)(m:aO)(n:Nat)(h:hY)(d:io h f)(j:eF h a 1 aq m)(b:aU n m)(c:n<=64)(g:m8 m<=2^30):
  aj xT 280 #[xL (dB f),a] h λv h'=>v=xJ xP (cz m)/\Sp h h' []:=by
 refine ts Tryz.func280 ?_;refine(OY f a m n h d j b c g).mono ?_;rintro v k ⟨r,rs,rfl,e,_,_,i⟩;exact⟨r,m9,by rw[e],.zip i.ac⟩
theorem Ge(p:Pm)(seed:Int)(b:Sl)(l:aC)(h:hY)(j:Rd h b 1 av l)(w:m8 l<=2^29):aj xT 222 #[gx p,xJ xR seed,b] h λv h'=>v=xJ xP (Bv p seed l)/\Sp h h' []:=by
 refine ts Tryz.func222 ?_ E6 [(1,(.l [1,2,3,0,4,5,6]))] (args:=[p,(xJ xR (seed:Int)),b]);refine(Sp.refl h).boxed λa q i=>?_;refine⟨p,(i.box 0 m9).aw _ m9,(sX q).mono ?_⟩;rintro v s ⟨f,rfl,u⟩;have c:=i.comp u;have d:=c.box 0 m9;refine⟨dB f,m9,⟨d.cell0 m9,d.cell m9,d.cell m9,I0⟩,?_⟩;refine(Fc p seed b l s (Seq.up j c.ac) nb).mono ?_;rintro v h3 ⟨r,rfl,k⟩;have g:=c.comp k;refine⟨r,m9,I0,?_⟩;have t:=FM p seed l;have e:(bD p).toNat<=64:=by
  unfold bD;split
  .rename_i o;have:=(bI p).1 o;omega
  .omega
 refine(VE f r _ _ h3 (g.box 1 m9) (g.oL 2 m9) (oy p seed l) e nb).G7 λx m=>⟨_,m9,I0,m9,.zip (g.comp m).ac⟩
theorem JY(p:Pm)(seed:Int)(b:Sl)(l:aC)(h:hY)(k:Rd h b 1 av l)(f:m8 l<=2^29):aj xT 163 #[gx p,xJ xR seed,b] h λv h'=>v=xN (fI p seed l)/\Sp h h' []:=by refine ts Tryz.func163 ?_ E6 [(1,(.l [0,1,2,3,4,5,7,6,8,9,10,11]))] (args:=[p,(xJ xR (seed:Int)),b]);refine(Sp.refl h).boxed λa q i=>?_;refine⟨p,(i.box 0 m9).aw _ m9,(fe p q).mono ?_⟩;rintro v r ⟨rfl,s⟩;have d:=i.comp s;refine⟨_,m9,I0,aS (λe=>?_) λe=>⟨I0,I0,E0,.zip d.ac⟩⟩;have g:=d.box 0 m9;refine⟨p,g.aw _ m9,p,g.aw _ m9,(Ge p seed b l r (Seq.up k d.ac) f).mono ?_⟩;rintro v h3 ⟨rfl,m⟩;have j:=d.comp m;have c:=j.box 0 m9;refine⟨_,m9,⟨c.cell0 m9,c.cell m9,c.cell m9,I0⟩,(mj p h3).G7 λt o=>?_⟩;exact⟨_,m9,I0,E0,.zip (j.comp o).ac⟩
theorem Hs(p:Pm)(seed:Int)(h:hY):aj xT 245 #[gx p,xJ xR seed] h λv h'=>v=xN (fI p seed (fo p))/\Sp h h' []:=by refine ts Tryz.func245 ?_ (args:=[p,(xJ xR (seed:Int))]);refine(Sp.refl h).boxed λa j d=>?_;have e:=d.box 0 m9;refine⟨p,e.aw _ m9,p,e.aw _ m9,(Hr p j).mono ?_⟩;rintro v g ⟨r,rfl,f⟩;have c:=d.comp f;have b:=c.box 0 m9;refine⟨r,m9,⟨b.cell0 m9,b.cell m9,b.cell m9,I0⟩,(JY p seed r _ g (c.seq 1 m9 λ_=>rfl) Bk).G7 λh3 i=>?_⟩;exact⟨_,m9,I0,m9,.zip (c.comp i).ac⟩
theorem Yt(p:Pm)(o b:Int)(h:hY):aj xT 175 #[gx p,xJ xP o,xJ xP b] h λv h'=>
  v=.tuple #[xJ xP (((lX p o b).getD 0:Nat):Int),xN (lX p o b).isSome]/\Sp h h' []:=by
 refine ts Tryz.func175 ?_ (F8 (F9 [(9,aI)] [(6,20)])) (args:=[p,(o:Int),(b:Int)]);refine(Sp.refl h).boxed λA D B=>?_;refine ak (λi:Nat=>(i:Int)) (λi h'=>i<=16/\(∀k,k<i->wd p o b k=eR)/\Sp h h' [an A 24 [xJ xP p.1,xJ xP p.2.1,xJ xP p.2.2]]) (λi=>16-i) 0 m9 ⟨nb,λk f=>absurd f (Nat.not_lt_zero k),B⟩ ?_;rintro i z ⟨E,c,l⟩;refine ae (λe=>?_) λe=>?_
 .have y:i<16:=nb
  have a:=l.box 0 m9;refine⟨p,a.aw _ m9,(sV _ _ _ z).mono ?_⟩;rintro _ h3 ⟨rfl,rfl⟩;refine⟨_,m9,⟨a.cell0 m9,a.cell m9,a.cell m9,I0⟩,(Hs p _ h3).G7 λF w=>?_⟩;have t:=l.up w.ac;refine⟨_,m9,I0,aS (λg=>?_) λg=>?_⟩
  .have s:lX p o b=dB i:=by
    unfold lX;refine List.find?_eq_some_iff_append.2 ⟨g,qy i,(qy (15-i)).map (·+(i+1)),?_,λk f=>?_⟩
    .apply zn;intro j;by_cases u:j<i
     .rw[qu u5,zo nb,zo u]
     .rw[qk n2,zL];by_cases q:j=i
      .subst q;rw[zd,zo nb];rfl
      .obtain⟨d,x⟩:∃d,j=i+(d+1):=⟨j-i-1,nb⟩
       subst x;rw[wF,qO,qM];by_cases r:d<15-i
       .rw[zo r,zo nb];simp;omega
       .rw[zf n2,zf n2];rfl
    .rw[c k (qY.1 f)];rfl
   rw[s];exact⟨m9,.zip t.ac⟩
  .refine⟨i+1,n7,⟨nb,λk f=>?_,t⟩,nb⟩;by_cases m:k<i
   .exact c k m
   .have:k=i:=nb
    subst this;exact g
 .have s:lX p o b=eH:=by unfold lX;rw[yj];intro k f;rw[c k (by have:=qY.1 f;omega)];simp
  rw[s];exact⟨m9,.zip l.ac⟩
theorem SP(p:Pm)(o:Int)(n:Nat)(h:hY)(F:n<=2^30):aj xT 95 #[gx p,xJ xP o,xJ xP n] h λv h'=>
  (cX p o n=eH->v=.tuple #[xK eH 0 0,xN eR]/\Sp h h' [])/\
  (∀l,cX p o n=dB l->∃r:Sl,v=.tuple #[r,xN eL]/\Sp h h' [ai 3 r 1 av l]):=by
 refine ts Tryz.func95 ?_ (F8 (F8 (F9 [(8,bJ),(13,aI)] [(6,12),(13,30)]))) (args:=[p,(o:Int),(n:Int)]);refine(Sp.refl h).boxed λD G k=>?_;have k:=(k.nil 3 1 av).bs [1,0];refine ak (λt:Sl×Nat×aC=>(t.1,(t.2.1:Int))) (λt h'=>t.2.1<=n/\cX p o t.2.1=dB t.2.2/\Sp h h' [ai 3 t.1 1 av t.2.2,an D 24 [xJ xP p.1,xJ xP p.2.1,xJ xP p.2.2]]) (λt=>n-t.2.1) (⟨eH,0,0⟩,0,[]) m9 ⟨n4,m9,k⟩ ?_;rintro⟨s,i,l⟩ A ⟨J,c,d⟩;dsimp only at*;have x:=kH c;have b:∀j,lX p o i=eH->j<=n-(i+1)->cX p o (i+1+j)=eH:=λj f=>by
  induction j with
  |zero=>intro _;show cX p o (i+1)=eH;unfold cX;rw[c,f];rfl
  |succ j ih=>intro I;show cX p o ((i+1+j)+1)=eH;unfold cX;rw[ih nb];rfl
 refine ae (λe=>?_) λe=>?_
 .have y:i<n:=nb
  refine⟨p,(d.box 1 m9).aw _ m9,(Yt p o i A).G7 λh3 w=>?_⟩;have u:=d.up w.ac;refine⟨(_,_),m9,aH (λg=>?_) λg=>?_⟩
  .have a:cX p o n=eH:=by have:=b (n-(i+1)) (Option.isSome_eq_false_iff.1 g|>Option.isNone_iff_eq_none.1) (qj _);rw[show i+1+(n-(i+1))=n by omega]at this;exact this
   rw[a];exact⟨λ_=>⟨m9,.zip u.ac⟩,λl h=>p9⟩
  .obtain⟨t,q⟩:∃t,lX p o i=dB t:=yo.1 g;rw[q];refine u.push ag 0 m9 ge m9 nq (λ_=>rfl) dt (t:Int) m9 nq nb λz E B=>?_;refine⟨(z,i+1,l++[(t:Int)]),n3,⟨n1,?_,B⟩,n1⟩;show cX p o (i+1)=_;unfold cX;rw[c,q];rfl
 .have m:i=n:=nb
  subst m;rw[c];exact⟨λh=>p9,λH h=>(by injection h with h;subst h;exact⟨s,m9,d.bs [0]⟩)⟩
def kI(m:aB)(l:dT):dT:=(iI m l).map gn
def gz(m:aB)(l:dT):dT:=bG m++kI m l
def jO(d:bu)(a:Nat)(n:Int):Bool:=decide (max n 0<=(d.room:Int)-a)
def rC(m:aB)(d:bu)(n:Int):Bool:=!d.lost&&(jO d d.l.length n||jO d (gz m d.l).length n)
def eS(m:aB)(w:Pow)(d:bu)(n:Int):Int×Pow×bu:=
 if d.lost then(5,w,d)else if !rC m d n then(7,w,d)else if jO d d.l.length n then(0,w,d)else d.rewrite w (gz m d.l)
theorem Yu(l:List ct):(ny l).length<=m8 l:=by unfold ny;rw[qn];exact qX (qK _ _) n4
theorem jf(m:aB)(l:dT):(iI m l).length<=m8 l:=by unfold iI;refine qX (Yu _) ?_;rw[wP];exact List.length_filterMap_le _ _
theorem BJ(m:aB)(l:dT):(kI m l).length<=m8 l:=by unfold kI;rw[qn];exact jf m l
variable {B:ar} {h0 h:hY} {As:List HP} {a:fY} {d:bu} {w:Pow}
section
variable {pw:fY}
theorem MS(x:Sl)(l:dT)(H:aa B h0 h (jx pw a d::ee 107 pw w::As))(Q:St B h0 As λh=>eF h x 1 aq l)(N:m8 l<=2^20)(t:∀c∈l,m8 c<=2^20):
  aj xT 209 #[xL (dB a),x] h λv h'=>v=xJ xP (d.rewrite w l).1/\aa B h0 h' (jx pw a (d.rewrite w l).2.2::ee 107 pw (d.rewrite w l).2.1::As):=by
 refine ts Tryz.func209 ?_ (F8 (E5 (F8 (E7 (E8 [(9,aI)] [(4,5),(6,7),(9,17)] E6))) (E5 (E9 [] [(4,5),(17,41)] (E7 (G0 [(17,mR)] [(17,26)] E6))) E6)));have P:=Q.at [_,_] H;have V:=P.len;have p:=ff.rewrite (w:=w) (l:=l) (And.left (id H).kb);have j:∀(e:Int),d.rewrite w l=(e,w,d)->(Value.int .i64 e=xJ xP (d.rewrite w l).1/\aa B h0 h (jx pw a (d.rewrite w l).2.2::ee 107 pw (d.rewrite w l).2.1::As)):=λe R=>by
  rw[R];exact⟨m9,H⟩
 refine ak (λi:Nat=>(i:Int)) (λi h'=>i<=m8 l/\(∀c∈l.take i,m8 c=64)/\h'=h) (λi=>m8 l-i) 0 m9 ⟨nb,n4,m9⟩ ?_;rintro i h1 ⟨hi,f,rfl⟩;refine ae (λe=>?_) λe=>?_
 .have q:i<m8 l:=nb
  refine P.get i m9 q λr T=>?_;have S:=T.len;refine bm (λU=>j 1 ?_) λU=>?_
  .unfold bu.rewrite;rw[hZ];rw[w8,zZ];exact⟨l[i],qe q,n2⟩
  .refine⟨i+1,n7,⟨nb,λc k=>?_,m9⟩,nb⟩;rw[aA _ _ q]at k;rcases qw.1 k with k|k
   .exact f c k
   .rw[qB.1 k];omega
 have f:∀c∈l,m8 c=64:=by rw[qh nb]at f;exact f
 have o:(!l.all λb=>decide (m8 b=64))=eR:=by rw[Bool.not_eq_false',qQ];exactλc k=>ln (f c k)
 have D:d.rewrite w l=(if d.lost then(5,w,d)else if d.room<m8 l then(7,w,d)else if w.off then(14,w,d)else if w.step.1 then(0,w.step.2,{d with l:=l,wait:=0,laid:=[],has:=eR})else(14,w.step.2,{d with laid:=l,has:=eL})):=by unfold bu.rewrite;rw[o];rfl
 obtain⟨ok,s,b,G⟩:=H.kb;have A:=G.box 0 m9;refine aE (aE (aS (λe=>n5) λ_=>⟨a,m9,d.lost,A.cell m9,aS (λe=>j 5 (by rw[D,hZ e])) λg=>?_⟩));refine⟨a,m9,(d.room:Int),A.cell m9,ae (λe=>j 7 (by rw[D,k4 v8,hZ nb])) λI=>?_⟩;obtain⟨Z,X,K⟩:=(G.aF 4 [3,0,1,2]).iV;refine⟨a,m9,dB pw,A.cell0 m9,(tw Z (K.box 0 m9)).G6 ?_⟩;refine⟨_,m9,aH (λe=>j 14 ?_) λu=>?_⟩
 .rw[D,k4 v8,k4 nb,hZ o7]
 have m:w.off=eR:=u5
 have z:d.rewrite w l=(if w.step.1 then(0,w.step.2,{d with l:=l,wait:=0,laid:=[],has:=eR})else(14,w.step.2,{d with laid:=l,has:=eL})):=by rw[D,k4 v8,k4 nb,k4 E4]
 refine⟨a,m9,dB pw,A.cell0 m9,(vJ (G.aF 4 [3,0,1,2])).G7 λO M=>?_⟩;have y:=Q.at [_,_,_,_] M;refine⟨_,m9,aH (λe=>?_) λe=>?_⟩
 .rw[z,k4 B9]at p⊢;refine(FZ x l O y N t).Hf λr Y J=>?_;have F:=(M.bS J).aF 5 [2,3,0,1];refine⟨r,m9,a,m9,F.store ag 0 m9 m9 4 [r] m9 m9 m9 qa λW L=>?_⟩;refine⟨a,m9,L.store ag 0 m9 m9 5 [xN eL] m9 m9 m9 qa λh8 E=>⟨m9,?_⟩⟩;exact aa.iO (s:=s) (b:=r) p E
 .rw[z,hZ e]at p⊢;refine(FZ x l O y N t).Hf λr Y J=>?_;have F:=(M.bS J).aF 5 [2,0,4,1];refine⟨r,m9,a,m9,F.store ag 0 m9 m9 2 [r] m9 m9 m9 qa λW L=>?_⟩;refine⟨a,m9,L.store ag 0 m9 m9 3 [xJ xP 0] m9 m9 m9 qa λh8 E=>?_⟩;refine(Dr (d:={d with l:=l,wait:=0}) r b _ E ⟨qW _,n1,ok.room,f,ok.laid,ok.cellL⟩ m9).G7 λh9 H9=>⟨0,m9,m9,H9⟩
theorem Ap(s b:Sl)(c:Nat)(n:Int)(e:bQ h a 172 (ft pw d s b))(g:d.room<=512)(f:c<=2^40:=by omega):aj xT 207 #[xL (dB a),xJ xP c,xJ xP n] h λv h'=>v=xN (jO d c n)/\h'=h:=by refine ts Tryz.func207 ?_;refine(JR s b e).G6 ⟨_,m9,?_,m9⟩;rw[af ((d.room:Int)-c)];unfold jO;congr 1;rw[decide_eq_decide];split<;>omega
theorem SQ(s b:Sl)(x:bc)(m:aB)(D:bQ h a 172 (ft pw d s b))(G:eF h s 1 aq d.l)(ok:ff d)(K:cv h x m)(J:bM m):
  aj xT 276 #[xL (dB a),cC x] h λv h'=>∃r:Sl,v=r/\Sp h h' [cj r (kI m d.l)]:=by
 refine ts Tryz.func276 ?_ (F8 (F8 (F9 [(5,bJ),(12,aI)] [(5,6),(7,8),(12,22)]))) (args:=[(dB a),x]);have B:=ok.len;have A:=ok.room;refine(Sp.refl h).boxed λZ P c=>?_;refine⟨x,(c.box 0 m9).aw _ m9,(uu a pw d s b x m P (D.ac c.ac D.lt) (G.up c.ac) ok (K.up c.ac) J).mono ?_⟩;rintro _ V ⟨r,j,rfl,S⟩;have k:=(c.bS S).kf 41 5 1 aq;refine⟨r,m9,?_⟩;have p:=jf m d.l;obtain⟨L,E⟩:=HF (iI m d.l)
 have w:(kI m d.l)=L.map gn:=by unfold kI;rw[E]
 rw[<-E]at k p;rw[w];have F:=k.dv 1 m9;have M:=F.2.1;have y:=F.1.len;refine ak (λt:Sl×Nat=>(t.1,(t.2:Int))) (λt h'=>t.2<=m8 L/\Sp h h' [cj t.1 ((L.map gn).take t.2),cB cK 8 bB r j L]) (λt=>m8 L-t.2) (⟨eH,0,0⟩,0) m9 ⟨n4,k.bs [0,1]⟩ ?_;rintro⟨o,i⟩ h3 ⟨X,f⟩;dsimp only at*;have Q:=f.dv 1 m9;refine ae (λe=>?_) (λe=>?_)
 .have q:i<m8 L:=nb
  refine Q.1.cQ (g:=bB) i m9 nb (j[i]'nb) m9 ?_;refine f.alloc ag m9 λU Y N=>?_;refine N.storeAll ag 2 m9 m9 (bB (j[i]'nb)) m9 m9 m9 m9 λI z=>?_;refine⟨j[i]'nb,(z.box 2 m9).aw _ m9,(Aj _ L[i] I (Fix.row (z.dv 1 m9) q)).Hf λu W T=>?_⟩;have R:=(z.bS T).aF 3 [1,0,2];refine⟨u,m9,R.nQ ag cO n2 λO h8 H=>?_⟩;refine⟨(O,i+1),n3,⟨n1,?_⟩,n1⟩
  try dsimp only
  rw[aA _ _ (show i<(L.map gn).length by simp;omega),zw];exact H.bs [0,1]
 .rw[qh n2]at f;exact⟨o,m9,f.bs [0]⟩
end
theorem kY(a b:ct):dO a b=eL↔a.object=b.object/\a.block=b.block/\a.id=b.id:=by unfold dO;rw[decide_eq_true_eq]
theorem le_iff(a b:ct):mf a b=eL↔a.object<b.object∨(a.object=b.object/\(a.block<b.block∨(a.block=b.block/\a.id<=b.id))):=by unfold mf;rw[decide_eq_true_eq]
theorem Yv{a b:ct}(h:dO a b=eL):dO a=dO b:=by obtain⟨d,c,h3⟩:=(kY a b).1 h;funext x;unfold dO;rw[d,c,h3]
theorem JZ(a:ct):dO a a=eL:=(kY a a).2 ⟨m9,m9,m9⟩
theorem VF(a b:ct):dO a b=dO b a:=by rw[Bool.eq_iff_iff,kY,kY];exact⟨λ⟨x,y,z⟩=>⟨x.symm,y.symm,z.symm⟩,λ⟨x,y,z⟩=>⟨x.symm,y.symm,z.symm⟩⟩
theorem MT(L:List ct)(a:ct):ny (L++[a])=ny L++if L=[]∨dO a (L.getD (m8 L-1) nN)=eR then[a]else[]:=by
 have c:∀k<m8 L,(L++[a]).getD k nN=L.getD k nN:=λk b=>by
  rw[qg,qg,qu b]
 have b:∀k<m8 L,oO (L++[a]) k=oO L k:=λk b=>by
  unfold oO;rw[c k b];cases k with
  |zero=>rfl
  |succ k=>rw[show k+1-1=k by omega,c k nb]
 have d:(L++[a]).getD L.length nN=a:=by rw[qg,qk (qj _)];simp
 unfold ny;rw[qo,List.length_singleton,zC,zi,qE];have f:(qy L.length).filter (oO (L++[a]))=(qy L.length).filter (oO L):=List.filter_congr λk h=>b k (qY.1 h);rw[f];congr 1
 .exact List.map_congr_left λk h=>c k (qY.1 (qJ.1 h).1)
 .have e:oO (L++[a]) L.length=decide (L=[]∨dO a (L.getD (m8 L-1) nN)=eR):=by
   unfold oO;rw[d];cases L with
   |nil=>simp
   |cons x L=>
    rw[c _ n4];simp
  rw[zA,e];by_cases h:L=[]∨dO a (L.getD (m8 L-1) nN)=eR
  .rw[hZ h,ln h,hZ m9,wY,List.map_singleton,d]
  .rw[k4 h,m5 h,k4 nq,wY,y7]
theorem MU{P:List ct->Prop}(b:P [])(c:∀L a,P L->P (L++[a]))(L:List ct):P L:=by
 have h:P L.reverse.reverse:=by
  induction L.reverse with
  |nil=>exact b
  |cons a l ih=>rw[List.reverse_cons];exact c _ _ ih
 rwa [List.reverse_reverse]at h
theorem Ka{L:List ct}{a:ct}(j:L.Pairwise λa b=>mf a b=eL)(m:∀y∈L,mf y a=eL)(c:L=[]∨dO a (L.getD (m8 L-1) nN)=eR):∀y∈L,dO a y=eR:=λy e=>by
 rw[vW];intro l;rcases c with c|c
 .rw[c]at e;cases e
 .obtain⟨i,g,rfl⟩:=vn.1 e;have d:m8 L-1<m8 L:=nb
  rw[qg,qc d,vu]at c;have k:mf L[i] L[m8 L-1]=eL:=by
   rcases Nat.lt_or_ge i (m8 L-1)with h|h
   .exact zb.1 j _ _ g d h
   .have:i=m8 L-1:=nb
    rw[le_iff];subst this;omega
  have f:=m _ (qe d);rw[le_iff]at k f;rw[kY]at l;have:dO a L[m8 L-1]=eL:=(kY _ _).2 nb;rw[this]at c;cases c
theorem QL{x:ct}:∀(L:List ct),L.Pairwise (λa b=>mf a b=eL)->(x∈ny L↔L.find? (dO x)=dB x):=by
 refine MU (λ_=>by simp[ny]) λL a k l=>?_;obtain⟨g,_,i⟩:=zy.1 l;have c:=Ka (a:=a) g λy j=>i y j a n4;rw[MT,qw,k g,vX];cases hf:L.find? (dO x)with
 |some z=>
  rw[Option.some_or];refine⟨λh=>?_,.inl⟩;rcases h with h|h
  .exact h
  .split at h
   .rename_i m;have h:x=a:=p5
    subst h;have:=c m z (zP hf);rw[vD hf]at this;cases this
   .cases h
 |none=>
  rw[Option.none_or];have e:=yj.1 hf;refine⟨λh=>?_,λh=>?_⟩
  .rcases h with h|h
   .cases h
   .split at h
    .have h:x=a:=p5
     subst h;rw[List.find?_cons,JZ]
    .cases h
  .have d:=zP h;have d:x=a:=B5
   subst d;refine .inr ?_;rw[hZ]
   .simp
   .cases L with
    |nil=>exact .inl m9
    |cons y L=>
     refine .inr ?_;have f:(y::L).length-1<(y::L).length:=n4
     rw[qg,qc f,vu];simpa using e _ (qe f)
theorem acV:∀(L:List ct),L.Pairwise (λa b=>mf a b=eL)->(ny L).Pairwise ou:=by
 refine MU (λ_=>by simp[ny]) λL a g h=>?_;obtain⟨e,_,k⟩:=zy.1 h;have c:∀y∈L,mf y a=eL:=λy f=>k y f a n4;rw[MT];split
 .rename_i j;refine zy.2 ⟨g e,n4,λy f b i=>?_⟩;rw[qB.1 i];have d:=zP ((QL L e).1 f);exact⟨c y d,by rw[VF];exact Ka e c j y d⟩
 .rw[qL];exact g e
theorem OZ(x:ct)(l:List ct):(l.mergeSort mf).filter (dO x)=l.filter (dO x):=by
 have g:(l.filter (dO x)).Pairwise λa b=>mf a b=eL:=by rw[zb];intro i j k f h;have e:=(qJ.1 (qe k)).2;have d:=(qJ.1 (qe f)).2;rw[kY]at e d;rw[le_iff];omega
 have m:List.Sublist (l.filter (dO x)) (l.mergeSort mf):=List.sublist_mergeSort (le:=mf) (λa b c e d=>IG.1 a b c e d) (λa b=>IG.2 a b) g List.filter_sublist;have d:=m.filter (dO x);rw[List.filter_filter]at d;simp only[vd]at d;refine(d.eq_of_length ?_).symm;exact((wb l mf).filter _).length_eq.symm
theorem Kb{α:Type}(p:α->Bool)(l:List α):l.find? p=(l.filter p).head?:=List.head?_filter.symm
theorem MV{x:ct}{l:List ct}:x∈ny (l.mergeSort mf)↔l.find? (dO x)=dB x:=by rw[QL _ (wD (le:=mf) (λa b c e d=>IG.1 a b c e d) (λa b=>IG.2 a b) l),Kb,Kb,OZ]
theorem lt_iff(a b:ct):ou a b↔a.object<b.object∨(a.object=b.object/\(a.block<b.block∨(a.block=b.block/\a.id<b.id))):=by unfold ou;rw[le_iff,vW,ne_eq,kY];omega
theorem Fe:∀{l m:List ct},l.Pairwise ou->m.Pairwise ou->(∀x,x∈l↔x∈m)->l=m
 |[],[],_,_,_=>rfl
 |[],b::m,_,_,h=>by have:=(h b).2 qS;cases this
 |a::l,[],_,_,h=>by have:=(h a).1 qS;cases this
 |a::l,b::m,hl,hm,h=>by
  obtain⟨l1,l2⟩:=zr.1 hl;obtain⟨g,m2⟩:=zr.1 hm;have f:a=b:=by
   rcases qN.1 ((h a).1 qS)with e|e
   .exact e
   .rcases qN.1 ((h b).2 qS)with e'|e'
    .exact e'.symm
    .have j:=(lt_iff _ _).1 (g a e);have k:=(lt_iff _ _).1 (l1 b e');omega
  subst f;rw[Fe l2 m2 λx=>?_];have c:∀y,ou y y->False:=λy i=>by have:=(lt_iff _ _).1 i;omega
  refine⟨λd=>?_,λd=>?_⟩
  .rcases qN.1 ((h x).1 (qp _ d))with e|e
   .exact(c a (e▸l1 x d)).elim
   .exact e
  .rcases qN.1 ((h x).2 (qp _ d))with e|e
   .exact(c a (e▸g x d)).elim
   .exact e
structure lY (goods out:List ct):Prop where
 lt:out.Pairwise ou
 mem:∀x,x∈out↔goods.find? (dO x)=dB x
theorem lY.nil:lY [] []:=⟨.nil,λx=>n4⟩
theorem lY.done{d out:List ct}(h:lY d out):out=ny (d.mergeSort mf):=
 Fe h.lt (acV _ (wD (le:=mf) (λa b c f e=>IG.1 a b c f e) (λa b=>IG.2 a b) d)) λx=>by rw[h.mem,MV]
theorem VG{a:List ct}{r z:ct}(h:a.find? (dO r)=dB z):a.find? (dO z)=dB z:=by rw[<-Yv (vD h)];exact h
theorem lY.acW{a out:List ct}(h:lY a out){r:ct}:a.find? (dO r)=eH↔∀z∈out,dO r z=eR:=by
 refine⟨λb z c=>?_,λb=>?_⟩
 .have:=yj.1 b z (zP ((h.mem z).1 c));simpa using this
 .cases hf:a.find? (dO r)with
  |none=>rfl
  |some z=>
   have:=b z ((h.mem z).2 (VG hf));rw[vD hf]at this;cases this
theorem lY.step{c out:List ct}(h:lY c out){r:ct}{k:Nat}(D:k<=m8 out)(q:∀x∈out.drop k,ou r x)(v:∀(f:0<k),¬ou r (out[k-1]'nb)):
  ((k=0∨∃f:0<k,ou (out[k-1]'nb) r)->lY (c++[r]) (out.take k++r::out.drop k))/\((∃f:0<k,¬ou (out[k-1]'nb) r)->lY (c++[r]) out):=by
 have e:∀x,(c++[r]).find? (dO x)=dB x↔c.find? (dO x)=dB x∨(c.find? (dO x)=eH/\x=r):=λx=>by
  rw[vX];cases hf:c.find? (dO x)with
  |some z=>simp
  |none=>
   rw[Option.none_or];refine⟨λh=>.inr ⟨m9,by simpa using zP h⟩,λh=>?_⟩;rcases h with h|⟨_,rfl⟩
   .cases h
   .rw[List.find?_cons,JZ]
 have g:=h.lt;refine⟨λj=>?_,λ⟨f,j⟩=>?_⟩
 .have m:∀x∈out.take k,ou x r:=λx d=>by
   obtain⟨i,A,rfl⟩:=vn.1 d;rw[qx]at A;rcases j with j|⟨f,j⟩
   .omega
   .rw[List.getElem_take];rcases Nat.lt_or_ge i (k-1)with hik|hik
    .have:=zb.1 g i (k-1) nb nb hik;rw[lt_iff]at this j⊢;omega
    .have:i=k-1:=nb
     subst this;exact j
  have p:∀z∈out,dO r z=eR:=λz l=>by
   rw[<-qA k out]at l;rw[vW,ne_eq,kY];rcases qw.1 l with l|l
   .have:=(lt_iff _ _).1 (m z l);omega
   .have:=(lt_iff _ _).1 (q z l);omega
  refine⟨?_,λx=>?_⟩
  .rw[<-qA k out]at g;obtain⟨w,t,u⟩:=zy.1 g;refine zy.2 ⟨w,zr.2 ⟨q,t⟩,λa s b o=>?_⟩;rcases qN.1 o with rfl|o
   .exact m a s
   .exact u a s b o
  .rw[e,<-h.mem];have n:x∈out↔x∈out.take k∨x∈out.drop k:=by rw[<-qw,qA]
   rw[qw,qN,n];refine⟨λd=>?_,λd=>?_⟩
   .rcases d with d|rfl|d
    .exact .inl (.inl d)
    .exact .inr ⟨h.acW.2 p,m9⟩
    .exact .inl (.inr d)
   .rcases d with(d|d)|⟨_,d⟩
    .exact .inl d
    .exact .inr (.inr d)
    .exact .inr (.inl d)
 .refine⟨g,λx=>?_⟩;rw[e,<-h.mem];refine⟨.inl,λd=>d.elim id λ⟨hn,d⟩=>?_⟩;subst d;have y:=h.acW.1 hn _ (qe (show k-1<m8 out by omega));have B:=v f;rw[lt_iff]at B j;rw[vW,ne_eq,kY]at y;omega
section
variable {pw:fY}
theorem Pa{m:aB}{l:dT}{c:aT}(h:c∈kI m l):m8 c<=64:=by
 unfold kI at h;obtain⟨r,_,rfl⟩:=qI.1 h;unfold gn;split
 .rename_i a;refine Nat.le_of_eq (nE nq nq ?_);have:=rN a;omega
 .simp
theorem Kc(s b:Sl)(x:bc)(m:aB)(o:bQ h a 172 (ft pw d s b))(p:eF h s 1 aq d.l)(ok:ff d)(j:cv h x m)(g:bM m):
  aj xT 208 #[xL (dB a),cC x] h λv h'=>∃r:Sl,v=r/\Sp h h' [cj r (gz m d.l)]:=by
 refine ts Tryz.func208 ?_ E6 [(1,(.l [0,2,3,1,4,5,6]))] (args:=[(dB a),x]);have k:=ok.len;have i:=ok.room;refine(Sp.refl h).boxed λG z f=>?_;refine⟨x,(f.box 0 m9).aw _ m9,x,(f.box 0 m9).aw _ m9,(lV x m z (j.up f.ac) g).Hf λr E A=>?_⟩;have e:=f.bS A;have c:=e.box 1 m9;refine⟨r,m9,⟨c.cell0 m9,c.cell m9,c.cell m9,c.cell m9,c.cell m9,c.cell m9,c.cell m9,c.cell m9,I0⟩,(SQ s b x m (o.ac e.ac o.lt) (p.up e.ac) ok (j.up e.ac) g).Hf λu h3 q=>?_⟩;have B:=(e.bS q).aF 2 [1,0];have D:=jJ m g;have t:=BJ m d.l;refine⟨u,m9,I0,B.Qy ag cO ⟨_,_,m9,m9⟩ nb λy F w=>?_⟩;exact⟨I0,y,m9,w.bs [0]⟩
theorem Kd(s b:Sl)(x:bc)(m:aB)(n:Int)(t:bQ h a 172 (ft pw d s b))(w:eF h s 1 aq d.l)(k:s.len=m8 d.l)(ok:ff d)(z:cv h x m)(p:bM m):
  aj xT 139 #[xL (dB a),cC x,xJ xP n] h λv h'=>v=xN (rC m d n)/\Sp h h' []:=by
 refine ts Tryz.func139 ?_ (F8 (G0 [] [(6,13)] E6)) (args:=[(dB a),x,(n:Int)]);have q:=ok.len;have o:=ok.room;refine(Sp.refl h).boxed λE B f=>?_;have c:=t.ac f.ac t.lt;refine aE (aS (λe=>n5) λ_=>(vS s b c).mono ?_);rintro _ _ ⟨rfl,rfl⟩;refine⟨_,m9,aS (λe=>⟨B1,.zip f.ac⟩) λe=>?_⟩;have u:rC m d n=(jO d d.l.length n||jO d (gz m d.l).length n):=B1
 refine(Ds s b c k).G6 ⟨_,m9,(Ap s b d.l.length n c ok.room).G6 ?_⟩;refine⟨_,m9,aS (λi=>⟨by rw[u,i];rfl,.zip f.ac⟩) λi=>?_⟩;refine⟨x,(f.box 0 m9).aw _ m9,(Kc s b x m c (w.up f.ac) ok (z.up f.ac) p).Hf λr D j=>?_⟩;have g:=(aa.lC j).1;have A:(gz m d.l).length<=4000:=by have:=jJ m p;have:=BJ m d.l;unfold gz;rw[qo];omega
 have y:=f.bS j;refine⟨r,m9,(Ap s b r.len n (c.ac j.ac c.lt) ok.room).G6 ?_⟩;exact⟨_,m9,by rw[u,i,yp,g],.zip y.ac⟩
theorem MW(x:bc)(n:Int)(h:hY):aj xT 139 #[xL eH,cC x,xJ xP n] h λv h'=>v=xN eR/\Sp h h' []:=by refine ts Tryz.func139 ?_ (F8 (G0 [] [(6,13)] E6)) (args:=[(eH:bx),x,(n:Int)]);refine(Sp.refl h).boxed λc b a=>?_;exact aE (aS (λ_=>⟨m9,.zip a.ac⟩) λe=>n5)
theorem VH(x:bc)(m:aB)(n:Int)(K:St B h0 As λh=>cv h x m)(y:bM m)(H:aa B h0 h (jx pw a d::ee 107 pw w::As)):
  aj xT 140 #[xL (dB a),cC x,xJ xP n] h λv h'=>v=xJ xP (eS m w d n).1/\aa B h0 h' (jx pw a (eS m w d n).2.2::ee 107 pw (eS m w d n).2.1::As):=by
 refine ts Tryz.func140 ?_ (F8 (E5 (E9 [] [(6,26)] (E7 (G0 [(7,mR)] [(7,14)] E6))) E6)) (args:=[(dB a),x,(n:Int)]);refine(Sp.refl h).boxed λU z R=>?_;have k:=(H.bS R).aF 3 [1,2,0];have f:∀(e:Int) {h':hY},aQ (λb=>b<z.size) z h'->eS m w d n=(e,w,d)->(Value.int .i64 e=xJ xP (eS m w d n).1/\aa B h0 h' (jx pw a (eS m w d n).2.2::ee 107 pw (eS m w d n).2.1::As)):=λe {h'} P M=>by
  rw[M];exact⟨m9,((k.up P).aF 3 [0,1])⟩
 obtain⟨ok,s,b,g⟩:=(id k).kb;have q:=g.box 0 m9;have L:eF z s 1 aq d.l:=(g.aF 2 [1]).Ch λ_=>rfl;have p:=(aa.lC (g.aF 2 [1])).1;have J:=ok.len;have I:=ok.room;refine aE (aE (aS (λe=>n5) λ_=>(vS s b q).mono ?_));rintro _ _ ⟨rfl,rfl⟩;refine⟨_,m9,aS (λe=>f 5 (aQ.refl _ _) (by unfold eS;rw[hZ e])) λe=>?_⟩;refine⟨x,(k.box 2 m9).aw _ m9,(Kd s b x m n q L p ok (K.at [_,_,_] k) y).G7 λS o=>?_⟩;have D:=g.up o.ac;have j:=q.ac o.ac q.lt;have u:=k.up o.ac;refine⟨_,m9,aH (λt=>f 7 o.ac (by unfold eS;rw[k4 B9,hZ D8])) λt=>?_⟩;refine(Ds s b j p).G6 ⟨_,m9,(Ap s b d.l.length n j ok.room).G6 ?_⟩;refine⟨_,m9,aS (λE=>f 0 o.ac (by unfold eS;rw[k4 B9,k4 D8,hZ E])) λE=>?_⟩;have em:eS m w d n=d.rewrite w (gz m d.l):=by unfold eS;rw[k4 B9,k4 D8,k4 (by simp[E])]
 rw[em];have Q:(gz m d.l).length<=4000:=by have:=jJ m y;have:=BJ m d.l;unfold gz;rw[qo];omega
 have A:∀c∈gz m d.l,m8 c<=64:=λc i=>by
  unfold gz at i;rcases qw.1 i with i|i
  .exact Nat.le_of_eq (sM i)
  .exact Pa i
 refine⟨x,(u.box 2 m9).aw _ m9,(Kc s b x m j ((D.aF 2 [1]).Ch λ_=>rfl) ok (K.at [_,_,_] u) y).Hf λr h3 N=>?_⟩;obtain⟨rs,G⟩:=(u.bS N).ML λ_=>rfl;have G:=G.aF 4 [1,2,0];refine⟨r,m9,(MS r (gz m d.l) G (St.dS 0 m9 λh' F=>?_) nb λc i=>qX (A c i) nq).mono ?_⟩
 .exact⟨rs,F.1,F.2.1,F.2.2⟩
 rintro _ T ⟨rfl,O⟩;exact⟨_,m9,m9,O.aF 3 [0,1]⟩
end
variable {b:fY} {x:bc} {offs:Int} {da:List bx} {ds:aG}
section
variable {pw:fY}
theorem aa.Yw(n:Nat)(g:n<64)(i:ds[n]?=dB eH)(H:aa B h0 h (aJ bP a pw (aD x) offs da w ds::jx pw b d::As)){K:Unit->hY->Prop}
  (j:∀h',aa B h0 h' (aJ bP a pw (aD x) offs (da.set n (dB b)) w (ds.set n (dB d))::As)->K () h'):
  au xT (qG 64 (xL (dB ((a.add 10).add n))) (xL (dB b))) h K:=by
 obtain⟨ok,f⟩:=Qw.aa.gM H;have e:(a.add 10).add n=a.add (10+n):=by unfold Addr.add;simp[Nat.add_assoc]
 rw[e];refine f.storeAt ag 0 m9 m9 m9 m9 m9 (by simp[ok.la];omega) λh' c=>j h' ?_;rw[zt,JW ok.l8]at c;exact aa.QK ok g i c
end
theorem AR(a:aG)(n:Nat)(d:bu)(s:Int)(c:n<64)(b:m8 a=64):bX (iP a (n:Int) d) s=if s=(n:Int)then dB d else bX a s:=by
 unfold bX iP
 grind
theorem kJ{a:aG}{s:Int}{d:bu}(h:bX a s=dB d):∃n:Nat,s=(n:Int)/\n<64:=by
 unfold bX at h
 grind
structure Fit (ds:aG) (S Q:aC):Prop where
 len:m8 ds=64
 at_:∀s∈S,∃d,bX ds s=dB d/\d.lost=eR/\d.l.length+Q.count s<=d.room
theorem Pb{d:bu}{n:Nat}(w:Pow)(b:aT)(e:d.lost=eR)(a:m8 d.l+(n+1)<=d.room)(c:m8 b=64):
  ((d.append w b).1=0∨(d.append w b).1=14)/\(d.append w b).2.2.lost=eR/\(d.append w b).2.2.l.length+n<=(d.append w b).2.2.room:=by
 unfold bu.append
 grind
theorem VI{d:bu}(w:Pow)(a:d.lost=eR):((d.sync w).1=0∨(d.sync w).1=14)/\(d.sync w).2.2.lost=eR/\(d.sync w).2.2.l=d.l/\(d.sync w).2.2.room=d.room:=by
 unfold bu.sync
 grind
theorem Ct{a:aG}{S Q:aC}{x:Int}(w:Pow)(b:aT)(F:Fit a S (x::Q))(f:x∈S)(i:m8 b=64):
  ((dX w a x b).1=0∨(dX w a x b).1=14)/\Fit (dX w a x b).2.2 S Q:=by
 obtain⟨d,c,k,l⟩:=F.at_ x f;rw[List.count_cons_self]at l;obtain⟨n,rfl,j⟩:=kJ c;have A:=Pb w b k (n:=Q.count (n:Int)) nb i;have e:dX w a (n) b=((d.append w b).1,(d.append w b).2.1,iP a (n) (d.append w b).2.2):=by unfold dX;rw[c]
 rw[e];refine⟨A.1,by unfold iP;rw[qP];exact F.len,λs m=>?_⟩;rw[AR _ _ _ _ j F.len];by_cases h:s=(n)
 .grind
 .obtain⟨p,g,o,q⟩:=F.at_ s m
  grind
theorem DE{S:aC}:∀(P:List (Int×aT)) (w:Pow) (ds:aG),Fit ds S (P.map qC)->(∀x∈P,x.1∈S/\x.2.length=64)->
  ((fX P w ds).1=0∨(fX P w ds).1=14)/\((fX P w ds).1=0->Fit (fX P w ds).2.2 S [])
 |[],w,ds,F,_=>⟨.inl m9,λ_=>F⟩
 |x::P,w,ds,F,hP=>by
  rw[lu];obtain⟨A,b⟩:=Ct w x.2 (x:=x.1) (Q:=P.map qC) F (hP x (qS ..)).1 (hP x (qS ..)).2;by_cases h0:(dX w ds x.1 x.2).1=0
  .rw[hZ h0];exact DE P _ _ b λy a=>hP y (qp _ a)
  grind
theorem Ff{a:aG}{S:aC}{x:Int}(w:Pow)(F:Fit a S [])(f:x∈S):((fG w a x).1=0∨(fG w a x).1=14)/\Fit (fG w a x).2.2 S []:=by
 obtain⟨d,c,h,m⟩:=F.at_ x f;obtain⟨n,rfl,g⟩:=kJ c;obtain⟨j,A2,k,l⟩:=VI w h;have e:fG w a (n)=((d.sync w).1,(d.sync w).2.1,iP a (n) (d.sync w).2.2):=by unfold fG;rw[c]
 rw[e];refine⟨j,by unfold iP;rw[qP];exact F.len,λs i=>?_⟩;rw[AR _ _ _ _ g F.len];by_cases b:s=(n)
 .grind
 .rw[k4 b];exact F.at_ s i
theorem Ht{S:aC}:∀(l:aC) (w:Pow) (ds:aG),Fit ds S []->(∀x∈l,x∈S)->((iY l w ds).1=0∨(iY l w ds).1=14)
 |[],_,_,_,_=>.inl m9
 |x::l,w,ds,F,hl=>by
  rw[nf];obtain⟨A,b⟩:=Ff w F (hl x (qS ..));by_cases h0:(fG w ds x).1=0
  .rw[hZ h0];exact Ht l _ _ b λy a=>hl y (qp _ a)
  grind
theorem Pc{S:aC}(P:List (Int×aT))(w:Pow)(a:aG)(F:Fit a S (P.map qC))(d:∀x∈P,x.1∈S/\x.2.length=64):(layAll P w a).1=0∨(layAll P w a).1=14:=by
 obtain⟨A,b⟩:=DE P w a F d;unfold layAll;by_cases h0:(fX P w a).1=0
 .rw[hZ h0];refine Ht _ _ _ (b h0) λx c=>?_;unfold gA at c
  grind
 grind
theorem sB(m:aB)(s:Int):∀S:aC,((bi m S).map qC).count s=S.count s*(bG m).length
 |[]=>by simp[bi]
 |n::S=>by
  have e:bi m (n::S)=(bG m).map (λc=>(n,c))++bi m S:=rfl;rw[e,qE,List.count_append,sB m s S,];have a:(bG m).map (qC∘λc=>(n,c))=qf (bG m).length n:=by rw[List.eq_replicate_iff];simp
  grind
theorem pY(l:aC)(k:Nat):(bg l k).Nodup:=by refine List.Pairwise.filter _ (vh.2 ?_);exact(List.nodup_range (n:=k)).imp λh=>nb
theorem Pd(p:Pm)(a:Int)(w:Pow)(l:aC)(f:m8 l<=64)(g:((bg l l.length).any λi=>decide (l.getD i.toNat 0<((bG (cw p a l)).length:Int)))=eR):
  (layAll (bi (cw p a l) (bg l l.length)) w (fO l (bg l l.length).length)).1=0∨(layAll (bi (cw p a l) (bg l l.length)) w (fO l (bg l l.length).length)).1=14:=by
 refine Pc (S:=bg l l.length) _ _ _ ⟨Am _ _,λs d=>?_⟩ λx e=>mw e;obtain⟨n,j,rfl,c⟩:=(pj l l.length s).1 d;have b:((bG (cw p a l)).length)<=l.getD n 0:=n8
 refine⟨bu.new (l.getD n 0).toNat,?_,m9,?_⟩
 .unfold bX fO;rw[hZ nb,qi,qM,zo nb,zl,qt,hZ d];rfl
 .rw[sB];have:=List.nodup_iff_count.1 (pY l l.length) (n);have h:List.count (n:Int) (bg l l.length)*(bG (cw p a l)).length<=1*(bG (cw p a l)).length:=zk _ this;simp only[bu.new,wL];omega
theorem Hu{l:aC}(h:(dN l).2=eL):(dN l).1=bg l l.length/\l.length<=64/\∀n:Nat,l.getD n 0<=512:=by
 unfold dN at h⊢;by_cases a:l.all (dQ · 0 512)=eL
 .rw[hZ a]at h⊢;refine⟨m9,by simp at h;exact h.1,λn=>?_⟩;rw[qg];by_cases b:n<m8 l
  .rw[qc b];have:=qQ.1 a _ (qe b);unfold dQ at this;simp at this⊢;omega
  .rw[zf nb];simp
 .rw[k4 a]at h;cases h
theorem DF(l:aC)(i n:Nat)(f:i<(bg l l.length).length)(g:(bg l l.length)[i]=(n:Int))(d:n<64:=by omega):(fO l i)[n]?=dB eH:=by unfold fO;rw[qM,zo d,zl,k4];intro e;obtain⟨j,h,c⟩:=zV.1 e;have:=CX (pY l l.length) (a:=j) (b:=i) nb f (by rw[c,g]);omega
theorem Aq(m:aB):∀S:aC,(bi m S).length=m8 S*(bG m).length
 |[]=>by simp[bi]
 |n::S=>by
  have e:bi m (n::S)=(bG m).map (λc=>(n,c))++bi m S:=by unfold bi;rw[zm]
  rw[e,qo,qn,Aq m S,q7,zU,Nat.add_comm]
theorem sY(p:Pm)(a:Int)(l:aC)(b:m8 l<=64):bM (cw p a l):=⟨by have:=lJ l l.length;simp[cw];omega,by simp[cw],by simp[cw]⟩
section
variable {pw:fY}
theorem Fg(p:Pm)(c:Int)(s:Sl)(l:aC)(hS:St B h0 As λh=>Rd h s 1 av l)(hl:m8 l<=2^20)(H:aa B h0 h (ee 107 pw w::As)):
  aj xT 40 #[gx p,xJ xP c,xL (dB pw),s] h λv h'=>
   ((dc p c w l).1≠0->v=.tuple #[xL eH,xJ xP (dc p c w l).1]/\aa B h0 h' As)/\
   ((dc p c w l).1=0->∃(a:fY) (x:bc) (da:List bx),v=.tuple #[xL (dB a),xJ xP 0]/\aa B h0 h' (aJ bP a pw (aD x) w.offs da (dc p c w l).2.1 (dc p c w l).2.2::bo x (cw p c l)::As)):=by
 refine ts Tryz.func40 ?_ (F8 (F8 (G0 [] [(8,10),(23,42)] (G0 [(12,QG)] [(12,13),(42,51)] (E5 (F8 (E7 (E8 [(53,aI)] [(8,10),(14,15),(53,69)] E6))) (F9 [(71,aI)] [(16,17),(71,87)])))))) [(14,(.l [0,1,2,3,4,5,6,8,9,7,10,11]))] (args:=[p,(c:Int),(dB pw),s]);refine H.boxed λa1 h1 H1=>?_;have H1:=H1.ba;refine(OR s l h1 (hS.at [_,_] H1) hl).Hf λr h2 R2=>?_;have H2:=H1.bS R2;refine⟨(r,(dN l).2),m9,?_⟩;have z:∀{h':hY},aa B h0 h' As->((dN l).2&&(bH p&&dQ c 0 16))=eR->
   ((dc p c w l).1≠0->Value.tuple #[xL eH,xJ xP 1]=.tuple #[xL eH,xJ xP (dc p c w l).1]/\aa B h0 h' As)/\
   ((dc p c w l).1=0->∃(a:fY) (x:bc) (da:List bx),Value.tuple #[xL eH,xJ xP 1]=.tuple #[xL (dB a),xJ xP 0]/\aa B h0 h' (aJ bP a pw (aD x) w.offs da (dc p c w l).2.1 (dc p c w l).2.2::bo x (cw p c l)::As)):=λ{h'} H' hc=>by
  have e:dc p c w l=(1,w,[]):=by unfold dc;rw[hc];rfl
  rw[e];exact⟨λ_=>⟨m9,H'⟩,λh=>absurd h (show¬(1:Int)=0 by decide)⟩
 refine aE (aH (λe=>z H2.rest.rest.rest v6) λe=>?_);have ep:(dN l).2=eL:=o7
 obtain⟨a7,E,K⟩:=Hu ep;refine⟨p,(H2.box 1 m9).aw _ m9,(fe p h2).G7 λh3 R3=>?_⟩;have A:aa B h0 h3 (ai 3 r 1 av (dN l).1::an a1 24 [xJ xP p.1,xJ xP p.2.1,xJ xP p.2.2]::ee 107 pw w::As):=by have:=H2.comp R3;rw[qL]at this;exact this
 refine⟨_,m9,aH (λe2=>z A.rest.rest.rest D9) λe2=>?_⟩;have em:bH p=eL:=u0
 refine ae (λe3=>z A.rest.rest.rest pb) λe3=>ae (λe4=>z A.rest.rest.rest pb) λe4=>aS (λe5=>by cases e5) λ_=>?_;rw[a7]at A;refine aE ⟨p,(A.box 1 m9).aw _ m9,?_⟩;obtain⟨lw,b0,a4⟩:=(A.aF 3 [2,1,0]).iV;refine(vl lw (a4.box 0 m9)).G6 ?_;have G:=A.box 1 m9;refine⟨_,m9,⟨G.cell0 m9,G.cell m9,G.cell m9,I0⟩,?_⟩;obtain⟨m,N⟩:=HF (cw p c l)
 refine⟨_,JV (1,0,p.1,p.2.1,p.2.2,c,r,⟨eH,0,0⟩) pw w.offs,?_⟩;refine A.boxed λa9 h6 g=>?_;obtain⟨x,hx⟩:∃x:bc,x=(1,0,p.1,p.2.1,p.2.2,c,r,⟨eH,0,0⟩):=⟨_,rfl⟩
 rw[<-hx]at g;have J:(Value.agg (cP (aD x) pw w.offs (qf 64 eH)).toArray).cells.toList=cP (aD x) pw w.offs (qf 64 eH):=o1
 rw[J]at g;have g:=g.ba;have M:=g.box 2 m9;refine⟨⟨M.cell0 m9,M.cell m9,M.cell m9,I0⟩,?_⟩;have g:=g.aF 4 [0,3,1];have g:=aa.JU (k:=bP) (h8:=by simp) g;obtain⟨P,o⟩:=HF (bg l l.length)
 rw[<-o]at g;have hz:bM m:=N▸sY p c l E;have ao:m8 P<=64:=by rw[o];exact qX (lJ _ _) E
 have ad:∀{h':hY} {Bs:List HP} {X:HP},aa B h0 h' (X::ai 3 r 1 av P::Bs)->cv h' x m:=λ{h' Bs X} H'=>by
  have hs:=H'.seq 1 m9 λ_=>rfl;have hc:=(H'.own 1 m9).cap;subst hx;subst N;exact⟨m9,m9,m9,m9,by show Seq _ _ r 1 av (bg l l.length);rw[<-o];exact hs,ce.nil _ _ _ _,hc,qj _⟩
 have Y:((dN l).2&&(bH p&&dQ c 0 16))=eL:=by rw[ep,em];unfold dQ;simp;omega
 have Z:(P.any λi=>decide (l.getD i.toNat 0<((bG m).length:Int)))=eL->dc p c w l=(7,w,[]):=λhh=>by
  unfold dc;rw[hZ Y,<-o,<-N,hZ hh]
 have R:(P.any λi=>decide (l.getD i.toNat 0<((bG m).length:Int)))=eR->dc p c w l=layAll (bi m P) w (fO l P.length):=λhh=>by
  unfold dc;rw[hZ Y,<-o,<-N,hh,k4 nq]
 have L:∀i (Q:i<m8 P),∃n:Nat,n<m8 l/\P[i]=(n:Int)/\0<l.getD n 0:=by subst o;exactλi Q=>An l l.length i Q
 refine ak (λi:Nat=>(i:Int)) (λi h'=>i<=m8 P/\((P.take i).any λi=>decide (l.getD i.toNat 0<((bG m).length:Int)))=eR/\aa B h0 h' (aJ bP a9 pw (aD x) w.offs (qf 64 eH) w (qf 64 eH)::ai 3 r 1 av P::As)) (λi=>m8 P-i) 0 m9 ⟨nb,n4,g⟩ ?_;rintro i h7 ⟨Q,j,D⟩;dsimp only at*;obtain⟨bk,a6⟩:=aa.cF D;have b3:r.len=m8 P:=(D.own 1 m9).len;refine ae (λe5=>?_) (λe5=>?_)
 .have d:i<m8 P:=nb
  obtain⟨n,O,F,S⟩:=L i d;refine(D.seq 1 m9 λ_=>rfl).aW i m9 d (n:Int) (by rw[F];rfl) ?_;refine(hS.at [_,_] D).nO n m9 O (l.getD n 0) (by rw[getD_lt O];rfl) λbd ab=>?_;refine⟨a9,m9,x,a6.aw _ pa,(lV x m h7 (ad D) hz).Hf λu h9 R9=>?_⟩;have H9:=D.bS R9;have bl:=(aa.lC H9).1;refine⟨u,m9,gP R9.ac ⟨ab,I0⟩,?_⟩;refine ae (λe6=>?_) (λe6=>?_)
  .rw[Z (zR.2 ⟨P[i],qe d,by rw[F,qi];exact ln nb⟩)];exact⟨λ_=>⟨m9,H9.rest.rest.rest⟩,λh=>absurd h (show¬(7:Int)=0 by decide)⟩
  .refine⟨i+1,n7,⟨nb,?_,H9.rest⟩,nb⟩;rw[aA _ _ d,ye,j,yp,vB,vV,Bool.or_false,F,qi];exact m5 nb
 .have I:i=m8 P:=nb
  subst I;rw[qt]at j;have ap:=R j;rw[<-Dw l]at D;refine ak (λt:Nat×List bx=>(t.1:Int)) (λt h'=>t.1<=m8 P/\aa B h0 h' (aJ bP a9 pw (aD x) w.offs t.2 w (fO l t.1)::ai 3 r 1 av P::As)) (λt=>m8 P-t.1) (0,qf 64 eH) m9 ⟨n4,D⟩ ?_;rintro⟨i,da⟩ U ⟨Q,f⟩;dsimp only at*;obtain⟨b2,V⟩:=aa.cF f;refine ae (λe6=>?_) (λe6=>?_)
  .have d:i<m8 P:=nb
   obtain⟨n,O,F,S⟩:=L i d;have bb:=K n;refine(f.seq 1 m9 λ_=>rfl).aW i m9 d (n:Int) (by rw[F];rfl) ?_;refine(hS.at [_,_] f).aW n m9 O (l.getD n 0) (by rw[getD_lt O];rfl) ?_;refine⟨a9,m9,(SH (l.getD n 0) pw U).mono ?_⟩;rintro _ b4 ⟨Q1,_⟩;obtain⟨b,rfl,a0⟩:=Q1 nb;have ax:=(f.bS a0).aF 2 [1,0];refine⟨_,m9,I0,⟨nb,nb⟩,?_⟩;rw[qi,zG];have al:i<(bg l l.length).length:=by rw[<-o];exact d
   have am:(bg l l.length)[i]=(n:Int):=by rw[<-F];simp only[o]
   refine Qw.aa.Yw n nb (DF l i n al am) ax λbq a5=>?_;refine⟨I0,(i+1,da.set n (dB b)),n3,⟨n1,?_⟩,n1⟩
   try dsimp only
   rw[<-Dx l i n al am];exact a5
  .have I:i=m8 P:=nb
   subst I;refine⟨a9,m9,x,V.aw _ pa,(Fa x m r P U (ad f) hz (f.seq 1 m9 λ_=>rfl) nb).mono ?_⟩;rintro _ br ⟨u,ys,rfl,ay⟩;have a3:=(f.bS ay).aF 2 [1,0];refine⟨u,m9,?_⟩;have ah:=jJ m hz;refine(Du u ys (bi m P) (St.dS 0 m9 λ_ W=>W) ?_ ?_ a3).mono ?_
   .rw[Aq];have:=zq ao ah;omega
   .intro y hy;obtain⟨a8,a2⟩:=mw hy;obtain⟨i,Q,e⟩:=qD a8;obtain⟨n,O,F,_⟩:=L i Q;rw[<-e,F,a2];exact⟨⟨nb,nb⟩,nq⟩
   rintro _ b1 ⟨rfl,T⟩;rw[ap];refine⟨_,m9,bm (λe7=>⟨λ_=>⟨m9,T.rest.rest.rest⟩,λh=>absurd h e7⟩) λe7=>⟨λh=>absurd e7 h,λ_=>⟨a9,x,da,m9,?_⟩⟩⟩;rw[<-N];exact T.nP.dY 1 m9 λq W=>by
    subst hx;subst N;exact⟨m9,m9,m9,m9,by show Seq _ _ r 1 av (bg l l.length);rw[<-o];exact W.1.seq (λ_=>rfl) W.2,ce.nil _ _ _ _,W.1.cap,qj _⟩
end
def nJ(m:aB)(a:aG)(k n:Int):Bool:=match bX a k with|some d=>rC m d n|none=>eR
def iz(m:aB)(a:aG)(l:aC)(N:Int->Int):Bool:=l.all λk=>nJ m a k (N k)
def fK(m:aB)(w:Pow)(a:aG)(k n:Int):Int×Pow×aG:=
 match bX a k with
 |none=>(5,w,a)
 |some d=>((eS m w d n).1,(eS m w d n).2.1,iP a k (eS m w d n).2.2)
def makes(m:aB)(N:Int->Int):aC->Pow->aG->Int×Pow×aG
 |[],w,ds=>(0,w,ds)
 |k::l,w,ds=>if(fK m w ds k (N k)).1=0 then makes m N l (fK m w ds k (N k)).2.1 (fK m w ds k (N k)).2.2 else fK m w ds k (N k)
theorem Ke(f:FuncId)(pre post:Array Value)(P:Int->Bool)(s:Sl)(l:aC)(h:hY)(q:C.fns[f]?=dB eL)(n:Rd h s 1 av l)(x:m8 l<=2^30)
  (r:∀k∈l,∀h',Sp h h' []->aj xT f (pre.toList++[Value.int .i64 k]++post.toList).toArray h' λv g=>v=xN (P k)/\Sp h' g []):
  aj xT 137 #[s,.func (.func f) pre post] h λv h'=>v=xN (l.any P)/\Sp h h' []:=by
 refine ts Tryz.func137 ?_ (args:=[s,(.func (.func f) pre post)]);refine(iU s (f,pre,post) (R:=λv h'=>(∃i:Int,v=xJ xP i/\decide (i>=0)=l.any P)/\Sp h h' []) ?_).mono ?_
 .skip
  have u:=n.len;refine ak (λi:Nat=>(i:Int)) (λi h'=>i<=m8 l/\(l.take i).any P=eR/\Sp h h' []) (λi=>m8 l-i) 0 m9 ⟨nb,n4,Sp.refl h⟩ ?_;rintro i m ⟨o,a,c⟩;refine ae (λe=>?_) (λe=>?_)
  .have b:i<m8 l:=by have p:(i:Int)<(s.len:Int):=e;omega
   refine(Seq.up n c.ac).aW i m9 b l[i] m9 (fF q ?_);refine(r l[i] (qe b) m c).G7 λy t=>?_;have j:=c.up t.ac;refine⟨_,m9,aS (λd=>⟨⟨i,m9,?_⟩,j⟩) λd=>?_⟩
   .rw[zR.2 ⟨_,qe b,d⟩];exact ln nb
   .refine⟨i+1,n7,⟨nb,?_,j⟩,nb⟩;rw[aA _ _ b,ye,a,vB,vV,d];rfl
  .have p:¬(i:Int)<(s.len:Int):=e;rw[qh nb]at a;exact⟨⟨-1,m9,by rw[a];rfl⟩,c⟩
 .rintro _ m ⟨⟨i,rfl,o⟩,w⟩;exact⟨i,m9,by rw[o],w⟩
section
variable {pw:fY}
def Lk(f:FuncId)(pre post:Array Value)(N:Int->Int)(l:aC)(h:hY):Prop:=∀k∈l,aj xT f (pre.toList++[Value.int .i64 k]++post.toList).toArray h λv h'=>v=xJ xP (N k)/\Sp h h' []
theorem Hv(f:FuncId)(pre post:Array Value)(N:Int->Int)(x:bc)(m:aB)(s:Sl)(l:aC)(hf:C.fns[f]?=dB eL)(U:St B h0 As λh=>cv h x m/\Lk f pre post N l h)(X:bM m)(hs:Rd h s 1 av l)(V:m8 l<=2^30)(G:∀k∈l,0<=k/\k<64)(H:aa B h0 h (aJ bP a pw (aD x) offs da w ds::As)):
  aj xT 68 #[xL (dB a),s,.func (.func f) pre post] h λv h'=>v=xN (iz m ds l N)/\Sp h h' []:=by
 refine ts Tryz.func68 ?_ (args:=[(dB a),s,(.func (.func f) pre post)]);refine(Sp.refl h).boxed λq h1 R1=>R1.boxed λR Q r=>?_;have W:=H.up r.ac;have g:bQ Q q 30 [xL (dB a)]:=r.box 0 m9;have M:=r.box 1 m9;refine(Ke 138 #[] #[xL (dB q),xL (dB R)] (λk=>!nJ m ds k (N k)) s l Q pa (hs.up r.ac) V ?_).mono ?_
 .intro k P h3 i;have F:=W.up i.ac;have L:=(g.ac i.ac g.lt).cell0 m9;have c2:=(M.ac i.ac M.lt).cell0 m9;obtain⟨ok,u⟩:=aa.cF F;have S:=G k P;refine ts Tryz.func138 ?_ (args:=[(k:Int),q,R]);obtain⟨n,rfl⟩:∃n:Nat,k=n:=⟨k.toNat,nb⟩
  have z:n<m8 da:=B0
  have cd:hU h3 ((a.add 10).add ((n:Int).toNat*1))=dB (.pointer da[n]):=by rw[qi,zG];refine u.mh 10 n ?_;rw[mT ok.l8,qc z];rfl
  obtain⟨Y,y⟩:=U.at [_] F;refine⟨dB a,L,a,m9,⟨nb,nb⟩,da[n],cd,dB a,L,a,m9,x,u.aw _ m9,(f,pre,post),c2,fF hf ?_⟩;refine(y n P).G7 λJ p=>?_;have O:=F.up p.ac;have t:=((g.ac i.ac g.lt).ac p.ac (g.ac i.ac g.lt).lt).cell0 m9;have c:=u.ac p.ac u.lt;have D:hU J ((a.add 10).add ((n:Int).toNat*1))=dB (.pointer da[n]):=by rw[qi,zG];refine c.mh 10 n ?_;rw[mT ok.l8,qc z];rfl
  refine⟨_,m9,⟨c.cell0 m9,c.cell m9,c.cell m9,c.cell m9,c.cell m9,c.cell m9,c.cell m9,c.cell m9,t,D,t,I0⟩,?_⟩;have K:cT da (n:Int)=da[n]:=by unfold cT;rw[hZ nb,qi,qc z];rfl
  rw[<-K];have fin:∀{I:Bool} {j:hY},I=nJ m ds n (N n)->Sp J j []->bK.ok [(q,xL (dB a)),(q,xL (dB a))] j/\(Value.bool (!I)=xN (!nJ m ds n (N n))/\Sp h3 j []):=λ{I j} he o=>by
   have T:=(g.ac i.ac g.lt).ac p.ac (g.ac i.ac g.lt).lt;have:=(T.ac o.ac T.lt).cell0 m9;exact⟨⟨this,this,I0⟩,by rw[he],.zip (aa.up p o.ac).ac⟩
  rcases gp ok (n:Int)with⟨e1,e2⟩|⟨n',d,b,e0,e1,e2,e3,e4,e5⟩
  .rw[e2];refine(MW x _ J).G7 λj o=>⟨_,m9,fin (by unfold nJ;rw[e1]) o⟩
  .rw[e5];obtain⟨b',e,H5⟩:=Qw.aa.fD O e2;rw[e4]at e;injection e with e
   injection e with e
   subst e;obtain⟨E,sd,Z,A⟩:=aa.kb H5;refine(Kd sd Z x m (N n) (A.box 0 m9) ((A.aF 2 [1]).Ch λ_=>rfl) (aa.lC (A.aF 2 [1])).1 E (U.at [_] O).1 X).G7 λj o=>⟨_,m9,fin (by unfold nJ;rw[e3]) o⟩
 .rintro _ h3 ⟨rfl,i⟩;refine⟨_,m9,?_,.zip (aa.up r i.ac).ac⟩;unfold iz;rw[List.not_any_eq_all_not];simp
theorem MX(x:bc)(n:Int)(h:hY):aj xT 140 #[xL eH,cC x,xJ xP n] h λv h'=>v=xJ xP 5/\Sp h h' []:=by refine ts Tryz.func140 ?_ (F8 (E5 (E9 [] [(6,26)] (E7 (G0 [(7,mR)] [(7,14)] E6))) E6)) (args:=[(eH:bx),x,(n:Int)]);refine(Sp.refl h).boxed λc b a=>?_;exact aE (aE (aS (λ_=>aS (λ_=>⟨m9,.zip a.ac⟩) λe=>n5) λe=>n5))
theorem Hw(m:aB)(N:Int->Int)(l:aC)(w:Pow)(a:aG)(i:Nat)(b:i<m8 l):makes m N (l.drop i) w a=if(fK m w a l[i] (N l[i])).1=0 then makes m N (l.drop (i+1)) (fK m w a l[i] (N l[i])).2.1 (fK m w a l[i] (N l[i])).2.2 else fK m w a l[i] (N l[i]):=by rw[qT b];rfl
theorem Hx(f:FuncId)(pre post:Array Value)(N:Int->Int)(x:bc)(m:aB)(s:Sl)(l:aC)(hf:C.fns[f]?=dB eL)(O:St B h0 As λh=>cv h x m/\Lk f pre post N l h/\Rd h s 1 av l)(V:bM m)(hl:m8 l<=2^30)(L:∀k∈l,0<=k/\k<64)(H:aa B h0 h (aJ bP a pw (aD x) offs da w ds::As)):
  aj xT 69 #[xL (dB a),s,.func (.func f) pre post] h λv h'=>v=xJ xP (makes m N l w ds).1/\aa B h0 h' (aJ bP a pw (aD x) offs da (makes m N l w ds).2.1 (makes m N l w ds).2.2::As):=by
 refine ts Tryz.func69 ?_ (F8 (E5 (F8 (E7 (E8 [(12,aI)] [(6,7),(8,10),(12,34)] (F8 (F8 (E5 (E7 (F8 (G0 [(9,aI)] [(9,10),(16,30)] E6))) E6)))))) E6)) (args:=[(dB a),s,(.func (.func f) pre post)]);have ab:=(O.at [_] H).2.2.len;obtain⟨Z,Q⟩:=HF (makes m N l w ds)
 rw[<-Q];refine ak (λt:Nat×Pow×aG=>(t.1:Int)) (λt h'=>t.1<=m8 l/\Z=makes m N (l.drop t.1) t.2.1 t.2.2/\aa B h0 h' (aJ bP a pw (aD x) offs da t.2.1 t.2.2::As)) (λt=>m8 l-t.1) (0,w,ds) m9 ⟨n4,Q,H⟩ ?_;rintro⟨i,D,u⟩ h1 ⟨hi,p,F⟩;dsimp only at*;refine ae (λe=>?_) λe=>?_
 .have q:i<m8 l:=nb
  rw[Hw _ _ _ _ _ _ q]at p;obtain⟨U,I,K⟩:=O.at [_] F;refine K.aW i m9 q l[i] m9 (aE ?_);have E:=L l[i] (qe q);obtain⟨k,G⟩:=HF (l[i])
  have J:k∈l:=by rw[G];exact qe q
  rw[<-G]at p E;rw[<-G];obtain⟨n,rfl⟩:∃n:Nat,k=n:=⟨k.toNat,nb⟩
  obtain⟨ok,z⟩:=aa.cF F;have S:n<m8 da:=B0
  have R:∀{h':hY},bQ h' a 105 (cP (aD x) pw offs da)->hU h' ((a.add 10).add ((n:Int).toNat*1))=dB (.pointer da[n]):=λ{h'} z=>by
   rw[qi,zG];refine z.mh 10 n ?_;rw[mT ok.l8,qc S];rfl
  refine⟨a,m9,⟨nb,nb⟩,da[n],R z,a,m9,x,z.aw _ m9,fF hf ?_⟩;refine(I n J).G7 λh2 T=>?_;have P:=F.up T.ac;have g:=z.ac T.ac z.lt;refine⟨_,m9,⟨g.cell0 m9,g.cell m9,g.cell m9,g.cell m9,g.cell m9,g.cell m9,g.cell m9,g.cell m9,R g,I0⟩,?_⟩;have M:cT da (n:Int)=da[n]:=by unfold cT;rw[hZ nb,qi,qc S];rfl
  rw[<-M];obtain⟨c,o⟩:=HF (fK m D u n (N n))
  rw[<-o]at p;have fin:∀{h3:hY},aa B h0 h3 (aJ bP a pw (aD x) offs da c.2.1 c.2.2::As)->bK.ok [] h3/\Br (c.1 !=(0:Int)) (Value.int .i64 c.1=xJ xP Z.1/\aa B h0 h3 (aJ bP a pw (aD x) offs da Z.2.1 Z.2.2::As))
    (∃r:Nat×Pow×aG,qd xP ((i:Int)+1)=(r.1:Int)/\(r.1<=m8 l/\Z=makes m N (l.drop r.1) r.2.1 r.2.2/\aa B h0 h3 (aJ bP a pw (aD x) offs da r.2.1 r.2.2::As))/\l.length-r.1<m8 l-i):=λ{h3} H3=>by
   refine⟨I0,bm (λy=>?_) λy=>?_⟩
   .rw[k4 y]at p;rw[p];exact⟨m9,H3⟩
   .rw[hZ y]at p;exact⟨(i+1,c.2.1,c.2.2),n3,⟨n1,p,H3⟩,n1⟩
  rcases gp ok (n:Int)with⟨e1,y⟩|⟨n',d,b,e0,e1,y,e3,e4,e5⟩
  .rw[y];have A:c=(5,D,u):=by rw[o];unfold fK;rw[e1]
   refine(MX x _ h2).G7 λh3 W=>⟨c.1,E2,fin (h3:=h3) (by rw[A];exact P.up W.ac)⟩
  .rw[e5];have X:n=n':=nb
   subst X;obtain⟨b',j,H5⟩:=Qw.aa.fD P y;rw[e4]at j;injection j with j
   injection j with j
   subst j;have A:c=((eS m D d (N n)).1,(eS m D d (N n)).2.1,u.set n (dB (eS m D d (N n)).2.2)):=by rw[o];unfold fK;rw[e3];simp only[iP,qi]
   refine(VH x m (N n) (λBs h' hh=>(O (Bs++[_]) h' (by rw[ql];exact hh)).1) V H5).G7 λh3 Y=>?_;have H7:=Qw.aa.kW (k:=bP) (n:=n) e4 Y;exact⟨c.1,E2,fin (h3:=h3) (by rw[A];exact H7)⟩
 .rw[zh nb]at p;rw[p];exact⟨m9,F⟩
end
def Yx(a b:dM):Int:=if cW a.1 b.1 then-1 else if jc a.1 b.1 then 0 else 1
def kK(a b:dM):Bool:=jc a.1 b.1
theorem MY(a b:dM):Yx a b<0↔¬kK b a=eL:=by unfold Yx kK jc;cases h:cW a.1 b.1<;>simp;split<;>omega
theorem DG:Ord kK:=⟨λa b c=>Da a.1 b.1 c.1,λa b=>Db a.1 b.1⟩
abbrev MZ(x:dM):Value:=xO #[xM x.1,xJ xP x.2.1,xJ xP x.2.2.1,x.2.2.2]
theorem KH(x y:ByteArray)(h:hY):aj xT 184 #[xM x,xM y] h λv h'=>v=xJ xP (if cW x y then-1 else if jc x y then 0 else 1)/\h'=h:=by
 refine ts Tryz.func184 ?_;have a:∀z:ByteArray,aj xT 256 #[xM z] h λv h'=>v=xN eR/\h'=h:=λz=>by
  refine ts Tryz.func256 ?_;exact⟨n4,m9⟩
 refine(a x).G6 ⟨_,m9,(a y).G6 ?_⟩;refine⟨_,m9,aS (λe=>n5) λ_=>aS (λe=>n5) λ_=>?_⟩;have c:Op.bytesLess x.toList y.toList=cW x y:=rfl;rw[Lh,c];have d:(!Op.bytesLess y.toList x.toList)=jc x y:=rfl;rw[d];refine aS (λe=>⟨v6,m9⟩) λe=>aH (λb=>⟨by rw[e,b];rfl,m9⟩) λb=>⟨by rw[e,b];rfl,m9⟩
theorem SS(a b:dM)(h:hY):aj xT 183 #[MZ a,MZ b] h λv h'=>v=xJ xP (Yx a b)/\Sp h h' []:=by refine ts Tryz.func183 ?_ (args:=[a,b]);refine(Sp.refl h).boxed λg f e=>e.boxed λi d c=>?_;refine⟨a.1,(c.box 0 m9).cell0 m9,b.1,(c.box 1 m9).cell0 m9,(KH a.1 b.1 d).G6 ?_⟩;exact⟨_,m9,m9,.zip c.ac⟩
abbrev Ar(s:Sl)(d:List dM):HP:=ai 83 s 4 bf d
variable {h':hY} {s:Sl}
section
variable {d:List dM}
theorem Pe{c d:List dM}{y:dM}(b:Sd kK (c++d))(g:∀z∈c,kK z y=eL)(f:∀z∈d,¬kK z y=eL):Sd kK (c++y::d):=
 Sd.app DG b.left (zr.2 ⟨λz a=>DG.CS (f z a),b.right⟩) λx e z a=>by
  rcases qN.1 a with rfl|a
  .exact g x e
  .exact b.Em x e z a
theorem Hz(X M Y:List dM)(a b:Int)(ha:a=(m8 X:Int))(hb:b=(m8 X+m8 M:Nat))(ah:m8 X+m8 M+m8 Y<=2^40)(H:aa B h0 h (Ar s (X++(M++Y))::As)):
  aj xT 319 #[s,xJ xP a,xJ xP b,.func (.func 183) #[] #[]] h λv h'=>v=.tuple #[]/\∃M',Sd kK M'/\cI kK M M'/\aa B h0 h' (Ar s (X++(M'++Y))::As):=by
 refine ts Tryz.func319 ?_ (F8 (E7 (E8 [(8,aI)] [(8,10),(12,53)] (F8 (E5 (E7 (F8 (E7 (E8 [(9,aI)] [(9,10),(18,53)] (G0 [] [(18,35)] E6))))) E6))))) (args:=[s,(a:Int),(b:Int),(.func (.func 183) #[] #[])]);subst ha;subst hb;rw[af ((m8 X:Int)+1)];refine ak (λt:Nat×List dM=>((m8 X+1+t.1:Nat):Int)) (λt h'=>(t.1+1<=m8 M∨t.1=0)/\Sd kK t.2/\cI kK (M.take (t.1+1)) t.2/\t.2.length=(M.take (t.1+1)).length/\aa B h0 h' (Ar s (X++(t.2++(M.drop (t.1+1)++Y)))::As)) (λt=>m8 M-t.1) (0,M.take 1) m9 ?_ ?_
 .refine⟨.inr m9,?_,cI.refl _,m9,?_⟩
  .cases M with
   |nil=>exact List.Pairwise.nil
   |cons x M=>exact zr.2 ⟨λ_ h=>C9,n4⟩
  .rw[<-ql (M.take (0+1)),qA];exact H
 rintro⟨t,P⟩ h1 ⟨ht,r,q,V,S⟩;dsimp only at*;refine ae (λe=>?_) (λe=>?_)
 .have K:t+1<m8 M:=nb
  obtain⟨y,hy⟩:=HF (M[t+1])
  have G:m8 P=t+1:=by rw[V];simp;omega
  have eD:M.drop (t+1)=y::M.drop (t+1+1):=by rw[qT K,hy]
  rw[eD]at S;refine ak (λu:List dM×List dM=>((m8 X+m8 u.1:Nat):Int)) (λu h'=>u.1++u.2=P/\(∀z∈u.2,¬kK z y=eL)/\aa B h0 h' (Ar s (X++(u.1++(y::(u.2++(M.drop (t+1+1)++Y)))))::As)) (λu=>m8 u.1) (P,[]) (by dsimp only;rw[G];congr 1;omega) ⟨n4,n4,by simpa using S⟩ ?_;rintro⟨c,d⟩ Z ⟨L,f,J⟩;dsimp only at*;have ad:m8 c+m8 d=t+1:=by rw[<-G,<-L,qo]
  have done:∀{h':hY},(∀z∈c,kK z y=eL)->aa B h0 h' (Ar s (X++(c++(y::(d++(M.drop (t+1+1)++Y)))))::As)->
    ∃k:Nat×List dM,qd xP (((m8 X+1+t:Nat):Int)+1)=((m8 X+1+k.1:Nat):Int)/\((k.1+1<=m8 M∨k.1=0)/\Sd kK k.2/\cI kK (M.take (k.1+1)) k.2/\k.2.length=(M.take (k.1+1)).length/\aa B h0 h' (Ar s (X++(k.2++(M.drop (k.1+1)++Y)))::As))/\M.length-k.1<m8 M-t:=λ{h'} hle H'=>by
   refine⟨(t+1,c++y::d),by dsimp only;rw[af _];omega,⟨.inl n1,?_,?_,?_,?_⟩,n1⟩
   .exact Pe C3 hle f
   .try dsimp only
    rw[aA M (t+1) K,<-hy];have h1:cI kK (M.take (t+1)++[y]) (P++[y]):=q.app (cI.refl _);refine h1.trans ?_;rw[<-L,ql];have Z:cI kK (d++[y]) ([y]++d):=cI.Ux DG λx hx z O=>by rw[qB.1 O];exact f x hx
    exact(cI.refl _).app Z
   ·(try dsimp only);simp;omega
   .try dsimp only
    have:X++((c++y::d)++(M.drop (t+1+1)++Y))=X++(c++(y::(d++(M.drop (t+1+1)++Y)))):=n4
    rw[this];exact H'
  obtain⟨D,N⟩:=HF (X++(c++(y::(d++(M.drop (t+1+1)++Y)))))
  refine bn (λ_ h'=>∃(Q:List dM) (z:dM),c=Q++[z]/\¬kK z y=eL/\aa B h0 h' (Ar s D::As)) ?_ ?_
  .rw[<-N]at J done;refine ae (λU=>?_) (λU=>⟨I0,done (λz O=>?_) J⟩)
   .have I:c≠[]:=λh=>by rw[h]at U;simp at U
    obtain⟨Q,z,o⟩:∃(Q:List dM) (z:dM),c=Q++[z]:=⟨c.dropLast,c.getLast I,(List.dropLast_concat_getLast I).symm⟩
    have ab:m8 c=m8 Q+1:=D7
    have g1:D[m8 X+m8 c]?=dB y:=by rw[N,qk nb,show X.length+m8 c-m8 X=m8 c by omega,qk nb,zd];rfl
    have g2:D[m8 X+m8 c-1]?=dB z:=by rw[N,qk nb,show X.length+m8 c-1-m8 X=m8 Q by omega,o,ql,qk (qj _),zd];rfl
    obtain⟨R,A⟩:=qm.1 g1;obtain⟨T,p⟩:=qm.1 g2;refine(J.seq 0 m9 λ_=>rfl).cQ (g:=bf) _ m9 R y E2 ?_;have W:qd xP (((m8 X+m8 c:Nat):Int)-1)=((m8 X+m8 c-1:Nat):Int):=o0
    rw[W];refine(J.seq 0 m9 λ_=>rfl).cQ (g:=bf) _ m9 T z (by rw[p]) (fF pa ?_);refine(SS y z Z).G7 λh3 R3=>?_;have F:=J.up R3.ac;refine⟨_,m9,I0,ae (λe3=>⟨Q,z,o,(MY y z).1 e3,F⟩) λe3=>done (λw l=>?_) F⟩;have m:kK z y=eL:=by
     by_cases hc:kK z y=eL
     .exact hc
     .exact absurd ((MY y z).2 hc) e3
    rw[o]at l;rcases qw.1 l with l|l
    .refine DG.trans _ _ _ ?_ m;have:Sd kK (Q++[z]):=by rw[<-o];exact Sd.left (v:=d) C3
     exact this.Em w l z n4
    .rw[qB.1 l];exact m
   .have:c=[]:=by
     cases c with
     |nil=>rfl
     |cons x P=>exfalso;simp only[q7]at U;omega
    rw[this]at O;cases O
  .rintro _ h3 ⟨Q,z,o,m,F⟩;have ab:m8 c=m8 Q+1:=D7
   have E:D=(X++Q)++z::([]++y::(d++(M.drop (t+1+1)++Y))):=by rw[N,o];simp
   obtain⟨q1,q2,q3,q4⟩:=MH (X++Q) [] (d++(M.drop (t+1+1)++Y)) z y (i:=m8 X+m8 c-1) (j:=m8 X+m8 c) n2 n2;rw[<-E]at q1 q2 q3 q4;obtain⟨T,p⟩:=qm.1 q1;obtain⟨R,A⟩:=qm.1 q2;have W:qd xP (((m8 X+m8 c:Nat):Int)-1)=((m8 X+m8 c-1:Nat):Int):=o0
   rw[W];refine(F.seq 0 m9 λ_=>rfl).cQ (g:=bf) _ m9 T z (by rw[p]) ?_;refine(F.seq 0 m9 λ_=>rfl).cQ (g:=bf) _ m9 R y E2 ?_;refine F.set ag 0 m9 (λ_=>rfl) m9 (m8 X+m8 c) m9 R z m9 m9 m9 λh4 H4=>⟨I0,?_⟩
   refine H4.set ag 0 m9 (λ_=>rfl) m9 (m8 X+m8 c-1) m9 (by simpa using T) y m9 m9 m9 λh5 H5=>⟨I0,?_⟩
   refine⟨(Q,z::d),by dsimp only;congr 1;omega,⟨by dsimp only;rw[<-L,o];simp,?_,?_⟩,n1⟩
   .try dsimp only
    intro w l;rcases qN.1 l with rfl|l
    .exact m
    .exact f w l
   .try dsimp only
    have:X++(Q++(y::(z::d++(M.drop (t+1+1)++Y))))=(X++Q)++y::([]++z::(d++(M.drop (t+1+1)++Y))):=n4
    rw[this,<-q4];exact H5
 .refine⟨m9,P,r,?_,?_⟩
  .rw[qh nb]at q;exact q
  .rw[zh nb]at S;simpa using S
theorem Na(r:Nat)(h:hY)(c:r<=2^32):aj xT 255 #[xJ xS r] h λv h'=>(∃k:Int,v=xJ xP k)/\h'=h:=by intro w a;refine(Tryz.bits_Len (r:Int) w nb nb).mono ?_;rintro e b ⟨rfl,rfl⟩;exact⟨_,m9,dm.refl _,⟨_,m9⟩,a⟩
theorem SU(d:List dM)(m:m8 d<=12)(H:aa B h0 h (Ar s d::As)):
  aj xT 182 #[s,.func (.func 183) #[] #[]] h λv h'=>v=.tuple #[]/\aa B h0 h' (Ar s (d.mergeSort kK)::As):=by
 refine ts Tryz.func182 ?_ (args:=[s,(.func (.func 183) #[] #[])]);have c:=(H.own 0 m9).len;have a:∀k:Int,aj xT 254 #[s,xJ xP 0,xJ xP (s.len:Nat),xJ xP k,.func (.func 183) #[] #[]] h λv h'=>v=.tuple #[]/\aa B h0 h' (Ar s (d.mergeSort kK)::As):=λk=>by
  refine ts Tryz.func254 ?_ (F8 (F8 (E7 (E8 [(1,aI),(2,aI),(3,aI),(10,mR),(11,mR)] [(1,4),(10,148)] (E7 (F8 (F8 (F8 (G0 [(3,aI)] [(3,4),(38,47)] (F8 (G0 [(13,aI),(14,aI)] [(13,15),(55,68)] (G0 [] [(68,81)] (E5 (E9 [(1,aI)] [(1,2),(15,16),(81,105)] (G0 [(97,mR)] [(81,98)] E6)) E6))))))))))))) (args:=[s,(0:Int),((s.len:Nat):Int),(k:Int),(.func (.func 183) #[] #[])]);refine ak (λ_:Unit=>((0:Int),((s.len:Nat):Int),k,eL,eL)) (λ_ h'=>h'=h) (λ_=>0) () m9 m9 ?_;rintro _ i rfl;refine ae (λ_=>?_) λe=>absurd (show qd xP (((s.len:Nat):Int)-0)<=12 by rw[af _];omega) e;refine(Hz [] d [] 0 (s.len:Nat) m9 C8 n2 tg).mono ?_;rintro _ j ⟨rfl,M,l,f,b⟩;refine⟨(),m9,m9,?_⟩;rw[<-ZJ DG l f];simpa using b
 have g:qd xS ((s.len:Nat):Int)=((s.len:Nat):Int):=by unfold qd;simp[qq,yC];omega
 rw[g];refine(Na s.len h nb).mono ?_;rintro _ i ⟨⟨k,rfl⟩,rfl⟩;refine⟨k,m9,(a k).G7 λj b=>?_⟩;exact⟨(),m9,m9,b⟩
end
def acX:bc:=(0,0,0,0,0,0,⟨eH,0,0⟩,⟨eH,0,0⟩)
theorem Pf{m:aB}{e:Qw.cZ}{xe:dM}{L:List (dM×Qw.cZ)}{pool:List (Sl×aC)}(h:L.map zg=m.objs)(i:∀p∈L,EG pool p)(k:EG pool (xe,e)):
  ∃g:List (dM×Qw.cZ),g.map qC=(L.map qC++[xe]).mergeSort kK/\g.map zg=(m.objs++[e]).mergeSort nh/\∀p∈g,EG pool p:=by
 have c:∀p∈L++[(xe,e)],EG pool p:=λp d=>by
  rcases qw.1 d with d|d
  .exact i p d
  .rw[qB.1 d];exact k
 refine⟨(L++[(xe,e)]).mergeSort λa b=>kK a.1 b.1,?_,?_,λp d=>c p ((wb _ _).mem_iff.1 d)⟩
 .rw[vK (r:=λa b=>kK a.1 b.1) (s:=kK) (f:=qC) λa _ b _=>rfl,qE];rfl
 .rw[vK (r:=λa b=>kK a.1 b.1) (s:=nh) (f:=zg) (λa l b j=>by unfold kK nh;rw[(c a l).1.1,(c b j).1.1]),qE,h];rfl
theorem VJ(x:bc)(m:aB)(xe:dM)(e:Qw.cZ)(E:cv h x m)(D:bM m)(hs:0<=m.seq/\m.seq<=2^40)(X:0<=m.next/\m.next<=2^40)(ho:m.objs.length<=11)(z:xe.1=e.name/\xe.2.1=e.object/\xe.2.2.1=e.length)(H:aa B h0 h (Ae xe.2.2.2 1 av e.tries::As)):
  aj xT 98 #[cC x,MZ xe] h λv h'=>∃y:bc,v=cC y/\aa B h0 h' (bo y (nR m e)::As):=by
 refine ts Tryz.func98 ?_ (args:=[x,xe]);refine(Sp.refl h).boxed λa1 Y R=>R.boxed λS Z A=>A.alloc ag m9 λa3 h3 n=>?_;refine⟨x,(n.box 0 m9).aw _ m9,(pS x m h3 (E.up n.ac) D).mono ?_⟩;rintro _ h4 ⟨y,L,pool,rfl,i,r,u,J⟩;have F:=((n.bs [1,2]).comp J).front;refine⟨y,m9,F.alloc ag m9 λI V q=>?_⟩;have q:=q.ba;refine q.storeAll ag 0 m9 m9 (aD y) m9 m9 m9 m9 λh6 t=>?_;refine⟨y.1,(t.box 0 m9).cell0 m9,?_⟩;have T:qd xP (y.1+1)=m.seq+1:=by rw[i.1,af _]
 have Q:qd xP (y.2.1+1)=m.next+1:=by rw[i.2.1,af _]
 try dsimp only
 rw[T];refine t.gO ag 0 m9 m9 [xJ xP (m.seq+1)] m9 m9 m9 o1 λh7 w=>?_;refine⟨y.2.1,(w.box 0 m9).cell m9,?_⟩
 try dsimp only
 rw[Q];refine w.store ag 0 m9 m9 1 [xJ xP (m.next+1)] m9 m9 m9 o1 λh8 j=>?_;have N:L.length=m.objs.length:=by rw[<-r,qn]
 refine⟨y.2.2.2.2.2.2.2,(j.box 0 m9).cell m9,xe,(j.box 4 m9).aw _ m9,?_⟩;refine j.push ag 3 m9 mS m9 nq (λ_=>rfl) AL xe m9 nq n2 λo K k=>?_;refine k.store ag 0 m9 m9 7 [o] m9 m9 m9 o1 λl b=>?_;obtain⟨c,a⟩:∃c:bc,c=(m.seq+1,m.next+1,y.2.2.1,y.2.2.2.1,y.2.2.2.2.1,y.2.2.2.2.2.1,y.2.2.2.2.2.2.1,o):=⟨_,rfl⟩
 have M:c.2.2.2.2.2.2.1=y.2.2.2.2.2.2.1:=by rw[a]
 have U:c.2.2.2.2.2.2.2=o:=by rw[a]
 have b:Sp h l [an I 27 (aD c),iL 1 av pool,ai 3 c.2.2.2.2.2.2.1 1 av m.drives,ai 83 c.2.2.2.2.2.2.2 4 bf (L.map qC++[xe]),an S 83 (bf xe),an a3 27 (aD acX)]:=by rw[M,U,a];exact b
 refine⟨c.2.2.2.2.2.2.2,(b.box 0 m9).cell m9,?_⟩;have b:=b.aF 6 [3,0,1,2,4,5];refine(SU (L.map qC++[xe]) n2 b).G7 λP d=>⟨(),m9,c,(d.box 1 m9).aw _ m9,?_⟩;refine d.storeAll ag 5 m9 m9 (aD c) m9 m9 m9 m9 λO f=>?_;refine⟨c,(f.box 5 m9).aw _ m9,c,m9,?_⟩;obtain⟨W,l1,l2,G⟩:=Pf (pool:=(xe.2.2.2,e.tries)::pool) (m:=m) (e:=e) (xe:=xe) r (λp s=>⟨(u p s).1,qp _ (u p s).2⟩) ⟨z,qS⟩;have g:=((H.comp (f.bs [2,3,0])).front).aF 4 [0,3,1,2];have g:=aa.IU g;rw[<-l1]at g;refine aa.BF (m:=nR m e) ⟨by rw[a];rfl,by rw[a];rfl,by rw[a];exact i.2.2.1,by rw[a];exact i.2.2.2⟩ l2 G g
section
variable {pw:fY}
theorem aa.VK{x y:bc}(H:aa B h0 h (aJ bP a pw (aD x) offs da w ds::As)){K:Unit->hY->Prop}(d:∀h',aa B h0 h' (aJ bP a pw (aD y) offs da w ds::As)->K () h'):
  au xT (qG 27 (xL (dB a)) (cC y)) h K:=by
 obtain⟨ok,c⟩:=Qw.aa.gM H;refine c.gO ag 0 m9 m9 (aD y) m9 m9 m9 n4 λh' b=>d h' ?_;exact aa.je (k:=bP) ⟨m9,ok.la,ok.ls,ok.same⟩ b
theorem HB(x z:bc)(b:aB)(s:Sl)(l:aC)(o:St B h0 As λh=>cv h z b/\Rd h s 1 av l)(g:bM b)(p:m8 l<=2^10)(n:∀k∈l,0<=k/\k<64)(H:aa B h0 h (aJ bP a pw (aD x) offs da w ds::As)):
  aj xT 70 #[xL (dB a),cC z,s] h λv h'=>v=xJ xP (layAll (bi b l) w ds).1/\
   ((layAll (bi b l) w ds).1≠0->aa B h0 h' (aJ bP a pw (aD x) offs da (layAll (bi b l) w ds).2.1 (layAll (bi b l) w ds).2.2::As))/\
   ((layAll (bi b l) w ds).1=0->∃y,aa B h0 h' (aJ bP a pw (aD y) offs da (layAll (bi b l) w ds).2.1 (layAll (bi b l) w ds).2.2::bo y b::As)):=by
 refine ts Tryz.func70 ?_ (args:=[(dB a),z,s]);refine H.boxed λN F c=>?_;have c:=c.ba;refine⟨z,(c.box 0 m9).aw _ m9,(Fa z b s l F (o.at [_,_] c).1 g (o.at [_,_] c).2 p).mono ?_⟩;rintro _ L ⟨r,J,rfl,G⟩;have u:=(c.bS G).aF 3 [2,0,1];have d:=jJ b g;have t:=zq p d;refine⟨r,m9,(Du r J (bi b l) (St.dS 0 m9 λ_ j=>j) (by rw[Aq];omega) (λq j=>?_) u).mono ?_⟩
 .obtain⟨m,i⟩:=mw j;rw[i];exact⟨n _ m,nq⟩
 rintro _ h3 ⟨rfl,f⟩;obtain⟨R,A⟩:=HF (layAll (bi b l) w ds)
 rw[<-A]at f⊢;refine⟨_,m9,bm (λe=>⟨m9,λ_=>f.aF 3 [0],λh=>absurd h e⟩) λe=>?_⟩;refine⟨z,(f.box 2 m9).aw _ m9,(BG z b h3 (o.at [_,_,_] f).1 g).Hf λy M E=>?_⟩;have D:=(f.bS E).aF 4 [1,0];refine⟨y,m9,a,m9,aa.VK D λK I=>?_⟩;exact⟨by rw[e],λh=>absurd e h,λ_=>⟨y,I⟩⟩
def dH(a:ByteArray)(e:Qw.cZ):Bool:=e.name.toList==a.toList
theorem find_spec(x:bc)(m:aB)(b:ByteArray)(r:cv h x m)(q:bM m)(H:aa B h0 h (aJ bP a pw (aD x) offs da w ds::As)):
  aj xT 87 #[xL (dB a),xM b] h λv h'=>(∃i:Int,v=xJ xP i/\MP (dH b) m.objs i)/\Sp h h' []:=by
 refine ts Tryz.func87 ?_;refine(Sp.refl h).boxed λj n c=>?_;have k:bQ n j 9 [xM b]:=c.box 0 m9;obtain⟨ok,l⟩:=aa.cF H;have f:=l.ac c.ac l.lt;have d:=q.ob;refine⟨a,m9,x.2.2.2.2.2.2.2,f.cell m9,?_⟩;refine(Fb 157 #[] #[xL (dB j)] (dH b) x.2.2.2.2.2.2.2 m.objs n pa (r.up c.ac).objs d ?_).mono ?_
 .intro u E o g s z;refine ts Tryz.func157 ?_ (args:=[u,j]);refine(Sp.refl o).boxed λA h3 e=>?_;have p:=(k.ac g.ac k.lt)
  have y:=p.ac e.ac p.lt;refine⟨u.1,(e.box 0 m9).cell0 m9,b,y.cell0 m9,?_,.zip e.ac⟩;unfold dH;rw[s.1.1]
 .rintro _ o ⟨⟨i,rfl,t⟩,g⟩;exact⟨i,m9,⟨i,m9,t⟩,.zip (aa.up c g.ac).ac⟩
theorem oD{b:aR}(H:aa B h0 h (aJ bP a pw b offs da w ds::As)):aj xT 64 #[xL (dB a)] h λv h'=>v=xN (gy w offs)/\h'=h:=by refine mB (dB a) ?_;refine aS (λe=>n5) λ_=>(nr H).G6 ⟨_,m9,m9,m9⟩
def dI(m:aB)(down:Bool)(b:aG)(a:ByteArray)(n:Nat):Int:=
 if down then 14 else if !gU a then 3 else if m.objs.any (dH a)then 4
 else if m.p.1*m.p.2.2*8<(n:Int)∨12<=m8 m.objs then 6
 else if bh b m.drives=[]∨16777215<m.next∨2147483647<=m.seq then 7 else 0
theorem Nb(x:bc)(m:aB)(b:ByteArray)(s:Sl)(n:Nat)(hn:s.len=n)(F:b.size<=2^40)(N:cv h x m)(K:bM m)(P:bH m.p=eL)(H:aa B h0 h (aJ bP a pw (aD x) offs da w ds::As)):
  aj xT 94 #[xL (dB a),xM b,s] h λv h'=>v=xJ xP (dI m (gy w offs) ds b n)/\Sp h h' []:=by
 refine nw (dB a) b s ?_;have S:=(bI m.p).1 P;refine(oD H).mono ?_;rintro _ A ⟨rfl,rfl⟩;refine⟨_,m9,aS (λe=>⟨by unfold dI;rw[e];rfl,Sp.refl _⟩) λq=>?_⟩;refine(JS b A F).G7 λh2 o=>⟨_,m9,aH (λe=>⟨by unfold dI;rw[q,e];rfl,o⟩) λD=>?_⟩;have J:=H.up o.ac;have g:=N.up o.ac;refine(find_spec x m b g K J).mono ?_;rintro _ h3 ⟨⟨i,rfl,W⟩,u⟩;have G:Sp A h3 []:=.zip (aa.up o u.ac).ac;have d:=MQ W;refine⟨i,m9,aS (λe=>⟨by unfold dI;rw[q,D,<-d,e];rfl,G⟩) λV=>?_⟩;rw[V]at d;have L:=J.up u.ac;have c:=g.up u.ac;obtain⟨ok,k⟩:=aa.cF L;have O:=ce.len c.objs;have E:x.2.2.1=m.p.1:=congrArg (·.1) c.p;have I:x.2.2.2.2.1=m.p.2.2:=congrArg (·.2.2) c.p;have hk:m.p.1*m.p.2.2<=16*24:=wg nb nb nb nb;have U:0<=m.p.1*m.p.2.2:=vT nb nb;refine bn (λ(t:Bool) h'=>t=decide (m.p.1*m.p.2.2*8<(n:Int)∨12<=m8 m.objs)/\h'=h3) ?_ ?_
 .refine⟨a,m9,x.2.2.1,k.cell m9,a,m9,x.2.2.2.2.1,by rw[addr_add];exact k.cell m9,?_⟩
  try dsimp only
  rw[E,I,af (m.p.1*m.p.2.2),af (m.p.1*m.p.2.2*8)];refine ae (λe=>⟨(ln (.inl nb)).symm,m9⟩) λe=>?_;refine⟨a,m9,x.2.2.2.2.2.2.2,k.cell m9,?_,m9⟩;rw[decide_eq_decide];omega
 rintro t _ ⟨rfl,rfl⟩;refine ae (λe=>⟨by unfold dI;rw[q,D,<-d,hZ e];rfl,G⟩) λQ=>?_;have R:dI m (gy w offs) ds b n=if bh ds m.drives=[]∨16777215<m.next∨2147483647<=m.seq then 7 else 0:=by unfold dI;rw[q,D,<-d,k4 Q];rfl
 rw[R];refine(fC x m c K L).Hf λr Y y=>?_;have j:=(y.own 0 m9).len;have f:Sp A Y []:=.zip (aa.up G y.ac).ac;have l:=k.ac y.ac k.lt;refine⟨r,m9,aZ (λe=>⟨by rw[hZ (.inl (qR nb))],f⟩) λe=>?_⟩;have z:bh ds m.drives≠[]:=λT=>by rw[T]at j;simp at j;omega
 refine⟨a,m9,x.2.1,l.cell m9,ae (λe=>⟨by rw[hZ (.inr (.inl (by rw[<-c.next];omega)))],f⟩) λZ=>?_⟩;have M:=c.next;have X:=c.seq;refine⟨a,m9,x.1,l.cell0 m9,ae (λe=>⟨by rw[hZ (.inr (.inr nb))],f⟩) λe7=>⟨?_,f⟩⟩;rw[k4];rintro(h|h|h)
 .exact z h
 .omega
 .omega
end
theorem uy:∃i a,C.T.get 41=dB i/\i.co=.slice a:=⟨_,_,m9,m9⟩
def oE(A B:aO)(k:Nat):aO:=eO (A.take k) (B.take k)++A.drop k
theorem rV{A B:aO}(h:m8 B=m8 A)(k:Nat):(oE A B k).length=m8 A:=by simp[oE,eO,h];omega
theorem VL{A B:aO}(h:m8 B=m8 A){k:Nat}(a:k<m8 A):(oE A B k)[k]?=dB A[k]:=by
 have:(eO (A.take k) (B.take k)).length=k:=by simp[eO];omega
 rw[oE,qk nb,this,zd,wJ,yn,qc a]
theorem VM{A B:aO}(h:m8 B=m8 A){k:Nat}(a:k<m8 A):(oE A B k).set k (A[k]++B[k]'nb)=oE A B (k+1):=by
 have b:(eO (A.take k) (B.take k)).length=k:=by simp[eO];omega
 rw[oE,qZ _ _ nb,b,zd,qT a,zt,oE,aA _ _ a,aA _ _ (show k<m8 B by omega),eO,eO,vy n2,ql];rfl
theorem VN{A B:aO}(h:m8 B=m8 A):oE A B A.length=eO A B:=by rw[oE,qt,<-h,qt,h,yT,qL]
theorem SV(f:fY)(a b:Sl)(A B:aO)(n w:Nat)(h:hY)(hf:io h f)(I:eF h a 1 aq A)(U:eF h b 1 aq B)(hl:m8 A=n)(a3:m8 B=n)(i:aU n A)(H:aU w B)(a5:1<=n)(hn:n+w<=64)(hr:cz A=n):
  aj xT 230 #[xL (dB f),a,b] h λv h'=>∃r:Sl,v=.tuple #[r,xJ xP 0]/\Sp h h' [dE 41 r 1 aq (eU n A B)]:=by
 have d:m8 B=m8 A:=nb
 have V:=I.len;have z:=U.len;refine ts Tryz.func230 ?_ (F8 (G0 [] [(6,8),(17,37)] (F8 (F8 (E5 (F8 (E7 (E8 [(43,aI)] [(10,11),(43,59)] E6))) (F8 (F8 (E5 (F8 (E7 (E8 [(71,aI)] [(6,8),(13,14),(71,79)] E6))) (F8 (F9 [(14,bJ),(83,aI)] [(14,15),(16,17),(83,95)]))))))))));refine aE ?_;refine(mU a A n h I i).mono ?_;rintro v h1 ⟨rfl,rfl⟩;refine⟨_,m9,aH (λe=>n5) λ_=>?_⟩;refine(mU b B w h1 U H).mono ?_;rintro v K ⟨rfl,rfl⟩;refine⟨_,m9,aH (λe=>n5) λ_=>?_⟩;refine bm (λe=>absurd (by rw[V,z,d]) e) λ_=>?_;refine aZ (λe=>nb) λ_=>?_;refine(pX a A K I).mono ?_;rintro v h3 ⟨rfl,rfl⟩;have Y:eI A=n:=by
  cases A with
  |nil=>simp at hl;omega
  |cons x t=>rw[eI,be n4];exact i _ n4
 refine⟨_,m9,?_⟩;rw[Y];refine(uw a A n h3 I i).mono ?_;rintro v h4 ⟨r,rs,rfl,ay,R4⟩;refine⟨r,m9,?_⟩;have ao:=(R4.own 0 m9).len;refine ak (λt:Nat×List Sl=>(t.1:Int)) (λt h'=>t.1<=n/\t.2.length=n/\Sp h3 h' (kX r t.2 (oE A B t.1))) (λt=>n-t.1) (0,rs) m9 ⟨n4,n1,by simpa[oE,eO]using R4⟩ ?_;rintro⟨k,rs⟩ h5 ⟨hk,a0,o⟩;dsimp only at*;have p:m8 rs=(oE A B k).length:=A3
 refine ae (λe=>?_) (λe=>?_)
 .have D:k<n:=nb
  have q:k<m8 A:=nb
  have G:=lK (a:=r) p k A3;have eg:(oE A B k)[k]'(by rw[rV d];omega)=A[k]:=by have:=VL d q;rw[qc A3]at this;exact z8.inj this
  rw[eg]at G;have l1:A[k].length=n:=i _ (qe _);have l2:(B[k]'nb).length=w:=H _ (qe _);refine(o.seq 0 m9 λ_=>rfl).dR k m9 nb λa1 R W=>?_;refine(U.up o.ac).get k m9 nb λrb T=>?_;refine o.append ag (k+1) G cR uy m9 nq (λ_=>rfl) T cH nb λJ h6 H6=>⟨I0,?_⟩
  refine H6.set ag 0 m9 (λ_=>rfl) m9 k m9 nb J m9 m9 m9 λh7 H7=>⟨I0,?_⟩
  refine⟨(k+1,rs.set k J),n3,⟨n1,qb,?_⟩,n1⟩
  try dsimp only
  rw[<-VM d q];show Sp h3 h7 (ai 41 r 1 bv (rs.set k J)::bt 5 1 aq (rs.set k J) ((oE A B k).set k _));rw[<-jF p];exact H7
 .have ad:k=m8 A:=nb
  subst ad;rw[VN d]at o;refine(sA f h5).mono ?_;rintro v h6 ⟨rfl,rfl⟩;refine⟨dB f,m9,?_⟩;have F:=lQ d.symm i H;have a9:=lE d.symm;refine(Ao (m:=eO A B) (n:=n+w) hf hf.lt nb F nb nb nb o).mono ?_;rintro v h7 ⟨g,rfl,am,E⟩;rw[ug d.symm i,hr];refine⟨_,m9,?_⟩
  try dsimp only
  have ah:=(E.own 0 m9).cap;have a6:=(E.own 0 m9).len;have K:=fV F n;refine ae (λe=>absurd (show(n:Int)<(n:Int)from e) nb) λ_=>?_;refine⟨⟨ze _,wC.2 (show n<=r.len by omega)⟩,?_⟩;refine ak (λ_:Unit=>(0:Int)) (λ_ h'=>h'=h7) (λ_=>0) () m9 m9 ?_;rintro _ h8 rfl;rw[qi];refine ae (λe=>nb) λ_=>?_;refine⟨⟨ze _,wC.2 (show n<=r.cap by omega)⟩,?_⟩;obtain⟨M,N⟩:=HF ((aY (eO A B) n).2)
  have ax:m8 M=n:=by have:=K.2;rw[<-N]at this;omega
  have X:aU (n+w) M:=by rw[N];exact K.1
  have y:∀k (hk:k<n),(eU n A B).take (k+1)=(eU n A B).take k++[(M[k]'nb).drop n]:=λk hk=>by
   have e1:eU n A B=M.map (List.drop n):=by rw[eU,<-N,qh nb]
   rw[e1,aA _ _ n2,zw]
  have a4:(eU n A B).length=n:=(pQ d.symm i H hr).1;rw[<-N]at E;refine ak (λt:Sl×Nat=>(t.1,(t.2:Int))) (λt h'=>t.2<=n/\Sp h8 h' [dE 41 t.1 1 aq ((eU n A B).take t.2)]) (λt=>n-t.2) (⟨eH,0,0⟩,0) m9 ⟨n4,(Sp.refl h8).sK 41 1 aq⟩ ?_;rintro⟨s,k⟩ h9 ⟨a2,L⟩;dsimp only at*;have S:=E.comp L;have O:m8 g=m8 M:=nb
  refine ae (λe=>?_) (λe=>?_)
  .have D:k<n:=nb
   have G:=lK (a:=r) O k nb;have j:(kX r g M++[dE 41 s 1 aq ((eU n A B).take k)])[k+1]?=dB (ai 5 (g[k]'nb) 1 aq (M[k]'nb)):=by rw[qu (by simp[bt];omega)];exact G
   have a7:(M[k]'nb).length=n+w:=X _ (qe _);have l:=S.own (k+1) j;have Z:=S.seq (k+1) j λ_=>rfl;have al:=l.len;have u:=(S.seq 0 m9 λ_=>rfl).take n nb;rw[qh nb]at u;refine u.dR k m9 nb λa1 R W=>?_;refine⟨⟨ze _,wC.2 nb⟩,?_⟩;refine(fW _ _ h9 (Z.drop n l.cap) n2).Hf λc ap Q=>?_;have ab:=(L.comp Q).freeze 1 m9 λ_=>rfl;refine⟨c,m9,?_⟩;refine ab.jM ag 0 1 nq m9 m9 cO n2 λs' a8 P=>?_;refine⟨(s',k+1),n3,⟨n1,?_⟩,n1⟩
   try dsimp only
   rw[y k D];exact P.del 1
  .rw[qh nb]at L;refine⟨s,m9,?_⟩;have:=(Sp.zip E.ac).comp L;exact this
def iW(p:Pm)(seed:Int)(l:Nat):Int:=if bH p&&decide ((l:Int)=p.1*p.2.2)then(if fI p seed (fo p)then 0 else 8)else 1
abbrev sC(p:Pm)(seed:Int)(m:Sl):aR:=[xJ xP p.1,xJ xP p.2.1,xJ xP p.2.2,xJ xR seed,m]
theorem Yy(p:Pm)(seed:Int)(data:Sl)(d:Row)(h:hY)(hd:Rd h data 1 aq d)(hc:data.len<=data.cap):
  aj xT 177 #[gx p,xJ xR seed,data] h λv h'=>
   (iW p seed d.length=0->∃(b:fY) (m:Sl),v=.tuple #[xL (dB b),xJ xP 0]/\Sp h h' [dE 41 m 1 aq (kg p seed d),an b 281 (sC p seed m)])/\
   (iW p seed d.length≠0->v=.tuple #[xL eH,xJ xP (iW p seed d.length)]/\Sp h h' []):=by
 have ab:=hd.len;refine ts Tryz.func177 ?_ (F8 (G0 [] [(6,8),(12,25)] (F8 (F8 (E5 (F8 (E7 (E8 [(8,bJ),(31,aI)] [(8,9),(31,40)] E6))) (E5 (F8 (E7 (E8 [(8,bJ),(42,aI)] [(8,10),(42,60)] E6))) (G0 [(10,bJ),(11,aI)] [(10,12),(60,71)] E6))))))) [(15,(.l [1,2,3,6,0,4,5,7,8,9,10,11,12]))] (args:=[p,(xJ xR (seed:Int)),data]);refine(Sp.refl h).boxed λa h1 H1=>?_;refine aE ?_;refine⟨p,(H1.box 0 m9).aw _ m9,(fe p h1).mono ?_⟩;rintro v h2 ⟨rfl,R2⟩;have N:=H1.comp R2;have U:∀{h3:hY} (x:Int),x≠0->iW p seed d.length=x->Sp h h3 [an a 24 [xJ xP p.1,xJ xP p.2.1,xJ xP p.2.2]]->
   (iW p seed d.length=0->∃(b:fY) (m:Sl),Value.tuple #[xL eH,xJ xP x]=.tuple #[xL (dB b),xJ xP 0]/\Sp h h3 [dE 41 m 1 aq (kg p seed d),an b 281 (sC p seed m)])/\
   (iW p seed d.length≠0->Value.tuple #[xL eH,xJ xP x]=.tuple #[xL eH,xJ xP (iW p seed d.length)]/\Sp h h3 []):=λx hx P H=>by
  refine⟨λe=>absurd (P.symm.trans e) hx,λ_=>⟨by rw[P],.zip H.ac⟩⟩
 refine⟨_,m9,aH (λe=>U 1 nq (by rw[iW,e];rfl) N) λT=>?_⟩;have a0:=(bI p).1 T;obtain⟨K,hK⟩:∃K:Nat,p.1=K:=⟨p.1.toNat,nb⟩
 obtain⟨y,hH⟩:∃H:Nat,p.2.1=H:=⟨p.2.1.toNat,nb⟩
 obtain⟨w,O⟩:∃w:Nat,p.2.2=w:=⟨p.2.2.toNat,nb⟩
 have am:K*w<=16*24:=zq nb nb;have L:p.1*p.2.2=((K*w:Nat):Int):=by rw[hK,O,zS]
 refine⟨p.1,(N.box 0 m9).cell0 m9,p.2.2,(N.box 0 m9).cell m9,?_⟩
 try dsimp only
 rw[L,af _];refine bm (λe=>U 1 nq (by rw[iW,T,m5 (by rw[L];intro e2;exact e (by rw[ab];exact e2))];rfl) N) λel=>?_;have I:m8 d=K*w:=nb
 refine⟨p,(N.box 0 m9).aw _ m9,(Hs p seed h2).mono ?_⟩;rintro v h3 ⟨rfl,R3⟩;have Y:=N.comp R3;have D:iW p seed d.length=if fI p seed (fo p)then 0 else 8:=by rw[iW,T,ln (by rw[L,I])];rfl
 refine⟨_,m9,aH (λe=>U 8 nq (by rw[D,e];rfl) Y) λhf=>?_⟩;rw[hf,hZ rfl]at D;have B:gw p seed d K y w (K+y):=⟨T,hf,hK,hH,O,m9,nb,nb,nb,nb,nb,nb,I⟩
 refine⟨p.2.1,(Y.box 0 m9).cell m9,?_⟩;refine ak (λt:Sl×List Sl=>(t.1,(m8 t.2:Int))) (λt h'=>m8 t.2<=y/\Sp h h' (an a 24 [xJ xP p.1,xJ xP p.2.1,xJ xP p.2.2]::kX t.1 t.2 (qf t.2.length (aN w)))) (λt=>y-m8 t.2) (⟨eH,0,0⟩,[]) m9 ⟨n4,Y.nil 41 1 bv⟩ ?_;rintro⟨s,rs⟩ h4 ⟨hk,R⟩;dsimp only at*;refine ae (λe=>?_) (λe=>?_)
 .refine⟨p.2.2,(R.box 0 m9).cell m9,?_⟩;refine R.make ag aq cR nq 0 m9 m9 w w O O (qj _) nb λz h5 ap ay E=>?_;refine E.push ag 1 m9 cO m9 nq (λ_=>rfl) jQ z m9 nq nb λs' X W=>?_;refine⟨(s',rs++[z]),by dsimp only;rw[af _];simp,⟨n2,?_⟩,n2⟩
  try dsimp only
  have e7:kX s' (rs++[z]) (qf rs.length (aN w)++[aN w])=ai 41 s' 1 bv (rs++[z])::(bt 5 1 aq rs (qf rs.length (aN w))++[ai 5 z 1 aq (aN w)]):=congrArg _ (oP n4 z (aN w));rw[show(rs++[z]).length=m8 rs+1 by simp,yO,e7];exact W
 .have J:m8 rs=y:=nb
  rw[J]at R;refine⟨p.1,(R.box 0 m9).cell0 m9,?_⟩;let own:=bt 5 1 aq rs (qf y (aN w));refine ak (λt:Sl×Nat=>(t.1,(t.2:Int))) (λt h'=>t.2<=K/\Sp h h' (an a 24 [xJ xP p.1,xJ xP p.2.1,xJ xP p.2.2]::ai 41 t.1 1 bv (rs++(qy t.2).map (FH data w))::own)) (λt=>K-t.2) (s,0) m9 ⟨n4,by simpa using R⟩ ?_;rintro⟨t,k⟩ h5 ⟨ax,E⟩;dsimp only at*;refine ae (λe2=>?_) (λe2=>?_)
  .have ad:k<K:=nb
   have m1:(k+1)*w<=K*w:=zk w ad;have m2:k*w<=(k+1)*w:=zk w nb;refine⟨p.2.2,(E.box 0 m9).cell m9,p.2.2,(E.box 0 m9).cell m9,?_⟩;rw[af ((k:Int)+1)];have e5:(k:Int)*p.2.2=((k*w:Nat):Int):=by rw[O,zS]
   have e6:((k:Int)+1)*p.2.2=(((k+1)*w:Nat):Int):=by rw[O,zS];rfl
   try dsimp only
   rw[e5,e6,kv _,kv _,qi,qi];refine⟨⟨ze _,wC.2 m2,wC.2 nb⟩,?_⟩;refine E.push ag 1 m9 cO m9 nq (λ_=>rfl) jQ (FH data w k) m9 nq n2 λt' X W=>?_;refine⟨(t',k+1),m9,⟨n1,?_⟩,n1⟩
   try dsimp only
   rw[zC,qE,<-ql];exact W
  .have V:k=K:=nb
   subst V;refine aE ?_;have F:eF h5 t 1 aq (nG k y w d):=by
    refine⟨rs++(qy k).map (FH data w),E.seq 1 m9 λ_=>rfl,by rw[uS];simp;omega,λi r l q o=>?_⟩;by_cases G:i<y
    .rw[qu nb,qc nb]at q;rw[nG,qu (by simpa using G)]at o;have hz:l=aN w:=by simp[G]at o;exact o.symm
     have hr:rs[i]'nb=r:=z8.inj q;have g:(an a 24 [xJ xP p.1,xJ xP p.2.1,xJ xP p.2.2]::ai 41 t 1 bv (rs++(qy k).map (FH data w))::own)[i+2]?=dB (ai 5 (rs[i]'nb) 1 aq ((qf y (aN w))[i]'(by simpa using G))):=eN (by simpa using J) i (by simpa using G);have:=E.seq (i+2) g λ_=>rfl;rw[List.getElem_replicate,hr]at this;rw[hz];exact this
    .obtain⟨j,rfl⟩:∃j,i=y+j:=⟨i-y,nb⟩
     rw[qk nb,J,wF]at q;rw[nG,qk n4,wV,wF]at o;have hj:j<k:=by have:=(qm.1 q).1;simpa using this
     simp[hj]at q o;have m1:(j+1)*w<=k*w:=zk w hj;rw[<-q,<-o];exact(Seq.up hd E.ac).piece hc w j
   have c:=E.box 0 m9;refine⟨p,c.aw _ m9,p,c.aw _ m9,(sX h5).mono ?_⟩;rintro v X ⟨f,rfl,R6⟩;have u:=c.ac R6.ac c.lt;refine⟨dB f,m9,⟨u.cell0 m9,u.cell m9,u.cell m9,u.cell0 m9,u.cell m9,u.cell m9,I0⟩,(Hr p X).mono ?_⟩;rintro v h7 ⟨r7,rfl,R7⟩;have Z:=R6.comp R7;have M:=c.ac Z.ac c.lt;refine⟨r7,m9,⟨M.cell0 m9,M.cell m9,M.cell m9,I0⟩,?_⟩;refine(Fc p seed r7 (fo p) h7 (Z.seq 1 m9 λ_=>rfl) (by rw[fo,fE];omega)).mono ?_;rintro v h8 ⟨r8,rfl,R8⟩;have S:=Z.comp R8;refine⟨r8,m9,I0,?_⟩;refine(SV f r8 t _ _ (k+y) w h8 (S.box 0 m9) (S.oL 2 m9) (F.up S.ac) B.Ml (by rw[uS]) B.IK (Bx B.len) nb nb B.IL).Hf λr9 h9 R9=>?_;have Q9:=S.comp R9;refine⟨(r9,0),m9,I0,?_⟩;refine bm (λe=>absurd m9 e) λ_=>?_;have al:=c.ac Q9.ac c.lt;refine⟨p,al.aw _ m9,?_⟩;refine Q9.boxed (t:=281) λb ao ah=>?_;refine⟨λ_=>⟨b,r9,m9,?_⟩,λe=>absurd D e⟩;have Q:=(Sp.zip E.ac).comp ah;rw[<-B.Cj]at Q;exact Q.take 3 (λi A G=>by
    cases i with
    |zero=>exact G
    |succ i=>cases i with
     |zero=>exact G
     |succ i=>simp at G)
def IZ(h:hY)(b:fY)(p:Pm)(seed:Int)(M:aO):Prop:=∃m:Sl,bQ h b 281 (sC p seed m)/\eF h m 1 aq M
theorem IZ.up{h h':hY}{b:fY}{p:Pm}{seed:Int}{M:aO}(e:IZ h b p seed M)(a:aQ (λb=>b<h.size) h h'):IZ h' b p seed M:=by obtain⟨m,c,d⟩:=e;exact⟨m,c.ac a c.lt,d.up a⟩
theorem Ph{a t:Row}(b:m8 a=m8 t){k:Nat}(d:k<m8 t):(zj (λx y=>y^^^Gf.mul 1 x) (a.take k) (t.take k)++t.drop k).set k (t[k]^^^(a[k]'nb))=zj (λx y=>y^^^Gf.mul 1 x) (a.take (k+1)) (t.take (k+1))++t.drop (k+1):=by have:=ux (c:=1) b d;rw[Gf.one_mul]at this;exact this
theorem acY{a t:Row}(c:m8 a=m8 t){k:Nat}(d:k<m8 t):(zj (λx y=>y^^^Gf.mul 1 x) (a.take k) (t.take k)++t.drop k)[k]?=dB t[k]:=by
 have b:(zj (λx y=>y^^^Gf.mul 1 x) (a.take k) (t.take k)).length=k:=n2
 rw[qk nb,b,zd,wJ,yn,qc d]
theorem Pj(b:fY)(p:Pm)(seed id:Int)(M:aO)(n w:Nat)(h:hY)(hb:IZ h b p seed M)(N:bH p=eL)(T:p.2.2=w)(hn:(bD p).toNat=n)(Y:aU w M)(hl:m8 M=n):
  aj xT 179 #[xL (dB b),xJ xP id] h λv h'=>∃r:Sl,v=r/\Sp h h' [ai 5 r 1 aq (if bR id then jT w M (eG n seed id)else[])]:=by
 obtain⟨m,f,O⟩:=hb;have a0:=O.len;have a1:=(bI p).1 N;have hc:bD p=p.1+p.2.1:=by rw[bD,hZ N]
 refine ts Tryz.func179 ?_ (F8 (G0 [] [(4,5),(10,20)] (F8 (E5 (F8 (E7 (E8 [(37,aI)] [(7,10),(37,63)] (F8 (F8 (E5 (E7 (F8 (F8 (E7 (E8 [(49,aI)] [(8,10),(49,62)] E6))))) E6)))))) E6)))) [(4,(.l [0,1,2,3,4,5,6,7,8,11,9,10]))];have P:bR id=eR->∃r:Sl,Value.slice eH 0 0=xK r.ptr r.len r.cap/\Sp h h [ai 5 r 1 aq (if bR id then jT w M (eG n seed id)else[])]:=λe=>by
  rw[e];exact⟨⟨eH,0,0⟩,m9,(Sp.refl h).nil 5 1 aq⟩
 refine aE (aS (λe=>n5) λ_=>ae (λe=>P sL) λe1=>ae (λe=>P sL) λV=>?_);have hid:bR id=eL:=sL
 refine⟨b,m9,p.2.2,f.cell m9,?_⟩;refine(Sp.refl h).make ag aq cR nq 0 m9 m9 w w T T (qj _) nb λo h1 ab al Q=>?_;have B:=f.ac Q.ac f.lt;refine⟨b,m9,p,B.aw _ m9,b,m9,seed,B.cell m9,(wn p seed id h1).Hf λc h2 Z=>?_⟩;rw[N,hid,vd,hZ rfl,hn]at Z;rw[hid,hZ rfl];have I:=Q.comp Z;obtain⟨d,q⟩:=HF (eG n seed id)
 have D:∀x∈d,0<=x/\x<(n:Int):=λx W=>kw nb nb (by rw[<-q];exact W);have X:m8 d<=n:=by rw[q];exact mK nb nb _ _
 rw[<-q]at I⊢;have ad:=(I.seq 1 m9 λ_=>rfl).len;refine⟨c,m9,I0,?_⟩;refine ak (λi:Nat=>(i:Int)) (λi h'=>i<=m8 d/\Sp h h' [ai 5 o 1 aq (jT w M (d.take i)),ai 3 c 1 av d]) (λi=>m8 d-i) 0 m9 ⟨nb,I⟩ ?_;rintro i h3 ⟨F,j⟩;refine ae (λe=>?_) (λe=>?_)
 .have s:i<m8 d:=nb
  have W:=D _ (qe s);refine(j.seq 1 m9 λ_=>rfl).aW i m9 s _ m9 ?_;have G:=f.ac j.ac f.lt;refine⟨b,m9,m,G.cell m9,?_⟩;obtain⟨am,R⟩:=O;refine(R.ac j.ac).get d[i].toNat nb nb λr U K=>?_;have z:=R.row _ r _ K (qc (show d[i].toNat<m8 M by omega));obtain⟨row,g⟩:=HF (M[d[i].toNat]'nb)
  have ay:m8 row=w:=by rw[g];exact Y _ (qe _)
  rw[<-g]at U z;obtain⟨S,L⟩:=HF (jT w M (d.take i))
  have ax:m8 S=w:=by rw[L];exact oU Y hl D i F
  have ao:=U.len;have V:jT w M (d.take (i+1))=cN 1 row S:=by rw[aA _ _ s,Bw,L,g,be nb]
  rw[<-L]at j;refine ak (λk:Nat=>(k:Int)) (λk h'=>k<=w/\Sp h h' [ai 5 o 1 aq (zj (λx y=>y^^^Gf.mul 1 x) (row.take k) (S.take k)++S.drop k),ai 3 c 1 av d]) (λk=>w-k) 0 m9 ⟨nb,by simpa using j⟩ ?_;rintro k h4 ⟨hk,u⟩;have H:=z.ac u.ac;have ah:(zj (λx y=>y^^^Gf.mul 1 x) (row.take k) (S.take k)++S.drop k).length=w:=n2
  refine ae (λe3=>?_) (λe3=>?_)
  .have ap:k<w:=nb
   have E:(zj (λx y=>y^^^Gf.mul 1 x) (row.take k) (S.take k)++S.drop k)[k]'nb=S[k]'nb:=by have:=acY (a:=row) (t:=S) nb (show k<m8 S by omega);rw[qc nb]at this;exact z8.inj this
   refine H.aW k m9 nb _ m9 ?_;refine(u.seq 0 m9 λ_=>rfl).aW k m9 nb _ m9 ?_;rw[E,mi];refine u.set ag 0 m9 (λ_=>rfl) m9 k m9 nb _ m9 m9 m9 λh5 H5=>?_;refine⟨k+1,n7,⟨nb,?_⟩,nb⟩;rw[<-Ph nb (show k<m8 S by omega)];exact H5
  .have J:k=w:=nb
   subst J;rw[qh nb,qh nb,zh nb,qL]at u;refine⟨i+1,n7,⟨nb,?_⟩,nb⟩;rw[V];exact u
 .rw[qh nb]at j;exact⟨o,m9,j.take 0 λi A F=>by cases i with|zero=>exact F|succ i=>simp at F⟩
theorem gw.iW{p:Pm}{seed:Int}{d:Row}{K H w n:Nat}(B:gw p seed d K H w n):iW p seed d.length=0:=by rw[Qw.iW,B.may,B.full,B.len,B.k,B.s,ln (by rw[zS])];rfl
theorem acZ{p:Pm}{seed:Int}{d:Row}{K H w n:Nat}(B:gw p seed d K H w n)(data:Sl)(h:hY)(e:Rd h data 1 aq d)(c:data.len<=data.cap):
  aj xT 177 #[gx p,xJ xR seed,data] h λv h'=>
   ∃(b:fY) (m:Sl),v=.tuple #[xL (dB b),xJ xP 0]/\Sp h h' [dE 41 m 1 aq (kg p seed d),an b 281 (sC p seed m)]:=
 (Yy p seed data d h e c).mono λ_ _ a=>a.1 B.iW
theorem gw.symbol{p:Pm}{seed:Int}{d:Row}{K H w n:Nat}(B:gw p seed d K H w n)(b:fY)(id:Int)(h:hY)(a:IZ h b p seed (kg p seed d)):
  aj xT 179 #[xL (dB b),xJ xP id] h λv h'=>∃r:Sl,v=r/\Sp h h' [ai 5 r 1 aq (if bR id then jT w (kg p seed d) (eG n seed id)else[])]:=
 Pj b p seed id _ n w h a B.may B.s B.sP B.AG.2 B.AG.1
def AS(s:Ck):aR:=[.complex .f64 s.ax s.ay,.complex .f64 s.sx s.sy,xJ xP s.left,xJ xP s.leg,xN s.second]
theorem oF{o:Option Nat}(h:o.isSome=eL):o=dB (o.getD 0):=by
 cases o with
 |none=>cases h
 |some x=>rfl
theorem SX(h:hY):aj xT 315 #[] h λv h'=>∃a:fY,v=xL (dB a)/\Sp h h' [an a 347 (AS fs0)]:=by refine ts Tryz.func315 ?_;refine(Sp.refl h).boxed (t:=347) λa c b=>?_;exact⟨a,m9,b⟩
theorem VO(a b:Nat)(h:hY)(j:(ib.mul a 0).isSome=eL)(d:(ib.mul b oV).isSome=eL)(h3:(ib.sub (su a 0) (su b oV)).isSome=eL)(i:(ib.mul a oV).isSome=eL)(f:(ib.mul b 0).isSome=eL)(g:(ib.add (su a oV) (su b 0)).isSome=eL):
  aj xT 357 #[.complex .f64 a b,xJ xP 1] h λv h'=>v=.complex .f64 (tx a b) (ty a b)/\h'=h:=by
 refine ts Tryz.func357 ?_ (F8 (F9 [(0,(.sc (.cpx .f64))),(9,aI)] [(0,1),(9,14)])) (args:=[(.complex .f64 (a,b).1 (a,b).2),(1:Int)]);refine⟨nq,nq,?_⟩;refine ak (λk:Nat=>(if k=0 then(a,b)else(tx a b,ty a b),(k:Int))) (λk h'=>k<=1/\h'=h) (λk=>1-k) 0 m9 ⟨nb,m9⟩ ?_;rintro k h' ⟨l,rfl⟩;have c:xB (qd xP (xB 1 4+4)) 4=1:=nq
 try dsimp only
 rw[c];refine ae (λe=>?_) (λe=>?_)
 .have:k=0:=nb
  subst this;refine⟨(tx a b,ty a b),aaJ (oF j) (oF d) (oF h3) (oF i) (oF f) (oF g),?_⟩;exact⟨1,m9,⟨nb,m9⟩,nb⟩
 .have:k=1:=nb
  subst this;exact⟨m9,m9⟩
theorem Yz(a:fY)(s:Ck)(h:hY)(g:bQ h a 347 (AS s))(c:s.ok=eL):aj xT 316 #[xL (dB a)] h λv h'=>v=.tuple #[]/\bQ h' a 347 (AS s.on)/\aQ (λb=>b≠a.block) h h':=by
 simp only[Ck.ok,qz,decide_eq_true_eq]at c;obtain⟨⟨⟨⟨⟨⟨⟨⟨⟨⟨⟨E,J⟩,w⟩,K⟩,u⟩,F⟩,G⟩,A⟩,N⟩,y⟩,L⟩,B⟩:=c;refine ts Tryz.func316 ?_ (F8 (F8 (F8 (F8 (G0 [] [(33,44)] E6)))));have z:aa (λb=>b<h.size/\¬b=a.block) h h [an a 347 (AS s)]:=.LV (λb=>b=a.block) (λb i=>by rw[i];exact g.lt) ⟨g,m9⟩;have fin:∀{h':hY},aa (λb=>b<h.size/\¬b=a.block) h h' [an a 347 (AS s.on)]->Value.tuple #[]=.tuple #[]/\bQ h' a 347 (AS s.on)/\aQ (λb=>b≠a.block) h h':=λH=>
  ⟨m9,H.box 0 m9,H.ac.1,λk p l=>H.ac.2 k p ⟨p,l⟩⟩
 refine⟨a,m9,(s.ax,s.ay),g.cell0 m9,a,m9,(s.sx,s.sy),g.cell m9,(od s.ax s.sx,od s.ay s.sy),aaH (oF E) (oF J),a,m9,?_⟩;refine z.gO ag 0 m9 m9 [.complex .f64 (od s.ax s.sx) (od s.ay s.sy)] m9 m9 m9 (by simp[AS]) λO r=>⟨I0,?_⟩
 refine⟨a,m9,s.left,(r.box 0 m9).cell (j:=2) m9,a,m9,?_⟩;rw[af (s.left-1)];refine r.storeAt ag 0 m9 m9 (off:=2) m9 m9 m9 (by simp[AS]) λD d=>?_;refine⟨a,m9,s.left-1,(d.box 0 m9).cell (j:=2) m9,?_⟩;refine ae (λe=>?_) (λe=>?_)
 .have o:AS s.on=[.complex .f64 (od s.ax s.sx) (od s.ay s.sy),.complex .f64 s.sx s.sy,xJ xP (s.left-1),xJ xP s.leg,xN s.second]:=by rw[Ck.on,hZ e];rfl
  refine fin ?_;rw[o];exact d
 .refine⟨a,m9,(s.sx,s.sy),(d.box 0 m9).cell (j:=1) m9,(VO s.sx s.sy D w K u F G A).G6 ?_⟩;refine⟨(tx s.sx s.sy,ty s.sx s.sy),m9,a,m9,?_⟩;refine d.storeAt ag 0 m9 m9 (off:=1) m9 m9 m9 (by simp[AS]) λR f=>?_;refine bn (λ_ h'=>aa (λb=>b<h.size/\¬b=a.block) h h' [an a 347 [.complex .f64 (od s.ax s.sx) (od s.ay s.sy),.complex .f64 (tx s.sx s.sy) (ty s.sx s.sy),xJ xP (s.left-1),xJ xP (if s.second then s.leg+1 else s.leg),xN s.second]]) ?_ ?_
  .refine⟨a,m9,s.second,(f.box 0 m9).cell (j:=4) m9,aS (λm=>?_) λm=>?_⟩
   .refine⟨a,m9,s.leg,(f.box 0 m9).cell (j:=3) m9,a,m9,?_⟩;rw[af (s.leg+1)];refine f.storeAt ag 0 m9 m9 (off:=3) m9 m9 m9 (by simp[AS]) λM I=>?_;rw[hZ m];exact I
   .rw[k4 (by rw[m];decide)];exact f
  .rintro _ Q q;refine⟨a,m9,s.second,(q.box 0 m9).cell (j:=4) m9,a,m9,?_⟩;refine q.storeAt ag 0 m9 m9 (off:=4) m9 m9 m9 n4 λP t=>?_;refine⟨a,m9,_,(t.box 0 m9).cell (j:=3) m9,a,m9,?_⟩;refine t.storeAt ag 0 m9 m9 (off:=2) m9 m9 m9 n4 λh8 x=>?_;have o:AS s.on=[.complex .f64 (od s.ax s.sx) (od s.ay s.sy),.complex .f64 (tx s.sx s.sy) (ty s.sx s.sy),xJ xP (if s.second then s.leg+1 else s.leg),xJ xP (if s.second then s.leg+1 else s.leg),xN (!s.second)]:=by rw[Ck.on,k4 e];rfl
   refine fin ?_;rw[o];exact x
theorem QM(n:Nat)(h:hY)(j:n<64):aj xT 248 #[xJ xP n] h λv h'=>v=.complex .f64 (jG n).ax (jG n).ay/\Sp h h' []:=by
 refine ts Tryz.func248 ?_ (F8 (.scope 0 [(4,aI)] [(2,3),(4,5),(12,23)] [E6,E6,E6] [E6] []));refine ae (λe=>nb) λ_=>ae (λe=>nb) λ_=>?_;refine(SX h).mono ?_;rintro v l ⟨a,rfl,g⟩;refine⟨dB a,m9,?_⟩;refine ak (λk:Nat=>(k:Int)) (λk h'=>k<=n/\Sp h h' [an a 347 (AS (jG k))]) (λk=>n-k) 0 m9 ⟨nb,g⟩ ?_;rintro k f ⟨i,b⟩;refine aZ (λe=>?_) (λe=>?_)
 .have:k=n:=nb
  subst this;exact⟨a,m9,((jG k).ax,(jG k).ay),(b.box 0 m9).cell0 m9,m9,.zip b.ac⟩
 .refine(Yz a (jG k) f (b.box 0 m9) (adT k nb)).G7 λh3 ⟨c,d⟩=>⟨(),m9,k+1,n7,⟨nb,b.ng 0 m9 d c⟩,nb⟩
theorem Kf{a b:Int}(e:-4<=a:=by omega)(c:a<=4:=by omega)(h3:-4<=b:=by omega)(d:b<=4:=by omega):ib.sub (de a) (de b)=dB (de (a-b)):=by have:=acs (a+4).toNat nb (b+4).toNat nb;rw[show((a+4).toNat:Int)-4=a by omega,show((b+4).toNat:Int)-4=b by omega,show((a+4).toNat:Int)-((b+4).toNat:Int)=a-b by omega]at this;exact this
theorem Kg{a:Int}(c:-8<=a:=by omega)(b:a<=8:=by omega):ib.mul (de a) (de a)=dB (de (a*a)):=by have:=act (a+8).toNat nb;rw[show((a+8).toNat:Int)-8=a by omega]at this;exact this
theorem Nc(a:Int):((a.natAbs:Nat):Int)*(a.natAbs:Nat)=a*a:=Int.natAbs_mul_self
theorem VP{a b:Int}(e:-8<=a)(c:a<=8)(h3:-8<=b)(d:b<=8):ib.add (de (a*a)) (de (b*b))=dB (de (a*a+b*b)):=by have:=acu a.natAbs nb b.natAbs nb;rw[Nc,Nc]at this;exact this
def lZ(i j:Nat):Int:=((bz i).x-(bz j).x)*((bz i).x-(bz j).x)+((bz i).y-(bz j).y)*((bz i).y-(bz j).y)
theorem Ll{a:Int}(c:-8<=a)(b:a<=8):0<=a*a/\a*a<=64:=by rw[<-Nc,<-zS];have:a.natAbs*a.natAbs<=8*8:=zq nb nb;omega
theorem oG{n:Nat}(h:n<64):(jG n).ax=de (bz n).x/\(jG n).ay=de (bz n).y/\-4<=(bz n).x/\(bz n).x<=4/\-4<=(bz n).y/\(bz n).y<=4:=by have:=acr n h;simp only[qz,decide_eq_true_eq,beq_iff_eq]at this;obtain⟨⟨⟨⟨⟨a,b⟩,c⟩,d⟩,e⟩,f⟩:=this;exact⟨a,b,c,d,e,f⟩
theorem VQ{i j:Nat}(d:i<64)(c:j<64):0<=lZ i j/\lZ i j<=128:=by have a:=oG d;have b:=oG c;have f:=Ll (a:=(bz i).x-(bz j).x) nb nb;have e:=Ll (a:=(bz i).y-(bz j).y) nb nb;unfold lZ;omega
theorem YA(i j:Nat)(h:hY)(f:i<64)(d:j<64):aj xT 249 #[.complex .f64 (jG i).ax (jG i).ay,.complex .f64 (jG j).ax (jG j).ay] h λv h'=>v=.float .f64 (de (lZ i j))/\h'=h:=by
 have a:=oG f;have b:=oG d;refine ts Tryz.func249 ?_ (args:=[(.complex .f64 ((jG i).ax,(jG i).ay).1 ((jG i).ax,(jG i).ay).2),(.complex .f64 ((jG j).ax,(jG j).ay).1 ((jG j).ax,(jG j).ay).2)]);have e:ib.sub (jG i).ax (jG j).ax=dB (de ((bz i).x-(bz j).x)):=by rw[a.1,b.1];exact Kf
 have c:ib.sub (jG i).ay (jG j).ay=dB (de ((bz i).y-(bz j).y)):=by rw[a.2.1,b.2.1];exact Kf
 refine⟨(de ((bz i).x-(bz j).x),de ((bz i).y-(bz j).y)),aaI e c,_,Kg,_,Kg,_,VP nb nb nb nb,m9,m9⟩
abbrev pk:bO C.toAA 22 3 1 [xJ xP 0] 8:=⟨_,_,m9,m9,m9,m9,m9,m9⟩
def mV(a b:Int):Int:=if a<b then-1 else if a>b then 1 else 0
theorem Nd(m:Nat)(h:hY)(a:m<129):aj xT 318 #[.float .f64 (de (m:Nat))] h λv h'=>v=xN eR/\h'=h:=by refine ts Tryz.func318 ?_;have:=UM m a m a;rw[show(FloatKind.format .f64).order (de (m:Nat)) (de (m:Nat))=dB (compare m m)from this,Nat.compare_eq_eq.2 rfl];exact⟨m9,m9⟩
theorem VR(m n:Nat)(h:hY)(b:m<129)(c:n<129):aj xT 252 #[.float .f64 (de (m:Nat)),.float .f64 (de (n:Nat))] h λv h'=>v=xJ xP (mV m n)/\h'=h:=by
 refine ts Tryz.func252 ?_;refine(Nd m h b).mono ?_;rintro v a ⟨rfl,rfl⟩;refine⟨_,m9,(Nd n a c).G6 ?_⟩;refine⟨_,m9,aS (λe=>n5) λ_=>aS (λe=>n5) λ_=>?_⟩;have d:(FloatKind.format .f64).order (de (m:Nat)) (de (n:Nat))=dB (compare m n):=UM m b n c;rw[d];rcases vR m n with a|a|a
 .rw[Nat.compare_eq_lt.2 a];refine aS (λ_=>⟨by rw[mV,hZ nb],m9⟩) (λe=>n5)
 .subst a;rw[Nat.compare_eq_eq.2 rfl];refine aS (λe=>n5) λ_=>aS (λe=>n5) λ_=>⟨by rw[mV,k4 nb,k4 nb],m9⟩
 .rw[Nat.compare_eq_gt.2 a];refine aS (λe=>n5) λ_=>aS (λ_=>⟨by rw[mV,k4 nb,hZ nb],m9⟩) (λe=>n5)
theorem Kh(m:Int)(h:hY):aj xT 313 #[xJ xP m] h λv h'=>v=xN eR/\h'=h:=by refine ts Tryz.func313 ?_;exact⟨n4,m9⟩
theorem VS(m n:Int)(h:hY):aj xT 244 #[xJ xP m,xJ xP n] h λv h'=>v=xJ xP (mV m n)/\h'=h:=by refine ts Tryz.func244 ?_;refine(Kh m h).mono ?_;rintro v b ⟨rfl,rfl⟩;refine⟨_,m9,(Kh n b).G6 ?_⟩;refine⟨_,m9,aS (λe=>n5) λ_=>aS (λe=>n5) λ_=>?_⟩;refine ae (λe=>⟨by rw[mV,hZ e],m9⟩) λe=>ae (λa=>⟨by rw[mV,k4 e,hZ a],m9⟩) λa=>⟨by rw[mV,k4 e,k4 a],m9⟩
def QN(a b:Int):Int:=if a≠0 then a else b
theorem aaV(s:Sl)(a b:Int)(h:hY)(f:Rd h s 1 av [a,b]):aj xT 243 #[s] h λv h'=>v=xJ xP (QN a b)/\h'=h:=by
 refine AK s ?_;have l:s.len=2:=f.len;refine ak (λk:Nat=>(k:Int)) (λk h'=>h'=h/\k<=2/\(1<=k->a=0)/\(2<=k->b=0)) (λk=>2-k) 0 m9 ⟨m9,nb,nb,nb⟩ ?_;rintro k h' ⟨rfl,m,g,j⟩;refine ae (λe=>?_) (λe=>?_)
 .rcases(show k=0∨k=1 by omega)with rfl|rfl
  .refine f.aW 0 m9 n4 a m9 ?_;refine bm (λc=>⟨by rw[QN,hZ c],m9⟩) λc=>?_;exact⟨1,m9,⟨m9,nb,λ_=>c,nb⟩,nb⟩
  .refine f.aW 1 m9 n4 b m9 ?_;have d:=g nb;refine bm (λc=>⟨by rw[QN,k4 A4],m9⟩) λc=>?_;exact⟨2,m9,⟨m9,nb,λ_=>d,λ_=>c⟩,nb⟩
 .have d:=g nb;have i:=j nb;exact⟨by rw[QN,k4 A4,i],m9⟩
abbrev Fr:=Int×Fin 129
def uz(x:Fr):aR:=[xJ xP x.1,.float .f64 (de ((x.2:Nat):Int))]
def pm(x y:Fr):Int:=QN (mV (x.2:Nat) (y.2:Nat)) (mV x.1 y.1)
theorem Nf(x y:Fr)(h:hY):aj xT 251 #[xO (uz x).toArray,xO (uz y).toArray] h λv h'=>v=xJ xP (pm x y)/\aQ (λb=>b<h.size) h h':=by
 refine ts Tryz.func251 ?_ E6 [(1,(.l [0,1,2,3,5,6,7,8,4,9,10,11,12]))] (args:=[(xO #[(x.1,de ((x.2:Nat):Int)).1,(.float .f64 (x.1,de ((x.2:Nat):Int)).2)]),(xO #[(y.1,de ((y.2:Nat):Int)).1,(.float .f64 (y.1,de ((y.2:Nat):Int)).2)])]);refine(Sp.refl h).boxed (t:=288) λa i g=>?_;refine g.boxed (t:=288) λb f c=>?_;refine⟨_,(c.box 0 m9).cell (j:=1) m9,_,(c.box 1 m9).cell (j:=1) m9,_,(c.box 0 m9).cell0 m9,_,(c.box 1 m9).cell0 m9,?_⟩;refine(VR x.2 y.2 f x.2.isLt y.2.isLt).mono ?_;rintro v h3 ⟨rfl,rfl⟩;refine⟨_,m9,⟨(c.box 1 m9).cell0 m9,(c.box 0 m9).cell0 m9,I0⟩,(VS _ _ h3).mono ?_⟩;rintro v m ⟨rfl,rfl⟩;refine⟨_,m9,I0,?_⟩;refine c.lit ag av pk m9 [mV (x.2:Nat) (y.2:Nat),mV x.1 y.1] m9 (show 2*1<=2^20 by decide) m9 λs e d=>⟨I0,?_⟩
 refine(aaV s _ _ e (d.seq 2 m9 λ_=>rfl)).G6 ⟨_,m9,I0,m9,d.ac⟩
theorem QO{a b:Int}:mV a b<0↔a<b:=by unfold mV;split<;>(try split)<;>omega
theorem Ki{a b:Int}:mV a b=0↔a=b:=by unfold mV;split<;>(try split)<;>omega
theorem SY{x y:Fr}:ltOf pm x y=eL↔((x.2:Nat):Int)<(y.2:Nat)∨(((x.2:Nat):Int)=(y.2:Nat)/\x.1<y.1):=by
 have h0:ltOf pm x y=eL↔pm x y<0:=by simp[ltOf]
 rw[h0,pm,QN];by_cases h:mV (x.2:Nat) (y.2:Nat)=0
 .rw[k4 (by simp[h]),QO];have:=Ki.1 h;constructor
  .exactλa=>.inr ⟨this,a⟩
  .rintro(a|a)
   .omega
   .exact a.2
 .rw[hZ h,QO];have b:((x.2:Nat):Int)≠(y.2:Nat):=λe=>h (Ki.2 e);constructor
  .exact .inl
  .rintro(a|a)
   .exact a
   .exact absurd a.1 b
theorem oH{x y:Fr}:ltOf pm x y=eR↔¬(((x.2:Nat):Int)<(y.2:Nat)∨(((x.2:Nat):Int)=(y.2:Nat)/\x.1<y.1)):=by rw[<-SY];simp
theorem ada:Sort.SWO (ltOf pm) where
 irrefl x:=oH.2 nb
 trans x y z h1 h2:=by rw[SY]at*;omega
 ntrans x y z h1 h2:=by rw[oH]at*;omega
theorem adb(x y:Fr)(b:ltOf pm x y=eR)(a:ltOf pm y x=eR):x=y:=by rw[oH]at b a;refine Prod.ext nb (Fin.ext nb)
theorem Ng{e:TypeId}{s:Sl}{l:List Fr}{h:hY}(m:Own h e s 2 uz l)(c:m8 l<2^40):
  aj xT 250 #[s,.func (.func 251) #[] #[]] h λv h'=>v=.tuple #[]/\Own h' e s 2 uz (l.mergeSort λx y=>!(ltOf pm) y x)/\aQ (λb=>¬s.on b) h h':=by
 have i:∀x:Fr,(uz x).length=2:=λ_=>rfl;refine KC (P:=xT) (id_:=250) (g:=251) (enc:=uz) (k:=2) (cf:=pm) i ?_ ?_ (λx y h=>Nf x y h) m c
 .intro a cap l w n o j f;have:=AnyQ.slices_SortFunc_total Tryz.QF 2 Tryz.acC Tryz.aaP uz (λ_=>rfl) (λx v d=>by simp[uz]at d;rcases d with rfl|rfl<;>rfl) pm ada 251 #[] a 0 cap l.toArray w (enters_of Tryz.aaQ n9 m9) (by simpa using n) o j B6 adb;simp at this;exact this
 .intro p cap w;exact AnyF.slices_SortFunc_none Tryz.QF p cap _ w
def po(a:aC)(n:Int):aC:=if 0<=n/\n<64/\a.contains n=eR then a++[n]else a
def eT(l:aC):aC:=l.foldl po []
theorem rX(l:aC){k:Nat}(a:k<m8 l:=by omega):eT (l.take (k+1))=po (eT (l.take k)) l[k]:=by rw[eT,aA _ _ a,List.foldl_append];rfl
theorem Gg(l:aC):∀k,k<=m8 l->∀x,x∈eT (l.take k)↔x∈l.take k/\0<=x/\x<64
 |0,_,x=>by simp[eT]
 |k+1,hk,x=>by
  have c:=Gg l k nb;rw[rX l,aA _ _ (show k<m8 l by omega),po];by_cases h:0<=l[k]/\l[k]<64/\(eT (l.take k)).contains l[k]=eR
  .rw[hZ h,qw,qw,qB,c x];constructor
   .rintro(a|rfl)
    .exact⟨.inl a.1,a.2⟩
    .exact⟨.inr m9,h.1,h.2.1⟩
   .rintro⟨a|a,b⟩
    .exact .inl ⟨a,b⟩
    .exact .inr a
  .rw[k4 h,qw,qB,c x];constructor
   .rintro a;exact⟨.inl a.1,a.2⟩
   .rintro⟨a|rfl,b⟩
    .exact⟨a,b⟩
    .have:(eT (l.take k)).contains l[k]=eL:=by
      cases hc:(eT (l.take k)).contains l[k]with
      |true=>rfl
      |false=>exact absurd ⟨b.1,b.2,hc⟩ h
     exact(c _).1 (by simpa using this)
theorem HD(l:aC):∀k,k<=m8 l->(eT (l.take k)).Nodup
 |0,_=>by simp[eT]
 |k+1,hk=>by
  have c:=HD l k nb;rw[rX l,po];split
  .rename_i h;rw[List.nodup_append];refine⟨c,n4,λa e b d=>?_⟩;rw[qB.1 d];rintro rfl;have:=h.2.2;rw[vp]at this;simp[e]at this
  .exact c
theorem Nh(l:aC)(k:Nat):(eT (l.take k)).length<=k:=by
 induction k with
 |zero=>simp[eT]
 |succ k ih=>
  by_cases a:k<m8 l
  .rw[rX l a,po];split
   .simp;omega
   .omega
  .rw[qh nb]at ih⊢;omega
def sD(c:Nat)(n:Int):Fr:=(n,Fin.ofNat 129 (lZ n.toNat c).toNat)
theorem Ni{c:Nat}{n:Int}(a:c<64)(d:0<=n)(b:n<64):(((sD c n).2:Nat):Int)=lZ n.toNat c:=by have:=VQ (i:=n.toNat) (j:=c) nb a;show(((lZ n.toNat c).toNat%129:Nat):Int)=_;omega
def nK(c:Nat)(l:aC):aC:=(((eT l).map (sD c)).mergeSort λx y=>!(ltOf pm) y x).map (·.1)
def js(a block:Int)(l:aC):aC:=if 0<=a/\a<=16777215/\0<=block/\block<8 then nK ((8*a+block)%64).toNat l else[]
def rD(a:aC):aR:=(qy 64).map λi:Nat=>xN (a.contains (i:Int))
theorem aaW(a:aC){n:Int}(c:0<=n)(b:n<64):(rD a)[n.toNat]?=dB (xN (a.contains n)):=by rw[rD,qM,zo nb,zl,show((n.toNat:Nat):Int)=n by omega]
theorem YB(a:aC){n:Int}(d:0<=n)(c:n<64):(rD a).set n.toNat (xN eL)=rD (a++[n]):=by
 apply zn;intro i;rw[qV,rD,rD,qM,qM,qn,zL];by_cases b:i<64
 .rw[zo b,zl,zl];by_cases h:n.toNat=i
  .rw[hZ h,hZ nb,show((i:Nat):Int)=n by omega];simp
  .rw[k4 h];have:(a++[n]).contains (i:Int)=a.contains (i:Int):=by rw[vp,vp];simp;omega
   rw[this]
 .rw[k4 nb,zf n2];rfl
abbrev eFr:bO C.toAA 284 288 2 [xJ xP 0,.float .f64 0] 16:=⟨_,_,m9,m9,m9,m9,m9,m9⟩
theorem adc:∀x,∀c∈uz x,c.oneCell'=eL:=by intro x c a;simp[uz]at a;rcases a with rfl|rfl<;>rfl
theorem Pk(b block:Int)(live:Sl)(l:aC)(h:hY)(U:Rd h live 1 av l)(ad:m8 l<=2^30):
  aj xT 178 #[xJ xP b,xJ xP block,live] h λv h'=>∃r:Sl,v=r/\Sp h h' [ai 3 r 1 av (js b block l)]:=by
 have Y:=U.len;refine ts Tryz.func178 ?_ (F8 (G0 [] [(6,7),(15,29)] (F8 (F8 (F8 (E5 (F8 (E7 (E8 [(8,bJ),(37,aI)] [(8,9),(11,12),(37,65)] (F8 (F8 (E5 (E7 (F8 (G0 [(52,mR)] [(41,53)] E6))) E6)))))) (F8 (F8 (F9 [(12,bJ),(69,aI)] [(12,13),(14,15),(69,79)])))))))));have G:¬(0<=b/\b<=16777215/\0<=block/\block<8)->∃r:Sl,Value.slice eH 0 0=xK r.ptr r.len r.cap/\Sp h h [ai 3 r 1 av (js b block l)]:=λK=>by
  rw[js,k4 K];exact⟨⟨eH,0,0⟩,m9,(Sp.refl h).nil 3 1 av⟩
 refine aE (ae (λe=>G nb) λe1=>ae (λe=>G nb) λe2=>ae (λe=>G nb) λe3=>ae (λe=>G nb) λe4=>?_);have P:0<=b/\b<=16777215/\0<=block/\block<8:=nb
 rw[js,hZ P];rw[af (8*b),af (8*b+block),zT nb];obtain⟨c,hc⟩:∃c:Nat,(8*b+block)%64=c:=⟨((8*b+block)%64).toNat,nb⟩
 have j:c<64:=nb
 rw[hc,qi];refine⟨nq,(QM c h j).mono ?_⟩;rintro v h2 ⟨rfl,R2⟩;refine⟨((jG c).ax,(jG c).ay),m9,?_⟩;refine R2.alloc ag m9 λa h3 H3=>?_;have J:Sp h h3 [an a 232 (rD []),ai 288 ⟨eH,0,0⟩ 2 uz []]:=H3.nil 288 2 uz;refine ak (λt:Sl×Nat=>(t.1,(t.2:Int))) (λt h'=>t.2<=m8 l/\Sp h h' [an a 232 (rD (eT (l.take t.2))),ai 288 t.1 2 uz ((eT (l.take t.2)).map (sD c))]) (λt=>m8 l-t.2) (⟨eH,0,0⟩,0) m9 ⟨n4,J⟩ ?_;rintro⟨s,k⟩ X ⟨hk,m⟩;dsimp only at*;have z:=Nh l k;refine ae (λe=>?_) (λe=>?_)
 .have D:k<m8 l:=nb
  have F:=rX l D;obtain⟨f,w⟩:=HF (eT (l.take k))
  rw[<-w]at m z F;refine(Seq.up U m.ac).aW k m9 D _ m9 ?_;obtain⟨x,hx⟩:=HF (l[k])
  rw[<-hx]at F⊢;refine bn (λt h'=>(t=eL↔0<=x/\x<64/\f.contains x=eR)/\h'=X) ?_ ?_
  .refine ae (λp=>ae (λq=>?_) λq=>⟨⟨λe=>n5,λB=>absurd B.2.1 q⟩,m9⟩) λp=>⟨⟨λe=>n5,λB=>absurd B.1 p⟩,m9⟩;refine⟨⟨p,q⟩,f.contains x,?_,?_,m9⟩
   .rw[zG];exact(m.box 0 m9).cell (aaW f p q)
   .cases f.contains x<;>simp<;>omega
  .rintro t h5 ⟨T,rfl⟩;refine aS (λe=>?_) (λe=>?_)
   .obtain⟨p,q,x2⟩:=T.1 e;refine⟨⟨p,q⟩,?_⟩;rw[zG];refine m.storeAt ag 0 m9 m9 m9 m9 m9 (by simp[rD];omega) λL u=>?_;have N:Sp h L [an a 232 (rD (f++[x])),ai 288 s 2 uz (f.map (sD c))]:=by rw[<-YB f p q];exact u
    obtain⟨n,K⟩:∃n:Nat,x=n:=⟨x.toNat,nb⟩
    subst K;refine(QM n L nb).mono ?_;rintro v V ⟨rfl,R7⟩;refine⟨((jG n).ax,(jG n).ay),m9,(YA n c V nb j).mono ?_⟩;rintro v h8 ⟨rfl,rfl⟩;have H:=N.up R7.ac;have ev:de (lZ n c)=de (((sD c (n:Int)).2:Nat):Int):=by rw[Ni j nb nb,qi]
    refine⟨_,m9,?_⟩;rw[ev];refine H.push ag 1 m9 eFr m9 nq (λ_=>rfl) adc (sD c (n:Int)) m9 nq n2 λs' h9 O=>?_;refine⟨(s',k+1),n3,⟨n1,?_⟩,n1⟩
    try dsimp only
    rw[F,po,hZ ⟨p,q,x2⟩,qE];exact O
   .refine⟨(s,k+1),n3,⟨n1,?_⟩,n1⟩
    try dsimp only
    rw[F,po,k4 λB=>by rw[T.2 B]at e;cases e];exact m
 have S:k=m8 l:=nb
 subst S;rw[qt]at m z;refine(Ng (m.own 1 m9) n2).G7 λh5 ⟨R,Q⟩=>?_;have I:=m.oq 1 m9 Q R;obtain⟨d,g⟩:=HF (((eT l).map (sD c)).mergeSort λx y=>!(ltOf pm) y x)
 have ab:m8 d=(eT l).length:=by rw[g,wP,qn]
 have eo:nK c l=d.map (·.1):=by rw[nK,<-g]
 rw[<-g]at I;have W:=(I.own 1 m9).len;rw[eo];refine⟨(),m9,?_⟩;refine ak (λt:Sl×Nat=>(t.1,(t.2:Int))) (λt h'=>t.2<=m8 d/\Sp h h' [ai 288 s 2 uz d,ai 3 t.1 1 av ((d.take t.2).map (·.1))]) (λt=>m8 d-t.2) (⟨eH,0,0⟩,0) m9 ⟨n4,(I.del 0).nil 3 1 av⟩ ?_;rintro⟨o,i⟩ L ⟨M,u⟩;dsimp only at*;refine ae (λe=>?_) (λe=>?_)
 .have E:i<m8 d:=nb
  refine(u.seq 0 m9 λ_=>rfl).cQ i m9 E (d[i].1,de ((d[i].2:Nat):Int)) m9 ?_;refine u.alloc ag m9 λy V H7=>?_;refine H7.storeAll ag 2 m9 m9 [xJ xP d[i].1,.float .f64 (de ((d[i].2:Nat):Int))] m9 m9 m9 m9 λh8 H=>?_;refine⟨d[i].1,(H.box 2 m9).cell0 m9,?_⟩;refine H.push ag 1 m9 pk m9 nq (λ_=>rfl) dt d[i].1 m9 nq n2 λZ h9 O=>?_;refine⟨(Z,i+1),n3,⟨n1,?_⟩,n1⟩
  try dsimp only
  rw[aA _ _ E,qE];exact O.del 2
 .rw[qh nb]at u;exact⟨o,m9,u.take 1 λi A M=>by cases i with|zero=>exact M|succ i=>simp at M⟩
def gJ(c:Nat)(a b:Int):Prop:=lZ a.toNat c<lZ b.toNat c∨(lZ a.toNat c=lZ b.toNat c/\a<b)
theorem Nj(l:aC)(x:Int):x∈eT l↔x∈l/\0<=x/\x<64:=by
 have:=Gg l l.length (qj _) x
 rwa [qt]at this
theorem aaX(l:aC):(eT l).Nodup:=by
 have:=HD l l.length (qj _)
 rwa [qt]at this
theorem BL(c:Nat)(l:aC):(nK c l).Perm (eT l):=by have h:=(wb ((eT l).map (sD c)) λx y=>!(ltOf pm) y x).map (·.1);rw[y0]at h;have e:((λx:Fr=>x.1)∘sD c)=id:=rfl;rw[e,List.map_id]at h;exact h
theorem VT(c:Nat)(l:aC)(x:Int):x∈nK c l↔x∈l/\0<=x/\x<64:=by rw[(BL c l).mem_iff,Nj]
theorem YC(c:Nat)(l:aC):(nK c l).Nodup:=(BL c l).nodup_iff.2 (aaX l)
theorem Nk(c:Nat)(l:aC)(i:c<64):(nK c l).Pairwise (gJ c):=by
 have h:=wD (le:=λx y:Fr=>!(ltOf pm) y x) (by
  intro a b d f q;simp only[w8,oH]at*;omega) (by
  intro a b;cases f:ltOf pm b a with
  |false=>rfl
  |true=>
   have:ltOf pm a b=eR:=by rw[SY]at f;rw[oH];omega
   rw[this];rfl) ((eT l).map (sD c))
 have g:∀x∈((eT l).map (sD c)).mergeSort λx y:Fr=>!(ltOf pm) y x,x=sD c x.1/\0<=x.1/\x.1<64:=λx k=>by
  have:=(wb _ _).mem_iff.1 k;obtain⟨n,p,rfl⟩:=qI.1 this;exact⟨m9,((Nj l n).1 p).2⟩
 have e:=YC c l;unfold nK at e⊢;rw[vh];rw[List.nodup_iff_pairwise_ne,vh]at e;refine(h.and e).imp_of_mem λ{a b} ha hb hh=>?_;obtain⟨s,a0,u⟩:=g a ha;obtain⟨o,t,m⟩:=g b hb;have f:=hh.1;simp only[w8,oH]at f;have r:=Ni i a0 u;have j:=Ni i t m;rw[<-s]at r;rw[<-o]at j;have q:=hh.2;unfold gJ;omega
theorem Nl{c:Nat}{l o:aC}(g:c<64)(f:o.Perm (eT l))(d:o.Pairwise (gJ c)):nK c l=o:=by refine((BL c l).trans f.symm).eq_of_pairwise (le:=gJ c) ?_ (Nk c l g) d;intro a b _ _ h e;unfold gJ at h e;omega
def Lm(l:aC)(i:Nat):Int:=l.getD i 0
def nL(o:aC)(id:Int):Int:=if o=[]∨id<0 then-1 else Lm o (id%(m8 o:Int)).toNat
theorem aaY(s:Sl)(o:aC)(id:Int)(h:hY)(g:Rd h s 1 av o):aj xT 180 #[s,xJ xP id] h λv h'=>v=xJ xP (nL o id)/\h'=h:=by
 have f:=g.len;refine ts Tryz.func180 ?_ (F8 (G0 [] [(4,12)] E6));refine aE (aZ (λe=>⟨by rw[nL,hZ (.inl (qR nb))],m9⟩) λe=>ae (λb=>⟨by rw[nL,hZ (.inr b)],m9⟩) λb=>?_);refine⟨e,?_⟩;have d:¬(o=[]∨id<0):=by
  rintro(rfl|h2)
  .simp at f;omega
  .exact b h2
 have c:xB id ((s.len:Nat):Int)=((id%(m8 o:Int)).toNat:Int):=by rw[zT nb,f];have:=yz id (show(m8 o:Int)≠0 by omega);omega
 have a:(id%(m8 o:Int)).toNat<m8 o:=by have:=wq id (show(0:Int)<m8 o by omega);omega
 rw[c];refine g.aW _ m9 a _ m9 ⟨?_,m9⟩;rw[nL,k4 d,Lm,qg,qc a];rfl
def BM(p:Pm)(seed:Int)(d:Row)(id:Int):aT:=if bR id then jT p.2.2.toNat (kg p seed d) (eG (bD p).toNat seed id)else[]
def SZ(m:aB)(o b seed:Int)(d:Row)(id:Int):ct:=⟨o,b,id,m.p,seed,BM m.p seed d id⟩
def mW(m:aB)(o b seed:Int)(d:Row)(a:aC)(id:Int):Int×aT:=(nL a id,gn (SZ m o b seed d id))
def nM(m:aB)(o:Int)(tries:aC)(bl:dT)(live:aC)(i:Nat):List (Int×aT):=
 (qy (m.p.1+m.extra).toNat).map λid:Nat=>mW m o i (fx o i (tries.getD i 0)) (bl.getD i []) (js o i live) id
def dC(m:aB)(o:Int)(tries:aC)(bl:dT)(live:aC)(n:Nat):List (Int×aT):=(qy n).flatMap (nM m o tries bl live)
theorem ms(m:aB)(o:Int)(tries:aC)(bl:dT)(live:aC)(n:Nat):dC m o tries bl live (n+1)=dC m o tries bl live n++nM m o tries bl live n:=by unfold dC;rw[zC,za,zm,we,qL]
theorem BN(m:aB)(o:Int)(tries:aC)(bl:dT)(live:aC)(i:Nat):(nM m o tries bl live i).length=(m.p.1+m.extra).toNat:=by simp[nM]
theorem mX(m:aB)(o:Int)(tries:aC)(bl:dT)(live:aC):∀n,(dC m o tries bl live n).length=n*(m.p.1+m.extra).toNat
 |0=>by simp[dC]
 |n+1=>by rw[ms,qo,mX m o tries bl live n,BN,zU]
theorem Fh(o b t:Int):0<=fx o b t/\fx o b t<4294967296:=by unfold fx;omega
section
variable {pw:fY}
theorem KI(x:bc)(m:aB)(xe:dM)(e:Qw.cZ)(s:Sl)(b:aT)(hS:St B h0 As λh=>cv h x m/\fm gS h xe e/\Rd h s 1 aq b)(b7:s.len<=s.cap)(hz:bM m)(T:bH m.p=eL)(c9:0<=m.extra/\m.extra<=16)(c5:b.length<=2^20)
  (ht:cX m.p e.object (splitB m.p b).length=dB e.tries) (H:aa B h0 h (aJ bP a pw (aD x) offs da w ds::As)):
  aj xT 97 #[xL (dB a),MZ xe,s] h λv h'=>∃(r:Sl) (ys:List (Int×Sl)),v=.tuple #[r,xN eL]/\
   aa B h0 h' (aJ bP a pw (aD x) offs da w ds::cB ey 2 piv r ys (dC m e.object e.tries (splitB m.p b) (bh ds m.drives) (splitB m.p b).length)::As):=by
 refine ts Tryz.func97 ?_ (F8 (F8 (F8 (E5 (F8 (E7 (E8 [(9,bJ),(28,aI)] [(6,8),(9,18),(28,100)] (F8 (F8 (E5 (E7 (F8 (F8 (F8 (F8 (F8 (F8 (E7 (E8 [(9,bJ),(72,aI)] [(9,10),(16,18),(72,99)] (F8 (F8 (E5 (E7 (F8 (G0 [(17,(.sc .adr))] [(17,18),(75,89)] E6))) E6)))))))))))) E6)))))) E6)))) [(14,(.y [0,1,2,3,4,5,6,7,8,9,10,11] (.l [12,13,14,15]) (.l [14,12,13,15]))),(15,(.l [0,1,2,4,3,5,6,7,8,9]))] (args:=[(dB a),xe,s]);refine H.boxed λa1 h1 H1=>?_;have H1:=H1.ba;have H1:=H1.aF 2 [1,0];refine(fC x m (hS.at [_,_] H1).1 hz H1).Hf λlv h2 R2=>?_;have H2:=(H1.bS R2).aF 3 [1,0,2];obtain⟨ok,ah⟩:=aa.cF H2;obtain⟨a9,c7,bd⟩:=hS.at [_,_,_] H2;have ay:(x.2.2.1,x.2.2.2.1,x.2.2.2.2.1)=m.p:=a9.p;have cu:=(bI m.p).1 T;obtain⟨s1,s2,s3⟩:=ik T;obtain⟨c1,c2,c3⟩:=kq T b.length;have b1:(bh ds m.drives).length<=m.drives.length:=qK _ _;have c8:=hz.dr;obtain⟨live,ad⟩:=HF (bh ds m.drives)
 rw[<-ad]at H2 b1⊢;obtain⟨bl,G⟩:=HF (splitB m.p b)
 have ca:bl.length<=2^20:=by rw[G];unfold splitB;simp;omega
 have V:∀r∈bl,r.length=cS m.p:=by rw[G];intro r hr;unfold splitB at hr;obtain⟨i,_,rfl⟩:=qI.1 hr;exact JX _ _ _
 refine⟨lv,m9,a,m9,(x.2.2.1,x.2.2.2.1,x.2.2.2.2.1),⟨by rw[addr_add];exact ah.cell m9,by rw[addr_add];exact ah.cell m9,by rw[addr_add];exact ah.cell m9,I0⟩,?_⟩;rw[ay];refine(OS m.p s b h2 T bd b7 nb).Hf λq h3 R3=>?_;rw[<-G]at R3 ht⊢;obtain⟨rs,H3⟩:=Qw.aa.Ho (H2.bS R3) λ_=>rfl;have H3:=(H3.Ma 142 2 piv ey).ba;have H3:=H3.aF 5 [2,0,1,3,4];have cs:=(H3.dv 2 m9).1.len;have dy:=(H3.dv 2 m9).2.1;have dx:=kH ht;refine⟨q,m9,?_⟩;obtain⟨j,J⟩:∃j:Nat,j=(m.p.1+m.extra).toNat:=⟨_,rfl⟩
 have M:j<=32:=nb
 refine ak (λt:Sl×Nat=>(t.1,(t.2:Int))) (λt h'=>t.2<=bl.length/\aa B h0 h' (aJ bP a pw (aD x) offs da w ds::dP 142 t.1 2 piv ey (dC m e.object e.tries bl live t.2)::cB (gf 1 aq) 1 bv q rs bl::ai 3 lv 1 av live::an a1 83 (bf xe)::As)) (λt=>bl.length-t.2) (⟨eH,0,0⟩,0) m9 ⟨n4,H3⟩ ?_;rintro⟨o,i⟩ h4 ⟨hi,H4⟩;dsimp only at*;refine ae (λe1=>?_) (λe1=>?_)
 .have ax:i<bl.length:=nb
  have F4:=H4.dv 2 m9;have Y:=H4.box 4 m9;obtain⟨bb,a2,cr⟩:=hS.at [_,_,_,_,_] H4;obtain⟨_,b9⟩:=aa.cF H4;obtain⟨t,a5,cc⟩:=Dz ht i nb;have cf:e.tries.getD i 0=(t:Int):=by rw[qg,qc nb];exact a5
  have b6:bl.getD i []=bl[i]:=by rw[qg,qc ax];rfl
  have O:∀{h':hY},bQ h' a1 83 (bf xe)->hU h' (a1.add 1)=dB (xJ xP e.object):=λ{h'} hb=>by rw[<-a2.1.2.1];exact hb.cell m9
  have cp:∀{h':hY},bQ h' a 105 (cP (aD x) pw offs da)->bp h' (a.add 2) 0 [xJ xP m.p.1,xJ xP m.p.2.1,xJ xP m.p.2.2]:=λ{h'} hb=>by
   rw[<-ay];exact⟨oo,oo,oo,I0⟩
  have a4:=Fix.row F4 ax;refine F4.1.aW i m9 nb (rs[i]'nb) m9 ?_;refine⟨e.object,O Y,xe.2.2.2,Y.cell m9,?_⟩;refine Seq.aW (f:=av) a2.2 i m9 nb (t:Int) (by rw[a5];rfl) ?_;refine(sV _ _ _ h4).G6 ⟨_,m9,⟨Y.cell m9,I0⟩,a,m9,m.p,cp b9,?_⟩;obtain⟨seed,k⟩:=HF (fx e.object i t)
  have hg:=(Dy cc).2.1;have ab:fI m.p seed (fo m.p)=eL:=by rw[k];exact hg
  obtain⟨K,Hh,w',n,BK⟩:=ZM (seed:=seed) (d:=bl[i]) T ab (by rw[V _ (qe ax),s3]);rw[<-k];refine(acZ BK (rs[i]'nb) _ a4.1 a4.2).mono ?_;rintro _ h6 ⟨bk,mm,rfl,R6⟩;have H6:=(H4.comp R6).front;have H6:=H6.aF 7 [2,3,4,5,6,0,1];refine⟨(dB bk,0),m9,bm (λe2=>absurd m9 e2) λ_=>?_⟩;have ci:=H6.box 4 m9;refine⟨e.object,O ci,(Pk e.object i lv live h6 (H6.seq 3 m9 λ_=>rfl) nb).Hf λL h7 R7=>?_⟩;have H7:=(H6.bS R7).aF 8 [1,2,3,4,5,6,7,0];obtain⟨c,A⟩:=HF (js e.object i live)
  rw[<-A]at H7;have a6:=(aa.cF H7).2;have cb:x.2.2.1=m.p.1:=congrArg (·.1) ay;refine⟨L,m9,a,m9,x.2.2.1,a6.cell m9,a,m9,x.2.2.2.2.2.1,a6.cell m9,?_⟩;have en:qd xP (x.2.2.1+x.2.2.2.2.2.1)=(j:Int):=by rw[cb,bb.extra,af _];omega
  try dsimp only
  rw[en];have R:nM m e.object e.tries bl live i=(qy j).map λid:Nat=>mW m e.object i seed bl[i] c id:=by unfold nM;rw[cf,b6,<-k,<-A,<-J]
  have b5:(nM m e.object e.tries bl live i).length=j:=by rw[BN,<-J]
  obtain⟨E,I⟩:=HF (dC m e.object e.tries bl live i)
  have c4:E.length<=2^26:=by rw[I,mX,<-J];have:=zq (show i<=2^20 by omega) M;omega
  obtain⟨Q,hQ⟩:=HF (nM m e.object e.tries bl live i)
  rw[<-hQ]at R b5;rw[<-I]at H7;refine ak (λt:Sl×Nat=>(t.1,(t.2:Int))) (λt h'=>t.2<=j/\aa B h0 h' (aJ bP a pw (aD x) offs da w ds::dP 142 t.1 2 piv ey (E++Q.take t.2)::cB (gf 1 aq) 1 bv q rs bl::ai 3 lv 1 av live::an a1 83 (bf xe)::dE 41 mm 1 aq (kg m.p seed bl[i])::an bk 281 (sC m.p seed mm)::ai 3 L 1 av c::As)) (λt=>j-t.2) (o,0) m9 ⟨n4,by simpa using H7⟩ ?_;rintro⟨o2,id⟩ h8 ⟨hid,S⟩;dsimp only at*;refine ae (λe3=>?_) λe3=>?_
  .have cq:id<j:=nb
   have U:=S.box 4 m9;have X:=(aa.cF S).2;have F:IZ h8 bk m.p seed (kg m.p seed bl[i]):=⟨mm,S.box 6 m9,S.oL 5 m9⟩
   have P:BM m.p seed bl[i] id=if bR id then jT w' (kg m.p seed bl[i]) (eG n seed id)else[]:=by unfold BM;rw[BK.sP,show m.p.2.2.toNat=w' by have:=BK.s;omega]
   have held:∀{h':hY},aQ (λb=>b<h8.size) h8 h'->bK.ok [((a.add 2),xJ xP m.p.1),((a.add 2).add 1,xJ xP m.p.2.1),((a.add 2).add 2,xJ xP m.p.2.2),(a1.add 1,xJ xP e.object)] h':=λ{h'} T=>by
    obtain⟨q1,q2,q3,_⟩:=cp (X.ac T X.lt);exact⟨q1,q2,q3,O (U.ac T U.lt),I0⟩
   refine bn (λ(a0:fY) h'=>∃r:Sl,aa B h0 h' (an a0 128 (bB (e.object,(i:Int),(id:Int),m.p.1,m.p.2.1,m.p.2.2,seed,r))::ai 5 r 1 aq (BM m.p seed bl[i] id)::aJ bP a pw (aD x) offs da w ds::dP 142 o2 2 piv ey (E++Q.take id)::cB (gf 1 aq) 1 bv q rs bl::ai 3 lv 1 av live::an a1 83 (bf xe)::dE 41 mm 1 aq (kg m.p seed bl[i])::an bk 281 (sC m.p seed mm)::ai 3 L 1 av c::As)) ?_ ?_
   .refine⟨e.object,O U,a,m9,m.p,cp X,?_,?_⟩
    .refine(BK.symbol bk id h8 F).Hf λr h9 R9=>?_;rw[<-P]at R9;have H9:=S.bS R9;refine⟨r,m9,held R9.ac,H9.ub ag m9 λa28 c6 b0 ao=>⟨held (aa.up R9 b0).ac,?_⟩⟩;have ao:=ao.ba;refine ao.storeAll ag 0 m9 m9 (bB (e.object,(i:Int),(id:Int),m.p.1,m.p.2.1,m.p.2.2,seed,r)) m9 m9 m9 m9 λd0 br=>⟨I0,r,br⟩
    .refine S.ub ag m9 λc0 b2 W ap=>⟨held W,?_⟩
     have ap:=ap.ba;refine(BK.symbol bk id b2 (F.up W)).Hf λr dd Z=>?_;rw[<-P]at Z;have b3:=(ap.bS Z).aF 2 [1,0];refine⟨r,m9,held (aa.up (Sp.zip W) Z.ac).ac,?_⟩;refine b3.storeAll ag 0 m9 m9 (bB (e.object,(i:Int),(id:Int),m.p.1,m.p.2.1,m.p.2.2,seed,r)) m9 m9 m9 m9 λdk bq=>⟨I0,r,bq⟩
   .rintro a0 b4 ⟨r,N⟩;have g:=N.box 0 m9;have am:=Fh e.object i t;rw[<-k]at am;refine⟨(e.object,(i:Int),(id:Int),m.p.1,m.p.2.1,m.p.2.2,seed,r),g.aw _ m9,(aaY L c id b4 (N.seq 9 m9 λ_=>rfl)).mono ?_⟩;rintro _ cn ⟨rfl,rfl⟩;refine⟨_,m9,⟨g.cell0 m9,g.cell m9,g.cell m9,g.cell m9,g.cell m9,g.cell m9,g.cell m9,g.cell m9,I0⟩,?_⟩;refine(Aj (e.object,(i:Int),(id:Int),m.p.1,m.p.2.1,m.p.2.2,seed,r) (SZ m e.object i seed bl[i] id) cn ⟨⟨m9,m9,m9,m9,m9,am.1,am.2⟩,N.seq 1 m9 λ_=>rfl⟩).Hf λu cy a8=>?_;have a7:=(N.bS a8).dY 0 m9 (D:=EA ey (nL c id,u) (mW m e.object i seed bl[i] c id)) λz hz=>⟨m9,hz.1.seq (λ_=>rfl) hz.2⟩
    have a3:Q[id]'nb=mW m e.object i seed bl[i] c id:=by simp[R]
    refine⟨u,m9,I0,?_⟩;refine a7.ko ag piv MM m9 [(nL c id,u)] m9 (show 1*2<=2^20 by decide) m9 I0 ?_;refine aa.En ag a7 4 0 nq (a:=(nL c id,u)) m9 m9 MM m9 nq (λ_=>rfl) tC (parts:=#[(0,xO #[xJ xP (nL c id),u])]) n9 nq n2 λo3 du cd=>⟨I0,?_⟩
    refine⟨(o3,id+1),n3,⟨n1,?_⟩,n1⟩
    try dsimp only
    rw[aA Q id,a3,<-ql];exact cd.rest.rest.rest
  .have al:id=j:=nb
   subst al;rw[qh nb]at S;refine⟨(o2,i+1),n3,⟨n1,?_⟩,n1⟩
   try dsimp only
   rw[ms,<-I,<-hQ];exact S.aF 8 [0,1,2,3,4]
 .have al:i=bl.length:=nb
  subst al;obtain⟨ys,H5⟩:=H4.FI 1 rfl λ_=>rfl;exact⟨o,ys,m9,H5.aF 5 [0,1]⟩
end
def ck(a:Nat)(l:List (Int×aT))(k:Int):Int:=(a:Int)+(l.filter λy=>decide (y.1=k)).length
theorem VU(k:Int)(d c:fY)(a:Nat)(r:Sl)(w:List (Int×Sl))(l:List (Int×aT))(h:hY)(z:a<=2^30)(E:m8 l<=2^30)(q:bQ h d 3 [xJ xP a])(u:bQ h c 137 [r])(p:gE ey 2 piv h r w l):
  aj xT 99 #[xJ xP k,xL (dB d),xL (dB c)] h λv h'=>v=xJ xP (ck a l k)/\Sp h h' []:=by
 refine ts Tryz.func99 ?_ (F8 (F8 (F9 [(5,aI),(11,aI)] [(5,6),(7,8),(11,22)]))) (args:=[(k:Int),d,c]);have D:=p.1.len;have B:=p.2.1;refine⟨(a:Int),q.cell0 m9,r,u.cell0 m9,?_⟩;refine ak (λi:Nat=>(ck a (l.take i) k,(i:Int))) (λi h'=>i<=m8 l/\Sp h h' []) (λi=>m8 l-i) 0 (by simp[ck]) ⟨nb,Sp.refl h⟩ ?_;rintro i G ⟨I,s⟩
 try dsimp only
 have x:(((l.take i).filter λy=>decide (y.1=k)).length:Int)<=i:=by have:=qK (λy:Int×aT=>decide (y.1=k)) (l.take i);simp at this;omega
 refine ae (λe=>?_) λe=>?_
 .have f:i<m8 l:=nb
  have m:=gE.up p s.ac;refine m.1.cQ (g:=piv) i m9 nb (w[i]'nb) m9 ?_;refine s.alloc ag m9 λF H A=>?_;refine A.storeAll ag 0 m9 m9 (piv (w[i]'nb)) m9 m9 m9 m9 λh3 t=>?_;have j:=Fix.row m f;have b:ck a (l.take (i+1)) k=ck a (l.take i) k+(if l[i].1=k then 1 else 0):=by
   unfold ck;rw[aA _ _ f,zi,qo,zA,wY];split
   .rename_i o;rw[hZ (m6 o)];simp;omega
   .rename_i o;rw[k4 B3];simp
  refine⟨l[i].1,by rw[<-j.1];exact(t.box 0 m9).cell0 m9,aZ (λg=>?_) λg=>?_⟩
  .refine⟨i+1,?_,⟨nb,.zip t.ac⟩,nb⟩;rw[b,hZ g,af (ck a (l.take i) k+1) (by unfold ck;omega) (by unfold ck;omega),af _];rfl
  .refine⟨i+1,?_,⟨nb,.zip t.ac⟩,nb⟩;rw[b,k4 g,Int.add_zero,af _];rfl
 .rw[qh nb];exact⟨m9,s⟩
def ez(m:aB)(e:Int)(w:Pow)(a:aG)(c:ByteArray)(b:aT):Int×aB×Pow×aG:=
 if dI m (gy w e) a c b.length≠0 then(dI m (gy w e) a c b.length,m,w,a)else
 match cX m.p m.next (splitB m.p b).length with
 |none=>(8,m,w,a)
 |some t=>
  let live:=bh a m.drives;let l:=dC m m.next t (splitB m.p b) live (splitB m.p b).length;let n:=nR m ⟨c,m.next,m8 b,t⟩;let N:=ck (bG n).length l
  if iz m a live N=eR then(7,m,w,a)else
  if(makes m N live w a).1≠0 then((makes m N live w a).1,m,(makes m N live w a).2)else
  let d:=layAll l (makes m N live w a).2.1 (makes m N live w a).2.2
  if d.1≠0 then(d.1,m,d.2)else
  ((layAll (bi n live) d.2.1 d.2.2).1,if(layAll (bi n live) d.2.1 d.2.2).1=0 then n else m,(layAll (bi n live) d.2.1 d.2.2).2)
theorem uA{m:aB}{d:Bool}{b:aG}{a:ByteArray}{n:Nat}(h:dI m d b a n=0):
  d=eR/\gU a=eL/\m.objs.any (dH a)=eR/\¬(m.p.1*m.p.2.2*8<(n:Int)∨12<=m8 m.objs)/\¬(bh b m.drives=[]∨16777215<m.next∨2147483647<=m.seq):=by
 unfold dI at h
 grind
theorem QP{m:aB}{b:aT}(a:bH m.p=eL)(h:¬m.p.1*m.p.2.2*8<(m8 b:Int)):(splitB m.p b).length<=8:=by obtain⟨f,c,e⟩:=ik a;obtain⟨d,g,c3⟩:=kq a b.length;unfold splitB;rw[qn,zL];refine Nat.le_of_not_lt λh8=>?_;have:=c3 8 nb;omega
theorem ade{o:aC}(c:o≠[])(id:Nat):nL o id∈o:=by
 unfold nL Lm;have b:0<m8 o:=n8
 have a:((id)%(m8 o:Int)).toNat<m8 o:=by have:=wq (id) (show(0:Int)<m8 o by omega);omega
 grind
theorem Gh{m:aB}{o:Int}{tries:aC}{bl:dT}{live:aC}(q:0<=o/\o<=16777215)(j:live≠[])(f:∀k∈live,0<=k/\k<64){n:Nat}(p:n<=8){y:Int×aT}(e:y∈dC m o tries bl live n):y.1∈live/\y.2.length<=64:=by
 obtain⟨i,r,e⟩:=List.mem_flatMap.1 e;obtain⟨id,_,rfl⟩:=qI.1 e;refine⟨?_,?_⟩
 .have c:js o i live=nK ((8*o+i)%64).toNat live:=by unfold js;grind
  have b:∀a,a∈js o i live↔a∈live/\0<=a/\a<64:=λa=>by rw[c];exact VT _ _ _
  have d:js o i live≠[]:=λh=>by
   cases live with
   |nil=>grind
   |cons a l=>
    have:=(b a).2 ⟨qS,f a qS⟩
    grind
  exact((b _).1 (ade d id)).1
 .show(gn _).length<=64;unfold gn;split
  .rename_i g;refine Nat.le_of_eq (nE nq nq ?_);have:=rN g;omega
  .simp
theorem aaZ{m:aB}{e:Qw.cZ}(b:bM m)(g:m.objs.length<=11)(d:e.name.size<=2^30)(c:e.tries.length<=2^30):bM (nR m e):=by
 refine⟨b.dr,?_,λf a=>?_⟩
 .show((m.objs++[e]).mergeSort nh).length<=2^30;rw[wP];simp;omega
 .have a:f∈(m.objs++[e]).mergeSort nh:=a;rcases qw.1 ((wb _ _).mem_iff.1 a)with h|h
  .exact b.nm f h
  .rw[qB.1 h];exact⟨d,c⟩
section
variable {pw:fY}
theorem YD(x:bc)(m:aB)(c:ByteArray)(s:Sl)(b:aT)(hS:St B h0 As λh=>Rd h s 1 aq b)(c1:s.len<=s.cap)(hn:c.size<=2^40)(W:bM m)(hp:bH m.p=eL)(cu:0<=m.extra/\m.extra<=16)(c7:∀k∈m.drives,0<=k/\k<64)(cy:m.drives.length<=64)(cn:0<=m.seq)(a2:0<=m.next)(b9:b.length<=2^20)
  (H:aa B h0 h (aJ bP a pw (aD x) offs da w ds::bo x m::As)):
  aj xT 34 #[xL (dB a),xM c,s] h λv h'=>v=xJ xP (ez m offs w ds c b).1/\
   ∃y,aa B h0 h' (aJ bP a pw (aD y) offs da (ez m offs w ds c b).2.2.1 (ez m offs w ds c b).2.2.2::bo y (ez m offs w ds c b).2.1::As):=by
 refine ts Tryz.func34 ?_ (F8 (F8 (F8 (G0 [(9,bJ),(10,mR)] [(9,11),(34,53)] (F8 (F8 (F8 (F8 (G0 [(12,(.sc .adr)),(13,bJ)] [(12,14),(66,74)] E6))))))))) [(12,(.y [0,1,2,3,4,6] (.y [5] (.l [7,8,9,10]) (.l [8,7,9,10])) (.l [8,5,7,9,10])))];have a0:=(hS.at [_,_] H).len;refine(Nb x m c s b.length a0 hn (H.at 1 m9) W hp H).G7 λh1 R1=>?_;have H1:=H.up R1.ac;refine⟨_,m9,bm (λe=>?_) λe1=>?_⟩
 .have ep:ez m offs w ds c b=(dI m (gy w offs) ds c b.length,m,w,ds):=by unfold ez;rw[hZ e]
  rw[ep];exact⟨m9,x,H1⟩
 obtain⟨z1,z2,z3,z4,z5⟩:=uA e1;have b4:¬m.p.1*m.p.2.2*8<(b.length:Int):=λh=>z4 (.inl h);have a5:m.objs.length<=11:=by have:¬12<=m.objs.length:=λh=>z4 (.inr h);omega
 have b3:bh ds m.drives≠[]:=λh=>z5 (.inl h);have cq:m.next<=16777215:=by have:¬16777215<m.next:=λh=>z5 (.inr (.inl h));omega
 have d9:m.seq<=2147483646:=by have:¬2147483647<=m.seq:=λh=>z5 (.inr (.inr h));omega
 have h8:=QP hp b4;have dy:c.size<=12:=by unfold gU at z2;simp at z2;omega
 have b6:=(aa.cF H1).2;have bq:cv h1 x m:=H1.at 1 m9;refine⟨a,m9,x.2.1,b6.cell m9,H1.alloc ag m9 λa4 h2 H2=>?_⟩;have H2:=H2.ba;refine H2.storeAll ag 0 m9 m9 (bf (c,x.2.1,(s.len:Int),⟨eH,0,0⟩)) m9 m9 m9 m9 λh3 H3=>?_;have H3:aa B h0 h3 (an a4 83 (bf (c,m.next,(b.length:Int),⟨eH,0,0⟩))::aJ bP a pw (aD x) offs da w ds::bo x m::As):=by rw[<-bq.next,<-a0];exact H3
 have cp:∀{h':hY},bQ h' a 105 (cP (aD x) pw offs da)->bp h' (a.add 2) 0 [xJ xP m.p.1,xJ xP m.p.2.1,xJ xP m.p.2.2]:=λ{h'} hb=>by
  rw[<-bq.p];exact⟨oo,oo,oo,I0⟩
 obtain⟨R,K⟩:=HF ((splitB m.p b).length)
 have a6:countP m.p (s.len:Nat)=(R:Int):=by have:=(kq hp b.length).1;rw[K,a0];unfold splitB;rw[qn,zL];omega
 refine bn (λ(t:Sl×Bool) h'=>(cX m.p m.next R=eH->t.2=eR/\aa B h0 h' (aJ bP a pw (aD x) offs da w ds::bo x m::As))/\(∀l,cX m.p m.next R=dB l->t.2=eL/\aa B h0 h' (ai 3 t.1 1 av l::an a4 83 (bf (c,m.next,(b.length:Int),⟨eH,0,0⟩))::aJ bP a pw (aD x) offs da w ds::bo x m::As))) ?_ ?_
 .have b5:=H3.box 0 m9;have V:=(aa.cF (H3.aF 3 [1,0,2])).2;refine⟨a,m9,m.p,cp V,m.next,b5.cell m9,a,m9,m.p,cp V,(sT m.p s.len h3).G7 λh4 R4=>?_⟩;have H4:=H3.up R4.ac;have c4:=V.ac R4.ac V.lt;obtain⟨q1,q2,q3,_⟩:=cp c4;refine⟨_,m9,⟨(H4.box 0 m9).cell m9,q1,q2,q3,I0⟩,?_⟩;rw[a6];refine(SP m.p m.next R h4 nb).mono ?_;rintro _ h5 ⟨T0,T1⟩;cases ht:cX m.p m.next R with
  |none=>
   obtain⟨rfl,R5⟩:=T0 ht;exact⟨(⟨eH,0,0⟩,eR),m9,I0,λ_=>⟨m9,(H4.up R5.ac).aF 3 [1,2]⟩,λl h=>p9⟩
  |some l=>
   obtain⟨r,rfl,R5⟩:=T1 l ht;exact⟨(r,eL),m9,I0,λh=>p9,λl' h=>(by injection h with h;subst h;exact⟨m9,H4.bS R5⟩)⟩
 rintro⟨D,tb⟩ h6 ⟨T0,T1⟩;dsimp only at T0 T1⊢;cases ht:cX m.p m.next R with
 |none=>
  obtain⟨rfl,H6⟩:=T0 ht;have ep:ez m offs w ds c b=(8,m,w,ds):=by unfold ez;rw[k4 o4,<-K,ht]
  rw[ep];exact aH (λ_=>⟨m9,x,H6⟩) λe=>n5
 |some t=>
  obtain⟨rfl,H6⟩:=T1 t ht;refine aH (λe=>n5) λ_=>?_;have eh:=kH ht;refine H6.store ag 1 m9 m9 3 [D] m9 m9 m9 n4 λh7 H7=>?_;obtain⟨e,he⟩:∃e:Qw.cZ,e=⟨c,m.next,b.length,t⟩:=⟨_,rfl⟩
  have H7:aa B h0 h7 (ai 3 D 1 av e.tries::an a4 83 (bf (c,m.next,(b.length:Int),D))::aJ bP a pw (aD x) offs da w ds::bo x m::As):=by rw[he];exact H7
  have H7:=H7.aF 4 [2,3,0,1];have b7:St B h0 (bo x m::ai 3 D 1 av e.tries::an a4 83 (bf (c,m.next,(b.length:Int),D))::As) λh=>cv h x m/\fm gS h (c,m.next,(b.length:Int),D) e/\Rd h s 1 aq b:=λBs h' i=>
   ⟨(St.dS 0 m9 λ_ o=>o) Bs h' i,(St.dS (A:=ai 3 D 1 av e.tries) (Q:=λh=>fm gS h (c,m.next,(b.length:Int),D) e) 1 m9 λh' o=>⟨by rw[he];exact⟨m9,m9,m9⟩,o.1.seq (λ_=>rfl) o.2⟩) Bs h' i,(hS.cons.cons.cons) Bs h' i⟩
  refine⟨(c,m.next,(b.length:Int),D),(H7.box 3 m9).aw _ m9,?_⟩;refine(KI x m (c,m.next,(b.length:Int),D) e s b b7 c1 W hp cu b9 (by rw[he,<-K];exact ht) H7).mono ?_;rintro _ d5 ⟨r,ys,rfl,H8⟩;obtain⟨live,d⟩:=HF (bh ds m.drives)
  obtain⟨l,hl⟩:=HF (dC m m.next t (splitB m.p b) live R)
  have dd:dC m e.object e.tries (splitB m.p b) (bh ds m.drives) (splitB m.p b).length=l:=by rw[hl,he,<-d,<-K]
  rw[dd]at H8;refine⟨(r,eL),m9,H8.alloc ag m9 λj h9 H9=>?_⟩;have H9:=H9.ba;refine H9.storeAll ag 0 m9 m9 [r] m9 m9 m9 m9 λcb E=>?_;refine aH (λe=>n5) λ_=>?_;obtain⟨n,Y⟩:=HF (nR m e)
  have E:=(E.freeze 4 m9 λ_=>rfl).aF 6 [4,1,3,2,0,5];have dr:((c,m.next,(b.length:Int),D):dM).1=e.name/\((c,m.next,(b.length:Int),D):dM).2.1=e.object/\((c,m.next,(b.length:Int),D):dM).2.2.1=e.length:=by rw[he];exact⟨m9,m9,m9⟩
  have L:∀{h':hY} {Cs:List HP},aa B h0 h' (Ae D 1 av e.tries::Cs)->cv h' x m->aj xT 98 #[cC x,MZ (c,m.next,(b.length:Int),D)] h' λv c6=>∃y:bc,v=cC y/\aa B h0 c6 (bo y n::Cs):=λ{h' Cs} i hx'=>by
   rw[Y];exact VJ x m _ e hx' W ⟨cn,nb⟩ ⟨a2,nb⟩ a5 dr i
  have O:=(aa.cF (E.aF 2 [1,0])).2;have M:=E.box 5 m9;have bd:cv cb x m:=E.at 2 m9;refine bn (λ(t:fY×Sl) h'=>∃y,aa B h0 h' (aJ bP a pw (aD x) offs da w ds::bo x m::cB ey 2 piv r ys l::an j 137 [r]::an t.1 27 (aD y)::bo y n::ai 3 t.2 1 av live::As)) ?_ ?_
  .refine⟨a,m9,x,O.aw _ m9,(c,m.next,(b.length:Int),D),M.aw _ m9,?_,?_⟩
   .refine(L E bd).Hf λy en J=>?_;have J:=J.aF 6 [1,2,3,4,0];refine⟨y,m9,I0,?_,?_⟩
    .refine(fC x m (J.at 1 m9) W J).Hf λI d6 a7=>?_;rw[<-d]at a7;have c8:=J.bS a7;refine⟨I,m9,I0,c8.alloc ag m9 λd1 eb ax=>⟨I0,?_⟩⟩;have ax:=ax.ba;refine ax.storeAll ag 0 m9 m9 (aD y) m9 m9 m9 m9 λef b2=>⟨I0,y,?_⟩
     exact b2.aF 7 [2,3,4,5,0,6,1]
    .refine J.alloc ag m9 λa22 ea Z=>⟨I0,?_⟩
     have Z:=Z.ba;have al:=Z.aF 6 [1,2,3,4,5,0];refine(fC x m (al.at 1 m9) W al).Hf λI el bk=>?_;rw[<-d]at bk;have cr:=(Z.bS bk).aF 2 [1,0];refine⟨I,m9,I0,cr.storeAll ag 0 m9 m9 (aD y) m9 m9 m9 m9 λdx c0=>⟨I0,y,?_⟩⟩;exact c0.aF 7 [2,3,4,5,0,6,1]
   .refine E.ub ag m9 λed d7 a3 ad=>?_;have f:=O.ac a3 O.lt;have G:=M.ac a3 M.lt;refine⟨⟨G.cell0 m9,G.cell m9,G.cell m9,G.cell m9,f.cell0 m9,f.cell m9,f.cell m9,f.cell m9,f.cell m9,f.cell m9,f.cell m9,f.cell m9,I0⟩,?_⟩;have ad:=(ad.ba).aF 7 [1,0,2,3,4,5];refine(L ad (ad.at 3 m9)).Hf λy eg c9=>?_;have P:=c9.aF 6 [2,3,4,5,0,1];refine⟨y,m9,I0,(fC x m (P.at 1 m9) W P).Hf λI ek b0=>?_⟩;rw[<-d]at b0;have c2:=(P.bS b0).aF 7 [6,0,1,2,3,4,5];refine⟨I,m9,I0,c2.storeAll ag 0 m9 m9 (aD y) m9 m9 m9 m9 λec ca=>⟨I0,y,?_⟩⟩;exact ca.aF 7 [2,3,4,5,0,6,1]
  rintro⟨am,I⟩ cd ⟨y,ab⟩;dsimp only at ab⊢;have ay:bM n:=by rw[Y];exact aaZ W a5 (by rw[he];show c.size<=2^30;omega) (by rw[he];show t.length<=2^30;omega)
  have du:n.drives=m.drives:=by rw[Y];rfl
  have d4:live.length<=64:=by rw[d];exact qX (qK _ _) cy
  have q:∀k∈live,0<=k/\k<64:=λk hk=>by rw[d]at hk;exact c7 k (qJ.1 hk).1
  have b1:(m.p.1+m.extra).toNat<=32:=by have:=(bI m.p).1 hp;omega
  have d0:l.length<=256:=by rw[hl,mX];exact zq (show R<=8 by omega) b1
  have dk:∀z∈l,(0<=z.1/\z.1<64)/\z.2.length<=2^20:=λz a9=>by
   rw[hl]at a9;obtain⟨p1,p2⟩:=Gh (m:=m) ⟨a2,cq⟩ (by rw[d];exact b3) q (show R<=8 by omega) a9;exact⟨q _ p1,qX p2 nq⟩
  refine⟨y,(ab.box 4 m9).aw _ m9,(lV y n cd (ab.at 5 m9) ay).Hf λpg d8 a8=>?_⟩;have ah:=(aa.lC a8).1;have br:=jJ n ay;obtain⟨pn,bb⟩:=HF ((bG n).length)
  rw[<-bb]at ah br;have ci:=ab.up a8.ac;refine⟨pg,m9,ci.alloc ag m9 λu d2 ap=>?_⟩;have ap:=ap.ba;refine ap.storeAll ag 0 m9 m9 [xJ xP (pg.len:Int)] m9 m9 m9 m9 λc5 F=>?_;rw[ah]at F;have F:aa B h0 c5 (aJ bP a pw (aD x) offs da w ds::bo x m::cB ey 2 piv r ys l::an j 137 [r]::an am 27 (aD y)::bo y n::ai 3 I 1 av live::an u 3 [xJ xP (pn:Int)]::As):=F.aF 8 [1,2,3,4,5,6,7,0];obtain⟨N,hN⟩:=HF (ck pn l)
  obtain⟨T,S⟩:=HF (bo x m::cB ey 2 piv r ys l::an j 137 [r]::an am 27 (aD y)::bo y n::ai 3 I 1 av live::an u 3 [xJ xP (pn:Int)]::As)
  have tX:St B h0 T λh=>cv h x m:=by rw[S];exact St.dS 0 m9 λ_ o=>o
  have tF:St B h0 T λh=>gE ey 2 piv h r ys l:=by rw[S];exact St.dS 1 m9 λ_ o=>o
  have tB:St B h0 T λh=>bQ h j 137 [r]:=by rw[S];exact St.dS (A:=an j 137 [r]) 2 m9 λ_ o=>o.1
  have tM:St B h0 T λh=>bQ h am 27 (aD y):=by rw[S];exact St.dS (A:=an am 27 (aD y)) 3 m9 λ_ o=>o.1
  have tY:St B h0 T λh=>cv h y n:=by rw[S];exact St.dS 4 m9 λ_ o=>o
  have tL:St B h0 T λh=>Rd h I 1 av live:=by rw[S];exact St.dS (A:=ai 3 I 1 av live) 5 m9 λ_ o=>o.1.seq (λ_=>rfl) o.2
  have tN:St B h0 T λh=>bQ h u 3 [xJ xP (pn:Int)]:=by rw[S];exact St.dS (A:=an u 3 [xJ xP (pn:Int)]) 6 m9 λ_ o=>o.1
  have tT:St B h0 T λh=>Lk 99 #[] #[xL (dB u),xL (dB j)] N live h:=λBs h' i k hk=>by
   rw[hN];exact VU k u j pn r ys l h' nb nb (tN Bs h' i) (tB Bs h' i) (tF Bs h' i)
  have fin:∀{h':hY} {z:bc} {w':Pow} {ao:aG},aa B h0 h' (aJ bP a pw (aD x) offs da w' ao::T)->aa B h0 h' (aJ bP a pw (aD x) offs da w' ao::bo x m::As):=λ{h' z w' ao} i=>by
   rw[S]at i;exact i.aF 8 [0,1]
  rw[<-S]at F;have ep:ez m offs w ds c b=(if iz m ds live N=eR then(7,m,w,ds)else if(makes m N live w ds).1≠0 then((makes m N live w ds).1,m,(makes m N live w ds).2)else
    if(layAll l (makes m N live w ds).2.1 (makes m N live w ds).2.2).1≠0 then((layAll l (makes m N live w ds).2.1 (makes m N live w ds).2.2).1,m,(layAll l (makes m N live w ds).2.1 (makes m N live w ds).2.2).2)else
    ((layAll (bi n live) (layAll l (makes m N live w ds).2.1 (makes m N live w ds).2.2).2.1 (layAll l (makes m N live w ds).2.1 (makes m N live w ds).2.2).2.2).1,if(layAll (bi n live) (layAll l (makes m N live w ds).2.1 (makes m N live w ds).2.2).2.1 (layAll l (makes m N live w ds).2.1 (makes m N live w ds).2.2).2.2).1=0 then n else m,(layAll (bi n live) (layAll l (makes m N live w ds).2.1 (makes m N live w ds).2.2).2.1 (layAll l (makes m N live w ds).2.1 (makes m N live w ds).2.2).2.2).2)):=by
   rw[hN,bb,hl,Y,he,d];unfold ez;rw[k4 o4,<-K,ht]
  rw[ep];refine(Hv 99 #[] #[xL (dB u),xL (dB j)] N x m I live pa (λBs h' i=>⟨tX Bs h' i,tT Bs h' i⟩) W (tL.at [_] F) nb q F).G7 λd3 cf=>?_;have a1:=F.up cf.ac;refine⟨_,m9,aH (λg=>?_) λg=>?_⟩
  .rw[hZ g];exact⟨m9,x,fin (z:=x) a1⟩
  rw[k4 D2];refine(Hx 99 #[] #[xL (dB u),xL (dB j)] N x m I live pa (λBs h' i=>⟨tX Bs h' i,tT Bs h' i,tL Bs h' i⟩) W nb q a1).G7 λei U=>?_;obtain⟨m1,cs⟩:=HF (makes m N live w ds)
  rw[<-cs]at U⊢;refine⟨_,m9,bm (λg2=>?_) λg2=>?_⟩
  .rw[hZ g2];exact⟨m9,x,fin (z:=x) U⟩
  rw[k4 (by simpa using g2)];refine⟨r,(tB.at [_] U).cell0 m9,(Du r ys l tF nb dk U).G7 λeo X=>?_⟩;obtain⟨r2,cc⟩:=HF (layAll l m1.2.1 m1.2.2)
  rw[<-cc]at X⊢;refine⟨_,m9,bm (λg3=>?_) λg3=>?_⟩
  .rw[hZ g3];exact⟨m9,x,fin (z:=x) X⟩
  rw[k4 (by simpa using g3)];refine⟨y,(tM.at [_] X).aw _ m9,(HB x y n I live (λBs h' i=>⟨tY Bs h' i,tL Bs h' i⟩) ay nb q X).G7 λej ⟨Q1,Q0⟩=>?_⟩;refine⟨_,m9,m9,?_⟩;by_cases g4:(layAll (bi n live) r2.2.1 r2.2.2).1=0
  .obtain⟨y2,bl⟩:=Q0 g4;rw[hZ g4];rw[S]at bl;exact⟨y2,bl.aF 9 [0,1]⟩
  .rw[k4 g4];exact⟨x,fin (z:=x) (Q1 g4)⟩
end
theorem Ta(n:Nat)(x:Int)(h:hY)(j:n<=2^30):aj xT 112 #[xJ xP n,xJ xP x] h λv h'=>∃(r:Sl) (l:aT),v=r/\l.length=n/\Sp h h' [ai 5 r 1 aq l]:=by
 refine ts Tryz.func112 ?_ (F8 (F8 (F9 [(5,bJ),(6,aI)] [(5,25)])));refine ak (λt:Sl×Nat×aT=>(t.1,(t.2.1:Int))) (λt h'=>t.2.1<=n/\t.2.2.length=t.2.1/\Sp h h' [ai 5 t.1 1 aq t.2.2]) (λt=>n-t.2.1) (⟨eH,0,0⟩,0,[]) m9 ⟨n4,m9,(Sp.refl h).nil 5 1 aq⟩ ?_;rintro⟨o,i,l⟩ k ⟨p,b,a⟩;dsimp only at*;refine ae (λe=>?_) λe=>?_
 .have f:i<n:=nb
  refine⟨nq,Int.tmod_nonneg _ nb,?_⟩;rw[cg];generalize b8 (qd xP _)=c;refine a.push ag 0 m9 cR m9 nq (λ_=>rfl) cH c m9 nq nb λg m d=>?_;refine⟨(g,i+1,l++[c]),n3,⟨n1,?_,d⟩,n1⟩;simp[b]
 .exact⟨o,l,m9,nb,a⟩
variable {α:Type} {k:Nat} {f:α->aR} {L M:List (Sl×List α)}
theorem aa.Nm(H:aa B h0 h (iL k f L::iL k f M::As)):aa B h0 h (iL k f (L++M)::As):=by
 have g:=H.kA;refine g.dY 0 m9 λq ⟨i,j,_,b,c,d,e⟩ y a=>?_;rcases qw.1 a with a|a
 .exact(e y a).mono c
 .exact(d y a).mono b
def kj(o b:Int)(a:List ct):List (Int×aT):=(a.filter λr=>decide (r.object=o)&&decide (r.block=b)).map λr=>(r.id,r.data)
def rY(m:aB)(o b:Int)(l:dT):List (Int×aT):=((iI m l).filter λr=>decide (r.object=o)&&decide (r.block=b)).map λr=>(r.id,r.data)
def mY(m:aB)(a:aG)(o b:Int)(k:Int):List (Int×aT):=match bX a k with|some d=>rY m o b d.l|none=>[]
def dW(m:aB)(c:aG)(a:aC)(o b:Int):List (Int×aT):=a.flatMap (mY m c o b)
abbrev adf:bO C.toAA 121 124 2 [xJ xP 0,xK eH 0 0] 32:=⟨_,_,m9,m9,m9,m9,m9,m9⟩
def EK(pool:List (Sl×aT))(p:(Int×Sl)×(Int×aT)):Prop:=p.1.1=p.2.1/\(p.1.2,p.2.2)∈pool
variable {mc:aR}
section
variable {pw:fY}
theorem Nn(x:bc)(m:aB)(s:Sl)(f:aC)(o b:Int)(hx:cv h x m)(hz:bM m)(hs:Rd h s 1 av f)(hl:f.length<=2^10)(hd:∀k∈f,∃d,bX ds k=dB d)(H:aa B h0 h (aJ bP a pw mc offs da w ds::As)):
  aj xT 84 #[.func (.func 26) #[xL (dB a)] #[],s,cC x,xJ xP o,xJ xP b] h λv h'=>∃(r:Sl) (ys:List (Int×Sl)),v=r/\Sp h h' [cB ey 2 piv r ys (dW m ds f o b)]:=by
 refine ts Tryz.func84 ?_ (F8 (F8 (E5 (F8 (E7 (E8 [(11,bJ),(18,aI)] [(11,12),(13,14),(15,16),(18,52)] (F8 (F8 (E5 (E7 (F8 (G0 [(26,bJ),(27,aI),(28,aI)] [(22,29)] (E7 (E8 [(11,bJ),(28,aI)] [(11,12),(15,16),(28,51)] E6))))) E6)))))) E6))) [(5,(.l [0,1,3,6,2,4,5]))] (args:=[(.func (.func 26) #[xL (dB a)] #[]),s,x,(o:Int),(b:Int)]);have a9:=hs.len;refine(Sp.refl h).boxed λa1 Y H1=>?_;have H1:=((H1.EF 1 aq).nil 124 2 piv).bs [2,0,1];refine ak (λt:Sl×Nat×List ((Int×Sl)×(Int×aT))×List (Sl×aT)=>(t.1,(t.2.1:Int))) (λt h'=>t.2.1<=f.length/\t.2.2.1.length<=t.2.1*512/\t.2.2.1.map zg=dW m ds (f.take t.2.1) o b/\(∀p∈t.2.2.1,EK t.2.2.2 p)/\Sp h h' [ai 124 t.1 2 piv (t.2.2.1.map qC),iL 1 aq t.2.2.2,an a1 27 (aD x)]) (λt=>f.length-t.2.1) (⟨eH,0,0⟩,0,[],[]) m9 ⟨n4,n4,by simp[dW],n4,H1⟩ ?_;rintro⟨u,i,L,P⟩ h2 ⟨hi,a8,M,V,X⟩;dsimp only at*;refine ae (λe=>?_) λe=>?_
 .have W:i<f.length:=nb
  refine(Seq.up hs X.ac).aW i m9 W f[i] m9 (aE ?_);obtain⟨d,F⟩:=hd f[i] (qe W);have Hc:=H.up X.ac;obtain⟨ok,hb⟩:=aa.cF Hc;have A:=X.box 2 m9;refine⟨x,A.aw _ m9,fF pa ?_⟩;refine(jI f[i] ok hb).mono ?_;rintro _ h3 ⟨rfl,rfl⟩;refine⟨_,m9,⟨A.cell0 m9,A.cell m9,A.cell m9,A.cell m9,A.cell m9,A.cell m9,A.cell m9,A.cell m9,I0⟩,?_⟩;rcases gp ok f[i]with⟨c1,c2⟩|⟨n,d',bb,c0,c1,c2,c3,c4,c5⟩
  .rw[F]at c1;cases c1
  have ab:d=d':=by rw[c3]at F;injection F with F;exact F.symm
  subst ab;rw[c5];obtain⟨a7,E,H3⟩:=Qw.aa.fD Hc c2;rw[c4]at E;injection E with E
  injection E with E
  subst E;obtain⟨U,sd,bd,ad⟩:=aa.kb H3;have a2:=U.len;have a0:=U.room;refine(uu bb pw d sd bd x m h3 (ad.box 0 m9) ((ad.aF 2 [1]).Ch λ_=>rfl) U (hx.up X.ac) hz).mono ?_;rintro _ h4 ⟨r7,K,rfl,R4⟩;have ay:=jf m d.l;obtain⟨c,G⟩:=HF (iI m d.l)
  rw[<-G]at R4 ay;have H4:=(X.bS R4).aF 4 [1,2,0,3];have F4:=H4.dv 2 m9;have bk:=F4.2.1;have bl:=F4.1.len;refine⟨r7,m9,I0,?_⟩;have Z:mY m ds o b f[i]=kj o b c:=by unfold mY;rw[F];show rY m o b d.l=_;unfold rY kj;rw[G]
  have T:dW m ds (f.take (i+1)) o b=dW m ds (f.take i) o b++kj o b c:=by unfold dW;rw[aA _ _ W,za,zm,we,qL,Z]
  obtain⟨Q,hQ⟩:∃Q:List (Sl×aT),Q=(K.zip c).map λz=>(z.1.2.2.2.2.2.2.2,z.2.data):=⟨_,rfl⟩
  refine ak (λt:Sl×Nat×List ((Int×Sl)×(Int×aT))=>(t.1,(t.2.1:Int))) (λt h'=>t.2.1<=c.length/\t.2.2.length<=L.length+t.2.1/\t.2.2.map zg=dW m ds (f.take i) o b++kj o b (c.take t.2.1)/\(∀p∈t.2.2,EK (P++Q) p)/\Sp h h' [ai 124 t.1 2 piv (t.2.2.map qC),iL 1 aq P,cB cK 8 bB r7 K c,an a1 27 (aD x)]) (λt=>c.length-t.2.1) (u,0,L) m9 ⟨n4,n4,by simp[kj,M],λp R=>⟨(V p R).1,List.mem_append_left _ (V p R).2⟩,H4⟩ ?_;rintro⟨u2,j,L2⟩ h5 ⟨hj,a4,J,S,H5⟩;dsimp only at*;have F5:=H5.dv 2 m9;refine ae (λe2=>?_) λe2=>?_
  .have ah:j<c.length:=nb
   have al:=Fix.row F5 ah;obtain⟨⟨g1,g2,g3,g4,g5,g6,g7⟩,g8⟩:=al;refine F5.1.cQ (g:=bB) j m9 nb (K[j]'nb) m9 ?_;refine H5.alloc ag m9 λa6 h6 H6=>?_;refine H6.storeAll ag 4 m9 m9 (bB (K[j]'nb)) m9 m9 m9 m9 λh7 H7=>?_;have N:=H7.box 4 m9;have O:kj o b (c.take (j+1))=kj o b (c.take j)++(if(decide (c[j].object=o)&&decide (c[j].block=b))=eL then[(c[j].id,c[j].data)]else[]):=by unfold kj;rw[aA _ _ ah,zi,qE,zA,wY];split<;>rfl
   have skip:(decide (c[j].object=o)&&decide (c[j].block=b))=eR->∃I:Sl×Nat×List ((Int×Sl)×(Int×aT)),((⟨u2.ptr,u2.len,u2.cap⟩:Sl),qd xP ((j:Int)+1))=(I.1,(I.2.1:Int))/\(I.2.1<=c.length/\I.2.2.length<=L.length+I.2.1/\I.2.2.map zg=dW m ds (f.take i) o b++kj o b (c.take I.2.1)/\(∀p∈I.2.2,EK (P++Q) p)/\Sp h h7 [ai 124 I.1 2 piv (I.2.2.map qC),iL 1 aq P,cB cK 8 bB r7 K c,an a1 27 (aD x)])/\c.length-I.2.1<c.length-j:=λhc=>
    ⟨(u2,j+1,L2),n3,⟨n1,n1,by dsimp only;rw[O,hc];simpa using J,S,H7.bs [0,1,2,3]⟩,n1⟩
   refine⟨c[j].object,by rw[<-g1];exact N.cell0 m9,aZ (λq1=>?_) λq1=>skip (by rw[m5 q1];rfl)⟩;refine⟨c[j].block,by rw[<-g2];exact N.cell m9,aZ (λq2=>?_) λq2=>skip (by rw[m5 q2,Bool.and_false])⟩;refine⟨c[j].id,by rw[<-g3];exact N.cell m9,(K[j]'nb).2.2.2.2.2.2.2,N.cell m9,?_⟩;refine H7.push ag 0 m9 adf m9 nq (λ_=>rfl) tC (c[j].id,(K[j]'nb).2.2.2.2.2.2.2) n9 nq n2 λu3 a5 ax=>?_;refine⟨(u3,j+1,L2++[((c[j].id,(K[j]'nb).2.2.2.2.2.2.2),(c[j].id,c[j].data))]),n3,⟨n1,n2,?_,λp R=>?_,?_⟩,n1⟩
   .try dsimp only
    rw[qE,J,O,hZ (by rw[ln q1,ln q2];rfl),ql];rfl
   .rcases qw.1 R with R|R
    .exact S p R
    .rw[qB.1 R];refine⟨m9,List.mem_append_right _ ?_⟩;rw[hQ];refine qI.2 ⟨(K[j]'nb,c[j]),?_,m9⟩;rw[<-yl (h:=by simp;omega)];exact qe _
   .try dsimp only
    rw[qE];exact ax.bs [0,1,2,3]
  .have ap:j=c.length:=nb
   subst ap;rw[qt,<-T]at J;have a3:=F5.2.1;have H6:=(H5.dY 2 m9 (D:=iL 1 aq Q) λq hq y hy=>by
    rw[hQ]at hy;obtain⟨z,am,rfl⟩:=qI.1 hy;obtain⟨k,hk,rfl⟩:=qD am;have ao:k<c.length:=by simp at hk;omega
    have:=(Fix.row hq ao).2;rw[yl];exact this).bs [1,2,0,3]
   have H7:=aa.Nm H6;refine⟨(u2,i+1,L2,P++Q),n3,⟨n1,n1,J,S,H7.bs [1,0,2]⟩,n1⟩
 .rw[qh nb]at M;refine⟨u,L.map qC,m9,?_⟩;have H3:=((X.freeze 0 m9 λ_=>rfl).bs [1,0]).kA;refine H3.dY 0 m9 λq ⟨q1,q2,_,bq,cq,z1,z2⟩=>?_;refine⟨z1.mono bq,by rw[<-M];simp,λj r e Y h2=>?_⟩;rw[<-M]at h2;rw[qM]at Y h2;cases hj:L[j]? with
  |none=>rw[hj]at Y;cases Y
  |some p=>
   rw[hj]at Y h2;have e1:=z8.inj (show dB p.1=dB r from Y);have e2:=z8.inj (show dB p.2=dB e from h2);subst e1;subst e2;obtain⟨k1,k2⟩:=V p (wj hj);exact⟨k1,(z2 _ k2).mono cq⟩
end
def No(m:aB)(a:aG)(o b:Int)(live:aC):cV:=live.map λk=>(dW m a [k] o b).map qC
section
variable {pw:fY}
theorem aba{k:Int}{l:aC}(h:k∈bh ds l):∃d,bX ds k=dB d/\d.lost=eR:=by
 have h:=(qJ.1 h).2;unfold isLive at h;cases hd:bX ds k with
 |none=>rw[hd]at h;cases h
 |some d=>rw[hd]at h;exact⟨d,m9,p5⟩
theorem HE(m:aB)(o b:Int)(l:dT):(rY m o b l).length<=m8 l:=by unfold rY;rw[qn];exact qX (qK _ _) (jf m l)
end
def Pow.calm(w:Pow):Prop:=w.off=eR/\w.fuse=eH
theorem Gi:Pow.new.calm:=⟨m9,m9⟩
theorem rZ{w:Pow}(h:w.calm):w.step=(eL,w):=by unfold Pow.step;rw[k4 (by simp[h.1]),h.2]
theorem Fi{w:Pow}(h:w.calm)(a:aG)(x:Int)(b:aT):(dX w a x b).2.1=w:=by
 unfold dX;cases bX a x with
 |none=>rfl
 |some d=>
  try dsimp only
  unfold bu.append;split
  .rfl
  .split
   .rfl
   .split
    .rfl
    .split
     .rfl
     .rw[rZ h];rfl
theorem Kj{w:Pow}(h:w.calm)(a:aG)(x:Int):(fG w a x).2.1=w:=by
 unfold fG;cases bX a x with
 |none=>rfl
 |some d=>
  try dsimp only
  unfold bu.sync;split
  .rfl
  .rw[rZ h];rfl
theorem pq{w:Pow}(h:w.calm):∀(l:List (Int×aT)) (ds:aG),(fX l w ds).2.1=w
 |[],_=>rfl
 |x::l,ds=>by
  rw[lu,Fi h];split
  .exact pq h l _
  .exact Fi h _ _ _
theorem HG{w:Pow}(h:w.calm):∀(l:aC) (ds:aG),(iY l w ds).2.1=w
 |[],_=>rfl
 |x::l,ds=>by
  rw[nf,Kj h];split
  .exact HG h l _
  .exact Kj h _ _
theorem uB{w:Pow}(h:w.calm)(l:List (Int×aT))(a:aG):(layAll l w a).2.1=w:=by
 unfold layAll
 try dsimp only
 rw[pq h];split
 .exact HG h _ _
 .exact pq h _ _
theorem Pn{w:Pow}{d:bu}{n:Nat}{b:aT}(h:w.calm)(e:d.lost=eR)(a:m8 d.l+(n+1)<=d.room)(c:m8 b=64):d.append w b=(0,w,{d with l:=d.l++[b],wait:=d.wait+1,laid:=[],has:=eR}):=by unfold bu.append;rw[k4 nb,k4 n8,k4 nb,k4 (by simp[h.1]),rZ h];rfl
theorem VV{w:Pow}{d:bu}(h:w.calm)(a:d.lost=eR):d.sync w=(0,w,{d with wait:=0,laid:=[],has:=eR}):=by unfold bu.sync;rw[k4 n8,rZ h];rfl
def Ln(a:aG)(P:List (Int×aT))(s:Int):Option bu:=
 (bX a s).map λd=>{d with l:=d.l++(P.filter λx=>decide (x.1=s)).map zg,wait:=d.wait+(P.filter λx=>decide (x.1=s)).length,laid:=if(P.filter λx=>decide (x.1=s)).isEmpty then d.laid else[],has:=if(P.filter λx=>decide (x.1=s)).isEmpty then d.has else eR}
theorem DH{w:Pow}(h:w.calm){S:aC}:∀(P:List (Int×aT)) (ds:aG),Fit ds S (P.map qC)->(∀x∈P,x.1∈S/\x.2.length=64)->
  (fX P w ds).1=0/\Fit (fX P w ds).2.2 S []/\∀s,bX (fX P w ds).2.2 s=Ln ds P s
 |[],ds,F,_=>⟨m9,F,λs=>by unfold Ln;show bX ds s=_;simp⟩
 |x::P,ds,F,hP=>by
  obtain⟨d,f,i,k⟩:=F.at_ x.1 (hP x (qS ..)).1;rw[wy,List.count_cons_self]at k;have b:=(hP x (qS ..)).2;obtain⟨n,g,a⟩:=kJ f;have j:=Pn (n:=(P.map qC).count x.1) h i nb b;have e:dX w ds x.1 x.2=(0,w,iP ds x.1 {d with l:=d.l++[x.2],wait:=d.wait+1,laid:=[],has:=eR}):=by unfold dX;grind
  obtain⟨_,c⟩:=Ct w x.2 (x:=x.1) (Q:=P.map qC) F (hP x (qS ..)).1 b;rw[lu,e];rw[e]at c;rw[hZ rfl];obtain⟨p,m,a3⟩:=DH h P _ c λy o=>hP y (qp _ o);refine⟨p,m,λs=>?_⟩;rw[a3 s];unfold Ln;rw[g,AR _ _ _ _ a F.len,]
  grind
theorem HI{w:Pow}(h:w.calm){S:aC}:∀(l:aC) (ds:aG),Fit ds S []->(∀x∈l,x∈S)->
  (iY l w ds).1=0/\Fit (iY l w ds).2.2 S []/\∀s,bX (iY l w ds).2.2 s=(bX ds s).map λd=>if s∈l then{d with wait:=0,laid:=[],has:=eR}else d
 |[],ds,F,_=>⟨m9,F,λs=>by show bX ds s=_;simp⟩
 |x::l,ds,F,hl=>by
  obtain⟨d,b,g,m⟩:=F.at_ x (hl x (qS ..));obtain⟨n,c,a⟩:=kJ b;have e:fG w ds x=(0,w,iP ds x {d with wait:=0,laid:=[],has:=eR}):=by unfold fG;rw[b];(try dsimp only);rw[VV h g]
  obtain⟨_,f⟩:=Ff w F (hl x (qS ..));rw[nf,e];rw[e]at f;rw[hZ rfl];obtain⟨k,i,a3⟩:=HI h l _ f λy j=>hl y (qp _ j);refine⟨k,i,λs=>?_⟩;rw[a3 s,c,AR _ _ _ _ a F.len,<-c]
  grind
abbrev fL(a:fY)(w:Pow):HP:=ee 89 a w
theorem sZ(H:aa B h0 h (fL a w::As)):aj xT 28 #[xL (dB a)] h λv h'=>v=xN w.step.1/\aa B h0 h' (fL a w.step.2::As):=by
 obtain⟨l,r,c⟩:=H.iV;refine ts Tryz.func28 ?_ (F8 (F8 (E5 (E9 [] [(2,3),(7,28)] (G0 [(17,mR)] [(7,18)] E6)) E6)));refine⟨a,m9,w.off,(c.box 0 m9).cell0 m9,aS (λe=>?_) λe=>?_⟩
 .have:w.step=(eR,w):=by unfold Pow.step;rw[hZ e]
  rw[this];exact⟨m9,H⟩
 have m:w.off=eR:=e;refine aE (aE ⟨a,m9,_,(c.box 0 m9).cell m9,aS (λi=>?_) λi=>?_⟩)
 .obtain⟨k,b⟩:∃k,w.fuse=dB k:=yo.1 i;obtain⟨rfl,x⟩:=r k b;have t:powC w (k:Int)=[xN eR,xN eL,xJ xP k,xJ xP w.offs]:=by simp[powC,m,b]
  rw[t]at c;refine⟨a,m9,_,(c.box 0 m9).cell m9,aZ (λo=>?_) λo=>?_⟩
  .have p:k=0:=nb
   subst p;have f:w.step=(eR,⟨eL,dB 0,qd xP (w.offs+1)⟩):=by unfold Pow.step;rw[k4 E4,b]
   rw[f];refine⟨a,m9,c.gO ag 0 m9 m9 [xN eL] m9 m9 m9 n4 λy q=>?_⟩;refine⟨a,m9,w.offs,(q.box 0 m9).cell m9,a,m9,q.store ag 0 m9 m9 3 [xJ xP (qd xP (w.offs+1))] m9 m9 m9 t6 λh3 g=>⟨m9,?_⟩⟩;refine aa.kV (l:=((0:Nat):Int)) (λs d=>by cases d;exact⟨m9,nq⟩) ?_;exact g
  .obtain⟨j,rfl⟩:∃j,k=j+1:=⟨k-1,nb⟩
   have f:w.step=(eL,⟨eR,dB j,w.offs⟩):=by unfold Pow.step;rw[k4 E4,b]
   rw[f];refine⟨a,m9,_,(c.box 0 m9).cell m9,aS (λ_=>?_) λe=>n5⟩;refine⟨a,m9,_,(c.box 0 m9).cell m9,a,m9,c.store ag 0 m9 m9 2 [xJ xP (qd xP (((j+1:Nat):Int)-1))] m9 m9 m9 t6 λh3 g=>⟨m9,?_⟩⟩;refine aa.kV (l:=(j:Int)) (λs d=>by cases d;exact⟨m9,nb⟩) ?_;rw[af _]at g;have u:((j+1:Nat):Int)-1=(j:Int):=nb
   rw[u]at g;exact g
 .have b:w.fuse=eH:=by cases b:w.fuse with|none=>rfl|some k=>rw[b]at i;cases i
  have f:w.step=(eL,w):=by unfold Pow.step;rw[k4 E4,b]
  rw[f];refine aS (λe=>n5) λ_=>⟨a,m9,_,(c.box 0 m9).cell m9,aS (λo=>by rw[b]at o;cases o) λ_=>⟨rfl,H⟩⟩
abbrev dF(pw:fY)(d:bu)(s b:Sl):aR:=[xJ xP d.room,xL (dB pw),s,xJ xP d.wait,xN d.has,b,xN d.lost]
abbrev ir(pw a:fY)(d:bu):HP:=kh 174 (dF pw) a d
section
variable {pw:fY}
theorem Po(n:Int)(pw:fY)(h:hY):aj xT 110 #[xJ xP n,xL (dB pw)] h λv h'=>
  (1<=n/\n<=512->∃a,v=xL (dB a)/\Sp h h' [ir pw a (bu.new n.toNat)])/\(¬(1<=n/\n<=512)->v=xL eH/\Sp h h' []):=by
 refine ts Tryz.func110 ?_ (F8 (G0 [] [(4,15)] E6));refine aE (ae (λe=>⟨λc=>absurd c nb,λ_=>⟨m9,Sp.refl h⟩⟩) λi=>ae (λe=>⟨λc=>absurd c nb,λ_=>⟨m9,Sp.refl h⟩⟩) λd=>aS (λe=>n5) λ_=>?_);refine(Sp.refl h).boxed λa j g=>⟨λ_=>⟨a,m9,?_⟩,λc=>absurd nb c⟩
 refine aa.iO (s:=⟨eH,0,0⟩) (b:=⟨eH,0,0⟩) (ff.new nb) ?_;have e:((n.toNat:Nat):Int)=n:=nb
 have f:=((g.kf 41 5 1 aq).kf 41 5 1 aq).aF 3 [2,1,0];have d:dF pw (bu.new n.toNat) ⟨eH,0,0⟩ ⟨eH,0,0⟩=[xJ xP n,xL (dB pw),xK eH 0 0,xJ xP 0,xN eR,xK eH 0 0,xN eR]:=by simp only[dF,bu.new,e];rfl
 rw[d];exact f
theorem Np(x:Sl)(row:aT)(H:aa B h0 h (ir pw a d::fL pw w::As))(T:St B h0 As λh=>Rd h x 1 aq row)(hr:m8 row<=2^20):
  aj xT 201 #[xL (dB a),x] h λv h'=>v=xJ xP (d.append w row).1/\aa B h0 h' (ir pw a (d.append w row).2.2::fL pw (d.append w row).2.1::As):=by
 refine ts Tryz.func201 ?_ (F8 (F8 (F8 (F8 (G0 [] [(40,60)] E6))))) [(10,(.l [0,1,2,3,4,5,6,10,11,12,13,14,7,8,9,15,16,17,18,19,20]))];have ad:=(T.at [_,_] H).len;obtain⟨ok,s,b,N⟩:=H.kb;have E:=N.box 0 m9;obtain⟨ah,_⟩:=aa.lC (N.aF 4 [1]);have R:=ok.room;have U:=ok.len;have O:=ok.wait;have j:∀(e:Int),d.append w row=(e,w,d)->(Value.int .i64 e=xJ xP (d.append w row).1/\aa B h0 h (ir pw a (d.append w row).2.2::fL pw (d.append w row).2.1::As)):=λe X=>by
  rw[X];exact⟨m9,H⟩
 refine bm (λe=>j 1 (by unfold bu.append;rw[hZ nb])) λab=>?_;have D:m8 row=64:=nb
 refine⟨a,m9,d.lost,E.cell m9,aS (λe=>j 5 ?_) λg=>?_⟩
 .unfold bu.append;rw[k4 nb,hZ e]
 refine⟨a,m9,s,E.cell m9,a,m9,(d.room:Int),E.cell0 m9,aZ (λe=>j 7 ?_) λq=>?_⟩
 .unfold bu.append;rw[k4 nb,k4 v8,hZ nb]
 have I:=N.aF 4 [3,0,1,2];obtain⟨l,hl,Q⟩:=I.iV;have V:∀{P:Prop},d.room<=m8 d.l->P:=λL=>absurd (show(s.len:Int)=d.room by omega) q;refine⟨a,m9,dB pw,E.cell m9,pw,m9,w.off,(Q.box 0 m9).cell0 m9,a,m9,dB pw,E.cell m9,(sZ I).G7 λh2 o=>?_⟩;have o:=o.aF 4 [1,2,3,0];have J:=o.box 0 m9;refine⟨_,m9,?_⟩;by_cases f:w.off=eL
 .have hs:w.step=(eR,w):=by unfold Pow.step;rw[hZ f]
  have er:d.append w row=(14,w,d):=by unfold bu.append;rw[k4 nb,k4 v8,k4 λL=>V L,hZ f]
  rw[hs]at o⊢;refine aE (aH (λe=>absurd e E3) λ_=>aH (λ_=>?_) λe=>n5);rw[er];exact⟨m9,o.iO ok⟩
 have p:w.off=eR:=B6
 have z:d.append w row=if w.step.1 then(0,w.step.2,{d with l:=d.l++[row],wait:=d.wait+1,laid:=[],has:=eR})else(14,w.step.2,{d with l:=d.l++[row],wait:=d.wait+1}):=by unfold bu.append;rw[k4 nb,k4 v8,k4 λL=>V L,k4 f]
 rw[z];refine aE (aH (λ_=>?_) λe=>absurd e D4);refine⟨a,m9,s,J.cell m9,a,m9,(d.wait:Int),J.cell m9,?_⟩;have M:=T.at [_,_,_,_] o;refine(o.nil 5 1 aq).ba.append ag 0 m9 cR ⟨_,_,m9,m9⟩ m9 nq (λ_=>rfl) M cH n2 λr W A=>?_;have A:aa B h0 W (ai 5 r 1 aq row::an a 174 (dF pw d s b)::cj s d.l::cj b d.laid::fL pw w.step.2::As):=A;have k:=A.box 1 m9;refine⟨⟨k.cell m9,k.cell m9,I0⟩,?_⟩;refine A.ko ag bv cO m9 [r] m9 (show 1*1<=2^20 by decide) m9 ⟨k.cell m9,k.cell m9,I0⟩ ?_;have S:aa B h0 W (cj s d.l::ai 5 r 1 aq row::an a 174 (dF pw d s b)::cj b d.laid::fL pw w.step.2::As):=A.aF 5 [2,0,1,3,4];refine S.nQ ag cO nb λF h6 K=>?_;have K:aa B h0 h6 (an a 174 (dF pw d s b)::cj F (d.l++[row])::cj b d.laid::fL pw w.step.2::As):=K.aF 4 [1,0,2,3];refine⟨⟨(K.box 0 m9).cell m9,I0⟩,?_⟩;refine⟨a,m9,K.store ag 0 m9 m9 2 [F] m9 m9 m9 o8 λh7 H7=>⟨I0,?_⟩⟩;refine⟨a,m9,?_⟩;rw[af ((d.wait:Int)+1)];refine H7.store ag 0 m9 m9 3 [xJ xP ((d.wait:Int)+1)] m9 m9 m9 o8 λh8 Y=>⟨I0,?_⟩
 obtain⟨u,m⟩:∃u:bu,u={d with l:=d.l++[row],wait:=d.wait+1}:=⟨_,rfl⟩
 have i:ff u:=by
  subst m;refine⟨n2,n2,ok.room,λc G=>?_,ok.laid,ok.cellL⟩;rcases qw.1 G with G|G
  .exact ok.cell c G
  .rw[qB.1 G];exact D
 have t:aa B h0 h8 (an a 174 (dF pw u F b)::cj F u.l::cj b u.laid::fL pw w.step.2::As):=by rw[m];exact Y
 refine aH (λe=>?_) (λe=>?_)
 .rw[e,k4 nq];rw[m]at t i;exact⟨m9,t.iO i⟩
 .rw[e,hZ rfl];refine⟨a,m9,t.store ag 0 m9 m9 4 [xN eR] m9 m9 m9 o8 λh9 H9=>?_⟩;refine⟨a,m9,H9.store ag 0 m9 m9 5 [xK eH 0 0] m9 m9 m9 o8 λZ y=>⟨m9,?_⟩⟩;rw[m]at y i;refine aa.iO (s:=F) (b:=⟨eH,0,0⟩) ⟨i.wait,i.len,i.room,i.cell,qW _,n4⟩ ?_;exact((y.kf 41 5 1 aq).aF 5 [1,2,0,4])
theorem Tb(H:aa B h0 h (ir pw a d::fL pw w::As)):
  aj xT 202 #[xL (dB a)] h λv h'=>v=xJ xP (d.sync w).1/\aa B h0 h' (ir pw a (d.sync w).2.2::fL pw (d.sync w).2.1::As):=by
 refine ts Tryz.func202 ?_;obtain⟨ok,s,b,j⟩:=H.kb;have i:=j.box 0 m9;refine⟨a,m9,d.lost,i.cell m9,aS (λe=>?_) λc=>?_⟩
 .have:d.sync w=(5,w,d):=by unfold bu.sync;rw[hZ e]
  rw[this];exact⟨m9,H⟩
 refine⟨a,m9,dB pw,i.cell m9,(sZ (j.aF 4 [3,0,1,2])).G7 λo g=>?_⟩;have g:=g.aF 4 [1,2,3,0];have f:d.sync w=if w.step.1 then(0,w.step.2,{{d with wait:=0}with laid:=[],has:=eR})else(14,w.step.2,d):=by unfold bu.sync;rw[k4 C8]
 rw[f];refine⟨_,m9,aH (λe=>?_) λe=>?_⟩
 .rw[e];exact⟨m9,g.iO ok⟩
 .rw[e];refine⟨a,m9,g.store ag 0 m9 m9 3 [xJ xP 0] m9 m9 m9 o8 λh3 l=>?_⟩;refine⟨a,m9,l.store ag 0 m9 m9 4 [xN eR] m9 m9 m9 o8 λp k=>?_⟩;refine⟨a,m9,k.store ag 0 m9 m9 5 [xK eH 0 0] m9 m9 m9 o8 λn m=>⟨m9,?_⟩⟩;refine aa.iO (s:=s) (b:=⟨eH,0,0⟩) ⟨qW _,ok.len,ok.room,ok.cell,qW _,n4⟩ ?_;exact((m.kf 41 5 1 aq).aF 5 [1,2,0,4])
theorem ir.box(H:aa B h0 h (ir pw a d::As)):ff d/\∃s b:Sl,bQ h a 174 (dF pw d s b)/\eF h s 1 aq d.l/\s.len=m8 d.l:=by obtain⟨ok,s,b,c⟩:=H.kb;exact⟨ok,s,b,c.box 0 m9,(c.aF 3 [1]).Ch λ_=>rfl,(aa.lC (c.aF 3 [1])).1⟩
end
theorem VW(b:Sl)(l:aT)(h:hY)(p:Rd h b 1 aq l)(E:m8 l<=2^40):aj xT 210 #[b] h λv h'=>v=xJ xR (CL l).toNat/\h'=h:=by
 refine ts Tryz.func210 ?_ (F8 (F8 (E5 (F8 (E7 (E8 [(3,(.sc (.int .u32))),(8,aI)] [(3,6),(8,31)] (F8 (F8 (E5 (E7 (F8 (F8 (F8 (E7 (E8 [(3,(.sc (.int .u32))),(5,aI)] [(3,4),(5,6),(18,30)] E6)))))) E6)))))) E6)));have B:=p.len;refine ak (λt:Nat=>(((mC (l.take t)).toNat:Int),(t:Int))) (λt h'=>t<=m8 l/\h'=h) (λt=>m8 l-t) 0 m9 ⟨nb,m9⟩ ?_;rintro i u ⟨F,rfl⟩;refine ae (λe=>?_) (λe=>?_)
 .have d:i<m8 l:=by have r:(i:Int)<(b.len:Int):=e;omega
  refine p.aW i m9 d (l[i].toNat:Int) m9 ?_;have A:qd xR (l[i].toNat:Int)=((yL 32 l[i].toNat).toNat:Int):=by rw[CM,BitVec.ofInt_natCast]
  rw[A,Ej];refine ak (λk:Nat=>(((om k (mC (l.take i)^^^yL 32 l[i].toNat)).toNat:Int),(k:Int))) (λk h'=>k<=8/\h'=u) (λk=>8-k) 0 m9 ⟨nb,m9⟩ ?_;rintro k q ⟨D,rfl⟩;obtain⟨c,j⟩:=HF (om k (mC (l.take i)^^^yL 32 l[i].toNat))
  try dsimp only
  rw[<-j];refine ae (λx=>?_) (λx=>?_)
  .have a:∀n:rL,n=tQ c->∃f:Nat,(((n.toNat:Nat):Int),qd xP ((k:Int)+1))=(((om f (mC (l.take i)^^^yL 32 l[i].toNat)).toNat:Int),(f:Int))/\(f<=8/\q=q)/\8-f<8-k:=λn s=>
    ⟨k+1,by rw[af _,s,j];rfl,⟨nb,m9⟩,nb⟩
   have z:qd xR ((qF (qq xR) (c.toNat:Int)&&&qF (qq xR) (1:Int)).toNat:Nat)=((c&&&1#32).toNat:Int):=ZI c 1#32;have w:qd xR ((qF (qq xR) ((c>>>1).toNat:Int)^^^qF (qq xR) (3988292384:Int)).toNat:Nat)=(((c>>>1)^^^3988292384#32).toNat:Int):=Ej (c>>>1) 3988292384#32;rw[z,Qj,w];refine aZ (λo=>⟨nq,a _ ?_⟩) (λo=>⟨nq,a _ ?_⟩)
   .unfold tQ;rw[hZ ((Ek c).1 o)]
   .unfold tQ;rw[k4 λy=>o ((Ek c).2 y)]
  .have m:k=8:=nb
   subst m;refine⟨i+1,?_,⟨nb,m9⟩,nb⟩;rw[af _,aA _ _ d,GM,j];rfl
 .have g:i=m8 l:=by have r:¬(i:Int)<(b.len:Int):=e;omega
  subst g;refine⟨?_,m9⟩;rw[qt];exact congrArg (Value.int .u32) (Ej 4294967295#32 (mC l))
theorem Tc(n:Int)(k t:Nat)(a:t<k):(cD n k).take t++[b8 (zp n (2^(8*(k-1-t))))]=(cD n k).take (t+1):=by rw[aA _ _ (by rw[bL];exact a)];congr 2;simp[cD]
theorem jC(s:Sl)(l:aT)(n:Int)(k:Nat)(m:k<=4)(j:m8 l<=2^30)(H:aa B h0 h (ai 5 s 1 aq l::As)):
  aj xT 143 #[s,xJ xP n,xJ xP k] h λv h'=>∃r:Sl,v=r/\aa B h0 h' (ai 5 r 1 aq (l++cD n k)::As):=by
 refine ts Tryz.func143 ?_ (F8 (F9 [(0,bJ),(7,aI)] [(0,1),(7,8),(10,22)]));rw[af ((k:Int)-1)];refine ak (λt:Sl×Nat=>(t.1,(k:Int)-1-t.2)) (λt h'=>t.2<=k/\aa B h0 h' (ai 5 t.1 1 aq (l++(cD n k).take t.2)::As)) (λt=>k-t.2) (s,0) n4 ⟨n4,tg⟩ ?_;rintro⟨r,t⟩ o ⟨p,b⟩;dsimp only at*;refine ae (λe=>?_) (λe=>?_)
 .have a:t<k:=nb
  have i:qd xP ((8:Int)*((k:Int)-1-t))=((8*(k-1-t):Nat):Int):=by rw[af _];omega
  rw[i,qi];have f:min (8*(k-1-t)) (qq xP)=8*(k-1-t):=by have:qq xP=64:=rfl;omega
  rw[f,cg];refine⟨nb,?_⟩;refine b.push ag 0 m9 cR m9 nq (λ_=>rfl) cH (b8 (zp n (2^(8*(k-1-t))))) m9 nq o9 λd q c=>?_;refine⟨(d,t+1),?_,⟨n1,?_⟩,n1⟩
  .try dsimp only
   have g:qd xP ((k:Int)-1-t-1)=(k:Int)-1-((t+1:Nat):Int):=by rw[af _];omega
   rw[g]
  .try dsimp only
   rw[<-Tc n k t a,<-ql];exact c
 .have:t=k:=nb
  subst this;rw[qh (by rw[bL];omega)]at b;exact⟨r,m9,b⟩
theorem DI(a:Int)(b:Sl)(l:aT)(h:hY)(w:Rd h b 1 aq l)(P:m8 l<=2^40:=by omega):aj xT 142 #[xJ xP a,b] h λv h'=>∃r:Sl,v=r/\Sp h h' [ai 5 r 1 aq (eZ a l)]:=by
 refine ts Tryz.func142 ?_ (F8 (G0 [] [(4,5),(7,18)] (F8 (E5 (E7 (E8 [(5,bJ)] [(5,6),(23,29)] E6)) E6))));have K:=w.len;have d:¬(1<=a/\a<=255/\l.length<=55)->∃r:Sl,Value.slice eH 0 0=xK r.ptr r.len r.cap/\Sp h h [ai 5 r 1 aq (eZ a l)]:=λe=>by
  unfold eZ;rw[k4 e];exact⟨⟨eH,0,0⟩,m9,(Sp.refl h).nil 5 1 aq⟩
 refine aE (ae (λe=>d nb) λQ=>ae (λe=>d nb) λM=>ae (λe=>d nb) λO=>?_);rw[cg];refine(Sp.refl h).lit ag aq cR m9 [87,115,1,b8 a] m9 (show 4*1<=2^20 by decide) m9 λv3 h3 y=>?_;refine y.append ag 0 m9 cR ⟨_,_,m9,m9⟩ m9 nq (λ_=>rfl) (Seq.up w y.ac) cH n2 λs J k=>?_;have k:Sp h J [ai 5 s 1 aq ([87,115,1,b8 a]++l)]:=k;refine ak (λt:Sl×Nat=>t.1) (λt h'=>t.2<=55-m8 l/\Sp h h' [ai 5 t.1 1 aq ([87,115,1,b8 a]++l++qf t.2 0)]) (λt=>55-m8 l-t.2) (s,0) m9 ⟨n4,C6⟩ ?_;rintro⟨E,j⟩ A ⟨R,f⟩;dsimp only at*;have p:=(f.own 0 m9).len;simp only[qo,q7,wL,wV]at p;refine ae (λe=>?_) (λe=>?_)
 .refine f.push ag 0 m9 cR m9 nq (λ_=>rfl) cH 0 m9 nq n2 λD G F=>?_;refine⟨(D,j+1),m9,⟨n1,?_⟩,n1⟩
  try dsimp only
  rw[yO,<-ql];exact F
 .have q:j=55-m8 l:=nb
  subst q;have B:[87,115,1,b8 a]++l++qf (55-m8 l) 0=fk a l:=rfl;rw[B]at f;have i:(fk a l).length=59:=tR;refine(VW E (fk a l) A (f.seq 0 m9 λ_=>rfl) nb).G6 ?_;obtain⟨c,x⟩:=HF (CL (fk a l))
  rw[<-x];refine⟨_,m9,nq,nq,nq,?_⟩;have I:min (8:Int).toNat (qq xR)=8:=rfl;have o:min (16:Int).toNat (qq xR)=16:=rfl;have g:min (24:Int).toNat (qq xR)=24:=rfl;rw[I,o,g,cg,cg,cg,cg];refine f.lit ag aq cR m9 [b8 (c.toNat:Int),b8 (zp (c.toNat:Int) (2^8)),b8 (zp (c.toNat:Int) (2^16)),b8 (zp (c.toNat:Int) (2^24)),165] m9 (show 5*1<=2^20 by decide) m9 λL N z=>?_;refine z.append ag 0 m9 cR ⟨_,_,m9,m9⟩ m9 nq (λ_=>rfl) (z.seq 1 m9 λ_=>rfl) cH (by simp[i]) λH h8 u=>⟨H,m9,?_⟩
  have m:fk a l++[b8 (c.toNat:Int),b8 (zp (c.toNat:Int) (2^8)),b8 (zp (c.toNat:Int) (2^16)),b8 (zp (c.toNat:Int) (2^24)),165]=eZ a l:=by unfold eZ;rw[hZ ⟨nb,nb,nb⟩,<-x];simp[sl,zC]
  rw[m]at u;exact u.bs [0]
theorem dV(p:Pm)(h:hY):aj xT 130 #[gx p] h λv h'=>v=xN (bH p)/\Sp h h' []:=by refine ts Tryz.func130 ?_ (args:=[p]);refine(Sp.refl h).boxed λa d g=>?_;have e:=g.box 0 m9;have c:Sp h d []:=.zip g.ac;have i:hU d a=dB (xJ xP p.1):=e.cell0 m9;have f:hU d (a.add 1)=dB (xJ xP p.2.1):=e.cell m9;have j:hU d (a.add 2)=dB (xJ xP p.2.2):=e.cell m9;unfold bH;refine⟨_,i,ae (λb=>?_) λb=>⟨t7,c⟩⟩;rw[ln b];refine⟨_,i,ae (λb=>?_) λb=>⟨t7,c⟩⟩;rw[ln b];refine⟨_,f,ae (λb=>?_) λb=>⟨t7,c⟩⟩;rw[ln b];refine⟨_,f,ae (λb=>?_) λb=>⟨t7,c⟩⟩;rw[ln b];refine⟨_,j,ae (λb=>?_) λb=>⟨t7,c⟩⟩;rw[ln b];exact⟨_,j,m9,c⟩
theorem Cu:∀x y:aT,(Op.bytesLess x y||x==y)=!Op.bytesLess y x
 |[],[]=>rfl
 |[],_::_=>rfl
 |_::_,[]=>by simp[Op.bytesLess]
 |a::x,b::y=>by
  have f:=Cu x y;have e:a<b∨a=b∨b<a:=by
   rcases vR a.toNat b.toNat with h|h|h
   .exact .inl (wW.2 h)
   .exact .inr (.inl (UInt8.toNat_inj.1 h))
   .exact .inr (.inr (wW.2 h))
  rcases e with h|rfl|h
  .have c:¬b<a:=λh'=>by have:=wW.1 h;have:=wW.1 h';omega
   have d:b≠a:=λh'=>by subst h';exact c h
   simp[Op.bytesLess,h,c,d]
  .have c:¬a<a:=λh'=>by have:=wW.1 h';omega
   simp only[Op.bytesLess,c,decide_false,yp,beq_self_eq_true,Bool.true_and];rw[<-f];congr 1;simp
  .have c:¬a<b:=λh'=>by have:=wW.1 h;have:=wW.1 h';omega
   have d:a≠b:=λh'=>by subst h';exact c h
   simp[Op.bytesLess,h,c,d]
theorem HJ(s:ByteArray)(h:hY)(E:s.size<=2^40):aj xT 113 #[xM s] h λv h'=>v=xN (gU s)/\h'=h:=by
 refine ts Tryz.func113 ?_ (F8 (F9 [(3,aI)] [(2,33)]));have A:m8 s.data.toList=s.size:=ud s;refine ak (λi:Nat=>(i:Int)) (λi h'=>i<=s.size/\h'=h/\∀c∈s.data.toList.take i,gm c=eL) (λi=>s.size-i) 0 m9 ⟨nb,m9,n4⟩ ?_;rintro i j ⟨F,rfl,f⟩;refine ae (λe=>?_) (λe=>?_)
 .have k:i<m8 s.data.toList:=by have y:(i:Int)<(s.size:Int):=e;omega
  obtain⟨c,t⟩:=HF (s.data.toList[i])
  refine⟨c,⟨nb,?_⟩,?_⟩
  .rw[qi,<-Array.getElem?_toList,qc k,t]
  have b:gm c=eL->∃g:Nat,qd xP ((i:Int)+1)=(g:Int)/\(g<=s.size/\j=j/\∀c∈s.data.toList.take g,gm c=eL)/\s.size-g<s.size-i:=λq=>
   ⟨i+1,n7,⟨nb,m9,λx l=>by
    rw[aA _ _ k]at l;rcases qw.1 l with l|l
    .exact f x l
    .rw[qB.1 l,<-t];exact q⟩,nb⟩
  have o:gm c=eR->Value.bool eR=xN (gU s)/\j=j:=λq=>by
   refine⟨?_,m9⟩;unfold gU;have:s.data.toList.all gm=eR:=zZ.2 ⟨c,by rw[t];exact qe k,by rw[q];simp⟩;rw[this];rfl
  have d:gm c=eL↔((97<=(c.toNat:Int)/\(c.toNat:Int)<=122)∨(48<=(c.toNat:Int)/\(c.toNat:Int)<=57)∨(c.toNat:Int)=45):=by unfold gm;simp[or_assoc];omega
  have r:gm c=eR↔¬((97<=(c.toNat:Int)/\(c.toNat:Int)<=122)∨(48<=(c.toNat:Int)/\(c.toNat:Int)<=57)∨(c.toNat:Int)=45):=by rw[<-d];cases gm c<;>simp
  have a:¬(97<=(c.toNat:Int)/\(c.toNat:Int)<=122)->¬(48<=(c.toNat:Int)/\(c.toNat:Int)<=57)->Br (!((c.toNat:Nat)==(45:Int))) (Value.bool eR=xN (gU s)/\j=j) (∃g:Nat,qd xP ((i:Int)+1)=(g:Int)/\(g<=s.size/\j=j/\∀c∈s.data.toList.take g,gm c=eL)/\s.size-g<s.size-i):=λB D=>by
   refine bm (λm=>o (r.2 nb)) λm=>b (d.2 nb)
  exact ae (λu=>ae (λz=>b (d.2 nb)) λz=>ae (λm=>ae (λp=>b (d.2 nb)) λp=>a nb nb) λm=>a nb nb) λu=>ae (λm=>ae (λp=>b (d.2 nb)) λp=>a nb nb) λm=>a nb nb
 .have y:¬(i:Int)<(s.size:Int):=e;rw[qh nb]at f;have w:s.data.toList.all gm=eL:=qQ.2 f;refine ae (λu=>⟨?_,m9⟩) (λu=>⟨?_,m9⟩)
  .unfold gU;rw[w,ln (show 1<=s.size by omega)];congr 1;simp;omega
  .unfold gU;rw[w,m5 (show¬1<=s.size by omega)];rfl
theorem YE(n w:Int)(g:0<n)(c:0<w):(if n%w>0 then n/w+1 else n/w)=(n-1)/w+1:=by
 have f:=Int.emod_add_mul_ediv n w;have d:=yz n (show w≠0 by omega);have h3:=wq n c;obtain⟨q,b⟩:=HF (n/w)
 obtain⟨r,a⟩:=HF (n%w)
 rw[<-b,<-a]at f;rw[<-a]at d h3;rw[<-a,<-b];by_cases h:r>0
 .rw[hZ h];have e:n-1=(r-1)+w*q:=nb
  rw[e,Int.add_mul_ediv_left _ _ nb,Int.ediv_eq_zero_of_lt nb nb];omega
 .rw[k4 h];have e:n-1=(w-1)+w*(q-1):=by rw[Int.mul_sub];omega
  rw[e,Int.add_mul_ediv_left _ _ nb,Int.ediv_eq_zero_of_lt nb nb];omega
theorem rE(p:Pm)(n:Int)(h:hY)(r:n<=2^40:=by omega):aj xT 62 #[gx p,xJ xP n] h λv h'=>v=xJ xP (countP p n)/\Sp h h' []:=by
 refine ts Tryz.func62 ?_ (F8 (G0 [] [(4,5),(6,13)] (F8 (G0 [(5,aI)] [(5,6),(20,30)] E6)))) (args:=[p,(n:Int)]);refine(Sp.refl h).boxed λt i g=>?_;refine aE ⟨p,(g.box 0 m9).aw _ m9,(dV p i).G7 λs l=>?_⟩;have b:=g.up l.ac;have c:=b.box 0 m9;refine⟨_,m9,aH (λe=>⟨by unfold countP;rw[e];rfl,.zip b.ac⟩) λe=>?_⟩;have em:bH p=eL:=o7
 have k:=(bI p).1 em;have q:p.1*p.2.2<=16*24:=wg nb nb nb nb;have f:0<p.1*p.2.2:=Int.mul_pos nb nb;refine ae (λm=>⟨by unfold countP;rw[em,m5 nb];rfl,.zip b.ac⟩) λm=>?_;refine⟨p.1,c.cell0 m9,p.2.2,c.cell m9,?_⟩
 try dsimp only
 rw[af (p.1*p.2.2)];refine⟨nb,aE ⟨p.1,c.cell0 m9,p.2.2,c.cell m9,?_⟩⟩
 try dsimp only
 rw[af (p.1*p.2.2)];refine⟨nb,?_⟩;rw[yD nb,zT nb];have j:0<=n/(p.1*p.2.2):=Int.ediv_nonneg nb nb;have o:n/(p.1*p.2.2)<=n:=Int.ediv_le_self _ nb;rw[af (n/(p.1*p.2.2))];have a:(if n%(p.1*p.2.2)>0 then n/(p.1*p.2.2)+1 else n/(p.1*p.2.2))=countP p n:=by
  unfold countP;rw[em];by_cases h0:0<n
  .rw[ln h0];exact(YE n _ h0 f).trans (hZ m9).symm
  .have:n=0:=nb
   subst this;rw[k4 n4,k4 n4];simp
 refine ae (λd=>?_) (λd=>?_)
 .rw[hZ d]at a;rw[af _];exact⟨by rw[a],.zip b.ac⟩
 .rw[k4 d]at a;exact⟨by rw[a],.zip b.ac⟩
theorem jW(m:aB):bF m=eL↔((1<=m.seq/\m.seq<=2147483647)/\(0<=m.next/\m.next<=16777216)/\bH m.p=eL/\0<=m.extra/\m.extra<=16)/\(∀i,i<m8 m.drives->fU m.drives 63 i=eL)/\m.objs.length<=12/\∀i,i<m8 m.objs->ky m i=eL:=by
 unfold bF oM;rw[qz,qz,qz,qQ,qQ,decide_eq_true_eq];constructor
 .rintro⟨d,b,h3,c⟩;exact⟨FG d,λi a=>b i (qY.2 a),h3,λi a=>c i (qY.2 a)⟩
 .rintro⟨⟨⟨f,g⟩,⟨a3,a4⟩,a5,h,e⟩,b,h3,c⟩;refine⟨?_,λi a=>b i (qY.1 a),h3,λi a=>c i (qY.1 a)⟩;unfold kz dQ;simp[*]
theorem Te(l:aC)(a:Int)(i:Nat):fU l a i=eL↔(0<=l.getD i 0/\l.getD i 0<=a)/\(i=0∨l.getD (i-1) 0<l.getD i 0):=by unfold fU dQ;simp
theorem HK(m:aB)(e:cZ):gC m e=eL↔gU e.name=eL/\(0<=e.object/\e.object<=m.next-1)/\(0<=e.length/\e.length<=m.p.1*m.p.2.2*8)/\(∀t∈e.tries,0<=t/\t<=15)/\(e.tries.length:Int)=countP m.p e.length:=by unfold gC dQ;simp[qQ]
theorem ws(m:aB)(i:Nat):ky m i=eL↔gC m (jw m.objs i)=eL/\(i=0∨cW (jw m.objs (i-1)).name (jw m.objs i).name=eL)/\∀y∈m.objs.take i,y.object≠(jw m.objs i).object:=by unfold ky;simp
theorem DJ(x:bc)(m:aB)(h:hY)(D:cv h x m)(hz:bM m):aj xT 72 #[cC x] h λv h'=>v=xN (bF m)/\Sp h h' []:=by
 refine rU x ?_;refine(Sp.refl h).boxed λB h1 V=>?_;have hb:=V.box 0 m9;have R:x.2.2.1=m.p.1:=congrArg (·.1) D.p;have ad:x.2.2.2.1=m.p.2.1:=congrArg (·.2.1) D.p;have P:x.2.2.2.2.1=m.p.2.2:=congrArg (·.2.2) D.p;have F:∀{h':hY} {As:List HP},Sp h h' As->(bF m=eL->False)->Value.bool eR=xN (bF m)/\Sp h h' []:=λ{h' As} H' hn=>⟨by cases hq:bF m with|false=>rfl|true=>exact absurd hq hn,.zip H'.ac⟩
 have c0:hU h1 B=dB (xJ xP m.seq):=by rw[<-D.seq];exact hb.cell0 m9
 have c1:hU h1 (B.add 1)=dB (xJ xP m.next):=by rw[<-D.next];exact hb.cell m9
 refine aE ⟨m.seq,c0,ae (λe=>F V λa=>p6) λT=>⟨m.seq,c0,ae (λe=>F V λa=>p6) λN=>⟨m.next,c1,ae (λe=>F V λa=>p6) λz=>⟨m.next,c1,ae (λe=>F V λa=>p6) λY=>?_⟩⟩⟩⟩;refine⟨m.p,by rw[<-R,<-ad,<-P];exact hb.mE 2 m9 m9 m9,(dV m.p _).G7 λh2 R2=>?_⟩;have L:=V.up R2.ac;have A:=L.box 0 m9;have ab:=D.up L.ac;have c5:hU h2 (B.add 5)=dB (xJ xP m.extra):=by rw[<-D.extra];exact A.cell m9
 have bk:=hz.dr;have bb:=hz.ob;have a6:=ce.len D.objs;have ax:=D.drives.len;refine⟨_,m9,aH (λb=>F L λa=>by have:=((jW m).1 a).1.2.2.1;rw[b]at this;cases this) λb3=>?_⟩;refine⟨m.extra,c5,ae (λe=>F L λa=>p6) λe5=>⟨m.extra,c5,ae (λe=>F L λa=>p6) λe6=>?_⟩⟩;refine⟨x.2.2.2.2.2.2.2,A.cell m9,ae (λe=>F L λa=>by have:=((jW m).1 a).2.2.1;omega) λa9=>?_⟩;have ay:m.objs.length<=12:=nb
 have a8:=(bI m.p).1 b3;have hk:m.p.1*m.p.2.2<=16*24:=wg nb nb nb nb;have bd:0<=m.p.1*m.p.2.2:=vT nb nb;have S:(1<=m.seq/\m.seq<=2147483647)/\(0<=m.next/\m.next<=16777216)/\bH m.p=eL/\0<=m.extra/\m.extra<=16:=⟨nb,nb,b3,nb,nb⟩
 refine⟨x.2.2.2.2.2.2.1,A.cell m9,?_⟩;refine ak (λi:Nat=>(i:Int)) (λi h'=>i<=m.drives.length/\(∀j,j<i->fU m.drives 63 j=eL)/\h'=h2) (λi=>m.drives.length-i) 0 m9 ⟨nb,nb,m9⟩ ?_;rintro i h3 ⟨hi,q,rfl⟩;refine ae (λe=>?_) (λe=>?_)
 .have l:i<m.drives.length:=by have e':(i:Int)<(x.2.2.2.2.2.2.1.len:Int):=e;omega
  have c:¬fU m.drives 63 i=eL->Value.bool eR=xN (bF m)/\Sp h h3 []:=λhn=>F L λa=>hn (((jW m).1 a).2.1 i l);have next:fU m.drives 63 i=eL->∃t':Nat,qd xP ((i:Int)+1)=(t':Int)/\(t'<=m.drives.length/\(∀j,j<t'->fU m.drives 63 j=eL)/\h3=h3)/\m.drives.length-t'<m.drives.length-i:=λhr=>
   ⟨i+1,n7,⟨nb,λj hj=>by
    by_cases a5:j=i
    .subst a5;exact hr
    .exact q j nb,m9⟩,nb⟩
  rw[Te]at c next
  refine ab.drives.aW i m9 l (m.drives.getD i 0) (by rw[getD_lt l];rfl) ?_;refine ae (λT=>c nb) λT=>ae (λN=>c nb) λN=>ae (λz=>?_) λz=>next ⟨nb,.inl nb⟩
  rw[af ((i:Int)-1)];refine⟨x.2.2.2.2.2.2.1,A.cell m9,ab.drives.aW (i-1) nb nb (m.drives.getD (i-1) 0) (by rw[getD_lt (show i-1<m.drives.length by omega)];rfl) ?_⟩;exact ae (λY=>c nb) λY=>next ⟨nb,.inr nb⟩
 have a2:∀i,i<m.drives.length->fU m.drives 63 i=eL:=λj hj=>q j (by
  have e':¬(i:Int)<(x.2.2.2.2.2.2.1.len:Int):=e;omega)
 refine⟨x.2.2.2.2.2.2.2,A.cell m9,?_⟩;obtain⟨r,F0⟩:=ce.fix D.objs;have br:=F0.2.1;refine ak (λi:Nat=>(i:Int)) (λi h'=>i<=m.objs.length/\(∀j,j<i->ky m j=eL)/\Sp h h' [an B 27 (aD x)]) (λi=>m.objs.length-i) 0 m9 ⟨nb,nb,L⟩ ?_;rintro i h3 ⟨hi,q,H3⟩;refine ae (λe=>?_) (λe=>?_)
 .have l:i<m.objs.length:=by have e':(i:Int)<(x.2.2.2.2.2.2.2.len:Int):=e;omega
  obtain⟨E,hE⟩:=HF (m.objs[i])
  have ap:=hz.nm _ (qe l);rw[<-hE]at ap;have I:jw m.objs i=E:=by rw[hE];exact lP l
  have c:∀{h':hY} {As:List HP},Sp h h' As->(ky m i=eL->False)->Value.bool eR=xN (bF m)/\Sp h h' []:=λ{h' As} H' hb=>F H' λa=>hb (((jW m).1 a).2.2.2 i l);have d:ky m i=eL->_:=λa=>(HK m E).1 (by rw[<-I];exact((ws m i).1 a).1);have F3:=gE.up F0 H3.ac;refine F3.1.cQ (g:=bf) i m9 nb (r[i]'nb) m9 ?_;refine H3.alloc ag m9 λu h4 H4=>?_;refine H4.storeAll ag 1 m9 m9 (bf (r[i]'nb)) m9 m9 m9 m9 λs n=>?_;have n:Sp h s [an B 27 (aD x),an u 83 (bf (r[i]'nb))]:=n;have F5:=gE.up F0 n.ac;obtain⟨⟨y1,y2,y3⟩,X⟩:=Fix.row F5 l;rw[<-hE]at y1 y2 y3 X;have J:=n.box 1 m9;have n0:hU s u=dB (xM E.name):=by rw[<-y1];exact J.cell0 m9
  refine bn (λ_ h'=>(gU E.name=eL/\(0<=E.object/\E.object<=m.next-1)/\(0<=E.length/\E.length<=m.p.1*m.p.2.2*8)/\(E.tries.length:Int)=countP m.p E.length)/\(i=0∨cW (jw m.objs (i-1)).name E.name=eL)/\Sp h h' [an B 27 (aD x),an u 83 (bf (r[i]'nb))]) ?_ ?_
  .refine⟨E.name,n0,(HJ E.name s nb).mono ?_⟩;rintro _ s ⟨rfl,rfl⟩;have k0:hU s u=dB (xM E.name):=n0;have k1:hU s (u.add 1)=dB (xJ xP E.object):=by rw[<-y2];exact J.cell m9
   have W:hU s (u.add 2)=dB (xJ xP E.length):=by rw[<-y3];exact J.cell m9
   have k3:hU s (u.add 3)=dB (.slice (r[i]'nb).2.2.2.ptr (r[i]'nb).2.2.2.len (r[i]'nb).2.2.2.cap):=J.cell m9;have o:=n.box 0 m9;have m1:hU s (B.add 1)=dB (xJ xP m.next):=by rw[<-D.next];exact o.cell m9
   have m2:hU s (B.add 2)=dB (xJ xP m.p.1):=by rw[<-R];exact o.cell m9
   have m4:hU s ((B.add 2).add 2)=dB (xJ xP m.p.2.2):=by rw[<-P];exact o.mh 2 2 m9
   have m7:hU s (B.add 7)=dB (xK x.2.2.2.2.2.2.2.ptr x.2.2.2.2.2.2.2.len x.2.2.2.2.2.2.2.cap):=o.cell m9;have mp:bp s (B.add 2) 0 [xJ xP m.p.1,xJ xP m.p.2.1,xJ xP m.p.2.2]:=by rw[<-R,<-ad,<-P];exact o.mE 2 m9 m9 m9
   refine⟨_,m9,I0,aH (λb=>⟨I0,c n λa=>by have:=(d a).1;rw[b]at this;cases this⟩) λb1=>ae (λN=>?_) λN=>?_⟩
   .rw[af ((i:Int)-1)];have M:jw m.objs (i-1)=m.objs[i-1]:=lP;obtain⟨H,ha,zz,hc,rfl⟩:=F5.1.cQ (g:=bf) (i:=(i:Int)-1) (i-1) nb nb (r[i-1]'nb) rfl (K:=λt=>t=r[i-1]'nb) rfl;have q0:hU s (H.add (((i:Int)-1).toNat*4))=dB (xM m.objs[i-1].name):=by rw[<-(Fix.row F5 (show i-1<m.objs.length by omega)).1.1];exact hc.1
    refine⟨E.name,k0,x.2.2.2.2.2.2.2,m7,H,ha,m.objs[i-1].name,q0,?_⟩
    try dsimp only
    rw[Cu];refine aH (λz=>⟨by repeat (first|exact trivial|refine⟨sz,?_⟩),c n λa=>?_⟩) λz=>?_
    .rcases((ws m i).1 a).2.1 with h0|h0
     .omega
     .rw[I,M]at h0;unfold cW at h0;rw[h0]at z;cases z
    have a4:cW (jw m.objs (i-1)).name E.name=eL:=by rw[M];exact z
    refine⟨E.object,k1,ae (λY=>⟨by repeat (first|exact trivial|refine⟨sz,?_⟩),c n λa=>Bm⟩) λY=>⟨E.object,k1,m.next,m1,ae (λe5=>⟨by repeat (first|exact trivial|refine⟨sz,?_⟩),c n λa=>Bm⟩) λe5=>?_⟩⟩;refine⟨E.length,W,ae (λe6=>⟨by repeat (first|exact trivial|refine⟨sz,?_⟩),c n λa=>A6⟩) λe6=>⟨E.length,W,m.p.1,m2,m.p.2.2,m4,?_⟩⟩
    try dsimp only
    rw[af (m.p.1*m.p.2.2),af (m.p.1*m.p.2.2*8)];refine ae (λe7=>⟨by repeat (first|exact trivial|refine⟨sz,?_⟩),c n λa=>A6⟩) λe7=>?_;refine⟨(r[i]'nb).2.2.2,k3,m.p,mp,E.length,W,(rE m.p E.length s).G7 λh6 R6=>?_⟩;have w:=n.up R6.ac;refine⟨_,m9,gP R6.ac (by repeat (first|exact trivial|refine⟨sz,?_⟩)),bm (λe8=>c w λa=>?_) λe8=>⟨⟨b1,nb,nb,?_⟩,.inr a4,w⟩⟩
    .have:=(d a).2.2.2.2;have:=X.len;omega
    .have:=X.len;omega
   .refine⟨E.object,k1,ae (λY=>⟨by repeat (first|exact trivial|refine⟨sz,?_⟩),c n λa=>Bm⟩) λY=>⟨E.object,k1,m.next,m1,ae (λe5=>⟨by repeat (first|exact trivial|refine⟨sz,?_⟩),c n λa=>Bm⟩) λe5=>?_⟩⟩;refine⟨E.length,W,ae (λe6=>⟨by repeat (first|exact trivial|refine⟨sz,?_⟩),c n λa=>A6⟩) λe6=>⟨E.length,W,m.p.1,m2,m.p.2.2,m4,?_⟩⟩
    try dsimp only
    rw[af (m.p.1*m.p.2.2),af (m.p.1*m.p.2.2*8)];refine ae (λe7=>⟨by repeat (first|exact trivial|refine⟨sz,?_⟩),c n λa=>A6⟩) λe7=>?_;refine⟨(r[i]'nb).2.2.2,k3,m.p,mp,E.length,W,(rE m.p E.length s).G7 λh6 R6=>?_⟩;have w:=n.up R6.ac;refine⟨_,m9,gP R6.ac (by repeat (first|exact trivial|refine⟨sz,?_⟩)),bm (λe8=>c w λa=>?_) λe8=>⟨⟨b1,nb,nb,?_⟩,.inl nb,w⟩⟩
    .have:=(d a).2.2.2.2;have:=X.len;omega
    .have:=X.len;omega
  .rintro _ h6 ⟨⟨b1,b2,ao,b4⟩,b5,w⟩;have F6:=gE.up F0 w.ac;have y6:=(Fix.row F6 l).2;rw[<-hE]at y6;have am:=w.box 1 m9;have bq:=X.len;refine⟨(r[i]'nb).2.2.2,am.cell m9,?_⟩;refine ak (λj:Nat=>(j:Int)) (λj h'=>j<=E.tries.length/\(∀t∈E.tries.take j,0<=t/\t<=15)/\h'=h6) (λj=>E.tries.length-j) 0 m9 ⟨nb,n4,m9⟩ ?_;rintro j h7 ⟨hj,Q,rfl⟩;refine ae (λT=>?_) (λT=>?_)
   .have G:j<E.tries.length:=by have e':(j:Int)<((r[i]'nb).2.2.2.len:Int):=T;omega
    refine Seq.aW (f:=av) y6 j m9 G E.tries[j] m9 ?_;have O:=qe G;refine ae (λN=>c w λa=>by have:=(d a).2.2.2.1 _ O;omega) λN=>ae (λz=>c w λa=>by have:=(d a).2.2.2.1 _ O;omega) λz=>?_;refine⟨j+1,n7,⟨nb,λt U=>?_,m9⟩,nb⟩;rw[aA _ _ G]at U;rcases qw.1 U with U|U
    .exact Q t U
    .rw[qB.1 U];omega
   .have e':¬(j:Int)<((r[i]'nb).2.2.2.len:Int):=T;rw[qh nb]at Q;refine ak (λk:Nat=>(k:Int)) (λk h'=>k<=i/\(∀y∈m.objs.take k,y.object≠E.object)/\h'=h7) (λk=>i-k) 0 m9 ⟨nb,n4,m9⟩ ?_;rintro k h8 ⟨bl,al,rfl⟩;refine ae (λN=>?_) (λN=>?_)
    .have a7:k<i:=nb
     obtain⟨H,ha,zz,hc,rfl⟩:=F6.1.cQ (g:=bf) (i:=(k:Int)) k rfl nb (r[k]'nb) rfl (K:=λt=>t=r[k]'nb) rfl;have ah:k<m.objs.length:=nb
     refine⟨x.2.2.2.2.2.2.2,(w.box 0 m9).cell m9,H,ha,m.objs[k].object,?_,E.object,?_,?_⟩
     .rw[<-(Fix.row F6 ah).1.2.1];exact hc.2.1
     .rw[<-y2];exact am.cell m9
     .refine aZ (λz=>c w λa=>?_) λz=>?_
      .have:=((ws m i).1 a).2.2 m.objs[k] (zV.2 ⟨k,nb,m9⟩);rw[I]at this;exact this z
      .refine⟨k+1,n7,⟨nb,λy Z=>?_,m9⟩,nb⟩;rw[aA _ _ ah]at Z;rcases qw.1 Z with Z|Z
       .exact al y Z
       .rw[qB.1 Z];exact z
    .have a3:k=i:=nb
     subst a3;refine⟨k+1,n7,⟨nb,λj' G=>?_,w.bs [0]⟩,nb⟩;by_cases a0:j'=k
     .subst a0;rw[ws,I,HK];exact⟨⟨b1,b2,ao,Q,b4⟩,b5,al⟩
     .exact q j' nb
 .have e':¬(i:Int)<(x.2.2.2.2.2.2.2.len:Int):=e;have:bF m=eL:=(jW m).2 ⟨S,a2,ay,λj hj=>q j nb⟩;exact⟨by rw[this],.zip H3.ac⟩
theorem Tf(x:bc)(m:aB)(h:hY)(d:cv h x m)(hz:bM m):aj xT 141 #[cC x] h λv h'=>∃r:Sl,v=r/\Sp h h' [ai 5 r 1 aq (gG m)]:=by
 refine ts Tryz.func141 ?_ (F8 (F8 (G0 [(3,bJ)] [(3,4),(13,19)] (F8 (E5 (F8 (E7 (E8 [(3,bJ),(44,aI)] [(3,4),(5,6),(44,54)] E6))) (F8 (E5 (F8 (E7 (E8 [(3,bJ),(64,aI)] [(3,4),(7,8),(9,10),(64,99)] (F8 (F8 (E5 (E7 (F8 (G0 [(3,bJ)] [(3,4),(68,78)] (G0 [(3,bJ)] [(3,4),(78,85)] (F8 (E7 (E8 [(3,bJ),(88,aI)] [(3,4),(9,10),(88,98)] E6))))))) E6)))))) E6))))))) [(3,(.l [0,1,3,4,2,5,6])),(14,(.l [0,1,2,3,4,7,8,5,6,9,10])),(15,(.l [0,1,2,4,5,3,6,7]))] (args:=[x]);refine(Sp.refl h).boxed λa1 h1 H1=>?_;refine⟨x,(H1.box 0 m9).aw _ m9,(DJ x m h1 (d.up H1.ac) hz).G7 λh2 R2=>?_⟩;have Z:=H1.up R2.ac;refine⟨_,m9,aH (λe=>?_) λB=>?_⟩
 .unfold gG;rw[e];exact⟨⟨eH,0,0⟩,m9,((Z.nil 5 1 aq).bs [1])⟩
 have ap:x.2.2.1=m.p.1:=congrArg (·.1) d.p;have U:x.2.2.2.1=m.p.2.1:=congrArg (·.2.1) d.p;have V:x.2.2.2.2.1=m.p.2.2:=congrArg (·.2.2) d.p;have M:=Z.box 0 m9;have b:=uq m hz;unfold gG at b;rw[B,hZ rfl]at b;have hM:∀{h':hY} {As:List HP},Sp h h' As->cv h' x m:=λ{h' As} G=>d.up G.ac;refine aE ⟨m.seq,by rw[<-d.seq];exact M.cell0 m9,m.next,by rw[<-d.next];exact M.cell m9,?_⟩;have H3:=(Z.nil 5 1 aq).ba;refine(jC ⟨eH,0,0⟩ [] m.seq 4 nq n4 H3).Hf λs4 h4 H4=>⟨s4,m9,⟨by rw[<-d.next];exact(H4.box 1 m9).cell m9,I0⟩,?_⟩;refine(jC s4 _ m.next 4 nq p7 H4).Hf λs5 h5 H5=>⟨s5,m9,I0,?_⟩;have q:=H5.box 1 m9;refine⟨m.p.1,by rw[<-ap];exact q.cell m9,m.p.2.1,by rw[<-U];exact q.mh 2 1 m9,m.p.2.2,by rw[<-V];exact q.mh 2 2 m9,m.extra,by rw[<-d.extra];exact q.cell m9,x.2.2.2.2.2.2.1,q.cell m9,?_⟩;have ao:=d.drives.len;have ab:=ce.len d.objs
 try dsimp only
 rw[cg,cg,cg,cg,cg,ao];refine H5.lit ag aq cR m9 [b8 m.p.1,b8 m.p.2.1,b8 m.p.2.2,b8 m.extra,b8 (m.drives.length:Nat)] m9 (show 5*1<=2^20 by decide) m9 λa6 h6 H6=>?_;refine H6.append ag 0 m9 cR ⟨_,_,m9,m9⟩ m9 nq (λ_=>rfl) (H6.seq 2 m9 λ_=>rfl) cH p7 λs7 h7 S=>?_;have S:=S.bs [0,1];refine⟨x.2.2.2.2.2.2.1,(S.box 1 m9).cell m9,?_⟩;have a4:(([]++cD m.seq 4)++cD m.next 4++[b8 m.p.1,b8 m.p.2.1,b8 m.p.2.2,b8 m.extra,b8 (m.drives.length:Nat)]).length=13:=p7
 have bb:=hz.dr;refine sU x.2.2.2.2.2.2.1 m.drives s7 _ S (St.mk' λh' G=>(hM G).drives) nb nb λs8 h8 H8=>?_
 try dsimp only
 refine⟨x.2.2.2.2.2.2.2,(H8.box 1 m9).cell m9,?_⟩
 try dsimp only
 rw[cg,ab];obtain⟨a,c⟩:=HF (([]++cD m.seq 4)++cD m.next 4++[b8 m.p.1,b8 m.p.2.1,b8 m.p.2.2,b8 m.extra,b8 (m.drives.length:Nat)]++m.drives.map b8)
 rw[<-c]at H8;have a2:a.length=13+m.drives.length:=by rw[c];simp[bL];omega
 simp only[qo,q7,wL,qn,bL]at b;refine H8.push ag 0 m9 cR m9 nq (λ_=>rfl) cH (b8 (m.objs.length:Nat)) m9 nq nb λs9 h9 T=>?_;have T:Sp h h9 [ai 5 s9 1 aq (a++[b8 (m.objs.length:Nat)]),an a1 27 (aD x)]:=T;refine⟨x.2.2.2.2.2.2.2,(T.box 1 m9).cell m9,?_⟩;obtain⟨J,R⟩:=ce.fix d.objs;have bk:=R.2.1;refine ak (λt:Sl×Nat=>(t.1,(t.2:Int))) (λt h'=>t.2<=m.objs.length/\Sp h h' [ai 5 t.1 1 aq (a++[b8 (m.objs.length:Nat)]++(m.objs.take t.2).flatMap gu),an a1 27 (aD x)]) (λt=>m.objs.length-t.2) (s9,0) m9 ⟨n4,by simpa using T⟩ ?_;rintro⟨o,i⟩ a8 ⟨hi,k⟩;dsimp only at*;refine ae (λe=>?_) (λe=>?_)
 .have u:i<m.objs.length:=nb
  have ay:=gE.up R k.ac;have a0:=MG B u;have w:((m.objs.take i).flatMap gu).length<=50000:=by have h1:=vY B i hi;have:=uo B;have:i*4000<=12*4000:=zk _ nb;omega
  refine ay.1.cQ (g:=bf) i m9 nb (J[i]'nb) m9 ?_;refine k.alloc ag m9 λX br W=>?_;refine W.storeAll ag 2 m9 m9 (bf (J[i]'nb)) m9 m9 m9 m9 λad j=>?_;have al:=gE.up R j.ac;obtain⟨⟨z,y2,y3⟩,y4⟩:=Fix.row al u;obtain⟨E,Y⟩:=HF (m.objs[i])
  rw[<-Y]at z y2 y3 y4 a0;have y:=j.box 2 m9;refine aE ⟨E.name,xx,E.name,xx,?_⟩;rw[cg];refine j.ko ag aq cR m9 [b8 (E.name.size:Nat)] m9 (show 1*1<=2^20 by decide) m9 ⟨xx,xx,I0⟩ ?_;have K:(a++[b8 (m.objs.length:Nat)]++(m.objs.take i).flatMap gu).length<=160000:=by rw[qo,qo,a2];simp;simp at w;omega
  obtain⟨f,I⟩:=HF (a++[b8 (m.objs.length:Nat)]++(m.objs.take i).flatMap gu)
  rw[<-I]at j K;refine j.push ag 0 m9 cR m9 nq (λ_=>rfl) cH (b8 (E.name.size:Nat)) m9 nq nb λa5 bd L=>?_;have F:=L.box 2 m9;refine⟨⟨by rw[<-z];exact F.cell0 m9,by rw[<-z];exact F.cell0 m9,I0⟩,?_⟩;refine L.JB ag 0 m9 cR ⟨_,m9,m9⟩ m9 nq E.name n2 λD ax s=>?_;have A:=s.box 2 m9;refine⟨⟨by rw[<-z];exact A.cell0 m9,I0⟩,?_⟩;have s:Sp h ax [ai 5 D 1 aq (f++[b8 (E.name.size:Nat)]++iS E.name),an a1 27 (aD x),an X 83 (bf (J[i]'nb))]:=s;refine aE ⟨E.object,by rw[<-y2];exact A.cell m9,E.length,by rw[<-y3];exact A.cell m9,?_⟩;have bl:=ud E.name;refine(jC D _ E.object 3 nq n2 s).Hf λH a9 P=>?_;have am:=P.box 2 m9;refine⟨H,m9,⟨by rw[<-y3];exact am.cell m9,I0⟩,?_⟩;refine(jC H _ E.length 2 nq o9 P).Hf λQ bq N=>?_;have ah:=N.box 2 m9;refine⟨Q,m9,I0,(J[i]'nb).2.2.2,ah.cell m9,?_⟩;refine sU (J[i]'nb).2.2.2 E.tries Q _ N (St.mk' λh' G=>by rw[Y];exact(Fix.row (gE.up R G.ac) u).2) o9 nb λa3 a7 O=>?_
  try dsimp only
  have ad:=uo B;refine⟨(a3,i+1),n3,⟨n1,?_⟩,n1⟩
  try dsimp only
  rw[aA _ _ u,za,<-ql,<-I,zm,we,qL,<-Y];have e3:f++[b8 (E.name.size:Nat)]++iS E.name++cD E.object 3++cD E.length 2++E.tries.map b8=f++gu E:=by unfold gu iS;simp[ql]
  rw[e3]at O;exact O.bs [0,1]
 .rw[qh nb]at k;refine⟨o,m9,?_⟩;have e2:a++[b8 (m.objs.length:Nat)]++m.objs.flatMap gu=gG m:=by rw[c];unfold gG;rw[B,hZ rfl];simp[ql]
  rw[e2]at k;exact k.bs [0]
theorem mz(x:bc)(m:aB)(h:hY)(H:cv h x m)(G:bM m):aj xT 75 #[cC x] h λv h'=>∃r:Sl,v=r/\Sp h h' [cj r (bG m)]:=by
 refine ts Tryz.func75 ?_ (F8 (F8 (F8 (F8 (F9 [(5,bJ),(6,aI)] [(5,8),(15,48)]))))) (args:=[x]);refine(Sp.refl h).boxed λw T D=>?_;refine⟨x,(D.box 0 m9).aw _ m9,(Tf x m T (H.up D.ac) G).Hf λb V Z=>?_⟩;have p:=D.comp Z;have F:=uq m G;obtain⟨l,y⟩:=HF (gG m)
 rw[<-y]at p F;have O:=(p.own 1 m9).len;have j:=(p.own 1 m9).cap;refine⟨b,m9,nq,?_⟩;have g:qd xP (Int.tdiv (qd xP ((qd xP (((b.len:Nat):Int)+(48:Int)))-(1:Int))) (48:Int))=(fl l:Int):=by rw[af ((b.len:Int)+48),af ((b.len:Int)+48-1),yD nb];unfold fl;rw[af (((b.len:Int)+48-1)/48)];omega
 have W:fl l<=3000:=by unfold fl;omega
 rw[g];obtain⟨c,d⟩:∃c:dT,c=bG m:=⟨_,rfl⟩
 have N:m8 c=fl l:=by rw[d,y];simp[bG]
 have f:Sp h V [cj ⟨eH,0,0⟩ (c.take 0),an w 27 (aD x),ai 5 b 1 aq l]:=p.kf 41 5 1 aq;refine ak (λt:Sl×Nat=>(t.1,(t.2:Int))) (λt h'=>t.2<=fl l/\Sp h h' [cj t.1 (c.take t.2),an w 27 (aD x),ai 5 b 1 aq l]) (λt=>fl l-t.2) (⟨eH,0,0⟩,0) m9 ⟨n4,f⟩ ?_;rintro⟨o,i⟩ h3 ⟨hi,f⟩;dsimp only at*;refine ae (λe=>?_) (λe=>?_)
 .have B:i<fl l:=nb
  have L:48*i<m8 l:=by unfold fl at B;omega
  rw[af ((i:Int)*48),af ((i:Int)+1),af (((i:Int)+1)*48)];obtain⟨a,U⟩:∃a:Nat,a=min (48*i+48) l.length:=⟨_,rfl⟩
  have E:(if((b.len:Nat):Int)<((i:Int)+1)*48 then((b.len:Nat):Int)else((i:Int)+1)*48)=(a:Int):=by split<;>omega
  rw[E];refine⟨⟨nb,nb,nb⟩,m.seq,by rw[<-H.seq];exact(f.box 1 m9).cell0 m9,?_⟩;have e1:((i:Int)*48).toNat=48*i:=nb
  rw[e1,qi];have R:=((f.seq 2 m9 λ_=>rfl).drop (48*i) j).take (a-48*i) o6;have J:(l.drop (48*i)).take (a-48*i)=(l.drop (48*i)).take 48:=by
   by_cases hh:48*i+48<=m8 l
   .rw[show a-48*i=48 by omega]
   .rw[qh o6,qh o6]
  rw[J,zG]at R;rw[zG];refine(jC ⟨eH,0,0⟩ [] m.seq 4 nq n4 (f.nil 5 1 aq).ba).Hf λr6 h4 A=>⟨r6,m9,?_⟩;rw[cg,cg,cg];refine A.lit ag aq cR m9 [b8 (i:Int),b8 (fl l:Int),b8 ((a-48*i:Nat):Int)] m9 (show 3*1<=2^20 by decide) m9 λv7 P u=>?_;refine u.append ag 0 m9 cR ⟨_,_,m9,m9⟩ m9 nq (λ_=>rfl) (u.seq 4 m9 λ_=>rfl) cH p7 λs8 X q=>?_;have q:Sp h X [ai 5 s8 1 aq ([]++cD m.seq 4++[b8 (i:Int),b8 (fl l:Int),b8 ((a-48*i:Nat):Int)]),cj o (c.take i),an w 27 (aD x),ai 5 b 1 aq l]:=q.bs [0,1,2,3];have k:=((q.seq 3 m9 λ_=>rfl).drop (48*i) j).take (a-48*i) o6;rw[J,zG]at k;have z:((l.drop (48*i)).take 48).length=a-48*i:=n2
  refine q.append ag 0 m9 cR ⟨_,_,m9,m9⟩ m9 nq (λ_=>rfl) k cH o9 λI K s=>?_;have s:Sp h K [ai 5 I 1 aq ([]++cD m.seq 4++[b8 (i:Int),b8 (fl l:Int),b8 ((a-48*i:Nat):Int)]++(l.drop (48*i)).take 48),cj o (c.take i),an w 27 (aD x),ai 5 b 1 aq l]:=s;refine(DI 2 I _ K (s.seq 0 m9 λ_=>rfl) o9).Hf λr h8 M=>?_;have Q:eZ 2 ([]++cD m.seq 4++[b8 (i:Int),b8 (fl l:Int),b8 ((a-48*i:Nat):Int)]++(l.drop (48*i)).take 48)=ot m.seq i (fl l) ((l.drop (48*i)).take 48):=by unfold ot;rw[z];simp
  rw[Q]at M;have A:=((s.oQ).bS M).aF 4 [1,0,2,3];refine⟨r,m9,?_⟩;refine A.nQ ag cO n2 λS P u=>?_;refine⟨(S,i+1),m9,⟨n1,?_⟩,n1⟩
  try dsimp only
  rw[aA _ _ (show i<m8 c by omega)];have Y:c[i]'nb=ot m.seq i (fl l) ((l.drop (48*i)).take 48):=by subst d;subst y;simp[bG]
  rw[Y];exact u
 .rw[qh nb,d]at f;exact⟨o,m9,f.bs [0]⟩
def Has(a:aG)(S:aC):Prop:=m8 a=64/\∀s∈S,∃d,bX a s=dB d
theorem Has.set{a:aG}{S:aC}{n:Nat}{d:bu}(F:Has a S)(b:n<64):Has (iP a (n:Int) d) S:=by
 refine⟨by unfold iP;rw[qP];exact F.1,λs c=>?_⟩;rw[AR _ _ _ _ b F.1];by_cases h:s=(n:Int)
 .rw[hZ h];exact⟨_,m9⟩
 .rw[k4 h];exact F.2 s c
theorem Has.append{a:aG}{S:aC}(F:Has a S)(w:Pow)(x:Int)(b:aT):Has (dX w a x b).2.2 S:=by
 unfold dX;cases hd:bX a x with
 |none=>exact F
 |some d=>
  obtain⟨n,rfl,c⟩:=kJ hd;exact F.set c
theorem Has.sync{a:aG}{S:aC}(F:Has a S)(w:Pow)(x:Int):Has (fG w a x).2.2 S:=by
 unfold fG;cases hd:bX a x with
 |none=>exact F
 |some d=>
  obtain⟨n,rfl,b⟩:=kJ hd;exact F.set b
def mZ(l:aC)(i:Nat):aC:=(((qy 64).drop i).map λi:Nat=>(i:Int)).filter λi=>decide (i∈l)
theorem KJ(l:aC):mZ l 64=[]:=by unfold mZ;rw[zh n4];rfl
theorem Ja(l:aC)(i:Nat)(a:i<64):mZ l i=if(i:Int)∈l then(i:Int)::mZ l (i+1)else mZ l (i+1):=by
 unfold mZ;rw[qT A8,List.getElem_range,wy,zA];by_cases h:(i:Int)∈l
 .rw[hZ p5,hZ h]
 .rw[k4 p5,k4 h]
def pr(l:aC):aR:=(qy 64).map λi:Nat=>xN (decide ((i:Int)∈l))
theorem BO(l:aC):(pr l).length=64:=by simp[pr]
theorem Gj(l:aC)(n:Nat)(a:n<64):(pr l)[n]?=dB (xN (decide ((n:Int)∈l))):=by unfold pr;rw[qM,zo a];rfl
theorem YF(l:aC)(n:Nat)(c:n<64):(pr l).set n (xN eL)=pr (l++[(n:Int)]):=by
 apply zn;intro j;rw[qV,BO];by_cases b:j<64
 .rw[Gj _ _ b,Gj _ _ b];by_cases h:n=j
  .subst h;rw[hZ m9,hZ c];simp
  .rw[k4 h];have:(j:Int)∈l++[(n:Int)]↔(j:Int)∈l:=by rw[qw,qB];exact⟨λh'=>h'.elim id λa=>absurd a nb,.inl⟩
   simp only[this]
 .rw[k4 nb,zf (by rw[BO];omega),zf (by rw[BO];omega)]
def HL(T:List ((Int×Sl)×(Int×aT))):HP:=⟨λh q=>∀t∈T,ey.p h q t.1 t.2,λa d t b=>ey.loc (a t b) d,λa c t b=>ey.mono (a t b) c⟩
abbrev bE:Qw.Kit:=⟨40,89,174,λpw=>dF pw⟩
abbrev aao:bO C.toAA 158 167 2 [xJ xP 0,xK eH 0 0] 32:=⟨_,_,m9,m9,m9,m9,m9,m9⟩
section
variable {pw:fY}
theorem aa.cU(H:aa B h0 h (aJ bE a pw mc offs da w ds::As)):gT mc da ds/\bQ h a 40 (cP mc pw offs da):=by obtain⟨ok,b⟩:=Qw.aa.gM H;exact⟨ok,b.box 0 m9⟩
theorem Nq{h:hY}(ok:gT mc da ds)(c:bQ h a 40 (cP mc pw offs da))(n:Nat)(d:n<64):∃x:bx,hU h ((a.add 10).add (n*1))=dB (.pointer x)/\da[n]?=dB x:=by
 have b:n<m8 da:=by rw[ok.la];exact d
 refine⟨da[n],?_,qc b⟩;rw[zG];refine c.mh 10 n ?_;rw[mT ok.l8,qc b];rfl
theorem Kk(s:Sl)(z:List (Int×Sl))(P:List (Int×aT))(R:St B h0 As λh=>gE ey 2 piv h s z P)(hl:m8 P<=2^30)(ah:∀x∈P,m8 x.2<=2^20)(hh:Has ds (P.map qC))(H:aa B h0 h (aJ bE a pw mc offs da w ds::As)):
  aj xT 124 #[xL (dB a),s] h λv h'=>v=xJ xP (layAll P w ds).1/\aa B h0 h' (aJ bE a pw mc offs da (layAll P w ds).2.1 (layAll P w ds).2.2::As):=by
 refine ts Tryz.func124 ?_ (F8 (F8 (E5 (F8 (E7 (E8 [(13,aI)] [(4,5),(7,9),(13,34)] E6))) (F9 [(34,aI)] [(4,5),(9,11),(34,52)]))));have al:=(R.at [_] H).1.len;have am:=(R.at [_] H).2.1;refine H.alloc ag m9 λg h1 D=>?_;have D:aa B h0 h1 (an g 232 (pr [])::aJ bE a pw mc offs da w ds::As):=D.ba;refine ak (λt:Nat×Pow×aG=>(t.1:Int)) (λt h'=>t.1<=m8 P/\Has t.2.2 (P.map qC)/\fX P w ds=fX (P.drop t.1) t.2.1 t.2.2/\aa B h0 h' (an g 232 (pr ((P.take t.1).map qC))::aJ bE a pw mc offs da t.2.1 t.2.2::As)) (λt=>m8 P-t.1) (0,w,ds) m9 ⟨n4,hh,m9,by simpa using D⟩ ?_;rintro⟨i,I,r⟩ h1 ⟨hi,F,p,D⟩;dsimp only at*;refine ae (λe=>?_) (λe=>?_)
 .have m:i<m8 P:=nb
  rw[qT m,lu]at p;have F1:=R.at [_,_] D;have ab:=ah _ (qe m);refine F1.1.cQ (g:=piv) i m9 nb (z[i]'nb) m9 ?_;refine D.alloc ag m9 λa4 h2 J=>?_;have J:=J.ba;refine J.storeAll ag 0 m9 m9 (piv (z[i]'nb)) m9 m9 m9 m9 λh3 u=>?_;obtain⟨y1,y2⟩:=Fix.row (R.at [_,_,_] u) m;have u:aa B h0 h3 (an a4 167 (piv (z[i]'nb))::an g 232 (pr ((P.take i).map qC))::aJ bE a pw mc offs da I r::As):=u;have u:=u.aF 3 [2,0,1];obtain⟨ok,hb⟩:=aa.cU u;obtain⟨c,o⟩:=HF (dX I r P[i].1 P[i].2)
  rw[<-o]at p;obtain⟨d0,y⟩:=F.2 P[i].1 (qI.2 ⟨_,qe m,rfl⟩);rcases gp ok P[i].1 with⟨c1,c2⟩|⟨n,d,b,M,c1,c2,c3,c4,c5⟩
  .rw[c1]at y;cases y
  obtain⟨x8,O,f⟩:=Nq ok hb n c1;rw[c4]at f;injection f with f
  subst f;refine⟨(n:Int),by rw[<-M,<-y1];exact(u.box 1 m9).cell0 m9,a,m9,⟨nb,nb⟩,dB b,by rw[qi];exact O,(z[i]'nb).2,(u.box 1 m9).cell m9,?_⟩;obtain⟨b',j,W⟩:=Qw.aa.fD u c2;rw[c4]at j;injection j with j
  injection j with j
  subst j;have X:St B h0 (EH bE a pw mc offs da r n::an a4 167 (piv (z[i]'nb))::an g 232 (pr ((P.take i).map qC))::As) λh=>Rd h (z[i]'nb).2 1 aq P[i].2:=
   ((R.mono λh hF=>(Fix.row hF m).2).cons).cons.cons
  refine(Np (z[i]'nb).2 P[i].2 W X ab).G7 λZ Y=>?_;have A:=Qw.aa.kW (k:=bE) (n:=n) c4 Y;have Q:c=((d.append I P[i].2).1,(d.append I P[i].2).2.1,r.set n (dB (d.append I P[i].2).2.2)):=by rw[o];unfold dX;rw[c3];simp only[iP,M,qi]
  have A:aa B h0 Z (aJ bE a pw mc offs da c.2.1 c.2.2::an a4 167 (piv (z[i]'nb))::an g 232 (pr ((P.take i).map qC))::As):=by rw[Q];exact A
  have q:(d.append I P[i].2).1=c.1:=by rw[Q]
  rw[q];have U:=A.box 1 m9;refine⟨_,m9,⟨by rw[<-M,<-y1];exact U.cell0 m9,I0⟩,bm (λK=>?_) λK=>?_⟩
  .rw[k4 K]at p;have:layAll P w ds=c:=by unfold layAll;rw[p];exact k4 K
   rw[this];exact⟨m9,A.nP.nP⟩
  .rw[hZ K]at p;refine⟨(n:Int),by rw[<-M,<-y1];exact U.cell0 m9,⟨nb,nb⟩,?_⟩;rw[qi,zG];refine A.storeAt ag 2 m9 m9 m9 m9 m9 (by rw[BO];exact c1) λh8 V=>?_;have V:aa B h0 h8 (aJ bE a pw mc offs da c.2.1 c.2.2::an a4 167 (piv (z[i]'nb))::an g 232 ((pr ((P.take i).map qC)).set n (xN eL))::As):=V;rw[YF _ _ c1]at V;refine⟨(i+1,c.2.1,c.2.2),n3,⟨n1,by rw[o];exact F.append _ _ _,p,?_⟩,n1⟩
   try dsimp only
   rw[aA _ _ m,qE,wy,y7,M];exact V.aF 3 [2,0]
 .have ad:i=m8 P:=nb
  subst ad;rw[yT]at p;rw[qt]at D;have T:layAll P w ds=iY (gA (P.map qC)) I r:=by unfold layAll;rw[p];rfl
  obtain⟨L,hL⟩:=HF (P.map qC)
  rw[<-hL]at D T F;refine ak (λt:Nat×Pow×aG=>(t.1:Int)) (λt h'=>t.1<=64/\Has t.2.2 L/\layAll P w ds=iY (mZ L t.1) t.2.1 t.2.2/\aa B h0 h' (an g 232 (pr L)::aJ bE a pw mc offs da t.2.1 t.2.2::As)) (λt=>64-t.1) (0,I,r) m9 ⟨n4,F,T,D⟩ ?_;rintro⟨i,G,E⟩ h2 ⟨hi,N,l,J⟩;dsimp only at*;refine ae (λe=>?_) (λe=>?_)
  .have m:i<64:=nb
   rw[Ja _ _ m]at l;refine⟨⟨nb,nb⟩,decide ((i:Int)∈L),?_,aH (λK=>?_) λK=>?_⟩
   .rw[qi,zG];exact(J.box 0 m9).cell (Gj _ _ m)
   .rw[k4 (by simpa using K)]at l;exact⟨(i+1,G,E),n3,⟨n1,N,l,J⟩,n1⟩
   .have hm:(i:Int)∈L:=by simpa using K
    rw[hZ hm,nf]at l;have u:=J.aF 2 [1,0];obtain⟨ok,hb⟩:=aa.cU u;obtain⟨d0,y⟩:=N.2 _ hm;rcases gp ok (i:Int)with⟨c1,c2⟩|⟨n,d,b,M,c1,c2,c3,c4,c5⟩
    .rw[c1]at y;cases y
    have M:i=n:=nb
    subst M;obtain⟨x8,O,f⟩:=Nq ok hb i c1;rw[c4]at f;injection f with f
    subst f;refine⟨a,m9,⟨nb,nb⟩,dB b,by rw[qi];exact O,?_⟩;obtain⟨b',j,W⟩:=Qw.aa.fD u c2;rw[c4]at j;injection j with j
    injection j with j
    subst j;refine(Tb W).G7 λZ Y=>?_;have A:=Qw.aa.kW (k:=bE) (n:=i) c4 Y;have Q:fG G E (i:Int)=((d.sync G).1,(d.sync G).2.1,E.set i (dB (d.sync G).2.2)):=by unfold fG;rw[c3];simp only[iP,qi]
    have S:=N.sync G (i:Int);obtain⟨c,o⟩:=HF (fG G E (i:Int))
    rw[<-o]at l Q S;have A:aa B h0 Z (aJ bE a pw mc offs da c.2.1 c.2.2::an g 232 (pr L)::As):=by rw[Q];exact A
    have q:(d.sync G).1=c.1:=by rw[Q]
    rw[q];refine⟨_,m9,bm (λe3=>?_) λe3=>?_⟩
    .rw[k4 e3]at l;rw[l];exact⟨m9,A.nP⟩
    .rw[hZ e3]at l;exact⟨(i+1,c.2.1,c.2.2),n3,⟨n1,S,l,A.aF 2 [1,0]⟩,n1⟩
  .have:i=64:=nb
   subst this;rw[KJ]at l;rw[l];exact⟨m9,J.oQ⟩
theorem Au(x:bc)(m:aB)(s:Sl)(d:aC)(X:St B h0 As λh=>cv h x m/\Rd h s 1 av d)(U:bM m)(a2:m8 d<=2^10)(hh:Has ds d)(H:aa B h0 h (aJ bE a pw mc offs da w ds::As)):
  aj xT 78 #[xL (dB a),cC x,s] h λv h'=>v=xJ xP (layAll (bi m d) w ds).1/\aa B h0 h' (aJ bE a pw mc offs da (layAll (bi m d) w ds).2.1 (layAll (bi m d) w ds).2.2::As):=by
 refine ts Tryz.func78 ?_ (F8 (F8 (E5 (F8 (E7 (E8 [(7,bJ),(14,aI)] [(7,8),(9,10),(11,12),(14,33)] (F8 (F8 (E5 (E7 (F8 (F8 (E7 (E8 [(7,bJ),(21,aI)] [(7,8),(11,12),(21,32)] E6))))) E6)))))) E6))) (args:=[(dB a),x,s]);refine H.boxed λQ h1 J=>?_;have J:aa B h0 h1 (an Q 27 (aD x)::aJ bE a pw mc offs da w ds::As):=J.ba;have J:aa B h0 h1 (HL []::an Q 27 (aD x)::aJ bE a pw mc offs da w ds::As):=(J.comp (.one (A:=HL []) (aQ.refl _ _) λt G=>by cases G)).ba;have J:=(J.nil 167 2 piv).ba;have N:=jJ m U;obtain⟨f,F⟩:=HF (bG m)
 rw[<-F]at N;have ax:=(X.at [_] H).2.len;refine ak (λt:Sl×Nat×List ((Int×Sl)×(Int×aT))=>(t.1,(t.2.1:Int))) (λt h'=>t.2.1<=m8 d/\t.2.2.map zg=bi m (d.take t.2.1)/\aa B h0 h' (ai 167 t.1 2 piv (t.2.2.map qC)::HL t.2.2::an Q 27 (aD x)::aJ bE a pw mc offs da w ds::As)) (λt=>m8 d-t.2.1) (⟨eH,0,0⟩,0,[]) m9 ⟨n4,by simp[bi],J⟩ ?_;rintro⟨o,i,p⟩ h2 ⟨hi,g,O⟩;dsimp only at*;have ab:m8 p=i*m8 f:=by
  have:=congrArg List.length g;have e:∀S:aC,(bi m S).length=m8 S*m8 f:=λS=>by
   induction S with
   |nil=>simp[bi]
   |cons n S ih=>
    have e1:bi m (n::S)=(bG m).map (λc=>(n,c))++bi m S:=by unfold bi;rw[zm]
    rw[e1,qo,qn,ih,q7,zU,F,Nat.add_comm]
  rw[e,qn,qx]at this;rw[this,Nat.min_eq_left nb]
 have ad:m8 p<=2^10*3000:=by rw[ab];exact zq nb N
 refine ae (λe=>?_) (λe=>?_)
 .have R:i<m8 d:=nb
  obtain⟨n,hn⟩:=HF (d[i])
  refine(X.at [_,_,_,_] O).2.aW i m9 R n (by rw[hn];rfl) ?_;refine⟨x,(O.box 2 m9).aw _ m9,(mz x m h2 (X.at [_,_,_,_] O).1 U).Hf λr h3 R3=>?_⟩;obtain⟨rs,E⟩:=(O.bS R3).ML λ_=>rfl;rw[<-F]at E;refine⟨r,m9,?_⟩;have F3:=E.dv 0 m9;have a3:=F3.1.len;have ay:=F3.2.1;obtain⟨T,W⟩:∃T:List ((Int×Sl)×(Int×aT)),T=(rs.zip f).map λz=>((n,z.1),(n,z.2)):=⟨_,rfl⟩
  have I:m8 T=m8 f:=by rw[W];simp;omega
  have ap:T.map zg=f.map λc=>(n,c):=by
   have U:=List.map_snd_zip (l₁:=rs) (l₂:=f) nb
   conv=>rhs;rw[<-U]
   rw[W];simp[y0,Function.comp_def]
  have al:∀j (Y:j<m8 f),T[j]'(by rw[I];exact Y)=((n,rs[j]'nb),(n,f[j])):=λj Y=>by subst W;simp
  refine ak (λt:Sl×Nat=>(t.1,(t.2:Int))) (λt h'=>t.2<=m8 f/\aa B h0 h' (cB (iR 1 aq) 1 bv r rs f::ai 167 t.1 2 piv (p.map qC++(T.take t.2).map qC)::HL p::an Q 27 (aD x)::aJ bE a pw mc offs da w ds::As)) (λt=>m8 f-t.2) (o,0) m9 ⟨n4,by simpa using E⟩ ?_;rintro⟨u,j⟩ h4 ⟨Y,L⟩;dsimp only at*;refine ae (λe2=>?_) (λe2=>?_)
  .have P:j<m8 f:=nb
   refine(L.dv 0 m9).1.ly j m9 nb ?_;refine L.push ag 1 m9 aao m9 nq (λ_=>rfl) tC (n,rs[j]'nb) m9 nq (by simp only[qo,qn,qx];omega) λu' h5 H5=>?_;refine⟨(u',j+1),n3,⟨n1,?_⟩,n1⟩
   try dsimp only
   rw[aA T j (by rw[I];exact P),qE,al _ P,<-ql];exact H5
  .have ao:j=m8 f:=nb
   subst ao;rw[qh (l:=T) (by rw[I];exact qj _),<-qE]at L;have H5:=L.merge 2 0 nq m9 m9 (D:=HL (p++T)) (λq1 q2 _ p1 p2 t G=>by
    rcases qw.1 G with G|G
    .exact ey.mono (p1 t G) λ_ hb=>.inl hb
    .rw[W]at G;obtain⟨z,am,rfl⟩:=qI.1 G;obtain⟨k,hk⟩:=List.mem_iff_getElem?.1 am;have K:=hk;rw[List.getElem?_zip_eq_some]at K;exact⟨m9,Seq.mono (p2.2.2 k z.1 z.2 K.1 K.2) λ_ hb=>.inr hb⟩)
   refine⟨(u,i+1,p++T),n3,⟨n1,?_,H5.oQ⟩,n1⟩
   try dsimp only
   rw[qE,g,ap,aA _ _ R];unfold bi;rw[za,zm,we,qL,<-F,hn]
 .have ah:i=m8 d:=nb
  subst ah;rw[qt]at g;have E:=(O.freeze 0 m9 λ_=>rfl).kA;have E:aa B h0 h2 (cB ey 2 piv o (p.map qC) (bi m d)::an Q 27 (aD x)::aJ bE a pw mc offs da w ds::As):=E.dY 0 m9 λq ⟨q1,q2,_,b,c,z1,z2⟩=>by
   rw[<-g];refine⟨Seq.mono z2 c,n4,λj r' l' M V=>?_⟩;rw[qM]at M V;cases g3:p[j]? with
   |none=>rw[g3]at M;cases M
   |some t=>
    rw[g3]at M V;simp at M V;subst M;subst V;exact ey.mono (z1 t (wj g3)) b
  have E:=E.aF 3 [2,0,1];have a0:(bi m d).length<=2^10*3000:=by rw[<-g,qn];exact ad
  refine(Kk o (p.map qC) (bi m d) (St.dS 0 m9 λ_ hq=>hq) nb (λy hy=>?_) ⟨hh.1,λy hy=>?_⟩ E).mono ?_
  .rw[(mw hy).2];decide
  .obtain⟨z,Z,rfl⟩:=qI.1 hy;exact hh.2 _ (mw Z).1
  rintro _ h4 ⟨rfl,L⟩;exact⟨_,m9,m9,L.nP.nP⟩
theorem HM(s:Sl)(l:aC)(G:Rd h s 1 av l)(P:m8 l<=2^30)(E:∀x∈l,0<=x/\x<64)(H:aa B h0 h (aJ bE a pw mc offs da w ds::As)):
  aj xT 73 #[xL (dB a),s] h λv h'=>∃r:Sl,v=r/\Sp h h' [ai 3 r 1 av (bh ds l)]:=by
 refine ts Tryz.func73 ?_ (F8 (F8 (F9 [(5,bJ),(10,aI)] [(5,6),(7,8),(10,38)])));have O:=G.len;refine ak (λt:Sl×Nat=>(t.1,(t.2:Int))) (λt h'=>t.2<=m8 l/\Sp h h' [ai 3 t.1 1 av (bh ds (l.take t.2))]) (λt=>m8 l-t.2) (⟨eH,0,0⟩,0) m9 ⟨n4,by simpa[bh]using(Sp.refl h).nil 3 1 av⟩ ?_;rintro⟨o,i⟩ T ⟨V,q⟩;dsimp only at*;refine ae (λe=>?_) (λe=>?_)
 .have k:i<m8 l:=nb
  have c:bh ds (l.take (i+1))=bh ds (l.take i)++(if isLive ds l[i]then[l[i]]else[]):=by unfold bh;rw[aA _ _ k,zi,zA,wY]
  have K:(bh ds (l.take i)).length<=m8 l:=by have:=qK (isLive ds) (l.take i);unfold bh;simp at this⊢;omega
  have next:∀{h':hY} {m:Sl},Sp h h' [ai 3 m 1 av (bh ds (l.take (i+1)))]->∃u:Sl×Nat,((⟨m.ptr,m.len,m.cap⟩:Sl),qd xP ((i:Int)+1))=(u.1,(u.2:Int))/\(u.2<=m8 l/\Sp h h' [ai 3 u.1 1 av (bh ds (l.take u.2))])/\l.length-u.2<m8 l-i:=λ{h' m} H'=>
   ⟨(m,i+1),n3,⟨n1,H'⟩,n1⟩
  refine(Seq.up G q.ac).aW i m9 k l[i] m9 ?_;have Q:=E _ (qe k);have I:=aa.up H q.ac;obtain⟨ok,M⟩:=aa.cU I;obtain⟨n,N⟩:∃n:Nat,l[i]=(n:Int):=⟨l[i].toNat,nb⟩
  have y:n<64:=nb
  obtain⟨p,z,j⟩:=Nq ok M n y;rw[N]at c⊢;refine⟨a,m9,⟨nb,nb⟩,p,by rw[qi];exact z,?_⟩;rcases gp ok (n:Int)with⟨c1,c2⟩|⟨n',d,b,F,c1,c2,c3,c4,c5⟩
  .have D:p=eH:=by unfold cT at c2;rw[hZ nb,qi,j]at c2;exact c2
   subst D;have g:isLive ds (n:Int)=eR:=by unfold isLive;rw[c1]
   rw[g]at c;exact aS (λe=>n5) λ_=>next (by rw[c];simpa using q)
  .have F:n=n':=nb
   subst F;rw[j]at c4;injection c4 with c4
   subst c4;have g:isLive ds (n:Int)=!d.lost:=by unfold isLive;rw[c3]
   obtain⟨S,f,J⟩:=Qw.aa.fD I c2;rw[j]at f;injection f with f
   injection f with f
   subst f;obtain⟨_,U,R,A,_,_⟩:=ir.box J;refine aS (λ_=>?_) λe=>n5
   refine⟨a,m9,⟨nb,nb⟩,dB b,by rw[qi];exact z,b,m9,d.lost,A.cell m9,aH (λe=>?_) λe=>?_⟩
   .rw[g,e]at c;refine q.push ag 0 m9 ge m9 nq (λ_=>rfl) dt (n:Int) m9 nq nb λm W L=>next ?_
    rw[c];exact L
   .rw[g,e]at c;exact next (by rw[c];simpa using q)
 .rw[qh nb]at q;exact⟨o,m9,q⟩
end
end Go.Qw
