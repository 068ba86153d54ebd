/- Lemmas for the proof of the law; no condition. -/
import Derived.Test.YtmobnmonkaacaaaGreatDoorKA
import Derived.Test.YtmobnmonkaacaaaGreatDoorShelfB
set_option maxHeartbeats 2000000
set_option linter.unusedVariables false
set_option maxHeartbeats 2000000
set_option linter.unusedSimpArgs false
open Go.Proofs.Tryz renaming prog -> xR
open List renaming contains_eq_mem -> vo, find?_some -> vC, mem_iff_getElem -> vm, pairwise_map -> vh, range -> qy, replicate -> qh, zipWith -> zl, zipWith_append -> vx
open Go.Value renaming agg -> xM, bool -> xL, int -> xH, pointer -> xJ, slice -> xI, string -> xK
open Go.IntKind renaming bits -> qq, i64 -> xN, signed -> yA, u32 -> xP, u64 -> xQ, u8 -> xO, wrap -> qc
open Bool renaming eq_false_iff -> vU
open Nat renaming lt_trichotomy -> vP
open Int renaming fdiv -> zo, tmod -> xz
open Option renaming some -> wb
open Go.Instr renaming storeAt -> qD
open Prod renaming fst -> qA, snd -> zh
open BitVec renaming ofInt -> qG, ofNat -> yJ
open UInt8 renaming lt_iff_toNat_lt -> wV
set_option maxRecDepth 100000
open Option renaming some -> dB, none -> eH
open Bool renaming true -> eX, false -> eY
open Go renaming Addr -> hU
open Go.Qw renaming cellOf -> hY, Heap -> m5
open List renaming length -> n4
open Go.Qw.cg renaming two -> G0, n -> G6, inn -> G7, loop -> G9, join -> Hf, tn -> HF, lp -> I0, jn -> I1
namespace Go.Qw
open Go.Proofs
theorem GV(p:Pm)(h:m5):ak xR 247 #[go p] h λv h'=>∃r:Sl,v=r/\Sp h h' [ai 3 r 1 ar (upto (max 0 (min p.1 16)).toNat)]:=by
 refine ts Tryz.func247 ?_ (HF (HF (I0 [(3,bK),(9,aI)] [(3,5),(9,17)]))) (args:=[p]);refine(Sp.refl h).boxed λa q f=>?_;refine⟨p.1,(f.box 0 n5).cell0 n5,?_⟩;have em:(if(if(16:Int)<p.1 then(16:Int)else p.1)>(0:Int)then(if(16:Int)<p.1 then(16:Int)else p.1)else(0:Int))=((max 0 (min p.1 16)).toNat:Int):=by split<;>split<;>omega
 try dsimp only
 rw[em];generalize u:(max 0 (min p.1 16)).toNat=N;have c:N<=16:=n7
 refine aj (λt:Sl×Nat=>(t.1,(t.2:Int))) (λt h'=>t.2<=N/\Sp h h' [emp,ai 3 t.1 1 ar (upto t.2)]) (λt=>N-t.2) (⟨eH,0,0⟩,0) n5 ⟨oo,(f.dW 0 n5 λ_ _=>trivial).nil 3 1 ar⟩ ?_;rintro⟨s,k⟩ m ⟨o,b⟩;dsimp only at*;refine ae (λe=>?_) (λe=>?_)
 .refine b.push ag 1 n5 fu n5 n8 (λ_=>rfl) db (k:Int) n5 n8 B7 λg h3 l=>?_;refine⟨(g,k+1),oj,⟨n9,?_⟩,n9⟩;have j:upto (k+1)=upto k++[(k:Int)]:=by simp[upto,zC]
  dsimp only;rw[j];exact l
 .have:k=N:=n7
  subst this;exact⟨s,n5,b.take 1 λi A d=>by cases i with|zero=>exact d|succ i=>simp at d⟩
theorem EN(p:Pm)(seed:Int)(f:Sl)(l:aC)(h:m5)(z:Rd h f 1 ar l)(J:n4 l<=2^30):ak xR 246 #[go p,xH xP seed,f] h λv h'=>∃r:Sl,v=r/\Sp h h' [dw 41 r 1 aq (ez p seed l)]:=by
 refine ts Tryz.func246 ?_ (HF (HF (I0 [(7,bK),(15,aI)] [(7,8),(9,11),(15,30)]))) (args:=[p,(xH xP (seed:Int)),f]);refine(Sp.refl h).boxed λa F E=>?_;refine⟨p,(E.box 0 n5).aw _ n5,(BP p F).mono ?_⟩;rintro v G ⟨r,rfl,L⟩;have y:=E.comp L;refine⟨r,n5,?_⟩;have B:=z.len;let at_:Nat->dP:=λk=>ez p seed (l.take k);have h0:(if bH p then bA p.1.toNat p.2.1.toNat else[])=at_ 0:=by simp[at_,ez]
 rw[h0]at y;refine aj (λt:Sl×Nat=>(t.1,(t.2:Int))) (λt h'=>t.2<=n4 l/\Sp h h' [an a 24 [xH xN p.1,xH xN p.2.1,xH xN p.2.2],dw 41 t.1 1 aq (at_ t.2)]) (λt=>n4 l-t.2) (r,0) n5 ⟨oo,y⟩ ?_;rintro⟨s,k⟩ h3 ⟨N,o⟩;dsimp only at*;refine ae (λe=>?_) (λe=>?_)
 .have d:k<n4 l:=n7
  refine(Seq.up z o.ac).aV k n5 d _ n5 ?_;refine⟨p,(o.box 0 n5).aw _ n5,(XE p seed l[k] h3).I4 λw O ⟨K,c⟩=>?_⟩;have u:=(o.comp K).freeze 2 n5 λ_=>rfl;refine⟨w,n5,?_⟩;have q:n4 (at_ k)<=4+k∨at_ k=[]:=by
   by_cases x:bH p
   .left;have:=(bI p).1 x;have F:=qH bP (l.take k);have G:=List.length_take_le k l;simp only[at_,ez,x,if_true,qo,qm,bA,zL];omega
   .right;simp[at_,ez,x]
  have m:n4 (at_ k)+1<=2^32:=by
   rcases q with h|h
   .omega
   .rw[h];simp
  try dsimp only
  refine aH (λg=>?_) (λg=>?_)
  .rw[c]at g;have b:(bH p&&bP l[k])=eX:=Cw
   rw[b,m6 rfl]at u;refine u.jD ag 1 2 n8 n5 n5 cI m λI P H=>?_;refine⟨(I,k+1),oj,⟨n9,?_⟩,n9⟩;rw[qC]at b;have j:at_ (k+1)=at_ k++[pv (bD p).toNat seed l[k]]:=by simp only[at_,ez,b.1,if_true];rw[tz d,m6 b.2,qF,ql];rfl
   try dsimp only
   rw[j];exact H.del 2
  .rw[c]at g;have b:(bH p&&bP l[k])=eY:=by
    cases hh:(bH p&&bP l[k])with
    |false=>rfl
    |true=>rw[hh]at g;cases g
   refine⟨(s,k+1),oj,⟨n9,?_⟩,n9⟩;have j:at_ (k+1)=at_ k:=by
    simp only[at_,ez];rw[Bool.and_eq_false_iff]at b;rcases b with h|h
    .simp[h]
    .have M:(l.take (k+1)).filter bP=(l.take k).filter bP:=by rw[tz d,nq (by simp[h])]
     rw[M]
   try dsimp only
   rw[j];exact u.del 2
 .refine⟨s,n5,?_⟩;have j:at_ k=ez p seed l:=by simp only[at_];rw[qf n7]
  rw[j]at o;exact o.take 1 (λi A D=>by cases i with|zero=>exact D|succ i=>simp at D)
theorem mI(a:Sl)(m:aO)(n:Nat)(h:m5)(d:dT h a 1 aq m)(j:aU n m)(l:n<=64:=by omega)(q:n4 m<=2^30:=by omega):ak xR 294 #[a] h λv h'=>v=xL eX/\h'=h:=by
 refine ts Tryz.func294 ?_ (HF (I0 [(7,aI)] [(2,3),(4,5),(7,24)]));have p:=d.len;refine aj (λk:Nat=>(k:Int)) (λk h'=>h'=h/\k<=n4 m) (λk=>n4 m-k) 0 n5 ⟨n5,n7⟩ ?_;rintro k h' ⟨rfl,o⟩;refine ae (λe=>?_) λe=>⟨n5,n5⟩;have b:k<n4 m:=n7
 refine d.get k n5 b λr g=>?_;refine d.get 0 n5 n7 λs c=>?_;have i:=g.len;have f:=c.len;rw[j _ (qe _)]at i f;refine bt (λe=>n7) λ_=>ae (λe=>n7) λ_=>?_;exact⟨k+1,o0,⟨n5,n7⟩,n7⟩
theorem ug(a:Sl)(m:aO)(n:Nat)(h:m5)(d:dT h a 1 aq m)(u:aU n m)(z:n<=64:=by omega)(E:n4 m<=2^30:=by omega):ak xR 296 #[a] h λv h'=>∃(r:Sl) (rs:List Sl),v=r/\rs.length=n4 m/\Sp h h' (ai 41 r 1 bv rs::bo 5 1 aq rs m):=by
 refine ts Tryz.func296 ?_ (HF (HF (I0 [(3,bK),(11,aI)] [(3,4),(5,6),(11,21)])));have D:=d.len;refine(Sp.refl h).make ag bv cI n8 ⟨eH,0,0⟩ n5 n5 0 m.length n5 n7 n7 n7 λs F j y q=>?_;refine aj (λt:Sl×List Sl=>(t.1,(n4 t.2:Int))) (λt h'=>n4 t.2<=n4 m/\Sp h h' (ai 41 t.1 1 bv t.2::bo 5 1 aq t.2 (m.take t.2.length))) (λt=>n4 m-n4 t.2) (s,[]) n5 ⟨oo,by simpa[bo]using q⟩ ?_;rintro⟨s,rs⟩ g ⟨A,c⟩;dsimp only at*;refine ae (λe=>?_) (λe=>?_)
 .have b:n4 rs<n4 m:=n7
  refine(d.up c.ac).get rs.length n5 b λr l=>?_;have p:m[n4 rs].length=n:=u _ (qe _);refine(fN r _ g l).I4 λw h3 f=>?_;have x:=c.comp f;refine⟨w,n5,?_⟩;refine x.push ag 0 n5 cI n5 n8 (λ_=>rfl) jK w n5 n8 n7 λi B k=>?_;refine⟨(i,rs++[w]),by dsimp only;rw[af _];simp,⟨oi,?_⟩,oi⟩
  try dsimp only
  rw[show(rs++[w]).length=n4 rs+1 by simp,az _ _ b,oz t6];exact k
 .have o:m.take rs.length=m:=qf n7;rw[o]at c;exact⟨s,rs,n5,n7,c⟩
theorem pH(a:Sl)(m:aO)(h:m5)(b:dT h a 1 aq m):ak xR 295 #[a] h λv h'=>v=xH xN (ee m)/\h'=h:=by
 refine ts Tryz.func295 ?_;have d:=b.len;refine be (λe=>?_) (λe=>?_)
 .have:m=[]:=qQ n7;subst this;exact⟨n5,n5⟩
 .refine b.get 0 n5 n7 λr c=>⟨?_,n5⟩
  rw[c.len,ee,bf n7]
theorem lS{r:Row}{c:Nat}(h:c<n4 r:=by omega):aM r c=r[c]:=by rw[aM,qg,qd h];rfl
theorem Oy(a:Sl)(m:aO)(n b aW:Nat)(h:m5)(q:dT h a 1 aq m)(w:aU n m)(x:aW<n)(z:n4 m<=2^30):
  ak xR 344 #[a,xH xN b,xH xN aW] h λv h'=>v=xH xN (match fp m b aW with|some i=>(i:Int)|none=>-1)/\h'=h:=by
 refine ts Tryz.func344 ?_ (HF (.scope 0 [(7,aI)] [(6,8),(9,24)] [G6] [G6] [(1,[G6])]));have y:=q.len;refine aj (λk:Nat=>(k:Int)) (λk h'=>h'=h/\b<=k/\k<=max b m.length/\∀j,j<k->(decide (b<=j)&&(aM (aA m j) aW !=0))=eY) (λk=>n4 m-k) b n5 ⟨n5,n7,n7,λj g=>by rw[n2 n7];rfl⟩ ?_;rintro k h' ⟨rfl,p,t,g⟩;refine ae (λe=>?_) (λe=>?_)
 .rw[fp,Gw λj f=>g j n7];exact⟨n5,n5⟩
 .have d:k<n4 m:=n7
  have u:m[k].length=n:=w _ (qe _);refine q.get k n5 d λr s=>?_;refine s.aV aW n5 n7 _ n5 ?_;have c:aM (aA m k) aW=m[k][aW]'n7:=by rw[bf d,lS]
  refine bt (λl=>?_) (λl=>?_)
  .have o:(decide (b<=k)&&(aM (aA m k) aW !=0))=eX:=by rw[n1 p,c];simp;exactλh0=>l (by rw[h0];rfl)
   rw[fp,Rm d g o];exact⟨n5,n5⟩
  .refine⟨k+1,o0,⟨n5,n7,n7,λj f=>?_⟩,n7⟩;rcases Nat.lt_succ_iff_lt_or_eq.1 f with h1|rfl
   .exact g j h1
   .rw[c,nc.1 l];simp
theorem RY(f:hU)(c:UInt8)(a:Sl)(l:Row)(h:m5)(i:ia h f)(m:Rd h a 1 aq l)(A:n4 l<=2^30):ak xR 345 #[xJ (dB f),xH xO c.toNat,a] h λv h'=>∃r:Sl,v=r/\Sp h h' [ai 5 r 1 aq (scaleB c l)]:=by
 refine ts Tryz.func345 ?_ (HF (HF (HF (I0 [(17,aI)] [(8,10),(17,30)]))));have z:=m.len;refine(Kj f h).mono ?_;rintro v j ⟨rfl,rfl⟩;refine⟨dB f,n5,?_⟩;refine(Sp.refl j).make ag aq cK n8 0 n5 n5 l.length l.length n7 n7 (qj _) n7 λs w q u o=>?_;refine aj (λk:Nat=>(k:Int)) (λk h'=>k<=n4 l/\Sp j h' [ai 5 s 1 aq ((l.take k).map (Gf.mul c)++qh (n4 l-k) 0)]) (λk=>n4 l-k) 0 n5 ⟨n7,by simpa using o⟩ ?_;rintro k h3 ⟨x,d⟩;refine ae (λe=>?_) (λe=>?_)
 .have b:k<n4 l:=n7
  refine(Seq.up m d.ac).aV k n5 b _ n5 ?_;refine(FO f c l[k] h3 (i.ac d.ac i.lt)).I2 ⟨_,n5,?_⟩;refine d.set ag 0 n5 (λ_=>rfl) n5 k n5 oi _ n5 n5 n5 λB p=>?_;refine⟨k+1,o0,⟨n7,?_⟩,n7⟩;have g:n4 ((l.take k).map (Gf.mul c))=k:=oi
  have t:((l.take k).map (Gf.mul c)++qh (n4 l-k) 0).set k (Gf.mul c l[k])=(l.take (k+1)).map (Gf.mul c)++qh (n4 l-(k+1)) 0:=by rw[qZ _ _ n7,g,zd,show l.length-k=n4 l-(k+1)+1 by omega,List.replicate_succ,zu,az _ _ b,qF,ql];rfl
  rw[<-t];exact p
 .have:k=n4 l:=n7
  subst this;refine⟨s,n5,?_⟩;rw[qf (qj _),zd,List.replicate_zero,qL]at d;exact d
theorem uh{c:UInt8}{a t:Row}(e:n4 a=n4 t){k:Nat}(b:k<n4 t):(zl (λx y=>y^^^Gf.mul c x) (a.take k) (t.take k)++t.drop k).set k (t[k]^^^Gf.mul c (a[k]'n7))=zl (λx y=>y^^^Gf.mul c x) (a.take (k+1)) (t.take (k+1))++t.drop (k+1):=by
 have d:n4 (zl (λx y=>y^^^Gf.mul c x) (a.take k) (t.take k))=k:=oi
 rw[qZ _ _ n7,d,zd,qT b,zu,az _ _ b,az _ _ (show k<n4 a by omega),vx oi];simp
theorem XF(f:hU)(c:UInt8)(a l:Sl)(d lt:Row)(h:m5)(I:ia h f)(z:¬l.on f.block)(D:Seq h (λb=>¬l.on b) a 1 aq d)(A:Own h 5 l 1 aq lt)(o:n4 d=n4 lt)(L:n4 d<=2^30):
  ak xR 347 #[xJ (dB f),xH xO c.toNat,a,l] h λv h'=>v=.tuple #[]/\Own h' 5 l 1 aq (cH c d lt)/\aQ (λb=>¬l.on b) h h':=by
 refine ts Tryz.func347 ?_ (HF (HF (G7 (G9 [(14,aI)] [(8,10),(14,30)] G6))));have K:=D.len;have F:=A.len;refine be (λe=>?_) (λ_=>?_)
 .have E:c=0:=nc.1 e;subst E;have:cH 0 d lt=lt:=by apply List.ext_getElem (by rw[cl o]);intro i B G;simp[cH,Gf.zero_mul]
  exact⟨n5,by rw[this];exact A,aQ.refl _ _⟩
 .refine aj (λk:Nat=>(k:Int)) (λk h'=>k<=n4 d/\Own h' 5 l 1 aq (zl (λx y=>y^^^Gf.mul c x) (d.take k) (lt.take k)++lt.drop k)/\aQ (λb=>¬l.on b) h h') (λk=>n4 d-k) 0 n5 ⟨n7,by simpa using A,aQ.refl _ _⟩ ?_;rintro k B ⟨J,j,g⟩;refine ae (λe=>?_) (λe=>?_)
  .have t:k<n4 d:=n7
   have w:k<n4 lt:=n7
   have q:n4 (zl (λx y=>y^^^Gf.mul c x) (d.take k) (lt.take k))=k:=oi
   have H:n4 (zl (λx y=>y^^^Gf.mul c x) (d.take k) (lt.take k)++lt.drop k)=n4 lt:=by rw[qo,q,qJ];omega
   refine(D.ac g).aV k n5 t _ n5 ?_;have m:(zl (λx y=>y^^^Gf.mul c x) (d.take k) (lt.take k)++lt.drop k)[k]'n7=lt[k]:=by rw[List.getElem_append_right n7];simp[q]
   refine(j.seq (p:=λ_=>True) (λ_=>rfl) λ_ _=>trivial).nA k n5 n7 _ n5 λax r=>?_;rw[m]at r⊢;refine(FO f c d[k] B (I.ac g z)).I2 ⟨_,n5,⟨r,I6⟩,?_⟩
   try dsimp only
   rw[lQ];refine j.set ag (λ_=>rfl) n5 k n5 n7 _ n5 n5 n5 λh3 u s _=>⟨I6,?_⟩
   refine⟨k+1,o0,⟨n7,?_,g.trans s⟩,n7⟩;rw[<-uh o w];exact u
  .have:k=n4 d:=n7
   subst this;rw[qf (qj _),qf n7,zj n7,qL]at j;exact⟨n5,j,g⟩
abbrev kO(a:Sl)(rs:List Sl)(m:aO):List HP:=ai 41 a 1 bv rs::bo 5 1 aq rs m
theorem lq{a:Sl}{rs:List Sl}{m:aO}(b:n4 rs=n4 m)(i:Nat)(c:i<n4 m):(kO a rs m)[i+1]?=dB (ai 5 (rs[i]'n7) 1 aq m[i]):=by rw[qU];exact eC b i c
theorem dY{h h':m5}{a:hU}{v:Value}(c:hY h a=dB v)(d:aQ (λb=>b<h.size) h h'):hY h' a=dB v:=d.cell (df c) c
theorem UU{B:au}{F:m5}{f:hU}(M:ia F f)(E:B f.block){a:Sl}{n c aW:Nat}{rs:List Sl}{m:aO}(V:n4 rs=n4 m)(hm:aU n m)(hc:aW<n)(hn:n<=64)(ht:c<n4 m)(hs:n4 m<=2^30)
  {h:m5} (H:aa B F h (kO a rs m)) {K:m5->Prop} (hk:∀h',aa B F h' (kO a rs (bO c aW m m.length))->K h'):
 fP (σ:=Int) (λd Y i=>
 Br (decide (d<((a.len:Nat):Int)))
 (Br (d !=(c:Int))
 (∃x:hU,(a.ptr=dB x/\0<=d/\d<((a.len:Nat):Int))/\
 ∃g:Sl,hY i (x.add (d.toNat*1))=dB (xI g.ptr g.len g.cap)/\
 ∃z:hU,(g.ptr=dB z/\0<=(aW:Int)/\(aW:Int)<((g.len:Nat):Int))/\
 ∃y:Int,hY i (z.add ((aW:Int).toNat*1))=dB (xH xO y)/\
 ∃a25:hU,(a.ptr=dB a25/\0<=(c:Int)/\(c:Int)<((a.len:Nat):Int))/\
 ∃l:Sl,hY i (a25.add ((c:Int).toNat*1))=dB (xI l.ptr l.len l.cap)/\
 ∃G:hU,(a.ptr=dB G/\0<=d/\d<((a.len:Nat):Int))/\
 ∃j:Sl,hY i (G.add (d.toNat*1))=dB (xI j.ptr j.len j.cap)/\
 ji xR 347 #[(xJ (dB f)),(xH xO y),(xI l.ptr l.len l.cap),(xI j.ptr j.len j.cap)] (.many []) i λ_ A=>
 (bx.ok [(x.add (d.toNat*1),(xI g.ptr g.len g.cap))] A)/\
 Y (qc xN (d+(1:Int))) A)
 (Y (qc xN (d+(1:Int))) i))
 (K i)) (0:Int) h:=by
 have ab:a.len=n4 m:=by rw[(H.own 0 n5).len,V]
 refine aj (λk:Nat=>(k:Int)) (λk h'=>k<=n4 m/\aa B F h' (kO a rs (bO c aW m k))) (λk=>n4 m-k) 0 n5 ⟨n7,by rw[nX];exact H⟩ ?_;rintro k Z ⟨ad,o⟩;have O:=kK c aW m k;have w:n4 rs=n4 (bO c aW m k):=by rw[O];exact V
 refine ae (λe=>?_) (λe=>?_)
 .have s:k<n4 m:=n7
  refine bt (λW=>?_) (λW=>?_)
  .have u:k≠c:=λhh=>W (by rw[hh]);have Q:aA (bO c aW m k) k=aA m k:=by rw[jd s,nq n7]
   have P:aA (bO c aW m k) c=aA m c:=by rw[jd ht,nq n7]
   have e4:(bO c aW m k)[k]'n7=aA m k:=by rw[<-Q,bf]
   have e5:(bO c aW m k)[c]'n7=aA m c:=by rw[<-P,bf]
   have t:=lq (a:=a) w k n7;have X:=lq (a:=a) w c n7;rw[e4]at t;rw[e5]at X;have lk:=bX hm s;have lt:=bX hm ht;have q:=o.off (k+1) 0 n7 t n5;have r:=q.1.seq (λ_=>rfl) q.2;refine r.dN k n5 n7 λa1 T R=>?_;have N:=o.seq (k+1) t λ_=>rfl;refine N.aV aW n5 n7 _ n5 ?_;refine r.dN c n5 n7 λ_ _ _=>?_;refine r.dN k n5 n7 λ_ _ _=>?_;have J:(wd (rs[c]'n7) 1 aq (aA m c)).p Z (λb=>¬(rs[k]'n7).on b):=by have:=o.off (k+1) (c+1) n7 t X;exact(this.1.seq (λ_=>rfl) this.2).mono λb hb=>hb.2
   refine(XF f _ _ _ (aA m c) (aA m k) Z (M.ac o.ac E) (o.base (k+1) t E) J (o.own (k+1) t) n7 n7).I3 λh2 ⟨S,D⟩=>?_;have U:=o.nS (k+1) t D S;have L:=D.cell R.2 T;refine⟨(),n5,⟨L,I6⟩,?_⟩;refine⟨k+1,o0,⟨n7,?_⟩,n7⟩;rw[kr s u];show aa B F h2 (ai 41 a 1 bv rs::bo 5 1 aq rs ((bO c aW m k).set k _));rw[<-LH w k n7];have I:(aA m k)[aW]'n7=aM (aA m k) aW:=(lS).symm;rw[I]at U;exact U
  .have u:k=c:=n7
   subst u;exact⟨k+1,o0,⟨n7,by rw[uE];exact o⟩,n7⟩
 .have:k=n4 m:=n7
  subst this;exact hk _ o
theorem Dj{rs:List Sl}{m:aO}(a:n4 rs=n4 m)(i j:Nat)(b:i<n4 m)(c:j<n4 m):
  ((bo 5 1 aq rs m).set i (ai 5 (rs[j]'n7) 1 aq m[j])).set j (ai 5 (rs[i]'n7) 1 aq m[i])=bo 5 1 aq ((rs.set i (rs[j]'n7)).set j (rs[i]'n7)) (fH m i j):=by
 rw[jw a,jw B5,fH,bf b,bf c]
theorem xV{B:au}{s:m5}{f:hU}(S:ia s f)(T:B f.block){a:Sl}{n cX:Nat}{rs:List Sl}{m:aO}(hl:n4 rs=n4 m)(hm:aU n m)(hc:cX<=n)(hn:n<=64)(hs:n4 m<=2^30)
  {h:m5} (H:aa B s h (kO a rs m)):ak xR 297 #[xJ (dB f),a,xH xN cX] h λv h'=>
   ∃O:List Sl,v=xH xN (ba m cX).1/\O.length=n4 m/\aa B s h' (kO a O (ba m cX).2):=by
 have ad:a.len=n4 m:=by rw[(H.own 0 n5).len,hl]
 refine ts Tryz.func297 ?_ (HF (HF (G0 (HF (G7 (G9 [(7,aI),(12,aI)] [(7,11),(12,82)] (HF (HF (G0 (G7 (HF (HF (HF (I1 [] [(21,35)] (I1 [] [(35,53)] (I0 [(55,aI)] [(10,11),(55,79)]))))))) G6)))))) G6))) [(8,(.l [0,1,2,3,4,5,6,7,8,9,10,12,13,14,15,11,16,17,18]))];refine aj (λt:List Sl×Nat=>(((ba m t.2).1:Int),(t.2:Int))) (λt h'=>t.2<=cX/\t.1.length=n4 m/\aa B s h' (kO a t.1 (ba m t.2).2)) (λt=>cX-t.2) (rs,0) n5 ⟨oo,hl,H⟩ ?_;rintro⟨c,aW⟩ h1 ⟨hk,N,I⟩;dsimp only at*;have y:=fM hm aW;have D:=oB m aW;obtain⟨st,u⟩:=I5 (ba m aW)
 rw[<-u]at y D I⊢;obtain⟨b,k⟩:=st;dsimp only at y D I⊢;have w:n4 c=n4 k:=n7
 have d:ba m (aW+1)=fI (b,k) aW:=by rw[ba,<-u]
 refine ae (λe=>?_) (λe=>?_)
 .have R:aW<n:=n7
  have P:dT h1 a 1 aq k:=I.Je w λ_=>rfl;refine(Oy a k n b aW h1 P y.1 R n7).mono ?_;rintro v h2 ⟨rfl,rfl⟩;refine⟨_,n5,?_⟩
  try dsimp only
  cases hb:fp k b aW with
  |none=>
   refine ae (λ_=>?_) λe2=>absurd n8 e2;refine⟨(c,aW+1),?_,⟨n9,N,?_⟩,n9⟩
   ·(try dsimp only);rw[d,fI,hb,af _];rfl
   ·(try dsimp only);rw[d,fI,hb];exact I
  |some i=>
   have hh:=kI hb;refine ae (λe2=>absurd (show((i:Nat):Int)<0 from e2) n7) (λ_=>?_)
   try dsimp only
   have K:b<n4 k:=n7
   have Z:=hh.2.1;have L:=I.seq 0 n5 λ_=>rfl;refine aE ?_;refine L.dN i n5 n7 λ_ _ _=>?_;refine L.dN b n5 n7 λ_ _ _=>?_;refine I.set ag 0 n5 (λ_=>rfl) n5 b n5 n7 (c[i]'n7) n5 n5 n5 λh3 H3=>⟨I6,?_⟩
   refine H3.set ag 0 n5 (λ_=>rfl) n5 i n5 oi (c[b]'n7) n5 n5 n5 λW H4=>⟨I6,?_⟩
   have o:aa B s W (kO a ((c.set b (c[i]'n7)).set i (c[b]'n7)) (fH k b i)):=by have:=H4.Rj (b+1) (i+1) (A:=ai 5 (c[b]'n7) 1 aq k[b]) (A2:=ai 5 (c[i]'n7) 1 aq k[i]) (eC w b K) (eC w i Z);show aa B s W (ai 41 a 1 bv _::bo 5 1 aq _ _);rw[<-Dj w b i K Z];exact this
   obtain⟨j,E⟩:=I5 ((c.set b (c[i]'n7)).set i (c[b]'n7))
   rw[<-E]at o;have al:n4 j=n4 k:=by rw[E];simp;omega
   obtain⟨m2,x⟩:=I5 (fH k b i)
   have F:aU n m2:=by rw[x];exact nW y.1 K Z
   have Q:n4 m2=n4 k:=by rw[x];exact iR _ _ _
   rw[<-x]at o;have q:n4 j=n4 m2:=n7
   have g:b<n4 m2:=n7
   refine aE ?_;have gt:=lq (a:=a) q b g;have lt:m2[b].length=n:=F _ (qe _);have U:=o.seq 0 n5 λ_=>rfl;refine U.dN b n5 n7 λah G _=>?_;have z:=o.seq (b+1) gt λ_=>rfl;refine z.aV aW n5 n7 _ n5 ?_;refine U.dN b n5 n7 λam M _=>?_;have V:ia W f:=S.ac o.ac T;refine(XB f _ W V).mono ?_;rintro v h5 ⟨rfl,rfl⟩;refine⟨_,n5,⟨M,G,I6⟩,?_⟩;refine(RY f _ _ _ h5 V z n7).I4 λr h6 R6=>⟨r,n5,⟨dY G R6.ac,I6⟩,?_⟩;have H6:=o.comp R6
   try dsimp only
   refine H6.set ag 0 n5 (λ_=>rfl) n5 b n5 n7 r n5 n5 n5 λh7 H7=>⟨I6,?_⟩
   have ab:m2[b]=aA m2 b:=(bf g).symm;have X:(m2[b])[aW]'n7=aM (aA m2 b) aW:=by rw[lS (by rw[bf g];omega)];simp only[bf g]
   have Y:aa B s h7 (kO a (j.set b r) (fS b aW m2)):=by have h8:aa B s h7 ((ai 41 a 1 bv (j.set b r)::bo 5 1 aq j m2)++[ai 5 r 1 aq (scaleB (Gf.inv ((m2[b])[aW]'n7)) m2[b])]):=H7;have h9:=h8.LG (b+1) (by simp[gw q];omega);rw[X,ab]at h9;show aa B s h7 (ai 41 a 1 bv _::bo 5 1 aq _ (m2.set b _));rw[<-jw q];exact h9
   have J:n4 (fS b aW m2)=n4 m2:=kJ _ _ _;refine UU S T oi (my F g) R hn n7 n7 Y λh8 H8=>?_;have p:fI (b,k) aW=(b+1,bO b aW (fS b aW m2) k.length):=by rw[fI];(try dsimp only);rw[hb,x]
   refine⟨(j.set b r,aW+1),?_,⟨n9,oi,?_⟩,n9⟩
   ·(try dsimp only);rw[d,p,af _,af _];rfl
   ·(try dsimp only);rw[d,p];rw[J,Q]at H8;exact H8
 .have:aW=cX:=n7
  subst this;exact⟨c,by rw[<-u],N,by rw[<-u];exact I⟩
theorem Oz(f:hU)(a:Sl)(m:aO)(n:Nat)(h:m5)(y:ia h f)(z:dT h a 1 aq m)(i:aU n m)(k:n<=64)(o:n4 m<=2^30):
  ak xR 334 #[xJ (dB f),a] h λv h'=>∃(r:Sl) (rs:List Sl),v=r/\r.len=cv m/\rs.length=n4 m/\r.len<=n4 m/\Sp h h' (kO ⟨r.ptr,n4 m,r.cap⟩ rs (ba m (ee m)).2):=by
 refine ts Tryz.func334 ?_;refine(mI a m n h z i k o).mono ?_;rintro v D ⟨rfl,rfl⟩;refine⟨_,n5,aH (λe=>o1) λ_=>?_⟩;refine(ug a m n D z i k o).mono ?_;rintro v B ⟨r,rs,rfl,u,w⟩;refine⟨r,n5,(sg f B).mono ?_⟩;rintro v h3 ⟨rfl,rfl⟩;refine⟨dB f,n5,(pH r m h3 (w.Je u λ_=>rfl)).mono ?_⟩;rintro v E ⟨rfl,rfl⟩;have A:ee m<=n:=by
  cases m with
  |nil=>simp[ee,aA]
  |cons x t=>rw[ee,bf oo];exact Nat.le_of_eq (i _ oo)
 refine⟨_,n5,(xV y y.lt u i A k o w).I4 λj F ⟨g,q⟩=>?_⟩;have d:=oB m (ee m);rw[(fM i _).2]at d;have s:=(q.own 0 n5).cap;have b:=(q.own 0 n5).len;refine⟨_,n5,⟨ze _,wA.2 (show(ba m (ee m)).1<=r.cap by omega)⟩,⟨r.ptr,(ba m (ee m)).1,r.cap⟩,j,oo,n5,g,d,?_⟩;have:r=⟨r.ptr,n4 m,r.cap⟩:=by obtain⟨p,l,c⟩:=r;simp only at b⊢;rw[<-g,<-b]
 rw[<-this];exact q
theorem UV(f:hU)(a:Sl)(m:aO)(n:Nat)(h:m5)(g:ia h f)(i:dT h a 1 aq m)(j:aU n m)(b:n<=64)(c:n4 m<=2^30):
  ak xR 280 #[xJ (dB f),a] h λv h'=>v=xH xN (cv m)/\Sp h h' []:=by
 refine ts Tryz.func280 ?_;refine(Oz f a m n h g i j b c).mono ?_;rintro v k ⟨r,rs,rfl,d,_,_,e⟩;exact⟨r,n5,E1,.zip e.ac⟩
theorem FP(p:Pm)(seed:Int)(b:Sl)(l:aC)(h:m5)(o:Rd h b 1 ar l)(q:n4 l<=2^29):ak xR 222 #[go p,xH xP seed,b] h λv h'=>v=xH xN (AY p seed l)/\Sp h h' []:=by
 refine ts Tryz.func222 ?_ G6 [(1,(.l [1,2,3,0,4,5,6]))] (args:=[p,(xH xP (seed:Int)),b]);refine(Sp.refl h).boxed λa u i=>?_;refine⟨p,(i.box 0 n5).aw _ n5,(sI u).mono ?_⟩;rintro v m ⟨f,rfl,t⟩;have c:=i.comp t;have g:=c.box 0 n5;refine⟨dB f,n5,⟨g.cell0 n5,g.cell n5,g.cell n5,I6⟩,?_⟩;refine(EN p seed b l m (Seq.up o c.ac) n7).mono ?_;rintro v h3 ⟨r,rfl,k⟩;have e:=c.comp k;refine⟨r,n5,I6,?_⟩;have j:=Fy p seed l;have d:(bD p).toNat<=64:=by
  unfold bD;split
  .rename_i w;have:=(bI p).1 w;omega
  .omega
 refine(UV f r _ _ h3 (e.box 1 n5) (e.ov 2 n5) (nZ p seed l) d n7).I3 λx s=>⟨_,n5,I6,n5,.zip (e.comp s).ac⟩
theorem JD(p:Pm)(seed:Int)(b:Sl)(l:aC)(h:m5)(o:Rd h b 1 ar l)(f:n4 l<=2^29):ak xR 163 #[go p,xH xP seed,b] h λv h'=>v=xL (fy p seed l)/\Sp h h' []:=by refine ts Tryz.func163 ?_ G6 [(1,(.l [0,1,2,3,4,5,7,6,8,9,10,11]))] (args:=[p,(xH xP (seed:Int)),b]);refine(Sp.refl h).boxed λa s g=>?_;refine⟨p,(g.box 0 n5).aw _ n5,(eV p s).mono ?_⟩;rintro v m ⟨rfl,r⟩;have d:=g.comp r;refine⟨_,n5,I6,aT (λe=>?_) λe=>⟨I6,I6,E8,.zip d.ac⟩⟩;have j:=d.box 0 n5;refine⟨p,j.aw _ n5,p,j.aw _ n5,(FP p seed b l m (Seq.up o d.ac) f).mono ?_⟩;rintro v h3 ⟨rfl,k⟩;have i:=d.comp k;have c:=i.box 0 n5;refine⟨_,n5,⟨c.cell0 n5,c.cell n5,c.cell n5,I6⟩,(lR p h3).I3 λt q=>?_⟩;exact⟨_,n5,I6,E8,.zip (i.comp q).ac⟩
theorem GW(p:Pm)(seed:Int)(h:m5):ak xR 245 #[go p,xH xP seed] h λv h'=>v=xL (fy p seed (fh p))/\Sp h h' []:=by refine ts Tryz.func245 ?_ (args:=[p,(xH xP (seed:Int))]);refine(Sp.refl h).boxed λa g d=>?_;have e:=d.box 0 n5;refine⟨p,e.aw _ n5,p,e.aw _ n5,(GV p g).mono ?_⟩;rintro v j ⟨r,rfl,f⟩;have c:=d.comp f;have b:=c.box 0 n5;refine⟨r,n5,⟨b.cell0 n5,b.cell n5,b.cell n5,I6⟩,(JD p seed r _ j (c.seq 1 n5 λ_=>rfl) B7).I3 λh3 i=>?_⟩;exact⟨_,n5,I6,n5,.zip (c.comp i).ac⟩
theorem XG(p:Pm)(o b:Int)(h:m5):ak xR 175 #[go p,xH xN o,xH xN b] h λv h'=>
  v=.tuple #[xH xN (((lK p o b).getD 0:Nat):Int),xL (lK p o b).isSome]/\Sp h h' []:=by
 refine ts Tryz.func175 ?_ (HF (I0 [(9,aI)] [(6,20)])) (args:=[p,(o:Int),(b:Int)]);refine(Sp.refl h).boxed λw F B=>?_;refine aj (λi:Nat=>(i:Int)) (λi h'=>i<=16/\(∀k,k<i->uQ p o b k=eY)/\Sp h h' [an w 24 [xH xN p.1,xH xN p.2.1,xH xN p.2.2]]) (λi=>16-i) 0 n5 ⟨n7,λk f=>absurd f (Nat.not_lt_zero k),B⟩ ?_;rintro i x ⟨E,c,l⟩;refine ae (λe=>?_) λe=>?_
 .have y:i<16:=n7
  have a:=l.box 0 n5;refine⟨p,a.aw _ n5,(sG _ _ _ x).mono ?_⟩;rintro _ h3 ⟨rfl,rfl⟩;refine⟨_,n5,⟨a.cell0 n5,a.cell n5,a.cell n5,I6⟩,(GW p _ h3).I3 λD z=>?_⟩;have t:=l.up z.ac;refine⟨_,n5,I6,aT (λg=>?_) λg=>?_⟩
  .have s:lK p o b=dB i:=by
    unfold lK;refine List.find?_eq_some_iff_append.2 ⟨g,qy i,(qy (15-i)).map (·+(i+1)),?_,λk f=>?_⟩
    .apply zp;intro j;by_cases u:j<i
     .rw[qu (by simpa using u),zq n7,zq u]
     .rw[qk oi,zL];by_cases r:j=i
      .subst r;rw[zd,zq n7];rfl
      .obtain⟨d,A⟩:∃d,j=i+(d+1):=⟨j-i-1,n7⟩
       subst A;rw[wE,qU,qM];by_cases q:d<15-i
       .rw[zq q,zq n7];simp;omega
       .rw[zf oi,zf oi];rfl
    .rw[c k (qY.1 f)];rfl
   rw[s];exact⟨n5,.zip t.ac⟩
  .refine⟨i+1,o0,⟨n7,λk f=>?_,t⟩,n7⟩;by_cases m:k<i
   .exact c k m
   .have:k=i:=n7
    subst this;exact g
 .have s:lK p o b=eH:=by unfold lK;rw[yh];intro k f;rw[c k (by have:=qY.1 f;omega)];simp
  rw[s];exact⟨n5,.zip l.ac⟩
theorem RZ(p:Pm)(o:Int)(n:Nat)(h:m5)(E:n<=2^30):ak xR 95 #[go p,xH xN o,xH xN n] h λv h'=>
  (cR p o n=eH->v=.tuple #[xI eH 0 0,xL eY]/\Sp h h' [])/\
  (∀l,cR p o n=dB l->∃r:Sl,v=.tuple #[r,xL eX]/\Sp h h' [ai 3 r 1 ar l]):=by
 refine ts Tryz.func95 ?_ (HF (HF (I0 [(8,bK),(13,aI)] [(6,12),(13,30)]))) (args:=[p,(o:Int),(n:Int)]);refine(Sp.refl h).boxed λx J m=>?_;have m:=(m.nil 3 1 ar).bu [1,0];refine aj (λt:Sl×Nat×aC=>(t.1,(t.2.1:Int))) (λt h'=>t.2.1<=n/\cR p o t.2.1=dB t.2.2/\Sp h h' [ai 3 t.1 1 ar t.2.2,an x 24 [xH xN p.1,xH xN p.2.1,xH xN p.2.2]]) (λt=>n-t.2.1) (⟨eH,0,0⟩,0,[]) n5 ⟨oo,n5,m⟩ ?_;rintro⟨s,i,l⟩ y ⟨F,c,d⟩;dsimp only at*;have D:=kz c;have b:∀j,lK p o i=eH->j<=n-(i+1)->cR p o (i+1+j)=eH:=λj f=>by
  induction j with
  |zero=>intro _;show cR p o (i+1)=eH;unfold cR;rw[c,f];rfl
  |succ j ih=>intro H;show cR p o ((i+1+j)+1)=eH;unfold cR;rw[ih n7];rfl
 refine ae (λe=>?_) λe=>?_
 .have B:i<n:=n7
  refine⟨p,(d.box 1 n5).aw _ n5,(XG p o i y).I3 λh3 w=>?_⟩;have u:=d.up w.ac;refine⟨(_,_),n5,aH (λg=>?_) λg=>?_⟩
  .have a:cR p o n=eH:=by have:=b (n-(i+1)) (Option.isSome_eq_false_iff.1 g|>Option.isNone_iff_eq_none.1) (qj _);rw[show i+1+(n-(i+1))=n by omega]at this;exact this
   rw[a];exact⟨λ_=>⟨n5,.zip u.ac⟩,λl h=>t7⟩
  .obtain⟨t,q⟩:∃t,lK p o i=dB t:=yP.1 g;rw[q];refine u.push ag 0 n5 fu n5 n8 (λ_=>rfl) db (t:Int) n5 n8 n7 λA I z=>?_;refine⟨(A,i+1,l++[(t:Int)]),oj,⟨n9,?_,z⟩,n9⟩;show cR p o (i+1)=_;unfold cR;rw[c,q];rfl
 .have k:i=n:=n7
  subst k;rw[c];exact⟨λh=>t7,λG h=>(by injection h with h;subst h;exact⟨s,n5,d.bu [0]⟩)⟩
def kA(m:aB)(l:dP):dP:=(gK m l).map gc
def gp(m:aB)(l:dP):dP:=bG m++kA m l
def jG(d:bp)(a:Nat)(n:Int):Bool:=decide (max n 0<=(d.room:Int)-a)
def rc(m:aB)(d:bp)(n:Int):Bool:=!d.lost&&(jG d d.l.length n||jG d (gp m d.l).length n)
def eJ(m:aB)(w:Pow)(d:bp)(n:Int):Int×Pow×bp:=
 if d.lost then(5,w,d)else if !rc m d n then(7,w,d)else if jG d d.l.length n then(0,w,d)else d.rewrite w (gp m d.l)
theorem XH(l:List ck):n4 (mZ l)<=n4 l:=by unfold mZ;rw[qm];exact qV (qH _ _) oo
theorem iV(m:aB)(l:dP):n4 (gK m l)<=n4 l:=by unfold gK;refine qV (XH _) ?_;rw[wP];exact List.length_filterMap_le _ _
theorem Bn(m:aB)(l:dP):n4 (kA m l)<=n4 l:=by unfold kA;rw[qm];exact iV m l
variable {B:au} {h0 h:m5} {As:List HP} {a:hU} {d:bp} {w:Pow}
section
variable {pw:hU}
theorem Mz(x:Sl)(l:dP)(H:aa B h0 h (jo pw a d::eF 107 pw w::As))(P:St B h0 As λh=>dT h x 1 aq l)(O:n4 l<=2^20)(y:∀c∈l,n4 c<=2^20):
  ak xR 209 #[xJ (dB a),x] h λv h'=>v=xH xN (d.rewrite w l).1/\aa B h0 h' (jo pw a (d.rewrite w l).2.2::eF 107 pw (d.rewrite w l).2.1::As):=by
 refine ts Tryz.func209 ?_ (HF (G0 (HF (G7 (G9 [(9,aI)] [(4,5),(6,7),(9,17)] G6))) (G0 (Hf [] [(4,5),(17,41)] (G7 (I1 [(17,oe)] [(17,26)] G6))) G6)));have N:=P.at [_,_] H;have W:=N.len;have m:=eZ.rewrite (w:=w) (l:=l) (And.left (id H).jV);have j:∀(e:Int),d.rewrite w l=(e,w,d)->(Value.int .i64 e=xH xN (d.rewrite w l).1/\aa B h0 h (jo pw a (d.rewrite w l).2.2::eF 107 pw (d.rewrite w l).2.1::As)):=λe V=>by
  rw[V];exact⟨n5,H⟩
 refine aj (λi:Nat=>(i:Int)) (λi h'=>i<=n4 l/\(∀c∈l.take i,n4 c=64)/\h'=h) (λi=>n4 l-i) 0 n5 ⟨n7,oo,n5⟩ ?_;rintro i h1 ⟨hi,f,rfl⟩;refine ae (λe=>?_) λe=>?_
 .have o:i<n4 l:=n7
  refine N.get i n5 o λr T=>?_;have X:=T.len;refine bt (λU=>j 1 ?_) λU=>?_
  .unfold bp.rewrite;rw[m6];rw[w7,z6];exact⟨l[i],qe o,oi⟩
  .refine⟨i+1,o0,⟨n7,λc k=>?_,n5⟩,n7⟩;rw[az _ _ o]at k;rcases qx.1 k with k|k
   .exact f c k
   .rw[qB.1 k];omega
 have f:∀c∈l,n4 c=64:=by rw[qf n7]at f;exact f
 have q:(!l.all λb=>decide (n4 b=64))=eY:=by rw[Bool.not_eq_false',qP];exactλc k=>n1 (f c k)
 have A:d.rewrite w l=(if d.lost then(5,w,d)else if d.room<n4 l then(7,w,d)else if w.off then(14,w,d)else if w.step.1 then(0,w.step.2,{d with l:=l,wait:=0,laid:=[],has:=eY})else(14,w.step.2,{d with laid:=l,has:=eX})):=by unfold bp.rewrite;rw[q];rfl
 obtain⟨ok,s,b,J⟩:=H.jV;have D:=J.box 0 n5;refine aE (aE (aT (λe=>o1) λ_=>⟨a,n5,d.lost,D.cell n5,aT (λe=>j 5 (by rw[A,m6 e])) λg=>?_⟩));refine⟨a,n5,(d.room:Int),D.cell n5,ae (λe=>j 7 (by rw[A,nq C0,m6 n7])) λM=>?_⟩;obtain⟨R,Y,G⟩:=(J.aG 4 [3,0,1,2]).jE;refine⟨a,n5,dB pw,D.cell0 n5,(sW R (G.box 0 n5)).I2 ?_⟩;refine⟨_,n5,aH (λe=>j 14 ?_) λt=>?_⟩
 .rw[A,nq C0,nq n7,m6 p7]
 have p:w.off=eY:=by simpa using t
 have z:d.rewrite w l=(if w.step.1 then(0,w.step.2,{d with l:=l,wait:=0,laid:=[],has:=eY})else(14,w.step.2,{d with laid:=l,has:=eX})):=by rw[A,nq C0,nq n7,nq F8]
 refine⟨a,n5,dB pw,D.cell0 n5,(CW (J.aG 4 [3,0,1,2])).I3 λQ E=>?_⟩;have u:=P.at [_,_,_,_] E;refine⟨_,n5,aH (λe=>?_) λe=>?_⟩
 .rw[z,nq C8]at m⊢;refine(FK x l Q u O y).I4 λr h6 F=>?_;have I:=(E.bQ F).aG 5 [2,3,0,1];refine⟨r,n5,a,n5,I.store ag 0 n5 n5 4 [r] n5 n5 n5 t8 λZ K=>?_⟩;refine⟨a,n5,K.store ag 0 n5 n5 5 [xL eX] n5 n5 n5 t8 λh8 L=>⟨n5,?_⟩⟩;exact aa.iC (s:=s) (b:=r) m L
 .rw[z,m6 e]at m⊢;refine(FK x l Q u O y).I4 λr h6 F=>?_;have I:=(E.bQ F).aG 5 [2,0,4,1];refine⟨r,n5,a,n5,I.store ag 0 n5 n5 2 [r] n5 n5 n5 t8 λZ K=>?_⟩;refine⟨a,n5,K.store ag 0 n5 n5 3 [xH xN 0] n5 n5 n5 t8 λh8 L=>?_⟩;refine(CX (d:={d with l:=l,wait:=0}) r b _ L ⟨qX _,n9,ok.room,f,ok.laid,ok.cellL⟩ n5).I3 λh9 S=>⟨0,n5,n5,S⟩
theorem xW(s b:Sl)(c:Nat)(n:Int)(e:bV h a 172 (fj pw d s b))(g:d.room<=512)(f:c<=2^40:=by omega):ak xR 207 #[xJ (dB a),xH xN c,xH xN n] h λv h'=>v=xL (jG d c n)/\h'=h:=by refine ts Tryz.func207 ?_;refine(Jx s b e).I2 ⟨_,n5,?_,n5⟩;rw[af ((d.room:Int)-c)];unfold jG;congr 1;rw[decide_eq_decide];split<;>omega
theorem Sa(s b:Sl)(x:bi)(m:aB)(F:bV h a 172 (fj pw d s b))(I:dT h s 1 aq d.l)(ok:eZ d)(G:ct h x m)(T:bM m):
  ak xR 276 #[xJ (dB a),cL x] h λv h'=>∃r:Sl,v=r/\Sp h h' [ce r (kA m d.l)]:=by
 refine ts Tryz.func276 ?_ (HF (HF (I0 [(5,bK),(12,aI)] [(5,6),(7,8),(12,22)]))) (args:=[(dB a),x]);have D:=ok.len;have w:=ok.room;refine(Sp.refl h).boxed λU Q c=>?_;refine⟨x,(c.box 0 n5).aw _ n5,(ue a pw d s b x m Q (F.ac c.ac F.lt) (I.up c.ac) ok (G.up c.ac) T).mono ?_⟩;rintro _ V ⟨r,f,rfl,K⟩;have k:=(c.bQ K).jm 41 5 1 aq;refine⟨r,n5,?_⟩;have y:=iV m d.l;obtain⟨L,B⟩:=I5 (gK m d.l)
 have z:(kA m d.l)=L.map gc:=by unfold kA;rw[B]
 rw[<-B]at k y;rw[z];have E:=k.dg 1 n5;have S:=E.2.1;have A:=E.1.len;refine aj (λt:Sl×Nat=>(t.1,(t.2:Int))) (λt h'=>t.2<=n4 L/\Sp h h' [ce t.1 ((L.map gc).take t.2),ci cx 8 bB r f L]) (λt=>n4 L-t.2) (⟨eH,0,0⟩,0) n5 ⟨oo,k.bu [0,1]⟩ ?_;rintro⟨o,i⟩ h3 ⟨X,j⟩;dsimp only at*;have P:=j.dg 1 n5;refine ae (λe=>?_) (λe=>?_)
 .have q:i<n4 L:=n7
  refine P.1.cG (g:=bB) i n5 n7 (f[i]'n7) n5 ?_;refine j.alloc ag n5 λY W J=>?_;refine J.storeAll ag 2 n5 n5 (bB (f[i]'n7)) n5 n5 n5 n5 λO p=>?_;refine⟨f[i]'n7,(p.box 2 n5).aw _ n5,(wO _ L[i] O (Fix.row (p.dg 1 n5) q)).I4 λu Z H=>?_⟩;have M:=(p.bQ H).aG 3 [1,0,2];refine⟨u,n5,M.mh ag cI oi λN h8 R=>?_⟩;refine⟨(N,i+1),oj,⟨n9,?_⟩,n9⟩
  try dsimp only
  rw[az _ _ (show i<n4 (L.map gc) by simp;omega),zk];exact R.bu [0,1]
 .rw[qf oi]at j;exact⟨o,n5,j.bu [0]⟩
end
theorem kP(a b:ck):dJ a b=eX↔a.object=b.object/\a.block=b.block/\a.id=b.id:=by unfold dJ;rw[decide_eq_true_eq]
theorem le_iff(a b:ck):lP a b=eX↔a.object<b.object∨(a.object=b.object/\(a.block<b.block∨(a.block=b.block/\a.id<=b.id))):=by unfold lP;rw[decide_eq_true_eq]
theorem XI{a b:ck}(h:dJ a b=eX):dJ a=dJ b:=by obtain⟨c,d,h3⟩:=(kP a b).1 h;funext x;unfold dJ;rw[c,d,h3]
theorem CRq(a:ck):dJ a a=eX:=(kP a a).2 ⟨n5,n5,n5⟩
theorem UW(a b:ck):dJ a b=dJ b a:=by rw[Bool.eq_iff_iff,kP,kP];exact⟨λ⟨x,y,z⟩=>⟨x.symm,y.symm,z.symm⟩,λ⟨x,y,z⟩=>⟨x.symm,y.symm,z.symm⟩⟩
theorem MB(L:List ck)(a:ck):mZ (L++[a])=mZ L++if L=[]∨dJ a (L.getD (n4 L-1) nz)=eY then[a]else[]:=by
 have c:∀k<n4 L,(L++[a]).getD k nz=L.getD k nz:=λk b=>by
  rw[qg,qg,qu b]
 have b:∀k<n4 L,oy (L++[a]) k=oy L k:=λk b=>by
  unfold oy;rw[c k b];cases k with
  |zero=>rfl
  |succ k=>rw[show k+1-1=k by omega,c k n7]
 have d:(L++[a]).getD L.length nz=a:=by rw[qg,qk (qj _)];simp
 unfold mZ;rw[qo,List.length_singleton,zC,zg,qF];have f:(qy L.length).filter (oy (L++[a]))=(qy L.length).filter (oy L):=List.filter_congr λk h=>b k (qY.1 h);rw[f];congr 1
 .exact List.map_congr_left λk h=>c k (qY.1 (qK.1 h).1)
 .have e:oy (L++[a]) L.length=decide (L=[]∨dJ a (L.getD (n4 L-1) nz)=eY):=by
   unfold oy;rw[d];cases L with
   |nil=>simp
   |cons x L=>
    rw[c _ oo];simp
  rw[zx,e];by_cases h:L=[]∨dJ a (L.getD (n4 L-1) nz)=eY
  .rw[m6 h,n1 h,m6 n5,wL,List.map_singleton,d]
  .rw[nq h,n2 h,nq n8,wL,y5]
theorem MC{P:List ck->Prop}(c:P [])(b:∀L a,P L->P (L++[a]))(L:List ck):P L:=by
 have h:P L.reverse.reverse:=by
  induction L.reverse with
  |nil=>exact c
  |cons a l ih=>rw[List.reverse_cons];exact b _ _ ih
 rwa [List.reverse_reverse]at h
theorem JE{L:List ck}{a:ck}(l:L.Pairwise λa b=>lP a b=eX)(f:∀y∈L,lP y a=eX)(c:L=[]∨dJ a (L.getD (n4 L-1) nz)=eY):∀y∈L,dJ a y=eY:=λy d=>by
 rw[vU];intro j;rcases c with c|c
 .rw[c]at d;cases d
 .obtain⟨i,k,rfl⟩:=vm.1 d;have e:n4 L-1<n4 L:=n7
  rw[qg,qd e,vt]at c;have g:lP L[i] L[n4 L-1]=eX:=by
   rcases Nat.lt_or_ge i (n4 L-1)with h|h
   .exact zb.1 l _ _ k e h
   .have:i=n4 L-1:=n7
    rw[le_iff];subst this;omega
  have m:=f _ (qe e);rw[le_iff]at g m;rw[kP]at j;have:dJ a L[n4 L-1]=eX:=(kP _ _).2 n7;rw[this]at c;cases c
theorem Qg{x:ck}:∀(L:List ck),L.Pairwise (λa b=>lP a b=eX)->(x∈mZ L↔L.find? (dJ x)=dB x):=by
 refine MC (λ_=>by simp[mZ]) λL a l m=>?_;obtain⟨g,_,j⟩:=zA.1 m;have c:=JE (a:=a) g λy k=>j y k a oo;rw[MB,qx,l g,vV];cases hf:L.find? (dJ x)with
 |some z=>
  rw[Option.some_or];refine⟨λh=>?_,.inl⟩;rcases h with h|h
  .exact h
  .split at h
   .rename_i i;have h:x=a:=sR
    subst h;have:=c i z (zO hf);rw[vC hf]at this;cases this
   .cases h
 |none=>
  rw[Option.none_or];have e:=yh.1 hf;refine⟨λh=>?_,λh=>?_⟩
  .rcases h with h|h
   .cases h
   .split at h
    .have h:x=a:=sR
     subst h;rw[List.find?_cons,CRq]
    .cases h
  .have d:=zO h;have d:x=a:=by simpa using d
   subst d;refine .inr ?_;rw[m6]
   .simp
   .cases L with
    |nil=>exact .inl n5
    |cons y L=>
     refine .inr ?_;have f:n4 (y::L)-1<n4 (y::L):=oo
     rw[qg,qd f,vt];simpa using e _ (qe f)
theorem aca:∀(L:List ck),L.Pairwise (λa b=>lP a b=eX)->(mZ L).Pairwise nV:=by
 refine MC (λ_=>by simp[mZ]) λL a g k=>?_;obtain⟨e,_,i⟩:=zA.1 k;have d:∀y∈L,lP y a=eX:=λy f=>i y f a oo;rw[MB];split
 .rename_i h;refine zA.2 ⟨g e,oo,λy f b j=>?_⟩;rw[qB.1 j];have c:=zO ((Qg L e).1 f);exact⟨d y c,by rw[UW];exact JE e d h y c⟩
 .rw[qL];exact g e
theorem OA(x:ck)(l:List ck):(l.mergeSort lP).filter (dJ x)=l.filter (dJ x):=by
 have f:(l.filter (dJ x)).Pairwise λa b=>lP a b=eX:=by rw[zb];intro i j m h g;have e:=(qK.1 (qe m)).2;have d:=(qK.1 (qe h)).2;rw[kP]at e d;rw[le_iff];omega
 have k:List.Sublist (l.filter (dJ x)) (l.mergeSort lP):=List.sublist_mergeSort (le:=lP) (λa b c e d=>Ik.1 a b c e d) (λa b=>Ik.2 a b) f List.filter_sublist;have d:=k.filter (dJ x);rw[List.filter_filter]at d;simp only[vd]at d;refine(d.eq_of_length ?_).symm;exact((wc l lP).filter _).length_eq.symm
theorem JF{α:Type}(p:α->Bool)(l:List α):l.find? p=(l.filter p).head?:=List.head?_filter.symm
theorem MD{x:ck}{l:List ck}:x∈mZ (l.mergeSort lP)↔l.find? (dJ x)=dB x:=by rw[Qg _ (wC (le:=lP) (λa b c d e=>Ik.1 a b c d e) (λa b=>Ik.2 a b) l),JF,JF,OA]
theorem lt_iff(a b:ck):nV a b↔a.object<b.object∨(a.object=b.object/\(a.block<b.block∨(a.block=b.block/\a.id<b.id))):=by unfold nV;rw[le_iff,vU,ne_eq,kP];omega
theorem EO:∀{l m:List ck},l.Pairwise nV->m.Pairwise nV->(∀x,x∈l↔x∈m)->l=m
 |[],[],_,_,_=>rfl
 |[],b::m,_,_,h=>by have:=(h b).2 qR;cases this
 |a::l,[],_,_,h=>by have:=(h a).1 qR;cases this
 |a::l,b::m,hl,hm,h=>by
  obtain⟨l1,l2⟩:=zt.1 hl;obtain⟨g,m2⟩:=zt.1 hm;have f:a=b:=by
   rcases qN.1 ((h a).1 qR)with e|e
   .exact e
   .rcases qN.1 ((h b).2 qR)with e'|e'
    .exact e'.symm
    .have j:=(lt_iff _ _).1 (g a e);have k:=(lt_iff _ _).1 (l1 b e');omega
  subst f;rw[EO l2 m2 λx=>?_];have d:∀y,nV y y->False:=λy i=>by have:=(lt_iff _ _).1 i;omega
  refine⟨λc=>?_,λc=>?_⟩
  .rcases qN.1 ((h x).1 (qp _ c))with e|e
   .exact(d a (e▸l1 x c)).elim
   .exact e
  .rcases qN.1 ((h x).2 (qp _ c))with e|e
   .exact(d a (e▸g x c)).elim
   .exact e
structure lL (goods out:List ck):Prop where
 lt:out.Pairwise nV
 mem:∀x,x∈out↔goods.find? (dJ x)=dB x
theorem lL.nil:lL [] []:=⟨.nil,λx=>oo⟩
theorem lL.done{d out:List ck}(h:lL d out):out=mZ (d.mergeSort lP):=
 EO h.lt (aca _ (wC (le:=lP) (λa b c e f=>Ik.1 a b c e f) (λa b=>Ik.2 a b) d)) λx=>by rw[h.mem,MD]
theorem UX{a:List ck}{r z:ck}(h:a.find? (dJ r)=dB z):a.find? (dJ z)=dB z:=by rw[<-XI (vC h)];exact h
theorem lL.acb{a out:List ck}(h:lL a out){r:ck}:a.find? (dJ r)=eH↔∀z∈out,dJ r z=eY:=by
 refine⟨λb z c=>?_,λb=>?_⟩
 .have:=yh.1 b z (zO ((h.mem z).1 c));simpa using this
 .cases hf:a.find? (dJ r)with
  |none=>rfl
  |some z=>
   have:=b z ((h.mem z).2 (UX hf));rw[vC hf]at this;cases this
theorem lL.step{c out:List ck}(h:lL c out){r:ck}{k:Nat}(D:k<=n4 out)(q:∀x∈out.drop k,nV r x)(t:∀(f:0<k),¬nV r (out[k-1]'n7)):
  ((k=0∨∃f:0<k,nV (out[k-1]'n7) r)->lL (c++[r]) (out.take k++r::out.drop k))/\((∃f:0<k,¬nV (out[k-1]'n7) r)->lL (c++[r]) out):=by
 have e:∀x,(c++[r]).find? (dJ x)=dB x↔c.find? (dJ x)=dB x∨(c.find? (dJ x)=eH/\x=r):=λx=>by
  rw[vV];cases hf:c.find? (dJ x)with
  |some z=>simp
  |none=>
   rw[Option.none_or];refine⟨λh=>.inr ⟨n5,by simpa using zO h⟩,λh=>?_⟩;rcases h with h|⟨_,rfl⟩
   .cases h
   .rw[List.find?_cons,CRq]
 have g:=h.lt;refine⟨λj=>?_,λ⟨f,j⟩=>?_⟩
 .have m:∀x∈out.take k,nV x r:=λx d=>by
   obtain⟨i,v,rfl⟩:=vm.1 d;rw[qw]at v;rcases j with j|⟨f,j⟩
   .omega
   .rw[List.getElem_take];rcases Nat.lt_or_ge i (k-1)with hik|hik
    .have:=zb.1 g i (k-1) n7 n7 hik;rw[lt_iff]at this j⊢;omega
    .have:i=k-1:=n7
     subst this;exact j
  have n:∀z∈out,dJ r z=eY:=λz l=>by
   rw[<-qz k out]at l;rw[vU,ne_eq,kP];rcases qx.1 l with l|l
   .have:=(lt_iff _ _).1 (m z l);omega
   .have:=(lt_iff _ _).1 (q z l);omega
  refine⟨?_,λx=>?_⟩
  .rw[<-qz k out]at g;obtain⟨B,w,y⟩:=zA.1 g;refine zA.2 ⟨B,zt.2 ⟨q,w⟩,λa s b p=>?_⟩;rcases qN.1 p with rfl|p
   .exact m a s
   .exact y a s b p
  .rw[e,<-h.mem];have o:x∈out↔x∈out.take k∨x∈out.drop k:=by rw[<-qx,qz]
   rw[qx,qN,o];refine⟨λd=>?_,λd=>?_⟩
   .rcases d with d|rfl|d
    .exact .inl (.inl d)
    .exact .inr ⟨h.acb.2 n,n5⟩
    .exact .inl (.inr d)
   .rcases d with(d|d)|⟨_,d⟩
    .exact .inl d
    .exact .inr (.inr d)
    .exact .inr (.inl d)
 .refine⟨g,λx=>?_⟩;rw[e,<-h.mem];refine⟨.inl,λd=>d.elim id λ⟨hn,d⟩=>?_⟩;subst d;have u:=h.acb.1 hn _ (qe (show k-1<n4 out by omega));have A:=t f;rw[lt_iff]at A j;rw[vU,ne_eq,kP]at u;omega
section
variable {pw:hU}
theorem OB{m:aB}{l:dP}{c:aR}(h:c∈kA m l):n4 c<=64:=by
 unfold kA at h;obtain⟨r,_,rfl⟩:=qI.1 h;unfold gc;split
 .rename_i a;refine Nat.le_of_eq (ni n8 n8 ?_);have:=rx a;omega
 .simp
theorem JG(s b:Sl)(x:bi)(m:aB)(o:bV h a 172 (fj pw d s b))(z:dT h s 1 aq d.l)(ok:eZ d)(j:ct h x m)(i:bM m):
  ak xR 208 #[xJ (dB a),cL x] h λv h'=>∃r:Sl,v=r/\Sp h h' [ce r (gp m d.l)]:=by
 refine ts Tryz.func208 ?_ G6 [(1,(.l [0,2,3,1,4,5,6]))] (args:=[(dB a),x]);have k:=ok.len;have g:=ok.room;refine(Sp.refl h).boxed λE B f=>?_;refine⟨x,(f.box 0 n5).aw _ n5,x,(f.box 0 n5).aw _ n5,(mT x m B (j.up f.ac) i).I4 λr F A=>?_⟩;have e:=f.bQ A;have c:=e.box 1 n5;refine⟨r,n5,⟨c.cell0 n5,c.cell n5,c.cell n5,c.cell n5,c.cell n5,c.cell n5,c.cell n5,c.cell n5,I6⟩,(Sa s b x m (o.ac e.ac o.lt) (z.up e.ac) ok (j.up e.ac) i).I4 λu h3 p=>?_⟩;have D:=(e.bQ p).aG 2 [1,0];have w:=jA m i;have t:=Bn m d.l;refine⟨u,n5,I6,D.PS ag cI ⟨_,_,n5,n5⟩ n7 λq G y=>?_⟩;exact⟨I6,q,n5,y.bu [0]⟩
theorem JH(s b:Sl)(x:bi)(m:aB)(n:Int)(u:bV h a 172 (fj pw d s b))(z:dT h s 1 aq d.l)(g:s.len=n4 d.l)(ok:eZ d)(w:ct h x m)(t:bM m):
  ak xR 139 #[xJ (dB a),cL x,xH xN n] h λv h'=>v=xL (rc m d n)/\Sp h h' []:=by
 refine ts Tryz.func139 ?_ (HF (I1 [] [(6,13)] G6)) (args:=[(dB a),x,(n:Int)]);have p:=ok.len;have k:=ok.room;refine(Sp.refl h).boxed λB E f=>?_;have c:=u.ac f.ac u.lt;refine aE (aT (λe=>o1) λ_=>(uO s b c).mono ?_);rintro _ _ ⟨rfl,rfl⟩;refine⟨_,n5,aT (λe=>⟨C2,.zip f.ac⟩) λe=>?_⟩;have q:rc m d n=(jG d d.l.length n||jG d (gp m d.l).length n):=C2
 refine(CY s b c g).I2 ⟨_,n5,(xW s b d.l.length n c ok.room).I2 ?_⟩;refine⟨_,n5,aT (λi=>⟨by rw[q,i];rfl,.zip f.ac⟩) λi=>?_⟩;refine⟨x,(f.box 0 n5).aw _ n5,(JG s b x m c (z.up f.ac) ok (w.up f.ac) t).I4 λr D j=>?_⟩;have o:=(aa.lE j).1;have A:n4 (gp m d.l)<=4000:=by have:=jA m t;have:=Bn m d.l;unfold gp;rw[qo];omega
 have y:=f.bQ j;refine⟨r,n5,(xW s b r.len n (c.ac j.ac c.lt) ok.room).I2 ?_⟩;exact⟨_,n5,by rw[q,i,yn,o],.zip y.ac⟩
theorem ME(x:bi)(n:Int)(h:m5):ak xR 139 #[xJ eH,cL x,xH xN n] h λv h'=>v=xL eY/\Sp h h' []:=by refine ts Tryz.func139 ?_ (HF (I1 [] [(6,13)] G6)) (args:=[(eH:bJ),x,(n:Int)]);refine(Sp.refl h).boxed λc b a=>?_;exact aE (aT (λ_=>⟨n5,.zip a.ac⟩) λe=>o1)
theorem UY(x:bi)(m:aB)(n:Int)(K:St B h0 As λh=>ct h x m)(I:bM m)(H:aa B h0 h (jo pw a d::eF 107 pw w::As)):
  ak xR 140 #[xJ (dB a),cL x,xH xN n] h λv h'=>v=xH xN (eJ m w d n).1/\aa B h0 h' (jo pw a (eJ m w d n).2.2::eF 107 pw (eJ m w d n).2.1::As):=by
 refine ts Tryz.func140 ?_ (HF (G0 (Hf [] [(6,26)] (G7 (I1 [(7,oe)] [(7,14)] G6))) G6)) (args:=[(dB a),x,(n:Int)]);refine(Sp.refl h).boxed λS F P=>?_;have p:=(H.bQ P).aG 3 [1,2,0];have f:∀(e:Int) {h':m5},aQ (λb=>b<F.size) F h'->eJ m w d n=(e,w,d)->(Value.int .i64 e=xH xN (eJ m w d n).1/\aa B h0 h' (jo pw a (eJ m w d n).2.2::eF 107 pw (eJ m w d n).2.1::As)):=λe {h'} R Q=>by
  rw[Q];exact⟨n5,((p.up R).aG 3 [0,1])⟩
 obtain⟨ok,s,b,g⟩:=(id p).jV;have t:=g.box 0 n5;have M:dT F s 1 aq d.l:=(g.aG 2 [1]).uC λ_=>rfl;have k:=(aa.lE (g.aG 2 [1])).1;have J:=ok.len;have A:=ok.room;refine aE (aE (aT (λe=>o1) λ_=>(uO s b t).mono ?_));rintro _ _ ⟨rfl,rfl⟩;refine⟨_,n5,aT (λe=>f 5 (aQ.refl _ _) (by unfold eJ;rw[m6 e])) λe=>?_⟩;refine⟨x,(p.box 2 n5).aw _ n5,(JH s b x m n t M k ok (K.at [_,_,_] p) I).I3 λT o=>?_⟩;have E:=g.up o.ac;have j:=t.ac o.ac t.lt;have y:=p.up o.ac;refine⟨_,n5,aH (λq=>f 7 o.ac (by unfold eJ;rw[nq C8,m6 (by simp[q])])) λq=>?_⟩;refine(CY s b j k).I2 ⟨_,n5,(xW s b d.l.length n j ok.room).I2 ?_⟩;refine⟨_,n5,aT (λu=>f 0 o.ac (by unfold eJ;rw[nq C8,nq (by simp[q]),m6 u])) λu=>?_⟩;have em:eJ m w d n=d.rewrite w (gp m d.l):=by unfold eJ;rw[nq C8,nq (by simp[q]),nq (by simp[u])]
 rw[em];have O:n4 (gp m d.l)<=4000:=by have:=jA m I;have:=Bn m d.l;unfold gp;rw[qo];omega
 have z:∀c∈gp m d.l,n4 c<=64:=λc i=>by
  unfold gp at i;rcases qx.1 i with i|i
  .exact Nat.le_of_eq (su i)
  .exact OB i
 refine⟨x,(y.box 2 n5).aw _ n5,(JG s b x m j ((E.aG 2 [1]).uC λ_=>rfl) ok (K.at [_,_,_] y) I).I4 λr h3 L=>?_⟩;obtain⟨rs,G⟩:=(y.bQ L).Mr λ_=>rfl;have G:=G.aG 4 [1,2,0];refine⟨r,n5,(Mz r (gp m d.l) G (St.dU 0 n5 λh' D=>?_) n7 λc i=>qV (z c i) n8).mono ?_⟩
 .exact⟨rs,D.1,D.2.1,D.2.2⟩
 rintro _ U ⟨rfl,N⟩;exact⟨_,n5,n5,N.aG 3 [0,1]⟩
end
variable {b:hU} {x:bi} {offs:Int} {da:List bJ} {ds:aF}
section
variable {pw:hU}
theorem aa.XJ(n:Nat)(j:n<64)(i:ds[n]?=dB eH)(H:aa B h0 h (aJ bN a pw (aD x) offs da w ds::jo pw b d::As)){K:Unit->m5->Prop}
  (e:∀h',aa B h0 h' (aJ bN a pw (aD x) offs (da.set n (dB b)) w (ds.set n (dB d))::As)->K () h'):
  av xR (qD 64 (xJ (dB ((a.add 10).add n))) (xJ (dB b))) h K:=by
 obtain⟨ok,g⟩:=Qw.aa.jQ H;have f:(a.add 10).add n=a.add (10+n):=by unfold Addr.add;simp[Nat.add_assoc]
 rw[f];refine g.storeAt ag 0 n5 n5 n5 n5 n5 (by simp[ok.la];omega) λh' c=>e h' ?_;rw[zu,JB ok.l8]at c;exact aa.Qf ok j i c
end
theorem Ay(a:aF)(n:Nat)(d:bp)(s:Int)(c:n<64)(b:n4 a=64):bR (iD a (n:Int) d) s=if s=(n:Int)then dB d else bR a s:=by
 unfold bR iD
 grind
theorem kB{a:aF}{s:Int}{d:bp}(h:bR a s=dB d):∃n:Nat,s=(n:Int)/\n<64:=by
 unfold bR at h
 grind
structure Fit (ds:aF) (S Q:aC):Prop where
 len:n4 ds=64
 at_:∀s∈S,∃d,bR ds s=dB d/\d.lost=eY/\d.l.length+Q.count s<=d.room
theorem OC{d:bp}{n:Nat}(w:Pow)(b:aR)(a:d.lost=eY)(e:n4 d.l+(n+1)<=d.room)(c:n4 b=64):
  ((d.append w b).1=0∨(d.append w b).1=14)/\(d.append w b).2.2.lost=eY/\(d.append w b).2.2.l.length+n<=(d.append w b).2.2.room:=by
 unfold bp.append
 grind
theorem UZ{d:bp}(w:Pow)(a:d.lost=eY):((d.sync w).1=0∨(d.sync w).1=14)/\(d.sync w).2.2.lost=eY/\(d.sync w).2.2.l=d.l/\(d.sync w).2.2.room=d.room:=by
 unfold bp.sync
 grind
theorem BQ{a:aF}{S Q:aC}{x:Int}(w:Pow)(b:aR)(F:Fit a S (x::Q))(f:x∈S)(m:n4 b=64):
  ((dV w a x b).1=0∨(dV w a x b).1=14)/\Fit (dV w a x b).2.2 S Q:=by
 obtain⟨d,c,l,h⟩:=F.at_ x f;rw[List.count_cons_self]at h;obtain⟨n,rfl,i⟩:=kB c;have A:=OC w b l (n:=Q.count (n:Int)) n7 m;have e:dV w a (n) b=((d.append w b).1,(d.append w b).2.1,iD a (n) (d.append w b).2.2):=by unfold dV;rw[c]
 rw[e];refine⟨A.1,by unfold iD;rw[qO];exact F.len,λs j=>?_⟩;rw[Ay _ _ _ _ i F.len];by_cases k:s=(n)
 .grind
 .obtain⟨o,g,p,q⟩:=F.at_ s j
  grind
theorem Dk{S:aC}:∀(P:List (Int×aR)) (w:Pow) (ds:aF),Fit ds S (P.map qA)->(∀x∈P,x.1∈S/\x.2.length=64)->
  ((fQ P w ds).1=0∨(fQ P w ds).1=14)/\((fQ P w ds).1=0->Fit (fQ P w ds).2.2 S [])
 |[],w,ds,F,_=>⟨.inl n5,λ_=>F⟩
 |x::P,w,ds,F,hP=>by
  rw[kV];obtain⟨A,b⟩:=BQ w x.2 (x:=x.1) (Q:=P.map qA) F (hP x (qR ..)).1 (hP x (qR ..)).2;by_cases h0:(dV w ds x.1 x.2).1=0
  .rw[m6 h0];exact Dk P _ _ b λy a=>hP y (qp _ a)
  grind
theorem EP{a:aF}{S:aC}{x:Int}(w:Pow)(F:Fit a S [])(f:x∈S):((fw w a x).1=0∨(fw w a x).1=14)/\Fit (fw w a x).2.2 S []:=by
 obtain⟨d,c,i,k⟩:=F.at_ x f;obtain⟨n,rfl,g⟩:=kB c;obtain⟨j,A2,l,m⟩:=UZ w i;have e:fw w a (n)=((d.sync w).1,(d.sync w).2.1,iD a (n) (d.sync w).2.2):=by unfold fw;rw[c]
 rw[e];refine⟨j,by unfold iD;rw[qO];exact F.len,λs h=>?_⟩;rw[Ay _ _ _ _ g F.len];by_cases b:s=(n)
 .grind
 .rw[nq b];exact F.at_ s h
theorem GX{S:aC}:∀(l:aC) (w:Pow) (ds:aF),Fit ds S []->(∀x∈l,x∈S)->((iO l w ds).1=0∨(iO l w ds).1=14)
 |[],_,_,_,_=>.inl n5
 |x::l,w,ds,F,hl=>by
  rw[mO];obtain⟨A,b⟩:=EP w F (hl x (qR ..));by_cases h0:(fw w ds x).1=0
  .rw[m6 h0];exact GX l _ _ b λy a=>hl y (qp _ a)
  grind
theorem OD{S:aC}(P:List (Int×aR))(w:Pow)(a:aF)(F:Fit a S (P.map qA))(b:∀x∈P,x.1∈S/\x.2.length=64):(layAll P w a).1=0∨(layAll P w a).1=14:=by
 obtain⟨A,d⟩:=Dk P w a F b;unfold layAll;by_cases h0:(fQ P w a).1=0
 .rw[m6 h0];refine GX _ _ _ (d h0) λx c=>?_;unfold gq at c
  grind
 grind
theorem sh(m:aB)(s:Int):∀S:aC,((bj m S).map qA).count s=S.count s*n4 (bG m)
 |[]=>by simp[bj]
 |n::S=>by
  have e:bj m (n::S)=(bG m).map (λc=>(n,c))++bj m S:=rfl;rw[e,qF,List.count_append,sh m s S,];have a:(bG m).map (qA∘λc=>(n,c))=qh (bG m).length n:=by rw[List.eq_replicate_iff];simp
  grind
theorem pI(l:aC)(k:Nat):(bh l k).Nodup:=by refine List.Pairwise.filter _ (vh.2 ?_);exact(List.nodup_range (n:=k)).imp λh=>n7
theorem OE(p:Pm)(a:Int)(w:Pow)(l:aC)(f:n4 l<=64)(g:((bh l l.length).any λi=>decide (l.getD i.toNat 0<(n4 (bG (co p a l)):Int)))=eY):
  (layAll (bj (co p a l) (bh l l.length)) w (fG l (bh l l.length).length)).1=0∨(layAll (bj (co p a l) (bh l l.length)) w (fG l (bh l l.length).length)).1=14:=by
 refine OD (S:=bh l l.length) _ _ _ ⟨xT _ _,λs d=>?_⟩ λx e=>lY e;obtain⟨n,h,rfl,c⟩:=(oM l l.length s).1 d;have b:(n4 (bG (co p a l)))<=l.getD n 0:=o4
 refine⟨bp.new (l.getD n 0).toNat,?_,n5,?_⟩
 .unfold bR fG;rw[m6 n7,qi,qM,zq n7,zn,qt,m6 d];rfl
 .rw[sh];have:=List.nodup_iff_count.1 (pI l l.length) (n);have j:List.count (n:Int) (bh l l.length)*n4 (bG (co p a l))<=1*n4 (bG (co p a l)):=zi _ this;simp only[bp.new,wK];omega
theorem GY{l:aC}(h:(dI l).2=eX):(dI l).1=bh l l.length/\l.length<=64/\∀n:Nat,l.getD n 0<=512:=by
 unfold dI at h⊢;by_cases a:l.all (dM · 0 512)=eX
 .rw[m6 a]at h⊢;refine⟨n5,by simp at h;exact h.1,λn=>?_⟩;rw[qg];by_cases b:n<n4 l
  .rw[qd b];have:=qP.1 a _ (qe b);unfold dM at this;simp at this⊢;omega
  .rw[zf n7];simp
 .rw[nq a]at h;cases h
theorem Dl(l:aC)(i n:Nat)(f:i<n4 (bh l l.length))(g:(bh l l.length)[i]=(n:Int))(c:n<64:=by omega):(fG l i)[n]?=dB eH:=by unfold fG;rw[qM,zq c,zn,nq];intro e;obtain⟨j,h,d⟩:=zV.1 e;have:=Cv (pI l l.length) (a:=j) (b:=i) n7 f (by rw[d,g]);omega
theorem xX(m:aB):∀S:aC,n4 (bj m S)=n4 S*n4 (bG m)
 |[]=>by simp[bj]
 |n::S=>by
  have e:bj m (n::S)=(bG m).map (λc=>(n,c))++bj m S:=by unfold bj;rw[zm]
  rw[e,qo,qm,xX m S,q7,zU,Nat.add_comm]
theorem sJ(p:Pm)(a:Int)(l:aC)(b:n4 l<=64):bM (co p a l):=⟨by have:=lp l l.length;simp[co];omega,by simp[co],by simp[co]⟩
section
variable {pw:hU}
theorem EQ(p:Pm)(c:Int)(s:Sl)(l:aC)(hS:St B h0 As λh=>Rd h s 1 ar l)(hl:n4 l<=2^20)(H:aa B h0 h (eF 107 pw w::As)):
  ak xR 40 #[go p,xH xN c,xJ (dB pw),s] h λv h'=>
   ((cV p c w l).1≠0->v=.tuple #[xJ eH,xH xN (cV p c w l).1]/\aa B h0 h' As)/\
   ((cV p c w l).1=0->∃(a:hU) (x:bi) (da:List bJ),v=.tuple #[xJ (dB a),xH xN 0]/\aa B h0 h' (aJ bN a pw (aD x) w.offs da (cV p c w l).2.1 (cV p c w l).2.2::bn x (co p c l)::As)):=by
 refine ts Tryz.func40 ?_ (HF (HF (I1 [] [(8,10),(23,42)] (I1 [(12,YZ)] [(12,13),(42,51)] (G0 (HF (G7 (G9 [(53,aI)] [(8,10),(14,15),(53,69)] G6))) (I0 [(71,aI)] [(16,17),(71,87)])))))) [(14,(.l [0,1,2,3,4,5,6,8,9,7,10,11]))] (args:=[p,(c:Int),(dB pw),s]);refine H.boxed λa1 h1 H1=>?_;have H1:=H1.bc;refine(Oq s l h1 (hS.at [_,_] H1) hl).I4 λr h2 R2=>?_;have H2:=H1.bQ R2;refine⟨(r,(dI l).2),n5,?_⟩;have z:∀{h':m5},aa B h0 h' As->((dI l).2&&(bH p&&dM c 0 16))=eY->
   ((cV p c w l).1≠0->Value.tuple #[xJ eH,xH xN 1]=.tuple #[xJ eH,xH xN (cV p c w l).1]/\aa B h0 h' As)/\
   ((cV p c w l).1=0->∃(a:hU) (x:bi) (da:List bJ),Value.tuple #[xJ eH,xH xN 1]=.tuple #[xJ (dB a),xH xN 0]/\aa B h0 h' (aJ bN a pw (aD x) w.offs da (cV p c w l).2.1 (cV p c w l).2.2::bn x (co p c l)::As)):=λ{h'} H' hc=>by
  have e:cV p c w l=(1,w,[]):=by unfold cV;rw[hc];rfl
  rw[e];exact⟨λ_=>⟨n5,H'⟩,λh=>absurd h (show¬(1:Int)=0 by decide)⟩
 refine aE (aH (λe=>z H2.rest.rest.rest A3) λe=>?_);have ep:(dI l).2=eX:=p7
 obtain⟨a2,E,J⟩:=GY ep;refine⟨p,(H2.box 1 n5).aw _ n5,(eV p h2).I3 λh3 R3=>?_⟩;have D:aa B h0 h3 (ai 3 r 1 ar (dI l).1::an a1 24 [xH xN p.1,xH xN p.2.1,xH xN p.2.2]::eF 107 pw w::As):=by have:=H2.comp R3;rw[qL]at this;exact this
 refine⟨_,n5,aH (λe2=>z D.rest.rest.rest E7) λe2=>?_⟩;have em:bH p=eX:=xx
 refine ae (λe3=>z D.rest.rest.rest qb) λe3=>ae (λe4=>z D.rest.rest.rest qb) λe4=>aT (λe5=>by cases e5) λ_=>?_;rw[a2]at D;refine aE ⟨p,(D.box 1 n5).aw _ n5,?_⟩;obtain⟨lw,b1,ao⟩:=(D.aG 3 [2,1,0]).jE;refine(CV lw (ao.box 0 n5)).I2 ?_;have G:=D.box 1 n5;refine⟨_,n5,⟨G.cell0 n5,G.cell n5,G.cell n5,I6⟩,?_⟩;obtain⟨m,N⟩:=I5 (co p c l)
 refine⟨_,UO (1,0,p.1,p.2.1,p.2.2,c,r,⟨eH,0,0⟩) pw w.offs,?_⟩;refine D.boxed λa9 h6 g=>?_;obtain⟨x,hx⟩:∃x:bi,x=(1,0,p.1,p.2.1,p.2.2,c,r,⟨eH,0,0⟩):=⟨_,rfl⟩
 rw[<-hx]at g;have I:(Value.agg (cZ (aD x) pw w.offs (qh 64 eH)).toArray).cells.toList=cZ (aD x) pw w.offs (qh 64 eH):=pb
 rw[I]at g;have g:=g.bc;have L:=g.box 2 n5;refine⟨⟨L.cell0 n5,L.cell n5,L.cell n5,I6⟩,?_⟩;have g:=g.aG 4 [0,3,1];have g:=aa.JA (k:=bN) (h8:=by simp) g;obtain⟨P,o⟩:=I5 (bh l l.length)
 rw[<-o]at g;have hz:bM m:=N▸sJ p c l E;have a5:n4 P<=64:=by rw[o];exact qV (lp _ _) E
 have al:∀{h':m5} {Bs:List HP} {X:HP},aa B h0 h' (X::ai 3 r 1 ar P::Bs)->ct h' x m:=λ{h' Bs X} H'=>by
  have hs:=H'.seq 1 n5 λ_=>rfl;have hc:=(H'.own 1 n5).cap;subst hx;subst N;exact⟨n5,n5,n5,n5,by show Seq _ _ r 1 ar (bh l l.length);rw[<-o];exact hs,bZ.nil _ _ _ _,hc,qj _⟩
 have W:((dI l).2&&(bH p&&dM c 0 16))=eX:=by rw[ep,em];unfold dM;simp;omega
 have U:(P.any λi=>decide (l.getD i.toNat 0<(n4 (bG m):Int)))=eX->cV p c w l=(7,w,[]):=λhh=>by
  unfold cV;rw[m6 W,<-o,<-N,m6 hh]
 have ah:(P.any λi=>decide (l.getD i.toNat 0<(n4 (bG m):Int)))=eY->cV p c w l=layAll (bj m P) w (fG l P.length):=λhh=>by
  unfold cV;rw[m6 W,<-o,<-N,hh,nq n8]
 have M:∀i (O:i<n4 P),∃n:Nat,n<n4 l/\P[i]=(n:Int)/\0<l.getD n 0:=by subst o;exactλi O=>xU l l.length i O
 refine aj (λi:Nat=>(i:Int)) (λi h'=>i<=n4 P/\((P.take i).any λi=>decide (l.getD i.toNat 0<(n4 (bG m):Int)))=eY/\aa B h0 h' (aJ bN a9 pw (aD x) w.offs (qh 64 eH) w (qh 64 eH)::ai 3 r 1 ar P::As)) (λi=>n4 P-i) 0 n5 ⟨n7,oo,g⟩ ?_;rintro i h7 ⟨O,j,F⟩;dsimp only at*;obtain⟨b0,ap⟩:=aa.cw F;have bd:r.len=n4 P:=(F.own 1 n5).len;refine ae (λe5=>?_) (λe5=>?_)
 .have d:i<n4 P:=n7
  obtain⟨n,Q,A,am⟩:=M i d;refine(F.seq 1 n5 λ_=>rfl).aV i n5 d (n:Int) (by rw[A];rfl) ?_;refine(hS.at [_,_] F).nA n n5 Q (l.getD n 0) (by rw[getD_lt Q];rfl) λb2 ad=>?_;refine⟨a9,n5,x,ap.aw _ qa,(mT x m h7 (al F) hz).I4 λu h9 R9=>?_⟩;have H9:=F.bQ R9;have br:=(aa.lE H9).1;refine⟨u,n5,gF R9.ac ⟨ad,I6⟩,?_⟩;refine ae (λe6=>?_) (λe6=>?_)
  .rw[U (zQ.2 ⟨P[i],qe d,by rw[A,qi];exact n1 n7⟩)];exact⟨λ_=>⟨n5,H9.rest.rest.rest⟩,λh=>absurd h (show¬(7:Int)=0 by decide)⟩
  .refine⟨i+1,o0,⟨n7,?_,H9.rest⟩,n7⟩;rw[az _ _ d,yb,j,yn,vA,vT,Bool.or_false,A,qi];exact n2 n7
 .have K:i=n4 P:=n7
  subst K;rw[qt]at j;have ax:=ah j;rw[<-Dc l]at F;refine aj (λt:Nat×List bJ=>(t.1:Int)) (λt h'=>t.1<=n4 P/\aa B h0 h' (aJ bN a9 pw (aD x) w.offs t.2 w (fG l t.1)::ai 3 r 1 ar P::As)) (λt=>n4 P-t.1) (0,qh 64 eH) n5 ⟨oo,F⟩ ?_;rintro⟨i,da⟩ ab ⟨O,f⟩;dsimp only at*;obtain⟨b4,T⟩:=aa.cw f;refine ae (λe6=>?_) (λe6=>?_)
  .have d:i<n4 P:=n7
   obtain⟨n,Q,A,am⟩:=M i d;have bb:=J n;refine(f.seq 1 n5 λ_=>rfl).aV i n5 d (n:Int) (by rw[A];rfl) ?_;refine(hS.at [_,_] f).aV n n5 Q (l.getD n 0) (by rw[getD_lt Q];rfl) ?_;refine⟨a9,n5,(RR (l.getD n 0) pw ab).mono ?_⟩;rintro _ b3 ⟨Q1,_⟩;obtain⟨b,rfl,a0⟩:=Q1 n7;have ay:=(f.bQ a0).aG 2 [1,0];refine⟨_,n5,I6,⟨n7,n7⟩,?_⟩;rw[qi,zG];have V:i<n4 (bh l l.length):=by rw[<-o];exact d
   have Z:(bh l l.length)[i]=(n:Int):=by rw[<-A];simp only[o]
   refine Qw.aa.XJ n n7 (Dl l i n V Z) ay λbq a3=>?_;refine⟨I6,(i+1,da.set n (dB b)),oj,⟨n9,?_⟩,n9⟩
   try dsimp only
   rw[<-Dd l i n V Z];exact a3
  .have K:i=n4 P:=n7
   subst K;refine⟨a9,n5,x,T.aw _ qa,(EL x m r P ab (al f) hz (f.seq 1 n5 λ_=>rfl) n7).mono ?_⟩;rintro _ bk ⟨u,ys,rfl,a7⟩;have a4:=(f.bQ a7).aG 2 [1,0];refine⟨u,n5,?_⟩;have Y:=jA m hz;refine(Da u ys (bj m P) (St.dU 0 n5 λ_ S=>S) ?_ ?_ a4).mono ?_
   .rw[xX];have:=zr a5 Y;omega
   .intro y hy;obtain⟨a6,a8⟩:=lY hy;obtain⟨i,O,e⟩:=qE a6;obtain⟨n,Q,A,_⟩:=M i O;rw[<-e,A,a8];exact⟨⟨n7,n7⟩,n8⟩
   rintro _ bl ⟨rfl,R⟩;rw[ax];refine⟨_,n5,bt (λe7=>⟨λ_=>⟨n5,R.rest.rest.rest⟩,λh=>absurd h e7⟩) λe7=>⟨λh=>absurd e7 h,λ_=>⟨a9,x,da,n5,?_⟩⟩⟩;rw[<-N];exact R.nB.dW 1 n5 λq S=>by
    subst hx;subst N;exact⟨n5,n5,n5,n5,by show Seq _ _ r 1 ar (bh l l.length);rw[<-o];exact S.1.seq (λ_=>rfl) S.2,bZ.nil _ _ _ _,S.1.cap,qj _⟩
end
def nt(m:aB)(a:aF)(k n:Int):Bool:=match bR a k with|some d=>rc m d n|none=>eY
def ik(m:aB)(a:aF)(l:aC)(N:Int->Int):Bool:=l.all λk=>nt m a k (N k)
def fC(m:aB)(w:Pow)(a:aF)(k n:Int):Int×Pow×aF:=
 match bR a k with
 |none=>(5,w,a)
 |some d=>((eJ m w d n).1,(eJ m w d n).2.1,iD a k (eJ m w d n).2.2)
def makes(m:aB)(N:Int->Int):aC->Pow->aF->Int×Pow×aF
 |[],w,ds=>(0,w,ds)
 |k::l,w,ds=>if(fC m w ds k (N k)).1=0 then makes m N l (fC m w ds k (N k)).2.1 (fC m w ds k (N k)).2.2 else fC m w ds k (N k)
theorem JI(f:FuncId)(pre post:Array Value)(P:Int->Bool)(s:Sl)(l:aC)(h:m5)(w:C.fns[f]?=dB eX)(m:Rd h s 1 ar l)(y:n4 l<=2^30)
  (p:∀k∈l,∀h',Sp h h' []->ak xR f (pre.toList++[Value.int .i64 k]++post.toList).toArray h' λv d=>v=xL (P k)/\Sp h' d []):
  ak xR 137 #[s,.func (.func f) pre post] h λv h'=>v=xL (l.any P)/\Sp h h' []:=by
 refine ts Tryz.func137 ?_ (args:=[s,(.func (.func f) pre post)]);refine(iJ s (f,pre,post) (R:=λv h'=>(∃i:Int,v=xH xN i/\decide (i>=0)=l.any P)/\Sp h h' []) ?_).mono ?_
 .skip
  have r:=m.len;refine aj (λi:Nat=>(i:Int)) (λi h'=>i<=n4 l/\(l.take i).any P=eY/\Sp h h' []) (λi=>n4 l-i) 0 n5 ⟨n7,oo,Sp.refl h⟩ ?_;rintro i o ⟨n,a,c⟩;refine ae (λg=>?_) (λg=>?_)
  .have b:i<n4 l:=by have q:(i:Int)<(s.len:Int):=g;omega
   refine(Seq.up m c.ac).aV i n5 b l[i] n5 (fv w ?_);refine(p l[i] (qe b) o c).I3 λx u=>?_;have j:=c.up u.ac;refine⟨_,n5,aT (λe=>⟨⟨i,n5,?_⟩,j⟩) λe=>?_⟩
   .rw[zQ.2 ⟨_,qe b,e⟩];exact n1 n7
   .refine⟨i+1,o0,⟨n7,?_,j⟩,n7⟩;rw[az _ _ b,yb,a,vA,vT,e];rfl
  .have q:¬(i:Int)<(s.len:Int):=g;rw[qf n7]at a;exact⟨⟨-1,n5,by rw[a];rfl⟩,c⟩
 .rintro _ o ⟨⟨i,rfl,n⟩,t⟩;exact⟨i,n5,by rw[n],t⟩
section
variable {pw:hU}
def KU(f:FuncId)(pre post:Array Value)(N:Int->Int)(l:aC)(h:m5):Prop:=∀k∈l,ak xR f (pre.toList++[Value.int .i64 k]++post.toList).toArray h λv h'=>v=xH xN (N k)/\Sp h h' []
theorem GZ(f:FuncId)(pre post:Array Value)(N:Int->Int)(x:bi)(m:aB)(s:Sl)(l:aC)(hf:C.fns[f]?=dB eX)(S:St B h0 As λh=>ct h x m/\KU f pre post N l h)(hz:bM m)(Y:Rd h s 1 ar l)(X:n4 l<=2^30)(E:∀k∈l,0<=k/\k<64)(H:aa B h0 h (aJ bN a pw (aD x) offs da w ds::As)):
  ak xR 68 #[xJ (dB a),s,.func (.func f) pre post] h λv h'=>v=xL (ik m ds l N)/\Sp h h' []:=by
 refine ts Tryz.func68 ?_ (args:=[(dB a),s,(.func (.func f) pre post)]);refine(Sp.refl h).boxed λp h1 R1=>R1.boxed λU L t=>?_;have V:=H.up t.ac;have g:bV L p 30 [xJ (dB a)]:=t.box 0 n5;have O:=t.box 1 n5;refine(JI 138 #[] #[xJ (dB p),xJ (dB U)] (λk=>!nt m ds k (N k)) s l L qa (Y.up t.ac) X ?_).mono ?_
 .intro k M h3 i;have K:=V.up i.ac;have P:=(g.ac i.ac g.lt).cell0 n5;have c2:=(O.ac i.ac O.lt).cell0 n5;obtain⟨ok,u⟩:=aa.cw K;have Q:=E k M;refine ts Tryz.func138 ?_ (args:=[(k:Int),p,U]);obtain⟨n,rfl⟩:∃n:Nat,k=n:=⟨k.toNat,n7⟩
  have A:n<n4 da:=C1
  have cd:hY h3 ((a.add 10).add ((n:Int).toNat*1))=dB (.pointer da[n]):=by rw[qi,zG];refine u.mi 10 n ?_;rw[mH ok.l8,qd A];rfl
  obtain⟨Z,z⟩:=S.at [_] K;refine⟨dB a,P,a,n5,⟨n7,n7⟩,da[n],cd,dB a,P,a,n5,x,u.aw _ n5,(f,pre,post),c2,fv hf ?_⟩;refine(z n M).I3 λD r=>?_;have R:=K.up r.ac;have q:=((g.ac i.ac g.lt).ac r.ac (g.ac i.ac g.lt).lt).cell0 n5;have c:=u.ac r.ac u.lt;have y:hY D ((a.add 10).add ((n:Int).toNat*1))=dB (.pointer da[n]):=by rw[qi,zG];refine c.mi 10 n ?_;rw[mH ok.l8,qd A];rfl
  refine⟨_,n5,⟨c.cell0 n5,c.cell n5,c.cell n5,c.cell n5,c.cell n5,c.cell n5,c.cell n5,c.cell n5,q,y,q,I6⟩,?_⟩;have I:de da (n:Int)=da[n]:=by unfold de;rw[m6 n7,qi,qd A];rfl
  rw[<-I];have fin:∀{F:Bool} {j:m5},F=nt m ds n (N n)->Sp D j []->bx.ok [(p,xJ (dB a)),(p,xJ (dB a))] j/\(Value.bool (!F)=xL (!nt m ds n (N n))/\Sp h3 j []):=λ{F j} he o=>by
   have T:=(g.ac i.ac g.lt).ac r.ac (g.ac i.ac g.lt).lt;have:=(T.ac o.ac T.lt).cell0 n5;exact⟨⟨this,this,I6⟩,by rw[he],.zip (aa.up r o.ac).ac⟩
  rcases gf ok (n:Int)with⟨e1,e2⟩|⟨n',d,b,e0,e1,e2,e3,e4,e5⟩
  .rw[e2];refine(ME x _ D).I3 λj o=>⟨_,n5,fin (by unfold nt;rw[e1]) o⟩
  .rw[e5];obtain⟨b',e,W⟩:=Qw.aa.fq R e2;rw[e4]at e;injection e with e
   injection e with e
   subst e;obtain⟨G,sd,bd,J⟩:=aa.jV W;refine(JH sd bd x m (N n) (J.box 0 n5) ((J.aG 2 [1]).uC λ_=>rfl) (aa.lE (J.aG 2 [1])).1 G (S.at [_] R).1 hz).I3 λj o=>⟨_,n5,fin (by unfold nt;rw[e3]) o⟩
 .rintro _ h3 ⟨rfl,i⟩;refine⟨_,n5,?_,.zip (aa.up t i.ac).ac⟩;unfold ik;rw[List.not_any_eq_all_not];simp
theorem MF(x:bi)(n:Int)(h:m5):ak xR 140 #[xJ eH,cL x,xH xN n] h λv h'=>v=xH xN 5/\Sp h h' []:=by refine ts Tryz.func140 ?_ (HF (G0 (Hf [] [(6,26)] (G7 (I1 [(7,oe)] [(7,14)] G6))) G6)) (args:=[(eH:bJ),x,(n:Int)]);refine(Sp.refl h).boxed λc b a=>?_;exact aE (aE (aT (λ_=>aT (λ_=>⟨n5,.zip a.ac⟩) λe=>o1) λe=>o1))
theorem Ha(m:aB)(N:Int->Int)(l:aC)(w:Pow)(a:aF)(i:Nat)(b:i<n4 l):makes m N (l.drop i) w a=if(fC m w a l[i] (N l[i])).1=0 then makes m N (l.drop (i+1)) (fC m w a l[i] (N l[i])).2.1 (fC m w a l[i] (N l[i])).2.2 else fC m w a l[i] (N l[i]):=by rw[qT b];rfl
theorem Hb(f:FuncId)(pre post:Array Value)(N:Int->Int)(x:bi)(m:aB)(s:Sl)(l:aC)(hf:C.fns[f]?=dB eX)(J:St B h0 As λh=>ct h x m/\KU f pre post N l h/\Rd h s 1 ar l)(hz:bM m)(hl:n4 l<=2^30)(K:∀k∈l,0<=k/\k<64)(H:aa B h0 h (aJ bN a pw (aD x) offs da w ds::As)):
  ak xR 69 #[xJ (dB a),s,.func (.func f) pre post] h λv h'=>v=xH xN (makes m N l w ds).1/\aa B h0 h' (aJ bN a pw (aD x) offs da (makes m N l w ds).2.1 (makes m N l w ds).2.2::As):=by
 refine ts Tryz.func69 ?_ (HF (G0 (HF (G7 (G9 [(12,aI)] [(6,7),(8,10),(12,34)] (HF (HF (G0 (G7 (HF (I1 [(9,aI)] [(9,10),(16,30)] G6))) G6)))))) G6)) (args:=[(dB a),s,(.func (.func f) pre post)]);have Y:=(J.at [_] H).2.2.len;obtain⟨Z,R⟩:=I5 (makes m N l w ds)
 rw[<-R];refine aj (λt:Nat×Pow×aF=>(t.1:Int)) (λt h'=>t.1<=n4 l/\Z=makes m N (l.drop t.1) t.2.1 t.2.2/\aa B h0 h' (aJ bN a pw (aD x) offs da t.2.1 t.2.2::As)) (λt=>n4 l-t.1) (0,w,ds) n5 ⟨oo,R,H⟩ ?_;rintro⟨i,E,y⟩ h1 ⟨hi,q,F⟩;dsimp only at*;refine ae (λe=>?_) λe=>?_
 .have p:i<n4 l:=n7
  rw[Ha _ _ _ _ _ _ p]at q;obtain⟨V,M,G⟩:=J.at [_] F;refine G.aV i n5 p l[i] n5 (aE ?_);have D:=K l[i] (qe p);obtain⟨k,I⟩:=I5 (l[i])
  have L:k∈l:=by rw[I];exact qe p
  rw[<-I]at q D;rw[<-I];obtain⟨n,rfl⟩:∃n:Nat,k=n:=⟨k.toNat,n7⟩
  obtain⟨ok,z⟩:=aa.cw F;have Q:n<n4 da:=C1
  have T:∀{h':m5},bV h' a 105 (cZ (aD x) pw offs da)->hY h' ((a.add 10).add ((n:Int).toNat*1))=dB (.pointer da[n]):=λ{h'} z=>by
   rw[qi,zG];refine z.mi 10 n ?_;rw[mH ok.l8,qd Q];rfl
  refine⟨a,n5,⟨n7,n7⟩,da[n],T z,a,n5,x,z.aw _ n5,fv hf ?_⟩;refine(M n L).I3 λW S=>?_;have P:=F.up S.ac;have g:=z.ac S.ac z.lt;refine⟨_,n5,⟨g.cell0 n5,g.cell n5,g.cell n5,g.cell n5,g.cell n5,g.cell n5,g.cell n5,g.cell n5,T g,I6⟩,?_⟩;have O:de da (n:Int)=da[n]:=by unfold de;rw[m6 n7,qi,qd Q];rfl
  rw[<-O];obtain⟨c,o⟩:=I5 (fC m E y n (N n))
  rw[<-o]at q;have fin:∀{h3:m5},aa B h0 h3 (aJ bN a pw (aD x) offs da c.2.1 c.2.2::As)->bx.ok [] h3/\Br (c.1 !=(0:Int)) (Value.int .i64 c.1=xH xN Z.1/\aa B h0 h3 (aJ bN a pw (aD x) offs da Z.2.1 Z.2.2::As))
    (∃r:Nat×Pow×aF,qc xN ((i:Int)+1)=(r.1:Int)/\(r.1<=n4 l/\Z=makes m N (l.drop r.1) r.2.1 r.2.2/\aa B h0 h3 (aJ bN a pw (aD x) offs da r.2.1 r.2.2::As))/\l.length-r.1<n4 l-i):=λ{h3} H3=>by
   refine⟨I6,bt (λu=>?_) λu=>?_⟩
   .rw[nq u]at q;rw[q];exact⟨n5,H3⟩
   .rw[m6 u]at q;exact⟨(i+1,c.2.1,c.2.2),oj,⟨n9,q,H3⟩,n9⟩
  rcases gf ok (n:Int)with⟨e1,u⟩|⟨n',d,b,e0,e1,u,e3,e4,e5⟩
  .rw[u];have A:c=(5,E,y):=by rw[o];unfold fC;rw[e1]
   refine(MF x _ W).I3 λh3 U=>⟨c.1,by rw[A],fin (h3:=h3) (by rw[A];exact P.up U.ac)⟩
  .rw[e5];have en:n=n':=n7
   subst en;obtain⟨b',j,X⟩:=Qw.aa.fq P u;rw[e4]at j;injection j with j
   injection j with j
   subst j;have A:c=((eJ m E d (N n)).1,(eJ m E d (N n)).2.1,y.set n (dB (eJ m E d (N n)).2.2)):=by rw[o];unfold fC;rw[e3];simp only[iD,qi]
   refine(UY x m (N n) (λBs h' hh=>(J (Bs++[_]) h' (by rw[ql];exact hh)).1) hz X).I3 λh3 H6=>?_;have H7:=Qw.aa.kN (k:=bN) (n:=n) e4 H6;exact⟨c.1,by rw[A],fin (h3:=h3) (by rw[A];exact H7)⟩
 .rw[zj n7]at q;rw[q];exact⟨n5,F⟩
end
def XK(a b:dH):Int:=if cQ a.1 b.1 then-1 else if iS a.1 b.1 then 0 else 1
def kC(a b:dH):Bool:=iS a.1 b.1
theorem MG(a b:dH):XK a b<0↔¬kC b a=eX:=by unfold XK kC iS;cases h:cQ a.1 b.1<;>simp;split<;>omega
theorem Dm:Ord kC:=⟨λa b c=>Cy a.1 b.1 c.1,λa b=>Cz a.1 b.1⟩
abbrev MH(x:dH):Value:=xM #[xK x.1,xH xN x.2.1,xH xN x.2.2.1,x.2.2.2]
theorem Kl(x y:ByteArray)(h:m5):ak xR 184 #[xK x,xK y] h λv h'=>v=xH xN (if cQ x y then-1 else if iS x y then 0 else 1)/\h'=h:=by
 refine ts Tryz.func184 ?_;have a:∀z:ByteArray,ak xR 256 #[xK z] h λv h'=>v=xL eY/\h'=h:=λz=>by
  refine ts Tryz.func256 ?_;exact⟨oo,n5⟩
 refine(a x).I2 ⟨_,n5,(a y).I2 ?_⟩;refine⟨_,n5,aT (λe=>o1) λ_=>aT (λe=>o1) λ_=>?_⟩;have c:Op.bytesLess x.toList y.toList=cQ x y:=rfl;rw[KR,c];have d:(!Op.bytesLess y.toList x.toList)=iS x y:=rfl;rw[d];refine aT (λe=>⟨A3,n5⟩) λe=>aH (λb=>⟨by rw[e,b];rfl,n5⟩) λb=>⟨by rw[e,b];rfl,n5⟩
theorem Sb(a b:dH)(h:m5):ak xR 183 #[MH a,MH b] h λv h'=>v=xH xN (XK a b)/\Sp h h' []:=by refine ts Tryz.func183 ?_ (args:=[a,b]);refine(Sp.refl h).boxed λi f d=>d.boxed λg e c=>?_;refine⟨a.1,(c.box 0 n5).cell0 n5,b.1,(c.box 1 n5).cell0 n5,(Kl a.1 b.1 e).I2 ?_⟩;exact⟨_,n5,n5,.zip c.ac⟩
abbrev xY(s:Sl)(d:List dH):HP:=ai 83 s 4 bg d
variable {h':m5} {s:Sl}
section
variable {d:List dH}
theorem OF{b c:List dH}{y:dH}(d:Sd kC (b++c))(f:∀z∈b,kC z y=eX)(g:∀z∈c,¬kC z y=eX):Sd kC (b++y::c):=
 Sd.app Dm d.left (zt.2 ⟨λz a=>Dm.Cq (g z a),d.right⟩) λx e z a=>by
  rcases qN.1 a with rfl|a
  .exact f x e
  .exact d.DS x e z a
theorem He(X M Y:List dH)(a b:Int)(ha:a=(n4 X:Int))(hb:b=(n4 X+n4 M:Nat))(ad:n4 X+n4 M+n4 Y<=2^40)(H:aa B h0 h (xY s (X++(M++Y))::As)):
  ak xR 319 #[s,xH xN a,xH xN b,.func (.func 183) #[] #[]] h λv h'=>v=.tuple #[]/\∃W,Sd kC W/\cC kC M W/\aa B h0 h' (xY s (X++(W++Y))::As):=by
 refine ts Tryz.func319 ?_ (HF (G7 (G9 [(8,aI)] [(8,10),(12,53)] (HF (G0 (G7 (HF (G7 (G9 [(9,aI)] [(9,10),(18,53)] (I1 [] [(18,35)] G6))))) G6))))) (args:=[s,(a:Int),(b:Int),(.func (.func 183) #[] #[])]);subst ha;subst hb;rw[af ((n4 X:Int)+1)];refine aj (λt:Nat×List dH=>((n4 X+1+t.1:Nat):Int)) (λt h'=>(t.1+1<=n4 M∨t.1=0)/\Sd kC t.2/\cC kC (M.take (t.1+1)) t.2/\t.2.length=n4 (M.take (t.1+1))/\aa B h0 h' (xY s (X++(t.2++(M.drop (t.1+1)++Y)))::As)) (λt=>n4 M-t.1) (0,M.take 1) n5 ?_ ?_
 .refine⟨.inr n5,?_,cC.refl _,n5,?_⟩
  .cases M with
   |nil=>exact List.Pairwise.nil
   |cons x M=>exact zt.2 ⟨λ_ h=>E9,oo⟩
  .rw[<-ql (M.take (0+1)),qz];exact H
 rintro⟨t,P⟩ h1 ⟨ht,E,A,Z,O⟩;dsimp only at*;refine ae (λe=>?_) (λe=>?_)
 .have J:t+1<n4 M:=n7
  obtain⟨y,hy⟩:=I5 (M[t+1])
  have G:n4 P=t+1:=by rw[Z];simp;omega
  have eD:M.drop (t+1)=y::M.drop (t+1+1):=by rw[qT J,hy]
  rw[eD]at O;refine aj (λu:List dH×List dH=>((n4 X+n4 u.1:Nat):Int)) (λu h'=>u.1++u.2=P/\(∀z∈u.2,¬kC z y=eX)/\aa B h0 h' (xY s (X++(u.1++(y::(u.2++(M.drop (t+1+1)++Y)))))::As)) (λu=>n4 u.1) (P,[]) (by dsimp only;rw[G];congr 1;omega) ⟨oo,oo,E2⟩ ?_;rintro⟨c,d⟩ h2 ⟨L,f,I⟩;dsimp only at*;have ab:n4 c+n4 d=t+1:=by rw[<-G,<-L,qo]
  have done:∀{h':m5},(∀z∈c,kC z y=eX)->aa B h0 h' (xY s (X++(c++(y::(d++(M.drop (t+1+1)++Y)))))::As)->
    ∃k:Nat×List dH,qc xN (((n4 X+1+t:Nat):Int)+1)=((n4 X+1+k.1:Nat):Int)/\((k.1+1<=n4 M∨k.1=0)/\Sd kC k.2/\cC kC (M.take (k.1+1)) k.2/\k.2.length=n4 (M.take (k.1+1))/\aa B h0 h' (xY s (X++(k.2++(M.drop (k.1+1)++Y)))::As))/\M.length-k.1<n4 M-t:=λ{h'} hle H'=>by
   refine⟨(t+1,c++y::d),by dsimp only;rw[af _];omega,⟨.inl n9,?_,?_,?_,?_⟩,n9⟩
   .exact OF D3 hle f
   .try dsimp only
    rw[az M (t+1) J,<-hy];have h1:cC kC (M.take (t+1)++[y]) (P++[y]):=A.app (cC.refl _);refine h1.trans ?_;rw[<-L,ql];have h2:cC kC (d++[y]) ([y]++d):=cC.TQ Dm λx hx z R=>by rw[qB.1 R];exact f x hx
    exact(cC.refl _).app h2
   ·(try dsimp only);simp;omega
   .try dsimp only
    have:X++((c++y::d)++(M.drop (t+1+1)++Y))=X++(c++(y::(d++(M.drop (t+1+1)++Y)))):=oo
    rw[this];exact H'
  obtain⟨D,N⟩:=I5 (X++(c++(y::(d++(M.drop (t+1+1)++Y)))))
  refine bs (λ_ h'=>∃(Q:List dH) (z:dH),c=Q++[z]/\¬kC z y=eX/\aa B h0 h' (xY s D::As)) ?_ ?_
  .rw[<-N]at I done;refine ae (λT=>?_) (λT=>⟨I6,done (λz R=>?_) I⟩)
   .have K:c≠[]:=λh=>by rw[h]at T;simp at T
    obtain⟨Q,z,o⟩:∃(Q:List dH) (z:dH),c=Q++[z]:=⟨c.dropLast,c.getLast K,(List.dropLast_concat_getLast K).symm⟩
    have V:n4 c=n4 Q+1:=E5
    have g1:D[n4 X+n4 c]?=dB y:=by rw[N,qk n7,show X.length+n4 c-n4 X=n4 c by omega,qk n7,zd];rfl
    have g2:D[n4 X+n4 c-1]?=dB z:=by rw[N,qk n7,show X.length+n4 c-1-n4 X=n4 Q by omega,o,ql,qk (qj _),zd];rfl
    obtain⟨U,q⟩:=qn.1 g1;obtain⟨S,r⟩:=qn.1 g2;refine(I.seq 0 n5 λ_=>rfl).cG (g:=bg) _ n5 U y (by rw[q]) ?_;have ej:qc xN (((n4 X+n4 c:Nat):Int)-1)=((n4 X+n4 c-1:Nat):Int):=o9
    rw[ej];refine(I.seq 0 n5 λ_=>rfl).cG (g:=bg) _ n5 S z F9 (fv qa ?_);refine(Sb y z h2).I3 λh3 R3=>?_;have F:=I.up R3.ac;refine⟨_,n5,I6,ae (λe3=>⟨Q,z,o,(MG y z).1 e3,F⟩) λe3=>done (λw l=>?_) F⟩;have m:kC z y=eX:=by
     by_cases hc:kC z y=eX
     .exact hc
     .exact absurd ((MG y z).2 hc) e3
    rw[o]at l;rcases qx.1 l with l|l
    .refine Dm.trans _ _ _ ?_ m;have:Sd kC (Q++[z]):=by rw[<-o];exact Sd.left (v:=d) D3
     exact this.DS w l z oo
    .rw[qB.1 l];exact m
   .have:c=[]:=by
     cases c with
     |nil=>rfl
     |cons x P=>exfalso;simp only[q7]at T;omega
    rw[this]at R;cases R
  .rintro _ h3 ⟨Q,z,o,m,F⟩;have V:n4 c=n4 Q+1:=E5
   have p:D=(X++Q)++z::([]++y::(d++(M.drop (t+1+1)++Y))):=by rw[N,o];simp
   obtain⟨q1,q2,q3,q4⟩:=Mn (X++Q) [] (d++(M.drop (t+1+1)++Y)) z y (i:=n4 X+n4 c-1) (j:=n4 X+n4 c) oi oi;rw[<-p]at q1 q2 q3 q4;obtain⟨S,r⟩:=qn.1 q1;obtain⟨U,q⟩:=qn.1 q2;have ej:qc xN (((n4 X+n4 c:Nat):Int)-1)=((n4 X+n4 c-1:Nat):Int):=o9
   rw[ej];refine(F.seq 0 n5 λ_=>rfl).cG (g:=bg) _ n5 S z F9 ?_;refine(F.seq 0 n5 λ_=>rfl).cG (g:=bg) _ n5 U y (by rw[q]) ?_;refine F.set ag 0 n5 (λ_=>rfl) n5 (n4 X+n4 c) n5 U z n5 n5 n5 λh4 H4=>⟨I6,?_⟩
   refine H4.set ag 0 n5 (λ_=>rfl) n5 (n4 X+n4 c-1) n5 D6 y n5 n5 n5 λh5 H5=>⟨I6,?_⟩
   refine⟨(Q,z::d),by dsimp only;congr 1;omega,⟨by dsimp only;rw[<-L,o];simp,?_,?_⟩,n9⟩
   .try dsimp only
    intro w l;rcases qN.1 l with rfl|l
    .exact m
    .exact f w l
   .try dsimp only
    have:X++(Q++(y::(z::d++(M.drop (t+1+1)++Y))))=(X++Q)++y::([]++z::(d++(M.drop (t+1+1)++Y))):=oo
    rw[this,<-q4];exact H5
 .refine⟨n5,P,E,?_,?_⟩
  .rw[qf n7]at A;exact A
  .rw[zj n7]at O;simpa using O
theorem MI(r:Nat)(h:m5)(c:r<=2^32):ak xR 255 #[xH xQ r] h λv h'=>(∃k:Int,v=xH xN k)/\h'=h:=by intro w a;refine(Tryz.bits_Len (r:Int) w n7 n7).mono ?_;rintro e b ⟨rfl,rfl⟩;exact⟨_,n5,dj.refl _,⟨_,n5⟩,a⟩
theorem Se(d:List dH)(m:n4 d<=12)(H:aa B h0 h (xY s d::As)):
  ak xR 182 #[s,.func (.func 183) #[] #[]] h λv h'=>v=.tuple #[]/\aa B h0 h' (xY s (d.mergeSort kC)::As):=by
 refine ts Tryz.func182 ?_ (args:=[s,(.func (.func 183) #[] #[])]);have g:=(H.own 0 n5).len;have a:∀k:Int,ak xR 254 #[s,xH xN 0,xH xN (s.len:Nat),xH xN k,.func (.func 183) #[] #[]] h λv h'=>v=.tuple #[]/\aa B h0 h' (xY s (d.mergeSort kC)::As):=λk=>by
  refine ts Tryz.func254 ?_ (HF (HF (G7 (G9 [(1,aI),(2,aI),(3,aI),(10,oe),(11,oe)] [(1,4),(10,148)] (G7 (HF (HF (HF (I1 [(3,aI)] [(3,4),(38,47)] (HF (I1 [(13,aI),(14,aI)] [(13,15),(55,68)] (I1 [] [(68,81)] (G0 (Hf [(1,aI)] [(1,2),(15,16),(81,105)] (I1 [(97,oe)] [(81,98)] G6)) G6))))))))))))) (args:=[s,(0:Int),((s.len:Nat):Int),(k:Int),(.func (.func 183) #[] #[])]);refine aj (λ_:Unit=>((0:Int),((s.len:Nat):Int),k,eX,eX)) (λ_ h'=>h'=h) (λ_=>0) () n5 n5 ?_;rintro _ l rfl;refine ae (λ_=>?_) λe=>absurd (show qc xN (((s.len:Nat):Int)-0)<=12 by rw[af _];omega) e;refine(He [] d [] 0 (s.len:Nat) n5 C0 oi v8).mono ?_;rintro _ f ⟨rfl,M,i,j,b⟩;refine⟨(),n5,n5,?_⟩;rw[<-YS Dm i j];simpa using b
 have c:qc xQ ((s.len:Nat):Int)=((s.len:Nat):Int):=by unfold qc;simp[qq,yA];omega
 rw[c];refine(MI s.len h n7).mono ?_;rintro _ l ⟨⟨k,rfl⟩,rfl⟩;refine⟨k,n5,(a k).I3 λf b=>?_⟩;exact⟨(),n5,n5,b⟩
end
def acd:bi:=(0,0,0,0,0,0,⟨eH,0,0⟩,⟨eH,0,0⟩)
theorem OG{m:aB}{e:Qw.cT}{xe:dH}{L:List (dH×Qw.cT)}{pool:List (Sl×aC)}(k:L.map zh=m.objs)(i:∀p∈L,Ei pool p)(h:Ei pool (xe,e)):
  ∃g:List (dH×Qw.cT),g.map qA=(L.map qA++[xe]).mergeSort kC/\g.map zh=(m.objs++[e]).mergeSort mP/\∀p∈g,Ei pool p:=by
 have c:∀p∈L++[(xe,e)],Ei pool p:=λp d=>by
  rcases qx.1 d with d|d
  .exact i p d
  .rw[qB.1 d];exact h
 refine⟨(L++[(xe,e)]).mergeSort λa b=>kC a.1 b.1,?_,?_,λp d=>c p ((wc _ _).mem_iff.1 d)⟩
 .rw[vJ (r:=λa b=>kC a.1 b.1) (s:=kC) (f:=qA) λa _ b _=>rfl,qF];rfl
 .rw[vJ (r:=λa b=>kC a.1 b.1) (s:=mP) (f:=zh) (λa j b l=>by unfold kC mP;rw[(c a j).1.1,(c b l).1.1]),qF,k];rfl
theorem Va(x:bi)(m:aB)(xe:dH)(e:Qw.cT)(z:ct h x m)(U:bM m)(Z:0<=m.seq/\m.seq<=2^40)(X:0<=m.next/\m.next<=2^40)(ho:m.objs.length<=11)(P:xe.1=e.name/\xe.2.1=e.object/\xe.2.2.1=e.length)(H:aa B h0 h (wd xe.2.2.2 1 ar e.tries::As)):
  ak xR 98 #[cL x,MH xe] h λv h'=>∃y:bi,v=cL y/\aa B h0 h' (bn y (nC m e)::As):=by
 refine ts Tryz.func98 ?_ (args:=[x,xe]);refine(Sp.refl h).boxed λV h1 R=>R.boxed λT W A=>A.alloc ag n5 λa3 h3 q=>?_;refine⟨x,(q.box 0 n5).aw _ n5,(pB x m h3 (z.up q.ac) U).mono ?_⟩;rintro _ Y ⟨y,L,pool,rfl,i,u,r,K⟩;have I:=((q.bu [1,2]).comp K).front;refine⟨y,n5,I.alloc ag n5 λJ h5 j=>?_⟩;have j:=j.bc;refine j.storeAll ag 0 n5 n5 (aD y) n5 n5 n5 n5 λh6 s=>?_;refine⟨y.1,(s.box 0 n5).cell0 n5,?_⟩;have O:qc xN (y.1+1)=m.seq+1:=by rw[i.1,af _]
 have M:qc xN (y.2.1+1)=m.next+1:=by rw[i.2.1,af _]
 try dsimp only
 rw[O];refine s.iB ag 0 n5 n5 [xH xN (m.seq+1)] n5 n5 n5 pb λh7 t=>?_;refine⟨y.2.1,(t.box 0 n5).cell n5,?_⟩
 try dsimp only
 rw[M];refine t.store ag 0 n5 n5 1 [xH xN (m.next+1)] n5 n5 n5 pb λh8 n=>?_;have N:L.length=m.objs.length:=by rw[<-u,qm]
 refine⟨y.2.2.2.2.2.2.2,(n.box 0 n5).cell n5,xe,(n.box 4 n5).aw _ n5,?_⟩;refine n.push ag 3 n5 mF n5 n8 (λ_=>rfl) Ar xe n5 n8 oi λo F l=>?_;refine l.store ag 0 n5 n5 7 [o] n5 n5 n5 pb λk b=>?_;obtain⟨c,a⟩:∃c:bi,c=(m.seq+1,m.next+1,y.2.2.1,y.2.2.2.1,y.2.2.2.2.1,y.2.2.2.2.2.1,y.2.2.2.2.2.2.1,o):=⟨_,rfl⟩
 have Q:c.2.2.2.2.2.2.1=y.2.2.2.2.2.2.1:=by rw[a]
 have E:c.2.2.2.2.2.2.2=o:=by rw[a]
 have b:Sp h k [an J 27 (aD c),iz 1 ar pool,ai 3 c.2.2.2.2.2.2.1 1 ar m.drives,ai 83 c.2.2.2.2.2.2.2 4 bg (L.map qA++[xe]),an T 83 (bg xe),an a3 27 (aD acd)]:=by rw[Q,E,a];exact b
 refine⟨c.2.2.2.2.2.2.2,(b.box 0 n5).cell n5,?_⟩;have b:=b.aG 6 [3,0,1,2,4,5];refine(Se (L.map qA++[xe]) oi b).I3 λD d=>⟨(),n5,c,(d.box 1 n5).aw _ n5,?_⟩;refine d.storeAll ag 5 n5 n5 (aD c) n5 n5 n5 n5 λS f=>?_;refine⟨c,(f.box 5 n5).aw _ n5,c,n5,?_⟩;obtain⟨L',l1,l2,G⟩:=OG (pool:=(xe.2.2.2,e.tries)::pool) (m:=m) (e:=e) (xe:=xe) u (λp w=>⟨(r p w).1,qp _ (r p w).2⟩) ⟨P,qR⟩;have g:=((H.comp (f.bu [2,3,0])).front).aG 4 [0,3,1,2];have g:=aa.Iy g;rw[<-l1]at g;refine aa.Bi (m:=nC m e) ⟨by rw[a];rfl,by rw[a];rfl,by rw[a];exact i.2.2.1,by rw[a];exact i.2.2.2⟩ l2 G g
section
variable {pw:hU}
theorem aa.Vb{x y:bi}(H:aa B h0 h (aJ bN a pw (aD x) offs da w ds::As)){K:Unit->m5->Prop}(b:∀h',aa B h0 h' (aJ bN a pw (aD y) offs da w ds::As)->K () h'):
  av xR (qD 27 (xJ (dB a)) (cL y)) h K:=by
 obtain⟨ok,d⟩:=Qw.aa.jQ H;refine d.iB ag 0 n5 n5 (aD y) n5 n5 n5 oo λh' c=>b h' ?_;exact aa.mG (k:=bN) ⟨n5,ok.la,ok.ls,ok.same⟩ c
theorem Hg(x z:bi)(b:aB)(s:Sl)(l:aC)(i:St B h0 As λh=>ct h z b/\Rd h s 1 ar l)(o:bM b)(t:n4 l<=2^10)(g:∀k∈l,0<=k/\k<64)(H:aa B h0 h (aJ bN a pw (aD x) offs da w ds::As)):
  ak xR 70 #[xJ (dB a),cL z,s] h λv h'=>v=xH xN (layAll (bj b l) w ds).1/\
   ((layAll (bj b l) w ds).1≠0->aa B h0 h' (aJ bN a pw (aD x) offs da (layAll (bj b l) w ds).2.1 (layAll (bj b l) w ds).2.2::As))/\
   ((layAll (bj b l) w ds).1=0->∃y,aa B h0 h' (aJ bN a pw (aD y) offs da (layAll (bj b l) w ds).2.1 (layAll (bj b l) w ds).2.2::bn y b::As)):=by
 refine ts Tryz.func70 ?_ (args:=[(dB a),z,s]);refine H.boxed λK J c=>?_;have c:=c.bc;refine⟨z,(c.box 0 n5).aw _ n5,(EL z b s l J (i.at [_,_] c).1 o (i.at [_,_] c).2 t).mono ?_⟩;rintro _ L ⟨r,D,rfl,G⟩;have u:=(c.bQ G).aG 3 [2,0,1];have d:=jA b o;have p:=zr t d;refine⟨r,n5,(Da r D (bj b l) (St.dU 0 n5 λ_ j=>j) (by rw[xX];omega) (λq j=>?_) u).mono ?_⟩
 .obtain⟨n,m⟩:=lY j;rw[m];exact⟨g _ n,n8⟩
 rintro _ h3 ⟨rfl,f⟩;obtain⟨R,I⟩:=I5 (layAll (bj b l) w ds)
 rw[<-I]at f⊢;refine⟨_,n5,bt (λe=>⟨n5,λ_=>f.aG 3 [0],λh=>absurd h e⟩) λe=>?_⟩;refine⟨z,(f.box 2 n5).aw _ n5,(GK z b h3 (i.at [_,_,_] f).1 o).I4 λy M F=>?_⟩;have E:=(f.bQ F).aG 4 [1,0];refine⟨y,n5,a,n5,aa.Vb E λN A=>?_⟩;exact⟨by rw[e],λh=>absurd e h,λ_=>⟨y,A⟩⟩
def dD(a:ByteArray)(e:Qw.cT):Bool:=e.name.toList==a.toList
theorem find_spec(x:bi)(m:aB)(b:ByteArray)(q:ct h x m)(y:bM m)(H:aa B h0 h (aJ bN a pw (aD x) offs da w ds::As)):
  ak xR 87 #[xJ (dB a),xK b] h λv h'=>(∃i:Int,v=xH xN i/\Mw (dD b) m.objs i)/\Sp h h' []:=by
 refine ts Tryz.func87 ?_;refine(Sp.refl h).boxed λe n c=>?_;have k:bV n e 9 [xK b]:=c.box 0 n5;obtain⟨ok,p⟩:=aa.cw H;have j:=p.ac c.ac p.lt;have f:=y.ob;refine⟨a,n5,x.2.2.2.2.2.2.2,j.cell n5,?_⟩;refine(EM 157 #[] #[xJ (dB e)] (dD b) x.2.2.2.2.2.2.2 m.objs n qa (q.up c.ac).objs f ?_).mono ?_
 .intro u E l g t z;refine ts Tryz.func157 ?_ (args:=[u,e]);refine(Sp.refl l).boxed λA h3 d=>?_;have o:=(k.ac g.ac k.lt)
  have s:=o.ac d.ac o.lt;refine⟨u.1,(d.box 0 n5).cell0 n5,b,s.cell0 n5,?_,.zip d.ac⟩;unfold dD;rw[t.1.1]
 .rintro _ l ⟨⟨i,rfl,r⟩,g⟩;exact⟨i,n5,⟨i,n5,r⟩,.zip (aa.up c g.ac).ac⟩
theorem og{b:aS}(H:aa B h0 h (aJ bN a pw b offs da w ds::As)):ak xR 64 #[xJ (dB a)] h λv h'=>v=xL (gN w offs)/\h'=h:=by refine pd (dB a) ?_;refine aT (λe=>o1) λ_=>(pE H).I2 ⟨_,n5,n5,n5⟩
def dO(m:aB)(down:Bool)(b:aF)(a:ByteArray)(n:Nat):Int:=
 if down then 14 else if !gJ a then 3 else if m.objs.any (dD a)then 4
 else if m.p.1*m.p.2.2*8<(n:Int)∨12<=n4 m.objs then 6
 else if aY b m.drives=[]∨16777215<m.next∨2147483647<=m.seq then 7 else 0
theorem MJ(x:bi)(m:aB)(b:ByteArray)(s:Sl)(n:Nat)(hn:s.len=n)(D:b.size<=2^40)(N:ct h x m)(L:bM m)(Y:bH m.p=eX)(H:aa B h0 h (aJ bN a pw (aD x) offs da w ds::As)):
  ak xR 94 #[xJ (dB a),xK b,s] h λv h'=>v=xH xN (dO m (gN w offs) ds b n)/\Sp h h' []:=by
 refine ts Tryz.func94 ?_ (HF (G0 (G7 (HF (HF (HF (HF (HF (HF (I1 [(19,oe)] [(19,46)] G6)))))))) G6));have S:=(bI m.p).1 Y;refine(og H).mono ?_;rintro _ F ⟨rfl,rfl⟩;refine⟨_,n5,aT (λe=>⟨by unfold dO;rw[e];rfl,Sp.refl _⟩) λq=>?_⟩;refine(Jy b F D).I3 λZ o=>⟨_,n5,aH (λe=>⟨by unfold dO;rw[q,e];rfl,o⟩) λA=>?_⟩;have J:=H.up o.ac;have g:=N.up o.ac;refine(find_spec x m b g L J).mono ?_;rintro _ h3 ⟨⟨i,rfl,U⟩,y⟩;have u:Sp F h3 []:=.zip (aa.up o y.ac).ac;have f:=Mx U;refine⟨i,n5,aT (λe=>⟨by unfold dO;rw[q,A,<-f,e];rfl,u⟩) λM=>?_⟩;rw[M]at f;have K:=J.up y.ac;have c:=g.up y.ac;obtain⟨ok,l⟩:=aa.cw K;have V:=bZ.len c.objs;have E:x.2.2.1=m.p.1:=congrArg (·.1) c.p;have I:x.2.2.2.2.1=m.p.2.2:=congrArg (·.2.2) c.p;have hk:m.p.1*m.p.2.2<=16*24:=we n7 n7 n7 n7;have X:0<=m.p.1*m.p.2.2:=vR n7 n7;refine bs (λ(t:Bool) h'=>t=decide (m.p.1*m.p.2.2*8<(n:Int)∨12<=n4 m.objs)/\h'=h3) ?_ ?_
 .refine⟨a,n5,x.2.2.1,l.cell n5,a,n5,x.2.2.2.2.1,by rw[addr_add];exact l.cell n5,?_⟩
  try dsimp only
  rw[E,I,af (m.p.1*m.p.2.2),af (m.p.1*m.p.2.2*8)];refine ae (λe=>⟨(n1 (.inl n7)).symm,n5⟩) λe=>?_;refine⟨a,n5,x.2.2.2.2.2.2.2,l.cell n5,?_,n5⟩;rw[decide_eq_decide];omega
 rintro t _ ⟨rfl,rfl⟩;refine ae (λe=>⟨by unfold dO;rw[q,A,<-f,m6 e];rfl,u⟩) λO=>?_;have P:dO m (gN w offs) ds b n=if aY ds m.drives=[]∨16777215<m.next∨2147483647<=m.seq then 7 else 0:=by unfold dO;rw[q,A,<-f,nq O];rfl
 rw[P];refine(eW x m c L K).I4 λr Q z=>?_;have j:=(z.own 0 n5).len;have d:Sp F Q []:=.zip (aa.up u z.ac).ac;have k:=l.ac z.ac l.lt;refine⟨r,n5,be (λe=>⟨by rw[m6 (.inl (qQ n7))],d⟩) λe=>?_⟩;have G:aY ds m.drives≠[]:=λW=>by rw[W]at j;simp at j;omega
 refine⟨a,n5,x.2.1,k.cell n5,ae (λe=>⟨by rw[m6 (.inr (.inl (by rw[<-c.next];omega)))],d⟩) λe6=>?_⟩;have T:=c.next;have R:=c.seq;refine⟨a,n5,x.1,k.cell0 n5,ae (λe=>⟨by rw[m6 (.inr (.inr n7))],d⟩) λe7=>⟨?_,d⟩⟩;rw[nq];rintro(h|h|h)
 .exact G h
 .omega
 .omega
end
theorem ui:∃i a,C.T.get 41=dB i/\i.cm=.slice a:=⟨_,_,n5,n5⟩
def oh(A B:aO)(k:Nat):aO:=eE (A.take k) (B.take k)++A.drop k
theorem rI{A B:aO}(h:n4 B=n4 A)(k:Nat):n4 (oh A B k)=n4 A:=by simp[oh,eE,h];omega
theorem Vd{A B:aO}(h:n4 B=n4 A){k:Nat}(a:k<n4 A):(oh A B k)[k]?=dB A[k]:=by
 have:n4 (eE (A.take k) (B.take k))=k:=by simp[eE];omega
 rw[oh,qk n7,this,zd,wJ,ym,qd a]
theorem Ve{A B:aO}(h:n4 B=n4 A){k:Nat}(a:k<n4 A):(oh A B k).set k (A[k]++B[k]'n7)=oh A B (k+1):=by
 have b:n4 (eE (A.take k) (B.take k))=k:=by simp[eE];omega
 rw[oh,qZ _ _ n7,b,zd,qT a,zu,oh,az _ _ a,az _ _ (show k<n4 B by omega),eE,eE,vx oi,ql];rfl
theorem Vf{A B:aO}(h:n4 B=n4 A):oh A B A.length=eE A B:=by rw[oh,qt,<-h,qt,h,yS,qL]
theorem Sf(f:hU)(a b:Sl)(A B:aO)(n w:Nat)(h:m5)(hf:ia h f)(I:dT h a 1 aq A)(hb:dT h b 1 aq B)(hl:n4 A=n)(a3:n4 B=n)(i:aU n A)(J:aU w B)(a9:1<=n)(hn:n+w<=64)(hr:cv A=n):
  ak xR 230 #[xJ (dB f),a,b] h λv h'=>∃r:Sl,v=.tuple #[r,xH xN 0]/\Sp h h' [dw 41 r 1 aq (eM n A B)]:=by
 have d:n4 B=n4 A:=n7
 have ab:=I.len;have p:=hb.len;refine ts Tryz.func230 ?_ (HF (I1 [] [(6,8),(17,37)] (HF (HF (G0 (HF (G7 (G9 [(43,aI)] [(10,11),(43,59)] G6))) (HF (HF (G0 (HF (G7 (G9 [(71,aI)] [(6,8),(13,14),(71,79)] G6))) (HF (I0 [(14,bK),(83,aI)] [(14,15),(16,17),(83,95)]))))))))));refine aE ?_;refine(mI a A n h I i).mono ?_;rintro v h1 ⟨rfl,rfl⟩;refine⟨_,n5,aH (λe=>o1) λ_=>?_⟩;refine(mI b B w h1 hb J).mono ?_;rintro v L ⟨rfl,rfl⟩;refine⟨_,n5,aH (λe=>o1) λ_=>?_⟩;refine bt (λe=>absurd (by rw[ab,p,d]) e) λ_=>?_;refine be (λe=>n7) λ_=>?_;refine(pH a A L I).mono ?_;rintro v h3 ⟨rfl,rfl⟩;have ad:ee A=n:=by
  cases A with
  |nil=>simp at hl;omega
  |cons x t=>rw[ee,bf oo];exact i _ oo
 refine⟨_,n5,?_⟩;rw[ad];refine(ug a A n h3 I i).mono ?_;rintro v h4 ⟨r,rs,rfl,a4,R4⟩;refine⟨r,n5,?_⟩;have al:=(R4.own 0 n5).len;refine aj (λt:Nat×List Sl=>(t.1:Int)) (λt h'=>t.1<=n/\t.2.length=n/\Sp h3 h' (kO r t.2 (oh A B t.1))) (λt=>n-t.1) (0,rs) n5 ⟨oo,n9,by simpa[oh,eE]using R4⟩ ?_;rintro⟨k,rs⟩ h5 ⟨hk,a6,j⟩;dsimp only at*;have o:n4 rs=n4 (oh A B k):=A9
 refine ae (λe=>?_) (λe=>?_)
 .have z:k<n:=n7
  have y:k<n4 A:=n7
  have G:=lq (a:=r) o k A9;have eg:(oh A B k)[k]'(by rw[rI d];omega)=A[k]:=by have:=Vd d y;rw[qd A9]at this;exact wb.inj this
  rw[eg]at G;have l1:A[k].length=n:=i _ (qe _);have l2:n4 (B[k]'n7)=w:=J _ (qe _);refine(j.seq 0 n5 λ_=>rfl).dN k n5 n7 λa1 X T=>?_;refine(hb.up j.ac).get k n5 n7 λrb W=>?_;refine j.append ag (k+1) G cK ui n5 n8 (λ_=>rfl) W cB n7 λK h6 H6=>⟨I6,?_⟩
  refine H6.set ag 0 n5 (λ_=>rfl) n5 k n5 n7 K n5 n5 n5 λZ H7=>⟨I6,?_⟩
  refine⟨(k+1,rs.set k K),oj,⟨n9,u0,?_⟩,n9⟩
  try dsimp only
  rw[<-Ve d y];show Sp h3 Z (ai 41 r 1 bv (rs.set k K)::bo 5 1 aq (rs.set k K) ((oh A B k).set k _));rw[<-jw o];exact H7
 .have S:k=n4 A:=n7
  subst S;rw[Vf d]at j;refine(sg f h5).mono ?_;rintro v h6 ⟨rfl,rfl⟩;refine⟨dB f,n5,?_⟩;have F:=lF d.symm i J;have a0:=kZ d.symm;refine(xV (m:=eE A B) (n:=n+w) hf hf.lt n7 F n7 n7 n7 j).mono ?_;rintro v Z ⟨g,rfl,ao,u⟩;rw[tJ d.symm i,hr];refine⟨_,n5,?_⟩
  try dsimp only
  have am:=(u.own 0 n5).cap;have ay:=(u.own 0 n5).len;have L:=fM F n;refine ae (λe=>absurd (show(n:Int)<(n:Int)from e) n7) λ_=>?_;refine⟨⟨ze _,wA.2 (show n<=r.len by omega)⟩,?_⟩;refine aj (λ_:Unit=>(0:Int)) (λ_ h'=>h'=Z) (λ_=>0) () n5 n5 ?_;rintro _ h8 rfl;rw[qi];refine ae (λe=>n7) λ_=>?_;refine⟨⟨ze _,wA.2 (show n<=r.cap by omega)⟩,?_⟩;obtain⟨M,N⟩:=I5 ((ba (eE A B) n).2)
  have a2:n4 M=n:=by have:=L.2;rw[<-N]at this;omega
  have U:aU (n+w) M:=by rw[N];exact L.1
  have D:∀k (hk:k<n),(eM n A B).take (k+1)=(eM n A B).take k++[(M[k]'n7).drop n]:=λk hk=>by
   have e1:eM n A B=M.map (List.drop n):=by rw[eM,<-N,qf n7]
   rw[e1,az _ _ oi,zk]
  have ax:n4 (eM n A B)=n:=(pz d.symm i J hr).1;rw[<-N]at u;refine aj (λt:Sl×Nat=>(t.1,(t.2:Int))) (λt h'=>t.2<=n/\Sp h8 h' [dw 41 t.1 1 aq ((eM n A B).take t.2)]) (λt=>n-t.2) (⟨eH,0,0⟩,0) n5 ⟨oo,(Sp.refl h8).sq 41 1 aq⟩ ?_;rintro⟨s,k⟩ h9 ⟨a5,H⟩;dsimp only at*;have V:=u.comp H;have P:n4 g=n4 M:=n7
  refine ae (λe=>?_) (λe=>?_)
  .have z:k<n:=n7
   have G:=lq (a:=r) P k n7;have E:(kO r g M++[dw 41 s 1 aq ((eM n A B).take k)])[k+1]?=dB (ai 5 (g[k]'n7) 1 aq (M[k]'n7)):=by rw[qu (by simp[bo];omega)];exact G
   have ap:n4 (M[k]'n7)=n+w:=U _ (qe _);have q:=V.own (k+1) E;have Y:=V.seq (k+1) E λ_=>rfl;have ah:=q.len;have l:=(V.seq 0 n5 λ_=>rfl).take n n7;rw[qf n7]at l;refine l.dN k n5 n7 λa1 X T=>?_;refine⟨⟨ze _,wA.2 n7⟩,?_⟩;refine(fN _ _ h9 (Y.drop n q.cap) oi).I4 λc a7 Q=>?_;have R:=(H.comp Q).freeze 1 n5 λ_=>rfl;refine⟨c,n5,?_⟩;refine R.jD ag 0 1 n8 n5 n5 cI oi λs' a8 O=>?_;refine⟨(s',k+1),oj,⟨n9,?_⟩,n9⟩
   try dsimp only
   rw[D k z];exact O.del 1
  .rw[qf n7]at H;refine⟨s,n5,?_⟩;have:=(Sp.zip u.ac).comp H;exact this
def iK(p:Pm)(seed:Int)(l:Nat):Int:=if bH p&&decide ((l:Int)=p.1*p.2.2)then(if fy p seed (fh p)then 0 else 8)else 1
abbrev si(p:Pm)(seed:Int)(m:Sl):aS:=[xH xN p.1,xH xN p.2.1,xH xN p.2.2,xH xP seed,m]
theorem XL(p:Pm)(seed:Int)(data:Sl)(d:Row)(h:m5)(hd:Rd h data 1 aq d)(hc:data.len<=data.cap):
  ak xR 177 #[go p,xH xP seed,data] h λv h'=>
   (iK p seed d.length=0->∃(b:hU) (m:Sl),v=.tuple #[xJ (dB b),xH xN 0]/\Sp h h' [dw 41 m 1 aq (jZ p seed d),an b 281 (si p seed m)])/\
   (iK p seed d.length≠0->v=.tuple #[xJ eH,xH xN (iK p seed d.length)]/\Sp h h' []):=by
 have ad:=hd.len;refine ts Tryz.func177 ?_ (HF (I1 [] [(6,8),(12,25)] (HF (HF (G0 (HF (G7 (G9 [(8,bK),(31,aI)] [(8,9),(31,40)] G6))) (G0 (HF (G7 (G9 [(8,bK),(42,aI)] [(8,10),(42,60)] G6))) (I1 [(10,bK),(11,aI)] [(10,12),(60,71)] G6))))))) [(15,(.l [1,2,3,6,0,4,5,7,8,9,10,11,12]))] (args:=[p,(xH xP (seed:Int)),data]);refine(Sp.refl h).boxed λa h1 H1=>?_;refine aE ?_;refine⟨p,(H1.box 0 n5).aw _ n5,(eV p h1).mono ?_⟩;rintro v h2 ⟨rfl,R2⟩;have O:=H1.comp R2;have W:∀{h3:m5} (x:Int),x≠0->iK p seed d.length=x->Sp h h3 [an a 24 [xH xN p.1,xH xN p.2.1,xH xN p.2.2]]->
   (iK p seed d.length=0->∃(b:hU) (m:Sl),Value.tuple #[xJ eH,xH xN x]=.tuple #[xJ (dB b),xH xN 0]/\Sp h h3 [dw 41 m 1 aq (jZ p seed d),an b 281 (si p seed m)])/\
   (iK p seed d.length≠0->Value.tuple #[xJ eH,xH xN x]=.tuple #[xJ eH,xH xN (iK p seed d.length)]/\Sp h h3 []):=λx hx P H=>by
  refine⟨λe=>absurd (P.symm.trans e) hx,λ_=>⟨by rw[P],.zip H.ac⟩⟩
 refine⟨_,n5,aH (λe=>W 1 n8 (by rw[iK,e];rfl) O) λT=>?_⟩;have ay:=(bI p).1 T;obtain⟨K,hK⟩:∃K:Nat,p.1=K:=⟨p.1.toNat,n7⟩
 obtain⟨y,hH⟩:∃H:Nat,p.2.1=H:=⟨p.2.1.toNat,n7⟩
 obtain⟨w,N⟩:∃w:Nat,p.2.2=w:=⟨p.2.2.toNat,n7⟩
 have a0:K*w<=16*24:=zr n7 n7;have M:p.1*p.2.2=((K*w:Nat):Int):=by rw[hK,N,zR]
 refine⟨p.1,(O.box 0 n5).cell0 n5,p.2.2,(O.box 0 n5).cell n5,?_⟩
 try dsimp only
 rw[M,af _];refine bt (λe=>W 1 n8 (by rw[iK,T,n2 (by rw[M];intro e2;exact e (by rw[ad];exact e2))];rfl) O) λel=>?_;have G:n4 d=K*w:=n7
 refine⟨p,(O.box 0 n5).aw _ n5,(GW p seed h2).mono ?_⟩;rintro v h3 ⟨rfl,R3⟩;have H3:=O.comp R3;have D:iK p seed d.length=if fy p seed (fh p)then 0 else 8:=by rw[iK,T,n1 (by rw[M,G])];rfl
 refine⟨_,n5,aH (λe=>W 8 n8 (by rw[D,e];rfl) H3) λhf=>?_⟩;rw[hf,m6 rfl]at D;have B:gm p seed d K y w (K+y):=⟨T,hf,hK,hH,N,n5,n7,n7,n7,n7,n7,n7,G⟩
 refine⟨p.2.1,(H3.box 0 n5).cell n5,?_⟩;refine aj (λt:Sl×List Sl=>(t.1,(n4 t.2:Int))) (λt h'=>n4 t.2<=y/\Sp h h' (an a 24 [xH xN p.1,xH xN p.2.1,xH xN p.2.2]::kO t.1 t.2 (qh t.2.length (aN w)))) (λt=>y-n4 t.2) (⟨eH,0,0⟩,[]) n5 ⟨oo,H3.nil 41 1 bv⟩ ?_;rintro⟨s,rs⟩ h4 ⟨hk,R⟩;dsimp only at*;refine ae (λe=>?_) (λe=>?_)
 .refine⟨p.2.2,(R.box 0 n5).cell n5,?_⟩;refine R.make ag aq cK n8 0 n5 n5 w w N N (qj _) n7 λz Y ap ao E=>?_;refine E.push ag 1 n5 cI n5 n8 (λ_=>rfl) jK z n5 n8 n7 λV h6 X=>?_;refine⟨(V,rs++[z]),by dsimp only;rw[af _];simp,⟨oi,?_⟩,oi⟩
  try dsimp only
  have e7:kO V (rs++[z]) (qh rs.length (aN w)++[aN w])=ai 41 V 1 bv (rs++[z])::(bo 5 1 aq rs (qh rs.length (aN w))++[ai 5 z 1 aq (aN w)]):=congrArg _ (oz oo z (aN w));rw[show(rs++[z]).length=n4 rs+1 by simp,yL,e7];exact X
 .have L:n4 rs=y:=n7
  rw[L]at R;refine⟨p.1,(R.box 0 n5).cell0 n5,?_⟩;let own:=bo 5 1 aq rs (qh y (aN w));refine aj (λt:Sl×Nat=>(t.1,(t.2:Int))) (λt h'=>t.2<=K/\Sp h h' (an a 24 [xH xN p.1,xH xN p.2.1,xH xN p.2.2]::ai 41 t.1 1 bv (rs++(qy t.2).map (Ft data w))::own)) (λt=>K-t.2) (s,0) n5 ⟨oo,by simpa using R⟩ ?_;rintro⟨t,k⟩ Y ⟨am,E⟩;dsimp only at*;refine ae (λe2=>?_) (λe2=>?_)
  .have ab:k<K:=n7
   have m1:(k+1)*w<=K*w:=zi w ab;have m2:k*w<=(k+1)*w:=zi w n7;refine⟨p.2.2,(E.box 0 n5).cell n5,p.2.2,(E.box 0 n5).cell n5,?_⟩;rw[af ((k:Int)+1)];have e5:(k:Int)*p.2.2=((k*w:Nat):Int):=by rw[N,zR]
   have e6:((k:Int)+1)*p.2.2=(((k+1)*w:Nat):Int):=by rw[N,zR];rfl
   try dsimp only
   rw[e5,e6,kl _,kl _,qi,qi];refine⟨⟨ze _,wA.2 m2,wA.2 n7⟩,?_⟩;refine E.push ag 1 n5 cI n5 n8 (λ_=>rfl) jK (Ft data w k) n5 n8 oi λt' h6 X=>?_;refine⟨(t',k+1),n5,⟨n9,?_⟩,n9⟩
   try dsimp only
   rw[zC,qF,<-ql];exact X
  .have U:k=K:=n7
   subst U;refine aE ?_;have F:dT Y t 1 aq (nk k y w d):=by
    refine⟨rs++(qy k).map (Ft data w),E.seq 1 n5 λ_=>rfl,by rw[uF];simp;omega,λi r l q o=>?_⟩;by_cases I:i<y
    .rw[qu n7,qd n7]at q;rw[nk,qu (by simpa using I)]at o;have hz:l=aN w:=by simp[I]at o;exact o.symm
     have hr:rs[i]'n7=r:=wb.inj q;have g:(an a 24 [xH xN p.1,xH xN p.2.1,xH xN p.2.2]::ai 41 t 1 bv (rs++(qy k).map (Ft data w))::own)[i+2]?=dB (ai 5 (rs[i]'n7) 1 aq ((qh y (aN w))[i]'(by simpa using I))):=eC (by simpa using L) i (by simpa using I);have:=E.seq (i+2) g λ_=>rfl;rw[List.getElem_replicate,hr]at this;rw[hz];exact this
    .obtain⟨j,rfl⟩:∃j,i=y+j:=⟨i-y,n7⟩
     rw[qk n7,L,wE]at q;rw[nk,qk oo,wU,wE]at o;have hj:j<k:=by have:=(qn.1 q).1;simpa using this
     simp[hj]at q o;have m1:(j+1)*w<=k*w:=zi w hj;rw[<-q,<-o];exact(Seq.up hd E.ac).piece hc w j
   have c:=E.box 0 n5;refine⟨p,c.aw _ n5,p,c.aw _ n5,(sI Y).mono ?_⟩;rintro v h6 ⟨f,rfl,R6⟩;have u:=c.ac R6.ac c.lt;refine⟨dB f,n5,⟨u.cell0 n5,u.cell n5,u.cell n5,u.cell0 n5,u.cell n5,u.cell n5,I6⟩,(GV p h6).mono ?_⟩;rintro v h7 ⟨r7,rfl,R7⟩;have Z:=R6.comp R7;have J:=c.ac Z.ac c.lt;refine⟨r7,n5,⟨J.cell0 n5,J.cell n5,J.cell n5,I6⟩,?_⟩;refine(EN p seed r7 (fh p) h7 (Z.seq 1 n5 λ_=>rfl) (by rw[fh,ft];omega)).mono ?_;rintro v h8 ⟨r8,rfl,R8⟩;have S:=Z.comp R8;refine⟨r8,n5,I6,?_⟩;refine(Sf f r8 t _ _ (k+y) w h8 (S.box 0 n5) (S.ov 2 n5) (F.up S.ac) B.LS (by rw[uF]) B.Ip (Ba B.len) n7 n7 B.Iq).I4 λr9 h9 R9=>?_;have Q9:=S.comp R9;refine⟨(r9,0),n5,I6,?_⟩;refine bt (λe=>absurd n5 e) λ_=>?_;have al:=c.ac Q9.ac c.lt;refine⟨p,al.aw _ n5,?_⟩;refine Q9.boxed (t:=281) λb ax ah=>?_;refine⟨λ_=>⟨b,r9,n5,?_⟩,λe=>absurd D e⟩;have Q:=(Sp.zip E.ac).comp ah;rw[<-B.BI]at Q;exact Q.take 3 (λi A I=>by
    cases i with
    |zero=>exact I
    |succ i=>cases i with
     |zero=>exact I
     |succ i=>simp at I)
def ID(h:m5)(b:hU)(p:Pm)(seed:Int)(M:aO):Prop:=∃m:Sl,bV h b 281 (si p seed m)/\dT h m 1 aq M
theorem ID.up{h h':m5}{b:hU}{p:Pm}{seed:Int}{M:aO}(d:ID h b p seed M)(c:aQ (λb=>b<h.size) h h'):ID h' b p seed M:=by obtain⟨m,a,e⟩:=d;exact⟨m,a.ac c a.lt,e.up c⟩
theorem OH{a t:Row}(b:n4 a=n4 t){k:Nat}(d:k<n4 t):(zl (λx y=>y^^^Gf.mul 1 x) (a.take k) (t.take k)++t.drop k).set k (t[k]^^^(a[k]'n7))=zl (λx y=>y^^^Gf.mul 1 x) (a.take (k+1)) (t.take (k+1))++t.drop (k+1):=by have:=uh (c:=1) b d;rw[Gf.one_mul]at this;exact this
theorem ace{a t:Row}(d:n4 a=n4 t){k:Nat}(b:k<n4 t):(zl (λx y=>y^^^Gf.mul 1 x) (a.take k) (t.take k)++t.drop k)[k]?=dB t[k]:=by
 have c:n4 (zl (λx y=>y^^^Gf.mul 1 x) (a.take k) (t.take k))=k:=oi
 rw[qk n7,c,zd,wJ,ym,qd b]
theorem OI(b:hU)(p:Pm)(seed id:Int)(M:aO)(n w:Nat)(h:m5)(hb:ID h b p seed M)(L:bH p=eX)(T:p.2.2=w)(hn:(bD p).toNat=n)(Y:aU w M)(hl:n4 M=n):
  ak xR 179 #[xJ (dB b),xH xN id] h λv h'=>∃r:Sl,v=r/\Sp h h' [ai 5 r 1 aq (if bP id then jN w M (dZ n seed id)else[])]:=by
 obtain⟨m,g,R⟩:=hb;have ab:=R.len;have a0:=(bI p).1 L;have hc:bD p=p.1+p.2.1:=by rw[bD,m6 L]
 refine ts Tryz.func179 ?_ (HF (I1 [] [(4,5),(10,20)] (HF (G0 (HF (G7 (G9 [(37,aI)] [(7,10),(37,63)] (HF (HF (G0 (G7 (HF (HF (G7 (G9 [(49,aI)] [(8,10),(49,62)] G6))))) G6)))))) G6)))) [(4,(.l [0,1,2,3,4,5,6,7,8,11,9,10]))];have P:bP id=eY->∃r:Sl,Value.slice eH 0 0=xI r.ptr r.len r.cap/\Sp h h [ai 5 r 1 aq (if bP id then jN w M (dZ n seed id)else[])]:=λe=>by
  rw[e];exact⟨⟨eH,0,0⟩,n5,(Sp.refl h).nil 5 1 aq⟩
 refine aE (aT (λe=>o1) λ_=>ae (λe=>P v6) λe1=>ae (λe=>P v6) λW=>?_);have hid:bP id=eX:=v6
 refine⟨b,n5,p.2.2,g.cell n5,?_⟩;refine(Sp.refl h).make ag aq cK n8 0 n5 n5 w w T T (qj _) n7 λo h1 ay am V=>?_;have z:=g.ac V.ac g.lt;refine⟨b,n5,p,z.aw _ n5,b,n5,seed,z.cell n5,(uR p seed id h1).I4 λc h2 U=>?_⟩;rw[L,hid,vd,m6 rfl,hn]at U;rw[hid,m6 rfl];have H:=V.comp U;obtain⟨d,q⟩:=I5 (dZ n seed id)
 have E:∀x∈d,0<=x/\x<(n:Int):=λx O=>km n7 n7 (by rw[<-q];exact O);have Z:n4 d<=n:=by rw[q];exact mw n7 n7 _ _
 rw[<-q]at H⊢;have al:=(H.seq 1 n5 λ_=>rfl).len;refine⟨c,n5,I6,?_⟩;refine aj (λi:Nat=>(i:Int)) (λi h'=>i<=n4 d/\Sp h h' [ai 5 o 1 aq (jN w M (d.take i)),ai 3 c 1 ar d]) (λi=>n4 d-i) 0 n5 ⟨n7,H⟩ ?_;rintro i h3 ⟨F,j⟩;refine ae (λe=>?_) (λe=>?_)
 .have s:i<n4 d:=n7
  have O:=E _ (qe s);refine(j.seq 1 n5 λ_=>rfl).aV i n5 s _ n5 ?_;have G:=g.ac j.ac g.lt;refine⟨b,n5,m,G.cell n5,?_⟩;obtain⟨ao,Q⟩:=R;refine(Q.ac j.ac).get d[i].toNat n7 n7 λr X J=>?_;have B:=Q.row _ r _ J (qd (show d[i].toNat<n4 M by omega));obtain⟨row,f⟩:=I5 (M[d[i].toNat]'n7)
  have ad:n4 row=w:=by rw[f];exact Y _ (qe _)
  rw[<-f]at X B;obtain⟨S,K⟩:=I5 (jN w M (d.take i))
  have a1:n4 S=w:=by rw[K];exact oE Y hl E i F
  have ax:=X.len;have W:jN w M (d.take (i+1))=cH 1 row S:=by rw[az _ _ s,AZ,K,f,bf n7]
  rw[<-K]at j;refine aj (λk:Nat=>(k:Int)) (λk h'=>k<=w/\Sp h h' [ai 5 o 1 aq (zl (λx y=>y^^^Gf.mul 1 x) (row.take k) (S.take k)++S.drop k),ai 3 c 1 ar d]) (λk=>w-k) 0 n5 ⟨n7,by simpa using j⟩ ?_;rintro k h4 ⟨hk,D⟩;have N:=B.ac D.ac;have ah:n4 (zl (λx y=>y^^^Gf.mul 1 x) (row.take k) (S.take k)++S.drop k)=w:=oi
  refine ae (λe3=>?_) (λe3=>?_)
  .have ap:k<w:=n7
   have u:(zl (λx y=>y^^^Gf.mul 1 x) (row.take k) (S.take k)++S.drop k)[k]'n7=S[k]'n7:=by have:=ace (a:=row) (t:=S) n7 (show k<n4 S by omega);rw[qd n7]at this;exact wb.inj this
   refine N.aV k n5 n7 _ n5 ?_;refine(D.seq 0 n5 λ_=>rfl).aV k n5 n7 _ n5 ?_;rw[u,lQ];refine D.set ag 0 n5 (λ_=>rfl) n5 k n5 n7 _ n5 n5 n5 λh5 H5=>?_;refine⟨k+1,o0,⟨n7,?_⟩,n7⟩;rw[<-OH n7 (show k<n4 S by omega)];exact H5
  .have I:k=w:=n7
   subst I;rw[qf n7,qf n7,zj n7,qL]at D;refine⟨i+1,o0,⟨n7,?_⟩,n7⟩;rw[W];exact D
 .rw[qf n7]at j;exact⟨o,n5,j.take 0 λi A F=>by cases i with|zero=>exact F|succ i=>simp at F⟩
theorem gm.iK{p:Pm}{seed:Int}{d:Row}{K H w n:Nat}(B:gm p seed d K H w n):iK p seed d.length=0:=by rw[Qw.iK,B.may,B.full,B.len,B.k,B.s,n1 (by rw[zR])];rfl
theorem acf{p:Pm}{seed:Int}{d:Row}{K H w n:Nat}(B:gm p seed d K H w n)(data:Sl)(h:m5)(e:Rd h data 1 aq d)(a:data.len<=data.cap):
  ak xR 177 #[go p,xH xP seed,data] h λv h'=>
   ∃(b:hU) (m:Sl),v=.tuple #[xJ (dB b),xH xN 0]/\Sp h h' [dw 41 m 1 aq (jZ p seed d),an b 281 (si p seed m)]:=
 (XL p seed data d h e a).mono λ_ _ c=>c.1 B.iK
theorem gm.symbol{p:Pm}{seed:Int}{d:Row}{K H w n:Nat}(B:gm p seed d K H w n)(b:hU)(id:Int)(h:m5)(a:ID h b p seed (jZ p seed d)):
  ak xR 179 #[xJ (dB b),xH xN id] h λv h'=>∃r:Sl,v=r/\Sp h h' [ai 5 r 1 aq (if bP id then jN w (jZ p seed d) (dZ n seed id)else[])]:=
 OI b p seed id _ n w h a B.may B.s B.sA B.An.2 B.An.1
def Az(s:BJ):aS:=[.complex .f64 s.ax s.ay,.complex .f64 s.sx s.sy,xH xN s.left,xH xN s.leg,xL s.second]
theorem ol{o:Option Nat}(h:o.isSome=eX):o=dB (o.getD 0):=by
 cases o with
 |none=>cases h
 |some x=>rfl
theorem Sg(h:m5):ak xR 315 #[] h λv h'=>∃a:hU,v=xJ (dB a)/\Sp h h' [an a 347 (Az fs0)]:=by refine ts Tryz.func315 ?_;refine(Sp.refl h).boxed (t:=347) λa c b=>?_;exact⟨a,n5,b⟩
theorem Vg(a b:Nat)(h:m5)(d:(gU.mul a 0).isSome=eX)(j:(gU.mul b oF).isSome=eX)(h3:(gU.sub (rZ a 0) (rZ b oF)).isSome=eX)(f:(gU.mul a oF).isSome=eX)(c:(gU.mul b 0).isSome=eX)(i:(gU.add (rZ a oF) (rZ b 0)).isSome=eX):
  ak xR 357 #[.complex .f64 a b,xH xN 1] h λv h'=>v=.complex .f64 (tx a b) (ty a b)/\h'=h:=by
 refine ts Tryz.func357 ?_ (HF (I0 [(0,(.sc (.cpx .f64))),(9,aI)] [(0,1),(9,14)])) (args:=[(.complex .f64 (a,b).1 (a,b).2),(1:Int)]);refine⟨n8,n8,?_⟩;refine aj (λk:Nat=>(if k=0 then(a,b)else(tx a b,ty a b),(k:Int))) (λk h'=>k<=1/\h'=h) (λk=>1-k) 0 n5 ⟨n7,n5⟩ ?_;rintro k h' ⟨l,rfl⟩;have g:xz (qc xN (xz 1 4+4)) 4=1:=n8
 try dsimp only
 rw[g];refine ae (λe=>?_) (λe=>?_)
 .have:k=0:=n7
  subst this;refine⟨(tx a b,ty a b),ZT (ol d) (ol j) (ol h3) (ol f) (ol c) (ol i),?_⟩;exact⟨1,n5,⟨n7,n5⟩,n7⟩
 .have:k=1:=n7
  subst this;exact⟨n5,n5⟩
theorem XM(a:hU)(s:BJ)(h:m5)(g:bV h a 347 (Az s))(c:s.ok=eX):ak xR 316 #[xJ (dB a)] h λv h'=>v=.tuple #[]/\bV h' a 347 (Az s.on)/\aQ (λb=>b≠a.block) h h':=by
 simp only[BJ.ok,qC,decide_eq_true_eq]at c;obtain⟨⟨⟨⟨⟨⟨⟨⟨⟨⟨⟨A,y⟩,u⟩,G⟩,F⟩,w⟩,E⟩,z⟩,Q⟩,I⟩,K⟩,x⟩:=c;refine ts Tryz.func316 ?_ (HF (HF (HF (HF (I1 [] [(33,44)] G6)))));have L:aa (λb=>b<h.size/\¬b=a.block) h h [an a 347 (Az s)]:=.LC (λb=>b=a.block) (λb m=>by rw[m];exact g.lt) ⟨g,n5⟩;have fin:∀{h':m5},aa (λb=>b<h.size/\¬b=a.block) h h' [an a 347 (Az s.on)]->Value.tuple #[]=.tuple #[]/\bV h' a 347 (Az s.on)/\aQ (λb=>b≠a.block) h h':=λH=>
  ⟨n5,H.box 0 n5,H.ac.1,λk p o=>H.ac.2 k p ⟨p,o⟩⟩
 refine⟨a,n5,(s.ax,s.ay),g.cell0 n5,a,n5,(s.sx,s.sy),g.cell n5,(nM s.ax s.sx,nM s.ay s.sy),ZR (ol A) (ol y),a,n5,?_⟩;refine L.iB ag 0 n5 n5 [.complex .f64 (nM s.ax s.sx) (nM s.ay s.sy)] n5 n5 n5 (by simp[Az]) λO r=>⟨I6,?_⟩
 refine⟨a,n5,s.left,(r.box 0 n5).cell (j:=2) n5,a,n5,?_⟩;rw[af (s.left-1)];refine r.storeAt ag 0 n5 n5 (off:=2) n5 n5 n5 (by simp[Az]) λB d=>?_;refine⟨a,n5,s.left-1,(d.box 0 n5).cell (j:=2) n5,?_⟩;refine ae (λe=>?_) (λe=>?_)
 .have i:Az s.on=[.complex .f64 (nM s.ax s.sx) (nM s.ay s.sy),.complex .f64 s.sx s.sy,xH xN (s.left-1),xH xN s.leg,xL s.second]:=by rw[BJ.on,m6 e];rfl
  refine fin ?_;rw[i];exact d
 .refine⟨a,n5,(s.sx,s.sy),(d.box 0 n5).cell (j:=1) n5,(Vg s.sx s.sy B u G F w E z).I2 ?_⟩;refine⟨(tx s.sx s.sy,ty s.sx s.sy),n5,a,n5,?_⟩;refine d.storeAt ag 0 n5 n5 (off:=1) n5 n5 n5 (by simp[Az]) λM f=>?_;refine bs (λ_ h'=>aa (λb=>b<h.size/\¬b=a.block) h h' [an a 347 [.complex .f64 (nM s.ax s.sx) (nM s.ay s.sy),.complex .f64 (tx s.sx s.sy) (ty s.sx s.sy),xH xN (s.left-1),xH xN (if s.second then s.leg+1 else s.leg),xL s.second]]) ?_ ?_
  .refine⟨a,n5,s.second,(f.box 0 n5).cell (j:=4) n5,aT (λl=>?_) λl=>?_⟩
   .refine⟨a,n5,s.leg,(f.box 0 n5).cell (j:=3) n5,a,n5,?_⟩;rw[af (s.leg+1)];refine f.storeAt ag 0 n5 n5 (off:=3) n5 n5 n5 (by simp[Az]) λN D=>?_;rw[m6 l];exact D
   .rw[nq (by rw[l];decide)];exact f
  .rintro _ R q;refine⟨a,n5,s.second,(q.box 0 n5).cell (j:=4) n5,a,n5,?_⟩;refine q.storeAt ag 0 n5 n5 (off:=4) n5 n5 n5 oo λP t=>?_;refine⟨a,n5,_,(t.box 0 n5).cell (j:=3) n5,a,n5,?_⟩;refine t.storeAt ag 0 n5 n5 (off:=2) n5 n5 n5 oo λh8 J=>?_;have i:Az s.on=[.complex .f64 (nM s.ax s.sx) (nM s.ay s.sy),.complex .f64 (tx s.sx s.sy) (ty s.sx s.sy),xH xN (if s.second then s.leg+1 else s.leg),xH xN (if s.second then s.leg+1 else s.leg),xL (!s.second)]:=by rw[BJ.on,nq e];rfl
   refine fin ?_;rw[i];exact J
theorem Qh(n:Nat)(h:m5)(i:n<64):ak xR 248 #[xH xN n] h λv h'=>v=.complex .f64 (jx n).ax (jx n).ay/\Sp h h' []:=by
 refine ts Tryz.func248 ?_ (HF (.scope 0 [(4,aI)] [(2,3),(4,5),(12,23)] [G6,G6,G6] [G6] []));refine ae (λe=>n7) λ_=>ae (λe=>n7) λ_=>?_;refine(Sg h).mono ?_;rintro v l ⟨a,rfl,g⟩;refine⟨dB a,n5,?_⟩;refine aj (λk:Nat=>(k:Int)) (λk h'=>k<=n/\Sp h h' [an a 347 (Az (jx k))]) (λk=>n-k) 0 n5 ⟨n7,g⟩ ?_;rintro k f ⟨j,b⟩;refine be (λe=>?_) (λe=>?_)
 .have:k=n:=n7
  subst this;exact⟨a,n5,((jx k).ax,(jx k).ay),(b.box 0 n5).cell0 n5,n5,.zip b.ac⟩
 .refine(XM a (jx k) f (b.box 0 n5) (acS k n7)).I3 λh3 ⟨d,c⟩=>⟨(),n5,k+1,o0,⟨n7,b.nT 0 n5 c d⟩,n7⟩
theorem JJ{a b:Int}(c:-4<=a:=by omega)(e:a<=4:=by omega)(h3:-4<=b:=by omega)(d:b<=4:=by omega):gU.sub (cW a) (cW b)=dB (cW (a-b)):=by have:=abx (a+4).toNat n7 (b+4).toNat n7;rw[show((a+4).toNat:Int)-4=a by omega,show((b+4).toNat:Int)-4=b by omega,show((a+4).toNat:Int)-((b+4).toNat:Int)=a-b by omega]at this;exact this
theorem JK{a:Int}(b:-8<=a:=by omega)(c:a<=8:=by omega):gU.mul (cW a) (cW a)=dB (cW (a*a)):=by have:=aby (a+8).toNat n7;rw[show((a+8).toNat:Int)-8=a by omega]at this;exact this
theorem MK(a:Int):((a.natAbs:Nat):Int)*(a.natAbs:Nat)=a*a:=Int.natAbs_mul_self
theorem Vh{a b:Int}(c:-8<=a)(e:a<=8)(h3:-8<=b)(d:b<=8):gU.add (cW (a*a)) (cW (b*b))=dB (cW (a*a+b*b)):=by have:=abz a.natAbs n7 b.natAbs n7;rw[MK,MK]at this;exact this
def lM(i j:Nat):Int:=((bz i).x-(bz j).x)*((bz i).x-(bz j).x)+((bz i).y-(bz j).y)*((bz i).y-(bz j).y)
theorem KV{a:Int}(b:-8<=a)(c:a<=8):0<=a*a/\a*a<=64:=by rw[<-MK,<-zR];have:a.natAbs*a.natAbs<=8*8:=zr n7 n7;omega
theorem om{n:Nat}(h:n<64):(jx n).ax=cW (bz n).x/\(jx n).ay=cW (bz n).y/\-4<=(bz n).x/\(bz n).x<=4/\-4<=(bz n).y/\(bz n).y<=4:=by have:=abw n h;simp only[qC,decide_eq_true_eq,beq_iff_eq]at this;obtain⟨⟨⟨⟨⟨a,b⟩,c⟩,d⟩,e⟩,f⟩:=this;exact⟨a,b,c,d,e,f⟩
theorem Vi{i j:Nat}(d:i<64)(c:j<64):0<=lM i j/\lM i j<=128:=by have a:=om d;have b:=om c;have e:=KV (a:=(bz i).x-(bz j).x) n7 n7;have f:=KV (a:=(bz i).y-(bz j).y) n7 n7;unfold lM;omega
theorem XN(i j:Nat)(h:m5)(e:i<64)(f:j<64):ak xR 249 #[.complex .f64 (jx i).ax (jx i).ay,.complex .f64 (jx j).ax (jx j).ay] h λv h'=>v=.float .f64 (cW (lM i j))/\h'=h:=by
 have a:=om e;have b:=om f;refine ts Tryz.func249 ?_ (args:=[(.complex .f64 ((jx i).ax,(jx i).ay).1 ((jx i).ax,(jx i).ay).2),(.complex .f64 ((jx j).ax,(jx j).ay).1 ((jx j).ax,(jx j).ay).2)]);have c:gU.sub (jx i).ax (jx j).ax=dB (cW ((bz i).x-(bz j).x)):=by rw[a.1,b.1];exact JJ
 have d:gU.sub (jx i).ay (jx j).ay=dB (cW ((bz i).y-(bz j).y)):=by rw[a.2.1,b.2.1];exact JJ
 refine⟨(cW ((bz i).x-(bz j).x),cW ((bz i).y-(bz j).y)),ZS c d,_,JK,_,JK,_,Vh n7 n7 n7 n7,n5,n5⟩
abbrev oN:bS C.toAg 22 3 1 [xH xN 0] 8:=⟨_,_,n5,n5,n5,n5,n5,n5⟩
def mJ(a b:Int):Int:=if a<b then-1 else if a>b then 1 else 0
theorem ML(m:Nat)(h:m5)(a:m<129):ak xR 318 #[.float .f64 (cW (m:Nat))] h λv h'=>v=xL eY/\h'=h:=by refine ts Tryz.func318 ?_;have:=Uf m a m a;rw[show(FloatKind.format .f64).order (cW (m:Nat)) (cW (m:Nat))=dB (compare m m)from this,Nat.compare_eq_eq.2 rfl];exact⟨n5,n5⟩
theorem Vj(m n:Nat)(h:m5)(b:m<129)(c:n<129):ak xR 252 #[.float .f64 (cW (m:Nat)),.float .f64 (cW (n:Nat))] h λv h'=>v=xH xN (mJ m n)/\h'=h:=by
 refine ts Tryz.func252 ?_;refine(ML m h b).mono ?_;rintro v a ⟨rfl,rfl⟩;refine⟨_,n5,(ML n a c).I2 ?_⟩;refine⟨_,n5,aT (λe=>o1) λ_=>aT (λe=>o1) λ_=>?_⟩;have d:(FloatKind.format .f64).order (cW (m:Nat)) (cW (n:Nat))=dB (compare m n):=Uf m b n c;rw[d];rcases vP m n with a|a|a
 .rw[Nat.compare_eq_lt.2 a];refine aT (λ_=>⟨by rw[mJ,m6 n7],n5⟩) (λe=>o1)
 .subst a;rw[Nat.compare_eq_eq.2 rfl];refine aT (λe=>o1) λ_=>aT (λe=>o1) λ_=>⟨by rw[mJ,nq n7,nq n7],n5⟩
 .rw[Nat.compare_eq_gt.2 a];refine aT (λe=>o1) λ_=>aT (λ_=>⟨by rw[mJ,nq n7,m6 n7],n5⟩) (λe=>o1)
theorem JL(m:Int)(h:m5):ak xR 313 #[xH xN m] h λv h'=>v=xL eY/\h'=h:=by refine ts Tryz.func313 ?_;exact⟨oo,n5⟩
theorem Vk(m n:Int)(h:m5):ak xR 244 #[xH xN m,xH xN n] h λv h'=>v=xH xN (mJ m n)/\h'=h:=by refine ts Tryz.func244 ?_;refine(JL m h).mono ?_;rintro v b ⟨rfl,rfl⟩;refine⟨_,n5,(JL n b).I2 ?_⟩;refine⟨_,n5,aT (λe=>o1) λ_=>aT (λe=>o1) λ_=>?_⟩;refine ae (λe=>⟨by rw[mJ,m6 e],n5⟩) λe=>ae (λa=>⟨by rw[mJ,nq e,m6 a],n5⟩) λa=>⟨by rw[mJ,nq e,nq a],n5⟩
def Qi(a b:Int):Int:=if a≠0 then a else b
theorem aae(s:Sl)(a b:Int)(h:m5)(f:Rd h s 1 ar [a,b]):ak xR 243 #[s] h λv h'=>v=xH xN (Qi a b)/\h'=h:=by
 refine Aq s ?_;have m:s.len=2:=f.len;refine aj (λk:Nat=>(k:Int)) (λk h'=>h'=h/\k<=2/\(1<=k->a=0)/\(2<=k->b=0)) (λk=>2-k) 0 n5 ⟨n5,n7,n7,n7⟩ ?_;rintro k h' ⟨rfl,l,g,i⟩;refine ae (λe=>?_) (λe=>?_)
 .rcases(show k=0∨k=1 by omega)with rfl|rfl
  .refine f.aV 0 n5 oo a n5 ?_;refine bt (λc=>⟨by rw[Qi,m6 c],n5⟩) λc=>?_;exact⟨1,n5,⟨n5,n7,λ_=>c,n7⟩,n7⟩
  .refine f.aV 1 n5 oo b n5 ?_;have d:=g n7;refine bt (λc=>⟨by rw[Qi,nq Bk],n5⟩) λc=>?_;exact⟨2,n5,⟨n5,n7,λ_=>d,λ_=>c⟩,n7⟩
 .have d:=g n7;have j:=i n7;exact⟨by rw[Qi,nq Bk,j],n5⟩
abbrev Fr:=Int×Fin 129
def uj(x:Fr):aS:=[xH xN x.1,.float .f64 (cW ((x.2:Nat):Int))]
def oO(x y:Fr):Int:=Qi (mJ (x.2:Nat) (y.2:Nat)) (mJ x.1 y.1)
theorem MM(x y:Fr)(h:m5):ak xR 251 #[xM (uj x).toArray,xM (uj y).toArray] h λv h'=>v=xH xN (oO x y)/\aQ (λb=>b<h.size) h h':=by
 refine ts Tryz.func251 ?_ G6 [(1,(.l [0,1,2,3,5,6,7,8,4,9,10,11,12]))] (args:=[(xM #[(x.1,cW ((x.2:Nat):Int)).1,(.float .f64 (x.1,cW ((x.2:Nat):Int)).2)]),(xM #[(y.1,cW ((y.2:Nat):Int)).1,(.float .f64 (y.1,cW ((y.2:Nat):Int)).2)])]);refine(Sp.refl h).boxed (t:=288) λa k f=>?_;refine f.boxed (t:=288) λb e c=>?_;refine⟨_,(c.box 0 n5).cell (j:=1) n5,_,(c.box 1 n5).cell (j:=1) n5,_,(c.box 0 n5).cell0 n5,_,(c.box 1 n5).cell0 n5,?_⟩;refine(Vj x.2 y.2 e x.2.isLt y.2.isLt).mono ?_;rintro v h3 ⟨rfl,rfl⟩;refine⟨_,n5,⟨(c.box 1 n5).cell0 n5,(c.box 0 n5).cell0 n5,I6⟩,(Vk _ _ h3).mono ?_⟩;rintro v i ⟨rfl,rfl⟩;refine⟨_,n5,I6,?_⟩;refine c.lit ag ar oN n5 [mJ (x.2:Nat) (y.2:Nat),mJ x.1 y.1] n5 (show 2*1<=2^20 by decide) n5 λs g d=>⟨I6,?_⟩
 refine(aae s _ _ g (d.seq 2 n5 λ_=>rfl)).I2 ⟨_,n5,I6,n5,d.ac⟩
theorem Qj{a b:Int}:mJ a b<0↔a<b:=by unfold mJ;split<;>(try split)<;>omega
theorem JM{a b:Int}:mJ a b=0↔a=b:=by unfold mJ;split<;>(try split)<;>omega
theorem Sh{x y:Fr}:ltOf oO x y=eX↔((x.2:Nat):Int)<(y.2:Nat)∨(((x.2:Nat):Int)=(y.2:Nat)/\x.1<y.1):=by
 have h0:ltOf oO x y=eX↔oO x y<0:=by simp[ltOf]
 rw[h0,oO,Qi];by_cases h:mJ (x.2:Nat) (y.2:Nat)=0
 .rw[nq (by simp[h]),Qj];have:=JM.1 h;constructor
  .exactλa=>.inr ⟨this,a⟩
  .rintro(a|a)
   .omega
   .exact a.2
 .rw[m6 h,Qj];have b:((x.2:Nat):Int)≠(y.2:Nat):=λe=>h (JM.2 e);constructor
  .exact .inl
  .rintro(a|a)
   .exact a
   .exact absurd a.1 b
theorem oq{x y:Fr}:ltOf oO x y=eY↔¬(((x.2:Nat):Int)<(y.2:Nat)∨(((x.2:Nat):Int)=(y.2:Nat)/\x.1<y.1)):=by rw[<-Sh];simp
theorem acg:Sort.SWO (ltOf oO) where
 irrefl x:=oq.2 n7
 trans x y z h1 h2:=by rw[Sh]at*;omega
 ntrans x y z h1 h2:=by rw[oq]at*;omega
theorem ach(x y:Fr)(a:ltOf oO x y=eY)(b:ltOf oO y x=eY):x=y:=by rw[oq]at a b;refine Prod.ext n7 (Fin.ext n7)
theorem MN{e:TypeId}{s:Sl}{l:List Fr}{h:m5}(j:Own h e s 2 uj l)(a:n4 l<2^40):
  ak xR 250 #[s,.func (.func 251) #[] #[]] h λv h'=>v=.tuple #[]/\Own h' e s 2 uj (l.mergeSort λx y=>!(ltOf oO) y x)/\aQ (λb=>¬s.on b) h h':=by
 have i:∀x:Fr,n4 (uj x)=2:=λ_=>rfl;refine Kg (P:=xR) (id_:=250) (g:=251) (enc:=uj) (k:=2) (cf:=oO) i ?_ ?_ (λx y h=>MM x y h) j a
 .intro c cap l w f m o n;have:=AnyQ.slices_SortFunc_total Tryz.Qa 2 Tryz.abH Tryz.ZZ uj (λ_=>rfl) (λx v d=>by simp[uj]at d;rcases d with rfl|rfl<;>rfl) oO acg 251 #[] c 0 cap l.toArray w (enters_of Tryz.aaa o5 n5) B4 m o D2 ach;simp at this;exact this
 .intro p cap w;exact AnyF.slices_SortFunc_none Tryz.Qa p cap _ w
def oP(a:aC)(n:Int):aC:=if 0<=n/\n<64/\a.contains n=eY then a++[n]else a
def eK(l:aC):aC:=l.foldl oP []
theorem rJ(l:aC){k:Nat}(a:k<n4 l:=by omega):eK (l.take (k+1))=oP (eK (l.take k)) l[k]:=by rw[eK,az _ _ a,List.foldl_append];rfl
theorem FQ(l:aC):∀k,k<=n4 l->∀x,x∈eK (l.take k)↔x∈l.take k/\0<=x/\x<64
 |0,_,x=>by simp[eK]
 |k+1,hk,x=>by
  have c:=FQ l k n7;rw[rJ l,az _ _ (show k<n4 l by omega),oP];by_cases h:0<=l[k]/\l[k]<64/\(eK (l.take k)).contains l[k]=eY
  .rw[m6 h,qx,qx,qB,c x];constructor
   .rintro(a|rfl)
    .exact⟨.inl a.1,a.2⟩
    .exact⟨.inr n5,h.1,h.2.1⟩
   .rintro⟨a|a,b⟩
    .exact .inl ⟨a,b⟩
    .exact .inr a
  .rw[nq h,qx,qB,c x];constructor
   .rintro a;exact⟨.inl a.1,a.2⟩
   .rintro⟨a|rfl,b⟩
    .exact⟨a,b⟩
    .have:(eK (l.take k)).contains l[k]=eX:=by
      cases hc:(eK (l.take k)).contains l[k]with
      |true=>rfl
      |false=>exact absurd ⟨b.1,b.2,hc⟩ h
     exact(c _).1 (by simpa using this)
theorem Hj(l:aC):∀k,k<=n4 l->(eK (l.take k)).Nodup
 |0,_=>by simp[eK]
 |k+1,hk=>by
  have c:=Hj l k n7;rw[rJ l,oP];split
  .rename_i h;rw[List.nodup_append];refine⟨c,oo,λa d b e=>?_⟩;rw[qB.1 e];rintro rfl;have:=h.2.2;rw[vo]at this;simp[d]at this
  .exact c
theorem MO(l:aC)(k:Nat):n4 (eK (l.take k))<=k:=by
 induction k with
 |zero=>simp[eK]
 |succ k ih=>
  by_cases a:k<n4 l
  .rw[rJ l a,oP];split
   .simp;omega
   .omega
  .rw[qf n7]at ih⊢;omega
def sj(c:Nat)(n:Int):Fr:=(n,Fin.ofNat 129 (lM n.toNat c).toNat)
theorem MP{c:Nat}{n:Int}(a:c<64)(b:0<=n)(d:n<64):(((sj c n).2:Nat):Int)=lM n.toNat c:=by have:=Vi (i:=n.toNat) (j:=c) n7 a;show(((lM n.toNat c).toNat%129:Nat):Int)=_;omega
def nu(c:Nat)(l:aC):aC:=(((eK l).map (sj c)).mergeSort λx y=>!(ltOf oO) y x).map (·.1)
def jg(a block:Int)(l:aC):aC:=if 0<=a/\a<=16777215/\0<=block/\block<8 then nu ((8*a+block)%64).toNat l else[]
def rf(a:aC):aS:=(qy 64).map λi:Nat=>xL (a.contains (i:Int))
theorem aaf(a:aC){n:Int}(c:0<=n)(b:n<64):(rf a)[n.toNat]?=dB (xL (a.contains n)):=by rw[rf,qM,zq n7,zn,show((n.toNat:Nat):Int)=n by omega]
theorem XO(a:aC){n:Int}(c:0<=n)(d:n<64):(rf a).set n.toNat (xL eX)=rf (a++[n]):=by
 apply zp;intro i;rw[qW,rf,rf,qM,qM,qm,zL];by_cases b:i<64
 .rw[zq b,zn,zn];by_cases h:n.toNat=i
  .rw[m6 h,m6 n7,show((i:Nat):Int)=n by omega];simp
  .rw[nq h];have:(a++[n]).contains (i:Int)=a.contains (i:Int):=by rw[vo,vo];simp;omega
   rw[this]
 .rw[nq n7,zf oi];rfl
abbrev eFr:bS C.toAg 284 288 2 [xH xN 0,.float .f64 0] 16:=⟨_,_,n5,n5,n5,n5,n5,n5⟩
theorem aci:∀x,∀c∈uj x,c.oneCell'=eX:=by intro x c a;simp[uj]at a;rcases a with rfl|rfl<;>rfl
theorem OJ(b block:Int)(live:Sl)(l:aC)(h:m5)(V:Rd h live 1 ar l)(ah:n4 l<=2^30):
  ak xR 178 #[xH xN b,xH xN block,live] h λv h'=>∃r:Sl,v=r/\Sp h h' [ai 3 r 1 ar (jg b block l)]:=by
 have ad:=V.len;refine ts Tryz.func178 ?_ (HF (I1 [] [(6,7),(15,29)] (HF (HF (HF (G0 (HF (G7 (G9 [(8,bK),(37,aI)] [(8,9),(11,12),(37,65)] (HF (HF (G0 (G7 (HF (I1 [(52,oe)] [(41,53)] G6))) G6)))))) (HF (HF (I0 [(12,bK),(69,aI)] [(12,13),(14,15),(69,79)])))))))));have G:¬(0<=b/\b<=16777215/\0<=block/\block<8)->∃r:Sl,Value.slice eH 0 0=xI r.ptr r.len r.cap/\Sp h h [ai 3 r 1 ar (jg b block l)]:=λP=>by
  rw[jg,nq P];exact⟨⟨eH,0,0⟩,n5,(Sp.refl h).nil 3 1 ar⟩
 refine aE (ae (λe=>G n7) λe1=>ae (λe=>G n7) λe2=>ae (λe=>G n7) λe3=>ae (λe=>G n7) λe4=>?_);have R:0<=b/\b<=16777215/\0<=block/\block<8:=n7
 rw[jg,m6 R];rw[af (8*b),af (8*b+block),zS n7];obtain⟨c,hc⟩:∃c:Nat,(8*b+block)%64=c:=⟨((8*b+block)%64).toNat,n7⟩
 have j:c<64:=n7
 rw[hc,qi];refine⟨n8,(Qh c h j).mono ?_⟩;rintro v h2 ⟨rfl,R2⟩;refine⟨((jx c).ax,(jx c).ay),n5,?_⟩;refine R2.alloc ag n5 λa h3 H3=>?_;have L:Sp h h3 [an a 232 (rf []),ai 288 ⟨eH,0,0⟩ 2 uj []]:=H3.nil 288 2 uj;refine aj (λt:Sl×Nat=>(t.1,(t.2:Int))) (λt h'=>t.2<=n4 l/\Sp h h' [an a 232 (rf (eK (l.take t.2))),ai 288 t.1 2 uj ((eK (l.take t.2)).map (sj c))]) (λt=>n4 l-t.2) (⟨eH,0,0⟩,0) n5 ⟨oo,L⟩ ?_;rintro⟨s,k⟩ h4 ⟨hk,q⟩;dsimp only at*;have E:=MO l k;refine ae (λe=>?_) (λe=>?_)
 .have z:k<n4 l:=n7
  have F:=rJ l z;obtain⟨f,w⟩:=I5 (eK (l.take k))
  rw[<-w]at q E F;refine(Seq.up V q.ac).aV k n5 z _ n5 ?_;obtain⟨x,W⟩:=I5 (l[k])
  rw[<-W]at F⊢;refine bs (λt h'=>(t=eX↔0<=x/\x<64/\f.contains x=eY)/\h'=h4) ?_ ?_
  .refine ae (λp=>ae (λm=>?_) λm=>⟨⟨λe=>o1,λB=>absurd B.2.1 m⟩,n5⟩) λp=>⟨⟨λe=>o1,λB=>absurd B.1 p⟩,n5⟩;refine⟨⟨p,m⟩,f.contains x,?_,?_,n5⟩
   .rw[zG];exact(q.box 0 n5).cell (aaf f p m)
   .cases f.contains x<;>simp<;>omega
  .rintro t Z ⟨T,rfl⟩;refine aT (λe=>?_) (λe=>?_)
   .obtain⟨p,m,x2⟩:=T.1 e;refine⟨⟨p,m⟩,?_⟩;rw[zG];refine q.storeAt ag 0 n5 n5 n5 n5 n5 (by simp[rf];omega) λS u=>?_;have N:Sp h S [an a 232 (rf (f++[x])),ai 288 s 2 uj (f.map (sj c))]:=by rw[<-XO f p m];exact u
    obtain⟨n,P⟩:∃n:Nat,x=n:=⟨x.toNat,n7⟩
    subst P;refine(Qh n S n7).mono ?_;rintro v U ⟨rfl,R7⟩;refine⟨((jx n).ax,(jx n).ay),n5,(XN n c U n7 j).mono ?_⟩;rintro v h8 ⟨rfl,rfl⟩;have H:=N.up R7.ac;have ev:cW (lM n c)=cW (((sj c (n:Int)).2:Nat):Int):=by rw[MP j n7 n7,qi]
    refine⟨_,n5,?_⟩;rw[ev];refine H.push ag 1 n5 eFr n5 n8 (λ_=>rfl) aci (sj c (n:Int)) n5 n8 oi λX h9 J=>?_;refine⟨(X,k+1),oj,⟨n9,?_⟩,n9⟩
    try dsimp only
    rw[F,oP,m6 ⟨p,m,x2⟩,qF];exact J
   .refine⟨(s,k+1),oj,⟨n9,?_⟩,n9⟩
    try dsimp only
    rw[F,oP,nq λB=>by rw[T.2 B]at e;cases e];exact q
 have Q:k=n4 l:=n7
 subst Q;rw[qt]at q E;refine(MN (q.own 1 n5) oi).I3 λZ ⟨O,K⟩=>?_;have I:=q.nS 1 n5 K O;obtain⟨d,g⟩:=I5 (((eK l).map (sj c)).mergeSort λx y=>!(ltOf oO) y x)
 have Y:n4 d=n4 (eK l):=by rw[g,wP,qm]
 have eo:nu c l=d.map (·.1):=by rw[nu,<-g]
 rw[<-g]at I;have ab:=(I.own 1 n5).len;rw[eo];refine⟨(),n5,?_⟩;refine aj (λt:Sl×Nat=>(t.1,(t.2:Int))) (λt h'=>t.2<=n4 d/\Sp h h' [ai 288 s 2 uj d,ai 3 t.1 1 ar ((d.take t.2).map (·.1))]) (λt=>n4 d-t.2) (⟨eH,0,0⟩,0) n5 ⟨oo,(I.del 0).nil 3 1 ar⟩ ?_;rintro⟨o,i⟩ S ⟨M,u⟩;dsimp only at*;refine ae (λe=>?_) (λe=>?_)
 .have D:i<n4 d:=n7
  refine(u.seq 0 n5 λ_=>rfl).cG i n5 D (d[i].1,cW ((d[i].2:Nat):Int)) n5 ?_;refine u.alloc ag n5 λy U H7=>?_;refine H7.storeAll ag 2 n5 n5 [xH xN d[i].1,.float .f64 (cW ((d[i].2:Nat):Int))] n5 n5 n5 n5 λh8 H=>?_;refine⟨d[i].1,(H.box 2 n5).cell0 n5,?_⟩;refine H.push ag 1 n5 oN n5 n8 (λ_=>rfl) db d[i].1 n5 n8 oi λo' h9 J=>?_;refine⟨(o',i+1),oj,⟨n9,?_⟩,n9⟩
  try dsimp only
  rw[az _ _ D,qF];exact J.del 2
 .rw[qf n7]at u;exact⟨o,n5,u.take 1 λi A M=>by cases i with|zero=>exact M|succ i=>simp at M⟩
def gC(c:Nat)(a b:Int):Prop:=lM a.toNat c<lM b.toNat c∨(lM a.toNat c=lM b.toNat c/\a<b)
theorem MQ(l:aC)(x:Int):x∈eK l↔x∈l/\0<=x/\x<64:=by
 have:=FQ l l.length (qj _) x
 rwa [qt]at this
theorem aag(l:aC):(eK l).Nodup:=by
 have:=Hj l l.length (qj _)
 rwa [qt]at this
theorem Bo(c:Nat)(l:aC):(nu c l).Perm (eK l):=by have h:=(wc ((eK l).map (sj c)) λx y=>!(ltOf oO) y x).map (·.1);rw[y0]at h;have e:((λx:Fr=>x.1)∘sj c)=id:=rfl;rw[e,List.map_id]at h;exact h
theorem Vl(c:Nat)(l:aC)(x:Int):x∈nu c l↔x∈l/\0<=x/\x<64:=by rw[(Bo c l).mem_iff,MQ]
theorem XP(c:Nat)(l:aC):(nu c l).Nodup:=(Bo c l).nodup_iff.2 (aag l)
theorem MR(c:Nat)(l:aC)(g:c<64):(nu c l).Pairwise (gC c):=by
 have h:=wC (le:=λx y:Fr=>!(ltOf oO) y x) (by
  intro a b d f q;simp only[w7,oq]at*;omega) (by
  intro a b;cases f:ltOf oO b a with
  |false=>rfl
  |true=>
   have:ltOf oO a b=eY:=by rw[Sh]at f;rw[oq];omega
   rw[this];rfl) ((eK l).map (sj c))
 have i:∀x∈((eK l).map (sj c)).mergeSort λx y:Fr=>!(ltOf oO) y x,x=sj c x.1/\0<=x.1/\x.1<64:=λx j=>by
  have:=(wc _ _).mem_iff.1 j;obtain⟨n,r,rfl⟩:=qI.1 this;exact⟨n5,((MQ l n).1 r).2⟩
 have e:=XP c l;unfold nu at e⊢;rw[vh];rw[List.nodup_iff_pairwise_ne,vh]at e;refine(h.and e).imp_of_mem λ{a b} ha hb hh=>?_;obtain⟨t,a0,o⟩:=i a ha;obtain⟨s,p,k⟩:=i b hb;have f:=hh.1;simp only[w7,oq]at f;have u:=MP g a0 o;have m:=MP g p k;rw[<-t]at u;rw[<-s]at m;have q:=hh.2;unfold gC;omega
theorem MS{c:Nat}{l o:aC}(d:c<64)(h:o.Perm (eK l))(f:o.Pairwise (gC c)):nu c l=o:=by refine((Bo c l).trans h.symm).eq_of_pairwise (le:=gC c) ?_ (MR c l d) f;intro a b _ _ e g;unfold gC at e g;omega
def KW(l:aC)(i:Nat):Int:=l.getD i 0
def nv(o:aC)(id:Int):Int:=if o=[]∨id<0 then-1 else KW o (id%(n4 o:Int)).toNat
theorem aah(s:Sl)(o:aC)(id:Int)(h:m5)(g:Rd h s 1 ar o):ak xR 180 #[s,xH xN id] h λv h'=>v=xH xN (nv o id)/\h'=h:=by
 have f:=g.len;refine ts Tryz.func180 ?_ (HF (I1 [] [(4,12)] G6));refine aE (be (λe=>⟨by rw[nv,m6 (.inl (qQ n7))],n5⟩) λe=>ae (λb=>⟨by rw[nv,m6 (.inr b)],n5⟩) λb=>?_);refine⟨e,?_⟩;have c:¬(o=[]∨id<0):=by
  rintro(rfl|h2)
  .simp at f;omega
  .exact b h2
 have d:xz id ((s.len:Nat):Int)=((id%(n4 o:Int)).toNat:Int):=by rw[zS n7,f];have:=yx id (show(n4 o:Int)≠0 by omega);omega
 have a:(id%(n4 o:Int)).toNat<n4 o:=by have:=wj id (show(0:Int)<n4 o by omega);omega
 rw[d];refine g.aV _ n5 a _ n5 ⟨?_,n5⟩;rw[nv,nq c,KW,qg,qd a];rfl
def Bp(p:Pm)(seed:Int)(d:Row)(id:Int):aR:=if bP id then jN p.2.2.toNat (jZ p seed d) (dZ (bD p).toNat seed id)else[]
def Si(m:aB)(o b seed:Int)(d:Row)(id:Int):ck:=⟨o,b,id,m.p,seed,Bp m.p seed d id⟩
def mK(m:aB)(o b seed:Int)(d:Row)(a:aC)(id:Int):Int×aR:=(nv a id,gc (Si m o b seed d id))
def nw(m:aB)(o:Int)(tries:aC)(bl:dP)(live:aC)(i:Nat):List (Int×aR):=
 (qy (m.p.1+m.extra).toNat).map λid:Nat=>mK m o i (fl o i (tries.getD i 0)) (bl.getD i []) (jg o i live) id
def dt(m:aB)(o:Int)(tries:aC)(bl:dP)(live:aC)(n:Nat):List (Int×aR):=(qy n).flatMap (nw m o tries bl live)
theorem lT(m:aB)(o:Int)(tries:aC)(bl:dP)(live:aC)(n:Nat):dt m o tries bl live (n+1)=dt m o tries bl live n++nw m o tries bl live n:=by unfold dt;rw[zC,za,zm,zW,qL]
theorem Bq(m:aB)(o:Int)(tries:aC)(bl:dP)(live:aC)(i:Nat):n4 (nw m o tries bl live i)=(m.p.1+m.extra).toNat:=by simp[nw]
theorem mL(m:aB)(o:Int)(tries:aC)(bl:dP)(live:aC):∀n,n4 (dt m o tries bl live n)=n*(m.p.1+m.extra).toNat
 |0=>by simp[dt]
 |n+1=>by rw[lT,qo,mL m o tries bl live n,Bq,zU]
theorem ER(o b t:Int):0<=fl o b t/\fl o b t<4294967296:=by unfold fl;omega
section
variable {pw:hU}
theorem Km(x:bi)(m:aB)(xe:dH)(e:Qw.cT)(s:Sl)(b:aR)(hS:St B h0 As λh=>ct h x m/\eN gH h xe e/\Rd h s 1 aq b)(cn:s.len<=s.cap)(hz:bM m)(S:bH m.p=eX)(du:0<=m.extra/\m.extra<=16)(dk:b.length<=2^20)
  (ht:cR m.p e.object (splitB m.p b).length=dB e.tries) (H:aa B h0 h (aJ bN a pw (aD x) offs da w ds::As)):
  ak xR 97 #[xJ (dB a),MH xe,s] h λv h'=>∃(r:Sl) (ys:List (Int×Sl)),v=.tuple #[r,xL eX]/\
   aa B h0 h' (aJ bN a pw (aD x) offs da w ds::ci dR 2 piv r ys (dt m e.object e.tries (splitB m.p b) (aY ds m.drives) (splitB m.p b).length)::As):=by
 refine ts Tryz.func97 ?_ (HF (HF (HF (G0 (HF (G7 (G9 [(9,bK),(28,aI)] [(6,8),(9,18),(28,100)] (HF (HF (G0 (G7 (HF (HF (HF (HF (HF (HF (G7 (G9 [(9,bK),(72,aI)] [(9,10),(16,18),(72,99)] (HF (HF (G0 (G7 (HF (I1 [(17,(.sc .adr))] [(17,18),(75,89)] G6))) G6)))))))))))) G6)))))) G6)))) [(14,(.y [0,1,2,3,4,5,6,7,8,9,10,11] (.l [12,13,14,15]) (.l [14,12,13,15]))),(15,(.l [0,1,2,4,3,5,6,7,8,9]))] (args:=[(dB a),xe,s]);refine H.boxed λa1 h1 H1=>?_;have H1:=H1.bc;have H1:=H1.aG 2 [1,0];refine(eW x m (hS.at [_,_] H1).1 hz H1).I4 λlv h2 R2=>?_;have H2:=(H1.bQ R2).aG 3 [1,0,2];obtain⟨ok,X⟩:=aa.cw H2;obtain⟨b1,c9,cf⟩:=hS.at [_,_,_] H2;have U:(x.2.2.1,x.2.2.2.1,x.2.2.2.2.1)=m.p:=b1.p;have c0:=(bI m.p).1 S;obtain⟨s1,s2,s3⟩:=gZ S;obtain⟨c1,c2,c3⟩:=kg S b.length;have b9:(aY ds m.drives).length<=m.drives.length:=qH _ _;have dd:=hz.dr;obtain⟨live,Y⟩:=I5 (aY ds m.drives)
 rw[<-Y]at H2 b9⊢;obtain⟨bl,F⟩:=I5 (splitB m.p b)
 have cc:bl.length<=2^20:=by rw[F];unfold splitB;simp;omega
 have ah:∀r∈bl,r.length=cN m.p:=by rw[F];intro r hr;unfold splitB at hr;obtain⟨i,_,rfl⟩:=qI.1 hr;exact JC _ _ _
 refine⟨lv,n5,a,n5,(x.2.2.1,x.2.2.2.1,x.2.2.2.2.1),⟨by rw[addr_add];exact X.cell n5,by rw[addr_add];exact X.cell n5,by rw[addr_add];exact X.cell n5,I6⟩,?_⟩;rw[U];refine(Ot m.p s b h2 S cf cn n7).I4 λq h3 R3=>?_;rw[<-F]at R3 ht⊢;obtain⟨rs,H3⟩:=Qw.aa.GR (H2.bQ R3) λ_=>rfl;have H3:=(H3.LI 142 2 piv dR).bc;have H3:=H3.aG 5 [2,0,1,3,4];have d1:=(H3.dg 2 n5).1.len;have c4:=(H3.dg 2 n5).2.1;have dy:=kz ht;refine⟨q,n5,?_⟩;obtain⟨j,J⟩:∃j:Nat,j=(m.p.1+m.extra).toNat:=⟨_,rfl⟩
 have N:j<=32:=n7
 refine aj (λt:Sl×Nat=>(t.1,(t.2:Int))) (λt h'=>t.2<=bl.length/\aa B h0 h' (aJ bN a pw (aD x) offs da w ds::dK 142 t.1 2 piv dR (dt m e.object e.tries bl live t.2)::ci (fV 1 aq) 1 bv q rs bl::ai 3 lv 1 ar live::an a1 83 (bg xe)::As)) (λt=>bl.length-t.2) (⟨eH,0,0⟩,0) n5 ⟨oo,H3⟩ ?_;rintro⟨o,i⟩ h4 ⟨hi,H4⟩;dsimp only at*;refine ae (λe1=>?_) (λe1=>?_)
 .have ao:i<bl.length:=n7
  have F4:=H4.dg 2 n5;have ab:=H4.box 4 n5;obtain⟨br,a2,d5⟩:=hS.at [_,_,_,_,_] H4;obtain⟨_,cr⟩:=aa.cw H4;obtain⟨t,a6,b6⟩:=Df ht i n7;have a8:e.tries.getD i 0=(t:Int):=by rw[qg,qd n7];exact a6
  have b2:bl.getD i []=bl[i]:=by rw[qg,qd ao];rfl
  have O:∀{h':m5},bV h' a1 83 (bg xe)->hY h' (a1.add 1)=dB (xH xN e.object):=λ{h'} hb=>by rw[<-a2.1.2.1];exact hb.cell n5
  have cp:∀{h':m5},bV h' a 105 (cZ (aD x) pw offs da)->aZ h' (a.add 2) 0 [xH xN m.p.1,xH xN m.p.2.1,xH xN m.p.2.2]:=λ{h'} hb=>by
   rw[<-U];exact⟨o8,o8,o8,I6⟩
  have a0:=Fix.row F4 ao;refine F4.1.aV i n5 n7 (rs[i]'n7) n5 ?_;refine⟨e.object,O ab,xe.2.2.2,ab.cell n5,?_⟩;refine Seq.aV (f:=ar) a2.2 i n5 n7 (t:Int) (by rw[a6];rfl) ?_;refine(sG _ _ _ h4).I2 ⟨_,n5,⟨ab.cell n5,I6⟩,a,n5,m.p,cp cr,?_⟩;obtain⟨seed,k⟩:=I5 (fl e.object i t)
  have hg:=(De b6).2.1;have V:fy m.p seed (fh m.p)=eX:=by rw[k];exact hg
  obtain⟨K,Hh,w',n,BK⟩:=YV (seed:=seed) (d:=bl[i]) S V (by rw[ah _ (qe ao),s3]);rw[<-k];refine(acf BK (rs[i]'n7) _ a0.1 a0.2).mono ?_;rintro _ h6 ⟨bk,mm,rfl,R6⟩;have H6:=(H4.comp R6).front;have H6:=H6.aG 7 [2,3,4,5,6,0,1];refine⟨(dB bk,0),n5,bt (λe2=>absurd n5 e2) λ_=>?_⟩;have ca:=H6.box 4 n5;refine⟨e.object,O ca,(OJ e.object i lv live h6 (H6.seq 3 n5 λ_=>rfl) n7).I4 λL h7 R7=>?_⟩;have H7:=(H6.bQ R7).aG 8 [1,2,3,4,5,6,7,0];obtain⟨c,A⟩:=I5 (jg e.object i live)
  rw[<-A]at H7;have a3:=(aa.cw H7).2;have b5:x.2.2.1=m.p.1:=congrArg (·.1) U;refine⟨L,n5,a,n5,x.2.2.1,a3.cell n5,a,n5,x.2.2.2.2.2.1,a3.cell n5,?_⟩;have en:qc xN (x.2.2.1+x.2.2.2.2.2.1)=(j:Int):=by rw[b5,br.extra,af _];omega
  try dsimp only
  rw[en];have R:nw m e.object e.tries bl live i=(qy j).map λid:Nat=>mK m e.object i seed bl[i] c id:=by unfold nw;rw[a8,b2,<-k,<-A,<-J]
  have cq:(nw m e.object e.tries bl live i).length=j:=by rw[Bq,<-J]
  obtain⟨I,E⟩:=I5 (dt m e.object e.tries bl live i)
  have d3:I.length<=2^26:=by rw[E,mL,<-J];have:=zr (show i<=2^20 by omega) N;omega
  obtain⟨Q,hQ⟩:=I5 (nw m e.object e.tries bl live i)
  rw[<-hQ]at R cq;rw[<-E]at H7;refine aj (λt:Sl×Nat=>(t.1,(t.2:Int))) (λt h'=>t.2<=j/\aa B h0 h' (aJ bN a pw (aD x) offs da w ds::dK 142 t.1 2 piv dR (I++Q.take t.2)::ci (fV 1 aq) 1 bv q rs bl::ai 3 lv 1 ar live::an a1 83 (bg xe)::dw 41 mm 1 aq (jZ m.p seed bl[i])::an bk 281 (si m.p seed mm)::ai 3 L 1 ar c::As)) (λt=>j-t.2) (o,0) n5 ⟨oo,by simpa using H7⟩ ?_;rintro⟨o2,id⟩ h8 ⟨hid,P⟩;dsimp only at*;refine ae (λe3=>?_) λe3=>?_
  .have cs:id<j:=n7
   have al:=P.box 4 n5;have ay:=(aa.cw P).2;have G:ID h8 bk m.p seed (jZ m.p seed bl[i]):=⟨mm,P.box 6 n5,P.ov 5 n5⟩
   have T:Bp m.p seed bl[i] id=if bP id then jN w' (jZ m.p seed bl[i]) (dZ n seed id)else[]:=by unfold Bp;rw[BK.sA,show m.p.2.2.toNat=w' by have:=BK.s;omega]
   have held:∀{h':m5},aQ (λb=>b<h8.size) h8 h'->bx.ok [((a.add 2),xH xN m.p.1),((a.add 2).add 1,xH xN m.p.2.1),((a.add 2).add 2,xH xN m.p.2.2),(a1.add 1,xH xN e.object)] h':=λ{h'} S=>by
    obtain⟨q1,q2,q3,_⟩:=cp (ay.ac S ay.lt);exact⟨q1,q2,q3,O (al.ac S al.lt),I6⟩
   refine bs (λ(a5:hU) h'=>∃r:Sl,aa B h0 h' (an a5 128 (bB (e.object,(i:Int),(id:Int),m.p.1,m.p.2.1,m.p.2.2,seed,r))::ai 5 r 1 aq (Bp m.p seed bl[i] id)::aJ bN a pw (aD x) offs da w ds::dK 142 o2 2 piv dR (I++Q.take id)::ci (fV 1 aq) 1 bv q rs bl::ai 3 lv 1 ar live::an a1 83 (bg xe)::dw 41 mm 1 aq (jZ m.p seed bl[i])::an bk 281 (si m.p seed mm)::ai 3 L 1 ar c::As)) ?_ ?_
   .refine⟨e.object,O al,a,n5,m.p,cp ay,?_,?_⟩
    .refine(BK.symbol bk id h8 G).I4 λr h9 R9=>?_;rw[<-T]at R9;have H9:=P.bQ R9;refine⟨r,n5,held R9.ac,H9.tE ag n5 λa28 d0 b0 W=>⟨held (aa.up R9 b0).ac,?_⟩⟩;have W:=W.bc;refine W.storeAll ag 0 n5 n5 (bB (e.object,(i:Int),(id:Int),m.p.1,m.p.2.1,m.p.2.2,seed,r)) n5 n5 n5 n5 λd2 a9=>⟨I6,r,a9⟩
    .refine P.tE ag n5 λd4 b7 ad Z=>⟨held ad,?_⟩
     have Z:=Z.bc;refine(BK.symbol bk id b7 (G.up ad)).I4 λr c6 ax=>?_;rw[<-T]at ax;have b4:=(Z.bQ ax).aG 2 [1,0];refine⟨r,n5,held (aa.up (Sp.zip ad) ax.ac).ac,?_⟩;refine b4.storeAll ag 0 n5 n5 (bB (e.object,(i:Int),(id:Int),m.p.1,m.p.2.1,m.p.2.2,seed,r)) n5 n5 n5 n5 λc8 bd=>⟨I6,r,bd⟩
   .rintro a5 bq ⟨r,M⟩;have g:=M.box 0 n5;have am:=ER e.object i t;rw[<-k]at am;refine⟨(e.object,(i:Int),(id:Int),m.p.1,m.p.2.1,m.p.2.2,seed,r),g.aw _ n5,(aah L c id bq (M.seq 9 n5 λ_=>rfl)).mono ?_⟩;rintro _ b3 ⟨rfl,rfl⟩;refine⟨_,n5,⟨g.cell0 n5,g.cell n5,g.cell n5,g.cell n5,g.cell n5,g.cell n5,g.cell n5,g.cell n5,I6⟩,?_⟩;refine(wO (e.object,(i:Int),(id:Int),m.p.1,m.p.2.1,m.p.2.2,seed,r) (Si m e.object i seed bl[i] id) b3 ⟨⟨n5,n5,n5,n5,n5,am.1,am.2⟩,M.seq 1 n5 λ_=>rfl⟩).I4 λu c7 cd=>?_;have a4:=(M.bQ cd).dW 0 n5 (D:=EA dR (nv c id,u) (mK m e.object i seed bl[i] c id)) λz hz=>⟨n5,hz.1.seq (λ_=>rfl) hz.2⟩
    have a7:Q[id]'n7=mK m e.object i seed bl[i] c id:=by simp[R]
    refine⟨u,n5,I6,?_⟩;refine a4.ke ag piv Ms n5 [(nv c id,u)] n5 (show 1*2<=2^20 by decide) n5 I6 ?_;refine aa.DT ag a4 4 0 n8 (a:=(nv c id,u)) n5 n5 Ms n5 n8 (λ_=>rfl) sY (parts:=#[(0,xM #[xH xN (nv c id),u])]) o5 n8 oi λo3 dx bb=>⟨I6,?_⟩
    refine⟨(o3,id+1),oj,⟨n9,?_⟩,n9⟩
    try dsimp only
    rw[az Q id,a7,<-ql];exact bb.rest.rest.rest
  .have ap:id=j:=n7
   subst ap;rw[qf n7]at P;refine⟨(o2,i+1),oj,⟨n9,?_⟩,n9⟩
   try dsimp only
   rw[lT,<-E,<-hQ];exact P.aG 8 [0,1,2,3,4]
 .have ap:i=bl.length:=n7
  subst ap;obtain⟨ys,H5⟩:=H4.Fu 1 rfl λ_=>rfl;exact⟨o,ys,n5,H5.aG 5 [0,1]⟩
end
def cj(a:Nat)(l:List (Int×aR))(k:Int):Int:=(a:Int)+n4 (l.filter λy=>decide (y.1=k))
theorem Vm(k:Int)(d c:hU)(a:Nat)(r:Sl)(q:List (Int×Sl))(l:List (Int×aR))(h:m5)(A:a<=2^30)(F:n4 l<=2^30)(p:bV h d 3 [xH xN a])(o:bV h c 137 [r])(t:fO dR 2 piv h r q l):
  ak xR 99 #[xH xN k,xJ (dB d),xJ (dB c)] h λv h'=>v=xH xN (cj a l k)/\Sp h h' []:=by
 refine ts Tryz.func99 ?_ (HF (HF (I0 [(5,aI),(11,aI)] [(5,6),(7,8),(11,22)]))) (args:=[(k:Int),d,c]);have B:=t.1.len;have D:=t.2.1;refine⟨(a:Int),p.cell0 n5,r,o.cell0 n5,?_⟩;refine aj (λi:Nat=>(cj a (l.take i) k,(i:Int))) (λi h'=>i<=n4 l/\Sp h h' []) (λi=>n4 l-i) 0 (by simp[cj]) ⟨n7,Sp.refl h⟩ ?_;rintro i I ⟨H,u⟩
 try dsimp only
 have x:(n4 ((l.take i).filter λy=>decide (y.1=k)):Int)<=i:=by have:=qH (λy:Int×aR=>decide (y.1=k)) (l.take i);simp at this;omega
 refine ae (λe=>?_) λe=>?_
 .have f:i<n4 l:=n7
  have m:=fO.up t u.ac;refine m.1.cG (g:=piv) i n5 n7 (q[i]'n7) n5 ?_;refine u.alloc ag n5 λG E z=>?_;refine z.storeAll ag 0 n5 n5 (piv (q[i]'n7)) n5 n5 n5 n5 λh3 w=>?_;have j:=Fix.row m f;have b:cj a (l.take (i+1)) k=cj a (l.take i) k+(if l[i].1=k then 1 else 0):=by
   unfold cj;rw[az _ _ f,zg,qo,zx,wL];split
   .rename_i s;rw[m6 (n3 s)];simp;omega
   .rename_i s;rw[nq (by simpa using s)];simp
  refine⟨l[i].1,by rw[<-j.1];exact(w.box 0 n5).cell0 n5,be (λg=>?_) λg=>?_⟩
  .refine⟨i+1,?_,⟨n7,.zip w.ac⟩,n7⟩;rw[b,m6 g,af (cj a (l.take i) k+1) (by unfold cj;omega) (by unfold cj;omega),af _];rfl
  .refine⟨i+1,?_,⟨n7,.zip w.ac⟩,n7⟩;rw[b,nq g,Int.add_zero,af _];rfl
 .rw[qf n7];exact⟨n5,u⟩
def eG(m:aB)(e:Int)(w:Pow)(a:aF)(c:ByteArray)(b:aR):Int×aB×Pow×aF:=
 if dO m (gN w e) a c b.length≠0 then(dO m (gN w e) a c b.length,m,w,a)else
 match cR m.p m.next (splitB m.p b).length with
 |none=>(8,m,w,a)
 |some t=>
  let live:=aY a m.drives;let l:=dt m m.next t (splitB m.p b) live (splitB m.p b).length;let n:=nC m ⟨c,m.next,n4 b,t⟩;let N:=cj (bG n).length l
  if ik m a live N=eY then(7,m,w,a)else
  if(makes m N live w a).1≠0 then((makes m N live w a).1,m,(makes m N live w a).2)else
  let d:=layAll l (makes m N live w a).2.1 (makes m N live w a).2.2
  if d.1≠0 then(d.1,m,d.2)else
  ((layAll (bj n live) d.2.1 d.2.2).1,if(layAll (bj n live) d.2.1 d.2.2).1=0 then n else m,(layAll (bj n live) d.2.1 d.2.2).2)
theorem uk{m:aB}{d:Bool}{b:aF}{a:ByteArray}{n:Nat}(h:dO m d b a n=0):
  d=eY/\gJ a=eX/\m.objs.any (dD a)=eY/\¬(m.p.1*m.p.2.2*8<(n:Int)∨12<=n4 m.objs)/\¬(aY b m.drives=[]∨16777215<m.next∨2147483647<=m.seq):=by
 unfold dO at h
 grind
theorem Qk{m:aB}{b:aR}(a:bH m.p=eX)(h:¬m.p.1*m.p.2.2*8<(n4 b:Int)):n4 (splitB m.p b)<=8:=by obtain⟨f,g,d⟩:=gZ a;obtain⟨e,c,c3⟩:=kg a b.length;unfold splitB;rw[qm,zL];refine Nat.le_of_not_lt λh8=>?_;have:=c3 8 n7;omega
theorem acj{o:aC}(c:o≠[])(id:Nat):nv o id∈o:=by
 unfold nv KW;have b:0<n4 o:=o4
 have a:((id)%(n4 o:Int)).toNat<n4 o:=by have:=wj (id) (show(0:Int)<n4 o by omega);omega
 grind
theorem FR{m:aB}{o:Int}{tries:aC}{bl:dP}{live:aC}(r:0<=o/\o<=16777215)(p:live≠[])(e:∀k∈live,0<=k/\k<64){n:Nat}(j:n<=8){y:Int×aR}(d:y∈dt m o tries bl live n):y.1∈live/\y.2.length<=64:=by
 obtain⟨i,q,d⟩:=List.mem_flatMap.1 d;obtain⟨id,_,rfl⟩:=qI.1 d;refine⟨?_,?_⟩
 .have c:jg o i live=nu ((8*o+i)%64).toNat live:=by unfold jg;grind
  have b:∀a,a∈jg o i live↔a∈live/\0<=a/\a<64:=λa=>by rw[c];exact Vl _ _ _
  have f:jg o i live≠[]:=λh=>by
   cases live with
   |nil=>grind
   |cons a l=>
    have:=(b a).2 ⟨qR,e a qR⟩
    grind
  exact((b _).1 (acj f id)).1
 .show(gc _).length<=64;unfold gc;split
  .rename_i g;refine Nat.le_of_eq (ni n8 n8 ?_);have:=rx g;omega
  .simp
theorem aai{m:aB}{e:Qw.cT}(b:bM m)(g:m.objs.length<=11)(d:e.name.size<=2^30)(c:e.tries.length<=2^30):bM (nC m e):=by
 refine⟨b.dr,?_,λf a=>?_⟩
 .show((m.objs++[e]).mergeSort mP).length<=2^30;rw[wP];simp;omega
 .have a:f∈(m.objs++[e]).mergeSort mP:=a;rcases qx.1 ((wc _ _).mem_iff.1 a)with h|h
  .exact b.nm f h
  .rw[qB.1 h];exact⟨d,c⟩
section
variable {pw:hU}
theorem XQ(x:bi)(m:aB)(c:ByteArray)(s:Sl)(b:aR)(hS:St B h0 As λh=>Rd h s 1 aq b)(du:s.len<=s.cap)(hn:c.size<=2^40)(X:bM m)(hp:bH m.p=eX)(dd:0<=m.extra/\m.extra<=16)(dx:∀k∈m.drives,0<=k/\k<64)(c0:m.drives.length<=64)(b3:0<=m.seq)(b0:0<=m.next)(c2:b.length<=2^20)
  (H:aa B h0 h (aJ bN a pw (aD x) offs da w ds::bn x m::As)):
  ak xR 34 #[xJ (dB a),xK c,s] h λv h'=>v=xH xN (eG m offs w ds c b).1/\
   ∃y,aa B h0 h' (aJ bN a pw (aD y) offs da (eG m offs w ds c b).2.2.1 (eG m offs w ds c b).2.2.2::bn y (eG m offs w ds c b).2.1::As):=by
 refine ts Tryz.func34 ?_ (HF (HF (HF (I1 [(9,bK),(10,oe)] [(9,11),(34,53)] (HF (HF (HF (HF (I1 [(12,(.sc .adr)),(13,bK)] [(12,14),(66,74)] G6))))))))) [(12,(.y [0,1,2,3,4,6] (.y [5] (.l [7,8,9,10]) (.l [8,7,9,10])) (.l [8,5,7,9,10])))];have ao:=(hS.at [_,_] H).len;refine(MJ x m c s b.length ao hn (H.at 1 n5) X hp H).I3 λh1 R1=>?_;have H1:=H.up R1.ac;refine⟨_,n5,bt (λe=>?_) λe1=>?_⟩
 .have ep:eG m offs w ds c b=(dO m (gN w offs) ds c b.length,m,w,ds):=by unfold eG;rw[m6 e]
  rw[ep];exact⟨n5,x,H1⟩
 obtain⟨z1,z2,z3,z4,z5⟩:=uk e1;have b9:¬m.p.1*m.p.2.2*8<(b.length:Int):=λh=>z4 (.inl h);have a8:m.objs.length<=11:=by have:¬12<=m.objs.length:=λh=>z4 (.inr h);omega
 have c4:aY ds m.drives≠[]:=λh=>z5 (.inl h);have cr:m.next<=16777215:=by have:¬16777215<m.next:=λh=>z5 (.inr (.inl h));omega
 have ea:m.seq<=2147483646:=by have:¬2147483647<=m.seq:=λh=>z5 (.inr (.inr h));omega
 have h8:=Qk hp b9;have ek:c.size<=12:=by unfold gJ at z2;simp at z2;omega
 have dr:=(aa.cw H1).2;have bq:ct h1 x m:=H1.at 1 n5;refine⟨a,n5,x.2.1,dr.cell n5,H1.alloc ag n5 λa4 h2 H2=>?_⟩;have H2:=H2.bc;refine H2.storeAll ag 0 n5 n5 (bg (c,x.2.1,(s.len:Int),⟨eH,0,0⟩)) n5 n5 n5 n5 λh3 H3=>?_;have H3:aa B h0 h3 (an a4 83 (bg (c,m.next,(b.length:Int),⟨eH,0,0⟩))::aJ bN a pw (aD x) offs da w ds::bn x m::As):=by rw[<-bq.next,<-ao];exact H3
 have cp:∀{h':m5},bV h' a 105 (cZ (aD x) pw offs da)->aZ h' (a.add 2) 0 [xH xN m.p.1,xH xN m.p.2.1,xH xN m.p.2.2]:=λ{h'} hb=>by
  rw[<-bq.p];exact⟨o8,o8,o8,I6⟩
 obtain⟨R,K⟩:=I5 ((splitB m.p b).length)
 have bd:countP m.p (s.len:Nat)=(R:Int):=by have:=(kg hp b.length).1;rw[K,ao];unfold splitB;rw[qm,zL];omega
 refine bs (λ(t:Sl×Bool) h'=>(cR m.p m.next R=eH->t.2=eY/\aa B h0 h' (aJ bN a pw (aD x) offs da w ds::bn x m::As))/\(∀l,cR m.p m.next R=dB l->t.2=eX/\aa B h0 h' (ai 3 t.1 1 ar l::an a4 83 (bg (c,m.next,(b.length:Int),⟨eH,0,0⟩))::aJ bN a pw (aD x) offs da w ds::bn x m::As))) ?_ ?_
 .have b7:=H3.box 0 n5;have ad:=(aa.cw (H3.aG 3 [1,0,2])).2;refine⟨a,n5,m.p,cp ad,m.next,b7.cell n5,a,n5,m.p,cp ad,(sE m.p s.len h3).I3 λh4 R4=>?_⟩;have H4:=H3.up R4.ac;have dy:=ad.ac R4.ac ad.lt;obtain⟨q1,q2,q3,_⟩:=cp dy;refine⟨_,n5,⟨(H4.box 0 n5).cell n5,q1,q2,q3,I6⟩,?_⟩;rw[bd];refine(RZ m.p m.next R h4 n7).mono ?_;rintro _ h5 ⟨T0,T1⟩;cases ht:cR m.p m.next R with
  |none=>
   obtain⟨rfl,R5⟩:=T0 ht;exact⟨(⟨eH,0,0⟩,eY),n5,I6,λ_=>⟨n5,(H4.up R5.ac).aG 3 [1,2]⟩,λl h=>t7⟩
  |some l=>
   obtain⟨r,rfl,R5⟩:=T1 l ht;exact⟨(r,eX),n5,I6,λh=>t7,λl' h=>(by injection h with h;subst h;exact⟨n5,H4.bQ R5⟩)⟩
 rintro⟨D,tb⟩ h6 ⟨T0,T1⟩;dsimp only at T0 T1⊢;cases ht:cR m.p m.next R with
 |none=>
  obtain⟨rfl,H6⟩:=T0 ht;have ep:eG m offs w ds c b=(8,m,w,ds):=by unfold eG;rw[nq pa,<-K,ht]
  rw[ep];exact aH (λ_=>⟨n5,x,H6⟩) λe=>o1
 |some t=>
  obtain⟨rfl,H6⟩:=T1 t ht;refine aH (λe=>o1) λ_=>?_;have eq:=kz ht;refine H6.store ag 1 n5 n5 3 [D] n5 n5 n5 oo λh7 H7=>?_;obtain⟨e,he⟩:∃e:Qw.cT,e=⟨c,m.next,b.length,t⟩:=⟨_,rfl⟩
  have H7:aa B h0 h7 (ai 3 D 1 ar e.tries::an a4 83 (bg (c,m.next,(b.length:Int),D))::aJ bN a pw (aD x) offs da w ds::bn x m::As):=by rw[he];exact H7
  have H7:=H7.aG 4 [2,3,0,1];have ca:St B h0 (bn x m::ai 3 D 1 ar e.tries::an a4 83 (bg (c,m.next,(b.length:Int),D))::As) λh=>ct h x m/\eN gH h (c,m.next,(b.length:Int),D) e/\Rd h s 1 aq b:=λBs h' i=>
   ⟨(St.dU 0 n5 λ_ j=>j) Bs h' i,(St.dU (A:=ai 3 D 1 ar e.tries) (Q:=λh=>eN gH h (c,m.next,(b.length:Int),D) e) 1 n5 λh' j=>⟨by rw[he];exact⟨n5,n5,n5⟩,j.1.seq (λ_=>rfl) j.2⟩) Bs h' i,(hS.cons.cons.cons) Bs h' i⟩
  refine⟨(c,m.next,(b.length:Int),D),(H7.box 3 n5).aw _ n5,?_⟩;refine(Km x m (c,m.next,(b.length:Int),D) e s b ca du X hp dd c2 (by rw[he,<-K];exact ht) H7).mono ?_;rintro _ en ⟨r,ys,rfl,H8⟩;obtain⟨live,d⟩:=I5 (aY ds m.drives)
  obtain⟨l,hl⟩:=I5 (dt m m.next t (splitB m.p b) live R)
  have c6:dt m e.object e.tries (splitB m.p b) (aY ds m.drives) (splitB m.p b).length=l:=by rw[hl,he,<-d,<-K]
  rw[c6]at H8;refine⟨(r,eX),n5,H8.alloc ag n5 λo h9 H9=>?_⟩;have H9:=H9.bc;refine H9.storeAll ag 0 n5 n5 [r] n5 n5 n5 n5 λdk E=>?_;refine aH (λe=>o1) λ_=>?_;obtain⟨n,Z⟩:=I5 (nC m e)
  have E:=(E.freeze 4 n5 λ_=>rfl).aG 6 [4,1,3,2,0,5];have cf:((c,m.next,(b.length:Int),D):dH).1=e.name/\((c,m.next,(b.length:Int),D):dH).2.1=e.object/\((c,m.next,(b.length:Int),D):dH).2.2.1=e.length:=by rw[he];exact⟨n5,n5,n5⟩
  have L:∀{h':m5} {Cs:List HP},aa B h0 h' (wd D 1 ar e.tries::Cs)->ct h' x m->ak xR 98 #[cL x,MH (c,m.next,(b.length:Int),D)] h' λv b4=>∃y:bi,v=cL y/\aa B h0 b4 (bn y n::Cs):=λ{h' Cs} i hx'=>by
   rw[Z];exact Va x m _ e hx' X ⟨b3,n7⟩ ⟨b0,n7⟩ a8 cf i
  have M:=(aa.cw (E.aG 2 [1,0])).2;have O:=E.box 5 n5;have bb:ct dk x m:=E.at 2 n5;refine bs (λ(t:hU×Sl) h'=>∃y,aa B h0 h' (aJ bN a pw (aD x) offs da w ds::bn x m::ci dR 2 piv r ys l::an o 137 [r]::an t.1 27 (aD y)::bn y n::ai 3 t.2 1 ar live::As)) ?_ ?_
  .refine⟨a,n5,x,M.aw _ n5,(c,m.next,(b.length:Int),D),O.aw _ n5,?_,?_⟩
   .refine(L E bb).I4 λy er I=>?_;have I:=I.aG 6 [1,2,3,4,0];refine⟨y,n5,I6,?_,?_⟩
    .refine(eW x m (I.at 1 n5) X I).I4 λJ ef a5=>?_;rw[<-d]at a5;have cd:=I.bQ a5;refine⟨J,n5,I6,cd.alloc ag n5 λew d4 ay=>⟨I6,?_⟩⟩;have ay:=ay.bc;refine ay.storeAll ag 0 n5 n5 (aD y) n5 n5 n5 n5 λeb b5=>⟨I6,y,?_⟩
     exact b5.aG 7 [2,3,4,5,0,6,1]
    .refine I.alloc ag n5 λa22 d5 ab=>⟨I6,?_⟩
     have ab:=ab.bc;have ah:=ab.aG 6 [1,2,3,4,5,0];refine(eW x m (ah.at 1 n5) X ah).I4 λJ d8 bk=>?_;rw[<-d]at bk;have cc:=(ab.bQ bk).aG 2 [1,0];refine⟨J,n5,I6,cc.storeAll ag 0 n5 n5 (aD y) n5 n5 n5 n5 λd6 cn=>⟨I6,y,?_⟩⟩;exact cn.aG 7 [2,3,4,5,0,6,1]
   .refine E.tE ag n5 λet es a3 Y=>?_;have f:=M.ac a3 M.lt;have G:=O.ac a3 O.lt;refine⟨⟨G.cell0 n5,G.cell n5,G.cell n5,G.cell n5,f.cell0 n5,f.cell n5,f.cell n5,f.cell n5,f.cell n5,f.cell n5,f.cell n5,f.cell n5,I6⟩,?_⟩;have Y:=(Y.bc).aG 7 [1,0,2,3,4,5];refine(L Y (Y.at 3 n5)).I4 λy eo b2=>?_;have P:=b2.aG 6 [2,3,4,5,0,1];refine⟨y,n5,I6,(eW x m (P.at 1 n5) X P).I4 λJ eh a2=>?_⟩;rw[<-d]at a2;have d1:=(P.bQ a2).aG 7 [6,0,1,2,3,4,5];refine⟨J,n5,I6,d1.storeAll ag 0 n5 n5 (aD y) n5 n5 n5 n5 λd9 c8=>⟨I6,y,?_⟩⟩;exact c8.aG 7 [2,3,4,5,0,6,1]
  rintro⟨am,J⟩ c9 ⟨y,V⟩;dsimp only at V⊢;have ap:bM n:=by rw[Z];exact aai X a8 (by rw[he];show c.size<=2^30;omega) (by rw[he];show t.length<=2^30;omega)
  have d2:n.drives=m.drives:=by rw[Z];rfl
  have ei:live.length<=64:=by rw[d];exact qV (qH _ _) c0
  have u:∀k∈live,0<=k/\k<64:=λk hk=>by rw[d]at hk;exact dx k (qK.1 hk).1
  have b1:(m.p.1+m.extra).toNat<=32:=by have:=(bI m.p).1 hp;omega
  have d7:l.length<=256:=by rw[hl,mL];exact zr (show R<=8 by omega) b1
  have cq:∀z∈l,(0<=z.1/\z.1<64)/\z.2.length<=2^20:=λz a6=>by
   rw[hl]at a6;obtain⟨p1,p2⟩:=FR (m:=m) ⟨b0,cr⟩ (by rw[d];exact c4) u (show R<=8 by omega) a6;exact⟨u _ p1,qV p2 n8⟩
  refine⟨y,(V.box 4 n5).aw _ n5,(mT y n c9 (V.at 5 n5) ap).I4 λpg ed a9=>?_⟩;have al:=(aa.lE a9).1;have a7:=jA n ap;obtain⟨pn,bl⟩:=I5 ((bG n).length)
  rw[<-bl]at al a7;have c1:=V.up a9.ac;refine⟨pg,n5,c1.alloc ag n5 λq el ax=>?_⟩;have ax:=ax.bc;refine ax.storeAll ag 0 n5 n5 [xH xN (pg.len:Int)] n5 n5 n5 n5 λb6 F=>?_;rw[al]at F;have F:aa B h0 b6 (aJ bN a pw (aD x) offs da w ds::bn x m::ci dR 2 piv r ys l::an o 137 [r]::an am 27 (aD y)::bn y n::ai 3 J 1 ar live::an q 3 [xH xN (pn:Int)]::As):=F.aG 8 [1,2,3,4,5,6,7,0];obtain⟨N,hN⟩:=I5 (cj pn l)
  obtain⟨T,S⟩:=I5 (bn x m::ci dR 2 piv r ys l::an o 137 [r]::an am 27 (aD y)::bn y n::ai 3 J 1 ar live::an q 3 [xH xN (pn:Int)]::As)
  have tX:St B h0 T λh=>ct h x m:=by rw[S];exact St.dU 0 n5 λ_ j=>j
  have tF:St B h0 T λh=>fO dR 2 piv h r ys l:=by rw[S];exact St.dU 1 n5 λ_ j=>j
  have tB:St B h0 T λh=>bV h o 137 [r]:=by rw[S];exact St.dU (A:=an o 137 [r]) 2 n5 λ_ j=>j.1
  have tM:St B h0 T λh=>bV h am 27 (aD y):=by rw[S];exact St.dU (A:=an am 27 (aD y)) 3 n5 λ_ j=>j.1
  have tY:St B h0 T λh=>ct h y n:=by rw[S];exact St.dU 4 n5 λ_ j=>j
  have tL:St B h0 T λh=>Rd h J 1 ar live:=by rw[S];exact St.dU (A:=ai 3 J 1 ar live) 5 n5 λ_ j=>j.1.seq (λ_=>rfl) j.2
  have tN:St B h0 T λh=>bV h q 3 [xH xN (pn:Int)]:=by rw[S];exact St.dU (A:=an q 3 [xH xN (pn:Int)]) 6 n5 λ_ j=>j.1
  have tT:St B h0 T λh=>KU 99 #[] #[xJ (dB q),xJ (dB o)] N live h:=λBs h' i k hk=>by
   rw[hN];exact Vm k q o pn r ys l h' n7 n7 (tN Bs h' i) (tB Bs h' i) (tF Bs h' i)
  have fin:∀{h':m5} {z:bi} {w':Pow} {a0:aF},aa B h0 h' (aJ bN a pw (aD x) offs da w' a0::T)->aa B h0 h' (aJ bN a pw (aD x) offs da w' a0::bn x m::As):=λ{h' z w' a0} i=>by
   rw[S]at i;exact i.aG 8 [0,1]
  rw[<-S]at F;have ep:eG m offs w ds c b=(if ik m ds live N=eY then(7,m,w,ds)else if(makes m N live w ds).1≠0 then((makes m N live w ds).1,m,(makes m N live w ds).2)else
    if(layAll l (makes m N live w ds).2.1 (makes m N live w ds).2.2).1≠0 then((layAll l (makes m N live w ds).2.1 (makes m N live w ds).2.2).1,m,(layAll l (makes m N live w ds).2.1 (makes m N live w ds).2.2).2)else
    ((layAll (bj n live) (layAll l (makes m N live w ds).2.1 (makes m N live w ds).2.2).2.1 (layAll l (makes m N live w ds).2.1 (makes m N live w ds).2.2).2.2).1,if(layAll (bj n live) (layAll l (makes m N live w ds).2.1 (makes m N live w ds).2.2).2.1 (layAll l (makes m N live w ds).2.1 (makes m N live w ds).2.2).2.2).1=0 then n else m,(layAll (bj n live) (layAll l (makes m N live w ds).2.1 (makes m N live w ds).2.2).2.1 (layAll l (makes m N live w ds).2.1 (makes m N live w ds).2.2).2.2).2)):=by
   rw[hN,bl,hl,Z,he,d];unfold eG;rw[nq pa,<-K,ht]
  rw[ep];refine(GZ 99 #[] #[xJ (dB q),xJ (dB o)] N x m J live qa (λBs h' i=>⟨tX Bs h' i,tT Bs h' i⟩) X (tL.at [_] F) n7 u F).I3 λec d0=>?_;have a1:=F.up d0.ac;refine⟨_,n5,aH (λg=>?_) λg=>?_⟩
  .rw[m6 g];exact⟨n5,x,fin (z:=x) a1⟩
  rw[nq D9];refine(Hb 99 #[] #[xJ (dB q),xJ (dB o)] N x m J live qa (λBs h' i=>⟨tX Bs h' i,tT Bs h' i,tL Bs h' i⟩) X n7 u a1).I3 λd3 U=>?_;obtain⟨m1,c7⟩:=I5 (makes m N live w ds)
  rw[<-c7]at U⊢;refine⟨_,n5,bt (λg2=>?_) λg2=>?_⟩
  .rw[m6 g2];exact⟨n5,x,fin (z:=x) U⟩
  rw[nq (by simpa using g2)];refine⟨r,(tB.at [_] U).cell0 n5,(Da r ys l tF n7 cq U).I3 λeg W=>?_⟩;obtain⟨r2,cs⟩:=I5 (layAll l m1.2.1 m1.2.2)
  rw[<-cs]at W⊢;refine⟨_,n5,bt (λg3=>?_) λg3=>?_⟩
  .rw[m6 g3];exact⟨n5,x,fin (z:=x) W⟩
  rw[nq (by simpa using g3)];refine⟨y,(tM.at [_] W).aw _ n5,(Hg x y n J live (λBs h' i=>⟨tY Bs h' i,tL Bs h' i⟩) ap n7 u W).I3 λej ⟨Q1,Q0⟩=>?_⟩;refine⟨_,n5,n5,?_⟩;by_cases g4:(layAll (bj n live) r2.2.1 r2.2.2).1=0
  .obtain⟨y2,br⟩:=Q0 g4;rw[m6 g4];rw[S]at br;exact⟨y2,br.aG 9 [0,1]⟩
  .rw[nq g4];exact⟨x,fin (z:=x) (Q1 g4)⟩
end
theorem Sj(n:Nat)(x:Int)(h:m5)(k:n<=2^30):ak xR 112 #[xH xN n,xH xN x] h λv h'=>∃(r:Sl) (l:aR),v=r/\l.length=n/\Sp h h' [ai 5 r 1 aq l]:=by
 refine ts Tryz.func112 ?_ (HF (HF (I0 [(5,bK),(6,aI)] [(5,25)])));refine aj (λt:Sl×Nat×aR=>(t.1,(t.2.1:Int))) (λt h'=>t.2.1<=n/\t.2.2.length=t.2.1/\Sp h h' [ai 5 t.1 1 aq t.2.2]) (λt=>n-t.2.1) (⟨eH,0,0⟩,0,[]) n5 ⟨oo,n5,(Sp.refl h).nil 5 1 aq⟩ ?_;rintro⟨o,i,l⟩ p ⟨m,d,a⟩;dsimp only at*;refine ae (λe=>?_) λe=>?_
 .have f:i<n:=n7
  refine⟨n8,Int.tmod_nonneg _ n7,?_⟩;rw[cb];generalize b8 (qc xN _)=c;refine a.push ag 0 n5 cK n5 n8 (λ_=>rfl) cB c n5 n8 n7 λg j b=>?_;refine⟨(g,i+1,l++[c]),oj,⟨n9,?_,b⟩,n9⟩;simp[d]
 .exact⟨o,l,n5,n7,a⟩
variable {α:Type} {k:Nat} {f:α->aS} {L M:List (Sl×List α)}
theorem aa.MT(H:aa B h0 h (iz k f L::iz k f M::As)):aa B h0 h (iz k f (L++M)::As):=by
 have g:=H.kq;refine g.dW 0 n5 λq ⟨j,i,_,b,c,d,e⟩ y a=>?_;rcases qx.1 a with a|a
 .exact(e y a).mono c
 .exact(d y a).mono b
def gP(o b:Int)(a:List ck):List (Int×aR):=(a.filter λr=>decide (r.object=o)&&decide (r.block=b)).map λr=>(r.id,r.data)
def rK(m:aB)(o b:Int)(l:dP):List (Int×aR):=((gK m l).filter λr=>decide (r.object=o)&&decide (r.block=b)).map λr=>(r.id,r.data)
def jR(m:aB)(a:aF)(o b:Int)(k:Int):List (Int×aR):=match bR a k with|some d=>rK m o b d.l|none=>[]
def dp(m:aB)(c:aF)(a:aC)(o b:Int):List (Int×aR):=a.flatMap (jR m c o b)
abbrev ack:bS C.toAg 121 124 2 [xH xN 0,xI eH 0 0] 32:=⟨_,_,n5,n5,n5,n5,n5,n5⟩
def Em(pool:List (Sl×aR))(p:(Int×Sl)×(Int×aR)):Prop:=p.1.1=p.2.1/\(p.1.2,p.2.2)∈pool
variable {mc:aS}
section
variable {pw:hU}
theorem Dn(x:bi)(m:aB)(s:Sl)(f:aC)(o b:Int)(hx:ct h x m)(hz:bM m)(hs:Rd h s 1 ar f)(hl:f.length<=2^10)(hd:∀k∈f,∃d,bR ds k=dB d)(H:aa B h0 h (aJ bN a pw mc offs da w ds::As)):
  ak xR 84 #[.func (.func 26) #[xJ (dB a)] #[],s,cL x,xH xN o,xH xN b] h λv h'=>∃(r:Sl) (ys:List (Int×Sl)),v=r/\Sp h h' [ci dR 2 piv r ys (dp m ds f o b)]:=by
 refine ts Tryz.func84 ?_ (HF (HF (G0 (HF (G7 (G9 [(11,bK),(18,aI)] [(11,12),(13,14),(15,16),(18,52)] (HF (HF (G0 (G7 (HF (I1 [(26,bK),(27,aI),(28,aI)] [(22,29)] (G7 (G9 [(11,bK),(28,aI)] [(11,12),(15,16),(28,51)] G6))))) G6)))))) G6))) [(5,(.l [0,1,3,6,2,4,5]))] (args:=[(.func (.func 26) #[xJ (dB a)] #[]),s,x,(o:Int),(b:Int)]);have a4:=hs.len;refine(Sp.refl h).boxed λa1 Y H1=>?_;have H1:=((H1.Eh 1 aq).nil 124 2 piv).bu [2,0,1];refine aj (λt:Sl×Nat×List ((Int×Sl)×(Int×aR))×List (Sl×aR)=>(t.1,(t.2.1:Int))) (λt h'=>t.2.1<=f.length/\t.2.2.1.length<=t.2.1*512/\t.2.2.1.map zh=dp m ds (f.take t.2.1) o b/\(∀p∈t.2.2.1,Em t.2.2.2 p)/\Sp h h' [ai 124 t.1 2 piv (t.2.2.1.map qA),iz 1 aq t.2.2.2,an a1 27 (aD x)]) (λt=>f.length-t.2.1) (⟨eH,0,0⟩,0,[],[]) n5 ⟨oo,oo,by simp[dp],oo,H1⟩ ?_;rintro⟨u,i,L,P⟩ h2 ⟨hi,a5,M,U,X⟩;dsimp only at*;refine ae (λe=>?_) λe=>?_
 .have V:i<f.length:=n7
  refine(Seq.up hs X.ac).aV i n5 V f[i] n5 (aE ?_);obtain⟨d,F⟩:=hd f[i] (qe V);have Hc:=H.up X.ac;obtain⟨ok,hb⟩:=aa.cw Hc;have A:=X.box 2 n5;refine⟨x,A.aw _ n5,fv qa ?_⟩;refine(jz f[i] ok hb).mono ?_;rintro _ h3 ⟨rfl,rfl⟩;refine⟨_,n5,⟨A.cell0 n5,A.cell n5,A.cell n5,A.cell n5,A.cell n5,A.cell n5,A.cell n5,A.cell n5,I6⟩,?_⟩;rcases gf ok f[i]with⟨c1,c2⟩|⟨n,d',bb,c0,c1,c2,c3,c4,c5⟩
  .rw[F]at c1;cases c1
  have Z:d=d':=by rw[c3]at F;injection F with F;exact F.symm
  subst Z;rw[c5];obtain⟨a6,E,H3⟩:=Qw.aa.fq Hc c2;rw[c4]at E;injection E with E
  injection E with E
  subst E;obtain⟨W,sd,bd,ad⟩:=aa.jV H3;have a3:=W.len;have a0:=W.room;refine(ue bb pw d sd bd x m h3 (ad.box 0 n5) ((ad.aG 2 [1]).uC λ_=>rfl) W (hx.up X.ac) hz).mono ?_;rintro _ h4 ⟨r7,K,rfl,R4⟩;have am:=iV m d.l;obtain⟨c,G⟩:=I5 (gK m d.l)
  rw[<-G]at R4 am;have H4:=(X.bQ R4).aG 4 [1,2,0,3];have F4:=H4.dg 2 n5;have a8:=F4.2.1;have bl:=F4.1.len;refine⟨r7,n5,I6,?_⟩;have al:jR m ds o b f[i]=gP o b c:=by unfold jR;rw[F];show rK m o b d.l=_;unfold rK gP;rw[G]
  have T:dp m ds (f.take (i+1)) o b=dp m ds (f.take i) o b++gP o b c:=by unfold dp;rw[az _ _ V,za,zm,zW,qL,al]
  obtain⟨Q,hQ⟩:∃Q:List (Sl×aR),Q=(K.zip c).map λz=>(z.1.2.2.2.2.2.2.2,z.2.data):=⟨_,rfl⟩
  refine aj (λt:Sl×Nat×List ((Int×Sl)×(Int×aR))=>(t.1,(t.2.1:Int))) (λt h'=>t.2.1<=c.length/\t.2.2.length<=L.length+t.2.1/\t.2.2.map zh=dp m ds (f.take i) o b++gP o b (c.take t.2.1)/\(∀p∈t.2.2,Em (P++Q) p)/\Sp h h' [ai 124 t.1 2 piv (t.2.2.map qA),iz 1 aq P,ci cx 8 bB r7 K c,an a1 27 (aD x)]) (λt=>c.length-t.2.1) (u,0,L) n5 ⟨oo,oo,by simp[gP,M],λp R=>⟨(U p R).1,List.mem_append_left _ (U p R).2⟩,H4⟩ ?_;rintro⟨u2,j,L2⟩ h5 ⟨hj,a7,N,S,H5⟩;dsimp only at*;have F5:=H5.dg 2 n5;refine ae (λe2=>?_) λe2=>?_
  .have ah:j<c.length:=n7
   have ab:=Fix.row F5 ah;obtain⟨⟨g1,g2,g3,g4,g5,g6,g7⟩,g8⟩:=ab;refine F5.1.cG (g:=bB) j n5 n7 (K[j]'n7) n5 ?_;refine H5.alloc ag n5 λbk h6 H6=>?_;refine H6.storeAll ag 4 n5 n5 (bB (K[j]'n7)) n5 n5 n5 n5 λh7 H7=>?_;have J:=H7.box 4 n5;have O:gP o b (c.take (j+1))=gP o b (c.take j)++(if(decide (c[j].object=o)&&decide (c[j].block=b))=eX then[(c[j].id,c[j].data)]else[]):=by unfold gP;rw[az _ _ ah,zg,qF,zx,wL];split<;>rfl
   have skip:(decide (c[j].object=o)&&decide (c[j].block=b))=eY->∃I:Sl×Nat×List ((Int×Sl)×(Int×aR)),((⟨u2.ptr,u2.len,u2.cap⟩:Sl),qc xN ((j:Int)+1))=(I.1,(I.2.1:Int))/\(I.2.1<=c.length/\I.2.2.length<=L.length+I.2.1/\I.2.2.map zh=dp m ds (f.take i) o b++gP o b (c.take I.2.1)/\(∀p∈I.2.2,Em (P++Q) p)/\Sp h h7 [ai 124 I.1 2 piv (I.2.2.map qA),iz 1 aq P,ci cx 8 bB r7 K c,an a1 27 (aD x)])/\c.length-I.2.1<c.length-j:=λhc=>
    ⟨(u2,j+1,L2),oj,⟨n9,n9,by dsimp only;rw[O,hc];simpa using N,S,H7.bu [0,1,2,3]⟩,n9⟩
   refine⟨c[j].object,by rw[<-g1];exact J.cell0 n5,be (λq1=>?_) λq1=>skip (by rw[n2 q1];rfl)⟩;refine⟨c[j].block,by rw[<-g2];exact J.cell n5,be (λq2=>?_) λq2=>skip (by rw[n2 q2,Bool.and_false])⟩;refine⟨c[j].id,by rw[<-g3];exact J.cell n5,(K[j]'n7).2.2.2.2.2.2.2,J.cell n5,?_⟩;refine H7.push ag 0 n5 ack n5 n8 (λ_=>rfl) sY (c[j].id,(K[j]'n7).2.2.2.2.2.2.2) o5 n8 oi λu3 a9 ap=>?_;refine⟨(u3,j+1,L2++[((c[j].id,(K[j]'n7).2.2.2.2.2.2.2),(c[j].id,c[j].data))]),oj,⟨n9,oi,?_,λp R=>?_,?_⟩,n9⟩
   .try dsimp only
    rw[qF,N,O,m6 (by rw[n1 q1,n1 q2];rfl),ql];rfl
   .rcases qx.1 R with R|R
    .exact S p R
    .rw[qB.1 R];refine⟨n5,List.mem_append_right _ ?_⟩;rw[hQ];refine qI.2 ⟨(K[j]'n7,c[j]),?_,n5⟩;rw[<-yk (h:=by simp;omega)];exact qe _
   .try dsimp only
    rw[qF];exact ap.bu [0,1,2,3]
  .have ax:j=c.length:=n7
   subst ax;rw[qt,<-T]at N;have a2:=F5.2.1;have H6:=(H5.dW 2 n5 (D:=iz 1 aq Q) λq hq y hy=>by
    rw[hQ]at hy;obtain⟨z,ao,rfl⟩:=qI.1 hy;obtain⟨k,hk,rfl⟩:=qE ao;have ay:k<c.length:=by simp at hk;omega
    have:=(Fix.row hq ay).2;rw[yk];exact this).bu [1,2,0,3]
   have H7:=aa.MT H6;refine⟨(u2,i+1,L2,P++Q),oj,⟨n9,n9,N,S,H7.bu [1,0,2]⟩,n9⟩
 .rw[qf n7]at M;refine⟨u,L.map qA,n5,?_⟩;have H3:=((X.freeze 0 n5 λ_=>rfl).bu [1,0]).kq;refine H3.dW 0 n5 λq ⟨q1,q2,_,bq,cq,z1,z2⟩=>?_;refine⟨z1.mono bq,by rw[<-M];simp,λj r e Y h2=>?_⟩;rw[<-M]at h2;rw[qM]at Y h2;cases hj:L[j]? with
  |none=>rw[hj]at Y;cases Y
  |some p=>
   rw[hj]at Y h2;have e1:=wb.inj (show dB p.1=dB r from Y);have e2:=wb.inj (show dB p.2=dB e from h2);subst e1;subst e2;obtain⟨k1,k2⟩:=U p (wh hj);exact⟨k1,(z2 _ k2).mono cq⟩
end
def fD(m:aB)(a:aF)(o b:Int)(live:aC):cO:=live.map λk=>(dp m a [k] o b).map qA
abbrev Vn:bS C.toAg 59 22 1 [xI eH 0 0] 24:=⟨_,_,n5,n5,n5,n5,n5,n5⟩
section
variable {pw:hU}
theorem IE{k:Int}{l:aC}(h:k∈aY ds l):∃d,bR ds k=dB d/\d.lost=eY:=by
 have h:=(qK.1 h).2;unfold isLive at h;cases hd:bR ds k with
 |none=>rw[hd]at h;cases h
 |some d=>rw[hd]at h;exact⟨d,n5,sR⟩
theorem sK(m:aB)(o b:Int)(l:dP):n4 (rK m o b l)<=n4 l:=by unfold rK;rw[qm];exact qV (qH _ _) (iV m l)
theorem Sk(x:bi)(m:aB)(o b:Int)(Q:ct h x m)(X:bM m)(ah:n4 m.drives<=64)(c:∀k d,bR ds k=dB d->n4 d.l<=512)(H:aa B h0 h (aJ bN a pw (aD x) offs da w ds::As)):
  ak xR 22 #[xJ (dB a),xH xN o,xH xN b] h λv h'=>∃r:Sl,v=r/\Sp h h' [gA 22 r 3 1 ar (fD m ds o b (aY ds m.drives))]:=by
 refine ts Tryz.func22 ?_ (HF (HF (G0 (HF (G7 (G9 [(7,bK),(16,aI)] [(7,8),(9,11),(12,13),(16,47)] (HF (HF (G0 (G7 (HF (HF (I0 [(10,bK),(32,aI)] [(10,11),(12,13),(32,42)])))) G6)))))) G6)));refine(eW x m Q X H).I4 λG h1 O=>?_;have P:n4 (aY ds m.drives)<=n4 m.drives:=qH _ _;have z:∀k∈aY ds m.drives,∃d,bR ds k=dB d:=λk J=>by obtain⟨d,h,_⟩:=IE J;exact⟨d,h⟩
 obtain⟨live,p⟩:=I5 (aY ds m.drives)
 rw[<-p]at O P z⊢;have ao:=(O.own 0 n5).len;refine⟨G,n5,?_⟩;have Z:n4 (fD m ds o b live)=n4 live:=by simp[fD]
 have H1:=O.jm 22 3 1 ar;refine aj (λt:Sl×Nat=>(t.1,(t.2:Int))) (λt h'=>t.2<=n4 live/\Sp h h' [gA 22 t.1 3 1 ar ((fD m ds o b live).take t.2),ai 3 G 1 ar live]) (λt=>n4 live-t.2) (⟨eH,0,0⟩,0) n5 ⟨oo,H1⟩ ?_;rintro⟨u,i⟩ h2 ⟨hi,A⟩;dsimp only at*;refine ae (λe=>?_) λe=>?_
 .have s:i<n4 live:=n7
  refine(A.seq 1 n5 λ_=>rfl).aV i n5 s live[i] n5 ?_;refine A.lit ag ar fu n5 [live[i]] n5 (show 1*1<=2^20 by decide) n5 λq h3 F=>?_;have R:=H.up F.ac;have M:=(aa.cw R).2;refine⟨a,n5,x,M.aw _ n5,?_⟩;obtain⟨d,N⟩:=z live[i] (qe s);refine(Dn x m q [live[i]] o b (Q.up F.ac) X (F.seq 2 n5 λ_=>rfl) oo (λk J=>by rw[qB.1 J];exact⟨d,N⟩) R).mono ?_;rintro _ h4 ⟨Y,K,rfl,U⟩;obtain⟨S,f⟩:=I5 (dp m ds [live[i]] o b)
  have ab:n4 S<=512:=by rw[f];unfold dp jR;rw[zm,zW,qL,N];exact qV (sK _ _ _ _) (c _ _ N)
  rw[<-f]at U;have E:=(F.bQ U).aG 4 [1,2,0];have T:=E.dg 2 n5;have ap:=T.2.1;have al:=T.1.len;refine⟨Y,n5,?_⟩;have E:=(E.nil 3 1 ar).bu [3,0,1,2];refine aj (λt:Sl×Nat=>(t.1,(t.2:Int))) (λt h'=>t.2<=n4 S/\Sp h h' [ai 3 t.1 1 ar ((S.map qA).take t.2),gA 22 u 3 1 ar ((fD m ds o b live).take i),ai 3 G 1 ar live,ci dR 2 piv Y K S]) (λt=>n4 S-t.2) (⟨eH,0,0⟩,0) n5 ⟨oo,E⟩ ?_;rintro⟨u2,j⟩ h5 ⟨hj,D⟩;dsimp only at*;have W:=D.dg 3 n5;refine ae (λe2=>?_) λe2=>?_
  .have L:j<n4 S:=n7
   have y:=Fix.row W L;refine W.1.cG (g:=piv) j n5 n7 (K[j]'n7) n5 ?_;refine D.alloc ag n5 λam h6 H6=>?_;refine H6.storeAll ag 4 n5 n5 (piv (K[j]'n7)) n5 n5 n5 n5 λh7 V=>?_;refine⟨S[j].1,by rw[<-y.1];exact(V.box 4 n5).cell0 n5,?_⟩;refine V.push ag 0 n5 fu n5 n8 (λ_=>rfl) db S[j].1 n5 n8 oi λu3 h9 H9=>?_;refine⟨(u3,j+1),oj,⟨n9,?_⟩,n9⟩
   try dsimp only
   rw[az _ _ (show j<n4 (S.map qA) by simp;omega),zk];exact H9.bu [0,1,2,3]
  .rw[qf oi]at D;refine(D.aG 2 [1,0]).mh ag Vn oi λu3 ad I=>?_;refine⟨(u3,i+1),oj,⟨n9,?_⟩,n9⟩
   try dsimp only
   rw[az _ _ (show i<n4 (fD m ds o b live) by omega)];have ew:(fD m ds o b live)[i]'n7=S.map qA:=by simp[fD,f]
   rw[ew];exact I.bu [0,1]
 .rw[qf n7]at A;exact⟨u,n5,A.bu [0]⟩
end
def Pow.calm(w:Pow):Prop:=w.off=eY/\w.fuse=eH
theorem MU:Pow.new.calm:=⟨n5,n5⟩
theorem rL{w:Pow}(h:w.calm):w.step=(eX,w):=by unfold Pow.step;rw[nq (by simp[h.1]),h.2]
theorem ES{w:Pow}(h:w.calm)(a:aF)(x:Int)(b:aR):(dV w a x b).2.1=w:=by
 unfold dV;cases bR a x with
 |none=>rfl
 |some d=>
  try dsimp only
  unfold bp.append;split
  .rfl
  .split
   .rfl
   .split
    .rfl
    .split
     .rfl
     .rw[rL h];rfl
theorem JN{w:Pow}(h:w.calm)(a:aF)(x:Int):(fw w a x).2.1=w:=by
 unfold fw;cases bR a x with
 |none=>rfl
 |some d=>
  try dsimp only
  unfold bp.sync;split
  .rfl
  .rw[rL h];rfl
theorem oQ{w:Pow}(h:w.calm):∀(l:List (Int×aR)) (ds:aF),(fQ l w ds).2.1=w
 |[],_=>rfl
 |x::l,ds=>by
  rw[kV,ES h];split
  .exact oQ h l _
  .exact ES h _ _ _
theorem Hk{w:Pow}(h:w.calm):∀(l:aC) (ds:aF),(iO l w ds).2.1=w
 |[],_=>rfl
 |x::l,ds=>by
  rw[mO,JN h];split
  .exact Hk h l _
  .exact JN h _ _
theorem ul{w:Pow}(h:w.calm)(l:List (Int×aR))(a:aF):(layAll l w a).2.1=w:=by
 unfold layAll
 try dsimp only
 rw[oQ h];split
 .exact Hk h _ _
 .exact oQ h _ _
theorem OK{w:Pow}{d:bp}{n:Nat}{b:aR}(h:w.calm)(a:d.lost=eY)(e:n4 d.l+(n+1)<=d.room)(c:n4 b=64):d.append w b=(0,w,{d with l:=d.l++[b],wait:=d.wait+1,laid:=[],has:=eY}):=by unfold bp.append;rw[nq n7,nq o4,nq n7,nq (by simp[h.1]),rL h];rfl
theorem Vo{w:Pow}{d:bp}(h:w.calm)(a:d.lost=eY):d.sync w=(0,w,{d with wait:=0,laid:=[],has:=eY}):=by unfold bp.sync;rw[nq o4,rL h];rfl
def KX(a:aF)(P:List (Int×aR))(s:Int):Option bp:=
 (bR a s).map λd=>{d with l:=d.l++(P.filter λx=>decide (x.1=s)).map zh,wait:=d.wait+n4 (P.filter λx=>decide (x.1=s)),laid:=if(P.filter λx=>decide (x.1=s)).isEmpty then d.laid else[],has:=if(P.filter λx=>decide (x.1=s)).isEmpty then d.has else eY}
theorem Do{w:Pow}(h:w.calm){S:aC}:∀(P:List (Int×aR)) (ds:aF),Fit ds S (P.map qA)->(∀x∈P,x.1∈S/\x.2.length=64)->
  (fQ P w ds).1=0/\Fit (fQ P w ds).2.2 S []/\∀s,bR (fQ P w ds).2.2 s=KX ds P s
 |[],ds,F,_=>⟨n5,F,λs=>by unfold KX;show bR ds s=_;simp⟩
 |x::P,ds,F,hP=>by
  obtain⟨d,k,o,g⟩:=F.at_ x.1 (hP x (qR ..)).1;rw[wu,List.count_cons_self]at g;have c:=(hP x (qR ..)).2;obtain⟨n,i,a⟩:=kB k;have m:=OK (n:=(P.map qA).count x.1) h o n7 c;have e:dV w ds x.1 x.2=(0,w,iD ds x.1 {d with l:=d.l++[x.2],wait:=d.wait+1,laid:=[],has:=eY}):=by unfold dV;grind
  obtain⟨_,b⟩:=BQ w x.2 (x:=x.1) (Q:=P.map qA) F (hP x (qR ..)).1 c;rw[kV,e];rw[e]at b;rw[m6 rfl];obtain⟨f,p,a3⟩:=Do h P _ b λy j=>hP y (qp _ j);refine⟨f,p,λs=>?_⟩;rw[a3 s];unfold KX;rw[i,Ay _ _ _ _ a F.len,]
  grind
theorem Hl{w:Pow}(h:w.calm){S:aC}:∀(l:aC) (ds:aF),Fit ds S []->(∀x∈l,x∈S)->
  (iO l w ds).1=0/\Fit (iO l w ds).2.2 S []/\∀s,bR (iO l w ds).2.2 s=(bR ds s).map λd=>if s∈l then{d with wait:=0,laid:=[],has:=eY}else d
 |[],ds,F,_=>⟨n5,F,λs=>by show bR ds s=_;simp⟩
 |x::l,ds,F,hl=>by
  obtain⟨d,c,j,m⟩:=F.at_ x (hl x (qR ..));obtain⟨n,b,a⟩:=kB c;have e:fw w ds x=(0,w,iD ds x {d with wait:=0,laid:=[],has:=eY}):=by unfold fw;rw[c];(try dsimp only);rw[Vo h j]
  obtain⟨_,f⟩:=EP w F (hl x (qR ..));rw[mO,e];rw[e]at f;rw[m6 rfl];obtain⟨g,k,a3⟩:=Hl h l _ f λy i=>hl y (qp _ i);refine⟨g,k,λs=>?_⟩;rw[a3 s,b,Ay _ _ _ _ a F.len,<-b]
  grind
abbrev fW(a:hU)(w:Pow):HP:=eF 89 a w
theorem Bt(H:aa B h0 h (fW a w::As)):ak xR 28 #[xJ (dB a)] h λv h'=>v=xL w.step.1/\aa B h0 h' (fW a w.step.2::As):=by
 obtain⟨l,t,c⟩:=H.jE;refine ts Tryz.func28 ?_ (HF (HF (G0 (Hf [] [(2,3),(7,28)] (I1 [(17,oe)] [(7,18)] G6)) G6)));refine⟨a,n5,w.off,(c.box 0 n5).cell0 n5,aT (λe=>?_) λe=>?_⟩
 .have:w.step=(eY,w):=by unfold Pow.step;rw[m6 e]
  rw[this];exact⟨n5,H⟩
 have o:w.off=eY:=e;refine aE (aE ⟨a,n5,_,(c.box 0 n5).cell n5,aT (λm=>?_) λm=>?_⟩)
 .obtain⟨k,b⟩:∃k,w.fuse=dB k:=yP.1 m;obtain⟨rfl,y⟩:=t k b;have u:powC w (k:Int)=[xL eY,xL eX,xH xN k,xH xN w.offs]:=by simp[powC,o,b]
  rw[u]at c;refine⟨a,n5,_,(c.box 0 n5).cell n5,be (λi=>?_) λi=>?_⟩
  .have p:k=0:=n7
   subst p;have f:w.step=(eY,⟨eX,dB 0,qc xN (w.offs+1)⟩):=by unfold Pow.step;rw[nq (by simp[o]),b]
   rw[f];refine⟨a,n5,c.iB ag 0 n5 n5 [xL eX] n5 n5 n5 oo λx q=>?_⟩;refine⟨a,n5,w.offs,(q.box 0 n5).cell n5,a,n5,q.store ag 0 n5 n5 3 [xH xN (qc xN (w.offs+1))] n5 n5 n5 C4 λh3 g=>⟨n5,?_⟩⟩;refine aa.mE (l:=((0:Nat):Int)) (λr d=>by cases d;exact⟨n5,n8⟩) ?_;exact g
  .obtain⟨j,rfl⟩:∃j,k=j+1:=⟨k-1,n7⟩
   have f:w.step=(eX,⟨eY,dB j,w.offs⟩):=by unfold Pow.step;rw[nq (by simp[o]),b]
   rw[f];refine⟨a,n5,_,(c.box 0 n5).cell n5,aT (λ_=>?_) λe=>o1⟩;refine⟨a,n5,_,(c.box 0 n5).cell n5,a,n5,c.store ag 0 n5 n5 2 [xH xN (qc xN (((j+1:Nat):Int)-1))] n5 n5 n5 C4 λh3 g=>⟨n5,?_⟩⟩;refine aa.mE (l:=(j:Int)) (λr d=>by cases d;exact⟨n5,n7⟩) ?_;rw[af _]at g;have s:((j+1:Nat):Int)-1=(j:Int):=n7
   rw[s]at g;exact g
 .have b:w.fuse=eH:=by cases b:w.fuse with|none=>rfl|some k=>rw[b]at m;cases m
  have f:w.step=(eX,w):=by unfold Pow.step;rw[nq (by simp[o]),b]
  rw[f];refine aT (λe=>o1) λ_=>⟨a,n5,_,(c.box 0 n5).cell n5,aT (λi=>by rw[b]at i;cases i) λ_=>⟨rfl,H⟩⟩
abbrev dz(pw:hU)(d:bp)(s b:Sl):aS:=[xH xN d.room,xJ (dB pw),s,xH xN d.wait,xL d.has,b,xL d.lost]
abbrev ib(pw a:hU)(d:bp):HP:=kb 174 (dz pw) a d
section
variable {pw:hU}
theorem OL(n:Int)(pw:hU)(h:m5):ak xR 110 #[xH xN n,xJ (dB pw)] h λv h'=>
  (1<=n/\n<=512->∃a,v=xJ (dB a)/\Sp h h' [ib pw a (bp.new n.toNat)])/\(¬(1<=n/\n<=512)->v=xJ eH/\Sp h h' []):=by
 refine ts Tryz.func110 ?_ (HF (I1 [] [(4,15)] G6));refine aE (ae (λe=>⟨λc=>absurd c n7,λ_=>⟨n5,Sp.refl h⟩⟩) λj=>ae (λe=>⟨λc=>absurd c n7,λ_=>⟨n5,Sp.refl h⟩⟩) λd=>aT (λe=>o1) λ_=>?_);refine(Sp.refl h).boxed λa i g=>⟨λ_=>⟨a,n5,?_⟩,λc=>absurd n7 c⟩
 refine aa.iC (s:=⟨eH,0,0⟩) (b:=⟨eH,0,0⟩) (eZ.new n7) ?_;have e:((n.toNat:Nat):Int)=n:=n7
 have f:=((g.jm 41 5 1 aq).jm 41 5 1 aq).aG 3 [2,1,0];have d:dz pw (bp.new n.toNat) ⟨eH,0,0⟩ ⟨eH,0,0⟩=[xH xN n,xJ (dB pw),xI eH 0 0,xH xN 0,xL eY,xI eH 0 0,xL eY]:=by simp only[dz,bp.new,e];rfl
 rw[d];exact f
theorem MV(x:Sl)(row:aR)(H:aa B h0 h (ib pw a d::fW pw w::As))(T:St B h0 As λh=>Rd h x 1 aq row)(hr:n4 row<=2^20):
  ak xR 201 #[xJ (dB a),x] h λv h'=>v=xH xN (d.append w row).1/\aa B h0 h' (ib pw a (d.append w row).2.2::fW pw (d.append w row).2.1::As):=by
 refine ts Tryz.func201 ?_ (HF (HF (HF (HF (I1 [] [(40,60)] G6))))) [(10,(.l [0,1,2,3,4,5,6,10,11,12,13,14,7,8,9,15,16,17,18,19,20]))];have ad:=(T.at [_,_] H).len;obtain⟨ok,s,b,S⟩:=H.jV;have J:=S.box 0 n5;obtain⟨ab,_⟩:=aa.lE (S.aG 4 [1]);have R:=ok.room;have V:=ok.len;have Q:=ok.wait;have j:∀(e:Int),d.append w row=(e,w,d)->(Value.int .i64 e=xH xN (d.append w row).1/\aa B h0 h (ib pw a (d.append w row).2.2::fW pw (d.append w row).2.1::As)):=λe he=>by
  rw[he];exact⟨n5,H⟩
 refine bt (λe=>j 1 (by unfold bp.append;rw[m6 n7])) λah=>?_;have F:n4 row=64:=n7
 refine⟨a,n5,d.lost,J.cell n5,aT (λe=>j 5 ?_) λi=>?_⟩
 .unfold bp.append;rw[nq n7,m6 e]
 refine⟨a,n5,s,J.cell n5,a,n5,(d.room:Int),J.cell0 n5,be (λe=>j 7 ?_) λt=>?_⟩
 .unfold bp.append;rw[nq n7,nq (by simp[i]),m6 n7]
 have E:=S.aG 4 [3,0,1,2];obtain⟨l,hl,M⟩:=E.jE;have W:∀{P:Prop},d.room<=n4 d.l->P:=λK=>absurd (show(s.len:Int)=d.room by omega) t;refine⟨a,n5,dB pw,J.cell n5,pw,n5,w.off,(M.box 0 n5).cell0 n5,a,n5,dB pw,J.cell n5,(Bt E).I3 λh2 o=>?_⟩;have o:=o.aG 4 [1,2,3,0];have I:=o.box 0 n5;refine⟨_,n5,?_⟩;by_cases f:w.off=eX
 .have hs:w.step=(eY,w):=by unfold Pow.step;rw[m6 f]
  have Y:d.append w row=(14,w,d):=by unfold bp.append;rw[nq n7,nq (by simp[i]),nq λK=>W K,m6 f]
  rw[hs]at o⊢;refine aE (aH (λe=>absurd e (by simp[f])) λ_=>aH (λ_=>?_) λe=>o1);rw[Y];exact⟨n5,o.iC ok⟩
 have p:w.off=eY:=B4
 have A:d.append w row=if w.step.1 then(0,w.step.2,{d with l:=d.l++[row],wait:=d.wait+1,laid:=[],has:=eY})else(14,w.step.2,{d with l:=d.l++[row],wait:=d.wait+1}):=by unfold bp.append;rw[nq n7,nq (by simp[i]),nq λK=>W K,nq f]
 rw[A];refine aE (aH (λ_=>?_) λe=>absurd e F8);refine⟨a,n5,s,I.cell n5,a,n5,(d.wait:Int),I.cell n5,?_⟩;have O:=T.at [_,_,_,_] o;refine(o.nil 5 1 aq).bc.append ag 0 n5 cK ⟨_,_,n5,n5⟩ n5 n8 (λ_=>rfl) O cB oi λr U D=>?_;have D:aa B h0 U (ai 5 r 1 aq row::an a 174 (dz pw d s b)::ce s d.l::ce b d.laid::fW pw w.step.2::As):=D;have m:=D.box 1 n5;refine⟨⟨m.cell n5,m.cell n5,I6⟩,?_⟩;refine D.ke ag bv cI n5 [r] n5 (show 1*1<=2^20 by decide) n5 ⟨m.cell n5,m.cell n5,I6⟩ ?_;have N:aa B h0 U (ce s d.l::ai 5 r 1 aq row::an a 174 (dz pw d s b)::ce b d.laid::fW pw w.step.2::As):=D.aG 5 [2,0,1,3,4];refine N.mh ag cI n7 λz h6 L=>?_;have L:aa B h0 h6 (an a 174 (dz pw d s b)::ce z (d.l++[row])::ce b d.laid::fW pw w.step.2::As):=L.aG 4 [1,0,2,3];refine⟨⟨(L.box 0 n5).cell n5,I6⟩,?_⟩;refine⟨a,n5,L.store ag 0 n5 n5 2 [z] n5 n5 n5 p8 λh7 H7=>⟨I6,?_⟩⟩;refine⟨a,n5,?_⟩;rw[af ((d.wait:Int)+1)];refine H7.store ag 0 n5 n5 3 [xH xN ((d.wait:Int)+1)] n5 n5 n5 p8 λh8 H8=>⟨I6,?_⟩
 obtain⟨u,k⟩:∃u:bp,u={d with l:=d.l++[row],wait:=d.wait+1}:=⟨_,rfl⟩
 have g:eZ u:=by
  subst k;refine⟨oi,oi,ok.room,λc y=>?_,ok.laid,ok.cellL⟩;rcases qx.1 y with y|y
  .exact ok.cell c y
  .rw[qB.1 y];exact F
 have q:aa B h0 h8 (an a 174 (dz pw u z b)::ce z u.l::ce b u.laid::fW pw w.step.2::As):=by rw[k];exact H8
 refine aH (λe=>?_) (λe=>?_)
 .rw[e,nq n8];rw[k]at q g;exact⟨n5,q.iC g⟩
 .rw[e,m6 rfl];refine⟨a,n5,q.store ag 0 n5 n5 4 [xL eY] n5 n5 n5 p8 λh9 Z=>?_⟩;refine⟨a,n5,Z.store ag 0 n5 n5 5 [xI eH 0 0] n5 n5 n5 p8 λX G=>⟨n5,?_⟩⟩;rw[k]at G g;refine aa.iC (s:=z) (b:=⟨eH,0,0⟩) ⟨g.wait,g.len,g.room,g.cell,qX _,oo⟩ ?_;exact((G.jm 41 5 1 aq).aG 5 [1,2,0,4])
theorem Sm(H:aa B h0 h (ib pw a d::fW pw w::As)):
  ak xR 202 #[xJ (dB a)] h λv h'=>v=xH xN (d.sync w).1/\aa B h0 h' (ib pw a (d.sync w).2.2::fW pw (d.sync w).2.1::As):=by
 refine ts Tryz.func202 ?_;obtain⟨ok,s,b,i⟩:=H.jV;have j:=i.box 0 n5;refine⟨a,n5,d.lost,j.cell n5,aT (λe=>?_) λc=>?_⟩
 .have:d.sync w=(5,w,d):=by unfold bp.sync;rw[m6 e]
  rw[this];exact⟨n5,H⟩
 refine⟨a,n5,dB pw,j.cell n5,(Bt (i.aG 4 [3,0,1,2])).I3 λn g=>?_⟩;have g:=g.aG 4 [1,2,3,0];have f:d.sync w=if w.step.1 then(0,w.step.2,{{d with wait:=0}with laid:=[],has:=eY})else(14,w.step.2,d):=by unfold bp.sync;rw[nq B9]
 rw[f];refine⟨_,n5,aH (λe=>?_) λe=>?_⟩
 .rw[e];exact⟨n5,g.iC ok⟩
 .rw[e];refine⟨a,n5,g.store ag 0 n5 n5 3 [xH xN 0] n5 n5 n5 p8 λh3 m=>?_⟩;refine⟨a,n5,m.store ag 0 n5 n5 4 [xL eY] n5 n5 n5 p8 λo l=>?_⟩;refine⟨a,n5,l.store ag 0 n5 n5 5 [xI eH 0 0] n5 n5 n5 p8 λp k=>⟨n5,?_⟩⟩;refine aa.iC (s:=s) (b:=⟨eH,0,0⟩) ⟨qX _,ok.len,ok.room,ok.cell,qX _,oo⟩ ?_;exact((k.jm 41 5 1 aq).aG 5 [1,2,0,4])
theorem ib.box(H:aa B h0 h (ib pw a d::As)):eZ d/\∃s b:Sl,bV h a 174 (dz pw d s b)/\dT h s 1 aq d.l/\s.len=n4 d.l:=by obtain⟨ok,s,b,c⟩:=H.jV;exact⟨ok,s,b,c.box 0 n5,(c.aG 3 [1]).uC λ_=>rfl,(aa.lE (c.aG 3 [1])).1⟩
end
theorem Vp(b:Sl)(l:aR)(h:m5)(q:Rd h b 1 aq l)(E:n4 l<=2^40):ak xR 210 #[b] h λv h'=>v=xH xP (Ck l).toNat/\h'=h:=by
 refine ts Tryz.func210 ?_ (HF (HF (G0 (HF (G7 (G9 [(3,(.sc (.int .u32))),(8,aI)] [(3,6),(8,31)] (HF (HF (G0 (G7 (HF (HF (HF (G7 (G9 [(3,(.sc (.int .u32))),(5,aI)] [(3,4),(5,6),(18,30)] G6)))))) G6)))))) G6)));have D:=q.len;refine aj (λt:Nat=>(((mf (l.take t)).toNat:Int),(t:Int))) (λt h'=>t<=n4 l/\h'=h) (λt=>n4 l-t) 0 n5 ⟨n7,n5⟩ ?_;rintro i A ⟨F,rfl⟩;refine ae (λe=>?_) (λe=>?_)
 .have d:i<n4 l:=by have w:(i:Int)<(b.len:Int):=e;omega
  refine q.aV i n5 d (l[i].toNat:Int) n5 ?_;have y:qc xP (l[i].toNat:Int)=((yJ 32 l[i].toNat).toNat:Int):=by rw[Cl,BitVec.ofInt_natCast]
  rw[y,DP];refine aj (λk:Nat=>(((nR k (mf (l.take i)^^^yJ 32 l[i].toNat)).toNat:Int),(k:Int))) (λk h'=>k<=8/\h'=A) (λk=>8-k) 0 n5 ⟨n7,n5⟩ ?_;rintro k p ⟨B,rfl⟩;obtain⟨c,g⟩:=I5 (nR k (mf (l.take i)^^^yJ 32 l[i].toNat))
  try dsimp only
  rw[<-g];refine ae (λx=>?_) (λx=>?_)
  .have a:∀n:rv,n=tm c->∃f:Nat,(((n.toNat:Nat):Int),qc xN ((k:Int)+1))=(((nR f (mf (l.take i)^^^yJ 32 l[i].toNat)).toNat:Int),(f:Int))/\(f<=8/\p=p)/\8-f<8-k:=λn u=>
    ⟨k+1,by rw[af _,u,g];rfl,⟨n7,n5⟩,n7⟩
   have r:qc xP ((qG (qq xP) (c.toNat:Int)&&&qG (qq xP) (1:Int)).toNat:Nat)=((c&&&1#32).toNat:Int):=YR c 1#32;have s:qc xP ((qG (qq xP) ((c>>>1).toNat:Int)^^^qG (qq xP) (3988292384:Int)).toNat:Nat)=(((c>>>1)^^^3988292384#32).toNat:Int):=DP (c>>>1) 3988292384#32;rw[r,PG,s];refine be (λm=>⟨n8,a _ ?_⟩) (λm=>⟨n8,a _ ?_⟩)
   .unfold tm;rw[m6 ((DQ c).1 m)]
   .unfold tm;rw[nq λz=>m ((DQ c).2 z)]
  .have j:k=8:=n7
   subst j;refine⟨i+1,?_,⟨n7,n5⟩,n7⟩;rw[af _,az _ _ d,Gu,g];rfl
 .have o:i=n4 l:=by have w:¬(i:Int)<(b.len:Int):=e;omega
  subst o;refine⟨?_,n5⟩;rw[qt];exact congrArg (Value.int .u32) (DP 4294967295#32 (mf l))
theorem Sn(n:Int)(k t:Nat)(a:t<k):(cy n k).take t++[b8 (zo n (2^(8*(k-1-t))))]=(cy n k).take (t+1):=by rw[az _ _ (by rw[bL];exact a)];congr 2;simp[cy]
theorem ju(s:Sl)(l:aR)(n:Int)(k:Nat)(m:k<=4)(o:n4 l<=2^30)(H:aa B h0 h (ai 5 s 1 aq l::As)):
  ak xR 143 #[s,xH xN n,xH xN k] h λv h'=>∃r:Sl,v=r/\aa B h0 h' (ai 5 r 1 aq (l++cy n k)::As):=by
 refine ts Tryz.func143 ?_ (HF (I0 [(0,bK),(7,aI)] [(0,1),(7,8),(10,22)]));rw[af ((k:Int)-1)];refine aj (λt:Sl×Nat=>(t.1,(k:Int)-1-t.2)) (λt h'=>t.2<=k/\aa B h0 h' (ai 5 t.1 1 aq (l++(cy n k).take t.2)::As)) (λt=>k-t.2) (s,0) oo ⟨oo,v8⟩ ?_;rintro⟨r,t⟩ p ⟨q,b⟩;dsimp only at*;refine ae (λe=>?_) (λe=>?_)
 .have a:t<k:=n7
  have i:qc xN ((8:Int)*((k:Int)-1-t))=((8*(k-1-t):Nat):Int):=by rw[af _];omega
  rw[i,qi];have g:min (8*(k-1-t)) (qq xN)=8*(k-1-t):=by have:qq xN=64:=rfl;omega
  rw[g,cb];refine⟨n7,?_⟩;refine b.push ag 0 n5 cK n5 n8 (λ_=>rfl) cB (b8 (zo n (2^(8*(k-1-t))))) n5 n8 p9 λf j d=>?_;refine⟨(f,t+1),?_,⟨n9,?_⟩,n9⟩
  .try dsimp only
   have c:qc xN ((k:Int)-1-t-1)=(k:Int)-1-((t+1:Nat):Int):=by rw[af _];omega
   rw[c]
  .try dsimp only
   rw[<-Sn n k t a,<-ql];exact d
 .have:t=k:=n7
  subst this;rw[qf (by rw[bL];omega)]at b;exact⟨r,n5,b⟩
theorem Dp(a:Int)(b:Sl)(l:aR)(h:m5)(z:Rd h b 1 aq l)(M:n4 l<=2^40:=by omega):ak xR 142 #[xH xN a,b] h λv h'=>∃r:Sl,v=r/\Sp h h' [ai 5 r 1 aq (eS a l)]:=by
 refine ts Tryz.func142 ?_ (HF (I1 [] [(4,5),(7,18)] (HF (G0 (G7 (G9 [(5,bK)] [(5,6),(23,29)] G6)) G6))));have L:=z.len;have d:¬(1<=a/\a<=255/\l.length<=55)->∃r:Sl,Value.slice eH 0 0=xI r.ptr r.len r.cap/\Sp h h [ai 5 r 1 aq (eS a l)]:=λe=>by
  unfold eS;rw[nq e];exact⟨⟨eH,0,0⟩,n5,(Sp.refl h).nil 5 1 aq⟩
 refine aE (ae (λe=>d n7) λP=>ae (λe=>d n7) λO=>ae (λe=>d n7) λK=>?_);rw[cb];refine(Sp.refl h).lit ag aq cK n5 [87,115,1,b8 a] n5 (show 4*1<=2^20 by decide) n5 λv3 h3 x=>?_;refine x.append ag 0 n5 cK ⟨_,_,n5,n5⟩ n5 n8 (λ_=>rfl) (Seq.up z x.ac) cB oi λy B i=>?_;have i:Sp h B [ai 5 y 1 aq ([87,115,1,b8 a]++l)]:=i;refine aj (λt:Sl×Nat=>t.1) (λt h'=>t.2<=55-n4 l/\Sp h h' [ai 5 t.1 1 aq ([87,115,1,b8 a]++l++qh t.2 0)]) (λt=>55-n4 l-t.2) (y,0) n5 ⟨oo,by simpa using i⟩ ?_;rintro⟨J,j⟩ G ⟨Q,f⟩;dsimp only at*;have p:=(f.own 0 n5).len;simp only[qo,q7,wK,wU]at p;refine ae (λe=>?_) (λe=>?_)
 .refine f.push ag 0 n5 cK n5 n8 (λ_=>rfl) cB 0 n5 n8 oi λD I E=>?_;refine⟨(D,j+1),n5,⟨n9,?_⟩,n9⟩
  try dsimp only
  rw[yL,<-ql];exact E
 .have m:j=55-n4 l:=n7
  subst m;have H:[87,115,1,b8 a]++l++qh (55-n4 l) 0=ff a l:=rfl;rw[H]at f;have g:n4 (ff a l)=59:=tp;refine(Vp J (ff a l) G (f.seq 0 n5 λ_=>rfl) n7).I2 ?_;obtain⟨c,s⟩:=I5 (Ck (ff a l))
  rw[<-s];refine⟨_,n5,n8,n8,n8,?_⟩;have A:min (8:Int).toNat (qq xP)=8:=rfl;have q:min (16:Int).toNat (qq xP)=16:=rfl;have o:min (24:Int).toNat (qq xP)=24:=rfl;rw[A,q,o,cb,cb,cb,cb];refine f.lit ag aq cK n5 [b8 (c.toNat:Int),b8 (zo (c.toNat:Int) (2^8)),b8 (zo (c.toNat:Int) (2^16)),b8 (zo (c.toNat:Int) (2^24)),165] n5 (show 5*1<=2^20 by decide) n5 λN R u=>?_;refine u.append ag 0 n5 cK ⟨_,_,n5,n5⟩ n5 n8 (λ_=>rfl) (u.seq 1 n5 λ_=>rfl) cB C0 λF h8 w=>⟨F,n5,?_⟩
  have k:ff a l++[b8 (c.toNat:Int),b8 (zo (c.toNat:Int) (2^8)),b8 (zo (c.toNat:Int) (2^16)),b8 (zo (c.toNat:Int) (2^24)),165]=eS a l:=by unfold eS;rw[m6 ⟨n7,n7,n7⟩,<-s];simp[rU,zC]
  rw[k]at w;exact w.bu [0]
theorem dS(p:Pm)(h:m5):ak xR 130 #[go p] h λv h'=>v=xL (bH p)/\Sp h h' []:=by refine ts Tryz.func130 ?_ (args:=[p]);refine(Sp.refl h).boxed λa d j=>?_;have e:=j.box 0 n5;have c:Sp h d []:=.zip j.ac;have i:hY d a=dB (xH xN p.1):=e.cell0 n5;have g:hY d (a.add 1)=dB (xH xN p.2.1):=e.cell n5;have f:hY d (a.add 2)=dB (xH xN p.2.2):=e.cell n5;unfold bH;refine⟨_,i,ae (λb=>?_) λb=>⟨v7,c⟩⟩;rw[n1 b];refine⟨_,i,ae (λb=>?_) λb=>⟨v7,c⟩⟩;rw[n1 b];refine⟨_,g,ae (λb=>?_) λb=>⟨v7,c⟩⟩;rw[n1 b];refine⟨_,g,ae (λb=>?_) λb=>⟨v7,c⟩⟩;rw[n1 b];refine⟨_,f,ae (λb=>?_) λb=>⟨v7,c⟩⟩;rw[n1 b];exact⟨_,f,n5,c⟩
theorem BR:∀x y:aR,(Op.bytesLess x y||x==y)=!Op.bytesLess y x
 |[],[]=>rfl
 |[],_::_=>rfl
 |_::_,[]=>by simp[Op.bytesLess]
 |a::x,b::y=>by
  have f:=BR x y;have d:a<b∨a=b∨b<a:=by
   rcases vP a.toNat b.toNat with h|h|h
   .exact .inl (wV.2 h)
   .exact .inr (.inl (UInt8.toNat_inj.1 h))
   .exact .inr (.inr (wV.2 h))
  rcases d with h|rfl|h
  .have c:¬b<a:=λh'=>by have:=wV.1 h;have:=wV.1 h';omega
   have e:b≠a:=λh'=>by subst h';exact c h
   simp[Op.bytesLess,h,c,e]
  .have c:¬a<a:=λh'=>by have:=wV.1 h';omega
   simp only[Op.bytesLess,c,decide_false,yn,beq_self_eq_true,Bool.true_and];rw[<-f];congr 1;simp
  .have c:¬a<b:=λh'=>by have:=wV.1 h;have:=wV.1 h';omega
   have e:a≠b:=λh'=>by subst h';exact c h
   simp[Op.bytesLess,h,c,e]
theorem Hm(s:ByteArray)(h:m5)(B:s.size<=2^40):ak xR 113 #[xK s] h λv h'=>v=xL (gJ s)/\h'=h:=by
 refine ts Tryz.func113 ?_ (HF (I0 [(3,aI)] [(2,33)]));have z:n4 s.data.toList=s.size:=tG s;refine aj (λi:Nat=>(i:Int)) (λi h'=>i<=s.size/\h'=h/\∀c∈s.data.toList.take i,ga c=eX) (λi=>s.size-i) 0 n5 ⟨n7,n5,oo⟩ ?_;rintro i j ⟨D,rfl,f⟩;refine ae (λe=>?_) (λe=>?_)
 .have k:i<n4 s.data.toList:=by have y:(i:Int)<(s.size:Int):=e;omega
  obtain⟨c,o⟩:=I5 (s.data.toList[i])
  refine⟨c,⟨n7,?_⟩,?_⟩
  .rw[qi,<-Array.getElem?_toList,qd k,o]
  have b:ga c=eX->∃g:Nat,qc xN ((i:Int)+1)=(g:Int)/\(g<=s.size/\j=j/\∀c∈s.data.toList.take g,ga c=eX)/\s.size-g<s.size-i:=λu=>
   ⟨i+1,o0,⟨n7,n5,λx l=>by
    rw[az _ _ k]at l;rcases qx.1 l with l|l
    .exact f x l
    .rw[qB.1 l,<-o];exact u⟩,n7⟩
  have r:ga c=eY->Value.bool eY=xL (gJ s)/\j=j:=λu=>by
   refine⟨?_,n5⟩;unfold gJ;have:s.data.toList.all ga=eY:=z6.2 ⟨c,by rw[o];exact qe k,by rw[u];simp⟩;rw[this];rfl
  have d:ga c=eX↔((97<=(c.toNat:Int)/\(c.toNat:Int)<=122)∨(48<=(c.toNat:Int)/\(c.toNat:Int)<=57)∨(c.toNat:Int)=45):=by unfold ga;simp[or_assoc];omega
  have q:ga c=eY↔¬((97<=(c.toNat:Int)/\(c.toNat:Int)<=122)∨(48<=(c.toNat:Int)/\(c.toNat:Int)<=57)∨(c.toNat:Int)=45):=by rw[<-d];cases ga c<;>simp
  have a:¬(97<=(c.toNat:Int)/\(c.toNat:Int)<=122)->¬(48<=(c.toNat:Int)/\(c.toNat:Int)<=57)->Br (!((c.toNat:Nat)==(45:Int))) (Value.bool eY=xL (gJ s)/\j=j) (∃g:Nat,qc xN ((i:Int)+1)=(g:Int)/\(g<=s.size/\j=j/\∀c∈s.data.toList.take g,ga c=eX)/\s.size-g<s.size-i):=λE F=>by
   refine bt (λm=>r (q.2 n7)) λm=>b (d.2 n7)
  exact ae (λt=>ae (λA=>b (d.2 n7)) λA=>ae (λm=>ae (λp=>b (d.2 n7)) λp=>a n7 n7) λm=>a n7 n7) λt=>ae (λm=>ae (λp=>b (d.2 n7)) λp=>a n7 n7) λm=>a n7 n7
 .have y:¬(i:Int)<(s.size:Int):=e;rw[qf n7]at f;have w:s.data.toList.all ga=eX:=qP.2 f;refine ae (λt=>⟨?_,n5⟩) (λt=>⟨?_,n5⟩)
  .unfold gJ;rw[w,n1 (show 1<=s.size by omega)];congr 1;simp;omega
  .unfold gJ;rw[w,n2 (show¬1<=s.size by omega)];rfl
theorem XR(n w:Int)(g:0<n)(d:0<w):(if n%w>0 then n/w+1 else n/w)=(n-1)/w+1:=by
 have c:=Int.emod_add_mul_ediv n w;have f:=yx n (show w≠0 by omega);have h3:=wj n d;obtain⟨q,b⟩:=I5 (n/w)
 obtain⟨r,a⟩:=I5 (n%w)
 rw[<-b,<-a]at c;rw[<-a]at f h3;rw[<-a,<-b];by_cases h:r>0
 .rw[m6 h];have e:n-1=(r-1)+w*q:=n7
  rw[e,Int.add_mul_ediv_left _ _ n7,Int.ediv_eq_zero_of_lt n7 n7];omega
 .rw[nq h];have e:n-1=(w-1)+w*(q-1):=by rw[Int.mul_sub];omega
  rw[e,Int.add_mul_ediv_left _ _ n7,Int.ediv_eq_zero_of_lt n7 n7];omega
theorem rh(p:Pm)(n:Int)(h:m5)(s:n<=2^40:=by omega):ak xR 62 #[go p,xH xN n] h λv h'=>v=xH xN (countP p n)/\Sp h h' []:=by
 refine ts Tryz.func62 ?_ (HF (I1 [] [(4,5),(6,13)] (HF (I1 [(5,aI)] [(5,6),(20,30)] G6)))) (args:=[p,(n:Int)]);refine(Sp.refl h).boxed λq o g=>?_;refine aE ⟨p,(g.box 0 n5).aw _ n5,(dS p o).I3 λr l=>?_⟩;have b:=g.up l.ac;have c:=b.box 0 n5;refine⟨_,n5,aH (λe=>⟨by unfold countP;rw[e];rfl,.zip b.ac⟩) λe=>?_⟩;have em:bH p=eX:=p7
 have j:=(bI p).1 em;have t:p.1*p.2.2<=16*24:=we n7 n7 n7 n7;have f:0<p.1*p.2.2:=Int.mul_pos n7 n7;refine ae (λm=>⟨by unfold countP;rw[em,n2 n7];rfl,.zip b.ac⟩) λm=>?_;refine⟨p.1,c.cell0 n5,p.2.2,c.cell n5,?_⟩
 try dsimp only
 rw[af (p.1*p.2.2)];refine⟨n7,aE ⟨p.1,c.cell0 n5,p.2.2,c.cell n5,?_⟩⟩
 try dsimp only
 rw[af (p.1*p.2.2)];refine⟨n7,?_⟩;rw[yB n7,zS n7];have k:0<=n/(p.1*p.2.2):=Int.ediv_nonneg n7 n7;have i:n/(p.1*p.2.2)<=n:=Int.ediv_le_self _ n7;rw[af (n/(p.1*p.2.2))];have a:(if n%(p.1*p.2.2)>0 then n/(p.1*p.2.2)+1 else n/(p.1*p.2.2))=countP p n:=by
  unfold countP;rw[em];by_cases h0:0<n
  .rw[n1 h0];exact(XR n _ h0 f).trans (m6 n5).symm
  .have:n=0:=n7
   subst this;rw[nq oo,nq oo];simp
 refine ae (λd=>?_) (λd=>?_)
 .rw[m6 d]at a;rw[af _];exact⟨by rw[a],.zip b.ac⟩
 .rw[nq d]at a;exact⟨by rw[a],.zip b.ac⟩
theorem jS(m:aB):bE m=eX↔((1<=m.seq/\m.seq<=2147483647)/\(0<=m.next/\m.next<=16777216)/\bH m.p=eX/\0<=m.extra/\m.extra<=16)/\(∀i,i<n4 m.drives->fL m.drives 63 i=eX)/\m.objs.length<=12/\∀i,i<n4 m.objs->ko m i=eX:=by
 unfold bE ow;rw[qC,qC,qC,qP,qP,decide_eq_true_eq];constructor
 .rintro⟨d,c,h3,b⟩;exact⟨Fs d,λi a=>c i (qY.2 a),h3,λi a=>b i (qY.2 a)⟩
 .rintro⟨⟨⟨h,e⟩,⟨a3,a4⟩,a5,f,g⟩,c,h3,b⟩;refine⟨?_,λi a=>c i (qY.1 a),h3,λi a=>b i (qY.1 a)⟩;unfold kp dM;simp[*]
theorem So(l:aC)(a:Int)(i:Nat):fL l a i=eX↔(0<=l.getD i 0/\l.getD i 0<=a)/\(i=0∨l.getD (i-1) 0<l.getD i 0):=by unfold fL dM;simp
theorem Ho(m:aB)(e:cT):gv m e=eX↔gJ e.name=eX/\(0<=e.object/\e.object<=m.next-1)/\(0<=e.length/\e.length<=m.p.1*m.p.2.2*8)/\(∀t∈e.tries,0<=t/\t<=15)/\(e.tries.length:Int)=countP m.p e.length:=by unfold gv dM;simp[qP]
theorem uS(m:aB)(i:Nat):ko m i=eX↔gv m (jl m.objs i)=eX/\(i=0∨cQ (jl m.objs (i-1)).name (jl m.objs i).name=eX)/\∀y∈m.objs.take i,y.object≠(jl m.objs i).object:=by unfold ko;simp
theorem Dq(x:bi)(m:aB)(h:m5)(A:ct h x m)(hz:bM m):ak xR 72 #[cL x] h λv h'=>v=xL (bE m)/\Sp h h' []:=by
 refine rH x ?_;refine(Sp.refl h).boxed λD h1 V=>?_;have hb:=V.box 0 n5;have S:x.2.2.1=m.p.1:=congrArg (·.1) A.p;have ab:x.2.2.2.1=m.p.2.1:=congrArg (·.2.1) A.p;have Q:x.2.2.2.2.1=m.p.2.2:=congrArg (·.2.2) A.p;have F:∀{h':m5} {As:List HP},Sp h h' As->(bE m=eX->False)->Value.bool eY=xL (bE m)/\Sp h h' []:=λ{h' As} H' hn=>⟨by cases hq:bE m with|false=>rfl|true=>exact absurd hq hn,.zip H'.ac⟩
 have c0:hY h1 D=dB (xH xN m.seq):=by rw[<-A.seq];exact hb.cell0 n5
 have c1:hY h1 (D.add 1)=dB (xH xN m.next):=by rw[<-A.next];exact hb.cell n5
 refine aE ⟨m.seq,c0,ae (λe=>F V λa=>tg) λT=>⟨m.seq,c0,ae (λe=>F V λa=>tg) λN=>⟨m.next,c1,ae (λe=>F V λa=>tg) λz=>⟨m.next,c1,ae (λe=>F V λa=>tg) λZ=>?_⟩⟩⟩⟩;refine⟨m.p,by rw[<-S,<-ab,<-Q];exact hb.mj 2 n5 n5 n5,(dS m.p _).I3 λh2 R2=>?_⟩;have M:=V.up R2.ac;have B:=M.box 0 n5;have ah:=A.up M.ac;have c5:hY h2 (D.add 5)=dB (xH xN m.extra):=by rw[<-A.extra];exact B.cell n5
 have bd:=hz.dr;have bk:=hz.ob;have a6:=bZ.len A.objs;have ax:=A.drives.len;refine⟨_,n5,aH (λb=>F M λa=>by have:=((jS m).1 a).1.2.2.1;rw[b]at this;cases this) λb3=>?_⟩;refine⟨m.extra,c5,ae (λe=>F M λa=>tg) λe5=>⟨m.extra,c5,ae (λe=>F M λa=>tg) λe6=>?_⟩⟩;refine⟨x.2.2.2.2.2.2.2,B.cell n5,ae (λe=>F M λa=>by have:=((jS m).1 a).2.2.1;omega) λa9=>?_⟩;have a2:m.objs.length<=12:=n7
 have a8:=(bI m.p).1 b3;have hk:m.p.1*m.p.2.2<=16*24:=we n7 n7 n7 n7;have bl:0<=m.p.1*m.p.2.2:=vR n7 n7;have R:(1<=m.seq/\m.seq<=2147483647)/\(0<=m.next/\m.next<=16777216)/\bH m.p=eX/\0<=m.extra/\m.extra<=16:=⟨n7,n7,b3,n7,n7⟩
 refine⟨x.2.2.2.2.2.2.1,B.cell n5,?_⟩;refine aj (λi:Nat=>(i:Int)) (λi h'=>i<=m.drives.length/\(∀j,j<i->fL m.drives 63 j=eX)/\h'=h2) (λi=>m.drives.length-i) 0 n5 ⟨n7,n7,n5⟩ ?_;rintro i h3 ⟨hi,o,rfl⟩;refine ae (λe=>?_) (λe=>?_)
 .have l:i<m.drives.length:=by have e':(i:Int)<(x.2.2.2.2.2.2.1.len:Int):=e;omega
  have c:¬fL m.drives 63 i=eX->Value.bool eY=xL (bE m)/\Sp h h3 []:=λhn=>F M λa=>hn (((jS m).1 a).2.1 i l);have next:fL m.drives 63 i=eX->∃t':Nat,qc xN ((i:Int)+1)=(t':Int)/\(t'<=m.drives.length/\(∀j,j<t'->fL m.drives 63 j=eX)/\h3=h3)/\m.drives.length-t'<m.drives.length-i:=λhr=>
   ⟨i+1,o0,⟨n7,λj hj=>by
    by_cases ay:j=i
    .subst ay;exact hr
    .exact o j n7,n5⟩,n7⟩
  rw[So]at c next
  refine ah.drives.aV i n5 l (m.drives.getD i 0) (by rw[getD_lt l];rfl) ?_;refine ae (λT=>c n7) λT=>ae (λN=>c n7) λN=>ae (λz=>?_) λz=>next ⟨n7,.inl n7⟩
  rw[af ((i:Int)-1)];refine⟨x.2.2.2.2.2.2.1,B.cell n5,ah.drives.aV (i-1) n7 n7 (m.drives.getD (i-1) 0) (by rw[getD_lt (show i-1<m.drives.length by omega)];rfl) ?_⟩;exact ae (λZ=>c n7) λZ=>next ⟨n7,.inr n7⟩
 have a4:∀i,i<m.drives.length->fL m.drives 63 i=eX:=λj hj=>o j (by
  have e':¬(i:Int)<(x.2.2.2.2.2.2.1.len:Int):=e;omega)
 refine⟨x.2.2.2.2.2.2.2,B.cell n5,?_⟩;obtain⟨r,F0⟩:=bZ.fix A.objs;have bq:=F0.2.1;refine aj (λi:Nat=>(i:Int)) (λi h'=>i<=m.objs.length/\(∀j,j<i->ko m j=eX)/\Sp h h' [an D 27 (aD x)]) (λi=>m.objs.length-i) 0 n5 ⟨n7,n7,M⟩ ?_;rintro i h3 ⟨hi,o,H3⟩;refine ae (λe=>?_) (λe=>?_)
 .have l:i<m.objs.length:=by have e':(i:Int)<(x.2.2.2.2.2.2.2.len:Int):=e;omega
  obtain⟨E,hE⟩:=I5 (m.objs[i])
  have a0:=hz.nm _ (qe l);rw[<-hE]at a0;have I:jl m.objs i=E:=by rw[hE];exact lD l
  have c:∀{h':m5} {As:List HP},Sp h h' As->(ko m i=eX->False)->Value.bool eY=xL (bE m)/\Sp h h' []:=λ{h' As} H' hb=>F H' λa=>hb (((jS m).1 a).2.2.2 i l);have d:ko m i=eX->_:=λa=>(Ho m E).1 (by rw[<-I];exact((uS m i).1 a).1);have F3:=fO.up F0 H3.ac;refine F3.1.cG (g:=bg) i n5 n7 (r[i]'n7) n5 ?_;refine H3.alloc ag n5 λu h4 H4=>?_;refine H4.storeAll ag 1 n5 n5 (bg (r[i]'n7)) n5 n5 n5 n5 λs n=>?_;have n:Sp h s [an D 27 (aD x),an u 83 (bg (r[i]'n7))]:=n;have F5:=fO.up F0 n.ac;obtain⟨⟨y1,y2,y3⟩,Y⟩:=Fix.row F5 l;rw[<-hE]at y1 y2 y3 Y;have G:=n.box 1 n5;have n0:hY s u=dB (xK E.name):=by rw[<-y1];exact G.cell0 n5
  refine bs (λ_ h'=>(gJ E.name=eX/\(0<=E.object/\E.object<=m.next-1)/\(0<=E.length/\E.length<=m.p.1*m.p.2.2*8)/\(E.tries.length:Int)=countP m.p E.length)/\(i=0∨cQ (jl m.objs (i-1)).name E.name=eX)/\Sp h h' [an D 27 (aD x),an u 83 (bg (r[i]'n7))]) ?_ ?_
  .refine⟨E.name,n0,(Hm E.name s n7).mono ?_⟩;rintro _ s ⟨rfl,rfl⟩;have k0:hY s u=dB (xK E.name):=n0;have k1:hY s (u.add 1)=dB (xH xN E.object):=by rw[<-y2];exact G.cell n5
   have W:hY s (u.add 2)=dB (xH xN E.length):=by rw[<-y3];exact G.cell n5
   have k3:hY s (u.add 3)=dB (.slice (r[i]'n7).2.2.2.ptr (r[i]'n7).2.2.2.len (r[i]'n7).2.2.2.cap):=G.cell n5;have q:=n.box 0 n5;have m1:hY s (D.add 1)=dB (xH xN m.next):=by rw[<-A.next];exact q.cell n5
   have m2:hY s (D.add 2)=dB (xH xN m.p.1):=by rw[<-S];exact q.cell n5
   have m4:hY s ((D.add 2).add 2)=dB (xH xN m.p.2.2):=by rw[<-Q];exact q.mi 2 2 n5
   have m7:hY s (D.add 7)=dB (xI x.2.2.2.2.2.2.2.ptr x.2.2.2.2.2.2.2.len x.2.2.2.2.2.2.2.cap):=q.cell n5;have mp:aZ s (D.add 2) 0 [xH xN m.p.1,xH xN m.p.2.1,xH xN m.p.2.2]:=by rw[<-S,<-ab,<-Q];exact q.mj 2 n5 n5 n5
   refine⟨_,n5,I6,aH (λb=>⟨I6,c n λa=>by have:=(d a).1;rw[b]at this;cases this⟩) λb1=>ae (λN=>?_) λN=>?_⟩
   .rw[af ((i:Int)-1)];have L:jl m.objs (i-1)=m.objs[i-1]:=lD;obtain⟨J,ha,zz,hc,rfl⟩:=F5.1.cG (g:=bg) (i:=(i:Int)-1) (i-1) n7 n7 (r[i-1]'n7) rfl (K:=λt=>t=r[i-1]'n7) rfl;have q0:hY s (J.add (((i:Int)-1).toNat*4))=dB (xK m.objs[i-1].name):=by rw[<-(Fix.row F5 (show i-1<m.objs.length by omega)).1.1];exact hc.1
    refine⟨E.name,k0,x.2.2.2.2.2.2.2,m7,J,ha,m.objs[i-1].name,q0,?_⟩
    try dsimp only
    rw[BR];refine aH (λz=>⟨by repeat (first|exact trivial|refine⟨u7,?_⟩),c n λa=>?_⟩) λz=>?_
    .rcases((uS m i).1 a).2.1 with h0|h0
     .omega
     .rw[I,L]at h0;unfold cQ at h0;rw[h0]at z;cases z
    have ap:cQ (jl m.objs (i-1)).name E.name=eX:=by rw[L];exact z
    refine⟨E.object,k1,ae (λZ=>⟨by repeat (first|exact trivial|refine⟨u7,?_⟩),c n λa=>B8⟩) λZ=>⟨E.object,k1,m.next,m1,ae (λe5=>⟨by repeat (first|exact trivial|refine⟨u7,?_⟩),c n λa=>B8⟩) λe5=>?_⟩⟩;refine⟨E.length,W,ae (λe6=>⟨by repeat (first|exact trivial|refine⟨u7,?_⟩),c n λa=>B0⟩) λe6=>⟨E.length,W,m.p.1,m2,m.p.2.2,m4,?_⟩⟩
    try dsimp only
    rw[af (m.p.1*m.p.2.2),af (m.p.1*m.p.2.2*8)];refine ae (λe7=>⟨by repeat (first|exact trivial|refine⟨u7,?_⟩),c n λa=>B0⟩) λe7=>?_;refine⟨(r[i]'n7).2.2.2,k3,m.p,mp,E.length,W,(rh m.p E.length s).I3 λh6 R6=>?_⟩;have w:=n.up R6.ac;refine⟨_,n5,gF R6.ac (by repeat (first|exact trivial|refine⟨u7,?_⟩)),bt (λe8=>c w λa=>?_) λe8=>⟨⟨b1,n7,n7,?_⟩,.inr ap,w⟩⟩
    .have:=(d a).2.2.2.2;have:=Y.len;omega
    .have:=Y.len;omega
   .refine⟨E.object,k1,ae (λZ=>⟨by repeat (first|exact trivial|refine⟨u7,?_⟩),c n λa=>B8⟩) λZ=>⟨E.object,k1,m.next,m1,ae (λe5=>⟨by repeat (first|exact trivial|refine⟨u7,?_⟩),c n λa=>B8⟩) λe5=>?_⟩⟩;refine⟨E.length,W,ae (λe6=>⟨by repeat (first|exact trivial|refine⟨u7,?_⟩),c n λa=>B0⟩) λe6=>⟨E.length,W,m.p.1,m2,m.p.2.2,m4,?_⟩⟩
    try dsimp only
    rw[af (m.p.1*m.p.2.2),af (m.p.1*m.p.2.2*8)];refine ae (λe7=>⟨by repeat (first|exact trivial|refine⟨u7,?_⟩),c n λa=>B0⟩) λe7=>?_;refine⟨(r[i]'n7).2.2.2,k3,m.p,mp,E.length,W,(rh m.p E.length s).I3 λh6 R6=>?_⟩;have w:=n.up R6.ac;refine⟨_,n5,gF R6.ac (by repeat (first|exact trivial|refine⟨u7,?_⟩)),bt (λe8=>c w λa=>?_) λe8=>⟨⟨b1,n7,n7,?_⟩,.inl n7,w⟩⟩
    .have:=(d a).2.2.2.2;have:=Y.len;omega
    .have:=Y.len;omega
  .rintro _ h6 ⟨⟨b1,b2,a3,b4⟩,b5,w⟩;have F6:=fO.up F0 w.ac;have y6:=(Fix.row F6 l).2;rw[<-hE]at y6;have al:=w.box 1 n5;have br:=Y.len;refine⟨(r[i]'n7).2.2.2,al.cell n5,?_⟩;refine aj (λj:Nat=>(j:Int)) (λj h'=>j<=E.tries.length/\(∀t∈E.tries.take j,0<=t/\t<=15)/\h'=h6) (λj=>E.tries.length-j) 0 n5 ⟨n7,oo,n5⟩ ?_;rintro j h7 ⟨hj,P,rfl⟩;refine ae (λT=>?_) (λT=>?_)
   .have H:j<E.tries.length:=by have e':(j:Int)<((r[i]'n7).2.2.2.len:Int):=T;omega
    refine Seq.aV (f:=ar) y6 j n5 H E.tries[j] n5 ?_;have O:=qe H;refine ae (λN=>c w λa=>by have:=(d a).2.2.2.1 _ O;omega) λN=>ae (λz=>c w λa=>by have:=(d a).2.2.2.1 _ O;omega) λz=>?_;refine⟨j+1,o0,⟨n7,λt U=>?_,n5⟩,n7⟩;rw[az _ _ H]at U;rcases qx.1 U with U|U
    .exact P t U
    .rw[qB.1 U];omega
   .have e':¬(j:Int)<((r[i]'n7).2.2.2.len:Int):=T;rw[qf n7]at P;refine aj (λk:Nat=>(k:Int)) (λk h'=>k<=i/\(∀y∈m.objs.take k,y.object≠E.object)/\h'=h7) (λk=>i-k) 0 n5 ⟨n7,oo,n5⟩ ?_;rintro k h8 ⟨bb,ad,rfl⟩;refine ae (λN=>?_) (λN=>?_)
    .have a7:k<i:=n7
     obtain⟨J,ha,zz,hc,rfl⟩:=F6.1.cG (g:=bg) (i:=(k:Int)) k rfl n7 (r[k]'n7) rfl (K:=λt=>t=r[k]'n7) rfl;have am:k<m.objs.length:=n7
     refine⟨x.2.2.2.2.2.2.2,(w.box 0 n5).cell n5,J,ha,m.objs[k].object,?_,E.object,?_,?_⟩
     .rw[<-(Fix.row F6 am).1.2.1];exact hc.2.1
     .rw[<-y2];exact al.cell n5
     .refine be (λz=>c w λa=>?_) λz=>?_
      .have:=((uS m i).1 a).2.2 m.objs[k] (zV.2 ⟨k,n7,n5⟩);rw[I]at this;exact this z
      .refine⟨k+1,o0,⟨n7,λy X=>?_,n5⟩,n7⟩;rw[az _ _ am]at X;rcases qx.1 X with X|X
       .exact ad y X
       .rw[qB.1 X];exact z
    .have a5:k=i:=n7
     subst a5;refine⟨k+1,o0,⟨n7,λj' H=>?_,w.bu [0]⟩,n7⟩;by_cases ao:j'=k
     .subst ao;rw[uS,I,Ho];exact⟨⟨b1,b2,a3,P,b4⟩,b5,ad⟩
     .exact o j' n7
 .have e':¬(i:Int)<(x.2.2.2.2.2.2.2.len:Int):=e;have:bE m=eX:=(jS m).2 ⟨R,a4,a2,λj hj=>o j n7⟩;exact⟨by rw[this],.zip H3.ac⟩
theorem Sq(x:bi)(m:aB)(h:m5)(d:ct h x m)(hz:bM m):ak xR 141 #[cL x] h λv h'=>∃r:Sl,v=r/\Sp h h' [ai 5 r 1 aq (gy m)]:=by
 refine ts Tryz.func141 ?_ (HF (HF (I1 [(3,bK)] [(3,4),(13,19)] (HF (G0 (HF (G7 (G9 [(3,bK),(44,aI)] [(3,4),(5,6),(44,54)] G6))) (HF (G0 (HF (G7 (G9 [(3,bK),(64,aI)] [(3,4),(7,8),(9,10),(64,99)] (HF (HF (G0 (G7 (HF (I1 [(3,bK)] [(3,4),(68,78)] (I1 [(3,bK)] [(3,4),(78,85)] (HF (G7 (G9 [(3,bK),(88,aI)] [(3,4),(9,10),(88,98)] G6))))))) G6)))))) G6))))))) [(3,(.l [0,1,3,4,2,5,6])),(14,(.l [0,1,2,3,4,7,8,5,6,9,10])),(15,(.l [0,1,2,4,5,3,6,7]))] (args:=[x]);refine(Sp.refl h).boxed λa1 h1 H1=>?_;refine⟨x,(H1.box 0 n5).aw _ n5,(Dq x m h1 (d.up H1.ac) hz).I3 λh2 R2=>?_⟩;have H2:=H1.up R2.ac;refine⟨_,n5,aH (λe=>?_) λB=>?_⟩
 .unfold gy;rw[e];exact⟨⟨eH,0,0⟩,n5,((H2.nil 5 1 aq).bu [1])⟩
 have ad:x.2.2.1=m.p.1:=congrArg (·.1) d.p;have V:x.2.2.2.1=m.p.2.1:=congrArg (·.2.1) d.p;have ab:x.2.2.2.2.1=m.p.2.2:=congrArg (·.2.2) d.p;have H:=H2.box 0 n5;have b:=ub m hz;unfold gy at b;rw[B,m6 rfl]at b;have hM:∀{h':m5} {As:List HP},Sp h h' As->ct h' x m:=λ{h' As} L=>d.up L.ac;refine aE ⟨m.seq,by rw[<-d.seq];exact H.cell0 n5,m.next,by rw[<-d.next];exact H.cell n5,?_⟩;have H3:=(H2.nil 5 1 aq).bc;refine(ju ⟨eH,0,0⟩ [] m.seq 4 n8 oo H3).I4 λs4 h4 H4=>⟨s4,n5,⟨by rw[<-d.next];exact(H4.box 1 n5).cell n5,I6⟩,?_⟩;refine(ju s4 _ m.next 4 n8 tq H4).I4 λs5 h5 H5=>⟨s5,n5,I6,?_⟩;have f:=H5.box 1 n5;refine⟨m.p.1,by rw[<-ad];exact f.cell n5,m.p.2.1,by rw[<-V];exact f.mi 2 1 n5,m.p.2.2,by rw[<-ab];exact f.mi 2 2 n5,m.extra,by rw[<-d.extra];exact f.cell n5,x.2.2.2.2.2.2.1,f.cell n5,?_⟩;have ao:=d.drives.len;have ap:=bZ.len d.objs
 try dsimp only
 rw[cb,cb,cb,cb,cb,ao];refine H5.lit ag aq cK n5 [b8 m.p.1,b8 m.p.2.1,b8 m.p.2.2,b8 m.extra,b8 (m.drives.length:Nat)] n5 (show 5*1<=2^20 by decide) n5 λbb h6 H6=>?_;refine H6.append ag 0 n5 cK ⟨_,_,n5,n5⟩ n5 n8 (λ_=>rfl) (H6.seq 2 n5 λ_=>rfl) cB tq λs7 h7 T=>?_;have T:=T.bu [0,1];refine⟨x.2.2.2.2.2.2.1,(T.box 1 n5).cell n5,?_⟩;have a3:(([]++cy m.seq 4)++cy m.next 4++[b8 m.p.1,b8 m.p.2.1,b8 m.p.2.2,b8 m.extra,b8 (m.drives.length:Nat)]).length=13:=tq
 have a9:=hz.dr;refine sF x.2.2.2.2.2.2.1 m.drives s7 _ T (St.mk' λh' L=>(hM L).drives) n7 n7 λs8 h8 Y=>?_
 try dsimp only
 refine⟨x.2.2.2.2.2.2.2,(Y.box 1 n5).cell n5,?_⟩
 try dsimp only
 rw[cb,ap];obtain⟨a,c⟩:=I5 (([]++cy m.seq 4)++cy m.next 4++[b8 m.p.1,b8 m.p.2.1,b8 m.p.2.2,b8 m.extra,b8 (m.drives.length:Nat)]++m.drives.map b8)
 rw[<-c]at Y;have X:a.length=13+m.drives.length:=by rw[c];simp[bL];omega
 simp only[qo,q7,wK,qm,bL]at b;refine Y.push ag 0 n5 cK n5 n8 (λ_=>rfl) cB (b8 (m.objs.length:Nat)) n5 n8 n7 λs9 h9 R=>?_;have R:Sp h h9 [ai 5 s9 1 aq (a++[b8 (m.objs.length:Nat)]),an a1 27 (aD x)]:=R;refine⟨x.2.2.2.2.2.2.2,(R.box 1 n5).cell n5,?_⟩;obtain⟨F,S⟩:=bZ.fix d.objs;have bd:=S.2.1;refine aj (λt:Sl×Nat=>(t.1,(t.2:Int))) (λt h'=>t.2<=m.objs.length/\Sp h h' [ai 5 t.1 1 aq (a++[b8 (m.objs.length:Nat)]++(m.objs.take t.2).flatMap gh),an a1 27 (aD x)]) (λt=>m.objs.length-t.2) (s9,0) n5 ⟨oo,by simpa using R⟩ ?_;rintro⟨o,i⟩ bk ⟨hi,j⟩;dsimp only at*;refine ae (λe=>?_) (λe=>?_)
 .have y:i<m.objs.length:=n7
  have a2:=fO.up S j.ac;have Z:=Mm B y;have u:((m.objs.take i).flatMap gh).length<=50000:=by have h1:=uP B i hi;have:=ua B;have:i*4000<=12*4000:=zi _ n7;omega
  refine a2.1.cG (g:=bg) i n5 n7 (F[i]'n7) n5 ?_;refine j.alloc ag n5 λay bl U=>?_;refine U.storeAll ag 2 n5 n5 (bg (F[i]'n7)) n5 n5 n5 n5 λam k=>?_;have a0:=fO.up S k.ac;obtain⟨⟨z,y2,y3⟩,y4⟩:=Fix.row a0 y;obtain⟨E,hE⟩:=I5 (m.objs[i])
  rw[<-hE]at z y2 y3 y4 Z;have w:=k.box 2 n5;refine aE ⟨E.name,A6,E.name,A6,?_⟩;rw[cb];refine k.ke ag aq cK n5 [b8 (E.name.size:Nat)] n5 (show 1*1<=2^20 by decide) n5 ⟨A6,A6,I6⟩ ?_;have D:(a++[b8 (m.objs.length:Nat)]++(m.objs.take i).flatMap gh).length<=160000:=by rw[qo,qo,X];simp;simp at u;omega
  obtain⟨q,I⟩:=I5 (a++[b8 (m.objs.length:Nat)]++(m.objs.take i).flatMap gh)
  rw[<-I]at k D;refine k.push ag 0 n5 cK n5 n8 (λ_=>rfl) cB (b8 (E.name.size:Nat)) n5 n8 n7 λbq a4 K=>?_;have P:=K.box 2 n5;refine⟨⟨by rw[<-z];exact P.cell0 n5,by rw[<-z];exact P.cell0 n5,I6⟩,?_⟩;refine K.Jh ag 0 n5 cK ⟨_,n5,n5⟩ n5 n8 E.name oi λQ ah s=>?_;have A:=s.box 2 n5;refine⟨⟨by rw[<-z];exact A.cell0 n5,I6⟩,?_⟩;have s:Sp h ah [ai 5 Q 1 aq (q++[b8 (E.name.size:Nat)]++iH E.name),an a1 27 (aD x),an ay 83 (bg (F[i]'n7))]:=s;refine aE ⟨E.object,by rw[<-y2];exact A.cell n5,E.length,by rw[<-y3];exact A.cell n5,?_⟩;have a8:=tG E.name;refine(ju Q _ E.object 3 n8 oi s).I4 λO a5 M=>?_;have al:=M.box 2 n5;refine⟨O,n5,⟨by rw[<-y3];exact al.cell n5,I6⟩,?_⟩;refine(ju O _ E.length 2 n8 p9 M).I4 λN a7 G=>?_;have W:=G.box 2 n5;refine⟨N,n5,I6,(F[i]'n7).2.2.2,W.cell n5,?_⟩;refine sF (F[i]'n7).2.2.2 E.tries N _ G (St.mk' λh' L=>by rw[hE];exact(Fix.row (fO.up S L.ac) y).2) p9 n7 λax a6 J=>?_
  try dsimp only
  have am:=ua B;refine⟨(ax,i+1),oj,⟨n9,?_⟩,n9⟩
  try dsimp only
  rw[az _ _ y,za,<-ql,<-I,zm,zW,qL,<-hE];have e3:q++[b8 (E.name.size:Nat)]++iH E.name++cy E.object 3++cy E.length 2++E.tries.map b8=q++gh E:=by unfold gh iH;simp[ql]
  rw[e3]at J;exact J.bu [0,1]
 .rw[qf n7]at j;refine⟨o,n5,?_⟩;have e2:a++[b8 (m.objs.length:Nat)]++m.objs.flatMap gh=gy m:=by rw[c];unfold gy;rw[B,m6 rfl];simp[ql]
  rw[e2]at j;exact j.bu [0]
theorem ma(x:bi)(m:aB)(h:m5)(G:ct h x m)(N:bM m):ak xR 75 #[cL x] h λv h'=>∃r:Sl,v=r/\Sp h h' [ce r (bG m)]:=by
 refine ts Tryz.func75 ?_ (HF (HF (HF (HF (I0 [(5,bK),(6,aI)] [(5,8),(15,48)]))))) (args:=[x]);refine(Sp.refl h).boxed λq h1 E=>?_;refine⟨x,(E.box 0 n5).aw _ n5,(Sq x m h1 (G.up E.ac) N).I4 λb R T=>?_⟩;have p:=E.comp T;have D:=ub m N;obtain⟨l,y⟩:=I5 (gy m)
 rw[<-y]at p D;have W:=(p.own 1 n5).len;have k:=(p.own 1 n5).cap;refine⟨b,n5,n8,?_⟩;have d:qc xN (Int.tdiv (qc xN ((qc xN (((b.len:Nat):Int)+(48:Int)))-(1:Int))) (48:Int))=(fg l:Int):=by rw[af ((b.len:Int)+48),af ((b.len:Int)+48-1),yB n7];unfold fg;rw[af (((b.len:Int)+48-1)/48)];omega
 have Q:fg l<=3000:=by unfold fg;omega
 rw[d];obtain⟨c,f⟩:∃c:dP,c=bG m:=⟨_,rfl⟩
 have J:n4 c=fg l:=by rw[f,y];simp[bG]
 have g:Sp h R [ce ⟨eH,0,0⟩ (c.take 0),an q 27 (aD x),ai 5 b 1 aq l]:=p.jm 41 5 1 aq;refine aj (λt:Sl×Nat=>(t.1,(t.2:Int))) (λt h'=>t.2<=fg l/\Sp h h' [ce t.1 (c.take t.2),an q 27 (aD x),ai 5 b 1 aq l]) (λt=>fg l-t.2) (⟨eH,0,0⟩,0) n5 ⟨oo,g⟩ ?_;rintro⟨o,i⟩ h3 ⟨hi,g⟩;dsimp only at*;refine ae (λe=>?_) (λe=>?_)
 .have A:i<fg l:=n7
  have H:48*i<n4 l:=by unfold fg at A;omega
  rw[af ((i:Int)*48),af ((i:Int)+1),af (((i:Int)+1)*48)];obtain⟨a,U⟩:∃a:Nat,a=min (48*i+48) l.length:=⟨_,rfl⟩
  have F:(if((b.len:Nat):Int)<((i:Int)+1)*48 then((b.len:Nat):Int)else((i:Int)+1)*48)=(a:Int):=by split<;>omega
  rw[F];refine⟨⟨n7,n7,n7⟩,m.seq,by rw[<-G.seq];exact(g.box 1 n5).cell0 n5,?_⟩;have V:((i:Int)*48).toNat=48*i:=n7
  rw[V,qi];have S:=((g.seq 2 n5 λ_=>rfl).drop (48*i) k).take (a-48*i) p6;have K:(l.drop (48*i)).take (a-48*i)=(l.drop (48*i)).take 48:=by
   by_cases hh:48*i+48<=n4 l
   .rw[show a-48*i=48 by omega]
   .rw[qf p6,qf p6]
  rw[K,zG]at S;rw[zG];refine(ju ⟨eH,0,0⟩ [] m.seq 4 n8 oo (g.nil 5 1 aq).bc).I4 λX h4 z=>⟨X,n5,?_⟩;rw[cb,cb,cb];refine z.lit ag aq cK n5 [b8 (i:Int),b8 (fg l:Int),b8 ((a-48*i:Nat):Int)] n5 (show 3*1<=2^20 by decide) n5 λv7 h5 s=>?_;refine s.append ag 0 n5 cK ⟨_,_,n5,n5⟩ n5 n8 (λ_=>rfl) (s.seq 4 n5 λ_=>rfl) cB tq λY h6 u=>?_;have u:Sp h h6 [ai 5 Y 1 aq ([]++cy m.seq 4++[b8 (i:Int),b8 (fg l:Int),b8 ((a-48*i:Nat):Int)]),ce o (c.take i),an q 27 (aD x),ai 5 b 1 aq l]:=u.bu [0,1,2,3];have j:=((u.seq 3 n5 λ_=>rfl).drop (48*i) k).take (a-48*i) p6;rw[K,zG]at j;have B:n4 ((l.drop (48*i)).take 48)=a-48*i:=oi
  refine u.append ag 0 n5 cK ⟨_,_,n5,n5⟩ n5 n8 (λ_=>rfl) j cB p9 λL M w=>?_;have w:Sp h M [ai 5 L 1 aq ([]++cy m.seq 4++[b8 (i:Int),b8 (fg l:Int),b8 ((a-48*i:Nat):Int)]++(l.drop (48*i)).take 48),ce o (c.take i),an q 27 (aD x),ai 5 b 1 aq l]:=w;refine(Dp 2 L _ M (w.seq 0 n5 λ_=>rfl) p9).I4 λr h8 I=>?_;have P:eS 2 ([]++cy m.seq 4++[b8 (i:Int),b8 (fg l:Int),b8 ((a-48*i:Nat):Int)]++(l.drop (48*i)).take 48)=nU m.seq i (fg l) ((l.drop (48*i)).take 48):=by unfold nU;rw[B];simp
  rw[P]at I;have z:=((w.oA).bQ I).aG 4 [1,0,2,3];refine⟨r,n5,?_⟩;refine z.mh ag cI oi λZ h5 s=>?_;refine⟨(Z,i+1),n5,⟨n9,?_⟩,n9⟩
  try dsimp only
  rw[az _ _ (show i<n4 c by omega)];have O:c[i]'n7=nU m.seq i (fg l) ((l.drop (48*i)).take 48):=by subst f;subst y;simp[bG]
  rw[O];exact s
 .rw[qf n7,f]at g;exact⟨o,n5,g.bu [0]⟩
def Has(a:aF)(S:aC):Prop:=n4 a=64/\∀s∈S,∃d,bR a s=dB d
theorem Has.set{a:aF}{S:aC}{n:Nat}{d:bp}(F:Has a S)(c:n<64):Has (iD a (n:Int) d) S:=by
 refine⟨by unfold iD;rw[qO];exact F.1,λs b=>?_⟩;rw[Ay _ _ _ _ c F.1];by_cases h:s=(n:Int)
 .rw[m6 h];exact⟨_,n5⟩
 .rw[nq h];exact F.2 s b
theorem Has.append{a:aF}{S:aC}(F:Has a S)(w:Pow)(x:Int)(b:aR):Has (dV w a x b).2.2 S:=by
 unfold dV;cases hd:bR a x with
 |none=>exact F
 |some d=>
  obtain⟨n,rfl,c⟩:=kB hd;exact F.set c
theorem Has.sync{a:aF}{S:aC}(F:Has a S)(w:Pow)(x:Int):Has (fw w a x).2.2 S:=by
 unfold fw;cases hd:bR a x with
 |none=>exact F
 |some d=>
  obtain⟨n,rfl,b⟩:=kB hd;exact F.set b
def mM(l:aC)(i:Nat):aC:=(((qy 64).drop i).map λi:Nat=>(i:Int)).filter λi=>decide (i∈l)
theorem Kn(l:aC):mM l 64=[]:=by unfold mM;rw[zj oo];rfl
theorem IF(l:aC)(i:Nat)(a:i<64):mM l i=if(i:Int)∈l then(i:Int)::mM l (i+1)else mM l (i+1):=by
 unfold mM;rw[qT B5,List.getElem_range,wu,zx];by_cases h:(i:Int)∈l
 .rw[m6 sR,m6 h]
 .rw[nq sR,nq h]
def oR(l:aC):aS:=(qy 64).map λi:Nat=>xL (decide ((i:Int)∈l))
theorem Bu(l:aC):n4 (oR l)=64:=by simp[oR]
theorem FS(l:aC)(n:Nat)(a:n<64):(oR l)[n]?=dB (xL (decide ((n:Int)∈l))):=by unfold oR;rw[qM,zq a];rfl
theorem XS(l:aC)(n:Nat)(c:n<64):(oR l).set n (xL eX)=oR (l++[(n:Int)]):=by
 apply zp;intro j;rw[qW,Bu];by_cases b:j<64
 .rw[FS _ _ b,FS _ _ b];by_cases h:n=j
  .subst h;rw[m6 n5,m6 c];simp
  .rw[nq h];have:(j:Int)∈l++[(n:Int)]↔(j:Int)∈l:=by rw[qx,qB];exact⟨λh'=>h'.elim id λa=>absurd a n7,.inl⟩
   simp only[this]
 .rw[nq n7,zf (by rw[Bu];omega),zf (by rw[Bu];omega)]
def Hp(T:List ((Int×Sl)×(Int×aR))):HP:=⟨λh q=>∀t∈T,dR.p h q t.1 t.2,λa d t b=>dR.loc (a t b) d,λa c t b=>dR.mono (a t b) c⟩
abbrev bC:Qw.Kit:=⟨40,89,174,λpw=>dz pw⟩
abbrev Zy:bS C.toAg 158 167 2 [xH xN 0,xI eH 0 0] 32:=⟨_,_,n5,n5,n5,n5,n5,n5⟩
section
variable {pw:hU}
theorem aa.cP(H:aa B h0 h (aJ bC a pw mc offs da w ds::As)):gI mc da ds/\bV h a 40 (cZ mc pw offs da):=by obtain⟨ok,b⟩:=Qw.aa.jQ H;exact⟨ok,b.box 0 n5⟩
theorem MW{h:m5}(ok:gI mc da ds)(c:bV h a 40 (cZ mc pw offs da))(n:Nat)(d:n<64):∃x:bJ,hY h ((a.add 10).add (n*1))=dB (.pointer x)/\da[n]?=dB x:=by
 have b:n<n4 da:=by rw[ok.la];exact d
 refine⟨da[n],?_,qd b⟩;rw[zG];refine c.mi 10 n ?_;rw[mH ok.l8,qd b];rfl
theorem JO(s:Sl)(z:List (Int×Sl))(P:List (Int×aR))(S:St B h0 As λh=>fO dR 2 piv h s z P)(hl:n4 P<=2^30)(ad:∀x∈P,n4 x.2<=2^20)(hh:Has ds (P.map qA))(H:aa B h0 h (aJ bC a pw mc offs da w ds::As)):
  ak xR 124 #[xJ (dB a),s] h λv h'=>v=xH xN (layAll P w ds).1/\aa B h0 h' (aJ bC a pw mc offs da (layAll P w ds).2.1 (layAll P w ds).2.2::As):=by
 refine ts Tryz.func124 ?_ (HF (HF (G0 (HF (G7 (G9 [(13,aI)] [(4,5),(7,9),(13,34)] G6))) (I0 [(34,aI)] [(4,5),(9,11),(34,52)]))));have al:=(S.at [_] H).1.len;have am:=(S.at [_] H).2.1;refine H.alloc ag n5 λg h1 D=>?_;have D:aa B h0 h1 (an g 232 (oR [])::aJ bC a pw mc offs da w ds::As):=D.bc;refine aj (λt:Nat×Pow×aF=>(t.1:Int)) (λt h'=>t.1<=n4 P/\Has t.2.2 (P.map qA)/\fQ P w ds=fQ (P.drop t.1) t.2.1 t.2.2/\aa B h0 h' (an g 232 (oR ((P.take t.1).map qA))::aJ bC a pw mc offs da t.2.1 t.2.2::As)) (λt=>n4 P-t.1) (0,w,ds) n5 ⟨oo,hh,n5,by simpa using D⟩ ?_;rintro⟨i,K,r⟩ h1 ⟨hi,E,o,D⟩;dsimp only at*;refine ae (λe=>?_) (λe=>?_)
 .have m:i<n4 P:=n7
  rw[qT m,kV]at o;have F1:=S.at [_,_] D;have ab:=ad _ (qe m);refine F1.1.cG (g:=piv) i n5 n7 (z[i]'n7) n5 ?_;refine D.alloc ag n5 λa4 h2 G=>?_;have G:=G.bc;refine G.storeAll ag 0 n5 n5 (piv (z[i]'n7)) n5 n5 n5 n5 λh3 u=>?_;obtain⟨Z,y2⟩:=Fix.row (S.at [_,_,_] u) m;have u:aa B h0 h3 (an a4 167 (piv (z[i]'n7))::an g 232 (oR ((P.take i).map qA))::aJ bC a pw mc offs da K r::As):=u;have u:=u.aG 3 [2,0,1];obtain⟨ok,hb⟩:=aa.cP u;obtain⟨c,p⟩:=I5 (dV K r P[i].1 P[i].2)
  rw[<-p]at o;obtain⟨d0,y⟩:=E.2 P[i].1 (qI.2 ⟨_,qe m,rfl⟩);rcases gf ok P[i].1 with⟨c1,c2⟩|⟨n,d,b,I,c1,c2,c3,c4,c5⟩
  .rw[c1]at y;cases y
  obtain⟨x8,O,f⟩:=MW ok hb n c1;rw[c4]at f;injection f with f
  subst f;refine⟨(n:Int),by rw[<-I,<-Z];exact(u.box 1 n5).cell0 n5,a,n5,⟨n7,n7⟩,dB b,by rw[qi];exact O,(z[i]'n7).2,(u.box 1 n5).cell n5,?_⟩;obtain⟨b',j,W⟩:=Qw.aa.fq u c2;rw[c4]at j;injection j with j
  injection j with j
  subst j;have ah:St B h0 (Ej bC a pw mc offs da r n::an a4 167 (piv (z[i]'n7))::an g 232 (oR ((P.take i).map qA))::As) λh=>Rd h (z[i]'n7).2 1 aq P[i].2:=
   ((S.mono λh hF=>(Fix.row hF m).2).cons).cons.cons
  refine(MV (z[i]'n7).2 P[i].2 W ah ab).I3 λh6 Y=>?_;have A:=Qw.aa.kN (k:=bC) (n:=n) c4 Y;have Q:c=((d.append K P[i].2).1,(d.append K P[i].2).2.1,r.set n (dB (d.append K P[i].2).2.2)):=by rw[p];unfold dV;rw[c3];simp only[iD,I,qi]
  have A:aa B h0 h6 (aJ bC a pw mc offs da c.2.1 c.2.2::an a4 167 (piv (z[i]'n7))::an g 232 (oR ((P.take i).map qA))::As):=by rw[Q];exact A
  have q:(d.append K P[i].2).1=c.1:=by rw[Q]
  rw[q];have R:=A.box 1 n5;refine⟨_,n5,⟨by rw[<-I,<-Z];exact R.cell0 n5,I6⟩,bt (λJ=>?_) λJ=>?_⟩
  .rw[nq J]at o;have:layAll P w ds=c:=by unfold layAll;rw[o];exact nq J
   rw[this];exact⟨n5,A.nB.nB⟩
  .rw[m6 J]at o;refine⟨(n:Int),by rw[<-I,<-Z];exact R.cell0 n5,⟨n7,n7⟩,?_⟩;rw[qi,zG];refine A.storeAt ag 2 n5 n5 n5 n5 n5 (by rw[Bu];exact c1) λh8 V=>?_;have V:aa B h0 h8 (aJ bC a pw mc offs da c.2.1 c.2.2::an a4 167 (piv (z[i]'n7))::an g 232 ((oR ((P.take i).map qA)).set n (xL eX))::As):=V;rw[XS _ _ c1]at V;refine⟨(i+1,c.2.1,c.2.2),oj,⟨n9,by rw[p];exact E.append _ _ _,o,?_⟩,n9⟩
   try dsimp only
   rw[az _ _ m,qF,wu,y5,I];exact V.aG 3 [2,0]
 .have X:i=n4 P:=n7
  subst X;rw[yS]at o;rw[qt]at D;have U:layAll P w ds=iO (gq (P.map qA)) K r:=by unfold layAll;rw[o];rfl
  obtain⟨L,hL⟩:=I5 (P.map qA)
  rw[<-hL]at D U E;refine aj (λt:Nat×Pow×aF=>(t.1:Int)) (λt h'=>t.1<=64/\Has t.2.2 L/\layAll P w ds=iO (mM L t.1) t.2.1 t.2.2/\aa B h0 h' (an g 232 (oR L)::aJ bC a pw mc offs da t.2.1 t.2.2::As)) (λt=>64-t.1) (0,K,r) n5 ⟨oo,E,U,D⟩ ?_;rintro⟨i,M,F⟩ h2 ⟨hi,N,l,G⟩;dsimp only at*;refine ae (λe=>?_) (λe=>?_)
  .have m:i<64:=n7
   rw[IF _ _ m]at l;refine⟨⟨n7,n7⟩,decide ((i:Int)∈L),?_,aH (λJ=>?_) λJ=>?_⟩
   .rw[qi,zG];exact(G.box 0 n5).cell (FS _ _ m)
   .rw[nq (by simpa using J)]at l;exact⟨(i+1,M,F),oj,⟨n9,N,l,G⟩,n9⟩
   .have hm:(i:Int)∈L:=by simpa using J
    rw[m6 hm,mO]at l;have u:=G.aG 2 [1,0];obtain⟨ok,hb⟩:=aa.cP u;obtain⟨d0,y⟩:=N.2 _ hm;rcases gf ok (i:Int)with⟨c1,c2⟩|⟨n,d,b,I,c1,c2,c3,c4,c5⟩
    .rw[c1]at y;cases y
    have I:i=n:=n7
    subst I;obtain⟨x8,O,f⟩:=MW ok hb i c1;rw[c4]at f;injection f with f
    subst f;refine⟨a,n5,⟨n7,n7⟩,dB b,by rw[qi];exact O,?_⟩;obtain⟨b',j,W⟩:=Qw.aa.fq u c2;rw[c4]at j;injection j with j
    injection j with j
    subst j;refine(Sm W).I3 λh6 Y=>?_;have A:=Qw.aa.kN (k:=bC) (n:=i) c4 Y;have Q:fw M F (i:Int)=((d.sync M).1,(d.sync M).2.1,F.set i (dB (d.sync M).2.2)):=by unfold fw;rw[c3];simp only[iD,qi]
    have T:=N.sync M (i:Int);obtain⟨c,p⟩:=I5 (fw M F (i:Int))
    rw[<-p]at l Q T;have A:aa B h0 h6 (aJ bC a pw mc offs da c.2.1 c.2.2::an g 232 (oR L)::As):=by rw[Q];exact A
    have q:(d.sync M).1=c.1:=by rw[Q]
    rw[q];refine⟨_,n5,bt (λe3=>?_) λe3=>?_⟩
    .rw[nq e3]at l;rw[l];exact⟨n5,A.nB⟩
    .rw[m6 e3]at l;exact⟨(i+1,c.2.1,c.2.2),oj,⟨n9,T,l,A.aG 2 [1,0]⟩,n9⟩
  .have:i=64:=n7
   subst this;rw[Kn]at l;rw[l];exact⟨n5,G.oA⟩
theorem xZ(x:bi)(m:aB)(s:Sl)(d:aC)(Y:St B h0 As λh=>ct h x m/\Rd h s 1 ar d)(U:bM m)(ax:n4 d<=2^10)(hh:Has ds d)(H:aa B h0 h (aJ bC a pw mc offs da w ds::As)):
  ak xR 78 #[xJ (dB a),cL x,s] h λv h'=>v=xH xN (layAll (bj m d) w ds).1/\aa B h0 h' (aJ bC a pw mc offs da (layAll (bj m d) w ds).2.1 (layAll (bj m d) w ds).2.2::As):=by
 refine ts Tryz.func78 ?_ (HF (HF (G0 (HF (G7 (G9 [(7,bK),(14,aI)] [(7,8),(9,10),(11,12),(14,33)] (HF (HF (G0 (G7 (HF (HF (G7 (G9 [(7,bK),(21,aI)] [(7,8),(11,12),(21,32)] G6))))) G6)))))) G6))) (args:=[(dB a),x,s]);refine H.boxed λO h1 I=>?_;have I:aa B h0 h1 (an O 27 (aD x)::aJ bC a pw mc offs da w ds::As):=I.bc;have I:aa B h0 h1 (Hp []::an O 27 (aD x)::aJ bC a pw mc offs da w ds::As):=(I.comp (.one (A:=Hp []) (aQ.refl _ _) λt G=>by cases G)).bc;have I:=(I.nil 167 2 piv).bc;have R:=jA m U;obtain⟨f,E⟩:=I5 (bG m)
 rw[<-E]at R;have a2:=(Y.at [_] H).2.len;refine aj (λt:Sl×Nat×List ((Int×Sl)×(Int×aR))=>(t.1,(t.2.1:Int))) (λt h'=>t.2.1<=n4 d/\t.2.2.map zh=bj m (d.take t.2.1)/\aa B h0 h' (ai 167 t.1 2 piv (t.2.2.map qA)::Hp t.2.2::an O 27 (aD x)::aJ bC a pw mc offs da w ds::As)) (λt=>n4 d-t.2.1) (⟨eH,0,0⟩,0,[]) n5 ⟨oo,by simp[bj],I⟩ ?_;rintro⟨o,i,F⟩ h2 ⟨hi,g,N⟩;dsimp only at*;have am:n4 F=i*n4 f:=by
  have:=congrArg List.length g;have e:∀S:aC,n4 (bj m S)=n4 S*n4 f:=λS=>by
   induction S with
   |nil=>simp[bj]
   |cons n S ih=>
    have e1:bj m (n::S)=(bG m).map (λc=>(n,c))++bj m S:=by unfold bj;rw[zm]
    rw[e1,qo,qm,ih,q7,zU,E,Nat.add_comm]
  rw[e,qm,qw]at this;rw[this,Nat.min_eq_left n7]
 have ah:n4 F<=2^10*3000:=by rw[am];exact zr n7 R
 refine ae (λe=>?_) (λe=>?_)
 .have Q:i<n4 d:=n7
  obtain⟨n,hn⟩:=I5 (d[i])
  refine(Y.at [_,_,_,_] N).2.aV i n5 Q n (by rw[hn];rfl) ?_;refine⟨x,(N.box 2 n5).aw _ n5,(ma x m h2 (Y.at [_,_,_,_] N).1 U).I4 λr h3 R3=>?_⟩;obtain⟨rs,p⟩:=(N.bQ R3).Mr λ_=>rfl;rw[<-E]at p;refine⟨r,n5,?_⟩;have F3:=p.dg 0 n5;have ay:=F3.1.len;have a0:=F3.2.1;obtain⟨T,V⟩:∃T:List ((Int×Sl)×(Int×aR)),T=(rs.zip f).map λz=>((n,z.1),(n,z.2)):=⟨_,rfl⟩
  have J:n4 T=n4 f:=by rw[V];simp;omega
  have ao:T.map zh=f.map λc=>(n,c):=by
   have U:=List.map_snd_zip (l₁:=rs) (l₂:=f) n7
   conv=>rhs;rw[<-U]
   rw[V];simp[y0,Function.comp_def]
  have al:∀j (hj:j<n4 f),T[j]'(by rw[J];exact hj)=((n,rs[j]'n7),(n,f[j])):=λj hj=>by subst V;simp
  refine aj (λt:Sl×Nat=>(t.1,(t.2:Int))) (λt h'=>t.2<=n4 f/\aa B h0 h' (ci (iG 1 aq) 1 bv r rs f::ai 167 t.1 2 piv (F.map qA++(T.take t.2).map qA)::Hp F::an O 27 (aD x)::aJ bC a pw mc offs da w ds::As)) (λt=>n4 f-t.2) (o,0) n5 ⟨oo,B3⟩ ?_;rintro⟨u,j⟩ h4 ⟨hj,L⟩;dsimp only at*;refine ae (λe2=>?_) (λe2=>?_)
  .have P:j<n4 f:=n7
   refine(L.dg 0 n5).1.kX j n5 n7 ?_;refine L.push ag 1 n5 Zy n5 n8 (λ_=>rfl) sY (n,rs[j]'n7) n5 n8 (by simp only[qo,qm,qw];omega) λu' h5 X=>?_;refine⟨(u',j+1),oj,⟨n9,?_⟩,n9⟩
   try dsimp only
   rw[az T j (by rw[J];exact P),qF,al _ P,<-ql];exact X
  .have Z:j=n4 f:=n7
   subst Z;rw[qf (l:=T) (by rw[J];exact qj _),<-qF]at L;have X:=L.merge 2 0 n8 n5 n5 (D:=Hp (F++T)) (λq1 q2 _ p1 p2 t G=>by
    rcases qx.1 G with G|G
    .exact dR.mono (p1 t G) λ_ hb=>.inl hb
    .rw[V]at G;obtain⟨z,ap,rfl⟩:=qI.1 G;obtain⟨k,hk⟩:=List.mem_iff_getElem?.1 ap;have K:=hk;rw[List.getElem?_zip_eq_some]at K;exact⟨n5,Seq.mono (p2.2.2 k z.1 z.2 K.1 K.2) λ_ hb=>.inr hb⟩)
   refine⟨(u,i+1,F++T),oj,⟨n9,?_,X.oA⟩,n9⟩
   try dsimp only
   rw[qF,g,ao,az _ _ Q];unfold bj;rw[za,zm,zW,qL,<-E,hn]
 .have ab:i=n4 d:=n7
  subst ab;rw[qt]at g;have p:=(N.freeze 0 n5 λ_=>rfl).kq;have p:aa B h0 h2 (ci dR 2 piv o (F.map qA) (bj m d)::an O 27 (aD x)::aJ bC a pw mc offs da w ds::As):=p.dW 0 n5 λq ⟨q1,q2,_,b,c,z1,z2⟩=>by
   rw[<-g];refine⟨Seq.mono z2 c,oo,λj r' l' M W=>?_⟩;rw[qM]at M W;cases g3:F[j]? with
   |none=>rw[g3]at M;cases M
   |some t=>
    rw[g3]at M W;simp at M W;subst M;subst W;exact dR.mono (z1 t (wh g3)) b
  have p:=p.aG 3 [2,0,1];have a3:n4 (bj m d)<=2^10*3000:=by rw[<-g,qm];exact ah
  refine(JO o (F.map qA) (bj m d) (St.dU 0 n5 λ_ hq=>hq) n7 (λy hy=>?_) ⟨hh.1,λy hy=>?_⟩ p).mono ?_
  .rw[(lY hy).2];decide
  .obtain⟨z,ad,rfl⟩:=qI.1 hy;exact hh.2 _ (lY ad).1
  rintro _ h4 ⟨rfl,L⟩;exact⟨_,n5,n5,L.nB.nB⟩
theorem Hq(s:Sl)(l:aC)(G:Rd h s 1 ar l)(S:n4 l<=2^30)(D:∀x∈l,0<=x/\x<64)(H:aa B h0 h (aJ bC a pw mc offs da w ds::As)):
  ak xR 73 #[xJ (dB a),s] h λv h'=>∃r:Sl,v=r/\Sp h h' [ai 3 r 1 ar (aY ds l)]:=by
 refine ts Tryz.func73 ?_ (HF (HF (I0 [(5,bK),(10,aI)] [(5,6),(7,8),(10,38)])));have L:=G.len;refine aj (λt:Sl×Nat=>(t.1,(t.2:Int))) (λt h'=>t.2<=n4 l/\Sp h h' [ai 3 t.1 1 ar (aY ds (l.take t.2))]) (λt=>n4 l-t.2) (⟨eH,0,0⟩,0) n5 ⟨oo,by simpa[aY]using(Sp.refl h).nil 3 1 ar⟩ ?_;rintro⟨o,i⟩ V ⟨T,m⟩;dsimp only at*;refine ae (λe=>?_) (λe=>?_)
 .have j:i<n4 l:=n7
  have c:aY ds (l.take (i+1))=aY ds (l.take i)++(if isLive ds l[i]then[l[i]]else[]):=by unfold aY;rw[az _ _ j,zg,zx,wL]
  have N:n4 (aY ds (l.take i))<=n4 l:=by have:=qH (isLive ds) (l.take i);unfold aY;simp at this⊢;omega
  have next:∀{h':m5} {q:Sl},Sp h h' [ai 3 q 1 ar (aY ds (l.take (i+1)))]->∃u:Sl×Nat,((⟨q.ptr,q.len,q.cap⟩:Sl),qc xN ((i:Int)+1))=(u.1,(u.2:Int))/\(u.2<=n4 l/\Sp h h' [ai 3 u.1 1 ar (aY ds (l.take u.2))])/\l.length-u.2<n4 l-i:=λ{h' q} H'=>
   ⟨(q,i+1),oj,⟨n9,H'⟩,n9⟩
  refine(Seq.up G m.ac).aV i n5 j l[i] n5 ?_;have P:=D _ (qe j);have F:=aa.up H m.ac;obtain⟨ok,O⟩:=aa.cP F;obtain⟨n,K⟩:∃n:Nat,l[i]=(n:Int):=⟨l[i].toNat,n7⟩
  have y:n<64:=n7
  obtain⟨p,z,k⟩:=MW ok O n y;rw[K]at c⊢;refine⟨a,n5,⟨n7,n7⟩,p,by rw[qi];exact z,?_⟩;rcases gf ok (n:Int)with⟨c1,c2⟩|⟨n',d,b,I,c1,c2,c3,c4,c5⟩
  .have A:p=eH:=by unfold de at c2;rw[m6 n7,qi,k]at c2;exact c2
   subst A;have g:isLive ds (n:Int)=eY:=by unfold isLive;rw[c1]
   rw[g]at c;exact aT (λe=>o1) λ_=>next (by rw[c];simpa using m)
  .have I:n=n':=n7
   subst I;rw[k]at c4;injection c4 with c4
   subst c4;have g:isLive ds (n:Int)=!d.lost:=by unfold isLive;rw[c3]
   obtain⟨Q,f,J⟩:=Qw.aa.fq F c2;rw[k]at f;injection f with f
   injection f with f
   subst f;obtain⟨_,W,U,E,_,_⟩:=ib.box J;refine aT (λ_=>?_) λe=>o1
   refine⟨a,n5,⟨n7,n7⟩,dB b,by rw[qi];exact z,b,n5,d.lost,E.cell n5,aH (λe=>?_) λe=>?_⟩
   .rw[g,e]at c;refine m.push ag 0 n5 fu n5 n8 (λ_=>rfl) db (n:Int) n5 n8 n7 λq R M=>next ?_
    rw[c];exact M
   .rw[g,e]at c;exact next (by rw[c];simpa using m)
 .rw[qf n7]at m;exact⟨o,n5,m⟩
end
end Go.Qw
