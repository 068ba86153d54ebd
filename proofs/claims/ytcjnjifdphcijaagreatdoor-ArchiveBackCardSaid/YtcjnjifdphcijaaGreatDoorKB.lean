/- Lemmas for the proof of the law; no condition. -/
import Derived.Test.YtcjnjifdphcijaaGreatDoorKA
import Derived.Test.YtcjnjifdphcijaaGreatDoorShelfB
import Derived.Test.YtcjnjifdphcijaaGreatDoorPlB
set_option maxHeartbeats 2000000
set_option linter.unusedVariables false
set_option maxHeartbeats 2000000
set_option linter.unusedSimpArgs false
open Go.Proofs.Tryz renaming prog -> xT
open Go.Value renaming agg -> xO, bool -> xN, int -> xJ, pointer -> xL, slice -> xK, string -> xM
open Go.IntKind renaming bits -> qI, i64 -> xP, signed -> vb, u32 -> xR, u64 -> xS, u8 -> xQ, wrap -> qe
open Nat renaming le_of_eq -> xv
open Int renaming tmod -> xD
open Bool renaming and_self -> xz
open List renaming any_cons -> xl, any_nil -> xG, range -> qx, replicate -> qg, zipWith -> zg
open Option renaming some -> zX
open Go.Instr renaming storeAt -> qH
open Prod renaming fst -> qE, snd -> zi
set_option maxRecDepth 100000
open Option renaming some -> dB, none -> et
open Bool renaming true -> ez, false -> eH
open Go renaming Addr -> eS
open Go.Qw renaming Heap -> f7
open List renaming length -> hY
open Go.Qw.cN renaming two -> u7, n -> u9, inn -> v1, loop -> v2, join -> v6, tn -> v7, lp -> wj, jn -> ws
namespace Go.Qw
open Go.Proofs
theorem acj{α:Type}{h:f7}{e:TypeId}{s:Sl}{k:Nat}{f:α->aT}{l:List α}(a:Own h e s k f l)(c:l≠[]):s.ptr.isNone=eH:=by
 rcases a.head with⟨_,_,h3⟩|⟨b,rest,h1,_⟩
 .exact absurd h3 c
 .rw[h1];rfl
theorem PD(p:Pm)(seed id:Int)(h:f7):ai xT 253 #[kb p,xJ xR seed,xJ xP id] h λv h'=>∃r:Sl,v=r/\
  Sp h h' [an 5 r 1 aB (if bK p&&bW id then oJ (bG p).toNat seed id else[])]/\r.ptr.isNone=!(bK p&&bW id):=by
 refine ts Tryz.func253 ?_ (v7 (ws [] [(6,7),(10,21)] (v7 (wj [(29,aU)] [(9,10),(29,37)])))) (args:=[p,(xJ xR (seed:Int)),(id:Int)]);refine(Sp.refl h).boxed λa I H=>?_;refine aG ?_;refine⟨p,(H.box 0 hZ).aA _ hZ,(eE p I).mono ?_⟩;rintro v D ⟨rfl,M⟩;have o:=H.comp M;have s:(bK p&&bW id)=eH->Sp h D [an 5 ⟨et,0,0⟩ 1 aB (if bK p&&bW id then oJ (bG p).toNat seed id else[])]/\Option.isNone (et:bD)=!(bK p&&bW id):=λJ=>by
  rw[J];exact⟨(o.nil 5 1 aB).take 1 (λi A g=>by cases i with|zero=>exact g|succ i=>simp at g),hZ⟩
 refine⟨_,hZ,aW (λe=>⟨⟨et,0,0⟩,hZ,s n4⟩) λk=>?_⟩;refine af (λe=>⟨⟨et,0,0⟩,hZ,s l0⟩) λU=>?_;refine af (λe=>⟨⟨et,0,0⟩,hZ,s l0⟩) λG=>?_;have hid:bW id=ez:=l0
 refine⟨p,(o.box 0 hZ).aA _ hZ,(kJ p D).mono ?_⟩;rintro v h3 ⟨rfl,P⟩;have L:=o.comp P;have Q:=(bP p).1 k;have T:bG p=p.1+p.2.1:=by rw[bG,f8 k]
 obtain⟨n,B⟩:∃n:Nat,bG p=n:=⟨(bG p).toNat,ii⟩
 refine⟨_,hZ,?_⟩
 try dsimp only
 rw[B];refine L.make ae aB gN i0 0 hZ hZ n n hZ hZ (qm _) ii λv R X O E=>?_;refine⟨p,(E.box 0 hZ).aA _ hZ,(AN p seed id R).x0 λc S u=>?_⟩;rw[k,hid,B,qj]at u;rw[k,hid,qj];have t:=E.comp u;have j:=t.seq 2 hZ λ_=>rfl;have y:=j.len;obtain⟨b,d⟩:=x6 (dz n seed id)
 have m:∀x∈b,0<=x/\x<(n:Int):=λx z=>nf ii ii (by rw[<-d];exact z);have F:hY b<=n:=by rw[d];exact Av ii ii _ _
 simp only[xz,if_true,<-d]at t j y u;refine⟨c,hZ,?_⟩;refine aq (λi:Nat=>(i:Int)) (λi h'=>i<=hY b/\Sp h h' [aj a 25 [xJ xP p.1,xJ xP p.2.1,xJ xP p.2.2],an 5 v 1 aB (gY n (b.take i)),an 3 c 1 aw b]) (λi=>hY b-i) 0 hZ ⟨ii,t⟩ ?_;rintro i V ⟨g,l⟩;refine af (λe=>?_) (λe=>?_)
 .have f:i<hY b:=ii
  have z:=m _ (qf f);refine(l.seq 2 hZ λ_=>rfl).bo i hZ f _ hZ ?_;refine l.set ae 1 hZ (λ_=>rfl) hZ b[i].toNat ii (by rw[rI];omega) 1 hZ hZ hZ λW K=>?_;refine⟨i+1,i9,⟨ii,?_⟩,ii⟩;have G:gY n (b.take (i+1))=(gY n (b.take i)).set b[i].toNat 1:=by rw[aE _ _ f,gY,wc];rfl
  rw[G];exact K
 .rw[qh ii]at l;have q:=(l.del 2).take 1 (λi A g=>by cases i with|zero=>exact g|succ i=>simp at g);refine⟨v,hZ,?_,acj (q.own 0 hZ) λN=>?_⟩
  .rw[d]at q;exact q
  .have:=rI n b;rw[N]at this;simp at this;omega
theorem tu(p:Pm)(h:f7):ai xT 239 #[kb p] h λv h'=>∃r:Sl,v=r/\Sp h h' [gK 34 r 1 aB (if bK p then bz p.1.toNat p.2.1.toNat else[])]:=by
 refine ts Tryz.func239 ?_ (v7 (v7 (v7 (v7 (u7 (v7 (v1 (v2 [(4,cM),(14,aU)] [(4,8),(14,45)] (v7 (v7 (u7 (v1 (v7 (ws [(6,cM)] [(6,7),(17,24)] (wj [(26,aU)] [(7,8),(26,40)])))) u9)))))) u9))))) [(8,(.l [0,2,3,4,5,1,6,7]))] (args:=[p]);refine(Sp.refl h).boxed λa I E=>?_;refine⟨p,(E.box 0 hZ).aA _ hZ,(eE p I).mono ?_⟩;rintro v N ⟨rfl,V⟩;have B:=E.comp V;refine⟨_,hZ,aW (λe=>⟨⟨et,0,0⟩,hZ,?_⟩) λx=>?_⟩
 .rw[e];exact(B.IL 34 1 aB).take 1 (λi A c=>by cases i with|zero=>exact c|succ i=>simp at c)
 have Z:=(bP p).1 x;have Q:bG p=p.1+p.2.1:=by rw[bG,f8 x]
 obtain⟨K,S⟩:∃K:Nat,p.1=K:=⟨p.1.toNat,ii⟩
 obtain⟨b,M⟩:∃H:Nat,p.2.1=H:=⟨p.2.1.toNat,ii⟩
 refine(pZ N).mono ?_;rintro v h3 ⟨f,rfl,Y⟩;have D:=(B.comp Y).IL 34 1 aB;refine⟨dB f,hZ,_,(D.box 0 hZ).cell hZ,?_⟩;refine aq (λt:Sl×Nat=>(t.1,(t.2:Int))) (λt h'=>t.2<=b/\Sp h h' [aj a 25 [xJ xP p.1,xJ xP p.2.1,xJ xP p.2.2],aj f 325 dR,gK 34 t.1 1 aB ((bz K b).take t.2)]) (λt=>b-t.2) (⟨et,0,0⟩,0) hZ ⟨i6,D⟩ ?_;rintro⟨s,k⟩ R ⟨hk,m⟩;dsimp only at*;refine af (λe=>?_) (λe=>?_)
 .have ab:k<b:=ii
  refine aG ⟨p,(m.box 0 hZ).aA _ hZ,p.1,(m.box 0 hZ).cell0 hZ,?_⟩;refine(kJ p R).mono ?_;rintro v L ⟨rfl,R5⟩;have F:=m.comp R5;refine⟨_,hZ,⟨(F.box 0 hZ).cell0 hZ,x7⟩,?_⟩
  try dsimp only
  rw[ag (p.1+k),Q];refine(YJ _ _ L).mono ?_;rintro v h6 ⟨u,rfl,q⟩;rw[f8 ii]at q;have U:(p.1+p.2.1).toNat=K+b:=ii
  have X:(p.1+(k:Int)).toNat=K+k:=ii
  rw[U,X]at q;have y:=F.comp q;refine⟨u,hZ,⟨(y.box 0 hZ).cell0 hZ,x7⟩,p.1,(y.box 0 hZ).cell0 hZ,?_⟩;let rowAt:Nat->aL:=λj=>(qx j).map (λi=>Gf.pw ((k+1)*(i+1)%255))++((qg (K+b) (0:UInt8)).set (K+k) 1).drop j;refine aq (λj:Nat=>(j:Int)) (λj h'=>j<=K/\Sp h h' [aj a 25 [xJ xP p.1,xJ xP p.2.1,xJ xP p.2.2],aj f 325 dR,gK 34 s 1 aB ((bz K b).take k),an 5 u 1 aB (rowAt j)]) (λj=>K-j) 0 hZ ⟨ii,y⟩ ?_;rintro j W ⟨hj,o⟩;refine af (λe3=>?_) (λe3=>?_)
  .have g:j<K:=ii
   have hm:(k+1)*(j+1)<=4*16:=wA ii ii;have T:qe xP (qe xP ((k:Int)+1)*qe xP ((j:Int)+1))=(((k+1)*(j+1):Nat):Int):=by rw[ag ((k:Int)+1),ag ((j:Int)+1),show((k:Int)+1)*((j:Int)+1)=(((k+1)*(j+1):Nat):Int)by rw[wH];rfl];exact tQ _
   rw[T];refine(aci f _ W (o.box 1 hZ)).xa ⟨_,hZ,?_⟩;have G:hY (rowAt j)=K+b:=by simp[rowAt];omega
   refine o.set ae 3 hZ (λ_=>rfl) hZ j hZ ii _ hZ hZ hZ λh9 z=>?_;refine⟨j+1,i9,⟨ii,?_⟩,ii⟩;have w:(rowAt j).set j (Gf.pw ((((k+1)*(j+1):Nat):Int)%255).toNat)=rowAt (j+1):=by
    have O:((((k+1)*(j+1):Nat):Int)%255).toNat=(k+1)*(j+1)%255:=ii
    rw[O];simp only[rowAt];rw[qV _ _ i6,qu,zC,qX,qL i5,zn,zJ,qN,qn];rfl
   rw[<-w];exact z
  .have g:j=K:=ii
   subst g;have w:rowAt j=mh j b k:=by
    simp only[rowAt,mh];congr 1;apply zt;intro i;rw[wQ,qW,qO];by_cases c:i<b
    .rw[zp c,qS,zU];by_cases d:i=k
     .subst d;simp[c]
     .rw[f9 ii,f8 ii,f9 d]
    .rw[qJ (l:=qx b) i5,f9 ii,zU,f9 ii];rfl
   rw[w]at o;have J:=o.freeze 3 hZ λ_=>rfl;have P:hY ((bz j b).take k)=k:=by simp[bz];omega
   refine J.un ae 2 3 i0 hZ hZ fF ii λs' h9 z=>?_;refine⟨(s',k+1),i7,⟨i4,?_⟩,i4⟩;have e7:(bz j b).take (k+1)=(bz j b).take k++[mh j b k]:=by rw[aE _ _ (by simp[bz];omega)];simp[bz]
   try dsimp only
   rw[e7];exact z.del 3
 .refine⟨s,hZ,?_⟩;rw[f8 x,S,M,qj,qj];rw[qh (by simp[bz];omega)]at m;exact m.take 2 (λi A c=>by cases i with|zero=>exact c|succ i=>simp at c)
theorem Js(p:Pm)(h:f7):ai xT 197 #[kb p] h λv h'=>∃r:Sl,v=r/\Sp h h' [an 3 r 1 aw (upto (max 0 (min p.1 16)).toNat)]:=by
 refine ts Tryz.func197 ?_ (v7 (v7 (wj [(3,cM),(9,aU)] [(3,5),(9,17)]))) (args:=[p]);refine(Sp.refl h).boxed λa m f=>?_;refine⟨p.1,(f.box 0 hZ).cell0 hZ,?_⟩;have em:(if(if(16:Int)<p.1 then(16:Int)else p.1)>(0:Int)then(if(16:Int)<p.1 then(16:Int)else p.1)else(0:Int))=((max 0 (min p.1 16)).toNat:Int):=by split<;>split<;>omega
 try dsimp only
 rw[em];generalize o:(max 0 (min p.1 16)).toNat=N;have b:N<=16:=ii
 refine aq (λt:Sl×Nat=>(t.1,(t.2:Int))) (λt h'=>t.2<=N/\Sp h h' [emp,an 3 t.1 1 aw (upto t.2)]) (λt=>N-t.2) (⟨et,0,0⟩,0) hZ ⟨i6,(f.eW 0 hZ λ_ _=>trivial).nil 3 1 aw⟩ ?_;rintro⟨s,k⟩ q ⟨u,c⟩;dsimp only at*;refine af (λe=>?_) (λe=>?_)
 .refine c.push ae 1 hZ gb hZ i0 (λ_=>rfl) fd (k:Int) hZ i0 sz λl h3 g=>?_;refine⟨(l,k+1),i7,⟨i4,?_⟩,i4⟩;have j:upto (k+1)=upto k++[(k:Int)]:=by simp[upto,zJ]
  dsimp only;rw[j];exact g
 .have:k=N:=ii
  subst this;exact⟨s,hZ,c.take 1 λi A d=>by cases i with|zero=>exact d|succ i=>simp at d⟩
theorem GM(p:Pm)(seed:Int)(ids:Sl)(l:az)(h:f7)(E:Rd h ids 1 aw l)(K:hY l<=2^30):ai xT 196 #[kb p,xJ xR seed,ids] h λv h'=>∃r:Sl,v=r/\Sp h h' [gK 34 r 1 aB (dU p seed l)]:=by
 refine ts Tryz.func196 ?_ (v7 (v7 (wj [(7,cM),(15,aU)] [(7,8),(9,11),(15,30)]))) (args:=[p,(xJ xR (seed:Int)),ids]);refine(Sp.refl h).boxed λa x B=>?_;refine⟨p,(B.box 0 hZ).aA _ hZ,(tu p x).mono ?_⟩;rintro v G ⟨r,rfl,H⟩;have y:=B.comp H;refine⟨r,hZ,?_⟩;have D:=E.len;let at_:Nat->bH:=λk=>dU p seed (l.take k);have h0:(if bK p then bz p.1.toNat p.2.1.toNat else[])=at_ 0:=by simp[at_,dU]
 rw[h0]at y;refine aq (λt:Sl×Nat=>(t.1,(t.2:Int))) (λt h'=>t.2<=hY l/\Sp h h' [aj a 25 [xJ xP p.1,xJ xP p.2.1,xJ xP p.2.2],gK 34 t.1 1 aB (at_ t.2)]) (λt=>hY l-t.2) (r,0) hZ ⟨i6,y⟩ ?_;rintro⟨s,k⟩ h3 ⟨O,g⟩;dsimp only at*;refine af (λe=>?_) (λe=>?_)
 .have d:k<hY l:=ii
  refine(Seq.up E g.ac).bo k hZ d _ hZ ?_;refine⟨p,(g.box 0 hZ).aA _ hZ,(PD p seed l[k] h3).x0 λw N ⟨I,c⟩=>?_⟩;have u:=(g.comp I).freeze 2 hZ λ_=>rfl;refine⟨w,hZ,?_⟩;have o:hY (at_ k)<=4+k∨at_ k=[]:=by
   by_cases q:bK p
   .left;have:=(bP p).1 q;have x:=qU bW (l.take k);have G:=List.length_take_le k l;simp only[at_,dU,q,if_true,qw,qu,bz,zC];omega
   .right;simp[at_,dU,q]
  have j:hY (at_ k)+1<=2^32:=by
   rcases o with h|h
   .omega
   .rw[h];simp
  try dsimp only
  refine aW (λf=>?_) (λf=>?_)
  .rw[c]at f;have b:(bK p&&bW l[k])=ez:=m6
   rw[b,f8 rfl]at u;refine u.un ae 1 2 i0 hZ hZ fF j λL M J=>?_;refine⟨(L,k+1),i7,⟨i4,?_⟩,i4⟩;rw[qy]at b;have m:at_ (k+1)=at_ k++[oJ (bG p).toNat seed l[k]]:=by simp only[at_,dU,b.1,if_true];rw[oK d,f8 b.2,qN,qn];rfl
   try dsimp only
   rw[m];exact J.del 2
  .rw[c]at f;have b:(bK p&&bW l[k])=eH:=by
    cases hh:(bK p&&bW l[k])with
    |false=>rfl
    |true=>rw[hh]at f;cases f
   refine⟨(s,k+1),i7,⟨i4,?_⟩,i4⟩;have m:at_ (k+1)=at_ k:=by
    simp only[at_,dU];rw[Bool.and_eq_false_iff]at b;rcases b with h|h
    .simp[h]
    .have F:(l.take (k+1)).filter bW=(l.take k).filter bW:=by rw[oK d,f9 u6]
     rw[F]
   try dsimp only
   rw[m];exact u.del 2
 .refine⟨s,hZ,?_⟩;have m:at_ k=dU p seed l:=by simp only[at_];rw[qh ii]
  rw[m]at g;exact g.take 1 (λi A z=>by cases i with|zero=>exact z|succ i=>simp at z)
theorem nr(a:Sl)(m:aN)(n:Nat)(h:f7)(b:fe h a 1 aB m)(j:aV n m)(o:n<=64:=by omega)(p:hY m<=2^30:=by omega):ai xT 245 #[a] h λv h'=>v=xN ez/\h'=h:=by
 refine ts Tryz.func245 ?_ (v7 (wj [(7,aU)] [(2,3),(4,5),(7,24)]));have s:=b.len;refine aq (λk:Nat=>(k:Int)) (λk h'=>h'=h/\k<=hY m) (λk=>hY m-k) 0 hZ ⟨hZ,ii⟩ ?_;rintro k h' ⟨rfl,q⟩;refine af (λe=>?_) λe=>⟨hZ,hZ⟩;have c:k<hY m:=ii
 refine b.get k hZ c λr g=>?_;refine b.get 0 hZ ii λl d=>?_;have f:=g.len;have i:=d.len;rw[j _ (qf _)]at f i;refine bA (λe=>ii) λ_=>af (λe=>ii) λ_=>?_;exact⟨k+1,i9,⟨hZ,ii⟩,ii⟩
theorem vY(a:Sl)(m:aN)(n:Nat)(h:f7)(d:fe h a 1 aB m)(u:aV n m)(z:n<=64:=by omega)(B:hY m<=2^30:=by omega):ai xT 247 #[a] h λv h'=>∃(r:Sl) (rs:List Sl),v=r/\rs.length=hY m/\Sp h h' (an 34 r 1 bn rs::bw 5 1 aB rs m):=by
 refine ts Tryz.func247 ?_ (v7 (v7 (wj [(3,cM),(11,aU)] [(3,4),(5,6),(11,21)])));have E:=d.len;refine(Sp.refl h).make ae bn fF i0 ⟨et,0,0⟩ hZ hZ 0 m.length hZ ii ii ii λs y k A p=>?_;refine aq (λt:Sl×List Sl=>(t.1,(hY t.2:Int))) (λt h'=>hY t.2<=hY m/\Sp h h' (an 34 t.1 1 bn t.2::bw 5 1 aB t.2 (m.take t.2.length))) (λt=>hY m-hY t.2) (s,[]) hZ ⟨i6,by simpa[bw]using p⟩ ?_;rintro⟨s,rs⟩ g ⟨D,c⟩;dsimp only at*;refine af (λe=>?_) (λe=>?_)
 .have b:hY rs<hY m:=ii
  refine(d.up c.ac).get rs.length hZ b λr f=>?_;have j:m[hY rs].length=n:=u _ (qf _);refine(fP r _ g f ii).x0 λw h3 q=>?_;have i:=c.comp q;refine⟨w,hZ,?_⟩;refine i.push ae 0 hZ fF hZ i0 (λ_=>rfl) jH w hZ i0 ii λx F l=>?_;refine⟨(x,rs++[w]),by dsimp only;rw[ag _];simp,⟨i5,?_⟩,i5⟩
  try dsimp only
  rw[show(rs++[w]).length=hY rs+1 by simp,aE _ _ b,uE (by rw[List.length_take];omega)];exact l
 .have o:m.take rs.length=m:=qh ii;rw[o]at c;exact⟨s,rs,hZ,ii,c⟩
theorem rZ(a:Sl)(m:aN)(h:f7)(b:fe h a 1 aB m):ai xT 246 #[a] h λv h'=>v=xJ xP (ff m)/\h'=h:=by
 refine ts Tryz.func246 ?_;have d:=b.len;refine aX (λe=>?_) (λe=>?_)
 .have:m=[]:=qZ ii;subst this;exact⟨hZ,hZ⟩
 .refine b.get 0 hZ ii λr c=>⟨?_,hZ⟩
  rw[c.len,ff,bv ii]
theorem PE{r:Row}{c:Nat}(h:c<hY r:=by omega):aO r c=r[c]:=by rw[aO,qd,qc h];rfl
theorem RZ(a:Sl)(m:aN)(n b bp:Nat)(h:f7)(q:fe h a 1 aB m)(w:aV n m)(x:bp<n)(y:hY m<=2^30):
  ai xT 305 #[a,xJ xP b,xJ xP bp] h λv h'=>v=xJ xP (match jx m b bp with|some i=>(i:Int)|none=>-1)/\h'=h:=by
 refine ts Tryz.func305 ?_ (v7 (.scope 0 [(7,aU)] [(6,8),(9,24)] [u9] [u9] [(1,[u9])]));have z:=q.len;refine aq (λk:Nat=>(k:Int)) (λk h'=>h'=h/\b<=k/\k<=max b m.length/\∀j,j<k->(decide (b<=j)&&(aO (aC m j) bp !=0))=eH) (λk=>hY m-k) b hZ ⟨hZ,ii,ii,λj g=>by rw[g9 ii];rfl⟩ ?_;rintro k h' ⟨rfl,l,u,g⟩;refine af (λe=>?_) (λe=>?_)
 .rw[jx,UZ λj f=>g j ii];exact⟨hZ,hZ⟩
 .have d:k<hY m:=ii
  have t:m[k].length=n:=w _ (qf _);refine q.get k hZ d λr s=>?_;refine s.bo bp hZ ii _ hZ ?_;have c:aO (aC m k) bp=m[k][bp]'ii:=by rw[bv d,PE]
  refine bA (λo=>?_) (λo=>?_)
  .have p:(decide (b<=k)&&(aO (aC m k) bp !=0))=ez:=by rw[g0 l,c];simp;exactλh0=>o (by rw[h0];rfl)
   rw[jx,Va d g p];exact⟨hZ,hZ⟩
  .refine⟨k+1,i9,⟨hZ,ii,ii,λj f=>?_⟩,ii⟩;rcases Nat.lt_succ_iff_lt_or_eq.1 f with h1|rfl
   .exact g j h1
   .rw[c,Bo.1 o];simp
theorem Jt(f:eS)(c:UInt8)(a:Sl)(l:Row)(h:f7)(j:fY h f)(m:Rd h a 1 aB l)(y:hY l<=2^30):ai xT 306 #[xL (dB f),xJ xQ c.toNat,a] h λv h'=>∃r:Sl,v=r/\Sp h h' [an 5 r 1 aB (scaleB c l)]:=by
 refine ts Tryz.func306 ?_ (v7 (v7 (v7 (wj [(17,aU)] [(8,10),(17,30)]))));have A:=m.len;refine(Nh f h).mono ?_;rintro v i ⟨rfl,rfl⟩;refine⟨dB f,hZ,?_⟩;refine(Sp.refl i).make ae aB gN i0 0 hZ hZ l.length l.length ii ii (qm _) ii λs w p x o=>?_;refine aq (λk:Nat=>(k:Int)) (λk h'=>k<=hY l/\Sp i h' [an 5 s 1 aB ((l.take k).map (Gf.mul c)++qg (hY l-k) 0)]) (λk=>hY l-k) 0 hZ ⟨ii,p7⟩ ?_;rintro k h3 ⟨z,b⟩;refine af (λe=>?_) (λe=>?_)
 .have d:k<hY l:=ii
  refine(Seq.up m b.ac).bo k hZ d _ hZ ?_;refine(HT f c l[k] h3 (j.ac b.ac j.lt)).xa ⟨_,hZ,?_⟩;refine b.set ae 0 hZ (λ_=>rfl) hZ k hZ i5 _ hZ hZ hZ λu t=>?_;refine⟨k+1,i9,⟨ii,?_⟩,ii⟩;have g:hY ((l.take k).map (Gf.mul c))=k:=i5
  have q:((l.take k).map (Gf.mul c)++qg (hY l-k) 0).set k (Gf.mul c l[k])=(l.take (k+1)).map (Gf.mul c)++qg (hY l-(k+1)) 0:=by rw[qV _ _ ii,g,qX,show l.length-k=hY l-(k+1)+1 by omega,List.replicate_succ,zn,aE _ _ d,qN,qn];rfl
  rw[<-q];exact t
 .have:k=hY l:=ii
  subst this;refine⟨s,hZ,?_⟩;rw[qh (qm _),qX,List.replicate_zero,qG]at b;exact b
theorem wd{c:UInt8}{a t:Row}(d:hY a=hY t){k:Nat}(b:k<hY t):(zg (λx y=>y^^^Gf.mul c x) (a.take k) (t.take k)++t.drop k).set k (t[k]^^^Gf.mul c (a[k]'ii))=zg (λx y=>y^^^Gf.mul c x) (a.take (k+1)) (t.take (k+1))++t.drop (k+1):=by
 have e:hY (zg (λx y=>y^^^Gf.mul c x) (a.take k) (t.take k))=k:=i5
 rw[qV _ _ ii,e,qX,qL b,zn,aE _ _ b,aE _ _ (show k<hY a by omega),yM i5];simp
theorem ack(f:eS)(c:UInt8)(a l:Sl)(d lt:Row)(h:f7)(E:fY h f)(z:¬l.on f.block)(D:Seq h (λb=>¬l.on b) a 1 aB d)(s:Own h 5 l 1 aB lt)(q:hY d=hY lt)(J:hY d<=2^30):
  ai xT 308 #[xL (dB f),xJ xQ c.toNat,a,l] h λv h'=>v=.tuple #[]/\Own h' 5 l 1 aB (cW c d lt)/\aS (λb=>¬l.on b) h h':=by
 refine ts Tryz.func308 ?_ (v7 (v7 (v1 (v2 [(14,aU)] [(8,10),(14,30)] u9))));have L:=D.len;have I:=s.len;refine aX (λe=>?_) (λ_=>?_)
 .have H:c=0:=Bo.1 e;subst H;have:cW 0 d lt=lt:=by apply List.ext_getElem (by rw[bX q]);intro i B F;simp[cW,Gf.zero_mul]
  exact⟨hZ,by rw[this];exact s,aS.refl _ _⟩
 .refine aq (λk:Nat=>(k:Int)) (λk h'=>k<=hY d/\Own h' 5 l 1 aB (zg (λx y=>y^^^Gf.mul c x) (d.take k) (lt.take k)++lt.drop k)/\aS (λb=>¬l.on b) h h') (λk=>hY d-k) 0 hZ ⟨ii,by simpa using s,aS.refl _ _⟩ ?_;rintro k B ⟨K,j,g⟩;refine af (λe=>?_) (λe=>?_)
  .have A:k<hY d:=ii
   have u:k<hY lt:=ii
   have o:hY (zg (λx y=>y^^^Gf.mul c x) (d.take k) (lt.take k))=k:=i5
   have G:hY (zg (λx y=>y^^^Gf.mul c x) (d.take k) (lt.take k)++lt.drop k)=hY lt:=by rw[qw,o,List.length_drop];omega
   refine(D.ac g).bo k hZ A _ hZ ?_;have r:(zg (λx y=>y^^^Gf.mul c x) (d.take k) (lt.take k)++lt.drop k)[k]'ii=lt[k]:=by rw[List.getElem_append_right ii];simp[o]
   refine(j.seq (p:=λ_=>True) (λ_=>rfl) λ_ _=>trivial).mU k hZ ii _ hZ λax m=>?_;rw[r]at m⊢;refine(HT f c d[k] B (E.ac g z)).xa ⟨_,hZ,⟨m,x7⟩,?_⟩
   try dsimp only
   rw[ou];refine j.set ae (λ_=>rfl) hZ k hZ ii _ hZ hZ hZ λh3 w t _=>⟨x7,?_⟩
   refine⟨k+1,i9,⟨ii,?_,g.trans t⟩,ii⟩;rw[<-wd q u];exact w
  .have:k=hY d:=ii
   subst this;rw[qh (qm _),qh ii,zd ii,qG]at j;exact⟨hZ,j,g⟩
abbrev nZ(a:Sl)(rs:List Sl)(m:aN):List HP:=an 34 a 1 bn rs::bw 5 1 aB rs m
theorem pk{a:Sl}{rs:List Sl}{m:aN}(b:hY rs=hY m)(i:Nat)(c:i<hY m):(nZ a rs m)[i+1]?=dB (an 5 (rs[i]'ii) 1 aB m[i]):=by rw[qq];exact iw b i c
theorem pm{h h':f7}{a:eS}{v:Value}(c:cellOf h a=dB v)(d:aS (λb=>b<h.size) h h'):cellOf h' a=dB v:=d.cell (tK c) c
theorem YN{B:av}{F:f7}{f:eS}(L:fY F f)(A:B f.block){a:Sl}{n c bp:Nat}{rs:List Sl}{m:aN}(hl:hY rs=hY m)(hm:aV n m)(hc:bp<n)(hn:n<=64)(X:c<hY m)(hs:hY m<=2^30)
  {h:f7} (H:aa B F h (nZ a rs m)) {K:f7->Prop} (hk:∀h',aa B F h' (nZ a rs (fA c bp m m.length))->K h'):
 gX (σ:=Int) (λd W i=>
 Br (decide (d<((a.len:Nat):Int)))
 (Br (d !=(c:Int))
 (∃x:eS,(a.ptr=dB x/\0<=d/\d<((a.len:Nat):Int))/\
 ∃g:Sl,cellOf i (x.add (d.toNat*1))=dB (xK g.ptr g.len g.cap)/\
 ∃y:eS,(g.ptr=dB y/\0<=(bp:Int)/\(bp:Int)<((g.len:Nat):Int))/\
 ∃I:Int,cellOf i (y.add ((bp:Int).toNat*1))=dB (xJ xQ I)/\
 ∃a25:eS,(a.ptr=dB a25/\0<=(c:Int)/\(c:Int)<((a.len:Nat):Int))/\
 ∃l:Sl,cellOf i (a25.add ((c:Int).toNat*1))=dB (xK l.ptr l.len l.cap)/\
 ∃E:eS,(a.ptr=dB E/\0<=d/\d<((a.len:Nat):Int))/\
 ∃j:Sl,cellOf i (E.add (d.toNat*1))=dB (xK j.ptr j.len j.cap)/\
 oy xT 308 #[(xL (dB f)),(xJ xQ I),(xK l.ptr l.len l.cap),(xK j.ptr j.len j.cap)] (.many []) i λ_ z=>
 (bR.ok [(x.add (d.toNat*1),(xK g.ptr g.len g.cap))] z)/\
 W (qe xP (d+(1:Int))) z)
 (W (qe xP (d+(1:Int))) i))
 (K i)) (0:Int) h:=by
 have ad:a.len=hY m:=by rw[(H.own 0 hZ).len,hl]
 refine aq (λk:Nat=>(k:Int)) (λk h'=>k<=hY m/\aa B F h' (nZ a rs (fA c bp m k))) (λk=>hY m-k) 0 hZ ⟨ii,by rw[XG];exact H⟩ ?_;rintro k U ⟨ab,o⟩;have M:=oM c bp m k;have t:hY rs=hY (fA c bp m k):=by rw[M];exact hl
 refine af (λe=>?_) (λe=>?_)
 .have u:k<hY m:=ii
  refine bA (λZ=>?_) (λZ=>?_)
  .have s:k≠c:=λhh=>Z (by rw[hh]);have S:aC (fA c bp m k) k=aC m k:=by rw[rJ u,f9 ii]
   have T:aC (fA c bp m k) c=aC m c:=by rw[rJ X,f9 ii]
   have e4:(fA c bp m k)[k]'ii=aC m k:=by rw[<-S,bv]
   have e5:(fA c bp m k)[c]'ii=aC m c:=by rw[<-T,bv]
   have r:=pk (a:=a) t k ii;have Y:=pk (a:=a) t c ii;rw[e4]at r;rw[e5]at Y;have lk:=cA hm u;have lt:=cA hm X;have q:=o.off (k+1) 0 ii r hZ;have w:=q.1.seq (λ_=>rfl) q.2;refine w.nY k hZ ii λa1 R N=>?_;have O:=o.seq (k+1) r λ_=>rfl;refine O.bo bp hZ ii _ hZ ?_;refine w.nY c hZ ii λ_ _ _=>?_;refine w.nY k hZ ii λ_ _ _=>?_;have G:(td (rs[c]'ii) 1 aB (aC m c)).p U (λb=>¬(rs[k]'ii).on b):=by have:=o.off (k+1) (c+1) ii r Y;exact(this.1.seq (λ_=>rfl) this.2).mono λb hb=>hb.2
   refine(ack f _ _ _ (aC m c) (aC m k) U (L.ac o.ac A) (o.base (k+1) r A) G (o.own (k+1) r) ii ii).xc λh2 ⟨P,D⟩=>?_;have V:=o.nG (k+1) r D P;have Q:=D.cell N.2 R;refine⟨(),hZ,⟨Q,x7⟩,?_⟩;refine⟨k+1,i9,⟨ii,?_⟩,ii⟩;rw[XH u s];show aa B F h2 (an 34 a 1 bn rs::bw 5 1 aB rs ((fA c bp m k).set k _));rw[<-Om t k ii];have J:(aC m k)[bp]'ii=aO (aC m k) bp:=(PE).symm;rw[J]at V;exact V
  .have s:k=c:=ii
   subst s;exact⟨k+1,i9,⟨ii,by rw[XI];exact o⟩,ii⟩
 .have:k=hY m:=ii
  subst this;exact hk _ o
theorem PF{rs:List Sl}{m:aN}(a:hY rs=hY m)(i j:Nat)(c:i<hY m)(b:j<hY m):
  ((bw 5 1 aB rs m).set i (an 5 (rs[j]'ii) 1 aB m[j])).set j (an 5 (rs[i]'ii) 1 aB m[i])=bw 5 1 aB ((rs.set i (rs[j]'ii)).set j (rs[i]'ii)) (jK m i j):=by
 rw[lp a,lp j5,jK,bv c,bv b]
theorem Bp{B:av}{u:f7}{f:eS}(S:fY u f)(U:B f.block){a:Sl}{n cZ:Nat}{rs:List Sl}{m:aN}(hl:hY rs=hY m)(hm:aV n m)(hc:cZ<=n)(hn:n<=64)(hs:hY m<=2^30)
  {h:f7} (H:aa B u h (nZ a rs m)):ai xT 248 #[xL (dB f),a,xJ xP cZ] h λv h'=>
   ∃V:List Sl,v=xJ xP (bJ m cZ).1/\V.length=hY m/\aa B u h' (nZ a V (bJ m cZ).2):=by
 have am:a.len=hY m:=by rw[(H.own 0 hZ).len,hl]
 refine ts Tryz.func248 ?_ (v7 (v7 (u7 (v7 (v1 (v2 [(7,aU),(12,aU)] [(7,11),(12,82)] (v7 (v7 (u7 (v1 (v7 (v7 (v7 (ws [] [(21,35)] (ws [] [(35,53)] (wj [(55,aU)] [(10,11),(55,79)]))))))) u9)))))) u9))) [(8,(.l [0,1,2,3,4,5,6,7,8,9,10,12,13,14,15,11,16,17,18]))];refine aq (λt:List Sl×Nat=>(((bJ m t.2).1:Int),(t.2:Int))) (λt h'=>t.2<=cZ/\t.1.length=hY m/\aa B u h' (nZ a t.1 (bJ m t.2).2)) (λt=>cZ-t.2) (rs,0) hZ ⟨i6,hl,H⟩ ?_;rintro⟨c,bp⟩ h1 ⟨hk,N,L⟩;dsimp only at*;have y:=iy hm bp;have G:=Cq m bp;obtain⟨st,x⟩:=x6 (bJ m bp)
 rw[<-x]at y G L⊢;obtain⟨b,o⟩:=st;dsimp only at y G L⊢;have z:hY c=hY o:=ii
 have g:bJ m (bp+1)=jL (b,o) bp:=by rw[bJ,<-x]
 refine af (λe=>?_) (λe=>?_)
 .have T:bp<n:=ii
  have R:fe h1 a 1 aB o:=L.On z λ_=>rfl;refine(RZ a o n b bp h1 R y.1 T ii).mono ?_;rintro v h2 ⟨rfl,rfl⟩;refine⟨_,hZ,?_⟩
  try dsimp only
  cases hb:jx o b bp with
  |none=>
   refine af (λ_=>?_) λe2=>absurd i0 e2;refine⟨(c,bp+1),?_,⟨i4,N,?_⟩,i4⟩
   ·(try dsimp only);rw[g,jL,hb,ag _];rfl
   ·(try dsimp only);rw[g,jL,hb];exact L
  |some i=>
   have hh:=sB hb;refine af (λe2=>absurd (show((i:Nat):Int)<0 from e2) ii) (λ_=>?_)
   try dsimp only
   have J:b<hY o:=ii
   have Y:=hh.2.1;have M:=L.seq 0 hZ λ_=>rfl;refine aG ?_;refine M.nY i hZ ii λ_ _ _=>?_;refine M.nY b hZ ii λ_ _ _=>?_;refine L.set ae 0 hZ (λ_=>rfl) hZ b hZ ii (c[i]'ii) hZ hZ hZ λh3 H3=>⟨x7,?_⟩
   refine H3.set ae 0 hZ (λ_=>rfl) hZ i hZ i5 (c[b]'ii) hZ hZ hZ λX H4=>⟨x7,?_⟩
   have p:aa B u X (nZ a ((c.set b (c[i]'ii)).set i (c[b]'ii)) (jK o b i)):=by have:=H4.adQ (b+1) (i+1) (A:=an 5 (c[b]'ii) 1 aB o[b]) (A2:=an 5 (c[i]'ii) 1 aB o[i]) (iw z b J) (iw z i Y);show aa B u X (an 34 a 1 bn _::bw 5 1 aB _ _);rw[<-PF z b i J Y];exact this
   obtain⟨j,F⟩:=x6 ((c.set b (c[i]'ii)).set i (c[b]'ii))
   rw[<-F]at p;have ah:hY j=hY o:=by rw[F];simp;omega
   obtain⟨d,w⟩:=x6 (jK o b i)
   have E:aV n d:=by rw[w];exact Eh y.1 J Y
   have O:hY d=hY o:=by rw[w];exact lY _ _ _
   rw[<-w]at p;have s:hY j=hY d:=ii
   have k:b<hY d:=ii
   refine aG ?_;have gt:=pk (a:=a) s b k;have lt:d[b].length=n:=E _ (qf _);have Q:=p.seq 0 hZ λ_=>rfl;refine Q.nY b hZ ii λal I _=>?_;have D:=p.seq (b+1) gt λ_=>rfl;refine D.bo bp hZ ii _ hZ ?_;refine Q.nY b hZ ii λao P _=>?_;have W:fY X f:=S.ac p.ac U;refine(ach f _ X W).mono ?_;rintro v h5 ⟨rfl,rfl⟩;refine⟨_,hZ,⟨P,I,x7⟩,?_⟩;refine(Jt f _ _ _ h5 W D ii).x0 λr h6 R6=>⟨r,hZ,⟨pm I R6.ac,x7⟩,?_⟩;have H6:=p.comp R6
   try dsimp only
   refine H6.set ae 0 hZ (λ_=>rfl) hZ b hZ ii r hZ hZ hZ λh7 H7=>⟨x7,?_⟩
   have ab:d[b]=aC d b:=(bv k).symm;have ad:(d[b])[bp]'ii=aO (aC d b) bp:=by rw[PE (by rw[bv k];omega)];simp only[bv k]
   have Z:aa B u h7 (nZ a (j.set b r) (ky b bp d)):=by have h8:aa B u h7 ((an 34 a 1 bn (j.set b r)::bw 5 1 aB j d)++[an 5 r 1 aB (scaleB (Gf.inv ((d[b])[bp]'ii)) d[b])]):=H7;have h9:=h8.agP (b+1) (by simp[GF s];omega);rw[ad,ab]at h9;show aa B u h7 (an 34 a 1 bn _::bw 5 1 aB _ (d.set b _));rw[<-lp s];exact h9
   have K:hY (ky b bp d)=hY d:=oL _ _ _;refine YN S U i5 (Aw E k) T hn ii ii Z λh8 H8=>?_;have q:jL (b,o) bp=(b+1,fA b bp (ky b bp d) o.length):=by rw[jL];(try dsimp only);rw[hb,w]
   refine⟨(j.set b r,bp+1),?_,⟨i4,i5,?_⟩,i4⟩
   ·(try dsimp only);rw[g,q,ag _,ag _];rfl
   ·(try dsimp only);rw[g,q];rw[K,O]at H8;exact H8
 .have:bp=cZ:=ii
  subst this;exact⟨c,by rw[<-x],N,by rw[<-x];exact L⟩
theorem GN(f:eS)(a:Sl)(m:aN)(n:Nat)(h:f7)(s:fY h f)(y:fe h a 1 aB m)(g:aV n m)(j:n<=64)(o:hY m<=2^30):
  ai xT 295 #[xL (dB f),a] h λv h'=>∃(r:Sl) (rs:List Sl),v=r/\r.len=bZ m/\rs.length=hY m/\r.len<=hY m/\Sp h h' (nZ ⟨r.ptr,hY m,r.cap⟩ rs (bJ m (ff m)).2):=by
 refine ts Tryz.func295 ?_;refine(nr a m n h y g j o).mono ?_;rintro v A ⟨rfl,rfl⟩;refine⟨_,hZ,aW (λe=>jj) λ_=>?_⟩;refine(vY a m n A y g j o).mono ?_;rintro v B ⟨r,rs,rfl,z,u⟩;refine⟨r,hZ,(tq f B).mono ?_⟩;rintro v h3 ⟨rfl,rfl⟩;refine⟨dB f,hZ,(rZ r m h3 (u.On z λ_=>rfl)).mono ?_⟩;rintro v F ⟨rfl,rfl⟩;have D:ff m<=n:=by
  cases m with
  |nil=>simp[ff,aC]
  |cons x t=>rw[ff,bv i6];exact xv (g _ i6)
 refine⟨_,hZ,(Bp s s.lt z g D j o u).x0 λk E ⟨i,q⟩=>?_⟩;have b:=Cq m (ff m);rw[(iy g _).2]at b;have w:=(q.own 0 hZ).cap;have d:=(q.own 0 hZ).len;refine⟨_,hZ,⟨zW _,yP.2 (show(bJ m (ff m)).1<=r.cap by omega)⟩,⟨r.ptr,(bJ m (ff m)).1,r.cap⟩,k,i6,hZ,i,b,?_⟩;have:r=⟨r.ptr,hY m,r.cap⟩:=by obtain⟨p,l,c⟩:=r;simp only at d⊢;rw[<-i,<-d]
 rw[<-this];exact q
theorem YO(f:eS)(a:Sl)(m:aN)(n:Nat)(h:f7)(b:fY h f)(e:fe h a 1 aB m)(j:aV n m)(d:n<=64)(g:hY m<=2^30):
  ai xT 267 #[xL (dB f),a] h λv h'=>v=xJ xP (bZ m)/\Sp h h' []:=by
 refine ts Tryz.func267 ?_;refine(GN f a m n h b e j d g).mono ?_;rintro v k ⟨r,rs,rfl,c,_,_,i⟩;exact⟨r,hZ,by rw[c],.zip i.ac⟩
theorem HU(p:Pm)(seed:Int)(ids:Sl)(l:az)(h:f7)(t:Rd h ids 1 aw l)(u:hY l<=2^29):ai xT 212 #[kb p,xJ xR seed,ids] h λv h'=>v=xJ xP (oA p seed l)/\Sp h h' []:=by
 refine ts Tryz.func212 ?_ u9 [(1,(.l [1,2,3,0,4,5,6]))] (args:=[p,(xJ xR (seed:Int)),ids]);refine(Sp.refl h).boxed λa i g=>?_;refine⟨p,(g.box 0 hZ).aA _ hZ,(pZ i).mono ?_⟩;rintro v j ⟨f,rfl,m⟩;have b:=g.comp m;have e:=b.box 0 hZ;refine⟨dB f,hZ,⟨e.cell0 hZ,e.cell hZ,e.cell hZ,x7⟩,?_⟩;refine(GM p seed ids l j (Seq.up t b.ac) ii).mono ?_;rintro v h3 ⟨r,rfl,s⟩;have c:=b.comp s;refine⟨r,hZ,x7,?_⟩;have k:=abA p seed l;have d:(bG p).toNat<=64:=by
  unfold bG;split
  .rename_i o;have:=(bP p).1 o;omega
  .omega
 refine(YO f r _ _ h3 (c.box 1 hZ) (c.Ea 2 hZ) (jX p seed l) d ii).xc λw q=>⟨_,hZ,x7,hZ,.zip (c.comp q).ac⟩
theorem Mh(p:Pm)(seed:Int)(ids:Sl)(l:az)(h:f7)(r:Rd h ids 1 aw l)(d:hY l<=2^29):ai xT 149 #[kb p,xJ xR seed,ids] h λv h'=>v=xN (fV p seed l)/\Sp h h' []:=by refine ts Tryz.func149 ?_ u9 [(1,(.l [0,1,2,3,4,5,7,6,8,9,10,11]))] (args:=[p,(xJ xR (seed:Int)),ids]);refine(Sp.refl h).boxed λa j g=>?_;refine⟨p,(g.box 0 hZ).aA _ hZ,(eE p j).mono ?_⟩;rintro v k ⟨rfl,m⟩;have c:=g.comp m;refine⟨_,hZ,x7,aY (λe=>?_) λe=>⟨x7,x7,by rw[fV,e];rfl,.zip c.ac⟩⟩;have i:=c.box 0 hZ;refine⟨p,i.aA _ hZ,p,i.aA _ hZ,(HU p seed ids l k (Seq.up r c.ac) d).mono ?_⟩;rintro v h3 ⟨rfl,q⟩;have f:=c.comp q;have b:=f.box 0 hZ;refine⟨_,hZ,⟨b.cell0 hZ,b.cell hZ,b.cell hZ,x7⟩,(kJ p h3).xc λs o=>?_⟩;exact⟨_,hZ,x7,by rw[fV,e];rfl,.zip (f.comp o).ac⟩
theorem Ju(p:Pm)(seed:Int)(h:f7):ai xT 193 #[kb p,xJ xR seed] h λv h'=>v=xN (fV p seed (fw p))/\Sp h h' []:=by refine ts Tryz.func193 ?_ (args:=[p,(xJ xR (seed:Int))]);refine(Sp.refl h).boxed λa f d=>?_;have e:=d.box 0 hZ;refine⟨p,e.aA _ hZ,p,e.aA _ hZ,(Js p f).mono ?_⟩;rintro v g ⟨r,rfl,i⟩;have c:=d.comp i;have b:=c.box 0 hZ;refine⟨r,hZ,⟨b.cell0 hZ,b.cell hZ,b.cell hZ,x7⟩,(Mh p seed r _ g (c.seq 1 hZ λ_=>rfl) sz).xc λh3 j=>?_⟩;exact⟨_,hZ,x7,hZ,.zip (c.comp j).ac⟩
theorem acl(p:Pm)(o b:Int)(h:f7):ai xT 130 #[kb p,xJ xP o,xJ xP b] h λv h'=>
  v=.tuple #[xJ xP (((pY p o b).getD 0:Nat):Int),xN (pY p o b).isSome]/\Sp h h' []:=by
 refine ts Tryz.func130 ?_ (v7 (wj [(9,aU)] [(6,20)])) (args:=[p,(o:Int),(b:Int)]);refine(Sp.refl h).boxed λy D A=>?_;refine aq (λi:Nat=>(i:Int)) (λi h'=>i<=16/\(∀k,k<i->Jq p o b k=eH)/\Sp h h' [aj y 25 [xJ xP p.1,xJ xP p.2.1,xJ xP p.2.2]]) (λi=>16-i) 0 hZ ⟨ii,λk f=>absurd f (Nat.not_lt_zero k),A⟩ ?_;rintro i x ⟨E,c,m⟩;refine af (λe=>?_) λe=>?_
 .have w:i<16:=ii
  have a:=m.box 0 hZ;refine⟨p,a.aA _ hZ,(pW _ _ _ x).mono ?_⟩;rintro _ h3 ⟨rfl,rfl⟩;refine⟨_,hZ,⟨a.cell0 hZ,a.cell hZ,a.cell hZ,x7⟩,(Ju p _ h3).xc λF z=>?_⟩;have u:=m.up z.ac;refine⟨_,hZ,x7,aY (λg=>?_) λg=>?_⟩
  .have q:pY p o b=dB i:=by
    unfold pY;refine List.find?_eq_some_iff_append.2 ⟨g,qx i,(qx (15-i)).map (·+(i+1)),?_,λk f=>?_⟩
    .apply zt;intro j;by_cases t:j<i
     .rw[ql (by simpa using t),zp ii,zp t]
     .rw[qi i5,zC];by_cases r:j=i
      .subst r;rw[qX,zp ii];rfl
      .obtain⟨d,B⟩:∃d,j=i+(d+1):=⟨j-i-1,ii⟩
       subst B;rw[zl,qq,qO];by_cases l:d<15-i
       .rw[zp l,zp ii];simp;omega
       .rw[qJ i5,qJ i5];rfl
    .rw[c k (qz.1 f)];rfl
   rw[q];exact⟨hZ,.zip u.ac⟩
  .refine⟨i+1,i9,⟨ii,λk f=>?_,u⟩,ii⟩;by_cases s:k<i
   .exact c k s
   .have:k=i:=ii
    subst this;exact g
 .have q:pY p o b=et:=by unfold pY;rw[List.find?_eq_none];intro k f;rw[c k (by have:=qz.1 f;omega)];simp
  rw[q];exact⟨hZ,.zip m.ac⟩
theorem VL(p:Pm)(o:Int)(n:Nat)(h:f7)(H:n<=2^30):ai xT 76 #[kb p,xJ xP o,xJ xP n] h λv h'=>
  (cV p o n=et->v=.tuple #[xK et 0 0,xN eH]/\Sp h h' [])/\
  (∀l,cV p o n=dB l->∃r:Sl,v=.tuple #[r,xN ez]/\Sp h h' [an 3 r 1 aw l]):=by
 refine ts Tryz.func76 ?_ (v7 (v7 (wj [(8,cM),(13,aU)] [(6,12),(13,30)]))) (args:=[p,(o:Int),(n:Int)]);refine(Sp.refl h).boxed λz E k=>?_;have k:=(k.nil 3 1 aw).bt [1,0];refine aq (λt:Sl×Nat×az=>(t.1,(t.2.1:Int))) (λt h'=>t.2.1<=n/\cV p o t.2.1=dB t.2.2/\Sp h h' [an 3 t.1 1 aw t.2.2,aj z 25 [xJ xP p.1,xJ xP p.2.1,xJ xP p.2.2]]) (λt=>n-t.2.1) (⟨et,0,0⟩,0,[]) hZ ⟨i6,hZ,k⟩ ?_;rintro⟨s,i,l⟩ x ⟨I,c,f⟩;dsimp only at*;have y:=jR c;have b:∀j,pY p o i=et->j<=n-(i+1)->cV p o (i+1+j)=et:=λj m=>by
  induction j with
  |zero=>intro _;show cV p o (i+1)=et;unfold cV;rw[c,m];rfl
  |succ j ih=>intro F;show cV p o ((i+1+j)+1)=et;unfold cV;rw[ih ii];rfl
 refine af (λe=>?_) λe=>?_
 .have w:i<n:=ii
  refine⟨p,(f.box 1 hZ).aA _ hZ,(acl p o i x).xc λh3 B=>?_⟩;have q:=f.up B.ac;refine⟨(_,_),hZ,aW (λg=>?_) λg=>?_⟩
  .have a:cV p o n=et:=by have:=b (n-(i+1)) (Option.isSome_eq_false_iff.1 g|>Option.isNone_iff_eq_none.1) (qm _);rw[show i+1+(n-(i+1))=n by omega]at this;exact this
   rw[a];exact⟨λ_=>⟨hZ,.zip q.ac⟩,λl h=>j8⟩
  .obtain⟨t,u⟩:∃t,pY p o i=dB t:=Option.isSome_iff_exists.1 g;rw[u];refine q.push ae 0 hZ gb hZ i0 (λ_=>rfl) fd (t:Int) hZ i0 ii λD G A=>?_;refine⟨(D,i+1,l++[(t:Int)]),i7,⟨i4,?_,A⟩,i4⟩;show cV p o (i+1)=_;unfold cV;rw[c,u];rfl
 .have d:i=n:=ii
  subst d;rw[c];exact⟨λh=>j8,λl' h=>(by injection h with h;subst h;exact⟨s,hZ,f.bt [0]⟩)⟩
def kv(m:ak)(l:bH):bH:=(dQ m l).map cF
def bC(m:ak)(l:bH):bH:=aP m++kv m l
def ik(d:ba)(a:Nat)(n:Int):Bool:=decide (max n 0<=(d.room:Int)-a)
def ir(m:ak)(d:ba)(n:Int):Bool:=!d.lost&&(ik d d.l.length n||ik d (bC m d.l).length n)
def fG(m:ak)(w:Pow)(d:ba)(n:Int):Int×Pow×ba:=
 if d.lost then(5,w,d)else if !ir m d n then(7,w,d)else if ik d d.l.length n then(0,w,d)else d.rewrite w (bC m d.l)
theorem PG(l:List cU):hY (rK l)<=hY l:=by unfold rK;rw[qu];exact qQ (qU _ _) i6
theorem po(m:ak)(l:bH):hY (dQ m l)<=hY l:=by unfold dQ;refine qQ (PG _) ?_;rw[wy];exact List.length_filterMap_le _ _
theorem uf(m:ak)(l:bH):hY (kv m l)<=hY l:=by unfold kv;rw[qu];exact po m l
variable {B:av} {h0 h:f7} {As:List HP} {a:eS} {d:ba} {w:Pow}
section
variable {pw:eS}
theorem wf(x:Sl)(l:bH)(H:aa B h0 h (jN pw a d::ce 118 pw w::As))(O:St B h0 As λh=>fe h x 1 aB l)(P:hY l<=2^20)(y:∀c∈l,hY c<=2^20):
  ai xT 114 #[xL (dB a),x] h λv h'=>v=xJ xP (d.rewrite w l).1/\aa B h0 h' (jN pw a (d.rewrite w l).2.2::ce 118 pw (d.rewrite w l).2.1::As):=by
 refine ts Tryz.func114 ?_ (v7 (u7 (v7 (v1 (v2 [(9,aU)] [(4,5),(6,7),(9,17)] u9))) (u7 (v6 [] [(4,5),(17,41)] (v1 (ws [(17,ka)] [(17,26)] u9))) u9)));have M:=O.at [_,_] H;have Y:=M.len;have o:=gO.rewrite (w:=w) (l:=l) (And.left (id H).pT);have same:∀(e:Int),d.rewrite w l=(e,w,d)->(Value.int .i64 e=xJ xP (d.rewrite w l).1/\aa B h0 h (jN pw a (d.rewrite w l).2.2::ce 118 pw (d.rewrite w l).2.1::As)):=λe W=>by
  rw[W];exact⟨hZ,H⟩
 refine aq (λi:Nat=>(i:Int)) (λi h'=>i<=hY l/\(∀c∈l.take i,hY c=64)/\h'=h) (λi=>hY l-i) 0 hZ ⟨ii,i6,hZ⟩ ?_;rintro i h1 ⟨hi,f,rfl⟩;refine af (λe=>?_) λe=>?_
 .have k:i<hY l:=ii
  refine M.get i hZ k λr Q=>?_;have R:=Q.len;refine bA (λV=>same 1 ?_) λV=>?_
  .unfold ba.rewrite;rw[f8];rw[Bool.not_eq_true',List.all_eq_false];exact⟨l[i],qf k,i5⟩
  .refine⟨i+1,i9,⟨ii,λc j=>?_,hZ⟩,ii⟩;rw[aE _ _ k]at j;rcases qt.1 j with j|j
   .exact f c j
   .rw[qp.1 j];omega
 have f:∀c∈l,hY c=64:=by rw[qh ii]at f;exact f
 have p:(!l.all λb=>decide (hY b=64))=eH:=by rw[Bool.not_eq_false',qK];exactλc j=>g0 (f c j)
 have A:d.rewrite w l=(if d.lost then(5,w,d)else if d.room<hY l then(7,w,d)else if w.off then(14,w,d)else if w.step.1 then(0,w.step.2,{d with l:=l,wait:=0,laid:=[],has:=eH})else(14,w.step.2,{d with laid:=l,has:=ez})):=by unfold ba.rewrite;rw[p];rfl
 obtain⟨ok,s,b,K⟩:=H.pT;have z:=K.box 0 hZ;refine aG (aG (aY (λe=>jj) λ_=>⟨a,hZ,d.lost,z.cell hZ,aY (λe=>same 5 (by rw[A,f8 e])) λg=>?_⟩));refine⟨a,hZ,(d.room:Int),z.cell hZ,af (λe=>same 7 (by rw[A,f9 oo,f8 ii])) λJ=>?_⟩;obtain⟨S,X,G⟩:=(K.aJ 4 [3,0,1,2]).rQ;refine⟨a,hZ,dB pw,z.cell0 hZ,(Gi S (G.box 0 hZ)).xa ?_⟩;refine⟨_,hZ,aW (λe=>same 14 ?_) λq=>?_⟩
 .rw[A,f9 oo,f9 ii,f8 lc]
 have m:w.off=eH:=o4
 have t:d.rewrite w l=(if w.step.1 then(0,w.step.2,{d with l:=l,wait:=0,laid:=[],has:=eH})else(14,w.step.2,{d with laid:=l,has:=ez})):=by rw[A,f9 oo,f9 ii,f9 (by simp[m])]
 refine⟨a,hZ,dB pw,z.cell0 hZ,(EM (K.aJ 4 [3,0,1,2])).xc λN L=>?_⟩;have u:=O.at [_,_,_,_] L;refine⟨_,hZ,aW (λe=>?_) λe=>?_⟩
 .rw[t,f9 sp]at o⊢;refine(HO x l N u P y).x0 λr T F=>?_;have I:=(L.ci F).aJ 5 [2,3,0,1];refine⟨r,hZ,a,hZ,I.store ae 0 hZ hZ 4 [r] hZ hZ hZ l5 λU E=>?_⟩;refine⟨a,hZ,E.store ae 0 hZ hZ 5 [xN ez] hZ hZ hZ l5 λh8 D=>⟨hZ,?_⟩⟩;exact aa.BR (s:=s) (b:=r) o D
 .rw[t,f8 e]at o⊢;refine(HO x l N u P y).x0 λr T F=>?_;have I:=(L.ci F).aJ 5 [2,0,4,1];refine⟨r,hZ,a,hZ,I.store ae 0 hZ hZ 2 [r] hZ hZ hZ l5 λU E=>?_⟩;refine⟨a,hZ,E.store ae 0 hZ hZ 3 [xJ xP 0] hZ hZ hZ l5 λh8 D=>?_⟩;refine(EO (d:={d with l:=l,wait:=0}) r b _ D ⟨Nat.zero_le _,i4,ok.room,f,ok.laid,ok.cellL⟩ hZ).xc λh9 Z=>⟨0,hZ,hZ,Z⟩
theorem Bq(s b:Sl)(c:Nat)(n:Int)(e:bQ h a 155 (ft pw d s b))(g:d.room<=512)(f:c<=2^40:=by omega):ai xT 112 #[xL (dB a),xJ xP c,xJ xP n] h λv h'=>v=xN (ik d c n)/\h'=h:=by refine ts Tryz.func112 ?_;refine(EP s b e).xa ⟨_,hZ,?_,hZ⟩;rw[ag ((d.room:Int)-c)];unfold ik;congr 1;rw[decide_eq_decide];split<;>omega
theorem Jv(s b:Sl)(x:bh)(m:ak)(E:bQ h a 155 (ft pw d s b))(T:fe h s 1 aB d.l)(ok:gO d)(I:cR h x m)(Q:cC m):
  ai xT 185 #[xL (dB a),dK x] h λv h'=>∃r:Sl,v=r/\Sp h h' [gg r (kv m d.l)]:=by
 refine ts Tryz.func185 ?_ (v7 (v7 (wj [(5,cM),(12,aU)] [(5,6),(7,8),(12,22)]))) (args:=[(dB a),x]);have F:=ok.len;have A:=ok.room;refine(Sp.refl h).boxed λV G c=>?_;refine⟨x,(c.box 0 hZ).aA _ hZ,(uZ a pw d s b x m G (E.ac c.ac E.lt) (T.up c.ac) ok (I.up c.ac) Q).mono ?_⟩;rintro _ U ⟨r,j,rfl,N⟩;have p:=(c.ci N).Bf 34 5 1 aB;refine⟨r,hZ,?_⟩;have q:=po m d.l;obtain⟨L,D⟩:=x6 (dQ m d.l)
 have w:(kv m d.l)=L.map cF:=by unfold kv;rw[D]
 rw[<-D]at p q;rw[w];have B:=p.eC 1 hZ;have R:=B.2.1;have z:=B.1.len;refine aq (λt:Sl×Nat=>(t.1,(t.2:Int))) (λt h'=>t.2<=hY L/\Sp h h' [gg t.1 ((L.map cF).take t.2),dI gD 8 cX r j L]) (λt=>hY L-t.2) (⟨et,0,0⟩,0) hZ ⟨i6,p.bt [0,1]⟩ ?_;rintro⟨o,i⟩ h3 ⟨X,f⟩;dsimp only at*;have K:=f.eC 1 hZ;refine af (λe=>?_) (λe=>?_)
 .have k:i<hY L:=ii
  refine K.1.de (g:=cX) i hZ ii (j[i]'ii) hZ ?_;refine f.alloc ae hZ λY Z P=>?_;refine P.storeAll ae 2 hZ hZ (cX (j[i]'ii)) hZ hZ hZ hZ λJ y=>?_;refine⟨j[i]'ii,(y.box 2 hZ).aA _ hZ,(sF _ L[i] J (Fix.row (y.eC 1 hZ) k)).x0 λu W M=>?_⟩;have O:=(y.ci M).aJ 3 [1,0,2];refine⟨u,hZ,O.Cp ae fF i5 λS h8 H=>?_⟩;refine⟨(S,i+1),i7,⟨i4,?_⟩,i4⟩
  try dsimp only
  rw[aE _ _ (show i<hY (L.map cF) by simp;omega),z8];exact H.bt [0,1]
 .rw[qh i5]at f;exact⟨o,hZ,f.bt [0]⟩
theorem GO{m:ak}{l:bH}{c:aL}(h:c∈kv m l):hY c<=64:=by
 unfold kv at h;obtain⟨r,_,rfl⟩:=qo.1 h;unfold cF;split
 .rename_i a;refine xv (mJ i0 i0 ?_);have:=oZ a;omega
 .simp
theorem AO(s b:Sl)(x:bh)(m:ak)(k:bQ h a 155 (ft pw d s b))(D:fe h s 1 aB d.l)(ok:gO d)(j:cR h x m)(g:cC m):
  ai xT 115 #[xL (dB a),dK x] h λv h'=>∃r:Sl,v=r/\Sp h h' [gg r (bC m d.l)]:=by
 refine ts Tryz.func115 ?_ u9 [(1,(.l [0,2,3,1,4,5,6]))] (args:=[(dB a),x]);have o:=ok.len;have i:=ok.room;refine(Sp.refl h).boxed λF p f=>?_;refine⟨x,(f.box 0 hZ).aA _ hZ,x,(f.box 0 hZ).aA _ hZ,(mu x m p (j.up f.ac) g).x0 λr E w=>?_⟩;have e:=f.ci w;have c:=e.box 1 hZ;refine⟨r,hZ,⟨c.cell0 hZ,c.cell hZ,c.cell hZ,c.cell hZ,c.cell hZ,c.cell hZ,c.cell hZ,c.cell hZ,x7⟩,(Jv s b x m (k.ac e.ac k.lt) (D.up e.ac) ok (j.up e.ac) g).x0 λu h3 A=>?_⟩;have q:=(e.ci A).aJ 2 [1,0];have y:=ke m g;have B:=uf m d.l;refine⟨u,hZ,x7,q.afi ae fF ⟨_,_,hZ,hZ⟩ ii λt G z=>?_⟩;exact⟨x7,t,hZ,z.bt [0]⟩
theorem Fa(s b:Sl)(x:bh)(m:ak)(n:Int)(p:bQ h a 155 (ft pw d s b))(A:fe h s 1 aB d.l)(j:s.len=hY d.l)(ok:gO d)(w:cR h x m)(q:cC m):
  ai xT 111 #[xL (dB a),dK x,xJ xP n] h λv h'=>v=xN (ir m d n)/\Sp h h' []:=by
 refine ts Tryz.func111 ?_ (v7 (ws [] [(6,13)] u9)) (args:=[(dB a),x,(n:Int)]);have u:=ok.len;have o:=ok.room;refine(Sp.refl h).boxed λE B f=>?_;have c:=p.ac f.ac p.lt;refine aG (aY (λe=>jj) λ_=>(sT s b c).mono ?_);rintro _ _ ⟨rfl,rfl⟩;refine⟨_,hZ,aY (λe=>⟨by unfold ir;rw[e];rfl,.zip f.ac⟩) λe=>?_⟩;have t:ir m d n=(ik d d.l.length n||ik d (bC m d.l).length n):=by unfold ir;rw[e];rfl
 refine(Mb s b c j).xa ⟨_,hZ,(Bq s b d.l.length n c ok.room).xa ?_⟩;refine⟨_,hZ,aY (λk=>⟨by rw[t,k];rfl,.zip f.ac⟩) λk=>?_⟩;refine⟨x,(f.box 0 hZ).aA _ hZ,(AO s b x m c (A.up f.ac) ok (w.up f.ac) q).x0 λr D i=>?_⟩;have g:=(aa.tj i).1;have z:hY (bC m d.l)<=4000:=by have:=ke m q;have:=uf m d.l;unfold bC;rw[qw];omega
 have y:=f.ci i;refine⟨r,hZ,(Bq s b r.len n (c.ac i.ac c.lt) ok.room).xa ?_⟩;exact⟨_,hZ,by rw[t,k,vn,g],.zip y.ac⟩
theorem PH(x:bh)(n:Int)(h:f7):ai xT 111 #[xL et,dK x,xJ xP n] h λv h'=>v=xN eH/\Sp h h' []:=by refine ts Tryz.func111 ?_ (v7 (ws [] [(6,13)] u9)) (args:=[(et:bD),x,(n:Int)]);refine(Sp.refl h).boxed λc b a=>?_;exact aG (aY (λ_=>⟨hZ,.zip a.ac⟩) λe=>jj)
theorem Mi(x:bh)(m:ak)(n:Int)(I:St B h0 As λh=>cR h x m)(E:cC m)(H:aa B h0 h (jN pw a d::ce 118 pw w::As)):
  ai xT 55 #[xL (dB a),dK x,xJ xP n] h λv h'=>v=xJ xP (fG m w d n).1/\aa B h0 h' (jN pw a (fG m w d n).2.2::ce 118 pw (fG m w d n).2.1::As):=by
 refine ts Tryz.func55 ?_ (v7 (u7 (v6 [] [(6,26)] (v1 (ws [(7,ka)] [(7,14)] u9))) u9)) (args:=[(dB a),x,(n:Int)]);refine(Sp.refl h).boxed λT t N=>?_;have o:=(H.ci N).aJ 3 [1,2,0];have same:∀(e:Int) {h':f7},aS (λb=>b<t.size) t h'->fG m w d n=(e,w,d)->(Value.int .i64 e=xJ xP (fG m w d n).1/\aa B h0 h' (jN pw a (fG m w d n).2.2::ce 118 pw (fG m w d n).2.1::As)):=λe {h'} K O=>by
  rw[O];exact⟨hZ,((o.up K).aJ 3 [0,1])⟩
 obtain⟨ok,s,b,f⟩:=(id o).pT;have q:=f.box 0 hZ;have Q:fe t s 1 aB d.l:=(f.aJ 2 [1]).uG λ_=>rfl;have k:=(aa.tj (f.aJ 2 [1])).1;have J:=ok.len;have F:=ok.room;refine aG (aG (aY (λe=>jj) λ_=>(sT s b q).mono ?_));rintro _ _ ⟨rfl,rfl⟩;refine⟨_,hZ,aY (λe=>same 5 (aS.refl _ _) (by unfold fG;rw[f8 e])) λe=>?_⟩;refine⟨x,(o.box 2 hZ).aA _ hZ,(Fa s b x m n q Q k ok (I.at [_,_,_] o) E).xc λR j=>?_⟩;have z:=f.up j.ac;have i:=q.ac j.ac q.lt;have y:=o.up j.ac;refine⟨_,hZ,aW (λp=>same 7 j.ac (by unfold fG;rw[f9 sp,f8 (by simp[p])])) λp=>?_⟩;refine(Mb s b i k).xa ⟨_,hZ,(Bq s b d.l.length n i ok.room).xa ?_⟩;refine⟨_,hZ,aY (λG=>same 0 j.ac (by unfold fG;rw[f9 sp,f9 (by simp[p]),f8 G])) λG=>?_⟩;have em:fG m w d n=d.rewrite w (bC m d.l):=by unfold fG;rw[f9 sp,f9 (by simp[p]),f9 (by simp[G])]
 rw[em];have P:hY (bC m d.l)<=4000:=by have:=ke m E;have:=uf m d.l;unfold bC;rw[qw];omega
 have D:∀c∈bC m d.l,hY c<=64:=λc g=>by
  unfold bC at g;rcases qt.1 g with g|g
  .exact xv (tU g)
  .exact GO g
 refine⟨x,(y.box 2 hZ).aA _ hZ,(AO s b x m i ((z.aJ 2 [1]).uG λ_=>rfl) ok (I.at [_,_,_] y) E).x0 λr h3 M=>?_⟩;obtain⟨rs,A⟩:=(y.ci M).Pw λ_=>rfl;have A:=A.aJ 4 [1,2,0];refine⟨r,hZ,(wf r (bC m d.l) A (St.ey 0 hZ λh' u=>?_) ii λc g=>qQ (D c g) i0).mono ?_⟩
 .exact⟨rs,u.1,u.2.1,u.2.2⟩
 rintro _ S ⟨rfl,L⟩;exact⟨_,hZ,hZ,L.aJ 3 [0,1]⟩
end
variable {b:eS} {x:bh} {offs:Int} {da:List bD} {ds:aD}
section
variable {pw:eS}
theorem aa.acm(n:Nat)(j:n<64)(i:ds[n]?=dB et)(H:aa B h0 h (bf bi a pw (aM x) offs da w ds::jN pw b d::As)){K:Unit->f7->Prop}
  (g:∀h',aa B h0 h' (bf bi a pw (aM x) offs (da.set n (dB b)) w (ds.set n (dB d))::As)->K () h'):
  au xT (qH 57 (xL (dB ((a.add 10).add n))) (xL (dB b))) h K:=by
 obtain⟨ok,f⟩:=Qw.aa.oR H;have e:(a.add 10).add n=a.add (10+n):=by unfold Addr.add;simp[Nat.add_assoc]
 rw[e];refine f.storeAt ae 0 hZ hZ hZ hZ hZ (by simp[ok.la];omega) λh' c=>g h' ?_;rw[zn,Mg ok.l8]at c;exact aa.afz ok j i c
end
theorem BX(ds:aD)(n:Nat)(d:ba)(s:Int)(b:n<64)(c:hY ds=64):aH (cu ds (n:Int) d) s=if s=(n:Int)then dB d else aH ds s:=by
 unfold aH cu;rw[qj];by_cases h:0<=s/\s<64
 .rw[f8 h,f8 h,qW];by_cases a:s=(n:Int)
  .subst a;rw[f8 hZ,qj,f8 hZ,f8 ii];rfl
  .rw[f9 a,f9 ii]
 .rw[f9 h,f9 h,f9 ii]
theorem mb{ds:aD}{s:Int}{d:ba}(h:aH ds s=dB d):∃n:Nat,s=(n:Int)/\n<64:=by
 unfold aH at h;by_cases a:0<=s/\s<64
 .exact⟨s.toNat,ii,ii⟩
 .rw[f9 a]at h;cases h
structure Fit (ds:aD) (S Q:az):Prop where
 len:hY ds=64
 at_:∀s∈S,∃d,aH ds s=dB d/\d.lost=eH/\d.l.length+Q.count s<=d.room
theorem Sa{d:ba}{n:Nat}(w:Pow)(b:aL)(a:d.lost=eH)(g:hY d.l+(n+1)<=d.room)(f:hY b=64):
  ((d.append w b).1=0∨(d.append w b).1=14)/\(d.append w b).2.2.lost=eH/\(d.append w b).2.2.l.length+n<=(d.append w b).2.2.room:=by
 unfold ba.append;rw[f9 ii,f9 m5,f9 ii];by_cases c:w.off
 .rw[f8 c];exact⟨.inr hZ,a,i4⟩
 .rw[f9 c];by_cases e:w.step.1
  .rw[f8 e];exact⟨.inl hZ,a,i5⟩
  .rw[f9 e];exact⟨.inr hZ,a,i5⟩
theorem YP{d:ba}(w:Pow)(a:d.lost=eH):((d.sync w).1=0∨(d.sync w).1=14)/\(d.sync w).2.2.lost=eH/\(d.sync w).2.2.l=d.l/\(d.sync w).2.2.room=d.room:=by
 unfold ba.sync;rw[f9 m5];by_cases b:w.step.1
 .rw[f8 b];exact⟨.inl hZ,a,hZ,hZ⟩
 .rw[f9 b];exact⟨.inr hZ,a,hZ,hZ⟩
theorem Nj{ds:aD}{S Q:az}{x:Int}(w:Pow)(b:aL)(F:Fit ds S (x::Q))(j:x∈S)(p:hY b=64):
  ((gn w ds x b).1=0∨(gn w ds x b).1=14)/\Fit (gn w ds x b).2.2 S Q:=by
 obtain⟨d,f,i,m⟩:=F.at_ x j;rw[List.count_cons_self]at m;obtain⟨n,rfl,k⟩:=mb f;have A:=Sa w b i (n:=Q.count (n:Int)) ii p;have e:gn w ds (n:Int) b=((d.append w b).1,(d.append w b).2.1,cu ds (n:Int) (d.append w b).2.2):=by unfold gn;rw[f]
 rw[e];refine⟨A.1,by unfold cu;rw[zE];exact F.len,λs q=>?_⟩;rw[BX _ _ _ _ k F.len];by_cases a:s=(n:Int)
 .subst a;rw[f8 rfl];exact⟨_,hZ,A.2⟩
 .rw[f9 a];obtain⟨o,g,l,c⟩:=F.at_ s q;rw[List.count_cons_of_ne λh=>a h.symm]at c;exact⟨o,g,l,c⟩
theorem Sb{ds:aD}{S:az}{x:Int}(w:Pow)(F:Fit ds S [])(f:x∈S):((go w ds x).1=0∨(go w ds x).1=14)/\Fit (go w ds x).2.2 S []:=by
 obtain⟨d,b,c,h⟩:=F.at_ x f;obtain⟨n,rfl,g⟩:=mb b;obtain⟨j,A2,i,l⟩:=YP w c;have e:go w ds (n:Int)=((d.sync w).1,(d.sync w).2.1,cu ds (n:Int) (d.sync w).2.2):=by unfold go;rw[b]
 rw[e];refine⟨j,by unfold cu;rw[zE];exact F.len,λs k=>?_⟩;rw[BX _ _ _ _ g F.len];by_cases a:s=(n:Int)
 .subst a;rw[f8 rfl];exact⟨_,hZ,A2,by rw[i,l];exact h⟩
 .rw[f9 a];exact F.at_ s k
theorem Ld(l:az)(k:Nat):(bm l k).Nodup:=by unfold bm;refine List.Pairwise.filter _ (List.pairwise_map.2 ?_);exact(List.nodup_range (n:=k)).imp λh=>ii
theorem VM{l:az}(h:(fQ l).2=ez):(fQ l).1=bm l l.length/\l.length<=64/\∀n:Nat,l.getD n 0<=512:=by
 unfold fQ at h⊢;by_cases a:l.all (fR · 0 512)=ez
 .rw[f8 a]at h⊢;refine⟨hZ,by simp at h;exact h.1,λn=>?_⟩;rw[qd];by_cases b:n<hY l
  .rw[qc b];have:=qK.1 a _ (qf b);unfold fR at this;simp at this⊢;omega
  .rw[qJ ii];simp
 .rw[f9 a]at h;cases h
theorem PI(l:az)(i n:Nat)(g:i<hY (bm l l.length))(f:(bm l l.length)[i]=(n:Int))(d:n<64):(iP l i)[n]?=dB et:=by unfold iP;rw[qO,zp d,qS,f9];intro e;obtain⟨j,h,c⟩:=List.mem_take_iff_getElem.1 e;have:=Ec (Ld l l.length) (a:=j) (b:=i) ii g (by rw[c,f]);omega
theorem Bt(m:ak):∀S:az,hY (bM m S)=hY S*hY (aP m)
 |[]=>by simp[bM]
 |n::S=>by
  have e:bM m (n::S)=(aP m).map (λc=>(n,c))++bM m S:=by unfold bM;rw[zb]
  rw[e,qw,qu,Bt m S,za,zM,Nat.add_comm]
theorem VN(p:Pm)(extra:Int)(l:az)(a:hY l<=64):cC (cx p extra l):=⟨by have:=pX l l.length;simp[cx];omega,by simp[cx],by simp[cx]⟩
section
variable {pw:eS}
theorem Se(p:Pm)(extra:Int)(s:Sl)(l:az)(hS:St B h0 As λh=>Rd h s 1 aw l)(hl:hY l<=2^20)(H:aa B h0 h (ce 118 pw w::As)):
  ai xT 30 #[kb p,xJ xP extra,xL (dB pw),s] h λv h'=>
   ((dH p extra w l).1≠0->v=.tuple #[xL et,xJ xP (dH p extra w l).1]/\aa B h0 h' As)/\
   ((dH p extra w l).1=0->∃(a:eS) (x:bh) (da:List bD),v=.tuple #[xL (dB a),xJ xP 0]/\aa B h0 h' (bf bi a pw (aM x) w.offs da (dH p extra w l).2.1 (dH p extra w l).2.2::bI x (cx p extra l)::As)):=by
 refine ts Tryz.func30 ?_ (v7 (v7 (ws [] [(8,10),(23,42)] (ws [(12,TR)] [(12,13),(42,51)] (u7 (v7 (v1 (v2 [(53,aU)] [(8,10),(14,15),(53,69)] u9))) (wj [(71,aU)] [(16,17),(71,87)])))))) [(14,(.l [0,1,2,3,4,5,6,8,9,7,10,11]))] (args:=[p,(extra:Int),(dB pw),s]);refine H.boxed λa1 h1 H1=>?_;have H1:=H1.aZ;refine(RR s l h1 (hS.at [_,_] H1) hl).x0 λr h2 R2=>?_;have H2:=H1.ci R2;refine⟨(r,(fQ l).2),hZ,?_⟩;have o:∀{h':f7},aa B h0 h' As->((fQ l).2&&(bK p&&fR extra 0 16))=eH->
   ((dH p extra w l).1≠0->Value.tuple #[xL et,xJ xP 1]=.tuple #[xL et,xJ xP (dH p extra w l).1]/\aa B h0 h' As)/\
   ((dH p extra w l).1=0->∃(a:eS) (x:bh) (da:List bD),Value.tuple #[xL et,xJ xP 1]=.tuple #[xL (dB a),xJ xP 0]/\aa B h0 h' (bf bi a pw (aM x) w.offs da (dH p extra w l).2.1 (dH p extra w l).2.2::bI x (cx p extra l)::As)):=λ{h'} H' hc=>by
  have e:dH p extra w l=(1,w,[]):=by unfold dH;rw[hc];rfl
  rw[e];exact⟨λ_=>⟨hZ,H'⟩,λh=>absurd h (show¬(1:Int)=0 by decide)⟩
 refine aG (aW (λe=>o H2.rest.rest.rest n4) λe=>?_);have ep:(fQ l).2=ez:=lc
 obtain⟨ap,z,I⟩:=VM ep;refine⟨p,(H2.box 1 hZ).aA _ hZ,(eE p h2).xc λh3 R3=>?_⟩;have D:aa B h0 h3 (an 3 r 1 aw (fQ l).1::aj a1 25 [xJ xP p.1,xJ xP p.2.1,xJ xP p.2.2]::ce 118 pw w::As):=by have:=H2.comp R3;rw[qG]at this;exact this
 refine⟨_,hZ,aW (λe2=>o D.rest.rest.rest (by rw[e2];simp)) λe2=>?_⟩;have em:bK p=ez:=n5
 refine af (λe3=>o D.rest.rest.rest oj) λe3=>af (λe4=>o D.rest.rest.rest oj) λe4=>aY (λe5=>by cases e5) λ_=>?_;rw[ap]at D;refine aG ⟨p,(D.box 1 hZ).aA _ hZ,?_⟩;obtain⟨lw,b1,ao⟩:=(D.aJ 3 [2,1,0]).rQ;refine(EL lw (ao.box 0 hZ)).xa ?_;have K:=D.box 1 hZ;refine⟨_,hZ,⟨K.cell0 hZ,K.cell hZ,K.cell hZ,x7⟩,?_⟩;obtain⟨m,N⟩:=x6 (cx p extra l)
 refine⟨_,Mf (1,0,p.1,p.2.1,p.2.2,extra,r,⟨et,0,0⟩) pw w.offs,?_⟩;refine D.boxed λa9 h6 g=>?_;obtain⟨x,hx⟩:∃x:bh,x=(1,0,p.1,p.2.1,p.2.2,extra,r,⟨et,0,0⟩):=⟨_,rfl⟩
 rw[<-hx]at g;have G:(Value.agg (bS (aM x) pw w.offs (qg 64 et)).toArray).cells.toList=bS (aM x) pw w.offs (qg 64 et):=j7
 rw[G]at g;have g:=g.aZ;have F:=g.box 2 hZ;refine⟨⟨F.cell0 hZ,F.cell hZ,F.cell hZ,x7⟩,?_⟩;have g:=g.aJ 4 [0,3,1];have g:=aa.YH (k:=bi) (h8:=by simp) g;obtain⟨P,j⟩:=x6 (bm l l.length)
 rw[<-j]at g;have hz:cC m:=N▸VN p extra l z;have a5:hY P<=64:=by rw[j];exact qQ (pX _ _) z
 have W:∀{h':f7} {Bs:List HP} {X:HP},aa B h0 h' (X::an 3 r 1 aw P::Bs)->cR h' x m:=λ{h' Bs X} H'=>by
  have hs:=H'.seq 1 hZ λ_=>rfl;have hc:=(H'.own 1 hZ).cap;subst hx;subst N;exact⟨hZ,hZ,hZ,hZ,by show Seq _ _ r 1 aw (bm l l.length);rw[<-j];exact hs,bN.nil _ _ _ _,hc,qm _⟩
 have Q:((fQ l).2&&(bK p&&fR extra 0 16))=ez:=by rw[ep,em];unfold fR;simp;omega
 have ab:(P.any λi=>decide (l.getD i.toNat 0<(hY (aP m):Int)))=ez->dH p extra w l=(7,w,[]):=λhh=>by
  unfold dH;rw[f8 Q,<-j,<-N,f8 hh]
 have Y:(P.any λi=>decide (l.getD i.toNat 0<(hY (aP m):Int)))=eH->dH p extra w l=layAll (bM m P) w (iP l P.length):=λhh=>by
  unfold dH;rw[f8 Q,<-j,<-N,hh,f9 i0]
 have J:∀i (M:i<hY P),∃n:Nat,n<hY l/\P[i]=(n:Int)/\0<l.getD n 0:=by subst j;exactλi M=>RT l l.length i M
 refine aq (λi:Nat=>(i:Int)) (λi h'=>i<=hY P/\((P.take i).any λi=>decide (l.getD i.toNat 0<(hY (aP m):Int)))=eH/\aa B h0 h' (bf bi a9 pw (aM x) w.offs (qg 64 et) w (qg 64 et)::an 3 r 1 aw P::As)) (λi=>hY P-i) 0 hZ ⟨ii,i6,g⟩ ?_;rintro i h7 ⟨M,f,A⟩;dsimp only at*;obtain⟨bl,a0⟩:=aa.cE A;have bs:r.len=hY P:=(A.own 1 hZ).len;refine af (λe5=>?_) (λe5=>?_)
 .have c:i<hY P:=ii
  obtain⟨n,O,E,Z⟩:=J i c;refine(A.seq 1 hZ λ_=>rfl).bo i hZ c (n:Int) (by rw[E];rfl) ?_;refine(hS.at [_,_] A).mU n hZ O (l.getD n 0) (by rw[getD_lt O];rfl) λbr R=>?_;refine⟨a9,hZ,x,a0.aA _ kt,(mu x m h7 (W A) hz).x0 λu h9 R9=>?_⟩;have H9:=A.ci R9;have a8:=(aa.tj H9).1;refine⟨u,hZ,jW R9.ac ⟨R,x7⟩,?_⟩;refine af (λe6=>?_) (λe6=>?_)
  .rw[ab (z7.2 ⟨P[i],qf c,by rw[E,qj];exact g0 ii⟩)];exact⟨λ_=>⟨hZ,H9.rest.rest.rest⟩,λh=>absurd h (show¬(7:Int)=0 by decide)⟩
  .refine⟨i+1,i9,⟨ii,?_,H9.rest⟩,ii⟩;rw[aE _ _ c,y5,f,vn,xl,xG,Bool.or_false,E,qj];exact g9 ii
 .have L:i=hY P:=ii
  subst L;rw[qM]at f;have ay:=Y f;rw[<-PB l]at A;refine aq (λt:Nat×List bD=>(t.1:Int)) (λt h'=>t.1<=hY P/\aa B h0 h' (bf bi a9 pw (aM x) w.offs t.2 w (iP l t.1)::an 3 r 1 aw P::As)) (λt=>hY P-t.1) (0,qg 64 et) hZ ⟨i6,A⟩ ?_;rintro⟨i,da⟩ ah ⟨M,d⟩;dsimp only at*;obtain⟨bq,ad⟩:=aa.cE d;refine af (λe6=>?_) (λe6=>?_)
  .have c:i<hY P:=ii
   obtain⟨n,O,E,Z⟩:=J i c;have a7:=I n;refine(d.seq 1 hZ λ_=>rfl).bo i hZ c (n:Int) (by rw[E];rfl) ?_;refine(hS.at [_,_] d).bo n hZ O (l.getD n 0) (by rw[getD_lt O];rfl) ?_;refine⟨a9,hZ,(Jh (l.getD n 0) pw ah).mono ?_⟩;rintro _ bb ⟨Q1,_⟩;obtain⟨b,rfl,ar⟩:=Q1 ii;have a2:=(d.ci ar).aJ 2 [1,0];refine⟨_,hZ,x7,⟨ii,ii⟩,?_⟩;rw[qj,wx];have S:i<hY (bm l l.length):=by rw[<-j];exact c
   have U:(bm l l.length)[i]=(n:Int):=by rw[<-E];simp only[j]
   refine Qw.aa.acm n ii (PI l i n S U ii) a2 λb0 am=>?_;refine⟨x7,(i+1,da.set n (dB b)),i7,⟨i4,?_⟩,i4⟩
   try dsimp only
   rw[<-PC l i n S U ii];exact am
  .have L:i=hY P:=ii
   subst L;refine⟨a9,hZ,x,ad.aA _ kt,(GK x m r P ah (W d) hz (d.seq 1 hZ λ_=>rfl) ii).mono ?_⟩;rintro _ bk ⟨u,ys,rfl,a6⟩;have a4:=(d.ci a6).aJ 2 [1,0];refine⟨u,hZ,?_⟩;have V:=ke m hz;refine(ET u ys (bM m P) (St.ey 0 hZ λ_ T=>T) ?_ ?_ a4).mono ?_
   .rw[Bt];have:=wA a5 V;omega
   .intro y hy;obtain⟨a3,ax⟩:=ly hy;obtain⟨i,M,e⟩:=qB a3;obtain⟨n,O,E,_⟩:=J i M;rw[<-e,E,ax];exact⟨⟨ii,ii⟩,i0⟩
   rintro _ bd ⟨rfl,al⟩;rw[ay];refine⟨_,hZ,bA (λe7=>⟨λ_=>⟨hZ,al.rest.rest.rest⟩,λh=>absurd h e7⟩) λe7=>⟨λh=>absurd e7 h,λ_=>⟨a9,x,da,hZ,?_⟩⟩⟩;rw[<-N];exact al.pC.eW 1 hZ λq T=>by
    subst hx;subst N;exact⟨hZ,hZ,hZ,hZ,by show Seq _ _ r 1 aw (bm l l.length);rw[<-j];exact T.1.seq (λ_=>rfl) T.2,bN.nil _ _ _ _,T.1.cap,qm _⟩
end
def ov(m:ak)(ds:aD)(k n:Int):Bool:=match aH ds k with|some d=>ir m d n|none=>eH
def dS(m:ak)(ds:aD)(l:az)(N:Int->Int):Bool:=l.all λk=>ov m ds k (N k)
def jm(m:ak)(w:Pow)(ds:aD)(k n:Int):Int×Pow×aD:=
 match aH ds k with
 |none=>(5,w,ds)
 |some d=>((fG m w d n).1,(fG m w d n).2.1,cu ds k (fG m w d n).2.2)
def makes(m:ak)(N:Int->Int):az->Pow->aD->Int×Pow×aD
 |[],w,ds=>(0,w,ds)
 |k::l,w,ds=>if(jm m w ds k (N k)).1=0 then makes m N l (jm m w ds k (N k)).2.1 (jm m w ds k (N k)).2.2 else jm m w ds k (N k)
theorem Mj(f:FuncId)(pre post:Array Value)(P:Int->Bool)(s:Sl)(l:az)(h:f7)(p:C.fns[f]?=dB ez)(o:Rd h s 1 aw l)(y:hY l<=2^30)
  (q:∀k∈l,∀h',Sp h h' []->ai xT f (pre.toList++[Value.int .i64 k]++post.toList).toArray h' λv g=>v=xN (P k)/\Sp h' g []):
  ai xT 105 #[s,.func (.func f) pre post] h λv h'=>v=xN (l.any P)/\Sp h h' []:=by
 refine ts Tryz.func105 ?_ (args:=[s,(.func (.func f) pre post)]);refine(iY s (f,pre,post) (R:=λv h'=>(∃i:Int,v=xJ xP i/\decide (i>=0)=l.any P)/\Sp h h' []) ?_).mono ?_
 .skip
  have t:=o.len;refine aq (λi:Nat=>(i:Int)) (λi h'=>i<=hY l/\(l.take i).any P=eH/\Sp h h' []) (λi=>hY l-i) 0 hZ ⟨ii,i6,Sp.refl h⟩ ?_;rintro i j ⟨n,a,c⟩;refine af (λd=>?_) (λd=>?_)
  .have b:i<hY l:=by have u:(i:Int)<(s.len:Int):=d;omega
   refine(Seq.up o c.ac).bo i hZ b l[i] hZ (dV p ?_);refine(q l[i] (qf b) j c).xc λx r=>?_;have m:=c.up r.ac;refine⟨_,hZ,aY (λe=>⟨⟨i,hZ,?_⟩,m⟩) λe=>?_⟩
   .rw[z7.2 ⟨_,qf b,e⟩];exact g0 ii
   .refine⟨i+1,i9,⟨ii,?_,m⟩,ii⟩;rw[aE _ _ b,y5,a,xl,xG,e];rfl
  .have u:¬(i:Int)<(s.len:Int):=d;rw[qh ii]at a;exact⟨⟨-1,hZ,t8⟩,c⟩
 .rintro _ j ⟨⟨i,rfl,n⟩,w⟩;exact⟨i,hZ,by rw[n],w⟩
section
variable {pw:eS}
def NK(f:FuncId)(pre post:Array Value)(N:Int->Int)(l:az)(h:f7):Prop:=∀k∈l,ai xT f (pre.toList++[Value.int .i64 k]++post.toList).toArray h λv h'=>v=xJ xP (N k)/\Sp h h' []
theorem Jw(f:FuncId)(pre post:Array Value)(N:Int->Int)(x:bh)(m:ak)(s:Sl)(l:az)(V:C.fns[f]?=dB ez)(R:St B h0 As λh=>cR h x m/\NK f pre post N l h)(hz:cC m)(hs:Rd h s 1 aw l)(hl:hY l<=2^30)(y:∀k∈l,0<=k/\k<64)(H:aa B h0 h (bf bi a pw (aM x) offs da w ds::As)):
  ai xT 81 #[xL (dB a),s,.func (.func f) pre post] h λv h'=>v=xN (dS m ds l N)/\Sp h h' []:=by
 refine ts Tryz.func81 ?_ (args:=[(dB a),s,(.func (.func f) pre post)]);refine(Sp.refl h).boxed λq h1 R1=>R1.boxed λO L r=>?_;have X:=H.up r.ac;have g:bQ L q 28 [xL (dB a)]:=r.box 0 hZ;have T:=r.box 1 hZ;refine(Mj 141 #[] #[xL (dB q),xL (dB O)] (λk=>!ov m ds k (N k)) s l L kt (hs.up r.ac) hl ?_).mono ?_
 .intro k S h3 i;have A:=X.up i.ac;have U:=(g.ac i.ac g.lt).cell0 hZ;have Y:=(T.ac i.ac T.lt).cell0 hZ;obtain⟨ok,u⟩:=aa.cE A;have M:=y k S;refine ts Tryz.func141 ?_ (args:=[(k:Int),q,O]);obtain⟨n,rfl⟩:∃n:Nat,k=n:=⟨k.toNat,ii⟩
  have z:n<hY da:=o9
  have cd:cellOf h3 ((a.add 10).add ((n:Int).toNat*1))=dB (.pointer da[n]):=by rw[qj,wx];refine u.tI 10 n ?_;rw[pj ok.l8,qc z];rfl
  obtain⟨W,F⟩:=R.at [_] A;refine⟨dB a,U,a,hZ,⟨ii,ii⟩,da[n],cd,dB a,U,a,hZ,x,u.aA _ hZ,(f,pre,post),Y,dV V ?_⟩;refine(F n S).xc λK t=>?_;have Q:=A.up t.ac;have p:=((g.ac i.ac g.lt).ac t.ac (g.ac i.ac g.lt).lt).cell0 hZ;have c:=u.ac t.ac u.lt;have G:cellOf K ((a.add 10).add ((n:Int).toNat*1))=dB (.pointer da[n]):=by rw[qj,wx];refine c.tI 10 n ?_;rw[pj ok.l8,qc z];rfl
  refine⟨_,hZ,⟨c.cell0 hZ,c.cell hZ,c.cell hZ,c.cell hZ,c.cell hZ,c.cell hZ,c.cell hZ,c.cell hZ,p,G,p,x7⟩,?_⟩;have E:gH da (n:Int)=da[n]:=by unfold gH;rw[f8 ii,qj,qc z];rfl
  rw[<-E];have fin:∀{J:Bool} {j:f7},J=ov m ds n (N n)->Sp K j []->bR.ok [(q,xL (dB a)),(q,xL (dB a))] j/\(Value.bool (!J)=xN (!ov m ds n (N n))/\Sp h3 j []):=λ{J j} he o=>by
   have P:=(g.ac i.ac g.lt).ac t.ac (g.ac i.ac g.lt).lt;have:=(P.ac o.ac P.lt).cell0 hZ;exact⟨⟨this,this,x7⟩,by rw[he],.zip (aa.up t o.ac).ac⟩
  rcases oS ok (n:Int)with⟨e1,e2⟩|⟨n',d,b,e0,e1,e2,e3,e4,e5⟩
  .rw[e2];refine(PH x _ K).xc λj o=>⟨_,hZ,fin (by unfold ov;rw[e1]) o⟩
  .rw[e5];obtain⟨b',e,H5⟩:=Qw.aa.kV Q e2;rw[e4]at e;injection e with e
   injection e with e
   subst e;obtain⟨I,sd,Z,D⟩:=aa.pT H5;refine(Fa sd Z x m (N n) (D.box 0 hZ) ((D.aJ 2 [1]).uG λ_=>rfl) (aa.tj (D.aJ 2 [1])).1 I (R.at [_] Q).1 hz).xc λj o=>⟨_,hZ,fin (by unfold ov;rw[e3]) o⟩
 .rintro _ h3 ⟨rfl,i⟩;refine⟨_,hZ,?_,.zip (aa.up r i.ac).ac⟩;unfold dS;rw[List.not_any_eq_all_not];simp
theorem PJ(x:bh)(n:Int)(h:f7):ai xT 55 #[xL et,dK x,xJ xP n] h λv h'=>v=xJ xP 5/\Sp h h' []:=by refine ts Tryz.func55 ?_ (v7 (u7 (v6 [] [(6,26)] (v1 (ws [(7,ka)] [(7,14)] u9))) u9)) (args:=[(et:bD),x,(n:Int)]);refine(Sp.refl h).boxed λc b a=>?_;exact aG (aG (aY (λ_=>aY (λ_=>⟨hZ,.zip a.ac⟩) λe=>jj) λe=>jj))
theorem VO(m:ak)(N:Int->Int)(l:az)(w:Pow)(ds:aD)(i:Nat)(a:i<hY l):makes m N (l.drop i) w ds=if(jm m w ds l[i] (N l[i])).1=0 then makes m N (l.drop (i+1)) (jm m w ds l[i] (N l[i])).2.1 (jm m w ds l[i] (N l[i])).2.2 else jm m w ds l[i] (N l[i]):=by rw[qL a];rfl
theorem Jx(f:FuncId)(pre post:Array Value)(N:Int->Int)(x:bh)(m:ak)(s:Sl)(l:az)(T:C.fns[f]?=dB ez)(K:St B h0 As λh=>cR h x m/\NK f pre post N l h/\Rd h s 1 aw l)(hz:cC m)(hl:hY l<=2^30)(F:∀k∈l,0<=k/\k<64)(H:aa B h0 h (bf bi a pw (aM x) offs da w ds::As)):
  ai xT 82 #[xL (dB a),s,.func (.func f) pre post] h λv h'=>v=xJ xP (makes m N l w ds).1/\aa B h0 h' (bf bi a pw (aM x) offs da (makes m N l w ds).2.1 (makes m N l w ds).2.2::As):=by
 refine ts Tryz.func82 ?_ (v7 (u7 (v7 (v1 (v2 [(12,aU)] [(6,7),(8,10),(12,34)] (v7 (v7 (u7 (v1 (v7 (ws [(9,aU)] [(9,10),(16,30)] u9))) u9)))))) u9)) (args:=[(dB a),s,(.func (.func f) pre post)]);have X:=(K.at [_] H).2.2.len;obtain⟨Z,S⟩:=x6 (makes m N l w ds)
 rw[<-S];refine aq (λt:Nat×Pow×aD=>(t.1:Int)) (λt h'=>t.1<=hY l/\Z=makes m N (l.drop t.1) t.2.1 t.2.2/\aa B h0 h' (bf bi a pw (aM x) offs da t.2.1 t.2.2::As)) (λt=>hY l-t.1) (0,w,ds) hZ ⟨i6,S,H⟩ ?_;rintro⟨i,D,ds1⟩ h1 ⟨hi,q,E⟩;dsimp only at*;refine af (λe=>?_) λe=>?_
 .have p:i<hY l:=ii
  rw[VO _ _ _ _ _ _ p]at q;obtain⟨W,I,M⟩:=K.at [_] E;refine M.bo i hZ p l[i] hZ (aG ?_);have A:=F l[i] (qf p);obtain⟨k,L⟩:=x6 (l[i])
  have G:k∈l:=by rw[L];exact qf p
  rw[<-L]at q A;rw[<-L];obtain⟨n,rfl⟩:∃n:Nat,k=n:=⟨k.toNat,ii⟩
  obtain⟨ok,y⟩:=aa.cE E;have O:n<hY da:=o9
  have R:∀{h':f7},bQ h' a 127 (bS (aM x) pw offs da)->cellOf h' ((a.add 10).add ((n:Int).toNat*1))=dB (.pointer da[n]):=λ{h'} y=>by
   rw[qj,wx];refine y.tI 10 n ?_;rw[pj ok.l8,qc O];rfl
  refine⟨a,hZ,⟨ii,ii⟩,da[n],R y,a,hZ,x,y.aA _ hZ,dV T ?_⟩;refine(I n G).xc λU Q=>?_;have P:=E.up Q.ac;have g:=y.ac Q.ac y.lt;refine⟨_,hZ,⟨g.cell0 hZ,g.cell hZ,g.cell hZ,g.cell hZ,g.cell hZ,g.cell hZ,g.cell hZ,g.cell hZ,R g,x7⟩,?_⟩;have J:gH da (n:Int)=da[n]:=by unfold gH;rw[f8 ii,qj,qc O];rfl
  rw[<-J];obtain⟨c,o⟩:=x6 (jm m D ds1 n (N n))
  rw[<-o]at q;have fin:∀{h3:f7},aa B h0 h3 (bf bi a pw (aM x) offs da c.2.1 c.2.2::As)->bR.ok [] h3/\Br (c.1 !=(0:Int)) (Value.int .i64 c.1=xJ xP Z.1/\aa B h0 h3 (bf bi a pw (aM x) offs da Z.2.1 Z.2.2::As))
    (∃r:Nat×Pow×aD,qe xP ((i:Int)+1)=(r.1:Int)/\(r.1<=hY l/\Z=makes m N (l.drop r.1) r.2.1 r.2.2/\aa B h0 h3 (bf bi a pw (aM x) offs da r.2.1 r.2.2::As))/\l.length-r.1<hY l-i):=λ{h3} H3=>by
   refine⟨x7,bA (λu=>?_) λu=>?_⟩
   .rw[f9 u]at q;rw[q];exact⟨hZ,H3⟩
   .rw[f8 u]at q;exact⟨(i+1,c.2.1,c.2.2),i7,⟨i4,q,H3⟩,i4⟩
  rcases oS ok (n:Int)with⟨e1,u⟩|⟨n',d,b,e0,e1,u,e3,e4,e5⟩
  .rw[u];have z:c=(5,D,ds1):=by rw[o];unfold jm;rw[e1]
   refine(PJ x _ U).xc λh3 R3=>⟨c.1,by rw[z],fin (h3:=h3) (by rw[z];exact P.up R3.ac)⟩
  .rw[e5];have en:n=n':=ii
   subst en;obtain⟨b',j,H5⟩:=Qw.aa.kV P u;rw[e4]at j;injection j with j
   injection j with j
   subst j;have z:c=((fG m D d (N n)).1,(fG m D d (N n)).2.1,ds1.set n (dB (fG m D d (N n)).2.2)):=by rw[o];unfold jm;rw[e3];simp only[cu,qj]
   refine(Mi x m (N n) (λBs h' hh=>(K (Bs++[_]) h' (by rw[qn];exact hh)).1) hz H5).xc λh3 Y=>?_;have V:=Qw.aa.uY (k:=bi) (n:=n) e4 Y;exact⟨c.1,by rw[z],fin (h3:=h3) (by rw[z];exact V)⟩
 .rw[zd ii]at q;rw[q];exact⟨hZ,E⟩
end
def acn(a b:dP):Int:=if fK a.1 b.1 then-1 else if kp a.1 b.1 then 0 else 1
def kX(a b:dP):Bool:=kp a.1 b.1
theorem PK(a b:dP):acn a b<0↔¬kX b a=ez:=by unfold acn kX kp;cases h:fK a.1 b.1<;>simp;split<;>omega
theorem Fb:Ord kX:=⟨λa b c=>Em a.1 b.1 c.1,λa b=>En a.1 b.1⟩
abbrev PL(x:dP):Value:=xO #[xM x.1,xJ xP x.2.1,xJ xP x.2.2.1,x.2.2.2]
theorem Nk(x y:ByteArray)(h:f7):ai xT 140 #[xM x,xM y] h λv h'=>v=xJ xP (if fK x y then-1 else if kp x y then 0 else 1)/\h'=h:=by
 refine ts Tryz.func140 ?_;have a:∀z:ByteArray,ai xT 208 #[xM z] h λv h'=>v=xN eH/\h'=h:=λz=>by
  refine ts Tryz.func208 ?_;exact⟨i6,hZ⟩
 refine(a x).xa ⟨_,hZ,(a y).xa ?_⟩;refine⟨_,hZ,aY (λe=>jj) λ_=>aY (λe=>jj) λ_=>?_⟩;have d:Op.bytesLess x.toList y.toList=fK x y:=rfl;rw[NG,d];have c:(!Op.bytesLess y.toList x.toList)=kp x y:=rfl;rw[c];refine aY (λe=>⟨n4,hZ⟩) λe=>aW (λb=>⟨by rw[e,b];rfl,hZ⟩) λb=>⟨by rw[e,b];rfl,hZ⟩
theorem VP(a b:dP)(h:f7):ai xT 139 #[PL a,PL b] h λv h'=>v=xJ xP (acn a b)/\Sp h h' []:=by refine ts Tryz.func139 ?_ (args:=[a,b]);refine(Sp.refl h).boxed λg f e=>e.boxed λi d c=>?_;refine⟨a.1,(c.box 0 hZ).cell0 hZ,b.1,(c.box 1 hZ).cell0 hZ,(Nk a.1 b.1 d).xa ?_⟩;exact⟨_,hZ,hZ,.zip c.ac⟩
abbrev Bu(s:Sl)(d:List dP):HP:=an 111 s 4 bY d
variable {h':f7} {s:Sl}
section
variable {d:List dP}
theorem Sf{b c:List dP}{y:dP}(d:Sd kX (b++c))(f:∀z∈b,kX z y=ez)(g:∀z∈c,¬kX z y=ez):Sd kX (b++y::c):=
 Sd.app Fb d.left (zx.2 ⟨λz a=>Fb.BN (g z a),d.right⟩) λx e z a=>by
  rcases qT.1 a with rfl|a
  .exact f x e
  .exact d.Az x e z a
theorem Jy(X M Y:List dP)(a b:Int)(ha:a=(hY X:Int))(hb:b=(hY X+hY M:Nat))(ah:hY X+hY M+hY Y<=2^40)(H:aa B h0 h (Bu s (X++(M++Y))::As)):
  ai xT 258 #[s,xJ xP a,xJ xP b,.func (.func 139) #[] #[]] h λv h'=>v=.tuple #[]/\∃M',Sd kX M'/\cm kX M M'/\aa B h0 h' (Bu s (X++(M'++Y))::As):=by
 refine ts Tryz.func258 ?_ (v7 (v1 (v2 [(8,aU)] [(8,10),(12,53)] (v7 (u7 (v1 (v7 (v1 (v2 [(9,aU)] [(9,10),(18,53)] (ws [] [(18,35)] u9))))) u9))))) (args:=[s,(a:Int),(b:Int),(.func (.func 139) #[] #[])]);subst ha;subst hb;rw[ag ((hY X:Int)+1)];refine aq (λt:Nat×List dP=>((hY X+1+t.1:Nat):Int)) (λt h'=>(t.1+1<=hY M∨t.1=0)/\Sd kX t.2/\cm kX (M.take (t.1+1)) t.2/\t.2.length=hY (M.take (t.1+1))/\aa B h0 h' (Bu s (X++(t.2++(M.drop (t.1+1)++Y)))::As)) (λt=>hY M-t.1) (0,M.take 1) hZ ?_ ?_
 .refine⟨.inr hZ,?_,cm.refl _,hZ,?_⟩
  .cases M with
   |nil=>exact List.Pairwise.nil
   |cons x M=>exact zx.2 ⟨λ_ h=>l6,i6⟩
  .rw[<-qn (M.take (0+1)),List.take_append_drop];exact H
 rintro⟨t,P⟩ h1 ⟨ht,A,q,ab,T⟩;dsimp only at*;refine af (λe=>?_) (λe=>?_)
 .have K:t+1<hY M:=ii
  obtain⟨y,hy⟩:=x6 (M[t+1])
  have I:hY P=t+1:=by rw[ab];simp;omega
  have eD:M.drop (t+1)=y::M.drop (t+1+1):=by rw[qL K,hy]
  rw[eD]at T;refine aq (λu:List dP×List dP=>((hY X+hY u.1:Nat):Int)) (λu h'=>u.1++u.2=P/\(∀z∈u.2,¬kX z y=ez)/\aa B h0 h' (Bu s (X++(u.1++(y::(u.2++(M.drop (t+1+1)++Y)))))::As)) (λu=>hY u.1) (P,[]) (by dsimp only;rw[I];congr 1;omega) ⟨i6,i6,by simpa using T⟩ ?_;rintro⟨c,d⟩ h2 ⟨J,k,N⟩;dsimp only at*;have ad:hY c+hY d=t+1:=by rw[<-I,<-J,qw]
  have f:∀{h':f7},(∀z∈c,kX z y=ez)->aa B h0 h' (Bu s (X++(c++(y::(d++(M.drop (t+1+1)++Y)))))::As)->
    ∃l:Nat×List dP,qe xP (((hY X+1+t:Nat):Int)+1)=((hY X+1+l.1:Nat):Int)/\((l.1+1<=hY M∨l.1=0)/\Sd kX l.2/\cm kX (M.take (l.1+1)) l.2/\l.2.length=hY (M.take (l.1+1))/\aa B h0 h' (Bu s (X++(l.2++(M.drop (l.1+1)++Y)))::As))/\M.length-l.1<hY M-t:=λ{h'} hle H'=>by
   refine⟨(t+1,c++y::d),m7,⟨.inl i4,?_,?_,?_,?_⟩,i4⟩
   .exact Sf oa hle k
   .try dsimp only
    rw[aE M (t+1) K,<-hy];have h1:cm kX (M.take (t+1)++[y]) (P++[y]):=q.app (cm.refl _);refine h1.trans ?_;rw[<-J,qn];have h2:cm kX (d++[y]) ([y]++d):=cm.TD Fb λx hx z S=>by rw[qp.1 S];exact k x hx
    exact(cm.refl _).app h2
   ·(try dsimp only);simp;omega
   .try dsimp only
    have:X++((c++y::d)++(M.drop (t+1+1)++Y))=X++(c++(y::(d++(M.drop (t+1+1)++Y)))):=i6
    rw[this];exact H'
  obtain⟨D,V⟩:=x6 (X++(c++(y::(d++(M.drop (t+1+1)++Y)))))
  refine bB (λ_ h'=>∃(Q:List dP) (z:dP),c=Q++[z]/\¬kX z y=ez/\aa B h0 h' (Bu s D::As)) ?_ ?_
  .rw[<-V]at N f;refine af (λU=>?_) (λU=>⟨x7,f (λz S=>?_) N⟩)
   .have L:c≠[]:=λh=>by rw[h]at U;simp at U
    obtain⟨Q,z,o⟩:∃(Q:List dP) (z:dP),c=Q++[z]:=⟨c.dropLast,c.getLast L,(List.dropLast_concat_getLast L).symm⟩
    have W:hY c=hY Q+1:=pa
    have g1:D[hY X+hY c]?=dB y:=by rw[V,qi ii,show X.length+hY c-hY X=hY c by omega,qi ii,qX];rfl
    have g2:D[hY X+hY c-1]?=dB z:=by rw[V,qi ii,show X.length+hY c-1-hY X=hY Q by omega,o,qn,qi (qm _),qX];rfl
    obtain⟨O,r⟩:=qk.1 g1;obtain⟨R,E⟩:=qk.1 g2;refine(N.seq 0 hZ λ_=>rfl).de (g:=bY) _ hZ O y q6 ?_;have ej:qe xP (((hY X+hY c:Nat):Int)-1)=((hY X+hY c-1:Nat):Int):=j1
    rw[ej];refine(N.seq 0 hZ λ_=>rfl).de (g:=bY) _ hZ R z tp (dV kt ?_);refine(VP y z h2).xc λh3 R3=>?_;have G:=N.up R3.ac;refine⟨_,hZ,x7,af (λZ=>⟨Q,z,o,(PK y z).1 Z,G⟩) λZ=>f (λw m=>?_) G⟩;have p:kX z y=ez:=by
     by_cases hc:kX z y=ez
     .exact hc
     .exact absurd ((PK y z).2 hc) Z
    rw[o]at m;rcases qt.1 m with m|m
    .refine Fb.trans _ _ _ ?_ p;have:Sd kX (Q++[z]):=by rw[<-o];exact Sd.left (v:=d) oa
     exact this.Az w m z i6
    .rw[qp.1 m];exact p
   .have:c=[]:=by
     cases c with
     |nil=>rfl
     |cons x P=>exfalso;simp only[za]at U;omega
    rw[this]at S;cases S
  .rintro _ h3 ⟨Q,z,o,p,G⟩;have W:hY c=hY Q+1:=pa
   have F:D=(X++Q)++z::([]++y::(d++(M.drop (t+1+1)++Y))):=by rw[V,o];simp
   obtain⟨q1,q2,q3,q4⟩:=KY (X++Q) [] (d++(M.drop (t+1+1)++Y)) z y (i:=hY X+hY c-1) (j:=hY X+hY c) i5 i5;rw[<-F]at q1 q2 q3 q4;obtain⟨R,E⟩:=qk.1 q1;obtain⟨O,r⟩:=qk.1 q2;have ej:qe xP (((hY X+hY c:Nat):Int)-1)=((hY X+hY c-1:Nat):Int):=j1
   rw[ej];refine(G.seq 0 hZ λ_=>rfl).de (g:=bY) _ hZ R z tp ?_;refine(G.seq 0 hZ λ_=>rfl).de (g:=bY) _ hZ O y q6 ?_;refine G.set ae 0 hZ (λ_=>rfl) hZ (hY X+hY c) hZ O z hZ hZ hZ λh4 H4=>⟨x7,?_⟩
   refine H4.set ae 0 hZ (λ_=>rfl) hZ (hY X+hY c-1) hZ (by simpa using R) y hZ hZ hZ λh5 H5=>⟨x7,?_⟩
   refine⟨(Q,z::d),lz,⟨by dsimp only;rw[<-J,o];simp,?_,?_⟩,i4⟩
   .try dsimp only
    intro w m;rcases qT.1 m with rfl|m
    .exact p
    .exact k w m
   .try dsimp only
    have:X++(Q++(y::(z::d++(M.drop (t+1+1)++Y))))=(X++Q)++y::([]++z::(d++(M.drop (t+1+1)++Y))):=i6
    rw[this,<-q4];exact H5
 .refine⟨hZ,P,A,?_,?_⟩
  .rw[qh ii]at q;exact q
  .rw[zd ii]at T;simpa using T
theorem PM(r:Nat)(h:f7)(c:r<=2^32):ai xT 98 #[xJ xS r] h λv h'=>(∃k:Int,v=xJ xP k)/\h'=h:=by intro w a;refine(Tryz.bits_Len (r:Int) w ii ii).mono ?_;rintro e b ⟨rfl,rfl⟩;exact⟨_,hZ,dh.refl _,⟨_,hZ⟩,a⟩
theorem VQ(d:List dP)(m:hY d<=12)(H:aa B h0 h (Bu s d::As)):
  ai xT 138 #[s,.func (.func 139) #[] #[]] h λv h'=>v=.tuple #[]/\aa B h0 h' (Bu s (d.mergeSort kX)::As):=by
 refine ts Tryz.func138 ?_ (args:=[s,(.func (.func 139) #[] #[])]);have l:=(H.own 0 hZ).len;have a:∀k:Int,ai xT 207 #[s,xJ xP 0,xJ xP (s.len:Nat),xJ xP k,.func (.func 139) #[] #[]] h λv h'=>v=.tuple #[]/\aa B h0 h' (Bu s (d.mergeSort kX)::As):=λk=>by
  refine ts Tryz.func207 ?_ (v7 (v7 (v1 (v2 [(1,aU),(2,aU),(3,aU),(10,ka),(11,ka)] [(1,4),(10,148)] (v1 (v7 (v7 (v7 (ws [(3,aU)] [(3,4),(38,47)] (v7 (ws [(13,aU),(14,aU)] [(13,15),(55,68)] (ws [] [(68,81)] (u7 (v6 [(1,aU)] [(1,2),(15,16),(81,105)] (ws [(97,ka)] [(81,98)] u9)) u9))))))))))))) (args:=[s,(0:Int),((s.len:Nat):Int),(k:Int),(.func (.func 139) #[] #[])]);refine aq (λ_:Unit=>((0:Int),((s.len:Nat):Int),k,ez,ez)) (λ_ h'=>h'=h) (λ_=>0) () hZ hZ ?_;rintro _ c rfl;refine af (λ_=>?_) λe=>absurd (show qe xP (((s.len:Nat):Int)-0)<=12 by rw[ag _];omega) e;refine(Jy [] d [] 0 (s.len:Nat) hZ (by simp[l]) i5 l4).mono ?_;rintro _ g ⟨rfl,M,i,j,b⟩;refine⟨(),hZ,hZ,?_⟩;rw[<-Vh Fb i j];simpa using b
 have f:qe xS ((s.len:Nat):Int)=((s.len:Nat):Int):=by unfold qe;simp[qI,vb];omega
 rw[f];refine(PM s.len h ii).mono ?_;rintro _ c ⟨⟨k,rfl⟩,rfl⟩;refine⟨k,hZ,(a k).xc λg b=>?_⟩;exact⟨(),hZ,hZ,b⟩
end
def ahI:bh:=(0,0,0,0,0,0,⟨et,0,0⟩,⟨et,0,0⟩)
theorem Sg{m:ak}{e:Qw.cb}{xe:dP}{L:List (dP×Qw.cb)}{pool:List (Sl×az)}(j:L.map zi=m.objs)(k:∀p∈L,CT pool p)(l:CT pool (xe,e)):
  ∃g:List (dP×Qw.cb),g.map qE=(L.map qE++[xe]).mergeSort kX/\g.map zi=(m.objs++[e]).mergeSort tW/\∀p∈g,CT pool p:=by
 have c:∀p∈L++[(xe,e)],CT pool p:=λp d=>by
  rcases qt.1 d with d|d
  .exact k p d
  .rw[qp.1 d];exact l
 refine⟨(L++[(xe,e)]).mergeSort λa b=>kX a.1 b.1,?_,?_,λp d=>c p ((wX _ _).mem_iff.1 d)⟩
 .rw[yV (r:=λa b=>kX a.1 b.1) (s:=kX) (f:=qE) λa _ b _=>rfl,qN];rfl
 .rw[yV (r:=λa b=>kX a.1 b.1) (s:=tW) (f:=zi) (λa h b i=>by unfold kX tW;rw[(c a h).1.1,(c b i).1.1]),qN,j];rfl
theorem YQ(x:bh)(m:ak)(xe:dP)(e:Qw.cb)(A:cR h x m)(R:cC m)(hs:0<=m.seq/\m.seq<=2^40)(Y:0<=m.next/\m.next<=2^40)(ho:m.objs.length<=11)(T:xe.1=e.name/\xe.2.1=e.object/\xe.2.2.1=e.length)(H:aa B h0 h (td xe.2.2.2 1 aw e.tries::As)):
  ai xT 79 #[dK x,PL xe] h λv h'=>∃y:bh,v=dK y/\aa B h0 h' (bI y (fB m e)::As):=by
 refine ts Tryz.func79 ?_ (args:=[x,xe]);refine(Sp.refl h).boxed λa1 V Q=>Q.boxed λI Z D=>D.alloc ae hZ λa3 h3 l=>?_;refine⟨x,(l.box 0 hZ).aA _ hZ,(nM x m h3 (A.up l.ac) R).mono ?_⟩;rintro _ h4 ⟨y,L,pool,rfl,g,w,s,N⟩;have K:=((l.bt [1,2]).comp N).front;refine⟨y,hZ,K.alloc ae hZ λE X q=>?_⟩;have q:=q.aZ;refine q.storeAll ae 0 hZ hZ (aM y) hZ hZ hZ hZ λh6 u=>?_;refine⟨y.1,(u.box 0 hZ).cell0 hZ,?_⟩;have J:qe xP (y.1+1)=m.seq+1:=by rw[g.1,ag _]
 have P:qe xP (y.2.1+1)=m.next+1:=by rw[g.2.1,ag _]
 try dsimp only
 rw[J];refine u.fv ae 0 hZ hZ [xJ xP (m.seq+1)] hZ hZ hZ j7 λh7 r=>?_;refine⟨y.2.1,(r.box 0 hZ).cell hZ,?_⟩
 try dsimp only
 rw[P];refine r.store ae 0 hZ hZ 1 [xJ xP (m.next+1)] hZ hZ hZ j7 λh8 j=>?_;have G:L.length=m.objs.length:=by rw[<-w,qu]
 refine⟨y.2.2.2.2.2.2.2,(j.box 0 hZ).cell hZ,xe,(j.box 4 hZ).aA _ hZ,?_⟩;refine j.push ae 3 hZ KV hZ i0 (λ_=>rfl) Gj xe hZ i0 i5 λo M n=>?_;refine n.store ae 0 hZ hZ 7 [o] hZ hZ hZ j7 λk b=>?_;obtain⟨c,a⟩:∃c:bh,c=(m.seq+1,m.next+1,y.2.2.1,y.2.2.2.1,y.2.2.2.2.1,y.2.2.2.2.2.1,y.2.2.2.2.2.2.1,o):=⟨_,rfl⟩
 have U:c.2.2.2.2.2.2.1=y.2.2.2.2.2.2.1:=by rw[a]
 have F:c.2.2.2.2.2.2.2=o:=by rw[a]
 have b:Sp h k [aj E 85 (aM c),iI 1 aw pool,an 3 c.2.2.2.2.2.2.1 1 aw m.drives,an 111 c.2.2.2.2.2.2.2 4 bY (L.map qE++[xe]),aj I 111 (bY xe),aj a3 85 (aM ahI)]:=by rw[U,F,a];exact b
 refine⟨c.2.2.2.2.2.2.2,(b.box 0 hZ).cell hZ,?_⟩;have b:=b.aJ 6 [3,0,1,2,4,5];refine(VQ (L.map qE++[xe]) i5 b).xc λS d=>⟨(),hZ,c,(d.box 1 hZ).aA _ hZ,?_⟩;refine d.storeAll ae 5 hZ hZ (aM c) hZ hZ hZ hZ λz f=>?_;refine⟨c,(f.box 5 hZ).aA _ hZ,c,hZ,?_⟩;obtain⟨W,l1,l2,O⟩:=Sg (pool:=(xe.2.2.2,e.tries)::pool) (m:=m) (e:=e) (xe:=xe) w (λp t=>⟨(s p t).1,qA _ (s p t).2⟩) ⟨T,qF⟩;have i:=((H.comp (f.bt [2,3,0])).front).aJ 4 [0,3,1,2];have i:=aa.KX i;rw[<-l1]at i;refine aa.CV (m:=fB m e) ⟨t8,t8,by rw[a];exact g.2.2.1,by rw[a];exact g.2.2.2⟩ l2 O i
section
variable {pw:eS}
theorem aa.YR{x y:bh}(H:aa B h0 h (bf bi a pw (aM x) offs da w ds::As)){K:Unit->f7->Prop}(c:∀h',aa B h0 h' (bf bi a pw (aM y) offs da w ds::As)->K () h'):
  au xT (qH 85 (xL (dB a)) (dK y)) h K:=by
 obtain⟨ok,b⟩:=Qw.aa.oR H;refine b.fv ae 0 hZ hZ (aM y) hZ hZ hZ i6 λh' d=>c h' ?_;exact aa.pi (k:=bi) ⟨hZ,ok.la,ok.ls,ok.same⟩ d
theorem Jz(x z:bh)(b:ak)(s:Sl)(l:az)(o:St B h0 As λh=>cR h z b/\Rd h s 1 aw l)(n:cC b)(t:hY l<=2^10)(g:∀k∈l,0<=k/\k<64)(H:aa B h0 h (bf bi a pw (aM x) offs da w ds::As)):
  ai xT 83 #[xL (dB a),dK z,s] h λv h'=>v=xJ xP (layAll (bM b l) w ds).1/\
   ((layAll (bM b l) w ds).1≠0->aa B h0 h' (bf bi a pw (aM x) offs da (layAll (bM b l) w ds).2.1 (layAll (bM b l) w ds).2.2::As))/\
   ((layAll (bM b l) w ds).1=0->∃y,aa B h0 h' (bf bi a pw (aM y) offs da (layAll (bM b l) w ds).2.1 (layAll (bM b l) w ds).2.2::bI y b::As)):=by
 refine ts Tryz.func83 ?_ (args:=[(dB a),z,s]);refine H.boxed λN u c=>?_;have c:=c.aZ;refine⟨z,(c.box 0 hZ).aA _ hZ,(GK z b s l u (o.at [_,_] c).1 n (o.at [_,_] c).2 t).mono ?_⟩;rintro _ L ⟨r,J,rfl,D⟩;have A:=(c.ci D).aJ 3 [2,0,1];have f:=ke b n;have p:=wA t f;refine⟨r,hZ,(ET r J (bM b l) (St.ey 0 hZ λ_ m=>m) (by rw[Bt];omega) (λq m=>?_) A).mono ?_⟩
 .obtain⟨i,j⟩:=ly m;rw[j];exact⟨g _ i,i0⟩
 rintro _ h3 ⟨rfl,d⟩;obtain⟨R,I⟩:=x6 (layAll (bM b l) w ds)
 rw[<-I]at d⊢;refine⟨_,hZ,bA (λe=>⟨hZ,λ_=>d.aJ 3 [0],λh=>absurd h e⟩) λe=>?_⟩;refine⟨z,(d.box 2 hZ).aA _ hZ,(CW z b h3 (o.at [_,_,_] d).1 n).x0 λy M F=>?_⟩;have E:=(d.ci F).aJ 4 [1,0];refine⟨y,hZ,a,hZ,aa.YR E λK G=>?_⟩;exact⟨by rw[e],λh=>absurd e h,λ_=>⟨y,G⟩⟩
def gu(name:ByteArray)(e:Qw.cb):Bool:=e.name.toList==name.toList
theorem find_spec(x:bh)(m:ak)(name:ByteArray)(p:cR h x m)(s:cC m)(H:aa B h0 h (bf bi a pw (aM x) offs da w ds::As)):
  ai xT 85 #[xL (dB a),xM name] h λv h'=>(∃i:Int,v=xJ xP i/\VI (gu name) m.objs i)/\Sp h h' []:=by
 refine ts Tryz.func85 ?_;refine(Sp.refl h).boxed λd j b=>?_;have k:bQ j d 9 [xM name]:=b.box 0 hZ;obtain⟨ok,o⟩:=aa.cE H;have c:=o.ac b.ac o.lt;have f:=s.ob;refine⟨a,hZ,x.2.2.2.2.2.2.2,c.cell hZ,?_⟩;refine(GL 143 #[] #[xL (dB d)] (gu name) x.2.2.2.2.2.2.2 m.objs j kt (p.up b.ac).objs f ?_).mono ?_
 .intro u E l e t z;refine ts Tryz.func143 ?_ (args:=[u,d]);refine(Sp.refl l).boxed λy h3 g=>?_;have n:=(k.ac e.ac k.lt)
  have q:=n.ac g.ac n.lt;refine⟨u.1,(g.box 0 hZ).cell0 hZ,name,q.cell0 hZ,?_,.zip g.ac⟩;unfold gu;rw[t.1.1]
 .rintro _ l ⟨⟨i,rfl,r⟩,e⟩;exact⟨i,hZ,⟨i,hZ,r⟩,.zip (aa.up b e.ac).ac⟩
theorem pq{b:aT}(H:aa B h0 h (bf bi a pw b offs da w ds::As)):ai xT 84 #[xL (dB a)] h λv h'=>v=xN (dE w offs)/\h'=h:=by refine rp (dB a) ?_;refine aY (λe=>jj) λ_=>(lR H).xa ⟨_,hZ,hZ,hZ⟩
def dY(m:ak)(down:Bool)(ds:aD)(name:ByteArray)(n:Nat):Int:=
 if down then 14 else if !lC name then 3 else if m.objs.any (gu name)then 4
 else if m.p.1*m.p.2.2*8<(n:Int)∨12<=hY m.objs then 6
 else if aR ds m.drives=[]∨16777215<m.next∨2147483647<=m.seq then 7 else 0
theorem PN(x:bh)(m:ak)(name:ByteArray)(s:Sl)(n:Nat)(Y:s.len=n)(F:name.size<=2^40)(M:cR h x m)(K:cC m)(S:bK m.p=ez)(H:aa B h0 h (bf bi a pw (aM x) offs da w ds::As)):
  ai xT 75 #[xL (dB a),xM name,s] h λv h'=>v=xJ xP (dY m (dE w offs) ds name n)/\Sp h h' []:=by
 refine ts Tryz.func75 ?_ (v7 (u7 (v1 (v7 (v7 (v7 (v7 (v7 (v7 (ws [(19,ka)] [(19,46)] u9)))))))) u9));have N:=(bP m.p).1 S;refine(pq H).mono ?_;rintro _ q ⟨rfl,rfl⟩;refine⟨_,hZ,aY (λe=>⟨by unfold dY;rw[e];rfl,Sp.refl _⟩) λl=>?_⟩;refine(Mc name q F).xc λZ o=>⟨_,hZ,aW (λe=>⟨by unfold dY;rw[l,e];rfl,o⟩) λz=>?_⟩;have I:=H.up o.ac;have k:=M.up o.ac;refine(find_spec x m name k K I).mono ?_;rintro _ h3 ⟨⟨i,rfl,R⟩,D⟩;have y:Sp q h3 []:=.zip (aa.up o D.ac).ac;have d:=Pz R;refine⟨i,hZ,aY (λe=>⟨by unfold dY;rw[l,z,<-d,e];rfl,y⟩) λW=>?_⟩;rw[W]at d;have J:=I.up D.ac;have b:=k.up D.ac;obtain⟨ok,j⟩:=aa.cE J;have L:=bN.len b.objs;have E:x.2.2.1=m.p.1:=congrArg (·.1) b.p;have u:x.2.2.2.2.1=m.p.2.2:=congrArg (·.2.2) b.p;have hk:m.p.1*m.p.2.2<=16*24:=Int.mul_le_mul ii ii ii ii;have U:0<=m.p.1*m.p.2.2:=Int.mul_nonneg ii ii;refine bB (λ(t:Bool) h'=>t=decide (m.p.1*m.p.2.2*8<(n:Int)∨12<=hY m.objs)/\h'=h3) ?_ ?_
 .refine⟨a,hZ,x.2.2.1,j.cell hZ,a,hZ,x.2.2.2.2.1,by rw[addr_add];exact j.cell hZ,?_⟩
  try dsimp only
  rw[E,u,ag (m.p.1*m.p.2.2),ag (m.p.1*m.p.2.2*8)];refine af (λe=>⟨(g0 (.inl ii)).symm,hZ⟩) λe=>?_;refine⟨a,hZ,x.2.2.2.2.2.2.2,j.cell hZ,?_,hZ⟩;rw[decide_eq_decide];omega
 rintro t _ ⟨rfl,rfl⟩;refine af (λe=>⟨by unfold dY;rw[l,z,<-d,f8 e];rfl,y⟩) λP=>?_;have X:dY m (dE w offs) ds name n=if aR ds m.drives=[]∨16777215<m.next∨2147483647<=m.seq then 7 else 0:=by unfold dY;rw[l,z,<-d,f9 P];rfl
 rw[X];refine(fi x m b K J).x0 λr Q A=>?_;have g:=(A.own 0 hZ).len;have c:Sp q Q []:=.zip (aa.up y A.ac).ac;have f:=j.ac A.ac j.lt;refine⟨r,hZ,aX (λe=>⟨by rw[f8 (.inl (qZ ii))],c⟩) λe=>?_⟩;have G:aR ds m.drives≠[]:=λT=>by rw[T]at g;simp at g;omega
 refine⟨a,hZ,x.2.1,f.cell hZ,af (λe=>⟨by rw[f8 (.inr (.inl (by rw[<-b.next];omega)))],c⟩) λe6=>?_⟩;have O:=b.next;have V:=b.seq;refine⟨a,hZ,x.1,f.cell0 hZ,af (λe=>⟨by rw[f8 (.inr (.inr ii))],c⟩) λe7=>⟨?_,c⟩⟩;rw[f9];rintro(h|h|h)
 .exact G h
 .omega
 .omega
end
theorem PO:∃i a,C.T.get 34=dB i/\i.cD=.slice a:=⟨_,_,hZ,hZ⟩
def pr(A B:aN)(k:Nat):aN:=fq (A.take k) (B.take k)++A.drop k
theorem sU{A B:aN}(h:hY B=hY A)(k:Nat):hY (pr A B k)=hY A:=by simp[pr,fq,h];omega
theorem YS{A B:aN}(h:hY B=hY A){k:Nat}(a:k<hY A):(pr A B k)[k]?=dB A[k]:=by
 have:hY (fq (A.take k) (B.take k))=k:=by simp[fq];omega
 rw[pr,qi ii,this,qX,wQ,wE,qc a]
theorem YT{A B:aN}(h:hY B=hY A){k:Nat}(a:k<hY A):(pr A B k).set k (A[k]++B[k]'ii)=pr A B (k+1):=by
 have b:hY (fq (A.take k) (B.take k))=k:=by simp[fq];omega
 rw[pr,qV _ _ ii,b,qX,qL a,zn,pr,aE _ _ a,aE _ _ (show k<hY B by omega),fq,fq,yM i5,qn];rfl
theorem YU{A B:aN}(h:hY B=hY A):pr A B A.length=fq A B:=by rw[pr,qM,<-h,qM,h,List.drop_length,qG]
theorem VR(f:eS)(a b:Sl)(A B:aN)(n w:Nat)(h:f7)(hf:fY h f)(I:fe h a 1 aB A)(V:fe h b 1 aB B)(hl:hY A=n)(a0:hY B=n)(g:aV n A)(N:aV w B)(ay:1<=n)(hn:n+w<=64)(hr:bZ A=n):
  ai xT 194 #[xL (dB f),a,b] h λv h'=>∃r:Sl,v=.tuple #[r,xJ xP 0]/\Sp h h' [gK 34 r 1 aB (gF n A B)]:=by
 have d:hY B=hY A:=ii
 have R:=I.len;have p:=V.len;refine ts Tryz.func194 ?_ (v7 (ws [] [(6,8),(17,37)] (v7 (v7 (u7 (v7 (v1 (v2 [(43,aU)] [(10,11),(43,59)] u9))) (v7 (v7 (u7 (v7 (v1 (v2 [(71,aU)] [(6,8),(13,14),(71,79)] u9))) (v7 (wj [(14,cM),(83,aU)] [(14,15),(16,17),(83,95)]))))))))));refine aG ?_;refine(nr a A n h I g).mono ?_;rintro v h1 ⟨rfl,rfl⟩;refine⟨_,hZ,aW (λe=>jj) λ_=>?_⟩;refine(nr b B w h1 V N).mono ?_;rintro v K ⟨rfl,rfl⟩;refine⟨_,hZ,aW (λe=>jj) λ_=>?_⟩;refine bA (λe=>absurd (by rw[R,p,d]) e) λ_=>?_;refine aX (λe=>ii) λ_=>?_;refine(rZ a A K I).mono ?_;rintro v h3 ⟨rfl,rfl⟩;have O:ff A=n:=by
  cases A with
  |nil=>simp at hl;omega
  |cons x t=>rw[ff,bv i6];exact g _ i6
 refine⟨_,hZ,?_⟩;rw[O];refine(vY a A n h3 I g).mono ?_;rintro v h4 ⟨r,rs,rfl,ar,R4⟩;refine⟨r,hZ,?_⟩;have al:=(R4.own 0 hZ).len;refine aq (λt:Nat×List Sl=>(t.1:Int)) (λt h'=>t.1<=n/\t.2.length=n/\Sp h3 h' (nZ r t.2 (pr A B t.1))) (λt=>n-t.1) (0,rs) hZ ⟨i6,i4,by simpa[pr,fq]using R4⟩ ?_;rintro⟨k,rs⟩ h5 ⟨hk,a8,j⟩;dsimp only at*;have q:hY rs=hY (pr A B k):=n7
 refine af (λe=>?_) (λe=>?_)
 .have E:k<n:=ii
  have u:k<hY A:=ii
  have J:=pk (a:=r) q k n7;have eg:(pr A B k)[k]'(by rw[sU d];omega)=A[k]:=by have:=YS d u;rw[qc n7]at this;exact zX.inj this
  rw[eg]at J;have l1:A[k].length=n:=g _ (qf _);have l2:hY (B[k]'ii)=w:=N _ (qf _);refine(j.seq 0 hZ λ_=>rfl).nY k hZ ii λa1 Z ad=>?_;refine(V.up j.ac).get k hZ ii λrb ab=>?_;refine j.append ae (k+1) J gN PO hZ i0 (λ_=>rfl) ab ic ii λL h6 H6=>⟨x7,?_⟩
  refine H6.set ae 0 hZ (λ_=>rfl) hZ k hZ ii L hZ hZ hZ λU H7=>⟨x7,?_⟩
  refine⟨(k+1,rs.set k L),i7,⟨i4,lx,?_⟩,i4⟩
  try dsimp only
  rw[<-YT d u];show Sp h3 U (an 34 r 1 bn (rs.set k L)::bw 5 1 aB (rs.set k L) ((pr A B k).set k _));rw[<-lp q];exact H7
 .have W:k=hY A:=ii
  subst W;rw[YU d]at j;refine(tq f h5).mono ?_;rintro v h6 ⟨rfl,rfl⟩;refine⟨dB f,hZ,?_⟩;have z:=ni d.symm g N;have a3:=mK d.symm;refine(Bp (m:=fq A B) (n:=n+w) hf hf.lt ii z ii ii ii j).mono ?_;rintro v U ⟨i,rfl,ao,F⟩;rw[Hz d.symm g,hr];refine⟨_,hZ,?_⟩
  try dsimp only
  have am:=(F.own 0 hZ).cap;have a5:=(F.own 0 hZ).len;have K:=iy z n;refine af (λe=>absurd (show(n:Int)<(n:Int)from e) ii) λ_=>?_;refine⟨⟨zW _,yP.2 (show n<=r.len by omega)⟩,?_⟩;refine aq (λ_:Unit=>(0:Int)) (λ_ h'=>h'=U) (λ_=>0) () hZ hZ ?_;rintro _ h8 rfl;rw[qj];refine af (λe=>ii) λ_=>?_;refine⟨⟨zW _,yP.2 (show n<=r.cap by omega)⟩,?_⟩;obtain⟨M,G⟩:=x6 ((bJ (fq A B) n).2)
  have a4:hY M=n:=by have:=K.2;rw[<-G]at this;omega
  have S:aV (n+w) M:=by rw[G];exact K.1
  have l:∀k (hk:k<n),(gF n A B).take (k+1)=(gF n A B).take k++[(M[k]'ii).drop n]:=λk hk=>by
   have e1:gF n A B=M.map (List.drop n):=by rw[gF,<-G,qh ii]
   rw[e1,aE _ _ i5,z8]
  have a6:hY (gF n A B)=n:=(ur d.symm g N hr).1;rw[<-G]at F;refine aq (λt:Sl×Nat=>(t.1,(t.2:Int))) (λt h'=>t.2<=n/\Sp h8 h' [gK 34 t.1 1 aB ((gF n A B).take t.2)]) (λt=>n-t.2) (⟨et,0,0⟩,0) hZ ⟨i6,(Sp.refl h8).IL 34 1 aB⟩ ?_;rintro⟨s,k⟩ h9 ⟨a2,H⟩;dsimp only at*;have HH:=F.comp H;have Q:hY i=hY M:=ii
  refine af (λe=>?_) (λe=>?_)
  .have E:k<n:=ii
   have J:=pk (a:=r) Q k ii;have D:(nZ r i M++[gK 34 s 1 aB ((gF n A B).take k)])[k+1]?=dB (an 5 (i[k]'ii) 1 aB (M[k]'ii)):=by rw[ql (by simp[bw];omega)];exact J
   have ap:hY (M[k]'ii)=n+w:=S _ (qf _);have y:=HH.own (k+1) D;have Y:=HH.seq (k+1) D λ_=>rfl;have ah:=y.len;have o:=(HH.seq 0 hZ λ_=>rfl).take n ii;rw[qh ii]at o;refine o.nY k hZ ii λa1 Z ad=>?_;refine⟨⟨zW _,yP.2 ii⟩,?_⟩;refine(fP _ _ h9 (Y.drop n y.cap) i5).x0 λc a7 P=>?_;have X:=(H.comp P).freeze 1 hZ λ_=>rfl;refine⟨c,hZ,?_⟩;refine X.un ae 0 1 i0 hZ hZ fF i5 λs' ax T=>?_;refine⟨(s',k+1),i7,⟨i4,?_⟩,i4⟩
   try dsimp only
   rw[l k E];exact T.del 1
  .rw[qh ii]at H;refine⟨s,hZ,?_⟩;have:=(Sp.zip F.ac).comp H;exact this
def iZ(p:Pm)(seed:Int)(l:Nat):Int:=if bK p&&decide ((l:Int)=p.1*p.2.2)then(if fV p seed (fw p)then 0 else 8)else 1
abbrev Fc(p:Pm)(seed:Int)(m:Sl):aT:=[xJ xP p.1,xJ xP p.2.1,xJ xP p.2.2,xJ xR seed,m]
theorem PP(p:Pm)(seed:Int)(data:Sl)(d:Row)(h:f7)(hd:Rd h data 1 aB d)(hc:data.len<=data.cap):
  ai xT 133 #[kb p,xJ xR seed,data] h λv h'=>
   (iZ p seed d.length=0->∃(b:eS) (m:Sl),v=.tuple #[xL (dB b),xJ xP 0]/\Sp h h' [gK 34 m 1 aB (dG p seed d),aj b 256 (Fc p seed m)])/\
   (iZ p seed d.length≠0->v=.tuple #[xL et,xJ xP (iZ p seed d.length)]/\Sp h h' []):=by
 have al:=hd.len;refine ts Tryz.func133 ?_ (v7 (ws [] [(6,8),(12,25)] (v7 (v7 (u7 (v7 (v1 (v2 [(8,cM),(31,aU)] [(8,9),(31,40)] u9))) (u7 (v7 (v1 (v2 [(8,cM),(42,aU)] [(8,10),(42,60)] u9))) (ws [(10,cM),(11,aU)] [(10,12),(60,71)] u9))))))) [(15,(.l [1,2,3,6,0,4,5,7,8,9,10,11,12]))] (args:=[p,(xJ xR (seed:Int)),data]);refine(Sp.refl h).boxed λa h1 H1=>?_;refine aG ?_;refine⟨p,(H1.box 0 hZ).aA _ hZ,(eE p h1).mono ?_⟩;rintro v h2 ⟨rfl,R2⟩;have N:=H1.comp R2;have X:∀{h3:f7} (x:Int),x≠0->iZ p seed d.length=x->Sp h h3 [aj a 25 [xJ xP p.1,xJ xP p.2.1,xJ xP p.2.2]]->
   (iZ p seed d.length=0->∃(b:eS) (m:Sl),Value.tuple #[xL et,xJ xP x]=.tuple #[xL (dB b),xJ xP 0]/\Sp h h3 [gK 34 m 1 aB (dG p seed d),aj b 256 (Fc p seed m)])/\
   (iZ p seed d.length≠0->Value.tuple #[xL et,xJ xP x]=.tuple #[xL et,xJ xP (iZ p seed d.length)]/\Sp h h3 []):=λx hx R H=>by
  refine⟨λe=>absurd (R.symm.trans e) hx,λ_=>⟨by rw[R],.zip H.ac⟩⟩
 refine⟨_,hZ,aW (λe=>X 1 i0 (by rw[iZ,e];rfl) N) λT=>?_⟩;have ao:=(bP p).1 T;obtain⟨K,hK⟩:∃K:Nat,p.1=K:=⟨p.1.toNat,ii⟩
 obtain⟨y,hH⟩:∃H:Nat,p.2.1=H:=⟨p.2.1.toNat,ii⟩
 obtain⟨w,O⟩:∃w:Nat,p.2.2=w:=⟨p.2.2.toNat,ii⟩
 have ap:K*w<=16*24:=wA ii ii;have M:p.1*p.2.2=((K*w:Nat):Int):=by rw[hK,O,wH]
 refine⟨p.1,(N.box 0 hZ).cell0 hZ,p.2.2,(N.box 0 hZ).cell hZ,?_⟩
 try dsimp only
 rw[M,ag _];refine bA (λe=>X 1 i0 (by rw[iZ,T,g9 (by rw[M];intro e2;exact e (by rw[al];exact e2))];rfl) N) λel=>?_;have I:hY d=K*w:=ii
 refine⟨p,(N.box 0 hZ).aA _ hZ,(Ju p seed h2).mono ?_⟩;rintro v h3 ⟨rfl,R3⟩;have Z:=N.comp R3;have D:iZ p seed d.length=if fV p seed (fw p)then 0 else 8:=by rw[iZ,T,g0 (by rw[M,I])];rfl
 refine⟨_,hZ,aW (λe=>X 8 i0 (by rw[D,e];rfl) Z) λhf=>?_⟩;rw[hf,f8 rfl]at D;have B:co p seed d K y w (K+y):=⟨T,hf,hK,hH,O,hZ,ii,ii,ii,ii,ii,ii,I⟩
 refine⟨p.2.1,(Z.box 0 hZ).cell hZ,?_⟩;refine aq (λt:Sl×List Sl=>(t.1,(hY t.2:Int))) (λt h'=>hY t.2<=y/\Sp h h' (aj a 25 [xJ xP p.1,xJ xP p.2.1,xJ xP p.2.2]::nZ t.1 t.2 (qg t.2.length (aK w)))) (λt=>y-hY t.2) (⟨et,0,0⟩,[]) hZ ⟨i6,Z.nil 34 1 bn⟩ ?_;rintro⟨s,rs⟩ h4 ⟨hk,P⟩;dsimp only at*;refine af (λe=>?_) (λe=>?_)
 .refine⟨p.2.2,(P.box 0 hZ).cell hZ,?_⟩;refine P.make ae aB gN i0 0 hZ hZ w w O O (qm _) ii λz W am ar E=>?_;refine E.push ae 1 hZ fF hZ i0 (λ_=>rfl) jH z hZ i0 ii λs' Y H6=>?_;refine⟨(s',rs++[z]),by dsimp only;rw[ag _];simp,⟨i5,?_⟩,i5⟩
  try dsimp only
  have e7:nZ s' (rs++[z]) (qg rs.length (aK w)++[aK w])=an 34 s' 1 bn (rs++[z])::(bw 5 1 aB rs (qg rs.length (aK w))++[an 5 z 1 aB (aK w)]):=congrArg _ (uE i6 z (aK w));rw[show(rs++[z]).length=hY rs+1 by simp,List.replicate_succ',e7];exact H6
 .have J:hY rs=y:=ii
  rw[J]at P;refine⟨p.1,(P.box 0 hZ).cell0 hZ,?_⟩;let own:=bw 5 1 aB rs (qg y (aK w));refine aq (λt:Sl×Nat=>(t.1,(t.2:Int))) (λt h'=>t.2<=K/\Sp h h' (aj a 25 [xJ xP p.1,xJ xP p.2.1,xJ xP p.2.2]::an 34 t.1 1 bn (rs++(qx t.2).map (KE data w))::own)) (λt=>K-t.2) (s,0) hZ ⟨i6,by simpa using P⟩ ?_;rintro⟨t,k⟩ W ⟨ax,E⟩;dsimp only at*;refine af (λe2=>?_) (λe2=>?_)
  .have ad:k<K:=ii
   have m1:(k+1)*w<=K*w:=zF w ad;have m2:k*w<=(k+1)*w:=zF w ii;refine⟨p.2.2,(E.box 0 hZ).cell hZ,p.2.2,(E.box 0 hZ).cell hZ,?_⟩;rw[ag ((k:Int)+1)];have e5:(k:Int)*p.2.2=((k*w:Nat):Int):=by rw[O,wH]
   have e6:((k:Int)+1)*p.2.2=(((k+1)*w:Nat):Int):=by rw[O,wH];rfl
   try dsimp only
   rw[e5,e6,tQ _,tQ _,qj,qj];refine⟨⟨zW _,yP.2 m2,yP.2 ii⟩,?_⟩;refine E.push ae 1 hZ fF hZ i0 (λ_=>rfl) jH (KE data w k) hZ i0 i5 λt' Y H6=>?_;refine⟨(t',k+1),hZ,⟨i4,?_⟩,i4⟩
   try dsimp only
   rw[zJ,qN,<-qn];exact H6
  .have ah:k=K:=ii
   subst ah;refine aG ?_;have F:fe W t 1 aB (kP k y w d):=by
    refine⟨rs++(qx k).map (KE data w),E.seq 1 hZ λ_=>rfl,by rw[Es];simp;omega,λi r l u q=>?_⟩;by_cases G:i<y
    .rw[ql ii,qc ii]at u;rw[kP,ql q0]at q;have hz:l=aK w:=by simp[G]at q;exact q.symm
     have hr:rs[i]'ii=r:=zX.inj u;have g:(aj a 25 [xJ xP p.1,xJ xP p.2.1,xJ xP p.2.2]::an 34 t 1 bn (rs++(qx k).map (KE data w))::own)[i+2]?=dB (an 5 (rs[i]'ii) 1 aB ((qg y (aK w))[i]'(by simpa using G))):=iw (by simpa using J) i q0;have:=E.seq (i+2) g λ_=>rfl;rw[List.getElem_replicate,hr]at this;rw[hz];exact this
    .obtain⟨j,rfl⟩:∃j,i=y+j:=⟨i-y,ii⟩
     rw[qi ii,J,zl]at u;rw[kP,qi i6,List.length_replicate,zl]at q;have hj:j<k:=by have:=(qk.1 u).1;simpa using this
     simp[hj]at u q;have m1:(j+1)*w<=k*w:=zF w hj;rw[<-u,<-q];exact(Seq.up hd E.ac).piece hc w j ii
   have c:=E.box 0 hZ;refine⟨p,c.aA _ hZ,p,c.aA _ hZ,(pZ W).mono ?_⟩;rintro v Y ⟨f,rfl,R6⟩;have o:=c.ac R6.ac c.lt;refine⟨dB f,hZ,⟨o.cell0 hZ,o.cell hZ,o.cell hZ,o.cell0 hZ,o.cell hZ,o.cell hZ,x7⟩,(Js p Y).mono ?_⟩;rintro v h7 ⟨r7,rfl,R7⟩;have U:=R6.comp R7;have L:=c.ac U.ac c.lt;refine⟨r7,hZ,⟨L.cell0 hZ,L.cell hZ,L.cell hZ,x7⟩,?_⟩;refine(GM p seed r7 (fw p) h7 (U.seq 1 hZ λ_=>rfl) (by rw[fw,iB];omega)).mono ?_;rintro v h8 ⟨r8,rfl,R8⟩;have S:=U.comp R8;refine⟨r8,hZ,x7,?_⟩;refine(VR f r8 t _ _ (k+y) w h8 (S.box 0 hZ) (S.Ea 2 hZ) (F.up S.ac) B.Ep (by rw[Es]) B.Gc (tZ B.len) ii ii B.KL).x0 λr9 h9 R9=>?_;have Q9:=S.comp R9;refine⟨(r9,0),hZ,x7,?_⟩;refine bA (λe=>absurd hZ e) λ_=>?_;have ab:=c.ac Q9.ac c.lt;refine⟨p,ab.aA _ hZ,?_⟩;refine Q9.boxed (t:=256) λb ay V=>?_;refine⟨λ_=>⟨b,r9,hZ,?_⟩,λe=>absurd D e⟩;have Q:=(Sp.zip E.ac).comp V;rw[<-B.DA]at Q;exact Q.take 3 (λi A G=>by
    cases i with
    |zero=>exact G
    |succ i=>cases i with
     |zero=>exact G
     |succ i=>simp at G)
def wm(h:f7)(b:eS)(p:Pm)(seed:Int)(M:aN):Prop:=∃m:Sl,bQ h b 256 (Fc p seed m)/\fe h m 1 aB M
theorem wm.up{h h':f7}{b:eS}{p:Pm}{seed:Int}{M:aN}(d:wm h b p seed M)(c:aS (λb=>b<h.size) h h'):wm h' b p seed M:=by obtain⟨m,a,e⟩:=d;exact⟨m,a.ac c a.lt,e.up c⟩
theorem Sh{a t:Row}(b:hY a=hY t){k:Nat}(d:k<hY t):(zg (λx y=>y^^^Gf.mul 1 x) (a.take k) (t.take k)++t.drop k).set k (t[k]^^^(a[k]'ii))=zg (λx y=>y^^^Gf.mul 1 x) (a.take (k+1)) (t.take (k+1))++t.drop (k+1):=by have:=wd (c:=1) b d;rw[Gf.one_mul]at this;exact this
theorem ahJ{a t:Row}(c:hY a=hY t){k:Nat}(b:k<hY t):(zg (λx y=>y^^^Gf.mul 1 x) (a.take k) (t.take k)++t.drop k)[k]?=dB t[k]:=by
 have d:hY (zg (λx y=>y^^^Gf.mul 1 x) (a.take k) (t.take k))=k:=i5
 rw[qi ii,d,qX,wQ,wE,qc b]
theorem Bv(b:eS)(p:Pm)(seed id:Int)(M:aN)(n w:Nat)(h:f7)(hb:wm h b p seed M)(N:bK p=ez)(X:p.2.2=w)(hn:(bG p).toNat=n)(O:aV w M)(hl:hY M=n):
  ai xT 135 #[xL (dB b),xJ xP id] h λv h'=>∃r:Sl,v=r/\Sp h h' [an 5 r 1 aB (if bW id then gq w M (dz n seed id)else[])]:=by
 obtain⟨m,g,Q⟩:=hb;have ah:=Q.len;have al:=(bP p).1 N;have hc:bG p=p.1+p.2.1:=by rw[bG,f8 N]
 refine ts Tryz.func135 ?_ (v7 (ws [] [(4,5),(10,20)] (v7 (u7 (v7 (v1 (v2 [(37,aU)] [(7,10),(37,63)] (v7 (v7 (u7 (v1 (v7 (v7 (v1 (v2 [(49,aU)] [(8,10),(49,62)] u9))))) u9)))))) u9)))) [(4,(.l [0,1,2,3,4,5,6,7,8,11,9,10]))];have T:bW id=eH->∃r:Sl,Value.slice et 0 0=xK r.ptr r.len r.cap/\Sp h h [an 5 r 1 aB (if bW id then gq w M (dz n seed id)else[])]:=λe=>by
  rw[e];exact⟨⟨et,0,0⟩,hZ,(Sp.refl h).nil 5 1 aB⟩
 refine aG (aY (λe=>jj) λ_=>af (λe=>T l0) λe1=>af (λe=>T l0) λZ=>?_);have hid:bW id=ez:=l0
 refine⟨b,hZ,p.2.2,g.cell hZ,?_⟩;refine(Sp.refl h).make ae aB gN i0 0 hZ hZ w w X X (qm _) ii λo h1 ax ap V=>?_;have D:=g.ac V.ac g.lt;refine⟨b,hZ,p,D.aA _ hZ,b,hZ,seed,D.cell hZ,(AN p seed id h1).x0 λc h2 P=>?_⟩;rw[N,hid,xz,f8 rfl,hn]at P;rw[hid,f8 rfl];have K:=V.comp P;obtain⟨d,s⟩:=x6 (dz n seed id)
 have z:∀x∈d,0<=x/\x<(n:Int):=λx R=>nf ii ii (by rw[<-s];exact R);have Y:hY d<=n:=by rw[s];exact Av ii ii _ _
 rw[<-s]at K⊢;have am:=(K.seq 1 hZ λ_=>rfl).len;refine⟨c,hZ,x7,?_⟩;refine aq (λi:Nat=>(i:Int)) (λi h'=>i<=hY d/\Sp h h' [an 5 o 1 aB (gq w M (d.take i)),an 3 c 1 aw d]) (λi=>hY d-i) 0 hZ ⟨ii,K⟩ ?_;rintro i h3 ⟨F,q⟩;refine af (λe=>?_) (λe=>?_)
 .have j:i<hY d:=ii
  have R:=z _ (qf j);refine(q.seq 1 hZ λ_=>rfl).bo i hZ j _ hZ ?_;have L:=g.ac q.ac g.lt;refine⟨b,hZ,m,L.cell hZ,?_⟩;obtain⟨a0,U⟩:=Q;refine(U.ac q.ac).get d[i].toNat ii ii λr W I=>?_;have E:=U.row _ r _ I (qc (show d[i].toNat<hY M by omega));obtain⟨row,f⟩:=x6 (M[d[i].toNat]'ii)
  have ay:hY row=w:=by rw[f];exact O _ (qf _)
  rw[<-f]at W E;obtain⟨S,H⟩:=x6 (gq w M (d.take i))
  have ao:hY S=w:=by rw[H];exact pN O hl z i F
  have ad:=W.len;have Z:gq w M (d.take (i+1))=cW 1 row S:=by rw[aE _ _ j,Cx,H,f,bv ii]
  rw[<-H]at q;refine aq (λk:Nat=>(k:Int)) (λk h'=>k<=w/\Sp h h' [an 5 o 1 aB (zg (λx y=>y^^^Gf.mul 1 x) (row.take k) (S.take k)++S.drop k),an 3 c 1 aw d]) (λk=>w-k) 0 hZ ⟨ii,o4⟩ ?_;rintro k h4 ⟨hk,u⟩;have G:=E.ac u.ac;have ab:hY (zg (λx y=>y^^^Gf.mul 1 x) (row.take k) (S.take k)++S.drop k)=w:=i5
  refine af (λe3=>?_) (λe3=>?_)
  .have ar:k<w:=ii
   have B:(zg (λx y=>y^^^Gf.mul 1 x) (row.take k) (S.take k)++S.drop k)[k]'ii=S[k]'ii:=by have:=ahJ (a:=row) (t:=S) ii (show k<hY S by omega);rw[qc ii]at this;exact zX.inj this
   refine G.bo k hZ ii _ hZ ?_;refine(u.seq 0 hZ λ_=>rfl).bo k hZ ii _ hZ ?_;rw[B,ou];refine u.set ae 0 hZ (λ_=>rfl) hZ k hZ ii _ hZ hZ hZ λh5 H5=>?_;refine⟨k+1,i9,⟨ii,?_⟩,ii⟩;rw[<-Sh ii (show k<hY S by omega)];exact H5
  .have J:k=w:=ii
   subst J;rw[qh ii,qh ii,zd ii,qG]at u;refine⟨i+1,i9,⟨ii,?_⟩,ii⟩;rw[Z];exact u
 .rw[qh ii]at q;exact⟨o,hZ,q.take 0 λi A F=>by cases i with|zero=>exact F|succ i=>simp at F⟩
theorem co.iZ{p:Pm}{seed:Int}{d:Row}{K H w n:Nat}(B:co p seed d K H w n):iZ p seed d.length=0:=by rw[Qw.iZ,B.may,B.full,B.len,B.k,B.s,g0 (by rw[wH])];rfl
theorem ahK{p:Pm}{seed:Int}{d:Row}{K H w n:Nat}(B:co p seed d K H w n)(data:Sl)(h:f7)(e:Rd h data 1 aB d)(a:data.len<=data.cap):
  ai xT 133 #[kb p,xJ xR seed,data] h λv h'=>
   ∃(b:eS) (m:Sl),v=.tuple #[xL (dB b),xJ xP 0]/\Sp h h' [gK 34 m 1 aB (dG p seed d),aj b 256 (Fc p seed m)]:=
 (PP p seed data d h e a).mono λ_ _ c=>c.1 B.iZ
theorem co.symbol{p:Pm}{seed:Int}{d:Row}{K H w n:Nat}(B:co p seed d K H w n)(b:eS)(id:Int)(h:f7)(a:wm h b p seed (dG p seed d)):
  ai xT 135 #[xL (dB b),xJ xP id] h λv h'=>∃r:Sl,v=r/\Sp h h' [an 5 r 1 aB (if bW id then gq w (dG p seed d) (dz n seed id)else[])]:=
 Bv b p seed id _ n w h a B.may B.s B.pO B.om.2 B.om.1
def BY(s:DB):aT:=[.complex .f64 s.ax s.ay,.complex .f64 s.sx s.sy,xJ xP s.left,xJ xP s.leg,xN s.second]
theorem pu{o:Option Nat}(h:o.isSome=ez):o=dB (o.getD 0):=by
 cases o with
 |none=>cases h
 |some x=>rfl
theorem VS(h:f7):ai xT 254 #[] h λv h'=>∃a:eS,v=xL (dB a)/\Sp h h' [aj a 330 (BY fs0)]:=by refine ts Tryz.func254 ?_;refine(Sp.refl h).boxed (t:=330) λa c b=>?_;exact⟨a,hZ,b⟩
theorem YV(a b:Nat)(h:f7)(c:(iE.mul a 0).isSome=ez)(f:(iE.mul b pP).isSome=ez)(h3:(iE.sub (tl a 0) (tl b pP)).isSome=ez)(d:(iE.mul a pP).isSome=ez)(i:(iE.mul b 0).isSome=ez)(j:(iE.add (tl a pP) (tl b 0)).isSome=ez):
  ai xT 312 #[.complex .f64 a b,xJ xP 1] h λv h'=>v=.complex .f64 (tx a b) (ty a b)/\h'=h:=by
 refine ts Tryz.func312 ?_ (v7 (wj [(0,(.sc (.cpx .f64))),(9,aU)] [(0,1),(9,14)])) (args:=[(.complex .f64 (a,b).1 (a,b).2),(1:Int)]);refine⟨i0,i0,?_⟩;refine aq (λk:Nat=>(if k=0 then(a,b)else(tx a b,ty a b),(k:Int))) (λk h'=>k<=1/\h'=h) (λk=>1-k) 0 hZ ⟨ii,hZ⟩ ?_;rintro k h' ⟨l,rfl⟩;have g:xD (qe xP (xD 1 4+4)) 4=1:=i0
 try dsimp only
 rw[g];refine af (λe=>?_) (λe=>?_)
 .have:k=0:=ii
  subst this;refine⟨(tx a b,ty a b),afl (pu c) (pu f) (pu h3) (pu d) (pu i) (pu j),?_⟩;exact⟨1,hZ,⟨ii,hZ⟩,ii⟩
 .have:k=1:=ii
  subst this;exact⟨hZ,hZ⟩
theorem aco(a:eS)(s:DB)(h:f7)(g:bQ h a 330 (BY s))(c:s.ok=ez):ai xT 255 #[xL (dB a)] h λv h'=>v=.tuple #[]/\bQ h' a 330 (BY s.on)/\aS (λb=>b≠a.block) h h':=by
 simp only[DB.ok,qy,decide_eq_true_eq]at c;obtain⟨⟨⟨⟨⟨⟨⟨⟨⟨⟨⟨w,x⟩,E⟩,B⟩,y⟩,J⟩,L⟩,G⟩,Q⟩,K⟩,F⟩,z⟩:=c;refine ts Tryz.func255 ?_ (v7 (v7 (v7 (v7 (ws [] [(33,44)] u9)))));have D:aa (λb=>b<h.size/\¬b=a.block) h h [aj a 330 (BY s)]:=.XB (λb=>b=a.block) (λb i=>by rw[i];exact g.lt) ⟨g,hZ⟩;have fin:∀{h':f7},aa (λb=>b<h.size/\¬b=a.block) h h' [aj a 330 (BY s.on)]->Value.tuple #[]=.tuple #[]/\bQ h' a 330 (BY s.on)/\aS (λb=>b≠a.block) h h':=λH=>
  ⟨hZ,H.box 0 hZ,H.ac.1,λk t o=>H.ac.2 k t ⟨t,o⟩⟩
 refine⟨a,hZ,(s.ax,s.ay),g.cell0 hZ,a,hZ,(s.sx,s.sy),g.cell hZ,(oQ s.ax s.sx,oQ s.ay s.sy),afj (pu w) (pu x),a,hZ,?_⟩;refine D.fv ae 0 hZ hZ [.complex .f64 (oQ s.ax s.sx) (oQ s.ay s.sy)] hZ hZ hZ (by simp[BY]) λM r=>⟨x7,?_⟩
 refine⟨a,hZ,s.left,(r.box 0 hZ).cell (j:=2) hZ,a,hZ,?_⟩;rw[ag (s.left-1)];refine r.storeAt ae 0 hZ hZ (off:=2) hZ hZ hZ (by simp[BY]) λA d=>?_;refine⟨a,hZ,s.left-1,(d.box 0 hZ).cell (j:=2) hZ,?_⟩;refine af (λe=>?_) (λe=>?_)
 .have l:BY s.on=[.complex .f64 (oQ s.ax s.sx) (oQ s.ay s.sy),.complex .f64 s.sx s.sy,xJ xP (s.left-1),xJ xP s.leg,xN s.second]:=by rw[DB.on,f8 e];rfl
  refine fin ?_;rw[l];exact d
 .refine⟨a,hZ,(s.sx,s.sy),(d.box 0 hZ).cell (j:=1) hZ,(YV s.sx s.sy A E B y J L G).xa ?_⟩;refine⟨(tx s.sx s.sy,ty s.sx s.sy),hZ,a,hZ,?_⟩;refine d.storeAt ae 0 hZ hZ (off:=1) hZ hZ hZ (by simp[BY]) λR f=>?_;refine bB (λ_ h'=>aa (λb=>b<h.size/\¬b=a.block) h h' [aj a 330 [.complex .f64 (oQ s.ax s.sx) (oQ s.ay s.sy),.complex .f64 (tx s.sx s.sy) (ty s.sx s.sy),xJ xP (s.left-1),xJ xP (if s.second then s.leg+1 else s.leg),xN s.second]]) ?_ ?_
  .refine⟨a,hZ,s.second,(f.box 0 hZ).cell (j:=4) hZ,aY (λm=>?_) λm=>?_⟩
   .refine⟨a,hZ,s.leg,(f.box 0 hZ).cell (j:=3) hZ,a,hZ,?_⟩;rw[ag (s.leg+1)];refine f.storeAt ae 0 hZ hZ (off:=3) hZ hZ hZ (by simp[BY]) λN I=>?_;rw[f8 m];exact I
   .rw[f9 (by rw[m];decide)];exact f
  .rintro _ O q;refine⟨a,hZ,s.second,(q.box 0 hZ).cell (j:=4) hZ,a,hZ,?_⟩;refine q.storeAt ae 0 hZ hZ (off:=4) hZ hZ hZ i6 λP p=>?_;refine⟨a,hZ,_,(p.box 0 hZ).cell (j:=3) hZ,a,hZ,?_⟩;refine p.storeAt ae 0 hZ hZ (off:=2) hZ hZ hZ i6 λh8 u=>?_;have l:BY s.on=[.complex .f64 (oQ s.ax s.sx) (oQ s.ay s.sy),.complex .f64 (tx s.sx s.sy) (ty s.sx s.sy),xJ xP (if s.second then s.leg+1 else s.leg),xJ xP (if s.second then s.leg+1 else s.leg),xN (!s.second)]:=by rw[DB.on,f9 e];rfl
   refine fin ?_;rw[l];exact u
theorem TV(n:Nat)(h:f7)(j:n<64):ai xT 198 #[xJ xP n] h λv h'=>v=.complex .f64 (jY n).ax (jY n).ay/\Sp h h' []:=by
 refine ts Tryz.func198 ?_ (v7 (.scope 0 [(4,aU)] [(2,3),(4,5),(12,23)] [u9,u9,u9] [u9] []));refine af (λe=>ii) λ_=>af (λe=>ii) λ_=>?_;refine(VS h).mono ?_;rintro v i ⟨a,rfl,g⟩;refine⟨dB a,hZ,?_⟩;refine aq (λk:Nat=>(k:Int)) (λk h'=>k<=n/\Sp h h' [aj a 330 (BY (jY k))]) (λk=>n-k) 0 hZ ⟨ii,g⟩ ?_;rintro k f ⟨l,b⟩;refine aX (λe=>?_) (λe=>?_)
 .have:k=n:=ii
  subst this;exact⟨a,hZ,((jY k).ax,(jY k).ay),(b.box 0 hZ).cell0 hZ,hZ,.zip b.ac⟩
 .refine(aco a (jY k) f (b.box 0 hZ) (aiE k ii)).xc λh3 ⟨c,d⟩=>⟨(),hZ,k+1,i9,⟨ii,b.um 0 hZ d c⟩,ii⟩
theorem Mk{a b:Int}(c:-4<=a:=by omega)(e:a<=4:=by omega)(h3:-4<=b:=by omega)(d:b<=4:=by omega):iE.sub (cY a) (cY b)=dB (cY (a-b)):=by have:=ahb (a+4).toNat ii (b+4).toNat ii;rw[show((a+4).toNat:Int)-4=a by omega,show((b+4).toNat:Int)-4=b by omega,show((a+4).toNat:Int)-((b+4).toNat:Int)=a-b by omega]at this;exact this
theorem Ml{a:Int}(b:-8<=a:=by omega)(c:a<=8:=by omega):iE.mul (cY a) (cY a)=dB (cY (a*a)):=by have:=ahc (a+8).toNat ii;rw[show((a+8).toNat:Int)-8=a by omega]at this;exact this
theorem PQ(a:Int):((a.natAbs:Nat):Int)*(a.natAbs:Nat)=a*a:=Int.natAbs_mul_self
theorem YW{a b:Int}(c:-8<=a)(e:a<=8)(h3:-8<=b)(d:b<=8):iE.add (cY (a*a)) (cY (b*b))=dB (cY (a*a+b*b)):=by have:=ahe a.natAbs ii b.natAbs ii;rw[PQ,PQ]at this;exact this
def Fe(i j:Nat):Int:=((gG i).x-(gG j).x)*((gG i).x-(gG j).x)+((gG i).y-(gG j).y)*((gG i).y-(gG j).y)
theorem aeC{a:Int}(b:-8<=a)(c:a<=8):0<=a*a/\a*a<=64:=by rw[<-PQ,<-wH];have:a.natAbs*a.natAbs<=8*8:=wA ii ii;omega
theorem AP{n:Nat}(h:n<64):(jY n).ax=cY (gG n).x/\(jY n).ay=cY (gG n).y/\-4<=(gG n).x/\(gG n).x<=4/\-4<=(gG n).y/\(gG n).y<=4:=by have:=aha n h;simp only[qy,decide_eq_true_eq,beq_iff_eq]at this;obtain⟨⟨⟨⟨⟨a,b⟩,c⟩,d⟩,e⟩,f⟩:=this;exact⟨a,b,c,d,e,f⟩
theorem YX{i j:Nat}(d:i<64)(c:j<64):0<=Fe i j/\Fe i j<=128:=by have a:=AP d;have b:=AP c;have e:=aeC (a:=(gG i).x-(gG j).x) ii ii;have f:=aeC (a:=(gG i).y-(gG j).y) ii ii;unfold Fe;omega
theorem acp(i j:Nat)(h:f7)(e:i<64)(c:j<64):ai xT 199 #[.complex .f64 (jY i).ax (jY i).ay,.complex .f64 (jY j).ax (jY j).ay] h λv h'=>v=.float .f64 (cY (Fe i j))/\h'=h:=by
 have a:=AP e;have b:=AP c;refine ts Tryz.func199 ?_ (args:=[(.complex .f64 ((jY i).ax,(jY i).ay).1 ((jY i).ax,(jY i).ay).2),(.complex .f64 ((jY j).ax,(jY j).ay).1 ((jY j).ax,(jY j).ay).2)]);have d:iE.sub (jY i).ax (jY j).ax=dB (cY ((gG i).x-(gG j).x)):=by rw[a.1,b.1];exact Mk
 have f:iE.sub (jY i).ay (jY j).ay=dB (cY ((gG i).y-(gG j).y)):=by rw[a.2.1,b.2.1];exact Mk
 refine⟨(cY ((gG i).x-(gG j).x),cY ((gG i).y-(gG j).y)),afk d f,_,Ml,_,Ml,_,YW ii ii ii ii,hZ,hZ⟩
abbrev aeD:bL C.toBH 22 3 1 [xJ xP 0] 8:=⟨_,_,hZ,hZ,hZ,hZ,hZ,hZ⟩
def nt(a b:Int):Int:=if a<b then-1 else if a>b then 1 else 0
theorem PR(m:Nat)(h:f7)(a:m<129):ai xT 257 #[.float .f64 (cY (m:Nat))] h λv h'=>v=xN eH/\h'=h:=by refine ts Tryz.func257 ?_;have:=Yd m a m a;rw[show(FloatKind.format .f64).order (cY (m:Nat)) (cY (m:Nat))=dB (compare m m)from this,Nat.compare_eq_eq.2 rfl];exact⟨hZ,hZ⟩
theorem YY(m n:Nat)(h:f7)(b:m<129)(c:n<129):ai xT 203 #[.float .f64 (cY (m:Nat)),.float .f64 (cY (n:Nat))] h λv h'=>v=xJ xP (nt m n)/\h'=h:=by
 refine ts Tryz.func203 ?_;refine(PR m h b).mono ?_;rintro v a ⟨rfl,rfl⟩;refine⟨_,hZ,(PR n a c).xa ?_⟩;refine⟨_,hZ,aY (λe=>jj) λ_=>aY (λe=>jj) λ_=>?_⟩;have d:(FloatKind.format .f64).order (cY (m:Nat)) (cY (n:Nat))=dB (compare m n):=Yd m b n c;rw[d];rcases Nat.lt_trichotomy m n with a|a|a
 .rw[Nat.compare_eq_lt.2 a];refine aY (λ_=>⟨by rw[nt,f8 ii],hZ⟩) (λe=>jj)
 .subst a;rw[Nat.compare_eq_eq.2 rfl];refine aY (λe=>jj) λ_=>aY (λe=>jj) λ_=>⟨by rw[nt,f9 ii,f9 ii],hZ⟩
 .rw[Nat.compare_eq_gt.2 a];refine aY (λe=>jj) λ_=>aY (λ_=>⟨by rw[nt,f9 ii,f8 ii],hZ⟩) (λe=>jj)
theorem Mm(m:Int)(h:f7):ai xT 234 #[xJ xP m] h λv h'=>v=xN eH/\h'=h:=by refine ts Tryz.func234 ?_;exact⟨i6,hZ⟩
theorem YZ(m n:Int)(h:f7):ai xT 204 #[xJ xP m,xJ xP n] h λv h'=>v=xJ xP (nt m n)/\h'=h:=by refine ts Tryz.func204 ?_;refine(Mm m h).mono ?_;rintro v b ⟨rfl,rfl⟩;refine⟨_,hZ,(Mm n b).xa ?_⟩;refine⟨_,hZ,aY (λe=>jj) λ_=>aY (λe=>jj) λ_=>?_⟩;refine af (λe=>⟨by rw[nt,f8 e],hZ⟩) λe=>af (λa=>⟨by rw[nt,f9 e,f8 a],hZ⟩) λa=>⟨by rw[nt,f9 e,f9 a],hZ⟩
def TW(a b:Int):Int:=if a≠0 then a else b
theorem afA(s:Sl)(a b:Int)(h:f7)(f:Rd h s 1 aw [a,b]):ai xT 202 #[s] h λv h'=>v=xJ xP (TW a b)/\h'=h:=by
 refine BQ s ?_;have m:s.len=2:=f.len;refine aq (λk:Nat=>(k:Int)) (λk h'=>h'=h/\k<=2/\(1<=k->a=0)/\(2<=k->b=0)) (λk=>2-k) 0 hZ ⟨hZ,ii,ii,ii⟩ ?_;rintro k h' ⟨rfl,l,g,i⟩;refine af (λe=>?_) (λe=>?_)
 .rcases(show k=0∨k=1 by omega)with rfl|rfl
  .refine f.bo 0 hZ i6 a hZ ?_;refine bA (λc=>⟨by rw[TW,f8 c],hZ⟩) λc=>?_;exact⟨1,hZ,⟨hZ,ii,λ_=>c,ii⟩,ii⟩
  .refine f.bo 1 hZ i6 b hZ ?_;have d:=g ii;refine bA (λc=>⟨by rw[TW,f9 p8],hZ⟩) λc=>?_;exact⟨2,hZ,⟨hZ,ii,λ_=>d,λ_=>c⟩,ii⟩
 .have d:=g ii;have j:=i ii;exact⟨by rw[TW,f9 p8,j],hZ⟩
abbrev Fr:=Int×Fin 129
def wn(x:Fr):aT:=[xJ xP x.1,.float .f64 (cY ((x.2:Nat):Int))]
def ww(x y:Fr):Int:=TW (nt (x.2:Nat) (y.2:Nat)) (nt x.1 y.1)
theorem PS(x y:Fr)(h:f7):ai xT 201 #[xO (wn x).toArray,xO (wn y).toArray] h λv h'=>v=xJ xP (ww x y)/\aS (λb=>b<h.size) h h':=by
 refine ts Tryz.func201 ?_ u9 [(1,(.l [0,1,2,3,5,6,7,8,4,9,10,11,12]))] (args:=[(xO #[(x.1,cY ((x.2:Nat):Int)).1,(.float .f64 (x.1,cY ((x.2:Nat):Int)).2)]),(xO #[(y.1,cY ((y.2:Nat):Int)).1,(.float .f64 (y.1,cY ((y.2:Nat):Int)).2)])]);refine(Sp.refl h).boxed (t:=264) λa i g=>?_;refine g.boxed (t:=264) λb f c=>?_;refine⟨_,(c.box 0 hZ).cell (j:=1) hZ,_,(c.box 1 hZ).cell (j:=1) hZ,_,(c.box 0 hZ).cell0 hZ,_,(c.box 1 hZ).cell0 hZ,?_⟩;refine(YY x.2 y.2 f x.2.isLt y.2.isLt).mono ?_;rintro v h3 ⟨rfl,rfl⟩;refine⟨_,hZ,⟨(c.box 1 hZ).cell0 hZ,(c.box 0 hZ).cell0 hZ,x7⟩,(YZ _ _ h3).mono ?_⟩;rintro v m ⟨rfl,rfl⟩;refine⟨_,hZ,x7,?_⟩;refine c.lit ae aw aeD hZ [nt (x.2:Nat) (y.2:Nat),nt x.1 y.1] hZ (show 2*1<=2^20 by decide) hZ λs e d=>⟨x7,?_⟩
 refine(afA s _ _ e (d.seq 2 hZ λ_=>rfl)).xa ⟨_,hZ,x7,hZ,d.ac⟩
theorem TX{a b:Int}:nt a b<0↔a<b:=by unfold nt;split<;>(try split)<;>omega
theorem Mn{a b:Int}:nt a b=0↔a=b:=by unfold nt;split<;>(try split)<;>omega
theorem aeE{x y:Fr}:ltOf ww x y=ez↔((x.2:Nat):Int)<(y.2:Nat)∨(((x.2:Nat):Int)=(y.2:Nat)/\x.1<y.1):=by
 have h0:ltOf ww x y=ez↔ww x y<0:=by simp[ltOf]
 rw[h0,ww,TW];by_cases h:nt (x.2:Nat) (y.2:Nat)=0
 .rw[f9 u6,TX];have:=Mn.1 h;constructor
  .exactλa=>.inr ⟨this,a⟩
  .rintro(a|a)
   .omega
   .exact a.2
 .rw[f8 h,TX];have b:((x.2:Nat):Int)≠(y.2:Nat):=λe=>h (Mn.2 e);constructor
  .exact .inl
  .rintro(a|a)
   .exact a
   .exact absurd a.1 b
theorem Ff{x y:Fr}:ltOf ww x y=eH↔¬(((x.2:Nat):Int)<(y.2:Nat)∨(((x.2:Nat):Int)=(y.2:Nat)/\x.1<y.1)):=by rw[<-aeE];simp
theorem ahL:Sort.SWO (ltOf ww) where
 irrefl x:=Ff.2 ii
 trans x y z h1 h2:=by rw[aeE]at*;omega
 ntrans x y z h1 h2:=by rw[Ff]at*;omega
theorem ahM(x y:Fr)(a:ltOf ww x y=eH)(b:ltOf ww y x=eH):x=y:=by rw[Ff]at a b;refine Prod.ext ii (Fin.ext ii)
theorem PT{e:TypeId}{s:Sl}{l:List Fr}{h:f7}(m:Own h e s 2 wn l)(a:hY l<2^40):
  ai xT 200 #[s,.func (.func 201) #[] #[]] h λv h'=>v=.tuple #[]/\Own h' e s 2 wn (l.mergeSort λx y=>!(ltOf ww) y x)/\aS (λb=>¬s.on b) h h':=by
 have n:∀x:Fr,hY (wn x)=2:=λ_=>rfl;refine Nc (P:=xT) (id_:=200) (g:=201) (enc:=wn) (k:=2) (cf:=ww) n ?_ ?_ (λx y h=>PS x y h) m a
 .intro fm cap l w f d i j;have:=AnyQ.slices_SortFunc_total Tryz.TQ 2 Tryz.aho Tryz.afs wn (λ_=>rfl) (λx v c=>by simp[wn]at c;rcases c with rfl|rfl<;>rfl) ww ahL 201 #[] fm 0 cap l.toArray w (enters_of Tryz.aft js hZ) m6 d i rb ahM;simp at this;exact this
 .intro p cap w;exact AnyF.slices_SortFunc_none Tryz.TQ p cap _ w
def wZ(a:az)(n:Int):az:=if 0<=n/\n<64/\a.contains n=eH then a++[n]else a
def iK(l:az):az:=l.foldl wZ []
theorem AQ(l:az){k:Nat}(a:k<hY l:=by omega):iK (l.take (k+1))=wZ (iK (l.take k)) l[k]:=by rw[iK,aE _ _ a,wc];rfl
theorem PU(l:az):∀k,k<=hY l->∀x,x∈iK (l.take k)↔x∈l.take k/\0<=x/\x<64
 |0,_,x=>by simp[iK]
 |k+1,hk,x=>by
  have c:=PU l k ii;rw[AQ l,aE _ _ (show k<hY l by omega),wZ];by_cases h:0<=l[k]/\l[k]<64/\(iK (l.take k)).contains l[k]=eH
  .rw[f8 h,qt,qt,qp,c x];constructor
   .rintro(a|rfl)
    .exact⟨.inl a.1,a.2⟩
    .exact⟨.inr hZ,h.1,h.2.1⟩
   .rintro⟨a|a,b⟩
    .exact .inl ⟨a,b⟩
    .exact .inr a
  .rw[f9 h,qt,qp,c x];constructor
   .rintro a;exact⟨.inl a.1,a.2⟩
   .rintro⟨a|rfl,b⟩
    .exact⟨a,b⟩
    .have:(iK (l.take k)).contains l[k]=ez:=by
      cases hc:(iK (l.take k)).contains l[k]with
      |true=>rfl
      |false=>exact absurd ⟨b.1,b.2,hc⟩ h
     exact(c _).1 (by simpa using this)
theorem JA(l:az):∀k,k<=hY l->(iK (l.take k)).Nodup
 |0,_=>by simp[iK]
 |k+1,hk=>by
  have c:=JA l k ii;rw[AQ l,wZ];split
  .rename_i h;rw[List.nodup_append];refine⟨c,i6,λa d b e=>?_⟩;rw[qp.1 e];rintro rfl;have:=h.2.2;rw[List.contains_eq_mem]at this;simp[d]at this
  .exact c
theorem PW(l:az)(k:Nat):hY (iK (l.take k))<=k:=by
 induction k with
 |zero=>simp[iK]
 |succ k ih=>
  by_cases a:k<hY l
  .rw[AQ l a,wZ];split
   .simp;omega
   .omega
  .rw[qh ii]at ih⊢;omega
def CZ(c:Nat)(n:Int):Fr:=(n,Fin.ofNat 129 (Fe n.toNat c).toNat)
theorem ahN{c:Nat}{n:Int}(a:c<64)(b:0<=n)(d:n<64):(((CZ c n).2:Nat):Int)=Fe n.toNat c:=by have:=YX (i:=n.toNat) (j:=c) ii a;show(((Fe n.toNat c).toNat%129:Nat):Int)=_;omega
def sV(c:Nat)(l:az):az:=(((iK l).map (CZ c)).mergeSort λx y=>!(ltOf ww) y x).map (·.1)
def dM(a block:Int)(l:az):az:=if 0<=a/\a<=16777215/\0<=block/\block<8 then sV ((8*a+block)%64).toNat l else[]
def sG(a:az):aT:=(qx 64).map λi:Nat=>xN (a.contains (i:Int))
theorem afB(a:az){n:Int}(b:0<=n)(c:n<64):(sG a)[n.toNat]?=dB (xN (a.contains n)):=by rw[sG,qO,zp ii,qS,show((n.toNat:Nat):Int)=n by omega]
theorem acq(a:az){n:Int}(c:0<=n)(d:n<64):(sG a).set n.toNat (xN ez)=sG (a++[n]):=by
 apply zt;intro i;rw[qW,sG,sG,qO,qO,qu,zC];by_cases b:i<64
 .rw[zp b,qS,qS];by_cases h:n.toNat=i
  .rw[f8 h,f8 ii,show((i:Nat):Int)=n by omega];simp
  .rw[f9 h];have:(a++[n]).contains (i:Int)=a.contains (i:Int):=by rw[List.contains_eq_mem,List.contains_eq_mem];simp;omega
   rw[this]
 .rw[f9 ii,qJ i5];rfl
abbrev eFr:bL C.toBH 259 264 2 [xJ xP 0,.float .f64 0] 16:=⟨_,_,hZ,hZ,hZ,hZ,hZ,hZ⟩
theorem ahO:∀x,∀c∈wn x,c.oneCell'=ez:=by intro x c a;simp[wn]at a;rcases a with rfl|rfl<;>rfl
theorem GP(b block:Int)(live:Sl)(l:az)(h:f7)(U:Rd h live 1 aw l)(Z:hY l<=2^30:=by omega):
  ai xT 134 #[xJ xP b,xJ xP block,live] h λv h'=>∃r:Sl,v=r/\Sp h h' [an 3 r 1 aw (dM b block l)]:=by
 have ab:=U.len;refine ts Tryz.func134 ?_ (v7 (ws [] [(6,7),(15,29)] (v7 (v7 (v7 (u7 (v7 (v1 (v2 [(8,cM),(37,aU)] [(8,9),(11,12),(37,65)] (v7 (v7 (u7 (v1 (v7 (ws [(52,ka)] [(41,53)] u9))) u9)))))) (v7 (v7 (wj [(12,cM),(69,aU)] [(12,13),(14,15),(69,79)])))))))));have G:¬(0<=b/\b<=16777215/\0<=block/\block<8)->∃r:Sl,Value.slice et 0 0=xK r.ptr r.len r.cap/\Sp h h [an 3 r 1 aw (dM b block l)]:=λQ=>by
  rw[dM,f9 Q];exact⟨⟨et,0,0⟩,hZ,(Sp.refl h).nil 3 1 aw⟩
 refine aG (af (λe=>G ii) λe1=>af (λe=>G ii) λe2=>af (λe=>G ii) λe3=>af (λe=>G ii) λe4=>?_);have O:0<=b/\b<=16777215/\0<=block/\block<8:=ii
 rw[dM,f8 O];rw[ag (8*b),ag (8*b+block),yW ii];obtain⟨c,W⟩:∃c:Nat,(8*b+block)%64=c:=⟨((8*b+block)%64).toNat,ii⟩
 have g:c<64:=ii
 rw[W,qj];refine⟨i0,(TV c h g).mono ?_⟩;rintro v h2 ⟨rfl,X⟩;refine⟨((jY c).ax,(jY c).ay),hZ,?_⟩;refine X.alloc ae hZ λa h3 H3=>?_;have S:Sp h h3 [aj a 260 (sG []),an 264 ⟨et,0,0⟩ 2 wn []]:=H3.nil 264 2 wn;refine aq (λt:Sl×Nat=>(t.1,(t.2:Int))) (λt h'=>t.2<=hY l/\Sp h h' [aj a 260 (sG (iK (l.take t.2))),an 264 t.1 2 wn ((iK (l.take t.2)).map (CZ c))]) (λt=>hY l-t.2) (⟨et,0,0⟩,0) hZ ⟨i6,S⟩ ?_;rintro⟨s,k⟩ h4 ⟨hk,p⟩;dsimp only at*;have B:=PW l k;refine af (λe=>?_) (λe=>?_)
 .have D:k<hY l:=ii
  have F:=AQ l D;obtain⟨f,E⟩:=x6 (iK (l.take k))
  rw[<-E]at p B F;refine(Seq.up U p.ac).bo k hZ D _ hZ ?_;obtain⟨x,hx⟩:=x6 (l[k])
  rw[<-hx]at F⊢;refine bB (λt h'=>(t=ez↔0<=x/\x<64/\f.contains x=eH)/\h'=h4) ?_ ?_
  .refine af (λq=>af (λm=>?_) λm=>⟨⟨λe=>jj,λw=>absurd w.2.1 m⟩,hZ⟩) λq=>⟨⟨λe=>jj,λw=>absurd w.1 q⟩,hZ⟩;refine⟨⟨q,m⟩,f.contains x,?_,?_,hZ⟩
   .rw[wx];exact(p.box 0 hZ).cell (afB f q m)
   .cases f.contains x<;>simp<;>omega
  .rintro t h5 ⟨V,rfl⟩;refine aY (λe=>?_) (λe=>?_)
   .obtain⟨q,m,x2⟩:=V.1 e;refine⟨⟨q,m⟩,?_⟩;rw[wx];refine p.storeAt ae 0 hZ hZ hZ hZ hZ (by simp[sG];omega) λM u=>?_;have J:Sp h M [aj a 260 (sG (f++[x])),an 264 s 2 wn (f.map (CZ c))]:=by rw[<-acq f q m];exact u
    obtain⟨n,Q⟩:∃n:Nat,x=n:=⟨x.toNat,ii⟩
    subst Q;refine(TV n M ii).mono ?_;rintro v T ⟨rfl,R7⟩;refine⟨((jY n).ax,(jY n).ay),hZ,(acp n c T ii g).mono ?_⟩;rintro v h8 ⟨rfl,rfl⟩;have H:=J.up R7.ac;have ev:cY (Fe n c)=cY (((CZ c (n:Int)).2:Nat):Int):=by rw[ahN g ii ii,qj]
    refine⟨_,hZ,?_⟩;rw[ev];refine H.push ae 1 hZ eFr hZ i0 (λ_=>rfl) ahO (CZ c (n:Int)) hZ i0 i5 λs' Y L=>?_;refine⟨(s',k+1),i7,⟨i4,?_⟩,i4⟩
    try dsimp only
    rw[F,wZ,f8 ⟨q,m,x2⟩,qN];exact L
   .refine⟨(s,k+1),i7,⟨i4,?_⟩,i4⟩
    try dsimp only
    rw[F,wZ,f9 λw=>by rw[V.2 w]at e;cases e];exact p
 have P:k=hY l:=ii
 subst P;rw[qM]at p B;refine(PT (p.own 1 hZ) i5).xc λh5 ⟨R,N⟩=>?_;have K:=p.nG 1 hZ N R;obtain⟨d,j⟩:=x6 (((iK l).map (CZ c)).mergeSort λx y=>!(ltOf ww) y x)
 have ad:hY d=hY (iK l):=by rw[j,wy,qu]
 have eo:sV c l=d.map (·.1):=by rw[sV,<-j]
 rw[<-j]at K;have ah:=(K.own 1 hZ).len;rw[eo];refine⟨(),hZ,?_⟩;refine aq (λt:Sl×Nat=>(t.1,(t.2:Int))) (λt h'=>t.2<=hY d/\Sp h h' [an 264 s 2 wn d,an 3 t.1 1 aw ((d.take t.2).map (·.1))]) (λt=>hY d-t.2) (⟨et,0,0⟩,0) hZ ⟨i6,(K.del 0).nil 3 1 aw⟩ ?_;rintro⟨o,i⟩ M ⟨I,u⟩;dsimp only at*;refine af (λe=>?_) (λe=>?_)
 .have z:i<hY d:=ii
  refine(u.seq 0 hZ λ_=>rfl).de i hZ z (d[i].1,cY ((d[i].2:Nat):Int)) hZ ?_;refine u.alloc ae hZ λy T H7=>?_;refine H7.storeAll ae 2 hZ hZ [xJ xP d[i].1,.float .f64 (cY ((d[i].2:Nat):Int))] hZ hZ hZ hZ λh8 H=>?_;refine⟨d[i].1,(H.box 2 hZ).cell0 hZ,?_⟩;refine H.push ae 1 hZ aeD hZ i0 (λ_=>rfl) fd d[i].1 hZ i0 i5 λo' Y L=>?_;refine⟨(o',i+1),i7,⟨i4,?_⟩,i4⟩
  try dsimp only
  rw[aE _ _ z,qN];exact L.del 2
 .rw[qh ii]at u;exact⟨o,hZ,u.take 1 λi A I=>by cases i with|zero=>exact I|succ i=>simp at I⟩
theorem acr(l:az)(x:Int):x∈iK l↔x∈l/\0<=x/\x<64:=by
 have:=PU l l.length (qm _) x
 rwa [qM]at this
theorem afC(l:az):(iK l).Nodup:=by
 have:=JA l l.length (qm _)
 rwa [qM]at this
theorem Da(c:Nat)(l:az):(sV c l).Perm (iK l):=by have h:=(wX ((iK l).map (CZ c)) λx y=>!(ltOf ww) y x).map (·.1);rw[List.map_map]at h;have e:((λx:Fr=>x.1)∘CZ c)=id:=rfl;rw[e,List.map_id]at h;exact h
theorem Fg(c:Nat)(l:az)(x:Int):x∈sV c l↔x∈l/\0<=x/\x<64:=by rw[(Da c l).mem_iff,acr]
theorem acs(c:Nat)(l:az):(sV c l).Nodup:=(Da c l).nodup_iff.2 (afC l)
def JB(l:az)(i:Nat):Int:=l.getD i 0
def fS(o:az)(id:Int):Int:=if o=[]∨id<0 then-1 else JB o (id%(hY o:Int)).toNat
theorem TY(s:Sl)(o:az)(id:Int)(h:f7)(f:Rd h s 1 aw o):ai xT 136 #[s,xJ xP id] h λv h'=>v=xJ xP (fS o id)/\h'=h:=by
 have g:=f.len;refine ts Tryz.func136 ?_ (v7 (ws [] [(4,12)] u9));refine aG (aX (λe=>⟨by rw[fS,f8 (.inl (qZ ii))],hZ⟩) λe=>af (λb=>⟨by rw[fS,f8 (.inr b)],hZ⟩) λb=>?_);refine⟨e,?_⟩;have c:¬(o=[]∨id<0):=by
  rintro(rfl|h2)
  .simp at g;omega
  .exact b h2
 have d:xD id ((s.len:Nat):Int)=((id%(hY o:Int)).toNat:Int):=by rw[yW ii,g];have:=w9 id (show(hY o:Int)≠0 by omega);omega
 have a:(id%(hY o:Int)).toNat<hY o:=by have:=wv id (show(0:Int)<hY o by omega);omega
 rw[d];refine f.bo _ hZ a _ hZ ⟨?_,hZ⟩;rw[fS,f9 c,JB,qd,qc a];rfl
def tv(p:Pm)(seed:Int)(d:Row)(id:Int):aL:=if bW id then gq p.2.2.toNat (dG p seed d) (dz (bG p).toNat seed id)else[]
def kw(m:ak)(o b seed:Int)(d:Row)(id:Int):cU:=⟨o,b,id,m.p,seed,tv m.p seed d id⟩
def JC(m:ak)(o b seed:Int)(d:Row)(order:az)(id:Int):Int×aL:=(fS order id,cF (kw m o b seed d id))
def nu(m:ak)(o:Int)(tries:az)(a:bH)(live:az)(i:Nat):List (Int×aL):=
 (qx (m.p.1+m.extra).toNat).map λid:Nat=>JC m o i (cv o i (tries.getD i 0)) (a.getD i []) (dM o i live) id
def fj(m:ak)(o:Int)(tries:az)(a:bH)(live:az)(n:Nat):List (Int×aL):=(qx n).flatMap (nu m o tries a live)
theorem tw(m:ak)(o:Int)(tries:az)(a:bH)(live:az)(n:Nat):fj m o tries a live (n+1)=fj m o tries a live n++nu m o tries a live n:=by unfold fj;rw[zJ,q9,zb,z6,qG]
theorem JD(m:ak)(o:Int)(tries:az)(a:bH)(live:az)(i:Nat):hY (nu m o tries a live i)=(m.p.1+m.extra).toNat:=by simp[nu]
theorem xo(m:ak)(o:Int)(tries:az)(a:bH)(live:az):∀n,hY (fj m o tries a live n)=n*(m.p.1+m.extra).toNat
 |0=>by simp[fj]
 |n+1=>by rw[tw,qw,xo m o tries a live n,JD,zM]
theorem iz(o b t:Int):0<=cv o b t/\cv o b t<4294967296:=by unfold cv;omega
section
variable {pw:eS}
theorem Nl(x:bh)(m:ak)(xe:dP)(e:Qw.cb)(s:Sl)(b:aL)(hS:St B h0 As λh=>cR h x m/\eu gV h xe e/\Rd h s 1 aB b)(b0:s.len<=s.cap)(hz:cC m)(T:bK m.p=ez)(cr:0<=m.extra/\m.extra<=16)(du:b.length<=2^20)
  (ht:cV m.p e.object (splitB m.p b).length=dB e.tries) (H:aa B h0 h (bf bi a pw (aM x) offs da w ds::As)):
  ai xT 78 #[xL (dB a),PL xe,s] h λv h'=>∃(r:Sl) (ys:List (Int×Sl)),v=.tuple #[r,xN ez]/\
   aa B h0 h' (bf bi a pw (aM x) offs da w ds::dI mS 2 piv r ys (fj m e.object e.tries (splitB m.p b) (aR ds m.drives) (splitB m.p b).length)::As):=by
 refine ts Tryz.func78 ?_ (v7 (v7 (v7 (u7 (v7 (v1 (v2 [(9,cM),(28,aU)] [(6,8),(9,18),(28,100)] (v7 (v7 (u7 (v1 (v7 (v7 (v7 (v7 (v7 (v7 (v1 (v2 [(9,cM),(72,aU)] [(9,10),(16,18),(72,99)] (v7 (v7 (u7 (v1 (v7 (ws [(17,(.sc .adr))] [(17,18),(75,89)] u9))) u9)))))))))))) u9)))))) u9)))) [(14,(.y [0,1,2,3,4,5,6,7,8,9,10,11] (.l [12,13,14,15]) (.l [14,12,13,15]))),(15,(.l [0,1,2,4,3,5,6,7,8,9]))] (args:=[(dB a),xe,s]);refine H.boxed λa1 h1 H1=>?_;have H1:=H1.aZ;have H1:=H1.aJ 2 [1,0];refine(fi x m (hS.at [_,_] H1).1 hz H1).x0 λlv h2 R2=>?_;have H2:=(H1.ci R2).aJ 3 [1,0,2];obtain⟨ok,ao⟩:=aa.cE H2;obtain⟨b5,dp,b6⟩:=hS.at [_,_,_] H2;have Z:(x.2.2.1,x.2.2.2.1,x.2.2.2.2.1)=m.p:=b5.p;have cs:=(bP m.p).1 T;obtain⟨s1,s2,s3⟩:=lS T;obtain⟨c1,c2,c3⟩:=mF T b.length;have bb:(aR ds m.drives).length<=m.drives.length:=qU _ _;have cq:=hz.dr;obtain⟨live,ax⟩:=x6 (aR ds m.drives)
 rw[<-ax]at H2 bb⊢;obtain⟨c,I⟩:=x6 (splitB m.p b)
 have ca:c.length<=2^20:=by rw[I];unfold splitB;simp;omega
 have am:∀r∈c,r.length=dX m.p:=by rw[I];intro r hr;unfold splitB at hr;obtain⟨i,_,rfl⟩:=qo.1 hr;exact EV _ _ _
 refine⟨lv,hZ,a,hZ,(x.2.2.1,x.2.2.2.1,x.2.2.2.2.1),⟨by rw[addr_add];exact ao.cell hZ,by rw[addr_add];exact ao.cell hZ,by rw[addr_add];exact ao.cell hZ,x7⟩,?_⟩;rw[Z];refine(RU m.p s b h2 T b6 b0 ii).x0 λq h3 R3=>?_;rw[<-I]at R3 ht⊢;obtain⟨rs,H3⟩:=Qw.aa.aeB (H2.ci R3) λ_=>rfl;have H3:=(H3.th 134 2 piv mS).aZ;have H3:=H3.aJ 5 [2,0,1,3,4];have c6:=(H3.eC 2 hZ).1.len;have dx:=(H3.eC 2 hZ).2.1;have dj:=jR ht;refine⟨q,hZ,?_⟩;obtain⟨j,G⟩:∃j:Nat,j=(m.p.1+m.extra).toNat:=⟨_,rfl⟩
 have M:j<=32:=ii
 refine aq (λt:Sl×Nat=>(t.1,(t.2:Int))) (λt h'=>t.2<=c.length/\aa B h0 h' (bf bi a pw (aM x) offs da w ds::bV 134 t.1 2 piv mS (fj m e.object e.tries c live t.2)::dI (AL 1 aB) 1 bn q rs c::an 3 lv 1 aw live::aj a1 111 (bY xe)::As)) (λt=>c.length-t.2) (⟨et,0,0⟩,0) hZ ⟨i6,H3⟩ ?_;rintro⟨o,i⟩ h4 ⟨hi,H4⟩;dsimp only at*;refine af (λe1=>?_) (λe1=>?_)
 .have Y:i<c.length:=ii
  have F4:=H4.eC 2 hZ;have U:=H4.box 4 hZ;obtain⟨bs,a6,dk⟩:=hS.at [_,_,_,_,_] H4;obtain⟨_,a7⟩:=aa.cE H4;obtain⟨t,a2,br⟩:=AM ht i ii;have cc:e.tries.getD i 0=(t:Int):=by rw[qd,qc ii];exact a2
  have b3:c.getD i []=c[i]:=by rw[qd,qc Y];rfl
  have L:∀{h':f7},bQ h' a1 111 (bY xe)->cellOf h' (a1.add 1)=dB (xJ xP e.object):=λ{h'} hb=>by rw[<-a6.1.2.1];exact hb.cell hZ
  have cp:∀{h':f7},bQ h' a 127 (bS (aM x) pw offs da)->bj h' (a.add 2) 0 [xJ xP m.p.1,xJ xP m.p.2.1,xJ xP m.p.2.2]:=λ{h'} hb=>by
   rw[<-Z];exact⟨j6,j6,j6,x7⟩
  have a0:=Fix.row F4 Y;refine F4.1.bo i hZ ii (rs[i]'ii) hZ ?_;refine⟨e.object,L U,xe.2.2.2,U.cell hZ,?_⟩;refine Seq.bo (f:=aw) a6.2 i hZ ii (t:Int) (by rw[a2];rfl) ?_;refine(pW _ _ _ h4).xa ⟨_,hZ,⟨U.cell hZ,x7⟩,a,hZ,m.p,cp a7,?_⟩;obtain⟨seed,k⟩:=x6 (cv e.object i t)
  have hg:=(EW br).2.1;have W:fV m.p seed (fw m.p)=ez:=by rw[k];exact hg
  obtain⟨K,Hh,w',n,BK⟩:=Vn (seed:=seed) (d:=c[i]) T W (by rw[am _ (qf Y),s3]);rw[<-k];refine(ahK BK (rs[i]'ii) _ a0.1 a0.2).mono ?_;rintro _ h6 ⟨bk,mm,rfl,R6⟩;have H6:=(H4.comp R6).front;have H6:=H6.aJ 7 [2,3,4,5,6,0,1];refine⟨(dB bk,0),hZ,bA (λe2=>absurd hZ e2) λ_=>?_⟩;have a9:=H6.box 4 hZ;refine⟨e.object,L a9,(GP e.object i lv live h6 (H6.seq 3 hZ λ_=>rfl)).x0 λN h7 R7=>?_⟩;have H7:=(H6.ci R7).aJ 8 [1,2,3,4,5,6,7,0];obtain⟨order,A⟩:=x6 (dM e.object i live)
  rw[<-A]at H7;have a4:=(aa.cE H7).2;have b7:x.2.2.1=m.p.1:=congrArg (·.1) Z;refine⟨N,hZ,a,hZ,x.2.2.1,a4.cell hZ,a,hZ,x.2.2.2.2.2.1,a4.cell hZ,?_⟩;have en:qe xP (x.2.2.1+x.2.2.2.2.2.1)=(j:Int):=by rw[b7,bs.extra,ag _];omega
  try dsimp only
  rw[en];have R:nu m e.object e.tries c live i=(qx j).map λid:Nat=>JC m e.object i seed c[i] order id:=by unfold nu;rw[cc,b3,<-k,<-A,<-G]
  have b2:(nu m e.object e.tries c live i).length=j:=by rw[JD,<-G]
  obtain⟨J,E⟩:=x6 (fj m e.object e.tries c live i)
  have dd:J.length<=2^26:=by rw[E,xo,<-G];have:=wA (show i<=2^20 by omega) M;omega
  obtain⟨Q,hQ⟩:=x6 (nu m e.object e.tries c live i)
  rw[<-hQ]at R b2;rw[<-E]at H7;refine aq (λt:Sl×Nat=>(t.1,(t.2:Int))) (λt h'=>t.2<=j/\aa B h0 h' (bf bi a pw (aM x) offs da w ds::bV 134 t.1 2 piv mS (J++Q.take t.2)::dI (AL 1 aB) 1 bn q rs c::an 3 lv 1 aw live::aj a1 111 (bY xe)::gK 34 mm 1 aB (dG m.p seed c[i])::aj bk 256 (Fc m.p seed mm)::an 3 N 1 aw order::As)) (λt=>j-t.2) (o,0) hZ ⟨i6,by simpa using H7⟩ ?_;rintro⟨o2,id⟩ h8 ⟨hid,S⟩;dsimp only at*;refine af (λe3=>?_) λe3=>?_
  .have cn:id<j:=ii
   have ad:=S.box 4 hZ;have X:=(aa.cE S).2;have F:wm h8 bk m.p seed (dG m.p seed c[i]):=⟨mm,S.box 6 hZ,S.Ea 5 hZ⟩
   have P:tv m.p seed c[i] id=if bW id then gq w' (dG m.p seed c[i]) (dz n seed id)else[]:=by unfold tv;rw[BK.pO,show m.p.2.2.toNat=w' by have:=BK.s;omega]
   have held:∀{h':f7},aS (λb=>b<h8.size) h8 h'->bR.ok [((a.add 2),xJ xP m.p.1),((a.add 2).add 1,xJ xP m.p.2.1),((a.add 2).add 2,xJ xP m.p.2.2),(a1.add 1,xJ xP e.object)] h':=λ{h'} T=>by
    obtain⟨q1,q2,q3,_⟩:=cp (X.ac T X.lt);exact⟨q1,q2,q3,L (ad.ac T ad.lt),x7⟩
   refine bB (λ(a5:eS) h'=>∃r:Sl,aa B h0 h' (aj a5 153 (cX (e.object,(i:Int),(id:Int),m.p.1,m.p.2.1,m.p.2.2,seed,r))::an 5 r 1 aB (tv m.p seed c[i] id)::bf bi a pw (aM x) offs da w ds::bV 134 o2 2 piv mS (J++Q.take id)::dI (AL 1 aB) 1 bn q rs c::an 3 lv 1 aw live::aj a1 111 (bY xe)::gK 34 mm 1 aB (dG m.p seed c[i])::aj bk 256 (Fc m.p seed mm)::an 3 N 1 aw order::As)) ?_ ?_
   .refine⟨e.object,L ad,a,hZ,m.p,cp X,?_,?_⟩
    .refine(BK.symbol bk id h8 F).x0 λr h9 R9=>?_;rw[<-P]at R9;have H9:=S.ci R9;refine⟨r,hZ,held R9.ac,H9.Ed ae hZ λa28 dy a8 ah=>⟨held (aa.up R9 a8).ac,?_⟩⟩;have ah:=ah.aZ;refine ah.storeAll ae 0 hZ hZ (cX (e.object,(i:Int),(id:Int),m.p.1,m.p.2.1,m.p.2.2,seed,r)) hZ hZ hZ hZ λc4 bq=>⟨x7,r,bq⟩
    .refine S.Ed ae hZ λc0 cf ar V=>⟨held ar,?_⟩
     have V:=V.aZ;refine(BK.symbol bk id cf (F.up ar)).x0 λr c8 ap=>?_;rw[<-P]at ap;have b4:=(V.ci ap).aJ 2 [1,0];refine⟨r,hZ,held (aa.up (Sp.zip ar) ap.ac).ac,?_⟩;refine b4.storeAll ae 0 hZ hZ (cX (e.object,(i:Int),(id:Int),m.p.1,m.p.2.1,m.p.2.2,seed,r)) hZ hZ hZ hZ λc5 cd=>⟨x7,r,cd⟩
   .rintro a5 b9 ⟨r,O⟩;have g:=O.box 0 hZ;have al:=iz e.object i t;rw[<-k]at al;refine⟨(e.object,(i:Int),(id:Int),m.p.1,m.p.2.1,m.p.2.2,seed,r),g.aA _ hZ,(TY N order id b9 (O.seq 9 hZ λ_=>rfl)).mono ?_⟩;rintro _ b1 ⟨rfl,rfl⟩;refine⟨_,hZ,⟨g.cell0 hZ,g.cell hZ,g.cell hZ,g.cell hZ,g.cell hZ,g.cell hZ,g.cell hZ,g.cell hZ,x7⟩,?_⟩;refine(sF (e.object,(i:Int),(id:Int),m.p.1,m.p.2.1,m.p.2.2,seed,r) (kw m e.object i seed c[i] id) b1 ⟨⟨hZ,hZ,hZ,hZ,hZ,al.1,al.2⟩,O.seq 1 hZ λ_=>rfl⟩).x0 λu c9 bd=>?_;have ay:=(O.ci bd).eW 0 hZ (D:=EA mS (fS order id,u) (JC m e.object i seed c[i] order id)) λz hz=>⟨hZ,hz.1.seq (λ_=>rfl) hz.2⟩
    have a3:Q[id]'ii=JC m e.object i seed c[i] order id:=by simp[R]
    refine⟨u,hZ,x7,?_⟩;refine ay.oX ae piv Px hZ [(fS order id,u)] hZ (show 1*2<=2^20 by decide) hZ x7 ?_;refine aa.nH ae ay 4 0 i0 (a:=(fS order id,u)) hZ hZ Px hZ i0 (λ_=>rfl) KZ (parts:=#[(0,xO #[xJ xP (fS order id),u])]) js i0 i5 λo3 c7 cl=>⟨x7,?_⟩
    refine⟨(o3,id+1),i7,⟨i4,?_⟩,i4⟩
    try dsimp only
    rw[aE Q id,a3,<-qn];exact cl.rest.rest.rest
  .have ab:id=j:=ii
   subst ab;rw[qh ii]at S;refine⟨(o2,i+1),i7,⟨i4,?_⟩,i4⟩
   try dsimp only
   rw[tw,<-E,<-hQ];exact S.aJ 8 [0,1,2,3,4]
 .have ab:i=c.length:=ii
  subst ab;obtain⟨ys,H5⟩:=H4.Hr 1 rfl λ_=>rfl;exact⟨o,ys,hZ,H5.aJ 5 [0,1]⟩
end
def kY(a:Nat)(l:List (Int×aL))(k:Int):Int:=(a:Int)+hY (l.filter λy=>decide (y.1=k))
theorem Za(k:Int)(c d:eS)(a:Nat)(r:Sl)(u:List (Int×Sl))(l:List (Int×aL))(h:f7)(A:a<=2^30)(I:hY l<=2^30)(t:bQ h c 3 [xJ xP a])(q:bQ h d 96 [r])(o:oh mS 2 piv h r u l):
  ai xT 80 #[xJ xP k,xL (dB c),xL (dB d)] h λv h'=>v=xJ xP (kY a l k)/\Sp h h' []:=by
 refine ts Tryz.func80 ?_ (v7 (v7 (wj [(5,aU),(11,aU)] [(5,6),(7,8),(11,22)]))) (args:=[(k:Int),c,d]);have B:=o.1.len;have D:=o.2.1;refine⟨(a:Int),t.cell0 hZ,r,q.cell0 hZ,?_⟩;refine aq (λi:Nat=>(kY a (l.take i) k,(i:Int))) (λi h'=>i<=hY l/\Sp h h' []) (λi=>hY l-i) 0 (by simp[kY]) ⟨ii,Sp.refl h⟩ ?_;rintro i E ⟨H,s⟩
 try dsimp only
 have x:(hY ((l.take i).filter λy=>decide (y.1=k)):Int)<=i:=by have:=qU (λy:Int×aL=>decide (y.1=k)) (l.take i);simp at this;omega
 refine af (λe=>?_) λe=>?_
 .have f:i<hY l:=ii
  have m:=oh.up o s.ac;refine m.1.de (g:=piv) i hZ ii (u[i]'ii) hZ ?_;refine s.alloc ae hZ λF G z=>?_;refine z.storeAll ae 0 hZ hZ (piv (u[i]'ii)) hZ hZ hZ hZ λh3 p=>?_;have j:=Fix.row m f;have b:kY a (l.take (i+1)) k=kY a (l.take i) k+(if l[i].1=k then 1 else 0):=by
   unfold kY;rw[aE _ _ f,zm,qw,zr,vl];split
   .rename_i w;rw[f8 (hU w)];simp;omega
   .rename_i w;rw[f9 pt];simp
  refine⟨l[i].1,by rw[<-j.1];exact(p.box 0 hZ).cell0 hZ,aX (λg=>?_) λg=>?_⟩
  .refine⟨i+1,?_,⟨ii,.zip p.ac⟩,ii⟩;rw[b,f8 g,ag (kY a (l.take i) k+1) (by unfold kY;omega) (by unfold kY;omega),ag _];rfl
  .refine⟨i+1,?_,⟨ii,.zip p.ac⟩,ii⟩;rw[b,f9 g,Int.add_zero,ag _];rfl
 .rw[qh ii];exact⟨hZ,s⟩
def di(m:ak)(offs:Int)(w:Pow)(ds:aD)(name:ByteArray)(b:aL):Int×ak×Pow×aD:=
 if dY m (dE w offs) ds name b.length≠0 then(dY m (dE w offs) ds name b.length,m,w,ds)else
 match cV m.p m.next (splitB m.p b).length with
 |none=>(8,m,w,ds)
 |some t=>
  let live:=aR ds m.drives;let l:=fj m m.next t (splitB m.p b) live (splitB m.p b).length;let n:=fB m ⟨name,m.next,hY b,t⟩;let N:=kY (aP n).length l
  if dS m ds live N=eH then(7,m,w,ds)else
  if(makes m N live w ds).1≠0 then((makes m N live w ds).1,m,(makes m N live w ds).2)else
  let a:=layAll l (makes m N live w ds).2.1 (makes m N live w ds).2.2
  if a.1≠0 then(a.1,m,a.2)else
  ((layAll (bM n live) a.2.1 a.2.2).1,if(layAll (bM n live) a.2.1 a.2.2).1=0 then n else m,(layAll (bM n live) a.2.1 a.2.2).2)
theorem nv{m:ak}{d:Bool}{ds:aD}{name:ByteArray}{n:Nat}(h:dY m d ds name n=0):
  d=eH/\lC name=ez/\m.objs.any (gu name)=eH/\¬(m.p.1*m.p.2.2*8<(n:Int)∨12<=hY m.objs)/\¬(aR ds m.drives=[]∨16777215<m.next∨2147483647<=m.seq):=by
 unfold dY at h;split at h
 .cases h
 .rename_i a;split at h
  .cases h
  .rename_i e;split at h
   .cases h
   .rename_i h3;split at h
    .cases h
    .rename_i b;split at h
     .cases h
     .rename_i c;exact⟨j5,lc,by simpa using h3,b,c⟩
theorem Gp{m:ak}{b:aL}(a:bK m.p=ez)(h:¬m.p.1*m.p.2.2*8<(hY b:Int)):hY (splitB m.p b)<=8:=by obtain⟨d,e,c⟩:=lS a;obtain⟨g,f,c3⟩:=mF a b.length;unfold splitB;rw[qu,zC];refine Nat.le_of_not_lt λh8=>?_;have:=c3 8 ii;rw[<-c]at h;omega
theorem ahP{o:az}(b:o≠[])(id:Nat):fS o id∈o:=by
 unfold fS JB;rw[f9 (by rintro(h|h);exact b h;omega)];have c:0<hY o:=by cases o with|nil=>exact absurd rfl b|cons=>simp
 have a:((id:Int)%(hY o:Int)).toNat<hY o:=by have:=wv (id:Int) (show(0:Int)<hY o by omega);have:=w9 (id:Int) (show(hY o:Int)≠0 by omega);omega
 rw[qd,qc a];exact qf a
theorem PX{m:ak}{o:Int}{tries:az}{j:bH}{live:az}(s:0<=o/\o<=16777215)(q:live≠[])(e:∀k∈live,0<=k/\k<64){n:Nat}(r:n<=8){y:Int×aL}(d:y∈fj m o tries j live n):y.1∈live/\y.2.length<=64:=by
 unfold fj at d;obtain⟨i,g,d⟩:=List.mem_flatMap.1 d;have g:=qz.1 g;unfold nu at d;obtain⟨id,_,rfl⟩:=qo.1 d;refine⟨?_,?_⟩
 .show fS _ _∈live;have c:dM o i live=sV ((8*o+i)%64).toNat live:=by unfold dM;rw[f8 ii]
  have b:∀a,a∈dM o i live↔a∈live/\0<=a/\a<64:=λa=>by rw[c];exact Fg _ _ _
  have f:dM o i live≠[]:=λh=>by
   cases live with
   |nil=>exact q hZ
   |cons a l=>
    have:=(b a).2 ⟨qF,e a qF⟩;rw[h]at this;cases this
  exact((b _).1 (ahP f id)).1
 .show(cF _).length<=64;unfold cF;split
  .rename_i p;refine xv (mJ i0 i0 ?_);have:=oZ p;omega
  .simp
theorem afD{m:ak}{e:Qw.cb}(b:cC m)(g:m.objs.length<=11)(d:e.name.size<=2^30)(c:e.tries.length<=2^30):cC (fB m e):=by
 refine⟨b.dr,?_,λf a=>?_⟩
 .show((m.objs++[e]).mergeSort tW).length<=2^30;rw[wy];simp;omega
 .have a:f∈(m.objs++[e]).mergeSort tW:=a;rcases qt.1 ((wX _ _).mem_iff.1 a)with h|h
  .exact b.nm f h
  .rw[qp.1 h];exact⟨d,c⟩
section
variable {pw:eS}
theorem act(x:bh)(m:ak)(name:ByteArray)(s:Sl)(b:aL)(hS:St B h0 As λh=>Rd h s 1 aB b)(cl:s.len<=s.cap)(hn:name.size<=2^40)(S:cC m)(hp:bK m.p=ez)(bq:0<=m.extra/\m.extra<=16)(cq:∀k∈m.drives,0<=k/\k<64)(dd:m.drives.length<=64)(b5:0<=m.seq)(a3:0<=m.next)(c1:b.length<=2^20)
  (H:aa B h0 h (bf bi a pw (aM x) offs da w ds::bI x m::As)):
  ai xT 33 #[xL (dB a),xM name,s] h λv h'=>v=xJ xP (di m offs w ds name b).1/\
   ∃y,aa B h0 h' (bf bi a pw (aM y) offs da (di m offs w ds name b).2.2.1 (di m offs w ds name b).2.2.2::bI y (di m offs w ds name b).2.1::As):=by
 refine ts Tryz.func33 ?_ (v7 (v7 (v7 (ws [(9,cM),(10,ka)] [(9,11),(34,53)] (v7 (v7 (v7 (v7 (ws [(12,(.sc .adr)),(13,cM)] [(12,14),(66,74)] u9))))))))) [(12,(.y [0,1,2,3,4,6] (.y [5] (.l [7,8,9,10]) (.l [8,7,9,10])) (.l [8,5,7,9,10])))];have ao:=(hS.at [_,_] H).len;refine(PN x m name s b.length ao hn (H.at 1 hZ) S hp H).xc λh1 R1=>?_;have H1:=H.up R1.ac;refine⟨_,hZ,bA (λe=>?_) λe1=>?_⟩
 .have ep:di m offs w ds name b=(dY m (dE w offs) ds name b.length,m,w,ds):=by unfold di;rw[f8 e]
  rw[ep];exact⟨hZ,x,H1⟩
 obtain⟨z1,z2,z3,z4,z5⟩:=nv e1;have cf:¬m.p.1*m.p.2.2*8<(b.length:Int):=λh=>z4 (.inl h);have bk:m.objs.length<=11:=by have:¬12<=m.objs.length:=λh=>z4 (.inr h);omega
 have c4:aR ds m.drives≠[]:=λh=>z5 (.inl h);have b0:m.next<=16777215:=by have:¬16777215<m.next:=λh=>z5 (.inr (.inl h));omega
 have d5:m.seq<=2147483646:=by have:¬2147483647<=m.seq:=λh=>z5 (.inr (.inr h));omega
 have h8:=Gp hp cf;have dp:name.size<=12:=by unfold lC at z2;simp at z2;omega
 have ca:=(aa.cE H1).2;have a5:cR h1 x m:=H1.at 1 hZ;refine⟨a,hZ,x.2.1,ca.cell hZ,H1.alloc ae hZ λa4 h2 H2=>?_⟩;have H2:=H2.aZ;refine H2.storeAll ae 0 hZ hZ (bY (name,x.2.1,(s.len:Int),⟨et,0,0⟩)) hZ hZ hZ hZ λh3 H3=>?_;have H3:aa B h0 h3 (aj a4 111 (bY (name,m.next,(b.length:Int),⟨et,0,0⟩))::bf bi a pw (aM x) offs da w ds::bI x m::As):=by rw[<-a5.next,<-ao];exact H3
 have cp:∀{h':f7},bQ h' a 127 (bS (aM x) pw offs da)->bj h' (a.add 2) 0 [xJ xP m.p.1,xJ xP m.p.2.1,xJ xP m.p.2.2]:=λ{h'} hb=>by
  rw[<-a5.p];exact⟨j6,j6,j6,x7⟩
 obtain⟨L,J⟩:=x6 ((splitB m.p b).length)
 have a9:countP m.p (s.len:Nat)=(L:Int):=by have:=(mF hp b.length).1;rw[J,ao];unfold splitB;rw[qu,zC];omega
 refine bB (λ(t:Sl×Bool) h'=>(cV m.p m.next L=et->t.2=eH/\aa B h0 h' (bf bi a pw (aM x) offs da w ds::bI x m::As))/\(∀l,cV m.p m.next L=dB l->t.2=ez/\aa B h0 h' (an 3 t.1 1 aw l::aj a4 111 (bY (name,m.next,(b.length:Int),⟨et,0,0⟩))::bf bi a pw (aM x) offs da w ds::bI x m::As))) ?_ ?_
 .have c2:=H3.box 0 hZ;have Z:=(aa.cE (H3.aJ 3 [1,0,2])).2;refine⟨a,hZ,m.p,cp Z,m.next,c2.cell hZ,a,hZ,m.p,cp Z,(pU m.p s.len h3).xc λh4 R4=>?_⟩;have H4:=H3.up R4.ac;have b1:=Z.ac R4.ac Z.lt;obtain⟨q1,q2,q3,_⟩:=cp b1;refine⟨_,hZ,⟨(H4.box 0 hZ).cell hZ,q1,q2,q3,x7⟩,?_⟩;rw[a9];refine(VL m.p m.next L h4 ii).mono ?_;rintro _ h5 ⟨T0,T1⟩;cases ht:cV m.p m.next L with
  |none=>
   obtain⟨rfl,R5⟩:=T0 ht;exact⟨(⟨et,0,0⟩,eH),hZ,x7,λ_=>⟨hZ,(H4.up R5.ac).aJ 3 [1,2]⟩,λl h=>j8⟩
  |some l=>
   obtain⟨r,rfl,R5⟩:=T1 l ht;exact⟨(r,ez),hZ,x7,λh=>j8,λl' h=>(by injection h with h;subst h;exact⟨hZ,H4.ci R5⟩)⟩
 rintro⟨tr,tb⟩ h6 ⟨T0,T1⟩;dsimp only at T0 T1⊢;cases ht:cV m.p m.next L with
 |none=>
  obtain⟨rfl,H6⟩:=T0 ht;have ep:di m offs w ds name b=(8,m,w,ds):=by unfold di;rw[f9 ln,<-J,ht]
  rw[ep];exact aW (λ_=>⟨hZ,x,H6⟩) λe=>jj
 |some t=>
  obtain⟨rfl,H6⟩:=T1 t ht;refine aW (λe=>jj) λ_=>?_;have ed:=jR ht;refine H6.store ae 1 hZ hZ 3 [tr] hZ hZ hZ i6 λh7 H7=>?_;obtain⟨e,he⟩:∃e:Qw.cb,e=⟨name,m.next,b.length,t⟩:=⟨_,rfl⟩
  have H7:aa B h0 h7 (an 3 tr 1 aw e.tries::aj a4 111 (bY (name,m.next,(b.length:Int),tr))::bf bi a pw (aM x) offs da w ds::bI x m::As):=by rw[he];exact H7
  have H7:=H7.aJ 4 [2,3,0,1];have b6:St B h0 (bI x m::an 3 tr 1 aw e.tries::aj a4 111 (bY (name,m.next,(b.length:Int),tr))::As) λh=>cR h x m/\eu gV h (name,m.next,(b.length:Int),tr) e/\Rd h s 1 aB b:=λBs h' f=>
   ⟨(St.ey 0 hZ λ_ j=>j) Bs h' f,(St.ey (A:=an 3 tr 1 aw e.tries) (Q:=λh=>eu gV h (name,m.next,(b.length:Int),tr) e) 1 hZ λh' j=>⟨by rw[he];exact⟨hZ,hZ,hZ⟩,j.1.seq (λ_=>rfl) j.2⟩) Bs h' f,(hS.cons.cons.cons) Bs h' f⟩
  refine⟨(name,m.next,(b.length:Int),tr),(H7.box 3 hZ).aA _ hZ,?_⟩;refine(Nl x m (name,m.next,(b.length:Int),tr) e s b b6 cl S hp bq c1 (by rw[he,<-J];exact ht) H7).mono ?_;rintro _ d2 ⟨r,ys,rfl,H8⟩;obtain⟨live,c⟩:=x6 (aR ds m.drives)
  obtain⟨l,hl⟩:=x6 (fj m m.next t (splitB m.p b) live L)
  have b7:fj m e.object e.tries (splitB m.p b) (aR ds m.drives) (splitB m.p b).length=l:=by rw[hl,he,<-c,<-J]
  rw[b7]at H8;refine⟨(r,ez),hZ,H8.alloc ae hZ λi h9 H9=>?_⟩;have H9:=H9.aZ;refine H9.storeAll ae 0 hZ hZ [r] hZ hZ hZ hZ λc6 D=>?_;refine aW (λe=>jj) λ_=>?_;obtain⟨n,Y⟩:=x6 (fB m e)
  have D:=(D.freeze 4 hZ λ_=>rfl).aJ 6 [4,1,3,2,0,5];have b2:((name,m.next,(b.length:Int),tr):dP).1=e.name/\((name,m.next,(b.length:Int),tr):dP).2.1=e.object/\((name,m.next,(b.length:Int),tr):dP).2.2.1=e.length:=by rw[he];exact⟨hZ,hZ,hZ⟩
  have I:∀{h':f7} {Cs:List HP},aa B h0 h' (td tr 1 aw e.tries::Cs)->cR h' x m->ai xT 79 #[dK x,PL (name,m.next,(b.length:Int),tr)] h' λv cd=>∃y:bh,v=dK y/\aa B h0 cd (bI y n::Cs):=λ{h' Cs} f hx'=>by
   rw[Y];exact YQ x m _ e hx' S ⟨b5,ii⟩ ⟨a3,ii⟩ bk b2 f
  have K:=(aa.cE (D.aJ 2 [1,0])).2;have O:=D.box 5 hZ;have a0:cR c6 x m:=D.at 2 hZ;refine bB (λ(t:eS×Sl) h'=>∃y,aa B h0 h' (bf bi a pw (aM x) offs da w ds::bI x m::dI mS 2 piv r ys l::aj i 96 [r]::aj t.1 85 (aM y)::bI y n::an 3 t.2 1 aw live::As)) ?_ ?_
  .refine⟨a,hZ,x,K.aA _ hZ,(name,m.next,(b.length:Int),tr),O.aA _ hZ,?_,?_⟩
   .refine(I D a0).x0 λy dx G=>?_;have G:=G.aJ 6 [1,2,3,4,0];refine⟨y,hZ,x7,?_,?_⟩
    .refine(fi x m (G.at 1 hZ) S G).x0 λF eh a1=>?_;rw[<-c]at a1;have b3:=G.ci a1;refine⟨F,hZ,x7,b3.alloc ae hZ λdr d9 ah=>⟨x7,?_⟩⟩;have ah:=ah.aZ;refine ah.storeAll ae 0 hZ hZ (aM y) hZ hZ hZ hZ λd4 c8=>⟨x7,y,?_⟩
     exact c8.aJ 7 [2,3,4,5,0,6,1]
    .refine G.alloc ae hZ λa22 ee X=>⟨x7,?_⟩
     have X:=X.aZ;have ad:=X.aJ 6 [1,2,3,4,5,0];refine(fi x m (ad.at 1 hZ) S ad).x0 λF ea ar=>?_;rw[<-c]at ar;have cr:=(X.ci ar).aJ 2 [1,0];refine⟨F,hZ,x7,cr.storeAll ae 0 hZ hZ (aM y) hZ hZ hZ hZ λec b4=>⟨x7,y,?_⟩⟩;exact b4.aJ 7 [2,3,4,5,0,6,1]
   .refine D.Ed ae hZ λd7 d6 bb R=>?_;have d:=K.ac bb K.lt;have E:=O.ac bb O.lt;refine⟨⟨E.cell0 hZ,E.cell hZ,E.cell hZ,E.cell hZ,d.cell0 hZ,d.cell hZ,d.cell hZ,d.cell hZ,d.cell hZ,d.cell hZ,d.cell hZ,d.cell hZ,x7⟩,?_⟩;have R:=(R.aZ).aJ 7 [1,0,2,3,4,5];refine(I R (R.at 3 hZ)).x0 λy d8 c9=>?_;have M:=c9.aJ 6 [2,3,4,5,0,1];refine⟨y,hZ,x7,(fi x m (M.at 1 hZ) S M).x0 λF ef a8=>?_⟩;rw[<-c]at a8;have c7:=(M.ci a8).aJ 7 [6,0,1,2,3,4,5];refine⟨F,hZ,x7,c7.storeAll ae 0 hZ hZ (aM y) hZ hZ hZ hZ λdu b9=>⟨x7,y,?_⟩⟩;exact b9.aJ 7 [2,3,4,5,0,6,1]
  rintro⟨am,F⟩ c5 ⟨y,W⟩;dsimp only at W⊢;have al:cC n:=by rw[Y];exact afD S bk (by rw[he];show name.size<=2^30;omega) (by rw[he];show t.length<=2^30;omega)
  have dj:n.drives=m.drives:=by rw[Y];rfl
  have d0:live.length<=64:=by rw[c];exact qQ (qU _ _) dd
  have o:∀k∈live,0<=k/\k<64:=λk hk=>by rw[c]at hk;exact cq k (qD.1 hk).1
  have a2:(m.p.1+m.extra).toNat<=32:=by have:=(bP m.p).1 hp;omega
  have ei:l.length<=256:=by rw[hl,xo];exact wA (show L<=8 by omega) a2
  have cn:∀z∈l,(0<=z.1/\z.1<64)/\z.2.length<=2^20:=λz ax=>by
   rw[hl]at ax;obtain⟨p1,p2⟩:=PX (m:=m) ⟨a3,b0⟩ (by rw[c];exact c4) o (show L<=8 by omega) ax;exact⟨o _ p1,qQ p2 i0⟩
  refine⟨y,(W.box 4 hZ).aA _ hZ,(mu y n c5 (W.at 5 hZ) al).x0 λpg dk ay=>?_⟩;have ab:=(aa.tj ay).1;have a6:=ke n al;obtain⟨pn,a7⟩:=x6 ((aP n).length)
  rw[<-a7]at ab a6;have cs:=W.up ay.ac;refine⟨pg,hZ,cs.alloc ae hZ λq d1 ap=>?_⟩;have ap:=ap.aZ;refine ap.storeAll ae 0 hZ hZ [xJ xP (pg.len:Int)] hZ hZ hZ hZ λc0 u=>?_;rw[ab]at u;have u:aa B h0 c0 (bf bi a pw (aM x) offs da w ds::bI x m::dI mS 2 piv r ys l::aj i 96 [r]::aj am 85 (aM y)::bI y n::an 3 F 1 aw live::aj q 3 [xJ xP (pn:Int)]::As):=u.aJ 8 [1,2,3,4,5,6,7,0];obtain⟨N,hN⟩:=x6 (kY pn l)
  obtain⟨T,P⟩:=x6 (bI x m::dI mS 2 piv r ys l::aj i 96 [r]::aj am 85 (aM y)::bI y n::an 3 F 1 aw live::aj q 3 [xJ xP (pn:Int)]::As)
  have tX:St B h0 T λh=>cR h x m:=by rw[P];exact St.ey 0 hZ λ_ j=>j
  have tF:St B h0 T λh=>oh mS 2 piv h r ys l:=by rw[P];exact St.ey 1 hZ λ_ j=>j
  have tB:St B h0 T λh=>bQ h i 96 [r]:=by rw[P];exact St.ey (A:=aj i 96 [r]) 2 hZ λ_ j=>j.1
  have tM:St B h0 T λh=>bQ h am 85 (aM y):=by rw[P];exact St.ey (A:=aj am 85 (aM y)) 3 hZ λ_ j=>j.1
  have tY:St B h0 T λh=>cR h y n:=by rw[P];exact St.ey 4 hZ λ_ j=>j
  have tL:St B h0 T λh=>Rd h F 1 aw live:=by rw[P];exact St.ey (A:=an 3 F 1 aw live) 5 hZ λ_ j=>j.1.seq (λ_=>rfl) j.2
  have tN:St B h0 T λh=>bQ h q 3 [xJ xP (pn:Int)]:=by rw[P];exact St.ey (A:=aj q 3 [xJ xP (pn:Int)]) 6 hZ λ_ j=>j.1
  have tT:St B h0 T λh=>NK 80 #[] #[xL (dB q),xL (dB i)] N live h:=λBs h' f k hk=>by
   rw[hN];exact Za k q i pn r ys l h' ii ii (tN Bs h' f) (tB Bs h' f) (tF Bs h' f)
  have fin:∀{h':f7} {z:bh} {w':Pow} {ds':aD},aa B h0 h' (bf bi a pw (aM x) offs da w' ds'::T)->aa B h0 h' (bf bi a pw (aM x) offs da w' ds'::bI x m::As):=λ{h' z w' ds'} f=>by
   rw[P]at f;exact f.aJ 8 [0,1]
  rw[<-P]at u;have ep:di m offs w ds name b=(if dS m ds live N=eH then(7,m,w,ds)else if(makes m N live w ds).1≠0 then((makes m N live w ds).1,m,(makes m N live w ds).2)else
    if(layAll l (makes m N live w ds).2.1 (makes m N live w ds).2.2).1≠0 then((layAll l (makes m N live w ds).2.1 (makes m N live w ds).2.2).1,m,(layAll l (makes m N live w ds).2.1 (makes m N live w ds).2.2).2)else
    ((layAll (bM n live) (layAll l (makes m N live w ds).2.1 (makes m N live w ds).2.2).2.1 (layAll l (makes m N live w ds).2.1 (makes m N live w ds).2.2).2.2).1,if(layAll (bM n live) (layAll l (makes m N live w ds).2.1 (makes m N live w ds).2.2).2.1 (layAll l (makes m N live w ds).2.1 (makes m N live w ds).2.2).2.2).1=0 then n else m,(layAll (bM n live) (layAll l (makes m N live w ds).2.1 (makes m N live w ds).2.2).2.1 (layAll l (makes m N live w ds).2.1 (makes m N live w ds).2.2).2.2).2)):=by
   rw[hN,a7,hl,Y,he,c];unfold di;rw[f9 ln,<-J,ht]
  rw[ep];refine(Jw 80 #[] #[xL (dB q),xL (dB i)] N x m F live kt (λBs h' f=>⟨tX Bs h' f,tT Bs h' f⟩) S (tL.at [_] u) ii o u).xc λdy br=>?_;have bd:=u.up br.ac;refine⟨_,hZ,aW (λg=>?_) λg=>?_⟩
  .rw[f8 g];exact⟨hZ,x,fin (z:=x) bd⟩
  rw[f9 (by rw[g];decide)];refine(Jx 80 #[] #[xL (dB q),xL (dB i)] N x m F live kt (λBs h' f=>⟨tX Bs h' f,tT Bs h' f,tL Bs h' f⟩) S ii o bd).xc λeb U=>?_;obtain⟨m1,bs⟩:=x6 (makes m N live w ds)
  rw[<-bs]at U⊢;refine⟨_,hZ,bA (λg2=>?_) λg2=>?_⟩
  .rw[f8 g2];exact⟨hZ,x,fin (z:=x) U⟩
  rw[f9 (by simpa using g2)];refine⟨r,(tB.at [_] U).cell0 hZ,(ET r ys l tF ii cn U).xc λd3 V=>?_⟩;obtain⟨r2,cc⟩:=x6 (layAll l m1.2.1 m1.2.2)
  rw[<-cc]at V⊢;refine⟨_,hZ,bA (λg3=>?_) λg3=>?_⟩
  .rw[f8 g3];exact⟨hZ,x,fin (z:=x) V⟩
  rw[f9 (by simpa using g3)];refine⟨y,(tM.at [_] V).aA _ hZ,(Jz x y n F live (λBs h' f=>⟨tY Bs h' f,tL Bs h' f⟩) al ii o V).xc λeg ⟨Q1,Q0⟩=>?_⟩;refine⟨_,hZ,hZ,?_⟩;by_cases g4:(layAll (bM n live) r2.2.1 r2.2.2).1=0
  .obtain⟨y2,bl⟩:=Q0 g4;rw[f8 g4];rw[P]at bl;exact⟨y2,bl.aJ 9 [0,1]⟩
  .rw[f9 g4];exact⟨x,fin (z:=x) (Q1 g4)⟩
end
theorem VT(n:Nat)(x:Int)(h:f7)(k:n<=2^30):ai xT 32 #[xJ xP n,xJ xP x] h λv h'=>∃(r:Sl) (l:aL),v=r/\l.length=n/\Sp h h' [an 5 r 1 aB l]:=by
 refine ts Tryz.func32 ?_ (v7 (v7 (wj [(5,cM),(6,aU)] [(5,25)])));refine aq (λt:Sl×Nat×aL=>(t.1,(t.2.1:Int))) (λt h'=>t.2.1<=n/\t.2.2.length=t.2.1/\Sp h h' [an 5 t.1 1 aB t.2.2]) (λt=>n-t.2.1) (⟨et,0,0⟩,0,[]) hZ ⟨i6,hZ,(Sp.refl h).nil 5 1 aB⟩ ?_;rintro⟨o,i,l⟩ j ⟨p,g,a⟩;dsimp only at*;refine af (λe=>?_) λe=>?_
 .have b:i<n:=ii
  refine⟨i0,Int.tmod_nonneg _ ii,?_⟩;rw[fg];generalize b8 (qe xP _)=c;refine a.push ae 0 hZ gN hZ i0 (λ_=>rfl) ic c hZ i0 ii λf m d=>?_;refine⟨(f,i+1,l++[c]),i7,⟨i4,?_,d⟩,i4⟩;simp[g]
 .exact⟨o,l,hZ,ii,a⟩
variable {α:Type} {k:Nat} {f:α->aT} {L M:List (Sl×List α)}
theorem aa.acu(H:aa B h0 h (iI k f L::iI k f M::As)):aa B h0 h (iI k f (L++M)::As):=by
 have g:=H.jw;refine g.eW 0 hZ λq ⟨j,i,_,b,c,d,e⟩ y a=>?_;rcases qt.1 a with a|a
 .exact(e y a).mono c
 .exact(d y a).mono b
def Db(o b:Int)(a:List cU):List (Int×aL):=(a.filter λr=>decide (r.object=o)&&decide (r.block=b)).map λr=>(r.id,r.data)
def xU(m:ak)(o b:Int)(l:bH):List (Int×aL):=((dQ m l).filter λr=>decide (r.object=o)&&decide (r.block=b)).map λr=>(r.id,r.data)
def il(m:ak)(ds:aD)(o b:Int)(k:Int):List (Int×aL):=match aH ds k with|some d=>xU m o b d.l|none=>[]
def eG(m:ak)(ds:aD)(a:az)(o b:Int):List (Int×aL):=a.flatMap (il m ds o b)
abbrev ajm:bL C.toBH 140 205 2 [xJ xP 0,xK et 0 0] 32:=⟨_,_,hZ,hZ,hZ,hZ,hZ,hZ⟩
def VU(pool:List (Sl×aL))(p:(Int×Sl)×(Int×aL)):Prop:=p.1.1=p.2.1/\(p.1.2,p.2.2)∈pool
variable {mc:aT}
section
variable {pw:eS}
theorem xV(x:bh)(m:ak)(s:Sl)(f:az)(o b:Int)(hx:cR h x m)(hz:cC m)(hs:Rd h s 1 aw f)(hl:f.length<=2^10)(hd:∀k∈f,∃d,aH ds k=dB d)(H:aa B h0 h (bf bi a pw mc offs da w ds::As)):
  ai xT 87 #[.func (.func 56) #[xL (dB a)] #[],s,dK x,xJ xP o,xJ xP b] h λv h'=>∃(r:Sl) (ys:List (Int×Sl)),v=r/\Sp h h' [dI mS 2 piv r ys (eG m ds f o b)]:=by
 refine ts Tryz.func87 ?_ (v7 (v7 (u7 (v7 (v1 (v2 [(11,cM),(18,aU)] [(11,12),(13,14),(15,16),(18,52)] (v7 (v7 (u7 (v1 (v7 (ws [(26,cM),(27,aU),(28,aU)] [(22,29)] (v1 (v2 [(11,cM),(28,aU)] [(11,12),(15,16),(28,51)] u9))))) u9)))))) u9))) [(5,(.l [0,1,3,6,2,4,5]))] (args:=[(.func (.func 56) #[xL (dB a)] #[]),s,x,(o:Int),(b:Int)]);have a8:=hs.len;refine(Sp.refl h).boxed λa1 X H1=>?_;have H1:=((H1.KW 1 aB).nil 205 2 piv).bt [2,0,1];refine aq (λt:Sl×Nat×List ((Int×Sl)×(Int×aL))×List (Sl×aL)=>(t.1,(t.2.1:Int))) (λt h'=>t.2.1<=f.length/\t.2.2.1.length<=t.2.1*512/\t.2.2.1.map zi=eG m ds (f.take t.2.1) o b/\(∀p∈t.2.2.1,VU t.2.2.2 p)/\Sp h h' [an 205 t.1 2 piv (t.2.2.1.map qE),iI 1 aB t.2.2.2,aj a1 85 (aM x)]) (λt=>f.length-t.2.1) (⟨et,0,0⟩,0,[],[]) hZ ⟨i6,i6,by simp[eG],i6,H1⟩ ?_;rintro⟨u,i,L,P⟩ h2 ⟨hi,a7,K,V,Y⟩;dsimp only at*;refine af (λe=>?_) λe=>?_
 .have T:i<f.length:=ii
  refine(Seq.up hs Y.ac).bo i hZ T f[i] hZ (aG ?_);obtain⟨d,F⟩:=hd f[i] (qf T);have Hc:=H.up Y.ac;obtain⟨ok,hb⟩:=aa.cE Hc;have A:=Y.box 2 hZ;refine⟨x,A.aA _ hZ,dV kt ?_⟩;refine(mM f[i] ok hb).mono ?_;rintro _ h3 ⟨rfl,rfl⟩;refine⟨_,hZ,⟨A.cell0 hZ,A.cell hZ,A.cell hZ,A.cell hZ,A.cell hZ,A.cell hZ,A.cell hZ,A.cell hZ,x7⟩,?_⟩;rcases oS ok f[i]with⟨c1,c2⟩|⟨n,d',bb,c0,c1,c2,c3,c4,c5⟩
  .rw[F]at c1;cases c1
  have ah:d=d':=by rw[c3]at F;injection F with F;exact F.symm
  subst ah;rw[c5];obtain⟨a3,E,H3⟩:=Qw.aa.kV Hc c2;rw[c4]at E;injection E with E
  injection E with E
  subst E;obtain⟨W,sd,bd,al⟩:=aa.pT H3;have a2:=W.len;have ay:=W.room;refine(uZ bb pw d sd bd x m h3 (al.box 0 hZ) ((al.aJ 2 [1]).uG λ_=>rfl) W (hx.up Y.ac) hz).mono ?_;rintro _ h4 ⟨r7,M,rfl,R4⟩;have ar:=po m d.l;obtain⟨c,G⟩:=x6 (dQ m d.l)
  rw[<-G]at R4 ar;have H4:=(Y.ci R4).aJ 4 [1,2,0,3];have F4:=H4.eC 2 hZ;have a5:=F4.2.1;have a4:=F4.1.len;refine⟨r7,hZ,x7,?_⟩;have Z:il m ds o b f[i]=Db o b c:=by unfold il;rw[F];show xU m o b d.l=_;unfold xU Db;rw[G]
  have U:eG m ds (f.take (i+1)) o b=eG m ds (f.take i) o b++Db o b c:=by unfold eG;rw[aE _ _ T,q9,zb,z6,qG,Z]
  obtain⟨Q,hQ⟩:∃Q:List (Sl×aL),Q=(M.zip c).map λz=>(z.1.2.2.2.2.2.2.2,z.2.data):=⟨_,rfl⟩
  refine aq (λt:Sl×Nat×List ((Int×Sl)×(Int×aL))=>(t.1,(t.2.1:Int))) (λt h'=>t.2.1<=c.length/\t.2.2.length<=L.length+t.2.1/\t.2.2.map zi=eG m ds (f.take i) o b++Db o b (c.take t.2.1)/\(∀p∈t.2.2,VU (P++Q) p)/\Sp h h' [an 205 t.1 2 piv (t.2.2.map qE),iI 1 aB P,dI gD 8 cX r7 M c,aj a1 85 (aM x)]) (λt=>c.length-t.2.1) (u,0,L) hZ ⟨i6,i6,by simp[Db,K],λp O=>⟨(V p O).1,List.mem_append_left _ (V p O).2⟩,H4⟩ ?_;rintro⟨u2,j,L2⟩ h5 ⟨hj,a6,N,S,H5⟩;dsimp only at*;have F5:=H5.eC 2 hZ;refine af (λe2=>?_) λe2=>?_
  .have ad:j<c.length:=ii
   have ab:=Fix.row F5 ad;obtain⟨⟨g1,g2,g3,g4,g5,g6,g7⟩,g8⟩:=ab;refine F5.1.de (g:=cX) j hZ ii (M[j]'ii) hZ ?_;refine H5.alloc ae hZ λbk h6 H6=>?_;refine H6.storeAll ae 4 hZ hZ (cX (M[j]'ii)) hZ hZ hZ hZ λh7 H7=>?_;have J:=H7.box 4 hZ;have R:Db o b (c.take (j+1))=Db o b (c.take j)++(if(decide (c[j].object=o)&&decide (c[j].block=b))=ez then[(c[j].id,c[j].data)]else[]):=by unfold Db;rw[aE _ _ ad,zm,qN,zr,vl];split<;>rfl
   have skip:(decide (c[j].object=o)&&decide (c[j].block=b))=eH->∃I:Sl×Nat×List ((Int×Sl)×(Int×aL)),((⟨u2.ptr,u2.len,u2.cap⟩:Sl),qe xP ((j:Int)+1))=(I.1,(I.2.1:Int))/\(I.2.1<=c.length/\I.2.2.length<=L.length+I.2.1/\I.2.2.map zi=eG m ds (f.take i) o b++Db o b (c.take I.2.1)/\(∀p∈I.2.2,VU (P++Q) p)/\Sp h h7 [an 205 I.1 2 piv (I.2.2.map qE),iI 1 aB P,dI gD 8 cX r7 M c,aj a1 85 (aM x)])/\c.length-I.2.1<c.length-j:=λhc=>
    ⟨(u2,j+1,L2),i7,⟨i4,i4,by dsimp only;rw[R,hc];simpa using N,S,H7.bt [0,1,2,3]⟩,i4⟩
   refine⟨c[j].object,by rw[<-g1];exact J.cell0 hZ,aX (λq1=>?_) λq1=>skip (by rw[g9 q1];rfl)⟩;refine⟨c[j].block,by rw[<-g2];exact J.cell hZ,aX (λq2=>?_) λq2=>skip (by rw[g9 q2,Bool.and_false])⟩;refine⟨c[j].id,by rw[<-g3];exact J.cell hZ,(M[j]'ii).2.2.2.2.2.2.2,J.cell hZ,?_⟩;refine H7.push ae 0 hZ ajm hZ i0 (λ_=>rfl) KZ (c[j].id,(M[j]'ii).2.2.2.2.2.2.2) js i0 i5 λu3 a9 ap=>?_;refine⟨(u3,j+1,L2++[((c[j].id,(M[j]'ii).2.2.2.2.2.2.2),(c[j].id,c[j].data))]),i7,⟨i4,i5,?_,λp O=>?_,?_⟩,i4⟩
   .try dsimp only
    rw[qN,N,R,f8 (by rw[g0 q1,g0 q2];rfl),qn];rfl
   .rcases qt.1 O with O|O
    .exact S p O
    .rw[qp.1 O];refine⟨hZ,List.mem_append_right _ ?_⟩;rw[hQ];refine qo.2 ⟨(M[j]'ii,c[j]),?_,hZ⟩;rw[<-yS (h:=by simp;omega)];exact qf _
   .try dsimp only
    rw[qN];exact ap.bt [0,1,2,3]
  .have ax:j=c.length:=ii
   subst ax;rw[qM,<-U]at N;have a0:=F5.2.1;have H6:=(H5.eW 2 hZ (D:=iI 1 aB Q) λq hq y hy=>by
    rw[hQ]at hy;obtain⟨z,am,rfl⟩:=qo.1 hy;obtain⟨k,hk,rfl⟩:=qB am;have ao:k<c.length:=by simp at hk;omega
    have:=(Fix.row hq ao).2;rw[yS];exact this).bt [1,2,0,3]
   have H7:=aa.acu H6;refine⟨(u2,i+1,L2,P++Q),i7,⟨i4,i4,N,S,H7.bt [1,0,2]⟩,i4⟩
 .rw[qh ii]at K;refine⟨u,L.map qE,hZ,?_⟩;have H3:=((Y.freeze 0 hZ λ_=>rfl).bt [1,0]).jw;refine H3.eW 0 hZ λq ⟨q1,q2,_,bq,cq,z1,z2⟩=>?_;refine⟨z1.mono bq,by rw[<-K];simp,λj r e X h2=>?_⟩;rw[<-K]at h2;rw[qO]at X h2;cases hj:L[j]? with
  |none=>rw[hj]at X;cases X
  |some p=>
   rw[hj]at X h2;have e1:=zX.inj (show dB p.1=dB r from X);have e2:=zX.inj (show dB p.2=dB e from h2);subst e1;subst e2;obtain⟨k1,k2⟩:=V p (List.mem_of_getElem? hj);exact⟨k1,(z2 _ k2).mono cq⟩
end
def eI(m:ak)(ds:aD)(o b:Int)(live:az):cg:=live.map λk=>(eG m ds [k] o b).map qE
abbrev ahQ:bL C.toBH 181 22 1 [xK et 0 0] 24:=⟨_,_,hZ,hZ,hZ,hZ,hZ,hZ⟩
section
variable {pw:eS}
theorem afE{k:Int}{l:az}(h:k∈aR ds l):∃d,aH ds k=dB d/\d.lost=eH:=by
 have h:=(qD.1 h).2;unfold isLive at h;cases hd:aH ds k with
 |none=>rw[hd]at h;cases h
 |some d=>rw[hd]at h;exact⟨d,hZ,j4⟩
theorem Dc(m:ak)(o b:Int)(l:bH):hY (xU m o b l)<=hY l:=by unfold xU;rw[qu];exact qQ (qU _ _) (po m l)
theorem VV(x:bh)(m:ak)(o b:Int)(Q:cR h x m)(X:cC m)(ap:hY m.drives<=64)(p:∀k d,aH ds k=dB d->hY d.l<=512)(H:aa B h0 h (bf bi a pw (aM x) offs da w ds::As)):
  ai xT 188 #[xL (dB a),xJ xP o,xJ xP b] h λv h'=>∃r:Sl,v=r/\Sp h h' [fy 22 r 3 1 aw (eI m ds o b (aR ds m.drives))]:=by
 refine ts Tryz.func188 ?_ (v7 (v7 (u7 (v7 (v1 (v2 [(7,cM),(16,aU)] [(7,8),(9,11),(12,13),(16,47)] (v7 (v7 (u7 (v1 (v7 (v7 (wj [(10,cM),(32,aU)] [(10,11),(12,13),(32,42)])))) u9)))))) u9)));refine(fi x m Q X H).x0 λO h1 L=>?_;have G:hY (aR ds m.drives)<=hY m.drives:=qU _ _;have y:∀k∈aR ds m.drives,∃d,aH ds k=dB d:=λk N=>by obtain⟨d,h,_⟩:=afE N;exact⟨d,h⟩
 obtain⟨live,c⟩:=x6 (aR ds m.drives)
 rw[<-c]at L G y⊢;have al:=(L.own 0 hZ).len;refine⟨O,hZ,?_⟩;have ar:hY (eI m ds o b live)=hY live:=by simp[eI]
 have H1:=L.Bf 22 3 1 aw;refine aq (λt:Sl×Nat=>(t.1,(t.2:Int))) (λt h'=>t.2<=hY live/\Sp h h' [fy 22 t.1 3 1 aw ((eI m ds o b live).take t.2),an 3 O 1 aw live]) (λt=>hY live-t.2) (⟨et,0,0⟩,0) hZ ⟨i6,H1⟩ ?_;rintro⟨u,i⟩ h2 ⟨hi,A⟩;dsimp only at*;refine af (λe=>?_) λe=>?_
 .have s:i<hY live:=ii
  refine(A.seq 1 hZ λ_=>rfl).bo i hZ s live[i] hZ ?_;refine A.lit ae aw gb hZ [live[i]] hZ (show 1*1<=2^20 by decide) hZ λq h3 D=>?_;have U:=H.up D.ac;have K:=(aa.cE U).2;refine⟨a,hZ,x,K.aA _ hZ,?_⟩;obtain⟨d,P⟩:=y live[i] (qf s);refine(xV x m q [live[i]] o b (Q.up D.ac) X (D.seq 2 hZ λ_=>rfl) i6 (λk N=>by rw[qp.1 N];exact⟨d,P⟩) U).mono ?_;rintro _ h4 ⟨T,M,rfl,V⟩;obtain⟨S,f⟩:=x6 (eG m ds [live[i]] o b)
  have ad:hY S<=512:=by rw[f];unfold eG il;rw[zb,z6,qG,P];exact qQ (Dc _ _ _ _) (p _ _ P)
  rw[<-f]at V;have E:=(D.ci V).aJ 4 [1,2,0];have Y:=E.eC 2 hZ;have ao:=Y.2.1;have ah:=Y.1.len;refine⟨T,hZ,?_⟩;have E:=(E.nil 3 1 aw).bt [3,0,1,2];refine aq (λt:Sl×Nat=>(t.1,(t.2:Int))) (λt h'=>t.2<=hY S/\Sp h h' [an 3 t.1 1 aw ((S.map qE).take t.2),fy 22 u 3 1 aw ((eI m ds o b live).take i),an 3 O 1 aw live,dI mS 2 piv T M S]) (λt=>hY S-t.2) (⟨et,0,0⟩,0) hZ ⟨i6,E⟩ ?_;rintro⟨u2,j⟩ h5 ⟨hj,F⟩;dsimp only at*;have W:=F.eC 3 hZ;refine af (λe2=>?_) λe2=>?_
  .have J:j<hY S:=ii
   have z:=Fix.row W J;refine W.1.de (g:=piv) j hZ ii (M[j]'ii) hZ ?_;refine F.alloc ae hZ λam h6 H6=>?_;refine H6.storeAll ae 4 hZ hZ (piv (M[j]'ii)) hZ hZ hZ hZ λh7 R=>?_;refine⟨S[j].1,by rw[<-z.1];exact(R.box 4 hZ).cell0 hZ,?_⟩;refine R.push ae 0 hZ gb hZ i0 (λ_=>rfl) fd S[j].1 hZ i0 i5 λu3 h9 H9=>?_;refine⟨(u3,j+1),i7,⟨i4,?_⟩,i4⟩
   try dsimp only
   rw[aE _ _ (show j<hY (S.map qE) by simp;omega),z8];exact H9.bt [0,1,2,3]
  .rw[qh i5]at F;refine(F.aJ 2 [1,0]).Cp ae ahQ i5 λu3 ab I=>?_;refine⟨(u3,i+1),i7,⟨i4,?_⟩,i4⟩
   try dsimp only
   rw[aE _ _ (show i<hY (eI m ds o b live) by omega)];have Z:(eI m ds o b live)[i]'ii=S.map qE:=by simp[eI,f]
   rw[Z];exact I.bt [0,1]
 .rw[qh ii]at A;exact⟨u,hZ,A.bt [0]⟩
end
def Pow.calm(w:Pow):Prop:=w.off=eH/\w.fuse=et
theorem gI:Pow.new.calm:=⟨hZ,hZ⟩
theorem md{w:Pow}(h:w.calm):w.step=(ez,w):=by unfold Pow.step;rw[f9 (by simp[h.1]),h.2]
theorem GQ{w:Pow}(h:w.calm)(ds:aD)(x:Int)(b:aL):(gn w ds x b).2.1=w:=by
 unfold gn;cases aH ds x with
 |none=>rfl
 |some d=>
  try dsimp only
  unfold ba.append;split
  .rfl
  .split
   .rfl
   .split
    .rfl
    .split
     .rfl
     .rw[md h];rfl
theorem Mo{w:Pow}(h:w.calm)(ds:aD)(x:Int):(go w ds x).2.1=w:=by
 unfold go;cases aH ds x with
 |none=>rfl
 |some d=>
  try dsimp only
  unfold ba.sync;split
  .rfl
  .rw[md h];rfl
theorem rc{w:Pow}(h:w.calm):∀(l:List (Int×aL)) (ds:aD),(lJ l w ds).2.1=w
 |[],_=>rfl
 |x::l,ds=>by
  rw[uI,GQ h];split
  .exact rc h l _
  .exact GQ h _ _ _
theorem Dd{w:Pow}(h:w.calm):∀(l:az) (ds:aD),(eO l w ds).2.1=w
 |[],_=>rfl
 |x::l,ds=>by
  rw[pF,Mo h];split
  .exact Dd h l _
  .exact Mo h _ _
theorem acv{w:Pow}(h:w.calm)(l:List (Int×aL))(ds:aD):(layAll l w ds).2.1=w:=by
 unfold layAll
 try dsimp only
 rw[rc h];split
 .exact Dd h _ _
 .exact rc h _ _
theorem GR{w:Pow}{d:ba}{n:Nat}{b:aL}(h:w.calm)(a:d.lost=eH)(e:hY d.l+(n+1)<=d.room)(c:hY b=64):d.append w b=(0,w,{d with l:=d.l++[b],wait:=d.wait+1,laid:=[],has:=eH}):=by unfold ba.append;rw[f9 ii,f9 m5,f9 ii,f9 (by simp[h.1]),md h];rfl
theorem Zb{w:Pow}{d:ba}(h:w.calm)(a:d.lost=eH):d.sync w=(0,w,{d with wait:=0,laid:=[],has:=eH}):=by unfold ba.sync;rw[f9 m5,md h];rfl
theorem ahR{ds:aD}{s:Int}{d:ba}(h:aH ds s=dB d):0<=s/\s<64:=by obtain⟨n,rfl,a⟩:=mb h;omega
def JE(ds:aD)(P:List (Int×aL))(s:Int):Option ba:=
 (aH ds s).map λd=>{d with l:=d.l++(P.filter λx=>decide (x.1=s)).map zi,wait:=d.wait+hY (P.filter λx=>decide (x.1=s)),laid:=if(P.filter λx=>decide (x.1=s)).isEmpty then d.laid else[],has:=if(P.filter λx=>decide (x.1=s)).isEmpty then d.has else eH}
theorem Fh{w:Pow}(h:w.calm){S:az}:∀(P:List (Int×aL)) (ds:aD),Fit ds S (P.map qE)->(∀x∈P,x.1∈S/\x.2.length=64)->
  (lJ P w ds).1=0/\Fit (lJ P w ds).2.2 S []/\∀s,aH (lJ P w ds).2.2 s=JE ds P s
 |[],ds,F,_=>⟨hZ,F,λs=>by unfold JE;show aH ds s=_;cases aH ds s<;>simp⟩
 |x::P,ds,F,hP=>by
  obtain⟨d,g,k,m⟩:=F.at_ x.1 (hP x (qF ..)).1;rw[zR,List.count_cons_self]at m;have j:=(hP x (qF ..)).2;obtain⟨n,i,a⟩:=mb g;have f:=GR (n:=(P.map qE).count x.1) h k ii j;have e:gn w ds x.1 x.2=(0,w,cu ds x.1 {d with l:=d.l++[x.2],wait:=d.wait+1,laid:=[],has:=eH}):=by unfold gn;rw[g];(try dsimp only);rw[f]
  obtain⟨_,c⟩:=Nj w x.2 (x:=x.1) (Q:=P.map qE) F (hP x (qF ..)).1 j;rw[uI,e];rw[e]at c;dsimp only at c⊢;rw[f8 rfl];obtain⟨o,p,a3⟩:=Fh h P _ c λy q=>hP y (qA _ q);refine⟨o,p,λs=>?_⟩;rw[a3 s];unfold JE;rw[i,BX _ _ _ _ a F.len,<-i];by_cases b:s=x.1
  .rw[f8 b,b,g];simp only[qS,zr,decide_true,if_true,zR,za,qn,List.singleton_append,List.isEmpty_cons,Bool.false_eq_true,if_false];congr 1;simp only[ba.mk.injEq,true_and,and_true];refine⟨ii,?_,?_⟩<;>split<;>rfl
  .rw[f9 b];simp only[zr,decide_eq_true_eq,f9 (show¬x.1=s fromλr=>b r.symm)]
theorem De{w:Pow}(h:w.calm){S:az}:∀(l:az) (ds:aD),Fit ds S []->(∀x∈l,x∈S)->
  (eO l w ds).1=0/\Fit (eO l w ds).2.2 S []/\∀s,aH (eO l w ds).2.2 s=(aH ds s).map λd=>if s∈l then{d with wait:=0,laid:=[],has:=eH}else d
 |[],ds,F,_=>⟨hZ,F,λs=>by show aH ds s=_;cases aH ds s<;>simp⟩
 |x::l,ds,F,hl=>by
  obtain⟨d,f,i,o⟩:=F.at_ x (hl x (qF ..));obtain⟨n,g,a⟩:=mb f;have e:go w ds x=(0,w,cu ds x {d with wait:=0,laid:=[],has:=eH}):=by unfold go;rw[f];(try dsimp only);rw[Zb h i]
  obtain⟨_,b⟩:=Sb w F (hl x (qF ..));rw[pF,e];rw[e]at b;dsimp only at b⊢;rw[f8 rfl];obtain⟨j,k,a3⟩:=De h l _ b λy m=>hl y (qA _ m);refine⟨j,k,λs=>?_⟩;rw[a3 s,g,BX _ _ _ _ a F.len,<-g];by_cases c:s=x
  .subst c;rw[f8 hZ,f];simp only[qS,qT,true_or,if_true];congr 1;split<;>rfl
  .rw[f9 c];cases aH ds s with
   |none=>rfl
   |some d'=>simp[c]
section
variable {pw:eS}
end
section
variable {pw:eS}
end
end Go.Qw
