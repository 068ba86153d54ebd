/- Lemmas for the proof of the law; no condition. -/
import Derived.Test.YtfjdddcdkcbocaaGreatDoorKE
set_option maxHeartbeats 2000000
set_option linter.unusedVariables false
set_option maxHeartbeats 8000000
set_option linter.unusedSimpArgs false
open Go.Proofs.Tryz renaming prog -> xZ
open List renaming all_map -> xN, drop -> wW, findIdx_lt_length_of_exists -> wE, length_singleton -> wX, mem_append_left -> yM, mem_append_right -> yn, range -> qz, replicate -> qi, singleton_append -> xk, sum_cons -> xw, take -> yy, take_sublist -> vW
open Go.Value renaming agg -> xU, bool -> xT, int -> xP, pointer -> xR, slice -> xQ, string -> xS
open Go.IntKind renaming i64 -> xV, u32 -> xX, u64 -> xY, wrap -> qe
open Bool renaming and_true -> xv
open Prod renaming fst -> qF, snd -> zk
open Option renaming some -> wm
open Go.Builtin renaming append_ -> zb
set_option maxRecDepth 100000
open Option renaming some -> cO, none -> dB
open Bool renaming true -> eH, false -> eL
open Go renaming Addr -> fY
open Go.Qw renaming cellOf -> hU, Heap -> hY
open List renaming length -> n1
open Go.Qw.cT renaming two -> E8, n -> E9, inn -> F8, loop -> G0, join -> G6, tn -> G7, lp -> Hf, jn -> HF
namespace Go.Qw
open Go.Proofs
variable {m:aA} {ds:aG}
section
variable {C:Int->aS}
end
structure One (m0:aA) (name:ByteArray) (b:aS) (R c:Nat) (m:aA) (C:Int->aS) (ds:aG) (t:aD):Prop where
 objs:m.objs=[⟨name,m0.next,n1 b,t⟩]
 tl:n1 t=(splitB m0.p b).length
 p:m.p=m0.p
 extra:m.extra=m0.extra
 drives:m.drives=m0.drives
 sto:NA m C ds
 full:Full m C ds
 row:∀k d,bY ds k=cO d->d.wait=0/\d.room=R/\d.l.length<=27+c*(m0.p.1+m0.extra).toNat
 data:C m0.next=b
variable {B:au} {h0 h:hY} {As:List HP} {a:fY} {offs:Int} {da:List bK} {w:Pow}
section
variable {pw:fY}
end
variable {b:fY} {q:bK} {p:Pm}
section
variable {pw:fY} {C:Int->aS}
end
def sink:aD->Nat->aD
 |l,0=>l
 |l,i+1=>if eZ l (i+1)<eZ l i then sink (jb l (i+1) i) i else l
def sinks(l:aD):Nat->aD
 |0=>l
 |i+1=>sink (sinks l i) i
theorem NJ:∀(i:Nat) (l:aD),(sink l i).length=n1 l
 |0,l=>rfl
 |i+1,l=>by
   unfold sink;split;· rw[NJ i,pB]
   .rfl
theorem rS(l:aD):∀i,(sinks l i).length=n1 l
 |0=>rfl
 |i+1=>by rw[sinks,NJ,rS l i]
theorem sY{l:aD}{i:Nat}(h:i<n1 l):eZ l i=l[i]:=by rw[eZ,qg,qd h];rfl
theorem swap_perm(l:aD)(i:Nat)(h:i+1<n1 l):(jb l (i+1) i).Perm l:=by
 have e:l=l.take i++l[i]::l[i+1]::l.drop (i+2):=n9
 have f:jb l (i+1) i=l.take i++l[i+1]::l[i]::l.drop (i+2):=by
  rw[jb,sY (show i<n1 l by omega),sY h];apply zq;intro j;have a:(l.take i).length=i:=oo
  rw[qZ,qZ];by_cases g:i=j
  .grind
  .rw[m6 g];by_cases b:i+1=j
   .subst b;rw[l0 n2,l0 n3,ql n3,a];simp
   .rw[m6 b]
    conv=>lhs;rw[e]
    by_cases h3:j<i
    .rw[qw n3,qw n3]
    .rw[ql n3,ql n3,a];obtain⟨d,c⟩:∃d,j-i=d+2:=⟨j-i-2,n3⟩
     rw[c];rfl
 rw[f]
 conv=>rhs;rw[e]
 exact List.Perm.append_left _ (List.Perm.swap _ _ _)
theorem Ko:∀(i:Nat) (l:aD),i<n1 l->(sink l i).Perm l
 |0,l,_=>.refl _
 |i+1,l,h=>by
  unfold sink;split
  .exact(Ko i _ (by rw[pB];omega)).trans (swap_perm l i h)
  .exact .refl _
theorem HJ(l:aD):∀i,i<=n1 l->(sinks l i).Perm l
 |0,_=>.refl _
 |i+1,h=>(Ko i _ (by rw[rS];omega)).trans (HJ l i n3)
def acT(l:aD)(n:Nat):Prop:=∀a b,a<b->b<n->eZ l a<=eZ l b
theorem YA{l:aD}{i j k:Nat}(d:i<n1 l)(c:j<n1 l):eZ (jb l i j) k=if k=j then eZ l i else if k=i then eZ l j else eZ l k:=by
 simp only[eZ,jb,qg,qZ,qK];by_cases a:j=k
 .subst a;simp[c]
 .by_cases b:i=k
  .subst b;simp[a,d];omega
  .simp[a,b];omega
theorem QG(n:Nat):∀(i:Nat) (l:aD),i<n->n<=n1 l->(∀a b,a<b->b<n->a≠i->b≠i->eZ l a<=eZ l b)->(∀b,i<b->b<n->eZ l i<=eZ l b)->acT (sink l i) n
 |0,l,hi,hn,h1,h2=>λa b c d=>by
  unfold sink;by_cases e:a=0
  .subst e;exact h2 b c d
  .exact h1 a b c d e n3
 |i+1,l,hi,hn,h1,h2=>by
  unfold sink;split
  .rename_i p;have h:∀k,eZ (jb l (i+1) i) k=if k=i then eZ l (i+1)else if k=i+1 then eZ l i else eZ l k:=λk=>YA n3 n3
   refine QG n i _ n3 (by rw[pB];exact hn) (λa b c d e m=>?_) (λb d j=>?_)
   .rw[h,h,m6 e,m6 m];by_cases h3:a=i+1
    .rw[l0 h3,m6 n3];exact h1 i b n3 d n3 n3
    .rw[m6 h3];by_cases f:b=i+1
     .rw[l0 f];exact h1 a i n3 n3 h3 n3
     .rw[m6 f];exact h1 a b c d h3 f
   .rw[h,h,l0 n2,m6 n3];by_cases f:b=i+1
    .rw[l0 f];omega
    .rw[m6 f];exact h2 b n3 j
  .rename_i o;intro a b c d;by_cases g:b=i+1
   .subst g;by_cases e:a=i
    .subst e;omega
    .have:=h1 a i n3 n3 n3 n3;omega
   .by_cases e:a=i+1
    .subst e;exact h2 b c d
    .exact h1 a b c d e g
theorem NK(l:aD):∀i,i<=n1 l->acT (sinks l i) i
 |0,_=>λa b _ d=>n3
 |i+1,h=>by
  have f:=NK l i n3;rw[sinks];exact QG (i+1) i _ n3 (by rw[rS];omega) (λa b c d _ g=>f a b c n3) (λb d e=>n3)
theorem Pv{a b:aD}(g:a.Perm b)(f:a.Pairwise (·<=·))(d:b.Pairwise (·<=·)):a=b:=
 g.eq_of_pairwise (λx y _ _ e c=>Int.le_antisymm e c) f d
theorem Tq(l:aD):sinks l l.length=mq l:=by
 refine Pv ((HJ l _ (qk _)).trans (wo l _).symm) ?_ ?_
 .have:=NK l l.length (qk _);rw[zf];intro i j f e d;have g:=rS l l.length;have:=this i j d n3
  rwa [sY f,sY e]at this
 .have:=List.pairwise_mergeSort (le:=λx y:Int=>decide (x<=y)) (by intro a b c;simp;omega) (by intro a b;simp;omega) l;exact this.imp n9
theorem NL(a:fY)(s:Int)(n k:Nat)(h:hY)(R:bR h a 269 [xP xY s])(hn:n<=64)(hk:k<=n):
  an xZ 237 #[xR (cO a),xP xV n,xP xV k] h λv h'=>∃r:Sl,v=r/\aa (λb=>b<h.size/\¬b=a.block) h h' [aj a 269 [xP xY (dY n s (upto n) k).1],ai 3 r 1 aq (AU s n k)]:=by
 refine ts Tryz.func237 ?_ (G7 (HF [] [(6,7),(13,28)] (G7 (E8 (G7 (F8 (G0 [(7,bN),(8,aH)] [(7,9),(28,37)] E9))) (E8 (G7 (F8 (G0 [(9,aH)] [(9,11),(37,63)] E9))) (G7 (E8 (G7 (F8 (G0 [(68,aH)] [(11,13),(68,105)] (G7 (G7 (E8 (F8 (G7 (G7 (F8 (G0 [(12,aH)] [(12,13),(72,104)] (HF [] [(72,86)] E9)))))) E9)))))) E9)))))));refine aE (ae (λe=>n3) λ_=>ae (λe=>n3) λ_=>ae (λe=>n3) λ_=>ae (λe=>n3) λ_=>?_);have V:aa (λb=>b<h.size/\¬b=a.block) h h [aj a 269 [xP xY s]]:=.LP (λb=>b=a.block) (λb E=>by rw[E];exact R.lt) ⟨R,n2⟩;refine ak (λt:Sl×Nat=>(t.1,(t.2:Int))) (λt h'=>t.2<=n/\aa (λb=>b<h.size/\¬b=a.block) h h' [aj a 269 [xP xY s],ai 3 t.1 1 aq (upto t.2)]) (λt=>n-t.2) (⟨dB,0,0⟩,0) n2 ⟨n9,V.nil 3 1 aq⟩ ?_;rintro⟨v,i⟩ h2 ⟨hi,O⟩;dsimp only at*;refine ae (λe=>?_) (λe=>?_)
 .refine O.push af 1 n2 eK n2 n4 (λ_=>rfl) cP (i:Int) n2 n4 B6 λU h3 g=>?_;refine⟨(U,i+1),n8,⟨n5,?_⟩,n5⟩;dsimp only;rw[Km];exact g
 .have G:i=n:=n3
  subst G;refine ak (λj:Nat=>(j:Int)) (λj h'=>j<=k/\aa (λb=>b<h.size/\¬b=a.block) h h' [aj a 269 [xP xY (dY i s (upto i) j).1],ai 3 v 1 aq (dY i s (upto i) j).2]) (λj=>k-j) 0 n2 ⟨n3,O⟩ ?_;rintro j h3 ⟨hj,g⟩;have J:=pC i s (upto i) j;rw[fA]at J;refine ae (λW=>?_) (λW=>?_)
  .rw[ag _];have l:((i:Int)-(j:Int))=((i-j:Nat):Int):=n3
   rw[l];refine(Cb a _ _ h3 (g.box 0 n2)).I1 λh4 ⟨I,H⟩=>?_;have o:=g.oc 0 n2 H I;have ab:=nQ (dY i s (upto i) j).1 ((i-j:Nat):Int);refine⟨_,n2,?_⟩
   try dsimp only
   rw[ag _,ag _];have N:(j:Int)+jf (dY i s (upto i) j).1 ((i-j:Nat):Int)=((j+(jf (dY i s (upto i) j).1 ((i-j:Nat):Int)).toNat:Nat):Int):=n3
   have f:j+(jf (dY i s (upto i) j).1 ((i-j:Nat):Int)).toNat<(dY i s (upto i) j).2.length:=n3
   rw[N];have u:=o.seq 1 n2 λ_=>rfl;refine u.aX _ n2 f _ n2 ?_;refine u.aX j n2 n3 _ n2 ?_;refine o.set af 1 n2 (λ_=>rfl) n2 j n2 n3 _ n2 n2 n2 λh5 A=>⟨I4,?_⟩
   refine A.set af 1 n2 (λ_=>rfl) n2 _ n2 B2 _ n2 n2 n2 λQ p=>⟨I4,?_⟩
   refine⟨j+1,n2,⟨n3,?_⟩,n3⟩;rw[dY,jb,eZ,eZ,Qw.getD_lt f,Qw.getD_lt (show j<(dY i s (upto i) j).2.length by omega)];exact p
  .have D:j=k:=n3
   subst D;have S:=(g.own 1 n2).cap;have ad:=(g.own 1 n2).len;refine⟨⟨n3,n3⟩,?_⟩;rw[qj];have o:=g.cut 1 n2 (λ_=>rfl) j n3;obtain⟨L,F⟩:=I3 ((dY i s (upto i) j).2.take j)
   have m:n1 L=j:=by rw[F,qB];omega
   rw[<-F]at o;refine ak (λx:Nat=>(x:Int)) (λx h'=>x<=j/\aa (λb=>b<h.size/\¬b=a.block) h h' [aj a 269 [xP xY (dY i s (upto i) j).1],ai 3 ⟨v.ptr,j,v.cap⟩ 1 aq (sinks L x)]) (λx=>j-x) 0 n2 ⟨n3,o⟩ ?_;rintro x h5 ⟨N,A⟩;refine ae (λe4=>?_) (λe4=>?_)
   .refine ak (λt:Nat×aD=>(t.1:Int)) (λt h'=>t.1<=x/\t.2.length=j/\sink t.2 t.1=sinks L (x+1)/\aa (λb=>b<h.size/\¬b=a.block) h h' [aj a 269 [xP xY (dY i s (upto i) j).1],ai 3 ⟨v.ptr,j,v.cap⟩ 1 aq t.2]) (λt=>t.1) (x,sinks L x) n2 ⟨n9,by rw[rS];exact m,n2,A⟩ ?_;rintro⟨y,M⟩ Q ⟨hy,hM,q,p⟩;dsimp only at*;rw[ag ((x:Int)+1)];have d:sink M y=M->∃B:Nat,(x:Int)+1=(B:Int)/\(B<=j/\aa (λb=>b<h.size/\¬b=a.block) h Q [aj a 269 [xP xY (dY i s (upto i) j).1],ai 3 ⟨v.ptr,j,v.cap⟩ 1 aq (sinks L B)])/\j-B<j-x:=λK=>
     ⟨x+1,n2,⟨n3,by rw[<-q,K];exact p⟩,n3⟩
    refine aE ?_;refine ae (λe5=>?_) λe5=>d (by rw[show y=0 by omega];rfl);obtain⟨z,rfl⟩:∃z,y=z+1:=⟨y-1,n3⟩
    have T:((z+1:Nat):Int)-1=(z:Int):=n3
    rw[ag (((z+1:Nat):Int)-1),T];have c:=p.seq 1 n2 λ_=>rfl;have Y:=sY (show z<n1 M by omega);have g2:=sY (show z+1<n1 M by omega);refine c.aX (z+1) n2 n3 _ n2 ?_;refine c.aX z n2 n3 _ n2 ?_;refine ae (λe6=>?_) λe6=>d (by rw[sink,m6 n3]);refine c.aX z n2 n3 _ n2 ?_;refine c.aX (z+1) n2 n3 _ n2 ?_;refine p.set af 1 n2 (λ_=>rfl) n2 (z+1) n2 n3 _ n2 n2 n2 λh7 Z=>⟨I4,?_⟩
    refine Z.set af 1 n2 (λ_=>rfl) n2 z n2 n7 _ n2 n2 n2 λh8 X=>⟨I4,?_⟩
    refine⟨(z,jb M (z+1) z),n2,⟨n5,by dsimp only;rw[pB];exact hM,?_,?_⟩,n5⟩
    ·(try dsimp only);rw[<-q];conv=>rhs;rw[sink]
     rw[l0 n3]
    ·(try dsimp only);rw[jb,Y,g2];exact X
   .have:x=j:=n3
    subst this;refine⟨⟨v.ptr,x,v.cap⟩,n2,?_⟩;have P:=Tq L;rw[m]at P;rw[P,F]at A;exact A
theorem BG(p:Pm)(seed id:Int)(h:hY):an xZ 164 #[gr p,xP xX seed,xP xV id] h λv h'=>∃r:Sl,v=r/\Sp h h' [ai 3 r 1 aq (if bJ p&&bQ id then ey (bE p).toNat seed id else[])]:=by
 refine ts Tryz.func164 ?_ (G7 (HF [] [(6,7),(9,17)] E9)) (args:=[p,(xP xX (seed:Int)),(id:Int)]);refine(Sp.refl h).boxed λa z I=>?_;refine aE ?_;refine⟨p,(I.box 0 n2).aw _ n2,(dV p z).mono ?_⟩;rintro v l ⟨rfl,S⟩;have D:=I.comp S;have J:(bJ p&&bQ id)=eL->Sp h l [ai 3 ⟨dB,0,0⟩ 1 aq (if bJ p&&bQ id then ey (bE p).toNat seed id else[])]:=λP=>by
  rw[P];exact(D.nil 3 1 aq).take 1 (λi A c=>by cases i with|zero=>exact c|succ i=>simp at c)
 refine⟨_,n2,aI (λe=>⟨⟨dB,0,0⟩,n2,J A1⟩) λs=>?_⟩;refine(kl id l).mono ?_;rintro v h3 ⟨rfl,rfl⟩;refine⟨_,n2,aI (λe=>⟨⟨dB,0,0⟩,n2,J (by rw[e];simp)⟩) λhid=>?_⟩;rw[s,hid];have V:=(bL p).1 s;have Y:bE p=p.1+p.2.1:=by rw[bE,l0 s]
 obtain⟨n,g⟩:∃n:Nat,bE p=n:=⟨(bE p).toNat,n3⟩
 rw[g,qj];refine D.boxed (t:=269) λd K y=>?_;refine(DI d _ K (y.box 1 n2)).mono ?_;rintro v O ⟨rfl,k,o⟩;have H:=y.oc 1 n2 o k;refine⟨_,n2,p,(H.box 0 n2).aw _ n2,(pi p O).mono ?_⟩;rintro v Q ⟨rfl,W⟩;have B:=H.comp W;refine⟨_,n2,?_⟩
 try dsimp only
 rw[g];refine(KK n Q n3 n3).mono ?_;rintro v T ⟨t,rfl,j⟩;have F:=B.comp j;refine⟨t,n2,?_⟩;have x:∀b,t.on b->b≠d.block:=λb m X=>by
  have z:=(j.fresh 0 n2).2 b m;have l:=(B.box 1 n2).lt;omega
 refine(NB t n d _ T ((j.own 0 n2).seq (λ_=>rfl) x) (F.box 1 n2) n3 n3).mono ?_;rintro v h8 ⟨rfl,f,u⟩;have E:=F.oc 1 n2 u f;refine⟨_,n2,p,(E.box 0 n2).aw _ n2,(pi p h8).mono ?_⟩;rintro v L ⟨rfl,M⟩;have G:=E.comp M;refine⟨_,n2,?_⟩
 try dsimp only
 rw[g];refine(NL d _ n _ L (G.box 1 n2) n3 (pD _ n)).I2 λr N w=>?_;have R:=G.call 1 n2 (λb=>b=d.block) (λq U b m=>by rw[m];exact U.2) w;exact⟨r,n2,r,n2,(R.take 3 λi A c=>by cases i with|zero=>exact c|succ i=>simp at c)⟩
theorem Fa(p:Pm)(seed id:Int)(h:hY):an xZ 157 #[gr p,xP xX seed,xP xV id] h λv h'=>∃r:Sl,v=r/\
  Sp h h' [ai 5 r 1 ar (if bJ p&&bQ id then pF (bE p).toNat seed id else[])]:=by
 refine ts Tryz.func157 ?_ (G7 (HF [] [(6,7),(10,18)] (G7 (Hf [(26,aH)] [(9,10),(26,34)])))) (args:=[p,(xP xX (seed:Int)),(id:Int)]);refine(Sp.refl h).boxed λa I G=>?_;refine aE ?_;refine⟨p,(G.box 0 n2).aw _ n2,(dV p I).mono ?_⟩;rintro v E ⟨rfl,L⟩;have q:=G.comp L;have H:(bJ p&&bQ id)=eL->Sp h E [ai 5 ⟨dB,0,0⟩ 1 ar (if bJ p&&bQ id then pF (bE p).toNat seed id else[])]:=λK=>by
  rw[K];exact(q.nil 5 1 ar).take 1 (λi A g=>by cases i with|zero=>exact g|succ i=>simp at g)
 refine⟨_,n2,aI (λe=>⟨⟨dB,0,0⟩,n2,H A1⟩) λl=>?_⟩;refine(kl id E).mono ?_;rintro v h3 ⟨rfl,rfl⟩;refine⟨_,n2,aI (λe=>⟨⟨dB,0,0⟩,n2,H (by rw[e];simp)⟩) λhid=>?_⟩;refine⟨p,(q.box 0 n2).aw _ n2,(pi p _).mono ?_⟩;rintro v y ⟨rfl,N⟩;have J:=q.comp N;have P:=(bL p).1 l;have U:bE p=p.1+p.2.1:=by rw[bE,l0 l]
 obtain⟨n,B⟩:∃n:Nat,bE p=n:=⟨(bE p).toNat,n3⟩
 refine⟨_,n2,?_⟩
 try dsimp only
 rw[B];refine J.make af ar cN n4 0 n2 n2 n n n2 n2 (qk _) n3 λv y S M z=>?_;refine⟨p,(z.box 0 n2).aw _ n2,(BG p seed id y).I2 λc R s=>?_⟩;rw[l,hid,B,qj]at s;rw[l,hid,qj];have t:=z.comp s;have j:=t.seq 2 n2 λ_=>rfl;have m:=j.len;obtain⟨d,b⟩:=I3 (ey n seed id)
 have o:∀x∈d,0<=x/\x<(n:Int):=λx u=>kq n3 n3 (by rw[<-b];exact u);have F:n1 d<=n:=by rw[b];exact mz n3 n3 _ _
 simp only[vl,if_true,<-b]at t j m s;refine⟨c,n2,?_⟩;refine ak (λi:Nat=>(i:Int)) (λi h'=>i<=n1 d/\Sp h h' [aj a 24 [xP xV p.1,xP xV p.2.1,xP xV p.2.2],ai 5 v 1 ar (gV n (d.take i)),ai 3 c 1 aq d]) (λi=>n1 d-i) 0 n2 ⟨n3,t⟩ ?_;rintro i T ⟨g,k⟩;refine ae (λe=>?_) (λe=>?_)
 .have f:i<n1 d:=n3
  have u:=o _ (qf f);refine(k.seq 2 n2 λ_=>rfl).aX i n2 f _ n2 ?_;refine k.set af 1 n2 (λ_=>rfl) n2 d[i].toNat n3 (by rw[pE];omega) 1 n2 n2 n2 λV Q=>?_;refine⟨i+1,oi,⟨n3,?_⟩,n3⟩;have O:gV n (d.take (i+1))=(gV n (d.take i)).set d[i].toNat 1:=by rw[aC _ _ f,gV,wF];rfl
  rw[O];exact Q
 .rw[qh n3]at k;have D:=(k.del 2).take 1 (λi A g=>by cases i with|zero=>exact g|succ i=>simp at g);refine⟨v,n2,?_⟩;rw[b]at D;exact D
theorem Cc(p:Pm)(h:hY)(B:bJ p=eH):an xZ 156 #[gr p] h λv h'=>∃r:Sl,v=r/\Sp h h' [dD 41 r 1 ar (bz p.1.toNat p.2.1.toNat)]:=by
 refine ts Tryz.func156 ?_ (G7 (G7 (E8 (G6 [(3,bN)] [(3,48)] (G7 (F8 (G0 [(3,bN),(4,aH)] [(3,48)] (HF [] [(7,15)] (E8 (F8 (G7 (Hf [(6,aH)] [(6,7),(23,38)]))) E9)))))) E9))) (args:=[p]);refine(Sp.refl h).boxed λa Y S=>?_;have R:=(bL p).1 B;obtain⟨K,U⟩:∃K:Nat,p.1=K:=⟨p.1.toNat,n3⟩
 obtain⟨b,J⟩:∃H:Nat,p.2.1=H:=⟨p.2.1.toNat,n3⟩
 refine aE ?_;refine ak (λt:Sl×Nat=>(t.1,(t.2:Int))) (λt h'=>t.2<=b/\Sp h h' [aj a 24 [xP xV p.1,xP xV p.2.1,xP xV p.2.2],dD 41 t.1 1 ar ((bz K b).take t.2)]) (λt=>b-t.2) (⟨dB,0,0⟩,0) n2 ⟨n9,S.sv 41 1 ar⟩ ?_;rintro⟨s,k⟩ D ⟨Z,d⟩;dsimp only at*;refine aE ⟨p.2.1,(d.box 0 n2).cell n2,?_⟩;refine ae (λe=>?_) (λe=>?_)
 .have W:k<b:=n3
  refine⟨p,(d.box 0 n2).aw _ n2,(dV p D).mono ?_⟩;rintro v h5 ⟨rfl,L⟩;have x:=d.up L.ac;refine⟨_,n2,Fl B ?_⟩;refine⟨p.1,(x.box 0 n2).cell0 n2,p.2.1,(x.box 0 n2).cell n2,?_⟩
  try dsimp only
  rw[ag (p.1+p.2.1)];refine x.make af ar cN n4 0 n2 n2 (K+b) (K+b) n3 n3 (qk _) n3 λu h6 M E F=>?_;let rowAt:Nat->aS:=λj=>(qz j).map (λi=>Gf.pw ((k+1)*(i+1)%255))++qi (K+b-j) (0:UInt8);refine ak (λj:Nat=>(j:Int)) (λj h'=>j<=K/\Sp h h' [aj a 24 [xP xV p.1,xP xV p.2.1,xP xV p.2.2],dD 41 s 1 ar ((bz K b).take k),ai 5 u 1 ar (rowAt j)]) (λj=>K-j) 0 n2 ⟨n3,F⟩ ?_;rintro j N ⟨hj,m⟩;refine⟨p.1,(m.box 0 n2).cell0 n2,?_⟩;have y:(rowAt j).length=K+b:=by simp[rowAt];omega
  refine ae (λI=>?_) (λI=>?_)
  .have c:j<K:=n3
   have hm:(k+1)*(j+1)<=4*16:=zu n3 n3;have V:qe xV (qe xV ((k:Int)+1)*qe xV ((j:Int)+1))=(((k+1)*(j+1):Nat):Int):=by rw[ag ((k:Int)+1),ag ((j:Int)+1),show((k:Int)+1)*((j:Int)+1)=(((k+1)*(j+1):Nat):Int)by rw[zX];rfl];exact kp _
   rw[V];refine(Pp _ N).I0 ⟨_,n2,?_⟩;refine m.set af 2 n2 (λ_=>rfl) n2 j n2 n3 _ n2 n2 n2 λX w=>?_;refine⟨j+1,oi,⟨n3,?_⟩,n3⟩;have q:(rowAt j).set j (Gf.pw ((((k+1)*(j+1):Nat):Int)%255).toNat)=rowAt (j+1):=by
    have O:((((k+1)*(j+1):Nat):Int)%255).toNat=(k+1)*(j+1)%255:=n3
    rw[O];simp only[rowAt];rw[za _ _ n9,qp,zQ,zh,show K+b-j=K+b-(j+1)+1 by omega,List.replicate_succ,List.set_cons_zero,zH,qG,qo];rfl
   rw[<-q];exact w
  .have c:j=K:=n3
   subst c;refine⟨p.1,(m.box 0 n2).cell0 n2,?_⟩
   try dsimp only
   rw[ag (p.1+k)];refine m.set af 2 n2 (λ_=>rfl) n2 (j+k) n3 n3 1 n2 n2 n2 λh8 z=>?_;have q:(rowAt j).set (j+k) 1=lG j b k:=by
    simp only[rowAt,lG];rw[za _ _ n9];congr 1;apply zq;intro i;rw[qp,zQ,qZ,qP,List.length_replicate,List.getElem?_replicate];by_cases g:i<b
    .rw[List.getElem?_range g,Option.map_some];by_cases f:i=k
     .subst f;rw[l0 n3,l0 n3];simp
     .rw[m6 n3,l0 n3,m6 f]
    .rw[List.getElem?_eq_none (l:=qz b) n7,m6 n3,m6 n3];rfl
   rw[q]at z;have w:=z.freeze 2 n2 λ_=>rfl;have T:((bz j b).take k).length=k:=A8
   refine w.jE af 1 2 n4 n2 n2 cM n3 λQ G o=>?_;refine⟨(Q,k+1),n8,⟨n5,?_⟩,n5⟩;have P:(bz j b).take (k+1)=(bz j b).take k++[lG j b k]:=by rw[aC _ _ A8];simp[bz]
   try dsimp only
   rw[P];exact o.del 2
 .refine⟨s,n2,?_⟩;rw[U,J,qj,qj];rw[qh A8]at d;exact d.take 1 (λi A g=>by cases i with|zero=>exact g|succ i=>simp at g)
theorem AH(p:Pm)(seed:Int)(c:Sl)(l:aD)(h:hY)(y:Rd h c 1 aq l)(L:n1 l<=2^30):an xZ 180 #[gr p,xP xX seed,c] h λv h'=>∃r:Sl,v=r/\Sp h h' [dD 41 r 1 ar (eG p seed l)]:=by
 refine ts Tryz.func180 ?_ (G7 (G7 (G7 (Hf [(7,bN),(17,aH)] [(7,8),(9,10),(17,31)])))) (args:=[p,(xP xX (seed:Int)),c]);refine(Sp.refl h).boxed λa E B=>?_;refine⟨p,(B.box 0 n2).aw _ n2,(dV p E).mono ?_⟩;rintro v G ⟨rfl,H⟩;have o:=B.up H.ac;refine⟨_,n2,aI (λe=>⟨⟨dB,0,0⟩,n2,?_⟩) λm=>?_⟩
 .rw[eG,e];exact(o.sv 41 1 ar).take 1 (λi A g=>by cases i with|zero=>exact g|succ i=>simp at g)
 refine⟨p,(o.box 0 n2).aw _ n2,(Cc p G m).mono ?_⟩;rintro v h3 ⟨r,rfl,I⟩;have b:=o.comp I;refine⟨r,n2,?_⟩;have x:=y.len;let at_:Nat->dS:=λk=>eG p seed (l.take k);have h0:bz p.1.toNat p.2.1.toNat=at_ 0:=by simp[at_,eG,m]
 rw[h0]at b;refine ak (λt:Sl×Nat=>(t.1,(t.2:Int))) (λt h'=>t.2<=n1 l/\Sp h h' [aj a 24 [xP xV p.1,xP xV p.2.1,xP xV p.2.2],dD 41 t.1 1 ar (at_ t.2)]) (λt=>n1 l-t.2) (r,0) n2 ⟨n9,b⟩ ?_;rintro⟨s,k⟩ h3 ⟨N,b⟩;dsimp only at*;refine ae (λe=>?_) (λe=>?_)
 .have d:k<n1 l:=n3
  refine(Seq.up y b.ac).aX k n2 d _ n2 ((kl l[k] h3).mono ?_);rintro v M ⟨rfl,rfl⟩;refine⟨_,n2,?_⟩;have q:=FA p seed (l.take k);rw[qB]at q;have u:(at_ k).length+1<=2^32:=by show(eG p seed (l.take k)).length+1<=2^32;omega
  refine aU (λj=>?_) (λj=>?_)
  .refine⟨p,(b.box 0 n2).aw _ n2,(Fa p seed l[k] _).I2 λw F z=>?_⟩;rw[m,show bQ l[k]=eH from j]at z;have D:=(b.comp z).freeze 2 n2 λ_=>rfl;refine⟨w,n2,?_⟩;refine D.jE af 1 2 n4 n2 n2 cM u λJ F K=>?_;refine⟨(J,k+1),n8,⟨n5,?_⟩,n5⟩;have f:at_ (k+1)=at_ k++[pF (bE p).toNat seed l[k]]:=by simp only[at_];rw[aC _ _ d,Jv,m,show bQ l[k]=eH from j];rfl
   try dsimp only
   rw[f];exact K.del 2
  .refine⟨(s,k+1),n8,⟨n5,?_⟩,n5⟩;have f:at_ (k+1)=at_ k:=by simp only[at_];rw[aC _ _ d,Jv,show bQ l[k]=eL from j,vx];rfl
   try dsimp only
   rw[f];exact b
 .refine⟨s,n2,?_⟩;have f:at_ k=eG p seed l:=by simp only[at_];rw[qh n3]
  rw[f]at b;exact b.take 1 (λi A g=>by cases i with|zero=>exact g|succ i=>simp at g)
theorem lE(a:Sl)(m:aO)(n:Nat)(h:hY)(c:eu h a 1 ar m)(g:aW n m)(o:n<=64:=by omega)(t:n1 m<=2^30:=by omega):an xZ 227 #[a] h λv h'=>v=xT eH/\h'=h:=by
 refine ts Tryz.func227 ?_ (G7 (Hf [(6,aH)] [(2,4),(6,28)]));have s:=c.len;refine ak (λk:Nat=>(k:Int)) (λk h'=>h'=h/\k<=n1 m) (λk=>n1 m-k) 0 n2 ⟨n2,n3⟩ ?_;rintro k h' ⟨rfl,p⟩;refine ae (λe=>?_) λe=>⟨n2,n2⟩;have b:k<n1 m:=n3
 refine c.get k n2 b λr l=>?_;refine c.get 0 n2 n3 λq d=>?_;have i:=l.len;have j:=d.len;rw[g _ (qf _)]at i j;refine bt (λe=>n3) λ_=>?_;refine c.get k n2 b λu f=>?_;have h3:=f.len;rw[g _ (qf _)]at h3;refine ae (λe=>n3) λ_=>?_;exact⟨k+1,oi,⟨n2,n3⟩,n3⟩
theorem find_range_succ(P:Nat->Bool)(i:Nat):(qz (i+1)).find? P=((qz i).find? P).or (if P i then cO i else dB):=by rw[zH,xh];congr 1;by_cases h:P i<;>simp[h]
def NM:Option Nat->Int
 |some i=>i
 |none=>-1
theorem BH(m:aO)(i j:Nat):fM m i j=fM m j i:=by
 by_cases h:i=j
 .rw[h]
 .rw[fM,fM,List.set_comm _ _ λa=>h a.symm]
theorem BI{a t:Row}(h:n1 a=n1 t:=by omega):cL 0 a t=t:=by apply wb (by rw[cm h]);intro i c b;simp[cL,Gf.zero_mul]
theorem Jc(a:Sl)(m:aO)(n:Nat)(h:hY)(ha:eu h a 1 ar m)(hm:aW n m)(hn:n<=64)(hs:n1 m<=2^30):
  an xZ 295 #[a] h λv h'=>∃r:Sl,v=r/\r.len=cx m/\Sp h h' []:=by
 refine ts Tryz.func295 ?_ (G7 (G7 (G7 (E8 (G7 (F8 (G0 [(3,bN),(15,aH)] [(3,5),(15,27)] E9))) (G7 (E8 (G6 [(5,aH)] [(5,10),(27,132)] (G7 (F8 (G0 [(5,aH),(6,aH)] [(5,10),(27,132)] (HF [] [(27,38)] (E8 (F8 (G7 (E8 (G7 (F8 (G0 [(7,aH),(8,aH)] [(7,9),(41,60)] E9))) (G7 (HF [] [(62,76)] (HF [] [(76,92)] (E8 (G7 (F8 (G0 [(94,aH)] [(9,10),(94,130)] (G7 (G7 (E8 (F8 (G7 (HF [(109,mH)] [(97,110)] E9))) E9)))))) E9))))))) E9)))))) E9)))))) [(21,(.l [0,1,2,3,4,5,6,7,8,10,11,12,13,9,14,15,16]))];refine(lE a m n h ha hm hn hs).mono ?_;rintro v z ⟨rfl,rfl⟩;refine⟨_,n2,aI (λe=>oj) λ_=>?_⟩;have hl:=ha.len;refine ak (λt:Sl×List Sl=>(t.1,(n1 t.2:Int))) (λt h'=>n1 t.2<=n1 m/\Sp z h' (ai 41 t.1 1 bv t.2::bg 5 1 ar t.2 (m.take t.2.length))) (λt=>n1 m-n1 t.2) (⟨dB,0,0⟩,[]) n2 ⟨n9,by simpa[bg]using(Sp.refl z).nil 41 1 bv⟩ ?_;rintro⟨s,rs⟩ h2 ⟨hk,H2⟩;dsimp only at*;refine ae (λe=>?_) (λe=>?_)
 .have B:n1 rs<n1 m:=n3
  refine(ha.up H2.ac).get rs.length n2 B λr hr=>?_;have cr:m[n1 rs].length=n:=hm _ (qf _);have br:(bg 5 1 ar rs (m.take rs.length)).length=n1 rs:=by rw[gz t6,qB];omega
  have Hn:=H2.nil 5 1 ar;have ao:((ai 41 s 1 bv rs::bg 5 1 ar rs (m.take rs.length))++[ai 5 ⟨dB,0,0⟩ 1 ar ([]:aS)])[n1 rs+1]?=cO (ai 5 ⟨dB,0,0⟩ 1 ar []):=by rw[ql n7,zc,br,zh];rfl
  refine Hn.append af (n1 rs+1) ao cN ⟨_,_,n2,n2⟩ n2 n4 (λ_=>rfl) hr cD n7 λw h3 K=>?_;have b9:Sp z h3 ((ai 41 s 1 bv rs::bg 5 1 ar rs (m.take rs.length))++[ai 5 w 1 ar m[n1 rs]]):=by rw[za _ _ n7,zc,br,zh]at K;exact K
  refine b9.push af 0 n2 cM n2 n4 (λ_=>rfl) jK w n2 n4 n3 λs' h4 H4=>?_;refine⟨(s',rs++[w]),by dsimp only;rw[ag _];simp,⟨n7,?_⟩,n7⟩
  try dsimp only
  rw[show(rs++[w]).length=n1 rs+1 by simp,aC _ _ B,mA t6];exact H4
 .have R:m.take rs.length=m:=qh n3;rw[R]at H2;have bb:n1 rs=n1 m:=n3
  have a2:s.len=n1 m:=by rw[(H2.own 0 n2).len,bb]
  have c4:=(H2.own 0 n2).cap;have bd:m≠[]->ez m=n:=λap=>by
   have:0<n1 m:=List.length_pos_iff.2 ap;rw[ez,bh this];exact hm _ (qf _)
  refine bj (λ(d:Int) h'=>d=(cx m:Int)/\Sp z h' []) ?_ ?_
  .refine ak (λt:List Sl×Nat=>(((bc m t.2).1:Int),(t.2:Int))) (λt h'=>t.2<=ez m/\t.1.length=n1 m/\Sp z h' (kS s t.1 (bc m t.2).2)) (λt=>ez m-t.2) (rs,0) n2 ⟨n9,bb,H2⟩ ?_;rintro⟨g,aZ⟩ h3 ⟨J,b6,K⟩;dsimp only at*;have G:=fS hm aZ;have u:=oK m aZ;have fin:¬(0<n1 m/\aZ<ez m)->((bc m aZ).1:Int)=(cx m:Int)/\Sp z h3 []:=λhh=>by
    refine⟨?_,.zip K.ac⟩;by_cases h0:0<n1 m
    .have:aZ=ez m:=n3
     rw[this];rfl
    .have:m=[]:=qV n3;subst this;rw[cx,kw,kw]
   obtain⟨st,a9⟩:=I3 (bc m aZ)
   rw[<-a9]at G u K fin⊢;obtain⟨b,f⟩:=st;dsimp only at G u K fin⊢;have q:n1 g=n1 f:=n3
   have o:bc m (aZ+1)=fN (b,f) aZ:=by rw[bc,<-a9]
   refine aE ?_;refine ae (λe0=>?_) λe0=>fin n3;have ap:m≠[]:=λhh=>by rw[hh]at a2;simp at a2;omega
   have hw:=bd ap;refine(K.Jq q λ_=>rfl).get 0 n2 n3 λr0 cn=>?_;have b2:=cn.len;rw[G.1 _ (qf _)]at b2;refine ae (λe1=>?_) λe1=>fin n3;have c6:aZ<n:=n3
   have a3:eu h3 s 1 ar f:=K.Jq q λ_=>rfl;let P:Nat->Bool:=λi=>decide (b<=i)&&(aM (aB f i) aZ !=0);have b4:(qz b).find? P=dB:=Gy λj hj=>by show(decide (b<=j)&&_)=eL;rw[nb n3];rfl
   refine ak (λi:Nat=>(NM ((qz i).find? P),(i:Int))) (λi h'=>h'=h3/\b<=i/\i<=n1 f) (λi=>n1 f-i) b (by rw[b4];rfl) ⟨n2,qk _,u⟩ ?_;rintro i h4 ⟨rfl,cc,c9⟩
   try dsimp only
   refine ae (λR=>?_) (λR=>?_)
   .have bl:i<n1 f:=n3
    have cr:f[i].length=n:=G.1 _ (qf _);refine a3.get i n2 bl λr hr=>?_;refine hr.aX aZ n2 n3 _ n2 ?_;have L:aM (aB f i) aZ=f[i][aZ]'n3:=by rw[bh bl,lX]
    rw[ag ((i:Int)+1)];have H:=find_range_succ P i;have nx:∀x:Int,x=NM ((qz (i+1)).find? P)->∃F:Nat,(x,(i:Int)+1)=(NM ((qz F).find? P),(F:Int))/\(h4=h4/\b<=F/\F<=n1 f)/\f.length-F<n1 f-i:=λx hx=>
     ⟨i+1,by rw[hx];rfl,⟨n2,n3,n3⟩,n3⟩
    refine bt (λe3=>?_) (λe3=>?_)
    .have ax:P i=eH:=by show(decide (b<=i)&&(aM (aB f i) aZ !=0))=eH;rw[m9 cc,L];simp;exactλh0=>e3 (by rw[h0];rfl)
     rw[ax,l0 rfl]at H;refine ae (λe4=>nx _ ?_) (λe4=>nx _ ?_)
     .cases hf:(qz i).find? P with
      |none=>rw[H,hf];rfl
      |some x=>rw[hf]at e4;simp only[NM]at e4;omega
     .cases hf:(qz i).find? P with
      |none=>rw[hf]at e4;simp[NM]at e4
      |some x=>rw[H,hf];rfl
    .have ax:P i=eL:=by show(decide (b<=i)&&(aM (aB f i) aZ !=0))=eL;rw[L,nj.1 e3];simp
     rw[ax]at H;refine nx _ ?_;rw[H]
     cases(qz i).find? P<;>rfl
   .have ci:i=n1 f:=n3
    subst ci;have a7:(qz f.length).find? P=fw f b aZ:=rfl;rw[a7];cases hb:fw f b aZ with
    |none=>
     refine ae (λ_=>?_) λR=>absurd n4 R;refine⟨(g,aZ+1),?_,⟨n5,b6,?_⟩,n5⟩
     ·(try dsimp only);rw[o,fN,hb,ag _];rfl
     ·(try dsimp only);rw[o,fN,hb];exact K
    |some at_=>
     have hh:=kL hb;refine ae (λR=>absurd (show((at_:Nat):Int)<0 from R) n3) λ_=>?_;have am:b<n1 f:=n3
     have hi:=hh.2.1;have a0:=K.seq 0 n2 λ_=>rfl;refine aE ?_;refine a0.dQ b n2 n3 λ_ _ _=>?_;refine a0.dQ at_ n2 n3 λ_ _ _=>?_;refine K.set af 0 n2 (λ_=>rfl) n2 at_ n2 n3 (g[b]'n3) n2 n2 n2 λh5 H5=>⟨I4,?_⟩
     refine H5.set af 0 n2 (λ_=>rfl) n2 b n2 n7 (g[at_]'n3) n2 n2 n2 λh6 H6=>⟨I4,?_⟩
     have O:Sp z h6 (kS s ((g.set at_ (g[b]'n3)).set b (g[at_]'n3)) (fM f b at_)):=by have:=H6.RF (at_+1) (b+1) (A:=ai 5 (g[at_]'n3) 1 ar f[at_]) (A2:=ai 5 (g[b]'n3) 1 ar f[b]) (dU q at_ hi) (dU q b am);show aa _ z h6 (ai 41 s 1 bv _::bg 5 1 ar _ _);rw[BH,<-Dr q at_ b hi am];exact this
     obtain⟨p,Z⟩:=I3 ((g.set at_ (g[b]'n3)).set b (g[at_]'n3))
     rw[<-Z]at O;have da:n1 p=n1 f:=by rw[Z];simp;omega
     obtain⟨m2,T⟩:=I3 (fM f b at_)
     have Y:aW n m2:=by rw[T];exact og G.1 am hi
     have c2:n1 m2=n1 f:=by rw[T];exact iU _ _ _
     rw[<-T]at O;have Q:n1 p=n1 m2:=n3
     have y:b<n1 m2:=n3
     refine aE ?_;have gt:=lC (a:=s) Q b y;have lt:m2[b].length=n:=Y _ (qf _);have a8:=O.seq 0 n2 λ_=>rfl;refine a8.dQ b n2 n3 λdk ah _=>?_;have ad:=O.seq (b+1) gt λ_=>rfl;refine ad.aX aZ n2 n3 _ n2 ?_;refine a8.dQ b n2 n3 λc7 a5 _=>?_;refine(Af _ h6).mono ?_;rintro v h7 ⟨rfl,rfl⟩;refine⟨_,n2,⟨a5,ah,I4⟩,?_⟩;refine(ma _ _ _ h7 ad n3).mono ?_;rintro v h8 ⟨r,rfl,R8⟩;refine⟨r,n2,⟨ee ah R8.ac,I4⟩,?_⟩;have H8:=O.comp R8
     try dsimp only
     refine H8.set af 0 n2 (λ_=>rfl) n2 b n2 n3 r n2 n2 n2 λh9 H9=>⟨I4,?_⟩
     have ay:m2[b]=aB m2 b:=(bh y).symm;have cf:(m2[b])[aZ]'n3=aM (aB m2 b) aZ:=by rw[lX (by rw[bh y];omega)];simp only[bh y]
     have a4:Sp z h9 (kS s (p.set b r) (fW b aZ m2)):=by have h8:Sp z h9 ((ai 41 s 1 bv (p.set b r)::bg 5 1 ar p m2)++[ai 5 r 1 ar (scaleB (Gf.inv ((m2[b])[aZ]'n3)) m2[b])]):=H9;have h9:=h8.LS (b+1) (by simp[gz Q];omega);rw[cf,ay]at h9;show aa _ z _ (ai 41 s 1 bv _::bg 5 1 ar _ (m2.set b _));rw[<-gS Q];exact h9
     obtain⟨U,ab⟩:=I3 (p.set b r)
     obtain⟨c,S⟩:=I3 (fW b aZ m2)
     rw[<-ab,<-S]at a4;have c5:n1 U=n1 f:=by rw[ab];simp;omega
     have a6:n1 c=n1 f:=by rw[S,kM];omega
     have N:aW n c:=by rw[S];exact mB Y y
     have M:b<n1 c:=n3
     have I:fN (b,f) aZ=(b+1,bO b aZ c f.length):=by rw[fN];(try dsimp only);rw[hb,S,T]
     refine ak (λt:Nat×List Sl=>(t.1:Int)) (λt h'=>t.1<=n1 c/\t.2.length=n1 c/\Sp z h' (kS s t.2 (bO b aZ c t.1))) (λt=>n1 c-t.1) (0,U) n2 ⟨n9,n5,by rw[oh];exact a4⟩ ?_;rintro⟨k,D⟩ b0 ⟨dd,bk,E⟩;dsimp only at*;have b5:=kN b aZ c k;have X:n1 D=(bO b aZ c k).length:=by rw[b5];exact bk
     refine ae (λe=>?_) (λe=>?_)
     .have B:k<n1 c:=n3
      have b3:aB (bO b aZ c k) k=aB c k:=by rw[je B,m6 n3]
      have e4:(bO b aZ c k)[k]'n3=aB c k:=by rw[<-b3,bh]
      have gk:=lC (a:=s) X k n3;rw[e4]at gk;have lk:=bZ N B;rw[ag ((k:Int)+1)];have skip:bO b aZ c (k+1)=bO b aZ c k->∃F:Nat×List Sl,(k:Int)+1=(F.1:Int)/\(F.1<=n1 c/\F.2.length=n1 c/\Sp z b0 (kS s F.2 (bO b aZ c F.1)))/\c.length-F.1<n1 c-k:=λb7=>
       ⟨(k+1,D),n2,⟨n5,bk,by dsimp only;rw[b7];exact E⟩,n5⟩
      refine aE ?_;have V:=E.seq 0 n2 λ_=>rfl;have al:=E.seq (k+1) gk λ_=>rfl;have J:(aB c k)[aZ]'n3=aM (aB c k) aZ:=(lX).symm;refine bt (λR=>?_) (λR=>rX n2 (skip ?_))
      .have W:k≠b:=λhh=>R (by rw[hh]);refine V.dQ k n2 n3 λ_ _ _=>?_;refine al.aX aZ n2 n3 _ n2 ?_;refine bt (λe3=>?_) (λe3=>skip ?_)
       .have ay:aB (bO b aZ c k) b=aB c b:=by rw[je M,m6 n3]
        have e5:(bO b aZ c k)[b]'n3=aB c b:=by rw[<-ay,bh]
        have gt:=lC (a:=s) X b n3;rw[e5]at gt;have lt:=bZ N M;refine V.dQ k n2 n3 λa1 c1 _=>?_;refine al.aX aZ n2 n3 _ n2 ?_;refine V.dQ b n2 n3 λ_ _ _=>?_;refine V.dQ k n2 n3 λ_ _ _=>?_;refine(jS _ _ _ (aB c b) (aB c k) b0 (E.seq (b+1) gt λ_=>rfl) al n3 n3).I2 λw c8 bq=>⟨w,n2,⟨ee c1 bq.ac,I4⟩,?_⟩;have ca:=E.comp bq
        skip
        refine ca.set af 0 n2 (λ_=>rfl) n2 k n2 n3 w n2 n2 n2 λcq cp=>⟨I4,?_⟩
        refine⟨(k+1,D.set k w),n2,⟨n5,n7,?_⟩,n5⟩
        try dsimp only
        rw[kv B W];have cd:Sp z cq ((ai 41 s 1 bv (D.set k w)::bg 5 1 ar D (bO b aZ c k))++[ai 5 w 1 ar (cL ((aB c k)[aZ]'n3) (aB c b) (aB c k))]):=cp;have b1:=cd.LS (k+1) (by simp[gz X];omega);rw[J]at b1;show aa _ z _ (ai 41 s 1 bv _::bg 5 1 ar _ ((bO b aZ c k).set k _));rw[<-gS X];exact b1
       .have hz:aM (aB c k) aZ=0:=by rw[<-J];exact nj.1 e3
        rw[kv B W,hz,BI (by rw[bZ N M,lk])];apply zq;intro j;rw[qZ];split
        .rename_i c0;subst c0;rw[l0 n3,qd n3,e4]
        .rfl
      .have W:k=b:=n3
       subst W;exact uC
     .have cs:k=n1 c:=n3
      subst cs;refine⟨(D,aZ+1),?_,⟨n5,n5,?_⟩,n5⟩
      ·(try dsimp only);rw[o,I,ag _,ag _];rfl
      ·(try dsimp only);rw[o,I,<-a6];exact E
  .rintro d h3 ⟨rfl,R3⟩;have u:=oK m (ez m);rw[(fS hm _).2]at u;have b3:cx m=(bc m (ez m)).1:=rfl;exact⟨⟨n3,n3⟩,⟨s.ptr,cx m,s.cap⟩,n9,n2,R3⟩
theorem uq(a:Sl)(m:aO)(n:Nat)(h:hY)(g:eu h a 1 ar m)(e:aW n m)(f:n<=64:=by omega)(b:n1 m<=2^30:=by omega):
  an xZ 228 #[a] h λv h'=>v=xP xV (cx m)/\Sp h h' []:=by
 refine ts Tryz.func228 ?_;refine(Jc a m n h g e f b).I2 λr i ⟨c,d⟩=>⟨r,n2,by rw[c],d⟩
theorem Jd(p:Pm)(seed:Int)(b:Sl)(l:aD)(h:hY)(i:Rd h b 1 aq l)(o:n1 l<=2^29):an xZ 224 #[gr p,xP xX seed,b] h λv h'=>v=xP xV (Bc p seed l)/\Sp h h' []:=by
 refine ts Tryz.func224 ?_ (args:=[p,(xP xX (seed:Int)),b]);refine(Sp.refl h).boxed λa f d=>?_;refine⟨p,(d.box 0 n2).aw _ n2,(AH p seed b l f (Seq.up i d.ac) n3).mono ?_⟩;rintro v j ⟨r,rfl,k⟩;have e:=d.comp k;have g:=FA p seed l;have c:(bE p).toNat<=64:=by
  unfold bE;split
  .rename_i n;have:=(bL p).1 n;omega
  .omega
 refine⟨r,n2,(uq r _ _ j (e.oG 1 n2) (om p seed l) c).I1 λh3 m=>?_⟩;exact⟨_,n2,n2,.zip (e.comp m).ac⟩
theorem NN(p:Pm)(seed:Int)(b:Sl)(l:aD)(h:hY)(m:Rd h b 1 aq l)(f:n1 l<=2^29):an xZ 155 #[gr p,xP xX seed,b] h λv h'=>v=xT (fE p seed l)/\Sp h h' []:=by refine ts Tryz.func155 ?_ E9 [(1,(.l [0,1,2,3,4,5,7,6,8,9,10,11]))] (args:=[p,(xP xX (seed:Int)),b]);refine(Sp.refl h).boxed λa k j=>?_;refine⟨p,(j.box 0 n2).aw _ n2,(dV p k).mono ?_⟩;rintro v o ⟨rfl,q⟩;have d:=j.comp q;refine⟨_,n2,I4,aU (λe=>?_) λe=>⟨I4,I4,E5,.zip d.ac⟩⟩;have i:=d.box 0 n2;refine⟨p,i.aw _ n2,p,i.aw _ n2,(Jd p seed b l o (Seq.up m d.ac) f).mono ?_⟩;rintro v h3 ⟨rfl,r⟩;have g:=d.comp r;have c:=g.box 0 n2;refine⟨_,n2,⟨c.cell0 n2,c.cell n2,c.cell n2,I4⟩,(pi p h3).I1 λt s=>?_⟩;exact⟨_,n2,I4,E5,.zip (g.comp s).ac⟩
section
variable {C:Int->aS}
structure aea (W:cR) (n:Nat):Prop where
 nd:W.flatten.Nodup
 mem:∀y,y∈W.flatten↔∃j:Nat,j<n/\y=j
structure aew (m:aA) (live:aD) (t:Int) (e:Qw.cS) (n0:Nat) (ds':aG) (err:Int) (k:Nat):Prop where
 upto:aea (Ni m ds' e.object ((0:Nat):Int) live) (n0+k)
 few:k<=64
 most:err=12->k=64
 last:err=0->0<k->∃Wp:cR,Wp.length=live.length/\adw m.p (ft e.object 0 (e.tries.getD 0 0)) Wp t.toNat≠dB/\∀i y,y∈(Ni m ds' e.object ((0:Nat):Int) live).getD i []->y+1≠((n0+k:Nat):Int)->y∈Wp.getD i []
def aeb(m:aA)(a:aG)(k:Int):Nat:=match bY a k with|some d=>(iB m d.l).length|none=>0
def acU(m:aA)(a:aG)(live:aD):Nat:=(live.map (aeb m a)).sum
end
section
variable {C:Int->aS}
structure Kept (m:aA) (C:Int->aS) (ds:aG) (r:Nat×Int×Pow×aG) (M:Nat):Prop where
 pow:r.2.2.1=Pow.new
 err:r.2.1≠14
 arg:r.2.1=1->r.1=0
 few:r.1<=(aaK m.objs).length*M
 keep:adX m ds r.2.2.2
 sto:NA m C r.2.2.2
 tot:acU m r.2.2.2 (bn ds m.drives)=acU m ds (bn ds m.drives)+r.1
end
section
variable {pw:fY}
theorem rq(o b t:Int)(h:hY):an xZ 93 #[xP xV o,xP xV b,xP xV t] h λv h'=>v=xP xX (ft o b t)/\h'=h:=by refine tV o b t ⟨?_,n2⟩;congr 1;simp only[wrap_u32];unfold ft;omega
end
def HK(r s:ct):Bool:=decide (r.object<s.object∨(r.object=s.object/\(r.block<s.block∨(r.block=s.block/\r.id<s.id))))
theorem DN{r s:ct}:HK r s=eH↔oe r s:=by unfold HK;rw[decide_eq_true_eq,lt_iff]
theorem NO{r s:ct}:HK r s=eL↔¬oe r s:=by rw[<-DN,Bool.not_eq_true]
def Tr(x:bw)(r:ct):Prop:=x.1=r.object/\x.2.1=r.block/\x.2.2.1=r.id
section
theorem HL(x y:bw)(r s:ct)(h:hY)(d:Tr x r)(i:Tr y s):an xZ 259 #[recv x,recv y] h λv h'=>v=xT (HK r s)/\Sp h h' []:=by
 refine ts Tryz.func259 ?_ (args:=[x,y]);obtain⟨p,x2,x3⟩:=d;obtain⟨o,l,k⟩:=i;refine(Sp.refl h).boxed λq m j=>j.boxed λn f c=>?_;have b:=c.box 0 n2;have a:=c.box 1 n2;have z:Sp h f []:=.zip c.ac;unfold HK;refine⟨x.1,b.cell0 n2,y.1,a.cell0 n2,bt (λe=>⟨x.1,b.cell0 n2,y.1,a.cell0 n2,?_,z⟩) λe=>⟨x.2.1,b.cell n2,y.2.1,a.cell n2,bt (λg=>⟨x.2.1,b.cell n2,y.2.1,a.cell n2,?_,z⟩) λg=>⟨x.2.2.1,b.cell n2,y.2.2.1,a.cell n2,?_,z⟩⟩⟩
 .congr 1;rw[decide_eq_decide];omega
 .congr 1;rw[decide_eq_decide];omega
 .congr 1;rw[decide_eq_decide];omega
theorem DO(x:aY)(m:aA)(y:bw)(r:ct)(h:hY)(D:cj h x m)(hz:bG m)(Z:fk cG h y r):
  an xZ 258 #[cu x,recv y] h λv h'=>v=xT (dJ m r)/\Sp h h' []:=by
 refine ts Tryz.func258 ?_ (G7 (HF [] [(4,5),(7,17)] (Hf [(20,aH)] [(4,5),(6,7),(20,54)]))) (args:=[x,y]);refine(Sp.refl h).boxed λa1 h1 H1=>H1.boxed λL h2 B=>?_;obtain⟨⟨e1,e2,e3,Q,e5,e7,e8⟩,e6⟩:=id Z;have J:=congrArg (·.1) D.p;have N:=congrArg (·.2.1) D.p;have M:=congrArg (·.2.2) D.p;have W:=congrArg (·.1) Q;have T:=congrArg (·.2.1) Q;have U:=congrArg (·.2.2) Q;have ah:=hz.ob;refine aE ⟨y,(B.box 1 n2).aw _ n2,(DL y r h2 (cG.mono (cG.loc Z B.ac) λ_ hb=>qY hb B.ac.1)).I1 λh3 R3=>?_⟩;have j:=B.up R3.ac;have b1:=j.box 0 n2;have G:=j.box 1 n2;refine⟨_,n2,aI (λg=>⟨by unfold dJ;rw[g];rfl,.zip j.ac⟩) λg=>?_⟩;obtain⟨_,g2,_⟩:=(jM r).1 g;refine⟨r.p,by rw[<-W,<-T,<-U];exact G.lN 3 n2 n2 n2,m.p,by rw[<-J,<-N,<-M];exact b1.lN 2 n2 n2 n2,_,MI _ _ r.p m.p,aI (λK=>⟨?_,.zip j.ac⟩) λK=>?_⟩
 .unfold dJ;rw[g,K];rfl
 obtain⟨P,hP⟩:∃P:Qw.cS->Bool,P=λx=>decide (x.object=r.object)&&(decide (r.block<(x.tries.length:Int))&&decide (r.seed=ft r.object r.block (x.tries.getD r.block.toNat 0))):=⟨_,rfl⟩
 have q:dJ m r=m.objs.any P:=by unfold dJ;rw[g,K,hP];rfl
 refine⟨x.2.2.2.2.2.2.2,b1.cell n2,?_⟩;obtain⟨X,q1,q2,q3⟩:=bW.ku (D.up j.ac).objs;have ab:=q1.len;refine ak (λi:Nat=>(i:Int)) (λi h'=>i<=m.objs.length/\(m.objs.take i).any P=eL/\Sp h3 h' []) (λi=>m.objs.length-i) 0 n2 ⟨qT _,n2,Sp.refl h3⟩ ?_;rintro i h4 ⟨hi,f,H⟩
 try dsimp only
 refine ae (λe=>?_) λe=>?_
 rotate_left
 .have R:i=m.objs.length:=n3
  rw[R,qy]at f;exact⟨by rw[q,f],.zip (j.up H.ac).ac⟩
 have b:i<m.objs.length:=n3
 have z:i<X.length:=n3
 obtain⟨E,V⟩:=I3 (m.objs[i])
 have c:=q3 i z b;rw[<-V]at c;obtain⟨u,hu⟩:=I3 (X[i])
 rw[<-hu]at c;obtain⟨⟨y1,y2,y3⟩,y4⟩:=c;have ad:=Seq.len y4;have I:(m.objs.take (i+1)).any P=P E:=by rw[aC _ _ b,yl,f,vJ,xf,yw,vj,V]
 refine(Seq.up q1 H.ac).cH (g:=aT) i n2 z u (by rw[hu]) ?_;refine H.alloc af n2 λa5 h5 R5=>?_;refine R5.storeAll af 0 n2 n2 (aT u) n2 n2 n2 n2 λk w=>?_;have Y:=w.box 0 n2;have d:=G.ac w.ac G.lt;have next:P E=eL->∃t:Nat,qe xV ((i:Int)+1)=(t:Int)/\(t<=m.objs.length/\(m.objs.take t).any P=eL/\Sp h3 k [])/\m.objs.length-t<m.objs.length-i:=λhp=>
  ⟨i+1,oi,⟨b,by rw[I];exact hp,.zip w.ac⟩,n3⟩
 have A:hU k (a5.add 1)=cO (xP xV E.object):=by rw[<-y2];exact Y.cell n2
 have o:hU k (a5.add 3)=cO (xQ u.2.2.2.ptr u.2.2.2.len u.2.2.2.cap):=Y.cell n2;have s:hU k L=cO (xP xV r.object):=by rw[<-e1];exact d.cell0 n2
 have l:hU k (L.add 1)=cO (xP xV r.block):=by rw[<-e2];exact d.cell n2
 have c6:hU k (L.add 6)=cO (xP xX r.seed):=by rw[<-e5];exact d.cell n2
 have a:P E=(decide (E.object=r.object)&&(decide (r.block<(E.tries.length:Int))&&decide (r.seed=ft r.object r.block (E.tries.getD r.block.toNat 0)))):=by rw[hP]
 refine⟨E.object,A,r.object,s,aV (λS=>?_) λS=>⟨⟨s,A,I4⟩,next (by rw[a,nb S];rfl)⟩⟩;refine⟨r.block,l,u.2.2.2,o,ae (λg5=>?_) λg5=>⟨⟨o,l,s,A,I4⟩,next (by rw[a,nb (show¬r.block<(E.tries.length:Int)by omega)];simp)⟩⟩;have hn:r.block.toNat<E.tries.length:=n3
 refine⟨r.seed,c6,r.object,s,r.block,l,u.2.2.2,o,r.block,l,?_⟩;refine Seq.aX (Seq.up y4 w.ac) r.block.toNat n3 hn (E.tries.getD r.block.toNat 0) (by rw[getD_lt hn];rfl) ?_;refine(rq _ _ _ k).I0 ⟨_,n2,⟨l,o,c6,o,l,s,A,I4⟩,aV (λO=>?_) λO=>next (by rw[a,nb O];simp)⟩;refine⟨?_,.zip (j.up (aa.ac w)).ac⟩;have F:P E=eH:=by rw[a,m9 S,m9 (show r.block<(E.tries.length:Int)by omega),m9 O];rfl
 rw[q,zW.2 ⟨E,by rw[V];exact qf b,F⟩]
theorem aa.ZR{t:Nat}{f:bu->Sl->Sl->aR}{B:au}{g h:hY}{As:List HP}{a:fY}{d:bu}(H:aa B g h (ke t f a d::As)):fd d/\∃(s b:Sl) (rs:List Sl),bR h a t (f d s b)/\gA (ga 1 ar) 1 bv h s rs d.l:=by obtain⟨ok,s,b,c⟩:=H.jX;obtain⟨rs,e⟩:=aa.GU (c.aF 3 [1]) λ_=>rfl;exact⟨ok,s,b,rs,c.box 0 n2,e.dv 0 n2⟩
theorem Cd(b pw:fY)(d:bu)(s sb:Sl)(rs:List Sl)(z:aY)(m:aA)(h:hY)(F:bR h b 161 (dE pw d s sb))(hF:gA (ga 1 ar) 1 bv h s rs d.l)(ok:fd d)(a:cj h z m)(hz:bG m):
  an xZ 181 #[xR (cO b),cu z] h λv h'=>∃(r:Sl) (T:List (bw×ct)),v=r/\T.map zk=iB m d.l/\Keyed T/\Sp h h' [bU r (T.map qF),gb T]:=by
 refine ts Tryz.func181 ?_ (G7 (G7 (E8 (G7 (F8 (G0 [(5,bN),(16,aH)] [(5,6),(7,11),(16,71)] (G7 (G7 (E8 (F8 (G7 (G7 (HF [] [(25,33)] (G7 (E8 (G6 [(10,aH)] [(10,11),(35,48)] (F8 (G0 [(10,aH)] [(10,11),(35,48)] (HF [] [(35,46)] E9)))) (HF [(58,mH)] [(48,59)] E9))))))) E9)))))) E9))) [(11,(.y [0,1,2,4,6,7,8] (.l [3,5,9,10,11]) (.y [5] (.l [3,9,10,11]) (.l [9,3,10,11]))))] (args:=[(cO b),z]);have b2:=ok.len;have a3:=ok.room;refine(Sp.refl h).boxed λJ h1 H1=>?_;have bb:=F.ac H1.ac F.lt;refine⟨b,n2,s,bb.cell n2,?_⟩;have b3:=hF.1.len;have b4:=hF.2.1;have H2:Sp h h1 [bU ⟨dB,0,0⟩ [],gb [],aj J 27 (az z)]:=
  ((H1.comp (.one (aP.refl _ _) λt w=>(by cases w))).nil 144 8 bB).bs [2,1,0]
 refine ak (λt:Sl×Nat×List (bw×ct)×List (bw×ct)=>(t.1,(t.2.1:Int))) (λt h'=>t.2.1<=n1 d.l/\t.2.2.1.length<=t.2.1/\(∀x∈t.2.2.1,x∈t.2.2.2)/\Keyed t.2.2.2/\lQ ((d.l.take t.2.1).filterMap (gp m)) (t.2.2.1.map zk)/\Sp h h' [bU t.1 (t.2.2.1.map qF),gb t.2.2.2,aj J 27 (az z)]) (λt=>n1 d.l-t.2.1) (⟨dB,0,0⟩,0,[],[]) n2 ⟨qT _,qk _,λx a=>E3,λx a=>E3,by rw[List.take_zero];exact lQ.nil,H2⟩ ?_;rintro⟨o,i,T,G⟩ h3 ⟨hi,a6,u,V,hO,H3⟩;dsimp only at hi a6 u V hO H3⊢;refine ae (λe=>?_) λe=>?_
 rotate_left
 .have a7:i=n1 d.l:=n3
  rw[a7,qy]at hO;refine⟨o,T,n2,hO.done,λt w=>V t (u t w),?_⟩;exact(H3.dG 1 n2 (D:=gb T) λq y t w=>y t (u t w)).bs [0,1]
 have ao:i<n1 d.l:=n3
 have E:=Gx m d.l i ao;have next:∀{h':hY} {o':Sl} {T' G':List (bw×ct)} {As:List HP},n1 T'<=i+1->(∀x∈T',x∈G')->Keyed G'->lQ ((d.l.take (i+1)).filterMap (gp m)) (T'.map zk)->Sp h h' (bU o' (T'.map qF)::gb G'::aj J 27 (az z)::As)->
   ∃f:Sl×Nat×List (bw×ct)×List (bw×ct),((⟨o'.ptr,o'.len,o'.cap⟩:Sl),(qe xV ((i:Int)+1):Int))=(f.1,(f.2.1:Int))/\(f.2.1<=n1 d.l/\f.2.2.1.length<=f.2.1/\(∀x∈f.2.2.1,x∈f.2.2.2)/\Keyed f.2.2.2/\lQ ((d.l.take f.2.1).filterMap (gp m)) (f.2.2.1.map zk)/\Sp h h' [bU f.1 (f.2.2.1.map qF),gb f.2.2.2,aj J 27 (az z)])/\d.l.length-f.2.1<n1 d.l-i:=λ{h' o' T' G' As} q1 q2 q3 q4 q5=>
  ⟨(o',i+1,T',G'),oi,⟨n5,q1,q2,q3,q4,aa.tG (As:=[_,_,_]) (q5.aF 3 [0,1,2])⟩,n5⟩
 have F3:=gA.up hF H3.ac;refine F3.1.lm i n2 n3 ?_;obtain⟨ad,bk⟩:=Fix.row F3 ao;obtain⟨c,hc⟩:=I3 (d.l[i])
 rw[<-hc]at ad E;have b5:n1 c=64:=by rw[hc];exact ok.cell _ (qf ao)
 refine(IY (rs[i]'n3) c h3 ad n3 bk).I2 λy h4 Q=>⟨(y,(dt c).isSome),n2,?_⟩
 try dsimp only
 rcases Q with⟨htr,R4⟩|⟨r,htr,R4⟩
 .have hg:gp m c=dB:=by unfold gp;rw[htr]
  rw[hg,vT,qR]at E;have H4:=H3.up R4.ac;refine H4.alloc af n2 λA h5 H5=>?_;refine H5.storeAll af 3 n2 n2 (bB y) n2 n2 n2 n2 λh6 M=>?_;rw[htr];exact aE (aU (λ_=>next n3 u V (by rw[E];exact hO) M) λe=>oj)
 have H4:=H3.comp R4;refine H4.alloc af n2 λA h5 H5=>?_;refine H5.storeAll af 4 n2 n2 (bB y) n2 n2 n2 n2 λh6 M=>?_;rw[htr];have N:=M.eAt 3 n2;have ah:Tr y r:=⟨N.1.1,N.1.2.1,N.1.2.2.1⟩
 by_cases e2:dJ m r=eH
 rotate_left
 .have e2:dJ m r=eL:=v7
  refine aE (aU (λe=>oj) λ_=>?_);refine⟨z,(M.box 2 n2).aw _ n2,y,(M.box 4 n2).aw _ n2,(DO z m y r h6 (a.up M.ac) hz N).I1 λh7 R7=>?_⟩;have hg:gp m c=dB:=by unfold gp;rw[htr];exact m6 E4
  rw[hg,vT,qR]at E;rw[e2];exact⟨_,n2,aU (λ_=>next n3 u V (by rw[E];exact hO) (M.up R7.ac)) λe=>oj⟩
 have hg:gp m c=cO r:=by unfold gp;rw[htr];exact l0 e2
 rw[hg,Option.toList_some]at E;have am:(T.map zk).length=n1 T:=qp _;refine bj (λ_ h'=>Sp h h' [bU o (T.map qF),gb G,aj J 27 (az z),EA cG y r,aj A 144 (bB y)]) ?_ ?_
 .refine aU (λe=>oj) λ_=>?_;refine⟨z,(M.box 2 n2).aw _ n2,y,(M.box 4 n2).aw _ n2,(DO z m y r h6 (a.up M.ac) hz N).I1 λh7 R7=>?_⟩;rw[e2];exact⟨_,n2,aU (λe=>oj) λ_=>M.up R7.ac⟩
 rintro _ h7 H7;have ab:∀j (hj:j<n1 T),Tr T[j].1 T[j].2:=λj hj=>V _ (u _ (qf hj));refine bj (λ(t:Int) h'=>∃n:Nat,t=n/\n<=n1 T/\(∀x∈(T.map zk).drop n,oe r x)/\(∀p:0<n,∀hn:n<=n1 T,¬oe r (T[n-1]'n3).2)/\Sp h h' [bU o (T.map qF),gb G,aj J 27 (az z),EA cG y r,aj A 144 (bB y)]) ?_ ?_
 .have Y:=(H7.own 0 n2).len;rw[qp]at Y;refine ak (λn:Nat=>(n:Int)) (λn h'=>n<=n1 T/\(∀x∈(T.map zk).drop n,oe r x)/\Sp h h' [bU o (T.map qF),gb G,aj J 27 (az z),EA cG y r,aj A 144 (bB y)]) (λn=>n) T.length (by rw[Y]) ⟨qk _,by rw[<-am,y0];exactλx a=>E3,H7⟩ ?_;rintro n h8 ⟨hn,hd,H8⟩
  try dsimp only
  refine aE (ae (λe=>?_) λe=>?_)
  rotate_left
  .have U:n=0:=n3
   exact⟨I4,n,n2,hn,hd,λp _=>absurd p n3,H8⟩
  have U:0<n:=n3
  have L:n-1<n1 T:=n3
  rw[show qe xV ((n:Int)-1)=((n-1:Nat):Int)by rw[ag _];omega];refine⟨y,(H8.box 4 n2).aw _ n2,(H8.seq 0 n2 λ_=>rfl).cH (g:=bB) (n-1) n2 (by rw[qp];exact L) T[n-1].1 (by rw[zB]) ?_⟩;refine(HL y T[n-1].1 r T[n-1].2 h8 ah (ab _ L)).I1 λh9 R9=>?_;have H9:=H8.up R9.ac;refine⟨_,n2,I4,aU (λe3=>?_) λe3=>?_⟩
  .refine⟨n-1,n2,⟨n3,λx a=>?_,H9⟩,n3⟩;rw[List.drop_eq_getElem_cons (by rw[am];exact L),show n-1+1=n by omega,zB]at a;rcases qQ.1 a with rfl|a
   .exact DN.1 e3
   .exact hd x a
  .exact⟨n,n2,hn,hd,λ_ _=>NO.1 e3,H9⟩
 rintro _ b0 ⟨n,rfl,hn,hd,a4,Z⟩;have I:=hO.step (r:=r) (k:=n) (by rw[am];exact hn) hd (λp=>by rw[zB];exact a4 p hn);rw[<-E]at I;refine bj (λ(t:Bool) h'=>((t=eH/\(n=0∨∃p:0<n,oe (T[n-1]'n3).2 r))∨(t=eL/\∃p:0<n,¬oe (T[n-1]'n3).2 r))/\Sp h h' [bU o (T.map qF),gb G,aj J 27 (az z),EA cG y r,aj A 144 (bB y)]) ?_ ?_
 .refine aV (λe3=>⟨I4,.inl ⟨n2,.inl n3⟩,Z⟩) λe3=>?_;have U:0<n:=n3
  have L:n-1<n1 T:=n3
  rw[show qe xV ((n:Int)-1)=((n-1:Nat):Int)by rw[ag _];omega];refine(Z.seq 0 n2 λ_=>rfl).cH (g:=bB) (n-1) n2 (by rw[qp];exact L) T[n-1].1 (by rw[zB]) ?_;refine⟨y,(Z.box 4 n2).aw _ n2,(HL T[n-1].1 y T[n-1].2 r b0 (ab _ L) ah).I1 λbd a9=>?_⟩;refine⟨_,n2,I4,?_,Z.up a9.ac⟩;by_cases hl:oe T[n-1].2 r
  .exact .inl ⟨DN.2 hl,.inr ⟨U,hl⟩⟩
  .exact .inr ⟨NO.2 hl,U,hl⟩
 rintro t bd ⟨w,B⟩;rcases w with⟨rfl,w⟩|⟨rfl,w⟩
 rotate_left
 .refine aU (λe=>oj) λ_=>next n3 u V (I.2 ?_) B
  obtain⟨p,hl⟩:=w;exact⟨p,by rw[zB];exact hl⟩
 refine aU (λ_=>?_) λe=>oj
 have ap:=I.1 (w.imp_right λ⟨p,hl⟩=>⟨p,by rw[zB];exact hl⟩);have br:=B.box 4 n2;have Y:=(B.own 0 n2).len;have a0:=(B.own 0 n2).cap;rw[qp]at Y;obtain⟨T',S⟩:∃T',T'=T.take n++(y,r)::T.drop n:=⟨_,rfl⟩
 have a5:T'.map qF=(T.map qF).take n++([y]++(T.map qF).drop n):=by rw[S,qG,wq,xK,xu];rfl
 have a2:T'.map zk=(T.map zk).take n++r::(T.map zk).drop n:=by rw[S,qG,wq,xK,xu]
 have bl:n1 T'<=i+1:=by rw[S,qq,zc,qB,qJ];omega
 rw[<-a2]at ap;refine⟨y,br.aw _ n2,⟨zi _,wG.2 n3⟩,?_⟩;rw[qj];have tk:∀{h':hY} {As:List HP},Sp h h' (bU o (T.map qF)::As)->Rd h' ⟨o.ptr,n,n⟩ 8 bB ((T.map qF).take n):=λH=>
  have q:=(H.seq 0 n2 λ_=>rfl).take n (by rw[qp];exact hn)
  ⟨q.len,q.elem⟩
 have held:∀{h':hY} {As:List HP},Sp h h' (bU o (T.map qF)::gb G::aj J 27 (az z)::EA cG y r::aj A 144 (bB y)::As)->hU h' A=cO (xP xV y.1)/\hU h' (A.add 1)=cO (xP xV y.2.1)/\hU h' (A.add 2)=cO (xP xV y.2.2.1)/\hU h' (A.add 3)=cO (xP xV y.2.2.2.1)/\hU h' (A.add 4)=cO (xP xV y.2.2.2.2.1)/\hU h' (A.add 5)=cO (xP xV y.2.2.2.2.2.1)/\hU h' (A.add 6)=cO (xP xX y.2.2.2.2.2.2.1)/\hU h' (A.add 7)=cO (xQ y.2.2.2.2.2.2.2.ptr y.2.2.2.2.2.2.2.len y.2.2.2.2.2.2.2.cap)/\True:=λH=>by
  have F:=H.box 4 n2;exact⟨F.cell0 n2,F.cell n2,F.cell n2,F.cell n2,F.cell n2,F.cell n2,F.cell n2,F.cell n2,I4⟩
 have fin:∀{h':hY} (v:Sl) {As:List HP},Sp h h' (bU o (T.map qF)::gb G::aj J 27 (az z)::EA cG y r::aj A 144 (bB y)::bU v ([y]++(T.map qF).drop n)::As)->
   bC xZ (zb #[156,156] 156 #[xQ o.ptr n n,v]) (.one (.sc .slc)) h' λv25 R=>(bF.ok [] R)/\
    ∃f:Sl×Nat×List (bw×ct)×List (bw×ct),((⟨v25.ptr,v25.len,v25.cap⟩:Sl),(qe xV ((i:Int)+1):Int))=(f.1,(f.2.1:Int))/\(f.2.1<=n1 d.l/\f.2.2.1.length<=f.2.1/\(∀x∈f.2.2.1,x∈f.2.2.2)/\Keyed f.2.2.2/\lQ ((d.l.take f.2.1).filterMap (gp m)) (f.2.2.1.map zk)/\Sp h R [bU f.1 (f.2.2.1.map qF),gb f.2.2.2,aj J 27 (az z)])/\d.l.length-f.2.1<n1 d.l-i:=λ{h'} v As H=>by
  have ay:=(H.own 5 n2).len;rw[qq,wX]at ay;have HH:=aa.tG (As:=[_,_,_]) (H.aF 6 [1,2,3]);refine HH.Ep (s:=⟨o.ptr,n,n⟩) af Bp ⟨_,_,n2,n2⟩ n2 n4 (λ_=>rfl) (tk H) (qk _) n5 (H.seq 5 n2 λ_=>rfl) n7 λv25 R al=>⟨I4,?_⟩
  have al:Sp h R [gb G,aj J 27 (az z),EA cG y r,bU v25 (T'.map qF)]:=by rw[a5];exact al
  have bq:=al.merge 0 2 n4 n2 n2 (D:=gb (G++[(y,r)])) (λq1 q2 _ p1 p2 t w=>by
   rcases qu.1 w with w|w
   .exact cG.mono (p1 t w) λ_ F=>.inl F
   .rw[qA.1 w];exact cG.mono p2 λ_ F=>.inr F)
  refine next (As:=[]) bl (λx a=>?_) (λx a=>?_) ap (bq.bs [3,0,1])
  .rw[S]at a;rcases qu.1 a with a|a
   .exact qu.2 (.inl (u x (zP a)))
   .rcases qQ.1 a with a|a
    .exact qu.2 (.inr (by rw[a];simp))
    .exact qu.2 (.inl (u x (yT a)))
  .rcases qu.1 a with a|a
   .exact V x a
   .rw[qA.1 a];exact ah
 have app:∀{h':hY} {v:Sl} {K:Sl->hY->Prop},Sp h h' [bU o (T.map qF),gb G,aj J 27 (az z),EA cG y r,aj A 144 (bB y),bU v [y]]->(∀P X,Sp h X [bU o (T.map qF),gb G,aj J 27 (az z),EA cG y r,aj A 144 (bB y),bU P ([y]++(T.map qF).drop n)]->K P X)->
   bC xZ (zb #[156,156] 156 #[v,.slice (if o.cap=n then o.ptr else o.ptr.map (·.add (n*8))) (o.len-n) (o.cap-n)]) (.one (.sc .slc)) h' K:=λ{h' v K} H V=>
  H.append af 5 n2 Bp ⟨_,_,n2,n2⟩ n2 n4 (λ_=>rfl) ((H.seq 0 n2 λ_=>rfl).drop n a0) Qm n7 λP X H'=>V P X H'
 refine⟨?_,?_⟩
 .refine hJ af Bp n n2 n2 n3 ⟨held B,?_⟩;refine B.lit af bB Bp n2 [y] n2 (show 1*8<=2^20 by decide) o0 λv b1 W=>⟨I4,?_⟩
  exact app W λP ax O=>⟨I4,fin P O⟩
 .refine B.lit af bB Bp n2 [y] n2 (show 1*8<=2^20 by decide) o0 λv b1 W=>⟨I4,?_,?_⟩
  .refine hJ af Bp n n2 n2 n3 ⟨I4,?_⟩;exact app W λP ax O=>⟨I4,fin P O⟩
  .refine app W λP ax O=>⟨I4,?_⟩
   exact hJ af Bp n n2 n2 n3 ⟨I4,fin P O⟩
theorem nf{m:aA}:(bI m).length<=9:=by
 cases h:bH m with
 |true=>exact acC h
 |false=>
  have a:gC m=[]:=by unfold gC;rw[h];rfl
  have:bI m=[]:=by unfold bI fj;rw[a];rfl
  rw[this];exact qT _
variable {b pw:fY} {d:bu} {s sb:Sl} {rs:List Sl} {m:aA} {h:hY}
theorem Pw(z:aY)(O:bR h b 161 (dE pw d s sb))(T:gA (ga 1 ar) 1 bv h s rs d.l)(ok:fd d)(L:cj h z m)(M:bG m):
  an xZ 179 #[xR (cO b),cu z] h λv h'=>v=xT (jl m d.l)/\Sp h h' []:=by
 refine ts Tryz.func179 ?_ (G7 (G7 (E8 (G7 (F8 (G0 [(16,aH)] [(4,5),(6,8),(9,10),(16,39)] (G7 (G7 (E8 (F8 (G7 (G7 (Hf [(7,mH),(25,aH)] [(7,8),(9,10),(25,36)])))) E9)))))) E9))) (args:=[(cO b),z]);have K:=ok.len;have I:=ok.room;refine(Sp.refl h).boxed λa1 V H=>?_;refine⟨z,(H.box 0 n2).aw _ n2,(Dx z m V (L.up H.ac) M).I1 λY Z=>?_⟩;have x:=H.up Z.ac;refine⟨_,n2,aI (λg=>⟨by unfold jl;rw[g];rfl,.zip x.ac⟩) λg=>?_⟩;refine⟨z,(x.box 0 n2).aw _ n2,(mg z m Y (L.up x.ac) M).I2 λJ h3 Q=>?_⟩;refine⟨J,n2,?_⟩;obtain⟨P,w⟩:=I3 (bI m)
 rw[<-w]at Q;have N:=x.comp Q;have ad:J.len=n1 P:=(aa.lI (N.bs [1])).1;have ab:n1 P<=2^20:=by rw[w];exact q7 (nf (m:=m)) n4
 have R:jl m d.l=P.all λp=>decide (p∈d.l):=by unfold jl;rw[g,w];rfl
 refine ak (λi:Nat=>(i:Int)) (λi h'=>i<=n1 P/\((P.take i).all λp=>decide (p∈d.l))=eH/\Sp h h' [aj a1 27 (az z),cg J P]) (λi=>n1 P-i) 0 n2 ⟨qT _,n2,N⟩ ?_;rintro i S ⟨hi,f,r⟩
 try dsimp only
 refine ae (λe=>?_) λe=>?_
 rotate_left
 .have G:i=n1 P:=n3
  rw[G,qy]at f;exact⟨by rw[R,f],.zip r.ac⟩
 have a:i<n1 P:=n3
 have D:((P.take (i+1)).all λp=>decide (p∈d.l))=decide (P[i]∈d.l):=by rw[aC _ _ a,wz,f,yF,vF,wj,xv]
 refine eu.get (aa.BN (r.bs [1]) λ_=>rfl) i n2 a λW F=>?_;have A:=O.ac r.ac O.lt;have y:=gA.up T r.ac;refine⟨b,n2,s,A.cell n2,?_⟩;refine ak (λj:Nat=>(decide (P[i]∈d.l.take j),(j:Int))) (λj h'=>j<=n1 d.l/\h'=S) (λj=>n1 d.l-j) 0 n9 ⟨qT _,n2⟩ ?_;rintro j B ⟨hj,rfl⟩
 try dsimp only
 have X:=y.1.len;have U:=y.2.1;refine ae (λe2=>?_) λe2=>?_
 .have o:j<n1 d.l:=n3
  refine y.1.lm j n2 n3 ?_;have u:=(Fix.row y o).1;have next:∀{h':hY} {c:Bool},c=decide (P[i]∈d.l.take (j+1))->h'=B->∃t:Nat,(c,qe xV ((j:Int)+1))=(decide (P[i]∈d.l.take t),(t:Int))/\(t<=n1 d.l/\h'=B)/\d.l.length-t<n1 d.l-j:=λ{h' c} hc hh=>
   ⟨j+1,by rw[ag _,hc];rfl,⟨o,hh⟩,n3⟩
  have k:decide (P[i]∈d.l.take (j+1))=(decide (P[i]∈d.l.take j)||decide (P[i]=d.l[j])):=by rw[aC _ _ o,<-Bool.decide_or,decide_eq_decide,qu,qA]
  refine aU (λq=>next (by rw[k,q];rfl) n2) λq=>?_;refine(lM W (rs[j]'n3) P[i] d.l[j] B F u ?_).mono ?_
  .have:=sw (m:=m) (c:=P[i]) (by rw[<-w];exact qf a);omega
  rintro _ _ ⟨rfl,rfl⟩;exact⟨_,n2,next (by rw[k,q,yw]) n2⟩
 .have E:j=n1 d.l:=n3
  rw[E,qy];refine aI (λq=>⟨?_,.zip r.ac⟩) λq=>⟨i+1,oi,⟨a,by rw[D,q],r⟩,n3⟩
  rw[R];congr 1;exact(wg.2 ⟨P[i],qf a,by rw[q];simp⟩).symm
theorem Ts(z:aY)(F:bR h b 161 (dE pw d s sb))(G:gA (ga 1 ar) 1 bv h s rs d.l)(ok:fd d)(H:cj h z m)(I:bG m):
  an xZ 266 #[xR (cO b),cu z] h λv h'=>∃r:Sl,v=r/\Sp h h' [cg r (kD m d.l)]:=by
 refine ts Tryz.func266 ?_ (G7 (G7 (Hf [(5,bN),(12,aH)] [(5,6),(7,8),(12,22)]))) (args:=[(cO b),z]);have A:=ok.len;have p:=ok.room;refine(Sp.refl h).boxed λa1 j i=>?_;have w:=F.ac i.ac F.lt;refine⟨z,(i.box 0 n2).aw _ n2,(Cd b pw d s sb rs z m j w (gA.up G i.ac) ok (H.up i.ac) I).mono ?_⟩;rintro _ O ⟨y,T,rfl,B,hK,P⟩;refine⟨y,n2,?_⟩;have V:n1 T<=512:=by have j:=congrArg List.length B;rw[qp]at j;have:=iX m d.l;omega
 have D:=((P.comp (Sp.refl O)).bs [0,1]|>λR=>(aa.kc (i.comp R) 41 5 1 ar).bs [0,2,3])
 have K:y.len=n1 T:=by rw[(D.own 1 n2).len,qp]
 refine ak (λt:Sl×Nat=>(t.1,(t.2:Int))) (λt h'=>t.2<=n1 T/\Sp h h' [cg t.1 (((T.map zk).take t.2).map gg),bU y (T.map qF),gb T]) (λt=>n1 T-t.2) (⟨dB,0,0⟩,0) n2 ⟨qT _,D⟩ ?_;rintro⟨o,k⟩ h3 ⟨L,c⟩;dsimp only at L c⊢;refine ae (λe=>?_) λe=>?_
 rotate_left
 .have u:k=n1 T:=n3
  rw[u,<-qp (f:=zk),qy,B]at c;exact⟨o,n2,c.bs [0]⟩
 have a:k<n1 T:=n3
 refine(c.seq 1 n2 λ_=>rfl).cH (g:=bB) k n2 (by rw[qp];exact a) T[k].1 (by rw[zB]) ?_;refine c.alloc af n2 λa7 X J=>?_;refine J.storeAll af 3 n2 n2 (bB T[k].1) n2 n2 n2 n2 λE x=>?_;have S:fk cG E T[k].1 T[k].2:=x.at 2 n2 T[k] (qf a);refine⟨T[k].1,(x.box 3 n2).aw _ n2,(un T[k].1 T[k].2 E S).I2 λQ Y U=>?_⟩;have M:=(x.comp U).aF 5 [0,4,1,2];refine⟨Q,n2,M.nG af cM n7 λN Z W=>?_⟩;refine⟨(N,k+1),n8,⟨a,?_⟩,n5⟩
 try dsimp only
 have q:k<(T.map zk).length:=by rw[qp];exact a
 rw[aC _ _ q,qG,List.map_singleton,zB];exact aa.tG (As:=[_,_,_]) (W.aF 3 [0,1,2])
theorem HM(z:aY)(o:bR h b 161 (dE pw d s sb))(p:gA (ga 1 ar) 1 bv h s rs d.l)(ok:fd d)(j:cj h z m)(k:bG m):
  an xZ 197 #[xR (cO b),cu z] h λv h'=>∃r:Sl,v=r/\Sp h h' [cg r (gu m d.l)]:=by
 refine ts Tryz.func197 ?_ E9 [(1,(.l [0,2,3,1,4,5,6]))] (args:=[(cO b),z]);have i:=ok.len;have g:=ok.room;refine(Sp.refl h).boxed λH t f=>?_;have e:=f.box 0 n2;refine⟨z,e.aw _ n2,z,e.aw _ n2,(mg z m t (j.up f.ac) k).I2 λA E w=>?_⟩;have c:=f.comp w;have a:=c.box 0 n2;refine⟨A,n2,⟨a.cell0 n2,a.cell n2,a.cell n2,a.cell n2,a.cell n2,a.cell n2,a.cell n2,a.cell n2,I4⟩,?_⟩;refine(Ts z (o.ac c.ac o.lt) (gA.up p c.ac) ok (j.up c.ac) k).I2 λB h3 x=>?_;have u:=(c.comp x).bs [1,2];have F:(kD m d.l).length<=512:=by unfold kD;rw[qp];have:=iX m d.l;omega
 have G:=nf (m:=m);refine⟨B,n2,I4,u.Qd af cM ⟨_,_,n2,n2⟩ n3 λy D q=>⟨I4,y,n2,q⟩⟩
end
theorem HN(s:Sl)(l:Row)(h:hY)(a:Rd h s 1 ar l)(f:n1 l<=2^30):an xZ 27 #[s] h λv h'=>∃r:Sl,v=r/\Sp h h' [ai 5 r 1 ar l]:=by refine ts Tryz.func27 ?_;have d:=a.len;rw[ag _];refine(Sp.refl h).make af ar cN n4 0 n2 n2 0 (s.len+2) n2 n3 n3 n3 λo g _ _ b=>?_;refine b.append af 0 n2 cN uh n2 n4 (λ_=>rfl) (Seq.up a b.ac) cD n7 λr e c=>?_;exact⟨r,n2,c⟩
theorem NP(s:Sl)(M:aO)(h:hY)(f:eu h s 1 ar M)(u:n1 M<=2^30)(m:∀r∈M,n1 r<=2^30):an xZ 267 #[s] h λv h'=>∃r:Sl,v=r/\Sp h h' [cg r M]:=by
 refine ts Tryz.func267 ?_ (G7 (G7 (Hf [(3,bN),(8,aH)] [(3,4),(5,6),(8,18)])));have j:=f.len;refine ak (λt:Sl×Nat=>(t.1,(t.2:Int))) (λt h'=>t.2<=n1 M/\Sp h h' [cg t.1 (M.take t.2)]) (λt=>n1 M-t.2) (⟨dB,0,0⟩,0) n2 ⟨n9,(Sp.refl h).kc 41 5 1 ar⟩ ?_;rintro⟨o,k⟩ g ⟨q,b⟩;dsimp only at*;refine ae (λe=>?_) (λe=>?_)
 .have a:k<n1 M:=n3
  refine(f.up b.ac).get k n2 a λr d=>?_;refine(HN r _ g d (m _ (qf _))).I2 λc w l=>⟨c,n2,?_⟩;refine aa.nG af (b.comp l) cM n7 λp h3 i=>?_;refine⟨(p,k+1),n8,⟨n5,?_⟩,n5⟩
  try dsimp only
  rw[aC _ _ a];exact i
 .rw[qh n3]at b;exact⟨o,n2,b⟩
variable {d:bu}
section
variable {pw:fY}
theorem KN(x:Sl)(l:dS)(H:aa B h0 h (ij pw a d::gc pw w::As))(S:St B h0 As λh=>eu h x 1 ar l)(hl:n1 l<=2^20)(F:∀c∈l,n1 c<=2^20):
  an xZ 198 #[xR (cO a),x] h λv h'=>v=xP xV (d.rewrite w l).1/\aa B h0 h' (ij pw a (d.rewrite w l).2.2::gc pw (d.rewrite w l).2.1::As):=by
 refine ts Tryz.func198 ?_ (G7 (Hf [(9,aH)] [(4,6),(9,19)]));have Q:=S.at [_,_] H;have ab:=Q.len;have j:∀(e:Int),d.rewrite w l=(e,w,d)->(Value.int .i64 e=xP xV (d.rewrite w l).1/\aa B h0 h (ij pw a (d.rewrite w l).2.2::gc pw (d.rewrite w l).2.1::As)):=λe z=>by
  rw[z];exact⟨n2,H⟩
 refine ak (λi:Nat=>(i:Int)) (λi h'=>i<=n1 l/\((l.take i).all λb=>decide (n1 b=64))=eH/\h'=h) (λi=>n1 l-i) 0 n2 ⟨qT _,n2,n2⟩ ?_;rintro i h' ⟨hi,g,z⟩;rw[z];clear z
 try dsimp only
 refine ae (λe=>?_) λe=>?_
 .have k:i<n1 l:=n3
  refine Q.get i n2 k λr L=>?_;have W:=L.len;refine bt (λp=>j 1 ?_) λp=>⟨i+1,oi,⟨k,?_,n2⟩,n3⟩
  .have:(l.all λb=>decide (n1 b=64))=eL:=wg.2 ⟨l[i],qf k,n7⟩;unfold bu.rewrite;rw[this];rfl
  .rw[aC _ _ k,wz,g,yF,vF,m9 (show l[i].length=64 by omega)];rfl
 have N:i=n1 l:=n3
 rw[N,qy]at g;obtain⟨ok,s,b,T⟩:=(id H).jX;have A:=T.box 0 n2;have G:=ok.room;have D:d.rewrite w l=if d.lost then(5,w,d)else if d.room<n1 l then(7,w,d)else if w.off then(14,w,d)else if w.step.1 then(0,w.step.2,{d with l:=l,wait:=0,laid:=[],has:=eL})else(14,w.step.2,{d with laid:=l,has:=eH}):=by unfold bu.rewrite;rw[g];rfl
 have m:∀c∈l,n1 c=64:=λc hc=>by simpa using qU.1 g c hc
 refine⟨a,n2,d.lost,A.cell n2,aU (λp=>j 5 (by rw[D,l0 p])) λp=>?_⟩;refine⟨a,n2,(d.room:Int),A.cell0 n2,ae (λY=>j 7 (by rw[D,m6 (by simp[p]),l0 n3])) λY=>?_⟩;have u:=T.aF 4 [3,0,1,2];obtain⟨lw,U,O⟩:=u.jF;refine⟨a,n2,cO pw,A.cell n2,pw,n2,w.off,(O.box 0 n2).cell0 n2,a,n2,cO pw,A.cell n2,(Bx u).I1 λR q=>?_⟩;have q:=q.aF 4 [1,2,3,0];refine⟨_,n2,?_⟩;have y:¬d.room<n1 l:=n3
 by_cases f:w.off=eH
 .have hs:w.step=(eL,w):=by unfold Pow.step;rw[l0 f]
  rw[hs]at q⊢;rw[D,m6 (by simp[p]),m6 y,l0 f,f];exact aI (λ_=>aI (λe=>oj) λ_=>⟨n2,q.iF ok⟩) λe=>oj
 have o:w.off=eL:=B2
 rw[D,m6 (by simp[p]),m6 y,m6 f,o];have t:∀{K:Sl->hY->Prop},(∀r h3,aa B h0 h3 (aj a 161 (dE pw d s b)::cg s d.l::cg b d.laid::gc pw w.step.2::cg r l::As)->K r h3)->jV xZ 267 #[x] (.one (.sc .slc)) R K:=λ{K} hK=>by
  have J:=S.at [_,_,_,_] q;refine(NP x l R J n3 λr L=>by have:=F r L;omega).I2 λr h3 R3=>⟨r,n2,hK r h3 ((q.bV R3).aF 5 [1,2,3,4,0])⟩
 refine aI (λP=>?_) λP=>?_
 .rw[P,m6 n4];refine aI (λ_=>t λr h3 I=>?_) λe=>oj
  refine⟨a,n2,I.store af 0 n2 n2 4 [xT eH] n2 n2 n2 p8 λV E=>?_⟩;refine⟨a,n2,E.store af 0 n2 n2 5 [r] n2 n2 n2 p8 λZ M=>⟨n2,?_⟩⟩;refine aa.iF (s:=s) (b:=r) ⟨ok.wait,ok.len,ok.room,ok.cell,by show l.length<=d.room;omega,m⟩ ?_;exact M.aF 5 [0,1,4,3]
 .rw[P,l0 rfl];refine t λr h3 I=>?_;refine⟨a,n2,I.store af 0 n2 n2 2 [r] n2 n2 n2 p8 λV E=>?_⟩;refine⟨a,n2,E.store af 0 n2 n2 3 [xP xV 0] n2 n2 n2 p8 λZ M=>?_⟩;refine⟨a,n2,M.store af 0 n2 n2 4 [xT eL] n2 n2 n2 p8 λh6 X=>?_⟩;refine⟨a,n2,X.store af 0 n2 n2 5 [xQ dB 0 0] n2 n2 n2 p8 λh7 H7=>⟨n2,?_⟩⟩;refine aa.iF (s:=r) (b:=⟨dB,0,0⟩) ⟨qT _,by show l.length<=d.room;omega,ok.room,m,qT _,n9⟩ ?_;exact(H7.kc 41 5 1 ar).aF 6 [1,5,0,4]
theorem Tt(H:aa B h0 h (ij pw a d::As)):an xZ 42 #[xR (cO a)] h λv h'=>v=.tuple #[]/\aa B h0 h' (ij pw a d.Iq::As):=by refine ts Tryz.func42 ?_;obtain⟨ok,s,b,k⟩:=(id H).jX;refine⟨a,n2,k.store af 0 n2 n2 2 [xQ dB 0 0] n2 n2 n2 p8 λm f=>?_⟩;refine⟨a,n2,f.store af 0 n2 n2 3 [xP xV 0] n2 n2 n2 p8 λn j=>?_⟩;refine⟨a,n2,j.store af 0 n2 n2 4 [xT eL] n2 n2 n2 p8 λo g=>?_⟩;refine⟨a,n2,g.store af 0 n2 n2 5 [xQ dB 0 0] n2 n2 n2 p8 λp l=>?_⟩;refine⟨a,n2,l.store af 0 n2 n2 6 [xT eH] n2 n2 n2 p8 λh8 i=>⟨n2,?_⟩⟩;refine aa.iF (s:=⟨dB,0,0⟩) (b:=⟨dB,0,0⟩) ⟨qT _,qT _,ok.room,λc e=>oj,qT _,λc e=>oj⟩ ?_;exact((i.kc 41 5 1 ar).kc 41 5 1 ar).aF 5 [2,0,1]
end
variable {s sb:Sl} {rs:List Sl}
section
variable {pw:fY}
theorem acV(n:Int):(if(0:Int)>n then(0:Int)else n)=max n 0:=by split<;>omega
theorem HO(z:aY)(n:Int)(q:bR h b 161 (dE pw d s sb))(g:gA (ga 1 ar) 1 bv h s rs d.l)(ok:fd d)(t:cj h z m)(w:bG m):
  an xZ 132 #[xR (cO b),cu z,xP xV n] h λv h'=>v=xT (rj m d n)/\Sp h h' []:=by
 refine ts Tryz.func132 ?_ (G7 (HF [] [(6,15)] E9)) (args:=[(cO b),z,(n:Int)]);have o:=ok.len;have k:=ok.room;have x:=g.1.len;have y:=g.2.1;refine(Sp.refl h).boxed λE A f=>?_;have a:=q.ac f.ac q.lt;refine aE (aU (λe=>oj) λ_=>⟨b,n2,d.lost,a.cell n2,aU (λe=>⟨B9,.zip f.ac⟩) λe=>?_⟩);have p:rj m d n=(jH d d.l.length n||jH d (gu m d.l).length n):=B9
 rw[acV];refine⟨b,n2,(d.room:Int),a.cell0 n2,b,n2,s,a.cell n2,?_⟩
 try dsimp only
 rw[ag ((d.room:Int)-(s.len:Int)),show(s.len:Int)=(n1 d.l:Int)by omega];refine aU (λj=>⟨⟨a.cell n2,a.cell0 n2,I4⟩,by rw[p];unfold jH;rw[j];rfl,.zip f.ac⟩) λj=>?_;refine⟨b,n2,(d.room:Int),a.cell0 n2,z,(f.box 0 n2).aw _ n2,(HM z a (gA.up g f.ac) ok (t.up f.ac) w).I2 λr D i=>?_⟩;have c:=a.ac i.ac a.lt;have u:=(aa.lI i).1;have B:(gu m d.l).length<=600:=by unfold gu kD;rw[qq,qp];have:=iX m d.l;have:=nf (m:=m);omega
 refine⟨r,n2,⟨c.cell0 n2,c.cell n2,c.cell0 n2,I4⟩,?_,.zip (f.up i.ac).ac⟩;rw[ag ((d.room:Int)-(r.len:Int)),show(r.len:Int)=((gu m d.l).length:Int)by omega,p];unfold jH;rw[j,yw]
theorem KO(z:aY)(n:Int)(h:hY):an xZ 132 #[xR dB,cu z,xP xV n] h λv h'=>v=xT eL/\Sp h h' []:=by refine ts Tryz.func132 ?_ (G7 (HF [] [(6,15)] E9)) (args:=[(dB:bK),z,(n:Int)]);exact(Sp.refl h).boxed λb c a=>aE (aU (λ_=>⟨n2,.zip a.ac⟩) λe=>oj)
theorem KP(z:aY)(n:Int)(h:hY):an xZ 133 #[xR dB,cu z,xP xV n] h λv h'=>v=xP xV 5/\Sp h h' []:=by refine ts Tryz.func133 ?_ (G7 (HF [] [(6,15)] E9)) (args:=[(dB:bK),z,(n:Int)]);exact(Sp.refl h).boxed λb c a=>aE (aU (λ_=>⟨n2,.zip a.ac⟩) λe=>oj)
end
section
variable {pw:fY}
theorem Tu(x:aY)(m:aA)(n:Int)(Q:St B h0 As λh=>cj h x m)(I:bG m)(H:aa B h0 h (ij pw a d::gc pw w::As)):
  an xZ 133 #[xR (cO a),cu x,xP xV n] h λv h'=>v=xP xV (eO m w d n).1/\aa B h0 h' (ij pw a (eO m w d n).2.2::gc pw (eO m w d n).2.1::As):=by
 refine ts Tryz.func133 ?_ (G7 (HF [] [(6,15)] E9)) (args:=[(cO a),x,(n:Int)]);refine(Sp.refl h).boxed λX J R=>?_;have p:=(H.bV R).aF 3 [1,2,0];have f:∀(e:Int) {h':hY},aP (λb=>b<J.size) J h'->eO m w d n=(e,w,d)->(Value.int .i64 e=xP xV (eO m w d n).1/\aa B h0 h' (ij pw a (eO m w d n).2.2::gc pw (eO m w d n).2.1::As)):=λe h' T N=>by
  rw[N];exact⟨n2,((p.up T).aF 3 [0,1])⟩
 obtain⟨ok,s,b,rs,u,t⟩:=aa.ZR p;have G:=ok.len;have F:=ok.room;have O:=t.1.len;have P:=t.2.1;have o:=Q.at [_,_,_] p;refine aE (aU (λe=>oj) λ_=>⟨a,n2,d.lost,u.cell n2,aU (λe=>f 5 (aP.refl _ _) (by unfold eO;rw[l0 e])) λe=>?_⟩);refine⟨x,(p.box 2 n2).aw _ n2,(HO x n u t ok o I).I1 λW i=>?_⟩;refine⟨_,n2,aI (λE=>f 7 i.ac (by unfold eO;rw[m6 C3,E];rfl)) λE=>?_⟩;have g:=u.ac i.ac u.lt;have em:eO m w d n=if jH d d.l.length n then(0,w,d)else d.rewrite w (gu m d.l):=by unfold eO;rw[m6 C3,E];rfl
 refine⟨a,n2,(d.room:Int),g.cell0 n2,a,n2,s,g.cell n2,?_⟩
 try dsimp only
 rw[ag ((d.room:Int)-(s.len:Int)),show(s.len:Int)=(n1 d.l:Int)by omega];refine ae (λM=>f 0 i.ac (by rw[em];exact l0 (m9 n3))) λM=>?_;have A:eO m w d n=d.rewrite w (gu m d.l):=by rw[em];exact m6 (by unfold jH;simp;omega)
 have K:=p.up i.ac;refine⟨x,(K.box 2 n2).aw _ n2,(HM x g (gA.up t i.ac) ok (o.up i.ac) I).I2 λr h3 S=>?_⟩;obtain⟨D,z⟩:=(K.bV S).MF λ_=>rfl;have z:=z.aF 4 [1,2,0];have V:(gu m d.l).length<=600:=by unfold gu kD;rw[qq,qp];have:=iX m d.l;have:=nf (m:=m);omega
 have y:∀c∈gu m d.l,n1 c<=2^20:=λc j=>by
  unfold gu kD at j;rcases qu.1 j with j|j
  .rw[sw j];decide
  .obtain⟨q,k,rfl⟩:=qI.1 j;rw[Xf (Tg.1 (VY k).2.2).1];decide
 refine⟨r,n2,(KN r (gu m d.l) z (St.dN 0 n2 λh' k=>⟨D,k.1,k.2.1,k.2.2⟩) n3 y).I1 λU L=>?_⟩;rw[A];exact⟨_,n2,n2,L.aF 3 [0,1]⟩
end
theorem nV{B:au}{d h:hY}{As:List HP}:∀{rs:List Sl} {b:cR} {L:List (Sl×aD)},aa B d h (ib 1 aq L::(bg 3 1 aq rs b++As))->∃P,(∀p∈rs.zip b,p∈P)/\(∀p∈L,p∈P)/\aa B d h (ib 1 aq P::As)
 |[],_,L,H=>⟨L,λp a=>(by simp at a),λ_ h=>h,H⟩
 |_::_,[],L,H=>⟨L,λp a=>(by simp at a),λ_ h=>h,H⟩
 |r::rs,l::b,L,H=>by
  obtain⟨P,f,c,e⟩:=nV (H.freeze 1 rfl λ_=>rfl).IK;refine⟨P,λp a=>?_,λp a=>c p (qt _ a),e⟩;rcases qQ.1 a with rfl|a
  .exact c _ qS
  .exact f p a
theorem uW(x:aY)(m:aA)(h:hY)(Q:cj h x m)(K:bG m):an xZ 10 #[cu x] h λv h'=>∃(d o:Sl) (a:List dg),v=cu (x.1,x.2.1,x.2.2.1,x.2.2.2.1,x.2.2.2.2.1,x.2.2.2.2.2.1,d,o)/\a.length=m.objs.length/\(∀(j:Nat) r e,a[j]?=cO r->m.objs[j]?=cO e->r.1=e.name/\r.2.1=e.object/\r.2.2.1=e.length)/\
   Sp h h' (ai 3 d 1 aq m.drives::ai 59 o 4 aT a::bg 3 1 aq (a.map λr=>r.2.2.2).reverse (m.objs.map λe=>e.tries).reverse):=by
 refine ts Tryz.func10 ?_ (G7 (G7 (G7 (G7 (Hf [(15,aH)] [(5,6),(15,30)]))))) (args:=[x]);have ad:=K.dr;have ah:=K.ob;refine(Sp.refl h).boxed λz c H1=>H1.alloc af n2 λa2 q I=>?_;refine⟨x.2.2.2.2.2.2.1,(I.box 0 n2).cell n2,?_⟩;refine(I.nil 3 1 aq).append af 2 n2 eK ⟨_,_,n2,n2⟩ n2 n4 (λ_=>rfl) (Q.up I.ac).drives cP n7 λd h3 H3=>?_;refine H3.store af 0 n2 n2 6 [d] n2 n2 n2 o8 λh4 W=>?_;refine⟨x.2.2.2.2.2.2.2,(W.box 0 n2).cell n2,?_⟩;refine W.store af 0 n2 n2 7 [xQ dB 0 0] n2 n2 n2 o8 λh5 T=>?_;obtain⟨M,D⟩:∃M:Sl->aY,M=λo=>(x.1,x.2.1,x.2.2.1,x.2.2.2.1,x.2.2.2.2.1,x.2.2.2.2.2.1,d,o):=⟨_,rfl⟩
 obtain⟨Z,X⟩:∃Z:HP,Z=aj a2 27 [xP xV 0,xP xV 0,xP xV 0,xP xV 0,xP xV 0,xP xV 0,xQ dB 0 0,xQ dB 0 0]:=⟨_,rfl⟩
 have T:Sp h h5 [aj z 27 (az (M ⟨dB,0,0⟩)),Z,ai 3 d 1 aq m.drives,ai 59 ⟨dB,0,0⟩ 4 aT []]:=by rw[D,X];exact T.nil 59 4 aT
 have L:∀o,(M o).2.2.2.2.2.2.2=o:=λo=>by rw[D]
 have am:x.2.2.2.2.2.2.2.len=m.objs.length:=by obtain⟨G,J,U,_⟩:=bW.ku Q.objs;rw[J.len,U]
 refine ak (λt:Sl×List dg=>(t.2.length:Int)) (λt h'=>t.2.length<=m.objs.length/\(∀(j:Nat) r e,t.2[j]?=cO r->m.objs[j]?=cO e->r.1=e.name/\r.2.1=e.object/\r.2.2.1=e.length)/\Sp h h' (aj z 27 (az (M t.1))::Z::ai 3 d 1 aq m.drives::ai 59 t.1 4 aT t.2::bg 3 1 aq (t.2.map λr=>r.2.2.2).reverse ((m.objs.take t.2.length).map λe=>e.tries).reverse)) (λt=>m.objs.length-t.2.length) (⟨dB,0,0⟩,[]) n2 ⟨qT _,λj r e c _=>(by simp at c),T⟩ ?_;rintro⟨o,a⟩ h7 ⟨hi,p,k⟩;dsimp only at hi p k⊢;refine ae (λe=>?_) (λe=>?_)
 .have i:a.length<m.objs.length:=n3
  obtain⟨G,J,U,q3⟩:=bW.ku (Q.up k.ac).objs;have A:a.length<G.length:=n3
  obtain⟨u,V⟩:=I3 (G[a.length])
  obtain⟨E,F⟩:=I3 (m.objs[a.length])
  have s:=q3 a.length A i;rw[<-V,<-F]at s;obtain⟨⟨y1,y2,y3⟩,y4⟩:=s;refine J.cH (g:=aT) a.length n2 A u (by rw[V]) ?_;refine(Sp.refl h7).alloc af n2 λa9 h8 G8=>?_;refine G8.storeAll af 0 n2 n2 (aT u) n2 n2 n2 n2 λh9 G9=>?_;obtain⟨Rs,y⟩:=I3 (bg 3 1 aq (a.map λr=>r.2.2.2).reverse ((m.objs.take a.length).map λe=>e.tries).reverse)
  rw[<-y]at k;have H9:=((k.bV G9).nil 3 1 aq).bf;refine⟨u.2.2.2,(H9.box 1 n2).cell n2,?_⟩;have ab:=(K.nm E (by rw[F];exact qf i)).2;refine H9.append af 0 n2 eK ⟨_,_,n2,n2⟩ n2 n4 (λ_=>rfl) (Seq.up y4 G9.ac) cP n7 λt ao R=>?_;refine R.store af 1 n2 n2 3 [t] n2 n2 n2 o8 λP b=>?_;obtain⟨v,N⟩:∃v:dg,v=(u.1,u.2.1,u.2.2.1,t):=⟨_,rfl⟩
  have b:Sp h P (ai 3 t 1 aq E.tries::aj a9 59 (aT v)::aj z 27 (az (M o))::Z::ai 3 d 1 aq m.drives::ai 59 o 4 aT a::Rs):=by rw[N];exact b
  refine⟨o,by rw[<-L o];exact(b.box 2 n2).cell n2,v,(b.box 1 n2).aw _ n2,?_⟩;refine b.push af 5 n2 kQ n2 n4 (λ_=>rfl) ow v o0 n4 n3 λf al O=>?_;refine O.store af 2 n2 n2 7 [f] n2 n2 n2 o8 λw l=>?_;have l:Sp h w (ai 3 t 1 aq E.tries::aj a9 59 (aT v)::aj z 27 (az (M f))::Z::ai 3 d 1 aq m.drives::ai 59 f 4 aT (a++[v])::Rs):=by
   have e:az (M f)=(az (M o)).set 7 (xQ f.ptr f.len f.cap):=by rw[D];rfl
   rw[e];exact l
  have H:Sp h w (aj z 27 (az (M f))::Z::ai 3 d 1 aq m.drives::ai 59 f 4 aT (a++[v])::bg 3 1 aq ((a++[v]).map λr=>r.2.2.2).reverse ((m.objs.take (a++[v]).length).map λe=>e.tries).reverse):=by
   have e1:bg 3 1 aq ((a++[v]).map λr=>r.2.2.2).reverse ((m.objs.take (a++[v]).length).map λe=>e.tries).reverse=ai 3 t 1 aq E.tries::Rs:=by rw[y,qq,wX,aC _ _ i,qG,qG,List.reverse_append,List.reverse_append,N,<-F];rfl
   rw[e1];exact l.aF 6 [2,3,4,5,0]
  refine⟨(f,a++[v]),by simp only[qq,wX];rw[ag _];rfl,⟨n7,λj r e c q=>?_,H⟩,n7⟩;dsimp only at c⊢;by_cases hj:j<a.length
  .rw[qw hj]at c;exact p j r e c q
  .have S:j=a.length:=by have:=(qm.1 c).1;simp at this;omega
   subst S;rw[ql (qk _),zh]at c;simp at c;rw[qd i,<-F]at q;injection q with q
   subst c;subst q;rw[N];exact⟨y1,y2,y3⟩
 .have B:a.length=m.objs.length:=n3
  rw[B,qy]at k;refine⟨M o,(k.box 0 n2).aw _ n2,?_⟩;rw[X]at k;refine k.storeAll af 1 n2 n2 (az (M o)) n2 n2 n2 n2 λh8 Y=>?_;refine⟨M o,(Y.box 1 n2).aw _ n2,d,o,a,by rw[D],B,p,Y.aF 4 [2,3]⟩
theorem pT(x:aY)(m:aA)(h:hY)(b:cj h x m)(i:bG m):an xZ 10 #[cu x] h λv h'=>∃y:aY,v=cu y/\Sp h h' [be y m]:=by
 refine(uW x m h b i).mono ?_;rintro _ h' ⟨d,o,a,rfl,g,e,H⟩;obtain⟨P,k,_,n⟩:=nV (As:=[ai 3 d 1 aq m.drives,ai 59 o 4 aT a]) ((aa.front (As:=[ai 3 d 1 aq m.drives,ai 59 o 4 aT a]) H).Ax 1 aq);have f:(a.zip m.objs).map qF=a:=List.map_fst_zip n3;refine⟨_,n2,aa.ua (L:=a.zip m.objs) (pool:=P) ⟨b.seq,b.next,b.p,b.extra⟩ (List.map_snd_zip n3) (λp l=>?_) (by rw[f];exact n)⟩;obtain⟨j,q,rfl⟩:=qE l;have c:j<n1 a/\j<n1 m.objs:=by simp at q;omega
 rw[yt];refine⟨e j _ _ (qd c.1) (qd c.2),k _ ?_⟩;rw[List.zip_eq_zipWith,<-List.reverse_zipWith n7,List.mem_reverse,List.mem_iff_getElem];exact⟨j,n7,n9⟩
def kY(l:aD)(n:Int):aD:=l.foldl (λg k=>g.set k.toNat n) (qi 64 0)
abbrev dm(g:aD):aR:=g.map (Sc.enc (.int .i64))
theorem pU(l:aD)(n:Int):(kY l n).length=64:=by
 unfold kY;generalize b:qi 64 (0:Int)=g;have a:n1 g=64:=by rw[<-b];simp
 clear b
 induction l generalizing g with
 |nil=>exact a
 |cons k l ih=>rw[zS];exact ih _ (by rw[qK];exact a)
theorem We(l:aD)(k n:Int):kY (l++[k]) n=(kY l n).set k.toNat n:=by unfold kY;rw[wF];rfl
theorem YB{l:aD}{n:Int}(a:∀k∈l,0<=k/\k<64){k:Int}(b:k∈l):(kY l n).getD k.toNat 0=n:=by
 have c:∀(l:aD) (g:aD),n1 g=64->(∀k∈l,0<=k/\k<64)->(k∈l∨g.getD k.toNat 0=n)->0<=k/\k<64->(l.foldl (λg k=>g.set k.toNat n) g).getD k.toNat 0=n:=by
  intro l
  induction l with
  |nil=>intro g _ _ h _;exact h.elim (λh=>t7) id
  |cons x l ih=>
   intro g e a h b;rw[zS];refine ih _ (by rw[qK];exact e) (λy f=>a y (qt _ f)) ?_ b;by_cases d:k=x
   .refine .inr ?_;subst d;rw[qg,qZ,l0 n2,l0 n3];rfl
   .rcases h with h|h
    .exact .inl ((qQ.1 h).resolve_left d)
    .refine .inr ?_;have:=a x qS;rw[qg,qZ,m6 n3,<-qg];exact h
 exact c l _ n9 a (.inl b) (a k b)
def fJ(m:aA):aA:={m with seq:=m.seq+1}
section
theorem HQ(s:Sl)(l:aD)(n:Int)(h:hY)(g:Rd h s 1 aq l)(A:n1 l<=2^30)(c:∀k∈l,0<=k/\k<64):an xZ 61 #[s,xP xV n] h λv h'=>v=xU (dm (kY l n)).toArray/\Sp h h' []:=by
 refine ts Tryz.func61 ?_ (G7 (G7 (Hf [(10,aH)] [(7,8),(10,18)])));have q:=g.len;refine(Sp.refl h).alloc af n2 λr y t=>t.alloc af n2 λp B o=>?_;refine ak (λi:Nat=>(i:Int)) (λi h'=>i<=n1 l/\Sp h h' [aj r 104 (dm (qi 64 0)),aj p 104 (dm (kY (l.take i) n))]) (λi=>n1 l-i) 0 n2 ⟨qT _,o⟩ ?_;rintro i h3 ⟨D,b⟩
 try dsimp only
 refine ae (λe=>?_) λe=>?_
 .have a:i<n1 l:=n3
  refine(Seq.up g b.ac).aX i n2 a l[i] n2 ?_;have f:=c _ (qf a);refine⟨⟨f.1,f.2⟩,?_⟩;rw[zM];refine b.storeAt af 1 n2 n2 (off:=l[i].toNat) n2 n2 n2 (by rw[qp,pU];omega) λw m=>?_;refine⟨i+1,oi,⟨a,?_⟩,n3⟩;have u:dm (kY (l.take (i+1)) n)=(dm (kY (l.take i) n)).set l[i].toNat (xP xV n):=by rw[aC _ _ a,We];unfold dm;rw[List.map_set]
  rw[u];exact m
 .have d:i=n1 l:=n3
  rw[d,qy]at b;refine⟨kY l n,⟨pU l n,(b.box 1 n2).aw _ (qy ..)⟩,?_⟩;refine b.storeAll af 0 n2 n2 (dm (kY l n)) n2 (by rw[qp,pU]) (by unfold dm;rw[xN];exact qU.2 λx _=>rfl) (by rw[qp,qp,pU];rfl) λz j=>?_;exact⟨kY l n,⟨pU l n,(j.box 0 n2).aw _ (qy ..)⟩,n2,.zip j.ac⟩
variable {B:au} {h0 h:hY} {As:List HP} {a pw:fY} {offs:Int} {da:List bK} {w:Pow} {ds:aG}
theorem HS{b:aR}(H:aa B h0 h (aJ bD a pw b offs da w ds::As))(n:Nat)(e:n<64:=by omega):hU h ((a.add 10).add (n*1))=cO (.pointer (dj da n)):=by obtain⟨ok,d⟩:=aa.cK H;obtain⟨x,f,c⟩:=Nl ok d n e;rw[f];unfold dj;rw[l0 n3,qj,c];rfl
theorem AI{m:aR}{k:Int}{d:bu}(e:bY ds k=cO d)(H:aa B h0 h (aJ bD a pw m offs da w ds::As)):∃(b:fY) (s sb:Sl) (rs:List Sl),dj da k=cO b/\bR h b 161 (dE pw d s sb)/\gA (ga 1 ar) 1 bv h s rs d.l/\fd d:=by
 obtain⟨ok,_⟩:=aa.cK H;rcases gj ok k with⟨h1,_⟩|⟨n,d',b,rfl,hn,h1,h2,h3,h4⟩
 .rw[h1]at e;cases e
 .rw[h2]at e;injection e with e
  subst e;obtain⟨o,c,j⟩:=Qw.aa.fy H h1;rw[h3]at c;injection c with c
  injection c with c
  subst c;obtain⟨f,s,sb,rs,g,i⟩:=aa.ZR j;exact⟨b,s,sb,rs,h4,g,i,f⟩
theorem QH{d:aR}{k:Int}(c:bY ds k=dB)(H:aa B h0 h (aJ bD a pw d offs da w ds::As)):dj da k=dB:=by
 obtain⟨ok,_⟩:=aa.cK H;rcases gj ok k with⟨_,h2⟩|⟨n,d',b,rfl,hn,h1,h2,h3,h4⟩
 .exact h2
 .rw[h2]at c;cases c
theorem pV(x:aY)(H:aa B h0 h (aJ bD a pw (az x) offs da w ds::As)):bA h a 0 (az x):=by obtain⟨ok,b⟩:=aa.cK H;exact b.aw (az x) n2
theorem AJ{a:aD}(c:n1 a=64){n:Nat}(e:n<64){b:fY}(d:bR h b 104 (dm a)):hU h (b.add (n*1))=cO (xP xV (a.getD n 0)):=by rw[zM];refine d.cell ?_;unfold dm;rw[qP,qd n3,qg,qd n3];rfl
theorem Px(x:aY)(m:aA)(k N:Int)(j:0<=k/\k<64)(c:cj h x m)(f:bG m)(H:aa B h0 h (aJ bD a pw (az x) offs da w ds::As)):
  an xZ 132 #[.pointer (dj da k),cu x,xP xV N] h λv h'=>v=xT (nw m ds k N)/\Sp h h' []:=by
 cases hd:bY ds k with
 |none=>
  rw[QH hd H];refine(KO x N h).mono ?_;rintro _ h' ⟨rfl,R⟩;exact⟨by unfold nw;rw[hd],R⟩
 |some d=>
  obtain⟨b,s,sb,rs,g,i,h3,e⟩:=AI hd H;rw[g];refine(HO x N i h3 e c f).mono ?_;rintro _ h' ⟨rfl,R⟩;exact⟨by unfold nw;rw[hd],R⟩
theorem Kp(x:aY)(m:aA)(s:Sl)(l b:aD)(p:n1 b=64)(A:cj h x m)(D:bG m)(y:Rd h s 1 aq l)(J:n1 l<=2^30)(o:∀k∈l,0<=k/\k<64)(H:aa B h0 h (aJ bD a pw (az x) offs da w ds::As)):
  an xZ 63 #[xR (cO a),s,xU (dm b).toArray] h λv h'=>v=xT (iu m ds l λk=>b.getD k.toNat 0)/\Sp h h' []:=by
 refine ts Tryz.func63 ?_ (G7 (Hf [(11,aH)] [(6,7),(8,9),(11,31)])) (args:=[(cO a),s,(xU (b.map (Sc.enc (.int .i64))).toArray)]);have E:=y.len;refine(Sp.refl h).boxed λF I G=>?_;refine ak (λi:Nat=>(i:Int)) (λi h'=>i<=n1 l/\iu m ds (l.take i) (λk=>b.getD k.toNat 0)=eH/\Sp h h' [aj F 104 (dm b)]) (λi=>n1 l-i) 0 n2 ⟨qT _,n2,G⟩ ?_;rintro i K ⟨L,c,f⟩
 try dsimp only
 refine ae (λe=>?_) λe=>?_
 rotate_left
 .have r:i=n1 l:=n3
  rw[r,qy]at c;exact⟨by rw[c],.zip f.ac⟩
 have d:i<n1 l:=n3
 have g:=o _ (qf d);obtain⟨n,j⟩:∃n:Nat,l[i]=(n:Int):=⟨l[i].toNat,n3⟩
 refine(Seq.up y f.ac).aX i n2 d l[i] n2 ?_;have t:=H.up f.ac;rw[j]at g⊢;have u:iu m ds (l.take (i+1)) (λk=>b.getD k.toNat 0)=nw m ds n (b.getD n 0):=by unfold iu at c⊢;rw[aC _ _ d,wz,c,yF,vF,wj,xv,j];rfl
 refine⟨a,n2,⟨g.1,g.2⟩,dj da n,HS t n,a,n2,x,pV x t,⟨g.1,g.2⟩,b.getD n 0,AJ p n3 (f.box 0 n2),?_⟩;refine(Px x m n (b.getD n 0) g (A.up f.ac) D t).I1 λh3 z=>⟨_,n2,I4,aI (λq=>⟨?_,.zip (f.up z.ac).ac⟩) λq=>⟨i+1,oi,⟨d,by rw[u];exact q,f.up z.ac⟩,n3⟩⟩;congr 1;refine(wg.2 ⟨l[i],qf d,?_⟩).symm;rw[j]
 try dsimp only
 rw[qj,q];simp
theorem NQ(x:aY)(m:aA)(k n:Int)(q:0<=k/\k<64)(i:St B h0 As λh=>cj h x m)(e:bG m)(H:aa B h0 h (aJ bD a pw (az x) offs da w ds::As)):
  an xZ 133 #[.pointer (dj da k),cu x,xP xV n] h λu h'=>u=xP xV (fG m w ds k n).1/\aa B h0 h' (aJ bD a pw (az x) offs da (fG m w ds k n).2.1 (fG m w ds k n).2.2::As):=by
 obtain⟨ok,r⟩:=aa.cK H;obtain⟨j,rfl⟩:∃j:Nat,k=j:=⟨k.toNat,n3⟩
 rcases gj ok (j:Int)with⟨e1,e2⟩|⟨n',d,b,e0,e1,e2,e3,e4,e5⟩
 .rw[e2];have es:fG m w ds j n=(5,w,ds):=by unfold fG;rw[e1]
  refine(KP x _ h).I1 λh3 l=>?_;rw[es];exact⟨n2,H.up l.ac⟩
 .rw[e5];have en:j=n':=n3
  subst en;obtain⟨p,c,o⟩:=Qw.aa.fy H e2;rw[e4]at c;injection c with c
  injection c with c
  subst c;have es:fG m w ds j n=((eO m w d n).1,(eO m w d n).2.1,ds.set j (cO (eO m w d n).2.2)):=by unfold fG;rw[e3];simp only[iG,qj]
  refine(Tu x m n (λBs h' g=>i (Bs++[_]) h' (by rw[qo];exact g)) e o).I1 λh3 f=>?_;rw[es];exact⟨n2,Qw.aa.kR (k:=bD) (n:=j) e4 f⟩
theorem HT(x:aY)(m:aA)(s:Sl)(l b:aD)(p:n1 b=64)(q:St B h0 As λh=>cj h x m/\Rd h s 1 aq l)(F:bG m)(N:n1 l<=2^30)(o:∀k∈l,0<=k/\k<64)(H:aa B h0 h (aJ bD a pw (az x) offs da w ds::As)):
  an xZ 64 #[xR (cO a),s,xU (dm b).toArray] h λv h'=>v=xP xV (makes m (λk=>b.getD k.toNat 0) l w ds).1/\
   aa B h0 h' (aJ bD a pw (az x) offs da (makes m (λk=>b.getD k.toNat 0) l w ds).2.1 (makes m (λk=>b.getD k.toNat 0) l w ds).2.2::As):=by
 refine ts Tryz.func64 ?_ (G7 (Hf [(12,aH)] [(6,7),(8,10),(12,34)])) (args:=[(cO a),s,(xU (b.map (Sc.enc (.int .i64))).toArray)]);have J:=(q.at [_] H).2.len;obtain⟨Z,A⟩:=I3 (makes m (λk=>b.getD k.toNat 0) l w ds)
 rw[<-A];refine H.boxed λL M y=>?_;have y:=y.bf;refine ak (λt:Nat×Pow×aG=>(t.1:Int)) (λt h'=>t.1<=n1 l/\Z=makes m (λk=>b.getD k.toNat 0) (l.drop t.1) t.2.1 t.2.2/\aa B h0 h' (aj L 104 (dm b)::aJ bD a pw (az x) offs da t.2.1 t.2.2::As)) (λt=>n1 l-t.1) (0,w,ds) n2 ⟨qT _,A,y⟩ ?_;rintro⟨i,E,j⟩ O ⟨K,c,g⟩;dsimp only at K c g⊢;refine ae (λe=>?_) λe=>?_
 rotate_left
 .have u:i=n1 l:=n3
  rw[u,y0]at c;rw[c];exact⟨n2,g.aF 2 [1]⟩
 have d:i<n1 l:=n3
 rw[He _ _ _ _ _ _ d]at c;have f:=o _ (qf d);obtain⟨n,G⟩:∃n:Nat,l[i]=(n:Int):=⟨l[i].toNat,n3⟩
 refine(q.at [_,_] g).2.aX i n2 d l[i] n2 ?_;have z:=g.aF 2 [1,0];rw[G]at f c⊢;rw[qj]at c;refine⟨a,n2,⟨f.1,f.2⟩,dj da n,HS z n,a,n2,x,pV x z,⟨f.1,f.2⟩,b.getD n 0,AJ p n3 (g.box 0 n2),?_⟩;refine(NQ x m n (b.getD n 0) f (St.cons λBs h' I=>(q Bs h' I).1) F z).I1 λh3 D=>⟨_,n2,I4,bt (λr=>?_) λr=>?_⟩
 .rw[m6 r]at c;rw[c];exact⟨n2,D.aF 2 [0]⟩
 .rw[l0 r]at c;exact⟨(i+1,(fG m E j n (b.getD n 0)).2.1,(fG m E j n (b.getD n 0)).2.2),n8,⟨d,c,D.aF 2 [1,0]⟩,n5⟩
theorem sO(x:aY)(m:aA)(b:ByteArray)(u:cj h x m)(y:bG m)(H:aa B h0 h (aJ bD a pw (az x) offs da w ds::As)):
  an xZ 90 #[xR (cO a),xS b] h λv h'=>v=xP xV (if m.objs.any (dH b)=eH then((m.objs.findIdx (dH b):Nat):Int)else-1)/\Sp h h' []:=by
 refine ts Tryz.func90 ?_ (G7 (Hf [(13,aH)] [(4,7),(13,24)]));obtain⟨ok,G⟩:=aa.cK H;have z:=y.ob;refine⟨a,n2,x.2.2.2.2.2.2.2,G.cell n2,?_⟩;obtain⟨l,t,N,F⟩:=bW.ku u.objs;have I:=t.len;refine ak (λi:Nat=>(i:Int)) (λi h'=>i<=n1 m.objs/\(∀e∈m.objs.take i,dH b e=eL)/\Sp h h' []) (λi=>n1 m.objs-i) 0 n2 ⟨qT _,λe f=>(by simp at f),Sp.refl h⟩ ?_;rintro i M ⟨Q,d,p⟩
 try dsimp only
 refine ae (λe=>?_) λe=>?_
 rotate_left
 .have r:i=n1 m.objs:=n3
  rw[r,qy]at d;rw[m6 (by rw[wu.2 λe f=>by rw[d e f];simp];decide)];exact⟨n2,p⟩
 have c:i<n1 m.objs:=n3
 have k:i<n1 l:=n3
 obtain⟨⟨E,L,K⟩,J⟩:=F i k c;refine(Seq.up t p.ac).cH (g:=aT) i n2 k l[i] n2 ?_;refine p.alloc af n2 λP O D=>?_;refine D.storeAll af 0 n2 n2 (aT l[i]) n2 n2 n2 n2 λh3 q=>?_;refine⟨l[i].1,(q.box 0 n2).cell0 n2,?_⟩;rw[E];have s:(m.objs[i].name.toList==b.toList)=dH b m.objs[i]:=rfl
 try dsimp only
 rw[s];refine aU (λo=>?_) λo=>⟨i+1,oi,⟨c,λe f=>?_,.zip q.ac⟩,n3⟩
 .have A:m.objs.findIdx (dH b)=i:=by rw[List.findIdx_eq c];exact⟨o,λj R=>by rw[d _ (z8.2 ⟨j,n3,n2⟩)]⟩
  rw[l0 (zW.2 ⟨_,qf c,o⟩),A];exact⟨n2,.zip q.ac⟩
 .rw[aC _ _ c,qu,qA]at f;rcases f with f|rfl
  .exact d e f
  .exact o
theorem HU(x:aY)(m:aA)(j:cj h x m)(l:bG m)(o:-1<=m.seq/\m.seq<=2^40)(H:aa B h0 h (aJ bD a pw (az x) offs da w ds::As)):
  an xZ 99 #[xR (cO a)] h λv h'=>∃y:aY,v=cu y/\Sp h h' [be y (fJ m)]:=by
 refine ts Tryz.func99 ?_;refine(Sp.refl h).alloc af n2 λA n g=>?_;refine⟨a,n2,x,pV x (H.up g.ac),(pT x m n (j.up g.ac) l).I2 λy E u=>?_⟩;have r:=g.comp u;refine⟨y,n2,r.alloc af n2 λa5 h3 t=>?_⟩;refine t.storeAll af 2 n2 n2 (az y) n2 n2 n2 n2 λk e=>?_;have f:y.1=m.seq:=(show cj k y m from e.at 1 n2).seq;refine⟨y.1,(e.box 2 n2).cell0 n2,?_⟩
 try dsimp only
 rw[f,ag (m.seq+1)];refine e.gx af 2 n2 n2 [xP xV (m.seq+1)] n2 n2 n2 n9 λs d=>?_;obtain⟨z,c⟩:∃z:aY,z=(m.seq+1,y.2):=⟨_,rfl⟩
 have d:Sp h s [aj A 27 [xP xV 0,xP xV 0,xP xV 0,xP xV 0,xP xV 0,xP xV 0,xQ dB 0 0,xQ dB 0 0],be y m,aj a5 27 (az z)]:=by rw[c];exact d
 refine⟨z,(d.box 2 n2).aw _ n2,?_⟩;refine d.storeAll af 0 n2 n2 (az z) n2 n2 n2 n2 λD i=>?_;refine⟨z,(i.box 0 n2).aw _ n2,z,n2,?_⟩;refine(i.bs [1]).dG 0 n2 λq b=>?_;rw[c];exact⟨n2,b.next,b.p,b.extra,b.drives,b.objs,b.dcap,b.ocap⟩
theorem NR(x y:aY){K:hY->Prop}(H:aa B h0 h (aJ bD a pw (az x) offs da w ds::As))(d:∀h',aa B h0 h' (aJ bD a pw (az y) offs da w ds::As)->K h'):
  av xZ (Instr.storeAt 27 (xR (cO a)) (cu y)) h λ_ h'=>K h':=by
 obtain⟨ok,b⟩:=Qw.aa.jQ H;refine b.gx af 0 n2 n2 (az y) n2 n2 n2 (by simp[dh]) λh' c=>d h' ?_;exact Qw.aa.mJ ⟨n2,ok.la,ok.ls,ok.same⟩ c
end
theorem HV{m:aA}{b:aG}{l:aD}{N a:Int->Int}(h:∀k∈l,N k=a k):iu m b l N=iu m b l a:=by
 unfold iu
 induction l with
 |nil=>rfl
 |cons k l ih=>rw[yF,yF,h k qS,ih λx c=>h x (qt _ c)]
theorem Ag{m:aA}{N a:Int->Int}:∀{l:aD} {w:Pow} {ds:aG},(∀k∈l,N k=a k)->makes m N l w ds=makes m a l w ds
 |[],_,_,_=>rfl
 |k::l,w,ds,h=>by
  unfold makes;rw[h k qS,Ag λx b=>h x (qt _ b)]
theorem Has.make{a:aG}{S:aD}(F:Has a S)(m:aA)(w:Pow)(k n:Int):Has (fG m w a k n).2.2 S:=by
 unfold fG;cases hd:bY a k with
 |none=>exact F
 |some d=>
  obtain⟨j,rfl,b⟩:=kE hd;exact F.set b
theorem Has.makes{m:aA}{N:Int->Int}{S:aD}:∀{l:aD} {w:Pow} {ds:aG},Has ds S->Has (makes m N l w ds).2.2 S
 |[],_,_,F=>F
 |k::l,w,ds,F=>by
  unfold Qw.makes;split
  .exact Has.makes (F.make m w k (N k))
  .exact F.make m w k (N k)
theorem Has.live{a:aG}{l:aD}(h:n1 a=64):Has a (bn a l):=⟨h,λ_ b=>(Qw.pR b).2.imp λ_ h=>h.1⟩
section
variable {pw:fY}
theorem DP(x:aY)(m:aA)(z:aY)(n:aA)(W:St B h0 As λh=>cj h z n)(hz:bG m)(r:bG n)(a0:-1<=m.seq/\m.seq<=2^40)
  (H:aa B h0 h (aJ bD a pw (az x) offs da w ds::be x m::As)):
  an xZ 17 #[xR (cO a),cu z] h λv h'=>v=xP xV (ce m offs w ds n).1/\
   ∃y,aa B h0 h' (aJ bD a pw (az y) offs da (ce m offs w ds n).2.2.1 (ce m offs w ds n).2.2.2::be y (ce m offs w ds n).2.1::As):=by
 refine ts Tryz.func17 ?_ (G7 (G7 (HF [] [(4,5),(10,24)] (G7 (G7 (HF [] [(4,5),(33,43)] (G7 (G7 (G7 (HF [] [(54,61)] E9)))))))))) (args:=[(cO a),z]);refine H.boxed λa1 h1 t=>?_;have t:=t.bf.aF 3 [1,2,0];refine(io t).I0 ⟨_,n2,aU (λe=>?_) λe1=>?_⟩
 .have R:ce m offs w ds n=(14,m,w,ds):=by unfold ce;rw[l0 e]
  rw[R];exact⟨n2,x,t.aF 3 [0,1]⟩
 have u:cj _ z n:=W.at [_,_,_] t;have ay:cj _ x m:=t.at 1 n2;refine aE ?_;refine⟨z,(t.box 2 n2).aw _ n2,(Dx z n _ u r).I1 λh3 R3=>?_⟩;have F:=t.up R3.ac;have ap:=u.up R3.ac;have no:∀{h':hY},aa B h0 h' (aJ bD a pw (az x) offs da w ds::be x m::aj a1 27 (az z)::As)->(bH n=eL∨n.seq≠m.seq+1)->(Value.int .i64 1=xP xV (ce m offs w ds n).1/\∃y,aa B h0 h' (aJ bD a pw (az y) offs da (ce m offs w ds n).2.2.1 (ce m offs w ds n).2.2.2::be y (ce m offs w ds n).2.1::As)):=λ{h'} H' hc=>by
  have R:ce m offs w ds n=(1,m,w,ds):=by
   unfold ce;rw[m6 o7,l0];rcases hc with hc|hc
   .rw[hc];rfl
   .rw[m9 hc,Bool.or_true]
  rw[R];exact⟨n2,x,H'.aF 3 [0,1]⟩
 refine⟨_,n2,I4,aI (λe=>no F (.inl e)) λe2=>?_⟩;have T:=F.box 2 n2;refine⟨z.1,T.cell0 n2,a,n2,x.1,(aa.cK F).2.cell0 n2,?_⟩
 try dsimp only
 rw[u.seq,ay.seq,ag (m.seq+1)];refine bt (λe=>no F (.inr e)) λe3=>?_;refine⟨_,T.cell n2,?_⟩;have al:=gJ e2;have I:∀k∈n.drives,0<=k/\k<64:=gT e2;refine(Ht z.2.2.2.2.2.2.1 n.drives ap.drives n3 I F).I2 λo h5 R5=>?_;obtain⟨live,c⟩:=I3 (bn ds n.drives)
 rw[<-c]at R5;have a3:n1 live<=64:=by rw[c];exact q7 (qO _ _) al
 have f:∀k∈live,0<=k/\k<64:=λk V=>by rw[c]at V;exact I k (qN.1 V).1
 have H5:=(F.bV R5).aF 4 [1,2,3,0];refine⟨o,n2,z,(H5.box 2 n2).aw _ n2,(mg z n h5 (W.at [_,_,_,_] H5) r).I2 λpg h6 R6=>?_⟩;have s:=(aa.lI R6).1;have P:=nf (m:=n);obtain⟨J,S⟩:=I3 ((bI n).length)
 rw[<-S]at s P;have H6:=H5.up R6.ac;have tX:∀{h':hY} {O:Pow} {l:aG} {ah:List HP},aa B h0 h' (aJ bD a pw (az x) offs da O l::be x m::aj a1 27 (az z)::ai 3 o 1 aq live::ah)->Rd h' o 1 aq live:=λH=>H.seq 3 n2 λ_=>rfl;obtain⟨b,d⟩:=I3 (kY live J)
 have i:n1 b=64:=by rw[d];exact pU _ _
 refine⟨pg,n2,?_⟩
 try dsimp only
 rw[s];refine(HQ o live (J:Int) h6 (tX H6) n3 f).I1 λh7 R7=>?_;rw[<-d];refine⟨b,n2,(H6.up R7.ac).alloc af n2 λao h8 H8=>?_⟩;have H8:=H8.bf;refine H8.storeAll af 0 n2 n2 (dm b) n2 (by rw[qp,i]) (by unfold dm;rw[xN];exact qU.2 λx _=>rfl) (by rw[qp,i];rfl) λh9 q=>?_;have q:=q.aF 5 [1,2,3,4,0];obtain⟨N,hN⟩:∃N:Int->Int,N=λ_=>(J:Int):=⟨_,rfl⟩
 have M:∀k∈live,(λk:Int=>b.getD k.toNat 0) k=N k:=λk V=>by rw[hN,d];exact YB f V
 have fin:∀{h':hY} {O:Pow} {l:aG},aa B h0 h' (aJ bD a pw (az x) offs da O l::be x m::aj a1 27 (az z)::ai 3 o 1 aq live::aj ao 104 (dm b)::As)->aa B h0 h' (aJ bD a pw (az x) offs da O l::be x m::As):=λ{h' O l} H'=>H'.aF 5 [0,1];have R:ce m offs w ds n=(if live=[]∨iu m ds live N=eL then(7,m,w,ds)else
   if(makes m N live w ds).1≠0 then((makes m N live w ds).1,m,(makes m N live w ds).2)else
   ((layAll (bo n live) (makes m N live w ds).2.1 (makes m N live w ds).2.2).1,if(layAll (bo n live) (makes m N live w ds).2.1 (makes m N live w ds).2.2).1=0 then n else m,(layAll (bo n live) (makes m N live w ds).2.1 (makes m N live w ds).2.2).2)):=by
  rw[hN,S,c];unfold ce;rw[m6 o7,m6 (by rw[e2,nb (by simpa using e3)];decide)]
 rw[R];have K:=(tX q).len;refine aE (aV (λe=>?_) λe4=>?_)
 .have:live=[]:=List.length_eq_zero_iff.1 n3;rw[l0 (.inl this)];exact⟨n2,x,fin q⟩
 have am:live≠[]:=λh=>e4 (by rw[K,h];rfl);refine⟨b,⟨i,(q.box 4 n2).aw _ (qy ..)⟩,(Kp x m o live b i (q.at 1 n2) hz (tX q) n3 f q).I1 λa5 ab=>?_⟩;have E:=q.up ab.ac;rw[HV M];refine⟨_,n2,aI (λg=>?_) λg=>?_⟩
 .rw[l0 (.inr g)];exact⟨n2,x,fin E⟩
 rw[m6 (by rintro(h|h);exact am h;rw[g]at h;cases h)];refine⟨b,⟨i,(E.box 4 n2).aw _ (qy ..)⟩,(HT x m o live b i (St.and (St.dN 0 n2 λh' D=>D) (St.dN (A:=ai 3 o 1 aq live) 2 n2 λh' D=>D.1.seq (λ_=>rfl) D.2)) hz n3 f E).mono ?_⟩;rw[Ag M];rintro _ a4 ⟨rfl,p⟩;obtain⟨G,Q⟩:=I3 (makes m N live w ds)
 rw[<-Q]at p⊢;refine⟨_,n2,bt (λg2=>?_) λg2=>?_⟩
 .rw[l0 g2];exact⟨n2,x,fin p⟩
 rw[m6 (by simpa using g2)];have U:Has G.2.2 live:=by rw[Q,c];exact Has.makes (Has.live (aa.cK H).1.ls)
 refine⟨z,(p.box 2 n2).aw _ n2,(Ad z n o live (St.and (St.cons (St.cons (St.cons (St.cons W)))) (St.dN (A:=ai 3 o 1 aq live) 2 n2 λh' D=>D.1.seq (λ_=>rfl) D.2)) r n3 U p).I1 λad j=>?_⟩;obtain⟨L,hL⟩:=I3 (layAll (bo n live) G.2.1 G.2.2)
 rw[<-hL]at j⊢;refine⟨_,n2,?_⟩;by_cases X:L.1=0
 .rw[l0 X,X];refine aE (aU (λ_=>?_) λe=>oj);refine⟨z,(j.box 2 n2).aw _ n2,(pT z n ad (W.at [_,_,_,_,_] j) r).I2 λy a6 Z=>?_⟩;have Y:=(j.bV Z).aF 6 [1,0];refine⟨y,n2,a,n2,NR x y Y λa2 ax=>?_⟩;exact⟨n2,y,ax⟩
 .rw[m6 X];refine aE (aV (λe=>absurd e X) λ_=>?_);exact⟨n2,x,fin j⟩
theorem Py(x:aY)(m:aA){k:Int}{d:bu}(i:cj h x m)(j:bG m)(n:bY ds k=cO d)(H:aa B h0 h (aJ bD a pw (az x) offs da w ds::As)):
  an xZ 181 #[.pointer (dj da k),cu x] h λv h'=>∃(r:Sl) (T:List (bw×ct)),v=r/\T.map zk=iB m d.l/\Keyed T/\T.length<=512/\Sp h h' [bU r (T.map qF),gb T]:=by
 obtain⟨b,s,sb,rs,o,q,h3,c⟩:=AI n H;rw[o];refine(Cd b pw d s sb rs x m h q h3 c i j).mono ?_;rintro _ h' ⟨r,T,rfl,g,p,R⟩;refine⟨r,T,n2,g,p,?_,R⟩;have:=iX m d.l;have f:=c.len;have e:=c.room;rw[<-g,qp]at this;omega
theorem Ce(x:aY)(m:aA)(o b:Int)(hx:cj h x m)(hz:bG m)(a4:m.drives.length<=64)(Y:∀y∈m.drives,0<=y/\y<64)(H:aa B h0 h (aJ bD a pw (az x) offs da w ds::As)):
  an xZ 109 #[xR (cO a),xP xV o,xP xV b] h λv h'=>∃(r:Sl) (ys:List (Int×Sl)),v=r/\Sp h h' [cy dZ 2 piv r ys (dW m ds (bn ds m.drives) o b)]:=by
 refine ts Tryz.func109 ?_ (G7 (G7 (E8 (G7 (F8 (G0 [(7,bN),(15,aH)] [(7,8),(9,10),(11,12),(15,55)] (G7 (G7 (E8 (F8 (G7 (G7 (F8 (G0 [(7,bN),(31,aH)] [(7,8),(11,12),(31,54)] E9))))) E9)))))) E9))) [(5,(.l [0,1,2,3,4,5,6,7,8,9,12,10,11]))];refine(mv x m hx hz Y H).I2 λlv X R1=>?_;have a1:=hz.dr;have am:(bn ds m.drives).length<=m.drives.length:=qO _ _;have M:∀k∈bn ds m.drives,0<=k/\k<64:=λk O=>Y k (qN.1 O).1;have ad:∀k∈bn ds m.drives,∃d,bY ds k=cO d:=λk O=>by obtain⟨d,h,_⟩:=aaw O;exact⟨d,h⟩
 obtain⟨c,ah⟩:=I3 (bn ds m.drives)
 rw[<-ah]at R1 am M ad⊢;have a0:=(R1.own 0 n2).len;refine⟨lv,n2,?_⟩;have H1:=((R1.Ax 1 ar).nil 210 2 piv).bs [2,0,1];refine ak (λt:Sl×Nat×List ((Int×Sl)×(Int×aS))×List (Sl×aS)=>(t.1,(t.2.1:Int))) (λt h'=>t.2.1<=c.length/\t.2.2.1.length<=t.2.1*512/\t.2.2.1.map zk=dW m ds (c.take t.2.1) o b/\(∀p∈t.2.2.1,Ex t.2.2.2 p)/\Sp h h' [ai 210 t.1 2 piv (t.2.2.1.map qF),ib 1 ar t.2.2.2,ai 3 lv 1 aq c]) (λt=>c.length-t.2.1) (⟨dB,0,0⟩,0,[],[]) n2 ⟨n9,n9,by simp[dW],n9,H1⟩ ?_;rintro⟨u,i,L,P⟩ h2 ⟨hi,a5,I,W,Z⟩;dsimp only at*;refine ae (λe=>?_) λe=>?_
 rotate_left
 .rw[qh n3]at I;refine⟨u,L.map qF,n2,?_⟩;have H3:=((Z.freeze 0 n2 λ_=>rfl).bs [1,0]).jW;refine H3.dG 0 n2 λq ⟨q1,q2,_,bq,cq,z1,z2⟩=>?_;refine⟨z1.mono bq,by rw[<-I];simp,λj r e X h2=>?_⟩;rw[<-I]at h2;rw[qP]at X h2;cases hj:L[j]? with
  |none=>rw[hj]at X;cases X
  |some p=>
   rw[hj]at X h2;have e1:=wm.inj (show cO p.1=cO r from X);have e2:=wm.inj (show cO p.2=cO e from h2);subst e1;subst e2;obtain⟨k1,k2⟩:=W p (zN hj);exact⟨k1,(z2 _ k2).mono cq⟩
 have E:i<c.length:=n3
 have O:=M _ (qf E);obtain⟨d,U⟩:=ad c[i] (qf E);obtain⟨n,hn⟩:∃n:Nat,c[i]=(n:Int):=⟨c[i].toNat,n3⟩
 refine(Z.seq 2 n2 λ_=>rfl).aX i n2 E c[i] n2 ?_;have Hc:=H.up Z.ac;rw[hn]at O U⊢;refine⟨a,n2,⟨O.1,O.2⟩,dj da n,HS Hc n,a,n2,x,pV x Hc,?_⟩;refine(Py x m (hx.up Z.ac) hz U Hc).mono ?_;rintro _ h4 ⟨r7,T,rfl,hT,hK,a3,R4⟩;obtain⟨f,s⟩:=I3 (iB m d.l)
 rw[<-s]at hT;have ax:f.length=T.length:=by rw[<-hT,qp]
 have H4:=(Z.comp R4)
 have ao:=(H4.own 3 n2).len;rw[qp]at ao;refine⟨r7,n2,I4,?_⟩;have ab:mP m ds o b (n:Int)=kg o b f:=by unfold mP;rw[U];show rN m o b d.l=_;unfold rN kg;rw[s]
 have V:dW m ds (c.take (i+1)) o b=dW m ds (c.take i) o b++kg o b f:=by unfold dW;rw[aC _ _ E,List.flatMap_append,zA,wB,qR,hn,ab]
 obtain⟨Q,hQ⟩:∃Q:List (Sl×aS),Q=T.map λz=>(z.1.2.2.2.2.2.2.2,z.2.data):=⟨_,rfl⟩
 refine ak (λt:Sl×Nat×List ((Int×Sl)×(Int×aS))=>(t.1,(t.2.1:Int))) (λt h'=>t.2.1<=T.length/\t.2.2.length<=L.length+t.2.1/\t.2.2.map zk=dW m ds (c.take i) o b++kg o b (f.take t.2.1)/\(∀p∈t.2.2,Ex (P++Q) p)/\Sp h h' [ai 210 t.1 2 piv (t.2.2.map qF),ib 1 ar P,ai 3 lv 1 aq c,bU r7 (T.map qF),gb T]) (λt=>T.length-t.2.1) (u,0,L) n2 ⟨n9,n9,by simp[kg,I],λp J=>⟨(W p J).1,yM _ (W p J).2⟩,H4⟩ ?_;rintro⟨u2,j,L2⟩ h5 ⟨hj,a2,F,S,H5⟩;dsimp only at*;refine ae (λe2=>?_) λe2=>?_
 rotate_left
 .have N:j=T.length:=n3
  rw[N,<-ax,qy,<-V]at F;have H6:=(H5.dG 4 n2 (D:=ib 1 ar Q) λq hq y hy=>by
   rw[hQ]at hy;obtain⟨z,al,rfl⟩:=qI.1 hy;exact(hq z al).2).bs [1,4,0,2]
  have H7:=aa.Ng H6;exact⟨(u2,i+1,L2,P++Q),n8,⟨n5,n5,F,S,H7.bs [1,0,2]⟩,n5⟩
 have R:j<T.length:=n3
 have N:j<f.length:=n3
 have hy:fk cG h5 T[j].1 T[j].2:=H5.at 4 n2 T[j] (qf R);obtain⟨⟨g1,g2,g3,g4,g5,g6,g7⟩,g8⟩:=hy;have ap:f[j]=T[j].2:=by simp only[<-hT,zB]
 refine(H5.seq 3 n2 λ_=>rfl).cH (g:=bB) j n2 (by rw[qp];exact R) T[j].1 (by rw[zB]) ?_;refine H5.alloc af n2 λa6 h6 H6=>?_;refine H6.storeAll af 5 n2 n2 (bB T[j].1) n2 n2 n2 n2 λh7 H7=>?_;have G:=H7.box 5 n2;have K:kg o b (f.take (j+1))=kg o b (f.take j)++(if(decide (T[j].2.object=o)&&decide (T[j].2.block=b))=eH then[(T[j].2.id,T[j].2.data)]else[]):=by unfold kg;rw[aC _ _ N,zm,qG,zE,w9,ap];split<;>rfl
 have skip:(decide (T[j].2.object=o)&&decide (T[j].2.block=b))=eL->∃A:Sl×Nat×List ((Int×Sl)×(Int×aS)),((⟨u2.ptr,u2.len,u2.cap⟩:Sl),qe xV ((j:Int)+1))=(A.1,(A.2.1:Int))/\(A.2.1<=T.length/\A.2.2.length<=L.length+A.2.1/\A.2.2.map zk=dW m ds (c.take i) o b++kg o b (f.take A.2.1)/\(∀p∈A.2.2,Ex (P++Q) p)/\Sp h h7 [ai 210 A.1 2 piv (A.2.2.map qF),ib 1 ar P,ai 3 lv 1 aq c,bU r7 (T.map qF),gb T])/\T.length-A.2.1<T.length-j:=λhc=>
  ⟨(u2,j+1,L2),n8,⟨n5,n5,by dsimp only;rw[K,hc];simpa using F,S,H7.bs [0,1,2,3,4]⟩,n5⟩
 refine⟨T[j].2.object,by rw[<-g1];exact G.cell0 n2,aV (λq1=>?_) λq1=>skip (by rw[nb q1];rfl)⟩;refine⟨T[j].2.block,by rw[<-g2];exact G.cell n2,aV (λq2=>?_) λq2=>skip (by rw[nb q2,vx])⟩;refine⟨T[j].2.id,by rw[<-g3];exact G.cell n2,T[j].1.2.2.2.2.2.2.2,G.cell n2,?_⟩;refine H7.push af 0 n2 acA n2 n4 (λ_=>rfl) sX (T[j].2.id,T[j].1.2.2.2.2.2.2.2) o0 n4 n7 λu3 a7 ay=>?_;refine⟨(u3,j+1,L2++[((T[j].2.id,T[j].1.2.2.2.2.2.2.2),(T[j].2.id,T[j].2.data))]),n8,⟨n5,n7,?_,λp J=>?_,?_⟩,n5⟩
 .try dsimp only
  rw[qG,F,K,l0 (by rw[m9 q1,m9 q2];rfl),qo];rfl
 .rcases qu.1 J with J|J
  .exact S p J
  .rw[qA.1 J];refine⟨n2,yn _ ?_⟩;rw[hQ];exact qI.2 ⟨T[j],qf R,n2⟩
 .try dsimp only
  rw[qG];exact ay.bs [0,1,2,3,4]
theorem NS(x:aY)(m:aA)(s:Sl)(c:aD)(J:cj h x m)(K:bG m)(E:Rd h s 1 aq c)(P:n1 c<=2^30)(q:∀k∈c,0<=k/\k<64)(u:∀k∈c,∃d,bY ds k=cO d)(H:aa B h0 h (aJ bD a pw (az x) offs da w ds::As)):
  an xZ 107 #[xR (cO a),s] h λv h'=>v=xT (c.any (ph m ds))/\Sp h h' []:=by
 refine ts Tryz.func107 ?_ (G7 (Hf [(9,aH)] [(4,5),(6,7),(9,25)]));have M:=E.len;refine ak (λi:Nat=>(i:Int)) (λi h'=>i<=n1 c/\(c.take i).any (ph m ds)=eL/\Sp h h' []) (λi=>n1 c-i) 0 n2 ⟨qT _,n2,Sp.refl h⟩ ?_;rintro i Q ⟨R,j,p⟩
 try dsimp only
 refine ae (λe=>?_) λe=>?_
 rotate_left
 .have z:i=n1 c:=n3
  rw[z,qy]at j;exact⟨by rw[j],p⟩
 have f:i<n1 c:=n3
 have t:=q _ (qf f);obtain⟨d,o⟩:=u c[i] (qf f);obtain⟨n,r⟩:∃n:Nat,c[i]=(n:Int):=⟨c[i].toNat,n3⟩
 have D:(c.take (i+1)).any (ph m ds)=ph m ds n:=by rw[aC _ _ f,yl,j,vJ,xf,yw,vj,r]
 have G:ph m ds n=jl m d.l:=by unfold ph;rw[<-r,o]
 refine(Seq.up E p.ac).aX i n2 f c[i] n2 ?_;have A:=H.up p.ac;have g:=qf f;rw[r]at t o g⊢;refine⟨a,n2,⟨t.1,t.2⟩,dj da n,HS A n,a,n2,x,pV x A,?_⟩;obtain⟨b,S,sb,rs,I,L,N,O⟩:=AI o A;rw[I];refine(Pw x L N O (J.up p.ac) K).I1 λh3 F=>⟨_,n2,I4,aU (λy=>⟨?_,.zip (p.up F.ac).ac⟩) λy=>⟨i+1,oi,⟨f,by rw[D,G];exact y,p.up F.ac⟩,n3⟩⟩;rw[zW.2 ⟨(n:Int),g,by rw[G];exact y⟩]
theorem Tv(x:aY)(m:aA)(L:bH m=eH)(H:aa B h0 h (aJ bD a pw (az x) offs da w ds::be x m::As)):
  an xZ 36 #[xR (cO a)] h λv h'=>∃r:Sl,v=r/\Sp h h' [ai 9 r 1 pk (mb m offs w)]:=by
 refine ts Tryz.func36 ?_ (G7 (G7 (Hf [(3,bN),(12,aH)] [(3,4),(5,6),(12,25)])));have G:=(aa.cK H).2;have y:cj h x m:=H.at 1 n2;have K:=((ck m).1 L).2.2.2.1;obtain⟨s,F⟩:=bW.fix y.objs;have z:=F.2.1;have u:=F.1.len;obtain⟨N,j⟩:∃N:Nat->List ByteArray,N=λi=>if gO w offs then[]else(m.objs.map Qw.cS.name).take i:=⟨_,rfl⟩
 refine⟨a,n2,x.2.2.2.2.2.2.2,G.cell n2,?_⟩;refine ak (λt:Sl×Nat=>(t.1,(t.2:Int))) (λt h'=>t.2<=n1 m.objs/\Sp h h' [ai 9 t.1 1 pk (N t.2)]) (λt=>n1 m.objs-t.2) (⟨dB,0,0⟩,0) n2 ⟨n9,by rw[j];simpa using(Sp.refl h).nil 9 1 pk⟩ ?_;rintro⟨o,i⟩ Q ⟨J,l⟩;dsimp only at J l⊢;refine ae (λe=>?_) λe=>?_
 rotate_left
 .refine⟨o,n2,?_⟩;have:N i=mb m offs w:=by rw[j];unfold mb;(try dsimp only);rw[qh B5]
  rw[<-this];exact l
 have d:i<n1 m.objs:=n3
 have b:=Fix.row F d;obtain⟨E,q⟩:=I3 (m.objs[i])
 obtain⟨xe,f⟩:=I3 (s[i]'n3)
 rw[<-q,<-f]at b;have p:xe.1=E.name:=b.1.1;refine(Seq.up F.1 l.ac).cH (g:=aT) i n2 n3 xe (by rw[f]) ?_;refine l.alloc af n2 λS h3 D=>?_;refine D.storeAll af 1 n2 n2 (aT xe) n2 n2 n2 n2 λO k=>?_;refine(io (H.up k.ac)).I0 ⟨_,n2,aI (λc=>?_) λc=>?_⟩
 .refine⟨xe.1,(k.box 1 n2).cell0 n2,?_⟩;have I:(N i).length<=i:=by rw[j];(try dsimp only);rw[m6 (by rw[c];decide),qB];omega
  refine k.push af 0 n2 Yx n2 n4 (λ_=>rfl) QF xe.1 n2 n4 n3 λA R M=>?_;refine⟨(A,i+1),n8,⟨n5,?_⟩,n5⟩
  try dsimp only
  have:N (i+1)=N i++[xe.1]:=by
   rw[j];try dsimp only
   rw[m6 (by rw[c];decide),m6 (by rw[c];decide),aC _ _ (show i<(m.objs.map Qw.cS.name).length by simpa using d),zB,<-q,<-p]
  rw[this];exact M.bs [0]
 .refine⟨(o,i+1),n8,⟨n5,?_⟩,n5⟩
  try dsimp only
  have:N (i+1)=N i:=by rw[j];(try dsimp only);rw[l0 c,l0 c]
  rw[this];exact k.bs [0]
end
variable {t t2 e k:Nat} {z:aR} {by_:Nat} {α:Type} {v:Sl} {f:α->aR}
section
variable {C:Ctx} {p q:au}
theorem Pz(c:C.Ok)(j:bS C.toAk t e k z by_)(r:∃i d,C.T.get t2=cO i/\i.co=.slice d)(b:s.len<=s.cap)(l:v.len=0){ty:Nat}{K:Sl->hY->Prop}(o:K s h):
  bC C.P (zb #[t,t2] ty #[s,v]) (.one (.sc .slc)) h K:=by
 obtain⟨A,d,p,q⟩:=r;obtain⟨g,y,u⟩:=s;dsimp only at b⊢;have f:C.P.underlying t2=cO (.slice d):=by have:=c.co p;rw[q]at this;exact iv this
 unfold bC zb;simp only[List.getElem?_toArray,List.getElem?_cons_zero,List.getElem?_cons_succ];refine av.bind (av.always (aK (j.under c)) ?_);refine av.bind (av.always (j.size c) ?_);refine av.bind (av.always (aK f) ?_);refine av.bind (av.pure' ?_);simp only[Bool.false_eq_true,if_false,Bool.not_false,if_true];refine av.bind (av.pure' ?_);rw[l0 n3];have w:Seq h (λ_=>True) v k (λ_:Nat=>qi k (xT eL)) []:=⟨by rw[l];rfl,λi x m=>by simp at m⟩
 refine av.bind (eW (λ_=>n9) w ?_);have fin:av C.P (pure (xQ g (y+v.len) u):Sem Value) h λn h'=>∃a:Sl,n=(Value.slice a.ptr a.len a.cap)/\K a h':=av.pure' ⟨_,by rw[l];rfl,o⟩;cases g with
 |none=>exact fin
 |some a=>exact av.bind (av.pure' fin)
end
def pW(x:aY)(m:aA)(d:List dg):HP:=⟨λh q=>kX h q x m/\Fix eC 4 aT h q x.2.2.2.2.2.2.2 d m.objs,λa c=>⟨a.1.ac c,a.2.ac c⟩,λa b=>⟨a.1.mono b,a.2.mono b⟩⟩
def Tw(T:List (dg×Qw.cS)):HP:=⟨λh q=>∀t∈T,eC.p h q t.1 t.2,λa d t b=>eC.loc (a t b) d,λa c t b=>eC.mono (a t b) c⟩
variable {x:aY}
theorem aa.Wf(H:aa B h0 h (be x m::As)):∃b,aa B h0 h (pW x m b::As):=by
 have c:aa B h0 h (HP.ex (λb=>pW x m b)::As):=H.dG 0 n2 λq a=>by
  obtain⟨b,F⟩:=bW.fix a.objs;exact⟨b,a,F⟩
 obtain⟨b,d⟩:=c.La 0 rfl;exact⟨b,d⟩
theorem aa.Wg{k L:List dg}{T:List (dg×Qw.cS)}{r:Sl}{x2:aY}{m2:aA}(g:x2.1=m2.seq/\x2.2.1=m2.next/\(x2.2.2.1,x2.2.2.2.1,x2.2.2.2.2.1)=m2.p/\x2.2.2.2.2.2.1=m2.extra)(v:x2.2.2.2.2.2.2.1=x.2.2.2.2.2.2.1)(o:m2.drives=m.drives)(A:x2.2.2.2.2.2.2.2=r)
  (J:n1 L=n1 m2.objs) (O:∀p∈L.zip m2.objs,p∈k.zip m.objs∨p∈T) (H:aa B h0 h (pW x m k::ai 59 r 4 aT L::Tw T::As)):aa B h0 h (be x2 m2::As):=by
 have n:=H.own 1 n2;have K:=((H.freeze 1 n2 λ_=>rfl).jW).jW;refine K.dG 0 n2 λq ⟨Q,R,_,b,c,z3,S,U,_,G,D,E,M,F⟩=>?_;refine⟨g.1,g.2.1,g.2.2.1,g.2.2.2,by rw[v,o];exact M.drives.mono λu a=>c u (D u a),⟨L,by rw[A];exact E.mono λu a=>c u (G u a),J,λj y e w z=>?_⟩,by rw[v];exact M.dcap,by rw[A];exact n.cap⟩;have I:=(qm.1 w).1;have N:=(qm.1 z).1;have f:(y,e)∈L.zip m2.objs:=zN (i:=j) (by rw[List.getElem?_zip_eq_some];exact⟨w,z⟩);rcases O _ f with f|f
 .obtain⟨l,d,t⟩:=qE f;rw[yt]at t;have P:k[l]'(by simp at d;omega)=y:=congrArg qF t;have s:m.objs[l]'(by simp at d;omega)=e:=congrArg zk t;have:=F.2.2 l y e (by rw[<-P];exact qd _) (by rw[<-s];exact qd _);exact eC.mono this λu a=>c u (D u a)
 .exact eC.mono (z3 _ f) λu a=>b u a
section
variable {pw:fY}
theorem acW{m:aA}(b:bG m)(n:Nat):bG (pj m n):=by
 have sub:∀e,e∈m.objs.take n++m.objs.drop (n+1)->e∈m.objs:=λe a=>by
  rcases qu.1 a with a|a
  .exact zP a
  .exact yT a
 refine⟨b.dr,?_,λe a=>b.nm e (sub e a)⟩;have:=b.ob;show(m.objs.take n++m.objs.drop (n+1)).length<=_;simp;omega
theorem NT(c:ByteArray)(x:aY)(m:aA)(hm:bH m=eH)(H:aa B h0 h (aJ bD a pw (az x) offs da w ds::be x m::As)):
  an xZ 34 #[xR (cO a),xS c] h λv h'=>v=xP xV (cI m offs w ds c).1/\
   ∃y,aa B h0 h' (aJ bD a pw (az y) offs da (cI m offs w ds c).2.2.1 (cI m offs w ds c).2.2.2::be y (cI m offs w ds c).2.1::As):=by
 refine ts Tryz.func34 ?_ (G7 (G7 (G7 (G7 (G7 (G7 (HF [] [(22,34)] E9))))))) [(9,(.l [0,1,2,3,5,6,7,8,9,4,10,11,12]))];have Y:=iO hm;obtain⟨g1,g2,g3,g4⟩:=(fR m).1 ((ck m).1 hm).1;have a0:=((ck m).1 hm).2.2.2.1;refine(io H).mono ?_;rintro _ O ⟨rfl,rfl⟩;refine⟨_,n2,aU (λe=>?_) λV=>?_⟩
 .have N:cI m offs w ds c=(14,m,w,ds):=by unfold cI;rw[l0 e]
  rw[N];exact⟨n2,x,H⟩
 refine(sO x m c (H.at 1 n2) Y H).I1 λP R2=>?_;have R:=H.up R2.ac;refine⟨_,n2,?_⟩;by_cases f:m.objs.any (dH c)=eH
 rotate_left
 .rw[m6 f];refine ae (λ_=>?_) λe=>absurd n4 e;have N:cI m offs w ds c=(5,m,w,ds):=by unfold cI;rw[m6 (by rw[V];decide),l0 B2]
  rw[N];exact⟨n2,x,R⟩
 rw[l0 f];obtain⟨n,hn⟩:=I3 (m.objs.findIdx (dH c))
 have ax:n<n1 m.objs:=by rw[hn];exact wE (by obtain⟨e,O,P⟩:=zW.1 f;exact⟨e,O,P⟩)
 rw[<-hn];have ab:=(aa.cK R).2;have U:cj P x m:=R.at 1 n2;refine ae (λe=>absurd e (xq.2 (zi n))) λ_=>⟨a,n2,x.1,ab.cell0 n2,?_⟩
 rw[U.seq];refine aV (λe4=>?_) λe4=>?_
 .have N:cI m offs w ds c=(7,m,w,ds):=by unfold cI;rw[m6 (by rw[V];decide),m6 (by rw[f];decide),l0 n3]
  rw[N];exact⟨n2,x,R⟩
 have N:cI m offs w ds c=ce m offs w ds (pj m n):=by unfold cI;rw[m6 (by rw[V];decide),m6 (by rw[f];decide),m6 n3,hn]
 rw[N];refine(HU x m U Y n3 R).I2 λy h3 R3=>?_;have H3:=R.bV R3;refine⟨y,n2,H3.alloc af n2 λa3 h4 H4=>?_⟩;have H4:=H4.bf;refine H4.storeAll af 0 n2 n2 (az y) n2 n2 n2 n2 λX H5=>?_;obtain⟨j,J⟩:=aa.Wf (H5.aF 2 [1,0]);have u:=(J.at 0 rfl:kX X _ y (fJ m)/\Fix eC 4 aT X _ y.2.2.2.2.2.2.2 j (fJ m).objs)
 obtain⟨k,u⟩:=u;have E:n1 j=n1 m.objs:=u.2.1;have Q:=u.1.len;have T:=k.ocap;refine bj (λ_ h'=>∃g:aY,aa B h0 h' (aj a3 27 (az g)::be g (pj m n)::aJ bD a pw (az x) offs da w ds::be x m::As)) ?_ ?_
 .obtain⟨o,ho⟩:=I3 y.2.2.2.2.2.2.2
  have ap:=J.box 1 n2;have z:∀{h':hY} {Bs:List HP},aa B h0 h' (pW y (fJ m) j::aj a3 27 (az y)::Bs)->hU h' (a3.add 7)=cO (xQ o.ptr o.len o.cap):=λH=>by rw[ho];exact(H.box 1 n2).cell n2
  rw[<-ho]at Q T;refine⟨o,z J,o,z J,?_⟩;rw[ag ((n:Int)+1)];refine⟨⟨n3,n3⟩,?_⟩;refine hJ af kQ n n2 n2 n3 ⟨⟨z J,I4⟩,?_⟩;have V:((n:Int)+1).toNat=n+1:=n3
  rw[V];have I:y.1=(pj m n).seq/\y.2.1=(pj m n).next/\(y.2.2.1,y.2.2.2.1,y.2.2.2.2.1)=(pj m n).p/\y.2.2.2.2.2.1=(pj m n).extra:=⟨k.seq,k.next,k.p,k.extra⟩
  have K:Seq X (λb=>b<X.size) o 4 aT j:=by rw[ho];exact u.1
  by_cases ah:n+1=n1 m.objs
  .refine Pz (s:=⟨o.ptr,n,n⟩) (v:=⟨if o.cap=n+1 then o.ptr else o.ptr.map (·.add ((n+1)*4)),o.len-(n+1),o.cap-(n+1)⟩) af kQ ⟨_,_,n2,n2⟩ (qk _) (by dsimp only;rw[Q,E];omega) ?_;refine⟨⟨z J,I4⟩,J.store af 1 n2 n2 7 [xQ o.ptr n n] n2 n2 n2 o8 λh8 H8=>⟨I4,?_⟩⟩;obtain⟨g,d⟩:∃g:aY,g=(y.1,y.2.1,y.2.2.1,y.2.2.2.1,y.2.2.2.2.1,y.2.2.2.2.2.1,y.2.2.2.2.2.2.1,⟨o.ptr,n,n⟩):=⟨_,rfl⟩
   refine⟨g,?_⟩;have S:aa B h0 h8 (pW y (fJ m) j::aj a3 27 (az g)::aJ bD a pw (az x) offs da w ds::be x m::As):=by rw[d];exact H8
   have G:=S.dG 0 n2 (D:=be g (pj m n)) λq ⟨M,F⟩=>by
    have eo:(pj m n).objs=m.objs.take n:=by show m.objs.take n++m.objs.drop (n+1)=_;rw[List.drop_eq_nil_of_le n3,qR]
    refine⟨by rw[d];exact I.1,by rw[d];exact I.2.1,by rw[d];exact I.2.2.1,by rw[d];exact I.2.2.2,by rw[d];exact M.drives,?_,by rw[d];exact M.dcap,by rw[d];exact qk _⟩;rw[eo];have q1:=F.1.take n n3;rw[<-ho]at q1;refine⟨j.take n,by rw[d];exact⟨q1.len,q1.elem⟩,by rw[qB,qB,E],λi r l O P=>?_⟩;rw[List.getElem?_take]at O P;split at O
    .rename_i ao;rw[l0 ao]at P;exact F.2.2 i r l O P
    .cases O
   exact G.aF 2 [1,0]
  .have hd:=K.drop (n+1) T;have Z:=K.take n n3;have ay:=hd.len;have W:¬n+(o.len-(n+1))<=n:=by rw[Q,E];omega
   refine J.Ep (s:=⟨o.ptr,n,n⟩) af kQ ⟨_,_,n2,n2⟩ n2 n4 (λ_=>rfl) ⟨Z.len,Z.elem⟩ (qk _) W hd n7 λr h7 H7=>⟨⟨z H7,I4⟩,?_⟩
   refine H7.store af 1 n2 n2 7 [r] n2 n2 n2 o8 λh8 H8=>⟨I4,?_⟩
   obtain⟨g,d⟩:∃g:aY,g=(y.1,y.2.1,y.2.2.1,y.2.2.2.1,y.2.2.2.2.1,y.2.2.2.2.2.1,y.2.2.2.2.2.2.1,r):=⟨_,rfl⟩
   refine⟨g,?_⟩;have S:aa B h0 h8 ((pW y (fJ m) j::aj a3 27 (az g)::aJ bD a pw (az x) offs da w ds::be x m::As)++[ai 59 r 4 aT (j.take n++j.drop (n+1))]):=by rw[d];exact H8
   have G:=S.front;have ad:=(G.comp (.one (A:=Tw []) (aP.refl _ _) λt Z=>(by cases Z))).bf;have am:=ad.aF 6 [2,1,0,3,4,5];have al:=aa.Wg (x:=y) (m:=fJ m) (x2:=g) (m2:=pj m n) (by rw[d];exact I) (by rw[d]) n2 (by rw[d]) (by
    show(j.take n++j.drop (n+1)).length=(m.objs.take n++m.objs.drop (n+1)).length;simp[E]) (λp L=>.inl ?_) am
   .exact al.aF 2 [1,0]
   .have L:p∈(j.take n++j.drop (n+1)).zip (m.objs.take n++m.objs.drop (n+1)):=L;rw[List.zip_append (by simp[E])]at L;show p∈j.zip m.objs;rw[<-qD n (j.zip m.objs)];rcases qu.1 L with L|L
    .refine yM _ ?_;rw[List.zip,List.take_zipWith];exact L
    .refine yn _ ?_;have:p∈(j.zip m.objs).drop (n+1):=by rw[List.zip,List.drop_zipWith];exact L
     rw[<-List.drop_drop]at this;exact yT this
 rintro _ h9 ⟨g,S⟩;refine⟨g,(S.box 0 n2).aw _ n2,?_⟩;refine(DP x m g (pj m n) (As:=be g (pj m n)::As) (St.dN 0 n2 λ_ hq=>hq) Y (acW Y n) n3 (S.aF 4 [2,3,1])).I1 λa1 ⟨y3,G⟩=>⟨_,n2,n2,y3,G.aF 3 [0,1]⟩
end
def jZ(m:aA)(b:Int)(w:Pow)(a:ByteArray):aD:=
 if gO w b=eH then[]else match m.objs.find? (dH a)with
 |none=>[]
 |some e=>e.tries
section
variable {pw:fY}
theorem Tx(x:aY)(f:ByteArray)(hm:bH m=eH)(A:∀k d,bY ds k=cO d->d.l.length<=512)(H:aa B h0 h (aJ bP a pw (az x) offs da w ds::be x m::As)):
  an xZ 37 #[xR (cO a),xS f] h λv h'=>∃t:Sl,v=.tuple #[xU #[xP xV (gG m offs w ds f).1.1,xP xV (gG m offs w ds f).1.2.1,xP xV (gG m offs w ds f).1.2.2,t],xP xV (gG m offs w ds f).2]/\Sp h h' [ai 3 t 1 aq (jZ m offs w f)]:=by
 refine ts Tryz.func37 ?_ (G7 (G7 (G7 (G7 (G7 (HF [(8,(.sc .adr))] [(8,9),(30,39)] (E8 (G7 (F8 (G0 [(42,aH)] [(10,11),(12,13),(42,73)] (G7 (G7 (E8 (F8 (G7 (G7 (F8 (G0 [(58,aH)] [(12,13),(58,72)] E9))))) E9)))))) E9))))))) [(7,(.y [0,1,2,3,4,5,6] (.l [7,8,9,10]) (.l [9,7,8,10]))),(11,(.l [0,1,2,3,4,5,6,7,8,9,12,10,11]))];have hz:=iO hm;have b2:=gJ hm;have b1:(bn ds m.drives).length<=64:=q7 (qO _ _) b2;refine(Sp.refl h).alloc af n2 λa1 h1 R1=>?_;have M:=H.up R1.ac;refine(ox M).I0 ⟨_,n2,aU (λe=>?_) λe1=>?_⟩
 .refine R1.storeAll af 0 n2 n2 (mi (0,0,0) ⟨dB,0,0⟩) n2 n2 n2 n2 λh3 R3=>?_;refine⟨(0,0,0,⟨dB,0,0⟩),(R3.box 0 n2).aw _ n2,⟨dB,0,0⟩,by unfold gG;rw[l0 e],?_⟩;rw[show jZ m offs w f=[]by unfold jZ;rw[l0 e]];exact(Sp.zip R3.ac).nil 3 1 aq
 refine(find_spec x m f (M.at 1 n2) hz M).mono ?_;rintro _ h4 ⟨⟨i,rfl,hi⟩,R4⟩;have z:=R1.up R4.ac;have H4:=M.up R4.ac;refine⟨i,n2,?_⟩;rcases Ey hi with⟨hneg,hf⟩|⟨n,hn,rfl,hf⟩
 .refine ae (λ_=>?_) λe=>absurd hneg e;refine z.storeAll af 0 n2 n2 (mi (0,0,0) ⟨dB,0,0⟩) n2 n2 n2 n2 λh3 R3=>?_;refine⟨(0,0,0,⟨dB,0,0⟩),(R3.box 0 n2).aw _ n2,⟨dB,0,0⟩,by unfold gG;rw[m6 o7,hf],?_⟩;rw[show jZ m offs w f=[]by unfold jZ;rw[m6 o7,hf]];exact(Sp.zip R3.ac).nil 3 1 aq
 refine ae (λe=>absurd e (xq.2 (zi n))) λ_=>?_;obtain⟨E,hE⟩:=I3 (m.objs[n])
 have b4:E∈m.objs:=CH
 have ep:gG m offs w ds f=((E.length,(E.tries.length:Int),(nW m ds (bn ds m.drives) E.object:Int)),0):=by unfold gG;rw[m6 o7,hf,hE]
 have et:jZ m offs w f=E.tries:=by unfold jZ;rw[m6 o7,hf,hE]
 rw[ep,et];have cc:=(gX m E).1 (((ck m).1 hm).2.2.2.2.1 E b4);have c4:E.tries.length<=8:=by have:=kG cc.2.2.1.2;omega
 have a9:=(aa.cB H4).2;have b7:cj h4 x m:=H4.at 1 n2;obtain⟨ys,F⟩:=bW.fix b7.objs;have du:=F.2.1;have p:=Fix.row F hn;obtain⟨xe,ay⟩:=I3 (ys[n]'n3)
 rw[<-hE,<-ay]at p;refine⟨a,n2,x.2.2.2.2.2.2.2,a9.cell n2,F.1.cH (g:=aT) n n2 n3 xe (by rw[ay]) ?_⟩;refine(Sp.refl h4).alloc af n2 λO h6 Q6=>?_;refine Q6.storeAll af 0 n2 n2 (aT xe) n2 n2 n2 n2 λh7 Q7=>?_;obtain⟨X,R7⟩:∃X,Sp h h7 [aj a1 81 X,aj O 59 (aT xe)]/\X.length=4:=⟨_,z.comp Q7,rfl⟩
 obtain⟨R7,z4⟩:=R7;have W:Rd h4 xe.2.2.2 1 aq E.tries:=p.2;have Q:=W.len;have eo:xe.2.1=E.object:=p.1.2.1;have el:xe.2.2.1=E.length:=p.1.2.2;have ah:=Q7.ac;refine bj (λ(s:fY) h'=>∃t:Sl,Sp h h' [aj a1 81 X,aj O 59 (aT xe),aj s 81 (mi (E.length,(E.tries.length:Int),0) t),ai 3 t 1 aq E.tries]) ?_ ?_
 .have G:=R7.box 1 n2;refine⟨xe.2.2.1,G.cell n2,xe.2.2.2,G.cell n2,xe.2.2.2,G.cell n2,?_,?_⟩
  .refine(jG xe.2.2.2 E.tries h7 (W.up ah) n3).I2 λt h8 R8=>?_;have bb:=R7.comp R8;refine⟨t,n2,gI R8.ac ⟨G.cell n2,G.cell n2,I4⟩,bb.alloc af n2 λc6 h9 R9=>?_⟩;have ax:=R9.box 1 n2;refine⟨⟨ax.cell n2,ax.cell n2,I4⟩,R9.storeAll af 3 n2 n2 (mi (E.length,(E.tries.length:Int),0) t) (by rw[el,Q];rfl) n2 n2 n2 λca S=>⟨I4,t,S.bs [0,1,3,2]⟩⟩
  .refine(Sp.refl h7).alloc af n2 λc5 b6 ap=>?_;have a2:=R7.comp ap;have o:=a2.box 1 n2;refine⟨⟨o.cell n2,o.cell n2,o.cell n2,I4⟩,?_⟩;refine(jG xe.2.2.2 E.tries b6 ((W.up ah).up ap.ac) n3).I2 λt dr ad=>?_;have ab:=a2.comp ad;refine⟨t,n2,gI ad.ac ⟨o.cell n2,o.cell n2,I4⟩,ab.storeAll af 2 n2 n2 (mi (E.length,(E.tries.length:Int),0) t) (by rw[el,Q];rfl) n2 n2 n2 λca S=>⟨I4,t,S⟩⟩
 rintro a3 dy ⟨t,z⟩;have Z:=H.up z.ac;refine(fx x m (Z.at 1 n2) hz Z).I2 λlv cr J=>?_;obtain⟨live,I⟩:=I3 (bn ds m.drives)
 have br:∀k∈live,k∈m.drives/\∃d,bY ds k=cO d/\d.lost=eL:=λk hk=>pR (by rw[<-I];exact hk);rw[<-I]at J b1⊢;have J:=z.comp J;have c2:=(J.own 4 n2).len;refine⟨lv,n2,?_⟩;refine ak (λi:Nat=>(i:Int)) (λi h'=>i<=live.length/\Sp h h' [aj a1 81 X,aj O 59 (aT xe),aj a3 81 (mi (E.length,(E.tries.length:Int),(nW m ds (live.take i) E.object:Int)) t),ai 3 t 1 aq E.tries,ai 3 lv 1 aq live]) (λi=>live.length-i) 0 n2 ⟨n3,J⟩ ?_;rintro i a5 ⟨hi,q⟩
 try dsimp only
 refine ae (λe=>?_) λe=>?_
 .have V:i<live.length:=n3
  refine(q.seq 4 n2 λ_=>rfl).aX i n2 V live[i] n2 ?_;have U:=H.up q.ac;obtain⟨ci,d,hd,_⟩:=br live[i] (qf V);have cp:=gT hm _ ci;obtain⟨ok,hb⟩:=aa.cB U;obtain⟨k,hk⟩:∃k:Nat,live[i]=k:=⟨live[i].toNat,n3⟩
  have a0:k<da.length:=B8
  have T:=VZ m ds E.object live i V;rw[hk]at hd T⊢;have cd:hU a5 ((a.add 10).add ((k:Int).toNat*1))=cO (.pointer da[k]):=by rw[qj,zM];refine hb.lF 10 k ?_;rw[mK ok.l8,qd a0];rfl
  have bd:dj da (k:Int)=da[k]:=by unfold dj;rw[l0 n3,qj,qd a0];rfl
  obtain⟨b,sd,bl,a7,b0,a8,bk⟩:=Dz hd U;refine⟨a,n2,⟨n3,n3⟩,da[k],cd,a,n2,x,hb.aw _ n2,?_⟩;rw[<-bd,a7];refine(ud b pw d sd bl x m a5 b0 a8 bk (U.at 1 n2) hz).mono ?_;rintro _ c9 ⟨r7,yr,rfl,a4⟩;have b9:=q7 (iX m d.l) (A _ d hd);have am:DH m ds E.object k=(iB m d.l).countP (λr=>decide (r.object=E.object)):=by unfold DH;rw[hd]
  obtain⟨c,R⟩:=I3 (iB m d.l)
  rw[<-R]at a4 b9 am;have u:=q.comp a4;have F4:=u.dv 5 n2;have dd:=F4.2.1;have c7:=F4.1.len;refine⟨r7,n2,I4,?_⟩;have ao:=QC m ds E.object A (live.take i);rw[qB,Nat.min_eq_left hi]at ao;obtain⟨P,b5⟩:=I3 (nW m ds (live.take i) E.object)
  rw[<-b5]at u ao T;have cq:i*512<=64*512:=zo _ n3;refine ak (λj:Nat=>(j:Int)) (λj h'=>j<=c.length/\Sp h h' [aj a1 81 X,aj O 59 (aT xe),aj a3 81 (mi (E.length,(E.tries.length:Int),((P+(c.take j).countP (λr=>decide (r.object=E.object)):Nat):Int)) t),ai 3 t 1 aq E.tries,ai 3 lv 1 aq live,cy cG 8 bB r7 yr c]) (λj=>c.length-j) 0 n2 ⟨n3,u⟩ ?_;rintro j c1 ⟨hj,L⟩
  try dsimp only
  refine ae (λe2=>?_) λe2=>?_
  .have al:j<c.length:=n3
   have F5:=L.dv 5 n2;obtain⟨⟨g1,_⟩,_⟩:=Fix.row F5 al;have a6:j<yr.length:=n3
   refine F5.1.cH (g:=bB) j n2 a6 yr[j] n2 ?_;refine L.alloc af n2 λdk dx bq=>?_;refine bq.storeAll af 6 n2 n2 (bB yr[j]) n2 n2 n2 n2 λcs D=>?_;have cn:(c.take j).countP (λr=>decide (r.object=E.object))<=512:=q7 List.countP_le_length t6;have K:(c.take (j+1)).countP (λr=>decide (r.object=E.object))=(c.take j).countP (λr=>decide (r.object=E.object))+(if c[j].object=E.object then 1 else 0):=by rw[List.take_succ_eq_append_getElem al,List.countP_append,List.countP_singleton];simp
   refine⟨yr[j].1,(D.box 6 n2).cell0 n2,xe.2.1,(D.box 1 n2).cell n2,aV (λe3=>?_) λe3=>?_⟩
   .have e4:c[j].object=E.object:=by rw[<-g1,e3,eo]
    rw[l0 e4]at K;refine⟨((P+(c.take j).countP (λr=>decide (r.object=E.object)):Nat):Int),(D.box 2 n2).cell n2,D.storeAt af 2 n2 n2 (off:=2) n2 n2 n2 n9 λd0 Y=>?_⟩;have ew:qe xV (((P+(c.take j).countP (λr=>decide (r.object=E.object)):Nat):Int)+1)=((P+(c.take j).countP (λr=>decide (r.object=E.object)):Nat):Int)+1:=ag _;refine⟨j+1,oi,⟨n3,?_⟩,n3⟩;rw[K];rw[ew]at Y;have N:=Y.bs [0,1,2,3,4,5];have e5:((P+((c.take j).countP (λr=>decide (r.object=E.object))+1):Nat):Int)=((P+(c.take j).countP (λr=>decide (r.object=E.object)):Nat):Int)+1:=n3
    rw[e5];exact N
   .have e4:¬c[j].object=E.object:=λh=>e3 (by rw[g1,h,eo]);rw[m6 e4,yh]at K;exact⟨j+1,oi,⟨n3,by rw[K];exact D.bs [0,1,2,3,4,5]⟩,n3⟩
  have cf:j=c.length:=n3
  subst cf;rw[qy,<-am,<-T]at L;exact⟨i+1,oi,⟨n3,L.bs [0,1,2,3,4]⟩,n3⟩
 have b3:i=live.length:=n3
 subst b3;rw[qy]at q;refine⟨(E.length,(E.tries.length:Int),(nW m ds live E.object:Int),t),(q.box 2 n2).aw _ n2,?_⟩;refine q.storeAll af 0 n2 n2 (mi (E.length,(E.tries.length:Int),(nW m ds live E.object:Int)) t) n2 n2 n2 (by rw[z4];rfl) λc8 N=>?_;exact⟨(E.length,(E.tries.length:Int),(nW m ds live E.object:Int),t),(N.box 0 n2).aw _ n2,t,n2,N.bs [3]⟩
end
theorem Wh(P:cS->Bool)(l:List cS):MJ P l (if l.any P=eH then((l.findIdx P:Nat):Int)else-1):=by
 by_cases h:l.any P=eH
 .rw[l0 h];have d:l.findIdx P<n1 l:=wE (by obtain⟨e,f,a⟩:=zW.1 h;exact⟨e,f,a⟩);refine .inr ⟨_,d,n2,List.findIdx_getElem,wu.2 λe b=>?_⟩;obtain⟨j,c,rfl⟩:=z8.1 b;rw[List.not_of_lt_findIdx (qY c (Nat.min_le_left _ _))];decide
 .rw[m6 h];exact .inl ⟨n2,u0⟩
theorem Kq{α:Type}{p q r:α->Bool}:∀(l:List α),(∀x∈l,r x=(p x||q x))->(∀x∈l,(p x&&q x)=eL)->l.countP r=l.countP p+l.countP q
 |[],_,_=>rfl
 |x::l,h1,h2=>by
  have d:=Kq l (λy c=>h1 y (qt _ c)) λy c=>h2 y (qt _ c);have a:=h1 x qS;have b:=h2 x qS;rw[vC,vC,vC,d,a];cases hp:p x<;>cases hq:q x
  .simp
  .simp;omega
  .simp;omega
  .rw[hp,hq]at b;cases b
theorem aaL(o b:Int)(l:List ct):(kg o b l).length=l.countP λr=>decide (r.object=o)&&decide (r.block=b):=by unfold kg;rw[qp,List.countP_eq_length_filter]
theorem NU(o:Int)(l:List ct):∀T:Nat,(∀r∈l,r.object=o->0<=r.block/\r.block<(T:Int))->l.countP (λr=>decide (r.object=o))=((qz T).map λi:Nat=>(kg o (i:Int) l).length).sum:=by
 have d:∀T:Nat,(∀r∈l,r.object=o->0<=r.block)->l.countP (λr=>decide (r.object=o)&&decide (r.block<(T:Int)))=((qz T).map λi:Nat=>(kg o (i:Int) l).length).sum:=by
  intro T h0
  induction T with
  |zero=>
   rw[List.range_zero,vg,List.sum_nil,List.countP_eq_zero];intro r a;rw[qC,decide_eq_true_eq,decide_eq_true_eq];rintro⟨c,e⟩;have:=h0 r a c;omega
  |succ T ih=>
   rw[zH,qG,List.sum_append,<-ih,wq,vg,xw,List.sum_nil,yh,aaL];refine Kq l (λr _=>?_) λr _=>?_
   .rw[<-Bool.and_or_distrib_left,<-Bool.decide_or];congr 1;rw[decide_eq_decide];omega
   .by_cases c:r.object=o
    .rw[m9 c,wj,wj,<-Bool.decide_and,nb n3]
    .rw[nb c];rfl
 intro T h;rw[<-d T λr a b=>(h r a b).1];refine List.countP_congr λr a=>?_;rw[qC,decide_eq_true_eq,decide_eq_true_eq];exact⟨λb=>⟨b,(h r a b).2⟩,λh=>h.1⟩
theorem FZ{α:Type}:∀L:List α,(L.map λ_=>0).sum=0
 |[]=>rfl
 |_::L=>by rw[wq,xw,FZ L]
theorem QI:∀{l:List cS},l.Pairwise (λa b=>a.object≠b.object)->∀{x y:cS},x∈l->y∈l->x≠y->x.object≠y.object
 |[],_,x,_,hx,_,_=>by cases hx
 |z::l,h,x,y,hx,hy,hne=>by
  rw[zw]at h;rcases qQ.1 hx with rfl|hx'
  .rcases qQ.1 hy with rfl|hy'
   .exact absurd n2 hne
   .exact h.1 _ hy'
  .rcases qQ.1 hy with rfl|hy'
   .exactλe=>h.1 _ hx' e.symm
   .exact QI h.2 hx' hy' hne
theorem NV{m:aA}(f:bH m=eH){E:cS}(d:E∈m.objs){r:ct}(h:dJ m r=eH)(c:r.object=E.object):0<=r.block/\r.block<(E.tries.length:Int):=by
 have e:=((jM r).1 (Hv h))
 unfold dJ at h;rw[qC,qC,zW]at h;obtain⟨_,_,x,b,h⟩:=h;rw[qC,qC,decide_eq_true_eq,decide_eq_true_eq,decide_eq_true_eq]at h;have g:=((ck m).1 f).2.2.2.2.2.2;have:x=E:=by
  by_cases a:x=E
  .exact a
  .exact absurd (h.1.trans c) (QI g b d a)
 rw[<-this];exact⟨e.2.1.1,h.2.1⟩
theorem YC{m:aA}(f:bH m=eH)(a:aG){E:cS}(e:E∈m.objs)(live:aD):nW m a live E.object=((qz E.tries.length).map λi:Nat=>(dW m a live E.object (i:Int)).length).sum:=by
 unfold nW dW
 induction live with
 |nil=>simp only[vg,wB,List.length_nil];exact(FZ _).symm
 |cons k live ih=>
  rw[wq,xw,ih];have:DH m a E.object k=((qz E.tries.length).map λi:Nat=>(mP m a E.object (i:Int) k).length).sum:=by
   unfold DH mP;cases hd:bY a k with
   |none=>exact(FZ _).symm
   |some d=>
    refine NU _ _ _ λr g c=>?_;obtain⟨_,_,_,b⟩:=BA g;exact NV f e b c
  rw[this];generalize qz E.tries.length=L
  induction L with
  |nil=>rfl
  |cons i L ihL=>simp only[wq,xw,zA,qq]at ihL⊢;omega
section
variable {pw:fY}
theorem Wi{e:aR}(H:aa B h0 h (aJ bD a pw e offs da w ds::As)):∀k d,bY ds k=cO d->n1 d.l<=512:=λk d f=>by
 obtain⟨_,_,_,_,_,_,_,ok⟩:=AI f H;have c:=ok.len;have b:=ok.room;omega
theorem BJ(m:aA){c:aG}(o b:Int)(e:∀k d,bY c k=cO d->n1 d.l<=512):∀a:aD,(dW m c a o b).length<=n1 a*512
 |[]=>by simp[dW]
 |k::l=>by
  have f:=BJ m o b e l;have:(mP m c o b k).length<=512:=by
   unfold mP;cases hd:bY c k with
   |none=>exact qT _
   |some d=>exact q7 (Hm _ _ _ _) (e k d hd)
  unfold dW at f⊢;rw[zA,qq,zc,z7];omega
theorem Tz(x:aY)(m:aA)(b:ByteArray)(hm:bH m=eH)(H:aa B h0 h (aJ bD a pw (az x) offs da w ds::be x m::As)):
  an xZ 38 #[xR (cO a),xS b] h λv h'=>∃t:Sl,v=.tuple #[xU #[xP xV (gG m offs w ds b).1.1,xP xV (gG m offs w ds b).1.2.1,xP xV (gG m offs w ds b).1.2.2,t],xP xV (gG m offs w ds b).2]/\Sp h h' [ai 3 t 1 aq (jZ m offs w b)]:=by
 refine ts Tryz.func38 ?_ (G7 (G7 (G7 (G7 (G7 (HF [(8,(.sc .adr))] [(8,9),(27,36)] (Hf [(39,aH)] [(9,10),(39,53)]))))))) [(7,(.y [0,1,2,3,4,5,6] (.l [7,8,9,10]) (.l [9,7,8,10])))];have hz:=iO hm;have U:=gJ hm;have al:∀y∈m.drives,0<=y/\y<64:=gT hm;have a9:(bn ds m.drives).length<=64:=q7 (qO _ _) U;refine(Sp.refl h).alloc af n2 λa1 h1 R1=>?_;have q:=H.up R1.ac;refine(io q).mono ?_;rintro _ h2 ⟨rfl,rfl⟩;refine⟨_,n2,aU (λe=>?_) λe1=>?_⟩
 .refine R1.storeAll af 0 n2 n2 (mi (0,0,0) ⟨dB,0,0⟩) n2 n2 n2 n2 λh3 R3=>?_;refine⟨(0,0,0,⟨dB,0,0⟩),(R3.box 0 n2).aw _ n2,⟨dB,0,0⟩,by unfold gG;rw[l0 e],?_⟩;rw[show jZ m offs w b=[]by unfold jZ;rw[l0 e]];exact(Sp.zip R3.ac).nil 3 1 aq
 refine(sO x m b (q.at 1 n2) hz q).I1 λh4 R4=>?_;have c:=R1.up R4.ac;have H4:=q.up R4.ac;have hi:=Wh (dH b) m.objs;generalize (if m.objs.any (dH b)=eH then((m.objs.findIdx (dH b):Nat):Int)else-1)=i at hi;refine⟨i,n2,?_⟩;rcases Ey hi with⟨hneg,hf⟩|⟨n,hn,rfl,hf⟩
 .refine ae (λ_=>?_) λe=>absurd hneg e;refine c.storeAll af 0 n2 n2 (mi (0,0,0) ⟨dB,0,0⟩) n2 n2 n2 n2 λh3 R3=>?_;refine⟨(0,0,0,⟨dB,0,0⟩),(R3.box 0 n2).aw _ n2,⟨dB,0,0⟩,by unfold gG;rw[m6 o7,hf],?_⟩;rw[show jZ m offs w b=[]by unfold jZ;rw[m6 o7,hf]];exact(Sp.zip R3.ac).nil 3 1 aq
 refine ae (λe=>absurd e (xq.2 (zi n))) λ_=>?_;obtain⟨E,hE⟩:=I3 (m.objs[n])
 have W:E∈m.objs:=CH
 obtain⟨S,hS⟩:∃S:Nat->Nat,S=λj=>((qz j).map λi:Nat=>(dW m ds (bn ds m.drives) E.object (i:Int)).length).sum:=⟨_,rfl⟩
 have O:S 0=0:=by rw[hS];rfl
 have K:∀j,S (j+1)=S j+(dW m ds (bn ds m.drives) E.object (j:Int)).length:=λj=>by rw[hS];(try dsimp only);rw[zH,qG,List.sum_append];simp
 have p:∀j:Nat,(dW m ds (bn ds m.drives) E.object (j:Int)).length<=32768:=λj=>by
  have:=BJ m E.object (j:Int) (Wi H4) (bn ds m.drives);omega
 have a3:∀j,S j<=j*32768:=λj=>by
  induction j with
  |zero=>rw[O];exact qT _
  |succ j ih=>rw[K,z7];have:=p j;omega
 have ep:gG m offs w ds b=((E.length,(E.tries.length:Int),(S E.tries.length:Int)),0):=by
  unfold gG;rw[m6 o7,hf,hS,<-hE]
  try dsimp only
  rw[YC hm ds W]
 have et:jZ m offs w b=E.tries:=by unfold jZ;rw[m6 o7,hf,hE]
 rw[ep,et];have a2:=(gX m E).1 (((ck m).1 hm).2.2.2.2.1 E W);have a6:E.tries.length<=8:=by have:=kG a2.2.2.1.2;omega
 have am:=(aa.cK H4).2;have ax:cj h4 x m:=H4.at 1 n2;obtain⟨ys,F⟩:=bW.fix ax.objs;have bq:=F.2.1;have d:=Fix.row F hn;obtain⟨xe,V⟩:=I3 (ys[n]'n3)
 rw[<-hE,<-V]at d;refine⟨a,n2,x.2.2.2.2.2.2.2,am.cell n2,F.1.cH (g:=aT) n n2 n3 xe (by rw[V]) ?_⟩;refine(Sp.refl h4).alloc af n2 λu h6 Q6=>?_;refine Q6.storeAll af 0 n2 n2 (aT xe) n2 n2 n2 n2 λh7 Q7=>?_;obtain⟨J,P⟩:∃J,Sp h h7 [aj a1 81 J,aj u 59 (aT xe)]/\J.length=4:=⟨_,c.comp Q7,rfl⟩
 obtain⟨P,z4⟩:=P;have I:Rd h4 xe.2.2.2 1 aq E.tries:=d.2;have z:=I.len;have eo:xe.2.1=E.object:=d.1.2.1;have el:xe.2.2.1=E.length:=d.1.2.2;have N:=Q7.ac;refine bj (λ(s:fY) h'=>∃t:Sl,Sp h h' [aj a1 81 J,aj u 59 (aT xe),aj s 81 (mi (E.length,(E.tries.length:Int),0) t),ai 3 t 1 aq E.tries]) ?_ ?_
 .have G:=P.box 1 n2;refine⟨xe.2.2.1,G.cell n2,xe.2.2.2,G.cell n2,xe.2.2.2,G.cell n2,?_,?_⟩
  .refine(P.nil 3 1 aq).append af 2 n2 eK ⟨_,_,n2,n2⟩ n2 n4 (λ_=>rfl) (I.up N) cP n7 λt h8 R8=>?_;have ah:=R8.box 1 n2;refine⟨⟨ah.cell n2,ah.cell n2,I4⟩,R8.alloc af n2 λa8 h9 R9=>?_⟩;have T:=R9.box 1 n2;refine⟨⟨T.cell n2,T.cell n2,I4⟩,R9.storeAll af 3 n2 n2 (mi (E.length,(E.tries.length:Int),0) t) (by rw[el,z];rfl) n2 n2 n2 λa0 D=>⟨I4,t,D.bs [0,1,3,2]⟩⟩
  .refine(Sp.refl h7).alloc af n2 λa7 bl R=>?_;have X:=P.comp R;have o:=X.box 1 n2;refine⟨⟨o.cell n2,o.cell n2,o.cell n2,I4⟩,?_⟩;refine(X.nil 3 1 aq).append af 3 n2 eK ⟨_,_,n2,n2⟩ n2 n4 (λ_=>rfl) ((I.up N).up R.ac) cP n7 λt bk M=>?_;have A:=M.box 1 n2;refine⟨⟨A.cell n2,A.cell n2,I4⟩,M.storeAll af 2 n2 n2 (mi (E.length,(E.tries.length:Int),0) t) (by rw[el,z];rfl) n2 n2 n2 λa0 D=>⟨I4,t,D⟩⟩
 rintro Z a4 ⟨t,c⟩;refine⟨xe.2.2.2,(c.box 1 n2).cell n2,?_⟩;have c:Sp h a4 [aj a1 81 J,aj u 59 (aT xe),aj Z 81 (mi (E.length,(E.tries.length:Int),(S 0:Int)) t),ai 3 t 1 aq E.tries]:=by rw[O];exact c
 refine ak (λi:Nat=>(i:Int)) (λi h'=>i<=E.tries.length/\Sp h h' [aj a1 81 J,aj u 59 (aT xe),aj Z 81 (mi (E.length,(E.tries.length:Int),(S i:Int)) t),ai 3 t 1 aq E.tries]) (λi=>E.tries.length-i) 0 n2 ⟨qT _,c⟩ ?_;rintro i a5 ⟨hi,k⟩
 try dsimp only
 refine ae (λe=>?_) λe=>?_
 .have ao:i<E.tries.length:=n3
  have L:=k.box 1 n2;refine⟨(S i:Int),(k.box 2 n2).cell n2,xe.2.1,L.cell n2,?_⟩;have ab:=H.up k.ac;rw[eo];refine(Ce x m E.object (i:Int) (ab.at 1 n2) hz U al ab).mono ?_;rintro _ br ⟨r,yr,rfl,f⟩;have ay:=(f.dv 0 n2).1.len;have Q:=(f.dv 0 n2).2.1;have f:=k.up f.ac;have h1:=a3 i;have h2:=p i;refine⟨r,n2,⟨(f.box 2 n2).cell n2,I4⟩,?_⟩;refine f.storeAt af 2 n2 n2 (off:=2) n2 n2 n2 n9 λbd ad=>⟨I4,?_⟩
  refine⟨i+1,oi,⟨ao,?_⟩,n3⟩;have ew:qe xV ((S i:Int)+(r.len:Int))=(S (i+1):Int):=by rw[K,ag _,ay,Q];omega
  rw[ew]at ad;exact ad
 .have ap:i=E.tries.length:=n3
  subst ap;refine⟨(E.length,(E.tries.length:Int),(S E.tries.length:Int),t),(k.box 2 n2).aw _ n2,?_⟩;refine k.storeAll af 0 n2 n2 (mi (E.length,(E.tries.length:Int),(S E.tries.length:Int)) t) n2 n2 n2 (by rw[z4];rfl) λbb Y=>?_;exact⟨(E.length,(E.tries.length:Int),(S E.tries.length:Int),t),(Y.box 0 n2).aw _ n2,t,n2,Y.bs [3]⟩
end
theorem YD{l:List cS}{x:cS}(h:l.Pairwise λa b=>cU a.name b.name=eH)(t:∀e∈l,e.name≠x.name){k:Nat}(v:k<=n1 l)(u:∀e∈l.take k,cU e.name x.name=eH)(z:∀v:k<n1 l,cU l[k].name x.name=eL):
  (l++[x]).mergeSort mU=l.take k++x::l.drop k:=by
 have d:((l++[x]).mergeSort mU).Perm (l++[x]):=wo _ _;have q:(l++[x]).Pairwise (λa b:cS=>a.name≠b.name):=zD.2 ⟨h.imp λh=>Kd h,List.pairwise_singleton _ _,λa n b m=>by rw[qA.1 m];exact t a n⟩;have g:=(d.pairwise_iff (R:=λa b:cS=>a.name≠b.name) λ{a b} h=>Ne.symm h).2 q;have s:((l++[x]).mergeSort mU).Pairwise (λa b=>mU a b=eH):=(tC Vy (l++[x])).1;have y:=(s.and g).imp λh=>Dy h.1 h.2;have r:(l.take k++x::l.drop k).Perm (l++[x]):=by refine List.perm_middle.trans ?_;rw[qD];exact(List.perm_append_singleton x l).symm
 have c:∀e∈l.drop k,cU x.name e.name=eH:=λe w=>by
  obtain⟨j,D,rfl⟩:=qE w;rw[qJ]at D;have f:k<n1 l:=n3
  have p:iV x.name l[k].name=eH:=by unfold iV;rw[z f];rfl
  have i:=Dy p λe=>t _ (qf f) e.symm;rw[zR];cases j with
  |zero=>exact i
  |succ j=>exact oP _ _ _ i (zf.1 h k (k+(j+1)) f n3 n3)
 have o:(l.take k++x::l.drop k).Pairwise λa b=>cU a.name b.name=eH:=by
  refine zD.2 ⟨h.sublist (vW _ _),zw.2 ⟨c,h.sublist (List.drop_sublist _ _)⟩,λa n b m=>?_⟩;rcases qQ.1 m with rfl|m
  .exact u a n
  .exact oP _ _ _ (u a n) (c b m)
 exact(d.trans r.symm).eq_of_pairwise (le:=λa b:cS=>cU a.name b.name=eH) (λa b _ _ A B=>by have:=oP _ _ _ A B;rw[EW]at this;cases this) y o
theorem NW(p:Pm)(s:Sl)(b:aS)(h:hY)(q:bJ p=eH)(w:Rd h s 1 ar b)(I:s.len<=s.cap)(S:n1 b<=2^30):an xZ 91 #[gr p,s] h λv h'=>∃r:Sl,v=r/\Sp h h' [cg r (splitB p b)]:=by
 refine ts Tryz.func91 ?_ (G7 (G7 (G7 (G7 (Hf [(5,bN),(7,aH)] [(5,6),(7,9),(17,38)]))))) (args:=[p,s]);have a:=w.len;obtain⟨X,Q,K⟩:=ic q;obtain⟨T,P,c3⟩:=kj q b.length;refine(Sp.refl h).boxed λx B y=>?_;refine⟨p,(y.box 0 n2).aw _ n2,(dV p B).I1 λU H=>?_⟩;have m:=y.up H.ac;refine⟨_,n2,aI (λe=>by rw[q]at e;cases e) λ_=>?_⟩;refine⟨p.1,(m.box 0 n2).cell0 n2,p.2.2,(m.box 0 n2).cell n2,?_⟩;obtain⟨n,A⟩:∃n:Nat,n=(countP p b.length).toNat:=⟨_,rfl⟩
 have c:(countP p (s.len:Nat))=(n:Int):=by rw[a];omega
 have j:(splitB p b).length=n:=by unfold splitB;rw[<-A];simp
 have g:qe xV (p.1*p.2.2)=(cQ p:Int):=by rw[<-K,ag _]
 rw[g];have d:=m.kc 41 5 1 ar;refine ak (λt:Sl×Nat=>(t.1,(t.2:Int))) (λt h'=>t.2<=n/\Sp h h' [cg t.1 ((splitB p b).take t.2),aj x 24 [xP xV p.1,xP xV p.2.1,xP xV p.2.2]]) (λt=>n-t.2) (⟨dB,0,0⟩,0) n2 ⟨n9,d⟩ ?_;rintro⟨o,i⟩ h3 ⟨V,d⟩;dsimp only at*;refine⟨p,(d.box 1 n2).aw _ n2,(nB p (s.len:Nat) h3).I1 λN L=>?_⟩;have k:=d.up L.ac;refine⟨_,n2,?_⟩;rw[c];refine ae (λe=>?_) (λe=>?_)
 .have D:i<n:=n3
  have M:=c3 i (by rw[<-a,c];omega);refine k.Ee af ar cN n4 (0:UInt8) n2 n2 (cQ p) (cQ p) n2 n2 (qk _) n3 λv R W O f=>?_;have f:=f.bf;have em:qe xV ((i:Int)*(cQ p:Int))=((i*cQ p:Nat):Int):=by rw[<-zX,ag _]
  rw[em,qj];refine⟨⟨n3,n3⟩,?_⟩;have z:=(Seq.up w f.ac).drop (i*cQ p) I;refine f.CC af 0 n2 cN (λ_=>rfl) (v:=⟨_,s.len-i*cQ p,s.cap-i*cQ p⟩) z cD λ_ J u=>?_;have u:Sp h J [ai 5 v 1 ar (sI (cQ p) b i),cg o ((splitB p b).take i),aj x 24 [xP xV p.1,xP xV p.2.1,xP xV p.2.2]]:=by simpa[sI]using u
  refine(u.aF 2 [1,0]).nG af cM n7 λG h8 F=>?_;refine⟨(G,i+1),n8,⟨n5,?_⟩,n5⟩
  try dsimp only
  rw[aC _ _ (show i<(splitB p b).length by omega)];have E:(splitB p b)[i]'n3=sI (cQ p) b i:=by simp[splitB]
  rw[E];exact F
 .have l:i=n:=n3
  rw[l,<-j,qy]at k;exact⟨o,n2,k.bs [0]⟩
theorem TA(p:Pm)(l:Sl)(ll:dS)(n:Int)(h:hY)(A:eu h l 1 ar ll)(hn:n<=2^20)(Z:n1 ll<=2^10):
  an xZ 110 #[gr p,l,xP xV n] h λv h'=>∃(r:Sl) (b:Bool),v=.tuple #[r,xT b]/\Sp h h' [EA (iJ 1 ar) r (iE p ll n)]:=by
 refine ts Tryz.func110 ?_ (G7 (HF [] [(6,8),(10,25)] (G7 (Hf [(8,bN),(27,aH)] [(6,10),(27,48)])))) (args:=[p,l,(n:Int)]);have j:=A.len;refine(Sp.refl h).boxed λK U M=>?_;have f:∀{h':hY},Sp h h' [aj K 24 [xP xV p.1,xP xV p.2.1,xP xV p.2.2]]->iE p ll n=[]->∃(r:Sl) (b:Bool),(.tuple #[xQ dB 0 0,xT eL]:Value)=.tuple #[r,xT b]/\Sp h h' [EA (iJ 1 ar) r (iE p ll n)]:=λH' V=>by
  rw[V];exact⟨⟨dB,0,0⟩,eL,n2,(((H'.nil 5 1 ar).bs [1]).Ed 0 n2 λ_=>rfl)⟩
 refine aE ⟨p,(M.box 0 n2).aw _ n2,(dV p U).I1 λW S=>?_⟩;have y:=M.up S.ac;refine⟨_,n2,aI (λe=>f y (by unfold iE;rw[m6 (by rintro⟨h,_⟩;rw[e]at h;cases h)])) λe1=>ae (λe=>f y (by unfold iE;rw[m6 (by rintro⟨_,h,_⟩;omega)])) λe2=>?_⟩;have H:bJ p=eH:=by simpa using e1
 refine⟨p,(y.box 0 n2).aw _ n2,(nB p n W).I1 λh3 R3=>?_⟩;have O:=y.up R3.ac;refine⟨_,n2,bt (λe=>f O (by unfold iE;rw[m6 (by rintro⟨_,_,h,_⟩;rw[j]at e;exact e h)])) λP=>?_⟩;have F:(n1 ll:Int)=countP p n:=by rw[j]at P;exact P
 obtain⟨s1,s2,X⟩:=ic H;have E:qe xV (p.1*p.2.2)=(cQ p:Int):=by rw[<-X,ag _]
 refine ak (λt:Sl×Nat=>(t.1,(t.2:Int))) (λt h'=>t.2<=n1 ll/\(∀x∈ll.take t.2,n1 x=cQ p)/\Sp h h' [aj K 24 [xP xV p.1,xP xV p.2.1,xP xV p.2.2],ai 5 t.1 1 ar (ll.take t.2).flatten]) (λt=>n1 ll-t.2) (⟨dB,0,0⟩,0) n2 ⟨n9,n9,O.nil 5 1 ar⟩ ?_;rintro⟨o,i⟩ h4 ⟨J,a,d⟩;dsimp only at J a d⊢;refine ae (λe=>?_) λe=>?_
 .have c:i<n1 ll:=by have e':(i:Int)<(l.len:Int):=e;omega
  refine(A.up d.ac).get i n2 c λr hr=>⟨p.1,(d.box 0 n2).cell0 n2,p.2.2,(d.box 0 n2).cell n2,?_⟩
  try dsimp only
  rw[E];have w:=hr.len;refine bt (λz=>?_) λz=>?_
  .refine f (d.bs [0]) ?_;unfold iE;rw[m6];rintro⟨_,_,_,h⟩;have:=nq (qU.1 h _ (qf c));exact z (by rw[w,this])
  .have B:ll[i].length=cQ p:=by rw[w]at z;exact Int.ofNat_inj.1 z
   have u:=AF a;rw[List.length_take_of_le J]at u;have hb:i*cQ p<=2^10*2^10:=zu n3 n3;refine(A.up d.ac).get i n2 c λr' D=>?_;refine d.append af 1 n2 cN ⟨_,_,n2,n2⟩ n2 n4 (λ_=>rfl) D cD n3 λo' h6 R=>?_;refine⟨(o',i+1),n8,⟨n5,?_,?_⟩,n5⟩
   .try dsimp only
    intro x m;rw[aC _ _ c]at m;rcases qu.1 m with m|m
    .exact a x m
    .rw[qA.1 m];exact B
   .try dsimp only
    rw[aC _ _ c,List.flatten_append];simpa using R
 .rw[qh (by have e':¬(i:Int)<(l.len:Int):=e;omega)]at a d;have u:=AF a;have g:=d.own 1 n2;have I:=g.len;obtain⟨k,Q⟩:∃k:Nat,n=k:=⟨n.toNat,n3⟩
  subst Q;have s:=EY H k;have G:(countP p (k:Int)).toNat=n1 ll:=n3
  rw[G,<-u,<-I]at s;have T:iE p ll (k:Int)=ll.flatten.take k:=by unfold iE;rw[l0 ⟨H,n3,F,qU.2 λx m=>m9 (a x m)⟩,qj]
  have L:=g.cap;refine⟨⟨n3,n3⟩,⟨o.ptr,k,o.cap⟩,eH,by rw[qj],?_⟩;rw[T];have H5:=(d.bs [1]).Ed 0 n2 λ_=>rfl;refine H5.dG 0 n2 λq Y=>?_;have N:=Seq.take Y k n3;exact⟨N.1,N.2⟩
def dw(P:List (Int×aS)):aD:=(qz 64).map λk:Nat=>((P.filter λy=>decide (y.1=(k:Int))).length:Int)
theorem iy(P:List (Int×aS)):(dw P).length=64:=by simp[dw]
theorem rT(P:List (Int×aS)){k:Nat}(a:k<64:=by omega):(dw P).getD k 0=((P.filter λy=>decide (y.1=(k:Int))).length:Int):=by rw[qg,qd (by rw[iy];exact a)];simp[dw]
theorem Wj(l:aD):kY l 0=dw []:=by
 have h:dw []=qi 64 0:=n4
 rw[h];unfold kY
 induction l with
 |nil=>rfl
 |cons k l ih=>
  rw[zS];have:(qi 64 (0:Int)).set k.toNat 0=qi 64 0:=wb (by rw[qK]) λi b a=>by rw[xr];split<;>simp only[List.getElem_replicate]
  rw[this];exact ih
theorem TB(P:List (Int×aS)){y:Int×aS}{k:Nat}(b:y.1=k)(d:k<64):dw (P++[y])=(dw P).set k ((dw P).getD k 0+1):=by
 rw[rT P d];refine wb (by rw[qK,iy,iy]) λi c f=>?_;rw[iy]at c;rw[xr];have e:∀(Q:List (Int×aS)) (h:i<(dw Q).length),(dw Q)[i]=((Q.filter λy=>decide (y.1=(i:Int))).length:Int):=λQ h=>by simp[dw]
 rw[e,zm,qq,zE,w9,b];by_cases a:k=i
 .subst a;rw[l0 n2,l0 n9];simp
 .rw[m6 a,m6 n7,e];simp
theorem DQ(m:aA)(o:Int){t a:aD}(bl:dS)(live:aD):∀n,(∀j,j<n->t.getD j 0=a.getD j 0)->dz m o t bl live n=dz m o a bl live n
 |0,_=>by simp[dz]
 |n+1,h=>by
  rw[lY,lY,DQ m o bl live n λj b=>h j n3];exact congrArg (dz m o a bl live n++·) (congrArg (λx=>(qz (m.p.1+m.extra).toNat).map λid:Nat=>mN m o n (ft o n x) (bl.getD n []) (jk o n live) id) (h n (Nat.lt_succ_self n)))
theorem KQ(m:aA)(o:Int){t:aD}(x:Int)(bl:dS)(live:aD){n:Nat}(a:n1 t=n):dz m o (t++[x]) bl live n=dz m o t bl live n:=
 DQ m o bl live n λj b=>by rw[qg,qg,qw n3]
theorem Wk{p:Pm}{o:Int}{i:Nat}(h:cV p o i=dB):∀n,i<=n->cV p o n=dB:=by
 intro n b
 induction n with
 |zero=>
  have:i=0:=n3
  subst this;exact h
 |succ n ih=>
  by_cases a:i=n+1
  .subst a;exact h
  .unfold cV;rw[ih n3];rfl
theorem aaM{p:Pm}{o b:Int}{k:Nat}(g:k<16)(d:∀j,j<k->uO p o b j=eL)(c:uO p o b k=eH):lP p o b=cO k:=by
 unfold lP;have e:(qz 16)=qz k++(k::(qz (16-k-1)).map λx=>k+1+x):=by
  have a:16=k+(1+(16-k-1)):=n3
  conv=>lhs;rw[a,List.range_add,List.range_add]
  simp[Function.comp_def,Nat.add_assoc]
 rw[e,xh,yp.2 λj f=>by rw[d j (q8.1 f)];decide,List.find?_cons_of_pos c];rfl
theorem Wm{p:Pm}{o b:Int}(h:∀j,j<16->uO p o b j=eL):lP p o b=dB:=by unfold lP;exact yp.2 λj a=>by rw[h j (q8.1 a)];decide
def pX(l:aD)(g:aD)(n:Int):aD:=l.foldl (λg k=>g.set k.toNat (g.getD k.toNat 0+n)) g
theorem Ga(n:Int):∀(l g:aD),(pX l g n).length=n1 g
 |[],_=>rfl
 |k::l,g=>by unfold pX;rw[zS];exact(Ga n l _).trans (by rw[qK])
theorem Wo(l g:aD)(k n:Int):pX (l++[k]) g n=(pX l g n).set k.toNat ((pX l g n).getD k.toNat 0+n):=by unfold pX;rw[wF];rfl
theorem Gb(n:Int):∀{l g:aD},n1 g=64->l.Nodup->(∀k∈l,0<=k/\k<64)->∀k:Int,0<=k->k<64->(pX l g n).getD k.toNat 0=g.getD k.toNat 0+if k∈l then n else 0
 |[],g,_,_,_,k,_,_=>by simp[pX]
 |x::l,g,hg,a,hin,k,h1,h2=>by
  have a:=List.nodup_cons.1 a;have d:=hin x qS;unfold pX;rw[zS];refine(Gb n (l:=l) (by rw[qK];exact hg) a.2 (λy c=>hin y (qt _ c)) k h1 h2).trans ?_;rw[qg,qZ];by_cases b:k=x
  .subst b;rw[l0 n2,l0 n3,Option.getD_some,m6 a.1,l0 qS];omega
  .rw[m6 n3,<-qg];congr 1;simp[b]
theorem TC{m:aA}(a:bH m=eH)(b:aG):(bn b m.drives).Nodup:=
 List.Pairwise.filter _ (((ck m).1 a).2.1.imp λh=>n3)
theorem QJ{h h':hY}{a:fY}{v:Value}(c:hU h a=cO v)(d:aP (λb=>b<h.size) h h'):hU h' a=cO v:=d.cell (cZ c) c
theorem HW:∃i a,C.T.get 22=cO i/\i.co=.slice a:=⟨_,_,n2,n2⟩
theorem ur(n:Nat)(h:hY)(w:n<64):an xZ 159 #[xP xV n] h λv h'=>v=xU #[xP xV (bx n).x,xP xV (bx n).y]/\Sp h h' []:=by
 refine ts Tryz.func159 ?_ (G7 (G7 (HF [] [(10,17)] (G7 (Hf [(4,aH),(5,aH),(6,aH),(7,aH),(8,aH),(9,aH)] [(4,10),(17,47)])))));refine(Sp.refl h).alloc af n2 λm z r=>?_;refine r.alloc af n2 λj D o=>?_;refine aE (ae (λe=>n3) λ_=>ae (λe=>n3) λ_=>?_);refine ak (λk:Nat=>((bx k).dx,(bx k).dy,(bx k).leg,(bx k).left,(bx k).turns,(k:Int))) (λk h'=>k<=n/\Sp h h' [aj m 199 [xP xV 0,xP xV 0],aj j 199 [xP xV (bx k).x,xP xV (bx k).y]]) (λk=>n-k) 0 n2 ⟨n3,o⟩ ?_;rintro k B ⟨A,d⟩;have f:=abK k n3;simp only[uF.ok,qC,decide_eq_true_eq]at f
 try dsimp only
 refine ae (λe=>?_) (λe=>?_)
 .have a:bx (k+1)=(bx k).on:=rfl;obtain⟨s,q⟩:=I3 (bx k)
  rw[<-q]at f a d⊢;refine⟨s.x,(d.box 1 n2).cell0 n2,s.y,(d.box 1 n2).cell n2,?_⟩
  try dsimp only
  rw[ag (s.x+s.dx),ag (s.y+s.dy),ag (s.left-1),ag (s.turns+1),ag (0-s.dy),ag (s.leg+1),ag ((k:Int)+1),zY (show 0<=s.turns+1 by omega)];refine d.gx af 1 n2 n2 [xP xV (s.x+s.dx)] n2 n2 n2 n9 λE t=>?_;refine t.storeAt af 1 n2 n2 (off:=1) n2 n2 n2 n9 λh8 p=>?_;have b:Sp h h8 [aj m 199 [xP xV 0,xP xV 0],aj j 199 [xP xV (s.x+s.dx),xP xV (s.y+s.dy)]]:=p;refine aV (λc=>?_) (λc=>?_)
  .refine⟨n4,aV (λi=>?_) λi=>?_⟩
   .refine⟨k+1,?_,⟨n3,?_⟩,n3⟩
    .rw[a,uF.on,l0 c,l0 i,Int.zero_sub];rfl
    .rw[a,uF.on,l0 c];exact b
   .refine⟨k+1,?_,⟨n3,?_⟩,n3⟩
    .rw[a,uF.on,l0 c,m6 i,Int.zero_sub];rfl
    .rw[a,uF.on,l0 c];exact b
  .refine⟨k+1,?_,⟨n3,?_⟩,n3⟩
   .rw[a,uF.on,m6 c];rfl
   .rw[a,uF.on,m6 c];exact b
 .have g:k=n:=n3
  subst g;refine⟨((bx k).x,(bx k).y),(d.box 1 n2).aw _ n2,?_⟩;refine d.storeAll af 0 n2 n2 [xP xV (bx k).x,xP xV (bx k).y] n2 n2 n2 n2 λu l=>?_;exact⟨((bx k).x,(bx k).y),(l.box 0 n2).aw _ n2,n2,.zip l.ac⟩
theorem Fb(i j:Nat)(h:hY)(f:i<64)(k:j<64):an xZ 161 #[xU #[xP xV (bx i).x,xP xV (bx i).y],xU #[xP xV (bx j).x,xP xV (bx j).y]] h λv h'=>v=xP xV (lR i j)/\Sp h h' []:=by
 have a:=oA f;have b:=oA k;refine ts Tryz.func161 ?_ (args:=[((bx i).x,(bx i).y),((bx j).x,(bx j).y)]);refine(Sp.refl h).boxed λq m g=>?_;refine g.boxed λn p e=>?_;have d:=e.box 0 n2;have c:=e.box 1 n2;have l:=Lf (a:=(bx i).x-(bx j).x) n3 n3;have o:=Lf (a:=(bx i).y-(bx j).y) n3 n3;refine⟨_,d.cell0 n2,_,c.cell0 n2,_,d.cell0 n2,_,c.cell0 n2,_,d.cell (j:=1) n2,_,c.cell (j:=1) n2,_,d.cell (j:=1) n2,_,c.cell (j:=1) n2,?_⟩
 try dsimp only
 rw[ag ((bx i).x-(bx j).x),ag ((bx i).y-(bx j).y),ag (((bx i).x-(bx j).x)*((bx i).x-(bx j).x)),ag (((bx i).y-(bx j).y)*((bx i).y-(bx j).y)),ag _];exact⟨n2,.zip e.ac⟩
theorem TD(s:Sl)(o:aD)(id:Int)(h:hY)(f:Rd h s 1 aq o):an xZ 96 #[s,xP xV id] h λv h'=>v=xP xV (nz o id)/\h'=h:=by
 have g:=f.len;refine ts Tryz.func96 ?_ (G7 (HF [] [(4,12)] E9));refine aE (aV (λe=>⟨by rw[nz,l0 (.inl (qV n3))],n2⟩) λe=>ae (λd=>⟨by rw[nz,l0 (.inr d)],n2⟩) λd=>?_);refine⟨e,?_⟩;have c:¬(o=[]∨id<0):=by
  rintro(rfl|h2)
  .simp at g;omega
  .exact d h2
 have b:Int.tmod id ((s.len:Nat):Int)=((id%(n1 o:Int)).toNat:Int):=by rw[zY n3,g];have:=Int.emod_nonneg id (show(n1 o:Int)≠0 by omega);omega
 have a:(id%(n1 o:Int)).toNat<n1 o:=by have:=Int.emod_lt_of_pos id (show(0:Int)<n1 o by omega);omega
 rw[b];refine f.aX _ n2 a _ n2 ⟨?_,n2⟩;rw[nz,m6 c,Lg,qg,qd a];rfl
theorem HX{c:Nat}{a b d:Int}(f:gF c a b)(e:gF c b d):gF c a d:=by unfold gF at*;omega
theorem KR{c:Nat}{o:aD}{x:Int}{n:Nat}(q:n<=n1 o)(f:o.Pairwise (gF c))(i:∀(h:0<n),gF c (o[n-1]'n3) x)(p:∀j (h:j<n1 o),n<=j->gF c x o[j]):(o.take n++([x]++o.drop n)).Pairwise (gF c):=by
 have k:∀a∈o.take n,gF c a x:=λa e=>by
  obtain⟨j,g,rfl⟩:=qE e;rw[qB]at g;rw[zL];by_cases m:j=n-1
  .subst m;exact i n3
  .exact HX (zf.1 f j (n-1) n3 n3 n3) (i n3)
 have l:∀b∈o.drop n,gF c x b:=λb d=>by
  obtain⟨j,g,rfl⟩:=qE d;rw[qJ]at g;rw[zR];exact p _ _ n3
 rw[zD];refine⟨f.sublist (vW _ _),?_,λa e b d=>?_⟩
 .rw[xk,zw];exact⟨l,f.sublist (List.drop_sublist _ _)⟩
 .rw[xk,qQ]at d;rcases d with rfl|d
  .exact k a e
  .exact HX (k a e) (l b d)
theorem YE(o:aD)(x:Int)(n:Nat):(o.take n++([x]++o.drop n)).Perm (o++[x]):=by have a:(o.take n++([x]++o.drop n)).Perm (o.take n++(o.drop n++[x])):=List.Perm.append_left _ (List.perm_append_comm);rw[<-qo (o.take n) (o.drop n),qD]at a;exact a
theorem KS(d block:Int)(live:Sl)(l:aD)(h:hY)(hl:Rd h live 1 aq l)(b2:n1 l<=2^30):
  an xZ 95 #[xP xV d,xP xV block,live] h λv h'=>∃r:Sl,v=r/\Sp h h' [ai 3 r 1 aq (jk d block l)]:=by
 have b4:=hl.len;refine ts Tryz.func95 ?_ (G7 (HF [] [(6,7),(14,28)] (G7 (G7 (E8 (G7 (F8 (G0 [(8,bN),(36,aH)] [(8,9),(10,14),(36,98)] (G7 (G7 (E8 (F8 (G7 (HF [] [(40,51)] (G7 (E8 (G6 [(11,aH)] [(11,14),(53,86)] (F8 (G0 [(11,aH)] [(11,14),(53,86)] (G7 (F8 (HF [(12,aH),(13,aH)] [(12,14),(55,67)] E9)))))) E9))))) E9)))))) E9))))) [(11,(.l [0,2,4,5,6,7,8,10,1,3,9,11,12,13])),(14,(.y [0,1,2,4,6,7,8] (.l [3,5,9,10,11]) (.y [5] (.l [3,9,10,11]) (.l [9,3,10,11]))))];have no:¬(0<=d/\d<=16777215/\0<=block/\block<8)->∃r:Sl,Value.slice dB 0 0=xQ r.ptr r.len r.cap/\Sp h h [ai 3 r 1 aq (jk d block l)]:=λM=>by
  rw[jk,m6 M];exact⟨⟨dB,0,0⟩,n2,(Sp.refl h).nil 3 1 aq⟩
 refine aE (ae (λe=>no n3) λe1=>ae (λe=>no n3) λe2=>ae (λe=>no n3) λe3=>ae (λe=>no n3) λe4=>?_);have ap:0<=d/\d<=16777215/\0<=block/\block<8:=n3
 rw[jk,l0 ap];rw[ag (8*d),ag (8*d+block),zY n3];obtain⟨c,hc⟩:∃c:Nat,(8*d+block)%64=c:=⟨((8*d+block)%64).toNat,n3⟩
 have B:c<64:=n3
 rw[hc,qj];refine⟨n4,(ur c h B).mono ?_⟩;rintro v h2 ⟨rfl,R2⟩;refine⟨((bx c).x,(bx c).y),n2,?_⟩;refine R2.alloc af n2 λa h3 H3=>?_;refine H3.storeAll af 0 n2 n2 [xP xV (bx c).x,xP xV (bx c).y] n2 n2 n2 n2 λh4 H4=>?_;refine ak (λt:Sl×Nat×aD=>(t.1,(t.2.1:Int))) (λt h'=>t.2.1<=n1 l/\t.2.2.Perm (eP (l.take t.2.1))/\t.2.2.Pairwise (gF c)/\Sp h h' [aj a 199 [xP xV (bx c).x,xP xV (bx c).y],ai 3 t.1 1 aq t.2.2]) (λt=>n1 l-t.2.1) (⟨dB,0,0⟩,0,[]) n2 ⟨n9,by simp[eP],List.Pairwise.nil,H4.nil 3 1 aq⟩ ?_;rintro⟨s,k,o⟩ h5 ⟨hk,u,T,N⟩;dsimp only at*;have b6:n1 o<=k:=by rw[u.length_eq];exact Na l k
 have ax:=(N.own 1 n2).len;have ay:=(N.own 1 n2).cap;refine ae (λe=>?_) (λe=>?_)
 .have ao:k<n1 l:=n3
  have hs:=rL l ao;refine(Seq.up hl N.ac).aX k n2 ao _ n2 ?_;obtain⟨x,hx⟩:=I3 (l[k])
  rw[<-hx]at hs⊢;rw[ag ((k:Int)+1)];have skip:∀{h':hY},¬(0<=x/\x<64/\(eP (l.take k)).contains x=eL)->Sp h h' [aj a 199 [xP xV (bx c).x,xP xV (bx c).y],ai 3 s 1 aq o]->
    ∃f:Sl×Nat×aD,((⟨s.ptr,s.len,s.cap⟩:Sl),(k:Int)+1)=(f.1,(f.2.1:Int))/\(f.2.1<=n1 l/\f.2.2.Perm (eP (l.take f.2.1))/\f.2.2.Pairwise (gF c)/\Sp h h' [aj a 199 [xP xV (bx c).x,xP xV (bx c).y],ai 3 f.1 1 aq f.2.2])/\l.length-f.2.1<n1 l-k:=λa6 H=>
   ⟨(s,k+1,o),n2,⟨n5,by dsimp only;rw[hs,oY,m6 a6];exact u,T,H⟩,n5⟩
  refine aE (ae (λx0=>skip n3 N) λx0=>ae (λx1=>skip n3 N) λx1=>?_);refine(OX s o x h5 (N.seq 1 n2 λ_=>rfl) n3).mono ?_;rintro v h6 ⟨rfl,rfl⟩;have O:(eP (l.take k)).contains x=decide (x∈o):=by rw[List.contains_eq_mem];exact decide_eq_decide.2 u.mem_iff.symm
  refine⟨_,n2,aU (λe5=>skip (λE=>by rw[O,e5]at E;cases E.2.2) N) λe5=>?_⟩;have a9:x∉o:=of_decide_eq_false e5;have al:eP (l.take (k+1))=eP (l.take k)++[x]:=by rw[hs,oY,l0 ⟨n3,n3,by rw[O];exact e5⟩]
  obtain⟨m,hm⟩:∃m:Nat,x=m:=⟨x.toNat,n3⟩
  have P:m<64:=n3
  have J:∀j (R:j<n1 o),0<=o[j]/\o[j]<64:=λj R=>((FT l k hk _).1 (u.mem_iff.1 (qf R))).2;refine bj (λ(t:Int) h'=>∃n:Nat,t=n/\n<=n1 o/\(∀(E:0<n) (M:n-1<n1 o),gF c o[n-1] x)/\(∀j (R:j<n1 o),n<=j->gF c x o[j])/\Sp h h' [aj a 199 [xP xV (bx c).x,xP xV (bx c).y],ai 3 s 1 aq o]) ?_ ?_
  .refine ak (λn:Nat=>(n:Int)) (λn h'=>n<=n1 o/\(∀j (R:j<n1 o),n<=j->gF c x o[j])/\Sp h h' [aj a 199 [xP xV (bx c).x,xP xV (bx c).y],ai 3 s 1 aq o]) (λn=>n) o.length (by rw[ax]) ⟨qk _,λj R E=>n3,N⟩ ?_;rintro n h8 ⟨M,D,H8⟩;refine ae (λe6=>?_) λe6=>⟨n,n2,M,λE=>n3,D,H8⟩;obtain⟨i,rfl⟩:∃i,n=i+1:=⟨n-1,n3⟩
   have G:i<n1 o:=n3
   have a1:qe xV (((i+1:Nat):Int)-1)=(i:Int):=o6
   rw[a1];have b1:=J i G;obtain⟨b,Y⟩:∃b:Nat,o[i]=(b:Int):=⟨(o[i]).toNat,n3⟩
   have Q:b<64:=n3
   have L:∀{p q:Int} {p' q':Nat},p=(p':Int)->q=(q':Int)->(gF c p q↔lR p' c<lR q' c∨(lR p' c=lR q' c/\p<q)):=λhp hq=>by subst hp;subst hq;simp only[gF,qj]
   have b0:x≠o[i]:=λE=>a9 (by rw[E];exact qf G);refine bj (λ(t:Int×Int) h'=>t=(lR m c,lR b c)/\Sp h h' [aj a 199 [xP xV (bx c).x,xP xV (bx c).y],ai 3 s 1 aq o]) ?_ ?_
   .have c8:=H8.box 0 n2;refine⟨((bx c).x,(bx c).y),c8.aw _ n2,?_⟩;refine(H8.seq 1 n2 λ_=>rfl).nD i n2 G (b:Int) (by rw[Y];rfl) λb3 am=>?_;refine⟨((bx c).x,(bx c).y),c8.aw _ n2,?_⟩;rw[hm];refine(ur m h8 P).mono ?_;rintro v h9 ⟨rfl,R9⟩;have H9:=H8.up R9.ac;have c9:=H9.box 0 n2;have q9:=QJ am R9.ac;refine⟨((bx m).x,(bx m).y),n2,⟨c9.cell0 n2,c9.cell n2,q9,c9.cell0 n2,c9.cell n2,I4⟩,(Fb m c h9 P B).mono ?_⟩;rintro v bl ⟨rfl,V⟩;have ah:=H9.up V.ac;have X:=ah.box 0 n2;have a5:=QJ q9 V.ac;refine⟨_,n2,⟨X.cell0 n2,X.cell n2,a5,I4⟩,(ur b bl Q).mono ?_⟩;rintro v a8 ⟨rfl,a7⟩;have U:=ah.up a7.ac;have ad:=U.box 0 n2;refine⟨((bx b).x,(bx b).y),n2,⟨ad.cell0 n2,ad.cell n2,I4⟩,(Fb b c a8 Q B).I1 λb5 a0=>?_⟩;exact⟨_,n2,I4,n2,U.up a0.ac⟩
   .rintro t a3 ⟨rfl,K⟩
    try dsimp only
    have next:gF c x o[i]->∃f:Nat,(i:Int)=(f:Int)/\(f<=n1 o/\(∀j (R:j<n1 o),f<=j->gF c x o[j])/\Sp h a3 [aj a 199 [xP xV (bx c).x,xP xV (bx c).y],ai 3 s 1 aq o])/\f<i+1:=λbk=>
     ⟨i,n2,⟨n3,λj R b9=>by
      by_cases E:j=i
      .subst E;exact bk
      .exact D j R n3,K⟩,n3⟩
    refine ae (λe7=>?_) (λe7=>aV (λe8=>?_) λe8=>next ((L hm Y).2 (.inl n3)))
    .exact⟨i+1,n2,M,λ_ _=>(L Y hm).2 (.inl n3),D,K⟩
    .refine(K.seq 1 n2 λ_=>rfl).aX i n2 G _ n2 ?_;refine ae (λe9=>?_) λe9=>next ((L hm Y).2 (.inr ⟨e8,n3⟩));exact⟨i+1,n2,M,λ_ _=>(L Y hm).2 (.inr ⟨e8.symm,e9⟩),D,K⟩
  .rintro t b7 ⟨n,rfl,M,bd,D,I⟩;have bb:=(I.own 1 n2).len;have w:=(I.own 1 n2).cap;have Z:=KR M T (λE=>bd E n3) D;have W:(o.take n++([x]++o.drop n)).Perm (eP (l.take (k+1))):=by rw[al];exact(YE o x n).trans (u.append_right _)
   refine⟨⟨zi _,wG.2 n3⟩,?_⟩;rw[qj];have tk:∀{h':hY} {As:List HP},Sp h h' (aj a 199 [xP xV (bx c).x,xP xV (bx c).y]::ai 3 s 1 aq o::As)->Rd h' ⟨s.ptr,n,n⟩ 1 aq (o.take n):=λH=>
    have q:=(H.seq 1 n2 λ_=>rfl).take n M
    ⟨q.len,q.elem⟩
   have done:∀{h':hY} (z:Sl) {As:List HP},Sp h h' (aj a 199 [xP xV (bx c).x,xP xV (bx c).y]::ai 3 s 1 aq o::ai 3 z 1 aq ([x]++o.drop n)::As)->
     bC xZ (zb #[22,22] 22 #[xQ s.ptr n n,z]) (.one (.sc .slc)) h' λv25 S=>(bF.ok [] S)/\
      ∃f:Sl×Nat×aD,((⟨v25.ptr,v25.len,v25.cap⟩:Sl),(k:Int)+1)=(f.1,(f.2.1:Int))/\(f.2.1<=n1 l/\f.2.2.Perm (eP (l.take f.2.1))/\f.2.2.Pairwise (gF c)/\Sp h S [aj a 199 [xP xV (bx c).x,xP xV (bx c).y],ai 3 f.1 1 aq f.2.2])/\l.length-f.2.1<n1 l-k:=λ{h'} z As H=>by
    have bq:=(H.own 2 n2).len;rw[qq,wX]at bq;have HH:Sp h h' [aj a 199 [xP xV (bx c).x,xP xV (bx c).y]]:=H.take 0 (λi A G=>by cases i with|zero=>exact G|succ i=>simp at G);refine HH.Ep (s:=⟨s.ptr,n,n⟩) af oW HW n2 n4 (λ_=>rfl) (tk H) (qk _) n5 (H.seq 2 n2 λ_=>rfl) n7 λy S a2=>⟨I4,?_⟩
    exact⟨(y,k+1,o.take n++([x]++o.drop n)),n2,⟨n5,W,Z,a2⟩,n5⟩
   refine⟨?_,?_⟩
   .refine hJ af oW n n2 n2 n3 ⟨I4,?_⟩;refine I.lit af aq oW n2 [x] n2 (show 1*1<=2^20 by decide) n2 λz br g=>⟨I4,?_⟩
    refine g.append af 2 n2 oW HW n2 n4 (λ_=>rfl) ((g.seq 1 n2 λ_=>rfl).drop n w) cP n7 λz' ab F=>⟨I4,?_⟩
    exact done z' F
   .refine I.lit af aq oW n2 [x] n2 (show 1*1<=2^20 by decide) n2 λz br g=>⟨I4,?_,?_⟩
    .refine hJ af oW n n2 n2 n3 ⟨I4,?_⟩;refine g.append af 2 n2 oW HW n2 n4 (λ_=>rfl) ((g.seq 1 n2 λ_=>rfl).drop n w) cP n7 λz' ab F=>⟨I4,?_⟩
     exact done z' F
    .refine g.append af 2 n2 oW HW n2 n4 (λ_=>rfl) ((g.seq 1 n2 λ_=>rfl).drop n w) cP n7 λz' ab F=>⟨I4,?_⟩
     refine hJ af oW n n2 n2 n3 ⟨I4,?_⟩;exact done z' F
 .have a4:k=n1 l:=n3
  subst a4;rw[qy]at u;refine⟨s,n2,?_⟩;rw[Nf B u T];exact N.take 1 (λi A G=>by cases i with|zero=>exact G|succ i=>simp at G)
theorem Cf(p:Pm)(seed:Int)(h:hY):an xZ 92 #[gr p,xP xX seed] h λv h'=>v=xT (fE p seed (fl p))/\Sp h h' []:=by
 refine ts Tryz.func92 ?_ (G7 (G7 (E8 (G6 [(5,bN)] [(5,21)] (G7 (F8 (G0 [(5,bN),(6,aH)] [(5,21)] (HF [] [(7,15)] E9))))) E9))) (args:=[p,(xP xX (seed:Int))]);refine(Sp.refl h).boxed λa f z=>?_;refine bj (λ(s:Sl) h'=>∃l:aD,fE p seed l=fE p seed (fl p)/\l.length<=16/\Sp h h' [aj a 24 [xP xV p.1,xP xV p.2.1,xP xV p.2.2],ai 3 s 1 aq l]) ?_ ?_
 .refine ak (λt:Sl×Nat=>(t.1,(t.2:Int))) (λt h'=>(t.2:Int)<=max 0 p.1/\(bJ p=eL->t.2=0)/\Sp h h' [aj a 24 [xP xV p.1,xP xV p.2.1,xP xV p.2.2],ai 3 t.1 1 aq (upto t.2)]) (λt=>p.1.toNat-t.2) (⟨dB,0,0⟩,0) n2 ⟨n7,λ_=>rfl,z.nil 3 1 aq⟩ ?_;rintro⟨s,k⟩ i ⟨D,j,c⟩;dsimp only at*;have d:bJ p=eH->k<=16:=λb=>by have:=(bL p).1 b;omega
  have g:k<=16:=by
   cases b:bJ p with
   |true=>exact d b
   |false=>have:=j b;omega
  have fin:∀h',(bJ p=eL∨¬(k:Int)<p.1)->Sp h h' [aj a 24 [xP xV p.1,xP xV p.2.1,xP xV p.2.2],ai 3 s 1 aq (upto k)]->∃l:aD,fE p seed l=fE p seed (fl p)/\l.length<=16/\Sp h h' [aj a 24 [xP xV p.1,xP xV p.2.1,xP xV p.2.2],ai 3 s 1 aq l]:=λh' x H=>by
   refine⟨upto k,?_,by rw[fA];exact g,H⟩;cases b:bJ p with
   |false=>rw[fE,fE,b];rfl
   |true=>
    have:=(bL p).1 b;have w:¬(k:Int)<p.1:=by
     rcases x with f|f
     .rw[b]at f;cases f
     .exact f
    rw[fl,show(max 0 (min p.1 16)).toNat=k by omega]
  refine aE ⟨p.1,(c.box 0 n2).cell0 n2,?_⟩;refine ae (λe=>?_) λe=>fin i (.inr e) c;refine⟨p,(c.box 0 n2).aw _ n2,(dV p i).mono ?_⟩;rintro v h3 ⟨rfl,o⟩;have q:Sp h h3 [aj a 24 [xP xV p.1,xP xV p.2.1,xP xV p.2.2],ai 3 s 1 aq (upto k)]:=c.up o.ac;refine⟨_,n2,aU (λb=>?_) λb=>fin h3 (.inl b) q⟩;have:=(bL p).1 b;refine q.push af 1 n2 eK n2 n4 (λ_=>rfl) cP (k:Int) n2 n4 B6 λy B u=>?_;refine⟨(y,k+1),n8,⟨n5,⟨λr=>(by rw[b]at r;cases r),?_⟩⟩,n5⟩;dsimp only;rw[Km];exact u
 .rintro s i ⟨l,m,A,c⟩;refine⟨p,(c.box 0 n2).aw _ n2,(NN p seed s l i (c.seq 1 n2 λ_=>rfl) n3).I1 λh3 o=>?_⟩;exact⟨_,n2,B3,.zip (c.comp o).ac⟩
theorem Ez{B:au}{d h:hY}{b c A2:HP}{As:List HP}(H:aa B d h (b::c::A2::As)):aa B d h [b,c,A2]:=
 H.take 0 λi A a=>by
  rw[Nat.zero_add]
  match i,a with
  |0,a=>exact a
  |1,a=>exact a
  |2,a=>exact a
  |k+3,a=>simp at a
theorem KT(a b:Sl)(A D:aO)(n w:Nat)(h:hY)(ha:eu h a 1 ar A)(hb:eu h b 1 ar D)(hl:n1 A=n)(g8:n1 D=n)(hA:aW n A)(hB:aW w D)(hf:1<=n)(hn:n+w<=64)(hr:cx A=n):
  an xZ 158 #[a,b] h λv h'=>∃r:Sl,v=.tuple #[r,xP xV 0]/\Sp h h' [dD 41 r 1 ar (eS n A D)]:=by
 have b7:n1 D=n1 A:=n3
 have e7:=ha.len;have b4:=hb.len;refine ts Tryz.func158 ?_ (G7 (HF [] [(4,6),(16,36)] (G7 (G7 (G7 (E8 (G7 (F8 (G0 [(7,bN),(8,bN),(46,aH)] [(7,10),(46,66)] E9))) (E8 (G7 (F8 (G0 [(10,aH)] [(10,15),(66,182)] (G7 (E8 (F8 (G7 (E8 (F8 (G0 [(11,aH)] [(11,12),(72,82)] E9)) (HF [] [(82,110)] (G7 (HF [] [(118,136)] (G7 (F8 (G0 [(138,aH)] [(13,15),(138,182)] (G7 (G7 (E8 (F8 (G7 (G7 (HF [(154,mH)] [(148,155)] E9)))) E9)))))))))))) E9))))) (Hf [(15,aH)] [(4,6),(15,16),(183,195)])))))))) [(10,(.l [0,1,2,3,4,8,9,10,11,12,5,6,7,13,14,15,16,17])),(20,(.l [0,1,2,3,4,5,6,7,8,10,11,12,13,14,9,15,16,17,18,19])),(26,(.l [0,1,2,3,4,5,6,7,8,9,10,11,12,14,15,16,17,18,19,20,21,22,13,23,24,25,26,27]))];refine aE ?_;refine(lE a A n h ha hA).mono ?_;rintro v h1 ⟨rfl,rfl⟩;refine⟨_,n2,aI (λe=>oj) λ_=>?_⟩;refine(lE b D w h1 hb hB).mono ?_;rintro v y ⟨rfl,rfl⟩;refine⟨_,n2,aI (λe=>oj) λ_=>?_⟩;refine bt (λe=>absurd (by rw[e7,b4,b7]) e) λ_=>?_;refine aV (λe=>n3) λ_=>?_;refine ha.get 0 n2 n3 λr0 ek=>?_;have ap:=ek.len;rw[hA _ (qf _)]at ap;rw[ap];refine(uq a A n y ha hA).mono ?_;rintro v h4 ⟨rfl,R4⟩;rw[hr];refine⟨_,n2,ae (λe=>absurd (show(n:Int)<(n:Int)from e) n3) λ_=>?_⟩;obtain⟨M,hM⟩:=I3 (eI A D)
 have eb:n1 M=n:=by rw[hM,lq];exact hl
 have du:aW (n+w) M:=by rw[hM];exact lJ n3 hA hB
 have d5:∀k (hk:k<n),(M[k]'n3).take n=A[k]'n3/\(M[k]'n3).drop n=D[k]'n3:=λk hk=>by
  have h1:(A[k]'n3).length=n:=hA _ (qf _);have e:M[k]'n3=A[k]'n3++D[k]'n3:=by subst hM;simp[eI]
  rw[e,List.take_left' h1,List.drop_left' h1];exact⟨n2,n2⟩
 have bk:(bc M n).1=n:=by rw[hM,tK n3 hA];exact hr
 obtain⟨gk,dk⟩:=ha;obtain⟨f9,e6⟩:=hb;have H4:=(((Sp.refl y).up R4.ac).nil 41 1 bv).nil 41 1 bv|>.ZN
 refine ak (λt:Sl×Sl×Nat×List Sl×List Sl×List (Sl×Row)=>(t.1,t.2.1,(t.2.2.1:Int)))
  (λt h'=>t.2.2.1<=n/\Sp y h' [ai 41 t.1 1 bv t.2.2.2.1,ai 41 t.2.1 1 bv t.2.2.2.2.1,fP t.2.2.2.2.2]/\cb t.2.2.2.2.2 (yy n) t.2.2.2.1 (M.take t.2.2.1)/\cb t.2.2.2.2.2 (wW n) t.2.2.2.2.1 (M.take t.2.2.1))
  (λt=>n-t.2.2.1) (⟨dB,0,0⟩,⟨dB,0,0⟩,0,[],[],[]) n2 ⟨n9,H4,cb.nil _ _,cb.nil _ _⟩ ?_
 rintro⟨s,t,k,rs,qs,pool⟩ h5 ⟨hk,H5,ip,iq⟩;dsimp only at*;have fs:n1 rs=k:=by rw[ip.1,qB];omega
 have fr:n1 qs=k:=by rw[iq.1,qB];omega
 refine ae (λe=>?_) (λe=>?_)
 .have fq:k<n:=n3
  obtain⟨mt,md⟩:=d5 k fq;have lA:(A[k]'n3).length=n:=hA _ (qf _);have lB:(D[k]'n3).length=w:=hB _ (qf _);obtain⟨a8,dr,x9,d1,d4⟩:=dk.RD (K:=λ_ r=>Rd y r 1 ar (A[k]'n3)) (i:=(k:Int)) k rfl n3 λ_ _ _ hs _=>hs;obtain⟨e9,c5,eh,E,cs⟩:=e6.RD (K:=λ_ r=>Rd y r 1 ar (D[k]'n3)) (i:=(k:Int)) k rfl n3 λ_ _ _ hs _=>hs;refine⟨a8,dr,x9,ee d1 H5.ac,e9,c5,eh,ee E H5.ac,?_⟩;have H6:=H5.nil 5 1 ar;refine H6.append af 3 n2 cN ⟨_,_,n2,n2⟩ n2 n4 (λ_=>rfl) (Seq.up d4 H6.ac) cD n7 λa4 h7 H7=>⟨⟨ee E H7.ac,I4⟩,?_⟩
  refine H7.lit af bv cM n2 [a4] n2 (show 1*1<=2^20 by decide) n2 λg2 h8 H8=>⟨⟨ee E H8.ac,I4⟩,?_⟩
  refine H8.append af 0 n2 cM ⟨_,_,n2,n2⟩ n2 n4 (λ_=>rfl) (H8.seq 4 n2 λ_=>rfl) jK n7 λs' h9 H9=>⟨⟨ee E H9.ac,I4⟩,?_⟩
  have c4:=H9.nil 5 1 ar;refine c4.append af 5 n2 cN ⟨_,_,n2,n2⟩ n2 n4 (λ_=>rfl) (Seq.up cs c4.ac) cD n7 λb1 gl dd=>⟨I4,?_⟩
  refine dd.lit af bv cM n2 [b1] n2 (show 1*1<=2^20 by decide) n2 λf0 bd q=>⟨I4,?_⟩
  refine q.append af 1 n2 cM ⟨_,_,n2,n2⟩ n2 n4 (λ_=>rfl) (q.seq 6 n2 λ_=>rfl) jK n7 λB d0 d2=>⟨I4,?_⟩
  have ax:=(((d2.freeze 3 n2 λ_=>rfl).freeze 5 n2 λ_=>rfl).pool 2 3 n4 n2 n2).pool 2 5 n4 n2 n2;refine⟨(s',B,k+1,rs++[a4],qs++[b1],(b1,D[k]'n3)::(a4,A[k]'n3)::pool),n8,⟨n5,Ez ax,?_,?_⟩,n5⟩
  .try dsimp only
   rw[aC _ _ (show k<n1 M by omega)];exact(ip.mono λx U=>qt _ (qt _ U)).snoc (by rw[mt];simp)
  .try dsimp only
   rw[aC _ _ (show k<n1 M by omega)];exact(iq.mono λx U=>qt _ (qt _ U)).snoc (by rw[md];simp)
 have ej:k=n:=n3
 subst ej;rw[qh n3]at ip iq;have f5:=(H5.own 0 n2).len;have gd:=(H5.own 1 n2).len;have gi:=(H5.own 1 n2).cap;refine ak (λt:Nat×List Sl×List Sl×List (Sl×Row)=>(t.1:Int))
  (λu h'=>u.1<=k/\Sp y h' [ai 41 s 1 bv u.2.1,ai 41 t 1 bv u.2.2.1,fP u.2.2.2]/\cb u.2.2.2 (yy k) u.2.1 (bc M u.1).2/\cb u.2.2.2 (wW k) u.2.2.1 (bc M u.1).2)
  (λu=>k-u.1) (0,rs,qs,pool) n2 ⟨n9,H5,ip,iq⟩ ?_
 rintro⟨c,T,S,o⟩ bd ⟨hc,q,J,L⟩;dsimp only at*;have Y:=fS du c;obtain⟨F,a3⟩:=I3 ((bc M c).2)
 rw[<-a3]at J L Y;have b3:n1 F=k:=by rw[Y.2];exact eb
 have g6:=J.1;have e1:=L.1;refine ae (λe=>?_) (λe=>?_)
 .have H:c<k:=n3
  obtain⟨ix,bb,ci⟩:=JA bk H;rw[<-a3]at bb ci;have cf:=kL bb;have a0:∀j (hj:j<k),(F[j]'n3).length=k+w:=λj hj=>Y.1 _ (qf _);refine ak (λj:Nat=>(j:Int)) (λj h'=>h'=bd/\c<=j/\j<=ix) (λj=>ix-j) c n2 ⟨n2,qk _,cf.1⟩ ?_;rintro j d0 ⟨rfl,e5,g7⟩;have a9:j<k:=n3
  have br:=q.seq 0 n2 λ_=>rfl;refine br.dQ j n2 n3 λ_ _ _=>?_;have c1:=q.ik 2 n2 (J.get (show j<n1 F by omega));have ep:((F[j]'n3).take k)[c]'(by rw[qB,a0 j a9];omega)=aM (aB F j) c:=by rw[zL,bh n3,lX (by rw[a0 j a9];omega)]
  refine c1.aX c n2 (by rw[qB,a0 j a9];omega) _ n2 ?_;rw[ep];refine aV (λe0=>?_) (λe0=>?_)
  .have:j≠ix:=λhh=>cf.2.2 (by rw[<-hh];exact nj.1 e0);exact⟨j+1,oi,⟨n2,n3,n3⟩,n3⟩
  have d9:j=ix:=by
   by_cases hh:j<ix
   .exact absurd (by rw[CR bb e5 hh];rfl) e0
   .omega
  subst d9;refine aE ?_;have b6:=q.seq 1 n2 λ_=>rfl;refine br.dQ c n2 n3 λ_ _ _=>?_;refine br.dQ j n2 n3 λ_ _ _=>?_;refine b6.dQ c n2 n3 λ_ _ _=>?_;refine b6.dQ j n2 n3 λ_ _ _=>?_;refine q.set af 0 n2 (λ_=>rfl) n2 j n2 n3 (T[c]'n3) n2 n2 n2 λg9 ax=>⟨I4,?_⟩
  refine ax.set af 0 n2 (λ_=>rfl) n2 c n2 n7 (T[j]'n3) n2 n2 n2 λf3 er=>⟨I4,?_⟩
  refine er.set af 1 n2 (λ_=>rfl) n2 j n2 n3 (S[c]'n3) n2 n2 n2 λhd ef=>⟨I4,?_⟩
  refine ef.set af 1 n2 (λ_=>rfl) n2 c n2 n7 (S[j]'n3) n2 n2 n2 λcq en=>⟨I4,?_⟩
  obtain⟨m2,X⟩:=I3 (fM F c j)
  have c0:m2=(F.set j (aB F c)).set c (aB F j):=by rw[X,BH];rfl
  obtain⟨a5,ad⟩:∃x,x=(T.set j (T[c]'n3)).set c (T[j]'n3):=⟨_,rfl⟩
  obtain⟨b0,ab⟩:∃x,x=(S.set j (S[c]'n3)).set c (S[j]'n3):=⟨_,rfl⟩
  have a2:cb o (yy k) a5 m2:=by rw[c0,ad,bh n3,bh n3];exact(J.set j (J.get n3)).set c (J.get n3)
  have bq:cb o (wW k) b0 m2:=by rw[c0,ab,bh n3,bh n3];exact(L.set j (L.get n3)).set c (L.get n3)
  have z:Sp y cq [ai 41 s 1 bv a5,ai 41 t 1 bv b0,fP o]:=by rw[ad,ab];exact en
  have es:n1 m2=k:=by rw[X,iU];exact b3
  have Z:aW (k+w) m2:=by rw[X];exact og Y.1
  have g1:=a2.1;have f6:=bq.1;have P:∀i (hi:i<k),(m2[i]'n3).length=k+w:=λi hi=>Z _ (qf _);have cr:=z.seq 0 n2 λ_=>rfl;have dx:=z.seq 1 n2 λ_=>rfl;refine cr.dQ c n2 n3 λ_ _ _=>?_;have W:=z.ik 2 n2 (a2.get (show c<n1 m2 by omega));have fi:((m2[c]'n3).take k)[c]'(by rw[qB,P c H];omega)=aM (aB m2 c) c:=by rw[zL,bh n3,lX (by rw[P c H];omega)]
  refine W.aX c n2 (by rw[qB,P c H];omega) _ n2 ?_;rw[fi];refine(Af _ cq).mono ?_;rintro v da ⟨rfl,rfl⟩;refine⟨_,n2,aE ?_⟩;refine cr.dQ c n2 n3 λ_ _ _=>?_;refine dx.dQ c n2 n3 λg3 cp _=>?_
  try dsimp only
  refine(ma _ _ _ da W (by rw[qB,P c H];omega)).mono ?_;rintro v ew ⟨ra,rfl,cd⟩;refine⟨ra,n2,⟨ee cp cd.ac,I4⟩,?_⟩;have c2:=z.comp cd;refine(ma _ _ _ ew (c2.ik 2 n2 (bq.get (show c<n1 m2 by omega))) (by rw[qJ,P c H];omega)).mono ?_;rintro v f7 ⟨rb,rfl,ea⟩;refine⟨rb,n2,I4,?_⟩;have d3:=c2.comp ea;refine d3.set af 0 n2 (λ_=>rfl) n2 c n2 n3 ra n2 n2 n2 λhe eg=>⟨I4,?_⟩
  refine eg.set af 1 n2 (λ_=>rfl) n2 c n2 n3 rb n2 n2 n2 λec ed=>⟨I4,?_⟩
  have d8:=Ez ((((ed.freeze 3 n2 λ_=>rfl).freeze 4 n2 λ_=>rfl).pool 2 3 n4 n2 n2).pool 2 4 n4 n2 n2);obtain⟨d,N⟩:=I3 (fW c c m2)
  obtain⟨ay,al⟩:∃x,x=a5.set c ra:=⟨_,rfl⟩
  obtain⟨bl,ah⟩:∃x,x=b0.set c rb:=⟨_,rfl⟩
  obtain⟨m,g⟩:∃x,x=(rb,scaleB (Gf.inv (aM (aB m2 c) c)) ((m2[c]'n3).drop k))::(ra,scaleB (Gf.inv (aM (aB m2 c) c)) ((m2[c]'n3).take k))::o:=⟨_,rfl⟩
  have dy:cb m (yy k) ay d:=by rw[N,al,fW,g];refine(a2.mono λx U=>qt _ (qt _ U)).set c ?_;rw[CM,<-bh (show c<n1 m2 by omega)];simp
  have fa:cb m (wW k) bl d:=by rw[N,ah,fW,g];refine(bq.mono λx U=>qt _ (qt _ U)).set c ?_;rw[GI,<-bh (show c<n1 m2 by omega)];simp
  have c7:Sp y ec [ai 41 s 1 bv ay,ai 41 t 1 bv bl,fP m]:=by rw[al,ah,g];exact d8
  have f4:n1 d=k:=by rw[N,kM];exact es
  have ao:aW (k+w) d:=by rw[N];exact mB Z n3
  have R:(bc M (c+1)).2=bO c c d k:=by rw[ci,N,X,b3]
  refine ak (λu:Nat×List Sl×List Sl×List (Sl×Row)=>(u.1:Int))
   (λu h'=>u.1<=k/\Sp y h' [ai 41 s 1 bv u.2.1,ai 41 t 1 bv u.2.2.1,fP u.2.2.2]/\cb u.2.2.2 (yy k) u.2.1 (bO c c d u.1)/\cb u.2.2.2 (wW k) u.2.2.1 (bO c c d u.1))
   (λu=>k-u.1) (0,ay,bl,m) n2 ⟨n9,c7,by rw[oh];exact dy,by rw[oh];exact fa⟩ ?_
  rintro⟨i,a7,a1,V⟩ c6 ⟨hi,f,I,G⟩;dsimp only at*;have f1:=kN c c d i;have g0:=I.1;have f8:=G.1;refine ae (λe2=>?_) (λe2=>?_)
  .have g5:i<k:=n3
   have ca:(bO c c d i)[i]'n3=aB d i:=by rw[<-bh n3,je,m6 n3]
   have eq:(bO c c d i)[c]'n3=aB d c:=by rw[<-bh n3,je,m6 n3]
   have li:(aB d i).length=k+w:=bZ ao;have lc:(aB d c).length=k+w:=bZ ao;have a6:=f.seq 0 n2 λ_=>rfl;have b2:=f.seq 1 n2 λ_=>rfl;have xi:=f.ik 2 n2 (I.get (show i<(bO c c d i).length by omega));have xc:=f.ik 2 n2 (I.get (show c<(bO c c d i).length by omega));have yi:=f.ik 2 n2 (G.get (show i<(bO c c d i).length by omega));have yc:=f.ik 2 n2 (G.get (show c<(bO c c d i).length by omega));rw[ca]at xi yi;rw[eq]at xc yc;refine a6.dQ i n2 n3 λ_ _ _=>?_;have el:((aB d i).take k)[c]'(by rw[qB,li];omega)=aM (aB d i) c:=by rw[zL,lX]
   refine xi.aX c n2 C2 _ n2 ?_;rw[el];rw[ag ((i:Int)+1)];have skip:bO c c d (i+1)=bO c c d i->∃B:Nat×List Sl×List Sl×List (Sl×Row),(i:Int)+1=(B.1:Int)/\(B.1<=k/\Sp y c6 [ai 41 s 1 bv B.2.1,ai 41 t 1 bv B.2.2.1,fP B.2.2.2]/\cb B.2.2.2 (yy k) B.2.1 (bO c c d B.1)/\cb B.2.2.2 (wW k) B.2.2.1 (bO c c d B.1))/\k-B.1<k-i:=λb5=>
    ⟨(i+1,a7,a1,V),n2,⟨n5,f,by dsimp only;rw[b5];exact I,by dsimp only;rw[b5];exact G⟩,n5⟩
   refine aE ?_;refine bt (λe3=>?_) (λe3=>rX n2 (skip ?_))
   .have Q:i≠c:=λhh=>e3 (by rw[hh]);refine bt (λe4=>?_) (λe4=>skip ?_)
    .refine a6.dQ c n2 n3 λ_ _ _=>?_;refine a6.dQ i n2 n3 λ_ _ _=>?_;refine b2.dQ c n2 n3 λgt cn _=>?_;refine b2.dQ i n2 n3 λhg b9 _=>?_;refine(jS _ _ _ _ _ c6 xc xi E0 C2).mono ?_;rintro v d7 ⟨ra,rfl,O⟩;refine⟨ra,n2,⟨ee b9 O.ac,ee cn O.ac,I4⟩,?_⟩;have ds:=f.comp O;refine(jS _ _ _ _ _ d7 (Seq.up yc O.ac) (Seq.up yi O.ac) E0 (by rw[qJ,li];omega)).I2 λrb fz d6=>⟨rb,n2,I4,?_⟩;have eo:=ds.comp d6;refine eo.set af 0 n2 (λ_=>rfl) n2 i n2 n3 ra n2 n2 n2 λg4 fb=>⟨I4,?_⟩
     refine fb.set af 1 n2 (λ_=>rfl) n2 i n2 n3 rb n2 n2 n2 λf2 c8=>⟨I4,?_⟩
     have e8:=Ez ((((c8.freeze 3 n2 λ_=>rfl).freeze 4 n2 λ_=>rfl).pool 2 3 n4 n2 n2).pool 2 4 n4 n2 n2);refine⟨(i+1,a7.set i ra,a1.set i rb,_),n2,⟨n5,e8,?_,?_⟩,n5⟩
     .try dsimp only
      rw[kv n3 Q];refine(I.mono λx U=>qt _ (qt _ U)).set i ?_;rw[IA];simp
     .try dsimp only
      rw[kv n3 Q];refine(G.mono λx U=>qt _ (qt _ U)).set i ?_;rw[Mi];simp
    .have hz:aM (aB d i) c=0:=nj.1 e4;rw[kv n3 Q,hz,BI];apply zq;intro x;rw[qZ];split
     .rename_i fn;subst fn;rw[l0 n3,qd n3,ca]
     .rfl
   .have Q:i=c:=n3
    subst Q;exact uC
  .have ei:i=k:=n3
   subst ei;refine⟨(c+1,a7,a1,V),n8,⟨n5,f,?_,?_⟩,n5⟩
   ·(try dsimp only);rw[R];exact I
   ·(try dsimp only);rw[R];exact G
 have c9:c=k:=n3
 subst c9;refine ak (λ_:Unit=>(c:Int)) (λ_ h'=>h'=bd) (λ_=>0) () n2 n2 ?_;rintro _ gs rfl;refine ae (λe=>n3) λ_=>?_;refine⟨⟨zi _,wG.2 (show c<=t.cap by omega)⟩,?_⟩;have am:eS c A D=F.map (wW c):=by rw[eS,<-hM,<-a3,qh n3]
 have et:t=⟨t.ptr,c,t.cap⟩:=by
  have:t.len=c:=n3
  obtain⟨p,l,cc⟩:=t;simp only at this⊢;rw[this]
 have HR:=q.nV 1 2 n4 (ll:=eS c A D) n2 n2 (by rw[am,qp];exact e1) (λi r l h1 y=>by
  rw[am,qP]at y;cases hmi:F[i]? with
  |none=>rw[hmi]at y;cases y
  |some x=>rw[hmi]at y;cases y;exact L.2 i r x h1 hmi)
 rw[qj];refine⟨⟨t.ptr,c,t.cap⟩,n2,?_⟩;rw[<-et];exact HR.take 1 (λi A hi=>by cases i with|zero=>exact hi|succ i=>simp at hi)
theorem PA(a b:Sl)(d c:Row)(h:hY)(i:Rd h a 1 ar d)(f:Rd h b 1 ar c)(g:n1 d=n1 c)(e:n1 c<=2^30):
  an xZ 233 #[a,b] h λv h'=>∃r:Sl,v=r/\Sp h h' [ai 5 r 1 ar (cL 1 d c)]:=by
 refine ts Tryz.func233 ?_;refine(jS 1 a b d c h i f g e).I2 λr j R=>⟨r,n2,r,n2,R⟩
theorem Fc(p:Pm)(m at_:Sl)(M:aO)(l:aD)(n w:Nat)(h:hY)(j:eu h m 1 ar M)(u:Rd h at_ 1 aq l)(z:p.2.2=w)(q:aW w M)(H:n1 M=n)(d:∀x∈l,0<=x/\x<(n:Int))(R:n<=64:=by omega)(I:w<=64:=by omega)(O:n1 l<=64:=by omega):
  an xZ 163 #[gr p,m,at_] h λv h'=>∃r:Sl,v=r/\Sp h h' [ai 5 r 1 ar (jN w M l)]:=by
 have G:=j.len;have N:=u.len;refine ts Tryz.func163 ?_ (G7 (G7 (Hf [(7,bN),(15,aH)] [(7,8),(9,10),(15,26)]))) (args:=[p,m,at_]);refine(Sp.refl h).boxed λa S g=>?_;refine⟨p.2.2,(g.box 0 n2).cell n2,?_⟩;refine g.make af ar cN n4 0 n2 n2 w w z z (qk _) n3 λo T _ _ F=>?_;refine ak (λt:Sl×Nat=>(t.1,(t.2:Int))) (λt h'=>t.2<=n1 l/\Sp h h' [aj a 24 [xP xV p.1,xP xV p.2.1,xP xV p.2.2],ai 5 t.1 1 ar (jN w M (l.take t.2))]) (λt=>n1 l-t.2) (o,0) n2 ⟨n9,F⟩ ?_;rintro⟨s,k⟩ h3 ⟨E,c⟩;dsimp only at*;refine ae (λe=>?_) (λe=>?_)
 .have b:k<n1 l:=n3
  have P:=d _ (qf b);refine(Seq.up u c.ac).aX k n2 b _ n2 ?_;refine(j.up c.ac).get l[k].toNat n3 n3 λr K=>?_;have J:=oN q H d k E;have B:(M[l[k].toNat]'n3).length=w:=q _ (qf _);refine(PA r s _ _ h3 K (c.seq 1 n2 λ_=>rfl) n3 n3).I2 λy Q L=>?_;have D:=(c.comp L).del 1;refine⟨y,n2,(y,k+1),n8,⟨n5,?_⟩,n5⟩
  try dsimp only
  rw[aC _ _ b,Bd,bh n3];exact D
 .rw[qh n3]at c;exact⟨s,n2,c.take 1 λi A f=>by cases i with|zero=>exact f|succ i=>simp at f⟩
def acX(h:hY)(b:fY)(p:Pm)(seed:Int)(M:aO):Prop:=∃m:Sl,bR h b 197 (sj p seed m)/\eu h m 1 ar M
theorem AK(b:fY)(p:Pm)(seed id:Int)(M:aO)(n w:Nat)(h:hY)(y:acX h b p seed M)(j:bJ p=eH)(F:p.2.2=w)(s:(bE p).toNat=n)(E:aW w M)(t:n1 M=n):
  an xZ 97 #[xR (cO b),xP xV id] h λv h'=>∃r:Sl,v=r/\Sp h h' [ai 5 r 1 ar (if bQ id then jN w M (ey n seed id)else[])]:=by
 obtain⟨m,a,D⟩:=y;have B:=(bL p).1 j;have G:bE p=p.1+p.2.1:=by rw[bE,l0 j]
 refine ts Tryz.func97 ?_;refine(kl id h).mono ?_;rintro v k ⟨rfl,rfl⟩;refine⟨_,n2,aI (λe=>⟨⟨dB,0,0⟩,n2,by rw[e];exact(Sp.refl k).nil 5 1 ar⟩) λhid=>?_⟩;rw[hid,l0 rfl];refine⟨b,n2,p,a.aw _ n2,b,n2,m,a.cell n2,b,n2,p,a.aw _ n2,b,n2,seed,a.cell n2,(BG p seed id k).mono ?_⟩;rintro v u ⟨c,rfl,f⟩;rw[j,hid,vl,l0 rfl,s]at f;have d:=a.ac f.ac a.lt;refine⟨c,n2,⟨d.cell n2,d.cell0 n2,d.cell n2,d.cell n2,I4⟩,?_⟩;have g:∀x∈ey n seed id,0<=x/\x<(n:Int):=λx o=>kq n3 n3 o;have q:=mz (n:=n) n3 n3 seed id;refine(Fc p m c M _ n w u (D.up f.ac) (f.seq 0 n2 λ_=>rfl) F E t g).I2 λr h3 z=>⟨r,n2,I4,r,n2,(f.comp z).take 1 λi A l=>by cases i with|zero=>exact l|succ i=>simp at l⟩
theorem PB(p:Pm)(seed:Int)(data:Sl)(d:Row)(h:hY)(hd:Rd h data 1 ar d)(hc:data.len<=data.cap):
  an xZ 94 #[gr p,xP xX seed,data] h λv h'=>
   (iM p seed d.length=0->∃(b:fY) (m:Sl),v=.tuple #[xR (cO b),xP xV 0]/\Sp h h' [dD 41 m 1 ar (kd p seed d),aj b 197 (sj p seed m)])/\
   (iM p seed d.length≠0->v=.tuple #[xR dB,xP xV (iM p seed d.length)]/\Sp h h' []):=by
 have Y:=hd.len;refine ts Tryz.func94 ?_ (G7 (HF [] [(6,8),(13,26)] (G7 (G7 (G7 (E8 (G7 (F8 (G0 [(9,bN),(34,aH)] [(9,10),(34,43)] E9))) (Hf [(8,bN),(9,bN),(10,aH)] [(8,11),(43,71)]))))))) (args:=[p,(xP xX (seed:Int)),data]);refine(Sp.refl h).boxed λa h1 H1=>?_;refine aE ?_;refine⟨p,(H1.box 0 n2).aw _ n2,(dV p h1).mono ?_⟩;rintro v h2 ⟨rfl,R2⟩;have y:=H1.comp R2;have no:∀{h3:hY} (x:Int),x≠0->iM p seed d.length=x->Sp h h3 [aj a 24 [xP xV p.1,xP xV p.2.1,xP xV p.2.2]]->
   (iM p seed d.length=0->∃(b:fY) (m:Sl),Value.tuple #[xR dB,xP xV x]=.tuple #[xR (cO b),xP xV 0]/\Sp h h3 [dD 41 m 1 ar (kd p seed d),aj b 197 (sj p seed m)])/\
   (iM p seed d.length≠0->Value.tuple #[xR dB,xP xV x]=.tuple #[xR dB,xP xV (iM p seed d.length)]/\Sp h h3 []):=λx hx L H=>by
  refine⟨λe=>absurd (L.symm.trans e) hx,λ_=>⟨by rw[L],.zip H.ac⟩⟩
 refine⟨_,n2,aI (λe=>no 1 n4 (by rw[iM,e];rfl) y) λE=>?_⟩;have a4:=(bL p).1 E;obtain⟨K,X⟩:∃K:Nat,p.1=K:=⟨p.1.toNat,n3⟩
 obtain⟨g,hH⟩:∃H:Nat,p.2.1=H:=⟨p.2.1.toNat,n3⟩
 obtain⟨w,D⟩:∃w:Nat,p.2.2=w:=⟨p.2.2.toNat,n3⟩
 have a1:K*w<=16*24:=zu n3 n3;have o:p.1*p.2.2=((K*w:Nat):Int):=by rw[X,D,zX]
 refine⟨p.1,(y.box 0 n2).cell0 n2,p.2.2,(y.box 0 n2).cell n2,?_⟩
 try dsimp only
 rw[o,ag _];refine bt (λe=>no 1 n4 (by rw[iM,E,nb (by rw[o];intro e2;exact e (by rw[Y];exact e2))];rfl) y) λel=>?_;have j:n1 d=K*w:=n3
 refine⟨p,(y.box 0 n2).aw _ n2,(Cf p seed h2).mono ?_⟩;rintro v h3 ⟨rfl,R3⟩;have H3:Sp h h3 [aj a 24 [xP xV p.1,xP xV p.2.1,xP xV p.2.2]]:=y.comp R3;have f:iM p seed d.length=if fE p seed (fl p)then 0 else 8:=by rw[iM,E,m9 (by rw[o,j])];rfl
 refine⟨_,n2,aI (λe=>no 8 n4 (by rw[f,e];rfl) H3) λhf=>?_⟩;rw[hf,l0 rfl]at f;have B:gq p seed d K g w (K+g):=⟨E,hf,X,hH,D,n2,n3,n3,n3,n3,n3,n3,j⟩
 refine⟨p,(H3.box 0 n2).aw _ n2,(Cc p h3 E).mono ?_⟩;rintro v h5 ⟨ra,rfl,R5⟩;rw[X,hH,qj,qj]at R5;have H5:=(H3.comp R5).sv 41 1 ar;have ao:(bz K g).length=g:=by simp[bz]
 have ah:=(R5.oG 0 n2).len;refine⟨ra,n2,?_⟩;refine ak (λt:Sl×Nat=>(t.1,(t.2:Int))) (λt h'=>t.2<=g/\Sp h h' [aj a 24 [xP xV p.1,xP xV p.2.1,xP xV p.2.2],dD 41 ra 1 ar (bz K g),dD 41 t.1 1 ar (qi t.2 (aN w))]) (λt=>g-t.2) (⟨dB,0,0⟩,0) n2 ⟨n9,H5⟩ ?_;rintro⟨s,k⟩ h6 ⟨hk,S⟩;dsimp only at*;refine ae (λe=>?_) (λe=>?_)
 .refine⟨p.2.2,(S.box 0 n2).cell n2,?_⟩;refine S.make af ar cN n4 0 n2 n2 w w D D (qk _) n3 λz h7 _ _ H7=>?_;have T:=H7.freeze 3 n2 λ_=>rfl;refine T.jE af 2 3 n4 n2 n2 cM n7 λs' h8 H8=>?_;refine⟨(s',k+1),n8,⟨n5,?_⟩,n5⟩
  try dsimp only
  rw[List.replicate_succ'];exact H8.del 3
 have V:k=g:=n3
 subst V;refine ak (λt:Sl×Sl×Nat=>(t.1,t.2.1,(t.2.2:Int))) (λt h'=>t.2.2<=K/\Sp h h' [aj a 24 [xP xV p.1,xP xV p.2.1,xP xV p.2.2],dD 41 t.1 1 ar (bz K k++(qz t.2.2).map λi:Nat=>pF (K+k) seed (i:Int)),dD 41 t.2.1 1 ar (qi k (aN w)++(qz t.2.2).map (PU d w))]) (λt=>K-t.2.2) (ra,s,0) n2 ⟨n9,C6⟩ ?_;rintro⟨u,v,i⟩ P ⟨Q,c⟩;dsimp only at*;refine⟨p.1,(c.box 0 n2).cell0 n2,ae (λe2=>?_) λe2=>?_⟩
 .have Z:i<K:=n3
  have m1:(i+1)*w<=K*w:=zo w Z;have m2:i*w<=(i+1)*w:=zo w n3;refine⟨p,(c.box 0 n2).aw _ n2,(Fa p seed i P).mono ?_⟩;rintro v2 ay ⟨rr,rfl,M⟩;rw[E,show bQ (i:Int)=eH by simp[bQ];omega,vl,l0 rfl,B.sC]at M;have W:=(c.comp M).freeze 3 n2 λ_=>rfl;refine⟨rr,n2,?_⟩;refine W.jE af 1 3 n4 n2 n2 cM n7 λu' ax F=>?_;have q:=F.del 3;refine⟨p.2.2,(q.box 0 n2).cell n2,p.2.2,(q.box 0 n2).cell n2,?_⟩;rw[ag ((i:Int)+1)];have e5:(i:Int)*p.2.2=((i*w:Nat):Int):=by rw[D,zX]
  have e6:((i:Int)+1)*p.2.2=(((i+1)*w:Nat):Int):=by rw[D,zX];rfl
  try dsimp only
  rw[e5,e6,kp _,kp _,qj,qj];refine⟨⟨zi _,wG.2 m2,wG.2 n3⟩,?_⟩;have J:=q.nil 5 1 ar;have a3:=PW (l:=d) (w:=w) (i:=i) n3;refine J.append (v:=Fv data w i) af 3 n2 cN uh n2 n4 (λ_=>rfl) ((Seq.up hd J.ac).piece hc w i) cD n7 λx a2 R=>?_;have G:=R.freeze 3 n2 λ_=>rfl;refine G.jE af 2 3 n4 n2 n2 cM n7 λv' al ab=>?_;refine⟨(u',v',i+1),n2,⟨n5,?_⟩,n5⟩
  try dsimp only
  rw[zH,qG,qG,<-qo,<-qo];exact ab.del 3
 have U:i=K:=n3
 subst U;have a0:bz i k++((qz i).map λi:Nat=>pF (i+k) seed (i:Int))=bz i k++((qz i).map λi:Nat=>pF (i+k) seed (i:Int)):=rfl;have O:=B.Jq;rw[<-O]at c;refine(KT u v _ (nu i k w d) (i+k) w P (c.oG 1 n2) (c.oG 2 n2) B.Mf (by rw[uD]) B.IB (Be B.len) n3 n3 B.IC).I2 λr ap ad=>?_;have N:=c.comp ad;refine⟨(r,0),n2,p,(N.box 0 n2).aw _ n2,?_⟩;refine N.boxed (t:=197) λb am I=>?_;refine⟨λ_=>⟨b,r,n2,?_⟩,λe=>absurd f e⟩;rw[<-B.BP]at I;exact I.take 3 (λi A Q=>by
  cases i with
  |zero=>exact Q
  |succ i=>cases i with
   |zero=>exact Q
   |succ i=>simp at Q)
end Go.Qw
