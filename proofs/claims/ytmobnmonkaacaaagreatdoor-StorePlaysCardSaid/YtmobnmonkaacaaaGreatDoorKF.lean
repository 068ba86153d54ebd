/- Lemmas for the proof of the law; no condition. -/
import Derived.Test.YtmobnmonkaacaaaGreatDoorKE
set_option maxHeartbeats 2000000
set_option linter.unusedVariables false
set_option maxHeartbeats 4000000
set_option linter.unusedSimpArgs false
open Go.Proofs.Tryz renaming prog -> xR
open List renaming all_map -> xF, findIdx_lt_length_of_exists -> wy, mem_append_left -> yG, mem_append_right -> ye, range -> qy, replicate -> qh, singleton_append -> vX, sum_cons -> xn, take_sublist -> vN
open Go.Value renaming agg -> xM, bool -> xL, int -> xH, pointer -> xJ, slice -> xI, string -> xK
open Go.IntKind renaming i64 -> xN, u32 -> xP, u64 -> xQ, wrap -> qc
open Bool renaming and_false -> yT, or_false -> y9
open Prod renaming fst -> qA, snd -> zh
open Option renaming some -> wb
open Go.Builtin renaming append_ -> q6
set_option maxRecDepth 100000
open Option renaming some -> dB, none -> eH
open Bool renaming true -> eX, false -> eY
open Go renaming Addr -> hU
open Go.Qw renaming cellOf -> hY, Heap -> m5
open List renaming length -> n4
open Go.Qw.cg renaming two -> G0, n -> G6, inn -> G7, loop -> G9, join -> Hf, tn -> HF, lp -> I0, jn -> I1
namespace Go.Qw
open Go.Proofs
variable {B:au} {h0 h:m5} {As:List HP} {a b:hU} {offs:Int} {da:List bJ} {w:Pow} {ds:aF} {d:bp} {m:aB} {q:bJ}
section
variable {pw:hU}
end
section
variable {pw:hU}
end
section
variable {C:Int->aR}
def adf(p:Pm)(seed:Int)(live:aC)(t:Nat)(G:aC)(W:cO):Prop:=∀g∈Zz live.length t,(∃s∈G,acy live s∉g)∨fy p seed (Sy W g live.length)=eX
structure aej (m:aB) (live G:aC) (ds:aF) (t:Int) (e:Qw.cT) (i:Nat):Prop where
 full:fy m.p (fl e.object i (e.tries.getD i 0)) (aau m ds e.object i)=eX
 spare:adf m.p (fl e.object i (e.tries.getD i 0)) live t.toNat G (fD m ds e.object i live)
end
structure One (m0:aB) (name:ByteArray) (b:aR) (R c:Nat) (m:aB) (C:Int->aR) (ds:aF) (t:aC):Prop where
 objs:m.objs=[⟨name,m0.next,n4 b,t⟩]
 tl:n4 t=n4 (splitB m0.p b)
 p:m.p=m0.p
 extra:m.extra=m0.extra
 drives:m.drives=m0.drives
 sto:No m C ds
 full:Full m C ds
 row:∀k d,bR ds k=dB d->d.wait=0/\d.room=R/\d.l.length<=27+c*(m0.p.1+m0.extra).toNat
 data:C m0.next=b
section
variable {pw:hU}
end
variable {p:Pm}
section
variable {pw:hU} {C:Int->aR}
end
def sink:aC->Nat->aC
 |l,0=>l
 |l,i+1=>if eU l (i+1)<eU l i then sink (iZ l (i+1) i) i else l
def sinks(l:aC):Nat->aC
 |0=>l
 |i+1=>sink (sinks l i) i
theorem Nw:∀(i:Nat) (l:aC),n4 (sink l i)=n4 l
 |0,l=>rfl
 |i+1,l=>by
   unfold sink;split;· rw[Nw i,po]
   .rfl
theorem rR(l:aC):∀i,n4 (sinks l i)=n4 l
 |0=>rfl
 |i+1=>by rw[sinks,Nw,rR l i]
theorem sZ{l:aC}{i:Nat}(h:i<n4 l):eU l i=l[i]:=by rw[eU,qg,qd h];rfl
theorem swap_perm(l:aC)(i:Nat)(h:i+1<n4 l):(iZ l (i+1) i).Perm l:=by
 have e:l=l.take i++l[i]::l[i+1]::l.drop (i+2):=oo
 have c:iZ l (i+1) i=l.take i++l[i+1]::l[i]::l.drop (i+2):=by
  rw[iZ,sZ (show i<n4 l by omega),sZ h];apply zp;intro j;have a:n4 (l.take i)=i:=o4
  rw[qW,qW];by_cases f:i=j
  .grind
  .rw[nq f];by_cases b:i+1=j
   .subst b;rw[m6 n5,m6 n7,qk n7,a];simp
   .rw[nq b]
    conv=>lhs;rw[e]
    by_cases h3:j<i
    .rw[qu n7,qu n7]
    .rw[qk n7,qk n7,a];obtain⟨d,g⟩:∃d,j-i=d+2:=⟨j-i-2,n7⟩
     rw[g];rfl
 rw[c]
 conv=>rhs;rw[e]
 exact List.Perm.append_left _ (List.Perm.swap _ _ _)
theorem JZ:∀(i:Nat) (l:aC),i<n4 l->(sink l i).Perm l
 |0,l,_=>.refl _
 |i+1,l,h=>by
  unfold sink;split
  .exact(JZ i _ (by rw[po];omega)).trans (swap_perm l i h)
  .exact .refl _
theorem HD(l:aC):∀i,i<=n4 l->(sinks l i).Perm l
 |0,_=>.refl _
 |i+1,h=>(JZ i _ (by rw[rR];omega)).trans (HD l i n7)
def acD(l:aC)(n:Nat):Prop:=∀a b,a<b->b<n->eU l a<=eU l b
theorem Yo{l:aC}{i j k:Nat}(d:i<n4 l)(c:j<n4 l):eU (iZ l i j) k=if k=j then eU l i else if k=i then eU l j else eU l k:=by
 simp only[eU,iZ,qg,qW,qO];by_cases a:j=k
 .subst a;simp[c]
 .by_cases b:i=k
  .subst b;simp[a,d];omega
  .simp[a,b];omega
theorem Qu(n:Nat):∀(i:Nat) (l:aC),i<n->n<=n4 l->(∀a b,a<b->b<n->a≠i->b≠i->eU l a<=eU l b)->(∀b,i<b->b<n->eU l i<=eU l b)->acD (sink l i) n
 |0,l,hi,hn,h1,h2=>λa b c e=>by
  unfold sink;by_cases d:a=0
  .subst d;exact h2 b c e
  .exact h1 a b c e d n7
 |i+1,l,hi,hn,h1,h2=>by
  unfold sink;split
  .rename_i p;have h:∀k,eU (iZ l (i+1) i) k=if k=i then eU l (i+1)else if k=i+1 then eU l i else eU l k:=λk=>Yo n7 n7
   refine Qu n i _ n7 (by rw[po];exact hn) (λa b c e d m=>?_) (λb e j=>?_)
   .rw[h,h,nq d,nq m];by_cases h3:a=i+1
    .rw[m6 h3,nq n7];exact h1 i b n7 e n7 n7
    .rw[nq h3];by_cases f:b=i+1
     .rw[m6 f];exact h1 a i n7 n7 h3 n7
     .rw[nq f];exact h1 a b c e h3 f
   .rw[h,h,m6 n5,nq n7];by_cases f:b=i+1
    .rw[m6 f];omega
    .rw[nq f];exact h2 b n7 j
  .rename_i o;intro a b c e;by_cases g:b=i+1
   .subst g;by_cases d:a=i
    .subst d;omega
    .have:=h1 a i n7 n7 n7 n7;omega
   .by_cases d:a=i+1
    .subst d;exact h2 b c e
    .exact h1 a b c e d g
theorem Nx(l:aC):∀i,i<=n4 l->acD (sinks l i) i
 |0,_=>λa b _ d=>n7
 |i+1,h=>by
  have f:=Nx l i n7;rw[sinks];exact Qu (i+1) i _ n7 (by rw[rR];omega) (λa b c d _ g=>f a b c n7) (λb d e=>n7)
theorem Pn{a b:aC}(g:a.Perm b)(d:a.Pairwise (·<=·))(e:b.Pairwise (·<=·)):a=b:=
 g.eq_of_pairwise (λx y _ _ c f=>Int.le_antisymm c f) d e
theorem Tc(l:aC):sinks l l.length=mg l:=by
 refine Pn ((HD l _ (qj _)).trans (wc l _).symm) ?_ ?_
 .have:=Nx l l.length (qj _);rw[zb];intro i j e f d;have g:=rR l l.length;have:=this i j d n7
  rwa [sZ e,sZ f]at this
 .have:=List.pairwise_mergeSort (le:=λx y:Int=>decide (x<=y)) (by intro a b c;simp;omega) (by intro a b;simp;omega) l;exact this.imp oo
theorem Ny(a:hU)(s:Int)(n k:Nat)(h:m5)(S:bV h a 306 [xH xQ s])(hn:n<=64)(hk:k<=n):
  ak xR 275 #[xJ (dB a),xH xN n,xH xN k] h λv h'=>∃r:Sl,v=r/\aa (λb=>b<h.size/\¬b=a.block) h h' [an a 306 [xH xQ (dX n s (upto n) k).1],ai 3 r 1 ar (AR s n k)]:=by
 refine ts Tryz.func275 ?_ (HF (I1 [] [(6,7),(13,28)] (HF (G0 (HF (G7 (G9 [(7,bK),(8,aI)] [(7,9),(28,37)] G6))) (G0 (HF (G7 (G9 [(9,aI)] [(9,11),(37,63)] G6))) (HF (G0 (HF (G7 (G9 [(68,aI)] [(11,13),(68,105)] (HF (HF (G0 (G7 (HF (HF (G7 (G9 [(12,aI)] [(12,13),(72,104)] (I1 [] [(72,86)] G6)))))) G6)))))) G6)))))));refine aE (ae (λe=>n7) λ_=>ae (λe=>n7) λ_=>ae (λe=>n7) λ_=>ae (λe=>n7) λ_=>?_);have H0:aa (λb=>b<h.size/\¬b=a.block) h h [an a 306 [xH xQ s]]:=.LC (λb=>b=a.block) (λb K=>by rw[K];exact S.lt) ⟨S,n5⟩;refine aj (λt:Sl×Nat=>(t.1,(t.2:Int))) (λt h'=>t.2<=n/\aa (λb=>b<h.size/\¬b=a.block) h h' [an a 306 [xH xQ s],ai 3 t.1 1 ar (upto t.2)]) (λt=>n-t.2) (⟨eH,0,0⟩,0) n5 ⟨oo,H0.nil 3 1 ar⟩ ?_;rintro⟨v,i⟩ h2 ⟨hi,O⟩;dsimp only at*;refine ae (λe=>?_) (λe=>?_)
 .refine O.push ag 1 n5 fu n5 n8 (λ_=>rfl) db (i:Int) n5 n8 B7 λW h3 l=>?_;refine⟨(W,i+1),oj,⟨n9,?_⟩,n9⟩;dsimp only;rw[JX];exact l
 .have I:i=n:=n7
  subst I;refine aj (λj:Nat=>(j:Int)) (λj h'=>j<=k/\aa (λb=>b<h.size/\¬b=a.block) h h' [an a 306 [xH xQ (dX i s (upto i) j).1],ai 3 v 1 ar (dX i s (upto i) j).2]) (λj=>k-j) 0 n5 ⟨n7,O⟩ ?_;rintro j h3 ⟨hj,l⟩;have H:=pq i s (upto i) j;rw[ft]at H;refine ae (λT=>?_) (λT=>?_)
  .rw[af _];have g:((i:Int)-(j:Int))=((i-j:Nat):Int):=n7
   rw[g];refine(BS a _ _ h3 (l.box 0 n5)).I3 λh4 ⟨J,D⟩=>?_;have o:=l.nT 0 n5 D J;have Z:=nK (dX i s (upto i) j).1 ((i-j:Nat):Int);refine⟨_,n5,?_⟩
   try dsimp only
   rw[af _,af _];have N:(j:Int)+je (dX i s (upto i) j).1 ((i-j:Nat):Int)=((j+(je (dX i s (upto i) j).1 ((i-j:Nat):Int)).toNat:Nat):Int):=n7
   have f:j+(je (dX i s (upto i) j).1 ((i-j:Nat):Int)).toNat<(dX i s (upto i) j).2.length:=n7
   rw[N];have q:=o.seq 1 n5 λ_=>rfl;refine q.aV _ n5 f _ n5 ?_;refine q.aV j n5 n7 _ n5 ?_;refine o.set ag 1 n5 (λ_=>rfl) n5 j n5 n7 _ n5 n5 n5 λh5 m=>⟨I6,?_⟩
   refine m.set ag 1 n5 (λ_=>rfl) n5 _ n5 B4 _ n5 n5 n5 λR u=>⟨I6,?_⟩
   refine⟨j+1,n5,⟨n7,?_⟩,n7⟩;rw[dX,iZ,eU,eU,Qw.getD_lt f,Qw.getD_lt (show j<(dX i s (upto i) j).2.length by omega)];exact u
  .have G:j=k:=n7
   subst G;have P:=(l.own 1 n5).cap;have ab:=(l.own 1 n5).len;refine⟨⟨n7,n7⟩,?_⟩;rw[qi];have o:=l.cut 1 n5 (λ_=>rfl) j n7;obtain⟨L,F⟩:=I5 ((dX i s (upto i) j).2.take j)
   have p:n4 L=j:=by rw[F,qw];omega
   rw[<-F]at o;refine aj (λx:Nat=>(x:Int)) (λx h'=>x<=j/\aa (λb=>b<h.size/\¬b=a.block) h h' [an a 306 [xH xQ (dX i s (upto i) j).1],ai 3 ⟨v.ptr,j,v.cap⟩ 1 ar (sinks L x)]) (λx=>j-x) 0 n5 ⟨n7,o⟩ ?_;rintro x h5 ⟨N,m⟩;refine ae (λU=>?_) (λU=>?_)
   .refine aj (λt:Nat×aC=>(t.1:Int)) (λt h'=>t.1<=x/\t.2.length=j/\sink t.2 t.1=sinks L (x+1)/\aa (λb=>b<h.size/\¬b=a.block) h h' [an a 306 [xH xQ (dX i s (upto i) j).1],ai 3 ⟨v.ptr,j,v.cap⟩ 1 ar t.2]) (λt=>t.1) (x,sinks L x) n5 ⟨oo,by rw[rR];exact p,n5,m⟩ ?_;rintro⟨y,M⟩ R ⟨hy,hM,A,u⟩;dsimp only at*;rw[af ((x:Int)+1)];have d:sink M y=M->∃B:Nat,(x:Int)+1=(B:Int)/\(B<=j/\aa (λb=>b<h.size/\¬b=a.block) h R [an a 306 [xH xQ (dX i s (upto i) j).1],ai 3 ⟨v.ptr,j,v.cap⟩ 1 ar (sinks L B)])/\j-B<j-x:=λE=>
     ⟨x+1,n5,⟨n7,by rw[<-A,E];exact u⟩,n7⟩
    refine aE ?_;refine ae (λV=>?_) λV=>d (by rw[show y=0 by omega];rfl);obtain⟨z,rfl⟩:∃z,y=z+1:=⟨y-1,n7⟩
    have hz:((z+1:Nat):Int)-1=(z:Int):=n7
    rw[af (((z+1:Nat):Int)-1),hz];have c:=u.seq 1 n5 λ_=>rfl;have Y:=sZ (show z<n4 M by omega);have g2:=sZ (show z+1<n4 M by omega);refine c.aV (z+1) n5 n7 _ n5 ?_;refine c.aV z n5 n7 _ n5 ?_;refine ae (λX=>?_) λX=>d (by rw[sink,nq n7]);refine c.aV z n5 n7 _ n5 ?_;refine c.aV (z+1) n5 n7 _ n5 ?_;refine u.set ag 1 n5 (λ_=>rfl) n5 (z+1) n5 n7 _ n5 n5 n5 λh7 H7=>⟨I6,?_⟩
    refine H7.set ag 1 n5 (λ_=>rfl) n5 z n5 oi _ n5 n5 n5 λh8 H8=>⟨I6,?_⟩
    refine⟨(z,iZ M (z+1) z),n5,⟨n9,by dsimp only;rw[po];exact hM,?_,?_⟩,n9⟩
    ·(try dsimp only);rw[<-A];conv=>rhs;rw[sink]
     rw[m6 n7]
    ·(try dsimp only);rw[iZ,Y,g2];exact H8
   .have:x=j:=n7
    subst this;refine⟨⟨v.ptr,x,v.cap⟩,n5,?_⟩;have Q:=Tc L;rw[p]at Q;rw[Q,F]at m;exact m
theorem BC(p:Pm)(seed id:Int)(h:m5):ak xR 199 #[go p,xH xP seed,xH xN id] h λv h'=>∃r:Sl,v=r/\Sp h h' [ai 3 r 1 ar (if bH p&&bP id then dZ (bD p).toNat seed id else[])]:=by
 refine ts Tryz.func199 ?_ (HF (I1 [] [(6,7),(9,17)] G6)) (args:=[p,(xH xP (seed:Int)),(id:Int)]);refine(Sp.refl h).boxed λa H G=>?_;refine aE ?_;refine⟨p,(G.box 0 n5).aw _ n5,(dS p H).mono ?_⟩;rintro v k ⟨rfl,Q⟩;have y:=G.comp Q;have E:(bH p&&bP id)=eY->Sp h k [ai 3 ⟨eH,0,0⟩ 1 ar (if bH p&&bP id then dZ (bD p).toNat seed id else[])]:=λS=>by
  rw[S];exact(y.nil 3 1 ar).take 1 (λi A c=>by cases i with|zero=>exact c|succ i=>simp at c)
 refine⟨_,n5,aH (λe=>⟨⟨eH,0,0⟩,n5,E A3⟩) λx=>?_⟩;refine(kh id k).mono ?_;rintro v h3 ⟨rfl,rfl⟩;refine⟨_,n5,aH (λe=>⟨⟨eH,0,0⟩,n5,E (by rw[e];simp)⟩) λhid=>?_⟩;rw[x,hid];have L:=(bI p).1 x;have X:bD p=p.1+p.2.1:=by rw[bD,m6 x]
 obtain⟨n,l⟩:∃n:Nat,bD p=n:=⟨(bD p).toNat,n7⟩
 rw[l,qi];refine y.boxed (t:=306) λd N D=>?_;refine(DA d _ N (D.box 1 n5)).mono ?_;rintro v U ⟨rfl,s,g⟩;have z:=D.nT 1 n5 g s;refine⟨_,n5,p,(z.box 0 n5).aw _ n5,(oU p U).mono ?_⟩;rintro v W ⟨rfl,O⟩;have F:=z.comp O;refine⟨_,n5,?_⟩
 try dsimp only
 rw[l];refine(Kv n W n7 n7).mono ?_;rintro v V ⟨t,rfl,f⟩;have I:=F.comp f;refine⟨t,n5,?_⟩;have u:∀b,t.on b->b≠d.block:=λb w Y=>by
  have H:=(f.fresh 0 n5).2 b w;have k:=(F.box 1 n5).lt;omega
 refine(Np t n d _ V ((f.own 0 n5).seq (λ_=>rfl) u) (I.box 1 n5) n7 n7).mono ?_;rintro v h8 ⟨rfl,o,j⟩;have J:=I.nT 1 n5 j o;refine⟨_,n5,p,(J.box 0 n5).aw _ n5,(oU p h8).mono ?_⟩;rintro v P ⟨rfl,M⟩;have B:=J.comp M;refine⟨_,n5,?_⟩
 try dsimp only
 rw[l];refine(Ny d _ n _ P (B.box 1 n5) n7 (pr _ n)).I4 λr K m=>?_;have R:=B.call 1 n5 (λb=>b=d.block) (λq T b w=>by rw[w];exact T.2) m;exact⟨r,n5,r,n5,(R.take 3 λi A c=>by cases i with|zero=>exact c|succ i=>simp at c)⟩
theorem EW(p:Pm)(seed id:Int)(h:m5):ak xR 192 #[go p,xH xP seed,xH xN id] h λv h'=>∃r:Sl,v=r/\
  Sp h h' [ai 5 r 1 aq (if bH p&&bP id then pv (bD p).toNat seed id else[])]:=by
 refine ts Tryz.func192 ?_ (HF (I1 [] [(6,7),(10,18)] (HF (I0 [(26,aI)] [(9,10),(26,34)])))) (args:=[p,(xH xP (seed:Int)),(id:Int)]);refine(Sp.refl h).boxed λa O G=>?_;refine aE ?_;refine⟨p,(G.box 0 n5).aw _ n5,(dS p O).mono ?_⟩;rintro v z ⟨rfl,L⟩;have m:=G.comp L;have F:(bH p&&bP id)=eY->Sp h z [ai 5 ⟨eH,0,0⟩ 1 aq (if bH p&&bP id then pv (bD p).toNat seed id else[])]:=λM=>by
  rw[M];exact(m.nil 5 1 aq).take 1 (λi A g=>by cases i with|zero=>exact g|succ i=>simp at g)
 refine⟨_,n5,aH (λe=>⟨⟨eH,0,0⟩,n5,F A3⟩) λl=>?_⟩;refine(kh id z).mono ?_;rintro v h3 ⟨rfl,rfl⟩;refine⟨_,n5,aH (λe=>⟨⟨eH,0,0⟩,n5,F (by rw[e];simp)⟩) λhid=>?_⟩;refine⟨p,(m.box 0 n5).aw _ n5,(oU p _).mono ?_⟩;rintro v D ⟨rfl,I⟩;have Q:=m.comp I;have J:=(bI p).1 l;have R:bD p=p.1+p.2.1:=by rw[bD,m6 l]
 obtain⟨n,B⟩:∃n:Nat,bD p=n:=⟨(bD p).toNat,n7⟩
 refine⟨_,n5,?_⟩
 try dsimp only
 rw[B];refine Q.make ag aq cK n8 0 n5 n5 n n n5 n5 (qj _) n7 λv D S N E=>?_;refine⟨p,(E.box 0 n5).aw _ n5,(BC p seed id D).I4 λc T t=>?_⟩;rw[l,hid,B,qi]at t;rw[l,hid,qi];have o:=E.comp t;have j:=o.seq 2 n5 λ_=>rfl;have q:=j.len;obtain⟨d,b⟩:=I5 (dZ n seed id)
 have s:∀x∈d,0<=x/\x<(n:Int):=λx u=>km n7 n7 (by rw[<-b];exact u);have H:n4 d<=n:=by rw[b];exact mw n7 n7 _ _
 simp only[Bool.and_self,if_true,<-b]at o j q t;refine⟨c,n5,?_⟩;refine aj (λi:Nat=>(i:Int)) (λi h'=>i<=n4 d/\Sp h h' [an a 24 [xH xN p.1,xH xN p.2.1,xH xN p.2.2],ai 5 v 1 aq (gT n (d.take i)),ai 3 c 1 ar d]) (λi=>n4 d-i) 0 n5 ⟨n7,o⟩ ?_;rintro i V ⟨g,k⟩;refine ae (λe=>?_) (λe=>?_)
 .have f:i<n4 d:=n7
  have u:=s _ (qe f);refine(k.seq 2 n5 λ_=>rfl).aV i n5 f _ n5 ?_;refine k.set ag 1 n5 (λ_=>rfl) n5 d[i].toNat n7 (by rw[pu];omega) 1 n5 n5 n5 λU P=>?_;refine⟨i+1,o0,⟨n7,?_⟩,n7⟩;have K:gT n (d.take (i+1))=(gT n (d.take i)).set d[i].toNat 1:=by rw[az _ _ f,gT,wz];rfl
  rw[K];exact P
 .rw[qf n7]at k;have y:=(k.del 2).take 1 (λi A g=>by cases i with|zero=>exact g|succ i=>simp at g);refine⟨v,n5,?_⟩;rw[b]at y;exact y
theorem BU(p:Pm)(h:m5)(B:bH p=eX):ak xR 191 #[go p] h λv h'=>∃r:Sl,v=r/\Sp h h' [dw 41 r 1 aq (bA p.1.toNat p.2.1.toNat)]:=by
 refine ts Tryz.func191 ?_ (HF (HF (G0 (Hf [(3,bK)] [(3,48)] (HF (G7 (G9 [(3,bK),(4,aI)] [(3,48)] (I1 [] [(7,15)] (G0 (G7 (HF (I0 [(6,aI)] [(6,7),(23,38)]))) G6)))))) G6))) (args:=[p]);refine(Sp.refl h).boxed λa h1 U=>?_;have I:=(bI p).1 B;obtain⟨K,R⟩:∃K:Nat,p.1=K:=⟨p.1.toNat,n7⟩
 obtain⟨b,T⟩:∃H:Nat,p.2.1=H:=⟨p.2.1.toNat,n7⟩
 refine aE ?_;refine aj (λt:Sl×Nat=>(t.1,(t.2:Int))) (λt h'=>t.2<=b/\Sp h h' [an a 24 [xH xN p.1,xH xN p.2.1,xH xN p.2.2],dw 41 t.1 1 aq ((bA K b).take t.2)]) (λt=>b-t.2) (⟨eH,0,0⟩,0) n5 ⟨oo,U.sq 41 1 aq⟩ ?_;rintro⟨s,k⟩ L ⟨X,d⟩;dsimp only at*;refine aE ⟨p.2.1,(d.box 0 n5).cell n5,?_⟩;refine ae (λe=>?_) (λe=>?_)
 .have E:k<b:=n7
  refine⟨p,(d.box 0 n5).aw _ n5,(dS p L).mono ?_⟩;rintro v h5 ⟨rfl,V⟩;have q:=d.up V.ac;refine⟨_,n5,Fi B ?_⟩;refine⟨p.1,(q.box 0 n5).cell0 n5,p.2.1,(q.box 0 n5).cell n5,?_⟩
  try dsimp only
  rw[af (p.1+p.2.1)];refine q.make ag aq cK n8 0 n5 n5 (K+b) (K+b) n7 n7 (qj _) n7 λu h6 O M S=>?_;let rowAt:Nat->aR:=λj=>(qy j).map (λi=>Gf.pw ((k+1)*(i+1)%255))++qh (K+b-j) (0:UInt8);refine aj (λj:Nat=>(j:Int)) (λj h'=>j<=K/\Sp h h' [an a 24 [xH xN p.1,xH xN p.2.1,xH xN p.2.2],dw 41 s 1 aq ((bA K b).take k),ai 5 u 1 aq (rowAt j)]) (λj=>K-j) 0 n5 ⟨n7,S⟩ ?_;rintro j W ⟨Z,m⟩;refine⟨p.1,(m.box 0 n5).cell0 n5,?_⟩;have y:n4 (rowAt j)=K+b:=by simp[rowAt];omega
  refine ae (λD=>?_) (λD=>?_)
  .have c:j<K:=n7
   have hm:(k+1)*(j+1)<=4*16:=zr n7 n7;have F:qc xN (qc xN ((k:Int)+1)*qc xN ((j:Int)+1))=(((k+1)*(j+1):Nat):Int):=by rw[af ((k:Int)+1),af ((j:Int)+1),show((k:Int)+1)*((j:Int)+1)=(((k+1)*(j+1):Nat):Int)by rw[zR];rfl];exact kl _
   rw[F];refine(Pd _ W).I2 ⟨_,n5,?_⟩;refine m.set ag 2 n5 (λ_=>rfl) n5 j n5 n7 _ n5 n5 n5 λY w=>?_;refine⟨j+1,o0,⟨n7,?_⟩,n7⟩;have o:(rowAt j).set j (Gf.pw ((((k+1)*(j+1):Nat):Int)%255).toNat)=rowAt (j+1):=by
    have N:((((k+1)*(j+1):Nat):Int)%255).toNat=(k+1)*(j+1)%255:=n7
    rw[N];simp only[rowAt];rw[qZ _ _ oo,qm,zL,zd,show K+b-j=K+b-(j+1)+1 by omega,List.replicate_succ,List.set_cons_zero,zC,qF,ql];rfl
   rw[<-o];exact w
  .have c:j=K:=n7
   subst c;refine⟨p.1,(m.box 0 n5).cell0 n5,?_⟩
   try dsimp only
   rw[af (p.1+k)];refine m.set ag 2 n5 (λ_=>rfl) n5 (j+k) n7 n7 1 n5 n5 n5 λh8 z=>?_;have o:(rowAt j).set (j+k) 1=lC j b k:=by
    simp only[rowAt,lC];rw[qZ _ _ oo];congr 1;apply zp;intro i;rw[qm,zL,qW,qM,List.length_replicate,List.getElem?_replicate];by_cases g:i<b
    .rw[List.getElem?_range g,Option.map_some];by_cases f:i=k
     .subst f;rw[m6 n7,m6 n7];simp
     .rw[nq n7,m6 n7,nq f]
    .rw[List.getElem?_eq_none (l:=qy b) oi,nq n7,nq n7];rfl
   rw[o]at z;have w:=z.freeze 2 n5 λ_=>rfl;have Q:n4 ((bA j b).take k)=k:=A8
   refine w.jD ag 1 2 n8 n5 n5 cI n7 λJ G x=>?_;refine⟨(J,k+1),oj,⟨n9,?_⟩,n9⟩;have P:(bA j b).take (k+1)=(bA j b).take k++[lC j b k]:=by rw[az _ _ A8];simp[bA]
   try dsimp only
   rw[P];exact x.del 2
 .refine⟨s,n5,?_⟩;rw[R,T,qi,qi];rw[qf A8]at d;exact d.take 1 (λi A g=>by cases i with|zero=>exact g|succ i=>simp at g)
theorem AD(p:Pm)(seed:Int)(d:Sl)(l:aC)(h:m5)(x:Rd h d 1 ar l)(H:n4 l<=2^30):ak xR 204 #[go p,xH xP seed,d] h λv h'=>∃r:Sl,v=r/\Sp h h' [dw 41 r 1 aq (ez p seed l)]:=by
 refine ts Tryz.func204 ?_ (HF (HF (HF (I0 [(7,bK),(17,aI)] [(7,8),(9,10),(17,31)])))) (args:=[p,(xH xP (seed:Int)),d]);refine(Sp.refl h).boxed λa L B=>?_;refine⟨p,(B.box 0 n5).aw _ n5,(dS p L).mono ?_⟩;rintro v E ⟨rfl,J⟩;have o:=B.up J.ac;refine⟨_,n5,aH (λe=>⟨⟨eH,0,0⟩,n5,?_⟩) λm=>?_⟩
 .rw[ez,e];exact(o.sq 41 1 aq).take 1 (λi A f=>by cases i with|zero=>exact f|succ i=>simp at f)
 refine⟨p,(o.box 0 n5).aw _ n5,(BU p E m).mono ?_⟩;rintro v h3 ⟨r,rfl,D⟩;have b:=o.comp D;refine⟨r,n5,?_⟩;have y:=x.len;let at_:Nat->dP:=λk=>ez p seed (l.take k);have h0:bA p.1.toNat p.2.1.toNat=at_ 0:=by simp[at_,ez,m]
 rw[h0]at b;refine aj (λt:Sl×Nat=>(t.1,(t.2:Int))) (λt h'=>t.2<=n4 l/\Sp h h' [an a 24 [xH xN p.1,xH xN p.2.1,xH xN p.2.2],dw 41 t.1 1 aq (at_ t.2)]) (λt=>n4 l-t.2) (r,0) n5 ⟨oo,b⟩ ?_;rintro⟨s,k⟩ h3 ⟨M,b⟩;dsimp only at*;refine ae (λe=>?_) (λe=>?_)
 .have c:k<n4 l:=n7
  refine(Seq.up x b.ac).aV k n5 c _ n5 ((kh l[k] h3).mono ?_);rintro v N ⟨rfl,rfl⟩;refine⟨_,n5,?_⟩;have q:=Fy p seed (l.take k);rw[qw]at q;have u:n4 (at_ k)+1<=2^32:=by show(ez p seed (l.take k)).length+1<=2^32;omega
  refine aT (λj=>?_) (λj=>?_)
  .refine⟨p,(b.box 0 n5).aw _ n5,(EW p seed l[k] _).I4 λw K z=>?_⟩;rw[m,show bP l[k]=eX from j]at z;have I:=(b.comp z).freeze 2 n5 λ_=>rfl;refine⟨w,n5,?_⟩;refine I.jD ag 1 2 n8 n5 n5 cI u λG K F=>?_;refine⟨(G,k+1),oj,⟨n9,?_⟩,n9⟩;have g:at_ (k+1)=at_ k++[pv (bD p).toNat seed l[k]]:=by simp only[at_];rw[az _ _ c,Jj,m,show bP l[k]=eX from j];rfl
   try dsimp only
   rw[g];exact F.del 2
  .refine⟨(s,k+1),oj,⟨n9,?_⟩,n9⟩;have g:at_ (k+1)=at_ k:=by simp only[at_];rw[az _ _ c,Jj,show bP l[k]=eY from j,yT];rfl
   try dsimp only
   rw[g];exact b
 .refine⟨s,n5,?_⟩;have g:at_ k=ez p seed l:=by simp only[at_];rw[qf n7]
  rw[g]at b;exact b.take 1 (λi A f=>by cases i with|zero=>exact f|succ i=>simp at f)
theorem lx(a:Sl)(m:aO)(n:Nat)(h:m5)(c:dT h a 1 aq m)(g:aU n m)(p:n<=64:=by omega)(t:n4 m<=2^30:=by omega):ak xR 265 #[a] h λv h'=>v=xL eX/\h'=h:=by
 refine ts Tryz.func265 ?_ (HF (I0 [(6,aI)] [(2,4),(6,28)]));have s:=c.len;refine aj (λk:Nat=>(k:Int)) (λk h'=>h'=h/\k<=n4 m) (λk=>n4 m-k) 0 n5 ⟨n5,n7⟩ ?_;rintro k h' ⟨rfl,q⟩;refine ae (λe=>?_) λe=>⟨n5,n5⟩;have b:k<n4 m:=n7
 refine c.get k n5 b λr j=>?_;refine c.get 0 n5 n7 λu d=>?_;have l:=j.len;have i:=d.len;rw[g _ (qe _)]at l i;refine bt (λe=>n7) λ_=>?_;refine c.get k n5 b λo f=>?_;have h3:=f.len;rw[g _ (qe _)]at h3;refine ae (λe=>n7) λ_=>?_;exact⟨k+1,o0,⟨n5,n7⟩,n7⟩
theorem find_range_succ(P:Nat->Bool)(i:Nat):(qy (i+1)).find? P=((qy i).find? P).or (if P i then dB i else eH):=by rw[zC,vV];congr 1;by_cases h:P i<;>simp[h]
def Nz:Option Nat->Int
 |some i=>i
 |none=>-1
theorem BD(m:aO)(i j:Nat):fH m i j=fH m j i:=by
 by_cases h:i=j
 .rw[h]
 .rw[fH,fH,List.set_comm _ _ λa=>h a.symm]
theorem BE{a t:Row}(h:n4 a=n4 t:=by omega):cH 0 a t=t:=by apply zX (by rw[cl h]);intro i b c;simp[cH,Gf.zero_mul]
theorem IR(a:Sl)(m:aO)(n:Nat)(h:m5)(ha:dT h a 1 aq m)(hm:aU n m)(hn:n<=64)(hs:n4 m<=2^30):
  ak xR 331 #[a] h λv h'=>∃r:Sl,v=r/\r.len=cv m/\Sp h h' []:=by
 refine ts Tryz.func331 ?_ (HF (HF (HF (G0 (HF (G7 (G9 [(3,bK),(15,aI)] [(3,5),(15,27)] G6))) (HF (G0 (Hf [(5,aI)] [(5,10),(27,132)] (HF (G7 (G9 [(5,aI),(6,aI)] [(5,10),(27,132)] (I1 [] [(27,38)] (G0 (G7 (HF (G0 (HF (G7 (G9 [(7,aI),(8,aI)] [(7,9),(41,60)] G6))) (HF (I1 [] [(62,76)] (I1 [] [(76,92)] (G0 (HF (G7 (G9 [(94,aI)] [(9,10),(94,130)] (HF (HF (G0 (G7 (HF (I1 [(109,oe)] [(97,110)] G6))) G6)))))) G6))))))) G6)))))) G6)))))) [(21,(.l [0,1,2,3,4,5,6,7,8,10,11,12,13,9,14,15,16]))];refine(lx a m n h ha hm hn hs).mono ?_;rintro v z ⟨rfl,rfl⟩;refine⟨_,n5,aH (λe=>o1) λ_=>?_⟩;have hl:=ha.len;refine aj (λt:Sl×List Sl=>(t.1,(n4 t.2:Int))) (λt h'=>n4 t.2<=n4 m/\Sp z h' (ai 41 t.1 1 bv t.2::bo 5 1 aq t.2 (m.take t.2.length))) (λt=>n4 m-n4 t.2) (⟨eH,0,0⟩,[]) n5 ⟨oo,by simpa[bo]using(Sp.refl z).nil 41 1 bv⟩ ?_;rintro⟨s,rs⟩ h2 ⟨hk,H2⟩;dsimp only at*;refine ae (λe=>?_) (λe=>?_)
 .have B:n4 rs<n4 m:=n7
  refine(ha.up H2.ac).get rs.length n5 B λr hr=>?_;have b6:m[n4 rs].length=n:=hm _ (qe _);have bq:n4 (bo 5 1 aq rs (m.take rs.length))=n4 rs:=by rw[gw t6,qw];omega
  have Hn:=H2.nil 5 1 aq;have am:((ai 41 s 1 bv rs::bo 5 1 aq rs (m.take rs.length))++[ai 5 ⟨eH,0,0⟩ 1 aq ([]:aR)])[n4 rs+1]?=dB (ai 5 ⟨eH,0,0⟩ 1 aq []):=by rw[qk oi,q7,bq,zd];rfl
  refine Hn.append ag (n4 rs+1) am cK ⟨_,_,n5,n5⟩ n5 n8 (λ_=>rfl) hr cB oi λw h3 I=>?_;have cp:Sp z h3 ((ai 41 s 1 bv rs::bo 5 1 aq rs (m.take rs.length))++[ai 5 w 1 aq m[n4 rs]]):=by rw[qZ _ _ oi,q7,bq,zd]at I;exact I
  refine cp.push ag 0 n5 cI n5 n8 (λ_=>rfl) jK w n5 n8 n7 λs' h4 H4=>?_;refine⟨(s',rs++[w]),by dsimp only;rw[af _];simp,⟨oi,?_⟩,oi⟩
  try dsimp only
  rw[show(rs++[w]).length=n4 rs+1 by simp,az _ _ B,oz t6];exact H4
 .have R:m.take rs.length=m:=qf n7;rw[R]at H2;have bb:n4 rs=n4 m:=n7
  have a2:s.len=n4 m:=by rw[(H2.own 0 n5).len,bb]
  have c6:=(H2.own 0 n5).cap;have bk:m≠[]->ee m=n:=λap=>by
   have:0<n4 m:=List.length_pos_iff.2 ap;rw[ee,bf this];exact hm _ (qe _)
  refine bs (λ(d:Int) h'=>d=(cv m:Int)/\Sp z h' []) ?_ ?_
  .refine aj (λt:List Sl×Nat=>(((ba m t.2).1:Int),(t.2:Int))) (λt h'=>t.2<=ee m/\t.1.length=n4 m/\Sp z h' (kO s t.1 (ba m t.2).2)) (λt=>ee m-t.2) (rs,0) n5 ⟨oo,bb,H2⟩ ?_;rintro⟨g,aW⟩ h3 ⟨Q,ca,I⟩;dsimp only at*;have O:=fM hm aW;have q:=oB m aW;have fin:¬(0<n4 m/\aW<ee m)->((ba m aW).1:Int)=(cv m:Int)/\Sp z h3 []:=λhh=>by
    refine⟨?_,.zip I.ac⟩;by_cases h0:0<n4 m
    .have:aW=ee m:=n7
     rw[this];rfl
    .have:m=[]:=qQ n7;subst this;rw[cv,kt,kt]
   obtain⟨st,a7⟩:=I5 (ba m aW)
   rw[<-a7]at O q I fin⊢;obtain⟨b,f⟩:=st;dsimp only at O q I fin⊢;have y:n4 g=n4 f:=n7
   have o:ba m (aW+1)=fI (b,f) aW:=by rw[ba,<-a7]
   refine aE ?_;refine ae (λe0=>?_) λe0=>fin n7;have ap:m≠[]:=λhh=>by rw[hh]at a2;simp at a2;omega
   have hw:=bk ap;refine(I.Je y λ_=>rfl).get 0 n5 n7 λr0 cs=>?_;have a3:=cs.len;rw[O.1 _ (qe _)]at a3;refine ae (λe1=>?_) λe1=>fin n7;have c7:aW<n:=n7
   have a6:dT h3 s 1 aq f:=I.Je y λ_=>rfl;let P:Nat->Bool:=λi=>decide (b<=i)&&(aM (aA f i) aW !=0);have cq:(qy b).find? P=eH:=Gw λj hj=>by show(decide (b<=j)&&_)=eY;rw[n2 n7];rfl
   refine aj (λi:Nat=>(Nz ((qy i).find? P),(i:Int))) (λi h'=>h'=h3/\b<=i/\i<=n4 f) (λi=>n4 f-i) b (by rw[cq];rfl) ⟨n5,qj _,q⟩ ?_;rintro i h4 ⟨rfl,cn,c9⟩
   try dsimp only
   refine ae (λR=>?_) (λR=>?_)
   .have b1:i<n4 f:=n7
    have b6:f[i].length=n:=O.1 _ (qe _);refine a6.get i n5 b1 λr hr=>?_;refine hr.aV aW n5 n7 _ n5 ?_;have J:aM (aA f i) aW=f[i][aW]'n7:=by rw[bf b1,lS]
    rw[af ((i:Int)+1)];have H:=find_range_succ P i;have nx:∀x:Int,x=Nz ((qy (i+1)).find? P)->∃F:Nat,(x,(i:Int)+1)=(Nz ((qy F).find? P),(F:Int))/\(h4=h4/\b<=F/\F<=n4 f)/\f.length-F<n4 f-i:=λx hx=>
     ⟨i+1,by rw[hx];rfl,⟨n5,n7,n7⟩,n7⟩
    refine bt (λe3=>?_) (λe3=>?_)
    .have al:P i=eX:=by show(decide (b<=i)&&(aM (aA f i) aW !=0))=eX;rw[n1 cn,J];simp;exactλh0=>e3 (by rw[h0];rfl)
     rw[al,m6 rfl]at H;refine ae (λe4=>nx _ ?_) (λe4=>nx _ ?_)
     .cases hf:(qy i).find? P with
      |none=>rw[H,hf];rfl
      |some x=>rw[hf]at e4;simp only[Nz]at e4;omega
     .cases hf:(qy i).find? P with
      |none=>rw[hf]at e4;simp[Nz]at e4
      |some x=>rw[H,hf];rfl
    .have al:P i=eY:=by show(decide (b<=i)&&(aM (aA f i) aW !=0))=eY;rw[J,nc.1 e3];simp
     rw[al]at H;refine nx _ ?_;rw[H]
     cases(qy i).find? P<;>rfl
   .have b7:i=n4 f:=n7
    subst b7;have bd:(qy f.length).find? P=fp f b aW:=rfl;rw[bd];cases hb:fp f b aW with
    |none=>
     refine ae (λ_=>?_) λR=>absurd n8 R;refine⟨(g,aW+1),?_,⟨n9,ca,?_⟩,n9⟩
     ·(try dsimp only);rw[o,fI,hb,af _];rfl
     ·(try dsimp only);rw[o,fI,hb];exact I
    |some at_=>
     have hh:=kI hb;refine ae (λR=>absurd (show((at_:Nat):Int)<0 from R) n7) λ_=>?_;have ay:b<n4 f:=n7
     have hi:=hh.2.1;have a0:=I.seq 0 n5 λ_=>rfl;refine aE ?_;refine a0.dN b n5 n7 λ_ _ _=>?_;refine a0.dN at_ n5 n7 λ_ _ _=>?_;refine I.set ag 0 n5 (λ_=>rfl) n5 at_ n5 n7 (g[b]'n7) n5 n5 n5 λh5 H5=>⟨I6,?_⟩
     refine H5.set ag 0 n5 (λ_=>rfl) n5 b n5 oi (g[at_]'n7) n5 n5 n5 λh6 H6=>⟨I6,?_⟩
     have K:Sp z h6 (kO s ((g.set at_ (g[b]'n7)).set b (g[at_]'n7)) (fH f b at_)):=by have:=H6.Rj (at_+1) (b+1) (A:=ai 5 (g[at_]'n7) 1 aq f[at_]) (A2:=ai 5 (g[b]'n7) 1 aq f[b]) (eC y at_ hi) (eC y b ay);show aa _ z h6 (ai 41 s 1 bv _::bo 5 1 aq _ _);rw[BD,<-Dj y at_ b hi ay];exact this
     obtain⟨u,ab⟩:=I5 ((g.set at_ (g[b]'n7)).set b (g[at_]'n7))
     rw[<-ab]at K;have dk:n4 u=n4 f:=by rw[ab];simp;omega
     obtain⟨m2,V⟩:=I5 (fH f b at_)
     have ad:aU n m2:=by rw[V];exact nW O.1 ay hi
     have c4:n4 m2=n4 f:=by rw[V];exact iR _ _ _
     rw[<-V]at K;have N:n4 u=n4 m2:=n7
     have p:b<n4 m2:=n7
     refine aE ?_;have gt:=lq (a:=s) N b p;have lt:m2[b].length=n:=ad _ (qe _);have b2:=K.seq 0 n5 λ_=>rfl;refine b2.dN b n5 n7 λda ah _=>?_;have Z:=K.seq (b+1) gt λ_=>rfl;refine Z.aV aW n5 n7 _ n5 ?_;refine b2.dN b n5 n7 λdr a4 _=>?_;refine(Aa _ h6).mono ?_;rintro v h7 ⟨rfl,rfl⟩;refine⟨_,n5,⟨a4,ah,I6⟩,?_⟩;refine(lW _ _ _ h7 Z n7).mono ?_;rintro v h8 ⟨r,rfl,R8⟩;refine⟨r,n5,⟨dY ah R8.ac,I6⟩,?_⟩;have H8:=K.comp R8
     try dsimp only
     refine H8.set ag 0 n5 (λ_=>rfl) n5 b n5 n7 r n5 n5 n5 λh9 H9=>⟨I6,?_⟩
     have ax:m2[b]=aA m2 b:=(bf p).symm;have b9:(m2[b])[aW]'n7=aM (aA m2 b) aW:=by rw[lS (by rw[bf p];omega)];simp only[bf p]
     have a8:Sp z h9 (kO s (u.set b r) (fS b aW m2)):=by have h8:Sp z h9 ((ai 41 s 1 bv (u.set b r)::bo 5 1 aq u m2)++[ai 5 r 1 aq (scaleB (Gf.inv ((m2[b])[aW]'n7)) m2[b])]):=H9;have h9:=h8.LG (b+1) (by simp[gw N];omega);rw[b9,ax]at h9;show aa _ z _ (ai 41 s 1 bv _::bo 5 1 aq _ (m2.set b _));rw[<-jw N];exact h9
     obtain⟨X,Y⟩:=I5 (u.set b r)
     obtain⟨c,U⟩:=I5 (fS b aW m2)
     rw[<-Y,<-U]at a8;have dd:n4 X=n4 f:=by rw[Y];simp;omega
     have a9:n4 c=n4 f:=by rw[U,kJ];omega
     have G:aU n c:=by rw[U];exact my ad p
     have M:b<n4 c:=n7
     have L:fI (b,f) aW=(b+1,bO b aW c f.length):=by rw[fI];(try dsimp only);rw[hb,U,V]
     refine aj (λt:Nat×List Sl=>(t.1:Int)) (λt h'=>t.1<=n4 c/\t.2.length=n4 c/\Sp z h' (kO s t.2 (bO b aW c t.1))) (λt=>n4 c-t.1) (0,X) n5 ⟨oo,n9,by rw[nX];exact a8⟩ ?_;rintro⟨k,E⟩ b0 ⟨c8,b3,D⟩;dsimp only at*;have c1:=kK b aW c k;have T:n4 E=n4 (bO b aW c k):=by rw[c1];exact b3
     refine ae (λe=>?_) (λe=>?_)
     .have B:k<n4 c:=n7
      have br:aA (bO b aW c k) k=aA c k:=by rw[jd B,nq n7]
      have e4:(bO b aW c k)[k]'n7=aA c k:=by rw[<-br,bf]
      have gk:=lq (a:=s) T k n7;rw[e4]at gk;have lk:=bX G B;rw[af ((k:Int)+1)];have skip:bO b aW c (k+1)=bO b aW c k->∃F:Nat×List Sl,(k:Int)+1=(F.1:Int)/\(F.1<=n4 c/\F.2.length=n4 c/\Sp z b0 (kO s F.2 (bO b aW c F.1)))/\c.length-F.1<n4 c-k:=λcd=>
       ⟨(k+1,E),n5,⟨n9,b3,by dsimp only;rw[cd];exact D⟩,n9⟩
      refine aE ?_;have W:=D.seq 0 n5 λ_=>rfl;have ao:=D.seq (k+1) gk λ_=>rfl;have Q:(aA c k)[aW]'n7=aM (aA c k) aW:=(lS).symm;refine bt (λR=>?_) (λR=>rV n5 (skip ?_))
      .have S:k≠b:=λhh=>R (by rw[hh]);refine W.dN k n5 n7 λ_ _ _=>?_;refine ao.aV aW n5 n7 _ n5 ?_;refine bt (λe3=>?_) (λe3=>skip ?_)
       .have ax:aA (bO b aW c k) b=aA c b:=by rw[jd M,nq n7]
        have e5:(bO b aW c k)[b]'n7=aA c b:=by rw[<-ax,bf]
        have gt:=lq (a:=s) T b n7;rw[e5]at gt;have lt:=bX G M;refine W.dN k n5 n7 λa1 c0 _=>?_;refine ao.aV aW n5 n7 _ n5 ?_;refine W.dN b n5 n7 λ_ _ _=>?_;refine W.dN k n5 n7 λ_ _ _=>?_;refine(jT _ _ _ (aA c b) (aA c k) b0 (D.seq (b+1) gt λ_=>rfl) ao n7 n7).I4 λw ds a5=>⟨w,n5,⟨dY c0 a5.ac,I6⟩,?_⟩;have b5:=D.comp a5
        skip
        refine b5.set ag 0 n5 (λ_=>rfl) n5 k n5 n7 w n5 n5 n5 λcr cf=>⟨I6,?_⟩
        refine⟨(k+1,E.set k w),n5,⟨n9,oi,?_⟩,n9⟩
        try dsimp only
        rw[kr B S];have cc:Sp z cr ((ai 41 s 1 bv (E.set k w)::bo 5 1 aq E (bO b aW c k))++[ai 5 w 1 aq (cH ((aA c k)[aW]'n7) (aA c b) (aA c k))]):=cf;have bl:=cc.LG (k+1) (by simp[gw T];omega);rw[Q]at bl;show aa _ z _ (ai 41 s 1 bv _::bo 5 1 aq _ ((bO b aW c k).set k _));rw[<-jw T];exact bl
       .have hz:aM (aA c k) aW=0:=by rw[<-Q];exact nc.1 e3
        rw[kr B S,hz,BE (by rw[bX G M,lk])];apply zp;intro j;rw[qW];split
        .rename_i c2;subst c2;rw[m6 n7,qd n7,e4]
        .rfl
      .have S:k=b:=n7
       subst S;exact uE
     .have b4:k=n4 c:=n7
      subst b4;refine⟨(E,aW+1),?_,⟨n9,n9,?_⟩,n9⟩
      ·(try dsimp only);rw[o,L,af _,af _];rfl
      ·(try dsimp only);rw[o,L,<-a9];exact D
  .rintro d h3 ⟨rfl,R3⟩;have q:=oB m (ee m);rw[(fM hm _).2]at q;have br:cv m=(ba m (ee m)).1:=rfl;exact⟨⟨n7,n7⟩,⟨s.ptr,cv m,s.cap⟩,oo,n5,R3⟩
theorem ur(a:Sl)(m:aO)(n:Nat)(h:m5)(c:dT h a 1 aq m)(d:aU n m)(g:n<=64:=by omega)(e:n4 m<=2^30:=by omega):
  ak xR 266 #[a] h λv h'=>v=xH xN (cv m)/\Sp h h' []:=by
 refine ts Tryz.func266 ?_;refine(IR a m n h c d g e).I4 λr i ⟨f,b⟩=>⟨r,n5,by rw[f],b⟩
theorem IS(p:Pm)(seed:Int)(b:Sl)(l:aC)(h:m5)(j:Rd h b 1 ar l)(k:n4 l<=2^29):ak xR 262 #[go p,xH xP seed,b] h λv h'=>v=xH xN (AY p seed l)/\Sp h h' []:=by
 refine ts Tryz.func262 ?_ (args:=[p,(xH xP (seed:Int)),b]);refine(Sp.refl h).boxed λa n d=>?_;refine⟨p,(d.box 0 n5).aw _ n5,(AD p seed b l n (Seq.up j d.ac) n7).mono ?_⟩;rintro v i ⟨r,rfl,m⟩;have e:=d.comp m;have f:=Fy p seed l;have c:(bD p).toNat<=64:=by
  unfold bD;split
  .rename_i o;have:=(bI p).1 o;omega
  .omega
 refine⟨r,n5,(ur r _ _ i (e.ov 1 n5) (nZ p seed l) c).I3 λh3 g=>?_⟩;exact⟨_,n5,n5,.zip (e.comp g).ac⟩
theorem NA(p:Pm)(seed:Int)(b:Sl)(l:aC)(h:m5)(o:Rd h b 1 ar l)(f:n4 l<=2^29):ak xR 190 #[go p,xH xP seed,b] h λv h'=>v=xL (fy p seed l)/\Sp h h' []:=by refine ts Tryz.func190 ?_ G6 [(1,(.l [0,1,2,3,4,5,7,6,8,9,10,11]))] (args:=[p,(xH xP (seed:Int)),b]);refine(Sp.refl h).boxed λa s g=>?_;refine⟨p,(g.box 0 n5).aw _ n5,(dS p s).mono ?_⟩;rintro v m ⟨rfl,r⟩;have d:=g.comp r;refine⟨_,n5,I6,aT (λe=>?_) λe=>⟨I6,I6,E8,.zip d.ac⟩⟩;have j:=d.box 0 n5;refine⟨p,j.aw _ n5,p,j.aw _ n5,(IS p seed b l m (Seq.up o d.ac) f).mono ?_⟩;rintro v h3 ⟨rfl,k⟩;have i:=d.comp k;have c:=i.box 0 n5;refine⟨_,n5,⟨c.cell0 n5,c.cell n5,c.cell n5,I6⟩,(oU p h3).I3 λt q=>?_⟩;exact⟨_,n5,I6,E8,.zip (i.comp q).ac⟩
section
variable {C:Int->aR}
structure adD (W:cO) (n:Nat):Prop where
 nd:W.flatten.Nodup
 mem:∀y,y∈W.flatten↔∃j:Nat,j<n/\y=j
structure adW (m:aB) (live:aC) (t:Int) (e:Qw.cT) (n0:Nat) (ds':aF) (err:Int) (k:Nat):Prop where
 upto:adD (fD m ds' e.object ((0:Nat):Int) live) (n0+k)
 few:k<=64
 most:err=12->k=64
 last:err=0->0<k->∃Wp:cO,Wp.length=live.length/\ada m.p (fl e.object 0 (e.tries.getD 0 0)) Wp t.toNat≠eH/\∀i y,y∈(fD m ds' e.object ((0:Nat):Int) live).getD i []->y+1≠((n0+k:Nat):Int)->y∈Wp.getD i []
def adE(m:aB)(a:aF)(k:Int):Nat:=match bR a k with|some d=>n4 (gK m d.l)|none=>0
def acE(m:aB)(a:aF)(live:aC):Nat:=(live.map (adE m a)).sum
end
section
variable {C:Int->aR}
structure Kept (m:aB) (C:Int->aR) (ds:aF) (r:Nat×Int×Pow×aF) (M:Nat):Prop where
 pow:r.2.2.1=Pow.new
 err:r.2.1≠14
 arg:r.2.1=1->r.1=0
 few:r.1<=n4 (aax m.objs)*M
 keep:adA m ds r.2.2.2
 sto:No m C r.2.2.2
 tot:acE m r.2.2.2 (aY ds m.drives)=acE m ds (aY ds m.drives)+r.1
end
section
variable {pw:hU}
theorem rk(o b t:Int)(h:m5):ak xR 117 #[xH xN o,xH xN b,xH xN t] h λv h'=>v=xH xP (fl o b t)/\h'=h:=by refine tZ o b t ⟨?_,n5⟩;congr 1;simp only[wrap_u32];unfold fl;omega
end
def HE(r s:ck):Bool:=decide (r.object<s.object∨(r.object=s.object/\(r.block<s.block∨(r.block=s.block/\r.id<s.id))))
theorem DE{r s:ck}:HE r s=eX↔nV r s:=by unfold HE;rw[decide_eq_true_eq,lt_iff]
theorem NB{r s:ck}:HE r s=eY↔¬nV r s:=by rw[<-DE,Bool.not_eq_true]
def Te(x:bw)(r:ck):Prop:=x.1=r.object/\x.2.1=r.block/\x.2.2.1=r.id
section
theorem HG(x y:bw)(r s:ck)(h:m5)(d:Te x r)(g:Te y s):ak xR 154 #[recv x,recv y] h λv h'=>v=xL (HE r s)/\Sp h h' []:=by
 refine ts Tryz.func154 ?_ (args:=[x,y]);obtain⟨m,x2,x3⟩:=d;obtain⟨o,k,p⟩:=g;refine(Sp.refl h).boxed λl n j=>j.boxed λq f c=>?_;have a:=c.box 0 n5;have b:=c.box 1 n5;have z:Sp h f []:=.zip c.ac;unfold HE;refine⟨x.1,a.cell0 n5,y.1,b.cell0 n5,bt (λe=>⟨x.1,a.cell0 n5,y.1,b.cell0 n5,?_,z⟩) λe=>⟨x.2.1,a.cell n5,y.2.1,b.cell n5,bt (λi=>⟨x.2.1,a.cell n5,y.2.1,b.cell n5,?_,z⟩) λi=>⟨x.2.2.1,a.cell n5,y.2.2.1,b.cell n5,?_,z⟩⟩⟩
 .congr 1;rw[decide_eq_decide];omega
 .congr 1;rw[decide_eq_decide];omega
 .congr 1;rw[decide_eq_decide];omega
theorem DF(x:bi)(m:aB)(y:bw)(r:ck)(h:m5)(A:ct h x m)(hz:bM m)(hy:eN cx h y r):
  ak xR 153 #[cL x,recv y] h λv h'=>v=xL (dF m r)/\Sp h h' []:=by
 refine ts Tryz.func153 ?_ (HF (I1 [] [(4,5),(7,17)] (I0 [(20,aI)] [(4,5),(6,7),(20,54)]))) (args:=[x,y]);refine(Sp.refl h).boxed λa1 h1 H1=>H1.boxed λK h2 B=>?_;obtain⟨⟨e1,e2,e3,S,e5,e7,e8⟩,e6⟩:=id hy;have Q:=congrArg (·.1) A.p;have I:=congrArg (·.2.1) A.p;have L:=congrArg (·.2.2) A.p;have R:=congrArg (·.1) S;have G:=congrArg (·.2.1) S;have V:=congrArg (·.2.2) S;have ab:=hz.ob;refine aE ⟨y,(B.box 1 n5).aw _ n5,(DC y r h2 (cx.mono (cx.loc hy B.ac) λ_ hb=>qS hb B.ac.1)).I3 λh3 R3=>?_⟩;have f:=B.up R3.ac;have Y:=f.box 0 n5;have M:=f.box 1 n5;refine⟨_,n5,aH (λg=>⟨by unfold dF;rw[g];rfl,.zip f.ac⟩) λg=>?_⟩;obtain⟨_,g2,_⟩:=(jM r).1 g;refine⟨r.p,by rw[<-R,<-G,<-V];exact M.mj 3 n5 n5 n5,m.p,by rw[<-Q,<-I,<-L];exact Y.mj 2 n5 n5 n5,_,Mu _ _ r.p m.p,aH (λT=>⟨?_,.zip f.ac⟩) λT=>?_⟩
 .unfold dF;rw[g,T];rfl
 obtain⟨P,hP⟩:∃P:Qw.cT->Bool,P=λx=>decide (x.object=r.object)&&(decide (r.block<(x.tries.length:Int))&&decide (r.seed=fl r.object r.block (x.tries.getD r.block.toNat 0))):=⟨_,rfl⟩
 have z:dF m r=m.objs.any P:=by unfold dF;rw[g,T,hP];rfl
 refine⟨x.2.2.2.2.2.2.2,Y.cell n5,?_⟩;obtain⟨X,q1,q2,q3⟩:=bZ.kQ (A.up f.ac).objs;have Z:=q1.len;refine aj (λi:Nat=>(i:Int)) (λi h'=>i<=m.objs.length/\(m.objs.take i).any P=eY/\Sp h3 h' []) (λi=>m.objs.length-i) 0 n5 ⟨qX _,n5,Sp.refl h3⟩ ?_;rintro i h4 ⟨hi,j,H⟩
 try dsimp only
 refine ae (λe=>?_) λe=>?_
 rotate_left
 .have U:i=m.objs.length:=n7
  rw[U,qt]at j;exact⟨by rw[z,j],.zip (f.up H.ac).ac⟩
 have b:i<m.objs.length:=n7
 have o:i<X.length:=n7
 obtain⟨E,O⟩:=I5 (m.objs[i])
 have k:=q3 i o b;rw[<-O]at k;obtain⟨u,hu⟩:=I5 (X[i])
 rw[<-hu]at k;obtain⟨⟨y1,y2,y3⟩,y4⟩:=k;have ad:=Seq.len y4;have N:(m.objs.take (i+1)).any P=P E:=by rw[az _ _ b,yb,j,vA,vT,yn,y9,O]
 refine(Seq.up q1 H.ac).cG (g:=bg) i n5 o u (by rw[hu]) ?_;refine H.alloc ag n5 λa5 h5 R5=>?_;refine R5.storeAll ag 0 n5 n5 (bg u) n5 n5 n5 n5 λd q=>?_;have b5:=q.box 0 n5;have c:=M.ac q.ac M.lt;have next:P E=eY->∃t:Nat,qc xN ((i:Int)+1)=(t:Int)/\(t<=m.objs.length/\(m.objs.take t).any P=eY/\Sp h3 d [])/\m.objs.length-t<m.objs.length-i:=λhp=>
  ⟨i+1,o0,⟨b,by rw[N];exact hp,.zip q.ac⟩,n7⟩
 have D:hY d (a5.add 1)=dB (xH xN E.object):=by rw[<-y2];exact b5.cell n5
 have w:hY d (a5.add 3)=dB (xI u.2.2.2.ptr u.2.2.2.len u.2.2.2.cap):=b5.cell n5;have s:hY d K=dB (xH xN r.object):=by rw[<-e1];exact c.cell0 n5
 have l:hY d (K.add 1)=dB (xH xN r.block):=by rw[<-e2];exact c.cell n5
 have c6:hY d (K.add 6)=dB (xH xP r.seed):=by rw[<-e5];exact c.cell n5
 have a:P E=(decide (E.object=r.object)&&(decide (r.block<(E.tries.length:Int))&&decide (r.seed=fl r.object r.block (E.tries.getD r.block.toNat 0)))):=by rw[hP]
 refine⟨E.object,D,r.object,s,be (λJ=>?_) λJ=>⟨⟨s,D,I6⟩,next (by rw[a,n2 J];rfl)⟩⟩;refine⟨r.block,l,u.2.2.2,w,ae (λg5=>?_) λg5=>⟨⟨w,l,s,D,I6⟩,next (by rw[a,n2 (show¬r.block<(E.tries.length:Int)by omega)];simp)⟩⟩;have hn:r.block.toNat<E.tries.length:=n7
 refine⟨r.seed,c6,r.object,s,r.block,l,u.2.2.2,w,r.block,l,?_⟩;refine Seq.aV (Seq.up y4 q.ac) r.block.toNat n7 hn (E.tries.getD r.block.toNat 0) (by rw[getD_lt hn];rfl) ?_;refine(rk _ _ _ d).I2 ⟨_,n5,⟨l,w,c6,w,l,s,D,I6⟩,be (λW=>?_) λW=>next (by rw[a,n2 W];simp)⟩;refine⟨?_,.zip (f.up (aa.ac q)).ac⟩;have F:P E=eX:=by rw[a,n1 J,n1 (show r.block<(E.tries.length:Int)by omega),n1 W];rfl
 rw[z,zQ.2 ⟨E,by rw[O];exact qe b,F⟩]
theorem aa.ZF{t:Nat}{f:bp->Sl->Sl->aS}{B:au}{g h:m5}{As:List HP}{a:hU}{d:bp}(H:aa B g h (kb t f a d::As)):eZ d/\∃(s b:Sl) (rs:List Sl),bV h a t (f d s b)/\fO (fV 1 aq) 1 bv h s rs d.l:=by obtain⟨ok,s,b,c⟩:=H.jV;obtain⟨rs,e⟩:=aa.GR (c.aG 3 [1]) λ_=>rfl;exact⟨ok,s,b,rs,c.box 0 n5,e.dg 0 n5⟩
theorem BV(b pw:hU)(d:bp)(s sb:Sl)(rs:List Sl)(z:bi)(m:aB)(h:m5)(I:bV h b 174 (dz pw d s sb))(hF:fO (fV 1 aq) 1 bv h s rs d.l)(ok:eZ d)(a:ct h z m)(hz:bM m):
  ak xR 85 #[xJ (dB b),cL z] h λv h'=>∃(r:Sl) (T:List (bw×ck)),v=r/\T.map zh=gK m d.l/\Keyed T/\Sp h h' [bU r (T.map qA),fB T]:=by
 refine ts Tryz.func85 ?_ (HF (HF (G0 (HF (G7 (G9 [(5,bK),(16,aI)] [(5,6),(7,11),(16,71)] (HF (HF (G0 (G7 (HF (HF (I1 [] [(25,33)] (HF (G0 (Hf [(10,aI)] [(10,11),(35,48)] (G7 (G9 [(10,aI)] [(10,11),(35,48)] (I1 [] [(35,46)] G6)))) (I1 [(58,oe)] [(48,59)] G6))))))) G6)))))) G6))) [(11,(.y [0,1,2,4,6,7,8] (.l [3,5,9,10,11]) (.y [5] (.l [3,9,10,11]) (.l [9,3,10,11]))))] (args:=[(dB b),z]);have b2:=ok.len;have b0:=ok.room;refine(Sp.refl h).boxed λJ h1 H1=>?_;have a7:=I.ac H1.ac I.lt;refine⟨b,n5,s,a7.cell n5,?_⟩;have b3:=hF.1.len;have b4:=hF.2.1;have H2:Sp h h1 [bU ⟨eH,0,0⟩ [],fB [],an J 27 (aD z)]:=
  ((H1.comp (.one (aQ.refl _ _) λt A=>(by cases A))).nil 128 8 bB).bu [2,1,0]
 refine aj (λt:Sl×Nat×List (bw×ck)×List (bw×ck)=>(t.1,(t.2.1:Int))) (λt h'=>t.2.1<=n4 d.l/\t.2.2.1.length<=t.2.1/\(∀x∈t.2.2.1,x∈t.2.2.2)/\Keyed t.2.2.2/\lL ((d.l.take t.2.1).filterMap (gj m)) (t.2.2.1.map zh)/\Sp h h' [bU t.1 (t.2.2.1.map qA),fB t.2.2.2,an J 27 (aD z)]) (λt=>n4 d.l-t.2.1) (⟨eH,0,0⟩,0,[],[]) n5 ⟨qX _,qj _,λx a=>E6,λx a=>E6,by rw[List.take_zero];exact lL.nil,H2⟩ ?_;rintro⟨o,i,T,G⟩ h3 ⟨hi,bb,u,W,hO,H3⟩;dsimp only at hi bb u W hO H3⊢;refine ae (λe=>?_) λe=>?_
 rotate_left
 .have a2:i=n4 d.l:=n7
  rw[a2,qt]at hO;refine⟨o,T,n5,hO.done,λt A=>W t (u t A),?_⟩;exact(H3.dW 1 n5 (D:=fB T) λq y t A=>y t (u t A)).bu [0,1]
 have ao:i<n4 d.l:=n7
 have F:=Gv m d.l i ao;have next:∀{h':m5} {o':Sl} {T' G':List (bw×ck)} {As:List HP},n4 T'<=i+1->(∀x∈T',x∈G')->Keyed G'->lL ((d.l.take (i+1)).filterMap (gj m)) (T'.map zh)->Sp h h' (bU o' (T'.map qA)::fB G'::an J 27 (aD z)::As)->
   ∃f:Sl×Nat×List (bw×ck)×List (bw×ck),((⟨o'.ptr,o'.len,o'.cap⟩:Sl),(qc xN ((i:Int)+1):Int))=(f.1,(f.2.1:Int))/\(f.2.1<=n4 d.l/\f.2.2.1.length<=f.2.1/\(∀x∈f.2.2.1,x∈f.2.2.2)/\Keyed f.2.2.2/\lL ((d.l.take f.2.1).filterMap (gj m)) (f.2.2.1.map zh)/\Sp h h' [bU f.1 (f.2.2.1.map qA),fB f.2.2.2,an J 27 (aD z)])/\d.l.length-f.2.1<n4 d.l-i:=λ{h' o' T' G' As} q1 q2 q3 q4 q5=>
  ⟨(o',i+1,T',G'),o0,⟨n9,q1,q2,q3,q4,aa.px (As:=[_,_,_]) (q5.aG 3 [0,1,2])⟩,n9⟩
 have F3:=fO.up hF H3.ac;refine F3.1.kX i n5 n7 ?_;obtain⟨ab,a3⟩:=Fix.row F3 ao;obtain⟨c,hc⟩:=I5 (d.l[i])
 rw[<-hc]at ab F;have b5:n4 c=64:=by rw[hc];exact ok.cell _ (qe ao)
 refine(IL (rs[i]'n7) c h3 ab n7 a3).I4 λy h4 Q=>⟨(y,(dn c).isSome),n5,?_⟩
 try dsimp only
 rcases Q with⟨htr,R4⟩|⟨r,htr,R4⟩
 .have hg:gj m c=eH:=by unfold gj;rw[htr]
  rw[hg,vK,qL]at F;have H4:=H3.up R4.ac;refine H4.alloc ag n5 λw h5 H5=>?_;refine H5.storeAll ag 3 n5 n5 (bB y) n5 n5 n5 n5 λh6 M=>?_;rw[htr];exact aE (aT (λ_=>next n7 u W (by rw[F];exact hO) M) λe=>o1)
 have H4:=H3.comp R4;refine H4.alloc ag n5 λw h5 H5=>?_;refine H5.storeAll ag 4 n5 n5 (bB y) n5 n5 n5 n5 λh6 M=>?_;rw[htr];have O:=M.eAt 3 n5;have ah:Te y r:=⟨O.1.1,O.1.2.1,O.1.2.2.1⟩
 by_cases e2:dF m r=eX
 rotate_left
 .have e2:dF m r=eY:=xx
  refine aE (aT (λe=>o1) λ_=>?_);refine⟨z,(M.box 2 n5).aw _ n5,y,(M.box 4 n5).aw _ n5,(DF z m y r h6 (a.up M.ac) hz O).I3 λh7 R7=>?_⟩;have hg:gj m c=eH:=by unfold gj;rw[htr];exact nq E7
  rw[hg,vK,qL]at F;rw[e2];exact⟨_,n5,aT (λ_=>next n7 u W (by rw[F];exact hO) (M.up R7.ac)) λe=>o1⟩
 have hg:gj m c=dB r:=by unfold gj;rw[htr];exact m6 e2
 rw[hg,Option.toList_some]at F;have al:n4 (T.map zh)=n4 T:=qm _;refine bs (λ_ h'=>Sp h h' [bU o (T.map qA),fB G,an J 27 (aD z),EA cx y r,an w 128 (bB y)]) ?_ ?_
 .refine aT (λe=>o1) λ_=>?_;refine⟨z,(M.box 2 n5).aw _ n5,y,(M.box 4 n5).aw _ n5,(DF z m y r h6 (a.up M.ac) hz O).I3 λh7 R7=>?_⟩;rw[e2];exact⟨_,n5,aT (λe=>o1) λ_=>M.up R7.ac⟩
 rintro _ h7 H7;have ad:∀j (hj:j<n4 T),Te T[j].1 T[j].2:=λj hj=>W _ (u _ (qe hj));refine bs (λ(t:Int) h'=>∃n:Nat,t=n/\n<=n4 T/\(∀x∈(T.map zh).drop n,nV r x)/\(∀p:0<n,∀hn:n<=n4 T,¬nV r (T[n-1]'n7).2)/\Sp h h' [bU o (T.map qA),fB G,an J 27 (aD z),EA cx y r,an w 128 (bB y)]) ?_ ?_
 .have Y:=(H7.own 0 n5).len;rw[qm]at Y;refine aj (λn:Nat=>(n:Int)) (λn h'=>n<=n4 T/\(∀x∈(T.map zh).drop n,nV r x)/\Sp h h' [bU o (T.map qA),fB G,an J 27 (aD z),EA cx y r,an w 128 (bB y)]) (λn=>n) T.length (by rw[Y]) ⟨qj _,by rw[<-al,yS];exactλx a=>E6,H7⟩ ?_;rintro n h8 ⟨hn,hd,H8⟩
  try dsimp only
  refine aE (ae (λe=>?_) λe=>?_)
  rotate_left
  .have S:n=0:=n7
   exact⟨I6,n,n5,hn,hd,λp _=>absurd p n7,H8⟩
  have S:0<n:=n7
  have L:n-1<n4 T:=n7
  rw[show qc xN ((n:Int)-1)=((n-1:Nat):Int)by rw[af _];omega];refine⟨y,(H8.box 4 n5).aw _ n5,(H8.seq 0 n5 λ_=>rfl).cG (g:=bB) (n-1) n5 (by rw[qm];exact L) T[n-1].1 (by rw[zk]) ?_⟩;refine(HG y T[n-1].1 r T[n-1].2 h8 ah (ad _ L)).I3 λh9 R9=>?_;have H9:=H8.up R9.ac;refine⟨_,n5,I6,aT (λe3=>?_) λe3=>?_⟩
  .refine⟨n-1,n5,⟨n7,λx a=>?_,H9⟩,n7⟩;rw[List.drop_eq_getElem_cons (by rw[al];exact L),show n-1+1=n by omega,zk]at a;rcases qN.1 a with rfl|a
   .exact DE.1 e3
   .exact hd x a
  .exact⟨n,n5,hn,hd,λ_ _=>NB.1 e3,H9⟩
 rintro _ bq ⟨n,rfl,hn,hd,bl,U⟩;have E:=hO.step (r:=r) (k:=n) (by rw[al];exact hn) hd (λp=>by rw[zk];exact bl p hn);rw[<-F]at E;refine bs (λ(t:Bool) h'=>((t=eX/\(n=0∨∃p:0<n,nV (T[n-1]'n7).2 r))∨(t=eY/\∃p:0<n,¬nV (T[n-1]'n7).2 r))/\Sp h h' [bU o (T.map qA),fB G,an J 27 (aD z),EA cx y r,an w 128 (bB y)]) ?_ ?_
 .refine be (λe3=>⟨I6,.inl ⟨n5,.inl n7⟩,U⟩) λe3=>?_;have S:0<n:=n7
  have L:n-1<n4 T:=n7
  rw[show qc xN ((n:Int)-1)=((n-1:Nat):Int)by rw[af _];omega];refine(U.seq 0 n5 λ_=>rfl).cG (g:=bB) (n-1) n5 (by rw[qm];exact L) T[n-1].1 (by rw[zk]) ?_;refine⟨y,(U.box 4 n5).aw _ n5,(HG T[n-1].1 y T[n-1].2 r bq (ad _ L) ah).I3 λbr a0=>?_⟩;refine⟨_,n5,I6,?_,U.up a0.ac⟩;by_cases hl:nV T[n-1].2 r
  .exact .inl ⟨DE.2 hl,.inr ⟨S,hl⟩⟩
  .exact .inr ⟨NB.2 hl,S,hl⟩
 rintro t br ⟨A,B⟩;rcases A with⟨rfl,A⟩|⟨rfl,A⟩
 rotate_left
 .refine aT (λe=>o1) λ_=>next n7 u W (E.2 ?_) B
  obtain⟨p,hl⟩:=A;exact⟨p,by rw[zk];exact hl⟩
 refine aT (λ_=>?_) λe=>o1
 have ax:=E.1 (A.imp_right λ⟨p,hl⟩=>⟨p,by rw[zk];exact hl⟩);have bd:=B.box 4 n5;have Y:=(B.own 0 n5).len;have a6:=(B.own 0 n5).cap;rw[qm]at Y;obtain⟨T',X⟩:∃T',T'=T.take n++(y,r)::T.drop n:=⟨_,rfl⟩
 have b1:T'.map qA=(T.map qA).take n++([y]++(T.map qA).drop n):=by rw[X,qF,wu,xC,xl];rfl
 have a9:T'.map zh=(T.map zh).take n++r::(T.map zh).drop n:=by rw[X,qF,wu,xC,xl]
 have bk:n4 T'<=i+1:=by rw[X,qo,q7,qw,qJ];omega
 rw[<-a9]at ax;refine⟨y,bd.aw _ n5,⟨ze _,wA.2 n7⟩,?_⟩;rw[qi];have tk:∀{h':m5} {As:List HP},Sp h h' (bU o (T.map qA)::As)->Rd h' ⟨o.ptr,n,n⟩ 8 bB ((T.map qA).take n):=λH=>
  have q:=(H.seq 0 n5 λ_=>rfl).take n (by rw[qm];exact hn)
  ⟨q.len,q.elem⟩
 have held:∀{h':m5} {As:List HP},Sp h h' (bU o (T.map qA)::fB G::an J 27 (aD z)::EA cx y r::an w 128 (bB y)::As)->hY h' w=dB (xH xN y.1)/\hY h' (w.add 1)=dB (xH xN y.2.1)/\hY h' (w.add 2)=dB (xH xN y.2.2.1)/\hY h' (w.add 3)=dB (xH xN y.2.2.2.1)/\hY h' (w.add 4)=dB (xH xN y.2.2.2.2.1)/\hY h' (w.add 5)=dB (xH xN y.2.2.2.2.2.1)/\hY h' (w.add 6)=dB (xH xP y.2.2.2.2.2.2.1)/\hY h' (w.add 7)=dB (xI y.2.2.2.2.2.2.2.ptr y.2.2.2.2.2.2.2.len y.2.2.2.2.2.2.2.cap)/\True:=λH=>by
  have I:=H.box 4 n5;exact⟨I.cell0 n5,I.cell n5,I.cell n5,I.cell n5,I.cell n5,I.cell n5,I.cell n5,I.cell n5,I6⟩
 have fin:∀{h':m5} (v:Sl) {As:List HP},Sp h h' (bU o (T.map qA)::fB G::an J 27 (aD z)::EA cx y r::an w 128 (bB y)::bU v ([y]++(T.map qA).drop n)::As)->
   bF xR (q6 #[125,125] 125 #[xI o.ptr n n,v]) (.one (.sc .slc)) h' λv25 Z=>(bx.ok [] Z)/\
    ∃f:Sl×Nat×List (bw×ck)×List (bw×ck),((⟨v25.ptr,v25.len,v25.cap⟩:Sl),(qc xN ((i:Int)+1):Int))=(f.1,(f.2.1:Int))/\(f.2.1<=n4 d.l/\f.2.2.1.length<=f.2.1/\(∀x∈f.2.2.1,x∈f.2.2.2)/\Keyed f.2.2.2/\lL ((d.l.take f.2.1).filterMap (gj m)) (f.2.2.1.map zh)/\Sp h Z [bU f.1 (f.2.2.1.map qA),fB f.2.2.2,an J 27 (aD z)])/\d.l.length-f.2.1<n4 d.l-i:=λ{h'} v As H=>by
  have a4:=(H.own 5 n5).len;rw[qo,wx]at a4;have HH:=aa.px (As:=[_,_,_]) (H.aG 6 [1,2,3]);refine HH.Ef (s:=⟨o.ptr,n,n⟩) ag Bj ⟨_,_,n5,n5⟩ n5 n8 (λ_=>rfl) (tk H) (qj _) n9 (H.seq 5 n5 λ_=>rfl) oi λv25 Z am=>⟨I6,?_⟩
  have am:Sp h Z [fB G,an J 27 (aD z),EA cx y r,bU v25 (T'.map qA)]:=by rw[b1];exact am
  have ay:=am.merge 0 2 n8 n5 n5 (D:=fB (G++[(y,r)])) (λq1 q2 _ p1 p2 t A=>by
   rcases qx.1 A with A|A
   .exact cx.mono (p1 t A) λ_ I=>.inl I
   .rw[qB.1 A];exact cx.mono p2 λ_ I=>.inr I)
  refine next (As:=[]) bk (λx a=>?_) (λx a=>?_) ax (ay.bu [3,0,1])
  .rw[X]at a;rcases qx.1 a with a|a
   .exact qx.2 (.inl (u x (zK a)))
   .rcases qN.1 a with a|a
    .exact qx.2 (.inr (by rw[a];simp))
    .exact qx.2 (.inl (u x (yM a)))
  .rcases qx.1 a with a|a
   .exact W x a
   .rw[qB.1 a];exact ah
 have app:∀{h':m5} {v:Sl} {K:Sl->m5->Prop},Sp h h' [bU o (T.map qA),fB G,an J 27 (aD z),EA cx y r,an w 128 (bB y),bU v [y]]->(∀P R,Sp h R [bU o (T.map qA),fB G,an J 27 (aD z),EA cx y r,an w 128 (bB y),bU P ([y]++(T.map qA).drop n)]->K P R)->
   bF xR (q6 #[125,125] 125 #[v,.slice (if o.cap=n then o.ptr else o.ptr.map (·.add (n*8))) (o.len-n) (o.cap-n)]) (.one (.sc .slc)) h' K:=λ{h' v K} H W=>
  H.append ag 5 n5 Bj ⟨_,_,n5,n5⟩ n5 n8 (λ_=>rfl) ((H.seq 0 n5 λ_=>rfl).drop n a6) Qc oi λP R H'=>W P R H'
 refine⟨?_,?_⟩
 .refine gX ag Bj n n5 n5 n7 ⟨held B,?_⟩;refine B.lit ag bB Bj n5 [y] n5 (show 1*8<=2^20 by decide) o5 λv a5 V=>⟨I6,?_⟩
  exact app V λP ap N=>⟨I6,fin P N⟩
 .refine B.lit ag bB Bj n5 [y] n5 (show 1*8<=2^20 by decide) o5 λv a5 V=>⟨I6,?_,?_⟩
  .refine gX ag Bj n n5 n5 n7 ⟨I6,?_⟩;exact app V λP ap N=>⟨I6,fin P N⟩
  .refine app V λP ap N=>⟨I6,?_⟩
   exact gX ag Bj n n5 n5 n7 ⟨I6,fin P N⟩
theorem mX{m:aB}:n4 (bG m)<=9:=by
 cases h:bE m with
 |true=>exact acm h
 |false=>
  have a:gy m=[]:=by unfold gy;rw[h];rfl
  have:bG m=[]:=by unfold bG fg;rw[a];rfl
  rw[this];exact qX _
variable {b pw:hU} {d:bp} {s sb:Sl} {rs:List Sl} {m:aB} {h:m5}
theorem Po(z:bi)(N:bV h b 174 (dz pw d s sb))(hF:fO (fV 1 aq) 1 bv h s rs d.l)(ok:eZ d)(K:ct h z m)(R:bM m):
  ak xR 203 #[xJ (dB b),cL z] h λv h'=>v=xL (jh m d.l)/\Sp h h' []:=by
 refine ts Tryz.func203 ?_ (HF (HF (G0 (HF (G7 (G9 [(16,aI)] [(4,5),(6,8),(9,10),(16,39)] (HF (HF (G0 (G7 (HF (HF (I0 [(7,oe),(25,aI)] [(7,8),(9,10),(25,36)])))) G6)))))) G6))) (args:=[(dB b),z]);have O:=ok.len;have E:=ok.room;refine(Sp.refl h).boxed λS Z G=>?_;refine⟨z,(G.box 0 n5).aw _ n5,(Dq z m Z (K.up G.ac) R).I3 λT X=>?_⟩;have x:=G.up X.ac;refine⟨_,n5,aH (λg=>⟨by unfold jh;rw[g];rfl,.zip x.ac⟩) λg=>?_⟩;refine⟨z,(x.box 0 n5).aw _ n5,(ma z m T (K.up x.ac) R).I4 λI h3 M=>?_⟩;refine⟨I,n5,?_⟩;obtain⟨P,w⟩:=I5 (bG m)
 rw[<-w]at M;have Q:=x.comp M;have ad:I.len=n4 P:=(aa.lE (Q.bu [1])).1;have ab:n4 P<=2^20:=by rw[w];exact qV (mX (m:=m)) n8
 have L:jh m d.l=P.all λp=>decide (p∈d.l):=by unfold jh;rw[g,w];rfl
 refine aj (λi:Nat=>(i:Int)) (λi h'=>i<=n4 P/\((P.take i).all λp=>decide (p∈d.l))=eX/\Sp h h' [an S 27 (aD z),ce I P]) (λi=>n4 P-i) 0 n5 ⟨qX _,n5,Q⟩ ?_;rintro i U ⟨hi,f,r⟩
 try dsimp only
 refine ae (λe=>?_) λe=>?_
 rotate_left
 .have A:i=n4 P:=n7
  rw[A,qt]at f;exact⟨by rw[L,f],.zip r.ac⟩
 have a:i<n4 P:=n7
 have D:((P.take (i+1)).all λp=>decide (p∈d.l))=decide (P[i]∈d.l):=by rw[az _ _ a,wq,f,yz,vu,z8,xm]
 refine dT.get (aa.uC (r.bu [1]) λ_=>rfl) i n5 a λx8 B=>?_;have F:=N.ac r.ac N.lt;have y:=fO.up hF r.ac;refine⟨b,n5,s,F.cell n5,?_⟩;refine aj (λj:Nat=>(decide (P[i]∈d.l.take j),(j:Int))) (λj h'=>j<=n4 d.l/\h'=U) (λj=>n4 d.l-j) 0 oo ⟨qX _,n5⟩ ?_;rintro j H ⟨hj,rfl⟩
 try dsimp only
 have V:=y.1.len;have Y:=y.2.1;refine ae (λW=>?_) λW=>?_
 .have q:j<n4 d.l:=n7
  refine y.1.kX j n5 n7 ?_;have u:=(Fix.row y q).1;have next:∀{h':m5} {c:Bool},c=decide (P[i]∈d.l.take (j+1))->h'=H->∃t:Nat,(c,qc xN ((j:Int)+1))=(decide (P[i]∈d.l.take t),(t:Int))/\(t<=n4 d.l/\h'=H)/\d.l.length-t<n4 d.l-j:=λ{h' c} hc hh=>
   ⟨j+1,by rw[af _,hc];rfl,⟨q,hh⟩,n7⟩
  have k:decide (P[i]∈d.l.take (j+1))=(decide (P[i]∈d.l.take j)||decide (P[i]=d.l[j])):=by rw[az _ _ q,<-Bool.decide_or,decide_eq_decide,qx,qB]
  refine aT (λo=>next (by rw[k,o];rfl) n5) λo=>?_;refine(lI x8 (rs[j]'n7) P[i] d.l[j] H B u ?_).mono ?_
  .have:=su (m:=m) (c:=P[i]) (by rw[<-w];exact qe a);omega
  rintro _ _ ⟨rfl,rfl⟩;exact⟨_,n5,next (by rw[k,o,yn]) n5⟩
 .have J:j=n4 d.l:=n7
  rw[J,qt];refine aH (λo=>⟨?_,.zip r.ac⟩) λo=>⟨i+1,o0,⟨a,by rw[D,o],r⟩,n7⟩
  rw[L];congr 1;exact(z6.2 ⟨P[i],qe a,E5⟩).symm
theorem Tf(z:bi)(F:bV h b 174 (dz pw d s sb))(S:fO (fV 1 aq) 1 bv h s rs d.l)(ok:eZ d)(G:ct h z m)(V:bM m):
  ak xR 277 #[xJ (dB b),cL z] h λv h'=>∃r:Sl,v=r/\Sp h h' [ce r (kA m d.l)]:=by
 refine ts Tryz.func277 ?_ (HF (HF (I0 [(5,bK),(12,aI)] [(5,6),(7,8),(12,22)]))) (args:=[(dB b),z]);have D:=ok.len;have u:=ok.room;refine(Sp.refl h).boxed λX y c=>?_;have x:=F.ac c.ac F.lt;refine⟨z,(c.box 0 n5).aw _ n5,(BV b pw d s sb rs z m y x (fO.up S c.ac) ok (G.up c.ac) V).mono ?_⟩;rintro _ H ⟨w,T,rfl,B,Z,N⟩;refine⟨w,n5,?_⟩;have J:n4 T<=512:=by have y:=congrArg List.length B;rw[qm]at y;have:=iV m d.l;omega
 have A:=((N.comp (Sp.refl H)).bu [0,1]|>λR=>(aa.jm (c.comp R) 41 5 1 aq).bu [0,2,3])
 have W:w.len=n4 T:=by rw[(A.own 1 n5).len,qm]
 refine aj (λt:Sl×Nat=>(t.1,(t.2:Int))) (λt h'=>t.2<=n4 T/\Sp h h' [ce t.1 (((T.map zh).take t.2).map gc),bU w (T.map qA),fB T]) (λt=>n4 T-t.2) (⟨eH,0,0⟩,0) n5 ⟨qX _,A⟩ ?_;rintro⟨o,k⟩ h3 ⟨I,i⟩;dsimp only at I i⊢;refine ae (λe=>?_) λe=>?_
 rotate_left
 .have p:k=n4 T:=n7
  rw[p,<-qm (f:=zh),qt,B]at i;exact⟨o,n5,i.bu [0]⟩
 have a:k<n4 T:=n7
 refine(i.seq 1 n5 λ_=>rfl).cG (g:=bB) k n5 (by rw[qm];exact a) T[k].1 (by rw[zk]) ?_;refine i.alloc ag n5 λa7 Y M=>?_;refine M.storeAll ag 3 n5 n5 (bB T[k].1) n5 n5 n5 n5 λE j=>?_;have L:eN cx E T[k].1 T[k].2:=j.at 2 n5 T[k] (qe a);refine⟨T[k].1,(j.box 3 n5).aw _ n5,(uo T[k].1 T[k].2 E L).I4 λU h6 K=>?_⟩;have O:=(j.comp K).aG 5 [0,4,1,2];refine⟨U,n5,O.mh ag cI oi λP h7 Q=>?_⟩;refine⟨(P,k+1),oj,⟨a,?_⟩,n9⟩
 try dsimp only
 have q:k<n4 (T.map zh):=by rw[qm];exact a
 rw[az _ _ q,qF,List.map_singleton,zk];exact aa.px (As:=[_,_,_]) (Q.aG 3 [0,1,2])
theorem HI(z:bi)(o:bV h b 174 (dz pw d s sb))(y:fO (fV 1 aq) 1 bv h s rs d.l)(ok:eZ d)(i:ct h z m)(k:bM m):
  ak xR 211 #[xJ (dB b),cL z] h λv h'=>∃r:Sl,v=r/\Sp h h' [ce r (gp m d.l)]:=by
 refine ts Tryz.func211 ?_ G6 [(1,(.l [0,2,3,1,4,5,6]))] (args:=[(dB b),z]);have j:=ok.len;have f:=ok.room;refine(Sp.refl h).boxed λE x g=>?_;have e:=g.box 0 n5;refine⟨z,e.aw _ n5,z,e.aw _ n5,(ma z m x (i.up g.ac) k).I4 λp F w=>?_⟩;have c:=g.comp w;have a:=c.box 0 n5;refine⟨p,n5,⟨a.cell0 n5,a.cell n5,a.cell n5,a.cell n5,a.cell n5,a.cell n5,a.cell n5,a.cell n5,I6⟩,?_⟩;refine(Tf z (o.ac c.ac o.lt) (fO.up y c.ac) ok (i.up c.ac) k).I4 λB h3 q=>?_;have A:=(c.comp q).bu [1,2];have D:n4 (kA m d.l)<=512:=by unfold kA;rw[qm];have:=iV m d.l;omega
 have H:=mX (m:=m);refine⟨B,n5,I6,A.PS ag cI ⟨_,_,n5,n5⟩ n7 λu G t=>⟨I6,u,n5,t⟩⟩
end
theorem HJ(s:Sl)(l:Row)(h:m5)(a:Rd h s 1 aq l)(f:n4 l<=2^30):ak xR 46 #[s] h λv h'=>∃r:Sl,v=r/\Sp h h' [ai 5 r 1 aq l]:=by refine ts Tryz.func46 ?_;have d:=a.len;rw[af _];refine(Sp.refl h).make ag aq cK n8 0 n5 n5 0 (s.len+2) n5 n7 n7 n7 λo e _ _ b=>?_;refine b.append ag 0 n5 cK ui n5 n8 (λ_=>rfl) (Seq.up a b.ac) cB oi λr g c=>?_;exact⟨r,n5,c⟩
theorem NC(s:Sl)(M:aO)(h:m5)(f:dT h s 1 aq M)(w:n4 M<=2^30)(j:∀r∈M,n4 r<=2^30):ak xR 278 #[s] h λv h'=>∃r:Sl,v=r/\Sp h h' [ce r M]:=by
 refine ts Tryz.func278 ?_ (HF (HF (I0 [(3,bK),(8,aI)] [(3,4),(5,6),(8,18)])));have i:=f.len;refine aj (λt:Sl×Nat=>(t.1,(t.2:Int))) (λt h'=>t.2<=n4 M/\Sp h h' [ce t.1 (M.take t.2)]) (λt=>n4 M-t.2) (⟨eH,0,0⟩,0) n5 ⟨oo,(Sp.refl h).jm 41 5 1 aq⟩ ?_;rintro⟨o,k⟩ m ⟨u,b⟩;dsimp only at*;refine ae (λe=>?_) (λe=>?_)
 .have a:k<n4 M:=n7
  refine(f.up b.ac).get k n5 a λr d=>?_;refine(HJ r _ m d (j _ (qe _))).I4 λc q l=>⟨c,n5,?_⟩;refine aa.mh ag (b.comp l) cI oi λg h3 p=>?_;refine⟨(g,k+1),oj,⟨n9,?_⟩,n9⟩
  try dsimp only
  rw[az _ _ a];exact p
 .rw[qf n7]at b;exact⟨o,n5,b⟩
section
variable {pw:hU}
theorem Ky(x:Sl)(l:dP)(H:aa B h0 h (ib pw a d::fW pw w::As))(S:St B h0 As λh=>dT h x 1 aq l)(hl:n4 l<=2^20)(J:∀c∈l,n4 c<=2^20):
  ak xR 212 #[xJ (dB a),x] h λv h'=>v=xH xN (d.rewrite w l).1/\aa B h0 h' (ib pw a (d.rewrite w l).2.2::fW pw (d.rewrite w l).2.1::As):=by
 refine ts Tryz.func212 ?_ (HF (I0 [(9,aI)] [(4,6),(9,19)]));have Q:=S.at [_,_] H;have Z:=Q.len;have j:∀(e:Int),d.rewrite w l=(e,w,d)->(Value.int .i64 e=xH xN (d.rewrite w l).1/\aa B h0 h (ib pw a (d.rewrite w l).2.2::fW pw (d.rewrite w l).2.1::As)):=λe D=>by
  rw[D];exact⟨n5,H⟩
 refine aj (λi:Nat=>(i:Int)) (λi h'=>i<=n4 l/\((l.take i).all λb=>decide (n4 b=64))=eX/\h'=h) (λi=>n4 l-i) 0 n5 ⟨qX _,n5,n5⟩ ?_;rintro i h' ⟨hi,g,D⟩;rw[D];clear D
 try dsimp only
 refine ae (λe=>?_) λe=>?_
 .have k:i<n4 l:=n7
  refine Q.get i n5 k λr M=>?_;have ab:=M.len;refine bt (λp=>j 1 ?_) λp=>⟨i+1,o0,⟨k,?_,n5⟩,n7⟩
  .have:(l.all λb=>decide (n4 b=64))=eY:=z6.2 ⟨l[i],qe k,oi⟩;unfold bp.rewrite;rw[this];rfl
  .rw[az _ _ k,wq,g,yz,vu,n1 (show l[i].length=64 by omega)];rfl
 have G:i=n4 l:=n7
 rw[G,qt]at g;obtain⟨ok,s,b,T⟩:=(id H).jV;have A:=T.box 0 n5;have O:=ok.room;have z:d.rewrite w l=if d.lost then(5,w,d)else if d.room<n4 l then(7,w,d)else if w.off then(14,w,d)else if w.step.1 then(0,w.step.2,{d with l:=l,wait:=0,laid:=[],has:=eY})else(14,w.step.2,{d with laid:=l,has:=eX}):=by unfold bp.rewrite;rw[g];rfl
 have m:∀c∈l,n4 c=64:=λc U=>by simpa using qP.1 g c U
 refine⟨a,n5,d.lost,A.cell n5,aT (λp=>j 5 (by rw[z,m6 p])) λp=>?_⟩;refine⟨a,n5,(d.room:Int),A.cell0 n5,ae (λV=>j 7 (by rw[z,nq F8,m6 n7])) λV=>?_⟩;have y:=T.aG 4 [3,0,1,2];obtain⟨lw,ad,F⟩:=y.jE;refine⟨a,n5,dB pw,A.cell n5,pw,n5,w.off,(F.box 0 n5).cell0 n5,a,n5,dB pw,A.cell n5,(Bt y).I3 λR q=>?_⟩;have q:=q.aG 4 [1,2,3,0];refine⟨_,n5,?_⟩;have t:¬d.room<n4 l:=n7
 by_cases f:w.off=eX
 .have Y:w.step=(eY,w):=by unfold Pow.step;rw[m6 f]
  rw[Y]at q⊢;rw[z,nq F8,nq t,m6 f,f];exact aH (λ_=>aH (λe=>o1) λ_=>⟨n5,q.iC ok⟩) λe=>o1
 have o:w.off=eY:=B4
 rw[z,nq F8,nq t,nq f,o];have u:∀{K:Sl->m5->Prop},(∀r h3,aa B h0 h3 (an a 174 (dz pw d s b)::ce s d.l::ce b d.laid::fW pw w.step.2::ce r l::As)->K r h3)->ji xR 278 #[x] (.one (.sc .slc)) R K:=λ{K} hK=>by
  have N:=S.at [_,_,_,_] q;refine(NC x l R N n7 λr M=>by have:=J r M;omega).I4 λr h3 W=>⟨r,n5,hK r h3 ((q.bQ W).aG 5 [1,2,3,4,0])⟩
 refine aH (λE=>?_) λE=>?_
 .rw[E,nq n8];refine aH (λ_=>u λr h3 P=>?_) λe=>o1
  refine⟨a,n5,P.store ag 0 n5 n5 4 [xL eX] n5 n5 n5 p8 λX L=>?_⟩;refine⟨a,n5,L.store ag 0 n5 n5 5 [r] n5 n5 n5 p8 λh5 I=>⟨n5,?_⟩⟩;refine aa.iC (s:=s) (b:=r) ⟨ok.wait,ok.len,ok.room,ok.cell,by show l.length<=d.room;omega,m⟩ ?_;exact I.aG 5 [0,1,4,3]
 .rw[E,m6 rfl];refine u λr h3 P=>?_;refine⟨a,n5,P.store ag 0 n5 n5 2 [r] n5 n5 n5 p8 λX L=>?_⟩;refine⟨a,n5,L.store ag 0 n5 n5 3 [xH xN 0] n5 n5 n5 p8 λh5 I=>?_⟩;refine⟨a,n5,I.store ag 0 n5 n5 4 [xL eY] n5 n5 n5 p8 λh6 H6=>?_⟩;refine⟨a,n5,H6.store ag 0 n5 n5 5 [xI eH 0 0] n5 n5 n5 p8 λh7 H7=>⟨n5,?_⟩⟩;refine aa.iC (s:=r) (b:=⟨eH,0,0⟩) ⟨qX _,by show l.length<=d.room;omega,ok.room,m,qX _,oo⟩ ?_;exact(H7.jm 41 5 1 aq).aG 6 [1,5,0,4]
theorem Tg(H:aa B h0 h (ib pw a d::As)):ak xR 56 #[xJ (dB a)] h λv h'=>v=.tuple #[]/\aa B h0 h' (ib pw a d.Ic::As):=by refine ts Tryz.func56 ?_;obtain⟨ok,s,b,j⟩:=(id H).jV;refine⟨a,n5,j.store ag 0 n5 n5 2 [xI eH 0 0] n5 n5 n5 p8 λm g=>?_⟩;refine⟨a,n5,g.store ag 0 n5 n5 3 [xH xN 0] n5 n5 n5 p8 λn f=>?_⟩;refine⟨a,n5,f.store ag 0 n5 n5 4 [xL eY] n5 n5 n5 p8 λp i=>?_⟩;refine⟨a,n5,i.store ag 0 n5 n5 5 [xI eH 0 0] n5 n5 n5 p8 λo k=>?_⟩;refine⟨a,n5,k.store ag 0 n5 n5 6 [xL eX] n5 n5 n5 p8 λh8 l=>⟨n5,?_⟩⟩;refine aa.iC (s:=⟨eH,0,0⟩) (b:=⟨eH,0,0⟩) ⟨qX _,qX _,ok.room,λc e=>o1,qX _,λc e=>o1⟩ ?_;exact((l.jm 41 5 1 aq).jm 41 5 1 aq).aG 5 [2,0,1]
end
variable {s sb:Sl} {rs:List Sl}
section
variable {pw:hU}
theorem acF(n:Int):(if(0:Int)>n then(0:Int)else n)=max n 0:=by split<;>omega
theorem HK(z:bi)(n:Int)(q:bV h b 174 (dz pw d s sb))(k:fO (fV 1 aq) 1 bv h s rs d.l)(ok:eZ d)(t:ct h z m)(y:bM m):
  ak xR 144 #[xJ (dB b),cL z,xH xN n] h λv h'=>v=xL (rc m d n)/\Sp h h' []:=by
 refine ts Tryz.func144 ?_ (HF (I1 [] [(6,15)] G6)) (args:=[(dB b),z,(n:Int)]);have o:=ok.len;have j:=ok.room;have w:=k.1.len;have u:=k.2.1;refine(Sp.refl h).boxed λA E c=>?_;have a:=q.ac c.ac q.lt;refine aE (aT (λe=>o1) λ_=>⟨b,n5,d.lost,a.cell n5,aT (λe=>⟨C2,.zip c.ac⟩) λe=>?_⟩);have p:rc m d n=(jG d d.l.length n||jG d (gp m d.l).length n):=C2
 rw[acF];refine⟨b,n5,(d.room:Int),a.cell0 n5,b,n5,s,a.cell n5,?_⟩
 try dsimp only
 rw[af ((d.room:Int)-(s.len:Int)),show(s.len:Int)=(n4 d.l:Int)by omega];refine aT (λg=>⟨⟨a.cell n5,a.cell0 n5,I6⟩,by rw[p];unfold jG;rw[g];rfl,.zip c.ac⟩) λg=>?_;refine⟨b,n5,(d.room:Int),a.cell0 n5,z,(c.box 0 n5).aw _ n5,(HI z a (fO.up k c.ac) ok (t.up c.ac) y).I4 λr B i=>?_⟩;have f:=a.ac i.ac a.lt;have x:=(aa.lE i).1;have D:n4 (gp m d.l)<=600:=by unfold gp kA;rw[qo,qm];have:=iV m d.l;have:=mX (m:=m);omega
 refine⟨r,n5,⟨f.cell0 n5,f.cell n5,f.cell0 n5,I6⟩,?_,.zip (c.up i.ac).ac⟩;rw[af ((d.room:Int)-(r.len:Int)),show(r.len:Int)=(n4 (gp m d.l):Int)by omega,p];unfold jG;rw[g,yn]
theorem Kz(z:bi)(n:Int)(h:m5):ak xR 144 #[xJ eH,cL z,xH xN n] h λv h'=>v=xL eY/\Sp h h' []:=by refine ts Tryz.func144 ?_ (HF (I1 [] [(6,15)] G6)) (args:=[(eH:bJ),z,(n:Int)]);exact(Sp.refl h).boxed λc b a=>aE (aT (λ_=>⟨n5,.zip a.ac⟩) λe=>o1)
theorem KA(z:bi)(n:Int)(h:m5):ak xR 145 #[xJ eH,cL z,xH xN n] h λv h'=>v=xH xN 5/\Sp h h' []:=by refine ts Tryz.func145 ?_ (HF (I1 [] [(6,15)] G6)) (args:=[(eH:bJ),z,(n:Int)]);exact(Sp.refl h).boxed λc b a=>aE (aT (λ_=>⟨n5,.zip a.ac⟩) λe=>o1)
end
section
variable {pw:hU}
theorem Th(x:bi)(m:aB)(n:Int)(Q:St B h0 As λh=>ct h x m)(K:bM m)(H:aa B h0 h (ib pw a d::fW pw w::As)):
  ak xR 145 #[xJ (dB a),cL x,xH xN n] h λv h'=>v=xH xN (eJ m w d n).1/\aa B h0 h' (ib pw a (eJ m w d n).2.2::fW pw (eJ m w d n).2.1::As):=by
 refine ts Tryz.func145 ?_ (HF (I1 [] [(6,15)] G6)) (args:=[(dB a),x,(n:Int)]);refine(Sp.refl h).boxed λU J R=>?_;have p:=(H.bQ R).aG 3 [1,2,0];have f:∀(e:Int) {h':m5},aQ (λb=>b<J.size) J h'->eJ m w d n=(e,w,d)->(Value.int .i64 e=xH xN (eJ m w d n).1/\aa B h0 h' (ib pw a (eJ m w d n).2.2::fW pw (eJ m w d n).2.1::As)):=λe h' T S=>by
  rw[S];exact⟨n5,((p.up T).aG 3 [0,1])⟩
 obtain⟨ok,s,b,rs,u,t⟩:=aa.ZF p;have I:=ok.len;have E:=ok.room;have O:=t.1.len;have N:=t.2.1;have k:=Q.at [_,_,_] p;refine aE (aT (λe=>o1) λ_=>⟨a,n5,d.lost,u.cell n5,aT (λe=>f 5 (aQ.refl _ _) (by unfold eJ;rw[m6 e])) λe=>?_⟩);refine⟨x,(p.box 2 n5).aw _ n5,(HK x n u t ok k K).I3 λV j=>?_⟩;refine⟨_,n5,aH (λD=>f 7 j.ac (by unfold eJ;rw[nq C8,D];rfl)) λD=>?_⟩;have g:=u.ac j.ac u.lt;have em:eJ m w d n=if jG d d.l.length n then(0,w,d)else d.rewrite w (gp m d.l):=by unfold eJ;rw[nq C8,D];rfl
 refine⟨a,n5,(d.room:Int),g.cell0 n5,a,n5,s,g.cell n5,?_⟩
 try dsimp only
 rw[af ((d.room:Int)-(s.len:Int)),show(s.len:Int)=(n4 d.l:Int)by omega];refine ae (λL=>f 0 j.ac (by rw[em];exact m6 (n1 n7))) λL=>?_;have z:eJ m w d n=d.rewrite w (gp m d.l):=by rw[em];exact nq (by unfold jG;simp;omega)
 have G:=p.up j.ac;refine⟨x,(G.box 2 n5).aw _ n5,(HI x g (fO.up t j.ac) ok (k.up j.ac) K).I4 λr h3 M=>?_⟩;obtain⟨y,F⟩:=(G.bQ M).Mr λ_=>rfl;have F:=F.aG 4 [1,2,0];have W:n4 (gp m d.l)<=600:=by unfold gp kA;rw[qo,qm];have:=iV m d.l;have:=mX (m:=m);omega
 have A:∀c∈gp m d.l,n4 c<=2^20:=λc i=>by
  unfold gp kA at i;rcases qx.1 i with i|i
  .rw[su i];decide
  .obtain⟨q,o,rfl⟩:=qI.1 i;rw[WS (SP.1 (VS o).2.2).1];decide
 refine⟨r,n5,(Ky r (gp m d.l) F (St.dU 0 n5 λh' o=>⟨y,o.1,o.2.1,o.2.2⟩) n7 A).I3 λX P=>?_⟩;rw[z];exact⟨_,n5,n5,P.aG 3 [0,1]⟩
end
theorem pL{B:au}{c h:m5}{As:List HP}:∀{rs:List Sl} {b:cO} {L:List (Sl×aC)},aa B c h (iz 1 ar L::(bo 3 1 ar rs b++As))->∃P,(∀p∈rs.zip b,p∈P)/\(∀p∈L,p∈P)/\aa B c h (iz 1 ar P::As)
 |[],_,L,H=>⟨L,λp a=>(by simp at a),λ_ h=>h,H⟩
 |_::_,[],L,H=>⟨L,λp a=>(by simp at a),λ_ h=>h,H⟩
 |r::rs,l::b,L,H=>by
  obtain⟨P,e,d,f⟩:=pL (H.freeze 1 rfl λ_=>rfl).Iy;refine⟨P,λp a=>?_,λp a=>d p (qp _ a),f⟩;rcases qN.1 a with rfl|a
  .exact d _ qR
  .exact e p a
theorem HL(x:bi)(m:aB)(h:m5)(H:ct h x m)(R:bM m):ak xR 12 #[cL x] h λv h'=>∃(d o:Sl) (a:List dH),v=cL (x.1,x.2.1,x.2.2.1,x.2.2.2.1,x.2.2.2.2.1,x.2.2.2.2.2.1,d,o)/\a.length=m.objs.length/\(∀(j:Nat) r e,a[j]?=dB r->m.objs[j]?=dB e->r.1=e.name/\r.2.1=e.object/\r.2.2.1=e.length)/\
   Sp h h' (ai 3 d 1 ar m.drives::ai 83 o 4 bg a::bo 3 1 ar (a.map λr=>r.2.2.2).reverse (m.objs.map λe=>e.tries).reverse):=by
 refine ts Tryz.func12 ?_ (HF (HF (HF (HF (I0 [(15,aI)] [(5,6),(15,30)]))))) (args:=[x]);have al:=R.dr;have ad:=R.ob;refine(Sp.refl h).boxed λz c H1=>H1.alloc ag n5 λa2 q O=>?_;refine⟨x.2.2.2.2.2.2.1,(O.box 0 n5).cell n5,?_⟩;refine(O.nil 3 1 ar).append ag 2 n5 fu ⟨_,_,n5,n5⟩ n5 n8 (λ_=>rfl) (H.up O.ac).drives db oi λd h3 H3=>?_;refine H3.store ag 0 n5 n5 6 [d] n5 n5 n5 pb λh4 H4=>?_;refine⟨x.2.2.2.2.2.2.2,(H4.box 0 n5).cell n5,?_⟩;refine H4.store ag 0 n5 n5 7 [xI eH 0 0] n5 n5 n5 pb λh5 I=>?_;obtain⟨M,G⟩:∃M:Sl->bi,M=λo=>(x.1,x.2.1,x.2.2.1,x.2.2.2.1,x.2.2.2.2.1,x.2.2.2.2.2.1,d,o):=⟨_,rfl⟩
 obtain⟨Z,hZ⟩:∃Z:HP,Z=an a2 27 [xH xN 0,xH xN 0,xH xN 0,xH xN 0,xH xN 0,xH xN 0,xI eH 0 0,xI eH 0 0]:=⟨_,rfl⟩
 have I:Sp h h5 [an z 27 (aD (M ⟨eH,0,0⟩)),Z,ai 3 d 1 ar m.drives,ai 83 ⟨eH,0,0⟩ 4 bg []]:=by rw[G,hZ];exact I.nil 83 4 bg
 have U:∀o,(M o).2.2.2.2.2.2.2=o:=λo=>by rw[G]
 have am:x.2.2.2.2.2.2.2.len=m.objs.length:=by obtain⟨J,Q,Y,_⟩:=bZ.kQ H.objs;rw[Q.len,Y]
 refine aj (λt:Sl×List dH=>(t.2.length:Int)) (λt h'=>t.2.length<=m.objs.length/\(∀(j:Nat) r e,t.2[j]?=dB r->m.objs[j]?=dB e->r.1=e.name/\r.2.1=e.object/\r.2.2.1=e.length)/\Sp h h' (an z 27 (aD (M t.1))::Z::ai 3 d 1 ar m.drives::ai 83 t.1 4 bg t.2::bo 3 1 ar (t.2.map λr=>r.2.2.2).reverse ((m.objs.take t.2.length).map λe=>e.tries).reverse)) (λt=>m.objs.length-t.2.length) (⟨eH,0,0⟩,[]) n5 ⟨qX _,λj r e c _=>(by simp at c),I⟩ ?_;rintro⟨o,a⟩ h7 ⟨hi,p,k⟩;dsimp only at hi p k⊢;refine ae (λe=>?_) (λe=>?_)
 .have i:a.length<m.objs.length:=n7
  obtain⟨J,Q,Y,q3⟩:=bZ.kQ (H.up k.ac).objs;have s:a.length<J.length:=n7
  obtain⟨u,hu⟩:=I5 (J[a.length])
  obtain⟨E,F⟩:=I5 (m.objs[a.length])
  have B:=q3 a.length s i;rw[<-hu,<-F]at B;obtain⟨⟨y1,y2,y3⟩,y4⟩:=B;refine Q.cG (g:=bg) a.length n5 s u (by rw[hu]) ?_;refine(Sp.refl h7).alloc ag n5 λa9 h8 G8=>?_;refine G8.storeAll ag 0 n5 n5 (bg u) n5 n5 n5 n5 λh9 X=>?_;obtain⟨D,y⟩:=I5 (bo 3 1 ar (a.map λr=>r.2.2.2).reverse ((m.objs.take a.length).map λe=>e.tries).reverse)
  rw[<-y]at k;have V:=((k.bQ X).nil 3 1 ar).bc;refine⟨u.2.2.2,(V.box 1 n5).cell n5,?_⟩;have ab:=(R.nm E (by rw[F];exact qe i)).2;refine V.append ag 0 n5 fu ⟨_,_,n5,n5⟩ n5 n8 (λ_=>rfl) (Seq.up y4 X.ac) db oi λt ao N=>?_;refine N.store ag 1 n5 n5 3 [t] n5 n5 n5 pb λS b=>?_;obtain⟨v,T⟩:∃v:dH,v=(u.1,u.2.1,u.2.2.1,t):=⟨_,rfl⟩
  have b:Sp h S (ai 3 t 1 ar E.tries::an a9 83 (bg v)::an z 27 (aD (M o))::Z::ai 3 d 1 ar m.drives::ai 83 o 4 bg a::D):=by rw[T];exact b
  refine⟨o,by rw[<-U o];exact(b.box 2 n5).cell n5,v,(b.box 1 n5).aw _ n5,?_⟩;refine b.push ag 5 n5 mF n5 n8 (λ_=>rfl) Ar v o5 n8 n7 λf ah P=>?_;refine P.store ag 2 n5 n5 7 [f] n5 n5 n5 pb λw l=>?_;have l:Sp h w (ai 3 t 1 ar E.tries::an a9 83 (bg v)::an z 27 (aD (M f))::Z::ai 3 d 1 ar m.drives::ai 83 f 4 bg (a++[v])::D):=by
   have e:aD (M f)=(aD (M o)).set 7 (xI f.ptr f.len f.cap):=by rw[G];rfl
   rw[e];exact l
  have K:Sp h w (an z 27 (aD (M f))::Z::ai 3 d 1 ar m.drives::ai 83 f 4 bg (a++[v])::bo 3 1 ar ((a++[v]).map λr=>r.2.2.2).reverse ((m.objs.take (a++[v]).length).map λe=>e.tries).reverse):=by
   have e1:bo 3 1 ar ((a++[v]).map λr=>r.2.2.2).reverse ((m.objs.take (a++[v]).length).map λe=>e.tries).reverse=ai 3 t 1 ar E.tries::D:=by rw[y,qo,wx,az _ _ i,qF,qF,List.reverse_append,List.reverse_append,T,<-F];rfl
   rw[e1];exact l.aG 6 [2,3,4,5,0]
  refine⟨(f,a++[v]),by simp only[qo,wx];rw[af _];rfl,⟨oi,λj r e c q=>?_,K⟩,oi⟩;dsimp only at c⊢;by_cases hj:j<a.length
  .rw[qu hj]at c;exact p j r e c q
  .have L:j=a.length:=by have:=(qn.1 c).1;simp at this;omega
   subst L;rw[qk (qj _),zd]at c;simp at c;rw[qd i,<-F]at q;injection q with q
   subst c;subst q;rw[T];exact⟨y1,y2,y3⟩
 .have A:a.length=m.objs.length:=n7
  rw[A,qt]at k;refine⟨M o,(k.box 0 n5).aw _ n5,?_⟩;rw[hZ]at k;refine k.storeAll ag 1 n5 n5 (aD (M o)) n5 n5 n5 n5 λh8 W=>?_;refine⟨M o,(W.box 1 n5).aw _ n5,d,o,a,by rw[G],A,p,W.aG 4 [2,3]⟩
theorem AE(x:bi)(m:aB)(h:m5)(b:ct h x m)(n:bM m):ak xR 12 #[cL x] h λv h'=>∃y:bi,v=cL y/\Sp h h' [bn y m]:=by
 refine(HL x m h b n).mono ?_;rintro _ h' ⟨d,o,a,rfl,i,f,H⟩;obtain⟨P,g,_,k⟩:=pL (As:=[ai 3 d 1 ar m.drives,ai 83 o 4 bg a]) ((aa.front (As:=[ai 3 d 1 ar m.drives,ai 83 o 4 bg a]) H).Eh 1 ar);have e:(a.zip m.objs).map qA=a:=List.map_fst_zip n7;refine⟨_,n5,aa.Bi (L:=a.zip m.objs) (pool:=P) ⟨b.seq,b.next,b.p,b.extra⟩ (List.map_snd_zip n7) (λp q=>?_) (by rw[e];exact k)⟩;obtain⟨j,l,rfl⟩:=qE q;have c:j<n4 a/\j<n4 m.objs:=by simp at l;omega
 rw[yk];refine⟨f j _ _ (qd c.1) (qd c.2),g _ ?_⟩;rw[List.zip_eq_zipWith,<-List.reverse_zipWith oi,List.mem_reverse,List.mem_iff_getElem];exact⟨j,oi,oo⟩
def kT(l:aC)(n:Int):aC:=l.foldl (λg k=>g.set k.toNat n) (qh 64 0)
abbrev di(g:aC):aS:=g.map (Sc.enc (.int .i64))
theorem pP(l:aC)(n:Int):n4 (kT l n)=64:=by
 unfold kT;generalize b:qh 64 (0:Int)=g;have a:n4 g=64:=by rw[<-b];simp
 clear b
 induction l generalizing g with
 |nil=>exact a
 |cons k l ih=>rw[zN];exact ih _ (by rw[qO];exact a)
theorem VX(l:aC)(k n:Int):kT (l++[k]) n=(kT l n).set k.toNat n:=by unfold kT;rw[wz];rfl
theorem Yp{l:aC}{n:Int}(a:∀k∈l,0<=k/\k<64){k:Int}(b:k∈l):(kT l n).getD k.toNat 0=n:=by
 have c:∀(l:aC) (g:aC),n4 g=64->(∀k∈l,0<=k/\k<64)->(k∈l∨g.getD k.toNat 0=n)->0<=k/\k<64->(l.foldl (λg k=>g.set k.toNat n) g).getD k.toNat 0=n:=by
  intro l
  induction l with
  |nil=>intro g _ _ h _;exact h.elim (λh=>t7) id
  |cons x l ih=>
   intro g f a h b;rw[zN];refine ih _ (by rw[qO];exact f) (λy e=>a y (qp _ e)) ?_ b;by_cases d:k=x
   .refine .inr ?_;subst d;rw[qg,qW,m6 n5,m6 n7];rfl
   .rcases h with h|h
    .exact .inl ((qN.1 h).resolve_left d)
    .refine .inr ?_;have:=a x qR;rw[qg,qW,nq n7,<-qg];exact h
 exact c l _ oo a (.inl b) (a k b)
def ij(m:aB):aB:={m with seq:=m.seq+1}
section
theorem HM(s:Sl)(l:aC)(n:Int)(h:m5)(j:Rd h s 1 ar l)(z:n4 l<=2^30)(d:∀k∈l,0<=k/\k<64):ak xR 74 #[s,xH xN n] h λv h'=>v=xM (di (kT l n)).toArray/\Sp h h' []:=by
 refine ts Tryz.func74 ?_ (HF (HF (I0 [(10,aI)] [(7,8),(10,18)])));have q:=j.len;refine(Sp.refl h).alloc ag n5 λp D t=>t.alloc ag n5 λu w m=>?_;refine aj (λi:Nat=>(i:Int)) (λi h'=>i<=n4 l/\Sp h h' [an p 113 (di (qh 64 0)),an u 113 (di (kT (l.take i) n))]) (λi=>n4 l-i) 0 n5 ⟨qX _,m⟩ ?_;rintro i h3 ⟨A,b⟩
 try dsimp only
 refine ae (λe=>?_) λe=>?_
 .have a:i<n4 l:=n7
  refine(Seq.up j b.ac).aV i n5 a l[i] n5 ?_;have f:=d _ (qe a);refine⟨⟨f.1,f.2⟩,?_⟩;rw[zG];refine b.storeAt ag 1 n5 n5 (off:=l[i].toNat) n5 n5 n5 (by rw[qm,pP];omega) λy r=>?_;refine⟨i+1,o0,⟨a,?_⟩,n7⟩;have o:di (kT (l.take (i+1)) n)=(di (kT (l.take i) n)).set l[i].toNat (xH xN n):=by rw[az _ _ a,VX];unfold di;rw[List.map_set]
  rw[o];exact r
 .have c:i=n4 l:=n7
  rw[c,qt]at b;refine⟨kT l n,⟨pP l n,(b.box 1 n5).aw _ (qt ..)⟩,?_⟩;refine b.storeAll ag 0 n5 n5 (di (kT l n)) n5 (by rw[qm,pP]) (by unfold di;rw[xF];exact qP.2 λx _=>rfl) (by rw[qm,qm,pP];rfl) λB g=>?_;exact⟨kT l n,⟨pP l n,(g.box 0 n5).aw _ (qt ..)⟩,n5,.zip g.ac⟩
variable {B:au} {h0 h:m5} {As:List HP} {a pw:hU} {offs:Int} {da:List bJ} {w:Pow} {ds:aF}
theorem Ep{c:aS}(H:aa B h0 h (aJ bC a pw c offs da w ds::As))(n:Nat)(f:n<64:=by omega):hY h ((a.add 10).add (n*1))=dB (.pointer (de da n)):=by obtain⟨ok,d⟩:=aa.cP H;obtain⟨x,b,e⟩:=MW ok d n f;rw[b];unfold de;rw[m6 n7,qi,e];rfl
theorem AF{m:aS}{k:Int}{d:bp}(e:bR ds k=dB d)(H:aa B h0 h (aJ bC a pw m offs da w ds::As)):∃(b:hU) (s sb:Sl) (rs:List Sl),de da k=dB b/\bV h b 174 (dz pw d s sb)/\fO (fV 1 aq) 1 bv h s rs d.l/\eZ d:=by
 obtain⟨ok,_⟩:=aa.cP H;rcases gf ok k with⟨h1,_⟩|⟨n,d',b,rfl,hn,h1,h2,h3,h4⟩
 .rw[h1]at e;cases e
 .rw[h2]at e;injection e with e
  subst e;obtain⟨o,c,i⟩:=Qw.aa.fq H h1;rw[h3]at c;injection c with c
  injection c with c
  subst c;obtain⟨g,s,sb,rs,f,j⟩:=aa.ZF i;exact⟨b,s,sb,rs,h4,f,j,g⟩
theorem Qv{d:aS}{k:Int}(c:bR ds k=eH)(H:aa B h0 h (aJ bC a pw d offs da w ds::As)):de da k=eH:=by
 obtain⟨ok,_⟩:=aa.cP H;rcases gf ok k with⟨_,h2⟩|⟨n,d',b,rfl,hn,h1,h2,h3,h4⟩
 .exact h2
 .rw[h2]at c;cases c
theorem pQ(x:bi)(H:aa B h0 h (aJ bC a pw (aD x) offs da w ds::As)):aZ h a 0 (aD x):=by obtain⟨ok,b⟩:=aa.cP H;exact b.aw (aD x) n5
theorem AG{a:aC}(c:n4 a=64){n:Nat}(e:n<64){b:hU}(d:bV h b 113 (di a)):hY h (b.add (n*1))=dB (xH xN (a.getD n 0)):=by rw[zG];refine d.cell ?_;unfold di;rw[qM,qd n7,qg,qd n7];rfl
theorem Pp(x:bi)(m:aB)(k N:Int)(j:0<=k/\k<64)(c:ct h x m)(i:bM m)(H:aa B h0 h (aJ bC a pw (aD x) offs da w ds::As)):
  ak xR 144 #[.pointer (de da k),cL x,xH xN N] h λv h'=>v=xL (nt m ds k N)/\Sp h h' []:=by
 cases hd:bR ds k with
 |none=>
  rw[Qv hd H];refine(Kz x N h).mono ?_;rintro _ h' ⟨rfl,R⟩;exact⟨by unfold nt;rw[hd],R⟩
 |some d=>
  obtain⟨b,s,sb,rs,g,e,h3,f⟩:=AF hd H;rw[g];refine(HK x N e h3 f c i).mono ?_;rintro _ h' ⟨rfl,R⟩;exact⟨by unfold nt;rw[hd],R⟩
theorem Ka(x:bi)(m:aB)(s:Sl)(l b:aC)(j:n4 b=64)(A:ct h x m)(G:bM m)(z:Rd h s 1 ar l)(J:n4 l<=2^30)(t:∀k∈l,0<=k/\k<64)(H:aa B h0 h (aJ bC a pw (aD x) offs da w ds::As)):
  ak xR 76 #[xJ (dB a),s,xM (di b).toArray] h λv h'=>v=xL (ik m ds l λk=>b.getD k.toNat 0)/\Sp h h' []:=by
 refine ts Tryz.func76 ?_ (HF (I0 [(11,aI)] [(6,7),(8,9),(11,31)])) (args:=[(dB a),s,(xM (b.map (Sc.enc (.int .i64))).toArray)]);have E:=z.len;refine(Sp.refl h).boxed λD L F=>?_;refine aj (λi:Nat=>(i:Int)) (λi h'=>i<=n4 l/\ik m ds (l.take i) (λk=>b.getD k.toNat 0)=eX/\Sp h h' [an D 113 (di b)]) (λi=>n4 l-i) 0 n5 ⟨qX _,n5,F⟩ ?_;rintro i I ⟨K,c,f⟩
 try dsimp only
 refine ae (λe=>?_) λe=>?_
 rotate_left
 .have p:i=n4 l:=n7
  rw[p,qt]at c;exact⟨by rw[c],.zip f.ac⟩
 have d:i<n4 l:=n7
 have g:=t _ (qe d);obtain⟨n,q⟩:∃n:Nat,l[i]=(n:Int):=⟨l[i].toNat,n7⟩
 refine(Seq.up z f.ac).aV i n5 d l[i] n5 ?_;have o:=H.up f.ac;rw[q]at g⊢;have r:ik m ds (l.take (i+1)) (λk=>b.getD k.toNat 0)=nt m ds n (b.getD n 0):=by unfold ik at c⊢;rw[az _ _ d,wq,c,yz,vu,z8,xm,q];rfl
 refine⟨a,n5,⟨g.1,g.2⟩,de da n,Ep o n,a,n5,x,pQ x o,⟨g.1,g.2⟩,b.getD n 0,AG j n7 (f.box 0 n5),?_⟩;refine(Pp x m n (b.getD n 0) g (A.up f.ac) G o).I3 λh3 y=>⟨_,n5,I6,aH (λu=>⟨?_,.zip (f.up y.ac).ac⟩) λu=>⟨i+1,o0,⟨d,by rw[r];exact u,f.up y.ac⟩,n7⟩⟩;congr 1;refine(z6.2 ⟨l[i],qe d,?_⟩).symm;rw[q]
 try dsimp only
 rw[qi,u];simp
theorem ND(x:bi)(m:aB)(k n:Int)(r:0<=k/\k<64)(i:St B h0 As λh=>ct h x m)(q:bM m)(H:aa B h0 h (aJ bC a pw (aD x) offs da w ds::As)):
  ak xR 145 #[.pointer (de da k),cL x,xH xN n] h λu h'=>u=xH xN (fC m w ds k n).1/\aa B h0 h' (aJ bC a pw (aD x) offs da (fC m w ds k n).2.1 (fC m w ds k n).2.2::As):=by
 obtain⟨ok,t⟩:=aa.cP H;obtain⟨j,rfl⟩:∃j:Nat,k=j:=⟨k.toNat,n7⟩
 rcases gf ok (j:Int)with⟨e1,e2⟩|⟨n',d,b,e0,e1,e2,e3,e4,e5⟩
 .rw[e2];have e:fC m w ds j n=(5,w,ds):=by unfold fC;rw[e1]
  refine(KA x _ h).I3 λh3 f=>?_;rw[e];exact⟨n5,H.up f.ac⟩
 .rw[e5];have p:j=n':=n7
  subst p;obtain⟨s,c,g⟩:=Qw.aa.fq H e2;rw[e4]at c;injection c with c
  injection c with c
  subst c;have e:fC m w ds j n=((eJ m w d n).1,(eJ m w d n).2.1,ds.set j (dB (eJ m w d n).2.2)):=by unfold fC;rw[e3];simp only[iD,qi]
  refine(Th x m n (λBs h' l=>i (Bs++[_]) h' (by rw[ql];exact l)) q g).I3 λh3 o=>?_;rw[e];exact⟨n5,Qw.aa.kN (k:=bC) (n:=j) e4 o⟩
theorem HN(x:bi)(m:aB)(s:Sl)(l b:aC)(o:n4 b=64)(r:St B h0 As λh=>ct h x m/\Rd h s 1 ar l)(L:bM m)(N:n4 l<=2^30)(u:∀k∈l,0<=k/\k<64)(H:aa B h0 h (aJ bC a pw (aD x) offs da w ds::As)):
  ak xR 77 #[xJ (dB a),s,xM (di b).toArray] h λv h'=>v=xH xN (makes m (λk=>b.getD k.toNat 0) l w ds).1/\
   aa B h0 h' (aJ bC a pw (aD x) offs da (makes m (λk=>b.getD k.toNat 0) l w ds).2.1 (makes m (λk=>b.getD k.toNat 0) l w ds).2.2::As):=by
 refine ts Tryz.func77 ?_ (HF (I0 [(12,aI)] [(6,7),(8,10),(12,34)])) (args:=[(dB a),s,(xM (b.map (Sc.enc (.int .i64))).toArray)]);have I:=(r.at [_] H).2.len;obtain⟨Z,A⟩:=I5 (makes m (λk=>b.getD k.toNat 0) l w ds)
 rw[<-A];refine H.boxed λF O z=>?_;have z:=z.bc;refine aj (λt:Nat×Pow×aF=>(t.1:Int)) (λt h'=>t.1<=n4 l/\Z=makes m (λk=>b.getD k.toNat 0) (l.drop t.1) t.2.1 t.2.2/\aa B h0 h' (an F 113 (di b)::aJ bC a pw (aD x) offs da t.2.1 t.2.2::As)) (λt=>n4 l-t.1) (0,w,ds) n5 ⟨qX _,A,z⟩ ?_;rintro⟨i,D,j⟩ M ⟨J,c,g⟩;dsimp only at J c g⊢;refine ae (λe=>?_) λe=>?_
 rotate_left
 .have q:i=n4 l:=n7
  rw[q,yS]at c;rw[c];exact⟨n5,g.aG 2 [1]⟩
 have d:i<n4 l:=n7
 rw[Ha _ _ _ _ _ _ d]at c;have f:=u _ (qe d);obtain⟨n,G⟩:∃n:Nat,l[i]=(n:Int):=⟨l[i].toNat,n7⟩
 refine(r.at [_,_] g).2.aV i n5 d l[i] n5 ?_;have p:=g.aG 2 [1,0];rw[G]at f c⊢;rw[qi]at c;refine⟨a,n5,⟨f.1,f.2⟩,de da n,Ep p n,a,n5,x,pQ x p,⟨f.1,f.2⟩,b.getD n 0,AG o n7 (g.box 0 n5),?_⟩;refine(ND x m n (b.getD n 0) f (St.cons λBs h' K=>(r Bs h' K).1) L p).I3 λh3 E=>⟨_,n5,I6,bt (λy=>?_) λy=>?_⟩
 .rw[nq y]at c;rw[c];exact⟨n5,E.aG 2 [0]⟩
 .rw[m6 y]at c;exact⟨(i+1,(fC m D j n (b.getD n 0)).2.1,(fC m D j n (b.getD n 0)).2.2),oj,⟨d,c,E.aG 2 [1,0]⟩,n9⟩
theorem sO(x:bi)(m:aB)(b:ByteArray)(u:ct h x m)(G:bM m)(H:aa B h0 h (aJ bC a pw (aD x) offs da w ds::As)):
  ak xR 114 #[xJ (dB a),xK b] h λv h'=>v=xH xN (if m.objs.any (dD b)=eX then((m.objs.findIdx (dD b):Nat):Int)else-1)/\Sp h h' []:=by
 refine ts Tryz.func114 ?_ (HF (I0 [(13,aI)] [(4,7),(13,24)]));obtain⟨ok,I⟩:=aa.cP H;have y:=G.ob;refine⟨a,n5,x.2.2.2.2.2.2.2,I.cell n5,?_⟩;obtain⟨l,t,N,E⟩:=bZ.kQ u.objs;have z:=t.len;refine aj (λi:Nat=>(i:Int)) (λi h'=>i<=n4 m.objs/\(∀e∈m.objs.take i,dD b e=eY)/\Sp h h' []) (λi=>n4 m.objs-i) 0 n5 ⟨qX _,λe f=>(by simp at f),Sp.refl h⟩ ?_;rintro i P ⟨M,d,r⟩
 try dsimp only
 refine ae (λe=>?_) λe=>?_
 rotate_left
 .have q:i=n4 m.objs:=n7
  rw[q,qt]at d;rw[nq (by rw[wg.2 λe f=>by rw[d e f];simp];decide)];exact⟨n5,r⟩
 have c:i<n4 m.objs:=n7
 have k:i<n4 l:=n7
 obtain⟨⟨F,J,Q⟩,R⟩:=E i k c;refine(Seq.up t r.ac).cG (g:=bg) i n5 k l[i] n5 ?_;refine r.alloc ag n5 λL K A=>?_;refine A.storeAll ag 0 n5 n5 (bg l[i]) n5 n5 n5 n5 λh3 p=>?_;refine⟨l[i].1,(p.box 0 n5).cell0 n5,?_⟩;rw[F];have s:(m.objs[i].name.toList==b.toList)=dD b m.objs[i]:=rfl
 try dsimp only
 rw[s];refine aT (λo=>?_) λo=>⟨i+1,o0,⟨c,λe f=>?_,.zip p.ac⟩,n7⟩
 .have D:m.objs.findIdx (dD b)=i:=by rw[List.findIdx_eq c];exact⟨o,λj O=>by rw[d _ (zV.2 ⟨j,n7,n5⟩)]⟩
  rw[m6 (zQ.2 ⟨_,qe c,o⟩),D];exact⟨n5,.zip p.ac⟩
 .rw[az _ _ c,qx,qB]at f;rcases f with f|rfl
  .exact d e f
  .exact o
theorem HO(x:bi)(m:aB)(j:ct h x m)(A:bM m)(o:-1<=m.seq/\m.seq<=2^40)(H:aa B h0 h (aJ bC a pw (aD x) offs da w ds::As)):
  ak xR 123 #[xJ (dB a)] h λv h'=>∃y:bi,v=cL y/\Sp h h' [bn y (ij m)]:=by
 refine ts Tryz.func123 ?_;refine(Sp.refl h).alloc ag n5 λl t g=>?_;refine⟨a,n5,x,pQ x (H.up g.ac),(AE x m t (j.up g.ac) A).I4 λy D r=>?_⟩;have k:=g.comp r;refine⟨y,n5,k.alloc ag n5 λa5 h3 u=>?_⟩;refine u.storeAll ag 2 n5 n5 (aD y) n5 n5 n5 n5 λn e=>?_;have f:y.1=m.seq:=(show ct n y m from e.at 1 n5).seq;refine⟨y.1,(e.box 2 n5).cell0 n5,?_⟩
 try dsimp only
 rw[f,af (m.seq+1)];refine e.iB ag 2 n5 n5 [xH xN (m.seq+1)] n5 n5 n5 oo λs d=>?_;obtain⟨z,c⟩:∃z:bi,z=(m.seq+1,y.2):=⟨_,rfl⟩
 have d:Sp h s [an l 27 [xH xN 0,xH xN 0,xH xN 0,xH xN 0,xH xN 0,xH xN 0,xI eH 0 0,xI eH 0 0],bn y m,an a5 27 (aD z)]:=by rw[c];exact d
 refine⟨z,(d.box 2 n5).aw _ n5,?_⟩;refine d.storeAll ag 0 n5 n5 (aD z) n5 n5 n5 n5 λE i=>?_;refine⟨z,(i.box 0 n5).aw _ n5,z,n5,?_⟩;refine(i.bu [1]).dW 0 n5 λq b=>?_;rw[c];exact⟨n5,b.next,b.p,b.extra,b.drives,b.objs,b.dcap,b.ocap⟩
theorem NE(x y:bi){K:m5->Prop}(H:aa B h0 h (aJ bC a pw (aD x) offs da w ds::As))(b:∀h',aa B h0 h' (aJ bC a pw (aD y) offs da w ds::As)->K h'):
  av xR (Instr.storeAt 27 (xJ (dB a)) (cL y)) h λ_ h'=>K h':=by
 obtain⟨ok,d⟩:=Qw.aa.jQ H;refine d.iB ag 0 n5 n5 (aD y) n5 n5 n5 (by simp[cZ]) λh' c=>b h' ?_;exact Qw.aa.mG ⟨n5,ok.la,ok.ls,ok.same⟩ c
end
theorem HQ{m:aB}{a:aF}{l:aC}{N b:Int->Int}(h:∀k∈l,N k=b k):ik m a l N=ik m a l b:=by
 unfold ik
 induction l with
 |nil=>rfl
 |cons k l ih=>rw[yz,yz,h k qR,ih λx c=>h x (qp _ c)]
theorem Ac{m:aB}{N a:Int->Int}:∀{l:aC} {w:Pow} {ds:aF},(∀k∈l,N k=a k)->makes m N l w ds=makes m a l w ds
 |[],_,_,_=>rfl
 |k::l,w,ds,h=>by
  unfold makes;rw[h k qR,Ac λx b=>h x (qp _ b)]
theorem Has.make{a:aF}{S:aC}(F:Has a S)(m:aB)(w:Pow)(k n:Int):Has (fC m w a k n).2.2 S:=by
 unfold fC;cases hd:bR a k with
 |none=>exact F
 |some d=>
  obtain⟨j,rfl,b⟩:=kB hd;exact F.set b
theorem Has.makes{m:aB}{N:Int->Int}{S:aC}:∀{l:aC} {w:Pow} {ds:aF},Has ds S->Has (makes m N l w ds).2.2 S
 |[],_,_,F=>F
 |k::l,w,ds,F=>by
  unfold Qw.makes;split
  .exact Has.makes (F.make m w k (N k))
  .exact F.make m w k (N k)
theorem Has.live{a:aF}{l:aC}(h:n4 a=64):Has a (aY a l):=⟨h,λ_ b=>(Qw.pJ b).2.imp λ_ h=>h.1⟩
section
variable {pw:hU}
theorem NG(x:bi)(m:aB)(z:bi)(n:aB)(X:St B h0 As λh=>ct h z n)(hz:bM m)(q:bM n)(a2:-1<=m.seq/\m.seq<=2^40)
  (H:aa B h0 h (aJ bC a pw (aD x) offs da w ds::bn x m::As)):
  ak xR 19 #[xJ (dB a),cL z] h λv h'=>v=xH xN (cM m offs w ds n).1/\
   ∃y,aa B h0 h' (aJ bC a pw (aD y) offs da (cM m offs w ds n).2.2.1 (cM m offs w ds n).2.2.2::bn y (cM m offs w ds n).2.1::As):=by
 refine ts Tryz.func19 ?_ (HF (HF (I1 [] [(4,5),(10,24)] (HF (HF (I1 [] [(4,5),(33,43)] (HF (HF (HF (I1 [] [(54,61)] G6)))))))))) (args:=[(dB a),z]);refine H.boxed λa1 h1 s=>?_;have s:=s.bc.aG 3 [1,2,0];refine(ig s).I2 ⟨_,n5,aT (λe=>?_) λe1=>?_⟩
 .have T:cM m offs w ds n=(14,m,w,ds):=by unfold cM;rw[m6 e]
  rw[T];exact⟨n5,x,s.aG 3 [0,1]⟩
 have D:ct _ z n:=X.at [_,_,_] s;have a0:ct _ x m:=s.at 1 n5;refine aE ?_;refine⟨z,(s.box 2 n5).aw _ n5,(Dq z n _ D q).I3 λh3 R3=>?_⟩;have F:=s.up R3.ac;have ap:=D.up R3.ac;have no:∀{h':m5},aa B h0 h' (aJ bC a pw (aD x) offs da w ds::bn x m::an a1 27 (aD z)::As)->(bE n=eY∨n.seq≠m.seq+1)->(Value.int .i64 1=xH xN (cM m offs w ds n).1/\∃y,aa B h0 h' (aJ bC a pw (aD y) offs da (cM m offs w ds n).2.2.1 (cM m offs w ds n).2.2.2::bn y (cM m offs w ds n).2.1::As)):=λ{h'} H' hc=>by
  have T:cM m offs w ds n=(1,m,w,ds):=by
   unfold cM;rw[nq pa,m6];rcases hc with hc|hc
   .rw[hc];rfl
   .rw[n1 hc,Bool.or_true]
  rw[T];exact⟨n5,x,H'.aG 3 [0,1]⟩
 refine⟨_,n5,I6,aH (λe=>no F (.inl e)) λe2=>?_⟩;have G:=F.box 2 n5;refine⟨z.1,G.cell0 n5,a,n5,x.1,(aa.cP F).2.cell0 n5,?_⟩
 try dsimp only
 rw[D.seq,a0.seq,af (m.seq+1)];refine bt (λe=>no F (.inr e)) λe3=>?_;refine⟨_,G.cell n5,?_⟩;have am:=gn e2;have U:∀k∈n.drives,0<=k/\k<64:=gx e2;refine(Hq z.2.2.2.2.2.2.1 n.drives ap.drives n7 U F).I4 λo h5 R5=>?_;obtain⟨live,c⟩:=I5 (aY ds n.drives)
 rw[<-c]at R5;have a6:n4 live<=64:=by rw[c];exact qV (qH _ _) am
 have f:∀k∈live,0<=k/\k<64:=λk V=>by rw[c]at V;exact U k (qK.1 V).1
 have Y:=(F.bQ R5).aG 4 [1,2,3,0];refine⟨o,n5,z,(Y.box 2 n5).aw _ n5,(ma z n h5 (X.at [_,_,_,_] Y) q).I4 λpg h6 R6=>?_⟩;have t:=(aa.lE R6).1;have P:=mX (m:=n);obtain⟨M,S⟩:=I5 (n4 (bG n))
 rw[<-S]at t P;have H6:=Y.up R6.ac;have tX:∀{h':m5} {Q:Pow} {l:aF} {ab:List HP},aa B h0 h' (aJ bC a pw (aD x) offs da Q l::bn x m::an a1 27 (aD z)::ai 3 o 1 ar live::ab)->Rd h' o 1 ar live:=λH=>H.seq 3 n5 λ_=>rfl;obtain⟨b,d⟩:=I5 (kT live M)
 have i:n4 b=64:=by rw[d];exact pP _ _
 refine⟨pg,n5,?_⟩
 try dsimp only
 rw[t];refine(HM o live (M:Int) h6 (tX H6) n7 f).I3 λh7 R7=>?_;rw[<-d];refine⟨b,n5,(H6.up R7.ac).alloc ag n5 λay h8 H8=>?_⟩;have H8:=H8.bc;refine H8.storeAll ag 0 n5 n5 (di b) n5 (by rw[qm,i]) (by unfold di;rw[xF];exact qP.2 λx _=>rfl) (by rw[qm,i];rfl) λh9 p=>?_;have p:=p.aG 5 [1,2,3,4,0];obtain⟨N,hN⟩:∃N:Int->Int,N=λ_=>(M:Int):=⟨_,rfl⟩
 have K:∀k∈live,(λk:Int=>b.getD k.toNat 0) k=N k:=λk V=>by rw[hN,d];exact Yp f V
 have fin:∀{h':m5} {Q:Pow} {l:aF},aa B h0 h' (aJ bC a pw (aD x) offs da Q l::bn x m::an a1 27 (aD z)::ai 3 o 1 ar live::an ay 113 (di b)::As)->aa B h0 h' (aJ bC a pw (aD x) offs da Q l::bn x m::As):=λ{h' Q l} H'=>H'.aG 5 [0,1];have T:cM m offs w ds n=(if live=[]∨ik m ds live N=eY then(7,m,w,ds)else
   if(makes m N live w ds).1≠0 then((makes m N live w ds).1,m,(makes m N live w ds).2)else
   ((layAll (bj n live) (makes m N live w ds).2.1 (makes m N live w ds).2.2).1,if(layAll (bj n live) (makes m N live w ds).2.1 (makes m N live w ds).2.2).1=0 then n else m,(layAll (bj n live) (makes m N live w ds).2.1 (makes m N live w ds).2.2).2)):=by
  rw[hN,S,c];unfold cM;rw[nq pa,nq (by rw[e2,n2 (by simpa using e3)];decide)]
 rw[T];have I:=(tX p).len;refine aE (be (λe=>?_) λe4=>?_)
 .have:live=[]:=List.length_eq_zero_iff.1 n7;rw[m6 (.inl this)];exact⟨n5,x,fin p⟩
 have ax:live≠[]:=λh=>e4 (by rw[I,h];rfl);refine⟨b,⟨i,(p.box 4 n5).aw _ (qt ..)⟩,(Ka x m o live b i (p.at 1 n5) hz (tX p) n7 f p).I3 λa7 ah=>?_⟩;have E:=p.up ah.ac;rw[HQ K];refine⟨_,n5,aH (λg=>?_) λg=>?_⟩
 .rw[m6 (.inr g)];exact⟨n5,x,fin E⟩
 rw[nq (by rintro(h|h);exact ax h;rw[g]at h;cases h)];refine⟨b,⟨i,(E.box 4 n5).aw _ (qt ..)⟩,(HN x m o live b i (St.and (St.dU 0 n5 λh' u=>u) (St.dU (A:=ai 3 o 1 ar live) 2 n5 λh' u=>u.1.seq (λ_=>rfl) u.2)) hz n7 f E).mono ?_⟩;rw[Ac K];rintro _ a5 ⟨rfl,r⟩;obtain⟨O,R⟩:=I5 (makes m N live w ds)
 rw[<-R]at r⊢;refine⟨_,n5,bt (λg2=>?_) λg2=>?_⟩
 .rw[m6 g2];exact⟨n5,x,fin r⟩
 rw[nq (by simpa using g2)];have J:Has O.2.2 live:=by rw[R,c];exact Has.makes (Has.live (aa.cP H).1.ls)
 refine⟨z,(r.box 2 n5).aw _ n5,(xZ z n o live (St.and (St.cons (St.cons (St.cons (St.cons X)))) (St.dU (A:=ai 3 o 1 ar live) 2 n5 λh' u=>u.1.seq (λ_=>rfl) u.2)) q n7 J r).I3 λal j=>?_⟩;obtain⟨L,hL⟩:=I5 (layAll (bj n live) O.2.1 O.2.2)
 rw[<-hL]at j⊢;refine⟨_,n5,?_⟩;by_cases W:L.1=0
 .rw[m6 W,W];refine aE (aT (λ_=>?_) λe=>o1);refine⟨z,(j.box 2 n5).aw _ n5,(AE z n al (X.at [_,_,_,_,_] j) q).I4 λy a4 Z=>?_⟩;have ad:=(j.bQ Z).aG 6 [1,0];refine⟨y,n5,a,n5,NE x y ad λa3 ao=>?_⟩;exact⟨n5,y,ao⟩
 .rw[nq W];refine aE (be (λe=>absurd e W) λ_=>?_);exact⟨n5,x,fin j⟩
theorem EX(x:bi)(m:aB){k:Int}{d:bp}(i:ct h x m)(q:bM m)(n:bR ds k=dB d)(H:aa B h0 h (aJ bC a pw (aD x) offs da w ds::As)):
  ak xR 85 #[.pointer (de da k),cL x] h λv h'=>∃(r:Sl) (T:List (bw×ck)),v=r/\T.map zh=gK m d.l/\Keyed T/\T.length<=512/\Sp h h' [bU r (T.map qA),fB T]:=by
 obtain⟨b,s,sb,rs,p,j,h3,c⟩:=AF n H;rw[p];refine(BV b pw d s sb rs x m h j h3 c i q).mono ?_;rintro _ h' ⟨r,T,rfl,g,o,R⟩;refine⟨r,T,n5,g,o,?_,R⟩;have:=iV m d.l;have f:=c.len;have e:=c.room;rw[<-g,qm]at this;omega
theorem BW(x:bi)(m:aB)(o b:Int)(hx:ct h x m)(hz:bM m)(a5:m.drives.length<=64)(ad:∀y∈m.drives,0<=y/\y<64)(H:aa B h0 h (aJ bC a pw (aD x) offs da w ds::As)):
  ak xR 127 #[xJ (dB a),xH xN o,xH xN b] h λv h'=>∃(r:Sl) (ys:List (Int×Sl)),v=r/\Sp h h' [ci dR 2 piv r ys (dp m ds (aY ds m.drives) o b)]:=by
 refine ts Tryz.func127 ?_ (HF (HF (G0 (HF (G7 (G9 [(7,bK),(15,aI)] [(7,8),(9,10),(11,12),(15,55)] (HF (HF (G0 (G7 (HF (HF (G7 (G9 [(7,bK),(31,aI)] [(7,8),(11,12),(31,54)] G6))))) G6)))))) G6))) [(5,(.l [0,1,2,3,4,5,6,7,8,9,12,10,11]))];refine(kF x m hx hz ad H).I4 λlv X R1=>?_;have a4:=hz.dr;have ap:(aY ds m.drives).length<=m.drives.length:=qH _ _;have M:∀k∈aY ds m.drives,0<=k/\k<64:=λk N=>ad k (qK.1 N).1;have ab:∀k∈aY ds m.drives,∃d,bR ds k=dB d:=λk N=>by obtain⟨d,h,_⟩:=IE N;exact⟨d,h⟩
 obtain⟨c,ah⟩:=I5 (aY ds m.drives)
 rw[<-ah]at R1 ap M ab⊢;have a1:=(R1.own 0 n5).len;refine⟨lv,n5,?_⟩;have H1:=((R1.Eh 1 aq).nil 124 2 piv).bu [2,0,1];refine aj (λt:Sl×Nat×List ((Int×Sl)×(Int×aR))×List (Sl×aR)=>(t.1,(t.2.1:Int))) (λt h'=>t.2.1<=c.length/\t.2.2.1.length<=t.2.1*512/\t.2.2.1.map zh=dp m ds (c.take t.2.1) o b/\(∀p∈t.2.2.1,Em t.2.2.2 p)/\Sp h h' [ai 124 t.1 2 piv (t.2.2.1.map qA),iz 1 aq t.2.2.2,ai 3 lv 1 ar c]) (λt=>c.length-t.2.1) (⟨eH,0,0⟩,0,[],[]) n5 ⟨oo,oo,by simp[dp],oo,H1⟩ ?_;rintro⟨u,i,L,P⟩ h2 ⟨hi,a0,F,W,Y⟩;dsimp only at*;refine ae (λe=>?_) λe=>?_
 rotate_left
 .rw[qf n7]at F;refine⟨u,L.map qA,n5,?_⟩;have H3:=((Y.freeze 0 n5 λ_=>rfl).bu [1,0]).kq;refine H3.dW 0 n5 λq ⟨q1,q2,_,bq,cq,z1,z2⟩=>?_;refine⟨z1.mono bq,by rw[<-F];simp,λj r e X h2=>?_⟩;rw[<-F]at h2;rw[qM]at X h2;cases hj:L[j]? with
  |none=>rw[hj]at X;cases X
  |some p=>
   rw[hj]at X h2;have e1:=wb.inj (show dB p.1=dB r from X);have e2:=wb.inj (show dB p.2=dB e from h2);subst e1;subst e2;obtain⟨k1,k2⟩:=W p (wh hj);exact⟨k1,(z2 _ k2).mono cq⟩
 have I:i<c.length:=n7
 have N:=M _ (qe I);obtain⟨d,V⟩:=ab c[i] (qe I);obtain⟨n,hn⟩:∃n:Nat,c[i]=(n:Int):=⟨c[i].toNat,n7⟩
 refine(Y.seq 2 n5 λ_=>rfl).aV i n5 I c[i] n5 ?_;have Hc:=H.up Y.ac;rw[hn]at N V⊢;refine⟨a,n5,⟨N.1,N.2⟩,de da n,Ep Hc n,a,n5,x,pQ x Hc,?_⟩;refine(EX x m (hx.up Y.ac) hz V Hc).mono ?_;rintro _ h4 ⟨r7,T,rfl,hT,hK,a3,R4⟩;obtain⟨f,s⟩:=I5 (gK m d.l)
 rw[<-s]at hT;have al:f.length=T.length:=by rw[<-hT,qm]
 have H4:=(Y.comp R4)
 have ay:=(H4.own 3 n5).len;rw[qm]at ay;refine⟨r7,n5,I6,?_⟩;have Z:jR m ds o b (n:Int)=gP o b f:=by unfold jR;rw[V];show rK m o b d.l=_;unfold rK gP;rw[s]
 have R:dp m ds (c.take (i+1)) o b=dp m ds (c.take i) o b++gP o b f:=by unfold dp;rw[az _ _ I,List.flatMap_append,zm,zW,qL,hn,Z]
 obtain⟨Q,hQ⟩:∃Q:List (Sl×aR),Q=T.map λz=>(z.1.2.2.2.2.2.2.2,z.2.data):=⟨_,rfl⟩
 refine aj (λt:Sl×Nat×List ((Int×Sl)×(Int×aR))=>(t.1,(t.2.1:Int))) (λt h'=>t.2.1<=T.length/\t.2.2.length<=L.length+t.2.1/\t.2.2.map zh=dp m ds (c.take i) o b++gP o b (f.take t.2.1)/\(∀p∈t.2.2,Em (P++Q) p)/\Sp h h' [ai 124 t.1 2 piv (t.2.2.map qA),iz 1 aq P,ai 3 lv 1 ar c,bU r7 (T.map qA),fB T]) (λt=>T.length-t.2.1) (u,0,L) n5 ⟨oo,oo,by simp[gP,F],λp K=>⟨(W p K).1,yG _ (W p K).2⟩,H4⟩ ?_;rintro⟨u2,j,L2⟩ h5 ⟨hj,a2,G,O,H5⟩;dsimp only at*;refine ae (λe2=>?_) λe2=>?_
 rotate_left
 .have U:j=T.length:=n7
  rw[U,<-al,qt,<-R]at G;have H6:=(H5.dW 4 n5 (D:=iz 1 aq Q) λq hq y hy=>by
   rw[hQ]at hy;obtain⟨z,am,rfl⟩:=qI.1 hy;exact(hq z am).2).bu [1,4,0,2]
  have H7:=aa.MT H6;exact⟨(u2,i+1,L2,P++Q),oj,⟨n9,n9,G,O,H7.bu [1,0,2]⟩,n9⟩
 have S:j<T.length:=n7
 have U:j<f.length:=n7
 have hy:eN cx h5 T[j].1 T[j].2:=H5.at 4 n5 T[j] (qe S);obtain⟨⟨g1,g2,g3,g4,g5,g6,g7⟩,g8⟩:=hy;have ax:f[j]=T[j].2:=by simp only[<-hT,zk]
 refine(H5.seq 3 n5 λ_=>rfl).cG (g:=bB) j n5 (by rw[qm];exact S) T[j].1 (by rw[zk]) ?_;refine H5.alloc ag n5 λa7 h6 H6=>?_;refine H6.storeAll ag 5 n5 n5 (bB T[j].1) n5 n5 n5 n5 λh7 H7=>?_;have E:=H7.box 5 n5;have J:gP o b (f.take (j+1))=gP o b (f.take j)++(if(decide (T[j].2.object=o)&&decide (T[j].2.block=b))=eX then[(T[j].2.id,T[j].2.data)]else[]):=by unfold gP;rw[az _ _ U,zg,qF,zx,wL,ax];split<;>rfl
 have skip:(decide (T[j].2.object=o)&&decide (T[j].2.block=b))=eY->∃A:Sl×Nat×List ((Int×Sl)×(Int×aR)),((⟨u2.ptr,u2.len,u2.cap⟩:Sl),qc xN ((j:Int)+1))=(A.1,(A.2.1:Int))/\(A.2.1<=T.length/\A.2.2.length<=L.length+A.2.1/\A.2.2.map zh=dp m ds (c.take i) o b++gP o b (f.take A.2.1)/\(∀p∈A.2.2,Em (P++Q) p)/\Sp h h7 [ai 124 A.1 2 piv (A.2.2.map qA),iz 1 aq P,ai 3 lv 1 ar c,bU r7 (T.map qA),fB T])/\T.length-A.2.1<T.length-j:=λhc=>
  ⟨(u2,j+1,L2),oj,⟨n9,n9,by dsimp only;rw[J,hc];simpa using G,O,H7.bu [0,1,2,3,4]⟩,n9⟩
 refine⟨T[j].2.object,by rw[<-g1];exact E.cell0 n5,be (λq1=>?_) λq1=>skip (by rw[n2 q1];rfl)⟩;refine⟨T[j].2.block,by rw[<-g2];exact E.cell n5,be (λq2=>?_) λq2=>skip (by rw[n2 q2,yT])⟩;refine⟨T[j].2.id,by rw[<-g3];exact E.cell n5,T[j].1.2.2.2.2.2.2.2,E.cell n5,?_⟩;refine H7.push ag 0 n5 ack n5 n8 (λ_=>rfl) sY (T[j].2.id,T[j].1.2.2.2.2.2.2.2) o5 n8 oi λu3 a6 ao=>?_;refine⟨(u3,j+1,L2++[((T[j].2.id,T[j].1.2.2.2.2.2.2.2),(T[j].2.id,T[j].2.data))]),oj,⟨n9,oi,?_,λp K=>?_,?_⟩,n9⟩
 .try dsimp only
  rw[qF,G,J,m6 (by rw[n1 q1,n1 q2];rfl),ql];rfl
 .rcases qx.1 K with K|K
  .exact O p K
  .rw[qB.1 K];refine⟨n5,ye _ ?_⟩;rw[hQ];exact qI.2 ⟨T[j],qe S,n5⟩
 .try dsimp only
  rw[qF];exact ao.bu [0,1,2,3,4]
theorem NH(x:bi)(m:aB)(s:Sl)(c:aC)(I:ct h x m)(O:bM m)(G:Rd h s 1 ar c)(R:n4 c<=2^30)(q:∀k∈c,0<=k/\k<64)(z:∀k∈c,∃d,bR ds k=dB d)(H:aa B h0 h (aJ bC a pw (aD x) offs da w ds::As)):
  ak xR 125 #[xJ (dB a),s] h λv h'=>v=xL (c.any (oT m ds))/\Sp h h' []:=by
 refine ts Tryz.func125 ?_ (HF (I0 [(9,aI)] [(4,5),(6,7),(9,25)]));have J:=G.len;refine aj (λi:Nat=>(i:Int)) (λi h'=>i<=n4 c/\(c.take i).any (oT m ds)=eY/\Sp h h' []) (λi=>n4 c-i) 0 n5 ⟨qX _,n5,Sp.refl h⟩ ?_;rintro i P ⟨S,j,p⟩
 try dsimp only
 refine ae (λe=>?_) λe=>?_
 rotate_left
 .have t:i=n4 c:=n7
  rw[t,qt]at j;exact⟨by rw[j],p⟩
 have f:i<n4 c:=n7
 have y:=q _ (qe f);obtain⟨d,o⟩:=z c[i] (qe f);obtain⟨n,u⟩:∃n:Nat,c[i]=(n:Int):=⟨c[i].toNat,n7⟩
 have A:(c.take (i+1)).any (oT m ds)=oT m ds n:=by rw[az _ _ f,yb,j,vA,vT,yn,y9,u]
 have E:oT m ds n=jh m d.l:=by unfold oT;rw[<-u,o]
 refine(Seq.up G p.ac).aV i n5 f c[i] n5 ?_;have r:=H.up p.ac;have g:=qe f;rw[u]at y o g⊢;refine⟨a,n5,⟨y.1,y.2⟩,de da n,Ep r n,a,n5,x,pQ x r,?_⟩;obtain⟨b,Q,sb,rs,N,K,L,M⟩:=AF o r;rw[N];refine(Po x K L M (I.up p.ac) O).I3 λh3 F=>⟨_,n5,I6,aT (λD=>⟨?_,.zip (p.up F.ac).ac⟩) λD=>⟨i+1,o0,⟨f,by rw[A,E];exact D,p.up F.ac⟩,n7⟩⟩;rw[zQ.2 ⟨(n:Int),g,by rw[E];exact D⟩]
theorem Pq(x:bi)(m:aB)(o b:Int)(hx:ct h x m)(W:bM m)(M:∀y∈m.drives,0<=y/\y<64)(H:aa B h0 h (aJ bC a pw (aD x) offs da w ds::As)):
  ak xR 23 #[xJ (dB a),xH xN o,xH xN b] h λv h'=>∃r:Sl,v=r/\Sp h h' [gA 22 r 3 1 ar (fD m ds o b (aY ds m.drives))]:=by
 refine ts Tryz.func23 ?_ (HF (HF (G0 (HF (G7 (G9 [(7,bK),(16,aI)] [(7,8),(9,11),(12,13),(16,57)] (HF (HF (G0 (G7 (HF (HF (I0 [(10,bK),(32,aI)] [(10,11),(12,13),(32,52)])))) G6)))))) G6))) [(6,(.l [0,1,2,3,4,5,6,7,8,9,12,10,11]))];refine(kF x m hx W M H).I4 λN h1 R1=>?_;have ao:=W.dr;have Z:(aY ds m.drives).length<=m.drives.length:=qH _ _;have p:∀k∈aY ds m.drives,0<=k/\k<64:=λk s=>M k (qK.1 s).1;have L:∀k∈aY ds m.drives,∃d,bR ds k=dB d:=λk s=>by obtain⟨d,h,_⟩:=IE s;exact⟨d,h⟩
 obtain⟨live,A⟩:=I5 (aY ds m.drives)
 rw[<-A]at R1 Z p L⊢;have al:=(R1.own 0 n5).len;refine⟨N,n5,?_⟩;have ah:(fD m ds o b live).length=live.length:=by simp[fD]
 have H1:=R1.jm 22 3 1 ar;refine aj (λt:Sl×Nat=>(t.1,(t.2:Int))) (λt h'=>t.2<=live.length/\Sp h h' [gA 22 t.1 3 1 ar ((fD m ds o b live).take t.2),ai 3 N 1 ar live]) (λt=>live.length-t.2) (⟨eH,0,0⟩,0) n5 ⟨oo,H1⟩ ?_;rintro⟨u,i⟩ h2 ⟨hi,G⟩;dsimp only at*;refine ae (λe=>?_) λe=>?_
 rotate_left
 .rw[qf n7]at G;exact⟨u,n5,G.bu [0]⟩
 have E:i<live.length:=n7
 have s:=p _ (qe E);obtain⟨d,F⟩:=L live[i] (qe E);obtain⟨n,hn⟩:∃n:Nat,live[i]=(n:Int):=⟨live[i].toNat,n7⟩
 have ew:(fD m ds o b live)[i]'n7=(gP o b (gK m d.l)).map qA:=by simp only[fD,zk];unfold dp;rw[zm,zW,qL];unfold jR;rw[F];rfl
 refine(G.seq 1 n5 λ_=>rfl).aV i n5 E live[i] n5 ?_;have X:=H.up G.ac;rw[hn]at s F⊢;refine⟨a,n5,⟨s.1,s.2⟩,de da n,Ep X n,a,n5,x,pQ x X,?_⟩;refine(EX x m (hx.up G.ac) W F X).mono ?_;rintro _ h4 ⟨U,T,rfl,Y,hK,am,R4⟩;obtain⟨c,z⟩:=I5 (gK m d.l)
 rw[<-z]at Y ew;have R:c.length=T.length:=by rw[<-Y,qm]
 have H4:=((G.comp R4).nil 3 1 ar).bc;have ad:=(H4.own 3 n5).len;rw[qm]at ad;refine⟨U,n5,I6,?_⟩;refine aj (λt:Sl×Nat=>(t.1,(t.2:Int))) (λt h'=>t.2<=T.length/\Sp h h' [ai 3 t.1 1 ar ((gP o b (c.take t.2)).map qA),gA 22 u 3 1 ar ((fD m ds o b live).take i),ai 3 N 1 ar live,bU U (T.map qA),fB T]) (λt=>T.length-t.2) (⟨eH,0,0⟩,0) n5 ⟨oo,H4⟩ ?_;rintro⟨O,j⟩ h5 ⟨hj,J⟩;dsimp only at*;have Q:∀j,(gP o b (c.take j)).length<=j:=λj=>by
  unfold gP;rw[qm];have:=qH (λr:ck=>decide (r.object=o)&&decide (r.block=b)) (c.take j);rw[qw]at this;omega
 refine ae (λe2=>?_) λe2=>?_
 rotate_left
 .have D:j=T.length:=n7
  rw[D,<-R,qt]at J;refine(J.aG 2 [1,0]).mh ag Vn oi λu3 ap P=>?_;refine⟨(u3,i+1),oj,⟨n9,?_⟩,n9⟩
  try dsimp only
  rw[az _ _ (show i<(fD m ds o b live).length by omega),ew];exact P.bu [0,1]
 have K:j<T.length:=n7
 have D:j<c.length:=n7
 have hy:eN cx h5 T[j].1 T[j].2:=J.at 4 n5 T[j] (qe K);obtain⟨⟨g1,g2,g3,g4,g5,g6,g7⟩,g8⟩:=hy;have ab:c[j]=T[j].2:=by simp only[<-Y,zk]
 refine(J.seq 3 n5 λ_=>rfl).cG (g:=bB) j n5 (by rw[qm];exact K) T[j].1 (by rw[zk]) ?_;refine J.alloc ag n5 λax h6 H6=>?_;refine H6.storeAll ag 5 n5 n5 (bB T[j].1) n5 n5 n5 n5 λh7 H7=>?_;have q:=H7.box 5 n5;have f:gP o b (c.take (j+1))=gP o b (c.take j)++(if(decide (T[j].2.object=o)&&decide (T[j].2.block=b))=eX then[(T[j].2.id,T[j].2.data)]else[]):=by unfold gP;rw[az _ _ D,zg,qF,zx,wL,ab];split<;>rfl
 have skip:(decide (T[j].2.object=o)&&decide (T[j].2.block=b))=eY->∃I:Sl×Nat,((⟨O.ptr,O.len,O.cap⟩:Sl),qc xN ((j:Int)+1))=(I.1,(I.2:Int))/\(I.2<=T.length/\Sp h h7 [ai 3 I.1 1 ar ((gP o b (c.take I.2)).map qA),gA 22 u 3 1 ar ((fD m ds o b live).take i),ai 3 N 1 ar live,bU U (T.map qA),fB T])/\T.length-I.2<T.length-j:=λhc=>
  ⟨(O,j+1),oj,⟨n9,by dsimp only;rw[f,hc];simpa using H7.bu [0,1,2,3,4]⟩,n9⟩
 refine⟨T[j].2.object,by rw[<-g1];exact q.cell0 n5,be (λV=>?_) λV=>skip (by rw[n2 V];rfl)⟩;refine⟨T[j].2.block,by rw[<-g2];exact q.cell n5,be (λS=>?_) λS=>skip (by rw[n2 S,yT])⟩;refine⟨T[j].2.id,by rw[<-g3];exact q.cell n5,?_⟩;have:=Q j;refine H7.push ag 0 n5 fu n5 n8 (λ_=>rfl) db T[j].2.id n5 n8 oi λu3 h9 H9=>?_;refine⟨(u3,j+1),oj,⟨n9,?_⟩,n9⟩
 try dsimp only
 rw[f,m6 (by rw[n1 V,n1 S];rfl),qF];exact H9.bu [0,1,2,3,4]
theorem Ti(x:bi)(m:aB)(K:bE m=eX)(H:aa B h0 h (aJ bC a pw (aD x) offs da w ds::bn x m::As)):
  ak xR 52 #[xJ (dB a)] h λv h'=>∃r:Sl,v=r/\Sp h h' [ai 9 r 1 oW (lX m offs w)]:=by
 refine ts Tryz.func52 ?_ (HF (HF (I0 [(3,bK),(12,aI)] [(3,4),(5,6),(12,25)])));have M:=(aa.cP H).2;have s:ct h x m:=H.at 1 n5;have u:=((cJ m).1 K).2.2.2.1;obtain⟨z,F⟩:=bZ.fix s.objs;have J:=F.2.1;have D:=F.1.len;obtain⟨N,j⟩:∃N:Nat->List ByteArray,N=λi=>if gN w offs then[]else(m.objs.map Qw.cT.name).take i:=⟨_,rfl⟩
 refine⟨a,n5,x.2.2.2.2.2.2.2,M.cell n5,?_⟩;refine aj (λt:Sl×Nat=>(t.1,(t.2:Int))) (λt h'=>t.2<=n4 m.objs/\Sp h h' [ai 9 t.1 1 oW (N t.2)]) (λt=>n4 m.objs-t.2) (⟨eH,0,0⟩,0) n5 ⟨oo,by rw[j];simpa using(Sp.refl h).nil 9 1 oW⟩ ?_;rintro⟨o,i⟩ O ⟨A,k⟩;dsimp only at A k⊢;refine ae (λe=>?_) λe=>?_
 rotate_left
 .refine⟨o,n5,?_⟩;have:N i=lX m offs w:=by rw[j];unfold lX;(try dsimp only);rw[qf B6]
  rw[<-this];exact k
 have f:i<n4 m.objs:=n7
 have b:=Fix.row F f;obtain⟨E,q⟩:=I5 (m.objs[i])
 obtain⟨xe,d⟩:=I5 (z[i]'n7)
 rw[<-q,<-d]at b;have p:xe.1=E.name:=b.1.1;refine(Seq.up F.1 k.ac).cG (g:=bg) i n5 n7 xe E1 ?_;refine k.alloc ag n5 λQ h3 L=>?_;refine L.storeAll ag 1 n5 n5 (bg xe) n5 n5 n5 n5 λP l=>?_;refine(ig (H.up l.ac)).I2 ⟨_,n5,aH (λc=>?_) λc=>?_⟩
 .refine⟨xe.1,(l.box 1 n5).cell0 n5,?_⟩;have y:n4 (N i)<=i:=by rw[j];(try dsimp only);rw[nq (by rw[c];decide),qw];omega
  refine l.push ag 0 n5 Yl n5 n8 (λ_=>rfl) Qs xe.1 n5 n8 n7 λG S I=>?_;refine⟨(G,i+1),oj,⟨n9,?_⟩,n9⟩
  try dsimp only
  have:N (i+1)=N i++[xe.1]:=by
   rw[j];try dsimp only
   rw[nq (by rw[c];decide),nq (by rw[c];decide),az _ _ (show i<n4 (m.objs.map Qw.cT.name) by simpa using f),zk,<-q,<-p]
  rw[this];exact I.bu [0]
 .refine⟨(o,i+1),oj,⟨n9,?_⟩,n9⟩
  try dsimp only
  have:N (i+1)=N i:=by rw[j];(try dsimp only);rw[m6 c,m6 c]
  rw[this];exact l.bu [0]
end
variable {t t2 e k:Nat} {z:aS} {by_:Nat} {α:Type} {v:Sl} {f:α->aS}
section
variable {C:Ctx} {p q:au}
theorem Pr(c:C.Ok)(j:bS C.toAg t e k z by_)(o:∃i f,C.T.get t2=dB i/\i.cm=.slice f)(b:s.len<=s.cap)(g:v.len=0){ty:Nat}{K:Sl->m5->Prop}(p:K s h):
  bF C.P (q6 #[t,t2] ty #[s,v]) (.one (.sc .slc)) h K:=by
 obtain⟨A,f,r,y⟩:=o;obtain⟨l,n,u⟩:=s;dsimp only at b⊢;have d:C.P.underlying t2=dB (.slice f):=by have:=c.cm r;rw[y]at this;exact il this
 unfold bF q6;simp only[List.getElem?_toArray,List.getElem?_cons_zero,List.getElem?_cons_succ];refine av.bind (av.always (aK (j.under c)) ?_);refine av.bind (av.always (j.size c) ?_);refine av.bind (av.always (aK d) ?_);refine av.bind (av.pure' ?_);simp only[Bool.false_eq_true,if_false,Bool.not_false,if_true];refine av.bind (av.pure' ?_);rw[m6 n7];have w:Seq h (λ_=>True) v k (λ_:Nat=>qh k (xL eY)) []:=⟨by rw[g];rfl,λi x m=>by simp at m⟩
 refine av.bind (eT (λ_=>oo) w ?_);have fin:av C.P (pure (xI l (n+v.len) u):Sem Value) h λq h'=>∃a:Sl,q=(Value.slice a.ptr a.len a.cap)/\K a h':=av.pure' ⟨_,by rw[g];rfl,p⟩;cases l with
 |none=>exact fin
 |some a=>exact av.bind (av.pure' fin)
end
def pR(x:bi)(m:aB)(d:List dH):HP:=⟨λh q=>kS h q x m/\Fix gH 4 bg h q x.2.2.2.2.2.2.2 d m.objs,λa c=>⟨a.1.ac c,a.2.ac c⟩,λa b=>⟨a.1.mono b,a.2.mono b⟩⟩
def Tj(T:List (dH×Qw.cT)):HP:=⟨λh q=>∀t∈T,gH.p h q t.1 t.2,λa d t b=>gH.loc (a t b) d,λa c t b=>gH.mono (a t b) c⟩
variable {x:bi}
theorem aa.VY(H:aa B h0 h (bn x m::As)):∃b,aa B h0 h (pR x m b::As):=by
 have c:aa B h0 h (HP.ex (λb=>pR x m b)::As):=H.dW 0 n5 λq a=>by
  obtain⟨b,F⟩:=bZ.fix a.objs;exact⟨b,a,F⟩
 obtain⟨b,d⟩:=c.KQ 0 rfl;exact⟨b,d⟩
theorem aa.VZ{k L:List dH}{T:List (dH×Qw.cT)}{r:Sl}{x2:bi}{m2:aB}(g:x2.1=m2.seq/\x2.2.1=m2.next/\(x2.2.2.1,x2.2.2.2.1,x2.2.2.2.2.1)=m2.p/\x2.2.2.2.2.2.1=m2.extra)(w:x2.2.2.2.2.2.2.1=x.2.2.2.2.2.2.1)(s:m2.drives=m.drives)(z:x2.2.2.2.2.2.2.2=r)
  (N:n4 L=n4 m2.objs) (P:∀p∈L.zip m2.objs,p∈k.zip m.objs∨p∈T) (H:aa B h0 h (pR x m k::ai 83 r 4 bg L::Tj T::As)):aa B h0 h (bn x2 m2::As):=by
 have n:=H.own 1 n5;have J:=((H.freeze 1 n5 λ_=>rfl).kq).kq;refine J.dW 0 n5 λq ⟨S,Q,_,b,c,z3,R,U,_,G,D,E,M,F⟩=>?_;refine⟨g.1,g.2.1,g.2.2.1,g.2.2.2,by rw[w,s];exact M.drives.mono λu a=>c u (D u a),⟨L,by rw[z];exact E.mono λu a=>c u (G u a),N,λj y e A v=>?_⟩,by rw[w];exact M.dcap,by rw[z];exact n.cap⟩;have K:=(qn.1 A).1;have O:=(qn.1 v).1;have f:(y,e)∈L.zip m2.objs:=wh (i:=j) (by rw[List.getElem?_zip_eq_some];exact⟨A,v⟩);rcases P _ f with f|f
 .obtain⟨o,d,l⟩:=qE f;rw[yk]at l;have I:k[o]'(by simp at d;omega)=y:=congrArg qA l;have t:m.objs[o]'(by simp at d;omega)=e:=congrArg zh l;have:=F.2.2 o y e (by rw[<-I];exact qd _) (by rw[<-t];exact qd _);exact gH.mono this λu a=>c u (D u a)
 .exact gH.mono (z3 _ f) λu a=>b u a
section
variable {pw:hU}
theorem acG{m:aB}(b:bM m)(n:Nat):bM (oV m n):=by
 have sub:∀e,e∈m.objs.take n++m.objs.drop (n+1)->e∈m.objs:=λe a=>by
  rcases qx.1 a with a|a
  .exact zK a
  .exact yM a
 refine⟨b.dr,?_,λe a=>b.nm e (sub e a)⟩;have:=b.ob;show(m.objs.take n++m.objs.drop (n+1)).length<=_;simp;omega
theorem NI(c:ByteArray)(x:bi)(m:aB)(hm:bE m=eX)(H:aa B h0 h (aJ bC a pw (aD x) offs da w ds::bn x m::As)):
  ak xR 50 #[xJ (dB a),xK c] h λv h'=>v=xH xN (cE m offs w ds c).1/\
   ∃y,aa B h0 h' (aJ bC a pw (aD y) offs da (cE m offs w ds c).2.2.1 (cE m offs w ds c).2.2.2::bn y (cE m offs w ds c).2.1::As):=by
 refine ts Tryz.func50 ?_ (HF (HF (HF (HF (HF (HF (I1 [] [(22,34)] G6))))))) [(9,(.l [0,1,2,3,5,6,7,8,9,4,10,11,12]))];have hz:=jH hm;obtain⟨g1,g2,g3,g4⟩:=(iT m).1 ((cJ m).1 hm).1;have ap:=((cJ m).1 hm).2.2.2.1;refine(ig H).mono ?_;rintro _ N ⟨rfl,rfl⟩;refine⟨_,n5,aT (λe=>?_) λT=>?_⟩
 .have P:cE m offs w ds c=(14,m,w,ds):=by unfold cE;rw[m6 e]
  rw[P];exact⟨n5,x,H⟩
 refine(sO x m c (H.at 1 n5) hz H).I3 λQ R2=>?_;have S:=H.up R2.ac;refine⟨_,n5,?_⟩;by_cases f:m.objs.any (dD c)=eX
 rotate_left
 .rw[nq f];refine ae (λ_=>?_) λe=>absurd n8 e;have P:cE m offs w ds c=(5,m,w,ds):=by unfold cE;rw[nq (by rw[T];decide),m6 B4]
  rw[P];exact⟨n5,x,S⟩
 rw[m6 f];obtain⟨n,hn⟩:=I5 (m.objs.findIdx (dD c))
 have ax:n<n4 m.objs:=by rw[hn];exact wy (by obtain⟨e,N,Q⟩:=zQ.1 f;exact⟨e,N,Q⟩)
 rw[<-hn];have ah:=(aa.cP S).2;have U:ct Q x m:=S.at 1 n5;refine ae (λe=>absurd e (xh.2 (ze n))) λ_=>⟨a,n5,x.1,ah.cell0 n5,?_⟩
 rw[U.seq];refine be (λe4=>?_) λe4=>?_
 .have P:cE m offs w ds c=(7,m,w,ds):=by unfold cE;rw[nq (by rw[T];decide),nq (by rw[f];decide),m6 n7]
  rw[P];exact⟨n5,x,S⟩
 have P:cE m offs w ds c=cM m offs w ds (oV m n):=by unfold cE;rw[nq (by rw[T];decide),nq (by rw[f];decide),nq n7,hn]
 rw[P];refine(HO x m U hz n7 S).I4 λy h3 R3=>?_;have H3:=S.bQ R3;refine⟨y,n5,H3.alloc ag n5 λa3 h4 H4=>?_⟩;have H4:=H4.bc;refine H4.storeAll ag 0 n5 n5 (aD y) n5 n5 n5 n5 λX H5=>?_;obtain⟨j,K⟩:=aa.VY (H5.aG 2 [1,0]);have E:=(K.at 0 rfl:kS X _ y (ij m)/\Fix gH 4 bg X _ y.2.2.2.2.2.2.2 j (ij m).objs)
 obtain⟨G,E⟩:=E;have I:n4 j=n4 m.objs:=E.2.1;have O:=E.1.len;have V:=G.ocap;refine bs (λ_ h'=>∃g:bi,aa B h0 h' (an a3 27 (aD g)::bn g (oV m n)::aJ bC a pw (aD x) offs da w ds::bn x m::As)) ?_ ?_
 .obtain⟨o,Z⟩:=I5 y.2.2.2.2.2.2.2
  have ay:=K.box 1 n5;have z:∀{h':m5} {Bs:List HP},aa B h0 h' (pR y (ij m) j::an a3 27 (aD y)::Bs)->hY h' (a3.add 7)=dB (xI o.ptr o.len o.cap):=λH=>by rw[Z];exact(H.box 1 n5).cell n5
  rw[<-Z]at O V;refine⟨o,z K,o,z K,?_⟩;rw[af ((n:Int)+1)];refine⟨⟨n7,n7⟩,?_⟩;refine gX ag mF n n5 n5 n7 ⟨⟨z K,I6⟩,?_⟩;have T:((n:Int)+1).toNat=n+1:=n7
  rw[T];have u:y.1=(oV m n).seq/\y.2.1=(oV m n).next/\(y.2.2.1,y.2.2.2.1,y.2.2.2.2.1)=(oV m n).p/\y.2.2.2.2.2.1=(oV m n).extra:=⟨G.seq,G.next,G.p,G.extra⟩
  have J:Seq X (λb=>b<X.size) o 4 bg j:=by rw[Z];exact E.1
  by_cases ao:n+1=n4 m.objs
  .refine Pr (s:=⟨o.ptr,n,n⟩) (v:=⟨if o.cap=n+1 then o.ptr else o.ptr.map (·.add ((n+1)*4)),o.len-(n+1),o.cap-(n+1)⟩) ag mF ⟨_,_,n5,n5⟩ (qj _) (by dsimp only;rw[O,I];omega) ?_;refine⟨⟨z K,I6⟩,K.store ag 1 n5 n5 7 [xI o.ptr n n] n5 n5 n5 pb λh8 H8=>⟨I6,?_⟩⟩;obtain⟨g,d⟩:∃g:bi,g=(y.1,y.2.1,y.2.2.1,y.2.2.2.1,y.2.2.2.2.1,y.2.2.2.2.2.1,y.2.2.2.2.2.2.1,⟨o.ptr,n,n⟩):=⟨_,rfl⟩
   refine⟨g,?_⟩;have R:aa B h0 h8 (pR y (ij m) j::an a3 27 (aD g)::aJ bC a pw (aD x) offs da w ds::bn x m::As):=by rw[d];exact H8
   have k:=R.dW 0 n5 (D:=bn g (oV m n)) λq ⟨M,F⟩=>by
    have eo:(oV m n).objs=m.objs.take n:=by show m.objs.take n++m.objs.drop (n+1)=_;rw[List.drop_eq_nil_of_le n7,qL]
    refine⟨by rw[d];exact u.1,by rw[d];exact u.2.1,by rw[d];exact u.2.2.1,by rw[d];exact u.2.2.2,by rw[d];exact M.drives,?_,by rw[d];exact M.dcap,by rw[d];exact qj _⟩;rw[eo];have q1:=F.1.take n n7;rw[<-Z]at q1;refine⟨j.take n,by rw[d];exact⟨q1.len,q1.elem⟩,by rw[qw,qw,I],λi r l N Q=>?_⟩;rw[List.getElem?_take]at N Q;split at N
    .rename_i ad;rw[m6 ad]at Q;exact F.2.2 i r l N Q
    .cases N
   exact k.aG 2 [1,0]
  .have hd:=J.drop (n+1) V;have Y:=J.take n n7;have a0:=hd.len;have W:¬n+(o.len-(n+1))<=n:=by rw[O,I];omega
   refine K.Ef (s:=⟨o.ptr,n,n⟩) ag mF ⟨_,_,n5,n5⟩ n5 n8 (λ_=>rfl) ⟨Y.len,Y.elem⟩ (qj _) W hd oi λr h7 H7=>⟨⟨z H7,I6⟩,?_⟩
   refine H7.store ag 1 n5 n5 7 [r] n5 n5 n5 pb λh8 H8=>⟨I6,?_⟩
   obtain⟨g,d⟩:∃g:bi,g=(y.1,y.2.1,y.2.2.1,y.2.2.2.1,y.2.2.2.2.1,y.2.2.2.2.2.1,y.2.2.2.2.2.2.1,r):=⟨_,rfl⟩
   refine⟨g,?_⟩;have R:aa B h0 h8 ((pR y (ij m) j::an a3 27 (aD g)::aJ bC a pw (aD x) offs da w ds::bn x m::As)++[ai 83 r 4 bg (j.take n++j.drop (n+1))]):=by rw[d];exact H8
   have k:=R.front;have ab:=(k.comp (.one (A:=Tj []) (aQ.refl _ _) λt Y=>(by cases Y))).bc;have al:=ab.aG 6 [2,1,0,3,4,5];have am:=aa.VZ (x:=y) (m:=ij m) (x2:=g) (m2:=oV m n) (by rw[d];exact u) E1 n5 E1 (by
    show(j.take n++j.drop (n+1)).length=n4 (m.objs.take n++m.objs.drop (n+1));simp[I]) (λp L=>.inl ?_) al
   .exact am.aG 2 [1,0]
   .have L:p∈(j.take n++j.drop (n+1)).zip (m.objs.take n++m.objs.drop (n+1)):=L;rw[List.zip_append (by simp[I])]at L;show p∈j.zip m.objs;rw[<-qz n (j.zip m.objs)];rcases qx.1 L with L|L
    .refine yG _ ?_;rw[List.zip,List.take_zipWith];exact L
    .refine ye _ ?_;have:p∈(j.zip m.objs).drop (n+1):=by rw[List.zip,List.drop_zipWith];exact L
     rw[<-List.drop_drop]at this;exact yM this
 rintro _ h9 ⟨g,R⟩;refine⟨g,(R.box 0 n5).aw _ n5,?_⟩;refine(NG x m g (oV m n) (As:=bn g (oV m n)::As) (St.dU 0 n5 λ_ hq=>hq) hz (acG hz n) n7 (R.aG 4 [2,3,1])).I3 λa1 ⟨y3,k⟩=>⟨_,n5,n5,y3,k.aG 3 [0,1]⟩
end
def jX(m:aB)(b:Int)(w:Pow)(a:ByteArray):aC:=
 if gN w b=eX then[]else match m.objs.find? (dD a)with
 |none=>[]
 |some e=>e.tries
section
variable {pw:hU}
theorem Tk(x:bi)(f:ByteArray)(hm:bE m=eX)(J:∀k d,bR ds k=dB d->d.l.length<=512)(H:aa B h0 h (aJ bN a pw (aD x) offs da w ds::bn x m::As)):
  ak xR 32 #[xJ (dB a),xK f] h λv h'=>∃t:Sl,v=.tuple #[xM #[xH xN (gD m offs w ds f).1.1,xH xN (gD m offs w ds f).1.2.1,xH xN (gD m offs w ds f).1.2.2,t],xH xN (gD m offs w ds f).2]/\Sp h h' [ai 3 t 1 ar (jX m offs w f)]:=by
 refine ts Tryz.func32 ?_ (HF (HF (HF (HF (HF (I1 [(8,(.sc .adr))] [(8,9),(30,39)] (G0 (HF (G7 (G9 [(42,aI)] [(10,11),(12,13),(42,73)] (HF (HF (G0 (G7 (HF (HF (G7 (G9 [(58,aI)] [(12,13),(58,72)] G6))))) G6)))))) G6))))))) [(7,(.y [0,1,2,3,4,5,6] (.l [7,8,9,10]) (.l [9,7,8,10]))),(11,(.l [0,1,2,3,4,5,6,7,8,9,12,10,11]))];have hz:=jH hm;have b3:=gn hm;have b4:(aY ds m.drives).length<=64:=qV (qH _ _) b3;refine(Sp.refl h).alloc ag n5 λa1 h1 R1=>?_;have K:=H.up R1.ac;refine(og K).I2 ⟨_,n5,aT (λe=>?_) λe1=>?_⟩
 .refine R1.storeAll ag 0 n5 n5 (me (0,0,0) ⟨eH,0,0⟩) n5 n5 n5 n5 λh3 R3=>?_;refine⟨(0,0,0,⟨eH,0,0⟩),(R3.box 0 n5).aw _ n5,⟨eH,0,0⟩,by unfold gD;rw[m6 e],?_⟩;rw[show jX m offs w f=[]by unfold jX;rw[m6 e]];exact(Sp.zip R3.ac).nil 3 1 ar
 refine(find_spec x m f (K.at 1 n5) hz K).mono ?_;rintro _ h4 ⟨⟨i,rfl,hi⟩,R4⟩;have u:=R1.up R4.ac;have H4:=K.up R4.ac;refine⟨i,n5,?_⟩;rcases Eo hi with⟨hneg,hf⟩|⟨n,hn,rfl,hf⟩
 .refine ae (λ_=>?_) λe=>absurd hneg e;refine u.storeAll ag 0 n5 n5 (me (0,0,0) ⟨eH,0,0⟩) n5 n5 n5 n5 λh3 R3=>?_;refine⟨(0,0,0,⟨eH,0,0⟩),(R3.box 0 n5).aw _ n5,⟨eH,0,0⟩,by unfold gD;rw[nq pa,hf],?_⟩;rw[show jX m offs w f=[]by unfold jX;rw[nq pa,hf]];exact(Sp.zip R3.ac).nil 3 1 ar
 refine ae (λe=>absurd e (xh.2 (ze n))) λ_=>?_;obtain⟨E,hE⟩:=I5 (m.objs[n])
 have cf:E∈m.objs:=C5
 have ep:gD m offs w ds f=((E.length,(E.tries.length:Int),(nO m ds (aY ds m.drives) E.object:Int)),0):=by unfold gD;rw[nq pa,hf,hE]
 have et:jX m offs w f=E.tries:=by unfold jX;rw[nq pa,hf,hE]
 rw[ep,et];have b9:=(iI m E).1 (((cJ m).1 hm).2.2.2.2.1 E cf);have dy:E.tries.length<=8:=by have:=lN b9.2.2.1.2;omega
 have bk:=(aa.cw H4).2;have b6:ct h4 x m:=H4.at 1 n5;obtain⟨ys,F⟩:=bZ.fix b6.objs;have dr:=F.2.1;have p:=Fix.row F hn;obtain⟨xe,ao⟩:=I5 (ys[n]'n7)
 rw[<-hE,<-ao]at p;refine⟨a,n5,x.2.2.2.2.2.2.2,bk.cell n5,F.1.cG (g:=bg) n n5 n7 xe (by rw[ao]) ?_⟩;refine(Sp.refl h4).alloc ag n5 λO h6 Q6=>?_;refine Q6.storeAll ag 0 n5 n5 (bg xe) n5 n5 n5 n5 λh7 Q7=>?_;obtain⟨X,R7⟩:∃X,Sp h h7 [an a1 70 X,an O 83 (bg xe)]/\X.length=4:=⟨_,u.comp Q7,rfl⟩
 obtain⟨R7,z4⟩:=R7;have W:Rd h4 xe.2.2.2 1 ar E.tries:=p.2;have Q:=W.len;have eo:xe.2.1=E.object:=p.1.2.1;have el:xe.2.2.1=E.length:=p.1.2.2;have ad:=Q7.ac;refine bs (λ(s:hU) h'=>∃t:Sl,Sp h h' [an a1 70 X,an O 83 (bg xe),an s 70 (me (E.length,(E.tries.length:Int),0) t),ai 3 t 1 ar E.tries]) ?_ ?_
 .have I:=R7.box 1 n5;refine⟨xe.2.2.1,I.cell n5,xe.2.2.2,I.cell n5,xe.2.2.2,I.cell n5,?_,?_⟩
  .refine(jF xe.2.2.2 E.tries h7 (W.up ad) n7).I4 λt h8 R8=>?_;have cn:=R7.comp R8;refine⟨t,n5,gF R8.ac ⟨I.cell n5,I.cell n5,I6⟩,cn.alloc ag n5 λc9 h9 R9=>?_⟩;have a4:=R9.box 1 n5;refine⟨⟨a4.cell n5,a4.cell n5,I6⟩,R9.storeAll ag 3 n5 n5 (me (E.length,(E.tries.length:Int),0) t) (by rw[el,Q];rfl) n5 n5 n5 λb7 R=>⟨I6,t,R.bu [0,1,3,2]⟩⟩
  .refine(Sp.refl h7).alloc ag n5 λdk ca Y=>?_;have ab:=R7.comp Y;have o:=ab.box 1 n5;refine⟨⟨o.cell n5,o.cell n5,o.cell n5,I6⟩,?_⟩;refine(jF xe.2.2.2 E.tries ca ((W.up ad).up Y.ac) n7).I4 λt c7 am=>?_;have a5:=ab.comp am;refine⟨t,n5,gF am.ac ⟨o.cell n5,o.cell n5,I6⟩,a5.storeAll ag 2 n5 n5 (me (E.length,(E.tries.length:Int),0) t) (by rw[el,Q];rfl) n5 n5 n5 λb7 R=>⟨I6,t,R⟩⟩
 rintro al c4 ⟨t,u⟩;have Z:=H.up u.ac;refine(eW x m (Z.at 1 n5) hz Z).I4 λlv cs D=>?_;obtain⟨live,A⟩:=I5 (aY ds m.drives)
 have bd:∀k∈live,k∈m.drives/\∃d,bR ds k=dB d/\d.lost=eY:=λk hk=>pJ (by rw[<-A];exact hk);rw[<-A]at D b4⊢;have D:=u.comp D;have c6:=(D.own 4 n5).len;refine⟨lv,n5,?_⟩;refine aj (λi:Nat=>(i:Int)) (λi h'=>i<=live.length/\Sp h h' [an a1 70 X,an O 83 (bg xe),an al 70 (me (E.length,(E.tries.length:Int),(nO m ds (live.take i) E.object:Int)) t),ai 3 t 1 ar E.tries,ai 3 lv 1 ar live]) (λi=>live.length-i) 0 n5 ⟨n7,D⟩ ?_;rintro i ay ⟨hi,q⟩
 try dsimp only
 refine ae (λe=>?_) λe=>?_
 .have V:i<live.length:=n7
  refine(q.seq 4 n5 λ_=>rfl).aV i n5 V live[i] n5 ?_;have S:=H.up q.ac;obtain⟨b0,d,hd,_⟩:=bd live[i] (qe V);have cp:=gx hm _ b0;obtain⟨ok,hb⟩:=aa.cw S;obtain⟨k,hk⟩:∃k:Nat,live[i]=k:=⟨live[i].toNat,n7⟩
  have ap:k<da.length:=C1
  have U:=VT m ds E.object live i V;rw[hk]at hd U⊢;have cd:hY ay ((a.add 10).add ((k:Int).toNat*1))=dB (.pointer da[k]):=by rw[qi,zG];refine hb.mi 10 k ?_;rw[mH ok.l8,qd ap];rfl
  have a6:de da (k:Int)=da[k]:=by unfold de;rw[m6 n7,qi,qd ap];rfl
  obtain⟨b,sd,bl,bq,b2,b1,cc⟩:=Ds hd S;refine⟨a,n5,⟨n7,n7⟩,da[k],cd,a,n5,x,hb.aw _ n5,?_⟩;rw[<-a6,bq];refine(ue b pw d sd bl x m ay b2 b1 cc (S.at 1 n5) hz).mono ?_;rintro _ c1 ⟨r7,yr,rfl,a2⟩;have a7:=qV (iV m d.l) (J _ d hd);have ax:Dz m ds E.object k=(gK m d.l).countP (λr=>decide (r.object=E.object)):=by unfold Dz;rw[hd]
  obtain⟨c,T⟩:=I5 (gK m d.l)
  rw[<-T]at a2 a7 ax;have G:=q.comp a2;have F4:=G.dg 5 n5;have d2:=F4.2.1;have d1:=F4.1.len;refine⟨r7,n5,I6,?_⟩;have ah:=Qq m ds E.object J (live.take i);rw[qw,Nat.min_eq_left hi]at ah;obtain⟨P,a8⟩:=I5 (nO m ds (live.take i) E.object)
  rw[<-a8]at G ah U;have cr:i*512<=64*512:=Nat.mul_le_mul_right _ n7;refine aj (λj:Nat=>(j:Int)) (λj h'=>j<=c.length/\Sp h h' [an a1 70 X,an O 83 (bg xe),an al 70 (me (E.length,(E.tries.length:Int),((P+(c.take j).countP (λr=>decide (r.object=E.object)):Nat):Int)) t),ai 3 t 1 ar E.tries,ai 3 lv 1 ar live,ci cx 8 bB r7 yr c]) (λj=>c.length-j) 0 n5 ⟨n7,G⟩ ?_;rintro j d0 ⟨hj,N⟩
  try dsimp only
  refine ae (λe2=>?_) λe2=>?_
  .have a0:j<c.length:=n7
   have F5:=N.dg 5 n5;obtain⟨⟨g1,_⟩,_⟩:=Fix.row F5 a0;have b5:j<yr.length:=n7
   refine F5.1.cG (g:=bB) j n5 b5 yr[j] n5 ?_;refine N.alloc ag n5 λc8 dx br=>?_;refine br.storeAll ag 6 n5 n5 (bB yr[j]) n5 n5 n5 n5 λdd z=>?_;have cq:(c.take j).countP (λr=>decide (r.object=E.object))<=512:=qV List.countP_le_length t6;have M:(c.take (j+1)).countP (λr=>decide (r.object=E.object))=(c.take j).countP (λr=>decide (r.object=E.object))+(if c[j].object=E.object then 1 else 0):=by rw[List.take_succ_eq_append_getElem a0,List.countP_append,List.countP_singleton];simp
   refine⟨yr[j].1,(z.box 6 n5).cell0 n5,xe.2.1,(z.box 1 n5).cell n5,be (λe3=>?_) λe3=>?_⟩
   .have e4:c[j].object=E.object:=by rw[<-g1,e3,eo]
    rw[m6 e4]at M;refine⟨((P+(c.take j).countP (λr=>decide (r.object=E.object)):Nat):Int),(z.box 2 n5).cell n5,z.storeAt ag 2 n5 n5 (off:=2) n5 n5 n5 oo λc2 a3=>?_⟩;have ew:qc xN (((P+(c.take j).countP (λr=>decide (r.object=E.object)):Nat):Int)+1)=((P+(c.take j).countP (λr=>decide (r.object=E.object)):Nat):Int)+1:=af _;refine⟨j+1,o0,⟨n7,?_⟩,n7⟩;rw[M];rw[ew]at a3;have L:=a3.bu [0,1,2,3,4,5];have e5:((P+((c.take j).countP (λr=>decide (r.object=E.object))+1):Nat):Int)=((P+(c.take j).countP (λr=>decide (r.object=E.object)):Nat):Int)+1:=n7
    rw[e5];exact L
   .have e4:¬c[j].object=E.object:=λh=>e3 (by rw[g1,h,eo]);rw[nq e4,ym]at M;exact⟨j+1,o0,⟨n7,by rw[M];exact z.bu [0,1,2,3,4,5]⟩,n7⟩
  have a9:j=c.length:=n7
  subst a9;rw[qt,<-ax,<-U]at N;exact⟨i+1,o0,⟨n7,N.bu [0,1,2,3,4]⟩,n7⟩
 have bb:i=live.length:=n7
 subst bb;rw[qt]at q;refine⟨(E.length,(E.tries.length:Int),(nO m ds live E.object:Int),t),(q.box 2 n5).aw _ n5,?_⟩;refine q.storeAll ag 0 n5 n5 (me (E.length,(E.tries.length:Int),(nO m ds live E.object:Int)) t) n5 n5 n5 (by rw[z4];rfl) λdu L=>?_;exact⟨(E.length,(E.tries.length:Int),(nO m ds live E.object:Int),t),(L.box 0 n5).aw _ n5,t,n5,L.bu [3]⟩
end
theorem Wa(P:cT->Bool)(l:List cT):Mw P l (if l.any P=eX then((l.findIdx P:Nat):Int)else-1):=by
 by_cases h:l.any P=eX
 .rw[m6 h];have d:l.findIdx P<n4 l:=wy (by obtain⟨e,a,f⟩:=zQ.1 h;exact⟨e,a,f⟩);refine .inr ⟨_,d,n5,List.findIdx_getElem,wg.2 λe c=>?_⟩;obtain⟨j,b,rfl⟩:=zV.1 c;rw[List.not_of_lt_findIdx (qS b (Nat.min_le_left _ _))];decide
 .rw[nq h];exact .inl ⟨n5,sR⟩
theorem Kb{α:Type}{p q r:α->Bool}:∀(l:List α),(∀x∈l,r x=(p x||q x))->(∀x∈l,(p x&&q x)=eY)->l.countP r=l.countP p+l.countP q
 |[],_,_=>rfl
 |x::l,h1,h2=>by
  have d:=Kb l (λy c=>h1 y (qp _ c)) λy c=>h2 y (qp _ c);have a:=h1 x qR;have b:=h2 x qR;rw[vq,vq,vq,d,a];cases hp:p x<;>cases hq:q x
  .simp
  .simp;omega
  .simp;omega
  .rw[hp,hq]at b;cases b
theorem aay(o b:Int)(l:List ck):(gP o b l).length=l.countP λr=>decide (r.object=o)&&decide (r.block=b):=by unfold gP;rw[qm,List.countP_eq_length_filter]
theorem NJ(o:Int)(l:List ck):∀T:Nat,(∀r∈l,r.object=o->0<=r.block/\r.block<(T:Int))->l.countP (λr=>decide (r.object=o))=((qy T).map λi:Nat=>(gP o (i:Int) l).length).sum:=by
 have d:∀T:Nat,(∀r∈l,r.object=o->0<=r.block)->l.countP (λr=>decide (r.object=o)&&decide (r.block<(T:Int)))=((qy T).map λi:Nat=>(gP o (i:Int) l).length).sum:=by
  intro T h0
  induction T with
  |zero=>
   rw[List.range_zero,y5,List.sum_nil,List.countP_eq_zero];intro r a;rw[qC,decide_eq_true_eq,decide_eq_true_eq];rintro⟨b,e⟩;have:=h0 r a b;omega
  |succ T ih=>
   rw[zC,qF,List.sum_append,<-ih,wu,y5,xn,List.sum_nil,ym,aay];refine Kb l (λr _=>?_) λr _=>?_
   .rw[<-Bool.and_or_distrib_left,<-Bool.decide_or];congr 1;rw[decide_eq_decide];omega
   .by_cases b:r.object=o
    .rw[n1 b,z8,z8,<-Bool.decide_and,n2 n7]
    .rw[n2 b];rfl
 intro T h;rw[<-d T λr a c=>(h r a c).1];refine List.countP_congr λr a=>?_;rw[qC,decide_eq_true_eq,decide_eq_true_eq];exact⟨λc=>⟨c,(h r a c).2⟩,λh=>h.1⟩
theorem FW{α:Type}:∀L:List α,(L.map λ_=>0).sum=0
 |[]=>rfl
 |_::L=>by rw[wu,xn,FW L]
theorem Qx:∀{l:List cT},l.Pairwise (λa b=>a.object≠b.object)->∀{x y:cT},x∈l->y∈l->x≠y->x.object≠y.object
 |[],_,x,_,hx,_,_=>by cases hx
 |z::l,h,x,y,hx,hy,hne=>by
  rw[zt]at h;rcases qN.1 hx with rfl|hx'
  .rcases qN.1 hy with rfl|hy'
   .exact absurd n5 hne
   .exact h.1 _ hy'
  .rcases qN.1 hy with rfl|hy'
   .exactλe=>h.1 _ hx' e.symm
   .exact Qx h.2 hx' hy' hne
theorem NK{m:aB}(c:bE m=eX){E:cT}(g:E∈m.objs){r:ck}(h:dF m r=eX)(e:r.object=E.object):0<=r.block/\r.block<(E.tries.length:Int):=by
 have f:=((jM r).1 (Hs h))
 unfold dF at h;rw[qC,qC,zQ]at h;obtain⟨_,_,x,b,h⟩:=h;rw[qC,qC,decide_eq_true_eq,decide_eq_true_eq,decide_eq_true_eq]at h;have d:=((cJ m).1 c).2.2.2.2.2.2;have:x=E:=by
  by_cases a:x=E
  .exact a
  .exact absurd (h.1.trans e) (Qx d b g a)
 rw[<-this];exact⟨f.2.1.1,h.2.1⟩
theorem Yq{m:aB}(c:bE m=eX)(a:aF){E:cT}(e:E∈m.objs)(live:aC):nO m a live E.object=((qy E.tries.length).map λi:Nat=>(dp m a live E.object (i:Int)).length).sum:=by
 unfold nO dp
 induction live with
 |nil=>simp only[y5,zW,List.length_nil];exact(FW _).symm
 |cons k live ih=>
  rw[wu,xn,ih];have:Dz m a E.object k=((qy E.tries.length).map λi:Nat=>(jR m a E.object (i:Int) k).length).sum:=by
   unfold Dz jR;cases hd:bR a k with
   |none=>exact(FW _).symm
   |some d=>
    refine NJ _ _ _ λr f g=>?_;obtain⟨_,_,_,b⟩:=Bw f;exact NK c e b g
  rw[this];generalize qy E.tries.length=L
  induction L with
  |nil=>rfl
  |cons i L ihL=>simp only[wu,xn,zm,qo]at ihL⊢;omega
section
variable {pw:hU}
theorem NL{e:aS}(H:aa B h0 h (aJ bC a pw e offs da w ds::As)):∀k d,bR ds k=dB d->n4 d.l<=512:=λk d f=>by
 obtain⟨_,_,_,_,_,_,_,ok⟩:=AF f H;have c:=ok.len;have b:=ok.room;omega
theorem rQ(m:aB){c:aF}(o b:Int)(e:∀k d,bR c k=dB d->n4 d.l<=512):∀a:aC,n4 (dp m c a o b)<=n4 a*512
 |[]=>by simp[dp]
 |k::l=>by
  have f:=rQ m o b e l;have:n4 (jR m c o b k)<=512:=by
   unfold jR;cases hd:bR c k with
   |none=>exact qX _
   |some d=>exact qV (sK _ _ _ _) (e k d hd)
  unfold dp at f⊢;rw[zm,qo,q7,zU];omega
theorem Tl(x:bi)(m:aB)(b:ByteArray)(Q:bE m=eX)(H:aa B h0 h (aJ bC a pw (aD x) offs da w ds::bn x m::As)):
  ak xR 53 #[xJ (dB a),xK b] h λv h'=>∃t:Sl,v=.tuple #[xM #[xH xN (gD m offs w ds b).1.1,xH xN (gD m offs w ds b).1.2.1,xH xN (gD m offs w ds b).1.2.2,t],xH xN (gD m offs w ds b).2]/\Sp h h' [ai 3 t 1 ar (jX m offs w b)]:=by
 refine ts Tryz.func53 ?_ (HF (HF (HF (HF (HF (I1 [(8,(.sc .adr))] [(8,9),(27,36)] (I0 [(39,aI)] [(9,10),(39,53)]))))))) [(7,(.y [0,1,2,3,4,5,6] (.l [7,8,9,10]) (.l [9,7,8,10])))];have hz:=jH Q;have Y:=gn Q;have a6:∀y∈m.drives,0<=y/\y<64:=gx Q;have bk:(aY ds m.drives).length<=64:=qV (qH _ _) Y;refine(Sp.refl h).alloc ag n5 λa1 h1 R1=>?_;have q:=H.up R1.ac;refine(ig q).mono ?_;rintro _ h2 ⟨rfl,rfl⟩;refine⟨_,n5,aT (λe=>?_) λe1=>?_⟩
 .refine R1.storeAll ag 0 n5 n5 (me (0,0,0) ⟨eH,0,0⟩) n5 n5 n5 n5 λh3 W=>?_;refine⟨(0,0,0,⟨eH,0,0⟩),(W.box 0 n5).aw _ n5,⟨eH,0,0⟩,by unfold gD;rw[m6 e],?_⟩;rw[show jX m offs w b=[]by unfold jX;rw[m6 e]];exact(Sp.zip W.ac).nil 3 1 ar
 refine(sO x m b (q.at 1 n5) hz q).I3 λh4 R4=>?_;have c:=R1.up R4.ac;have H4:=q.up R4.ac;have hi:=Wa (dD b) m.objs;generalize (if m.objs.any (dD b)=eX then((m.objs.findIdx (dD b):Nat):Int)else-1)=i at hi;refine⟨i,n5,?_⟩;rcases Eo hi with⟨hneg,hf⟩|⟨n,hn,rfl,hf⟩
 .refine ae (λ_=>?_) λe=>absurd hneg e;refine c.storeAll ag 0 n5 n5 (me (0,0,0) ⟨eH,0,0⟩) n5 n5 n5 n5 λh3 W=>?_;refine⟨(0,0,0,⟨eH,0,0⟩),(W.box 0 n5).aw _ n5,⟨eH,0,0⟩,by unfold gD;rw[nq pa,hf],?_⟩;rw[show jX m offs w b=[]by unfold jX;rw[nq pa,hf]];exact(Sp.zip W.ac).nil 3 1 ar
 refine ae (λe=>absurd e (xh.2 (ze n))) λ_=>?_;obtain⟨E,hE⟩:=I5 (m.objs[n])
 have am:E∈m.objs:=C5
 obtain⟨S,hS⟩:∃S:Nat->Nat,S=λj=>((qy j).map λi:Nat=>(dp m ds (aY ds m.drives) E.object (i:Int)).length).sum:=⟨_,rfl⟩
 have U:S 0=0:=by rw[hS];rfl
 have X:∀j,S (j+1)=S j+(dp m ds (aY ds m.drives) E.object (j:Int)).length:=λj=>by rw[hS];(try dsimp only);rw[zC,qF,List.sum_append];simp
 have p:∀j:Nat,(dp m ds (aY ds m.drives) E.object (j:Int)).length<=32768:=λj=>by
  have:=rQ m E.object (j:Int) (NL H4) (aY ds m.drives);omega
 have a0:∀j,S j<=j*32768:=λj=>by
  induction j with
  |zero=>rw[U];exact qX _
  |succ j ih=>rw[X,zU];have:=p j;omega
 have ep:gD m offs w ds b=((E.length,(E.tries.length:Int),(S E.tries.length:Int)),0):=by
  unfold gD;rw[nq pa,hf,hS,<-hE]
  try dsimp only
  rw[Yq Q ds am]
 have et:jX m offs w b=E.tries:=by unfold jX;rw[nq pa,hf,hE]
 rw[ep,et];have a4:=(iI m E).1 (((cJ m).1 Q).2.2.2.2.1 E am);have b0:E.tries.length<=8:=by have:=lN a4.2.2.1.2;omega
 have ax:=(aa.cP H4).2;have a2:ct h4 x m:=H4.at 1 n5;obtain⟨ys,F⟩:=bZ.fix a2.objs;have bq:=F.2.1;have d:=Fix.row F hn;obtain⟨xe,T⟩:=I5 (ys[n]'n7)
 rw[<-hE,<-T]at d;refine⟨a,n5,x.2.2.2.2.2.2.2,ax.cell n5,F.1.cG (g:=bg) n n5 n7 xe (by rw[T]) ?_⟩;refine(Sp.refl h4).alloc ag n5 λu h6 Q6=>?_;refine Q6.storeAll ag 0 n5 n5 (bg xe) n5 n5 n5 n5 λh7 Q7=>?_;obtain⟨J,V⟩:∃J,Sp h h7 [an a1 70 J,an u 83 (bg xe)]/\J.length=4:=⟨_,c.comp Q7,rfl⟩
 obtain⟨V,z4⟩:=V;have I:Rd h4 xe.2.2.2 1 ar E.tries:=d.2;have z:=I.len;have eo:xe.2.1=E.object:=d.1.2.1;have el:xe.2.2.1=E.length:=d.1.2.2;have N:=Q7.ac;refine bs (λ(s:hU) h'=>∃t:Sl,Sp h h' [an a1 70 J,an u 83 (bg xe),an s 70 (me (E.length,(E.tries.length:Int),0) t),ai 3 t 1 ar E.tries]) ?_ ?_
 .have G:=V.box 1 n5;refine⟨xe.2.2.1,G.cell n5,xe.2.2.2,G.cell n5,xe.2.2.2,G.cell n5,?_,?_⟩
  .refine(V.nil 3 1 ar).append ag 2 n5 fu ⟨_,_,n5,n5⟩ n5 n8 (λ_=>rfl) (I.up N) db oi λt h8 R8=>?_;have ab:=R8.box 1 n5;refine⟨⟨ab.cell n5,ab.cell n5,I6⟩,R8.alloc ag n5 λbd h9 R9=>?_⟩;have ah:=R9.box 1 n5;refine⟨⟨ah.cell n5,ah.cell n5,I6⟩,R9.storeAll ag 3 n5 n5 (me (E.length,(E.tries.length:Int),0) t) (by rw[el,z];rfl) n5 n5 n5 λa3 D=>⟨I6,t,D.bu [0,1,3,2]⟩⟩
  .refine(Sp.refl h7).alloc ag n5 λbl b1 L=>?_;have M:=V.comp L;have o:=M.box 1 n5;refine⟨⟨o.cell n5,o.cell n5,o.cell n5,I6⟩,?_⟩;refine(M.nil 3 1 ar).append ag 3 n5 fu ⟨_,_,n5,n5⟩ n5 n8 (λ_=>rfl) ((I.up N).up L.ac) db oi λt bb R=>?_;have A:=R.box 1 n5;refine⟨⟨A.cell n5,A.cell n5,I6⟩,R.storeAll ag 2 n5 n5 (me (E.length,(E.tries.length:Int),0) t) (by rw[el,z];rfl) n5 n5 n5 λa3 D=>⟨I6,t,D⟩⟩
 rintro P ay ⟨t,c⟩;refine⟨xe.2.2.2,(c.box 1 n5).cell n5,?_⟩;have c:Sp h ay [an a1 70 J,an u 83 (bg xe),an P 70 (me (E.length,(E.tries.length:Int),(S 0:Int)) t),ai 3 t 1 ar E.tries]:=by rw[U];exact c
 refine aj (λi:Nat=>(i:Int)) (λi h'=>i<=E.tries.length/\Sp h h' [an a1 70 J,an u 83 (bg xe),an P 70 (me (E.length,(E.tries.length:Int),(S i:Int)) t),ai 3 t 1 ar E.tries]) (λi=>E.tries.length-i) 0 n5 ⟨qX _,c⟩ ?_;rintro i a7 ⟨hi,f⟩
 try dsimp only
 refine ae (λe=>?_) λe=>?_
 .have a5:i<E.tries.length:=n7
  have K:=f.box 1 n5;refine⟨(S i:Int),(f.box 2 n5).cell n5,xe.2.1,K.cell n5,?_⟩;have Z:=H.up f.ac;rw[eo];refine(BW x m E.object (i:Int) (Z.at 1 n5) hz Y a6 Z).mono ?_;rintro _ a9 ⟨r,yr,rfl,k⟩;have ao:=(k.dg 0 n5).1.len;have al:=(k.dg 0 n5).2.1;have k:=f.up k.ac;have h1:=a0 i;have h2:=p i;refine⟨r,n5,⟨(k.box 2 n5).cell n5,I6⟩,?_⟩;refine k.storeAt ag 2 n5 n5 (off:=2) n5 n5 n5 oo λa8 ad=>⟨I6,?_⟩
  refine⟨i+1,o0,⟨a5,?_⟩,n7⟩;have ew:qc xN ((S i:Int)+(r.len:Int))=(S (i+1):Int):=by rw[X,af _,ao,al];omega
  rw[ew]at ad;exact ad
 .have ap:i=E.tries.length:=n7
  subst ap;refine⟨(E.length,(E.tries.length:Int),(S E.tries.length:Int),t),(f.box 2 n5).aw _ n5,?_⟩;refine f.storeAll ag 0 n5 n5 (me (E.length,(E.tries.length:Int),(S E.tries.length:Int)) t) n5 n5 n5 (by rw[z4];rfl) λbr O=>?_;exact⟨(E.length,(E.tries.length:Int),(S E.tries.length:Int),t),(O.box 0 n5).aw _ n5,t,n5,O.bu [3]⟩
end
theorem Yr{l:List cT}{x:cT}(h:l.Pairwise λa b=>cQ a.name b.name=eX)(t:∀e∈l,e.name≠x.name){k:Nat}(w:k<=n4 l)(u:∀e∈l.take k,cQ e.name x.name=eX)(v:∀w:k<n4 l,cQ l[k].name x.name=eY):
  (l++[x]).mergeSort mP=l.take k++x::l.drop k:=by
 have c:((l++[x]).mergeSort mP).Perm (l++[x]):=wc _ _;have o:(l++[x]).Pairwise (λa b:cT=>a.name≠b.name):=zA.2 ⟨h.imp λh=>JP h,List.pairwise_singleton _ _,λa n b m=>by rw[qB.1 m];exact t a n⟩;have g:=(c.pairwise_iff (R:=λa b:cT=>a.name≠b.name) λ{a b} h=>Ne.symm h).2 o;have r:((l++[x]).mergeSort mP).Pairwise (λa b=>mP a b=eX):=(tC Vr (l++[x])).1;have y:=(r.and g).imp λh=>Dr h.1 h.2;have p:(l.take k++x::l.drop k).Perm (l++[x]):=by refine List.perm_middle.trans ?_;rw[qz];exact(List.perm_append_singleton x l).symm
 have d:∀e∈l.drop k,cQ x.name e.name=eX:=λe B=>by
  obtain⟨j,D,rfl⟩:=qE B;rw[qJ]at D;have f:k<n4 l:=n7
  have q:iS x.name l[k].name=eX:=by unfold iS;rw[v f];rfl
  have i:=Dr q λe=>t _ (qe f) e.symm;rw[zM];cases j with
  |zero=>exact i
  |succ j=>exact oG _ _ _ i (zb.1 h k (k+(j+1)) f n7 n7)
 have s:(l.take k++x::l.drop k).Pairwise λa b=>cQ a.name b.name=eX:=by
  refine zA.2 ⟨h.sublist (vN _ _),zt.2 ⟨d,h.sublist (List.drop_sublist _ _)⟩,λa n b m=>?_⟩;rcases qN.1 m with rfl|m
  .exact u a n
  .exact oG _ _ _ (u a n) (d b m)
 exact(c.trans p.symm).eq_of_pairwise (le:=λa b:cT=>cQ a.name b.name=eX) (λa b _ _ A z=>by have:=oG _ _ _ A z;rw[ET]at this;cases this) y s
theorem NM(p:Pm)(s:Sl)(b:aR)(h:m5)(u:bH p=eX)(x:Rd h s 1 aq b)(z:s.len<=s.cap)(Q:n4 b<=2^30):ak xR 115 #[go p,s] h λv h'=>∃r:Sl,v=r/\Sp h h' [ce r (splitB p b)]:=by
 refine ts Tryz.func115 ?_ (HF (HF (HF (HF (I0 [(5,bK),(7,aI)] [(5,6),(7,9),(17,38)]))))) (args:=[p,s]);have a:=x.len;obtain⟨U,V,I⟩:=gZ u;obtain⟨P,S,c3⟩:=kg u b.length;refine(Sp.refl h).boxed λw K y=>?_;refine⟨p,(y.box 0 n5).aw _ n5,(dS p K).I3 λN H=>?_⟩;have g:=y.up H.ac;refine⟨_,n5,aH (λe=>by rw[u]at e;cases e) λ_=>?_⟩;refine⟨p.1,(g.box 0 n5).cell0 n5,p.2.2,(g.box 0 n5).cell n5,?_⟩;obtain⟨n,B⟩:∃n:Nat,n=(countP p b.length).toNat:=⟨_,rfl⟩
 have c:(countP p (s.len:Nat))=(n:Int):=by rw[a];omega
 have k:n4 (splitB p b)=n:=by unfold splitB;rw[<-B];simp
 have m:qc xN (p.1*p.2.2)=(cN p:Int):=by rw[<-I,af _]
 rw[m];have f:=g.jm 41 5 1 aq;refine aj (λt:Sl×Nat=>(t.1,(t.2:Int))) (λt h'=>t.2<=n/\Sp h h' [ce t.1 ((splitB p b).take t.2),an w 24 [xH xN p.1,xH xN p.2.1,xH xN p.2.2]]) (λt=>n-t.2) (⟨eH,0,0⟩,0) n5 ⟨oo,f⟩ ?_;rintro⟨o,i⟩ h3 ⟨R,f⟩;dsimp only at*;refine⟨p,(f.box 1 n5).aw _ n5,(rh p (s.len:Nat) h3).I3 λO F=>?_⟩;have j:=f.up F.ac;refine⟨_,n5,?_⟩;rw[c];refine ae (λe=>?_) (λe=>?_)
 .have E:i<n:=n7
  have D:=c3 i (by rw[<-a,c];omega);refine j.DV ag aq cK n8 (0:UInt8) n5 n5 (cN p) (cN p) n5 n5 (qj _) n7 λv W T X d=>?_;have d:=d.bc;have em:qc xN ((i:Int)*(cN p:Int))=((i*cN p:Nat):Int):=by rw[<-zR,af _]
  rw[em,qi];refine⟨⟨n7,n7⟩,?_⟩;have G:=(Seq.up x d.ac).drop (i*cN p) z;refine d.Cr ag 0 n5 cK (λ_=>rfl) (v:=⟨_,s.len-i*cN p,s.cap-i*cN p⟩) G cB λ_ M q=>?_;have q:Sp h M [ai 5 v 1 aq (sH (cN p) b i),ce o ((splitB p b).take i),an w 24 [xH xN p.1,xH xN p.2.1,xH xN p.2.2]]:=by simpa[sH]using q
  refine(q.aG 2 [1,0]).mh ag cI oi λJ h8 L=>?_;refine⟨(J,i+1),oj,⟨n9,?_⟩,n9⟩
  try dsimp only
  rw[az _ _ (show i<n4 (splitB p b) by omega)];have A:(splitB p b)[i]'n7=sH (cN p) b i:=by simp[splitB]
  rw[A];exact L
 .have l:i=n:=n7
  rw[l,<-k,qt]at j;exact⟨o,n5,j.bu [0]⟩
theorem Tm(p:Pm)(l:Sl)(ll:dP)(n:Int)(h:m5)(H:dT h l 1 aq ll)(hn:n<=2^20)(ab:n4 ll<=2^10):
  ak xR 128 #[go p,l,xH xN n] h λv h'=>∃(r:Sl) (b:Bool),v=.tuple #[r,xL b]/\Sp h h' [EA (iG 1 aq) r (iA p ll n)]:=by
 refine ts Tryz.func128 ?_ (HF (I1 [] [(6,8),(10,25)] (HF (I0 [(8,bK),(27,aI)] [(6,10),(27,48)])))) (args:=[p,l,(n:Int)]);have j:=H.len;refine(Sp.refl h).boxed λK X L=>?_;have f:∀{h':m5},Sp h h' [an K 24 [xH xN p.1,xH xN p.2.1,xH xN p.2.2]]->iA p ll n=[]->∃(r:Sl) (b:Bool),(.tuple #[xI eH 0 0,xL eY]:Value)=.tuple #[r,xL b]/\Sp h h' [EA (iG 1 aq) r (iA p ll n)]:=λY he=>by
  rw[he];exact⟨⟨eH,0,0⟩,eY,n5,(((Y.nil 5 1 aq).bu [1]).DU 0 n5 λ_=>rfl)⟩
 refine aE ⟨p,(L.box 0 n5).aw _ n5,(dS p X).I3 λh2 V=>?_⟩;have z:=L.up V.ac;refine⟨_,n5,aH (λe=>f z (by unfold iA;rw[nq (by rintro⟨h,_⟩;rw[e]at h;cases h)])) λS=>ae (λe=>f z (by unfold iA;rw[nq (by rintro⟨_,h,_⟩;omega)])) λe2=>?_⟩;have F:bH p=eX:=D6
 refine⟨p,(z.box 0 n5).aw _ n5,(rh p n h2).I3 λh3 Z=>?_⟩;have M:=z.up Z.ac;refine⟨_,n5,bt (λe=>f M (by unfold iA;rw[nq (by rintro⟨_,_,h,_⟩;rw[j]at e;exact e h)])) λP=>?_⟩;have D:(n4 ll:Int)=countP p n:=by rw[j]at P;exact P
 obtain⟨s1,s2,W⟩:=gZ F;have A:qc xN (p.1*p.2.2)=(cN p:Int):=by rw[<-W,af _]
 refine aj (λt:Sl×Nat=>(t.1,(t.2:Int))) (λt h'=>t.2<=n4 ll/\(∀x∈ll.take t.2,n4 x=cN p)/\Sp h h' [an K 24 [xH xN p.1,xH xN p.2.1,xH xN p.2.2],ai 5 t.1 1 aq (ll.take t.2).flatten]) (λt=>n4 ll-t.2) (⟨eH,0,0⟩,0) n5 ⟨oo,oo,M.nil 5 1 aq⟩ ?_;rintro⟨o,i⟩ h4 ⟨O,a,d⟩;dsimp only at O a d⊢;refine ae (λe=>?_) λe=>?_
 .have c:i<n4 ll:=by have e':(i:Int)<(l.len:Int):=e;omega
  refine(H.up d.ac).get i n5 c λr hr=>⟨p.1,(d.box 0 n5).cell0 n5,p.2.2,(d.box 0 n5).cell n5,?_⟩
  try dsimp only
  rw[A];have w:=hr.len;refine bt (λy=>?_) λy=>?_
  .refine f (d.bu [0]) ?_;unfold iA;rw[nq];rintro⟨_,_,_,h⟩;have:=n3 (qP.1 h _ (qe c));exact y (by rw[w,this])
  .have I:ll[i].length=cN p:=by rw[w]at y;exact Int.ofNat_inj.1 y
   have s:=AB a;rw[List.length_take_of_le O]at s;have hb:i*cN p<=2^10*2^10:=zr n7 n7;refine(H.up d.ac).get i n5 c λr' E=>?_;refine d.append ag 1 n5 cK ⟨_,_,n5,n5⟩ n5 n8 (λ_=>rfl) E cB n7 λo' h6 U=>?_;refine⟨(o',i+1),oj,⟨n9,?_,?_⟩,n9⟩
   .try dsimp only
    intro x g;rw[az _ _ c]at g;rcases qx.1 g with g|g
    .exact a x g
    .rw[qB.1 g];exact I
   .try dsimp only
    rw[az _ _ c,List.flatten_append];simpa using U
 .rw[qf (by have e':¬(i:Int)<(l.len:Int):=e;omega)]at a d;have s:=AB a;have m:=d.own 1 n5;have G:=m.len;obtain⟨k,R⟩:∃k:Nat,n=k:=⟨n.toNat,n7⟩
  subst R;have u:=EU F k;have B:(countP p (k:Int)).toNat=n4 ll:=n7
  rw[B,<-s,<-G]at u;have ej:iA p ll (k:Int)=ll.flatten.take k:=by unfold iA;rw[m6 ⟨F,n7,D,qP.2 λx g=>n1 (a x g)⟩,qi]
  have N:=m.cap;refine⟨⟨n7,n7⟩,⟨o.ptr,k,o.cap⟩,eX,by rw[qi],?_⟩;rw[ej];have Q:=(d.bu [1]).DU 0 n5 λ_=>rfl;refine Q.dW 0 n5 λq T=>?_;have J:=Seq.take T k n7;exact⟨J.1,J.2⟩
def dq(P:List (Int×aR)):aC:=(qy 64).map λk:Nat=>(n4 (P.filter λy=>decide (y.1=(k:Int))):Int)
theorem ir(P:List (Int×aR)):n4 (dq P)=64:=by simp[dq]
theorem rS(P:List (Int×aR)){k:Nat}(a:k<64:=by omega):(dq P).getD k 0=(n4 (P.filter λy=>decide (y.1=(k:Int))):Int):=by rw[qg,qd (by rw[ir];exact a)];simp[dq]
theorem Wb(l:aC):kT l 0=dq []:=by
 have h:dq []=qh 64 0:=n8
 rw[h];unfold kT
 induction l with
 |nil=>rfl
 |cons k l ih=>
  rw[zN];have:(qh 64 (0:Int)).set k.toNat 0=qh 64 0:=zX (by rw[qO]) λi a b=>by rw[xj];split<;>simp only[List.getElem_replicate]
  rw[this];exact ih
theorem To(P:List (Int×aR)){y:Int×aR}{k:Nat}(d:y.1=k)(b:k<64):dq (P++[y])=(dq P).set k ((dq P).getD k 0+1):=by
 rw[rS P b];refine zX (by rw[qO,ir,ir]) λi c f=>?_;rw[ir]at c;rw[xj];have e:∀(Q:List (Int×aR)) (h:i<n4 (dq Q)),(dq Q)[i]=(n4 (Q.filter λy=>decide (y.1=(i:Int))):Int):=λQ h=>by simp[dq]
 rw[e,zg,qo,zx,wL,d];by_cases a:k=i
 .subst a;rw[m6 n5,m6 oo];simp
 .rw[nq a,nq oi,e];simp
theorem DG(m:aB)(o:Int){t a:aC}(bl:dP)(live:aC):∀n,(∀j,j<n->t.getD j 0=a.getD j 0)->dt m o t bl live n=dt m o a bl live n
 |0,_=>by simp[dt]
 |n+1,h=>by
  rw[lT,lT,DG m o bl live n λj b=>h j n7];exact congrArg (dt m o a bl live n++·) (congrArg (λx=>(qy (m.p.1+m.extra).toNat).map λid:Nat=>mK m o n (fl o n x) (bl.getD n []) (jg o n live) id) (h n (Nat.lt_succ_self n)))
theorem KB(m:aB)(o:Int){t:aC}(x:Int)(bl:dP)(live:aC){n:Nat}(a:n4 t=n):dt m o (t++[x]) bl live n=dt m o t bl live n:=
 DG m o bl live n λj b=>by rw[qg,qg,qu n7]
theorem Wc{p:Pm}{o:Int}{i:Nat}(h:cR p o i=eH):∀n,i<=n->cR p o n=eH:=by
 intro n b
 induction n with
 |zero=>
  have:i=0:=by omega
  subst this;exact h
 |succ n ih=>
  by_cases a:i=n+1
  .subst a;exact h
  .unfold cR;rw[ih n7];rfl
theorem aaz{p:Pm}{o b:Int}{k:Nat}(g:k<16)(c:∀j,j<k->uQ p o b j=eY)(d:uQ p o b k=eX):lK p o b=dB k:=by
 unfold lK;have e:(qy 16)=qy k++(k::(qy (16-k-1)).map λx=>k+1+x):=by
  have a:16=k+(1+(16-k-1)):=n7
  conv=>lhs;rw[a,List.range_add,List.range_add]
  simp[Function.comp_def,Nat.add_assoc]
 rw[e,vV,yh.2 λj f=>by rw[c j (qY.1 f)];decide,List.find?_cons_of_pos d];rfl
theorem Wd{p:Pm}{o b:Int}(h:∀j,j<16->uQ p o b j=eY):lK p o b=eH:=by unfold lK;exact yh.2 λj a=>by rw[h j (qY.1 a)];decide
def pS(l:aC)(g:aC)(n:Int):aC:=l.foldl (λg k=>g.set k.toNat (g.getD k.toNat 0+n)) g
theorem FX(n:Int):∀(l g:aC),n4 (pS l g n)=n4 g
 |[],_=>rfl
 |k::l,g=>by unfold pS;rw[zN];exact(FX n l _).trans (by rw[qO])
theorem We(l g:aC)(k n:Int):pS (l++[k]) g n=(pS l g n).set k.toNat ((pS l g n).getD k.toNat 0+n):=by unfold pS;rw[wz];rfl
theorem FY(n:Int):∀{l g:aC},n4 g=64->l.Nodup->(∀k∈l,0<=k/\k<64)->∀k:Int,0<=k->k<64->(pS l g n).getD k.toNat 0=g.getD k.toNat 0+if k∈l then n else 0
 |[],g,_,_,_,k,_,_=>by simp[pS]
 |x::l,g,hg,a,hin,k,h1,h2=>by
  have a:=List.nodup_cons.1 a;have d:=hin x qR;unfold pS;rw[zN];refine(FY n (l:=l) (by rw[qO];exact hg) a.2 (λy c=>hin y (qp _ c)) k h1 h2).trans ?_;rw[qg,qW];by_cases b:k=x
  .subst b;rw[m6 n5,m6 n7,Option.getD_some,nq a.1,m6 qR];omega
  .rw[nq n7,<-qg];congr 1;simp[b]
theorem Tp{m:aB}(a:bE m=eX)(b:aF):(aY b m.drives).Nodup:=
 List.Pairwise.filter _ (((cJ m).1 a).2.1.imp λh=>n7)
theorem Qy{h h':m5}{a:hU}{v:Value}(c:hY h a=dB v)(d:aQ (λb=>b<h.size) h h'):hY h' a=dB v:=d.cell (df c) c
theorem HS:∃i a,C.T.get 22=dB i/\i.cm=.slice a:=⟨_,_,n5,n5⟩
theorem ut(n:Nat)(h:m5)(w:n<64):ak xR 194 #[xH xN n] h λv h'=>v=xM #[xH xN (bz n).x,xH xN (bz n).y]/\Sp h h' []:=by
 refine ts Tryz.func194 ?_ (HF (HF (I1 [] [(10,17)] (HF (I0 [(4,aI),(5,aI),(6,aI),(7,aI),(8,aI),(9,aI)] [(4,10),(17,47)])))));refine(Sp.refl h).alloc ag n5 λj B q=>?_;refine q.alloc ag n5 λm u o=>?_;refine aE (ae (λe=>n7) λ_=>ae (λe=>n7) λ_=>?_);refine aj (λk:Nat=>((bz k).dx,(bz k).dy,(bz k).leg,(bz k).left,(bz k).turns,(k:Int))) (λk h'=>k<=n/\Sp h h' [an j 227 [xH xN 0,xH xN 0],an m 227 [xH xN (bz k).x,xH xN (bz k).y]]) (λk=>n-k) 0 n5 ⟨n7,o⟩ ?_;rintro k E ⟨z,d⟩;have f:=abv k n7;simp only[uH.ok,qC,decide_eq_true_eq]at f
 try dsimp only
 refine ae (λe=>?_) (λe=>?_)
 .have a:bz (k+1)=(bz k).on:=rfl;obtain⟨s,p⟩:=I5 (bz k)
  rw[<-p]at f a d⊢;refine⟨s.x,(d.box 1 n5).cell0 n5,s.y,(d.box 1 n5).cell n5,?_⟩
  try dsimp only
  rw[af (s.x+s.dx),af (s.y+s.dy),af (s.left-1),af (s.turns+1),af (0-s.dy),af (s.leg+1),af ((k:Int)+1),zS (show 0<=s.turns+1 by omega)];refine d.iB ag 1 n5 n5 [xH xN (s.x+s.dx)] n5 n5 n5 oo λD r=>?_;refine r.storeAt ag 1 n5 n5 (off:=1) n5 n5 n5 oo λh8 t=>?_;have c:Sp h h8 [an j 227 [xH xN 0,xH xN 0],an m 227 [xH xN (s.x+s.dx),xH xN (s.y+s.dy)]]:=t;refine be (λb=>?_) (λb=>?_)
  .refine⟨n8,be (λi=>?_) λi=>?_⟩
   .refine⟨k+1,?_,⟨n7,?_⟩,n7⟩
    .rw[a,uH.on,m6 b,m6 i,Int.zero_sub];rfl
    .rw[a,uH.on,m6 b];exact c
   .refine⟨k+1,?_,⟨n7,?_⟩,n7⟩
    .rw[a,uH.on,m6 b,nq i,Int.zero_sub];rfl
    .rw[a,uH.on,m6 b];exact c
  .refine⟨k+1,?_,⟨n7,?_⟩,n7⟩
   .rw[a,uH.on,nq b];rfl
   .rw[a,uH.on,nq b];exact c
 .have g:k=n:=n7
  subst g;refine⟨((bz k).x,(bz k).y),(d.box 1 n5).aw _ n5,?_⟩;refine d.storeAll ag 0 n5 n5 [xH xN (bz k).x,xH xN (bz k).y] n5 n5 n5 n5 λA l=>?_;exact⟨((bz k).x,(bz k).y),(l.box 0 n5).aw _ n5,n5,.zip l.ac⟩
theorem EY(i j:Nat)(h:m5)(f:i<64)(k:j<64):ak xR 196 #[xM #[xH xN (bz i).x,xH xN (bz i).y],xM #[xH xN (bz j).x,xH xN (bz j).y]] h λv h'=>v=xH xN (lM i j)/\Sp h h' []:=by
 have a:=om f;have b:=om k;refine ts Tryz.func196 ?_ (args:=[((bz i).x,(bz i).y),((bz j).x,(bz j).y)]);refine(Sp.refl h).boxed λl p g=>?_;refine g.boxed λq m e=>?_;have c:=e.box 0 n5;have d:=e.box 1 n5;have o:=KV (a:=(bz i).x-(bz j).x) n7 n7;have n:=KV (a:=(bz i).y-(bz j).y) n7 n7;refine⟨_,c.cell0 n5,_,d.cell0 n5,_,c.cell0 n5,_,d.cell0 n5,_,c.cell (j:=1) n5,_,d.cell (j:=1) n5,_,c.cell (j:=1) n5,_,d.cell (j:=1) n5,?_⟩
 try dsimp only
 rw[af ((bz i).x-(bz j).x),af ((bz i).y-(bz j).y),af (((bz i).x-(bz j).x)*((bz i).x-(bz j).x)),af (((bz i).y-(bz j).y)*((bz i).y-(bz j).y)),af _];exact⟨n5,.zip e.ac⟩
theorem Tq(s:Sl)(o:aC)(id:Int)(h:m5)(g:Rd h s 1 ar o):ak xR 120 #[s,xH xN id] h λv h'=>v=xH xN (nv o id)/\h'=h:=by
 have f:=g.len;refine ts Tryz.func120 ?_ (HF (I1 [] [(4,12)] G6));refine aE (be (λe=>⟨by rw[nv,m6 (.inl (qQ n7))],n5⟩) λe=>ae (λb=>⟨by rw[nv,m6 (.inr b)],n5⟩) λb=>?_);refine⟨e,?_⟩;have c:¬(o=[]∨id<0):=by
  rintro(rfl|h2)
  .simp at f;omega
  .exact b h2
 have d:Int.tmod id ((s.len:Nat):Int)=((id%(n4 o:Int)).toNat:Int):=by rw[zS n7,f];have:=Int.emod_nonneg id (show(n4 o:Int)≠0 by omega);omega
 have a:(id%(n4 o:Int)).toNat<n4 o:=by have:=Int.emod_lt_of_pos id (show(0:Int)<n4 o by omega);omega
 rw[d];refine g.aV _ n5 a _ n5 ⟨?_,n5⟩;rw[nv,nq c,KW,qg,qd a];rfl
theorem HT{c:Nat}{a b d:Int}(e:gC c a b)(f:gC c b d):gC c a d:=by unfold gC at*;omega
theorem KC{c:Nat}{o:aC}{x:Int}{n:Nat}(q:n<=n4 o)(f:o.Pairwise (gC c))(l:∀(h:0<n),gC c (o[n-1]'n7) x)(m:∀j (h:j<n4 o),n<=j->gC c x o[j]):(o.take n++([x]++o.drop n)).Pairwise (gC c):=by
 have k:∀a∈o.take n,gC c a x:=λa e=>by
  obtain⟨j,g,rfl⟩:=qE e;rw[qw]at g;rw[List.getElem_take];by_cases p:j=n-1
  .subst p;exact l n7
  .exact HT (zb.1 f j (n-1) n7 n7 n7) (l n7)
 have i:∀b∈o.drop n,gC c x b:=λb d=>by
  obtain⟨j,g,rfl⟩:=qE d;rw[qJ]at g;rw[zM];exact m _ _ n7
 rw[zA];refine⟨f.sublist (vN _ _),?_,λa e b d=>?_⟩
 .rw[vX,zt];exact⟨i,f.sublist (List.drop_sublist _ _)⟩
 .rw[vX,qN]at d;rcases d with rfl|d
  .exact k a e
  .exact HT (k a e) (i b d)
theorem Ys(o:aC)(x:Int)(n:Nat):(o.take n++([x]++o.drop n)).Perm (o++[x]):=by have a:(o.take n++([x]++o.drop n)).Perm (o.take n++(o.drop n++[x])):=List.Perm.append_left _ (List.perm_append_comm);rw[<-ql (o.take n) (o.drop n),qz]at a;exact a
theorem KD(d block:Int)(live:Sl)(l:aC)(h:m5)(hl:Rd h live 1 ar l)(b6:n4 l<=2^30):
  ak xR 119 #[xH xN d,xH xN block,live] h λv h'=>∃r:Sl,v=r/\Sp h h' [ai 3 r 1 ar (jg d block l)]:=by
 have b4:=hl.len;refine ts Tryz.func119 ?_ (HF (I1 [] [(6,7),(14,28)] (HF (HF (G0 (HF (G7 (G9 [(8,bK),(36,aI)] [(8,9),(10,14),(36,98)] (HF (HF (G0 (G7 (HF (I1 [] [(40,51)] (HF (G0 (Hf [(11,aI)] [(11,14),(53,86)] (G7 (G9 [(11,aI)] [(11,14),(53,86)] (HF (G7 (I1 [(12,aI),(13,aI)] [(12,14),(55,67)] G6)))))) G6))))) G6)))))) G6))))) [(11,(.l [0,2,4,5,6,7,8,10,1,3,9,11,12,13])),(14,(.y [0,1,2,4,6,7,8] (.l [3,5,9,10,11]) (.y [5] (.l [3,9,10,11]) (.l [9,3,10,11]))))];have no:¬(0<=d/\d<=16777215/\0<=block/\block<8)->∃r:Sl,Value.slice eH 0 0=xI r.ptr r.len r.cap/\Sp h h [ai 3 r 1 ar (jg d block l)]:=λM=>by
  rw[jg,nq M];exact⟨⟨eH,0,0⟩,n5,(Sp.refl h).nil 3 1 ar⟩
 refine aE (ae (λe=>no n7) λe1=>ae (λe=>no n7) λe2=>ae (λe=>no n7) λe3=>ae (λe=>no n7) λe4=>?_);have bk:0<=d/\d<=16777215/\0<=block/\block<8:=n7
 rw[jg,m6 bk];rw[af (8*d),af (8*d+block),zS n7];obtain⟨c,hc⟩:∃c:Nat,(8*d+block)%64=c:=⟨((8*d+block)%64).toNat,n7⟩
 have B:c<64:=n7
 rw[hc,qi];refine⟨n8,(ut c h B).mono ?_⟩;rintro v h2 ⟨rfl,R2⟩;refine⟨((bz c).x,(bz c).y),n5,?_⟩;refine R2.alloc ag n5 λa h3 H3=>?_;refine H3.storeAll ag 0 n5 n5 [xH xN (bz c).x,xH xN (bz c).y] n5 n5 n5 n5 λh4 H4=>?_;refine aj (λt:Sl×Nat×aC=>(t.1,(t.2.1:Int))) (λt h'=>t.2.1<=n4 l/\t.2.2.Perm (eK (l.take t.2.1))/\t.2.2.Pairwise (gC c)/\Sp h h' [an a 227 [xH xN (bz c).x,xH xN (bz c).y],ai 3 t.1 1 ar t.2.2]) (λt=>n4 l-t.2.1) (⟨eH,0,0⟩,0,[]) n5 ⟨oo,by simp[eK],List.Pairwise.nil,H4.nil 3 1 ar⟩ ?_;rintro⟨s,k,o⟩ h5 ⟨hk,g,S,I⟩;dsimp only at*;have b3:n4 o<=k:=by rw[g.length_eq];exact MO l k
 have ao:=(I.own 1 n5).len;have a6:=(I.own 1 n5).cap;refine ae (λe=>?_) (λe=>?_)
 .have al:k<n4 l:=n7
  have hs:=rJ l al;refine(Seq.up hl I.ac).aV k n5 al _ n5 ?_;obtain⟨x,hx⟩:=I5 (l[k])
  rw[<-hx]at hs⊢;rw[af ((k:Int)+1)];have skip:∀{h':m5},¬(0<=x/\x<64/\(eK (l.take k)).contains x=eY)->Sp h h' [an a 227 [xH xN (bz c).x,xH xN (bz c).y],ai 3 s 1 ar o]->
    ∃f:Sl×Nat×aC,((⟨s.ptr,s.len,s.cap⟩:Sl),(k:Int)+1)=(f.1,(f.2.1:Int))/\(f.2.1<=n4 l/\f.2.2.Perm (eK (l.take f.2.1))/\f.2.2.Pairwise (gC c)/\Sp h h' [an a 227 [xH xN (bz c).x,xH xN (bz c).y],ai 3 f.1 1 ar f.2.2])/\l.length-f.2.1<n4 l-k:=λa9 H=>
   ⟨(s,k+1,o),n5,⟨n9,by dsimp only;rw[hs,oP,nq a9];exact g,S,H⟩,n9⟩
  refine aE (ae (λx0=>skip n7 I) λx0=>ae (λx1=>skip n7 I) λx1=>?_);refine(OP s o x h5 (I.seq 1 n5 λ_=>rfl) n7).mono ?_;rintro v h6 ⟨rfl,rfl⟩;have O:(eK (l.take k)).contains x=decide (x∈o):=by rw[List.contains_eq_mem];exact decide_eq_decide.2 g.mem_iff.symm
  refine⟨_,n5,aT (λe5=>skip (λF=>by rw[O,e5]at F;cases F.2.2) I) λe5=>?_⟩;have bq:x∉o:=of_decide_eq_false e5;have Z:eK (l.take (k+1))=eK (l.take k)++[x]:=by rw[hs,oP,m6 ⟨n7,n7,by rw[O];exact e5⟩]
  obtain⟨m,hm⟩:∃m:Nat,x=m:=⟨x.toNat,n7⟩
  have Q:m<64:=n7
  have K:∀j (P:j<n4 o),0<=o[j]/\o[j]<64:=λj P=>((FQ l k hk _).1 (g.mem_iff.1 (qe P))).2;refine bs (λ(t:Int) h'=>∃n:Nat,t=n/\n<=n4 o/\(∀(F:0<n) (M:n-1<n4 o),gC c o[n-1] x)/\(∀j (P:j<n4 o),n<=j->gC c x o[j])/\Sp h h' [an a 227 [xH xN (bz c).x,xH xN (bz c).y],ai 3 s 1 ar o]) ?_ ?_
  .refine aj (λn:Nat=>(n:Int)) (λn h'=>n<=n4 o/\(∀j (P:j<n4 o),n<=j->gC c x o[j])/\Sp h h' [an a 227 [xH xN (bz c).x,xH xN (bz c).y],ai 3 s 1 ar o]) (λn=>n) o.length (by rw[ao]) ⟨qj _,λj P F=>n7,I⟩ ?_;rintro n h8 ⟨M,D,H8⟩;refine ae (λe6=>?_) λe6=>⟨n,n5,M,λF=>n7,D,H8⟩;obtain⟨i,rfl⟩:∃i,n=i+1:=⟨n-1,n7⟩
   have G:i<n4 o:=n7
   have a3:qc xN (((i+1:Nat):Int)-1)=(i:Int):=o9
   rw[a3];have b0:=K i G;obtain⟨b,hb⟩:∃b:Nat,o[i]=(b:Int):=⟨(o[i]).toNat,n7⟩
   have R:b<64:=n7
   have N:∀{p q:Int} {p' q':Nat},p=(p':Int)->q=(q':Int)->(gC c p q↔lM p' c<lM q' c∨(lM p' c=lM q' c/\p<q)):=λhp hq=>by subst hp;subst hq;simp only[gC,qi]
   have br:x≠o[i]:=λF=>bq (by rw[F];exact qe G);refine bs (λ(t:Int×Int) h'=>t=(lM m c,lM b c)/\Sp h h' [an a 227 [xH xN (bz c).x,xH xN (bz c).y],ai 3 s 1 ar o]) ?_ ?_
   .have c8:=H8.box 0 n5;refine⟨((bz c).x,(bz c).y),c8.aw _ n5,?_⟩;refine(H8.seq 1 n5 λ_=>rfl).nA i n5 G (b:Int) (by rw[hb];rfl) λb5 V=>?_;refine⟨((bz c).x,(bz c).y),c8.aw _ n5,?_⟩;rw[hm];refine(ut m h8 Q).mono ?_;rintro v h9 ⟨rfl,R9⟩;have H9:=H8.up R9.ac;have c9:=H9.box 0 n5;have q9:=Qy V R9.ac;refine⟨((bz m).x,(bz m).y),n5,⟨c9.cell0 n5,c9.cell n5,q9,c9.cell0 n5,c9.cell n5,I6⟩,(EY m c h9 Q B).mono ?_⟩;rintro v a8 ⟨rfl,Y⟩;have ab:=H9.up Y.ac;have am:=ab.box 0 n5;have bl:=Qy q9 Y.ac;refine⟨_,n5,⟨am.cell0 n5,am.cell n5,bl,I6⟩,(ut b a8 R).mono ?_⟩;rintro v bb ⟨rfl,ax⟩;have U:=ab.up ax.ac;have X:=U.box 0 n5;refine⟨((bz b).x,(bz b).y),n5,⟨X.cell0 n5,X.cell n5,I6⟩,(EY b c bb R B).I3 λb2 a2=>?_⟩;exact⟨_,n5,I6,n5,U.up a2.ac⟩
   .rintro t ay ⟨rfl,L⟩
    try dsimp only
    have next:gC c x o[i]->∃f:Nat,(i:Int)=(f:Int)/\(f<=n4 o/\(∀j (P:j<n4 o),f<=j->gC c x o[j])/\Sp h ay [an a 227 [xH xN (bz c).x,xH xN (bz c).y],ai 3 s 1 ar o])/\f<i+1:=λap=>
     ⟨i,n5,⟨n7,λj P b7=>by
      by_cases F:j=i
      .subst F;exact ap
      .exact D j P n7,L⟩,n7⟩
    refine ae (λe7=>?_) (λe7=>be (λe8=>?_) λe8=>next ((N hm hb).2 (.inl n7)))
    .exact⟨i+1,n5,M,λ_ _=>(N hb hm).2 (.inl n7),D,L⟩
    .refine(L.seq 1 n5 λ_=>rfl).aV i n5 G _ n5 ?_;refine ae (λe9=>?_) λe9=>next ((N hm hb).2 (.inr ⟨e8,n7⟩));exact⟨i+1,n5,M,λ_ _=>(N hb hm).2 (.inr ⟨e8.symm,e9⟩),D,L⟩
  .rintro t b1 ⟨n,rfl,M,a7,D,J⟩;have a1:=(J.own 1 n5).len;have w:=(J.own 1 n5).cap;have W:=KC M S (λF=>a7 F n7) D;have ah:(o.take n++([x]++o.drop n)).Perm (eK (l.take (k+1))):=by rw[Z];exact(Ys o x n).trans (g.append_right _)
   refine⟨⟨ze _,wA.2 n7⟩,?_⟩;rw[qi];have tk:∀{h':m5} {As:List HP},Sp h h' (an a 227 [xH xN (bz c).x,xH xN (bz c).y]::ai 3 s 1 ar o::As)->Rd h' ⟨s.ptr,n,n⟩ 1 ar (o.take n):=λH=>
    have q:=(H.seq 1 n5 λ_=>rfl).take n M
    ⟨q.len,q.elem⟩
   have done:∀{h':m5} (z:Sl) {As:List HP},Sp h h' (an a 227 [xH xN (bz c).x,xH xN (bz c).y]::ai 3 s 1 ar o::ai 3 z 1 ar ([x]++o.drop n)::As)->
     bF xR (q6 #[22,22] 22 #[xI s.ptr n n,z]) (.one (.sc .slc)) h' λv25 T=>(bx.ok [] T)/\
      ∃f:Sl×Nat×aC,((⟨v25.ptr,v25.len,v25.cap⟩:Sl),(k:Int)+1)=(f.1,(f.2.1:Int))/\(f.2.1<=n4 l/\f.2.2.Perm (eK (l.take f.2.1))/\f.2.2.Pairwise (gC c)/\Sp h T [an a 227 [xH xN (bz c).x,xH xN (bz c).y],ai 3 f.1 1 ar f.2.2])/\l.length-f.2.1<n4 l-k:=λ{h'} z As H=>by
    have a0:=(H.own 2 n5).len;rw[qo,wx]at a0;have HH:Sp h h' [an a 227 [xH xN (bz c).x,xH xN (bz c).y]]:=H.take 0 (λi A G=>by cases i with|zero=>exact G|succ i=>simp at G);refine HH.Ef (s:=⟨s.ptr,n,n⟩) ag oN HS n5 n8 (λ_=>rfl) (tk H) (qj _) n9 (H.seq 2 n5 λ_=>rfl) oi λy T a5=>⟨I6,?_⟩
    exact⟨(y,k+1,o.take n++([x]++o.drop n)),n5,⟨n9,ah,W,a5⟩,n9⟩
   refine⟨?_,?_⟩
   .refine gX ag oN n n5 n5 n7 ⟨I6,?_⟩;refine J.lit ag ar oN n5 [x] n5 (show 1*1<=2^20 by decide) n5 λz a4 u=>⟨I6,?_⟩
    refine u.append ag 2 n5 oN HS n5 n8 (λ_=>rfl) ((u.seq 1 n5 λ_=>rfl).drop n w) db oi λz' ad E=>⟨I6,?_⟩
    exact done z' E
   .refine J.lit ag ar oN n5 [x] n5 (show 1*1<=2^20 by decide) n5 λz a4 u=>⟨I6,?_,?_⟩
    .refine gX ag oN n n5 n5 n7 ⟨I6,?_⟩;refine u.append ag 2 n5 oN HS n5 n8 (λ_=>rfl) ((u.seq 1 n5 λ_=>rfl).drop n w) db oi λz' ad E=>⟨I6,?_⟩
     exact done z' E
    .refine u.append ag 2 n5 oN HS n5 n8 (λ_=>rfl) ((u.seq 1 n5 λ_=>rfl).drop n w) db oi λz' ad E=>⟨I6,?_⟩
     refine gX ag oN n n5 n5 n7 ⟨I6,?_⟩;exact done z' E
 .have bd:k=n4 l:=n7
  subst bd;rw[qt]at g;refine⟨s,n5,?_⟩;rw[MS B g S];exact I.take 1 (λi A G=>by cases i with|zero=>exact G|succ i=>simp at G)
end Go.Qw
