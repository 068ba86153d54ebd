/- Lemmas for the proof of the law; no condition. -/
import Derived.Test.YtmobnmonkaacaaaGreatDoorDKE
set_option maxHeartbeats 2000000
set_option linter.unusedVariables false
set_option maxHeartbeats 4000000
set_option linter.unusedSimpArgs false
open Go.Proofs.Tryz renaming prog -> xT
open List renaming all_map -> xH, findIdx_lt_length_of_exists -> wA, length_singleton -> wT, mem_append_left -> yI, mem_append_right -> yg, range -> qy, replicate -> qf, singleton_append -> vZ, sum_cons -> xp, take_sublist -> vP
open Go.Value renaming agg -> xO, bool -> xN, int -> xJ, pointer -> xL, slice -> xK, string -> xM
open Go.IntKind renaming i64 -> xP, u32 -> xR, u64 -> xS, wrap -> qd
open Bool renaming and_false -> vm, or_false -> va
open Prod renaming fst -> qC, snd -> zg
open Option renaming some -> z8
open Go.Builtin renaming append_ -> q6
set_option maxRecDepth 100000
open Option renaming some -> dB, none -> eH
open Bool renaming true -> eL, false -> eR
open Go renaming Addr -> fY
open Go.Qw renaming cellOf -> hU, Heap -> hY
open List renaming length -> m8
open Go.Qw.bU renaming two -> E5, n -> E6, inn -> E7, loop -> E8, join -> E9, tn -> F8, lp -> F9, jn -> G0
namespace Go.Qw
open Go.Proofs
variable {B:ar} {h0 h:hY} {As:List HP} {a b:fY} {offs:Int} {da:List bx} {w:Pow} {ds:aG} {d:bu} {m:aB} {q:bx}
section
variable {pw:fY}
end
section
variable {pw:fY}
end
section
variable {C:Int->aT}
def aeg(p:Pm)(seed:Int)(live:aC)(t:Nat)(G:aC)(W:cV):Prop:=∀g∈aap live.length t,(∃s∈G,adu live s∉g)∨fI p seed (Tm W g live.length)=eL
structure afl (m:aB) (live G:aC) (ds:aG) (t:Int) (e:Qw.cZ) (i:Nat):Prop where
 full:fI m.p (fx e.object i (e.tries.getD i 0)) (abl m ds e.object i)=eL
 spare:aeg m.p (fx e.object i (e.tries.getD i 0)) live t.toNat G (No m ds e.object i live)
end
structure One (m0:aB) (name:ByteArray) (b:aT) (R c:Nat) (m:aB) (C:Int->aT) (ds:aG) (t:aC):Prop where
 objs:m.objs=[⟨name,m0.next,m8 b,t⟩]
 tl:m8 t=(splitB m0.p b).length
 p:m.p=m0.p
 extra:m.extra=m0.extra
 drives:m.drives=m0.drives
 sto:NH m C ds
 full:Full m C ds
 row:∀k d,bX ds k=dB d->d.wait=0/\d.room=R/\d.l.length<=27+c*(m0.p.1+m0.extra).toNat
 data:C m0.next=b
section
variable {pw:fY}
end
variable {p:Pm}
section
variable {pw:fY} {C:Int->aT}
end
def sink:aC->Nat->aC
 |l,0=>l
 |l,i+1=>if fd l (i+1)<fd l i then sink (ji l (i+1) i) i else l
def sinks(l:aC):Nat->aC
 |0=>l
 |i+1=>sink (sinks l i) i
theorem NP:∀(i:Nat) (l:aC),(sink l i).length=m8 l
 |0,l=>rfl
 |i+1,l=>by
   unfold sink;split;· rw[NP i,pK]
   .rfl
theorem sh(l:aC):∀i,(sinks l i).length=m8 l
 |0=>rfl
 |i+1=>by rw[sinks,NP,sh l i]
theorem tE{l:aC}{i:Nat}(h:i<m8 l):fd l i=l[i]:=by rw[fd,qg,qc h];rfl
theorem swap_perm(l:aC)(i:Nat)(h:i+1<m8 l):(ji l (i+1) i).Perm l:=by
 have e:l=l.take i++l[i]::l[i+1]::l.drop (i+2):=n4
 have c:ji l (i+1) i=l.take i++l[i+1]::l[i]::l.drop (i+2):=by
  rw[ji,tE (show i<m8 l by omega),tE h];apply zn;intro j;have a:(l.take i).length=i:=n8
  rw[qV,qV];by_cases f:i=j
  .grind
  .rw[k4 f];by_cases b:i+1=j
   .subst b;rw[hZ m9,hZ nb,qk nb,a];simp
   .rw[k4 b]
    conv=>lhs;rw[e]
    by_cases h3:j<i
    .rw[qu nb,qu nb]
    .rw[qk nb,qk nb,a];obtain⟨d,g⟩:∃d,j-i=d+2:=⟨j-i-2,nb⟩
     rw[g];rfl
 rw[c]
 conv=>rhs;rw[e]
 exact List.Perm.append_left _ (List.Perm.swap _ _ _)
theorem Kv:∀(i:Nat) (l:aC),i<m8 l->(sink l i).Perm l
 |0,l,_=>.refl _
 |i+1,l,h=>by
  unfold sink;split
  .exact(Kv i _ (by rw[pK];omega)).trans (swap_perm l i h)
  .exact .refl _
theorem HZ(l:aC):∀i,i<=m8 l->(sinks l i).Perm l
 |0,_=>.refl _
 |i+1,h=>(Kv i _ (by rw[sh];omega)).trans (HZ l i nb)
def adA(l:aC)(n:Nat):Prop:=∀a b,a<b->b<n->fd l a<=fd l b
theorem Zc{l:aC}{i j k:Nat}(d:i<m8 l)(c:j<m8 l):fd (ji l i j) k=if k=j then fd l i else if k=i then fd l j else fd l k:=by
 simp only[fd,ji,qg,qV,qP];by_cases a:j=k
 .subst a;simp[c]
 .by_cases b:i=k
  .subst b;simp[a,d];omega
  .simp[a,b];omega
theorem Rb(n:Nat):∀(i:Nat) (l:aC),i<n->n<=m8 l->(∀a b,a<b->b<n->a≠i->b≠i->fd l a<=fd l b)->(∀b,i<b->b<n->fd l i<=fd l b)->adA (sink l i) n
 |0,l,hi,hn,h1,h2=>λa b c d=>by
  unfold sink;by_cases e:a=0
  .subst e;exact h2 b c d
  .exact h1 a b c d e nb
 |i+1,l,hi,hn,h1,h2=>by
  unfold sink;split
  .rename_i o;have h:∀k,fd (ji l (i+1) i) k=if k=i then fd l (i+1)else if k=i+1 then fd l i else fd l k:=λk=>Zc nb nb
   refine Rb n i _ nb (by rw[pK];exact hn) (λa b c d e j=>?_) (λb d m=>?_)
   .rw[h,h,k4 e,k4 j];by_cases h3:a=i+1
    .rw[hZ h3,k4 nb];exact h1 i b nb d nb nb
    .rw[k4 h3];by_cases f:b=i+1
     .rw[hZ f];exact h1 a i nb nb h3 nb
     .rw[k4 f];exact h1 a b c d h3 f
   .rw[h,h,hZ m9,k4 nb];by_cases f:b=i+1
    .rw[hZ f];omega
    .rw[k4 f];exact h2 b nb m
  .rename_i p;intro a b c d;by_cases g:b=i+1
   .subst g;by_cases e:a=i
    .subst e;omega
    .have:=h1 a i nb nb nb nb;omega
   .by_cases e:a=i+1
    .subst e;exact h2 b c d
    .exact h1 a b c d e g
theorem NQ(l:aC):∀i,i<=m8 l->adA (sinks l i) i
 |0,_=>λa b _ d=>nb
 |i+1,h=>by
  have f:=NQ l i nb;rw[sinks];exact Rb (i+1) i _ nb (by rw[sh];omega) (λa b c d _ e=>f a b c nb) (λb d g=>nb)
theorem PL{a b:aC}(d:a.Perm b)(e:a.Pairwise (·<=·))(f:b.Pairwise (·<=·)):a=b:=
 d.eq_of_pairwise (λx y _ _ g c=>Int.le_antisymm g c) e f
theorem TP(l:aC):sinks l l.length=mD l:=by
 refine PL ((HZ l _ (qj _)).trans (wb l _).symm) ?_ ?_
 .have:=NQ l l.length (qj _);rw[zb];intro i j f e d;have g:=sh l l.length;have:=this i j d nb
  rwa [tE f,tE e]at this
 .have:=List.pairwise_mergeSort (le:=λx y:Int=>decide (x<=y)) (by intro a b c;simp;omega) (by intro a b;simp;omega) l;exact this.imp n4
theorem NR(a:fY)(s:Int)(n k:Nat)(h:hY)(Q:bQ h a 306 [xJ xS s])(hn:n<=64)(hk:k<=n):
  aj xT 275 #[xL (dB a),xJ xP n,xJ xP k] h λv h'=>∃r:Sl,v=r/\aa (λb=>b<h.size/\¬b=a.block) h h' [an a 306 [xJ xS (dZ n s (upto n) k).1],ai 3 r 1 av (Bl s n k)]:=by
 refine ts Tryz.func275 ?_ (F8 (G0 [] [(6,7),(13,28)] (F8 (E5 (F8 (E7 (E8 [(7,bJ),(8,aI)] [(7,9),(28,37)] E6))) (E5 (F8 (E7 (E8 [(9,aI)] [(9,11),(37,63)] E6))) (F8 (E5 (F8 (E7 (E8 [(68,aI)] [(11,13),(68,105)] (F8 (F8 (E5 (E7 (F8 (F8 (E7 (E8 [(12,aI)] [(12,13),(72,104)] (G0 [] [(72,86)] E6)))))) E6)))))) E6)))))));refine aE (ae (λe=>nb) λ_=>ae (λe=>nb) λ_=>ae (λe=>nb) λ_=>ae (λe=>nb) λ_=>?_);have V:aa (λb=>b<h.size/\¬b=a.block) h h [an a 306 [xJ xS s]]:=.LV (λb=>b=a.block) (λb D=>by rw[D];exact Q.lt) ⟨Q,m9⟩;refine ak (λt:Sl×Nat=>(t.1,(t.2:Int))) (λt h'=>t.2<=n/\aa (λb=>b<h.size/\¬b=a.block) h h' [an a 306 [xJ xS s],ai 3 t.1 1 av (upto t.2)]) (λt=>n-t.2) (⟨eH,0,0⟩,0) m9 ⟨n4,V.nil 3 1 av⟩ ?_;rintro⟨v,i⟩ h2 ⟨hi,N⟩;dsimp only at*;refine ae (λe=>?_) (λe=>?_)
 .refine N.push ag 1 m9 ge m9 nq (λ_=>rfl) dt (i:Int) m9 nq Bk λT h3 g=>?_;refine⟨(T,i+1),n3,⟨n1,?_⟩,n1⟩;dsimp only;rw[Ks];exact g
 .have E:i=n:=nb
  subst E;refine ak (λj:Nat=>(j:Int)) (λj h'=>j<=k/\aa (λb=>b<h.size/\¬b=a.block) h h' [an a 306 [xJ xS (dZ i s (upto i) j).1],ai 3 v 1 av (dZ i s (upto i) j).2]) (λj=>k-j) 0 m9 ⟨nb,N⟩ ?_;rintro j h3 ⟨hj,g⟩;have J:=pL i s (upto i) j;rw[fE]at J;refine ae (λe3=>?_) (λe3=>?_)
  .rw[af _];have f:((i:Int)-(j:Int))=((i-j:Nat):Int):=nb
   rw[f];refine(Cv a _ _ h3 (g.box 0 m9)).G7 λh4 ⟨H,G⟩=>?_;have o:=g.ng 0 m9 G H;have W:=oa (dZ i s (upto i) j).1 ((i-j:Nat):Int);refine⟨_,m9,?_⟩
   try dsimp only
   rw[af _,af _];have O:(j:Int)+jo (dZ i s (upto i) j).1 ((i-j:Nat):Int)=((j+(jo (dZ i s (upto i) j).1 ((i-j:Nat):Int)).toNat:Nat):Int):=nb
   have l:j+(jo (dZ i s (upto i) j).1 ((i-j:Nat):Int)).toNat<(dZ i s (upto i) j).2.length:=nb
   rw[O];have m:=o.seq 1 m9 λ_=>rfl;refine m.aW _ m9 l _ m9 ?_;refine m.aW j m9 nb _ m9 ?_;refine o.set ag 1 m9 (λ_=>rfl) m9 j m9 nb _ m9 m9 m9 λX A=>⟨I0,?_⟩
   refine A.set ag 1 m9 (λ_=>rfl) m9 _ m9 (by simpa using l) _ m9 m9 m9 λS q=>⟨I0,?_⟩
   refine⟨j+1,m9,⟨nb,?_⟩,nb⟩;rw[dZ,ji,fd,fd,Qw.getD_lt l,Qw.getD_lt (show j<(dZ i s (upto i) j).2.length by omega)];exact q
  .have K:j=k:=nb
   subst K;have P:=(g.own 1 m9).cap;have Z:=(g.own 1 m9).len;refine⟨⟨nb,nb⟩,?_⟩;rw[qi];have o:=g.cut 1 m9 (λ_=>rfl) j nb;obtain⟨L,F⟩:=HF ((dZ i s (upto i) j).2.take j)
   have p:m8 L=j:=by rw[F,qx];omega
   rw[<-F]at o;refine ak (λx:Nat=>(x:Int)) (λx h'=>x<=j/\aa (λb=>b<h.size/\¬b=a.block) h h' [an a 306 [xJ xS (dZ i s (upto i) j).1],ai 3 ⟨v.ptr,j,v.cap⟩ 1 av (sinks L x)]) (λx=>j-x) 0 m9 ⟨nb,o⟩ ?_;rintro x X ⟨O,A⟩;refine ae (λe4=>?_) (λe4=>?_)
   .refine ak (λt:Nat×aC=>(t.1:Int)) (λt h'=>t.1<=x/\t.2.length=j/\sink t.2 t.1=sinks L (x+1)/\aa (λb=>b<h.size/\¬b=a.block) h h' [an a 306 [xJ xS (dZ i s (upto i) j).1],ai 3 ⟨v.ptr,j,v.cap⟩ 1 av t.2]) (λt=>t.1) (x,sinks L x) m9 ⟨n4,by rw[sh];exact p,m9,A⟩ ?_;rintro⟨y,M⟩ S ⟨hy,hM,u,q⟩;dsimp only at*;rw[af ((x:Int)+1)];have d:sink M y=M->∃B:Nat,(x:Int)+1=(B:Int)/\(B<=j/\aa (λb=>b<h.size/\¬b=a.block) h S [an a 306 [xJ xS (dZ i s (upto i) j).1],ai 3 ⟨v.ptr,j,v.cap⟩ 1 av (sinks L B)])/\j-B<j-x:=λI=>
     ⟨x+1,m9,⟨nb,by rw[<-u,I];exact q⟩,nb⟩
    refine aE ?_;refine ae (λe5=>?_) λe5=>d (by rw[show y=0 by omega];rfl);obtain⟨z,rfl⟩:∃z,y=z+1:=⟨y-1,nb⟩
    have Y:((z+1:Nat):Int)-1=(z:Int):=nb
    rw[af (((z+1:Nat):Int)-1),Y];have c:=q.seq 1 m9 λ_=>rfl;have g1:=tE (show z<m8 M by omega);have g2:=tE (show z+1<m8 M by omega);refine c.aW (z+1) m9 nb _ m9 ?_;refine c.aW z m9 nb _ m9 ?_;refine ae (λe6=>?_) λe6=>d (by rw[sink,k4 nb]);refine c.aW z m9 nb _ m9 ?_;refine c.aW (z+1) m9 nb _ m9 ?_;refine q.set ag 1 m9 (λ_=>rfl) m9 (z+1) m9 nb _ m9 m9 m9 λh7 H7=>⟨I0,?_⟩
    refine H7.set ag 1 m9 (λ_=>rfl) m9 z m9 n2 _ m9 m9 m9 λh8 U=>⟨I0,?_⟩
    refine⟨(z,ji M (z+1) z),m9,⟨n1,by dsimp only;rw[pK];exact hM,?_,?_⟩,n1⟩
    ·(try dsimp only);rw[<-u];conv=>rhs;rw[sink]
     rw[hZ nb]
    ·(try dsimp only);rw[ji,g1,g2];exact U
   .have:x=j:=nb
    subst this;refine⟨⟨v.ptr,x,v.cap⟩,m9,?_⟩;have R:=TP L;rw[p]at R;rw[R,F]at A;exact A
theorem BZ(p:Pm)(seed id:Int)(h:hY):aj xT 199 #[gx p,xJ xR seed,xJ xP id] h λv h'=>∃r:Sl,v=r/\Sp h h' [ai 3 r 1 av (if bH p&&bR id then eG (bD p).toNat seed id else[])]:=by
 refine ts Tryz.func199 ?_ (F8 (G0 [] [(6,7),(9,17)] E6)) (args:=[p,(xJ xR (seed:Int)),(id:Int)]);refine(Sp.refl h).boxed λa E G=>?_;refine aE ?_;refine⟨p,(G.box 0 m9).aw _ m9,(dV p E).mono ?_⟩;rintro v s ⟨rfl,S⟩;have y:=G.comp S;have B:(bH p&&bR id)=eR->Sp h s [ai 3 ⟨eH,0,0⟩ 1 av (if bH p&&bR id then eG (bD p).toNat seed id else[])]:=λO=>by
  rw[O];exact(y.nil 3 1 av).take 1 (λi A c=>by cases i with|zero=>exact c|succ i=>simp at c)
 refine⟨_,m9,aH (λe=>⟨⟨eH,0,0⟩,m9,B v6⟩) λl=>?_⟩;refine(kr id s).mono ?_;rintro v h3 ⟨rfl,rfl⟩;refine⟨_,m9,aH (λe=>⟨⟨eH,0,0⟩,m9,B (by rw[e];simp)⟩) λhid=>?_⟩;rw[l,hid];have V:=(bI p).1 l;have Y:bD p=p.1+p.2.1:=by rw[bD,hZ l]
 obtain⟨n,o⟩:∃n:Nat,bD p=n:=⟨(bD p).toNat,nb⟩
 rw[o,qi];refine y.boxed (t:=306) λd W D=>?_;refine(DU d _ W (D.box 1 m9)).mono ?_;rintro v L ⟨rfl,w,u⟩;have J:=D.ng 1 m9 u w;refine⟨_,m9,p,(J.box 0 m9).aw _ m9,(px p L).mono ?_⟩;rintro v Q ⟨rfl,U⟩;have F:=J.comp U;refine⟨_,m9,?_⟩
 try dsimp only
 rw[o];refine(KQ n Q nb nb).mono ?_;rintro v P ⟨t,rfl,x⟩;have H:=F.comp x;refine⟨t,m9,?_⟩;have g:∀b,t.on b->b≠d.block:=λb m X=>by
  have E:=(x.fresh 0 m9).2 b m;have s:=(F.box 1 m9).lt;omega
 refine(NI t n d _ P ((x.own 0 m9).seq (λ_=>rfl) g) (H.box 1 m9) nb nb).mono ?_;rintro v h8 ⟨rfl,f,j⟩;have z:=H.ng 1 m9 j f;refine⟨_,m9,p,(z.box 0 m9).aw _ m9,(px p h8).mono ?_⟩;rintro v N ⟨rfl,K⟩;have I:=z.comp K;refine⟨_,m9,?_⟩
 try dsimp only
 rw[o];refine(NR d _ n _ N (I.box 1 m9) nb (pM _ n)).Hf λr M k=>?_;have R:=I.call 1 m9 (λb=>b=d.block) (λq T b m=>by rw[m];exact T.2) k;exact⟨r,m9,r,m9,(R.take 3 λi A c=>by cases i with|zero=>exact c|succ i=>simp at c)⟩
theorem Fp(p:Pm)(seed id:Int)(h:hY):aj xT 192 #[gx p,xJ xR seed,xJ xP id] h λv h'=>∃r:Sl,v=r/\
  Sp h h' [ai 5 r 1 aq (if bH p&&bR id then pO (bD p).toNat seed id else[])]:=by
 refine ts Tryz.func192 ?_ (F8 (G0 [] [(6,7),(10,18)] (F8 (F9 [(26,aI)] [(9,10),(26,34)])))) (args:=[p,(xJ xR (seed:Int)),(id:Int)]);refine(Sp.refl h).boxed λa K G=>?_;refine aE ?_;refine⟨p,(G.box 0 m9).aw _ m9,(dV p K).mono ?_⟩;rintro v F ⟨rfl,N⟩;have m:=G.comp N;have y:(bH p&&bR id)=eR->Sp h F [ai 5 ⟨eH,0,0⟩ 1 aq (if bH p&&bR id then pO (bD p).toNat seed id else[])]:=λL=>by
  rw[L];exact(m.nil 5 1 aq).take 1 (λi A g=>by cases i with|zero=>exact g|succ i=>simp at g)
 refine⟨_,m9,aH (λe=>⟨⟨eH,0,0⟩,m9,y v6⟩) λk=>?_⟩;refine(kr id F).mono ?_;rintro v h3 ⟨rfl,rfl⟩;refine⟨_,m9,aH (λe=>⟨⟨eH,0,0⟩,m9,y (by rw[e];simp)⟩) λhid=>?_⟩;refine⟨p,(m.box 0 m9).aw _ m9,(px p _).mono ?_⟩;rintro v H ⟨rfl,I⟩;have P:=m.comp I;have O:=(bI p).1 k;have V:bD p=p.1+p.2.1:=by rw[bD,hZ k]
 obtain⟨n,E⟩:∃n:Nat,bD p=n:=⟨(bD p).toNat,nb⟩
 refine⟨_,m9,?_⟩
 try dsimp only
 rw[E];refine P.make ag aq cR nq 0 m9 m9 n n m9 m9 (qj _) nb λv H R J z=>?_;refine⟨p,(z.box 0 m9).aw _ m9,(BZ p seed id H).Hf λc S q=>?_⟩;rw[k,hid,E,qi]at q;rw[k,hid,qi];have s:=z.comp q;have j:=s.seq 2 m9 λ_=>rfl;have o:=j.len;obtain⟨d,b⟩:=HF (eG n seed id)
 have t:∀x∈d,0<=x/\x<(n:Int):=λx u=>kw nb nb (by rw[<-b];exact u);have B:m8 d<=n:=by rw[b];exact mK nb nb _ _
 simp only[Bool.and_self,if_true,<-b]at s j o q;refine⟨c,m9,?_⟩;refine ak (λi:Nat=>(i:Int)) (λi h'=>i<=m8 d/\Sp h h' [an a 24 [xJ xP p.1,xJ xP p.2.1,xJ xP p.2.2],ai 5 v 1 aq (ia n (d.take i)),ai 3 c 1 av d]) (λi=>m8 d-i) 0 m9 ⟨nb,s⟩ ?_;rintro i U ⟨g,l⟩;refine ae (λe=>?_) (λe=>?_)
 .have f:i<m8 d:=nb
  have u:=t _ (qe f);refine(l.seq 2 m9 λ_=>rfl).aW i m9 f _ m9 ?_;refine l.set ag 1 m9 (λ_=>rfl) m9 d[i].toNat nb (by rw[pN];omega) 1 m9 m9 m9 λT Q=>?_;refine⟨i+1,n7,⟨nb,?_⟩,nb⟩;have M:ia n (d.take (i+1))=(ia n (d.take i)).set d[i].toNat 1:=by rw[aA _ _ f,ia,wB];rfl
  rw[M];exact Q
 .rw[qh nb]at l;have D:=(l.del 2).take 1 (λi A g=>by cases i with|zero=>exact g|succ i=>simp at g);refine⟨v,m9,?_⟩;rw[b]at D;exact D
theorem Cw(p:Pm)(h:hY)(B:bH p=eL):aj xT 191 #[gx p] h λv h'=>∃r:Sl,v=r/\Sp h h' [dE 41 r 1 aq (bA p.1.toNat p.2.1.toNat)]:=by
 refine ts Tryz.func191 ?_ (F8 (F8 (E5 (E9 [(3,bJ)] [(3,48)] (F8 (E7 (E8 [(3,bJ),(4,aI)] [(3,48)] (G0 [] [(7,15)] (E5 (E7 (F8 (F9 [(6,aI)] [(6,7),(23,38)]))) E6)))))) E6))) (args:=[p]);refine(Sp.refl h).boxed λa h1 O=>?_;have R:=(bI p).1 B;obtain⟨K,W⟩:∃K:Nat,p.1=K:=⟨p.1.toNat,nb⟩
 obtain⟨b,U⟩:∃H:Nat,p.2.1=H:=⟨p.2.1.toNat,nb⟩
 refine aE ?_;refine ak (λt:Sl×Nat=>(t.1,(t.2:Int))) (λt h'=>t.2<=b/\Sp h h' [an a 24 [xJ xP p.1,xJ xP p.2.1,xJ xP p.2.2],dE 41 t.1 1 aq ((bA K b).take t.2)]) (λt=>b-t.2) (⟨eH,0,0⟩,0) m9 ⟨n4,O.sK 41 1 aq⟩ ?_;rintro⟨s,k⟩ V ⟨Y,d⟩;dsimp only at*;refine aE ⟨p.2.1,(d.box 0 m9).cell m9,?_⟩;refine ae (λe=>?_) (λe=>?_)
 .have S:k<b:=nb
  refine⟨p,(d.box 0 m9).aw _ m9,(dV p V).mono ?_⟩;rintro v X ⟨rfl,Q⟩;have w:=d.up Q.ac;refine⟨_,m9,Fz B ?_⟩;refine⟨p.1,(w.box 0 m9).cell0 m9,p.2.1,(w.box 0 m9).cell m9,?_⟩
  try dsimp only
  rw[af (p.1+p.2.1)];refine w.make ag aq cR nq 0 m9 m9 (K+b) (K+b) nb nb (qj _) nb λu h6 M T I=>?_;let rowAt:Nat->aT:=λj=>(qy j).map (λi=>Gf.pw ((k+1)*(i+1)%255))++qf (K+b-j) (0:UInt8);refine ak (λj:Nat=>(j:Int)) (λj h'=>j<=K/\Sp h h' [an a 24 [xJ xP p.1,xJ xP p.2.1,xJ xP p.2.2],dE 41 s 1 aq ((bA K b).take k),ai 5 u 1 aq (rowAt j)]) (λj=>K-j) 0 m9 ⟨nb,I⟩ ?_;rintro j N ⟨hj,g⟩;refine⟨p.1,(g.box 0 m9).cell0 m9,?_⟩;have z:(rowAt j).length=K+b:=by simp[rowAt];omega
  refine ae (λP=>?_) (λP=>?_)
  .have f:j<K:=nb
   have Z:(k+1)*(j+1)<=4*16:=zq nb nb;have J:qd xP (qd xP ((k:Int)+1)*qd xP ((j:Int)+1))=(((k+1)*(j+1):Nat):Int):=by rw[af ((k:Int)+1),af ((j:Int)+1),show((k:Int)+1)*((j:Int)+1)=(((k+1)*(j+1):Nat):Int)by rw[zS];rfl];exact kv _
   rw[J];refine(PF _ N).G6 ⟨_,m9,?_⟩;refine g.set ag 2 m9 (λ_=>rfl) m9 j m9 nb _ m9 m9 m9 λh9 q=>?_;refine⟨j+1,n7,⟨nb,?_⟩,nb⟩;have x:(rowAt j).set j (Gf.pw ((((k+1)*(j+1):Nat):Int)%255).toNat)=rowAt (j+1):=by
    have E:((((k+1)*(j+1):Nat):Int)%255).toNat=(k+1)*(j+1)%255:=nb
    rw[E];simp only[rowAt];rw[qZ _ _ n4,qn,zL,zd,show K+b-j=K+b-(j+1)+1 by omega,List.replicate_succ,List.set_cons_zero,zC,qE,ql];rfl
   rw[<-x];exact q
  .have f:j=K:=nb
   subst f;refine⟨p.1,(g.box 0 m9).cell0 m9,?_⟩
   try dsimp only
   rw[af (p.1+k)];refine g.set ag 2 m9 (λ_=>rfl) m9 (j+k) nb nb 1 m9 m9 m9 λh8 y=>?_;have x:(rowAt j).set (j+k) 1=lO j b k:=by
    simp only[rowAt,lO];rw[qZ _ _ n4];congr 1;apply zn;intro i;rw[qn,zL,qV,qM,List.length_replicate,List.getElem?_replicate];by_cases m:i<b
    .rw[List.getElem?_range m,Option.map_some];by_cases c:i=k
     .subst c;rw[hZ nb,hZ nb];simp
     .rw[k4 nb,hZ nb,k4 c]
    .rw[List.getElem?_eq_none (l:=qy b) n2,k4 nb,k4 nb];rfl
   rw[x]at y;have q:=y.freeze 2 m9 λ_=>rfl;have D:((bA j b).take k).length=k:=A1
   refine q.jM ag 1 2 nq m9 m9 cO nb λG F o=>?_;refine⟨(G,k+1),n3,⟨n1,?_⟩,n1⟩;have L:(bA j b).take (k+1)=(bA j b).take k++[lO j b k]:=by rw[aA _ _ A1];simp[bA]
   try dsimp only
   rw[L];exact o.del 2
 .refine⟨s,m9,?_⟩;rw[W,U,qi,qi];rw[qh A1]at d;exact d.take 1 (λi A m=>by cases i with|zero=>exact m|succ i=>simp at m)
theorem AV(p:Pm)(seed:Int)(d:Sl)(l:aC)(h:hY)(x:Rd h d 1 av l)(L:m8 l<=2^30):aj xT 204 #[gx p,xJ xR seed,d] h λv h'=>∃r:Sl,v=r/\Sp h h' [dE 41 r 1 aq (eM p seed l)]:=by
 refine ts Tryz.func204 ?_ (F8 (F8 (F8 (F9 [(7,bJ),(17,aI)] [(7,8),(9,10),(17,31)])))) (args:=[p,(xJ xR (seed:Int)),d]);refine(Sp.refl h).boxed λa H B=>?_;refine⟨p,(B.box 0 m9).aw _ m9,(dV p H).mono ?_⟩;rintro v I ⟨rfl,J⟩;have o:=B.up J.ac;refine⟨_,m9,aH (λe=>⟨⟨eH,0,0⟩,m9,?_⟩) λj=>?_⟩
 .rw[eM,e];exact(o.sK 41 1 aq).take 1 (λi A g=>by cases i with|zero=>exact g|succ i=>simp at g)
 refine⟨p,(o.box 0 m9).aw _ m9,(Cw p I j).mono ?_⟩;rintro v h3 ⟨r,rfl,E⟩;have b:=o.comp E;refine⟨r,m9,?_⟩;have z:=x.len;let at_:Nat->dT:=λk=>eM p seed (l.take k);have h0:bA p.1.toNat p.2.1.toNat=at_ 0:=by simp[at_,eM,j]
 rw[h0]at b;refine ak (λt:Sl×Nat=>(t.1,(t.2:Int))) (λt h'=>t.2<=m8 l/\Sp h h' [an a 24 [xJ xP p.1,xJ xP p.2.1,xJ xP p.2.2],dE 41 t.1 1 aq (at_ t.2)]) (λt=>m8 l-t.2) (r,0) m9 ⟨n4,b⟩ ?_;rintro⟨s,k⟩ h3 ⟨M,b⟩;dsimp only at*;refine ae (λe=>?_) (λe=>?_)
 .have c:k<m8 l:=nb
  refine(Seq.up x b.ac).aW k m9 c _ m9 ((kr l[k] h3).mono ?_);rintro v N ⟨rfl,rfl⟩;refine⟨_,m9,?_⟩;have u:=FM p seed (l.take k);rw[qx]at u;have q:(at_ k).length+1<=2^32:=by show(eM p seed (l.take k)).length+1<=2^32;omega
  refine aS (λm=>?_) (λm=>?_)
  .refine⟨p,(b.box 0 m9).aw _ m9,(Fp p seed l[k] _).Hf λw D y=>?_⟩;rw[j,show bR l[k]=eL from m]at y;have F:=(b.comp y).freeze 2 m9 λ_=>rfl;refine⟨w,m9,?_⟩;refine F.jM ag 1 2 nq m9 m9 cO q λG D K=>?_;refine⟨(G,k+1),n3,⟨n1,?_⟩,n1⟩;have f:at_ (k+1)=at_ k++[pO (bD p).toNat seed l[k]]:=by simp only[at_];rw[aA _ _ c,JD,j,show bR l[k]=eL from m];rfl
   try dsimp only
   rw[f];exact K.del 2
  .refine⟨(s,k+1),n3,⟨n1,?_⟩,n1⟩;have f:at_ (k+1)=at_ k:=by simp only[at_];rw[aA _ _ c,JD,show bR l[k]=eR from m,vm];rfl
   try dsimp only
   rw[f];exact b
 .refine⟨s,m9,?_⟩;have f:at_ k=eM p seed l:=by simp only[at_];rw[qh nb]
  rw[f]at b;exact b.take 1 (λi A g=>by cases i with|zero=>exact g|succ i=>simp at g)
theorem lN(a:Sl)(m:aO)(n:Nat)(h:hY)(c:eF h a 1 aq m)(g:aU n m)(t:n<=64:=by omega)(u:m8 m<=2^30:=by omega):aj xT 265 #[a] h λv h'=>v=xN eL/\h'=h:=by
 refine ts Tryz.func265 ?_ (F8 (F9 [(6,aI)] [(2,4),(6,28)]));have o:=c.len;refine ak (λk:Nat=>(k:Int)) (λk h'=>h'=h/\k<=m8 m) (λk=>m8 m-k) 0 m9 ⟨m9,nb⟩ ?_;rintro k h' ⟨rfl,q⟩;refine ae (λe=>?_) λe=>⟨m9,m9⟩;have b:k<m8 m:=nb
 refine c.get k m9 b λr j=>?_;refine c.get 0 m9 nb λs d=>?_;have i:=j.len;have l:=d.len;rw[g _ (qe _)]at i l;refine bm (λe=>nb) λ_=>?_;refine c.get k m9 b λp f=>?_;have h3:=f.len;rw[g _ (qe _)]at h3;refine ae (λe=>nb) λ_=>?_;exact⟨k+1,n7,⟨m9,nb⟩,nb⟩
theorem find_range_succ(P:Nat->Bool)(i:Nat):(qy (i+1)).find? P=((qy i).find? P).or (if P i then dB i else eH):=by rw[zC,vX];congr 1;by_cases h:P i<;>simp[h]
def NS:Option Nat->Int
 |some i=>i
 |none=>-1
theorem Cb(m:aO)(i j:Nat):fQ m i j=fQ m j i:=by
 by_cases h:i=j
 .rw[h]
 .rw[fQ,fQ,List.set_comm _ _ λa=>h a.symm]
theorem Cc{a t:Row}(h:m8 a=m8 t:=by omega):cN 0 a t=t:=by apply zW (by rw[cl h]);intro i c b;simp[cN,Gf.zero_mul]
theorem Jl(a:Sl)(m:aO)(n:Nat)(h:hY)(ha:eF h a 1 aq m)(hm:aU n m)(hn:n<=64)(hs:m8 m<=2^30):
  aj xT 331 #[a] h λv h'=>∃r:Sl,v=r/\r.len=cz m/\Sp h h' []:=by
 refine ts Tryz.func331 ?_ (F8 (F8 (F8 (E5 (F8 (E7 (E8 [(3,bJ),(15,aI)] [(3,5),(15,27)] E6))) (F8 (E5 (E9 [(5,aI)] [(5,10),(27,132)] (F8 (E7 (E8 [(5,aI),(6,aI)] [(5,10),(27,132)] (G0 [] [(27,38)] (E5 (E7 (F8 (E5 (F8 (E7 (E8 [(7,aI),(8,aI)] [(7,9),(41,60)] E6))) (F8 (G0 [] [(62,76)] (G0 [] [(76,92)] (E5 (F8 (E7 (E8 [(94,aI)] [(9,10),(94,130)] (F8 (F8 (E5 (E7 (F8 (G0 [(109,mR)] [(97,110)] E6))) E6)))))) E6))))))) E6)))))) E6)))))) [(21,(.l [0,1,2,3,4,5,6,7,8,10,11,12,13,9,14,15,16]))];refine(lN a m n h ha hm hn hs).mono ?_;rintro v z ⟨rfl,rfl⟩;refine⟨_,m9,aH (λe=>n5) λ_=>?_⟩;have hl:=ha.len;refine ak (λt:Sl×List Sl=>(t.1,(m8 t.2:Int))) (λt h'=>m8 t.2<=m8 m/\Sp z h' (ai 41 t.1 1 bv t.2::bt 5 1 aq t.2 (m.take t.2.length))) (λt=>m8 m-m8 t.2) (⟨eH,0,0⟩,[]) m9 ⟨n4,by simpa[bt]using(Sp.refl z).nil 41 1 bv⟩ ?_;rintro⟨s,rs⟩ h2 ⟨hk,H2⟩;dsimp only at*;refine ae (λe=>?_) (λe=>?_)
 .have B:m8 rs<m8 m:=nb
  refine(ha.up H2.ac).get rs.length m9 B λr hr=>?_;have cq:m[m8 rs].length=n:=hm _ (qe _);have a5:(bt 5 1 aq rs (m.take rs.length)).length=m8 rs:=by rw[gD p8,qx];omega
  have Hn:=H2.nil 5 1 aq;have al:((ai 41 s 1 bv rs::bt 5 1 aq rs (m.take rs.length))++[ai 5 ⟨eH,0,0⟩ 1 aq ([]:aT)])[m8 rs+1]?=dB (ai 5 ⟨eH,0,0⟩ 1 aq []):=by rw[qk n2,q7,a5,zd];rfl
  refine Hn.append ag (m8 rs+1) al cR ⟨_,_,m9,m9⟩ m9 nq (λ_=>rfl) hr cH n2 λw h3 I=>?_;have ca:Sp z h3 ((ai 41 s 1 bv rs::bt 5 1 aq rs (m.take rs.length))++[ai 5 w 1 aq m[m8 rs]]):=by rw[qZ _ _ n2,q7,a5,zd]at I;exact I
  refine ca.push ag 0 m9 cO m9 nq (λ_=>rfl) jQ w m9 nq nb λs' h4 H4=>?_;refine⟨(s',rs++[w]),by dsimp only;rw[af _];simp,⟨n2,?_⟩,n2⟩
  try dsimp only
  rw[show(rs++[w]).length=m8 rs+1 by simp,aA _ _ B,oP p8];exact H4
 .have R:m.take rs.length=m:=qh nb;rw[R]at H2;have b3:m8 rs=m8 m:=nb
  have bk:s.len=m8 m:=by rw[(H2.own 0 m9).len,b3]
  have cy:=(H2.own 0 m9).cap;have a8:m≠[]->eI m=n:=λam=>by
   have:0<m8 m:=List.length_pos_iff.2 am;rw[eI,be this];exact hm _ (qe _)
  refine bn (λ(d:Int) h'=>d=(cz m:Int)/\Sp z h' []) ?_ ?_
  .refine ak (λt:List Sl×Nat=>(((aY m t.2).1:Int),(t.2:Int))) (λt h'=>t.2<=eI m/\t.1.length=m8 m/\Sp z h' (kX s t.1 (aY m t.2).2)) (λt=>eI m-t.2) (rs,0) m9 ⟨n4,b3,H2⟩ ?_;rintro⟨g,aV⟩ h3 ⟨H,ci,I⟩;dsimp only at*;have Q:=fV hm aV;have p:=oR m aV;have fin:¬(0<m8 m/\aV<eI m)->((aY m aV).1:Int)=(cz m:Int)/\Sp z h3 []:=λhh=>by
    refine⟨?_,.zip I.ac⟩;by_cases h0:0<m8 m
    .have:aV=eI m:=nb
     rw[this];rfl
    .have:m=[]:=qR nb;subst this;rw[cz,kC,kC]
   obtain⟨st,bb⟩:=HF (aY m aV)
   rw[<-bb]at Q p I fin⊢;obtain⟨b,f⟩:=st;dsimp only at Q p I fin⊢;have y:m8 g=m8 f:=nb
   have o:aY m (aV+1)=fR (b,f) aV:=by rw[aY,<-bb]
   refine aE ?_;refine ae (λe0=>?_) λe0=>fin nb;have am:m≠[]:=λhh=>by rw[hh]at bk;simp at bk;omega
   have hw:=a8 am;refine(I.Jy y λ_=>rfl).get 0 m9 nb λr0 b4=>?_;have b0:=b4.len;rw[Q.1 _ (qe _)]at b0;refine ae (λe1=>?_) λe1=>fin nb;have c7:aV<n:=nb
   have a6:eF h3 s 1 aq f:=I.Jy y λ_=>rfl;let P:Nat->Bool:=λi=>decide (b<=i)&&(aM (az f i) aV !=0);have b9:(qy b).find? P=eH:=GO λj hj=>by show(decide (b<=j)&&_)=eR;rw[m5 nb];rfl
   refine ak (λi:Nat=>(NS ((qy i).find? P),(i:Int))) (λi h'=>h'=h3/\b<=i/\i<=m8 f) (λi=>m8 f-i) b (by rw[b9];rfl) ⟨m9,qj _,p⟩ ?_;rintro i h4 ⟨rfl,b7,c6⟩
   try dsimp only
   refine ae (λR=>?_) (λR=>?_)
   .have b1:i<m8 f:=nb
    have cq:f[i].length=n:=Q.1 _ (qe _);refine a6.get i m9 b1 λr hr=>?_;refine hr.aW aV m9 nb _ m9 ?_;have M:aM (az f i) aV=f[i][aV]'nb:=by rw[be b1,mq]
    rw[af ((i:Int)+1)];have K:=find_range_succ P i;have nx:∀x:Int,x=NS ((qy (i+1)).find? P)->∃F:Nat,(x,(i:Int)+1)=(NS ((qy F).find? P),(F:Int))/\(h4=h4/\b<=F/\F<=m8 f)/\f.length-F<m8 f-i:=λx hx=>
     ⟨i+1,by rw[hx];rfl,⟨m9,nb,nb⟩,nb⟩
    refine bm (λe3=>?_) (λe3=>?_)
    .have ap:P i=eL:=by show(decide (b<=i)&&(aM (az f i) aV !=0))=eL;rw[ln b7,M];simp;exactλh0=>e3 (by rw[h0];rfl)
     rw[ap,hZ rfl]at K;refine ae (λe4=>nx _ ?_) (λe4=>nx _ ?_)
     .cases hf:(qy i).find? P with
      |none=>rw[K,hf];rfl
      |some x=>rw[hf]at e4;simp only[NS]at e4;omega
     .cases hf:(qy i).find? P with
      |none=>rw[hf]at e4;simp[NS]at e4
      |some x=>rw[K,hf];rfl
    .have ap:P i=eR:=by show(decide (b<=i)&&(aM (az f i) aV !=0))=eR;rw[M,nA.1 e3];simp
     rw[ap]at K;refine nx _ ?_;rw[K]
     cases(qy i).find? P<;>rfl
   .have cd:i=m8 f:=nb
    subst cd;have b2:(qy f.length).find? P=fB f b aV:=rfl;rw[b2];cases hb:fB f b aV with
    |none=>
     refine ae (λ_=>?_) λR=>absurd nq R;refine⟨(g,aV+1),?_,⟨n1,ci,?_⟩,n1⟩
     ·(try dsimp only);rw[o,fR,hb,af _];rfl
     ·(try dsimp only);rw[o,fR,hb];exact I
    |some at_=>
     have hh:=kQ hb;refine ae (λR=>absurd (show((at_:Nat):Int)<0 from R) nb) λ_=>?_;have ax:b<m8 f:=nb
     have hi:=hh.2.1;have bd:=I.seq 0 m9 λ_=>rfl;refine aE ?_;refine bd.dR b m9 nb λ_ _ _=>?_;refine bd.dR at_ m9 nb λ_ _ _=>?_;refine I.set ag 0 m9 (λ_=>rfl) m9 at_ m9 nb (g[b]'nb) m9 m9 m9 λh5 H5=>⟨I0,?_⟩
     refine H5.set ag 0 m9 (λ_=>rfl) m9 b m9 n2 (g[at_]'nb) m9 m9 m9 λh6 H6=>⟨I0,?_⟩
     have J:Sp z h6 (kX s ((g.set at_ (g[b]'nb)).set b (g[at_]'nb)) (fQ f b at_)):=by have:=H6.Sa (at_+1) (b+1) (A:=ai 5 (g[at_]'nb) 1 aq f[at_]) (A2:=ai 5 (g[b]'nb) 1 aq f[b]) (eN y at_ hi) (eN y b ax);show aa _ z h6 (ai 41 s 1 bv _::bt 5 1 aq _ _);rw[Cb,<-DD y at_ b hi ax];exact this
     obtain⟨u,Z⟩:=HF ((g.set at_ (g[b]'nb)).set b (g[at_]'nb))
     rw[<-Z]at J;have c2:m8 u=m8 f:=by rw[Z];simp;omega
     obtain⟨m2,S⟩:=HF (fQ f b at_)
     have Y:aU n m2:=by rw[S];exact ov Q.1 ax hi
     have c0:m8 m2=m8 f:=by rw[S];exact jb _ _ _
     rw[<-S]at J;have G:m8 u=m8 m2:=nb
     have q:b<m8 m2:=nb
     refine aE ?_;have gt:=lK (a:=s) G b q;have lt:m2[b].length=n:=Y _ (qe _);have a0:=J.seq 0 m9 λ_=>rfl;refine a0.dR b m9 nb λc4 ab _=>?_;have ah:=J.seq (b+1) gt λ_=>rfl;refine ah.aW aV m9 nb _ m9 ?_;refine a0.dR b m9 nb λc1 a2 _=>?_;refine(Aw _ h6).mono ?_;rintro v h7 ⟨rfl,rfl⟩;refine⟨_,m9,⟨a2,ab,I0⟩,?_⟩;refine(mv _ _ _ h7 ah nb).mono ?_;rintro v h8 ⟨r,rfl,R8⟩;refine⟨r,m9,⟨eE ab R8.ac,I0⟩,?_⟩;have H8:=J.comp R8
     try dsimp only
     refine H8.set ag 0 m9 (λ_=>rfl) m9 b m9 nb r m9 m9 m9 λh9 H9=>⟨I0,?_⟩
     have ao:m2[b]=az m2 b:=(be q).symm;have cr:(m2[b])[aV]'nb=aM (az m2 b) aV:=by rw[mq (by rw[be q];omega)];simp only[be q]
     have br:Sp z h9 (kX s (u.set b r) (ga b aV m2)):=by have h8:Sp z h9 ((ai 41 s 1 bv (u.set b r)::bt 5 1 aq u m2)++[ai 5 r 1 aq (scaleB (Gf.inv ((m2[b])[aV]'nb)) m2[b])]):=H9;have h9:=h8.LY (b+1) (by simp[gD G];omega);rw[cr,ao]at h9;show aa _ z _ (ai 41 s 1 bv _::bt 5 1 aq _ (m2.set b _));rw[<-jF G];exact h9
     obtain⟨W,ad⟩:=HF (u.set b r)
     obtain⟨c,X⟩:=HF (ga b aV m2)
     rw[<-ad,<-X]at br;have c5:m8 W=m8 f:=by rw[ad];simp;omega
     have a7:m8 c=m8 f:=by rw[X,kR];omega
     have L:aU n c:=by rw[X];exact mL Y q
     have O:b<m8 c:=nb
     have N:fR (b,f) aV=(b+1,bN b aV c f.length):=by rw[fR];(try dsimp only);rw[hb,X,S]
     refine ak (λt:Nat×List Sl=>(t.1:Int)) (λt h'=>t.1<=m8 c/\t.2.length=m8 c/\Sp z h' (kX s t.2 (bN b aV c t.1))) (λt=>m8 c-t.1) (0,W) m9 ⟨n4,n1,by rw[ow];exact br⟩ ?_;rintro⟨k,D⟩ a4 ⟨c9,bq,E⟩;dsimp only at*;have cs:=kS b aV c k;have U:m8 D=(bN b aV c k).length:=by rw[cs];exact bq
     refine ae (λe=>?_) (λe=>?_)
     .have B:k<m8 c:=nb
      have a9:az (bN b aV c k) k=az c k:=by rw[jm B,k4 nb]
      have e4:(bN b aV c k)[k]'nb=az c k:=by rw[<-a9,be]
      have gk:=lK (a:=s) U k nb;rw[e4]at gk;have lk:=bY L B;rw[af ((k:Int)+1)];have skip:bN b aV c (k+1)=bN b aV c k->∃F:Nat×List Sl,(k:Int)+1=(F.1:Int)/\(F.1<=m8 c/\F.2.length=m8 c/\Sp z a4 (kX s F.2 (bN b aV c F.1)))/\c.length-F.1<m8 c-k:=λcn=>
       ⟨(k+1,D),m9,⟨n1,bq,by dsimp only;rw[cn];exact E⟩,n1⟩
      refine aE ?_;have T:=E.seq 0 m9 λ_=>rfl;have ay:=E.seq (k+1) gk λ_=>rfl;have H:(az c k)[aV]'nb=aM (az c k) aV:=(mq).symm;refine bm (λR=>?_) (λR=>sn m9 (skip ?_))
      .have V:k≠b:=λhh=>R (by rw[hh]);refine T.dR k m9 nb λ_ _ _=>?_;refine ay.aW aV m9 nb _ m9 ?_;refine bm (λe3=>?_) (λe3=>skip ?_)
       .have ao:az (bN b aV c k) b=az c b:=by rw[jm O,k4 nb]
        have e5:(bN b aV c k)[b]'nb=az c b:=by rw[<-ao,be]
        have gt:=lK (a:=s) U b nb;rw[e5]at gt;have lt:=bY L O;refine T.dR k m9 nb λa1 cc _=>?_;refine ay.aW aV m9 nb _ m9 ?_;refine T.dR b m9 nb λ_ _ _=>?_;refine T.dR k m9 nb λ_ _ _=>?_;refine(jX _ _ _ (az c b) (az c k) a4 (E.seq (b+1) gt λ_=>rfl) ay nb nb).Hf λw c8 a3=>⟨w,m9,⟨eE cc a3.ac,I0⟩,?_⟩;have b6:=E.comp a3
        skip
        refine b6.set ag 0 m9 (λ_=>rfl) m9 k m9 nb w m9 m9 m9 λcb cp=>⟨I0,?_⟩
        refine⟨(k+1,D.set k w),m9,⟨n1,n2,?_⟩,n1⟩
        try dsimp only
        rw[kB B V];have cf:Sp z cb ((ai 41 s 1 bv (D.set k w)::bt 5 1 aq D (bN b aV c k))++[ai 5 w 1 aq (cN ((az c k)[aV]'nb) (az c b) (az c k))]):=cp;have bl:=cf.LY (k+1) (by simp[gD U];omega);rw[H]at bl;show aa _ z _ (ai 41 s 1 bv _::bt 5 1 aq _ ((bN b aV c k).set k _));rw[<-jF U];exact bl
       .have hz:aM (az c k) aV=0:=by rw[<-H];exact nA.1 e3
        rw[kB B V,hz,Cc (by rw[bY L O,lk])];apply zn;intro j;rw[qV];split
        .rename_i cu;subst cu;rw[hZ nb,qc nb,e4]
        .rfl
      .have V:k=b:=nb
       subst V;exact uR
     .have b5:k=m8 c:=nb
      subst b5;refine⟨(D,aV+1),?_,⟨n1,n1,?_⟩,n1⟩
      ·(try dsimp only);rw[o,N,af _,af _];rfl
      ·(try dsimp only);rw[o,N,<-a7];exact E
  .rintro d h3 ⟨rfl,R3⟩;have p:=oR m (eI m);rw[(fV hm _).2]at p;have a9:cz m=(aY m (eI m)).1:=rfl;exact⟨⟨nb,nb⟩,⟨s.ptr,cz m,s.cap⟩,n4,m9,R3⟩
theorem uG(a:Sl)(m:aO)(n:Nat)(h:hY)(e:eF h a 1 aq m)(b:aU n m)(d:n<=64:=by omega)(f:m8 m<=2^30:=by omega):
  aj xT 266 #[a] h λv h'=>v=xJ xP (cz m)/\Sp h h' []:=by
 refine ts Tryz.func266 ?_;refine(Jl a m n h e b d f).Hf λr i ⟨g,c⟩=>⟨r,m9,by rw[g],c⟩
theorem Jm(p:Pm)(seed:Int)(b:Sl)(l:aC)(h:hY)(f:Rd h b 1 av l)(o:m8 l<=2^29):aj xT 262 #[gx p,xJ xR seed,b] h λv h'=>v=xJ xP (Bv p seed l)/\Sp h h' []:=by
 refine ts Tryz.func262 ?_ (args:=[p,(xJ xR (seed:Int)),b]);refine(Sp.refl h).boxed λa j d=>?_;refine⟨p,(d.box 0 m9).aw _ m9,(AV p seed b l j (Seq.up f d.ac) nb).mono ?_⟩;rintro v k ⟨r,rfl,n⟩;have e:=d.comp n;have m:=FM p seed l;have c:(bD p).toNat<=64:=by
  unfold bD;split
  .rename_i i;have:=(bI p).1 i;omega
  .omega
 refine⟨r,m9,(uG r _ _ k (e.oL 1 m9) (oy p seed l) c).G7 λh3 g=>?_⟩;exact⟨_,m9,m9,.zip (e.comp g).ac⟩
theorem NT(p:Pm)(seed:Int)(b:Sl)(l:aC)(h:hY)(k:Rd h b 1 av l)(f:m8 l<=2^29):aj xT 190 #[gx p,xJ xR seed,b] h λv h'=>v=xN (fI p seed l)/\Sp h h' []:=by refine ts Tryz.func190 ?_ E6 [(1,(.l [0,1,2,3,4,5,7,6,8,9,10,11]))] (args:=[p,(xJ xR (seed:Int)),b]);refine(Sp.refl h).boxed λa q i=>?_;refine⟨p,(i.box 0 m9).aw _ m9,(dV p q).mono ?_⟩;rintro v r ⟨rfl,s⟩;have d:=i.comp s;refine⟨_,m9,I0,aS (λe=>?_) λe=>⟨I0,I0,E0,.zip d.ac⟩⟩;have g:=d.box 0 m9;refine⟨p,g.aw _ m9,p,g.aw _ m9,(Jm p seed b l r (Seq.up k d.ac) f).mono ?_⟩;rintro v h3 ⟨rfl,m⟩;have j:=d.comp m;have c:=j.box 0 m9;refine⟨_,m9,⟨c.cell0 m9,c.cell m9,c.cell m9,I0⟩,(px p h3).G7 λt o=>?_⟩;exact⟨_,m9,I0,E0,.zip (j.comp o).ac⟩
section
variable {C:Int->aT}
structure aeD (W:cV) (n:Nat):Prop where
 nd:W.flatten.Nodup
 mem:∀y,y∈W.flatten↔∃j:Nat,j<n/\y=j
structure aeY (m:aB) (live:aC) (t:Int) (e:Qw.cZ) (n0:Nat) (ds':aG) (err:Int) (k:Nat):Prop where
 upto:aeD (No m ds' e.object ((0:Nat):Int) live) (n0+k)
 few:k<=64
 most:err=12->k=64
 last:err=0->0<k->∃Wp:cV,Wp.length=live.length/\aec m.p (fx e.object 0 (e.tries.getD 0 0)) Wp t.toNat≠eH/\∀i y,y∈(No m ds' e.object ((0:Nat):Int) live).getD i []->y+1≠((n0+k:Nat):Int)->y∈Wp.getD i []
def aeE(m:aB)(a:aG)(k:Int):Nat:=match bX a k with|some d=>(iI m d.l).length|none=>0
def adB(m:aB)(a:aG)(live:aC):Nat:=(live.map (aeE m a)).sum
end
section
variable {C:Int->aT}
structure Kept (m:aB) (C:Int->aT) (ds:aG) (r:Nat×Int×Pow×aG) (M:Nat):Prop where
 pow:r.2.2.1=Pow.new
 err:r.2.1≠14
 arg:r.2.1=1->r.1=0
 few:r.1<=(abo m.objs).length*M
 keep:aeA m ds r.2.2.2
 sto:NH m C r.2.2.2
 tot:adB m r.2.2.2 (bh ds m.drives)=adB m ds (bh ds m.drives)+r.1
end
section
variable {pw:fY}
theorem rH(o b t:Int)(h:hY):aj xT 117 #[xJ xP o,xJ xP b,xJ xP t] h λv h'=>v=xJ xR (fx o b t)/\h'=h:=by refine um o b t ⟨?_,m9⟩;congr 1;simp only[wrap_u32];unfold fx;omega
end
def Ia(r s:ct):Bool:=decide (r.object<s.object∨(r.object=s.object/\(r.block<s.block∨(r.block=s.block/\r.id<s.id))))
theorem DY{r s:ct}:Ia r s=eL↔ou r s:=by unfold Ia;rw[decide_eq_true_eq,lt_iff]
theorem NU{r s:ct}:Ia r s=eR↔¬ou r s:=by rw[<-DY,Bool.not_eq_true]
def TQ(x:bw)(r:ct):Prop:=x.1=r.object/\x.2.1=r.block/\x.2.2.1=r.id
section
theorem Ib(x y:bw)(r s:ct)(h:hY)(d:TQ x r)(j:TQ y s):aj xT 154 #[recv x,recv y] h λv h'=>v=xN (Ia r s)/\Sp h h' []:=by
 refine ts Tryz.func154 ?_ (args:=[x,y]);obtain⟨l,x2,x3⟩:=d;obtain⟨o,m,p⟩:=j;refine(Sp.refl h).boxed λq k i=>i.boxed λn g c=>?_;have a:=c.box 0 m9;have b:=c.box 1 m9;have z:Sp h g []:=.zip c.ac;unfold Ia;refine⟨x.1,a.cell0 m9,y.1,b.cell0 m9,bm (λe=>⟨x.1,a.cell0 m9,y.1,b.cell0 m9,?_,z⟩) λe=>⟨x.2.1,a.cell m9,y.2.1,b.cell m9,bm (λf=>⟨x.2.1,a.cell m9,y.2.1,b.cell m9,?_,z⟩) λf=>⟨x.2.2.1,a.cell m9,y.2.2.1,b.cell m9,?_,z⟩⟩⟩
 .congr 1;rw[decide_eq_decide];omega
 .congr 1;rw[decide_eq_decide];omega
 .congr 1;rw[decide_eq_decide];omega
theorem DZ(x:bc)(m:aB)(y:bw)(r:ct)(h:hY)(D:cv h x m)(hz:bM m)(hy:fm cK h y r):
  aj xT 153 #[cC x,recv y] h λv h'=>v=xN (dK m r)/\Sp h h' []:=by
 refine ts Tryz.func153 ?_ (F8 (G0 [] [(4,5),(7,17)] (F9 [(20,aI)] [(4,5),(6,7),(20,54)]))) (args:=[x,y]);refine(Sp.refl h).boxed λa1 h1 H1=>H1.boxed λR h2 A=>?_;obtain⟨⟨e1,e2,e3,U,e5,e7,e8⟩,e6⟩:=id hy;have S:=congrArg (·.1) D.p;have K:=congrArg (·.2.1) D.p;have L:=congrArg (·.2.2) D.p;have F:=congrArg (·.1) U;have N:=congrArg (·.2.1) U;have O:=congrArg (·.2.2) U;have ad:=hz.ob;refine aE ⟨y,(A.box 1 m9).aw _ m9,(DW y r h2 (cK.mono (cK.loc hy A.ac) λ_ hb=>qU hb A.ac.1)).G7 λh3 R3=>?_⟩;have f:=A.up R3.ac;have b1:=f.box 0 m9;have H:=f.box 1 m9;refine⟨_,m9,aH (λg=>⟨by unfold dK;rw[g];rfl,.zip f.ac⟩) λg=>?_⟩;obtain⟨_,g2,_⟩:=(jS r).1 g;refine⟨r.p,by rw[<-F,<-N,<-O];exact H.mE 3 m9 m9 m9,m.p,by rw[<-S,<-K,<-L];exact b1.mE 2 m9 m9 m9,_,MO _ _ r.p m.p,aH (λW=>⟨?_,.zip f.ac⟩) λW=>?_⟩
 .unfold dK;rw[g,W];rfl
 obtain⟨P,hP⟩:∃P:Qw.cZ->Bool,P=λx=>decide (x.object=r.object)&&(decide (r.block<(x.tries.length:Int))&&decide (r.seed=fx r.object r.block (x.tries.getD r.block.toNat 0))):=⟨_,rfl⟩
 have o:dK m r=m.objs.any P:=by unfold dK;rw[g,W,hP];rfl
 refine⟨x.2.2.2.2.2.2.2,b1.cell m9,?_⟩;obtain⟨X,q1,q2,q3⟩:=ce.kZ (D.up f.ac).objs;have ab:=q1.len;refine ak (λi:Nat=>(i:Int)) (λi h'=>i<=m.objs.length/\(m.objs.take i).any P=eR/\Sp h3 h' []) (λi=>m.objs.length-i) 0 m9 ⟨qW _,m9,Sp.refl h3⟩ ?_;rintro i h4 ⟨hi,c,J⟩
 try dsimp only
 refine ae (λe=>?_) λe=>?_
 rotate_left
 .have Q:i=m.objs.length:=nb
  rw[Q,qt]at c;exact⟨by rw[o,c],.zip (f.up J.ac).ac⟩
 have b:i<m.objs.length:=nb
 have q:i<X.length:=nb
 obtain⟨E,M⟩:=HF (m.objs[i])
 have k:=q3 i q b;rw[<-M]at k;obtain⟨u,hu⟩:=HF (X[i])
 rw[<-hu]at k;obtain⟨⟨y1,y2,y3⟩,y4⟩:=k;have ah:=Seq.len y4;have G:(m.objs.take (i+1)).any P=P E:=by rw[aA _ _ b,ye,c,vB,vV,yp,va,M]
 refine(Seq.up q1 J.ac).cQ (g:=bf) i m9 q u (by rw[hu]) ?_;refine J.alloc ag m9 λa5 h5 R5=>?_;refine R5.storeAll ag 0 m9 m9 (bf u) m9 m9 m9 m9 λd z=>?_;have Z:=z.box 0 m9;have j:=H.ac z.ac H.lt;have next:P E=eR->∃t:Nat,qd xP ((i:Int)+1)=(t:Int)/\(t<=m.objs.length/\(m.objs.take t).any P=eR/\Sp h3 d [])/\m.objs.length-t<m.objs.length-i:=λhp=>
  ⟨i+1,n7,⟨b,by rw[G];exact hp,.zip z.ac⟩,nb⟩
 have B:hU d (a5.add 1)=dB (xJ xP E.object):=by rw[<-y2];exact Z.cell m9
 have s:hU d (a5.add 3)=dB (xK u.2.2.2.ptr u.2.2.2.len u.2.2.2.cap):=Z.cell m9;have w:hU d R=dB (xJ xP r.object):=by rw[<-e1];exact j.cell0 m9
 have l:hU d (R.add 1)=dB (xJ xP r.block):=by rw[<-e2];exact j.cell m9
 have c6:hU d (R.add 6)=dB (xJ xR r.seed):=by rw[<-e5];exact j.cell m9
 have a:P E=(decide (E.object=r.object)&&(decide (r.block<(E.tries.length:Int))&&decide (r.seed=fx r.object r.block (E.tries.getD r.block.toNat 0)))):=by rw[hP]
 refine⟨E.object,B,r.object,w,aZ (λV=>?_) λV=>⟨⟨w,B,I0⟩,next (by rw[a,m5 V];rfl)⟩⟩;refine⟨r.block,l,u.2.2.2,s,ae (λg5=>?_) λg5=>⟨⟨s,l,w,B,I0⟩,next (by rw[a,m5 (show¬r.block<(E.tries.length:Int)by omega)];simp)⟩⟩;have Y:r.block.toNat<E.tries.length:=nb
 refine⟨r.seed,c6,r.object,w,r.block,l,u.2.2.2,s,r.block,l,?_⟩;refine Seq.aW (Seq.up y4 z.ac) r.block.toNat nb Y (E.tries.getD r.block.toNat 0) (by rw[getD_lt Y];rfl) ?_;refine(rH _ _ _ d).G6 ⟨_,m9,⟨l,s,c6,s,l,w,B,I0⟩,aZ (λT=>?_) λT=>next (by rw[a,m5 T];simp)⟩;refine⟨?_,.zip (f.up (aa.ac z)).ac⟩;have I:P E=eL:=by rw[a,ln V,ln (show r.block<(E.tries.length:Int)by omega),ln T];rfl
 rw[o,zR.2 ⟨E,by rw[M];exact qe b,I⟩]
theorem aa.aav{t:Nat}{f:bu->Sl->Sl->aR}{B:ar}{g h:hY}{As:List HP}{a:fY}{d:bu}(H:aa B g h (kh t f a d::As)):ff d/\∃(s b:Sl) (rs:List Sl),bQ h a t (f d s b)/\gE (gf 1 aq) 1 bv h s rs d.l:=by obtain⟨ok,s,b,c⟩:=H.kb;obtain⟨rs,e⟩:=aa.Ho (c.aF 3 [1]) λ_=>rfl;exact⟨ok,s,b,rs,c.box 0 m9,e.dv 0 m9⟩
theorem Cx(b pw:fY)(d:bu)(s sb:Sl)(rs:List Sl)(z:bc)(m:aB)(h:hY)(I:bQ h b 174 (dF pw d s sb))(hF:gE (gf 1 aq) 1 bv h s rs d.l)(ok:ff d)(a:cv h z m)(hz:bM m):
  aj xT 85 #[xL (dB b),cC z] h λv h'=>∃(r:Sl) (T:List (bw×ct)),v=r/\T.map zg=iI m d.l/\Keyed T/\Sp h h' [bV r (T.map qC),gg T]:=by
 refine ts Tryz.func85 ?_ (F8 (F8 (E5 (F8 (E7 (E8 [(5,bJ),(16,aI)] [(5,6),(7,11),(16,71)] (F8 (F8 (E5 (E7 (F8 (F8 (G0 [] [(25,33)] (F8 (E5 (E9 [(10,aI)] [(10,11),(35,48)] (E7 (E8 [(10,aI)] [(10,11),(35,48)] (G0 [] [(35,46)] E6)))) (G0 [(58,mR)] [(48,59)] E6))))))) E6)))))) E6))) [(11,(.y [0,1,2,4,6,7,8] (.l [3,5,9,10,11]) (.y [5] (.l [3,9,10,11]) (.l [9,3,10,11]))))] (args:=[(dB b),z]);have b2:=ok.len;have b1:=ok.room;refine(Sp.refl h).boxed λJ h1 H1=>?_;have bb:=I.ac H1.ac I.lt;refine⟨b,m9,s,bb.cell m9,?_⟩;have b5:=hF.1.len;have b3:=hF.2.1;have H2:Sp h h1 [bV ⟨eH,0,0⟩ [],gg [],an J 27 (aD z)]:=
  ((H1.comp (.one (aQ.refl _ _) λt A=>(by cases A))).nil 128 8 bB).bs [2,1,0]
 refine ak (λt:Sl×Nat×List (bw×ct)×List (bw×ct)=>(t.1,(t.2.1:Int))) (λt h'=>t.2.1<=m8 d.l/\t.2.2.1.length<=t.2.1/\(∀x∈t.2.2.1,x∈t.2.2.2)/\Keyed t.2.2.2/\lY ((d.l.take t.2.1).filterMap (gv m)) (t.2.2.1.map zg)/\Sp h h' [bV t.1 (t.2.2.1.map qC),gg t.2.2.2,an J 27 (aD z)]) (λt=>m8 d.l-t.2.1) (⟨eH,0,0⟩,0,[],[]) m9 ⟨qW _,qj _,λx a=>C2,λx a=>C2,by rw[List.take_zero];exact lY.nil,H2⟩ ?_;rintro⟨o,i,T,G⟩ h3 ⟨hi,a6,u,Y,hO,H3⟩;dsimp only at hi a6 u Y hO H3⊢;refine ae (λe=>?_) λe=>?_
 rotate_left
 .have a7:i=m8 d.l:=nb
  rw[a7,qt]at hO;refine⟨o,T,m9,hO.done,λt A=>Y t (u t A),?_⟩;exact(H3.dY 1 m9 (D:=gg T) λq y t A=>y t (u t A)).bs [0,1]
 have am:i<m8 d.l:=nb
 have B:=GN m d.l i am;have next:∀{h':hY} {o':Sl} {T' G':List (bw×ct)} {As:List HP},m8 T'<=i+1->(∀x∈T',x∈G')->Keyed G'->lY ((d.l.take (i+1)).filterMap (gv m)) (T'.map zg)->Sp h h' (bV o' (T'.map qC)::gg G'::an J 27 (aD z)::As)->
   ∃f:Sl×Nat×List (bw×ct)×List (bw×ct),((⟨o'.ptr,o'.len,o'.cap⟩:Sl),(qd xP ((i:Int)+1):Int))=(f.1,(f.2.1:Int))/\(f.2.1<=m8 d.l/\f.2.2.1.length<=f.2.1/\(∀x∈f.2.2.1,x∈f.2.2.2)/\Keyed f.2.2.2/\lY ((d.l.take f.2.1).filterMap (gv m)) (f.2.2.1.map zg)/\Sp h h' [bV f.1 (f.2.2.1.map qC),gg f.2.2.2,an J 27 (aD z)])/\d.l.length-f.2.1<m8 d.l-i:=λ{h' o' T' G' As} q1 q2 q3 q4 q5=>
  ⟨(o',i+1,T',G'),n7,⟨n1,q1,q2,q3,q4,aa.uc (As:=[_,_,_]) (q5.aF 3 [0,1,2])⟩,n1⟩
 have F3:=gE.up hF H3.ac;refine F3.1.ly i m9 nb ?_;obtain⟨ad,a5⟩:=Fix.row F3 am;obtain⟨c,hc⟩:=HF (d.l[i])
 rw[<-hc]at ad B;have b4:m8 c=64:=by rw[hc];exact ok.cell _ (qe am)
 refine(Jh (rs[i]'nb) c h3 ad nb a5).Hf λy h4 Q=>⟨(y,(dq c).isSome),m9,?_⟩
 try dsimp only
 rcases Q with⟨htr,R4⟩|⟨r,htr,R4⟩
 .have hg:gv m c=eH:=by unfold gv;rw[htr]
  rw[hg,vL,qL]at B;have H4:=H3.up R4.ac;refine H4.alloc ag m9 λw h5 H5=>?_;refine H5.storeAll ag 3 m9 m9 (bB y) m9 m9 m9 m9 λh6 N=>?_;rw[htr];exact aE (aS (λ_=>next nb u Y (by rw[B];exact hO) N) λe=>n5)
 have H4:=H3.comp R4;refine H4.alloc ag m9 λw h5 H5=>?_;refine H5.storeAll ag 4 m9 m9 (bB y) m9 m9 m9 m9 λh6 N=>?_;rw[htr];have M:=N.eAt 3 m9;have ah:TQ y r:=⟨M.1.1,M.1.2.1,M.1.2.2.1⟩
 by_cases e2:dK m r=eL
 rotate_left
 .have e2:dK m r=eR:=u0
  refine aE (aS (λe=>n5) λ_=>?_);refine⟨z,(N.box 2 m9).aw _ m9,y,(N.box 4 m9).aw _ m9,(DZ z m y r h6 (a.up N.ac) hz M).G7 λh7 R7=>?_⟩;have hg:gv m c=eH:=by unfold gv;rw[htr];exact k4 D9
  rw[hg,vL,qL]at B;rw[e2];exact⟨_,m9,aS (λ_=>next nb u Y (by rw[B];exact hO) (N.up R7.ac)) λe=>n5⟩
 have hg:gv m c=dB r:=by unfold gv;rw[htr];exact hZ e2
 rw[hg,Option.toList_some]at B;have al:(T.map zg).length=m8 T:=qn _;refine bn (λ_ h'=>Sp h h' [bV o (T.map qC),gg G,an J 27 (aD z),EA cK y r,an w 128 (bB y)]) ?_ ?_
 .refine aS (λe=>n5) λ_=>?_;refine⟨z,(N.box 2 m9).aw _ m9,y,(N.box 4 m9).aw _ m9,(DZ z m y r h6 (a.up N.ac) hz M).G7 λh7 R7=>?_⟩;rw[e2];exact⟨_,m9,aS (λe=>n5) λ_=>N.up R7.ac⟩
 rintro _ h7 H7;have ab:∀j (hj:j<m8 T),TQ T[j].1 T[j].2:=λj hj=>Y _ (u _ (qe hj));refine bn (λ(t:Int) h'=>∃n:Nat,t=n/\n<=m8 T/\(∀x∈(T.map zg).drop n,ou r x)/\(∀p:0<n,∀hn:n<=m8 T,¬ou r (T[n-1]'nb).2)/\Sp h h' [bV o (T.map qC),gg G,an J 27 (aD z),EA cK y r,an w 128 (bB y)]) ?_ ?_
 .have S:=(H7.own 0 m9).len;rw[qn]at S;refine ak (λn:Nat=>(n:Int)) (λn h'=>n<=m8 T/\(∀x∈(T.map zg).drop n,ou r x)/\Sp h h' [bV o (T.map qC),gg G,an J 27 (aD z),EA cK y r,an w 128 (bB y)]) (λn=>n) T.length (by rw[S]) ⟨qj _,by rw[<-al,yT];exactλx a=>C2,H7⟩ ?_;rintro n h8 ⟨hn,hd,H8⟩
  try dsimp only
  refine aE (ae (λe=>?_) λe=>?_)
  rotate_left
  .have R:n=0:=nb
   exact⟨I0,n,m9,hn,hd,λp _=>absurd p nb,H8⟩
  have R:0<n:=nb
  have L:n-1<m8 T:=nb
  rw[show qd xP ((n:Int)-1)=((n-1:Nat):Int)by rw[af _];omega];refine⟨y,(H8.box 4 m9).aw _ m9,(H8.seq 0 m9 λ_=>rfl).cQ (g:=bB) (n-1) m9 (by rw[qn];exact L) T[n-1].1 (by rw[zw]) ?_⟩;refine(Ib y T[n-1].1 r T[n-1].2 h8 ah (ab _ L)).G7 λh9 R9=>?_;have H9:=H8.up R9.ac;refine⟨_,m9,I0,aS (λe3=>?_) λe3=>?_⟩
  .refine⟨n-1,m9,⟨nb,λx a=>?_,H9⟩,nb⟩;rw[List.drop_eq_getElem_cons (by rw[al];exact L),show n-1+1=n by omega,zw]at a;rcases qN.1 a with rfl|a
   .exact DY.1 e3
   .exact hd x a
  .exact⟨n,m9,hn,hd,λ_ _=>NU.1 e3,H9⟩
 rintro _ a4 ⟨n,rfl,hn,hd,bk,Z⟩;have F:=hO.step (r:=r) (k:=n) (by rw[al];exact hn) hd (λp=>by rw[zw];exact bk p hn);rw[<-B]at F;refine bn (λ(t:Bool) h'=>((t=eL/\(n=0∨∃p:0<n,ou (T[n-1]'nb).2 r))∨(t=eR/\∃p:0<n,¬ou (T[n-1]'nb).2 r))/\Sp h h' [bV o (T.map qC),gg G,an J 27 (aD z),EA cK y r,an w 128 (bB y)]) ?_ ?_
 .refine aZ (λe3=>⟨I0,.inl ⟨m9,.inl nb⟩,Z⟩) λe3=>?_;have R:0<n:=nb
  have L:n-1<m8 T:=nb
  rw[show qd xP ((n:Int)-1)=((n-1:Nat):Int)by rw[af _];omega];refine(Z.seq 0 m9 λ_=>rfl).cQ (g:=bB) (n-1) m9 (by rw[qn];exact L) T[n-1].1 (by rw[zw]) ?_;refine⟨y,(Z.box 4 m9).aw _ m9,(Ib T[n-1].1 y T[n-1].2 r a4 (ab _ L) ah).G7 λb0 a3=>?_⟩;refine⟨_,m9,I0,?_,Z.up a3.ac⟩;by_cases hl:ou T[n-1].2 r
  .exact .inl ⟨DY.2 hl,.inr ⟨R,hl⟩⟩
  .exact .inr ⟨NU.2 hl,R,hl⟩
 rintro t b0 ⟨A,E⟩;rcases A with⟨rfl,A⟩|⟨rfl,A⟩
 rotate_left
 .refine aS (λe=>n5) λ_=>next nb u Y (F.2 ?_) E
  obtain⟨p,hl⟩:=A;exact⟨p,by rw[zw];exact hl⟩
 refine aS (λ_=>?_) λe=>n5
 have ax:=F.1 (A.imp_right λ⟨p,hl⟩=>⟨p,by rw[zw];exact hl⟩);have ay:=E.box 4 m9;have S:=(E.own 0 m9).len;have a9:=(E.own 0 m9).cap;rw[qn]at S;obtain⟨T',V⟩:∃T',T'=T.take n++(y,r)::T.drop n:=⟨_,rfl⟩
 have bd:T'.map qC=(T.map qC).take n++([y]++(T.map qC).drop n):=by rw[V,qE,wy,xE,xn];rfl
 have a0:T'.map zg=(T.map zg).take n++r::(T.map zg).drop n:=by rw[V,qE,wy,xE,xn]
 have bq:m8 T'<=i+1:=by rw[V,qo,q7,qx,qH];omega
 rw[<-a0]at ax;refine⟨y,ay.aw _ m9,⟨ze _,wC.2 nb⟩,?_⟩;rw[qi];have tk:∀{h':hY} {As:List HP},Sp h h' (bV o (T.map qC)::As)->Rd h' ⟨o.ptr,n,n⟩ 8 bB ((T.map qC).take n):=λH=>
  have q:=(H.seq 0 m9 λ_=>rfl).take n (by rw[qn];exact hn)
  ⟨q.len,q.elem⟩
 have held:∀{h':hY} {As:List HP},Sp h h' (bV o (T.map qC)::gg G::an J 27 (aD z)::EA cK y r::an w 128 (bB y)::As)->hU h' w=dB (xJ xP y.1)/\hU h' (w.add 1)=dB (xJ xP y.2.1)/\hU h' (w.add 2)=dB (xJ xP y.2.2.1)/\hU h' (w.add 3)=dB (xJ xP y.2.2.2.1)/\hU h' (w.add 4)=dB (xJ xP y.2.2.2.2.1)/\hU h' (w.add 5)=dB (xJ xP y.2.2.2.2.2.1)/\hU h' (w.add 6)=dB (xJ xR y.2.2.2.2.2.2.1)/\hU h' (w.add 7)=dB (xK y.2.2.2.2.2.2.2.ptr y.2.2.2.2.2.2.2.len y.2.2.2.2.2.2.2.cap)/\True:=λH=>by
  have I:=H.box 4 m9;exact⟨I.cell0 m9,I.cell m9,I.cell m9,I.cell m9,I.cell m9,I.cell m9,I.cell m9,I.cell m9,I0⟩
 have fin:∀{h':hY} (v:Sl) {As:List HP},Sp h h' (bV o (T.map qC)::gg G::an J 27 (aD z)::EA cK y r::an w 128 (bB y)::bV v ([y]++(T.map qC).drop n)::As)->
   bC xT (q6 #[125,125] 125 #[xK o.ptr n n,v]) (.one (.sc .slc)) h' λv25 U=>(bK.ok [] U)/\
    ∃f:Sl×Nat×List (bw×ct)×List (bw×ct),((⟨v25.ptr,v25.len,v25.cap⟩:Sl),(qd xP ((i:Int)+1):Int))=(f.1,(f.2.1:Int))/\(f.2.1<=m8 d.l/\f.2.2.1.length<=f.2.1/\(∀x∈f.2.2.1,x∈f.2.2.2)/\Keyed f.2.2.2/\lY ((d.l.take f.2.1).filterMap (gv m)) (f.2.2.1.map zg)/\Sp h U [bV f.1 (f.2.2.1.map qC),gg f.2.2.2,an J 27 (aD z)])/\d.l.length-f.2.1<m8 d.l-i:=λ{h'} v As H=>by
  have a2:=(H.own 5 m9).len;rw[qo,wT]at a2;have HH:=aa.uc (As:=[_,_,_]) (H.aF 6 [1,2,3]);refine HH.ED (s:=⟨o.ptr,n,n⟩) ag BH ⟨_,_,m9,m9⟩ m9 nq (λ_=>rfl) (tk H) (qj _) n1 (H.seq 5 m9 λ_=>rfl) n2 λv25 U ao=>⟨I0,?_⟩
  have ao:Sp h U [gg G,an J 27 (aD z),EA cK y r,bV v25 (T'.map qC)]:=by rw[bd];exact ao
  have bl:=ao.merge 0 2 nq m9 m9 (D:=gg (G++[(y,r)])) (λq1 q2 _ p1 p2 t A=>by
   rcases qw.1 A with A|A
   .exact cK.mono (p1 t A) λ_ I=>.inl I
   .rw[qB.1 A];exact cK.mono p2 λ_ I=>.inr I)
  refine next (As:=[]) bq (λx a=>?_) (λx a=>?_) ax (bl.bs [3,0,1])
  .rw[V]at a;rcases qw.1 a with a|a
   .exact qw.2 (.inl (u x (zK a)))
   .rcases qN.1 a with a|a
    .exact qw.2 (.inr (by rw[a];simp))
    .exact qw.2 (.inl (u x (yP a)))
  .rcases qw.1 a with a|a
   .exact Y x a
   .rw[qB.1 a];exact ah
 have app:∀{h':hY} {v:Sl} {K:Sl->hY->Prop},Sp h h' [bV o (T.map qC),gg G,an J 27 (aD z),EA cK y r,an w 128 (bB y),bV v [y]]->(∀P X,Sp h X [bV o (T.map qC),gg G,an J 27 (aD z),EA cK y r,an w 128 (bB y),bV P ([y]++(T.map qC).drop n)]->K P X)->
   bC xT (q6 #[125,125] 125 #[v,.slice (if o.cap=n then o.ptr else o.ptr.map (·.add (n*8))) (o.len-n) (o.cap-n)]) (.one (.sc .slc)) h' K:=λ{h' v K} H Y=>
  H.append ag 5 m9 BH ⟨_,_,m9,m9⟩ m9 nq (λ_=>rfl) ((H.seq 0 m9 λ_=>rfl).drop n a9) QI n2 λP X H'=>Y P X H'
 refine⟨?_,?_⟩
 .refine ig ag BH n m9 m9 nb ⟨held E,?_⟩;refine E.lit ag bB BH m9 [y] m9 (show 1*8<=2^20 by decide) n9 λv br W=>⟨I0,?_⟩
  exact app W λP ap O=>⟨I0,fin P O⟩
 .refine E.lit ag bB BH m9 [y] m9 (show 1*8<=2^20 by decide) n9 λv br W=>⟨I0,?_,?_⟩
  .refine ig ag BH n m9 m9 nb ⟨I0,?_⟩;exact app W λP ap O=>⟨I0,fin P O⟩
  .refine app W λP ap O=>⟨I0,?_⟩
   exact ig ag BH n m9 m9 nb ⟨I0,fin P O⟩
theorem nu{m:aB}:(bG m).length<=9:=by
 cases h:bF m with
 |true=>exact adh h
 |false=>
  have a:gG m=[]:=by unfold gG;rw[h];rfl
  have:bG m=[]:=by unfold bG fl;rw[a];rfl
  rw[this];exact qW _
variable {b pw:fY} {d:bu} {s sb:Sl} {rs:List Sl} {m:aB} {h:hY}
theorem PM(z:bc)(Q:bQ h b 174 (dF pw d s sb))(Y:gE (gf 1 aq) 1 bv h s rs d.l)(ok:ff d)(M:cv h z m)(L:bM m):
  aj xT 203 #[xL (dB b),cC z] h λv h'=>v=xN (jt m d.l)/\Sp h h' []:=by
 refine ts Tryz.func203 ?_ (F8 (F8 (E5 (F8 (E7 (E8 [(16,aI)] [(4,5),(6,8),(9,10),(16,39)] (F8 (F8 (E5 (E7 (F8 (F8 (F9 [(7,mR),(25,aI)] [(7,8),(9,10),(25,36)])))) E6)))))) E6))) (args:=[(dB b),z]);have O:=ok.len;have I:=ok.room;refine(Sp.refl h).boxed λa1 V G=>?_;refine⟨z,(G.box 0 m9).aw _ m9,(DJ z m V (M.up G.ac) L).G7 λX Z=>?_⟩;have w:=G.up Z.ac;refine⟨_,m9,aH (λg=>⟨by unfold jt;rw[g];rfl,.zip w.ac⟩) λg=>?_⟩;refine⟨z,(w.box 0 m9).aw _ m9,(mz z m X (M.up w.ac) L).Hf λE h3 N=>?_⟩;refine⟨E,m9,?_⟩;obtain⟨P,y⟩:=HF (bG m)
 rw[<-y]at N;have R:=w.comp N;have S:E.len=m8 P:=(aa.lC (R.bs [1])).1;have U:m8 P<=2^20:=by rw[y];exact qX (nu (m:=m)) nq
 have K:jt m d.l=P.all λp=>decide (p∈d.l):=by unfold jt;rw[g,y];rfl
 refine ak (λi:Nat=>(i:Int)) (λi h'=>i<=m8 P/\((P.take i).all λp=>decide (p∈d.l))=eL/\Sp h h' [an a1 27 (aD z),cj E P]) (λi=>m8 P-i) 0 m9 ⟨qW _,m9,R⟩ ?_;rintro i h4 ⟨hi,f,r⟩
 try dsimp only
 refine ae (λe=>?_) λe=>?_
 rotate_left
 .have F:i=m8 P:=nb
  rw[F,qt]at f;exact⟨by rw[K,f],.zip r.ac⟩
 have a:i<m8 P:=nb
 have B:((P.take (i+1)).all λp=>decide (p∈d.l))=decide (P[i]∈d.l):=by rw[aA _ _ a,wx,f,yB,vw,z7,xo]
 refine eF.get (aa.Ch (r.bs [1]) λ_=>rfl) i m9 a λx8 J=>?_;have H:=Q.ac r.ac Q.lt;have x:=gE.up Y r.ac;refine⟨b,m9,s,H.cell m9,?_⟩;refine ak (λj:Nat=>(decide (P[i]∈d.l.take j),(j:Int))) (λj h'=>j<=m8 d.l/\h'=h4) (λj=>m8 d.l-j) 0 n4 ⟨qW _,m9⟩ ?_;rintro j A ⟨hj,rfl⟩
 try dsimp only
 have ab:=x.1.len;have T:=x.2.1;refine ae (λW=>?_) λW=>?_
 .have q:j<m8 d.l:=nb
  refine x.1.ly j m9 nb ?_;have u:=(Fix.row x q).1;have next:∀{h':hY} {c:Bool},c=decide (P[i]∈d.l.take (j+1))->h'=A->∃t:Nat,(c,qd xP ((j:Int)+1))=(decide (P[i]∈d.l.take t),(t:Int))/\(t<=m8 d.l/\h'=A)/\d.l.length-t<m8 d.l-j:=λ{h' c} hc hh=>
   ⟨j+1,by rw[af _,hc];rfl,⟨q,hh⟩,nb⟩
  have k:decide (P[i]∈d.l.take (j+1))=(decide (P[i]∈d.l.take j)||decide (P[i]=d.l[j])):=by rw[aA _ _ q,<-Bool.decide_or,decide_eq_decide,qw,qB]
  refine aS (λo=>next (by rw[k,o];rfl) m9) λo=>?_;refine(lU x8 (rs[j]'nb) P[i] d.l[j] A J u ?_).mono ?_
  .have:=sM (m:=m) (c:=P[i]) (by rw[<-y];exact qe a);omega
  rintro _ _ ⟨rfl,rfl⟩;exact⟨_,m9,next (by rw[k,o,yp]) m9⟩
 .have D:j=m8 d.l:=nb
  rw[D,qt];refine aH (λo=>⟨?_,.zip r.ac⟩) λo=>⟨i+1,n7,⟨a,by rw[B,o],r⟩,nb⟩
  rw[K];congr 1;exact(zZ.2 ⟨P[i],qe a,D7⟩).symm
theorem TR(z:bc)(E:bQ h b 174 (dF pw d s sb))(P:gE (gf 1 aq) 1 bv h s rs d.l)(ok:ff d)(H:cv h z m)(G:bM m):
  aj xT 277 #[xL (dB b),cC z] h λv h'=>∃r:Sl,v=r/\Sp h h' [cj r (kI m d.l)]:=by
 refine ts Tryz.func277 ?_ (F8 (F8 (F9 [(5,bJ),(12,aI)] [(5,6),(7,8),(12,22)]))) (args:=[(dB b),z]);have D:=ok.len;have y:=ok.room;refine(Sp.refl h).boxed λa1 j c=>?_;have q:=E.ac c.ac E.lt;refine⟨z,(c.box 0 m9).aw _ m9,(Cx b pw d s sb rs z m j q (gE.up P c.ac) ok (H.up c.ac) G).mono ?_⟩;rintro _ O ⟨x,T,rfl,F,hK,Q⟩;refine⟨x,m9,?_⟩;have N:m8 T<=512:=by have j:=congrArg List.length F;rw[qn]at j;have:=jf m d.l;omega
 have A:=((Q.comp (Sp.refl O)).bs [0,1]|>λR=>(aa.kf (c.comp R) 41 5 1 aq).bs [0,2,3])
 have S:x.len=m8 T:=by rw[(A.own 1 m9).len,qn]
 refine ak (λt:Sl×Nat=>(t.1,(t.2:Int))) (λt h'=>t.2<=m8 T/\Sp h h' [cj t.1 (((T.map zg).take t.2).map gn),bV x (T.map qC),gg T]) (λt=>m8 T-t.2) (⟨eH,0,0⟩,0) m9 ⟨qW _,A⟩ ?_;rintro⟨o,k⟩ h3 ⟨J,i⟩;dsimp only at J i⊢;refine ae (λe=>?_) λe=>?_
 rotate_left
 .have u:k=m8 T:=nb
  rw[u,<-qn (f:=zg),qt,F]at i;exact⟨o,m9,i.bs [0]⟩
 have a:k<m8 T:=nb
 refine(i.seq 1 m9 λ_=>rfl).cQ (g:=bB) k m9 (by rw[qn];exact a) T[k].1 (by rw[zw]) ?_;refine i.alloc ag m9 λX h4 I=>?_;refine I.storeAll ag 3 m9 m9 (bB T[k].1) m9 m9 m9 m9 λB w=>?_;have V:fm cK B T[k].1 T[k].2:=w.at 2 m9 T[k] (qe a);refine⟨T[k].1,(w.box 3 m9).aw _ m9,(uE T[k].1 T[k].2 B V).Hf λL Z U=>?_⟩;have M:=(w.comp U).aF 5 [0,4,1,2];refine⟨L,m9,M.nQ ag cO n2 λK Y W=>?_⟩;refine⟨(K,k+1),n3,⟨a,?_⟩,n1⟩
 try dsimp only
 have p:k<(T.map zg).length:=by rw[qn];exact a
 rw[aA _ _ p,qE,List.map_singleton,zw];exact aa.uc (As:=[_,_,_]) (W.aF 3 [0,1,2])
theorem Ic(z:bc)(o:bQ h b 174 (dF pw d s sb))(w:gE (gf 1 aq) 1 bv h s rs d.l)(ok:ff d)(j:cv h z m)(i:bM m):
  aj xT 211 #[xL (dB b),cC z] h λv h'=>∃r:Sl,v=r/\Sp h h' [cj r (gz m d.l)]:=by
 refine ts Tryz.func211 ?_ E6 [(1,(.l [0,2,3,1,4,5,6]))] (args:=[(dB b),z]);have k:=ok.len;have g:=ok.room;refine(Sp.refl h).boxed λH t f=>?_;have e:=f.box 0 m9;refine⟨z,e.aw _ m9,z,e.aw _ m9,(mz z m t (j.up f.ac) i).Hf λA E y=>?_⟩;have c:=f.comp y;have a:=c.box 0 m9;refine⟨A,m9,⟨a.cell0 m9,a.cell m9,a.cell m9,a.cell m9,a.cell m9,a.cell m9,a.cell m9,a.cell m9,I0⟩,?_⟩;refine(TR z (o.ac c.ac o.lt) (gE.up w c.ac) ok (j.up c.ac) i).Hf λu h3 p=>?_;have B:=(c.comp p).bs [1,2];have F:(kI m d.l).length<=512:=by unfold kI;rw[qn];have:=jf m d.l;omega
 have D:=nu (m:=m);refine⟨u,m9,I0,B.Qy ag cO ⟨_,_,m9,m9⟩ nb λx G q=>⟨I0,x,m9,q⟩⟩
end
theorem Ie(s:Sl)(l:Row)(h:hY)(a:Rd h s 1 aq l)(e:m8 l<=2^30):aj xT 46 #[s] h λv h'=>∃r:Sl,v=r/\Sp h h' [ai 5 r 1 aq l]:=by refine ts Tryz.func46 ?_;have d:=a.len;rw[af _];refine(Sp.refl h).make ag aq cR nq 0 m9 m9 0 (s.len+2) m9 nb nb nb λo g _ _ b=>?_;refine b.append ag 0 m9 cR uy m9 nq (λ_=>rfl) (Seq.up a b.ac) cH n2 λr f c=>?_;exact⟨r,m9,c⟩
theorem NV(s:Sl)(M:aO)(h:hY)(f:eF h s 1 aq M)(q:m8 M<=2^30)(j:∀r∈M,m8 r<=2^30):aj xT 278 #[s] h λv h'=>∃r:Sl,v=r/\Sp h h' [cj r M]:=by
 refine ts Tryz.func278 ?_ (F8 (F8 (F9 [(3,bJ),(8,aI)] [(3,4),(5,6),(8,18)])));have p:=f.len;refine ak (λt:Sl×Nat=>(t.1,(t.2:Int))) (λt h'=>t.2<=m8 M/\Sp h h' [cj t.1 (M.take t.2)]) (λt=>m8 M-t.2) (⟨eH,0,0⟩,0) m9 ⟨n4,(Sp.refl h).kf 41 5 1 aq⟩ ?_;rintro⟨o,k⟩ g ⟨u,b⟩;dsimp only at*;refine ae (λe=>?_) (λe=>?_)
 .have a:k<m8 M:=nb
  refine(f.up b.ac).get k m9 a λr d=>?_;refine(Ie r _ g d (j _ (qe _))).Hf λc w l=>⟨c,m9,?_⟩;refine aa.nQ ag (b.comp l) cO n2 λi h3 m=>?_;refine⟨(i,k+1),n3,⟨n1,?_⟩,n1⟩
  try dsimp only
  rw[aA _ _ a];exact m
 .rw[qh nb]at b;exact⟨o,m9,b⟩
section
variable {pw:fY}
theorem KT(x:Sl)(l:dT)(H:aa B h0 h (ir pw a d::fL pw w::As))(T:St B h0 As λh=>eF h x 1 aq l)(hl:m8 l<=2^20)(F:∀c∈l,m8 c<=2^20):
  aj xT 212 #[xL (dB a),x] h λv h'=>v=xJ xP (d.rewrite w l).1/\aa B h0 h' (ir pw a (d.rewrite w l).2.2::fL pw (d.rewrite w l).2.1::As):=by
 refine ts Tryz.func212 ?_ (F8 (F9 [(9,aI)] [(4,6),(9,19)]));have Q:=T.at [_,_] H;have Y:=Q.len;have j:∀(e:Int),d.rewrite w l=(e,w,d)->(Value.int .i64 e=xJ xP (d.rewrite w l).1/\aa B h0 h (ir pw a (d.rewrite w l).2.2::fL pw (d.rewrite w l).2.1::As)):=λe z=>by
  rw[z];exact⟨m9,H⟩
 refine ak (λi:Nat=>(i:Int)) (λi h'=>i<=m8 l/\((l.take i).all λb=>decide (m8 b=64))=eL/\h'=h) (λi=>m8 l-i) 0 m9 ⟨qW _,m9,m9⟩ ?_;rintro i h' ⟨hi,g,z⟩;rw[z];clear z
 try dsimp only
 refine ae (λe=>?_) λe=>?_
 .have k:i<m8 l:=nb
  refine Q.get i m9 k λr J=>?_;have W:=J.len;refine bm (λp=>j 1 ?_) λp=>⟨i+1,n7,⟨k,?_,m9⟩,nb⟩
  .have:(l.all λb=>decide (m8 b=64))=eR:=zZ.2 ⟨l[i],qe k,n2⟩;unfold bu.rewrite;rw[this];rfl
  .rw[aA _ _ k,wx,g,yB,vw,ln (show l[i].length=64 by omega)];rfl
 have L:i=m8 l:=nb
 rw[L,qt]at g;obtain⟨ok,s,b,S⟩:=(id H).kb;have A:=S.box 0 m9;have P:=ok.room;have D:d.rewrite w l=if d.lost then(5,w,d)else if d.room<m8 l then(7,w,d)else if w.off then(14,w,d)else if w.step.1 then(0,w.step.2,{d with l:=l,wait:=0,laid:=[],has:=eR})else(14,w.step.2,{d with laid:=l,has:=eL}):=by unfold bu.rewrite;rw[g];rfl
 have m:∀c∈l,m8 c=64:=λc hc=>by simpa using qQ.1 g c hc
 refine⟨a,m9,d.lost,A.cell m9,aS (λp=>j 5 (by rw[D,hZ p])) λp=>?_⟩;refine⟨a,m9,(d.room:Int),A.cell0 m9,ae (λe3=>j 7 (by rw[D,k4 D4,hZ nb])) λe3=>?_⟩;have y:=S.aF 4 [3,0,1,2];obtain⟨lw,Z,M⟩:=y.iV;refine⟨a,m9,dB pw,A.cell m9,pw,m9,w.off,(M.box 0 m9).cell0 m9,a,m9,dB pw,A.cell m9,(sZ y).G7 λR q=>?_⟩;have q:=q.aF 4 [1,2,3,0];refine⟨_,m9,?_⟩;have t:¬d.room<m8 l:=nb
 by_cases f:w.off=eL
 .have hs:w.step=(eR,w):=by unfold Pow.step;rw[hZ f]
  rw[hs]at q⊢;rw[D,k4 D4,k4 t,hZ f,f];exact aH (λ_=>aH (λe=>n5) λ_=>⟨m9,q.iO ok⟩) λe=>n5
 have o:w.off=eR:=B6
 rw[D,k4 D4,k4 t,k4 f,o];have u:∀{K:Sl->hY->Prop},(∀r h3,aa B h0 h3 (an a 174 (dF pw d s b)::cj s d.l::cj b d.laid::fL pw w.step.2::cj r l::As)->K r h3)->jZ xT 278 #[x] (.one (.sc .slc)) R K:=λ{K} hK=>by
  have E:=T.at [_,_,_,_] q;refine(NV x l R E nb λr J=>by have:=F r J;omega).Hf λr h3 V=>⟨r,m9,hK r h3 ((q.bS V).aF 5 [1,2,3,4,0])⟩
 refine aH (λI=>?_) λI=>?_
 .rw[I,k4 nq];refine aH (λ_=>u λr h3 N=>?_) λe=>n5
  refine⟨a,m9,N.store ag 0 m9 m9 4 [xN eL] m9 m9 m9 o8 λh4 G=>?_⟩;refine⟨a,m9,G.store ag 0 m9 m9 5 [r] m9 m9 m9 o8 λU O=>⟨m9,?_⟩⟩;refine aa.iO (s:=s) (b:=r) ⟨ok.wait,ok.len,ok.room,ok.cell,by show l.length<=d.room;omega,m⟩ ?_;exact O.aF 5 [0,1,4,3]
 .rw[I,hZ rfl];refine u λr h3 N=>?_;refine⟨a,m9,N.store ag 0 m9 m9 2 [r] m9 m9 m9 o8 λh4 G=>?_⟩;refine⟨a,m9,G.store ag 0 m9 m9 3 [xJ xP 0] m9 m9 m9 o8 λU O=>?_⟩;refine⟨a,m9,O.store ag 0 m9 m9 4 [xN eR] m9 m9 m9 o8 λh6 X=>?_⟩;refine⟨a,m9,X.store ag 0 m9 m9 5 [xK eH 0 0] m9 m9 m9 o8 λh7 H7=>⟨m9,?_⟩⟩;refine aa.iO (s:=r) (b:=⟨eH,0,0⟩) ⟨qW _,by show l.length<=d.room;omega,ok.room,m,qW _,n4⟩ ?_;exact(H7.kf 41 5 1 aq).aF 6 [1,5,0,4]
theorem TS(H:aa B h0 h (ir pw a d::As)):aj xT 56 #[xL (dB a)] h λv h'=>v=.tuple #[]/\aa B h0 h' (ir pw a d.IA::As):=by refine ts Tryz.func56 ?_;obtain⟨ok,s,b,j⟩:=(id H).kb;refine⟨a,m9,j.store ag 0 m9 m9 2 [xK eH 0 0] m9 m9 m9 o8 λp g=>?_⟩;refine⟨a,m9,g.store ag 0 m9 m9 3 [xJ xP 0] m9 m9 m9 o8 λm l=>?_⟩;refine⟨a,m9,l.store ag 0 m9 m9 4 [xN eR] m9 m9 m9 o8 λo i=>?_⟩;refine⟨a,m9,i.store ag 0 m9 m9 5 [xK eH 0 0] m9 m9 m9 o8 λn k=>?_⟩;refine⟨a,m9,k.store ag 0 m9 m9 6 [xN eL] m9 m9 m9 o8 λh8 f=>⟨m9,?_⟩⟩;refine aa.iO (s:=⟨eH,0,0⟩) (b:=⟨eH,0,0⟩) ⟨qW _,qW _,ok.room,λc e=>n5,qW _,λc e=>n5⟩ ?_;exact((f.kf 41 5 1 aq).kf 41 5 1 aq).aF 5 [2,0,1]
end
variable {s sb:Sl} {rs:List Sl}
section
variable {pw:fY}
theorem adC(n:Int):(if(0:Int)>n then(0:Int)else n)=max n 0:=by split<;>omega
theorem If(z:bc)(n:Int)(p:bQ h b 174 (dF pw d s sb))(i:gE (gf 1 aq) 1 bv h s rs d.l)(ok:ff d)(u:cv h z m)(t:bM m):
  aj xT 144 #[xL (dB b),cC z,xJ xP n] h λv h'=>v=xN (rC m d n)/\Sp h h' []:=by
 refine ts Tryz.func144 ?_ (F8 (G0 [] [(6,15)] E6)) (args:=[(dB b),z,(n:Int)]);have o:=ok.len;have k:=ok.room;have y:=i.1.len;have x:=i.2.1;refine(Sp.refl h).boxed λE B c=>?_;have a:=p.ac c.ac p.lt;refine aE (aS (λe=>n5) λ_=>⟨b,m9,d.lost,a.cell m9,aS (λe=>⟨B1,.zip c.ac⟩) λe=>?_⟩);have q:rC m d n=(jO d d.l.length n||jO d (gz m d.l).length n):=B1
 rw[adC];refine⟨b,m9,(d.room:Int),a.cell0 m9,b,m9,s,a.cell m9,?_⟩
 try dsimp only
 rw[af ((d.room:Int)-(s.len:Int)),show(s.len:Int)=(m8 d.l:Int)by omega];refine aS (λg=>⟨⟨a.cell m9,a.cell0 m9,I0⟩,by rw[q];unfold jO;rw[g];rfl,.zip c.ac⟩) λg=>?_;refine⟨b,m9,(d.room:Int),a.cell0 m9,z,(c.box 0 m9).aw _ m9,(Ic z a (gE.up i c.ac) ok (u.up c.ac) t).Hf λr D j=>?_⟩;have f:=a.ac j.ac a.lt;have w:=(aa.lC j).1;have A:(gz m d.l).length<=600:=by unfold gz kI;rw[qo,qn];have:=jf m d.l;have:=nu (m:=m);omega
 refine⟨r,m9,⟨f.cell0 m9,f.cell m9,f.cell0 m9,I0⟩,?_,.zip (c.up j.ac).ac⟩;rw[af ((d.room:Int)-(r.len:Int)),show(r.len:Int)=((gz m d.l).length:Int)by omega,q];unfold jO;rw[g,yp]
theorem KU(z:bc)(n:Int)(h:hY):aj xT 144 #[xL eH,cC z,xJ xP n] h λv h'=>v=xN eR/\Sp h h' []:=by refine ts Tryz.func144 ?_ (F8 (G0 [] [(6,15)] E6)) (args:=[(eH:bx),z,(n:Int)]);exact(Sp.refl h).boxed λc b a=>aE (aS (λ_=>⟨m9,.zip a.ac⟩) λe=>n5)
theorem KV(z:bc)(n:Int)(h:hY):aj xT 145 #[xL eH,cC z,xJ xP n] h λv h'=>v=xJ xP 5/\Sp h h' []:=by refine ts Tryz.func145 ?_ (F8 (G0 [] [(6,15)] E6)) (args:=[(eH:bx),z,(n:Int)]);exact(Sp.refl h).boxed λc b a=>aE (aS (λ_=>⟨m9,.zip a.ac⟩) λe=>n5)
end
section
variable {pw:fY}
theorem TT(x:bc)(m:aB)(n:Int)(T:St B h0 As λh=>cv h x m)(I:bM m)(H:aa B h0 h (ir pw a d::fL pw w::As)):
  aj xT 145 #[xL (dB a),cC x,xJ xP n] h λv h'=>v=xJ xP (eS m w d n).1/\aa B h0 h' (ir pw a (eS m w d n).2.2::fL pw (eS m w d n).2.1::As):=by
 refine ts Tryz.func145 ?_ (F8 (G0 [] [(6,15)] E6)) (args:=[(dB a),x,(n:Int)]);refine(Sp.refl h).boxed λX K S=>?_;have o:=(H.bS S).aF 3 [1,2,0];have f:∀(e:Int) {h':hY},aQ (λb=>b<K.size) K h'->eS m w d n=(e,w,d)->(Value.int .i64 e=xJ xP (eS m w d n).1/\aa B h0 h' (ir pw a (eS m w d n).2.2::fL pw (eS m w d n).2.1::As)):=λe h' O L=>by
  rw[L];exact⟨m9,((o.up O).aF 3 [0,1])⟩
 obtain⟨ok,s,b,rs,t,u⟩:=aa.aav o;have J:=ok.len;have F:=ok.room;have R:=u.1.len;have Q:=u.2.1;have k:=T.at [_,_,_] o;refine aE (aS (λe=>n5) λ_=>⟨a,m9,d.lost,t.cell m9,aS (λe=>f 5 (aQ.refl _ _) (by unfold eS;rw[hZ e])) λe=>?_⟩);refine⟨x,(o.box 2 m9).aw _ m9,(If x n t u ok k I).G7 λV j=>?_⟩;refine⟨_,m9,aH (λD=>f 7 j.ac (by unfold eS;rw[k4 B9,D];rfl)) λD=>?_⟩;have g:=t.ac j.ac t.lt;have em:eS m w d n=if jO d d.l.length n then(0,w,d)else d.rewrite w (gz m d.l):=by unfold eS;rw[k4 B9,D];rfl
 refine⟨a,m9,(d.room:Int),g.cell0 m9,a,m9,s,g.cell m9,?_⟩
 try dsimp only
 rw[af ((d.room:Int)-(s.len:Int)),show(s.len:Int)=(m8 d.l:Int)by omega];refine ae (λP=>f 0 j.ac (by rw[em];exact hZ (ln nb))) λP=>?_;have z:eS m w d n=d.rewrite w (gz m d.l):=by rw[em];exact k4 (by unfold jO;simp;omega)
 have G:=o.up j.ac;refine⟨x,(G.box 2 m9).aw _ m9,(Ic x g (gE.up u j.ac) ok (k.up j.ac) I).Hf λr h3 M=>?_⟩;obtain⟨y,E⟩:=(G.bS M).ML λ_=>rfl;have E:=E.aF 4 [1,2,0];have U:(gz m d.l).length<=600:=by unfold gz kI;rw[qo,qn];have:=jf m d.l;have:=nu (m:=m);omega
 have A:∀c∈gz m d.l,m8 c<=2^20:=λc i=>by
  unfold gz kI at i;rcases qw.1 i with i|i
  .rw[sM i];decide
  .obtain⟨q,p,rfl⟩:=qI.1 i;rw[XE (TE.1 (WC p).2.2).1];decide
 refine⟨r,m9,(KT r (gz m d.l) E (St.dS 0 m9 λh' p=>⟨y,p.1,p.2.1,p.2.2⟩) nb A).G7 λW N=>?_⟩;rw[z];exact⟨_,m9,m9,N.aF 3 [0,1]⟩
end
theorem rc{B:ar}{c h:hY}{As:List HP}:∀{rs:List Sl} {b:cV} {L:List (Sl×aC)},aa B c h (iL 1 av L::(bt 3 1 av rs b++As))->∃P,(∀p∈rs.zip b,p∈P)/\(∀p∈L,p∈P)/\aa B c h (iL 1 av P::As)
 |[],_,L,H=>⟨L,λp a=>(by simp at a),λ_ h=>h,H⟩
 |_::_,[],L,H=>⟨L,λp a=>(by simp at a),λ_ h=>h,H⟩
 |r::rs,l::b,L,H=>by
  obtain⟨P,e,d,f⟩:=rc (H.freeze 1 rfl λ_=>rfl).IU;refine⟨P,λp a=>?_,λp a=>d p (qp _ a),f⟩;rcases qN.1 a with rfl|a
  .exact d _ qS
  .exact e p a
theorem Ig(x:bc)(m:aB)(h:hY)(S:cv h x m)(N:bM m):aj xT 12 #[cC x] h λv h'=>∃(d o:Sl) (a:List dM),v=cC (x.1,x.2.1,x.2.2.1,x.2.2.2.1,x.2.2.2.2.1,x.2.2.2.2.2.1,d,o)/\a.length=m.objs.length/\(∀(j:Nat) r e,a[j]?=dB r->m.objs[j]?=dB e->r.1=e.name/\r.2.1=e.object/\r.2.2.1=e.length)/\
   Sp h h' (ai 3 d 1 av m.drives::ai 83 o 4 bf a::bt 3 1 av (a.map λr=>r.2.2.2).reverse (m.objs.map λe=>e.tries).reverse):=by
 refine ts Tryz.func12 ?_ (F8 (F8 (F8 (F8 (F9 [(15,aI)] [(5,6),(15,30)]))))) (args:=[x]);have al:=N.dr;have ao:=N.ob;refine(Sp.refl h).boxed λB f H1=>H1.alloc ag m9 λa2 q L=>?_;refine⟨x.2.2.2.2.2.2.1,(L.box 0 m9).cell m9,?_⟩;refine(L.nil 3 1 av).append ag 2 m9 ge ⟨_,_,m9,m9⟩ m9 nq (λ_=>rfl) (S.up L.ac).drives dt n2 λd h3 H3=>?_;refine H3.store ag 0 m9 m9 6 [d] m9 m9 m9 o1 λh4 W=>?_;refine⟨x.2.2.2.2.2.2.2,(W.box 0 m9).cell m9,?_⟩;refine W.store ag 0 m9 m9 7 [xK eH 0 0] m9 m9 m9 o1 λh5 J=>?_;obtain⟨M,G⟩:∃M:Sl->bc,M=λo=>(x.1,x.2.1,x.2.2.1,x.2.2.2.1,x.2.2.2.2.1,x.2.2.2.2.2.1,d,o):=⟨_,rfl⟩
 obtain⟨Z,X⟩:∃Z:HP,Z=an a2 27 [xJ xP 0,xJ xP 0,xJ xP 0,xJ xP 0,xJ xP 0,xJ xP 0,xK eH 0 0,xK eH 0 0]:=⟨_,rfl⟩
 have J:Sp h h5 [an B 27 (aD (M ⟨eH,0,0⟩)),Z,ai 3 d 1 av m.drives,ai 83 ⟨eH,0,0⟩ 4 bf []]:=by rw[G,X];exact J.nil 83 4 bf
 have H:∀o,(M o).2.2.2.2.2.2.2=o:=λo=>by rw[G]
 have ad:x.2.2.2.2.2.2.2.len=m.objs.length:=by obtain⟨K,U,V,_⟩:=ce.kZ S.objs;rw[U.len,V]
 refine ak (λt:Sl×List dM=>(t.2.length:Int)) (λt h'=>t.2.length<=m.objs.length/\(∀(j:Nat) r e,t.2[j]?=dB r->m.objs[j]?=dB e->r.1=e.name/\r.2.1=e.object/\r.2.2.1=e.length)/\Sp h h' (an B 27 (aD (M t.1))::Z::ai 3 d 1 av m.drives::ai 83 t.1 4 bf t.2::bt 3 1 av (t.2.map λr=>r.2.2.2).reverse ((m.objs.take t.2.length).map λe=>e.tries).reverse)) (λt=>m.objs.length-t.2.length) (⟨eH,0,0⟩,[]) m9 ⟨qW _,λj r e f _=>(by simp at f),J⟩ ?_;rintro⟨o,a⟩ h7 ⟨hi,l,k⟩;dsimp only at hi l k⊢;refine ae (λe=>?_) (λe=>?_)
 .have i:a.length<m.objs.length:=nb
  obtain⟨K,U,V,q3⟩:=ce.kZ (S.up k.ac).objs;have A:a.length<K.length:=nb
  obtain⟨u,hu⟩:=HF (K[a.length])
  obtain⟨E,F⟩:=HF (m.objs[a.length])
  have D:=q3 a.length A i;rw[<-hu,<-F]at D;obtain⟨⟨y1,y2,y3⟩,y4⟩:=D;refine U.cQ (g:=bf) a.length m9 A u (by rw[hu]) ?_;refine(Sp.refl h7).alloc ag m9 λa9 h8 G8=>?_;refine G8.storeAll ag 0 m9 m9 (bf u) m9 m9 m9 m9 λh9 G9=>?_;obtain⟨w,y⟩:=HF (bt 3 1 av (a.map λr=>r.2.2.2).reverse ((m.objs.take a.length).map λe=>e.tries).reverse)
  rw[<-y]at k;have H9:=((k.bS G9).nil 3 1 av).ba;refine⟨u.2.2.2,(H9.box 1 m9).cell m9,?_⟩;have am:=(N.nm E (by rw[F];exact qe i)).2;refine H9.append ag 0 m9 ge ⟨_,_,m9,m9⟩ m9 nq (λ_=>rfl) (Seq.up y4 G9.ac) dt n2 λt ab Q=>?_;refine Q.store ag 1 m9 m9 3 [t] m9 m9 m9 o1 λT b=>?_;obtain⟨v,O⟩:∃v:dM,v=(u.1,u.2.1,u.2.2.1,t):=⟨_,rfl⟩
  have b:Sp h T (ai 3 t 1 av E.tries::an a9 83 (bf v)::an B 27 (aD (M o))::Z::ai 3 d 1 av m.drives::ai 83 o 4 bf a::w):=by rw[O];exact b
  refine⟨o,by rw[<-H o];exact(b.box 2 m9).cell m9,v,(b.box 1 m9).aw _ m9,?_⟩;refine b.push ag 5 m9 mS m9 nq (λ_=>rfl) AL v n9 nq nb λc ah R=>?_;refine R.store ag 2 m9 m9 7 [c] m9 m9 m9 o1 λz p=>?_;have p:Sp h z (ai 3 t 1 av E.tries::an a9 83 (bf v)::an B 27 (aD (M c))::Z::ai 3 d 1 av m.drives::ai 83 c 4 bf (a++[v])::w):=by
   have e:aD (M c)=(aD (M o)).set 7 (xK c.ptr c.len c.cap):=by rw[G];rfl
   rw[e];exact p
  have I:Sp h z (an B 27 (aD (M c))::Z::ai 3 d 1 av m.drives::ai 83 c 4 bf (a++[v])::bt 3 1 av ((a++[v]).map λr=>r.2.2.2).reverse ((m.objs.take (a++[v]).length).map λe=>e.tries).reverse):=by
   have e1:bt 3 1 av ((a++[v]).map λr=>r.2.2.2).reverse ((m.objs.take (a++[v]).length).map λe=>e.tries).reverse=ai 3 t 1 av E.tries::w:=by rw[y,qo,wT,aA _ _ i,qE,qE,List.reverse_append,List.reverse_append,O,<-F];rfl
   rw[e1];exact p.aF 6 [2,3,4,5,0]
  refine⟨(c,a++[v]),by simp only[qo,wT];rw[af _];rfl,⟨n2,λj r e f q=>?_,I⟩,n2⟩;dsimp only at f⊢;by_cases hj:j<a.length
  .rw[qu hj]at f;exact l j r e f q
  .have P:j=a.length:=by have:=(qm.1 f).1;simp at this;omega
   subst P;rw[qk (qj _),zd]at f;simp at f;rw[qc i,<-F]at q;injection q with q
   subst f;subst q;rw[O];exact⟨y1,y2,y3⟩
 .have s:a.length=m.objs.length:=nb
  rw[s,qt]at k;refine⟨M o,(k.box 0 m9).aw _ m9,?_⟩;rw[X]at k;refine k.storeAll ag 1 m9 m9 (aD (M o)) m9 m9 m9 m9 λh8 Y=>?_;refine⟨M o,(Y.box 1 m9).aw _ m9,d,o,a,by rw[G],s,l,Y.aF 4 [2,3]⟩
theorem AW(x:bc)(m:aB)(h:hY)(b:cv h x m)(g:bM m):aj xT 12 #[cC x] h λv h'=>∃y:bc,v=cC y/\Sp h h' [bo y m]:=by
 refine(Ig x m h b g).mono ?_;rintro _ h' ⟨d,o,a,rfl,i,e,H⟩;obtain⟨P,q,_,l⟩:=rc (As:=[ai 3 d 1 av m.drives,ai 83 o 4 bf a]) ((aa.front (As:=[ai 3 d 1 av m.drives,ai 83 o 4 bf a]) H).EF 1 av);have f:(a.zip m.objs).map qC=a:=List.map_fst_zip nb;refine⟨_,m9,aa.BF (L:=a.zip m.objs) (pool:=P) ⟨b.seq,b.next,b.p,b.extra⟩ (List.map_snd_zip nb) (λp k=>?_) (by rw[f];exact l)⟩;obtain⟨j,n,rfl⟩:=qD k;have c:j<m8 a/\j<m8 m.objs:=by simp at n;omega
 rw[yl];refine⟨e j _ _ (qc c.1) (qc c.2),q _ ?_⟩;rw[List.zip_eq_zipWith,<-List.reverse_zipWith n2,List.mem_reverse,List.mem_iff_getElem];exact⟨j,n2,n4⟩
def lq(l:aC)(n:Int):aC:=l.foldl (λg k=>g.set k.toNat n) (qf 64 0)
abbrev dl(g:aC):aR:=g.map (Sc.enc (.int .i64))
theorem rj(l:aC)(n:Int):(lq l n).length=64:=by
 unfold lq;generalize b:qf 64 (0:Int)=g;have a:m8 g=64:=by rw[<-b];simp
 clear b
 induction l generalizing g with
 |nil=>exact a
 |cons k l ih=>rw[zO];exact ih _ (by rw[qP];exact a)
theorem WH(l:aC)(k n:Int):lq (l++[k]) n=(lq l n).set k.toNat n:=by unfold lq;rw[wB];rfl
theorem Zd{l:aC}{n:Int}(a:∀k∈l,0<=k/\k<64){k:Int}(b:k∈l):(lq l n).getD k.toNat 0=n:=by
 have c:∀(l:aC) (g:aC),m8 g=64->(∀k∈l,0<=k/\k<64)->(k∈l∨g.getD k.toNat 0=n)->0<=k/\k<64->(l.foldl (λg k=>g.set k.toNat n) g).getD k.toNat 0=n:=by
  intro l
  induction l with
  |nil=>intro g _ _ h _;exact h.elim (λh=>p9) id
  |cons x l ih=>
   intro g f a h b;rw[zO];refine ih _ (by rw[qP];exact f) (λy e=>a y (qp _ e)) ?_ b;by_cases d:k=x
   .refine .inr ?_;subst d;rw[qg,qV,hZ m9,hZ nb];rfl
   .rcases h with h|h
    .exact .inl ((qN.1 h).resolve_left d)
    .refine .inr ?_;have:=a x qS;rw[qg,qV,k4 nb,<-qg];exact h
 exact c l _ n4 a (.inl b) (a k b)
def iy(m:aB):aB:={m with seq:=m.seq+1}
section
theorem Ih(s:Sl)(l:aC)(n:Int)(h:hY)(g:Rd h s 1 av l)(w:m8 l<=2^30)(d:∀k∈l,0<=k/\k<64):aj xT 74 #[s,xJ xP n] h λv h'=>v=xO (dl (lq l n)).toArray/\Sp h h' []:=by
 refine ts Tryz.func74 ?_ (F8 (F8 (F9 [(10,aI)] [(7,8),(10,18)])));have t:=g.len;refine(Sp.refl h).alloc ag m9 λu z q=>q.alloc ag m9 λr A m=>?_;refine ak (λi:Nat=>(i:Int)) (λi h'=>i<=m8 l/\Sp h h' [an u 113 (dl (qf 64 0)),an r 113 (dl (lq (l.take i) n))]) (λi=>m8 l-i) 0 m9 ⟨qW _,m⟩ ?_;rintro i h3 ⟨B,b⟩
 try dsimp only
 refine ae (λe=>?_) λe=>?_
 .have a:i<m8 l:=nb
  refine(Seq.up g b.ac).aW i m9 a l[i] m9 ?_;have f:=d _ (qe a);refine⟨⟨f.1,f.2⟩,?_⟩;rw[zG];refine b.storeAt ag 1 m9 m9 (off:=l[i].toNat) m9 m9 m9 (by rw[qn,rj];omega) λD o=>?_;refine⟨i+1,n7,⟨a,?_⟩,nb⟩;have p:dl (lq (l.take (i+1)) n)=(dl (lq (l.take i) n)).set l[i].toNat (xJ xP n):=by rw[aA _ _ a,WH];unfold dl;rw[List.map_set]
  rw[p];exact o
 .have c:i=m8 l:=nb
  rw[c,qt]at b;refine⟨lq l n,⟨rj l n,(b.box 1 m9).aw _ (qt ..)⟩,?_⟩;refine b.storeAll ag 0 m9 m9 (dl (lq l n)) m9 (by rw[qn,rj]) (by unfold dl;rw[xH];exact qQ.2 λx _=>rfl) (by rw[qn,qn,rj];rfl) λy j=>?_;exact⟨lq l n,⟨rj l n,(j.box 0 m9).aw _ (qt ..)⟩,m9,.zip j.ac⟩
variable {B:ar} {h0 h:hY} {As:List HP} {a pw:fY} {offs:Int} {da:List bx} {w:Pow} {ds:aG}
theorem Ii{c:aR}(H:aa B h0 h (aJ bE a pw c offs da w ds::As))(n:Nat)(e:n<64:=by omega):hU h ((a.add 10).add (n*1))=dB (.pointer (cT da n)):=by obtain⟨ok,d⟩:=aa.cU H;obtain⟨x,f,b⟩:=Nq ok d n e;rw[f];unfold cT;rw[hZ nb,qi,b];rfl
theorem AX{j:aR}{k:Int}{d:bu}(e:bX ds k=dB d)(H:aa B h0 h (aJ bE a pw j offs da w ds::As)):∃(b:fY) (s sb:Sl) (rs:List Sl),cT da k=dB b/\bQ h b 174 (dF pw d s sb)/\gE (gf 1 aq) 1 bv h s rs d.l/\ff d:=by
 obtain⟨ok,_⟩:=aa.cU H;rcases gp ok k with⟨h1,_⟩|⟨n,d',b,rfl,hn,h1,h2,h3,h4⟩
 .rw[h1]at e;cases e
 .rw[h2]at e;injection e with e
  subst e;obtain⟨o,c,m⟩:=Qw.aa.fD H h1;rw[h3]at c;injection c with c
  injection c with c
  subst c;obtain⟨f,s,sb,rs,g,i⟩:=aa.aav m;exact⟨b,s,sb,rs,h4,g,i,f⟩
theorem Rc{d:aR}{k:Int}(c:bX ds k=eH)(H:aa B h0 h (aJ bE a pw d offs da w ds::As)):cT da k=eH:=by
 obtain⟨ok,_⟩:=aa.cU H;rcases gp ok k with⟨_,h2⟩|⟨n,d',b,rfl,hn,h1,h2,h3,h4⟩
 .exact h2
 .rw[h2]at c;cases c
theorem uH(x:bc)(H:aa B h0 h (aJ bE a pw (aD x) offs da w ds::As)):bp h a 0 (aD x):=by obtain⟨ok,b⟩:=aa.cU H;exact b.aw (aD x) m9
theorem AY{a:aC}(c:m8 a=64){n:Nat}(e:n<64){b:fY}(d:bQ h b 113 (dl a)):hU h (b.add (n*1))=dB (xJ xP (a.getD n 0)):=by rw[zG];refine d.cell ?_;unfold dl;rw[qM,qc nb,qg,qc nb];rfl
theorem PN(x:bc)(m:aB)(k N:Int)(j:0<=k/\k<64)(e:cv h x m)(c:bM m)(H:aa B h0 h (aJ bE a pw (aD x) offs da w ds::As)):
  aj xT 144 #[.pointer (cT da k),cC x,xJ xP N] h λv h'=>v=xN (nJ m ds k N)/\Sp h h' []:=by
 cases hd:bX ds k with
 |none=>
  rw[Rc hd H];refine(KU x N h).mono ?_;rintro _ h' ⟨rfl,R⟩;exact⟨by unfold nJ;rw[hd],R⟩
 |some d=>
  obtain⟨b,s,sb,rs,f,g,h3,i⟩:=AX hd H;rw[f];refine(If x N g h3 i e c).mono ?_;rintro _ h' ⟨rfl,R⟩;exact⟨by unfold nJ;rw[hd],R⟩
theorem Kw(x:bc)(m:aB)(s:Sl)(l b:aC)(r:m8 b=64)(D:cv h x m)(A:bM m)(z:Rd h s 1 av l)(I:m8 l<=2^30)(t:∀k∈l,0<=k/\k<64)(H:aa B h0 h (aJ bE a pw (aD x) offs da w ds::As)):
  aj xT 76 #[xL (dB a),s,xO (dl b).toArray] h λv h'=>v=xN (iz m ds l λk=>b.getD k.toNat 0)/\Sp h h' []:=by
 refine ts Tryz.func76 ?_ (F8 (F9 [(11,aI)] [(6,7),(8,9),(11,31)])) (args:=[(dB a),s,(xO (b.map (Sc.enc (.int .i64))).toArray)]);have F:=z.len;refine(Sp.refl h).boxed λG J E=>?_;refine ak (λi:Nat=>(i:Int)) (λi h'=>i<=m8 l/\iz m ds (l.take i) (λk=>b.getD k.toNat 0)=eL/\Sp h h' [an G 113 (dl b)]) (λi=>m8 l-i) 0 m9 ⟨qW _,m9,E⟩ ?_;rintro i K ⟨L,c,f⟩
 try dsimp only
 refine ae (λe=>?_) λe=>?_
 rotate_left
 .have q:i=m8 l:=nb
  rw[q,qt]at c;exact⟨by rw[c],.zip f.ac⟩
 have d:i<m8 l:=nb
 have g:=t _ (qe d);obtain⟨n,o⟩:∃n:Nat,l[i]=(n:Int):=⟨l[i].toNat,nb⟩
 refine(Seq.up z f.ac).aW i m9 d l[i] m9 ?_;have u:=H.up f.ac;rw[o]at g⊢;have j:iz m ds (l.take (i+1)) (λk=>b.getD k.toNat 0)=nJ m ds n (b.getD n 0):=by unfold iz at c⊢;rw[aA _ _ d,wx,c,yB,vw,z7,xo,o];rfl
 refine⟨a,m9,⟨g.1,g.2⟩,cT da n,Ii u n,a,m9,x,uH x u,⟨g.1,g.2⟩,b.getD n 0,AY r nb (f.box 0 m9),?_⟩;refine(PN x m n (b.getD n 0) g (D.up f.ac) A u).G7 λh3 y=>⟨_,m9,I0,aH (λp=>⟨?_,.zip (f.up y.ac).ac⟩) λp=>⟨i+1,n7,⟨d,by rw[j];exact p,f.up y.ac⟩,nb⟩⟩;congr 1;refine(zZ.2 ⟨l[i],qe d,?_⟩).symm;rw[o]
 try dsimp only
 rw[qi,p];simp
theorem NW(x:bc)(m:aB)(k n:Int)(r:0<=k/\k<64)(q:St B h0 As λh=>cv h x m)(f:bM m)(H:aa B h0 h (aJ bE a pw (aD x) offs da w ds::As)):
  aj xT 145 #[.pointer (cT da k),cC x,xJ xP n] h λu h'=>u=xJ xP (fK m w ds k n).1/\aa B h0 h' (aJ bE a pw (aD x) offs da (fK m w ds k n).2.1 (fK m w ds k n).2.2::As):=by
 obtain⟨ok,s⟩:=aa.cU H;obtain⟨j,rfl⟩:∃j:Nat,k=j:=⟨k.toNat,nb⟩
 rcases gp ok (j:Int)with⟨e1,e2⟩|⟨n',d,b,e0,e1,e2,e3,e4,e5⟩
 .rw[e2];have e:fK m w ds j n=(5,w,ds):=by unfold fK;rw[e1]
  refine(KV x _ h).G7 λh3 g=>?_;rw[e];exact⟨m9,H.up g.ac⟩
 .rw[e5];have i:j=n':=nb
  subst i;obtain⟨t,c,p⟩:=Qw.aa.fD H e2;rw[e4]at c;injection c with c
  injection c with c
  subst c;have e:fK m w ds j n=((eS m w d n).1,(eS m w d n).2.1,ds.set j (dB (eS m w d n).2.2)):=by unfold fK;rw[e3];simp only[iP,qi]
  refine(TT x m n (λBs h' o=>q (Bs++[_]) h' (by rw[ql];exact o)) f p).G7 λh3 l=>?_;rw[e];exact⟨m9,Qw.aa.kW (k:=bE) (n:=j) e4 l⟩
theorem Ij(x:bc)(m:aB)(s:Sl)(l b:aC)(q:m8 b=64)(z:St B h0 As λh=>cv h x m/\Rd h s 1 av l)(F:bM m)(M:m8 l<=2^30)(u:∀k∈l,0<=k/\k<64)(H:aa B h0 h (aJ bE a pw (aD x) offs da w ds::As)):
  aj xT 77 #[xL (dB a),s,xO (dl b).toArray] h λv h'=>v=xJ xP (makes m (λk=>b.getD k.toNat 0) l w ds).1/\
   aa B h0 h' (aJ bE a pw (aD x) offs da (makes m (λk=>b.getD k.toNat 0) l w ds).2.1 (makes m (λk=>b.getD k.toNat 0) l w ds).2.2::As):=by
 refine ts Tryz.func77 ?_ (F8 (F9 [(12,aI)] [(6,7),(8,10),(12,34)])) (args:=[(dB a),s,(xO (b.map (Sc.enc (.int .i64))).toArray)]);have J:=(z.at [_] H).2.len;obtain⟨Z,A⟩:=HF (makes m (λk=>b.getD k.toNat 0) l w ds)
 rw[<-A];refine H.boxed λL N r=>?_;have r:=r.ba;refine ak (λt:Nat×Pow×aG=>(t.1:Int)) (λt h'=>t.1<=m8 l/\Z=makes m (λk=>b.getD k.toNat 0) (l.drop t.1) t.2.1 t.2.2/\aa B h0 h' (an L 113 (dl b)::aJ bE a pw (aD x) offs da t.2.1 t.2.2::As)) (λt=>m8 l-t.1) (0,w,ds) m9 ⟨qW _,A,r⟩ ?_;rintro⟨i,D,j⟩ O ⟨K,c,g⟩;dsimp only at K c g⊢;refine ae (λe=>?_) λe=>?_
 rotate_left
 .have p:i=m8 l:=nb
  rw[p,yT]at c;rw[c];exact⟨m9,g.aF 2 [1]⟩
 have d:i<m8 l:=nb
 rw[Hw _ _ _ _ _ _ d]at c;have f:=u _ (qe d);obtain⟨n,G⟩:∃n:Nat,l[i]=(n:Int):=⟨l[i].toNat,nb⟩
 refine(z.at [_,_] g).2.aW i m9 d l[i] m9 ?_;have y:=g.aF 2 [1,0];rw[G]at f c⊢;rw[qi]at c;refine⟨a,m9,⟨f.1,f.2⟩,cT da n,Ii y n,a,m9,x,uH x y,⟨f.1,f.2⟩,b.getD n 0,AY q nb (g.box 0 m9),?_⟩;refine(NW x m n (b.getD n 0) f (St.cons λBs h' I=>(z Bs h' I).1) F y).G7 λh3 E=>⟨_,m9,I0,bm (λo=>?_) λo=>?_⟩
 .rw[k4 o]at c;rw[c];exact⟨m9,E.aF 2 [0]⟩
 .rw[hZ o]at c;exact⟨(i+1,(fK m D j n (b.getD n 0)).2.1,(fK m D j n (b.getD n 0)).2.2),n3,⟨d,c,E.aF 2 [1,0]⟩,n1⟩
theorem te(x:bc)(m:aB)(b:ByteArray)(y:cv h x m)(u:bM m)(H:aa B h0 h (aJ bE a pw (aD x) offs da w ds::As)):
  aj xT 114 #[xL (dB a),xM b] h λv h'=>v=xJ xP (if m.objs.any (dH b)=eL then((m.objs.findIdx (dH b):Nat):Int)else-1)/\Sp h h' []:=by
 refine ts Tryz.func114 ?_ (F8 (F9 [(13,aI)] [(4,7),(13,24)]));obtain⟨ok,D⟩:=aa.cU H;have z:=u.ob;refine⟨a,m9,x.2.2.2.2.2.2.2,D.cell m9,?_⟩;obtain⟨o,t,J,E⟩:=ce.kZ y.objs;have A:=t.len;refine ak (λi:Nat=>(i:Int)) (λi h'=>i<=m8 m.objs/\(∀e∈m.objs.take i,dH b e=eR)/\Sp h h' []) (λi=>m8 m.objs-i) 0 m9 ⟨qW _,λe f=>(by simp at f),Sp.refl h⟩ ?_;rintro i M ⟨Q,d,s⟩
 try dsimp only
 refine ae (λe=>?_) λe=>?_
 rotate_left
 .have r:i=m8 m.objs:=nb
  rw[r,qt]at d;rw[k4 (by rw[wh.2 λe f=>by rw[d e f];simp];decide)];exact⟨m9,s⟩
 have c:i<m8 m.objs:=nb
 have k:i<m8 o:=nb
 obtain⟨⟨I,O,R⟩,L⟩:=E i k c;refine(Seq.up t s.ac).cQ (g:=bf) i m9 k o[i] m9 ?_;refine s.alloc ag m9 λK N G=>?_;refine G.storeAll ag 0 m9 m9 (bf o[i]) m9 m9 m9 m9 λh3 q=>?_;refine⟨o[i].1,(q.box 0 m9).cell0 m9,?_⟩;rw[I];have p:(m.objs[i].name.toList==b.toList)=dH b m.objs[i]:=rfl
 try dsimp only
 rw[p];refine aS (λl=>?_) λl=>⟨i+1,n7,⟨c,λe f=>?_,.zip q.ac⟩,nb⟩
 .have F:m.objs.findIdx (dH b)=i:=by rw[List.findIdx_eq c];exact⟨l,λj P=>by rw[d _ (zV.2 ⟨j,nb,m9⟩)]⟩
  rw[hZ (zR.2 ⟨_,qe c,l⟩),F];exact⟨m9,.zip q.ac⟩
 .rw[aA _ _ c,qw,qB]at f;rcases f with f|rfl
  .exact d e f
  .exact l
theorem Ik(x:bc)(m:aB)(n:cv h x m)(l:bM m)(t:-1<=m.seq/\m.seq<=2^40)(H:aa B h0 h (aJ bE a pw (aD x) offs da w ds::As)):
  aj xT 123 #[xL (dB a)] h λv h'=>∃y:bc,v=cC y/\Sp h h' [bo y (iy m)]:=by
 refine ts Tryz.func123 ?_;refine(Sp.refl h).alloc ag m9 λA o g=>?_;refine⟨a,m9,x,uH x (H.up g.ac),(AW x m o (n.up g.ac) l).Hf λy D r=>?_⟩;have j:=g.comp r;refine⟨y,m9,j.alloc ag m9 λa5 h3 s=>?_⟩;refine s.storeAll ag 2 m9 m9 (aD y) m9 m9 m9 m9 λu e=>?_;have f:y.1=m.seq:=(show cv u y m from e.at 1 m9).seq;refine⟨y.1,(e.box 2 m9).cell0 m9,?_⟩
 try dsimp only
 rw[f,af (m.seq+1)];refine e.gO ag 2 m9 m9 [xJ xP (m.seq+1)] m9 m9 m9 n4 λk d=>?_;obtain⟨z,c⟩:∃z:bc,z=(m.seq+1,y.2):=⟨_,rfl⟩
 have d:Sp h k [an A 27 [xJ xP 0,xJ xP 0,xJ xP 0,xJ xP 0,xJ xP 0,xJ xP 0,xK eH 0 0,xK eH 0 0],bo y m,an a5 27 (aD z)]:=by rw[c];exact d
 refine⟨z,(d.box 2 m9).aw _ m9,?_⟩;refine d.storeAll ag 0 m9 m9 (aD z) m9 m9 m9 m9 λE i=>?_;refine⟨z,(i.box 0 m9).aw _ m9,z,m9,?_⟩;refine(i.bs [1]).dY 0 m9 λq b=>?_;rw[c];exact⟨m9,b.next,b.p,b.extra,b.drives,b.objs,b.dcap,b.ocap⟩
theorem NX(x y:bc){K:hY->Prop}(H:aa B h0 h (aJ bE a pw (aD x) offs da w ds::As))(c:∀h',aa B h0 h' (aJ bE a pw (aD y) offs da w ds::As)->K h'):
  au xT (Instr.storeAt 27 (xL (dB a)) (cC y)) h λ_ h'=>K h':=by
 obtain⟨ok,b⟩:=Qw.aa.gM H;refine b.gO ag 0 m9 m9 (aD y) m9 m9 m9 (by simp[cP]) λh' d=>c h' ?_;exact Qw.aa.je ⟨m9,ok.la,ok.ls,ok.same⟩ d
end
theorem Il{m:aB}{b:aG}{l:aC}{N a:Int->Int}(h:∀k∈l,N k=a k):iz m b l N=iz m b l a:=by
 unfold iz
 induction l with
 |nil=>rfl
 |cons k l ih=>rw[yB,yB,h k qS,ih λx c=>h x (qp _ c)]
theorem Ax{m:aB}{N a:Int->Int}:∀{l:aC} {w:Pow} {ds:aG},(∀k∈l,N k=a k)->makes m N l w ds=makes m a l w ds
 |[],_,_,_=>rfl
 |k::l,w,ds,h=>by
  unfold makes;rw[h k qS,Ax λx b=>h x (qp _ b)]
theorem Has.make{a:aG}{S:aC}(F:Has a S)(m:aB)(w:Pow)(k n:Int):Has (fK m w a k n).2.2 S:=by
 unfold fK;cases hd:bX a k with
 |none=>exact F
 |some d=>
  obtain⟨j,rfl,b⟩:=kJ hd;exact F.set b
theorem Has.makes{m:aB}{N:Int->Int}{S:aC}:∀{l:aC} {w:Pow} {ds:aG},Has ds S->Has (makes m N l w ds).2.2 S
 |[],_,_,F=>F
 |k::l,w,ds,F=>by
  unfold Qw.makes;split
  .exact Has.makes (F.make m w k (N k))
  .exact F.make m w k (N k)
theorem Has.live{a:aG}{l:aC}(h:m8 a=64):Has a (bh a l):=⟨h,λ_ b=>(Qw.pZ b).2.imp λ_ h=>h.1⟩
section
variable {pw:fY}
theorem NY(x:bc)(m:aB)(z:bc)(n:aB)(W:St B h0 As λh=>cv h z n)(hz:bM m)(p:bM n)(a5:-1<=m.seq/\m.seq<=2^40)
  (H:aa B h0 h (aJ bE a pw (aD x) offs da w ds::bo x m::As)):
  aj xT 19 #[xL (dB a),cC z] h λv h'=>v=xJ xP (cm m offs w ds n).1/\
   ∃y,aa B h0 h' (aJ bE a pw (aD y) offs da (cm m offs w ds n).2.2.1 (cm m offs w ds n).2.2.2::bo y (cm m offs w ds n).2.1::As):=by
 refine ts Tryz.func19 ?_ (F8 (F8 (G0 [] [(4,5),(10,24)] (F8 (F8 (G0 [] [(4,5),(33,43)] (F8 (F8 (F8 (G0 [] [(54,61)] E6)))))))))) (args:=[(dB a),z]);refine H.boxed λa1 h1 t=>?_;have t:=t.ba.aF 3 [1,2,0];refine(iw t).G6 ⟨_,m9,aS (λe=>?_) λe1=>?_⟩
 .have K:cm m offs w ds n=(14,m,w,ds):=by unfold cm;rw[hZ e]
  rw[K];exact⟨m9,x,t.aF 3 [0,1]⟩
 have u:cv _ z n:=W.at [_,_,_] t;have ay:cv _ x m:=t.at 1 m9;refine aE ?_;refine⟨z,(t.box 2 m9).aw _ m9,(DJ z n _ u p).G7 λh3 R3=>?_⟩;have F:=t.up R3.ac;have ax:=u.up R3.ac;have no:∀{h':hY},aa B h0 h' (aJ bE a pw (aD x) offs da w ds::bo x m::an a1 27 (aD z)::As)->(bF n=eR∨n.seq≠m.seq+1)->(Value.int .i64 1=xJ xP (cm m offs w ds n).1/\∃y,aa B h0 h' (aJ bE a pw (aD y) offs da (cm m offs w ds n).2.2.1 (cm m offs w ds n).2.2.2::bo y (cm m offs w ds n).2.1::As)):=λ{h'} H' hc=>by
  have K:cm m offs w ds n=(1,m,w,ds):=by
   unfold cm;rw[k4 o4,hZ];rcases hc with hc|hc
   .rw[hc];rfl
   .rw[ln hc,Bool.or_true]
  rw[K];exact⟨m9,x,H'.aF 3 [0,1]⟩
 refine⟨_,m9,I0,aH (λe=>no F (.inl e)) λe2=>?_⟩;have J:=F.box 2 m9;refine⟨z.1,J.cell0 m9,a,m9,x.1,(aa.cU F).2.cell0 m9,?_⟩
 try dsimp only
 rw[u.seq,ay.seq,af (m.seq+1)];refine bm (λe=>no F (.inr e)) λe3=>?_;refine⟨_,J.cell m9,?_⟩;have am:=iD e2;have S:∀k∈n.drives,0<=k/\k<64:=gZ e2;refine(HM z.2.2.2.2.2.2.1 n.drives ax.drives nb S F).Hf λo h5 R5=>?_;obtain⟨live,c⟩:=HF (bh ds n.drives)
 rw[<-c]at R5;have a0:m8 live<=64:=by rw[c];exact qX (qK _ _) am
 have f:∀k∈live,0<=k/\k<64:=λk V=>by rw[c]at V;exact S k (qJ.1 V).1
 have H5:=(F.bS R5).aF 4 [1,2,3,0];refine⟨o,m9,z,(H5.box 2 m9).aw _ m9,(mz z n h5 (W.at [_,_,_,_] H5) p).Hf λpg h6 R6=>?_⟩;have s:=(aa.lC R6).1;have U:=nu (m:=n);obtain⟨G,P⟩:=HF ((bG n).length)
 rw[<-P]at s U;have H6:=H5.up R6.ac;have tX:∀{h':hY} {R:Pow} {j:aG} {ah:List HP},aa B h0 h' (aJ bE a pw (aD x) offs da R j::bo x m::an a1 27 (aD z)::ai 3 o 1 av live::ah)->Rd h' o 1 av live:=λH=>H.seq 3 m9 λ_=>rfl;obtain⟨b,d⟩:=HF (lq live G)
 have i:m8 b=64:=by rw[d];exact rj _ _
 refine⟨pg,m9,?_⟩
 try dsimp only
 rw[s];refine(Ih o live (G:Int) h6 (tX H6) nb f).G7 λh7 R7=>?_;rw[<-d];refine⟨b,m9,(H6.up R7.ac).alloc ag m9 λY h8 H8=>?_⟩;have H8:=H8.ba;refine H8.storeAll ag 0 m9 m9 (dl b) m9 (by rw[qn,i]) (by unfold dl;rw[xH];exact qQ.2 λx _=>rfl) (by rw[qn,i];rfl) λh9 q=>?_;have q:=q.aF 5 [1,2,3,4,0];obtain⟨N,hN⟩:∃N:Int->Int,N=λ_=>(G:Int):=⟨_,rfl⟩
 have I:∀k∈live,(λk:Int=>b.getD k.toNat 0) k=N k:=λk V=>by rw[hN,d];exact Zd f V
 have fin:∀{h':hY} {R:Pow} {j:aG},aa B h0 h' (aJ bE a pw (aD x) offs da R j::bo x m::an a1 27 (aD z)::ai 3 o 1 av live::an Y 113 (dl b)::As)->aa B h0 h' (aJ bE a pw (aD x) offs da R j::bo x m::As):=λ{h' R j} H'=>H'.aF 5 [0,1];have K:cm m offs w ds n=(if live=[]∨iz m ds live N=eR then(7,m,w,ds)else
   if(makes m N live w ds).1≠0 then((makes m N live w ds).1,m,(makes m N live w ds).2)else
   ((layAll (bi n live) (makes m N live w ds).2.1 (makes m N live w ds).2.2).1,if(layAll (bi n live) (makes m N live w ds).2.1 (makes m N live w ds).2.2).1=0 then n else m,(layAll (bi n live) (makes m N live w ds).2.1 (makes m N live w ds).2.2).2)):=by
  rw[hN,P,c];unfold cm;rw[k4 o4,k4 (by rw[e2,m5 (by simpa using e3)];decide)]
 rw[K];have T:=(tX q).len;refine aE (aZ (λe=>?_) λe4=>?_)
 .have:live=[]:=List.length_eq_zero_iff.1 nb;rw[hZ (.inl this)];exact⟨m9,x,fin q⟩
 have ab:live≠[]:=λh=>e4 (by rw[T,h];rfl);refine⟨b,⟨i,(q.box 4 m9).aw _ (qt ..)⟩,(Kw x m o live b i (q.at 1 m9) hz (tX q) nb f q).G7 λa2 ad=>?_⟩;have E:=q.up ad.ac;rw[Il I];refine⟨_,m9,aH (λg=>?_) λg=>?_⟩
 .rw[hZ (.inr g)];exact⟨m9,x,fin E⟩
 rw[k4 (by rintro(h|h);exact ab h;rw[g]at h;cases h)];refine⟨b,⟨i,(E.box 4 m9).aw _ (qt ..)⟩,(Ij x m o live b i (St.and (St.dS 0 m9 λh' D=>D) (St.dS (A:=ai 3 o 1 av live) 2 m9 λh' D=>D.1.seq (λ_=>rfl) D.2)) hz nb f E).mono ?_⟩;rw[Ax I];rintro _ a3 ⟨rfl,r⟩;obtain⟨O,M⟩:=HF (makes m N live w ds)
 rw[<-M]at r⊢;refine⟨_,m9,bm (λg2=>?_) λg2=>?_⟩
 .rw[hZ g2];exact⟨m9,x,fin r⟩
 rw[k4 (by simpa using g2)];have Q:Has O.2.2 live:=by rw[M,c];exact Has.makes (Has.live (aa.cU H).1.ls)
 refine⟨z,(r.box 2 m9).aw _ m9,(Au z n o live (St.and (St.cons (St.cons (St.cons (St.cons W)))) (St.dS (A:=ai 3 o 1 av live) 2 m9 λh' D=>D.1.seq (λ_=>rfl) D.2)) p nb Q r).G7 λao l=>?_⟩;obtain⟨L,hL⟩:=HF (layAll (bi n live) O.2.1 O.2.2)
 rw[<-hL]at l⊢;refine⟨_,m9,?_⟩;by_cases X:L.1=0
 .rw[hZ X,X];refine aE (aS (λ_=>?_) λe=>n5);refine⟨z,(l.box 2 m9).aw _ m9,(AW z n ao (W.at [_,_,_,_,_] l) p).Hf λy a6 al=>?_⟩;have Z:=(l.bS al).aF 6 [1,0];refine⟨y,m9,a,m9,NX x y Z λa4 ap=>?_⟩;exact⟨m9,y,ap⟩
 .rw[k4 X];refine aE (aZ (λe=>absurd e X) λ_=>?_);exact⟨m9,x,fin l⟩
theorem PO(x:bc)(m:aB){k:Int}{d:bu}(j:cv h x m)(i:bM m)(o:bX ds k=dB d)(H:aa B h0 h (aJ bE a pw (aD x) offs da w ds::As)):
  aj xT 85 #[.pointer (cT da k),cC x] h λv h'=>∃(r:Sl) (T:List (bw×ct)),v=r/\T.map zg=iI m d.l/\Keyed T/\T.length<=512/\Sp h h' [bV r (T.map qC),gg T]:=by
 obtain⟨b,s,sb,rs,p,q,h3,e⟩:=AX o H;rw[p];refine(Cx b pw d s sb rs x m h q h3 e j i).mono ?_;rintro _ h' ⟨r,T,rfl,g,n,R⟩;refine⟨r,T,m9,g,n,?_,R⟩;have:=jf m d.l;have f:=e.len;have c:=e.room;rw[<-g,qn]at this;omega
theorem Cy(x:bc)(m:aB)(o b:Int)(hx:cv h x m)(hz:bM m)(a6:m.drives.length<=64)(ad:∀y∈m.drives,0<=y/\y<64)(H:aa B h0 h (aJ bE a pw (aD x) offs da w ds::As)):
  aj xT 127 #[xL (dB a),xJ xP o,xJ xP b] h λv h'=>∃(r:Sl) (ys:List (Int×Sl)),v=r/\Sp h h' [cB ey 2 piv r ys (dW m ds (bh ds m.drives) o b)]:=by
 refine ts Tryz.func127 ?_ (F8 (F8 (E5 (F8 (E7 (E8 [(7,bJ),(15,aI)] [(7,8),(9,10),(11,12),(15,55)] (F8 (F8 (E5 (E7 (F8 (F8 (E7 (E8 [(7,bJ),(31,aI)] [(7,8),(11,12),(31,54)] E6))))) E6)))))) E6))) [(5,(.l [0,1,2,3,4,5,6,7,8,9,12,10,11]))];refine(mH x m hx hz ad H).Hf λlv X R1=>?_;have a5:=hz.dr;have al:(bh ds m.drives).length<=m.drives.length:=qK _ _;have J:∀k∈bh ds m.drives,0<=k/\k<64:=λk N=>ad k (qJ.1 N).1;have ab:∀k∈bh ds m.drives,∃d,bX ds k=dB d:=λk N=>by obtain⟨d,h,_⟩:=aba N;exact⟨d,h⟩
 obtain⟨c,am⟩:=HF (bh ds m.drives)
 rw[<-am]at R1 al J ab⊢;have a1:=(R1.own 0 m9).len;refine⟨lv,m9,?_⟩;have H1:=((R1.EF 1 aq).nil 124 2 piv).bs [2,0,1];refine ak (λt:Sl×Nat×List ((Int×Sl)×(Int×aT))×List (Sl×aT)=>(t.1,(t.2.1:Int))) (λt h'=>t.2.1<=c.length/\t.2.2.1.length<=t.2.1*512/\t.2.2.1.map zg=dW m ds (c.take t.2.1) o b/\(∀p∈t.2.2.1,EK t.2.2.2 p)/\Sp h h' [ai 124 t.1 2 piv (t.2.2.1.map qC),iL 1 aq t.2.2.2,ai 3 lv 1 av c]) (λt=>c.length-t.2.1) (⟨eH,0,0⟩,0,[],[]) m9 ⟨n4,n4,by simp[dW],n4,H1⟩ ?_;rintro⟨u,i,L,P⟩ h2 ⟨hi,a7,F,W,Z⟩;dsimp only at*;refine ae (λe=>?_) λe=>?_
 rotate_left
 .rw[qh nb]at F;refine⟨u,L.map qC,m9,?_⟩;have H3:=((Z.freeze 0 m9 λ_=>rfl).bs [1,0]).kA;refine H3.dY 0 m9 λq ⟨q1,q2,_,bq,cq,z1,z2⟩=>?_;refine⟨z1.mono bq,by rw[<-F];simp,λj r e X h2=>?_⟩;rw[<-F]at h2;rw[qM]at X h2;cases hj:L[j]? with
  |none=>rw[hj]at X;cases X
  |some p=>
   rw[hj]at X h2;have e1:=z8.inj (show dB p.1=dB r from X);have e2:=z8.inj (show dB p.2=dB e from h2);subst e1;subst e2;obtain⟨k1,k2⟩:=W p (wj hj);exact⟨k1,(z2 _ k2).mono cq⟩
 have G:i<c.length:=nb
 have N:=J _ (qe G);obtain⟨d,R⟩:=ab c[i] (qe G);obtain⟨n,hn⟩:∃n:Nat,c[i]=(n:Int):=⟨c[i].toNat,nb⟩
 refine(Z.seq 2 m9 λ_=>rfl).aW i m9 G c[i] m9 ?_;have Hc:=H.up Z.ac;rw[hn]at N R⊢;refine⟨a,m9,⟨N.1,N.2⟩,cT da n,Ii Hc n,a,m9,x,uH x Hc,?_⟩;refine(PO x m (hx.up Z.ac) hz R Hc).mono ?_;rintro _ h4 ⟨r7,T,rfl,hT,hK,a4,R4⟩;obtain⟨f,s⟩:=HF (iI m d.l)
 rw[<-s]at hT;have ap:f.length=T.length:=by rw[<-hT,qn]
 have H4:=(Z.comp R4)
 have ax:=(H4.own 3 m9).len;rw[qn]at ax;refine⟨r7,m9,I0,?_⟩;have Y:mY m ds o b (n:Int)=kj o b f:=by unfold mY;rw[R];show rY m o b d.l=_;unfold rY kj;rw[s]
 have V:dW m ds (c.take (i+1)) o b=dW m ds (c.take i) o b++kj o b f:=by unfold dW;rw[aA _ _ G,List.flatMap_append,zm,we,qL,hn,Y]
 obtain⟨Q,hQ⟩:∃Q:List (Sl×aT),Q=T.map λz=>(z.1.2.2.2.2.2.2.2,z.2.data):=⟨_,rfl⟩
 refine ak (λt:Sl×Nat×List ((Int×Sl)×(Int×aT))=>(t.1,(t.2.1:Int))) (λt h'=>t.2.1<=T.length/\t.2.2.length<=L.length+t.2.1/\t.2.2.map zg=dW m ds (c.take i) o b++kj o b (f.take t.2.1)/\(∀p∈t.2.2,EK (P++Q) p)/\Sp h h' [ai 124 t.1 2 piv (t.2.2.map qC),iL 1 aq P,ai 3 lv 1 av c,bV r7 (T.map qC),gg T]) (λt=>T.length-t.2.1) (u,0,L) m9 ⟨n4,n4,by simp[kj,F],λp M=>⟨(W p M).1,yI _ (W p M).2⟩,H4⟩ ?_;rintro⟨u2,j,L2⟩ h5 ⟨hj,a0,E,O,H5⟩;dsimp only at*;refine ae (λe2=>?_) λe2=>?_
 rotate_left
 .have U:j=T.length:=nb
  rw[U,<-ap,qt,<-V]at E;have H6:=(H5.dY 4 m9 (D:=iL 1 aq Q) λq hq y hy=>by
   rw[hQ]at hy;obtain⟨z,ah,rfl⟩:=qI.1 hy;exact(hq z ah).2).bs [1,4,0,2]
  have H7:=aa.Nm H6;exact⟨(u2,i+1,L2,P++Q),n3,⟨n1,n1,E,O,H7.bs [1,0,2]⟩,n1⟩
 have S:j<T.length:=nb
 have U:j<f.length:=nb
 have hy:fm cK h5 T[j].1 T[j].2:=H5.at 4 m9 T[j] (qe S);obtain⟨⟨g1,g2,g3,g4,g5,g6,g7⟩,g8⟩:=hy;have ay:f[j]=T[j].2:=by simp only[<-hT,zw]
 refine(H5.seq 3 m9 λ_=>rfl).cQ (g:=bB) j m9 (by rw[qn];exact S) T[j].1 (by rw[zw]) ?_;refine H5.alloc ag m9 λa3 h6 H6=>?_;refine H6.storeAll ag 5 m9 m9 (bB T[j].1) m9 m9 m9 m9 λh7 H7=>?_;have I:=H7.box 5 m9;have K:kj o b (f.take (j+1))=kj o b (f.take j)++(if(decide (T[j].2.object=o)&&decide (T[j].2.block=b))=eL then[(T[j].2.id,T[j].2.data)]else[]):=by unfold kj;rw[aA _ _ U,zi,qE,zA,wY,ay];split<;>rfl
 have skip:(decide (T[j].2.object=o)&&decide (T[j].2.block=b))=eR->∃A:Sl×Nat×List ((Int×Sl)×(Int×aT)),((⟨u2.ptr,u2.len,u2.cap⟩:Sl),qd xP ((j:Int)+1))=(A.1,(A.2.1:Int))/\(A.2.1<=T.length/\A.2.2.length<=L.length+A.2.1/\A.2.2.map zg=dW m ds (c.take i) o b++kj o b (f.take A.2.1)/\(∀p∈A.2.2,EK (P++Q) p)/\Sp h h7 [ai 124 A.1 2 piv (A.2.2.map qC),iL 1 aq P,ai 3 lv 1 av c,bV r7 (T.map qC),gg T])/\T.length-A.2.1<T.length-j:=λhc=>
  ⟨(u2,j+1,L2),n3,⟨n1,n1,by dsimp only;rw[K,hc];simpa using E,O,H7.bs [0,1,2,3,4]⟩,n1⟩
 refine⟨T[j].2.object,by rw[<-g1];exact I.cell0 m9,aZ (λq1=>?_) λq1=>skip (by rw[m5 q1];rfl)⟩;refine⟨T[j].2.block,by rw[<-g2];exact I.cell m9,aZ (λq2=>?_) λq2=>skip (by rw[m5 q2,vm])⟩;refine⟨T[j].2.id,by rw[<-g3];exact I.cell m9,T[j].1.2.2.2.2.2.2.2,I.cell m9,?_⟩;refine H7.push ag 0 m9 adf m9 nq (λ_=>rfl) tC (T[j].2.id,T[j].1.2.2.2.2.2.2.2) n9 nq n2 λu3 a2 ao=>?_;refine⟨(u3,j+1,L2++[((T[j].2.id,T[j].1.2.2.2.2.2.2.2),(T[j].2.id,T[j].2.data))]),n3,⟨n1,n2,?_,λp M=>?_,?_⟩,n1⟩
 .try dsimp only
  rw[qE,E,K,hZ (by rw[ln q1,ln q2];rfl),ql];rfl
 .rcases qw.1 M with M|M
  .exact O p M
  .rw[qB.1 M];refine⟨m9,yg _ ?_⟩;rw[hQ];exact qI.2 ⟨T[j],qe S,m9⟩
 .try dsimp only
  rw[qE];exact ao.bs [0,1,2,3,4]
theorem NZ(x:bc)(m:aB)(s:Sl)(c:aC)(J:cv h x m)(I:bM m)(G:Rd h s 1 av c)(P:m8 c<=2^30)(q:∀k∈c,0<=k/\k<64)(z:∀k∈c,∃d,bX ds k=dB d)(H:aa B h0 h (aJ bE a pw (aD x) offs da w ds::As)):
  aj xT 125 #[xL (dB a),s] h λv h'=>v=xN (c.any (pv m ds))/\Sp h h' []:=by
 refine ts Tryz.func125 ?_ (F8 (F9 [(9,aI)] [(4,5),(6,7),(9,25)]));have O:=G.len;refine ak (λi:Nat=>(i:Int)) (λi h'=>i<=m8 c/\(c.take i).any (pv m ds)=eR/\Sp h h' []) (λi=>m8 c-i) 0 m9 ⟨qW _,m9,Sp.refl h⟩ ?_;rintro i R ⟨S,j,p⟩
 try dsimp only
 refine ae (λe=>?_) λe=>?_
 rotate_left
 .have A:i=m8 c:=nb
  rw[A,qt]at j;exact⟨by rw[j],p⟩
 have f:i<m8 c:=nb
 have t:=q _ (qe f);obtain⟨d,o⟩:=z c[i] (qe f);obtain⟨n,u⟩:∃n:Nat,c[i]=(n:Int):=⟨c[i].toNat,nb⟩
 have r:(c.take (i+1)).any (pv m ds)=pv m ds n:=by rw[aA _ _ f,ye,j,vB,vV,yp,va,u]
 have E:pv m ds n=jt m d.l:=by unfold pv;rw[<-u,o]
 refine(Seq.up G p.ac).aW i m9 f c[i] m9 ?_;have D:=H.up p.ac;have g:=qe f;rw[u]at t o g⊢;refine⟨a,m9,⟨t.1,t.2⟩,cT da n,Ii D n,a,m9,x,uH x D,?_⟩;obtain⟨b,Q,sb,rs,N,L,M,K⟩:=AX o D;rw[N];refine(PM x L M K (J.up p.ac) I).G7 λh3 F=>⟨_,m9,I0,aS (λy=>⟨?_,.zip (p.up F.ac).ac⟩) λy=>⟨i+1,n7,⟨f,by rw[r,E];exact y,p.up F.ac⟩,nb⟩⟩;rw[zR.2 ⟨(n:Int),g,by rw[E];exact y⟩]
theorem TU(x:bc)(m:aB)(z:bF m=eL)(H:aa B h0 h (aJ bE a pw (aD x) offs da w ds::bo x m::As)):
  aj xT 52 #[xL (dB a)] h λv h'=>∃r:Sl,v=r/\Sp h h' [ai 9 r 1 pz (kN m offs w)]:=by
 refine ts Tryz.func52 ?_ (F8 (F8 (F9 [(3,bJ),(12,aI)] [(3,4),(5,6),(12,25)])));have D:=(aa.cU H).2;have s:cv h x m:=H.at 1 m9;have I:=((cM m).1 z).2.2.2.1;obtain⟨M,F⟩:=ce.fix s.objs;have u:=F.2.1;have A:=F.1.len;obtain⟨N,j⟩:∃N:Nat->List ByteArray,N=λi=>if gy w offs then[]else(m.objs.map Qw.cZ.name).take i:=⟨_,rfl⟩
 refine⟨a,m9,x.2.2.2.2.2.2.2,D.cell m9,?_⟩;refine ak (λt:Sl×Nat=>(t.1,(t.2:Int))) (λt h'=>t.2<=m8 m.objs/\Sp h h' [ai 9 t.1 1 pz (N t.2)]) (λt=>m8 m.objs-t.2) (⟨eH,0,0⟩,0) m9 ⟨n4,by rw[j];simpa using(Sp.refl h).nil 9 1 pz⟩ ?_;rintro⟨o,i⟩ Q ⟨L,k⟩;dsimp only at L k⊢;refine ae (λe=>?_) λe=>?_
 rotate_left
 .refine⟨o,m9,?_⟩;have:N i=kN m offs w:=by rw[j];unfold kN;(try dsimp only);rw[qh A9]
  rw[<-this];exact k
 have d:i<m8 m.objs:=nb
 have b:=Fix.row F d;obtain⟨E,q⟩:=HF (m.objs[i])
 obtain⟨xe,f⟩:=HF (M[i]'nb)
 rw[<-q,<-f]at b;have p:xe.1=E.name:=b.1.1;refine(Seq.up F.1 k.ac).cQ (g:=bf) i m9 nb xe (by rw[f]) ?_;refine k.alloc ag m9 λP h3 J=>?_;refine J.storeAll ag 1 m9 m9 (bf xe) m9 m9 m9 m9 λS l=>?_;refine(iw (H.up l.ac)).G6 ⟨_,m9,aH (λc=>?_) λc=>?_⟩
 .refine⟨xe.1,(l.box 1 m9).cell0 m9,?_⟩;have y:(N i).length<=i:=by rw[j];(try dsimp only);rw[k4 (by rw[c];decide),qx];omega
  refine l.push ag 0 m9 Za m9 nq (λ_=>rfl) QZ xe.1 m9 nq nb λG R K=>?_;refine⟨(G,i+1),n3,⟨n1,?_⟩,n1⟩
  try dsimp only
  have:N (i+1)=N i++[xe.1]:=by
   rw[j];try dsimp only
   rw[k4 (by rw[c];decide),k4 (by rw[c];decide),aA _ _ (show i<(m.objs.map Qw.cZ.name).length by simpa using d),zw,<-q,<-p]
  rw[this];exact K.bs [0]
 .refine⟨(o,i+1),n3,⟨n1,?_⟩,n1⟩
  try dsimp only
  have:N (i+1)=N i:=by rw[j];(try dsimp only);rw[hZ c,hZ c]
  rw[this];exact l.bs [0]
end
variable {t t2 e k:Nat} {z:aR} {by_:Nat} {α:Type} {v:Sl} {f:α->aR}
section
variable {C:Ctx} {p q:ar}
theorem PP(f:C.Ok)(g:bO C.toAA t e k z by_)(u:∃i d,C.T.get t2=dB i/\i.co=.slice d)(b:s.len<=s.cap)(j:v.len=0){ty:Nat}{K:Sl->hY->Prop}(q:K s h):
  bC C.P (q6 #[t,t2] ty #[s,v]) (.one (.sc .slc)) h K:=by
 obtain⟨A,d,r,y⟩:=u;obtain⟨l,o,p⟩:=s;dsimp only at b⊢;have c:C.P.underlying t2=dB (.slice d):=by have:=f.co r;rw[y]at this;exact iB this
 unfold bC q6;simp only[List.getElem?_toArray,List.getElem?_cons_zero,List.getElem?_cons_succ];refine au.bind (au.always (aK (g.under f)) ?_);refine au.bind (au.always (g.size f) ?_);refine au.bind (au.always (aK c) ?_);refine au.bind (au.pure' ?_);simp only[Bool.false_eq_true,if_false,Bool.not_false,if_true];refine au.bind (au.pure' ?_);rw[hZ nb];have w:Seq h (λ_=>True) v k (λ_:Nat=>qf k (xN eR)) []:=⟨by rw[j];rfl,λi x n=>by simp at n⟩
 refine au.bind (eC (λ_=>n4) w ?_);have fin:au C.P (pure (xK l (o+v.len) p):Sem Value) h λm h'=>∃a:Sl,m=(Value.slice a.ptr a.len a.cap)/\K a h':=au.pure' ⟨_,by rw[j];rfl,q⟩;cases l with
 |none=>exact fin
 |some a=>exact au.bind (au.pure' fin)
end
def rk(x:bc)(m:aB)(d:List dM):HP:=⟨λh q=>lm h q x m/\Fix gS 4 bf h q x.2.2.2.2.2.2.2 d m.objs,λa b=>⟨a.1.ac b,a.2.ac b⟩,λa c=>⟨a.1.mono c,a.2.mono c⟩⟩
def TV(T:List (dM×Qw.cZ)):HP:=⟨λh q=>∀t∈T,gS.p h q t.1 t.2,λa d t b=>gS.loc (a t b) d,λa c t b=>gS.mono (a t b) c⟩
variable {x:bc}
theorem aa.WI(H:aa B h0 h (bo x m::As)):∃b,aa B h0 h (rk x m b::As):=by
 have c:aa B h0 h (HP.ex (λb=>rk x m b)::As):=H.dY 0 m9 λq a=>by
  obtain⟨b,F⟩:=ce.fix a.objs;exact⟨b,a,F⟩
 obtain⟨b,d⟩:=c.Lg 0 rfl;exact⟨b,d⟩
theorem aa.WJ{t L:List dM}{T:List (dM×Qw.cZ)}{r:Sl}{x2:bc}{m2:aB}(g:x2.1=m2.seq/\x2.2.1=m2.next/\(x2.2.2.1,x2.2.2.2.1,x2.2.2.2.2.1)=m2.p/\x2.2.2.2.2.2.1=m2.extra)(v:x2.2.2.2.2.2.2.1=x.2.2.2.2.2.2.1)(l:m2.drives=m.drives)(A:x2.2.2.2.2.2.2.2=r)
  (E:m8 L=m8 m2.objs) (G:∀p∈L.zip m2.objs,p∈t.zip m.objs∨p∈T) (H:aa B h0 h (rk x m t::ai 83 r 4 bf L::TV T::As)):aa B h0 h (bo x2 m2::As):=by
 have n:=H.own 1 m9;have O:=((H.freeze 1 m9 λ_=>rfl).kA).kA;refine O.dY 0 m9 λq ⟨U,R,_,b,c,z3,S,Q,_,I,D,K,M,F⟩=>?_;refine⟨g.1,g.2.1,g.2.2.1,g.2.2.2,by rw[v,l];exact M.drives.mono λu a=>c u (D u a),⟨L,by rw[A];exact K.mono λu a=>c u (I u a),E,λj y e w z=>?_⟩,by rw[v];exact M.dcap,by rw[A];exact n.cap⟩;have P:=(qm.1 w).1;have J:=(qm.1 z).1;have d:(y,e)∈L.zip m2.objs:=wj (i:=j) (by rw[List.getElem?_zip_eq_some];exact⟨w,z⟩);rcases G _ d with d|d
 .obtain⟨s,f,k⟩:=qD d;rw[yl]at k;have N:t[s]'(by simp at f;omega)=y:=congrArg qC k;have o:m.objs[s]'(by simp at f;omega)=e:=congrArg zg k;have:=F.2.2 s y e (by rw[<-N];exact qc _) (by rw[<-o];exact qc _);exact gS.mono this λu a=>c u (D u a)
 .exact gS.mono (z3 _ d) λu a=>b u a
section
variable {pw:fY}
theorem adD{m:aB}(b:bM m)(n:Nat):bM (py m n):=by
 have sub:∀e,e∈m.objs.take n++m.objs.drop (n+1)->e∈m.objs:=λe a=>by
  rcases qw.1 a with a|a
  .exact zK a
  .exact yP a
 refine⟨b.dr,?_,λe a=>b.nm e (sub e a)⟩;have:=b.ob;show(m.objs.take n++m.objs.drop (n+1)).length<=_;simp;omega
theorem Oa(c:ByteArray)(x:bc)(m:aB)(hm:bF m=eL)(H:aa B h0 h (aJ bE a pw (aD x) offs da w ds::bo x m::As)):
  aj xT 50 #[xL (dB a),xM c] h λv h'=>v=xJ xP (cA m offs w ds c).1/\
   ∃y,aa B h0 h' (aJ bE a pw (aD y) offs da (cA m offs w ds c).2.2.1 (cA m offs w ds c).2.2.2::bo y (cA m offs w ds c).2.1::As):=by
 refine ts Tryz.func50 ?_ (F8 (F8 (F8 (F8 (F8 (F8 (G0 [] [(22,34)] E6))))))) [(9,(.l [0,1,2,3,5,6,7,8,9,4,10,11,12]))];have X:=iA hm;obtain⟨g1,g2,g3,g4⟩:=(iC m).1 ((cM m).1 hm).1;have ay:=((cM m).1 hm).2.2.2.1;refine(iw H).mono ?_;rintro _ P ⟨rfl,rfl⟩;refine⟨_,m9,aS (λe=>?_) λV=>?_⟩
 .have N:cA m offs w ds c=(14,m,w,ds):=by unfold cA;rw[hZ e]
  rw[N];exact⟨m9,x,H⟩
 refine(te x m c (H.at 1 m9) X H).G7 λQ R2=>?_;have R:=H.up R2.ac;refine⟨_,m9,?_⟩;by_cases f:m.objs.any (dH c)=eL
 rotate_left
 .rw[k4 f];refine ae (λ_=>?_) λe=>absurd nq e;have N:cA m offs w ds c=(5,m,w,ds):=by unfold cA;rw[k4 (by rw[V];decide),hZ B6]
  rw[N];exact⟨m9,x,R⟩
 rw[hZ f];obtain⟨n,hn⟩:=HF (m.objs.findIdx (dH c))
 have ap:n<m8 m.objs:=by rw[hn];exact wA (by obtain⟨e,P,Q⟩:=zR.1 f;exact⟨e,P,Q⟩)
 rw[<-hn];have al:=(aa.cU R).2;have T:cv Q x m:=R.at 1 m9;refine ae (λe=>absurd e (xk.2 (ze n))) λ_=>⟨a,m9,x.1,al.cell0 m9,?_⟩
 rw[T.seq];refine aZ (λe4=>?_) λe4=>?_
 .have N:cA m offs w ds c=(7,m,w,ds):=by unfold cA;rw[k4 (by rw[V];decide),k4 (by rw[f];decide),hZ nb]
  rw[N];exact⟨m9,x,R⟩
 have N:cA m offs w ds c=cm m offs w ds (py m n):=by unfold cA;rw[k4 (by rw[V];decide),k4 (by rw[f];decide),k4 nb,hn]
 rw[N];refine(Ik x m T X nb R).Hf λy h3 R3=>?_;have H3:=R.bS R3;refine⟨y,m9,H3.alloc ag m9 λa3 h4 H4=>?_⟩;have H4:=H4.ba;refine H4.storeAll ag 0 m9 m9 (aD y) m9 m9 m9 m9 λZ H5=>?_;obtain⟨j,J⟩:=aa.WI (H5.aF 2 [1,0]);have E:=(J.at 0 rfl:lm Z _ y (iy m)/\Fix gS 4 bf Z _ y.2.2.2.2.2.2.2 j (iy m).objs)
 obtain⟨u,E⟩:=E;have I:m8 j=m8 m.objs:=E.2.1;have O:=E.1.len;have W:=u.ocap;refine bn (λ_ h'=>∃g:bc,aa B h0 h' (an a3 27 (aD g)::bo g (py m n)::aJ bE a pw (aD x) offs da w ds::bo x m::As)) ?_ ?_
 .obtain⟨o,ho⟩:=HF y.2.2.2.2.2.2.2
  have a1:=J.box 1 m9;have z:∀{h':hY} {Bs:List HP},aa B h0 h' (rk y (iy m) j::an a3 27 (aD y)::Bs)->hU h' (a3.add 7)=dB (xK o.ptr o.len o.cap):=λH=>by rw[ho];exact(H.box 1 m9).cell m9
  rw[<-ho]at O W;refine⟨o,z J,o,z J,?_⟩;rw[af ((n:Int)+1)];refine⟨⟨nb,nb⟩,?_⟩;refine ig ag mS n m9 m9 nb ⟨⟨z J,I0⟩,?_⟩;have V:((n:Int)+1).toNat=n+1:=nb
  rw[V];have k:y.1=(py m n).seq/\y.2.1=(py m n).next/\(y.2.2.1,y.2.2.2.1,y.2.2.2.2.1)=(py m n).p/\y.2.2.2.2.2.1=(py m n).extra:=⟨u.seq,u.next,u.p,u.extra⟩
  have L:Seq Z (λb=>b<Z.size) o 4 bf j:=by rw[ho];exact E.1
  by_cases ab:n+1=m8 m.objs
  .refine PP (s:=⟨o.ptr,n,n⟩) (v:=⟨if o.cap=n+1 then o.ptr else o.ptr.map (·.add ((n+1)*4)),o.len-(n+1),o.cap-(n+1)⟩) ag mS ⟨_,_,m9,m9⟩ (qj _) (by dsimp only;rw[O,I];omega) ?_;refine⟨⟨z J,I0⟩,J.store ag 1 m9 m9 7 [xK o.ptr n n] m9 m9 m9 o1 λh8 H8=>⟨I0,?_⟩⟩;obtain⟨g,d⟩:∃g:bc,g=(y.1,y.2.1,y.2.2.1,y.2.2.2.1,y.2.2.2.2.1,y.2.2.2.2.2.1,y.2.2.2.2.2.2.1,⟨o.ptr,n,n⟩):=⟨_,rfl⟩
   refine⟨g,?_⟩;have S:aa B h0 h8 (rk y (iy m) j::an a3 27 (aD g)::aJ bE a pw (aD x) offs da w ds::bo x m::As):=by rw[d];exact H8
   have G:=S.dY 0 m9 (D:=bo g (py m n)) λq ⟨M,F⟩=>by
    have eo:(py m n).objs=m.objs.take n:=by show m.objs.take n++m.objs.drop (n+1)=_;rw[List.drop_eq_nil_of_le nb,qL]
    refine⟨by rw[d];exact k.1,by rw[d];exact k.2.1,by rw[d];exact k.2.2.1,by rw[d];exact k.2.2.2,by rw[d];exact M.drives,?_,by rw[d];exact M.dcap,by rw[d];exact qj _⟩;rw[eo];have q1:=F.1.take n nb;rw[<-ho]at q1;refine⟨j.take n,by rw[d];exact⟨q1.len,q1.elem⟩,by rw[qx,qx,I],λi r l P Q=>?_⟩;rw[List.getElem?_take]at P Q;split at P
    .rename_i am;rw[hZ am]at Q;exact F.2.2 i r l P Q
    .cases P
   exact G.aF 2 [1,0]
  .have hd:=L.drop (n+1) W;have Y:=L.take n nb;have a0:=hd.len;have U:¬n+(o.len-(n+1))<=n:=by rw[O,I];omega
   refine J.ED (s:=⟨o.ptr,n,n⟩) ag mS ⟨_,_,m9,m9⟩ m9 nq (λ_=>rfl) ⟨Y.len,Y.elem⟩ (qj _) U hd n2 λr h7 H7=>⟨⟨z H7,I0⟩,?_⟩
   refine H7.store ag 1 m9 m9 7 [r] m9 m9 m9 o1 λh8 H8=>⟨I0,?_⟩
   obtain⟨g,d⟩:∃g:bc,g=(y.1,y.2.1,y.2.2.1,y.2.2.2.1,y.2.2.2.2.1,y.2.2.2.2.2.1,y.2.2.2.2.2.2.1,r):=⟨_,rfl⟩
   refine⟨g,?_⟩;have S:aa B h0 h8 ((rk y (iy m) j::an a3 27 (aD g)::aJ bE a pw (aD x) offs da w ds::bo x m::As)++[ai 83 r 4 bf (j.take n++j.drop (n+1))]):=by rw[d];exact H8
   have G:=S.front;have ad:=(G.comp (.one (A:=TV []) (aQ.refl _ _) λt Y=>(by cases Y))).ba;have ao:=ad.aF 6 [2,1,0,3,4,5];have ah:=aa.WJ (x:=y) (m:=iy m) (x2:=g) (m2:=py m n) (by rw[d];exact k) (by rw[d]) m9 (by rw[d]) (by
    show(j.take n++j.drop (n+1)).length=(m.objs.take n++m.objs.drop (n+1)).length;simp[I]) (λp K=>.inl ?_) ao
   .exact ah.aF 2 [1,0]
   .have K:p∈(j.take n++j.drop (n+1)).zip (m.objs.take n++m.objs.drop (n+1)):=K;rw[List.zip_append (by simp[I])]at K;show p∈j.zip m.objs;rw[<-qA n (j.zip m.objs)];rcases qw.1 K with K|K
    .refine yI _ ?_;rw[List.zip,List.take_zipWith];exact K
    .refine yg _ ?_;have:p∈(j.zip m.objs).drop (n+1):=by rw[List.zip,List.drop_zipWith];exact K
     rw[<-List.drop_drop]at this;exact yP this
 rintro _ h9 ⟨g,S⟩;refine⟨g,(S.box 0 m9).aw _ m9,?_⟩;refine(NY x m g (py m n) (As:=bo g (py m n)::As) (St.dS 0 m9 λ_ hq=>hq) X (adD X n) nb (S.aF 4 [2,3,1])).G7 λax ⟨y3,G⟩=>⟨_,m9,m9,y3,G.aF 3 [0,1]⟩
end
def kd(m:aB)(a:Int)(w:Pow)(b:ByteArray):aC:=
 if gy w a=eL then[]else match m.objs.find? (dH b)with
 |none=>[]
 |some e=>e.tries
section
variable {pw:fY}
theorem TW(x:bc)(f:ByteArray)(hm:bF m=eL)(J:∀k d,bX ds k=dB d->d.l.length<=512)(H:aa B h0 h (aJ bP a pw (aD x) offs da w ds::bo x m::As)):
  aj xT 32 #[xL (dB a),xM f] h λv h'=>∃t:Sl,v=.tuple #[xO #[xJ xP (gj m offs w ds f).1.1,xJ xP (gj m offs w ds f).1.2.1,xJ xP (gj m offs w ds f).1.2.2,t],xJ xP (gj m offs w ds f).2]/\Sp h h' [ai 3 t 1 av (kd m offs w f)]:=by
 refine ts Tryz.func32 ?_ (F8 (F8 (F8 (F8 (F8 (G0 [(8,(.sc .adr))] [(8,9),(30,39)] (E5 (F8 (E7 (E8 [(42,aI)] [(10,11),(12,13),(42,73)] (F8 (F8 (E5 (E7 (F8 (F8 (E7 (E8 [(58,aI)] [(12,13),(58,72)] E6))))) E6)))))) E6))))))) [(7,(.y [0,1,2,3,4,5,6] (.l [7,8,9,10]) (.l [9,7,8,10]))),(11,(.l [0,1,2,3,4,5,6,7,8,9,12,10,11]))];have hz:=iA hm;have b1:=iD hm;have bq:(bh ds m.drives).length<=64:=qX (qK _ _) b1;refine(Sp.refl h).alloc ag m9 λa1 h1 R1=>?_;have O:=H.up R1.ac;refine(oD O).G6 ⟨_,m9,aS (λe=>?_) λe1=>?_⟩
 .refine R1.storeAll ag 0 m9 m9 (lM (0,0,0) ⟨eH,0,0⟩) m9 m9 m9 m9 λh3 Z=>?_;refine⟨(0,0,0,⟨eH,0,0⟩),(Z.box 0 m9).aw _ m9,⟨eH,0,0⟩,by unfold gj;rw[hZ e],?_⟩;rw[show kd m offs w f=[]by unfold kd;rw[hZ e]];exact(Sp.zip Z.ac).nil 3 1 av
 refine(find_spec x m f (O.at 1 m9) hz O).mono ?_;rintro _ h4 ⟨⟨i,rfl,hi⟩,R4⟩;have z:=R1.up R4.ac;have H4:=O.up R4.ac;refine⟨i,m9,?_⟩;rcases EL hi with⟨hneg,hf⟩|⟨n,hn,rfl,hf⟩
 .refine ae (λ_=>?_) λe=>absurd hneg e;refine z.storeAll ag 0 m9 m9 (lM (0,0,0) ⟨eH,0,0⟩) m9 m9 m9 m9 λh3 Z=>?_;refine⟨(0,0,0,⟨eH,0,0⟩),(Z.box 0 m9).aw _ m9,⟨eH,0,0⟩,by unfold gj;rw[k4 o4,hf],?_⟩;rw[show kd m offs w f=[]by unfold kd;rw[k4 o4,hf]];exact(Sp.zip Z.ac).nil 3 1 av
 refine ae (λe=>absurd e (xk.2 (ze n))) λ_=>?_;obtain⟨E,hE⟩:=HF (m.objs[n])
 have ca:E∈m.objs:=B4
 have ep:gj m offs w ds f=((E.length,(E.tries.length:Int),(og m ds (bh ds m.drives) E.object:Int)),0):=by unfold gj;rw[k4 o4,hf,hE]
 have et:kd m offs w f=E.tries:=by unfold kd;rw[k4 o4,hf,hE]
 rw[ep,et];have b9:=(iT m E).1 (((cM m).1 hm).2.2.2.2.1 E ca);have dd:E.tries.length<=8:=by have:=ma b9.2.2.1.2;omega
 have a7:=(aa.cF H4).2;have bk:cv h4 x m:=H4.at 1 m9;obtain⟨ys,F⟩:=ce.fix bk.objs;have dk:=F.2.1;have p:=Fix.row F hn;obtain⟨xe,a6⟩:=HF (ys[n]'nb)
 rw[<-hE,<-a6]at p;refine⟨a,m9,x.2.2.2.2.2.2.2,a7.cell m9,F.1.cQ (g:=bf) n m9 nb xe (by rw[a6]) ?_⟩;refine(Sp.refl h4).alloc ag m9 λK h6 Q6=>?_;refine Q6.storeAll ag 0 m9 m9 (bf xe) m9 m9 m9 m9 λh7 Q7=>?_;obtain⟨X,R7⟩:∃X,Sp h h7 [an a1 70 X,an K 83 (bf xe)]/\X.length=4:=⟨_,z.comp Q7,rfl⟩
 obtain⟨R7,z4⟩:=R7;have R:Rd h4 xe.2.2.2 1 av E.tries:=p.2;have P:=R.len;have eo:xe.2.1=E.object:=p.1.2.1;have el:xe.2.2.1=E.length:=p.1.2.2;have a4:=Q7.ac;refine bn (λ(s:fY) h'=>∃t:Sl,Sp h h' [an a1 70 X,an K 83 (bf xe),an s 70 (lM (E.length,(E.tries.length:Int),0) t),ai 3 t 1 av E.tries]) ?_ ?_
 .have G:=R7.box 1 m9;refine⟨xe.2.2.1,G.cell m9,xe.2.2.2,G.cell m9,xe.2.2.2,G.cell m9,?_,?_⟩
  .refine(jN xe.2.2.2 E.tries h7 (R.up a4) nb).Hf λt h8 R8=>?_;have cf:=R7.comp R8;refine⟨t,m9,gP R8.ac ⟨G.cell m9,G.cell m9,I0⟩,cf.alloc ag m9 λcr h9 R9=>?_⟩;have a3:=R9.box 1 m9;refine⟨⟨a3.cell m9,a3.cell m9,I0⟩,R9.storeAll ag 3 m9 m9 (lM (E.length,(E.tries.length:Int),0) t) (by rw[el,P];rfl) m9 m9 m9 λbr T=>⟨I0,t,T.bs [0,1,3,2]⟩⟩
  .refine(Sp.refl h7).alloc ag m9 λc8 cb ao=>?_;have al:=R7.comp ao;have o:=al.box 1 m9;refine⟨⟨o.cell m9,o.cell m9,o.cell m9,I0⟩,?_⟩;refine(jN xe.2.2.2 E.tries cb ((R.up a4).up ao.ac) nb).Hf λt c1 ah=>?_;have ab:=al.comp ah;refine⟨t,m9,gP ah.ac ⟨o.cell m9,o.cell m9,I0⟩,ab.storeAll ag 2 m9 m9 (lM (E.length,(E.tries.length:Int),0) t) (by rw[el,P];rfl) m9 m9 m9 λbr T=>⟨I0,t,T⟩⟩
 rintro ax c7 ⟨t,z⟩;have ad:=H.up z.ac;refine(fC x m (ad.at 1 m9) hz ad).Hf λlv c5 A=>?_;obtain⟨live,u⟩:=HF (bh ds m.drives)
 have bb:∀k∈live,k∈m.drives/\∃d,bX ds k=dB d/\d.lost=eR:=λk hk=>pZ (by rw[<-u];exact hk);rw[<-u]at A bq⊢;have A:=z.comp A;have cu:=(A.own 4 m9).len;refine⟨lv,m9,?_⟩;refine ak (λi:Nat=>(i:Int)) (λi h'=>i<=live.length/\Sp h h' [an a1 70 X,an K 83 (bf xe),an ax 70 (lM (E.length,(E.tries.length:Int),(og m ds (live.take i) E.object:Int)) t),ai 3 t 1 av E.tries,ai 3 lv 1 av live]) (λi=>live.length-i) 0 m9 ⟨nb,A⟩ ?_;rintro i ay ⟨hi,q⟩
 try dsimp only
 refine ae (λe=>?_) λe=>?_
 .have W:i<live.length:=nb
  refine(q.seq 4 m9 λ_=>rfl).aW i m9 W live[i] m9 ?_;have U:=H.up q.ac;obtain⟨cc,d,hd,_⟩:=bb live[i] (qe W);have cn:=gZ hm _ cc;obtain⟨ok,hb⟩:=aa.cF U;obtain⟨k,hk⟩:∃k:Nat,live[i]=k:=⟨live[i].toNat,nb⟩
  have a2:k<da.length:=B0
  have V:=WD m ds E.object live i W;rw[hk]at hd V⊢;have cd:hU ay ((a.add 10).add ((k:Int).toNat*1))=dB (.pointer da[k]):=by rw[qi,zG];refine hb.mh 10 k ?_;rw[mT ok.l8,qc a2];rfl
  have a8:cT da (k:Int)=da[k]:=by unfold cT;rw[hZ nb,qi,qc a2];rfl
  obtain⟨b,sd,bl,bd,ci,b3,b5⟩:=DM hd U;refine⟨a,m9,⟨nb,nb⟩,da[k],cd,a,m9,x,hb.aw _ m9,?_⟩;rw[<-a8,bd];refine(uu b pw d sd bl x m ay ci b3 b5 (U.at 1 m9) hz).mono ?_;rintro _ cs ⟨r7,yr,rfl,Y⟩;have b7:=qX (jf m d.l) (J _ d hd);have ap:DT m ds E.object k=(iI m d.l).countP (λr=>decide (r.object=E.object)):=by unfold DT;rw[hd]
  obtain⟨c,S⟩:=HF (iI m d.l)
  rw[<-S]at Y b7 ap;have I:=q.comp Y;have F4:=I.dv 5 m9;have c4:=F4.2.1;have du:=F4.1.len;refine⟨r7,m9,I0,?_⟩;have a0:=QW m ds E.object J (live.take i);rw[qx,Nat.min_eq_left hi]at a0;obtain⟨Q,b4⟩:=HF (og m ds (live.take i) E.object)
  rw[<-b4]at I a0 V;have cq:i*512<=64*512:=Nat.mul_le_mul_right _ nb;refine ak (λj:Nat=>(j:Int)) (λj h'=>j<=c.length/\Sp h h' [an a1 70 X,an K 83 (bf xe),an ax 70 (lM (E.length,(E.tries.length:Int),((Q+(c.take j).countP (λr=>decide (r.object=E.object)):Nat):Int)) t),ai 3 t 1 av E.tries,ai 3 lv 1 av live,cB cK 8 bB r7 yr c]) (λj=>c.length-j) 0 m9 ⟨nb,I⟩ ?_;rintro j c2 ⟨hj,N⟩
  try dsimp only
  refine ae (λe2=>?_) λe2=>?_
  .have am:j<c.length:=nb
   have F5:=N.dv 5 m9;obtain⟨⟨g1,_⟩,_⟩:=Fix.row F5 am;have b0:j<yr.length:=nb
   refine F5.1.cQ (g:=bB) j m9 b0 yr[j] m9 ?_;refine N.alloc ag m9 λdx c9 a9=>?_;refine a9.storeAll ag 6 m9 m9 (bB yr[j]) m9 m9 m9 m9 λdr D=>?_;have cp:(c.take j).countP (λr=>decide (r.object=E.object))<=512:=qX List.countP_le_length p8;have M:(c.take (j+1)).countP (λr=>decide (r.object=E.object))=(c.take j).countP (λr=>decide (r.object=E.object))+(if c[j].object=E.object then 1 else 0):=by rw[List.take_succ_eq_append_getElem am,List.countP_append,List.countP_singleton];simp
   refine⟨yr[j].1,(D.box 6 m9).cell0 m9,xe.2.1,(D.box 1 m9).cell m9,aZ (λe3=>?_) λe3=>?_⟩
   .have e4:c[j].object=E.object:=by rw[<-g1,e3,eo]
    rw[hZ e4]at M;refine⟨((Q+(c.take j).countP (λr=>decide (r.object=E.object)):Nat):Int),(D.box 2 m9).cell m9,D.storeAt ag 2 m9 m9 (off:=2) m9 m9 m9 n4 λc6 a5=>?_⟩;have ew:qd xP (((Q+(c.take j).countP (λr=>decide (r.object=E.object)):Nat):Int)+1)=((Q+(c.take j).countP (λr=>decide (r.object=E.object)):Nat):Int)+1:=af _;refine⟨j+1,n7,⟨nb,?_⟩,nb⟩;rw[M];rw[ew]at a5;have L:=a5.bs [0,1,2,3,4,5];have e5:((Q+((c.take j).countP (λr=>decide (r.object=E.object))+1):Nat):Int)=((Q+(c.take j).countP (λr=>decide (r.object=E.object)):Nat):Int)+1:=nb
    rw[e5];exact L
   .have e4:¬c[j].object=E.object:=λh=>e3 (by rw[g1,h,eo]);rw[k4 e4,yn]at M;exact⟨j+1,n7,⟨nb,by rw[M];exact D.bs [0,1,2,3,4,5]⟩,nb⟩
  have b6:j=c.length:=nb
  subst b6;rw[qt,<-ap,<-V]at N;exact⟨i+1,n7,⟨nb,N.bs [0,1,2,3,4]⟩,nb⟩
 have b2:i=live.length:=nb
 subst b2;rw[qt]at q;refine⟨(E.length,(E.tries.length:Int),(og m ds live E.object:Int),t),(q.box 2 m9).aw _ m9,?_⟩;refine q.storeAll ag 0 m9 m9 (lM (E.length,(E.tries.length:Int),(og m ds live E.object:Int)) t) m9 m9 m9 (by rw[z4];rfl) λcy L=>?_;exact⟨(E.length,(E.tries.length:Int),(og m ds live E.object:Int),t),(L.box 0 m9).aw _ m9,t,m9,L.bs [3]⟩
end
theorem WK(P:cZ->Bool)(l:List cZ):MP P l (if l.any P=eL then((l.findIdx P:Nat):Int)else-1):=by
 by_cases h:l.any P=eL
 .rw[hZ h];have a:l.findIdx P<m8 l:=wA (by obtain⟨e,f,c⟩:=zR.1 h;exact⟨e,f,c⟩);refine .inr ⟨_,a,m9,List.findIdx_getElem,wh.2 λe b=>?_⟩;obtain⟨j,d,rfl⟩:=zV.1 b;rw[List.not_of_lt_findIdx (qU d (Nat.min_le_left _ _))];decide
 .rw[k4 h];exact .inl ⟨m9,p5⟩
theorem Kx{α:Type}{p q r:α->Bool}:∀(l:List α),(∀x∈l,r x=(p x||q x))->(∀x∈l,(p x&&q x)=eR)->l.countP r=l.countP p+l.countP q
 |[],_,_=>rfl
 |x::l,h1,h2=>by
  have d:=Kx l (λy c=>h1 y (qp _ c)) λy c=>h2 y (qp _ c);have a:=h1 x qS;have b:=h2 x qS;rw[vt,vt,vt,d,a];cases hp:p x<;>cases hq:q x
  .simp
  .simp;omega
  .simp;omega
  .rw[hp,hq]at b;cases b
theorem abp(o b:Int)(l:List ct):(kj o b l).length=l.countP λr=>decide (r.object=o)&&decide (r.block=b):=by unfold kj;rw[qn,List.countP_eq_length_filter]
theorem Ob(o:Int)(l:List ct):∀T:Nat,(∀r∈l,r.object=o->0<=r.block/\r.block<(T:Int))->l.countP (λr=>decide (r.object=o))=((qy T).map λi:Nat=>(kj o (i:Int) l).length).sum:=by
 have d:∀T:Nat,(∀r∈l,r.object=o->0<=r.block)->l.countP (λr=>decide (r.object=o)&&decide (r.block<(T:Int)))=((qy T).map λi:Nat=>(kj o (i:Int) l).length).sum:=by
  intro T h0
  induction T with
  |zero=>
   rw[List.range_zero,y7,List.sum_nil,List.countP_eq_zero];intro r a;rw[qz,decide_eq_true_eq,decide_eq_true_eq];rintro⟨c,e⟩;have:=h0 r a c;omega
  |succ T ih=>
   rw[zC,qE,List.sum_append,<-ih,wy,y7,xp,List.sum_nil,yn,abp];refine Kx l (λr _=>?_) λr _=>?_
   .rw[<-Bool.and_or_distrib_left,<-Bool.decide_or];congr 1;rw[decide_eq_decide];omega
   .by_cases c:r.object=o
    .rw[ln c,z7,z7,<-Bool.decide_and,m5 nb]
    .rw[m5 c];rfl
 intro T h;rw[<-d T λr a b=>(h r a b).1];refine List.countP_congr λr a=>?_;rw[qz,decide_eq_true_eq,decide_eq_true_eq];exact⟨λb=>⟨b,(h r a b).2⟩,λh=>h.1⟩
theorem Gn{α:Type}:∀L:List α,(L.map λ_=>0).sum=0
 |[]=>rfl
 |_::L=>by rw[wy,xp,Gn L]
theorem Re:∀{l:List cZ},l.Pairwise (λa b=>a.object≠b.object)->∀{x y:cZ},x∈l->y∈l->x≠y->x.object≠y.object
 |[],_,x,_,hx,_,_=>by cases hx
 |z::l,h,x,y,hx,hy,hne=>by
  rw[zr]at h;rcases qN.1 hx with rfl|hx'
  .rcases qN.1 hy with rfl|hy'
   .exact absurd m9 hne
   .exact h.1 _ hy'
  .rcases qN.1 hy with rfl|hy'
   .exactλe=>h.1 _ hx' e.symm
   .exact Re h.2 hx' hy' hne
theorem Oc{m:aB}(c:bF m=eL){E:cZ}(b:E∈m.objs){r:ct}(h:dK m r=eL)(d:r.object=E.object):0<=r.block/\r.block<(E.tries.length:Int):=by
 have f:=((jS r).1 (HO h))
 unfold dK at h;rw[qz,qz,zR]at h;obtain⟨_,_,x,e,h⟩:=h;rw[qz,qz,decide_eq_true_eq,decide_eq_true_eq,decide_eq_true_eq]at h;have g:=((cM m).1 c).2.2.2.2.2.2;have:x=E:=by
  by_cases a:x=E
  .exact a
  .exact absurd (h.1.trans d) (Re g e b a)
 rw[<-this];exact⟨f.2.1.1,h.2.1⟩
theorem Ze{m:aB}(b:bF m=eL)(a:aG){E:cZ}(c:E∈m.objs)(live:aC):og m a live E.object=((qy E.tries.length).map λi:Nat=>(dW m a live E.object (i:Int)).length).sum:=by
 unfold og dW
 induction live with
 |nil=>simp only[y7,we,List.length_nil];exact(Gn _).symm
 |cons k live ih=>
  rw[wy,xp,ih];have:DT m a E.object k=((qy E.tries.length).map λi:Nat=>(mY m a E.object (i:Int) k).length).sum:=by
   unfold DT mY;cases hd:bX a k with
   |none=>exact(Gn _).symm
   |some d=>
    refine Ob _ _ _ λr g e=>?_;obtain⟨_,_,_,f⟩:=BQ g;exact Oc b c f e
  rw[this];generalize qy E.tries.length=L
  induction L with
  |nil=>rfl
  |cons i L ihL=>simp only[wy,xp,zm,qo]at ihL⊢;omega
section
variable {pw:fY}
theorem WL{e:aR}(H:aa B h0 h (aJ bE a pw e offs da w ds::As)):∀k d,bX ds k=dB d->m8 d.l<=512:=λk d f=>by
 obtain⟨_,_,_,_,_,_,_,ok⟩:=AX f H;have c:=ok.len;have b:=ok.room;omega
theorem Cd(m:aB){c:aG}(o b:Int)(e:∀k d,bX c k=dB d->m8 d.l<=512):∀a:aC,(dW m c a o b).length<=m8 a*512
 |[]=>by simp[dW]
 |k::l=>by
  have f:=Cd m o b e l;have:(mY m c o b k).length<=512:=by
   unfold mY;cases hd:bX c k with
   |none=>exact qW _
   |some d=>exact qX (HE _ _ _ _) (e k d hd)
  unfold dW at f⊢;rw[zm,qo,q7,zU];omega
theorem TX(x:bc)(m:aB)(b:ByteArray)(N:bF m=eL)(H:aa B h0 h (aJ bE a pw (aD x) offs da w ds::bo x m::As)):
  aj xT 53 #[xL (dB a),xM b] h λv h'=>∃t:Sl,v=.tuple #[xO #[xJ xP (gj m offs w ds b).1.1,xJ xP (gj m offs w ds b).1.2.1,xJ xP (gj m offs w ds b).1.2.2,t],xJ xP (gj m offs w ds b).2]/\Sp h h' [ai 3 t 1 av (kd m offs w b)]:=by
 refine ts Tryz.func53 ?_ (F8 (F8 (F8 (F8 (F8 (G0 [(8,(.sc .adr))] [(8,9),(27,36)] (F9 [(39,aI)] [(9,10),(39,53)]))))))) [(7,(.y [0,1,2,3,4,5,6] (.l [7,8,9,10]) (.l [9,7,8,10])))];have hz:=iA N;have U:=iD N;have a3:∀y∈m.drives,0<=y/\y<64:=gZ N;have a9:(bh ds m.drives).length<=64:=qX (qK _ _) U;refine(Sp.refl h).alloc ag m9 λa1 h1 R1=>?_;have u:=H.up R1.ac;refine(iw u).mono ?_;rintro _ h2 ⟨rfl,rfl⟩;refine⟨_,m9,aS (λe=>?_) λe1=>?_⟩
 .refine R1.storeAll ag 0 m9 m9 (lM (0,0,0) ⟨eH,0,0⟩) m9 m9 m9 m9 λh3 M=>?_;refine⟨(0,0,0,⟨eH,0,0⟩),(M.box 0 m9).aw _ m9,⟨eH,0,0⟩,by unfold gj;rw[hZ e],?_⟩;rw[show kd m offs w b=[]by unfold kd;rw[hZ e]];exact(Sp.zip M.ac).nil 3 1 av
 refine(te x m b (u.at 1 m9) hz u).G7 λh4 R4=>?_;have c:=R1.up R4.ac;have H4:=u.up R4.ac;have hi:=WK (dH b) m.objs;generalize (if m.objs.any (dH b)=eL then((m.objs.findIdx (dH b):Nat):Int)else-1)=i at hi;refine⟨i,m9,?_⟩;rcases EL hi with⟨hneg,hf⟩|⟨n,hn,rfl,hf⟩
 .refine ae (λ_=>?_) λe=>absurd hneg e;refine c.storeAll ag 0 m9 m9 (lM (0,0,0) ⟨eH,0,0⟩) m9 m9 m9 m9 λh3 M=>?_;refine⟨(0,0,0,⟨eH,0,0⟩),(M.box 0 m9).aw _ m9,⟨eH,0,0⟩,by unfold gj;rw[k4 o4,hf],?_⟩;rw[show kd m offs w b=[]by unfold kd;rw[k4 o4,hf]];exact(Sp.zip M.ac).nil 3 1 av
 refine ae (λe=>absurd e (xk.2 (ze n))) λ_=>?_;obtain⟨E,hE⟩:=HF (m.objs[n])
 have ah:E∈m.objs:=B4
 obtain⟨S,hS⟩:∃S:Nat->Nat,S=λj=>((qy j).map λi:Nat=>(dW m ds (bh ds m.drives) E.object (i:Int)).length).sum:=⟨_,rfl⟩
 have T:S 0=0:=by rw[hS];rfl
 have X:∀j,S (j+1)=S j+(dW m ds (bh ds m.drives) E.object (j:Int)).length:=λj=>by rw[hS];(try dsimp only);rw[zC,qE,List.sum_append];simp
 have p:∀j:Nat,(dW m ds (bh ds m.drives) E.object (j:Int)).length<=32768:=λj=>by
  have:=Cd m E.object (j:Int) (WL H4) (bh ds m.drives);omega
 have ao:∀j,S j<=j*32768:=λj=>by
  induction j with
  |zero=>rw[T];exact qW _
  |succ j ih=>rw[X,zU];have:=p j;omega
 have ep:gj m offs w ds b=((E.length,(E.tries.length:Int),(S E.tries.length:Int)),0):=by
  unfold gj;rw[k4 o4,hf,hS,<-hE]
  try dsimp only
  rw[Ze N ds ah]
 have et:kd m offs w b=E.tries:=by unfold kd;rw[k4 o4,hf,hE]
 rw[ep,et];have a6:=(iT m E).1 (((cM m).1 N).2.2.2.2.1 E ah);have bq:E.tries.length<=8:=by have:=ma a6.2.2.1.2;omega
 have ap:=(aa.cU H4).2;have ax:cv h4 x m:=H4.at 1 m9;obtain⟨ys,F⟩:=ce.fix ax.objs;have br:=F.2.1;have d:=Fix.row F hn;obtain⟨xe,am⟩:=HF (ys[n]'nb)
 rw[<-hE,<-am]at d;refine⟨a,m9,x.2.2.2.2.2.2.2,ap.cell m9,F.1.cQ (g:=bf) n m9 nb xe (by rw[am]) ?_⟩;refine(Sp.refl h4).alloc ag m9 λq h6 Q6=>?_;refine Q6.storeAll ag 0 m9 m9 (bf xe) m9 m9 m9 m9 λh7 Q7=>?_;obtain⟨J,Z⟩:∃J,Sp h h7 [an a1 70 J,an q 83 (bf xe)]/\J.length=4:=⟨_,c.comp Q7,rfl⟩
 obtain⟨Z,z4⟩:=Z;have D:Rd h4 xe.2.2.2 1 av E.tries:=d.2;have A:=D.len;have eo:xe.2.1=E.object:=d.1.2.1;have el:xe.2.2.1=E.length:=d.1.2.2;have al:=Q7.ac;refine bn (λ(s:fY) h'=>∃t:Sl,Sp h h' [an a1 70 J,an q 83 (bf xe),an s 70 (lM (E.length,(E.tries.length:Int),0) t),ai 3 t 1 av E.tries]) ?_ ?_
 .have I:=Z.box 1 m9;refine⟨xe.2.2.1,I.cell m9,xe.2.2.2,I.cell m9,xe.2.2.2,I.cell m9,?_,?_⟩
  .refine(Z.nil 3 1 av).append ag 2 m9 ge ⟨_,_,m9,m9⟩ m9 nq (λ_=>rfl) (D.up al) dt n2 λt h8 R8=>?_;have K:=R8.box 1 m9;refine⟨⟨K.cell m9,K.cell m9,I0⟩,R8.alloc ag m9 λa7 h9 R9=>?_⟩;have ad:=R9.box 1 m9;refine⟨⟨ad.cell m9,ad.cell m9,I0⟩,R9.storeAll ag 3 m9 m9 (lM (E.length,(E.tries.length:Int),0) t) (by rw[el,A];rfl) m9 m9 m9 λay G=>⟨I0,t,G.bs [0,1,3,2]⟩⟩
  .refine(Sp.refl h7).alloc ag m9 λbl b1 W=>?_;have P:=Z.comp W;have o:=P.box 1 m9;refine⟨⟨o.cell m9,o.cell m9,o.cell m9,I0⟩,?_⟩;refine(P.nil 3 1 av).append ag 3 m9 ge ⟨_,_,m9,m9⟩ m9 nq (λ_=>rfl) ((D.up al).up W.ac) dt n2 λt bd O=>?_;have z:=O.box 1 m9;refine⟨⟨z.cell m9,z.cell m9,I0⟩,O.storeAll ag 2 m9 m9 (lM (E.length,(E.tries.length:Int),0) t) (by rw[el,A];rfl) m9 m9 m9 λay G=>⟨I0,t,G⟩⟩
 rintro ab a2 ⟨t,c⟩;refine⟨xe.2.2.2,(c.box 1 m9).cell m9,?_⟩;have c:Sp h a2 [an a1 70 J,an q 83 (bf xe),an ab 70 (lM (E.length,(E.tries.length:Int),(S 0:Int)) t),ai 3 t 1 av E.tries]:=by rw[T];exact c
 refine ak (λi:Nat=>(i:Int)) (λi h'=>i<=E.tries.length/\Sp h h' [an a1 70 J,an q 83 (bf xe),an ab 70 (lM (E.length,(E.tries.length:Int),(S i:Int)) t),ai 3 t 1 av E.tries]) (λi=>E.tries.length-i) 0 m9 ⟨qW _,c⟩ ?_;rintro i bk ⟨hi,k⟩
 try dsimp only
 refine ae (λe=>?_) λe=>?_
 .have a5:i<E.tries.length:=nb
  have V:=k.box 1 m9;refine⟨(S i:Int),(k.box 2 m9).cell m9,xe.2.1,V.cell m9,?_⟩;have Y:=H.up k.ac;rw[eo];refine(Cy x m E.object (i:Int) (Y.at 1 m9) hz U a3 Y).mono ?_;rintro _ b0 ⟨r,yr,rfl,f⟩;have a4:=(f.dv 0 m9).1.len;have Q:=(f.dv 0 m9).2.1;have f:=k.up f.ac;have h1:=ao i;have h2:=p i;refine⟨r,m9,⟨(f.box 2 m9).cell m9,I0⟩,?_⟩;refine f.storeAt ag 2 m9 m9 (off:=2) m9 m9 m9 n4 λa8 L=>⟨I0,?_⟩
  refine⟨i+1,n7,⟨a5,?_⟩,nb⟩;have ew:qd xP ((S i:Int)+(r.len:Int))=(S (i+1):Int):=by rw[X,af _,a4,Q];omega
  rw[ew]at L;exact L
 .have a0:i=E.tries.length:=nb
  subst a0;refine⟨(E.length,(E.tries.length:Int),(S E.tries.length:Int),t),(k.box 2 m9).aw _ m9,?_⟩;refine k.storeAll ag 0 m9 m9 (lM (E.length,(E.tries.length:Int),(S E.tries.length:Int)) t) m9 m9 m9 (by rw[z4];rfl) λbb R=>?_;exact⟨(E.length,(E.tries.length:Int),(S E.tries.length:Int),t),(R.box 0 m9).aw _ m9,t,m9,R.bs [3]⟩
end
theorem Zf{l:List cZ}{x:cZ}(h:l.Pairwise λa b=>cW a.name b.name=eL)(t:∀e∈l,e.name≠x.name){k:Nat}(w:k<=m8 l)(u:∀e∈l.take k,cW e.name x.name=eL)(z:∀w:k<m8 l,cW l[k].name x.name=eR):
  (l++[x]).mergeSort nh=l.take k++x::l.drop k:=by
 have d:((l++[x]).mergeSort nh).Perm (l++[x]):=wb _ _;have q:(l++[x]).Pairwise (λa b:cZ=>a.name≠b.name):=zy.2 ⟨h.imp λh=>Kl h,List.pairwise_singleton _ _,λa n b g=>by rw[qB.1 g];exact t a n⟩;have m:=(d.pairwise_iff (R:=λa b:cZ=>a.name≠b.name) λ{a b} h=>Ne.symm h).2 q;have r:((l++[x]).mergeSort nh).Pairwise (λa b=>nh a b=eL):=(ua VY (l++[x])).1;have A:=(r.and m).imp λh=>DL h.1 h.2;have o:(l.take k++x::l.drop k).Perm (l++[x]):=by refine List.perm_middle.trans ?_;rw[qA];exact(List.perm_append_singleton x l).symm
 have c:∀e∈l.drop k,cW x.name e.name=eL:=λe v=>by
  obtain⟨j,D,rfl⟩:=qD v;rw[qH]at D;have f:k<m8 l:=nb
  have s:jc x.name l[k].name=eL:=by unfold jc;rw[z f];rfl
  have i:=DL s λe=>t _ (qe f) e.symm;rw[zM];cases j with
  |zero=>exact i
  |succ j=>exact oW _ _ _ i (zb.1 h k (k+(j+1)) f nb nb)
 have p:(l.take k++x::l.drop k).Pairwise λa b=>cW a.name b.name=eL:=by
  refine zy.2 ⟨h.sublist (vP _ _),zr.2 ⟨c,h.sublist (List.drop_sublist _ _)⟩,λa n b g=>?_⟩;rcases qN.1 g with rfl|g
  .exact u a n
  .exact oW _ _ _ (u a n) (c b g)
 exact(d.trans o.symm).eq_of_pairwise (le:=λa b:cZ=>cW a.name b.name=eL) (λa b _ _ B y=>by have:=oW _ _ _ B y;rw[Fj]at this;cases this) A p
theorem Od(p:Pm)(s:Sl)(b:aT)(h:hY)(l:bH p=eL)(x:Rd h s 1 aq b)(L:s.len<=s.cap)(N:m8 b<=2^30):aj xT 115 #[gx p,s] h λv h'=>∃r:Sl,v=r/\Sp h h' [cj r (splitB p b)]:=by
 refine ts Tryz.func115 ?_ (F8 (F8 (F8 (F8 (F9 [(5,bJ),(7,aI)] [(5,6),(7,9),(17,38)]))))) (args:=[p,s]);have a:=x.len;obtain⟨R,S,F⟩:=ik l;obtain⟨O,X,c3⟩:=kq l b.length;refine(Sp.refl h).boxed λy I w=>?_;refine⟨p,(w.box 0 m9).aw _ m9,(dV p I).G7 λT M=>?_⟩;have g:=w.up M.ac;refine⟨_,m9,aH (λe=>by rw[l]at e;cases e) λ_=>?_⟩;refine⟨p.1,(g.box 0 m9).cell0 m9,p.2.2,(g.box 0 m9).cell m9,?_⟩;obtain⟨n,H⟩:∃n:Nat,n=(countP p b.length).toNat:=⟨_,rfl⟩
 have c:(countP p (s.len:Nat))=(n:Int):=by rw[a];omega
 have u:(splitB p b).length=n:=by unfold splitB;rw[<-H];simp
 have k:qd xP (p.1*p.2.2)=(cS p:Int):=by rw[<-F,af _]
 rw[k];have d:=g.kf 41 5 1 aq;refine ak (λt:Sl×Nat=>(t.1,(t.2:Int))) (λt h'=>t.2<=n/\Sp h h' [cj t.1 ((splitB p b).take t.2),an y 24 [xJ xP p.1,xJ xP p.2.1,xJ xP p.2.2]]) (λt=>n-t.2) (⟨eH,0,0⟩,0) m9 ⟨n4,d⟩ ?_;rintro⟨o,i⟩ h3 ⟨V,d⟩;dsimp only at*;refine⟨p,(d.box 1 m9).aw _ m9,(rE p (s.len:Nat) h3).G7 λW A=>?_⟩;have j:=d.up A.ac;refine⟨_,m9,?_⟩;rw[c];refine ae (λe=>?_) (λe=>?_)
 .have D:i<n:=nb
  have E:=c3 i (by rw[<-a,c];omega);refine j.Ep ag aq cR nq (0:UInt8) m9 m9 (cS p) (cS p) m9 m9 (qj _) nb λv P Q U f=>?_;have f:=f.ba;have em:qd xP ((i:Int)*(cS p:Int))=((i*cS p:Nat):Int):=by rw[<-zS,af _]
  rw[em,qi];refine⟨⟨nb,nb⟩,?_⟩;have B:=(Seq.up x f.ac).drop (i*cS p) L;refine f.CT ag 0 m9 cR (λ_=>rfl) (v:=⟨_,s.len-i*cS p,s.cap-i*cS p⟩) B cH λ_ J m=>?_;have m:Sp h J [ai 5 v 1 aq (sW (cS p) b i),cj o ((splitB p b).take i),an y 24 [xJ xP p.1,xJ xP p.2.1,xJ xP p.2.2]]:=by simpa[sW]using m
  refine(m.aF 2 [1,0]).nQ ag cO n2 λG h8 z=>?_;refine⟨(G,i+1),n3,⟨n1,?_⟩,n1⟩
  try dsimp only
  rw[aA _ _ (show i<(splitB p b).length by omega)];have K:(splitB p b)[i]'nb=sW (cS p) b i:=by simp[splitB]
  rw[K];exact z
 .have q:i=n:=nb
  rw[q,<-u,qt]at j;exact⟨o,m9,j.bs [0]⟩
theorem TY(p:Pm)(l:Sl)(ll:dT)(n:Int)(h:hY)(G:eF h l 1 aq ll)(hn:n<=2^20)(W:m8 ll<=2^10):
  aj xT 128 #[gx p,l,xJ xP n] h λv h'=>∃(r:Sl) (b:Bool),v=.tuple #[r,xN b]/\Sp h h' [EA (iR 1 aq) r (iM p ll n)]:=by
 refine ts Tryz.func128 ?_ (F8 (G0 [] [(6,8),(10,25)] (F8 (F9 [(8,bJ),(27,aI)] [(6,10),(27,48)])))) (args:=[p,l,(n:Int)]);have g:=G.len;refine(Sp.refl h).boxed λP Y L=>?_;have f:∀{h':hY},Sp h h' [an P 24 [xJ xP p.1,xJ xP p.2.1,xJ xP p.2.2]]->iM p ll n=[]->∃(r:Sl) (b:Bool),(.tuple #[xK eH 0 0,xN eR]:Value)=.tuple #[r,xN b]/\Sp h h' [EA (iR 1 aq) r (iM p ll n)]:=λT he=>by
  rw[he];exact⟨⟨eH,0,0⟩,eR,m9,(((T.nil 5 1 aq).bs [1]).Eo 0 m9 λ_=>rfl)⟩
 refine aE ⟨p,(L.box 0 m9).aw _ m9,(dV p Y).G7 λh2 R2=>?_⟩;have y:=L.up R2.ac;refine⟨_,m9,aH (λe=>f y (by unfold iM;rw[k4 (by rintro⟨h,_⟩;rw[e]at h;cases h)])) λU=>ae (λe=>f y (by unfold iM;rw[k4 (by rintro⟨_,h,_⟩;omega)])) λe2=>?_⟩;have F:bH p=eL:=by simpa using U
 refine⟨p,(y.box 0 m9).aw _ m9,(rE p n h2).G7 λh3 Q=>?_⟩;have M:=y.up Q.ac;refine⟨_,m9,bm (λe=>f M (by unfold iM;rw[k4 (by rintro⟨_,_,h,_⟩;rw[g]at e;exact e h)])) λO=>?_⟩;have D:(m8 ll:Int)=countP p n:=by rw[g]at O;exact O
 obtain⟨s1,s2,s3⟩:=ik F;have A:qd xP (p.1*p.2.2)=(cS p:Int):=by rw[<-s3,af _]
 refine ak (λt:Sl×Nat=>(t.1,(t.2:Int))) (λt h'=>t.2<=m8 ll/\(∀x∈ll.take t.2,m8 x=cS p)/\Sp h h' [an P 24 [xJ xP p.1,xJ xP p.2.1,xJ xP p.2.2],ai 5 t.1 1 aq (ll.take t.2).flatten]) (λt=>m8 ll-t.2) (⟨eH,0,0⟩,0) m9 ⟨n4,n4,M.nil 5 1 aq⟩ ?_;rintro⟨o,i⟩ h4 ⟨N,a,d⟩;dsimp only at N a d⊢;refine ae (λe=>?_) λe=>?_
 .have c:i<m8 ll:=by have e':(i:Int)<(l.len:Int):=e;omega
  refine(G.up d.ac).get i m9 c λr hr=>⟨p.1,(d.box 0 m9).cell0 m9,p.2.2,(d.box 0 m9).cell m9,?_⟩
  try dsimp only
  rw[A];have w:=hr.len;refine bm (λz=>?_) λz=>?_
  .refine f (d.bs [0]) ?_;unfold iM;rw[k4];rintro⟨_,_,_,h⟩;have:=m6 (qQ.1 h _ (qe c));exact z (by rw[w,this])
  .have I:ll[i].length=cS p:=by rw[w]at z;exact Int.ofNat_inj.1 z
   have s:=AU a;rw[List.length_take_of_le N]at s;have hb:i*cS p<=2^10*2^10:=zq nb nb;refine(G.up d.ac).get i m9 c λr' H=>?_;refine d.append ag 1 m9 cR ⟨_,_,m9,m9⟩ m9 nq (λ_=>rfl) H cH nb λX h6 Z=>?_;refine⟨(X,i+1),n3,⟨n1,?_,?_⟩,n1⟩
   .try dsimp only
    intro x j;rw[aA _ _ c]at j;rcases qw.1 j with j|j
    .exact a x j
    .rw[qB.1 j];exact I
   .try dsimp only
    rw[aA _ _ c,List.flatten_append];simpa using Z
 .rw[qh (by have e':¬(i:Int)<(l.len:Int):=e;omega)]at a d;have s:=AU a;have m:=d.own 1 m9;have B:=m.len;obtain⟨k,R⟩:∃k:Nat,n=k:=⟨n.toNat,nb⟩
  subst R;have u:=Fl F k;have E:(countP p (k:Int)).toNat=m8 ll:=nb
  rw[E,<-s,<-B]at u;have S:iM p ll (k:Int)=ll.flatten.take k:=by unfold iM;rw[hZ ⟨F,nb,D,qQ.2 λx j=>ln (a x j)⟩,qi]
  have J:=m.cap;refine⟨⟨nb,nb⟩,⟨o.ptr,k,o.cap⟩,eL,by rw[qi],?_⟩;rw[S];have V:=(d.bs [1]).Eo 0 m9 λ_=>rfl;refine V.dY 0 m9 λq hq=>?_;have K:=Seq.take hq k nb;exact⟨K.1,K.2⟩
def dw(P:List (Int×aT)):aC:=(qy 64).map λk:Nat=>((P.filter λy=>decide (y.1=(k:Int))).length:Int)
theorem iF(P:List (Int×aT)):(dw P).length=64:=by simp[dw]
theorem si(P:List (Int×aT)){k:Nat}(a:k<64:=by omega):(dw P).getD k 0=((P.filter λy=>decide (y.1=(k:Int))).length:Int):=by rw[qg,qc (by rw[iF];exact a)];simp[dw]
theorem WM(l:aC):lq l 0=dw []:=by
 have h:dw []=qf 64 0:=nq
 rw[h];unfold lq
 induction l with
 |nil=>rfl
 |cons k l ih=>
  rw[zO];have:(qf 64 (0:Int)).set k.toNat 0=qf 64 0:=zW (by rw[qP]) λi b a=>by rw[xl];split<;>simp only[List.getElem_replicate]
  rw[this];exact ih
theorem TZ(P:List (Int×aT)){y:Int×aT}{k:Nat}(b:y.1=k)(d:k<64):dw (P++[y])=(dw P).set k ((dw P).getD k 0+1):=by
 rw[si P d];refine zW (by rw[qP,iF,iF]) λi c f=>?_;rw[iF]at c;rw[xl];have e:∀(Q:List (Int×aT)) (h:i<(dw Q).length),(dw Q)[i]=((Q.filter λy=>decide (y.1=(i:Int))).length:Int):=λQ h=>by simp[dw]
 rw[e,zi,qo,zA,wY,b];by_cases a:k=i
 .subst a;rw[hZ m9,hZ n4];simp
 .rw[k4 a,k4 n2,e];simp
theorem Ea(m:aB)(o:Int){t a:aC}(bl:dT)(live:aC):∀n,(∀j,j<n->t.getD j 0=a.getD j 0)->dC m o t bl live n=dC m o a bl live n
 |0,_=>by simp[dC]
 |n+1,h=>by
  rw[ms,ms,Ea m o bl live n λj b=>h j nb];exact congrArg (dC m o a bl live n++·) (congrArg (λx=>(qy (m.p.1+m.extra).toNat).map λid:Nat=>mW m o n (fx o n x) (bl.getD n []) (js o n live) id) (h n (Nat.lt_succ_self n)))
theorem KW(m:aB)(o:Int){t:aC}(x:Int)(bl:dT)(live:aC){n:Nat}(a:m8 t=n):dC m o (t++[x]) bl live n=dC m o t bl live n:=
 Ea m o bl live n λj b=>by rw[qg,qg,qu nb]
theorem WN{p:Pm}{o:Int}{i:Nat}(h:cX p o i=eH):∀n,i<=n->cX p o n=eH:=by
 intro n b
 induction n with
 |zero=>
  have:i=0:=nb
  subst this;exact h
 |succ n ih=>
  by_cases a:i=n+1
  .subst a;exact h
  .unfold cX;rw[ih nb];rfl
theorem abq{p:Pm}{o b:Int}{k:Nat}(g:k<16)(d:∀j,j<k->wd p o b j=eR)(f:wd p o b k=eL):lX p o b=dB k:=by
 unfold lX;have e:(qy 16)=qy k++(k::(qy (16-k-1)).map λx=>k+1+x):=by
  have a:16=k+(1+(16-k-1)):=nb
  conv=>lhs;rw[a,List.range_add,List.range_add]
  simp[Function.comp_def,Nat.add_assoc]
 rw[e,vX,yj.2 λj c=>by rw[d j (qY.1 c)];decide,List.find?_cons_of_pos f];rfl
theorem WO{p:Pm}{o b:Int}(h:∀j,j<16->wd p o b j=eR):lX p o b=eH:=by unfold lX;exact yj.2 λj a=>by rw[h j (qY.1 a)];decide
def rn(l:aC)(g:aC)(n:Int):aC:=l.foldl (λg k=>g.set k.toNat (g.getD k.toNat 0+n)) g
theorem Gp(n:Int):∀(l g:aC),(rn l g n).length=m8 g
 |[],_=>rfl
 |k::l,g=>by unfold rn;rw[zO];exact(Gp n l _).trans (by rw[qP])
theorem WP(l g:aC)(k n:Int):rn (l++[k]) g n=(rn l g n).set k.toNat ((rn l g n).getD k.toNat 0+n):=by unfold rn;rw[wB];rfl
theorem Gq(n:Int):∀{l g:aC},m8 g=64->l.Nodup->(∀k∈l,0<=k/\k<64)->∀k:Int,0<=k->k<64->(rn l g n).getD k.toNat 0=g.getD k.toNat 0+if k∈l then n else 0
 |[],g,_,_,_,k,_,_=>by simp[rn]
 |x::l,g,hg,a,hin,k,h1,h2=>by
  have a:=List.nodup_cons.1 a;have d:=hin x qS;unfold rn;rw[zO];refine(Gq n (l:=l) (by rw[qP];exact hg) a.2 (λy c=>hin y (qp _ c)) k h1 h2).trans ?_;rw[qg,qV];by_cases b:k=x
  .subst b;rw[hZ m9,hZ nb,Option.getD_some,k4 a.1,hZ qS];omega
  .rw[k4 nb,<-qg];congr 1;simp[b]
theorem Ua{m:aB}(b:bF m=eL)(a:aG):(bh a m.drives).Nodup:=
 List.Pairwise.filter _ (((cM m).1 b).2.1.imp λh=>nb)
theorem Rf{h h':hY}{a:fY}{v:Value}(c:hU h a=dB v)(d:aQ (λb=>b<h.size) h h'):hU h' a=dB v:=d.cell (di c) c
theorem Im:∃i a,C.T.get 22=dB i/\i.co=.slice a:=⟨_,_,m9,m9⟩
theorem uI(n:Nat)(h:hY)(z:n<64):aj xT 194 #[xJ xP n] h λv h'=>v=xO #[xJ xP (bz n).x,xJ xP (bz n).y]/\Sp h h' []:=by
 refine ts Tryz.func194 ?_ (F8 (F8 (G0 [] [(10,17)] (F8 (F9 [(4,aI),(5,aI),(6,aI),(7,aI),(8,aI),(9,aI)] [(4,10),(17,47)])))));refine(Sp.refl h).alloc ag m9 λj A q=>?_;refine q.alloc ag m9 λl B o=>?_;refine aE (ae (λe=>nb) λ_=>ae (λe=>nb) λ_=>?_);refine ak (λk:Nat=>((bz k).dx,(bz k).dy,(bz k).leg,(bz k).left,(bz k).turns,(k:Int))) (λk h'=>k<=n/\Sp h h' [an j 227 [xJ xP 0,xJ xP 0],an l 227 [xJ xP (bz k).x,xJ xP (bz k).y]]) (λk=>n-k) 0 m9 ⟨nb,o⟩ ?_;rintro k E ⟨u,d⟩;have f:=acq k nb;simp only[uU.ok,qz,decide_eq_true_eq]at f
 try dsimp only
 refine ae (λe=>?_) (λe=>?_)
 .have a:bz (k+1)=(bz k).on:=rfl;obtain⟨s,r⟩:=HF (bz k)
  rw[<-r]at f a d⊢;refine⟨s.x,(d.box 1 m9).cell0 m9,s.y,(d.box 1 m9).cell m9,?_⟩
  try dsimp only
  rw[af (s.x+s.dx),af (s.y+s.dy),af (s.left-1),af (s.turns+1),af (0-s.dy),af (s.leg+1),af ((k:Int)+1),zT (show 0<=s.turns+1 by omega)];refine d.gO ag 1 m9 m9 [xJ xP (s.x+s.dx)] m9 m9 m9 n4 λD t=>?_;refine t.storeAt ag 1 m9 m9 (off:=1) m9 m9 m9 n4 λh8 p=>?_;have c:Sp h h8 [an j 227 [xJ xP 0,xJ xP 0],an l 227 [xJ xP (s.x+s.dx),xJ xP (s.y+s.dy)]]:=p;refine aZ (λb=>?_) (λb=>?_)
  .refine⟨nq,aZ (λi=>?_) λi=>?_⟩
   .refine⟨k+1,?_,⟨nb,?_⟩,nb⟩
    .rw[a,uU.on,hZ b,hZ i,Int.zero_sub];rfl
    .rw[a,uU.on,hZ b];exact c
   .refine⟨k+1,?_,⟨nb,?_⟩,nb⟩
    .rw[a,uU.on,hZ b,k4 i,Int.zero_sub];rfl
    .rw[a,uU.on,hZ b];exact c
  .refine⟨k+1,?_,⟨nb,?_⟩,nb⟩
   .rw[a,uU.on,k4 b];rfl
   .rw[a,uU.on,k4 b];exact c
 .have g:k=n:=nb
  subst g;refine⟨((bz k).x,(bz k).y),(d.box 1 m9).aw _ m9,?_⟩;refine d.storeAll ag 0 m9 m9 [xJ xP (bz k).x,xJ xP (bz k).y] m9 m9 m9 m9 λw m=>?_;exact⟨((bz k).x,(bz k).y),(m.box 0 m9).aw _ m9,m9,.zip m.ac⟩
theorem Fq(i j:Nat)(h:hY)(k:i<64)(g:j<64):aj xT 196 #[xO #[xJ xP (bz i).x,xJ xP (bz i).y],xO #[xJ xP (bz j).x,xJ xP (bz j).y]] h λv h'=>v=xJ xP (lZ i j)/\Sp h h' []:=by
 have a:=oG k;have b:=oG g;refine ts Tryz.func196 ?_ (args:=[((bz i).x,(bz i).y),((bz j).x,(bz j).y)]);refine(Sp.refl h).boxed λq m f=>?_;refine f.boxed λp n e=>?_;have c:=e.box 0 m9;have d:=e.box 1 m9;have o:=Ll (a:=(bz i).x-(bz j).x) nb nb;have l:=Ll (a:=(bz i).y-(bz j).y) nb nb;refine⟨_,c.cell0 m9,_,d.cell0 m9,_,c.cell0 m9,_,d.cell0 m9,_,c.cell (j:=1) m9,_,d.cell (j:=1) m9,_,c.cell (j:=1) m9,_,d.cell (j:=1) m9,?_⟩
 try dsimp only
 rw[af ((bz i).x-(bz j).x),af ((bz i).y-(bz j).y),af (((bz i).x-(bz j).x)*((bz i).x-(bz j).x)),af (((bz i).y-(bz j).y)*((bz i).y-(bz j).y)),af _];exact⟨m9,.zip e.ac⟩
theorem Ub(s:Sl)(o:aC)(id:Int)(h:hY)(g:Rd h s 1 av o):aj xT 120 #[s,xJ xP id] h λv h'=>v=xJ xP (nL o id)/\h'=h:=by
 have f:=g.len;refine ts Tryz.func120 ?_ (F8 (G0 [] [(4,12)] E6));refine aE (aZ (λe=>⟨by rw[nL,hZ (.inl (qR nb))],m9⟩) λe=>ae (λb=>⟨by rw[nL,hZ (.inr b)],m9⟩) λb=>?_);refine⟨e,?_⟩;have d:¬(o=[]∨id<0):=by
  rintro(rfl|h2)
  .simp at f;omega
  .exact b h2
 have c:Int.tmod id ((s.len:Nat):Int)=((id%(m8 o:Int)).toNat:Int):=by rw[zT nb,f];have:=Int.emod_nonneg id (show(m8 o:Int)≠0 by omega);omega
 have a:(id%(m8 o:Int)).toNat<m8 o:=by have:=Int.emod_lt_of_pos id (show(0:Int)<m8 o by omega);omega
 rw[c];refine g.aW _ m9 a _ m9 ⟨?_,m9⟩;rw[nL,k4 d,Lm,qg,qc a];rfl
theorem Io{c:Nat}{a b d:Int}(f:gJ c a b)(e:gJ c b d):gJ c a d:=by unfold gJ at*;omega
theorem KX{c:Nat}{o:aC}{x:Int}{n:Nat}(q:n<=m8 o)(f:o.Pairwise (gJ c))(i:∀(h:0<n),gJ c (o[n-1]'nb) x)(m:∀j (h:j<m8 o),n<=j->gJ c x o[j]):(o.take n++([x]++o.drop n)).Pairwise (gJ c):=by
 have l:∀a∈o.take n,gJ c a x:=λa e=>by
  obtain⟨j,g,rfl⟩:=qD e;rw[qx]at g;rw[List.getElem_take];by_cases p:j=n-1
  .subst p;exact i nb
  .exact Io (zb.1 f j (n-1) nb nb nb) (i nb)
 have k:∀b∈o.drop n,gJ c x b:=λb d=>by
  obtain⟨j,g,rfl⟩:=qD d;rw[qH]at g;rw[zM];exact m _ _ nb
 rw[zy];refine⟨f.sublist (vP _ _),?_,λa e b d=>?_⟩
 .rw[vZ,zr];exact⟨k,f.sublist (List.drop_sublist _ _)⟩
 .rw[vZ,qN]at d;rcases d with rfl|d
  .exact l a e
  .exact Io (l a e) (k b d)
theorem Zg(o:aC)(x:Int)(n:Nat):(o.take n++([x]++o.drop n)).Perm (o++[x]):=by have a:(o.take n++([x]++o.drop n)).Perm (o.take n++(o.drop n++[x])):=List.Perm.append_left _ (List.perm_append_comm);rw[<-ql (o.take n) (o.drop n),qA]at a;exact a
theorem KY(d block:Int)(live:Sl)(l:aC)(h:hY)(hl:Rd h live 1 av l)(b9:m8 l<=2^30):
  aj xT 119 #[xJ xP d,xJ xP block,live] h λv h'=>∃r:Sl,v=r/\Sp h h' [ai 3 r 1 av (js d block l)]:=by
 have b2:=hl.len;refine ts Tryz.func119 ?_ (F8 (G0 [] [(6,7),(14,28)] (F8 (F8 (E5 (F8 (E7 (E8 [(8,bJ),(36,aI)] [(8,9),(10,14),(36,98)] (F8 (F8 (E5 (E7 (F8 (G0 [] [(40,51)] (F8 (E5 (E9 [(11,aI)] [(11,14),(53,86)] (E7 (E8 [(11,aI)] [(11,14),(53,86)] (F8 (E7 (G0 [(12,aI),(13,aI)] [(12,14),(55,67)] E6)))))) E6))))) E6)))))) E6))))) [(11,(.l [0,2,4,5,6,7,8,10,1,3,9,11,12,13])),(14,(.y [0,1,2,4,6,7,8] (.l [3,5,9,10,11]) (.y [5] (.l [3,9,10,11]) (.l [9,3,10,11]))))];have no:¬(0<=d/\d<=16777215/\0<=block/\block<8)->∃r:Sl,Value.slice eH 0 0=xK r.ptr r.len r.cap/\Sp h h [ai 3 r 1 av (js d block l)]:=λM=>by
  rw[js,k4 M];exact⟨⟨eH,0,0⟩,m9,(Sp.refl h).nil 3 1 av⟩
 refine aE (ae (λe=>no nb) λe1=>ae (λe=>no nb) λe2=>ae (λe=>no nb) λe3=>ae (λe=>no nb) λe4=>?_);have bb:0<=d/\d<=16777215/\0<=block/\block<8:=nb
 rw[js,hZ bb];rw[af (8*d),af (8*d+block),zT nb];obtain⟨c,hc⟩:∃c:Nat,(8*d+block)%64=c:=⟨((8*d+block)%64).toNat,nb⟩
 have B:c<64:=nb
 rw[hc,qi];refine⟨nq,(uI c h B).mono ?_⟩;rintro v h2 ⟨rfl,R2⟩;refine⟨((bz c).x,(bz c).y),m9,?_⟩;refine R2.alloc ag m9 λa h3 H3=>?_;refine H3.storeAll ag 0 m9 m9 [xJ xP (bz c).x,xJ xP (bz c).y] m9 m9 m9 m9 λh4 H4=>?_;refine ak (λt:Sl×Nat×aC=>(t.1,(t.2.1:Int))) (λt h'=>t.2.1<=m8 l/\t.2.2.Perm (eT (l.take t.2.1))/\t.2.2.Pairwise (gJ c)/\Sp h h' [an a 227 [xJ xP (bz c).x,xJ xP (bz c).y],ai 3 t.1 1 av t.2.2]) (λt=>m8 l-t.2.1) (⟨eH,0,0⟩,0,[]) m9 ⟨n4,by simp[eT],List.Pairwise.nil,H4.nil 3 1 av⟩ ?_;rintro⟨s,k,o⟩ h5 ⟨hk,g,T,L⟩;dsimp only at*;have b4:m8 o<=k:=by rw[g.length_eq];exact Nh l k
 have a9:=(L.own 1 m9).len;have ay:=(L.own 1 m9).cap;refine ae (λe=>?_) (λe=>?_)
 .have am:k<m8 l:=nb
  have hs:=rX l am;refine(Seq.up hl L.ac).aW k m9 am _ m9 ?_;obtain⟨x,hx⟩:=HF (l[k])
  rw[<-hx]at hs⊢;rw[af ((k:Int)+1)];have skip:∀{h':hY},¬(0<=x/\x<64/\(eT (l.take k)).contains x=eR)->Sp h h' [an a 227 [xJ xP (bz c).x,xJ xP (bz c).y],ai 3 s 1 av o]->
    ∃f:Sl×Nat×aC,((⟨s.ptr,s.len,s.cap⟩:Sl),(k:Int)+1)=(f.1,(f.2.1:Int))/\(f.2.1<=m8 l/\f.2.2.Perm (eT (l.take f.2.1))/\f.2.2.Pairwise (gJ c)/\Sp h h' [an a 227 [xJ xP (bz c).x,xJ xP (bz c).y],ai 3 f.1 1 av f.2.2])/\l.length-f.2.1<m8 l-k:=λap H=>
   ⟨(s,k+1,o),m9,⟨n1,by dsimp only;rw[hs,po,k4 ap];exact g,T,H⟩,n1⟩
  refine aE (ae (λx0=>skip nb L) λx0=>ae (λx1=>skip nb L) λx1=>?_);refine(Pr s o x h5 (L.seq 1 m9 λ_=>rfl) nb).mono ?_;rintro v h6 ⟨rfl,rfl⟩;have Q:(eT (l.take k)).contains x=decide (x∈o):=by rw[List.contains_eq_mem];exact decide_eq_decide.2 g.mem_iff.symm
  refine⟨_,m9,aS (λe5=>skip (λE=>by rw[Q,e5]at E;cases E.2.2) L) λe5=>?_⟩;have a5:x∉o:=of_decide_eq_false e5;have V:eT (l.take (k+1))=eT (l.take k)++[x]:=by rw[hs,po,hZ ⟨nb,nb,by rw[Q];exact e5⟩]
  obtain⟨m,W⟩:∃m:Nat,x=m:=⟨x.toNat,nb⟩
  have O:m<64:=nb
  have J:∀j (P:j<m8 o),0<=o[j]/\o[j]<64:=λj P=>((Gg l k hk _).1 (g.mem_iff.1 (qe P))).2;refine bn (λ(t:Int) h'=>∃n:Nat,t=n/\n<=m8 o/\(∀(E:0<n) (M:n-1<m8 o),gJ c o[n-1] x)/\(∀j (P:j<m8 o),n<=j->gJ c x o[j])/\Sp h h' [an a 227 [xJ xP (bz c).x,xJ xP (bz c).y],ai 3 s 1 av o]) ?_ ?_
  .refine ak (λn:Nat=>(n:Int)) (λn h'=>n<=m8 o/\(∀j (P:j<m8 o),n<=j->gJ c x o[j])/\Sp h h' [an a 227 [xJ xP (bz c).x,xJ xP (bz c).y],ai 3 s 1 av o]) (λn=>n) o.length (by rw[a9]) ⟨qj _,λj P E=>nb,L⟩ ?_;rintro n h8 ⟨M,D,H8⟩;refine ae (λe6=>?_) λe6=>⟨n,m9,M,λE=>nb,D,H8⟩;obtain⟨i,rfl⟩:∃i,n=i+1:=⟨n-1,nb⟩
   have G:i<m8 o:=nb
   have a2:qd xP (((i+1:Nat):Int)-1)=(i:Int):=o0
   rw[a2];have b3:=J i G;obtain⟨b,hb⟩:∃b:Nat,o[i]=(b:Int):=⟨(o[i]).toNat,nb⟩
   have R:b<64:=nb
   have I:∀{p q:Int} {p' q':Nat},p=(p':Int)->q=(q':Int)->(gJ c p q↔lZ p' c<lZ q' c∨(lZ p' c=lZ q' c/\p<q)):=λhp hq=>by subst hp;subst hq;simp only[gJ,qi]
   have b0:x≠o[i]:=λE=>a5 (by rw[E];exact qe G);refine bn (λ(t:Int×Int) h'=>t=(lZ m c,lZ b c)/\Sp h h' [an a 227 [xJ xP (bz c).x,xJ xP (bz c).y],ai 3 s 1 av o]) ?_ ?_
   .have c8:=H8.box 0 m9;refine⟨((bz c).x,(bz c).y),c8.aw _ m9,?_⟩;refine(H8.seq 1 m9 λ_=>rfl).nO i m9 G (b:Int) (by rw[hb];rfl) λb5 al=>?_;refine⟨((bz c).x,(bz c).y),c8.aw _ m9,?_⟩;rw[W];refine(uI m h8 O).mono ?_;rintro v h9 ⟨rfl,R9⟩;have H9:=H8.up R9.ac;have c9:=H9.box 0 m9;have q9:=Rf al R9.ac;refine⟨((bz m).x,(bz m).y),m9,⟨c9.cell0 m9,c9.cell m9,q9,c9.cell0 m9,c9.cell m9,I0⟩,(Fq m c h9 O B).mono ?_⟩;rintro v a3 ⟨rfl,ad⟩;have ao:=H9.up ad.ac;have ah:=ao.box 0 m9;have a0:=Rf q9 ad.ac;refine⟨_,m9,⟨ah.cell0 m9,ah.cell m9,a0,I0⟩,(uI b a3 R).mono ?_⟩;rintro v bl ⟨rfl,a1⟩;have Z:=ao.up a1.ac;have ab:=Z.box 0 m9;refine⟨((bz b).x,(bz b).y),m9,⟨ab.cell0 m9,ab.cell m9,I0⟩,(Fq b c bl R B).G7 λb6 ax=>?_⟩;exact⟨_,m9,I0,m9,Z.up ax.ac⟩
   .rintro t a7 ⟨rfl,N⟩
    try dsimp only
    have next:gJ c x o[i]->∃f:Nat,(i:Int)=(f:Int)/\(f<=m8 o/\(∀j (P:j<m8 o),f<=j->gJ c x o[j])/\Sp h a7 [an a 227 [xJ xP (bz c).x,xJ xP (bz c).y],ai 3 s 1 av o])/\f<i+1:=λa8=>
     ⟨i,m9,⟨nb,λj P b1=>by
      by_cases E:j=i
      .subst E;exact a8
      .exact D j P nb,N⟩,nb⟩
    refine ae (λe7=>?_) (λe7=>aZ (λe8=>?_) λe8=>next ((I W hb).2 (.inl nb)))
    .exact⟨i+1,m9,M,λ_ _=>(I hb W).2 (.inl nb),D,N⟩
    .refine(N.seq 1 m9 λ_=>rfl).aW i m9 G _ m9 ?_;refine ae (λe9=>?_) λe9=>next ((I W hb).2 (.inr ⟨e8,nb⟩));exact⟨i+1,m9,M,λ_ _=>(I hb W).2 (.inr ⟨e8.symm,e9⟩),D,N⟩
  .rintro t b7 ⟨n,rfl,M,br,D,K⟩;have a4:=(K.own 1 m9).len;have u:=(K.own 1 m9).cap;have U:=KX M T (λE=>br E nb) D;have X:(o.take n++([x]++o.drop n)).Perm (eT (l.take (k+1))):=by rw[V];exact(Zg o x n).trans (g.append_right _)
   refine⟨⟨ze _,wC.2 nb⟩,?_⟩;rw[qi];have tk:∀{h':hY} {As:List HP},Sp h h' (an a 227 [xJ xP (bz c).x,xJ xP (bz c).y]::ai 3 s 1 av o::As)->Rd h' ⟨s.ptr,n,n⟩ 1 av (o.take n):=λH=>
    have q:=(H.seq 1 m9 λ_=>rfl).take n M
    ⟨q.len,q.elem⟩
   have done:∀{h':hY} (z:Sl) {As:List HP},Sp h h' (an a 227 [xJ xP (bz c).x,xJ xP (bz c).y]::ai 3 s 1 av o::ai 3 z 1 av ([x]++o.drop n)::As)->
     bC xT (q6 #[22,22] 22 #[xK s.ptr n n,z]) (.one (.sc .slc)) h' λv25 S=>(bK.ok [] S)/\
      ∃f:Sl×Nat×aC,((⟨v25.ptr,v25.len,v25.cap⟩:Sl),(k:Int)+1)=(f.1,(f.2.1:Int))/\(f.2.1<=m8 l/\f.2.2.Perm (eT (l.take f.2.1))/\f.2.2.Pairwise (gJ c)/\Sp h S [an a 227 [xJ xP (bz c).x,xJ xP (bz c).y],ai 3 f.1 1 av f.2.2])/\l.length-f.2.1<m8 l-k:=λ{h'} z As H=>by
    have a6:=(H.own 2 m9).len;rw[qo,wT]at a6;have HH:Sp h h' [an a 227 [xJ xP (bz c).x,xJ xP (bz c).y]]:=H.take 0 (λi A G=>by cases i with|zero=>exact G|succ i=>simp at G);refine HH.ED (s:=⟨s.ptr,n,n⟩) ag pk Im m9 nq (λ_=>rfl) (tk H) (qj _) n1 (H.seq 2 m9 λ_=>rfl) n2 λy S bd=>⟨I0,?_⟩
    exact⟨(y,k+1,o.take n++([x]++o.drop n)),m9,⟨n1,X,U,bd⟩,n1⟩
   refine⟨?_,?_⟩
   .refine ig ag pk n m9 m9 nb ⟨I0,?_⟩;refine K.lit ag av pk m9 [x] m9 (show 1*1<=2^20 by decide) m9 λz bk w=>⟨I0,?_⟩
    refine w.append ag 2 m9 pk Im m9 nq (λ_=>rfl) ((w.seq 1 m9 λ_=>rfl).drop n u) dt n2 λz' Y F=>⟨I0,?_⟩
    exact done z' F
   .refine K.lit ag av pk m9 [x] m9 (show 1*1<=2^20 by decide) m9 λz bk w=>⟨I0,?_,?_⟩
    .refine ig ag pk n m9 m9 nb ⟨I0,?_⟩;refine w.append ag 2 m9 pk Im m9 nq (λ_=>rfl) ((w.seq 1 m9 λ_=>rfl).drop n u) dt n2 λz' Y F=>⟨I0,?_⟩
     exact done z' F
    .refine w.append ag 2 m9 pk Im m9 nq (λ_=>rfl) ((w.seq 1 m9 λ_=>rfl).drop n u) dt n2 λz' Y F=>⟨I0,?_⟩
     refine ig ag pk n m9 m9 nb ⟨I0,?_⟩;exact done z' F
 .have bq:k=m8 l:=nb
  subst bq;rw[qt]at g;refine⟨s,m9,?_⟩;rw[Nl B g T];exact L.take 1 (λi A G=>by cases i with|zero=>exact G|succ i=>simp at G)
theorem Cz(p:Pm)(seed:Int)(h:hY):aj xT 116 #[gx p,xJ xR seed] h λv h'=>v=xN (fI p seed (fo p))/\Sp h h' []:=by
 refine ts Tryz.func116 ?_ (F8 (F8 (E5 (E9 [(5,bJ)] [(5,21)] (F8 (E7 (E8 [(5,bJ),(6,aI)] [(5,21)] (G0 [] [(7,15)] E6))))) E6))) (args:=[p,(xJ xR (seed:Int))]);refine(Sp.refl h).boxed λa g z=>?_;refine bn (λ(s:Sl) h'=>∃l:aC,fI p seed l=fI p seed (fo p)/\l.length<=16/\Sp h h' [an a 24 [xJ xP p.1,xJ xP p.2.1,xJ xP p.2.2],ai 3 s 1 av l]) ?_ ?_
 .refine ak (λt:Sl×Nat=>(t.1,(t.2:Int))) (λt h'=>(t.2:Int)<=max 0 p.1/\(bH p=eR->t.2=0)/\Sp h h' [an a 24 [xJ xP p.1,xJ xP p.2.1,xJ xP p.2.2],ai 3 t.1 1 av (upto t.2)]) (λt=>p.1.toNat-t.2) (⟨eH,0,0⟩,0) m9 ⟨n2,λ_=>rfl,z.nil 3 1 av⟩ ?_;rintro⟨s,k⟩ i ⟨B,o,c⟩;dsimp only at*;have d:bH p=eL->k<=16:=λb=>by have:=(bI p).1 b;omega
  have f:k<=16:=by
   cases b:bH p with
   |true=>exact d b
   |false=>have:=o b;omega
  have fin:∀h',(bH p=eR∨¬(k:Int)<p.1)->Sp h h' [an a 24 [xJ xP p.1,xJ xP p.2.1,xJ xP p.2.2],ai 3 s 1 av (upto k)]->∃l:aC,fI p seed l=fI p seed (fo p)/\l.length<=16/\Sp h h' [an a 24 [xJ xP p.1,xJ xP p.2.1,xJ xP p.2.2],ai 3 s 1 av l]:=λh' y H=>by
   refine⟨upto k,?_,by rw[fE];exact f,H⟩;cases b:bH p with
   |false=>rw[fI,fI,b];rfl
   |true=>
    have:=(bI p).1 b;have A:¬(k:Int)<p.1:=by
     rcases y with g|g
     .rw[b]at g;cases g
     .exact g
    rw[fo,show(max 0 (min p.1 16)).toNat=k by omega]
  refine aE ⟨p.1,(c.box 0 m9).cell0 m9,?_⟩;refine ae (λe=>?_) λe=>fin i (.inr e) c;refine⟨p,(c.box 0 m9).aw _ m9,(dV p i).mono ?_⟩;rintro v h3 ⟨rfl,j⟩;have r:Sp h h3 [an a 24 [xJ xP p.1,xJ xP p.2.1,xJ xP p.2.2],ai 3 s 1 av (upto k)]:=c.up j.ac;refine⟨_,m9,aS (λb=>?_) λb=>fin h3 (.inl b) r⟩;have:=(bI p).1 b;refine r.push ag 1 m9 ge m9 nq (λ_=>rfl) dt (k:Int) m9 nq Bk λx D w=>?_;refine⟨(x,k+1),n3,⟨n1,⟨λq=>(by rw[b]at q;cases q),?_⟩⟩,n1⟩;dsimp only;rw[Ks];exact w
 .rintro s i ⟨l,m,u,c⟩;refine⟨p,(c.box 0 m9).aw _ m9,(NT p seed s l i (c.seq 1 m9 λ_=>rfl) nb).G7 λh3 j=>?_⟩;exact⟨_,m9,by rw[m],.zip (c.comp j).ac⟩
end Go.Qw
