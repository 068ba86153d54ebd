/- Lemmas for the proof of the law; no condition. -/
import Derived.Test.YtcjnjifdphcijaaGreatDoorTKE
set_option maxHeartbeats 2000000
set_option linter.unusedVariables false
set_option maxHeartbeats 2000000
set_option linter.unusedSimpArgs false
open Go.Proofs.Tryz renaming prog -> xJ
open List renaming pairwise_lt_range -> yG, range -> qt
open Prod renaming fst -> qL
open Int renaming tdiv -> yn
open Go.Value renaming bool -> xD, int -> xz, pointer -> xB, slice -> xA
open Go.IntKind renaming i64 -> xF, u32 -> xH, wrap -> qe
set_option maxRecDepth 100000
open Option renaming some -> dB
open Bool renaming true -> eR, false -> eS
open List renaming length -> i0
namespace Go.Qw
open Go.Proofs
structure Wt (z:Prop) (i:Nat) (p:Pm) (m:aw) (ds:aC):Prop where
 may:bp m=eR
 len:i0 ds=64
 pe:m.p=p
 dr:∀k∈m.drives,k<9
 hi:∃M,Hi M m ds
 slim:z->∀k d,aS ds k=dB d->d.lost=eS->aew d.l+1<=i0 d.l/\aew d.l+2<=d.room
 seq:m.seq<=i+1
 ent:∀e∈m.objs,e.name∈DW/\e.length<=3*(p.1*p.2.2)+1
variable {z:Prop} {i:Nat} {p:Pm} {m:aw} {ds:aC}
theorem aco(g:bp m=eR){slot:Int}(o:0<=slot/\slot<64)(b:slot∉m.drives)(n:¬m.seq>=2147483647):bp (EC m (iA (m.drives++[slot])))=eR:=by
 obtain⟨f,i,l,a,e,c,d⟩:=(cv m).1 g;refine(cv _).2 ⟨?_,TU i b,λk j=>?_,a,e,c,d⟩
 ·rw[dZ]at f⊢;exact⟨by show 1<=m.seq+1/\m.seq+1<=2147483647;omega,f.2⟩
 ·rcases qw.1 ((uv _ _).1 j)with h|h
  ·exact l k h
  ·rw[qx.1 h];omega
theorem acp{slot:Int}(c:0<=slot/\slot<64)(b:i0 ds=64)(o:Option aW)(k:Int):aS (ds.set slot.toNat o) k=if k=slot then o else aS ds k:=by
 unfold aS;by_cases a:0<=k/\k<64
 ·rw[g0 a,List.getElem?_set];by_cases e:k=slot
  ·subst e;rw[g0 i4,g0 i4,g0 i5];rfl
  ·rw[g9 i5,g9 e,g0 a]
 ·rw[g9 a,g9 i5,g9 a]
variable {ds':aC}
section
variable {C:Int->aM}
structure aga (m:aw) (ds ds':aC) (gone:au):Prop where
 len:i0 ds'=64
 at_:∀k,k∉gone->aS ds' k=aS ds k
 live:∀k,k∈aN ds' m.drives↔k∈aN ds m.drives/\k∉gone
 sub:∀k∈gone,k∈aN ds m.drives
 nd:gone.Nodup
theorem BE{o b:Int}{live:au}{i:Nat}(a:i<i0 live):(dS m ds o b live).getD i []=(gD m ds o b live[i]).map qL:=by rw[fh [] (by unfold dS;rw[qy];exact a)];unfold dS;rw[List.getElem_map];unfold dR;rw[List.flatMap_cons,List.flatMap_nil,qH]
end
theorem Ea(W:bP)(a:au)(x:Int):∀k,x∈oS W a k↔∃i,i<k/\(i:Int)∉a/\x∈W.getD i []
 |0=>by simp[oS]
 |k+1=>by
  rw[oS,qw,Ea W a x k];constructor
  ·rintro(⟨i,e,b,h3⟩|h)
   ·exact⟨i,i5,b,h3⟩
   ·by_cases d:(k:Int)∈a
    ·rw[g0 d]at h;cases h
    ·rw[g9 d]at h;exact⟨k,i5,d,h⟩
  ·rintro⟨i,e,b,h3⟩;by_cases c:i=k
   ·subst c;exact .inr (by rw[g9 b];exact h3)
   ·exact .inl ⟨i,i5,b,h3⟩
theorem Xl(p:Pm)(seed:Int){a b:au}(h:∀x∈a,x∈b):mM p seed a<=mM p seed b:=by
 unfold mM;refine CE (jr p seed a) (jr p seed b) λr c=>?_;unfold dE at c⊢;split at c
 ·rename_i e;rw[g0 e];rcases qw.1 c with c|c
  ·exact zm _ c
  ·obtain⟨i,d,rfl⟩:=qo.1 c;rw[qC]at d;exact zP _ (qo.2 ⟨i,qC.2 ⟨h i d.1,d.2⟩,i4⟩)
 ·cases c
theorem Xm{p:Pm}{seed:Int}{W V:bP}{g g':au}(f:i0 W<=i0 V)(c:∀x∈g',x∈g)(b:∀i x,x∈W.getD i []->x∈V.getD i []):mF p seed W g<=mF p seed V g':=by unfold mF;refine Xl p seed λx a=>?_;rw[Ea]at a⊢;obtain⟨i,h,d,h3⟩:=a;exact⟨i,i5,λe=>d (c _ e),b i x h3⟩
theorem KB{p:Pm}{seed:Int}{W V:bP}{t:Nat}(e:i0 V=i0 W)(d:∀i x,x∈W.getD i []->x∈V.getD i [])(h:nu p seed W t=none):nu p seed V t=none:=by
 unfold nu at h⊢;rw[e];rw[z7]at h⊢;intro g c b;have f:(mF p seed W g:Int)=bu p:=by simpa using h g c
 have j:=Xm (p:=p) (seed:=seed) (W:=W) (V:=V) (g:=g) (g':=g) i5 (λ_ h=>h) d;have h3:=Yd p seed (oS V g V.length);have a:(mF p seed V g:Int)≠bu p:=ii b;apply a;unfold mF at*;omega
variable {n:aw} {d e f:aW}
section
variable {C:Int->aM}
structure Os (i:Nat) (p:Pm) (m:aw) (C:Int->aM) (ds:aC):Prop where
 wt:Wt False i p m ds
 sto:dX m C ds
 full:Full m C ds
 ne:m.drives≠[]
structure ClD (m:aw) (d e:aW):Prop where
 lost:e.lost=d.lost
 room:e.room=d.room
 l:e.l=d.l∨e.l=bW m d.l
end
section
variable {C:Int->aM}
theorem ZM(e:bp m=eR){l l':bY}(d:∀c∈l',dv m C c)(h:∀c∈l,c∈l'){r:cP}(f:r∈fp m l):r∈fp m l':=by obtain⟨a,b,c⟩:=lp f;exact pJ e d (h _ a) b c
theorem KC(i:bp m=eR){l:bY}(j:∀c∈l,dv m C c){r:cP}:r∈fp m (bW m l)↔r∈fp m l:=by
 constructor
 ·intro g;obtain⟨a,b,c⟩:=lp g;rcases qw.1 a with h|h
  ·rw[ni h]at b;cases b
  ·obtain⟨k,d,e⟩:=qo.1 h;obtain⟨_,f,_⟩:=lp d;rw[e,b]at f;injection f with f
   rw[f];exact d
 ·intro g;obtain⟨a,b,c⟩:=lp g;exact pJ i (Jf i j) (zP _ (qo.2 ⟨r,g,i4⟩)) b c
theorem Ud(r:cP):mL r r=eR:=by rw[lm];exact⟨i4,i4,i4⟩
theorem Ig(l:bY):(fp m l).Nodup:=(PJ m l).imp λh e=>by subst e;rw[Ud]at h;cases h
theorem acq{l l':bY}(h:∀r∈fp m l,r∈fp m l'):i0 (fp m l)<=i0 (fp m l'):=by
 letI:DecidableEq cP:=λa b=>Classical.propDecidable _
 exact uk (Ig l) h
theorem mH(b:bp m=eR){l:bY}:iY m l=eR↔∀c∈aX m,c∈l:=by unfold iY;rw[b,zS,qK];exact⟨λh c a=>ii (h c a),λh c a=>hU (h c a)⟩
theorem Gh(l:bY):i0 (bW m l)=i0 (aX m)+i0 (fp m l):=by unfold bW oO;rw[qp,qy]
structure DK (m:aw) (d d':aW):Prop where
 lost:d'.lost=d.lost
 room:d'.room=d.room
 recs:∀r∈fp m d.l,r∈fp m d'.l
 whole:iY m d.l=eR->iY m d'.l=eR
theorem DK.refl(d:aW):DK m d d:=⟨i4,i4,λ_ h=>h,λh=>h⟩
theorem DK.trans{a b c:aW}(e:DK m a b)(d:DK m b c):DK m a c:=⟨d.lost.trans e.lost,d.room.trans e.room,λr h=>d.recs r (e.recs r h),λh=>d.whole (e.whole h)⟩
structure iW (m:aw) (ds ds':aC):Prop where
 len:i0 ds'=i0 ds
 at_:∀k d,aS ds k=dB d->∃d',aS ds' k=dB d'/\DK m d d'
 no:∀k,aS ds k=none->aS ds' k=none
theorem iW.refl(ds:aC):iW m ds ds:=⟨i4,λ_ d h=>⟨d,h,.refl d⟩,λ_ h=>h⟩
theorem iW.trans{a b c:aC}(f:iW m a b)(e:iW m b c):iW m a c:=⟨e.len.trans f.len,λk d o=>by
 obtain⟨i,l,n⟩:=f.at_ k d o;obtain⟨p,j,g⟩:=e.at_ k i l;exact⟨p,j,n.trans g⟩,λk h=>e.no k (f.no k h)⟩
theorem iW.set{k:Int}{d e:aW}(c:i0 ds=64)(f:aS ds k=dB d)(h:DK m d e):iW m ds (bV ds k e):=⟨uf _ _ _,λs x a=>by
 rw[iU c f];split
 ·rename_i b;subst b;rw[f]at a;injection a with a;subst a
  exact⟨_,i4,h⟩
 ·exact⟨x,a,.refl x⟩,λs b=>by
 rw[iU c f];split
 ·rename_i h;subst h;rw[f]at b;cases b
 ·exact b⟩
theorem iW.live{a:aC}(K:iW m ds a)(l:au):aN a l=aN ds l:=by
 unfold aN;refine List.filter_congr λx _=>?_;unfold isLive;cases hd:aS ds x with
 |none=>rw[K.no x hd]
 |some d=>
  obtain⟨b,e,k⟩:=K.at_ x d hd;rw[e];simp only[k.lost]
theorem iW.syms{a:aC}(K:iW m ds a){o b k:Int}{id:Int}(h:id∈(gD m ds o b k).map qL):id∈(gD m a o b k).map qL:=by obtain⟨x,c,rfl⟩:=qo.1 h;obtain⟨d,r,g,f,i,l,rfl⟩:=Bz c;obtain⟨n,e,j⟩:=K.at_ k d g;refine qo.2 ⟨(r.id,r.data),?_,i4⟩;unfold gD;rw[e];exact qo.2 ⟨r,qC.2 ⟨j.recs r f,by rw[i,l];simp⟩,i4⟩
theorem QZ(a:bp m=eR){d:aW}(b:∀c∈d.l,dv m C c):DK m d {d with l:=bW m d.l,wait:=0,laid:=[],has:=eS}:=
 ⟨i4,i4,λr h=>(KC a b).2 h,λ_=>(mH a).2 λc h=>zm _ h⟩
structure Tidy (m:aw) (d:aW):Prop where
 whole:iY m d.l=eR
 keep:i0 (bW m d.l)<=i0 d.l
 room:i0 d.l<=d.room
theorem KD(a:bp m=eR){d:aW}(b:∀c∈d.l,dv m C c)(e:i0 (bW m d.l)<=d.room):Tidy m {d with l:=bW m d.l,wait:=0,laid:=[],has:=eS}:=
 ⟨(mH a).2 λc h=>zm _ h,by
  show(bW m (bW m d.l)).length<=i0 (bW m d.l);rw[Gh,Gh];exact Nat.add_le_add_left (acq λr h=>(KC a b).1 h) _,e⟩
theorem nl{k:Int}{w:Pow}:∀{live:au} {w:Pow} {ds:aC},i0 ds=64->k∉live->aS (dw m live w ds).2.2 k=aS ds k
 |[],_,_,_,_=>rfl
 |j::live,w,ds,h64,hk=>by
  have b:k≠j:=λe=>hk (by rw[e];exact qF);have a:k∉live:=λh=>hk (qz _ h);unfold dw;cases hd:aS ds j with
  |none=>exact nl (w:=w) h64 a
  |some d=>
   try dsimp only
   split
   ·exact nl (w:=w) h64 a
   ·have e:aS (bV ds j (d.rewrite w (bW m d.l)).2.2) k=aS ds k:=by rw[iU h64 hd,g9 b]
    split
    ·rw[nl (w:=w) (by rw[uf];exact h64) a,e]
    ·exact e
theorem BF:∀{live:au} {ds:aC},live.Nodup->dX m C ds->(∀k∈live,∃d,aS ds k=dB d/\d.lost=eS)->(∀k d,aS ds k=dB d->i0 d.l<=d.room/\d.wait=0)->
  (dw m live Pow.new ds).2.1=Pow.new/\((dw m live Pow.new ds).1=0∨(dw m live Pow.new ds).1=7)/\dX m C (dw m live Pow.new ds).2.2/\iW m ds (dw m live Pow.new ds).2.2/\
  (∀k d,aS (dw m live Pow.new ds).2.2 k=dB d->i0 d.l<=d.room/\d.wait=0)/\
  ((∀k d,aS ds k=dB d->k∈live->i0 (bW m d.l)<=d.room)->(dw m live Pow.new ds).1=0)/\
  ((dw m live Pow.new ds).1=0->∀k∈live,∀d,aS (dw m live Pow.new ds).2.2 k=dB d->Tidy m d)
 |[],ds,_,S,_,hw=>⟨i4,.inl i4,S,.refl _,hw,λ_=>rfl,λ_ k I=>by cases I⟩
 |k::live,ds,g,S,hlv,hw=>by
  obtain⟨o,g⟩:=List.nodup_cons.1 g;obtain⟨d,n,G⟩:=hlv k qF;have r:=S.cells k d n;have p:=λj f=>hlv j (qz _ f);unfold dw;rw[n]
  try dsimp only
  by_cases e:d.l=bW m d.l
  ·rw[g0 e];obtain⟨B,A,a3,a4,a5,y,v⟩:=BF (live:=live) g S p hw;refine⟨B,A,a3,a4,a5,λh=>y λj x a f=>h j x a (qz _ f),λh0 j f x a=>?_⟩;rcases qX.1 f with rfl|f
   ·rw[nl (w:=Pow.new) S.len o,n]at a;injection a with a
    subst a;exact⟨(mH S.may).2 λc r=>by rw[e];exact zm _ r,by rw[<-e];exact qk _,(hw j d n).1⟩
   ·exact v h0 j f x a
  ·rw[g9 e];by_cases u:i0 (bW m d.l)<=d.room
   ·have z:=Dz jP (Bt m d.l) G u;rw[z]
    try dsimp only
    rw[g0 rfl];have D:=QZ S.may r;have F:dX m C (bV ds k {d with l:=bW m d.l,wait:=0,laid:=[],has:=eS}):=S.TS n (Jf S.may r);have i:=λs=>iU (d:={d with l:=bW m d.l,wait:=0,laid:=[],has:=eS}) S.len n s;have H:iW m ds (bV ds k {d with l:=bW m d.l,wait:=0,laid:=[],has:=eS}):=.set S.len n D;obtain⟨B,A,a3,a4,a5,y,v⟩:=BF (live:=live) g F (λj f=>by
     obtain⟨x,a,E⟩:=p j f;have q:j≠k:=λh=>o (by rw[<-h];exact f);exact⟨x,by rw[i,g9 q];exact a,E⟩) (λj x a=>by
     rw[i]at a;split at a
     ·injection a with a;subst a;exact⟨u,i4⟩
     ·exact hw j x a)
    refine⟨B,A,a3,H.trans a4,a5,λh=>y λj x a f=>?_,λh0 j f x a=>?_⟩
    ·have q:j≠k:=λh=>o (by rw[<-h];exact f);rw[i,g9 q]at a;exact h j x a (qz _ f)
    ·rcases qX.1 f with rfl|f
     ·rw[nl (w:=Pow.new) F.len o,i,g0 rfl]at a;injection a with a
      subst a;exact KD S.may r u
     ·exact v h0 j f x a
   ·have z:d.rewrite Pow.new (bW m d.l)=(7,Pow.new,d):=by unfold aW.rewrite;have t:(bW m d.l).all (λb=>decide (i0 b=64))=eR:=qK.2 λc h=>hU (Bt m d.l c h);rw[t,g9 i6,g9 (by rw[G];decide),g0 i5]
    rw[z]
    try dsimp only
    rw[g9 (show¬(7:Int)=0 by decide),Kg n];exact⟨i4,.inr i4,S,.refl _,hw,λh=>absurd (h k d n qF) u,λh=>absurd h (show¬(7:Int)=0 by decide)⟩
structure Oi (m:aw) (C:Int->aM) (e:Qw.ci) (i:Nat) (x:ja):Prop where
 he:e∈m.objs
 hi:i<e.tries.length
 o:x.o=e.object
 b:x.b=i
 seed:x.seed=cb e.object i (e.tries.getD i 0)
 M:x.M=dj m.p x.seed (fL m C e.object i)
theorem Oi.Ia{e:Qw.ci}{i:Nat}{x:ja}(X:Oi m C e i x)(id:Nat):x.Ia m id=kW m e.object i (cb e.object i (e.tries.getD i 0)) (fL m C e.object i) id:=by unfold ja.Ia kW rU;rw[X.M,X.o,X.b,X.seed]
theorem Xn(S:dX m C ds){e:Qw.ci}(b:e∈m.objs){i:Nat}(d:i<e.tries.length){id:Nat}(hid:id<=65535):dv m C (cT (kW m e.object i (cb e.object i (e.tries.getD i 0)) (fL m C e.object i) id)):=by
 have c:=S.DV b d hid;have a:=nR c (jy _ _ _);refine⟨λr h=>?_,λr h _=>?_,λg h=>?_⟩
 ·rw[a]at h;injection h with h;subst h
  exact S.old b
 ·rw[a]at h;injection h with h;subst h
  rfl
 ·rw[HS c]at h;cases h
theorem Xo{W:bP}:eG W<=i0 W.flatten:=by
 have h:=uk (l:=(qt (eG W)).map λi:Nat=>(i:Int)) (m:=W.flatten) (by
  rw[List.Nodup,List.pairwise_map];exact yG.imp λh e=>i5) λx a=>by
   obtain⟨j,c,rfl⟩:=qo.1 a;have:=DX (qA.1 c);unfold lH at this;rw[zY]at this;obtain⟨l,d,b⟩:=this;exact List.mem_flatten.2 ⟨l,d,ii b⟩
 simpa using h
theorem ZN{W:bP}{c:Nat}(h:∀l∈W,i0 l<=c):i0 W.flatten<=i0 W*c:=by
 induction W with
 |nil=>simp
 |cons l W ih=>
  rw[List.flatten_cons,qp,List.length_cons,Nat.succ_mul];have d:=h l qF;have b:=ih λz a=>h z (qz _ a);omega
theorem Xp{live:au}{s:Int}(h:s∈live):∃k:Nat,gr live s=k/\∃a:k<i0 live,live[k]=s:=by
 unfold gr;cases hx:live.idxOf? s with
 |none=>
  unfold List.idxOf? at hx;rw[List.findIdx?_eq_none_iff]at hx;have:=hx s h;simp at this
 |some k=>
  unfold List.idxOf? at hx;obtain⟨a,b,_⟩:=List.findIdx?_eq_some_iff_getElem.1 hx;exact⟨k,i4,a,kt⟩
def KE(m:aw)(live:au)(ds:aC)(x:ja):Prop:=∀k (a:k<i0 live),∀id∈x.W.getD k [],id∈(gD m ds x.o x.b live[k]).map qL
theorem KE.keep{live:au}{a:aC}{x:ja}(h:KE m live ds x)(K:iW m ds a):KE m live a x:=λk b id hid=>K.syms (h k b id hid)
theorem PX(e:bp m=eR){d:aW}{c:aM}{f:cP}(j:∀z∈d.l,dv m C z)(o:dv m C c)(i:dg c=dB f)(h:Tidy m d)(g:i0 d.l+1<=d.room)(n:Nat):Tidy m {d with l:=d.l++[c],wait:=n,laid:=[],has:=eS}:=by
 refine⟨(mH e).2 λz k=>zm _ ((mH e).1 h.whole z k),?_,i9⟩;show(bW m (d.l++[c])).length<=i0 (d.l++[c]);have p:=h.keep;rw[Gh]at p⊢;have s:i0 (fp m (d.l++[c]))<=i0 (fp m d.l++[f]):=by
  letI:DecidableEq cP:=λa b=>Classical.propDecidable _
  refine uk (Ig _) λr g=>?_;obtain⟨a,b,q⟩:=lp g;rcases qw.1 a with a|a
  ·exact zm _ (pJ e j a b q)
  ·rw[qx.1 a,i]at b;injection b with b
   exact zP _ (by rw[b];simp)
 simp at s⊢;omega
theorem Xq(a:bp m=eR){d:aW}{n:Int}(b:∀c∈d.l,dv m C c)(h:Tidy m d):Tidy m (cN m d n):=by
 unfold cN;split
 ·exact h
 ·exact KD a b (qY h.keep h.room)
theorem acr(a:bp m=eR){d:aW}{n:Int}(b:∀c∈d.l,dv m C c):DK m d (cN m d n):=by
 unfold cN;split
 ·exact .refl d
 ·exact QZ a b
structure pc (m:aw) (C:Int->aM) (live:au) (ds:aC) (got:au):Prop where
 sto:dX m C ds
 lv:∀k∈live,∃d,aS ds k=dB d/\d.lost=eS
 wt:∀k d,aS ds k=dB d->d.wait=0∨k∈got
 tidy:∀k∈live,∀d,aS ds k=dB d->Tidy m d
 rm:∀k d,aS ds k=dB d->i0 d.l<=d.room/\d.room<=512
theorem xV{live set order:au}{c:aM}{id:Nat}{w:Pow}:∀l:List Nat,(gw m live set order c id w ds l).1=(7,w,ds)∨
  ∃i∈l,∃d,aS ds (fI order ((id:Int)+i))=dB d/\gu m d 1=eR/\gw m live set order c id w ds l=(iZ m c w ds (fI order ((id:Int)+i)) d,gr live (fI order ((id:Int)+i)),fI order ((id:Int)+i))
 |[]=>.inl i4
 |i::l=>by
  unfold gw
  try dsimp only
  have step:∀{P:Prop},(gw m live set order c id w ds l).1=(7,w,ds)∨(∃i∈l,∃d,aS ds (fI order ((id:Int)+i))=dB d/\gu m d 1=eR/\gw m live set order c id w ds l=(iZ m c w ds (fI order ((id:Int)+i)) d,gr live (fI order ((id:Int)+i)),fI order ((id:Int)+i)))->
   (gw m live set order c id w ds l).1=(7,w,ds)∨(∃j∈i::l,∃d,aS ds (fI order ((id:Int)+j))=dB d/\gu m d 1=eR/\gw m live set order c id w ds l=(iZ m c w ds (fI order ((id:Int)+j)) d,gr live (fI order ((id:Int)+j)),fI order ((id:Int)+j))):=λ{P} h=>by
    rcases h with h|⟨j,hj,r⟩
    ·exact .inl h
    ·exact .inr ⟨j,qz _ hj,r⟩
  cases hd:aS ds (fI order ((id:Int)+i))with
  |none=>exact step (P:=True) (xV l)
  |some d=>
   try dsimp only
   by_cases a:gr live (fI order ((id:Int)+i))∈set∨gu m d 1=eS
   ·rw[g0 a];exact step (P:=True) (xV l)
   ·rw[g9 a];exact .inr ⟨i,qF,d,hd,by cases hf:gu m d 1 with|true=>rfl|false=>exact absurd (.inr hf) a,rfl⟩
theorem Xr{live set:au}{e:Qw.ci}{i:Nat}{x:ja}(ah:live.length<=9)(Q:pc m C live ds x.got)(X:Oi m C e i x)(F:mG m live x)(O:KE m live ds x):
  (fw m live set Pow.new ds x).2.1=Pow.new/\((fw m live set Pow.new ds x).1=0∨(fw m live set Pow.new ds x).1=7)/\iW m ds (fw m live set Pow.new ds x).2.2.1/\
  pc m C live (fw m live set Pow.new ds x).2.2.1 (fw m live set Pow.new ds x).2.2.2.got/\Oi m C e i (fw m live set Pow.new ds x).2.2.2/\KE m live (fw m live set Pow.new ds x).2.2.1 (fw m live set Pow.new ds x).2.2.2:=by
 have v:eG x.W<=65535:=by
  have S:=Xo (W:=x.W);have h2:=ZN (W:=x.W) (c:=4160) λl hl=>by have:=F.rl l hl;have:=F.gl;omega
  have h3:=F.wl;have h4:x.W.length*4160<=9*4160:=Nat.mul_le_mul_right _ i5;omega
 have g:=Q.sto.counts X.he X.hi v;have H:=Q.sto.DV X.he X.hi v;have A:=Xn Q.sto X.he X.hi v;obtain⟨p,u⟩:∃p,p=kW m e.object i (cb e.object i (e.tries.getD i 0)) (fL m C e.object i) (eG x.W):=⟨_,rfl⟩
 rw[<-u]at g H A;have P:=nR H (by rw[u];exact jy _ _ _);have Y:(cT p).length=64:=Fv H;have eP:fw m live set Pow.new ds x=(let r:=gw m live set (dt x.o x.b live) (cT p) (eG x.W) Pow.new ds (qt (dt x.o x.b live).length);(r.1.1,r.1.2.1,r.1.2.2,if r.1.1=0 then x.xT (eG x.W) r.2.1 r.2.2 else x)):=by rw[u,<-X.Ia];rfl
 rw[eP]
 try dsimp only
 obtain⟨o,ho⟩:∃o,o=dt x.o x.b live:=⟨_,rfl⟩
 rw[<-ho];rcases xV (m:=m) (ds:=ds) (live:=live) (set:=set) (order:=o) (c:=cT p) (id:=eG x.W) (w:=Pow.new) (qt o.length)with h|⟨j,T,d,hd,hf,h⟩
 ·rw[h]
  try dsimp only
  rw[g9 (show¬(7:Int)=0 by decide)];exact⟨i4,.inr i4,.refl _,Q,X,O⟩
 obtain⟨s,hs⟩:∃s,s=fI o ((eG x.W:Int)+j):=⟨_,rfl⟩
 rw[<-hs]at hd h;have T:=qA.1 T;have I:s∈live:=by rw[hs];exact BC (by rw[<-ho];exact Jm (by intro h;rw[h]at T;simp at T))
 obtain⟨kk,Z,ad,ab⟩:=Xp I;have U:=Q.sto.cells s d hd;obtain⟨r1,r2,r3⟩:=Bv hf;have ea:iZ m (cT p) Pow.new ds s d=(0,Pow.new,bV ds s {cN m d 1 with l:=(cN m d 1).l++[cT p],wait:=(cN m d 1).wait+1,laid:=[],has:=eS}):=by
  unfold iZ;rw[Hz jP hf]
  try dsimp only
  rw[g9 λh=>h i4,EZ (n:=0) jP r1 i5 Y]
  try dsimp only
  rw[sG]
 rw[h,ea]
 try dsimp only
 rw[g0 rfl];obtain⟨y,q⟩:∃y,y={cN m d 1 with l:=(cN m d 1).l++[cT p],wait:=(cN m d 1).wait+1,laid:=[],has:=eS}:=⟨_,rfl⟩
 rw[<-q];have B:=Q.sto.may;have E:=Jg B U (N:=1);have J:∀c∈y.l,dv m C c:=λc f=>by
  rw[q]at f;rcases qw.1 f with f|f
  ·exact E c f
  ·rw[qx.1 f];exact A
 have G:DK m d y:=(acr B U (n:=1)).trans (by
  rw[q];refine⟨i4,i4,λr hr=>ZM B (l:=(cN m d 1).l) (l':=(cN m d 1).l++[cT p]) (λc f=>by
   rcases qw.1 f with f|f
   ·exact E c f
   ·rw[qx.1 f];exact A) (λc f=>zm _ f) hr,λhw=>(mH B).2 λc f=>zm _ ((mH B).1 hw c f)⟩)
 have K:iW m ds (bV ds s y):=.set Q.sto.len hd G;have t:=λz=>iU (d:=y) Q.sto.len hd z;have S':dX m C (bV ds s y):=Q.sto.TS hd J;have L:Tidy m y:=by rw[q];exact PX B E A P (Xq B U (Q.tidy s I d hd)) i5 _
 refine⟨i4,.inl i4,K,⟨S',λk D=>?_,λk z a=>?_,λk D z a=>?_,λk z a=>?_⟩,⟨X.he,X.hi,X.o,X.b,X.seed,X.M⟩,λk D id hid=>?_⟩
 ·rw[t];split
  ·exact⟨y,i4,by rw[G.lost];obtain⟨z,a,hl⟩:=Q.lv s I;rw[hd]at a;injection a with a;rw[a];exact hl⟩
  ·exact Q.lv k D
 ·show z.wait=0∨k∈x.got++[s]
  rw[t]at a;split at a
  ·rename_i D;rw[D];exact .inr jj
  ·rcases Q.wt k z a with h|h
   ·exact .inl h
   ·exact .inr (zm _ h)
 ·rw[t]at a;split at a
  ·injection a with a
   rw[<-a];exact L
  ·exact Q.tidy k D z a
 ·rw[t]at a;split at a
  ·injection a with a
   rw[<-a];exact⟨L.room,by rw[G.room];exact(Q.rm s d hd).2⟩
  ·exact Q.rm k z a
 ·have hid:id∈(x.W.set (gr live s).toNat (x.W.getD (gr live s).toNat []++[(eG x.W:Int)])).getD k []:=hid;rw[Z,qj]at hid;show id∈(gD m (bV ds s y) x.o x.b live[k]).map qL;have V:kk<x.W.length:=by rw[F.wl];exact ad
  by_cases R:k=kk
  ·subst R;rw[fh [] (by rw[List.length_set];exact V),List.getElem_set_self]at hid;rcases qw.1 hid with S|S
   ·exact K.syms (O k D id S)
   ·rw[qx.1 S,ab];refine qo.2 ⟨(p.id,p.data),?_,by rw[u];rfl⟩;unfold gD;rw[t,g0 rfl];refine qo.2 ⟨p,qC.2 ⟨pJ B J (by rw[q];exact zP _ jj) P g,?_⟩,i4⟩;rw[X.o,X.b,u];show(decide (e.object=e.object)&&decide ((i:Int)=(i:Int)))=eR;simp
  ·rw[qd,List.getElem?_set_ne λh=>R h.symm,<-qd]at hid;exact K.syms (O k D id hid)
theorem Xs{p:Pm}(c:bx p=eR){seed:Int}{W:bP}{t:Int}(a:0<=t/\t<=i0 W)(b:i0 W<=64)(d:¬iX W.length t>4096):iP p seed W t=match nu p seed W t.toNat with|some g=>(g,eR,0)|none=>([],eS,0):=by unfold iP;rw[g0 c,g0 ⟨a.1,a.2,b⟩,g9 d];rfl
theorem Ih{live:au}{t most:Int}{e:Qw.ci}{i:Nat}(c:0<=t/\t<=i0 live)(b:i0 live<=9)(n:¬iX live.length t>4096)(a:most<=64):∀(f:Nat) (ds:aC) (x:ja),pc m C live ds x.got->Oi m C e i x->mG m live x->KE m live ds x->
  (dl m live t most f Pow.new ds x).2.1=Pow.new/\((dl m live t most f Pow.new ds x).1=0∨(dl m live t most f Pow.new ds x).1=7∨(dl m live t most f Pow.new ds x).1=12)/\iW m ds (dl m live t most f Pow.new ds x).2.2.1/\
  pc m C live (dl m live t most f Pow.new ds x).2.2.1 (dl m live t most f Pow.new ds x).2.2.2.got/\Oi m C e i (dl m live t most f Pow.new ds x).2.2.2/\mG m live (dl m live t most f Pow.new ds x).2.2.2/\KE m live (dl m live t most f Pow.new ds x).2.2.1 (dl m live t most f Pow.new ds x).2.2.2/\
  ((dl m live t most f Pow.new ds x).1=0->nu m.p x.seed (dl m live t most f Pow.new ds x).2.2.2.W t.toNat=none)/\
  (nu m.p x.seed x.W t.toNat=none->0<f->dl m live t most f Pow.new ds x=(0,Pow.new,ds,x))
 |0,ds,x,Q,X,F,O=>⟨i4,.inr (.inr i4),.refl _,Q,X,F,O,λh=>absurd h (show¬(12:Int)=0 by decide),λ_ h=>absurd h i6⟩
 |f+1,ds,x,Q,X,F,O=>by
  have l:=Xs Q.sto.DR (seed:=x.seed) (W:=x.W) (t:=t) ⟨c.1,by rw[F.wl];exact c.2⟩ (by rw[F.wl];omega) (by rw[F.wl];exact n);unfold dl
  try dsimp only
  rw[l];cases hwk:nu m.p x.seed x.W t.toNat with
  |none=>
   try dsimp only
   rw[g9 λh=>h i4,g0 rfl];exact⟨i4,.inl i4,.refl _,Q,X,F,O,λ_=>hwk,λ_ _=>rfl⟩
  |some g=>
   try dsimp only
   rw[g9 λh=>h i4,g9 i6];by_cases o:(i0 x.got:Int)>=most
   ·rw[g0 o];exact⟨i4,.inr (.inr i4),.refl _,Q,X,F,O,λh=>absurd h (show¬(12:Int)=0 by decide),λh=>j7⟩
   ·rw[g9 o];obtain⟨j,r,a3,a4,a5,d⟩:=Xr (set:=g) b Q X F O;have k:=(Ge (set:=g) (w:=Pow.new) (ds:=ds) F i5).1;obtain⟨q,u⟩:∃q,q=fw m live g Pow.new ds x:=⟨_,rfl⟩
    rw[<-u]at j r a3 a4 a5 d k⊢;by_cases h0:q.1≠0
    ·rw[g0 h0];exact⟨j,r.elim (λh=>absurd h h0) λh=>.inr (.inl h),a3,a4,a5,k,d,λh=>absurd h h0,λh=>j7⟩
    ·rw[g9 h0,j];obtain⟨y,v,D,s,A,E,z,b8,_⟩:=Ih c b n a f q.2.2.1 q.2.2.2 a4 a5 k d;have B:q.2.2.2.seed=x.seed:=by rw[a5.seed,X.seed]
     rw[B]at b8;exact⟨y,v,a3.trans D,s,A,E,z,b8,λh=>j7⟩
theorem pc.fit{live got:au}(Q:pc m C live ds got):Fit ds live []:=⟨Q.sto.len,λs a=>by
 obtain⟨d,b,c⟩:=Q.lv s a;exact⟨d,b,c,by have:=(Q.tidy s a d b).room;simp;omega⟩⟩
theorem pc.sync{live got:au}(Q:pc m C live ds got)(t:∀s∈got,s∈live)(o:∀s∈live,0<=s/\s<64):
  (eI (cx got) Pow.new ds).1=0/\(eI (cx got) Pow.new ds).2.1=Pow.new/\iW m ds (eI (cx got) Pow.new ds).2.2/\pc m C live (eI (cx got) Pow.new ds).2.2 []/\∀k,(aS (eI (cx got) Pow.new ds).2.2 k).map aW.l=(aS ds k).map aW.l:=by
 obtain⟨y,p,a3⟩:=Bq jP (cx got) ds Q.fit λs u=>by
  unfold cx at u;exact t s (ii (qC.1 u).2)
 obtain⟨D,w⟩:∃D,D=(eI (cx got) Pow.new ds).2.2:=⟨_,rfl⟩
 rw[<-w]at p a3⊢;have g:∀k d,aS ds k=dB d->∃c,aS D k=dB c/\c.l=d.l/\c.room=d.room/\c.lost=d.lost/\(c.wait=0∨c.wait=d.wait/\k∉cx got):=λk d b=>by
  rw[a3,b];refine⟨_,i4,?_⟩;split
  ·exact⟨i4,i4,i4,.inl i4⟩
  ·exact⟨i4,i4,i4,.inr ⟨i4,n9⟩⟩
 have j:∀k,aS ds k=none->aS D k=none:=λk h=>by rw[a3,h];rfl
 have f:∀k c,aS D k=dB c->∃d,aS ds k=dB d:=λk c h=>by
  cases b:aS ds k with
  |none=>rw[j k b]at h;cases h
  |some d=>exact⟨d,i4⟩
 refine⟨y,Bp jP _ _,⟨by rw[p.len,Q.sto.len],λk d b=>?_,j⟩,⟨⟨Q.sto.may,p.len,λk c a=>?_,Q.sto.ents⟩,λk q=>?_,λk c a=>?_,λk q c a=>?_,λk c a=>?_⟩,λk=>?_⟩
 ·obtain⟨c,e,i,n,h3,_⟩:=g k d b;exact⟨c,e,h3,n,λr x=>by rw[i];exact x,λh=>by rw[i];exact h⟩
 ·obtain⟨d,b⟩:=f k c a;obtain⟨z,e,i,_⟩:=g k d b;rw[a]at e;injection e with e;subst e
  rw[i];exact Q.sto.cells k d b
 ·obtain⟨d,b,A⟩:=Q.lv k q;obtain⟨c,e,_,_,h3,_⟩:=g k d b;exact⟨c,e,by rw[h3];exact A⟩
 ·obtain⟨d,b⟩:=f k c a;obtain⟨z,e,_,_,_,v⟩:=g k d b;rw[a]at e;injection e with e;subst e
  rcases v with h|⟨h,hn⟩
  ·exact .inl h
  ·rcases Q.wt k d b with h5|h5
   ·exact .inl (h.trans h5)
   ·exact absurd ((xP (o k (t k h5))).2 h5) hn
 ·obtain⟨d,b⟩:=f k c a;obtain⟨z,e,i,n,_,_⟩:=g k d b;rw[a]at e;injection e with e;subst e
  have:=Q.tidy k q d b;exact⟨by rw[i];exact this.whole,by rw[i];exact this.keep,by rw[i,n];exact this.room⟩
 ·obtain⟨d,b⟩:=f k c a;obtain⟨z,e,i,n,_,_⟩:=g k d b;rw[a]at e;injection e with e;subst e
  rw[i,n];exact Q.rm k d b
 ·cases b:aS ds k with
  |none=>rw[j k b]
  |some d=>
   obtain⟨c,e,i,_⟩:=g k d b;rw[e];simp[i]
structure BG (m:aw) (live:au) (ds:aC) (t most:Int):Prop where
 lv:live=aN ds m.drives
 few:i0 live<=9
 tt:0<=t/\t<i0 live
 c:¬iX live.length t>4096
 mo:0<=most/\most<=64
 slots:∀s∈live,0<=s/\s<64
def jF(m:aw)(live:au)(ds:aC)(t:Int)(e:Qw.ci)(i:Nat):Prop:=nu m.p (cb e.object i (e.tries.getD i 0)) (dS m ds e.object i live) t.toNat=none
theorem rF(m:aw)(ds:aC)(o b:Int)(live:au):i0 (dS m ds o b live)=i0 live:=by unfold dS;rw[qy]
theorem jF.keep{live:au}{a:aC}{t:Int}{e:Qw.ci}{i:Nat}(h:jF m live ds t e i)(K:iW m ds a):jF m live a t e i:=by
 refine KB (by rw[rF,rF]) (λk x b=>?_) h;by_cases c:k<i0 live
 ·rw[BE c]at b⊢;exact K.syms b
 ·rw[qd,qM (by rw[rF];omega)]at b;cases b
theorem Xt{live:au}{t most:Int}{e:Qw.ci}{i:Nat}(Z:BG m live ds t most)(S:dX m C ds)(f:e∈m.objs)(y:i<e.tries.length)(j:∀k d,aS ds k=dB d->d.l.length<=512):
  ((ff m live ds e.object e.tries i).1=0∨(ff m live ds e.object e.tries i).1=11)/\
  ((ff m live ds e.object e.tries i).1=0->Oi m C e i (ff m live ds e.object e.tries i).2/\KE m live ds (ff m live ds e.object e.tries i).2/\(ff m live ds e.object e.tries i).2.W=dS m ds e.object i live)/\
  (jF m live ds t e i->(ff m live ds e.object e.tries i).1=0):=by
 have s:=S.iK f y;unfold Qw.iK at s;rw[<-Z.lv]at s;obtain⟨K,H,w,n,B⟩:=S.eV f y;have g:iv m.p (cb e.object i (e.tries.getD i 0)) (fL m C e.object i).length=0:=B.iv;unfold ff
 try dsimp only
 rw[s,<-Z.lv];by_cases q:fq m.p (cb e.object i (e.tries.getD i 0)) (lY m ds e.object i)=eR
 ·rw[g0 q]
  try dsimp only
  rw[g9 λh=>h i4,g9 λh=>h g];refine⟨.inl i4,λ_=>⟨⟨f,y,i4,i4,i4,i4⟩,λk A id hid=>?_,i4⟩,λ_=>rfl⟩;dsimp only at hid⊢;rw[BE A]at hid;exact hid
 ·rw[g9 q]
  try dsimp only
  rw[g0 (show¬(9:Int)=0 by decide)];refine⟨.inr i4,λh=>absurd h (show¬(11:Int)=0 by decide),λo=>absurd ?_ q⟩;unfold jF at o;obtain⟨W,v⟩:∃W,W=dS m ds e.object i live:=⟨_,rfl⟩
  rw[<-v]at o;have F:W.length=live.length:=by rw[v];exact rF _ _ _ _ _
  have u:ints (qt t.toNat)∈uU W.length t.toNat:=qo.2 ⟨_,Mo jj (λx r=>by have:=qA.1 r;have:=Z.tt;omega) yG,i4⟩;have E:(mF m.p (cb e.object i (e.tries.getD i 0)) W (ints (qt t.toNat)):Int)=bu m.p:=by have:=z7.1 o _ u;simpa using this
  have a:fq m.p (cb e.object i (e.tries.getD i 0)) (oS W (ints (qt t.toNat)) W.length)=eR:=by unfold fq;rw[S.DR,zS];exact beq_iff_eq.2 E
  refine Kw S.DR (λx r=>?_) a;obtain⟨k,A,_,b⟩:=(Ea W _ x W.length).1 r;have c:k<live.length:=i5
  rw[v,BE c]at b;obtain⟨z,D,rfl⟩:=qo.1 b;unfold lY dR;exact qo.2 ⟨z,List.mem_flatMap.2 ⟨live[k],by rw[<-Z.lv];exact qf c,D⟩,i4⟩
theorem PY{live:au}{t most:Int}{e:Qw.ci}{i:Nat}(Z:BG m live ds t most)(Q:pc m C live ds [])(E:e∈m.objs)(P:i<e.tries.length):
  (dD m live t most Pow.new ds e i).2.1=Pow.new/\((dD m live t most Pow.new ds e i).1=0∨(dD m live t most Pow.new ds e i).1=7∨(dD m live t most Pow.new ds e i).1=11∨(dD m live t most Pow.new ds e i).1=12)/\iW m ds (dD m live t most Pow.new ds e i).2.2.1/\dX m C (dD m live t most Pow.new ds e i).2.2.1/\pc m C live (dD m live t most Pow.new ds e i).2.2.1 []/\
  ((dD m live t most Pow.new ds e i).1=0->jF m live (dD m live t most Pow.new ds e i).2.2.1 t e i)/\
  (jF m live ds t e i->dD m live t most Pow.new ds e i=(0,Pow.new,ds,0)):=by
 have a:∀k d,aS ds k=dB d->d.l.length<=512:=λk d M=>by have:=Q.rm k d M;omega
 obtain⟨n,D,r⟩:=Xt Z Q.sto E P a;have w:=λh=>Gg (m:=m) (live:=live) (ds:=ds) (o:=e.object) (tries:=e.tries) (i:=i) a (by rw[<-Z.lv]) h;unfold dD
 try dsimp only
 obtain⟨p,I⟩:∃p,p=ff m live ds e.object e.tries i:=⟨_,rfl⟩
 rw[<-I]at n D r w⊢;by_cases h0:p.1=0
 rotate_left
 ·rw[g0 h0];exact⟨i4,n.elim (λh=>absurd h h0) λh=>.inr (.inr (.inl h)),.refl _,Q.sto,Q,λh=>absurd h h0,λh=>absurd (r h) h0⟩
 rw[g9 λh=>h h0];obtain⟨X,O,N⟩:=D h0;obtain⟨F,f⟩:=w h0;have R:pc m C live ds p.2.got:=by rw[f];exact Q
 obtain⟨y,L,a3,a4,a5,g,v,A,a9⟩:=Ih (most:=most) ⟨Z.tt.1,by have:=Z.tt.2;omega⟩ Z.few Z.c Z.mo.2 65 ds p.2 R X F O;obtain⟨q,G⟩:∃q,q=dl m live t most 65 Pow.new ds p.2:=⟨_,rfl⟩
 rw[<-G]at y L a3 a4 a5 g v A a9⊢;rw[g9 i5,y];obtain⟨K,J,B,u,T⟩:=a4.sync (λs S=>g.gi s S) Z.slots;rw[K,g9 λh=>h rfl]
 try dsimp only
 refine⟨J,i5,a3.trans B,u.sto,u,λh=>?_,λh=>?_⟩
 ·have h8:=A h;rw[X.seed]at h8;refine KB (V:=dS m (eI (cx q.2.2.2.got) Pow.new q.2.2.1).2.2 e.object i live) (by rw[rF,g.wl]) (λk x j=>?_) h8;by_cases z:k<live.length
  ·rw[BE z];have:=(v.keep B) k z x j;rw[a5.o,a5.b]at this;exact this
  ·rw[qd,qM (by rw[g.wl];omega)]at j;cases j
 ·have H:=a9 (by rw[N,X.seed];exact h) i6;rw[H,f];rfl
theorem BG.next{live:au}{a:aC}{t most:Int}(Z:BG m live ds t most)(K:iW m ds a):BG m live a t most:=⟨by rw[K.live];exact Z.lv,Z.few,Z.tt,Z.c,Z.mo,Z.slots⟩
def okE(e:Int):Prop:=e=0∨e=7∨e=11∨e=12
theorem Eb{live:au}{t most:Int}{e:Qw.ci}(f:e∈m.objs):∀(l:List Nat) (ds:aC) (k:Nat),(∀i∈l,i<e.tries.length)->BG m live ds t most->pc m C live ds []->
  (gz m live t most e l Pow.new ds k).2.1=Pow.new/\okE (gz m live t most e l Pow.new ds k).1/\iW m ds (gz m live t most e l Pow.new ds k).2.2.1/\pc m C live (gz m live t most e l Pow.new ds k).2.2.1 []/\
  ((gz m live t most e l Pow.new ds k).1=0->∀i∈l,jF m live (gz m live t most e l Pow.new ds k).2.2.1 t e i)/\
  ((∀i∈l,jF m live ds t e i)->gz m live t most e l Pow.new ds k=(0,Pow.new,ds,k))
 |[],ds,k,_,_,Q=>⟨i4,.inl i4,.refl _,Q,λ_ i y=>(by cases y),λ_=>rfl⟩
 |i::l,ds,k,hl,Z,Q=>by
  obtain⟨d,o,a3,a4,a5,n,c⟩:=PY Z Q f (hl i qF);unfold gz
  try dsimp only
  obtain⟨b,u⟩:∃b,b=dD m live t most Pow.new ds e i:=⟨_,rfl⟩
  rw[<-u]at d o a3 a4 a5 n c⊢;by_cases h0:b.1=0
  rotate_left
  ·rw[g0 h0];exact⟨d,o,a3,a5,λh=>absurd h h0,λh=>absurd (by rw[c (h i qF)]) h0⟩
  rw[g9 λh=>h h0,d];obtain⟨s,x,c3,v,w,r⟩:=Eb f l b.2.2.1 (k+b.2.2.2) (λj a=>hl j (qz _ a)) (Z.next a3) a5;refine⟨s,x,a3.trans c3,v,λh j a=>?_,λh=>?_⟩
  ·rcases qX.1 a with rfl|a
   ·exact(n h0).keep c3
   ·exact w h j a
  ·have p:=c (h i qF);have g:b.2.2.1=ds:=by rw[p]
   have q:b.2.2.2=0:=by rw[p]
   rw[g,q,wJ]at r;rw[g,q,wJ];exact r λj a=>h j (qz _ a)
theorem Ii{live:au}{t most:Int}:∀(l:List Qw.ci) (ds:aC) (k:Nat),(∀e∈l,e∈m.objs)->BG m live ds t most->pc m C live ds []->
  (kv m live t most l Pow.new ds k).2.1=Pow.new/\okE (kv m live t most l Pow.new ds k).1/\iW m ds (kv m live t most l Pow.new ds k).2.2.1/\pc m C live (kv m live t most l Pow.new ds k).2.2.1 []/\
  ((kv m live t most l Pow.new ds k).1=0->∀e∈l,∀i<e.tries.length,jF m live (kv m live t most l Pow.new ds k).2.2.1 t e i)/\
  ((∀e∈l,∀i<e.tries.length,jF m live ds t e i)->kv m live t most l Pow.new ds k=(0,Pow.new,ds,k))
 |[],ds,k,_,_,Q=>⟨i4,.inl i4,.refl _,Q,λ_ i a=>qs,λ_=>rfl⟩
 |e::l,ds,k,hl,Z,Q=>by
  obtain⟨f,n,a3,a5,g,d⟩:=Eb (hl e qF) (qt e.tries.length) ds k (λi a=>qA.1 a) Z Q;unfold kv
  try dsimp only
  obtain⟨b,s⟩:∃b,b=gz m live t most e (qt e.tries.length) Pow.new ds k:=⟨_,rfl⟩
  rw[<-s]at f n a3 a5 g d⊢;by_cases h0:b.1=0
  rotate_left
  ·rw[g0 h0];exact⟨f,n,a3,a5,λh=>absurd h h0,λh=>absurd (by rw[d λi a=>h e qF i (qA.1 a)]) h0⟩
  rw[g9 λh=>h h0,f];obtain⟨r,w,c3,u,v,p⟩:=Ii l b.2.2.1 b.2.2.2 (λj c=>hl j (qz _ c)) (Z.next a3) a5;refine⟨r,w,a3.trans c3,u,λh j c=>?_,λh=>?_⟩
  ·rcases qX.1 c with rfl|c
   ·exactλi a=>(g h0 i (qA.2 a)).keep c3
   ·exact v h j c
  ·have o:=d λi a=>h e qF i (qA.1 a);have q:b.2.2.1=ds:=by rw[o]
   have x:b.2.2.2=k:=by rw[o]
   rw[q,x]at p⊢;exact p λj c=>h j (qz _ c)
theorem Ue{live:au}{t most:Int}(Z:BG m live ds t most)(S:dX m C ds)(n:∀k d,aS ds k=dB d->d.l.length<=d.room/\d.room<=512)(s:∀k d,aS ds k=dB d->d.wait=0):
  (fl m 0 Pow.new ds t most).2.2.1=Pow.new/\okE (fl m 0 Pow.new ds t most).2.1/\iW m ds (fl m 0 Pow.new ds t most).2.2.2/\dX m C (fl m 0 Pow.new ds t most).2.2.2/\
  (∀k d,aS (fl m 0 Pow.new ds t most).2.2.2 k=dB d->d.l.length<=d.room/\d.wait=0)/\
  ((fl m 0 Pow.new ds t most).2.1=0->pc m C live (fl m 0 Pow.new ds t most).2.2.2 []/\∀e∈m.objs,∀i<e.tries.length,jF m live (fl m 0 Pow.new ds t most).2.2.2 t e i)/\
  ((∀k∈live,∀d,aS ds k=dB d->Tidy m d)->(∀e∈m.objs,∀i<e.tries.length,jF m live ds t e i)->(fl m 0 Pow.new ds t most).1=0/\(fl m 0 Pow.new ds t most).2.1=0):=by
 have j:∀k∈live,∃d,aS ds k=dB d/\d.lost=eS:=λk f=>(iy (by rw[<-Z.lv];exact f)).2;have r:live.Nodup:=by rw[Z.lv];exact oQ (oC S.may)
 obtain⟨u,z,a3,a4,a5,y,x⟩:=BF r S j λk d a=>⟨(n k d a).1,s k d a⟩
 have M:=Z.tt;have B:=Z.c;have J:=Z.mo;have L:fl m 0 Pow.new ds t most=(let c:=dw m live Pow.new ds;if c.1≠0 then(0,c.1,c.2.1,c.2.2)else(let q:=kv m live t most m.objs c.2.1 c.2.2 0;(q.2.2.2,q.1,q.2.1,q.2.2.1))):=by unfold fl;rw[<-Z.lv,g9 i6,g9 i5,g9 B]
 rw[L]
 try dsimp only
 obtain⟨c,p⟩:∃c,c=dw m live Pow.new ds:=⟨_,rfl⟩
 rw[<-p]at u z a3 a4 a5 y x⊢;have b:∀k d,aS c.2.2 k=dB d->d.l.length<=d.room/\d.room<=512:=λk d a=>by
  refine⟨(a5 k d a).1,?_⟩;cases h:aS ds k with
  |none=>rw[a4.no k h]at a;cases a
  |some d0=>
   obtain⟨A,e,w⟩:=a4.at_ k d0 h;rw[a]at e;injection e with e;rw[e,w.room];exact(n k d0 h).2
 by_cases h0:c.1=0
 rotate_left
 ·rw[g0 h0];refine⟨u,z.elim (λh=>absurd h h0) λh=>.inr (.inl h),a4,a3,a5,λh=>absurd h h0,λh _=>absurd (y λk d a f=>?_) h0⟩;have:=h k f d a;exact qY this.keep this.room
 rw[g9 λh=>h h0,u];have Q:pc m C live c.2.2 []:=⟨a3,λk f=>by
  obtain⟨d,a,I⟩:=j k f;obtain⟨A,e,w⟩:=a4.at_ k d a;exact⟨A,e,by rw[w.lost];exact I⟩,λk d a=>.inl (a5 k d a).2,λk f d a=>x h0 k f d a,b⟩
 obtain⟨F,E,H,o,G,K⟩:=Ii m.objs c.2.2 0 (λe g=>g) (Z.next a4) Q;refine⟨F,E,a4.trans H,o.sto,λk d a=>⟨(o.rm k d a).1,?_⟩,λh=>⟨o,λe g i v=>G h e g i v⟩,λ_ h=>?_⟩
 ·rcases o.wt k d a with h|h
  ·exact h
  ·cases h
 ·have D:=K λe g i v=>(h e g i v).keep a4;rw[D];exact⟨i4,i4⟩
end
section
variable {C:Int->aM}
def Qt(d:aW):Prop:=d.wait=0/\d.laid=[]/\d.has=eS
structure Ab (i:Nat) (p:Pm) (m:aw) (C:Int->aM) (ds:aC):Prop where
 os:Os i p m C ds
 q:∀k d,aS ds k=dB d->Qt d
end
variable {B:ak} {h0 h:Heap} {As:List HP} {a b:Addr} {offs:Int} {da:List bK} {w:Pow} {q:bK} {L:List bK}
section
variable {pw:Addr}
theorem Uf(y:DT)(k:y.1=6)(j:bp m=eR)(H:aa B h0 h (bv a pw da offs w ds m::av b 60 (ey q (dB a))::As)):
  ai xJ 9 #[xB (dB b),BB y] h λv h'=>v=CX (ga (iV m offs w ds y.2.2.2.1 y.2.2.2.2.1).1)/\
   ∃c,aa B h0 h' (bv a pw c offs (iV m offs w ds y.2.2.2.1 y.2.2.2.2.1).2.2.1 (iV m offs w ds y.2.2.2.1 y.2.2.2.2.1).2.2.2 (iV m offs w ds y.2.2.2.1 y.2.2.2.2.1).2.1::av b 60 (ey q (dB a))::As):=by
 refine ts Tryz.func9 ?_ (.two .n (.two .n (.two (.join [] [(8,101)] (.two .n (.inn (.two (.join [(11,nV)] [(11,17)] .n) .n)))) .n))) (args:=[(dB b),y]);obtain⟨R,o⟩:∃R,R=iV m offs w ds y.2.2.2.1 y.2.2.2.2.1:=⟨_,rfl⟩
 refine H.boxed λu t f=>?_;have f:=f.aY;refine f.alloc ag i4 λs x d=>bc (λe=>j1) λ_=>?_;have d:=d.aY.aK 4 [2,3,1,0];refine aO ⟨y.1,(d.box 2 i4).cell0 i4,aO ?_⟩;rw[k];refine bf (λe=>absurd e i6) λ_=>bf (λe=>absurd e i6) λ_=>bf (λe=>absurd e i6) λ_=>bf (λe=>absurd e i6) λ_=>?_;refine bc (λe=>j1) λ_=>?_;refine bf (λ_=>?_) λe=>absurd i4 e;refine⟨b,i4,dB a,(d.box 1 i4).cell i4,y.2.2.2.1,(d.box 2 i4).cell i4,y.2.2.2.2.1,(d.box 2 i4).cell i4,(abT y.2.2.2.1 y.2.2.2.2.1 j d).mono ?_⟩;rw[<-o];rintro _ h3 ⟨rfl,c,l⟩;refine⟨R.1,i4,trivial,l.gA ag 3 i4 i4 [xz xF R.1] i4 i4 i4 jj λp g=>⟨trivial,?_⟩⟩;refine⟨ga R.1,(g.box 3 i4).aE (jV (ga R.1)) i4,g.storeAll ag 3 i4 i4 (jV (ga R.1)) i4 i4 i4 i4 λr i=>?_⟩;exact⟨ga R.1,(i.box 3 i4).aE (jV (ga R.1)) i4,i4,c,i.aK 4 [0,1]⟩
theorem Oj(y:DT)(p:y.1=10)(o:bp m=eR)(j:-(2^62)<=y.2.2.2.2.1/\y.2.2.2.2.1<=2^62)(H:aa B h0 h (bv a pw da offs w ds m::av b 60 (ey q (dB a))::As)):
  ai xJ 9 #[xB (dB b),BB y] h λv h'=>(∃Y:Bd,v=CX Y)/\
   aa B h0 h' (bv a pw da offs (fl m offs w ds y.2.2.2.2.1 y.2.2.2.2.2.1).2.2.1 (fl m offs w ds y.2.2.2.2.1 y.2.2.2.2.2.1).2.2.2 m::av b 60 (ey q (dB a))::As):=by
 refine ts Tryz.func9 ?_ (.two .n (.two .n (.two (.join [] [(8,101)] (.two .n (.inn (.two (.join [(11,nV)] [(11,17)] .n) .n)))) .n))) (args:=[(dB b),y]);obtain⟨R,t⟩:∃R,R=fl m offs w ds y.2.2.2.2.1 y.2.2.2.2.2.1:=⟨_,rfl⟩
 refine H.boxed λE D d=>?_;have d:=d.aY;refine d.alloc ag i4 λA F c=>bc (λe=>j1) λ_=>?_;have c:=c.aY.aK 4 [2,3,1,0];refine aO ⟨y.1,(c.box 2 i4).cell0 i4,aO ?_⟩;rw[p];refine bf (λe=>absurd e i6) λ_=>bf (λe=>absurd e i6) λ_=>bf (λe=>absurd e i6) λ_=>bf (λe=>absurd e i6) λ_=>?_;refine bc (λe=>j1) λ_=>?_;refine bf (λe=>absurd e i6) λ_=>bf (λe=>absurd e i6) λ_=>bf (λe=>absurd e i6) λ_=>bf (λe=>absurd e i6) λ_=>bf (λ_=>?_) λe=>absurd i4 e;refine⟨b,i4,dB a,(c.box 1 i4).cell i4,y.2.2.2.2.1,(c.box 2 i4).cell i4,y.2.2.2.2.2.1,(c.box 2 i4).cell i4,(Uc y.2.2.2.2.1 y.2.2.2.2.2.1 o j c).mono ?_⟩;rw[<-t];rintro _ h3 ⟨rfl,r⟩;obtain⟨k,f⟩:∃k:Int,k=(R.1:Nat):=⟨_,rfl⟩
 rw[<-f];refine⟨(k,R.2.1),i4,trivial,?_⟩;refine r.store ag 3 i4 i4 7 [xz xF k] i4 i4 i4 jj λu s=>⟨trivial,?_⟩
 refine s.gA ag 3 i4 i4 [xz xF R.2.1] i4 i4 i4 jj λx i=>⟨trivial,?_⟩
 obtain⟨Y,l⟩:∃Y:Bd,Y=(R.2.1,fj,fj,0,0,0,fj,k):=⟨_,rfl⟩
 refine⟨Y,(i.box 3 i4).aE (jV Y) (by rw[l];rfl),i.storeAll ag 3 i4 i4 (jV Y) i4 i4 i4 i4 λz g=>?_⟩;exact⟨Y,(g.box 3 i4).aE (jV Y) i4,⟨Y,i4⟩,g.aK 4 [0,1]⟩
end
variable {h':Heap}
section
variable {pw:Addr}
end
variable {D:aC} {xb xs:bF}
section
variable {pw:Addr}
end
section
variable {pw:Addr}
end
section
variable {C:Int->aM}
def afC(m:aw)(ds:aC):Prop:=∀k d,aS ds k=dB d->∀e b,aS ds e=dB b->∀c∈d.l,∀f∈b.l,∀r a,dg c=dB r->dg f=dB a->dz m r=eR->dz m a=eR->aaZ r=aaZ a->k=e
end
variable {N:Nat} {name:ByteArray}
section
variable {C:Int->aM} {b:aM}
structure agb (m:aw) (C:Int->aM) (ds:aC) (N:Nat):Prop where
 inv:Inv m C ds N
 once:afC m ds
 room:∀k∈m.drives,∃d,aS ds k=dB d/\d.lost=eS/\d.room=400
 four:∀e∈m.objs,e.tries.length<=4
 ids:(m.p.1+m.extra).toNat<=12
theorem Xu:m.objs.any (gf name)=eR↔∃e∈m.objs,e.name=name:=by rw[zY];refine⟨λ⟨e,he,h⟩=>⟨e,he,oD (by unfold gf at h;simpa using h)⟩,λ⟨e,he,h⟩=>⟨e,he,by unfold gf;rw[h];simp⟩⟩
theorem JJq(h:¬∃e∈m.objs,e.name=name):m.objs.find? (gf name)=none:=z7.2 λe b a=>h ⟨e,b,oD (by unfold gf at a;simpa using a)⟩
structure nv (m:aw) (C:Int->aM) (rs:List HY) (M:List Mv) (kvs:List (ByteArray×Sl)):Prop where
 nd:(kvs.map qL).Nodup
 len:kvs.length=m.objs.length
 mem:∀q∈kvs,∃e∈m.objs,e.name=q.1/\∃(j:Nat) (h1:j<rs.length) (h2:j<M.length),q.2=rs[j].2.2.1/\C e.object=M[j].data
 all:∀e∈m.objs,fF e.name kvs≠none
variable {rs:List HY} {M:List Mv} {kvs:List (ByteArray×Sl)}
theorem nv.some(H:nv m C rs M kvs){s:Sl}(h:fF name kvs=dB s):∃e∈m.objs,e.name=name/\∃(j:Nat) (b:j<rs.length) (a:j<M.length),s=rs[j].2.2.1/\C e.object=M[j].data:=H.mem _ (JO h)
theorem nv.put(H:nv m C rs M kvs)(S:dX m C ds)(h:fF name kvs=Option.none){j:Nat}(w:j<i0 rs)(y:j<i0 M){t:au}(l:b=M[j].data){L:Int}:
  nv (dh m ⟨name,m.next,L,t⟩) (ig C m.next b) rs M (pW name rs[j].2.2.1 kvs):=by
 rw[CY _ h];have s:=GR.1 h;refine⟨?_,?_,λq f=>?_,λe d=>?_⟩
 ·rw[List.map_append];refine List.nodup_append.2 ⟨H.nd,jj,λa z c g=>?_⟩;obtain⟨p,n,rfl⟩:=qo.1 z;have g:c=name:=l7
  rw[g];exact s p n
 ·show _=i0 ((m.objs++[_]).mergeSort pV);rw[List.length_mergeSort,qp,qp,H.len];rfl
 ·rcases qw.1 f with f|f
  ·obtain⟨e,d,r,i,v,o,k,x⟩:=H.mem q f;refine⟨e,kE.2 (.inl d),r,i,v,o,k,?_⟩;have:=S.old d;unfold ig;rw[g9 i5];exact x
  ·rw[qx.1 f];refine⟨_,kE.2 (.inr i4),i4,j,w,y,i4,?_⟩;show ig C m.next b m.next=_;unfold ig;rw[g0 rfl];exact l
 ·rw[JP];rcases kE.1 d with d|rfl
  ·cases hg:fF e.name kvs with
   |none=>exact absurd hg (H.all e d)
   |some u=>simp
  ·rw[g0 rfl];cases fF (⟨name,m.next,L,t⟩:Qw.ci).name kvs<;>simp
end
structure Tn (p:Pm) (m:aw) (C:Int->aM) (ds:aC):Prop where
 sto:dX m C ds
 dr:∀k∈m.drives,k<9
 pe:m.p=p
 wt:∀k d,aS ds k=dB d->d.wait=0
section
variable {C:Int->aM}
theorem Tn.kL(W:Tn p m C ds){k:Int}{d:aW}(c:aS ds k=dB d){j:Nat}(f:j<i0 d.l)(e:fC d.l[j]≠none){a b:Int}(g:0<=a/\a<=60):Tn p m C (bV ds k (d.kL j a b)):=
 ⟨W.sto.TS c (PK (W.sto.cells k d c) f e g),W.dr,W.pe,QX W.sto.len c W.wt (by rw[TT];exact W.wt _ _ c)⟩
theorem Tn.put(W:Tn p m C ds)(name:ByteArray)(b:aM):(∃e,e≠0/\cY m 0 Pow.new ds name b=(e,m,Pow.new,ds))∨
  ∃t ds',cY m 0 Pow.new ds name b=(0,dh m ⟨name,m.next,i0 b,t⟩,Pow.new,ds')/\(∀e∈m.objs,e.name≠name)/\Tn p (dh m ⟨name,m.next,i0 b,t⟩) (ig C m.next b) ds':=by
 rcases Jh (offs:=0) (w:=Pow.new) (name:=name) (b:=b) jP W.sto with⟨⟨e,h0,h⟩,_⟩|⟨hr,t,ds',_,h,S,hat⟩
 ·exact .inl ⟨e,h0,h⟩
 ·refine .inr ⟨t,ds',h,λe c f=>(by have h3:=(jO hr).2.2.1;rw[Xu.2 ⟨e,c,f⟩]at h3;cases h3),S,W.dr,W.pe,Xb hat W.wt λk d a=>?_⟩;unfold oU;split
  ·exact QY (Od a)
  ·exact a
theorem Tn.aeB(W:Tn p m C ds){n:aw}(j:bp n=eR)(i:n.seq=m.seq+1)(c:n.p=m.p)(g:m.next<=n.next)(a:∀x∈n.objs,x∈m.objs)(b:∀k∈n.drives,k<9):
  cR m 0 Pow.new ds n=(7,m,Pow.new,ds)∨∃ds',cR m 0 Pow.new ds n=(0,n,Pow.new,ds')/\Tn p n C ds':=by
 rcases TM (offs:=0) (w:=Pow.new) jP W.sto i6 j i c g a with⟨_,h⟩|⟨⟨hl,_⟩,ds',h,S,hat⟩
 ·exact .inl h
 ·exact .inr ⟨ds',h,S,b,c.trans W.pe,Xb (f:=λk d=>if k∈aN ds n.drives then fd (aX n) (cN m d (aX n).length)else d) hat W.wt λk d e=>by
   split
   ·exact QY (Od e)
   ·exact e⟩
theorem Tn.Cu(W:Tn p m C ds)(slot:Int):Tn p m C (mV m 0 Pow.new ds slot).2:=by
 unfold mV;rw[g9 i6];split
 ·exact W
 ·cases hd:aS ds slot with
  |none=>exact W
  |some d=>exact⟨W.sto.TS hd λc a=>qs,W.dr,W.pe,QX W.sto.len hd W.wt i4⟩
theorem Tn.add(W:Tn p m C ds){slot:Int}(u:0<=slot/\slot<9)(cells:Int):∃e g ds',iV m 0 Pow.new ds slot cells=(e,g,Pow.new,ds')/\Tn p g C ds'/\g.objs=m.objs:=by
 unfold iV;rw[g9 i6];split
 ·exact⟨1,m,ds,i4,W,i4⟩
 split
 ·exact⟨4,m,ds,i4,W,i4⟩
 rename_i i;split
 ·exact⟨7,m,ds,i4,W,i4⟩
 rename_i q;have f:∀{o k},aS (ds.set slot.toNat o) k=if k=slot then o else aS ds k:=λ{o k}=>acp (slot:=slot) i5 W.sto.len o k
 have b:∀{o},(∀d,o=dB d->d.l=[]/\d.wait=0)->Tn p m C (ds.set slot.toNat o):=λ{o} ho=>by
  refine⟨⟨W.sto.may,by simp[W.sto.len],λk d a=>?_,W.sto.ents⟩,W.dr,W.pe,λk d a=>?_⟩
  ·rw[f]at a;split at a
   ·rw[(ho d a).1];intro c j;cases j
   ·exact W.sto.cells k d a
  ·rw[f]at a;split at a
   ·exact(ho d a).2
   ·exact W.wt k d a
 have s:=b (o:=dB (aW.new cells.toNat)) λd a=>by injection a with a;subst a;exact⟨i4,i4⟩
 rcases s.aeB (n:=EC m (iA (m.drives++[slot]))) (aco W.sto.may i5 i q) rfl rfl (Int.le_refl _) (λx r=>r) (λk t=>by
  rcases qw.1 ((uv _ _).1 t)with h|h
  ·exact W.dr k h
  ·rw[qx.1 h];omega)with h|⟨ds',h,W'⟩
 ·rw[h]
  try dsimp only
  rw[g0 i4,List.set_set];exact⟨7,m,_,i4,b λd a=>qs,i4⟩
 ·rw[h]
  try dsimp only
  rw[g9 i6];exact⟨0,_,ds',i4,W',i4⟩
theorem Tn.afe(W:Tn p m C ds)(c:∀k d,aS ds k=dB d->i0 d.l<=d.room/\d.room<=512)(t most:Int):(fl m 0 Pow.new ds t most).2.2.1=Pow.new/\Tn p m C (fl m 0 Pow.new ds t most).2.2.2:=by
 by_cases e:(t<0∨t>=(i0 (aN ds m.drives):Int)∨most<0∨most>64)∨iX (i0 (aN ds m.drives):Int) t>4096
 ·have:(fl m 0 Pow.new ds t most).2.2=(Pow.new,ds):=by
   unfold fl;rw[g9 i6];split
   ·rfl
   ·rename_i h;rw[g0 (e.resolve_left h)]
  rw[this];exact⟨i4,W⟩
 ·have b:i0 (aN ds m.drives)<=9:=by
   have:=uk (oQ (ds:=ds) (oC W.sto.may)) (m:=(qt 9).map λi:Nat=>(i:Int)) λk a=>by
    have n:=(iy a).1;have h0:=iB W.sto.may k (FT.1 a).1;have q:=W.dr k (FT.1 a).1;exact qo.2 ⟨k.toNat,qA.2 i5,i5⟩
   simpa using this
  have Z:BG m (aN ds m.drives) ds t most:=⟨i4,b,i5,λh=>e (.inr h),i5,λs o=>iB W.sto.may s (FT.1 o).1⟩
  obtain⟨f,_,K,S,g,_⟩:=Ue Z W.sto c W.wt;exact⟨f,S,W.dr,W.pe,λk d j=>(g k d j).2⟩
theorem Tn.get(W:Tn p m C ds){e:Qw.ci}(a:e∈m.objs):ij m 0 Pow.new ds e.name=(C e.object,0)∨ij m 0 Pow.new ds e.name=([],11):=by
 rw[(W.sto.get i4 e.name).1 e a rfl];cases Ji m ds e
 ·exact .inr (g9 i6)
 ·exact .inl (g0 i4)
end
section
variable {pw:Addr}
def aeC(ds b:aC):Prop:=b=ds∨∃k d,aS ds k=dB d/\∃(j:Nat) (e:j<i0 d.l) (a c:Int),fC d.l[j]≠none/\0<=a/\a<=60/\b=bV ds k (d.kL j a c)
theorem Ol(y:DT)(N:bp m=eR)(J:dn w offs=eS)(E:0<=y.2.2.2.2.2.1/\y.2.2.2.2.2.1<=60)(I:0<=y.2.2.2.2.2.2.1/\y.2.2.2.2.2.2.1<2^32)(hn:0<=y.2.2.2.2.1)
  (H:aa B h0 h (bv a pw da offs w ds m::av b 60 (ey q (dB a))::As)):
  ai xJ 25 #[xB (dB b),BB y] h λv h'=>∃(e:Int) (ds':aC),v=xz xF e/\aeC ds ds'/\
   aa B h0 h' (bv a pw da offs w ds' m::av b 60 (ey q (dB a))::As):=by
 refine ts Tryz.func25 ?_ (.two .n (.two (.join [] [(4,5),(11,23)] .n) (.two (.join [] [(4,5),(23,36)] .n) (.two (.two .n (.inn (.loop [(42,aT)] [(4,5),(6,11),(42,76)] .n))) .n)))) (args:=[(dB b),y]);refine H.boxed λa1 h1 g=>?_;have g:=g.aY.aK 3 [1,2,0];have p:=g.box 1 i4;refine aO ⟨b,i4,dB a,p.cell i4,bc (λe=>j1) λ_=>⟨b,i4,dB a,p.cell i4,(NF g).mono ?_⟩⟩;rintro _ _ ⟨rfl,rfl⟩;refine⟨_,i4,bc (λe=>by rw[J]at e;cases e) λ_=>aO ?_⟩;have u:=g.box 2 i4;refine⟨_,u.cell i4,ae (λe=>absurd e (Int.not_lt.2 E.1)) λ_=>⟨_,u.cell i4,ae (λe=>absurd E.2 (Int.not_le.2 e)) λ_=>⟨_,u.cell i4,bf (λ_=>⟨1,ds,i4,.inl i4,g.aK 3 [0,1]⟩) λhz=>?_⟩⟩⟩;refine⟨b,i4,dB a,p.cell i4,(NE N g).mono ?_⟩;rintro _ h2 ⟨r,rfl,O⟩;refine⟨r,i4,?_⟩;obtain⟨L,K⟩:∃L,L=aN ds m.drives:=⟨_,rfl⟩
 rw[<-K]at O;have H2:=g.bR O;have ab:i0 L<=64:=by rw[K];exact qY (List.length_filter_le _ _) (iH N)
 refine aq (λi:Nat=>(i:Int)) (λi h'=>i<=i0 L/\aa B h0 h' (an 3 r 1 az L::bv a pw da offs w ds m::av b 60 (ey q (dB a))::av a1 37 (mvG y)::As)) (λi=>i0 L-i) 0 i4 ⟨zB _,H2⟩ ?_;rintro i h3 ⟨hi,z⟩
 try dsimp only
 have Y:=(z.own 0 i4).len;refine ae (λe=>?_) λe=>?_
 ·have s:i<i0 L:=by have e':(i:Int)<(r.len:Int):=e;omega
  refine(z.seq 0 i4 λ_=>rfl).bo i i4 s L[i] i4 ?_;refine⟨y.2.2.2.1,(z.box 3 i4).cell i4,bz (λne=>?_) λP=>?_⟩
  ·exact⟨i+1,j0,⟨s,z⟩,i5⟩
  ·rw[P];have hl:y.2.2.2.1∈aN ds m.drives:=by rw[<-K,<-P];exact qf s
   obtain⟨_,d,F,_⟩:=iy hl;have t:=z.aK 4 [1,2,3];refine⟨b,i4,dB a,(t.box 1 i4).cell i4,(DE _ t).mono ?_⟩;rintro _ h3 ⟨rfl,rfl⟩;obtain⟨bd,o⟩:=IY F t;rw[o];obtain⟨T,t1,V,S,R⟩:=FU F o t;refine⟨_,i4,_,(t.box 2 i4).cell i4,?_⟩;obtain⟨j,M⟩:∃j:Nat,y.2.2.2.2.1=(j:Int):=⟨_,(Int.toNat_of_nonneg hn).symm⟩
   rw[M];refine(Vt T t1 (j:Int) V S R.cell).mono ?_;rintro _ W ⟨Q,rfl,x⟩;rw[g0 i5,qj]at x;obtain⟨c,A⟩:∃c,c=d.l.getD j []:=⟨_,rfl⟩
   rw[<-A]at x;have X:i0 c<=64:=by
    by_cases f:j<i0 d.l
    ·rw[A,fh [] f,R.cell _ (qf f)];decide
    ·rw[A,qd,qM i5];decide
   refine⟨Q,i4,(GZ Q c W (x.seq 0 i4 λ_=>rfl) i5 (x.own 0 i4).cap).mono ?_⟩;rintro _ h6 ⟨Q0,U⟩;cases htc:fC c with
   |none=>
    obtain⟨rfl,G⟩:=Q0 htc;have D:=(t.up x.ac).up G.ac;refine⟨(0,⟨none,0,0⟩,eS),i4,aU (λ_=>?_) λe=>j1⟩;exact⟨5,ds,i4,.inl i4,D.aK 3 [0,1]⟩
   |some kx=>
    obtain⟨Z,rfl,G⟩:=U kx.1 kx.2 htc;have D:=(t.up x.ac).up G.ac;refine⟨(kx.1,Z,eR),i4,aU (λe=>j1) λ_=>?_⟩;have f:j<i0 d.l:=by refine Decidable.byContradiction λhx=>?_;rw[A,qd,qM i5]at htc;cases htc
    have k:=D.box 2 i4;refine⟨y.2.2.2.2.1,k.cell i4,y.2.2.2.2.2.1,k.cell i4,y.2.2.2.2.2.2.1,k.cell i4,?_⟩;rw[M];refine(Wv (j:Int) y.2.2.2.2.2.1 y.2.2.2.2.2.2.1 I F o D).mono ?_;rintro _ h7 ⟨rfl,H7⟩;refine⟨_,i4,0,_,i4,.inr ⟨_,d,F,j,f,_,_,?_,E.1,E.2,i4⟩,H7.aK 3 [0,1]⟩;rw[A,fh [] f]at htc;rw[htc];intro h;cases h
 ·exact⟨5,ds,i4,.inl i4,z.aK 4 [1,2]⟩
theorem KZ(y:DT)(r:y.1=11)(p:bp m=eR)(f:dn w offs=eS)(l:0<=y.2.2.2.2.2.1/\y.2.2.2.2.2.1<=60)(d:0<=y.2.2.2.2.2.2.1/\y.2.2.2.2.2.2.1<2^32)(o:0<=y.2.2.2.2.1)
  (H:aa B h0 h (bv a pw da offs w ds m::av b 60 (ey q (dB a))::As)):
  ai xJ 9 #[xB (dB b),BB y] h λv h'=>∃(Y:Bd) (ds':aC),v=CX Y/\aeC ds ds'/\
   aa B h0 h' (bv a pw da offs w ds' m::av b 60 (ey q (dB a))::As):=by
 refine ts Tryz.func9 ?_ (.two .n (.two .n (.two (.join [] [(8,101)] (.two .n (.inn (.two (.join [(11,nV)] [(11,17)] .n) .n)))) .n))) (args:=[(dB b),y]);refine H.boxed λA z g=>?_;have g:=g.aY;refine g.alloc ag i4 λx D c=>bc (λe=>j1) λ_=>?_;have c:=c.aY.aK 4 [2,3,1,0];refine aO ⟨y.1,(c.box 2 i4).cell0 i4,aO ?_⟩;rw[r];refine bf (λe=>absurd e i6) λ_=>bf (λe=>absurd e i6) λ_=>bf (λe=>absurd e i6) λ_=>bf (λe=>absurd e i6) λ_=>?_;refine bc (λe=>j1) λ_=>?_;refine bf (λe=>absurd e i6) λ_=>bf (λe=>absurd e i6) λ_=>bf (λe=>absurd e i6) λ_=>bf (λe=>absurd e i6) λ_=>bf (λe=>absurd e i6) λ_=>bf (λ_=>?_) λe=>absurd i4 e;refine⟨y,(c.box 2 i4).aE _ i4,(Ol y p f l d o c).mono ?_⟩;rintro _ h3 ⟨E,ds',rfl,k,s⟩;refine⟨E,i4,s.gA ag 3 i4 i4 [xz xF E] i4 i4 i4 jj λt i=>?_⟩;refine⟨ga E,(i.box 3 i4).aE (jV (ga E)) i4,i.storeAll ag 3 i4 i4 (jV (ga E)) i4 i4 i4 i4 λu j=>?_⟩;exact⟨ga E,(j.box 3 i4).aE (jV (ga E)) i4,ga E,ds',i4,k,j.aK 4 [0,1]⟩
theorem PZ(y:DT)(j:y.1=9)(i:bp m=eR)(H:aa B h0 h (bv a pw da offs w ds m::av b 60 (ey q (dB a))::As)):
  ai xJ 9 #[xB (dB b),BB y] h λv h'=>v=CX (ga (mV m offs w ds y.2.2.2.1).1)/\
   aa B h0 h' (bv a pw da offs w (mV m offs w ds y.2.2.2.1).2 m::av b 60 (ey q (dB a))::As):=by
 refine ts Tryz.func9 ?_ (.two .n (.two .n (.two (.join [] [(8,101)] (.two .n (.inn (.two (.join [(11,nV)] [(11,17)] .n) .n)))) .n))) (args:=[(dB b),y]);obtain⟨R,l⟩:∃R,R=mV m offs w ds y.2.2.2.1:=⟨_,rfl⟩
 refine H.boxed λt s d=>?_;have d:=d.aY;refine d.alloc ag i4 λr u c=>bc (λe=>j1) λ_=>?_;have c:=c.aY.aK 4 [2,3,1,0];refine aO ⟨y.1,(c.box 2 i4).cell0 i4,aO ?_⟩;rw[j];refine bf (λe=>absurd e i6) λ_=>bf (λe=>absurd e i6) λ_=>bf (λe=>absurd e i6) λ_=>bf (λe=>absurd e i6) λ_=>?_;refine bc (λe=>j1) λ_=>?_;refine bf (λe=>absurd e i6) λ_=>bf (λe=>absurd e i6) λ_=>bf (λe=>absurd e i6) λ_=>bf (λ_=>?_) λe=>absurd i4 e;refine⟨b,i4,dB a,(c.box 1 i4).cell i4,y.2.2.2.1,(c.box 2 i4).cell i4,(ZF y.2.2.2.1 i c).mono ?_⟩;rw[<-l];rintro _ h3 ⟨rfl,k⟩;refine⟨R.1,i4,trivial,k.gA ag 3 i4 i4 [xz xF R.1] i4 i4 i4 jj λo f=>⟨trivial,?_⟩⟩;refine⟨ga R.1,(f.box 3 i4).aE (jV (ga R.1)) i4,f.storeAll ag 3 i4 i4 (jV (ga R.1)) i4 i4 i4 i4 λp g=>?_⟩;exact⟨ga R.1,(g.box 3 i4).aE (jV (ga R.1)) i4,i4,g.aK 4 [0,1]⟩
end
def Om{α:Type}(le:α->α->Bool)(a:α):List α->List α
 |[]=>[a]
 |b::l=>if le a b then a::b::l else b::Om le a l
def Ij{α:Type}(le:α->α->Bool):List α->List α
 |[]=>[]
 |a::l=>Om le a (Ij le l)
theorem On{α:Type}{le:α->α->Bool}{a:α}{l2:List α}(d:∀c∈l2,le a c=eR):∀l1:List α,(∀b∈l1,¬le a b=eR)->Om le a (l1++l2)=l1++a::l2
 |[],_=>by
  cases l2 with
  |nil=>rfl
  |cons c l=>exact g0 (d c qF)
 |b::l,h=>by
  show(if le a b then a::b::(l++l2)else b::Om le a (l++l2))=_;rw[g9 (h b qF),On d l λc e=>h c (qz _ e)];rfl
theorem Rb{α:Type}{le:α->α->Bool}(o:Ord le):∀l:List α,l.mergeSort le=Ij le l
 |[]=>by simp[Ij]
 |a::l=>by
  obtain⟨l1,l2,g,e,h⟩:=List.mergeSort_cons o.trans o.total a l;have d:=List.pairwise_mergeSort o.trans o.total (a::l);rw[g]at d⊢;show _=Om le a (Ij le l);rw[<-Rb o l,e,On (λc f=>((List.pairwise_append.1 d).2.1.imp λh=>h)|>λk=>(List.pairwise_cons.1 k).1 c f) l1 λb i=>by simpa using h b i]
theorem afD:Ord (λx y:Int=>decide (x<=y)):=⟨λa b c e d=>by simp at*;omega,λa b=>i9⟩
def Ug(n:Nat)(seed id:Int):au:=Ij (λx y=>decide (x<=y)) ((go n (rZ (rZ (ro seed id))) (upto n) (uw (rZ (ro seed id)) n)).2.take (uw (rZ (ro seed id)) n))
theorem aeD(n:Nat)(seed:Int):mq n seed=λid=>fW n (Ug n seed id):=funext λid=>by
 unfold mq cW AK iA Ug;rw[Rb afD]
def Uh(p:Int×Int×Int)(o b:Int)(k:Nat):Bool:=bx p&&(((bL (if bx p then bn p.1.toNat p.2.1.toNat++((eF p).filter bJ).map (λid=>fW (bu p).toNat (Ug (bu p).toNat (cb o b k) id))else[]):Nat):Int)==bu p)
theorem aeE(p:Int×Int×Int)(o b:Int):Bh p o b=Uh p o b:=funext λk=>by
 unfold Bh fq mM dE Uh;rw[aeD]
abbrev Cgq:Int×Int×Int:=(1,1,4)
theorem acs:(ma Cgq 0 0).isSome=eR:=by
 unfold ma;rw[aeE,List.find?_isSome];have h:(qt 16).any (Uh Cgq 0 0)=eR:=j4
 exact zY.1 h
abbrev Gi:ByteArray:=⟨#[97]⟩
def iz:aw:=cC Cgq 2 [20,20]
theorem ZO{D:aC}(q:i0 D=64)(v:∀s,aS D s=if s∈be [20,20] 2 then dB ⟨(([20,20]:au).getD s.toNat 0).toNat,aX iz,0,[],eS,eS⟩else none):
  ∃(n:aw) (ds':aC),cY iz 0 Pow.new D Gi [97,98,99]=(0,n,Pow.new,ds')/\bp n=eR/\ij n 0 Pow.new ds' Gi=([97,98,99],0):=by
 have E:pH Cgq 2 [20,20]=0:=j4
 obtain⟨S,F,L⟩:=Ky (m:=iz) rfl E i6 q v λ_=>[];have g:iz.drives=[0,1]:=j4
 have I:Inv iz (λ_=>[]) D 0:=⟨S,F,L,λe z=>(by cases z),(by rw[g];decide),i6,i6⟩
 have d:aN D iz.drives=iz.drives:=F.aN;have j:de iz (dn Pow.new 0) D Gi 3=0:=by unfold de;rw[d,g,g9 i6,g9 j4,g9 i6,g9 i6,g9 i6]
 have l:i0 (aX iz)=1:=j4
 have f:i0 (splitB iz.p [97,98,99])=1:=j4
 rcases I.put (name:=Gi) (b:=[97,98,99]) qF with⟨e,hne,hq⟩|⟨_,t,ds',_,hq,I'⟩
 ·exfalso;rcases Jh (offs:=0) (name:=Gi) (b:=[97,98,99]) jP S with⟨⟨e',hne',hq'⟩,hcode⟩|⟨_,t,ds',_,hq2,_,_⟩
  ·rw[hq']at hcode;dsimp only at hcode;rcases hcode with h|⟨_,⟨_,h⟩|⟨_,t,ht,hf⟩⟩
   ·exact hne' (h.trans j)
   ·rw[f]at h;have x:=acs;have u:cA iz.p iz.next 1=(ma Cgq 0 0).map λt=>[(t:Int)]:=by show(dB []).bind _=_;rfl
    rw[u]at h;cases hh:ma Cgq 0 0 with
    |none=>rw[hh]at x;cases x
    |some t=>rw[hh]at h;cases h
   ·obtain⟨_,G⟩:=Kh (m:=iz) (offs:=0) (w:=Pow.new) (ds:=D) (name:=Gi) (b:=[97,98,99]) jP S.len S.may;obtain⟨o,_,_⟩:=(G j).2 t ht;rw[(roomy (m:=iz) (w:=Pow.new) (live:=aN D iz.drives) (ds:=D) λk y=>?_).1]at hf
    ·cases hf
    ·have a:=acj (m:=iz) (t:=t) (b:=[97,98,99]) (live:=aN D iz.drives) o k (nb:=i0 (splitB iz.p [97,98,99])) (c:=1) (by rw[f];exact qk _);have i:k∈be [20,20] 2:=by rw[d]at y;exact y
     refine⟨_,by rw[v,g0 i],i4,a.1,?_⟩;have B:(9+1*(iz.p.1+iz.extra).toNat:Nat)=12:=i6
     have u:=a.2;rw[B]at u;have r:((([20,20]:au).getD k.toNat 0).toNat:Int)=20:=by
      have:∀k∈be [20,20] 2,((([20,20]:au).getD k.toNat 0).toNat:Int)=20:=j4
      exact this k i
     show(i0 (aX iz):Int)+_<=((([20,20]:au).getD k.toNat 0).toNat:Int);rw[r,l];omega
  ·rw[hq2]at hq;exact hne (congrArg qL hq).symm
 ·have a:=I'.get (e:=⟨Gi,iz.next,(3:Nat),t⟩) (kE.2 (.inr i4));refine⟨_,ds',hq,I'.sto.may,?_⟩;have A:ig (λ_=>[]) iz.next [97,98,99] iz.next=[97,98,99]:=by unfold ig;simp
  dsimp only at a;rw[A]at a;exact a
theorem Xv:Tryz.prog.underlying 30=dB (.map 9 34):=j3
theorem aff:Tryz.prog.underlying 9=dB .string:=j3
abbrev Oo:ByteArray:=⟨#[97]⟩
theorem Qa(h:Heap):ai xJ 12 #[] h λv h'=>v=xD eR/\aP (λb=>b<h.size) h h':=by
 refine ts Tryz.func12 ?_ (.two .n (.two .n (.two (.join [] [(0,1),(10,16)] .n) .n)));refine(Sp.refl h).lit ag az gy i4 [20,20] i4 (show 2*1<=2^20 by decide) i4 λf E A=>?_;refine(DU (1,1,4) 2 f [20,20] (As:=[an 3 f 1 az [20,20]]) (St.ee 0 i4 λh' g=>g.1.seq (λ_=>rfl) g.2) i6 j4 A).mono ?_;rintro _ F ⟨b,a,pw,da,D,rfl,j,x,z⟩;obtain⟨p,ds',c,l,d⟩:=ZO j x;refine⟨(dB b,0),i4,aO (bz (λe=>absurd i4 e) λ_=>bc (λe=>j1) λ_=>?_)⟩;refine z.lit ag aB gp i4 [97,98,99] i4 (show 3*1<=2^20 by decide) i4 λm h3 s=>?_;have i:=(s.own 3 i4).cap;refine s.b2b ag 3 i4 ⟨_,i4,i4⟩ ⟨_,i4,i4⟩ λu o=>?_;have o:Sp h u (bv a pw da 0 Pow.new D iz::av b 60 (ey (dB pw) (dB a))::[an 3 f 1 az [20,20],pm m 1 aB [97,98,99]]):=o;have k:bp iz=eR:=j4
 have P:=HX (As:=[an 3 f 1 az [20,20],pm m 1 aB [97,98,99]]) (1,Oo,m,0,0,0,0,fj,fj) i4 [97,98,99] (St.ee 1 i4 λh' g=>g) i (show Oo.size<=2^40 by decide) k i6 o;dsimp only at P;rw[show cY iz 0 Pow.new D Oo [97,98,99]=(0,p,Pow.new,ds')from c]at P;refine P.mono ?_;rintro _ B ⟨rfl,t⟩;refine⟨ga 0,i4,bf (λ_=>?_) λe=>absurd i4 e⟩;have G:=HZ (2,Oo,fj,0,0,0,0,fj,fj) i4 l t;dsimp only at G;rw[show ij p 0 Pow.new ds' Oo=([97,98,99],0)from d]at G;refine G.mono ?_;rintro _ w ⟨r,rfl,q⟩;refine⟨((0,r,fj,0,0,0,fj,0):Bd),i4,?_⟩;have y:Rd w r 1 aB [97,98,99]:=q.at 0 i4;refine IE ag ⟨_,i4,i4⟩ ⟨_,i4,i4⟩ ⟨_,i4,i4⟩ y ?_;exact⟨congrArg Value.bool (beq_self_eq_true Vp.toList),(t.up q.ac).ac⟩
abbrev rG(s:Sl):Value:=xA s.ptr s.len s.cap
def BH(l:au)(a:Int):au:=(BA l).map λx=>x+a
theorem Oq(G:Sl)(l:au)(c:Int)(h:Heap)(hm:0<=c/\c<=200)(hs:Rd h G 1 az l):
  ai xJ 5 #[G,xz xF c] h λv h'=>∃(b a pw:Addr) (da:List bK) (D:aC),v=.tuple #[xB (dB b),jv (jQ l)]/\D.length=64/\
   (∀s,aS D s=if s∈be (BH l c) (BH l c).length then dB ⟨((BH l c).getD s.toNat 0).toNat,aX (cC (jQ l) (DS l) (BH l c)),0,[],eS,eS⟩else none)/\
   pH (jQ l) (DS l) (BH l c)=0/\(BH l c).length<=5/\
   Sp h h' [bv a pw da 0 Pow.new D (cC (jQ l) (DS l) (BH l c)),av b 60 (ey (dB pw) (dB a))]:=by
 refine ts Tryz.func5 ?_ (.two .n (.two .n (.two (.two .n (.inn (.loop [(20,aT)] [(9,10),(20,33)] .n))) .n)));refine(Sp.refl h).alloc ag i4 λJ T P=>?_;refine(PH G l T (hs.up P.ac)).mono ?_;rintro _ h2 ⟨r,rfl,O⟩;obtain⟨p,k⟩:∃p,p=jQ l:=⟨_,rfl⟩
 obtain⟨E,H⟩:∃E,E=DS l:=⟨_,rfl⟩
 obtain⟨L,t⟩:∃L,L=BA l:=⟨_,rfl⟩
 have Q:bx p=eR:=by rw[k];exact Ki _ _ _
 have U:0<=E/\E<=6:=by rw[H];unfold DS;omega
 have Z:2<=i0 L/\L.length<=5:=by rw[t,NZ];exact QW l
 have o:∀x∈L,8<=x/\x<58:=λx f=>by
  rw[t]at f;obtain⟨i,_,rfl⟩:=qo.1 f;omega
 unfold BH;rw[<-k,<-H,<-t];rw[<-t]at O;have V:=P.comp O;refine⟨(p,E,r),i4,V.alloc ag i4 λa3 h3 H3=>?_⟩;refine H3.storeAll ag 2 i4 i4 [xz xF p.1,xz xF p.2.1,xz xF p.2.2] i4 i4 i4 i4 λh4 H4=>?_;obtain⟨M,q⟩:∃M,M=L.map λx=>x+c:=⟨_,rfl⟩
 rw[<-q];have F:i0 M=i0 L:=by rw[q,qy]
 have z:∀x∈M,1<=x/\x<=512:=λx f=>by
  rw[q]at f;obtain⟨y,hy,rfl⟩:=qo.1 f;have:=o y hy;omega
 obtain⟨N,X⟩:=ack (extra:=E) Q i5 (show 1<=i0 M/\M.length<=24 by omega) z;refine aq (λi:Nat=>(i:Int)) (λi h'=>i<=i0 L/\Sp h h' [av J 25 [xz xF 0,xz xF 0,xz xF 0],an 3 r 1 az (M.take i++L.drop i),av a3 25 [xz xF p.1,xz xF p.2.1,xz xF p.2.2]]) (λi=>i0 L-i) 0 i4 ⟨zB _,H4⟩ ?_;rintro i h5 ⟨hi,g⟩
 try dsimp only
 have A:=(g.own 1 i4).len;have w:i0 (M.take i++L.drop i)=i0 L:=by rw[qp,qP,List.length_drop];omega
 rw[w]at A;refine ae (λe=>?_) λe=>?_
 ·have d:i<i0 L:=by have Y:(i:Int)<(r.len:Int):=e;omega
  have R:(M.take i++L.drop i)[i]'(by omega)=L[i]:=by rw[List.getElem_append_right m7];rw[List.getElem_drop];congr 1;rw[qP];omega
  refine(g.seq 1 i4 λ_=>rfl).bo i i4 i5 L[i] (by rw[R];rfl) ?_;have f:=o L[i] (qf d);rw[af _];refine g.set ag 1 i4 (λ_=>rfl) i4 i i4 i5 (L[i]+c) i4 i4 i4 λS j=>?_;refine⟨i+1,j0,⟨d,?_⟩,i5⟩;have m:(M.take i++L.drop i).set i (L[i]+c)=M.take (i+1)++L.drop (i+1):=by
   have B:M[i]'(by omega)=L[i]+c:=by simp[q]
   rw[List.set_append_right _ _ m7,aD _ _,B,List.drop_eq_getElem_cons d,qP];rw[show i-min i M.length=0 by omega,List.set_cons_zero,List.append_assoc];rfl
  rw[m]at j;exact j
 ·have Y:¬(i:Int)<(r.len:Int):=e;have u:i=i0 L:=i5
  rw[u,List.drop_length,qH,<-F,List.take_length]at g;refine⟨p,(g.box 2 i4).aE _ i4,?_⟩;refine(DU p E r M (As:=[av J 25 [xz xF 0,xz xF 0,xz xF 0],an 3 r 1 az M,av a3 25 [xz xF p.1,xz xF p.2.1,xz xF p.2.2]]) (St.ee 1 i4 λh' I=>I.1.seq (λ_=>rfl) I.2) i5 N g).mono ?_;rintro _ S ⟨b,a,pw,da,D,rfl,f2,W,j⟩;refine⟨(dB b,0),i4,bz (λe=>absurd i4 e) λ_=>?_⟩;refine⟨p,(j.box 4 i4).aE _ i4,?_⟩;refine j.storeAll ag 2 i4 i4 [xz xF p.1,xz xF p.2.1,xz xF p.2.2] i4 i4 i4 i4 λh7 K=>?_;refine⟨trivial,p,(K.box 2 i4).aE _ i4,b,a,pw,da,D,i4,f2,W,N,i5,K.aK 5 [0,1]⟩
theorem EH(c0:Sl)(l:au)(s1:Sl)(l1:au)(s2:Sl)(l2:au)(x:Int)(h:Heap)(hs:Rd h c0 1 az l)(ax:Rd h s1 1 az l1)(a8:Rd h s2 1 az l2):
  ai xJ 3 #[c0,s1,s2,xz xF x] h λv h'=>v=xD eR/\aP (λb=>b<h.size) h h':=by
 refine rQ c0 s1 s2 x ?_;refine(Oq c0 l 60 h i6 hs).mono ?_;obtain⟨p,V⟩:∃p,p=jQ l:=⟨_,rfl⟩
 have hp:bx p=eR:=by rw[V];exact Ki _ _ _
 have ao:p.1<=6/\p.2.2<=9:=by rw[V];unfold jQ Au;(try dsimp only);omega
 have b9:=(bN p).1 hp;have cn:p.1*p.2.2<=6*9:=Int.mul_le_mul ao.1 ao.2 i5 i5;rintro _ h1 ⟨b,a,pw,da,D0,rfl,f2,f3,e0,bl,H1⟩;obtain⟨L,hL⟩:∃L,L=BH l 60:=⟨_,rfl⟩
 rw[<-hL,<-V]at f3 e0 H1;rw[<-hL]at bl;rw[<-V];refine⟨(dB b,p),i4,H1.alloc ag i4 λa2 h2 H2=>?_⟩;refine H2.storeAll ag 2 i4 i4 [xz xF p.1,xz xF p.2.1,xz xF p.2.2] i4 i4 i4 i4 λh3 H3=>?_;have I0:Tn p (cC p (DS l) L) (λ_=>[]) D0:=by
  obtain⟨S0,_,_⟩:=Ky (m:=cC p (DS l) L) rfl e0 i5 f2 f3 λ_=>[];refine⟨S0,λk hk=>?_,i4,λk d F=>?_⟩
  ·have hk:k∈be L L.length:=hk;obtain⟨i,hi,rfl⟩:=qo.1 (qC.1 (show k∈List.filter _ _ from hk)).1;have:=qA.1 hi;omega
  ·rw[f3]at F;split at F
   ·injection F with F;rw[<-F]
   ·cases F
 refine aO (bc (λe=>j1) λ_=>?_);refine(PI (H3.box 1 i4)).mono ?_;rintro _ h4 ⟨rfl,rfl⟩;refine⟨dB a,i4,bc (λe=>j1) λ_=>?_⟩;refine H3.adt rG λy h5 H5=>?_;refine⟨p,(H5.box 2 i4).aE _ i4,?_⟩;refine(TR p s1 l1 8 h5 hp (ax.up H5.ac) i6).mono ?_;rintro _ h6 ⟨r,c,rfl,hM,ca,R6⟩;obtain⟨rs,R6⟩:=R6.IB 0 rfl λ_=>rfl;have H6:=H5.comp R6;have H6:=H6.bX [0,1,4,3];refine⟨r,i4,?_⟩;have U:rs.length=c.length:=(H6.eu 2 i4).2.1;have cp:r.len=c.length:=by rw[(H6.eu 2 i4).1.len,U]
 refine aq (λi:Nat=>(i:Int)) (λi h'=>i<=c.length/\∃da ds m C kvs,Tn p m C ds/\nv m C rs c kvs/\Sp h h' [bv a pw da 0 Pow.new ds m,av b 60 (ey (dB pw) (dB a)),cJ gv 9 jB r rs c,lC y rG kvs]) (λi=>c.length-i) 0 i4 ⟨i5,da,D0,_,_,[],I0,⟨List.Pairwise.nil,i4,λq H=>(by cases H),λe N=>(by cases N)⟩,H6⟩ ?_;rintro i h7 ⟨hi,da,ds,m,C,kvs,I,G,H7⟩
 try dsimp only
 refine ae (λe=>?_) λe=>?_
 rotate_left
 ·refine(Qa h7).mono ?_;rintro _ cl ⟨rfl,R⟩;exact⟨eR,i4,i4,(H7.up R).ac⟩
 have J:i<c.length:=i5
 have hF:=H7.eu 2 i4;have ar:i<rs.length:=i5
 have next:∀{h':Heap} {M:List bK} {ds':aC} {X:aw} {C':Int->aM} {E:List (ByteArray×Sl)} {am:List HP},Tn p X C' ds'->nv X C' rs c E->Sp h h' (bv a pw M 0 Pow.new ds' X::av b 60 (ey (dB pw) (dB a))::cJ gv 9 jB r rs c::lC y rG E::am)->
   ∃t:Nat,(qe xF ((i:Int)+1):Int)=(t:Int)/\(t<=c.length/\∃da ds m C kvs,Tn p m C ds/\nv m C rs c kvs/\Sp h h' [bv a pw da 0 Pow.new ds m,av b 60 (ey (dB pw) (dB a)),cJ gv 9 jB r rs c,lC y rG kvs])/\c.length-t<c.length-i:=λ{h' M ds' X C' E am} I' ad H'=>
  ⟨i+1,j0,⟨i5,M,ds',X,C',E,I',ad,aa.nB (As:=[_,_,_,_]) (H'.aK 4 [0,1,2,3])⟩,i5⟩
 refine hF.1.dY i i4 ar rs[i] i4 ?_;refine H7.alloc ag i4 λab h9 H9=>?_;refine H9.storeAll ag 4 i4 i4 (jB rs[i]) i4 i4 i4 i4 λb1 B=>?_;have hb:=B.box 4 i4;obtain⟨⟨k1,k2,k3,k4,k5,k6,kc⟩,kd,_,_⟩:=Fix.row (B.eu 2 rfl) J;have hk:oW p c[i]:=hM _ (qf J);have D:=I.sto.may;have U:=λk d F=>(mE B).2 k d F;refine bE (λ_ h'=>h'=b1/\(rs[i].1=1∨rs[i].1=10∨rs[i].1=6)) ?_ ?_
 ·exact⟨rs[i].1,hb.cell0 i4,bz (λ_=>⟨rs[i].1,hb.cell0 i4,bz (λ_=>⟨rs[i].1,hb.cell0 i4,bz (λ_=>next I G B) λe=>⟨i4,.inr (.inr e)⟩⟩) λe=>⟨i4,.inr (.inl e)⟩⟩) λe=>⟨i4,.inl e⟩⟩
 rintro _ b5 ⟨rfl,Z⟩;refine bE (λ_ h'=>∃da ds m C kvs,Tn p m C ds/\nv m C rs c kvs/\Sp h h' [bv a pw da 0 Pow.new ds m,av b 60 (ey (dB pw) (dB a)),cJ gv 9 jB r rs c,lC y rG kvs]) ?_ ?_
 ·refine⟨rs[i],hb.aE _ i4,?_⟩;unfold oW at hk;rw[<-k1]at hk;rcases Z with e1|e1|e1
  ·obtain⟨n1,n2⟩:=oW.put (hM _ (qf J)) (k1.symm.trans e1);refine(HX (As:=[cJ gv 9 jB r rs c,lC y rG kvs,av ab 37 (jB rs[i])]) rs[i] e1 c[i].data (St.ee (A:=cJ gv 9 jB r rs c) 0 i4 λh' H=>(Fix.row H J).2.1) kc (by rw[k2];have:=ZE _ n1;omega) D i5 B).mono ?_;rw[k2];rintro _ O ⟨rfl,o⟩;rcases I.put c[i].name c[i].data with⟨e,h0,H⟩|⟨t,ds',H,hnew,I'⟩
   ·rw[H]at o⊢;refine⟨ga e,i4,bf (λh=>absurd h h0) λ_=>?_⟩;exact⟨da,ds,m,C,kvs,I,G,aa.nB (As:=[_,_,_,_]) (o.aK 4 [0,1,2,3])⟩
   ·rw[H]at o⊢;have w:=o.box 4 i4;refine⟨ga 0,i4,bf (λ_=>?_) λe=>absurd i4 e⟩;refine⟨rs[i].1,w.cell0 i4,bf (λ_=>?_) λe=>absurd e1 e⟩;refine⟨rs[i].2.1,w.cell i4,rs[i].2.2.1,w.cell i4,?_⟩;refine o.adu rs[i].2.2.1 3 i4 Xv aff λc1 a5=>?_;refine⟨da,ds',_,_,pW rs[i].2.1 rs[i].2.2.1 kvs,I',?_,aa.nB (As:=[_,_,_,_]) (a5.aK 4 [0,1,2,3])⟩;rw[k2];refine G.put I.sto ?_ ar J i4;cases hg:fF c[i].name kvs with
    |none=>rfl
    |some s=>
     obtain⟨e,N,W,_⟩:=G.some hg;exact absurd W (hnew e N)
  ·refine(Oj (As:=[cJ gv 9 jB r rs c,lC y rG kvs,av ab 37 (jB rs[i])]) rs[i] e1 D (by rw[k4];omega) B).mono ?_;rintro _ O ⟨⟨Y,rfl⟩,o⟩;obtain⟨g1,I'⟩:=I.afe (λk d F=>⟨(U k d F).1,(U k d F).2.1⟩) rs[i].2.2.2.2.1 rs[i].2.2.2.2.2.1;rw[g1]at o;have w:=o.box 4 i4;have fin:∃da ds m C kvs,Tn p m C ds/\nv m C rs c kvs/\Sp h O [bv a pw da 0 Pow.new ds m,av b 60 (ey (dB pw) (dB a)),cJ gv 9 jB r rs c,lC y rG kvs]:=⟨da,_,m,C,kvs,I',G,aa.nB (As:=[_,_,_,_]) (o.aK 4 [0,1,2,3])⟩
   refine⟨Y,i4,bf (λ_=>?_) λ_=>fin⟩;exact⟨rs[i].1,w.cell0 i4,bf (λe=>by rw[e1]at e;cases e) λ_=>fin⟩
  ·refine(Uf (As:=[cJ gv 9 jB r rs c,lC y rG kvs,av ab 37 (jB rs[i])]) rs[i] e1 D B).mono ?_;rintro _ O ⟨rfl,M,o⟩;obtain⟨e,X,ds',H,I',ho⟩:=I.add (slot:=rs[i].2.2.2.1) (by rw[k3];omega) rs[i].2.2.2.2.1;rw[H]at o⊢;have w:=o.box 4 i4;have ad:nv X C rs c kvs:=⟨G.nd,by rw[ho];exact G.len,λq H=>by rw[ho];exact G.mem q H,λe N=>by rw[ho]at N;exact G.all e N⟩
   have fin:∃da ds m C kvs,Tn p m C ds/\nv m C rs c kvs/\Sp h O [bv a pw da 0 Pow.new ds m,av b 60 (ey (dB pw) (dB a)),cJ gv 9 jB r rs c,lC y rG kvs]:=⟨M,ds',X,C,kvs,I',ad,aa.nB (As:=[_,_,_,_]) (o.aK 4 [0,1,2,3])⟩
   refine⟨ga e,i4,bf (λ_=>?_) λ_=>fin⟩;exact⟨rs[i].1,w.cell0 i4,bf (λe=>by rw[e1]at e;cases e) λ_=>fin⟩
 rintro _ c2 ⟨da,ds,m,C,kvs,I,G,ay⟩;refine aq (λk:Nat=>(k:Int)) (λk h'=>k<=6/\∃ds,Tn p m C ds/\Sp h h' [bv a pw da 0 Pow.new ds m,av b 60 (ey (dB pw) (dB a)),cJ gv 9 jB r rs c,lC y rG kvs]) (λk=>6-k) 0 i4 ⟨i5,ds,I,ay⟩ ?_;rintro k b0 ⟨cd,ds,I,P⟩
 try dsimp only
 have D:=I.sto.may;refine ae (λe=>?_) λe=>?_
 ·rw[show qe xF (qe xF (6*(i:Int))+(k:Int))=((6*i+k:Nat):Int)by rw[af (6*(i:Int)),af _];omega];refine(nL s2 l2 (6*i+k) b0 (a8.up P.ac)).mono ?_;rintro _ _ ⟨rfl,rfl⟩;obtain⟨z,hz⟩:∃z,z=oV l2 (6*i+k):=⟨_,rfl⟩
  rw[<-hz];refine⟨z,i4,(bQ z 6 _).mono ?_⟩;rintro _ _ ⟨rfl,rfl⟩;refine⟨_,i4,i6,(bQ _ 60 _).mono ?_⟩;rintro _ _ ⟨rfl,rfl⟩;refine⟨_,i4,i6,(bQ _ 61 _).mono ?_⟩;rintro _ _ ⟨rfl,rfl⟩;refine⟨_,i4,?_⟩;obtain⟨u,hu⟩:∃u,u=qe xH (qe xH (qe xH z*2654435761)+qe xH x):=⟨_,rfl⟩
  have bq:0<=u/\u<2^32:=by rw[hu,wrap_u32];omega
  rw[<-hu];refine(KZ (As:=[cJ gv 9 jB r rs c,lC y rG kvs]) (11,lM,fj,z%6,qe xF (yn z 6)%60,qe xF (yn z 360)%61,u,fj,fj) i4 D i4 i7 bq i7 P).mono ?_;rintro _ b7 ⟨Y,ds',rfl,ah,a9⟩;refine⟨Y,i4,k+1,j0,⟨i5,ds',?_,a9⟩,i5⟩;rcases ah with rfl|⟨k,d,F,j,hj,a,mask,hg,ha0,ha6,rfl⟩
  ·exact I
  ·exact I.kL F hj hg ⟨ha0,ha6⟩
 refine bE (λ_ h'=>∃ds,Tn p m C ds/\Sp h h' [bv a pw da 0 Pow.new ds m,av b 60 (ey (dB pw) (dB a)),cJ gv 9 jB r rs c,lC y rG kvs]) ?_ ?_
 ·refine(bQ _ 7 _).mono ?_;rintro _ _ ⟨rfl,rfl⟩;refine⟨_,i4,bf (λ_=>?_) λ_=>⟨ds,I,P⟩⟩;refine⟨i6,(bQ _ 4 _).mono ?_⟩;rintro _ _ ⟨rfl,rfl⟩;refine⟨_,i4,?_⟩;refine(PZ (As:=[cJ gv 9 jB r rs c,lC y rG kvs]) (9,lM,fj,qe xF (yn x 7)%4,0,0,0,fj,fj) i4 D P).mono ?_;rintro _ b3 ⟨rfl,bs⟩;exact⟨ga _,i4,_,I.Cu _,bs⟩
 rintro _ b2 ⟨ds,I,bd⟩;refine bd.adv 3 i4 Xv λrr n c4 bb=>⟨⟨rr,0,none⟩,i4,?_⟩
 refine aq (λ_:Nat=>()) (λn h'=>∃st,Sp h h' [bv a pw da 0 Pow.new ds m,av b 60 (ey (dB pw) (dB a)),cJ gv 9 jB r rs c,FF rr y rG kvs n st]) (λn=>n) n i4 ⟨_,bb⟩ ?_;rintro n cq ⟨st,bk⟩
 try dsimp only
 refine bk.abB 3 i4 (λK=>⟨eS,[],i4,bc (λe=>j1) λ_=>next I G K⟩) λk u cf n' al hn K=>⟨eR,_,i4,bc (λ_=>?_) λe=>j1⟩
 refine K.Yx 3 i4 λk u al=>⟨(k,u),i4,?_⟩
 obtain⟨e,N,W,j,cr,a7,ap,br⟩:=G.mem _ al;dsimp only at W ap;refine(HZ (As:=[cJ gv 9 jB r rs c,FF rr y rG kvs n' eR]) (2,k,fj,0,0,0,0,fj,fj) i4 D K).mono ?_
 try dsimp only
 rw[<-W];rintro _ b6 ⟨g,rfl,a3⟩;obtain⟨Y,hY⟩:∃Y:Bd,Y=((ij m 0 Pow.new ds e.name).2,g,fj,0,0,0,fj,0):=⟨_,rfl⟩
 rw[<-hY];have a4:=K.comp a3;refine⟨Y,i4,a4.alloc ag i4 λb4 cs a6=>?_⟩;refine a6.storeAll ag 5 i4 i4 (jV Y) i4 i4 i4 i4 λQ T=>?_;have f:=T.box 5 i4;have fin:∃t:Nat,(():Unit)=()/\(∃st,Sp h Q [bv a pw da 0 Pow.new ds m,av b 60 (ey (dB pw) (dB a)),cJ gv 9 jB r rs c,FF rr y rG kvs t st])/\t<n:=⟨n',i4,⟨eR,aa.nB (As:=[_,_,_,_]) (T.aK 4 [0,1,2,3])⟩,hn⟩
 have S:Rd Q g 1 aB (ij m 0 Pow.new ds e.name).1:=T.at 4 i4;rcases I.get N with hg|hg
 ·rw[hg]at hY S;have a1:Rd Q u 1 aB (C e.object):=by rw[ap,br];exact(Fix.row (T.eu 2 i4) a7).2.1
  have a0:(C e.object).length<=2^40:=by have:=(I.sto.ents _ N).1;have:=((iS m _).1 (I.sto.entry N)).2.2.1;rw[I.pe]at this;omega
  rw[hY]at f;refine⟨0,f.cell0 i4,bf (λ_=>?_) λe=>absurd i4 e⟩;refine⟨g,f.cell i4,(SG g u _ _ Q S a1 a0).mono ?_⟩;rintro _ cc ⟨rfl,rfl⟩;refine⟨_,i4,bc (λe=>by simp at e) λ_=>?_⟩;exact⟨0,f.cell0 i4,bz (λe=>absurd i4 e) λ_=>fin⟩
 ·rw[hg]at hY S;rw[hY]at f;refine⟨11,f.cell0 i4,bf (λe=>absurd e i6) λ_=>?_⟩;refine⟨11,f.cell0 i4,bz (λ_=>?_) λe=>absurd e i6⟩;refine⟨11,f.cell0 i4,bz (λe=>absurd i4 e) λ_=>?_⟩;exact⟨g,f.cell i4,ae (λe=>by have:=S.len;simp at this;omega) λ_=>fin⟩
end Go.Qw
