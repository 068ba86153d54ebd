/- Lemmas for the proof of the law; no condition. -/
import Derived.Test.YtcjnjifdphcijaaGreatDoorTKD
set_option maxHeartbeats 2000000
set_option linter.unusedVariables false
set_option maxHeartbeats 4000000
set_option linter.unusedSimpArgs false
open Go.Proofs.Tryz renaming prog -> xJ
open Go.Value renaming agg -> xE, bool -> xD, int -> xz, pointer -> xB, slice -> xA
open Go.IntKind renaming i64 -> xF, u32 -> xH, wrap -> qe
open List renaming getElem_range -> vh, mem_flatten -> vt, range -> qt
open Go.Instr renaming storeAt -> qE
set_option maxRecDepth 100000
open Option renaming some -> dB, none -> eH
open Bool renaming true -> eR
open Go renaming Addr -> f7
open Go.Qw renaming Heap -> f9
open List renaming length -> i0
namespace Go.Qw
open Go.Proofs
variable {B:ak} {h0 h:f9} {As:List HP} {a v:f7} {offs:Int} {da:List bK} {w:Pow} {ds:aC} {mc:aR}
section
variable {pw:f7}
end
def mV(m:aw)(offs:Int)(w:Pow)(ds:aC)(slot:Int):Int×aC:=
 if dn w offs then(14,ds)else if slot∉aN ds m.drives then(5,ds)else
 match aS ds slot with
 |some d=>(0,bV ds slot d.Cu)
 |none=>(5,ds)
variable {m:aw}
section
variable {pw:f7}
theorem ZF(slot:Int)(j:bp m=eR)(H:aa B h0 h (bv a pw da offs w ds m::As)):
  ai xJ 23 #[xB (dB a),xz xF slot] h λv h'=>v=xz xF (mV m offs w ds slot).1/\aa B h0 h' (bv a pw da offs w (mV m offs w ds slot).2 m::As):=by
 obtain⟨x,H⟩:=gE H;by_cases g:dn w offs=eR∨slot∉aN ds m.drives
 ·refine(NA slot x m (H.at 1 i4) (jD j) H g).mono ?_;rintro _ h' ⟨rfl,R⟩;by_cases b:dn w offs=eR
  ·have e:mV m offs w ds slot=(14,ds):=by unfold mV;rw[g0 b]
   rw[e,g0 b];exact⟨i4,kG (H.up R.ac)⟩
  ·have i:slot∉aN ds m.drives:=g.resolve_left b;have e:mV m offs w ds slot=(5,ds):=by unfold mV;rw[g9 b,g0 i]
   rw[e,g9 b];exact⟨i4,kG (H.up R.ac)⟩
 ·have b:¬dn w offs=eR:=λh=>g (.inl h);have i:¬slot∉aN ds m.drives:=λh=>g (.inr h);have f:slot∈aN ds m.drives:=Decidable.not_not.1 i;obtain⟨q,d,c,h3⟩:=iy f;obtain⟨n,rfl,p⟩:=jx c;have k:ds[n]?=dB (dB d):=by
   unfold aS at c;rw[g0 i5,qj]at c;cases hX:ds[n]? with
   |none=>rw[hX]at c;cases c
   |some o=>rw[hX]at c;exact congrArg dB c
  refine(Po n x m (H.at 1 i4) (jD j) H kt f k).mono ?_;rintro _ h' ⟨rfl,l⟩;have e:mV m offs w ds (n:Int)=(0,ds.set n (dB d.Cu)):=by unfold mV;rw[g9 b,g9 i,c];simp only[bV,qj]
  rw[e];exact⟨i4,kG l⟩
end
theorem ZG{m:aw}{C:Int->aM}{c:aM}(h:fC c=eH):dv m C c:=by
 have d:dg c=eH:=by unfold dg;rw[h]
 have e:lO c=eH:=by unfold lO;rw[h]
 exact⟨λr a=>(by rw[d]at a;cases a),λr a _=>(by rw[d]at a;cases a),λg b=>(by rw[e]at b;cases b)⟩
theorem dX.TS{m:aw}{C:Int->aM}{ds:aC}(S:dX m C ds){k:Int}{b d:aW}(g:aS ds k=dB b)(f:∀c∈d.l,dv m C c):dX m C (bV ds k d):=
 ⟨S.may,by rw[uf];exact S.len,λj e a=>by
  rw[iU S.len g]at a;split at a
  ·injection a with a;subst a;exact f
  ·exact S.cells j e a,S.ents⟩
theorem PK{m:aw}{C:Int->aM}{d:aW}(f:∀c∈d.l,dv m C c){j:Nat}(g:j<i0 d.l)(i:fC d.l[j]≠eH){a b:Int}(n:0<=a/\a<=60):∀c∈(d.kL j a b).l,dv m C c:=λc h=>by
 unfold aW.kL at h;split at h
 ·have h:c∈d.l.set ((j:Int)).toNat (uS (d.l.getD ((j:Int)).toNat []) a b):=h;rw[qj,fh [] g]at h;rcases zR h with h|rfl
  ·exact f c h
  ·by_cases e:uS d.l[j] a b=d.l[j]
   ·rw[e];exact f _ (qf g)
   ·cases ht:fC d.l[j]with
    |none=>exact absurd ht i
    |some y=>exact ZG (Ts (k:=y.1) (x:=y.2) ht n e)
 ·exact f c h
structure Wn (p:Pm) (m:aw) (C:Int->aM) (ds:aC):Prop where
 sto:dX m C ds
 live:aN ds m.drives≠[]
 dr:∀k∈m.drives,k<9
 pe:m.p=p
 wt:∀k d,aS ds k=dB d->d.wait=0
variable {p:Pm}
section
variable {C:Int->aM}
theorem QX{k:Int}{d e:aW}(b:i0 ds=64)(g:aS ds k=dB d)(f:∀k d,aS ds k=dB d->d.wait=0)(c:e.wait=0):∀j x,aS (bV ds k e) j=dB x->x.wait=0:=λj x a=>by
 rw[iU b g]at a;split at a
 ·injection a with a;subst a;exact c
 ·exact f j x a
theorem Xb{b:aC}{f:Int->aW->aW}(h:∀k,aS b k=(aS ds k).map (f k))(c:∀k d,aS ds k=dB d->d.wait=0)(e:∀k d,d.wait=0->(f k d).wait=0):∀j x,aS b j=dB x->x.wait=0:=λj x a=>by
 rw[h]at a;cases hd:aS ds j with
 |none=>rw[hd]at a;cases a
 |some d=>
  rw[hd]at a;injection a with a
  rw[<-a];exact e j d (c j d hd)
theorem QY{a:bY}{d:aW}(h:d.wait=0):(fd a d).wait=0:=by
 unfold fd;split
 ·exact h
 ·rfl
theorem Od{d:aW}{n:Int}(h:d.wait=0):(cN m d n).wait=0:=by
 unfold cN;split
 ·exact h
 ·rfl
theorem TT{d:aW}{j a b:Int}:(d.kL j a b).wait=d.wait:=by unfold aW.kL;split<;>rfl
theorem TU{l:au}(h:l.Pairwise (·<·)){s:Int}(d:s∉l):(iA (l++[s])).Pairwise (·<·):=by have f:(l++[s]).Nodup:=List.nodup_append.2 ⟨h.imp λh e=>i5,jj,λa j b i e=>d (by rw[<-qx.1 i,<-e];exact j)⟩;have c:(iA (l++[s])).Perm (l++[s]):=List.mergeSort_perm _ _;have g:(iA (l++[s])).Pairwise (λa b=>a≠b):=c.nodup_iff.2 f;exact(Qw.CB _).imp₂ (λa b=>i5) g
end
variable {s:Sl} {l:aM} {f:Bool} {n:Int}
structure afT (B:ak) (h0:f9) (As:List HP) (s:Sl) (l:aM):Prop where
 cap:s.len<=s.cap
 st:St B h0 As λh=>Rd h s 1 aB l
abbrev PgV:=Int×Int×Int×Sl×Sl
def afB(p:PgV×Pg):Prop:=p.1.1=p.2.seq/\p.1.2.1=p.2.num/\p.1.2.2.1=p.2.many
structure afX (h:f9) (p:PgV×Pg):Prop where
 bears:Rd h p.1.2.2.2.1 1 aB p.2.bears
 cell:Rd h p.1.2.2.2.2 1 aB p.2.cell
 len:i0 p.2.bears<=48
structure afY (ll:bY) (rs:List Sl) (pool:List (Sl×aM)) (p:PgV×Pg):Prop where
 ok:afB p
 bears:(p.1.2.2.2.1,p.2.bears)∈pool
 len:i0 p.2.bears<=48
 many:p.2.many<=255
 cell:∃k:Nat,rs[k]?=dB p.1.2.2.2.2/\ll[k]?=dB p.2.cell
variable {h':f9} {d:List bF}
variable {α β:Type} {E:iF α β} {e k:Nat} {ll:List β}
section
variable {f:α->aR}
end
def ael(m:aw)(i:Nat):Bool:=decide ((i:Int)∈m.drives)
structure Hi (M:Int->aw) (m:aw) (ds:aC):Prop where
 cur:M m.seq=m
 at_:∀k d,aS ds k=dB d->k∈m.drives
 pg:∀k d,aS ds k=dB d->∀c∈d.l,∀g,lO c=dB g->(1<=g.seq/\g.seq<=m.seq)/\c∈aX (M g.seq)/\k∈(M g.seq).drives
 ok:∀q,1<=q->q<=m.seq->bp (M q)=eR/\(M q).seq=q/\(aX (M q)).length<=2
variable {M:Int->aw} {ds':aC}
section
variable {n:aw}
end
section
variable {n:aw} {d:aW}
def aew(l:bY):Nat:=l.countP λc=>(dg c).isSome
end
variable {L:List HP} {X:HP} {b:f7}
section
variable {k:Kit} {pw:f7} {d:aW} {n:Nat}
structure afP (da:List bK) (ds:aC):Prop where
 len:i0 da=i0 ds
 same:∀i:Nat,(da.getD i eH).isSome=(ds.getD i eH).isSome
end
variable {t t2 eb:Nat} {z:aR} {by_:Nat} {l2:List α} {pre post:aR}
section
variable {C:Ctx} {ty:Nat} {p:ak} {v:Sl} {f:α->aR} {l:List α}
end
section
variable {pw:f7} {d:aW}
end
section
variable {pw:f7} {d:aW} {n:Nat}
end
section
variable {pw:f7}
end
structure afZ (m:aw) (d:aW):Prop where
 lost:d.lost=false
 room:d.room=90
 len:i0 d.l<=40
 few:i0 (aeZ d.l)<20
def dw(m:aw):au->Pow->aC->Int×Pow×aC
 |[],w,ds=>(0,w,ds)
 |k::l,w,ds=>match aS ds k with
  |none=>dw m l w ds
  |some d=>if d.l=bW m d.l then dw m l w ds else
   if(d.rewrite w (bW m d.l)).1=0 then dw m l (d.rewrite w (bW m d.l)).2.1 (bV ds k (d.rewrite w (bW m d.l)).2.2)
   else((d.rewrite w (bW m d.l)).1,(d.rewrite w (bW m d.l)).2.1,bV ds k (d.rewrite w (bW m d.l)).2.2)
theorem PL(a b:Sl)(c d:bY)(h:f9)(q:fA h a 1 aB c)(p:fA h b 1 aB d)(z:i0 c<=2^30):
  ai xJ 119 #[a,b,.func (.func 121) #[] #[]] h λv h'=>v=xD (decide (c=d))/\h'=h:=by
 refine ts Tryz.func119 ?_ (.two .n (.two .n (.two (.two .n (.inn (.loop [(17,aT)] [(6,10),(17,32)] .n))) .n))) (args:=[a,b,(.func (.func 121) #[] #[])]);have l:=q.len;have m:=p.len;refine bz (λe=>⟨?_,i4⟩) λe=>?_
 ·rw[hZ λh=>e (by rw[l,m,h])]
 have w:i0 c=i0 d:=i5
 refine aq (λi:Nat=>(i:Int)) (λi h'=>i<=i0 c/\c.take i=d.take i/\h'=h) (λi=>i0 c-i) 0 i4 ⟨i5,jj,i4⟩ ?_;rintro i t ⟨y,j,rfl⟩;refine ae (λk=>?_) (λk=>?_)
 ·have f:i<i0 c:=by have u:(i:Int)<(a.len:Int):=k;omega
  refine q.get i i4 f λr s=>p.get i i4 i5 λx o=>eU lb ?_;refine(oK r x _ _ t s o).mono ?_;rintro _ _ ⟨rfl,rfl⟩;refine⟨_,i4,aU (λg=>⟨?_,i4⟩) λg=>?_⟩
  ·rw[hZ λh=>of_decide_eq_false g (by simp only[h])]
  ·refine⟨i+1,j0,⟨i5,?_,i4⟩,i5⟩;rw[aD _ _ f,aD _ _ (show i<i0 d by omega),j,ii g]
 ·have u:¬(i:Int)<(a.len:Int):=k;rw[qg i5,qg i5]at j;exact⟨by rw[hU j],i4⟩
abbrev fe(a:f7)(y:bF)(b:Sl)(t most k:Int):aR:=xB (dB a)::(bh y++[xA b.ptr b.len b.cap,xz xF t,xz xF most,xz xF k])
section
variable {pw:f7}
theorem PM{k:Int}{d:aW}{b:f7}(x:Sl)(l:bY)(t:St B h0 As λh=>fA h x 1 aB l)(A:i0 l<=2^20)(j:∀c∈l,i0 c<=2^20)(f:aS ds k=dB d)(i:gH da k=dB b)(H:aa B h0 h (bv a pw da offs w ds m::As)):
  ai xJ 114 #[xB (dB b),x] h λv h'=>v=xz xF (d.rewrite w l).1/\aa B h0 h' (bv a pw da offs (d.rewrite w l).2.1 (bV ds k (d.rewrite w l).2.2) m::As):=by
 obtain⟨y,H⟩:=gE H;obtain⟨ok,_⟩:=aa.cz H;obtain⟨n,rfl,E⟩:=jx f;have r:ds[n]?=dB (dB d):=by
  unfold aS at f;rw[g0 i5,qj]at f;cases hX:ds[n]? with
  |none=>rw[hX]at f;cases f
  |some o=>rw[hX]at f;exact congrArg dB f
 obtain⟨q,g,D⟩:=Qw.aa.iJ H r;have p:q=b:=by unfold gH at i;rw[g0 i5,qj,g]at i;injection i
 subst p;refine(Dn x l D (λBs h' u=>(t.cons.cons) Bs h' u) A j).mono ?_;rintro _ h' ⟨rfl,s⟩;have z:=Qw.aa.nJ (k:=bB) (n:=n) g s;refine⟨i4,?_⟩;have e:bV ds (n:Int) (d.rewrite w l).2.2=ds.set n (dB (d.rewrite w l).2.2):=by simp only[bV,qj]
 rw[e];exact kG z
theorem KY{m:aw}{l:bY}(b:cI m)(d:i0 l<=512):i0 (bW m l)<=4000/\∀c∈bW m l,i0 c<=64:=by
 refine⟨?_,λc a=>?_⟩
 ·have:=jw m b;have:=sD m l;unfold bW;rw[qp];omega
 ·unfold bW at a;rcases qw.1 a with a|a
  ·exact Nat.le_of_eq (sj a)
  ·exact EW a
theorem TV{c:f7}(y:bF)(R:Sl)(live:au)(t most k:Int)(hm:bp m=eR)(hl:i0 live<=64)(x:∀k∈live,∃d,aS ds k=dB d)
  (hS:St B h0 As λh=>bT h c 108 (fe a y R t most k)/\df h y m/\Rd h R 1 az live) (H:aa B h0 h (bv a pw da offs w ds m::As)):
  ai xJ 61 #[xB (dB c)] h λv h'=>v=xz xF (dw m live w ds).1/\aa B h0 h' (bv a pw da offs (dw m live w ds).2.1 (dw m live w ds).2.2 m::As):=by
 refine ts Tryz.func61 ?_ (.two .n (.two (.two .n (.inn (.loop [(13,aT)] [(2,3),(4,8),(13,40)] .n))) .n));have X:=jD hm;have E:=hS.at [_] H;have W:=E.2.2.len;refine⟨c,i4,R,E.1.cell i4,?_⟩;refine aq (λt:Nat×Pow×aC=>(t.1:Int)) (λt h'=>t.1<=i0 live/\(∀k∈live,∃d,aS t.2.2 k=dB d)/\dw m live w ds=dw m (live.drop t.1) t.2.1 t.2.2/\aa B h0 h' (bv a pw da offs t.2.1 t.2.2 m::As)) (λt=>i0 live-t.1) (0,w,ds) i4 ⟨i5,x,i4,H⟩ ?_;rintro⟨i,p,j⟩ h1 ⟨hi,f,g,q⟩;dsimp only at hi f g q⊢;obtain⟨D,hy,U⟩:=hS.at [_] q;refine ae (λe=>?_) λe=>?_
 ·have r:i<i0 live:=i5
  obtain⟨d,u⟩:=f live[i] (qf r);obtain⟨b,P⟩:=IY u q;refine U.bo i i4 r live[i] i4 ⟨c,i4,dB a,D.cell0 i4,(DE _ q).mono ?_⟩;rintro _ h2 ⟨rfl,rfl⟩;rw[P];obtain⟨s,Y,K,q2,F⟩:=FU u P q;have V:=F.len;have S:=F.room;obtain⟨k1,k2⟩:=KY X (show d.l.length<=512 by omega);refine⟨_,i4,c,i4,y,D.cells 1 _ i4,(Do s Y y m K q2 F hy X).mono ?_⟩;rintro _ h3 ⟨o,rfl,I⟩;refine⟨o,i4,(FL s Y (K.ac I.ac K.lt) (q2.up I.ac) F).mono ?_⟩;rintro _ h4 ⟨z,rfl,M⟩;have T:fA h4 o 1 aB (bW m d.l):=(I.BJ λ_=>rfl).up M.ac;refine⟨z,i4,(PL z o _ _ h4 (M.BJ λ_=>rfl) T i5).mono ?_⟩;rintro _ h5 ⟨rfl,rfl⟩;have O:live.drop i=live[i]::live.drop (i+1):=qI r;have Z:=(q.bR I).up M.ac;refine⟨_,i4,ae (λJ=>?_) λJ=>?_⟩
  ·refine⟨(i+1,p,j),js,⟨i7,f,?_,Z.aK 1 []⟩,i7⟩;rw[g,O];show dw m (live[i]::live.drop (i+1)) p j=dw m (live.drop (i+1)) p j;rw[dw,u]
   try dsimp only
   rw[g0 J]
  ·obtain⟨rs,Q⟩:=Z.SK λ_=>rfl;have Q:=Q.aK 2 [1,0];refine(PM o (bW m d.l) (St.ee (A:=cJ (cw 1 aB) 1 bi o rs (bW m d.l)) 0 i4 λh' L=>⟨rs,L.1,L.2.1,L.2.2⟩) i5 (λc hc=>by have:=k2 c hc;omega) u P Q).mono ?_;rintro _ h6 ⟨rfl,G⟩;have G:=G.aK 2 [0];refine⟨_,i4,bz (λN=>?_) λN=>?_⟩
   ·have ec:dw m live w ds=((d.rewrite p (bW m d.l)).1,(d.rewrite p (bW m d.l)).2.1,bV j live[i] (d.rewrite p (bW m d.l)).2.2):=by
     rw[g,O,dw,u]
     try dsimp only
     rw[g9 J,g9 N]
    rw[ec];exact⟨i4,G⟩
   ·refine⟨(i+1,(d.rewrite p (bW m d.l)).2.1,bV j live[i] (d.rewrite p (bW m d.l)).2.2),js,⟨i7,λk hk=>?_,?_,G⟩,i7⟩
    ·try dsimp only
     rw[iU (mE q).1 u];split
     ·exact⟨_,i4⟩
     ·exact f k hk
    ·try dsimp only
     rw[g,O,dw,u]
     try dsimp only
     rw[g9 J,g0 (by simpa using N)]
 ·have:i=i0 live:=i5
  subst this;rw[yq]at g;rw[g];exact⟨i4,q⟩
end
def lH(W:bP)(id:Int):Bool:=W.any λl=>decide (id∈l)
def xR(W:bP):Nat:=W.flatten.foldr (λx a=>max a x.toNat) 0
theorem Oe{x:Int}:∀{l:au},x∈l->x.toNat<=l.foldr (λx a=>max a x.toNat) 0
 |[],h=>j7
 |y::l,h=>by
  rw[List.foldr_cons];rcases List.mem_cons.1 h with rfl|h
  ·omega
  ·have:=Oe h;omega
theorem Jk{W:bP}{x:Int}(h:x∈W.flatten):x.toNat<=xR W:=Oe h
theorem Jl{W:bP}{i:Nat}(h:lH W (i:Int)=eR):i<=xR W:=by unfold lH at h;rw[zY]at h;obtain⟨l,b,a⟩:=h;have:=Jk (vt.2 ⟨l,b,ii a⟩);omega
def oX(W:bP):Nat->Nat->Nat
 |0,i=>i
 |f+1,i=>if lH W (i:Int)then oX W f (i+1)else i
def eG(W:bP):Nat:=oX W (xR W+1) 0
theorem xS(W:bP):∀f i,xR W<f+i->lH W (oX W f i:Int)=false/\i<=oX W f i/\∀j,i<=j->j<oX W f i->lH W (j:Int)=eR
 |0,i,h=>by
  refine⟨?_,qk _,λj g d=>absurd d (by unfold oX;omega)⟩;cases e:lH W ((oX W 0 i:Nat):Int)with
  |false=>rfl
  |true=>have:=Jl e;unfold oX at this;omega
 |f+1,i,h=>by
  unfold oX;cases e:lH W (i:Int)with
  |false=>rw[g9 i6];exact⟨e,qk _,λj g d=>i5⟩
  |true=>
   rw[g0 rfl];obtain⟨a,b,c⟩:=xS W f (i+1) i5;refine⟨a,i5,λj g d=>?_⟩;by_cases k:j=i
   ·rw[k];exact e
   ·exact c j i5 d
theorem Xc(W:bP):lH W (eG W:Int)=false:=(xS W _ 0 i5).1
theorem DX{W:bP}{j:Nat}(h:j<eG W):lH W (j:Int)=eR:=(xS W _ 0 i5).2.2 j (zB _) h
theorem TW{W:bP}{i:Nat}(b:lH W (i:Int)=false)(a:∀j,j<i->lH W (j:Int)=eR):eG W=i:=by
 rcases Nat.lt_trichotomy (eG W) i with h|h|h
 ·have:=a _ h;rw[Xc W]at this;cases this
 ·exact h
 ·have:=DX h;rw[b]at this;cases this
theorem Of(W:bP):eG W<=xR W+1:=by
 cases e:eG W with
 |zero=>omega
 |succ n=>have:=Jl (DX (W:=W) (j:=n) i5);omega
def gr(live:au)(s:Int):Int:=match live.idxOf? s with|some k=>(k:Int)|none=>-1
def iZ(m:aw)(c:aM)(w:Pow)(ds:aC)(s:Int)(d:aW):Int×Pow×aC:=
 let r:=fH m w d 1
 if r.1≠0 then(r.1,r.2.1,bV ds s r.2.2)else
  let q:=r.2.2.append r.2.1 c
  (q.1,q.2.1,bV (bV ds s r.2.2) s q.2.2)
def gw(m:aw)(live set:au)(order:au)(c:aM)(id:Nat)(w:Pow)(ds:aC):List Nat->(Int×Pow×aC)×Int×Int
 |[]=>((7,w,ds),0,0)
 |i::l=>
  let s:=fI order ((id:Int)+i)
  match aS ds s with
  |none=>gw m live set order c id w ds l
  |some d=>if gr live s∈set∨gu m d 1=false then gw m live set order c id w ds l
   else(iZ m c w ds s d,gr live s,s)
structure ja where
 o:Int
 b:Int
 seed:Int
 M:aI
 W:bP
 got:au
 deriving Inhabited
def ja.Ia(x:ja)(m:aw)(id:Nat):cP:=⟨x.o,x.b,id,m.p,x.seed,if bJ id then fS m.p.2.2.toNat x.M (cW (bu m.p).toNat x.seed id)else[]⟩
def ja.xT(x:ja)(id:Nat)(k s:Int):ja:={x with W:=x.W.set k.toNat (x.W.getD k.toNat []++[(id:Int)]),got:=x.got++[s]}
def fw(m:aw)(live set:au)(w:Pow)(ds:aC)(x:ja):Int×Pow×aC×ja:=
 let id:=eG x.W;let o:=dt x.o x.b live;let r:=gw m live set o (cT (x.Ia m id)) id w ds (qt o.length)
 (r.1.1,r.1.2.1,r.1.2.2,if r.1.1=0 then x.xT id r.2.1 r.2.2 else x)
def dl(m:aw)(live:au)(t most:Int):Nat->Pow->aC->ja->Int×Pow×aC×ja
 |0,w,ds,x=>(12,w,ds,x)
 |f+1,w,ds,x=>
  let r:=iP m.p x.seed x.W t
  if r.2.2≠0 then(r.2.2,w,ds,x)else if r.2.1=false then(0,w,ds,x)else if(i0 x.got:Int)>=most then(12,w,ds,x)else
   let q:=fw m live r.1 w ds x
   if q.1≠0 then q else dl m live t most f q.2.1 q.2.2.1 q.2.2.2
theorem PN(l:Sl)(r:au)(c:f7)(x:Int)(h:f9)(d:bT h c 3 [xz xF x])(a:Rd h l 1 az r)(b:i0 r<=2^30):
  ai xJ 299 #[l,xB (dB c)] h λv h'=>v=xD (decide (x∈r))/\h'=h:=by
 refine ts Tryz.func299 ?_ (args:=[l,c]);refine⟨x,d.cell0 i4,(rX l r x h a b).mono ?_⟩;rintro _ _ ⟨rfl,rfl⟩;exact⟨_,i4,i4,i4⟩
theorem PO(s:Sl)(W:bP)(c:f7)(x:Int)(h:f9)(k:bT h c 3 [xz xF x])(g:fA h s 1 az W)(q:i0 W<=2^20)(m:∀l∈W,i0 l<=2^20):
  ai xJ 298 #[s,.func (.func 299) #[] #[xB (dB c)]] h λv h'=>v=xD (lH W x)/\h'=h:=by
 refine ts Tryz.func298 ?_ (args:=[s,(.func (.func 299) #[] #[xB (dB c)])]);refine(od s (299,#[],#[xB (dB c)]) (R:=λv h'=>(∃i:Int,v=xz xF i/\(decide (i>=0)=lH W x))/\h'=h) ?_).mono ?_
 ·skip
  have p:=g.len;refine aq (λi:Nat=>(i:Int)) (λi h'=>i<=i0 W/\lH (W.take i) x=false/\h'=h) (λi=>i0 W-i) 0 i4 ⟨i5,by simp[lH],i4⟩ ?_;rintro i n ⟨j,a,rfl⟩;refine ae (λe=>?_) λe=>?_
  ·have b:i<i0 W:=by have o:(i:Int)<(s.len:Int):=e;omega
   refine g.get i i4 b λr f=>eU lb ?_;refine(PN r W[i] c x n k f (by have:=m _ (qf b);omega)).mono ?_;rintro _ _ ⟨rfl,rfl⟩;refine⟨_,i4,ae (λd=>⟨⟨i,i4,?_⟩,i4⟩) λd=>?_⟩
   ·rw[hU (show(i:Int)>=0 by omega)]
    symm
    unfold lH;rw[zY];exact⟨_,qf b,hU d⟩
   ·refine⟨i+1,j0,⟨i5,?_,i4⟩,i5⟩;unfold lH at a⊢;rw[aD _ _ b,List.any_append,a,List.any_cons,List.any_nil,hZ d];rfl
  ·have o:¬(i:Int)<(s.len:Int):=e;rw[qg i5]at a;exact⟨⟨-1,i4,q6⟩,i4⟩
 ·rintro _ _ ⟨⟨i,rfl,j⟩,rfl⟩;exact⟨i,i4,by rw[j],i4⟩
abbrev lc(x:ja)(a:bK)(wS gS:Sl):aR:=[xz xF x.o,xz xF x.b,xz xH x.seed,.pointer a,wS,gS]
theorem PP(b:f7)(x:ja)(r:bK)(wS gS:Sl)(h:f9)(k:bT h b 183 (lc x r wS gS))(q:fA h wS 1 az x.W)(s:i0 x.W<=2^20)(m:∀l∈x.W,i0 l<=2^20)(u:xR x.W<=2^40):
  ai xJ 243 #[xB (dB b)] h λv h'=>v=xz xF (eG x.W)/\Sp h h' []:=by
 refine ts Tryz.func243 ?_ (.two .n (.two .n (.two (.inn (.loop [] [(4,12)] .n)) .n)));refine(Sp.refl h).alloc ag i4 λc y t=>?_;refine t.storeAll ag 0 i4 i4 [xz xF 0] i4 i4 i4 i4 λA p=>?_;refine aq (λ_:Nat=>()) (λi h'=>i<=xR x.W+1/\(∀j,j<i->lH x.W (j:Int)=eR)/\Sp h h' [av c 3 [xz xF i]]) (λi=>xR x.W+1-i) 0 i4 ⟨i5,λj o=>i5,p⟩ ?_;rintro i h3 ⟨z,a,d⟩;refine⟨b,i4,wS,(k.ac d.ac k.lt).cell i4,(PO wS x.W c i h3 (d.box 0 i4) (q.up d.ac) s m).mono ?_⟩;rintro _ _ ⟨rfl,rfl⟩;refine⟨_,i4,bc (λe=>?_) λe=>?_⟩
 ·have:=Jl e;refine⟨i,(d.box 0 i4).cell0 i4,d.storeAll ag 0 i4 i4 [xz xF (qe xF ((i:Int)+1))] i4 i4 i4 i4 λw f=>?_⟩;refine⟨i+1,i4,⟨i5,λj o=>?_,?_⟩,i5⟩
  ·by_cases g:j=i
   ·rw[g];exact e
   ·exact a j i5
  ·have f:=f;rw[af _]at f;exact f
 ·refine⟨i,(d.box 0 i4).cell0 i4,?_,.zip d.ac⟩;rw[TW e a]
section
variable {pw:f7}
theorem ZH{k:Int}{d:aW}{b:f7}(y:bF)(n:Int)(i:aS ds k=dB d)(f:gH da k=dB b)(l:df h y m)(g:cI m)(H:aa B h0 h (bv a pw da offs w ds m::As)):
  ai xJ 111 #[xB (dB b),fN y,xz xF n] h λv h'=>v=xD (gu m d n)/\Sp h h' []:=by
 obtain⟨s,j,e,c,o⟩:=FU i f H;exact Dp s j y m n e c c.len o l g
theorem Kz{k:Int}{d:aW}{b:f7}(c:aS ds k=dB d)(i:gH da k=dB b)(H:aa B h0 h (bv a pw da offs w ds m::As)):
  ∃p A2:HP,aa B h0 h (iT pw b d::dc 118 pw w::p::A2::As)/\
   ∀h' l g,aa B h0 h' (iT pw b g::dc 118 pw l::p::A2::As)->aa B h0 h' (bv a pw da offs l (bV ds k g) m::As):=by
 obtain⟨y,H⟩:=gE H;obtain⟨n,rfl,v⟩:=jx c;have r:ds[n]?=dB (dB d):=by
  unfold aS at c;rw[g0 i5,qj]at c;cases hX:ds[n]? with
  |none=>rw[hX]at c;cases c
  |some o=>rw[hX]at c;exact congrArg dB c
 obtain⟨q,f,u⟩:=Qw.aa.iJ H r;have j:q=b:=by unfold gH at i;rw[g0 i5,qj,f]at i;injection i
 subst j;refine⟨_,_,u,λh' l g s=>?_⟩;have t:=Qw.aa.nJ (k:=bB) (n:=n) f s;have e:bV ds (n:Int) g=ds.set n (dB g):=by simp only[bV,qj]
 rw[e];exact kG t
theorem ZI{k:Int}{d:aW}{b:f7}(y:bF)(n:Int)(j:St B h0 As λh=>df h y m)(f:cI m)(g:aS ds k=dB d)(e:gH da k=dB b)(H:aa B h0 h (bv a pw da offs w ds m::As)):
  ai xJ 55 #[xB (dB b),fN y,xz xF n] h λv h'=>v=xz xF (fH m w d n).1/\aa B h0 h' (bv a pw da offs (fH m w d n).2.1 (bV ds k (fH m w d n).2.2) m::As):=by
 obtain⟨o,A2,l,c⟩:=Kz g e H;refine(JZ y m n j.cons.cons f l).mono ?_;rintro _ h' ⟨rfl,i⟩;exact⟨i4,c _ _ _ i⟩
theorem TX{k:Int}{d:aW}{b:f7}(x:Sl)(row:aM)(f:Rd h x 1 aB row)(g:i0 row<=2^20)(i:aS ds k=dB d)(e:gH da k=dB b)(H:aa B h0 h (bv a pw da offs w ds m::As)):
  ai xJ 116 #[xB (dB b),x] h λv h'=>v=xz xF (d.append w row).1/\aa B h0 h' (bv a pw da offs (d.append w row).2.1 (bV ds k (d.append w row).2.2) m::As):=by
 obtain⟨n,A2,l,c⟩:=Kz i e H;refine(EQ x row l f g).mono ?_;rintro _ h' ⟨rfl,j⟩;exact⟨i4,c _ _ _ j⟩
theorem ZJ(s:Sl)(l:au)(d:St B h0 As λh=>Rd h s 1 az l)(e:i0 l<=2^30)(b:∀x∈l,0<=x/\x<64)(H:aa B h0 h (bv a pw da offs w ds m::As)):
  ai xJ 117 #[.func (.func 56) #[xB (dB a)] #[],s] h λv h'=>v=xz xF (eI (cx l) w ds).1/\aa B h0 h' (bv a pw da offs (eI (cx l) w ds).2.1 (eI (cx l) w ds).2.2 m::As):=by
 obtain⟨y,H⟩:=gE H;refine(Hb s l d.cons e b H).mono ?_;rintro _ h' ⟨rfl,c⟩;exact⟨i4,kG c⟩
theorem PQ(y:bF)(s:Sl)(c:au)(o b:Int)(i:df h y m)(e:cI m)(j:Rd h s 1 az c)(l:i0 c<=2^10)(f:∀k∈c,∃d,aS ds k=dB d)(H:aa B h0 h (bv a pw da offs w ds m::As)):
  ai xJ 87 #[.func (.func 56) #[xB (dB a)] #[],s,fN y,xz xF o,xz xF b] h λv h'=>∃(r:Sl) (g:List (Int×Sl)),v=r/\Sp h h' [cJ lZ 2 piv r g (dR m ds c o b)]:=by
 obtain⟨x,H⟩:=gE H;exact ue y m s c o b i e j l f H
end
theorem sG(ds:aC)(k:Int)(d e:aW):bV (bV ds k d) k e=bV ds k e:=by unfold bV;rw[List.set_set]
theorem ZK{live:au}{s i:Int}(g:0<=i↔s∈live)(k:0<=i->live[i.toNat]?=dB s/\∀j,j<i.toNat->live[j]?≠dB s)(h3:-1<=i):gr live s=i:=by
 unfold gr;by_cases c:0<=i
 ·obtain⟨a,b⟩:=k c;have e:live.idxOf? s=dB i.toNat:=by unfold List.idxOf?;rw[List.findIdx?_eq_some_iff_getElem];obtain⟨f,d⟩:=ql.1 a;refine⟨f,by rw[d];simp,λj l=>?_⟩;have:=b j l;rw[qc i5]at this;simpa using λh=>this (by rw[h])
  rw[e]
  try dsimp only
  omega
 ·have e:live.idxOf? s=eH:=by unfold List.idxOf?;rw[List.findIdx?_eq_none_iff];intro z m;have:s∉live:=λh=>c (g.2 h);simp only[beq_eq_false_iff_ne];rintro rfl;exact this m
  rw[e]
  try dsimp only
  omega
theorem PR(k:Int)(b:aM):i0 (dL k b)<=64:=by
 by_cases h:1<=k/\k<=255/\b.length<=55
 ·rw[lS h.1 h.2.1 h.2.2];exact qk _
 ·unfold dL;rw[g9 h];exact zB _
theorem Jm{o:au}{i:Int}(a:o≠[])(c:0<=i:=by omega):fI o i∈o:=by unfold fI;rw[g9 λh=>h.elim a λh=>i5];have b:0<i0 o:=List.length_pos_iff.2 a;have e:=Int.emod_nonneg i (show(i0 o:Int)≠0 by omega);have d:=Int.emod_lt_of_pos i (show(0:Int)<i0 o by omega);unfold Hu;rw[qd,qc i5];exact qf _
theorem BC{o b s:Int}{l:au}(h:s∈dt o b l):s∈l:=by
 unfold dt at h;split at h
 ·exact((Dv _ _ _).1 h).1
 ·cases h
theorem ZL(l:au):i0 (gV l)<=i0 l:=by
 have:=Np l l.length
 rwa [qg (qk _)]at this
theorem TY(o b:Int)(l:au):i0 (dt o b l)<=i0 l:=by
 unfold dt;split
 ·rw[(Bj _ _).length_eq];exact ZL l
 ·simp
structure mG (m:aw) (live:au) (x:ja):Prop where
 seed:0<=x.seed/\x.seed<4294967296
 ev:aQ m.p.2.2.toNat x.M
 ml:i0 x.M=(bu m.p).toNat
 wl:i0 x.W=i0 live
 rl:∀l∈x.W,i0 l<=2^12+i0 x.got
 top:xR x.W<=2^20+i0 x.got
 gl:i0 x.got<=64
 gi:∀s∈x.got,s∈live
theorem Seq.acm{h:f9}{p:ak}{s:Sl}{rs:List Sl}(f:Qw.Seq h p s 1 bi rs){n:Nat}(g:n<i0 rs){a:f7}(i:s.ptr=dB a):cellOf h (a.add (n*1))=dB (.slice rs[n].ptr rs[n].len rs[n].cap):=by
 obtain⟨b,o,c,j,e⟩:=f.elem n rs[n] (qc g);rw[i]at c;injection c with c
 subst c;have d:=e.1;rw[add_eq,Nat.add_zero]at d;rw[add_eq];exact d
def Ga(s:Sl)(W:bP)(k:Nat)(rs:List Sl):HP:=HP.all (an 22 s 1 bi rs::(bt 3 1 az rs W).set k emp)
variable {W:bP}
theorem Og(H:aa B h0 h As):aa B h0 h (emp::As):=(H.comp (.one (A:=emp) (aP.refl _ _) trivial)).aY
theorem aex(g:k<i0 W)(H:aa B h0 h (fo 22 s 3 1 az W::As)):
  ∃(rs:List Sl) (p:f7) (a:i0 rs=i0 W),s.ptr=dB p/\s.len=i0 W/\aa B h0 h (an 3 (rs[k]'(by omega)) 1 az W[k]::Ga s W k rs::As):=by
 obtain⟨rs,a,b⟩:=H.AI;have j:=(b.own 0 i4).len;obtain⟨p,o,i,_⟩:=(b.seq 0 rfl λ_=>rfl).elem k (rs[k]'(by omega)) (qc i5);have d:=(Og b).aK 2 [1,0];have e:=(aa.QI k (fU a k g) d).aK 3 [0,2];have f:aa B h0 h ([an 3 (rs[k]'(by omega)) 1 az W[k]]++((an 22 s 1 bi rs::(bt 3 1 az rs W).set k emp)++As)):=e;have c:=f.front;rw[List.append_assoc]at c;exact⟨rs,_,a,i,i5,(aa.closeAll _ c).aY⟩
theorem acn{rs:List Sl}{p:f7}(i:Nat){Bs:List HP}(d:i0 rs=i0 W)(e:k<i0 W)(a:s.ptr=dB p)(b:Bs[i]?=dB (Ga s W k rs))(H:aa B h0 h Bs):cellOf h (p.add (k*1))=dB (.slice (rs[k]'(by omega)).ptr (rs[k]'(by omega)).len (rs[k]'(by omega)).cap):=by have c:=(H.cons i b).nO;exact(c.seq 0 i4 λ_=>rfl).acm i5 a
theorem aey{rs:List Sl}{v:Sl}{l:au}{x:Int}(f:i0 rs=i0 W)(n:k<i0 W)(g:x=k)(H:aa B h0 h (an 3 v 1 az l::Ga s W k rs::As)){K:f9->Prop}
  (i:∀h',aa B h0 h' (fo 22 s 3 1 az (W.set k l)::As)->K h'):
  ∃a:f7,(s.ptr=dB a/\0<=x/\x<((s.len:Nat):Int))/\aj xJ (qE 22 (xB (dB (a.add (x.toNat*1)))) (xA v.ptr v.len v.cap)) h λ_ h'=>K h':=by
 have m:=H.nf.nO;refine m.set ag 0 i4 (λ_=>rfl) i4 k g i5 v i4 i4 i4 λh' j=>i h' ?_;have b:i0 (bt 3 1 az rs W)=i0 W:=by simp[bt];omega
 have d:=j.cons (i0 W+1) (A:=an 3 v 1 az l) (by
  show((an 22 s 1 bi (rs.set k v)::((bt 3 1 az rs W).set k emp++an 3 v 1 az l::As)))[i0 W+1]?=_;rw[List.getElem?_cons_succ,qi n5];simp[b])
 have e:((an 22 s 1 bi (rs.set k v)::((bt 3 1 az rs W).set k emp++an 3 v 1 az l::As))).set (i0 W+1) emp=an 22 s 1 bi (rs.set k v)::((bt 3 1 az rs W).set k emp++emp::As):=by rw[List.set_cons_succ,List.set_append_right _ _ n5];simp[b]
 have d:aa B h0 h' (an 3 v 1 az l::an 22 s 1 bi (rs.set k v)::((bt 3 1 az rs W).set k emp++emp::As)):=by rw[<-e];exact d
 have c:=(aa.Ey k i5 ((Og d).aK 3 [1,0,2])).aK 2 [0];have c:aa B h0 h' (an 22 s 1 bi (rs.set k v)::((bt 3 1 az rs W).set k (an 3 v 1 az l)++emp::As)):=c;rw[kz f]at c;exact(aa.Ct p0 c).aK 2 [0]
def pL(b a:f7)(x:ja):HP:=HP.ex λp:Sl×Sl=>(av b 183 (lc x (dB a) p.1 p.2)).sep ((fo 22 p.1 3 1 az x.W).sep (an 3 p.2 1 az x.got))
variable {cd:f7} {x:ja}
theorem EF(H:aa B h0 h (pL b cd x::As)):∃wS gS:Sl,aa B h0 h (an 3 gS 1 az x.got::fo 22 wS 3 1 az x.W::av b 183 (lc x (dB cd) wS gS)::As):=by obtain⟨⟨wS,gS⟩,H⟩:=H.pR;exact⟨wS,gS,H.rn.rn⟩
theorem ul{wS gS:Sl}(H:aa B h0 h (an 3 gS 1 az x.got::fo 22 wS 3 1 az x.W::av b 183 (lc x (dB cd) wS gS)::As)):aa B h0 h (pL b cd x::As):=
 aa.td (F:=λp:Sl×Sl=>(av b 183 (lc x (dB cd) p.1 p.2)).sep ((fo 22 p.1 3 1 az x.W).sep (an 3 p.2 1 az x.got))) (wS,gS) H.lq.lq
section
variable {pw:f7}
theorem Xd{c b G:f7}(y:bF)(L g:Sl)(live set:au)(t most k:Int)(x:ja)(hm:bp m=eR)(hp:bx m.p=eR)(hl:i0 live<=64)(a2:∀k∈live,∃d,aS ds k=dB d)(hk:0<=k/\k<=2^40)(F:mG m live x)(d8:i0 set<=2^20)
  (hS:St B h0 As λh=>df h y m/\Rd h L 1 az live/\Rd h g 1 az set/\tW h G m.p x.seed x.M)
  (H:aa B h0 h (bv a pw da offs w ds m::av c 108 (fe a y L t most k)::pL b G x::As)):
  ai xJ 190 #[xB (dB c),xB (dB b),g] h λv h'=>v=xz xF (fw m live set w ds x).1/\
   aa B h0 h' (bv a pw da offs (fw m live set w ds x).2.1 (fw m live set w ds x).2.2.1 m::av c 108 (fe a y L t most (if(fw m live set w ds x).1=0 then k+1 else k))::pL b G (fw m live set w ds x).2.2.2::As):=by
 refine ts Tryz.func190 ?_ (.two .n (.two .n (.two .n (.two (.two .n (.inn (.loop [(33,aT)] [(6,7),(9,16),(33,140)] (.two .n (.two .n (.two (.inn (.two .n (.two .n (.two .n (.two .n (.two (.join [] [(53,65)] .n) (.two .n (.two (.join [(14,(.sc .adr))] [(14,15),(74,99)] .n) (.two .n (.two (.join [] [(106,132)] .n) .n)))))))))) .n)))))) .n)))) [(13,(.y [0,1,2,3,4,5,6,7,8,9,10,11,12,13,14,15,16,17,18,19,20,21,22] (.l [23,24,25,26]) (.l [25,23,24,26]))),(17,(.y [0,1,2,3,4,5,6,7,8,9,10,11,12,13,16,17,18,19,20] (.y [14] (.l [15,21,22,23,24,25,26,27]) (.l [21,15,22,23,24,25,26,27])) (.l [21,14,15,22,23,24,25,26,27])))];obtain⟨wS,gS,H1⟩:=EF (H.aK 3 [2,0,1]);have ah:=H1.box 2 i4;have cc:=H1.box 4 i4;have du:fA h wS 1 az x.W:=aa.BJ (H1.aK 2 [1,0]) λ_=>rfl;have eo:=F.gl;have ca:∀l∈x.W,i0 l<=2^13:=λl hl=>by have:=F.rl l hl;omega
 obtain⟨id,hid⟩:∃id,id=eG x.W:=⟨_,rfl⟩
 have d3:id<=2^21:=by have:=Of x.W;have:=F.top;omega
 refine(PP b x (dB G) wS gS h ah du (by rw[F.wl];omega) (λl hl=>by have:=ca l hl;omega) (by have:=F.top;omega)).mono ?_;rintro _ h1 ⟨rfl,R1⟩;rw[<-hid];have H1:=H1.up R1.ac;have cn:=(hS.cons.cons.cons.cons.cons).here H1;obtain⟨ew,b1,d9,eb⟩:=cn;have ah:=H1.box 2 i4;have cc:=H1.box 4 i4;refine⟨(id:Int),i4,b,i4,x.o,ah.cell0 i4,b,i4,x.b,ah.cell i4,c,i4,L,cc.cell i4,(EX x.o x.b L live h1 b1).mono ?_⟩;rintro _ h2 ⟨r8,rfl,R2⟩;obtain⟨o,ho⟩:∃o,o=dt x.o x.b live:=⟨_,rfl⟩
 rw[<-ho]at R2;have en:i0 o<=64:=by rw[ho];exact qY (TY _ _ _) hl
 have H2:=H1.bR R2;have et:=(H2.own 0 i4).len;refine⟨r8,i4,trivial,?_⟩;obtain⟨cell,O⟩:∃cell,cell=cT (x.Ia m id):=⟨_,rfl⟩
 have e0:fw m live set w ds x=(let r:=gw m live set o cell id w ds (qt o.length);(r.1.1,r.1.2.1,r.1.2.2,if r.1.1=0 then x.xT id r.2.1 r.2.2 else x)):=by rw[ho,O,hid];rfl
 rw[e0];refine aq (λi:Nat=>(i:Int)) (λi h'=>i<=i0 o/\gw m live set o cell id w ds (qt o.length)=gw m live set o cell id w ds ((qt o.length).drop i)/\aa B h0 h' (an 3 r8 1 az o::an 3 gS 1 az x.got::fo 22 wS 3 1 az x.W::av b 183 (lc x (dB G) wS gS)::bv a pw da offs w ds m::av c 108 (fe a y L t most k)::As)) (λi=>i0 o-i) 0 i4 ⟨i5,i4,H2⟩ ?_;rintro i h3 ⟨hi,bl,T⟩;refine ae (λe=>?_) λe=>?_
 rotate_left
 ·have er:i=i0 o:=i5
  have hd:(qt o.length).drop i=[]:=List.drop_eq_nil_of_le i9;rw[bl,hd];refine⟨i4,?_⟩;have T:=T.rest;exact((ul (T.aK 5 [0,1,2,3,4])).aK 3 [1,2,0])
 have bk:i<i0 o:=i5
 have hd:(qt o.length).drop i=i::(qt o.length).drop (i+1):=by rw[qI i9,vh]
 rw[af ((id:Int)+(i:Int))];refine(QN r8 o ((id:Int)+i) h3 (T.seq 0 i4 λ_=>rfl)).mono ?_;rintro _ _ ⟨rfl,rfl⟩;obtain⟨s,hs⟩:∃s,s=fI o ((id:Int)+i):=⟨_,rfl⟩
 rw[<-hs];have cs:s∈o:=by rw[hs];exact Jm (by intro h;rw[h]at bk;simp at bk)
 have ay:=BC (by rw[<-ho];exact cs);obtain⟨d,U⟩:=a2 s ay;have N:gw m live set o cell id w ds (qt o.length)=(if gr live s∈set∨gu m d 1=false then gw m live set o cell id w ds ((qt o.length).drop (i+1))else(iZ m cell w ds s d,gr live s,s)):=by rw[bl,hd,gw,<-hs,U]
 obtain⟨cp,bs,c1,ep⟩:=(hS.cons.cons.cons.cons.cons.cons).here T;have Y:=T.box 5 i4;refine⟨_,i4,c,i4,L,Y.cell i4,(index_spec L live s _ bs i5).mono ?_⟩;rintro _ _ ⟨⟨K,rfl,q1,q2,q3,q4⟩,rfl⟩;have a4:=ZK q1 q2 q4;have c5:=q1.2 ay;refine⟨K,i4,c,i4,dB a,Y.cell0 i4,(DE s (T.aK 5 [4])).mono ?_⟩;rintro _ _ ⟨rfl,rfl⟩;obtain⟨dp,ao⟩:=IY U (T.aK 5 [4]);rw[ao];refine⟨_,i4,?_⟩;refine bE (λ(_:Unit) h'=>¬(gr live s∈set∨gu m d 1=false)/\aa B h0 h' (an 3 r8 1 az o::an 3 gS 1 az x.got::fo 22 wS 3 1 az x.W::av b 183 (lc x (dB G) wS gS)::bv a pw da offs w ds m::av c 108 (fe a y L t most k)::As)) ?_ ?_
 ·refine(rX g set K _ c1 i5).mono ?_;rintro _ _ ⟨rfl,rfl⟩;refine⟨_,i4,ae (λe1=>?_) λe1=>?_⟩
  ·refine⟨i+1,j0,⟨i5,?_,T⟩,i5⟩;rw[N,g0 (.inl (by rw[a4];exact e1))]
  ·refine⟨c,i4,y,Y.cells 1 _ i4,(ZH y 1 U ao cp (jD hm) (T.aK 5 [4])).mono ?_⟩;rintro _ h4 ⟨rfl,R4⟩;refine⟨_,i4,aU (λe2=>?_) λe2=>?_⟩
   ·refine⟨i+1,j0,⟨i5,?_,T.up R4.ac⟩,i5⟩;rw[N,g0 (.inr e2)]
   ·exact⟨λh=>h.elim (λh=>e1 (by rw[<-a4];exact h)) (λh=>by rw[h]at e2;cases e2),T.up R4.ac⟩
 rintro _ h5 ⟨cr,H5⟩;rw[N,g9 cr]
 try dsimp only
 have b3:=H5.box 5 i4;have H5:=H5.aK 6 [4,1,2,3,5];refine⟨c,i4,y,b3.cells 1 _ i4,(ZI y 1 (hS.cons.cons.cons.cons.mono λ_ q=>q.1) (jD hm) U ao H5).mono ?_⟩;rintro _ h6 ⟨rfl,H6⟩;obtain⟨mk,a3⟩:∃mk,mk=fH m w d 1:=⟨_,rfl⟩
 rw[<-a3]at H6⊢;refine⟨_,i4,bz (λe3=>?_) λe3=>?_⟩
 ·have ea:iZ m cell w ds s d=(mk.1,mk.2.1,bV ds s mk.2.2):=by
   unfold iZ;rw[<-a3]
   try dsimp only
   rw[g0 e3]
  rw[ea]
  try dsimp only
  rw[g9 e3,g9 e3];refine⟨i4,?_⟩;exact(ul (H6.aK 5 [1,2,3,0,4])).aK 3 [1,2,0]
 have b4:aS (bV ds s mk.2.2) s=dB mk.2.2:=by rw[iU (mE H).1 U,g0 rfl]
 obtain⟨S,bb⟩:∃S,S=mk.2.2.append mk.2.1 cell:=⟨_,rfl⟩
 have ea:iZ m cell w ds s d=(S.1,S.2.1,bV (bV ds s mk.2.2) s S.2.2):=by
  unfold iZ;rw[<-a3]
  try dsimp only
  rw[g9 λh=>h e3,<-bb,sG]
 rw[ea]
 try dsimp only
 obtain⟨dr,d4,d6,c0⟩:=(hS.cons.cons.cons.cons.cons).here H6;have P:=H6.box 3 i4;have b7:=H6.box 4 i4;have b5:∀{h':f9},bT h' c 108 (fe a y L t most k)->df h' y m->ba h' ((c.add 1).add 2) 0 [xz xF m.p.1,xz xF m.p.2.1,xz xF m.p.2.2]:=λ{h'} hb hy=>by
  have d1:y.2.2.1=m.p.1:=congrArg (·.1) hy.p;have c2:y.2.2.2.1=m.p.2.1:=congrArg (·.2.1) hy.p;have c7:y.2.2.2.2.1=m.p.2.2:=congrArg (·.2.2) hy.p;rw[addr_add,<-d1,<-c2,<-c7];exact hb.cells 3 _ i4
 refine bE (λ(z:f7) h'=>∃j:Sl,aa B h0 h' (av z 153 (cQ (x.o,x.b,(id:Int),m.p.1,m.p.2.1,m.p.2.2,x.seed,j))::an 5 j 1 aB (x.Ia m id).data::bv a pw da offs mk.2.1 (bV ds s mk.2.2) m::an 3 gS 1 az x.got::fo 22 wS 3 1 az x.W::av b 183 (lc x (dB G) wS gS)::av c 108 (fe a y L t most k)::As)) ?_ ?_
 ·have dy:=b5 b7 dr;have I:∀{h':f9},bT h' b 183 (lc x (dB G) wS gS)->bT h' c 108 (fe a y L t most k)->df h' y m->bH.ok [(b.add 2,xz xH x.seed),((c.add 1).add 2,xz xF m.p.1),(((c.add 1).add 2).add 1,xz xF m.p.2.1),(((c.add 1).add 2).add 2,xz xF m.p.2.2),(b.add 1,xz xF x.b),(b,xz xF x.o)] h':=λ{h'} hb hc hy=>by
   have q:=b5 hc hy;exact⟨hb.cell i4,q.1,q.2.1,q.2.2.1,hb.cell i4,hb.cell0 i4,trivial⟩
  refine⟨b,i4,x.o,P.cell0 i4,b,i4,x.b,P.cell i4,c,i4,m.p,dy,b,i4,x.seed,P.cell i4,b,i4,dB G,P.cell i4,?_,?_⟩
  ·refine(xN G m.p x.seed id x.M (bu m.p).toNat m.p.2.2.toNat h6 c0 hp (by have:=(bN m.p).1 hp;omega) i4 F.ev F.ml).mono ?_;rintro _ h7 ⟨j,rfl,R7⟩;have H7:=H6.bR R7;refine⟨j,i4,I (H7.box 4 i4) (H7.box 5 i4) ((hS.cons.cons.cons.cons.cons.cons).here H7).1,H7.alloc ag i4 λdx h8 Q=>?_⟩;have Q:=Q.aY;refine⟨I (Q.box 5 i4) (Q.box 6 i4) ((hS.cons.cons.cons.cons.cons.cons.cons).here Q).1,?_⟩;refine Q.storeAll ag 0 i4 i4 (cQ (x.o,x.b,(id:Int),m.p.1,m.p.2.1,m.p.2.2,x.seed,j)) i4 i4 i4 i4 λh9 H9=>⟨trivial,j,H9⟩
  ·refine H6.alloc ag i4 λdx h8 Q=>?_;have Q:=Q.aY;obtain⟨dk,_,_,c6⟩:=(hS.cons.cons.cons.cons.cons.cons).here Q;refine⟨⟨(Q.box 4 i4).cell i4,I (Q.box 4 i4) (Q.box 5 i4) dk⟩,?_⟩;refine(xN G m.p x.seed id x.M (bu m.p).toNat m.p.2.2.toNat h8 c6 hp (by have:=(bN m.p).1 hp;omega) i4 F.ev F.ml).mono ?_;rintro _ h7 ⟨j,rfl,R7⟩;have H7:=Q.bR R7;refine⟨j,i4,I (H7.box 5 i4) (H7.box 6 i4) ((hS.cons.cons.cons.cons.cons.cons.cons).here H7).1,?_⟩;refine H7.storeAll ag 1 i4 i4 (cQ (x.o,x.b,(id:Int),m.p.1,m.p.2.1,m.p.2.2,x.seed,j)) i4 i4 i4 i4 λh9 H9=>⟨trivial,j,H9.nf⟩
 rintro z d2 ⟨j,a0⟩;have b0:=a0.box 0 i4;refine⟨(x.o,x.b,(id:Int),m.p.1,m.p.2.1,m.p.2.2,x.seed,j),b0.aE _ i4,?_⟩;have a6:=a0.seq 1 i4 λ_=>rfl;refine(pY (x.o,x.b,(id:Int),m.p.1,m.p.2.1,m.p.2.2,x.seed,j) (x.Ia m id) d2 ⟨⟨i4,i4,i4,i4,i4,F.seed⟩,a6⟩).mono ?_;rintro _ ec ⟨bq,rfl,b9⟩;rw[<-O]at b9;have al:=a0.bR b9;have cq:i0 cell<=2^20:=by
  rw[O];unfold cT;split
  ·exact qY (PR _ _) i6
  ·simp
 have al:=al.aK 8 [3,0,4,5,6,7];refine⟨bq,i4,(TX bq cell (al.seq 1 i4 λ_=>rfl) cq b4 ao al).mono ?_⟩;rintro _ d7 ⟨rfl,X⟩;rw[<-bb]at X⊢;have X:=X.aK 6 [2,3,4,0,5];refine⟨_,i4,bz (λe4=>?_) λe4=>?_⟩
 ·rw[g9 e4,g9 e4];refine⟨i4,?_⟩;exact(ul X).aK 3 [1,2,0]
 rw[e4,g0 i4,g0 rfl];obtain⟨A,ar⟩:∃A:Nat,K=(A:Int):=⟨K.toNat,i5⟩
 have E:A<i0 x.W:=by rw[F.wl];omega
 have a5:x.xT id (gr live s) s={x with W:=x.W.set A (x.W[A]++[(id:Int)]),got:=x.got++[s]}:=by unfold ja.xT;rw[a4,ar,qj,qd,qc E];rfl
 rw[a5];refine bE (λ(_:Unit) h'=>aa B h0 h' (bv a pw da offs S.2.1 (bV (bV ds s mk.2.2) s S.2.2) m::av c 108 (fe a y L t most k)::pL b G {x with W:=x.W.set A (x.W[A]++[(id:Int)]),got:=x.got++[s]}::As)) ?_ ?_
 ·obtain⟨rs,pp,b6,bd,dd,ad⟩:=aex E (X.aK 2 [1,0]);have d5:=ca _ (qf E);have J:∀{h':f9} {r r':HP} {Cs:List HP},aa B h0 h' (r::Ga wS x.W A rs::r'::av b 183 (lc x (dB G) wS gS)::Cs)->bT h' b 183 (lc x (dB G) wS gS)/\cellOf h' (pp.add (K.toNat*1))=dB (.slice (rs[A]'(by omega)).ptr (rs[A]'(by omega)).len (rs[A]'(by omega)).cap):=λ{h' r r' Cs} R=>
   ⟨R.box 3 i4,by rw[ar,qj];exact acn 1 b6 E bd i4 R⟩
  have Z:=ad.box 3 i4;have fin:∀{h':f9} {v v':Sl} {Cs:List HP},aa B h0 h' (an 3 v 1 az (x.W[A]++[(id:Int)])::Ga wS x.W A rs::an 3 v' 1 az (x.got++[s])::av b 183 (lc x (dB G) wS gS)::bv a pw da offs S.2.1 (bV (bV ds s mk.2.2) s S.2.2) m::av c 108 (fe a y L t most k)::As)->
    bH.ok [(b.add 4,xA wS.ptr wS.len wS.cap),(b.add 4,xA wS.ptr wS.len wS.cap)] h'/\∃a55:f7,(wS.ptr=dB a55/\0<=K/\K<(wS.len:Int))/\aj xJ (qE 22 (xB (dB (a55.add (K.toNat*1)))) (xA v.ptr v.len v.cap)) h' λ_ a1=>
     bH.ok [] a1/\∃br:f7,(dB b=dB br)/\aj xJ (qE 22 (xB (dB (br.add 5))) (xA v'.ptr v'.len v'.cap)) a1 λ_ a7=>bH.ok [] a7/\
      aa B h0 a7 (bv a pw da offs S.2.1 (bV (bV ds s mk.2.2) s S.2.2) m::av c 108 (fe a y L t most k)::pL b G {x with W:=x.W.set A (x.W[A]++[(id:Int)]),got:=x.got++[s]}::As):=λ{h' v v' Cs} R=>by
   have a9:=(J R).1;refine⟨⟨a9.cell i4,a9.cell i4,trivial⟩,aey b6 E ar R λa1 c9=>⟨trivial,b,i4,c9.storeAt ag 2 i4 i4 i4 i4 i4 (show 5<6 by decide) λa7 c8=>⟨trivial,?_⟩⟩⟩;exact(ul (x:={x with W:=x.W.set A (x.W[A]++[(id:Int)]),got:=x.got++[s]}) (wS:=wS) (gS:=v') (c8.aK 5 [1,0,2,3,4])).aK 3 [1,2,0]
  have am:∀{h':f9} {r r':HP} {Cs:List HP},aa B h0 h' (r::Ga wS x.W A rs::r'::av b 183 (lc x (dB G) wS gS)::Cs)->
    bH.ok [(b.add 5,xA gS.ptr gS.len gS.cap),(b.add 4,xA wS.ptr wS.len wS.cap),(b.add 4,xA wS.ptr wS.len wS.cap)] h':=λR=>⟨(J R).1.cell i4,(J R).1.cell i4,(J R).1.cell i4,trivial⟩
  have ax:∀{h':f9} {r r':HP} {Cs:List HP},aa B h0 h' (r::Ga wS x.W A rs::r'::av b 183 (lc x (dB G) wS gS)::Cs)->
    bH.ok [(b.add 5,xA gS.ptr gS.len gS.cap),(pp.add (K.toNat*1),.slice (rs[A]'(by omega)).ptr (rs[A]'(by omega)).len (rs[A]'(by omega)).cap),(b.add 4,xA wS.ptr wS.len wS.cap),(b.add 4,xA wS.ptr wS.len wS.cap)] h':=λR=>⟨(J R).1.cell i4,(J R).2,(J R).1.cell i4,(J R).1.cell i4,trivial⟩
  refine⟨b,i4,wS,Z.cell i4,b,i4,wS,Z.cell i4,pp,⟨bd,c5,(by rw[ar,dd];exact Int.ofNat_lt.2 E)⟩,rs[A]'(by omega),(J ad).2,b,i4,gS,Z.cell i4,?_,?_⟩
  ·refine ad.lit ag az gy i4 [(id:Int)] i4 (show 1*1<=2^20 by decide) i4 λv51 d0 D=>?_;have D:=D.aY;refine⟨ax D.rest,?_,?_⟩
   ·refine D.append ag 1 i4 gy ⟨_,_,i4,i4⟩ i4 i6 (λ_=>rfl) (D.seq 0 i4 λ_=>rfl) fx i9 λek cl f=>⟨am f.rest,?_⟩
    refine f.lit ag az gy i4 [s] i4 (show 1*1<=2^20 by decide) i4 λv53 a8 u=>?_;have u:=(u.aY).aK 3 [0,2];refine⟨am u.rest,?_⟩;refine u.append ag 3 i4 gy ⟨_,_,i4,i4⟩ i4 i6 (λ_=>rfl) (u.seq 0 i4 λ_=>rfl) fx i9 λef cf V=>?_;exact fin (Cs:=[]) V.rest
   ·refine D.lit ag az gy i4 [s] i4 (show 1*1<=2^20 by decide) i4 λei cl f=>?_;have f:=f.aY;refine⟨ax f.rest.rest,?_⟩;refine f.append ag 2 i4 gy ⟨_,_,i4,i4⟩ i4 i6 (λ_=>rfl) (f.seq 1 i4 λ_=>rfl) fx i9 λel a8 u=>⟨am u.rest.rest,?_⟩
    refine u.append ag 4 i4 gy ⟨_,_,i4,i4⟩ i4 i6 (λ_=>rfl) (u.seq 0 i4 λ_=>rfl) fx i9 λeg cf V=>?_;exact fin (Cs:=[]) V.rest.rest
  ·refine ad.lit ag az gy i4 [s] i4 (show 1*1<=2^20 by decide) i4 λeq d0 D=>?_;have D:=D.aY;refine⟨ax D.rest,?_⟩;refine D.lit ag az gy i4 [(id:Int)] i4 (show 1*1<=2^20 by decide) i4 λed cl f=>?_;have f:=f.aY;refine⟨ax f.rest.rest,?_⟩;refine f.append ag 2 i4 gy ⟨_,_,i4,i4⟩ i4 i6 (λ_=>rfl) (f.seq 0 i4 λ_=>rfl) fx i9 λes a8 u=>⟨am u.rest.rest,?_⟩
   refine u.append ag 4 i4 gy ⟨_,_,i4,i4⟩ i4 i6 (λ_=>rfl) (u.seq 1 i4 λ_=>rfl) fx i9 λeh cf V=>?_;exact fin (Cs:=[]) V.rest.rest
 rintro _ ej b2;refine⟨c,i4,k,(b2.box 1 i4).cell i4,c,i4,b2.storeAt ag 1 i4 i4 i4 i4 i4 (show 12<13 by decide) λc4 ab=>⟨i4,?_⟩⟩;have ab:aa B h0 c4 (bv a pw da offs S.2.1 (bV (bV ds s mk.2.2) s S.2.2) m::av c 108 (fe a y L t most (qe xF (k+1)))::pL b G {x with W:=x.W.set A (x.W[A]++[(id:Int)]),got:=x.got++[s]}::As):=ab;rw[af _]at ab;exact ab
end
theorem Gb{m:aw}{live set order:au}{c:aM}{id:Nat}{w:Pow}{ds:aC}:∀{l:List Nat},(gw m live set order c id w ds l).1.1=0->
  ∃i∈l,∃d,aS ds (fI order ((id:Int)+i))=dB d/\gr live (fI order ((id:Int)+i))∉set/\gu m d 1=eR/\gw m live set order c id w ds l=(iZ m c w ds (fI order ((id:Int)+i)) d,gr live (fI order ((id:Int)+i)),fI order ((id:Int)+i))
 |[],h=>j7
 |i::l,h=>by
  unfold gw at h⊢;dsimp only at h⊢;cases hd:aS ds (fI order ((id:Int)+i))with
  |none=>
   rw[hd]at h;obtain⟨j,b,r⟩:=Gb h;exact⟨j,qz _ b,r⟩
  |some d=>
   rw[hd]at h;dsimp only at h⊢;by_cases a:gr live (fI order ((id:Int)+i))∈set∨gu m d 1=false
   ·rw[g0 a]at h⊢;obtain⟨j,b,r⟩:=Gb h;exact⟨j,qz _ b,r⟩
   ·rw[g9 a];exact⟨i,qF,d,hd,λh=>a (.inl h),by cases hf:gu m d 1 with|true=>rfl|false=>exact absurd (.inr hf) a,rfl⟩
theorem Xe{m:aw}{c:aM}{w:Pow}{ds:aC}{s:Int}{d:aW}:∃a,(iZ m c w ds s d).2.2=bV ds s a:=by
 unfold iZ
 try dsimp only
 split
 ·exact⟨_,i4⟩
 ·exact⟨_,sG _ _ _ _⟩
theorem Gc{m:aw}{live set order:au}{c:aM}{id:Nat}{w:Pow}{ds:aC}(a:i0 ds=64){P:Int->Prop}(b:∀k,P k->∃d,aS ds k=dB d):∀{l:List Nat},∀k,P k->∃d,aS (gw m live set order c id w ds l).1.2.2 k=dB d
 |[],k,hk=>b k hk
 |i::l,k,hk=>by
  unfold gw
  try dsimp only
  cases hd:aS ds (fI order ((id:Int)+i))with
  |none=>exact Gc a b k hk
  |some d=>
   try dsimp only
   split
   ·exact Gc a b k hk
   ·obtain⟨f,e⟩:=Xe (m:=m) (c:=c) (w:=w) (ds:=ds) (s:=fI order ((id:Int)+i)) (d:=d)
    try dsimp only
    rw[e,iU a hd];split
    ·exact⟨_,i4⟩
    ·exact b k hk
theorem Oh{W:bP}{n:Nat}(h:∀l∈W,∀x∈l,x.toNat<=n):xR W<=n:=by
 have c:∀l:au,(∀x∈l,x.toNat<=n)->l.foldr (λx a=>max a x.toNat) 0<=n:=by
  intro l
  induction l with
  |nil=>intro _;exact zB _
  |cons x l ih=>
   intro h;rw[List.foldr_cons];have g:=ih λy d=>h y (qz _ d);have f:=h x qF;omega
 exact c _ λx b=>by
  obtain⟨l,e,b⟩:=vt.1 b;exact h l e x b
theorem Ge{m:aw}{live set:au}{w:Pow}{ds:aC}{x:ja}(F:mG m live x)(E:i0 x.got<64):mG m live (fw m live set w ds x).2.2.2/\((fw m live set w ds x).1=0->∃s,s∈live/\(fw m live set w ds x).2.2.2=x.xT (eG x.W) (gr live s) s)/\((fw m live set w ds x).1≠0->(fw m live set w ds x).2.2.2=x):=by
 unfold fw
 try dsimp only
 obtain⟨r,q⟩:∃r,r=gw m live set (dt x.o x.b live) (cT (x.Ia m (eG x.W))) (eG x.W) w ds (qt (dt x.o x.b live).length):=⟨_,rfl⟩
 rw[<-q];by_cases h:r.1.1=0
 ·rw[g0 h];obtain⟨i,n,d,G,H,h3,p⟩:=Gb (by rw[<-q];exact h);rw[<-q]at p;have n:=List.mem_range.1 n;have y:fI (dt x.o x.b live) ((eG x.W:Int)+i)∈live:=BC (Jm (by intro h;rw[h]at n;simp at n));have A:r.2.1=gr live (fI (dt x.o x.b live) ((eG x.W:Int)+i)):=by rw[p]
  have u:r.2.2=fI (dt x.o x.b live) ((eG x.W:Int)+i):=by rw[p]
  refine⟨?_,λ_=>⟨_,y,by rw[A,u]⟩,λt=>absurd h t⟩;have j:(x.xT (eG x.W) r.2.1 r.2.2).got.length=i0 x.got+1:=by simp[ja.xT]
  have a:∀l∈(x.xT (eG x.W) r.2.1 r.2.2).W,l∈x.W∨l=x.W.getD r.2.1.toNat []++[(eG x.W:Int)]:=λl g=>zR g;have e:∀k,x.W.getD k []∈x.W∨x.W.getD k []=[]:=λk=>by
   by_cases v:k<i0 x.W
   ·rw[fh [] v];exact .inl (qf v)
   ·exact .inr (by rw[qd,List.getElem?_eq_none i5];rfl)
  have D:=Of x.W;have B:=F.top;refine⟨F.seed,F.ev,F.ml,by show(x.W.set _ _).length=_;rw[List.length_set];exact F.wl,λl g=>?_,?_,i5,λs f=>?_⟩
  ·rw[j];rcases a l g with h|rfl
   ·have:=F.rl l h;omega
   ·rw[qp,List.length_singleton];rcases e r.2.1.toNat with h|h
    ·have:=F.rl _ h;omega
    ·rw[h,List.length_nil];omega
  ·rw[j];refine Oh λl g z c=>?_;rcases a l g with h|rfl
   ·have:=Jk (vt.2 ⟨l,h,c⟩);omega
   ·rcases qw.1 c with c|c
    ·rcases e r.2.1.toNat with h|h
     ·have:=Jk (vt.2 ⟨_,h,c⟩);omega
     ·rw[h]at c;cases c
    ·rw[qx.1 c];omega
  ·have f:s∈x.got++[r.2.2]:=f;rcases qw.1 f with h|h
   ·exact F.gi s h
   ·rw[qx.1 h,u];exact y
 ·rw[g9 h];exact⟨F,λt=>absurd t h,λ_=>rfl⟩
theorem Xf(p:Pm)(seed:Int)(W:bP)(t:Int):(iP p seed W t).1.length<=64:=by
 unfold iP;split
 ·split
  ·split
   ·exact zB _
   ·rename_i h _;split
    ·rename_i g b;obtain⟨y,a,rfl⟩:=qo.1 (List.mem_of_find?_eq_some b)
     try dsimp only
     rw[kH,(AT a).1];omega
    ·exact zB _
  ·exact zB _
 ·exact zB _
section
variable {pw:f7}
theorem TZ{c b S:f7}(y:bF)(L:Sl)(live:au)(t most k:Int)(x:ja)(hm:bp m=eR)(hp:bx m.p=eR)(hl:i0 live<=64)(J:∀k∈live,∃d,aS ds k=dB d)(hk:0<=k/\k<=2^39)(F:mG m live x)(N:x.got=[])(I:0<=most/\most<=64)
  (hS:St B h0 As λh=>df h y m/\Rd h L 1 az live/\tW h S m.p x.seed x.M)
  (H:aa B h0 h (bv a pw da offs w ds m::av c 108 (fe a y L t most k)::pL b S x::As)):
  ai xJ 123 #[xB (dB c),xB (dB b)] h λv h'=>v=xz xF (dl m live t most 65 w ds x).1/\
   aa B h0 h' (bv a pw da offs (dl m live t most 65 w ds x).2.1 (dl m live t most 65 w ds x).2.2.1 m::av c 108 (fe a y L t most (k+(dl m live t most 65 w ds x).2.2.2.got.length))::pL b S (dl m live t most 65 w ds x).2.2.2::As):=by
 refine ts Tryz.func123 ?_ (.two .n (.inn (.loop [] [(4,56)] .n)));obtain⟨G,hG⟩:∃G,G=dl m live t most 65 w ds x:=⟨_,rfl⟩
 rw[<-hG];refine aq (λ_:Nat×Pow×aC×ja=>()) (λz h'=>z.1+i0 z.2.2.2.got=65/\(i0 z.2.2.2.got:Int)<=most/\G=dl m live t most z.1 z.2.1 z.2.2.1 z.2.2.2/\mG m live z.2.2.2/\z.2.2.2.seed=x.seed/\z.2.2.2.M=x.M/\(∀k∈live,∃d,aS z.2.2.1 k=dB d)/\
  aa B h0 h' (bv a pw da offs z.2.1 z.2.2.1 m::av c 108 (fe a y L t most (k+i0 z.2.2.2.got))::pL b S z.2.2.2::As)) (λz=>z.1) (65,w,ds,x) i4 ⟨by rw[N];rfl,by rw[N];exact I.1,hG,F,i4,i4,J,by rw[N];show aa B h0 h (_::av c _ (fe a y L t most (k+0))::_);rw[Int.add_zero];exact H⟩ ?_
 rintro⟨f,w1,D,j⟩ h1 ⟨hf,ay,g,K,es,eM,i,O⟩;dsimp only at hf ay g K es eM i O⊢;obtain⟨f',rfl⟩:∃f',f=f'+1:=⟨f-1,i5⟩
 have ab:=O.box 1 i4;obtain⟨wS,gS,H2⟩:=EF (O.aK 3 [2,0,1]);have V:=H2.box 2 i4;have ax:fA h1 wS 1 az j.W:=aa.BJ (H2.aK 2 [1,0]) λ_=>rfl;have ap:dN (bD (cw 1 az) 1 bi) h1 wS j.W:=by obtain⟨rs,q1,q2,q3⟩:=ax;exact⟨rs,q1,q2,q3⟩
 obtain⟨hy,a2,hM⟩:=(hS.cons.cons.cons).here O;have a1:y.2.2.1=m.p.1:=congrArg (·.1) hy.p;have ah:y.2.2.2.1=m.p.2.1:=congrArg (·.2.1) hy.p;have ao:y.2.2.2.2.1=m.p.2.2:=congrArg (·.2.2) hy.p;have a0:ba h1 ((c.add 1).add 2) 0 [xz xF m.p.1,xz xF m.p.2.1,xz xF m.p.2.2]:=by rw[addr_add,<-a1,<-ah,<-ao];exact ab.cells 3 _ i4
 refine⟨c,i4,m.p,a0,b,i4,j.seed,V.cell i4,b,i4,wS,V.cell i4,c,i4,t,ab.cell i4,?_⟩;refine(HG m.p j.seed wS j.W t h1 ap (by rw[K.wl];omega) (λl hl=>by have:=K.rl l hl;have:=K.gl;omega) (Int.le_refl _)).mono ?_;rintro _ h2 ⟨r,rfl,R2⟩;obtain⟨q,R⟩:∃q,q=iP m.p j.seed j.W t:=⟨_,rfl⟩
 rw[<-R]at R2⊢;rw[dl]at g;dsimp only at g;rw[<-R]at g;have X:=O.up R2.ac;refine⟨(r,q.2.1,q.2.2),i4,trivial,?_⟩
 try dsimp only
 refine bz (λe=>?_) λe=>?_
 ·rw[g0 e]at g;rw[g];exact⟨i4,X⟩
 rw[g9 λh=>h e]at g;refine aU (λe1=>?_) λe1=>?_
 ·rw[g0 e1]at g;rw[g];exact⟨i4,X⟩
 rw[g9 m4]at g;obtain⟨a3,am,H4⟩:=EF (X.aK 3 [2,0,1]);have ad:=H4.box 2 i4;have u:=(H4.own 0 i4).len;have Z:=X.box 1 i4;refine⟨b,i4,am,ad.cell i4,c,i4,most,Z.cell i4,ae (λY=>?_) λY=>?_⟩
 ·rw[u]at Y;rw[g0 Y]at g;rw[g];exact⟨i4,X⟩
 rw[u]at Y;rw[g9 Y]at g;have H5:=(O.bR R2).aK 4 [1,2,3,0];have ar:i0 q.1<=2^20:=by have:=Xf m.p j.seed j.W t;rw[R];omega
 have al:St B h0 (EA (cw 1 az) r q.1::As) λh=>df h y m/\Rd h L 1 az live/\Rd h r 1 az q.1/\tW h S m.p j.seed j.M:=λBs h' H'=>by
  obtain⟨z1,z2,z3⟩:=hS.cons Bs h' H';rw[es,eM];exact⟨z1,z2,(St.ee (A:=EA (cw 1 az) r q.1) (Q:=λh=>Rd h r 1 az q.1) 0 i4 λh' R=>R) Bs h' H',z3⟩
 refine(Xd y L r live q.1 t most (k+i0 j.got) j hm hp hl i (by have:=K.gl;omega) K ar al H5).mono ?_;rintro _ h6 ⟨rfl,o⟩;obtain⟨g1,g2,g3⟩:=Ge (set:=q.1) (w:=w1) (ds:=D) K i5;have U:∀k∈live,∃d,aS (fw m live q.1 w1 D j).2.2.1 k=dB d:=λk hk=>Gc (P:=λk=>k∈live) (mE O).1 i k hk;obtain⟨Q,hQ⟩:∃Q,Q=fw m live q.1 w1 D j:=⟨_,rfl⟩
 rw[<-hQ]at o g1 g2 g3 U g⊢;have o:=o.aK 4 [0,1,2];refine⟨_,i4,bz (λE=>?_) λE=>?_⟩
 ·rw[g0 E]at g;rw[g];refine⟨i4,?_⟩;rw[g9 E]at o;rw[g3 E]at o⊢;exact o
 ·rw[g9 λh=>h E]at g;rw[g0 E]at o;obtain⟨s,hs,eg⟩:=g2 E;have T:i0 Q.2.2.2.got=i0 j.got+1:=by rw[eg];simp[ja.xT]
  refine⟨(f',Q.2.1,Q.2.2.1,Q.2.2.2),i4,⟨?_,?_,g,g1,?_,?_,U,?_⟩,i7⟩
  ·(try dsimp only);omega
  ·(try dsimp only);omega
  ·(try dsimp only);rw[eg];exact es
  ·(try dsimp only);rw[eg];exact eM
  ·try dsimp only
   rw[T,Int.natCast_add,<-Int.add_assoc];exact o
end
noncomputable def ff(m:aw)(live:au)(ds:aC)(o:Int)(tries:au)(i:Nat):Int×ja:=
 let seed:=cb o i (tries.getD i 0);let r:=kZ m.p seed (dR m ds live o i)
 if r.2≠0 then(11,⟨o,i,seed,[],[],[]⟩)else if iv m.p seed r.1.length≠0 then(11,⟨o,i,seed,[],[],[]⟩)else(0,⟨o,i,seed,dj m.p seed r.1,dS m ds o i (aN ds m.drives),[]⟩)
theorem Xg{p:Pm}{seed:Int}{l:Nat}(h:iv p seed l=0):bx p=eR/\fq p seed (eF p)=eR/\(l:Int)=p.1*p.2.2:=by
 unfold iv at h;split at h
 ·rename_i a;rw[qu,decide_eq_true_eq]at a;split at h
  ·rename_i b;exact⟨a.1,b,a.2⟩
  ·cases h
 ·cases h
theorem Ib{m:aw}{ds:aC}{o b k:Int}(a:∀k d,aS ds k=dB d->i0 d.l<=512):i0 (gD m ds o b k)<=512:=by
 unfold gD;cases hd:aS ds k with
 |none=>exact zB _
 |some d=>exact qY (Bo m o b d.l) (a k d hd)
theorem Xh{m:aw}{ds:aC}{o b:Int}{live:au}(e:i0 live<=64)(a:∀k d,aS ds k=dB d->i0 d.l<=512):i0 (dR m ds live o b)<=64*512:=by unfold dR;exact qY (Aq (c:=512) λj _=>Ib a) (Nat.mul_le_mul_right _ e)
theorem Xi{m:aw}{ds:aC}{o b k:Int}{x:Int×aM}(h:x∈gD m ds o b k):0<=x.1/\x.1<=65535:=by obtain⟨d,r,_,e,_,_,rfl⟩:=Bz h;obtain⟨_,_,_,c⟩:=sE e;have a:=(gY.1 c).1;unfold iR at a;rw[qu,qu,qu]at a;have:=a.1.2.2;unfold bJ at this;rw[qu,decide_eq_true_eq,decide_eq_true_eq]at this;exact this
theorem KA{m:aw}{ds:aC}{o b:Int}{live l:au}(h:l∈dS m ds o b live):∃k∈live,l=(gD m ds o b k).map Prod.fst:=by unfold dS at h;obtain⟨k,a,rfl⟩:=qo.1 h;refine⟨k,a,?_⟩;unfold dR;rw[List.flatMap_cons,List.flatMap_nil,List.append_nil]
theorem Gg{m:aw}{live:au}{ds:aC}{o:Int}{tries:au}{i:Nat}(e:∀k d,aS ds k=dB d->i0 d.l<=512)(D:i0 (aN ds m.drives)=i0 live)(h:(ff m live ds o tries i).1=0):mG m live (ff m live ds o tries i).2/\(ff m live ds o tries i).2.got=[]:=by
 unfold ff at h⊢;dsimp only at h⊢;obtain⟨r,u⟩:∃r,r=kZ m.p (cb o i (tries.getD i 0)) (dR m ds live o i):=⟨_,rfl⟩
 rw[<-u]at h⊢;by_cases j:r.2≠0
 ·rw[g0 j]at h;cases h
 rw[g9 j]at h⊢;by_cases g:iv m.p (cb o i (tries.getD i 0)) r.1.length≠0
 ·rw[g0 g]at h;cases h
 rw[g9 g]at h⊢;obtain⟨a,b,c⟩:=Xg l7;obtain⟨K,H,w,n,B⟩:=Si a b c;have v:m.p.2.2.toNat=w:=B.size;have y:(bu m.p).toNat=n:=by have:=B.k;have:=B.h;have:=B.n;rw[bu,g0 a];omega
 refine⟨⟨jy _ _ _,by rw[v];exact B.nh.2,by rw[y];exact B.nh.1,by show(dS _ _ _ _ _).length=_;unfold dS;rw[qy];exact D,λl f=>?_,?_,zB _,λs A=>by cases A⟩,i4⟩
 ·obtain⟨k,_,rfl⟩:=KA f;rw[qy];have:=Ib (m:=m) (ds:=ds) (o:=o) (b:=i) (k:=k) e;omega
 ·refine qY (Oh (n:=65535) λl f x t=>?_) (by show(65535:Nat)<=2^20+0;decide);obtain⟨k,_,rfl⟩:=KA f;obtain⟨z,q,rfl⟩:=qo.1 t;have:=Xi q;omega
def xU(a:f7)(p:Pm)(seed:Int)(M:aI):HP:=HP.ex λm:Sl=>(av a 256 (Ds p seed m)).sep (gn 34 m 1 aB M)
section
variable {pw:f7}
theorem afc{a:f7}{p:Pm}{seed:Int}{M:aI}:St B h0 (xU a p seed M::As) λh=>tW h a p seed M:=λBs h' e=>by
 have d:=e.cons Bs.length (A:=xU a p seed M) (by rw[qi (qk _),Nat.sub_self];rfl);obtain⟨q,c⟩:=d.pR;have b:=c.rn;exact⟨q,b.box 1 i4,b.Cm 0 i4⟩
theorem Ua{c:f7}(y:bF)(f:Sl)(live:au)(t most k:Int)(x:dP)(e:Qw.ci)(i:Nat)(hm:bp m=eR)(hl:live.length<=64)(P:∀k∈live,∃d,aS ds k=dB d)(hi:i<e.tries.length)(bl:e.tries.length<=2^20)
  (hS:St B h0 As λh=>df h y m/\Rd h f 1 az live/\dN jN h x e)
  (H:aa B h0 h (bv a pw da offs w ds m::av c 108 (fe a y f t most k)::As)):
  ai xJ 122 #[xB (dB c),xE (cD x).toArray,xz xF i] h λv h'=>
   ((ff m live ds e.object e.tries i).1≠0->v=.tuple #[xB eH,xz xF (ff m live ds e.object e.tries i).1]/\aa B h0 h' (bv a pw da offs w ds m::av c 108 (fe a y f t most k)::As))/\
   ((ff m live ds e.object e.tries i).1=0->∃b cd:f7,v=.tuple #[xB (dB b),xz xF 0]/\aa B h0 h' (bv a pw da offs w ds m::av c 108 (fe a y f t most k)::pL b cd (ff m live ds e.object e.tries i).2::xU cd m.p (ff m live ds e.object e.tries i).2.seed (ff m live ds e.object e.tries i).2.M::As)):=by
 have hz:=jD hm;have ao:=(mE H).2;have Q:∀k d,aS ds k=dB d->d.l.length<=512:=λk d hd=>by have:=ao k d hd;omega
 obtain⟨seed,W⟩:∃seed,seed=cb e.object i (e.tries.getD i 0):=⟨_,rfl⟩
 obtain⟨r,hr⟩:∃r,r=kZ m.p seed (dR m ds live e.object i):=⟨_,rfl⟩
 have eP:ff m live ds e.object e.tries i=(if r.2≠0 then(11,⟨e.object,i,seed,[],[],[]⟩)else if iv m.p seed r.1.length≠0 then(11,⟨e.object,i,seed,[],[],[]⟩)else(0,⟨e.object,i,seed,dj m.p seed r.1,dS m ds e.object i (aN ds m.drives),[]⟩)):=by rw[hr,W];rfl
 refine ts Tryz.func122 ?_ (.two .n (.two (.join [(8,MJ)] [(8,9),(11,25)] .n) (.two (.join [(9,cF),(10,aT)] [(9,11),(25,55)] .n) (.two .n (.two (.join [] [(6,8),(10,11),(57,76)] (.two (.join [(10,aT)] [(10,11),(57,74)] .n) .n)) (.two (.join [] [(76,87)] .n) .n)))))) (args:=[(dB c),x,(i:Int)]);refine H.boxed λj h1 Y=>?_;have Y:aa B h0 h1 (av j 111 (cD x)::bv a pw da offs w ds m::av c 108 (fe a y f t most k)::As):=Y.aY;obtain⟨hy,a9,hx⟩:=(hS.cons.cons.cons).here Y;have g:=Y.box 0 i4;obtain⟨⟨x1,x2,x3⟩,x4⟩:=id hx;have bq:=x4.len;have no:∀{h':f9} {Cs:List HP},aa B h0 h' (av j 111 (cD x)::bv a pw da offs w ds m::av c 108 (fe a y f t most k)::As)->(ff m live ds e.object e.tries i).1=11->
   ((ff m live ds e.object e.tries i).1≠0->Value.tuple #[xB eH,xz xF 11]=.tuple #[xB eH,xz xF (ff m live ds e.object e.tries i).1]/\aa B h0 h' (bv a pw da offs w ds m::av c 108 (fe a y f t most k)::As))/\
   ((ff m live ds e.object e.tries i).1=0->∃b cd:f7,Value.tuple #[xB eH,xz xF 11]=.tuple #[xB (dB b),xz xF 0]/\aa B h0 h' (bv a pw da offs w ds m::av c 108 (fe a y f t most k)::pL b cd (ff m live ds e.object e.tries i).2::xU cd m.p (ff m live ds e.object e.tries i).2.seed (ff m live ds e.object e.tries i).2.M::As)):=λ{h' Cs} H' he=>by
  rw[he];exact⟨λ_=>⟨i4,H'.rest⟩,λh=>absurd h i6⟩
 have N:∀{h':f9},df h' y m->bT h' c 108 (fe a y f t most k)->ba h' ((c.add 1).add 2) 0 [xz xF m.p.1,xz xF m.p.2.1,xz xF m.p.2.2]:=λ{h'} hy hc=>by
  have a7:y.2.2.1=m.p.1:=congrArg (·.1) hy.p;have am:y.2.2.2.1=m.p.2.1:=congrArg (·.2.1) hy.p;have ax:y.2.2.2.2.1=m.p.2.2:=congrArg (·.2.2) hy.p;rw[addr_add,<-a7,<-am,<-ax];exact hc.cells 3 _ i4
 obtain⟨D,G⟩:∃D:ja,D=⟨e.object,i,seed,[],[],[]⟩:=⟨_,rfl⟩
 refine bE (λ(z:bK) h'=>∃b:f7,z=dB b/\aa B h0 h' (av b 183 (lc D eH ⟨eH,0,0⟩ ⟨eH,0,0⟩)::av j 111 (cD x)::bv a pw da offs w ds m::av c 108 (fe a y f t most k)::As)) ?_ ?_
 ·refine⟨x.2.1,g.cell i4,x.2.1,g.cell i4,x.2.2.2,g.cell i4,?_⟩;refine x4.bo i i4 hi e.tries[i] i4 ?_;refine(oL x.2.1 i e.tries[i] h1).mono ?_;rintro _ _ ⟨rfl,rfl⟩;refine⟨_,i4,⟨g.cell i4,g.cell i4,trivial⟩,?_⟩;refine Y.boxed λa8 h3 S=>?_;have S:=S.aY;refine⟨⟨(S.box 1 i4).cell i4,(S.box 1 i4).cell i4,trivial⟩,a8,i4,?_⟩;have es:cb x.2.1 i e.tries[i]=seed:=by rw[W,x2,fh 0 hi]
  rw[es,x2]at S;rw[G];exact S
 rintro _ h4 ⟨b,rfl,T⟩;have ap:=T.box 0 i4;have I:=T.box 3 i4;have ad:=T.box 1 i4;obtain⟨X,V,bs⟩:=(hS.cons.cons.cons.cons).here T;have R:D.seed=seed:=by rw[G]
 have br:D.o=e.object:=by rw[G]
 refine bE (λ(z:Sl×Int) h'=>z.2=r.2/\aa B h0 h' (an 5 z.1 1 aB r.1::av b 183 (lc D eH ⟨eH,0,0⟩ ⟨eH,0,0⟩)::av j 111 (cD x)::bv a pw da offs w ds m::av c 108 (fe a y f t most k)::As)) ?_ ?_
 ·refine⟨c,i4,m.p,N X I,b,i4,seed,by rw[<-R];exact ap.cell i4,c,i4,dB a,I.cell0 i4,c,i4,f,I.cell i4,c,i4,y,I.cells 1 _ i4,x.2.1,ad.cell i4,?_⟩;rw[x2];refine(PQ y f live e.object i X hz V i5 P (T.aK 3 [2])).mono ?_;rintro _ h5 ⟨J,ss,rfl,R5⟩;have Z:=T.up R5.ac;have L:Fix lZ 2 piv h5 (λb=>b<h5.size) J ss (dR m ds live e.object i):=R5.at 0 i4;have ar:dN ED h5 J (dR m ds live e.object i):=⟨ss,L.1,L.2.1,L.2.2⟩
  have bd:=Xh (m:=m) (o:=e.object) (b:=i) hl Q;obtain⟨a6,_,_⟩:=(hS.cons.cons.cons.cons).here Z;have q5:=N a6 (Z.box 3 i4);refine⟨J,i4,⟨(Z.box 3 i4).cell0 i4,by rw[<-R];exact(Z.box 0 i4).cell i4,q5.1,q5.2.1,q5.2.2.1,trivial⟩,?_⟩;refine(HQ m.p seed J _ h5 ar).mono ?_;rintro _ h6 ⟨al,rfl,R6⟩;rw[<-hr]at R6⊢;have H6:=Z.bR R6;refine⟨(al,r.2),i4,⟨(H6.box 4 i4).cell0 i4,trivial⟩,i4,?_⟩;exact H6
 rintro⟨z,_⟩ h7 ⟨rfl,A⟩;dsimp only at A⊢;refine bz (λe1=>?_) λe1=>?_
 ·exact no (Cs:=[]) A.rest.rest (by rw[eP,g0 e1])
 have a0:=A.own 0 i4;refine bE (λ(_:Unit) h'=>iv m.p seed r.1.length=0/\∃cd:f7,aa B h0 h' (av b 183 (lc D (dB cd) ⟨eH,0,0⟩ ⟨eH,0,0⟩)::xU cd m.p seed (dj m.p seed r.1)::av j 111 (cD x)::bv a pw da offs w ds m::av c 108 (fe a y f t most k)::As)) ?_ ?_
 ·refine bE (λ(z:Int) h'=>(z≠0->iv m.p seed r.1.length≠0/\aa B h0 h' (av j 111 (cD x)::bv a pw da offs w ds m::av c 108 (fe a y f t most k)::As))/\(z=0->iv m.p seed r.1.length=0/\∃cd:f7,aa B h0 h' (av b 183 (lc D (dB cd) ⟨eH,0,0⟩ ⟨eH,0,0⟩)::xU cd m.p seed (dj m.p seed r.1)::av j 111 (cD x)::bv a pw da offs w ds m::av c 108 (fe a y f t most k)::As))) ?_ ?_
  ·obtain⟨a5,_,_⟩:=(hS.cons.cons.cons.cons.cons).here A;refine⟨c,i4,m.p,N a5 (A.box 4 i4),b,i4,seed,by rw[<-R];exact(A.box 1 i4).cell i4,?_⟩;refine(Nj m.p seed z r.1 h7 (A.seq 0 i4 λ_=>rfl) a0.cap).mono ?_;rintro _ h8 ⟨n1,n2⟩;by_cases u:iv m.p seed r.1.length=0
   ·obtain⟨cd,mm,rfl,R8⟩:=n1 u;have H8:=(A.comp R8).front;refine⟨(dB cd,0),i4,trivial,b,i4,?_⟩;refine H8.storeAt ag 3 i4 i4 i4 i4 i4 (show 3<6 by decide) λh9 U=>⟨trivial,?_⟩
    have ab:aa B h0 h9 (xU cd m.p seed (dj m.p seed r.1)::an 5 z 1 aB r.1::av b 183 (lc D (dB cd) ⟨eH,0,0⟩ ⟨eH,0,0⟩)::av j 111 (cD x)::bv a pw da offs w ds m::av c 108 (fe a y f t most k)::As):=
     aa.td (F:=λq:Sl=>(av cd 256 (Ds m.p seed q)).sep (gn 34 q 1 aB (dj m.p seed r.1))) mm U.lq
    exact⟨λh=>absurd i4 h,λ_=>⟨u,cd,ab.aK 3 [2,0]⟩⟩
   ·obtain⟨rfl,R8⟩:=n2 u;have H8:=A.up R8.ac;refine⟨(eH,iv m.p seed r.1.length),i4,trivial,b,i4,?_⟩;refine H8.storeAt ag 1 i4 i4 i4 i4 i4 (show 3<6 by decide) λh9 U=>⟨trivial,?_⟩
    exact⟨λ_=>⟨u,U.rest.rest⟩,λh=>absurd h u⟩
  ·rintro z h9 ⟨n1,n2⟩;refine bz (λe2=>?_) λe2=>n2 e2;obtain⟨u,U⟩:=n1 e2;exact no (Cs:=[]) U (by rw[eP,g9 λh=>h e1,g0 u])
 rintro _ bk ⟨u,cd,E⟩;have a2:ff m live ds e.object e.tries i=(0,⟨e.object,i,seed,dj m.p seed r.1,dS m ds e.object i (aN ds m.drives),[]⟩):=by rw[eP,g9 λh=>h e1,g9 λh=>h u]
 rw[a2]
 try dsimp only
 refine bE (λ(_:Unit) h'=>aa B h0 h' (bv a pw da offs w ds m::av c 108 (fe a y f t most k)::pL b cd ⟨e.object,i,seed,dj m.p seed r.1,dS m ds e.object i (aN ds m.drives),[]⟩::xU cd m.p seed (dj m.p seed r.1)::As)) ?_ ?_
 ·refine⟨c,i4,dB a,(E.box 4 i4).cell0 i4,x.2.1,(E.box 2 i4).cell i4,?_⟩;rw[x2];refine(Wm e.object i hm (E.aK 4 [3])).mono ?_;rintro _ bb ⟨O,rfl,a3⟩;have ay:=E.bR a3;refine⟨O,i4,trivial,b,i4,?_⟩;refine ay.storeAt ag 1 i4 i4 i4 i4 i4 (show 4<6 by decide) λa4 s=>⟨trivial,?_⟩
  have s:aa B h0 a4 (fo 22 O 3 1 az (dS m ds e.object i (aN ds m.drives))::av b 183 (lc ⟨e.object,i,seed,dj m.p seed r.1,dS m ds e.object i (aN ds m.drives),[]⟩ (dB cd) O ⟨eH,0,0⟩)::xU cd m.p seed (dj m.p seed r.1)::av j 111 (cD x)::bv a pw da offs w ds m::av c 108 (fe a y f t most k)::As):=by rw[G]at s;exact s
  have K:=(s.nil 3 1 az).aY;have ah:=ul (x:=⟨e.object,i,seed,dj m.p seed r.1,dS m ds e.object i (aN ds m.drives),[]⟩) K;exact ah.aK 5 [3,4,0,1]
 ·rintro _ b0 K;exact⟨λh=>absurd i4 h,λ_=>⟨b,cd,i4,K⟩⟩
end
theorem PS(w:Pow)(d:aW)(b:aM):(d.append w b).2.2.lost=d.lost:=by unfold aW.append;(repeat' split)<;>rfl
theorem DY(w:Pow)(d:aW)(l:bY):(d.rewrite w l).2.2.lost=d.lost:=by unfold aW.rewrite;(repeat' split)<;>rfl
theorem Xj(w:Pow)(d:aW):(d.sync w).2.2.lost=d.lost:=by unfold aW.sync;(repeat' split)<;>rfl
theorem Ic(m:aw)(w:Pow)(d:aW)(n:Int):(fH m w d n).2.2.lost=d.lost:=by
 unfold fH;split
 ·rfl
 ·split
  ·rfl
  ·split
   ·rfl
   ·exact DY _ _ _
structure io (ds ds':aC):Prop where
 len:i0 ds'=i0 ds
 at_:∀k,(aS ds' k).map aW.lost=(aS ds k).map aW.lost
theorem io.refl(ds:aC):io ds ds:=⟨i4,λ_=>rfl⟩
theorem io.trans{a b c:aC}(e:io a b)(d:io b c):io a c:=⟨d.len.trans e.len,λk=>(d.at_ k).trans (e.at_ k)⟩
theorem io.set{ds:aC}{k:Int}{d e:aW}(a:i0 ds=64)(b:aS ds k=dB d)(c:e.lost=d.lost):io ds (bV ds k e):=⟨uf _ _ _,λs=>by
 rw[iU a b];split
 ·rename_i h;subst h;rw[b];simp[c]
 ·rfl⟩
theorem io.live{ds a:aC}(h:io ds a)(l:au):aN a l=aN ds l:=by unfold aN;refine List.filter_congr λx _=>?_;unfold isLive;have:=h.at_ x;cases h1:aS a x<;>cases h2:aS ds x<;>rw[h1,h2]at this<;>first|rfl|cases this|(injection this with this;simp only[this])
theorem PT{m:aw}{c:aM}{w:Pow}{ds:aC}{s:Int}{d:aW}(a:i0 ds=64)(b:aS ds s=dB d):io ds (iZ m c w ds s d).2.2:=by
 unfold iZ
 try dsimp only
 split
 ·exact .set a b (Ic _ _ _ _)
 ·rw[sG];exact .set a b ((PS _ _ _).trans (Ic _ _ _ _))
theorem BD{m:aw}{live set order:au}{c:aM}{id:Nat}{w:Pow}{ds:aC}(a:i0 ds=64):∀{l:List Nat},io ds (gw m live set order c id w ds l).1.2.2
 |[]=>.refl _
 |i::l=>by
  unfold gw
  try dsimp only
  cases hd:aS ds (fI order ((id:Int)+i))with
  |none=>exact BD a
  |some d=>
   try dsimp only
   split
   ·exact BD a
   ·exact PT a hd
theorem Xk{m:aw}{live set:au}{w:Pow}{ds:aC}{x:ja}(a:i0 ds=64):io ds (fw m live set w ds x).2.2.1:=BD a
theorem Ie{m:aw}{live:au}{t most:Int}:∀{f:Nat} {w:Pow} {ds:aC} {x:ja},i0 ds=64->io ds (dl m live t most f w ds x).2.2.1
 |0,_,_,_,_=>.refl _
 |f+1,w,ds,x,h64=>by
  unfold dl
  try dsimp only
  split
  ·exact .refl _
  ·split
   ·exact .refl _
   ·split
    ·exact .refl _
    ·have a:=Xk (m:=m) (live:=live) (set:=(iP m.p x.seed x.W t).1) (w:=w) (x:=x) h64;split
     ·exact a
     ·exact a.trans (Ie (a.len.trans h64))
theorem DZ{m:aw}{live:au}{t most:Int}(i:most<=64):∀{f:Nat} {w:Pow} {ds:aC} {x:ja},mG m live x->mG m live (dl m live t most f w ds x).2.2.2/\(dl m live t most f w ds x).2.2.2.seed=x.seed/\(dl m live t most f w ds x).2.2.2.M=x.M
 |0,_,_,_,F=>⟨F,i4,i4⟩
 |f+1,w,ds,x,F=>by
  unfold dl
  try dsimp only
  split
  ·exact⟨F,i4,i4⟩
  ·split
   ·exact⟨F,i4,i4⟩
   ·split
    ·exact⟨F,i4,i4⟩
    ·rename_i k;obtain⟨g,j,h3⟩:=Ge F i5;have d:(fw m live (iP m.p x.seed x.W t).1 w ds x).2.2.2.seed=x.seed/\(fw m live (iP m.p x.seed x.W t).1 w ds x).2.2.2.M=x.M:=by
      by_cases h:(fw m live (iP m.p x.seed x.W t).1 w ds x).1=0
      ·obtain⟨s,_,e⟩:=j h;rw[e];exact⟨i4,i4⟩
      ·rw[h3 h];exact⟨i4,i4⟩
     split
     ·exact⟨g,d⟩
     ·obtain⟨a,b,c⟩:=DZ i g;exact⟨a,b.trans d.1,c.trans d.2⟩
theorem If:∀{l:au} {w:Pow} {ds:aC},i0 ds=64->io ds (eI l w ds).2.2
 |[],_,_,_=>.refl _
 |x::l,w,ds,h64=>by
  have a:io ds (gB w ds x).2.2:=by
   unfold gB;cases hd:aS ds x with
   |none=>exact .refl _
   |some d=>exact .set h64 hd (Xj _ _)
  rw[si];split
  ·exact a.trans (If (a.len.trans h64))
  ·exact a
theorem sH{m:aw}:∀{l:au} {w:Pow} {ds:aC},i0 ds=64->io ds (dw m l w ds).2.2
 |[],_,_,_=>.refl _
 |k::l,w,ds,h64=>by
  unfold dw;cases hd:aS ds k with
  |none=>exact sH h64
  |some d=>
   try dsimp only
   split
   ·exact sH h64
   ·have a:io ds (bV ds k (d.rewrite w (bW m d.l)).2.2):=.set h64 hd (DY _ _ _);split
    ·exact a.trans (sH (a.len.trans h64))
    ·exact a
noncomputable def dD(m:aw)(live:au)(t most:Int)(w:Pow)(ds:aC)(e:ci)(i:Nat):Int×Pow×aC×Nat:=
 let p:=ff m live ds e.object e.tries i
 if p.1≠0 then(p.1,w,ds,0)else
  let q:=dl m live t most 65 w ds p.2
  if q.1=14 then(14,q.2.1,q.2.2.1,q.2.2.2.got.length)else
   let z:=eI (cx q.2.2.2.got) q.2.1 q.2.2.1
   (if z.1≠0 then z.1 else q.1,z.2.1,z.2.2,q.2.2.2.got.length)
theorem PU{m:aw}{live:au}{t most:Int}{w:Pow}{ds:aC}{e:ci}{i:Nat}(a:ds.length=64):io ds (dD m live t most w ds e i).2.2.1:=by
 unfold dD
 try dsimp only
 split
 ·exact .refl _
 ·have b:=Ie (m:=m) (live:=live) (t:=t) (most:=most) (f:=65) (w:=w) (x:=(ff m live ds e.object e.tries i).2) a;split
  ·exact b
  ·exact b.trans (If (b.len.trans a))
theorem Ub{m:aw}{live:au}{t most:Int}{w:Pow}{ds:aC}{e:ci}{i:Nat}(b:most<=64)(a:∀k d,aS ds k=dB d->i0 d.l<=512)(c:i0 (aN ds m.drives)=i0 live):(dD m live t most w ds e i).2.2.2<=64:=by
 unfold dD
 try dsimp only
 split
 ·exact zB _
 ·rename_i h;have F:=(Gg a c j6).1;have:=(DZ (t:=t) b (f:=65) (w:=w) (ds:=ds) F).1.gl;split<;>exact this
noncomputable def gz(m:aw)(live:au)(t most:Int)(e:ci):List Nat->Pow->aC->Nat->Int×Pow×aC×Nat
 |[],w,ds,k=>(0,w,ds,k)
 |i::l,w,ds,k=>
  let q:=dD m live t most w ds e i
  if q.1≠0 then(q.1,q.2.1,q.2.2.1,k+q.2.2.2)else gz m live t most e l q.2.1 q.2.2.1 (k+q.2.2.2)
noncomputable def kv(m:aw)(live:au)(t most:Int):List ci->Pow->aC->Nat->Int×Pow×aC×Nat
 |[],w,ds,k=>(0,w,ds,k)
 |e::l,w,ds,k=>
  let q:=gz m live t most e (qt e.tries.length) w ds k
  if q.1≠0 then q else kv m live t most l q.2.1 q.2.2.1 q.2.2.2
noncomputable def fl(m:aw)(offs:Int)(w:Pow)(ds:aC)(t most:Int):Nat×Int×Pow×aC:=
 if dn w offs then(0,14,w,ds)else if t<0∨t>=(i0 (aN ds m.drives):Int)∨most<0∨most>64 then(0,1,w,ds)else if iX (i0 (aN ds m.drives):Int) t>4096 then(0,13,w,ds)else
 let c:=dw m (aN ds m.drives) w ds
 if c.1≠0 then(0,c.1,c.2.1,c.2.2)else
  let q:=kv m (aN ds m.drives) t most m.objs c.2.1 c.2.2 0
  (q.2.2.2,q.1,q.2.1,q.2.2.1)
section
variable {pw:f7}
theorem PW{c:f7}(y:bF)(E:Sl)(live:au)(t most:Int)(k:Nat)(x:dP)(e:Qw.ci)(i:Nat)(G:bp m=eR)(o:live=aN ds m.drives)(W:k<=2^30)(j:0<=most/\most<=64)(hi:i<e.tries.length)(O:e.tries.length<=2^20)
  (X:St B h0 As λh=>df h y m/\Rd h E 1 az live/\dN jN h x e)
  (H:aa B h0 h (bv a pw da offs w ds m::av c 108 (fe a y E t most k)::As)):
  ai xJ 62 #[xB (dB c),xE (cD x).toArray,xz xF i] h λv h'=>v=xz xF (dD m live t most w ds e i).1/\
   aa B h0 h' (bv a pw da offs (dD m live t most w ds e i).2.1 (dD m live t most w ds e i).2.2.1 m::av c 108 (fe a y E t most ((k+(dD m live t most w ds e i).2.2.2:Nat):Int))::As):=by
 refine ts Tryz.func62 ?_ (args:=[(dB c),x,(i:Int)]);have hp:bx m.p=eR:=((dZ m).1 ((cv m).1 G).1).2.2.1;have P:=iH G;have hl:live.length<=64:=by rw[o];exact qY (qJ _ _) P
 have n:∀k∈live,∃d,aS ds k=dB d:=λk W=>by obtain⟨_,d,Q,_⟩:=iy (show k∈aN ds m.drives by rw[<-o];exact W);exact⟨d,Q⟩
 have L:=(mE H).2;have ab:=(mE H).1;have r:∀k d,aS ds k=dB d->d.l.length<=512:=λk d Q=>by have:=L k d Q;omega
 obtain⟨p,g⟩:∃p,p=ff m live ds e.object e.tries i:=⟨_,rfl⟩
 refine H.boxed λa1 h1 K=>?_;have K:=K.aY.aK 3 [1,2,0];refine⟨x,(K.box 2 i4).aE _ i4,(Ua y E live t most k x e i G hl n hi O X.cons K).mono ?_⟩;rw[<-g];rintro _ h2 ⟨n1,n2⟩;by_cases u:p.1=0
 rotate_left
 ·obtain⟨rfl,R⟩:=n1 u;have eb:dD m live t most w ds e i=(p.1,w,ds,0):=by unfold dD;(try dsimp only);rw[<-g,g0 u]
  rw[eb];exact⟨(eH,p.1),i4,bz (λ_=>⟨i4,R.aK 3 [0,1]⟩) λh=>absurd h u⟩
 obtain⟨b,cd,rfl,R⟩:=n2 u;have F:=Gg (m:=m) (live:=live) (ds:=ds) r (by rw[o]) (by rw[<-g];exact u);rw[<-g]at F;obtain⟨q,z⟩:∃q,q=dl m live t most 65 w ds p.2:=⟨_,rfl⟩
 have eb:dD m live t most w ds e i=(if q.1=14 then(14,q.2.1,q.2.2.1,q.2.2.2.got.length)else
   (if(eI (cx q.2.2.2.got) q.2.1 q.2.2.1).1≠0 then(eI (cx q.2.2.2.got) q.2.1 q.2.2.1).1 else q.1,(eI (cx q.2.2.2.got) q.2.1 q.2.2.1).2.1,(eI (cx q.2.2.2.got) q.2.1 q.2.2.1).2.2,q.2.2.2.got.length)):=by
  unfold dD;(try dsimp only);rw[<-g,g9 λh=>h u,<-z]
 refine⟨(dB b,0),i4,bz (λh=>absurd i4 h) λ_=>?_⟩;have V:St B h0 (xU cd m.p p.2.seed p.2.M::av a1 111 (cD x)::As) λh=>df h y m/\Rd h E 1 az live/\tW h cd m.p p.2.seed p.2.M:=λBs h' Y=>by
  obtain⟨z1,z2,_⟩:=X.cons.cons Bs h' Y;exact⟨z1,z2,afc Bs h' Y⟩
 refine(TZ y E live t most k p.2 G hp hl n i5 F.1 F.2 j V R).mono ?_;rw[<-z];rintro _ h3 ⟨rfl,Z⟩;refine⟨_,i4,bf (λI=>?_) λI=>?_⟩
 ·rw[eb,g0 I];exact⟨by rw[I],Z.aK 5 [0,1]⟩
 rw[eb,g9 I];have T:=(DZ (m:=m) (live:=live) (t:=t) (most:=most) j.2 (f:=65) (w:=w) (ds:=ds) F.1).1;rw[<-z]at T;obtain⟨wS,gS,D⟩:=EF (Z.aK 3 [2,0,1]);have ad:=D.box 4 i4;have D:=D.aK 5 [3,4,0,2];have S:∀s∈q.2.2.2.got,0<=s/\s<64:=λs J=>by
  have J:=T.gi s J;rw[o]at J;exact iB G s (iy J).1
 refine⟨c,i4,dB a,(D.box 1 i4).cell0 i4,b,i4,gS,(D.box 3 i4).cell i4,?_⟩;refine(ZJ gS q.2.2.2.got (St.ee (A:=an 3 gS 1 az q.2.2.2.got) 1 i4 λh' z=>z.1.seq (λ_=>rfl) z.2) (by have:=T.gl;omega) S D).mono ?_;rintro _ h5 ⟨rfl,U⟩;refine⟨_,i4,⟨(U.box 1 i4).cell0 i4,trivial⟩,bz (λN=>?_) λN=>?_⟩
 ·rw[g0 N];exact⟨i4,U.aK 6 [0,1]⟩
 ·rw[g9 λh=>h N];exact⟨i4,U.aK 6 [0,1]⟩
def Jn(y:bF)(m:aw)(i:Nat)(e:Qw.ci)(x:dP):HP:=
 ⟨λh q=>(cU y m).p h q/\jN.p h q x e/\∃d,Qw.Seq h q y.2.2.2.2.2.2.2 4 cD d/\d[i]?=dB x,
  λa f=>⟨(cU y m).loc a.1 f,jN.loc a.2.1 f,by obtain⟨d,b,c⟩:=a.2.2;exact⟨d,b.ac f,c⟩⟩,
  λa g=>⟨(cU y m).mono a.1 g,jN.mono a.2.1 g,by obtain⟨d,b,c⟩:=a.2.2;exact⟨d,b.mono g,c⟩⟩⟩
theorem aez{y:bF}{i:Nat}(d:i<i0 m.objs)(H:aa B h0 h (cU y m::As)):∃x,aa B h0 h (Jn y m i m.objs[i] x::As):=
 aa.pR (H.fM 0 i4 λq c=>by
  have a:=c;obtain⟨b,e,g,f⟩:=bD.kg a.objs;exact⟨b[i]'(by omega),c,f i i5 d,b,e,qc i5⟩)
theorem afd{y:bF}{i:Nat}{e:Qw.ci}{x:dP}(H:aa B h0 h (Jn y m i e x::As)):aa B h0 h (cU y m::As):=H.fM 0 i4 λq a=>a.1
theorem Uc(t most:Int)(T:bp m=eR)(ht:-(2^62)<=t/\t<=2^62)(H:aa B h0 h (bv a pw da offs w ds m::As)):
  ai xJ 24 #[xB (dB a),xz xF t,xz xF most] h λv h'=>v=.tuple #[xz xF ((fl m offs w ds t most).1:Nat),xz xF (fl m offs w ds t most).2.1]/\aa B h0 h' (bv a pw da offs (fl m offs w ds t most).2.2.1 (fl m offs w ds t most).2.2.2 m::As):=by
 refine ts Tryz.func24 ?_ (.two .n (.two (.join [] [(6,8),(14,20)] .n) (.two .n (.two (.join [] [(6,8),(29,58)] (.inn (.two (.join [(29,nV)] [(29,49)] .n) .n))) (.two .n (.two (.two .n (.inn (.loop [(69,aT)] [(6,8),(11,14),(69,92)] (.two .n (.two .n (.two (.inn (.two .n (.two .n (.inn (.loop [(76,aT)] [(6,8),(12,14),(76,91)] .n))))) .n)))))) .n))))));have ao:=iH T;have al:=(mE H).1;obtain⟨live,f⟩:∃live,live=aN ds m.drives:=⟨_,rfl⟩
 have a6:live.length<=64:=by rw[f];exact qY (qJ _ _) ao
 obtain⟨G,l⟩:∃G,G=fl m offs w ds t most:=⟨_,rfl⟩
 rw[<-l];unfold fl at l;rw[<-f]at l;refine aO (bc (λe=>j1) λ_=>(NF H).mono ?_);rintro _ h1 ⟨rfl,rfl⟩;refine⟨_,i4,bc (λe=>?_) λe1=>?_⟩
 ·rw[g0 e]at l;rw[l];exact⟨i4,H⟩
 rw[g9 m4]at l;refine(Zf T H).mono ?_;rintro _ h2 ⟨y,rfl,R2⟩;have H2:=H.bR R2;refine⟨y,i4,(NE T (H2.aK 2 [1,0])).mono ?_⟩;rintro _ h3 ⟨c,rfl,R3⟩;rw[<-f]at R3;have H3:=H2.bR R3;refine⟨c,i4,H3.boxed λa5 h5 U=>?_⟩;have U:=(U.aY).aK 4 [3,0,1,2];have Y:=(U.own 2 i4).len;have ah:=U.box 1 i4;refine aO (bE (λ(b:Bool) h'=>b=decide (t<0∨t>=(live.length:Int)∨most<0∨most>64)/\h'=h5) ?_ ?_)
 ·refine ae (λe=>⟨by rw[hU (.inl e)],i4⟩) λea=>⟨a5,i4,c,ah.cell i4,ae (λe=>⟨by rw[hU (.inr (.inl i5))],i4⟩) λeb=>ae (λe=>⟨by rw[hU (.inr (.inr (.inl e)))],i4⟩) λec=>⟨?_,i4⟩⟩
  rw[decide_eq_decide];omega
 rintro b h6 ⟨rfl,rfl⟩;refine ae (λe=>by rw[g0 e]at l;rw[l];exact⟨i4,U.aK 4 [0]⟩) λe2=>?_;rw[g9 e2]at l;have u:0<=most/\most<=64:=i5
 refine⟨a5,i4,c,ah.cell i4,(Aw ((c.len:Nat):Int) t h6 i5 ht).mono ?_⟩;rintro _ h7 ⟨rfl,rfl⟩;rw[Y];refine⟨_,i4,ae (λe=>by rw[g0 e]at l;rw[l];exact⟨i4,U.aK 4 [0]⟩) λe3=>?_⟩;rw[g9 e3]at l;dsimp only at l;have hS:St B h0 (av a5 108 (fe a y c t most 0)::an 3 c 1 az live::cU y m::As) λh=>bT h a5 108 (fe a y c t most 0)/\df h y m/\Rd h c 1 az live:=λBs h' K=>
  ⟨(St.ee (A:=av a5 108 (fe a y c t most 0)) 0 i4 λ_ q=>q.1) Bs h' K,(St.ee (A:=cU y m) 2 i4 λ_ q=>q) Bs h' K,(St.ee (A:=an 3 c 1 az live) (Q:=λh=>Rd h c 1 az live) 1 i4 λh' q=>q.1.seq (λ_=>rfl) q.2) Bs h' K⟩
 refine(TV y c live t most 0 T a6 (λk hk=>by obtain⟨_,d,hd,_⟩:=iy (show k∈aN ds m.drives by rw[<-f];exact hk);exact⟨d,hd⟩) hS U).mono ?_;rintro _ h8 ⟨rfl,H8⟩;obtain⟨S,X⟩:∃S,S=dw m live w ds:=⟨_,rfl⟩
 have P:io ds S.2.2:=by rw[X];exact sH al
 rw[<-X]at H8 l⊢;refine⟨_,i4,bz (λe=>by rw[g0 e]at l;rw[l];exact⟨i4,H8.aK 4 [0]⟩) λe4=>?_⟩;rw[g9 λh=>h e4]at l;have a9:=H8.box 1 i4;have a7:df h8 y m:=H8.at 3 i4;refine⟨a5,i4,y.2.2.2.2.2.2.2,by rw[addr_add];exact a9.cell i4,?_⟩;have bd:m.objs.length<=12:=((cv m).1 T).2.2.2.1;have ap:∀e∈m.objs,e.tries.length<=8:=λe he=>by
  have h1:=(iS m e).1 (((cv m).1 T).2.2.2.2.1 e he);have h2:=oR h1.2.2.1.2;omega
 have b4:=bD.len a7.objs;have br:St B h0 (an 3 c 1 az live::cU y m::As) λh=>df h y m/\Rd h c 1 az live:=λBs h' K=>
  ⟨(St.ee (A:=cU y m) 1 i4 λ_ q=>q) Bs h' K,(St.ee (A:=an 3 c 1 az live) (Q:=λh=>Rd h c 1 az live) 0 i4 λh' q=>q.1.seq (λ_=>rfl) q.2) Bs h' K⟩
 refine aq (λz:Nat×Pow×aC×Nat=>(z.1:Int)) (λz h'=>z.1<=m.objs.length/\z.2.2.2<=z.1*512/\io ds z.2.2.1/\kv m live t most m.objs S.2.1 S.2.2 0=kv m live t most (m.objs.drop z.1) z.2.1 z.2.2.1 z.2.2.2/\
  aa B h0 h' (bv a pw da offs z.2.1 z.2.2.1 m::av a5 108 (fe a y c t most (z.2.2.2:Nat))::an 3 c 1 az live::cU y m::As)) (λz=>m.objs.length-z.1) (0,S.2.1,S.2.2,0) i4 ⟨zB _,zB _,P,i4,H8⟩ ?_
 rintro⟨i,w1,V,k⟩ h9 ⟨hi,hk,W,J,H9⟩;dsimp only at hi hk W J H9⊢;refine ae (λe5=>?_) λe5=>?_
 rotate_left
 ·have a8:i=m.objs.length:=i5
  rw[a8,yq]at J;rw[J]at l;rw[l];exact⟨a5,i4,(k:Int),(H9.box 1 i4).cell i4,i4,H9.aK 4 [0]⟩
 have O:i<m.objs.length:=by have b1:(i:Int)<(y.2.2.2.2.2.2.2.len:Int):=e5;omega
 obtain⟨x,M⟩:=aez O (H9.aK 4 [3,0,1,2]);obtain⟨E,N⟩:∃E,E=m.objs[i]:=⟨_,rfl⟩
 rw[<-N]at M;obtain⟨bk,bl,ys,a2,ay⟩:=M.at 0 rfl;obtain⟨ax,a0⟩:=ql.1 ay;have b2:E.tries.length<=8:=ap E (by rw[N];exact qf O);refine a2.dY (g:=cD) i i4 ax x (by rw[a0]) ?_;refine M.alloc ag i4 λZ b0 R=>?_;have R:=R.aY;refine R.storeAll ag 0 i4 i4 (cD x) i4 i4 i4 i4 λbs D=>?_;have D:=D.aK 5 [2,3,0,1,4];have b3:=(D.at 3 i4).2.1.2.len;refine⟨x.2.2.2,(D.box 2 i4).cell i4,?_⟩;have am:St B h0 (av Z 111 (cD x)::Jn y m i E x::an 3 c 1 az live::As) λh=>df h y m/\Rd h c 1 az live/\dN jN h x E:=λBs h' K=>by
  obtain⟨z1,z2,_⟩:=(St.ee (A:=Jn y m i E x) (Q:=λh=>(Jn y m i E x).p h λb=>b<h.size) 1 rfl λ_ q=>q) Bs h' K;exact⟨z1,(St.ee (A:=an 3 c 1 az live) (Q:=λh=>Rd h c 1 az live) 2 i4 λh' q=>q.1.seq (λ_=>rfl) q.2) Bs h' K,z2⟩
 have e0:m.objs.drop i=E::m.objs.drop (i+1):=by rw[N];exact qI O
 rw[e0,kv]at J;obtain⟨Q,hQ⟩:∃Q,Q=gz m live t most E (qt E.tries.length) w1 V k:=⟨_,rfl⟩
 rw[<-hQ]at J;refine aq (λz:Nat×Pow×aC×Nat=>(z.1:Int)) (λz h'=>z.1<=E.tries.length/\z.2.2.2<=k+z.1*64/\io ds z.2.2.1/\Q=gz m live t most E ((qt E.tries.length).drop z.1) z.2.1 z.2.2.1 z.2.2.2/\
  aa B h0 h' (bv a pw da offs z.2.1 z.2.2.1 m::av a5 108 (fe a y c t most (z.2.2.2:Nat))::av Z 111 (cD x)::Jn y m i E x::an 3 c 1 az live::As)) (λz=>E.tries.length-z.1) (0,w1,V,k) i4 ⟨zB _,qk _,W,hQ,D⟩ ?_
 rintro⟨j,w2,F,k2⟩ b5 ⟨hj,a4,s,o,r⟩;dsimp only at hj a4 s o r⊢;have bq:i<=12:=i5
 refine ae (λe6=>?_) λe6=>?_
 ·have a1:j<E.tries.length:=by have a3:(j:Int)<(x.2.2.2.len:Int):=e6;omega
  have hd:(qt E.tries.length).drop j=j::(qt E.tries.length).drop (j+1):=by rw[qI i9,vh]
  rw[hd,gz]at o;have L:live=aN F m.drives:=by rw[s.live];exact f
  refine⟨x,(r.box 2 i4).aE _ i4,(PW y c live t most k2 x E j T L i5 u a1 i5 am r).mono ?_⟩;rintro _ b6 ⟨rfl,I⟩;have ad:=Ub (m:=m) (live:=live) (t:=t) (most:=most) (w:=w2) (ds:=F) (e:=E) (i:=j) u.2 (λk d hd=>by have:=(mE r).2 k d hd;omega) (by rw[<-L]);have ab:=PU (m:=m) (live:=live) (t:=t) (most:=most) (w:=w2) (ds:=F) (e:=E) (i:=j) (s.len.trans al);obtain⟨b,hb⟩:∃b,b=dD m live t most w2 F E j:=⟨_,rfl⟩
  rw[<-hb]at I o ad ab⊢;refine⟨_,i4,bz (λe7=>?_) λe7=>?_⟩
  ·rw[g0 e7]at o;rw[o,g0 e7]at J;rw[J]at l;rw[l];exact⟨a5,i4,((k2+b.2.2.2:Nat):Int),(I.box 1 i4).cell i4,i4,I.aK 5 [0]⟩
  ·rw[g9 λh=>h e7]at o;refine⟨(j+1,b.2.1,b.2.2.1,k2+b.2.2.2),js,⟨i7,i7,s.trans ab,o,I⟩,i7⟩
 ·have bb:j=E.tries.length:=by have a3:¬(j:Int)<(x.2.2.2.len:Int):=e6;omega
  rw[bb,List.drop_of_length_le jj,gz]at o;rw[o,g9 λh=>h rfl]at J;have ar:=(afd (r.aK 4 [3,0,1])).aK 3 [1,2,0];refine⟨(i+1,w2,F,k2),js,⟨i7,i7,s,J,?_⟩,i7⟩;exact ar.aK 4 [0,1,3,2]
end
section
variable {d e f:aW}
structure GrD (m:aw) (d e:aW):Prop where
 lost:e.lost=d.lost
 room:e.room=d.room
 pg:∀c∈e.l,lO c≠eH->c∈d.l∨c∈aX m
 whole:(∀c∈aX m,c∈d.l)->∀c∈aX m,c∈e.l
 q:d.laid=[]/\d.has=false->e.laid=[]/\e.has=false
structure GrS (T:aW->aW->Prop) (ds ds':aC):Prop where
 len:i0 ds'=i0 ds
 at_:∀k d,aS ds k=dB d->∃e,aS ds' k=dB e/\T d e
 no:∀k,aS ds k=eH->aS ds' k=eH
variable {T:aW->aW->Prop}
end
end Go.Qw
