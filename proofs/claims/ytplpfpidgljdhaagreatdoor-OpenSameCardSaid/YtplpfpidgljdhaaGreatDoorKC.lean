/- Lemmas for the proof of the law; no condition. -/
import Derived.Test.YtplpfpidgljdhaaGreatDoorKB
set_option maxHeartbeats 2000000
set_option linter.unusedVariables false
set_option maxHeartbeats 4000000
set_option linter.unusedSimpArgs false
open Go.Proofs.Tryz renaming prog -> xP
open List renaming drop -> xE, eq_replicate_iff -> vX, find?_some -> xl, getElem?_zip_eq_some -> vG, getElem_append_right -> wB, getElem_set_self -> vW, length_eq_zero_iff -> ve, mem_filterMap -> yx, mem_iff_getElem? -> yX, mem_of_find?_eq_some -> wU, range -> qx, replicate -> qi, take_add -> xy, zipWith -> zf
open Option renaming some -> zW
open Go.Value renaming agg -> xK, bool -> xJ, int -> xF, pointer -> xH, slice -> xG, string -> xI
open Go.IntKind renaming bits -> qH, i64 -> xL, u32 -> xN, u8 -> xM, wrap -> qe
open Nat renaming le_of_ble_eq_true -> zG
open Bool renaming and_eq_false_iff -> vt, eq_iff_iff -> yK
open Go.Instr renaming makeSlice -> zA, storeAt -> qG
open BitVec renaming ofInt -> qO
open Prod renaming fst -> qt, snd -> zh
set_option maxRecDepth 100000
open Option renaming some -> dB, none -> eH
open Bool renaming true -> eX, false -> fz
open Go renaming Addr -> f8
open Go.Qw renaming cellOf -> f9, Heap -> g0
open List renaming length -> i0
namespace Go.Qw
open Go.Proofs
theorem EF{m:av}{offs:Int}{w:Pow}{ds:aE}{n:av}(p:w.calm)(l:i0 ds=64)(s:fH w offs=fz)(r:bf n=eX)(H:n.seq=m.seq+1):
  let live:=aU ds n.drives;let N:Int->Int:=λ_=>(i0 (aM n):Int)
  (live=[]∨dR m ds live N=fz->cB m offs w ds n=(7,m,w,ds))/\(live≠[]->dR m ds live N=eX->∃ds',cB m offs w ds n=(0,n,w,ds')/\ds'.length=64/\
   ∀k,aV ds' k=(aV ds k).map λd=>if k∈live then dM (aM n) (de m d (aM n).length)else d):=by
 intro live N;have a:live.Nodup:=EE (po r);have e:cB m offs w ds n=(if live=[]∨dR m ds live N=fz then(7,m,w,ds)else
   if(makes m N live w ds).1≠0 then((makes m N live w ds).1,m,(makes m N live w ds).2)else
   ((layAll (bI n live) (makes m N live w ds).2.1 (makes m N live w ds).2.2).1,if(layAll (bI n live) (makes m N live w ds).2.1 (makes m N live w ds).2.2).1=0 then n else m,(layAll (bI n live) (makes m N live w ds).2.1 (makes m N live w ds).2.2).2)):=by
  unfold cB;rw[hU (by rw[s];decide),hU (by rw[r,hZ l0];decide)]
 refine⟨λh=>by rw[e,g9 h],λj g=>?_⟩;rw[e,hU (by rintro(h|h);exact j h;rw[g]at h;cases h)];obtain⟨u,z,F,q⟩:=Cu p (N:=N) a l g;rw[z]
 try dsimp only
 rw[hU jj];obtain⟨y,v,D,t⟩:=IT p (ds:=u) (P:=bI n live) F λx A=>by
  obtain⟨b,f⟩:=kR A;obtain⟨E,o,i⟩:=rJ (qJ.1 g x.1 b);obtain⟨B,G,I⟩:=IS i;refine⟨f,de m E (N x.1),?_,B,?_⟩
  ·rw[q,o,qQ,g9 b]
  ·rw[oO a,g9 b,G];have:N x.1=(i0 (aM n):Int):=rfl;omega
 rw[v];refine⟨y,i4,D,λk=>?_⟩;rw[t,q,Option.map_map];congr 1;funext d;show dM (lD (bI n live) k) (if k∈live then de m d (N k)else d)=_;rw[oO a];by_cases c:k∈live
 ·rw[g9 c,g9 c,g9 c]
 ·rw[hU c,hU c,hU c];rfl
structure Pg where
 seq:Int
 num:Int
 many:Int
 bears:aL
 cell:aL
def Pc(x c:aL):Pg:=⟨dv (x.take 4),((x.getD 4 0).toNat:Int),((x.getD 5 0).toNat:Int),(x.drop 7).take (x.getD 6 0).toNat,c⟩
def cI(c:aL):Option Pg:=
 match jw c with
 |some (k,x)=>if k=2/\(x.getD 6 0).toNat<=48/\(x.drop (7+(x.getD 6 0).toNat)).all (λb=>decide (b=0))=eX then dB (Pc x c)else eH
 |none=>eH
def tK(f:Pg)(i:Int)(x:Pg):Bool:=decide (x.seq=f.seq/\x.many=f.many/\x.num=i)
def jN(l:List Pg)(f:Pg):Nat->Option (List Pg)
 |0=>dB [f]
 |n+1=>match jN l f n with
  |none=>eH
  |some out=>match l.find? (tK f ((n+1:Nat):Int))with
   |none=>eH
   |some x=>dB (out++[x])
def kq(l:List Pg)(f:Pg):Option (List Pg):=if f.many<=0 then eH else jN l f (f.many.toNat-1)
def mj(s:List Pg):Option av:=
 match ky (s.flatMap Pg.bears)with
 |none=>eH
 |some m=>if aM m=s.map Pg.cell then dB m else eH
def dY(a:List Pg)(out:List av)(x:Pg):List av:=
 if x.num≠0 then out else match kq a x with
 |none=>out
 |some s=>match mj s with
  |none=>out
  |some m=>if out.any (λy=>decide (bK y=bK m))then out else out++[m]
def Pd(a:List Pg)(xs:List Pg):List av:=xs.foldl (dY a) []
def IW(a b:av):Bool:=decide (b.seq<=a.seq)
def gf(l:bP):List av:=(Pd (l.filterMap cI) (l.filterMap cI)).mergeSort IW
theorem UT{seq c a:Int}{b:aL}(i:0<=seq/\seq<4294967296)(q:0<=c/\c<256)(h3:0<=a/\a<256)(r:i0 b<=48):cI (km seq c a b)=dB ⟨seq,c,a,b,km seq c a b⟩:=by
 have l:i0 (bE seq 4++([b8 c,b8 a,b8 b.length]++b))=7+i0 b:=m5
 obtain⟨x,e⟩:∃x,x=bE seq 4++([b8 c,b8 a,b8 b.length]++b)++qi (55-i0 (bE seq 4++([b8 c,b8 a,b8 b.length]++b))) 0:=⟨_,rfl⟩
 have p:jw (km seq c a b)=dB (2,x):=by unfold km;rw[wf,e]
 have d:=Ib seq;have f:x.getD 6 0=b8 b.length:=by rw[e,d];rfl
 have n:x.getD 5 0=b8 a:=by rw[e,d];rfl
 have k:x.getD 4 0=b8 c:=by rw[e,d];rfl
 have m:x.take 4=bE seq 4:=by rw[e,d];rfl
 have h:x.drop 7=b++qi (55-(7+i0 b)) 0:=by rw[e,l,d];rfl
 have g:((b8 (i0 b:Int)).toNat)=i0 b:=by have:=pd (i0 b:Int);omega
 unfold cI;rw[p]
 try dsimp only
 have j:(b8 (i0 b:Int)).toNat<=48:=i5
 rw[g9 ⟨i4,by rw[f];exact j,by
  rw[f,g,<-zI,h,List.drop_left];exact qJ.2 λy o=>hY (List.eq_of_mem_replicate o)⟩]
 unfold Pc;rw[m,k,n,f,h,KR i.1 i.2,g,List.take_left];have:=pd c;have:=pd a;congr 2<;>omega
theorem Gk{c:aL}{g:Pg}(h:cI c=dB g):g.cell=c:=by
 unfold cI at h;split at h
 ·split at h
  ·injection h with h;rw[<-h];rfl
  ·cases h
 ·cases h
def nI(m:av)(i:Nat):Pg:=⟨m.seq,i,dE (bK m),((bK m).drop (48*i)).take 48,km m.seq i (dE (bK m)) (((bK m).drop (48*i)).take 48)⟩
theorem jb(m:av):aM m=(qx (dE (bK m))).map λi=>(nI m i).cell:=rfl
theorem adX{m:av}(a:bf m=eX):dE (bK m)<=9:=by
 have:=Qw.aga a;unfold aM at this
 rwa [qq,zt]at this
theorem iS{m:av}(a:bf m=eX){i:Nat}(d:i<dE (bK m)):cI (nI m i).cell=dB (nI m i):=by have c:=adX a;have b:=((dn m).1 ((bM m).1 a).1).1;exact UT ⟨i5,i5⟩ ⟨i5,i5⟩ ⟨i5,i5⟩ i9
theorem Gl(b:aL):∀n,(qx n).flatMap (λi=>(b.drop (48*i)).take 48)=b.take (48*n)
 |0=>jj
 |n+1=>by
  rw[zB,qY,Gl b n,za,List.flatMap_nil,qE,show 48*(n+1)=48*n+48 by omega,xy]
theorem EG(m:av):((qx (dE (bK m))).map (nI m)).flatMap Pg.bears=bK m:=by
 have h:((qx (dE (bK m))).map (nI m)).flatMap Pg.bears=(qx (dE (bK m))).flatMap (λi=>((bK m).drop (48*i)).take 48):=by rw[List.flatMap_map];rfl
 rw[h,Gl,qg (by unfold dE;omega)]
theorem Pe{m:av}(a:bf m=eX):mj ((qx (dE (bK m))).map (nI m))=dB m:=by
 unfold mj;rw[EG,BR.2 ⟨a,i4⟩]
 try dsimp only
 rw[g9 (by rw[jb,wL];rfl)]
theorem Gm{s:List Pg}{m:av}(h:mj s=dB m):bf m=eX/\aM m=s.map Pg.cell:=by
 unfold mj at h;split at h
 ·cases h
 ·rename_i c a;split at h
  ·rename_i b;injection h with h
   subst h;exact⟨(BR.1 a).1,b⟩
  ·cases h
theorem Gn{l:List Pg}{f:Pg}:∀{n:Nat} {s:List Pg},jN l f n=dB s->∀x∈s,x=f∨x∈l
 |0,s,h,x,hx=>by
  unfold jN at h;injection h with h;subst h;exact .inl (qu.1 hx)
 |n+1,s,h,x,hx=>by
  unfold jN at h;split at h
  ·cases h
  ·rename_i out a;split at h
   ·cases h
   ·rename_i y b;injection h with h
    subst h;rcases qz.1 hx with hx|hx
    ·exact Gn a x hx
    ·rw[qu.1 hx];exact .inr (wU b)
theorem QW{l:List Pg}{f:Pg}{s:List Pg}(h:kq l f=dB s)(a:f∈l):∀x∈s,x∈l:=by
 unfold kq at h;split at h
 ·cases h
 ·intro x b;rcases Gn h x b with rfl|h
  ·exact a
  ·exact h
theorem EH{a:List Pg}{out:List av}{x:Pg}{m:av}(h:m∈dY a out x):m∈out∨∃s,kq a x=dB s/\mj s=dB m:=by
 unfold dY at h;split at h
 ·exact .inl h
 ·split at h
  ·exact .inl h
  ·rename_i s c;split at h
   ·exact .inl h
   ·rename_i d b;split at h
    ·exact .inl h
    ·rcases qz.1 h with h|h
     ·exact .inl h
     ·rw[qu.1 h];exact .inr ⟨s,c,b⟩
theorem EI{a:List Pg}{m:av}:∀(xs:List Pg) (out:List av),m∈xs.foldl (dY a) out->m∈out∨∃x∈xs,∃s,kq a x=dB s/\mj s=dB m
 |[],out,h=>.inl h
 |x::xs,out,h=>by
  rcases EI xs _ h with h|⟨y,hy,s,hs⟩
  ·rcases EH h with h|⟨s,hs⟩
   ·exact .inl h
   ·exact .inr ⟨x,qM,s,hs⟩
  ·exact .inr ⟨y,qD _ hy,s,hs⟩
theorem Ml{a:List Pg}{out:List av}{x:Pg}{m:av}(h:m∈out):m∈dY a out x:=by
 unfold dY;split
 ·exact h
 ·split
  ·exact h
  ·split
   ·exact h
   ·split
    ·exact h
    ·exact zR _ h
theorem Dd{a:List Pg}{m:av}:∀(xs:List Pg) {out:List av},m∈out->m∈xs.foldl (dY a) out
 |[],_,h=>h
 |_::xs,_,h=>Dd xs (Ml h)
theorem Lz{a b:av}(d:bf a=eX)(e:bf b=eX)(h:bK a=bK b):a=b:=by
 have c:=BQ d;have f:=BQ e;rw[h,f]at c;injection c with c
 exact c.symm
theorem UU{l:bP}{m:av}(h:m∈Pd (l.filterMap cI) (l.filterMap cI)):bf m=eX/\∀c∈aM m,c∈l:=by
 rcases EI _ _ h with h|⟨x,hx,s,hs,hw⟩
 ·cases h
 ·obtain⟨e,f⟩:=Gm hw;refine⟨e,λc a=>?_⟩;rw[f]at a;obtain⟨g,d,rfl⟩:=qo.1 a;obtain⟨c,a,b⟩:=yx.1 (QW hs hx g d);rw[Gk b];exact a
theorem Hk{l:bP}{m:av}(h:m∈gf l):bf m=eX/\∀c∈aM m,c∈l:=UU (wC.1 h)
theorem Cw{m:av}(a:bf m=eX):0<dE (bK m):=by have:=NN a;have:0<i0 (bK m):=List.length_pos_iff.2 this;unfold dE;omega
theorem LA{l:bP}{m:av}(h:bf m=eX)(f:∀c∈l,∀g,cI c=dB g->g.seq=m.seq->c∈aM m){g:Pg}(d:g∈l.filterMap cI)(j:g.seq=m.seq):∃i,i<dE (bK m)/\g=nI m i:=by
 obtain⟨c,e,a⟩:=yx.1 d;have:=f c e g a j;rw[jb]at this;obtain⟨i,b,rfl⟩:=qo.1 this;have b:=qA.1 b;rw[iS h b]at a;injection a with a
 exact⟨i,b,a.symm⟩
theorem De{l:bP}{m:av}(b:bf m=eX)(e:∀c∈aM m,c∈l)(f:∀c∈l,∀g,cI c=dB g->g.seq=m.seq->c∈aM m):
  ∀n,n<dE (bK m)->jN (l.filterMap cI) (nI m 0) n=dB ((qx (n+1)).map (nI m))
 |0,_=>rfl
 |n+1,hn=>by
  unfold jN;rw[De b e f n i5]
  try dsimp only
  have a:nI m (n+1)∈l.filterMap cI:=yx.2 ⟨_,e _ (by rw[jb];exact qo.2 ⟨n+1,qA.2 hn,i4⟩),iS b hn⟩;cases hf:(l.filterMap cI).find? (tK (nI m 0) ((n+1:Nat):Int))with
  |none=>
   exfalso;have:=wu.1 hf _ a;exact this (hY ⟨i4,i4,i4⟩)
  |some x=>
   have h:=xl hf;have j:=wU hf;obtain⟨k,p,o⟩:=ii h;obtain⟨i,q,rfl⟩:=LA b f j k;have d:i=n+1:=vo.1 o;subst d
   try dsimp only
   rw[zB (n:=n+1),qL];rfl
theorem aaZ{l:bP}{m:av}(e:bf m=eX)(n:∀c∈aM m,c∈l)(q:∀c∈l,∀g,cI c=dB g->g.seq=m.seq->c∈aM m):m∈gf l:=by
 have p:=Cw e;unfold gf;rw[wC];have k:kq (l.filterMap cI) (nI m 0)=dB ((qx (dE (bK m))).map (nI m)):=by unfold kq;have i:(nI m 0).many=((dE (bK m):Nat):Int):=rfl;rw[i,hU (show¬((dE (bK m):Nat):Int)<=0 by omega),qj];have:=De e n q (dE (bK m)-1) i5;rw[show dE (bK m)-1+1=dE (bK m)by omega]at this;exact this
 have b:nI m 0∈l.filterMap cI:=yx.2 ⟨_,n _ (by rw[jb];exact qo.2 ⟨0,qA.2 p,i4⟩),iS e p⟩;obtain⟨a,f⟩:∃a,a=l.filterMap cI:=⟨_,rfl⟩
 rw[<-f]at k b⊢;have j:∀(xs:List Pg) (out:List av),(∀y∈out,bf y=eX)->nI m 0∈xs->m∈xs.foldl (dY a) out:=by
  intro xs
  induction xs with
  |nil=>intro out _ h;cases h
  |cons x xs ih=>
   intro out o h;rw[zy];rcases qX.1 h with rfl|h
   ·refine Dd xs ?_;unfold dY;rw[hU (show¬(nI m 0).num≠0 fromλh=>h i4),k]
    try dsimp only
    rw[Pe e]
    try dsimp only
    split
    ·rename_i r;obtain⟨y,d,t⟩:=wg.1 r;rw[Lz e (o y d) (ii t).symm];exact d
    ·exact wb _ (qu.2 i4)
   ·refine ih _ (λy d=>?_) h;rcases EH d with d|⟨s,_,hw⟩
    ·exact o y d
    ·exact(Gm hw).1
 exact j a [] jj b
theorem LB{l:bP}{m b:av}(k:bf m=eX)(o:∀c∈l,∀g,cI c=dB g->g.seq=m.seq->c∈aM m)(h:b∈gf l)(t:b.seq=m.seq):b=m:=by
 obtain⟨f,r⟩:=Hk h;have d:∀i,i<dE (bK b)->i<dE (bK m)/\nI b i=nI m i:=λi e=>by
  have q:(nI b i).cell∈aM b:=by rw[jb];exact qo.2 ⟨i,qA.2 e,i4⟩
  obtain⟨j,p,n⟩:=LA (l:=l) k o (yx.2 ⟨_,r _ q,iS f e⟩) t;have:i=j:=vo.1 (congrArg Pg.num n);subst this;exact⟨p,n⟩
 have s:=Cw f;have a:dE (bK b)=dE (bK m):=vo.1 (congrArg Pg.many (d 0 s).2);refine Lz f k ?_;rw[<-EG b,<-EG m,a];congr 1;exact List.map_congr_left λi e=>(d i (by rw[a];exact qA.1 e)).2
def gZ(o:Option av)(x:av):Option av:=match o with
 |none=>dB x
 |some m=>if m.seq<x.seq then dB x else dB m
def iD(d:Option aZ):List av:=match d with
 |none=>[]
 |some d=>if d.lost then[]else gf d.l
def ji(ds:aE):Option av:=(ds.flatMap iD).foldl gZ eH
theorem IX:∀(l:List av) (o:Option av),((l.foldl gZ o=eH↔l=[]/\o=eH))/\∀m,l.foldl gZ o=dB m->(dB m=o∨m∈l)/\(∀x∈l,x.seq<=m.seq)/\∀x,o=dB x->x.seq<=m.seq
 |[],o=>⟨jj,λm h=>⟨.inl h.symm,jj,λx a=>by rw[wQ,a]at h;injection h with h;rw[h];exact yC _⟩⟩
 |y::l,o=>by
  obtain⟨d,f⟩:=IX l (gZ o y);rw[zy];have g:gZ o y≠eH:=by unfold gZ;cases o with|none=>simp|some m=>dsimp only;split<;>simp
  refine⟨⟨λh=>absurd (d.1 h).2 g,λh=>by cases h.1⟩,λm h=>?_⟩;obtain⟨b,c,a3⟩:=f m h;cases o with
  |none=>
   have e:gZ eH y=dB y:=rfl;rw[e]at b a3;refine⟨.inr ?_,λx a=>?_,λx a=>by cases a⟩
   ·rcases b with b|b
    ·injection b with b;rw[b];exact qM
    ·exact qD _ b
   ·rcases qX.1 a with rfl|a
    ·exact a3 _ i4
    ·exact c x a
  |some z=>
   by_cases i:z.seq<y.seq
   ·have e:gZ (dB z) y=dB y:=by unfold gZ;(try dsimp only);rw[g9 i]
    rw[e]at b a3;have:=a3 y i4;refine⟨.inr ?_,λx a=>?_,λx a=>by injection a with a;subst a;omega⟩
    ·rcases b with b|b
     ·injection b with b;rw[b];exact qM
     ·exact qD _ b
    ·rcases qX.1 a with rfl|a
     ·exact this
     ·exact c x a
   ·have e:gZ (dB z) y=dB z:=by unfold gZ;(try dsimp only);rw[hU i]
    rw[e]at b a3;have:=a3 z i4;refine⟨?_,λx a=>?_,λx a=>by injection a with a;subst a;omega⟩
    ·rcases b with b|b
     ·exact .inl b
     ·exact .inr (qD _ b)
    ·rcases qX.1 a with rfl|a
     ·omega
     ·exact c x a
theorem XW{ds:aE}{m:av}{d:aZ}(g:dB d∈ds)(j:d.lost=fz)(q:m∈gf d.l)(e:∀c,dB c∈ds->c.lost=fz->∀x∈gf c.l,x.seq<m.seq∨x=m):ji ds=dB m:=by
 have b:m∈ds.flatMap iD:=zE.2 ⟨_,g,by unfold iD;(try dsimp only);rw[j];exact q⟩;have f:∀x∈ds.flatMap iD,x.seq<m.seq∨x=m:=λx f=>by
  obtain⟨o,k,a⟩:=zE.1 f;cases o with
  |none=>cases a
  |some c=>
   unfold iD at a;dsimp only at a;cases hl':c.lost with
   |true=>rw[hl']at a;cases a
   |false=>rw[hl']at a;exact e c k hl' x a
 obtain⟨n,p⟩:=IX (ds.flatMap iD) eH;cases hf:ji ds with
 |none=>rw[(n.1 hf).1]at b;cases b
 |some y=>
  obtain⟨i,r,_⟩:=p y hf;have s:y∈ds.flatMap iD:=i.resolve_left jj;rcases f y s with h|h
  ·have:=r m b;omega
  ·rw[h]
theorem Kq(s:Sl)(l:Row)(c:UInt8)(h:g0)(q:Rd h s 1 az l)(y:s.len<=s.cap)(w:i0 l<=2^30):
  an xP 262 #[s,xF xM c.toNat] h λv h'=>∃k:Nat,v=xG s.ptr k s.cap/\k<=i0 l/\(∀j (f:j<i0 l),k<=j->l[j]=c)/\(∀(d:k-1<i0 l),0<k->l[k-1]≠c)/\h'=h:=by
 refine ts Tryz.func262 ?_ (.two .n (.two (.join [(0,cL)] [(0,1),(5,23)] (.inn (.loop [(0,cL)] [(0,1),(5,23)] (.two (.join [] [(5,18)] .n) .n)))) .n));have o:=q.len;refine aW ?_;refine aq (λk:Nat=>(⟨s.ptr,k,s.cap⟩:Sl)) (λk h'=>h'=h/\k<=i0 l/\∀j (f:j<i0 l),k<=j->l[j]=c) (λk=>k) l.length (by rw[<-o]) ⟨i4,ql _,λj f d=>i5⟩ ?_;rintro k z ⟨rfl,d,b⟩
 try dsimp only
 refine aW (ag (λe=>?_) λe=>?_)
 ·have r:0<k:=i5
  rw[ai _];refine(q.take k d).bt (g:=λx:UInt8=>Value.int .u8 x.toNat) (k-1) i5 i9 (l[k-1]'(by omega)) (by simp[az]) ?_|>λ⟨a,ha,x,hx,hK⟩=>⟨a,ha,x.toNat,hx,hK⟩
  refine cH (λm=>?_) (λm=>?_)
  ·have i:l[k-1]'(by omega)=c:=by
    have:(l[k-1]'(by omega)).toNat=c.toNat:=by exact_mod_cast m
    exact yJ.1 this
   refine⟨⟨i5,i5⟩,k-1,by congr 1;omega,⟨i4,i5,λj f u=>?_⟩,i5⟩;by_cases p:j=k-1
   ·subst p;exact i
   ·exact b j f i5
  ·refine⟨k,i4,d,b,λ_ _ t=>m (by rw[t]),i4⟩
 ·exact⟨k,i4,d,b,λ_ h0=>i5,i4⟩
theorem Mm(s:Sl)(l:Row)(c:UInt8)(h:g0)(q:Rd h s 1 az l)(y:s.len<=s.cap)(E:i0 l<=2^30):
  an xP 261 #[s,xF xM c.toNat] h λv h'=>(∃r:Sl,v=r/\(r.len=0↔∀x∈l,x=c))/\h'=h:=by
 refine ts Tryz.func261 ?_ (.two .n (.two (.join [(0,cL)] [(0,1),(5,17)] (.inn (.loop [(0,cL)] [(0,1),(5,17)] (.two (.join [] [(5,15)] .n) .n)))) .n));have D:=q.len;refine bL (λr h'=>h'=h/\(r.len=0↔∀x∈l,x=c)) ?_ ?_
 ·refine aq (λt:Sl×Nat=>t.1) (λt h'=>h'=h/\t.2<=i0 l/\(∀j (d:j<i0 l),j<t.2->l[j]=c)/\Rd h t.1 1 az (l.drop t.2)/\t.1.len<=t.1.cap) (λt=>i0 l-t.2) (s,0) i4 ⟨i4,jj,λj _ d=>i5,nb,y⟩ ?_;rintro⟨r,k⟩ z ⟨rfl,F,a,b,g⟩;dsimp only at*;have m:=b.len;rw[zb]at m;refine aW (ag (λe=>?_) λe=>?_)
  ·have o:k<i0 l:=i5
   refine b.bt 0 i4 l9 _ i4 ?_;have u:(l.drop k)[0]'(by rw[zb];omega)=l[k]:=jj
   rw[u];refine cH (λi=>?_) (λi=>?_)
   ·have f:l[k]=c:=by
     have:(l[k]).toNat=c.toNat:=by exact_mod_cast i
     exact yJ.1 this
    refine⟨⟨i5,i5⟩,(⟨if r.cap=1 then r.ptr else r.ptr.map (·.add (1*1)),r.len-1,r.cap-1⟩,k+1),i4,⟨i4,i5,λj d p=>?_,?_,i7⟩,i7⟩
    ·rcases zd.1 p with h2|rfl
     ·exact a j d h2
     ·exact f
    ·have:=b.drop 1 g;rw[zI]at this;exact this
   ·refine⟨i4,⟨λh0=>i5,λA=>absurd ?_ i⟩⟩;rw[A _ (qf o)]
  ·have w:k=i0 l:=i5
   refine⟨i4,⟨λ_ x B=>?_,λ_=>by show r.len=0;omega⟩⟩;obtain⟨j,d,rfl⟩:=qB B;exact a j d i5
 ·rintro r z ⟨rfl,b⟩;refine cH (λe=>?_) (λe=>?_)
  ·exact⟨⟨⟨eH,0,0⟩,i4,by rw[<-b];exact⟨λ_=>i5,λ_=>rfl⟩⟩,i4⟩
  ·exact⟨⟨r,i4,b⟩,i4⟩
theorem EJ(s:Sl)(l:Row)(cut:ByteArray)(b:cut=⟨#[0]⟩)(h:g0)(d:Rd h s 1 az l)(i:s.len<=s.cap)(g:i0 l<=2^30):
  an xP 199 #[s,xI cut] h λv h'=>(∃r:Sl,v=r/\(r.len=0↔∀x∈l,x=0))/\h'=h:=by
 subst b;refine ts Tryz.func199 ?_ (.two .n (.two .n (.two .n (.two (.join [] [(4,5),(13,28)] .n) .n)))) [(6,(.l [0,1,2,4,5,3,6,7]))];have t:=d.len;refine cH (λe=>?_) (λe=>?_)
 ·refine⟨⟨⟨eH,0,0⟩,i4,⟨λ_ x a=>?_,λ_=>rfl⟩⟩,i4⟩;have:l=[]:=List.eq_nil_of_length_eq_zero i5;subst this;cases a
 ·refine tW j5 (aW (Dp j5 ?_));refine⟨0,⟨i6,i4⟩,Dp i6 ?_⟩;refine⟨0,⟨i6,i4⟩,0,⟨i6,i4⟩,?_⟩;refine(Kq s l 0 h d i g).mono ?_;rintro v m ⟨k,rfl,q,o,h3,rfl⟩;refine⟨⟨s.ptr,k,s.cap⟩,i4,trivial,?_⟩;refine(Mm ⟨s.ptr,k,s.cap⟩ (l.take k) 0 m (d.take k q) (by show k<=s.cap;omega) i9).mono ?_;rintro v w ⟨⟨r,rfl,p⟩,rfl⟩;refine⟨r,i4,trivial,⟨r,i4,p.trans ⟨λc x a=>?_,λc x a=>c x (zr a)⟩⟩,i4⟩;obtain⟨j,f,rfl⟩:=qB a;by_cases u:j<k
  ·exact c _ (by rw[List.mem_take_iff_getElem];exact⟨j,i5,i4⟩)
  ·exact o j f i5
def qv(x:Sl×Sl):aT:=[x.1,x.2]
theorem XX:∀x,∀c∈qv x,c.oneCell'=eX:=λx c a=>by
 simp only[qv,qX,yw,or_false]at a;rcases a with rfl|rfl<;>rfl
def jC:iK (Sl×Sl) fo:=⟨λh q a e=>Seq h q a.1 1 ak e.1/\Seq h q a.2 1 az e.2,λa c=>⟨a.1.ae c,a.2.ae c⟩,λa b=>⟨a.1.mono b,a.2.mono b⟩⟩
abbrev pD:iK Sl (List fo):=bC jC 2 qv
abbrev agQ:iK Sl aJ:=bC (su 1 az) 1 bg
abbrev eQ:bG C.toAQ 256 258 2 [xG eH 0 0,xG eH 0 0] 48:=⟨_,_,i4,i4,i4,i4,i4,i4⟩
abbrev XY:bG C.toAQ 43 58 1 [xG eH 0 0] 24:=⟨_,_,i4,i4,i4,i4,i4,i4⟩
abbrev acT:bG C.toAQ 265 4 1 [xJ fz] 1:=⟨_,_,i4,i4,i4,i4,i4,i4⟩
theorem pD.get{h:g0}{q:aw}{s:Sl}{L:List fo}(x:pD.p h q s L){i:Int}(n:Nat)(b:i=n)(e:n<i0 L){K:Sl×Sl->Prop}(d:∀r,jC.p h q r L[n]->K r):
  ∃a:f8,(s.ptr=dB a/\0<=i/\i<((s.len:Nat):Int))/\∃x:Sl×Sl,bn h (a.add (i.toNat*2)) 0 [x.1,x.2]/\K x:=by
 obtain⟨rs,c,f,h3⟩:=bC.kb x;exact c.cU (g:=qv) n b i5 (rs[n]'(by omega)) i4 (d _ (h3 n i5 e))
structure uM (h:g0) (p:f8) (l k v:Sl) (L:List fo) (kn:List Bool) (vs:aJ):Prop where
 box:bY h p 332 [l,k,v]
 eqs:dQ pD h l L
 known:Rd h k 1 fg kn
 vals:dQ agQ h v vs
theorem uM.up{h h':g0}{p:f8}{l k v:Sl}{L:List fo}{kn:List Bool}{vs:aJ}(x:uM h p l k v L kn vs)(a:aP (λb=>b<h.size) h h'):uM h' p l k v L kn vs:=
 ⟨x.box.ae a x.box.lt,dQ.up x.eqs a,Seq.up x.known a,dQ.up x.vals a⟩
theorem Pf{kn:List Bool}{c:Int}(b:0<=c)(a:c.toNat<i0 kn):Qw.kn kn c=kn[c.toNat]:=by unfold Qw.kn;rw[qd,qc a];rfl
theorem mA{m:aJ}{i:Nat}(h:i<i0 m):aC m i=m[i]:=bw h
theorem jK{α:Type}(f:α->Bool)(l:List α){k:Nat}(a:k<i0 l):(l.take (k+1)).filter f=(l.take k).filter f++if f l[k]then[l[k]]else[]:=by rw[aD _ _ a,zl,zo];cases f l[k]<;>rfl
theorem sg(V:aJ)(a:Row)(l:aB)(c:Int):cS V a (l++[c])=cV 1 (aC V c.toNat) (cS V a l):=by unfold cS;rw[z6];rfl
theorem SS(a t:Row):cV 1 a t=zf (λx y=>y^^^x) a t:=by unfold cV;congr 1;funext x y;rw[Gf.one_mul]
theorem EK{a t:Row}(c:i0 a=i0 t){k:Nat}(b:k<i0 t:=by omega):(zf (λx y=>y^^^x) (a.take k) (t.take k)++t.drop k).set k (t[k]^^^(a[k]'(by omega)))=zf (λx y=>y^^^x) (a.take (k+1)) (t.take (k+1))++t.drop (k+1):=by
 have d:i0 (zf (λx y=>y^^^x) (a.take k) (t.take k))=k:=i9
 rw[qV _ _ i5,d,qW,qK b,zp,aD _ _ b,aD _ _ (show k<i0 a by omega),List.zipWith_append i9];simp
theorem Ph(p:f8)(l k v:Sl)(L:List fo)(kn:List Bool)(vs:aJ)(n:Nat)(h:g0)(u:uM h p l k v L kn vs)(Q:i0 kn=n)(I:∀e∈L,∀c∈e.1,0<=c/\c<(n:Int))(R:i0 L<=2^30)(y:∀e∈L,i0 e.1<=2^30):
  an xP 309 #[xH (dB p)] h λv h'=>(∃i:Int,v=xF xL i/\(0<=i->∃(F:i.toNat<i0 L),i0 ((L[i.toNat]).1.filter λc=>!Qw.kn kn c)=1))/\Sp h h' []:=by
 refine ts Tryz.func309 ?_ (.two .n (.two (.two .n (.inn (.loop [(13,aQ)] [(2,6),(7,8),(13,40)] (.two .n (.two .n (.two (.inn (.two .n (.two .n (.two (.two .n (.inn (.loop [(5,aQ),(21,aQ)] [(5,6),(7,8),(21,36)] .n))) .n)))) .n)))))) .n));have P:=bC.len u.eqs;refine⟨p,i4,l,u.box.cell0 i4,?_⟩;refine aq (λi:Nat=>(i:Int)) (λi h'=>i<=i0 L/\Sp h h' []) (λi=>i0 L-i) 0 i4 ⟨i5,Sp.refl h⟩ ?_;rintro i J ⟨F,B⟩;refine ag (λe=>?_) λe=>⟨⟨-1,i4,λU=>i5⟩,B⟩;have g:i<i0 L:=i5
 refine pD.get (dQ.up u.eqs B.ae) i i4 g λx N=>?_;refine(Sp.refl J).alloc aj i4 λa T G=>?_;refine G.storeAll aj 0 i4 i4 (qv x) i4 i4 i4 i4 λh3 t=>?_;have w:=up B.ae t.ae;have r:=u.up w;have q:=jC.mono (jC.loc N t.ae) λb M=>qZ M t.ae.1;have z:=t.box 0 i4;refine⟨x.1,z.cell0 i4,?_⟩;have K:=q.1.len;have E:=y _ (qf g);let d:Nat->Nat:=λj=>i0 (((L[i]).1.take j).filter λc=>!Qw.kn kn c);refine aq (λj:Nat=>(((d j:Nat):Int),(j:Int))) (λj h'=>h'=h3/\j<=(L[i]).1.length) (λj=>(L[i]).1.length-j) 0 p6 ⟨i4,i5⟩ ?_;rintro j V ⟨rfl,S⟩
 try dsimp only
 have H:d j<=j:=qT (qS _ _) i9;refine ag (λO=>?_) (λO=>?_)
 ·have f:j<(L[i]).1.length:=i5
  have A:=I _ (qf g) _ (qf f);refine q.1.bt j i4 f _ i4 ?_;refine⟨p,i4,k,r.box.cell i4,?_⟩;refine r.known.bt (L[i]).1[j].toNat i5 i5 _ i4 ?_;rw[ai ((j:Int)+1),ai _];have s:=Pf (kn:=kn) A.1 i5;refine aR (λm=>?_) (λm=>?_)
  ·refine⟨j+1,?_,⟨i4,i5⟩,i5⟩;have:d (j+1)=d j+1:=by simp only[d];rw[jK _ _ f,s,m];simp
   rw[this];rfl
  ·refine⟨j+1,?_,⟨i4,i5⟩,i5⟩;have:d (j+1)=d j:=by simp only[d];rw[jK _ _ f,s,m];simp
   rw[this];rfl
 ·have D:j=(L[i]).1.length:=i5
  subst D;have o:d (L[i]).1.length=i0 ((L[i]).1.filter λc=>!Qw.kn kn c):=by simp only[d];rw[qN]
  rw[o];refine cH (λm=>⟨⟨i,i4,λ_=>⟨i5,by exact_mod_cast m⟩⟩,.zip w⟩) λm=>?_;exact⟨i+1,j1,⟨i5,.zip w⟩,i5⟩
theorem LC(p:f8)(l k v:Sl)(L:List fo)(kn:List Bool)(vs:aJ)(n w:Nat)(x:Sl×Sl)(e:fo)(h:g0)(hP:uM h p l k v L kn vs)(M:jV n w L kn vs)(X:dQ jC h x e)(J:iZ n w e)(hw:w<=2^20)(ap:i0 e.1<=2^20):
  an xP 253 #[xH (dB p),xK #[x.1,x.2]] h λr h'=>∃a b:Sl,r=xK #[a,b]/\Sp h h' [af 3 a 1 ak (fu kn vs e).1,af 5 b 1 az (fu kn vs e).2]:=by
 refine ts Tryz.func253 ?_ (.two .n (.two .n (.two (.two .n (.inn (.loop [(17,aQ)] [(7,10),(17,58)] (.two .n (.two .n (.two (.inn (.two .n (.two .n (.two .n (.inn (.loop [(43,aQ)] [(8,10),(43,57)] .n)))))) .n)))))) .n))) (args:=[(dB p),x]);refine(Sp.refl h).boxed λT h1 H1=>?_;refine H1.alloc aj i4 λR h2 O=>?_;have P2:=O.ae;refine⟨x.2,(O.box 0 i4).cell i4,(fw x.2 e.2 h2 (Seq.up X.2 P2) (by have:=J.len;omega)).mono ?_⟩;rintro vv h3 ⟨d,rfl,R3⟩;have H3:=O.comp R3;refine⟨d,i4,H3.alloc aj i4 λa5 h4 H4=>?_⟩;refine H4.storeAll aj 3 i4 i4 (qv (⟨eH,0,0⟩,d)) i4 i4 i4 i4 λh5 H5=>?_;have H6:Sp h h5 [ac T 258 (qv x),ac R 258 [xG eH 0 0,xG eH 0 0],af 5 d 1 az e.2,ac a5 258 (qv (⟨eH,0,0⟩,d)),af 3 ⟨eH,0,0⟩ 1 ak []]:=H5.nil 3 1 ak;refine⟨x.1,(H6.box 0 i4).cell0 i4,?_⟩;have ad:=X.1.len;have al:=M.klen;have ah:=M.vlen;refine aq (λt:Nat×Sl=>(t.1:Int)) (λt h'=>t.1<=i0 e.1/\Sp h h' [ac T 258 (qv x),ac R 258 [xG eH 0 0,xG eH 0 0],af 5 d 1 az (cS vs e.2 ((e.1.take t.1).filter λc=>Qw.kn kn c)),ac a5 258 (qv (t.2,d)),af 3 t.2 1 ak ((e.1.take t.1).filter λc=>!Qw.kn kn c)]) (λt=>i0 e.1-t.1) (0,⟨eH,0,0⟩) i4 ⟨jj,by simpa[cS]using H6⟩ ?_;rintro⟨j,o⟩ h7 ⟨hj,q⟩;dsimp only at*;have z:i0 (cS vs e.2 ((e.1.take j).filter λc=>Qw.kn kn c))=w:=jU J.len λc hc=>by
  have I:=qF.1 hc;have E:=zr I.1;exact M.DN (J.cZ c E).1 (J.cZ c E).2 I.2
 have am:i0 ((e.1.take j).filter λc=>!Qw.kn kn c)<=j:=qT (qS _ _) i9;refine ag (λe2=>?_) (λe2=>?_)
 ·have f:j<i0 e.1:=i5
  have s:=J.cZ _ (qf f);have u:=hP.up q.ae;refine(Seq.up X.1 q.ae).bt j i4 f _ i4 ?_;refine⟨p,i4,k,u.box.cell i4,?_⟩;refine u.known.bt (e.1[j]).toNat i5 i5 _ i4 ?_;have G:=Pf (kn:=kn) s.1 i5;refine aR (λB=>?_) (λB=>?_)
  ·rw[<-G]at B;refine⟨o,(q.box 3 i4).cell0 i4,?_⟩;refine q.push aj 4 i4 fN i4 i6 (λ_=>rfl) eS e.1[j] i4 i6 i5 λZ h8 g=>?_;refine g.jr aj 3 i4 i4 [Z] i4 i4 i4 (by simp[qv]) λh9 K=>?_;refine⟨(j+1,Z),j0,⟨i7,?_⟩,i7⟩
   try dsimp only
   rw[jK _ _ f,jK _ _ f,B];simp only[Bool.not_false,if_true,zg,if_false,qE];exact K
  ·rw[<-G]at B;have H:=M.DN s.1 s.2 B;rw[mA i5]at H;refine⟨p,i4,v,u.box.cell i4,?_⟩;obtain⟨vr,V,ab,Q⟩:=bC.kb hP.vals;have i:(e.1[j]).toNat<i0 vs:=i5
   refine(Seq.up V q.ae).mC (e.1[j]).toNat i5 i5 ?_;have N:=(Q (e.1[j]).toNat i5 i).1;have F:=N.len;generalize vr[(e.1[j]).toNat]'(by omega)=y at N F⊢;obtain⟨A,hA⟩:∃A,A=vs[(e.1[j]).toNat]'i:=⟨_,rfl⟩
   obtain⟨D,Y⟩:∃D,D=cS vs e.2 ((e.1.take j).filter λc=>Qw.kn kn c):=⟨_,rfl⟩
   rw[<-hA]at H N F;rw[<-Y]at q z;refine aq (λm:Nat=>(m:Int)) (λm h'=>m<=w/\Sp h h' [ac T 258 (qv x),ac R 258 [xG eH 0 0,xG eH 0 0],af 5 d 1 az (zf (λx y=>y^^^x) (A.take m) (D.take m)++D.drop m),ac a5 258 (qv (o,d)),af 3 o 1 ak ((e.1.take j).filter λc=>!Qw.kn kn c)]) (λm=>w-m) 0 i4 ⟨i5,nb⟩ ?_;rintro m h8 ⟨hm,g⟩;have W:i0 (zf (λx y=>y^^^x) (A.take m) (D.take m))=m:=i9
   refine ag (λe4=>?_) (λe4=>?_)
   ·have ao:m<w:=i5
    refine(Seq.up N g.ae).bt m i4 i5 _ i4 ?_;refine⟨d,(g.box 3 i4).cell i4,?_⟩;refine(g.seq 2 i4 λ_=>rfl).bt m i4 i9 _ i4 ?_;have P:((zf (λx y=>y^^^x) (A.take m) (D.take m)++D.drop m)[m]'(by simp;omega))=D[m]'(by omega):=by rw[wB i5];simp[W]
    rw[P,nU];refine g.set aj 2 i4 (λ_=>rfl) i4 m i4 i9 (D[m]'(by omega)^^^A[m]'(by omega)) i4 i4 i4 λh9 K=>?_;rw[EK i5]at K;exact⟨m+1,j1,⟨i5,K⟩,i5⟩
   ·have U:m=w:=i5
    subst U;refine⟨(j+1,o),j0,⟨i7,?_⟩,i7⟩
    try dsimp only
    rw[jK _ _ f,jK _ _ f,B];simp only[Bool.not_true,if_true,zg,if_false,qE];rw[sg,mA i,<-hA,<-Y,SS];rw[qg i5,qg i5,zc i5,qE]at g;exact g
 ·have S:j=i0 e.1:=i5
  subst S;rw[qN]at q;refine⟨(o,d),(q.box 3 i4).aF _ i4,?_⟩;refine q.storeAll aj 1 i4 i4 (qv (o,d)) i4 i4 i4 i4 λh8 g=>?_;refine⟨(o,d),(g.box 1 i4).aF _ i4,o,d,i4,?_⟩;exact g.bA [4,2]
theorem aa.aht{B:aw}{c h:g0}{As:List HP}{e k:Nat}{α:Type}{f:α->aT}{s:Sl}{l:List α}(H:aa B c h As)(i:Nat)(g:As[i]?=dB (af e s k f l))(d:∀x,i0 (f x)=k)(j:l≠[]):aa B c h (As.set i (EA (su k f) s l)):=
 H.eJ i g λq ⟨a,b⟩=>⟨a.seq d b,λm=>absurd m j⟩
theorem count_set{l:List Bool}:∀{i:Nat} (h:i<i0 l),l[i]=fz->((l.set i eX).count fz)+1=l.count fz:=by
 induction l with
 |nil=>intro i h;simp at h
 |cons a l ih=>
  intro i h b;cases i with
  |zero=>simp at b;subst b;simp
  |succ i=>
   have:=ih (i:=i) j9 k8;rw[zw,List.count_cons,List.count_cons];omega
theorem XZ(p:f8)(l k v:Sl)(L:List fo)(n w:Nat)(s h:g0)(Y:dQ pD s l L)(D:∀e∈L,iZ n w e)(hn:n<=64)(V:i0 L<=2^20)(Q:1<=w/\w<=2^20)(o:∀e∈L,i0 e.1<=2^20)
  (H:Sp s h [ac p 332 [l,k,v],af 4 k 1 fg (qi n fz),bp 58 v 1 bg (su 1 az) (qi n [])]):
  an xP 252 #[xH (dB p)] h λr h'=>r=.tuple #[]/\∃kn vs,jV n w L kn vs/\Sp s h' [ac p 332 [l,k,v],af 4 k 1 fg kn,bp 58 v 1 bg (su 1 az) vs]:=by
 refine ts Tryz.func252 ?_ (.scope 0 [] [(2,37)] [] [.n] []);refine aq (λ_:List Bool×aJ=>()) (λt h'=>jV n w L t.1 t.2/\Sp s h' [ac p 332 [l,k,v],af 4 k 1 fg t.1,bp 58 v 1 bg (su 1 az) t.2]) (λt=>t.1.count fz) (qi n fz,qi n []) i4 ⟨Uk n w L,H⟩ ?_;rintro⟨kn,vs⟩ I ⟨g,P⟩;dsimp only at*;have F:=g.klen;have ab:=g.vlen;have mk:∀{q},Sp s q [ac p 332 [l,k,v],af 4 k 1 fg kn,bp 58 v 1 bg (su 1 az) vs]->uM q p l k v L kn vs:=λf=>
  ⟨f.box 0 i4,dQ.up Y f.ae,f.seq 1 i4 λ_=>rfl,f.KN 2 i4 λ_=>rfl⟩
 refine(Ph p l k v L kn vs n I (mk P) F (λe M=>(D e M).cZ) i5 λe M=>by have:=o e M;omega).mono ?_;rintro _ q ⟨⟨i,rfl,R⟩,W⟩;refine⟨i,i4,?_⟩;have f:=P.up W.ae;refine ag (λe=>⟨i4,kn,vs,g,f⟩) λe=>?_;have G:0<=i:=Int.not_lt.1 e;obtain⟨z,B⟩:=R G;have m:=mk f;refine⟨p,i4,l,m.box.cell0 i4,?_⟩;refine pD.get m.eqs i.toNat i5 z λx hx=>?_;have d:=qf z;refine(LC p l k v L kn vs n w x L[i.toNat] q m g hx (D _ d) Q.2 (o _ d)).mono ?_;rintro _ h3 ⟨a,b,rfl,U⟩;refine⟨(a,b),i4,?_⟩;obtain⟨c,E⟩:∃c,(fu kn vs L[i.toNat]).1=[c]:=by
  have I:(fu kn vs L[i.toNat]).1.length=1:=B
  match q:(fu kn vs L[i.toNat]).1,I with
  |[c],_=>exact⟨c,i4⟩
 have A:=g.AW (D _ d);have J:=A.cZ c (by rw[E];simp);have y:Qw.kn kn c=fz:=DO g L[i.toNat] c (by rw[E];simp);rw[Pf J.1 i5]at y;have O:=f.comp U;rw[E]at O;refine O.alloc aj i4 λa8 h4 Z=>?_;refine Z.storeAll aj 5 i4 i4 (qv (a,b)) i4 i4 i4 i4 λh5 j=>?_;refine⟨p,i4,k,(j.box 0 i4).cell i4,a,(j.box 5 i4).cell0 i4,?_⟩;have u:=j.seq 3 i4 λ_=>rfl;refine u.bt 0 i4 jj c i4 ?_;refine⟨p,i4,v,(j.box 0 i4).cell i4,a,(j.box 5 i4).cell0 i4,?_⟩;refine u.bt 0 i4 jj c i4 ?_;refine⟨b,(j.box 5 i4).cell i4,?_⟩;refine j.set aj 1 i4 (λ_=>rfl) i4 c.toNat i5 i5 eX i4 i4 i4 λh6 N=>?_;refine⟨⟨(N.box 5 i4).cell i4,(N.box 5 i4).cell0 i4,trivial⟩,?_⟩;have K:(fu kn vs L[i.toNat]).2≠[]:=λX=>by have:=A.len;rw[X]at this;simp at this;omega
 have T:=aa.aht N 4 i4 (λ_=>rfl) K;refine T.ahk aj 2 4 i6 i4 i4 (λ_=>rfl) i4 c.toNat i5 i5 i4 i4 i4 λh8 S=>⟨trivial,?_⟩
 refine⟨(kn.set c.toNat eX,vs.set c.toNat (fu kn vs L[i.toNat]).2),i4,⟨WR g D d E,S.bA [0,1,2]⟩,?_⟩;have:=count_set (l:=kn) (i:=c.toNat) i5 y;dsimp only;omega
theorem QX(s:Sl)(l:Row)(h:g0)(d:Rd h s 1 az l)(a:s.len<=s.cap)(c:i0 l<=2^30):
  an xP 254 #[s] h λv h'=>v=xJ (!(l.any (· !=0)))/\h'=h:=by
 refine ts Tryz.func254 ?_;refine(EJ s l _ i4 h d a c).mono ?_;rintro _ e ⟨⟨r,rfl,b⟩,rfl⟩;refine⟨r,i4,?_,i4⟩;congr 1;rw[yK];simp only[beq_iff_eq,wK,List.any_eq_false,bne_iff_ne,ne_eq,Decidable.not_not];rw[<-b];omega
def Kr(l:aB):Prop:=∀i (h:i+1<i0 l),l[i]<l[i+1]
theorem Mn(n:Nat)(l:Sl)(L:List fo)(w:Nat)(h:g0)(u:dQ pD h l L)(F:∀e∈L,iZ n w e/\Kr e.1)(hn:n<=64)(P:i0 L<=2^20)(q:∀e∈L,i0 e.1<=2^20):
  an xP 251 #[xF xL n,l] h λv h'=>v=xJ eX/\Sp h h' []:=by
 refine ts Tryz.func251 ?_ (.two .n (.two (.join [] [(4,5),(9,15)] .n) (.two (.two .n (.inn (.loop [(17,aQ)] [(4,5),(6,9),(17,61)] (.two .n (.two .n (.two (.inn (.two .n (.two (.two .n (.inn (.loop [(24,aQ)] [(4,5),(7,9),(24,51)] .n))) .n))) .n)))))) .n)));have W:=bC.len u;refine aW (ag (λe=>i5) λ_=>ag (λe=>i5) λ_=>?_);refine aq (λi:Nat=>(i:Int)) (λi h'=>i<=i0 L/\Sp h h' []) (λi=>i0 L-i) 0 i4 ⟨i5,Sp.refl h⟩ ?_;rintro i O ⟨hi,A⟩;refine ag (λe=>?_) λe=>⟨i4,A⟩;have d:i<i0 L:=i5
 refine pD.get (dQ.up u A.ae) i i4 d λx S=>?_;refine(Sp.refl O).alloc aj i4 λa h2 J=>?_;refine J.storeAll aj 0 i4 i4 (qv x) i4 i4 i4 i4 λh3 p=>?_;have D:=up A.ae p.ae;have c:=jC.mono (jC.loc S p.ae) λb R=>qZ R p.ae.1;have f:=p.box 0 i4;refine⟨x.1,f.cell0 i4,?_⟩;have T:=c.1.len;have E:=q _ (qf d);obtain⟨m,t⟩:=F _ (qf d);refine aq (λj:Nat=>(j:Int)) (λj h'=>h'=h3/\j<=(L[i]).1.length) (λj=>(L[i]).1.length-j) 0 i4 ⟨i4,i5⟩ ?_;rintro j G ⟨rfl,hj⟩;refine ag (λV=>?_) (λV=>?_)
 ·have k:j<(L[i]).1.length:=i5
  have I:=m.cZ _ (qf k);refine c.1.bt j i4 k _ i4 ?_;refine ag (λe=>i5) λ_=>ag (λe=>i5) λ_=>?_;have H:∃s:Nat,qe xL ((j:Int)+1)=(s:Int)/\(G=G/\s<=(L[i]).1.length)/\(L[i]).1.length-s<(L[i]).1.length-j:=⟨j+1,j1,⟨i4,i5⟩,i5⟩
  refine ag (λU=>?_) λU=>H;refine⟨x.1,f.cell0 i4,?_⟩;rw[ai ((j:Int)-1)];refine c.1.bt (j-1) i5 i5 _ i4 ?_;have B:=t (j-1) i5;have N:(L[i]).1[j-1+1]'(by omega)=(L[i]).1[j]:=by congr 1;omega
  rw[N]at B;exact ag (λe=>absurd B i5) λ_=>H
 ·refine⟨x.2,f.cell i4,?_⟩;obtain⟨rs,Q,h8,Y⟩:=bC.kb (dQ.up u D);have r:=(Y 0 i5 i5).2.len;obtain⟨z,M,y,Z,X⟩:=Q.cU (g:=qv) (i:=(0:Int)) 0 rfl i5 (rs[0]'(by omega)) rfl (K:=λy=>y.2.len=w) (by rw[r];exact(F _ (qf (show 0<i0 L by omega))).1.len);refine⟨z,M,y.2,?_,?_⟩
  ·exact Z.2.1
  have o:=c.2.len;rw[m.len]at o;refine bx (λe=>absurd (by rw[o,X]) e) λ_=>?_;exact⟨i+1,j1,⟨i5,.zip D⟩,i5⟩
theorem aa.Ya{B:aw}{m h:g0}{As:List HP}{e k:Nat}{α β:Type}{E:iK α β}{f:α->aT}{s:Sl}{n:Nat}{a:α}{b:β}(H:aa B m h As)(i:Nat)(o:As[i]?=dB (af e s k f (qi n a)))(v:∀h,E.p h (λ_=>False) a b):aa B m h (As.set i (bp e s k f E (qi n b))):=
 H.eJ i o λq ⟨x,y⟩=>⟨_,λ_=>False,x,λc u=>⟨y c u,λh=>h⟩,λ_ h=>h.elim,jj,λj r l d g=>by
  rw[zT]at d g;split at d
  ·rename_i t;rw[g9 t]at g;cases d;cases g;exact v h
  ·cases d⟩
theorem aa.ni{B:aw}{f h:g0}{As:List HP}{e o:Nat}{a b:Sl}{l:aB}{r:Row}(H:aa B f h As)(i j:Nat)(d:i≠j)(m:As[i]?=dB (af e a 1 ak l))(n:As[j]?=dB (af o b 1 az r)):aa B f h ((As.set i (EA jC (a,b) (l,r))).set j emp):=
 H.merge i j d m n λq p _ g k=>⟨g.1.seq (λ_=>rfl) λx c=>.inl (g.2 x c),k.1.seq (λ_=>rfl) λx c=>.inr (k.2 x c)⟩
theorem Yb(kn:List Bool)(vs:aJ)(L:List fo){i:Nat}(a:i<i0 L):aX kn vs (L.take (i+1))=if(fu kn vs L[i]).1.isEmpty then aX kn vs (L.take i)else aX kn vs (L.take i)++[fu kn vs L[i]]:=by unfold aX;rw[aD _ _ a,qL,zl];cases h:(fu kn vs L[i]).1.isEmpty<;>simp[h]
theorem UV(kn:List Bool)(vs:aJ)(L:List fo){i:Nat}(a:i<i0 L):kA kn vs (L.take (i+1))=(kA kn vs (L.take i)||((fu kn vs L[i]).1.isEmpty&&(fu kn vs L[i]).2.any (· !=0))):=by unfold kA;rw[aD _ _ a,qL,y0];simp
theorem UW{kn:List Bool}{vs:aJ}{L:List fo}{i:Nat}(h:kA kn vs (L.take i)=eX):kA kn vs L=eX:=by rw[<-qC i L];unfold kA at*;rw[qL,y0,h];rfl
theorem Yc(l:Sl)(L:List fo)(n w:Nat)(h:g0)(J:dQ pD h l L)(T:∀e∈L,iZ n w e/\Kr e.1)(hn:n<=64)(H:i0 L<=2^20)(hw:1<=w/\w<=2^20)(B:∀e∈L,i0 e.1<=2^20):
  an xP 194 #[xF xL n,l] h λr h'=>∃kn vs,jV n w L kn vs/\((kA kn vs L=eX/\r=.tuple #[xG eH 0 0,xG eH 0 0,xG eH 0 0,xF xL 10]/\Sp h h' [])∨
   (kA kn vs L=fz/\∃k v s:Sl,r=.tuple #[k,v,s,xF xL 0]/\Sp h h' [af 4 k 1 fg kn,bp 58 v 1 bg (su 1 az) vs,bp 258 s 2 qv jC (aX kn vs L)])):=by
 refine ts Tryz.func194 ?_ (.two .n (.two .n (.two (.join [(8,Oi)] [(8,9),(16,23)] .n) (.two .n (.two (.two .n (.inn (.loop [(6,cL),(27,aQ)] [(4,8),(10,12),(27,47)] .n))) .n))))) [(3,(.y [0,1,3] (.l [2,4,5,6,7]) (.l [4,2,5,6,7])))];have al:=bC.len J;refine(Mn n l L w h J T hn H B).mono ?_;rintro _ h1 ⟨rfl,R1⟩;refine⟨eX,i4,aR (λe=>j3) λ_=>?_⟩;refine bL (λs h'=>∃(p:f8) (k v:Sl),s=dB p/\Sp h h' [ac p 332 [l,k,v],af 4 k 1 fg (qi n fz),bp 58 v 1 bg (su 1 az) (qi n [])]) ⟨?_,?_⟩ ?_
 ·refine R1.make aj fg acT i6 fz i4 i4 n n i4 i4 (ql _) i5 λk h2 S O M=>⟨trivial,?_⟩
  refine M.make aj bg XY i6 ⟨eH,0,0⟩ i4 i4 n n i4 i4 (ql _) i5 λv h3 P Q Y=>⟨trivial,?_⟩
  refine Y.boxed λp X I=>⟨trivial,p,k,v,i4,?_⟩
  exact(aa.Ya (E:=su 1 az) (b:=[]) I 1 i4 λh=>⟨Seq.nil _ _ _ _ _ _,λ_=>rfl⟩).bA [2,0,1]
 ·refine R1.make aj bg XY i6 ⟨eH,0,0⟩ i4 i4 n n i4 i4 (ql _) i5 λv h3 P Q Y=>⟨trivial,?_⟩
  refine Y.make aj fg acT i6 fz i4 i4 n n i4 i4 (ql _) i5 λk h2 S O M=>⟨trivial,?_⟩
  refine M.boxed λp X I=>⟨trivial,p,k,v,i4,?_⟩
  exact(aa.Ya (E:=su 1 az) (b:=[]) I 0 i4 λh=>⟨Seq.nil _ _ _ _ _ _,λ_=>rfl⟩).bA [2,1,0]
 rintro s X ⟨p,k,v,rfl,I⟩;refine(XZ p l k v L n w h X J (λe he=>(T e he).1) hn H hw B I).mono ?_;rintro _ h5 ⟨rfl,kn,vs,K,H5⟩;refine⟨(),i4,?_⟩;refine aq (λt:Nat×Sl=>(t.2,(t.1:Int))) (λt h'=>t.1<=i0 L/\kA kn vs (L.take t.1)=fz/\Sp h h' [ac p 332 [l,k,v],af 4 k 1 fg kn,bp 58 v 1 bg (su 1 az) vs,bp 258 t.2 2 qv jC (aX kn vs (L.take t.1))]) (λt=>i0 L-t.1) (0,⟨eH,0,0⟩) i4 ⟨jj,i4,H5.ua 258 2 qv jC⟩ ?_;rintro⟨i,o⟩ h6 ⟨hi,u,D⟩;dsimp only at*;refine ag (λe=>?_) (λe=>?_)
 ·have j:i<i0 L:=i5
  obtain⟨rs,q1,q2,q3⟩:=bC.kb J;have hx:=q3 i i5 j;refine(Seq.up q1 D.ae).cU (g:=qv) i i4 i5 (rs[i]'(by omega)) i4 ?_;generalize rs[i]'(by omega)=x at hx⊢;refine D.alloc aj i4 λa h7 H7=>?_;refine H7.storeAll aj 4 i4 i4 (qv x) i4 i4 i4 i4 λh8 A=>?_;refine⟨x,(A.box 4 i4).aF _ i4,?_⟩;have ah:uM h8 p l k v L kn vs:=⟨A.box 0 i4,dQ.up J A.ae,A.seq 1 i4 λ_=>rfl,A.KN 2 i4 λ_=>rfl⟩
  obtain⟨G,-⟩:=T _ (qf j);have U:dQ jC h8 x L[i]:=dQ.up hx A.ae;refine(LC p l k v L kn vs n w x L[i] h8 ah K U G hw.2 (B _ (qf j))).mono ?_;rintro _ h9 ⟨c,d,rfl,R9⟩;refine⟨(c,d),i4,?_⟩;have H9:=A.comp R9;refine H9.alloc aj i4 λa2 ap ab=>?_;refine ab.storeAll aj 7 i4 i4 (qv (c,d)) i4 i4 i4 i4 λN f=>?_;refine⟨c,(f.box 7 i4).cell0 i4,?_⟩;have q:=(f.own 5 i4).len;have am:i0 (aX kn vs (L.take i))<=i0 L:=by unfold aX;refine qT (qS _ _) ?_;simp;omega
  have z:=Yb kn vs L j;have m:=UV kn vs L j;refine ag (λe2=>?_) (λe2=>?_)
  ·have ad:(fu kn vs L[i]).1.isEmpty=fz:=by
    cases hh:(fu kn vs L[i]).1 with
    |nil=>rw[hh]at q;simp at q;omega
    |cons a l=>rfl
   rw[ad]at z m;refine⟨(c,d),(f.box 7 i4).aF _ i4,?_⟩;have Z:=aa.ni f 5 6 i6 i4 i4;refine Z.nX aj 3 5 i6 i4 i4 eQ i4 i6 (λ_=>rfl) XX i4 i6 i5 λo' ar V=>?_;refine⟨(i+1,o'),j0,⟨i7,by dsimp only;rw[m,u];rfl,?_⟩,i7⟩
   try dsimp only
   rw[z];exact V.bA [0,1,2,3]
  ·have W:(fu kn vs L[i]).1.isEmpty=eX:=by
    cases hh:(fu kn vs L[i]).1 with
    |nil=>rfl
    |cons a l=>rw[hh]at q;simp at q;omega
   rw[W]at z m;refine⟨d,(f.box 7 i4).cell i4,?_⟩;refine(QX d _ N (f.seq 6 i4 λ_=>rfl) (f.own 6 i4).cap (by have:=(K.AW G).len;omega)).mono ?_;rintro _ ao ⟨rfl,rfl⟩;refine⟨_,i4,aR (λF=>?_) λF=>?_⟩
   ·refine⟨kn,vs,K,.inl ⟨UW (i:=i+1) ?_,i4,f.bA []⟩⟩;rw[m];simp at F;simp[F]
   ·refine⟨(i+1,o),j0,⟨i7,?_,?_⟩,i7⟩
    ·(try dsimp only);rw[m,u];simp at F;simp;exact F
    ·try dsimp only
     rw[z];exact f.bA [0,1,2,3]
 ·have R:i=i0 L:=i5
  subst R;rw[qN]at D u;refine⟨p,i4,k,(D.box 0 i4).cell i4,p,i4,v,(D.box 0 i4).cell i4,kn,vs,K,.inr ⟨u,k,v,o,i4,D.bA [1,2,3]⟩⟩
def kZ(pool:List (Sl×Row)):HP:=⟨λh q=>∀x∈pool,Seq h q x.1 1 az x.2,λa d x b=>(a x b).ae d,λa c x b=>(a x b).mono c⟩
theorem aa.pool{B:aw}{c h:g0}{As:List HP}(H:aa B c h As)(i j:Nat)(b:i≠j){pool:List (Sl×Row)}{r:Sl}{l:Row}(d:As[i]?=dB (kZ pool))(e:As[j]?=dB (lm r 1 az l)):aa B c h ((As.set i (kZ ((r,l)::pool))).set j emp):=
 H.merge i j b d e λm k _ f g x a=>by
  rcases qX.1 a with rfl|a
  ·exact Seq.mono g λ_ h=>.inr h
  ·exact(f x a).mono λ_ h=>.inl h
theorem aa.IY{B:aw}{c h:g0}{As:List HP}(H:aa B c h As)(i:Nat){pool:List (Sl×Row)}(b:As[i]?=dB (kZ pool)){r:Sl}{l:Row}(a:(r,l)∈pool):Rd h r 1 az l:=(H.at i b) _ a
theorem aa.aba{B:aw}{f h:g0}{As:List HP}(H:aa B f h As)(i j:Nat)(c:i≠j){pool:List (Sl×Row)}{s:Sl}{rs:List Sl}{a:aJ}(n:As[i]?=dB (af 58 s 1 bg rs))(o:As[j]?=dB (kZ pool))
  (p:i0 rs=i0 a) (u:∀(k:Nat) r l,rs[k]?=dB r->a[k]?=dB l->(r,l)∈pool):aa B f h ((As.set i (fP 58 s 1 az a)).set j emp):=
 H.merge i j c n o λw g m d v=>⟨rs,g,d.1,λb e=>⟨.inl (d.2 b e),m b (d.2 b e)⟩,λ_ h=>.inr h,p,λk r l q t=>v _ (u k r l q t)⟩
def iy(pool:List (Sl×Row))(g:Row->Row)(rs:List Sl)(m:aJ):Prop:=i0 rs=i0 m/\∀(i:Nat) r l,rs[i]?=dB r->m[i]?=dB l->(r,g l)∈pool
theorem iy.get{pool:List (Sl×Row)}{g:Row->Row}{rs:List Sl}{m:aJ}(h:iy pool g rs m){i:Nat}(a:i<i0 m):(rs[i]'(by rw[h.1];exact a),g m[i])∈pool:=
 h.2 i _ _ (qc _) (qc _)
theorem iy.mono{pool a:List (Sl×Row)}{g:Row->Row}{rs:List Sl}{m:aJ}(h:iy pool g rs m)(b:∀x∈pool,x∈a):iy a g rs m:=⟨h.1,λi r l c d=>b _ (h.2 i r l c d)⟩
theorem iy.set{pool:List (Sl×Row)}{g:Row->Row}{rs:List Sl}{m:aJ}(h:iy pool g rs m)(i:Nat){r:Sl}{l:Row}(e:(r,g l)∈pool):iy pool g (rs.set i r) (m.set i l):=by
 refine⟨by simp[h.1],λk j f a b=>?_⟩;rw[qU]at a b;by_cases c:i=k
 ·subst c;rw[g9 rfl]at a b;split at a
  ·rename_i d;rw[g9 (by rw[<-h.1];exact d)]at b;cases a;cases b;exact e
  ·cases a
 ·rw[hU c]at a b;exact h.2 k j f a b
theorem aa.Cx{B:aw}{n h:g0}{As:List HP}(H:aa B n h As)(i j:Nat){pool:List (Sl×Row)}{e:Nat}{s:Sl}{rs:List Sl}{a:aJ}(d:As[i]?=dB (af e s 1 bg rs))(f:As[j]?=dB (kZ pool))
  (c:iy pool id rs a):fA h (λb=>b<h.size) s 1 az a rs:=⟨H.seq i d λ_=>rfl,c.1,λk r l g m=>H.IY j f (c.2 k r l g m)⟩
theorem EL{B:aw}{r h:g0}{As:List HP}(s f:f8)(t:UInt8)(g a:Sl)(b c:Row)(H:aa B r h (af 5 a 1 az c::As))(G:St B r As λh=>f9 h s=dB (xH (dB f))/\fI h f/\Rd h g 1 az b)
  (J:i0 b=i0 c) (S:i0 b<=2^30) {K:g0->Prop} (O:∀h',aa B r h' (af 5 a 1 az (cV t b c)::As)->K h'):
  gK (σ:=Int) (λd K1 i=>
 Br (decide (d<((g.len:Nat):Int)))
 (∃I:f8,(g.ptr=dB I/\0<=d/\d<((g.len:Nat):Int))/\
 ∃F:Int,f9 i (I.add (d.toNat*1))=dB (xF xM F)/\
 ∃A:f8,(a.ptr=dB A/\0<=d/\d<((a.len:Nat):Int))/\
 ∃z:Int,f9 i (A.add (d.toNat*1))=dB (xF xM z)/\
 ∃q:f8,(dB s=dB q)/\
 ∃o:cj,f9 i q=dB (.pointer o)/\
 oU xP 268 #[(.pointer o),(xF xM (t.toNat:Int)),(xF xM F)] (.one (.sc (.int .u8))) i λu w=>
 (bR.ok [(A.add (d.toNat*1),(xF xM z))] w)/\
 ∃l:f8,(a.ptr=dB l/\0<=d/\d<((a.len:Nat):Int))/\
 au xP (qG 5 (xH (dB (l.add (d.toNat*1)))) (xF xM (qe xM ((qO (qH xM) z^^^(qO (qH xM) u)).toNat:Nat)))) w λ_ h3=>
 (bR.ok [] h3)/\
 K1 (qe xL (d+(1:Int))) h3) (K i)) (0:Int) h:=by
 have P:g.len=i0 b:=(G.at [af 5 a 1 az c] H).2.2.len;refine aq (λk:Nat=>(k:Int)) (λk h'=>k<=i0 b/\aa B r h' (af 5 a 1 az (zf (λx y=>y^^^Gf.mul t x) (b.take k) (c.take k)++c.drop k)::As)) (λk=>i0 b-k) 0 i4 ⟨i5,l0⟩ ?_;rintro k i ⟨Q,p⟩;obtain⟨R,M,L⟩:=G.at [_] p;refine ag (λe=>?_) (λe=>?_)
 ·have D:k<i0 b:=i5
  have m:i0 (zf (λx y=>y^^^Gf.mul t x) (b.take k) (c.take k))=k:=i9
  have N:i0 (zf (λx y=>y^^^Gf.mul t x) (b.take k) (c.take k)++c.drop k)=i0 c:=by rw[qw,m,zb];omega
  refine L.bt k i4 D _ i4 ?_;have j:(zf (λx y=>y^^^Gf.mul t x) (b.take k) (c.take k)++c.drop k)[k]'(by omega)=c[k]:=by rw[wB i5];simp[m]
  refine(p.seq 0 i4 λ_=>rfl).mE k i4 i5 _ i4 λax n=>?_;rw[j]at n⊢;refine⟨s,i4,dB f,R,(Hb f t b[k] i M).mono ?_⟩;rintro v w ⟨rfl,rfl⟩;refine⟨_,i4,⟨n,trivial⟩,?_⟩;rw[nU];refine p.set aj 0 i4 (λ_=>rfl) i4 k i4 i5 _ i4 i4 i4 λh3 E=>⟨trivial,?_⟩
  rw[zp,uA J i5]at E;exact⟨k+1,j1,⟨i5,E⟩,i5⟩
 ·have:k=i0 b:=i5
  subst this;rw[qg (ql _),qg i5,zc i5,qE]at p;exact O i p
def gP(f:f8)(p:Int×Int×Int)(v r a c e b d:Sl):aT:=[xH (dB f),xF xL p.1,xF xL p.2.1,xF xL p.2.2,v,r,a,c,e,b,d]
structure Bl (h:g0) (s f:f8) (wa mo:Sl) (wr mr:List Sl) (W M:aJ):Prop where
 fld:f9 h s=dB (xH (dB f))
 way:f9 h (s.add 9)=dB (xG wa.ptr wa.len wa.cap)
 more:f9 h (s.add 10)=dB (xG mo.ptr mo.len mo.cap)
 field:fI h f
 rW:fA h (λb=>b<h.size) wa 1 az W wr
 rM:fA h (λb=>b<h.size) mo 1 az M mr
theorem Bl.of{h:g0}{s f:f8}{p:Int×Int×Int}{v r j k n d c:Sl}{g e:List Sl}{W M:aJ}(a:bY h s 264 (gP f p v r j k n d c))(i:fI h f)(l:fA h (λb=>b<h.size) d 1 az W g)(m:fA h (λb=>b<h.size) c 1 az M e):Bl h s f d c g e W M:=
 ⟨a.cell0 i4,a.cell i4,a.cell i4,i,l,m⟩
theorem EM{B:aw}{i h:g0}{As:List HP}(s f:f8)(t:UInt8)(c:Int)(a more y x:Sl)(w0 d:Row)(p o:List Sl)(W M:aJ)(H:aa B i h (af 5 a 1 az w0::af 5 more 1 az d::As))(g:St B i As λh=>Bl h s f y x p o W M)
  (D:0<=c) (r:c.toNat<i0 W) (m:c.toNat<i0 M) (k:i0 (aC W c.toNat)=i0 w0) (w:i0 (aC M c.toNat)=i0 d) (E:i0 w0<=2^30) (F:i0 d<=2^30):
  an xP 260 #[xH (dB s),xF xM t.toNat,xF xL c,a,more] h λv h'=>v=.tuple #[]/\aa B i h' (af 5 a 1 az (cV t (aC W c.toNat) w0)::af 5 more 1 az (cV t (aC M c.toNat) d)::As):=by
 refine ts Tryz.func260 ?_ (.two (.two .n (.inn (.loop [(22,aQ)] [(10,12),(22,41)] .n))) (.two .n (.inn (.loop [(49,aQ)] [(12,14),(49,68)] .n))));have S:=g.at [_,_] H;refine⟨s,i4,y,S.way,?_⟩;rw[mA r]at k⊢;rw[mA m]at w⊢;have q:=S.rW;have A:=q.len;refine q.top.mC c.toNat i5 i5 ?_;refine EL s f t (p[c.toNat]'(by omega)) a (W[c.toNat]) w0 H (St.mk' λh' j=>?_) k i5 λh3 e=>?_
 ·have b:=g.at [_] j;exact⟨b.fld,b.field,b.rW.row _ _ _ (qc _) (qc r)⟩
 have u:=g.at [_,_] e;refine⟨s,i4,x,u.more,?_⟩;have l:=u.rM;have z:=l.len;refine l.top.mC c.toNat i5 i5 ?_;refine EL s f t (o[c.toNat]'(by omega)) more (M[c.toNat]) d e.gV (St.mk' λh' j=>?_) w i5 λh3 e=>⟨i4,e.gV⟩
 ·have b:=g.at [_] j;exact⟨b.fld,b.field,b.rM.row _ _ _ (qc _) (qc m)⟩
def fJ:aB->Bool
 |[]=>eX
 |[_]=>eX
 |a::b::r=>decide (a<b)&&fJ (b::r)
theorem IZ:∀(l:aB) (a b:Int),fJ (l++[a,b])=(fJ (l++[a])&&decide (a<b))
 |[],a,b=>by simp[fJ]
 |[c],a,b=>by simp[fJ]
 |c::d::r,a,b=>by
  have:=IZ (d::r) a b;simp only[zu]at this⊢;simp only[fJ,this,Bool.and_assoc]
theorem Yd{l r:aB}(h:fJ l=fz):fJ (l++r)=fz:=by
 induction l with
 |nil=>simp[fJ]at h
 |cons a t ih=>
  cases t with
  |nil=>simp[fJ]at h
  |cons b t=>
   simp only[fJ,vt]at h;simp only[zu,fJ,vt];rcases h with h|h
   ·exact .inl h
   ·exact .inr (ih h)
theorem abb(l:aB)(k:Nat)(h:k+1<i0 l):l.take (k+2)=l.take k++[l[k],l[k+1]]:=by have a:l.take (k+2)=l.take (k+1)++[l[k+1]]:=aD l (k+1) h;have b:=aD l k;rw[a,b,qn];rfl
def fK(n:Int)(r:aB):Bool:=r.all (λc=>decide (0<=c/\c<n))&&fJ r
theorem Ye{n:Int}{l r:aB}(h:fK n l=fz):fK n (l++r)=fz:=by
 simp only[fK,vt]at*;rcases h with h|h
 ·left;rw[yZ,h];rfl
 ·right;exact Yd h
theorem UX{n:Int}{r:aB}(h:0<i0 r):fK n (r.take 1)=decide (0<=r[0]/\r[0]<n):=by
 cases r with
 |nil=>simp at h
 |cons a t=>simp[fK,fJ]
theorem UY{n:Int}{r:aB}{k:Nat}(h:k+1<i0 r):fK n (r.take (k+2))=(fK n (r.take (k+1))&&decide (0<=r[k+1]/\r[k+1]<n)&&decide (r[k]<r[k+1])):=by
 have a:r.take (k+2)=r.take (k+1)++[r[k+1]]:=aD r (k+1) h;have b:fJ (r.take (k+2))=(fJ (r.take (k+1))&&decide (r[k]<r[k+1])):=by rw[abb r k h,IZ,aD r k]
 simp only[fK,b];rw[a,yZ];simp only[List.all_cons,List.all_nil,Bool.and_true]
 cases(r.take (k+1)).all λc=>decide (0<=c/\c<n)<;>cases fJ (r.take (k+1))<;>cases decide (0<=r[k+1]/\r[k+1]<n)<;>simp
theorem uN{n:Int}{r:aB}{k:Nat}(h:fK n (r.take k)=fz):fK n r=fz:=by rw[<-qC k r];exact Ye h
theorem UZ{n:Int}{r:aB}{k:Nat}(c:k<i0 r)(h:fK n (r.take k)=eX):
  (r[k]<0->fK n r=fz)/\(n<=r[k]->fK n r=fz)/\(∀(h0:0<k),r[k]<=r[k-1]->fK n r=fz)/\
  (0<=r[k]->r[k]<n->(∀h0:0<k,r[k-1]<r[k])->fK n (r.take (k+1))=eX):=by
 cases k with
 |zero=>
  have e:=UX (n:=n) c;refine⟨λa=>uN (k:=1) ?_,λa=>uN (k:=1) ?_,λh0=>i5,λa b _=>?_⟩
  ·rw[e,hZ i5]
  ·rw[e,hZ i5]
  ·rw[e,hY ⟨a,b⟩]
 |succ k=>
  have e:=UY (n:=n) c;refine⟨λa=>uN (k:=k+2) ?_,λa=>uN (k:=k+2) ?_,λh0 a=>uN (k:=k+2) ?_,λa b h3=>?_⟩
  ·rw[e,hZ (p:=0<=r[k+1]/\r[k+1]<n) i5];simp
  ·rw[e,hZ (p:=0<=r[k+1]/\r[k+1]<n) i5];simp
  ·rw[e,hZ (p:=r[k]<r[k+1]) k7];simp
  ·have d:r[k]<r[k+1]:=by simpa using h3 i5
   rw[e,h,hY (p:=0<=r[k+1]/\r[k+1]<n) ⟨a,b⟩,hY d];rfl
def jO(n:Int)(a:ct):Bool:=decide (0<=n/\n<=64)&&a.all (fK n)
theorem abc{α:Type}{f:α->Bool}{l:List α}{k:Nat}(a:k<i0 l)(h:(l.take k).all f=eX):(l.take (k+1)).all f=f l[k]:=by rw[aD _ _ a,yZ,h];simp
theorem agc{α:Type}{f:α->Bool}{l:List α}{k:Nat}(a:k<i0 l)(h:f l[k]=fz):l.all f=fz:=by rw[yE];exact⟨l[k],qf a,tr⟩
theorem Ks{p:aw}(n:Int)(a:Sl)(b:ct)(rs:List Sl)(h:g0)(z:fA h p a 1 ak b rs)(J:i0 b<=2^40)(m:∀l∈b,i0 l<=2^40):
  an xP 310 #[xF xL n,a] h λv h'=>v=xJ (jO n b)/\h'=h:=by
 refine ts Tryz.func310 ?_ (.two .n (.two (.join [] [(4,5),(9,15)] .n) (.two (.two .n (.inn (.loop [(17,aQ)] [(4,5),(6,9),(17,50)] (.two .n (.two .n (.two (.inn (.two .n (.two .n (.inn (.loop [(23,aQ)] [(4,5),(7,9),(23,49)] .n))))) .n)))))) .n)));have E:=z.GB;refine bL (λ_ h'=>h'=h/\0<=n/\n<=64) ?_ ?_
 ·refine ag (λj=>⟨?_,i4⟩) (λj=>ag (λf=>⟨?_,i4⟩) λf=>⟨i4,i5,i5⟩)
  ·rw[jO,hZ i5];rfl
  ·rw[jO,hZ i5];rfl
 ·rintro _ h' ⟨rfl,q,u⟩;have x:jO n b=b.all (fK n):=by rw[jO,hY ⟨q,u⟩];rfl
  refine aq (λk:Nat=>(k:Int)) (λk h0=>h0=h'/\k<=i0 b/\(b.take k).all (fK n)=eX) (λk=>i0 b-k) 0 i4 ⟨i4,i5,jj⟩ ?_;rintro i h0 ⟨rfl,H,c⟩;refine ag (λw=>?_) (λs=>?_)
  ·have e:i<i0 b:=i5
   refine z.get i i4 e λr t _=>?_;have F:=t.len;have B:=m _ (qf e);have d:fK n b[i]=fz->jO n b=fz:=λD=>by rw[x];exact agc e D
   refine aq (λk:Nat=>(k:Int)) (λk f=>f=h0/\k<=b[i].length/\fK n (b[i].take k)=eX) (λk=>b[i].length-k) 0 i4 ⟨i4,i5,by simp[fK,fJ]⟩ ?_;rintro k f ⟨rfl,I,o⟩;refine ag (λw=>?_) (λs=>?_)
   ·have g:k<b[i].length:=i5
    obtain⟨n1,n2,G,y⟩:=UZ g o;refine t.bt k i4 g _ i4 ?_;refine ag (λj=>⟨by rw[d (n1 j)],i4⟩) λj=>?_;refine ag (λf=>⟨by rw[d (n2 f)],i4⟩) λf=>?_;rw[ai (k+1),ai (k-1)];refine ag (λh3=>?_) (λh3=>?_)
    ·refine t.bt (k-1) i5 i5 _ i4 ?_;refine ag (λA=>⟨by rw[d (G i5 A)],i4⟩) λA=>?_;exact⟨k+1,jj,⟨i4,i5,y i5 i5 λ_=>i5⟩,i5⟩
    ·exact⟨k+1,jj,⟨i4,i5,y i5 i5 λ_=>i5⟩,i5⟩
   ·rw[qg i5]at o;rw[ai (i+1)];exact⟨i+1,jj,⟨i4,i5,by rw[abc e c,o]⟩,i5⟩
  ·rw[qg i5]at c;exact⟨by rw[x,c],i4⟩
theorem Ja{p:aw}(a:Sl)(b:List Bool)(x:Bool)(h:g0)(i:Seq h p a 1 fg b)(q:i0 b<=2^40):
  an xP 334 #[a,xJ x] h λv h'=>∃r:Int,v=xF xL r/\(0<=r↔x∈b)/\h'=h:=by
 refine ts Tryz.func334 ?_ (.two .n (.two (.two .n (.inn (.loop [(8,aQ)] [(4,6),(8,19)] .n))) .n));have l:=i.len;refine aq (λk:Nat=>(k:Int)) (λk h'=>h'=h/\k<=i0 b/\x∉b.take k) (λk=>i0 b-k) 0 i4 ⟨i4,i5,jj⟩ ?_;rintro k h' ⟨rfl,o,f⟩;refine ag (λm=>?_) (λj=>?_)
 ·have c:k<i0 b:=i5
  refine i.bt k i4 c _ i4 ?_;refine bo (λg=>⟨_,i4,⟨λ_=>?_,λ_=>i5⟩,i4⟩) (λd=>?_)
  ·rw[eq_of_beq g];exact qf c
  ·rw[ai _];refine⟨k+1,jj,⟨i4,i5,?_⟩,i5⟩;rw[aD _ _ c];simp only[qz,qu,not_or];exact⟨f,λe=>by rw[e]at d;simp at d⟩
 ·rw[qg i5]at f;exact⟨_,i4,⟨λh=>i5,λh=>absurd h f⟩,i4⟩
theorem EN{p:aw}(a:Sl)(b:List Bool)(x:Bool)(h:g0)(c:Seq h p a 1 fg b)(e:i0 b<=2^40):
  an xP 311 #[a,xJ x] h λv h'=>v=xJ (decide (x∈b))/\h'=h:=by
 refine ts Tryz.func311 ?_;refine(Ja a b x h c e).mono ?_;rintro v h' ⟨r,rfl,d,rfl⟩;refine⟨r,i4,?_,i4⟩;exact congrArg Value.bool (decide_eq_decide.2 d)
theorem QY{α:Type}{f:α->Bool}{l:List α}{k:Nat}(a:k<i0 l):(l.take (k+1)).filter f=if f l[k]then(l.take k).filter f++[l[k]]else(l.take k).filter f:=by rw[aD _ _ a,zl];by_cases h:f l[k]=eX<;>simp[h]
theorem Jb{p q:aw}(j:f8)(o r:Sl)(op:List Bool)(row:aB)(h:g0)(w:f9 h (j.add 1)=dB (xG o.ptr o.len o.cap))(t:Seq h p o 1 fg op)(m:Seq h q r 1 ak row)
  (l:∀c∈row,0<=c/\c<i0 op) (B:i0 row<=2^40):
  an xP 335 #[xH (dB j),r] h λv h'=>
   v=.tuple #[xF xL ((df op row).getLast?.getD 0),xJ (i0 (df op row)==1)]/\h'=h:=by
 refine ts Tryz.func335 ?_ (.two .n (.two .n (.two (.two .n (.inn (.loop [(6,aQ),(7,aQ),(12,aQ)] [(6,8),(9,10),(12,27)] .n))) .n)));have x:=m.len;refine aq (λk:Nat=>((df op (row.take k)).getLast?.getD 0,(i0 (df op (row.take k)):Int),(k:Int))) (λk h'=>h'=h/\k<=i0 row) (λk=>i0 row-k) 0 i4 ⟨i4,i5⟩ ?_;rintro k h' ⟨rfl,A⟩
 try dsimp only
 refine ag (λy=>?_) (λu=>?_)
 ·have d:k<i0 row:=i5
  have z:=l _ (qf d);refine m.bt k i4 d _ i4 ?_;refine⟨j,i4,o,w,?_⟩;have a:row[k].toNat<i0 op:=i5
  refine t.bt row[k].toNat i5 a _ i4 ?_;have b:ki op row[k]=op[row[k].toNat]:=by simp[ki,qd,qc a]
  have g:=QY (f:=ki op) d;have s:i0 (df op (row.take k))<=i0 row:=qT (qS _ _) p5;rw[ai (k+1),ai _];refine bo (λi=>?_) (λi=>?_)
  ·refine⟨k+1,?_,⟨i4,i5⟩,i5⟩;have e:df op (row.take (k+1))=df op (row.take k)++[row[k]]:=by rw[df,g,b,i];rfl
   simp[e]
  ·refine⟨k+1,?_,⟨i4,i5⟩,i5⟩;have e:df op (row.take (k+1))=df op (row.take k):=by rw[df,g,b,i];rfl
   simp[e]
 ·have e:row.take k=row:=qg i5;refine⟨?_,i4⟩;simp only[e];congr 4;congr 1;rw[yK];simp;omega
structure Ai (h:g0) (p:aw) (a:f8) (l o u:Sl) (rows:ct) (rs:List Sl) (op us:List Bool):Prop where
 c0:f9 h a=dB (xG l.ptr l.len l.cap)
 c1:f9 h (a.add 1)=dB (xG o.ptr o.len o.cap)
 c2:f9 h (a.add 2)=dB (xG u.ptr u.len u.cap)
 ff:p a.block
 sRows:fA h p l 1 ak rows rs
 sOp:Seq h p o 1 fg op
 sUs:Seq h p u 1 fg us
 ulen:i0 us=i0 rows
 cZ:∀r∈rows,∀c∈r,0<=c/\c<i0 op
 short:∀r∈rows,i0 r<=64
theorem Ai.ae{h h':g0}{p:aw}{a:f8}{l o u:Sl}{rows:ct}{rs:List Sl}{op us:List Bool}(c:Ai h p a l o u rows rs op us)(k:aP p h h'):Ai h' p a l o u rows rs op us:=by
 have b:∀n,(a.add n).block=a.block:=λn=>by unfold Addr.add;split<;>rfl
 exact⟨k.cell c.ff c.c0,k.cell (by rw[b];exact c.ff) c.c1,k.cell (by rw[b];exact c.ff) c.c2,c.ff,c.sRows.ae k,c.sOp.ae k,c.sUs.ae k,c.ulen,c.cZ,c.short⟩
theorem Mo{p:aw}(a:f8)(l o u:Sl)(rows:ct)(rs:List Sl)(op us:List Bool)(h:g0)(z:Ai h p a l o u rows rs op us)(Q:i0 rows<=2^40):
  an xP 312 #[xH (dB a)] h λv h'=>aP (λ_=>True) h h'/\
   v=match mI rows op us with
    |some i=>.tuple #[xK #[xF xL i,xF xL (fk rows op i)],xJ eX]
    |none=>.tuple #[xK #[xF xL 0,xF xL 0],xJ fz]:=by
 refine ts Tryz.func312 ?_ (.two .n (.two (.two .n (.inn (.loop [(13,aQ)] [(3,8),(13,36)] .n))) .n));refine uZ aj i4 λb H O t d G=>?_;have f:=z.ae (d.mono λ_ _ _=>trivial);refine⟨a,i4,l,f.c0,?_⟩;have K:=z.sRows.GB;refine aq (λk:Nat=>(k:Int)) (λk h'=>h'=H/\k<=i0 rows/\∀j,j<k->mH rows op us j=fz) (λk=>i0 rows-k) 0 i4 ⟨i4,i5,λj q=>i5⟩ ?_;rintro k h' ⟨rfl,P,D⟩;refine ag (λM=>?_) (λI=>?_)
 ·have e:k<i0 rows:=i5
  refine f.sRows.get k i4 e λr J _=>?_;refine⟨a,i4,u,f.c2,?_⟩;refine f.sUs.bt k i4 (by rw[z.ulen];exact e) _ i4 ?_;have F:us.getD k fz=us[k]'(by rw[z.ulen];exact e):=by rw[qd,qc];rfl
  have s:rows.getD k []=rows[k]:=by rw[qd,qc e];rfl
  rw[ai _];refine bo (λy=>?_) (λy=>?_)
  ·refine⟨k+1,jj,⟨i4,i5,λj q=>?_⟩,i5⟩;rcases zd.1 q with q|rfl
   ·exact D j q
   ·simp only[mH,F,y];rfl
  ·refine(Jb a o r op rows[k] h' f.c1 f.sOp J (z.cZ _ (qf e)) (qT (z.short _ (qf e)) i5)).mono ?_;rintro v N ⟨rfl,rfl⟩;refine⟨(_,_),i4,?_⟩;have g:mH rows op us k=(i0 (df op rows[k])==1):=by simp only[mH,F,y,s];rfl
   refine bo (λw=>?_) (λw=>?_)
   ·have m:mH rows op us k=eX:=g.trans w;refine BC aj t i4 _ i4 i4 i4 (ql _) λh3 c x A=>?_;refine⟨(_,_),c.aF _ i4,d.then x (λL E _=>i5),?_⟩;have B:fk rows op k=(df op rows[k]).getLast?.getD 0:=by unfold fk;rw[s]
    rw[mI,WT e D m];show _=Value.tuple #[xK #[xF xL k,xF xL (fk rows op k)],xJ eX];rw[B];rfl
   ·have m:mH rows op us k=fz:=g.trans w;refine⟨k+1,jj,⟨i4,i5,λj q=>?_⟩,i5⟩;rcases zd.1 q with q|rfl
    ·exact D j q
    ·exact m
 ·refine BC aj t i4 _ i4 i4 i4 (ql _) λh3 c x A=>?_;refine⟨(_,_),c.aF _ i4,d.then x (λL E _=>i5),?_⟩;rw[mI,WS λj q=>D j i5]
theorem Hl{l:List Bool}{i:Nat}(h:i<i0 l):l.getD i fz=l[i]:=by rw[qd,qc h];rfl
theorem SU(op:List Bool)(a:aB):∀k,-1<=iR op a k/\iR op a k<k
 |0=>by simp[iR]
 |k+1=>by
  have:=SU op a k;unfold iR;split<;>omega
theorem Mp{p:aw}(a:f8)(l o u:Sl)(rows:ct)(rs:List Sl)(op us:List Bool)(h:g0)(z:Ai h p a l o u rows rs op us)(hs:i0 rows<=2^30)(a4:i0 op<=2^30):
  an xP 313 #[xH (dB a)] h λv h'=>aP (λ_=>True) h h'/\v=xF xL (io rows op us):=by
 refine ts Tryz.func313 ?_ (.two .n (.two .n (.two (.two .n (.inn (.loop [(22,aQ)] [(4,6),(7,8),(22,49)] (.two .n (.two .n (.two (.inn (.two .n (.two .n (.inn (.loop [(29,aQ)] [(7,8),(29,48)] .n))))) .n)))))) (.two .n (.two (.two .n (.inn (.loop [(8,aQ),(54,aQ)] [(8,11),(54,77)] .n))) .n)))));refine⟨a,i4,o,z.c1,?_⟩;have a8:=z.sOp.len;refine Qw.run_make (f:=ak) aj ⟨_,_,i4,i4,i4,i4,i4,i4⟩ i6 0 i4 i4 op.length op.length i5 i5 (ql _) i5 λs h1 P al a6 w a0=>?_;have ah:=z.ae (w.mono λ_ _ _=>trivial);refine⟨a,i4,l,ah.c0,?_⟩;have a1:=z.sRows.GB;have D:∀b,s.on b->b=h.size:=by rintro b ⟨o',K⟩;rw[al]at K;cases K;rfl
 have ap:∀k,i0 ((λ_ r=>r:Nat->aB->aB) k (rows.getD k []))<=64:=λk=>by
  show(rows.getD k []).length<=64;by_cases Z:k<i0 rows
  ·rw[qd,qc Z];exact z.short _ (qf Z)
  ·rw[qd,List.getElem?_eq_none i5];simp
 let d:=ly (λ_ r=>r) rows us (qi op.length 0);have O:∀k,i0 (d k)=i0 op:=λk=>by rw[BS];simp
 have W:∀k,∀x∈d k,0<=x/\x<=64*k:=λk x hx=>NQ (λ_ r=>r) ap k x hx;refine aq (λk:Nat=>(k:Int)) (λk h'=>aP (λb=>b<h.size) h h'/\k<=i0 rows/\Own h' 3 s 1 ak (d k)) (λk=>i0 rows-k) 0 i4 ⟨w.mono λ_ _ _=>trivial,i5,P⟩ ?_;rintro i h2 ⟨F,hi,q⟩;have y:Ai h2 p a l o u rows rs op us:=z.ae (F.mono λb e _=>e);refine ag (λJ=>?_) (λQ=>?_)
 ·have g:i<i0 rows:=i5
  have L:rows.getD i []=rows[i]:=by rw[qd,qc g];rfl
  have V:us.getD i fz=us[i]'(by rw[z.ulen];exact g):=Hl _;refine y.sRows.get i i4 g λr hr X=>?_;have a5:=hr.len;have R:=z.short _ (qf g);refine aq (λk:Nat=>(k:Int)) (λk h'=>aP (λb=>b<h.size) h h'/\k<=rows[i].length/\Own h' 3 s 1 ak (if us.getD i fz then d i else kB (d i) (rows[i].take k))) (λk=>rows[i].length-k) 0 i4
   ⟨F,i5,by simpa[kB]using q⟩ ?_
  rintro j h3 ⟨A,hj,c⟩;have t:Ai h3 p a l o u rows rs op us:=z.ae (A.mono λb e _=>e);refine ag (λJ=>?_) (λQ=>?_)
  ·have E:j<rows[i].length:=i5
   have ar:=t.sRows.row i r _ X (qc g);have hc:=z.cZ _ (qf g) _ (qf E);refine ar.bt j i4 E _ i4 ?_;refine⟨a,i4,u,t.c2,?_⟩;refine t.sUs.bt i i4 (by rw[z.ulen];exact g) _ i4 ?_;rw[ai (j+1)];refine aR (λe=>?_) (λe=>?_)
   ·rw[V,e]at c;simp only[zg,if_false]at c;have H:i0 (kB (d i) (rows[i].take j))=i0 op:=by rw[CR,O]
    have m:rows[i][j].toNat<i0 (kB (d i) (rows[i].take j)):=by rw[H];omega
    have a3:=DP (r:=rows[i].take j) (W i) _ (qf m);have a7:i0 (rows[i].take j)<=64:=p5
    have Y:Seq h3 (λ_=>True) s 1 ak (kB (d i) (rows[i].take j)):=c.seq (λ_=>rfl) λ_ _=>trivial;refine Y.bt rows[i][j].toNat i5 m _ i4 ?_;rw[ai _];refine c.set aj (λ_=>rfl) i4 rows[i][j].toNat i5 m _ i4 i4 i4 λh4 G am ax=>?_;refine⟨j+1,jj,⟨A.then am (λb e _=>λT=>by have:=D b T;omega),i5,?_⟩,i5⟩;rw[V,e];simp only[zg,if_false];rw[aD _ _ E,Qn,getD_lt m];exact G
   ·refine⟨j+1,jj,⟨A,i5,?_⟩,i5⟩;rw[V,e]at c⊢;exact c
  ·rw[ai (i+1)];rw[qg i5]at c;refine⟨i+1,jj,⟨A,i5,?_⟩,i5⟩;have:d (i+1)=if us.getD i fz then d i else kB (d i) rows[i]:=by show ly _ _ _ _ (i+1)=_;rw[ly];simp only[L];rfl
   rw[this];exact c
 ·have U:i=i0 rows:=i5
  subst U;refine⟨a,i4,o,y.c1,?_⟩;have M:Seq h2 (λ_=>True) s 1 ak (d rows.length):=q.seq (λ_=>rfl) λ_ _=>trivial;have ay:=O rows.length;refine aq (λk:Nat=>(iR op (d rows.length) k,(k:Int))) (λk h'=>h'=h2/\k<=i0 op) (λk=>i0 op-k) 0 i4 ⟨i4,i5⟩ ?_;rintro k h3 ⟨rfl,Z⟩
  try dsimp only
  have a2:=SU op (d rows.length) k;refine ag (λJ=>?_) (λQ=>?_)
  ·have N:k<i0 op:=i5
   refine y.sOp.bt k i4 N _ i4 ?_;rw[ai (k+1)];have B:op.getD k fz=op[k]:=Hl N;refine bo (λe=>?_) (λe=>?_)
   ·refine ag (λI=>?_) (λab=>?_)
    ·refine⟨k+1,?_,⟨i4,i5⟩,i5⟩;rw[iR,g9 (by rw[B,e,hY I];rfl)];rfl
    ·refine M.bt k i4 i5 _ i4 ?_;refine M.bt (iR op (d rows.length) k).toNat i5 i5 _ i4 ?_;have e1:(d rows.length).getD k 0=(d rows.length)[k]:=getD_lt;have e2:(d rows.length).getD (iR op (d rows.length) k).toNat 0=(d rows.length)[(iR op (d rows.length) k).toNat]:=getD_lt;refine ag (λad=>?_) (λS=>?_)
     ·refine⟨k+1,?_,⟨i4,i5⟩,i5⟩;rw[iR,g9 (by rw[B,e,e1,e2,hY ad];simp)];rfl
     ·refine⟨k+1,?_,⟨i4,i5⟩,i5⟩;rw[iR,hU (by rw[B,e,e1,e2,hZ S,hZ ab];simp)];rfl
   ·refine⟨k+1,?_,⟨i4,i5⟩,i5⟩;rw[iR,hU (by rw[B,e];simp)];rfl
  ·have ao:k=i0 op:=i5
   subst ao;exact⟨F.mono λb e _=>e,i4⟩
def fL(p:Int×Int):aT:=[xF xL p.1,xF xL p.2]
theorem abd:∀x,∀c∈fL x,c.oneCell'=eX:=by intro x c a;simp only[fL,qX,yw,or_false]at a;rcases a with rfl|rfl<;>rfl
def Cy(n:Int)(rows:ct):List (Int×Int)×aB×aB:=
 if jO n rows then((dP n.toNat rows).steps,(dP n.toNat rows).dead,fE (dP n.toNat rows).used rows.length)else([],[],[])
def agd(c h:g0)(v:Value)(ok:Bool)(a:List (Int×Int))(b e:aB):Prop:=
 ∃s d f:Sl,v=.tuple #[xK #[s,d,f],xJ ok]/\
  Sp c h [af 338 s 2 fL a,af 3 d 1 ak b,af 3 f 1 ak e]
theorem adY{α β γ:Type}{s h:g0}{c:Nat->Nat}{j q p v t m:Nat}{g:α->aT}{w:β->aT}{n:γ->aT}{l r u:Sl}{l1:List α}{l2:List β}{k:List γ}(o:mL s h c)(e:dS h c 6 j l v g l1)(f:dS h c 7 q r t w l2)(a3:dS h c 8 p u m n k):
  Sp s h [af j l v g l1,af q r t w l2,af p u m n k]:=by
 refine⟨λ_ h=>h,o.ae,λb=>c b-5,λb a=>?_,λi A d=>?_⟩
 ·have:=o.bu b a;(try dsimp only);omega
 ·match i,d with
  |0,d=>simp at d;subst d;exact⟨e.own,λb a=>⟨e.own.lt a,by have:=e.bu b a;(try dsimp only);omega⟩⟩
  |1,d=>simp at d;subst d;exact⟨f.own,λb a=>⟨f.own.lt a,by have:=f.bu b a;(try dsimp only);omega⟩⟩
  |2,d=>simp at d;subst d;exact⟨a3.own,λb a=>⟨a3.own.lt a,by have:=a3.bu b a;(try dsimp only);omega⟩⟩
  |i+3,d=>simp at d
theorem adZ{n:Int}{rows:ct}(h:jO n rows=eX):0<=n/\n<=64/\∀r∈rows,fK n r=eX:=by simp only[jO,qy,decide_eq_true_eq,qJ]at h;exact⟨h.1.1,h.1.2,h.2⟩
theorem Hm{n:Int}{r:aB}(h:fK n r=eX):∀c∈r,0<=c/\c<n:=by simp only[fK,qy,qJ,decide_eq_true_eq]at h;exact h.1
theorem LD:∀{r:aB} {a n:Int},fJ r=eX->(∀c∈r,a<=c/\c<n)->(i0 r:Int)<=max 0 (n-a)
 |[],a,n,_,_=>i9
 |[x],a,n,_,h=>by have:=h x jj;simp;omega
 |x::y::t,a,n,hr,h=>by
  simp only[fJ,qy,decide_eq_true_eq]at hr;have f:=h x jj;have g:=h y jj;have e:∀(l:aB) (z:Int),fJ (z::l)=eX->∀c∈l,z<c:=by
   intro l
   induction l with
   |nil=>intro z _ c b;simp at b
   |cons w t ih=>
    intro z d c b;simp only[fJ,qy,decide_eq_true_eq]at d;rcases qX.1 b with rfl|b
    ·exact d.1
    ·have:=ih w d.2 c b;omega
  have:=LD (r:=y::t) (a:=x+1) (n:=n) hr.2 λc b=>⟨by
   rcases qX.1 b with rfl|b
   ·omega
   ·have:=e t y hr.2 c b;omega,(h c (by simp only[qX]at b⊢;exact .inr b)).2⟩
  simp only[ze]at this⊢;omega
theorem Yf{n:Int}{r:aB}(h:fK n r=eX)(c:n<=64):i0 r<=64:=by have b:=Hm h;simp only[fK,qy]at h;have:=LD (a:=0) h.2 b;omega
theorem abe(n k:Nat)(h:k<n):(qi k eX++qi (n-k) fz).set k eX=qi (k+1) eX++qi (n-(k+1)) fz:=by
 have e:n-k=(n-(k+1))+1:=i5
 rw[qV _ _ jj,e,List.replicate_succ];simp only[List.length_replicate,qW,zp];rw[List.replicate_succ' (n:=k)];simp
theorem Pj{h i:g0}{c:Nat->Nat}{a:f8}{l o u:Sl}{rows:ct}{rs:List Sl}{op us:List Bool}(q:fA i (λb=>b<i.size) l 1 ak rows rs)(j:mL i h c)(e:kM h c 2 a 388 [l,o,u])
  (n:dS h c 3 4 o 1 fg op) (m:dS h c 4 4 u 1 fg us) (g:i0 us=i0 rows) (p:i0 op<=64) (k:∀r∈rows,fK op.length r=eX):Ai h (λb=>b<h.size) a l o u rows rs op us:=
 ⟨e.box.cell0 i4,e.box.cell i4,e.box.cell i4,e.box.lt,(q.ae j.ae).mono λb f=>qZ f j.ae.1,n.TK λ_=>rfl,m.TK λ_=>rfl,g,λr d=>Hm (k r d),λr d=>Yf (k r d) i5⟩
theorem Yg(n:Int)(l:Sl)(rows:ct)(rs:List Sl)(h:g0)(hl:fA h (λb=>b<h.size) l 1 ak rows rs)(hs:i0 rows<=2^30)(dp:∀r∈rows,i0 r<=2^40):
  an xP 255 #[xF xL n,l] h λv h'=>agd h h' v (jO n rows) (Cy n rows).1 (Cy n rows).2.1 (Cy n rows).2.2:=by
 refine ts Tryz.func255 ?_ (.two .n (.scope 1 [] [(5,6),(9,14),(42,108)] [.n,(.join [(6,Oi)] [(6,7),(19,27)] .n),(.two .n (.inn (.loop [(32,aQ)] [(7,8),(32,42)] .n))),.n] [(.two .n (.two (.join [] [(9,12),(48,88)] .n) .n))] [(0,[(.two (.two .n (.inn (.loop [(93,aQ)] [(12,14),(93,107)] .n))) .n)])])) [(3,(.y [0,1,3,4] (.l [2,5,6,7,8]) (.l [5,2,6,7,8])))];have ej:=hl.GB;refine sQ aj (mL.refl h) 1 i4 λa1 h1 b2 d6=>?_;have F:=(mL.refl h).keep (m:=1) d6 i6;refine(Ks n l rows rs h1 (hl.ae F.ae) i5 dp).mono ?_;rintro v h2 ⟨rfl,rfl⟩;refine⟨_,i4,?_⟩;refine aR (λhr=>?_) (λhr=>?_)
 ·refine b2.jr aj i4 _ i4 i4 i4 (ql _) λh3 ah D=>?_;refine⟨(⟨eH,0,0⟩,⟨eH,0,0⟩,⟨eH,0,0⟩),ah.box.aF _ i4,?_⟩;refine⟨⟨eH,0,0⟩,⟨eH,0,0⟩,⟨eH,0,0⟩,by rw[hr],?_⟩;simp only[Cy,hr,zg,if_false];exact(((Sp.zip (F.keep (m:=1) D i6).ae).nil 338 2 fL).nil 3 1 ak).nil 3 1 ak
 ·obtain⟨ek,eq,cc⟩:=adZ hr;obtain⟨N,rfl⟩:∃N:Nat,n=N:=⟨n.toNat,i5⟩
  have hN:N<=64:=i5
  refine bL (λs h'=>∃c a o u,s=dB a/\mL h h' c/\kM h' c 1 a1 262 [xG eH 0 0,xG eH 0 0,xG eH 0 0]/\kM h' c 2 a 388 [l,xG o.ptr o.len o.cap,xG u.ptr u.len u.cap]/\
   dS h' c 3 4 o 1 fg (qi N fz)/\dS h' c 4 4 u 1 fg (qi rows.length fz)) ⟨?_,?_⟩ ?_
  ·refine vh aj F 3 fg ⟨_,_,i4,i4,i4,i4,i4,i4⟩ i6 fz i4 i4 N i4 i4 i5 λo h3 ho D=>?_;refine⟨trivial,?_⟩;refine vh aj (F.keep (m:=3) D i6) 4 fg ⟨_,_,i4,i4,i4,i4,i4,i4⟩ i6 fz i4 i4 rows.length i5 i5 i5 λu h4 hu I=>?_;refine⟨trivial,?_⟩;refine Ni _ ((F.keep (m:=3) D i6).keep (m:=4) I i6) 2 λa h5 ha B=>?_;exact⟨trivial,_,a,o,u,i4,((F.keep D i6).keep I i6).keep B i6,((b2.keep D i6).keep I i6).keep B i6,ha,(ho.keep I i6).keep B i6,hu.keep B i6⟩
  ·refine vh aj F 4 fg ⟨_,_,i4,i4,i4,i4,i4,i4⟩ i6 fz i4 i4 rows.length i5 i5 i5 λu h3 hu D=>?_;refine⟨trivial,?_⟩;refine vh aj (F.keep (m:=4) D i6) 3 fg ⟨_,_,i4,i4,i4,i4,i4,i4⟩ i6 fz i4 i4 N i4 i4 i5 λo h4 ho I=>?_;refine⟨trivial,?_⟩;refine Ni _ ((F.keep (m:=4) D i6).keep (m:=3) I i6) 2 λa h5 ha B=>?_;exact⟨trivial,_,a,o,u,i4,((F.keep D i6).keep I i6).keep B i6,((b2.keep D i6).keep I i6).keep B i6,ha,ho.keep B i6,(hu.keep I i6).keep B i6⟩
  ·rintro s h3 ⟨c,a,o,u,rfl,c0,bq,ah,al,cf⟩;refine⟨a,i4,o,ah.box.cell i4,?_⟩;have ep:o.len=N:=by rw[al.own.len];simp
   refine aq (λt:Nat×(Nat->Nat)=>(t.1:Int)) (λt h'=>t.1<=N/\mL h h' t.2/\kM h' t.2 1 a1 262 [xG eH 0 0,xG eH 0 0,xG eH 0 0]/\kM h' t.2 2 a 388 [l,o,u]/\
    dS h' t.2 3 4 o 1 fg (qi t.1 eX++qi (N-t.1) fz)/\dS h' t.2 4 4 u 1 fg (qi rows.length fz)) (λt=>N-t.1) (0,c) i4 ⟨jj,c0,bq,ah,by simpa using al,cf⟩ ?_
   rintro⟨k,c⟩ h4 ⟨hk,bl,b5,bb,bk,b6⟩;dsimp only at*;refine ag (λdj=>?_) (λea=>?_)
   ·have d4:k<N:=i5
    refine⟨a,i4,o,bb.box.cell i4,?_⟩;refine bk.set aj (λ_=>rfl) i4 k i4 i9 eX i4 i4 i4 λh5 bd B=>?_;rw[ai _];rw[abe _ _ d4]at bd;exact⟨(k+1,_),jj,⟨i9,bl.keep B i6,b5.keep B i6,bb.keep B i6,bd,b6.keep B i6⟩,i9⟩
   ·have ec:k=N:=i5
    subst ec;simp only[qW,y9,qE]at bk;refine sQ aj bl 5 i4 λap h5 da B=>?_;have c6:=bl.keep (m:=5) B i6;have d3:=b5.keep (m:=5) B i6;have d7:=bb.keep (m:=5) B i6;have bd:=bk.keep (m:=5) B i6;have dx:=b6.keep (m:=5) B i6;clear bl b5 bb bk b6 c0 bq ah al cf;generalize grow c h4.size 5=c5 at*;refine aq (τ:=Nat×List Bool×List Bool×(List (Int×Int))×aB×(Nat->Nat)×Sl×Sl) (λ_=>())
     (λ⟨f,op,us,st,dd,c,ss,ds⟩ h'=>i0 op=k/\us.length=i0 rows/\op.count eX<=f/\f<=k/\st.length<=k-f/\dd.length<=k-f/\
      (∃r,cJ rows f op us=r/\dP k rows=⟨st++r.steps,dd++r.dead,r.used⟩)/\mL h h' c/\
      kM h' c 1 a1 262 [xG eH 0 0,xG eH 0 0,xG eH 0 0]/\kM h' c 2 a 388 [l,o,u]/\
      dS h' c 3 4 o 1 fg op/\dS h' c 4 4 u 1 fg us/\
      kM h' c 5 ap 262 [ss,ds,xG eH 0 0]/\dS h' c 6 338 ss 2 fL st/\dS h' c 7 3 ds 1 ak dd)
     (λt=>t.1) (k,qi k eX,qi rows.length fz,[],[],c5,⟨eH,0,0⟩,⟨eH,0,0⟩) i4
     ⟨jj,jj,jj,jj,jj,jj,⟨_,i4,by simp[dP]⟩,c6,d3,d7,bd,dx,da,dS.nil _ _ _ _ _ _,dS.nil _ _ _ _ _ _⟩ ?_
    rintro⟨f,op,us,st,dd,c,ss,ds⟩ h6 ⟨a0,M,eg,en,ee,ef,⟨r,ao,a8⟩,K,a2,S,ab,T,L,O,J⟩;dsimp only at*;have H:∀r∈rows,fK op.length r=eX:=by rw[a0];exact cc
    have ay:=Pj hl K S ab T M i5 H;refine⟨a,i4,o,S.box.cell i4,?_⟩;refine(EN o op eX h6 (ab.TK λ_=>rfl) i5).mono ?_;rintro v h7 ⟨rfl,rfl⟩;refine⟨_,i4,?_⟩;refine aR (λhc=>?_) (λhc=>?_)
    ·have ad:op.contains eX=fz:=by simpa using hc
     have bq:r=⟨[],[],us⟩:=by rw[<-ao];exact xT ad f
     subst bq;simp only[qE]at a8;refine⟨a,i4,u,S.box.cell i4,?_⟩;have eh:u.len=i0 rows:=by rw[T.own.len,M]
     refine aq (λt:Nat×(Nat->Nat)×Sl=>(t.1:Int)) (λ⟨j,c,fs⟩ h'=>j<=i0 rows/\mL h h' c/\
      kM h' c 1 a1 262 [xG eH 0 0,xG eH 0 0,xG eH 0 0]/\dS h' c 4 4 u 1 fg us/\
      kM h' c 5 ap 262 [ss,ds,fs]/\dS h' c 6 338 ss 2 fL st/\dS h' c 7 3 ds 1 ak dd/\dS h' c 8 3 fs 1 ak (fE us j)) (λt=>i0 rows-t.1) (0,c,⟨eH,0,0⟩) i4
      ⟨jj,K,a2,T,L,O,J,dS.nil _ _ _ _ _ _⟩ ?_
     rintro⟨j,c,fs⟩ h8 ⟨hj,a9,br,b4,Y,a5,a4,am⟩;dsimp only at*;refine ag (λdj=>?_) (λea=>?_)
     ·have ei:j<i0 rows:=i5
      have eo:i0 (fE us j)<=j:=FB us j;refine(b4.TK λ_=>rfl).bt j i4 i5 _ i4 ?_;have c1:us.getD j fz=us[j]:=Hl i5;rw[ai _];refine aR (λhb=>?_) (λhb=>?_)
      ·refine⟨fs,Y.box.cell i4,?_⟩;refine GD aj a9 9 ak ⟨_,_,i4,i4,i4,i4,i4,i4⟩ i4 [(j:Int)] i4 (zG i4) i4 λv h9 dy p=>?_;refine(am.keep (m:=9) p i6).append aj ⟨_,_,i4,i4,i4,i4,i4,i4⟩ ⟨_,_,i4,i4⟩ i4 i6 (λ_=>rfl) (dy.seq λ_=>rfl) eS i9 λd1 b9 b7 g=>?_;refine((Y.keep (m:=9) p i6).keep (m:=8) g i6).store aj i4 2 _ i4 i4 i4 (zG i4) λcd bs d=>?_;refine⟨(j+1,_,d1),jj,⟨i9,((a9.keep p i6).keep g i6).keep d i6,((br.keep p i6).keep g i6).keep d i6,((b4.keep p i6).keep g i6).keep d i6,bs,
        ((a5.keep p i6).keep g i6).keep d i6,((a4.keep p i6).keep g i6).keep d i6,?_⟩,i9⟩
       have e:fE us (j+1)=fE us j++[(j:Int)]:=by rw[fE,c1,hb];rfl
       rw[e];exact b7.keep d i6
      ·have e:fE us (j+1)=fE us j:=by rw[fE,c1,hb];rfl
       exact⟨(j+1,c,fs),jj,⟨i9,a9,br,b4,Y,a5,a4,by rw[e];exact am⟩,i9⟩
     ·have d0:j=i0 rows:=i5
      subst d0;refine⟨(ss,ds,fs),Y.box.aF _ i4,?_⟩;refine br.jr aj i4 _ i4 i4 i4 (ql _) λh9 c7 p=>?_;refine⟨(ss,ds,fs),c7.box.aF _ i4,?_⟩;refine⟨ss,ds,fs,by rw[hr],?_⟩;simp only[Cy,hr,if_true,qj,a8];exact adY (a9.keep (m:=1) p i6) (a5.keep (m:=1) p i6) (a4.keep (m:=1) p i6) (am.keep (m:=1) p i6)
    ·have ad:op.contains eX=eX:=by simpa using hc
     obtain⟨f',rfl⟩:∃f',f=f'+1:=by obtain⟨j,hj,e⟩:=DQ ad;have:=kQ e;exact⟨f-1,i5⟩
     refine aW ?_;refine(Mo a l o u rows rs op us h7 ay i5).mono ?_;rintro v h8 ⟨A,rfl⟩;have A:=A.bu c 9;cases hst:mI rows op us with
     |some i=>
      obtain⟨hi,d8⟩:=sZ hst;obtain⟨el,dk,al⟩:=BU d8;have cr:rows.getD i []=rows[i]:=by rw[qd,qc hi];rfl
      have ed:=Hm (H _ (qf hi)) _ (cr▸dk);refine⟨((i,fk rows op i),eX),i4,?_⟩
      try dsimp only
      refine sQ aj (K.keep (m:=9) A i6) 9 i4 λax h9 has p=>?_;refine has.jr aj i4 _ i4 i4 i4 (ql _) λb9 Q g=>?_;refine Dp i4 ?_;have G:=((K.keep (m:=9) A i6).keep (m:=9) p i6).keep (m:=9) g i6;have a3:=((a2.keep (m:=9) A i6).keep (m:=9) p i6).keep (m:=9) g i6;have W:=((S.keep (m:=9) A i6).keep (m:=9) p i6).keep (m:=9) g i6;have X:=((ab.keep (m:=9) A i6).keep (m:=9) p i6).keep (m:=9) g i6;have Z:=((T.keep (m:=9) A i6).keep (m:=9) p i6).keep (m:=9) g i6;have E:=((L.keep (m:=9) A i6).keep (m:=9) p i6).keep (m:=9) g i6;have P:=((O.keep (m:=9) A i6).keep (m:=9) p i6).keep (m:=9) g i6;have R:=((J.keep (m:=9) A i6).keep (m:=9) p i6).keep (m:=9) g i6;clear K a2 S ab T L O J A p has ay;generalize grow (grow (grow c h7.size 9) h8.size 9) h9.size 9=c10 at*;refine⟨ss,E.box.cell0 i4,(_,_),Q.box.aF _ i4,?_⟩
      try dsimp only
      refine GD aj G 10 fL ⟨_,_,i4,i4,i4,i4,i4,i4⟩ i4 [((i:Int),fk rows op i)] i4 (zG i4) i4 λv cd c2 d=>?_;refine(P.keep (m:=10) d i6).append aj ⟨_,_,i4,i4,i4,i4,i4,i4⟩ ⟨_,_,i4,i4⟩ i4 i6 (λ_=>rfl) (c2.seq λ_=>rfl) abd i9 λd5 c8 b3 q=>?_;refine((E.keep (m:=10) d i6).keep (m:=6) q i6).jr aj i4 _ i4 i4 i4 (zG i4) λd9 b0 x=>?_;have U:=((Q.keep (m:=10) d i6).keep (m:=6) q i6).keep (m:=5) x i6;have a7:=((W.keep (m:=10) d i6).keep (m:=6) q i6).keep (m:=5) x i6;have cl:=((Z.keep (m:=10) d i6).keep (m:=6) q i6).keep (m:=5) x i6;have cs:=((X.keep (m:=10) d i6).keep (m:=6) q i6).keep (m:=5) x i6;refine⟨a,i4,u,a7.box.cell i4,(i:Int),U.box.cell0 i4,a,i4,o,a7.box.cell i4,fk rows op i,U.box.cell i4,?_⟩;refine cl.set aj (λ_=>rfl) i4 i i4 i5 eX i4 i4 i4 λdu cq w=>?_;have a6:=U.keep (m:=4) w i6;have V:=a7.keep (m:=4) w i6;refine⟨⟨a6.box.cell i4,trivial⟩,?_⟩;refine(cs.keep (m:=4) w i6).set aj (λ_=>rfl) i4 (fk rows op i).toNat i5 i5 fz i4 i4 i4 λd2 ar z=>?_;have eb:=a6.keep (m:=3) z i6;have cp:=V.keep (m:=3) z i6;refine⟨trivial,?_⟩;have dr:=kQ (op:=op) (j:=(fk rows op i).toNat) al;rw[oG ad hst]at ao;refine⟨(f',op.set (fk rows op i).toNat fz,us.set i eX,st++[((i:Int),fk rows op i)],dd,_,d5,ds),i4,⟨by simp[a0],by simp[M],i7,i7,i9,i7,⟨_,i4,?_⟩,
       ((((G.keep d i6).keep q i6).keep x i6).keep w i6).keep z i6,
       ((((a3.keep d i6).keep q i6).keep x i6).keep w i6).keep z i6,
       cp,ar,cq.keep z i6,(b0.keep w i6).keep z i6,((b3.keep x i6).keep w i6).keep z i6,
       ((((R.keep d i6).keep q i6).keep x i6).keep w i6).keep z i6⟩,i7⟩
      rw[a8,<-ao];simp
     |none=>
      have c9:=rT (rows:=rows) (us:=us) ad;refine⟨((0,0),fz),i4,?_⟩
      try dsimp only
      refine sQ aj (K.keep (m:=9) A i6) 9 i4 λax h9 has p=>?_;refine has.jr aj i4 _ i4 i4 i4 (ql _) λb9 Q g=>?_;refine tW i4 ?_;have G:=((K.keep (m:=9) A i6).keep (m:=9) p i6).keep (m:=9) g i6;have a3:=((a2.keep (m:=9) A i6).keep (m:=9) p i6).keep (m:=9) g i6;have W:=((S.keep (m:=9) A i6).keep (m:=9) p i6).keep (m:=9) g i6;have X:=((ab.keep (m:=9) A i6).keep (m:=9) p i6).keep (m:=9) g i6;have Z:=((T.keep (m:=9) A i6).keep (m:=9) p i6).keep (m:=9) g i6;have E:=((L.keep (m:=9) A i6).keep (m:=9) p i6).keep (m:=9) g i6;have P:=((O.keep (m:=9) A i6).keep (m:=9) p i6).keep (m:=9) g i6;have R:=((J.keep (m:=9) A i6).keep (m:=9) p i6).keep (m:=9) g i6;clear K a2 S ab T L O J A p has ay;generalize grow (grow (grow c h7.size 9) h8.size 9) h9.size 9=c10 at*;have ay:=Pj hl G W X Z M i5 H;refine(Mp a l o u rows rs op us b9 ay i5 i5).mono ?_;rintro v cd ⟨d,rfl⟩;have d:=d.bu c10 9;refine⟨_,i4,?_⟩;refine⟨ds,(E.keep (m:=9) d i6).box.cell i4,?_⟩;refine GD aj (G.keep (m:=9) d i6) 10 ak ⟨_,_,i4,i4,i4,i4,i4,i4⟩ i4 [io rows op us] i4 (zG i4) i4 λv c8 c4 q=>?_;refine((R.keep (m:=9) d i6).keep (m:=10) q i6).append aj ⟨_,_,i4,i4,i4,i4,i4,i4⟩ ⟨_,_,i4,i4⟩ i4 i6 (λ_=>rfl) (c4.seq λ_=>rfl) eS i9 λds' d9 ca x=>?_;refine(((E.keep (m:=9) d i6).keep (m:=10) q i6).keep (m:=7) x i6).store aj i4 1 _ i4 i4 i4 (zG i4) λdu b1 w=>?_;have V:=(((W.keep (m:=9) d i6).keep (m:=10) q i6).keep (m:=7) x i6).keep (m:=5) w i6;have cn:=(((X.keep (m:=9) d i6).keep (m:=10) q i6).keep (m:=7) x i6).keep (m:=5) w i6;refine⟨a,i4,o,V.box.cell i4,?_⟩;refine cn.set aj (λ_=>rfl) i4 (io rows op us).toNat i5 i5 fz i4 i4 i4 λd2 ar z=>?_;have dr:=kQ (op:=op) (j:=(io rows op us).toNat) c9.2.2;rw[oH ad hst]at ao;refine⟨(f',op.set (io rows op us).toNat fz,us,st,dd++[io rows op us],_,ss,ds'),i4,⟨by simp[a0],M,i7,i7,i7,i9,⟨_,i4,?_⟩,
       ((((G.keep d i6).keep q i6).keep x i6).keep w i6).keep z i6,
       ((((a3.keep d i6).keep q i6).keep x i6).keep w i6).keep z i6,
       V.keep z i6,ar,((((Z.keep d i6).keep q i6).keep x i6).keep w i6).keep z i6,b1.keep z i6,
       ((((P.keep d i6).keep q i6).keep x i6).keep w i6).keep z i6,
       (ca.keep w i6).keep z i6⟩,i7⟩
      rw[a8,<-ao];simp
theorem Jc(pool:List (Sl×Row))(c:(⟨eH,0,0⟩,[])∈pool)(n:Nat):iy pool id (qi n ⟨eH,0,0⟩) (qi n []):=
 ⟨jj,λi r l a b=>by
  rw[zT]at a b;split at a
  ·rename_i d;rw[g9 d]at b;cases a;cases b;exact c
  ·cases a⟩
theorem aa.aea{B:aw}{b h:g0}{As:List HP}(H:aa B b h As)(i:Nat){pool:List (Sl×Row)}(d:As[i]?=dB (kZ pool)):aa B b h (As.set i (kZ ((⟨eH,0,0⟩,[])::pool))):=
 H.eJ i d λq c x a=>by
  rcases qX.1 a with rfl|a
  ·exact Seq.nil _ _ _ _ _ _
  ·exact c x a
structure Va (h:g0) (f:f8) (r st dd lf:Sl) (rr:List (Sl×Sl)) (R:List fo) (ST:List (Int×Int)) (D L:aB):Prop where
 field:fI h f
 rest:nQ jC 2 qv h r rr R
 steps:Rd h st 2 fL ST
 dead:Rd h dd 1 ak D
 left:Rd h lf 1 ak L
abbrev SA(s:f8)(a:aT):HP:=ac s 264 a
abbrev HA(s:Sl)(rs:List Sl):HP:=af 58 s 1 bg rs
abbrev RA(s:Sl)(l:Row):HP:=af 5 s 1 az l
theorem LF{R:ct}:∀{l1 l2:List (Int×Int)} {D:Int->Prop},rV R D (l1++l2)->rV R D l1/\rV R (λx=>D x∨∃i,(i,x)∈l1) l2
 |[],l2,D,h=>⟨trivial,by
  have:(λx=>D x∨∃i,(i,x)∈([]:List (Int×Int)))=D:=by funext x;simp
  rw[this];exact h⟩
 |(i,c)::l1,l2,D,h=>by
  obtain⟨a,b,f,d,e⟩:=h;obtain⟨g,k⟩:=LF e;refine⟨⟨a,b,f,d,g⟩,?_⟩;have:(λx=>D x∨∃j,(j,x)∈(i,c)::l1)=λx=>(D x∨x=c)∨∃j,(j,x)∈l1:=by
   funext x;simp only[qX,Prod.mk.injEq,eq_iff_iff];constructor
   ·rintro(h|⟨j,⟨_,h⟩|h⟩)
    ·exact .inl (.inl h)
    ·exact .inl (.inr h)
    ·exact .inr ⟨j,h⟩
   ·rintro((h|h)|⟨j,h⟩)
    ·exact .inl h
    ·exact .inr ⟨i,.inl ⟨i4,h⟩⟩
    ·exact .inr ⟨j,.inr h⟩
  rw[this];exact k
variable {B:aw} {h0 h:g0} {As:List HP}
theorem QZ(s f:f8)(p:Int×Int×Int)(v r S U Y N P:Sl)(n:Nat)(pool:List (Sl×Row))(H:aa B h0 h (SA s (gP f p v r S U Y N P)::kZ pool::As))(m:v.len=n)(hn:n<=64){K:Unit->g0->Prop}
  (Q:∀k d h',k.len=n->d.len=n->aa B h0 h' (SA s (gP f p v r S U Y k d)::HA k (qi n ⟨eH,0,0⟩)::HA d (qi n ⟨eH,0,0⟩)::kZ pool::As)->K () h'):(λ(c:cj) (K1:Unit->g0->Prop)=>
 ∃a3:f8,(c=dB a3)/\
 ∃b:Sl,f9 h (a3.add 4)=dB (xG b.ptr b.len b.cap)/\
 ∃a5:f8,(c=dB a5)/\
 ∃a:Sl,f9 h (a5.add 4)=dB (xG a.ptr a.len a.cap)/\
 (bz xP (zA 43 (xF xL ((b.len:Nat):Int)) (xF xL ((b.len:Nat):Int))) (.one (.sc .slc)) h λy D=>
 (bR.ok [(a5.add 4,(xG a.ptr a.len a.cap)),(a3.add 4,(xG b.ptr b.len b.cap))] D)/\
 ∃R:f8,(c=dB R)/\
 (bz xP (zA 43 (xF xL ((a.len:Nat):Int)) (xF xL ((a.len:Nat):Int))) (.one (.sc .slc)) D λv9 E=>
 (bR.ok [(a5.add 4,(xG a.ptr a.len a.cap)),(a3.add 4,(xG b.ptr b.len b.cap))] E)/\
 au xP (qG 43 (xH (dB (R.add 9))) (xG y.ptr y.len y.cap)) E λ_ h3=>
 (bR.ok [] h3)/\
 ∃M:f8,(c=dB M)/\
 au xP (qG 43 (xH (dB (M.add 10))) (xG v9.ptr v9.len v9.cap)) h3 λ_ q=>
 (bR.ok [] q)/\
 K1 () q)/\(au xP (qG 43 (xH (dB (R.add 9))) (xG y.ptr y.len y.cap)) D λ_ T=>
 (bR.ok [] T)/\
 bz xP (zA 43 (xF xL ((a.len:Nat):Int)) (xF xL ((a.len:Nat):Int))) (.one (.sc .slc)) T λu V=>
 (bR.ok [] V)/\
 ∃z:f8,(c=dB z)/\
 au xP (qG 43 (xH (dB (z.add 10))) (xG u.ptr u.len u.cap)) V λ_ W=>
 (bR.ok [] W)/\
 K1 () W))/\(bz xP (zA 43 (xF xL ((a.len:Nat):Int)) (xF xL ((a.len:Nat):Int))) (.one (.sc .slc)) h λw h8=>
 (bR.ok [(a5.add 4,(xG a.ptr a.len a.cap)),(a3.add 4,(xG b.ptr b.len b.cap))] h8)/\
 bz xP (zA 43 (xF xL ((b.len:Nat):Int)) (xF xL ((b.len:Nat):Int))) (.one (.sc .slc)) h8 λx Z=>
 (bR.ok [(a5.add 4,(xG a.ptr a.len a.cap)),(a3.add 4,(xG b.ptr b.len b.cap))] Z)/\
 ∃L:f8,(c=dB L)/\
 au xP (qG 43 (xH (dB (L.add 9))) (xG x.ptr x.len x.cap)) Z λ_ A=>
 (bR.ok [] A)/\
 ∃G:f8,(c=dB G)/\
 au xP (qG 43 (xH (dB (G.add 10))) (xG w.ptr w.len w.cap)) A λ_ F=>
 (bR.ok [] F)/\
 K1 () F)) (dB s) K:=by
 have X:=H.box 0 i4;refine⟨s,i4,v,X.cell i4,s,i4,v,X.cell i4,?_,?_⟩
 ·refine H.make aj bg fv i6 ⟨eH,0,0⟩ i4 i4 n n o5 o5 (ql _) i5 λk D o O l=>?_;have l:=l.be;have j:=l.box 1 i4;refine⟨⟨j.cell i4,j.cell i4,trivial⟩,s,i4,?_,?_⟩
  ·refine l.make aj bg fv i6 ⟨eH,0,0⟩ i4 i4 n n o5 o5 (ql _) i5 λd E i I e=>?_;have e:=e.be;have g:=e.box 2 i4;refine⟨⟨g.cell i4,g.cell i4,trivial⟩,?_⟩;refine e.store aj 2 i4 i4 9 [k] i4 i4 i4 n8 λh3 t=>⟨trivial,s,i4,?_⟩
   refine t.store aj 2 i4 i4 10 [d] i4 i4 i4 n8 λq J=>⟨trivial,?_⟩
   exact Q k d q o i (J.aO 4 [2,1,0,3])
  ·refine l.store aj 1 i4 i4 9 [k] i4 i4 i4 n8 λE e=>⟨trivial,?_⟩
   refine e.make aj bg fv i6 ⟨eH,0,0⟩ i4 i4 n n o5 o5 (ql _) i5 λd h3 i I t=>⟨trivial,s,i4,?_⟩
   have t:=t.be;refine t.store aj 2 i4 i4 10 [d] i4 i4 i4 n8 λq J=>⟨trivial,?_⟩
   exact Q k d q o i (J.aO 4 [2,1,0,3])
 ·refine H.make aj bg fv i6 ⟨eH,0,0⟩ i4 i4 n n o5 o5 (ql _) i5 λd D o O l=>?_;have l:=l.be;have j:=l.box 1 i4;refine⟨⟨j.cell i4,j.cell i4,trivial⟩,?_⟩;refine l.make aj bg fv i6 ⟨eH,0,0⟩ i4 i4 n n o5 o5 (ql _) i5 λk E i I e=>?_;have e:=e.be;have g:=e.box 2 i4;refine⟨⟨g.cell i4,g.cell i4,trivial⟩,s,i4,?_⟩;refine e.store aj 2 i4 i4 9 [k] i4 i4 i4 n8 λh3 t=>⟨trivial,s,i4,?_⟩
  refine t.store aj 2 i4 i4 10 [d] i4 i4 i4 n8 λq J=>⟨trivial,?_⟩
  exact Q k d q i o (J.aO 4 [2,0,1,3])
theorem Yh(n nd w:Nat)(d:aB):(ga n nd w d).1.length=n/\(ga n nd w d).2.length=n:=by
 unfold ga;have:∀(l:List (Int×Nat)) (s:aJ×aJ),(l.foldl (λs p=>(s.1.set p.1.toNat (nZ nd p.2),s.2.set p.1.toNat (aI w))) s).1.length=i0 s.1/\(l.foldl (λs p=>(s.1.set p.1.toNat (nZ nd p.2),s.2.set p.1.toNat (aI w))) s).2.length=i0 s.2:=by
  intro l
  induction l with
  |nil=>intro s;exact⟨i4,i4⟩
  |cons a l ih=>intro s;rw[zy];have:=ih (s.1.set a.1.toNat (nZ nd a.2),s.2.set a.1.toNat (aI w));simpa using this
 have:=this d.zipIdx (qi n [],qi n []);simpa using this
abbrev Told(s f:f8)(p:Int×Int×Int)(v r c e i a b:Sl)(d h:List Sl)(g:List (Sl×Row)):List HP:=[SA s (gP f p v r c e i a b),HA a d,HA b h,kZ g]
theorem Vb(s f:f8)(p:Int×Int×Int)(v r st Q lf wa N:Sl)(I mr:List Sl)(pl:List (Sl×Row))(c:Int)(nd w:Nat)(H:aa B h0 h (Told s f p v r st Q lf wa N I mr pl++As))(ar:0<=c)(hw:c.toNat<i0 I)(hm:c.toNat<i0 mr)(Y:p.2.2=w)(hd:Q.len=nd)(ap:nd<=64)(M:w<=2^20){K:Unit->g0->Prop}
  (hk:∀a b h',aa B h0 h' (RA a (aI nd)::RA b (aI w)::(Told s f p v r st Q lf wa N (I.set c.toNat a) (mr.set c.toNat b) pl++As))->K () h'):(λ(L:cj) (K3:Unit->g0->Prop)=>
 ∃n:f8,(L=dB n)/\
 ∃g:Sl,f9 h (n.add 9)=dB (xG g.ptr g.len g.cap)/\
 ∃a25:f8,(L=dB a25)/\
 ∃d:Sl,f9 h (a25.add 10)=dB (xG d.ptr d.len d.cap)/\
 ∃S:f8,(L=dB S)/\
 ∃j:Int,f9 h ((S.add 1).add 2)=dB (xF xL j)/\
 (bz xP (zA 58 (xF xL ((Q.len:Nat):Int)) (xF xL ((Q.len:Nat):Int))) (.one (.sc .slc)) h λo R=>
 (bR.ok [((S.add 1).add 2,(xF xL j)),(a25.add 10,(xG d.ptr d.len d.cap)),(n.add 9,(xG g.ptr g.len g.cap))] R)/\
 ∃P:f8,(g.ptr=dB P/\0<=c/\c<((g.len:Nat):Int))/\
 (bz xP (zA 58 (xF xL j) (xF xL j)) (.one (.sc .slc)) R λT am=>
 (bR.ok [(a25.add 10,(xG d.ptr d.len d.cap)),(n.add 9,(xG g.ptr g.len g.cap))] am)/\
 au xP (qG 58 (xH (dB (P.add (c.toNat*1)))) (xG o.ptr o.len o.cap)) am λ_ y=>
 (bR.ok [] y)/\
 ∃u:f8,(d.ptr=dB u/\0<=c/\c<((d.len:Nat):Int))/\
 au xP (qG 58 (xH (dB (u.add (c.toNat*1)))) (xG T.ptr T.len T.cap)) y λ_ F=>
 (bR.ok [] F)/\
 K3 () F)/\(au xP (qG 58 (xH (dB (P.add (c.toNat*1)))) (xG o.ptr o.len o.cap)) R λ_ D=>
 (bR.ok [] D)/\
 bz xP (zA 58 (xF xL j) (xF xL j)) (.one (.sc .slc)) D λk t=>
 (bR.ok [] t)/\
 ∃z:f8,(d.ptr=dB z/\0<=c/\c<((d.len:Nat):Int))/\
 au xP (qG 58 (xH (dB (z.add (c.toNat*1)))) (xG k.ptr k.len k.cap)) t λ_ E=>
 (bR.ok [] E)/\
 K3 () E))/\(bz xP (zA 58 (xF xL j) (xF xL j)) (.one (.sc .slc)) h λU ah=>
 (bR.ok [(a25.add 10,(xG d.ptr d.len d.cap)),(n.add 9,(xG g.ptr g.len g.cap))] ah)/\
 bz xP (zA 58 (xF xL ((Q.len:Nat):Int)) (xF xL ((Q.len:Nat):Int))) (.one (.sc .slc)) ah λW ad=>
 (bR.ok [(a25.add 10,(xG d.ptr d.len d.cap)),(n.add 9,(xG g.ptr g.len g.cap))] ad)/\
 ∃Z:f8,(g.ptr=dB Z/\0<=c/\c<((g.len:Nat):Int))/\
 au xP (qG 58 (xH (dB (Z.add (c.toNat*1)))) (xG W.ptr W.len W.cap)) ad λ_ al=>
 (bR.ok [] al)/\
 ∃ab:f8,(d.ptr=dB ab/\0<=c/\c<((d.len:Nat):Int))/\
 au xP (qG 58 (xH (dB (ab.add (c.toNat*1)))) (xG U.ptr U.len U.cap)) al λ_ ao=>
 (bR.ok [] ao)/\
 K3 () ao)) (dB s) K:=by
 have hb:=H.box 0 i4;have mk:∀{X:g0} {Cs:List HP} (m:Nat) (hm:m<=2^20) {z1 z2:Int},z1=(m:Int)->z2=(m:Int)->aa B h0 X Cs->∀{K:Sl->g0->Prop},(∀a h',aa B h0 h' (RA a (aI m)::Cs)->K a h')->
   bz xP (zA 58 (xF xL z1) (xF xL z2)) (.one (.sc .slc)) X K:=by
  intro X Cs m hm z1 z2 e1 e2 G K hK;subst e1;subst e2;exact G.make aj az gz i6 0 i4 i4 m m i4 i4 (ql _) i5 λa h' _ _ H'=>hK a h' H'.be
 refine⟨s,i4,wa,hb.cell i4,s,i4,N,hb.cell i4,s,i4,p.2.2,show f9 h (s.add 3)=_ from hb.cell i4,?_,?_⟩
 ·refine mk nd i5 (by rw[hd]) (by rw[hd]) H λa X G=>?_;have l:=G.box 1 i4;refine⟨⟨show f9 X (s.add 3)=_ from l.cell i4,l.cell i4,l.cell i4,trivial⟩,?_⟩;have A:∀{h2:g0} {Cs:List HP} {I:List Sl} (i:Nat) (a:Sl) {s':Sl},aa B h0 h2 Cs->Cs[i]?=dB (HA s' I)->c.toNat<i0 I->∀{K:g0->Prop},(∀h',aa B h0 h' (Cs.set i (HA s' (I.set c.toNat a)))->K h')->∃x:f8,(s'.ptr=dB x/\0<=c/\c<((s'.len:Nat):Int))/\au xP (qG 58 (xH (dB (x.add (c.toNat*1)))) (xG a.ptr a.len a.cap)) h2 λ_ h'=>K h':=by intro h2 Cs I i a s' J hi hl K hK;exact J.set aj i hi (λ_=>rfl) i4 c.toNat i5 hl a i4 i4 i4 λh3 V=>hK h3 V
  obtain⟨x,hx,-⟩:=A (K:=λ_=>True) 2 a G rfl hw λ_ _=>trivial;refine⟨x,hx,?_,?_⟩
  ·refine mk w M Y Y G λb h2 J=>?_;have q:=J.box 2 i4;refine⟨⟨q.cell i4,q.cell i4,trivial⟩,?_⟩;obtain⟨x',O,hr⟩:=A (K:=λy=>bR.ok [] y/\∃u:f8,(N.ptr=dB u/\0<=c/\c<((N.len:Nat):Int))/\
 au xP (qG 58 (xH (dB (u.add (c.toNat*1)))) (xG b.ptr b.len b.cap)) y λ_ F=>(bR.ok [] F)/\K () F) 3 a J i4 hw λh3 V=>⟨trivial,A 4 b V i4 hm λh4 H4=>⟨trivial,hk a b h4 (H4.aO 6 [1,0,2,3,4,5])⟩⟩
   have e:x=x':=zW.inj (hx.1.symm.trans O.1);subst e;exact hr
  ·obtain⟨x',O,hr⟩:=A (K:=λD=>bR.ok [] D/\bz xP (zA 58 (xF xL p.2.2) (xF xL p.2.2)) (.one (.sc .slc)) D λk t=>
 (bR.ok [] t)/\
 ∃z:f8,(N.ptr=dB z/\0<=c/\c<((N.len:Nat):Int))/\
 au xP (qG 58 (xH (dB (z.add (c.toNat*1)))) (xG k.ptr k.len k.cap)) t λ_ E=>
 (bR.ok [] E)/\K () E) 2 a G i4 hw λh3 V=>⟨trivial,mk w M Y Y V λb h4 H4=>⟨trivial,A 4 b H4 i4 hm λh5 H5=>⟨trivial,hk a b h5 (H5.aO 6 [1,0,2,3,4,5])⟩⟩⟩
   have e:x=x':=zW.inj (hx.1.symm.trans O.1);subst e;exact hr
 ·refine mk w M Y Y H λb X G=>?_;have l:=G.box 1 i4;refine⟨⟨l.cell i4,l.cell i4,trivial⟩,?_⟩;refine mk nd i5 (by rw[hd]) (by rw[hd]) G λa h2 J=>?_;have q:=J.box 2 i4;refine⟨⟨q.cell i4,q.cell i4,trivial⟩,?_⟩;refine J.set aj 3 i4 (λ_=>rfl) i4 c.toNat i5 hw a i4 i4 i4 λh3 V=>⟨trivial,?_⟩
  refine V.set aj 4 i4 (λ_=>rfl) i4 c.toNat i5 hm b i4 i4 i4 λh4 H4=>⟨trivial,hk a b h4 (H4.aO 6 [0,1,2,3,4,5])⟩
theorem Pk{h:g0}{Cs:List HP}(x:Sl)(m:Row)(nd:Nat)(z:Int)(H:aa B h0 h Cs)(D:z=nd)(A:nd<=64)(E:i0 m<=2^20){L L2:bR}(w:L.ok h)(p:L2.ok h)(s:St B h0 Cs λh=>Rd h x 1 az m){K:Sl->Sl->g0->Prop}
  (t:∀a b h',aP (λb=>b<h.size) h h'->aa B h0 h' (RA a (aI nd)::RA b m::Cs)->K a b h'):
  (bz xP (zA 58 (xF xL z) (xF xL z)) (.one (.sc .slc)) h λk d=>
 (bR.ok L d)/\
 oU xP 89 #[(xG x.ptr x.len x.cap)] (.one (.sc .slc)) d λn f=>K k n f)/\(oU xP 89 #[(xG x.ptr x.len x.cap)] (.one (.sc .slc)) h λg e=>
 (bR.ok L2 e)/\
 bz xP (zA 58 (xF xL z) (xF xL z)) (.one (.sc .slc)) e λo i=>K o g i):=by
 subst D;constructor
 ·refine H.HW aj az gz i6 0 i4 i4 nd nd i4 i4 (ql _) i5 λa q _ r c=>⟨lI r w,?_⟩
  have c:=c.be;refine(fw x m q (s.at [_] c) i5).mono ?_;rintro _ j ⟨b,rfl,u⟩;exact⟨b,i4,t a b j (up r u.ae) ((c.cb u).gV)⟩
 ·refine(fw x m h (s.at [] H) i5).mono ?_;rintro _ q ⟨b,rfl,l⟩;have c:=H.cb l;refine⟨b,i4,lI l.ae p,?_⟩;refine c.HW aj az gz i6 0 i4 i4 nd nd i4 i4 (ql _) i5 λa j _ y v=>?_;exact t a b j (up l.ae y) v.be
structure mq (pool pl:List (Sl×Row)) (wr mr:List Sl) (W M:aJ):Prop where
 sub:∀x∈pool,x∈pl
 way:iy pl id wr W
 more:iy pl id mr M
theorem mq.step{pool f:List (Sl×Row)}{e g:List Sl}{W M:aJ}(x:mq pool f e g W M)(c:Nat)(a b:Sl)(l m:Row):mq pool ((b,m)::(a,l)::f) (e.set c a) (g.set c b) (W.set c l) (M.set c m):=
 ⟨λy d=>by simp[x.sub y d],(x.way.mono λy d=>p6).set c jj,(x.more.mono λy d=>p6).set c jj⟩
theorem Vd(s f:f8)(p:Int×Int×Int)(v r z q G a1 a0:Sl)(rr:List (Sl×Sl))(R:List fo)(ST:List (Int×Int))(D L:aB)(n nd w:Nat)(pool:List (Sl×Row))(H:aa B h0 h (SA s (gP f p v r z q G a1 a0)::kZ pool::As))(Z:St B h0 As λh=>Va h f r z q G rr R ST D L)
  (hv:v.len=n) (hn:n<=64) (hp:p.2.2=w) (hw:w<=2^20) (bd:i0 D=nd) (ad:nd<=64) (hR:∀e∈R,iZ n w e) (hD:∀c∈D,0<=c/\c<(n:Int)) (b3:D.Nodup) (hg:rV (R.map qt) (·∈D) ST) (ca:i0 ST<=2^20) (br:∀e∈R,i0 e.1<=2^20) (a9:(⟨eH,0,0⟩,[])∈pool):
  an xP 196 #[xH (dB s)] h λv' h'=>v'=.tuple #[]/\∃k m A u J,aa B h0 h' (Told s f p v r z q G k m A u J++As)/\mq pool J A u (ST.foldl (iq R nd) (ga n nd w D)).1 (ST.foldl (iq R nd) (ga n nd w D)).2:=by
 refine ts Tryz.func196 ?_ (.two .n (.two (.join [] [(18,36)] .n) (.two (.two .n (.inn (.loop [(42,aQ)] [(3,5),(42,77)] (.two .n (.two .n (.two (.inn (.two .n (.two (.join [] [(47,67)] .n) .n))) .n)))))) (.two .n (.inn (.loop [(83,aQ)] [(6,10),(11,12),(83,134)] (.two .n (.two .n (.two (.inn (.two .n (.two (.join [(7,(.sc .adr))] [(7,8),(87,95)] .n) (.two (.join [(8,cL),(9,cL)] [(8,10),(95,100)] .n) (.two (.two .n (.inn (.loop [(103,aQ)] [(11,12),(103,117)] .n))) .n))))) .n))))))))) [(1,(.y [0,1,2,3,4,5,6,8,9,10,11,12] (.y [7,14,15] (.l [13,16,17,18,19]) (.l [16,13,17,18,19])) (.l [13,7,14,15,16,17,18,19]))),(5,(.y [0,1,2,3,4,5,6,7,8,9,10,12,13,14,15,16] (.y [11,18] (.l [17,19,20,21]) (.l [19,17,20,21])) (.l [17,11,18,19,20,21]))),(12,(.y [0,2,3] (.l [1,4,5,6]) (.l [4,1,5,6])))];have hb:=H.box 0 i4;have a5:q.len=nd:=by rw[(Z.at [_,_] H).dead.len,bd]
 refine⟨s,i4,q,show f9 h (s.add 7)=_ from hb.cell i4,?_⟩;refine bL (λ_ h'=>∃k m,k.len=n/\m.len=n/\aa B h0 h' (Told s f p v r z q G k m (qi n ⟨eH,0,0⟩) (qi n ⟨eH,0,0⟩) pool++As)) ?_ ?_
 ·exact QZ (K:=λ_ h'=>∃k m,k.len=n/\m.len=n/\aa B h0 h' (Told s f p v r z q G k m (qi n ⟨eH,0,0⟩) (qi n ⟨eH,0,0⟩) pool++As)) s f p v r z q G a1 a0 n pool H hv hn λk m h' h1 h2 O=>⟨k,m,h1,h2,O⟩
 rintro-h1 ⟨k,m,cp,cd,H1⟩;have bl:=H1.box 0 i4;refine⟨s,i4,q,show f9 h1 (s.add 7)=_ from bl.cell i4,?_⟩;refine aq (λt:Nat×List Sl×List Sl×List (Sl×Row)=>(t.1:Int)) (λt h'=>t.1<=nd/\aa B h0 h' (Told s f p v r z q G k m t.2.1 t.2.2.1 t.2.2.2++As)/\mq pool t.2.2.2 t.2.1 t.2.2.1 (ga n nd w (D.take t.1)).1 (ga n nd w (D.take t.1)).2) (λt=>nd-t.1)
  (0,qi n ⟨eH,0,0⟩,qi n ⟨eH,0,0⟩,pool) i4 ⟨i5,H1,⟨λ_ h=>h,Jc pool a9 n,Jc pool a9 n⟩⟩ ?_
 rintro⟨i,A,u,J⟩ h2 ⟨hi,H2,T2⟩;dsimp only at*;have bk:=Yh n nd w (D.take i);have Q:=T2.way.1;have V:=T2.more.1;refine ag (λe=>?_) (λe=>?_)
 ·have Y:i<nd:=i5
  have T:=hD _ (qf (show i<i0 D by omega));refine(Z.at [_,_,_,_] H2).dead.bt i i4 i5 _ i4 ?_;refine bL (λ_ h'=>∃a b,aa B h0 h' (RA a (aI nd)::RA b (aI w)::(Told s f p v r z q G k m (A.set D[i].toNat a) (u.set D[i].toNat b) J++As))) ?_ ?_
  ·exact Vb (K:=λ_ h'=>∃a b,aa B h0 h' (RA a (aI nd)::RA b (aI w)::(Told s f p v r z q G k m (A.set D[i].toNat a) (u.set D[i].toNat b) J++As))) s f p v r z q G k m A u J D[i] nd w H2 T.1 i5 i5 hp a5 ad hw λa b h' O=>⟨a,b,O⟩
  rintro-h3 ⟨a,b,H3⟩;refine⟨s,i4,k,(H3.box 2 i4).cell i4,?_⟩;refine(H3.seq 3 i4 λ_=>rfl).mC D[i].toNat i5 i9 ?_;rw[vW];refine H3.set aj 0 i4 (λ_=>rfl) i4 i i4 (by simp[aI];omega) 1 i4 i4 i4 λh4 H4=>?_;have H5:=(H4.freeze 0 i4 λ_=>rfl).pool 5 0 i6 i4 i4;have H6:=(H5.freeze 1 i4 λ_=>rfl).pool 5 1 i6 i4 i4;refine⟨(i+1,A.set D[i].toNat a,u.set D[i].toNat b,_),j0,⟨i7,H6.aO 6 [2,3,4,5],?_⟩,i7⟩
  try dsimp only
  have e1:D.take (i+1)=D.take i++[D[i]]:=aD _ _;have e2:i0 (D.take i)=i:=i9
  rw[e1,Ij,e2];exact T2.step D[i].toNat a b (nZ nd i) (aI w)
 have ah:i=i0 D:=i5
 subst ah;rw[qN]at T2 bk Q V;refine⟨s,i4,z,(H2.box 0 i4).cell i4,?_⟩;have b9:=(Z.at [_,_,_,_] H2).steps.len;refine aq (λt:Nat×List Sl×List Sl×List (Sl×Row)=>(t.1:Int)) (λt h'=>t.1<=i0 ST/\aa B h0 h' (Told s f p v r z q G k m t.2.1 t.2.2.1 t.2.2.2++As)/\mq pool t.2.2.2 t.2.1 t.2.2.1 ((ST.take t.1).foldl (iq R nd) (ga n nd w D)).1 ((ST.take t.1).foldl (iq R nd) (ga n nd w D)).2) (λt=>i0 ST-t.1)
  (0,A,u,J) i4 ⟨jj,H2,T2⟩ ?_
 clear Q V T2 H2 hi e;rintro⟨i,A,u,J⟩ h3 ⟨hi,H3,T3⟩;dsimp only at*;obtain⟨dk,-⟩:=JZ (nd:=nd) (w:=w) hD b3 D.length (ql _);rw[qN]at dk;have a6:=LF (l1:=ST.take i) (l2:=ST.drop i) (by rw[qC];exact hg);obtain⟨a3,-⟩:=GP hR a6.1 dk;obtain⟨W,hW⟩:∃W,W=((ST.take i).foldl (iq R nd) (ga n nd w D)).1:=⟨_,rfl⟩
 obtain⟨M,hM⟩:∃M,M=((ST.take i).foldl (iq R nd) (ga n nd w D)).2:=⟨_,rfl⟩
 have ao:(ST.take i).foldl (iq R nd) (ga n nd w D)=(W,M):=by rw[hW,hM]
 have I:WW n nd w (λc=>c∈D∨∃j,(j,c)∈ST.take i) W M:=by rw[hW,hM];exact a3
 rw[<-hW,<-hM]at T3;clear a3 hW hM;have cn:=I.wl;have cq:=I.ml;have Q:=T3.way.1;have V:=T3.more.1;refine ag (λe=>?_) (λe=>?_)
 ·have Y:i<i0 ST:=i5
  have al:=a6.2;rw[qK Y]at al;obtain⟨row,bu,ap⟩:∃row bu,ST[i]=(row,bu):=⟨_,_,rfl⟩
  rw[ap]at al;obtain⟨g1,g2,g3,g4,-⟩:=al;have o:row.toNat<i0 R:=by have:=g1.2;rw[qq]at this;omega
  obtain⟨d,U⟩:∃d,d=R[row.toNat]:=⟨_,rfl⟩
  have er:R.getD row.toNat ([],[])=d:=by rw[qd,qc o,U];rfl
  have b7:(R.map qt).getD row.toNat []=d.1:=by rw[qd,qP,qc o,U];rfl
  rw[b7]at g3 g4;have N:=hR d (U▸qf o);have cr:=br d (U▸qf o);have cl:=N.cZ bu g3;have G3:=Z.at [_,_,_,_] H3;have hF:=G3.rest.2.1;refine G3.steps.cU (g:=fL) i i4 Y ST[i] i4 ?_;rw[ap];refine H3.Dw aj i4 λa50 h4 P4 H4=>?_;have H4:=H4.be;refine H4.storeAll aj 0 i4 i4 (fL (row,bu)) i4 i4 i4 i4 λh5 H5=>?_;have b0:row.toNat<i0 rr:=by rw[hF];exact o
  obtain⟨y,hy⟩:∃y,y=rr[row.toNat]:=⟨_,rfl⟩
  have E:∀{h'},nQ jC 2 qv h' r rr R->jC.p h' (λb=>b<h'.size) y d:=λhh=>by rw[hy,U];exact Fix.row hh o
  refine bL (λa' h'=>aa B h0 h' (ac a' 258 (qv y)::ac a50 338 (fL (row,bu))::(Told s f p v r z q G k m A u J++As))) ?_ ?_
  ·have ax:=H5.box 1 i4;have G5:=Z.at [_,_,_,_,_] H5;refine⟨s,i4,r,ax.cell i4,row,(H5.box 0 i4).cell0 i4,?_⟩;obtain⟨b2,ha,x,T,rfl⟩:=G5.rest.1.cU (g:=qv) (i:=row) row.toNat i5 b0 y (by rw[hy]) (K:=λx=>x=y) rfl;refine⟨b2,ha,_,T,?_⟩;refine H5.Dw aj i4 λX h6 P6 H6=>⟨⟨oL T.1 P6,oL T.2.1 P6,oL ((H5.box 0 i4).cell0 i4) P6,oL (ax.cell i4) P6,trivial⟩,?_⟩
   have H6:=H6.be;refine H6.storeAll aj 0 i4 i4 (qv x) i4 i4 i4 i4 λh7 H7=>⟨trivial,H7⟩
  intro X h7 H7;refine bL (λt h'=>aa B h0 h' (RA t.1 (aI nd)::RA t.2 d.2::ac X 258 (qv y)::ac a50 338 (fL (row,bu))::(Told s f p v r z q G k m A u J++As))) ?_ ?_
  ·have ay:=H7.box 0 i4;refine⟨y.2,ay.cell i4,?_⟩;exact Pk (L:=[(X.add 1,xG y.2.ptr y.2.len y.2.cap)]) (K:=λa b h'=>bR.ok [] h'/\aa B h0 h' (RA a (aI nd)::RA b d.2::ac X 258 (qv y)::ac a50 338 (fL (row,bu))::(Told s f p v r z q G k m A u J++As))) y.2 d.2 nd _ H7 (by rw[a5]) ad (by rw[N.len];exact hw) ⟨ay.cell i4,trivial⟩ (L2:=[]) trivial (St.mk' λh' O=>(E (Z.at [_,_,_,_,_,_] O).rest).2) λa b h' _ O=>⟨trivial,O⟩
  rintro⟨S,more⟩ h8 H8;dsimp only at H8;refine⟨y.1,(H8.box 2 i4).cell0 i4,?_⟩;have cf:=(E (Z.at [_,_,_,_,_,_,_,_] H8).rest).1.len;let F:Nat->aB:=λj=>(d.1.take j).filter λc=>!decide (c=bu);refine aq (λj:Nat=>(j:Int)) (λj h'=>j<=i0 d.1/\aa B h0 h' (RA S (cS W (aI nd) (F j))::RA more (cS M d.2 (F j))::ac X 258 (qv y)::ac a50 338 (fL (row,bu))::(Told s f p v r z q G k m A u J++As))) (λj=>i0 d.1-j) 0 i4 ⟨i5,by simpa[F,cS]using H8⟩ ?_;rintro j h9 ⟨hj,H9⟩;have told:∀c∈F j,i0 (aC W c.toNat)=nd/\(aC M c.toNat).length=w:=λc T=>by
   have a8:=qF.1 T;have hm:=zr a8.1;exact I.rw_ c (g4 c hm (by simpa using a8.2)) (N.cZ c hm).1 (N.cZ c hm).2
  have a7:i0 (cS W (aI nd) (F j))=nd:=jU ln λc T=>(told c T).1;have a4:i0 (cS M d.2 (F j))=w:=jU N.len λc T=>(told c T).2;refine ag (λe2=>?_) (λe2=>?_)
  ·have P:j<i0 d.1:=i5
   have am:=N.cZ _ (qf P);refine(E (Z.at [_,_,_,_,_,_,_,_] H9).rest).1.bt j i4 P _ i4 ?_;refine⟨bu,(H9.box 3 i4).cell i4,?_⟩;refine bx (λbb=>?_) (λb4=>?_)
   ·have tc:=I.rw_ d.1[j] (g4 _ (qf P) bb) am.1 am.2;refine(EM s f 1 d.1[j] S more k m _ _ A u W M H9 (St.mk' λh' O=>?_) am.1 i5 i5 (by rw[tc.1,a7]) (by rw[tc.2,a4]) i5 i5).mono ?_
    ·exact Bl.of (O.box 2 i4) (Z.at [_,_,_,_,_,_] O).field (O.Cx 3 5 i4 i4 T3.way) (O.Cx 4 5 i4 i4 T3.more)
    rintro _ b5 ⟨rfl,ab⟩;have e3:F (j+1)=F j++[d.1[j]]:=by simp only[F];rw[jK _ _ P];simp[bb]
    exact⟨(),i4,j+1,j1,⟨i5,by rw[e3,sg,sg];exact ab⟩,i5⟩
   ·have e3:F (j+1)=F j:=by simp only[F];rw[jK _ _ P];simp[b4]
    exact⟨j+1,j1,⟨i5,by rw[e3];exact H9⟩,i5⟩
  ·have bs:j=i0 d.1:=i5
   subst bs;have ar:=H9.box 3 i4;have a2:=H9.box 4 i4;refine⟨s,i4,k,a2.cell i4,bu,ar.cell i4,s,i4,m,a2.cell i4,bu,ar.cell i4,?_⟩;refine H9.set aj 5 i4 (λ_=>rfl) i4 bu.toNat i5 i5 S i4 i4 i4 λb5 ab=>⟨⟨(ab.box 3 i4).cell i4,trivial⟩,?_⟩
   refine ab.set aj 6 i4 (λ_=>rfl) i4 bu.toNat i5 i5 more i4 i4 i4 λcc b1=>⟨trivial,?_⟩
   have b6:=(b1.freeze 0 i4 λ_=>rfl).pool 7 0 i6 i4 i4;have bq:=(b6.freeze 1 i4 λ_=>rfl).pool 7 1 i6 i4 i4;refine⟨(i+1,A.set bu.toNat S,u.set bu.toNat more,_),j0,⟨i7,bq.aO 8 [4,5,6,7],?_⟩,i7⟩
   try dsimp only
   rw[aD _ _ Y,z6,ao,ap];have e3:[(row,bu)].foldl (iq R nd) (W,M)=(W.set bu.toNat (cS W (aI nd) (F d.1.length)),M.set bu.toNat (cS M d.2 (F d.1.length))):=by simp only[zy,wQ,iq,er,F,qN]
   rw[e3];exact T3.step bu.toNat S more _ _
 ·have ah:i=i0 ST:=i5
  subst ah;rw[qN]at ao;exact⟨i4,k,m,A,u,J,H3,by rw[ao];exact T3⟩
def kH(nd:Nat)(known:List Bool)(vals:aJ)(s:aJ×aJ)(i:Nat):aJ×aJ:=
 (s.1.mapIdx λc r=>if c<i/\known.getD c fz=eX then aI nd else r,s.2.mapIdx λc r=>if c<i/\known.getD c fz=eX then aC vals c else r)
theorem Ve(nd:Nat)(known:List Bool)(vals:aJ)(s:aJ×aJ):kH nd known vals s 0=s:=by unfold kH;refine vd ?_ ?_<;>refine we jj λi a b=>?_<;>simp
theorem Yi(nd:Nat)(known:List Bool)(vals:aJ)(s:aJ×aJ){n:Nat}(a:i0 s.1=n)(b:i0 s.2=n):kH nd known vals s n=iI nd known vals s:=by unfold kH iI;refine vd ?_ ?_<;>refine we jj λi a b=>?_<;>simp at a<;>simp[show i<n by omega]
theorem Yj(nd:Nat)(known:List Bool)(vals:aJ)(s:aJ×aJ){i:Nat}(d:known.getD i fz=eX):kH nd known vals s (i+1)=((kH nd known vals s i).1.set i (aI nd),(kH nd known vals s i).2.set i (aC vals i)):=by
 unfold kH;refine vd ?_ ?_<;>refine we jj λj e f=>?_<;>simp only[List.getElem_mapIdx,List.getElem_set]<;>by_cases c:i=j
 ·subst c;rw[g9 ⟨i5,d⟩,g9 rfl]
 ·rw[hU c];congr 1;simp only[eq_iff_iff];constructor<;>rintro⟨a,b⟩<;>exact⟨i5,b⟩
 ·subst c;rw[g9 ⟨i5,d⟩,g9 rfl]
 ·rw[hU c];congr 1;simp only[eq_iff_iff];constructor<;>rintro⟨a,b⟩<;>exact⟨i5,b⟩
theorem abf(nd:Nat)(known:List Bool)(vals:aJ)(s:aJ×aJ){i:Nat}(e:known.getD i fz=fz):kH nd known vals s (i+1)=kH nd known vals s i:=by
 have d:∀j,(j<i+1/\known.getD j fz=eX)↔(j<i/\known.getD j fz=eX):=λj=>by
  constructor
  ·rintro⟨a,b⟩;by_cases c:j=i
   ·subst c;rw[e]at b;cases b
   ·exact⟨i5,b⟩
  ·rintro⟨a,b⟩;exact⟨i5,b⟩
 unfold kH;simp only[d]
theorem Yk(s f:f8)(p:Int×Int×Int)(v r N w P K J:Sl)(j g d:List Sl)(k:List (Sl×Row))(known:List Bool)(V W M:aJ)(n nd:Nat)(H:aa B h0 h (Told s f p v r N w P K J g d k++HA v j::As))(hn:n<=64)(y:w.len=nd)(ad:nd<=64)(Y:mq k k g d W M)(R:iy k id j V)(ah:i0 V=n)(z:i0 W=n)(E:i0 M=n)
  (hk:∀(c:Nat) (hc:c<i0 j),j[c].ptr.isNone=!(known.getD c fz)):
  an xP 197 #[xH (dB s)] h λv' h'=>v'=.tuple #[]/\∃g d b,aa B h0 h' (Told s f p v r N w P K J g d b++HA v j::As)/\mq k b g d (iI nd known V (W,M)).1 (iI nd known V (W,M)).2:=by
 refine ts Tryz.func197 ?_ (.two .n (.inn (.loop [(9,aQ)] [(2,4),(9,37)] .n))) [(4,(.l [0,1,2,3,4,5,6,7,8,9,10,11,12,13,14,15,17,16,18,19,20,21]))];have Q:=R.1;have O:v.len=n:=by rw[(H.own 4 i4).len];omega
 refine⟨s,i4,v,(H.box 0 i4).cell i4,?_⟩;refine aq (λt:Nat×List Sl×List Sl×List (Sl×Row)=>(t.1:Int)) (λt h'=>t.1<=n/\aa B h0 h' (Told s f p v r N w P K J t.2.1 t.2.2.1 t.2.2.2++HA v j::As)/\mq k t.2.2.2 t.2.1 t.2.2.1 (kH nd known V (W,M) t.1).1 (kH nd known V (W,M) t.1).2) (λt=>n-t.1) (0,g,d,k) i4 ⟨i5,H,by rw[Ve];exact Y⟩ ?_;rintro⟨i,g,d,b⟩ h1 ⟨hi,F,m⟩;dsimp only at*;have U:(kH nd known V (W,M) i).1.length=n:=by simp[kH,z]
 have ab:(kH nd known V (W,M) i).2.length=n:=by simp[kH,E]
 have T:=m.way.1;have S:=m.more.1;refine ag (λe=>?_) (λe=>?_)
 ·have Z:i<n:=i5
  refine(F.seq 4 i4 λ_=>rfl).mC i i4 i5 ?_;have G:=hk i i5;refine aR (λD=>?_) (λD=>?_)
  ·have q:known.getD i fz=eX:=by rw[G]at D;simpa using D
   have u:=F.box 0 i4;refine⟨s,i4,K,u.cell i4,s,i4,J,u.cell i4,s,i4,w,show f9 h1 (s.add 7)=_ from u.cell i4,?_⟩;refine F.HW aj az gz i6 0 i4 i4 nd nd (by rw[y]) (by rw[y]) (ql _) i5 λa h2 _ P2 I=>?_;have I:=I.be;have o:=I.box 1 i4;refine⟨⟨show f9 h2 (s.add 7)=_ from o.cell i4,o.cell i4,o.cell i4,trivial⟩,?_⟩;refine I.set aj 2 i4 (λ_=>rfl) i4 i i4 i5 a i4 i4 i4 λh3 X=>⟨trivial,?_⟩
   refine X.set aj 3 i4 (λ_=>rfl) i4 i i4 i5 (j[i]'(by omega)) i4 i4 i4 λh4 H4=>⟨trivial,?_⟩
   have H5:=(H4.freeze 0 i4 λ_=>rfl).pool 4 0 i6 i4 i4;refine⟨(i+1,g.set i a,d.set i (j[i]'(by omega)),_),j0,⟨i7,H5.aO 5 [1,2,3,4],?_⟩,i7⟩
   try dsimp only
   rw[Yj nd known V (W,M) q];have hm:((j[i]'(by omega)),aC V i)∈k:=by have:=R.get (i:=i) i5;rw[mA i5];exact this
   exact⟨λx A=>qD _ (m.sub x A),(m.way.mono λx A=>qD _ A).set i ln,(m.more.mono λx A=>qD _ A).set i (qD _ (m.sub _ hm))⟩
  ·have q:known.getD i fz=fz:=by rw[G]at D;simpa using D
   exact⟨(i+1,g,d,b),j0,⟨i7,F,by dsimp only;rw[abf nd known V (W,M) q];exact m⟩,i7⟩
 ·have L:i=n:=i5
  subst L;exact⟨i4,g,d,b,F,by rw[<-Yi nd known V (W,M) z E];exact m⟩
def nD(nd:Nat)(known:List Bool)(vals W M D:aJ)(i:Nat):aJ:=vals.mapIdx λc r=>if c<i/\known.getD c fz=fz then ic D (aC W c) (aC M c) nd else r
theorem Yl(nd:Nat)(known:List Bool)(vals W M D:aJ):nD nd known vals W M D 0=vals:=by unfold nD;refine we jj λi a b=>?_;simp
theorem abg(nd:Nat)(known:List Bool)(vals W M D:aJ){n:Nat}(a:i0 vals=n):nD nd known vals W M D n=uo nd known vals W M D:=by
 unfold nD uo;refine we jj λi a b=>?_;simp at a;simp only[List.getElem_mapIdx];cases hk:known.getD i fz
 ·rw[g9 ⟨i5,i4⟩,hU jj]
 ·rw[hU jj,g9 rfl]
theorem abh(nd:Nat)(known:List Bool)(vals W M D:aJ){i:Nat}(e:known.getD i fz=eX):nD nd known vals W M D (i+1)=nD nd known vals W M D i:=by
 have d:∀j,(j<i+1/\known.getD j fz=fz)↔(j<i/\known.getD j fz=fz):=λj=>by
  constructor
  ·rintro⟨a,b⟩;by_cases c:j=i
   ·subst c;rw[e]at b;cases b
   ·exact⟨i5,b⟩
  ·rintro⟨a,b⟩;exact⟨i5,b⟩
 unfold nD;simp only[d]
theorem aeb(nd:Nat)(known:List Bool)(vals W M D:aJ){i:Nat}(d:known.getD i fz=fz):nD nd known vals W M D (i+1)=(nD nd known vals W M D i).set i (ic D (aC W i) (aC M i) nd):=by
 unfold nD;refine we jj λj e f=>?_;simp only[List.getElem_mapIdx,List.getElem_set];by_cases c:i=j
 ·subst c;rw[g9 ⟨i5,d⟩,g9 rfl]
 ·rw[hU c];congr 1;simp only[eq_iff_iff];constructor<;>rintro⟨a,b⟩<;>exact⟨i5,b⟩
theorem Ym(s f:f8)(p:Int×Int×Int)(v r Y Z lf P J dead:Sl)(g E z dr:List Sl)(A:List (Sl×Row))(known:List Bool)(V W M D:aJ)(n nd w:Nat)(H:aa B h0 h (Told s f p v r Y Z lf P J E z A++HA v g::As))(hS:St B h0 As λh=>fI h f/\fA h (λb=>b<h.size) dead 1 az D dr)(hn:n<=64)(hw:w<=2^20)(a6:nd<=64)(X:mq A A E z W M)(hV:iy A id g V)(L:i0 V=n)(a7:i0 W=n)(a8:i0 M=n)
  (G:∀c,c<n->i0 (aC W c)=nd/\(aC M c).length=w) (bb:i0 D=nd) (O:aS w D) (hk:∀(c:Nat) (l:c<i0 g),g[c].ptr.isNone=!(known.getD c fz)):
  an xP 200 #[xH (dB s),dead] h λv' h'=>v'=.tuple #[]/\∃R a,aa B h0 h' (Told s f p v r Y Z lf P J E z a++HA v R::As)/\iy a id R (uo nd known V W M D):=by
 refine ts Tryz.func200 ?_ (.two .n (.inn (.loop [(15,aQ)] [(4,10),(15,80)] (.two .n (.two .n (.two (.inn (.two .n (.two .n (.two .n (.two (.two .n (.inn (.loop [(42,aQ)] [(6,10),(42,72)] (.two .n (.two .n (.two (.inn (.two .n (.two .n (.inn (.loop [(52,aQ)] [(8,10),(52,71)] .n))))) .n)))))) .n))))) .n))))));have a2:=hV.1;have ax:v.len=n:=by rw[(H.own 4 i4).len];omega
 have a1:=X.way.1;have a3:=X.more.1;refine⟨s,i4,v,(H.box 0 i4).cell i4,?_⟩;refine aq (λt:Nat×List Sl×List (Sl×Row)=>(t.1:Int)) (λt h'=>t.1<=n/\aa B h0 h' (Told s f p v r Y Z lf P J E z t.2.2++HA v t.2.1::As)/\iy t.2.2 id t.2.1 (nD nd known V W M D t.1)/\(∀x∈A,x∈t.2.2)/\∀(c:Nat) (l:c<i0 t.2.1),t.1<=c->t.2.1[c].ptr.isNone=!(known.getD c fz)) (λt=>n-t.1) (0,g,A) i4 ⟨i5,H,by rw[Yl];exact hV,λ_ h=>h,λc l _=>hk c l⟩ ?_;rintro⟨i,g,a⟩ h1 ⟨hi,y,U,d,q⟩;dsimp only at*;have a9:i0 (nD nd known V W M D i)=n:=by simp[nD,L]
 have a0:=U.1;refine ag (λe=>?_) (λe=>?_)
 ·have ab:i<n:=i5
  have K:=y.box 0 i4;refine⟨s,i4,v,K.cell i4,?_⟩;refine(y.seq 4 i4 λ_=>rfl).mC i i4 i5 ?_;have Q:=q i i5 (ql _);refine aR (λI=>?_) (λI=>?_)
  ·have u:known.getD i fz=eX:=by rw[Q]at I;simpa using I
   exact⟨(i+1,g,a),j0,⟨i7,y,by dsimp only;rw[abh nd known V W M D u];exact U,d,λc l h=>q c l (by dsimp only at h;omega)⟩,i7⟩
  have u:known.getD i fz=fz:=by rw[Q]at I;simpa using I
  have ao:=G i ab;have ah:((z[i]'(by omega)),aC M i)∈a:=by have:=(X.more.mono d).get (i:=i) i5;rw[mA i5];exact this
  have F:((E[i]'(by omega)),aC W i)∈a:=by have:=(X.way.mono d).get (i:=i) i5;rw[mA i5];exact this
  refine⟨s,i4,J,K.cell i4,?_⟩;refine(y.seq 2 i4 λ_=>rfl).mC i i4 i5 ?_;refine(fw _ (aC M i) h1 (y.IY 3 i4 ah) i5).mono ?_;rintro _ h2 ⟨b,rfl,R2⟩;have T:=y.cb R2;have ad:=T.box 1 i4;refine⟨b,i4,s,i4,P,ad.cell i4,?_⟩;refine(T.seq 2 i4 λ_=>rfl).mC i i4 i5 ?_;have ap:=(T.IY 4 i4 F).len;refine aq (λj:Nat=>(j:Int)) (λj h'=>j<=nd/\aa B h0 h' (RA b (ic D (aC W i) (aC M i) j)::(Told s f p v r Y Z lf P J E z a++HA v g::As))) (λj=>nd-j) 0 i4 ⟨i5,T⟩ ?_;rintro j h3 ⟨hj,S⟩;refine ag (λe3=>?_) (λe3=>?_)
  ·have a5:j<nd:=i5
   have o:j<i0 (aC W i):=i5
   refine(S.IY 4 i4 F).bt j i4 o _ i4 ?_;obtain⟨S1,S2⟩:=hS.at [_,_,_,_,_,_] S;have a4:=S2.len;refine S2.top.mC j i4 i5 ?_;have ar:i0 (D[j]'(by omega))=w:=O _ (qf _);have N:(aC W i)[j]'o=aK (aC W i) j:=by rw[aK,qd,qc o];rfl
   have ay:i0 (ic D (aC W i) (aC M i) j)=w:=lR _ ao.2 λk hk=>cC O;rw[N];refine EL s f (aK (aC W i) j) (dr[j]'(by omega)) b (D[j]'(by omega)) _ S (St.mk' λh' H'=>?_) (by rw[ar,ay]) i5 λh4 H4=>?_
   ·obtain⟨q1,q2⟩:=hS.at [_,_,_,_,_] H';exact⟨(H'.box 0 i4).cell0 i4,q1,q2.row _ _ _ (qc _) (qc _)⟩
   ·refine⟨j+1,j1,⟨i5,?_⟩,i5⟩;rw[ic,mA (m:=D) (i:=j) i5];exact H4
  ·have am:j=nd:=i5
   subst am;refine⟨s,i4,v,(S.box 1 i4).cell i4,?_⟩;refine S.set aj 5 i4 (λ_=>rfl) i4 i i4 i5 b i4 i4 i4 λh4 H4=>?_;have H5:=(H4.freeze 0 i4 λ_=>rfl).pool 4 0 i6 i4 i4;refine⟨(i+1,g.set i b,_),j0,⟨i7,H5.aO 6 [1,2,3,4,5],?_,λx hx=>qD _ (d x hx),λc l h=>?_⟩,i7⟩
   ·try dsimp only
    rw[aeb j known V W M D u];exact(U.mono λx hx=>qD _ hx).set i jj
   ·dsimp only at l h⊢;rw[List.getElem_set_ne i5];exact q c (by simpa using l) i5
 ·have al:i=n:=i5
  subst al;exact⟨i4,g,a,y,by rw[<-abg nd known V W M D L];exact U⟩
abbrev MA(s:Sl)(m:aJ):HP:=fP 58 s 1 az m
abbrev Pn:iK Sl Row:=afb (cm 1 az) λr _=>r.len<=r.cap
abbrev CA(s:Sl)(m:aJ):HP:=bp 58 s 1 bg Pn m
theorem aa.Yn{e:Nat}{s:Sl}{l:Row}(H:aa B h0 h As)(i:Nat)(c:As[i]?=dB (af e s 1 az l)):aa B h0 h (As.set i (EA Pn s l)):=
 H.eJ i c λ_ ⟨a,b⟩=>⟨a.seq (λ_=>rfl) b,a.cap⟩
theorem Vf(s f:f8)(p:Int×Int×Int)(v r T J S N I:Sl)(G u:List Sl)(O:List (Sl×Row))(rr:List (Sl×Sl))(R:List fo)(ST:List (Int×Int))(D L:aB)(W M:aJ)(n nd w:Nat)(H:aa B h0 h (Told s f p v r T J S N I G u O++As))(hS:St B h0 As λh=>Va h f r T J S rr R ST D L)
  (hn:n=p.1.toNat+p.2.1.toNat) (hp:p.2.2=w) (hw:w<=2^20) (ap:bJ p=eX) (bd:i0 D=nd) (a6:nd<=64) (hR:∀e∈R,iZ n w e) (bq:∀e∈R,i0 e.1<=2^20) (hL:∀i∈L,0<=i/\i<(i0 R:Int)) (cf:i0 L<=2^20) (hT:mq O O G u W M) (b7:i0 W=n) (ca:i0 M=n)
  (E:∀c,c<n->i0 (aC W c)=nd/\(aC M c).length=w):
  an xP 198 #[xH (dB s)] h λv' h'=>∃a b:Sl,v'=.tuple #[a,b]/\aa B h0 h' (MA a (dJ n nd R W L (bB p.1.toNat p.2.1.toNat))::CA b (fF n w R M L (bB p.1.toNat p.2.1.toNat))::(Told s f p v r T J S N I G u O++As)):=by
 refine ts Tryz.func198 ?_ (.two .n (.two .n (.two (.two .n (.inn (.loop [(2,cL),(3,cL),(29,aQ)] [(2,4),(6,9),(10,11),(29,72)] (.two .n (.two .n (.two (.inn (.two .n (.two (.join [(7,cL),(8,cL)] [(7,9),(33,44)] .n) (.two (.two .n (.inn (.loop [(53,aQ)] [(10,11),(53,63)] .n))) .n)))) .n)))))) (.two (.two .n (.inn (.loop [(2,cL),(3,cL),(78,aQ)] [(2,4),(12,17),(78,113)] (.two .n (.two .n (.two (.inn (.two .n (.two (.join [(13,cL),(14,cL)] [(13,15),(82,90)] .n) (.two (.two .n (.inn (.loop [(92,aQ)] [(15,17),(92,104)] .n))) .n)))) .n)))))) .n)))) [(5,(.y [0,2,3,4,5,6,7,8,9] (.l [1,10,11,12]) (.l [10,1,11,12]))),(16,(.y [0,2,3,4,5,6] (.l [1,8,7,9]) (.l [7,1,8,9])))];have hb:=H.box 0 i4;have ab:J.len=nd:=by rw[(hS.at [_,_,_,_] H).dead.len,bd]
 have b5:=(bT p).1 ap;have b2:=hT.way.1;have b3:=hT.more.1;refine⟨s,i4,J,show f9 h (s.add 7)=_ from hb.cell i4,s,i4,S,show f9 h (s.add 8)=_ from hb.cell i4,?_⟩;have b4:=(hS.at [_,_,_,_] H).left.len;have ar:∀{h':g0} {Cs:List HP},aa B h0 h' (Cs++(Told s f p v r T J S N I G u O++As))->aa B h0 h' (Told s f p v r T J S N I G u O++As):=λ{h' Cs} U=>U.take Cs.length λi A hi=>by
  rw[qh i5,Nat.add_sub_cancel_left];exact hi
 have SR:∀{h':g0},aa B h0 h' (Told s f p v r T J S N I G u O++As)->Bl h' s f N I G u W M:=λU=>Bl.of (U.box 0 i4) (hS.at [_,_,_,_] U).field (U.Cx 1 3 i4 i4 hT.way) (U.Cx 2 3 i4 i4 hT.more);let rA:Int->Row:=λi=>cS W (aI nd) (R.getD i.toNat ([],[])).1;let rB:Int->Row:=λi=>cS M (R.getD i.toNat ([],[])).2 (R.getD i.toNat ([],[])).1;have H0:aa B h0 h (MA ⟨eH,0,0⟩ []::CA ⟨eH,0,0⟩ []::(Told s f p v r T J S N I G u O++As)):=((H.ua 58 1 bg Pn).be.HU 58 1 az).be;refine aq (λt:Nat×Sl×Sl=>(t.2.1,t.2.2,(t.1:Int))) (λt h'=>t.1<=i0 L/\aa B h0 h' (MA t.2.1 ((L.take t.1).map rA)::CA t.2.2 ((L.take t.1).map rB)::(Told s f p v r T J S N I G u O++As))) (λt=>i0 L-t.1) (0,⟨eH,0,0⟩,⟨eH,0,0⟩) i4 ⟨jj,H0⟩ ?_;rintro⟨i,a,b⟩ h1 ⟨hi,H1⟩;dsimp only at*;refine ag (λe=>?_) (λe=>?_)
 ·have o:i<i0 L:=i5
  have G1:=hS.at [_,_,_,_,_,_] H1;refine G1.left.bt i i4 o _ i4 ?_;have hx:=hL _ (qf o);generalize bb:L[i]=x at hx⊢;have F:x.toNat<i0 R:=i5
  obtain⟨d,ao⟩:∃d,d=R[x.toNat]:=⟨_,rfl⟩
  have er:R.getD x.toNat ([],[])=d:=by rw[qd,qc F,ao];rfl
  have am:=hR d (ao▸qf F);have cc:=bq d (ao▸qf F);have hF:=G1.rest.2.1;have a9:x.toNat<i0 rr:=by rw[hF];exact F
  obtain⟨y,hy⟩:∃y,y=rr[x.toNat]:=⟨_,rfl⟩
  have Q:∀{h'},nQ jC 2 qv h' r rr R->jC.p h' (λb=>b<h'.size) y d:=λhh=>by rw[hy,ao];exact Fix.row hh F
  refine bL (λt h'=>aa B h0 h' (RA t.1 (aI nd)::RA t.2 d.2::MA a ((L.take i).map rA)::CA b ((L.take i).map rB)::(Told s f p v r T J S N I G u O++As))) ?_ ?_
  ·have al:=H1.box 2 i4;refine⟨s,i4,r,al.cell i4,?_⟩;obtain⟨a7,ha,z,hc,rfl⟩:=G1.rest.1.cU (g:=qv) (i:=x) x.toNat i5 a9 y (by rw[hy]) (K:=λz=>z=y) rfl;refine⟨a7,ha,z.2,hc.2.1,?_⟩;have a4:bR.ok [(s.add 5,xG r.ptr r.len r.cap)] h1:=⟨al.cell i4,trivial⟩
   exact Pk (L:=[((a7.add (x.toNat*2)).add 1,xG z.2.ptr z.2.len z.2.cap),(s.add 5,xG r.ptr r.len r.cap)]) (L2:=[(s.add 5,xG r.ptr r.len r.cap)]) (K:=λa' b' h'=>bR.ok [(s.add 5,xG r.ptr r.len r.cap)] h'/\aa B h0 h' (RA a' (aI nd)::RA b' d.2::MA a ((L.take i).map rA)::CA b ((L.take i).map rB)::(Told s f p v r T J S N I G u O++As)))
    z.2 d.2 nd _ H1 (by rw[ab]) a6 (by rw[am.len];exact hw) ⟨hc.2.1,a4⟩ a4 (St.mk' λh' U=>(Q (hS.at [_,_,_,_,_,_] U).rest).2) λa b h' P U=>⟨lI P a4,U⟩
  rintro⟨Y,more⟩ h2 H2;dsimp only at H2;have G2:=hS.at [_,_,_,_,_,_,_,_] H2;refine⟨s,i4,r,(H2.box 4 i4).cell i4,?_⟩;obtain⟨br,ha,z,hc,rfl⟩:=G2.rest.1.cU (g:=qv) (i:=x) x.toNat i5 a9 y (by rw[hy]) (K:=λz=>z=y) rfl;refine⟨br,ha,z.1,hc.1,?_⟩;have bl:=(Q G2.rest).1.len;refine aq (λj:Nat=>(j:Int)) (λj h'=>j<=i0 d.1/\aa B h0 h' (RA Y (cS W (aI nd) (d.1.take j))::RA more (cS M d.2 (d.1.take j))::MA a ((L.take i).map rA)::CA b ((L.take i).map rB)::(Told s f p v r T J S N I G u O++As))) (λj=>i0 d.1-j) 0 i4 ⟨i5,by simpa[cS]using H2⟩ ?_;rintro j h3 ⟨hj,H3⟩;have told:∀c∈d.1.take j,i0 (aC W c.toNat)=nd/\(aC M c.toNat).length=w:=λc hc=>by
   have cd:=am.cZ c (zr hc);exact E c.toNat i5
  have ad:i0 (cS W (aI nd) (d.1.take j))=nd:=jU ln λc hc=>(told c hc).1;have Z:i0 (cS M d.2 (d.1.take j))=w:=jU am.len λc hc=>(told c hc).2;refine ag (λe2=>?_) (λe2=>?_)
  ·have X:j<i0 d.1:=i5
   have b0:=am.cZ _ (qf X);refine(Q (hS.at [_,_,_,_,_,_,_,_] H3).rest).1.bt j i4 X _ i4 ?_;have tc:=E d.1[j].toNat i5;refine(EM s f 1 d.1[j] Y more N I _ _ G u W M H3 (St.mk' λh' U=>SR (ar (Cs:=[_,_]) U)) b0.1 i5 i5 (by rw[tc.1,ad]) (by rw[tc.2,Z]) i5 i5).mono ?_;rintro _ h4 ⟨rfl,V⟩;exact⟨(),i4,j+1,j1,⟨i5,by rw[aD _ _ X,sg,sg];exact V⟩,i5⟩
  ·have a1:j=i0 d.1:=i5
   subst a1;rw[qN]at H3;have V:=aa.Yn (H3.freeze 0 i4 λ_=>rfl) 1 i4;refine V.tz aj 2 0 i6 i4 i4 fv i9 λa' h5 H5=>?_;refine H5.nX aj 3 1 i6 i4 i4 fv i4 i6 (λ_=>rfl) jQ i4 i6 i9 λb' h6 H6=>?_;refine⟨(i+1,a',b'),j0,⟨i7,?_⟩,i7⟩
   try dsimp only
   rw[aD _ _ o,qL,qL,bb];have e3:[x].map rA=[cS W (aI nd) d.1]:=by simp only[zO,vk,rA,er]
   have e4:[x].map rB=[cS M d.2 d.1]:=by simp only[zO,vk,rB,er]
   rw[e3,e4];exact H6.aO 8 [2,3,4,5,6,7]
 have a0:i=i0 L:=i5
 subst a0;rw[qN]at H1;have al:=H1.box 2 i4;refine⟨s,i4,p,al.cells 1 _ i4,(sC p h1).mono ?_⟩;rintro _ h2 ⟨q,rfl,R2⟩;rw[ap,g9 rfl]at R2;obtain⟨m,ay⟩:∃m,m=bB p.1.toNat p.2.1.toNat:=⟨_,rfl⟩
 have b1:i0 m=p.2.1.toNat:=by rw[ay];simp[bB]
 have a8:∀x∈m,i0 x=n:=λx hx=>by rw[hn];exact Ig _ _ x (ay▸hx)
 rw[<-ay]at R2⊢;have H2:=(H1.cb R2).MD 0 i4;obtain⟨qr,H2⟩:=H2.JQ 0 rfl λ_=>rfl;have b9:=(H2.fa 0 i4).1.len;have b6:=(H2.fa 0 i4).2.1;refine⟨q,i4,?_⟩;let ax:Row->Row:=λx=>ic W x (aI nd) n;let a2:Row->Row:=λx=>ic M x (aI w) n;refine aq (λt:Nat×Sl×Sl=>(t.2.1,t.2.2,(t.1:Int))) (λt h'=>t.1<=i0 m/\aa B h0 h' (cM (cm 1 az) 1 bg q qr m::MA t.2.1 (L.map rA++(m.take t.1).map ax)::CA t.2.2 (L.map rB++(m.take t.1).map a2)::(Told s f p v r T J S N I G u O++As))) (λt=>i0 m-t.1) (0,a,b) i4 ⟨jj,by simpa using H2⟩ ?_;rintro⟨i,a,b⟩ h3 ⟨hi,H3⟩;dsimp only at*;refine ag (λe=>?_) (λe=>?_)
 ·have o:i<i0 m:=i5
  have bk:=a8 _ (qf o);have F3:=H3.fa 0 i4;refine F3.1.mC i i4 i5 ?_;have bl:(qr[i]'(by omega)).len=n:=by rw[(Fix.row F3 o).len,bk]
  refine bL (λt h'=>aa B h0 h' (RA t.1 (aI nd)::RA t.2 (aI w)::cM (cm 1 az) 1 bg q qr m::MA a (L.map rA++(m.take i).map ax)::CA b (L.map rB++(m.take i).map a2)::(Told s f p v r T J S N I G u O++As))) ?_ ?_
  ·have bs:=H3.box 3 i4;refine⟨s,i4,p.2.2,show f9 h3 (s.add 3)=_ from bs.cell i4,?_,?_⟩
   ·refine H3.make aj az gz i6 0 i4 i4 nd nd (by rw[ab]) (by rw[ab]) (ql _) i5 λx h4 _ _ V=>?_;have V:=V.be;refine⟨⟨show f9 h4 (s.add 3)=_ from(V.box 4 i4).cell i4,trivial⟩,?_⟩;refine V.make aj az gz i6 0 i4 i4 w w hp hp (ql _) i5 λy h5 _ _ H5=>⟨trivial,H5.be.gV⟩
   ·refine H3.make aj az gz i6 0 i4 i4 w w hp hp (ql _) i5 λy h4 _ _ V=>⟨trivial,?_⟩
    refine V.be.make aj az gz i6 0 i4 i4 nd nd (by rw[ab]) (by rw[ab]) (ql _) i5 λx h5 _ _ H5=>⟨trivial,H5.be⟩
  rintro⟨Y,more⟩ h4 V;dsimp only at V⊢;refine aq (λj:Nat=>(j:Int)) (λj h'=>j<=n/\aa B h0 h' (RA Y (ic W m[i] (aI nd) j)::RA more (ic M m[i] (aI w) j)::cM (cm 1 az) 1 bg q qr m::MA a (L.map rA++(m.take i).map ax)::CA b (L.map rB++(m.take i).map a2)::(Told s f p v r T J S N I G u O++As))) (λj=>n-j) 0 i4 ⟨i5,V⟩ ?_;rintro j h5 ⟨hj,H5⟩;have ad:i0 (ic W m[i] (aI nd) j)=nd:=lR _ ln λk hk=>(E k i5).1;have Z:i0 (ic M m[i] (aI w) j)=w:=lR _ ln λk hk=>(E k i5).2;refine ag (λe2=>?_) (λe2=>?_)
  ·have X:j<n:=i5
   have a3:j<m[i].length:=i5
   refine(Fix.row (H5.fa 2 i4) o).bt j i4 a3 _ i4 ?_;have a5:m[i][j]'a3=aK m[i] j:=by rw[aK,qd,qc a3];rfl
   rw[a5];have tc:=E j X;refine(EM s f (aK m[i] j) (j:Int) Y more N I _ _ G u W M H5 (St.mk' λh' U=>SR (ar (Cs:=[_,_,_]) U)) i5 i5 i5 (by rw[qj,tc.1,ad]) (by rw[qj,tc.2,Z]) i5 i5).mono ?_;rintro _ h6 ⟨rfl,H6⟩;rw[qj]at H6;exact⟨(),i4,j+1,j1,⟨i5,H6⟩,i5⟩
  ·have a1:j=n:=i5
   subst a1;have H6:=aa.Yn (H5.freeze 0 i4 λ_=>rfl) 1 i4;refine H6.tz aj 3 0 i6 i4 i4 fv i9 λa' h7 H7=>?_;refine H7.nX aj 4 1 i6 i4 i4 fv i4 i6 (λ_=>rfl) jQ i4 i6 i9 λb' h8 H8=>?_;refine⟨(i+1,a',b'),j0,⟨i7,?_⟩,i7⟩
   try dsimp only
   rw[aD _ _ o,qL,qL,<-qn,<-qn];exact H8.aO 9 [2,3,4,5,6,7,8]
 ·have a0:i=i0 m:=i5
  subst a0;rw[qN]at H3;exact⟨a,b,i4,H3.rest⟩
theorem uO{α:Type}{g:α->Bool}{l:List α}{i:Nat}(h:i<i0 l)(a:∀j (b:j<i0 l),j<i->g l[j]=fz)(c:g l[i]=eX):l.findIdx g=i:=by rw[List.findIdx_eq h];exact⟨c,λj b=>a j i5 b⟩
theorem Rb(s:Sl)(l:aB)(b:FuncId)(a:Array Value)(g:Int->Bool)(Q:g0->Prop)(w:C.fns[b]?=dB eX)(u:St B h0 As Q)(q:∀x h',Q h'->an xP b ([Value.int .i64 x]++a.toList).toArray h' λv p=>v=xJ (g x)/\Sp h' p [])(H:aa B h0 h (af 3 s 1 ak l::As))(E:i0 l<=2^20):
  an xP 175 #[s,.func (.func b) #[] a] h λv h'=>v=xF xL (if l.findIdx g<i0 l then(l.findIdx g:Int)else-1)/\aa B h0 h' (af 3 s 1 ak l::As):=by
 refine iN s (b,#[],a) ?_;have A:=(H.own 0 i4).len;refine aq (λi:Nat=>(i:Int)) (λi h'=>aa B h0 h' (af 3 s 1 ak l::As)/\i<=i0 l/\∀j (k:j<i0 l),j<i->g l[j]=fz) (λi=>i0 l-i) 0 i4 ⟨H,i5,λj _ k=>i5⟩ ?_;rintro i y ⟨n,D,d⟩;refine ag (λe=>?_) (λe=>?_)
 ·have c:i<i0 l:=i5
  refine(n.seq 0 i4 λ_=>rfl).bt i i4 c _ i4 ?_;refine dT w ?_;refine(q l[i] y (u.at [_] n)).mono ?_;rintro _ F ⟨rfl,t⟩;refine⟨_,i4,bo (λr=>?_) λr=>?_⟩
  ·rw[uO c d r,g9 c];exact⟨i4,n.up t.ae⟩
  ·refine⟨i+1,j1,⟨n.up t.ae,i5,λj k o=>?_⟩,i5⟩;rcases zd.1 o with h3|rfl
   ·exact d j k h3
   ·exact r
 ·have m:¬l.findIdx g<i0 l:=by rw[wq];rintro⟨x,z,f⟩;obtain⟨j,k,rfl⟩:=qB z;rw[d j k i5]at f;cases f
  rw[hU m];exact⟨i4,n⟩
theorem Vg{α:Type}{g:α->Bool}{l:List α}{j:Nat}(h:j<l.findIdx g)(a:j<i0 l):g l[j]=fz:=by simpa using List.not_of_lt_findIdx h
structure mJ {α:Type} (g:α->Bool) (l l':List α) (i j:Nat):Prop where
 len:i0 l'=i0 l
 le:i<=j
 pre:l'.take i=(l.take j).filter λx=>!g x
 post:l'.drop j=l.drop j
theorem mJ.start{α:Type}{g:α->Bool}{l:List α}{i:Nat}(h:i<i0 l)(b:l.findIdx g=i):mJ g l l i (i+1):=by
 refine⟨i4,i5,?_,i4⟩;have a:g l[i]=eX:=by have:=List.findIdx_getElem (xs:=l) (p:=g) (w:=by rw[b];exact h);simpa[b]using this
 rw[aD _ _ h,zl,zo,a];have:(l.take i).filter (λx=>!g x)=l.take i:=wx.2 λx c=>by
  obtain⟨j,d,rfl⟩:=qB c;simp only[qR]at d;rw[yk,Vg (g:=g) (l:=l) (j:=j) i5 i5];rfl
 rw[this];simp
theorem mJ.at_{α:Type}{g:α->Bool}{l b:List α}{i j:Nat}(x:mJ g l b i j)(a:j<i0 l):b[j]'(by rw[x.len];exact a)=l[j]:=by have h:=congrArg (λm=>m[0]?) x.post;simp only[wP,Nat.add_zero]at h;rw[qc a,qc (by rw[x.len];exact a)]at h;exact zW.inj h
theorem mJ.keep{α:Type}{g:α->Bool}{l a:List α}{i j:Nat}(x:mJ g l a i j)(d:j<i0 l)(b:g l[j]=fz):mJ g l (a.set i l[j]) (i+1) (j+1):=by
 have e:=x.len;have f:=x.le;refine⟨p8,i5,?_,?_⟩
 ·rw[aD _ _ i9,vW,List.take_set_of_le (ql _),x.pre,aD _ _ d,zl,zo,b];rfl
 ·rw[List.drop_set_of_lt i5];have c:=congrArg (xE 1) x.post;simpa[zI]using c
theorem mJ.skip{α:Type}{g:α->Bool}{l a:List α}{i j:Nat}(x:mJ g l a i j)(d:j<i0 l)(b:g l[j]=eX):mJ g l a i (j+1):=by
 have e:=x.len;have f:=x.le;refine⟨e,i5,?_,?_⟩
 ·rw[x.pre,aD _ _ d,zl,zo,b];simp
 ·have c:=congrArg (xE 1) x.post;simpa[zI]using c
theorem filter_all{α:Type}{g:α->Bool}{l:List α}(h:¬l.findIdx g<i0 l):l.filter (λx=>!g x)=l:=wx.2 λx a=>by
 have:g x=fz:=by
  cases hh:g x with
  |false=>rfl
  |true=>exact absurd (wq.2 ⟨x,a,hh⟩) h
 rw[this];rfl
theorem Po(s:Sl)(l:aB)(b:FuncId)(a:Array Value)(g:Int->Bool)(Q:g0->Prop)(z:C.fns[b]?=dB eX)(y:St B h0 As Q)(f:∀x h',Q h'->an xP b ([Value.int .i64 x]++a.toList).toArray h' λv q=>v=xJ (g x)/\Sp h' q [])(H:aa B h0 h (af 3 s 1 ak l::As))(G:i0 l<=2^20):
  an xP 258 #[s,.func (.func b) #[] a] h λv h'=>∃r:Sl,v=r/\aa B h0 h' (af 3 r 1 ak (l.filter λx=>!g x)::As):=by
 refine ts Tryz.func258 ?_ (.two .n (.two .n (.two .n (.two (.two .n (.inn (.loop [(5,aQ),(6,aQ)] [(5,8),(16,36)] .n))) .n)))) (args:=[s,(.func (.func b) #[] a)]);refine(Rb s l b a g Q z y f H G).mono ?_;rintro _ P ⟨rfl,D⟩;have N:=(H.own 0 i4).len;have E:=(H.own 0 i4).cap;refine⟨_,i4,cH (λe=>?_) λe=>?_⟩
 ·have p:¬l.findIdx g<i0 l:=λo=>by rw[g9 o]at e;omega
  exact⟨s,i4,by rw[filter_all p];exact D⟩
 ·have c:l.findIdx g<i0 l:=by
   by_cases o:l.findIdx g<i0 l
   ·exact o
   ·rw[hU o]at e;exact absurd i4 e
  rw[g9 c];refine aq (λt:Nat×Nat×aB=>((t.1:Int),(t.2.1:Int))) (λt h'=>mJ g l t.2.2 t.1 t.2.1/\t.2.1<=i0 l/\aa B h0 h' (af 3 s 1 ak t.2.2::As)) (λt=>i0 l-t.2.1) (l.findIdx g,l.findIdx g+1,l) j1 ⟨mJ.start c i4,i7,D⟩ ?_;rintro⟨i,j,A⟩ K ⟨M2,O,m⟩;dsimp only at*;have F:=M2.len;have I:=M2.le;refine ag (λM=>?_) (λM=>?_)
  ·have d:j<i0 l:=i5
   refine(m.seq 0 i4 λ_=>rfl).bt j i4 i5 _ i4 ?_;rw[M2.at_ d];refine dT z ?_;refine(f l[j] K (y.at [_] m)).mono ?_;rintro _ h3 ⟨rfl,J⟩;have k:=m.up J.ae;refine⟨_,i4,aR (λu=>?_) λu=>?_⟩
   ·refine k.set aj 0 i4 (λ_=>rfl) i4 i i4 i5 l[j] i4 i4 i4 λR L=>?_;exact⟨(i+1,j+1,A.set i l[j]),by dsimp only;rw[ai _,ai _];rfl,⟨M2.keep d (by simpa using u),i7,L⟩,i7⟩
   ·exact⟨(i,j+1,A),j0,⟨M2.skip d (by simpa using u),i7,k⟩,i7⟩
  ·have w:j=i0 l:=i5
   subst w;refine⟨⟨i5,i5⟩,?_⟩;rw[qj];refine m.oF aj 0 i4 fN (λ_=>rfl) i4 i6 i i5 λh3 k=>⟨⟨i5,i5⟩,⟨s.ptr,i,s.cap⟩,i4,?_⟩
   have:=M2.pre;rw[qN]at this;rw[<-this];exact k
abbrev age:bG C.toAQ 260 338 2 [xF xL 0,xF xL 0] 16:=⟨_,_,i4,i4,i4,i4,i4,i4⟩
theorem Rc(s:Sl)(l:List (Int×Int))(b:FuncId)(a:Array Value)(g:Int×Int->Bool)(Q:g0->Prop)(y:C.fns[b]?=dB eX)(w:St B h0 As Q)(r:∀x h',Q h'->an xP b ([Value.agg #[xF xL x.1,xF xL x.2]]++a.toList).toArray h' λv q=>v=xJ (g x)/\Sp h' q [])(H:aa B h0 h (af 338 s 2 fL l::As))(F:i0 l<=2^20):
  an xP 314 #[s,.func (.func b) #[] a] h λv h'=>v=xF xL (if l.findIdx g<i0 l then(l.findIdx g:Int)else-1)/\aa B h0 h' (af 338 s 2 fL l::As):=by
 refine ts Tryz.func314 ?_ (.two .n (.two (.two .n (.inn (.loop [(8,aQ)] [(4,6),(8,19)] .n))) .n)) (args:=[s,(.func (.func b) #[] a)]);have D:=(H.own 0 i4).len;refine aq (λi:Nat=>(i:Int)) (λi h'=>aa B h0 h' (af 338 s 2 fL l::As)/\i<=i0 l/\∀j (k:j<i0 l),j<i->g l[j]=fz) (λi=>i0 l-i) 0 i4 ⟨H,i5,λj _ k=>i5⟩ ?_;rintro i z ⟨o,E,d⟩;refine ag (λe=>?_) (λe=>?_)
 ·have c:i<i0 l:=i5
  refine(o.seq 0 i4 λ_=>rfl).cU (g:=fL) i i4 c l[i] i4 ?_;refine dT y ?_;refine(r l[i] z (w.at [_] o)).mono ?_;rintro _ G ⟨rfl,u⟩;refine⟨_,i4,bo (λt=>?_) λt=>?_⟩
  ·rw[uO c d t,g9 c];exact⟨i4,o.up u.ae⟩
  ·refine⟨i+1,j1,⟨o.up u.ae,i5,λj k p=>?_⟩,i5⟩;rcases zd.1 p with h3|rfl
   ·exact d j k h3
   ·exact t
 ·have m:¬l.findIdx g<i0 l:=by rw[wq];rintro⟨x,A,f⟩;obtain⟨j,k,rfl⟩:=qB A;rw[d j k i5]at f;cases f
  rw[hU m];exact⟨i4,o⟩
theorem Pp(s:Sl)(l:List (Int×Int))(b:FuncId)(a:Array Value)(g:Int×Int->Bool)(Q:g0->Prop)(A:C.fns[b]?=dB eX)(z:St B h0 As Q)(m:∀x h',Q h'->an xP b ([Value.agg #[xF xL x.1,xF xL x.2]]++a.toList).toArray h' λv u=>v=xJ (g x)/\Sp h' u [])(H:aa B h0 h (af 338 s 2 fL l::As))(K:i0 l<=2^20):
  an xP 256 #[s,.func (.func b) #[] a] h λv h'=>∃r:Sl,v=r/\aa B h0 h' (af 338 r 2 fL (l.filter λx=>!g x)::As):=by
 refine ts Tryz.func256 ?_ (.two .n (.two .n (.two .n (.two (.two .n (.inn (.loop [(5,aQ),(6,aQ)] [(5,8),(16,36)] .n))) .n)))) (args:=[s,(.func (.func b) #[] a)]);refine(Rc s l b a g Q A z m H K).mono ?_;rintro _ S ⟨rfl,G⟩;have O:=(H.own 0 i4).len;have I:=(H.own 0 i4).cap;refine⟨_,i4,cH (λe=>?_) λe=>?_⟩
 ·have q:¬l.findIdx g<i0 l:=λo=>by rw[g9 o]at e;omega
  exact⟨s,i4,by rw[filter_all q];exact G⟩
 ·have d:l.findIdx g<i0 l:=by
   by_cases o:l.findIdx g<i0 l
   ·exact o
   ·rw[hU o]at e;exact absurd i4 e
  rw[g9 d];refine aq (λt:Nat×Nat×List (Int×Int)=>((t.1:Int),(t.2.1:Int))) (λt h'=>mJ g l t.2.2 t.1 t.2.1/\t.2.1<=i0 l/\aa B h0 h' (af 338 s 2 fL t.2.2::As)) (λt=>i0 l-t.2.1) (l.findIdx g,l.findIdx g+1,l) j1 ⟨mJ.start d i4,i7,G⟩ ?_;rintro⟨i,j,D⟩ T ⟨M2,R,p⟩;dsimp only at*;have J:=M2.len;have L:=M2.le;refine ag (λN=>?_) (λN=>?_)
  ·have f:j<i0 l:=i5
   refine(p.seq 0 i4 λ_=>rfl).cU (g:=fL) j i4 i5 l[j] (by rw[M2.at_ f]) ?_;refine p.alloc aj i4 λa5 h3 c=>?_;have c:=c.be;refine c.storeAll aj 0 i4 i4 (fL l[j]) i4 i4 i4 i4 λF k=>?_;refine⟨l[j],(k.box 0 i4).aF _ i4,?_⟩;refine dT A ?_;refine(m l[j] F (z.at [_,_] k)).mono ?_;rintro _ P ⟨rfl,M⟩;have E:=k.up M.ae;have c:=E.nY;refine⟨_,i4,aR (λw=>?_) λw=>?_⟩
   ·refine⟨l[j],(E.box 0 i4).aF _ i4,?_⟩;refine c.set aj 0 i4 (λ_=>rfl) i4 i i4 i5 l[j] i4 i4 i4 λF k=>?_;exact⟨(i+1,j+1,D.set i l[j]),by dsimp only;rw[ai _,ai _];rfl,⟨M2.keep f sb,i7,k⟩,i7⟩
   ·exact⟨(i,j+1,D),j0,⟨M2.skip f sb,i7,c⟩,i7⟩
  ·have y:j=i0 l:=i5
   subst y;refine⟨⟨i5,i5⟩,?_⟩;rw[qj];refine p.oF aj 0 i4 age (λ_=>rfl) i4 i6 i i5 λh3 c=>⟨⟨i5,i5⟩,⟨s.ptr,i,s.cap⟩,i4,?_⟩
   have:=M2.pre;rw[qN]at this;rw[<-this];exact c
def tl(pool:List (Sl×aB)):HP:=⟨λh q=>∀x∈pool,Seq h q x.1 1 ak x.2,λa d x b=>(a x b).ae d,λa c x b=>(a x b).mono c⟩
theorem aa.Yo(H:aa B h0 h As):aa B h0 h (As++[tl []]):=H.comp (.one (aP.refl _ _) λx a=>by cases a)
theorem aa.acU(H:aa B h0 h As)(i j:Nat)(b:i≠j){pool:List (Sl×aB)}{r:Sl}{l:aB}(c:As[i]?=dB (tl pool))(e:As[j]?=dB (lm r 1 ak l)):aa B h0 h ((As.set i (tl (pool++[(r,l)]))).set j emp):=
 H.merge i j b c e λk g _ d f x a=>by
  rcases qz.1 a with a|a
  ·exact(d x a).mono λ_ h=>.inl h
  ·rw[qu]at a;subst a;exact Seq.mono f λ_ h=>.inr h
abbrev agf:bG C.toAQ 75 22 1 [xG eH 0 0] 24:=⟨_,_,i4,i4,i4,i4,i4,i4⟩
theorem Re(s d:f8)(r:Sl)(x:Int×Int)(h':g0)(e:f9 h' d=dB (xH (dB s))/\f9 h' (s.add 5)=dB (xG r.ptr r.len r.cap)):
  an xP 257 ([Value.agg #[xF xL x.1,xF xL x.2]]++(#[Value.pointer (dB d)]:Array Value).toList).toArray h' λv c=>v=xJ (decide (x.1>=(r.len:Int)))/\Sp h' c []:=by
 refine ts Tryz.func257 ?_ (args:=[x,d]);refine(Sp.refl h').boxed λa f b=>?_;exact⟨x.1,(b.box 0 i4).cell0 i4,dB s,oL e.1 b.ae,s,i4,r,oL e.2 b.ae,i4,.zip b.ae⟩
theorem Rf(s b:f8)(r:Sl)(x:Int)(h':g0)(c:f9 h' b=dB (xH (dB s))/\f9 h' (s.add 5)=dB (xG r.ptr r.len r.cap)):
  an xP 259 ([Value.int .i64 x]++(#[Value.pointer (dB b)]:Array Value).toList).toArray h' λv a=>v=xJ (decide (x>=(r.len:Int)))/\Sp h' a []:=by
 refine ts Tryz.func259 ?_ (args:=[(x:Int),b]);exact⟨dB s,c.1,s,i4,r,c.2,i4,Sp.refl _⟩
theorem Rh(s f:f8)(p:Int×Int×Int)(v r j m d I F kn:Sl)(E:List (Sl×Sl))(R:List fo)(known:List Bool)(n:Nat)(H:aa B h0 h (SA s (gP f p v r j m d I F)::As))(hS:St B h0 As λh=>nQ jC 2 qv h r E R/\Rd h kn 1 fg known)(am:i0 known=n)(hn:n<=64)(a3:i0 R<=2^19)(ap:∀e∈R,i0 e.1<=2^20)
  (z:jO (n:Int) (rowsOf R known n)=eX) (U:(dP n (rowsOf R known n)).steps.length<=2^20/\(fE (dP n (rowsOf R known n)).used (rowsOf R known n).length).length<=2^20):
  an xP 195 #[xH (dB s),kn] h λv' h'=>v'=.tuple #[]/\∃G A L:Sl,aa B h0 h' (SA s (gP f p v r G A L I F)::af 338 G 2 fL ((dP n (rowsOf R known n)).steps.filter λx=>decide (x.1<i0 R))::af 3 A 1 ak (dP n (rowsOf R known n)).dead::af 3 L 1 ak ((fE (dP n (rowsOf R known n)).used (rowsOf R known n).length).filter λx=>decide (x<i0 R))::As):=by
 refine ts Tryz.func195 ?_ (.two .n (.two .n (.two (.two .n (.inn (.loop [(4,cL),(16,aQ)] [(4,5),(6,7),(16,26)] .n))) (.two (.two .n (.inn (.loop [(4,cL),(28,aQ)] [(4,5),(7,9),(28,40)] .n))) .n))));refine H.boxed λq J T=>?_;have T:=T.be;refine⟨dB s,(T.box 0 i4).cell0 i4,s,i4,r,(T.box 1 i4).cell i4,?_⟩;have G1:=hS.at [_,_] T;have Z:=G1.1.1.len;have P:=G1.1.2.1;have V:=G1.2.len;let pre:List HP:=[ac q 259 [xH (dB s)],SA s (gP f p v r j m d I F)]
 have H2:aa B h0 J (af 22 ⟨eH,0,0⟩ 1 bg []::tl []::ac q 259 [xH (dB s)]::SA s (gP f p v r j m d I F)::As):=((aa.Yo T).be.nil 22 1 bg).be;refine aq (λt:Nat×Sl=>(t.2,(t.1:Int))) (λt h'=>t.1<=i0 R/\aa B h0 h' (af 22 t.2 1 bg ((E.take t.1).map qt)::tl []::ac q 259 [xH (dB s)]::SA s (gP f p v r j m d I F)::As)) (λt=>i0 R-t.1) (0,⟨eH,0,0⟩) i4 ⟨jj,by simpa using H2⟩ ?_;rintro⟨i,o⟩ h3 ⟨hi,H3⟩;dsimp only at*;refine ag (λe=>?_) (λe=>?_)
 ·have ah:i<i0 R:=i5
  have G3:=hS.at [_,_,_,_] H3;refine G3.1.1.cU (g:=qv) i i4 i5 (E[i]'(by omega)) i4 ?_;refine H3.alloc aj i4 λa8 h4 y=>?_;have y:=y.be;refine y.storeAll aj 0 i4 i4 (qv (E[i]'(by omega))) i4 i4 i4 i4 λh5 K=>?_;refine⟨(E[i]'(by omega)).1,(K.box 0 i4).cell0 i4,?_⟩;refine K.nY.push aj 0 i4 agf i4 i6 (λ_=>rfl) jQ (E[i]'(by omega)).1 i4 i6 i9 λo' h6 H6=>?_;refine⟨(i+1,o'),j0,⟨i7,?_⟩,i7⟩
  try dsimp only
  rw[aD E i,qL];exact H6
 have M:i=i0 R:=i5
 subst M;rw[qg i5]at H3;refine aq (λt:Nat×Sl×List Sl=>(t.2.1,(t.1:Int))) (λt h'=>t.1<=n/\t.2.2.length=i0 (iE known t.1)/\aa B h0 h' (af 22 t.2.1 1 bg (E.map qt++t.2.2)::tl (t.2.2.zip (iE known t.1))::ac q 259 [xH (dB s)]::SA s (gP f p v r j m d I F)::As)) (λt=>n-t.1) (0,o,[]) i4 ⟨i5,i4,by simpa using H3⟩ ?_;rintro⟨i,o,sr⟩ h4 ⟨hi,D,y⟩;dsimp only at*;have ay:=CS known i;refine ag (λe=>?_) (λe=>?_)
 ·have ah:i<n:=i5
  have G4:=hS.at [_,_,_,_] y;refine G4.2.bt i i4 i5 _ i4 ?_;have al:known.getD i fz=known[i]'(by omega):=by rw[qd,qc i5];rfl
  have O:=Kb known i;rw[al]at O;refine bo (λW=>?_) (λW=>?_)
  ·rw[W,g9 rfl]at O;refine y.lit aj ak fN i4 [(i:Int)] i4 (show 1*1<=2^20 by decide) i4 λb h5 K=>?_;have K:=K.be.freeze 0 i4 λ_=>rfl;have H6:=aa.acU K 2 0 i6 i4 i4;refine H6.push aj 1 i4 agf i4 i6 (λ_=>rfl) jQ b i4 i6 i9 λo' h7 Y=>?_;refine⟨(i+1,o',sr++[b]),j0,⟨i7,by dsimp only;rw[O];simp[D],?_⟩,i7⟩
   try dsimp only
   rw[O,List.zip_append D,<-qn];exact Y.nY
  ·rw[W,hU jj,qE]at O;exact⟨(i+1,o,sr),j0,⟨i7,by dsimp only;rw[O];exact D,by dsimp only;rw[O];exact y⟩,i7⟩
 have M:i=n:=i5
 subst M;have G4:=hS.at [_,_,_,_] y;have Q:i0 (rowsOf R known i)=i0 R+i0 sr:=by rw[rowsOf,qw,qq,D]
 have ab:fA h4 (λb=>b<h4.size) o 1 ak (rowsOf R known i) (E.map qt++sr):=by
  refine⟨y.seq 0 i4 λ_=>rfl,by rw[Q];simp;omega,λk a l J S=>?_⟩;by_cases hk:k<i0 R
  ·rw[qm i9,qP,qc i5]at J;rw[rowsOf,qm i9,qP,qc hk]at S;simp only[qQ,zW.injEq]at J S;subst J;subst S;exact(Fix.row G4.1 hk).1
  ·rw[qh i9]at J;rw[rowsOf,qh i9]at S;simp only[qq,P]at J S;have hm:(a,l)∈sr.zip (iE known i):=by refine yX.2 ⟨k-i0 R,?_⟩;rw[vG];exact⟨J,S⟩
   exact(y.at 1 i4) _ hm
 rw[V,am];refine(Yg (i:Int) o (rowsOf R known i) _ h4 ab i5 ?_).mono ?_
 ·intro x hx;rcases qz.1 hx with hx|hx
  ·obtain⟨e,he,rfl⟩:=qo.1 hx;have:=ap e he;omega
  ·obtain⟨c,hc,rfl⟩:=qo.1 hx;simp
 rintro _ h5 ⟨G,A,L,rfl,R5⟩;have ar:Cy (i:Int) (rowsOf R known i)=((dP i (rowsOf R known i)).steps,(dP i (rowsOf R known i)).dead,fE (dP i (rowsOf R known i)).used (rowsOf R known i).length):=by unfold Cy;rw[g9 z,qj]
 rw[ar]at R5;dsimp only at R5;have K:=((y.nY).nY).comp R5;refine⟨((G,A,L),_),i4,?_⟩;have H6:aa B h0 h5 (af 338 G 2 fL (dP i (rowsOf R known i)).steps::af 3 A 1 ak (dP i (rowsOf R known i)).dead::af 3 L 1 ak (fE (dP i (rowsOf R known i)).used (rowsOf R known i).length)::ac q 259 [xH (dB s)]::SA s (gP f p v r j m d I F)::As):=aa.front (As:=ac q 259 [xH (dB s)]::SA s (gP f p v r j m d I F)::As) (Bs:=[_,_,_]) K;refine H6.alloc aj i4 λa4 h7 Y=>?_;have Y:=Y.be;refine Y.storeAll aj 0 i4 i4 [G,A,L] i4 i4 i4 i4 λh8 H8=>?_;refine⟨G,(H8.box 0 i4).cell0 i4,?_⟩;refine(Pp G _ 257 #[xH (dB q)] (λx=>decide (x.1>=(r.len:Int))) (λh'=>f9 h' q=dB (xH (dB s))/\f9 h' (s.add 5)=dB (xG r.ptr r.len r.cap)) i4 (St.mk' λh' H'=>⟨(H'.box 3 i4).cell0 i4,(H'.box 4 i4).cell i4⟩) (λx h' hq=>Re s q r x h' hq) H8.gV U.1).mono ?_;rintro _ h9 ⟨u,rfl,H9⟩;refine⟨u,i4,?_⟩;refine H9.jr aj 1 i4 i4 [u] i4 i4 i4 jj λa5 ad=>?_;refine⟨L,(ad.box 1 i4).cell i4,?_⟩;have ao:=ad.aO 6 [3,0,1,2,4,5];refine(Po L _ 259 #[xH (dB q)] (λx=>decide (x>=(r.len:Int))) (λh'=>f9 h' q=dB (xH (dB s))/\f9 h' (s.add 5)=dB (xG r.ptr r.len r.cap)) i4 (St.mk' λh' H'=>⟨(H'.box 3 i4).cell0 i4,(H'.box 4 i4).cell i4⟩) (λx h' hq=>Rf s q r x h' hq) ao U.2).mono ?_;rintro _ a0 ⟨w,rfl,ax⟩;refine⟨w,i4,?_⟩;refine ax.store aj 2 i4 i4 2 [w] i4 i4 i4 jj λa6 N=>?_;refine⟨dB s,(N.box 4 i4).cell0 i4,(u,A,w),(N.box 2 i4).aF _ i4,s,i4,?_⟩;refine N.store aj 5 i4 i4 6 [u,A,w] i4 i4 i4 n8 λa2 X=>⟨i4,u,A,w,?_⟩
 have e1:(λx:Int×Int=>!decide (x.1>=(r.len:Int)))=λx=>decide (x.1<(i0 R:Int)):=by
  funext x;rw[Z,P];by_cases h:x.1<(i0 R:Int)
  ·rw[hY h,hZ i5];rfl
  ·rw[hZ h,hY i5];rfl
 have W:(λx:Int=>!decide (x>=(r.len:Int)))=λx=>decide (x<(i0 R:Int)):=by
  funext x;rw[Z,P];by_cases h:x<(i0 R:Int)
  ·rw[hY h,hZ i5];rfl
  ·rw[hZ h,hY i5];rfl
 rw[e1,W]at X;exact X.aO 6 [5,1,3,0]
theorem aec(h:g0)(x:UInt8):an xP 294 #[xF xM x.toNat] h λv h'=>v=xJ (x !=0)/\h'=h:=by
 refine ts Tryz.func294 ?_;refine⟨?_,i4⟩;congr 1;by_cases a:x=0
 ·subst a;rfl
 ·have:((x.toNat:Nat):Int)≠0:=λb=>a (AD.1 b);rw[bne_iff_ne.2 a];exact bne_iff_ne.2 this
theorem EO(a:Sl)(l:Row)(h:g0)(o:Rd h a 1 az l)(t:i0 l<=2^30:=by omega):an xP 227 #[a] h λv h'=>v=xF xL (if fl l<i0 l then(fl l:Int)else-1)/\h'=h:=by
 refine ts Tryz.func227 ?_;refine(pu a (294,#[],#[]) (R:=λv h'=>v=xF xL (if fl l<i0 l then(fl l:Int)else-1)/\h'=h) ?_).mono ?_
 ·skip
  have r:=o.len;refine aq (λi:Nat=>(i:Int)) (λi h'=>h'=h/\i<=i0 l/\∀j (d:j<i0 l),j<i->l[j]=0) (λi=>i0 l-i) 0 i4 ⟨i4,i5,λj _ d=>i5⟩ ?_;rintro i p ⟨rfl,s,c⟩;refine ag (λe=>?_) (λe=>?_)
  ·have b:i<i0 l:=i5
   refine o.bt i i4 b _ i4 ?_;refine dT lb ?_;refine(aec p l[i]).mono ?_;rintro v u ⟨rfl,rfl⟩;refine⟨_,i4,bo (λn=>?_) λn=>?_⟩
   ·have m:fl l=i:=by rw[fl,List.findIdx_eq b];exact⟨n,λj d=>by simp[c j i5 d]⟩
    rw[m,g9 b];exact⟨i4,i4⟩
   ·refine⟨i+1,j1,⟨i4,i5,λj d k=>?_⟩,i5⟩;rcases zd.1 k with h3|rfl
    ·exact c j d h3
    ·simpa using n
  ·have g:¬fl l<i0 l:=by rw[fl,wq];rintro⟨x,q,f⟩;obtain⟨j,d,rfl⟩:=qB q;rw[c j d i5]at f;simp at f
   rw[hU g];exact⟨i4,i4⟩
 ·rintro v p ⟨rfl,rfl⟩;exact⟨_,i4,i4,i4⟩
theorem LG{l:Row}:¬fl l<i0 l↔l=aI l.length:=by
 rw[fl,wq];constructor
 ·intro h;refine vX.2 ⟨i4,λx b=>?_⟩;by_cases a:x=0
  ·exact a
  ·exact absurd ⟨x,b,k7⟩ h
 ·rintro h ⟨x,b,a⟩;have:=(vX.1 h).2 x b;subst this;simp at a
theorem Ri(f:f8)(a b:Sl)(A B:aJ)(m n w:Nat)(h:g0)(hf:fI h f)(ha:eT h a 1 az A)(hb:eT h b 1 az B)(hl:i0 A=m)(bb:i0 B=m)(u:aS n A)(hB:aS w B)(b0:1<=n)(hn:n+w<=64)(hm:m<=2^20)(hr:ce A=n):
  an xP 162 #[xH (dB f),a,b] h λv h'=>(kY n A B/\∃r:Sl,v=.tuple #[r,xF xL 0]/\Sp h h' [fP 58 r 1 az (gp n A B)])∨(¬kY n A B/\v=.tuple #[xG eH 0 0,xF xL 10]/\Sp h h' []):=by
 have a9:n<=m:=by have:=pf A u;omega
 have d:i0 B=i0 A:=i5
 have ao:=ha.len;have S:=hb.len;refine ts Tryz.func162 ?_ (.two .n (.two (.join [] [(6,8),(17,37)] .n) (.two .n (.two .n (.two (.two .n (.inn (.loop [(43,aQ)] [(10,11),(43,59)] .n))) (.two .n (.two .n (.two (.two .n (.inn (.loop [(71,aQ)] [(6,8),(13,14),(71,79)] .n))) (.two .n (.two (.two .n (.inn (.loop [(14,cL),(83,aQ)] [(14,15),(16,17),(83,95)] .n))) .n))))))))));refine aW ?_;refine(mX a A n h ha u).mono ?_;rintro v V ⟨rfl,rfl⟩;refine⟨_,i4,aR (λe=>j3) λ_=>?_⟩;refine(mX b B w V hb hB).mono ?_;rintro v W ⟨rfl,rfl⟩;refine⟨_,i4,aR (λe=>j3) λ_=>?_⟩;refine bx (λe=>absurd (by rw[ao,S,d]) e) λ_=>?_;refine cH (λe=>i5) λ_=>?_;refine(rk a A W ha).mono ?_;rintro v h3 ⟨rfl,rfl⟩;have ad:eU A=n:=by
  cases A with
  |nil=>simp at hl;omega
  |cons x t=>rw[eU,bw jj];exact u _ jj
 refine⟨_,i4,?_⟩;rw[ad];refine(uz a A n h3 ha u).mono ?_;rintro v h4 ⟨r,rs,rfl,a8,R4⟩;refine⟨r,i4,?_⟩;have a5:=(R4.own 0 i4).len;refine aq (λt:Nat×List Sl=>(t.1:Int)) (λt h'=>t.1<=m/\t.2.length=m/\Sp h3 h' (nM r t.2 (oM A B t.1))) (λt=>m-t.1) (0,rs) i4 ⟨jj,i7,by simpa[oM,fd]using R4⟩ ?_;rintro⟨k,rs⟩ h5 ⟨hk,br,X⟩;dsimp only at*;have H:i0 rs=i0 (oM A B k):=oi
 refine ag (λe=>?_) (λe=>?_)
 ·have T:k<m:=i5
  have R:k<i0 A:=i5
  have F:=oK (a:=r) H k oi;have eg:(oM A B k)[k]'(by rw[se d];omega)=A[k]:=by have:=XE d R;rw[qc oi]at this;exact zW.inj this
  rw[eg]at F;have l1:A[k].length=n:=u _ (qf _);have l2:i0 (B[k]'(by omega))=w:=hB _ (qf _);refine(X.seq 0 i4 λ_=>rfl).mB k i4 i5 λa1 O J=>?_;refine(hb.up X.ae).get k i4 i5 λrb ax=>?_;refine X.append aj (k+1) F gz OL i4 i6 (λ_=>rfl) ax gU i5 λs6 h6 H6=>⟨trivial,?_⟩
  refine H6.set aj 0 i4 (λ_=>rfl) i4 k i4 i5 s6 i4 i4 i4 λh7 H7=>⟨trivial,?_⟩
  refine⟨(k+1,rs.set k s6),j0,⟨i7,l5,?_⟩,i7⟩
  try dsimp only
  rw[<-XF d R];show Sp h3 h7 (af 58 r 1 bg (rs.set k s6)::bv 5 1 az (rs.set k s6) ((oM A B k).set k _));rw[<-kN H];exact H7
 ·have ap:k=i0 A:=i5
  subst ap;rw[XG d]at X;refine(sB f h5).mono ?_;rintro v h6 ⟨rfl,rfl⟩;refine⟨dB f,i4,?_⟩;have ab:=mT d.symm u hB;have bs:=mv d.symm;refine(AE (m:=fd A B) (n:=n+w) hf hf.lt i5 ab i5 i5 i5 X).mono ?_;rintro v h7 ⟨l,rfl,a3,q⟩;rw[GK d.symm u,hr];refine⟨_,i4,?_⟩
  try dsimp only
  have Q:=(q.own 0 i4).cap;have bd:=(q.own 0 i4).len;have W:=ig ab n;refine ag (λe=>absurd (show(n:Int)<(n:Int)from e) i5) λ_=>?_;refine⟨⟨z8 _,yP.2 (show n<=r.len by omega)⟩,?_⟩;obtain⟨M,U⟩:∃M,M=(bH (fd A B) n).2:=⟨_,rfl⟩
  have bk:i0 M=i0 A:=by have:=W.2;rw[<-U]at this;omega
  have P:aS (n+w) M:=by rw[U];exact W.1
  rw[<-U]at q;have L:i0 l=i0 M:=i5
  have p:kY n A B↔∀i (K:i<i0 M),n<=i->M[i]=aI M[i].length:=by
   unfold kY;rw[<-U];constructor
   ·intro N i K hn;refine N _ (yX.2 ⟨i-n,?_⟩);rw[wP,show n+(i-n)=i by omega,qc K]
   ·intro N x hx;obtain⟨i,K,rfl⟩:=qB hx;simp only[zb]at K;rw[wz];exact N _ i5 i5
  refine aq (λi:Nat=>(i:Int)) (λi h'=>h'=h7/\n+i<=i0 M/\∀j (hj:j<i0 M),n<=j->j<n+i->M[j]=aI M[j].length) (λi=>i0 M-(n+i)) 0 i4 ⟨i4,i5,λj _ _ _=>i5⟩ ?_;rintro i h8 ⟨rfl,K,o⟩;rw[qj];refine ag (λe=>?_) (λe=>?_)
  ·have g:n+i<i0 M:=i5
   have F:=oK (a:=r) L (n+i) i5;have a2:i0 (M[n+i]'g)=n+w:=P _ (qf _);have z:=q.seq (n+i+1) F λ_=>rfl;have E:=(q.seq 0 i4 λ_=>rfl).drop n Q;have al:(l.drop n)[i]'(by simp;omega)=l[n+i]'(by omega):=wz;refine E.mB i i4 i9 λa1 O J=>?_;rw[al];refine(EO _ _ h8 z).mono ?_;rintro _ h9 ⟨rfl,rfl⟩;refine⟨_,i4,ag (λI=>?_) λI=>?_⟩
   ·right;have D:fl (M[n+i]'g)<i0 (M[n+i]'g):=by
     by_cases hh:fl (M[n+i]'g)<i0 (M[n+i]'g)
     ·exact hh
     ·rw[hU hh]at I;exact absurd I i6
    refine⟨λN=>?_,i4,.zip q.ae⟩;have:=p.1 N (n+i) g i5;exact absurd D (LG.2 this)
   ·have D:¬fl (M[n+i]'g)<i0 (M[n+i]'g):=λhh=>by
     rw[g9 hh]at I;exact I (z8 _)
    refine⟨i+1,j1,⟨i4,i5,λj hj V W=>?_⟩,i5⟩;by_cases ar:j=n+i
    ·subst ar;exact LG.1 D
    ·exact o j hj V i5
  refine⟨⟨z8 _,yP.2 (show n<=r.cap by omega)⟩,?_⟩;have y:kY n A B:=p.2 λj hj V=>o j hj V i5;have e1:gp n A B=(M.take n).map (xE n):=by rw[gp,<-U]
  have Y:∀k (hk:k<n),(gp n A B).take (k+1)=(gp n A B).take k++[(M[k]'(by omega)).drop n]:=λk hk=>by
   rw[e1,aD _ _ i9,wh,yk]
  have a7:i0 (gp n A B)=n:=(tG d.symm u hB hr).1;refine aq (λt:Sl×Nat=>(t.1,(t.2:Int))) (λt h'=>t.2<=n/\Sp h8 h' [fP 58 t.1 1 az ((gp n A B).take t.2)]) (λt=>n-t.2) (⟨eH,0,0⟩,0) i4 ⟨jj,(Sp.refl h8).HU 58 1 az⟩ ?_;rintro⟨s,k⟩ h9 ⟨bl,H9⟩;dsimp only at*;have HH:=q.comp H9;refine ag (λe=>?_) (λe=>?_)
  ·have T:k<n:=i5
   have F:=oK (a:=r) L k i5;have Z:(nM r l M++[fP 58 s 1 az ((gp n A B).take k)])[k+1]?=dB (af 5 (l[k]'(by omega)) 1 az (M[k]'(by omega))):=by rw[qm (by simp[bv];omega)];exact F
   have a2:i0 (M[k]'(by omega))=n+w:=P _ (qf _);have G:=HH.own (k+1) Z;have z:=HH.seq (k+1) Z λ_=>rfl;have a4:=G.len;have E:=(HH.seq 0 i4 λ_=>rfl).take n i5;have ah:(l.take n)[k]'(by simp;omega)=l[k]'(by omega):=yk;refine E.mB k i4 i9 λa1 O J=>?_;rw[ah];refine⟨⟨z8 _,yP.2 i5⟩,?_⟩;refine(fw _ _ h9 (z.drop n G.cap) i9).mono ?_;rintro v bq ⟨c,rfl,ay⟩;have a0:=(H9.comp ay).freeze 1 i4 λ_=>rfl;refine⟨c,i4,?_⟩;refine a0.tz aj 0 1 i6 i4 i4 fv i9 λs' a6 am=>?_;refine⟨(s',k+1),j0,⟨i7,?_⟩,i7⟩
   try dsimp only
   rw[Y k T];exact am.del 1
  ·rw[qg i5]at H9;refine .inl ⟨y,s,i4,?_⟩;have:=(Sp.zip q.ae).comp H9;exact this
theorem Pq:∀{l:aB},l.Pairwise (·<·)->fJ l=eX
 |[],_=>rfl
 |[_],_=>rfl
 |a::b::r,h=>by
  rw[List.pairwise_cons]at h;rw[fJ,Pq h.2,hY (h.1 b jj)];rfl
theorem Vh{l:aB}(h:l.Pairwise (·<·)):Kr l:=λi a=>zj.1 h i (i+1) i5 a i5
theorem Vi{n:Nat}{R:List fo}{known:List Bool}(i:n<=64)(b:∀e∈R,(∀c∈e.1,0<=c/\c<(n:Int))/\e.1.Pairwise (·<·)):jO (n:Int) (rowsOf R known n)=eX:=by
 unfold jO;rw[qy];refine⟨i9,qJ.2 λr a=>?_⟩;unfold fK;rw[qy];rcases qz.1 a with a|a
 ·obtain⟨e,f,rfl⟩:=qo.1 a;exact⟨qJ.2 λc g=>by simpa using(b e f).1 c g,Pq (b e f).2⟩
 ·obtain⟨d,rfl,h,_⟩:=xX a;exact⟨i9,i4⟩
theorem aa.agh{e:Nat}{v:Sl}{vs:aJ}(H:aa B h0 h As)(i:Nat)(p:As[i]?=dB (bp e v 1 bg (su 1 az) vs)):
  ∃f:List Sl,aa B h0 h (As.set i (af e v 1 bg f)++[kZ (f.zip vs)])/\f.length=i0 vs/\∀(c:Nat) (n:c<i0 f) (o:c<i0 vs),f[c].ptr.isNone=vs[c].isEmpty:=by
 have g:i<i0 As:=(qk.1 p).1;have w:aa B h0 h (As.set i (HP.ex λf:List Sl=>((af e v 1 bg f).sep (kZ (f.zip vs))).and (i0 f=i0 vs/\∀(c:Nat) (n:c<i0 f) (o:c<i0 vs),f[c].ptr.isNone=vs[c].isEmpty))):=
  H.eJ i p λq ⟨rs,D,a,b,c,d,e⟩=>⟨rs,⟨λb=>v.on b,D,λx j=>(b x j).2,λx j=>(b x j).1,c,⟨a,λx j=>j⟩,λx j=>by
   obtain⟨k,A,l⟩:=qB j;simp only[List.length_zip]at A;rw[yS]at l;subst l;exact(e k _ _ (qc i5) (qc i5)).1⟩,d,λk n o=>by
   obtain⟨x,y⟩:=e k _ _ (qc n) (qc o);cases hv:vs[k]with
   |nil=>rw[y hv];rfl
   |cons z t=>
    have:=x.isSome (by rw[hv];simp);rw[this];rfl⟩
 obtain⟨f,m⟩:=w.TM i (zk g);rw[yy]at m;have u:=m.fact i (zk g);have r:=m.acj i (zk g);rw[yy]at r;have s:=r.split i (zk g);rw[yy]at s;exact⟨f,s,u⟩
def yv(x:Int×Sl):aT:=[xF xL x.1,x.2]
def ahu:iK (Int×Sl) (Int×Row):=⟨λh q a b=>a.1=b.1/\Seq h q a.2 1 az b.2,λa d=>⟨a.1,a.2.ae d⟩,λa c=>⟨a.1,a.2.mono c⟩⟩
abbrev FI:iK Sl (List (Int×Row)):=bC ahu 2 yv
theorem Vj{a:List Sl}{vs:aJ}(h:i0 a=i0 vs)(b:List (Sl×Row))(c:∀x∈a.zip vs,x∈b):iy b id a vs:=
 ⟨h,λi r l d e=>c _ (yX.2 ⟨i,by rw[vG];exact⟨d,e⟩⟩)⟩
theorem Pr{α β:Type}:∀(a:List α) (x:α) (l:List β) (h:i0 a<i0 l),(a++[x]).zip l=a.zip l++[(x,l[i0 a])]
 |[],x,b::l,_=>jj
 |c::a,x,b::l,h=>by
  have:=Pr a x l j9;simp[this]
def acV(h h':g0)(v:Value)(n:Nat)(A a:aJ):Prop:=
 (kY n A a/\∃r:Sl,v=.tuple #[r,xF xL 0]/\Sp h h' [MA r (gp n A a)])∨(¬kY n A a/\v=.tuple #[xG eH 0 0,xF xL 10]/\Sp h h' [])
theorem abi(p:Pm)(seed:Int)(l:Sl)(syms:List (Int×Row))(n w:Nat)(h:g0)(hl:dQ FI h l syms)(y:bJ p=eX)(bl:∀x∈syms,xY p x)(hn:(bN p).toNat=n)(hw:p.2.2.toNat=w)(ei:i0 syms<=2^18)(hr:ce (dV p seed (syms.map qt))=n):
  an xP 139 #[jW p,xF xN seed,l] h λv h'=>acV h h' v n (dV p seed (syms.map qt)) (pW p syms):=by
 refine ts Tryz.func139 ?_ (.two .n (.fwd (.two .n (.two (.two .n (.inn (.loop [(8,cL),(23,aQ)] [(8,9),(10,11),(23,39)] .n))) (.two (.join [(11,Oi)] [(11,12),(39,43)] .n) .n))) [(0,[.n]),(1,[(.two (.two .n (.inn (.loop [(95,aQ)] [(20,21),(95,104)] .n))) .n)]),(2,[.n])])) [(5,(.l [0,1,2,3,4,6,7,5,8,9,10,11])),(7,(.l [1,0,2,3,4]))] (args:=[p,(xF xN (seed:Int)),l]);have eh:=(bT p).1 y;have d9:bN p=n:=by rw[<-hn];have:=ox y;omega
 have b4:n=p.1.toNat+p.2.1.toNat:=by rw[<-hn,ox y];omega
 have b2:p.2.2=(w:Int):=i5
 have c0:1<=n:=i5
 have b9:n<=20:=i5
 obtain⟨U,c8,eg,cn⟩:=bC.kb hl;have ef:=bC.len hl;let d:List fo:=td n seed syms;have ed:i0 d=i0 syms:=by simp[d,td]
 have J:=afs (seed:=seed) c0 b9 bl hw;let u:Nat->ct:=λi=>(syms.take i).map λx=>dD n seed x.1;have ao:∀x:Int×Row,x∈syms->(bJ p&&bW x.1)=eX:=λx hx=>by rw[y,(bl x hx).id];rfl
 refine(Sp.refl h).boxed λa1 K H1=>?_;have d6:Sp h K [af 258 ⟨eH,0,0⟩ 2 qv [],tl [],ac a1 36 [xF xL p.1,xF xL p.2.1,xF xL p.2.2]]:=((aa.Yo H1).nil 258 2 qv).bA [2,1,0];refine aq (λt:Nat×Sl×List Sl=>(t.2.1,(t.1:Int))) (λt h'=>t.1<=i0 syms/\t.2.2.length=t.1/\Sp h h' [af 258 t.2.1 2 qv (t.2.2.zip (U.map zh)),tl (t.2.2.zip (u t.1)),ac a1 36 [xF xL p.1,xF xL p.2.1,xF xL p.2.2]]) (λt=>i0 syms-t.1) (0,⟨eH,0,0⟩,[]) i4 ⟨jj,i4,d6⟩ ?_;rintro⟨i,o,cr⟩ h2 ⟨hi,bd,H2⟩;dsimp only at*;have b3:i0 (u i)=i:=by simp[u];omega
 refine ag (λe=>?_) (λe=>?_)
 ·have V:i<i0 syms:=i5
  obtain⟨y1,y2⟩:=cn i i5 V;refine(Seq.up c8 H2.ae).cU (g:=yv) i i4 i5 (U[i]'(by omega)) i4 ?_;refine H2.alloc aj i4 λa5 h3 H3=>?_;refine H3.storeAll aj 3 i4 i4 (yv (U[i]'(by omega))) i4 i4 i4 i4 λh4 T=>?_;refine⟨p,(T.box 2 i4).aF _ i4,(U[i]'(by omega)).1,(T.box 3 i4).cell0 i4,(U[i]'(by omega)).2,(T.box 3 i4).cell i4,?_⟩;refine(Ac p seed (U[i]'(by omega)).1 h4).mono ?_;rintro _ h5 ⟨r,rfl,R5⟩;rw[y1,ao _ (qf V),g9 rfl,hn]at R5;have H5:=(T.comp R5).freeze 4 i4 λ_=>rfl;refine⟨r,i4,⟨(H5.box 3 i4).cell i4,trivial⟩,?_⟩;have H6:=aa.acU H5 1 4 i6 i4 i4;have da:=H6.box 3 i4;refine H6.nt aj qv eQ i4 [(r,(U[i]'(by omega)).2)] i4 (show 1*2<=2^20 by decide) i4 ⟨da.cell i4,trivial⟩ ?_;refine H6.push aj 0 i4 eQ i4 i6 (λ_=>rfl) XX (r,(U[i]'(by omega)).2) i4 i6 i9 λo' h7 H7=>?_;refine⟨⟨(H7.box 3 i4).cell i4,trivial⟩,?_⟩;refine⟨(i+1,o',cr++[r]),j0,⟨i7,by simp[bd],?_⟩,i7⟩
  try dsimp only
  have e1:u (i+1)=u i++[dD n seed syms[i].1]:=by simp only[u];rw[aD _ _ V,qL];rfl
  have e2:(cr++[r]).zip (U.map zh)=cr.zip (U.map zh)++[(r,(U[i]'(by omega)).2)]:=by rw[Pr cr r (U.map zh) i9,wh];simp only[bd]
  rw[e1,e2,List.zip_append (by rw[bd,b3])];exact H7.bA [0,1,2]
 have dj:i=i0 syms:=i5
 subst dj;have dy:u syms.length=syms.map λx=>dD n seed x.1:=by simp only[u];rw[qN]
 rw[dy]at H2;have d3:∀{h':g0},(∀x∈cr.zip (syms.map λx=>dD n seed x.1),Qw.Seq h' (λb=>b<h'.size) x.1 1 ak x.2)->aP (λb=>b<h.size) h h'->Qw.Seq h' (λb=>b<h'.size) o 2 qv (cr.zip (U.map zh))->dQ pD h' o d:=λ{h'} hp hpr hs=>by
  refine⟨_,hs,by simp[d,td];omega,λk a b K h2=>?_⟩;have hk:k<i0 syms:=by have:=(qk.1 h2).1;omega
  rw[qc i9,yS,wh]at K;have e2:d[k]?=dB (dD n seed syms[k].1,syms[k].2):=by simp[d,td,hk]
  rw[e2]at h2;simp only[zW.injEq]at K h2;subst K;subst h2;refine⟨hp (cr[k]'(by omega),dD n seed syms[k].1) (yX.2 ⟨k,?_⟩),Seq.up (cn k i5 hk).2 hpr⟩;rw[vG];exact⟨qc _,by simp[hk]⟩
 refine bL (λs h'=>∃(a2 f:f8),s=dB a2/\Sp h h' [SA a2 (gP f p ⟨eH,0,0⟩ ⟨eH,0,0⟩ ⟨eH,0,0⟩ ⟨eH,0,0⟩ ⟨eH,0,0⟩ ⟨eH,0,0⟩ ⟨eH,0,0⟩),af 258 o 2 qv (cr.zip (U.map zh)),tl (cr.zip (syms.map λx=>dD n seed x.1)),ac a1 36 [xF xL p.1,xF xL p.2.1,xF xL p.2.2],ac f 308 cY]) ?_ ?_
 ·refine⟨p,(H2.box 2 i4).aF _ i4,(pB h2).mono ?_⟩;rintro _ h3 ⟨f,rfl,R3⟩;have H3:=H2.comp R3;refine⟨dB f,i4,⟨(H3.box 2 i4).cell0 i4,(H3.box 2 i4).cell i4,(H3.box 2 i4).cell i4,trivial⟩,?_⟩;refine H3.boxed λa2 h4 T=>?_;exact⟨⟨(T.box 2 i4).cell0 i4,(T.box 2 i4).cell i4,(T.box 2 i4).cell i4,trivial⟩,a2,f,i4,T.bA [4,0,1,2,3]⟩
 rintro _ h3 ⟨s,f,rfl,H3⟩;refine⟨p,(H3.box 3 i4).aF _ i4,(kp p h3).mono ?_⟩;rintro _ h4 ⟨rfl,R4⟩;have T:=H3.up R4.ae;refine⟨_,i4,?_⟩;rw[d9];have c7:dQ pD h4 o d:=d3 (T.at 2 i4) T.ae (T.seq 1 i4 λ_=>rfl);have cp:∀e∈d,i0 e.1<=2^20:=λe B=>by
  obtain⟨x,hx,rfl⟩:=qo.1 B;have:=vU c0 b9 seed x.1;dsimp only;omega
 refine(Yc o d n w h4 c7 (λe B=>⟨(J e B).1,Vh (J e B).2⟩) i5 i5 ⟨i5,i5⟩ cp).mono ?_;have hA:aS n (bB p.1.toNat p.2.1.toNat):=by rw[b4];exact Ig _ _
 have eA:=Uo (seed:=seed) y hn bl;have eB:=Up (seed:=seed) (n:=n) (p:=p) (l:=syms) hw;rw[<-eA]at hr⊢;rw[<-eB];rintro _ h5 ⟨known,vals,hI,⟨ao,rfl,R5⟩|⟨ao,k,v,rs,rfl,R5⟩⟩
 ·refine⟨(⟨eH,0,0⟩,⟨eH,0,0⟩,⟨eH,0,0⟩,10),i4,bx (λ_=>?_) λe=>absurd e i6⟩;exact .inr ⟨Xa (λe B=>(J e B).1) hA hI ao hr,i4,(T.up R5.ae).bA []⟩
 refine⟨(k,v,rs,0),i4,bx (λe=>absurd i4 e) λ_=>?_⟩;have S:=aat (λe B=>(J e B).1) hA hI ao;have z:=Lf (λe B=>(J e B).1) hI;obtain⟨f1,f2,f3,f4,f5⟩:=Ik (λe B=>(J e B).1) hI;have H:=oI hI λe B=>(J e B).1;have bb:=adF (known:=known) (vals:=vals) λe B=>(J e B).2;have du:=Xb (l:=d) (known:=known) (vals:=vals);have a4:=Xc (known:=known) (vals:=vals) cp;have b6:=hI.vlen;have dp:=hI.klen;unfold MG at S;obtain⟨R,a3⟩:∃R,R=aX known vals d:=⟨_,rfl⟩
 change hO n w d _ known vals _ _ _ _ at S;rw[<-a3]at S z f1 f2 f3 f4 f5 H bb du a4 R5;obtain⟨N,H6,d8,ca⟩:=aa.agh (T.comp R5) 6 rfl;obtain⟨rr,H7⟩:=aa.JQ H6 7 rfl λ_=>rfl;have H8:=aa.aea H7 8 i4;have H9:Sp h h5 [SA s (gP f p ⟨eH,0,0⟩ ⟨eH,0,0⟩ ⟨eH,0,0⟩ ⟨eH,0,0⟩ ⟨eH,0,0⟩ ⟨eH,0,0⟩ ⟨eH,0,0⟩),kZ ((⟨eH,0,0⟩,[])::N.zip vals),HA v N,cM jC 2 qv rs rr R,af 4 k 1 fg known,ac f 308 cY]:=aa.bA H8 [0,8,6,7,5,4];have b0:v.len=n:=by rw[(H9.own 2 i4).len];omega
 have hk:∀(c:Nat) (hc:c<i0 N),N[c].ptr.isNone=!(known.getD c fz):=λc hc=>by
  rw[ca c hc i5];have K:=hI.row c i5;rw[mA (show c<i0 vals by omega)]at K;cases hkn:known.getD c fz with
  |true=>
   rw[hkn,g9 rfl]at K;cases hv:vals[c]'(by omega)with
   |nil=>rw[hv]at K;simp at K;omega
   |cons x t=>rfl
  |false=>
   rw[hkn,hU jj]at K;rw[ve.1 K];rfl
 refine⟨s,i4,H9.store aj 0 i4 i4 4 [v] i4 i4 i4 n8 λh6 ec=>?_⟩;refine⟨s,i4,ec.store aj 0 i4 i4 5 [rs] i4 i4 i4 n8 λh7 dx=>?_⟩;have cd:=Vi (known:=known) (n:=n) i5 λe B=>⟨(H e B).cZ,bb e B⟩
 have ad:=un (rows:=rowsOf R known n) (n:=n) (by rw[a3];exact tI (a3▸H));have ej:i0 (rowsOf R known n)<=i0 R+n:=by rw[rowsOf,qw,qq];have:=CS known n;omega
 refine(Rh s f p v rs _ _ _ _ _ k rr R known n (As:=[kZ ((⟨eH,0,0⟩,[])::N.zip vals),HA v N,cM jC 2 qv rs rr R,af 4 k 1 fg known,ac f 308 cY]) dx (St.mk' λh' H'=>⟨H'.fa 2 i4,H'.seq 3 i4 λ_=>rfl⟩) dp i5 i5 a4 cd ⟨by have:=ad.1;omega,by have:=FB (dP n (rowsOf R known n)).used (rowsOf R known n).length;omega⟩).mono ?_;rintro _ h8 ⟨rfl,st,Y,lf,ea⟩;refine⟨(),i4,?_⟩;obtain⟨D,hD⟩:∃D,D=(gX R known n).dead:=⟨_,rfl⟩
 obtain⟨ST,bk⟩:∃ST,ST=nw R known n:=⟨_,rfl⟩
 obtain⟨L,hL⟩:∃L,L=Qw.leftOf R known n:=⟨_,rfl⟩
 have ds:Sp h h8 (SA s (gP f p v rs st Y lf ⟨eH,0,0⟩ ⟨eH,0,0⟩)::kZ ((⟨eH,0,0⟩,[])::N.zip vals)::[HA v N,af 338 st 2 fL ST,af 3 Y 1 ak D,af 3 lf 1 ak L,cM jC 2 qv rs rr R,ac f 308 cY]):=by rw[hD,bk,hL];exact aa.bA ea [0,4,5,1,2,3,6,8]
 rw[<-hD]at S z f1 f2 f3 f5;rw[<-bk]at S z;rw[<-hL]at S f4;have cc:i0 ST<=2^20:=by rw[bk,nw,gX];have:=qS (λx:Int×Int=>decide (x.1<i0 R)) (dP n (rowsOf R known n)).steps;have:=ad.1;omega
 have eo:i0 L<=2^20-2^10:=by rw[hL,Qw.leftOf,gX];have:=qS (λx:Int=>decide (x<i0 R)) (fE (dP n (rowsOf R known n)).used (rowsOf R known n).length);have:=FB (dP n (rowsOf R known n)).used (rowsOf R known n).length;omega
 have F:St (λb=>b<h.size) h [HA v N,af 338 st 2 fL ST,af 3 Y 1 ak D,af 3 lf 1 ak L,cM jC 2 qv rs rr R,ac f 308 cY] λh=>Va h f rs st Y lf rr R ST D L:=
  St.mk' λh' H'=>⟨H'.box 5 i4,H'.fa 4 i4,H'.seq 1 i4 λ_=>rfl,H'.seq 2 i4 λ_=>rfl,H'.seq 3 i4 λ_=>rfl⟩
 refine(Vd s f p v rs st Y lf _ _ rr R ST D L n D.length w _ ds F b0 i5 b2 i5 i4 i5 H f1 f2 z cc a4 jj).mono ?_;rintro _ h9 ⟨rfl,wa,mo,wr,mr,pl,b7,a7⟩;refine⟨(),i4,?_⟩;have d7:=(F.at [_,_,_,_] b7).dead.len;generalize ep:ST.foldl (iq R D.length) (ga n D.length w D)=S0 at a7 S;have d4:i0 S0.1=n:=by have:=S.lens.1;simpa[iI]using this
 have c5:i0 S0.2=n:=by have:=S.lens.2.1;simpa[iI]using this
 have hV:iy pl id N vals:=Vj d8 pl λx hx=>a7.sub x (qD _ hx);refine(Yk s f p v rs st Y lf wa mo N wr mr pl known vals S0.1 S0.2 n D.length b7 i5 d7 i5 ⟨λ_ h=>h,a7.way,a7.more⟩ hV b6 d4 c5 hk).mono ?_;rintro _ en ⟨rfl,al,am,Z,dk,P⟩;refine⟨(),i4,?_⟩;obtain⟨W,hW⟩:∃W,W=(iI D.length known vals S0).1:=⟨_,rfl⟩
 obtain⟨M,hM⟩:∃M,M=(iI D.length known vals S0).2:=⟨_,rfl⟩
 change mq pl Z al am (iI D.length known vals S0).1 (iI D.length known vals S0).2 at P;rw[<-hW,<-hM]at P S;have m:=S.lens;refine(Vf s f p v rs st Y lf wa mo al am Z rr R ST D L W M n D.length w dk F b4 b2 i5 y i4 i5 H a4 f4 i5 ⟨λ_ h=>h,P.way,P.more⟩ m.1 m.2.1 m.2.2).mono ?_;rintro _ ab ⟨a,b,rfl,ay⟩;refine⟨(a,b),i4,s,i4,Y,show f9 ab (s.add 7)=_ from(ay.box 2 i4).cell i4,?_⟩;have eb:iy Z id N vals:=hV.mono P.sub;obtain⟨e1,e2⟩:=pq S;have O:=xW (n:=n) (w:=w) (ahead:=bB p.1.toNat p.2.1.toNat) (l:=d) (known:=known) (vals:=vals) (dead:=D) (left:=L) (W:=W) (M:=M);have a0:∀{X:aJ},_->_:=λ{X} hs=>S.SC hr (D:=X) hs;have ar:=S.SD hr;have a6:=S.Uq i5 hr;have a8:=S.JW i5 hr;rw[<-a3]at e1 e2 O a0 ar a6 a8;obtain⟨dA,b5⟩:∃dA,dA=dJ n D.length R W L (bB p.1.toNat p.2.1.toNat):=⟨_,rfl⟩
 obtain⟨G,c4⟩:∃G,G=fF n w R M L (bB p.1.toNat p.2.1.toNat):=⟨_,rfl⟩
 rw[<-b5]at e1 O a0 ar a6 a8 ay;rw[<-c4]at e2 O a0 ar a6 ay;have d0:i0 dA=i0 L+p.2.1.toNat:=by rw[b5];simp[dJ,bB]
 have a9:∀{h':g0} {pre:List HP} {dead:Sl} {dr:List Sl} {X:aJ} {Q:HP},Sp h h' (Told s f p v rs st Y lf wa mo al am Z++HA v N::[af 338 st 2 fL ST,af 3 Y 1 ak D,af 3 lf 1 ak L,cM jC 2 qv rs rr R,ac f 308 cY,Q])->(∀h',Q.p h' (λb=>b<h'.size)->fA h' (λb=>b<h'.size) dead 1 az X dr)->fD D.length w dA G X->
   an xP 200 #[xH (dB s),dead] h' λv' ap=>v'=.tuple #[]/\f9 ap (s.add 4)=dB (xG v.ptr v.len v.cap)/\acV h ap (.tuple #[v,xF xL 0]) n (dL n d (bB p.1.toNat p.2.1.toNat)) (iF w d (bB p.1.toNat p.2.1.toNat)):=by
  intro h' pre dead dr X Q H' hQ hs;refine(Ym s f p v rs st Y lf wa mo dead N al am dr Z known vals W M X n D.length w H' (St.mk' λap ah=>⟨ah.box 4 i4,hQ ap (ah.at 5 i4)⟩) i5 i5 i5 ⟨λ_ h=>h,P.way,P.more⟩ eb b6 m.1 m.2.1 m.2.2 hs.1 hs.2.1 hk).mono ?_;rintro _ ap ⟨rfl,ek,ee,ah,ip⟩;refine⟨i4,(ah.box 0 i4).cell i4,?_⟩;obtain⟨c1,c2⟩:=a0 hs;refine .inl ⟨c1,v,i4,?_⟩;rw[<-c2];exact(ah.aba 4 3 i6 i4 i4 ip.1 λk r l K h2=>ip.2 k r l K h2).bA [4]
 have I:Sp h ab (MA a dA::CA b G::(Told s f p v rs st Y lf wa mo al am Z++HA v N::[af 338 st 2 fL ST,af 3 Y 1 ak D,af 3 lf 1 ak L,cM jC 2 qv rs rr R,ac f 308 cY])):=ay;have cl:=I.KN 1 i4 λ_=>rfl;have b1:eT ab b 1 az G:=bC.toeT (by
  have:=bC.impl (α':=Sl) (E:=Pn) (E':=cm 1 az) id (λ{h q a b} (hx:Pn.p h q a b)=>hx.1) cl
  rwa [List.map_id]at this)
 have d1:=b1.len;refine cH (λe0=>?_) (λe0=>?_)
 ·have cs:i0 D=0:=i5
  obtain⟨br,q1,q2,q3⟩:=bC.kb cl;refine aq (λi:Nat=>(i:Int)) (λi h'=>h'=ab/\i<=i0 G/\∀j (hj:j<i0 G),j<i->G[j]=aI w) (λi=>i0 G-i) 0 i4 ⟨i4,i5,λj _ hj=>i5⟩ ?_;rintro i ax ⟨rfl,hi,hz⟩;have bq:fD D.length w dA G []↔∀r∈G,r=aI w:=by rw[cs];exact Il O
  refine ag (λe=>?_) (λe=>?_)
  ·have V:i<i0 G:=by have e':(i:Int)<(b.len:Int):=e;omega
   obtain⟨y1,y2⟩:=q3 i i5 V;have c6:G[i].length=w:=e2 _ (qf _);refine q1.mC i i4 i5 ?_;refine(EJ (br[i]'(by omega)) G[i] _ i4 ax y1 y2 i5).mono ?_;rintro _ cq ⟨⟨t,rfl,ht⟩,rfl⟩;refine⟨t,i4,ag (λe3=>?_) λe3=>?_⟩
   ·refine .inr ⟨λhc=>?_,i4,I.bA []⟩;have cf:=ar hc;have d2:D=[]:=ve.1 cs;rw[d2]at cf;have:=(Il O).1 cf _ (qf V);have h0:t.len=0:=ht.2 λx hx=>by rw[this]at hx;exact(ya.1 hx).2
    omega
   ·have h0:t.len=0:=i5
    refine⟨i+1,j1,⟨i4,i5,λj hj el=>?_⟩,i5⟩;by_cases hh:j=i
    ·subst hh;exact vX.2 ⟨c6,ht.1 h0⟩
    ·exact hz j hj i5
  ·have hs:fD D.length w dA G []:=bq.2 λr hr=>by
    obtain⟨j,hj,rfl⟩:=qB hr;have e':¬(i:Int)<(b.len:Int):=e;exact hz j hj i5
   have bs:=aa.comp (I.bA [2,3,4,5,6,7,8,9,10,11]) (Sp.one (h:=ax) (h':=ax) (A:=emp) (aP.refl _ _) trivial);refine(a9 (pre:=[]) (dead:=⟨eH,0,0⟩) (dr:=[]) (X:=[]) (Q:=emp) ?_ (λh' _=>⟨Seq.nil _ _ _ _ _ _,i4,λk r l K _=>by cases K⟩) hs).mono ?_
   ·exact bs
   ·rintro _ cq ⟨rfl,hc,hm⟩;exact⟨(),i4,s,i4,v,hc,hm⟩
 ·have d5:1<=i0 D:=i5
  refine⟨s,i4,dB f,(I.box 2 i4).cell0 i4,?_⟩;refine(Ri f a b dA G dA.length D.length w ab (I.box 11 i4) (I.Dt 0 i4) b1 i4 O.symm e1 e2 d5 i5 i5 a8).mono ?_;rintro _ ax (⟨hc,r,rfl,R12⟩|⟨hc,rfl,R12⟩)
  ·refine⟨(r,0),i4,bx (λe=>absurd i4 e) λ_=>?_⟩;have bs:=(I.comp R12).MD 12 i4;obtain⟨dr,c9⟩:=aa.JQ bs 12 rfl λ_=>rfl;have hs:=pi O e1 e2 a8 hc;refine(a9 (pre:=[]) (dead:=r) (dr:=dr) (X:=gp D.length dA G) (Q:=cM (cm 1 az) 1 bg r dr (gp D.length dA G)) (c9.bA [2,3,4,5,6,7,8,9,10,11,12]) (λh' x=>⟨x.1,x.2.1,x.2.2⟩) hs).mono ?_;rintro _ cq ⟨rfl,hc,hm⟩;exact⟨(),i4,s,i4,v,hc,hm⟩
  ·refine⟨(⟨eH,0,0⟩,10),i4,bx (λ_=>?_) λe=>absurd e i6⟩;exact .inr ⟨λhh=>hc (a6.2 hh),i4,(I.up R12.ae).bA []⟩
def mK(p:Int×Int×Int)(x:Int×Row):Bool:=bW x.1&&decide ((i0 x.2:Int)=p.2.2)
theorem Ps{p:Int×Int×Int}{x:Int×Row}(c:bJ p=eX):mK p x=eX↔xY p x:=by have:=(bT p).1 c;unfold mK;rw[qy,decide_eq_true_iff];exact⟨λ⟨a,b⟩=>⟨a,i5⟩,λh=>⟨h.id,by have:=h.len;omega⟩⟩
def sG(p:Int×Int×Int)(seed:Int)(X:aJ)(i:Nat):Row:=(qx i).flatMap λj:Nat=>fV p.2.2.toNat X (dD (bN p).toNat seed (j:Int))
theorem LH(p:Int×Int×Int)(seed:Int)(X:aJ)(i:Nat):sG p seed X (i+1)=sG p seed X i++fV p.2.2.toNat X (dD (bN p).toNat seed (i:Int)):=by unfold sG;rw[zB,qY];simp
open Classical in
noncomputable def lE(p:Int×Int×Int)(seed:Int)(l:List (Int×Row)):Row×Int:=
 if bJ p&&l.all (mK p)then
  if fR p seed (l.map qt)then
   if kY (bN p).toNat (dV p seed (l.map qt)) (pW p l)then(sG p seed (gp (bN p).toNat (dV p seed (l.map qt)) (pW p l)) p.1.toNat,0)else([],10)
  else([],9)
 else([],1)
theorem Rj(p:Pm)(x:Int×Sl)(l:Row)(h:g0)(e:Rd h x.2 1 az l):an xP 136 #[jW p,xK #[xF xL x.1,x.2]] h λv h'=>v=xJ (mK p (x.1,l))/\Sp h h' []:=by
 refine ts Tryz.func136 ?_ (args:=[p,x]);refine(Sp.refl h).boxed λj i d=>?_;refine d.boxed λg k a=>?_;have f:=e.len;refine⟨x.1,(a.box 1 i4).cell0 i4,ag (λb=>?_) λb=>?_⟩
 ·refine⟨x.1,(a.box 1 i4).cell0 i4,ag (λc=>?_) λc=>?_⟩
  ·refine⟨x.2,(a.box 1 i4).cell i4,p.2.2,(a.box 0 i4).cell i4,?_,.zip a.ae⟩;congr 1;unfold mK bW;rw[hY (show 0<=x.1 from b),hY (show x.1<=65535 from c),f];rw[yK];simp
  ·refine⟨?_,.zip a.ae⟩;unfold mK bW;rw[hZ (show¬x.1<=65535 from c)];simp
 ·refine⟨?_,.zip a.ae⟩;unfold mK bW;rw[hZ (show¬0<=x.1 from b)];simp
theorem Rl(p:Pm)(b:f8)(x:Int×Sl)(l:Row)(h:g0)(c:bY h b 36 [xF xL p.1,xF xL p.2.1,xF xL p.2.2])(d:Rd h x.2 1 az l):an xP 135 #[xK #[xF xL x.1,x.2],xH (dB b)] h λv h'=>v=xJ (!mK p (x.1,l))/\Sp h h' []:=by refine ts Tryz.func135 ?_ (args:=[x,b]);refine(Sp.refl h).boxed λg e a=>?_;refine⟨p,(c.ae a.ae c.lt).aF _ i4,x,(a.box 0 i4).aF _ i4,?_⟩;refine(Rj p x l e (Seq.up d a.ae)).mono ?_;rintro _ i ⟨rfl,f⟩;exact⟨_,i4,i4,.zip (a.up f.ae).ae⟩
theorem Rm(p:Pm)(d:f8)(l:Sl)(syms:List (Int×Row))(h:g0)(q:bY h d 36 [xF xL p.1,xF xL p.2.1,xF xL p.2.2])(n:dQ FI h l syms)(B:i0 syms<=2^30):an xP 134 #[l,.func (.func 135) #[] #[xH (dB d)]] h λv h'=>v=xJ (!syms.all (mK p))/\Sp h h' []:=by
 refine ts Tryz.func134 ?_ (args:=[l,(.func (.func 135) #[] #[xH (dB d)])]);refine(lB l (135,#[],#[xH (dB d)]) (R:=λv h'=>(∃i:Int,v=xF xL i/\(decide (i>=0)=!syms.all (mK p)))/\Sp h h' []) ?_).mono ?_
 ·skip
  obtain⟨k,x,z,y⟩:=bC.kb n;have u:=bC.len n;refine aq (λi:Nat=>(i:Int)) (λi h'=>i<=i0 syms/\(syms.take i).all (mK p)=eX/\Sp h h' []) (λi=>i0 syms-i) 0 i4 ⟨i5,jj,Sp.refl h⟩ ?_;rintro i o ⟨m,a,c⟩;refine ag (λe=>?_) (λe=>?_)
  ·have b:i<i0 syms:=i5
   obtain⟨t,w⟩:=y i i5 b;refine(Seq.up x c.ae).cU (g:=yv) i i4 i5 (k[i]'(by omega)) i4 ?_;refine dT lb ?_;refine(Rl p d (k[i]'(by omega)) syms[i].2 o (q.ae c.ae q.lt) (Seq.up w c.ae)).mono ?_;rintro _ A ⟨rfl,r⟩;have f:((k[i]'(by omega)).1,syms[i].2)=syms[i]:=by rw[t]
   rw[f];refine⟨_,i4,aR (λj=>?_) λj=>?_⟩
   ·refine⟨⟨i,i4,?_⟩,c.up r.ae⟩;rw[hY (show(i:Int)>=0 by omega)];have:syms.all (mK p)=fz:=yE.2 ⟨_,qf b,tg⟩;rw[this];rfl
   ·refine⟨i+1,j1,⟨i5,?_,c.up r.ae⟩,i5⟩;rw[aD _ _ b,yZ,a];simpa using j
  ·refine⟨⟨-1,i4,?_⟩,c⟩;rw[qg i5]at a;rw[a];rfl
 ·rintro _ o ⟨⟨i,rfl,m⟩,s⟩;exact⟨i,i4,o5,s⟩
theorem Yp(l:Sl)(syms:List (Int×Row))(h:g0)(j:dQ FI h l syms)(D:i0 syms<=2^30):an xP 138 #[l] h λv h'=>∃r:Sl,v=r/\Sp h h' [af 3 r 1 ak (syms.map qt)]:=by
 refine ts Tryz.func138 ?_ (.two .n (.two .n (.two (.two .n (.inn (.loop [(3,cL),(8,aQ)] [(3,4),(5,6),(8,18)] .n))) .n)));obtain⟨d,u,x,w⟩:=bC.kb j;have s:=bC.len j;refine aq (λt:Nat×Sl=>(t.2,(t.1:Int))) (λt h'=>t.1<=i0 syms/\Sp h h' [af 3 t.2 1 ak ((syms.take t.1).map qt)]) (λt=>i0 syms-t.1) (0,⟨eH,0,0⟩) i4 ⟨jj,(Sp.refl h).nil 3 1 ak⟩ ?_;rintro⟨i,o⟩ z ⟨y,c⟩;dsimp only at*;refine ag (λe=>?_) (λe=>?_)
 ·have b:i<i0 syms:=i5
  obtain⟨q,E⟩:=w i i5 b;refine(Seq.up u c.ae).cU (g:=yv) i i4 i5 (d[i]'(by omega)) i4 ?_;refine c.alloc aj i4 λa A m=>?_;refine m.storeAll aj 1 i4 i4 (yv (d[i]'(by omega))) i4 i4 i4 i4 λh3 f=>?_;refine⟨(d[i]'(by omega)).1,(f.box 1 i4).cell0 i4,?_⟩;refine f.push aj 0 i4 fN i4 i6 (λ_=>rfl) eS (d[i]'(by omega)).1 i4 i6 i9 λp B k=>?_;refine⟨(i+1,p),j0,⟨i7,?_⟩,i7⟩
  try dsimp only
  rw[aD _ _ b,qL];rw[q]at k;exact k.bA [0]
 ·have:i=i0 syms:=i5
  subst this;rw[qN]at c;exact⟨o,i4,c⟩
theorem abj{B:aw}{q h:g0}{As:List HP}(f b:Sl)(c d:Row)(H:aa B q h (af 5 b 1 az d::As))(u:St B q As λh=>Rd h f 1 az c)
  (w:i0 c=i0 d) (I:i0 c<=2^30) {K:g0->Prop} (E:∀h',aa B q h' (af 5 b 1 az (cV 1 c d)::As)->K h'):
  gK (σ:=Int) (λa v g=>
 Br (decide (a<((f.len:Nat):Int)))
 (∃j:f8,(f.ptr=dB j/\0<=a/\a<((f.len:Nat):Int))/\
 ∃o:Int,f9 g (j.add (a.toNat*1))=dB (xF xM o)/\
 ∃l:f8,(b.ptr=dB l/\0<=a/\a<((b.len:Nat):Int))/\
 ∃m:Int,f9 g (l.add (a.toNat*1))=dB (xF xM m)/\
 ∃a28:f8,(b.ptr=dB a28/\0<=a/\a<((b.len:Nat):Int))/\
 au xP (qG 5 (xH (dB (a28.add (a.toNat*1)))) (xF xM (qe xM ((qO (qH xM) m^^^(qO (qH xM) o)).toNat:Nat)))) g λ_ r=>
 v (qe xL (a+(1:Int))) r) (K g)) (0:Int) h:=by
 have F:f.len=i0 c:=(u.at [af 5 b 1 az d] H).len;refine aq (λk:Nat=>(k:Int)) (λk h'=>k<=i0 c/\aa B q h' (af 5 b 1 az (zf (λx y=>y^^^x) (c.take k) (d.take k)++d.drop k)::As)) (λk=>i0 c-k) 0 i4 ⟨i5,l0⟩ ?_;rintro k z ⟨G,p⟩;have A:=u.at [_] p;refine ag (λe=>?_) (λe=>?_)
 ·have s:k<i0 c:=i5
  have n:i0 (zf (λx y=>y^^^x) (c.take k) (d.take k))=k:=i9
  have D:i0 (zf (λx y=>y^^^x) (c.take k) (d.take k)++d.drop k)=i0 d:=by rw[qw,n,zb];omega
  refine A.bt k i4 s _ i4 ?_;have i:(zf (λx y=>y^^^x) (c.take k) (d.take k)++d.drop k)[k]'(by omega)=d[k]:=by rw[wB i5];simp[n]
  refine(p.seq 0 i4 λ_=>rfl).bt k i4 i5 _ i4 ?_;rw[i,nU];refine p.set aj 0 i4 (λ_=>rfl) i4 k i4 i5 _ i4 i4 i4 λh3 t=>?_;rw[zp,EK w]at t;exact⟨k+1,j1,⟨i5,t⟩,i5⟩
 ·have:k=i0 c:=i5
  subst this;rw[qg (ql _),qg i5,zc i5,qE,<-SS]at p;exact E z p
theorem Jd(p:Pm)(seed:Int)(l:Sl)(syms:List (Int×Row))(h:g0)(S:dQ FI h l syms)(Y:i0 syms<=2^18:=by omega):
  an xP 86 #[jW p,xF xN seed,l] h λv h'=>∃r:Sl,v=.tuple #[r,xF xL (lE p seed syms).2]/\Sp h h' [af 5 r 1 az (lE p seed syms).1]:=by
 refine ts Tryz.func86 ?_ (.two .n (.two (.join [] [(6,8),(17,25)] .n) (.two (.join [] [(6,8),(25,31)] .n) (.two .n (.two .n (.two .n (.two (.two .n (.inn (.loop [(10,cL),(43,aQ)] [(10,13),(14,17),(43,81)] (.two .n (.two .n (.two (.inn (.two .n (.two .n (.two (.two .n (.inn (.loop [(54,aQ)] [(14,17),(54,77)] (.two .n (.two .n (.two (.inn (.two .n (.two .n (.inn (.loop [(63,aQ)] [(15,17),(63,76)] .n))))) .n)))))) .n)))) .n)))))) .n))))))) (args:=[p,(xF xN (seed:Int)),l]);refine(Sp.refl h).boxed λJ h1 H1=>?_;have q:∀{h':g0} (e:Int),Sp h h' [ac J 36 [xF xL p.1,xF xL p.2.1,xF xL p.2.2]]->lE p seed syms=([],e)->∃r:Sl,(.tuple #[xG eH 0 0,xF xL e]:Value)=.tuple #[r,xF xL (lE p seed syms).2]/\Sp h h' [af 5 r 1 az (lE p seed syms).1]:=λe H' he=>by
  rw[he];exact⟨⟨eH,0,0⟩,i4,(H'.nil 5 1 az).bA [1]⟩
 refine aW ⟨p,(H1.box 0 i4).aF _ i4,?_⟩;refine(dZ p h1).mono ?_;rintro _ h2 ⟨rfl,R2⟩;have O:=H1.up R2.ae;refine⟨_,i4,aR (λe=>?_) λa=>?_⟩
 ·exact q 1 O (by unfold lE;rw[e];rfl)
 refine(Rm p J l syms h2 (O.box 0 i4) (dQ.up S O.ae) i5).mono ?_;rintro _ h3 ⟨rfl,R3⟩;have R:=O.up R3.ae;refine⟨_,i4,aR (λe=>?_) λd=>?_⟩
 ·exact q 1 R (by unfold lE;rw[a,e];rfl)
 refine aW ⟨p,(R.box 0 i4).aF _ i4,?_⟩;refine(Yp l syms h3 (dQ.up S R.ae) i5).mono ?_;rintro _ h4 ⟨r,rfl,R4⟩;have H4:=R.comp R4;have E:=H4.box 0 i4;refine⟨r,i4,⟨E.cell0 i4,E.cell i4,E.cell i4,trivial⟩,?_⟩;refine(Lo p seed r (syms.map qt) h4 (H4.seq 1 i4 λ_=>rfl) i9).mono ?_;rintro _ h5 ⟨rfl,R5⟩;have N:Sp h h5 [ac J 36 [xF xL p.1,xF xL p.2.1,xF xL p.2.2]]:=(H4.up R5.ae).bA [0];refine⟨_,i4,trivial,aR (λe=>?_) λb=>?_⟩
 ·exact q 9 N (by unfold lE;rw[a,d,e];rfl)
 have B:∀x∈syms,xY p x:=λx g=>(Ps a).1 (qJ.1 d x g);have ap:=(bT p).1 a;have a0:=ox a;have hr:ce (dV p seed (syms.map qt))=(bN p).toNat:=by have:=b;unfold fR wX at this;rw[a]at this;simp at this;omega
 refine⟨p,(N.box 0 i4).aF _ i4,?_⟩;refine(abi p seed l syms (bN p).toNat p.2.2.toNat h5 (dQ.up S N.ae) a B i4 i4 Y hr).mono ?_;rintro _ h6 (⟨hc,m,rfl,R6⟩|⟨hc,rfl,R6⟩)
 rotate_left
 ·refine⟨(⟨eH,0,0⟩,10),i4,bx (λ_=>q 10 (N.up R6.ae) ?_) λe=>absurd e i6⟩;unfold lE;rw[a,d,b,hU hc];rfl
 refine⟨(m,0),i4,bx (λe=>absurd i4 e) λ_=>?_⟩;obtain⟨X,hX⟩:∃X,X=gp (bN p).toNat (dV p seed (syms.map qt)) (pW p syms):=⟨_,rfl⟩
 have K:lE p seed syms=(sG p seed X p.1.toNat,0):=by unfold lE;rw[a,d,b,g9 hc,hX];rfl
 have T:aS p.2.2.toNat (pW p syms):=λx g=>by
  rcases qz.1 g with g|g
  ·rw[(ya.1 g).2];simp[aI]
  ·obtain⟨y,hy,rfl⟩:=qo.1 g;exact(B y hy).len
 have ad:i0 (dV p seed (syms.map qt))=i0 (pW p syms):=by rw[<-Uo (n:=(bN p).toNat) (seed:=seed) a i4 B,<-Up (n:=(bN p).toNat) (seed:=seed) (p:=p) (l:=syms) rfl];exact tH
 obtain⟨A,k⟩:=tG ad (mS p seed _) T hr;rw[<-hX]at R6 A k;have H6:=(N.comp R6).MD 1 i4;obtain⟨P,Q⟩:=aa.JQ H6 1 rfl λ_=>rfl;have a2:=(Q.fa 1 i4).1.len;have ao:=(Q.fa 1 i4).2.1;refine⟨p.1,(Q.box 0 i4).cell0 i4,?_⟩;rw[K];have L:Sp h h6 [af 5 ⟨eH,0,0⟩ 1 az [],ac J 36 [xF xL p.1,xF xL p.2.1,xF xL p.2.2],cM (cm 1 az) 1 bg m P X]:=(Q.nil 5 1 az).bA [2,0,1];have M:∀j:Nat,i0 (fV p.2.2.toNat X (dD (bN p).toNat seed (j:Int)))=p.2.2.toNat:=λj=>Sz k A λx g=>mO i5 i5 g;have D:∀i,i0 (sG p seed X i)=i*p.2.2.toNat:=λi=>by
  induction i with
  |zero=>simp[sG]
  |succ i ih=>rw[LH,qw,ih,M,zP]
 refine aq (λt:Nat×Sl=>(t.2,(t.1:Int))) (λt h'=>t.1<=p.1.toNat/\Sp h h' [af 5 t.2 1 az (sG p seed X t.1),ac J 36 [xF xL p.1,xF xL p.2.1,xF xL p.2.2],cM (cm 1 az) 1 bg m P X]) (λt=>p.1.toNat-t.1) (0,⟨eH,0,0⟩) i4 ⟨i5,by simpa[sG]using L⟩ ?_;rintro⟨i,o⟩ h8 ⟨hi,L⟩;dsimp only at*;refine ag (λe=>?_) (λe=>?_)
 ·have ah:i<p.1.toNat:=i5
  refine⟨p.2.2,(L.box 1 i4).cell i4,?_⟩;refine L.make aj az gz i6 0 i4 i4 p.2.2.toNat p.2.2.toNat i5 i5 (ql _) i5 λsm h9 _ _ H9=>?_;refine⟨p,(H9.box 1 i4).aF _ i4,(Ac p seed (i:Int) h9).mono ?_⟩;rintro _ ay ⟨c,rfl,H⟩;have ab:(bJ p&&bW (i:Int))=eX:=by rw[a];unfold bW;simp;omega
  rw[ab,g9 rfl]at H;have I:=(H9.comp H).bA [3,0,1,2,4];refine⟨c,i4,?_⟩;generalize z:dD (bN p).toNat seed (i:Int)=cs at I H;have u:∀x∈cs,0<=x/\x<((bN p).toNat:Int):=λx g=>mO i5 i5 (z▸g);have ax:i0 cs<=20:=by have:=vU (n:=(bN p).toNat) i5 i5 seed (i:Int);rw[z]at this;omega
  have am:=(I.own 4 i4).len;refine aq (λj:Nat=>(j:Int)) (λj h'=>j<=i0 cs/\Sp h h' [af 5 sm 1 az (fV p.2.2.toNat X (cs.take j)),af 5 o 1 az (sG p seed X i),ac J 36 [xF xL p.1,xF xL p.2.1,xF xL p.2.2],cM (cm 1 az) 1 bg m P X,af 3 c 1 ak cs]) (λj=>i0 cs-j) 0 i4 ⟨i5,I⟩ ?_;rintro j al ⟨hj,f⟩;have F:=pj k A u j hj;refine ag (λe2=>?_) (λe2=>?_)
  ·have w:j<i0 cs:=i5
   have ar:=u _ (qf w);refine(f.seq 4 i4 λ_=>rfl).bt j i4 w _ i4 ?_;have s:cs[j].toNat<i0 X:=i5
   refine(f.fa 3 i4).1.mC cs[j].toNat i5 i5 ?_;have W:i0 (X[cs[j].toNat]'s)=p.2.2.toNat:=k _ (qf _);refine abj (P[cs[j].toNat]'(by omega)) sm (X[cs[j].toNat]'s) _ f (St.mk' λh' H'=>Fix.row (H'.fa 2 i4) s) (by rw[W,F]) i5 λU G=>?_;refine⟨j+1,j1,⟨i5,?_⟩,i5⟩;rw[aD _ _ w,BN,mA s];exact G
  ·have Z:j=i0 cs:=i5
   subst Z;rw[qN]at f F;refine f.append aj 1 i4 gz OL i4 i6 (λ_=>rfl) (f.seq 0 i4 λ_=>rfl) gU (by rw[D,F];have:i*p.2.2.toNat<=16*24:=Nat.mul_le_mul i5 i5;omega) λo' U G=>?_;refine⟨(i+1,o'),j0,⟨i7,?_⟩,i7⟩
   try dsimp only
   rw[LH,z];exact G.bA [1,2,3]
 ·have V:i=p.1.toNat:=i5
  subst V;exact⟨o,i4,L.bA [0]⟩
variable {p:Int×Int×Int} {seed:Int} {d:Row} {K H w n:Nat}
def lY(p:Int×Int×Int)(seed:Int)(X:aJ)(ids:aB):List (Int×Row):=ids.map λi=>(i,fV p.2.2.toNat X (dD (bN p).toNat seed i))
theorem cv.size(B:cv p seed d K H w n):p.2.2.toNat=w:=by have:=B.s;omega
theorem Hn(X:aJ)(ids:aB):(lY p seed X ids).map qt=ids:=by simp[lY,wL,Function.comp_def]
theorem cv.Pt(B:cv p seed d K H w n){ids:aB}(hid:∀i∈ids,bW i=eX):(lY p seed (dw p seed d) ids).all (mK p)=eX:=qJ.2 λx a=>by
 obtain⟨i,b,rfl⟩:=qo.1 a;refine(Ps B.may).2 ⟨hid i b,?_⟩
 try dsimp only
 rw[B.size,B.pk];exact B.WL i
theorem Je{α β:Type}{f g:α->List β}:∀(l:List α),(∀x∈l,f x=g x)->l.flatMap f=l.flatMap g
 |[],_=>rfl
 |a::l,h=>by rw[za,za,h a jj,Je l λx b=>h x o0]
theorem LI(d:Row)(w:Nat):∀i,i*w<=i0 d->(qx i).flatMap (Qw.Du d w)=d.take (i*w)
 |0,_=>jj
 |i+1,h=>by
  have e:(i+1)*w=i*w+w:=zP i w;rw[zB,qY,LI d w i i5,e,xy];simp[Qw.Du]
theorem cv.out(B:cv p seed d K H w n):sG p seed (dw p seed d) p.1.toNat=d:=by
 have b:p.1.toNat=K:=by have:=B.k;omega
 unfold sG;rw[b,B.size,B.pk];have:(qx K).flatMap (λj:Nat=>fV w (dw p seed d) (dD n seed (j:Int)))=(qx K).flatMap (Qw.Du d w):=by exact Je _ λj a=>B.aaj (qA.1 a)
 rw[this,LI d w K (by rw[B.len];exact ql _),qg (by rw[B.len];exact ql _)]
theorem cv.Yq(B:cv p seed d K H w n){ids:aB}(hid:∀i∈ids,bW i=eX):Qw.fD n w (dV p seed ids) (pW p (lY p seed (dw p seed d) ids)) (dw p seed d):=by
 have j:ids.filter bW=ids:=wx.2 hid;have m:dV p seed ids=bB K H++ids.map (om n seed):=by
  unfold dV;rw[B.may,g9 i4,j,B.pk];have l:p.1.toNat=K:=by have:=B.k;omega
  have f:p.2.1.toNat=H:=by have:=B.h;omega
  rw[l,f]
 have o:pW p (lY p seed (dw p seed d) ids)=qi H (aI w)++ids.map λi=>fV w (dw p seed d) (dD n seed i):=by
  unfold pW lY;have f:p.2.1.toNat=H:=by have:=B.h;omega
  rw[f,B.size,B.pk,wL];rfl
 refine⟨B.nR.1,B.nR.2,λi g=>?_⟩;rw[m]at g⊢;rw[o];have b:i0 (bB K H)=H:=by simp[bB]
 simp only[qw,qq,b]at g;by_cases a:i<H
 ·have c:aC (bB K H++ids.map (om n seed)) i=lO K H i:=by rw[bw i9,w8 i5];simp[bB]
  have e:aC (qi H (aI w)++ids.map λi=>fV w (dw p seed d) (dD n seed i)) i=aI w:=by rw[bw i9,w8 k7];simp
  rw[c,e];exact B.low a
 ·have c:aC (bB K H++ids.map (om n seed)) i=om n seed (ids[i-H]'(by omega)):=by rw[bw i9,wB i5];simp[b]
  have e:aC (qi H (aI w)++ids.map λi=>fV w (dw p seed d) (dD n seed i)) i=fV w (dw p seed d) (dD n seed (ids[i-H]'(by omega))):=by rw[bw i9,wB k7];simp
  rw[c,e,B.sym]
theorem Yr{l:List (Int×Row)}(c:∀x∈l,xY p x):aS p.2.2.toNat (pW p l):=λx a=>by
 rcases qz.1 a with a|a
 ·rw[(ya.1 a).2];simp[aI]
 ·obtain⟨y,b,rfl⟩:=qo.1 a;exact(c y b).len
theorem Rn(b:bJ p=eX){l:List (Int×Row)}(a:∀x∈l,xY p x):i0 (dV p seed (l.map qt))=i0 (pW p l):=by rw[<-Uo (n:=(bN p).toNat) (seed:=seed) b i4 a,<-Up (n:=(bN p).toNat) (seed:=seed) (p:=p) (l:=l) rfl];exact tH
theorem EP(a:bJ p=eX){ids:aB}:fR p seed ids=eX↔ce (dV p seed ids)=(bN p).toNat:=by have:=ox a;have:=(bT p).1 a;unfold fR wX;rw[a,zX];simp;omega
theorem cv.dec(B:cv p seed d K H w n){ids:aB}(hid:∀i∈ids,bW i=eX)(b:fR p seed ids=eX):lE p seed (lY p seed (dw p seed d) ids)=(d,0):=by have a:∀x∈lY p seed (dw p seed d) ids,xY p x:=λx f=>(Ps B.may).1 (qJ.1 (B.Pt hid) x f);have h:=B.Yq hid;have e:=Rn (seed:=seed) B.may a;rw[Hn]at e;have g:=(EP B.may).1 b;have c:=lQ e (mS p seed ids) (Yr a) g (by rw[B.pk,B.size];exact h);unfold lE;rw[B.may,B.Pt hid,Hn,b];simp only[Bool.and_self,if_true];rw[g9 c.2,<-c.1,B.out]
theorem abk(c:bJ p=eX){l:List (Int×Row)}(b:l.all (mK p)=eX)(a:fR p seed (l.map qt)=fz):lE p seed l=([],9):=by unfold lE;rw[c,b,a];rfl
theorem Ro{n:Nat}{A:aJ}(o:aS n A)(d:ce A=n){y:Nat->UInt8}(u:∀r∈A,bU (λj=>aK r j) y n=0):∀i,i<n->y i=0:=by
 intro i l;let Y:aJ:=(qx n).map λc=>[y c]
 have p:aS 1 (qi A.length (aI 1)):=λr d=>by rw[(ya.1 d).2];rfl
 have a:i0 A=i0 (qi A.length (aI 1)):=jj
 have e:∀j,j<i0 A->aC (qi A.length (aI 1)) j=aI 1:=λj g=>by rw[bw l4];simp
 have f:∀z:Nat->UInt8,(∀r∈A,bU (λj=>aK r j) z n=0)->fD n 1 A (qi A.length (aI 1)) ((qx n).map λc=>[z c]):=λz s=>by
  have b:aS 1 ((qx n).map λc=>[z c]):=λr d=>by obtain⟨c,_,rfl⟩:=qo.1 d;rfl
  refine⟨jj,b,λj g=>?_⟩;rw[e j g];refine eZ (n:=1) (iM b jj _ n (ql _)) i4 λk v=>?_;obtain rfl:k=0:=i5
  rw[il b jj _ 0 n (ql _),cD,<-s _ (mem_row g)];refine fY n (λ_ _=>rfl) λc q=>?_;rw[bw nb];simp[aK]
 have u0:=(lQ a o p d (f (λ_=>0) λr _=>dot_zero' r n)).1;have t:=(lQ a o p d (f y u)).1;have h:aK (aC ((qx n).map λc=>[y c]) i) 0=aK (aC ((qx n).map λ_=>[(0:UInt8)]) i) 0:=congrArg (λm=>aK (aC m i) 0) (t.trans u0.symm);rw[bw (by simpa using l),bw (by simpa using l)]at h;simpa[aK]using h
where
 dot_zero' (r:Row):∀n,bU (λj=>aK r j) (λ_=>(0:UInt8)) n=0
  |0=>rfl
  |n+1=>by rw[bU,dot_zero' r n,Gf.mul_zero];rfl
theorem aed{ids js:aB}(h:∀i∈ids,i∈js):∀r∈dV p seed ids,r∈dV p seed js:=λr a=>by
 unfold dV at*;cases hm:bJ p
 ·rw[hm]at a;simp at a
 ·rw[hm,g9 rfl,qz]at a;rw[g9 i4,qz];rcases a with a|a
  ·exact .inl a
  ·obtain⟨i,b,rfl⟩:=qo.1 a;rw[qF]at b;exact .inr (qo.2 ⟨i,qF.2 ⟨h i b.1,b.2⟩,i4⟩)
theorem LJ(c:bJ p=eX){ids js:aB}(h:∀i∈ids,i∈js)(d:fR p seed ids=eX):fR p seed js=eX:=by
 have a:=(EP c).1 d;refine(EP c).2 ?_;have j:=mQ (mS p seed js);by_cases b:ce (dV p seed js)<(bN p).toNat
 ·exfalso;obtain⟨y,⟨i,e,g⟩,f⟩:=kernel (mS p seed js) b;exact g (Ro (mS p seed ids) a (λr a=>f r (aed h r a)) i e)
 ·omega
theorem nj(a b:dm):mG a b=eX↔a.object=b.object/\a.block=b.block/\a.id=b.id:=by unfold mG;rw[decide_eq_true_eq]
theorem SV{l:List dm}{i:Nat}(a:i<i0 l)(b:nu l i=eX):l[i]∈nK l:=by unfold nK;exact qo.2 ⟨i,qF.2 ⟨qA.2 a,b⟩,gF _ a⟩
theorem abl{l:List dm}{r:dm}(h:r∈l):∃c∈nK l,mG c r=eX:=by
 have e:∀i (a:i<i0 l),∃c∈nK l,mG c l[i]=eX:=by
  intro i
  induction i with
  |zero=>intro a;exact⟨l[0],SV a (by unfold nu;simp),(nj _ _).2 ⟨i4,i4,i4⟩⟩
  |succ i ih=>
   intro a;cases hk:nu l (i+1)with
   |true=>exact⟨_,SV a hk,(nj _ _).2 ⟨i4,i4,i4⟩⟩
   |false=>
    obtain⟨c,f,d⟩:=ih i5;unfold nu at hk;rw[Bool.or_eq_false_iff,Bool.not_eq_false']at hk;have b:=hk.2;rw[Nat.add_sub_cancel,gF _ a,gF _ (show i<i0 l by omega)]at b;rw[nj]at d b;exact⟨c,f,(nj _ _).2 ⟨by rw[d.1,b.1],by rw[d.2.1,b.2.1],by rw[d.2.2,b.2.2]⟩⟩
 obtain⟨i,a,rfl⟩:=qB h;exact e i a
theorem jD{m:av}{r:dm}:eW m r=eX↔iV r=eX/\r.p=m.p/\∃x∈m.objs,x.object=r.object/\r.block<(x.tries.length:Int)/\r.seed=ci r.object r.block (x.tries.getD r.block.toNat 0):=by unfold eW;rw[qy,qy,decide_eq_true_eq,wg];simp only[qy,decide_eq_true_eq]
theorem Pu{m:av}(e:bf m=eX){x y:Qw.cu}(d:x∈m.objs)(f:y∈m.objs)(h:x.object=y.object):x=y:=by
 have a:=zj.1 ((bM m).1 e).2.2.2.2.2.2;obtain⟨i,b,rfl⟩:=qB d;obtain⟨j,c,rfl⟩:=qB f;rcases yh i j with hl|rfl|hl
 ·exact absurd h (a i j b c hl)
 ·rfl
 ·exact absurd h.symm (a j i c b hl)
theorem Ys{m:av}(e:bf m=eX){x y:Qw.cu}(d:x∈m.objs)(f:y∈m.objs)(h:x.name=y.name):x=y:=by
 have a:=zj.1 ((bM m).1 e).2.2.2.2.2.1;obtain⟨i,b,rfl⟩:=qB d;obtain⟨j,c,rfl⟩:=qB f;rcases yh i j with hl|rfl|hl
 ·exact absurd h (Ah (a i j b c hl))
 ·rfl
 ·exact absurd h.symm (Ah (a j i c b hl))
def gg(m:av)(C:Int->aL)(o b:Int):aL:=(splitB m.p (C o)).getD b.toNat []
def Cz(m:av)(C:Int->aL)(r:dm):Prop:=r.data=uG m.p r.seed (gg m C r.object r.block) r.id
theorem abm{m:av}{C:Int->aL}{r a:dm}(p:bf m=eX)(j:eW m r=eX)(k:eW m a=eX)(f:Cz m C r)(e:Cz m C a)(h:mG a r=eX):a=r:=by
 obtain⟨_,i,w,c,t,_,l⟩:=jD.1 j;obtain⟨_,u,x2,d,s,_,q⟩:=jD.1 k;rw[nj]at h;obtain⟨b,g,o⟩:=h;have n:w=x2:=Pu p c d (by rw[t,s,b]);subst n;have v:a.seed=r.seed:=by rw[l,q,b,g]
 unfold Cz at f e;cases r;cases a;simp only at*;subst b g o v;rw[i,u,f,e]
structure gJ (m:av) (C:Int->aL) (c:aL):Prop where
 old:∀r,dO c=dB r->r.object<m.next
 tru:∀r,dO c=dB r->eW m r=eX->Cz m C r
 page:∀g,cI c=dB g->g.seq<=m.seq/\(g.seq=m.seq->c∈aM m)
theorem Ho{m:av}{C:Int->aL}{l:bP}(o:bf m=eX)(j:∀c∈l,gJ m C c){c:aL}(h:c∈l){r:dm}(g:dO c=dB r)(e:eW m r=eX):r∈ft m l:=by have a:r∈(l.filterMap (gN m)).mergeSort mF:=wC.2 (yx.2 ⟨c,h,by unfold gN;rw[g];(try dsimp only);rw[g9 e]⟩);obtain⟨k,i,p⟩:=abl a;obtain⟨n,f,d,b⟩:=tk (m:=m) (l:=l) (r:=k) i;have:=abm o e b ((j c h).tru r g e) ((j n f).tru k d b) p;rw[<-this];exact i
theorem Aj{m:av}{l:bP}{r:dm}(h:r∈ft m l):cW r∈l/\dO (cW r)=dB r/\eW m r=eX:=by obtain⟨c,b,a,d⟩:=tk h;rw[(TX a).1];exact⟨b,a,d⟩
theorem FJ{n:av}(C:Int->aL){c:aL}(e:bf n=eX)(h:c∈aM n):gJ n C c:=by
 have h0:=nS h;refine⟨λr a=>(by rw[h0]at a;cases a),λr a _=>(by rw[h0]at a;cases a),λg b=>?_⟩;rw[jb]at h;obtain⟨i,d,rfl⟩:=qo.1 h;rw[iS e (qA.1 d)]at b;injection b with b
 subst b;exact⟨yC _,λ_=>by rw[jb];exact qo.2 ⟨i,d,i4⟩⟩
theorem SX{m:av}{C:Int->aL}{l:bP}(b:bf m=eX)(e:∀c∈l,gJ m C c):∀c∈bO m l,gJ m C c:=λc a=>by
 rcases qz.1 a with h|h
 ·exact FJ C b h
 ·obtain⟨r,d,rfl⟩:=qo.1 h;exact e _ (Aj d).1
theorem SY{m:av}{C:Int->aL}{d:aZ}{N:Int}(e:bf m=eX)(b:∀c∈d.l,gJ m C c):∀c∈(de m d N).l,gJ m C c:=λc a=>by
 unfold de at a;split at a
 ·exact b c a
 ·exact SX e b c a
theorem Pv{m:av}{C:Int->aL}{d:aZ}{N:Int}(e:bf m=eX)(g:∀c∈d.l,gJ m C c){r:dm}(a:cW r∈d.l)(b:dO (cW r)=dB r)(f:eW m r=eX):cW r∈(de m d N).l:=by
 unfold de;split
 ·exact a
 ·exact wb _ (qo.2 ⟨r,Ho e g a b f,i4⟩)
theorem Jf{r:dm}(h:iV r=eX):cI (cW r)=eH:=by
 have a:=oE h;unfold cI cW;rw[g9 h,wf]
 try dsimp only
 rw[hU (by rintro⟨h,_⟩;exact absurd h i6)]
theorem CB{m n:av}{C D:Int->aL}{o b:Int}(a:n.p=m.p)(h:D o=C o):gg n D o b=gg m C o b:=by unfold gg;rw[a,h]
theorem Cz.congr{m n:av}{C D:Int->aL}{r:dm}(a:n.p=m.p)(b:D r.object=C r.object)(h:Cz m C r):Cz n D r:=by unfold Cz at h⊢;rw[CB a b,a];exact h
theorem Vk{m n:av}{r:dm}(b:n.p=m.p)(a:∀x∈n.objs,x∈m.objs)(h:eW n r=eX):eW m r=eX:=by obtain⟨d,e,x,c,h3⟩:=jD.1 h;exact jD.2 ⟨d,by rw[e,b],x,a x c,h3⟩
theorem gJ.next{m n:av}{C:Int->aL}{c:aL}(h:gJ m C c)(d:n.p=m.p)(j:m.next<=n.next)(k:m.seq<n.seq)(a:∀x∈n.objs,x∈m.objs):gJ n C c:=
 ⟨λr b=>by have:=h.old r b;omega,λr b i=>(h.tru r b (Vk d a i)).congr d i4,λg f=>by have:=(h.page g f).1;exact⟨i5,λe=>i5⟩⟩
def lF(C:Int->aL)(o:Int)(b:aL):Int->aL:=λk=>if k=o then b else C k
theorem gJ.with{m:av}{C:Int->aL}{e:Qw.cu}{b c:aL}(h:gJ m C c)(o:e.object=m.next):gJ (fi m e) (lF C m.next b) c:=by
 refine⟨λr a=>?_,λr a i=>?_,λg f=>?_⟩
 ·have:=h.old r a;show r.object<m.next+1;omega
 ·have n:=h.old r a;obtain⟨j,k,x,d,h3,l⟩:=jD.1 i;rcases uK.1 d with d|rfl
  ·refine(h.tru r a (jD.2 ⟨j,k,x,d,h3,l⟩)).congr (m:=m) i4 ?_;unfold lF;rw[hU i5]
  ·omega
 ·have:=(h.page g f).1;show g.seq<=m.seq+1/\(g.seq=m.seq+1->_)
  exact⟨i5,λe=>i5⟩
theorem agi{m:av}{C:Int->aL}{e:Qw.cu}{b:aL}{seed:Int}{i id:Nat}(d:0<=seed/\seed<4294967296)(c:iV (lV m m.next i seed ((splitB m.p b).getD i []) id)=eX):
  gJ (fi m e) (lF C m.next b) (cW (lV m m.next i seed ((splitB m.p b).getD i []) id)):=by
 have a:=rR c d;refine⟨λr h=>?_,λr h j=>?_,λg h=>?_⟩
 ·rw[a]at h;injection h with h;subst h
  show m.next<m.next+1;omega
 ·rw[a]at h;injection h with h;subst h
  have f:gg (fi m e) (lF C m.next b) m.next (i:Int)=(splitB m.p b).getD i []:=by unfold gg lF;rw[g9 i4,qj];rfl
  show uG m.p seed ((splitB m.p b).getD i []) id=uG (fi m e).p seed (gg (fi m e) (lF C m.next b) m.next (i:Int)) id;rw[f];rfl
 ·rw[Jf c]at h;cases h
structure gB (m:av) (C:Int->aL) (ds:aE):Prop where
 may:bf m=eX
 len:ds.length=64
 cells:∀k d,aV ds k=dB d->∀c∈d.l,gJ m C c
 ents:∀e∈m.objs,((C e.object).length:Int)=e.length/\cT m.p e.object (splitB m.p (C e.object)).length=dB e.tries
theorem gB.old{m:av}{C:Int->aL}{ds:aE}(S:gB m C ds){e:Qw.cu}(a:e∈m.objs):e.object<m.next:=((fB m e).1 (((bM m).1 S.may).2.2.2.2.1 e a)).2.1.2
theorem CC{ds ds':aE}{f:Int->aZ->aZ}(h:∀k,aV ds' k=(aV ds k).map (f k)){k:Int}{d:aZ}(a:aV ds' k=dB d):∃b,aV ds k=dB b/\d=f k b:=by
 rw[h]at a;cases h0:aV ds k with
 |none=>rw[h0]at a;cases a
 |some b=>rw[h0]at a;injection a with a;exact⟨b,i4,a.symm⟩
theorem SZ{n:av}{C:Int->aL}{a:bP}{d:aZ}(e:∀c∈d.l,gJ n C c)(f:∀c∈a,gJ n C c):∀c∈(dM a d).l,gJ n C c:=λc b=>by
 rw[uL]at b;rcases qz.1 b with h|h
 ·exact e c h
 ·exact f c h
def Ak(m:av)(ds:aE)(t:aB)(b:aL)(n:av)(k:Int)(d:aZ):aZ:=
 if k∈aU ds m.drives then dM ((jM m m.next t (splitB m.p b) (aU ds m.drives) k (splitB m.p b).length).map cW++aM n) (de m d (kF (aM n).length (dX m m.next t (splitB m.p b) (aU ds m.drives) (splitB m.p b).length) k))else d
theorem aee{m:av}{offs:Int}{w:Pow}{ds:aE}{C:Int->aL}{name:ByteArray}{b:aL}(s:w.calm)(S:gB m C ds):
  ((∃e,e≠0/\gH m offs w ds name b=(e,m,w,ds))/\((gH m offs w ds name b).1=dW m (fH w offs) ds name b.length∨(dW m (fH w offs) ds name b.length=0/\((gH m offs w ds name b).1=8/\cT m.p m.next (splitB m.p b).length=eH∨(gH m offs w ds name b).1=7/\∃t,cT m.p m.next (splitB m.p b).length=dB t/\dR m ds (aU ds m.drives) (kF (aM (fi m ⟨name,m.next,b.length,t⟩)).length (dX m m.next t (splitB m.p b) (aU ds m.drives) (splitB m.p b).length))=fz))))∨
  (dW m (fH w offs) ds name b.length=0/\∃t ds',cT m.p m.next (splitB m.p b).length=dB t/\gH m offs w ds name b=(0,fi m ⟨name,m.next,b.length,t⟩,w,ds')/\gB (fi m ⟨name,m.next,b.length,t⟩) (lF C m.next b) ds'/\
   ∀k,aV ds' k=(aV ds k).map (Ak m ds t b (fi m ⟨name,m.next,b.length,t⟩) k)):=by
 obtain⟨F,u⟩:=Lx (offs:=offs) (name:=name) (b:=b) s S.len S.may;by_cases a:dW m (fH w offs) ds name b.length=0
 ·obtain⟨H,A⟩:=u a;cases ht:cT m.p m.next (splitB m.p b).length with
  |none=>rw[H ht];exact .inl ⟨⟨8,i6,i4⟩,.inr ⟨a,.inl ⟨i4,i4⟩⟩⟩
  |some t=>
   obtain⟨j,x,E⟩:=A t ht;cases hf:dR m ds (aU ds m.drives) (kF (aM (fi m ⟨name,m.next,b.length,t⟩)).length (dX m m.next t (splitB m.p b) (aU ds m.drives) (splitB m.p b).length))with
   |false=>rw[x hf];exact .inl ⟨⟨7,i6,i4⟩,.inr ⟨a,.inr ⟨i4,t,i4,hf⟩⟩⟩
   |true=>
    obtain⟨ds',z,D,B⟩:=E hf;have g:∀k,aV ds' k=(aV ds k).map (Ak m ds t b (fi m ⟨name,m.next,b.length,t⟩) k):=B;refine .inr ⟨a,t,ds',i4,z,⟨j,D,λk d v=>?_,λe l=>?_⟩,g⟩
    ·obtain⟨q,h0,rfl⟩:=CC g v;unfold Ak;split
     ·refine SZ (λc f=>(SY S.may (S.cells k q h0) c f).with i4) λc f=>?_;rcases qz.1 f with h|h
      ·obtain⟨r,o,rfl⟩:=qo.1 h;obtain⟨i,id,rfl,y,hid⟩:=UP o;obtain⟨I,J,z3,z4,z5⟩:=na a;have n:=((dn m).1 ((bM m).1 S.may).1)
       have h8:=FH n.2.2.1 λh=>z4 (.inl h);exact agi (kS _ _ _) (SQ S.may (by have:¬16777215<m.next:=λh=>z5 (.inr (.inl h));omega) h8 ht y hid)
      ·exact FJ _ j h
     ·exactλc f=>(S.cells k q h0 c f).with i4
    ·rcases uK.1 l with l|rfl
     ·have G:=S.old l;have:lF C m.next b e.object=C e.object:=by unfold lF;rw[hU i5]
      rw[this];exact S.ents e l
     ·have:lF C m.next b m.next=b:=by unfold lF;rw[g9 rfl]
      show((lF C m.next b m.next).length:Int)=(b.length:Int)/\cT m.p m.next (splitB m.p (lF C m.next b m.next)).length=dB t;rw[this];exact⟨i4,ht⟩
 ·rw[F a];exact .inl ⟨⟨_,a,i4⟩,.inl i4⟩
theorem Vl{m n:av}{offs:Int}{w:Pow}{ds:aE}{C:Int->aL}(u:w.calm)(S:gB m C ds)(y:fH w offs=fz)(l:bf n=eX)(B:n.seq=m.seq+1)(i:n.p=m.p)(s:m.next<=n.next)(a:∀x∈n.objs,x∈m.objs):
  ((aU ds n.drives=[]∨dR m ds (aU ds n.drives) (λ_=>(i0 (aM n):Int))=fz)/\cB m offs w ds n=(7,m,w,ds))∨
  ((aU ds n.drives≠[]/\dR m ds (aU ds n.drives) (λ_=>(i0 (aM n):Int))=eX)/\∃ds',cB m offs w ds n=(0,n,w,ds')/\gB n C ds'/\
   ∀k,aV ds' k=(aV ds k).map λd=>if k∈aU ds n.drives then dM (aM n) (de m d (aM n).length)else d):=by
 obtain⟨E,v⟩:=EF (m:=m) (n:=n) (offs:=offs) (w:=w) (ds:=ds) u S.len y l B;by_cases g:aU ds n.drives=[]∨dR m ds (aU ds n.drives) (λ_=>(i0 (aM n):Int))=fz
 ·exact .inl ⟨g,E g⟩
 ·have q:aU ds n.drives≠[]:=λh=>g (.inl h);have o:dR m ds (aU ds n.drives) (λ_=>(i0 (aM n):Int))=eX:=by
   cases h:dR m ds (aU ds n.drives) (λ_=>(i0 (aM n):Int))with
   |false=>exact absurd (.inr h) g
   |true=>rfl
  obtain⟨ds',z,A,t⟩:=v q o;refine .inr ⟨⟨q,o⟩,ds',z,⟨l,A,λk d j=>?_,λe D=>?_⟩,t⟩
  ·obtain⟨r,h0,rfl⟩:=CC (f:=λk d=>if k∈aU ds n.drives then dM (aM n) (de m d (aM n).length)else d) t j;split
   ·exact SZ (λc b=>(SY S.may (S.cells k r h0) c b).next i s i5 a) λc b=>FJ C l b
   ·exactλc b=>(S.cells k r h0 c b).next i s i5 a
  ·have:=S.ents e (a e D);rw[i];exact this
def nE(p:Int×Int×Int)(a:bP)(n:Int):aL:=if bJ p=eX/\0<=n/\(i0 a:Int)=countP p n/\(a.all λx=>decide (i0 x=dU p))=eX then a.flatten.take n.toNat else[]
noncomputable def jZ(m:av)(ds:aE)(o:Int)(tries:aB)(k:Nat):aL×Int:=lE m.p (ci o k (tries.getD k 0)) (eC m ds (aU ds m.drives) o k)
def Jg(m:av)(ds:aE)(k:Int):Bool:=match aV ds k with|some d=>gI m d.l|none=>fz
def ro(m:av)(ds:aE):Bool:=(aU ds m.drives).any (Jg m ds)
noncomputable def AJ(m:av)(ds:aE)(e:cu):aL×Int:=
 if ro m ds=fz then([],11)else if((qx e.tries.length).all λk=>decide ((jZ m ds e.object e.tries k).2=0))=eX then(nE m.p ((qx e.tries.length).map λk=>(jZ m ds e.object e.tries k).1) e.length,0)else([],11)
noncomputable def nN(m:av)(offs:Int)(w:Pow)(ds:aE)(name:ByteArray):aL×Int:=
 if fH w offs then([],14)else match m.objs.find? (gm name)with
 |none=>([],5)
 |some e=>AJ m ds e
def nF(m:av)(ds:aE)(o b:Int):aB:=(eC m ds (aU ds m.drives) o b).map qt
def Ku(m:av)(ds:aE)(e:cu):Bool:=ro m ds&&(qx e.tries.length).all λk=>fR m.p (ci e.object k (e.tries.getD k 0)) (nF m ds e.object k)
theorem Jh(a:Nat)(b:aL):∀n,((qx n).map (th a b)).flatten=b.take (n*a)++qi (n*a-i0 b) 0
 |0=>jj
 |n+1=>by
  rw[zB,qL,List.flatten_append,Jh a b n,zP];simp only[zO,vk,List.flatten_cons,List.flatten_nil,qE];unfold th;by_cases h:n*a<=i0 b
  ·have d:n*a-i0 b=0:=i5
   rw[d,y9,qE,<-qn,<-xy,List.drop_replicate,zb];congr 2;omega
  ·have c:b.drop (n*a)=[]:=zc i5;rw[c,List.take_nil,List.nil_append,List.length_nil,List.drop_zero,qg i5,qg i5,qn,List.replicate_append_replicate];congr 2;omega
theorem Gp{p:Int×Int×Int}(a:bJ p=eX)(n:Nat):n<=(countP p n).toNat*dU p:=by
 obtain⟨h,g,d⟩:=lC a;unfold countP;rw[a,zX];by_cases h0:0<(n:Int)
 ·rw[hY h0,g9 i4,<-d];have f:=Int.emod_lt_of_pos ((n:Int)-1) (show(0:Int)<(dU p:Int)by omega);have c:=Int.mul_ediv_add_emod ((n:Int)-1) (dU p:Int);have h3:0<=((n:Int)-1)/(dU p:Int):=Int.ediv_nonneg i5 i5;obtain⟨q,b⟩:=Int.eq_ofNat_of_zero_le h3;rw[b]at c⊢;have e:((q:Int)+1).toNat=q+1:=i5
  rw[e,zP];have:(dU p:Int)*(q:Int)=((q*dU p:Nat):Int):=by rw[Int.natCast_mul,Int.mul_comm]
  omega
 ·omega
theorem Vm{p:Int×Int×Int}(a:bJ p=eX)(b:aL):nE p (splitB p b) b.length=b:=by
 unfold nE;rw[g9 ⟨a,i5,ED a b,qJ.2 λx c=>by
  unfold splitB at c;obtain⟨i,_,rfl⟩:=qo.1 c;exact hY (Em _ _ _)⟩]
 have:=Gp a b.length;unfold splitB;rw[Jh,qg this,qj,List.take_append_of_le_length (ql _),qN]
variable {m:av} {ds:aE} {offs:Int}
section
variable {C:Int->aL} {w:Pow}
theorem Ji{o b k:Int}{x:Int×aL}(h:x∈kG m ds o b k):∃d r,aV ds k=dB d/\r∈ft m d.l/\r.object=o/\r.block=b/\x=(r.id,r.data):=by
 unfold kG at h;cases hd:aV ds k with
 |none=>rw[hd]at h;cases h
 |some d=>
  rw[hd]at h;unfold uI at h;obtain⟨r,c,rfl⟩:=qo.1 h;obtain⟨e,a⟩:=qF.1 c;rw[qy,decide_eq_true_eq,decide_eq_true_eq]at a;exact⟨d,r,i4,e,a.1,a.2,i4⟩
theorem gB.entry(S:gB m C ds){e:Qw.cu}(a:e∈m.objs):gE m e=eX:=((bM m).1 S.may).2.2.2.2.1 e a
theorem gB.Pw(S:gB m C ds):bJ m.p=eX:=((dn m).1 ((bM m).1 S.may).1).2.2.1
theorem gB.blocks(S:gB m C ds){e:Qw.cu}(a:e∈m.objs):(splitB m.p (C e.object)).length=e.tries.length:=(jz (S.ents e a).2).symm
theorem gB.ff(S:gB m C ds){e:Qw.cu}(a:e∈m.objs){k:Nat}(b:k<e.tries.length):∃K H w n,cv m.p (ci e.object k (e.tries.getD k 0)) (gg m C e.object k) K H w n:=by have h:=SP S.Pw (S.ents e a).2 (i:=k) (by rw[S.blocks a];exact b);unfold gg;rw[qj];exact h
theorem gB.sym(S:gB m C ds){e:Qw.cu}(v:e∈m.objs){k:Nat}(z:k<e.tries.length){s:Int}{x:Int×aL}(h:x∈kG m ds e.object k s):
  bW x.1=eX/\x.2=fV m.p.2.2.toNat (dw m.p (ci e.object k (e.tries.getD k 0)) (gg m C e.object k)) (dD (bN m.p).toNat (ci e.object k (e.tries.getD k 0)) x.1):=by
 obtain⟨d,r,n,q,c,g,rfl⟩:=Ji h;obtain⟨t,l,j⟩:=Aj q;obtain⟨o,A,y,w,u,_,i⟩:=jD.1 j;have f:y=e:=Pu S.may w v (by rw[u,c]);subst f;have hid:=((kO r).1 o).2.2.1;have a:bW r.id=eX:=by unfold bW;simp;omega
 have b:=(S.cells s d n _ t).tru r l j;unfold Cz at b;rw[c,g]at b;rw[c,g,qj]at i;refine⟨a,?_⟩;show r.data=_;rw[b,i];unfold uG;rw[g9 a]
theorem Jj{α β:Type}{f:α->β}:∀{l:List (α×β)},(∀x∈l,x.2=f x.1)->l=(l.map qt).map λi=>(i,f i)
 |[],_=>rfl
 |x::l,h=>by
  have a:=h x qM;have b:=Jj (l:=l) λy c=>h y (qD _ c);rw[zO,zO,<-b,<-a]
theorem gB.syms(S:gB m C ds){e:Qw.cu}(c:e∈m.objs){k:Nat}(f:k<e.tries.length)(cg:aB):
  eC m ds cg e.object k=lY m.p (ci e.object k (e.tries.getD k 0)) (dw m.p (ci e.object k (e.tries.getD k 0)) (gg m C e.object k)) ((eC m ds cg e.object k).map qt)/\∀i∈(eC m ds cg e.object k).map qt,bW i=eX:=by
 have b:∀x∈eC m ds cg e.object k,bW x.1=eX/\x.2=fV m.p.2.2.toNat (dw m.p (ci e.object k (e.tries.getD k 0)) (gg m C e.object k)) (dD (bN m.p).toNat (ci e.object k (e.tries.getD k 0)) x.1):=λx a=>by
  unfold eC at a;obtain⟨s,_,a⟩:=zE.1 a;exact S.sym c f a
 refine⟨Jj λx a=>(b x a).2,λi d=>?_⟩;obtain⟨x,a,rfl⟩:=qo.1 d;exact(b x a).1
theorem gB.jZ(S:gB m C ds){e:Qw.cu}(b:e∈m.objs){k:Nat}(d:k<e.tries.length):
  Qw.jZ m ds e.object e.tries k=if fR m.p (ci e.object k (e.tries.getD k 0)) (nF m ds e.object k)=eX then(gg m C e.object k,0)else([],9):=by
 obtain⟨K,H,w,n,B⟩:=S.ff b d;obtain⟨f,c⟩:=S.syms b d (aU ds m.drives);unfold Qw.jZ;rw[f];by_cases a:fR m.p (ci e.object k (e.tries.getD k 0)) (nF m ds e.object k)=eX
 ·rw[g9 a];exact B.dec c a
 ·rw[hU a];refine abk B.may (B.Pt c) ?_;rw[Hn];exact eq_false_of_ne_true a
theorem gB.AJ(S:gB m C ds){e:Qw.cu}(b:e∈m.objs):Qw.AJ m ds e=if Ku m ds e=eX then(C e.object,0)else([],11):=by
 have a:((qx e.tries.length).all λk=>decide ((Qw.jZ m ds e.object e.tries k).2=0))=(qx e.tries.length).all λk=>fR m.p (ci e.object k (e.tries.getD k 0)) (nF m ds e.object k):=by
  rw[yK,qJ,qJ];refine forall_congr' λk=>forall_congr' λg=>?_;rw[S.jZ b (qA.1 g)];cases fR m.p (ci e.object k (e.tries.getD k 0)) (nF m ds e.object k)with
  |true=>simp
  |false=>simp
 unfold Qw.AJ Ku;rw[a];cases hw:ro m ds with
 |false=>rw[g9 i4,Bool.false_and,hU i6]
 |true=>
  rw[hU i6,zX];cases hf:(qx e.tries.length).all λk=>fR m.p (ci e.object k (e.tries.getD k 0)) (nF m ds e.object k)with
  |false=>rw[hU i6,hU i6]
  |true=>
   rw[g9 i4,g9 rfl];have d:((qx e.tries.length).map λk=>(Qw.jZ m ds e.object e.tries k).1)=splitB m.p (C e.object):=by
    apply we
    ·simp[S.blocks b]
    ·intro k c f;rw[wh,List.getElem_range];simp only[qq,zt]at c;rw[S.jZ b c,g9 (qJ.1 hf k (qA.2 c))];unfold gg;rw[qj,gF _ f]
   rw[d,<-(S.ents e b).1,Vm S.Pw]
theorem gB.get(S:gB m C ds)(d:fH w offs=fz)(name:ByteArray):
  (∀e∈m.objs,e.name=name->nN m offs w ds name=if Ku m ds e=eX then(C e.object,0)else([],11))/\((∀e∈m.objs,e.name≠name)->nN m offs w ds name=([],5)):=by
 refine⟨λe b g=>?_,λc=>?_⟩
 ·have a:m.objs.find? (gm name)=dB e:=by
   cases a:m.objs.find? (gm name)with
   |none=>
    have:=wu.1 a e b;exact absurd (by unfold gm;rw[g];simp) this
   |some y=>
    have f:=xl a;have i:=wU a;rw[Ys S.may i b (by rw[g];exact BO (by unfold gm at f;simpa using f))]
  unfold nN;rw[d,hU i6,a];exact S.AJ b
 ·have a:m.objs.find? (gm name)=eH:=wu.2 λe b h=>c e b (BO (by unfold gm at h;simpa using h));unfold nN;rw[d,hU i6,a]
end
theorem Vn{o b:Int}{live:aB}(i:0<=o/\o<=16777215)(g:0<=b/\b<8)(c:live.Nodup)(d:∀k∈live,0<=k/\k<64):(ey o b live).Nodup/\(ey o b live).Perm live:=by
 have e:ey o b live=sf ((8*o+b)%64).toNat live:=by unfold ey;rw[g9 i5]
 rw[e];have f:=aaP ((8*o+b)%64).toNat live;refine⟨f,(List.perm_ext_iff_of_nodup f c).2 λa=>?_⟩;rw[Ey];exact⟨λh=>h.1,λh=>⟨h,d a h⟩⟩
theorem abn{a b:dm}(c:mF a b=eX)(d:mF b a=eX):mG a b=eX:=by unfold mF at c d;rw[decide_eq_true_eq]at c d;rw[nj];omega
theorem abo{a b c:dm}(h:mF a b=eX)(d:mG a c=eX):mF c b=eX:=by rw[nj]at d;unfold mF at h⊢;rw[decide_eq_true_eq]at h⊢;omega
theorem Vo{l:List dm}(h:l.Pairwise λa b=>mF a b=eX):(nK l).Pairwise λa b=>mG a b=fz:=by
 unfold nK;rw[List.pairwise_map];have g:((qx l.length).filter (nu l)).Pairwise (·<·):=(List.pairwise_lt_range (n:=i0 l)).filter _;refine g.imp_of_mem λ{i j} hi hj hlt=>?_;have c:=qA.1 (qF.1 hj).1;have d:=(qF.1 hj).2;rw[gF _ (show i<i0 l by omega),gF _ c];refine eq_false_of_ne_true λo=>?_;unfold nu at d;rw[hZ i5,Bool.false_or,wK,gF _ c,gF _ (show j-1<i0 l by omega)]at d;have f:=zj.1 h;have k:mF l[i] l[j-1]=eX:=by
  by_cases e:i=j-1
  ·subst e;unfold mF;rw[decide_eq_true_eq];omega
  ·exact f i (j-1) i5 i5 i5
 have m:mF l[j-1] l[j]=eX:=f (j-1) j i5 c i5;have:=abn (abo k o) m;rw[d]at this;cases this
theorem Rp(m:av)(l:bP):(ft m l).Pairwise λa b=>mG a b=fz:=Vo (List.pairwise_mergeSort NC.1 NC.2 _)
theorem CD{α:Type}[DecidableEq α]:∀{l m:List α},l.Nodup->(∀x∈l,x∈m)->i0 l<=i0 m
 |[],m,_,_=>Nat.zero_le _
 |x::l,m,h,hs=>by
  obtain⟨d,f⟩:=List.nodup_cons.1 h;have b:=hs x qM;have:=CD (l:=l) (m:=m.erase x) f λy c=>by
   have a:y≠x:=λe=>d (e▸c);exact(List.mem_erase_of_ne a).2 (hs y (qD _ c))
  rw[List.length_erase_of_mem b]at this;have:=List.length_pos_of_mem b;rw[ze];omega
section
variable {C:Int->aL} {w:Pow}
def Low(m:av)(ds:aE):Prop:=∀k d,aV ds k=dB d->∀c∈d.l,∀r,dO c=dB r->eW m r=eX->r.id<m.p.1+m.extra
structure Full (m:av) (C:Int->aL) (ds:aE):Prop where
 live:∀k∈m.drives,∃d,aV ds k=dB d/\d.lost=fz/\gI m d.l=eX
 all:∀e∈m.objs,∀i:Nat,i<e.tries.length->∀id:Nat,id<(m.p.1+m.extra).toNat->∃k∈m.drives,∃d,aV ds k=dB d/\cW (lV m e.object i (ci e.object i (e.tries.getD i 0)) (gg m C e.object i) id)∈d.l
theorem Full.aU(F:Full m C ds):Qw.aU ds m.drives=m.drives:=wx.2 λk c=>by
 obtain⟨d,a,b,_⟩:=F.live k c;unfold isLive;rw[a];simp[b]
theorem gB.agj(S:gB m C ds){e:Qw.cu}(a:e∈m.objs):e.tries.length<=8:=by obtain⟨_,_,h3,_,b⟩:=(fB m e).1 (S.entry a);have:=lX h3.2;omega
theorem gB.EQ(S:gB m C ds){e:Qw.cu}(a:e∈m.objs){i:Nat}(c:i<e.tries.length){id:Nat}(hid:id<=65535):iV (lV m e.object i (ci e.object i (e.tries.getD i 0)) (gg m C e.object i) id)=eX:=by obtain⟨K,H,w,n,B⟩:=S.ff a c;have h8:=S.agj a;have b:=((fB m e).1 (S.entry a)).2.1;have d:=((dn m).1 ((bM m).1 S.may).1).2.1;exact OU B ⟨b.1,i5⟩ ⟨i5,i5⟩ ⟨i5,i5⟩
theorem gB.counts(S:gB m C ds){e:Qw.cu}(a:e∈m.objs){i:Nat}(b:i<e.tries.length){id:Nat}(hid:id<=65535):eW m (lV m e.object i (ci e.object i (e.tries.getD i 0)) (gg m C e.object i) id)=eX:=
 jD.2 ⟨S.EQ a b hid,i4,e,a,i4,by show(i:Int)<_;omega,by show ci e.object i _=ci e.object (i:Int) (e.tries.getD (i:Int).toNat 0);rw[qj]⟩
theorem gB.Hp(S:gB m C ds){id:Nat}(h:id<(m.p.1+m.extra).toNat):id<=65535:=by obtain⟨_,_,a,b⟩:=(dn m).1 ((bM m).1 S.may).1;have:=(bT m.p).1 a;omega
theorem gB.agR(S:gB m C ds){e:Qw.cu}(a:e∈m.objs){i:Nat}(b:i<e.tries.length){id:Nat}(hid:id<=65535){k:Int}(h:k∈aU ds m.drives){d:aZ}(c:aV ds k=dB d)
  (f:cW (lV m e.object i (ci e.object i (e.tries.getD i 0)) (gg m C e.object i) id)∈d.l):(id:Int)∈nF m ds e.object i:=by
 have g:=Ho S.may (S.cells k d c) f (rR (S.EQ a b hid) (kS _ _ _)) (S.counts a b hid);unfold nF eC;refine qo.2 ⟨((id:Int),(lV m e.object i (ci e.object i (e.tries.getD i 0)) (gg m C e.object i) id).data),zE.2 ⟨k,h,?_⟩,i4⟩;unfold kG;rw[c];exact qo.2 ⟨_,qF.2 ⟨g,by simp[lV]⟩,i4⟩
theorem Yt{p:Pm}(a:bJ p=eX){i:Int}(h:i∈fe p):∃id:Nat,i=id/\(id:Int)<p.1:=by have:=(bT p).1 a;unfold fe upto at h;obtain⟨id,hid,rfl⟩:=qo.1 h;have:=qA.1 hid;exact⟨id,i4,i5⟩
theorem Full.can(F:Full m C ds)(S:gB m C ds)(f:m.drives≠[]){e:Qw.cu}(g:e∈m.objs):Ku m ds e=eX:=by
 unfold Ku;rw[qy];constructor
 ·unfold ro;rw[F.aU];obtain⟨k,c⟩:=List.exists_mem_of_ne_nil _ f;obtain⟨d,q,_,h3⟩:=F.live k c;exact wg.2 ⟨k,c,by unfold Jg;rw[q];exact h3⟩
 ·refine qJ.2 λi b=>?_;have b:=qA.1 b;obtain⟨K,H,w,n,B⟩:=S.ff g b;refine LJ B.may (ids:=fe m.p) (λj l=>?_) B.full;obtain⟨id,rfl,hid⟩:=Yt S.Pw l;have r:=((dn m).1 ((bM m).1 S.may).1).2.2.2;have a:id<(m.p.1+m.extra).toNat:=i5
  obtain⟨k,c,d,h,o⟩:=F.all e g i b id a;exact S.agR g b (S.Hp a) (by rw[F.aU];exact c) h o
theorem sh(m:av)(d:aZ)(N:Int):(de m d N).lost=d.lost/\(de m d N).room=d.room:=by unfold de;split<;>exact⟨i4,i4⟩
theorem AK{t:aB}{b:aL}{n:av}{k:Int}{d:aZ}(a:k∈aU ds m.drives):
  (Ak m ds t b n k d).lost=d.lost/\(Ak m ds t b n k d).room=d.room/\∃N,(Ak m ds t b n k d).l=(de m d N).l++((jM m m.next t (splitB m.p b) (aU ds m.drives) k (splitB m.p b).length).map cW++aM n):=by
 unfold Ak;rw[g9 a];refine⟨by rw[(nh _ _).1,(sh _ _ _).1],by rw[(nh _ _).2,(sh _ _ _).2],_,uL _ _⟩
theorem LK{n:av}(b:bf n=eX){l1 l2:bP}(h:∀c∈aM n,c∈l2):gI n (l1++l2)=eX:=by unfold gI;rw[b,zX];exact qJ.2 λc a=>hY (wb _ (h c a))
theorem Full.put(F:Full m C ds)(S:gB m C ds){name:ByteArray}{b:aL}{t:aB}{ds':aE}(K:dW m (fH w offs) ds name b.length=0)(J:cT m.p m.next (splitB m.p b).length=dB t)
  (L:gB (fi m ⟨name,m.next,b.length,t⟩) (lF C m.next b) ds') (g:∀k,aV ds' k=(aV ds k).map (Ak m ds t b (fi m ⟨name,m.next,b.length,t⟩) k)):Full (fi m ⟨name,m.next,b.length,t⟩) (lF C m.next b) ds':=by
 have a:=F.aU;obtain⟨P,Q,z3,z4,z5⟩:=na K;have B:m.drives≠[]:=by rw[<-a];exactλh=>z5 (.inl h)
 have s:m.next<=16777215:=by have:¬16777215<m.next:=λh=>z5 (.inr (.inl h));omega
 refine⟨λk j=>?_,λe l i q id hid=>?_⟩
 ·have j:k∈m.drives:=j;obtain⟨d,y,E,h3⟩:=F.live k j;obtain⟨u,G,N,r⟩:=AK (m:=m) (t:=t) (b:=b) (n:=fi m ⟨name,m.next,b.length,t⟩) (d:=d) (show k∈Qw.aU ds m.drives by rw[a];exact j);refine⟨_,by rw[g,y,qQ],by rw[u];exact E,?_⟩;rw[r];exact LK L.may λc v=>wb _ v
 ·have hid:id<(m.p.1+m.extra).toNat:=hid;rcases uK.1 l with l|rfl
  ·have O:=S.old l;obtain⟨k,j,d,D,v⟩:=F.all e l i q id hid;obtain⟨u,G,N,r⟩:=AK (m:=m) (t:=t) (b:=b) (n:=fi m ⟨name,m.next,b.length,t⟩) (d:=d) (show k∈Qw.aU ds m.drives by rw[a];exact j);refine⟨k,j,_,by rw[g,D,qQ],?_⟩;rw[r];have z:gg (fi m ⟨name,m.next,b.length,t⟩) (lF C m.next b) e.object i=gg m C e.object i:=CB i4 (by unfold lF;rw[hU i5]);rw[z];exact zR _ (Pv S.may (S.cells k d D) v (rR (S.EQ l q (S.Hp hid)) (kS _ _ _)) (S.counts l q (S.Hp hid)))
  ·have q:i<t.length:=q;have I:=jz J;have h8:=FH S.Pw λh=>z4 (.inl h);have x:=((dn m).1 ((bM m).1 S.may).1).2.1.1;have M:(0:Int)<=(i:Int)/\(i:Int)<8:=⟨i5,i5⟩
   have H:=Vn (o:=m.next) (b:=(i:Int)) (live:=m.drives) ⟨x,s⟩ M (po S.may) (iQ S.may);obtain⟨R,A⟩:=H;have one:ey m.next i m.drives≠[]:=λh=>by rw[h]at A;exact B (List.nil_perm.1 A)
   have f:jh (ey m.next i m.drives) id∈m.drives:=by rw[agb one];exact A.mem_iff.1 (qf _)
   obtain⟨d,y,E,h3⟩:=F.live _ f;obtain⟨u,G,N,r⟩:=AK (m:=m) (t:=t) (b:=b) (n:=fi m ⟨name,m.next,b.length,t⟩) (d:=d) (show jh (ey m.next i m.drives) id∈Qw.aU ds m.drives by rw[a];exact f);refine⟨_,f,_,by rw[g,y,qQ],?_⟩;rw[r];refine wb _ (zR _ (qo.2 ⟨_,?_,i4⟩));have z:gg (fi m ⟨name,m.next,b.length,t⟩) (lF C m.next b) m.next i=(splitB m.p b).getD i []:=by unfold gg lF;rw[g9 i4,qj];rfl
   show lV m m.next i (ci m.next i (t.getD i 0)) (gg (fi m ⟨name,m.next,b.length,t⟩) (lF C m.next b) m.next i) id∈_;rw[z,a];unfold jM;refine zE.2 ⟨i,qA.2 i5,?_⟩;unfold rn;exact qo.2 ⟨id,qF.2 ⟨qA.2 hid,hY i4⟩,i4⟩
end
variable {k:Kit} {a b:f8} {mc:aT} {da:List cj}
section
variable {pw:f8} {w:Pow} {d:aZ}
theorem aa.abp(ok:fG mc da ds)(F:n<64)(H:aa B h0 h (ac a k.tS (bQ mc pw offs (da.set n (dB b)))::bV k.tP pw w::(dq k pw da ds++(gG k.tD (k.f pw) b d::As)))):aa B h0 h (aY k a pw mc offs (da.set n (dB b)) w (ds.set n (dB d))::As):=by
 have q:=ok.la;have t:=ok.ls;have r:fG mc (da.set n (dB b)) (ds.set n (dB d)):=⟨ok.l8,by simp[q],by simp[t],λi=>by
  by_cases g:n=i
  ·subst g;rw[qd,qd,zk i5,zk i5];rfl
  ·have:=ok.same i;rw[qd,qd]at this⊢;rw[zF g,zF g];exact this⟩
 have s:=Cl (k:=k) (pw:=pw) ok;have l:dq k pw (da.set n (dB b)) (ds.set n (dB d))=(dq k pw da ds).set n (gG k.tD (k.f pw) b d):=by
  apply List.ext_getElem?;intro j;simp only[dq,qU,List.getElem?_zipWith,List.length_zipWith];by_cases o:n=j
  ·subst o;rw[g9 i4,g9 i5,g9 i4,g9 i5,g9 i4,g9 i5];rfl
  ·simp[o]
 refine aa.oJ r ?_;rw[l];obtain⟨L,p⟩:∃L,L=dq k pw da ds:=⟨_,rfl⟩
 rw[<-p]at H s⊢;have c:n<i0 L:=i5
 have H:=H.eJ (n+2) (A:=L[n]) (D:=emp) (by rw[qp,qp,qm c,qc c]) λ_ _=>trivial;have E:(ac a k.tS (bQ mc pw offs (da.set n (dB b)))::bV k.tP pw w::(L++(gG k.tD (k.f pw) b d::As))).set (n+2) emp=ac a k.tS (bQ mc pw offs (da.set n (dB b)))::bV k.tP pw w::(L.set n emp++(gG k.tD (k.f pw) b d::As)):=by rw[zw,zw,List.set_append_left _ _ c]
 rw[E]at H;have m:i0 (L.set n emp)=i0 L:=List.length_set;have u:=H.cons (i0 L+2) (A:=gG k.tD (k.f pw) b d) (by
  rw[qp,qp,qh i5,m,qW];rfl)
 have e:(ac a k.tS (bQ mc pw offs (da.set n (dB b)))::bV k.tP pw w::(L.set n emp++(gG k.tD (k.f pw) b d::As))).set (i0 L+2) emp=ac a k.tS (bQ mc pw offs (da.set n (dB b)))::bV k.tP pw w::(L.set n emp++(emp::As)):=by rw[zw,zw,qV _ _ i5,m,qW];rfl
 rw[e]at u;have x:=u.aO 3 [0,2,1];have v:aa B h0 h (gG k.tD (k.f pw) b d::bV k.tP pw w::ac a k.tS (bQ mc pw offs (da.set n (dB b)))::(L.set n emp++(emp::As))):=x;have y:=aa.FF n c v;have z:=aa.closeAll (ac a k.tS (bQ mc pw offs (da.set n (dB b)))::bV k.tP pw w::L.set n (gG k.tD (k.f pw) b d)) y;exact aa.lp (L:=ac a k.tS (bQ mc pw offs (da.set n (dB b)))::bV k.tP pw w::L.set n (gG k.tD (k.f pw) b d)) z.oV
end
end Go.Qw
