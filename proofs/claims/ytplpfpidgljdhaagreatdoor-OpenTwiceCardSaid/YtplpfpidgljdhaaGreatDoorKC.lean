/- Lemmas for the proof of the law; no condition. -/
import Derived.Test.YtplpfpidgljdhaaGreatDoorKB
set_option linter.unusedVariables false
set_option maxHeartbeats 4000000
set_option linter.unusedSimpArgs false
open Go.Proofs.Tryz renaming prog -> xQ
open List renaming drop -> xF, eq_replicate_iff -> xd, getElem?_zip_eq_some -> vD, getElem_append_right -> wW, length_eq_zero_iff -> vj, mem_filterMap -> yR, mem_iff_getElem? -> yU, mem_of_find?_eq_some -> yl, range -> qz, replicate -> qi, zipWith -> ze
open Option renaming some -> zQ
open Go.Value renaming agg -> xL, bool -> xK, int -> xG, pointer -> xI, slice -> xH, string -> xJ
open Go.IntKind renaming bits -> qG, i64 -> xM, u32 -> xO, u8 -> xN, wrap -> qe
open Nat renaming le_of_ble_eq_true -> zE
open Bool renaming and_eq_false_iff -> vu, eq_iff_iff -> yZ
open Go.Instr renaming makeSlice -> zw, storeAt -> qE
open BitVec renaming ofInt -> qK
open Prod renaming fst -> qq, snd -> zi
set_option maxRecDepth 100000
open Option renaming some -> dB, none -> ez
open Bool renaming true -> eH, false -> eL
open Go renaming Addr -> eX
open Go.Qw renaming cellOf -> f7, Heap -> f8
open List renaming length -> ii
namespace Go.Qw
open Go.Proofs
theorem Om{m:aA}{offs:Int}{w:Pow}{ds:aF}{n:aA}(r:w.calm)(p:ii ds=64)(G:fT w offs=eL)(s:bs n=eH)(F:n.seq=m.seq+1):
  let live:=bu ds n.drives;let N:Int->Int:=λ_=>(ii (aO n):Int)
  (live=[]∨fV m ds live N=eL->cI m offs w ds n=(7,m,w,ds))/\(live≠[]->fV m ds live N=eH->∃b,cI m offs w ds n=(0,n,w,b)/\b.length=64/\
   ∀k,aU b k=(aU ds k).map λd=>if k∈live then eu (aO n) (dR m d (aO n).length)else d):=by
 intro live N;have a:live.Nodup:=DP (si s);have e:cI m offs w ds n=(if live=[]∨fV m ds live N=eL then(7,m,w,ds)else
   if(makes m N live w ds).1≠0 then((makes m N live w ds).1,m,(makes m N live w ds).2)else
   ((layAll (bF n live) (makes m N live w ds).2.1 (makes m N live w ds).2.2).1,if(layAll (bF n live) (makes m N live w ds).2.1 (makes m N live w ds).2.2).1=0 then n else m,(layAll (bF n live) (makes m N live w ds).2.1 (makes m N live w ds).2.2).2)):=by
  unfold cI;rw[g0 (by rw[G];decide),g0 (by rw[s,hU (by simpa using F)];decide)]
 refine⟨λh=>by rw[e,f9 h],λo l=>?_⟩;rw[e,g0 (by rintro(h|h);exact o h;rw[l]at h;cases h)];obtain⟨u,H,D,q⟩:=BI r (N:=N) a p l;rw[H]
 try dsimp only
 rw[g0 i9];obtain⟨z,E,y,t⟩:=Ih r (ds:=u) (P:=bF n live) D λx v=>by
  obtain⟨c,g⟩:=kF v;obtain⟨A,i,j⟩:=pV (qY.1 l x.1 c);obtain⟨I,B,J⟩:=Ig j;refine⟨g,dR m A (N x.1),?_,I,?_⟩
  ·rw[q,i,qQ,f9 c]
  ·rw[ol a,f9 c,B];have:N x.1=(ii (aO n):Int):=rfl;omega
 rw[E];refine⟨z,i0,y,λk=>?_⟩;rw[t,q,Option.map_map];congr 1;funext d;show eu (kZ (bF n live) k) (if k∈live then dR m d (N k)else d)=_;rw[ol a];by_cases f:k∈live
 ·rw[f9 f,f9 f,f9 f]
 ·rw[g0 f,g0 f,g0 f];rfl
structure Pg where
 seq:Int
 num:Int
 many:Int
 bears:aP
 cell:aP
def On(x c:aP):Pg:=⟨dO (x.take 4),((x.getD 4 0).toNat:Int),((x.getD 5 0).toNat:Int),(x.drop 7).take (x.getD 6 0).toNat,c⟩
def ck(c:aP):Option Pg:=
 match eV c with
 |some (k,x)=>if k=2/\(x.getD 6 0).toNat<=48/\(x.drop (7+(x.getD 6 0).toNat)).all (λb=>decide (b=0))=eH then dB (On x c)else ez
 |none=>ez
def sP(f:Pg)(i:Int)(x:Pg):Bool:=decide (x.seq=f.seq/\x.many=f.many/\x.num=i)
def jz(l:List Pg)(f:Pg):Nat->Option (List Pg)
 |0=>dB [f]
 |n+1=>match jz l f n with
  |none=>ez
  |some out=>match l.find? (sP f ((n+1:Nat):Int))with
   |none=>ez
   |some x=>dB (out++[x])
def jW(l:List Pg)(f:Pg):Option (List Pg):=if f.many<=0 then ez else jz l f (f.many.toNat-1)
def lQ(s:List Pg):Option aA:=
 match ke (s.flatMap Pg.bears)with
 |none=>ez
 |some m=>if aO m=s.map Pg.cell then dB m else ez
def dK(a:List Pg)(out:List aA)(x:Pg):List aA:=
 if x.num≠0 then out else match jW a x with
 |none=>out
 |some s=>match lQ s with
  |none=>out
  |some m=>if out.any (λy=>decide (bJ y=bJ m))then out else out++[m]
def Oo(a:List Pg)(xs:List Pg):List aA:=xs.foldl (dK a) []
def Ik(a b:aA):Bool:=decide (b.seq<=a.seq)
def fA(l:bO):List aA:=(Oo (l.filterMap ck) (l.filterMap ck)).mergeSort Ik
theorem TY{seq c a:Int}{b:aP}(i:0<=seq/\seq<4294967296)(r:0<=c/\c<256)(h3:0<=a/\a<256)(q:ii b<=48):ck (jT seq c a b)=dB ⟨seq,c,a,b,jT seq c a b⟩:=by
 have l:ii (ce seq 4++([b8 c,b8 a,b8 b.length]++b))=7+ii b:=m0
 obtain⟨x,e⟩:∃x,x=ce seq 4++([b8 c,b8 a,b8 b.length]++b)++qi (55-ii (ce seq 4++([b8 c,b8 a,b8 b.length]++b))) 0:=⟨_,rfl⟩
 have o:eV (jT seq c a b)=dB (2,x):=by unfold jT;rw[CO,e]
 have d:=Hk seq;have f:x.getD 6 0=b8 b.length:=by rw[e,d];rfl
 have n:x.getD 5 0=b8 a:=by rw[e,d];rfl
 have k:x.getD 4 0=b8 c:=by rw[e,d];rfl
 have m:x.take 4=ce seq 4:=by rw[e,d];rfl
 have h:x.drop 7=b++qi (55-(7+ii b)) 0:=by rw[e,l,d];rfl
 have g:((b8 (ii b:Int)).toNat)=ii b:=by have:=tm (ii b:Int);omega
 unfold ck;rw[o]
 try dsimp only
 have j:(b8 (ii b:Int)).toNat<=48:=i4
 rw[f9 ⟨i0,by rw[f];exact j,by
  rw[f,g,<-wm,h,List.drop_left];exact qY.2 λy p=>g9 (List.eq_of_mem_replicate p)⟩]
 unfold On;rw[m,k,n,f,h,VD i.1 i.2,g,List.take_left];have:=tm c;have:=tm a;congr 2<;>omega
theorem Fu{c:aP}{g:Pg}(h:ck c=dB g):g.cell=c:=by
 unfold ck at h;split at h
 ·split at h
  ·injection h with h;rw[<-h];rfl
  ·cases h
 ·cases h
def nt(m:aA)(i:Nat):Pg:=⟨m.seq,i,dg (bJ m),((bJ m).drop (48*i)).take 48,jT m.seq i (dg (bJ m)) (((bJ m).drop (48*i)).take 48)⟩
theorem kp(m:aA):aO m=(qz (dg (bJ m))).map λi=>(nt m i).cell:=rfl
theorem adb{m:aA}(a:bs m=eH):dg (bJ m)<=9:=by
 have:=Qw.aff a;unfold aO at this
 rwa [qu,List.length_range]at this
theorem jl{m:aA}(a:bs m=eH){i:Nat}(b:i<dg (bJ m)):ck (nt m i).cell=dB (nt m i):=by have d:=adb a;have c:=((fp m).1 ((cY m).1 a).1).1;exact TY ⟨i4,i4⟩ ⟨i4,i4⟩ ⟨i4,i4⟩ i7
theorem Fv(b:aP):∀n,(qz n).flatMap (λi=>(b.drop (48*i)).take 48)=b.take (48*n)
 |0=>i9
 |n+1=>by
  rw[zV,qZ,Fv b n,List.flatMap_cons,List.flatMap_nil,qF,show 48*(n+1)=48*n+48 by omega,List.take_add]
theorem DQ(m:aA):((qz (dg (bJ m))).map (nt m)).flatMap Pg.bears=bJ m:=by
 have h:((qz (dg (bJ m))).map (nt m)).flatMap Pg.bears=(qz (dg (bJ m))).flatMap (λi=>((bJ m).drop (48*i)).take 48):=by rw[List.flatMap_map];rfl
 rw[h,Fv,qg (by unfold dg;omega)]
theorem Oq{m:aA}(a:bs m=eH):lQ ((qz (dg (bJ m))).map (nt m))=dB m:=by
 unfold lQ;rw[DQ,Bf.2 ⟨a,i0⟩]
 try dsimp only
 rw[f9 (by rw[kp,List.map_map];rfl)]
theorem Fw{s:List Pg}{m:aA}(h:lQ s=dB m):bs m=eH/\aO m=s.map Pg.cell:=by
 unfold lQ at h;split at h
 ·cases h
 ·rename_i c a;split at h
  ·rename_i b;injection h with h
   subst h;exact⟨(Bf.1 a).1,b⟩
  ·cases h
theorem Fx{l:List Pg}{f:Pg}:∀{n:Nat} {s:List Pg},jz l f n=dB s->∀x∈s,x=f∨x∈l
 |0,s,h,x,hx=>by
  unfold jz at h;injection h with h;subst h;exact .inl (qp.1 hx)
 |n+1,s,h,x,hx=>by
  unfold jz at h;split at h
  ·cases h
  ·rename_i out b;split at h
   ·cases h
   ·rename_i y a;injection h with h
    subst h;rcases qy.1 hx with hx|hx
    ·exact Fx b x hx
    ·rw[qp.1 hx];exact .inr (yl a)
theorem Qq{l:List Pg}{f:Pg}{s:List Pg}(h:jW l f=dB s)(b:f∈l):∀x∈s,x∈l:=by
 unfold jW at h;split at h
 ·cases h
 ·intro x a;rcases Fx h x a with rfl|h
  ·exact b
  ·exact h
theorem DR{a:List Pg}{out:List aA}{x:Pg}{m:aA}(h:m∈dK a out x):m∈out∨∃s,jW a x=dB s/\lQ s=dB m:=by
 unfold dK at h;split at h
 ·exact .inl h
 ·split at h
  ·exact .inl h
  ·rename_i s c;split at h
   ·exact .inl h
   ·rename_i d b;split at h
    ·exact .inl h
    ·rcases qy.1 h with h|h
     ·exact .inl h
     ·rw[qp.1 h];exact .inr ⟨s,c,b⟩
theorem DS{a:List Pg}{m:aA}:∀(xs:List Pg) (out:List aA),m∈xs.foldl (dK a) out->m∈out∨∃x∈xs,∃s,jW a x=dB s/\lQ s=dB m
 |[],out,h=>.inl h
 |x::xs,out,h=>by
  rcases DS xs _ h with h|⟨y,hy,s,hs⟩
  ·rcases DR h with h|⟨s,hs⟩
   ·exact .inl h
   ·exact .inr ⟨x,qP,s,hs⟩
  ·exact .inr ⟨y,qH _ hy,s,hs⟩
theorem Lu{a:List Pg}{out:List aA}{x:Pg}{m:aA}(h:m∈out):m∈dK a out x:=by
 unfold dK;split
 ·exact h
 ·split
  ·exact h
  ·split
   ·exact h
   ·split
    ·exact h
    ·exact List.mem_append_left _ h
theorem Cm{a:List Pg}{m:aA}:∀(xs:List Pg) {out:List aA},m∈out->m∈xs.foldl (dK a) out
 |[],_,h=>h
 |_::xs,_,h=>Cm xs (Lu h)
theorem KM{a b:aA}(f:bs a=eH)(e:bs b=eH)(h:bJ a=bJ b):a=b:=by
 have c:=Be f;have d:=Be e;rw[h,d]at c;injection c with c
 exact c.symm
theorem TZ{l:bO}{m:aA}(h:m∈Oo (l.filterMap ck) (l.filterMap ck)):bs m=eH/\∀c∈aO m,c∈l:=by
 rcases DS _ _ h with h|⟨x,hx,s,hs,hw⟩
 ·cases h
 ·obtain⟨e,d⟩:=Fw hw;refine⟨e,λc a=>?_⟩;rw[d]at a;obtain⟨g,f,rfl⟩:=qx.1 a;obtain⟨c,a,b⟩:=yR.1 (Qq hs hx g f);rw[Fu b];exact a
theorem Gp{l:bO}{m:aA}(h:m∈fA l):bs m=eH/\∀c∈aO m,c∈l:=TZ (wM.1 h)
theorem BL{m:aA}(a:bs m=eH):0<dg (bJ m):=by have:=Nb a;have:0<ii (bJ m):=List.length_pos_iff.2 this;unfold dg;omega
theorem KN{l:bO}{m:aA}(j:bs m=eH)(f:∀c∈l,∀g,ck c=dB g->g.seq=m.seq->c∈aO m){g:Pg}(d:g∈l.filterMap ck)(h:g.seq=m.seq):∃i,i<dg (bJ m)/\g=nt m i:=by
 obtain⟨c,e,a⟩:=yR.1 d;have:=f c e g a h;rw[kp]at this;obtain⟨i,b,rfl⟩:=qx.1 this;have b:=qC.1 b;rw[jl j b]at a;injection a with a
 exact⟨i,b,a.symm⟩
theorem Cn{l:bO}{m:aA}(d:bs m=eH)(f:∀c∈aO m,c∈l)(e:∀c∈l,∀g,ck c=dB g->g.seq=m.seq->c∈aO m):
  ∀n,n<dg (bJ m)->jz (l.filterMap ck) (nt m 0) n=dB ((qz (n+1)).map (nt m))
 |0,_=>rfl
 |n+1,hn=>by
  unfold jz;rw[Cn d f e n i4]
  try dsimp only
  have a:nt m (n+1)∈l.filterMap ck:=yR.2 ⟨_,f _ (by rw[kp];exact qx.2 ⟨n+1,qC.2 hn,i0⟩),jl d hn⟩;cases hf:(l.filterMap ck).find? (sP (nt m 0) ((n+1:Nat):Int))with
  |none=>
   exfalso;have:=List.find?_eq_none.1 hf _ a;exact this (g9 ⟨i0,i0,i0⟩)
  |some x=>
   have j:=List.find?_some hf;have h:=yl hf;obtain⟨o,q,k⟩:=hZ j;obtain⟨i,p,rfl⟩:=KN d e h o;have b:i=n+1:=vI.1 k;subst b
   try dsimp only
   rw[zV (n:=n+1),qM];rfl
theorem Ot{l:bO}{m:aA}(e:bs m=eH)(n:∀c∈aO m,c∈l)(q:∀c∈l,∀g,ck c=dB g->g.seq=m.seq->c∈aO m):m∈fA l:=by
 have k:=BL e;unfold fA;rw[wM];have p:jW (l.filterMap ck) (nt m 0)=dB ((qz (dg (bJ m))).map (nt m)):=by unfold jW;have i:(nt m 0).many=((dg (bJ m):Nat):Int):=rfl;rw[i,g0 (show¬((dg (bJ m):Nat):Int)<=0 by omega),qk];have:=Cn e n q (dg (bJ m)-1) i4;rw[show dg (bJ m)-1+1=dg (bJ m)by omega]at this;exact this
 have b:nt m 0∈l.filterMap ck:=yR.2 ⟨_,n _ (by rw[kp];exact qx.2 ⟨0,qC.2 k,i0⟩),jl e k⟩;obtain⟨a,f⟩:∃a,a=l.filterMap ck:=⟨_,rfl⟩
 rw[<-f]at p b⊢;have j:∀(xs:List Pg) (out:List aA),(∀y∈out,bs y=eH)->nt m 0∈xs->m∈xs.foldl (dK a) out:=by
  intro xs
  induction xs with
  |nil=>intro out _ h;cases h
  |cons x xs ih=>
   intro out o h;rw[zx];rcases qV.1 h with rfl|h
   ·refine Cm xs ?_;unfold dK;rw[g0 (show¬(nt m 0).num≠0 fromλh=>h i0),p]
    try dsimp only
    rw[Oq e]
    try dsimp only
    split
    ·rename_i t;obtain⟨y,d,r⟩:=wq.1 t;rw[KM e (o y d) (hZ r).symm];exact d
    ·exact List.mem_append_right _ (qp.2 i0)
   ·refine ih _ (λy d=>?_) h;rcases DR d with d|⟨s,_,hw⟩
    ·exact o y d
    ·exact(Fw hw).1
 exact j a [] i9 b
theorem KO{l:bO}{m b:aA}(n:bs m=eH)(r:∀c∈l,∀g,ck c=dB g->g.seq=m.seq->c∈aO m)(h:b∈fA l)(t:b.seq=m.seq):b=m:=by
 obtain⟨f,p⟩:=Gp h;have d:∀i,i<dg (bJ b)->i<dg (bJ m)/\nt b i=nt m i:=λi e=>by
  have s:(nt b i).cell∈aO b:=by rw[kp];exact qx.2 ⟨i,qC.2 e,i0⟩
  obtain⟨j,q,k⟩:=KN (l:=l) n r (yR.2 ⟨_,p _ s,jl f e⟩) t;have:i=j:=vI.1 (congrArg Pg.num k);subst this;exact⟨q,k⟩
 have o:=BL f;have a:dg (bJ b)=dg (bJ m):=vI.1 (congrArg Pg.many (d 0 o).2);refine KM f n ?_;rw[<-DQ b,<-DQ m,a];congr 1;exact List.map_congr_left λi e=>(d i (by rw[a];exact qC.1 e)).2
def gH(o:Option aA)(x:aA):Option aA:=match o with
 |none=>dB x
 |some m=>if m.seq<x.seq then dB x else dB m
def fW(d:Option aY):List aA:=match d with
 |none=>[]
 |some d=>if d.lost then[]else fA d.l
def gI(ds:aF):Option aA:=(ds.flatMap fW).foldl gH ez
theorem BM:∀(l:List aA) (o:Option aA),((l.foldl gH o=ez↔l=[]/\o=ez))/\∀m,l.foldl gH o=dB m->(dB m=o∨m∈l)/\(∀x∈l,x.seq<=m.seq)/\∀x,o=dB x->x.seq<=m.seq
 |[],o=>⟨i9,λm h=>⟨.inl h.symm,i9,λx a=>by rw[yy,a]at h;injection h with h;rw[h];exact Int.le_refl _⟩⟩
 |y::l,o=>by
  obtain⟨d,f⟩:=BM l (gH o y);rw[zx];have g:gH o y≠ez:=by unfold gH;cases o with|none=>simp|some m=>dsimp only;split<;>simp
  refine⟨⟨λh=>absurd (d.1 h).2 g,λh=>by cases h.1⟩,λm h=>?_⟩;obtain⟨b,c,a3⟩:=f m h;cases o with
  |none=>
   have e:gH ez y=dB y:=rfl;rw[e]at b a3;refine⟨.inr ?_,λx a=>?_,λx a=>t8⟩
   ·rcases b with b|b
    ·injection b with b;rw[b];exact qP
    ·exact qH _ b
   ·rcases qV.1 a with rfl|a
    ·exact a3 _ i0
    ·exact c x a
  |some z=>
   by_cases i:z.seq<y.seq
   ·have e:gH (dB z) y=dB y:=by unfold gH;(try dsimp only);rw[f9 i]
    rw[e]at b a3;have:=a3 y i0;refine⟨.inr ?_,λx a=>?_,λx a=>by injection a with a;subst a;omega⟩
    ·rcases b with b|b
     ·injection b with b;rw[b];exact qP
     ·exact qH _ b
    ·rcases qV.1 a with rfl|a
     ·exact this
     ·exact c x a
   ·have e:gH (dB z) y=dB z:=by unfold gH;(try dsimp only);rw[g0 i]
    rw[e]at b a3;have:=a3 z i0;refine⟨?_,λx a=>?_,λx a=>by injection a with a;subst a;omega⟩
    ·rcases b with b|b
     ·exact .inl b
     ·exact .inr (qH _ b)
    ·rcases qV.1 a with rfl|a
     ·omega
     ·exact c x a
theorem Xf{ds:aF}{m:aA}{d:aY}(r:dB d∈ds)(k:d.lost=eL)(p:m∈fA d.l)(e:∀c,dB c∈ds->c.lost=eL->∀x∈fA c.l,x.seq<m.seq∨x=m):gI ds=dB m:=by
 have b:m∈ds.flatMap fW:=zM.2 ⟨_,r,by unfold fW;(try dsimp only);rw[k];exact p⟩;have f:∀x∈ds.flatMap fW,x.seq<m.seq∨x=m:=λx f=>by
  obtain⟨o,n,a⟩:=zM.1 f;cases o with
  |none=>cases a
  |some c=>
   unfold fW at a;dsimp only at a;cases hl':c.lost with
   |true=>rw[hl']at a;cases a
   |false=>rw[hl']at a;exact e c n hl' x a
 obtain⟨q,i⟩:=BM (ds.flatMap fW) ez;cases hf:gI ds with
 |none=>rw[(q.1 hf).1]at b;cases b
 |some y=>
  obtain⟨j,g,_⟩:=i y hf;have s:y∈ds.flatMap fW:=j.resolve_left i9;rcases f y s with h|h
  ·have:=g m b;omega
  ·rw[h]
theorem JE(s:Sl)(l:Row)(c:UInt8)(h:f8)(q:Rd h s 1 aw l)(z:s.len<=s.cap)(w:ii l<=2^30):
  an xQ 262 #[s,xG xN c.toNat] h λv h'=>∃k:Nat,v=xH s.ptr k s.cap/\k<=ii l/\(∀j (f:j<ii l),k<=j->l[j]=c)/\(∀(d:k-1<ii l),0<k->l[k-1]≠c)/\h'=h:=by
 refine ts Tryz.func262 ?_ (.two .n (.two (.join [(0,cK)] [(0,1),(5,23)] (.inn (.loop [(0,cK)] [(0,1),(5,23)] (.two (.join [] [(5,18)] .n) .n)))) .n));have m:=q.len;refine aT ?_;refine aq (λk:Nat=>(⟨s.ptr,k,s.cap⟩:Sl)) (λk h'=>h'=h/\k<=ii l/\∀j (f:j<ii l),k<=j->l[j]=c) (λk=>k) l.length (by rw[<-m]) ⟨i0,qm _,λj f d=>i4⟩ ?_;rintro k y ⟨rfl,d,b⟩
 try dsimp only
 refine aT (ag (λe=>?_) λe=>?_)
 ·have t:0<k:=i4
  rw[ai _];refine(q.take k d).bt (g:=λx:UInt8=>Value.int .u8 x.toNat) (k-1) i4 i7 (l[k-1]'(by omega)) (by simp[aw]) ?_|>λ⟨a,ha,x,hx,hK⟩=>⟨a,ha,x.toNat,hx,hK⟩
  refine cv (λp=>?_) (λp=>?_)
  ·have o:l[k-1]'(by omega)=c:=by
    have:(l[k-1]'(by omega)).toNat=c.toNat:=by exact_mod_cast p
    exact wy.1 this
   refine⟨⟨i4,i4⟩,k-1,by congr 1;omega,⟨i0,i4,λj f r=>?_⟩,i4⟩;by_cases i:j=k-1
   ·subst i;exact o
   ·exact b j f i4
  ·refine⟨k,i0,d,b,λ_ _ u=>p (by rw[u]),i0⟩
 ·exact⟨k,i0,d,b,λ_ h0=>i4,i0⟩
theorem Lv(s:Sl)(l:Row)(c:UInt8)(h:f8)(q:Rd h s 1 aw l)(A:s.len<=s.cap)(E:ii l<=2^30):
  an xQ 261 #[s,xG xN c.toNat] h λv h'=>(∃r:Sl,v=r/\(r.len=0↔∀x∈l,x=c))/\h'=h:=by
 refine ts Tryz.func261 ?_ (.two .n (.two (.join [(0,cK)] [(0,1),(5,17)] (.inn (.loop [(0,cK)] [(0,1),(5,17)] (.two (.join [] [(5,15)] .n) .n)))) .n));have w:=q.len;refine bG (λr h'=>h'=h/\(r.len=0↔∀x∈l,x=c)) ?_ ?_
 ·refine aq (λt:Sl×Nat=>t.1) (λt h'=>h'=h/\t.2<=ii l/\(∀j (d:j<ii l),j<t.2->l[j]=c)/\Rd h t.1 1 aw (l.drop t.2)/\t.1.len<=t.1.cap) (λt=>ii l-t.2) (s,0) i0 ⟨i0,i9,λj _ d=>i4,o7,A⟩ ?_;rintro⟨r,k⟩ z ⟨rfl,F,a,b,p⟩;dsimp only at*;have f:=b.len;rw[za]at f;refine aT (ag (λe=>?_) λe=>?_)
  ·have g:k<ii l:=i4
   refine b.bt 0 i0 mn _ i0 ?_;have B:(l.drop k)[0]'(by rw[za];omega)=l[k]:=i9
   rw[B];refine cv (λo=>?_) (λo=>?_)
   ·have m:l[k]=c:=by
     have:(l[k]).toNat=c.toNat:=by exact_mod_cast o
     exact wy.1 this
    refine⟨⟨i4,i4⟩,(⟨if r.cap=1 then r.ptr else r.ptr.map (·.add (1*1)),r.len-1,r.cap-1⟩,k+1),i0,⟨i0,i4,λj d i=>?_,?_,i6⟩,i6⟩
    ·rcases zk.1 i with h2|rfl
     ·exact a j d h2
     ·exact m
    ·have:=b.drop 1 p;rw[wm]at this;exact this
   ·refine⟨i0,⟨λh0=>i4,λy=>absurd ?_ o⟩⟩;rw[y _ (qf g)]
  ·have D:k=ii l:=i4
   refine⟨i0,⟨λ_ x u=>?_,λ_=>by show r.len=0;omega⟩⟩;obtain⟨j,d,rfl⟩:=qD u;exact a j d i4
 ·rintro r z ⟨rfl,b⟩;refine cv (λe=>?_) (λe=>?_)
  ·exact⟨⟨⟨ez,0,0⟩,i0,by rw[<-b];exact⟨λ_=>i4,λ_=>rfl⟩⟩,i0⟩
  ·exact⟨⟨r,i0,b⟩,i0⟩
theorem DT(s:Sl)(l:Row)(cut:ByteArray)(b:cut=⟨#[0]⟩)(h:f8)(d:Rd h s 1 aw l)(q:s.len<=s.cap)(m:ii l<=2^30):
  an xQ 199 #[s,xJ cut] h λv h'=>(∃r:Sl,v=r/\(r.len=0↔∀x∈l,x=0))/\h'=h:=by
 subst b;refine ts Tryz.func199 ?_ (.two .n (.two .n (.two .n (.two (.join [] [(4,5),(13,28)] .n) .n)))) [(6,(.l [0,1,2,4,5,3,6,7]))];have i:=d.len;refine cv (λe=>?_) (λe=>?_)
 ·refine⟨⟨⟨ez,0,0⟩,i0,⟨λ_ x a=>?_,λ_=>rfl⟩⟩,i0⟩;have:l=[]:=List.eq_nil_of_length_eq_zero i4;subst this;cases a
 ·refine sV j5 (aT (CB j5 ?_));refine⟨0,⟨i5,i0⟩,CB i5 ?_⟩;refine⟨0,⟨i5,i0⟩,0,⟨i5,i0⟩,?_⟩;refine(JE s l 0 h d q m).mono ?_;rintro v p ⟨k,rfl,t,f,h3,rfl⟩;refine⟨⟨s.ptr,k,s.cap⟩,i0,trivial,?_⟩;refine(Lv ⟨s.ptr,k,s.cap⟩ (l.take k) 0 p (d.take k t) (by show k<=s.cap;omega) i7).mono ?_;rintro v w ⟨⟨r,rfl,u⟩,rfl⟩;refine⟨r,i0,trivial,⟨r,i0,u.trans ⟨λc x a=>?_,λc x a=>c x (zA a)⟩⟩,i0⟩;obtain⟨j,g,rfl⟩:=qD a;by_cases o:j<k
  ·exact c _ (by rw[List.mem_take_iff_getElem];exact⟨j,i4,i0⟩)
  ·exact f j g i4
def qv(x:Sl×Sl):aR:=[x.1,x.2]
theorem Xg:∀x,∀c∈qv x,c.oneCell'=eH:=λx c a=>by
 simp only[qv,qV,yt,or_false]at a;rcases a with rfl|rfl<;>rfl
def jm:iy (Sl×Sl) fe:=⟨λh q a e=>Seq h q a.1 1 ak e.1/\Seq h q a.2 1 aw e.2,λa b=>⟨a.1.af b,a.2.af b⟩,λa c=>⟨a.1.mono c,a.2.mono c⟩⟩
abbrev oW:iy Sl (List fe):=bv jm 2 qv
abbrev afU:iy Sl aI:=bv (rC 1 aw) 1 aX
abbrev eQ:bI C.toAi 256 258 2 [xH ez 0 0,xH ez 0 0] 48:=⟨_,_,i0,i0,i0,i0,i0,i0⟩
abbrev Xh:bI C.toAi 43 58 1 [xH ez 0 0] 24:=⟨_,_,i0,i0,i0,i0,i0,i0⟩
abbrev abY:bI C.toAi 265 4 1 [xK eL] 1:=⟨_,_,i0,i0,i0,i0,i0,i0⟩
theorem oW.get{h:f8}{q:av}{s:Sl}{L:List fe}(x:oW.p h q s L){i:Int}(n:Nat)(d:i=n)(b:n<ii L){K:Sl×Sl->Prop}(e:∀r,jm.p h q r L[n]->K r):
  ∃a:eX,(s.ptr=dB a/\0<=i/\i<((s.len:Nat):Int))/\∃x:Sl×Sl,bp h (a.add (i.toNat*2)) 0 [x.1,x.2]/\K x:=by
 obtain⟨rs,c,f,h3⟩:=bv.jZ x;exact c.cX (g:=qv) n d i4 (rs[n]'(by omega)) i0 (e _ (h3 n i4 b))
structure ud (h:f8) (p:eX) (l k v:Sl) (L:List fe) (kn:List Bool) (vs:aI):Prop where
 box:bW h p 332 [l,k,v]
 eqs:dM oW h l L
 known:Rd h k 1 eO kn
 vals:dM afU h v vs
theorem ud.up{h h':f8}{p:eX}{l k v:Sl}{L:List fe}{kn:List Bool}{vs:aI}(x:ud h p l k v L kn vs)(a:aN (λb=>b<h.size) h h'):ud h' p l k v L kn vs:=
 ⟨x.box.af a x.box.lt,dM.up x.eqs a,Seq.up x.known a,dM.up x.vals a⟩
theorem Ou{kn:List Bool}{c:Int}(b:0<=c)(a:c.toNat<ii kn):Qw.kn kn c=kn[c.toNat]:=by unfold Qw.kn;rw[qd,qc a];rfl
theorem lX{m:aI}{i:Nat}(h:i<ii m):aC m i=m[i]:=bE h
theorem jw{α:Type}(f:α->Bool)(l:List α){k:Nat}(a:k<ii l):(l.take (k+1)).filter f=(l.take k).filter f++if f l[k]then[l[k]]else[]:=by rw[aD _ _ a,zl,zq];cases f l[k]<;>rfl
theorem rv(V:aI)(a:Row)(l:aB)(c:Int):cM V a (l++[c])=cO 1 (aC V c.toNat) (cM V a l):=by unfold cM;rw[zB];rfl
theorem Sa(a t:Row):cO 1 a t=ze (λx y=>y^^^x) a t:=by unfold cO;congr 1;funext x y;rw[Gf.one_mul]
theorem DU{a t:Row}(c:ii a=ii t){k:Nat}(b:k<ii t:=by omega):(ze (λx y=>y^^^x) (a.take k) (t.take k)++t.drop k).set k (t[k]^^^(a[k]'(by omega)))=ze (λx y=>y^^^x) (a.take (k+1)) (t.take (k+1))++t.drop (k+1):=by
 have d:ii (ze (λx y=>y^^^x) (a.take k) (t.take k))=k:=i7
 rw[qS _ _ i4,d,qW,qJ b,zr,aD _ _ b,aD _ _ (show k<ii a by omega),List.zipWith_append i7];simp
theorem Ov(p:eX)(l k v:Sl)(L:List fe)(kn:List Bool)(vs:aI)(n:Nat)(h:f8)(t:ud h p l k v L kn vs)(I:ii kn=n)(Q:∀e∈L,∀c∈e.1,0<=c/\c<(n:Int))(T:ii L<=2^30)(D:∀e∈L,ii e.1<=2^30):
  an xQ 309 #[xI (dB p)] h λv h'=>(∃i:Int,v=xG xM i/\(0<=i->∃(P:i.toNat<ii L),ii ((L[i.toNat]).1.filter λc=>!Qw.kn kn c)=1))/\Sp h h' []:=by
 refine ts Tryz.func309 ?_ (.two .n (.two (.two .n (.inn (.loop [(13,aS)] [(2,6),(7,8),(13,40)] (.two .n (.two .n (.two (.inn (.two .n (.two .n (.two (.two .n (.inn (.loop [(5,aS),(21,aS)] [(5,6),(7,8),(21,36)] .n))) .n)))) .n)))))) .n));have J:=bv.len t.eqs;refine⟨p,i0,l,t.box.cell0 i0,?_⟩;refine aq (λi:Nat=>(i:Int)) (λi h'=>i<=ii L/\Sp h h' []) (λi=>ii L-i) 0 i0 ⟨i4,Sp.refl h⟩ ?_;rintro i N ⟨P,A⟩;refine ag (λe=>?_) λe=>⟨⟨-1,i0,λV=>i4⟩,A⟩;have g:i<ii L:=i4
 refine oW.get (dM.up t.eqs A.af) i i0 g λx F=>?_;refine(Sp.refl N).alloc aj i0 λa S G=>?_;refine G.storeAll aj 0 i0 i0 (qv x) i0 i0 i0 i0 λh3 u=>?_;have z:=up A.af u.af;have q:=t.up z;have r:=jm.mono (jm.loc F u.af) λb H=>qT H u.af.1;have y:=u.box 0 i0;refine⟨x.1,y.cell0 i0,?_⟩;have M:=r.1.len;have E:=D _ (qf g);let d:Nat->Nat:=λj=>ii (((L[i]).1.take j).filter λc=>!Qw.kn kn c);refine aq (λj:Nat=>(((d j:Nat):Int),(j:Int))) (λj h'=>h'=h3/\j<=(L[i]).1.length) (λj=>(L[i]).1.length-j) 0 p7 ⟨i0,i4⟩ ?_;rintro j R ⟨rfl,U⟩
 try dsimp only
 have K:d j<=j:=q9 (qR _ _) i7;refine ag (λO=>?_) (λO=>?_)
 ·have f:j<(L[i]).1.length:=i4
  have w:=Q _ (qf g) _ (qf f);refine r.1.bt j i0 f _ i0 ?_;refine⟨p,i0,k,q.box.cell i0,?_⟩;refine q.known.bt (L[i]).1[j].toNat i4 i4 _ i0 ?_;rw[ai ((j:Int)+1),ai _];have o:=Ou (kn:=kn) w.1 i4;refine aQ (λm=>?_) (λm=>?_)
  ·refine⟨j+1,?_,⟨i0,i4⟩,i4⟩;have:d (j+1)=d j+1:=by simp only[d];rw[jw _ _ f,o,m];simp
   rw[this];rfl
  ·refine⟨j+1,?_,⟨i0,i4⟩,i4⟩;have:d (j+1)=d j:=by simp only[d];rw[jw _ _ f,o,m];simp
   rw[this];rfl
 ·have B:j=(L[i]).1.length:=i4
  subst B;have s:d (L[i]).1.length=ii ((L[i]).1.filter λc=>!Qw.kn kn c):=by simp only[d];rw[qN]
  rw[s];refine cv (λm=>⟨⟨i,i0,λ_=>⟨i4,by exact_mod_cast m⟩⟩,.zip z⟩) λm=>?_;exact⟨i+1,j0,⟨i4,.zip z⟩,i4⟩
theorem KP(p:eX)(l k v:Sl)(L:List fe)(kn:List Bool)(vs:aI)(n w:Nat)(x:Sl×Sl)(e:fe)(h:f8)(Z:ud h p l k v L kn vs)(K:jH n w L kn vs)(Q:dM jm h x e)(G:iM n w e)(hw:w<=2^20)(am:ii e.1<=2^20):
  an xQ 253 #[xI (dB p),xL #[x.1,x.2]] h λr h'=>∃a b:Sl,r=xL #[a,b]/\Sp h h' [ae 3 a 1 ak (fh kn vs e).1,ae 5 b 1 aw (fh kn vs e).2]:=by
 refine ts Tryz.func253 ?_ (.two .n (.two .n (.two (.two .n (.inn (.loop [(17,aS)] [(7,10),(17,58)] (.two .n (.two .n (.two (.inn (.two .n (.two .n (.two .n (.inn (.loop [(43,aS)] [(8,10),(43,57)] .n)))))) .n)))))) .n))) (args:=[(dB p),x]);refine(Sp.refl h).boxed λT h1 H1=>?_;refine H1.alloc aj i0 λS h2 R=>?_;have P2:=R.af;refine⟨x.2,(R.box 0 i0).cell i0,(eI x.2 e.2 h2 (Seq.up Q.2 P2) (by have:=G.len;omega)).mono ?_⟩;rintro vv h3 ⟨d,rfl,R3⟩;have H3:=R.comp R3;refine⟨d,i0,H3.alloc aj i0 λa5 h4 H4=>?_⟩;refine H4.storeAll aj 3 i0 i0 (qv (⟨ez,0,0⟩,d)) i0 i0 i0 i0 λh5 H5=>?_;have H6:Sp h h5 [ac T 258 (qv x),ac S 258 [xH ez 0 0,xH ez 0 0],ae 5 d 1 aw e.2,ac a5 258 (qv (⟨ez,0,0⟩,d)),ae 3 ⟨ez,0,0⟩ 1 ak []]:=H5.nil 3 1 ak;refine⟨x.1,(H6.box 0 i0).cell0 i0,?_⟩;have ad:=Q.1.len;have al:=K.klen;have ah:=K.vlen;refine aq (λt:Nat×Sl=>(t.1:Int)) (λt h'=>t.1<=ii e.1/\Sp h h' [ac T 258 (qv x),ac S 258 [xH ez 0 0,xH ez 0 0],ae 5 d 1 aw (cM vs e.2 ((e.1.take t.1).filter λc=>Qw.kn kn c)),ac a5 258 (qv (t.2,d)),ae 3 t.2 1 ak ((e.1.take t.1).filter λc=>!Qw.kn kn c)]) (λt=>ii e.1-t.1) (0,⟨ez,0,0⟩) i0 ⟨i9,by simpa[cM]using H6⟩ ?_;rintro⟨j,o⟩ h7 ⟨hj,q⟩;dsimp only at*;have u:ii (cM vs e.2 ((e.1.take j).filter λc=>Qw.kn kn c))=w:=jG G.len λc hc=>by
  have I:=qI.1 hc;have E:=zA I.1;exact K.Dc (G.cS c E).1 (G.cS c E).2 I.2
 have ab:ii ((e.1.take j).filter λc=>!Qw.kn kn c)<=j:=q9 (qR _ _) i7;refine ag (λe2=>?_) (λe2=>?_)
 ·have f:j<ii e.1:=i4
  have z:=G.cS _ (qf f);have s:=Z.up q.af;refine(Seq.up Q.1 q.af).bt j i0 f _ i0 ?_;refine⟨p,i0,k,s.box.cell i0,?_⟩;refine s.known.bt (e.1[j]).toNat i4 i4 _ i0 ?_;have J:=Ou (kn:=kn) z.1 i4;refine aQ (λB=>?_) (λB=>?_)
  ·rw[<-J]at B;refine⟨o,(q.box 3 i0).cell0 i0,?_⟩;refine q.push aj 4 i0 fR i0 i5 (λ_=>rfl) eC e.1[j] i0 i5 i4 λY h8 i=>?_;refine i.ja aj 3 i0 i0 [Y] i0 i0 i0 (by simp[qv]) λh9 N=>?_;refine⟨(j+1,Y),jj,⟨i6,?_⟩,i6⟩
   try dsimp only
   rw[jw _ _ f,jw _ _ f,B];simp only[Bool.not_false,if_true,zf,if_false,qF];exact N
  ·rw[<-J]at B;have F:=K.Dc z.1 z.2 B;rw[lX i4]at F;refine⟨p,i0,v,s.box.cell i0,?_⟩;obtain⟨vr,U,ap,X⟩:=bv.jZ Z.vals;have g:(e.1[j]).toNat<ii vs:=i4
   refine(Seq.up U q.af).lY (e.1[j]).toNat i4 i4 ?_;have M:=(X (e.1[j]).toNat i4 g).1;have H:=M.len;generalize vr[(e.1[j]).toNat]'(by omega)=y at M H⊢;obtain⟨A,hA⟩:∃A,A=vs[(e.1[j]).toNat]'g:=⟨_,rfl⟩
   obtain⟨D,hD⟩:∃D,D=cM vs e.2 ((e.1.take j).filter λc=>Qw.kn kn c):=⟨_,rfl⟩
   rw[<-hA]at F M H;rw[<-hD]at q u;refine aq (λm:Nat=>(m:Int)) (λm h'=>m<=w/\Sp h h' [ac T 258 (qv x),ac S 258 [xH ez 0 0,xH ez 0 0],ae 5 d 1 aw (ze (λx y=>y^^^x) (A.take m) (D.take m)++D.drop m),ac a5 258 (qv (o,d)),ae 3 o 1 ak ((e.1.take j).filter λc=>!Qw.kn kn c)]) (λm=>w-m) 0 i0 ⟨i4,o7⟩ ?_;rintro m h8 ⟨hm,i⟩;have W:ii (ze (λx y=>y^^^x) (A.take m) (D.take m))=m:=i7
   refine ag (λe4=>?_) (λe4=>?_)
   ·have ao:m<w:=i4
    refine(Seq.up M i.af).bt m i0 i4 _ i0 ?_;refine⟨d,(i.box 3 i0).cell i0,?_⟩;refine(i.seq 2 i0 λ_=>rfl).bt m i0 i7 _ i0 ?_;have P:((ze (λx y=>y^^^x) (A.take m) (D.take m)++D.drop m)[m]'(by simp;omega))=D[m]'(by omega):=by rw[wW i4];simp[W]
    rw[P,mE];refine i.set aj 2 i0 (λ_=>rfl) i0 m i0 i7 (D[m]'(by omega)^^^A[m]'(by omega)) i0 i0 i0 λh9 N=>?_;rw[DU i4]at N;exact⟨m+1,j0,⟨i4,N⟩,i4⟩
   ·have O:m=w:=i4
    subst O;refine⟨(j+1,o),jj,⟨i6,?_⟩,i6⟩
    try dsimp only
    rw[jw _ _ f,jw _ _ f,B];simp only[Bool.not_true,if_true,zf,if_false,qF];rw[rv,lX g,<-hA,<-hD,Sa];rw[qg i4,qg i4,zd i4,qF]at i;exact i
 ·have V:j=ii e.1:=i4
  subst V;rw[qN]at q;refine⟨(o,d),(q.box 3 i0).aE _ i0,?_⟩;refine q.storeAll aj 1 i0 i0 (qv (o,d)) i0 i0 i0 i0 λh8 i=>?_;refine⟨(o,d),(i.box 1 i0).aE _ i0,o,d,i0,?_⟩;exact i.bB [4,2]
theorem aa.ags{B:av}{c h:f8}{As:List HP}{e k:Nat}{α:Type}{f:α->aR}{s:Sl}{l:List α}(H:aa B c h As)(i:Nat)(m:As[i]?=dB (ae e s k f l))(d:∀x,ii (f x)=k)(g:l≠[]):aa B c h (As.set i (EA (rC k f) s l)):=
 H.dX i m λq ⟨a,b⟩=>⟨a.seq d b,λj=>absurd j g⟩
theorem count_set{l:List Bool}:∀{i:Nat} (h:i<ii l),l[i]=eL->((l.set i eH).count eL)+1=l.count eL:=by
 induction l with
 |nil=>intro i h;simp at h
 |cons a l ih=>
  intro i h b;cases i with
  |zero=>simp at b;subst b;simp
  |succ i=>
   have:=ih (i:=i) j7 k9;rw[zu,List.count_cons,List.count_cons];omega
theorem Xi(p:eX)(l k v:Sl)(L:List fe)(n w:Nat)(q h:f8)(W:dM oW q l L)(D:∀e∈L,iM n w e)(hn:n<=64)(ab:ii L<=2^20)(R:1<=w/\w<=2^20)(z:∀e∈L,ii e.1<=2^20)
  (H:Sp q h [ac p 332 [l,k,v],ae 4 k 1 eO (qi n eL),bm 58 v 1 aX (rC 1 aw) (qi n [])]):
  an xQ 252 #[xI (dB p)] h λr h'=>r=.tuple #[]/\∃kn vs,jH n w L kn vs/\Sp q h' [ac p 332 [l,k,v],ae 4 k 1 eO kn,bm 58 v 1 aX (rC 1 aw) vs]:=by
 refine ts Tryz.func252 ?_ (.scope 0 [] [(2,37)] [] [.n] []);refine aq (λ_:List Bool×aI=>()) (λt h'=>jH n w L t.1 t.2/\Sp q h' [ac p 332 [l,k,v],ae 4 k 1 eO t.1,bm 58 v 1 aX (rC 1 aw) t.2]) (λt=>t.1.count eL) (qi n eL,qi n []) i0 ⟨Tu n w L,H⟩ ?_;rintro⟨kn,vs⟩ K ⟨g,O⟩;dsimp only at*;have M:=g.klen;have T:=g.vlen;have mk:∀{s},Sp q s [ac p 332 [l,k,v],ae 4 k 1 eO kn,bm 58 v 1 aX (rC 1 aw) vs]->ud s p l k v L kn vs:=λf=>
  ⟨f.box 0 i0,dM.up W f.af,f.seq 1 i0 λ_=>rfl,f.JZ 2 i0 λ_=>rfl⟩
 refine(Ov p l k v L kn vs n K (mk O) M (λe J=>(D e J).cS) i4 λe J=>by have:=z e J;omega).mono ?_;rintro _ s ⟨⟨i,rfl,Z⟩,X⟩;refine⟨i,i0,?_⟩;have f:=O.up X.af;refine ag (λe=>⟨i0,kn,vs,g,f⟩) λe=>?_;have I:0<=i:=Int.not_lt.1 e;obtain⟨A,y⟩:=Z I;have m:=mk f;refine⟨p,i0,l,m.box.cell0 i0,?_⟩;refine oW.get m.eqs i.toNat i4 A λx Q=>?_;have d:=qf A;refine(KP p l k v L kn vs n w x L[i.toNat] s m g Q (D _ d) R.2 (z _ d)).mono ?_;rintro _ h3 ⟨a,b,rfl,S⟩;refine⟨(a,b),i0,?_⟩;obtain⟨c,E⟩:∃c,(fh kn vs L[i.toNat]).1=[c]:=by
  have K:(fh kn vs L[i.toNat]).1.length=1:=y
  match s:(fh kn vs L[i.toNat]).1,K with
  |[c],_=>exact⟨c,i0⟩
 have o:=g.Ap (D _ d);have G:=o.cS c (by rw[E];simp);have u:Qw.kn kn c=eL:=Dd g L[i.toNat] c (by rw[E];simp);rw[Ou G.1 i4]at u;have P:=f.comp S;rw[E]at P;refine P.alloc aj i0 λa8 h4 H4=>?_;refine H4.storeAll aj 5 i0 i0 (qv (a,b)) i0 i0 i0 i0 λh5 j=>?_;refine⟨p,i0,k,(j.box 0 i0).cell i0,a,(j.box 5 i0).cell0 i0,?_⟩;have B:=j.seq 3 i0 λ_=>rfl;refine B.bt 0 i0 i9 c i0 ?_;refine⟨p,i0,v,(j.box 0 i0).cell i0,a,(j.box 5 i0).cell0 i0,?_⟩;refine B.bt 0 i0 i9 c i0 ?_;refine⟨b,(j.box 5 i0).cell i0,?_⟩;refine j.set aj 1 i0 (λ_=>rfl) i0 c.toNat i4 i4 eH i0 i0 i0 λh6 N=>?_;refine⟨⟨(N.box 5 i0).cell i0,(N.box 5 i0).cell0 i0,trivial⟩,?_⟩;have F:(fh kn vs L[i.toNat]).2≠[]:=λY=>by have:=o.len;rw[Y]at this;simp at this;omega
 have V:=aa.ags N 4 i0 (λ_=>rfl) F;refine V.agj aj 2 4 i5 i0 i0 (λ_=>rfl) i0 c.toNat i4 i4 i0 i0 i0 λh8 U=>⟨trivial,?_⟩
 refine⟨(kn.set c.toNat eH,vs.set c.toNat (fh kn vs L[i.toNat]).2),i0,⟨VV g D d E,U.bB [0,1,2]⟩,?_⟩;have:=count_set (l:=kn) (i:=c.toNat) i4 u;dsimp only;omega
theorem Qr(s:Sl)(l:Row)(h:f8)(c:Rd h s 1 aw l)(a:s.len<=s.cap)(b:ii l<=2^30):
  an xQ 254 #[s] h λv h'=>v=xK (!(l.any (· !=0)))/\h'=h:=by
 refine ts Tryz.func254 ?_;refine(DT s l _ i0 h c a b).mono ?_;rintro _ e ⟨⟨r,rfl,d⟩,rfl⟩;refine⟨r,i0,?_,i0⟩;congr 1;rw[yZ];simp only[beq_iff_eq,wF,List.any_eq_false,bne_iff_ne,ne_eq,Decidable.not_not];rw[<-d];omega
def JF(l:aB):Prop:=∀i (h:i+1<ii l),l[i]<l[i+1]
theorem Lw(n:Nat)(l:Sl)(L:List fe)(w:Nat)(h:f8)(t:dM oW h l L)(F:∀e∈L,iM n w e/\JF e.1)(hn:n<=64)(Y:ii L<=2^20)(r:∀e∈L,ii e.1<=2^20):
  an xQ 251 #[xG xM n,l] h λv h'=>v=xK eH/\Sp h h' []:=by
 refine ts Tryz.func251 ?_ (.two .n (.two (.join [] [(4,5),(9,15)] .n) (.two (.two .n (.inn (.loop [(17,aS)] [(4,5),(6,9),(17,61)] (.two .n (.two .n (.two (.inn (.two .n (.two (.two .n (.inn (.loop [(24,aS)] [(4,5),(7,9),(24,51)] .n))) .n))) .n)))))) .n)));have R:=bv.len t;refine aT (ag (λe=>i4) λ_=>ag (λe=>i4) λ_=>?_);refine aq (λi:Nat=>(i:Int)) (λi h'=>i<=ii L/\Sp h h' []) (λi=>ii L-i) 0 i0 ⟨i4,Sp.refl h⟩ ?_;rintro i U ⟨hi,q⟩;refine ag (λe=>?_) λe=>⟨i0,q⟩;have f:i<ii L:=i4
 refine oW.get (dM.up t q.af) i i0 f λx M=>?_;refine(Sp.refl U).alloc aj i0 λa h2 O=>?_;refine O.storeAll aj 0 i0 i0 (qv x) i0 i0 i0 i0 λh3 p=>?_;have D:=up q.af p.af;have c:=jm.mono (jm.loc M p.af) λb Q=>qT Q p.af.1;have d:=p.box 0 i0;refine⟨x.1,d.cell0 i0,?_⟩;have T:=c.1.len;have E:=r _ (qf f);obtain⟨k,u⟩:=F _ (qf f);refine aq (λj:Nat=>(j:Int)) (λj h'=>h'=h3/\j<=(L[i]).1.length) (λj=>(L[i]).1.length-j) 0 i0 ⟨i0,i4⟩ ?_;rintro j B ⟨rfl,hj⟩;refine ag (λW=>?_) (λW=>?_)
 ·have m:j<(L[i]).1.length:=i4
  have I:=k.cS _ (qf m);refine c.1.bt j i0 m _ i0 ?_;refine ag (λe=>i4) λ_=>ag (λe=>i4) λ_=>?_;have G:∃A:Nat,qe xM ((j:Int)+1)=(A:Int)/\(B=B/\A<=(L[i]).1.length)/\(L[i]).1.length-A<(L[i]).1.length-j:=⟨j+1,j0,⟨i0,i4⟩,i4⟩
  refine ag (λV=>?_) λV=>G;refine⟨x.1,d.cell0 i0,?_⟩;rw[ai ((j:Int)-1)];refine c.1.bt (j-1) i4 i4 _ i0 ?_;have H:=u (j-1) i4;have J:(L[i]).1[j-1+1]'(by omega)=(L[i]).1[j]:=by congr 1;omega
  rw[J]at H;exact ag (λe=>absurd H i4) λ_=>G
 ·refine⟨x.2,d.cell i0,?_⟩;obtain⟨rs,N,h8,X⟩:=bv.jZ (dM.up t D);have z:=(X 0 i4 i4).2.len;obtain⟨s,P,y,Z,S⟩:=N.cX (g:=qv) (i:=(0:Int)) 0 rfl i4 (rs[0]'(by omega)) rfl (K:=λy=>y.2.len=w) (by rw[z];exact(F _ (qf (show 0<ii L by omega))).1.len);refine⟨s,P,y.2,?_,?_⟩
  ·exact Z.2.1
  have o:=c.2.len;rw[k.len]at o;refine bx (λe=>absurd (by rw[o,S]) e) λ_=>?_;exact⟨i+1,j0,⟨i4,.zip D⟩,i4⟩
theorem aa.Xj{B:av}{m h:f8}{As:List HP}{e k:Nat}{α β:Type}{E:iy α β}{f:α->aR}{s:Sl}{n:Nat}{a:α}{b:β}(H:aa B m h As)(i:Nat)(u:As[i]?=dB (ae e s k f (qi n a)))(o:∀h,E.p h (λ_=>False) a b):aa B m h (As.set i (bm e s k f E (qi n b))):=
 H.dX i u λq ⟨x,y⟩=>⟨_,λ_=>False,x,λc v=>⟨y c v,λh=>h⟩,λ_ h=>h.elim,i9,λj r l d g=>by
  rw[zO]at d g;split at d
  ·rename_i t;rw[f9 t]at g;cases d;cases g;exact o h
  ·cases d⟩
theorem aa.gr{B:av}{f h:f8}{As:List HP}{e o:Nat}{a b:Sl}{l:aB}{r:Row}(H:aa B f h As)(i j:Nat)(d:i≠j)(n:As[i]?=dB (ae e a 1 ak l))(m:As[j]?=dB (ae o b 1 aw r)):aa B f h ((As.set i (EA jm (a,b) (l,r))).set j emp):=
 H.merge i j d n m λp q _ k g=>⟨k.1.seq (λ_=>rfl) λx c=>.inl (k.2 x c),g.1.seq (λ_=>rfl) λx c=>.inr (g.2 x c)⟩
theorem Xk(kn:List Bool)(vs:aI)(L:List fe){i:Nat}(a:i<ii L):aW kn vs (L.take (i+1))=if(fh kn vs L[i]).1.isEmpty then aW kn vs (L.take i)else aW kn vs (L.take i)++[fh kn vs L[i]]:=by unfold aW;rw[aD _ _ a,qM,zl];cases h:(fh kn vs L[i]).1.isEmpty<;>simp[h]
theorem Ua(kn:List Bool)(vs:aI)(L:List fe){i:Nat}(a:i<ii L):kg kn vs (L.take (i+1))=(kg kn vs (L.take i)||((fh kn vs L[i]).1.isEmpty&&(fh kn vs L[i]).2.any (· !=0))):=by unfold kg;rw[aD _ _ a,qM,y0];simp
theorem Ub{kn:List Bool}{vs:aI}{L:List fe}{i:Nat}(h:kg kn vs (L.take i)=eH):kg kn vs L=eH:=by rw[<-qA i L];unfold kg at*;rw[qM,y0,h];rfl
theorem Xl(l:Sl)(L:List fe)(n w:Nat)(h:f8)(F:dM oW h l L)(P:∀e∈L,iM n w e/\JF e.1)(hn:n<=64)(G:ii L<=2^20)(hw:1<=w/\w<=2^20)(B:∀e∈L,ii e.1<=2^20):
  an xQ 194 #[xG xM n,l] h λr h'=>∃kn vs,jH n w L kn vs/\((kg kn vs L=eH/\r=.tuple #[xH ez 0 0,xH ez 0 0,xH ez 0 0,xG xM 10]/\Sp h h' [])∨
   (kg kn vs L=eL/\∃k v s:Sl,r=.tuple #[k,v,s,xG xM 0]/\Sp h h' [ae 4 k 1 eO kn,bm 58 v 1 aX (rC 1 aw) vs,bm 258 s 2 qv jm (aW kn vs L)])):=by
 refine ts Tryz.func194 ?_ (.two .n (.two .n (.two (.join [(8,Nv)] [(8,9),(16,23)] .n) (.two .n (.two (.two .n (.inn (.loop [(6,cK),(27,aS)] [(4,8),(10,12),(27,47)] .n))) .n))))) [(3,(.y [0,1,3] (.l [2,4,5,6,7]) (.l [4,2,5,6,7])))];have al:=bv.len F;refine(Lw n l L w h F P hn G B).mono ?_;rintro _ h1 ⟨rfl,R1⟩;refine⟨eH,i0,aQ (λe=>j1) λ_=>?_⟩;refine bG (λs h'=>∃(p:eX) (k v:Sl),s=dB p/\Sp h h' [ac p 332 [l,k,v],ae 4 k 1 eO (qi n eL),bm 58 v 1 aX (rC 1 aw) (qi n [])]) ⟨?_,?_⟩ ?_
 ·refine R1.make aj eO abY i5 eL i0 i0 n n i0 i0 (qm _) i4 λk h2 X W Y=>⟨trivial,?_⟩
  refine Y.make aj aX Xh i5 ⟨ez,0,0⟩ i0 i0 n n i0 i0 (qm _) i4 λv h3 U N Z=>⟨trivial,?_⟩
  refine Z.boxed λp M H=>⟨trivial,p,k,v,i0,?_⟩
  exact(aa.Xj (E:=rC 1 aw) (b:=[]) H 1 i0 λh=>⟨Seq.nil _ _ _ _ _ _,λ_=>rfl⟩).bB [2,0,1]
 ·refine R1.make aj aX Xh i5 ⟨ez,0,0⟩ i0 i0 n n i0 i0 (qm _) i4 λv h3 U N Z=>⟨trivial,?_⟩
  refine Z.make aj eO abY i5 eL i0 i0 n n i0 i0 (qm _) i4 λk h2 X W Y=>⟨trivial,?_⟩
  refine Y.boxed λp M H=>⟨trivial,p,k,v,i0,?_⟩
  exact(aa.Xj (E:=rC 1 aw) (b:=[]) H 0 i0 λh=>⟨Seq.nil _ _ _ _ _ _,λ_=>rfl⟩).bB [2,1,0]
 rintro s M ⟨p,k,v,rfl,H⟩;refine(Xi p l k v L n w h M F (λe he=>(P e he).1) hn G hw B H).mono ?_;rintro _ h5 ⟨rfl,kn,vs,K,H5⟩;refine⟨(),i0,?_⟩;refine aq (λt:Nat×Sl=>(t.2,(t.1:Int))) (λt h'=>t.1<=ii L/\kg kn vs (L.take t.1)=eL/\Sp h h' [ac p 332 [l,k,v],ae 4 k 1 eO kn,bm 58 v 1 aX (rC 1 aw) vs,bm 258 t.2 2 qv jm (aW kn vs (L.take t.1))]) (λt=>ii L-t.1) (0,⟨ez,0,0⟩) i0 ⟨i9,i0,H5.rD 258 2 qv jm⟩ ?_;rintro⟨i,o⟩ h6 ⟨hi,z,D⟩;dsimp only at*;refine ag (λe=>?_) (λe=>?_)
 ·have j:i<ii L:=i4
  obtain⟨rs,q1,q2,q3⟩:=bv.jZ F;have hx:=q3 i i4 j;refine(Seq.up q1 D.af).cX (g:=qv) i i0 i4 (rs[i]'(by omega)) i0 ?_;generalize rs[i]'(by omega)=x at hx⊢;refine D.alloc aj i0 λa h7 H7=>?_;refine H7.storeAll aj 4 i0 i0 (qv x) i0 i0 i0 i0 λh8 A=>?_;refine⟨x,(A.box 4 i0).aE _ i0,?_⟩;have T:ud h8 p l k v L kn vs:=⟨A.box 0 i0,dM.up F A.af,A.seq 1 i0 λ_=>rfl,A.JZ 2 i0 λ_=>rfl⟩
  obtain⟨I,-⟩:=P _ (qf j);have V:dM jm h8 x L[i]:=dM.up hx A.af;refine(KP p l k v L kn vs n w x L[i] h8 T K V I hw.2 (B _ (qf j))).mono ?_;rintro _ h9 ⟨c,d,rfl,R9⟩;refine⟨(c,d),i0,?_⟩;have H9:=A.comp R9;refine H9.alloc aj i0 λa2 ao R=>?_;refine R.storeAll aj 7 i0 i0 (qv (c,d)) i0 i0 i0 i0 λad f=>?_;refine⟨c,(f.box 7 i0).cell0 i0,?_⟩;have u:=(f.own 5 i0).len;have ar:ii (aW kn vs (L.take i))<=ii L:=by unfold aW;refine q9 (qR _ _) ?_;simp;omega
  have q:=Xk kn vs L j;have m:=Ua kn vs L j;refine ag (λe2=>?_) (λe2=>?_)
  ·have ah:(fh kn vs L[i]).1.isEmpty=eL:=by
    cases hh:(fh kn vs L[i]).1 with
    |nil=>rw[hh]at u;simp at u;omega
    |cons a l=>rfl
   rw[ah]at q m;refine⟨(c,d),(f.box 7 i0).aE _ i0,?_⟩;have Q:=aa.gr f 5 6 i5 i0 i0;refine Q.mO aj 3 5 i5 i0 i0 eQ i0 i5 (λ_=>rfl) Xg i0 i5 i4 λo' am O=>?_;refine⟨(i+1,o'),jj,⟨i6,by dsimp only;rw[m,z];rfl,?_⟩,i6⟩
   try dsimp only
   rw[q];exact O.bB [0,1,2,3]
  ·have S:(fh kn vs L[i]).1.isEmpty=eH:=by
    cases hh:(fh kn vs L[i]).1 with
    |nil=>rfl
    |cons a l=>rw[hh]at u;simp at u;omega
   rw[S]at q m;refine⟨d,(f.box 7 i0).cell i0,?_⟩;refine(Qr d _ ad (f.seq 6 i0 λ_=>rfl) (f.own 6 i0).cap (by have:=(K.Ap I).len;omega)).mono ?_;rintro _ ap ⟨rfl,rfl⟩;refine⟨_,i0,aQ (λJ=>?_) λJ=>?_⟩
   ·refine⟨kn,vs,K,.inl ⟨Ub (i:=i+1) ?_,i0,f.bB []⟩⟩;rw[m];simp at J;simp[J]
   ·refine⟨(i+1,o),jj,⟨i6,?_,?_⟩,i6⟩
    ·(try dsimp only);rw[m,z];simp at J;simp;exact J
    ·try dsimp only
     rw[q];exact f.bB [0,1,2,3]
 ·have ab:i=ii L:=i4
  subst ab;rw[qN]at D z;refine⟨p,i0,k,(D.box 0 i0).cell i0,p,i0,v,(D.box 0 i0).cell i0,kn,vs,K,.inr ⟨z,k,v,o,i0,D.bB [1,2,3]⟩⟩
def kL(pool:List (Sl×Row)):HP:=⟨λh q=>∀x∈pool,Seq h q x.1 1 aw x.2,λa c x b=>(a x b).af c,λa d x b=>(a x b).mono d⟩
theorem aa.pool{B:av}{c h:f8}{As:List HP}(H:aa B c h As)(i j:Nat)(b:i≠j){pool:List (Sl×Row)}{r:Sl}{l:Row}(f:As[i]?=dB (kL pool))(d:As[j]?=dB (kP r 1 aw l)):aa B c h ((As.set i (kL ((r,l)::pool))).set j emp):=
 H.merge i j b f d λk m _ g e x a=>by
  rcases qV.1 a with rfl|a
  ·exact Seq.mono e λ_ h=>.inr h
  ·exact(g x a).mono λ_ h=>.inl h
theorem aa.Il{B:av}{c h:f8}{As:List HP}(H:aa B c h As)(i:Nat){pool:List (Sl×Row)}(a:As[i]?=dB (kL pool)){r:Sl}{l:Row}(b:(r,l)∈pool):Rd h r 1 aw l:=(H.at i a) _ b
theorem aa.aad{B:av}{e h:f8}{As:List HP}(H:aa B e h As)(i j:Nat)(c:i≠j){pool:List (Sl×Row)}{s:Sl}{rs:List Sl}{a:aI}(t:As[i]?=dB (ae 58 s 1 aX rs))(m:As[j]?=dB (kL pool))
  (n:ii rs=ii a) (p:∀(k:Nat) r l,rs[k]?=dB r->a[k]?=dB l->(r,l)∈pool):aa B e h ((As.set i (fH 58 s 1 aw a)).set j emp):=
 H.merge i j c t m λw v u d o=>⟨rs,v,d.1,λb f=>⟨.inl (d.2 b f),u b (d.2 b f)⟩,λ_ h=>.inr h,n,λk r l q g=>o _ (p k r l q g)⟩
def ie(pool:List (Sl×Row))(g:Row->Row)(rs:List Sl)(m:aI):Prop:=ii rs=ii m/\∀(i:Nat) r l,rs[i]?=dB r->m[i]?=dB l->(r,g l)∈pool
theorem ie.get{pool:List (Sl×Row)}{g:Row->Row}{rs:List Sl}{m:aI}(h:ie pool g rs m){i:Nat}(a:i<ii m):(rs[i]'(by rw[h.1];exact a),g m[i])∈pool:=
 h.2 i _ _ (qc _) (qc _)
theorem ie.mono{pool a:List (Sl×Row)}{g:Row->Row}{rs:List Sl}{m:aI}(h:ie pool g rs m)(d:∀x∈pool,x∈a):ie a g rs m:=⟨h.1,λi r l c b=>d _ (h.2 i r l c b)⟩
theorem ie.set{pool:List (Sl×Row)}{g:Row->Row}{rs:List Sl}{m:aI}(h:ie pool g rs m)(i:Nat){r:Sl}{l:Row}(j:(r,g l)∈pool):ie pool g (rs.set i r) (m.set i l):=by
 refine⟨by simp[h.1],λk f e a b=>?_⟩;rw[qU]at a b;by_cases c:i=k
 ·subst c;rw[f9 rfl]at a b;split at a
  ·rename_i d;rw[f9 (by rw[<-h.1];exact d)]at b;cases a;cases b;exact j
  ·cases a
 ·rw[g0 c]at a b;exact h.2 k f e a b
theorem aa.BN{B:av}{d h:f8}{As:List HP}(H:aa B d h As)(i j:Nat){pool:List (Sl×Row)}{e:Nat}{s:Sl}{rs:List Sl}{a:aI}(n:As[i]?=dB (ae e s 1 aX rs))(g:As[j]?=dB (kL pool))
  (c:ie pool id rs a):fq h (λb=>b<h.size) s 1 aw a rs:=⟨H.seq i n λ_=>rfl,c.1,λk r l m f=>H.Il j g (c.2 k r l m f)⟩
theorem DV{B:av}{r h:f8}{As:List HP}(s f:eX)(t:UInt8)(g a:Sl)(b c:Row)(H:aa B r h (ae 5 a 1 aw c::As))(G:St B r As λh=>f7 h s=dB (xI (dB f))/\fy h f/\Rd h g 1 aw b)
  (N:ii b=ii c) (S:ii b<=2^30) {K:f8->Prop} (R:∀h',aa B r h' (ae 5 a 1 aw (cO t b c)::As)->K h'):
  gU (σ:=Int) (λd K1 i=>
 Br (decide (d<((g.len:Nat):Int)))
 (∃F:eX,(g.ptr=dB F/\0<=d/\d<((g.len:Nat):Int))/\
 ∃E:Int,f7 i (F.add (d.toNat*1))=dB (xG xN E)/\
 ∃D:eX,(a.ptr=dB D/\0<=d/\d<((a.len:Nat):Int))/\
 ∃z:Int,f7 i (D.add (d.toNat*1))=dB (xG xN z)/\
 ∃o:eX,(dB s=dB o)/\
 ∃j:bZ,f7 i o=dB (.pointer j)/\
 ox xQ 268 #[(.pointer j),(xG xN (t.toNat:Int)),(xG xN E)] (.one (.sc (.int .u8))) i λu w=>
 (bQ.ok [(D.add (d.toNat*1),(xG xN z))] w)/\
 ∃n:eX,(a.ptr=dB n/\0<=d/\d<((a.len:Nat):Int))/\
 au xQ (qE 5 (xI (dB (n.add (d.toNat*1)))) (xG xN (qe xN ((qK (qG xN) z^^^(qK (qG xN) u)).toNat:Nat)))) w λ_ h3=>
 (bQ.ok [] h3)/\
 K1 (qe xM (d+(1:Int))) h3) (K i)) (0:Int) h:=by
 have J:g.len=ii b:=(G.at [ae 5 a 1 aw c] H).2.2.len;refine aq (λk:Nat=>(k:Int)) (λk h'=>k<=ii b/\aa B r h' (ae 5 a 1 aw (ze (λx y=>y^^^Gf.mul t x) (b.take k) (c.take k)++c.drop k)::As)) (λk=>ii b-k) 0 i0 ⟨i4,l6⟩ ?_;rintro k i ⟨O,m⟩;obtain⟨P,Q,L⟩:=G.at [_] m;refine ag (λe=>?_) (λe=>?_)
 ·have A:k<ii b:=i4
  have q:ii (ze (λx y=>y^^^Gf.mul t x) (b.take k) (c.take k))=k:=i7
  have M:ii (ze (λx y=>y^^^Gf.mul t x) (b.take k) (c.take k)++c.drop k)=ii c:=by rw[qt,q,za];omega
  refine L.bt k i0 A _ i0 ?_;have l:(ze (λx y=>y^^^Gf.mul t x) (b.take k) (c.take k)++c.drop k)[k]'(by omega)=c[k]:=by rw[wW i4];simp[q]
  refine(m.seq 0 i0 λ_=>rfl).mb k i0 i4 _ i0 λax p=>?_;rw[l]at p⊢;refine⟨s,i0,dB f,P,(Gk f t b[k] i Q).mono ?_⟩;rintro v w ⟨rfl,rfl⟩;refine⟨_,i0,⟨p,trivial⟩,?_⟩;rw[mE];refine m.set aj 0 i0 (λ_=>rfl) i0 k i0 i4 _ i0 i0 i0 λh3 I=>⟨trivial,?_⟩
  rw[zr,tO N i4]at I;exact⟨k+1,j0,⟨i4,I⟩,i4⟩
 ·have:k=ii b:=i4
  subst this;rw[qg (qm _),qg i4,zd i4,qF]at m;exact R i m
def gz(f:eX)(p:Int×Int×Int)(v r st a b c d:Sl):aR:=[xI (dB f),xG xM p.1,xG xM p.2.1,xG xM p.2.2,v,r,st,a,b,c,d]
structure AG (h:f8) (s f:eX) (wa mo:Sl) (wr mr:List Sl) (W M:aI):Prop where
 fld:f7 h s=dB (xI (dB f))
 way:f7 h (s.add 9)=dB (xH wa.ptr wa.len wa.cap)
 more:f7 h (s.add 10)=dB (xH mo.ptr mo.len mo.cap)
 field:fy h f
 rW:fq h (λb=>b<h.size) wa 1 aw W wr
 rM:fq h (λb=>b<h.size) mo 1 aw M mr
theorem AG.of{h:f8}{s f:eX}{p:Int×Int×Int}{v r st l j d a:Sl}{e g:List Sl}{W M:aI}(c:bW h s 264 (gz f p v r st l j d a))(k:fy h f)(m:fq h (λb=>b<h.size) d 1 aw W e)(i:fq h (λb=>b<h.size) a 1 aw M g):AG h s f d a e g W M:=
 ⟨c.cell0 i0,c.cell i0,c.cell i0,k,m,i⟩
theorem DW{B:av}{i h:f8}{As:List HP}(s f:eX)(t:UInt8)(c:Int)(a more u p:Sl)(w0 d:Row)(w y:List Sl)(W M:aI)(H:aa B i h (ae 5 a 1 aw w0::ae 5 more 1 aw d::As))(e:St B i As λh=>AG h s f u p w y W M)
  (F:0<=c) (l:c.toNat<ii W) (m:c.toNat<ii M) (o:ii (aC W c.toNat)=ii w0) (x:ii (aC M c.toNat)=ii d) (E:ii w0<=2^30) (D:ii d<=2^30):
  an xQ 260 #[xI (dB s),xG xN t.toNat,xG xM c,a,more] h λv h'=>v=.tuple #[]/\aa B i h' (ae 5 a 1 aw (cO t (aC W c.toNat) w0)::ae 5 more 1 aw (cO t (aC M c.toNat) d)::As):=by
 refine ts Tryz.func260 ?_ (.two (.two .n (.inn (.loop [(22,aS)] [(10,12),(22,41)] .n))) (.two .n (.inn (.loop [(49,aS)] [(12,14),(49,68)] .n))));have S:=e.at [_,_] H;refine⟨s,i0,u,S.way,?_⟩;rw[lX l]at o⊢;rw[lX m]at x⊢;have q:=S.rW;have A:=q.len;refine q.top.lY c.toNat i4 i4 ?_;refine DV s f t (w[c.toNat]'(by omega)) a (W[c.toNat]) w0 H (St.mk' λh' j=>?_) o i4 λh3 g=>?_
 ·have b:=e.at [_] j;exact⟨b.fld,b.field,b.rW.row _ _ _ (qc _) (qc l)⟩
 have r:=e.at [_,_] g;refine⟨s,i0,p,r.more,?_⟩;have z:=r.rM;have k:=z.len;refine z.top.lY c.toNat i4 i4 ?_;refine DV s f t (y[c.toNat]'(by omega)) more (M[c.toNat]) d g.gp (St.mk' λh' j=>?_) x i4 λh3 g=>⟨i0,g.gp⟩
 ·have b:=e.at [_] j;exact⟨b.fld,b.field,b.rM.row _ _ _ (qc _) (qc m)⟩
def fB:aB->Bool
 |[]=>eH
 |[_]=>eH
 |a::b::r=>decide (a<b)&&fB (b::r)
theorem Im:∀(l:aB) (a b:Int),fB (l++[a,b])=(fB (l++[a])&&decide (a<b))
 |[],a,b=>by simp[fB]
 |[c],a,b=>by simp[fB]
 |c::d::r,a,b=>by
  have:=Im (d::r) a b;simp only[zo]at this⊢;simp only[fB,this,Bool.and_assoc]
theorem Xm{l r:aB}(h:fB l=eL):fB (l++r)=eL:=by
 induction l with
 |nil=>simp[fB]at h
 |cons a t ih=>
  cases t with
  |nil=>simp[fB]at h
  |cons b t=>
   simp only[fB,vu]at h;simp only[zo,fB,vu];rcases h with h|h
   ·exact .inl h
   ·exact .inr (ih h)
theorem aae(l:aB)(k:Nat)(h:k+1<ii l):l.take (k+2)=l.take k++[l[k],l[k+1]]:=by have b:l.take (k+2)=l.take (k+1)++[l[k+1]]:=aD l (k+1) h;have a:=aD l k;rw[b,a,qn];rfl
def fC(n:Int)(r:aB):Bool:=r.all (λc=>decide (0<=c/\c<n))&&fB r
theorem Xn{n:Int}{l r:aB}(h:fC n l=eL):fC n (l++r)=eL:=by
 simp only[fC,vu]at*;rcases h with h|h
 ·left;rw[vp,h];rfl
 ·right;exact Xm h
theorem Uc{n:Int}{r:aB}(h:0<ii r):fC n (r.take 1)=decide (0<=r[0]/\r[0]<n):=by
 cases r with
 |nil=>simp at h
 |cons a t=>simp[fC,fB]
theorem Ud{n:Int}{r:aB}{k:Nat}(h:k+1<ii r):fC n (r.take (k+2))=(fC n (r.take (k+1))&&decide (0<=r[k+1]/\r[k+1]<n)&&decide (r[k]<r[k+1])):=by
 have b:r.take (k+2)=r.take (k+1)++[r[k+1]]:=aD r (k+1) h;have a:fB (r.take (k+2))=(fB (r.take (k+1))&&decide (r[k]<r[k+1])):=by rw[aae r k h,Im,aD r k]
 simp only[fC,a];rw[b,vp];simp only[List.all_cons,List.all_nil,Bool.and_true]
 cases(r.take (k+1)).all λc=>decide (0<=c/\c<n)<;>cases fB (r.take (k+1))<;>cases decide (0<=r[k+1]/\r[k+1]<n)<;>simp
theorem ue{n:Int}{r:aB}{k:Nat}(h:fC n (r.take k)=eL):fC n r=eL:=by rw[<-qA k r];exact Xn h
theorem Ue{n:Int}{r:aB}{k:Nat}(c:k<ii r)(h:fC n (r.take k)=eH):
  (r[k]<0->fC n r=eL)/\(n<=r[k]->fC n r=eL)/\(∀(h0:0<k),r[k]<=r[k-1]->fC n r=eL)/\
  (0<=r[k]->r[k]<n->(∀h0:0<k,r[k-1]<r[k])->fC n (r.take (k+1))=eH):=by
 cases k with
 |zero=>
  have e:=Uc (n:=n) c;refine⟨λa=>ue (k:=1) ?_,λa=>ue (k:=1) ?_,λh0=>i4,λa b _=>?_⟩
  ·rw[e,hU i4]
  ·rw[e,hU i4]
  ·rw[e,g9 ⟨a,b⟩]
 |succ k=>
  have e:=Ud (n:=n) c;refine⟨λa=>ue (k:=k+2) ?_,λa=>ue (k:=k+2) ?_,λh0 a=>ue (k:=k+2) ?_,λa b h3=>?_⟩
  ·rw[e,hU (p:=0<=r[k+1]/\r[k+1]<n) i4];simp
  ·rw[e,hU (p:=0<=r[k+1]/\r[k+1]<n) i4];simp
  ·rw[e,hU (p:=r[k]<r[k+1]) kt];simp
  ·have d:r[k]<r[k+1]:=by simpa using h3 i4
   rw[e,h,g9 (p:=0<=r[k+1]/\r[k+1]<n) ⟨a,b⟩,g9 d];rfl
def jA(n:Int)(a:cu):Bool:=decide (0<=n/\n<=64)&&a.all (fC n)
theorem aaf{α:Type}{f:α->Bool}{l:List α}{k:Nat}(a:k<ii l)(h:(l.take k).all f=eH):(l.take (k+1)).all f=f l[k]:=by rw[aD _ _ a,vp,h];simp
theorem afg{α:Type}{f:α->Bool}{l:List α}{k:Nat}(a:k<ii l)(h:f l[k]=eL):l.all f=eL:=by rw[vb];exact⟨l[k],qf a,u9⟩
theorem JG{p:av}(n:Int)(a:Sl)(b:cu)(rs:List Sl)(h:f8)(y:fq h p a 1 ak b rs)(I:ii b<=2^40)(o:∀l∈b,ii l<=2^40):
  an xQ 310 #[xG xM n,a] h λv h'=>v=xK (jA n b)/\h'=h:=by
 refine ts Tryz.func310 ?_ (.two .n (.two (.join [] [(4,5),(9,15)] .n) (.two (.two .n (.inn (.loop [(17,aS)] [(4,5),(6,9),(17,50)] (.two .n (.two .n (.two (.inn (.two .n (.two .n (.inn (.loop [(23,aS)] [(4,5),(7,9),(23,49)] .n))))) .n)))))) .n)));have E:=y.FJ;refine bG (λ_ h'=>h'=h/\0<=n/\n<=64) ?_ ?_
 ·refine ag (λj=>⟨?_,i0⟩) (λj=>ag (λf=>⟨?_,i0⟩) λf=>⟨i0,i4,i4⟩)
  ·rw[jA,hU i4];rfl
  ·rw[jA,hU i4];rfl
 ·rintro _ h' ⟨rfl,u,t⟩;have z:jA n b=b.all (fC n):=by rw[jA,g9 ⟨u,t⟩];rfl
  refine aq (λk:Nat=>(k:Int)) (λk h0=>h0=h'/\k<=ii b/\(b.take k).all (fC n)=eH) (λk=>ii b-k) 0 i0 ⟨i0,i4,i9⟩ ?_;rintro i h0 ⟨rfl,H,c⟩;refine ag (λs=>?_) (λm=>?_)
  ·have e:i<ii b:=i4
   refine y.get i i0 e λr w _=>?_;have D:=w.len;have F:=o _ (qf e);have d:fC n b[i]=eL->jA n b=eL:=λB=>by rw[z];exact afg e B
   refine aq (λk:Nat=>(k:Int)) (λk f=>f=h0/\k<=b[i].length/\fC n (b[i].take k)=eH) (λk=>b[i].length-k) 0 i0 ⟨i0,i4,by simp[fC,fB]⟩ ?_;rintro k f ⟨rfl,J,q⟩;refine ag (λs=>?_) (λm=>?_)
   ·have g:k<b[i].length:=i4
    obtain⟨n1,n2,G,A⟩:=Ue g q;refine w.bt k i0 g _ i0 ?_;refine ag (λj=>⟨by rw[d (n1 j)],i0⟩) λj=>?_;refine ag (λf=>⟨by rw[d (n2 f)],i0⟩) λf=>?_;rw[ai (k+1),ai (k-1)];refine ag (λh3=>?_) (λh3=>?_)
    ·refine w.bt (k-1) i4 i4 _ i0 ?_;refine ag (λx=>⟨by rw[d (G i4 x)],i0⟩) λx=>?_;exact⟨k+1,i9,⟨i0,i4,A i4 i4 λ_=>i4⟩,i4⟩
    ·exact⟨k+1,i9,⟨i0,i4,A i4 i4 λ_=>i4⟩,i4⟩
   ·rw[qg i4]at q;rw[ai (i+1)];exact⟨i+1,i9,⟨i0,i4,by rw[aaf e c,q]⟩,i4⟩
  ·rw[qg i4]at c;exact⟨by rw[z,c],i0⟩
theorem Io{p:av}(a:Sl)(b:List Bool)(x:Bool)(h:f8)(i:Seq h p a 1 eO b)(o:ii b<=2^40):
  an xQ 334 #[a,xK x] h λv h'=>∃r:Int,v=xG xM r/\(0<=r↔x∈b)/\h'=h:=by
 refine ts Tryz.func334 ?_ (.two .n (.two (.two .n (.inn (.loop [(8,aS)] [(4,6),(8,19)] .n))) .n));have m:=i.len;refine aq (λk:Nat=>(k:Int)) (λk h'=>h'=h/\k<=ii b/\x∉b.take k) (λk=>ii b-k) 0 i0 ⟨i0,i4,i9⟩ ?_;rintro k h' ⟨rfl,q,f⟩;refine ag (λl=>?_) (λj=>?_)
 ·have c:k<ii b:=i4
  refine i.bt k i0 c _ i0 ?_;refine bf (λg=>⟨_,i0,⟨λ_=>?_,λ_=>i4⟩,i0⟩) (λd=>?_)
  ·rw[eq_of_beq g];exact qf c
  ·rw[ai _];refine⟨k+1,i9,⟨i0,i4,?_⟩,i4⟩;rw[aD _ _ c];simp only[qy,qp,not_or];exact⟨f,λe=>by rw[e]at d;simp at d⟩
 ·rw[qg i4]at f;exact⟨_,i0,⟨λh=>i4,λh=>absurd h f⟩,i0⟩
theorem DX{p:av}(a:Sl)(b:List Bool)(x:Bool)(h:f8)(c:Seq h p a 1 eO b)(d:ii b<=2^40):
  an xQ 311 #[a,xK x] h λv h'=>v=xK (decide (x∈b))/\h'=h:=by
 refine ts Tryz.func311 ?_;refine(Io a b x h c d).mono ?_;rintro v h' ⟨r,rfl,e,rfl⟩;refine⟨r,i0,?_,i0⟩;exact congrArg Value.bool (decide_eq_decide.2 e)
theorem Qs{α:Type}{f:α->Bool}{l:List α}{k:Nat}(a:k<ii l):(l.take (k+1)).filter f=if f l[k]then(l.take k).filter f++[l[k]]else(l.take k).filter f:=by rw[aD _ _ a,zl];by_cases h:f l[k]=eH<;>simp[h]
theorem Ip{p q:av}(l:eX)(o r:Sl)(op:List Bool)(row:aB)(h:f8)(t:f7 h (l.add 1)=dB (xH o.ptr o.len o.cap))(x:Seq h p o 1 eO op)(m:Seq h q r 1 ak row)
  (i:∀c∈row,0<=c/\c<ii op) (A:ii row<=2^40):
  an xQ 335 #[xI (dB l),r] h λv h'=>
   v=.tuple #[xG xM ((cV op row).getLast?.getD 0),xK (ii (cV op row)==1)]/\h'=h:=by
 refine ts Tryz.func335 ?_ (.two .n (.two .n (.two (.two .n (.inn (.loop [(6,aS),(7,aS),(12,aS)] [(6,8),(9,10),(12,27)] .n))) .n)));have w:=m.len;refine aq (λk:Nat=>((cV op (row.take k)).getLast?.getD 0,(ii (cV op (row.take k)):Int),(k:Int))) (λk h'=>h'=h/\k<=ii row) (λk=>ii row-k) 0 i0 ⟨i0,i4⟩ ?_;rintro k h' ⟨rfl,B⟩
 try dsimp only
 refine ag (λu=>?_) (λs=>?_)
 ·have d:k<ii row:=i4
  have z:=i _ (qf d);refine m.bt k i0 d _ i0 ?_;refine⟨l,i0,o,t,?_⟩;have a:row[k].toNat<ii op:=i4
  refine x.bt row[k].toNat i4 a _ i0 ?_;have b:jP op row[k]=op[row[k].toNat]:=by simp[jP,qd,qc a]
  have g:=Qs (f:=jP op) d;have y:ii (cV op (row.take k))<=ii row:=q9 (qR _ _) o6;rw[ai (k+1),ai _];refine bf (λj=>?_) (λj=>?_)
  ·refine⟨k+1,?_,⟨i0,i4⟩,i4⟩;have e:cV op (row.take (k+1))=cV op (row.take k)++[row[k]]:=by rw[cV,g,b,j];rfl
   simp[e]
  ·refine⟨k+1,?_,⟨i0,i4⟩,i4⟩;have e:cV op (row.take (k+1))=cV op (row.take k):=by rw[cV,g,b,j];rfl
   simp[e]
 ·have e:row.take k=row:=qg i4;refine⟨?_,i0⟩;simp only[e];congr 4;congr 1;rw[yZ];simp;omega
structure uT (h:f8) (p:av) (a:eX) (l o u:Sl) (rows:cu) (rs:List Sl) (op us:List Bool):Prop where
 c0:f7 h a=dB (xH l.ptr l.len l.cap)
 c1:f7 h (a.add 1)=dB (xH o.ptr o.len o.cap)
 c2:f7 h (a.add 2)=dB (xH u.ptr u.len u.cap)
 blk:p a.block
 sRows:fq h p l 1 ak rows rs
 sOp:Seq h p o 1 eO op
 sUs:Seq h p u 1 eO us
 ulen:ii us=ii rows
 cS:∀r∈rows,∀c∈r,0<=c/\c<ii op
 short:∀r∈rows,ii r<=64
theorem uT.af{h h':f8}{p:av}{a:eX}{l o u:Sl}{rows:cu}{rs:List Sl}{op us:List Bool}(c:uT h p a l o u rows rs op us)(k:aN p h h'):uT h' p a l o u rows rs op us:=by
 have b:∀n,(a.add n).block=a.block:=λn=>by unfold Addr.add;split<;>rfl
 exact⟨k.cell c.blk c.c0,k.cell (by rw[b];exact c.blk) c.c1,k.cell (by rw[b];exact c.blk) c.c2,c.blk,c.sRows.af k,c.sOp.af k,c.sUs.af k,c.ulen,c.cS,c.short⟩
theorem Lx{p:av}(a:eX)(l o u:Sl)(rows:cu)(rs:List Sl)(op us:List Bool)(h:f8)(z:uT h p a l o u rows rs op us)(P:ii rows<=2^40):
  an xQ 312 #[xI (dB a)] h λv h'=>aN (λ_=>True) h h'/\
   v=match mf rows op us with
    |some i=>.tuple #[xL #[xG xM i,xG xM (eZ rows op i)],xK eH]
    |none=>.tuple #[xL #[xG xM 0,xG xM 0],xK eL]:=by
 refine ts Tryz.func312 ?_ (.two .n (.two (.two .n (.inn (.loop [(13,aS)] [(3,8),(13,36)] .n))) .n));refine ut aj i0 λb L O t e H=>?_;have f:=z.af (e.mono λ_ _ _=>trivial);refine⟨a,i0,l,f.c0,?_⟩;have J:=z.sRows.FJ;refine aq (λk:Nat=>(k:Int)) (λk h'=>h'=L/\k<=ii rows/\∀j,j<k->me rows op us j=eL) (λk=>ii rows-k) 0 i0 ⟨i0,i4,λj q=>i4⟩ ?_;rintro k h' ⟨rfl,Q,D⟩;refine ag (λI=>?_) (λG=>?_)
 ·have d:k<ii rows:=i4
  refine f.sRows.get k i0 d λr M _=>?_;refine⟨a,i0,u,f.c2,?_⟩;refine f.sUs.bt k i0 (by rw[z.ulen];exact d) _ i0 ?_;have F:us.getD k eL=us[k]'(by rw[z.ulen];exact d):=by rw[qd,qc];rfl
  have s:rows.getD k []=rows[k]:=by rw[qd,qc d];rfl
  rw[ai _];refine bf (λy=>?_) (λy=>?_)
  ·refine⟨k+1,i9,⟨i0,i4,λj q=>?_⟩,i4⟩;rcases zk.1 q with q|rfl
   ·exact D j q
   ·simp only[me,F,y];rfl
  ·refine(Ip a o r op rows[k] h' f.c1 f.sOp M (z.cS _ (qf d)) (q9 (z.short _ (qf d)) i4)).mono ?_;rintro v N ⟨rfl,rfl⟩;refine⟨(_,_),i0,?_⟩;have m:me rows op us k=(ii (cV op rows[k])==1):=by simp only[me,F,y,s];rfl
   refine bf (λw=>?_) (λw=>?_)
   ·have g:me rows op us k=eH:=m.trans w;refine AU aj t i0 _ i0 i0 i0 (qm _) λh3 c x A=>?_;refine⟨(_,_),c.aE _ i0,e.then x (λK E _=>i4),?_⟩;have B:eZ rows op k=(cV op rows[k]).getLast?.getD 0:=by unfold eZ;rw[s]
    rw[mf,VX d D g];show _=Value.tuple #[xL #[xG xM k,xG xM (eZ rows op k)],xK eH];rw[B];rfl
   ·have g:me rows op us k=eL:=m.trans w;refine⟨k+1,i9,⟨i0,i4,λj q=>?_⟩,i4⟩;rcases zk.1 q with q|rfl
    ·exact D j q
    ·exact g
 ·refine AU aj t i0 _ i0 i0 i0 (qm _) λh3 c x A=>?_;refine⟨(_,_),c.aE _ i0,e.then x (λK E _=>i4),?_⟩;rw[mf,VW λj q=>D j i4]
theorem Gq{l:List Bool}{i:Nat}(h:i<ii l):l.getD i eL=l[i]:=by rw[qd,qc h];rfl
theorem Sb(op:List Bool)(a:aB):∀k,-1<=iH op a k/\iH op a k<k
 |0=>by simp[iH]
 |k+1=>by
  have:=Sb op a k;unfold iH;split<;>omega
theorem Ly{p:av}(a:eX)(l o u:Sl)(rows:cu)(rs:List Sl)(op us:List Bool)(h:f8)(q:uT h p a l o u rows rs op us)(hs:ii rows<=2^30)(a2:ii op<=2^30):
  an xQ 313 #[xI (dB a)] h λv h'=>aN (λ_=>True) h h'/\v=xG xM (hO rows op us):=by
 refine ts Tryz.func313 ?_ (.two .n (.two .n (.two (.two .n (.inn (.loop [(22,aS)] [(4,6),(7,8),(22,49)] (.two .n (.two .n (.two (.inn (.two .n (.two .n (.inn (.loop [(29,aS)] [(7,8),(29,48)] .n))))) .n)))))) (.two .n (.two (.two .n (.inn (.loop [(8,aS),(54,aS)] [(8,11),(54,77)] .n))) .n)))));refine⟨a,i0,o,q.c1,?_⟩;have a7:=q.sOp.len;refine Qw.run_make (f:=ak) aj ⟨_,_,i0,i0,i0,i0,i0,i0⟩ i5 0 i0 i0 op.length op.length i4 i4 (qm _) i4 λs h1 I ah a4 y a1=>?_;have V:=q.af (y.mono λ_ _ _=>trivial);refine⟨a,i0,l,V.c0,?_⟩;have ay:=q.sRows.FJ;have B:∀b,s.on b->b=h.size:=by rintro b ⟨o',K⟩;rw[ah]at K;cases K;rfl
 have Y:∀k,ii ((λ_ r=>r:Nat->aB->aB) k (rows.getD k []))<=64:=λk=>by
  show(rows.getD k []).length<=64;by_cases U:k<ii rows
  ·rw[qd,qc U];exact q.short _ (qf U)
  ·rw[qd,List.getElem?_eq_none i4];simp
 let d:=kV (λ_ r=>r) rows us (qi op.length 0);have O:∀k,ii (d k)=ii op:=λk=>by rw[Bg];simp
 have T:∀k,∀x∈d k,0<=x/\x<=64*k:=λk x hx=>Nf (λ_ r=>r) Y k x hx;refine aq (λk:Nat=>(k:Int)) (λk h'=>aN (λb=>b<h.size) h h'/\k<=ii rows/\Own h' 3 s 1 ak (d k)) (λk=>ii rows-k) 0 i0 ⟨y.mono λ_ _ _=>trivial,i4,I⟩ ?_;rintro i h2 ⟨E,hi,w⟩;have z:uT h2 p a l o u rows rs op us:=q.af (E.mono λb e _=>e);refine ag (λN=>?_) (λM=>?_)
 ·have g:i<ii rows:=i4
  have Q:rows.getD i []=rows[i]:=by rw[qd,qc g];rfl
  have hu:us.getD i eL=us[i]'(by rw[q.ulen];exact g):=Gq _;refine z.sRows.get i i0 g λr hr Z=>?_;have a0:=hr.len;have R:=q.short _ (qf g);refine aq (λk:Nat=>(k:Int)) (λk h'=>aN (λb=>b<h.size) h h'/\k<=rows[i].length/\Own h' 3 s 1 ak (if us.getD i eL then d i else kh (d i) (rows[i].take k))) (λk=>rows[i].length-k) 0 i0
   ⟨E,i4,by simpa[kh]using w⟩ ?_
  rintro j h3 ⟨A,hj,c⟩;have t:uT h3 p a l o u rows rs op us:=q.af (A.mono λb e _=>e);refine ag (λN=>?_) (λM=>?_)
  ·have G:j<rows[i].length:=i4
   have S:=t.sRows.row i r _ Z (qc g);have hc:=q.cS _ (qf g) _ (qf G);refine S.bt j i0 G _ i0 ?_;refine⟨a,i0,u,t.c2,?_⟩;refine t.sUs.bt i i0 (by rw[q.ulen];exact g) _ i0 ?_;rw[ai (j+1)];refine aQ (λe=>?_) (λe=>?_)
   ·rw[hu,e]at c;simp only[zf,if_false]at c;have J:ii (kh (d i) (rows[i].take j))=ii op:=by rw[Cb,O]
    have m:rows[i][j].toNat<ii (kh (d i) (rows[i].take j)):=by rw[J];omega
    have a5:=De (r:=rows[i].take j) (T i) _ (qf m);have a6:ii (rows[i].take j)<=64:=o6
    have ad:Seq h3 (λ_=>True) s 1 ak (kh (d i) (rows[i].take j)):=c.seq (λ_=>rfl) λ_ _=>trivial;refine ad.bt rows[i][j].toNat i4 m _ i0 ?_;rw[ai _];refine c.set aj (λ_=>rfl) i0 rows[i][j].toNat i4 m _ i0 i0 i0 λh4 F X ar=>?_;refine⟨j+1,i9,⟨A.then X (λb e _=>λao=>by have:=B b ao;omega),i4,?_⟩,i4⟩;rw[hu,e];simp only[zf,if_false];rw[aD _ _ G,PI,getD_lt m];exact F
   ·refine⟨j+1,i9,⟨A,i4,?_⟩,i4⟩;rw[hu,e]at c⊢;exact c
  ·rw[ai (i+1)];rw[qg i4]at c;refine⟨i+1,i9,⟨A,i4,?_⟩,i4⟩;have:d (i+1)=if us.getD i eL then d i else kh (d i) rows[i]:=by show kV _ _ _ _ (i+1)=_;rw[kV];simp only[Q];rfl
   rw[this];exact c
 ·have ab:i=ii rows:=i4
  subst ab;refine⟨a,i0,o,z.c1,?_⟩;have P:Seq h2 (λ_=>True) s 1 ak (d rows.length):=w.seq (λ_=>rfl) λ_ _=>trivial;have ax:=O rows.length;refine aq (λk:Nat=>(iH op (d rows.length) k,(k:Int))) (λk h'=>h'=h2/\k<=ii op) (λk=>ii op-k) 0 i0 ⟨i0,i4⟩ ?_;rintro k h3 ⟨rfl,U⟩
  try dsimp only
  have a3:=Sb op (d rows.length) k;refine ag (λN=>?_) (λM=>?_)
  ·have H:k<ii op:=i4
   refine z.sOp.bt k i0 H _ i0 ?_;rw[ai (k+1)];have D:op.getD k eL=op[k]:=Gq H;refine bf (λe=>?_) (λe=>?_)
   ·refine ag (λL=>?_) (λal=>?_)
    ·refine⟨k+1,?_,⟨i0,i4⟩,i4⟩;rw[iH,f9 (by rw[D,e,g9 L];rfl)];rfl
    ·refine P.bt k i0 i4 _ i0 ?_;refine P.bt (iH op (d rows.length) k).toNat i4 i4 _ i0 ?_;have e1:(d rows.length).getD k 0=(d rows.length)[k]:=getD_lt;have e2:(d rows.length).getD (iH op (d rows.length) k).toNat 0=(d rows.length)[(iH op (d rows.length) k).toNat]:=getD_lt;refine ag (λW=>?_) (λap=>?_)
     ·refine⟨k+1,?_,⟨i0,i4⟩,i4⟩;rw[iH,f9 (by rw[D,e,e1,e2,g9 W];simp)];rfl
     ·refine⟨k+1,?_,⟨i0,i4⟩,i4⟩;rw[iH,g0 (by rw[D,e,e1,e2,hU ap,hU al];simp)];rfl
   ·refine⟨k+1,?_,⟨i0,i4⟩,i4⟩;rw[iH,g0 (by rw[D,e];simp)];rfl
  ·have am:k=ii op:=i4
   subst am;exact⟨E.mono λb e _=>e,i0⟩
def fD(p:Int×Int):aR:=[xG xM p.1,xG xM p.2]
theorem aag:∀x,∀c∈fD x,c.oneCell'=eH:=by intro x c a;simp only[fD,qV,yt,or_false]at a;rcases a with rfl|rfl<;>rfl
def BO(n:Int)(rows:cu):List (Int×Int)×aB×aB:=
 if jA n rows then((dE n.toNat rows).steps,(dE n.toNat rows).dead,fu (dE n.toNat rows).used rows.length)else([],[],[])
def afh(b h:f8)(v:Value)(ok:Bool)(st:List (Int×Int))(a c:aB):Prop:=
 ∃s d f:Sl,v=.tuple #[xL #[s,d,f],xK ok]/\
  Sp b h [ae 338 s 2 fD st,ae 3 d 1 ak a,ae 3 f 1 ak c]
theorem adc{α β γ:Type}{j h:f8}{c:Nat->Nat}{u r s w v g:Nat}{t:α->aR}{n:β->aR}{p:γ->aR}{k m q:Sl}{l1:List α}{l2:List β}{o:List γ}(l:mj j h c)(f:dF h c 6 u k w t l1)(e:dF h c 7 r m v n l2)(a3:dF h c 8 s q g p o):
  Sp j h [ae u k w t l1,ae r m v n l2,ae s q g p o]:=by
 refine⟨λ_ h=>h,l.af,λb=>c b-5,λb a=>?_,λi A d=>?_⟩
 ·have:=l.bw b a;(try dsimp only);omega
 ·match i,d with
  |0,d=>simp at d;subst d;exact⟨f.own,λb a=>⟨f.own.lt a,by have:=f.bw b a;(try dsimp only);omega⟩⟩
  |1,d=>simp at d;subst d;exact⟨e.own,λb a=>⟨e.own.lt a,by have:=e.bw b a;(try dsimp only);omega⟩⟩
  |2,d=>simp at d;subst d;exact⟨a3.own,λb a=>⟨a3.own.lt a,by have:=a3.bw b a;(try dsimp only);omega⟩⟩
  |i+3,d=>simp at d
theorem ade{n:Int}{rows:cu}(h:jA n rows=eH):0<=n/\n<=64/\∀r∈rows,fC n r=eH:=by simp only[jA,qw,decide_eq_true_eq,qY]at h;exact⟨h.1.1,h.1.2,h.2⟩
theorem Gs{n:Int}{r:aB}(h:fC n r=eH):∀c∈r,0<=c/\c<n:=by simp only[fC,qw,qY,decide_eq_true_eq]at h;exact h.1
theorem KQ:∀{r:aB} {a n:Int},fB r=eH->(∀c∈r,a<=c/\c<n)->(ii r:Int)<=max 0 (n-a)
 |[],a,n,_,_=>i7
 |[x],a,n,_,h=>by have:=h x i9;simp;omega
 |x::y::t,a,n,hr,h=>by
  simp only[fB,qw,decide_eq_true_eq]at hr;have g:=h x i9;have f:=h y i9;have e:∀(l:aB) (z:Int),fB (z::l)=eH->∀c∈l,z<c:=by
   intro l
   induction l with
   |nil=>intro z _ c b;simp at b
   |cons w t ih=>
    intro z d c b;simp only[fB,qw,decide_eq_true_eq]at d;rcases qV.1 b with rfl|b
    ·exact d.1
    ·have:=ih w d.2 c b;omega
  have:=KQ (r:=y::t) (a:=x+1) (n:=n) hr.2 λc b=>⟨by
   rcases qV.1 b with rfl|b
   ·omega
   ·have:=e t y hr.2 c b;omega,(h c (by simp only[qV]at b⊢;exact .inr b)).2⟩
  simp only[zh]at this⊢;omega
theorem Xo{n:Int}{r:aB}(h:fC n r=eH)(c:n<=64):ii r<=64:=by have b:=Gs h;simp only[fC,qw]at h;have:=KQ (a:=0) h.2 b;omega
theorem aah(n k:Nat)(h:k<n):(qi k eH++qi (n-k) eL).set k eH=qi (k+1) eH++qi (n-(k+1)) eL:=by
 have e:n-k=(n-(k+1))+1:=i4
 rw[qS _ _ i9,e,List.replicate_succ];simp only[List.length_replicate,qW,zr];rw[List.replicate_succ' (n:=k)];simp
theorem Ow{h f:f8}{c:Nat->Nat}{a:eX}{l o u:Sl}{rows:cu}{rs:List Sl}{op us:List Bool}(q:fq f (λb=>b<f.size) l 1 ak rows rs)(j:mj f h c)(e:kw h c 2 a 388 [l,o,u])
  (n:dF h c 3 4 o 1 eO op) (m:dF h c 4 4 u 1 eO us) (i:ii us=ii rows) (p:ii op<=64) (k:∀r∈rows,fC op.length r=eH):uT h (λb=>b<h.size) a l o u rows rs op us:=
 ⟨e.box.cell0 i0,e.box.cell i0,e.box.cell i0,e.box.lt,(q.af j.af).mono λb g=>qT g j.af.1,n.SU λ_=>rfl,m.SU λ_=>rfl,i,λr d=>Gs (k r d),λr d=>Xo (k r d) i4⟩
theorem Xp(n:Int)(l:Sl)(rows:cu)(rs:List Sl)(h:f8)(hl:fq h (λb=>b<h.size) l 1 ak rows rs)(hs:ii rows<=2^30)(c7:∀r∈rows,ii r<=2^40):
  an xQ 255 #[xG xM n,l] h λv h'=>afh h h' v (jA n rows) (BO n rows).1 (BO n rows).2.1 (BO n rows).2.2:=by
 refine ts Tryz.func255 ?_ (.two .n (.scope 1 [] [(5,6),(9,14),(42,108)] [.n,(.join [(6,Nv)] [(6,7),(19,27)] .n),(.two .n (.inn (.loop [(32,aS)] [(7,8),(32,42)] .n))),.n] [(.two .n (.two (.join [] [(9,12),(48,88)] .n) .n))] [(0,[(.two (.two .n (.inn (.loop [(93,aS)] [(12,14),(93,107)] .n))) .n)])])) [(3,(.y [0,1,3,4] (.l [2,5,6,7,8]) (.l [5,2,6,7,8])))];have ej:=hl.FJ;refine rX aj (mj.refl h) 1 i0 λa1 h1 br d0=>?_;have F:=(mj.refl h).keep (m:=1) d0 i5;refine(JG n l rows rs h1 (hl.af F.af) i4 c7).mono ?_;rintro v h2 ⟨rfl,rfl⟩;refine⟨_,i0,?_⟩;refine aQ (λhr=>?_) (λhr=>?_)
 ·refine br.ja aj i0 _ i0 i0 i0 (qm _) λh3 ah D=>?_;refine⟨(⟨ez,0,0⟩,⟨ez,0,0⟩,⟨ez,0,0⟩),ah.box.aE _ i0,?_⟩;refine⟨⟨ez,0,0⟩,⟨ez,0,0⟩,⟨ez,0,0⟩,by rw[hr],?_⟩;simp only[BO,hr,zf,if_false];exact(((Sp.zip (F.keep (m:=1) D i5).af).nil 338 2 fD).nil 3 1 ak).nil 3 1 ak
 ·obtain⟨eo,ek,b4⟩:=ade hr;obtain⟨N,rfl⟩:∃N:Nat,n=N:=⟨n.toNat,i4⟩
  have hN:N<=64:=i4
  refine bG (λs h'=>∃c a o u,s=dB a/\mj h h' c/\kw h' c 1 a1 262 [xH ez 0 0,xH ez 0 0,xH ez 0 0]/\kw h' c 2 a 388 [l,xH o.ptr o.len o.cap,xH u.ptr u.len u.cap]/\
   dF h' c 3 4 o 1 eO (qi N eL)/\dF h' c 4 4 u 1 eO (qi rows.length eL)) ⟨?_,?_⟩ ?_
  ·refine uu aj F 3 eO ⟨_,_,i0,i0,i0,i0,i0,i0⟩ i5 eL i0 i0 N i0 i0 i4 λo h3 ho D=>?_;refine⟨trivial,?_⟩;refine uu aj (F.keep (m:=3) D i5) 4 eO ⟨_,_,i0,i0,i0,i0,i0,i0⟩ i5 eL i0 i0 rows.length i4 i4 i4 λu h4 hu I=>?_;refine⟨trivial,?_⟩;refine Mu _ ((F.keep (m:=3) D i5).keep (m:=4) I i5) 2 λa h5 ha B=>?_;exact⟨trivial,_,a,o,u,i0,((F.keep D i5).keep I i5).keep B i5,((br.keep D i5).keep I i5).keep B i5,ha,(ho.keep I i5).keep B i5,hu.keep B i5⟩
  ·refine uu aj F 4 eO ⟨_,_,i0,i0,i0,i0,i0,i0⟩ i5 eL i0 i0 rows.length i4 i4 i4 λu h3 hu D=>?_;refine⟨trivial,?_⟩;refine uu aj (F.keep (m:=4) D i5) 3 eO ⟨_,_,i0,i0,i0,i0,i0,i0⟩ i5 eL i0 i0 N i0 i0 i4 λo h4 ho I=>?_;refine⟨trivial,?_⟩;refine Mu _ ((F.keep (m:=4) D i5).keep (m:=3) I i5) 2 λa h5 ha B=>?_;exact⟨trivial,_,a,o,u,i0,((F.keep D i5).keep I i5).keep B i5,((br.keep D i5).keep I i5).keep B i5,ha,ho.keep B i5,(hu.keep I i5).keep B i5⟩
  ·rintro s h3 ⟨c,a,o,u,rfl,cf,a9,ah,al,cs⟩;refine⟨a,i0,o,ah.box.cell i0,?_⟩;have es:o.len=N:=by rw[al.own.len];simp
   refine aq (λt:Nat×(Nat->Nat)=>(t.1:Int)) (λt h'=>t.1<=N/\mj h h' t.2/\kw h' t.2 1 a1 262 [xH ez 0 0,xH ez 0 0,xH ez 0 0]/\kw h' t.2 2 a 388 [l,o,u]/\
    dF h' t.2 3 4 o 1 eO (qi t.1 eH++qi (N-t.1) eL)/\dF h' t.2 4 4 u 1 eO (qi rows.length eL)) (λt=>N-t.1) (0,c) i0 ⟨i9,cf,a9,ah,by simpa using al,cs⟩ ?_
   rintro⟨k,c⟩ h4 ⟨hk,bd,b0,bk,a8,cc⟩;dsimp only at*;refine ag (λec=>?_) (λd8=>?_)
   ·have dk:k<N:=i4
    refine⟨a,i0,o,bk.box.cell i0,?_⟩;refine a8.set aj (λ_=>rfl) i0 k i0 i7 eH i0 i0 i0 λh5 bb B=>?_;rw[ai _];rw[aah _ _ dk]at bb;exact⟨(k+1,_),i9,⟨i7,bd.keep B i5,b0.keep B i5,bk.keep B i5,bb,cc.keep B i5⟩,i7⟩
   ·have dx:k=N:=i4
    subst dx;simp only[qW,List.replicate_zero,qF]at a8;refine rX aj bd 5 i0 λap h5 dy B=>?_;have d6:=bd.keep (m:=5) B i5;have dp:=b0.keep (m:=5) B i5;have d7:=bk.keep (m:=5) B i5;have bb:=a8.keep (m:=5) B i5;have du:=cc.keep (m:=5) B i5;clear bd b0 bk a8 cc cf a9 ah al cs;generalize grow c h4.size 5=c5 at*;refine aq (τ:=Nat×List Bool×List Bool×(List (Int×Int))×aB×(Nat->Nat)×Sl×Sl) (λ_=>())
     (λ⟨f,op,us,st,dd,c,ss,ds⟩ h'=>ii op=k/\us.length=ii rows/\op.count eH<=f/\f<=k/\st.length<=k-f/\dd.length<=k-f/\
      (∃r,cB rows f op us=r/\dE k rows=⟨st++r.steps,dd++r.dead,r.used⟩)/\mj h h' c/\
      kw h' c 1 a1 262 [xH ez 0 0,xH ez 0 0,xH ez 0 0]/\kw h' c 2 a 388 [l,o,u]/\
      dF h' c 3 4 o 1 eO op/\dF h' c 4 4 u 1 eO us/\
      kw h' c 5 ap 262 [ss,ds,xH ez 0 0]/\dF h' c 6 338 ss 2 fD st/\dF h' c 7 3 ds 1 ak dd)
     (λt=>t.1) (k,qi k eH,qi rows.length eL,[],[],c5,⟨ez,0,0⟩,⟨ez,0,0⟩) i0
     ⟨i9,i9,i9,i9,i9,i9,⟨_,i0,by simp[dE]⟩,d6,dp,d7,bb,du,dy,dF.nil _ _ _ _ _ _,dF.nil _ _ _ _ _ _⟩ ?_
    rintro⟨f,op,us,st,dd,c,ss,ds⟩ h6 ⟨ay,J,ei,en,eg,ef,⟨r,a3,bq⟩,M,ao,P,ab,U,O,L,K⟩;dsimp only at*;have H:∀r∈rows,fC op.length r=eH:=by rw[ay];exact b4
    have a0:=Ow hl M P ab U J i4 H;refine⟨a,i0,o,P.box.cell i0,?_⟩;refine(DX o op eH h6 (ab.SU λ_=>rfl) i4).mono ?_;rintro v h7 ⟨rfl,rfl⟩;refine⟨_,i0,?_⟩;refine aQ (λhc=>?_) (λhc=>?_)
    ·have ad:op.contains eH=eL:=by simpa using hc
     have a9:r=⟨[],[],us⟩:=by rw[<-a3];exact uF ad f
     subst a9;simp only[qF]at bq;refine⟨a,i0,u,P.box.cell i0,?_⟩;have el:u.len=ii rows:=by rw[U.own.len,J]
     refine aq (λt:Nat×(Nat->Nat)×Sl=>(t.1:Int)) (λ⟨j,c,fs⟩ h'=>j<=ii rows/\mj h h' c/\
      kw h' c 1 a1 262 [xH ez 0 0,xH ez 0 0,xH ez 0 0]/\dF h' c 4 4 u 1 eO us/\
      kw h' c 5 ap 262 [ss,ds,fs]/\dF h' c 6 338 ss 2 fD st/\dF h' c 7 3 ds 1 ak dd/\dF h' c 8 3 fs 1 ak (fu us j)) (λt=>ii rows-t.1) (0,c,⟨ez,0,0⟩) i0
      ⟨i9,M,ao,U,O,L,K,dF.nil _ _ _ _ _ _⟩ ?_
     rintro⟨j,c,fs⟩ h8 ⟨hj,bl,b9,ca,W,a4,am,a2⟩;dsimp only at*;refine ag (λec=>?_) (λd8=>?_)
     ·have er:j<ii rows:=i4
      have ep:ii (fu us j)<=j:=EO us j;refine(ca.SU λ_=>rfl).bt j i0 i4 _ i0 ?_;have cq:us.getD j eL=us[j]:=Gq i4;rw[ai _];refine aQ (λhb=>?_) (λhb=>?_)
      ·refine⟨fs,W.box.cell i0,?_⟩;refine FL aj bl 9 ak ⟨_,_,i0,i0,i0,i0,i0,i0⟩ i0 [(j:Int)] i0 (zE i0) i0 λv h9 dr p=>?_;refine(a2.keep (m:=9) p i5).append aj ⟨_,_,i0,i0,i0,i0,i0,i0⟩ ⟨_,_,i0,i0⟩ i0 i5 (λ_=>rfl) (dr.seq λ_=>rfl) eC i7 λd4 b3 b6 g=>?_;refine((W.keep (m:=9) p i5).keep (m:=8) g i5).store aj i0 2 _ i0 i0 i0 (zE i0) λc2 b5 d=>?_;refine⟨(j+1,_,d4),i9,⟨i7,((bl.keep p i5).keep g i5).keep d i5,((b9.keep p i5).keep g i5).keep d i5,((ca.keep p i5).keep g i5).keep d i5,b5,
        ((a4.keep p i5).keep g i5).keep d i5,((am.keep p i5).keep g i5).keep d i5,?_⟩,i7⟩
       have e:fu us (j+1)=fu us j++[(j:Int)]:=by rw[fu,cq,hb];rfl
       rw[e];exact b6.keep d i5
      ·have e:fu us (j+1)=fu us j:=by rw[fu,cq,hb];rfl
       exact⟨(j+1,c,fs),i9,⟨i7,bl,b9,ca,W,a4,am,by rw[e];exact a2⟩,i7⟩
     ·have d3:j=ii rows:=i4
      subst d3;refine⟨(ss,ds,fs),W.box.aE _ i0,?_⟩;refine b9.ja aj i0 _ i0 i0 i0 (qm _) λh9 ea p=>?_;refine⟨(ss,ds,fs),ea.box.aE _ i0,?_⟩;refine⟨ss,ds,fs,by rw[hr],?_⟩;simp only[BO,hr,if_true,qk,bq];exact adc (bl.keep (m:=1) p i5) (a4.keep (m:=1) p i5) (am.keep (m:=1) p i5) (a2.keep (m:=1) p i5)
    ·have ad:op.contains eH=eH:=by simpa using hc
     obtain⟨f',rfl⟩:∃f',f=f'+1:=by obtain⟨j,hj,e⟩:=Df ad;have:=kD e;exact⟨f-1,i4⟩
     refine aT ?_;refine(Lx a l o u rows rs op us h7 a0 i4).mono ?_;rintro v h8 ⟨A,rfl⟩;have A:=A.bw c 9;cases hst:mf rows op us with
     |some i=>
      obtain⟨hi,ee⟩:=sj hst;obtain⟨eq,ed,al⟩:=Bh ee;have c6:rows.getD i []=rows[i]:=by rw[qd,qc hi];rfl
      have eh:=Gs (H _ (qf hi)) _ (c6▸ed);refine⟨((i,eZ rows op i),eH),i0,?_⟩
      try dsimp only
      refine rX aj (M.keep (m:=9) A i5) 9 i0 λax h9 has p=>?_;refine has.ja aj i0 _ i0 i0 i0 (qm _) λb3 S g=>?_;refine CB i0 ?_;have G:=((M.keep (m:=9) A i5).keep (m:=9) p i5).keep (m:=9) g i5;have a5:=((ao.keep (m:=9) A i5).keep (m:=9) p i5).keep (m:=9) g i5;have Z:=((P.keep (m:=9) A i5).keep (m:=9) p i5).keep (m:=9) g i5;have Y:=((ab.keep (m:=9) A i5).keep (m:=9) p i5).keep (m:=9) g i5;have X:=((U.keep (m:=9) A i5).keep (m:=9) p i5).keep (m:=9) g i5;have E:=((O.keep (m:=9) A i5).keep (m:=9) p i5).keep (m:=9) g i5;have R:=((L.keep (m:=9) A i5).keep (m:=9) p i5).keep (m:=9) g i5;have Q:=((K.keep (m:=9) A i5).keep (m:=9) p i5).keep (m:=9) g i5;clear M ao P ab U O L K A p has a0;generalize grow (grow (grow c h7.size 9) h8.size 9) h9.size 9=c10 at*;refine⟨ss,E.box.cell0 i0,(_,_),S.box.aE _ i0,?_⟩
      try dsimp only
      refine FL aj G 10 fD ⟨_,_,i0,i0,i0,i0,i0,i0⟩ i0 [((i:Int),eZ rows op i)] i0 (zE i0) i0 λv c2 c4 d=>?_;refine(R.keep (m:=10) d i5).append aj ⟨_,_,i0,i0,i0,i0,i0,i0⟩ ⟨_,_,i0,i0⟩ i0 i5 (λ_=>rfl) (c4.seq λ_=>rfl) aag i7 λd1 eb b1 q=>?_;refine((E.keep (m:=10) d i5).keep (m:=6) q i5).ja aj i0 _ i0 i0 i0 (zE i0) λda b7 w=>?_;have T:=((S.keep (m:=10) d i5).keep (m:=6) q i5).keep (m:=5) w i5;have ar:=((Z.keep (m:=10) d i5).keep (m:=6) q i5).keep (m:=5) w i5;have c0:=((X.keep (m:=10) d i5).keep (m:=6) q i5).keep (m:=5) w i5;have cp:=((Y.keep (m:=10) d i5).keep (m:=6) q i5).keep (m:=5) w i5;refine⟨a,i0,u,ar.box.cell i0,(i:Int),T.box.cell0 i0,a,i0,o,ar.box.cell i0,eZ rows op i,T.box.cell i0,?_⟩;refine c0.set aj (λ_=>rfl) i0 i i0 i4 eH i0 i0 i0 λc9 cl z=>?_;have a6:=T.keep (m:=4) z i5;have V:=ar.keep (m:=4) z i5;refine⟨⟨a6.box.cell i0,trivial⟩,?_⟩;refine(cp.keep (m:=4) z i5).set aj (λ_=>rfl) i0 (eZ rows op i).toNat i4 i4 eL i0 i0 i0 λc8 a7 x=>?_;have dj:=a6.keep (m:=3) x i5;have cr:=V.keep (m:=3) x i5;refine⟨trivial,?_⟩;have d9:=kD (op:=op) (j:=(eZ rows op i).toNat) al;rw[nW ad hst]at a3;refine⟨(f',op.set (eZ rows op i).toNat eL,us.set i eH,st++[((i:Int),eZ rows op i)],dd,_,d1,ds),i0,⟨by simp[ay],by simp[J],i6,i6,i7,i6,⟨_,i0,?_⟩,
       ((((G.keep d i5).keep q i5).keep w i5).keep z i5).keep x i5,
       ((((a5.keep d i5).keep q i5).keep w i5).keep z i5).keep x i5,
       cr,a7,cl.keep x i5,(b7.keep z i5).keep x i5,((b1.keep w i5).keep z i5).keep x i5,
       ((((Q.keep d i5).keep q i5).keep w i5).keep z i5).keep x i5⟩,i6⟩
      rw[bq,<-a3];simp
     |none=>
      have d5:=rj (rows:=rows) (us:=us) ad;refine⟨((0,0),eL),i0,?_⟩
      try dsimp only
      refine rX aj (M.keep (m:=9) A i5) 9 i0 λax h9 has p=>?_;refine has.ja aj i0 _ i0 i0 i0 (qm _) λb3 S g=>?_;refine sV i0 ?_;have G:=((M.keep (m:=9) A i5).keep (m:=9) p i5).keep (m:=9) g i5;have a5:=((ao.keep (m:=9) A i5).keep (m:=9) p i5).keep (m:=9) g i5;have Z:=((P.keep (m:=9) A i5).keep (m:=9) p i5).keep (m:=9) g i5;have Y:=((ab.keep (m:=9) A i5).keep (m:=9) p i5).keep (m:=9) g i5;have X:=((U.keep (m:=9) A i5).keep (m:=9) p i5).keep (m:=9) g i5;have E:=((O.keep (m:=9) A i5).keep (m:=9) p i5).keep (m:=9) g i5;have R:=((L.keep (m:=9) A i5).keep (m:=9) p i5).keep (m:=9) g i5;have Q:=((K.keep (m:=9) A i5).keep (m:=9) p i5).keep (m:=9) g i5;clear M ao P ab U O L K A p has a0;generalize grow (grow (grow c h7.size 9) h8.size 9) h9.size 9=c10 at*;have a0:=Ow hl G Z Y X J i4 H;refine(Ly a l o u rows rs op us b3 a0 i4 i4).mono ?_;rintro v c2 ⟨d,rfl⟩;have d:=d.bw c10 9;refine⟨_,i0,?_⟩;refine⟨ds,(E.keep (m:=9) d i5).box.cell i0,?_⟩;refine FL aj (G.keep (m:=9) d i5) 10 ak ⟨_,_,i0,i0,i0,i0,i0,i0⟩ i0 [hO rows op us] i0 (zE i0) i0 λv eb c1 q=>?_;refine((Q.keep (m:=9) d i5).keep (m:=10) q i5).append aj ⟨_,_,i0,i0,i0,i0,i0,i0⟩ ⟨_,_,i0,i0⟩ i0 i5 (λ_=>rfl) (c1.seq λ_=>rfl) eC i7 λd2 da cd w=>?_;refine(((E.keep (m:=9) d i5).keep (m:=10) q i5).keep (m:=7) w i5).store aj i0 1 _ i0 i0 i0 (zE i0) λc9 b2 z=>?_;have V:=(((Z.keep (m:=9) d i5).keep (m:=10) q i5).keep (m:=7) w i5).keep (m:=5) z i5;have cn:=(((Y.keep (m:=9) d i5).keep (m:=10) q i5).keep (m:=7) w i5).keep (m:=5) z i5;refine⟨a,i0,o,V.box.cell i0,?_⟩;refine cn.set aj (λ_=>rfl) i0 (hO rows op us).toNat i4 i4 eL i0 i0 i0 λc8 a7 x=>?_;have d9:=kD (op:=op) (j:=(hO rows op us).toNat) d5.2.2;rw[nX ad hst]at a3;refine⟨(f',op.set (hO rows op us).toNat eL,us,st,dd++[hO rows op us],_,ss,d2),i0,⟨by simp[ay],J,i6,i6,i6,i7,⟨_,i0,?_⟩,
       ((((G.keep d i5).keep q i5).keep w i5).keep z i5).keep x i5,
       ((((a5.keep d i5).keep q i5).keep w i5).keep z i5).keep x i5,
       V.keep x i5,a7,((((X.keep d i5).keep q i5).keep w i5).keep z i5).keep x i5,b2.keep x i5,
       ((((R.keep d i5).keep q i5).keep w i5).keep z i5).keep x i5,
       (cd.keep z i5).keep x i5⟩,i6⟩
      rw[bq,<-a3];simp
theorem Iq(pool:List (Sl×Row))(d:(⟨ez,0,0⟩,[])∈pool)(n:Nat):ie pool id (qi n ⟨ez,0,0⟩) (qi n []):=
 ⟨i9,λi r l a b=>by
  rw[zO]at a b;split at a
  ·rename_i c;rw[f9 c]at b;cases a;cases b;exact d
  ·cases a⟩
theorem aa.adf{B:av}{b h:f8}{As:List HP}(H:aa B b h As)(i:Nat){pool:List (Sl×Row)}(c:As[i]?=dB (kL pool)):aa B b h (As.set i (kL ((⟨ez,0,0⟩,[])::pool))):=
 H.dX i c λq d x a=>by
  rcases qV.1 a with rfl|a
  ·exact Seq.nil _ _ _ _ _ _
  ·exact d x a
structure Uf (h:f8) (f:eX) (r st dd lf:Sl) (rr:List (Sl×Sl)) (R:List fe) (ST:List (Int×Int)) (D L:aB):Prop where
 field:fy h f
 rest:nl jm 2 qv h r rr R
 steps:Rd h st 2 fD ST
 dead:Rd h dd 1 ak D
 left:Rd h lf 1 ak L
abbrev SA(s:eX)(a:aR):HP:=ac s 264 a
abbrev HA(s:Sl)(rs:List Sl):HP:=ae 58 s 1 aX rs
abbrev RA(s:Sl)(l:Row):HP:=ae 5 s 1 aw l
theorem KR{R:cu}:∀{l1 l2:List (Int×Int)} {D:Int->Prop},rm R D (l1++l2)->rm R D l1/\rm R (λx=>D x∨∃i,(i,x)∈l1) l2
 |[],l2,D,h=>⟨trivial,by
  have:(λx=>D x∨∃i,(i,x)∈([]:List (Int×Int)))=D:=by funext x;simp
  rw[this];exact h⟩
 |(i,c)::l1,l2,D,h=>by
  obtain⟨a,b,f,d,e⟩:=h;obtain⟨k,g⟩:=KR e;refine⟨⟨a,b,f,d,k⟩,?_⟩;have:(λx=>D x∨∃j,(j,x)∈(i,c)::l1)=λx=>(D x∨x=c)∨∃j,(j,x)∈l1:=by
   funext x;simp only[qV,Prod.mk.injEq,eq_iff_iff];constructor
   ·rintro(h|⟨j,⟨_,h⟩|h⟩)
    ·exact .inl (.inl h)
    ·exact .inl (.inr h)
    ·exact .inr ⟨j,h⟩
   ·rintro((h|h)|⟨j,h⟩)
    ·exact .inl h
    ·exact .inr ⟨i,.inl ⟨i0,h⟩⟩
    ·exact .inr ⟨j,.inr h⟩
  rw[this];exact g
variable {B:av} {h0 h:f8} {As:List HP}
theorem Qt(s f:eX)(p:Int×Int×Int)(v r st X W N O:Sl)(n:Nat)(pool:List (Sl×Row))(H:aa B h0 h (SA s (gz f p v r st X W N O)::kL pool::As))(l:v.len=n)(Z:n<=64){K:Unit->f8->Prop}
  (R:∀j d h',j.len=n->d.len=n->aa B h0 h' (SA s (gz f p v r st X W j d)::HA j (qi n ⟨ez,0,0⟩)::HA d (qi n ⟨ez,0,0⟩)::kL pool::As)->K () h'):(λ(c:bZ) (K1:Unit->f8->Prop)=>
 ∃a3:eX,(c=dB a3)/\
 ∃b:Sl,f7 h (a3.add 4)=dB (xH b.ptr b.len b.cap)/\
 ∃a5:eX,(c=dB a5)/\
 ∃a:Sl,f7 h (a5.add 4)=dB (xH a.ptr a.len a.cap)/\
 (bz xQ (zw 43 (xG xM ((b.len:Nat):Int)) (xG xM ((b.len:Nat):Int))) (.one (.sc .slc)) h λy G=>
 (bQ.ok [(a5.add 4,(xH a.ptr a.len a.cap)),(a3.add 4,(xH b.ptr b.len b.cap))] G)/\
 ∃Q:eX,(c=dB Q)/\
 (bz xQ (zw 43 (xG xM ((a.len:Nat):Int)) (xG xM ((a.len:Nat):Int))) (.one (.sc .slc)) G λv9 D=>
 (bQ.ok [(a5.add 4,(xH a.ptr a.len a.cap)),(a3.add 4,(xH b.ptr b.len b.cap))] D)/\
 au xQ (qE 43 (xI (dB (Q.add 9))) (xH y.ptr y.len y.cap)) D λ_ h3=>
 (bQ.ok [] h3)/\
 ∃E:eX,(c=dB E)/\
 au xQ (qE 43 (xI (dB (E.add 10))) (xH v9.ptr v9.len v9.cap)) h3 λ_ q=>
 (bQ.ok [] q)/\
 K1 () q)/\(au xQ (qE 43 (xI (dB (Q.add 9))) (xH y.ptr y.len y.cap)) G λ_ V=>
 (bQ.ok [] V)/\
 bz xQ (zw 43 (xG xM ((a.len:Nat):Int)) (xG xM ((a.len:Nat):Int))) (.one (.sc .slc)) V λu S=>
 (bQ.ok [] S)/\
 ∃J:eX,(c=dB J)/\
 au xQ (qE 43 (xI (dB (J.add 10))) (xH u.ptr u.len u.cap)) S λ_ T=>
 (bQ.ok [] T)/\
 K1 () T))/\(bz xQ (zw 43 (xG xM ((a.len:Nat):Int)) (xG xM ((a.len:Nat):Int))) (.one (.sc .slc)) h λx h8=>
 (bQ.ok [(a5.add 4,(xH a.ptr a.len a.cap)),(a3.add 4,(xH b.ptr b.len b.cap))] h8)/\
 bz xQ (zw 43 (xG xM ((b.len:Nat):Int)) (xG xM ((b.len:Nat):Int))) (.one (.sc .slc)) h8 λt Y=>
 (bQ.ok [(a5.add 4,(xH a.ptr a.len a.cap)),(a3.add 4,(xH b.ptr b.len b.cap))] Y)/\
 ∃A:eX,(c=dB A)/\
 au xQ (qE 43 (xI (dB (A.add 9))) (xH t.ptr t.len t.cap)) Y λ_ I=>
 (bQ.ok [] I)/\
 ∃z:eX,(c=dB z)/\
 au xQ (qE 43 (xI (dB (z.add 10))) (xH x.ptr x.len x.cap)) I λ_ L=>
 (bQ.ok [] L)/\
 K1 () L)) (dB s) K:=by
 have U:=H.box 0 i0;refine⟨s,i0,v,U.cell i0,s,i0,v,U.cell i0,?_,?_⟩
 ·refine H.make aj aX fw i5 ⟨ez,0,0⟩ i0 i0 n n pb pb (qm _) i4 λj G o P m=>?_;have m:=m.be;have k:=m.box 1 i0;refine⟨⟨k.cell i0,k.cell i0,trivial⟩,s,i0,?_,?_⟩
  ·refine m.make aj aX fw i5 ⟨ez,0,0⟩ i0 i0 n n pb pb (qm _) i4 λd D i F e=>?_;have e:=e.be;have g:=e.box 2 i0;refine⟨⟨g.cell i0,g.cell i0,trivial⟩,?_⟩;refine e.store aj 2 i0 i0 9 [j] i0 i0 i0 nn λh3 w=>⟨trivial,s,i0,?_⟩
   refine w.store aj 2 i0 i0 10 [d] i0 i0 i0 nn λq M=>⟨trivial,?_⟩
   exact R j d q o i (M.aL 4 [2,1,0,3])
  ·refine m.store aj 1 i0 i0 9 [j] i0 i0 i0 nn λD e=>⟨trivial,?_⟩
   refine e.make aj aX fw i5 ⟨ez,0,0⟩ i0 i0 n n pb pb (qm _) i4 λd h3 i F w=>⟨trivial,s,i0,?_⟩
   have w:=w.be;refine w.store aj 2 i0 i0 10 [d] i0 i0 i0 nn λq M=>⟨trivial,?_⟩
   exact R j d q o i (M.aL 4 [2,1,0,3])
 ·refine H.make aj aX fw i5 ⟨ez,0,0⟩ i0 i0 n n pb pb (qm _) i4 λd G o P m=>?_;have m:=m.be;have k:=m.box 1 i0;refine⟨⟨k.cell i0,k.cell i0,trivial⟩,?_⟩;refine m.make aj aX fw i5 ⟨ez,0,0⟩ i0 i0 n n pb pb (qm _) i4 λj D i F e=>?_;have e:=e.be;have g:=e.box 2 i0;refine⟨⟨g.cell i0,g.cell i0,trivial⟩,s,i0,?_⟩;refine e.store aj 2 i0 i0 9 [j] i0 i0 i0 nn λh3 w=>⟨trivial,s,i0,?_⟩
  refine w.store aj 2 i0 i0 10 [d] i0 i0 i0 nn λq M=>⟨trivial,?_⟩
  exact R j d q i o (M.aL 4 [2,0,1,3])
theorem Xq(n nd w:Nat)(d:aB):(fQ n nd w d).1.length=n/\(fQ n nd w d).2.length=n:=by
 unfold fQ;have:∀(l:List (Int×Nat)) (s:aI×aI),(l.foldl (λs p=>(s.1.set p.1.toNat (ny nd p.2),s.2.set p.1.toNat (aM w))) s).1.length=ii s.1/\(l.foldl (λs p=>(s.1.set p.1.toNat (ny nd p.2),s.2.set p.1.toNat (aM w))) s).2.length=ii s.2:=by
  intro l
  induction l with
  |nil=>intro s;exact⟨i0,i0⟩
  |cons a l ih=>intro s;rw[zx];have:=ih (s.1.set a.1.toNat (ny nd a.2),s.2.set a.1.toNat (aM w));simpa using this
 have:=this d.zipIdx (qi n [],qi n []);simpa using this
abbrev Told(s f:eX)(p:Int×Int×Int)(v r st c d a b:Sl)(h e:List Sl)(g:List (Sl×Row)):List HP:=[SA s (gz f p v r st c d a b),HA a h,HA b e,kL g]
theorem Ug(s f:eX)(p:Int×Int×Int)(v r st S lf wa N:Sl)(I mr:List Sl)(pl:List (Sl×Row))(c:Int)(nd w:Nat)(H:aa B h0 h (Told s f p v r st S lf wa N I mr pl++As))(ap:0<=c)(hw:c.toNat<ii I)(hm:c.toNat<ii mr)(X:p.2.2=w)(hd:S.len=nd)(ar:nd<=64)(U:w<=2^20){K:Unit->f8->Prop}
  (hk:∀a b h',aa B h0 h' (RA a (aM nd)::RA b (aM w)::(Told s f p v r st S lf wa N (I.set c.toNat a) (mr.set c.toNat b) pl++As))->K () h'):(λ(O:bZ) (K3:Unit->f8->Prop)=>
 ∃n:eX,(O=dB n)/\
 ∃g:Sl,f7 h (n.add 9)=dB (xH g.ptr g.len g.cap)/\
 ∃a25:eX,(O=dB a25)/\
 ∃d:Sl,f7 h (a25.add 10)=dB (xH d.ptr d.len d.cap)/\
 ∃M:eX,(O=dB M)/\
 ∃j:Int,f7 h ((M.add 1).add 2)=dB (xG xM j)/\
 (bz xQ (zw 58 (xG xM ((S.len:Nat):Int)) (xG xM ((S.len:Nat):Int))) (.one (.sc .slc)) h λl L=>
 (bQ.ok [((M.add 1).add 2,(xG xM j)),(a25.add 10,(xH d.ptr d.len d.cap)),(n.add 9,(xH g.ptr g.len g.cap))] L)/\
 ∃W:eX,(g.ptr=dB W/\0<=c/\c<((g.len:Nat):Int))/\
 (bz xQ (zw 58 (xG xM j) (xG xM j)) (.one (.sc .slc)) L λP Z=>
 (bQ.ok [(a25.add 10,(xH d.ptr d.len d.cap)),(n.add 9,(xH g.ptr g.len g.cap))] Z)/\
 au xQ (qE 58 (xI (dB (W.add (c.toNat*1)))) (xH l.ptr l.len l.cap)) Z λ_ D=>
 (bQ.ok [] D)/\
 ∃A:eX,(d.ptr=dB A/\0<=c/\c<((d.len:Nat):Int))/\
 au xQ (qE 58 (xI (dB (A.add (c.toNat*1)))) (xH P.ptr P.len P.cap)) D λ_ y=>
 (bQ.ok [] y)/\
 K3 () y)/\(au xQ (qE 58 (xI (dB (W.add (c.toNat*1)))) (xH l.ptr l.len l.cap)) L λ_ F=>
 (bQ.ok [] F)/\
 bz xQ (zw 58 (xG xM j) (xG xM j)) (.one (.sc .slc)) F λk E=>
 (bQ.ok [] E)/\
 ∃t:eX,(d.ptr=dB t/\0<=c/\c<((d.len:Nat):Int))/\
 au xQ (qE 58 (xI (dB (t.add (c.toNat*1)))) (xH k.ptr k.len k.cap)) E λ_ q=>
 (bQ.ok [] q)/\
 K3 () q))/\(bz xQ (zw 58 (xG xM j) (xG xM j)) (.one (.sc .slc)) h λJ ao=>
 (bQ.ok [(a25.add 10,(xH d.ptr d.len d.cap)),(n.add 9,(xH g.ptr g.len g.cap))] ao)/\
 bz xQ (zw 58 (xG xM ((S.len:Nat):Int)) (xG xM ((S.len:Nat):Int))) (.one (.sc .slc)) ao λQ ah=>
 (bQ.ok [(a25.add 10,(xH d.ptr d.len d.cap)),(n.add 9,(xH g.ptr g.len g.cap))] ah)/\
 ∃al:eX,(g.ptr=dB al/\0<=c/\c<((g.len:Nat):Int))/\
 au xQ (qE 58 (xI (dB (al.add (c.toNat*1)))) (xH Q.ptr Q.len Q.cap)) ah λ_ ab=>
 (bQ.ok [] ab)/\
 ∃am:eX,(d.ptr=dB am/\0<=c/\c<((d.len:Nat):Int))/\
 au xQ (qE 58 (xI (dB (am.add (c.toNat*1)))) (xH J.ptr J.len J.cap)) ab λ_ ad=>
 (bQ.ok [] ad)/\
 K3 () ad)) (dB s) K:=by
 have hb:=H.box 0 i0;have mk:∀{Y:f8} {Cs:List HP} (m:Nat) (hm:m<=2^20) {z1 z2:Int},z1=(m:Int)->z2=(m:Int)->aa B h0 Y Cs->∀{K:Sl->f8->Prop},(∀a h',aa B h0 h' (RA a (aM m)::Cs)->K a h')->
   bz xQ (zw 58 (xG xM z1) (xG xM z2)) (.one (.sc .slc)) Y K:=by
  intro Y Cs m hm z1 z2 e1 e2 G K hK;subst e1;subst e2;exact G.make aj aw gF i5 0 i0 i0 m m i0 i0 (qm _) i4 λa h' _ _ H'=>hK a h' H'.be
 refine⟨s,i0,wa,hb.cell i0,s,i0,N,hb.cell i0,s,i0,p.2.2,show f7 h (s.add 3)=_ from hb.cell i0,?_,?_⟩
 ·refine mk nd i4 (by rw[hd]) (by rw[hd]) H λa Y G=>?_;have o:=G.box 1 i0;refine⟨⟨show f7 Y (s.add 3)=_ from o.cell i0,o.cell i0,o.cell i0,trivial⟩,?_⟩;have z:∀{h2:f8} {Cs:List HP} {I:List Sl} (i:Nat) (a:Sl) {s':Sl},aa B h0 h2 Cs->Cs[i]?=dB (HA s' I)->c.toNat<ii I->∀{K:f8->Prop},(∀h',aa B h0 h' (Cs.set i (HA s' (I.set c.toNat a)))->K h')->∃x:eX,(s'.ptr=dB x/\0<=c/\c<((s'.len:Nat):Int))/\au xQ (qE 58 (xI (dB (x.add (c.toNat*1)))) (xH a.ptr a.len a.cap)) h2 λ_ h'=>K h':=by intro h2 Cs I i a s' R hi hl K hK;exact R.set aj i hi (λ_=>rfl) i0 c.toNat i4 hl a i0 i0 i0 λh3 T=>hK h3 T
  obtain⟨x,hx,-⟩:=z (K:=λ_=>True) 2 a G rfl hw λ_ _=>trivial;refine⟨x,hx,?_,?_⟩
  ·refine mk w U X X G λb h2 R=>?_;have u:=R.box 2 i0;refine⟨⟨u.cell i0,u.cell i0,trivial⟩,?_⟩;obtain⟨x',V,hr⟩:=z (K:=λD=>bQ.ok [] D/\∃A:eX,(N.ptr=dB A/\0<=c/\c<((N.len:Nat):Int))/\
 au xQ (qE 58 (xI (dB (A.add (c.toNat*1)))) (xH b.ptr b.len b.cap)) D λ_ y=>(bQ.ok [] y)/\K () y) 3 a R i0 hw λh3 T=>⟨trivial,z 4 b T i0 hm λh4 H4=>⟨trivial,hk a b h4 (H4.aL 6 [1,0,2,3,4,5])⟩⟩
   have e:x=x':=zQ.inj (hx.1.symm.trans V.1);subst e;exact hr
  ·obtain⟨x',V,hr⟩:=z (K:=λF=>bQ.ok [] F/\bz xQ (zw 58 (xG xM p.2.2) (xG xM p.2.2)) (.one (.sc .slc)) F λk E=>
 (bQ.ok [] E)/\
 ∃t:eX,(N.ptr=dB t/\0<=c/\c<((N.len:Nat):Int))/\
 au xQ (qE 58 (xI (dB (t.add (c.toNat*1)))) (xH k.ptr k.len k.cap)) E λ_ q=>
 (bQ.ok [] q)/\K () q) 2 a G i0 hw λh3 T=>⟨trivial,mk w U X X T λb h4 H4=>⟨trivial,z 4 b H4 i0 hm λh5 H5=>⟨trivial,hk a b h5 (H5.aL 6 [1,0,2,3,4,5])⟩⟩⟩
   have e:x=x':=zQ.inj (hx.1.symm.trans V.1);subst e;exact hr
 ·refine mk w U X X H λb Y G=>?_;have o:=G.box 1 i0;refine⟨⟨o.cell i0,o.cell i0,trivial⟩,?_⟩;refine mk nd i4 (by rw[hd]) (by rw[hd]) G λa h2 R=>?_;have u:=R.box 2 i0;refine⟨⟨u.cell i0,u.cell i0,trivial⟩,?_⟩;refine R.set aj 3 i0 (λ_=>rfl) i0 c.toNat i4 hw a i0 i0 i0 λh3 T=>⟨trivial,?_⟩
  refine T.set aj 4 i0 (λ_=>rfl) i0 c.toNat i4 hm b i0 i0 i0 λh4 H4=>⟨trivial,hk a b h4 (H4.aL 6 [0,1,2,3,4,5])⟩
theorem Ox{h:f8}{Cs:List HP}(x:Sl)(m:Row)(nd:Nat)(z:Int)(H:aa B h0 h Cs)(A:z=nd)(w:nd<=64)(E:ii m<=2^20){L L2:bQ}(y:L.ok h)(o:L2.ok h)(q:St B h0 Cs λh=>Rd h x 1 aw m){K:Sl->Sl->f8->Prop}
  (u:∀a b h',aN (λb=>b<h.size) h h'->aa B h0 h' (RA a (aM nd)::RA b m::Cs)->K a b h'):
  (bz xQ (zw 58 (xG xM z) (xG xM z)) (.one (.sc .slc)) h λf d=>
 (bQ.ok L d)/\
 ox xQ 89 #[(xH x.ptr x.len x.cap)] (.one (.sc .slc)) d λk i=>K f k i)/\(ox xQ 89 #[(xH x.ptr x.len x.cap)] (.one (.sc .slc)) h λn e=>
 (bQ.ok L2 e)/\
 bz xQ (zw 58 (xG xM z) (xG xM z)) (.one (.sc .slc)) e λl g=>K l n g):=by
 subst A;constructor
 ·refine H.LK aj aw gF i5 0 i0 i0 nd nd i0 i0 (qm _) i4 λa t _ s c=>⟨ka s y,?_⟩
  have c:=c.be;refine(eI x m t (q.at [_] c) i4).mono ?_;rintro _ j ⟨b,rfl,r⟩;exact⟨b,i0,u a b j (up s r.af) ((c.bN r).gp)⟩
 ·refine(eI x m h (q.at [] H) i4).mono ?_;rintro _ t ⟨b,rfl,p⟩;have c:=H.bN p;refine⟨b,i0,ka p.af o,?_⟩;refine c.LK aj aw gF i5 0 i0 i0 nd nd i0 i0 (qm _) i4 λa j _ D v=>?_;exact u a b j (up p.af D) v.be
structure lR (pool pl:List (Sl×Row)) (wr mr:List Sl) (W M:aI):Prop where
 sub:∀x∈pool,x∈pl
 way:ie pl id wr W
 more:ie pl id mr M
theorem lR.step{pool e:List (Sl×Row)}{g f:List Sl}{W M:aI}(x:lR pool e g f W M)(c:Nat)(a b:Sl)(l m:Row):lR pool ((b,m)::(a,l)::e) (g.set c a) (f.set c b) (W.set c l) (M.set c m):=
 ⟨λy d=>by simp[x.sub y d],(x.way.mono λy d=>p7).set c i9,(x.more.mono λy d=>p7).set c i9⟩
theorem Uh(s f:eX)(p:Int×Int×Int)(v r st q E a5 a3:Sl)(rr:List (Sl×Sl))(R:List fe)(ST:List (Int×Int))(D L:aB)(n nd w:Nat)(pool:List (Sl×Row))(H:aa B h0 h (SA s (gz f p v r st q E a5 a3)::kL pool::As))(Z:St B h0 As λh=>Uf h f r st q E rr R ST D L)
  (hv:v.len=n) (hn:n<=64) (hp:p.2.2=w) (hw:w<=2^20) (b3:ii D=nd) (ab:nd<=64) (hR:∀e∈R,iM n w e) (hD:∀c∈D,0<=c/\c<(n:Int)) (bk:D.Nodup) (hg:rm (R.map qq) (·∈D) ST) (b9:ii ST<=2^20) (b5:∀e∈R,ii e.1<=2^20) (a6:(⟨ez,0,0⟩,[])∈pool):
  an xQ 196 #[xI (dB s)] h λv' h'=>v'=.tuple #[]/\∃k m u z I,aa B h0 h' (Told s f p v r st q E k m u z I++As)/\lR pool I u z (ST.foldl (hY R nd) (fQ n nd w D)).1 (ST.foldl (hY R nd) (fQ n nd w D)).2:=by
 refine ts Tryz.func196 ?_ (.two .n (.two (.join [] [(18,36)] .n) (.two (.two .n (.inn (.loop [(42,aS)] [(3,5),(42,77)] (.two .n (.two .n (.two (.inn (.two .n (.two (.join [] [(47,67)] .n) .n))) .n)))))) (.two .n (.inn (.loop [(83,aS)] [(6,10),(11,12),(83,134)] (.two .n (.two .n (.two (.inn (.two .n (.two (.join [(7,(.sc .adr))] [(7,8),(87,95)] .n) (.two (.join [(8,cK),(9,cK)] [(8,10),(95,100)] .n) (.two (.two .n (.inn (.loop [(103,aS)] [(11,12),(103,117)] .n))) .n))))) .n))))))))) [(1,(.y [0,1,2,3,4,5,6,8,9,10,11,12] (.y [7,14,15] (.l [13,16,17,18,19]) (.l [16,13,17,18,19])) (.l [13,7,14,15,16,17,18,19]))),(5,(.y [0,1,2,3,4,5,6,7,8,9,10,12,13,14,15,16] (.y [11,18] (.l [17,19,20,21]) (.l [19,17,20,21])) (.l [17,11,18,19,20,21]))),(12,(.y [0,2,3] (.l [1,4,5,6]) (.l [4,1,5,6])))];have hb:=H.box 0 i0;have ap:q.len=nd:=by rw[(Z.at [_,_] H).dead.len,b3]
 refine⟨s,i0,q,show f7 h (s.add 7)=_ from hb.cell i0,?_⟩;refine bG (λ_ h'=>∃k m,k.len=n/\m.len=n/\aa B h0 h' (Told s f p v r st q E k m (qi n ⟨ez,0,0⟩) (qi n ⟨ez,0,0⟩) pool++As)) ?_ ?_
 ·exact Qt (K:=λ_ h'=>∃k m,k.len=n/\m.len=n/\aa B h0 h' (Told s f p v r st q E k m (qi n ⟨ez,0,0⟩) (qi n ⟨ez,0,0⟩) pool++As)) s f p v r st q E a5 a3 n pool H hv hn λk m h' h1 h2 N=>⟨k,m,h1,h2,N⟩
 rintro-h1 ⟨k,m,cr,cn,H1⟩;have br:=H1.box 0 i0;refine⟨s,i0,q,show f7 h1 (s.add 7)=_ from br.cell i0,?_⟩;refine aq (λt:Nat×List Sl×List Sl×List (Sl×Row)=>(t.1:Int)) (λt h'=>t.1<=nd/\aa B h0 h' (Told s f p v r st q E k m t.2.1 t.2.2.1 t.2.2.2++As)/\lR pool t.2.2.2 t.2.1 t.2.2.1 (fQ n nd w (D.take t.1)).1 (fQ n nd w (D.take t.1)).2) (λt=>nd-t.1)
  (0,qi n ⟨ez,0,0⟩,qi n ⟨ez,0,0⟩,pool) i0 ⟨i4,H1,⟨λ_ h=>h,Iq pool a6 n,Iq pool a6 n⟩⟩ ?_
 rintro⟨i,u,z,I⟩ h2 ⟨hi,H2,T2⟩;dsimp only at*;have bl:=Xq n nd w (D.take i);have T:=T2.way.1;have S:=T2.more.1;refine ag (λe=>?_) (λe=>?_)
 ·have Y:i<nd:=i4
  have O:=hD _ (qf (show i<ii D by omega));refine(Z.at [_,_,_,_] H2).dead.bt i i0 i4 _ i0 ?_;refine bG (λ_ h'=>∃a b,aa B h0 h' (RA a (aM nd)::RA b (aM w)::(Told s f p v r st q E k m (u.set D[i].toNat a) (z.set D[i].toNat b) I++As))) ?_ ?_
  ·exact Ug (K:=λ_ h'=>∃a b,aa B h0 h' (RA a (aM nd)::RA b (aM w)::(Told s f p v r st q E k m (u.set D[i].toNat a) (z.set D[i].toNat b) I++As))) s f p v r st q E k m u z I D[i] nd w H2 O.1 i4 i4 hp ap ab hw λa b h' N=>⟨a,b,N⟩
  rintro-h3 ⟨a,b,H3⟩;refine⟨s,i0,k,(H3.box 2 i0).cell i0,?_⟩;refine(H3.seq 3 i0 λ_=>rfl).lY D[i].toNat i4 i7 ?_;rw[yV];refine H3.set aj 0 i0 (λ_=>rfl) i0 i i0 (by simp[aM];omega) 1 i0 i0 i0 λh4 H4=>?_;have H5:=(H4.freeze 0 i0 λ_=>rfl).pool 5 0 i5 i0 i0;have H6:=(H5.freeze 1 i0 λ_=>rfl).pool 5 1 i5 i0 i0;refine⟨(i+1,u.set D[i].toNat a,z.set D[i].toNat b,_),jj,⟨i6,H6.aL 6 [2,3,4,5],?_⟩,i6⟩
  try dsimp only
  have e1:D.take (i+1)=D.take i++[D[i]]:=aD _ _;have e2:ii (D.take i)=i:=i7
  rw[e1,Ht,e2];exact T2.step D[i].toNat a b (ny nd i) (aM w)
 have ao:i=ii D:=i4
 subst ao;rw[qN]at T2 bl T S;refine⟨s,i0,st,(H2.box 0 i0).cell i0,?_⟩;have ca:=(Z.at [_,_,_,_] H2).steps.len;refine aq (λt:Nat×List Sl×List Sl×List (Sl×Row)=>(t.1:Int)) (λt h'=>t.1<=ii ST/\aa B h0 h' (Told s f p v r st q E k m t.2.1 t.2.2.1 t.2.2.2++As)/\lR pool t.2.2.2 t.2.1 t.2.2.1 ((ST.take t.1).foldl (hY R nd) (fQ n nd w D)).1 ((ST.take t.1).foldl (hY R nd) (fQ n nd w D)).2) (λt=>ii ST-t.1)
  (0,u,z,I) i0 ⟨i9,H2,T2⟩ ?_
 clear T S T2 H2 hi e;rintro⟨i,u,z,I⟩ h3 ⟨hi,H3,T3⟩;dsimp only at*;obtain⟨dk,-⟩:=Jk (nd:=nd) (w:=w) hD bk D.length (qm _);rw[qN]at dk;have ay:=KR (l1:=ST.take i) (l2:=ST.drop i) (by rw[qA];exact hg);obtain⟨a8,-⟩:=FY hR ay.1 dk;obtain⟨W,hW⟩:∃W,W=((ST.take i).foldl (hY R nd) (fQ n nd w D)).1:=⟨_,rfl⟩
 obtain⟨M,hM⟩:∃M,M=((ST.take i).foldl (hY R nd) (fQ n nd w D)).2:=⟨_,rfl⟩
 have ad:(ST.take i).foldl (hY R nd) (fQ n nd w D)=(W,M):=by rw[hW,hM]
 have G:Wa n nd w (λc=>c∈D∨∃j,(j,c)∈ST.take i) W M:=by rw[hW,hM];exact a8
 rw[<-hW,<-hM]at T3;clear a8 hW hM;have cq:=G.wl;have cf:=G.ml;have T:=T3.way.1;have S:=T3.more.1;refine ag (λe=>?_) (λe=>?_)
 ·have Y:i<ii ST:=i4
  have al:=ay.2;rw[qJ Y]at al;obtain⟨row,bw,am⟩:∃row bw,ST[i]=(row,bw):=⟨_,_,rfl⟩
  rw[am]at al;obtain⟨g1,g2,g3,g4,-⟩:=al;have o:row.toNat<ii R:=by have:=g1.2;rw[qu]at this;omega
  obtain⟨d,Q⟩:∃d,d=R[row.toNat]:=⟨_,rfl⟩
  have er:R.getD row.toNat ([],[])=d:=by rw[qd,qc o,Q];rfl
  have b4:(R.map qq).getD row.toNat []=d.1:=by rw[qd,qL,qc o,Q];rfl
  rw[b4]at g3 g4;have J:=hR d (Q▸qf o);have cl:=b5 d (Q▸qf o);have cc:=J.cS bw g3;have G3:=Z.at [_,_,_,_] H3;have hF:=G3.rest.2.1;refine G3.steps.cX (g:=fD) i i0 Y ST[i] i0 ?_;rw[am];refine H3.CH aj i0 λa50 h4 P4 H4=>?_;have H4:=H4.be;refine H4.storeAll aj 0 i0 i0 (fD (row,bw)) i0 i0 i0 i0 λh5 H5=>?_;have b7:row.toNat<ii rr:=by rw[hF];exact o
  obtain⟨y,hy⟩:∃y,y=rr[row.toNat]:=⟨_,rfl⟩
  have A:∀{h'},nl jm 2 qv h' r rr R->jm.p h' (λb=>b<h'.size) y d:=λhh=>by rw[hy,Q];exact Fix.row hh o
  refine bG (λa' h'=>aa B h0 h' (ac a' 258 (qv y)::ac a50 338 (fD (row,bw))::(Told s f p v r st q E k m u z I++As))) ?_ ?_
  ·have a4:=H5.box 1 i0;have G5:=Z.at [_,_,_,_,_] H5;refine⟨s,i0,r,a4.cell i0,row,(H5.box 0 i0).cell0 i0,?_⟩;obtain⟨b2,ha,x,O,rfl⟩:=G5.rest.1.cX (g:=qv) (i:=row) row.toNat i4 b7 y (by rw[hy]) (K:=λx=>x=y) rfl;refine⟨b2,ha,_,O,?_⟩;refine H5.CH aj i0 λP h6 P6 H6=>⟨⟨od O.1 P6,od O.2.1 P6,od ((H5.box 0 i0).cell0 i0) P6,od (a4.cell i0) P6,trivial⟩,?_⟩
   have H6:=H6.be;refine H6.storeAll aj 0 i0 i0 (qv x) i0 i0 i0 i0 λh7 H7=>⟨trivial,H7⟩
  intro P h7 H7;refine bG (λt h'=>aa B h0 h' (RA t.1 (aM nd)::RA t.2 d.2::ac P 258 (qv y)::ac a50 338 (fD (row,bw))::(Told s f p v r st q E k m u z I++As))) ?_ ?_
  ·have a2:=H7.box 0 i0;refine⟨y.2,a2.cell i0,?_⟩;exact Ox (L:=[(P.add 1,xH y.2.ptr y.2.len y.2.cap)]) (K:=λa b h'=>bQ.ok [] h'/\aa B h0 h' (RA a (aM nd)::RA b d.2::ac P 258 (qv y)::ac a50 338 (fD (row,bw))::(Told s f p v r st q E k m u z I++As))) y.2 d.2 nd _ H7 (by rw[ap]) ab (by rw[J.len];exact hw) ⟨a2.cell i0,trivial⟩ (L2:=[]) trivial (St.mk' λh' N=>(A (Z.at [_,_,_,_,_,_] N).rest).2) λa b h' _ N=>⟨trivial,N⟩
  rintro⟨U,more⟩ h8 H8;dsimp only at H8;refine⟨y.1,(H8.box 2 i0).cell0 i0,?_⟩;have cd:=(A (Z.at [_,_,_,_,_,_,_,_] H8).rest).1.len;let F:Nat->aB:=λj=>(d.1.take j).filter λc=>!decide (c=bw);refine aq (λj:Nat=>(j:Int)) (λj h'=>j<=ii d.1/\aa B h0 h' (RA U (cM W (aM nd) (F j))::RA more (cM M d.2 (F j))::ac P 258 (qv y)::ac a50 338 (fD (row,bw))::(Told s f p v r st q E k m u z I++As))) (λj=>ii d.1-j) 0 i0 ⟨i4,by simpa[F,cM]using H8⟩ ?_;rintro j h9 ⟨hj,H9⟩;have told:∀c∈F j,ii (aC W c.toNat)=nd/\(aC M c.toNat).length=w:=λc O=>by
   have a0:=qI.1 O;have hm:=zA a0.1;exact G.rw_ c (g4 c hm (by simpa using a0.2)) (J.cS c hm).1 (J.cS c hm).2
  have a1:ii (cM W (aM nd) (F j))=nd:=jG k8 λc O=>(told c O).1;have ar:ii (cM M d.2 (F j))=w:=jG J.len λc O=>(told c O).2;refine ag (λe2=>?_) (λe2=>?_)
  ·have V:j<ii d.1:=i4
   have ah:=J.cS _ (qf V);refine(A (Z.at [_,_,_,_,_,_,_,_] H9).rest).1.bt j i0 V _ i0 ?_;refine⟨bw,(H9.box 3 i0).cell i0,?_⟩;refine bx (λa9=>?_) (λb0=>?_)
   ·have tc:=G.rw_ d.1[j] (g4 _ (qf V) a9) ah.1 ah.2;refine(DW s f 1 d.1[j] U more k m _ _ u z W M H9 (St.mk' λh' N=>?_) ah.1 i4 i4 (by rw[tc.1,a1]) (by rw[tc.2,ar]) i4 i4).mono ?_
    ·exact AG.of (N.box 2 i0) (Z.at [_,_,_,_,_,_] N).field (N.BN 3 5 i0 i0 T3.way) (N.BN 4 5 i0 i0 T3.more)
    rintro _ b1 ⟨rfl,X⟩;have e3:F (j+1)=F j++[d.1[j]]:=by simp only[F];rw[jw _ _ V];simp[a9]
    exact⟨(),i0,j+1,j0,⟨i4,by rw[e3,rv,rv];exact X⟩,i4⟩
   ·have e3:F (j+1)=F j:=by simp only[F];rw[jw _ _ V];simp[b0]
    exact⟨j+1,j0,⟨i4,by rw[e3];exact H9⟩,i4⟩
  ·have b6:j=ii d.1:=i4
   subst b6;have a7:=H9.box 3 i0;have ax:=H9.box 4 i0;refine⟨s,i0,k,ax.cell i0,bw,a7.cell i0,s,i0,m,ax.cell i0,bw,a7.cell i0,?_⟩;refine H9.set aj 5 i0 (λ_=>rfl) i0 bw.toNat i4 i4 U i0 i0 i0 λb1 X=>⟨⟨(X.box 3 i0).cell i0,trivial⟩,?_⟩
   refine X.set aj 6 i0 (λ_=>rfl) i0 bw.toNat i4 i4 more i0 i0 i0 λcp bq=>⟨trivial,?_⟩
   have bd:=(bq.freeze 0 i0 λ_=>rfl).pool 7 0 i5 i0 i0;have bb:=(bd.freeze 1 i0 λ_=>rfl).pool 7 1 i5 i0 i0;refine⟨(i+1,u.set bw.toNat U,z.set bw.toNat more,_),jj,⟨i6,bb.aL 8 [4,5,6,7],?_⟩,i6⟩
   try dsimp only
   rw[aD _ _ Y,zB,ad,am];have e3:[(row,bw)].foldl (hY R nd) (W,M)=(W.set bw.toNat (cM W (aM nd) (F d.1.length)),M.set bw.toNat (cM M d.2 (F d.1.length))):=by simp only[zx,yy,hY,er,F,qN]
   rw[e3];exact T3.step bw.toNat U more _ _
 ·have ao:i=ii ST:=i4
  subst ao;rw[qN]at ad;exact⟨i0,k,m,u,z,I,H3,by rw[ad];exact T3⟩
def kq(nd:Nat)(known:List Bool)(vals:aI)(s:aI×aI)(i:Nat):aI×aI:=
 (s.1.mapIdx λc r=>if c<i/\known.getD c eL=eH then aM nd else r,s.2.mapIdx λc r=>if c<i/\known.getD c eL=eH then aC vals c else r)
theorem Ui(nd:Nat)(known:List Bool)(vals:aI)(s:aI×aI):kq nd known vals s 0=s:=by unfold kq;refine vi ?_ ?_<;>refine wo i9 λi b a=>?_<;>simp
theorem Xr(nd:Nat)(known:List Bool)(vals:aI)(s:aI×aI){n:Nat}(a:ii s.1=n)(b:ii s.2=n):kq nd known vals s n=iv nd known vals s:=by unfold kq iv;refine vi ?_ ?_<;>refine wo i9 λi a b=>?_<;>simp at a<;>simp[show i<n by omega]
theorem Xt(nd:Nat)(known:List Bool)(vals:aI)(s:aI×aI){i:Nat}(d:known.getD i eL=eH):kq nd known vals s (i+1)=((kq nd known vals s i).1.set i (aM nd),(kq nd known vals s i).2.set i (aC vals i)):=by
 unfold kq;refine vi ?_ ?_<;>refine wo i9 λj f e=>?_<;>simp only[List.getElem_mapIdx,List.getElem_set]<;>by_cases c:i=j
 ·subst c;rw[f9 ⟨i4,d⟩,f9 rfl]
 ·rw[g0 c];congr 1;simp only[eq_iff_iff];constructor<;>rintro⟨a,b⟩<;>exact⟨i4,b⟩
 ·subst c;rw[f9 ⟨i4,d⟩,f9 rfl]
 ·rw[g0 c];congr 1;simp only[eq_iff_iff];constructor<;>rintro⟨a,b⟩<;>exact⟨i4,b⟩
theorem aai(nd:Nat)(known:List Bool)(vals:aI)(s:aI×aI){i:Nat}(e:known.getD i eL=eL):kq nd known vals s (i+1)=kq nd known vals s i:=by
 have d:∀j,(j<i+1/\known.getD j eL=eH)↔(j<i/\known.getD j eL=eH):=λj=>by
  constructor
  ·rintro⟨a,b⟩;by_cases c:j=i
   ·subst c;rw[e]at b;cases b
   ·exact⟨i4,b⟩
  ·rintro⟨a,b⟩;exact⟨i4,b⟩
 unfold kq;simp only[d]
theorem Xu(s f:eX)(p:Int×Int×Int)(v r st E L K J:Sl)(j d g:List Sl)(m:List (Sl×Row))(known:List Bool)(V W M:aI)(n nd:Nat)(H:aa B h0 h (Told s f p v r st E L K J d g m++HA v j::As))(hn:n<=64)(z:E.len=nd)(X:nd<=64)(hT:lR m m d g W M)(Q:ie m id j V)(Z:ii V=n)(y:ii W=n)(D:ii M=n)
  (hk:∀(c:Nat) (hc:c<ii j),j[c].ptr.isNone=!(known.getD c eL)):
  an xQ 197 #[xI (dB s)] h λv' h'=>v'=.tuple #[]/\∃d g b,aa B h0 h' (Told s f p v r st E L K J d g b++HA v j::As)/\lR m b d g (iv nd known V (W,M)).1 (iv nd known V (W,M)).2:=by
 refine ts Tryz.func197 ?_ (.two .n (.inn (.loop [(9,aS)] [(2,4),(9,37)] .n))) [(4,(.l [0,1,2,3,4,5,6,7,8,9,10,11,12,13,14,15,17,16,18,19,20,21]))];have P:=Q.1;have N:v.len=n:=by rw[(H.own 4 i0).len];omega
 refine⟨s,i0,v,(H.box 0 i0).cell i0,?_⟩;refine aq (λt:Nat×List Sl×List Sl×List (Sl×Row)=>(t.1:Int)) (λt h'=>t.1<=n/\aa B h0 h' (Told s f p v r st E L K J t.2.1 t.2.2.1 t.2.2.2++HA v j::As)/\lR m t.2.2.2 t.2.1 t.2.2.1 (kq nd known V (W,M) t.1).1 (kq nd known V (W,M) t.1).2) (λt=>n-t.1) (0,d,g,m) i0 ⟨i4,H,by rw[Ui];exact hT⟩ ?_;rintro⟨i,d,g,b⟩ h1 ⟨hi,A,k⟩;dsimp only at*;have T:(kq nd known V (W,M) i).1.length=n:=by simp[kq,y]
 have U:(kq nd known V (W,M) i).2.length=n:=by simp[kq,D]
 have S:=k.way.1;have R:=k.more.1;refine ag (λe=>?_) (λe=>?_)
 ·have ab:i<n:=i4
  refine(A.seq 4 i0 λ_=>rfl).lY i i0 i4 ?_;have G:=hk i i4;refine aQ (λF=>?_) (λF=>?_)
  ·have q:known.getD i eL=eH:=by rw[G]at F;simpa using F
   have u:=A.box 0 i0;refine⟨s,i0,K,u.cell i0,s,i0,J,u.cell i0,s,i0,E,show f7 h1 (s.add 7)=_ from u.cell i0,?_⟩;refine A.LK aj aw gF i5 0 i0 i0 nd nd (by rw[z]) (by rw[z]) (qm _) i4 λa Y _ P2 I=>?_;have I:=I.be;have o:=I.box 1 i0;refine⟨⟨show f7 Y (s.add 7)=_ from o.cell i0,o.cell i0,o.cell i0,trivial⟩,?_⟩;refine I.set aj 2 i0 (λ_=>rfl) i0 i i0 i4 a i0 i0 i0 λh3 H3=>⟨trivial,?_⟩
   refine H3.set aj 3 i0 (λ_=>rfl) i0 i i0 i4 (j[i]'(by omega)) i0 i0 i0 λh4 H4=>⟨trivial,?_⟩
   have H5:=(H4.freeze 0 i0 λ_=>rfl).pool 4 0 i5 i0 i0;refine⟨(i+1,d.set i a,g.set i (j[i]'(by omega)),_),jj,⟨i6,H5.aL 5 [1,2,3,4],?_⟩,i6⟩
   try dsimp only
   rw[Xt nd known V (W,M) q];have hm:((j[i]'(by omega)),aC V i)∈m:=by have:=Q.get (i:=i) i4;rw[lX i4];exact this
   exact⟨λx w=>qH _ (k.sub x w),(k.way.mono λx w=>qH _ w).set i k8,(k.more.mono λx w=>qH _ w).set i (qH _ (k.sub _ hm))⟩
  ·have q:known.getD i eL=eL:=by rw[G]at F;simpa using F
   exact⟨(i+1,d,g,b),jj,⟨i6,A,by dsimp only;rw[aai nd known V (W,M) q];exact k⟩,i6⟩
 ·have O:i=n:=i4
  subst O;exact⟨i0,d,g,b,A,by rw[<-Xr nd known V (W,M) y D];exact k⟩
def mX(nd:Nat)(known:List Bool)(vals W M D:aI)(i:Nat):aI:=vals.mapIdx λc r=>if c<i/\known.getD c eL=eL then gQ D (aC W c) (aC M c) nd else r
theorem Xv(nd:Nat)(known:List Bool)(vals W M D:aI):mX nd known vals W M D 0=vals:=by unfold mX;refine wo i9 λi b a=>?_;simp
theorem aaj(nd:Nat)(known:List Bool)(vals W M D:aI){n:Nat}(a:ii vals=n):mX nd known vals W M D n=tC nd known vals W M D:=by
 unfold mX tC;refine wo i9 λi a b=>?_;simp at a;simp only[List.getElem_mapIdx];cases hk:known.getD i eL
 ·rw[f9 ⟨i4,i0⟩,g0 i9]
 ·rw[g0 i9,f9 rfl]
theorem aak(nd:Nat)(known:List Bool)(vals W M D:aI){i:Nat}(e:known.getD i eL=eH):mX nd known vals W M D (i+1)=mX nd known vals W M D i:=by
 have d:∀j,(j<i+1/\known.getD j eL=eL)↔(j<i/\known.getD j eL=eL):=λj=>by
  constructor
  ·rintro⟨a,b⟩;by_cases c:j=i
   ·subst c;rw[e]at b;cases b
   ·exact⟨i4,b⟩
  ·rintro⟨a,b⟩;exact⟨i4,b⟩
 unfold mX;simp only[d]
theorem adg(nd:Nat)(known:List Bool)(vals W M D:aI){i:Nat}(d:known.getD i eL=eL):mX nd known vals W M D (i+1)=(mX nd known vals W M D i).set i (gQ D (aC W i) (aC M i) nd):=by
 unfold mX;refine wo i9 λj f e=>?_;simp only[List.getElem_mapIdx,List.getElem_set];by_cases c:i=j
 ·subst c;rw[f9 ⟨i4,d⟩,f9 rfl]
 ·rw[g0 c];congr 1;simp only[eq_iff_iff];constructor<;>rintro⟨a,b⟩<;>exact⟨i4,b⟩
theorem Xw(s f:eX)(p:Int×Int×Int)(v r st Z Y R G dead:Sl)(g A E dr:List Sl)(z:List (Sl×Row))(known:List Bool)(V W M D:aI)(n nd w:Nat)(H:aa B h0 h (Told s f p v r st Z Y R G A E z++HA v g::As))(hS:St B h0 As λh=>fy h f/\fq h (λb=>b<h.size) dead 1 aw D dr)(hn:n<=64)(hw:w<=2^20)(a7:nd<=64)(T:lR z z A E W M)(hV:ie z id g V)(I:ii V=n)(a9:ii W=n)(a8:ii M=n)
  (J:∀c,c<n->ii (aC W c)=nd/\(aC M c).length=w) (a4:ii D=nd) (F:aV w D) (hk:∀(c:Nat) (l:c<ii g),g[c].ptr.isNone=!(known.getD c eL)):
  an xQ 200 #[xI (dB s),dead] h λv' h'=>v'=.tuple #[]/\∃S a,aa B h0 h' (Told s f p v r st Z Y R G A E a++HA v S::As)/\ie a id S (tC nd known V W M D):=by
 refine ts Tryz.func200 ?_ (.two .n (.inn (.loop [(15,aS)] [(4,10),(15,80)] (.two .n (.two .n (.two (.inn (.two .n (.two .n (.two .n (.two (.two .n (.inn (.loop [(42,aS)] [(6,10),(42,72)] (.two .n (.two .n (.two (.inn (.two .n (.two .n (.inn (.loop [(52,aS)] [(8,10),(52,71)] .n))))) .n)))))) .n))))) .n))))));have a3:=hV.1;have al:v.len=n:=by rw[(H.own 4 i0).len];omega
 have a2:=T.way.1;have a1:=T.more.1;refine⟨s,i0,v,(H.box 0 i0).cell i0,?_⟩;refine aq (λt:Nat×List Sl×List (Sl×Row)=>(t.1:Int)) (λt h'=>t.1<=n/\aa B h0 h' (Told s f p v r st Z Y R G A E t.2.2++HA v t.2.1::As)/\ie t.2.2 id t.2.1 (mX nd known V W M D t.1)/\(∀x∈z,x∈t.2.2)/\∀(c:Nat) (l:c<ii t.2.1),t.1<=c->t.2.1[c].ptr.isNone=!(known.getD c eL)) (λt=>n-t.1) (0,g,z) i0 ⟨i4,H,by rw[Xv];exact hV,λ_ h=>h,λc l _=>hk c l⟩ ?_;rintro⟨i,g,a⟩ h1 ⟨hi,u,U,d,y⟩;dsimp only at*;have a6:ii (mX nd known V W M D i)=n:=by simp[mX,I]
 have a0:=U.1;refine ag (λe=>?_) (λe=>?_)
 ·have am:i<n:=i4
  have K:=u.box 0 i0;refine⟨s,i0,v,K.cell i0,?_⟩;refine(u.seq 4 i0 λ_=>rfl).lY i i0 i4 ?_;have P:=y i i4 (qm _);refine aQ (λN=>?_) (λN=>?_)
  ·have o:known.getD i eL=eH:=by rw[P]at N;simpa using N
   exact⟨(i+1,g,a),jj,⟨i6,u,by dsimp only;rw[aak nd known V W M D o];exact U,d,λc l h=>y c l (by dsimp only at h;omega)⟩,i6⟩
  have o:known.getD i eL=eL:=by rw[P]at N;simpa using N
  have ay:=J i am;have ad:((E[i]'(by omega)),aC M i)∈a:=by have:=(T.more.mono d).get (i:=i) i4;rw[lX i4];exact this
  have L:((A[i]'(by omega)),aC W i)∈a:=by have:=(T.way.mono d).get (i:=i) i4;rw[lX i4];exact this
  refine⟨s,i0,G,K.cell i0,?_⟩;refine(u.seq 2 i0 λ_=>rfl).lY i i0 i4 ?_;refine(eI _ (aC M i) h1 (u.Il 3 i0 ad) i4).mono ?_;rintro _ h2 ⟨b,rfl,R2⟩;have X:=u.bN R2;have ah:=X.box 1 i0;refine⟨b,i0,s,i0,R,ah.cell i0,?_⟩;refine(X.seq 2 i0 λ_=>rfl).lY i i0 i4 ?_;have ax:=(X.Il 4 i0 L).len;refine aq (λj:Nat=>(j:Int)) (λj h'=>j<=nd/\aa B h0 h' (RA b (gQ D (aC W i) (aC M i) j)::(Told s f p v r st Z Y R G A E a++HA v g::As))) (λj=>nd-j) 0 i0 ⟨i4,X⟩ ?_;rintro j h3 ⟨hj,O⟩;refine ag (λe3=>?_) (λe3=>?_)
  ·have bb:j<nd:=i4
   have q:j<ii (aC W i):=i4
   refine(O.Il 4 i0 L).bt j i0 q _ i0 ?_;obtain⟨S1,S2⟩:=hS.at [_,_,_,_,_,_] O;have a5:=S2.len;refine S2.top.lY j i0 i4 ?_;have ab:ii (D[j]'(by omega))=w:=F _ (qf _);have Q:(aC W i)[j]'q=aJ (aC W i) j:=by rw[aJ,qd,qc q];rfl
   have ao:ii (gQ D (aC W i) (aC M i) j)=w:=lC _ ay.2 λk hk=>cC F;rw[Q];refine DV s f (aJ (aC W i) j) (dr[j]'(by omega)) b (D[j]'(by omega)) _ O (St.mk' λh' H'=>?_) (by rw[ab,ao]) i4 λh4 H4=>?_
   ·obtain⟨q1,q2⟩:=hS.at [_,_,_,_,_] H';exact⟨(H'.box 0 i0).cell0 i0,q1,q2.row _ _ _ (qc _) (qc _)⟩
   ·refine⟨j+1,j0,⟨i4,?_⟩,i4⟩;rw[gQ,lX (m:=D) (i:=j) i4];exact H4
  ·have ap:j=nd:=i4
   subst ap;refine⟨s,i0,v,(O.box 1 i0).cell i0,?_⟩;refine O.set aj 5 i0 (λ_=>rfl) i0 i i0 i4 b i0 i0 i0 λh4 H4=>?_;have H5:=(H4.freeze 0 i0 λ_=>rfl).pool 4 0 i5 i0 i0;refine⟨(i+1,g.set i b,_),jj,⟨i6,H5.aL 6 [1,2,3,4,5],?_,λx hx=>qH _ (d x hx),λc l h=>?_⟩,i6⟩
   ·try dsimp only
    rw[adg j known V W M D o];exact(U.mono λx hx=>qH _ hx).set i i9
   ·dsimp only at l h⊢;rw[List.getElem_set_ne i4];exact y c (by simpa using l) i4
 ·have ar:i=n:=i4
  subst ar;exact⟨i0,g,a,u,by rw[<-aaj nd known V W M D I];exact U⟩
abbrev MA(s:Sl)(m:aI):HP:=fH 58 s 1 aw m
abbrev Oy:iy Sl Row:=aeg (bR 1 aw) λr _=>r.len<=r.cap
abbrev CA(s:Sl)(m:aI):HP:=bm 58 s 1 aX Oy m
theorem aa.Xx{e:Nat}{s:Sl}{l:Row}(H:aa B h0 h As)(i:Nat)(c:As[i]?=dB (ae e s 1 aw l)):aa B h0 h (As.set i (EA Oy s l)):=
 H.dX i c λ_ ⟨a,b⟩=>⟨a.seq (λ_=>rfl) b,a.cap⟩
theorem Uj(s f:eX)(p:Int×Int×Int)(v r st J S N I:Sl)(u G:List Sl)(O:List (Sl×Row))(rr:List (Sl×Sl))(R:List fe)(ST:List (Int×Int))(D L:aB)(W M:aI)(n nd w:Nat)(H:aa B h0 h (Told s f p v r st J S N I u G O++As))(hS:St B h0 As λh=>Uf h f r st J S rr R ST D L)
  (hn:n=p.1.toNat+p.2.1.toNat) (hp:p.2.2=w) (hw:w<=2^20) (ap:bS p=eH) (bq:ii D=nd) (a9:nd<=64) (hR:∀e∈R,iM n w e) (br:∀e∈R,ii e.1<=2^20) (hL:∀i∈L,0<=i/\i<(ii R:Int)) (cf:ii L<=2^20) (hT:lR O O u G W M) (cl:ii W=n) (ca:ii M=n)
  (E:∀c,c<n->ii (aC W c)=nd/\(aC M c).length=w):
  an xQ 198 #[xI (dB s)] h λv' h'=>∃a b:Sl,v'=.tuple #[a,b]/\aa B h0 h' (MA a (dt n nd R W L (bU p.1.toNat p.2.1.toNat))::CA b (fv n w R M L (bU p.1.toNat p.2.1.toNat))::(Told s f p v r st J S N I u G O++As)):=by
 refine ts Tryz.func198 ?_ (.two .n (.two .n (.two (.two .n (.inn (.loop [(2,cK),(3,cK),(29,aS)] [(2,4),(6,9),(10,11),(29,72)] (.two .n (.two .n (.two (.inn (.two .n (.two (.join [(7,cK),(8,cK)] [(7,9),(33,44)] .n) (.two (.two .n (.inn (.loop [(53,aS)] [(10,11),(53,63)] .n))) .n)))) .n)))))) (.two (.two .n (.inn (.loop [(2,cK),(3,cK),(78,aS)] [(2,4),(12,17),(78,113)] (.two .n (.two .n (.two (.inn (.two .n (.two (.join [(13,cK),(14,cK)] [(13,15),(82,90)] .n) (.two (.two .n (.inn (.loop [(92,aS)] [(15,17),(92,104)] .n))) .n)))) .n)))))) .n)))) [(5,(.y [0,2,3,4,5,6,7,8,9] (.l [1,10,11,12]) (.l [10,1,11,12]))),(16,(.y [0,2,3,4,5,6] (.l [1,8,7,9]) (.l [7,1,8,9])))];have hb:=H.box 0 i0;have V:J.len=nd:=by rw[(hS.at [_,_,_,_] H).dead.len,bq]
 have cd:=(cg p).1 ap;have b3:=hT.way.1;have b2:=hT.more.1;refine⟨s,i0,J,show f7 h (s.add 7)=_ from hb.cell i0,s,i0,S,show f7 h (s.add 8)=_ from hb.cell i0,?_⟩;have b5:=(hS.at [_,_,_,_] H).left.len;have ar:∀{h':f8} {Cs:List HP},aa B h0 h' (Cs++(Told s f p v r st J S N I u G O++As))->aa B h0 h' (Told s f p v r st J S N I u G O++As):=λ{h' Cs} T=>T.take Cs.length λi A hi=>by
  rw[qh i4,Nat.add_sub_cancel_left];exact hi
 have SR:∀{h':f8},aa B h0 h' (Told s f p v r st J S N I u G O++As)->AG h' s f N I u G W M:=λT=>AG.of (T.box 0 i0) (hS.at [_,_,_,_] T).field (T.BN 1 3 i0 i0 hT.way) (T.BN 2 3 i0 i0 hT.more);let rA:Int->Row:=λi=>cM W (aM nd) (R.getD i.toNat ([],[])).1;let rB:Int->Row:=λi=>cM M (R.getD i.toNat ([],[])).2 (R.getD i.toNat ([],[])).1;have H0:aa B h0 h (MA ⟨ez,0,0⟩ []::CA ⟨ez,0,0⟩ []::(Told s f p v r st J S N I u G O++As)):=((H.rD 58 1 aX Oy).be.GZ 58 1 aw).be;refine aq (λt:Nat×Sl×Sl=>(t.2.1,t.2.2,(t.1:Int))) (λt h'=>t.1<=ii L/\aa B h0 h' (MA t.2.1 ((L.take t.1).map rA)::CA t.2.2 ((L.take t.1).map rB)::(Told s f p v r st J S N I u G O++As))) (λt=>ii L-t.1) (0,⟨ez,0,0⟩,⟨ez,0,0⟩) i0 ⟨i9,H0⟩ ?_;rintro⟨i,a,b⟩ h1 ⟨hi,H1⟩;dsimp only at*;refine ag (λe=>?_) (λe=>?_)
 ·have o:i<ii L:=i4
  have G1:=hS.at [_,_,_,_,_,_] H1;refine G1.left.bt i i0 o _ i0 ?_;have hx:=hL _ (qf o);generalize b0:L[i]=x at hx⊢;have F:x.toNat<ii R:=i4
  obtain⟨d,al⟩:∃d,d=R[x.toNat]:=⟨_,rfl⟩
  have er:R.getD x.toNat ([],[])=d:=by rw[qd,qc F,al];rfl
  have ao:=hR d (al▸qf F);have cc:=br d (al▸qf F);have hF:=G1.rest.2.1;have a6:x.toNat<ii rr:=by rw[hF];exact F
  obtain⟨y,hy⟩:∃y,y=rr[x.toNat]:=⟨_,rfl⟩
  have Q:∀{h'},nl jm 2 qv h' r rr R->jm.p h' (λb=>b<h'.size) y d:=λhh=>by rw[hy,al];exact Fix.row hh F
  refine bG (λt h'=>aa B h0 h' (RA t.1 (aM nd)::RA t.2 d.2::MA a ((L.take i).map rA)::CA b ((L.take i).map rB)::(Told s f p v r st J S N I u G O++As))) ?_ ?_
  ·have am:=H1.box 2 i0;refine⟨s,i0,r,am.cell i0,?_⟩;obtain⟨a5,ha,z,hc,rfl⟩:=G1.rest.1.cX (g:=qv) (i:=x) x.toNat i4 a6 y (by rw[hy]) (K:=λz=>z=y) rfl;refine⟨a5,ha,z.2,hc.2.1,?_⟩;have ay:bQ.ok [(s.add 5,xH r.ptr r.len r.cap)] h1:=⟨am.cell i0,trivial⟩
   exact Ox (L:=[((a5.add (x.toNat*2)).add 1,xH z.2.ptr z.2.len z.2.cap),(s.add 5,xH r.ptr r.len r.cap)]) (L2:=[(s.add 5,xH r.ptr r.len r.cap)]) (K:=λa' b' h'=>bQ.ok [(s.add 5,xH r.ptr r.len r.cap)] h'/\aa B h0 h' (RA a' (aM nd)::RA b' d.2::MA a ((L.take i).map rA)::CA b ((L.take i).map rB)::(Told s f p v r st J S N I u G O++As)))
    z.2 d.2 nd _ H1 (by rw[V]) a9 (by rw[ao.len];exact hw) ⟨hc.2.1,ay⟩ ay (St.mk' λh' T=>(Q (hS.at [_,_,_,_,_,_] T).rest).2) λa b h' P T=>⟨ka P ay,T⟩
  rintro⟨ab,more⟩ h2 H2;dsimp only at H2;have G2:=hS.at [_,_,_,_,_,_,_,_] H2;refine⟨s,i0,r,(H2.box 4 i0).cell i0,?_⟩;obtain⟨b1,ha,z,hc,rfl⟩:=G2.rest.1.cX (g:=qv) (i:=x) x.toNat i4 a6 y (by rw[hy]) (K:=λz=>z=y) rfl;refine⟨b1,ha,z.1,hc.1,?_⟩;have bl:=(Q G2.rest).1.len;refine aq (λj:Nat=>(j:Int)) (λj h'=>j<=ii d.1/\aa B h0 h' (RA ab (cM W (aM nd) (d.1.take j))::RA more (cM M d.2 (d.1.take j))::MA a ((L.take i).map rA)::CA b ((L.take i).map rB)::(Told s f p v r st J S N I u G O++As))) (λj=>ii d.1-j) 0 i0 ⟨i4,by simpa[cM]using H2⟩ ?_;rintro j h3 ⟨hj,Z⟩;have told:∀c∈d.1.take j,ii (aC W c.toNat)=nd/\(aC M c.toNat).length=w:=λc hc=>by
   have b9:=ao.cS c (zA hc);exact E c.toNat i4
  have Y:ii (cM W (aM nd) (d.1.take j))=nd:=jG k8 λc hc=>(told c hc).1;have X:ii (cM M d.2 (d.1.take j))=w:=jG ao.len λc hc=>(told c hc).2;refine ag (λe2=>?_) (λe2=>?_)
  ·have ad:j<ii d.1:=i4
   have bk:=ao.cS _ (qf ad);refine(Q (hS.at [_,_,_,_,_,_,_,_] Z).rest).1.bt j i0 ad _ i0 ?_;have tc:=E d.1[j].toNat i4;refine(DW s f 1 d.1[j] ab more N I _ _ u G W M Z (St.mk' λh' T=>SR (ar (Cs:=[_,_]) T)) bk.1 i4 i4 (by rw[tc.1,Y]) (by rw[tc.2,X]) i4 i4).mono ?_;rintro _ h4 ⟨rfl,U⟩;exact⟨(),i0,j+1,j0,⟨i4,by rw[aD _ _ ad,rv,rv];exact U⟩,i4⟩
  ·have a2:j=ii d.1:=i4
   subst a2;rw[qN]at Z;have U:=aa.Xx (Z.freeze 0 i0 λ_=>rfl) 1 i0;refine U.sI aj 2 0 i5 i0 i0 fw i7 λa' h5 H5=>?_;refine H5.mO aj 3 1 i5 i0 i0 fw i0 i5 (λ_=>rfl) jb i0 i5 i7 λb' h6 H6=>?_;refine⟨(i+1,a',b'),jj,⟨i6,?_⟩,i6⟩
   try dsimp only
   rw[aD _ _ o,qM,qM,b0];have e3:[x].map rA=[cM W (aM nd) d.1]:=by simp only[z6,vW,rA,er]
   have e4:[x].map rB=[cM M d.2 d.1]:=by simp only[z6,vW,rB,er]
   rw[e3,e4];exact H6.aL 8 [2,3,4,5,6,7]
 have a4:i=ii L:=i4
 subst a4;rw[qN]at H1;have am:=H1.box 2 i0;refine⟨s,i0,p,am.cells 1 _ i0,(rK p h1).mono ?_⟩;rintro _ h2 ⟨q,rfl,R2⟩;rw[ap,f9 rfl]at R2;obtain⟨m,ax⟩:∃m,m=bU p.1.toNat p.2.1.toNat:=⟨_,rfl⟩
 have b4:ii m=p.2.1.toNat:=by rw[ax];simp[bU]
 have a7:∀x∈m,ii x=n:=λx hx=>by rw[hn];exact Ho _ _ x (ax▸hx)
 rw[<-ax]at R2⊢;have H2:=(H1.bN R2).LJ 0 i0;obtain⟨qr,H2⟩:=H2.FM 0 rfl λ_=>rfl;have b7:=(H2.eS 0 i0).1.len;have b6:=(H2.eS 0 i0).2.1;refine⟨q,i0,?_⟩;let a0:Row->Row:=λx=>gQ W x (aM nd) n;let a1:Row->Row:=λx=>gQ M x (aM w) n;refine aq (λt:Nat×Sl×Sl=>(t.2.1,t.2.2,(t.1:Int))) (λt h'=>t.1<=ii m/\aa B h0 h' (cy (bR 1 aw) 1 aX q qr m::MA t.2.1 (L.map rA++(m.take t.1).map a0)::CA t.2.2 (L.map rB++(m.take t.1).map a1)::(Told s f p v r st J S N I u G O++As))) (λt=>ii m-t.1) (0,a,b) i0 ⟨i9,by simpa using H2⟩ ?_;rintro⟨i,a,b⟩ h3 ⟨hi,Z⟩;dsimp only at*;refine ag (λe=>?_) (λe=>?_)
 ·have o:i<ii m:=i4
  have bd:=a7 _ (qf o);have F3:=Z.eS 0 i0;refine F3.1.lY i i0 i4 ?_;have bl:(qr[i]'(by omega)).len=n:=by rw[(Fix.row F3 o).len,bd]
  refine bG (λt h'=>aa B h0 h' (RA t.1 (aM nd)::RA t.2 (aM w)::cy (bR 1 aw) 1 aX q qr m::MA a (L.map rA++(m.take i).map a0)::CA b (L.map rB++(m.take i).map a1)::(Told s f p v r st J S N I u G O++As))) ?_ ?_
  ·have bb:=Z.box 3 i0;refine⟨s,i0,p.2.2,show f7 h3 (s.add 3)=_ from bb.cell i0,?_,?_⟩
   ·refine Z.make aj aw gF i5 0 i0 i0 nd nd (by rw[V]) (by rw[V]) (qm _) i4 λx h4 _ _ U=>?_;have U:=U.be;refine⟨⟨show f7 h4 (s.add 3)=_ from(U.box 4 i0).cell i0,trivial⟩,?_⟩;refine U.make aj aw gF i5 0 i0 i0 w w hp hp (qm _) i4 λy h5 _ _ H5=>⟨trivial,H5.be.gp⟩
   ·refine Z.make aj aw gF i5 0 i0 i0 w w hp hp (qm _) i4 λy h4 _ _ U=>⟨trivial,?_⟩
    refine U.be.make aj aw gF i5 0 i0 i0 nd nd (by rw[V]) (by rw[V]) (qm _) i4 λx h5 _ _ H5=>⟨trivial,H5.be⟩
  rintro⟨ab,more⟩ h4 U;dsimp only at U⊢;refine aq (λj:Nat=>(j:Int)) (λj h'=>j<=n/\aa B h0 h' (RA ab (gQ W m[i] (aM nd) j)::RA more (gQ M m[i] (aM w) j)::cy (bR 1 aw) 1 aX q qr m::MA a (L.map rA++(m.take i).map a0)::CA b (L.map rB++(m.take i).map a1)::(Told s f p v r st J S N I u G O++As))) (λj=>n-j) 0 i0 ⟨i4,U⟩ ?_;rintro j h5 ⟨hj,H5⟩;have Y:ii (gQ W m[i] (aM nd) j)=nd:=lC _ k8 λk hk=>(E k i4).1;have X:ii (gQ M m[i] (aM w) j)=w:=lC _ k8 λk hk=>(E k i4).2;refine ag (λe2=>?_) (λe2=>?_)
  ·have ad:j<n:=i4
   have a3:j<m[i].length:=i4
   refine(Fix.row (H5.eS 2 i0) o).bt j i0 a3 _ i0 ?_;have a8:m[i][j]'a3=aJ m[i] j:=by rw[aJ,qd,qc a3];rfl
   rw[a8];have tc:=E j ad;refine(DW s f (aJ m[i] j) (j:Int) ab more N I _ _ u G W M H5 (St.mk' λh' T=>SR (ar (Cs:=[_,_,_]) T)) i4 i4 i4 (by rw[qk,tc.1,Y]) (by rw[qk,tc.2,X]) i4 i4).mono ?_;rintro _ h6 ⟨rfl,H6⟩;rw[qk]at H6;exact⟨(),i0,j+1,j0,⟨i4,H6⟩,i4⟩
  ·have a2:j=n:=i4
   subst a2;have H6:=aa.Xx (H5.freeze 0 i0 λ_=>rfl) 1 i0;refine H6.sI aj 3 0 i5 i0 i0 fw i7 λa' h7 H7=>?_;refine H7.mO aj 4 1 i5 i0 i0 fw i0 i5 (λ_=>rfl) jb i0 i5 i7 λb' h8 H8=>?_;refine⟨(i+1,a',b'),jj,⟨i6,?_⟩,i6⟩
   try dsimp only
   rw[aD _ _ o,qM,qM,<-qn,<-qn];exact H8.aL 9 [2,3,4,5,6,7,8]
 ·have a4:i=ii m:=i4
  subst a4;rw[qN]at Z;exact⟨a,b,i0,Z.rest⟩
theorem uf{α:Type}{g:α->Bool}{l:List α}{i:Nat}(h:i<ii l)(a:∀j (b:j<ii l),j<i->g l[j]=eL)(c:g l[i]=eH):l.findIdx g=i:=by rw[List.findIdx_eq h];exact⟨c,λj b=>a j i4 b⟩
theorem Qu(s:Sl)(l:aB)(b:FuncId)(a:Array Value)(g:Int->Bool)(Q:f8->Prop)(y:C.fns[b]?=dB eH)(z:St B h0 As Q)(q:∀x h',Q h'->an xQ b ([Value.int .i64 x]++a.toList).toArray h' λv o=>v=xK (g x)/\Sp h' o [])(H:aa B h0 h (ae 3 s 1 ak l::As))(E:ii l<=2^20):
  an xQ 175 #[s,.func (.func b) #[] a] h λv h'=>v=xG xM (if l.findIdx g<ii l then(l.findIdx g:Int)else-1)/\aa B h0 h' (ae 3 s 1 ak l::As):=by
 refine iB s (b,#[],a) ?_;have w:=(H.own 0 i0).len;refine aq (λi:Nat=>(i:Int)) (λi h'=>aa B h0 h' (ae 3 s 1 ak l::As)/\i<=ii l/\∀j (f:j<ii l),j<i->g l[j]=eL) (λi=>ii l-i) 0 i0 ⟨H,i4,λj _ f=>i4⟩ ?_;rintro i A ⟨k,F,c⟩;refine ag (λe=>?_) (λe=>?_)
 ·have d:i<ii l:=i4
  refine(k.seq 0 i0 λ_=>rfl).bt i i0 d _ i0 ?_;refine dL y ?_;refine(q l[i] A (z.at [_] k)).mono ?_;rintro _ D ⟨rfl,t⟩;refine⟨_,i0,bf (λr=>?_) λr=>?_⟩
  ·rw[uf d c r,f9 d];exact⟨i0,k.up t.af⟩
  ·refine⟨i+1,j0,⟨k.up t.af,i4,λj f p=>?_⟩,i4⟩;rcases zk.1 p with h3|rfl
   ·exact c j f h3
   ·exact r
 ·have n:¬l.findIdx g<ii l:=by rw[we];rintro⟨x,u,m⟩;obtain⟨j,f,rfl⟩:=qD u;rw[c j f i4]at m;cases m
  rw[g0 n];exact⟨i0,k⟩
theorem Uk{α:Type}{g:α->Bool}{l:List α}{j:Nat}(h:j<l.findIdx g)(a:j<ii l):g l[j]=eL:=by simpa using List.not_of_lt_findIdx h
structure mi {α:Type} (g:α->Bool) (l l':List α) (i j:Nat):Prop where
 len:ii l'=ii l
 le:i<=j
 pre:l'.take i=(l.take j).filter λx=>!g x
 post:l'.drop j=l.drop j
theorem mi.start{α:Type}{g:α->Bool}{l:List α}{i:Nat}(h:i<ii l)(b:l.findIdx g=i):mi g l l i (i+1):=by
 refine⟨i0,i4,?_,i0⟩;have a:g l[i]=eH:=by have:=List.findIdx_getElem (xs:=l) (p:=g) (w:=by rw[b];exact h);simpa[b]using this
 rw[aD _ _ h,zl,zq,a];have:(l.take i).filter (λx=>!g x)=l.take i:=wY.2 λx d=>by
  obtain⟨j,c,rfl⟩:=qD d;simp only[qO]at c;rw[yh,Uk (g:=g) (l:=l) (j:=j) i4 i4];rfl
 rw[this];simp
theorem mi.at_{α:Type}{g:α->Bool}{l b:List α}{i j:Nat}(x:mi g l b i j)(a:j<ii l):b[j]'(by rw[x.len];exact a)=l[j]:=by have h:=congrArg (λm=>m[0]?) x.post;simp only[wL,Nat.add_zero]at h;rw[qc a,qc (by rw[x.len];exact a)]at h;exact zQ.inj h
theorem mi.keep{α:Type}{g:α->Bool}{l a:List α}{i j:Nat}(x:mi g l a i j)(e:j<ii l)(b:g l[j]=eL):mi g l (a.set i l[j]) (i+1) (j+1):=by
 have f:=x.len;have c:=x.le;refine⟨qa,i4,?_,?_⟩
 ·rw[aD _ _ i7,yV,List.take_set_of_le (qm _),x.pre,aD _ _ e,zl,zq,b];rfl
 ·rw[List.drop_set_of_lt i4];have d:=congrArg (xF 1) x.post;simpa[wm]using d
theorem mi.skip{α:Type}{g:α->Bool}{l a:List α}{i j:Nat}(x:mi g l a i j)(e:j<ii l)(b:g l[j]=eH):mi g l a i (j+1):=by
 have f:=x.len;have c:=x.le;refine⟨f,i4,?_,?_⟩
 ·rw[x.pre,aD _ _ e,zl,zq,b];simp
 ·have d:=congrArg (xF 1) x.post;simpa[wm]using d
theorem filter_all{α:Type}{g:α->Bool}{l:List α}(h:¬l.findIdx g<ii l):l.filter (λx=>!g x)=l:=wY.2 λx a=>by
 have:g x=eL:=by
  cases hh:g x with
  |false=>rfl
  |true=>exact absurd (we.2 ⟨x,a,hh⟩) h
 rw[this];rfl
theorem Oz(s:Sl)(l:aB)(b:FuncId)(a:Array Value)(g:Int->Bool)(Q:f8->Prop)(A:C.fns[b]?=dB eH)(D:St B h0 As Q)(f:∀x h',Q h'->an xQ b ([Value.int .i64 x]++a.toList).toArray h' λv p=>v=xK (g x)/\Sp h' p [])(H:aa B h0 h (ae 3 s 1 ak l::As))(K:ii l<=2^20):
  an xQ 258 #[s,.func (.func b) #[] a] h λv h'=>∃r:Sl,v=r/\aa B h0 h' (ae 3 r 1 ak (l.filter λx=>!g x)::As):=by
 refine ts Tryz.func258 ?_ (.two .n (.two .n (.two .n (.two (.two .n (.inn (.loop [(5,aS),(6,aS)] [(5,8),(16,36)] .n))) .n)))) (args:=[s,(.func (.func b) #[] a)]);refine(Qu s l b a g Q A D f H K).mono ?_;rintro _ R ⟨rfl,z⟩;have J:=(H.own 0 i0).len;have F:=(H.own 0 i0).cap;refine⟨_,i0,cv (λe=>?_) λe=>?_⟩
 ·have u:¬l.findIdx g<ii l:=λm=>by rw[f9 m]at e;omega
  exact⟨s,i0,by rw[filter_all u];exact z⟩
 ·have c:l.findIdx g<ii l:=by
   by_cases m:l.findIdx g<ii l
   ·exact m
   ·rw[g0 m]at e;exact absurd i0 e
  rw[f9 c];refine aq (λt:Nat×Nat×aB=>((t.1:Int),(t.2.1:Int))) (λt h'=>mi g l t.2.2 t.1 t.2.1/\t.2.1<=ii l/\aa B h0 h' (ae 3 s 1 ak t.2.2::As)) (λt=>ii l-t.2.1) (l.findIdx g,l.findIdx g+1,l) j0 ⟨mi.start c i0,i6,z⟩ ?_;rintro⟨i,j,y⟩ I ⟨M2,P,k⟩;dsimp only at*;have E:=M2.len;have L:=M2.le;refine ag (λM=>?_) (λM=>?_)
  ·have d:j<ii l:=i4
   refine(k.seq 0 i0 λ_=>rfl).bt j i0 i4 _ i0 ?_;rw[M2.at_ d];refine dL A ?_;refine(f l[j] I (D.at [_] k)).mono ?_;rintro _ h3 ⟨rfl,G⟩;have o:=k.up G.af;refine⟨_,i0,aQ (λw=>?_) λw=>?_⟩
   ·refine o.set aj 0 i0 (λ_=>rfl) i0 i i0 i4 l[j] i0 i0 i0 λO N=>?_;exact⟨(i+1,j+1,y.set i l[j]),by dsimp only;rw[ai _,ai _];rfl,⟨M2.keep d sb,i6,N⟩,i6⟩
   ·exact⟨(i,j+1,y),jj,⟨M2.skip d sb,i6,o⟩,i6⟩
  ·have q:j=ii l:=i4
   subst q;refine⟨⟨i4,i4⟩,?_⟩;rw[qk];refine k.nV aj 0 i0 fR (λ_=>rfl) i0 i5 i i4 λh3 o=>⟨⟨i4,i4⟩,⟨s.ptr,i,s.cap⟩,i0,?_⟩
   have:=M2.pre;rw[qN]at this;rw[<-this];exact o
abbrev afi:bI C.toAi 260 338 2 [xG xM 0,xG xM 0] 16:=⟨_,_,i0,i0,i0,i0,i0,i0⟩
theorem Qv(s:Sl)(l:List (Int×Int))(b:FuncId)(a:Array Value)(g:Int×Int->Bool)(Q:f8->Prop)(z:C.fns[b]?=dB eH)(A:St B h0 As Q)(r:∀x h',Q h'->an xQ b ([Value.agg #[xG xM x.1,xG xM x.2]]++a.toList).toArray h' λv p=>v=xK (g x)/\Sp h' p [])(H:aa B h0 h (ae 338 s 2 fD l::As))(F:ii l<=2^20):
  an xQ 314 #[s,.func (.func b) #[] a] h λv h'=>v=xG xM (if l.findIdx g<ii l then(l.findIdx g:Int)else-1)/\aa B h0 h' (ae 338 s 2 fD l::As):=by
 refine ts Tryz.func314 ?_ (.two .n (.two (.two .n (.inn (.loop [(8,aS)] [(4,6),(8,19)] .n))) .n)) (args:=[s,(.func (.func b) #[] a)]);have y:=(H.own 0 i0).len;refine aq (λi:Nat=>(i:Int)) (λi h'=>aa B h0 h' (ae 338 s 2 fD l::As)/\i<=ii l/\∀j (f:j<ii l),j<i->g l[j]=eL) (λi=>ii l-i) 0 i0 ⟨H,i4,λj _ f=>i4⟩ ?_;rintro i D ⟨k,G,c⟩;refine ag (λe=>?_) (λe=>?_)
 ·have d:i<ii l:=i4
  refine(k.seq 0 i0 λ_=>rfl).cX (g:=fD) i i0 d l[i] i0 ?_;refine dL z ?_;refine(r l[i] D (A.at [_] k)).mono ?_;rintro _ E ⟨rfl,u⟩;refine⟨_,i0,bf (λt=>?_) λt=>?_⟩
  ·rw[uf d c t,f9 d];exact⟨i0,k.up u.af⟩
  ·refine⟨i+1,j0,⟨k.up u.af,i4,λj f q=>?_⟩,i4⟩;rcases zk.1 q with h3|rfl
   ·exact c j f h3
   ·exact t
 ·have o:¬l.findIdx g<ii l:=by rw[we];rintro⟨x,w,m⟩;obtain⟨j,f,rfl⟩:=qD w;rw[c j f i4]at m;cases m
  rw[g0 o];exact⟨i0,k⟩
theorem OA(s:Sl)(l:List (Int×Int))(b:FuncId)(a:Array Value)(g:Int×Int->Bool)(Q:f8->Prop)(F:C.fns[b]?=dB eH)(G:St B h0 As Q)(k:∀x h',Q h'->an xQ b ([Value.agg #[xG xM x.1,xG xM x.2]]++a.toList).toArray h' λv p=>v=xK (g x)/\Sp h' p [])(H:aa B h0 h (ae 338 s 2 fD l::As))(L:ii l<=2^20):
  an xQ 256 #[s,.func (.func b) #[] a] h λv h'=>∃r:Sl,v=r/\aa B h0 h' (ae 338 r 2 fD (l.filter λx=>!g x)::As):=by
 refine ts Tryz.func256 ?_ (.two .n (.two .n (.two .n (.two (.two .n (.inn (.loop [(5,aS),(6,aS)] [(5,8),(16,36)] .n))) .n)))) (args:=[s,(.func (.func b) #[] a)]);refine(Qv s l b a g Q F G k H L).mono ?_;rintro _ T ⟨rfl,D⟩;have K:=(H.own 0 i0).len;have J:=(H.own 0 i0).cap;refine⟨_,i0,cv (λe=>?_) λe=>?_⟩
 ·have w:¬l.findIdx g<ii l:=λo=>by rw[f9 o]at e;omega
  exact⟨s,i0,by rw[filter_all w];exact D⟩
 ·have c:l.findIdx g<ii l:=by
   by_cases o:l.findIdx g<ii l
   ·exact o
   ·rw[g0 o]at e;exact absurd i0 e
  rw[f9 c];refine aq (λt:Nat×Nat×List (Int×Int)=>((t.1:Int),(t.2.1:Int))) (λt h'=>mi g l t.2.2 t.1 t.2.1/\t.2.1<=ii l/\aa B h0 h' (ae 338 s 2 fD t.2.2::As)) (λt=>ii l-t.2.1) (l.findIdx g,l.findIdx g+1,l) j0 ⟨mi.start c i0,i6,D⟩ ?_;rintro⟨i,j,A⟩ P ⟨M2,R,q⟩;dsimp only at*;have I:=M2.len;have M:=M2.le;refine ag (λN=>?_) (λN=>?_)
  ·have f:j<ii l:=i4
   refine(q.seq 0 i0 λ_=>rfl).cX (g:=fD) j i0 i4 l[j] (by rw[M2.at_ f]) ?_;refine q.alloc aj i0 λa5 h3 d=>?_;have d:=d.be;refine d.storeAll aj 0 i0 i0 (fD l[j]) i0 i0 i0 i0 λz m=>?_;refine⟨l[j],(m.box 0 i0).aE _ i0,?_⟩;refine dL F ?_;refine(k l[j] z (G.at [_,_] m)).mono ?_;rintro _ S ⟨rfl,O⟩;have E:=m.up O.af;have d:=E.nw;refine⟨_,i0,aQ (λy=>?_) λy=>?_⟩
   ·refine⟨l[j],(E.box 0 i0).aE _ i0,?_⟩;refine d.set aj 0 i0 (λ_=>rfl) i0 i i0 i4 l[j] i0 i0 i0 λz m=>?_;exact⟨(i+1,j+1,A.set i l[j]),by dsimp only;rw[ai _,ai _];rfl,⟨M2.keep f sp,i6,m⟩,i6⟩
   ·exact⟨(i,j+1,A),jj,⟨M2.skip f sp,i6,d⟩,i6⟩
  ·have u:j=ii l:=i4
   subst u;refine⟨⟨i4,i4⟩,?_⟩;rw[qk];refine q.nV aj 0 i0 afi (λ_=>rfl) i0 i5 i i4 λh3 d=>⟨⟨i4,i4⟩,⟨s.ptr,i,s.cap⟩,i0,?_⟩
   have:=M2.pre;rw[qN]at this;rw[<-this];exact d
def sB(pool:List (Sl×aB)):HP:=⟨λh q=>∀x∈pool,Seq h q x.1 1 ak x.2,λa c x b=>(a x b).af c,λa d x b=>(a x b).mono d⟩
theorem aa.Xy(H:aa B h0 h As):aa B h0 h (As++[sB []]):=H.comp (.one (aN.refl _ _) λx a=>t8)
theorem aa.abZ(H:aa B h0 h As)(i j:Nat)(b:i≠j){pool:List (Sl×aB)}{r:Sl}{l:aB}(d:As[i]?=dB (sB pool))(c:As[j]?=dB (kP r 1 ak l)):aa B h0 h ((As.set i (sB (pool++[(r,l)]))).set j emp):=
 H.merge i j b d c λg k _ f e x a=>by
  rcases qy.1 a with a|a
  ·exact(f x a).mono λ_ h=>.inl h
  ·rw[qp]at a;subst a;exact Seq.mono e λ_ h=>.inr h
abbrev afj:bI C.toAi 75 22 1 [xH ez 0 0] 24:=⟨_,_,i0,i0,i0,i0,i0,i0⟩
theorem Qx(s d:eX)(r:Sl)(x:Int×Int)(h':f8)(e:f7 h' d=dB (xI (dB s))/\f7 h' (s.add 5)=dB (xH r.ptr r.len r.cap)):
  an xQ 257 ([Value.agg #[xG xM x.1,xG xM x.2]]++(#[Value.pointer (dB d)]:Array Value).toList).toArray h' λv c=>v=xK (decide (x.1>=(r.len:Int)))/\Sp h' c []:=by
 refine ts Tryz.func257 ?_ (args:=[x,d]);refine(Sp.refl h').boxed λa f b=>?_;exact⟨x.1,(b.box 0 i0).cell0 i0,dB s,od e.1 b.af,s,i0,r,od e.2 b.af,i0,.zip b.af⟩
theorem Qy(s b:eX)(r:Sl)(x:Int)(h':f8)(c:f7 h' b=dB (xI (dB s))/\f7 h' (s.add 5)=dB (xH r.ptr r.len r.cap)):
  an xQ 259 ([Value.int .i64 x]++(#[Value.pointer (dB b)]:Array Value).toList).toArray h' λv a=>v=xK (decide (x>=(r.len:Int)))/\Sp h' a []:=by
 refine ts Tryz.func259 ?_ (args:=[(x:Int),b]);exact⟨dB s,c.1,s,i0,r,c.2,i0,Sp.refl _⟩
theorem Qz(s f:eX)(p:Int×Int×Int)(v r d m j K F kn:Sl)(D:List (Sl×Sl))(R:List fe)(known:List Bool)(n:Nat)(H:aa B h0 h (SA s (gz f p v r d m j K F)::As))(hS:St B h0 As λh=>nl jm 2 qv h r D R/\Rd h kn 1 eO known)(ao:ii known=n)(hn:n<=64)(a2:ii R<=2^19)(ar:∀e∈R,ii e.1<=2^20)
  (A:jA (n:Int) (rowsOf R known n)=eH) (X:(dE n (rowsOf R known n)).steps.length<=2^20/\(fu (dE n (rowsOf R known n)).used (rowsOf R known n).length).length<=2^20):
  an xQ 195 #[xI (dB s),kn] h λv' h'=>v'=.tuple #[]/\∃st z I:Sl,aa B h0 h' (SA s (gz f p v r st z I K F)::ae 338 st 2 fD ((dE n (rowsOf R known n)).steps.filter λx=>decide (x.1<ii R))::ae 3 z 1 ak (dE n (rowsOf R known n)).dead::ae 3 I 1 ak ((fu (dE n (rowsOf R known n)).used (rowsOf R known n).length).filter λx=>decide (x<ii R))::As):=by
 refine ts Tryz.func195 ?_ (.two .n (.two .n (.two (.two .n (.inn (.loop [(4,cK),(16,aS)] [(4,5),(6,7),(16,26)] .n))) (.two (.two .n (.inn (.loop [(4,cK),(28,aS)] [(4,5),(7,9),(28,40)] .n))) .n))));refine H.boxed λq G Q=>?_;have Q:=Q.be;refine⟨dB s,(Q.box 0 i0).cell0 i0,s,i0,r,(Q.box 1 i0).cell i0,?_⟩;have G1:=hS.at [_,_] Q;have T:=G1.1.1.len;have M:=G1.1.2.1;have ab:=G1.2.len;let pre:List HP:=[ac q 259 [xI (dB s)],SA s (gz f p v r d m j K F)]
 have H2:aa B h0 G (ae 22 ⟨ez,0,0⟩ 1 aX []::sB []::ac q 259 [xI (dB s)]::SA s (gz f p v r d m j K F)::As):=((aa.Xy Q).be.nil 22 1 aX).be;refine aq (λt:Nat×Sl=>(t.2,(t.1:Int))) (λt h'=>t.1<=ii R/\aa B h0 h' (ae 22 t.2 1 aX ((D.take t.1).map qq)::sB []::ac q 259 [xI (dB s)]::SA s (gz f p v r d m j K F)::As)) (λt=>ii R-t.1) (0,⟨ez,0,0⟩) i0 ⟨i9,by simpa using H2⟩ ?_;rintro⟨i,o⟩ h3 ⟨hi,H3⟩;dsimp only at*;refine ag (λe=>?_) (λe=>?_)
 ·have al:i<ii R:=i4
  have G3:=hS.at [_,_,_,_] H3;refine G3.1.1.cX (g:=qv) i i0 i4 (D[i]'(by omega)) i0 ?_;refine H3.alloc aj i0 λa8 h4 u=>?_;have u:=u.be;refine u.storeAll aj 0 i0 i0 (qv (D[i]'(by omega))) i0 i0 i0 i0 λh5 J=>?_;refine⟨(D[i]'(by omega)).1,(J.box 0 i0).cell0 i0,?_⟩;refine J.nw.push aj 0 i0 afj i0 i5 (λ_=>rfl) jb (D[i]'(by omega)).1 i0 i5 i7 λo' h6 H6=>?_;refine⟨(i+1,o'),jj,⟨i6,?_⟩,i6⟩
  try dsimp only
  rw[aD D i,qM];exact H6
 have O:i=ii R:=i4
 subst O;rw[qg i4]at H3;refine aq (λt:Nat×Sl×List Sl=>(t.2.1,(t.1:Int))) (λt h'=>t.1<=n/\t.2.2.length=ii (io known t.1)/\aa B h0 h' (ae 22 t.2.1 1 aX (D.map qq++t.2.2)::sB (t.2.2.zip (io known t.1))::ac q 259 [xI (dB s)]::SA s (gz f p v r d m j K F)::As)) (λt=>n-t.1) (0,o,[]) i0 ⟨i4,i0,by simpa using H3⟩ ?_;rintro⟨i,o,sr⟩ h4 ⟨hi,E,u⟩;dsimp only at*;have a3:=Cc known i;refine ag (λe=>?_) (λe=>?_)
 ·have al:i<n:=i4
  have G4:=hS.at [_,_,_,_] u;refine G4.2.bt i i0 i4 _ i0 ?_;have ap:known.getD i eL=known[i]'(by omega):=by rw[qd,qc i4];rfl
  have P:=Jm known i;rw[ap]at P;refine bf (λe2=>?_) (λe2=>?_)
  ·rw[e2,f9 rfl]at P;refine u.lit aj ak fR i0 [(i:Int)] i0 (show 1*1<=2^20 by decide) i0 λb h5 J=>?_;have J:=J.be.freeze 0 i0 λ_=>rfl;have H6:=aa.abZ J 2 0 i5 i0 i0;refine H6.push aj 1 i0 afj i0 i5 (λ_=>rfl) jb b i0 i5 i7 λo' h7 U=>?_;refine⟨(i+1,o',sr++[b]),jj,⟨i6,by dsimp only;rw[P];simp[E],?_⟩,i6⟩
   try dsimp only
   rw[P,List.zip_append E,<-qn];exact U.nw
  ·rw[e2,g0 i9,qF]at P;exact⟨(i+1,o,sr),jj,⟨i6,by dsimp only;rw[P];exact E,by dsimp only;rw[P];exact u⟩,i6⟩
 have O:i=n:=i4
 subst O;have G4:=hS.at [_,_,_,_] u;have N:ii (rowsOf R known i)=ii R+ii sr:=by rw[rowsOf,qt,qu,E]
 have Z:fq h4 (λb=>b<h4.size) o 1 ak (rowsOf R known i) (D.map qq++sr):=by
  refine⟨u.seq 0 i0 λ_=>rfl,by rw[N];simp;omega,λk a l G S=>?_⟩;by_cases hk:k<ii R
  ·rw[ql i7,qL,qc i4]at G;rw[rowsOf,ql i7,qL,qc hk]at S;simp only[qQ,zQ.injEq]at G S;subst G;subst S;exact(Fix.row G4.1 hk).1
  ·rw[qh i7]at G;rw[rowsOf,qh i7]at S;simp only[qu,M]at G S;have hm:(a,l)∈sr.zip (io known i):=by refine yU.2 ⟨k-ii R,?_⟩;rw[vD];exact⟨G,S⟩
   exact(u.at 1 i0) _ hm
 rw[ab,ao];refine(Xp (i:Int) o (rowsOf R known i) _ h4 Z i4 ?_).mono ?_
 ·intro x hx;rcases qy.1 hx with hx|hx
  ·obtain⟨e,he,rfl⟩:=qx.1 hx;have:=ar e he;omega
  ·obtain⟨c,hc,rfl⟩:=qx.1 hx;simp
 rintro _ h5 ⟨st,z,I,rfl,R5⟩;have am:BO (i:Int) (rowsOf R known i)=((dE i (rowsOf R known i)).steps,(dE i (rowsOf R known i)).dead,fu (dE i (rowsOf R known i)).used (rowsOf R known i).length):=by unfold BO;rw[f9 A,qk]
 rw[am]at R5;dsimp only at R5;have J:=((u.nw).nw).comp R5;refine⟨((st,z,I),_),i0,?_⟩;have H6:aa B h0 h5 (ae 338 st 2 fD (dE i (rowsOf R known i)).steps::ae 3 z 1 ak (dE i (rowsOf R known i)).dead::ae 3 I 1 ak (fu (dE i (rowsOf R known i)).used (rowsOf R known i).length)::ac q 259 [xI (dB s)]::SA s (gz f p v r d m j K F)::As):=aa.front (As:=ac q 259 [xI (dB s)]::SA s (gz f p v r d m j K F)::As) (Bs:=[_,_,_]) J;refine H6.alloc aj i0 λa4 h7 U=>?_;have U:=U.be;refine U.storeAll aj 0 i0 i0 [st,z,I] i0 i0 i0 i0 λh8 H8=>?_;refine⟨st,(H8.box 0 i0).cell0 i0,?_⟩;refine(OA st _ 257 #[xI (dB q)] (λx=>decide (x.1>=(r.len:Int))) (λh'=>f7 h' q=dB (xI (dB s))/\f7 h' (s.add 5)=dB (xH r.ptr r.len r.cap)) i0 (St.mk' λh' Y=>⟨(Y.box 3 i0).cell0 i0,(Y.box 4 i0).cell i0⟩) (λx h' hq=>Qx s q r x h' hq) H8.gp X.1).mono ?_;rintro _ h9 ⟨y,rfl,H9⟩;refine⟨y,i0,?_⟩;refine H9.ja aj 1 i0 i0 [y] i0 i0 i0 i9 λa0 W=>?_;refine⟨I,(W.box 1 i0).cell i0,?_⟩;have ah:=W.aL 6 [3,0,1,2,4,5];refine(Oz I _ 259 #[xI (dB q)] (λx=>decide (x>=(r.len:Int))) (λh'=>f7 h' q=dB (xI (dB s))/\f7 h' (s.add 5)=dB (xH r.ptr r.len r.cap)) i0 (St.mk' λh' Y=>⟨(Y.box 3 i0).cell0 i0,(Y.box 4 i0).cell i0⟩) (λx h' hq=>Qy s q r x h' hq) ah X.2).mono ?_;rintro _ a5 ⟨w,rfl,ad⟩;refine⟨w,i0,?_⟩;refine ad.store aj 2 i0 i0 2 [w] i0 i0 i0 i9 λay L=>?_;refine⟨dB s,(L.box 4 i0).cell0 i0,(y,z,w),(L.box 2 i0).aE _ i0,s,i0,?_⟩;refine L.store aj 5 i0 i0 6 [y,z,w] i0 i0 i0 nn λax V=>⟨i0,y,z,w,?_⟩
 have e1:(λx:Int×Int=>!decide (x.1>=(r.len:Int)))=λx=>decide (x.1<(ii R:Int)):=by
  funext x;rw[T,M];by_cases h:x.1<(ii R:Int)
  ·rw[g9 h,hU i4];rfl
  ·rw[hU h,g9 i4];rfl
 have e2:(λx:Int=>!decide (x>=(r.len:Int)))=λx=>decide (x<(ii R:Int)):=by
  funext x;rw[T,M];by_cases h:x<(ii R:Int)
  ·rw[g9 h,hU i4];rfl
  ·rw[hU h,g9 i4];rfl
 rw[e1,e2]at V;exact V.aL 6 [5,1,3,0]
theorem adh(h:f8)(x:UInt8):an xQ 294 #[xG xN x.toNat] h λv h'=>v=xK (x !=0)/\h'=h:=by
 refine ts Tryz.func294 ?_;refine⟨?_,i0⟩;congr 1;by_cases a:x=0
 ·subst a;rfl
 ·have:((x.toNat:Nat):Int)≠0:=λb=>a (xX.1 b);rw[bne_iff_ne.2 a];exact bne_iff_ne.2 this
theorem DY(a:Sl)(l:Row)(h:f8)(o:Rd h a 1 aw l)(t:ii l<=2^30:=by omega):an xQ 227 #[a] h λv h'=>v=xG xM (if fa l<ii l then(fa l:Int)else-1)/\h'=h:=by
 refine ts Tryz.func227 ?_;refine(oO a (294,#[],#[]) (R:=λv h'=>v=xG xM (if fa l<ii l then(fa l:Int)else-1)/\h'=h) ?_).mono ?_
 ·skip
  have r:=o.len;refine aq (λi:Nat=>(i:Int)) (λi h'=>h'=h/\i<=ii l/\∀j (b:j<ii l),j<i->l[j]=0) (λi=>ii l-i) 0 i0 ⟨i0,i4,λj _ b=>i4⟩ ?_;rintro i p ⟨rfl,u,c⟩;refine ag (λe=>?_) (λe=>?_)
  ·have d:i<ii l:=i4
   refine o.bt i i0 d _ i0 ?_;refine dL lx ?_;refine(adh p l[i]).mono ?_;rintro v s ⟨rfl,rfl⟩;refine⟨_,i0,bf (λm=>?_) λm=>?_⟩
   ·have n:fa l=i:=by rw[fa,List.findIdx_eq d];exact⟨m,λj b=>by simp[c j i4 b]⟩
    rw[n,f9 d];exact⟨i0,i0⟩
   ·refine⟨i+1,j0,⟨i0,i4,λj b k=>?_⟩,i4⟩;rcases zk.1 k with h3|rfl
    ·exact c j b h3
    ·simpa using m
  ·have g:¬fa l<ii l:=by rw[fa,we];rintro⟨x,q,f⟩;obtain⟨j,b,rfl⟩:=qD q;rw[c j b i4]at f;simp at f
   rw[g0 g];exact⟨i0,i0⟩
 ·rintro v p ⟨rfl,rfl⟩;exact⟨_,i0,i0,i0⟩
theorem KS{l:Row}:¬fa l<ii l↔l=aM l.length:=by
 rw[fa,we];constructor
 ·intro h;refine xd.2 ⟨i0,λx b=>?_⟩;by_cases a:x=0
  ·exact a
  ·exact absurd ⟨x,b,kt⟩ h
 ·rintro h ⟨x,b,a⟩;have:=(xd.1 h).2 x b;subst this;simp at a
theorem QA(f:eX)(a b:Sl)(A B:aI)(m n w:Nat)(h:f8)(hf:fy h f)(ha:dY h a 1 aw A)(hb:dY h b 1 aw B)(hl:ii A=m)(bk:ii B=m)(u:aV n A)(hB:aV w B)(bb:1<=n)(hn:n+w<=64)(hm:m<=2^20)(hr:bY A=n):
  an xQ 162 #[xI (dB f),a,b] h λv h'=>(lB n A B/\∃r:Sl,v=.tuple #[r,xG xM 0]/\Sp h h' [fH 58 r 1 aw (gc n A B)])∨(¬lB n A B/\v=.tuple #[xH ez 0 0,xG xM 10]/\Sp h h' []):=by
 have bd:n<=m:=by have:=oI A u;omega
 have d:ii B=ii A:=i4
 have ax:=ha.len;have L:=hb.len;refine ts Tryz.func162 ?_ (.two .n (.two (.join [] [(6,8),(17,37)] .n) (.two .n (.two .n (.two (.two .n (.inn (.loop [(43,aS)] [(10,11),(43,59)] .n))) (.two .n (.two .n (.two (.two .n (.inn (.loop [(71,aS)] [(6,8),(13,14),(71,79)] .n))) (.two .n (.two (.two .n (.inn (.loop [(14,cK),(83,aS)] [(14,15),(16,17),(83,95)] .n))) .n))))))))));refine aT ?_;refine(mF a A n h ha u).mono ?_;rintro v P ⟨rfl,rfl⟩;refine⟨_,i0,aQ (λe=>j1) λ_=>?_⟩;refine(mF b B w P hb hB).mono ?_;rintro v W ⟨rfl,rfl⟩;refine⟨_,i0,aQ (λe=>j1) λ_=>?_⟩;refine bx (λe=>absurd (by rw[ax,L,d]) e) λ_=>?_;refine cv (λe=>i4) λ_=>?_;refine(pG a A W ha).mono ?_;rintro v h3 ⟨rfl,rfl⟩;have ad:eE A=n:=by
  cases A with
  |nil=>simp at hl;omega
  |cons x t=>rw[eE,bE i9];exact u _ i9
 refine⟨_,i0,?_⟩;rw[ad];refine(tK a A n h3 ha u).mono ?_;rintro v h4 ⟨r,rs,rfl,a7,R4⟩;refine⟨r,i0,?_⟩;have a5:=(R4.own 0 i0).len;refine aq (λt:Nat×List Sl=>(t.1:Int)) (λt h'=>t.1<=m/\t.2.length=m/\Sp h3 h' (ni r t.2 (oe A B t.1))) (λt=>m-t.1) (0,rs) i0 ⟨i9,i6,by simpa[oe,eN]using R4⟩ ?_;rintro⟨k,rs⟩ h5 ⟨hk,a6,S⟩;dsimp only at*;have Y:ii rs=ii (oe A B k):=n0
 refine ag (λe=>?_) (λe=>?_)
 ·have J:k<m:=i4
  have Q:k<ii A:=i4
  have F:=oc (a:=r) Y k n0;have eg:(oe A B k)[k]'(by rw[rq d];omega)=A[k]:=by have:=WN d Q;rw[qc n0]at this;exact zQ.inj this
  rw[eg]at F;have l1:A[k].length=n:=u _ (qf _);have l2:ii (B[k]'(by omega))=w:=hB _ (qf _);refine(S.seq 0 i0 λ_=>rfl).ng k i0 i4 λa1 I O=>?_;refine(hb.up S.af).get k i0 i4 λrb a2=>?_;refine S.append aj (k+1) F gF NT i0 i5 (λ_=>rfl) a2 gW i4 λs6 h6 H6=>⟨trivial,?_⟩
  refine H6.set aj 0 i0 (λ_=>rfl) i0 k i0 i4 s6 i0 i0 i0 λh7 H7=>⟨trivial,?_⟩
  refine⟨(k+1,rs.set k s6),jj,⟨i6,l0,?_⟩,i6⟩
  try dsimp only
  rw[<-WO d Q];show Sp h3 h7 (ae 58 r 1 aX (rs.set k s6)::bn 5 1 aw (rs.set k s6) ((oe A B k).set k _));rw[<-kz Y];exact H7
 ·have al:k=ii A:=i4
  subst al;rw[WP d]at S;refine(rJ f h5).mono ?_;rintro v h6 ⟨rfl,rfl⟩;refine⟨dB f,i0,?_⟩;have N:=nM d.symm u hB;have bq:=mP d.symm;refine(xY (m:=eN A B) (n:=n+w) hf hf.lt i4 N i4 i4 i4 S).mono ?_;rintro v h7 ⟨l,rfl,a4,q⟩;rw[FS d.symm u,hr];refine⟨_,i0,?_⟩
  try dsimp only
  have ab:=(q.own 0 i0).cap;have a9:=(q.own 0 i0).len;have W:=iF N n;refine ag (λe=>absurd (show(n:Int)<(n:Int)from e) i4) λ_=>?_;refine⟨⟨wg _,yI.2 (show n<=r.len by omega)⟩,?_⟩;obtain⟨M,G⟩:∃M,M=(bD (eN A B) n).2:=⟨_,rfl⟩
  have b0:ii M=ii A:=by have:=W.2;rw[<-G]at this;omega
  have T:aV (n+w) M:=by rw[G];exact W.1
  rw[<-G]at q;have Z:ii l=ii M:=i4
  have o:lB n A B↔∀i (U:i<ii M),n<=i->M[i]=aM M[i].length:=by
   unfold lB;rw[<-G];constructor
   ·intro K i U hn;refine K _ (yU.2 ⟨i-n,?_⟩);rw[wL,show n+(i-n)=i by omega,qc U]
   ·intro K x hx;obtain⟨i,U,rfl⟩:=qD hx;simp only[za]at U;rw[wu];exact K _ i4 i4
  refine aq (λi:Nat=>(i:Int)) (λi h'=>h'=h7/\n+i<=ii M/\∀j (hj:j<ii M),n<=j->j<n+i->M[j]=aM M[j].length) (λi=>ii M-(n+i)) 0 i0 ⟨i0,i4,λj _ _ _=>i4⟩ ?_;rintro i h8 ⟨rfl,U,p⟩;rw[qk];refine ag (λe=>?_) (λe=>?_)
  ·have g:n+i<ii M:=i4
   have F:=oc (a:=r) Z (n+i) i4;have am:ii (M[n+i]'g)=n+w:=T _ (qf _);have D:=q.seq (n+i+1) F λ_=>rfl;have E:=(q.seq 0 i0 λ_=>rfl).drop n ab;have ay:(l.drop n)[i]'(by simp;omega)=l[n+i]'(by omega):=wu;refine E.ng i i0 i7 λa1 I O=>?_;rw[ay];refine(DY _ _ h8 D).mono ?_;rintro _ h9 ⟨rfl,rfl⟩;refine⟨_,i0,ag (λV=>?_) λV=>?_⟩
   ·right;have y:fa (M[n+i]'g)<ii (M[n+i]'g):=by
     by_cases hh:fa (M[n+i]'g)<ii (M[n+i]'g)
     ·exact hh
     ·rw[g0 hh]at V;exact absurd V i5
    refine⟨λK=>?_,i0,.zip q.af⟩;have:=o.1 K (n+i) g i4;exact absurd y (KS.2 this)
   ·have y:¬fa (M[n+i]'g)<ii (M[n+i]'g):=λhh=>by
     rw[f9 hh]at V;exact V (wg _)
    refine⟨i+1,j0,⟨i0,i4,λj hj P W=>?_⟩,i4⟩;by_cases ah:j=n+i
    ·subst ah;exact KS.1 y
    ·exact p j hj P i4
  refine⟨⟨wg _,yI.2 (show n<=r.cap by omega)⟩,?_⟩;have z:lB n A B:=o.2 λj hj P=>p j hj P i4;have e1:gc n A B=(M.take n).map (xF n):=by rw[gc,<-G]
  have H:∀k (hk:k<n),(gc n A B).take (k+1)=(gc n A B).take k++[(M[k]'(by omega)).drop n]:=λk hk=>by
   rw[e1,aD _ _ i7,wV,yh]
  have br:ii (gc n A B)=n:=(sM d.symm u hB hr).1;refine aq (λt:Sl×Nat=>(t.1,(t.2:Int))) (λt h'=>t.2<=n/\Sp h8 h' [fH 58 t.1 1 aw ((gc n A B).take t.2)]) (λt=>n-t.2) (⟨ez,0,0⟩,0) i0 ⟨i9,(Sp.refl h8).GZ 58 1 aw⟩ ?_;rintro⟨s,k⟩ h9 ⟨a8,H9⟩;dsimp only at*;have HH:=q.comp H9;refine ag (λe=>?_) (λe=>?_)
  ·have J:k<n:=i4
   have F:=oc (a:=r) Z k i4;have R:(ni r l M++[fH 58 s 1 aw ((gc n A B).take k)])[k+1]?=dB (ae 5 (l[k]'(by omega)) 1 aw (M[k]'(by omega))):=by rw[ql (by simp[bn];omega)];exact F
   have am:ii (M[k]'(by omega))=n+w:=T _ (qf _);have X:=HH.own (k+1) R;have D:=HH.seq (k+1) R λ_=>rfl;have a3:=X.len;have E:=(HH.seq 0 i0 λ_=>rfl).take n i4;have a0:(l.take n)[k]'(by simp;omega)=l[k]'(by omega):=yh;refine E.ng k i0 i7 λa1 I O=>?_;rw[a0];refine⟨⟨wg _,yI.2 i4⟩,?_⟩;refine(eI _ _ h9 (D.drop n X.cap) i7).mono ?_;rintro v bl ⟨c,rfl,ar⟩;have ao:=(H9.comp ar).freeze 1 i0 λ_=>rfl;refine⟨c,i0,?_⟩;refine ao.sI aj 0 1 i5 i0 i0 fw i7 λs' b1 ap=>?_;refine⟨(s',k+1),jj,⟨i6,?_⟩,i6⟩
   try dsimp only
   rw[H k J];exact ap.del 1
  ·rw[qg i4]at H9;refine .inl ⟨z,s,i0,?_⟩;have:=(Sp.zip q.af).comp H9;exact this
theorem OB:∀{l:aB},l.Pairwise (·<·)->fB l=eH
 |[],_=>rfl
 |[_],_=>rfl
 |a::b::r,h=>by
  rw[List.pairwise_cons]at h;rw[fB,OB h.2,g9 (h.1 b i9)];rfl
theorem Ul{l:aB}(h:l.Pairwise (·<·)):JF l:=λi a=>zp.1 h i (i+1) i4 a i4
theorem Um{n:Nat}{R:List fe}{known:List Bool}(h:n<=64)(b:∀e∈R,(∀c∈e.1,0<=c/\c<(n:Int))/\e.1.Pairwise (·<·)):jA (n:Int) (rowsOf R known n)=eH:=by
 unfold jA;rw[qw];refine⟨i7,qY.2 λr a=>?_⟩;unfold fC;rw[qw];rcases qy.1 a with a|a
 ·obtain⟨e,f,rfl⟩:=qx.1 a;exact⟨qY.2 λc g=>by simpa using(b e f).1 c g,OB (b e f).2⟩
 ·obtain⟨d,rfl,i,_⟩:=uJ a;exact⟨i7,i0⟩
theorem aa.afk{e:Nat}{v:Sl}{vs:aI}(H:aa B h0 h As)(i:Nat)(r:As[i]?=dB (bm e v 1 aX (rC 1 aw) vs)):
  ∃f:List Sl,aa B h0 h (As.set i (ae e v 1 aX f)++[kL (f.zip vs)])/\f.length=ii vs/\∀(c:Nat) (n:c<ii f) (m:c<ii vs),f[c].ptr.isNone=vs[c].isEmpty:=by
 have g:i<ii As:=(qj.1 r).1;have u:aa B h0 h (As.set i (HP.ex λf:List Sl=>((ae e v 1 aX f).sep (kL (f.zip vs))).and (ii f=ii vs/\∀(c:Nat) (n:c<ii f) (m:c<ii vs),f[c].ptr.isNone=vs[c].isEmpty))):=
  H.dX i r λq ⟨rs,A,a,b,c,d,e⟩=>⟨rs,⟨λb=>v.on b,A,λx j=>(b x j).2,λx j=>(b x j).1,c,⟨a,λx j=>j⟩,λx j=>by
   obtain⟨k,D,l⟩:=qD j;simp only[List.length_zip]at D;rw[yL]at l;subst l;exact(e k _ _ (qc i4) (qc i4)).1⟩,d,λk n m=>by
   obtain⟨x,y⟩:=e k _ _ (qc n) (qc m);cases hv:vs[k]with
   |nil=>rw[y hv];rfl
   |cons z t=>
    have:=x.isSome (by rw[hv];simp);rw[this];rfl⟩
 obtain⟨f,o⟩:=u.SX i (zg g);rw[ye]at o;have w:=o.fact i (zg g);have s:=o.abn i (zg g);rw[ye]at s;have p:=s.split i (zg g);rw[ye]at p;exact⟨f,p,w⟩
def yv(x:Int×Sl):aR:=[xG xM x.1,x.2]
def agt:iy (Int×Sl) (Int×Row):=⟨λh q a b=>a.1=b.1/\Seq h q a.2 1 aw b.2,λa c=>⟨a.1,a.2.af c⟩,λa d=>⟨a.1,a.2.mono d⟩⟩
abbrev Ir:iy Sl (List (Int×Row)):=bv agt 2 yv
theorem Un{a:List Sl}{vs:aI}(h:ii a=ii vs)(b:List (Sl×Row))(e:∀x∈a.zip vs,x∈b):ie b id a vs:=
 ⟨h,λi r l d c=>e _ (yU.2 ⟨i,by rw[vD];exact⟨d,c⟩⟩)⟩
theorem OC{α β:Type}:∀(a:List α) (x:α) (l:List β) (h:ii a<ii l),(a++[x]).zip l=a.zip l++[(x,l[ii a])]
 |[],x,b::l,_=>i9
 |c::a,x,b::l,h=>by
  have:=OC a x l j7;simp[this]
def aca(h h':f8)(v:Value)(n:Nat)(A a:aI):Prop:=
 (lB n A a/\∃r:Sl,v=.tuple #[r,xG xM 0]/\Sp h h' [MA r (gc n A a)])∨(¬lB n A a/\v=.tuple #[xH ez 0 0,xG xM 10]/\Sp h h' [])
theorem aal(p:Pm)(seed:Int)(l:Sl)(d:List (Int×Row))(n w:Nat)(h:f8)(hl:dM Ir h l d)(z:bS p=eH)(b2:∀x∈d,Hv p x)(hn:(bX p).toNat=n)(hw:p.2.2.toNat=w)(en:ii d<=2^18)(hr:bY (ga p seed (d.map qq))=n):
  an xQ 139 #[jQ p,xG xO seed,l] h λv h'=>aca h h' v n (ga p seed (d.map qq)) (Dk p d):=by
 refine ts Tryz.func139 ?_ (.two .n (.fwd (.two .n (.two (.two .n (.inn (.loop [(8,cK),(23,aS)] [(8,9),(10,11),(23,39)] .n))) (.two (.join [(11,Nv)] [(11,12),(39,43)] .n) .n))) [(0,[.n]),(1,[(.two (.two .n (.inn (.loop [(95,aS)] [(20,21),(95,104)] .n))) .n)]),(2,[.n])])) [(5,(.l [0,1,2,3,4,6,7,5,8,9,10,11])),(7,(.l [1,0,2,3,4]))] (args:=[p,(xG xO (seed:Int)),l]);have ep:=(cg p).1 z;have d3:bX p=n:=by rw[<-hn];have:=pv z;omega
 have cn:n=p.1.toNat+p.2.1.toNat:=by rw[<-hn,pv z];omega
 have ca:p.2.2=(w:Int):=i4
 have b6:1<=n:=i4
 have cl:n<=20:=i4
 obtain⟨V,c7,el,cs⟩:=bv.jZ hl;have eh:=bv.len hl;let m:List fe:=sn n seed d;have ef:ii m=ii d:=by simp[m,sn]
 have K:=aex (seed:=seed) b6 cl b2 hw;let y:Nat->cu:=λi=>(d.take i).map λx=>eT n seed x.1;have ap:∀x:Int×Row,x∈d->(bS p&&ct x.1)=eH:=λx hx=>by rw[z,(b2 x hx).id];rfl
 refine(Sp.refl h).boxed λa1 N H1=>?_;have d7:Sp h N [ae 258 ⟨ez,0,0⟩ 2 qv [],sB [],ac a1 36 [xG xM p.1,xG xM p.2.1,xG xM p.2.2]]:=((aa.Xy H1).nil 258 2 qv).bB [2,1,0];refine aq (λt:Nat×Sl×List Sl=>(t.2.1,(t.1:Int))) (λt h'=>t.1<=ii d/\t.2.2.length=t.1/\Sp h h' [ae 258 t.2.1 2 qv (t.2.2.zip (V.map zi)),sB (t.2.2.zip (y t.1)),ac a1 36 [xG xM p.1,xG xM p.2.1,xG xM p.2.2]]) (λt=>ii d-t.1) (0,⟨ez,0,0⟩,[]) i0 ⟨i9,i0,d7⟩ ?_;rintro⟨i,o,cr⟩ h2 ⟨hi,bk,H2⟩;dsimp only at*;have cc:ii (y i)=i:=by simp[y];omega
 refine ag (λe=>?_) (λe=>?_)
 ·have Y:i<ii d:=i4
  obtain⟨y1,y2⟩:=cs i i4 Y;refine(Seq.up c7 H2.af).cX (g:=yv) i i0 i4 (V[i]'(by omega)) i0 ?_;refine H2.alloc aj i0 λa5 h3 H3=>?_;refine H3.storeAll aj 3 i0 i0 (yv (V[i]'(by omega))) i0 i0 i0 i0 λh4 T=>?_;refine⟨p,(T.box 2 i0).aE _ i0,(V[i]'(by omega)).1,(T.box 3 i0).cell0 i0,(V[i]'(by omega)).2,(T.box 3 i0).cell i0,?_⟩;refine(uP p seed (V[i]'(by omega)).1 h4).mono ?_;rintro _ h5 ⟨r,rfl,R5⟩;rw[y1,ap _ (qf Y),f9 rfl,hn]at R5;have H5:=(T.comp R5).freeze 4 i0 λ_=>rfl;refine⟨r,i0,⟨(H5.box 3 i0).cell i0,trivial⟩,?_⟩;have H6:=aa.abZ H5 1 4 i5 i0 i0;have d2:=H6.box 3 i0;refine H6.nS aj qv eQ i0 [(r,(V[i]'(by omega)).2)] i0 (show 1*2<=2^20 by decide) i0 ⟨d2.cell i0,trivial⟩ ?_;refine H6.push aj 0 i0 eQ i0 i5 (λ_=>rfl) Xg (r,(V[i]'(by omega)).2) i0 i5 i7 λo' h7 H7=>?_;refine⟨⟨(H7.box 3 i0).cell i0,trivial⟩,?_⟩;refine⟨(i+1,o',cr++[r]),jj,⟨i6,by simp[bk],?_⟩,i6⟩
  try dsimp only
  have e1:y (i+1)=y i++[eT n seed d[i].1]:=by simp only[y];rw[aD _ _ Y,qM];rfl
  have e2:(cr++[r]).zip (V.map zi)=cr.zip (V.map zi)++[(r,(V[i]'(by omega)).2)]:=by rw[OC cr r (V.map zi) i7,wV];simp only[bk]
  rw[e1,e2,List.zip_append (by rw[bk,cc])];exact H7.bB [0,1,2]
 have ea:i=ii d:=i4
 subst ea;have c6:y d.length=d.map λx=>eT n seed x.1:=by simp only[y];rw[qN]
 rw[c6]at H2;have d6:∀{h':f8},(∀x∈cr.zip (d.map λx=>eT n seed x.1),Qw.Seq h' (λb=>b<h'.size) x.1 1 ak x.2)->aN (λb=>b<h.size) h h'->Qw.Seq h' (λb=>b<h'.size) o 2 qv (cr.zip (V.map zi))->dM oW h' o m:=λ{h'} hp hpr hs=>by
  refine⟨_,hs,by simp[m,sn];omega,λk a b N h2=>?_⟩;have hk:k<ii d:=by have:=(qj.1 h2).1;omega
  rw[qc i7,yL,wV]at N;have e2:m[k]?=dB (eT n seed d[k].1,d[k].2):=by simp[m,sn,hk]
  rw[e2]at h2;simp only[zQ.injEq]at N h2;subst N;subst h2;refine⟨hp (cr[k]'(by omega),eT n seed d[k].1) (yU.2 ⟨k,?_⟩),Seq.up (cs k i4 hk).2 hpr⟩;rw[vD];exact⟨qc _,by simp[hk]⟩
 refine bG (λs h'=>∃(a8 f:eX),s=dB a8/\Sp h h' [SA a8 (gz f p ⟨ez,0,0⟩ ⟨ez,0,0⟩ ⟨ez,0,0⟩ ⟨ez,0,0⟩ ⟨ez,0,0⟩ ⟨ez,0,0⟩ ⟨ez,0,0⟩),ae 258 o 2 qv (cr.zip (V.map zi)),sB (cr.zip (d.map λx=>eT n seed x.1)),ac a1 36 [xG xM p.1,xG xM p.2.1,xG xM p.2.2],ac f 308 cR]) ?_ ?_
 ·refine⟨p,(H2.box 2 i0).aE _ i0,(oU h2).mono ?_⟩;rintro _ h3 ⟨f,rfl,R3⟩;have H3:=H2.comp R3;refine⟨dB f,i0,⟨(H3.box 2 i0).cell0 i0,(H3.box 2 i0).cell i0,(H3.box 2 i0).cell i0,trivial⟩,?_⟩;refine H3.boxed λa8 h4 T=>?_;exact⟨⟨(T.box 2 i0).cell0 i0,(T.box 2 i0).cell i0,(T.box 2 i0).cell i0,trivial⟩,a8,f,i0,T.bB [4,0,1,2,3]⟩
 rintro _ h3 ⟨s,f,rfl,H3⟩;refine⟨p,(H3.box 3 i0).aE _ i0,(jV p h3).mono ?_⟩;rintro _ h4 ⟨rfl,R4⟩;have T:=H3.up R4.af;refine⟨_,i0,?_⟩;rw[d3];have ee:dM oW h4 o m:=d6 (T.at 2 i0) T.af (T.seq 1 i0 λ_=>rfl);have cq:∀e∈m,ii e.1<=2^20:=λe B=>by
  obtain⟨x,hx,rfl⟩:=qx.1 B;have:=uw b6 cl seed x.1;dsimp only;omega
 refine(Xl o m n w h4 ee (λe B=>⟨(K e B).1,Ul (K e B).2⟩) i4 i4 ⟨i4,i4⟩ cq).mono ?_;have hA:aV n (bU p.1.toNat p.2.1.toNat):=by rw[cn];exact Ho _ _
 have eA:=abp (seed:=seed) z hn b2;have eB:=abq (seed:=seed) (n:=n) (p:=p) (l:=d) hw;rw[<-eA]at hr⊢;rw[<-eB];rintro _ h5 ⟨known,vals,hI,⟨ap,rfl,R5⟩|⟨ap,k,v,rs,rfl,R5⟩⟩
 ·refine⟨(⟨ez,0,0⟩,⟨ez,0,0⟩,⟨ez,0,0⟩,10),i0,bx (λ_=>?_) λe=>absurd e i5⟩;exact .inr ⟨We (λe B=>(K e B).1) hA hI ap hr,i0,(T.up R5.af).bB []⟩
 refine⟨(k,v,rs,0),i0,bx (λe=>absurd i0 e) λ_=>?_⟩;have S:=Zv (λe B=>(K e B).1) hA hI ap;have G:=Kp (λe B=>(K e B).1) hI;obtain⟨f1,f2,f3,f4,f5⟩:=Hu (λe B=>(K e B).1) hI;have I:=nY hI λe B=>(K e B).1;have bb:=acI (known:=known) (vals:=vals) λe B=>(K e B).2;have d4:=Wf (l:=m) (known:=known) (vals:=vals);have a9:=Wg (known:=known) (vals:=vals) cq;have cf:=hI.vlen;have d0:=hI.klen;unfold LN at S;obtain⟨R,a0⟩:∃R,R=aW known vals m:=⟨_,rfl⟩
 change gJ n w m _ known vals _ _ _ _ at S;rw[<-a0]at S G f1 f2 f3 f4 f5 I bb d4 a9 R5;obtain⟨P,H6,d5,b3⟩:=aa.afk (T.comp R5) 6 rfl;obtain⟨rr,H7⟩:=aa.FM H6 7 rfl λ_=>rfl;have H8:=aa.adf H7 8 i0;have H9:Sp h h5 [SA s (gz f p ⟨ez,0,0⟩ ⟨ez,0,0⟩ ⟨ez,0,0⟩ ⟨ez,0,0⟩ ⟨ez,0,0⟩ ⟨ez,0,0⟩ ⟨ez,0,0⟩),kL ((⟨ez,0,0⟩,[])::P.zip vals),HA v P,cy jm 2 qv rs rr R,ae 4 k 1 eO known,ac f 308 cR]:=aa.bB H8 [0,8,6,7,5,4];have b0:v.len=n:=by rw[(H9.own 2 i0).len];omega
 have hk:∀(c:Nat) (hc:c<ii P),P[c].ptr.isNone=!(known.getD c eL):=λc hc=>by
  rw[b3 c hc i4];have N:=hI.row c i4;rw[lX (show c<ii vals by omega)]at N;cases hkn:known.getD c eL with
  |true=>
   rw[hkn,f9 rfl]at N;cases hv:vals[c]'(by omega)with
   |nil=>rw[hv]at N;simp at N;omega
   |cons x t=>rfl
  |false=>
   rw[hkn,g0 i9]at N;rw[vj.1 N];rfl
 refine⟨s,i0,H9.store aj 0 i0 i0 4 [v] i0 i0 i0 nn λh6 dk=>?_⟩;refine⟨s,i0,dk.store aj 0 i0 i0 5 [rs] i0 i0 i0 nn λh7 dx=>?_⟩;have c5:=Um (known:=known) (n:=n) i4 λe B=>⟨(I e B).cS,bb e B⟩
 have ad:=tz (rows:=rowsOf R known n) (n:=n) (by rw[a0];exact sN (a0▸I));have ei:ii (rowsOf R known n)<=ii R+n:=by rw[rowsOf,qt,qu];have:=Cc known n;omega
 refine(Qz s f p v rs _ _ _ _ _ k rr R known n (As:=[kL ((⟨ez,0,0⟩,[])::P.zip vals),HA v P,cy jm 2 qv rs rr R,ae 4 k 1 eO known,ac f 308 cR]) dx (St.mk' λh' H'=>⟨H'.eS 2 i0,H'.seq 3 i0 λ_=>rfl⟩) d0 i4 i4 a9 c5 ⟨by have:=ad.1;omega,by have:=EO (dE n (rowsOf R known n)).used (rowsOf R known n).length;omega⟩).mono ?_;rintro _ h8 ⟨rfl,st,Z,lf,c9⟩;refine⟨(),i0,?_⟩;obtain⟨D,hD⟩:∃D,D=(gE R known n).dead:=⟨_,rfl⟩
 obtain⟨ST,bq⟩:∃ST,ST=mR R known n:=⟨_,rfl⟩
 obtain⟨L,hL⟩:∃L,L=Qw.leftOf R known n:=⟨_,rfl⟩
 have c8:Sp h h8 (SA s (gz f p v rs st Z lf ⟨ez,0,0⟩ ⟨ez,0,0⟩)::kL ((⟨ez,0,0⟩,[])::P.zip vals)::[HA v P,ae 338 st 2 fD ST,ae 3 Z 1 ak D,ae 3 lf 1 ak L,cy jm 2 qv rs rr R,ac f 308 cR]):=by rw[hD,bq,hL];exact aa.bB c9 [0,4,5,1,2,3,6,8]
 rw[<-hD]at S G f1 f2 f3 f5;rw[<-bq]at S G;rw[<-hL]at S f4;have b4:ii ST<=2^20:=by rw[bq,mR,gE];have:=qR (λx:Int×Int=>decide (x.1<ii R)) (dE n (rowsOf R known n)).steps;have:=ad.1;omega
 have eq:ii L<=2^20-2^10:=by rw[hL,Qw.leftOf,gE];have:=qR (λx:Int=>decide (x<ii R)) (fu (dE n (rowsOf R known n)).used (rowsOf R known n).length);have:=EO (dE n (rowsOf R known n)).used (rowsOf R known n).length;omega
 have F:St (λb=>b<h.size) h [HA v P,ae 338 st 2 fD ST,ae 3 Z 1 ak D,ae 3 lf 1 ak L,cy jm 2 qv rs rr R,ac f 308 cR] λh=>Uf h f rs st Z lf rr R ST D L:=
  St.mk' λh' H'=>⟨H'.box 5 i0,H'.eS 4 i0,H'.seq 1 i0 λ_=>rfl,H'.seq 2 i0 λ_=>rfl,H'.seq 3 i0 λ_=>rfl⟩
 refine(Uh s f p v rs st Z lf _ _ rr R ST D L n D.length w _ c8 F b0 i4 ca i4 i0 i4 I f1 f2 G b4 a9 i9).mono ?_;rintro _ h9 ⟨rfl,wa,mo,wr,mr,pl,b5,a2⟩;refine⟨(),i0,?_⟩;have d8:=(F.at [_,_,_,_] b5).dead.len;generalize ej:ST.foldl (hY R D.length) (fQ n D.length w D)=S0 at a2 S;have d1:ii S0.1=n:=by have:=S.lens.1;simpa[iv]using this
 have dp:ii S0.2=n:=by have:=S.lens.2.1;simpa[iv]using this
 have hV:ie pl id P vals:=Un d5 pl λx hx=>a2.sub x (qH _ hx);refine(Xu s f p v rs st Z lf wa mo P wr mr pl known vals S0.1 S0.2 n D.length b5 i4 d8 i4 ⟨λ_ h=>h,a2.way,a2.more⟩ hV cf d1 dp hk).mono ?_;rintro _ ek ⟨rfl,ao,ar,ab,da,U⟩;refine⟨(),i0,?_⟩;obtain⟨W,hW⟩:∃W,W=(iv D.length known vals S0).1:=⟨_,rfl⟩
 obtain⟨M,hM⟩:∃M,M=(iv D.length known vals S0).2:=⟨_,rfl⟩
 change lR pl ab ao ar (iv D.length known vals S0).1 (iv D.length known vals S0).2 at U;rw[<-hW,<-hM]at U S;have u:=S.lens;refine(Uj s f p v rs st Z lf wa mo ao ar ab rr R ST D L W M n D.length w da F cn ca i4 z i0 i4 I a9 f4 i4 ⟨λ_ h=>h,U.way,U.more⟩ u.1 u.2.1 u.2.2).mono ?_;rintro _ am ⟨a,b,rfl,a6⟩;refine⟨(a,b),i0,s,i0,Z,show f7 am (s.add 7)=_ from(a6.box 2 i0).cell i0,?_⟩;have dj:ie ab id P vals:=hV.mono U.sub;obtain⟨e1,e2⟩:=oM S;have O:=uI (n:=n) (w:=w) (ahead:=bU p.1.toNat p.2.1.toNat) (l:=m) (known:=known) (vals:=vals) (dead:=D) (left:=L) (W:=W) (M:=M);have a4:∀{X:aI},_->_:=λ{X} hs=>S.RL hr (D:=X) hs;have ay:=S.RM hr;have a3:=S.Tz i4 hr;have ax:=S.MW i4 hr;rw[<-a0]at e1 e2 O a4 ay a3 ax;obtain⟨dA,c0⟩:∃dA,dA=dt n D.length R W L (bU p.1.toNat p.2.1.toNat):=⟨_,rfl⟩
 obtain⟨H,d9⟩:∃H,H=fv n w R M L (bU p.1.toNat p.2.1.toNat):=⟨_,rfl⟩
 rw[<-c0]at e1 O a4 ay a3 ax a6;rw[<-d9]at e2 O a4 ay a3 a6;have eb:ii dA=ii L+p.2.1.toNat:=by rw[c0];simp[dt,bU]
 have bd:∀{h':f8} {pre:List HP} {dead:Sl} {dr:List Sl} {X:aI} {Q:HP},Sp h h' (Told s f p v rs st Z lf wa mo ao ar ab++HA v P::[ae 338 st 2 fD ST,ae 3 Z 1 ak D,ae 3 lf 1 ak L,cy jm 2 qv rs rr R,ac f 308 cR,Q])->(∀h',Q.p h' (λb=>b<h'.size)->fq h' (λb=>b<h'.size) dead 1 aw X dr)->iz D.length w dA H X->
   an xQ 200 #[xI (dB s),dead] h' λv' ah=>v'=.tuple #[]/\f7 ah (s.add 4)=dB (xH v.ptr v.len v.cap)/\aca h ah (.tuple #[v,xG xM 0]) n (dz n m (bU p.1.toNat p.2.1.toNat)) (iq w m (bU p.1.toNat p.2.1.toNat)):=by
  intro h' pre dead dr X Q H' hQ hs;refine(Xw s f p v rs st Z lf wa mo dead P ao ar dr ab known vals W M X n D.length w H' (St.mk' λah al=>⟨al.box 4 i0,hQ ah (al.at 5 i0)⟩) i4 i4 i4 ⟨λ_ h=>h,U.way,U.more⟩ dj cf u.1 u.2.1 u.2.2 hs.1 hs.2.1 hk).mono ?_;rintro _ ah ⟨rfl,er,eo,al,ip⟩;refine⟨i0,(al.box 0 i0).cell i0,?_⟩;obtain⟨c1,c2⟩:=a4 hs;refine .inl ⟨c1,v,i0,?_⟩;rw[<-c2];exact(al.aad 4 3 i5 i0 i0 ip.1 λk r l N h2=>ip.2 k r l N h2).bB [4]
 have J:Sp h am (MA a dA::CA b H::(Told s f p v rs st Z lf wa mo ao ar ab++HA v P::[ae 338 st 2 fD ST,ae 3 Z 1 ak D,ae 3 lf 1 ak L,cy jm 2 qv rs rr R,ac f 308 cR])):=a6;have b9:=J.JZ 1 i0 λ_=>rfl;have cd:dY am b 1 aw H:=bv.todY (by
  have:=bv.impl (α':=Sl) (E:=Oy) (E':=bR 1 aw) id (λ{h q a b} (hx:Oy.p h q a b)=>hx.1) b9
  rwa [List.map_id]at this)
 have ed:=cd.len;refine cv (λe0=>?_) (λe0=>?_)
 ·have c4:ii D=0:=i4
  obtain⟨br,q1,q2,q3⟩:=bv.jZ b9;refine aq (λi:Nat=>(i:Int)) (λi h'=>h'=am/\i<=ii H/\∀j (hj:j<ii H),j<i->H[j]=aM w) (λi=>ii H-i) 0 i0 ⟨i0,i4,λj _ hj=>i4⟩ ?_;rintro i a7 ⟨rfl,hi,hz⟩;have bl:iz D.length w dA H []↔∀r∈H,r=aM w:=by rw[c4];exact Hw O
  refine ag (λe=>?_) (λe=>?_)
  ·have Y:i<ii H:=by have e':(i:Int)<(b.len:Int):=e;omega
   obtain⟨y1,y2⟩:=q3 i i4 Y;have ec:H[i].length=w:=e2 _ (qf _);refine q1.lY i i0 i4 ?_;refine(DT (br[i]'(by omega)) H[i] _ i0 a7 y1 y2 i4).mono ?_;rintro _ b7 ⟨⟨t,rfl,ht⟩,rfl⟩;refine⟨t,i0,ag (λe3=>?_) λe3=>?_⟩
   ·refine .inr ⟨λhc=>?_,i0,J.bB []⟩;have cp:=ay hc;have du:D=[]:=vj.1 c4;rw[du]at cp;have:=(Hw O).1 cp _ (qf Y);have h0:t.len=0:=ht.2 λx hx=>by rw[this]at hx;exact(yO.1 hx).2
    omega
   ·have h0:t.len=0:=i4
    refine⟨i+1,j0,⟨i0,i4,λj hj eg=>?_⟩,i4⟩;by_cases hh:j=i
    ·subst hh;exact xd.2 ⟨ec,ht.1 h0⟩
    ·exact hz j hj i4
  ·have hs:iz D.length w dA H []:=bl.2 λr hr=>by
    obtain⟨j,hj,rfl⟩:=qD hr;have e':¬(i:Int)<(b.len:Int):=e;exact hz j hj i4
   have b1:=aa.comp (J.bB [2,3,4,5,6,7,8,9,10,11]) (Sp.one (h:=a7) (h':=a7) (A:=emp) (aN.refl _ _) trivial);refine(bd (pre:=[]) (dead:=⟨ez,0,0⟩) (dr:=[]) (X:=[]) (Q:=emp) ?_ (λh' _=>⟨Seq.nil _ _ _ _ _ _,i0,λk r l N _=>by cases N⟩) hs).mono ?_
   ·exact b1
   ·rintro _ b7 ⟨rfl,hc,hm⟩;exact⟨(),i0,s,i0,v,hc,hm⟩
 ·have dy:1<=ii D:=i4
  refine⟨s,i0,dB f,(J.box 2 i0).cell0 i0,?_⟩;refine(QA f a b dA H dA.length D.length w am (J.box 11 i0) (J.CF 0 i0) cd i0 O.symm e1 e2 dy i4 i4 ax).mono ?_;rintro _ a7 (⟨hc,r,rfl,R12⟩|⟨hc,rfl,R12⟩)
  ·refine⟨(r,0),i0,bx (λe=>absurd i0 e) λ_=>?_⟩;have b1:=(J.comp R12).LJ 12 i0;obtain⟨dr,ds⟩:=aa.FM b1 12 rfl λ_=>rfl;have hs:=sh O e1 e2 ax hc;refine(bd (pre:=[]) (dead:=r) (dr:=dr) (X:=gc D.length dA H) (Q:=cy (bR 1 aw) 1 aX r dr (gc D.length dA H)) (ds.bB [2,3,4,5,6,7,8,9,10,11,12]) (λh' x=>⟨x.1,x.2.1,x.2.2⟩) hs).mono ?_;rintro _ b7 ⟨rfl,hc,hm⟩;exact⟨(),i0,s,i0,v,hc,hm⟩
  ·refine⟨(⟨ez,0,0⟩,10),i0,bx (λ_=>?_) λe=>absurd e i5⟩;exact .inr ⟨λhh=>hc (a3.2 hh),i0,(J.up R12.af).bB []⟩
def nC(p:Int×Int×Int)(x:Int×Row):Bool:=ct x.1&&decide ((ii x.2:Int)=p.2.2)
theorem afl{p:Int×Int×Int}{x:Int×Row}(c:bS p=eH):nC p x=eH↔Hv p x:=by have:=(cg p).1 c;unfold nC;rw[qw,decide_eq_true_iff];exact⟨λ⟨a,b⟩=>⟨a,i4⟩,λh=>⟨h.id,by have:=h.len;omega⟩⟩
def Ac(p:Int×Int×Int)(seed:Int)(X:aI)(i:Nat):Row:=(qz i).flatMap λj:Nat=>kC p.2.2.toNat X (eT (bX p).toNat seed (j:Int))
theorem KT(p:Int×Int×Int)(seed:Int)(X:aI)(i:Nat):Ac p seed X (i+1)=Ac p seed X i++kC p.2.2.toNat X (eT (bX p).toNat seed (i:Int)):=by unfold Ac;rw[zV,qZ];simp
open Classical in
noncomputable def oX(p:Int×Int×Int)(seed:Int)(l:List (Int×Row)):Row×Int:=
 if bS p&&l.all (nC p)then
  if md p seed (l.map qq)then
   if lB (bX p).toNat (ga p seed (l.map qq)) (Dk p l)then(Ac p seed (gc (bX p).toNat (ga p seed (l.map qq)) (Dk p l)) p.1.toNat,0)else([],10)
  else([],9)
 else([],1)
theorem QB(p:Pm)(x:Int×Sl)(l:Row)(h:f8)(f:Rd h x.2 1 aw l):an xQ 136 #[jQ p,xL #[xG xM x.1,x.2]] h λv h'=>v=xK (nC p (x.1,l))/\Sp h h' []:=by
 refine ts Tryz.func136 ?_ (args:=[p,x]);refine(Sp.refl h).boxed λj k d=>?_;refine d.boxed λg i a=>?_;have e:=f.len;refine⟨x.1,(a.box 1 i0).cell0 i0,ag (λc=>?_) λc=>?_⟩
 ·refine⟨x.1,(a.box 1 i0).cell0 i0,ag (λb=>?_) λb=>?_⟩
  ·refine⟨x.2,(a.box 1 i0).cell i0,p.2.2,(a.box 0 i0).cell i0,?_,.zip a.af⟩;congr 1;unfold nC ct;rw[g9 (show 0<=x.1 from c),g9 (show x.1<=65535 from b),e];rw[yZ];simp
  ·refine⟨?_,.zip a.af⟩;unfold nC ct;rw[hU (show¬x.1<=65535 from b)];simp
 ·refine⟨?_,.zip a.af⟩;unfold nC ct;rw[hU (show¬0<=x.1 from c)];simp
theorem QC(p:Pm)(b:eX)(x:Int×Sl)(l:Row)(h:f8)(c:bW h b 36 [xG xM p.1,xG xM p.2.1,xG xM p.2.2])(e:Rd h x.2 1 aw l):an xQ 135 #[xL #[xG xM x.1,x.2],xI (dB b)] h λv h'=>v=xK (!nC p (x.1,l))/\Sp h h' []:=by refine ts Tryz.func135 ?_ (args:=[x,b]);refine(Sp.refl h).boxed λg d a=>?_;refine⟨p,(c.af a.af c.lt).aE _ i0,x,(a.box 0 i0).aE _ i0,?_⟩;refine(QB p x l d (Seq.up e a.af)).mono ?_;rintro _ i ⟨rfl,f⟩;exact⟨_,i0,i0,.zip (a.up f.af).af⟩
theorem QD(p:Pm)(f:eX)(l:Sl)(a:List (Int×Row))(h:f8)(n:bW h f 36 [xG xM p.1,xG xM p.2.1,xG xM p.2.2])(o:dM Ir h l a)(B:ii a<=2^30):an xQ 134 #[l,.func (.func 135) #[] #[xI (dB f)]] h λv h'=>v=xK (!a.all (nC p))/\Sp h h' []:=by
 refine ts Tryz.func134 ?_ (args:=[l,(.func (.func 135) #[] #[xI (dB f)])]);refine(kX l (135,#[],#[xI (dB f)]) (R:=λv h'=>(∃i:Int,v=xG xM i/\(decide (i>=0)=!a.all (nC p)))/\Sp h h' []) ?_).mono ?_
 ·skip
  obtain⟨k,w,D,z⟩:=bv.jZ o;have u:=bv.len o;refine aq (λi:Nat=>(i:Int)) (λi h'=>i<=ii a/\(a.take i).all (nC p)=eH/\Sp h h' []) (λi=>ii a-i) 0 i0 ⟨i4,i9,Sp.refl h⟩ ?_;rintro i r ⟨s,b,d⟩;refine ag (λe=>?_) (λe=>?_)
  ·have c:i<ii a:=i4
   obtain⟨t,x⟩:=z i i4 c;refine(Seq.up w d.af).cX (g:=yv) i i0 i4 (k[i]'(by omega)) i0 ?_;refine dL lx ?_;refine(QC p f (k[i]'(by omega)) a[i].2 r (n.af d.af n.lt) (Seq.up x d.af)).mono ?_;rintro _ A ⟨rfl,q⟩;have j:((k[i]'(by omega)).1,a[i].2)=a[i]:=by rw[t]
   rw[j];refine⟨_,i0,aQ (λm=>?_) λm=>?_⟩
   ·refine⟨⟨i,i0,?_⟩,d.up q.af⟩;rw[g9 (show(i:Int)>=0 by omega)];have:a.all (nC p)=eL:=vb.2 ⟨_,qf c,n9⟩;rw[this];rfl
   ·refine⟨i+1,j0,⟨i4,?_,d.up q.af⟩,i4⟩;rw[aD _ _ c,vp,b];simpa using m
  ·refine⟨⟨-1,i0,?_⟩,d⟩;rw[qg i4]at b;rw[b];rfl
 ·rintro _ r ⟨⟨i,rfl,s⟩,y⟩;exact⟨i,i0,by rw[s],y⟩
theorem Xz(l:Sl)(b:List (Int×Row))(h:f8)(j:dM Ir h l b)(E:ii b<=2^30):an xQ 138 #[l] h λv h'=>∃r:Sl,v=r/\Sp h h' [ae 3 r 1 ak (b.map qq)]:=by
 refine ts Tryz.func138 ?_ (.two .n (.two .n (.two (.two .n (.inn (.loop [(3,cK),(8,aS)] [(3,4),(5,6),(8,18)] .n))) .n)));obtain⟨f,w,F,x⟩:=bv.jZ j;have s:=bv.len j;refine aq (λt:Nat×Sl=>(t.2,(t.1:Int))) (λt h'=>t.1<=ii b/\Sp h h' [ae 3 t.2 1 ak ((b.take t.1).map qq)]) (λt=>ii b-t.1) (0,⟨ez,0,0⟩) i0 ⟨i9,(Sp.refl h).nil 3 1 ak⟩ ?_;rintro⟨i,o⟩ B ⟨D,d⟩;dsimp only at*;refine ag (λe=>?_) (λe=>?_)
 ·have c:i<ii b:=i4
  obtain⟨q,A⟩:=x i i4 c;refine(Seq.up w d.af).cX (g:=yv) i i0 i4 (f[i]'(by omega)) i0 ?_;refine d.alloc aj i0 λa z p=>?_;refine p.storeAll aj 1 i0 i0 (yv (f[i]'(by omega))) i0 i0 i0 i0 λh3 k=>?_;refine⟨(f[i]'(by omega)).1,(k.box 1 i0).cell0 i0,?_⟩;refine k.push aj 0 i0 fR i0 i5 (λ_=>rfl) eC (f[i]'(by omega)).1 i0 i5 i7 λu y m=>?_;refine⟨(i+1,u),jj,⟨i6,?_⟩,i6⟩
  try dsimp only
  rw[aD _ _ c,qM];rw[q]at m;exact m.bB [0]
 ·have:i=ii b:=i4
  subst this;rw[qN]at d;exact⟨o,i0,d⟩
theorem aam{B:av}{q h:f8}{As:List HP}(f b:Sl)(c d:Row)(H:aa B q h (ae 5 b 1 aw d::As))(t:St B q As λh=>Rd h f 1 aw c)
  (A:ii c=ii d) (I:ii c<=2^30) {K:f8->Prop} (G:∀h',aa B q h' (ae 5 b 1 aw (cO 1 c d)::As)->K h'):
  gU (σ:=Int) (λa E g=>
 Br (decide (a<((f.len:Nat):Int)))
 (∃o:eX,(f.ptr=dB o/\0<=a/\a<((f.len:Nat):Int))/\
 ∃j:Int,f7 g (o.add (a.toNat*1))=dB (xG xN j)/\
 ∃m:eX,(b.ptr=dB m/\0<=a/\a<((b.len:Nat):Int))/\
 ∃p:Int,f7 g (m.add (a.toNat*1))=dB (xG xN p)/\
 ∃a28:eX,(b.ptr=dB a28/\0<=a/\a<((b.len:Nat):Int))/\
 au xQ (qE 5 (xI (dB (a28.add (a.toNat*1)))) (xG xN (qe xN ((qK (qG xN) p^^^(qK (qG xN) j)).toNat:Nat)))) g λ_ r=>
 E (qe xM (a+(1:Int))) r) (K g)) (0:Int) h:=by
 have v:f.len=ii c:=(t.at [ae 5 b 1 aw d] H).len;refine aq (λk:Nat=>(k:Int)) (λk h'=>k<=ii c/\aa B q h' (ae 5 b 1 aw (ze (λx y=>y^^^x) (c.take k) (d.take k)++d.drop k)::As)) (λk=>ii c-k) 0 i0 ⟨i4,l6⟩ ?_;rintro k F ⟨D,l⟩;have w:=t.at [_] l;refine ag (λe=>?_) (λe=>?_)
 ·have s:k<ii c:=i4
  have n:ii (ze (λx y=>y^^^x) (c.take k) (d.take k))=k:=i7
  have z:ii (ze (λx y=>y^^^x) (c.take k) (d.take k)++d.drop k)=ii d:=by rw[qt,n,za];omega
  refine w.bt k i0 s _ i0 ?_;have i:(ze (λx y=>y^^^x) (c.take k) (d.take k)++d.drop k)[k]'(by omega)=d[k]:=by rw[wW i4];simp[n]
  refine(l.seq 0 i0 λ_=>rfl).bt k i0 i4 _ i0 ?_;rw[i,mE];refine l.set aj 0 i0 (λ_=>rfl) i0 k i0 i4 _ i0 i0 i0 λh3 u=>?_;rw[zr,DU A]at u;exact⟨k+1,j0,⟨i4,u⟩,i4⟩
 ·have:k=ii c:=i4
  subst this;rw[qg (qm _),qg i4,zd i4,qF,<-Sa]at l;exact G F l
theorem Uo(p:Pm)(seed:Int)(l:Sl)(a:List (Int×Row))(h:f8)(Y:dM Ir h l a)(W:ii a<=2^18):
  an xQ 86 #[jQ p,xG xO seed,l] h λv h'=>∃r:Sl,v=.tuple #[r,xG xM (oX p seed a).2]/\Sp h h' [ae 5 r 1 aw (oX p seed a).1]:=by
 refine ts Tryz.func86 ?_ (.two .n (.two (.join [] [(6,8),(17,25)] .n) (.two (.join [] [(6,8),(25,31)] .n) (.two .n (.two .n (.two .n (.two (.two .n (.inn (.loop [(10,cK),(43,aS)] [(10,13),(14,17),(43,81)] (.two .n (.two .n (.two (.inn (.two .n (.two .n (.two (.two .n (.inn (.loop [(54,aS)] [(14,17),(54,77)] (.two .n (.two .n (.two (.inn (.two .n (.two .n (.inn (.loop [(63,aS)] [(15,17),(63,76)] .n))))) .n)))))) .n)))) .n)))))) .n))))))) (args:=[p,(xG xO (seed:Int)),l]);refine(Sp.refl h).boxed λK h1 H1=>?_;have u:∀{h':f8} (e:Int),Sp h h' [ac K 36 [xG xM p.1,xG xM p.2.1,xG xM p.2.2]]->oX p seed a=([],e)->∃r:Sl,(.tuple #[xH ez 0 0,xG xM e]:Value)=.tuple #[r,xG xM (oX p seed a).2]/\Sp h h' [ae 5 r 1 aw (oX p seed a).1]:=λe U he=>by
  rw[he];exact⟨⟨ez,0,0⟩,i0,(U.nil 5 1 aw).bB [1]⟩
 refine aT ⟨p,(H1.box 0 i0).aE _ i0,?_⟩;refine(eF p h1).mono ?_;rintro _ h2 ⟨rfl,R2⟩;have Q:=H1.up R2.af;refine⟨_,i0,aQ (λe=>?_) λb=>?_⟩
 ·exact u 1 Q (by unfold oX;rw[e];rfl)
 refine(QD p K l a h2 (Q.box 0 i0) (dM.up Y Q.af) i4).mono ?_;rintro _ h3 ⟨rfl,R3⟩;have R:=Q.up R3.af;refine⟨_,i0,aQ (λe=>?_) λf=>?_⟩
 ·exact u 1 R (by unfold oX;rw[b,e];rfl)
 refine aT ⟨p,(R.box 0 i0).aE _ i0,?_⟩;refine(Xz l a h3 (dM.up Y R.af) i4).mono ?_;rintro _ h4 ⟨r,rfl,R4⟩;have H4:=R.comp R4;have D:=H4.box 0 i0;refine⟨r,i0,⟨D.cell0 i0,D.cell i0,D.cell i0,trivial⟩,?_⟩;refine(KB p seed r (a.map qq) h4 (H4.seq 1 i0 λ_=>rfl) i7).mono ?_;rintro _ h5 ⟨rfl,R5⟩;have O:Sp h h5 [ac K 36 [xG xM p.1,xG xM p.2.1,xG xM p.2.2]]:=(H4.up R5.af).bB [0];refine⟨_,i0,trivial,aQ (λe=>?_) λd=>?_⟩
 ·exact u 9 O (by unfold oX;rw[b,f,e];rfl)
 have H:∀x∈a,Hv p x:=λx k=>(afl b).1 (qY.1 f x k);have ay:=(cg p).1 b;have ax:=pv b;have hr:bY (ga p seed (a.map qq))=(bX p).toNat:=by have:=d;unfold md EJ at this;rw[b]at this;simp at this;omega
 refine⟨p,(O.box 0 i0).aE _ i0,?_⟩;refine(aal p seed l a (bX p).toNat p.2.2.toNat h5 (dM.up Y O.af) b H i0 i0 W hr).mono ?_;rintro _ h6 (⟨hc,m,rfl,R6⟩|⟨hc,rfl,R6⟩)
 rotate_left
 ·refine⟨(⟨ez,0,0⟩,10),i0,bx (λ_=>u 10 (O.up R6.af) ?_) λe=>absurd e i5⟩;unfold oX;rw[b,f,d,g0 hc];rfl
 refine⟨(m,0),i0,bx (λe=>absurd i0 e) λ_=>?_⟩;obtain⟨X,hX⟩:∃X,X=gc (bX p).toNat (ga p seed (a.map qq)) (Dk p a):=⟨_,rfl⟩
 have M:oX p seed a=(Ac p seed X p.1.toNat,0):=by unfold oX;rw[b,f,d,f9 hc,hX];rfl
 have al:aV p.2.2.toNat (Dk p a):=λx k=>by
  rcases qy.1 k with k|k
  ·rw[(yO.1 k).2];simp[aM]
  ·obtain⟨y,hy,rfl⟩:=qx.1 k;exact(H y hy).len
 have T:ii (ga p seed (a.map qq))=ii (Dk p a):=by rw[<-abp (n:=(bX p).toNat) (seed:=seed) b i0 H,<-abq (n:=(bX p).toNat) (seed:=seed) (p:=p) (l:=a) rfl];exact Aq
 obtain⟨B,s⟩:=sM T (CV p seed _) al hr;rw[<-hX]at R6 B s;have H6:=(O.comp R6).LJ 1 i0;obtain⟨S,P⟩:=aa.FM H6 1 rfl λ_=>rfl;have am:=(P.eS 1 i0).1.len;have a4:=(P.eS 1 i0).2.1;refine⟨p.1,(P.box 0 i0).cell0 i0,?_⟩;rw[M];have N:Sp h h6 [ae 5 ⟨ez,0,0⟩ 1 aw [],ac K 36 [xG xM p.1,xG xM p.2.1,xG xM p.2.2],cy (bR 1 aw) 1 aX m S X]:=(P.nil 5 1 aw).bB [2,0,1];have L:∀j:Nat,ii (kC p.2.2.toNat X (eT (bX p).toNat seed (j:Int)))=p.2.2.toNat:=λj=>RI s B λx k=>nT i4 i4 k;have F:∀i,ii (Ac p seed X i)=i*p.2.2.toNat:=λi=>by
  induction i with
  |zero=>simp[Ac]
  |succ i ih=>rw[KT,qt,ih,L,Nat.succ_mul]
 refine aq (λt:Nat×Sl=>(t.2,(t.1:Int))) (λt h'=>t.1<=p.1.toNat/\Sp h h' [ae 5 t.2 1 aw (Ac p seed X t.1),ac K 36 [xG xM p.1,xG xM p.2.1,xG xM p.2.2],cy (bR 1 aw) 1 aX m S X]) (λt=>p.1.toNat-t.1) (0,⟨ez,0,0⟩) i0 ⟨i4,by simpa[Ac]using N⟩ ?_;rintro⟨i,o⟩ h8 ⟨hi,N⟩;dsimp only at*;refine ag (λe=>?_) (λe=>?_)
 ·have ap:i<p.1.toNat:=i4
  refine⟨p.2.2,(N.box 1 i0).cell i0,?_⟩;refine N.make aj aw gF i5 0 i0 i0 p.2.2.toNat p.2.2.toNat i4 i4 (qm _) i4 λsm h9 _ _ H9=>?_;refine⟨p,(H9.box 1 i0).aE _ i0,(uP p seed (i:Int) h9).mono ?_⟩;rintro _ ar ⟨c,rfl,E⟩;have ad:(bS p&&ct (i:Int))=eH:=by rw[b];unfold ct;simp;omega
  rw[ad,f9 rfl]at E;have A:=(H9.comp E).bB [3,0,1,2,4];refine⟨c,i0,?_⟩;generalize G:eT (bX p).toNat seed (i:Int)=cs at A E;have w:∀x∈cs,0<=x/\x<((bX p).toNat:Int):=λx k=>nT i4 i4 (G▸k);have a3:ii cs<=20:=by have:=uw (n:=(bX p).toNat) i4 i4 seed (i:Int);rw[G]at this;omega
  have ao:=(A.own 4 i0).len;refine aq (λj:Nat=>(j:Int)) (λj h'=>j<=ii cs/\Sp h h' [ae 5 sm 1 aw (kC p.2.2.toNat X (cs.take j)),ae 5 o 1 aw (Ac p seed X i),ac K 36 [xG xM p.1,xG xM p.2.1,xG xM p.2.2],cy (bR 1 aw) 1 aX m S X,ae 3 c 1 ak cs]) (λj=>ii cs-j) 0 i0 ⟨i4,A⟩ ?_;rintro j a0 ⟨hj,g⟩;have J:=tv s B w j hj;refine ag (λe2=>?_) (λe2=>?_)
  ·have I:j<ii cs:=i4
   have a2:=w _ (qf I);refine(g.seq 4 i0 λ_=>rfl).bt j i0 I _ i0 ?_;have q:cs[j].toNat<ii X:=i4
   refine(g.eS 3 i0).1.lY cs[j].toNat i4 i4 ?_;have V:ii (X[cs[j].toNat]'q)=p.2.2.toNat:=s _ (qf _);refine aam (S[cs[j].toNat]'(by omega)) sm (X[cs[j].toNat]'q) _ g (St.mk' λh' U=>Fix.row (U.eS 2 i0) q) (by rw[V,J]) i4 λah z=>?_;refine⟨j+1,j0,⟨i4,?_⟩,i4⟩;rw[aD _ _ I,FU,lX q];exact z
  ·have Z:j=ii cs:=i4
   subst Z;rw[qN]at g J;refine g.append aj 1 i0 gF NT i0 i5 (λ_=>rfl) (g.seq 0 i0 λ_=>rfl) gW (by rw[F,J];have:i*p.2.2.toNat<=16*24:=Nat.mul_le_mul i4 i4;omega) λo' ah z=>?_;refine⟨(i+1,o'),jj,⟨i6,?_⟩,i6⟩
   try dsimp only
   rw[KT,G];exact z.bB [1,2,3]
 ·have ab:i=p.1.toNat:=i4
  subst ab;exact⟨o,i0,N.bB [0]⟩
variable {p:Int×Int×Int} {seed:Int} {d:Row} {K H w n:Nat}
theorem dH.size(B:dH p seed d K H w n):p.2.2.toNat=w:=by have:=B.s;omega
theorem KU(a b:dG):oF a b=eH↔a.object=b.object/\a.block=b.block/\a.id=b.id:=by unfold oF;rw[decide_eq_true_eq]
theorem Up{m:aA}{r:dG}:ij m r=eH↔jR r=eH/\r.p=m.p/\∃x∈m.objs,x.object=r.object/\r.block<(x.tries.length:Int)/\r.seed=iG r.object r.block (x.tries.getD r.block.toNat 0):=by unfold ij;rw[qw,qw,decide_eq_true_eq,wq];simp only[qw,decide_eq_true_eq]
def acb(m:aA)(C:Int->aP)(o b:Int):aP:=(splitB m.p (C o)).getD b.toNat []
def agu(m:aA)(C:Int->aP)(r:dG):Prop:=r.data=DK m.p r.seed (acb m C r.object r.block) r.id
structure afm (m:aA) (C:Int->aP) (c:aP):Prop where
 old:∀r,dP c=dB r->r.object<m.next
 tru:∀r,dP c=dB r->ij m r=eH->agu m C r
 page:∀g,ck c=dB g->g.seq<=m.seq/\(g.seq=m.seq->c∈aO m)
theorem KV{m:aA}{l:bO}{r:dG}(h:r∈fO m l):dl r∈l/\dP (dl r)=dB r/\ij m r=eH:=by obtain⟨c,b,a,d⟩:=BG h;rw[(Th a).1];exact⟨b,a,d⟩
theorem Uq{r:dG}(h:jR r=eH):ck (dl r)=ez:=by
 have a:=rh h;unfold ck dl;rw[f9 h,CO]
 try dsimp only
 rw[g0 (by rintro⟨h,_⟩;exact absurd h i5)]
structure Sto (m:aA) (C:Int->aP) (ds:aF):Prop where
 may:bs m=eH
 len:ds.length=64
 cells:∀k d,aU ds k=dB d->∀c∈d.l,afm m C c
 ents:∀e∈m.objs,((C e.object).length:Int)=e.length/\dv m.p e.object (splitB m.p (C e.object)).length=dB e.tries
theorem OF{ds b:aF}{f:Int->aY->aY}(h:∀k,aU b k=(aU ds k).map (f k)){k:Int}{d:aY}(a:aU b k=dB d):∃c,aU ds k=dB c/\d=f k c:=by
 rw[h]at a;cases h0:aU ds k with
 |none=>rw[h0]at a;cases a
 |some c=>rw[h0]at a;injection a with a;exact⟨c,i0,a.symm⟩
variable {m:aA} {ds:aF} {offs:Int}
section
variable {C:Int->aP} {w:Pow}
theorem Ur{o b k:Int}{x:Int×aP}(h:x∈nr m ds o b k):∃d r,aU ds k=dB d/\r∈fO m d.l/\r.object=o/\r.block=b/\x=(r.id,r.data):=by
 unfold nr at h;cases hd:aU ds k with
 |none=>rw[hd]at h;cases h
 |some d=>
  rw[hd]at h;unfold AE at h;obtain⟨r,e,rfl⟩:=qx.1 h;obtain⟨c,a⟩:=qI.1 e;rw[qw,decide_eq_true_eq,decide_eq_true_eq]at a;exact⟨d,r,i0,c,a.1,a.2,i0⟩
end
theorem aan{a b:dG}(c:mv a b=eH)(d:mv b a=eH):oF a b=eH:=by unfold mv at c d;rw[decide_eq_true_eq]at c d;rw[KU];omega
theorem aao{a b c:dG}(h:mv a b=eH)(d:oF a c=eH):mv c b=eH:=by rw[KU]at d;unfold mv at h⊢;rw[decide_eq_true_eq]at h⊢;omega
theorem Us{l:List dG}(h:l.Pairwise λa b=>mv a b=eH):(rG l).Pairwise λa b=>oF a b=eL:=by
 unfold rG;rw[List.pairwise_map];have o:((qz l.length).filter (se l)).Pairwise (·<·):=(List.pairwise_lt_range (n:=ii l)).filter _;refine o.imp_of_mem λ{i j} hi hj hlt=>?_;have c:=qC.1 (qI.1 hj).1;have d:=(qI.1 hj).2;rw[hJ _ (show i<ii l by omega),hJ _ c];refine eq_false_of_ne_true λm=>?_;unfold se at d;rw[hU i4,Bool.false_or,wF,hJ _ c,hJ _ (show j-1<ii l by omega)]at d;have f:=zp.1 h;have k:mv l[i] l[j-1]=eH:=by
  by_cases e:i=j-1
  ·subst e;unfold mv;rw[decide_eq_true_eq];omega
  ·exact f i (j-1) i4 i4 i4
 have g:mv l[j-1] l[j]=eH:=f (j-1) j i4 c i4;have:=aan (aao k m) g;rw[d]at this;cases this
theorem QE(m:aA)(l:bO):(fO m l).Pairwise λa b=>oF a b=eL:=Us (List.pairwise_mergeSort MO.1 MO.2 _)
theorem ug{α:Type}[DecidableEq α]:∀{l m:List α},l.Nodup->(∀x∈l,x∈m)->ii l<=ii m
 |[],m,_,_=>Nat.zero_le _
 |x::l,m,h,hs=>by
  obtain⟨f,d⟩:=List.nodup_cons.1 h;have b:=hs x qP;have:=ug (l:=l) (m:=m.erase x) d λy c=>by
   have a:y≠x:=λe=>f (e▸c);exact(List.mem_erase_of_ne a).2 (hs y (qH _ c))
  rw[List.length_erase_of_mem b]at this;have:=List.length_pos_of_mem b;rw[zh];omega
section
variable {C:Int->aP} {w:Pow}
def Low(m:aA)(ds:aF):Prop:=∀k d,aU ds k=dB d->∀c∈d.l,∀r,dP c=dB r->ij m r=eH->r.id<m.p.1+m.extra
structure Full (m:aA) (C:Int->aP) (ds:aF):Prop where
 live:∀k∈m.drives,∃d,aU ds k=dB d/\d.lost=eL/\ub m d.l=eH
 all:∀e∈m.objs,∀i:Nat,i<e.tries.length->∀id:Nat,id<(m.p.1+m.extra).toNat->∃k∈m.drives,∃d,aU ds k=dB d/\dl (JC m e.object i (iG e.object i (e.tries.getD i 0)) (acb m C e.object i) id)∈d.l
theorem KW(m:aA)(d:aY)(N:Int):(dR m d N).lost=d.lost/\(dR m d N).room=d.room:=by unfold dR;split<;>exact⟨i0,i0⟩
end
variable {k:Kit} {a b:eX} {mc:aR} {da:List bZ}
section
variable {pw:eX} {w:Pow} {d:aY}
theorem aa.aap(ok:fx mc da ds)(F:n<64)(H:aa B h0 h (ac a k.tS (bC mc pw offs (da.set n (dB b)))::bK k.tP pw w::(cZ k pw da ds++(gq k.tD (k.f pw) b d::As)))):aa B h0 h (ba k a pw mc offs (da.set n (dB b)) w (ds.set n (dB d))::As):=by
 have t:=ok.la;have s:=ok.ls;have q:fx mc (da.set n (dB b)) (ds.set n (dB d)):=⟨ok.l8,sL,by simp[s],λi=>by
  by_cases g:n=i
  ·subst g;rw[qd,qd,zg i4,zg i4];rfl
  ·have:=ok.same i;rw[qd,qd]at this⊢;rw[zy g,zy g];exact this⟩
 have p:=BB (k:=k) (pw:=pw) ok;have m:cZ k pw (da.set n (dB b)) (ds.set n (dB d))=(cZ k pw da ds).set n (gq k.tD (k.f pw) b d):=by
  apply List.ext_getElem?;intro j;simp only[cZ,qU,List.getElem?_zipWith,List.length_zipWith];by_cases o:n=j
  ·subst o;rw[f9 i0,f9 i4,f9 i0,f9 i4,f9 i0,f9 i4];rfl
  ·simp[o]
 refine aa.mC q ?_;rw[m];obtain⟨L,r⟩:∃L,L=cZ k pw da ds:=⟨_,rfl⟩
 rw[<-r]at H p⊢;have c:n<ii L:=i4
 have H:=H.dX (n+2) (A:=L[n]) (D:=emp) (by rw[qo,qo,ql c,qc c]) λ_ _=>trivial;have x:(ac a k.tS (bC mc pw offs (da.set n (dB b)))::bK k.tP pw w::(L++(gq k.tD (k.f pw) b d::As))).set (n+2) emp=ac a k.tS (bC mc pw offs (da.set n (dB b)))::bK k.tP pw w::(L.set n emp++(gq k.tD (k.f pw) b d::As)):=by rw[zu,zu,List.set_append_left _ _ c]
 rw[x]at H;have l:ii (L.set n emp)=ii L:=List.length_set;have u:=H.cons (ii L+2) (A:=gq k.tD (k.f pw) b d) (by
  rw[qo,qo,qh i4,l,qW];rfl)
 have e:(ac a k.tS (bC mc pw offs (da.set n (dB b)))::bK k.tP pw w::(L.set n emp++(gq k.tD (k.f pw) b d::As))).set (ii L+2) emp=ac a k.tS (bC mc pw offs (da.set n (dB b)))::bK k.tP pw w::(L.set n emp++(emp::As)):=by rw[zu,zu,qS _ _ i4,l,qW];rfl
 rw[e]at u;have v:=u.aL 3 [0,2,1];have z:aa B h0 h (gq k.tD (k.f pw) b d::bK k.tP pw w::ac a k.tS (bC mc pw offs (da.set n (dB b)))::(L.set n emp++(emp::As))):=v;have E:=aa.ER n c z;have y:=aa.closeAll (ac a k.tS (bC mc pw offs (da.set n (dB b)))::bK k.tP pw w::L.set n (gq k.tD (k.f pw) b d)) E;exact aa.kQ (L:=ac a k.tS (bC mc pw offs (da.set n (dB b)))::bK k.tP pw w::L.set n (gq k.tD (k.f pw) b d)) y.oy
end
end Go.Qw
