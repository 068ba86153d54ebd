/- Lemmas for the proof of the law; no condition. -/
import Derived.Test.YtplpfpidgljdhaaGreatDoorKD
import Derived.Lib.BufferWrite
import Derived.Lib.UnsafeStr
set_option linter.unusedVariables false
set_option maxHeartbeats 4000000
set_option linter.unusedSimpArgs false
set_option maxHeartbeats 2000000
open Go.Proofs.Tryz renaming prog -> xQ
open List renaming getElem_range -> vP, length_pos_iff -> vF, length_replicate -> yW, mem_flatten -> xj, range -> qz, replicate -> qi, set_getElem_self -> yT
open Int renaming le_refl -> vk
open Go.Value renaming agg -> xL, bool -> xK, int -> xG, pointer -> xI, slice -> xH
open Go.IntKind renaming i64 -> xM, u32 -> xO, wrap -> qe
open Go.Builtin renaming copy_ -> yc
open Go.Instr renaming storeAt -> qE
set_option maxRecDepth 100000
open Option renaming some -> dB, none -> ez
open Bool renaming true -> eH, false -> eL
open Go renaming Addr -> eX
open Go.Qw renaming cellOf -> f7, Heap -> f8
open List renaming length -> ii
namespace Go.Qw
open Go.Proofs
def gu(m:aA)(w:Pow)(ds:aF)(k:Int):Int×Pow×aF:=
 match aU ds k with
 |none=>(0,w,ds)
 |some d=>if d.lost then(0,w,ds)else if d.l=fj m d then(0,w,ds)else((d.rewrite w (fj m d)).1,(d.rewrite w (fj m d)).2.1,bM ds k (d.rewrite w (fj m d)).2.2)
def opens(m:aA):aB->Pow->aF->Int×Pow×aF
 |[],w,ds=>(0,w,ds)
 |k::l,w,ds=>if(gu m w ds k).1=0 then opens m l (gu m w ds k).2.1 (gu m w ds k).2.2 else gu m w ds k
def na(m:aA)(d:aY):aY:=if d.lost=eH∨d.l=fj m d then d else{d with l:=fj m d,wait:=0,laid:=[],has:=eL}
def cN{α:Type}(q:Nat->Bool)(l:List (Option α)):List (Option α):=(qz 64).map λi=>if q i then l.getD i ez else ez
theorem mJ{α:Type}(q:Nat->Bool)(l:List (Option α))(i:Nat)(a:i<64):(cN q l)[i]?=dB (if q i then l.getD i ez else ez):=by unfold cN;rw[qL,List.getElem?_range a];rfl
theorem oo{α:Type}(q:Nat->Bool)(l:List (Option α)):ii (cN q l)=64:=by simp[cN]
def gr(m:aA)(i:Nat):Bool:=decide ((i:Int)∈m.drives)
theorem aaE(q:Nat->Bool)(ds:aF)(k:Int):aU (cN q ds) k=if q k.toNat then aU ds k else ez:=by
 unfold aU;by_cases h:0<=k/\k<64
 ·rw[f9 h,f9 h,mJ q ds k.toNat i4];cases q k.toNat
  ·rfl
  ·simp only[if_true,Option.join,qd];cases ds[k.toNat]?<;>rfl
 ·rw[g0 h,g0 h];split<;>rfl
theorem IA(m:aA)(d:aY):∀c∈fj m d,ii c=64:=λc a=>by
 unfold fj at a;split at a
 ·exact BH m d.l c a
 ·exact BH m d.l c (List.mem_append_right _ (List.mem_of_mem_take a))
theorem Pb(m:aA)(d:aY):ii (fj m d)<=d.room:=by
 unfold fj;split
 ·assumption
 ·rw[qO];omega
theorem QU{w:Pow}(f:w.calm){m:aA}{ds:aF}{k:Int}(b:ii ds=64):
  ∃ds',gu m w ds k=(0,w,ds')/\ds'.length=64/\∀s,aU ds' s=if s=k then(aU ds s).map (na m)else aU ds s:=by
 unfold gu;cases hd:aU ds k with
 |none=>exact⟨ds,i0,b,λs=>by by_cases a:s=k;rw[f9 a,a,hd];rfl;rw[g0 a]⟩
 |some d=>
  try dsimp only
  have same:(d.lost=eH∨d.l=fj m d)->∃ds',((0:Int),w,ds)=(0,w,ds')/\ds'.length=64/\∀s,aU ds' s=if s=k then(aU ds s).map (na m)else aU ds s:=λh=>
   ⟨ds,i0,b,λs=>by
    by_cases a:s=k
    ·rw[f9 a,a,hd,qQ];unfold na;rw[f9 h]
    ·rw[g0 a]⟩
  by_cases c:d.lost=eH
  ·rw[f9 c];exact same (.inl c)
  ·rw[g0 c];by_cases e:d.l=fj m d
   ·rw[f9 e];exact same (.inr e)
   ·rw[g0 e,DO f (IA m d) l7 (Pb m d)];refine⟨_,i0,by rw[uc];exact b,λs=>?_⟩;rw[jJ b hd];by_cases a:s=k
    ·rw[f9 a,f9 a,a,hd,qQ];unfold na;rw[g0 (by rintro(h|h);exact c h;exact e h)]
    ·rw[g0 a,g0 a]
theorem IB{w:Pow}(c:w.calm){m:aA}:∀{l:aB} {ds:aF},l.Nodup->ii ds=64->
  ∃ds',opens m l w ds=(0,w,ds')/\ds'.length=64/\∀s,aU ds' s=if s∈l then(aU ds s).map (na m)else aU ds s
 |[],ds,_,h64=>⟨ds,i0,h64,λs=>i9⟩
 |k::l,ds,a,h64=>by
  obtain⟨n,a⟩:=List.nodup_cons.1 a;obtain⟨h,i,f,e⟩:=QU c (m:=m) (k:=k) h64;obtain⟨o,g,j,d⟩:=IB c (m:=m) (l:=l) (ds:=h) a f;refine⟨o,?_,j,λs=>?_⟩
  ·unfold opens;rw[i];exact g
  ·rw[d,e];by_cases b:s=k
   ·subst b;simp[n]
   ·simp[b]
structure Hi (M:Int->aA) (m:aA) (ds:aF):Prop where
 cur:M m.seq=m
 at_:∀k d,aU ds k=dB d->k∈m.drives
 pg:∀k d,aU ds k=dB d->∀c∈d.l,∀g,ck c=dB g->(1<=g.seq/\g.seq<=m.seq)/\c∈aO (M g.seq)/\k∈(M g.seq).drives
 ok:∀q,1<=q->q<=m.seq->bs (M q)=eH/\(M q).seq=q/\(aO (M q)).length<=2
variable {M:Int->aA} {m n:aA} {ds ds':aF}
theorem uj{c:aP}(d:bs m=eH)(h:c∈aO m){g:Pg}(a:ck c=dB g):g.seq=m.seq:=by
 rw[kp]at h;obtain⟨i,b,rfl⟩:=qx.1 h;rw[jl d (qC.1 b)]at a;injection a with a
 subst a;rfl
theorem Gx(a:bs m=eH):1<=m.seq:=((fp m).1 ((cY m).1 a).1).1.1
theorem Hi.same(H:Hi M m ds)(j:bs m=eH)(i:∀k a,aU ds' k=dB a->∃d,aU ds k=dB d/\∀c∈a.l,ck c≠ez->c∈d.l∨c∈aO m):Hi M m ds':=by
 refine⟨H.cur,λk a e=>?_,λk a e c o g f=>?_,H.ok⟩
 ·obtain⟨d,b,_⟩:=i k a e;exact H.at_ k d b
 ·obtain⟨d,b,n⟩:=i k a e;rcases n c o (by rw[f];simp)with h|h
  ·exact H.pg k d b c h g f
  ·rw[uj j h f,H.cur];exact⟨⟨Gx j,vk _⟩,h,H.at_ k d b⟩
theorem Hi.next(H:Hi M m ds)(r:bs m=eH)(j:bs n=eH)(t:n.seq=m.seq+1)(i:ii (aO n)<=2)(p:∀k a,aU ds' k=dB a->k∈n.drives/\∀c∈a.l,ck c≠ez->c∈aO n∨∃d,aU ds k=dB d/\(c∈d.l∨c∈aO m)):
  Hi (λq=>if q=n.seq then n else M q) n ds':=by
 refine⟨i9,λk a b=>(p k a b).1,λk a b c s g f=>?_,λq o h3=>?_⟩
 ·obtain⟨o,i⟩:=p k a b;rcases i c s (by rw[f];simp)with h|⟨d,b,h⟩
  ·have:=uj j h f;rw[this,f9 rfl];exact⟨⟨Gx j,vk _⟩,h,o⟩
  ·have e:(1<=g.seq/\g.seq<=m.seq)/\c∈aO (M g.seq)/\k∈(M g.seq).drives:=by
    rcases h with h|h
    ·exact H.pg k d b c h g f
    ·rw[uj r h f,H.cur];exact⟨⟨Gx r,vk _⟩,h,H.at_ k d b⟩
   rw[g0 i4];exact⟨⟨e.1.1,i4⟩,e.2⟩
 ·by_cases h:q=n.seq
  ·rw[f9 h];exact⟨j,h.symm,i⟩
  ·rw[g0 h];exact H.ok q o i4
theorem Hi.Pc(H:Hi M m ds)(o:bs m=eH)(b:ii ds=64){k:Int}{f d:aY}(g:aU ds k=dB f)(n:∀c∈d.l,ck c≠ez->c∈f.l∨c∈aO m):Hi M m (bM ds k d):=H.same o λj e a=>by
 rw[jJ b g]at a;split at a
 ·rename_i i;subst i;injection a with a;subst a;exact⟨f,g,n⟩
 ·exact⟨e,a,λc h _=>.inl h⟩
theorem Yb{d:aY}{N:Int}:∀c∈(dR m d N).l,ck c≠ez->c∈d.l∨c∈aO m:=λc a e=>by
 unfold dR at a;split at a
 ·exact .inl a
 ·rcases qy.1 a with h|h
  ·exact .inr h
  ·obtain⟨r,b,rfl⟩:=qx.1 h;exact .inl (KV b).1
theorem uX(r:dG):ck (dl r)=ez:=by
 by_cases h:jR r=eH
 ·exact Uq h
 ·unfold dl;rw[g0 h];decide
theorem Yc{a:bO}{d:aY}{c:aP}(h:c∈(eu a d).l):c∈d.l∨c∈a:=by
 unfold eu at h;split at h
 ·exact .inl h
 ·exact qy.1 h
variable {m n:aA} {d:aY}
def fF(l:bO):Nat:=l.countP λc=>(dP c).isSome
theorem EV(l:bO):fF l<=ii l:=List.countP_le_length
theorem uk(a b:bO):fF (a++b)=fF a+fF b:=List.countP_append
theorem sD(m:aA):fF (aO m)=0:=List.countP_eq_zero.2 λc a=>by rw[xT a];simp
theorem Pd(m:aA):∀l:bO,ii (l.filterMap (gY m))<=fF l
 |[]=>zb _
 |c::l=>by
  have h:=Pd m l;unfold fF at h⊢;rw[List.filterMap_cons,vA];cases hg:gY m c with
  |none=>dsimp only;omega
  |some r=>rw[(If hg).1];simp;omega
theorem Gy(m:aA)(l:bO):ii (fO m l)<=fF l:=by unfold fO;exact q9 (NL _) (by rw[List.length_mergeSort];exact Pd m l)
theorem Eg(m:aA)(l:bO):ii (bH m l)=ii (aO m)+ii (fO m l):=by unfold bH jc;rw[qt,qu]
theorem Eh(a:bs m=eH):1<=ii (aO m):=vF.2 (Gm a)
theorem Le(a:bs m=eH)(l:bO):fF (bH m l)<=fF l/\fF (bH m l)+1<=ii (bH m l):=by
 have d:=Gy m l;have b:=Eg m l;have h3:=Eh a;have c:fF (bH m l)<=ii (fO m l):=by unfold bH;rw[uk,sD,Nat.zero_add];exact q9 (EV _) (by unfold jc;simp)
 omega
theorem Yd(a:bs m=eH){N:Int}:fF (dR m d N).l<=fF d.l/\(fF d.l+1<=ii d.l->fF (dR m d N).l+1<=(dR m d N).l.length):=by
 unfold dR;split
 ·exact⟨qm _,id⟩
 ·exact⟨(Le a d.l).1,λ_=>(Le a d.l).2⟩
theorem Ye(a:bs n=eH)(rs:List dG)(d:aY):fF (eu (rs.map dl++aO n) d).l+1+(ii d.l-fF d.l)<=(eu (rs.map dl++aO n) d).l.length:=by have c:=EV (rs.map dl);have b:=Eh a;have h3:=EV d.l;rw[Ol,uk,uk,sD,qt,qt];omega
theorem aaF{l:bO}{j:Nat}{c:aP}(a:j<ii l)(b:dP c=ez):fF (l.set j c)<=fF l:=by
 have e:l=l.take j++l[j]::l.drop (j+1):=by rw[<-qJ a,List.take_append_drop]
 rw[List.set_eq_take_append_cons_drop,f9 a]
 conv=>rhs;rw[e]
 rw[uk,uk];have:fF (c::l.drop (j+1))<=fF (l[j]::l.drop (j+1)):=by unfold fF;rw[vA,vA,b];simp
 omega
theorem IC(f:ByteArray->Nat)(q:ByteArray->Bool):∀l:List ByteArray,((l.filter q).map f).sum<=(l.map f).sum
 |[]=>qm _
 |x::l=>by
  have h:=IC f q l;rw[List.filter_cons];split
  ·simp only[z6,List.sum_cons];omega
  ·simp only[z6,List.sum_cons];omega
theorem Yf{l:List ByteArray}(e:l.Nodup)(h:∀x∈l,x∈rT):(l.map λs=>10+s.size).sum<=70:=by
 haveI:∀a,Decidable (a∈l):=λ_=>Classical.propDecidable _
 have c:rT.Nodup:=j5
 have d:l.Perm (rT.filter λx=>decide (x∈l)):=(List.perm_ext_iff_of_nodup e (c.filter _)).2 λa=>by
  rw[qI];exact⟨λb=>⟨h a b,g9 b⟩,λb=>hZ b.2⟩
 rw[(d.map λs=>10+s.size).sum_nat];exact q9 (IC _ _ _) j5
theorem Pe:∀{l:List Qw.dm},(∀e∈l,e.tries.length<=4)->(l.flatMap fI).length<=((l.map Qw.dm.name).map λs=>10+s.size).sum
 |[],_=>qm _
 |e::l,h=>by
  have c:=Pe λx a=>h x (qH _ a);have b:=h e qP;rw[zj,qt,Xd];simp only[z6,List.sum_cons];omega
theorem aft(d:bs m=eH)(b:∀k∈m.drives,k<9)(f:∀e∈m.objs,e.name∈rT/\e.length<=3*(m.p.1*m.p.2.2)+1):(aO m).length<=2:=by
 obtain⟨r,y,h3,t,n,j,v⟩:=(cY m).1 d;have u:=(cg m.p).1 ((fp m).1 r).2.2.1;have s:0<m.p.1*m.p.2.2:=Int.mul_pos i4 i4;have l:∀e∈m.objs,e.tries.length<=4:=λe a=>by
  have q:=(jF m e).1 (n e a);have B:=(f e a).2;have A:countP m.p e.length<=4:=by
   unfold countP;split
   ·have:(e.length-1)/(m.p.1*m.p.2.2)<4:=Int.ediv_lt_of_lt_mul s (by rw[Int.mul_comm 4];omega);omega
   ·decide
  omega
 have o:(m.objs.map Qw.dm.name).Nodup:=yf.2 (j.imp λh=>KJ h);have z:=Yf o λx a=>by
  obtain⟨e,c,rfl⟩:=qx.1 a;exact(f e c).1
 have w:=Pe l;have a3:=KL d;have a4:m.drives.length<=((qz 9).map λi:Nat=>(i:Int)).length:=ug (si d) λk g=>by
  have h0:=h3 k g;have D:=b k g;exact qx.2 ⟨k.toNat,qC.2 i4,i4⟩
 rw[qu,zC]at a4;rw[Ij];omega
structure Wt (i:Nat) (p:Pm) (m:aA) (ds:aF):Prop where
 may:bs m=eH
 len:ii ds=64
 pe:m.p=p
 dr:∀k∈m.drives,k<9
 hi:∃M,Hi M m ds
 slim:∀k d,aU ds k=dB d->d.lost=eL->fF d.l+1<=ii d.l/\fF d.l+2<=d.room
 seq:m.seq<=i+1
 ent:∀e∈m.objs,e.name∈rT/\e.length<=3*(p.1*p.2.2)+1
variable {i:Nat} {p:Pm} {m:aA} {ds:aF}
theorem Wt.more(W:Wt i p m ds):Wt (i+1) p m ds:=⟨W.may,W.len,W.pe,W.dr,W.hi,W.slim,oi,W.ent⟩
theorem Wt.mono(W:Wt i p m ds){j:Nat}(h:i<=j):Wt j p m ds:=⟨W.may,W.len,W.pe,W.dr,W.hi,W.slim,oi,W.ent⟩
theorem Wt.Pc(W:Wt i p m ds){k:Int}{g d:aY}(f:aU ds k=dB g)(o:∀c∈d.l,ck c≠ez->c∈g.l)(q:d.lost=eL->fF d.l+1<=ii d.l/\fF d.l+2<=d.room):Wt (i+1) p m (bM ds k d):=by
 obtain⟨M,H⟩:=W.hi;refine⟨W.may,by rw[uc];exact W.len,W.pe,W.dr,⟨M,H.Pc W.may W.len f λc n h=>.inl (o c n h)⟩,λj e a b=>?_,oi,W.ent⟩;rw[jJ W.len f]at a;split at a
 ·injection a with a;subst a;exact q b
 ·exact W.slim j e a b
theorem Wt.pX(W:Wt i p m ds){k:Int}{d:aY}(n:aU ds k=dB d){j:Nat}(o:j<ii d.l)(t:eV d.l[j]≠ez){a b:Int}(r:0<=a/\a<=60):Wt (i+1) p m (bM ds k (d.pX j a b)):=by
 unfold aY.pX;split
 rotate_left
 ·exact W.Pc n (λc h _=>h) (W.slim k d n)
 have e:d.l.set ((j:Int)).toNat (mY (d.l.getD ((j:Int)).toNat []) a b)=d.l.set j (mY d.l[j] a b):=by rw[qk,hJ [] o]
 have f:mY d.l[j] a b=d.l[j]∨eV (mY d.l[j] a b)=ez:=by
  by_cases g:mY d.l[j] a b=d.l[j]
  ·exact .inl g
  ·cases ht:eV d.l[j]with
   |none=>exact absurd ht t
   |some y=>exact .inr (UD (k:=y.1) (x:=y.2) ht r g)
 refine W.Pc n (λc h q=>?_) λs=>?_
 ·have h:c∈d.l.set ((j:Int)).toNat (mY (d.l.getD ((j:Int)).toNat []) a b):=h;rw[e]at h;rcases zR h with h|rfl
  ·exact h
  ·rcases f with f|f
   ·rw[f];exact qf o
   ·exact absurd (by unfold ck;rw[f]) q
 ·have u:=W.slim k d n s;show fF (d.l.set _ _)+1<=ii (d.l.set _ _)/\fF (d.l.set _ _)+2<=d.room;rw[e,zc];have:fF (d.l.set j (mY d.l[j] a b))<=fF d.l:=by
   rcases f with f|f
   ·rw[f,yT];exact qm _
   ·exact aaF o (by unfold dP;rw[f])
  omega
theorem Wt.CI(W:Wt i p m ds)(slot:Int):Wt (i+1) p m (pW m 0 Pow.new ds slot).2:=by
 unfold pW;rw[g0 i5];split
 ·exact W.more
 ·cases hd:aU ds slot with
  |none=>exact W.more
  |some d=>exact W.Pc hd (λc a=>t8) λh=>j8
theorem Wt.lay(W:Wt i p m ds){ds1 g:aF}{n:aA}{L:aB}{R:Int->List dG}{N:Int->Int}(y:bs n=eH)(D:n.p=m.p)(I:n.seq=m.seq+1)(v:∀k∈n.drives,k<9)(j:∀e∈n.objs,e.name∈rT/\e.length<=3*(p.1*p.2.2)+1)
  (u:∀k∈m.drives,k∈n.drives) (G:∀k d,k∈n.drives->aU ds1 k=dB d->d.lost=eL->k∈L)
  (B:∀k d,aU ds1 k=dB d->aU ds k=dB d∨(k∈n.drives/\d.l=[]/\d.lost=eL/\2<=d.room/\R k=[]/\(k∈L->dR m d (N k)=d)))
  (A:ii g=64) (w:∀k,aU g k=(aU ds1 k).map λd=>if k∈L then eu ((R k).map dl++aO n) (dR m d (N k))else d)
  (x:∀k d,aU g k=dB d->ii d.l<=d.room):Wt (i+1) p n g:=by
 obtain⟨M,H⟩:=W.hi;have F:=aft y v (by rw[D,W.pe];exact j);have t:∀k d,aU ds1 k=dB d->k∈n.drives:=λk d q=>by
  rcases B k d q with h|h
  ·exact u k (H.at_ k d h)
  ·exact h.1
 refine⟨y,A,D.trans W.pe,v,⟨_,H.next W.may y I F λk E q=>?_⟩,λk E q z=>?_,oi,j⟩
 ·obtain⟨d,h0,rfl⟩:=OF (f:=λk d=>if k∈L then eu ((R k).map dl++aO n) (dR m d (N k))else d) w q;refine⟨t k d h0,λc a s=>?_⟩;have old:c∈(if k∈L then dR m d (N k)else d).l->c∈aO n∨∃d,aU ds k=dB d/\(c∈d.l∨c∈aO m):=λa=>by
   rcases B k d h0 with h|⟨_,he,_,_,_,hm⟩
   ·refine .inr ⟨d,h,?_⟩;split at a
    ·exact Yb c a s
    ·exact .inl a
   ·split at a
    ·rename_i o;rw[hm o,he]at a;cases a
    ·rw[he]at a;cases a
  split at a
  ·rename_i o;rw[f9 o]at old;rcases Yc a with h|h
   ·exact old h
   ·rcases qy.1 h with h|h
    ·obtain⟨r,_,rfl⟩:=qx.1 h;exact absurd (uX r) s
    ·exact .inl h
  ·rename_i o;rw[g0 o]at old;exact old a
 ·have J:=x k E q;obtain⟨d,h0,rfl⟩:=OF (f:=λk d=>if k∈L then eu ((R k).map dl++aO n) (dR m d (N k))else d) w q;have b:d.lost=eL:=by
   split at z
   ·rwa [(uS _ _).1,(KW _ _ _).1]at z
   ·exact z
  have o:=G k d (t k d h0) h0 b;rw[f9 o]at J⊢;have P:=Ye y (R k) (dR m d (N k));have S:=EV (dR m d (N k)).l;rcases B k d h0 with h|⟨_,he,_,h3,hR,hm⟩
  ·have Q:=(Yd (d:=d) (N:=N k) W.may).2 (W.slim k d h b).1;omega
  ·have K:fF (eu ((R k).map dl++aO n) (dR m d (N k))).l=0:=by rw[hm o,hR,Ol,he,List.map_nil,zW,zW,sD]
   have O:(eu ((R k).map dl++aO n) (dR m d (N k))).room=d.room:=by rw[(uS _ _).2,(KW _ _ _).2]
   omega
theorem Wt.put(W:Wt i p m ds){name:ByteArray}{b:aP}(v:name∈rT)(s:(ii b:Int)<=3*(p.1*p.2.2)+1)(a:∀k d,aU (iZ m 0 Pow.new ds name b).2.2.2 k=dB d->ii d.l<=d.room):∃e j ds',iZ m 0 Pow.new ds name b=(e,j,Pow.new,ds')/\Wt (i+1) p j ds':=by
 obtain⟨w,B⟩:=Xb (offs:=0) (name:=name) (b:=b) nP W.len W.may;by_cases f:∃e,iZ m 0 Pow.new ds name b=(e,m,Pow.new,ds)
 ·obtain⟨e,c⟩:=f;exact⟨e,m,ds,c,W.more⟩
 have D:fL m (fT Pow.new 0) ds name b.length=0:=Decidable.byContradiction λh=>f ⟨_,w h⟩;obtain⟨A,o⟩:=B D;cases ht:dv m.p m.next (splitB m.p b).length with
 |none=>exact absurd ⟨_,A ht⟩ f
 |some t=>
  obtain⟨g,q,u⟩:=o t ht;obtain⟨ds',n,z,y⟩:=u (eq_true_of_ne_false λh=>f ⟨_,q h⟩);refine⟨_,_,ds',n,W.lay g i0 i0 W.dr (λe c=>?_) (λ_ h=>h) (λk d x r h3=>Gn.2 ⟨x,d,r,h3⟩) (λk d h=>.inl h) z y (by rw[n]at a;exact a)⟩;rcases Og.1 c with c|rfl
  ·exact W.ent e c
  ·exact⟨v,s⟩
theorem Wt.com(W:Wt i p m ds){ds1:aF}{n:aA}(q:ii ds1=64)(u:bs n=eH)(A:n.p=m.p)(z:n.seq=m.seq+1)(o:∀k∈n.drives,k<9)(g:∀e∈n.objs,e∈m.objs)(f:∀k∈m.drives,k∈n.drives)
  (s:∀k d,aU ds1 k=dB d->aU ds k=dB d∨(k∈n.drives/\∃r,d=aY.new r/\2<=r)) (b:(cI m 0 Pow.new ds1 n).1=0->∀k d,aU (cI m 0 Pow.new ds1 n).2.2.2 k=dB d->ii d.l<=d.room):
  cI m 0 Pow.new ds1 n=(7,m,Pow.new,ds1)∨∃ds',cI m 0 Pow.new ds1 n=(0,n,Pow.new,ds')/\Wt (i+1) p n ds':=by
 obtain⟨w,G⟩:=Om (offs:=0) (ds:=ds1) nP q i5 u z;by_cases j:cI m 0 Pow.new ds1 n=(7,m,Pow.new,ds1)
 ·exact .inl j
 have v:=eq_true_of_ne_false λh=>j (w (.inr h));obtain⟨ds',x,F,E⟩:=G (λh=>j (w (.inl h))) v;refine .inr ⟨ds',x,W.lay (R:=λ_=>[]) (N:=λ_=>(ii (aO n):Int)) u A z o (λe D=>W.ent e (g e D)) f (λk d s B h3=>Gn.2 ⟨s,d,B,h3⟩) (λk d y=>?_) F E (by rw[x]at b;exact b i0)⟩;rcases s k d y with h|⟨hk,r,rfl,hr⟩
 ·exact .inl h
 ·refine .inr ⟨hk,i0,i0,hr,i0,λt=>?_⟩;obtain⟨H,a,c⟩:=pV (qY.1 v k t);rw[y]at a;injection a with a
  subst a;have:gG (aY.new r) (aY.new r).l.length (ii (aO n):Int)=eH:=by
   unfold jk at c;rw[qw,Bool.or_eq_true]at c;rcases c.2 with h|h
   ·exact h
   ·unfold gG at h⊢;rw[decide_eq_true_eq]at h⊢;dsimp only at h;have:(aY.new r).l.length=0:=rfl;omega
  unfold dR;rw[f9 this]
theorem Wt.del(W:Wt i p m ds)(name:ByteArray)(a:∀k d,aU (fX m 0 Pow.new ds name).2.2.2 k=dB d->ii d.l<=d.room):∃e b ds',fX m 0 Pow.new ds name=(e,b,Pow.new,ds')/\Wt (i+1) p b ds':=by
 unfold fX at a⊢;rw[g0 i5]at a⊢;split
 ·exact⟨5,m,ds,i0,W.more⟩
 ·rename_i g;rw[g0 g]at a;split
  ·exact⟨7,m,ds,i0,W.more⟩
  ·rename_i f;rw[g0 f]at a;rcases W.com (n:=Gu m (m.objs.findIdx (lP name))) W.len (aat W.may i4 _) rfl rfl W.dr (λx c=>Sf c) (λ_ h=>h) (λk d h=>.inl h) (λ_=>a)with h|⟨ds',h,W'⟩
   ·exact⟨7,m,ds,h,W.more⟩
   ·exact⟨0,_,ds',h,W'⟩
theorem adt(j:bs m=eH){slot:Int}(o:0<=slot/\slot<64)(e:slot∉m.drives)(n:¬m.seq>=2147483647):bs (AH m (iu (m.drives++[slot])))=eH:=by
 obtain⟨f,i,l,c,d,b,a⟩:=(cY m).1 j;refine(cY _).2 ⟨?_,UE i e,λk g=>?_,c,d,b,a⟩
 ·rw[fp]at f⊢;exact⟨by show 1<=m.seq+1/\m.seq+1<=2147483647;omega,f.2⟩
 ·rcases qy.1 ((uv _ _).1 g)with h|h
  ·exact l k h
  ·rw[qp.1 h];omega
theorem adu{slot:Int}(c:0<=slot/\slot<64)(b:ii ds=64)(o:Option aY)(k:Int):aU (ds.set slot.toNat o) k=if k=slot then o else aU ds k:=by
 unfold aU;by_cases a:0<=k/\k<64
 ·rw[f9 a,qU];by_cases e:k=slot
  ·subst e;rw[f9 i0,f9 i0,f9 i4];rfl
  ·rw[g0 i4,g0 e,f9 a]
 ·rw[g0 a,g0 i4,g0 a]
theorem Wt.add(W:Wt i p m ds){slot:Int}(A:0<=slot/\slot<9){cells:Int}(z:2<=cells)(a:∀k d,aU (kG m 0 Pow.new ds slot cells).2.2.2 k=dB d->ii d.l<=d.room):∃e v ds',kG m 0 Pow.new ds slot cells=(e,v,Pow.new,ds')/\Wt (i+1) p v ds':=by
 unfold kG at a⊢;rw[g0 i5]at a⊢;split
 ·exact⟨1,m,ds,i0,W.more⟩
 rename_i y;rw[g0 y]at a;split
 ·exact⟨4,m,ds,i0,W.more⟩
 rename_i g;rw[g0 g]at a;split
 ·exact⟨7,m,ds,i0,W.more⟩
 rename_i u;rw[g0 u]at a;have r:=adu (ds:=ds) (slot:=slot) i4 W.len;dsimp only at a⊢;have j:aU ds slot=ez:=by
  cases h:aU ds slot with
  |none=>rfl
  |some d=>obtain⟨M,H⟩:=W.hi;exact absurd (H.at_ slot d h) g
 have f:∀k,k∈iu (m.drives++[slot])↔k∈m.drives∨k=slot:=λk=>by rw[uv,qy,qp]
 obtain⟨R,s⟩:∃R,R=cI m 0 Pow.new (ds.set slot.toNat (dB (aY.new cells.toNat))) (AH m (iu (m.drives++[slot]))):=⟨_,rfl⟩
 have q:=W.com (ds1:=ds.set slot.toNat (dB (aY.new cells.toNat))) (n:=AH m (iu (m.drives++[slot]))) (by simp[W.len]) (adt W.may i4 g u) i0 i0 (λk o=>by
  rcases(f k).1 o with h|h
  ·exact W.dr k h
  ·omega) (λx w=>w) (λk o=>(f k).2 (.inl o)) (λk d b=>by
  rw[r]at b;split at b
  ·rename_i o;injection b with b
   exact .inr ⟨(f k).2 (.inr o),_,b.symm,i4⟩
  ·exact .inl b) (by rw[<-s];exactλh0 k d b=>a k d (by rw[<-s,g0 i4];exact b))
 rw[<-s]at q⊢;rcases q with h|⟨ds',h,W'⟩
 ·rw[h]
  try dsimp only
  rw[f9 i0,ye];have t:∀k,aU (ds.set slot.toNat ez) k=aU ds k:=λk=>by
   rw[r];split
   ·rename_i o;rw[o,j]
   ·rfl
  obtain⟨M,H⟩:=W.hi;exact⟨7,m,_,i0,⟨W.may,by simp[W.len],W.pe,W.dr,⟨M,H.same W.may λk d b=>⟨d,by rw[<-t];exact b,λc h _=>.inl h⟩⟩,λk d b=>W.slim k d (by rw[<-t];exact b),oi,W.ent⟩⟩
 ·rw[h]
  try dsimp only
  rw[g0 i5];exact⟨0,_,ds',i0,W'⟩
theorem Wt.fresh{E:Int}{G:aB}{D:aF}(v:ua p E G=0)(j:bi G G.length=(qz G.length).map λi:Nat=>(i:Int))(B:ii G<=9)(u:∀x∈G,2<=x/\x<=512)(o:ii D=64)
  (n:∀s,aU D s=if s∈bi G G.length then dB ⟨(G.getD s.toNat 0).toNat,aO (cA p E G),0,[],eL,eL⟩else ez):Wt 0 p (cA p E G) D:=by
 have b:bs (cA p E G)=eH:=Oc i4 v;have m:∀k d,aU D k=dB d->k∈(cA p E G).drives/\2<=d.room/\d.l=aO (cA p E G):=λk d a=>by
  rw[n]at a;split at a
  ·rename_i h;injection a with a
   subst a;refine⟨h,?_,i0⟩;rw[j]at h;obtain⟨i,f,rfl⟩:=qx.1 h;have f:=qC.1 f;have:=u _ (qf f);show 2<=(G.getD ((i:Int)).toNat 0).toNat;rw[qk,hJ 0 f];omega
  ·cases a
 refine⟨b,o,i0,λk h=>?_,⟨λ_=>cA p E G,i0,λk d a=>(m k d a).1,λk d a c r g y=>?_,λq A t=>?_⟩,λk d a _=>?_,vk _,λe w=>by cases w⟩
 ·rw[show(cA p E G).drives=bi G G.length from rfl,j]at h;obtain⟨i,f,rfl⟩:=qx.1 h;have:=qC.1 f;omega
 ·rw[(m k d a).2.2]at r;have:=uj b r y;exact⟨⟨by rw[this];exact vk _,by rw[this];exact vk _⟩,r,(m k d a).1⟩
 ·have t:q<=1:=t;exact⟨b,show(1:Int)=q by omega,q9 (Ck p E G i4) i5⟩
 ·obtain⟨_,F,z⟩:=m k d a;rw[z,sD];have:=Eh b;omega
variable {B:av} {h0 h:f8} {As:List HP} {a:eX} {offs:Int} {da:List bZ} {w:Pow}
section
variable {pw:eX}
end
section
variable {pw:eX}
end
def dS(m:aA):aB->Pow->aF->Int×Pow×aF
 |[],w,ds=>(0,w,ds)
 |k::l,w,ds=>match aU ds k with
  |none=>dS m l w ds
  |some d=>if d.l=bH m d.l then dS m l w ds else
   if(d.rewrite w (bH m d.l)).1=0 then dS m l (d.rewrite w (bH m d.l)).2.1 (bM ds k (d.rewrite w (bH m d.l)).2.2)
   else((d.rewrite w (bH m d.l)).1,(d.rewrite w (bH m d.l)).2.1,bM ds k (d.rewrite w (bH m d.l)).2.2)
theorem QV(a b:Sl)(c d:bO)(h:f8)(p:dY h a 1 aw c)(q:dY h b 1 aw d)(y:ii c<=2^30):
  an xQ 45 #[a,b,.func (.func 46) #[] #[]] h λv h'=>v=xK (decide (c=d))/\h'=h:=by
 refine ts Tryz.func45 ?_ (.two .n (.two .n (.two (.two .n (.inn (.loop [(17,aS)] [(6,10),(17,32)] .n))) .n))) (args:=[a,b,(.func (.func 46) #[] #[])]);have k:=p.len;have o:=q.len;refine bx (λe=>⟨?_,i0⟩) λe=>?_
 ·rw[hU λh=>e (by rw[k,o,h])]
 have u:ii c=ii d:=i4
 refine aq (λi:Nat=>(i:Int)) (λi h'=>i<=ii c/\c.take i=d.take i/\h'=h) (λi=>ii c-i) 0 i0 ⟨i4,i9,i0⟩ ?_;rintro i w ⟨z,g,rfl⟩;refine ag (λm=>?_) (λm=>?_)
 ·have f:i<ii c:=by have s:(i:Int)<(a.len:Int):=m;omega
  refine p.get i i0 f λr x=>q.get i i0 i4 λt j=>dL lx ?_;refine(kY r t _ _ w x j).mono ?_;rintro _ _ ⟨rfl,rfl⟩;refine⟨_,i0,aQ (λl=>⟨?_,i0⟩) λl=>?_⟩
  ·rw[hU λh=>of_decide_eq_false l (by simp only[h])]
  ·refine⟨i+1,j0,⟨i4,?_,i0⟩,i4⟩;rw[aD _ _ f,aD _ _ (show i<ii d by omega),g,hZ l]
 ·have s:¬(i:Int)<(a.len:Int):=m;rw[qg i4,qg i4]at g;exact⟨by rw[g9 g],i0⟩
abbrev cT(a:eX)(y:bo)(b:Sl)(t most k:Int):aR:=xI (dB a)::(az y++[xH b.ptr b.len b.cap,xG xM t,xG xM most,xG xM k])
section
variable {pw:eX}
theorem QW{k:Int}{d:aY}{b:eX}(x:Sl)(l:bO)(z:St B h0 As λh=>dY h x 1 aw l)(u:ii l<=2^20)(p:∀c∈l,ii c<=2^20)(f:aU ds k=dB d)(j:gf da k=dB b)(H:aa B h0 h (bj a pw da offs w ds m::As)):
  an xQ 47 #[xI (dB b),x] h λv h'=>v=xG xM (d.rewrite w l).1/\aa B h0 h' (bj a pw da offs (d.rewrite w l).2.1 (bM ds k (d.rewrite w l).2.2) m::As):=by
 obtain⟨y,H⟩:=fm H;obtain⟨ok,_⟩:=aa.cP H;obtain⟨n,rfl,E⟩:=ko f;have q:ds[n]?=dB (dB d):=by
  unfold aU at f;rw[f9 i4,qk]at f;cases hX:ds[n]? with
  |none=>rw[hX]at f;cases f
  |some o=>rw[hX]at f;exact congrArg dB f
 obtain⟨A,g,t⟩:=Qw.aa.ju H q;have i:A=b:=by unfold gf at j;rw[f9 i4,qk,g]at j;injection j
 subst i;refine(tQ x l t (λBs h' s=>(z.cons.cons) Bs h' s) u p).mono ?_;rintro _ h' ⟨rfl,r⟩;have D:=Qw.aa.pC (k:=bc) (n:=n) g r;refine⟨i0,?_⟩;have e:bM ds (n:Int) (d.rewrite w l).2.2=ds.set n (dB (d.rewrite w l).2.2):=by simp only[bM,qk]
 rw[e];exact iC D
theorem LB{m:aA}{l:bO}(b:cw m)(d:ii l<=512):ii (bH m l)<=4000/\∀c∈bH m l,ii c<=64:=by
 refine⟨?_,λc a=>?_⟩
 ·have:=ki m b;have:=sA m l;unfold bH;rw[qt];omega
 ·unfold bH at a;rcases qy.1 a with a|a
  ·exact Nat.le_of_eq (sa a)
  ·exact Fm a
theorem UP{c:eX}(y:bo)(M:Sl)(live:aB)(t most k:Int)(hm:bs m=eH)(hl:ii live<=64)(q:∀k∈live,∃d,aU ds k=dB d)
  (Y:St B h0 As λh=>bW h c 84 (cT a y M t most k)/\dh h y m/\Rd h M 1 ak live) (H:aa B h0 h (bj a pw da offs w ds m::As)):
  an xQ 40 #[xI (dB c)] h λv h'=>v=xG xM (dS m live w ds).1/\aa B h0 h' (bj a pw da offs (dS m live w ds).2.1 (dS m live w ds).2.2 m::As):=by
 refine ts Tryz.func40 ?_ (.two .n (.two (.two .n (.inn (.loop [(13,aS)] [(2,3),(4,8),(13,40)] .n))) .n));have X:=il hm;have z:=Y.at [_] H;have ab:=z.2.2.len;refine⟨c,i0,M,z.1.cell i0,?_⟩;refine aq (λt:Nat×Pow×aF=>(t.1:Int)) (λt h'=>t.1<=ii live/\(∀k∈live,∃d,aU t.2.2 k=dB d)/\dS m live w ds=dS m (live.drop t.1) t.2.1 t.2.2/\aa B h0 h' (bj a pw da offs t.2.1 t.2.2 m::As)) (λt=>ii live-t.1) (0,w,ds) i0 ⟨i4,q,i0,H⟩ ?_;rintro⟨i,o,ds1⟩ h1 ⟨hi,f,j,p⟩;dsimp only at hi f j p⊢;obtain⟨D,hy,T⟩:=Y.at [_] p;refine ag (λe=>?_) λe=>?_
 ·have r:i<ii live:=i4
  obtain⟨d,u⟩:=f live[i] (qf r);obtain⟨b,P⟩:=AI u p;refine T.bt i i0 r live[i] i0 ⟨c,i0,dB a,D.cell0 i0,(om _ p).mono ?_⟩;rintro _ h2 ⟨rfl,rfl⟩;rw[P];obtain⟨s,V,L,q2,I⟩:=uh u P p;have W:=I.len;have K:=I.room;obtain⟨k1,k2⟩:=LB X (show d.l.length<=512 by omega);refine⟨_,i0,c,i0,y,D.cells 1 _ i0,(rp s V y m L q2 I hy X).mono ?_⟩;rintro _ h3 ⟨g,rfl,E⟩;refine⟨g,i0,(tH s V (L.af E.af L.lt) (q2.up E.af) I).mono ?_⟩;rintro _ U ⟨x,rfl,R⟩;have O:dY U g 1 aw (bH m d.l):=(E.sY λ_=>rfl).up R.af;refine⟨x,i0,(QV x g _ _ U (R.sY λ_=>rfl) O i4).mono ?_⟩;rintro _ h5 ⟨rfl,rfl⟩;have N:live.drop i=live[i]::live.drop (i+1):=qJ r;have Z:=(p.bN E).up R.af;refine⟨_,i0,ag (λG=>?_) λG=>?_⟩
  ·refine⟨(i+1,o,ds1),jj,⟨i6,f,?_,Z.aL 1 []⟩,i6⟩;rw[j,N];show dS m (live[i]::live.drop (i+1)) o ds1=dS m (live.drop (i+1)) o ds1;rw[dS,u]
   try dsimp only
   rw[f9 G]
  ·obtain⟨rs,Q⟩:=Z.NC λ_=>rfl;have Q:aa B h0 h5 (bj a pw da offs o ds1 m::cy (bR 1 aw) 1 aX g rs (bH m d.l)::As):=Q.aL 2 [1,0];refine(QW g (bH m d.l) (St.dN (A:=cy (bR 1 aw) 1 aX g rs (bH m d.l)) 0 i0 λh' J=>⟨rs,J.1,J.2.1,J.2.2⟩) i4 (λc hc=>by have:=k2 c hc;omega) u P Q).mono ?_;rintro _ h6 ⟨rfl,F⟩;have F:=F.aL 2 [0];refine⟨_,i0,bx (λS=>?_) λS=>?_⟩
   ·have ec:dS m live w ds=((d.rewrite o (bH m d.l)).1,(d.rewrite o (bH m d.l)).2.1,bM ds1 live[i] (d.rewrite o (bH m d.l)).2.2):=by
     rw[j,N,dS,u]
     try dsimp only
     rw[g0 G,g0 S]
    rw[ec];exact⟨i0,F⟩
   ·refine⟨(i+1,(d.rewrite o (bH m d.l)).2.1,bM ds1 live[i] (d.rewrite o (bH m d.l)).2.2),jj,⟨i6,λk hk=>?_,?_,F⟩,i6⟩
    ·try dsimp only
     rw[jJ (jK p).1 u];split
     ·exact⟨_,i0⟩
     ·exact f k hk
    ·try dsimp only
     rw[j,N,dS,u]
     try dsimp only
     rw[g0 G,f9 (by simpa using S)]
 ·have:i=ii live:=i4
  subst this;rw[yp]at j;rw[j];exact⟨i0,p⟩
theorem adv(n:Int)(d:n<2^62)(H:aa B h0 h (bj a pw da offs w ds m::As)):an xQ 15 #[xI (dB pw),xG xM n] h λv h'=>v=.tuple #[]/\aa B h0 h' (bj a pw da offs (w.arm n) ds m::As):=by obtain⟨x,H⟩:=fm H;obtain⟨ok,c⟩:=H.mB;refine(Zz n d (c.aL 2 [1,0])).mono ?_;rintro _ h' ⟨rfl,b⟩;exact⟨i0,iC ((b.aL 2 [1,0]).mC ok)⟩
end
def ma(W:cu)(id:Int):Bool:=W.any λl=>decide (id∈l)
def Ad(W:cu):Nat:=W.flatten.foldr (λx a=>max a x.toNat) 0
theorem Pf{x:Int}:∀{l:aB},x∈l->x.toNat<=l.foldr (λx a=>max a x.toNat) 0
 |[],h=>j8
 |y::l,h=>by
  rw[List.foldr_cons];rcases qV.1 h with rfl|h
  ·omega
  ·have:=Pf h;omega
theorem JO{W:cu}{x:Int}(h:x∈W.flatten):x.toNat<=Ad W:=Pf h
theorem JP{W:cu}{i:Nat}(h:ma W (i:Int)=eH):i<=Ad W:=by unfold ma at h;rw[wq]at h;obtain⟨l,b,a⟩:=h;have:=JO (xj.2 ⟨l,b,hZ a⟩);omega
def oZ(W:cu):Nat->Nat->Nat
 |0,i=>i
 |f+1,i=>if ma W (i:Int)then oZ W f (i+1)else i
def iA(W:cu):Nat:=oZ W (Ad W+1) 0
theorem Ae(W:cu):∀f i,Ad W<f+i->ma W (oZ W f i:Int)=eL/\i<=oZ W f i/\∀j,i<=j->j<oZ W f i->ma W (j:Int)=eH
 |0,i,h=>by
  refine⟨?_,qm _,λj g d=>absurd d (by unfold oZ;omega)⟩;cases e:ma W ((oZ W 0 i:Nat):Int)with
  |false=>rfl
  |true=>have:=JP e;unfold oZ at this;omega
 |f+1,i,h=>by
  unfold oZ;cases e:ma W (i:Int)with
  |false=>rw[g0 i5];exact⟨e,qm _,λj g d=>i4⟩
  |true=>
   rw[f9 rfl];obtain⟨a,b,c⟩:=Ae W f (i+1) i4;refine⟨a,i4,λj g d=>?_⟩;by_cases k:j=i
   ·rw[k];exact e
   ·exact c j i4 d
theorem Yg(W:cu):ma W (iA W:Int)=eL:=(Ae W _ 0 i4).1
theorem Lf{W:cu}{j:Nat}(h:j<iA W):ma W (j:Int)=eH:=(Ae W _ 0 i4).2.2 j (zb _) h
theorem UQ{W:cu}{i:Nat}(b:ma W (i:Int)=eL)(a:∀j,j<i->ma W (j:Int)=eH):iA W=i:=by
 rcases Nat.lt_trichotomy (iA W) i with h|h|h
 ·have:=a _ h;rw[Yg W]at this;cases this
 ·exact h
 ·have:=Lf h;rw[b]at this;cases this
theorem Ph(W:cu):iA W<=Ad W+1:=by
 cases e:iA W with
 |zero=>omega
 |succ n=>have:=JP (Lf (W:=W) (j:=n) i4);omega
def ku(live:aB)(s:Int):Int:=match live.idxOf? s with|some k=>(k:Int)|none=>-1
def lS(m:aA)(c:aP)(w:Pow)(ds:aF)(s:Int)(d:aY):Int×Pow×aF:=
 let r:=fb m w d 1
 if r.1≠0 then(r.1,r.2.1,bM ds s r.2.2)else
  let q:=r.2.2.append r.2.1 c
  (q.1,q.2.1,bM (bM ds s r.2.2) s q.2.2)
def iV(m:aA)(live set:aB)(a:aB)(c:aP)(id:Nat)(w:Pow)(ds:aF):List Nat->(Int×Pow×aF)×Int×Int
 |[]=>((7,w,ds),0,0)
 |i::l=>
  let s:=jI a ((id:Int)+i)
  match aU ds s with
  |none=>iV m live set a c id w ds l
  |some d=>if ku live s∈set∨jk m d 1=eL then iV m live set a c id w ds l
   else(lS m c w ds s d,ku live s,s)
structure li where
 o:Int
 b:Int
 seed:Int
 M:aI
 W:cu
 got:aB
 deriving Inhabited
def li.Yh(x:li)(m:aA)(id:Nat):dG:=⟨x.o,x.b,id,m.p,x.seed,if ct id then kC m.p.2.2.toNat x.M (eT (bX m.p).toNat x.seed id)else[]⟩
def li.BR(x:li)(id:Nat)(k s:Int):li:={x with W:=x.W.set k.toNat (x.W.getD k.toNat []++[(id:Int)]),got:=x.got++[s]}
def gN(m:aA)(live set:aB)(w:Pow)(ds:aF)(x:li):Int×Pow×aF×li:=
 let id:=iA x.W;let o:=fY x.o x.b live;let r:=iV m live set o (dl (x.Yh m id)) id w ds (qz o.length)
 (r.1.1,r.1.2.1,r.1.2.2,if r.1.1=0 then x.BR id r.2.1 r.2.2 else x)
def gv(m:aA)(live:aB)(t most:Int):Nat->Pow->aF->li->Int×Pow×aF×li
 |0,w,ds,x=>(12,w,ds,x)
 |f+1,w,ds,x=>
  let r:=gK m.p x.seed x.W t
  if r.2.2≠0 then(r.2.2,w,ds,x)else if r.2.1=eL then(0,w,ds,x)else if(ii x.got:Int)>=most then(12,w,ds,x)else
   let q:=gN m live r.1 w ds x
   if q.1≠0 then q else gv m live t most f q.2.1 q.2.2.1 q.2.2.2
theorem QX(l:Sl)(r:aB)(c:eX)(x:Int)(h:f8)(a:bW h c 3 [xG xM x])(b:Rd h l 1 ak r)(d:ii r<=2^30):
  an xQ 280 #[l,xI (dB c)] h λv h'=>v=xK (decide (x∈r))/\h'=h:=by
 refine ts Tryz.func280 ?_ (args:=[l,c]);refine⟨x,a.cell0 i0,(rP l r x h b d).mono ?_⟩;rintro _ _ ⟨rfl,rfl⟩;exact⟨_,i0,i0,i0⟩
theorem QY(s:Sl)(W:cu)(c:eX)(x:Int)(h:f8)(m:bW h c 3 [xG xM x])(g:dY h s 1 ak W)(q:ii W<=2^20)(p:∀l∈W,ii l<=2^20):
  an xQ 279 #[s,.func (.func 280) #[] #[xI (dB c)]] h λv h'=>v=xK (ma W x)/\h'=h:=by
 refine ts Tryz.func279 ?_ (args:=[s,(.func (.func 280) #[] #[xI (dB c)])]);refine(ot s (280,#[],#[xI (dB c)]) (R:=λv h'=>(∃i:Int,v=xG xM i/\(decide (i>=0)=ma W x))/\h'=h) ?_).mono ?_
 ·skip
  have n:=g.len;refine aq (λi:Nat=>(i:Int)) (λi h'=>i<=ii W/\ma (W.take i) x=eL/\h'=h) (λi=>ii W-i) 0 i0 ⟨i4,by simp[ma],i0⟩ ?_;rintro i o ⟨j,a,rfl⟩;refine ag (λe=>?_) λe=>?_
  ·have b:i<ii W:=by have k:(i:Int)<(s.len:Int):=e;omega
   refine g.get i i0 b λr d=>dL lx ?_;refine(QX r W[i] c x o m d (by have:=p _ (qf b);omega)).mono ?_;rintro _ _ ⟨rfl,rfl⟩;refine⟨_,i0,ag (λf=>⟨⟨i,i0,?_⟩,i0⟩) λf=>?_⟩
   ·rw[g9 (show(i:Int)>=0 by omega)]
    symm
    unfold ma;rw[wq];exact⟨_,qf b,g9 f⟩
   ·refine⟨i+1,j0,⟨i4,?_,i0⟩,i4⟩;unfold ma at a⊢;rw[aD _ _ b,List.any_append,a,List.any_cons,List.any_nil,hU f];rfl
  ·have k:¬(i:Int)<(s.len:Int):=e;rw[qg i4]at a;exact⟨⟨-1,i0,by rw[a];rfl⟩,i0⟩
 ·rintro _ _ ⟨⟨i,rfl,j⟩,rfl⟩;exact⟨i,i0,by rw[j],i0⟩
abbrev gh(x:li)(a:bZ)(wS gS:Sl):aR:=[xG xM x.o,xG xM x.b,xG xO x.seed,.pointer a,wS,gS]
theorem QZ(b:eX)(x:li)(q:bZ)(wS gS:Sl)(h:f8)(k:bW h b 155 (gh x q wS gS))(o:dY h wS 1 ak x.W)(t:ii x.W<=2^20)(u:∀l∈x.W,ii l<=2^20)(w:Ad x.W<=2^40):
  an xQ 212 #[xI (dB b)] h λv h'=>v=xG xM (iA x.W)/\Sp h h' []:=by
 refine ts Tryz.func212 ?_ (.two .n (.two .n (.two (.inn (.loop [] [(4,12)] .n)) .n)));refine(Sp.refl h).alloc aj i0 λc z s=>?_;refine s.storeAll aj 0 i0 i0 [xG xM 0] i0 i0 i0 i0 λy p=>?_;refine aq (λ_:Nat=>()) (λi h'=>i<=Ad x.W+1/\(∀j,j<i->ma x.W (j:Int)=eH)/\Sp h h' [ac c 3 [xG xM i]]) (λi=>Ad x.W+1-i) 0 i0 ⟨i4,λj r=>i4,p⟩ ?_;rintro i h3 ⟨A,a,d⟩;refine⟨b,i0,wS,(k.af d.af k.lt).cell i0,(QY wS x.W c i h3 (d.box 0 i0) (o.up d.af) t u).mono ?_⟩;rintro _ _ ⟨rfl,rfl⟩;refine⟨_,i0,bf (λe=>?_) λe=>?_⟩
 ·have:=JP e;refine⟨i,(d.box 0 i0).cell0 i0,d.storeAll aj 0 i0 i0 [xG xM (qe xM ((i:Int)+1))] i0 i0 i0 i0 λm f=>?_⟩;refine⟨i+1,i0,⟨i4,λj r=>?_,?_⟩,i4⟩
  ·by_cases g:j=i
   ·rw[g];exact e
   ·exact a j i4
  ·have f:Sp h m [ac c 3 [xG xM (qe xM ((i:Int)+1))]]:=f;rw[ai _]at f;exact f
 ·refine⟨i,(d.box 0 i0).cell0 i0,?_,.zip d.af⟩;rw[UQ e a]
section
variable {pw:eX}
theorem aaG{k:Int}{d:aY}{b:eX}(y:bo)(n:Int)(l:aU ds k=dB d)(e:gf da k=dB b)(o:dh h y m)(f:cw m)(H:aa B h0 h (bj a pw da offs w ds m::As)):
  an xQ 123 #[xI (dB b),dq y,xG xM n] h λv h'=>v=xK (jk m d n)/\Sp h h' []:=by
 obtain⟨s,i,g,c,j⟩:=uh l e H;exact DE s i y m n g c c.len j o f
theorem Ei{k:Int}{d:aY}{b:eX}(c:aU ds k=dB d)(j:gf da k=dB b)(H:aa B h0 h (bj a pw da offs w ds m::As)):
  ∃p A2:HP,aa B h0 h (ir pw b d::bK 104 pw w::p::A2::As)/\
   ∀h' l f,aa B h0 h' (ir pw b f::bK 104 pw l::p::A2::As)->aa B h0 h' (bj a pw da offs l (bM ds k f) m::As):=by
 obtain⟨y,H⟩:=fm H;obtain⟨n,rfl,v⟩:=ko c;have q:ds[n]?=dB (dB d):=by
  unfold aU at c;rw[f9 i4,qk]at c;cases hX:ds[n]? with
  |none=>rw[hX]at c;cases c
  |some o=>rw[hX]at c;exact congrArg dB c
 obtain⟨t,g,s⟩:=Qw.aa.ju H q;have i:t=b:=by unfold gf at j;rw[f9 i4,qk,g]at j;injection j
 subst i;refine⟨_,_,s,λh' l f r=>?_⟩;have u:=Qw.aa.pC (k:=bc) (n:=n) g r;have e:bM ds (n:Int) f=ds.set n (dB f):=by simp only[bM,qk]
 rw[e];exact iC u
theorem aaH{k:Int}{d:aY}{b:eX}(y:bo)(n:Int)(i:St B h0 As λh=>dh h y m)(g:cw m)(j:aU ds k=dB d)(e:gf da k=dB b)(H:aa B h0 h (bj a pw da offs w ds m::As)):
  an xQ 124 #[xI (dB b),dq y,xG xM n] h λv h'=>v=xG xM (fb m w d n).1/\aa B h0 h' (bj a pw da offs (fb m w d n).2.1 (bM ds k (fb m w d n).2.2) m::As):=by
 obtain⟨l,A2,f,back⟩:=Ei j e H;refine(KC y m n i.cons.cons g f).mono ?_;rintro _ h' ⟨rfl,c⟩;exact⟨i0,back _ _ _ c⟩
theorem UR{k:Int}{d:aY}{b:eX}(x:Sl)(row:aP)(c:Rd h x 1 aw row)(j:ii row<=2^20)(i:aU ds k=dB d)(f:gf da k=dB b)(H:aa B h0 h (bj a pw da offs w ds m::As)):
  an xQ 107 #[xI (dB b),x] h λv h'=>v=xG xM (d.append w row).1/\aa B h0 h' (bj a pw da offs (d.append w row).2.1 (bM ds k (d.append w row).2.2) m::As):=by
 obtain⟨l,A2,g,back⟩:=Ei i f H;refine(Fg x row g c j).mono ?_;rintro _ h' ⟨rfl,e⟩;exact⟨i0,back _ _ _ e⟩
theorem aaI(s:Sl)(l:aB)(e:St B h0 As λh=>Rd h s 1 ak l)(d:ii l<=2^30)(b:∀x∈l,0<=x/\x<64)(H:aa B h0 h (bj a pw da offs w ds m::As)):
  an xQ 95 #[.func (.func 13) #[xI (dB a)] #[],s] h λv h'=>v=xG xM (fN (dw l) w ds).1/\aa B h0 h' (bj a pw da offs (fN (dw l) w ds).2.1 (fN (dw l) w ds).2.2 m::As):=by
 obtain⟨y,H⟩:=fm H;refine(HE s l e.cons d b H).mono ?_;rintro _ h' ⟨rfl,c⟩;exact⟨i0,iC c⟩
theorem Rb(y:bo)(s:Sl)(cj:aB)(o b:Int)(j:dh h y m)(e:cw m)(g:Rd h s 1 ak cj)(c:ii cj<=2^10)(i:∀k∈cj,∃d,aU ds k=dB d)(H:aa B h0 h (bj a pw da offs w ds m::As)):
  an xQ 85 #[.func (.func 13) #[xI (dB a)] #[],s,dq y,xG xM o,xG xM b] h λv h'=>∃(r:Sl) (f:List (Int×Sl)),v=r/\Sp h h' [cy jg 2 piv r f (iU m ds cj o b)]:=by
 obtain⟨x,H⟩:=fm H;exact DL y m s cj o b j e g c i H
end
theorem agA{l:aB}{i:Nat}(a:i<ii l):((l.take i).map (60+·)++l.drop i).set i (60+l[i])=(l.take (i+1)).map (60+·)++l.drop (i+1):=by rw[qS _ _ i7,aD _ _ a,List.map_append,qn];congr 1;rw[show i-ii ((l.take i).map (60+·))=0 by simp;omega,qJ a];rfl
theorem agB{l:aB}{i:Nat}(a:i<ii l)(h:i<ii ((l.take i).map (60+·)++l.drop i)):((l.take i).map (60+·)++l.drop i)[i]=l[i]:=by rw[List.getElem_append_right i7];simp[show i+(i-min i l.length)=i by omega]
theorem lZ.cj{p:Pm}{b:Mv}(h:lZ p b):(b.kind=6->(0<=b.slot/\b.slot<9)/\6<=b.n/\b.n<66)/\(b.kind=11->(0<=b.n/\b.n<40)/\(0<=b.m/\b.m<61)/\0<=b.mask/\b.mask<4294967296):=by unfold lZ at h;omega
section
variable {pw:eX}
theorem Yi{k:Int}{d:aY}{b:eX}(i:Int)(j:aU ds k=dB d)(c:gf da k=dB b)(H:aa B h0 h (bj a pw da offs w ds m::As)):
  an xQ 35 #[xI (dB b),xG xM i] h λv h'=>∃r:Sl,v=r/\Sp h h' [ae 5 r 1 aw (if 0<=i then d.l.getD i.toNat []else[])]:=by
 obtain⟨s,f,e,n,g⟩:=uh j c H;exact Wp s f i e n g.cell
theorem Pj(i:Int)(h:f8):an xQ 35 #[xI ez,xG xM i] h λv h'=>v=xH ez 0 0/\Sp h h' []:=by refine ts Tryz.func35 ?_ (.two .n (.two (.join [] [(4,20)] .n) .n));exact aT (bf (λ_=>⟨i0,Sp.refl h⟩) λe=>j1)
theorem US{l:bO}{i:Int}(h:eV (if 0<=i then l.getD i.toNat []else[])≠ez):∃j:Nat,i=j/\∃b:j<ii l,eV l[j]≠ez:=by
 have a:eV []=ez:=i5
 by_cases c:0<=i
 ·rw[f9 c]at h;by_cases b:i.toNat<ii l
  ·rw[hJ [] b]at h;exact⟨i.toNat,i4,b,h⟩
  ·rw[qd,qB i4]at h;exact absurd a h
 ·rw[g0 c]at h;exact absurd a h
theorem UT{k:Int}{d:aY}{b:eX}(i at_ c:Int)(j:0<=c/\c<2^32)(l:aU ds k=dB d)(f:gf da k=dB b)(H:aa B h0 h (bj a pw da offs w ds m::As)):
  an xQ 36 #[xI (dB b),xG xM i,xG xM at_,xG xO c] h λv h'=>∃z:Bool,v=xK z/\aa B h0 h' (bj a pw da offs w (bM ds k (d.pX i at_ c)) m::As):=by
 obtain⟨n,A2,g,back⟩:=Ei l f H;refine(UA i at_ c j g).mono ?_;rintro _ h' ⟨rfl,e⟩;exact⟨_,i0,back _ _ _ e⟩
end
theorem UU(c0:Sl)(l:aB)(s1:Sl)(l1:aB)(most:Nat)(h:f8)(hs:Rd h c0 1 ak l)(bb:Rd h s1 1 ak l1)(a7:most<=100):
  an xQ 5 #[c0,s1,xG xM most] h λv h'=>
   ∃(a pw:eX) (da:List bZ) (ds:aF) (m:aA),v=xI (dB a)/\Wt most (iO l) m ds/\Sp h h' [bj a pw da 0 Pow.new ds m]:=by
 refine ts Tryz.func5 ?_ (.two .n (.two .n (.two (.two .n (.inn (.loop [(27,aS)] [(10,11),(27,39)] .n))) (.two (.join [(11,Nv),(12,aS)] [(11,13),(39,47)] .n) (.two (.join [] [(6,7),(47,53)] .n) (.two (.two .n (.inn (.loop [(58,aS)] [(14,19),(58,122)] .n))) .n)))))) [(7,(.l [0,1,3,2,4,5,6,7,8,9]))];refine(QI c0 l h hs).mono ?_;rintro _ h1 ⟨r,rfl,R1⟩;refine⟨(iO l,Ux l,r),i0,R1.alloc aj i0 λa2 h2 H2=>?_⟩;refine H2.storeAll aj 1 i0 i0 [xG xM (iO l).1,xG xM (iO l).2.1,xG xM (iO l).2.2] i0 i0 i0 i0 λh3 H3=>?_;obtain⟨p,N⟩:∃p,p=iO l:=⟨_,rfl⟩
 obtain⟨E,hE⟩:∃E,E=Ux l:=⟨_,rfl⟩
 obtain⟨c,hc⟩:∃c,c=rO l:=⟨_,rfl⟩
 obtain⟨L,hL⟩:∃L,L=BP l:=⟨_,rfl⟩
 have bd:ii L=c:=by rw[hL,hc];exact OM l
 have br:2<=c/\c<=5:=by rw[hc];exact Se l
 have hp:bS p=eH:=by rw[N];exact Xe _ _ _
 have am:p.1<=6/\p.2.2<=9:=by rw[N];unfold iO AF;(try dsimp only);omega
 have b5:=(cg p).1 hp;have b2:0<=E/\E<=6:=by rw[hE];unfold Ux;omega
 have ad:∀x∈L,8<=x/\x<=57:=λx hx=>by
  rw[hL]at hx;obtain⟨i,_,rfl⟩:=qx.1 hx;omega
 rw[<-N,<-hE];rw[<-N,<-hL]at H3;have H3:Sp h h3 [ae 3 r 1 ak ((L.take 0).map (60+·)++L.drop 0),ac a2 36 [xG xM p.1,xG xM p.2.1,xG xM p.2.2]]:=H3;have b1:r.len=c:=by rw[<-bd,(H3.own 0 i0).len];rfl
 refine aq (λi:Nat=>(i:Int)) (λi h'=>i<=c/\Sp h h' [ae 3 r 1 ak ((L.take i).map (60+·)++L.drop i),ac a2 36 [xG xM p.1,xG xM p.2.1,xG xM p.2.2]]) (λi=>c-i) 0 i0 ⟨i4,H3⟩ ?_;rintro i h4 ⟨hi,P⟩
 try dsimp only
 refine ag (λe=>?_) λe=>?_
 ·have o:i<ii L:=i4
  have W:i<ii ((L.take i).map (60+·)++L.drop i):=i7
  refine(P.seq 0 i0 λ_=>rfl).bt i i0 W L[i] (congrArg ak (agB o W)) ?_;have hg:=ad _ (qf o);rw[ai (60+L[i])];refine P.set aj 0 i0 (λ_=>rfl) i0 i i0 W (60+L[i]) i0 i0 i0 λh6 H6=>?_;rw[agA o]at H6;exact⟨i+1,j0,⟨i4,H6⟩,i4⟩
 have a5:i=ii L:=i4
 subst a5;rw[zd i4,qF,qg i4]at P;obtain⟨G,hG⟩:∃G,G=L.map (60+·):=⟨_,rfl⟩
 rw[<-hG]at P;have b4:ii G=ii L:=by rw[hG,qu]
 have ar:∀x∈G,2<=x/\x<=512:=by rw[hG];intro x hx;obtain⟨y,hy,rfl⟩:=qx.1 hx;have:=ad y hy;omega
 have bk:∀x∈G,1<=x/\x<=512:=λx hx=>by have:=ar x hx;omega
 obtain⟨e0,ay⟩:=adk (extra:=E) hp i4 (show 1<=ii G/\G.length<=24 by omega) bk;refine bG (λ(t:bZ×Int) h'=>∃(a pw:eX) (da:List bZ) (D:aF),t=(dB a,0)/\D.length=64/\(∀s,aU D s=if s∈bi G G.length then dB ⟨(G.getD s.toNat 0).toNat,aO (cA p E G),0,[],eL,eL⟩else ez)/\
  Sp h h' [bj a pw da 0 Pow.new D (cA p E G),ae 3 r 1 ak G,ac a2 36 [xG xM p.1,xG xM p.2.1,xG xM p.2.2]]) ?_ ?_
 ·refine⟨p,(P.box 1 i0).aE _ i0,(Kr h4).mono ?_⟩;rintro _ h6 ⟨pw,rfl,R6⟩;have H6:=P.bN R6;refine⟨_,i0,ka R6.af ⟨(P.box 1 i0).cell0 i0,(P.box 1 i0).cell i0,(P.box 1 i0).cell i0,trivial⟩,?_⟩;refine(Uv p E r G (As:=[ae 3 r 1 ak G,ac a2 36 [xG xM p.1,xG xM p.2.1,xG xM p.2.2]]) (St.dN 0 i0 λh' K=>K.1.seq (λ_=>rfl) K.2) i4 e0 i0 H6).mono ?_;rintro _ h7 ⟨a,da,D,rfl,f2,f3,H7⟩;exact⟨(dB a,0),i0,trivial,a,pw,da,D,i0,f2,f3,H7⟩
 rintro⟨_,_⟩ h8 ⟨a,pw,da,D,he,f2,f3,H8⟩;injection he with he1 he2
 subst he1 he2;have I0:Wt 0 p (cA p E G) D:=Wt.fresh e0 ay i4 ar f2 f3;refine aT (bx (λe=>absurd i0 e) λ_=>bf (λe=>j1) λ_=>?_);refine⟨p,(H8.box 2 i0).aE _ i0,?_⟩;refine(Uz p s1 l1 most h8 hp (bb.up H8.af) a7).mono ?_;rintro _ a8 ⟨q,M,rfl,hM,cd,Z⟩;obtain⟨rs,Z⟩:=Z.FM 0 rfl λ_=>rfl;have H:Sp h a8 [bj a pw da 0 Pow.new D (cA p E G),ae 3 r 1 ak G,ac a2 36 [xG xM p.1,xG xM p.2.1,xG xM p.2.2],cy lF 9 nu q rs M]:=H8.comp Z;have H:=H.bB [0,3];refine⟨q,i0,?_⟩;have b7:q.len=ii M:=by rw[(H.eS 1 i0).1.len,(H.eS 1 i0).2.1]
 refine aq (λi:Nat=>(i:Int)) (λi h'=>i<=ii M/\∃da ds m,Wt i p m ds/\Sp h h' [bj a pw da 0 Pow.new ds m,cy lF 9 nu q rs M]) (λi=>ii M-i) 0 i0 ⟨i4,da,D,_,I0,H⟩ ?_;rintro i ca ⟨hi,da,ds,m,I,S⟩
 try dsimp only
 refine ag (λe=>?_) λe=>⟨a,pw,da,ds,m,i0,I.mono i4,S.bB [0]⟩
 have o:i<ii M:=i4
 have hF:=S.eS 1 i0;have a6:i<ii rs:=by rw[hF.2.1];exact o
 have next:∀{h':f8} {O:List bZ} {ds':aF} {T:aA} {ab:List HP},Wt (i+1) p T ds'->Sp h h' (bj a pw O 0 Pow.new ds' T::cy lF 9 nu q rs M::ab)->
   ∃t:Nat,(qe xM ((i:Int)+1):Int)=(t:Int)/\(t<=ii M/\∃da ds m,Wt t p m ds/\Sp h h' [bj a pw da 0 Pow.new ds m,cy lF 9 nu q rs M])/\M.length-t<ii M-i:=λ{h' O ds' T ab} U H'=>
  ⟨i+1,j0,⟨i4,O,ds',T,U,H'.aL 2 [0,1]|>λz=>aa.AW (As:=[_,_]) z⟩,i4⟩
 refine hF.1.cX i i0 a6 rs[i] i0 ?_;refine S.alloc aj i0 λap b3 ax=>?_;refine ax.storeAll aj 2 i0 i0 (nu rs[i]) i0 i0 i0 i0 λa0 g=>?_;have g:Sp h a0 [bj a pw da 0 Pow.new ds m,cy lF 9 nu q rs M,ac ap 61 (nu rs[i])]:=g;have R:=g.box 2 i0;obtain⟨⟨k1,k2,k3,k4,k5,k6,kc⟩,kd,_,_⟩:=Fix.row (g.eS 1 rfl) o;have hk:lZ p M[i]:=hM _ (qf o);refine⟨rs[i].1,R.cell0 i0,cv (λX=>?_) λ_=>cv (λX=>?_) λ_=>cv (λX=>?_) λ_=>cv (λX=>?_) λ_=>cv (λX=>?_) λ_=>next I.more g⟩
 ·obtain⟨n1,n2⟩:=lZ.put hk (k1.symm.trans X);have b9:p.1*p.2.2<=6*9:=Int.mul_le_mul am.1 am.2 i4 i4;refine⟨rs[i].2.1,R.cell i0,rs[i].2.2.1,R.cell i0,?_⟩;rw[k2];refine(adi (As:=[cy lF 9 nu q rs M,ac ap 61 (nu rs[i])]) M[i].name rs[i].2.2.1 M[i].data (St.dN (A:=cy lF 9 nu q rs M) 0 i0 λh' K=>(Fix.row K o).2.1) kc (by have:=aas _ n1;omega) I.may i4 g).mono ?_;rintro _ u ⟨rfl,f⟩;obtain⟨e,T,ds',K,U⟩:=I.put n1 n2 λk d B=>((jK f).2 k d B).1;rw[K]at f;exact⟨_,i0,next U f⟩
 ·refine⟨rs[i].2.1,R.cell i0,(Uw rs[i].2.1 I.may g).mono ?_⟩;rintro _ u ⟨rfl,f⟩;obtain⟨e,T,ds',K,U⟩:=I.del rs[i].2.1 λk d B=>((jK f).2 k d B).1;rw[K]at f;exact⟨_,i0,next U f⟩
 ·obtain⟨t1,t2,t3⟩:=(lZ.cj hk).2 (k1.symm.trans X);refine⟨rs[i].2.2.2.1,R.cell i0,(om rs[i].2.2.2.1 g).mono ?_⟩;rintro _ _ ⟨rfl,rfl⟩;refine⟨_,i0,rs[i].2.2.2.2.1,R.cell i0,?_⟩;cases B:aU ds rs[i].2.2.2.1 with
  |none=>
   rw[XC B g];refine(Pj _ _).mono ?_;rintro _ u ⟨rfl,w⟩;have f:=g.up w.af;refine⟨⟨ez,0,0⟩,i0,(sv ⟨ez,0,0⟩ [] u (Seq.nil _ _ _ _ _ _) i9 (qm _)).mono ?_⟩;rintro _ ah ⟨c1,_⟩;obtain⟨rfl,J⟩:=c1 i5;exact⟨(0,⟨ez,0,0⟩,eL),i0,bf (λh=>j8) λ_=>next I.more (f.up J.af)⟩
  |some d=>
   obtain⟨b,V⟩:=AI B g;rw[V];refine(Yi rs[i].2.2.2.2.1 B V g).mono ?_;rintro _ u ⟨ao,rfl,w⟩;have f:=g.bN w;obtain⟨cc,Y⟩:∃cc,cc=(if 0<=rs[i].2.2.2.2.1 then d.l.getD rs[i].2.2.2.2.1.toNat []else[]):=⟨_,rfl⟩
   rw[<-Y]at w f;have bq:ii cc<=64:=by
    have a9:=((jK g).2 _ _ B).2.2.cell;rw[Y];split
    ·by_cases hj:rs[i].2.2.2.2.1.toNat<ii d.l
     ·rw[hJ [] hj,a9 _ (qf hj)];exact qm _
     ·rw[qd,qB i4];exact zb _
    ·exact zb _
   refine⟨ao,i0,(sv ao cc u (f.seq 0 i0 λ_=>rfl) i4 (f.own 0 i0).cap).mono ?_⟩;rintro _ ah ⟨c1,c2⟩;cases ht:eV cc with
   |none=>
    obtain⟨rfl,J⟩:=c1 ht;exact⟨(0,⟨ez,0,0⟩,eL),i0,bf (λh=>j8) λ_=>next I.more (f.up J.af).rest⟩
   |some kx=>
    obtain⟨bl,rfl,J⟩:=c2 kx.1 kx.2 ht;have Q:=(f.up J.af).rest;have F:=Q.box 2 i0;obtain⟨j,a4,a1,a3⟩:=US (l:=d.l) (i:=rs[i].2.2.2.2.1) (by rw[<-Y,ht];exactλh=>j8);refine⟨(kx.1,bl,eH),i0,bf (λ_=>?_) λh=>j8⟩;refine⟨rs[i].2.2.2.2.1,F.cell i0,rs[i].2.2.2.2.2.1,F.cell i0,rs[i].2.2.2.2.2.2.1,F.cell i0,(UT _ _ _ (by rw[k6];exact t3) B V Q).mono ?_⟩;rintro _ b6 ⟨z,rfl,al⟩;rw[a4]at al;exact⟨_,i0,next (I.pX B a1 a3 (by rw[k5];omega)) al⟩
 ·obtain⟨t1,t2,t3⟩:=(lZ.cj hk).1 (k1.symm.trans X);refine⟨rs[i].2.2.2.1,R.cell i0,rs[i].2.2.2.2.1,R.cell i0,?_⟩;refine(adj rs[i].2.2.2.1 (qe xM (rs[i].2.2.2.2.1+40)) I.may g).mono ?_;rintro _ u ⟨rfl,O,f⟩;obtain⟨e,T,ds',K,U⟩:=I.add (slot:=rs[i].2.2.2.1) (cells:=qe xM (rs[i].2.2.2.2.1+40)) (by rw[k3];exact t1) (by rw[k4,ai _];omega) λk d B=>((jK f).2 k d B).1;rw[K]at f;exact⟨_,i0,next U f⟩
 ·refine(pI I.may g).mono ?_;rintro _ u ⟨lv,rfl,w⟩;have b0:=(w.own 0 i0).len;have f:=g.up w.af;refine⟨lv,i0,ag (λe2=>?_) λe2=>next I.more f⟩;refine⟨rs[i].2.2.2.1,(f.box 2 i0).cell i0,(aau rs[i].2.2.2.1 I.may f).mono ?_⟩;rintro _ ah ⟨rfl,Q⟩;exact⟨_,i0,next (I.CI _) Q⟩
variable {L:List HP} {X:HP} {k:Kit} {b:eX}
section
variable {pw:eX} {n:Nat}
theorem aa.afu(f:n<ii L)(H:aa B h0 h (HP.all L::X::As)):aa B h0 h (HP.all (L.set n X)::As):=by
 have j:=(H.iQ:aa B h0 h (X.sep (HP.all L)::As))
 have k:aa B h0 h ((X::L)++As):=aa.kQ (L:=X::L) j;refine aa.closeAll _ (k.pick (λi=>if i=n then 0 else i+1) (λa b c=>by(try dsimp only at c);split at c<;>split at c<;>omega) λi A e=>?_)
 try dsimp only
 by_cases d:i=n
 ·subst d;rw[ql sR,List.getElem?_set_self f]at e;rw[f9 rfl];exact e
 ·rw[g0 d,List.cons_append,qo];by_cases g:i<ii L
  ·rw[ql l9,List.getElem?_set_ne (Ne.symm d)]at e;rw[ql g];exact e
  ·rw[qh i7,zc]at e;rw[qh i4];exact e
theorem aa.adw(b:L[n]?=dB X)(H:aa B h0 h (HP.all L::As)):aa B h0 h (X::HP.all (L.set n emp)::As):=by have a:=(qj.1 b).1;have c:=(aa.kQ H).cons n (A:=X) (by rw[ql a];exact b);rw[List.set_append_left _ _ a]at c;exact(aa.closeAll (X::L.set n emp) c).lK.gp
structure mK (da:List bZ) (ds:aF):Prop where
 len:ii da=ii ds
 same:∀i:Nat,(da.getD i ez).isSome=(ds.getD i ez).isSome
def dI(k:Kit)(pw:eX)(a:List bZ)(ds:aF):HP:=(HP.all (cZ k pw a ds)).and (mK a ds)
theorem mK.addr(ok:mK da ds)(c:ds[n]?=dB (dB d)):∃b,da[n]?=dB (dB b):=by
 have e:=(qj.1 c).1;have a:=ok.same n;rw[qd,qd,c]at a;have f:n<ii da:=by rw[ok.len];exact e
 rw[qc f]at a⊢;simp at a;obtain⟨b,g⟩:=yw.1 a;exact⟨b,by rw[g]⟩
theorem mK.Dy(ok:mK da ds)(b:ds[n]?=dB ez):da[n]?=dB ez:=by
 have c:=(qj.1 b).1;have a:=ok.same n;rw[qd,qd,b]at a;have d:n<ii da:=by rw[ok.len];exact c
 rw[qc d]at a⊢;simp at a;rw[a]
theorem mK.set(ok:mK da ds):mK (da.set n (dB b)) (ds.set n (dB d)):=by
 refine⟨by simp[ok.len],λi=>?_⟩;have:=ok.same i;have e:=ok.len;simp only[qd,qU]at this⊢;by_cases a:n=i
 ·rw[f9 a,f9 a];by_cases c:n<ii ds
  ·rw[f9 c,f9 i4];rfl
  ·rw[g0 c,g0 i4];rfl
 ·rw[g0 a,g0 a];exact this
theorem Yj(e:ii da=ii ds):(cZ k pw da ds).set n (gq k.tD (k.f pw) b d)=cZ k pw (da.set n (dB b)) (ds.set n (dB d)):=by
 apply zt;intro j;simp only[cZ,qU,zF,List.length_zipWith];by_cases a:n=j
 ·subst a;by_cases c:n<ii ds
  ·rw[f9 i0,f9 i4,f9 i0,f9 i4,f9 i0,f9 c];rfl
  ·rw[f9 i0,g0 i4,f9 i0,g0 i4]
 ·simp[a]
def aci(k:Kit)(pw:eX)(a:List bZ)(ds:aF)(n:Nat):HP:=(HP.all ((cZ k pw a ds).set n emp)).and (mK a ds)
theorem aa.Yk(H:aa B h0 h (dI k pw da ds::As))(c:ds[n]?=dB (dB d)):∃b,da[n]?=dB (dB b)/\aa B h0 h (gq k.tD (k.f pw) b d::aci k pw da ds n::As):=by obtain⟨H,ok⟩:=H.oA;obtain⟨b,a⟩:=ok.addr c;have e:=aa.adw (n:=n) (X:=gq k.tD (k.f pw) b d) (by simp only[cZ,zF,a,c];rfl) H;exact⟨b,a,(e.gp.tooA ok).gp⟩
theorem aa.afv(g:da[n]?=dB (dB b))(H:aa B h0 h (gq k.tD (k.f pw) b d::aci k pw da ds n::As)):aa B h0 h (dI k pw da (ds.set n (dB d))::As):=by
 obtain⟨H,ok⟩:=H.gp.oA;have m:=(qj.1 g).1;have l:=ok.len;have c:=aa.afu (n:=n) (by simp[cZ];omega) H;rw[ye,Yj l]at c;have e:da.set n (dB b)=da:=by
  obtain⟨j,i⟩:=qj.1 g
  conv=>lhs;rw[<-i]
  exact yT j
 have a:mK (da.set n (dB b)) (ds.set n (dB d)):=ok.set;rw[e]at c a;exact c.tooA a
theorem aa.Yl{a:eX}{b:aR}{offs:Int}{w:Pow}(H:aa B h0 h (ba k a pw b offs da w ds::As)):fx b da ds/\aa B h0 h (dI k pw da ds::bK k.tP pw w::ac a k.tS (bC b pw offs da)::As):=by obtain⟨H,ok⟩:=H.oA;have c:aa B h0 h (HP.all (bK k.tP pw w::cZ k pw da ds)::ac a k.tS (bC b pw offs da)::As):=H.lK;have d:aa B h0 h (HP.all (cZ k pw da ds)::bK k.tP pw w::ac a k.tS (bC b pw offs da)::As):=c.lK;exact⟨ok,d.tooA ⟨by rw[ok.la,ok.ls],ok.same⟩⟩
theorem aa.Ym{a:eX}{c:aR}{offs:Int}{w:Pow}(h8:ii c=8)(b:ii ds=64)(H:aa B h0 h (dI k pw da ds::bK k.tP pw w::ac a k.tS (bC c pw offs da)::As)):aa B h0 h (ba k a pw c offs da w ds::As):=by obtain⟨H,ok⟩:=H.oA;have d:aa B h0 h (HP.all (bK k.tP pw w::cZ k pw da ds)::ac a k.tS (bC c pw offs da)::As):=H.iQ;have e:aa B h0 h (HP.all (ac a k.tS (bC c pw offs da)::bK k.tP pw w::cZ k pw da ds)::As):=d.iQ;exact e.tooA ⟨h8,by rw[ok.len,b],b,ok.same⟩
theorem aa.afw(q:Nat->Bool)(r:ii ds<=64)(H:aa B h0 h (dI k pw da ds::As)):aa B h0 h (dI k pw (cN q da) (cN q ds)::As):=by
 obtain⟨H,ok⟩:=H.oA;have p:=ok.len;have m:=aa.ZH (aa.kQ H) 64;obtain⟨M,j⟩:∃M,M=cZ k pw da ds:=⟨_,rfl⟩
 rw[<-j]at m;have l:ii M=ii ds:=by rw[j];simp[cZ];omega
 have g:∀i,i<64->(cZ k pw (cN q da) (cN q ds))[i]?=dB (if q i=eH/\i<ii ds then M.getD i emp else emp):=λi d=>by
  simp only[cZ,zF,mJ _ _ _ d];congr 1;cases hq:q i with
  |false=>simp[ZB]
  |true=>
   simp only[if_true,true_and];by_cases hid:i<ii ds
   ·rw[f9 hid,j];simp only[cZ,qd,zF,qc hid,qc (show i<ii da by omega)];rfl
   ·rw[g0 hid];simp only[qd,qB (show ds.length<=i by omega),qB (show da.length<=i by omega)];rfl
 have f:ii (cZ k pw (cN q da) (cN q ds))=64:=by simp[cZ,cN]
 have o:aa B h0 h (cZ k pw (cN q da) (cN q ds)++As):=by
  refine m.pick (λi=>if i<64 then(if q i=eH/\i<ii ds then 64+i else i)else i+ii ds) (λa b c=>j6) λi A d=>?_
  try dsimp only
  by_cases e:i<64
  ·rw[ql i4,g i e]at d;rw[f9 e];by_cases n:q i=eH/\i<ii ds
   ·rw[f9 n]at d⊢;rw[qh i9,yW,Nat.add_sub_cancel_left,ql i4];rw[qd,qc i4]at d;rw[qc i4];exact d
   ·rw[g0 n]at d⊢;rw[ql lb,zO,f9 e];exact d
  ·rw[g0 e];rw[qh i4,f]at d;rw[qh i7,yW,qh i4,l,show i+ii ds-64-ii ds=i-64 by omega];exact d
 refine(aa.closeAll _ o).tooA ⟨by simp[cN],λi=>?_⟩;by_cases e:i<64
 ·rw[qd,qd,mJ _ _ _ e,mJ _ _ _ e];cases q i
  ·rfl
  ·exact ok.same i
 ·rw[qd,qd,qB (by simp[cN];omega),qB (by simp[cN];omega)];rfl
end
variable {t t2 e eb:Nat} {z:aR} {by_:Nat} {α:Type} {v:Sl} {f:α->aR} {l l2:List α} {pre post:aR}
section
variable {C:Ctx} {ty k:Nat} {p:av}
theorem bW.Pk(A:C.Ok)(y:bI C.toAi t e k z by_)(o:∀x,ii (f x)=k)(j:bW h a eb (pre++l.flatMap f++post))(u:Seq h p v k f l2)(i:ii l2=ii l)(g:∀x,∀c∈f x,c.oneCell'=eH){n q E:Nat}(w:n=ii pre)(D:q=ii l){K:Int->f8->Prop}
  (H:∀h',bW h' a eb (pre++l2.flatMap f++post)->aN (λb=>b≠a.block) h h'->K l2.length h'):
  bz C.P (yc #[t,t2] ty #[.slice (dB (a.add n)) q E,v]) (.one (.sc (.int .i64))) h K:=by
 unfold bz yc;simp only[List.getElem?_toArray,List.getElem?_cons_zero,qo];refine au.bind (au.always (aG (y.under A)) ?_);refine au.bind (au.pure' ?_);refine au.bind (au.always (y.size A) ?_);have m:=u.len;have d:Nat.min v.len q=v.len:=Nat.min_eq_left i4;rw[d];refine au.bind (fM o u ?_);have B:=j.addr;have G:a.add n=⟨a.block,0+n,ez⟩:=by
  conv=>lhs;rw[B]
  simp[Addr.add];omega
 rw[G];refine au.bind ?_;have r:=j.blk;refine ey (e:=eb) (pre:=pre) (old:=l.flatMap f) (post:=post) r (by rw[di o,di o,i]) i4 ?_ ?_
 ·intro c F;obtain⟨x,_,s⟩:=zM.1 F;exact g x c s
 ·refine au.pure' ⟨_,by rw[goInt,m],H _ ⟨j.off,j.spot,?_⟩ (aN.iW r λw=>w i0)⟩;rw[gV r,f9 rfl]
theorem aa.Pk(w:C.Ok)(H:aa B h0 h As)(i:Nat)(m:As[i]?=dB (ac a eb (pre++l.flatMap f++post)))(u:bI C.toAi t e k z by_)(o:∀x,ii (f x)=k)(q:Seq h p v k f l2)(d:ii l2=ii l)(b:∀x,∀c∈f x,c.oneCell'=eH){n j r:Nat}(s:n=ii pre)(g:j=ii l){K:Int->f8->Prop}
  (A:∀h',aa B h0 h' (As.set i (ac a eb (pre++l2.flatMap f++post)))->K l2.length h'):
  bz C.P (yc #[t,t2] ty #[.slice (dB (a.add n)) j r,v]) (.one (.sc (.int .i64))) h K:=
 (H.box i m).Pk w u o q d b s g λh' x y=>A h' (H.sH i m y x)
end
section
variable {pw:eX}
theorem Rc(s t:Sl)(l k:bO)(h:f8)(g:dY h s 1 aw l)(b:dY h t 1 aw k)(F:ii l<=2^30):
  an xQ 45 #[s,t,.func (.func 46) #[] #[]] h λv h'=>v=xK (decide (l=k))/\h'=h:=by
 refine ts Tryz.func45 ?_ (.two .n (.two .n (.two (.two .n (.inn (.loop [(17,aS)] [(6,10),(17,32)] .n))) .n))) (args:=[s,t,(.func (.func 46) #[] #[])]);have x:=g.len;have D:=b.len;refine bx (λe=>?_) (λe=>?_)
 ·refine⟨?_,i0⟩;rw[hU];intro w;rw[w]at x;omega
 have f:ii l=ii k:=i4
 refine aq (λi:Nat=>(i:Int)) (λi h'=>i<=ii l/\(∀j (p:j<ii l),j<i->l[j]=(k[j]'(by omega)))/\h'=h) (λi=>ii l-i) 0 i0 ⟨i4,λj _ p=>i4,i0⟩ ?_;rintro i x ⟨G,c,rfl⟩;refine ag (λe=>?_) (λe=>?_)
 ·have d:i<ii l:=by have z:(i:Int)<(s.len:Int):=e;omega
  obtain⟨rs,g⟩:=g;obtain⟨ts,b⟩:=b;refine g.SV i i0 d λa r _ H m=>?_;refine b.SV i i0 i4 λB q _ E u=>dL i0 ?_;refine(kY r q l[i] (k[i]'(by omega)) x (g.row i r l[i] m (qc d)) (b.row i q _ u (qc i4))).mono ?_;rintro _ _ ⟨rfl,rfl⟩;refine⟨_,i0,aQ (λy=>?_) λy=>?_⟩
  ·refine⟨?_,i0⟩;rw[hU];intro w;refine of_decide_eq_false y ?_;simp only[w]
  ·refine⟨i+1,j0,⟨i4,λj p o=>?_,i0⟩,i4⟩;rcases Nat.lt_succ_iff_lt_or_eq.1 o with h3|rfl
   ·exact c j p h3
   ·exact hZ y
 ·have z:¬(i:Int)<(s.len:Int):=e;refine⟨?_,i0⟩;rw[g9];exact List.ext_getElem f λj h3 A=>c j h3 i4
theorem Si:∀x,∀c∈gT x,c.oneCell'=eH:=by intro x c a;simp only[gT,qp]at a;subst a;rfl
theorem ID(b:aR)(pw:eX)(offs:Int)(a:List bZ):bC b pw offs a=(b++[xI (dB pw),xG xM offs])++a.flatMap gT++[]:=by
 have:a.flatMap gT=a.map .pointer:=by induction a<;>simp_all [gT]
 simp[bC,this]
theorem aaJ:bI C.toAi 32 44 1 [xI ez] 8:=⟨⟨_,_,i0,i0,i0,i0,i0,i0⟩⟩
theorem Re(x:bo)(m:aA)(l:Int)(v:Sl)(d:List bZ)(h:f8)(o:dh h x m)(q:bs m=eH)(A:Rd h v 1 gT d)(D:ii d=64)(k:bW h pw 104 (powC w l)):
  an xQ 48 #[dq x,xI (dB pw),v] h λr h'=>∃(a:eX) (y:bo),r=xI (dB a)/\Sp h h' [aZ y m,ac a 92 (bC (az y) pw w.offs d)]:=by
 refine ts Tryz.func48 ?_ (.two .n (.two (.join [] [(6,7),(8,15)] .n) .n)) (args:=[x,(dB pw),v]);have p:=il q;refine(Sp.refl h).boxed λi s c=>?_;have c:Sp h s [ac i 39 (az x)]:=c;refine aT ⟨x,(c.box 0 i0).aE _ i0,(Gg x m s (o.up c.af) p).mono ?_⟩;rintro _ z ⟨rfl,E⟩;have g:=c.comp E;refine⟨_,i0,aQ (λe=>by rw[q]at e;cases e) λ_=>bf (λe=>j1) λ_=>?_⟩;refine⟨x,(g.box 0 i0).aE _ i0,(Bz x m z (o.up g.af) p).mono ?_⟩;rintro _ h3 ⟨y,rfl,u⟩;have t:Sp h h3 [ac i 39 (az x),aZ y m]:=g.comp u;refine⟨y,i0,(Dq l (k.af t.af k.lt)).mono ?_⟩;rintro _ _ ⟨rfl,rfl⟩;refine⟨_,i0,_,Kx y pw w.offs,t.boxed λa9 F j=>?_⟩;have b:(Value.agg (bC (az y) pw w.offs (qi 64 ez)).toArray).cells.toList=bC (az y) pw w.offs (qi 64 ez):=j9
 rw[b,ID]at j;refine⟨a9,i0,?_⟩;refine j.Pk aj 2 i0 aaJ (λ_=>rfl) (Seq.up A j.af) (by simp[D]) Si i0 i9 λB f=>?_;have f:Sp h B [ac i 39 (az x),aZ y m,ac a9 92 ((az y++[xI (dB pw),xG xM w.offs])++d.flatMap gT++[])]:=f;rw[<-ID]at f;exact⟨a9,y,i0,f.bB [1,2]⟩
end
section
variable {pw:eX} {n:Nat}
theorem aa.afx(H:aa B h0 h (dI bc pw da ds::As)):mK da ds:=H.oA.2
theorem aa.Yn(H:aa B h0 h (dI bc pw da ds::As)){b:eX}(e:da[n]?=dB (dB b))(g:ds[n]?=dB (dB d)):gy d/\∃s t:Sl,bW h b 102 (eG pw d s t)/\dY h s 1 aw d.l:=by
 obtain⟨j,a,c⟩:=H.Yk g;rw[e]at a;injection a with a
 injection a with a
 subst a;obtain⟨s,t,f,i,_⟩:=ir.box (c:aa B h0 h (ir pw b d::_));obtain⟨ok,_⟩:=c.nz;exact⟨ok,s,t,f,i⟩
end
section
variable {pw:eX}
theorem LC{l:aB}{j:Nat}(a:j<ii l)(x:Int):x∈l.take (j+1)↔x∈l.take j∨x=l[j]:=by rw[aD _ _ a,qy,qp]
def UV(B:av)(c:f8)(As:List HP)(pw:eX)(b:List bZ)(ds:aF)(w:Pow)(v:Value)(h':f8):Prop:=
 (gI ds=ez->v=.tuple #[xI ez,xG xM 11]/\aa B c h' (dI bc pw b ds::bK 104 pw w::As))/\
  ∀m,gI ds=dB m->((opens m m.drives w ds).1≠0->v=.tuple #[xI ez,xG xM (opens m m.drives w ds).1]/\aa B c h' (dI bc pw b (opens m m.drives w ds).2.2::bK 104 pw (opens m m.drives w ds).2.1::As))/\
   ((opens m m.drives w ds).1=0->∃a:eX,v=.tuple #[xI (dB a),xG xM 0]/\aa B c h' (bj a pw (cN (gr m) b) (opens m m.drives w ds).2.1.offs (opens m m.drives w ds).2.1 (cN (gr m) (opens m m.drives w ds).2.2) m::As))
theorem Pn(s:Sl)(h:f8):an xQ 8 #[xI ez,s] h λv h'=>v=.tuple #[xI ez,xG xM 1]/\h'=h:=by refine ts Tryz.func8 ?_ (.two .n (.two .n (.two .n (.two .n (.two .n (.two .n (.two (.two .n (.inn (.loop [(32,aS)] [(4,6),(10,14),(32,71)] (.two .n (.two .n (.two (.inn (.two .n (.two (.join [] [(36,47)] .n) .n))) .n)))))) .n)))))));exact bf (λ_=>⟨i0,i0⟩) λe=>j1
theorem Ej(s:Sl)(hS:St B h0 As λh=>Rd h s 1 gT da)(hn:ii ds<=64)(b3:s.len<=s.cap)(hj:∀d,dB d∈ds->ii (fA d.l)<20)(ay:∀m,gI ds=dB m->bs m=eH)
  (H:aa B h0 h (dI bc pw da ds::bK 104 pw w::As)):an xQ 8 #[xI (dB pw),s] h λv h'=>
  UV B h0 As pw da ds w v h':=by
 refine ts Tryz.func8 ?_ (.two .n (.two .n (.two .n (.two .n (.two .n (.two .n (.two (.two .n (.inn (.loop [(32,aS)] [(4,6),(10,14),(32,71)] (.two .n (.two .n (.two (.inn (.two .n (.two (.join [] [(36,47)] .n) .n))) .n)))))) .n)))))));have a0:=hS.at [_,_] H;have ah:=H.afx;have b7:=a0.len;have a5:=ah.len;have bk:(if(64:Int)<(s.len:Int)then(64:Int)else(s.len:Int))=(s.len:Int):=g0 i4;rw[bk];refine bf (λe=>j1) λ_=>⟨⟨i4,i4⟩,?_⟩
 simp only[qk];refine(QS (pw:=pw) s da ds h a0 a5 hn λi p d u hd=>?_).mono ?_
 ·cases d with
  |none=>
   have:=ah.Dy hd;rw[u]at this;injection this with this
   subst this;trivial
  |some d=>
   obtain⟨b,P⟩:=ah.addr hd;rw[u]at P;injection P with P
   subst P;obtain⟨ok,s1,t1,q1,q2⟩:=H.Yn u hd;exact⟨ok,hj d (zT hd),s1,t1,q1,q2⟩
 rintro _ h1 ⟨x,rfl,_,R1⟩;have H1:=H.bN R1;refine⟨(x,(gI ds).isSome),i0,H1.alloc aj i0 λt h2 H2=>?_⟩;have H2:=H2.be;refine H2.storeAll aj 0 i0 i0 (az x) i0 i0 i0 i0 λh3 H3=>?_;have H3:aa B h0 h3 (ac t 39 (az x)::aZ x ((gI ds).getD gM)::dI bc pw da ds::bK 104 pw w::As):=H3;refine aQ (λe=>⟨λ_=>⟨i0,H3.aL 4 [2,3]⟩,λm hm=>by rw[hm]at e;cases e⟩) λe=>?_;obtain⟨m,hm⟩:∃m,gI ds=dB m:=yw.1 e;have hM:=ay m hm;rw[hm]at H3;have H3:aa B h0 h3 (ac t 39 (az x)::aZ x m::dI bc pw da ds::bK 104 pw w::As):=H3;have hz:=il hM;have b2:=im hM;have S:∀{v:Value} {h':f8},(((opens m m.drives w ds).1≠0->v=.tuple #[xI ez,xG xM (opens m m.drives w ds).1]/\aa B h0 h' (dI bc pw da (opens m m.drives w ds).2.2::bK 104 pw (opens m m.drives w ds).2.1::As))/\
   ((opens m m.drives w ds).1=0->∃a:eX,v=.tuple #[xI (dB a),xG xM 0]/\aa B h0 h' (bj a pw (cN (gr m) da) (opens m m.drives w ds).2.1.offs (opens m m.drives w ds).2.1 (cN (gr m) (opens m m.drives w ds).2.2) m::As)))->UV B h0 As pw da ds w v h':=λ{v h'} T=>by
  unfold UV;refine⟨λh=>(by rw[hm]at h;cases h),λm' R=>?_⟩;rw[hm]at R;injection R with R
  subst R;exact T
 refine H3.make aj gT aaJ i5 ez i0 i0 64 64 i0 i0 (qm _) i5 λo h4 ca b5 H4=>?_;have H4:aa B h0 h4 (dI bc pw da ds::bK 104 pw w::aZ x m::ac t 39 (az x)::ae 44 o 1 gT (qi 64 ez)::As):=H4.be.aL 5 [3,4,2,1,0];refine⟨x.2.2.2.2.2.2.1,(H4.box 3 i0).cell i0,?_⟩;refine aq (λj:Nat=>(j:Int)) (λj h'=>j<=ii m.drives/\∃(g:Pow) (f:aF) (k:List bZ),opens m m.drives w ds=opens m (m.drives.drop j) g f/\f.length=ii ds/\k.length=64/\
   (∀i:Nat,i<64->k[i]?=dB (if(i:Int)∈m.drives.take j then da.getD i ez else ez))/\
   aa B h0 h' (dI bc pw da f::bK 104 pw g::aZ x m::ac t 39 (az x)::ae 44 o 1 gT k::As)) (λj=>ii m.drives-j) 0 i0
  ⟨zb _,w,ds,_,i0,i0,i9,λi V=>by rw[zO,f9 V];simp,H4⟩ ?_
 rintro j h5 ⟨b9,g,f,k,F,ax,X,G,Q⟩
 try dsimp only
 have hx:dh h5 x m:=Q.at 2 i0;have b1:=hx.drives.len;have am:=hS.at [_,_,_,_,_] Q;have ao:=Q.afx;refine ag (λe=>?_) λe=>?_
 ·have r:j<ii m.drives:=by have e':(j:Int)<(x.2.2.2.2.2.2.1.len:Int):=e;omega
  refine hx.drives.bt j i0 r m.drives[j] i0 ?_;obtain⟨n,al⟩:∃n:Nat,m.drives[j]=(n:Int):=⟨m.drives[j].toNat,by have:=js hM _ (qf r);omega⟩
  have b0:n<64:=by have:=js hM _ (qf r);omega
  rw[al];have ab:m.drives.drop j=(n:Int)::m.drives.drop (j+1):=by rw[qJ r,al]
  have q:opens m (m.drives.drop j) g f=if(gu m g f n).1=0 then opens m (m.drives.drop (j+1)) (gu m g f n).2.1 (gu m g f n).2.2 else gu m g f n:=by rw[ab];rfl
  have I:∀i:Nat,((i:Int)∈m.drives.take (j+1))↔((i:Int)∈m.drives.take j)∨i=n:=λi=>by
   rw[LC r,al];constructor
   ·rintro(h|h);exact .inl h;exact .inr i4
   ·rintro(h|h);exact .inl h;exact .inr i4
  have Z:aU f (n:Int)=(f[n]?).join:=by unfold aU;rw[f9 i4,qk]
  have wr:qe xM ((j:Int)+1)=((j+1:Nat):Int):=j0
  rw[wr];have skip:aU f (n:Int)=ez->da.getD n ez=ez->∃L,(((j+1:Nat):Int))=((L:Nat):Int)/\(L<=ii m.drives/\∃(g:Pow) (f:aF) (k:List bZ),opens m m.drives w ds=opens m (m.drives.drop L) g f/\f.length=ii ds/\k.length=64/\
   (∀i:Nat,i<64->k[i]?=dB (if(i:Int)∈m.drives.take L then da.getD i ez else ez))/\
   aa B h0 h5 (dI bc pw da f::bK 104 pw g::aZ x m::ac t 39 (az x)::ae 44 o 1 gT k::As))/\m.drives.length-L<ii m.drives-j:=λh1 h2=>by
   refine⟨j+1,i0,⟨r,g,f,k,?_,ax,X,λi V=>?_,Q⟩,i4⟩
   ·rw[F,q];have:gu m g f n=(0,g,f):=by unfold gu;rw[h1]
    rw[this,f9 rfl]
   ·rw[G i V];by_cases E:i=n
    ·subst E;rw[h2];simp
    ·have:((i:Int)∈m.drives.take (j+1))↔((i:Int)∈m.drives.take j):=by rw[I];simp[E]
     simp only[this]
  refine aT (ag (λe2=>?_) λe2=>?_)
  ·have e2:(n:Int)>=(s.len:Int):=e2;refine skip ?_ ?_
   ·rw[Z,qB i4];rfl
   ·rw[qd,qB i4];rfl
  ·have e2:¬(n:Int)>=(s.len:Int):=e2;have O:n<ii da:=i4
   have bd:n<ii f:=i4
   obtain⟨p,u⟩:∃p,da[n]?=dB p:=⟨_,qc O⟩
   obtain⟨dd,D⟩:∃dd,f[n]?=dB dd:=⟨_,qc bd⟩
   have a4:da[n]=p:=by rw[qc O]at u;injection u
   refine am.mb n i0 O p (by rw[a4]) λa8 _=>?_;cases dd with
   |none=>
    have:=ao.Dy D;rw[u]at this;injection this with this
    subst this;refine bf (λ_=>skip (by rw[Z,D];rfl) (by rw[qd,u];rfl)) λe=>j1
   |some d=>
    obtain⟨b,P⟩:=ao.addr D;rw[u]at P;injection P with P
    subst P;refine bf (λe=>j1) λ_=>am.mb n i0 O (dB b) (by rw[a4]) λb4 _=>?_;refine Q.set aj 4 i0 (λ_=>rfl) i0 n i0 i4 (dB b) i0 i0 i0 λh6 M=>?_;have M:aa B h0 h6 (dI bc pw da f::bK 104 pw g::aZ x m::ac t 39 (az x)::ae 44 o 1 gT (k.set n (dB b))::As):=M;have Y:∀i:Nat,i<64->(k.set n (dB b))[i]?=dB (if(i:Int)∈m.drives.take (j+1)then da.getD i ez else ez):=λi V=>by
     rw[qU];by_cases E:n=i
     ·subst E;rw[f9 i0,f9 i4,f9 ((I n).2 (.inr i0)),qd,u];rfl
     ·have:((i:Int)∈m.drives.take (j+1))↔((i:Int)∈m.drives.take j):=by rw[I];simp[Ne.symm E]
      rw[g0 E,G i V];simp only[this]
    have K:aU f (n:Int)=dB d:=by rw[Z,D];rfl
    have next:∀{h':f8} (w':Pow) (d':aF),gu m g f n=(0,w',d')->ii d'=ii f->aa B h0 h' (dI bc pw da d'::bK 104 pw w'::aZ x m::ac t 39 (az x)::ae 44 o 1 gT (k.set n (dB b))::As)->
      ∃L,(((j+1:Nat):Int))=((L:Nat):Int)/\(L<=ii m.drives/\∃(g:Pow) (f:aF) (k:List bZ),opens m m.drives w ds=opens m (m.drives.drop L) g f/\f.length=ii ds/\k.length=64/\
   (∀i:Nat,i<64->k[i]?=dB (if(i:Int)∈m.drives.take L then da.getD i ez else ez))/\
   aa B h0 h' (dI bc pw da f::bK 104 pw g::aZ x m::ac t 39 (az x)::ae 44 o 1 gT k::As))/\m.drives.length-L<ii m.drives-j:=λ{h'} w' d' ho hl' H'=>
     ⟨j+1,i0,⟨r,w',d',_,by rw[F,q,ho,f9 rfl],by rw[hl',ax],by simp[X],Y,H'⟩,i4⟩
    obtain⟨N,s1,t1,q1,q2⟩:=M.Yn u D;refine(ro s1 t1 q1).mono ?_;rintro _ h6 ⟨rfl,rfl⟩;refine⟨_,i0,bf (λel=>next g f (by unfold gu;rw[K];(try dsimp only);rw[f9 el]) i0 M) λel=>?_⟩;refine⟨x,(M.box 3 i0).aE _ i0,(Ya s1 t1 x m q1 q2 N (M.at 2 i0) hz).mono ?_⟩;rintro _ h7 ⟨r7,rfl,R7⟩;have a7:=q1.af R7.af q1.lt;have a9:=q2.up R7.af;refine⟨r7,i0,(tH s1 t1 a7 a9 N).mono ?_⟩;rintro _ h8 ⟨r8,rfl,R8⟩;have ad:Sp h6 h8 [dC r7 (fj m d),dC r8 d.l]:=R7.comp R8;have k1:=N.len;have k2:=N.room;have kl:=Pb m d;refine⟨r8,i0,(Rc r8 r7 d.l (fj m d) h8 ((ad.aL 2 [1]).sY λ_=>rfl) (ad.sY λ_=>rfl) i4).mono ?_⟩;rintro _ h8 ⟨rfl,rfl⟩;have a3:¬d.lost=eH:=by rw[el];decide
    have H8:aa B h0 h8 (dI bc pw da f::bK 104 pw g::aZ x m::ac t 39 (az x)::ae 44 o 1 gT (k.set n (dB b))::As):=M.up ad.af;refine⟨_,i0,bf (λee=>next g f (by unfold gu;rw[K];(try dsimp only);rw[g0 a3,f9 (hZ ee)]) i0 H8) λee=>?_⟩;have br:=of_decide_eq_false ee;have H9:aa B h0 h8 (dC r7 (fj m d)::dI bc pw da f::bK 104 pw g::aZ x m::ac t 39 (az x)::ae 44 o 1 gT (k.set n (dB b))::As):=(M.bN R7).up R8.af;obtain⟨rs,H9⟩:=H9.NC λ_=>rfl;obtain⟨b',A,W⟩:=(H9.gp).Yk D;rw[u]at A;injection A with A
    injection A with A
    subst A;have W:=W.aL 4 [0,3,1,2];refine(tQ r7 (fj m d) W (St.dN 1 i0 λh' hq=>?_) i4 λc hc=>by rw[IA m d c hc];decide).mono ?_
    ·exact⟨rs,hq.1,hq.2.1,hq.2.2⟩
    rintro _ bl ⟨rfl,a6⟩;have z:gu m g f n=((d.rewrite g (fj m d)).1,(d.rewrite g (fj m d)).2.1,bM f n (d.rewrite g (fj m d)).2.2):=by unfold gu;rw[K];(try dsimp only);rw[g0 a3,g0 br]
    have ap:aa B h0 bl (dI bc pw da (f.set n (dB (d.rewrite g (fj m d)).2.2))::bK 104 pw (d.rewrite g (fj m d)).2.1::aZ x m::ac t 39 (az x)::ae 44 o 1 gT (k.set n (dB b))::As):=aa.afv u (a6.aL 7 [0,2,1,4,5,6]);have bq:bM f (n:Int) (d.rewrite g (fj m d)).2.2=f.set n (dB (d.rewrite g (fj m d)).2.2):=by unfold bM;rw[qk]
    rw[bq]at z;refine⟨_,i0,bx (λJ=>S ⟨λ_=>?_,λar=>?_⟩) λJ=>next _ _ (by rw[z,J]) i9 ap⟩
    ·have:opens m m.drives w ds=gu m g f n:=by rw[F,q,z,g0 J]
     rw[this,z];exact⟨i0,ap.aL 5 [0,1]⟩
    ·exfalso;have:opens m m.drives w ds=gu m g f n:=by rw[F,q,z,g0 J]
     rw[this,z]at ar;exact J ar
 ·have e':¬(j:Int)<(x.2.2.2.2.2.2.1.len:Int):=e;have a1:j=ii m.drives:=i4
  have U:opens m m.drives w ds=(0,g,f):=by rw[F,a1,yp];rfl
  obtain⟨lw,b6,M⟩:=aa.nZ (Q.gp:aa B h0 h5 (bK 104 pw g::dI bc pw da f::_));have bb:k=cN (gr m) da:=by
   refine zt λi=>?_;by_cases V:i<64
   ·rw[G i V,mJ _ _ _ V,a1,qN];unfold gr;by_cases T:(i:Int)∈m.drives
    ·rw[f9 T,g9 T];rfl
    ·rw[g0 T,hU T];rfl
   ·rw[qB i4,qB (by rw[oo];omega)]
  refine⟨x,(Q.box 3 i0).aE _ i0,(Re (w:=g) x m lw o k h5 hx hM (Q.seq 4 i0 λ_=>rfl) X (M.box 0 i0)).mono ?_⟩;rintro _ h7 ⟨a,y,rfl,R7⟩;refine⟨dB a,i0,S ⟨λT=>absurd (by rw[U]) T,λ_=>⟨a,i0,?_⟩⟩⟩;rw[U]
  try dsimp only
  have e1:(dI bc pw da f::bK 104 pw g::aZ x m::ac t 39 (az x)::ae 44 o 1 gT k::As)++[aZ y m,ac a 92 (bC (az y) pw g.offs k)]=((dI bc pw da f::bK 104 pw g::aZ x m::ac t 39 (az x)::ae 44 o 1 gT k::As)++[aZ y m])++[ac a 92 (bC (az y) pw g.offs k)]:=i9
  have H7:=Q.comp R7;rw[e1,bb]at H7;have H8:aa B h0 h7 ((ac a 92 (bC (az y) pw g.offs (cN (gr m) da))::dI bc pw da f::bK 104 pw g::aZ x m::ac t 39 (az x)::ae 44 o 1 gT (cN (gr m) da)::As)++[aZ y m]):=H7.be;have H9:aa B h0 h7 (dI bc pw da f::bK 104 pw g::ac a 92 (bC (az y) pw g.offs (cN (gr m) da))::aZ y m::As):=H8.be.aL 7 [2,3,1,0];exact iC (aa.Ym i0 (oo _ _) (aa.afw (gr m) i4 H9))
end
theorem adx{m:aA}{d:aY}(a:d.lost=eL)(c:ii (bH m d.l)<=d.room):(na m d).lost=eL/\(na m d).l=bH m d.l:=by
 have b:fj m d=bH m d.l:=by unfold fj;rw[f9 c]
 unfold na;split
 ·rename_i h;rcases h with h|h
  ·rw[a]at h;cases h
  ·exact⟨a,h.trans b⟩
 ·exact⟨a,b⟩
theorem IE{D:aF}(a:ii D=64){d:aY}(h:dB d∈D):∃k,aU D k=dB d:=by obtain⟨i,b,c⟩:=List.getElem_of_mem h;refine⟨(i:Int),?_⟩;unfold aU;rw[f9 i4,qk,qc b,c];rfl
theorem at_mem{D:aF}{d:aY}{k:Int}(h:aU D k=dB d):dB d∈D:=by
 unfold aU at h;split at h
 ·cases hx:D[k.toNat]? with
  |none=>rw[hx]at h;cases h
  |some o=>rw[hx]at h;have:o=dB d:=h;rw[<-this];exact zT hx
 ·cases h
theorem aaK{m:aA}{k:Int}(h:0<=k):gr m k.toNat=decide (k∈m.drives):=by unfold gr;rw[Int.toNat_of_nonneg h]
structure agT (m:aA) (d:aY):Prop where
 lost:d.lost=eL
 room:d.room=90
 len:ii d.l<=40
 few:ii (fA d.l)<20
variable {M:Int->aA} {m:aA} {ds:aF}
theorem oq(H:Hi M m ds){k:Int}{d:aY}(o:aU ds k=dB d){x:aA}(i:x∈fA d.l):x=M x.seq/\(1<=x.seq/\x.seq<=m.seq)/\k∈x.drives/\bs x=eH:=by
 obtain⟨f,p⟩:=Gp i;have h:=BL f;have e:=jl f h;obtain⟨a,b,c⟩:=H.pg k d o (nt x 0).cell (p _ (by rw[kp];exact qx.2 ⟨0,qC.2 h,i0⟩)) _ e;have a:1<=x.seq/\x.seq<=m.seq:=a;have c:k∈(M x.seq).drives:=c;obtain⟨s,n,_⟩:=H.ok x.seq a.1 a.2;have j:x=M x.seq:=KO s (λc q g e r=>by
  have:=(H.pg k d o c q g e).2.1;rw[r,n]at this;exact this) i n.symm
 exact⟨j,a,by rw[j];exact c,f⟩
theorem UW{c:List Pg}{out:List aA}{x:Pg}(h:out.Nodup):(dK c out x).Nodup:=by
 unfold dK;split
 ·exact h
 ·split
  ·exact h
  ·split
   ·exact h
   ·split
    ·exact h
    ·rename_i m _ g;refine List.nodup_append.2 ⟨h,i9,λa d b f e=>g ?_⟩;rw[qp.1 f]at e;exact wq.2 ⟨a,d,g9 (by rw[e])⟩
theorem IF{a:List Pg}:∀(xs:List Pg) {out:List aA},out.Nodup->(xs.foldl (dK a) out).Nodup
 |[],_,h=>h
 |x::xs,_,h=>IF xs (UW h)
theorem IG(l:bO):(fA l).Nodup:=(List.mergeSort_perm _ _).nodup_iff.2 (IF _ List.nodup_nil)
theorem Po(H:Hi M m ds)(j:m.seq<=10){k:Int}{d:aY}(c:aU ds k=dB d):ii (fA d.l)<20:=by
 have f:((fA d.l).map aA.seq).Nodup:=yf.2 ((IG d.l).imp_of_mem λ{a b} ha hb hne e=>hne (by rw[(oq H c ha).1,(oq H c hb).1,e]));have:=ug f (m:=(qz 11).map λi:Nat=>(i:Int)) λq g=>by
  obtain⟨x,h,rfl⟩:=qx.1 g;have:=(oq H c h).2.1;exact qx.2 ⟨x.seq.toNat,qC.2 i4,i4⟩
 simp only[qu,zC]at this;omega
theorem Af(e:ii ds=64){x:aA}(h:gI ds=dB x):(∃k d,aU ds k=dB d/\d.lost=eL/\x∈fA d.l)/\∀k d,aU ds k=dB d->d.lost=eL->∀y∈fA d.l,y.seq<=x.seq:=by
 obtain⟨a,b,_⟩:=(BM (ds.flatMap fW) ez).2 x h;refine⟨?_,λk d i f y j=>b y (zM.2 ⟨_,at_mem i,by unfold fW;(try dsimp only);rw[f];exact j⟩)⟩;rcases a with a|a
 ·cases a
 ·obtain⟨o,m,c⟩:=zM.1 a;cases o with
  |none=>cases c
  |some d=>
   unfold fW at c;dsimp only at c;split at c
   ·cases c
   ·rename_i f;obtain⟨k,g⟩:=IE e m;exact⟨k,d,g,sR,c⟩
theorem Yo{α β:Type}{f:α->Option β}{g:β->α}:∀{l:List β},(∀r∈l,f (g r)=dB r)->(l.map g).filterMap f=l
 |[],_=>rfl
 |r::l,h=>by
  rw[z6,List.filterMap_cons,h r qP]
  try dsimp only
  rw[Yo λx a=>h x (qH _ a)]
theorem aaL(m:aA)(l:bO):(fO m l).Pairwise ltC:=by
 have g:=QE m l;have f:(fO m l).Pairwise λa b=>mv a b=eH:=by
  unfold fO;obtain⟨L,e⟩:∃L,L=(l.filterMap (gY m)).mergeSort mv:=⟨_,rfl⟩
  have i:L.Pairwise λa b=>mv a b=eH:=by rw[e];exact List.pairwise_mergeSort MO.1 MO.2 _
  rw[<-e];unfold rG;refine yf.2 ((List.pairwise_lt_range.filter _).imp_of_mem λ{a b} d c hab=>?_);have d:=qC.1 (qI.1 d).1;have c:=qC.1 (qI.1 c).1;rw[qd,qd,qc d,qc c];exact List.pairwise_iff_getElem.1 i a b d c hab
 exact(f.and g).imp λh=>h
theorem Lg(m:aA)(l:bO):bH m (bH m l)=bH m l:=by
 have e:fO m (bH m l)=fO m l:=by
  have:(bH m l).filterMap (gY m)=fO m l:=by
   unfold bH jc;rw[List.filterMap_append,Tr,zW];refine Yo λr d=>?_;obtain⟨_,a,b⟩:=KV d;unfold gY;rw[a]
   try dsimp only
   rw[f9 b]
  conv=>lhs;unfold fO
  rw[this];exact PG (aaL m l)
 have h:∀c,bH m c=aO m++(fO m c).map dl:=λ_=>rfl;rw[h (bH m l),e];rfl
theorem Ek{l:bO}(d:bs m=eH):∀c∈bH m l,∀g,ck c=dB g->g.seq=m.seq/\c∈aO m:=λc b g a=>by
 rcases qy.1 b with h|h
 ·exact⟨uj d h a,h⟩
 ·obtain⟨r,_,rfl⟩:=qx.1 h;rw[uX]at a;cases a
theorem BS{l:bO}(b:bs m=eH){x:aA}:x∈fA (bH m l)↔x=m:=by
 constructor
 ·intro h;obtain⟨e,i⟩:=Gp h;have f:=BL e;have j:=(Ek b _ (i _ (by rw[kp];exact qx.2 ⟨0,qC.2 f,i0⟩)) _ (jl e f)).1;exact KO b (λc a g d _=>(Ek b c a g d).2) h j
 ·rintro rfl;exact Ot b (λc a=>zS _ a) λc a g d _=>(Ek b c a g d).2
theorem Rf(d:bs m=eH):(aO m).Nodup:=by
 rw[kp];refine yf.2 (List.nodup_range.imp_of_mem λ{a b} ha hb hne e=>hne ?_);have c:=jl d (qC.1 ha);rw[e,jl d (qC.1 hb)]at c;injection c with c
 have:((b:Nat):Int)=a:=congrArg Pg.num c;omega
theorem Yp(d:bs m=eH){l:bO}(a:ub m l=eH):ii (bH m l)<=ii l:=by
 have g:=Gy m l;have e:=Eg m l;have h3:ii (aO m)<=ii (l.filter λc=>!(dP c).isSome):=ug (Rf d) λc b=>by
  refine qI.2 ⟨?_,by rw[xT b];rfl⟩;unfold ub at a;rw[qw,qY]at a;exact hZ (a.2 c b)
 have f:ii l=fF l+ii (l.filter λc=>!(dP c).isSome):=by
  rw[<-List.countP_eq_length_filter];unfold fF;rw[List.length_eq_countP_add_countP λc=>(dP c).isSome];congr 2;funext c
  cases(dP c).isSome<;>rfl
 omega
def JQ(m:aA)(ds:aF):Prop:=∀k d,aU ds k=dB d->d.lost=eL->fF d.l+2<=d.room∨ub m d.l=eH
theorem aaM(H:Hi M m ds)(t:bs m=eH)(F:JQ m ds)(p:ii ds=64)(A:∀k d,aU ds k=dB d->ii d.l<=d.room){x:aA}(u:gI ds=dB x){k:Int}{d:aY}(b:aU ds k=dB d)(s:d.lost=eL):ii (bH x d.l)<=d.room:=by
 obtain⟨⟨j,D,o,_,v⟩,a⟩:=Af p u;obtain⟨e,r,_,_⟩:=oq H o v;rcases F k d b s with h|h
 ·have y:=Gy x d.l;have B:=Eg x d.l;have h3:ii (aO x)<=2:=by rw[e];exact(H.ok x.seq r.1 r.2).2.2
  omega
 ·have f:=h;unfold ub at f;rw[qw,qY]at f;have i:m∈fA d.l:=Ot t (λc q=>hZ (f.2 c q)) λc q g w z=>by
   have:=(H.pg k d b c q g w).2.1;rw[z,H.cur]at this;exact this
  have y:=a k d b s m i;have n:x=m:=by rw[e,show x.seq=m.seq by omega,H.cur]
  rw[n];exact q9 (Yp t h) (A k d b)
theorem UX(H:Hi M m ds)(T:bs m=eH)(F:JQ m ds)(s:ii ds=64)(X:m.seq<=10)(R:∀k d,aU ds k=dB d->ii d.l<=d.room){x:aA}(n:gI ds=dB x):
  bs x=eH/\∃D,opens x x.drives Pow.new ds=(0,Pow.new,D)/\gI (cN (gr x) D)=dB x/\(∀d,dB d∈cN (gr x) D->ii (fA d.l)<20)/\(∀w,opens x x.drives w (cN (gr x) D)=(0,w,cN (gr x) D))/\
   ∀k d,aU (cN (gr x) D) k=dB d->d.lost=eL->bH x d.l=d.l:=by
 obtain⟨⟨j,U,r,G,O⟩,L⟩:=Af s n;obtain⟨e,Z,K,c⟩:=oq H r O;obtain⟨D,S,q2,V⟩:=IB nP (m:=x) (l:=x.drives) (si c) s;have v:∀k,aU (cN (gr x) D) k=if k∈x.drives then(aU ds k).map (na x)else ez:=λk=>by
  rw[aaE];by_cases t:0<=k
  ·rw[aaK t,V];by_cases n:k∈x.drives
   ·rw[f9 n,f9 n,f9 (g9 n)]
   ·rw[g0 n,g0 n,g0 rb]
  ·have h0:aU D k=ez:=by unfold aU;rw[g0 i4]
   rw[h0,g0 λh=>t (js c k h).1];split<;>rfl
 have i:∀k d,aU (cN (gr x) D) k=dB d->∃b,aU ds k=dB b/\d.lost=b.lost/\(d.lost=eH->d.l=b.l)/\(d.lost=eL->d.l=bH x b.l/\d.l.length<=d.room):=λk d a=>by
  rw[v]at a;split at a
  ·cases h0:aU ds k with
   |none=>rw[h0]at a;cases a
   |some b=>
    rw[h0,qQ]at a;injection a with a
    refine⟨b,i0,?_⟩;cases f:b.lost with
    |true=>
     have:d=b:=by rw[<-a];unfold na;rw[f9 (.inl f)]
     rw[this,f];exact⟨i0,λ_=>rfl,λh=>j8⟩
    |false=>
     have N:=aaM H T F s R n h0 f;obtain⟨p,o⟩:=adx (m:=x) f N;have A:(na x b).room=b.room:=by unfold na;split<;>rfl
     rw[a]at p o A;exact⟨p,λh=>(by rw[p]at h;cases h),λ_=>⟨o,by rw[o,A];exact N⟩⟩
  ·cases a
 have q:ii (cN (gr x) D)=64:=oo _ _;refine⟨c,D,S,?_,λd a=>?_,λw=>?_,λk d a f=>?_⟩
 ·have z:aU (cN (gr x) D) j=dB (na x U):=by rw[v,f9 K,r];rfl
  obtain⟨b,h0,p,_,o⟩:=i j _ z;rw[r]at h0;injection h0 with h0
  subst h0;have u:=p.trans G;refine Xf (at_mem z) u (by rw[(o u).1];exact(BS c).2 i0) λP J E y B=>?_;obtain⟨k,t⟩:=IE q J;obtain⟨Y,_,_,_,Q⟩:=i k P t;rw[(Q E).1]at B;exact .inr ((BS c).1 B)
 ·obtain⟨k,t⟩:=IE q a;obtain⟨b,h0,p,o,A⟩:=i k d t;cases f:d.lost with
  |true=>rw[o f];exact Po H X h0
  |false=>
   rw[(A f).1]
   letI:DecidableEq aA:=λ_ _=>Classical.propDecidable _
   have:=ug (IG (bH x b.l)) (m:=[x]) λy B=>qp.2 ((BS c).1 B);exact Nat.lt_of_le_of_lt this (show 1<20 by decide)
 ·have I:∀k,gu x w (cN (gr x) D) k=(0,w,cN (gr x) D):=λk=>by
   unfold gu;cases a:aU (cN (gr x) D) k with
   |none=>rfl
   |some d=>
    try dsimp only
    cases f:d.lost with
    |true=>rfl
    |false=>
     obtain⟨b,_,_,_,g⟩:=i k d a;obtain⟨p,o⟩:=g f;have:d.l=fj x d:=by
      unfold fj;have W:bH x d.l=d.l:=by rw[p,Lg]
      rw[W,f9 o]
     rw[g0 i5,f9 this]
  have:∀l,opens x l w (cN (gr x) D)=(0,w,cN (gr x) D):=λl=>by
   induction l with
   |nil=>rfl
   |cons k l ih=>unfold opens;rw[I,f9 rfl];exact ih
  exact this _
 ·obtain⟨b,_,_,_,g⟩:=i k d a;rw[(g f).1,Lg]
theorem IH{α:Type}(q:Nat->Bool)(l:List (Option α)):cN q (cN q l)=cN q l:=by
 refine zt λi=>?_;by_cases a:i<64
 ·rw[mJ _ _ _ a,qd,mJ _ _ _ a];cases q i<;>rfl
 ·rw[qB (by rw[oo];omega),qB (by rw[oo];omega)]
theorem sE(ds:aF)(k:Int)(d e:aY):bM (bM ds k d) k e=bM ds k e:=by unfold bM;rw[ye]
theorem aaN{live:aB}{s i:Int}(g:0<=i↔s∈live)(f:0<=i->live[i.toNat]?=dB s/\∀j,j<i.toNat->live[j]?≠dB s)(h3:-1<=i):ku live s=i:=by
 unfold ku;by_cases c:0<=i
 ·obtain⟨a,b⟩:=f c;have e:live.idxOf? s=dB i.toNat:=by unfold List.idxOf?;rw[List.findIdx?_eq_some_iff_getElem];obtain⟨m,l⟩:=qj.1 a;refine⟨m,by rw[l];simp,λj k=>?_⟩;have:=b j k;rw[qc i4]at this;simpa using λh=>this (by rw[h])
  rw[e]
  try dsimp only
  omega
 ·have e:live.idxOf? s=ez:=by unfold List.idxOf?;rw[List.findIdx?_eq_none_iff];intro z d;have:s∉live:=λh=>c (g.2 h);simp only[beq_eq_false_iff_ne];rintro rfl;exact this d
  rw[e]
  try dsimp only
  omega
theorem Rh(k:Int)(b:aP):ii (dW k b)<=64:=by
 by_cases h:1<=k/\k<=255/\b.length<=55
 ·rw[lU h.1 h.2.1 h.2.2];exact qm _
 ·unfold dW;rw[g0 h];exact zb _
theorem Sj{o:aB}{i:Int}(a:o≠[])(d:0<=i:=by omega):jI o i∈o:=by unfold jI;rw[g0 λh=>h.elim a λh=>i4];have e:0<ii o:=vF.2 a;have c:=Int.emod_nonneg i (show(ii o:Int)≠0 by omega);have b:=Int.emod_lt_of_pos i (show(0:Int)<ii o by omega);unfold LR;rw[qd,qc i4];exact qf _
theorem II{o b s:Int}{l:aB}(h:s∈fY o b l):s∈l:=by
 unfold fY at h;split at h
 ·exact((KH _ _ _).1 h).1
 ·cases h
theorem aaO(l:aB):ii (iT l)<=ii l:=by
 have:=Oa l l.length
 rwa [qg (qm _)]at this
theorem UY(o b:Int)(l:aB):ii (fY o b l)<=ii l:=by
 unfold fY;split
 ·rw[(HW _ _).length_eq];exact aaO l
 ·simp
structure rx (m:aA) (live:aB) (x:li):Prop where
 seed:0<=x.seed/\x.seed<4294967296
 ev:aV m.p.2.2.toNat x.M
 ml:ii x.M=(bX m.p).toNat
 wl:ii x.W=ii live
 rl:∀l∈x.W,ii l<=2^12+ii x.got
 top:Ad x.W<=2^20+ii x.got
 gl:ii x.got<=64
 gi:∀s∈x.got,s∈live
theorem Seq.ady{h:f8}{p:av}{s:Sl}{rs:List Sl}(g:Qw.Seq h p s 1 aX rs){n:Nat}(e:n<ii rs){a:eX}(i:s.ptr=dB a):f7 h (a.add (n*1))=dB (.slice rs[n].ptr rs[n].len rs[n].cap):=by
 obtain⟨b,o,c,j,f⟩:=g.elem n rs[n] (qc e);rw[i]at c;injection c with c
 subst c;have d:=f.1;rw[add_eq,wT]at d;rw[add_eq];exact d
def pL(s:Sl)(W:cu)(k:Nat)(rs:List Sl):HP:=HP.all (ae 22 s 1 aX rs::(bn 3 1 ak rs W).set k emp)
variable {s:Sl} {W:cu}
section
variable {k:Nat}
theorem Pp(H:aa B h0 h As):aa B h0 h (emp::As):=(H.comp (.one (A:=emp) (aN.refl _ _) trivial)).be
theorem afy(g:k<ii W)(H:aa B h0 h (dc 22 s 3 1 ak W::As)):
  ∃(rs:List Sl) (p:eX) (a:ii rs=ii W),s.ptr=dB p/\s.len=ii W/\aa B h0 h (ae 3 (rs[k]'(by omega)) 1 ak W[k]::pL s W k rs::As):=by
 obtain⟨rs,a,b⟩:=H.rZ;have j:=(b.own 0 i0).len;obtain⟨p,o,e,_⟩:=(b.seq 0 rfl λ_=>rfl).elem k (rs[k]'(by omega)) (qc i4);have f:aa B h0 h (ae 22 s 1 aX rs::emp::(bn 3 1 ak rs W++As)):=(Pp b).aL 2 [1,0];have d:=(aa.RT k (fk a k g) f).aL 3 [0,2];have i:aa B h0 h ([ae 3 (rs[k]'(by omega)) 1 ak W[k]]++((ae 22 s 1 aX rs::(bn 3 1 ak rs W).set k emp)++As)):=d;have c:=i.front;rw[qn]at c;exact⟨rs,_,a,e,i4,(aa.closeAll _ c).be⟩
theorem adz{rs:List Sl}{p:eX}(i:Nat){Bs:List HP}(d:ii rs=ii W)(e:k<ii W)(a:s.ptr=dB p)(b:Bs[i]?=dB (pL s W k rs))(H:aa B h0 h Bs):f7 h (p.add (k*1))=dB (.slice (rs[k]'(by omega)).ptr (rs[k]'(by omega)).len (rs[k]'(by omega)).cap):=by have c:=(H.cons i b).kQ;exact(c.seq 0 i0 λ_=>rfl).ady i4 a
theorem afz{rs:List Sl}{v:Sl}{l:aB}{x:Int}(f:ii rs=ii W)(n:k<ii W)(g:x=k)(H:aa B h0 h (ae 3 v 1 ak l::pL s W k rs::As)){K:f8->Prop}
  (m:∀h',aa B h0 h' (dc 22 s 3 1 ak (W.set k l)::As)->K h'):
  ∃a:eX,(s.ptr=dB a/\0<=x/\x<((s.len:Nat):Int))/\au xQ (qE 22 (xI (dB (a.add (x.toNat*1)))) (xH v.ptr v.len v.cap)) h λ_ h'=>K h':=by
 have j:=H.gp.kQ;refine j.set aj 0 i0 (λ_=>rfl) i0 k g i4 v i0 i0 i0 λh' i=>m h' ?_;have b:ii (bn 3 1 ak rs W)=ii W:=by simp[bn];omega
 have d:=i.cons (ii W+1) (A:=ae 3 v 1 ak l) (by
  show((ae 22 s 1 aX (rs.set k v)::((bn 3 1 ak rs W).set k emp++ae 3 v 1 ak l::As)))[ii W+1]?=_;rw[qo,qh m4];simp[b])
 have e:((ae 22 s 1 aX (rs.set k v)::((bn 3 1 ak rs W).set k emp++ae 3 v 1 ak l::As))).set (ii W+1) emp=ae 22 s 1 aX (rs.set k v)::((bn 3 1 ak rs W).set k emp++emp::As):=by rw[List.set_cons_succ,qS _ _ m4];simp[b]
 have d:aa B h0 h' (ae 3 v 1 ak l::ae 22 s 1 aX (rs.set k v)::((bn 3 1 ak rs W).set k emp++emp::As)):=by rw[<-e];exact d
 have c:=(aa.ER k i4 ((Pp d).aL 3 [1,0,2])).aL 2 [0];have c:aa B h0 h' (ae 22 s 1 aX (rs.set k v)::((bn 3 1 ak rs W).set k (ae 3 v 1 ak l)++emp::As)):=c;rw[kz f]at c;exact(aa.Ak qa c).aL 2 [0]
end
def pc(b a:eX)(x:li):HP:=HP.ex λp:Sl×Sl=>(ac b 155 (gh x (dB a) p.1 p.2)).sep ((dc 22 p.1 3 1 ak x.W).sep (ae 3 p.2 1 ak x.got))
variable {cd:eX} {x:li}
theorem EW(H:aa B h0 h (pc b cd x::As)):∃wS gS:Sl,aa B h0 h (ae 3 gS 1 ak x.got::dc 22 wS 3 1 ak x.W::ac b 155 (gh x (dB cd) wS gS)::As):=by obtain⟨⟨wS,gS⟩,H⟩:=H.oz;exact⟨wS,gS,H.lK.lK⟩
theorem ul{wS gS:Sl}(H:aa B h0 h (ae 3 gS 1 ak x.got::dc 22 wS 3 1 ak x.W::ac b 155 (gh x (dB cd) wS gS)::As)):aa B h0 h (pc b cd x::As):=
 aa.sX (F:=λp:Sl×Sl=>(ac b 155 (gh x (dB cd) p.1 p.2)).sep ((dc 22 p.1 3 1 ak x.W).sep (ae 3 p.2 1 ak x.got))) (wS,gS) H.iQ.iQ
section
variable {pw:eX}
theorem Yq{c b j:eX}(y:bo)(G g:Sl)(live set:aB)(t most k:Int)(x:li)(hm:bs m=eH)(hp:bS m.p=eH)(hl:ii live<=64)(a2:∀k∈live,∃d,aU ds k=dB d)(hk:0<=k/\k<=2^40)(F:rx m live x)(ek:ii set<=2^20)
  (hS:St B h0 As λh=>dh h y m/\Rd h G 1 ak live/\Rd h g 1 ak set/\tR h j m.p x.seed x.M)
  (H:aa B h0 h (bj a pw da offs w ds m::ac c 84 (cT a y G t most k)::pc b j x::As)):
  an xQ 143 #[xI (dB c),xI (dB b),g] h λv h'=>v=xG xM (gN m live set w ds x).1/\
   aa B h0 h' (bj a pw da offs (gN m live set w ds x).2.1 (gN m live set w ds x).2.2.1 m::ac c 84 (cT a y G t most (if(gN m live set w ds x).1=0 then k+1 else k))::pc b j (gN m live set w ds x).2.2.2::As):=by
 refine ts Tryz.func143 ?_ (.two .n (.two .n (.two .n (.two (.two .n (.inn (.loop [(33,aS)] [(6,7),(9,16),(33,140)] (.two .n (.two .n (.two (.inn (.two .n (.two .n (.two .n (.two .n (.two (.join [] [(53,65)] .n) (.two .n (.two (.join [(14,(.sc .adr))] [(14,15),(74,99)] .n) (.two .n (.two (.join [] [(106,132)] .n) .n)))))))))) .n)))))) .n)))) [(13,(.y [0,1,2,3,4,5,6,7,8,9,10,11,12,13,14,15,16,17,18,19,20,21,22] (.l [23,24,25,26]) (.l [25,23,24,26]))),(17,(.y [0,1,2,3,4,5,6,7,8,9,10,11,12,13,16,17,18,19,20] (.y [14] (.l [15,21,22,23,24,25,26,27]) (.l [21,15,22,23,24,25,26,27])) (.l [21,14,15,22,23,24,25,26,27])))];obtain⟨wS,gS,H1⟩:=EW (H.aL 3 [2,0,1]);have am:=H1.box 2 i0;have ca:=H1.box 4 i0;have d6:dY h wS 1 ak x.W:=aa.sY (H1.aL 2 [1,0]) λ_=>rfl;have el:=F.gl;have b0:∀l∈x.W,ii l<=2^13:=λl hl=>by have:=F.rl l hl;omega
 obtain⟨id,hid⟩:∃id,id=iA x.W:=⟨_,rfl⟩
 have d9:id<=2^21:=by have:=Ph x.W;have:=F.top;omega
 refine(QZ b x (dB j) wS gS h am d6 (by rw[F.wl];omega) (λl hl=>by have:=b0 l hl;omega) (by have:=F.top;omega)).mono ?_;rintro _ h1 ⟨rfl,R1⟩;rw[<-hid];have H1:=H1.up R1.af;have d3:=(hS.cons.cons.cons.cons.cons).here H1;obtain⟨ee,cp,er,eg⟩:=d3;have am:=H1.box 2 i0;have ca:=H1.box 4 i0;refine⟨(id:Int),i0,b,i0,x.o,am.cell0 i0,b,i0,x.b,am.cell i0,c,i0,G,ca.cell i0,(Fo x.o x.b G live h1 cp).mono ?_⟩;rintro _ h2 ⟨r8,rfl,R2⟩;obtain⟨o,ho⟩:∃o,o=fY x.o x.b live:=⟨_,rfl⟩
 rw[<-ho]at R2;have et:ii o<=64:=by rw[ho];exact q9 (UY _ _ _) hl
 have H2:=H1.bN R2;have es:=(H2.own 0 i0).len;refine⟨r8,i0,trivial,?_⟩;obtain⟨cell,P⟩:∃cell,cell=dl (x.Yh m id):=⟨_,rfl⟩
 have e0:gN m live set w ds x=(let r:=iV m live set o cell id w ds (qz o.length);(r.1.1,r.1.2.1,r.1.2.2,if r.1.1=0 then x.BR id r.2.1 r.2.2 else x)):=by rw[ho,P,hid];rfl
 rw[e0];refine aq (λi:Nat=>(i:Int)) (λi h'=>i<=ii o/\iV m live set o cell id w ds (qz o.length)=iV m live set o cell id w ds ((qz o.length).drop i)/\aa B h0 h' (ae 3 r8 1 ak o::ae 3 gS 1 ak x.got::dc 22 wS 3 1 ak x.W::ac b 155 (gh x (dB j) wS gS)::bj a pw da offs w ds m::ac c 84 (cT a y G t most k)::As)) (λi=>ii o-i) 0 i0 ⟨i4,i0,H2⟩ ?_;rintro i h3 ⟨hi,cl,U⟩;refine ag (λe=>?_) λe=>?_
 rotate_left
 ·have ep:i=ii o:=i4
  have hd:(qz o.length).drop i=[]:=List.drop_eq_nil_of_le i7;rw[cl,hd];refine⟨i0,?_⟩;have U:=U.rest;exact((ul (U.aL 5 [0,1,2,3,4])).aL 3 [1,2,0])
 have b5:i<ii o:=i4
 have hd:(qz o.length).drop i=i::(qz o.length).drop (i+1):=by rw[qJ i7,vP]
 rw[ai ((id:Int)+(i:Int))];refine(RY r8 o ((id:Int)+i) h3 (U.seq 0 i0 λ_=>rfl)).mono ?_;rintro _ _ ⟨rfl,rfl⟩;obtain⟨s,hs⟩:∃s,s=jI o ((id:Int)+i):=⟨_,rfl⟩
 rw[<-hs];have d5:s∈o:=by rw[hs];exact Sj (by intro h;rw[h]at b5;simp at b5)
 have a1:s∈live:=II (by rw[<-ho];exact d5);obtain⟨d,Y⟩:=a2 s a1;have O:iV m live set o cell id w ds (qz o.length)=(if ku live s∈set∨jk m d 1=eL then iV m live set o cell id w ds ((qz o.length).drop (i+1))else(lS m cell w ds s d,ku live s,s)):=by rw[cl,hd,iV,<-hs,Y]
 obtain⟨d4,cr,du,eh⟩:=(hS.cons.cons.cons.cons.cons.cons).here U;have ab:=U.box 5 i0;refine⟨_,i0,c,i0,G,ab.cell i0,(index_spec G live s _ cr i4).mono ?_⟩;rintro _ _ ⟨⟨J,rfl,q1,q2,q3,q4⟩,rfl⟩;have a8:ku live s=J:=aaN q1 q2 q4;have d1:0<=J:=q1.2 a1;refine⟨J,i0,c,i0,dB a,ab.cell0 i0,(om s (U.aL 5 [4])).mono ?_⟩;rintro _ _ ⟨rfl,rfl⟩;obtain⟨dp,a0⟩:=AI Y (U.aL 5 [4]);rw[a0];refine⟨_,i0,?_⟩;refine bG (λ(_:Unit) h'=>¬(ku live s∈set∨jk m d 1=eL)/\aa B h0 h' (ae 3 r8 1 ak o::ae 3 gS 1 ak x.got::dc 22 wS 3 1 ak x.W::ac b 155 (gh x (dB j) wS gS)::bj a pw da offs w ds m::ac c 84 (cT a y G t most k)::As)) ?_ ?_
 ·refine(rP g set J _ du i4).mono ?_;rintro _ _ ⟨rfl,rfl⟩;refine⟨_,i0,ag (λe1=>?_) λe1=>?_⟩
  ·refine⟨i+1,j0,⟨i4,?_,U⟩,i4⟩;rw[O,f9 (.inl (by rw[a8];exact e1))]
  ·refine⟨c,i0,y,ab.cells 1 _ i0,(aaG y 1 Y a0 d4 (il hm) (U.aL 5 [4])).mono ?_⟩;rintro _ h4 ⟨rfl,R4⟩;refine⟨_,i0,aQ (λe2=>?_) λe2=>?_⟩
   ·refine⟨i+1,j0,⟨i4,?_,U.up R4.af⟩,i4⟩;rw[O,f9 (.inr e2)]
   ·exact⟨λh=>h.elim (λh=>e1 (by rw[<-a8];exact h)) (λh=>by rw[h]at e2;cases e2),U.up R4.af⟩
 rintro _ h5 ⟨c1,H5⟩;rw[O,g0 c1]
 try dsimp only
 have cq:=H5.box 5 i0;have H5:aa B h0 h5 (bj a pw da offs w ds m::ae 3 gS 1 ak x.got::dc 22 wS 3 1 ak x.W::ac b 155 (gh x (dB j) wS gS)::ac c 84 (cT a y G t most k)::As):=H5.aL 6 [4,1,2,3,5];refine⟨c,i0,y,cq.cells 1 _ i0,(aaH y 1 (hS.cons.cons.cons.cons.mono λ_ q=>q.1) (il hm) Y a0 H5).mono ?_⟩;rintro _ h6 ⟨rfl,H6⟩;obtain⟨mk,bk⟩:∃mk,mk=fb m w d 1:=⟨_,rfl⟩
 rw[<-bk]at H6⊢;refine⟨_,i0,bx (λe3=>?_) λe3=>?_⟩
 ·have ea:lS m cell w ds s d=(mk.1,mk.2.1,bM ds s mk.2.2):=by
   unfold lS;rw[<-bk]
   try dsimp only
   rw[f9 e3]
  rw[ea]
  try dsimp only
  rw[g0 e3,g0 e3];refine⟨i0,?_⟩;exact(ul (H6.aL 5 [1,2,3,0,4])).aL 3 [1,2,0]
 have b2:aU (bM ds s mk.2.2) s=dB mk.2.2:=by rw[jJ (jK H).1 Y,f9 rfl]
 obtain⟨A,b6⟩:∃A,A=mk.2.2.append mk.2.1 cell:=⟨_,rfl⟩
 have ea:lS m cell w ds s d=(A.1,A.2.1,bM (bM ds s mk.2.2) s A.2.2):=by
  unfold lS;rw[<-bk]
  try dsimp only
  rw[g0 λh=>h e3,<-b6,sE]
 rw[ea]
 try dsimp only
 obtain⟨dd,eb,ei,dx⟩:=(hS.cons.cons.cons.cons.cons).here H6;have S:=H6.box 3 i0;have b9:=H6.box 4 i0;have b1:∀{h':f8},bW h' c 84 (cT a y G t most k)->dh h' y m->bp h' ((c.add 1).add 2) 0 [xG xM m.p.1,xG xM m.p.2.1,xG xM m.p.2.2]:=λ{h'} hb hy=>by
  have c6:y.2.2.1=m.p.1:=congrArg (·.1) hy.p;have c8:y.2.2.2.1=m.p.2.1:=congrArg (·.2.1) hy.p;have c4:y.2.2.2.2.1=m.p.2.2:=congrArg (·.2.2) hy.p;rw[addr_add,<-c6,<-c8,<-c4];exact hb.cells 3 _ i0
 refine bG (λ(z:eX) h'=>∃D:Sl,aa B h0 h' (ac z 167 (bL (x.o,x.b,(id:Int),m.p.1,m.p.2.1,m.p.2.2,x.seed,D))::ae 5 D 1 aw (x.Yh m id).data::bj a pw da offs mk.2.1 (bM ds s mk.2.2) m::ae 3 gS 1 ak x.got::dc 22 wS 3 1 ak x.W::ac b 155 (gh x (dB j) wS gS)::ac c 84 (cT a y G t most k)::As)) ?_ ?_
 ·have dr:=b1 b9 dd;have L:∀{h':f8},bW h' b 155 (gh x (dB j) wS gS)->bW h' c 84 (cT a y G t most k)->dh h' y m->bQ.ok [(b.add 2,xG xO x.seed),((c.add 1).add 2,xG xM m.p.1),(((c.add 1).add 2).add 1,xG xM m.p.2.1),(((c.add 1).add 2).add 2,xG xM m.p.2.2),(b.add 1,xG xM x.b),(b,xG xM x.o)] h':=λ{h'} hb hc hy=>by
   have q:=b1 hc hy;exact⟨hb.cell i0,q.1,q.2.1,q.2.2.1,hb.cell i0,hb.cell0 i0,trivial⟩
  refine⟨b,i0,x.o,S.cell0 i0,b,i0,x.b,S.cell i0,c,i0,m.p,dr,b,i0,x.seed,S.cell i0,b,i0,dB j,S.cell i0,?_,?_⟩
  ·refine(Ab j m.p x.seed id x.M (bX m.p).toNat m.p.2.2.toNat h6 dx hp (by have:=(cg m.p).1 hp;omega) i0 F.ev F.ml).mono ?_;rintro _ h7 ⟨D,rfl,R7⟩;have H7:=H6.bN R7;refine⟨D,i0,L (H7.box 4 i0) (H7.box 5 i0) ((hS.cons.cons.cons.cons.cons.cons).here H7).1,H7.alloc aj i0 λc9 h8 R=>?_⟩;have R:=R.be;refine⟨L (R.box 5 i0) (R.box 6 i0) ((hS.cons.cons.cons.cons.cons.cons.cons).here R).1,?_⟩;refine R.storeAll aj 0 i0 i0 (bL (x.o,x.b,(id:Int),m.p.1,m.p.2.1,m.p.2.2,x.seed,D)) i0 i0 i0 i0 λh9 H9=>⟨trivial,D,H9⟩
  ·refine H6.alloc aj i0 λc9 h8 R=>?_;have R:=R.be;obtain⟨c7,_,_,d7⟩:=(hS.cons.cons.cons.cons.cons.cons).here R;refine⟨⟨(R.box 4 i0).cell i0,L (R.box 4 i0) (R.box 5 i0) c7⟩,?_⟩;refine(Ab j m.p x.seed id x.M (bX m.p).toNat m.p.2.2.toNat h8 d7 hp (by have:=(cg m.p).1 hp;omega) i0 F.ev F.ml).mono ?_;rintro _ h7 ⟨D,rfl,R7⟩;have H7:=R.bN R7;refine⟨D,i0,L (H7.box 5 i0) (H7.box 6 i0) ((hS.cons.cons.cons.cons.cons.cons.cons).here H7).1,?_⟩;refine H7.storeAll aj 1 i0 i0 (bL (x.o,x.b,(id:Int),m.p.1,m.p.2.1,m.p.2.2,x.seed,D)) i0 i0 i0 i0 λh9 H9=>⟨trivial,D,H9.gp⟩
 rintro z c5 ⟨D,a4⟩;have cs:=a4.box 0 i0;refine⟨(x.o,x.b,(id:Int),m.p.1,m.p.2.1,m.p.2.2,x.seed,D),cs.aE _ i0,?_⟩;have bb:=a4.seq 1 i0 λ_=>rfl;refine(pS (x.o,x.b,(id:Int),m.p.1,m.p.2.1,m.p.2.2,x.seed,D) (x.Yh m id) c5 ⟨⟨i0,i0,i0,i0,i0,F.seed⟩,bb⟩).mono ?_;rintro _ d0 ⟨a6,rfl,cf⟩;rw[<-P]at cf;have ax:=a4.bN cf;have d8:ii cell<=2^20:=by
  rw[P];unfold dl;split
  ·exact q9 (Rh _ _) i5
  ·simp
 have ax:aa B h0 d0 (bj a pw da offs mk.2.1 (bM ds s mk.2.2) m::ae 5 a6 1 aw cell::ae 3 gS 1 ak x.got::dc 22 wS 3 1 ak x.W::ac b 155 (gh x (dB j) wS gS)::ac c 84 (cT a y G t most k)::As):=ax.aL 8 [3,0,4,5,6,7];refine⟨a6,i0,(UR a6 cell (ax.seq 1 i0 λ_=>rfl) d8 b2 a0 ax).mono ?_⟩;rintro _ cn ⟨rfl,V⟩;rw[<-b6]at V⊢;have V:aa B h0 cn (ae 3 gS 1 ak x.got::dc 22 wS 3 1 ak x.W::ac b 155 (gh x (dB j) wS gS)::bj a pw da offs A.2.1 (bM (bM ds s mk.2.2) s A.2.2) m::ac c 84 (cT a y G t most k)::As):=V.aL 6 [2,3,4,0,5];refine⟨_,i0,bx (λe4=>?_) λe4=>?_⟩
 ·rw[g0 e4,g0 e4];refine⟨i0,?_⟩;exact(ul V).aL 3 [1,2,0]
 rw[e4,f9 i0,f9 rfl];obtain⟨f,ao⟩:∃f:Nat,J=(f:Int):=⟨J.toNat,i4⟩
 have K:f<ii x.W:=by rw[F.wl];omega
 have bd:x.BR id (ku live s) s={x with W:=x.W.set f (x.W[f]++[(id:Int)]),got:=x.got++[s]}:=by unfold li.BR;rw[a8,ao,qk,qd,qc K];rfl
 rw[bd];refine bG (λ(_:Unit) h'=>aa B h0 h' (bj a pw da offs A.2.1 (bM (bM ds s mk.2.2) s A.2.2) m::ac c 84 (cT a y G t most k)::pc b j {x with W:=x.W.set f (x.W[f]++[(id:Int)]),got:=x.got++[s]}::As)) ?_ ?_
 ·obtain⟨rs,pp,bl,bq,d2,T⟩:=afy K (V.aL 2 [1,0]);have ec:=b0 _ (qf K);have T:aa B h0 cn (ae 3 (rs[f]'(by omega)) 1 ak x.W[f]::pL wS x.W f rs::ae 3 gS 1 ak x.got::ac b 155 (gh x (dB j) wS gS)::bj a pw da offs A.2.1 (bM (bM ds s mk.2.2) s A.2.2) m::ac c 84 (cT a y G t most k)::As):=T;have N:∀{h':f8} {r r':HP} {Cs:List HP},aa B h0 h' (r::pL wS x.W f rs::r'::ac b 155 (gh x (dB j) wS gS)::Cs)->bW h' b 155 (gh x (dB j) wS gS)/\f7 h' (pp.add (J.toNat*1))=dB (.slice (rs[f]'(by omega)).ptr (rs[f]'(by omega)).len (rs[f]'(by omega)).cap):=λ{h' r r' Cs} Q=>
   ⟨Q.box 3 i0,by rw[ao,qk];exact adz 1 bl K bq i0 Q⟩
  have Z:=T.box 3 i0;have fin:∀{h':f8} {v v':Sl} {Cs:List HP},aa B h0 h' (ae 3 v 1 ak (x.W[f]++[(id:Int)])::pL wS x.W f rs::ae 3 v' 1 ak (x.got++[s])::ac b 155 (gh x (dB j) wS gS)::bj a pw da offs A.2.1 (bM (bM ds s mk.2.2) s A.2.2) m::ac c 84 (cT a y G t most k)::As)->
    bQ.ok [(b.add 4,xH wS.ptr wS.len wS.cap),(b.add 4,xH wS.ptr wS.len wS.cap)] h'/\∃a55:eX,(wS.ptr=dB a55/\0<=J/\J<(wS.len:Int))/\au xQ (qE 22 (xI (dB (a55.add (J.toNat*1)))) (xH v.ptr v.len v.cap)) h' λ_ a5=>
     bQ.ok [] a5/\∃b3:eX,(dB b=dB b3)/\au xQ (qE 22 (xI (dB (b3.add 5))) (xH v'.ptr v'.len v'.cap)) a5 λ_ ah=>bQ.ok [] ah/\
      aa B h0 ah (bj a pw da offs A.2.1 (bM (bM ds s mk.2.2) s A.2.2) m::ac c 84 (cT a y G t most k)::pc b j {x with W:=x.W.set f (x.W[f]++[(id:Int)]),got:=x.got++[s]}::As):=λ{h' v v' Cs} Q=>by
   have b7:=(N Q).1;refine⟨⟨b7.cell i0,b7.cell i0,trivial⟩,afz bl K ao Q λa5 dj=>⟨trivial,b,i0,dj.storeAt aj 2 i0 i0 i0 i0 i0 (show 5<6 by decide) λah a9=>⟨trivial,?_⟩⟩⟩;have a9:aa B h0 ah (dc 22 wS 3 1 ak (x.W.set f (x.W[f]++[(id:Int)]))::ae 3 v' 1 ak (x.got++[s])::ac b 155 (gh x (dB j) wS v')::bj a pw da offs A.2.1 (bM (bM ds s mk.2.2) s A.2.2) m::ac c 84 (cT a y G t most k)::As):=a9;exact(ul (x:={x with W:=x.W.set f (x.W[f]++[(id:Int)]),got:=x.got++[s]}) (wS:=wS) (gS:=v') (a9.aL 5 [1,0,2,3,4])).aL 3 [1,2,0]
  have al:∀{h':f8} {r r':HP} {Cs:List HP},aa B h0 h' (r::pL wS x.W f rs::r'::ac b 155 (gh x (dB j) wS gS)::Cs)->
    bQ.ok [(b.add 5,xH gS.ptr gS.len gS.cap),(b.add 4,xH wS.ptr wS.len wS.cap),(b.add 4,xH wS.ptr wS.len wS.cap)] h':=λQ=>⟨(N Q).1.cell i0,(N Q).1.cell i0,(N Q).1.cell i0,trivial⟩
  have ar:∀{h':f8} {r r':HP} {Cs:List HP},aa B h0 h' (r::pL wS x.W f rs::r'::ac b 155 (gh x (dB j) wS gS)::Cs)->
    bQ.ok [(b.add 5,xH gS.ptr gS.len gS.cap),(pp.add (J.toNat*1),.slice (rs[f]'(by omega)).ptr (rs[f]'(by omega)).len (rs[f]'(by omega)).cap),(b.add 4,xH wS.ptr wS.len wS.cap),(b.add 4,xH wS.ptr wS.len wS.cap)] h':=λQ=>⟨(N Q).1.cell i0,(N Q).2,(N Q).1.cell i0,(N Q).1.cell i0,trivial⟩
  refine⟨b,i0,wS,Z.cell i0,b,i0,wS,Z.cell i0,pp,⟨bq,d1,(by rw[ao,d2];exact vX.2 K)⟩,rs[f]'(by omega),(N T).2,b,i0,gS,Z.cell i0,?_,?_⟩
  ·refine T.lit aj ak fR i0 [(id:Int)] i0 (show 1*1<=2^20 by decide) i0 λv51 a3 I=>?_;have I:aa B h0 a3 (ae 3 v51 1 ak [(id:Int)]::ae 3 (rs[f]'(by omega)) 1 ak x.W[f]::pL wS x.W f rs::ae 3 gS 1 ak x.got::ac b 155 (gh x (dB j) wS gS)::bj a pw da offs A.2.1 (bM (bM ds s mk.2.2) s A.2.2) m::ac c 84 (cT a y G t most k)::As):=I.be;refine⟨ar I.rest,?_,?_⟩
   ·refine I.append aj 1 i0 fR ⟨_,_,i0,i0⟩ i0 i5 (λ_=>rfl) (I.seq 0 i0 λ_=>rfl) eC i7 λdy ad u=>⟨al u.rest,?_⟩
    refine u.lit aj ak fR i0 [s] i0 (show 1*1<=2^20 by decide) i0 λv53 a7 E=>?_;have E:aa B h0 a7 (ae 3 v53 1 ak [s]::ae 3 dy 1 ak (x.W[f]++[(id:Int)])::pL wS x.W f rs::ae 3 gS 1 ak x.got::ac b 155 (gh x (dB j) wS gS)::bj a pw da offs A.2.1 (bM (bM ds s mk.2.2) s A.2.2) m::ac c 84 (cT a y G t most k)::As):=(E.be).aL 3 [0,2];refine⟨al E.rest,?_⟩;refine E.append aj 3 i0 fR ⟨_,_,i0,i0⟩ i0 i5 (λ_=>rfl) (E.seq 0 i0 λ_=>rfl) eC i7 λen b4 X=>?_;exact fin (Cs:=[]) X.rest
   ·refine I.lit aj ak fR i0 [s] i0 (show 1*1<=2^20 by decide) i0 λc2 ad u=>?_;have u:aa B h0 ad (ae 3 c2 1 ak [s]::ae 3 v51 1 ak [(id:Int)]::ae 3 (rs[f]'(by omega)) 1 ak x.W[f]::pL wS x.W f rs::ae 3 gS 1 ak x.got::ac b 155 (gh x (dB j) wS gS)::bj a pw da offs A.2.1 (bM (bM ds s mk.2.2) s A.2.2) m::ac c 84 (cT a y G t most k)::As):=u.be;refine⟨ar u.rest.rest,?_⟩;refine u.append aj 2 i0 fR ⟨_,_,i0,i0⟩ i0 i5 (λ_=>rfl) (u.seq 1 i0 λ_=>rfl) eC i7 λeq a7 E=>⟨al E.rest.rest,?_⟩
    refine E.append aj 4 i0 fR ⟨_,_,i0,i0⟩ i0 i5 (λ_=>rfl) (E.seq 0 i0 λ_=>rfl) eC i7 λej b4 X=>?_;exact fin (Cs:=[]) X.rest.rest
  ·refine T.lit aj ak fR i0 [s] i0 (show 1*1<=2^20 by decide) i0 λbr a3 I=>?_;have I:aa B h0 a3 (ae 3 br 1 ak [s]::ae 3 (rs[f]'(by omega)) 1 ak x.W[f]::pL wS x.W f rs::ae 3 gS 1 ak x.got::ac b 155 (gh x (dB j) wS gS)::bj a pw da offs A.2.1 (bM (bM ds s mk.2.2) s A.2.2) m::ac c 84 (cT a y G t most k)::As):=I.be;refine⟨ar I.rest,?_⟩;refine I.lit aj ak fR i0 [(id:Int)] i0 (show 1*1<=2^20 by decide) i0 λc0 ad u=>?_;have u:aa B h0 ad (ae 3 c0 1 ak [(id:Int)]::ae 3 br 1 ak [s]::ae 3 (rs[f]'(by omega)) 1 ak x.W[f]::pL wS x.W f rs::ae 3 gS 1 ak x.got::ac b 155 (gh x (dB j) wS gS)::bj a pw da offs A.2.1 (bM (bM ds s mk.2.2) s A.2.2) m::ac c 84 (cT a y G t most k)::As):=u.be;refine⟨ar u.rest.rest,?_⟩;refine u.append aj 2 i0 fR ⟨_,_,i0,i0⟩ i0 i5 (λ_=>rfl) (u.seq 0 i0 λ_=>rfl) eC i7 λef a7 E=>⟨al E.rest.rest,?_⟩
   refine E.append aj 4 i0 fR ⟨_,_,i0,i0⟩ i0 i5 (λ_=>rfl) (E.seq 1 i0 λ_=>rfl) eC i7 λeo b4 X=>?_;exact fin (Cs:=[]) X.rest.rest
 rintro _ ed cc;refine⟨c,i0,k,(cc.box 1 i0).cell i0,c,i0,cc.storeAt aj 1 i0 i0 i0 i0 i0 (show 12<13 by decide) λdk ay=>⟨i0,?_⟩⟩;have ay:aa B h0 dk (bj a pw da offs A.2.1 (bM (bM ds s mk.2.2) s A.2.2) m::ac c 84 (cT a y G t most (qe xM (k+1)))::pc b j {x with W:=x.W.set f (x.W[f]++[(id:Int)]),got:=x.got++[s]}::As):=ay;rw[ai _]at ay;exact ay
end
theorem Gz{m:aA}{live set a:aB}{c:aP}{id:Nat}{w:Pow}{ds:aF}:∀{l:List Nat},(iV m live set a c id w ds l).1.1=0->
  ∃i∈l,∃d,aU ds (jI a ((id:Int)+i))=dB d/\ku live (jI a ((id:Int)+i))∉set/\jk m d 1=eH/\iV m live set a c id w ds l=(lS m c w ds (jI a ((id:Int)+i)) d,ku live (jI a ((id:Int)+i)),jI a ((id:Int)+i))
 |[],h=>j8
 |i::l,h=>by
  unfold iV at h⊢;dsimp only at h⊢;cases hd:aU ds (jI a ((id:Int)+i))with
  |none=>
   rw[hd]at h;obtain⟨j,e,r⟩:=Gz h;exact⟨j,qH _ e,r⟩
  |some d=>
   rw[hd]at h;dsimp only at h⊢;by_cases b:ku live (jI a ((id:Int)+i))∈set∨jk m d 1=eL
   ·rw[f9 b]at h⊢;obtain⟨j,e,r⟩:=Gz h;exact⟨j,qH _ e,r⟩
   ·rw[g0 b];exact⟨i,qP,d,hd,λh=>b (.inl h),by cases hf:jk m d 1 with|true=>rfl|false=>exact absurd (.inr hf) b,rfl⟩
theorem Yr{m:aA}{c:aP}{w:Pow}{ds:aF}{s:Int}{d:aY}:∃a,(lS m c w ds s d).2.2=bM ds s a:=by
 unfold lS
 try dsimp only
 split
 ·exact⟨_,i0⟩
 ·exact⟨_,sE _ _ _ _⟩
theorem GA{m:aA}{live set a:aB}{c:aP}{id:Nat}{w:Pow}{ds:aF}(b:ii ds=64){P:Int->Prop}(f:∀k,P k->∃d,aU ds k=dB d):∀{l:List Nat},∀k,P k->∃d,aU (iV m live set a c id w ds l).1.2.2 k=dB d
 |[],k,hk=>f k hk
 |i::l,k,hk=>by
  unfold iV
  try dsimp only
  cases hd:aU ds (jI a ((id:Int)+i))with
  |none=>exact GA b f k hk
  |some d=>
   try dsimp only
   split
   ·exact GA b f k hk
   ·obtain⟨g,e⟩:=Yr (m:=m) (c:=c) (w:=w) (ds:=ds) (s:=jI a ((id:Int)+i)) (d:=d)
    try dsimp only
    rw[e,jJ b hd];split
    ·exact⟨_,i0⟩
    ·exact f k hk
theorem Pq{W:cu}{n:Nat}(h:∀l∈W,∀x∈l,x.toNat<=n):Ad W<=n:=by
 have c:∀l:aB,(∀x∈l,x.toNat<=n)->l.foldr (λx a=>max a x.toNat) 0<=n:=by
  intro l
  induction l with
  |nil=>intro _;exact zb _
  |cons x l ih=>
   intro h;rw[List.foldr_cons];have g:=ih λy e=>h y (qH _ e);have f:=h x qP;omega
 exact c _ λx b=>by
  obtain⟨l,d,b⟩:=xj.1 b;exact h l d x b
theorem Pr{m:aA}{live set:aB}{w:Pow}{ds:aF}{x:li}(F:rx m live x)(G:ii x.got<64):rx m live (gN m live set w ds x).2.2.2/\((gN m live set w ds x).1=0->∃s,s∈live/\(gN m live set w ds x).2.2.2=x.BR (iA x.W) (ku live s) s)/\((gN m live set w ds x).1≠0->(gN m live set w ds x).2.2.2=x):=by
 unfold gN
 try dsimp only
 obtain⟨r,t⟩:∃r,r=iV m live set (fY x.o x.b live) (dl (x.Yh m (iA x.W))) (iA x.W) w ds (qz (fY x.o x.b live).length):=⟨_,rfl⟩
 rw[<-t];by_cases h:r.1.1=0
 ·rw[f9 h];obtain⟨i,n,d,H,D,h3,p⟩:=Gz (by rw[<-t];exact h);rw[<-t]at p;have n:=qC.1 n;have y:jI (fY x.o x.b live) ((iA x.W:Int)+i)∈live:=II (Sj (by intro h;rw[h]at n;simp at n));have A:r.2.1=ku live (jI (fY x.o x.b live) ((iA x.W:Int)+i)):=by rw[p]
  have u:r.2.2=jI (fY x.o x.b live) ((iA x.W:Int)+i):=by rw[p]
  refine⟨?_,λ_=>⟨_,y,by rw[A,u]⟩,λq=>absurd h q⟩;have j:(x.BR (iA x.W) r.2.1 r.2.2).got.length=ii x.got+1:=by simp[li.BR]
  have e:∀l∈(x.BR (iA x.W) r.2.1 r.2.2).W,l∈x.W∨l=x.W.getD r.2.1.toNat []++[(iA x.W:Int)]:=λl g=>zR g;have c:∀k,x.W.getD k []∈x.W∨x.W.getD k []=[]:=λk=>by
   by_cases v:k<ii x.W
   ·rw[hJ [] v];exact .inl (qf v)
   ·exact .inr (by rw[qd,qB i4];rfl)
  have E:=Ph x.W;have B:=F.top;refine⟨F.seed,F.ev,F.ml,by show(x.W.set _ _).length=_;rw[zc];exact F.wl,λl g=>?_,?_,i4,λs f=>?_⟩
  ·rw[j];rcases e l g with h|rfl
   ·have:=F.rl l h;omega
   ·rw[qt,List.length_singleton];rcases c r.2.1.toNat with h|h
    ·have:=F.rl _ h;omega
    ·rw[h,List.length_nil];omega
  ·rw[j];refine Pq λl g z a=>?_;rcases e l g with h|rfl
   ·have:=JO (xj.2 ⟨l,h,a⟩);omega
   ·rcases qy.1 a with a|a
    ·rcases c r.2.1.toNat with h|h
     ·have:=JO (xj.2 ⟨_,h,a⟩);omega
     ·rw[h]at a;cases a
    ·rw[qp.1 a];omega
  ·have f:s∈x.got++[r.2.2]:=f;rcases qy.1 f with h|h
   ·exact F.gi s h
   ·rw[qp.1 h,u];exact y
 ·rw[g0 h];exact⟨F,λq=>absurd q h,λ_=>rfl⟩
theorem Ys(p:Pm)(seed:Int)(W:cu)(t:Int):(gK p seed W t).1.length<=64:=by
 unfold gK;split
 ·split
  ·split
   ·exact zb _
   ·rename_i h _;split
    ·rename_i g b;obtain⟨y,a,rfl⟩:=qx.1 (List.mem_of_find?_eq_some b)
     try dsimp only
     rw[kH,(Bt a).1];omega
    ·exact zb _
  ·exact zb _
 ·exact zb _
section
variable {pw:eX}
theorem UZ{c b O:eX}(y:bo)(o:Sl)(live:aB)(t most k:Int)(x:li)(hm:bs m=eH)(hp:bS m.p=eH)(hl:ii live<=64)(E:∀k∈live,∃d,aU ds k=dB d)(hk:0<=k/\k<=2^39)(F:rx m live x)(L:x.got=[])(K:0<=most/\most<=64)
  (hS:St B h0 As λh=>dh h y m/\Rd h o 1 ak live/\tR h O m.p x.seed x.M)
  (H:aa B h0 h (bj a pw da offs w ds m::ac c 84 (cT a y o t most k)::pc b O x::As)):
  an xQ 94 #[xI (dB c),xI (dB b)] h λv h'=>v=xG xM (gv m live t most 65 w ds x).1/\
   aa B h0 h' (bj a pw da offs (gv m live t most 65 w ds x).2.1 (gv m live t most 65 w ds x).2.2.1 m::ac c 84 (cT a y o t most (k+(gv m live t most 65 w ds x).2.2.2.got.length))::pc b O (gv m live t most 65 w ds x).2.2.2::As):=by
 refine ts Tryz.func94 ?_ (.two .n (.inn (.loop [] [(4,56)] .n)));obtain⟨G,hG⟩:∃G,G=gv m live t most 65 w ds x:=⟨_,rfl⟩
 rw[<-hG];refine aq (λ_:Nat×Pow×aF×li=>()) (λz h'=>z.1+ii z.2.2.2.got=65/\(ii z.2.2.2.got:Int)<=most/\G=gv m live t most z.1 z.2.1 z.2.2.1 z.2.2.2/\rx m live z.2.2.2/\z.2.2.2.seed=x.seed/\z.2.2.2.M=x.M/\(∀k∈live,∃d,aU z.2.2.1 k=dB d)/\
  aa B h0 h' (bj a pw da offs z.2.1 z.2.2.1 m::ac c 84 (cT a y o t most (k+ii z.2.2.2.got))::pc b O z.2.2.2::As)) (λz=>z.1) (65,w,ds,x) i0 ⟨by rw[L];rfl,by rw[L];exact K.1,hG,F,i0,i0,E,by rw[L];show aa B h0 h (_::ac c _ (cT a y o t most (k+0))::_);rw[Int.add_zero];exact H⟩ ?_
 rintro⟨f,w1,ds1,j⟩ h1 ⟨hf,ad,g,I,es,eM,i,J⟩;dsimp only at hf ad g I es eM i J⊢;obtain⟨f',rfl⟩:∃f',f=f'+1:=⟨f-1,i4⟩
 have X:=J.box 1 i0;obtain⟨wS,gS,H2⟩:=EW (J.aL 3 [2,0,1]);have T:=H2.box 2 i0;have a0:dY h1 wS 1 ak j.W:=aa.sY (H2.aL 2 [1,0]) λ_=>rfl;have ar:dM (bv (bR 1 ak) 1 aX) h1 wS j.W:=by obtain⟨rs,q1,q2,q3⟩:=a0;exact⟨rs,q1,q2,q3⟩
 obtain⟨hy,a1,hM⟩:=(hS.cons.cons.cons).here J;have am:y.2.2.1=m.p.1:=congrArg (·.1) hy.p;have ap:y.2.2.2.1=m.p.2.1:=congrArg (·.2.1) hy.p;have ah:y.2.2.2.2.1=m.p.2.2:=congrArg (·.2.2) hy.p;have ax:bp h1 ((c.add 1).add 2) 0 [xG xM m.p.1,xG xM m.p.2.1,xG xM m.p.2.2]:=by rw[addr_add,<-am,<-ap,<-ah];exact X.cells 3 _ i0
 refine⟨c,i0,m.p,ax,b,i0,j.seed,T.cell i0,b,i0,wS,T.cell i0,c,i0,t,X.cell i0,?_⟩;refine(Iw m.p j.seed wS j.W t h1 ar (by rw[I.wl];omega) (λl hl=>by have:=I.rl l hl;have:=I.gl;omega) (vk _)).mono ?_;rintro _ h2 ⟨r,rfl,R2⟩;obtain⟨q,R⟩:∃q,q=gK m.p j.seed j.W t:=⟨_,rfl⟩
 rw[<-R]at R2⊢;rw[gv]at g;dsimp only at g;rw[<-R]at g;have Z:=J.up R2.af;refine⟨(r,q.2.1,q.2.2),i0,trivial,?_⟩
 try dsimp only
 refine bx (λe=>?_) λe=>?_
 ·rw[f9 e]at g;rw[g];exact⟨i0,Z⟩
 rw[g0 λh=>h e]at g;refine aQ (λe1=>?_) λe1=>?_
 ·rw[f9 e1]at g;rw[g];exact⟨i0,Z⟩
 rw[g0 n5]at g;obtain⟨a2,ay,H4⟩:=EW (Z.aL 3 [2,0,1]);have S:=H4.box 2 i0;have D:=(H4.own 0 i0).len;have ab:=Z.box 1 i0;refine⟨b,i0,ay,S.cell i0,c,i0,most,ab.cell i0,ag (λY=>?_) λY=>?_⟩
 ·rw[D]at Y;rw[f9 Y]at g;rw[g];exact⟨i0,Z⟩
 rw[D]at Y;rw[g0 Y]at g;have H5:aa B h0 h2 (bj a pw da offs w1 ds1 m::ac c 84 (cT a y o t most (k+ii j.got))::pc b O j::EA (bR 1 ak) r q.1::As):=(J.bN R2).aL 4 [1,2,3,0];have al:ii q.1<=2^20:=by have:=Ys m.p j.seed j.W t;rw[R];omega
 have ao:St B h0 (EA (bR 1 ak) r q.1::As) λh=>dh h y m/\Rd h o 1 ak live/\Rd h r 1 ak q.1/\tR h O m.p j.seed j.M:=λBs h' H'=>by
  obtain⟨z1,z2,z3⟩:=hS.cons Bs h' H';rw[es,eM];exact⟨z1,z2,(St.dN (A:=EA (bR 1 ak) r q.1) (Q:=λh=>Rd h r 1 ak q.1) 0 i0 λh' R=>R) Bs h' H',z3⟩
 refine(Yq y o r live q.1 t most (k+ii j.got) j hm hp hl i (by have:=I.gl;omega) I al ao H5).mono ?_;rintro _ h6 ⟨rfl,u⟩;obtain⟨g1,g2,g3⟩:=Pr (set:=q.1) (w:=w1) (ds:=ds1) I i4;have U:∀k∈live,∃d,aU (gN m live q.1 w1 ds1 j).2.2.1 k=dB d:=λk hk=>GA (P:=λk=>k∈live) (jK J).1 i k hk;obtain⟨Q,hQ⟩:∃Q,Q=gN m live q.1 w1 ds1 j:=⟨_,rfl⟩
 rw[<-hQ]at u g1 g2 g3 U g⊢;have u:=u.aL 4 [0,1,2];refine⟨_,i0,bx (λN=>?_) λN=>?_⟩
 ·rw[f9 N]at g;rw[g];refine⟨i0,?_⟩;rw[g0 N]at u;rw[g3 N]at u⊢;exact u
 ·rw[g0 λh=>h N]at g;rw[f9 N]at u;obtain⟨s,hs,eg⟩:=g2 N;have V:ii Q.2.2.2.got=ii j.got+1:=by rw[eg];simp[li.BR]
  refine⟨(f',Q.2.1,Q.2.2.1,Q.2.2.2),i0,⟨?_,?_,g,g1,?_,?_,U,?_⟩,i6⟩
  ·(try dsimp only);omega
  ·(try dsimp only);omega
  ·(try dsimp only);rw[eg];exact es
  ·(try dsimp only);rw[eg];exact eM
  ·try dsimp only
   rw[V,Int.natCast_add,<-Int.add_assoc];exact u
end
noncomputable def gO(m:aA)(live:aB)(ds:aF)(o:Int)(tries:aB)(i:Nat):Int×li:=
 let seed:=iG o i (tries.getD i 0);let r:=oX m.p seed (iU m ds live o i)
 if r.2≠0 then(11,⟨o,i,seed,[],[],[]⟩)else if iY m.p seed r.1.length≠0 then(11,⟨o,i,seed,[],[],[]⟩)else(0,⟨o,i,seed,gP m.p seed r.1,fz m ds o i (bu ds m.drives),[]⟩)
theorem Yt{p:Pm}{seed:Int}{l:Nat}(h:iY p seed l=0):bS p=eH/\md p seed (gD p)=eH/\(l:Int)=p.1*p.2.2:=by
 unfold iY at h;split at h
 ·rename_i a;rw[qw,decide_eq_true_eq]at a;split at h
  ·rename_i b;exact⟨a.1,b,a.2⟩
  ·cases h
 ·cases h
theorem IJ{m:aA}{ds:aF}{o b k:Int}(a:∀k d,aU ds k=dB d->ii d.l<=512):ii (nr m ds o b k)<=512:=by
 unfold nr;cases hd:aU ds k with
 |none=>exact zb _
 |some d=>exact q9 (HZ m o b d.l) (a k d hd)
theorem Yu{m:aA}{ds:aF}{o b:Int}{live:aB}(e:ii live<=64)(a:∀k d,aU ds k=dB d->ii d.l<=512):ii (iU m ds live o b)<=64*512:=by unfold iU;exact q9 (JD (c:=512) λj _=>IJ a) (Nat.mul_le_mul_right _ e)
theorem Yv{m:aA}{ds:aF}{o b k:Int}{x:Int×aP}(h:x∈nr m ds o b k):0<=x.1/\x.1<=65535:=by obtain⟨d,r,_,e,_,_,rfl⟩:=Ur h;obtain⟨_,_,_,c⟩:=BG e;have a:=(Up.1 c).1;unfold jR at a;rw[qw,qw,qw]at a;have:=a.1.2.2;unfold ct at this;rw[qw,decide_eq_true_eq,decide_eq_true_eq]at this;exact this
theorem Lh{m:aA}{ds:aF}{o b:Int}{live l:aB}(h:l∈fz m ds o b live):∃k∈live,l=(nr m ds o b k).map Prod.fst:=by unfold fz at h;obtain⟨k,a,rfl⟩:=qx.1 h;refine⟨k,a,?_⟩;unfold iU;rw[zj,List.flatMap_nil,qF]
theorem Ps{m:aA}{live:aB}{ds:aF}{o:Int}{tries:aB}{i:Nat}(f:∀k d,aU ds k=dB d->ii d.l<=512)(u:ii (bu ds m.drives)=ii live)(h:(gO m live ds o tries i).1=0):rx m live (gO m live ds o tries i).2/\(gO m live ds o tries i).2.got=[]:=by
 unfold gO at h⊢;dsimp only at h⊢;obtain⟨r,D⟩:∃r,r=oX m.p (iG o i (tries.getD i 0)) (iU m ds live o i):=⟨_,rfl⟩
 rw[<-D]at h⊢;by_cases j:r.2≠0
 ·rw[f9 j]at h;cases h
 rw[g0 j]at h⊢;by_cases g:iY m.p (iG o i (tries.getD i 0)) r.1.length≠0
 ·rw[f9 g]at h;cases h
 rw[g0 g]at h⊢;obtain⟨a,b,c⟩:=Yt l9;obtain⟨K,H,w,n,B⟩:=Tn a b c;have t:m.p.2.2.toNat=w:=B.size;have y:(bX m.p).toNat=n:=by have:=B.k;have:=B.h;have:=B.n;rw[bX,f9 a];omega
 refine⟨⟨Fp _ _ _,by rw[t];exact B.Ao.2,by rw[y];exact B.Ao.1,by show(fz _ _ _ _ _).length=_;unfold fz;rw[qu];exact u,λl e=>?_,?_,zb _,λs A=>by cases A⟩,i0⟩
 ·obtain⟨k,_,rfl⟩:=Lh e;rw[qu];have:=IJ (m:=m) (ds:=ds) (o:=o) (b:=i) (k:=k) f;omega
 ·refine q9 (Pq (n:=65535) λl e x q=>?_) (by show(65535:Nat)<=2^20+0;decide);obtain⟨k,_,rfl⟩:=Lh e;obtain⟨z,v,rfl⟩:=qx.1 q;have:=Yv v;omega
def um(a:eX)(p:Pm)(seed:Int)(M:aI):HP:=HP.ex λm:Sl=>(ac a 225 (Aa p seed m)).sep (fH 58 m 1 aw M)
section
variable {pw:eX}
theorem afV{a:eX}{p:Pm}{seed:Int}{M:aI}:St B h0 (um a p seed M::As) λh=>tR h a p seed M:=λBs h' c=>by
 have d:=c.cons Bs.length (A:=um a p seed M) (by rw[qh (qm _),Nat.sub_self];rfl);obtain⟨q,e⟩:=d.oz;have b:=e.lK;exact⟨q,b.box 1 i0,b.CF 0 i0⟩
theorem Va{c:eX}(y:bo)(f:Sl)(live:aB)(t most k:Int)(x:dD)(e:Qw.dm)(i:Nat)(hm:bs m=eH)(hl:live.length<=64)(N:∀k∈live,∃d,aU ds k=dB d)(hi:i<e.tries.length)(br:e.tries.length<=2^20)
  (hS:St B h0 As λh=>dh h y m/\Rd h f 1 ak live/\dM ff h x e)
  (H:aa B h0 h (bj a pw da offs w ds m::ac c 84 (cT a y f t most k)::As)):
  an xQ 93 #[xI (dB c),xL (bh x).toArray,xG xM i] h λv h'=>
   ((gO m live ds e.object e.tries i).1≠0->v=.tuple #[xI ez,xG xM (gO m live ds e.object e.tries i).1]/\aa B h0 h' (bj a pw da offs w ds m::ac c 84 (cT a y f t most k)::As))/\
   ((gO m live ds e.object e.tries i).1=0->∃b cd:eX,v=.tuple #[xI (dB b),xG xM 0]/\aa B h0 h' (bj a pw da offs w ds m::ac c 84 (cT a y f t most k)::pc b cd (gO m live ds e.object e.tries i).2::um cd m.p (gO m live ds e.object e.tries i).2.seed (gO m live ds e.object e.tries i).2.M::As)):=by
 have hz:=il hm;have a7:=(jK H).2;have P:∀k d,aU ds k=dB d->d.l.length<=512:=λk d hd=>by have:=a7 k d hd;omega
 obtain⟨seed,ab⟩:∃seed,seed=iG e.object i (e.tries.getD i 0):=⟨_,rfl⟩
 obtain⟨r,hr⟩:∃r,r=oX m.p seed (iU m ds live e.object i):=⟨_,rfl⟩
 have eP:gO m live ds e.object e.tries i=(if r.2≠0 then(11,⟨e.object,i,seed,[],[],[]⟩)else if iY m.p seed r.1.length≠0 then(11,⟨e.object,i,seed,[],[],[]⟩)else(0,⟨e.object,i,seed,gP m.p seed r.1,fz m ds e.object i (bu ds m.drives),[]⟩)):=by rw[hr,ab];rfl
 refine ts Tryz.func93 ?_ (.two .n (.two (.join [(8,Nv)] [(8,9),(11,25)] .n) (.two (.join [(9,cK),(10,aS)] [(9,11),(25,55)] .n) (.two .n (.two (.join [] [(6,8),(10,11),(57,76)] (.two (.join [(10,aS)] [(10,11),(57,74)] .n) .n)) (.two (.join [] [(76,87)] .n) .n)))))) (args:=[(dB c),x,(i:Int)]);refine H.boxed λj h1 W=>?_;have W:aa B h0 h1 (ac j 88 (bh x)::bj a pw da offs w ds m::ac c 84 (cT a y f t most k)::As):=W.be;obtain⟨hy,bk,hx⟩:=(hS.cons.cons.cons).here W;have g:=W.box 0 i0;obtain⟨⟨x1,x2,x3⟩,x4⟩:=id hx;have bl:=x4.len;have no:∀{h':f8} {Cs:List HP},aa B h0 h' (ac j 88 (bh x)::bj a pw da offs w ds m::ac c 84 (cT a y f t most k)::As)->(gO m live ds e.object e.tries i).1=11->
   ((gO m live ds e.object e.tries i).1≠0->Value.tuple #[xI ez,xG xM 11]=.tuple #[xI ez,xG xM (gO m live ds e.object e.tries i).1]/\aa B h0 h' (bj a pw da offs w ds m::ac c 84 (cT a y f t most k)::As))/\
   ((gO m live ds e.object e.tries i).1=0->∃b cd:eX,Value.tuple #[xI ez,xG xM 11]=.tuple #[xI (dB b),xG xM 0]/\aa B h0 h' (bj a pw da offs w ds m::ac c 84 (cT a y f t most k)::pc b cd (gO m live ds e.object e.tries i).2::um cd m.p (gO m live ds e.object e.tries i).2.seed (gO m live ds e.object e.tries i).2.M::As)):=λ{h' Cs} H' he=>by
  rw[he];exact⟨λ_=>⟨i0,H'.rest⟩,λh=>absurd h i5⟩
 have L:∀{h':f8},dh h' y m->bW h' c 84 (cT a y f t most k)->bp h' ((c.add 1).add 2) 0 [xG xM m.p.1,xG xM m.p.2.1,xG xM m.p.2.2]:=λ{h'} hy hc=>by
  have a2:y.2.2.1=m.p.1:=congrArg (·.1) hy.p;have a3:y.2.2.2.1=m.p.2.1:=congrArg (·.2.1) hy.p;have ax:y.2.2.2.2.1=m.p.2.2:=congrArg (·.2.2) hy.p;rw[addr_add,<-a2,<-a3,<-ax];exact hc.cells 3 _ i0
 obtain⟨s,K⟩:∃s:li,s=⟨e.object,i,seed,[],[],[]⟩:=⟨_,rfl⟩
 refine bG (λ(z:bZ) h'=>∃b:eX,z=dB b/\aa B h0 h' (ac b 155 (gh s ez ⟨ez,0,0⟩ ⟨ez,0,0⟩)::ac j 88 (bh x)::bj a pw da offs w ds m::ac c 84 (cT a y f t most k)::As)) ?_ ?_
 ·refine⟨x.2.1,g.cell i0,x.2.1,g.cell i0,x.2.2.2,g.cell i0,?_⟩;refine x4.bt i i0 hi e.tries[i] i0 ?_;refine(sw x.2.1 i e.tries[i] h1).mono ?_;rintro _ _ ⟨rfl,rfl⟩;refine⟨_,i0,⟨g.cell i0,g.cell i0,trivial⟩,?_⟩;refine W.boxed λa8 h3 T=>?_;have T:=T.be;refine⟨⟨(T.box 1 i0).cell i0,(T.box 1 i0).cell i0,trivial⟩,a8,i0,?_⟩;have es:iG x.2.1 i e.tries[i]=seed:=by rw[ab,x2,hJ 0 hi]
  rw[es,x2]at T;rw[K];exact T
 rintro _ h4 ⟨b,rfl,U⟩;have ar:=U.box 0 i0;have I:=U.box 3 i0;have ay:=U.box 1 i0;obtain⟨Y,V,bb⟩:=(hS.cons.cons.cons.cons).here U;have S:s.seed=seed:=by rw[K]
 have b1:s.o=e.object:=by rw[K]
 refine bG (λ(z:Sl×Int) h'=>z.2=r.2/\aa B h0 h' (ae 5 z.1 1 aw r.1::ac b 155 (gh s ez ⟨ez,0,0⟩ ⟨ez,0,0⟩)::ac j 88 (bh x)::bj a pw da offs w ds m::ac c 84 (cT a y f t most k)::As)) ?_ ?_
 ·refine⟨c,i0,m.p,L Y I,b,i0,seed,by rw[<-S];exact ar.cell i0,c,i0,dB a,I.cell0 i0,c,i0,f,I.cell i0,c,i0,y,I.cells 1 _ i0,x.2.1,ay.cell i0,?_⟩;rw[x2];refine(Rb y f live e.object i Y hz V i4 N (U.aL 3 [2])).mono ?_;rintro _ h5 ⟨J,ss,rfl,R5⟩;have Z:=U.up R5.af;have R:Fix jg 2 piv h5 (λb=>b<h5.size) J ss (iU m ds live e.object i):=R5.at 0 i0;have a6:dM Ir h5 J (iU m ds live e.object i):=⟨ss,R.1,R.2.1,R.2.2⟩
  have bq:=Yu (m:=m) (o:=e.object) (b:=i) hl P;obtain⟨a5,_,_⟩:=(hS.cons.cons.cons.cons).here Z;have q5:=L a5 (Z.box 3 i0);refine⟨J,i0,⟨(Z.box 3 i0).cell0 i0,by rw[<-S];exact(Z.box 0 i0).cell i0,q5.1,q5.2.1,q5.2.2.1,trivial⟩,?_⟩;refine(Uo m.p seed J _ h5 a6 i4).mono ?_;rintro _ h6 ⟨ad,rfl,R6⟩;rw[<-hr]at R6⊢;have H6:=Z.bN R6;refine⟨(ad,r.2),i0,⟨(H6.box 4 i0).cell0 i0,trivial⟩,i0,?_⟩;exact H6
 rintro⟨z,_⟩ h7 ⟨rfl,A⟩;dsimp only at A⊢;refine bx (λe1=>?_) λe1=>?_
 ·exact no (Cs:=[]) A.rest.rest (by rw[eP,f9 e1])
 have a0:=A.own 0 i0;refine bG (λ(_:Unit) h'=>iY m.p seed r.1.length=0/\∃cd:eX,aa B h0 h' (ac b 155 (gh s (dB cd) ⟨ez,0,0⟩ ⟨ez,0,0⟩)::um cd m.p seed (gP m.p seed r.1)::ac j 88 (bh x)::bj a pw da offs w ds m::ac c 84 (cT a y f t most k)::As)) ?_ ?_
 ·refine bG (λ(z:Int) h'=>(z≠0->iY m.p seed r.1.length≠0/\aa B h0 h' (ac j 88 (bh x)::bj a pw da offs w ds m::ac c 84 (cT a y f t most k)::As))/\(z=0->iY m.p seed r.1.length=0/\∃cd:eX,aa B h0 h' (ac b 155 (gh s (dB cd) ⟨ez,0,0⟩ ⟨ez,0,0⟩)::um cd m.p seed (gP m.p seed r.1)::ac j 88 (bh x)::bj a pw da offs w ds m::ac c 84 (cT a y f t most k)::As))) ?_ ?_
  ·obtain⟨a9,_,_⟩:=(hS.cons.cons.cons.cons.cons).here A;refine⟨c,i0,m.p,L a9 (A.box 4 i0),b,i0,seed,by rw[<-S];exact(A.box 1 i0).cell i0,?_⟩;refine(NU m.p seed z r.1 h7 (A.seq 0 i0 λ_=>rfl) a0.cap).mono ?_;rintro _ h8 ⟨n1,n2⟩;by_cases E:iY m.p seed r.1.length=0
   ·obtain⟨cd,mm,rfl,R8⟩:=n1 E;have H8:=(A.comp R8).front;refine⟨(dB cd,0),i0,trivial,b,i0,?_⟩;refine H8.storeAt aj 3 i0 i0 i0 i0 i0 (show 3<6 by decide) λX G=>⟨trivial,?_⟩
    have G:aa B h0 X (fH 58 mm 1 aw (gP m.p seed r.1)::ac cd 225 (Aa m.p seed mm)::ae 5 z 1 aw r.1::ac b 155 (gh s (dB cd) ⟨ez,0,0⟩ ⟨ez,0,0⟩)::ac j 88 (bh x)::bj a pw da offs w ds m::ac c 84 (cT a y f t most k)::As):=G;have am:aa B h0 X (um cd m.p seed (gP m.p seed r.1)::ae 5 z 1 aw r.1::ac b 155 (gh s (dB cd) ⟨ez,0,0⟩ ⟨ez,0,0⟩)::ac j 88 (bh x)::bj a pw da offs w ds m::ac c 84 (cT a y f t most k)::As):=
     aa.sX (F:=λq:Sl=>(ac cd 225 (Aa m.p seed q)).sep (fH 58 q 1 aw (gP m.p seed r.1))) mm G.iQ
    exact⟨λh=>absurd i0 h,λ_=>⟨E,cd,am.aL 3 [2,0]⟩⟩
   ·obtain⟨rfl,R8⟩:=n2 E;have H8:=A.up R8.af;refine⟨(ez,iY m.p seed r.1.length),i0,trivial,b,i0,?_⟩;refine H8.storeAt aj 1 i0 i0 i0 i0 i0 (show 3<6 by decide) λX G=>⟨trivial,?_⟩
    have G:aa B h0 X (ae 5 z 1 aw r.1::ac b 155 (gh s ez ⟨ez,0,0⟩ ⟨ez,0,0⟩)::ac j 88 (bh x)::bj a pw da offs w ds m::ac c 84 (cT a y f t most k)::As):=G;exact⟨λ_=>⟨E,G.rest.rest⟩,λh=>absurd h E⟩
  ·rintro z X ⟨n1,n2⟩;refine bx (λe2=>?_) λe2=>n2 e2;obtain⟨E,G⟩:=n1 e2;exact no (Cs:=[]) G (by rw[eP,g0 λh=>h e1,f9 E])
 rintro _ b0 ⟨E,cd,D⟩;have ap:gO m live ds e.object e.tries i=(0,⟨e.object,i,seed,gP m.p seed r.1,fz m ds e.object i (bu ds m.drives),[]⟩):=by rw[eP,g0 λh=>h e1,g0 λh=>h E]
 rw[ap]
 try dsimp only
 refine bG (λ(_:Unit) h'=>aa B h0 h' (bj a pw da offs w ds m::ac c 84 (cT a y f t most k)::pc b cd ⟨e.object,i,seed,gP m.p seed r.1,fz m ds e.object i (bu ds m.drives),[]⟩::um cd m.p seed (gP m.p seed r.1)::As)) ?_ ?_
 ·refine⟨c,i0,dB a,(D.box 4 i0).cell0 i0,x.2.1,(D.box 2 i0).cell i0,?_⟩;rw[x2];refine(XD e.object i hm (D.aL 4 [3])).mono ?_;rintro _ b2 ⟨Q,rfl,a4⟩;have ah:=D.bN a4;refine⟨Q,i0,trivial,b,i0,?_⟩;refine ah.storeAt aj 1 i0 i0 i0 i0 i0 (show 4<6 by decide) λao u=>⟨trivial,?_⟩
  have u:aa B h0 ao (dc 22 Q 3 1 ak (fz m ds e.object i (bu ds m.drives))::ac b 155 (gh ⟨e.object,i,seed,gP m.p seed r.1,fz m ds e.object i (bu ds m.drives),[]⟩ (dB cd) Q ⟨ez,0,0⟩)::um cd m.p seed (gP m.p seed r.1)::ac j 88 (bh x)::bj a pw da offs w ds m::ac c 84 (cT a y f t most k)::As):=by rw[K]at u;exact u
  have O:=(u.nil 3 1 ak).be;have al:=ul (x:=⟨e.object,i,seed,gP m.p seed r.1,fz m ds e.object i (bu ds m.drives),[]⟩) O;exact al.aL 5 [3,4,0,1]
 ·rintro _ bd O;exact⟨λh=>absurd i0 h,λ_=>⟨b,cd,i0,O⟩⟩
end
theorem Ri(w:Pow)(d:aY)(b:aP):(d.append w b).2.2.lost=d.lost:=by unfold aY.append;(repeat' split)<;>rfl
theorem El(w:Pow)(d:aY)(l:bO):(d.rewrite w l).2.2.lost=d.lost:=by unfold aY.rewrite;(repeat' split)<;>rfl
theorem Yw(w:Pow)(d:aY):(d.sync w).2.2.lost=d.lost:=by unfold aY.sync;(repeat' split)<;>rfl
theorem IK(m:aA)(w:Pow)(d:aY)(n:Int):(fb m w d n).2.2.lost=d.lost:=by
 unfold fb;split
 ·rfl
 ·split
  ·rfl
  ·split
   ·rfl
   ·exact El _ _ _
structure iw (ds ds':aF):Prop where
 len:ii ds'=ii ds
 at_:∀k,(aU ds' k).map aY.lost=(aU ds k).map aY.lost
theorem iw.refl(ds:aF):iw ds ds:=⟨i0,λ_=>rfl⟩
theorem iw.trans{a b c:aF}(e:iw a b)(d:iw b c):iw a c:=⟨d.len.trans e.len,λk=>(d.at_ k).trans (e.at_ k)⟩
theorem iw.set{ds:aF}{k:Int}{d e:aY}(a:ii ds=64)(b:aU ds k=dB d)(c:e.lost=d.lost):iw ds (bM ds k e):=⟨uc _ _ _,λs=>by
 rw[jJ a b];split
 ·rename_i h;subst h;rw[b];simp[c]
 ·rfl⟩
theorem iw.live{ds a:aF}(h:iw ds a)(l:aB):bu a l=bu ds l:=by unfold bu;refine List.filter_congr λx _=>?_;unfold isLive;have:=h.at_ x;cases h1:aU a x<;>cases h2:aU ds x<;>rw[h1,h2]at this<;>first|rfl|cases this|(injection this with this;simp only[this])
theorem Rj{m:aA}{c:aP}{w:Pow}{ds:aF}{s:Int}{d:aY}(a:ii ds=64)(b:aU ds s=dB d):iw ds (lS m c w ds s d).2.2:=by
 unfold lS
 try dsimp only
 split
 ·exact .set a b (IK _ _ _ _)
 ·rw[sE];exact .set a b ((Ri _ _ _).trans (IK _ _ _ _))
theorem BU{m:aA}{live set a:aB}{c:aP}{id:Nat}{w:Pow}{ds:aF}(b:ii ds=64):∀{l:List Nat},iw ds (iV m live set a c id w ds l).1.2.2
 |[]=>.refl _
 |i::l=>by
  unfold iV
  try dsimp only
  cases hd:aU ds (jI a ((id:Int)+i))with
  |none=>exact BU b
  |some d=>
   try dsimp only
   split
   ·exact BU b
   ·exact Rj b hd
theorem Yx{m:aA}{live set:aB}{w:Pow}{ds:aF}{x:li}(a:ii ds=64):iw ds (gN m live set w ds x).2.2.1:=BU a
theorem IL{m:aA}{live:aB}{t most:Int}:∀{f:Nat} {w:Pow} {ds:aF} {x:li},ii ds=64->iw ds (gv m live t most f w ds x).2.2.1
 |0,_,_,_,_=>.refl _
 |f+1,w,ds,x,h64=>by
  unfold gv
  try dsimp only
  split
  ·exact .refl _
  ·split
   ·exact .refl _
   ·split
    ·exact .refl _
    ·have a:=Yx (m:=m) (live:=live) (set:=(gK m.p x.seed x.W t).1) (w:=w) (x:=x) h64;split
     ·exact a
     ·exact a.trans (IL (a.len.trans h64))
theorem Em{m:aA}{live:aB}{t most:Int}(j:most<=64):∀{f:Nat} {w:Pow} {ds:aF} {x:li},rx m live x->rx m live (gv m live t most f w ds x).2.2.2/\(gv m live t most f w ds x).2.2.2.seed=x.seed/\(gv m live t most f w ds x).2.2.2.M=x.M
 |0,_,_,_,F=>⟨F,i0,i0⟩
 |f+1,w,ds,x,F=>by
  unfold gv
  try dsimp only
  split
  ·exact⟨F,i0,i0⟩
  ·split
   ·exact⟨F,i0,i0⟩
   ·split
    ·exact⟨F,i0,i0⟩
    ·rename_i k;obtain⟨g,i,h3⟩:=Pr (set:=(gK m.p x.seed x.W t).1) (w:=w) (ds:=ds) F i4;have d:(gN m live (gK m.p x.seed x.W t).1 w ds x).2.2.2.seed=x.seed/\(gN m live (gK m.p x.seed x.W t).1 w ds x).2.2.2.M=x.M:=by
      by_cases h:(gN m live (gK m.p x.seed x.W t).1 w ds x).1=0
      ·obtain⟨s,_,e⟩:=i h;rw[e];exact⟨i0,i0⟩
      ·rw[h3 h];exact⟨i0,i0⟩
     split
     ·exact⟨g,d⟩
     ·obtain⟨a,b,c⟩:=Em j (f:=f) (w:=(gN m live (gK m.p x.seed x.W t).1 w ds x).2.1) (ds:=(gN m live (gK m.p x.seed x.W t).1 w ds x).2.2.1) g;exact⟨a,b.trans d.1,c.trans d.2⟩
theorem IM:∀{l:aB} {w:Pow} {ds:aF},ii ds=64->iw ds (fN l w ds).2.2
 |[],_,_,_=>.refl _
 |x::l,w,ds,h64=>by
  have a:iw ds (fK w ds x).2.2:=by
   unfold fK;cases hd:aU ds x with
   |none=>exact .refl _
   |some d=>exact .set h64 hd (Yw _ _)
  rw[oB];split
  ·exact a.trans (IM (a.len.trans h64))
  ·exact a
theorem sF{m:aA}:∀{l:aB} {w:Pow} {ds:aF},ii ds=64->iw ds (dS m l w ds).2.2
 |[],_,_,_=>.refl _
 |k::l,w,ds,h64=>by
  unfold dS;cases hd:aU ds k with
  |none=>exact sF h64
  |some d=>
   try dsimp only
   split
   ·exact sF h64
   ·have a:iw ds (bM ds k (d.rewrite w (bH m d.l)).2.2):=.set h64 hd (El _ _ _);split
    ·exact a.trans (sF (a.len.trans h64))
    ·exact a
noncomputable def go(m:aA)(live:aB)(t most:Int)(w:Pow)(ds:aF)(e:dm)(i:Nat):Int×Pow×aF×Nat:=
 let p:=gO m live ds e.object e.tries i
 if p.1≠0 then(p.1,w,ds,0)else
  let q:=gv m live t most 65 w ds p.2
  if q.1=14 then(14,q.2.1,q.2.2.1,q.2.2.2.got.length)else
   let z:=fN (dw q.2.2.2.got) q.2.1 q.2.2.1
   (if z.1≠0 then z.1 else q.1,z.2.1,z.2.2,q.2.2.2.got.length)
theorem Rl{m:aA}{live:aB}{t most:Int}{w:Pow}{ds:aF}{e:dm}{i:Nat}(a:ds.length=64):iw ds (go m live t most w ds e i).2.2.1:=by
 unfold go
 try dsimp only
 split
 ·exact .refl _
 ·have b:=IL (m:=m) (live:=live) (t:=t) (most:=most) (f:=65) (w:=w) (x:=(gO m live ds e.object e.tries i).2) a;split
  ·exact b
  ·exact b.trans (IM (b.len.trans a))
theorem Vb{m:aA}{live:aB}{t most:Int}{w:Pow}{ds:aF}{e:dm}{i:Nat}(c:most<=64)(a:∀k d,aU ds k=dB d->ii d.l<=512)(b:ii (bu ds m.drives)=ii live):(go m live t most w ds e i).2.2.2<=64:=by
 unfold go
 try dsimp only
 split
 ·exact zb _
 ·rename_i h;have F:=(Ps a b j7).1;have:=(Em (t:=t) (most:=most) c (f:=65) (w:=w) (ds:=ds) F).1.gl;split<;>exact this
noncomputable def kI(m:aA)(live:aB)(t most:Int)(e:dm):List Nat->Pow->aF->Nat->Int×Pow×aF×Nat
 |[],w,ds,k=>(0,w,ds,k)
 |i::l,w,ds,k=>
  let q:=go m live t most w ds e i
  if q.1≠0 then(q.1,q.2.1,q.2.2.1,k+q.2.2.2)else kI m live t most e l q.2.1 q.2.2.1 (k+q.2.2.2)
noncomputable def ry(m:aA)(live:aB)(t most:Int):List dm->Pow->aF->Nat->Int×Pow×aF×Nat
 |[],w,ds,k=>(0,w,ds,k)
 |e::l,w,ds,k=>
  let q:=kI m live t most e (qz e.tries.length) w ds k
  if q.1≠0 then q else ry m live t most l q.2.1 q.2.2.1 q.2.2.2
noncomputable def mL(m:aA)(offs:Int)(w:Pow)(ds:aF)(t most:Int):Nat×Int×Pow×aF:=
 if fT w offs then(0,14,w,ds)else if t<0∨t>=(ii (bu ds m.drives):Int)∨most<0∨most>64 then(0,1,w,ds)else if lN (ii (bu ds m.drives):Int) t>4096 then(0,13,w,ds)else
 let c:=dS m (bu ds m.drives) w ds
 if c.1≠0 then(0,c.1,c.2.1,c.2.2)else
  let q:=ry m (bu ds m.drives) t most m.objs c.2.1 c.2.2 0
  (q.2.2.2,q.1,q.2.1,q.2.2.1)
section
variable {pw:eX}
theorem Rm{c:eX}(y:bo)(u:Sl)(live:aB)(t most:Int)(k:Nat)(x:dD)(e:Qw.dm)(i:Nat)(I:bs m=eH)(r:live=bu ds m.drives)(hk:k<=2^30)(n:0<=most/\most<=64)(hi:i<e.tries.length)(T:e.tries.length<=2^20)
  (hS:St B h0 As λh=>dh h y m/\Rd h u 1 ak live/\dM ff h x e)
  (H:aa B h0 h (bj a pw da offs w ds m::ac c 84 (cT a y u t most k)::As)):
  an xQ 41 #[xI (dB c),xL (bh x).toArray,xG xM i] h λv h'=>v=xG xM (go m live t most w ds e i).1/\
   aa B h0 h' (bj a pw da offs (go m live t most w ds e i).2.1 (go m live t most w ds e i).2.2.1 m::ac c 84 (cT a y u t most ((k+(go m live t most w ds e i).2.2.2:Nat):Int))::As):=by
 refine ts Tryz.func41 ?_ (args:=[(dB c),x,(i:Int)]);have hp:bS m.p=eH:=((fp m).1 ((cY m).1 I).1).2.2.1;have R:=im I;have Z:live.length<=64:=by rw[r];exact q9 (qR _ _) R
 have g:∀k∈live,∃d,aU ds k=dB d:=λk hk=>by obtain⟨_,d,X,_⟩:=mI (show k∈bu ds m.drives by rw[<-r];exact hk);exact⟨d,X⟩
 have O:=(jK H).2;have ad:=(jK H).1;have z:∀k d,aU ds k=dB d->d.l.length<=512:=λk d X=>by have:=O k d X;omega
 obtain⟨p,j⟩:∃p,p=gO m live ds e.object e.tries i:=⟨_,rfl⟩
 refine H.boxed λQ h1 J=>?_;have J:aa B h0 h1 (bj a pw da offs w ds m::ac c 84 (cT a y u t most k)::ac Q 88 (bh x)::As):=J.be.aL 3 [1,2,0];refine⟨x,(J.box 2 i0).aE _ i0,(Va y u live t most k x e i I Z g hi T hS.cons J).mono ?_⟩;rw[<-j];rintro _ h2 ⟨n1,n2⟩;by_cases E:p.1=0
 rotate_left
 ·obtain⟨rfl,P⟩:=n1 E;have eb:go m live t most w ds e i=(p.1,w,ds,0):=by unfold go;(try dsimp only);rw[<-j,f9 E]
  rw[eb];exact⟨(ez,p.1),i0,bx (λ_=>⟨i0,P.aL 3 [0,1]⟩) λh=>absurd h E⟩
 obtain⟨b,cd,rfl,P⟩:=n2 E;have F:=Ps (m:=m) (live:=live) (ds:=ds) (o:=e.object) (tries:=e.tries) (i:=i) z (by rw[r]) (by rw[<-j];exact E);rw[<-j]at F;obtain⟨q,D⟩:∃q,q=gv m live t most 65 w ds p.2:=⟨_,rfl⟩
 have eb:go m live t most w ds e i=(if q.1=14 then(14,q.2.1,q.2.2.1,q.2.2.2.got.length)else
   (if(fN (dw q.2.2.2.got) q.2.1 q.2.2.1).1≠0 then(fN (dw q.2.2.2.got) q.2.1 q.2.2.1).1 else q.1,(fN (dw q.2.2.2.got) q.2.1 q.2.2.1).2.1,(fN (dw q.2.2.2.got) q.2.1 q.2.2.1).2.2,q.2.2.2.got.length)):=by
  unfold go;(try dsimp only);rw[<-j,g0 λh=>h E,<-D]
 refine⟨(dB b,0),i0,bx (λh=>absurd i0 h) λ_=>?_⟩;have V:St B h0 (um cd m.p p.2.seed p.2.M::ac Q 88 (bh x)::As) λh=>dh h y m/\Rd h u 1 ak live/\tR h cd m.p p.2.seed p.2.M:=λBs h' Y=>by
  obtain⟨z1,z2,_⟩:=hS.cons.cons Bs h' Y;exact⟨z1,z2,afV Bs h' Y⟩
 refine(UZ y u live t most k p.2 I hp Z g i4 F.1 F.2 n V P).mono ?_;rw[<-D];rintro _ h3 ⟨rfl,H3⟩;refine⟨_,i0,cv (λK=>?_) λK=>?_⟩
 ·rw[eb,f9 K];exact⟨by rw[K],H3.aL 5 [0,1]⟩
 rw[eb,g0 K];have N:=(Em (m:=m) (live:=live) (t:=t) (most:=most) n.2 (f:=65) (w:=w) (ds:=ds) F.1).1;rw[<-D]at N;obtain⟨wS,gS,G⟩:=EW (H3.aL 3 [2,0,1]);have ab:=G.box 4 i0;have G:aa B h0 h3 (bj a pw da offs q.2.1 q.2.2.1 m::ac c 84 (cT a y u t most ((k:Int)+q.2.2.2.got.length))::ae 3 gS 1 ak q.2.2.2.got::ac b 155 (gh q.2.2.2 (dB cd) wS gS)::um cd m.p p.2.seed p.2.M::ac Q 88 (bh x)::As):=G.aL 5 [3,4,0,2];have S:∀s∈q.2.2.2.got,0<=s/\s<64:=λs L=>by
  have L:=N.gi s L;rw[r]at L;exact js I s (mI L).1
 refine⟨c,i0,dB a,(G.box 1 i0).cell0 i0,b,i0,gS,(G.box 3 i0).cell i0,?_⟩;refine(aaI gS q.2.2.2.got (St.dN (A:=ae 3 gS 1 ak q.2.2.2.got) 1 i0 λh' D=>D.1.seq (λ_=>rfl) D.2) (by have:=N.gl;omega) S G).mono ?_;rintro _ h5 ⟨rfl,U⟩;refine⟨_,i0,⟨(U.box 1 i0).cell0 i0,trivial⟩,bx (λW=>?_) λW=>?_⟩
 ·rw[f9 W];exact⟨i0,U.aL 6 [0,1]⟩
 ·rw[g0 λh=>h W];exact⟨i0,U.aL 6 [0,1]⟩
def En(y:bo)(m:aA)(i:Nat)(e:Qw.dm)(x:dD):HP:=
 ⟨λh q=>(aZ y m).p h q/\ff.p h q x e/\∃d,Qw.Seq h q y.2.2.2.2.2.2.2 4 bh d/\d[i]?=dB x,
  λa g=>⟨(aZ y m).loc a.1 g,ff.loc a.2.1 g,by obtain⟨d,b,c⟩:=a.2.2;exact⟨d,b.af g,c⟩⟩,
  λa f=>⟨(aZ y m).mono a.1 f,ff.mono a.2.1 f,by obtain⟨d,b,c⟩:=a.2.2;exact⟨d,b.mono f,c⟩⟩⟩
theorem afA{y:bo}{i:Nat}(d:i<ii m.objs)(H:aa B h0 h (aZ y m::As)):∃x,aa B h0 h (En y m i m.objs[i] x::As):=
 aa.oz (F:=λx=>En y m i m.objs[i] x) (H.dX 0 i0 λq b=>by
  have a:oP h q y m:=b;obtain⟨c,f,g,e⟩:=bv.jZ a.objs;exact⟨c[i]'(by omega),b,e i i4 d,c,f,qc i4⟩)
theorem afW{y:bo}{i:Nat}{e:Qw.dm}{x:dD}(H:aa B h0 h (En y m i e x::As)):aa B h0 h (aZ y m::As):=H.dX 0 i0 λq a=>a.1
theorem Vd(t most:Int)(N:bs m=eH)(ht:-(2^62)<=t/\t<=2^62)(H:aa B h0 h (bj a pw da offs w ds m::As)):
  an xQ 6 #[xI (dB a),xG xM t,xG xM most] h λv h'=>v=.tuple #[xG xM ((mL m offs w ds t most).1:Nat),xG xM (mL m offs w ds t most).2.1]/\aa B h0 h' (bj a pw da offs (mL m offs w ds t most).2.2.1 (mL m offs w ds t most).2.2.2 m::As):=by
 refine ts Tryz.func6 ?_ (.two .n (.two (.join [] [(6,8),(14,20)] .n) (.two .n (.two (.join [] [(6,8),(29,58)] (.inn (.two (.join [(29,rS)] [(29,49)] .n) .n))) (.two .n (.two (.two .n (.inn (.loop [(69,aS)] [(6,8),(11,14),(69,92)] (.two .n (.two .n (.two (.inn (.two .n (.two .n (.inn (.loop [(76,aS)] [(6,8),(12,14),(76,91)] .n))))) .n)))))) .n))))));have ao:=im N;have al:=(jK H).1;obtain⟨live,f⟩:∃live,live=bu ds m.drives:=⟨_,rfl⟩
 have ar:live.length<=64:=by rw[f];exact q9 (qR _ _) ao
 obtain⟨G,l⟩:∃G,G=mL m offs w ds t most:=⟨_,rfl⟩
 rw[<-l];unfold mL at l;rw[<-f]at l;refine aT (bf (λe=>j1) λ_=>(aar H).mono ?_);rintro _ h1 ⟨rfl,rfl⟩;refine⟨_,i0,bf (λe=>?_) λe1=>?_⟩
 ·rw[f9 e]at l;rw[l];exact⟨i0,H⟩
 rw[g0 n5]at l;refine(Gt N H).mono ?_;rintro _ h2 ⟨y,rfl,R2⟩;have H2:=H.bN R2;refine⟨y,i0,(pI N (H2.aL 2 [1,0])).mono ?_⟩;rintro _ h3 ⟨c,rfl,R3⟩;rw[<-f]at R3;have H3:=H2.bN R3;refine⟨c,i0,H3.boxed λa5 h5 T=>?_⟩;have T:aa B h0 h5 (bj a pw da offs w ds m::ac a5 84 (cT a y c t most 0)::ae 3 c 1 ak live::aZ y m::As):=(T.be).aL 4 [3,0,1,2];have ad:=(T.own 2 i0).len;have Z:=T.box 1 i0;refine aT (bG (λ(b:Bool) h'=>b=decide (t<0∨t>=(live.length:Int)∨most<0∨most>64)/\h'=h5) ?_ ?_)
 ·refine ag (λe=>⟨by rw[g9 (.inl e)],i0⟩) λea=>⟨a5,i0,c,Z.cell i0,ag (λe=>⟨by rw[g9 (.inr (.inl i4))],i0⟩) λeb=>ag (λe=>⟨by rw[g9 (.inr (.inr (.inl e)))],i0⟩) λec=>⟨?_,i0⟩⟩
  rw[decide_eq_decide];omega
 rintro b h6 ⟨rfl,rfl⟩;refine ag (λe=>by rw[f9 e]at l;rw[l];exact⟨i0,T.aL 4 [0]⟩) λe2=>?_;rw[g0 e2]at l;have D:0<=most/\most<=64:=i4
 refine⟨a5,i0,c,Z.cell i0,(AL ((c.len:Nat):Int) t h6 i4 ht).mono ?_⟩;rintro _ h7 ⟨rfl,rfl⟩;rw[ad];refine⟨_,i0,ag (λe=>by rw[f9 e]at l;rw[l];exact⟨i0,T.aL 4 [0]⟩) λe3=>?_⟩;rw[g0 e3]at l;dsimp only at l;have hS:St B h0 (ac a5 84 (cT a y c t most 0)::ae 3 c 1 ak live::aZ y m::As) λh=>bW h a5 84 (cT a y c t most 0)/\dh h y m/\Rd h c 1 ak live:=λBs h' J=>
  ⟨(St.dN (A:=ac a5 84 (cT a y c t most 0)) 0 i0 λ_ q=>q.1) Bs h' J,(St.dN (A:=aZ y m) 2 i0 λ_ q=>q) Bs h' J,(St.dN (A:=ae 3 c 1 ak live) (Q:=λh=>Rd h c 1 ak live) 1 i0 λh' q=>q.1.seq (λ_=>rfl) q.2) Bs h' J⟩
 refine(UP y c live t most 0 N ar (λk hk=>by obtain⟨_,d,W,_⟩:=mI (show k∈bu ds m.drives by rw[<-f];exact hk);exact⟨d,W⟩) hS T).mono ?_;rintro _ h8 ⟨rfl,Y⟩;obtain⟨P,ah⟩:∃P,P=dS m live w ds:=⟨_,rfl⟩
 have S:iw ds P.2.2:=by rw[ah];exact sF al
 rw[<-ah]at Y l⊢;refine⟨_,i0,bx (λe=>by rw[f9 e]at l;rw[l];exact⟨i0,Y.aL 4 [0]⟩) λe4=>?_⟩;rw[g0 λh=>h e4]at l;have a6:=Y.box 1 i0;have a3:dh h8 y m:=Y.at 3 i0;refine⟨a5,i0,y.2.2.2.2.2.2.2,by rw[addr_add];exact a6.cell i0,?_⟩;have bq:m.objs.length<=12:=((cY m).1 N).2.2.2.1;have bk:∀e∈m.objs,e.tries.length<=8:=λe he=>by
  have h1:=(jF m e).1 (((cY m).1 N).2.2.2.2.1 e he);have h2:=BJ h1.2.2.1.2;omega
 have b9:=bv.len a3.objs;have b5:St B h0 (ae 3 c 1 ak live::aZ y m::As) λh=>dh h y m/\Rd h c 1 ak live:=λBs h' J=>
  ⟨(St.dN (A:=aZ y m) 1 i0 λ_ q=>q) Bs h' J,(St.dN (A:=ae 3 c 1 ak live) (Q:=λh=>Rd h c 1 ak live) 0 i0 λh' q=>q.1.seq (λ_=>rfl) q.2) Bs h' J⟩
 refine aq (λz:Nat×Pow×aF×Nat=>(z.1:Int)) (λz h'=>z.1<=m.objs.length/\z.2.2.2<=z.1*512/\iw ds z.2.2.1/\ry m live t most m.objs P.2.1 P.2.2 0=ry m live t most (m.objs.drop z.1) z.2.1 z.2.2.1 z.2.2.2/\
  aa B h0 h' (bj a pw da offs z.2.1 z.2.2.1 m::ac a5 84 (cT a y c t most (z.2.2.2:Nat))::ae 3 c 1 ak live::aZ y m::As)) (λz=>m.objs.length-z.1) (0,P.2.1,P.2.2,0) i0 ⟨zb _,zb _,S,i0,Y⟩ ?_
 rintro⟨i,w1,ds1,k⟩ h9 ⟨hi,hk,ab,K,H9⟩;dsimp only at hi hk ab K H9⊢;refine ag (λe5=>?_) λe5=>?_
 rotate_left
 ·have a7:i=m.objs.length:=i4
  rw[a7,yp]at K;rw[K]at l;rw[l];exact⟨a5,i0,(k:Int),(H9.box 1 i0).cell i0,i0,H9.aL 4 [0]⟩
 have R:i<m.objs.length:=by have b4:(i:Int)<(y.2.2.2.2.2.2.2.len:Int):=e5;omega
 obtain⟨x,M⟩:=afA R (H9.aL 4 [3,0,1,2]);obtain⟨E,V⟩:∃E,E=m.objs[i]:=⟨_,rfl⟩
 rw[<-V]at M;obtain⟨b0,bl,ys,ap,a2⟩:=M.at 0 rfl;obtain⟨a4,a1⟩:=qj.1 a2;have b7:E.tries.length<=8:=bk E (by rw[V];exact qf R);refine ap.cX (g:=bh) i i0 a4 x (by rw[a1]) ?_;refine M.alloc aj i0 λU b6 O=>?_;have O:=O.be;refine O.storeAll aj 0 i0 i0 (bh x) i0 i0 i0 i0 λbb u=>?_;have u:aa B h0 bb (bj a pw da offs w1 ds1 m::ac a5 84 (cT a y c t most (k:Nat))::ac U 88 (bh x)::En y m i E x::ae 3 c 1 ak live::As):=u.aL 5 [2,3,0,1,4];have b3:=(u.at 3 i0).2.1.2.len;refine⟨x.2.2.2,(u.box 2 i0).cell i0,?_⟩;have a9:St B h0 (ac U 88 (bh x)::En y m i E x::ae 3 c 1 ak live::As) λh=>dh h y m/\Rd h c 1 ak live/\dM ff h x E:=λBs h' J=>by
  obtain⟨z1,z2,_⟩:=(St.dN (A:=En y m i E x) (Q:=λh=>(En y m i E x).p h λb=>b<h.size) 1 rfl λ_ q=>q) Bs h' J;exact⟨z1,(St.dN (A:=ae 3 c 1 ak live) (Q:=λh=>Rd h c 1 ak live) 2 i0 λh' q=>q.1.seq (λ_=>rfl) q.2) Bs h' J,z2⟩
 have e0:m.objs.drop i=E::m.objs.drop (i+1):=by rw[V];exact qJ R
 rw[e0,ry]at K;obtain⟨Q,hQ⟩:∃Q,Q=kI m live t most E (qz E.tries.length) w1 ds1 k:=⟨_,rfl⟩
 rw[<-hQ]at K;refine aq (λz:Nat×Pow×aF×Nat=>(z.1:Int)) (λz h'=>z.1<=E.tries.length/\z.2.2.2<=k+z.1*64/\iw ds z.2.2.1/\Q=kI m live t most E ((qz E.tries.length).drop z.1) z.2.1 z.2.2.1 z.2.2.2/\
  aa B h0 h' (bj a pw da offs z.2.1 z.2.2.1 m::ac a5 84 (cT a y c t most (z.2.2.2:Nat))::ac U 88 (bh x)::En y m i E x::ae 3 c 1 ak live::As)) (λz=>E.tries.length-z.1) (0,w1,ds1,k) i0 ⟨zb _,qm _,ab,hQ,u⟩ ?_
 rintro⟨j,w2,r,k2⟩ b2 ⟨hj,ay,F,o,s⟩;dsimp only at hj ay F o s⊢;have br:i<=12:=i4
 refine ag (λe6=>?_) λe6=>?_
 ·have bd:j<E.tries.length:=by have a0:(j:Int)<(x.2.2.2.len:Int):=e6;omega
  have W:(qz E.tries.length).drop j=j::(qz E.tries.length).drop (j+1):=by rw[qJ i7,vP]
  rw[W,kI]at o;have L:live=bu r m.drives:=by rw[F.live];exact f
  refine⟨x,(s.box 2 i0).aE _ i0,(Rm y c live t most k2 x E j N L i4 D bd i4 a9 s).mono ?_⟩;rintro _ b1 ⟨rfl,I⟩;have am:=Vb (m:=m) (live:=live) (t:=t) (most:=most) (w:=w2) (ds:=r) (e:=E) (i:=j) D.2 (λk d W=>by have:=(jK s).2 k d W;omega) (by rw[<-L]);have X:=Rl (m:=m) (live:=live) (t:=t) (most:=most) (w:=w2) (ds:=r) (e:=E) (i:=j) (F.len.trans al);obtain⟨b,hb⟩:∃b,b=go m live t most w2 r E j:=⟨_,rfl⟩
  rw[<-hb]at I o am X⊢;refine⟨_,i0,bx (λe7=>?_) λe7=>?_⟩
  ·rw[f9 e7]at o;rw[o,f9 e7]at K;rw[K]at l;rw[l];exact⟨a5,i0,((k2+b.2.2.2:Nat):Int),(I.box 1 i0).cell i0,i0,I.aL 5 [0]⟩
  ·rw[g0 λh=>h e7]at o;refine⟨(j+1,b.2.1,b.2.2.1,k2+b.2.2.2),jj,⟨i6,i6,F.trans X,o,I⟩,i6⟩
 ·have a8:j=E.tries.length:=by have a0:¬(j:Int)<(x.2.2.2.len:Int):=e6;omega
  rw[a8,zd i9,kI]at o;rw[o,g0 λh=>h rfl]at K;have ax:=(afW (s.aL 4 [3,0,1])).aL 3 [1,2,0];refine⟨(i+1,w2,r,k2),jj,⟨i6,i6,F,K,?_⟩,i6⟩;exact ax.aL 4 [0,1,3,2]
end
variable {m:aA} {ds ds':aF} {d e f:aY}
structure rV (m:aA) (d e:aY):Prop where
 lost:e.lost=d.lost
 room:e.room=d.room
 pg:∀c∈e.l,ck c≠ez->c∈d.l∨c∈aO m
 whole:(∀c∈aO m,c∈d.l)->∀c∈aO m,c∈e.l
theorem rV.same(b:e.lost=d.lost)(a:e.room=d.room)(h3:e.l=d.l):rV m d e:=⟨b,a,λc h _=>.inl (by rw[<-h3];exact h),λh c f=>by rw[h3];exact h c f⟩
theorem rV.trans(b:rV m d e)(a:rV m e f):rV m d f:=⟨a.lost.trans b.lost,a.room.trans b.room,λc h g=>by
 rcases a.pg c h g with h|h
 ·exact b.pg c h g
 ·exact .inr h,λh=>a.whole (b.whole h)⟩
def JR(m:aA)(d:aY):Prop:=fF d.l+2<=d.room∨∀c∈aO m,c∈d.l
theorem acj(m:aA)(d:aY):(d.rewrite Pow.new (bH m d.l)).2.1=Pow.new/\rV m d (d.rewrite Pow.new (bH m d.l)).2.2/\(JR m d->JR m (d.rewrite Pow.new (bH m d.l)).2.2)/\((d.rewrite Pow.new (bH m d.l)).1=0->∀c∈aO m,c∈(d.rewrite Pow.new (bH m d.l)).2.2.l):=by
 have a:∀{n:Int},n≠0->Pow.new=Pow.new/\rV m d d/\(JR m d->JR m d)/\(n=0->∀c∈aO m,c∈d.l):=λh=>⟨i0,.same i0 i0 i0,id,λe=>absurd e h⟩
 have b:∀c∈aO m,c∈bH m d.l:=λc f=>zS _ f;unfold aY.rewrite;split
 ·exact a (n:=1) i5
 ·split
  ·exact a (n:=5) i5
  ·split
   ·exact a (n:=7) i5
   ·split
    ·exact a (n:=14) i5
    ·rw[lp nP];refine⟨i0,⟨i0,i0,λc f g=>.inr ?_,λ_=>b⟩,λ_=>.inr b,λ_=>b⟩;rcases qy.1 f with h|h
     ·exact h
     ·obtain⟨r,_,rfl⟩:=qx.1 h;exact absurd (uX r) g
theorem afX(m:aA)(d:aY)(r:dG):(d.append Pow.new (dl r)).2.1=Pow.new/\rV m d (d.append Pow.new (dl r)).2.2:=by
 have a:Pow.new=Pow.new/\rV m d d:=⟨i0,.same i0 i0 i0⟩
 unfold aY.append;split
 ·exact a
 ·split
  ·exact a
  ·split
   ·exact a
   ·split
    ·exact a
    ·rw[lp nP];refine⟨i0,i0,i0,λc b e=>?_,λh c b=>zS _ (h c b)⟩;rcases qy.1 b with h|h
     ·exact .inl h
     ·rw[qp.1 h]at e;exact absurd (uX r) e
theorem ack(m:aA)(d:aY):(d.sync Pow.new).2.1=Pow.new/\rV m d (d.sync Pow.new).2.2:=by
 unfold aY.sync;split
 ·exact⟨i0,.same i0 i0 i0⟩
 ·rw[lp nP];exact⟨i0,.same i0 i0 i0⟩
theorem adA(m:aA)(d:aY)(n:Int):(fb m Pow.new d n).2.1=Pow.new/\rV m d (fb m Pow.new d n).2.2:=by
 have a:Pow.new=Pow.new/\rV m d d:=⟨i0,.same i0 i0 i0⟩
 unfold fb;split
 ·exact a
 ·split
  ·exact a
  ·split
   ·exact a
   ·have:=acj m d;exact⟨this.1,this.2.1⟩
structure ne (T:aY->aY->Prop) (ds ds':aF):Prop where
 len:ii ds'=ii ds
 at_:∀k d,aU ds k=dB d->∃e,aU ds' k=dB e/\T d e
 no:∀k,aU ds k=ez->aU ds' k=ez
variable {T:aY->aY->Prop}
theorem ne.refl(h:∀d,T d d)(ds:aF):ne T ds ds:=⟨i0,λ_ d a=>⟨d,a,h d⟩,λ_ h=>h⟩
theorem ne.trans(o:∀{d e f},T d e->T e f->T d f){a b c:aF}(i:ne T a b)(g:ne T b c):ne T a c:=⟨g.len.trans i.len,λk d n=>by
 obtain⟨e,l,j⟩:=i.at_ k d n;obtain⟨f,m,t2⟩:=g.at_ k e l;exact⟨f,m,o j t2⟩,λk h=>g.no k (i.no k h)⟩
theorem ne.set(g:∀d,T d d)(a:ii ds=64){k:Int}(f:aU ds k=dB d)(h:T d e):ne T ds (bM ds k e):=⟨uc _ _ _,λs x b=>by
 rw[jJ a f];split
 ·rename_i c;subst c;rw[f]at b;injection b with b;subst b
  exact⟨e,i0,h⟩
 ·exact⟨x,b,g x⟩,λs c=>by
 rw[jJ a f];split
 ·rename_i h;subst h;rw[f]at c;cases c
 ·exact c⟩
theorem ne.back(G:ne T ds ds'){k:Int}(b:aU ds' k=dB e):∃d,aU ds k=dB d/\T d e:=by
 cases hd:aU ds k with
 |none=>rw[G.no k hd]at b;cases b
 |some d=>
  obtain⟨x,a,h⟩:=G.at_ k d hd;rw[b]at a;injection a with a;subst a
  exact⟨d,i0,h⟩
abbrev Gr(m:aA):=ne (rV m)
theorem Gr.refl(ds:aF):Gr m ds ds:=ne.refl (λ_=>.same i0 i0 i0) ds
theorem Gr.tr{a b c:aF}(e:Gr m a b)(d:Gr m b c):Gr m a c:=ne.trans (λa b=>a.trans b) e d
theorem Gr.st(a:ii ds=64){k:Int}(b:aU ds k=dB d)(h:rV m d e):Gr m ds (bM ds k e):=ne.set (λ_=>.same i0 i0 i0) a b h
theorem GB{live set a:aB}{r:dG}{id:Nat}(b:ii ds=64):∀{l:List Nat},(iV m live set a (dl r) id Pow.new ds l).1.2.1=Pow.new/\Gr m ds (iV m live set a (dl r) id Pow.new ds l).1.2.2
 |[]=>⟨i0,.refl _⟩
 |i::l=>by
  unfold iV
  try dsimp only
  cases hd:aU ds (jI a ((id:Int)+i))with
  |none=>exact GB b
  |some d=>
   try dsimp only
   split
   ·exact GB b
   ·unfold lS;obtain⟨c,e⟩:=adA m d 1
    try dsimp only
    split
    ·exact⟨c,.st b hd e⟩
    ·rw[sE,c];obtain⟨g,f⟩:=afX m (fb m Pow.new d 1).2.2 r;exact⟨g,.st b hd (e.trans f)⟩
theorem Sk{live:aB}{t most:Int}:∀{f:Nat} {ds:aF} {x:li},ii ds=64->(gv m live t most f Pow.new ds x).2.1=Pow.new/\Gr m ds (gv m live t most f Pow.new ds x).2.2.1
 |0,_,_,_=>⟨i0,.refl _⟩
 |f+1,ds,x,h64=>by
  unfold gv
  try dsimp only
  split
  ·exact⟨i0,.refl _⟩
  ·split
   ·exact⟨i0,.refl _⟩
   ·split
    ·exact⟨i0,.refl _⟩
    ·obtain⟨b,a⟩:(gN m live (gK m.p x.seed x.W t).1 Pow.new ds x).2.1=Pow.new/\Gr m ds (gN m live (gK m.p x.seed x.W t).1 Pow.new ds x).2.2.1:=GB h64;split
     ·exact⟨b,a⟩
     ·rw[b];obtain⟨h3,c⟩:=Sk (live:=live) (t:=t) (most:=most) (f:=f) (x:=(gN m live (gK m.p x.seed x.W t).1 Pow.new ds x).2.2.2) (a.len.trans h64);exact⟨h3,a.tr c⟩
theorem Pt:∀{l:aB} {ds:aF},ii ds=64->(fN l Pow.new ds).2.1=Pow.new/\Gr m ds (fN l Pow.new ds).2.2
 |[],_,_=>⟨i0,.refl _⟩
 |x::l,ds,h64=>by
  have a:(fK Pow.new ds x).2.1=Pow.new/\Gr m ds (fK Pow.new ds x).2.2:=by
   unfold fK;cases hd:aU ds x with
   |none=>exact⟨i0,.refl _⟩
   |some d=>exact⟨(ack m d).1,.st h64 hd (ack m d).2⟩
  rw[oB];split
  ·rw[a.1];obtain⟨h3,b⟩:=Pt (l:=l) (a.2.len.trans h64);exact⟨h3,a.2.tr b⟩
  ·exact a
theorem aaP{live:aB}{t most:Int}{e:Qw.dm}{i:Nat}(a:ds.length=64):(go m live t most Pow.new ds e i).2.1=Pow.new/\Gr m ds (go m live t most Pow.new ds e i).2.2.1:=by
 unfold go
 try dsimp only
 split
 ·exact⟨i0,.refl _⟩
 ·obtain⟨c,b⟩:=Sk (m:=m) (live:=live) (t:=t) (most:=most) (f:=65) (x:=(gO m live ds e.object e.tries i).2) a;split
  ·exact⟨c,b⟩
  ·rw[c];obtain⟨h3,d⟩:=Pt (m:=m) (l:=dw (gv m live t most 65 Pow.new ds (gO m live ds e.object e.tries i).2).2.2.2.got) (b.len.trans a);exact⟨h3,b.tr d⟩
theorem Li{live:aB}{t most:Int}{e:Qw.dm}:∀{l:List Nat} {ds:aF} {k:Nat},ii ds=64->(kI m live t most e l Pow.new ds k).2.1=Pow.new/\Gr m ds (kI m live t most e l Pow.new ds k).2.2.1
 |[],_,_,_=>⟨i0,.refl _⟩
 |i::l,ds,k,h64=>by
  obtain⟨b,a⟩:=aaP (m:=m) (live:=live) (t:=t) (most:=most) (e:=e) (i:=i) h64;unfold kI
  try dsimp only
  split
  ·exact⟨b,a⟩
  ·rw[b];obtain⟨h3,c⟩:=Li (live:=live) (t:=t) (most:=most) (e:=e) (l:=l) (k:=k+(go m live t most Pow.new ds e i).2.2.2) (a.len.trans h64);exact⟨h3,a.tr c⟩
theorem Sm{live:aB}{t most:Int}:∀{l:List Qw.dm} {ds:aF} {k:Nat},ds.length=64->(ry m live t most l Pow.new ds k).2.1=Pow.new/\Gr m ds (ry m live t most l Pow.new ds k).2.2.1
 |[],_,_,_=>⟨i0,.refl _⟩
 |e::l,ds,k,h64=>by
  obtain⟨b,a⟩:=Li (m:=m) (live:=live) (t:=t) (most:=most) (e:=e) (l:=qz e.tries.length) (k:=k) h64;unfold ry
  try dsimp only
  split
  ·exact⟨b,a⟩
  ·rw[b];obtain⟨h3,c⟩:=Sm (live:=live) (t:=t) (most:=most) (l:=l) (k:=(kI m live t most e (qz e.tries.length) Pow.new ds k).2.2.2) (a.len.trans h64);exact⟨h3,a.tr c⟩
def Cq(m:aA)(d e:aY):Prop:=rV m d e/\(JR m d->JR m e)
theorem Cq.refl(d:aY):Cq m d d:=⟨.same i0 i0 i0,id⟩
theorem GC:∀{l:aB} {ds:aF},ii ds=64->(dS m l Pow.new ds).2.1=Pow.new/\ne (Cq m) ds (dS m l Pow.new ds).2.2/\((dS m l Pow.new ds).1=0->∀k∈l,∀e,aU (dS m l Pow.new ds).2.2 k=dB e->∀c∈aO m,c∈e.l)
 |[],ds,_=>⟨i0,.refl Cq.refl ds,λ_ k s=>by cases s⟩
 |k::l,ds,h64=>by
  have tr:∀{a b c:aF},ne (Cq m) a b->ne (Cq m) b c->ne (Cq m) a c:=ne.trans λa b=>⟨a.1.trans b.1,λh=>b.2 (a.2 h)⟩
  unfold dS;cases hd:aU ds k with
  |none=>
   obtain⟨q,n,h3⟩:=GC (l:=l) h64;refine⟨q,n,λh j g e i=>?_⟩;rcases qV.1 g with rfl|g
   ·rw[show aU (dS m l Pow.new ds).2.2 j=ez from n.no j hd]at i;cases i
   ·exact h3 h j g e i
  |some d=>
   try dsimp only
   have f:∀{ds1:aF} {p:aY},ii ds1=64->aU ds1 k=dB p->(∀c∈aO m,c∈p.l)->ne (Cq m) ds ds1->(dS m l Pow.new ds1).2.1=Pow.new/\ne (Cq m) ds (dS m l Pow.new ds1).2.2/\((dS m l Pow.new ds1).1=0->∀j∈k::l,∀e,aU (dS m l Pow.new ds1).2.2 j=dB e->∀c∈aO m,c∈e.l):=λ{ds1 p} g1 g2 g3 g4=>by
    obtain⟨q,n,h3⟩:=GC (l:=l) g1;refine⟨q,tr g4 n,λh j g e i=>?_⟩;rcases qV.1 g with rfl|g
    ·obtain⟨x,o,v⟩:=n.back i;rw[g2]at o;injection o with o;subst o
     exact v.1.whole g3
    ·exact h3 h j g e i
   split
   ·rename_i s;exact f h64 hd (λc z=>by rw[s];exact zS _ z) (.refl Cq.refl ds)
   ·obtain⟨t,u,y,w⟩:=acj m d;have r:ne (Cq m) ds (bM ds k (d.rewrite Pow.new (bH m d.l)).2.2):=.set Cq.refl h64 hd ⟨u,y⟩;split
    ·rename_i h0;rw[t];exact f (r.len.trans h64) (by rw[jJ h64 hd,f9 rfl]) (w h0) r
    ·rename_i h0;exact⟨t,r,λh=>absurd h h0⟩
theorem aaQ{M:Int->aA}{t most:Int}(H:Hi M m ds)(w:bs m=eH)(a:ii ds=64)(F:JQ m ds):(mL m 0 Pow.new ds t most).2.2.1=Pow.new/\Hi M m (mL m 0 Pow.new ds t most).2.2.2/\JQ m (mL m 0 Pow.new ds t most).2.2.2/\(mL m 0 Pow.new ds t most).2.2.2.length=64:=by
 have o:∀{l:bO},(ub m l=eH)↔∀c∈aO m,c∈l:=λ{l}=>by
  unfold ub;rw[w,Bool.true_and,qY];exact⟨λh c s=>hZ (h c s),λh c s=>g9 (h c s)⟩
 have b:∀{D:aF},Gr m ds D->Hi M m D:=λG=>H.same w λk e j=>by
  obtain⟨d,f,g⟩:=G.back j;exact⟨d,f,g.pg⟩
 unfold mL;split
 ·exact⟨i0,H,F,a⟩
 split
 ·exact⟨i0,H,F,a⟩
 split
 ·exact⟨i0,H,F,a⟩
 obtain⟨v,i,c3⟩:=GC (m:=m) (l:=bu ds m.drives) a;have r:Gr m ds (dS m (bu ds m.drives) Pow.new ds).2.2:=⟨i.len,λk d f=>by obtain⟨e,j,g⟩:=i.at_ k d f;exact⟨e,j,g.1⟩,i.no⟩
 try dsimp only
 split
 ·refine⟨v,b r,λk e j q=>?_,i.len.trans a⟩;obtain⟨d,f,g⟩:=i.back j;rcases F k d f (g.1.lost.symm.trans q)with h|h
  ·exact(g.2 (.inl h)).imp id o.2
  ·exact(g.2 (.inr (o.1 h))).imp id o.2
 ·rename_i h0;rw[v];obtain⟨x,p⟩:=Sm (m:=m) (live:=bu ds m.drives) (t:=t) (most:=most) (l:=m.objs) (k:=0) (i.len.trans a);refine⟨x,b (r.tr p),λk e j q=>.inr (o.2 ?_),p.len.trans (i.len.trans a)⟩;obtain⟨d,f,g⟩:=p.back j;obtain⟨u,n,y⟩:=r.back f;exact g.whole (c3 (Decidable.byContradiction h0) k (Gn.2 ⟨H.at_ k u n,u,n,by rw[<-y.lost,<-g.lost];exact q⟩) d f)
section
variable {pw:eX}
theorem Eo(h:f8):an xQ 10 #[] h λv h'=>v=xK eH/\Sp h h' []:=by refine ts Tryz.func10 ?_;refine(Kr h).mono ?_;rintro _ f ⟨pw,rfl,c⟩;have g:Sp h f [dI bc pw [] [],bK 104 pw Pow.new]:=aa.tooA (aa.closeAll [] c) ⟨i0,λi=>rfl⟩;refine⟨_,i0,(Ej (As:=[]) ⟨ez,0,0⟩ (.base (Seq.nil _ _ _ _ _ _) λh' _=>Seq.nil _ _ _ _ _ _) i5 i5 (λd j=>by cases j) (λm k=>by cases k) g).mono ?_⟩;rintro _ b ⟨Q,_⟩;obtain⟨rfl,a⟩:=Q rfl;refine⟨(ez,11),i0,(Pn ⟨ez,0,0⟩ b).mono ?_⟩;rintro _ _ ⟨rfl,rfl⟩;exact⟨(ez,1),i0,bf (λ_=>cv (λ_=>⟨i0,.zip a.af⟩) λe=>absurd i0 e) λe=>j1⟩
theorem IN(H:aa B h0 h (bj a pw da offs w ds m::As)):an xQ 9 #[xI (dB a)] h λv h'=>∃r:Sl,v=r/\Sp h h' [ae 44 r 1 gT da]:=by
 refine ts Tryz.func9 ?_ (.two .n (.two .n (.two (.two .n (.inn (.loop [(3,cK),(4,aS)] [(3,15)] .n))) .n)));obtain⟨x,H⟩:=fm H;obtain⟨ok,d⟩:=aa.cP H;have k:=ok.la;refine aq (λt:Sl×Nat=>(t.1,(t.2:Int))) (λt h'=>t.2<=64/\Sp h h' [ae 44 t.1 1 gT (da.take t.2)]) (λt=>64-t.2) (⟨ez,0,0⟩,0) i0 ⟨zb _,(Sp.refl h).nil 44 1 gT⟩ ?_;rintro⟨s,i⟩ p ⟨l,c⟩;dsimp only at l c⊢;refine ag (λe=>?_) λe=>?_
 ·have b:i<ii da:=i4
  refine(kE (i:Int) ok (d.af c.af d.lt)).mono ?_;rintro _ _ ⟨rfl,rfl⟩;have f:gf da (i:Int)=da[i]:=by unfold gf;rw[f9 i4,qk,qc b];rfl
  rw[f];refine⟨_,i0,c.push aj 0 i0 aaJ i0 i5 (λ_=>rfl) Si da[i] i0 i5 i7 λj o g=>?_⟩;refine⟨(j,i+1),jj,⟨i6,?_⟩,i6⟩
  try dsimp only
  rw[aD _ _ b];exact g
 ·have b:i=64:=i4
  rw[b,qg i4]at c;exact⟨s,i0,c⟩
theorem BV(H:aa B h0 h (bj a pw da offs w ds m::As)):∃x,fx (az x) da ds/\aa B h0 h (dI bc pw da ds::bK 104 pw w::ac a 92 (bC (az x) pw offs da)::aZ x m::As):=by obtain⟨x,H⟩:=fm H;obtain⟨ok,H⟩:=aa.Yl H;exact⟨x,ok,H⟩
theorem Sn{x:bo}(b:ii ds=64)(H:aa B h0 h (dI bc pw da ds::bK 104 pw w::ac a 92 (bC (az x) pw offs da)::aZ x m::As)):aa B h0 h (bj a pw da offs w ds m::As):=
 iC (aa.Ym i0 b H)
theorem aa.wEA{α:Type}{e c k:Nat}{s:Sl}{f:α->aR}{a:List (List α)}(H:aa B h0 h (dc e s c k f a::As))(d:∀x,ii (f x)=k):aa B h0 h (EA (bv (bR k f) 1 aX) s a::As):=by obtain⟨rs,H⟩:=aa.NC H d;exact H.dX 0 i0 λq b=>⟨rs,b⟩
theorem Pu{k:Int}{d:aY}{b:eX}(i:aU ds k=dB d)(c:gf da k=dB b)(H:aa B h0 h (bj a pw da offs w ds m::As)):
  an xQ 14 #[xI (dB b)] h λv h'=>∃r:Sl,v=r/\Sp h h' [dC r d.l]:=by
 obtain⟨s,f,e,j,g⟩:=uh i c H;exact tH s f e j g
theorem aaR{k:Int}{d:aY}{b:eX}(x:bo)(n:aA)(c:dh h x n)(f:cw n)(o:aU ds k=dB d)(e:gf da k=dB b)(H:aa B h0 h (bj a pw da offs w ds m::As)):
  an xQ 20 #[xI (dB b),dq x] h λv h'=>∃r:Sl,v=r/\Sp h h' [dC r (bH n d.l)]:=by
 obtain⟨s,i,g,p,j⟩:=uh o e H;exact rp s i x n g p j c f
theorem afB(H:aa B h0 h (bj a pw da offs w ds m::As)):an xQ 16 #[xI (dB pw)] h λv h'=>v=xK (!w.off)/\h'=h:=by obtain⟨x,_,H⟩:=BV H;obtain⟨l,_,H⟩:=aa.nZ (H.gp);exact sO l (H.box 0 i0)
theorem aaS{h:f8}{p:av}{s:Sl}{l:List Sl}(g:Qw.Seq h p s 1 aX l){n:Nat}(e:n<ii l){a:eX}(i:s.ptr=dB a):f7 h (a.add (n*1))=dB (.slice l[n].ptr l[n].len l[n].cap):=by
 obtain⟨b,o,c,j,f⟩:=g.elem n l[n] (qc e);rw[i]at c;injection c with c
 subst c;have d:=f.1;rw[add_eq,wT]at d;rw[add_eq];exact d
theorem agC{h:f8}{p:av}{s:Sl}{l:List Sl}(e:Qw.Seq h p s 1 aX l){n:Nat}(c:n<ii l):∃a,s.ptr=dB a:=by obtain⟨b,o,d,g,f⟩:=e.elem n l[n] (qc c);exact⟨_,d⟩
end
def So(ds:aF)(k:Int):bO:=match aU ds k with|some d=>d.l|none=>[]
theorem JS(c0:Sl)(l:aB)(s1:Sl)(l1:aB)(t:Int)(h:f8)(hs:Rd h c0 1 ak l)(d7:Rd h s1 1 ak l1):
  an xQ 3 #[c0,s1,xG xM t] h λv h'=>v=xK eH/\aN (λb=>b<h.size) h h':=by
 refine ts Tryz.func3 ?_ (.two .n (.two .n (.two .n (.two (.join [] [(24,29)] .n) (.two .n (.two .n (.two .n (.two .n (.two .n (.two .n (.two (.two .n (.inn (.loop [(12,cK),(56,aS)] [(12,13),(14,15),(56,68)] .n))) (.two .n (.two .n (.two (.join [] [(6,7),(77,103)] .n) (.two (.two .n (.inn (.loop [(106,aS)] [(6,7),(17,19),(106,135)] .n))) .n))))))))))))))) [(21,(.l [0,1,2,3,4,5,6,7,8,9,10,11,12,14,13,15,16,17,18,19,21,20,22,23,24,25])),(26,(.l [0,1,4,5,6,7,2,3,8,9,10,11,12,13,14,15,16,18,17,19,20,21,22]))];refine(UU c0 l s1 l1 9 h hs d7 i5).mono ?_;rintro _ h1 ⟨a,pw,da,ds,m,rfl,W,H1⟩;have hm:=W.may;obtain⟨M,cc⟩:=W.hi;have F0:JQ m ds:=λk d q hl=>.inl (W.slim k d q hl).2;refine⟨dB a,i0,bf (λe=>j1) λ_=>?_⟩;refine bG (λ(_:Unit) h'=>∃ds',Hi M m ds'/\JQ m ds'/\ds'.length=64/\Sp h h' [bj a pw da 0 Pow.new ds' m]) ?_ ?_
 ·refine⟨i5,cv (λ_=>?_) λ_=>⟨ds,cc,F0,W.len,H1⟩⟩;refine(Vd 1 9 hm i5 H1).mono ?_;obtain⟨g1,g2,g3,g4⟩:=aaQ (t:=1) (most:=9) cc hm W.len F0;rintro _ h2 ⟨rfl,H2⟩;rw[g1]at H2;exact⟨(_,_),i0,_,g2,g3,g4,H2⟩
 rintro _ h3 ⟨D,H,F,a3,H3⟩;have X:m.seq<=10:=W.seq;have du:=λk d q=>((jK H3).2 k d q).1;refine(XE H3).mono ?_;rintro _ _ ⟨rfl,rfl⟩;refine⟨dB pw,i0,(IN H3).mono ?_⟩;rintro _ h5 ⟨lv,rfl,R5⟩;have H5:=H3.comp R5;obtain⟨xs,ed,H6⟩:=BV H5;have H6:Sp h h5 [dI bc pw da D,bK 104 pw Pow.new,ac a 92 (bC (az xs) pw 0 da),aZ xs m,ae 44 lv 1 gT da]:=H6;refine⟨lv,i0,(Ej (As:=[ac a 92 (bC (az xs) pw 0 da),aZ xs m,ae 44 lv 1 gT da]) lv (St.dN 2 i0 λh' hq=>hq.1.seq (λ_=>rfl) hq.2) i4 (H6.own 4 i0).cap (λd q=>?_) (λm' J=>?_) H6).mono ?_⟩
 ·obtain⟨k,hk⟩:=IE a3 q;exact Po H X hk
 ·obtain⟨⟨k,d,q,_,hx⟩,_⟩:=Af a3 J;exact(oq H q hx).2.2.2
 rintro _ h6 ⟨Q0,Q1⟩;cases hn:gI D with
 |none=>
  obtain⟨rfl,H7⟩:=Q0 hn;refine⟨(ez,11),i0,bx (λ_=>cv (λ_=>bf (λ_=>(Eo h6).mono ?_) λe=>j1) λe=>absurd i0 e) λe=>absurd e i5⟩;rintro _ h7 ⟨rfl,R7⟩;exact⟨eH,i0,i0,(H7.up R7.af).af⟩
 |some x=>
  obtain⟨s,D',o1,o2,o3,o4,o5⟩:=UX H hm F a3 X du hn;have Q1:=Q1 x hn;rw[o1]at Q1;obtain⟨b,rfl,H7⟩:=Q1.2 rfl;obtain⟨ds1,G⟩:∃ds1,ds1=cN (gr x) D':=⟨_,rfl⟩
  obtain⟨f,ad⟩:∃f,f=cN (gr x) da:=⟨_,rfl⟩
  have Y:ii ds1=64:=by rw[G];exact oo _ _
  have d2:cN (gr x) ds1=ds1:=by rw[G,IH]
  have c1:cN (gr x) f=f:=by rw[ad,IH]
  rw[<-G,<-ad]at H7;rw[<-G]at o2 o3 o4 o5;have H7:Sp h h6 [bj b pw f 0 Pow.new ds1 x]:=H7.bB [0];have hz:=il s;refine⟨(dB b,0),i0,bx (λe=>absurd i0 e) λ_=>bf (λe=>j1) λ_=>(Gt s H7).mono ?_⟩;rintro _ h8 ⟨y,rfl,R8⟩;have H8:=H7.comp R8;refine⟨y,i0,H8.alloc aj i0 λa9 h9 H9=>?_⟩;refine H9.storeAll aj 2 i0 i0 (az y) i0 i0 i0 i0 λej a7=>?_;refine(pI s a7).mono ?_;rintro _ d3 ⟨lr,rfl,cp⟩;obtain⟨live,g⟩:∃live,live=bu ds1 x.drives:=⟨_,rfl⟩
  rw[<-g]at cp;have br:Sp h d3 [bj b pw f 0 Pow.new ds1 x,aZ y x,ac a9 39 (az y),ae 3 lr 1 ak live]:=a7.comp cp;have eo:lr.len=ii live:=(br.own 3 i0).len;have ee:ii live<=64:=by rw[g];exact q9 (qR _ _) (im s)
  have bb:∀{i:Nat} (hi:i<ii live),∃d,aU ds1 live[i]=dB d/\d.lost=eL:=λ{i} hi=>by
   obtain⟨_,d,q,hl⟩:=mI (show live[i]∈bu ds1 x.drives by rw[<-g];exact qf hi);exact⟨d,q,hl⟩
  obtain⟨L,hL⟩:∃L,L=live.map (So ds1):=⟨_,rfl⟩
  have d5:ii L=ii live:=by rw[hL,qu]
  have cn:∀{i:Nat} (hi:i<ii L) {d:aY},aU ds1 (live[i]'(by omega))=dB d->L[i]=d.l:=λ{i} hi {d} q=>by
   have:L[i]?=dB d.l:=by rw[hL,qL,qc i4,qQ];unfold So;rw[q]
   rw[qc hi]at this;injection this
  refine⟨lr,i0,?_⟩;refine aq (λz:Sl×Nat=>(z.1,(z.2:Int))) (λz h'=>z.2<=ii live/\Sp h h' [bj b pw f 0 Pow.new ds1 x,aZ y x,ac a9 39 (az y),ae 3 lr 1 ak live,bm 43 z.1 1 aX (bv (bR 1 aw) 1 aX) (L.take z.2)]) (λz=>ii live-z.2) (⟨ez,0,0⟩,0) i0 ⟨zb _,br.rD 43 1 aX _⟩ ?_;rintro⟨N,i⟩ el ⟨hi,u⟩;dsimp only at hi u⊢;refine ag (λe=>?_) λe=>?_
  ·have I:i<ii live:=i4
   obtain⟨d,q,a6⟩:=bb I;obtain⟨bd,B⟩:=AI q u;refine(u.seq 3 i0 λ_=>rfl).bt i i0 I live[i] i0 ?_;refine(om live[i] u).mono ?_;rintro _ _ ⟨rfl,rfl⟩;rw[B];refine⟨dB bd,i0,(Pu q B u).mono ?_⟩;rintro _ c4 ⟨ax,rfl,c9⟩;have c5:Sp h c4 [EA (bv (bR 1 aw) 1 aX) ax d.l,bj b pw f 0 Pow.new ds1 x,aZ y x,ac a9 39 (az y),ae 3 lr 1 ak live,bm 43 N 1 aX (bv (bR 1 aw) 1 aX) (L.take i)]:=aa.wEA (u.bN c9) λ_=>rfl;refine⟨ax,i0,c5.mO aj 5 0 i5 (E:=bv (bR 1 aw) 1 aX) (a:=ax) (b:=d.l) i0 i0 (⟨_,_,i0,i0,i0,i0,i0,i0⟩:bI C.toAi 41 43 1 [xH ez 0 0] 24) i0 i5 (λ_=>rfl) jb j3 i5 o6 λd0 ei d6=>?_⟩;refine⟨(d0,i+1),jj,⟨i6,?_⟩,i6⟩
   try dsimp only
   have a8:i<ii L:=i4
   rw[aD _ _ a8,cn a8 q];exact d6.bB [1,2,3,4,5]
  have dy:i=ii live:=i4
  rw[dy,<-d5,qN]at u;refine(adv 0 i5 u).mono ?_;rintro _ eh ⟨rfl,ay⟩;obtain⟨K,a1⟩:∃K,K=Pow.new.arm 0:=⟨_,rfl⟩
  have cf:K.off=eL:=by rw[a1];rfl
  have a4:K.offs=0:=by rw[a1];rfl
  rw[<-a1]at ay;refine⟨(),i0,(IN ay).mono ?_⟩;rintro _ d8 ⟨Q,rfl,dk⟩;have dp:=ay.bN dk;obtain⟨S,_,T⟩:=BV (dp.aL 2 [1,0]);have T:Sp h d8 [dI bc pw f ds1,bK 104 pw K,ac b 92 (bC (az S) pw 0 f),aZ S x,ae 44 Q 1 gT f,aZ y x,ac a9 39 (az y),ae 3 lr 1 ak live,bm 43 N 1 aX (bv (bR 1 aw) 1 aX) L]:=T;refine⟨Q,i0,(Ej (As:=[ac b 92 (bC (az S) pw 0 f),aZ S x,ae 44 Q 1 gT f,aZ y x,ac a9 39 (az y),ae 3 lr 1 ak live,bm 43 N 1 aX (bv (bR 1 aw) 1 aX) L]) Q (St.dN 2 i0 λh' hq=>hq.1.seq (λ_=>rfl) hq.2) i4 (T.own 4 i0).cap o3 (λm' J=>by rw[o2]at J;injection J with J;rw[<-J];exact s) T).mono ?_⟩;rintro _ b9 ⟨_,Q2⟩;have Q2:=Q2 x o2;rw[o4]at Q2;obtain⟨c,rfl,a2⟩:=Q2.2 rfl;dsimp only at a2;rw[d2,c1,a4]at a2;obtain⟨xc,_,P⟩:=BV a2;have P:Sp h b9 [dI bc pw f ds1,bK 104 pw K,ac c 92 (bC (az xc) pw 0 f),aZ xc x,ac b 92 (bC (az S) pw 0 f),aZ S x,ae 44 Q 1 gT f,aZ y x,ac a9 39 (az y),ae 3 lr 1 ak live,bm 43 N 1 aX (bv (bR 1 aw) 1 aX) L]:=P;obtain⟨rs,P⟩:=P.FM 10 rfl λ_=>rfl;have P:Sp h b9 [dI bc pw f ds1,bK 104 pw K,ac c 92 (bC (az xc) pw 0 f),aZ xc x,ac b 92 (bC (az S) pw 0 f),aZ S x,aZ y x,ac a9 39 (az y),cy (bv (bR 1 aw) 1 aX) 1 aX N rs L]:=P.bB [0,1,2,3,4,5,7,8,10];have Hc:∀{h':f8},Sp h h' [dI bc pw f ds1,bK 104 pw K,ac c 92 (bC (az xc) pw 0 f),aZ xc x,ac b 92 (bC (az S) pw 0 f),aZ S x,aZ y x,ac a9 39 (az y),cy (bv (bR 1 aw) 1 aX) 1 aX N rs L]->Sp h h' [bj c pw f 0 K ds1 x,aZ y x,ac a9 39 (az y),cy (bv (bR 1 aw) 1 aX) 1 aX N rs L]:=λ{h'} P=>Sn Y (P.bB [0,1,2,3,6,7,8]);have held:∀{h':f8} {A:HP} {bk:List HP},Sp h h' (A::aZ y x::ac a9 39 (az y)::bk)->∀{r:Prop},r->f7 h' a9=dB (xG xM y.1)/\f7 h' (a9.add 1)=dB (xG xM y.2.1)/\f7 h' (a9.add 2)=dB (xG xM y.2.2.1)/\f7 h' (a9.add 3)=dB (xG xM y.2.2.2.1)/\f7 h' (a9.add 4)=dB (xG xM y.2.2.2.2.1)/\f7 h' (a9.add 5)=dB (xG xM y.2.2.2.2.2.1)/\f7 h' (a9.add 6)=dB (xH y.2.2.2.2.2.2.1.ptr y.2.2.2.2.2.2.1.len y.2.2.2.2.2.2.1.cap)/\f7 h' (a9.add 7)=dB (xH y.2.2.2.2.2.2.2.ptr y.2.2.2.2.2.2.2.len y.2.2.2.2.2.2.2.cap)/\r:=λ{h' A bk} H' {r} hr=>by
   have Z:=H'.box 2 i0;exact⟨Z.cell0 i0,Z.cell i0,Z.cell i0,Z.cell i0,Z.cell i0,Z.cell i0,Z.cell i0,Z.cell i0,hr⟩
  refine⟨(dB c,0),i0,bG (λ(_:Unit) h'=>Sp h h' [bj c pw f 0 K ds1 x,aZ y x,ac a9 39 (az y),cy (bv (bR 1 aw) 1 aX) 1 aX N rs L]) ?_ ?_⟩
  ·refine bx (λe=>absurd i0 e) λ_=>bf (λe=>j1) λ_=>(afB (Hc P)).mono ?_;rintro _ _ ⟨rfl,rfl⟩;rw[cf];refine⟨eH,i0,trivial,aQ (λe=>j1) λ_=>⟨y,((Hc P).box 2 i0).aE _ i0,(Gt s (Hc P)).mono ?_⟩⟩;rintro _ d1 ⟨y2,rfl,b0⟩;have cr:=P.comp b0;have V:=P.up b0.af;refine⟨y2,i0,held (Hc V) trivial,(JI y2 y x d1 (cr.at 9 i0) (cr.at 6 i0) hz).mono ?_⟩;rintro _ eg ⟨rfl,d4⟩;have a0:=V.up d4.af;refine⟨eH,i0,trivial,aQ (λe=>j1) λ_=>(pI s (Sn Y (a0.bB [0,1,4,5]))).mono ?_⟩;rintro _ ef ⟨b4,rfl,ca⟩;have ab:=a0.up ca.af;have d9:=a0.comp ca;refine⟨b4,i0,trivial,(pI s (Hc ab)).mono ?_⟩;rintro _ c7 ⟨b3,rfl,b1⟩;have ah:=d9.comp b1;rw[<-g]at ah;refine⟨b3,i0,trivial,(JB b4 b3 live live c7 (ah.seq 9 i0 λ_=>rfl) (ah.seq 10 i0 λ_=>rfl) i4).mono ?_⟩;rintro _ _ ⟨rfl,rfl⟩;rw[g9 rfl];exact⟨eH,i0,trivial,aQ (λe=>j1) λ_=>Hc (ab.up b1.af)⟩
  rintro _ ek cq;refine(pI s cq).mono ?_;rintro _ dr ⟨O,rfl,bq⟩;rw[<-g]at bq;have cl:Sp h dr [bj c pw f 0 K ds1 x,aZ y x,ac a9 39 (az y),cy (bv (bR 1 aw) 1 aX) 1 aX N rs L,ae 3 O 1 ak live]:=cq.comp bq;have eb:O.len=ii live:=(cl.own 4 i0).len;refine⟨O,i0,?_⟩;refine aq (λi:Nat=>(i:Int)) (λi h'=>i<=ii live/\Sp h h' [bj c pw f 0 K ds1 x,aZ y x,ac a9 39 (az y),cy (bv (bR 1 aw) 1 aX) 1 aX N rs L,ae 3 O 1 ak live]) (λi=>ii live-i) 0 i0 ⟨zb _,cl⟩ ?_;rintro i c8 ⟨hi,o⟩
  try dsimp only
  refine ag (λe=>?_) λe=>?_
  ·have I:i<ii live:=i4
   obtain⟨d,q,a6⟩:=bb I;obtain⟨bd,B⟩:=AI q o;have dj:=o5 _ d q a6;obtain⟨ea,ec,dd⟩:=(jK o).2 _ d q;have bl:∀c∈d.l,ii c<=2^40:=λc hc=>by rw[dd.cell c hc];decide
   have R:i<ii L:=i4
   have U:=o.eS 3 i0;have al:i<ii rs:=by rw[U.2.1];exact R
   obtain⟨ap,ar⟩:=agC U.1 al;have w:∀{h':f8},Sp h h' [bj c pw f 0 K ds1 x,aZ y x,ac a9 39 (az y),cy (bv (bR 1 aw) 1 aX) 1 aX N rs L,ae 3 O 1 ak live]->f7 h' (ap.add (((i:Nat):Int).toNat*1))=dB (.slice rs[i].ptr rs[i].len rs[i].cap)/\dY h' rs[i] 1 aw d.l:=λ{h'} H'=>by
    have hf:=H'.eS 3 i0;have hr:(bv (bR 1 aw) 1 aX).p h' (λb=>b<h'.size) rs[i] L[i]:=hf.2.2 i _ _ (qc al) (qc R);rw[cn R q]at hr;rw[qk];exact⟨aaS hf.1 al ar,bv.todY hr⟩
   have b7:N.len=ii L:=by rw[U.1.len,U.2.1]
   refine(o.seq 4 i0 λ_=>rfl).bt i i0 I live[i] i0 ?_;refine⟨ap,⟨ar,i4,by rw[b7];exact vX.2 R⟩,rs[i],(w o).1,?_⟩;refine(om live[i] o).mono ?_;rintro _ _ ⟨rfl,rfl⟩;rw[B];refine⟨dB bd,i0,⟨(w o).1,trivial⟩,(Pu q B o).mono ?_⟩;rintro _ dx ⟨a5,rfl,b2⟩;have j:=o.up b2.af;have b5:=o.bN b2;refine⟨a5,i0,⟨(w j).1,trivial⟩,(It a5 rs[i] d.l d.l dx (aa.sY b5 λ_=>rfl) (w j).2 i4 bl).mono ?_⟩;rintro _ _ ⟨rfl,rfl⟩;rw[g9 rfl];refine⟨eH,i0,trivial,aQ (λe=>j1) λ_=>?_⟩;refine⟨ap,⟨ar,i4,by rw[b7];exact vX.2 R⟩,rs[i],(w j).1,y,(j.box 2 i0).aE _ i0,?_⟩;refine(om live[i] j).mono ?_;rintro _ _ ⟨rfl,rfl⟩;rw[B];refine⟨dB bd,i0,held j ⟨(w j).1,trivial⟩,(aaR y x (j.at 1 i0) hz q B j).mono ?_⟩;rintro _ c2 ⟨cd,rfl,ao⟩;rw[dj]at ao;have am:=j.up ao.af;have b6:=j.bN ao;refine⟨cd,i0,⟨(w am).1,trivial⟩,(It rs[i] cd d.l d.l c2 (w am).2 (aa.sY b6 λ_=>rfl) i4 bl).mono ?_⟩;rintro _ _ ⟨rfl,rfl⟩;rw[g9 rfl];exact⟨eH,i0,trivial,aQ (λe=>j1) λ_=>⟨i+1,j0,⟨I,am⟩,i4⟩⟩
  ·refine(Eo c8).mono ?_;rintro _ en ⟨rfl,c6⟩;exact⟨eH,i0,i0,(o.up c6.af).af⟩
theorem Ep(s:Sl)(l:aB)(a:Sl)(l1:aB)(t:Int)(h:f8)(d:Rd h s 1 ak l)(c:Rd h a 1 ak l1):
  an xQ 3 #[s,a,xG xM t] h λv h'=>v=xK eH/\aN (λb=>b<h.size) h h':=JS s l a l1 t h d c
end Go.Qw
