/- Lemmas for the proof of the law; no condition. -/
import Derived.Test.YtplpfpidgljdhaaGreatDoorKD
import Derived.Lib.BufferWrite
import Derived.Lib.UnsafeStr
set_option maxHeartbeats 2000000
set_option linter.unusedVariables false
set_option maxHeartbeats 4000000
set_option linter.unusedSimpArgs false
open Go.Proofs.Tryz renaming prog -> xP
open List renaming getElem_range -> vj, length_pos_iff -> vI, length_replicate -> wY, mem_flatten -> xf, range -> qx, replicate -> qi
open Go.Builtin renaming copy_ -> yg
open Go.Value renaming agg -> xK, bool -> xJ, int -> xF, pointer -> xH, slice -> xG, string -> xI
open Go.IntKind renaming i64 -> xL, u32 -> xN, u8 -> xM, wrap -> qe
open Go.Instr renaming storeAt -> qG
open Prod renaming fst -> qt
open Array renaming length_toList -> xn
set_option maxRecDepth 100000
open Option renaming some -> dB, none -> eH
open Bool renaming true -> eX, false -> fz
open Go renaming Addr -> f8
open Go.Qw renaming Heap -> g0
open List renaming length -> i0
namespace Go.Qw
open Go.Proofs
theorem aeo{m:av}{C:Int->aL}{l:bP}(j:bf m=eX)(f:∀c∈l,gJ m C c):∀x∈gf l,x.seq<m.seq∨x=m:=λx d=>by
 obtain⟨e,k⟩:=Hk d;have b:=Cw e;have a:(nI x 0).cell∈l:=k _ (by rw[jb];exact qo.2 ⟨0,qA.2 b,i4⟩);have:=((f _ a).page _ (iS e b)).1;have:x.seq<=m.seq:=this;by_cases i:x.seq=m.seq
 ·exact .inr (LB j (λc a g h n=>((f c a).page g h).2 n) d i)
 ·exact .inl i5
theorem VH{m:av}{C:Int->aL}{l:bP}(f:∀c∈l,gJ m C c)(a:gI m l=eX):m∈gf l:=by unfold gI at a;rw[qy]at a;exact aaZ a.1 (λc b=>ii (qJ.1 a.2 c b)) λc b g d e=>((f c b).page g d).2 e
theorem YT{ds:aE}{m:av}{C:Int->aL}(h:bf m=eX)(f:∀d,dB d∈ds->∀c∈d.l,gJ m C c){d:aZ}(e:dB d∈ds)(a:d.lost=fz)(g:gI m d.l=eX):ji ds=dB m:=
 XW e a (VH (f d e) g) λi b _=>aeo h (f i b)
def iA(m:av)(w:Pow)(ds:aE)(k:Int):Int×Pow×aE:=
 match aV ds k with
 |none=>(0,w,ds)
 |some d=>if d.lost then(0,w,ds)else if d.l=fS m d then(0,w,ds)else((d.rewrite w (fS m d)).1,(d.rewrite w (fS m d)).2.1,ck ds k (d.rewrite w (fS m d)).2.2)
def opens(m:av):aB->Pow->aE->Int×Pow×aE
 |[],w,ds=>(0,w,ds)
 |k::l,w,ds=>if(iA m w ds k).1=0 then opens m l (iA m w ds k).2.1 (iA m w ds k).2.2 else iA m w ds k
def rK(m:av)(d:aZ):aZ:=if d.lost=eX∨d.l=fS m d then d else{d with l:=fS m d,wait:=0,laid:=[],has:=fz}
def gj{α:Type}(q:Nat->Bool)(l:List (Option α)):List (Option α):=(qx 64).map λi=>if q i then l.getD i eH else eH
theorem oP{α:Type}(q:Nat->Bool)(l:List (Option α))(i:Nat)(a:i<64):(gj q l)[i]?=dB (if q i then l.getD i eH else eH):=by unfold gj;rw[qP,List.getElem?_range a];rfl
theorem Ap{α:Type}(q:Nat->Bool)(l:List (Option α)):i0 (gj q l)=64:=by simp[gj]
def ni(m:av)(i:Nat):Bool:=decide ((i:Int)∈m.drives)
theorem Jp(m:av)(d:aZ):∀c∈fS m d,i0 c=64:=λc a=>by
 unfold fS at a;split at a
 ·exact Cr m d.l c a
 ·exact Cr m d.l c (wb _ (List.mem_of_mem_take a))
theorem PN(m:av)(d:aZ):i0 (fS m d)<=d.room:=by
 unfold fS;split
 ·assumption
 ·rw[List.length_take];omega
theorem RH{w:Pow}(f:w.calm){m:av}{ds:aE}{k:Int}(b:i0 ds=64):
  ∃ds',iA m w ds k=(0,w,ds')/\ds'.length=64/\∀s,aV ds' s=if s=k then(aV ds s).map (rK m)else aV ds s:=by
 unfold iA;cases hd:aV ds k with
 |none=>exact⟨ds,i4,b,λs=>by by_cases a:s=k;rw[g9 a,a,hd];rfl;rw[hU a]⟩
 |some d=>
  try dsimp only
  have same:(d.lost=eX∨d.l=fS m d)->∃ds',((0:Int),w,ds)=(0,w,ds')/\ds'.length=64/\∀s,aV ds' s=if s=k then(aV ds s).map (rK m)else aV ds s:=λh=>
   ⟨ds,i4,b,λs=>by
    by_cases a:s=k
    ·rw[g9 a,a,hd,qQ];unfold rK;rw[g9 h]
    ·rw[hU a]⟩
  by_cases c:d.lost=eX
  ·rw[g9 c];exact same (.inl c)
  ·rw[hU c];by_cases e:d.l=fS m d
   ·rw[g9 e];exact same (.inr e)
   ·rw[hU e,EC f (Jp m d) m4 (PN m d)];refine⟨_,i4,by rw[Ct];exact b,λs=>?_⟩;rw[ng b hd];by_cases a:s=k
    ·rw[g9 a,g9 a,a,hd,qQ];unfold rK;rw[hU (by rintro(h|h);exact c h;exact e h)]
    ·rw[hU a,hU a]
theorem Jq{w:Pow}(b:w.calm){m:av}:∀{l:aB} {ds:aE},l.Nodup->i0 ds=64->
  ∃ds',opens m l w ds=(0,w,ds')/\ds'.length=64/\∀s,aV ds' s=if s∈l then(aV ds s).map (rK m)else aV ds s
 |[],ds,_,h64=>⟨ds,i4,h64,λs=>jj⟩
 |k::l,ds,a,h64=>by
  obtain⟨o,a⟩:=List.nodup_cons.1 a;obtain⟨f,h,i,g⟩:=RH b (m:=m) (k:=k) h64;obtain⟨j,d,n,e⟩:=Jq b (m:=m) (l:=l) (ds:=f) a i;refine⟨j,?_,n,λs=>?_⟩
  ·unfold opens;rw[h];exact d
  ·rw[e,g];by_cases c:s=k
   ·subst c;simp[o]
   ·simp[c]
structure Hi (M:Int->av) (m:av) (ds:aE):Prop where
 cur:M m.seq=m
 at_:∀k d,aV ds k=dB d->k∈m.drives
 pg:∀k d,aV ds k=dB d->∀c∈d.l,∀g,cI c=dB g->(1<=g.seq/\g.seq<=m.seq)/\c∈aM (M g.seq)/\k∈(M g.seq).drives
 ok:∀q,1<=q->q<=m.seq->bf (M q)=eX/\(M q).seq=q/\(aM (M q)).length<=2
variable {M:Int->av} {m n:av} {ds ds':aE}
theorem CF{c:aL}(b:bf m=eX)(h:c∈aM m){g:Pg}(a:cI c=dB g):g.seq=m.seq:=by
 rw[jb]at h;obtain⟨i,d,rfl⟩:=qo.1 h;rw[iS b (qA.1 d)]at a;injection a with a
 subst a;rfl
theorem Hu(a:bf m=eX):1<=m.seq:=((dn m).1 ((bM m).1 a).1).1.1
theorem Hi.same(H:Hi M m ds)(j:bf m=eX)(i:∀k a,aV ds' k=dB a->∃d,aV ds k=dB d/\∀c∈a.l,cI c≠eH->c∈d.l∨c∈aM m):Hi M m ds':=by
 refine⟨H.cur,λk a f=>?_,λk a f c n g e=>?_,H.ok⟩
 ·obtain⟨d,b,_⟩:=i k a f;exact H.at_ k d b
 ·obtain⟨d,b,o⟩:=i k a f;rcases o c n (by rw[e];simp)with h|h
  ·exact H.pg k d b c h g e
  ·rw[CF j h e,H.cur];exact⟨⟨Hu j,yC _⟩,h,H.at_ k d b⟩
theorem Hi.next(H:Hi M m ds)(r:bf m=eX)(o:bf n=eX)(t:n.seq=m.seq+1)(j:i0 (aM n)<=2)(p:∀k b,aV ds' k=dB b->k∈n.drives/\∀c∈b.l,cI c≠eH->c∈aM n∨∃d,aV ds k=dB d/\(c∈d.l∨c∈aM m)):
  Hi (λq=>if q=n.seq then n else M q) n ds':=by
 refine⟨jj,λk b a=>(p k b a).1,λk b a c s g f=>?_,λq i h3=>?_⟩
 ·obtain⟨i,j⟩:=p k b a;rcases j c s (by rw[f];simp)with h|⟨d,a,h⟩
  ·have:=CF o h f;rw[this,g9 rfl];exact⟨⟨Hu o,yC _⟩,h,i⟩
  ·have e:(1<=g.seq/\g.seq<=m.seq)/\c∈aM (M g.seq)/\k∈(M g.seq).drives:=by
    rcases h with h|h
    ·exact H.pg k d a c h g f
    ·rw[CF r h f,H.cur];exact⟨⟨Hu r,yC _⟩,h,H.at_ k d a⟩
   rw[hU i5];exact⟨⟨e.1.1,i5⟩,e.2⟩
 ·by_cases h:q=n.seq
  ·rw[g9 h];exact⟨o,h.symm,j⟩
  ·rw[hU h];exact H.ok q i i5
theorem YU{d:aZ}{N:Int}:∀c∈(de m d N).l,cI c≠eH->c∈d.l∨c∈aM m:=λc a e=>by
 unfold de at a;split at a
 ·exact .inl a
 ·rcases qz.1 a with h|h
  ·exact .inr h
  ·obtain⟨r,b,rfl⟩:=qo.1 h;exact .inl (Aj b).1
theorem EY(r:dm):cI (cW r)=eH:=by
 by_cases h:iV r=eX
 ·exact Jf h
 ·unfold cW;rw[hU h];decide
theorem YV{a:bP}{d:aZ}{c:aL}(h:c∈(dM a d).l):c∈d.l∨c∈a:=by
 unfold dM at h;split at h
 ·exact .inl h
 ·exact qz.1 h
variable {d:aZ}
def jE(l:bP):Nat:=l.countP λc=>(dO c).isSome
theorem FL(l:bP):jE l<=i0 l:=List.countP_le_length
theorem Hv(a b:bP):jE (a++b)=jE a+jE b:=List.countP_append
theorem tq(m:av):jE (aM m)=0:=List.countP_eq_zero.2 λc a=>by rw[nS a];simp
theorem PO(m:av):∀l:bP,i0 (l.filterMap (gN m))<=jE l
 |[]=>zi _
 |c::l=>by
  have h:=PO m l;unfold jE at h⊢;rw[List.filterMap_cons,List.countP_cons];cases hg:gN m c with
  |none=>dsimp only;omega
  |some r=>rw[(IR hg).1];simp;omega
theorem PP(m:av)(l:bP):i0 (ft m l)<=jE l:=by unfold ft;exact qT (OB _) (by rw[List.length_mergeSort];exact PO m l)
theorem LS(m:av)(l:bP):i0 (bO m l)=i0 (aM m)+i0 (ft m l):=by unfold bO jt;rw[qw,qq]
theorem EZ(a:bf m=eX):1<=i0 (aM m):=vI.2 (Hj a)
theorem LU(a:bf m=eX)(l:bP):jE (bO m l)<=jE l/\jE (bO m l)+1<=i0 (bO m l):=by
 have c:=PP m l;have d:=LS m l;have h3:=EZ a;have b:jE (bO m l)<=i0 (ft m l):=by unfold bO;rw[Hv,tq,Nat.zero_add];exact qT (FL _) (by unfold jt;simp)
 omega
theorem YW(a:bf m=eX){N:Int}:jE (de m d N).l<=jE d.l/\(jE d.l+1<=i0 d.l->jE (de m d N).l+1<=(de m d N).l.length):=by
 unfold de;split
 ·exact⟨ql _,id⟩
 ·exact⟨(LU a d.l).1,λ_=>(LU a d.l).2⟩
theorem YX(a:bf n=eX)(rs:List dm)(d:aZ):jE (dM (rs.map cW++aM n) d).l+1+(i0 d.l-jE d.l)<=(dM (rs.map cW++aM n) d).l.length:=by have b:=FL (rs.map cW);have c:=EZ a;have h3:=FL d.l;rw[uL,Hv,Hv,tq,qw,qw];omega
theorem Jr(f:ByteArray->Nat)(q:ByteArray->Bool):∀l:List ByteArray,((l.filter q).map f).sum<=(l.map f).sum
 |[]=>ql _
 |x::l=>by
  have h:=Jr f q l;rw[List.filter_cons];split
  ·simp only[zO,List.sum_cons];omega
  ·simp only[zO,List.sum_cons];omega
theorem YY{l:List ByteArray}(d:l.Nodup)(h:∀x∈l,x∈si):(l.map λs=>10+s.size).sum<=70:=by
 haveI:∀a,Decidable (a∈l):=λ_=>Classical.propDecidable _
 have e:si.Nodup:=j5
 have c:l.Perm (si.filter λx=>decide (x∈l)):=(List.perm_ext_iff_of_nodup d (e.filter _)).2 λa=>by
  rw[qF];exact⟨λb=>⟨h a b,hY b⟩,λb=>ii b.2⟩
 rw[(c.map λs=>10+s.size).sum_nat];exact qT (Jr _ _ _) j5
theorem PQ:∀{l:List Qw.cu},(∀e∈l,e.tries.length<=4)->(l.flatMap fQ).length<=((l.map Qw.cu.name).map λs=>10+s.size).sum
 |[],_=>ql _
 |e::l,h=>by
  have b:=PQ λx a=>h x (qD _ a);have c:=h e qM;rw[za,qw,XU];simp only[zO,List.sum_cons];omega
theorem agq(d:bf m=eX)(b:∀k∈m.drives,k<9)(g:∀e∈m.objs,e.name∈si/\e.length<=3*(m.p.1*m.p.2.2)+1):(aM m).length<=2:=by
 obtain⟨o,v,h3,z,j,n,w⟩:=(bM m).1 d;have y:=(bT m.p).1 ((dn m).1 o).2.2.1;have r:0<m.p.1*m.p.2.2:=Int.mul_pos i5 i5;have l:∀e∈m.objs,e.tries.length<=4:=λe a=>by
  have q:=(fB m e).1 (j e a);have u:=(g e a).2;have A:countP m.p e.length<=4:=by
   unfold countP;split
   ·have:(e.length-1)/(m.p.1*m.p.2.2)<4:=Int.ediv_lt_of_lt_mul r (by rw[Int.mul_comm 4];omega);omega
   ·decide
  omega
 have s:(m.objs.map Qw.cu.name).Nodup:=yj.2 (n.imp λh=>Ah h);have t:=YY s λx a=>by
  obtain⟨e,c,rfl⟩:=qo.1 a;exact(g e c).1
 have D:=PQ l;have a3:=Ly d;have a4:m.drives.length<=((qx 9).map λi:Nat=>(i:Int)).length:=CD (po d) λk f=>by
  have h0:=h3 k f;have B:=b k f;exact qo.2 ⟨k.toNat,qA.2 i5,i5⟩
 rw[qq,zt]at a4;rw[IV];omega
variable {B:aw} {h0 h:g0} {As L:List HP} {X:HP} {k:Kit} {b:f8} {da:List cj}
section
variable {pw:f8} {n:Nat}
theorem aa.agr(g:n<i0 L)(H:aa B h0 h (HP.all L::X::As)):aa B h0 h (HP.all (L.set n X)::As):=by
 have j:=(H.jd:aa B h0 h (X.sep (HP.all L)::As))
 have k:aa B h0 h ((X::L)++As):=aa.lp (L:=X::L) j;refine aa.closeAll _ (k.pick (λi=>if i=n then 0 else i+1) (λa b c=>by(try dsimp only at c);split at c<;>split at c<;>omega) λi A e=>?_)
 try dsimp only
 by_cases d:i=n
 ·subst d;rw[qm l4,List.getElem?_set_self g]at e;rw[g9 rfl];exact e
 ·rw[hU d,List.cons_append,qp];by_cases f:i<i0 L
  ·rw[qm pb,List.getElem?_set_ne (Ne.symm d)]at e;rw[qm f];exact e
  ·rw[qh i9,zC]at e;rw[qh i5];exact e
theorem aa.aep(c:L[n]?=dB X)(H:aa B h0 h (HP.all L::As)):aa B h0 h (X::HP.all (L.set n emp)::As):=by have a:=(qk.1 c).1;have b:=(aa.lp H).cons n (A:=X) (by rw[qm a];exact c);rw[List.set_append_left _ _ a]at b;exact(aa.closeAll (X::L.set n emp) b).mg.gV
structure ms (da:List cj) (ds:aE):Prop where
 len:i0 da=i0 ds
 same:∀i:Nat,(da.getD i eH).isSome=(ds.getD i eH).isSome
def eN(k:Kit)(pw:f8)(a:List cj)(ds:aE):HP:=(HP.all (dq k pw a ds)).and (ms a ds)
theorem ms.addr(ok:ms da ds)(c:ds[n]?=dB (dB d)):∃b,da[n]?=dB (dB b):=by
 have g:=(qk.1 c).1;have a:=ok.same n;rw[qd,qd,c]at a;have f:n<i0 da:=by rw[ok.len];exact g
 rw[qc f]at a⊢;simp at a;obtain⟨b,e⟩:=yz.1 a;exact⟨b,by rw[e]⟩
theorem ms.Ba(ok:ms da ds)(b:ds[n]?=dB eH):da[n]?=dB eH:=by
 have d:=(qk.1 b).1;have a:=ok.same n;rw[qd,qd,b]at a;have c:n<i0 da:=by rw[ok.len];exact d
 rw[qc c]at a⊢;simp at a;rw[a]
theorem ms.set(ok:ms da ds):ms (da.set n (dB b)) (ds.set n (dB d)):=by
 refine⟨by simp[ok.len],λi=>?_⟩;have:=ok.same i;have e:=ok.len;simp only[qd,qU]at this⊢;by_cases a:n=i
 ·rw[g9 a,g9 a];by_cases c:n<i0 ds
  ·rw[g9 c,g9 i5];rfl
  ·rw[hU c,hU i5];rfl
 ·rw[hU a,hU a];exact this
theorem YZ(e:i0 da=i0 ds):(dq k pw da ds).set n (gG k.tD (k.f pw) b d)=dq k pw (da.set n (dB b)) (ds.set n (dB d)):=by
 apply zq;intro j;simp only[dq,qU,zH,List.length_zipWith];by_cases a:n=j
 ·subst a;by_cases c:n<i0 ds
  ·rw[g9 i4,g9 i5,g9 i4,g9 i5,g9 i4,g9 c];rfl
  ·rw[g9 i4,hU i5,g9 i4,hU i5]
 ·simp[a]
def adb(k:Kit)(pw:f8)(a:List cj)(ds:aE)(n:Nat):HP:=(HP.all ((dq k pw a ds).set n emp)).and (ms a ds)
theorem aa.Za(H:aa B h0 h (eN k pw da ds::As))(c:ds[n]?=dB (dB d)):∃b,da[n]?=dB (dB b)/\aa B h0 h (gG k.tD (k.f pw) b d::adb k pw da ds n::As):=by obtain⟨H,ok⟩:=H.oX;obtain⟨b,a⟩:=ok.addr c;have e:=aa.aep (n:=n) (X:=gG k.tD (k.f pw) b d) (by simp only[dq,zH,a,c];rfl) H;exact⟨b,a,(e.gV.tooX ok).gV⟩
theorem aa.ags(g:da[n]?=dB (dB b))(H:aa B h0 h (gG k.tD (k.f pw) b d::adb k pw da ds n::As)):aa B h0 h (eN k pw da (ds.set n (dB d))::As):=by
 obtain⟨H,ok⟩:=H.gV.oX;have m:=(qk.1 g).1;have l:=ok.len;have c:=aa.agr (n:=n) (by simp[dq];omega) H;rw[yy,YZ l]at c;have e:da.set n (dB b)=da:=by
  obtain⟨i,j⟩:=qk.1 g
  conv=>lhs;rw[<-j]
  exact List.set_getElem_self i
 have a:ms (da.set n (dB b)) (ds.set n (dB d)):=ok.set;rw[e]at c a;exact c.tooX a
theorem aa.Zb{a:f8}{b:aT}{offs:Int}{w:Pow}(H:aa B h0 h (aY k a pw b offs da w ds::As)):fG b da ds/\aa B h0 h (eN k pw da ds::bV k.tP pw w::ac a k.tS (bQ b pw offs da)::As):=by obtain⟨H,ok⟩:=H.oX;have c:aa B h0 h (HP.all (bV k.tP pw w::dq k pw da ds)::ac a k.tS (bQ b pw offs da)::As):=H.mg;have d:aa B h0 h (HP.all (dq k pw da ds)::bV k.tP pw w::ac a k.tS (bQ b pw offs da)::As):=c.mg;exact⟨ok,d.tooX ⟨by rw[ok.la,ok.ls],ok.same⟩⟩
theorem aa.Zc{a:f8}{b:aT}{offs:Int}{w:Pow}(h8:i0 b=8)(c:i0 ds=64)(H:aa B h0 h (eN k pw da ds::bV k.tP pw w::ac a k.tS (bQ b pw offs da)::As)):aa B h0 h (aY k a pw b offs da w ds::As):=by obtain⟨H,ok⟩:=H.oX;have d:aa B h0 h (HP.all (bV k.tP pw w::dq k pw da ds)::ac a k.tS (bQ b pw offs da)::As):=H.jd;have e:aa B h0 h (HP.all (ac a k.tS (bQ b pw offs da)::bV k.tP pw w::dq k pw da ds)::As):=d.jd;exact e.tooX ⟨h8,by rw[ok.len,c],c,ok.same⟩
theorem aa.agt(q:Nat->Bool)(r:i0 ds<=64)(H:aa B h0 h (eN k pw da ds::As)):aa B h0 h (eN k pw (gj q da) (gj q ds)::As):=by
 obtain⟨H,ok⟩:=H.oX;have p:=ok.len;have n:=aa.aaD (aa.lp H) 64;obtain⟨M,j⟩:∃M,M=dq k pw da ds:=⟨_,rfl⟩
 rw[<-j]at n;have l:i0 M=i0 ds:=by rw[j];simp[dq];omega
 have g:∀i,i<64->(dq k pw (gj q da) (gj q ds))[i]?=dB (if q i=eX/\i<i0 ds then M.getD i emp else emp):=λi d=>by
  simp only[dq,zH,oP _ _ _ d];congr 1;cases hq:q i with
  |false=>simp[aay]
  |true=>
   simp only[if_true,true_and];by_cases hid:i<i0 ds
   ·rw[g9 hid,j];simp only[dq,qd,zH,qc hid,qc (show i<i0 da by omega)];rfl
   ·rw[hU hid];simp only[qd,qI (show ds.length<=i by omega),qI (show da.length<=i by omega)];rfl
 have f:i0 (dq k pw (gj q da) (gj q ds))=64:=by simp[dq,gj]
 have o:aa B h0 h (dq k pw (gj q da) (gj q ds)++As):=by
  refine n.pick (λi=>if i<64 then(if q i=eX/\i<i0 ds then 64+i else i)else i+i0 ds) (λa b c=>j7) λi A d=>?_
  try dsimp only
  by_cases e:i<64
  ·rw[qm i5,g i e]at d;rw[g9 e];by_cases m:q i=eX/\i<i0 ds
   ·rw[g9 m]at d⊢;rw[qh jj,wY,Nat.add_sub_cancel_left,qm i5];rw[qd,qc i5]at d;rw[qc i5];exact d
   ·rw[hU m]at d⊢;rw[qm lz,zT,g9 e];exact d
  ·rw[hU e];rw[qh i5,f]at d;rw[qh i9,wY,qh i5,l,show i+i0 ds-64-i0 ds=i-64 by omega];exact d
 refine(aa.closeAll _ o).tooX ⟨by simp[gj],λi=>?_⟩;by_cases e:i<64
 ·rw[qd,qd,oP _ _ _ e,oP _ _ _ e];cases q i
  ·rfl
  ·exact ok.same i
 ·rw[qd,qd,qI (by simp[gj];omega),qI (by simp[gj];omega)];rfl
end
variable {t t2 e eb:Nat} {z:aT} {by_:Nat} {α:Type} {p:aw} {v:Sl} {f:α->aT} {l l2:List α} {a:f8} {pre post:aT}
section
variable {C:Ctx} {ty k:Nat}
theorem bY.PR(u:C.Ok)(w:bG C.toAQ t e k z by_)(m:∀x,i0 (f x)=k)(j:bY h a eb (pre++l.flatMap f++post))(y:Seq h p v k f l2)(d:i0 l2=i0 l)(i:∀x,∀c∈f x,c.oneCell'=eX){n o H:Nat}(A:n=i0 pre)(G:o=i0 l){K:Int->g0->Prop}
  (F:∀h',bY h' a eb (pre++l2.flatMap f++post)->aP (λb=>b≠a.block) h h'->K l2.length h'):
  bz C.P (yg #[t,t2] ty #[.slice (dB (a.add n)) o H,v]) (.one (.sc (.int .i64))) h K:=by
 unfold bz yg;simp only[List.getElem?_toArray,List.getElem?_cons_zero,qp];refine au.bind (au.always (aG (w.under u)) ?_);refine au.bind (au.pure' ?_);refine au.bind (au.always (w.size u) ?_);have q:=y.len;have g:Nat.min v.len o=v.len:=Nat.min_eq_left i5;rw[g];refine au.bind (fX m y ?_);have B:=j.addr;have E:a.add n=⟨a.block,0+n,eH⟩:=by
  conv=>lhs;rw[B]
  simp[Addr.add];omega
 rw[E];refine au.bind ?_;have r:=j.ff;refine eO (e:=eb) (pre:=pre) (old:=l.flatMap f) (post:=post) r (by rw[dl m,dl m,d]) i5 ?_ ?_
 ·intro c D;obtain⟨x,_,s⟩:=zE.1 D;exact i x c s
 ·refine au.pure' ⟨_,by rw[goInt,q],F _ ⟨j.off,j.spot,?_⟩ (aP.jk r λA=>A i4)⟩;rw[ij r,g9 rfl]
theorem aa.PR(q:C.Ok)(H:aa B h0 h As)(i:Nat)(j:As[i]?=dB (ac a eb (pre++l.flatMap f++post)))(s:bG C.toAQ t e k z by_)(o:∀x,i0 (f x)=k)(w:Seq h p v k f l2)(b:i0 l2=i0 l)(d:∀x,∀c∈f x,c.oneCell'=eX){n m u:Nat}(A:n=i0 pre)(g:m=i0 l){K:Int->g0->Prop}
  (r:∀h',aa B h0 h' (As.set i (ac a eb (pre++l2.flatMap f++post)))->K l2.length h'):
  bz C.P (yg #[t,t2] ty #[.slice (dB (a.add n)) m u,v]) (.one (.sc (.int .i64))) h K:=
 (H.box i j).PR q s o w b d A g λh' x y=>r h' (H.tw i j y x)
end
variable {w:Pow}
section
variable {pw:f8}
theorem RI(s t:Sl)(l k:bP)(h:g0)(g:eT h s 1 az l)(d:eT h t 1 az k)(H:i0 l<=2^30):
  an xP 45 #[s,t,.func (.func 46) #[] #[]] h λv h'=>v=xJ (decide (l=k))/\h'=h:=by
 refine ts Tryz.func45 ?_ (.two .n (.two .n (.two (.two .n (.inn (.loop [(17,aQ)] [(6,10),(17,32)] .n))) .n))) (args:=[s,t,(.func (.func 46) #[] #[])]);have u:=g.len;have B:=d.len;refine bx (λe=>?_) (λe=>?_)
 ·refine⟨?_,i4⟩;rw[hZ];intro w;rw[w]at u;omega
 have f:i0 l=i0 k:=i5
 refine aq (λi:Nat=>(i:Int)) (λi h'=>i<=i0 l/\(∀j (p:j<i0 l),j<i->l[j]=(k[j]'(by omega)))/\h'=h) (λi=>i0 l-i) 0 i4 ⟨i5,λj _ p=>i5,i4⟩ ?_;rintro i u ⟨A,c,rfl⟩;refine ag (λe=>?_) (λe=>?_)
 ·have b:i<i0 l:=by have z:(i:Int)<(s.len:Int):=e;omega
  obtain⟨rs,g⟩:=g;obtain⟨ts,d⟩:=d;refine g.TL i i4 b λa r _ E x=>?_;refine d.TL i i4 i5 λG q _ F m=>dT i4 ?_;refine(jY r q l[i] (k[i]'(by omega)) u (g.row i r l[i] x (qc b)) (d.row i q _ m (qc i5))).mono ?_;rintro _ _ ⟨rfl,rfl⟩;refine⟨_,i4,aR (λy=>?_) λy=>?_⟩
  ·refine⟨?_,i4⟩;rw[hZ];intro w;refine of_decide_eq_false y ?_;simp only[w]
  ·refine⟨i+1,j1,⟨i5,λj p o=>?_,i4⟩,i5⟩;rcases zd.1 o with h3|rfl
   ·exact c j p h3
   ·exact ii y
 ·have z:¬(i:Int)<(s.len:Int):=e;refine⟨?_,i4⟩;rw[hY];exact List.ext_getElem f λj h3 D=>c j h3 i5
theorem Te:∀x,∀c∈iP x,c.oneCell'=eX:=by intro x c a;simp only[iP,qu]at a;subst a;rfl
theorem Js(b:aT)(pw:f8)(offs:Int)(a:List cj):bQ b pw offs a=(b++[xH (dB pw),xF xL offs])++a.flatMap iP++[]:=by
 have:a.flatMap iP=a.map .pointer:=by induction a<;>simp_all [iP]
 simp[bQ,this]
theorem abC:bG C.toAQ 32 44 1 [xH eH] 8:=⟨⟨_,_,i4,i4,i4,i4,i4,i4⟩⟩
theorem RJ(x:bm)(m:av)(l:Int)(v:Sl)(d:List cj)(h:g0)(q:dh h x m)(s:bf m=eX)(D:Rd h v 1 iP d)(A:i0 d=64)(p:bY h pw 104 (powC w l)):
  an xP 48 #[dz x,xH (dB pw),v] h λr h'=>∃(a:f8) (y:bm),r=xH (dB a)/\Sp h h' [bh y m,ac a 92 (bQ (aA y) pw w.offs d)]:=by
 refine ts Tryz.func48 ?_ (.two .n (.two (.join [] [(6,7),(8,15)] .n) .n)) (args:=[x,(dB pw),v]);have t:=iC s;refine(Sp.refl h).boxed λi o c=>?_;have c:Sp h o [ac i 39 (aA x)]:=c;refine aW ⟨x,(c.box 0 i4).aF _ i4,(Cg x m o (q.up c.ae) t).mono ?_⟩;rintro _ B ⟨rfl,E⟩;have g:=c.comp E;refine⟨_,i4,aR (λe=>by rw[s]at e;cases e) λ_=>bo (λe=>j3) λ_=>?_⟩;refine⟨x,(g.box 0 i4).aF _ i4,(Cj x m B (q.up g.ae) t).mono ?_⟩;rintro _ h3 ⟨y,rfl,z⟩;have k:Sp h h3 [ac i 39 (aA x),bh y m]:=g.comp z;refine⟨y,i4,(Ea l (p.ae k.ae p.lt)).mono ?_⟩;rintro _ _ ⟨rfl,rfl⟩;refine⟨_,i4,_,Lm y pw w.offs,k.boxed λa9 F j=>?_⟩;have b:(Value.agg (bQ (aA y) pw w.offs (qi 64 eH)).toArray).cells.toList=bQ (aA y) pw w.offs (qi 64 eH):=kt
 rw[b,Js]at j;refine⟨a9,i4,?_⟩;refine j.PR aj 2 i4 abC (λ_=>rfl) (Seq.up D j.ae) (by simp[A]) Te i4 jj λu f=>?_;have f:Sp h u [ac i 39 (aA x),bh y m,ac a9 92 ((aA y++[xH (dB pw),xF xL w.offs])++d.flatMap iP++[])]:=f;rw[<-Js]at f;exact⟨a9,y,i4,f.bA [1,2]⟩
end
section
variable {pw:f8} {n:Nat}
theorem aa.abD(H:aa B h0 h (eN ba pw da ds::As)):ms da ds:=H.oX.2
theorem aa.Zd(H:aa B h0 h (eN ba pw da ds::As)){b:f8}(g:da[n]?=dB (dB b))(f:ds[n]?=dB (dB d)):gA d/\∃s t:Sl,bY h b 102 (gr pw d s t)/\eT h s 1 az d.l:=by
 obtain⟨j,a,c⟩:=H.Za f;rw[g]at a;injection a with a
 injection a with a
 subst a;obtain⟨s,t,i,e,_⟩:=jX.box (c:aa B h0 h (jX pw b d::_));obtain⟨ok,_⟩:=c.rE;exact⟨ok,s,t,i,e⟩
end
section
variable {pw:f8}
theorem Ms{l:aB}{j:Nat}(a:j<i0 l)(x:Int):x∈l.take (j+1)↔x∈l.take j∨x=l[j]:=by rw[aD _ _ a,qz,qu]
def VI(B:aw)(b:g0)(As:List HP)(pw:f8)(c:List cj)(ds:aE)(w:Pow)(v:Value)(h':g0):Prop:=
 (ji ds=eH->v=.tuple #[xH eH,xF xL 11]/\aa B b h' (eN ba pw c ds::bV 104 pw w::As))/\
  ∀m,ji ds=dB m->((opens m m.drives w ds).1≠0->v=.tuple #[xH eH,xF xL (opens m m.drives w ds).1]/\aa B b h' (eN ba pw c (opens m m.drives w ds).2.2::bV 104 pw (opens m m.drives w ds).2.1::As))/\
   ((opens m m.drives w ds).1=0->∃a:f8,v=.tuple #[xH (dB a),xF xL 0]/\aa B b h' (bD a pw (gj (ni m) c) (opens m m.drives w ds).2.1.offs (opens m m.drives w ds).2.1 (gj (ni m) (opens m m.drives w ds).2.2) m::As))
theorem PS(s:Sl)(h:g0):an xP 8 #[xH eH,s] h λv h'=>v=.tuple #[xH eH,xF xL 1]/\h'=h:=by refine ts Tryz.func8 ?_ (.two .n (.two .n (.two .n (.two .n (.two .n (.two .n (.two (.two .n (.inn (.loop [(32,aQ)] [(4,6),(10,14),(32,71)] (.two .n (.two .n (.two (.inn (.two .n (.two (.join [] [(36,47)] .n) .n))) .n)))))) .n)))))));exact bo (λ_=>⟨i4,i4⟩) λe=>j3
theorem LV(s:Sl)(hS:St B h0 As λh=>Rd h s 1 iP da)(hn:i0 ds<=64)(b2:s.len<=s.cap)(hj:∀d,dB d∈ds->i0 (gf d.l)<20)(am:∀m,ji ds=dB m->bf m=eX)
  (H:aa B h0 h (eN ba pw da ds::bV 104 pw w::As)):an xP 8 #[xH (dB pw),s] h λv h'=>
  VI B h0 As pw da ds w v h':=by
 refine ts Tryz.func8 ?_ (.two .n (.two .n (.two .n (.two .n (.two .n (.two .n (.two (.two .n (.inn (.loop [(32,aQ)] [(4,6),(10,14),(32,71)] (.two .n (.two .n (.two (.inn (.two .n (.two (.join [] [(36,47)] .n) .n))) .n)))))) .n)))))));have a4:=hS.at [_,_] H;have ab:=H.abD;have b6:=a4.len;have bk:=ab.len;have bb:(if(64:Int)<(s.len:Int)then(64:Int)else(s.len:Int))=(s.len:Int):=hU i5;rw[bb];refine bo (λe=>j3) λ_=>⟨⟨i5,i5⟩,?_⟩
 simp only[qj];refine(RG (pw:=pw) s da ds h a4 bk hn λi p d E hd=>?_).mono ?_
 ·cases d with
  |none=>
   have:=ab.Ba hd;rw[E]at this;injection this with this
   subst this;trivial
  |some d=>
   obtain⟨b,N⟩:=ab.addr hd;rw[E]at N;injection N with N
   subst N;obtain⟨ok,s1,t1,q1,q2⟩:=H.Zd E hd;exact⟨ok,hj d (zY hd),s1,t1,q1,q2⟩
 rintro _ h1 ⟨x,rfl,_,R1⟩;have H1:=H.cb R1;refine⟨(x,(ji ds).isSome),i4,H1.alloc aj i4 λt h2 H2=>?_⟩;have H2:=H2.be;refine H2.storeAll aj 0 i4 i4 (aA x) i4 i4 i4 i4 λh3 H3=>?_;have H3:aa B h0 h3 (ac t 39 (aA x)::bh x ((ji ds).getD ia)::eN ba pw da ds::bV 104 pw w::As):=H3;refine aR (λe=>⟨λ_=>⟨i4,H3.aO 4 [2,3]⟩,λm hm=>by rw[hm]at e;cases e⟩) λe=>?_;obtain⟨m,hm⟩:∃m,ji ds=dB m:=yz.1 e;have hM:=am m hm;rw[hm]at H3;have H3:aa B h0 h3 (ac t 39 (aA x)::bh x m::eN ba pw da ds::bV 104 pw w::As):=H3;have hz:=iC hM;have bs:=gy hM;have V:∀{v:Value} {h':g0},(((opens m m.drives w ds).1≠0->v=.tuple #[xH eH,xF xL (opens m m.drives w ds).1]/\aa B h0 h' (eN ba pw da (opens m m.drives w ds).2.2::bV 104 pw (opens m m.drives w ds).2.1::As))/\
   ((opens m m.drives w ds).1=0->∃a:f8,v=.tuple #[xH (dB a),xF xL 0]/\aa B h0 h' (bD a pw (gj (ni m) da) (opens m m.drives w ds).2.1.offs (opens m m.drives w ds).2.1 (gj (ni m) (opens m m.drives w ds).2.2) m::As)))->VI B h0 As pw da ds w v h':=λ{v h'} U=>by
  unfold VI;refine⟨λh=>(by rw[hm]at h;cases h),λm' P=>?_⟩;rw[hm]at P;injection P with P
  subst P;exact U
 refine H3.make aj iP abC i6 eH i4 i4 64 64 i4 i4 (ql _) i6 λo h4 b9 b5 H4=>?_;have H4:aa B h0 h4 (eN ba pw da ds::bV 104 pw w::bh x m::ac t 39 (aA x)::af 44 o 1 iP (qi 64 eH)::As):=H4.be.aO 5 [3,4,2,1,0];refine⟨x.2.2.2.2.2.2.1,(H4.box 3 i4).cell i4,?_⟩;refine aq (λj:Nat=>(j:Int)) (λj h'=>j<=i0 m.drives/\∃(g:Pow) (f:aE) (k:List cj),opens m m.drives w ds=opens m (m.drives.drop j) g f/\f.length=i0 ds/\k.length=64/\
   (∀i:Nat,i<64->k[i]?=dB (if(i:Int)∈m.drives.take j then da.getD i eH else eH))/\
   aa B h0 h' (eN ba pw da f::bV 104 pw g::bh x m::ac t 39 (aA x)::af 44 o 1 iP k::As)) (λj=>i0 m.drives-j) 0 i4
  ⟨zi _,w,ds,_,i4,i4,jj,λi T=>by rw[zT,g9 T];simp,H4⟩ ?_
 rintro j h5 ⟨b7,g,f,k,I,ao,W,K,R⟩
 try dsimp only
 have hx:dh h5 x m:=R.at 2 i4;have b0:=hx.drives.len;have ap:=hS.at [_,_,_,_,_] R;have ar:=R.abD;refine ag (λe=>?_) λe=>?_
 ·have r:j<i0 m.drives:=by have e':(j:Int)<(x.2.2.2.2.2.2.1.len:Int):=e;omega
  refine hx.drives.bt j i4 r m.drives[j] i4 ?_;obtain⟨n,ad⟩:∃n:Nat,m.drives[j]=(n:Int):=⟨m.drives[j].toNat,by have:=iQ hM _ (qf r);omega⟩
  have b1:n<64:=by have:=iQ hM _ (qf r);omega
  rw[ad];have X:m.drives.drop j=(n:Int)::m.drives.drop (j+1):=by rw[qK r,ad]
  have q:opens m (m.drives.drop j) g f=if(iA m g f n).1=0 then opens m (m.drives.drop (j+1)) (iA m g f n).2.1 (iA m g f n).2.2 else iA m g f n:=by rw[X];rfl
  have J:∀i:Nat,((i:Int)∈m.drives.take (j+1))↔((i:Int)∈m.drives.take j)∨i=n:=λi=>by
   rw[Ms r,ad];constructor
   ·rintro(h|h);exact .inl h;exact .inr i5
   ·rintro(h|h);exact .inl h;exact .inr i5
  have ah:aV f (n:Int)=(f[n]?).join:=by unfold aV;rw[g9 i5,qj]
  have wr:qe xL ((j:Int)+1)=((j+1:Nat):Int):=j1
  rw[wr];have skip:aV f (n:Int)=eH->da.getD n eH=eH->∃L,(((j+1:Nat):Int))=((L:Nat):Int)/\(L<=i0 m.drives/\∃(g:Pow) (f:aE) (k:List cj),opens m m.drives w ds=opens m (m.drives.drop L) g f/\f.length=i0 ds/\k.length=64/\
   (∀i:Nat,i<64->k[i]?=dB (if(i:Int)∈m.drives.take L then da.getD i eH else eH))/\
   aa B h0 h5 (eN ba pw da f::bV 104 pw g::bh x m::ac t 39 (aA x)::af 44 o 1 iP k::As))/\m.drives.length-L<i0 m.drives-j:=λh1 h2=>by
   refine⟨j+1,i4,⟨r,g,f,k,?_,ao,W,λi T=>?_,R⟩,i5⟩
   ·rw[I,q];have:iA m g f n=(0,g,f):=by unfold iA;rw[h1]
    rw[this,g9 rfl]
   ·rw[K i T];by_cases z:i=n
    ·subst z;rw[h2];simp
    ·have:((i:Int)∈m.drives.take (j+1))↔((i:Int)∈m.drives.take j):=by rw[J];simp[z]
     simp only[this]
  refine aW (ag (λe2=>?_) λe2=>?_)
  ·have e2:(n:Int)>=(s.len:Int):=e2;refine skip ?_ ?_
   ·rw[ah,qI i5];rfl
   ·rw[qd,qI i5];rfl
  ·have e2:¬(n:Int)>=(s.len:Int):=e2;have O:n<i0 da:=i5
   have a9:n<i0 f:=i5
   obtain⟨p,E⟩:∃p,da[n]?=dB p:=⟨_,qc O⟩
   obtain⟨dd,A⟩:∃dd,f[n]?=dB dd:=⟨_,qc a9⟩
   have ay:da[n]=p:=by rw[qc O]at E;injection E
   refine ap.mE n i4 O p (by rw[ay]) λa8 _=>?_;cases dd with
   |none=>
    have:=ar.Ba A;rw[E]at this;injection this with this
    subst this;refine bo (λ_=>skip (by rw[ah,A];rfl) (by rw[qd,E];rfl)) λe=>j3
   |some d=>
    obtain⟨b,N⟩:=ar.addr A;rw[E]at N;injection N with N
    subst N;refine bo (λe=>j3) λ_=>ap.mE n i4 O (dB b) (by rw[ay]) λb3 _=>?_;refine R.set aj 4 i4 (λ_=>rfl) i4 n i4 i5 (dB b) i4 i4 i4 λh6 M=>?_;have M:aa B h0 h6 (eN ba pw da f::bV 104 pw g::bh x m::ac t 39 (aA x)::af 44 o 1 iP (k.set n (dB b))::As):=M;have Z:∀i:Nat,i<64->(k.set n (dB b))[i]?=dB (if(i:Int)∈m.drives.take (j+1)then da.getD i eH else eH):=λi T=>by
     rw[qU];by_cases z:n=i
     ·subst z;rw[g9 i4,g9 i5,g9 ((J n).2 (.inr i4)),qd,E];rfl
     ·have:((i:Int)∈m.drives.take (j+1))↔((i:Int)∈m.drives.take j):=by rw[J];simp[Ne.symm z]
      rw[hU z,K i T];simp only[this]
    have F:aV f (n:Int)=dB d:=by rw[ah,A];rfl
    have next:∀{h':g0} (w':Pow) (d':aE),iA m g f n=(0,w',d')->i0 d'=i0 f->aa B h0 h' (eN ba pw da d'::bV 104 pw w'::bh x m::ac t 39 (aA x)::af 44 o 1 iP (k.set n (dB b))::As)->
      ∃L,(((j+1:Nat):Int))=((L:Nat):Int)/\(L<=i0 m.drives/\∃(g:Pow) (f:aE) (k:List cj),opens m m.drives w ds=opens m (m.drives.drop L) g f/\f.length=i0 ds/\k.length=64/\
   (∀i:Nat,i<64->k[i]?=dB (if(i:Int)∈m.drives.take L then da.getD i eH else eH))/\
   aa B h0 h' (eN ba pw da f::bV 104 pw g::bh x m::ac t 39 (aA x)::af 44 o 1 iP k::As))/\m.drives.length-L<i0 m.drives-j:=λ{h'} w' d' ho hl' H'=>
     ⟨j+1,i4,⟨r,w',d',_,by rw[I,q,ho,g9 rfl],by rw[hl',ao],by simp[W],Z,H'⟩,i5⟩
    obtain⟨Q,s1,t1,q1,q2⟩:=M.Zd E A;refine(rY s1 t1 q1).mono ?_;rintro _ h6 ⟨rfl,rfl⟩;refine⟨_,i4,bo (λel=>next g f (by unfold iA;rw[F];(try dsimp only);rw[g9 el]) i4 M) λel=>?_⟩;refine⟨x,(M.box 3 i4).aF _ i4,(YS s1 t1 x m q1 q2 Q (M.at 2 i4) hz).mono ?_⟩;rintro _ h7 ⟨r7,rfl,R7⟩;have a5:=q1.ae R7.ae q1.lt;have bq:=q2.up R7.ae;refine⟨r7,i4,(uu s1 t1 a5 bq Q).mono ?_⟩;rintro _ h8 ⟨r8,rfl,R8⟩;have Y:Sp h6 h8 [dI r7 (fS m d),dI r8 d.l]:=R7.comp R8;have k1:=Q.len;have k2:=Q.room;have kl:=PN m d;refine⟨r8,i4,(RI r8 r7 d.l (fS m d) h8 ((Y.aO 2 [1]).rP λ_=>rfl) (Y.rP λ_=>rfl) i5).mono ?_⟩;rintro _ h8 ⟨rfl,rfl⟩;have a0:¬d.lost=eX:=by rw[el];decide
    have H8:aa B h0 h8 (eN ba pw da f::bV 104 pw g::bh x m::ac t 39 (aA x)::af 44 o 1 iP (k.set n (dB b))::As):=M.up Y.ae;refine⟨_,i4,bo (λee=>next g f (by unfold iA;rw[F];(try dsimp only);rw[hU a0,g9 (ii ee)]) i4 H8) λee=>?_⟩;have br:=of_decide_eq_false ee;have H9:aa B h0 h8 (dI r7 (fS m d)::eN ba pw da f::bV 104 pw g::bh x m::ac t 39 (aA x)::af 44 o 1 iP (k.set n (dB b))::As):=(M.cb R7).up R8.ae;obtain⟨rs,H9⟩:=H9.Oq λ_=>rfl;obtain⟨b',D,al⟩:=(H9.gV).Za A;rw[E]at D;injection D with D
    injection D with D
    subst D;have al:=al.aO 4 [0,3,1,2];refine(uB r7 (fS m d) al (St.eG 1 i4 λh' hq=>?_) i5 λc hc=>by rw[Jp m d c hc];decide).mono ?_
    ·exact⟨rs,hq.1,hq.2.1,hq.2.2⟩
    rintro _ a6 ⟨rfl,bd⟩;have u:iA m g f n=((d.rewrite g (fS m d)).1,(d.rewrite g (fS m d)).2.1,ck f n (d.rewrite g (fS m d)).2.2):=by unfold iA;rw[F];(try dsimp only);rw[hU a0,hU br]
    have a3:aa B h0 a6 (eN ba pw da (f.set n (dB (d.rewrite g (fS m d)).2.2))::bV 104 pw (d.rewrite g (fS m d)).2.1::bh x m::ac t 39 (aA x)::af 44 o 1 iP (k.set n (dB b))::As):=aa.ags E (bd.aO 7 [0,2,1,4,5,6]);have a7:ck f (n:Int) (d.rewrite g (fS m d)).2.2=f.set n (dB (d.rewrite g (fS m d)).2.2):=by unfold ck;rw[qj]
    rw[a7]at u;refine⟨_,i4,bx (λG=>V ⟨λ_=>?_,λa1=>?_⟩) λG=>next _ _ (by rw[u,G]) jj a3⟩
    ·have:opens m m.drives w ds=iA m g f n:=by rw[I,q,u,hU G]
     rw[this,u];exact⟨i4,a3.aO 5 [0,1]⟩
    ·exfalso;have:opens m m.drives w ds=iA m g f n:=by rw[I,q,u,hU G]
     rw[this,u]at a1;exact G a1
 ·have e':¬(j:Int)<(x.2.2.2.2.2.2.1.len:Int):=e;have ax:j=i0 m.drives:=i5
  have S:opens m m.drives w ds=(0,g,f):=by rw[I,ax,yu];rfl
  obtain⟨lw,b4,M⟩:=aa.tJ (R.gV:aa B h0 h5 (bV 104 pw g::eN ba pw da f::_));have bl:k=gj (ni m) da:=by
   refine zq λi=>?_;by_cases T:i<64
   ·rw[K i T,oP _ _ _ T,ax,List.take_length];unfold ni;by_cases U:(i:Int)∈m.drives
    ·rw[g9 U,hY U];rfl
    ·rw[hU U,hZ U];rfl
   ·rw[qI i5,qI (by rw[Ap];omega)]
  refine⟨x,(R.box 3 i4).aF _ i4,(RJ (w:=g) x m lw o k h5 hx hM (R.seq 4 i4 λ_=>rfl) W (M.box 0 i4)).mono ?_⟩;rintro _ h7 ⟨a,y,rfl,R7⟩;refine⟨dB a,i4,V ⟨λU=>absurd (by rw[S]) U,λ_=>⟨a,i4,?_⟩⟩⟩;rw[S]
  try dsimp only
  have e1:(eN ba pw da f::bV 104 pw g::bh x m::ac t 39 (aA x)::af 44 o 1 iP k::As)++[bh y m,ac a 92 (bQ (aA y) pw g.offs k)]=((eN ba pw da f::bV 104 pw g::bh x m::ac t 39 (aA x)::af 44 o 1 iP k::As)++[bh y m])++[ac a 92 (bQ (aA y) pw g.offs k)]:=jj
  have H7:=R.comp R7;rw[e1,bl]at H7;have H8:aa B h0 h7 ((ac a 92 (bQ (aA y) pw g.offs (gj (ni m) da))::eN ba pw da f::bV 104 pw g::bh x m::ac t 39 (aA x)::af 44 o 1 iP (gj (ni m) da)::As)++[bh y m]):=H7.be;have H9:aa B h0 h7 (eN ba pw da f::bV 104 pw g::ac a 92 (bQ (aA y) pw g.offs (gj (ni m) da))::bh y m::As):=H8.be.aO 7 [2,3,1,0];exact lZ (aa.Zc i4 (Ap _ _) (aa.agt (ni m) i5 H9))
end
theorem VJ{m:av}(b:bf m=eX)(l:bP):gI m (bO m l)=eX:=by unfold gI;rw[b,zX];exact qJ.2 λc a=>hY (zR _ a)
theorem aeq{m:av}{d:aZ}(a:d.lost=fz)(c:i0 (bO m d.l)<=d.room):(rK m d).lost=fz/\(rK m d).l=bO m d.l:=by
 have b:fS m d=bO m d.l:=by unfold fS;rw[g9 c]
 unfold rK;split
 ·rename_i h;rcases h with h|h
  ·rw[a]at h;cases h
  ·exact⟨a,h.trans b⟩
 ·exact⟨a,b⟩
theorem Ze{D:aE}(c:i0 D=64){d:aZ}(h:dB d∈D):∃k,aV D k=dB d:=by obtain⟨i,b,a⟩:=qB h;refine⟨(i:Int),?_⟩;unfold aV;rw[g9 i5,qj,qc b,a];rfl
theorem at_mem{D:aE}{d:aZ}{k:Int}(h:aV D k=dB d):dB d∈D:=by
 unfold aV at h;split at h
 ·cases hx:D[k.toNat]? with
  |none=>rw[hx]at h;cases h
  |some o=>rw[hx]at h;have:o=dB d:=h;rw[<-this];exact zY hx
 ·cases h
structure ahL (m:av) (d:aZ):Prop where
 lost:d.lost=fz
 room:d.room=90
 len:i0 d.l<=40
 few:i0 (gf d.l)<20
theorem Fa(H:Hi M m ds){k:Int}{d:aZ}(h:aV ds k=dB d){x:av}(j:x∈gf d.l):x=M x.seq/\(1<=x.seq/\x.seq<=m.seq)/\k∈x.drives/\bf x=eX:=by
 obtain⟨f,r⟩:=Hk j;have i:=Cw f;have e:=iS f i;obtain⟨a,b,c⟩:=H.pg k d h (nI x 0).cell (r _ (by rw[jb];exact qo.2 ⟨0,qA.2 i,i4⟩)) _ e;have a:1<=x.seq/\x.seq<=m.seq:=a;have c:k∈(M x.seq).drives:=c;obtain⟨q,n,_⟩:=H.ok x.seq a.1 a.2;have o:x=M x.seq:=LB q (λc p g e s=>by
  have:=(H.pg k d h c p g e).2.1;rw[s,n]at this;exact this) j n.symm
 exact⟨o,a,by rw[o];exact c,f⟩
theorem VK{c:List Pg}{out:List av}{x:Pg}(h:out.Nodup):(dY c out x).Nodup:=by
 unfold dY;split
 ·exact h
 ·split
  ·exact h
  ·split
   ·exact h
   ·split
    ·exact h
    ·rename_i m _ f;refine List.nodup_append.2 ⟨h,jj,λa d b g e=>f ?_⟩;rw[qu.1 g]at e;exact wg.2 ⟨a,d,hY (by rw[e])⟩
theorem Jt{a:List Pg}:∀(xs:List Pg) {out:List av},out.Nodup->(xs.foldl (dY a) out).Nodup
 |[],_,h=>h
 |x::xs,_,h=>Jt xs (VK h)
theorem VL(l:bP):(gf l).Nodup:=(List.mergeSort_perm _ _).nodup_iff.2 (Jt _ List.nodup_nil)
theorem abE(H:Hi M m ds)(j:m.seq<=10){k:Int}{d:aZ}(c:aV ds k=dB d):i0 (gf d.l)<20:=by
 have h:((gf d.l).map av.seq).Nodup:=yj.2 ((VL d.l).imp_of_mem λ{a b} ha hb hne e=>hne (by rw[(Fa H c ha).1,(Fa H c hb).1,e]));have:=CD h (m:=(qx 11).map λi:Nat=>(i:Int)) λq f=>by
  obtain⟨x,g,rfl⟩:=qo.1 f;have:=(Fa H c g).2.1;exact qo.2 ⟨x.seq.toNat,qA.2 i5,i5⟩
 simp only[qq,zt]at this;omega
theorem Zf{α β:Type}{f:α->Option β}{g:β->α}:∀{l:List β},(∀r∈l,f (g r)=dB r)->(l.map g).filterMap f=l
 |[],_=>rfl
 |r::l,h=>by
  rw[zO,List.filterMap_cons,h r qM]
  try dsimp only
  rw[Zf λx a=>h x (qD _ a)]
theorem abF(m:av)(l:bP):(ft m l).Pairwise ltC:=by
 have f:=Rp m l;have g:(ft m l).Pairwise λa b=>mF a b=eX:=by
  unfold ft;obtain⟨L,e⟩:∃L,L=(l.filterMap (gN m)).mergeSort mF:=⟨_,rfl⟩
  have i:L.Pairwise λa b=>mF a b=eX:=by rw[e];exact List.pairwise_mergeSort NC.1 NC.2 _
  rw[<-e];unfold nK;refine yj.2 ((List.pairwise_lt_range.filter _).imp_of_mem λ{a b} c d hab=>?_);have c:=qA.1 (qF.1 c).1;have d:=qA.1 (qF.1 d).1;rw[qd,qd,qc c,qc d];exact List.pairwise_iff_getElem.1 i a b c d hab
 exact(g.and f).imp λh=>h
theorem Zg(m:av)(l:bP):bO m (bO m l)=bO m l:=by
 have e:ft m (bO m l)=ft m l:=by
  have:(bO m l).filterMap (gN m)=ft m l:=by
   unfold bO jt;rw[List.filterMap_append,Ui,zV];refine Zf λr d=>?_;obtain⟨_,a,b⟩:=Aj d;unfold gN;rw[a]
   try dsimp only
   rw[g9 b]
  conv=>lhs;unfold ft
  rw[this];exact Ql (abF m l)
 have h:∀c,bO m c=aM m++(ft m c).map cW:=λ_=>rfl;rw[h (bO m l),e];rfl
theorem RK(d:bf m=eX):(aM m).Nodup:=by
 rw[jb];refine yj.2 (List.nodup_range.imp_of_mem λ{a b} ha hb hne e=>hne ?_);have c:=iS d (qA.1 ha);rw[e,iS d (qA.1 hb)]at c;injection c with c
 have:((b:Nat):Int)=a:=congrArg Pg.num c;omega
theorem Zh(d:bf m=eX){l:bP}(a:gI m l=eX):i0 (bO m l)<=i0 l:=by
 have f:=PP m l;have g:=LS m l;have h3:i0 (aM m)<=i0 (l.filter λc=>!(dO c).isSome):=CD (RK d) λc b=>by
  refine qF.2 ⟨?_,by rw[nS b];rfl⟩;unfold gI at a;rw[qy,qJ]at a;exact ii (a.2 c b)
 have e:i0 l=jE l+i0 (l.filter λc=>!(dO c).isSome):=by
  rw[<-List.countP_eq_length_filter];unfold jE;rw[List.length_eq_countP_add_countP λc=>(dO c).isSome];congr 2;funext c
  cases(dO c).isSome<;>rfl
 omega
def gn(m:av):aB->Pow->aE->Int×Pow×aE
 |[],w,ds=>(0,w,ds)
 |k::l,w,ds=>match aV ds k with
  |none=>gn m l w ds
  |some d=>if d.l=bO m d.l then gn m l w ds else
   if(d.rewrite w (bO m d.l)).1=0 then gn m l (d.rewrite w (bO m d.l)).2.1 (ck ds k (d.rewrite w (bO m d.l)).2.2)
   else((d.rewrite w (bO m d.l)).1,(d.rewrite w (bO m d.l)).2.1,ck ds k (d.rewrite w (bO m d.l)).2.2)
theorem RL(a b:Sl)(c f:bP)(h:g0)(p:eT h a 1 az c)(q:eT h b 1 az f)(z:i0 c<=2^30):
  an xP 45 #[a,b,.func (.func 46) #[] #[]] h λv h'=>v=xJ (decide (c=f))/\h'=h:=by
 refine ts Tryz.func45 ?_ (.two .n (.two .n (.two (.two .n (.inn (.loop [(17,aQ)] [(6,10),(17,32)] .n))) .n))) (args:=[a,b,(.func (.func 46) #[] #[])]);have l:=p.len;have j:=q.len;refine bx (λe=>⟨?_,i4⟩) λe=>?_
 ·rw[hZ λh=>e (by rw[l,j,h])]
 have u:i0 c=i0 f:=i5
 refine aq (λi:Nat=>(i:Int)) (λi h'=>i<=i0 c/\c.take i=f.take i/\h'=h) (λi=>i0 c-i) 0 i4 ⟨i5,jj,i4⟩ ?_;rintro i s ⟨y,k,rfl⟩;refine ag (λg=>?_) (λg=>?_)
 ·have d:i<i0 c:=by have w:(i:Int)<(a.len:Int):=g;omega
  refine p.get i i4 d λr t=>q.get i i4 i5 λx o=>dT lb ?_;refine(jY r x _ _ s t o).mono ?_;rintro _ _ ⟨rfl,rfl⟩;refine⟨_,i4,aR (λm=>⟨?_,i4⟩) λm=>?_⟩
  ·rw[hZ λh=>of_decide_eq_false m (by simp only[h])]
  ·refine⟨i+1,j1,⟨i5,?_,i4⟩,i5⟩;rw[aD _ _ d,aD _ _ (show i<i0 f by omega),k,ii m]
 ·have w:¬(i:Int)<(a.len:Int):=g;rw[qg i5,qg i5]at k;exact⟨by rw[hY k],i4⟩
abbrev db(a:f8)(y:bm)(b:Sl)(t most k:Int):aT:=xH (dB a)::(aA y++[xG b.ptr b.len b.cap,xF xL t,xF xL most,xF xL k])
variable {offs:Int}
section
variable {pw:f8}
theorem RM{k:Int}{d:aZ}{b:f8}(x:Sl)(l:bP)(u:St B h0 As λh=>eT h x 1 az l)(s:i0 l<=2^20)(i:∀c∈l,i0 c<=2^20)(f:aV ds k=dB d)(j:iG da k=dB b)(H:aa B h0 h (bD a pw da offs w ds m::As)):
  an xP 47 #[xH (dB b),x] h λv h'=>v=xF xL (d.rewrite w l).1/\aa B h0 h' (bD a pw da offs (d.rewrite w l).2.1 (ck ds k (d.rewrite w l).2.2) m::As):=by
 obtain⟨y,H⟩:=fO H;obtain⟨ok,_⟩:=aa.cK H;obtain⟨n,rfl,E⟩:=lL f;have t:ds[n]?=dB (dB d):=by
  unfold aV at f;rw[g9 i5,qj]at f;cases hX:ds[n]? with
  |none=>rw[hX]at f;cases f
  |some o=>rw[hX]at f;exact congrArg dB f
 obtain⟨A,g,D⟩:=Qw.aa.kC H t;have p:A=b:=by unfold iG at j;rw[g9 i5,qj,g]at j;injection j
 subst p;refine(uB x l D (λBs h' z=>(u.cons.cons) Bs h' z) s i).mono ?_;rintro _ h' ⟨rfl,r⟩;have q:=Qw.aa.uw (k:=ba) (n:=n) g r;refine⟨i4,?_⟩;have e:ck ds (n:Int) (d.rewrite w l).2.2=ds.set n (dB (d.rewrite w l).2.2):=by simp only[ck,qj]
 rw[e];exact lZ q
theorem Mt{m:av}{l:bP}(b:cF m)(d:i0 l<=512):i0 (bO m l)<=4000/\∀c∈bO m l,i0 c<=64:=by
 refine⟨?_,λc a=>?_⟩
 ·have:=jI m b;have:=tj m l;unfold bO;rw[qw];omega
 ·unfold bO at a;rcases qz.1 a with a|a
  ·exact Nat.le_of_eq (sV a)
  ·exact Ge a
theorem VM{c:f8}(y:bm)(Q:Sl)(live:aB)(t most k:Int)(hm:bf m=eX)(hl:i0 live<=64)(r:∀k∈live,∃d,aV ds k=dB d)
  (Y:St B h0 As λh=>bY h c 84 (db a y Q t most k)/\dh h y m/\Rd h Q 1 ak live) (H:aa B h0 h (bD a pw da offs w ds m::As)):
  an xP 40 #[xH (dB c)] h λv h'=>v=xF xL (gn m live w ds).1/\aa B h0 h' (bD a pw da offs (gn m live w ds).2.1 (gn m live w ds).2.2 m::As):=by
 refine ts Tryz.func40 ?_ (.two .n (.two (.two .n (.inn (.loop [(13,aQ)] [(2,3),(4,8),(13,40)] .n))) .n));have W:=iC hm;have D:=Y.at [_] H;have Z:=D.2.2.len;refine⟨c,i4,Q,D.1.cell i4,?_⟩;refine aq (λt:Nat×Pow×aE=>(t.1:Int)) (λt h'=>t.1<=i0 live/\(∀k∈live,∃d,aV t.2.2 k=dB d)/\gn m live w ds=gn m (live.drop t.1) t.2.1 t.2.2/\aa B h0 h' (bD a pw da offs t.2.1 t.2.2 m::As)) (λt=>i0 live-t.1) (0,w,ds) i4 ⟨i5,r,i4,H⟩ ?_;rintro⟨i,o,ds1⟩ h1 ⟨hi,f,j,p⟩;dsimp only at hi f j p⊢;obtain⟨x,hy,M⟩:=Y.at [_] p;refine ag (λe=>?_) λe=>?_
 ·have q:i<i0 live:=i5
  obtain⟨d,u⟩:=f live[i] (qf q);obtain⟨b,K⟩:=Ta u p;refine M.bt i i4 q live[i] i4 ⟨c,i4,dB a,x.cell0 i4,(LL _ p).mono ?_⟩;rintro _ h2 ⟨rfl,rfl⟩;rw[K];obtain⟨s,bl,P,U,I⟩:=PA u K p;have V:=I.len;have J:=I.room;obtain⟨k1,k2⟩:=Mt W (show d.l.length<=512 by omega);refine⟨_,i4,c,i4,y,x.cells 1 _ i4,(Ae s bl y m P U I hy W).mono ?_⟩;rintro _ h3 ⟨g,rfl,F⟩;refine⟨g,i4,(uu s bl (P.ae F.ae P.lt) (U.up F.ae) I).mono ?_⟩;rintro _ X ⟨z,rfl,O⟩;have T:eT X g 1 az (bO m d.l):=(F.rP λ_=>rfl).up O.ae;refine⟨z,i4,(RL z g _ _ X (O.rP λ_=>rfl) T i5).mono ?_⟩;rintro _ h5 ⟨rfl,rfl⟩;have N:live.drop i=live[i]::live.drop (i+1):=qK q;have H3:=(p.cb F).up O.ae;refine⟨_,i4,ag (λE=>?_) λE=>?_⟩
  ·refine⟨(i+1,o,ds1),j0,⟨i7,f,?_,H3.aO 1 []⟩,i7⟩;rw[j,N];show gn m (live[i]::live.drop (i+1)) o ds1=gn m (live.drop (i+1)) o ds1;rw[gn,u]
   try dsimp only
   rw[g9 E]
  ·obtain⟨rs,R⟩:=H3.Oq λ_=>rfl;have R:aa B h0 h5 (bD a pw da offs o ds1 m::cM (cm 1 az) 1 bg g rs (bO m d.l)::As):=R.aO 2 [1,0];refine(RM g (bO m d.l) (St.eG (A:=cM (cm 1 az) 1 bg g rs (bO m d.l)) 0 i4 λh' S=>⟨rs,S.1,S.2.1,S.2.2⟩) i5 (λc hc=>by have:=k2 c hc;omega) u K R).mono ?_;rintro _ h6 ⟨rfl,G⟩;have G:=G.aO 2 [0];refine⟨_,i4,bx (λL=>?_) λL=>?_⟩
   ·have ec:gn m live w ds=((d.rewrite o (bO m d.l)).1,(d.rewrite o (bO m d.l)).2.1,ck ds1 live[i] (d.rewrite o (bO m d.l)).2.2):=by
     rw[j,N,gn,u]
     try dsimp only
     rw[hU E,hU L]
    rw[ec];exact⟨i4,G⟩
   ·refine⟨(i+1,(d.rewrite o (bO m d.l)).2.1,ck ds1 live[i] (d.rewrite o (bO m d.l)).2.2),j0,⟨i7,λk hk=>?_,?_,G⟩,i7⟩
    ·try dsimp only
     rw[ng (ka p).1 u];split
     ·exact⟨_,i4⟩
     ·exact f k hk
    ·try dsimp only
     rw[j,N,gn,u]
     try dsimp only
     rw[hU E,g9 (by simpa using L)]
 ·have:i=i0 live:=i5
  subst this;rw[yu]at j;rw[j];exact⟨i4,p⟩
end
def mD(W:ct)(id:Int):Bool:=W.any λl=>decide (id∈l)
def AM(W:ct):Nat:=W.flatten.foldr (λx a=>max a x.toNat) 0
theorem PT{x:Int}:∀{l:aB},x∈l->x.toNat<=l.foldr (λx a=>max a x.toNat) 0
 |[],h=>k9
 |y::l,h=>by
  rw[List.foldr_cons];rcases List.mem_cons.1 h with rfl|h
  ·omega
  ·have:=PT h;omega
theorem KC{W:ct}{x:Int}(h:x∈W.flatten):x.toNat<=AM W:=PT h
theorem KD{W:ct}{i:Nat}(h:mD W (i:Int)=eX):i<=AM W:=by unfold mD at h;rw[wg]at h;obtain⟨l,a,b⟩:=h;have:=KC (xf.2 ⟨l,a,ii b⟩);omega
def pG(W:ct):Nat->Nat->Nat
 |0,i=>i
 |f+1,i=>if mD W (i:Int)then pG W f (i+1)else i
def iL(W:ct):Nat:=pG W (AM W+1) 0
theorem AN(W:ct):∀f i,AM W<f+i->mD W (pG W f i:Int)=fz/\i<=pG W f i/\∀j,i<=j->j<pG W f i->mD W (j:Int)=eX
 |0,i,h=>by
  refine⟨?_,ql _,λj g d=>absurd d (by unfold pG;omega)⟩;cases e:mD W ((pG W 0 i:Nat):Int)with
  |false=>rfl
  |true=>have:=KD e;unfold pG at this;omega
 |f+1,i,h=>by
  unfold pG;cases e:mD W (i:Int)with
  |false=>rw[hU i6];exact⟨e,ql _,λj g d=>i5⟩
  |true=>
   rw[g9 rfl];obtain⟨a,b,c⟩:=AN W f (i+1) i5;refine⟨a,i5,λj g d=>?_⟩;by_cases k:j=i
   ·rw[k];exact e
   ·exact c j i5 d
theorem Zi(W:ct):mD W (iL W:Int)=fz:=(AN W _ 0 i5).1
theorem LW{W:ct}{j:Nat}(h:j<iL W):mD W (j:Int)=eX:=(AN W _ 0 i5).2.2 j (zi _) h
theorem VN{W:ct}{i:Nat}(a:mD W (i:Int)=fz)(b:∀j,j<i->mD W (j:Int)=eX):iL W=i:=by
 rcases Nat.lt_trichotomy (iL W) i with h|h|h
 ·have:=b _ h;rw[Zi W]at this;cases this
 ·exact h
 ·have:=LW h;rw[a]at this;cases this
theorem PU(W:ct):iL W<=AM W+1:=by
 cases e:iL W with
 |zero=>omega
 |succ n=>have:=KD (LW (W:=W) (j:=n) i5);omega
def kJ(live:aB)(s:Int):Int:=match live.idxOf? s with|some k=>(k:Int)|none=>-1
def nl(m:av)(c:aL)(w:Pow)(ds:aE)(s:Int)(d:aZ):Int×Pow×aE:=
 let r:=ge m w d 1
 if r.1≠0 then(r.1,r.2.1,ck ds s r.2.2)else
  let q:=r.2.2.append r.2.1 c
  (q.1,q.2.1,ck (ck ds s r.2.2) s q.2.2)
def kK(m:av)(live set:aB)(a:aB)(c:aL)(id:Nat)(w:Pow)(ds:aE):List Nat->(Int×Pow×aE)×Int×Int
 |[]=>((7,w,ds),0,0)
 |i::l=>
  let s:=jh a ((id:Int)+i)
  match aV ds s with
  |none=>kK m live set a c id w ds l
  |some d=>if kJ live s∈set∨jB m d 1=fz then kK m live set a c id w ds l
   else(nl m c w ds s d,kJ live s,s)
structure lH where
 o:Int
 b:Int
 seed:Int
 M:aJ
 W:ct
 got:aB
 deriving Inhabited
def lH.Zj(x:lH)(m:av)(id:Nat):dm:=⟨x.o,x.b,id,m.p,x.seed,if bW id then fV m.p.2.2.toNat x.M (dD (bN m.p).toNat x.seed id)else[]⟩
def lH.CG(x:lH)(id:Nat)(k s:Int):lH:={x with W:=x.W.set k.toNat (x.W.getD k.toNat []++[(id:Int)]),got:=x.got++[s]}
def iT(m:av)(live set:aB)(w:Pow)(ds:aE)(x:lH):Int×Pow×aE×lH:=
 let id:=iL x.W;let o:=ey x.o x.b live;let r:=kK m live set o (cW (x.Zj m id)) id w ds (qx o.length)
 (r.1.1,r.1.2.1,r.1.2.2,if r.1.1=0 then x.CG id r.2.1 r.2.2 else x)
def fW(m:av)(live:aB)(t most:Int):Nat->Pow->aE->lH->Int×Pow×aE×lH
 |0,w,ds,x=>(12,w,ds,x)
 |f+1,w,ds,x=>
  let r:=gD m.p x.seed x.W t
  if r.2.2≠0 then(r.2.2,w,ds,x)else if r.2.1=fz then(0,w,ds,x)else if(i0 x.got:Int)>=most then(12,w,ds,x)else
   let q:=iT m live r.1 w ds x
   if q.1≠0 then q else fW m live t most f q.2.1 q.2.2.1 q.2.2.2
theorem RN(l:Sl)(r:aB)(c:f8)(x:Int)(h:g0)(a:bY h c 3 [xF xL x])(d:Rd h l 1 ak r)(b:i0 r<=2^30):
  an xP 280 #[l,xH (dB c)] h λv h'=>v=xJ (decide (x∈r))/\h'=h:=by
 refine ts Tryz.func280 ?_ (args:=[l,c]);refine⟨x,a.cell0 i4,(sH l r x h d b).mono ?_⟩;rintro _ _ ⟨rfl,rfl⟩;exact⟨_,i4,i4,i4⟩
theorem RO(s:Sl)(W:ct)(c:f8)(x:Int)(h:g0)(m:bY h c 3 [xF xL x])(j:eT h s 1 ak W)(q:i0 W<=2^20)(n:∀l∈W,i0 l<=2^20):
  an xP 279 #[s,.func (.func 280) #[] #[xH (dB c)]] h λv h'=>v=xJ (mD W x)/\h'=h:=by
 refine ts Tryz.func279 ?_ (args:=[s,(.func (.func 280) #[] #[xH (dB c)])]);refine(oQ s (280,#[],#[xH (dB c)]) (R:=λv h'=>(∃i:Int,v=xF xL i/\(decide (i>=0)=mD W x))/\h'=h) ?_).mono ?_
 ·skip
  have o:=j.len;refine aq (λi:Nat=>(i:Int)) (λi h'=>i<=i0 W/\mD (W.take i) x=fz/\h'=h) (λi=>i0 W-i) 0 i4 ⟨i5,by simp[mD],i4⟩ ?_;rintro i k ⟨g,b,rfl⟩;refine ag (λe=>?_) λe=>?_
  ·have a:i<i0 W:=by have p:(i:Int)<(s.len:Int):=e;omega
   refine j.get i i4 a λr d=>dT lb ?_;refine(RN r W[i] c x k m d (by have:=n _ (qf a);omega)).mono ?_;rintro _ _ ⟨rfl,rfl⟩;refine⟨_,i4,ag (λf=>⟨⟨i,i4,?_⟩,i4⟩) λf=>?_⟩
   ·rw[hY (show(i:Int)>=0 by omega)]
    symm
    unfold mD;rw[wg];exact⟨_,qf a,hY f⟩
   ·refine⟨i+1,j1,⟨i5,?_,i4⟩,i5⟩;unfold mD at b⊢;rw[aD _ _ a,List.any_append,b,List.any_cons,List.any_nil,hZ f];rfl
  ·have p:¬(i:Int)<(s.len:Int):=e;rw[qg i5]at b;exact⟨⟨-1,i4,by rw[b];rfl⟩,i4⟩
 ·rintro _ _ ⟨⟨i,rfl,g⟩,rfl⟩;exact⟨i,i4,by rw[g],i4⟩
abbrev gv(x:lH)(a:cj)(wS gS:Sl):aT:=[xF xL x.o,xF xL x.b,xF xN x.seed,.pointer a,wS,gS]
theorem RP(b:f8)(x:lH)(t:cj)(wS gS:Sl)(h:g0)(k:bY h b 155 (gv x t wS gS))(q:eT h wS 1 ak x.W)(p:i0 x.W<=2^20)(s:∀l∈x.W,i0 l<=2^20)(y:AM x.W<=2^40):
  an xP 212 #[xH (dB b)] h λv h'=>v=xF xL (iL x.W)/\Sp h h' []:=by
 refine ts Tryz.func212 ?_ (.two .n (.two .n (.two (.inn (.loop [] [(4,12)] .n)) .n)));refine(Sp.refl h).alloc aj i4 λc z u=>?_;refine u.storeAll aj 0 i4 i4 [xF xL 0] i4 i4 i4 i4 λA m=>?_;refine aq (λ_:Nat=>()) (λi h'=>i<=AM x.W+1/\(∀j,j<i->mD x.W (j:Int)=eX)/\Sp h h' [ac c 3 [xF xL i]]) (λi=>AM x.W+1-i) 0 i4 ⟨i5,λj o=>i5,m⟩ ?_;rintro i h3 ⟨w,a,d⟩;refine⟨b,i4,wS,(k.ae d.ae k.lt).cell i4,(RO wS x.W c i h3 (d.box 0 i4) (q.up d.ae) p s).mono ?_⟩;rintro _ _ ⟨rfl,rfl⟩;refine⟨_,i4,bo (λe=>?_) λe=>?_⟩
 ·have:=KD e;refine⟨i,(d.box 0 i4).cell0 i4,d.storeAll aj 0 i4 i4 [xF xL (qe xL ((i:Int)+1))] i4 i4 i4 i4 λr f=>?_⟩;refine⟨i+1,i4,⟨i5,λj o=>?_,?_⟩,i5⟩
  ·by_cases g:j=i
   ·rw[g];exact e
   ·exact a j i5
  ·have f:Sp h r [ac c 3 [xF xL (qe xL ((i:Int)+1))]]:=f;rw[ai _]at f;exact f
 ·refine⟨i,(d.box 0 i4).cell0 i4,?_,.zip d.ae⟩;rw[VN e a]
section
variable {pw:f8}
theorem abG{k:Int}{d:aZ}{b:f8}(y:bm)(n:Int)(e:aV ds k=dB d)(f:iG da k=dB b)(l:dh h y m)(i:cF m)(H:aa B h0 h (bD a pw da offs w ds m::As)):
  an xP 123 #[xH (dB b),dz y,xF xL n] h λv h'=>v=xJ (jB m d n)/\Sp h h' []:=by
 obtain⟨s,j,g,c,o⟩:=PA e f H;exact Et s j y m n g c c.len o l i
theorem LX{k:Int}{d:aZ}{b:f8}(c:aV ds k=dB d)(j:iG da k=dB b)(H:aa B h0 h (bD a pw da offs w ds m::As)):
  ∃p A2:HP,aa B h0 h (jX pw b d::bV 104 pw w::p::A2::As)/\
   ∀h' i g,aa B h0 h' (jX pw b g::bV 104 pw i::p::A2::As)->aa B h0 h' (bD a pw da offs i (ck ds k g) m::As):=by
 obtain⟨y,H⟩:=fO H;obtain⟨n,rfl,v⟩:=lL c;have s:ds[n]?=dB (dB d):=by
  unfold aV at c;rw[g9 i5,qj]at c;cases hX:ds[n]? with
  |none=>rw[hX]at c;cases c
  |some o=>rw[hX]at c;exact congrArg dB c
 obtain⟨t,f,u⟩:=Qw.aa.kC H s;have l:t=b:=by unfold iG at j;rw[g9 i5,qj,f]at j;injection j
 subst l;refine⟨_,_,u,λh' i g r=>?_⟩;have q:=Qw.aa.uw (k:=ba) (n:=n) f r;have e:ck ds (n:Int) g=ds.set n (dB g):=by simp only[ck,qj]
 rw[e];exact lZ q
theorem abH{k:Int}{d:aZ}{b:f8}(y:bm)(n:Int)(i:St B h0 As λh=>dh h y m)(g:cF m)(c:aV ds k=dB d)(f:iG da k=dB b)(H:aa B h0 h (bD a pw da offs w ds m::As)):
  an xP 124 #[xH (dB b),dz y,xF xL n] h λv h'=>v=xF xL (ge m w d n).1/\aa B h0 h' (bD a pw da offs (ge m w d n).2.1 (ck ds k (ge m w d n).2.2) m::As):=by
 obtain⟨l,A2,j,back⟩:=LX c f H;refine(Lp y m n i.cons.cons g j).mono ?_;rintro _ h' ⟨rfl,e⟩;exact⟨i4,back _ _ _ e⟩
theorem VO{k:Int}{d:aZ}{b:f8}(x:Sl)(row:aL)(g:Rd h x 1 az row)(i:i0 row<=2^20)(c:aV ds k=dB d)(f:iG da k=dB b)(H:aa B h0 h (bD a pw da offs w ds m::As)):
  an xP 107 #[xH (dB b),x] h λv h'=>v=xF xL (d.append w row).1/\aa B h0 h' (bD a pw da offs (d.append w row).2.1 (ck ds k (d.append w row).2.2) m::As):=by
 obtain⟨l,A2,j,back⟩:=LX c f H;refine(FX x row j g i).mono ?_;rintro _ h' ⟨rfl,e⟩;exact⟨i4,back _ _ _ e⟩
theorem abI(s:Sl)(l:aB)(e:St B h0 As λh=>Rd h s 1 ak l)(d:i0 l<=2^30)(b:∀x∈l,0<=x/\x<64)(H:aa B h0 h (bD a pw da offs w ds m::As)):
  an xP 95 #[.func (.func 13) #[xH (dB a)] #[],s] h λv h'=>v=xF xL (gM (dK l) w ds).1/\aa B h0 h' (bD a pw da offs (gM (dK l) w ds).2.1 (gM (dK l) w ds).2.2 m::As):=by
 obtain⟨y,H⟩:=fO H;refine(It s l e.cons d b H).mono ?_;rintro _ h' ⟨rfl,c⟩;exact⟨i4,lZ c⟩
theorem RQ(y:bm)(s:Sl)(cg:aB)(o b:Int)(e:dh h y m)(g:cF m)(j:Rd h s 1 ak cg)(f:i0 cg<=2^10)(c:∀k∈cg,∃d,aV ds k=dB d)(H:aa B h0 h (bD a pw da offs w ds m::As)):
  an xP 85 #[.func (.func 13) #[xH (dB a)] #[],s,dz y,xF xL o,xF xL b] h λv h'=>∃(r:Sl) (i:List (Int×Sl)),v=r/\Sp h h' [cM jm 2 piv r i (eC m ds cg o b)]:=by
 obtain⟨x,H⟩:=fO H;exact uJ y m s cg o b e g j f c H
end
theorem CH(ds:aE)(k:Int)(d e:aZ):ck (ck ds k d) k e=ck ds k e:=by unfold ck;rw[yy]
theorem abJ{live:aB}{s i:Int}(f:0<=i↔s∈live)(k:0<=i->live[i.toNat]?=dB s/\∀j,j<i.toNat->live[j]?≠dB s)(h3:-1<=i):kJ live s=i:=by
 unfold kJ;by_cases c:0<=i
 ·obtain⟨a,b⟩:=k c;have e:live.idxOf? s=dB i.toNat:=by unfold List.idxOf?;rw[List.findIdx?_eq_some_iff_getElem];obtain⟨l,d⟩:=qk.1 a;refine⟨l,by rw[d];simp,λj m=>?_⟩;have:=b j m;rw[qc i5]at this;simpa using λh=>this (by rw[h])
  rw[e]
  try dsimp only
  omega
 ·have e:live.idxOf? s=eH:=by unfold List.idxOf?;rw[List.findIdx?_eq_none_iff];intro z g;have:s∉live:=λh=>c (f.2 h);simp only[beq_eq_false_iff_ne];rintro rfl;exact this g
  rw[e]
  try dsimp only
  omega
theorem RR(k:Int)(b:aL):i0 (eI k b)<=64:=by
 by_cases h:1<=k/\k<=255/\b.length<=55
 ·rw[mu h.1 h.2.1 h.2.2];exact ql _
 ·unfold eI;rw[hU h];exact zi _
theorem Tf{o:aB}{i:Int}(a:o≠[])(c:0<=i:=by omega):jh o i∈o:=by unfold jh;rw[hU λh=>h.elim a λh=>i5];have b:0<i0 o:=vI.2 a;have d:=Int.emod_nonneg i (show(i0 o:Int)≠0 by omega);have e:=Int.emod_lt_of_pos i (show(0:Int)<i0 o by omega);unfold IJ;rw[qd,qc i5];exact qf _
theorem Ju{o b s:Int}{l:aB}(h:s∈ey o b l):s∈l:=by
 unfold ey at h;split at h
 ·exact((Ey _ _ _).1 h).1
 ·cases h
theorem abK(l:aB):i0 (iw l)<=i0 l:=by
 have:=OS l l.length
 rwa [qg (ql _)]at this
theorem VP(o b:Int)(l:aB):i0 (ey o b l)<=i0 l:=by
 unfold ey;split
 ·rw[(Co _ _).length_eq];exact abK l
 ·simp
structure sj (m:av) (live:aB) (x:lH):Prop where
 seed:0<=x.seed/\x.seed<4294967296
 ev:aS m.p.2.2.toNat x.M
 ml:i0 x.M=(bN m.p).toNat
 wl:i0 x.W=i0 live
 rl:∀l∈x.W,i0 l<=2^12+i0 x.got
 top:AM x.W<=2^20+i0 x.got
 gl:i0 x.got<=64
 gi:∀s∈x.got,s∈live
theorem Seq.aer{h:g0}{p:aw}{s:Sl}{rs:List Sl}(g:Qw.Seq h p s 1 bg rs){n:Nat}(i:n<i0 rs){a:f8}(e:s.ptr=dB a):cellOf h (a.add (n*1))=dB (.slice rs[n].ptr rs[n].len rs[n].cap):=by
 obtain⟨b,o,c,j,f⟩:=g.elem n rs[n] (qc i);rw[e]at c;injection c with c
 subst c;have d:=f.1;rw[add_eq,Nat.add_zero]at d;rw[add_eq];exact d
def rv(s:Sl)(W:ct)(k:Nat)(rs:List Sl):HP:=HP.all (af 22 s 1 bg rs::(bv 3 1 ak rs W).set k emp)
variable {s:Sl} {W:ct}
section
variable {k:Nat}
theorem PW(H:aa B h0 h As):aa B h0 h (emp::As):=(H.comp (.one (A:=emp) (aP.refl _ _) trivial)).be
theorem agu(g:k<i0 W)(H:aa B h0 h (dH 22 s 3 1 ak W::As)):
  ∃(rs:List Sl) (p:f8) (b:i0 rs=i0 W),s.ptr=dB p/\s.len=i0 W/\aa B h0 h (af 3 (rs[k]'(by omega)) 1 ak W[k]::rv s W k rs::As):=by
 obtain⟨rs,b,a⟩:=H.vA;have j:=(a.own 0 i4).len;obtain⟨p,o,e,_⟩:=(a.seq 0 rfl λ_=>rfl).elem k (rs[k]'(by omega)) (qc i5);have f:aa B h0 h (af 22 s 1 bg rs::emp::(bv 3 1 ak rs W++As)):=(PW a).aO 2 [1,0];have d:=(aa.SJ k (ie b k g) f).aO 3 [0,2];have i:aa B h0 h ([af 3 (rs[k]'(by omega)) 1 ak W[k]]++((af 22 s 1 bg rs::(bv 3 1 ak rs W).set k emp)++As)):=d;have c:=i.front;rw[List.append_assoc]at c;exact⟨rs,_,b,e,i5,(aa.closeAll _ c).be⟩
theorem aes{rs:List Sl}{p:f8}(i:Nat){Bs:List HP}(e:i0 rs=i0 W)(d:k<i0 W)(a:s.ptr=dB p)(c:Bs[i]?=dB (rv s W k rs))(H:aa B h0 h Bs):cellOf h (p.add (k*1))=dB (.slice (rs[k]'(by omega)).ptr (rs[k]'(by omega)).len (rs[k]'(by omega)).cap):=by have b:=(H.cons i c).lp;exact(b.seq 0 i4 λ_=>rfl).aer i5 a
theorem agv{rs:List Sl}{v:Sl}{l:aB}{x:Int}(f:i0 rs=i0 W)(n:k<i0 W)(i:x=k)(H:aa B h0 h (af 3 v 1 ak l::rv s W k rs::As)){K:g0->Prop}
  (j:∀h',aa B h0 h' (dH 22 s 3 1 ak (W.set k l)::As)->K h'):
  ∃a:f8,(s.ptr=dB a/\0<=x/\x<((s.len:Nat):Int))/\au xP (qG 22 (xH (dB (a.add (x.toNat*1)))) (xG v.ptr v.len v.cap)) h λ_ h'=>K h':=by
 have m:=H.gV.lp;refine m.set aj 0 i4 (λ_=>rfl) i4 k i i5 v i4 i4 i4 λh' g=>j h' ?_;have c:i0 (bv 3 1 ak rs W)=i0 W:=by simp[bv];omega
 have d:=g.cons (i0 W+1) (A:=af 3 v 1 ak l) (by
  show((af 22 s 1 bg (rs.set k v)::((bv 3 1 ak rs W).set k emp++af 3 v 1 ak l::As)))[i0 W+1]?=_;rw[qp,qh m7];simp[c])
 have e:((af 22 s 1 bg (rs.set k v)::((bv 3 1 ak rs W).set k emp++af 3 v 1 ak l::As))).set (i0 W+1) emp=af 22 s 1 bg (rs.set k v)::((bv 3 1 ak rs W).set k emp++emp::As):=by rw[List.set_cons_succ,List.set_append_right _ _ m7];simp[c]
 have d:aa B h0 h' (af 3 v 1 ak l::af 22 s 1 bg (rs.set k v)::((bv 3 1 ak rs W).set k emp++emp::As)):=by rw[<-e];exact d
 have b:=(aa.FF k i5 ((PW d).aO 3 [1,0,2])).aO 2 [0];have b:aa B h0 h' (af 22 s 1 bg (rs.set k v)::((bv 3 1 ak rs W).set k (af 3 v 1 ak l)++emp::As)):=b;rw[kN f]at b;exact(aa.Dx p0 b).aO 2 [0]
end
def pH(b a:f8)(x:lH):HP:=HP.ex λp:Sl×Sl=>(ac b 155 (gv x (dB a) p.1 p.2)).sep ((dH 22 p.1 3 1 ak x.W).sep (af 3 p.2 1 ak x.got))
variable {cd:f8} {x:lH}
theorem FM(H:aa B h0 h (pH b cd x::As)):∃wS gS:Sl,aa B h0 h (af 3 gS 1 ak x.got::dH 22 wS 3 1 ak x.W::ac b 155 (gv x (dB cd) wS gS)::As):=by obtain⟨⟨wS,gS⟩,H⟩:=H.oW;exact⟨wS,gS,H.mg.mg⟩
theorem uR{wS gS:Sl}(H:aa B h0 h (af 3 gS 1 ak x.got::dH 22 wS 3 1 ak x.W::ac b 155 (gv x (dB cd) wS gS)::As)):aa B h0 h (pH b cd x::As):=
 aa.ub (F:=λp:Sl×Sl=>(ac b 155 (gv x (dB cd) p.1 p.2)).sep ((dH 22 p.1 3 1 ak x.W).sep (af 3 p.2 1 ak x.got))) (wS,gS) H.jd.jd
section
variable {pw:f8}
theorem Zk{c b A:f8}(y:bm)(G g:Sl)(live set:aB)(t most k:Int)(x:lH)(hm:bf m=eX)(hp:bJ m.p=eX)(hl:i0 live<=64)(a2:∀k∈live,∃d,aV ds k=dB d)(hk:0<=k/\k<=2^40)(F:sj m live x)(el:i0 set<=2^20)
  (hS:St B h0 As λh=>dh h y m/\Rd h G 1 ak live/\Rd h g 1 ak set/\uC h A m.p x.seed x.M)
  (H:aa B h0 h (bD a pw da offs w ds m::ac c 84 (db a y G t most k)::pH b A x::As)):
  an xP 143 #[xH (dB c),xH (dB b),g] h λv h'=>v=xF xL (iT m live set w ds x).1/\
   aa B h0 h' (bD a pw da offs (iT m live set w ds x).2.1 (iT m live set w ds x).2.2.1 m::ac c 84 (db a y G t most (if(iT m live set w ds x).1=0 then k+1 else k))::pH b A (iT m live set w ds x).2.2.2::As):=by
 refine ts Tryz.func143 ?_ (.two .n (.two .n (.two .n (.two (.two .n (.inn (.loop [(33,aQ)] [(6,7),(9,16),(33,140)] (.two .n (.two .n (.two (.inn (.two .n (.two .n (.two .n (.two .n (.two (.join [] [(53,65)] .n) (.two .n (.two (.join [(14,(.sc .adr))] [(14,15),(74,99)] .n) (.two .n (.two (.join [] [(106,132)] .n) .n)))))))))) .n)))))) .n)))) [(13,(.y [0,1,2,3,4,5,6,7,8,9,10,11,12,13,14,15,16,17,18,19,20,21,22] (.l [23,24,25,26]) (.l [25,23,24,26]))),(17,(.y [0,1,2,3,4,5,6,7,8,9,10,11,12,13,16,17,18,19,20] (.y [14] (.l [15,21,22,23,24,25,26,27]) (.l [21,15,22,23,24,25,26,27])) (.l [21,14,15,22,23,24,25,26,27])))];obtain⟨wS,gS,H1⟩:=FM (H.aO 3 [2,0,1]);have am:=H1.box 2 i4;have b3:=H1.box 4 i4;have dk:eT h wS 1 ak x.W:=aa.rP (H1.aO 2 [1,0]) λ_=>rfl;have es:=F.gl;have ca:∀l∈x.W,i0 l<=2^13:=λl hl=>by have:=F.rl l hl;omega
 obtain⟨id,hid⟩:∃id,id=iL x.W:=⟨_,rfl⟩
 have d8:id<=2^21:=by have:=PU x.W;have:=F.top;omega
 refine(RP b x (dB A) wS gS h am dk (by rw[F.wl];omega) (λl hl=>by have:=ca l hl;omega) (by have:=F.top;omega)).mono ?_;rintro _ h1 ⟨rfl,R1⟩;rw[<-hid];have H1:=H1.up R1.ae;have dx:=(hS.cons.cons.cons.cons.cons).here H1;obtain⟨ef,b4,ej,ei⟩:=dx;have am:=H1.box 2 i4;have b3:=H1.box 4 i4;refine⟨(id:Int),i4,b,i4,x.o,am.cell0 i4,b,i4,x.b,am.cell i4,c,i4,G,b3.cell i4,(Gg x.o x.b G live h1 b4).mono ?_⟩;rintro _ h2 ⟨r8,rfl,R2⟩;obtain⟨o,ho⟩:∃o,o=ey x.o x.b live:=⟨_,rfl⟩
 rw[<-ho]at R2;have er:i0 o<=64:=by rw[ho];exact qT (VP _ _ _) hl
 have H2:=H1.cb R2;have ee:=(H2.own 0 i4).len;refine⟨r8,i4,trivial,?_⟩;obtain⟨cell,P⟩:∃cell,cell=cW (x.Zj m id):=⟨_,rfl⟩
 have e0:iT m live set w ds x=(let r:=kK m live set o cell id w ds (qx o.length);(r.1.1,r.1.2.1,r.1.2.2,if r.1.1=0 then x.CG id r.2.1 r.2.2 else x)):=by rw[ho,P,hid];rfl
 rw[e0];refine aq (λi:Nat=>(i:Int)) (λi h'=>i<=i0 o/\kK m live set o cell id w ds (qx o.length)=kK m live set o cell id w ds ((qx o.length).drop i)/\aa B h0 h' (af 3 r8 1 ak o::af 3 gS 1 ak x.got::dH 22 wS 3 1 ak x.W::ac b 155 (gv x (dB A) wS gS)::bD a pw da offs w ds m::ac c 84 (db a y G t most k)::As)) (λi=>i0 o-i) 0 i4 ⟨i5,i4,H2⟩ ?_;rintro i h3 ⟨hi,b9,U⟩;refine ag (λe=>?_) λe=>?_
 rotate_left
 ·have eg:i=i0 o:=i5
  have hd:(qx o.length).drop i=[]:=List.drop_eq_nil_of_le i9;rw[b9,hd];refine⟨i4,?_⟩;have U:=U.rest;exact((uR (U.aO 5 [0,1,2,3,4])).aO 3 [1,2,0])
 have bq:i<i0 o:=i5
 have hd:(qx o.length).drop i=i::(qx o.length).drop (i+1):=by rw[qK i9,vj]
 rw[ai ((id:Int)+(i:Int))];refine(SO r8 o ((id:Int)+i) h3 (U.seq 0 i4 λ_=>rfl)).mono ?_;rintro _ _ ⟨rfl,rfl⟩;obtain⟨s,hs⟩:∃s,s=jh o ((id:Int)+i):=⟨_,rfl⟩
 rw[<-hs];have c0:s∈o:=by rw[hs];exact Tf (by intro h;rw[h]at bq;simp at bq)
 have a1:s∈live:=Ju (by rw[<-ho];exact c0);obtain⟨d,X⟩:=a2 s a1;have O:kK m live set o cell id w ds (qx o.length)=(if kJ live s∈set∨jB m d 1=fz then kK m live set o cell id w ds ((qx o.length).drop (i+1))else(nl m cell w ds s d,kJ live s,s)):=by rw[b9,hd,kK,<-hs,X]
 obtain⟨d0,cc,c2,en⟩:=(hS.cons.cons.cons.cons.cons.cons).here U;have V:=U.box 5 i4;refine⟨_,i4,c,i4,G,V.cell i4,(index_spec G live s _ cc i5).mono ?_⟩;rintro _ _ ⟨⟨J,rfl,q1,q2,q3,q4⟩,rfl⟩;have a9:kJ live s=J:=abJ q1 q2 q4;have c8:0<=J:=q1.2 a1;refine⟨J,i4,c,i4,dB a,V.cell0 i4,(LL s (U.aO 5 [4])).mono ?_⟩;rintro _ _ ⟨rfl,rfl⟩;obtain⟨dp,ah⟩:=Ta X (U.aO 5 [4]);rw[ah];refine⟨_,i4,?_⟩;refine bL (λ(_:Unit) h'=>¬(kJ live s∈set∨jB m d 1=fz)/\aa B h0 h' (af 3 r8 1 ak o::af 3 gS 1 ak x.got::dH 22 wS 3 1 ak x.W::ac b 155 (gv x (dB A) wS gS)::bD a pw da offs w ds m::ac c 84 (db a y G t most k)::As)) ?_ ?_
 ·refine(sH g set J _ c2 i5).mono ?_;rintro _ _ ⟨rfl,rfl⟩;refine⟨_,i4,ag (λe1=>?_) λe1=>?_⟩
  ·refine⟨i+1,j1,⟨i5,?_,U⟩,i5⟩;rw[O,g9 (.inl (by rw[a9];exact e1))]
  ·refine⟨c,i4,y,V.cells 1 _ i4,(abG y 1 X ah d0 (iC hm) (U.aO 5 [4])).mono ?_⟩;rintro _ h4 ⟨rfl,R4⟩;refine⟨_,i4,aR (λe2=>?_) λe2=>?_⟩
   ·refine⟨i+1,j1,⟨i5,?_,U.up R4.ae⟩,i5⟩;rw[O,g9 (.inr e2)]
   ·exact⟨λh=>h.elim (λh=>e1 (by rw[<-a9];exact h)) (λh=>by rw[h]at e2;cases e2),U.up R4.ae⟩
 rintro _ h5 ⟨d4,H5⟩;rw[O,hU d4]
 try dsimp only
 have cr:=H5.box 5 i4;have H5:aa B h0 h5 (bD a pw da offs w ds m::af 3 gS 1 ak x.got::dH 22 wS 3 1 ak x.W::ac b 155 (gv x (dB A) wS gS)::ac c 84 (db a y G t most k)::As):=H5.aO 6 [4,1,2,3,5];refine⟨c,i4,y,cr.cells 1 _ i4,(abH y 1 (hS.cons.cons.cons.cons.mono λ_ q=>q.1) (iC hm) X ah H5).mono ?_⟩;rintro _ h6 ⟨rfl,H6⟩;obtain⟨mk,a3⟩:∃mk,mk=ge m w d 1:=⟨_,rfl⟩
 rw[<-a3]at H6⊢;refine⟨_,i4,bx (λe3=>?_) λe3=>?_⟩
 ·have ea:nl m cell w ds s d=(mk.1,mk.2.1,ck ds s mk.2.2):=by
   unfold nl;rw[<-a3]
   try dsimp only
   rw[g9 e3]
  rw[ea]
  try dsimp only
  rw[hU e3,hU e3];refine⟨i4,?_⟩;exact(uR (H6.aO 5 [1,2,3,0,4])).aO 3 [1,2,0]
 have bs:aV (ck ds s mk.2.2) s=dB mk.2.2:=by rw[ng (ka H).1 X,g9 rfl]
 obtain⟨j,b0⟩:∃j,j=mk.2.2.append mk.2.1 cell:=⟨_,rfl⟩
 have ea:nl m cell w ds s d=(j.1,j.2.1,ck (ck ds s mk.2.2) s j.2.2):=by
  unfold nl;rw[<-a3]
  try dsimp only
  rw[hU λh=>h e3,<-b0,CH]
 rw[ea]
 try dsimp only
 obtain⟨dd,eb,ec,dy⟩:=(hS.cons.cons.cons.cons.cons).here H6;have Q:=H6.box 3 i4;have bl:=H6.box 4 i4;have b2:∀{h':g0},bY h' c 84 (db a y G t most k)->dh h' y m->bn h' ((c.add 1).add 2) 0 [xF xL m.p.1,xF xL m.p.2.1,xF xL m.p.2.2]:=λ{h'} hb hy=>by
  have d1:y.2.2.1=m.p.1:=congrArg (·.1) hy.p;have dr:y.2.2.2.1=m.p.2.1:=congrArg (·.2.1) hy.p;have c5:y.2.2.2.2.1=m.p.2.2:=congrArg (·.2.2) hy.p;rw[addr_add,<-d1,<-dr,<-c5];exact hb.cells 3 _ i4
 refine bL (λ(z:f8) h'=>∃E:Sl,aa B h0 h' (ac z 167 (bS (x.o,x.b,(id:Int),m.p.1,m.p.2.1,m.p.2.2,x.seed,E))::af 5 E 1 az (x.Zj m id).data::bD a pw da offs mk.2.1 (ck ds s mk.2.2) m::af 3 gS 1 ak x.got::dH 22 wS 3 1 ak x.W::ac b 155 (gv x (dB A) wS gS)::ac c 84 (db a y G t most k)::As)) ?_ ?_
 ·have d7:=b2 bl dd;have N:∀{h':g0},bY h' b 155 (gv x (dB A) wS gS)->bY h' c 84 (db a y G t most k)->dh h' y m->bR.ok [(b.add 2,xF xN x.seed),((c.add 1).add 2,xF xL m.p.1),(((c.add 1).add 2).add 1,xF xL m.p.2.1),(((c.add 1).add 2).add 2,xF xL m.p.2.2),(b.add 1,xF xL x.b),(b,xF xL x.o)] h':=λ{h'} hb hc hy=>by
   have q:=b2 hc hy;exact⟨hb.cell i4,q.1,q.2.1,q.2.2.1,hb.cell i4,hb.cell0 i4,trivial⟩
  refine⟨b,i4,x.o,Q.cell0 i4,b,i4,x.b,Q.cell i4,c,i4,m.p,d7,b,i4,x.seed,Q.cell i4,b,i4,dB A,Q.cell i4,?_,?_⟩
  ·refine(AI A m.p x.seed id x.M (bN m.p).toNat m.p.2.2.toNat h6 dy hp (by have:=(bT m.p).1 hp;omega) i4 F.ev F.ml).mono ?_;rintro _ h7 ⟨E,rfl,R7⟩;have H7:=H6.cb R7;refine⟨E,i4,N (H7.box 4 i4) (H7.box 5 i4) ((hS.cons.cons.cons.cons.cons.cons).here H7).1,H7.alloc aj i4 λd2 h8 R=>?_⟩;have R:=R.be;refine⟨N (R.box 5 i4) (R.box 6 i4) ((hS.cons.cons.cons.cons.cons.cons.cons).here R).1,?_⟩;refine R.storeAll aj 0 i4 i4 (bS (x.o,x.b,(id:Int),m.p.1,m.p.2.1,m.p.2.2,x.seed,E)) i4 i4 i4 i4 λh9 H9=>⟨trivial,E,H9⟩
  ·refine H6.alloc aj i4 λd2 h8 R=>?_;have R:=R.be;obtain⟨c1,_,_,c9⟩:=(hS.cons.cons.cons.cons.cons.cons).here R;refine⟨⟨(R.box 4 i4).cell i4,N (R.box 4 i4) (R.box 5 i4) c1⟩,?_⟩;refine(AI A m.p x.seed id x.M (bN m.p).toNat m.p.2.2.toNat h8 c9 hp (by have:=(bT m.p).1 hp;omega) i4 F.ev F.ml).mono ?_;rintro _ h7 ⟨E,rfl,R7⟩;have H7:=R.cb R7;refine⟨E,i4,N (H7.box 5 i4) (H7.box 6 i4) ((hS.cons.cons.cons.cons.cons.cons.cons).here H7).1,?_⟩;refine H7.storeAll aj 1 i4 i4 (bS (x.o,x.b,(id:Int),m.p.1,m.p.2.1,m.p.2.2,x.seed,E)) i4 i4 i4 i4 λh9 H9=>⟨trivial,E,H9.gV⟩
 rintro z d5 ⟨E,bd⟩;have cn:=bd.box 0 i4;refine⟨(x.o,x.b,(id:Int),m.p.1,m.p.2.1,m.p.2.2,x.seed,E),cn.aF _ i4,?_⟩;have bb:=bd.seq 1 i4 λ_=>rfl;refine(rG (x.o,x.b,(id:Int),m.p.1,m.p.2.1,m.p.2.2,x.seed,E) (x.Zj m id) d5 ⟨⟨i4,i4,i4,i4,i4,F.seed⟩,bb⟩).mono ?_;rintro _ c4 ⟨a6,rfl,b6⟩;rw[<-P]at b6;have ao:=bd.cb b6;have d3:i0 cell<=2^20:=by
  rw[P];unfold cW;split
  ·exact qT (RR _ _) i6
  ·simp
 have ao:aa B h0 c4 (bD a pw da offs mk.2.1 (ck ds s mk.2.2) m::af 5 a6 1 az cell::af 3 gS 1 ak x.got::dH 22 wS 3 1 ak x.W::ac b 155 (gv x (dB A) wS gS)::ac c 84 (db a y G t most k)::As):=ao.aO 8 [3,0,4,5,6,7];refine⟨a6,i4,(VO a6 cell (ao.seq 1 i4 λ_=>rfl) d3 bs ah ao).mono ?_⟩;rintro _ br ⟨rfl,Z⟩;rw[<-b0]at Z⊢;have Z:aa B h0 br (af 3 gS 1 ak x.got::dH 22 wS 3 1 ak x.W::ac b 155 (gv x (dB A) wS gS)::bD a pw da offs j.2.1 (ck (ck ds s mk.2.2) s j.2.2) m::ac c 84 (db a y G t most k)::As):=Z.aO 6 [2,3,4,0,5];refine⟨_,i4,bx (λe4=>?_) λe4=>?_⟩
 ·rw[hU e4,hU e4];refine⟨i4,?_⟩;exact(uR Z).aO 3 [1,2,0]
 rw[e4,g9 i4,g9 rfl];obtain⟨f,ax⟩:∃f:Nat,J=(f:Int):=⟨J.toNat,i5⟩
 have K:f<i0 x.W:=by rw[F.wl];omega
 have a5:x.CG id (kJ live s) s={x with W:=x.W.set f (x.W[f]++[(id:Int)]),got:=x.got++[s]}:=by unfold lH.CG;rw[a9,ax,qj,qd,qc K];rfl
 rw[a5];refine bL (λ(_:Unit) h'=>aa B h0 h' (bD a pw da offs j.2.1 (ck (ck ds s mk.2.2) s j.2.2) m::ac c 84 (db a y G t most k)::pH b A {x with W:=x.W.set f (x.W[f]++[(id:Int)]),got:=x.got++[s]}::As)) ?_ ?_
 ·obtain⟨rs,pp,b7,cf,c6,T⟩:=agu K (Z.aO 2 [1,0]);have d9:=ca _ (qf K);have T:aa B h0 br (af 3 (rs[f]'(by omega)) 1 ak x.W[f]::rv wS x.W f rs::af 3 gS 1 ak x.got::ac b 155 (gv x (dB A) wS gS)::bD a pw da offs j.2.1 (ck (ck ds s mk.2.2) s j.2.2) m::ac c 84 (db a y G t most k)::As):=T;have L:∀{h':g0} {r r':HP} {Cs:List HP},aa B h0 h' (r::rv wS x.W f rs::r'::ac b 155 (gv x (dB A) wS gS)::Cs)->bY h' b 155 (gv x (dB A) wS gS)/\cellOf h' (pp.add (J.toNat*1))=dB (.slice (rs[f]'(by omega)).ptr (rs[f]'(by omega)).len (rs[f]'(by omega)).cap):=λ{h' r r' Cs} S=>
   ⟨S.box 3 i4,by rw[ax,qj];exact aes 1 b7 K cf i4 S⟩
  have ab:=T.box 3 i4;have fin:∀{h':g0} {v v':Sl} {Cs:List HP},aa B h0 h' (af 3 v 1 ak (x.W[f]++[(id:Int)])::rv wS x.W f rs::af 3 v' 1 ak (x.got++[s])::ac b 155 (gv x (dB A) wS gS)::bD a pw da offs j.2.1 (ck (ck ds s mk.2.2) s j.2.2) m::ac c 84 (db a y G t most k)::As)->
    bR.ok [(b.add 4,xG wS.ptr wS.len wS.cap),(b.add 4,xG wS.ptr wS.len wS.cap)] h'/\∃a55:f8,(wS.ptr=dB a55/\0<=J/\J<(wS.len:Int))/\au xP (qG 22 (xH (dB (a55.add (J.toNat*1)))) (xG v.ptr v.len v.cap)) h' λ_ bk=>
     bR.ok [] bk/\∃cl:f8,(dB b=dB cl)/\au xP (qG 22 (xH (dB (cl.add 5))) (xG v'.ptr v'.len v'.cap)) bk λ_ al=>bR.ok [] al/\
      aa B h0 al (bD a pw da offs j.2.1 (ck (ck ds s mk.2.2) s j.2.2) m::ac c 84 (db a y G t most k)::pH b A {x with W:=x.W.set f (x.W[f]++[(id:Int)]),got:=x.got++[s]}::As):=λ{h' v v' Cs} S=>by
   have cp:=(L S).1;refine⟨⟨cp.cell i4,cp.cell i4,trivial⟩,agv b7 K ax S λbk du=>⟨trivial,b,i4,du.storeAt aj 2 i4 i4 i4 i4 i4 (show 5<6 by decide) λal a8=>⟨trivial,?_⟩⟩⟩;have a8:aa B h0 al (dH 22 wS 3 1 ak (x.W.set f (x.W[f]++[(id:Int)]))::af 3 v' 1 ak (x.got++[s])::ac b 155 (gv x (dB A) wS v')::bD a pw da offs j.2.1 (ck (ck ds s mk.2.2) s j.2.2) m::ac c 84 (db a y G t most k)::As):=a8;exact(uR (x:={x with W:=x.W.set f (x.W[f]++[(id:Int)]),got:=x.got++[s]}) (wS:=wS) (gS:=v') (a8.aO 5 [1,0,2,3,4])).aO 3 [1,2,0]
  have ar:∀{h':g0} {r r':HP} {Cs:List HP},aa B h0 h' (r::rv wS x.W f rs::r'::ac b 155 (gv x (dB A) wS gS)::Cs)->
    bR.ok [(b.add 5,xG gS.ptr gS.len gS.cap),(b.add 4,xG wS.ptr wS.len wS.cap),(b.add 4,xG wS.ptr wS.len wS.cap)] h':=λS=>⟨(L S).1.cell i4,(L S).1.cell i4,(L S).1.cell i4,trivial⟩
  have a0:∀{h':g0} {r r':HP} {Cs:List HP},aa B h0 h' (r::rv wS x.W f rs::r'::ac b 155 (gv x (dB A) wS gS)::Cs)->
    bR.ok [(b.add 5,xG gS.ptr gS.len gS.cap),(pp.add (J.toNat*1),.slice (rs[f]'(by omega)).ptr (rs[f]'(by omega)).len (rs[f]'(by omega)).cap),(b.add 4,xG wS.ptr wS.len wS.cap),(b.add 4,xG wS.ptr wS.len wS.cap)] h':=λS=>⟨(L S).1.cell i4,(L S).2,(L S).1.cell i4,(L S).1.cell i4,trivial⟩
  refine⟨b,i4,wS,ab.cell i4,b,i4,wS,ab.cell i4,pp,⟨cf,c8,(by rw[ax,c6];exact Int.ofNat_lt.2 K)⟩,rs[f]'(by omega),(L T).2,b,i4,gS,ab.cell i4,?_,?_⟩
  ·refine T.lit aj ak fN i4 [(id:Int)] i4 (show 1*1<=2^20 by decide) i4 λv51 a7 I=>?_;have I:aa B h0 a7 (af 3 v51 1 ak [(id:Int)]::af 3 (rs[f]'(by omega)) 1 ak x.W[f]::rv wS x.W f rs::af 3 gS 1 ak x.got::ac b 155 (gv x (dB A) wS gS)::bD a pw da offs j.2.1 (ck (ck ds s mk.2.2) s j.2.2) m::ac c 84 (db a y G t most k)::As):=I.be;refine⟨a0 I.rest,?_,?_⟩
   ·refine I.append aj 1 i4 fN ⟨_,_,i4,i4⟩ i4 i6 (λ_=>rfl) (I.seq 0 i4 λ_=>rfl) eS i9 λcs ay u=>⟨ar u.rest,?_⟩
    refine u.lit aj ak fN i4 [s] i4 (show 1*1<=2^20 by decide) i4 λv53 a4 D=>?_;have D:aa B h0 a4 (af 3 v53 1 ak [s]::af 3 cs 1 ak (x.W[f]++[(id:Int)])::rv wS x.W f rs::af 3 gS 1 ak x.got::ac b 155 (gv x (dB A) wS gS)::bD a pw da offs j.2.1 (ck (ck ds s mk.2.2) s j.2.2) m::ac c 84 (db a y G t most k)::As):=(D.be).aO 3 [0,2];refine⟨ar D.rest,?_⟩;refine D.append aj 3 i4 fN ⟨_,_,i4,i4⟩ i4 i6 (λ_=>rfl) (D.seq 0 i4 λ_=>rfl) eS i9 λed cq Y=>?_;exact fin (Cs:=[]) Y.rest
   ·refine I.lit aj ak fN i4 [s] i4 (show 1*1<=2^20 by decide) i4 λc7 ay u=>?_;have u:aa B h0 ay (af 3 c7 1 ak [s]::af 3 v51 1 ak [(id:Int)]::af 3 (rs[f]'(by omega)) 1 ak x.W[f]::rv wS x.W f rs::af 3 gS 1 ak x.got::ac b 155 (gv x (dB A) wS gS)::bD a pw da offs j.2.1 (ck (ck ds s mk.2.2) s j.2.2) m::ac c 84 (db a y G t most k)::As):=u.be;refine⟨a0 u.rest.rest,?_⟩;refine u.append aj 2 i4 fN ⟨_,_,i4,i4⟩ i4 i6 (λ_=>rfl) (u.seq 1 i4 λ_=>rfl) eS i9 λeo a4 D=>⟨ar D.rest.rest,?_⟩
    refine D.append aj 4 i4 fN ⟨_,_,i4,i4⟩ i4 i6 (λ_=>rfl) (D.seq 0 i4 λ_=>rfl) eS i9 λep cq Y=>?_;exact fin (Cs:=[]) Y.rest.rest
  ·refine T.lit aj ak fN i4 [s] i4 (show 1*1<=2^20 by decide) i4 λb5 a7 I=>?_;have I:aa B h0 a7 (af 3 b5 1 ak [s]::af 3 (rs[f]'(by omega)) 1 ak x.W[f]::rv wS x.W f rs::af 3 gS 1 ak x.got::ac b 155 (gv x (dB A) wS gS)::bD a pw da offs j.2.1 (ck (ck ds s mk.2.2) s j.2.2) m::ac c 84 (db a y G t most k)::As):=I.be;refine⟨a0 I.rest,?_⟩;refine I.lit aj ak fN i4 [(id:Int)] i4 (show 1*1<=2^20 by decide) i4 λd6 ay u=>?_;have u:aa B h0 ay (af 3 d6 1 ak [(id:Int)]::af 3 b5 1 ak [s]::af 3 (rs[f]'(by omega)) 1 ak x.W[f]::rv wS x.W f rs::af 3 gS 1 ak x.got::ac b 155 (gv x (dB A) wS gS)::bD a pw da offs j.2.1 (ck (ck ds s mk.2.2) s j.2.2) m::ac c 84 (db a y G t most k)::As):=u.be;refine⟨a0 u.rest.rest,?_⟩;refine u.append aj 2 i4 fN ⟨_,_,i4,i4⟩ i4 i6 (λ_=>rfl) (u.seq 0 i4 λ_=>rfl) eS i9 λeh a4 D=>⟨ar D.rest.rest,?_⟩
   refine D.append aj 4 i4 fN ⟨_,_,i4,i4⟩ i4 i6 (λ_=>rfl) (D.seq 1 i4 λ_=>rfl) eS i9 λek cq Y=>?_;exact fin (Cs:=[]) Y.rest.rest
 rintro _ eq b1;refine⟨c,i4,k,(b1.box 1 i4).cell i4,c,i4,b1.storeAt aj 1 i4 i4 i4 i4 i4 (show 12<13 by decide) λdj ad=>⟨i4,?_⟩⟩;have ad:aa B h0 dj (bD a pw da offs j.2.1 (ck (ck ds s mk.2.2) s j.2.2) m::ac c 84 (db a y G t most (qe xL (k+1)))::pH b A {x with W:=x.W.set f (x.W[f]++[(id:Int)]),got:=x.got++[s]}::As):=ad;rw[ai _]at ad;exact ad
end
theorem Hw{m:av}{live set a:aB}{c:aL}{id:Nat}{w:Pow}{ds:aE}:∀{l:List Nat},(kK m live set a c id w ds l).1.1=0->
  ∃i∈l,∃d,aV ds (jh a ((id:Int)+i))=dB d/\kJ live (jh a ((id:Int)+i))∉set/\jB m d 1=eX/\kK m live set a c id w ds l=(nl m c w ds (jh a ((id:Int)+i)) d,kJ live (jh a ((id:Int)+i)),jh a ((id:Int)+i))
 |[],h=>k9
 |i::l,h=>by
  unfold kK at h⊢;dsimp only at h⊢;cases hd:aV ds (jh a ((id:Int)+i))with
  |none=>
   rw[hd]at h;obtain⟨j,e,r⟩:=Hw h;exact⟨j,qD _ e,r⟩
  |some d=>
   rw[hd]at h;dsimp only at h⊢;by_cases b:kJ live (jh a ((id:Int)+i))∈set∨jB m d 1=fz
   ·rw[g9 b]at h⊢;obtain⟨j,e,r⟩:=Hw h;exact⟨j,qD _ e,r⟩
   ·rw[hU b];exact⟨i,qM,d,hd,λh=>b (.inl h),by cases hf:jB m d 1 with|true=>rfl|false=>exact absurd (.inr hf) b,rfl⟩
theorem Zl{m:av}{c:aL}{w:Pow}{ds:aE}{s:Int}{d:aZ}:∃a,(nl m c w ds s d).2.2=ck ds s a:=by
 unfold nl
 try dsimp only
 split
 ·exact⟨_,i4⟩
 ·exact⟨_,CH _ _ _ _⟩
theorem Hx{m:av}{live set a:aB}{c:aL}{id:Nat}{w:Pow}{ds:aE}(b:i0 ds=64){P:Int->Prop}(f:∀k,P k->∃d,aV ds k=dB d):∀{l:List Nat},∀k,P k->∃d,aV (kK m live set a c id w ds l).1.2.2 k=dB d
 |[],k,hk=>f k hk
 |i::l,k,hk=>by
  unfold kK
  try dsimp only
  cases hd:aV ds (jh a ((id:Int)+i))with
  |none=>exact Hx b f k hk
  |some d=>
   try dsimp only
   split
   ·exact Hx b f k hk
   ·obtain⟨g,e⟩:=Zl (m:=m) (c:=c) (w:=w) (ds:=ds) (s:=jh a ((id:Int)+i)) (d:=d)
    try dsimp only
    rw[e,ng b hd];split
    ·exact⟨_,i4⟩
    ·exact f k hk
theorem PX{W:ct}{n:Nat}(h:∀l∈W,∀x∈l,x.toNat<=n):AM W<=n:=by
 have c:∀l:aB,(∀x∈l,x.toNat<=n)->l.foldr (λx a=>max a x.toNat) 0<=n:=by
  intro l
  induction l with
  |nil=>intro _;exact zi _
  |cons x l ih=>
   intro h;rw[List.foldr_cons];have f:=ih λy d=>h y (qD _ d);have g:=h x qM;omega
 exact c _ λx b=>by
  obtain⟨l,e,b⟩:=xf.1 b;exact h l e x b
theorem PY{m:av}{live set:aB}{w:Pow}{ds:aE}{x:lH}(F:sj m live x)(D:i0 x.got<64):sj m live (iT m live set w ds x).2.2.2/\((iT m live set w ds x).1=0->∃s,s∈live/\(iT m live set w ds x).2.2.2=x.CG (iL x.W) (kJ live s) s)/\((iT m live set w ds x).1≠0->(iT m live set w ds x).2.2.2=x):=by
 unfold iT
 try dsimp only
 obtain⟨r,t⟩:∃r,r=kK m live set (ey x.o x.b live) (cW (x.Zj m (iL x.W))) (iL x.W) w ds (qx (ey x.o x.b live).length):=⟨_,rfl⟩
 rw[<-t];by_cases h:r.1.1=0
 ·rw[g9 h];obtain⟨i,n,d,G,H,h3,q⟩:=Hw (by rw[<-t];exact h);rw[<-t]at q;have n:=qA.1 n;have y:jh (ey x.o x.b live) ((iL x.W:Int)+i)∈live:=Ju (Tf (by intro h;rw[h]at n;simp at n));have A:r.2.1=kJ live (jh (ey x.o x.b live) ((iL x.W:Int)+i)):=by rw[q]
  have u:r.2.2=jh (ey x.o x.b live) ((iL x.W:Int)+i):=by rw[q]
  refine⟨?_,λ_=>⟨_,y,by rw[A,u]⟩,λp=>absurd h p⟩;have j:(x.CG (iL x.W) r.2.1 r.2.2).got.length=i0 x.got+1:=by simp[lH.CG]
  have c:∀l∈(x.CG (iL x.W) r.2.1 r.2.2).W,l∈x.W∨l=x.W.getD r.2.1.toNat []++[(iL x.W:Int)]:=λl g=>List.mem_or_eq_of_mem_set g;have a:∀k,x.W.getD k []∈x.W∨x.W.getD k []=[]:=λk=>by
   by_cases v:k<i0 x.W
   ·rw[gF [] v];exact .inl (qf v)
   ·exact .inr (by rw[qd,qI i5];rfl)
  have B:=PU x.W;have E:=F.top;refine⟨F.seed,F.ev,F.ml,by show(x.W.set _ _).length=_;rw[zC];exact F.wl,λl g=>?_,?_,i5,λs f=>?_⟩
  ·rw[j];rcases c l g with h|rfl
   ·have:=F.rl l h;omega
   ·rw[qw,List.length_singleton];rcases a r.2.1.toNat with h|h
    ·have:=F.rl _ h;omega
    ·rw[h,yo];omega
  ·rw[j];refine PX λl g z e=>?_;rcases c l g with h|rfl
   ·have:=KC (xf.2 ⟨l,h,e⟩);omega
   ·rcases qz.1 e with e|e
    ·rcases a r.2.1.toNat with h|h
     ·have:=KC (xf.2 ⟨_,h,e⟩);omega
     ·rw[h]at e;cases e
    ·rw[qu.1 e];omega
  ·have f:s∈x.got++[r.2.2]:=f;rcases qz.1 f with h|h
   ·exact F.gi s h
   ·rw[qu.1 h,u];exact y
 ·rw[hU h];exact⟨F,λp=>absurd p h,λ_=>rfl⟩
theorem Zm(p:Pm)(seed:Int)(W:ct)(t:Int):(gD p seed W t).1.length<=64:=by
 unfold gD;split
 ·split
  ·split
   ·exact zi _
   ·rename_i h _;split
    ·rename_i g a;obtain⟨y,b,rfl⟩:=qo.1 (List.mem_of_find?_eq_some a)
     try dsimp only
     rw[kU,(Cd b).1];omega
    ·exact zi _
  ·exact zi _
 ·exact zi _
section
variable {pw:f8}
theorem VQ{c b O:f8}(y:bm)(u:Sl)(live:aB)(t most k:Int)(x:lH)(hm:bf m=eX)(hp:bJ m.p=eX)(hl:i0 live<=64)(K:∀k∈live,∃d,aV ds k=dB d)(hk:0<=k/\k<=2^39)(F:sj m live x)(I:x.got=[])(E:0<=most/\most<=64)
  (hS:St B h0 As λh=>dh h y m/\Rd h u 1 ak live/\uC h O m.p x.seed x.M)
  (H:aa B h0 h (bD a pw da offs w ds m::ac c 84 (db a y u t most k)::pH b O x::As)):
  an xP 94 #[xH (dB c),xH (dB b)] h λv h'=>v=xF xL (fW m live t most 65 w ds x).1/\
   aa B h0 h' (bD a pw da offs (fW m live t most 65 w ds x).2.1 (fW m live t most 65 w ds x).2.2.1 m::ac c 84 (db a y u t most (k+(fW m live t most 65 w ds x).2.2.2.got.length))::pH b O (fW m live t most 65 w ds x).2.2.2::As):=by
 refine ts Tryz.func94 ?_ (.two .n (.inn (.loop [] [(4,56)] .n)));obtain⟨G,hG⟩:∃G,G=fW m live t most 65 w ds x:=⟨_,rfl⟩
 rw[<-hG];refine aq (λ_:Nat×Pow×aE×lH=>()) (λz h'=>z.1+i0 z.2.2.2.got=65/\(i0 z.2.2.2.got:Int)<=most/\G=fW m live t most z.1 z.2.1 z.2.2.1 z.2.2.2/\sj m live z.2.2.2/\z.2.2.2.seed=x.seed/\z.2.2.2.M=x.M/\(∀k∈live,∃d,aV z.2.2.1 k=dB d)/\
  aa B h0 h' (bD a pw da offs z.2.1 z.2.2.1 m::ac c 84 (db a y u t most (k+i0 z.2.2.2.got))::pH b O z.2.2.2::As)) (λz=>z.1) (65,w,ds,x) i4 ⟨by rw[I];rfl,by rw[I];exact E.1,hG,F,i4,i4,K,by rw[I];show aa B h0 h (_::ac c _ (db a y u t most (k+0))::_);rw[Int.add_zero];exact H⟩ ?_
 rintro⟨f,w1,ds1,j⟩ h1 ⟨hf,ao,g,L,es,eM,i,N⟩;dsimp only at hf ao g L es eM i N⊢;obtain⟨f',rfl⟩:∃f',f=f'+1:=⟨f-1,i5⟩
 have S:=N.box 1 i4;obtain⟨wS,gS,H2⟩:=FM (N.aO 3 [2,0,1]);have T:=H2.box 2 i4;have ah:eT h1 wS 1 ak j.W:=aa.rP (H2.aO 2 [1,0]) λ_=>rfl;have ar:dQ (bC (cm 1 ak) 1 bg) h1 wS j.W:=by obtain⟨rs,q1,q2,q3⟩:=ah;exact⟨rs,q1,q2,q3⟩
 obtain⟨hy,a2,hM⟩:=(hS.cons.cons.cons).here N;have ax:y.2.2.1=m.p.1:=congrArg (·.1) hy.p;have al:y.2.2.2.1=m.p.2.1:=congrArg (·.2.1) hy.p;have ad:y.2.2.2.2.1=m.p.2.2:=congrArg (·.2.2) hy.p;have a0:bn h1 ((c.add 1).add 2) 0 [xF xL m.p.1,xF xL m.p.2.1,xF xL m.p.2.2]:=by rw[addr_add,<-ax,<-al,<-ad];exact S.cells 3 _ i4
 refine⟨c,i4,m.p,a0,b,i4,j.seed,T.cell i4,b,i4,wS,T.cell i4,c,i4,t,S.cell i4,?_⟩;refine(Jm m.p j.seed wS j.W t h1 ar (by rw[L.wl];omega) (λl hl=>by have:=L.rl l hl;have:=L.gl;omega) (yC _)).mono ?_;rintro _ h2 ⟨r,rfl,R2⟩;obtain⟨q,Z⟩:∃q,q=gD m.p j.seed j.W t:=⟨_,rfl⟩
 rw[<-Z]at R2⊢;rw[fW]at g;dsimp only at g;rw[<-Z]at g;have X:=N.up R2.ae;refine⟨(r,q.2.1,q.2.2),i4,trivial,?_⟩
 try dsimp only
 refine bx (λe=>?_) λe=>?_
 ·rw[g9 e]at g;rw[g];exact⟨i4,X⟩
 rw[hU λh=>h e]at g;refine aR (λe1=>?_) λe1=>?_
 ·rw[g9 e1]at g;rw[g];exact⟨i4,X⟩
 rw[hU mM]at g;obtain⟨a1,ay,H4⟩:=FM (X.aO 3 [2,0,1]);have U:=H4.box 2 i4;have o:=(H4.own 0 i4).len;have V:=X.box 1 i4;refine⟨b,i4,ay,U.cell i4,c,i4,most,V.cell i4,ag (λR=>?_) λR=>?_⟩
 ·rw[o]at R;rw[g9 R]at g;rw[g];exact⟨i4,X⟩
 rw[o]at R;rw[hU R]at g;have H5:aa B h0 h2 (bD a pw da offs w1 ds1 m::ac c 84 (db a y u t most (k+i0 j.got))::pH b O j::EA (cm 1 ak) r q.1::As):=(N.cb R2).aO 4 [1,2,3,0];have ap:i0 q.1<=2^20:=by have:=Zm m.p j.seed j.W t;rw[Z];omega
 have am:St B h0 (EA (cm 1 ak) r q.1::As) λh=>dh h y m/\Rd h u 1 ak live/\Rd h r 1 ak q.1/\uC h O m.p j.seed j.M:=λBs h' H'=>by
  obtain⟨z1,z2,z3⟩:=hS.cons Bs h' H';rw[es,eM];exact⟨z1,z2,(St.eG (A:=EA (cm 1 ak) r q.1) (Q:=λh=>Rd h r 1 ak q.1) 0 i4 λh' Z=>Z) Bs h' H',z3⟩
 refine(Zk y u r live q.1 t most (k+i0 j.got) j hm hp hl i (by have:=L.gl;omega) L ap am H5).mono ?_;rintro _ h6 ⟨rfl,D⟩;obtain⟨g1,g2,g3⟩:=PY (set:=q.1) (w:=w1) (ds:=ds1) L i5;have Y:∀k∈live,∃d,aV (iT m live q.1 w1 ds1 j).2.2.1 k=dB d:=λk hk=>Hx (P:=λk=>k∈live) (ka N).1 i k hk;obtain⟨Q,hQ⟩:∃Q,Q=iT m live q.1 w1 ds1 j:=⟨_,rfl⟩
 rw[<-hQ]at D g1 g2 g3 Y g⊢;have D:=D.aO 4 [0,1,2];refine⟨_,i4,bx (λJ=>?_) λJ=>?_⟩
 ·rw[g9 J]at g;rw[g];refine⟨i4,?_⟩;rw[hU J]at D;rw[g3 J]at D⊢;exact D
 ·rw[hU λh=>h J]at g;rw[g9 J]at D;obtain⟨s,hs,eg⟩:=g2 J;have ab:i0 Q.2.2.2.got=i0 j.got+1:=by rw[eg];simp[lH.CG]
  refine⟨(f',Q.2.1,Q.2.2.1,Q.2.2.2),i4,⟨?_,?_,g,g1,?_,?_,Y,?_⟩,i7⟩
  ·(try dsimp only);omega
  ·(try dsimp only);omega
  ·(try dsimp only);rw[eg];exact es
  ·(try dsimp only);rw[eg];exact eM
  ·try dsimp only
   rw[ab,Int.natCast_add,<-Int.add_assoc];exact D
end
noncomputable def ib(m:av)(live:aB)(ds:aE)(o:Int)(tries:aB)(i:Nat):Int×lH:=
 let seed:=ci o i (tries.getD i 0);let r:=lE m.p seed (eC m ds live o i)
 if r.2≠0 then(11,⟨o,i,seed,[],[],[]⟩)else if jo m.p seed r.1.length≠0 then(11,⟨o,i,seed,[],[],[]⟩)else(0,⟨o,i,seed,dw m.p seed r.1,dF m ds o i (aU ds m.drives),[]⟩)
theorem Zn{p:Pm}{seed:Int}{l:Nat}(h:jo p seed l=0):bJ p=eX/\fR p seed (fe p)=eX/\(l:Int)=p.1*p.2.2:=by
 unfold jo at h;split at h
 ·rename_i a;rw[qy,decide_eq_true_eq]at a;split at h
  ·rename_i b;exact⟨a.1,b,a.2⟩
  ·cases h
 ·cases h
theorem CI{m:av}{ds:aE}{o b k:Int}(a:∀k d,aV ds k=dB d->i0 d.l<=512):i0 (kG m ds o b k)<=512:=by
 unfold kG;cases hd:aV ds k with
 |none=>exact zi _
 |some d=>exact qT (Cq m o b d.l) (a k d hd)
theorem Zo{m:av}{ds:aE}{o b:Int}{live:aB}(e:i0 live<=64)(a:∀k d,aV ds k=dB d->i0 d.l<=512):i0 (eC m ds live o b)<=64*512:=by unfold eC;exact qT (Bi (c:=512) λj _=>CI a) (zD _ e)
theorem Zp{m:av}{ds:aE}{o b k:Int}{x:Int×aL}(h:x∈kG m ds o b k):0<=x.1/\x.1<=65535:=by obtain⟨d,r,_,e,_,_,rfl⟩:=Ji h;obtain⟨_,_,_,c⟩:=tk e;have a:=(jD.1 c).1;unfold iV at a;rw[qy,qy,qy]at a;have:=a.1.2.2;unfold bW at this;rw[qy,decide_eq_true_eq,decide_eq_true_eq]at this;exact this
theorem Fb{m:av}{ds:aE}{o b:Int}{live l:aB}(h:l∈dF m ds o b live):∃k∈live,l=(kG m ds o b k).map qt:=by unfold dF at h;obtain⟨k,a,rfl⟩:=qo.1 h;refine⟨k,a,?_⟩;unfold eC;rw[za,zS,qE]
theorem PZ{m:av}{live:aB}{ds:aE}{o:Int}{tries:aB}{i:Nat}(f:∀k d,aV ds k=dB d->i0 d.l<=512)(t:i0 (aU ds m.drives)=i0 live)(h:(ib m live ds o tries i).1=0):sj m live (ib m live ds o tries i).2/\(ib m live ds o tries i).2.got=[]:=by
 unfold ib at h⊢;dsimp only at h⊢;obtain⟨r,v⟩:∃r,r=lE m.p (ci o i (tries.getD i 0)) (eC m ds live o i):=⟨_,rfl⟩
 rw[<-v]at h⊢;by_cases j:r.2≠0
 ·rw[g9 j]at h;cases h
 rw[hU j]at h⊢;by_cases g:jo m.p (ci o i (tries.getD i 0)) r.1.length≠0
 ·rw[g9 g]at h;cases h
 rw[hU g]at h⊢;obtain⟨a,b,c⟩:=Zn l4;obtain⟨K,H,w,n,B⟩:=Ud a b c;have q:m.p.2.2.toNat=w:=B.size;have D:(bN m.p).toNat=n:=by have:=B.k;have:=B.h;have:=B.n;rw[bN,g9 a];omega
 refine⟨⟨kS _ _ _,by rw[q];exact B.nR.2,by rw[D];exact B.nR.1,by show(dF _ _ _ _ _).length=_;unfold dF;rw[qq];exact t,λl e=>?_,?_,zi _,λs A=>by cases A⟩,i4⟩
 ·obtain⟨k,_,rfl⟩:=Fb e;rw[qq];have:=CI (m:=m) (ds:=ds) (o:=o) (b:=i) (k:=k) f;omega
 ·refine qT (PX (n:=65535) λl e x u=>?_) (by show(65535:Nat)<=2^20+0;decide);obtain⟨k,_,rfl⟩:=Fb e;obtain⟨z,y,rfl⟩:=qo.1 u;have:=Zp y;omega
def uS(a:f8)(p:Pm)(seed:Int)(M:aJ):HP:=HP.ex λm:Sl=>(ac a 225 (AH p seed m)).sep (fP 58 m 1 az M)
section
variable {pw:f8}
theorem agS{a:f8}{p:Pm}{seed:Int}{M:aJ}:St B h0 (uS a p seed M::As) λh=>uC h a p seed M:=λBs h' e=>by
 have c:=e.cons Bs.length (A:=uS a p seed M) (by rw[qh (ql _),Nat.sub_self];rfl);obtain⟨q,d⟩:=c.oW;have b:=d.mg;exact⟨q,b.box 1 i4,b.Dt 0 i4⟩
theorem VR{c:f8}(y:bm)(f:Sl)(live:aB)(t most k:Int)(x:dN)(e:Qw.cu)(i:Nat)(hm:bf m=eX)(hl:live.length<=64)(O:∀k∈live,∃d,aV ds k=dB d)(hi:i<e.tries.length)(a9:e.tries.length<=2^20)
  (hS:St B h0 As λh=>dh h y m/\Rd h f 1 ak live/\dQ fp h x e)
  (H:aa B h0 h (bD a pw da offs w ds m::ac c 84 (db a y f t most k)::As)):
  an xP 93 #[xH (dB c),xK (bc x).toArray,xF xL i] h λv h'=>
   ((ib m live ds e.object e.tries i).1≠0->v=.tuple #[xH eH,xF xL (ib m live ds e.object e.tries i).1]/\aa B h0 h' (bD a pw da offs w ds m::ac c 84 (db a y f t most k)::As))/\
   ((ib m live ds e.object e.tries i).1=0->∃b cd:f8,v=.tuple #[xH (dB b),xF xL 0]/\aa B h0 h' (bD a pw da offs w ds m::ac c 84 (db a y f t most k)::pH b cd (ib m live ds e.object e.tries i).2::uS cd m.p (ib m live ds e.object e.tries i).2.seed (ib m live ds e.object e.tries i).2.M::As)):=by
 have hz:=iC hm;have ax:=(ka H).2;have L:∀k d,aV ds k=dB d->d.l.length<=512:=λk d hd=>by have:=ax k d hd;omega
 obtain⟨seed,V⟩:∃seed,seed=ci e.object i (e.tries.getD i 0):=⟨_,rfl⟩
 obtain⟨r,hr⟩:∃r,r=lE m.p seed (eC m ds live e.object i):=⟨_,rfl⟩
 have eP:ib m live ds e.object e.tries i=(if r.2≠0 then(11,⟨e.object,i,seed,[],[],[]⟩)else if jo m.p seed r.1.length≠0 then(11,⟨e.object,i,seed,[],[],[]⟩)else(0,⟨e.object,i,seed,dw m.p seed r.1,dF m ds e.object i (aU ds m.drives),[]⟩)):=by rw[hr,V];rfl
 refine ts Tryz.func93 ?_ (.two .n (.two (.join [(8,Oi)] [(8,9),(11,25)] .n) (.two (.join [(9,cL),(10,aQ)] [(9,11),(25,55)] .n) (.two .n (.two (.join [] [(6,8),(10,11),(57,76)] (.two (.join [(10,aQ)] [(10,11),(57,74)] .n) .n)) (.two (.join [] [(76,87)] .n) .n)))))) (args:=[(dB c),x,(i:Int)]);refine H.boxed λs h1 H1=>?_;have H1:aa B h0 h1 (ac s 88 (bc x)::bD a pw da offs w ds m::ac c 84 (db a y f t most k)::As):=H1.be;obtain⟨hy,bs,hx⟩:=(hS.cons.cons.cons).here H1;have g:=H1.box 0 i4;obtain⟨⟨x1,x2,x3⟩,x4⟩:=id hx;have bd:=x4.len;have no:∀{h':g0} {Cs:List HP},aa B h0 h' (ac s 88 (bc x)::bD a pw da offs w ds m::ac c 84 (db a y f t most k)::As)->(ib m live ds e.object e.tries i).1=11->
   ((ib m live ds e.object e.tries i).1≠0->Value.tuple #[xH eH,xF xL 11]=.tuple #[xH eH,xF xL (ib m live ds e.object e.tries i).1]/\aa B h0 h' (bD a pw da offs w ds m::ac c 84 (db a y f t most k)::As))/\
   ((ib m live ds e.object e.tries i).1=0->∃b cd:f8,Value.tuple #[xH eH,xF xL 11]=.tuple #[xH (dB b),xF xL 0]/\aa B h0 h' (bD a pw da offs w ds m::ac c 84 (db a y f t most k)::pH b cd (ib m live ds e.object e.tries i).2::uS cd m.p (ib m live ds e.object e.tries i).2.seed (ib m live ds e.object e.tries i).2.M::As)):=λ{h' Cs} H' he=>by
  rw[he];exact⟨λ_=>⟨i4,H'.rest⟩,λh=>absurd h i6⟩
 have P:∀{h':g0},dh h' y m->bY h' c 84 (db a y f t most k)->bn h' ((c.add 1).add 2) 0 [xF xL m.p.1,xF xL m.p.2.1,xF xL m.p.2.2]:=λ{h'} hy hc=>by
  have a2:y.2.2.1=m.p.1:=congrArg (·.1) hy.p;have am:y.2.2.2.1=m.p.2.1:=congrArg (·.2.1) hy.p;have ab:y.2.2.2.2.1=m.p.2.2:=congrArg (·.2.2) hy.p;rw[addr_add,<-a2,<-am,<-ab];exact hc.cells 3 _ i4
 obtain⟨j,u⟩:∃j:lH,j=⟨e.object,i,seed,[],[],[]⟩:=⟨_,rfl⟩
 refine bL (λ(z:cj) h'=>∃b:f8,z=dB b/\aa B h0 h' (ac b 155 (gv j eH ⟨eH,0,0⟩ ⟨eH,0,0⟩)::ac s 88 (bc x)::bD a pw da offs w ds m::ac c 84 (db a y f t most k)::As)) ?_ ?_
 ·refine⟨x.2.1,g.cell i4,x.2.1,g.cell i4,x.2.2.2,g.cell i4,?_⟩;refine x4.bt i i4 hi e.tries[i] i4 ?_;refine(nC x.2.1 i e.tries[i] h1).mono ?_;rintro _ _ ⟨rfl,rfl⟩;refine⟨_,i4,⟨g.cell i4,g.cell i4,trivial⟩,?_⟩;refine H1.boxed λa8 h3 T=>?_;have T:=T.be;refine⟨⟨(T.box 1 i4).cell i4,(T.box 1 i4).cell i4,trivial⟩,a8,i4,?_⟩;have es:ci x.2.1 i e.tries[i]=seed:=by rw[V,x2,gF 0 hi]
  rw[es,x2]at T;rw[u];exact T
 rintro _ h4 ⟨b,rfl,U⟩;have ar:=U.box 0 i4;have D:=U.box 3 i4;have ay:=U.box 1 i4;obtain⟨X,W,b0⟩:=(hS.cons.cons.cons.cons).here U;have N:j.seed=seed:=by rw[u]
 have bk:j.o=e.object:=by rw[u]
 refine bL (λ(z:Sl×Int) h'=>z.2=r.2/\aa B h0 h' (af 5 z.1 1 az r.1::ac b 155 (gv j eH ⟨eH,0,0⟩ ⟨eH,0,0⟩)::ac s 88 (bc x)::bD a pw da offs w ds m::ac c 84 (db a y f t most k)::As)) ?_ ?_
 ·refine⟨c,i4,m.p,P X D,b,i4,seed,by rw[<-N];exact ar.cell i4,c,i4,dB a,D.cell0 i4,c,i4,f,D.cell i4,c,i4,y,D.cells 1 _ i4,x.2.1,ay.cell i4,?_⟩;rw[x2];refine(RQ y f live e.object i X hz W i5 O (U.aO 3 [2])).mono ?_;rintro _ h5 ⟨G,ss,rfl,R5⟩;have Y:=U.up R5.ae;have R:Fix jm 2 piv h5 (λb=>b<h5.size) G ss (eC m ds live e.object i):=R5.at 0 i4;have a6:dQ FI h5 G (eC m ds live e.object i):=⟨ss,R.1,R.2.1,R.2.2⟩
  have br:=Zo (m:=m) (o:=e.object) (b:=i) hl L;obtain⟨ad,_,_⟩:=(hS.cons.cons.cons.cons).here Y;have q5:=P ad (Y.box 3 i4);refine⟨G,i4,⟨(Y.box 3 i4).cell0 i4,by rw[<-N];exact(Y.box 0 i4).cell i4,q5.1,q5.2.1,q5.2.2.1,trivial⟩,?_⟩;refine(Jd m.p seed G _ h5 a6).mono ?_;rintro _ h6 ⟨ah,rfl,R6⟩;rw[<-hr]at R6⊢;have H6:=Y.cb R6;refine⟨(ah,r.2),i4,⟨(H6.box 4 i4).cell0 i4,trivial⟩,i4,?_⟩;exact H6
 rintro⟨z,_⟩ h7 ⟨rfl,I⟩;dsimp only at I⊢;refine bx (λe1=>?_) λe1=>?_
 ·exact no (Cs:=[]) I.rest.rest (by rw[eP,g9 e1])
 have ao:=I.own 0 i4;refine bL (λ(_:Unit) h'=>jo m.p seed r.1.length=0/\∃cd:f8,aa B h0 h' (ac b 155 (gv j (dB cd) ⟨eH,0,0⟩ ⟨eH,0,0⟩)::uS cd m.p seed (dw m.p seed r.1)::ac s 88 (bc x)::bD a pw da offs w ds m::ac c 84 (db a y f t most k)::As)) ?_ ?_
 ·refine bL (λ(z:Int) h'=>(z≠0->jo m.p seed r.1.length≠0/\aa B h0 h' (ac s 88 (bc x)::bD a pw da offs w ds m::ac c 84 (db a y f t most k)::As))/\(z=0->jo m.p seed r.1.length=0/\∃cd:f8,aa B h0 h' (ac b 155 (gv j (dB cd) ⟨eH,0,0⟩ ⟨eH,0,0⟩)::uS cd m.p seed (dw m.p seed r.1)::ac s 88 (bc x)::bD a pw da offs w ds m::ac c 84 (db a y f t most k)::As))) ?_ ?_
  ·obtain⟨a0,_,_⟩:=(hS.cons.cons.cons.cons.cons).here I;refine⟨c,i4,m.p,P a0 (I.box 4 i4),b,i4,seed,by rw[<-N];exact(I.box 1 i4).cell i4,?_⟩;refine(OM m.p seed z r.1 h7 (I.seq 0 i4 λ_=>rfl) ao.cap).mono ?_;rintro _ h8 ⟨n1,n2⟩;by_cases K:jo m.p seed r.1.length=0
   ·obtain⟨cd,mm,rfl,R8⟩:=n1 K;have H8:=(I.comp R8).front;refine⟨(dB cd,0),i4,trivial,b,i4,?_⟩;refine H8.storeAt aj 3 i4 i4 i4 i4 i4 (show 3<6 by decide) λZ A=>⟨trivial,?_⟩
    have A:aa B h0 Z (fP 58 mm 1 az (dw m.p seed r.1)::ac cd 225 (AH m.p seed mm)::af 5 z 1 az r.1::ac b 155 (gv j (dB cd) ⟨eH,0,0⟩ ⟨eH,0,0⟩)::ac s 88 (bc x)::bD a pw da offs w ds m::ac c 84 (db a y f t most k)::As):=A;have a7:aa B h0 Z (uS cd m.p seed (dw m.p seed r.1)::af 5 z 1 az r.1::ac b 155 (gv j (dB cd) ⟨eH,0,0⟩ ⟨eH,0,0⟩)::ac s 88 (bc x)::bD a pw da offs w ds m::ac c 84 (db a y f t most k)::As):=
     aa.ub (F:=λq:Sl=>(ac cd 225 (AH m.p seed q)).sep (fP 58 q 1 az (dw m.p seed r.1))) mm A.jd
    exact⟨λh=>absurd i4 h,λ_=>⟨K,cd,a7.aO 3 [2,0]⟩⟩
   ·obtain⟨rfl,R8⟩:=n2 K;have H8:=I.up R8.ae;refine⟨(eH,jo m.p seed r.1.length),i4,trivial,b,i4,?_⟩;refine H8.storeAt aj 1 i4 i4 i4 i4 i4 (show 3<6 by decide) λZ A=>⟨trivial,?_⟩
    have A:aa B h0 Z (af 5 z 1 az r.1::ac b 155 (gv j eH ⟨eH,0,0⟩ ⟨eH,0,0⟩)::ac s 88 (bc x)::bD a pw da offs w ds m::ac c 84 (db a y f t most k)::As):=A;exact⟨λ_=>⟨K,A.rest.rest⟩,λh=>absurd h K⟩
  ·rintro z Z ⟨n1,n2⟩;refine bx (λe2=>?_) λe2=>n2 e2;obtain⟨K,A⟩:=n1 e2;exact no (Cs:=[]) A (by rw[eP,hU λh=>h e1,g9 K])
 rintro _ bb ⟨K,cd,J⟩;have ap:ib m live ds e.object e.tries i=(0,⟨e.object,i,seed,dw m.p seed r.1,dF m ds e.object i (aU ds m.drives),[]⟩):=by rw[eP,hU λh=>h e1,hU λh=>h K]
 rw[ap]
 try dsimp only
 refine bL (λ(_:Unit) h'=>aa B h0 h' (bD a pw da offs w ds m::ac c 84 (db a y f t most k)::pH b cd ⟨e.object,i,seed,dw m.p seed r.1,dF m ds e.object i (aU ds m.drives),[]⟩::uS cd m.p seed (dw m.p seed r.1)::As)) ?_ ?_
 ·refine⟨c,i4,dB a,(J.box 4 i4).cell0 i4,x.2.1,(J.box 2 i4).cell i4,?_⟩;rw[x2];refine(ES e.object i hm (J.aO 4 [3])).mono ?_;rintro _ bl ⟨S,rfl,a3⟩;have a5:=J.cb a3;refine⟨S,i4,trivial,b,i4,?_⟩;refine a5.storeAt aj 1 i4 i4 i4 i4 i4 (show 4<6 by decide) λa4 E=>⟨trivial,?_⟩
  have E:aa B h0 a4 (dH 22 S 3 1 ak (dF m ds e.object i (aU ds m.drives))::ac b 155 (gv ⟨e.object,i,seed,dw m.p seed r.1,dF m ds e.object i (aU ds m.drives),[]⟩ (dB cd) S ⟨eH,0,0⟩)::uS cd m.p seed (dw m.p seed r.1)::ac s 88 (bc x)::bD a pw da offs w ds m::ac c 84 (db a y f t most k)::As):=by rw[u]at E;exact E
  have Q:=(E.nil 3 1 ak).be;have al:=uR (x:=⟨e.object,i,seed,dw m.p seed r.1,dF m ds e.object i (aU ds m.drives),[]⟩) Q;exact al.aO 5 [3,4,0,1]
 ·rintro _ bq Q;exact⟨λh=>absurd i4 h,λ_=>⟨b,cd,i4,Q⟩⟩
end
theorem RS(w:Pow)(d:aZ)(b:aL):(d.append w b).2.2.lost=d.lost:=by unfold aZ.append;(repeat' split)<;>rfl
theorem Fc(w:Pow)(d:aZ)(l:bP):(d.rewrite w l).2.2.lost=d.lost:=by unfold aZ.rewrite;(repeat' split)<;>rfl
theorem Zq(w:Pow)(d:aZ):(d.sync w).2.2.lost=d.lost:=by unfold aZ.sync;(repeat' split)<;>rfl
theorem Jv(m:av)(w:Pow)(d:aZ)(n:Int):(ge m w d n).2.2.lost=d.lost:=by
 unfold ge;split
 ·rfl
 ·split
  ·rfl
  ·split
   ·rfl
   ·exact Fc _ _ _
structure iJ (ds ds':aE):Prop where
 len:i0 ds'=i0 ds
 at_:∀k,(aV ds' k).map aZ.lost=(aV ds k).map aZ.lost
theorem iJ.refl(ds:aE):iJ ds ds:=⟨i4,λ_=>rfl⟩
theorem iJ.trans{a b c:aE}(d:iJ a b)(e:iJ b c):iJ a c:=⟨e.len.trans d.len,λk=>(e.at_ k).trans (d.at_ k)⟩
theorem iJ.set{ds:aE}{k:Int}{d e:aZ}(a:i0 ds=64)(b:aV ds k=dB d)(c:e.lost=d.lost):iJ ds (ck ds k e):=⟨Ct _ _ _,λs=>by
 rw[ng a b];split
 ·rename_i h;subst h;rw[b];simp[c]
 ·rfl⟩
theorem iJ.live{ds ds':aE}(h:iJ ds ds')(l:aB):aU ds' l=aU ds l:=by unfold aU;refine List.filter_congr λx _=>?_;unfold isLive;have:=h.at_ x;cases h1:aV ds' x<;>cases h2:aV ds x<;>rw[h1,h2]at this<;>first|rfl|cases this|(injection this with this;simp only[this])
theorem RT{m:av}{c:aL}{w:Pow}{ds:aE}{s:Int}{d:aZ}(a:i0 ds=64)(b:aV ds s=dB d):iJ ds (nl m c w ds s d).2.2:=by
 unfold nl
 try dsimp only
 split
 ·exact .set a b (Jv _ _ _ _)
 ·rw[CH];exact .set a b ((RS _ _ _).trans (Jv _ _ _ _))
theorem CJ{m:av}{live set a:aB}{c:aL}{id:Nat}{w:Pow}{ds:aE}(b:i0 ds=64):∀{l:List Nat},iJ ds (kK m live set a c id w ds l).1.2.2
 |[]=>.refl _
 |i::l=>by
  unfold kK
  try dsimp only
  cases hd:aV ds (jh a ((id:Int)+i))with
  |none=>exact CJ b
  |some d=>
   try dsimp only
   split
   ·exact CJ b
   ·exact RT b hd
theorem Zr{m:av}{live set:aB}{w:Pow}{ds:aE}{x:lH}(a:i0 ds=64):iJ ds (iT m live set w ds x).2.2.1:=CJ a
theorem Jw{m:av}{live:aB}{t most:Int}:∀{f:Nat} {w:Pow} {ds:aE} {x:lH},i0 ds=64->iJ ds (fW m live t most f w ds x).2.2.1
 |0,_,_,_,_=>.refl _
 |f+1,w,ds,x,h64=>by
  unfold fW
  try dsimp only
  split
  ·exact .refl _
  ·split
   ·exact .refl _
   ·split
    ·exact .refl _
    ·have a:=Zr (m:=m) (live:=live) (set:=(gD m.p x.seed x.W t).1) (w:=w) (x:=x) h64;split
     ·exact a
     ·exact a.trans (Jw (a.len.trans h64))
theorem Fe{m:av}{live:aB}{t most:Int}(j:most<=64):∀{f:Nat} {w:Pow} {ds:aE} {x:lH},sj m live x->sj m live (fW m live t most f w ds x).2.2.2/\(fW m live t most f w ds x).2.2.2.seed=x.seed/\(fW m live t most f w ds x).2.2.2.M=x.M
 |0,_,_,_,F=>⟨F,i4,i4⟩
 |f+1,w,ds,x,F=>by
  unfold fW
  try dsimp only
  split
  ·exact⟨F,i4,i4⟩
  ·split
   ·exact⟨F,i4,i4⟩
   ·split
    ·exact⟨F,i4,i4⟩
    ·rename_i k;obtain⟨g,i,h3⟩:=PY (set:=(gD m.p x.seed x.W t).1) (w:=w) (ds:=ds) F i5;have d:(iT m live (gD m.p x.seed x.W t).1 w ds x).2.2.2.seed=x.seed/\(iT m live (gD m.p x.seed x.W t).1 w ds x).2.2.2.M=x.M:=by
      by_cases h:(iT m live (gD m.p x.seed x.W t).1 w ds x).1=0
      ·obtain⟨s,_,e⟩:=i h;rw[e];exact⟨i4,i4⟩
      ·rw[h3 h];exact⟨i4,i4⟩
     split
     ·exact⟨g,d⟩
     ·obtain⟨a,b,c⟩:=Fe j (f:=f) (w:=(iT m live (gD m.p x.seed x.W t).1 w ds x).2.1) (ds:=(iT m live (gD m.p x.seed x.W t).1 w ds x).2.2.1) g;exact⟨a,b.trans d.1,c.trans d.2⟩
theorem Jx:∀{l:aB} {w:Pow} {ds:aE},i0 ds=64->iJ ds (gM l w ds).2.2
 |[],_,_,_=>.refl _
 |x::l,w,ds,h64=>by
  have a:iJ ds (gW w ds x).2.2:=by
   unfold gW;cases hd:aV ds x with
   |none=>exact .refl _
   |some d=>exact .set h64 hd (Zq _ _)
  rw[sT];split
  ·exact a.trans (Jx (a.len.trans h64))
  ·exact a
theorem tu{m:av}:∀{l:aB} {w:Pow} {ds:aE},i0 ds=64->iJ ds (gn m l w ds).2.2
 |[],_,_,_=>.refl _
 |k::l,w,ds,h64=>by
  unfold gn;cases hd:aV ds k with
  |none=>exact tu h64
  |some d=>
   try dsimp only
   split
   ·exact tu h64
   ·have a:iJ ds (ck ds k (d.rewrite w (bO m d.l)).2.2):=.set h64 hd (Fc _ _ _);split
    ·exact a.trans (tu (a.len.trans h64))
    ·exact a
noncomputable def hJ(m:av)(live:aB)(t most:Int)(w:Pow)(ds:aE)(e:cu)(i:Nat):Int×Pow×aE×Nat:=
 let p:=ib m live ds e.object e.tries i
 if p.1≠0 then(p.1,w,ds,0)else
  let q:=fW m live t most 65 w ds p.2
  if q.1=14 then(14,q.2.1,q.2.2.1,q.2.2.2.got.length)else
   let z:=gM (dK q.2.2.2.got) q.2.1 q.2.2.1
   (if z.1≠0 then z.1 else q.1,z.2.1,z.2.2,q.2.2.2.got.length)
theorem RU{m:av}{live:aB}{t most:Int}{w:Pow}{ds:aE}{e:cu}{i:Nat}(a:ds.length=64):iJ ds (hJ m live t most w ds e i).2.2.1:=by
 unfold hJ
 try dsimp only
 split
 ·exact .refl _
 ·have b:=Jw (m:=m) (live:=live) (t:=t) (most:=most) (f:=65) (w:=w) (x:=(ib m live ds e.object e.tries i).2) a;split
  ·exact b
  ·exact b.trans (Jx (b.len.trans a))
theorem VS{m:av}{live:aB}{t most:Int}{w:Pow}{ds:aE}{e:cu}{i:Nat}(b:most<=64)(a:∀k d,aV ds k=dB d->i0 d.l<=512)(c:i0 (aU ds m.drives)=i0 live):(hJ m live t most w ds e i).2.2.2<=64:=by
 unfold hJ
 try dsimp only
 split
 ·exact zi _
 ·rename_i h;have F:=(PZ a c j9).1;have:=(Fe (t:=t) (most:=most) b (f:=65) (w:=w) (ds:=ds) F).1.gl;split<;>exact this
noncomputable def me(m:av)(live:aB)(t most:Int)(e:cu):List Nat->Pow->aE->Nat->Int×Pow×aE×Nat
 |[],w,ds,k=>(0,w,ds,k)
 |i::l,w,ds,k=>
  let q:=hJ m live t most w ds e i
  if q.1≠0 then(q.1,q.2.1,q.2.2.1,k+q.2.2.2)else me m live t most e l q.2.1 q.2.2.1 (k+q.2.2.2)
noncomputable def sl(m:av)(live:aB)(t most:Int):List cu->Pow->aE->Nat->Int×Pow×aE×Nat
 |[],w,ds,k=>(0,w,ds,k)
 |e::l,w,ds,k=>
  let q:=me m live t most e (qx e.tries.length) w ds k
  if q.1≠0 then q else sl m live t most l q.2.1 q.2.2.1 q.2.2.2
noncomputable def pI(m:av)(offs:Int)(w:Pow)(ds:aE)(t most:Int):Nat×Int×Pow×aE:=
 if fH w offs then(0,14,w,ds)else if t<0∨t>=(i0 (aU ds m.drives):Int)∨most<0∨most>64 then(0,1,w,ds)else if lA (i0 (aU ds m.drives):Int) t>4096 then(0,13,w,ds)else
 let c:=gn m (aU ds m.drives) w ds
 if c.1≠0 then(0,c.1,c.2.1,c.2.2)else
  let q:=sl m (aU ds m.drives) t most m.objs c.2.1 c.2.2 0
  (q.2.2.2,q.1,q.2.1,q.2.2.1)
section
variable {pw:f8}
theorem RV{c:f8}(y:bm)(u:Sl)(live:aB)(t most:Int)(k:Nat)(x:dN)(e:Qw.cu)(i:Nat)(I:bf m=eX)(r:live=aU ds m.drives)(hk:k<=2^30)(j:0<=most/\most<=64)(hi:i<e.tries.length)(T:e.tries.length<=2^20)
  (hS:St B h0 As λh=>dh h y m/\Rd h u 1 ak live/\dQ fp h x e)
  (H:aa B h0 h (bD a pw da offs w ds m::ac c 84 (db a y u t most k)::As)):
  an xP 41 #[xH (dB c),xK (bc x).toArray,xF xL i] h λv h'=>v=xF xL (hJ m live t most w ds e i).1/\
   aa B h0 h' (bD a pw da offs (hJ m live t most w ds e i).2.1 (hJ m live t most w ds e i).2.2.1 m::ac c 84 (db a y u t most ((k+(hJ m live t most w ds e i).2.2.2:Nat):Int))::As):=by
 refine ts Tryz.func41 ?_ (args:=[(dB c),x,(i:Int)]);have hp:bJ m.p=eX:=((dn m).1 ((bM m).1 I).1).2.2.1;have R:=gy I;have Z:live.length<=64:=by rw[r];exact qT (qS _ _) R
 have g:∀k∈live,∃d,aV ds k=dB d:=λk hk=>by obtain⟨_,d,N,_⟩:=lW (show k∈aU ds m.drives by rw[<-r];exact hk);exact⟨d,N⟩
 have X:=(ka H).2;have ad:=(ka H).1;have z:∀k d,aV ds k=dB d->d.l.length<=512:=λk d N=>by have:=X k d N;omega
 obtain⟨p,n⟩:∃p,p=ib m live ds e.object e.tries i:=⟨_,rfl⟩
 refine H.boxed λQ h1 K=>?_;have K:aa B h0 h1 (bD a pw da offs w ds m::ac c 84 (db a y u t most k)::ac Q 88 (bc x)::As):=K.be.aO 3 [1,2,0];refine⟨x,(K.box 2 i4).aF _ i4,(VR y u live t most k x e i I Z g hi T hS.cons K).mono ?_⟩;rw[<-n];rintro _ h2 ⟨n1,n2⟩;by_cases G:p.1=0
 rotate_left
 ·obtain⟨rfl,P⟩:=n1 G;have eb:hJ m live t most w ds e i=(p.1,w,ds,0):=by unfold hJ;(try dsimp only);rw[<-n,g9 G]
  rw[eb];exact⟨(eH,p.1),i4,bx (λ_=>⟨i4,P.aO 3 [0,1]⟩) λh=>absurd h G⟩
 obtain⟨b,cd,rfl,P⟩:=n2 G;have F:=PZ (m:=m) (live:=live) (ds:=ds) (o:=e.object) (tries:=e.tries) (i:=i) z q6 (by rw[<-n];exact G);rw[<-n]at F;obtain⟨q,E⟩:∃q,q=fW m live t most 65 w ds p.2:=⟨_,rfl⟩
 have eb:hJ m live t most w ds e i=(if q.1=14 then(14,q.2.1,q.2.2.1,q.2.2.2.got.length)else
   (if(gM (dK q.2.2.2.got) q.2.1 q.2.2.1).1≠0 then(gM (dK q.2.2.2.got) q.2.1 q.2.2.1).1 else q.1,(gM (dK q.2.2.2.got) q.2.1 q.2.2.1).2.1,(gM (dK q.2.2.2.got) q.2.1 q.2.2.1).2.2,q.2.2.2.got.length)):=by
  unfold hJ;(try dsimp only);rw[<-n,hU λh=>h G,<-E]
 refine⟨(dB b,0),i4,bx (λh=>absurd i4 h) λ_=>?_⟩;have S:St B h0 (uS cd m.p p.2.seed p.2.M::ac Q 88 (bc x)::As) λh=>dh h y m/\Rd h u 1 ak live/\uC h cd m.p p.2.seed p.2.M:=λBs h' H'=>by
  obtain⟨z1,z2,_⟩:=hS.cons.cons Bs h' H';exact⟨z1,z2,agS Bs h' H'⟩
 refine(VQ y u live t most k p.2 I hp Z g i5 F.1 F.2 j S P).mono ?_;rw[<-E];rintro _ h3 ⟨rfl,Y⟩;refine⟨_,i4,cH (λJ=>?_) λJ=>?_⟩
 ·rw[eb,g9 J];exact⟨by rw[J],Y.aO 5 [0,1]⟩
 rw[eb,hU J];have W:=(Fe (m:=m) (live:=live) (t:=t) (most:=most) j.2 (f:=65) (w:=w) (ds:=ds) F.1).1;rw[<-E]at W;obtain⟨wS,gS,D⟩:=FM (Y.aO 3 [2,0,1]);have ab:=D.box 4 i4;have D:aa B h0 h3 (bD a pw da offs q.2.1 q.2.2.1 m::ac c 84 (db a y u t most ((k:Int)+q.2.2.2.got.length))::af 3 gS 1 ak q.2.2.2.got::ac b 155 (gv q.2.2.2 (dB cd) wS gS)::uS cd m.p p.2.seed p.2.M::ac Q 88 (bc x)::As):=D.aO 5 [3,4,0,2];have O:∀s∈q.2.2.2.got,0<=s/\s<64:=λs L=>by
  have L:=W.gi s L;rw[r]at L;exact iQ I s (lW L).1
 refine⟨c,i4,dB a,(D.box 1 i4).cell0 i4,b,i4,gS,(D.box 3 i4).cell i4,?_⟩;refine(abI gS q.2.2.2.got (St.eG (A:=af 3 gS 1 ak q.2.2.2.got) 1 i4 λh' E=>E.1.seq (λ_=>rfl) E.2) (by have:=W.gl;omega) O D).mono ?_;rintro _ h5 ⟨rfl,U⟩;refine⟨_,i4,⟨(U.box 1 i4).cell0 i4,trivial⟩,bx (λV=>?_) λV=>?_⟩
 ·rw[g9 V];exact⟨i4,U.aO 6 [0,1]⟩
 ·rw[hU λh=>h V];exact⟨i4,U.aO 6 [0,1]⟩
def Ff(y:bm)(m:av)(i:Nat)(e:Qw.cu)(x:dN):HP:=
 ⟨λh q=>(bh y m).p h q/\fp.p h q x e/\∃d,Qw.Seq h q y.2.2.2.2.2.2.2 4 bc d/\d[i]?=dB x,
  λa g=>⟨(bh y m).loc a.1 g,fp.loc a.2.1 g,by obtain⟨d,b,c⟩:=a.2.2;exact⟨d,b.ae g,c⟩⟩,
  λa f=>⟨(bh y m).mono a.1 f,fp.mono a.2.1 f,by obtain⟨d,b,c⟩:=a.2.2;exact⟨d,b.mono f,c⟩⟩⟩
theorem agw{y:bm}{i:Nat}(d:i<i0 m.objs)(H:aa B h0 h (bh y m::As)):∃x,aa B h0 h (Ff y m i m.objs[i] x::As):=
 aa.oW (F:=λx=>Ff y m i m.objs[i] x) (H.eJ 0 i4 λq b=>by
  have a:pv h q y m:=b;obtain⟨c,e,g,f⟩:=bC.kb a.objs;exact⟨c[i]'(by omega),b,f i i5 d,c,e,qc i5⟩)
theorem agT{y:bm}{i:Nat}{e:Qw.cu}{x:dN}(H:aa B h0 h (Ff y m i e x::As)):aa B h0 h (bh y m::As):=H.eJ 0 i4 λq a=>a.1
theorem VT(t most:Int)(O:bf m=eX)(ht:-(2^62)<=t/\t<=2^62)(H:aa B h0 h (bD a pw da offs w ds m::As)):
  an xP 6 #[xH (dB a),xF xL t,xF xL most] h λv h'=>v=.tuple #[xF xL ((pI m offs w ds t most).1:Nat),xF xL (pI m offs w ds t most).2.1]/\aa B h0 h' (bD a pw da offs (pI m offs w ds t most).2.2.1 (pI m offs w ds t most).2.2.2 m::As):=by
 refine ts Tryz.func6 ?_ (.two .n (.two (.join [] [(6,8),(14,20)] .n) (.two .n (.two (.join [] [(6,8),(29,58)] (.inn (.two (.join [(29,sM)] [(29,49)] .n) .n))) (.two .n (.two (.two .n (.inn (.loop [(69,aQ)] [(6,8),(11,14),(69,92)] (.two .n (.two .n (.two (.inn (.two .n (.two .n (.inn (.loop [(76,aQ)] [(6,8),(12,14),(76,91)] .n))))) .n)))))) .n))))));have a4:=gy O;have ab:=(ka H).1;obtain⟨live,f⟩:∃live,live=aU ds m.drives:=⟨_,rfl⟩
 have ao:live.length<=64:=by rw[f];exact qT (qS _ _) a4
 obtain⟨G,l⟩:∃G,G=pI m offs w ds t most:=⟨_,rfl⟩
 rw[<-l];unfold pI at l;rw[<-f]at l;refine aW (bo (λe=>j3) λ_=>(abr H).mono ?_);rintro _ h1 ⟨rfl,rfl⟩;refine⟨_,i4,bo (λe=>?_) λe1=>?_⟩
 ·rw[g9 e]at l;rw[l];exact⟨i4,H⟩
 rw[hU mM]at l;refine(CE O H).mono ?_;rintro _ h2 ⟨y,rfl,R2⟩;have H2:=H.cb R2;refine⟨y,i4,(Hq O (H2.aO 2 [1,0])).mono ?_⟩;rintro _ h3 ⟨c,rfl,R3⟩;rw[<-f]at R3;have H3:=H2.cb R3;refine⟨c,i4,H3.boxed λa5 h5 U=>?_⟩;have U:aa B h0 h5 (bD a pw da offs w ds m::ac a5 84 (db a y c t most 0)::af 3 c 1 ak live::bh y m::As):=(U.be).aO 4 [3,0,1,2];have ad:=(U.own 2 i4).len;have W:=U.box 1 i4;refine aW (bL (λ(b:Bool) h'=>b=decide (t<0∨t>=(live.length:Int)∨most<0∨most>64)/\h'=h5) ?_ ?_)
 ·refine ag (λe=>⟨by rw[hY (.inl e)],i4⟩) λea=>⟨a5,i4,c,W.cell i4,ag (λe=>⟨by rw[hY (.inr (.inl i5))],i4⟩) λeb=>ag (λe=>⟨by rw[hY (.inr (.inr (.inl e)))],i4⟩) λec=>⟨?_,i4⟩⟩
  rw[decide_eq_decide];omega
 rintro b h6 ⟨rfl,rfl⟩;refine ag (λe=>by rw[g9 e]at l;rw[l];exact⟨i4,U.aO 4 [0]⟩) λe2=>?_;rw[hU e2]at l;have r:0<=most/\most<=64:=i5
 refine⟨a5,i4,c,W.cell i4,(Bp ((c.len:Nat):Int) t h6 i5 ht).mono ?_⟩;rintro _ h7 ⟨rfl,rfl⟩;rw[ad];refine⟨_,i4,ag (λe=>by rw[g9 e]at l;rw[l];exact⟨i4,U.aO 4 [0]⟩) λe3=>?_⟩;rw[hU e3]at l;dsimp only at l;have hS:St B h0 (ac a5 84 (db a y c t most 0)::af 3 c 1 ak live::bh y m::As) λh=>bY h a5 84 (db a y c t most 0)/\dh h y m/\Rd h c 1 ak live:=λBs h' K=>
  ⟨(St.eG (A:=ac a5 84 (db a y c t most 0)) 0 i4 λ_ q=>q.1) Bs h' K,(St.eG (A:=bh y m) 2 i4 λ_ q=>q) Bs h' K,(St.eG (A:=af 3 c 1 ak live) (Q:=λh=>Rd h c 1 ak live) 1 i4 λh' q=>q.1.seq (λ_=>rfl) q.2) Bs h' K⟩
 refine(VM y c live t most 0 O ao (λk hk=>by obtain⟨_,d,hd,_⟩:=lW (show k∈aU ds m.drives by rw[<-f];exact hk);exact⟨d,hd⟩) hS U).mono ?_;rintro _ h8 ⟨rfl,H8⟩;obtain⟨P,ah⟩:∃P,P=gn m live w ds:=⟨_,rfl⟩
 have M:iJ ds P.2.2:=by rw[ah];exact tu ab
 rw[<-ah]at H8 l⊢;refine⟨_,i4,bx (λe=>by rw[g9 e]at l;rw[l];exact⟨i4,H8.aO 4 [0]⟩) λe4=>?_⟩;rw[hU λh=>h e4]at l;have a2:=H8.box 1 i4;have al:dh h8 y m:=H8.at 3 i4;refine⟨a5,i4,y.2.2.2.2.2.2.2,by rw[addr_add];exact a2.cell i4,?_⟩;have bq:m.objs.length<=12:=((bM m).1 O).2.2.2.1;have a3:∀e∈m.objs,e.tries.length<=8:=λe he=>by
  have h1:=(fB m e).1 (((bM m).1 O).2.2.2.2.1 e he);have h2:=lX h1.2.2.1.2;omega
 have b5:=bC.len al.objs;have b2:St B h0 (af 3 c 1 ak live::bh y m::As) λh=>dh h y m/\Rd h c 1 ak live:=λBs h' K=>
  ⟨(St.eG (A:=bh y m) 1 i4 λ_ q=>q) Bs h' K,(St.eG (A:=af 3 c 1 ak live) (Q:=λh=>Rd h c 1 ak live) 0 i4 λh' q=>q.1.seq (λ_=>rfl) q.2) Bs h' K⟩
 refine aq (λz:Nat×Pow×aE×Nat=>(z.1:Int)) (λz h'=>z.1<=m.objs.length/\z.2.2.2<=z.1*512/\iJ ds z.2.2.1/\sl m live t most m.objs P.2.1 P.2.2 0=sl m live t most (m.objs.drop z.1) z.2.1 z.2.2.1 z.2.2.2/\
  aa B h0 h' (bD a pw da offs z.2.1 z.2.2.1 m::ac a5 84 (db a y c t most (z.2.2.2:Nat))::af 3 c 1 ak live::bh y m::As)) (λz=>m.objs.length-z.1) (0,P.2.1,P.2.2,0) i4 ⟨zi _,zi _,M,i4,H8⟩ ?_
 rintro⟨i,w1,ds1,k⟩ h9 ⟨hi,hk,Z,J,H9⟩;dsimp only at hi hk Z J H9⊢;refine ag (λe5=>?_) λe5=>?_
 rotate_left
 ·have ax:i=m.objs.length:=i5
  rw[ax,yu]at J;rw[J]at l;rw[l];exact⟨a5,i4,(k:Int),(H9.box 1 i4).cell i4,i4,H9.aO 4 [0]⟩
 have N:i<m.objs.length:=by have b1:(i:Int)<(y.2.2.2.2.2.2.2.len:Int):=e5;omega
 obtain⟨x,V⟩:=agw N (H9.aO 4 [3,0,1,2]);obtain⟨E,T⟩:∃E,E=m.objs[i]:=⟨_,rfl⟩
 rw[<-T]at V;obtain⟨bl,bd,ys,bb,a8⟩:=V.at 0 rfl;obtain⟨ay,a7⟩:=qk.1 a8;have bs:E.tries.length<=8:=a3 E (by rw[T];exact qf N);refine bb.cU (g:=bc) i i4 ay x (by rw[a7]) ?_;refine V.alloc aj i4 λR br S=>?_;have S:=S.be;refine S.storeAll aj 0 i4 i4 (bc x) i4 i4 i4 i4 λap F=>?_;have F:aa B h0 ap (bD a pw da offs w1 ds1 m::ac a5 84 (db a y c t most (k:Nat))::ac R 88 (bc x)::Ff y m i E x::af 3 c 1 ak live::As):=F.aO 5 [2,3,0,1,4];have b0:=(F.at 3 i4).2.1.2.len;refine⟨x.2.2.2,(F.box 2 i4).cell i4,?_⟩;have a0:St B h0 (ac R 88 (bc x)::Ff y m i E x::af 3 c 1 ak live::As) λh=>dh h y m/\Rd h c 1 ak live/\dQ fp h x E:=λBs h' K=>by
  obtain⟨z1,z2,_⟩:=(St.eG (A:=Ff y m i E x) (Q:=λh=>(Ff y m i E x).p h λb=>b<h.size) 1 rfl λ_ q=>q) Bs h' K;exact⟨z1,(St.eG (A:=af 3 c 1 ak live) (Q:=λh=>Rd h c 1 ak live) 2 i4 λh' q=>q.1.seq (λ_=>rfl) q.2) Bs h' K,z2⟩
 have e0:m.objs.drop i=E::m.objs.drop (i+1):=by rw[T];exact qK N
 rw[e0,sl]at J;obtain⟨Q,hQ⟩:∃Q,Q=me m live t most E (qx E.tries.length) w1 ds1 k:=⟨_,rfl⟩
 rw[<-hQ]at J;refine aq (λz:Nat×Pow×aE×Nat=>(z.1:Int)) (λz h'=>z.1<=E.tries.length/\z.2.2.2<=k+z.1*64/\iJ ds z.2.2.1/\Q=me m live t most E ((qx E.tries.length).drop z.1) z.2.1 z.2.2.1 z.2.2.2/\
  aa B h0 h' (bD a pw da offs z.2.1 z.2.2.1 m::ac a5 84 (db a y c t most (z.2.2.2:Nat))::ac R 88 (bc x)::Ff y m i E x::af 3 c 1 ak live::As)) (λz=>E.tries.length-z.1) (0,w1,ds1,k) i4 ⟨zi _,ql _,Z,hQ,F⟩ ?_
 rintro⟨j,w2,s,k2⟩ b4 ⟨hj,a6,D,o,u⟩;dsimp only at hj a6 D o u⊢;have bk:i<=12:=i5
 refine ag (λe6=>?_) λe6=>?_
 ·have am:j<E.tries.length:=by have ar:(j:Int)<(x.2.2.2.len:Int):=e6;omega
  have hd:(qx E.tries.length).drop j=j::(qx E.tries.length).drop (j+1):=by rw[qK i9,vj]
  rw[hd,me]at o;have L:live=aU s m.drives:=by rw[D.live];exact f
  refine⟨x,(u.box 2 i4).aF _ i4,(RV y c live t most k2 x E j O L i5 r am i5 a0 u).mono ?_⟩;rintro _ b3 ⟨rfl,I⟩;have X:=VS (m:=m) (live:=live) (t:=t) (most:=most) (w:=w2) (ds:=s) (e:=E) (i:=j) r.2 (λk d hd=>by have:=(ka u).2 k d hd;omega) (by rw[<-L]);have Y:=RU (m:=m) (live:=live) (t:=t) (most:=most) (w:=w2) (ds:=s) (e:=E) (i:=j) (D.len.trans ab);obtain⟨b,hb⟩:∃b,b=hJ m live t most w2 s E j:=⟨_,rfl⟩
  rw[<-hb]at I o X Y⊢;refine⟨_,i4,bx (λe7=>?_) λe7=>?_⟩
  ·rw[g9 e7]at o;rw[o,g9 e7]at J;rw[J]at l;rw[l];exact⟨a5,i4,((k2+b.2.2.2:Nat):Int),(I.box 1 i4).cell i4,i4,I.aO 5 [0]⟩
  ·rw[hU λh=>h e7]at o;refine⟨(j+1,b.2.1,b.2.2.1,k2+b.2.2.2),j0,⟨i7,i7,D.trans Y,o,I⟩,i7⟩
 ·have a9:j=E.tries.length:=by have ar:¬(j:Int)<(x.2.2.2.len:Int):=e6;omega
  rw[a9,List.drop_of_length_le jj,me]at o;rw[o,hU λh=>h rfl]at J;have a1:=(agT (u.aO 4 [3,0,1])).aO 3 [1,2,0];refine⟨(i+1,w2,s,k2),j0,⟨i7,i7,D,J,?_⟩,i7⟩;exact a1.aO 4 [0,1,3,2]
end
section
variable {e f:aZ}
structure GrD (m:av) (d e:aZ):Prop where
 lost:e.lost=d.lost
 room:e.room=d.room
 pg:∀c∈e.l,cI c≠eH->c∈d.l∨c∈aM m
 whole:(∀c∈aM m,c∈d.l)->∀c∈aM m,c∈e.l
 q:d.laid=[]/\d.has=fz->e.laid=[]/\e.has=fz
theorem GrD.same(f:e.lost=d.lost)(g:e.room=d.room)(h3:e.l=d.l)(b:d.laid=[]/\d.has=fz->e.laid=[]/\e.has=fz:=by first|exact id|exactλ_=>⟨i4,i4⟩):GrD m d e:=⟨f,g,λc h _=>.inl (by rw[<-h3];exact h),λh c a=>(by rw[h3];exact h c a),b⟩
def VU(m:av)(d:aZ):Prop:=jE d.l+2<=d.room∨∀c∈aM m,c∈d.l
theorem agU(m:av)(d:aZ):(d.rewrite Pow.new (bO m d.l)).2.1=Pow.new/\GrD m d (d.rewrite Pow.new (bO m d.l)).2.2/\(VU m d->VU m (d.rewrite Pow.new (bO m d.l)).2.2)/\((d.rewrite Pow.new (bO m d.l)).1=0->∀c∈aM m,c∈(d.rewrite Pow.new (bO m d.l)).2.2.l):=by
 have a:∀{n:Int},n≠0->Pow.new=Pow.new/\GrD m d d/\(VU m d->VU m d)/\(n=0->∀c∈aM m,c∈d.l):=λh=>⟨i4,.same i4 i4 i4,id,λe=>absurd e h⟩
 have f:∀c∈aM m,c∈bO m d.l:=λc b=>zR _ b;unfold aZ.rewrite;split
 ·exact a (n:=1) i6
 ·split
  ·exact a (n:=5) i6
  ·split
   ·exact a (n:=7) i6
   ·split
    ·exact a (n:=14) i6
    ·rw[nf nc];refine⟨i4,⟨i4,i4,λc b g=>.inr ?_,λ_=>f,λ_=>⟨i4,i4⟩⟩,λ_=>.inr f,λ_=>f⟩;rcases qz.1 b with h|h
     ·exact h
     ·obtain⟨r,_,rfl⟩:=qo.1 h;exact absurd (EY r) g
structure uT (T:aZ->aZ->Prop) (ds ds':aE):Prop where
 len:i0 ds'=i0 ds
 at_:∀k d,aV ds k=dB d->∃e,aV ds' k=dB e/\T d e
 no:∀k,aV ds k=eH->aV ds' k=eH
variable {T:aZ->aZ->Prop}
theorem uT.refl(h:∀d,T d d)(ds:aE):uT T ds ds:=⟨i4,λ_ d a=>⟨d,a,h d⟩,λ_ h=>h⟩
theorem uT.trans(l:∀{d e f},T d e->T e f->T d f){a b c:aE}(g:uT T a b)(i:uT T b c):uT T a c:=⟨i.len.trans g.len,λk d n=>by
 obtain⟨e,o,m⟩:=g.at_ k d n;obtain⟨f,j,t2⟩:=i.at_ k e o;exact⟨f,j,l m t2⟩,λk h=>i.no k (g.no k h)⟩
theorem uT.set(g:∀d,T d d)(c:i0 ds=64){k:Int}(f:aV ds k=dB d)(h:T d e):uT T ds (ck ds k e):=⟨Ct _ _ _,λs x a=>by
 rw[ng c f];split
 ·rename_i b;subst b;rw[f]at a;injection a with a;subst a
  exact⟨e,i4,h⟩
 ·exact⟨x,a,g x⟩,λs b=>by
 rw[ng c f];split
 ·rename_i h;subst h;rw[f]at b;cases b
 ·exact b⟩
theorem uT.back(G:uT T ds ds'){k:Int}(b:aV ds' k=dB e):∃d,aV ds k=dB d/\T d e:=by
 cases hd:aV ds k with
 |none=>rw[G.no k hd]at b;cases b
 |some d=>
  obtain⟨x,a,h⟩:=G.at_ k d hd;rw[b]at a;injection a with a;subst a
  exact⟨d,i4,h⟩
end
structure Wt (z:Prop) (i:Nat) (p:Pm) (m:av) (ds:aE):Prop where
 may:bf m=eX
 len:i0 ds=64
 pe:m.p=p
 dr:∀k∈m.drives,k<9
 hi:∃M,Hi M m ds
 slim:z->∀k d,aV ds k=dB d->d.lost=fz->jE d.l+1<=i0 d.l/\jE d.l+2<=d.room
 seq:m.seq<=i+1
 ent:∀e∈m.objs,e.name∈si/\e.length<=3*(p.1*p.2.2)+1
variable {i:Nat}
section
variable {z:Prop} {p:Pm}
theorem Wt.more(W:Wt z i p m ds):Wt z (i+1) p m ds:=⟨W.may,W.len,W.pe,W.dr,W.hi,W.slim,by have:=W.seq;omega,W.ent⟩
theorem Wt.mono(W:Wt z i p m ds){j:Nat}(h:i<=j):Wt z j p m ds:=⟨W.may,W.len,W.pe,W.dr,W.hi,W.slim,by have:=W.seq;omega,W.ent⟩
theorem Wt.lay(W:Wt z i p m ds){ds1 ds':aE}{n:av}{L:aB}{R:Int->List dm}{N:Int->Int}(x:bf n=eX)(D:n.p=m.p)(K:n.seq=m.seq+1)(t:∀k∈n.drives,k<9)(g:∀e∈n.objs,e.name∈si/\e.length<=3*(p.1*p.2.2)+1)
  (u:∀k∈m.drives,k∈n.drives) (F:∀k d,k∈n.drives->aV ds1 k=dB d->d.lost=fz->k∈L)
  (A:∀k d,aV ds1 k=dB d->aV ds k=dB d∨(k∈n.drives/\d.l=[]/\d.lost=fz/\2<=d.room/\R k=[]/\(k∈L->de m d (N k)=d)))
  (B:i0 ds'=64) (s:∀k,aV ds' k=(aV ds1 k).map λd=>if k∈L then dM ((R k).map cW++aM n) (de m d (N k))else d)
  (v:∀k d,aV ds' k=dB d->i0 d.l<=d.room):Wt z (i+1) p n ds':=by
 obtain⟨M,H⟩:=W.hi;have G:=agq x t (by rw[D,W.pe];exact g);have w:∀k d,aV ds1 k=dB d->k∈n.drives:=λk d o=>by
  rcases A k d o with h|h
  ·exact u k (H.at_ k d h)
  ·exact h.1
 refine⟨x,B,D.trans W.pe,t,⟨_,H.next W.may x K G λk E o=>?_⟩,λJ k E o y=>?_,by have:=W.seq;omega,g⟩
 ·obtain⟨d,h0,rfl⟩:=CC (f:=λk d=>if k∈L then dM ((R k).map cW++aM n) (de m d (N k))else d) s o;refine⟨w k d h0,λc a q=>?_⟩;have old:c∈(if k∈L then de m d (N k)else d).l->c∈aM n∨∃d,aV ds k=dB d/\(c∈d.l∨c∈aM m):=λa=>by
   rcases A k d h0 with h|⟨_,he,_,_,_,hm⟩
   ·refine .inr ⟨d,h,?_⟩;split at a
    ·exact YU c a q
    ·exact .inl a
   ·split at a
    ·rename_i j;rw[hm j,he]at a;cases a
    ·rw[he]at a;cases a
  split at a
  ·rename_i j;rw[g9 j]at old;rcases YV a with h|h
   ·exact old h
   ·rcases qz.1 h with h|h
    ·obtain⟨r,_,rfl⟩:=qo.1 h;exact absurd (EY r) q
    ·exact .inl h
  ·rename_i j;rw[hU j]at old;exact old a
 ·have I:=v k E o;obtain⟨d,h0,rfl⟩:=CC (f:=λk d=>if k∈L then dM ((R k).map cW++aM n) (de m d (N k))else d) s o;have b:d.lost=fz:=by
   split at y
   ·rwa [(nh _ _).1,(sh _ _ _).1]at y
   ·exact y
  have j:=F k d (w k d h0) h0 b;rw[g9 j]at I⊢;have S:=YX x (R k) (de m d (N k));have O:=FL (de m d (N k)).l;rcases A k d h0 with h|⟨_,he,_,h3,hR,hm⟩
  ·have T:=(YW (d:=d) (N:=N k) W.may).2 (W.slim J k d h b).1;omega
  ·have Q:jE (dM ((R k).map cW++aM n) (de m d (N k))).l=0:=by rw[hm j,hR,uL,he,List.map_nil,zV,zV,tq]
   have P:(dM ((R k).map cW++aM n) (de m d (N k))).room=d.room:=by rw[(nh _ _).2,(sh _ _ _).2]
   omega
theorem Wt.put(W:Wt z i p m ds){name:ByteArray}{b:aL}(D:name∈si)(v:(i0 b:Int)<=3*(p.1*p.2.2)+1)(a:∀k d,aV (gH m 0 Pow.new ds name b).2.2.2 k=dB d->i0 d.l<=d.room):∃e n ds',gH m 0 Pow.new ds name b=(e,n,Pow.new,ds')/\Wt z (i+1) p n ds':=by
 obtain⟨B,o⟩:=Lx (offs:=0) (name:=name) (b:=b) nc W.len W.may;by_cases f:∃e,gH m 0 Pow.new ds name b=(e,m,Pow.new,ds)
 ·obtain⟨e,c⟩:=f;exact⟨e,m,ds,c,W.more⟩
 have y:dW m (fH Pow.new 0) ds name b.length=0:=Decidable.byContradiction λh=>f ⟨_,B h⟩;obtain⟨E,u⟩:=o y;cases ht:cT m.p m.next (splitB m.p b).length with
 |none=>exact absurd ⟨_,E ht⟩ f
 |some t=>
  obtain⟨g,q,A⟩:=u t ht;obtain⟨ds',j,x,w⟩:=A (eq_true_of_ne_false λh=>f ⟨_,q h⟩);refine⟨_,_,ds',j,W.lay g i4 i4 W.dr (λe c=>?_) (λ_ h=>h) (λk d r s h3=>Cv.2 ⟨r,d,s,h3⟩) (λk d h=>.inl h) x w (by rw[j]at a;exact a)⟩;rcases uK.1 c with c|rfl
  ·exact W.ent e c
  ·exact⟨D,v⟩
theorem Wt.com(W:Wt z i p m ds){ds1:aE}{n:av}(t:i0 ds1=64)(A:bf n=eX)(E:n.p=m.p)(x:n.seq=m.seq+1)(j:∀k∈n.drives,k<9)(g:∀e∈n.objs,e∈m.objs)(f:∀k∈m.drives,k∈n.drives)
  (q:∀k d,aV ds1 k=dB d->aV ds k=dB d∨(k∈n.drives/\∃r,d=aZ.new r/\2<=r)) (b:(cB m 0 Pow.new ds1 n).1=0->∀k d,aV (cB m 0 Pow.new ds1 n).2.2.2 k=dB d->i0 d.l<=d.room):
  cB m 0 Pow.new ds1 n=(7,m,Pow.new,ds1)∨∃ds',cB m 0 Pow.new ds1 n=(0,n,Pow.new,ds')/\Wt z (i+1) p n ds':=by
 obtain⟨y,B⟩:=EF (offs:=0) (ds:=ds1) nc t i6 A x;by_cases s:cB m 0 Pow.new ds1 n=(7,m,Pow.new,ds1)
 ·exact .inl s
 have u:=eq_true_of_ne_false λh=>s (y (.inr h));obtain⟨ds',w,G,F⟩:=B (λh=>s (y (.inl h))) u;refine .inr ⟨ds',w,W.lay (R:=λ_=>[]) (N:=λ_=>(i0 (aM n):Int)) A E x j (λe H=>W.ent e (g e H)) f (λk d q D h3=>Cv.2 ⟨q,d,D,h3⟩) (λk d v=>?_) G F (by rw[w]at b;exact b i4)⟩;rcases q k d v with h|⟨hk,r,rfl,hr⟩
 ·exact .inl h
 ·refine .inr ⟨hk,i4,i4,hr,i4,λo=>?_⟩;obtain⟨I,a,c⟩:=rJ (qJ.1 u k o);rw[v]at a;injection a with a
  subst a;have:gY (aZ.new r) (aZ.new r).l.length (i0 (aM n):Int)=eX:=by
   unfold jB at c;rw[qy,Bool.or_eq_true]at c;rcases c.2 with h|h
   ·exact h
   ·unfold gY at h⊢;rw[decide_eq_true_eq]at h⊢;dsimp only at h;have:(aZ.new r).l.length=0:=rfl;omega
  unfold de;rw[g9 this]
theorem aet(j:bf m=eX){slot:Int}(o:0<=slot/\slot<64)(d:slot∉m.drives)(n:¬m.seq>=2147483647):bf (Bn m (iH (m.drives++[slot])))=eX:=by
 obtain⟨f,i,g,b,e,a,c⟩:=(bM m).1 j;refine(bM _).2 ⟨?_,Vw i d,λk l=>?_,b,e,a,c⟩
 ·rw[dn]at f⊢;exact⟨by show 1<=m.seq+1/\m.seq+1<=2147483647;omega,f.2⟩
 ·rcases qz.1 ((vS _ _).1 l)with h|h
  ·exact g k h
  ·rw[qu.1 h];omega
theorem aeu{slot:Int}(c:0<=slot/\slot<64)(b:i0 ds=64)(o:Option aZ)(k:Int):aV (ds.set slot.toNat o) k=if k=slot then o else aV ds k:=by
 unfold aV;by_cases a:0<=k/\k<64
 ·rw[g9 a,qU];by_cases e:k=slot
  ·subst e;rw[g9 i4,g9 i4,g9 i5];rfl
  ·rw[hU i5,hU e,g9 a]
 ·rw[hU a,hU i5,hU a]
theorem Wt.fresh{E:Int}{G:aB}{D:aE}(v:sF p E G=0)(j:bj G G.length=(qx G.length).map λi:Nat=>(i:Int))(H:i0 G<=9)(y:∀x∈G,2<=x/\x<=512)(r:i0 D=64)
  (o:∀s,aV D s=if s∈bj G G.length then dB ⟨(G.getD s.toNat 0).toNat,aM (cx p E G),0,[],fz,fz⟩else eH):Wt z 0 p (cx p E G) D:=by
 have b:bf (cx p E G)=eX:=Hg i5 v;have m:∀k d,aV D k=dB d->k∈(cx p E G).drives/\2<=d.room/\d.l=aM (cx p E G):=λk d a=>by
  rw[o]at a;split at a
  ·rename_i h;injection a with a
   subst a;refine⟨h,?_,i4⟩;rw[j]at h;obtain⟨i,f,rfl⟩:=qo.1 h;have f:=qA.1 f;have:=y _ (qf f);show 2<=(G.getD ((i:Int)).toNat 0).toNat;rw[qj,gF 0 f];omega
  ·cases a
 refine⟨b,r,i4,λk h=>?_,⟨λ_=>cx p E G,i4,λk d a=>(m k d a).1,λk d a c n g u=>?_,λq F t=>?_⟩,λ_ k d a _=>?_,yC _,λe w=>by cases w⟩
 ·rw[show(cx p E G).drives=bj G G.length from rfl,j]at h;obtain⟨i,f,rfl⟩:=qo.1 h;have:=qA.1 f;omega
 ·rw[(m k d a).2.2]at n;have:=CF b n u;exact⟨⟨by rw[this];exact yC _,by rw[this];exact yC _⟩,n,(m k d a).1⟩
 ·have t:q<=1:=t;exact⟨b,show(1:Int)=q by omega,qT (Db p E G i5) i6⟩
 ·obtain⟨_,B,A⟩:=m k d a;rw[A,tq];have:=EZ b;omega
end
section
variable {p:Pm} {C:Int->aL}
structure ahM (m:av) (ds ds':aE) (gone:aB):Prop where
 len:i0 ds'=64
 at_:∀k,k∉gone->aV ds' k=aV ds k
 live:∀k,k∈aU ds' m.drives↔k∈aU ds m.drives/\k∉gone
 sub:∀k∈gone,k∈aU ds m.drives
 nd:gone.Nodup
theorem abL{o b:Int}{live:aB}{i:Nat}(a:i<i0 live):(dF m ds o b live).getD i []=(kG m ds o b live[i]).map qt:=by rw[gF [] (by unfold dF;rw[qq];exact a)];unfold dF;rw[wh];unfold eC;rw[za,zS,qE]
end
theorem LY(W:ct)(a:aB)(x:Int):∀k,x∈pE W a k↔∃i,i<k/\(i:Int)∉a/\x∈W.getD i []
 |0=>by simp[pE]
 |k+1=>by
  rw[pE,qz,LY W a x k];constructor
  ·rintro(⟨i,e,b,h3⟩|h)
   ·exact⟨i,i5,b,h3⟩
   ·by_cases d:(k:Int)∈a
    ·rw[g9 d]at h;cases h
    ·rw[hU d]at h;exact⟨k,i5,d,h⟩
  ·rintro⟨i,e,b,h3⟩;by_cases c:i=k
   ·subst c;exact .inr (by rw[hU b];exact h3)
   ·exact .inl ⟨i,i5,b,h3⟩
section
variable {p:Pm} {C:Int->aL} {e f:aZ}
structure Os (i:Nat) (p:Pm) (m:av) (C:Int->aL) (ds:aE):Prop where
 wt:Wt False i p m ds
 sto:gB m C ds
 full:Full m C ds
 ne:m.drives≠[]
theorem Os.more(I:Os i p m C ds):Os (i+1) p m C ds:=⟨I.wt.more,I.sto,I.full,I.ne⟩
theorem Os.mono(I:Os i p m C ds){j:Nat}(h:i<=j):Os j p m C ds:=⟨I.wt.mono h,I.sto,I.full,I.ne⟩
structure Bv (m:av) (d e:aZ):Prop where
 lost:e.lost=d.lost
 room:e.room=d.room
 l:e.l=d.l∨e.l=bO m d.l
theorem Bv.refl(d:aZ):Bv m d d:=⟨i4,i4,.inl i4⟩
theorem Bv.trans(c:Bv m d e)(g:Bv m e f):Bv m d f:=⟨g.lost.trans c.lost,g.room.trans c.room,by
 rcases c.l with a|a<;>rcases g.l with b|b
 ·exact .inl (b.trans a)
 ·exact .inr (by rw[b,a])
 ·exact .inr (b.trans a)
 ·exact .inr (by rw[b,a,Zg])⟩
theorem agV(m:av)(d:aZ):Bv m d (d.rewrite Pow.new (bO m d.l)).2.2:=by
 unfold aZ.rewrite;split
 ·exact .refl d
 ·split
  ·exact .refl d
  ·split
   ·exact .refl d
   ·split
    ·exact .refl d
    ·rw[nf nc];exact⟨i4,i4,.inr i4⟩
theorem CK:∀{l:aB} {ds:aE},i0 ds=64->(gn m l Pow.new ds).2.1=Pow.new/\uT (Bv m) ds (gn m l Pow.new ds).2.2
 |[],ds,_=>⟨i4,.refl Bv.refl ds⟩
 |k::l,ds,h64=>by
  unfold gn;cases hd:aV ds k with
  |none=>exact CK h64
  |some d=>
   try dsimp only
   split
   ·exact CK h64
   ·have e:=(agU m d).1;have c:uT (Bv m) ds (ck ds k (d.rewrite Pow.new (bO m d.l)).2.2):=.set Bv.refl h64 hd (agV m d);split
    ·rw[e];obtain⟨f,g⟩:=CK (l:=l) (c.len.trans h64);exact⟨f,uT.trans (λa b=>a.trans b) c g⟩
    ·exact⟨e,c⟩
theorem Os.clean(I:Os i p m C ds)(G:uT (Bv m) ds ds'):Os i p m C ds':=by
 have n:=I.wt.may;obtain⟨M,H⟩:=I.wt.hi;refine⟨⟨n,G.len.trans I.wt.len,I.wt.pe,I.wt.dr,⟨M,H.same n λk e f=>?_⟩,λh=>h.elim,I.wt.seq,I.wt.ent⟩,⟨n,G.len.trans I.sto.len,λk e f c a=>?_,I.sto.ents⟩,⟨λk s=>?_,λx q j o id hid=>?_⟩,I.ne⟩
 ·obtain⟨d,b,g⟩:=G.back f;refine⟨d,b,λc a v=>?_⟩;rcases g.l with h|h
  ·rw[h]at a;exact .inl a
  ·rw[h]at a;rcases qz.1 a with h|h
   ·exact .inr h
   ·obtain⟨r,_,rfl⟩:=qo.1 h;exact absurd (EY r) v
 ·obtain⟨d,b,g⟩:=G.back f;rcases g.l with h|h
  ·rw[h]at a;exact I.sto.cells k d b c a
  ·rw[h]at a;exact SX n (I.sto.cells k d b) c a
 ·obtain⟨d,b,t,u⟩:=I.full.live k s;obtain⟨e,f,g⟩:=G.at_ k d b;refine⟨e,f,g.lost.trans t,?_⟩;rcases g.l with h|h
  ·rw[h];exact u
  ·rw[h];exact VJ n d.l
 ·obtain⟨k,s,d,b,a⟩:=I.full.all x q j o id hid;obtain⟨e,f,g⟩:=G.at_ k d b;refine⟨k,s,e,f,?_⟩;rcases g.l with h|h
  ·rw[h];exact a
  ·rw[h];exact wb _ (qo.2 ⟨_,Ho n (I.sto.cells k d b) a (rR (I.sto.EQ q o (I.sto.Hp hid)) (kS _ _ _)) (I.sto.counts q o (I.sto.Hp hid)),i4⟩)
theorem Zs{p:Pm}(d:bJ p=eX){seed:Int}{W:ct}{ids:aB}(e:fR p seed ids=eX)(a:∀x∈ids,∃i,i<i0 W/\x∈W.getD i []):(gD p seed W 0).2.1=fz:=by
 have f:FK p seed W 0=eH:=by
  unfold FK;refine wu.2 λg c=>?_;have c:g=[]:=by simpa[Am,lS,ints]using c
  subst c;have b:=LJ d (js:=pE W [] W.length) (λx h=>by
   obtain⟨i,j,k⟩:=a x h;exact(LY W [] x W.length).2 ⟨i,j,jj,k⟩) e
  unfold fR at b;rw[d,zX]at b;have b:((wX p seed (pE W [] W.length):Nat):Int)=bN p:=beq_iff_eq.1 b;show¬decide ((Bt p seed W []:Int)≠bN p)=eX;unfold Bt;rw[b];simp
 unfold gD;rw[g9 d];split
 ·split
  ·rfl
  ·rw[show(0:Int).toNat=0 from i4,f]
 ·rfl
theorem RW{live:aB}{t most:Int}{w:Pow}{e:Qw.cu}{i:Nat}(h:(gD m.p (ci e.object i (e.tries.getD i 0)) (dF m ds e.object i (aU ds m.drives)) t).2.1=fz):(hJ m live t most w ds e i).2.1=w/\(hJ m live t most w ds e i).2.2.1=ds:=by
 unfold hJ
 try dsimp only
 split
 ·exact⟨i4,i4⟩
 ·rename_i h0;obtain⟨x,d⟩:∃x,x=(ib m live ds e.object e.tries i).2:=⟨_,rfl⟩
  have a:x.seed=ci e.object i (e.tries.getD i 0)/\x.W=dF m ds e.object i (aU ds m.drives)/\x.got=[]:=by
   rw[d];unfold ib at h0⊢;dsimp only at h0⊢;split
   ·rename_i b;rw[g9 b]at h0;exact absurd (show(11:Int)≠0 by decide) h0
   ·rename_i b;rw[hU b]at h0;split
    ·rename_i k;rw[g9 k]at h0;exact absurd (show(11:Int)≠0 by decide) h0
    ·exact⟨i4,i4,i4⟩
  rw[<-d];have c:(fW m live t most 65 w ds x).2=(w,ds,x):=by
   show(fW m live t most (64+1) w ds x).2=_;unfold fW
   try dsimp only
   rw[a.1,a.2.1];split
   ·rfl
   ·first|rfl|rw[g9 h]
  have f:(fW m live t most 65 w ds x).2.1=w:=by rw[c]
  have g:(fW m live t most 65 w ds x).2.2.1=ds:=by rw[c]
  have j:(fW m live t most 65 w ds x).2.2.2.got=[]:=by rw[c];exact a.2.2
  split
  ·exact⟨f,g⟩
  ·rw[f,g,j];have:dK []=[]:=i6
   rw[this];exact⟨i4,i4⟩
theorem Fg{live:aB}{t most:Int}{w:Pow}{e:Qw.cu}:∀{l:List Nat} {k:Nat},(∀i∈l,(gD m.p (ci e.object i (e.tries.getD i 0)) (dF m ds e.object i (aU ds m.drives)) t).2.1=fz)->(me m live t most e l w ds k).2.1=w/\(me m live t most e l w ds k).2.2.1=ds
 |[],_,_=>⟨i4,i4⟩
 |i::l,k,h=>by
  obtain⟨a,b⟩:=RW (live:=live) (most:=most) (w:=w) (h i qM);unfold me
  try dsimp only
  split
  ·exact⟨a,b⟩
  ·rw[a,b];exact Fg λj c=>h j (qD _ c)
theorem Jy{live:aB}{t most:Int}{w:Pow}:∀{l:List Qw.cu} {k:Nat},(∀e∈l,∀i,i<e.tries.length->(gD m.p (ci e.object i (e.tries.getD i 0)) (dF m ds e.object i (aU ds m.drives)) t).2.1=fz)->(sl m live t most l w ds k).2.1=w/\(sl m live t most l w ds k).2.2.1=ds
 |[],_,_=>⟨i4,i4⟩
 |e::l,k,h=>by
  obtain⟨a,b⟩:=Fg (live:=live) (most:=most) (w:=w) (k:=k) λi d=>h e qM i (qA.1 d);unfold sl
  try dsimp only
  split
  ·exact⟨a,b⟩
  ·rw[a,b];exact Jy λx c=>h x (qD _ c)
theorem Os.agW(I:Os i p m C ds):(pI m 0 Pow.new ds 0 5).2.2.1=Pow.new/\Os i p m C (pI m 0 Pow.new ds 0 5).2.2.2:=by
 unfold pI;split
 ·exact⟨i4,I⟩
 split
 ·exact⟨i4,I⟩
 split
 ·exact⟨i4,I⟩
 obtain⟨f,u⟩:=CK (m:=m) (l:=aU ds m.drives) I.sto.len;have a:=I.clean u
 try dsimp only
 split
 ·exact⟨f,a⟩
 ·rw[f];obtain⟨ds1,b⟩:∃ds1,ds1=(gn m (aU ds m.drives) Pow.new ds).2.2:=⟨_,rfl⟩
  rw[<-b]at a⊢;obtain⟨o,r⟩:=Jy (m:=m) (ds:=ds1) (live:=aU ds m.drives) (t:=0) (most:=5) (w:=Pow.new) (l:=m.objs) (k:=0) λe v j n=>by
   have c:=a.full.can a.sto a.ne v;unfold Ku at c;rw[qy,qJ]at c;refine Zs a.sto.Pw (c.2 j (qA.2 n)) λx g=>?_;unfold nF eC at g;obtain⟨y,d,rfl⟩:=qo.1 g;obtain⟨k,s,d⟩:=zE.1 d;obtain⟨q,h,rfl⟩:=qB s;exact⟨q,by unfold dF;rw[qq];exact h,by rw[abL h];exact qo.2 ⟨y,d,i4⟩⟩
  exact⟨o,by rw[r];exact a⟩
theorem Os.put(I:Os i p m C ds){name:ByteArray}{b:aL}(o:name∈si)(j:(i0 b:Int)<=3*(p.1*p.2.2)+1)(a:∀k d,aV (gH m 0 Pow.new ds name b).2.2.2 k=dB d->i0 d.l<=d.room):∃e f n ds',gH m 0 Pow.new ds name b=(e,f,Pow.new,ds')/\Os (i+1) p f n ds':=by
 obtain⟨e,f,ds',c,g⟩:=I.wt.put o j a;rcases aee (offs:=0) (name:=name) (b:=b) nc I.sto with⟨⟨e',_,h⟩,_⟩|⟨hr,t,ds2,ht,h,S,hat⟩
 ·rw[c]at h;injection h with _ h
  injection h with h1 h
  injection h with _ h2
  subst h1 h2;exact⟨e,_,C,_,c,g,I.sto,I.full,I.ne⟩
 ·rw[c]at h;injection h with _ h
  injection h with h1 h
  injection h with _ h2
  subst h1 h2;exact⟨e,_,_,_,c,g,S,I.full.put I.sto hr ht S hat,I.ne⟩
theorem Full.grow(F:Full m C ds)(S:gB m C ds){ds1:aE}(z:bf n=eX)(u:n.p=m.p)(v:n.extra=m.extra)(q:∀x∈n.objs,x∈m.objs)(a:∀k∈m.drives,k∈n.drives)(f:∀k∈m.drives,aV ds1 k=aV ds k)(b:∀k∈n.drives,∃d,aV ds1 k=dB d/\d.lost=fz)
  (o:∀k,aV ds' k=(aV ds1 k).map λd=>if k∈Qw.aU ds1 n.drives then dM (aM n) (de m d (aM n).length)else d):Full n C ds':=by
 refine⟨λk g=>?_,λe w i s id hid=>?_⟩
 ·obtain⟨d,j,r⟩:=b k g;refine⟨_,by rw[o,j,qQ,g9 (Cv.2 ⟨g,d,j,r⟩)],by rw[(nh _ _).1,(sh _ _ _).1];exact r,?_⟩;rw[uL];exact LK z λc t=>t
 ·rw[u,v]at hid;have h:=q e w;obtain⟨k,g,d,l,t⟩:=F.all e h i s id hid;obtain⟨A,j,r⟩:=b k (a k g);rw[<-f k g]at l;rw[l]at j;injection j with j
  subst j;refine⟨k,a k g,_,by rw[o,l,qQ,g9 (Cv.2 ⟨a k g,d,l,r⟩)],?_⟩;have y:lV n e.object i (ci e.object i (e.tries.getD i 0)) (gg n C e.object i) id=lV m e.object i (ci e.object i (e.tries.getD i 0)) (gg m C e.object i) id:=by unfold lV;rw[CB u i4,u]
  rw[uL,y];exact zR _ (Pv S.may (S.cells k d (by rw[<-f k g];exact l)) t (rR (S.EQ h s (S.Hp hid)) (kS _ _ _)) (S.counts h s (S.Hp hid)))
theorem Os.com(I:Os i p m C ds){ds1:aE}(s:gB m C ds1)(q:bf n=eX)(o:n.p=m.p)(t:n.seq=m.seq+1)(w:m.next<=n.next)(j:n.extra=m.extra)(g:∀k∈n.drives,k<9)(b:∀x∈n.objs,x∈m.objs)(a:∀k∈m.drives,k∈n.drives)
  (f:∀k∈m.drives,aV ds1 k=aV ds k) (c:∀k∈n.drives,∃d,aV ds1 k=dB d/\d.lost=fz) (u:∀k d,aV ds1 k=dB d->aV ds k=dB d∨(k∈n.drives/\∃r,d=aZ.new r/\2<=r)) (e:(cB m 0 Pow.new ds1 n).1=0->∀k d,aV (cB m 0 Pow.new ds1 n).2.2.2 k=dB d->i0 d.l<=d.room):
  cB m 0 Pow.new ds1 n=(7,m,Pow.new,ds1)∨∃ds',cB m 0 Pow.new ds1 n=(0,n,Pow.new,ds')/\Os (i+1) p n C ds':=by
 rcases I.wt.com s.len q o t g b a u e with h|⟨ds',h,W'⟩
 ·exact .inl h
 ·rcases Vl (offs:=0) nc s i6 q t o w b with⟨_,h2⟩|⟨_,ds2,h2,S',hat⟩
  ·rw[h]at h2;injection h2 with h2
   exact absurd h2 i6
  ·rw[h]at h2;injection h2 with _ h2
   injection h2 with _ h2
   injection h2 with _ h2
   subst h2;refine .inr ⟨ds',h,W',S',I.full.grow I.sto q o j b a f c hat,λv=>?_⟩;obtain⟨k,y⟩:=yp _ I.ne;have:=a k y;rw[v]at this;cases this
theorem Os.del(I:Os i p m C ds)(name:ByteArray)(c:∀k d,aV (gh m 0 Pow.new ds name).2.2.2 k=dB d->i0 d.l<=d.room):∃e f ds',gh m 0 Pow.new ds name=(e,f,Pow.new,ds')/\Os (i+1) p f C ds':=by
 unfold gh at c⊢;rw[hU i6]at c⊢;split
 ·exact⟨5,m,ds,i4,I.more⟩
 ·rename_i g;rw[hU g]at c;split
  ·exact⟨7,m,ds,i4,I.more⟩
  ·rename_i o;rw[hU o]at c;rcases I.com (n:=Hr m (m.objs.findIdx (gm name))) I.sto (abu I.wt.may i5 _) rfl rfl (yC _) rfl I.wt.dr (λx j=>Tb j) (λ_ h=>h) (λ_ _=>rfl) (λk q=>by
    obtain⟨d,a,b,_⟩:=I.full.live k q;exact⟨d,a,b⟩) (λk d h=>.inl h) (λ_=>c)with h|⟨ds',h,I'⟩
   ·exact⟨7,m,ds,h,I.more⟩
   ·exact⟨0,_,ds',h,I'⟩
theorem Os.add(I:Os i p m C ds){slot:Int}(F:0<=slot/\slot<9){cells:Int}(w:2<=cells)(f:∀k d,aV (kT m 0 Pow.new ds slot cells).2.2.2 k=dB d->i0 d.l<=d.room):∃e A ds',kT m 0 Pow.new ds slot cells=(e,A,Pow.new,ds')/\Os (i+1) p A C ds':=by
 unfold kT at f⊢;rw[hU i6]at f⊢;split
 ·exact⟨1,m,ds,i4,I.more⟩
 rename_i D;rw[hU D]at f;split
 ·exact⟨4,m,ds,i4,I.more⟩
 rename_i r;rw[hU r]at f;split
 ·exact⟨7,m,ds,i4,I.more⟩
 rename_i B;rw[hU B]at f;have q:=aeu (ds:=ds) (slot:=slot) i5 I.wt.len;dsimp only at f⊢;obtain⟨M,H⟩:=I.wt.hi;have t:aV ds slot=eH:=by
  cases h:aV ds slot with
  |none=>rfl
  |some d=>exact absurd (H.at_ slot d h) r
 have y:∀k∈m.drives,k≠slot:=λk o e=>r (by rw[<-e];exact o);have j:∀k,k∈iH (m.drives++[slot])↔k∈m.drives∨k=slot:=λk=>by rw[vS,qz,qu]
 obtain⟨R,v⟩:∃R,R=cB m 0 Pow.new (ds.set slot.toNat (dB (aZ.new cells.toNat))) (Bn m (iH (m.drives++[slot]))):=⟨_,rfl⟩
 have s:∀k∈m.drives,aV (ds.set slot.toNat (dB (aZ.new cells.toNat))) k=aV ds k:=λk o=>by rw[q,hU (y k o)]
 have u:=I.com (ds1:=ds.set slot.toNat (dB (aZ.new cells.toNat))) (n:=Bn m (iH (m.drives++[slot]))) ⟨I.wt.may,by simp[I.wt.len],λk d g c w=>by
  rw[q]at g;split at g
  ·injection g with g;subst g;cases w
  ·exact I.sto.cells k d g c w,I.sto.ents⟩ (aet I.wt.may i5 r B) i4 i4 (yC _) i4 (λk o=>by
  rcases(j k).1 o with h|h
  ·exact I.wt.dr k h
  ·omega) (λx E=>E) (λk o=>(j k).2 (.inl o)) s (λk o=>by
  rcases(j k).1 o with h|h
  ·rw[s k h];obtain⟨d,a,b,_⟩:=I.full.live k h;exact⟨d,a,b⟩
  ·exact⟨_,by rw[q,g9 h],i4⟩) (λk d g=>by
  rw[q]at g;split at g
  ·rename_i o;injection g with g
   exact .inr ⟨(j k).2 (.inr o),_,g.symm,i5⟩
  ·exact .inl g) (by rw[<-v];exactλh0 k d g=>f k d (by rw[<-v,hU i5];exact g))
 rw[<-v]at u⊢;rcases u with h|⟨ds',h,I'⟩
 ·rw[h]
  try dsimp only
  rw[g9 i4,yy];have z:∀k,aV (ds.set slot.toNat eH) k=aV ds k:=λk=>by
   rw[q];split
   ·rename_i o;rw[o,t]
   ·rfl
  exact⟨7,m,_,i4,(I.clean (ds':=ds.set slot.toNat eH) ⟨jj,λk d g=>⟨d,by rw[z];exact g,.refl d⟩,λk h=>by rw[z];exact h⟩).more⟩
 ·rw[h]
  try dsimp only
  rw[hU i6];exact⟨0,_,ds',i4,I'⟩
theorem Os.opened(I:Os i p m C ds)(E:i<=9)(A:∀k d,aV ds k=dB d->i0 d.l<=d.room):ji ds=dB m/\(∀d,dB d∈ds->i0 (gf d.l)<20)/\∃D,opens m m.drives Pow.new ds=(0,Pow.new,D)/\gj (ni m) D=D/\Os i p m C D:=by
 have s:=I.wt.may;obtain⟨M,H⟩:=I.wt.hi;have c:=I.wt.len;have r:m.seq<=10:=by have:=I.wt.seq;omega
 obtain⟨D,B,w,t⟩:=Jq nc (m:=m) (l:=m.drives) (po s) c;have G:uT (Bv m) ds D:=by
  refine⟨w.trans c.symm,λk d a=>?_,λk a=>by rw[t,a];split<;>rfl⟩;have e:=H.at_ k d a;refine⟨rK m d,by rw[t,g9 e,a];rfl,?_⟩;obtain⟨v,b,g,n⟩:=I.full.live k e;rw[a]at b;injection b with b
  subst b;obtain⟨x,y⟩:=aeq (m:=m) g (qT (Zh s n) (A k d a));exact⟨x.trans g.symm,by unfold rK;split<;>rfl,.inr y⟩
 refine⟨?_,λd a=>?_,D,B,?_,I.clean G⟩
 ·obtain⟨k,e⟩:=yp _ I.ne;obtain⟨d,a,g,n⟩:=I.full.live k e;refine YT (C:=C) s (λv b=>?_) (at_mem a) g n;obtain⟨j,o⟩:=Ze c b;exact I.sto.cells j v o
 ·obtain⟨k,e⟩:=Ze c a;exact abE H r e
 ·refine zq λj=>?_;by_cases o:j<64
  ·rw[oP _ _ _ o];have q:D[j]?=dB D[j]:=qc i5;have z:D.getD j eH=D[j]:=by rw[qd,q];rfl
   rw[q,z];split
   ·rfl
   ·rename_i u;have f:((j:Nat):Int)∉m.drives:=by unfold ni at u;simpa using u
    have a:aV D (j:Int)=eH:=by
     rw[t,hU f];cases h:aV ds (j:Int)with
     |none=>rfl
     |some d=>exact absurd (H.at_ _ d h) f
    unfold aV at a;rw[g9 i5,qj,q]at a;have a:D[j]=eH:=a;rw[a]
  ·rw[qI (by rw[Ap];omega),qI i5]
end
theorem KE{a:Nat}:∀{l:bP},(∀x∈l,i0 x=a)->i0 l.flatten=i0 l*a
 |[],_=>jj
 |x::l,h=>by
  rw[List.flatten_cons,qw,h x qM,KE λy b=>h y (qD _ b),List.length_cons,Nat.succ_mul];omega
theorem VV(p:Pm)(l:Sl)(c:bP)(n:Int)(h:g0)(M:eT h l 1 az c)(hn:n<=2^20)(X:i0 c<=2^10):
  an xP 88 #[jW p,l,xF xL n] h λv h'=>∃(r:Sl) (b:Bool),v=.tuple #[r,xJ b]/\Sp h h' [EA (cm 1 az) r (nE p c n)]:=by
 refine ts Tryz.func88 ?_ (.two .n (.two (.join [] [(6,8),(11,26)] .n) (.two .n (.two (.two .n (.inn (.loop [(8,cL),(28,aQ)] [(6,9),(10,11),(28,41)] .n))) .n)))) (args:=[p,l,(n:Int)]);have m:=M.len;refine(Sp.refl h).boxed λF O E=>?_;have E:Sp h O [ac F 36 [xF xL p.1,xF xL p.2.1,xF xL p.2.2]]:=E;have g:∀{h':g0},Sp h h' [ac F 36 [xF xL p.1,xF xL p.2.1,xF xL p.2.2]]->nE p c n=[]->∃(r:Sl) (b:Bool),(.tuple #[xG eH 0 0,xJ fz]:Value)=.tuple #[r,xJ b]/\Sp h h' [EA (cm 1 az) r (nE p c n)]:=λZ he=>by
  rw[he];exact⟨⟨eH,0,0⟩,fz,i4,(((Z.nil 5 1 az).bA [1]).vy 0 i4 λ_=>rfl)⟩
 refine aW ⟨p,(E.box 0 i4).aF _ i4,(dZ p O).mono ?_⟩;rintro _ V ⟨rfl,R2⟩;have z:=E.up R2.ae;refine⟨_,i4,aR (λe=>g z (by unfold nE;rw[hU (by rintro⟨h,_⟩;rw[e]at h;cases h)])) λT=>ag (λe=>g z (by unfold nE;rw[hU (by rintro⟨_,h,_⟩;omega)])) λe2=>?_⟩;have B:bJ p=eX:=by simpa using T
 refine⟨p,(z.box 0 i4).aF _ i4,(px p n V).mono ?_⟩;rintro _ h3 ⟨rfl,U⟩;have K:=z.up U.ae;refine⟨_,i4,bx (λe=>g K (by unfold nE;rw[hU (by rintro⟨_,_,h,_⟩;rw[m]at e;exact e h)])) λQ=>?_⟩;have I:(i0 c:Int)=countP p n:=by rw[m]at Q;exact Q
 obtain⟨s1,s2,s3⟩:=lC B;refine aq (λt:Sl×Nat=>(t.1,(t.2:Int))) (λt h'=>t.2<=i0 c/\(∀x∈c.take t.2,i0 x=dU p)/\Sp h h' [ac F 36 [xF xL p.1,xF xL p.2.1,xF xL p.2.2],af 5 t.1 1 az (c.take t.2).flatten]) (λt=>i0 c-t.2) (⟨eH,0,0⟩,0) i4 ⟨jj,jj,K.nil 5 1 az⟩ ?_;rintro⟨o,i⟩ W ⟨L,a,w⟩;dsimp only at L a w⊢;refine ag (λe=>?_) λe=>?_
 ·have f:i<i0 c:=by have e':(i:Int)<(l.len:Int):=e;omega
  refine(M.up w.ae).get i i4 f λr R=>⟨p,(w.box 0 i4).aF _ i4,(Eo p W B).mono ?_⟩
  rintro _ h5 ⟨rfl,P⟩;have A:=w.up P.ae;have y:=R.len;refine⟨_,i4,bx (λD=>?_) λD=>?_⟩
  ·refine g (A.bA [0]) ?_;unfold nE;rw[hU];rintro⟨_,_,_,h⟩;have:=ii (qJ.1 h _ (qf f));exact D (by rw[y,this])
  ·have G:c[i].length=dU p:=by rw[y]at D;exact Int.ofNat_inj.1 D
   have u:=KE a;rw[List.length_take_of_le L]at u;have hb:i*dU p<=2^10*2^10:=Nat.mul_le_mul i5 i5;refine A.append aj 1 i4 gz ⟨_,_,i4,i4⟩ i4 i6 (λ_=>rfl) (Seq.up R P.ae) gU i5 λS h6 H6=>?_;refine⟨(S,i+1),j0,⟨i7,?_,?_⟩,i7⟩
   ·try dsimp only
    intro x s;rw[aD _ _ f]at s;rcases qz.1 s with s|s
    ·exact a x s
    ·rw[qu.1 s];exact G
   ·try dsimp only
    rw[aD _ _ f,List.flatten_append];simpa using H6
 ·rw[qg (by have e':¬(i:Int)<(l.len:Int):=e;omega)]at a w;have u:=KE a;have j:=w.own 1 i4;have J:=j.len;obtain⟨k,Y⟩:∃k:Nat,n=k:=⟨n.toNat,i5⟩
  subst Y;have d:=Gp B k;have H:(countP p (k:Int)).toNat=i0 c:=i5
  rw[H,<-u,<-J]at d;have ej:nE p c (k:Int)=c.flatten.take k:=by unfold nE;rw[g9 ⟨B,i5,I,qJ.2 λx s=>hY (a x s)⟩,qj]
  refine Ur aj gz k i4 i4 (qT d j.cap) ?_;refine⟨⟨o.ptr,k,k⟩,eX,i4,?_⟩;rw[ej];have A:=(w.bA [1]).vy 0 i4 λ_=>rfl;refine A.eJ 0 i4 λq hq=>?_;have N:=Seq.take hq k i5;exact⟨N.1,N.2⟩
section
variable {pw:f8}
theorem RX(x:bm)(q:bf m=eX)(H:aa B h0 h (aY ba a pw (aA x) offs da w ds::bh x m::As)):
  an xP 84 #[xH (dB a)] h λv h'=>v=xJ (ro m ds)/\Sp h h' []:=by
 refine ts Tryz.func84 ?_;have F:=iC q;have p:=gy q;refine(Sp.refl h).boxed λj J f=>?_;have f:Sp h J [ac j 23 [xH (dB a)]]:=f;have r:=H.up f.ae;refine⟨dB a,(f.box 0 i4).cell0 i4,(gb x m (r.at 1 i4) F r).mono ?_⟩;rintro _ K ⟨A,rfl,y⟩;have e:=f.comp y;have L:i0 (aU ds m.drives)<=64:=qT (qS _ _) p;refine⟨A,i4,(Lq 132 #[] #[xH (dB j)] (Jg m ds) A (aU ds m.drives) K lb (y.seq 0 i4 λ_=>rfl) i5 ?_).mono ?_⟩
 ·intro k M h3 l;have g:=r.up (y.up l.ae).ae;have i:bY h3 j 23 [xH (dB a)]:=(e.up l.ae).box 0 i4;obtain⟨ok,E⟩:=aa.cK g;obtain⟨t,d,o,_⟩:=lW M;have z:=iQ q k t;refine ts Tryz.func132 ?_ (args:=[(k:Int),j]);obtain⟨n,rfl⟩:∃n:Nat,k=n:=⟨k.toNat,i5⟩
  have I:n<i0 da:=rb
  have cd:cellOf h3 ((a.add 10).add ((n:Int).toNat*1))=dB (.pointer da[n]):=by rw[qj,Nat.mul_one];refine E.uv 10 n ?_;rw[rZ ok.l8,qc I];rfl
  have u:iG da (n:Int)=da[n]:=by unfold iG;rw[g9 i5,qj,qc I];rfl
  obtain⟨b,s,O,c,_⟩:=ER o g;refine⟨dB a,i.cell0 i4,a,i4,⟨i5,i5⟩,da[n],cd,dB a,i.cell0 i4,a,i4,x,E.aF _ i4,?_⟩;rw[<-u,c];refine(Pz x m o c (g.at 1 i4) F g).mono ?_;rintro _ N ⟨rfl,G⟩;have D:=(i.ae G.ae i.lt).cell0 i4;refine⟨_,i4,⟨D,D,trivial⟩,?_,G⟩;unfold Jg;rw[o]
 ·rintro _ h3 ⟨rfl,l⟩;exact⟨_,i4,i4,.zip (e.up l.ae).ae⟩
theorem aev{name:ByteArray}{l:List Qw.cu}{i:Int}(h:Uy (gm name) l i):(i<0/\l.find? (gm name)=eH)∨∃(n:Nat) (b:n<i0 l),i=n/\l.find? (gm name)=dB l[n]:=by
 rcases h with⟨rfl,h⟩|⟨n,b,rfl,h1,h2⟩
 ·exact .inl ⟨i6,wu.2 λe a=>wo.1 h e a⟩
 ·refine .inr ⟨n,b,i4,List.find?_eq_some_iff_append.2 ⟨h1,l.take n,l.drop (n+1),?_,λe a=>?_⟩⟩
  ·rw[<-qK b,List.take_append_drop]
  ·have:=wo.1 h2 e a;simpa using this
theorem abM(x:bm)(name:ByteArray)(S:bf m=eX)(z:∀k d,aV ds k=dB d->d.l.length<=512)(H:aa B h0 h (aY ba a pw (aA x) offs da w ds::bh x m::As)):
  an xP 29 #[xH (dB a),xI name] h λv h'=>∃r:Sl,v=.tuple #[r,xF xL (nN m offs w ds name).2]/\Sp h h' [EA (cm 1 az) r (nN m offs w ds name).1]:=by
 refine ts Tryz.func29 ?_ (.two .n (.two .n (.two .n (.two .n (.two .n (.two .n (.two .n (.two (.two .n (.inn (.loop [(8,cL),(37,aQ)] [(4,6),(8,14),(37,76)] (.two .n (.two .n (.two (.inn (.two .n (.two (.join [(11,cL)] [(11,12),(42,54)] .n) (.two (.join [(12,cL),(13,aQ)] [(12,14),(54,69)] .n) .n)))) .n)))))) .n)))))))) [(13,(.l [0,1,2,4,5,6,7,8,9,10,3,11,12])),(14,(.l [0,1,2,3,4,5,6,7,8,10,9,11,12,13,14,15,16]))];have hz:=iC S;have ap:=gy S;have ab:(aU ds m.drives).length<=64:=qT (qS _ _) ap;have f:∀{h':g0} (e:Int),Sp h h' []->nN m offs w ds name=([],e)->∃r:Sl,(.tuple #[xG eH 0 0,xF xL e]:Value)=.tuple #[r,xF xL (nN m offs w ds name).2]/\Sp h h' [EA (cm 1 az) r (nN m offs w ds name).1]:=λe R he=>by
  rw[he];exact⟨⟨eH,0,0⟩,i4,(R.nil 5 1 az).vy 0 i4 λ_=>rfl⟩
 refine(sa H).mono ?_;rintro _ M ⟨rfl,rfl⟩;refine⟨_,i4,bo (λe=>f 14 (Sp.refl _) (by unfold nN;rw[g9 e])) λe1=>?_⟩;refine(find_spec x m name (H.at 1 i4) hz H).mono ?_;rintro _ h2 ⟨⟨i,rfl,hi⟩,R2⟩;have H2:=H.up R2.ae;refine⟨i,i4,?_⟩;rcases aev hi with⟨hneg,hf⟩|⟨n,hn,rfl,hf⟩
 ·exact ag (λ_=>f 5 R2 (by unfold nN;rw[hU mM,hf])) λe=>absurd hneg e
 refine ag (λe=>absurd e (Int.not_lt.2 (Int.natCast_nonneg n))) λ_=>?_;obtain⟨E,hE⟩:∃E,E=m.objs[n]:=⟨_,rfl⟩
 have ax:E∈m.objs:=by rw[hE];exact qf hn
 have ep:nN m offs w ds name=AJ m ds E:=by unfold nN;rw[hU mM,hf,hE]
 rw[ep]at f⊢;refine(RX x S H2).mono ?_;rintro _ h3 ⟨rfl,R3⟩;have H3:=H2.up R3.ae;have A:Sp M h3 []:=R2.up R3.ae;refine⟨_,i4,aR (λe=>f 11 A (by unfold AJ;rw[g9 e])) λe3=>?_⟩;have e3:ro m ds=eX:=by simpa using e3
 have V:=(fB m E).1 (((bM m).1 S).2.2.2.2.1 E ax);have a9:E.tries.length<=8:=by have:=lX V.2.2.1.2;omega
 have al:=((dn m).1 ((bM m).1 S).1).2.2.1;have ar:=(aa.cK H3).2;have ad:dh M x m:=H.at 1 i4;obtain⟨ys,F⟩:=bC.fix ad.objs;have a5:=F.2.1;have s:=Fix.row F hn;obtain⟨xe,O⟩:∃xe,xe=ys[n]'(by omega):=⟨_,rfl⟩
 rw[<-hE,<-O]at s;refine⟨a,i4,x.2.2.2.2.2.2.2,ar.cell i4,(Seq.up F.1 A.ae).cU (g:=bc) n i4 i5 xe (by rw[O]) ?_⟩;refine(Sp.refl h3).alloc aj i4 λa8 h4 Q4=>?_;refine Q4.storeAll aj 0 i4 i4 (bc xe) i4 i4 i4 i4 λh5 Z=>?_;have Z:Sp h3 h5 [ac a8 88 (bc xe)]:=Z;have R5:Sp M h5 [ac a8 88 (bc xe)]:=A.comp Z;have P:Rd M xe.2.2.2 1 ak E.tries:=s.2;have a2:=P.len;have eo:xe.2.1=E.object:=s.1.2.1;have el:xe.2.2.1=E.length:=s.1.2.2;have R5:=R5.BE 58 5 1 az;refine⟨xe.2.2.2,(Z.box 0 i4).cell i4,?_⟩;refine aq (λt:Sl×Nat=>(t.1,(t.2:Int))) (λt h'=>t.2<=E.tries.length/\(∀j,j<t.2->(jZ m ds E.object E.tries j).2=0)/\Sp M h' [dI t.1 ((qx t.2).map λj=>(jZ m ds E.object E.tries j).1),ac a8 88 (bc xe)]) (λt=>E.tries.length-t.2) (⟨eH,0,0⟩,0) i4 ⟨jj,λj u=>absurd u (Nat.not_lt_zero _),R5⟩ ?_;rintro⟨o,k⟩ h6 ⟨hk,I,y⟩;dsimp only at hk I y⊢;have H6:=H.up y.ae;have T:=(aa.cK H6).2;have U:dh h6 x m:=H6.at 1 i4;have cp:∀{h':g0},bY h' a 92 (bQ (aA x) pw offs da)->bn h' (a.add 2) 0 [xF xL m.p.1,xF xL m.p.2.1,xF xL m.p.2.2]:=λ{h'} hb=>by
  rw[<-U.p];exact⟨j8,j8,j8,trivial⟩
 refine ag (λe=>?_) λe=>?_
 ·have K:k<E.tries.length:=by have e':(k:Int)<(xe.2.2.2.len:Int):=e;omega
  refine(Seq.up P y.ae).bt k i4 K E.tries[k] i4 ?_;refine aW ⟨a,i4,x,T.aF _ i4,xe.2.1,(y.box 1 i4).cell i4,(gb x m U hz H6).mono ?_⟩;rintro _ h7 ⟨lv,rfl,R7⟩;have H7:=H6.up R7.ae;have q:=(aa.cK H7).2;have Q:=y.up R7.ae;refine⟨lv,i4,⟨(Q.box 1 i4).cell i4,q.cell0 i4,q.cell i4,q.cell i4,q.cell i4,q.cell i4,q.cell i4,q.cell i4,q.cell i4,trivial⟩,?_⟩;rw[eo];refine(uJ x m lv (aU ds m.drives) E.object k (H7.at 1 rfl) hz (R7.seq 0 rfl λ_=>rfl) i5 (λj u=>by obtain⟨_,d,hd,_⟩:=lW u;exact⟨d,hd⟩) H7).mono ?_;rintro _ h8 ⟨r,ss,rfl,R8⟩;have H8:=H7.up R8.ae;have W:=(aa.cK H8).2;have G:=Q.up R8.ae;refine⟨r,i4,trivial,aW ⟨a,i4,m.p,cp W,xe.2.1,(G.box 1 i4).cell i4,(nC xe.2.1 k E.tries[k] h8).mono ?_⟩⟩;rintro _ h9 ⟨rfl,rfl⟩;obtain⟨c1,c2,c3,_⟩:=cp W;have J:Fix jm 2 piv h9 (λb=>b<h9.size) r ss (eC m ds (aU ds m.drives) E.object k):=R8.at 0 i4;have a0:dQ FI h9 r (eC m ds (aU ds m.drives) E.object k):=⟨ss,J.1,J.2.1,J.2.2⟩
  have a6:(eC m ds (aU ds m.drives) E.object k).length<=64*512:=by unfold eC;refine qT (Bi (c:=512) λj u=>?_) (zD _ ab);obtain⟨_,d,hd,_⟩:=lW u;unfold kG;rw[hd];have M:=Cq m E.object k d.l;have h2:=z j d hd;show(uI m E.object k d.l).length<=512;omega
  rw[eo];refine⟨_,i4,⟨c1,c2,c3,trivial⟩,(Jd m.p (ci E.object k E.tries[k]) r _ h9 a0).mono ?_⟩;rintro _ a7 ⟨a1,rfl,L⟩;have eb:lE m.p (ci E.object k E.tries[k]) (eC m ds (aU ds m.drives) E.object k)=jZ m ds E.object E.tries k:=by unfold jZ;rw[gF 0 K]
  rw[eb]at L⊢;have N:=G.up L.ae;refine⟨(a1,(jZ m ds E.object E.tries k).2),i4,trivial,bx (λe4=>f 11 (.zip N.ae) ?_) λe4=>?_⟩
  ·unfold AJ;rw[hU (by rw[e3];decide),hU];intro Y;exact e4 (ii (qJ.1 Y k (qA.2 K)))
  ·have am:=(G.comp L).aO 3 [0,2,1];refine aa.BF aj am fv i9 λo' a3 ao=>?_;refine⟨(o',k+1),j0,⟨i7,λj u=>?_,?_⟩,i7⟩
   ·rcases zd.1 u with u|rfl
    ·exact I j u
    ·simpa using e4
   ·try dsimp only
    rw[List.range_succ,List.map_append];exact ao
 ·have ah:k=E.tries.length:=by have e':¬(k:Int)<(xe.2.2.2.len:Int):=e;omega
  subst ah;refine⟨a,i4,m.p,cp T,xe.2.2.1,(y.box 1 i4).cell i4,?_⟩;rw[el];have D:E.length<=2^20:=by obtain⟨⟨k1,k2⟩,_,z1,z2⟩:=(bT m.p).1 al;have:m.p.1*m.p.2.2<=16*24:=Int.mul_le_mul k2 z2 i5 i5;have:=V.2.2.1.2;omega
  refine(VV m.p o _ E.length h6 (y.rP λ_=>rfl) D i9).mono ?_;rintro _ a4 ⟨X,b,rfl,ay⟩;have eg:AJ m ds E=(nE m.p ((qx E.tries.length).map λk=>(jZ m ds E.object E.tries k).1) E.length,0):=by unfold AJ;rw[hU (by rw[e3];decide),g9 (qJ.2 λj u=>hY (I j (qA.1 u)))]
  rw[eg];exact⟨(X,b),i4,trivial,X,i4,((y.comp ay).bA [2])⟩
end
theorem RY(s:ByteArray)(h:g0)(hs:s.size<=2^31):an xP 131 #[xI s] h λv h'=>v=xI s/\Sp h h' []:=by
 refine ts Tryz.func131 ?_;refine cH (λe=>?_) λe=>?_
 ·have A:s.size=0:=i5
  have:s=⟨#[]⟩:=by
   cases s with
   |mk d=>
    have:d=#[]:=Array.eq_empty_of_size_eq_zero A;rw[this]
  rw[this];exact⟨i4,Sp.refl h⟩
 ·refine(Sp.refl h).HW aj az gz i6 0 i4 i4 s.size s.size i4 i4 (ql _) i5 λu h1 ab J H1=>?_;obtain⟨I,E⟩:=Sp.fresh H1 0 rfl;have L:=I.len;rw[wY]at L;rcases I.head with⟨p1,p2,p3⟩|⟨b,rest,p1,p2,p3,p4⟩
  ·exfalso;have:=congrArg List.length p3;rw[wY,yo]at this;omega
  have W:=E b ⟨0,p1⟩;have a:i0 s.data.toList=s.size:=by rw[xn];rfl
  obtain⟨M,H⟩:∃M:Array Value,M=((qi s.size (0:UInt8)).flatMap az++rest).toArray:=⟨_,rfl⟩
  rw[<-H]at p2;have Z:s.size<=M.size:=by rw[H];simp[dl (f:=az) (k:=1) λ_=>rfl]
  obtain⟨Y,G⟩:∃Y:Array Value,Y=(M.toList.take 0++Lib.byteCells s.data.toList++M.toList.drop (0+s.size)).toArray:=⟨_,rfl⟩
  rw[p1];intro w r;have F:w.heap[b]?=dB (.cells M 5 (0,0)):=by rw[r];exact p2
  have m:=Lib.run_copy_row_string (P:=xP) w 58 9 3 5 b 0 u.len u.cap s M 5 lb lb F i5 i5;rw[<-G]at m;have z:(w.setRow b Y).heap[b]?=dB (.cells Y 5 (0,0)):=setRow_heap _ _ M _ 5 (0,0) F;refine⟨_,_,m,⟨i4,i4,i4,ql _⟩,(s.size:Int),i4,⟨b,0,eH⟩,⟨(by first|exact p1|rfl),i6,i5⟩,?_⟩;intro q c;have o:Y.toList=Lib.byteCells s.data.toList++M.toList.drop s.size:=by rw[G];simp
  have B:i0 (Lib.byteCells s.data.toList)=s.size:=by rw[Lib.byteCells_length,a]
  have N:s.size<=Y.size:=by rw[<-xn,o,qw,B];omega
  have l:q.heap[b]?=dB (.cells Y 5 (0,0)):=by rw[c];exact z
  have D:s.data.toList≠[]:=λA=>by rw[A]at a;simp at a;omega
  have t:=Lib.run_unsafeString_row (P:=xP) q 251 3 9 5 lb lb b Y.size (by unfold World.shape?;rw[l]) s.data.toList D i5 i5 (λj x K=>by
   have hj:j<s.size:=by have:=(qk.1 K).1;omega
   have S:Y[j]?=dB (xF xM (x.toNat:Int)):=by rw[<-Array.getElem?_toList,o,qm i5];unfold Lib.byteCells;rw[qP,K];rfl
   have Q:((⟨b,0,eH⟩:f8).add j)=⟨b,j,eH⟩:=by unfold Addr.add;split<;>simp_all
   rw[Q];unfold World.cell?;simp only[l,S];rfl)
  have R:((u.len:Nat):Int)=(i0 s.data.toList:Int):=i5
  have T:∀(g:World) (n:Nat),(g.freeze ⟨b,0,eH⟩ n).heap.size=g.heap.size/\(∀k,k≠b->(g.freeze ⟨b,0,eH⟩ n).heap[k]?=g.heap[k]?)/\dg g (g.freeze ⟨b,0,eH⟩ n):=λg n=>by
   unfold World.freeze;split
   ·exact⟨i4,λ_ _=>rfl,dg.refl _⟩
   ·refine⟨jj,λk p=>?_,⟨i4,i4,i4,ql _⟩⟩;rw[wJ,hU λh=>p h.symm]
  obtain⟨O,f2,V⟩:=T q s.data.toList.length;refine⟨xI ⟨s.data.toList.toArray⟩,q.freeze ⟨b,0,eH⟩ s.data.toList.length,?_,V,⟨s.data.toList.toArray⟩,i4,jj,?_⟩
  ·rw[R];exact t
  ·have U:(w.setRow b Y).heap.size=w.heap.size:=by unfold World.setRow;simp
   have X:∀k,k≠b->(w.setRow b Y).heap[k]?=w.heap[k]?:=λk p=>by
    unfold World.setRow;rw[wJ,hU λh=>p h.symm]
   refine .zip ⟨by rw[O,c,U,r];exact J.1,λk p y=>?_⟩;have i:k≠b:=by have:=W.1;omega
   rw[f2 k i,c,X k i,r];exact J.2 k p y
theorem Mu(s:ByteArray)(h:g0)(a:s.size<=2^31):an xP 83 #[xI s] h λv h'=>v=xI s/\Sp h h' []:=by refine ts Tryz.func83 ?_;refine(RY s h a).mono ?_;rintro _ c ⟨rfl,b⟩;exact⟨_,i4,i4,b⟩
def sn(m:av)(offs:Int)(w:Pow):List ByteArray:=if fH w offs then[]else m.objs.map Qw.cu.name
section
variable {pw:f8}
theorem VW(x:bm)(u:bf m=eX)(H:aa B h0 h (aY ba a pw (aA x) offs da w ds::bh x m::As)):
  an xP 28 #[xH (dB a)] h λv h'=>∃r:Sl,v=r/\Sp h h' [af 9 r 1 AL (sn m offs w)]:=by
 refine ts Tryz.func28 ?_ (.two .n (.two .n (.two .n (.two (.two .n (.inn (.loop [(3,cL),(14,aQ)] [(3,4),(5,6),(14,25)] .n))) .n))));refine(sa H).mono ?_;rintro _ k ⟨rfl,rfl⟩;refine⟨_,i4,bo (λe=>?_) λJ=>?_⟩
 ·have:sn m offs w=[]:=by unfold sn;rw[g9 e]
  rw[this];exact⟨⟨eH,0,0⟩,i4,(Sp.refl k).nil 9 1 AL⟩
 have S:sn m offs w=m.objs.map Qw.cu.name:=by unfold sn;rw[hU (by rw[J];decide)]
 rw[S];have M:=(aa.cK H).2;have N:dh k x m:=H.at 1 i4;have Q:=((bM m).1 u).2.2.2.1;obtain⟨R,F⟩:=bC.fix N.objs;have y:=F.2.1;have P:=F.1.len;refine⟨a,i4,x.2.2.2.2.2.2.2,M.cell i4,?_⟩;refine aq (λt:Sl×Nat=>(t.1,(t.2:Int))) (λt h'=>t.2<=i0 m.objs/\Sp k h' [af 9 t.1 1 AL ((m.objs.map Qw.cu.name).take t.2)]) (λt=>i0 m.objs-t.2) (⟨eH,0,0⟩,0) i4 ⟨jj,by simpa using(Sp.refl k).nil 9 1 AL⟩ ?_;rintro⟨o,i⟩ U ⟨A,d⟩;dsimp only at A d⊢;refine ag (λe=>?_) λe=>?_
 ·have c:i<i0 m.objs:=i5
  have b:=Fix.row F c;obtain⟨E,q⟩:∃E,E=m.objs[i]:=⟨_,rfl⟩
  have p:E∈m.objs:=by rw[q];exact qf c
  obtain⟨xe,f⟩:∃xe,xe=R[i]'(by omega):=⟨_,rfl⟩
  rw[<-q,<-f]at b;have j:xe.1=E.name:=b.1.1;have G:E.name.size<=12:=by have:=((fB m E).1 (((bM m).1 u).2.2.2.2.1 E p)).1;unfold kW at this;simp at this;omega
  refine(Seq.up F.1 d.ae).cU (g:=bc) i i4 i5 xe (by rw[f]) ?_;refine d.alloc aj i4 λO h3 z=>?_;refine z.storeAll aj 1 i4 i4 (bc xe) i4 i4 i4 i4 λs l=>?_;have l:Sp k s [af 9 o 1 AL ((m.objs.map Qw.cu.name).take i),ac O 88 (bc xe)]:=l;refine⟨xe.1,(l.box 1 i4).cell0 i4,(Mu xe.1 s (by rw[j];omega)).mono ?_⟩;rintro _ T ⟨rfl,K⟩;have L:=(l.up K.ae).bA [0];refine⟨_,i4,L.push aj 0 i4 agl i4 i6 (λ_=>rfl) aei xe.1 i4 i6 i9 λI V D=>?_⟩;refine⟨(I,i+1),j0,⟨i7,?_⟩,i7⟩
  try dsimp only
  rw[aD _ _ (show i<i0 (m.objs.map Qw.cu.name) by simpa using c),wh,<-q,<-j];exact D
 ·rw[qg m9]at d;exact⟨o,i4,d⟩
theorem abN(b:bf m=eX)(H:aa B h0 h (bD a pw da offs w ds m::As)):
  an xP 28 #[xH (dB a)] h λv h'=>∃r:Sl,v=r/\Sp h h' [af 9 r 1 AL (sn m offs w)]:=by
 obtain⟨x,H⟩:=fO H;exact VW x b H
end
section
variable {pw:f8}
end
theorem Tg{B:aw}{g h:g0}{As:List HP}{a pw:f8}{offs:Int}{e:List cj}{w:Pow}{ds:aE}{m:av}(name:ByteArray)(f:bf m=eX)(H:aa B g h (bD a pw e offs w ds m::As)):
  an xP 29 #[xH (dB a),xI name] h λv h'=>∃r:Sl,v=.tuple #[r,xF xL (nN m offs w ds name).2]/\Sp h h' [EA (cm 1 az) r (nN m offs w ds name).1]:=by
 have c:=(ka H).2;obtain⟨x,i⟩:=fO H;exact abM x name f (λk d b=>qT (c k d b).1 (c k d b).2.1) i
theorem nk.cg{p:Pm}{b:Mv}(h:nk p b):(b.kind=6->(0<=b.slot/\b.slot<9)/\6<=b.n/\b.n<66)/\(b.kind=11->(0<=b.n/\b.n<40)/\(0<=b.m/\b.m<61)/\0<=b.mask/\b.mask<4294967296):=by unfold nk at h;omega
section
variable {pw:f8}
theorem Qa(h:g0):an xP 10 #[] h λv h'=>v=xJ eX/\Sp h h' []:=by refine ts Tryz.func10 ?_;refine(Eb h).mono ?_;rintro _ f ⟨pw,rfl,k⟩;have a:Sp h f [eN ba pw [] [],bV 104 pw Pow.new]:=aa.tooX (aa.closeAll [] k) ⟨i4,λi=>rfl⟩;refine⟨_,i4,(LV (As:=[]) ⟨eH,0,0⟩ (.base (Seq.nil _ _ _ _ _ _) λh' _=>Seq.nil _ _ _ _ _ _) i6 i6 (λd b=>by cases b) (λm c=>by cases c) a).mono ?_⟩;rintro _ j ⟨Q,_⟩;obtain⟨rfl,g⟩:=Q rfl;refine⟨(eH,11),i4,(PS ⟨eH,0,0⟩ j).mono ?_⟩;rintro _ _ ⟨rfl,rfl⟩;exact⟨(eH,1),i4,bo (λ_=>cH (λ_=>⟨i4,.zip g.ae⟩) λe=>absurd i4 e) λe=>j3⟩
theorem VX(H:aa B h0 h (bD a pw da offs w ds m::As)):an xP 9 #[xH (dB a)] h λv h'=>∃r:Sl,v=r/\Sp h h' [af 44 r 1 iP da]:=by
 refine ts Tryz.func9 ?_ (.two .n (.two .n (.two (.two .n (.inn (.loop [(3,cL),(4,aQ)] [(3,15)] .n))) .n)));obtain⟨x,H⟩:=fO H;obtain⟨ok,d⟩:=aa.cK H;have l:=ok.la;refine aq (λt:Sl×Nat=>(t.1,(t.2:Int))) (λt h'=>t.2<=64/\Sp h h' [af 44 t.1 1 iP (da.take t.2)]) (λt=>64-t.2) (⟨eH,0,0⟩,0) i4 ⟨zi _,(Sp.refl h).nil 44 1 iP⟩ ?_;rintro⟨s,i⟩ o ⟨f,c⟩;dsimp only at f c⊢;refine ag (λe=>?_) λe=>?_
 ·have b:i<i0 da:=i5
  refine(my (i:Int) ok (d.ae c.ae d.lt)).mono ?_;rintro _ _ ⟨rfl,rfl⟩;have k:iG da (i:Int)=da[i]:=by unfold iG;rw[g9 i5,qj,qc b];rfl
  rw[k];refine⟨_,i4,c.push aj 0 i4 abC i4 i6 (λ_=>rfl) Te da[i] i4 i6 i9 λj p g=>?_⟩;refine⟨(j,i+1),j0,⟨i7,?_⟩,i7⟩
  try dsimp only
  rw[aD _ _ b];exact g
 ·have b:i=64:=i5
  rw[b,qg i5]at c;exact⟨s,i4,c⟩
theorem Qb(H:aa B h0 h (bD a pw da offs w ds m::As)):∃x,fG (aA x) da ds/\aa B h0 h (eN ba pw da ds::bV 104 pw w::ac a 92 (bQ (aA x) pw offs da)::bh x m::As):=by obtain⟨x,H⟩:=fO H;obtain⟨ok,H⟩:=aa.Zb H;exact⟨x,ok,H⟩
theorem Th{x:bm}(b:i0 ds=64)(H:aa B h0 h (eN ba pw da ds::bV 104 pw w::ac a 92 (bQ (aA x) pw offs da)::bh x m::As)):aa B h0 h (bD a pw da offs w ds m::As):=
 lZ (aa.Zc i4 b H)
end
theorem KF{B s:aw}(a b:Sl)(c d:ct)(h:g0)(o:(bC (cm 1 ak) 1 bg).p h B a c)(q:(bC (cm 1 ak) 1 bg).p h s b d)(G:i0 c<=2^40)(j:∀r∈c,i0 r<=2^40):
  an xP 32 #[a,b] h λv h'=>v=xJ (decide (c=d))/\h'=h:=by
 refine ts Tryz.func32 ?_ (.two .n (.two .n (.two (.two .n (.inn (.loop [(13,aQ)] [(4,6),(13,27)] .n))) .n)));have w:=bC.len o;have y:=bC.len q;refine bx (λz=>?_) (λt=>?_)
 ·refine⟨?_,i4⟩;rw[hZ];intro e;subst e;omega
 ·have E:i0 c=i0 d:=i5
  refine aq (λk:Nat=>(k:Int)) (λk h'=>h'=h/\k<=i0 c/\c.take k=d.take k) (λk=>i0 c-k) 0 i4 ⟨i4,i5,i4⟩ ?_;rintro k h' ⟨rfl,F,l⟩;refine ag (λD=>?_) (λu=>?_)
  ·have f:k<i0 c:=i5
   refine bC.mB o k i4 f λx i=>?_;refine bC.mB q k i4 i5 λA m=>?_;refine(Bh x A c[k] d[k] h' i m (j _ (qf f))).mono ?_;rintro v h3 ⟨rfl,rfl⟩;refine⟨_,i4,trivial,?_⟩;rw[ai _];refine aR (λg=>?_) (λg=>?_)
   ·refine⟨?_,i4⟩;rw[hZ];intro e;subst e;exact of_decide_eq_false g i4
   ·refine⟨k+1,jj,⟨i4,i5,?_⟩,i5⟩;have g:=ii g;rw[aD _ _ f,aD d k,l];rw[show c[k]=d[k]from g]
  ·refine⟨?_,i4⟩;rw[qg i5,qg i5]at l;rw[hY l]
end Go.Qw
