/- Lemmas for the proof of the law; no condition. -/
import Derived.Test.YtbhpnfilcomonaaGreatDoorKB
set_option linter.unusedVariables false
set_option linter.unusedSimpArgs false
open Go.Proofs.Tryz renaming prog -> xa
open List renaming all_eq_true -> qU, any_eq_false -> wM, any_eq_true -> yu, append_assoc -> qm, append_nil -> qM, dropLast_concat_getLast -> w4, drop_drop -> zq, drop_eq_getElem_cons -> qS, ext_getElem -> yr, ext_getElem? -> zr, filterMap_append -> yg, filter_append -> zn, filter_cons -> zx, filter_eq_self -> wy, find?_eq_none -> yB, flatMap_append -> qY, flatMap_cons -> zf, flatMap_nil -> wx, foldl_append -> wz, foldl_cons -> zA, getD_eq_getElem?_getD -> qf, getElem?_append_left -> ql, getElem?_append_right -> qg, getElem?_cons_succ -> qo, getElem?_eq_getElem -> qd, getElem?_eq_none -> qX, getElem?_eq_some_iff -> qk, getElem?_map -> qP, getElem?_replicate -> wg, getElem?_set -> qW, getElem?_zipWith -> zB, getElem_append_left -> y5, getElem_append_right -> yT, getElem_map -> yt, getElem_mem -> qn, getElem_of_mem -> qN, length_append -> qw, length_cons -> zi, length_drop -> qV, length_filterMap_le -> yo, length_map -> qC, length_mergeSort -> zT, length_replicate -> wR, length_take -> qR, map_append -> za, map_map -> we, map_mergeSort -> yd, mem_append -> qH, mem_append_right -> wQ, mem_cons -> zj, mem_cons_of_mem -> q0, mem_cons_self -> qT, mem_filterMap -> yf, mem_flatMap -> zL, mem_map -> qE, mem_mergeSort -> wq, mem_of_find?_eq_some -> yS, mem_of_getElem? -> wu, mem_of_mem_take -> wV, mem_or_eq_of_mem_set -> wb, mem_range -> qF, mem_singleton -> qB, not_mem_nil -> yv, pairwise_cons -> zF, range -> qD, range_succ -> zE, replicate -> qh, take_length -> zc, take_of_length_le -> qi
open Int renaming natCast_mul -> wc, ofNat_inj -> y0, toNat_natCast -> qq
open Go.Value renaming agg -> vV, bool -> vU, int -> vQ, pointer -> vS, slice -> vR, string -> vT
open Go.IntKind renaming bits -> qj, i64 -> vW, u8 -> vX, wrap -> qc
open Nat renaming le_refl -> qp, le_trans -> zH, lt_succ_iff_lt_or_eq -> zQ, min_eq_left -> wv, min_le_right -> vo, sub_self -> qZ, zero_le -> zo
open UInt8 renaming toNat_inj -> yk
open Bool renaming and_eq_true -> qz, true_and -> z8
open Prod renaming fst -> qx, snd -> ze
open BitVec renaming ofInt -> qy
open Option renaming isSome_iff_exists -> wE, map_some -> qJ
open Go.Builtin renaming copy_ -> zK
set_option maxRecDepth 100000
namespace Wl
open Go
structure Pg where
 seq:Int
 num:Int
 many:Int
 bears:aL
 cell:aL
def LS(x c:aL):Pg:=⟨cy (x.take 4),((x.getD 4 0).toNat:Int),((x.getD 5 0).toNat:Int),(x.drop 7).take (x.getD 6 0).toNat,c⟩
def bU(c:aL):Option Pg:=
 match gD c with
 |some (k,x)=>if k=2/\(x.getD 6 0).toNat<=48/\(x.drop (7+(x.getD 6 0).toNat)).all (fun b=>decide (b=0))=true then some (LS x c)else none
 |none=>none
def pf(f:Pg)(i:Int)(x:Pg):Bool:=decide (x.seq=f.seq/\x.many=f.many/\x.num=i)
def gX(l:List Pg)(f:Pg):Nat->Option (List Pg)
 |0=>some [f]
 |n+1=>match gX l f n with
  |none=>none
  |some out=>match l.find? (pf f ((n+1:Nat):Int))with
   |none=>none
   |some x=>some (out++[x])
def it(l:List Pg)(f:Pg):Option (List Pg):=if f.many<=0 then none else gX l f (f.many.toNat-1)
def jM(s:List Pg):Option ar:=
 match iz (s.flatMap Pg.bears)with
 |none=>none
 |some m=>if aP m=s.map Pg.cell then some m else none
def cP(pages:List Pg)(out:List ar)(x:Pg):List ar:=
 if x.num≠0 then out else match it pages x with
 |none=>out
 |some s=>match jM s with
  |none=>out
  |some m=>if out.any (fun y=>decide (bo y=bo m))then out else out++[m]
def FU(pages:List Pg)(xs:List Pg):List ar:=xs.foldl (cP pages) []
def FV(a b:ar):Bool:=decide (b.seq<=a.seq)
def eW(l:bR):List ar:=(FU (l.filterMap bU) (l.filterMap bU)).mergeSort FV
theorem PS{seq c a:Int}{b:aL}(h:0<=seq/\seq<4294967296)(q:0<=c/\c<256)(h3:0<=a/\a<256)(r:b.length<=48):bU (iq seq c a b)=some ⟨seq,c,a,b,iq seq c a b⟩:=by
 have o:(bg seq 4++([b8 c,b8 a,b8 b.length]++b)).length=7+b.length:=by simp[bM];omega
 obtain⟨x,e⟩:∃x,x=bg seq 4++([b8 c,b8 a,b8 b.length]++b)++qh (55-(bg seq 4++([b8 c,b8 a,b8 b.length]++b)).length) 0:=⟨_,rfl⟩
 have j:gD (iq seq c a b)=some (2,x):=by
  unfold iq;rw[rA,e]
 have d:=Ev seq;have f:x.getD 6 0=b8 b.length:=by rw[e,d];rfl
 have p:x.getD 5 0=b8 a:=by rw[e,d];rfl
 have m:x.getD 4 0=b8 c:=by rw[e,d];rfl
 have n:x.take 4=bg seq 4:=by rw[e,d];rfl
 have i:x.drop 7=b++qh (55-(7+b.length)) 0:=by rw[e,o,d];rfl
 have g:((b8 (b.length:Int)).toNat)=b.length:=by have:=mf (b.length:Int);omega
 unfold bU;rw[j];dsimp only;have k:(b8 (b.length:Int)).toNat<=48:=by omega
 rw[if_pos ⟨rfl,by rw[f];exact k,by
  rw[f,g,<-zq,i,List.drop_left];exact qU.2 fun y l=>decide_eq_true (List.eq_of_mem_replicate l)⟩]
 unfold LS;rw[n,m,p,f,i,Hz h.1 h.2,g,List.take_left];have:=mf c;have:=mf a;congr 2<;>omega
theorem CX{c:aL}{g:Pg}(h:bU c=some g):g.cell=c:=by
 unfold bU at h;split at h
 ·split at h
  ·injection h with h;rw[<-h];rfl
  ·cases h
 ·cases h
def lm(m:ar)(i:Nat):Pg:=⟨m.seq,i,cD (bo m),((bo m).drop (48*i)).take 48,iq m.seq i (cD (bo m)) (((bo m).drop (48*i)).take 48)⟩
theorem jm(m:ar):aP m=(qD (cD (bo m))).map fun i=>(lm m i).cell:=rfl
theorem Wy{m:ar}(a:bB m=true):cD (bo m)<=9:=by
 have:=Go.Qw.tV a;unfold aP at this
 rwa [qC,List.length_range]at this
theorem kK{m:ar}(a:bB m=true){i:Nat}(c:i<cD (bo m)):bU (lm m i).cell=some (lm m i):=by
 have b:=Wy a;have d:=((gQ m).1 ((dQ m).1 a).1).1;exact PS ⟨by omega,by omega⟩ ⟨by omega,by omega⟩ ⟨by omega,by omega⟩ (by simp;omega)
theorem CY(b:aL):∀n,(qD n).flatMap (fun i=>(b.drop (48*i)).take 48)=b.take (48*n)
 |0=>by simp
 |n+1=>by
  rw[zE,qY,CY b n,zf,wx,qM,show 48*(n+1)=48*n+48 by omega,List.take_add]
theorem Bt(m:ar):((qD (cD (bo m))).map (lm m)).flatMap Pg.bears=bo m:=by
 have h:((qD (cD (bo m))).map (lm m)).flatMap Pg.bears=(qD (cD (bo m))).flatMap (fun i=>((bo m).drop (48*i)).take 48):=by
  rw[List.flatMap_map];rfl
 rw[h,CY,qi (by unfold cD;omega)]
theorem LU{m:ar}(a:bB m=true):jM ((qD (cD (bo m))).map (lm m))=some m:=by
 unfold jM;rw[Bt,uy.2 ⟨a,rfl⟩];dsimp only;rw[if_pos (by rw[jm,we];rfl)]
theorem CZ{s:List Pg}{m:ar}(h:jM s=some m):bB m=true/\aP m=s.map Pg.cell:=by
 unfold jM at h;split at h
 ·cases h
 ·rename_i c a;split at h
  ·rename_i b;injection h with h
   subst h;exact⟨(uy.1 a).1,b⟩
  ·cases h
theorem Da{l:List Pg}{f:Pg}:∀{n:Nat} {s:List Pg},gX l f n=some s->∀x∈s,x=f∨x∈l
 |0,s,h,x,hx=>by
  unfold gX at h;injection h with h;subst h;exact .inl (qB.1 hx)
 |n+1,s,h,x,hx=>by
  unfold gX at h;split at h
  ·cases h
  ·rename_i out a;split at h
   ·cases h
   ·rename_i y b;injection h with h
    subst h;rcases qH.1 hx with hx|hx
    ·exact Da a x hx
    ·rw[qB.1 hx];exact .inr (yS b)
theorem Nq{l:List Pg}{f:Pg}{s:List Pg}(h:it l f=some s)(a:f∈l):∀x∈s,x∈l:=by
 unfold it at h;split at h
 ·cases h
 ·intro x b;rcases Da h x b with rfl|h
  ·exact a
  ·exact h
theorem Bu{pages:List Pg}{out:List ar}{x:Pg}{m:ar}(h:m∈cP pages out x):m∈out∨∃s,it pages x=some s/\jM s=some m:=by
 unfold cP at h;split at h
 ·exact .inl h
 ·split at h
  ·exact .inl h
  ·rename_i s b;split at h
   ·exact .inl h
   ·rename_i c a;split at h
    ·exact .inl h
    ·rcases qH.1 h with h|h
     ·exact .inl h
     ·rw[qB.1 h];exact .inr ⟨s,b,a⟩
theorem Bv{pages:List Pg}{m:ar}:∀(xs:List Pg) (out:List ar),m∈xs.foldl (cP pages) out->m∈out∨∃x∈xs,∃s,it pages x=some s/\jM s=some m
 |[],out,h=>.inl h
 |x::xs,out,h=>by
  rcases Bv xs _ h with h|⟨y,hy,s,hs⟩
  ·rcases Bu h with h|⟨s,hs⟩
   ·exact .inl h
   ·exact .inr ⟨x,qT,s,hs⟩
  ·exact .inr ⟨y,q0 _ hy,s,hs⟩
theorem Jj{pages:List Pg}{out:List ar}{x:Pg}{m:ar}(h:m∈out):m∈cP pages out x:=by
 unfold cP;split
 ·exact h
 ·split
  ·exact h
  ·split
   ·exact h
   ·split
    ·exact h
    ·exact List.mem_append_left _ h
theorem xB{pages:List Pg}{m:ar}:∀(xs:List Pg) {out:List ar},m∈out->m∈xs.foldl (cP pages) out
 |[],_,h=>h
 |_::xs,_,h=>xB xs (Jj h)
theorem Ir{a b:ar}(e:bB a=true)(f:bB b=true)(h:bo a=bo b):a=b:=by
 have c:=ux e;have d:=ux f;rw[h,d]at c;injection c with c
 exact c.symm
theorem PT{l:bR}{m:ar}(h:m∈FU (l.filterMap bU) (l.filterMap bU)):bB m=true/\∀c∈aP m,c∈l:=by
 rcases Bv _ _ h with h|⟨x,hx,s,hs,hw⟩
 ·cases h
 ·obtain⟨e,d⟩:=CZ hw;refine⟨e,fun c a=>?_⟩;rw[d]at a;obtain⟨g,f,rfl⟩:=qE.1 a;obtain⟨c,a,b⟩:=yf.1 (Nq hs hx g f);rw[CX b];exact a
theorem LV{l:bR}{m:ar}(h:m∈eW l):bB m=true/\∀c∈aP m,c∈l:=PT (wq.1 h)
theorem DV{m:ar}(a:bB m=true):0<cD (bo m):=by
 have:=Ky a;have:0<(bo m).length:=List.length_pos_iff.2 this;unfold cD;omega
theorem Is{l:bR}{m:ar}(h:bB m=true)(j:∀c∈l,∀g,bU c=some g->g.seq=m.seq->c∈aP m){g:Pg}(f:g∈l.filterMap bU)(e:g.seq=m.seq):∃i,i<cD (bo m)/\g=lm m i:=by
 obtain⟨c,d,a⟩:=yf.1 f;have:=j c d g a e;rw[jm]at this;obtain⟨i,b,rfl⟩:=qE.1 this;have b:=qF.1 b;rw[kK h b]at a;injection a with a
 exact⟨i,b,a.symm⟩
theorem xC{l:bR}{m:ar}(d:bB m=true)(e:∀c∈aP m,c∈l)(f:∀c∈l,∀g,bU c=some g->g.seq=m.seq->c∈aP m):
  ∀n,n<cD (bo m)->gX (l.filterMap bU) (lm m 0) n=some ((qD (n+1)).map (lm m))
 |0,_=>rfl
 |n+1,hn=>by
  unfold gX;rw[xC d e f n (by omega)];dsimp only;have a:lm m (n+1)∈l.filterMap bU:=yf.2 ⟨_,e _ (by rw[jm];exact qE.2 ⟨n+1,qF.2 hn,rfl⟩),kK d hn⟩;cases hf:(l.filterMap bU).find? (pf (lm m 0) ((n+1:Nat):Int))with
  |none=>
   exfalso;have:=yB.1 hf _ a;exact this (decide_eq_true ⟨rfl,rfl,rfl⟩)
  |some x=>
   have o:=List.find?_some hf;have h:=yS hf;obtain⟨k,p,j⟩:=of_decide_eq_true o;obtain⟨i,q,rfl⟩:=Is d f h k;have b:i=n+1:=y0.1 j;subst b;dsimp only;rw[zE (n:=n+1),za];rfl
theorem Uw{l:bR}{m:ar}(d:bB m=true)(o:∀c∈aP m,c∈l)(r:∀c∈l,∀g,bU c=some g->g.seq=m.seq->c∈aP m):m∈eW l:=by
 have n:=DV d;unfold eW;rw[wq];have j:it (l.filterMap bU) (lm m 0)=some ((qD (cD (bo m))).map (lm m)):=by
  unfold it;have f:(lm m 0).many=((cD (bo m):Nat):Int):=rfl;rw[f,if_neg (show¬((cD (bo m):Nat):Int)<=0 by omega),qq];have:=xC d o r (cD (bo m)-1) (by omega);rw[show cD (bo m)-1+1=cD (bo m)by omega]at this;exact this
 have a:lm m 0∈l.filterMap bU:=yf.2 ⟨_,o _ (by rw[jm];exact qE.2 ⟨0,qF.2 n,rfl⟩),kK d n⟩;obtain⟨pages,e⟩:∃pages,pages=l.filterMap bU:=⟨_,rfl⟩
 rw[<-e]at j a⊢;have i:∀(xs:List Pg) (out:List ar),(∀y∈out,bB y=true)->lm m 0∈xs->m∈xs.foldl (cP pages) out:=by
  intro xs
  induction xs with
  |nil=>intro out _ h;cases h
  |cons x xs ih=>
   intro out k h;rw[zA];rcases zj.1 h with rfl|h
   ·refine xB xs ?_;unfold cP;rw[if_neg (show¬(lm m 0).num≠0 from fun h=>h rfl),j];dsimp only;rw[LU d];dsimp only;split
    ·rename_i q;obtain⟨y,b,p⟩:=yu.1 q;rw[Ir d (k y b) (of_decide_eq_true p).symm];exact b
    ·exact wQ _ (qB.2 rfl)
   ·refine ih _ (fun y b=>?_) h;rcases Bu b with b|⟨s,_,hw⟩
    ·exact k y b
    ·exact(CZ hw).1
 exact i pages [] (by simp) a
theorem Sn{l:bR}{m b:ar}(n:bB m=true)(t:∀c∈l,∀g,bU c=some g->g.seq=m.seq->c∈aP m)(h:b∈eW l)(s:b.seq=m.seq):b=m:=by
 obtain⟨f,o⟩:=LV h;have d:∀i,i<cD (bo b)->i<cD (bo m)/\lm b i=lm m i:=fun i e=>by
  have r:(lm b i).cell∈aP b:=by rw[jm];exact qE.2 ⟨i,qF.2 e,rfl⟩
  obtain⟨j,q,k⟩:=Is (l:=l) n t (yf.2 ⟨_,o _ r,kK f e⟩) s;have:i=j:=y0.1 (congrArg Pg.num k);subst this;exact⟨q,k⟩
 have p:=DV f;have a:cD (bo b)=cD (bo m):=y0.1 (congrArg Pg.many (d 0 p).2);refine Ir f n ?_;rw[<-Bt b,<-Bt m,a];congr 1;exact List.map_congr_left fun i e=>(d i (by rw[a];exact qF.1 e)).2
def fk(o:Option ar)(x:ar):Option ar:=match o with
 |none=>some x
 |some m=>if m.seq<x.seq then some x else some m
def fM(d:Option bf):List ar:=match d with
 |none=>[]
 |some d=>if d.lost then[]else eW d.l
def gj(ds:aS):Option ar:=(ds.flatMap fM).foldl fk none
theorem FW:∀(l:List ar) (o:Option ar),((l.foldl fk o=none↔l=[]/\o=none))/\∀m,l.foldl fk o=some m->(some m=o∨m∈l)/\(∀x∈l,x.seq<=m.seq)/\∀x,o=some x->x.seq<=m.seq
 |[],o=>⟨by simp,fun m h=>⟨.inl h.symm,by simp,fun x a=>by rw[List.foldl_nil,a]at h;injection h with h;rw[h];exact Int.le_refl _⟩⟩
 |y::l,o=>by
  obtain⟨f,c⟩:=FW l (fk o y);rw[zA];have d:fk o y≠none:=by unfold fk;cases o with|none=>simp|some m=>dsimp only;split<;>simp
  refine⟨⟨fun h=>absurd (f.1 h).2 d,fun h=>by cases h.1⟩,fun m h=>?_⟩;obtain⟨b,a2,a3⟩:=c m h;cases o with
  |none=>
   have e:fk none y=some y:=rfl;rw[e]at b a3;refine⟨.inr ?_,fun x a=>?_,fun x a=>by cases a⟩
   ·rcases b with b|b
    ·injection b with b;rw[b];exact qT
    ·exact q0 _ b
   ·rcases zj.1 a with rfl|a
    ·exact a3 _ rfl
    ·exact a2 x a
  |some z=>
   by_cases g:z.seq<y.seq
   ·have e:fk (some z) y=some y:=by unfold fk;dsimp only;rw[if_pos g]
    rw[e]at b a3;have:=a3 y rfl;refine⟨.inr ?_,fun x a=>?_,fun x a=>by injection a with a;subst a;omega⟩
    ·rcases b with b|b
     ·injection b with b;rw[b];exact qT
     ·exact q0 _ b
    ·rcases zj.1 a with rfl|a
     ·exact this
     ·exact a2 x a
   ·have e:fk (some z) y=some z:=by unfold fk;dsimp only;rw[if_neg g]
    rw[e]at b a3;have:=a3 z rfl;refine⟨?_,fun x a=>?_,fun x a=>by injection a with a;subst a;omega⟩
    ·rcases b with b|b
     ·exact .inl b
     ·exact .inr (q0 _ b)
    ·rcases zj.1 a with rfl|a
     ·omega
     ·exact a2 x a
theorem So{ds:aS}{m:ar}{d:bf}(p:some d∈ds)(g:d.lost=false)(r:m∈eW d.l)(e:∀c,some c∈ds->c.lost=false->∀x∈eW c.l,x.seq<m.seq∨x=m):gj ds=some m:=by
 have b:m∈ds.flatMap fM:=zL.2 ⟨_,p,by unfold fM;dsimp only;rw[g];exact r⟩;have f:∀x∈ds.flatMap fM,x.seq<m.seq∨x=m:=fun x f=>by
  obtain⟨o,j,a⟩:=zL.1 f;cases o with
  |none=>cases a
  |some c=>
   unfold fM at a;dsimp only at a;cases hl':c.lost with
   |true=>rw[hl']at a;cases a
   |false=>rw[hl']at a;exact e c j hl' x a
 obtain⟨n,i⟩:=FW (ds.flatMap fM) none;cases hf:gj ds with
 |none=>rw[(n.1 hf).1]at b;cases b
 |some y=>
  obtain⟨q,a2,_⟩:=i y hf;have k:y∈ds.flatMap fM:=q.resolve_left (by simp);rcases f y k with h|h
  ·have:=a2 m b;omega
  ·rw[h]
end Wl
namespace Go.Qw
open Go Go.Vc Go.Proofs Wl
theorem Hi(s:Sl)(l:Row)(c:UInt8)(h:Heap)(p:Rd h s 1 aw l)(y:s.len<=s.cap)(u:l.length<=2^30):
  ac xa 228 #[s,vQ vX c.toNat] h fun v h'=>∃k:Nat,v=vR s.ptr k s.cap/\k<=l.length/\(∀j (f:j<l.length),k<=j->l[j]=c)/\(∀(d:k-1<l.length),0<k->l[k-1]≠c)/\h'=h:=by
 refine ro s _ ?_;unfold lV;have m:=p.len;refine aU ?_;refine az (fun k:Nat=>(⟨s.ptr,k,s.cap⟩:Sl)) (fun k h'=>h'=h/\k<=l.length/\∀j (f:j<l.length),k<=j->l[j]=c) (fun k=>k) l.length (by rw[<-m]) ⟨rfl,qp _,fun j f d=>by omega⟩ ?_;rintro k w ⟨rfl,d,b⟩;dsimp only;refine aU (al (fun e=>?_) (fun e=>?_))
 ·have r:0<k:=by omega
  rw[an _];refine(p.take k d).cK (g:=fun x:UInt8=>Value.int .u8 x.toNat) (k-1) (by omega) (by simp;omega) (l[k-1]'(by omega)) (by simp[aw]) ?_|>fun⟨a,ha,x,hx,hK⟩=>⟨a,ha,x.toNat,hx,hK⟩
  refine dN (fun o=>?_) (fun o=>?_)
  ·have i:l[k-1]'(by omega)=c:=by
    have:(l[k-1]'(by omega)).toNat=c.toNat:=by exact_mod_cast o
    exact yk.1 this
   refine⟨⟨by omega,by omega⟩,k-1,by congr 1;omega,⟨rfl,by omega,fun j f t=>?_⟩,by omega⟩;by_cases n:j=k-1
   ·subst n;exact i
   ·exact b j f (by omega)
  ·refine⟨k,rfl,d,b,fun _ _ q=>o (by rw[q]),rfl⟩
 ·exact⟨k,rfl,d,b,fun _ h0=>by omega,rfl⟩
theorem Jk(s:Sl)(l:Row)(c:UInt8)(h:Heap)(p:Rd h s 1 aw l)(B:s.len<=s.cap)(D:l.length<=2^30):
  ac xa 227 #[s,vQ vX c.toNat] h fun v h'=>(∃r:Sl,v=r/\(r.len=0↔∀x∈l,x=c))/\h'=h:=by
 refine sv s _ ?_;unfold mC;have w:=p.len;refine cv (fun r h'=>h'=h/\(r.len=0↔∀x∈l,x=c)) ?_ ?_
 ·refine az (fun t:Sl×Nat=>t.1) (fun t h'=>h'=h/\t.2<=l.length/\(∀j (d:j<l.length),j<t.2->l[j]=c)/\Rd h t.1 1 aw (l.drop t.2)/\t.1.len<=t.1.cap) (fun t=>l.length-t.2) (s,0) rfl ⟨rfl,by simp,fun j _ d=>by omega,by simpa using p,B⟩ ?_;rintro⟨r,k⟩ y ⟨rfl,E,a,b,f⟩;dsimp only at*;have m:=b.len;rw[qV]at m;refine aU (al (fun e=>?_) (fun e=>?_))
  ·have i:k<l.length:=by omega
   refine b.cK 0 rfl (by rw[qV];omega) _ rfl ?_;have A:(l.drop k)[0]'(by rw[qV];omega)=l[k]:=by simp
   rw[A];refine dN (fun o=>?_) (fun o=>?_)
   ·have g:l[k]=c:=by
     have:(l[k]).toNat=c.toNat:=by exact_mod_cast o
     exact yk.1 this
    refine⟨⟨by omega,by omega⟩,(⟨if r.cap=1 then r.ptr else r.ptr.map (·.add (1*1)),r.len-1,r.cap-1⟩,k+1),rfl,⟨rfl,by omega,fun j d n=>?_,?_,by dsimp only;omega⟩,by dsimp only;omega⟩
    ·rcases zQ.1 n with h2|rfl
     ·exact a j d h2
     ·exact g
    ·have:=b.drop 1 f;rw[zq]at this;exact this
   ·refine⟨rfl,⟨fun h0=>by omega,fun q=>absurd ?_ o⟩⟩;rw[q _ (qn i)]
  ·have z:k=l.length:=by omega
   refine⟨rfl,⟨fun _ x u=>?_,fun _=>by show r.len=0;omega⟩⟩;obtain⟨j,d,rfl⟩:=qN u;exact a j d (by omega)
 ·rintro r y ⟨rfl,b⟩;refine dN (fun e=>?_) (fun e=>?_)
  ·exact⟨⟨⟨none,0,0⟩,rfl,by rw[<-b];exact⟨fun _=>by omega,fun _=>rfl⟩⟩,rfl⟩
  ·exact⟨⟨r,rfl,b⟩,rfl⟩
theorem Sq(s:Sl)(l:Row)(cut:ByteArray)(b:cut=⟨#[0]⟩)(h:Heap)(d:Rd h s 1 aw l)(q:s.len<=s.cap)(f:l.length<=2^30):
  ac xa 205 #[s,vT cut] h fun v h'=>(∃r:Sl,v=r/\(r.len=0↔∀x∈l,x=0))/\h'=h:=by
 subst b;refine GO s _ ?_;unfold AL;have m:=d.len;refine dN (fun e=>?_) (fun e=>?_)
 ·refine⟨⟨⟨none,0,0⟩,rfl,⟨fun _ x a=>?_,fun _=>rfl⟩⟩,rfl⟩;have:l=[]:=List.eq_nil_of_length_eq_zero (by omega);subst this;cases a
 ·refine xU (by decide+kernel) (aU (JN (by decide+kernel) ?_));refine⟨0,⟨by decide,rfl⟩,JN (by decide) ?_⟩;refine⟨0,⟨by decide,rfl⟩,0,⟨by decide,rfl⟩,?_⟩;refine(Hi s l 0 h d q f).mono ?_;rintro v n ⟨k,rfl,o,g,h3,rfl⟩;refine⟨⟨s.ptr,k,s.cap⟩,rfl,trivial,?_⟩;refine(Jk ⟨s.ptr,k,s.cap⟩ (l.take k) 0 n (d.take k o) (by show k<=s.cap;omega) (by simp;omega)).mono ?_;rintro v u ⟨⟨r,rfl,i⟩,rfl⟩;refine⟨r,rfl,trivial,⟨r,rfl,i.trans ⟨fun c x a=>?_,fun c x a=>c x (wV a)⟩⟩,rfl⟩;obtain⟨j,p,rfl⟩:=qN a;by_cases t:j<k
  ·exact c _ (by rw[List.mem_take_iff_getElem];exact⟨j,by omega,rfl⟩)
  ·exact g j p (by omega)
def qv(x:Sl×Sl):aQ:=[x.1,x.2]
def PU:jf (Sl×Sl) jI:=⟨fun h q a e=>Seq h q a.1 1 aE e.1/\Seq h q a.2 1 aw e.2,fun a c=>⟨a.1.ah c,a.2.ah c⟩,fun a b=>⟨a.1.mono b,a.2.mono b⟩⟩
abbrev Vw:jf Sl (List jI):=cS PU 2 qv
theorem Vw.get{h:Heap}{q:ap}{s:Sl}{L:List jI}(x:Vw.p h q s L){i:Int}(n:Nat)(c:i=n)(e:n<L.length){K:Sl×Sl->Prop}(b:∀r,PU.p h q r L[n]->K r):
  ∃a:Addr,(s.ptr=some a/\0<=i/\i<((s.len:Nat):Int))/\∃x:Sl×Sl,ai h (a.add (i.toNat*2)) 0 [x.1,x.2]/\K x:=by
 obtain⟨rs,d,f,h3⟩:=cS.Em x;exact d.dE (g:=qv) n c (by omega) (rs[n]'(by omega)) rfl (b _ (h3 n (by omega) e))
theorem aa.ic{B:ap}{g h:Heap}{As:List HP}{e o:Nat}{a b:Sl}{l:aD}{r:Row}(H:aa B g h As)(i j:Nat)(d:i≠j)(n:As[i]?=some (aj e a 1 aE l))(m:As[j]?=some (aj o b 1 aw r)):aa B g h ((As.set i (EA PU (a,b) (l,r))).set j emp):=
 H.merge i j d n m fun q p _ k f=>⟨k.1.seq (fun _=>rfl) fun x c=>.inl (k.2 x c),f.1.seq (fun _=>rfl) fun x c=>.inr (f.2 x c)⟩
def Vx(pool:List (Sl×Row)):HP:=⟨fun h q=>∀x∈pool,Seq h q x.1 1 aw x.2,fun a d x b=>(a x b).ah d,fun a c x b=>(a x b).mono c⟩
theorem _root_.Go.Vc.aa.pool{B:ap}{c h:Heap}{As:List HP}(H:aa B c h As)(i j:Nat)(b:i≠j){pool:List (Sl×Row)}{r:Sl}{l:Row}(g:As[i]?=some (Vx pool))(f:As[j]?=some (jo r 1 aw l)):aa B c h ((As.set i (Vx ((r,l)::pool))).set j emp):=
 H.merge i j b g f fun m k _ e d x a=>by
  rcases zj.1 a with rfl|a
  ·exact Seq.mono d fun _ h=>.inr h
  ·exact(e x a).mono fun _ h=>.inl h
def ie(pool:List (Sl×Row))(g:Row->Row)(rs:List Sl)(m:aX):Prop:=rs.length=m.length/\∀(i:Nat) r l,rs[i]?=some r->m[i]?=some l->(r,g l)∈pool
theorem ie.get{pool:List (Sl×Row)}{g:Row->Row}{rs:List Sl}{m:aX}(h:ie pool g rs m){i:Nat}(a:i<m.length):(rs[i]'(by rw[h.1];exact a),g m[i])∈pool:=
 h.2 i _ _ (qd _) (qd _)
theorem ie.mono{pool a:List (Sl×Row)}{g:Row->Row}{rs:List Sl}{m:aX}(h:ie pool g rs m)(d:∀x∈pool,x∈a):ie a g rs m:=⟨h.1,fun i r l c b=>d _ (h.2 i r l c b)⟩
theorem ie.set{pool:List (Sl×Row)}{g:Row->Row}{rs:List Sl}{m:aX}(h:ie pool g rs m)(i:Nat){r:Sl}{l:Row}(j:(r,g l)∈pool):ie pool g (rs.set i r) (m.set i l):=by
 refine⟨by simp[h.1],fun k e f a b=>?_⟩;rw[qW]at a b;by_cases c:i=k
 ·subst c;rw[if_pos rfl]at a b;split at a
  ·rename_i d;rw[if_pos (by rw[<-h.1];exact d)]at b;cases a;cases b;exact j
  ·cases a
 ·rw[if_neg c]at a b;exact h.2 k e f a b
theorem ie.snoc{pool:List (Sl×Row)}{g:Row->Row}{rs:List Sl}{m:aX}(h:ie pool g rs m){r:Sl}{l:Row}(f:(r,g l)∈pool):ie pool g (rs++[r]) (m++[l]):=by
 refine⟨by simp[h.1],fun k d e b a=>?_⟩;by_cases c:k<rs.length
 ·rw[ql c]at b;rw[ql (by rw[<-h.1];exact c)]at a;exact h.2 k d e b a
 ·have:k=rs.length:=by
   have:=(qk.1 b).1;simp at this;omega
  subst this;simp at b;rw[h.1]at a;simp at a;subst b;subst a;exact f
theorem ie.nil(pool:List (Sl×Row))(g:Row->Row):ie pool g [] []:=⟨rfl,fun i r l h=>by simp at h⟩
structure YN (h:Heap) (s f:Addr) (wa mo:Sl) (wr mr:List Sl) (W M:aX):Prop where
 fld:cellOf h s=some (vS (some f))
 way:cellOf h (s.add 9)=some (vR wa.ptr wa.len wa.cap)
 more:cellOf h (s.add 10)=some (vR mo.ptr mo.len mo.cap)
 field:ib h f
 rW:fv h (fun b=>b<h.size) wa 1 aw W wr
 rM:fv h (fun b=>b<h.size) mo 1 aw M mr
structure PW (h:Heap) (p:ap) (a:Addr) (l o u:Sl) (rows:Oq) (rs:List Sl) (op us:List Bool):Prop where
 c0:cellOf h a=some (vR l.ptr l.len l.cap)
 c1:cellOf h (a.add 1)=some (vR o.ptr o.len o.cap)
 c2:cellOf h (a.add 2)=some (vR u.ptr u.len u.cap)
 blk:p a.block
 sRows:fv h p l 1 aE rows rs
 sOp:Seq h p o 1 UP op
 sUs:Seq h p u 1 UP us
 ulen:us.length=rows.length
 fp:∀r∈rows,∀c∈r,0<=c/\c<op.length
 short:∀r∈rows,r.length<=64
theorem PW.ah{h d:Heap}{p:ap}{a:Addr}{l o u:Sl}{rows:Oq}{rs:List Sl}{e f:List Bool}(c:PW h p a l o u rows rs e f)(k:aG p h d):PW d p a l o u rows rs e f:=by
 have b:∀n,(a.add n).block=a.block:=fun n=>by unfold Addr.add;split<;>rfl
 exact⟨k.cell c.blk c.c0,k.cell (by rw[b];exact c.blk) c.c1,k.cell (by rw[b];exact c.blk) c.c2,c.blk,c.sRows.ah k,c.sOp.ah k,c.sUs.ah k,c.ulen,c.fp,c.short⟩
def Ys(p:Int×Int):aQ:=[vQ vW p.1,vQ vW p.2]
structure YP (h:Heap) (f:Addr) (r st dd lf:Sl) (rr:List (Sl×Sl)) (R:List jI) (ST:List (Int×Int)) (D L:aD):Prop where
 field:ib h f
 rest:mO PU 2 qv h r rr R
 steps:Rd h st 2 Ys ST
 dead:Rd h dd 1 aE D
 left:Rd h lf 1 aE L
section
variable {B:ap} {h0 h:Heap} {As:List HP}
end
section
variable {B:ap} {h0 h:Heap} {As:List HP}
end
section
variable {B:ap} {h0 h:Heap} {As:List HP}
structure LW (pool pl:List (Sl×Row)) (wr mr:List Sl) (W M:aX):Prop where
 sub:∀x∈pool,x∈pl
 way:ie pl id wr W
 more:ie pl id mr M
theorem LW.step{pool e:List (Sl×Row)}{f g:List Sl}{W M:aX}(x:LW pool e f g W M)(c:Nat)(a b:Sl)(l m:Row):LW pool ((b,m)::(a,l)::e) (f.set c a) (g.set c b) (W.set c l) (M.set c m):=
 ⟨fun y d=>by simp[x.sub y d],(x.way.mono fun y d=>by simp[d]).set c (by simp),(x.more.mono fun y d=>by simp[d]).set c (by simp)⟩
end
section
variable {B:ap} {h0 h:Heap} {As:List HP}
end
section
variable {B:ap} {h0 h:Heap} {As:List HP}
end
section
variable {B:ap} {h0 h:Heap} {As:List HP}
theorem LX{α:Type}{g:α->Bool}{l:List α}{i:Nat}(h:i<l.length)(a:∀j (b:j<l.length),j<i->g l[j]=false)(c:g l[i]=true):l.findIdx g=i:=by
 rw[List.findIdx_eq h];exact⟨c,fun j b=>a j (by omega) b⟩
structure rV {α:Type} (g:α->Bool) (l l':List α) (i j:Nat):Prop where
 len:l'.length=l.length
 le:i<=j
 pre:l'.take i=(l.take j).filter fun x=>!g x
 post:l'.drop j=l.drop j
theorem rV.at_{α:Type}{g:α->Bool}{l b:List α}{i j:Nat}(x:rV g l b i j)(a:j<l.length):b[j]'(by rw[x.len];exact a)=l[j]:=by
 have h:=congrArg (fun m=>m[0]?) x.post;simp only[List.getElem?_drop,Nat.add_zero]at h;rw[qd a,qd (by rw[x.len];exact a)]at h;exact Option.some.inj h
theorem rV.keep{α:Type}{g:α->Bool}{l a:List α}{i j:Nat}(x:rV g l a i j)(b:j<l.length)(d:g l[j]=false):rV g l (a.set i l[j]) (i+1) (j+1):=by
 have f:=x.len;have e:=x.le;refine⟨by simp[f],by omega,?_,?_⟩
 ·rw[aK _ _ (by simp;omega),List.getElem_set_self,List.take_set_of_le (qp _),x.pre,aK _ _ b,zn,zx,d];rfl
 ·rw[List.drop_set_of_lt (by omega)];have c:=congrArg (List.drop 1) x.post;simpa[zq]using c
theorem rV.skip{α:Type}{g:α->Bool}{l a:List α}{i j:Nat}(x:rV g l a i j)(b:j<l.length)(d:g l[j]=true):rV g l a i (j+1):=by
 have f:=x.len;have e:=x.le;refine⟨f,by omega,?_,?_⟩
 ·rw[x.pre,aK _ _ b,zn,zx,d];simp
 ·have c:=congrArg (List.drop 1) x.post;simpa[zq]using c
end
section
variable {B:ap} {h0 h:Heap} {As:List HP}
end
section
variable {B:ap} {h0 h:Heap} {As:List HP}
end
section
variable {B:ap} {h0 h:Heap} {As:List HP}
end
end Go.Qw
namespace Wl
def Jx(p:Int×Int×Int)(x:Int×Row):Bool:=cg x.1&&decide ((x.2.length:Int)=p.2.2)
theorem Sr{p:Int×Int×Int}{x:Int×Row}(c:bV p=true):Jx p x=true↔EF p x:=by
 have:=(cb p).1 c;unfold Jx;rw[qz,decide_eq_true_iff];exact⟨fun⟨a,b⟩=>⟨a,by omega⟩,fun h=>⟨h.id,by have:=h.len;omega⟩⟩
def Ux(p:Int×Int×Int)(seed:Int)(X:aX)(i:Nat):Row:=(qD i).flatMap fun j:Nat=>fA p.2.2.toNat X (eO (cG p).toNat seed (j:Int))
open Classical in
noncomputable def XT(p:Int×Int×Int)(seed:Int)(l:List (Int×Row)):Row×Int:=
 if bV p&&l.all (Jx p)then
  if jt p seed (l.map qx)then
   if Ju (cG p).toNat (eI p seed (l.map qx)) (uB p l)then(Ux p seed (ju (cG p).toNat (eI p seed (l.map qx)) (uB p l)) p.1.toNat,0)else([],10)
  else([],9)
 else([],1)
end Wl
namespace Go.Qw
open Go Go.Vc Go.Proofs Wl
end Go.Qw
namespace Wl
section
variable {p:Int×Int×Int} {seed:Int} {d:Row} {K H w n:Nat}
def ky(p:Int×Int×Int)(seed:Int)(X:aX)(a:aD):List (Int×Row):=a.map fun i=>(i,fA p.2.2.toNat X (eO (cG p).toNat seed i))
theorem bE.size(B:bE p seed d K H w n):p.2.2.toNat=w:=by have:=B.s;omega
theorem LY(X:aX)(a:aD):(ky p seed X a).map qx=a:=by simp[ky,we,Function.comp_def]
theorem bE.Ss(B:bE p seed d K H w n){a:aD}(hid:∀i∈a,cg i=true):(ky p seed (dP p seed d) a).all (Jx p)=true:=qU.2 fun x c=>by
 obtain⟨i,b,rfl⟩:=qE.1 c;refine(Sr B.may).2 ⟨hid i b,?_⟩;dsimp only;rw[B.size,B.mj];exact B.Rf i
theorem FX{α β:Type}{f g:α->List β}:∀(l:List α),(∀x∈l,f x=g x)->l.flatMap f=l.flatMap g
 |[],_=>rfl
 |a::l,h=>by rw[zf,zf,h a (by simp),FX l fun x b=>h x (by simp[b])]
theorem It(d:Row)(w:Nat):∀i,i*w<=d.length->(qD i).flatMap (Go.Vc.xZ d w)=d.take (i*w)
 |0,_=>by simp
 |i+1,h=>by
  have e:(i+1)*w=i*w+w:=Nat.succ_mul i w;rw[zE,qY,It d w i (by omega),e,List.take_add];simp[Go.Vc.xZ]
theorem bE.out(B:bE p seed d K H w n):Ux p seed (dP p seed d) p.1.toNat=d:=by
 have b:p.1.toNat=K:=by have:=B.k;omega
 unfold Ux;rw[b,B.size,B.mj];have:(qD K).flatMap (fun j:Nat=>fA w (dP p seed d) (eO n seed (j:Int)))=(qD K).flatMap (Go.Vc.xZ d w):=by
  exact FX _ fun j a=>B.TF (qF.1 a)
 rw[this,It d w K (by rw[B.len];exact qp _),qi (by rw[B.len];exact qp _)]
theorem bE.Su(B:bE p seed d K H w n){a:aD}(hid:∀i∈a,cg i=true):Wl.kY n w (eI p seed a) (uB p (ky p seed (dP p seed d) a)) (dP p seed d):=by
 have l:a.filter cg=a:=wy.2 hid;have q:eI p seed a=bT K H++a.map (nc n seed):=by
  unfold eI;rw[B.may,if_pos rfl,l,B.mj];have o:p.1.toNat=K:=by have:=B.k;omega
  have e:p.2.1.toNat=H:=by have:=B.h;omega
  rw[o,e]
 have m:uB p (ky p seed (dP p seed d) a)=qh H (be w)++a.map fun i=>fA w (dP p seed d) (eO n seed i):=by
  unfold uB ky;have e:p.2.1.toNat=H:=by have:=B.h;omega
  rw[e,B.size,B.mj,we];rfl
 refine⟨B.nQ.1,B.nQ.2,fun i j=>?_⟩;rw[q]at j⊢;rw[m];have c:(bT K H).length=H:=by simp[bT]
 simp only[qw,qC,c]at j;by_cases b:i<H
 ·have f:aC (bT K H++a.map (nc n seed)) i=jq K H i:=by
   rw[bI (by simp;omega),y5 (by omega)];simp[bT]
  have g:aC (qh H (be w)++a.map fun i=>fA w (dP p seed d) (eO n seed i)) i=be w:=by
   rw[bI (by simp;omega),y5 (by simpa using b)];simp
  rw[f,g];exact B.low b
 ·have f:aC (bT K H++a.map (nc n seed)) i=nc n seed (a[i-H]'(by omega)):=by
   rw[bI (by simp;omega),yT (by omega)];simp[c]
  have g:aC (qh H (be w)++a.map fun i=>fA w (dP p seed d) (eO n seed i)) i=fA w (dP p seed d) (eO n seed (a[i-H]'(by omega))):=by
   rw[bI (by simp;omega),yT (by simpa using b)];simp
  rw[f,g,B.sym]
theorem Sv{l:List (Int×Row)}(c:∀x∈l,EF p x):aZ p.2.2.toNat (uB p l):=fun x a=>by
 rcases qH.1 a with a|a
 ·rw[(List.mem_replicate.1 a).2];simp[be]
 ·obtain⟨y,b,rfl⟩:=qE.1 a;exact(c y b).len
theorem Nr(b:bV p=true){l:List (Int×Row)}(a:∀x∈l,EF p x):(eI p seed (l.map qx)).length=(uB p l).length:=by
 rw[<-Ym (n:=(cG p).toNat) (seed:=seed) b rfl a,<-Yn (n:=(cG p).toNat) (seed:=seed) (p:=p) (l:=l) rfl];exact Wd
theorem Sw(b:bV p=true){a:aD}:jt p seed a=true↔cU (eI p seed a)=(cG p).toNat:=by
 have:=Dp b;have:=(cb p).1 b;unfold jt Jt;rw[b,z8];simp;omega
theorem bE.dec(B:bE p seed d K H w n){a:aD}(hid:∀i∈a,cg i=true)(c:jt p seed a=true):XT p seed (ky p seed (dP p seed d) a)=(d,0):=by
 have b:∀x∈ky p seed (dP p seed d) a,EF p x:=fun x h=>(Sr B.may).1 (qU.1 (B.Ss hid) x h);have j:=B.Su hid;have e:=Nr (seed:=seed) B.may b;rw[LY]at e;have g:=(Sw B.may).1 c;have f:=uu e (Ah p seed a) (Sv b) g (by rw[B.mj,B.size];exact j);unfold XT;rw[B.may,B.Ss hid,LY,c];simp only[Bool.and_self,if_true];rw[if_pos f.2,<-f.1,B.out]
end
end Wl
namespace Go.Qw
open Go Go.Vc Go.Proofs Wl
end Go.Qw
namespace Wl
section
variable {p:Int×Int×Int} {seed:Int} {d:Row} {K H w n:Nat}
end
section
variable {p:Int×Int×Int} {seed:Int} {d:Row} {K H w n:Nat}
end
end Wl
namespace Go.Qw
open Go Go.Vc Go.Proofs Wl
theorem oT{m:ar}{r:di}:ff m r=true↔hF r=true/\r.p=m.p/\∃x∈m.aH,x.object=r.object/\r.block<(x.tries.length:Int)/\r.seed=iy r.object r.block (x.tries.getD r.block.toNat 0):=by
 unfold ff;rw[qz,qz,decide_eq_true_eq,yu];simp only[qz,decide_eq_true_eq]
def vf(m:ar)(C:Int->aL)(o b:Int):aL:=(aT m.p (C o)).getD b.toNat []
def LZ(m:ar)(C:Int->aL)(r:di):Prop:=r.data=sE m.p r.seed (vf m C r.object r.block) r.id
structure eC (m:ar) (C:Int->aL) (c:aL):Prop where
 old:∀r,dJ c=some r->r.object<m.next
 tru:∀r,dJ c=some r->ff m r=true->LZ m C r
 page:∀g,bU c=some g->g.seq<=m.seq/\(g.seq=m.seq->c∈aP m)
theorem Sx{m:ar}{l:bR}{r:di}(h:r∈mg m l):dp r∈l/\dJ (dp r)=some r/\ff m r=true:=by
 obtain⟨c,b,a,d⟩:=FP h;rw[(OL a).1];exact⟨b,a,d⟩
theorem tW{n:ar}(C:Int->aL){c:aL}(e:bB n=true)(h:c∈aP n):eC n C c:=by
 have h0:=Mx h;refine⟨fun r a=>(by rw[h0]at a;cases a),fun r a _=>(by rw[h0]at a;cases a),fun g b=>?_⟩;rw[jm]at h;obtain⟨i,d,rfl⟩:=qE.1 h;rw[kK e (qF.1 d)]at b;injection b with b
 subst b;exact⟨Int.le_refl _,fun _=>by rw[jm];exact qE.2 ⟨i,d,rfl⟩⟩
theorem Wz{m:ar}{C:Int->aL}{l:bR}(e:bB m=true)(d:∀c∈l,eC m C c):∀c∈eU m l,eC m C c:=fun c a=>by
 rcases qH.1 a with h|h
 ·exact tW C e h
 ·obtain⟨r,b,rfl⟩:=qE.1 h;exact d _ (Sx b).1
theorem WA{m:ar}{C:Int->aL}{d:bf}{N:Int}(e:bB m=true)(b:∀c∈d.l,eC m C c):∀c∈(ik m d N).l,eC m C c:=fun c a=>by
 unfold ik at a;split at a
 ·exact b c a
 ·exact Wz e b c a
theorem FY{r:di}(h:hF r=true):bU (dp r)=none:=by
 have a:=lM h;unfold bU dp;rw[if_pos h,rA];dsimp only;rw[if_neg (by rintro⟨h,_⟩;exact absurd h (by decide))]
theorem PX{m n:ar}{C D:Int->aL}{o b:Int}(a:n.p=m.p)(h:D o=C o):vf n D o b=vf m C o b:=by unfold vf;rw[a,h]
theorem LZ.congr{m n:ar}{C D:Int->aL}{r:di}(a:n.p=m.p)(b:D r.object=C r.object)(h:LZ m C r):LZ n D r:=by
 unfold LZ at h⊢;rw[PX a b,a];exact h
theorem PY{m n:ar}{r:di}(e:n.p=m.p)(a:∀x∈n.aH,x∈m.aH)(h:ff n r=true):ff m r=true:=by
 obtain⟨d,b,x,c,h3⟩:=oT.1 h;exact oT.2 ⟨d,by rw[b,e],x,a x c,h3⟩
theorem eC.next{m n:ar}{C:Int->aL}{c:aL}(h:eC m C c)(d:n.p=m.p)(j:m.next<=n.next)(k:m.seq<n.seq)(a:∀x∈n.aH,x∈m.aH):eC n C c:=
 ⟨fun r b=>by have:=h.old r b;omega,fun r b f=>(h.tru r b (PY d a f)).congr d rfl,fun g i=>by have:=(h.page g i).1;exact⟨by omega,fun e=>by omega⟩⟩
def nt(C:Int->aL)(o:Int)(b:aL):Int->aL:=fun k=>if k=o then b else C k
theorem eC.with{m:ar}{C:Int->aL}{e:Wl.cE}{b c:aL}(h:eC m C c)(o:e.object=m.next):eC (dK m e) (nt C m.next b) c:=by
 refine⟨fun r a=>?_,fun r a l=>?_,fun g i=>?_⟩
 ·have:=h.old r a;show r.object<m.next+1;omega
 ·have f:=h.old r a;obtain⟨k,j,x,d,h3,n⟩:=oT.1 l;rcases DU.1 d with d|rfl
  ·refine(h.tru r a (oT.2 ⟨k,j,x,d,h3,n⟩)).congr (m:=m) rfl ?_;unfold nt;rw[if_neg (by omega)]
  ·omega
 ·have:=(h.page g i).1;show g.seq<=m.seq+1/\(g.seq=m.seq+1->_)
  exact⟨by omega,fun e=>by omega⟩
theorem XU{m:ar}{C:Int->aL}{e:Wl.cE}{b:aL}{seed:Int}{i id:Nat}(d:0<=seed/\seed<4294967296)(c:hF (uW m m.next i seed ((aT m.p b).getD i []) id)=true):
  eC (dK m e) (nt C m.next b) (dp (uW m m.next i seed ((aT m.p b).getD i []) id)):=by
 have a:=QP c d;refine⟨fun r h=>?_,fun r h f=>?_,fun g h=>?_⟩
 ·rw[a]at h;injection h with h;subst h
  show m.next<m.next+1;omega
 ·rw[a]at h;injection h with h;subst h
  have eb:vf (dK m e) (nt C m.next b) m.next (i:Int)=(aT m.p b).getD i []:=by
   unfold vf nt;rw[if_pos rfl,qq];rfl
  show sE m.p seed ((aT m.p b).getD i []) id=sE (dK m e).p seed (vf (dK m e) (nt C m.next b) m.next (i:Int)) id;rw[eb];rfl
 ·rw[FY c]at h;cases h
structure Ma (m:ar) (C:Int->aL) (ds:aS):Prop where
 may:bB m=true
 len:ds.length=64
 cells:∀k d,bs ds k=some d->∀c∈d.l,eC m C c
 ents:∀e∈m.aH,((C e.object).length:Int)=e.length/\ck m.p e.object (aT m.p (C e.object)).length=some e.tries
theorem Ma.old{m:ar}{C:Int->aL}{ds:aS}(S:Ma m C ds){e:Wl.cE}(a:e∈m.aH):e.object<m.next:=((kg m e).1 (((dQ m).1 S.may).2.2.2.2.1 e a)).2.1.2
theorem Uy{ds b:aS}{f:Int->bf->bf}(h:∀k,bs b k=(bs ds k).map (f k)){k:Int}{d:bf}(a:bs b k=some d):∃c,bs ds k=some c/\d=f k c:=by
 rw[h]at a;cases h0:bs ds k with
 |none=>rw[h0]at a;cases a
 |some c=>rw[h0]at a;injection a with a;exact⟨c,rfl,a.symm⟩
theorem WB{n:ar}{C:Int->aL}{b:bR}{d:bf}(f:∀c∈d.l,eC n C c)(e:∀c∈b,eC n C c):∀c∈(eV b d).l,eC n C c:=fun c a=>by
 rw[LR]at a;rcases qH.1 a with h|h
 ·exact f c h
 ·exact e c h
def PZ(m:ar)(ds:aS)(t:aD)(b:aL)(n:ar)(k:Int)(d:bf):bf:=
 if k∈bS ds m.drives then eV ((fj m m.next t (aT m.p b) (bS ds m.drives) k (aT m.p b).length).map dp++aP n) (ik m d (gM (aP n).length (cI m m.next t (aT m.p b) (bS ds m.drives) (aT m.p b).length) k))else d
theorem WC{m:ar}{offs:Int}{w:Pow}{ds:aS}{C:Int->aL}{name:ByteArray}{b:aL}(v:w.calm)(S:Ma m C ds):
  ((∃e,e≠0/\cZ m offs w ds name b=(e,m,w,ds))/\((cZ m offs w ds name b).1=cO m (iD w offs) ds name b.length∨(cO m (iD w offs) ds name b.length=0/\((cZ m offs w ds name b).1=8/\ck m.p m.next (aT m.p b).length=none∨(cZ m offs w ds name b).1=7/\∃t,ck m.p m.next (aT m.p b).length=some t/\dZ m ds (bS ds m.drives) (gM (aP (dK m ⟨name,m.next,b.length,t⟩)).length (cI m m.next t (aT m.p b) (bS ds m.drives) (aT m.p b).length))=false))))∨
  (cO m (iD w offs) ds name b.length=0/\∃t a,ck m.p m.next (aT m.p b).length=some t/\cZ m offs w ds name b=(0,dK m ⟨name,m.next,b.length,t⟩,w,a)/\Ma (dK m ⟨name,m.next,b.length,t⟩) (nt C m.next b) a/\
   ∀k,bs a k=(bs ds k).map (PZ m ds t b (dK m ⟨name,m.next,b.length,t⟩) k)):=by
 obtain⟨z,x⟩:=Iq (offs:=offs) (name:=name) (b:=b) v S.len S.may;by_cases f:cO m (iD w offs) ds name b.length=0
 ·obtain⟨B,F⟩:=x f;cases ht:ck m.p m.next (aT m.p b).length with
  |none=>rw[B ht];exact .inl ⟨⟨8,by decide,rfl⟩,.inr ⟨f,.inl ⟨rfl,rfl⟩⟩⟩
  |some t=>
   obtain⟨g,y,H⟩:=F t ht;cases hf:dZ m ds (bS ds m.drives) (gM (aP (dK m ⟨name,m.next,b.length,t⟩)).length (cI m m.next t (aT m.p b) (bS ds m.drives) (aT m.p b).length))with
   |false=>rw[y hf];exact .inl ⟨⟨7,by decide,rfl⟩,.inr ⟨f,.inr ⟨rfl,t,rfl,hf⟩⟩⟩
   |true=>
    obtain⟨a,A,I,D⟩:=H hf;have l:∀k,bs a k=(bs ds k).map (PZ m ds t b (dK m ⟨name,m.next,b.length,t⟩) k):=D;refine .inr ⟨f,t,a,rfl,A,⟨g,I,fun k d E=>?_,fun e n=>?_⟩,l⟩
    ·obtain⟨s,h0,rfl⟩:=Uy l E;unfold PZ;split
     ·refine WB (fun c j=>(WA S.may (S.cells k s h0) c j).with rfl) fun c j=>?_;rcases qH.1 j with h|h
      ·obtain⟨r,o,rfl⟩:=qE.1 h;obtain⟨i,id,rfl,G,hid⟩:=FO o;obtain⟨K,J,z3,z4,z5⟩:=mK f;have q:=((gQ m).1 ((dQ m).1 S.may).1)
       have h8:=Hd q.2.2.1 (fun h=>z4 (.inl h));exact XU (CS _ _ _) (He S.may (by have:¬16777215<m.next:=fun h=>z5 (.inr (.inl h));omega) h8 ht G hid)
      ·exact tW _ g h
     ·exact fun c j=>(S.cells k s h0 c j).with rfl
    ·rcases DU.1 n with n|rfl
     ·have u:=S.old n;have:nt C m.next b e.object=C e.object:=by unfold nt;rw[if_neg (by omega)]
      rw[this];exact S.ents e n
     ·have:nt C m.next b m.next=b:=by unfold nt;rw[if_pos rfl]
      show((nt C m.next b m.next).length:Int)=(b.length:Int)/\ck m.p m.next (aT m.p (nt C m.next b m.next)).length=some t;rw[this];exact⟨rfl,ht⟩
 ·rw[z f];exact .inl ⟨⟨_,f,rfl⟩,.inl rfl⟩
section
variable {B:ap} {h0 h:Heap} {As:List HP}
def rX(s:Sl)(n:Nat):Sl:=⟨if s.cap=n then s.ptr else s.ptr.map (·.add (n*1)),s.len-n,s.cap-n⟩
theorem FZ{a:Addr}{s:Sl}{f:Bool}{n:Int}(c:0<=n)(g:s.len<=s.cap)(H:aa B h0 h (ag a 286 [s,vU f]::As)):
  ac xa 247 #[vS (some a),vQ vW n] h fun v h'=>
   (n<=s.len/\v=vR s.ptr n.toNat s.cap/\aa B h0 h' (ag a 286 [.slice (rX s n.toNat).ptr (rX s n.toNat).len (rX s n.toNat).cap,vU f]::As))∨
   ((s.len:Int)<n/\v=vR none 0 0/\aa B h0 h' (ag a 286 [s,vU true]::As)):=by
 refine uO (some a) n ?_;unfold oh;refine⟨a,rfl,s,(H.box 0 rfl).cell0 rfl,al (fun e=>?_) (fun e=>?_)⟩
 ·refine⟨a,rfl,H.store af 0 rfl rfl 1 [vU true] rfl rfl rfl (by simp) fun d b=>.inr ⟨e,rfl,b⟩⟩
 ·refine⟨a,rfl,s,(H.box 0 rfl).cell0 rfl,⟨c,by omega⟩,a,rfl,s,(H.box 0 rfl).cell0 rfl,⟨c,by omega⟩,a,rfl,?_⟩;refine H.pk af 0 rfl rfl [.slice (rX s n.toNat).ptr (rX s n.toNat).len (rX s n.toNat).cap] rfl rfl rfl (by simp) fun d b=>Or.inl ⟨by omega,rfl,b⟩
theorem rY(l:aL):fZ l=cy l:=rfl
theorem Mb{s:Sl}{l:aL}(j:Rd h s 1 aw l)(v:l.length<=4){R:ug}(p:R (vQ vW (fZ l)) h):
  aN (σ:=Int×Int) (fun b K1 d=>
 Br (decide (b.2<((s.len:Nat):Int)))
 (∃a3:Addr,(s.ptr=some a3/\0<=b.2/\b.2<((s.len:Nat):Int))/\
 ∃g:Int,cellOf d (a3.add (b.2.toNat*1))=some (vQ vX g)/\
 (0<=(8:Int))/\
 K1 (qc vW ((qy (qj vW) (qc vW (b.1*2^min (8:Int).toNat (qj vW)))|||(qy (qj vW) (qc vW g))).toNat:Nat),qc vW (b.2+(1:Int))) d)
 (R (vQ vW b.1) d)) ((0:Int),(0:Int)) h:=by
 have r:=j.len;refine az (τ:=Nat) (fun i=>(fZ (l.take i),(i:Int))) (fun i h'=>i<=l.length/\h'=h) (fun i=>l.length-i) 0 (by simp[fZ]) ⟨zo _,rfl⟩ ?_;rintro i h' ⟨u,rfl⟩;refine al (fun e=>?_) (fun e=>?_)
 ·have a:i<l.length:=by simp only at e;omega
  refine j.kA i rfl a ((l.getD i 0).toNat:Int) (by rw[getD_lt a];rfl) fun t m=>⟨by decide,i+1,?_,⟨a,rfl⟩,by omega⟩
  have o:=uQ (l.take i) (by simp;omega);have c:=o.2.2 (by simp;omega);obtain⟨n,f⟩:∃n:Nat,fZ (l.take i)=(n:Int):=⟨(fZ (l.take i)).toNat,by rw[rY];omega⟩
  rw[<-rY,f]at c;have k:=(l.getD i 0).toNat_lt;show(_,_)=(_,_)
  rw[f,Le n _ (by omega) k,an _];have q:l.take (i+1)=l.take i++[l.getD i 0]:=by rw[getD_lt a];simp
  rw[q,rE,f];rfl
 ·have:i=l.length:=by simp only at e;omega
  subst this;simpa using p
def jC(s:Sl)(n:Int):Sl:=if n<=s.len then rX s n.toNat else s
theorem Sy{a:Addr}{s:Sl}{f:Bool}{n:Int}{l:aL}(k:0<=n)(o:n<=4)(g:s.len<=s.cap)(d:∀j h',aa B h0 h' (ag a 286 j::As)->Rd h' s 1 aw l)
  (H:aa B h0 h (ag a 286 [s,vU f]::As)):
  ac xa 234 #[vS (some a),vQ vW n] h fun v h'=>
   v=vQ vW (bA (l,f) n).1/\aa B h0 h' (ag a 286 [.slice (jC s n).ptr (jC s n).len (jC s n).cap,vU (bA (l,f) n).2.2]::As):=by
 have c:=(d _ _ H).len;refine sw (some a) n ?_;unfold mD;refine(FZ k g H).mono ?_;rintro v m (⟨e,rfl,H1⟩|⟨e,rfl,H1⟩)
 ·have i:=(d _ _ H1).take n.toNat (by omega);refine⟨⟨s.ptr,n.toNat,s.cap⟩,rfl,?_⟩;refine Mb (s:=⟨s.ptr,n.toNat,s.cap⟩) (R:=fun v h'=>v=vQ vW (bA (l,f) n).1/\aa B h0 h' (ag a 286 [.slice (jC s n).ptr (jC s n).len (jC s n).cap,vU (bA (l,f) n).2.2]::As)) i (by simp;omega) ?_;have b:fa (l,f) n=(l.take n.toNat,(l.drop n.toNat,f)):=by unfold fa;rw[if_pos (show n<=((l.length:Nat):Int)by omega)]
  unfold bA jC;rw[b,if_pos e];exact⟨rfl,H1⟩
 ·refine⟨⟨none,0,0⟩,rfl,?_⟩;refine Mb (s:=⟨none,0,0⟩) (l:=[]) (R:=fun v h'=>v=vQ vW (bA (l,f) n).1/\aa B h0 h' (ag a 286 [.slice (jC s n).ptr (jC s n).len (jC s n).cap,vU (bA (l,f) n).2.2]::As)) ?_ (by simp) ?_
  ·exact Seq.nil _ _ _ _ _ _
  ·have b:fa (l,f) n=([],(l,true)):=by unfold fa;rw[if_neg (show¬n<=((l.length:Nat):Int)by omega)]
   unfold bA jC;rw[b,if_neg (by omega)];exact⟨rfl,H1⟩
end
end Go.Qw
namespace Wl
open Go
theorem Qa(l:aL):0<=fZ l/\fZ l<256^l.length:=by
 have c:∀(n:Nat) (l:aL),l.length=n->0<=fZ l/\fZ l<256^n:=by
  intro n
  induction n with
  |zero=>intro l b;have:l=[]:=List.length_eq_zero_iff.1 b;subst this;simp[fZ]
  |succ n ih=>
   intro l b;have a:l≠[]:=fun h=>by rw[h]at b;cases b
   have e:=w4 a;have:=ih l.dropLast (by rw[List.length_dropLast];omega);rw[<-e,rE,Int.pow_succ];have:=(l.getLast a).toNat_lt;omega
 exact c _ l rfl
theorem kL(r:aL×Bool)(k:Nat):0<=(bA r k).1/\(bA r k).1<256^k:=by
 unfold bA fa;split
 ·have:=Qa (r.1.take k);rename_i h;rw[qR,wv (by omega)]at this;simpa using this
 ·have:(0:Int)<256^k:=Int.pow_pos (by decide);simp[fZ];omega
theorem countP_le{p:Int×Int×Int}{n:Int}(e:0<=n):0<=countP p n/\countP p n<=n:=by
 unfold countP;by_cases h:(bV p&&decide (0<n))=true
 ·rw[if_pos h];rw[qz,decide_eq_true_eq]at h;have d:=(cb p).1 h.1;have a:0<p.1*p.2.2:=Int.mul_pos (by omega) (by omega);have c:0<=(n-1)/(p.1*p.2.2):=Int.ediv_nonneg (by omega) (by omega);have b:(n-1)/(p.1*p.2.2)<=n-1:=Int.ediv_le_self _ (by omega);omega
 ·rw[if_neg h];omega
end Wl
namespace Go.Qw
open Go Go.Vc Go.Proofs Wl
section
variable {B:ap} {h0 h:Heap} {As:List HP} {a:Addr} {s:Sl} {l:aL} {f:Bool} {n:Int}
abbrev eM(s:Sl)(f:Bool):aQ:=[s,vU f]
structure gN (B:ap) (h0:Heap) (As:List HP) (s:Sl) (l:aL):Prop where
 cap:s.len<=s.cap
 st:St B h0 As fun h=>Rd h s 1 aw l
theorem gN.cons{A:HP}(O:gN B h0 As s l):gN B h0 (A::As) s l:=⟨O.cap,O.st.cons⟩
theorem gN.next(O:gN B h0 As s l)(a:s.len=l.length)(b:0<=n):gN B h0 As (jC s n) (fa (l,f) n).2.1:=by
 unfold jC fa;by_cases e:n<=(s.len:Int)
 ·rw[if_pos e,if_pos (show n<=((l.length:Nat):Int)by omega)];exact⟨by unfold rX;dsimp only;have:=O.cap;omega,O.st.mono fun h x=>Seq.drop x n.toNat O.cap⟩
 ·rw[if_neg e,if_neg (show¬n<=((l.length:Nat):Int)by omega)];exact O
theorem fU(b:List HP)(e:0<=n)(g:n<=4)(O:gN B h0 As s l)(H:aa B h0 h (ag a 286 (eM s f)::(b++As))):
  ac xa 234 #[vS (some a),vQ vW n] h fun v h'=>v=vQ vW (bA (l,f) n).1/\∃d,gN B h0 As d (bA (l,f) n).2.1/\aa B h0 h' (ag a 286 (eM d (bA (l,f) n).2.2)::(b++As)):=by
 have i:=(O.st.at (_::b) H).len;refine(Sy e g O.cap (fun j h' c=>O.st.at (_::b) c) H).mono ?_;rintro v h' ⟨rfl,c⟩;exact⟨rfl,_,O.next i e,c⟩
theorem Sz(c:List HP)(i:0<=n)(O:gN B h0 As s l)(H:aa B h0 h (ag a 286 (eM s f)::(c++As))):
  ac xa 247 #[vS (some a),vQ vW n] h fun v h'=>∃r:Sl,v=r/\Rd h' r 1 aw (fa (l,f) n).1/\∃d,gN B h0 As d (fa (l,f) n).2.1/\aa B h0 h' (ag a 286 (eM d (fa (l,f) n).2.2)::(c++As)):=by
 have j:=(O.st.at (_::c) H).len;refine(FZ i O.cap H).mono ?_;have g:=O.next (f:=f) j i;rintro v k (⟨e,rfl,H1⟩|⟨e,rfl,H1⟩)
 ·have b:fa (l,f) n=(l.take n.toNat,(l.drop n.toNat,f)):=by unfold fa;rw[if_pos (show n<=((l.length:Nat):Int)by omega)]
  refine⟨⟨s.ptr,n.toNat,s.cap⟩,rfl,?_,_,g,?_⟩
  ·rw[b];exact(O.st.at (_::c) H1).take n.toNat (by omega)
  ·rw[b];unfold jC;rw[if_pos e];exact H1
 ·have b:fa (l,f) n=([],(l,true)):=by unfold fa;rw[if_neg (show¬n<=((l.length:Nat):Int)by omega)]
  refine⟨⟨none,0,0⟩,rfl,?_,_,g,?_⟩
  ·rw[b];exact Seq.nil _ _ _ _ _ _
  ·rw[b];unfold jC;rw[if_neg (by omega)];exact H1
theorem Iu(n:Nat)(l:aL):dX n (l,true)=([],(l,true)):=by
 cases n<;>simp[dX]
theorem Mc(n:Nat)(r:aL×Bool)(h:r.2=false):dX (n+1) r=((bA r 1).1::(dX n (bA r 1).2).1,(dX n (bA r 1).2).2):=by
 show(if r.2 then _ else _)=_;rw[h];rfl
end
section
variable {B:ap} {h0 h:Heap} {As:List HP} {a:Addr} {s:Sl} {l:aL} {f:Bool} {n:Int}
abbrev tZ(p:Pm):aQ:=[vQ vW p.1,vQ vW p.2.1,vQ vW p.2.2]
abbrev ow:aQ:=[vT ⟨#[]⟩,vQ vW 0,vQ vW 0,vR none 0 0]
theorem Qb(j:List HP)(p:Pm)(O:gN B h0 As s l)(H:aa B h0 h (ag a 286 (eM s f)::(j++As))):
  ac xa 235 #[vS (some a),kP p] h fun v h'=>∃x:dh,v=vV (bv x).toArray/\∃k,gN B h0 As k (ga p (l,f)).2.1/\
   aa B h0 h' (EA fE x (ga p (l,f)).1::ag a 286 (eM k (ga p (l,f)).2.2)::(j++As)):=by
 refine tu (some a) p ?_;unfold mV;refine H.boxed fun m h1 H1=>?_;have H1:aa B h0 h1 (ag m 24 (tZ p)::ag a 286 (eM s f)::(j++As)):=H1.cl;refine H1.alloc af rfl fun a2 h2 T=>?_;have T:aa B h0 h2 (ag a2 73 ow::ag m 24 (tZ p)::ag a 286 (eM s f)::(j++As)):=T.cl;have T:aa B h0 h2 (ag a 286 (eM s f)::ag m 24 (tZ p)::ag a2 73 ow::(j++As)):=T.bj 3 [2,1,0];obtain⟨I,R⟩:∃q,q=bA (l,f) 1:=⟨_,rfl⟩
 have X:=kL (l,f) 1;refine(fU (_::_::j) (by decide) (by decide) O T).mono ?_;rintro _ h3 ⟨rfl,s1,O3,H3⟩;rw[show((1:Nat):Int)=1 from rfl]at X;rw[<-R]at O3 H3 X⊢;refine⟨_,rfl,?_⟩;obtain⟨c,L⟩:∃q,q=fa I.2 I.1:=⟨_,rfl⟩
 refine(Sz (l:=I.2.1) (f:=I.2.2) (_::_::j) X.1 O3 H3).mono ?_;rintro _ h4 ⟨r,rfl,z,s2,O4,H4⟩;have e2:fa (I.2.1,I.2.2) I.1=c:=L.symm;rw[e2]at z O4 H4;refine⟨r,rfl,BN af ⟨_,rfl,rfl⟩ ⟨_,rfl,rfl⟩ ⟨_,rfl,rfl⟩ z ?_⟩;refine H4.alloc af rfl fun w h6 H6=>?_;have H6:aa B h0 h6 (ag w 73 ow::ag a 286 (eM s2 c.2.2)::ag m 24 (tZ p)::ag a2 73 ow::(j++As)):=H6.cl;refine H6.storeAll af 0 rfl rfl [vT ⟨c.1.toArray⟩,vQ vW 0,vQ vW 0,vR none 0 0] rfl rfl rfl rfl fun h7 Z=>?_;have Z:aa B h0 h7 (ag a 286 (eM s2 c.2.2)::ag w 73 [vT ⟨c.1.toArray⟩,vQ vW 0,vQ vW 0,vR none 0 0]::ag m 24 (tZ p)::ag a2 73 ow::(j++As)):=Z.jF;obtain⟨g,U⟩:∃q,q=bA c.2 3:=⟨_,rfl⟩
 refine(fU (l:=c.2.1) (f:=c.2.2) (_::_::_::j) (by decide) (by decide) O4 Z).mono ?_;rintro _ h8 ⟨rfl,s3,O8,H8⟩;have e3:bA (c.2.1,c.2.2) 3=g:=U.symm;rw[e3]at O8 H8⊢;refine⟨_,rfl,?_⟩;obtain⟨b,K⟩:∃q,q=bA g.2 2:=⟨_,rfl⟩
 have V:=kL g.2 2;rw[show((2:Nat):Int)=2 from rfl,<-K]at V;refine(fU (l:=g.2.1) (f:=g.2.2) (_::_::_::j) (by decide) (by decide) O8 H8).mono ?_;rintro _ h9 ⟨rfl,s4,O9,H9⟩;have e4:bA (g.2.1,g.2.2) 2=b:=K.symm;rw[e4]at O9 H9⊢;refine⟨_,rfl,?_⟩;refine H9.storeAt af 1 rfl rfl rfl rfl rfl (by simp) fun a9 ay=>?_;refine ay.storeAt af 1 rfl rfl rfl rfl rfl (by simp) fun S u=>?_;have u:aa B h0 S (ag a 286 (eM s4 b.2.2)::ag w 73 (bv (⟨c.1.toArray⟩,g.1,b.1,⟨none,0,0⟩))::ag m 24 (tZ p)::ag a2 73 ow::(j++As)):=u;have F:ga p (l,f)=(⟨⟨c.1.toArray⟩,g.1,b.1,(dX (countP p b.1).toNat b.2).1⟩,(dX (countP p b.1).toNat b.2).2):=by
  subst R;subst L;subst U;subst K;rfl
 have bb:=countP_le (p:=p) (n:=b.1) V.1;obtain⟨N,hN⟩:∃N:Nat,countP p b.1=N:=⟨(countP p b.1).toNat,by omega⟩
 rw[hN,qq]at F;have a3:N<=65536:=by have:=V.2;omega
 refine cv (fun _ h'=>∃(t k:Sl),gN B h0 As k (ga p (l,f)).2.1/\aa B h0 h' (ag a 286 (eM k (ga p (l,f)).2.2)::aj 3 t 1 aE (ga p (l,f)).1.tries::ag w 73 (bv (⟨c.1.toArray⟩,g.1,b.1,t))::ag m 24 (tZ p)::ag a2 73 ow::(j++As))) ?_ ?_
 ·refine⟨p,(u.box 2 rfl).aF _ rfl,b.1,(u.box 1 rfl).cell rfl,(oQ p b.1 S (by have:=V.2;omega)).mono ?_⟩;rintro _ W ⟨rfl,ax⟩;have D:=(u.up ax.ah).nil 3 1 aE;have D:aa B h0 W (ag a 286 (eM s4 b.2.2)::aj 3 ⟨none,0,0⟩ 1 aE []::ag w 73 (bv (⟨c.1.toArray⟩,g.1,b.1,⟨none,0,0⟩))::ag m 24 (tZ p)::ag a2 73 ow::(j++As)):=D.cl.jF;rw[hN];refine⟨_,rfl,?_⟩;refine az (fun i:Nat=>(i:Int)) (fun i h'=>i<=N/\∃(J:aD) (t k:Sl) (d:aL×Bool),J.length<=i/\dX N b.2=(J++(dX (N-i) d).1,(dX (N-i) d).2)/\gN B h0 As k d.1/\
   aa B h0 h' (ag a 286 (eM k d.2)::aj 3 t 1 aE J::ag w 73 (bv (⟨c.1.toArray⟩,g.1,b.1,t))::ag m 24 (tZ p)::ag a2 73 ow::(j++As))) (fun i=>N-i) 0 rfl ⟨zo _,[],⟨none,0,0⟩,s4,b.2,qp _,by simp,O9,D⟩ ?_
  rintro i a4 ⟨hi,J,t,k,d,a5,z,M,A⟩;dsimp only;refine al (fun e=>?_) fun e=>?_
  ·have P:i<N:=by omega
   refine⟨a,rfl,d.2,(A.box 0 rfl).cell rfl,bq (fun eb=>?_) fun eb=>?_⟩
   ·have Q:dX (N-i) d=([],d):=by
     have:d=(d.1,true):=by rw[<-eb]
     rw[this];exact Iu _ _
    rw[Q,qM]at z;rw[z]at F;rw[F];exact⟨t,k,M,A⟩
   ·refine⟨t,(A.box 2 rfl).cell rfl,(fU (l:=d.1) (f:=d.2) (_::_::_::_::j) (by decide) (by decide) M A).mono ?_⟩;rintro _ a7 ⟨rfl,s5,O5,H5⟩;refine⟨_,rfl,⟨(H5.box 2 rfl).cell rfl,trivial⟩,?_⟩;refine H5.lit af aE kS rfl [(bA d 1).1] rfl (show 1*1<=2^20 by decide) rfl fun v bd o=>?_;have o:=o.cl;refine⟨⟨(o.box 3 rfl).cell rfl,trivial⟩,?_⟩;refine o.append af 2 rfl kS ⟨_,_,rfl,rfl⟩ rfl (by decide) (fun _=>rfl) (o.seq 0 rfl fun _=>rfl) iU (by simp;omega) fun t2 am E=>⟨trivial,?_⟩
    have E:aa B h0 am (aj 3 v 1 aE [(bA d 1).1]::ag a 286 (eM s5 (bA d 1).2.2)::aj 3 t2 1 aE (J++[(bA d 1).1])::ag w 73 (bv (⟨c.1.toArray⟩,g.1,b.1,t))::ag m 24 (tZ p)::ag a2 73 ow::(j++As)):=E;refine E.storeAt af 3 rfl rfl rfl rfl rfl (by simp) fun a0 G=>⟨trivial,?_⟩
    have G:aa B h0 a0 (aj 3 v 1 aE [(bA d 1).1]::ag a 286 (eM s5 (bA d 1).2.2)::aj 3 t2 1 aE (J++[(bA d 1).1])::ag w 73 (bv (⟨c.1.toArray⟩,g.1,b.1,t2))::ag m 24 (tZ p)::ag a2 73 ow::(j++As)):=G;refine⟨i+1,by rw[an _];rfl,⟨by omega,J++[(bA d 1).1],t2,s5,(bA d 1).2,by simp;omega,?_,O5,G.rest⟩,by omega⟩;have Q:N-i=(N-(i+1))+1:=by omega
    rw[z,Q,Mc _ _ eb];simp
  ·have P:i=N:=by omega
   subst P;have Q:dX (i-i) d=([],d):=by rw[qZ];rfl
   rw[Q,qM]at z;rw[z]at F;rw[F];exact⟨t,k,M,A⟩
 rintro _ a8 ⟨t,k,M,A⟩;refine⟨(⟨c.1.toArray⟩,g.1,b.1,t),(A.box 2 rfl).aF _ rfl,?_⟩;refine A.storeAll af 4 rfl rfl (bv (⟨c.1.toArray⟩,g.1,b.1,t)) rfl rfl rfl rfl fun ad y=>?_;have y:aa B h0 ad (ag a 286 (eM k (ga p (l,f)).2.2)::aj 3 t 1 aE (ga p (l,f)).1.tries::ag w 73 (bv (⟨c.1.toArray⟩,g.1,b.1,t))::ag m 24 (tZ p)::ag a2 73 (bv (⟨c.1.toArray⟩,g.1,b.1,t))::(j++As)):=y;refine⟨(⟨c.1.toArray⟩,g.1,b.1,t),(y.box 4 rfl).aF _ rfl,(⟨c.1.toArray⟩,g.1,b.1,t),rfl,k,M,?_⟩;have Y:=(y.freeze 1 rfl fun _=>rfl).bj 5 [1,0];refine Y.gn 0 rfl fun q hq=>?_;rw[F];rw[F]at hq;exact⟨⟨rfl,rfl,rfl⟩,hq⟩
end
end Go.Qw
namespace Go.Vc
open Go
theorem av.YH{P:Program}{s:Sem Value}{h:Heap}{K1 d:Sl->Heap->Prop}(a:av P s (.one (.sc .slc)) h K1)(b:av P s (.one (.sc .slc)) h d):av P s (.one (.sc .slc)) h fun v h'=>K1 v h'/\d v h':=by
 intro w e;obtain⟨n,j,f,r,c,i,k⟩:=a w e;obtain⟨y,x,g,l2,x2,u,o⟩:=b w e;rw[f]at g;injection g with g1 g2
 subst g1 g2;have l:c=x2:=by
  have:=i.symm.trans u;obtain⟨t,a2,a3⟩:=c;obtain⟨m,p,q⟩:=x2;have h:Value.slice t a2 a3=Value.slice m p q:=this;injection h with c1 c2 c3
  subst c1 c2 c3;rfl
 subst l;exact⟨n,j,f,r,c,i,k,o⟩
end Go.Vc
namespace Go.Qw
open Go Go.Vc Go.Proofs Wl
section
theorem aa.Iv{B:ap}{d h:Heap}{As:List HP}{y:bn}{m:ar}(a:y.1=m.seq/\y.2.1=m.next/\(y.2.2.1,y.2.2.2.1,y.2.2.2.2.1)=m.p/\y.2.2.2.2.2.1=m.extra)
  (H:aa B d h (aj 3 y.2.2.2.2.2.2.1 1 aE m.drives::cR 73 y.2.2.2.2.2.2.2 4 bv fE m.aH::As)):aa B d h (bt y m::As):=by
 have i:=(H.own 0 rfl).cap;have g:=(H.Yz 1 rfl).2;have k:=((H.freeze 0 rfl fun _=>rfl).VN 1 rfl fun _=>rfl).jX;refine k.gn 0 rfl fun q ⟨n,l,_,b,c,j,f⟩=>?_;exact⟨a.1,a.2.1,a.2.2.1,a.2.2.2,f.mono fun x e=>c x e,nh.mono j b,i,g⟩
abbrev bJ:bn:=(0,0,0,0,0,0,⟨none,0,0⟩,⟨none,0,0⟩)
abbrev Vy:bN C.tosH 45 73 4 ow 56:=⟨_,_,rfl,rfl,rfl,rfl,rfl,rfl⟩
theorem SA(p:Pm)(n:Nat)(l:aL):gg p n (l,true)=([],(l,true)):=by
 cases n<;>simp[gg]
theorem Uz(p:Pm)(n:Nat)(r:aL×Bool)(h:r.2=false):gg p (n+1) r=((ga p r).1::(gg p n (ga p r).2).1,(gg p n (ga p r).2).2):=by
 show(if r.2 then _ else _)=_;rw[h];rfl
theorem Iw:∀(k:Nat) (r:aL×Bool),(dX k r).1.length<=k:=by
 intro k
 induction k with
 |zero=>intro r;exact qp _
 |succ k ih=>
  intro r;unfold dX;split
  ·exact zo _
  ·have:=ih (bA r 1).2;simp only[zi];omega
theorem SB(p:Pm):∀(k:Nat) (r:aL×Bool),(gg p k r).1.length<=k:=by
 intro k
 induction k with
 |zero=>intro r;exact qp _
 |succ k ih=>
  intro r;unfold gg;split
  ·exact zo _
  ·have:=ih (ga p r).2;simp only[zi];omega
theorem WD(p:Pm)(r:aL×Bool):(ga p r).1.name.size<=2^30/\(ga p r).1.tries.length<=2^30:=by
 have b:=kL r 1;rw[show((1:Nat):Int)=1 from rfl]at b;constructor
 ·show((fa (bA r 1).2 (bA r 1).1).1.toArray).size<=_;unfold fa;split
  ·simp only[List.size_toArray,qR];have:=b.2;omega
  ·simp
 ·show(dX (countP p (bA (bA (fa (bA r 1).2 (bA r 1).1).2 3).2 2).1).toNat _).1.length<=_;have a:=kL (bA (fa (bA r 1).2 (bA r 1).1).2 3).2 2;rw[show((2:Nat):Int)=2 from rfl]at a;have c:=countP_le (p:=p) a.1;refine zH (Iw _ _) ?_;have:=a.2;omega
theorem UA(p:Pm):∀(k:Nat) (r:aL×Bool),∀e∈(gg p k r).1,e.name.size<=2^30/\e.tries.length<=2^30:=by
 intro k
 induction k with
 |zero=>intro r e a;exact absurd a yv
 |succ k ih=>
  intro r e a;unfold gg at a;split at a
  ·exact absurd a yv
  ·rcases zj.1 a with rfl|h
   ·exact WD p r
   ·exact ih _ e h
theorem Qc(b:Sl)(G:aL)(h:Heap)(hb:Rd h b 1 aw G)(hc:b.len<=b.cap):
  ac xa 208 #[b] h fun v h'=>(iz G=none/\v=.tuple #[cN bJ,vU false]/\Sp h h' [])∨∃m x,iz G=some m/\v=.tuple #[cN x,vU true]/\Sp h h' [bt x m]:=by
 refine GP b ?_;unfold AM;have O:gN (fun b=>b<h.size) h [] b G:=⟨hc,St.base hb fun h' hp=>hb.up hp⟩
 refine(Sp.refl h).alloc af rfl fun A h1 H1=>?_;refine H1.boxed fun a2 h2 H2=>?_;have H2:Sp h h2 [ag a2 286 (eM b false),ag A 47 (aq bJ)]:=H2.ca [1,0];obtain⟨o,a9⟩:∃q,q=bA (G,false) 4:=⟨_,rfl⟩
 refine(fU [_] (by decide) (by decide) O H2).mono ?_;rintro _ h3 ⟨rfl,s1,O1,H3⟩;rw[<-a9]at O1 H3⊢;refine⟨_,rfl,?_⟩;obtain⟨c,a6⟩:∃q,q=bA o.2 4:=⟨_,rfl⟩
 refine(fU (l:=o.2.1) (f:=o.2.2) [_] (by decide) (by decide) O1 H3).mono ?_;rintro _ h4 ⟨rfl,s2,O2,H4⟩;rw[show bA (o.2.1,o.2.2) 4=c from a6.symm]at O2 H4⊢;refine⟨_,rfl,?_⟩;refine H4.alloc af rfl fun a5 h5 Q=>?_;have Q:Sp h h5 [ag a2 286 (eM s2 c.2.2),ag a5 47 (aq bJ),ag A 47 (aq bJ)]:=Q.ca [0,2,1];refine Q.storeAll af 1 rfl rfl (aq (o.1,c.1,0,0,0,0,⟨none,0,0⟩,⟨none,0,0⟩)) rfl rfl rfl rfl fun h6 H6=>?_;obtain⟨k,br⟩:∃q,q=bA c.2 1:=⟨_,rfl⟩
 refine(fU (l:=c.2.1) (f:=c.2.2) [_,_] (by decide) (by decide) O2 H6).mono ?_;rintro _ h7 ⟨rfl,s3,O3,H7⟩;rw[show bA (c.2.1,c.2.2) 1=k from br.symm]at O3 H7⊢;refine⟨_,rfl,?_⟩;obtain⟨j,bd⟩:∃q,q=bA k.2 1:=⟨_,rfl⟩
 refine(fU (l:=k.2.1) (f:=k.2.2) [_,_] (by decide) (by decide) O3 H7).mono ?_;rintro _ h8 ⟨rfl,s4,O4,H8⟩;rw[show bA (k.2.1,k.2.2) 1=j from bd.symm]at O4 H8⊢;refine⟨_,rfl,?_⟩;obtain⟨d,bk⟩:∃q,q=bA j.2 1:=⟨_,rfl⟩
 refine(fU (l:=j.2.1) (f:=j.2.2) [_,_] (by decide) (by decide) O4 H8).mono ?_;rintro _ h9 ⟨rfl,R,O5,H9⟩;rw[show bA (j.2.1,j.2.2) 1=d from bk.symm]at O5 H9⊢;refine⟨_,rfl,?_⟩;refine H9.store af 1 rfl rfl 2 [vQ vW k.1,vQ vW j.1,vQ vW d.1] rfl rfl rfl (by simp) fun b5 a4=>?_;have a4:Sp h b5 [ag a2 286 (eM R d.2.2),ag a5 47 (aq (o.1,c.1,k.1,j.1,d.1,0,⟨none,0,0⟩,⟨none,0,0⟩)),ag A 47 (aq bJ)]:=a4;obtain⟨n,bb⟩:∃q,q=bA d.2 1:=⟨_,rfl⟩
 refine(fU (l:=d.2.1) (f:=d.2.2) [_,_] (by decide) (by decide) O5 a4).mono ?_;rintro _ c9 ⟨rfl,s6,O6,a7⟩;rw[show bA (d.2.1,d.2.2) 1=n from bb.symm]at O6 a7⊢;refine⟨_,rfl,?_⟩;refine a7.storeAt af 1 rfl rfl rfl rfl rfl (by simp) fun b0 X=>?_;have X:Sp h b0 [ag a2 286 (eM s6 n.2.2),ag a5 47 (aq (o.1,c.1,k.1,j.1,d.1,n.1,⟨none,0,0⟩,⟨none,0,0⟩)),ag A 47 (aq bJ)]:=X;obtain⟨q7,ay⟩:∃q,q=bA n.2 1:=⟨_,rfl⟩
 have b7:=kL n.2 1;rw[show((1:Nat):Int)=1 from rfl,<-ay]at b7;obtain⟨N,hN⟩:∃N:Nat,q7.1=N:=⟨q7.1.toNat,by omega⟩
 have c2:N<256:=by have:=b7.2;omega
 obtain⟨D,hD⟩:∃D,D=dX N q7.2:=⟨_,rfl⟩
 obtain⟨q8,Z⟩:∃q,q=bA D.2 1:=⟨_,rfl⟩
 have a8:=kL D.2 1;rw[show((1:Nat):Int)=1 from rfl,<-Z]at a8;obtain⟨M,hM⟩:∃M:Nat,q8.1=M:=⟨q8.1.toNat,by omega⟩
 have c5:M<256:=by have:=a8.2;omega
 obtain⟨p,hp⟩:∃p:Pm,p=(k.1,j.1,d.1):=⟨_,rfl⟩
 obtain⟨E,hE⟩:∃E,E=gg p M q8.2:=⟨_,rfl⟩
 have g:uw G=(⟨o.1,c.1,p,n.1,D.1,E.1⟩,E.2):=by
  unfold uw;simp only[<-a9,<-a6,<-br,<-bd,<-bk,<-bb,<-ay,hN,qq,<-hD,<-Z,hM,<-hp,<-hE]
 refine cv (fun _ h'=>∃(t s:Sl),gN (fun b=>b<h.size) h [] s D.2.1/\Sp h h' [ag a2 286 (eM s D.2.2),aj 3 t 1 aE D.1,ag a5 47 (aq (o.1,c.1,k.1,j.1,d.1,n.1,t,⟨none,0,0⟩)),ag A 47 (aq bJ)]) ?_ ?_
 ·refine(fU (l:=n.2.1) (f:=n.2.2) [_,_] (by decide) (by decide) O6 X).mono ?_;rintro _ b1 ⟨rfl,s7,O7,H⟩;rw[show bA (n.2.1,n.2.2) 1=q7 from ay.symm]at O7 H⊢;rw[hN];refine⟨_,rfl,?_⟩;have H:=(H.nil 3 1 aE)
  have H:Sp h b1 [ag a2 286 (eM s7 q7.2.2),aj 3 ⟨none,0,0⟩ 1 aE [],ag a5 47 (aq (o.1,c.1,k.1,j.1,d.1,n.1,⟨none,0,0⟩,⟨none,0,0⟩)),ag A 47 (aq bJ)]:=H.ca [0,3,1,2];refine az (fun i:Nat=>(i:Int)) (fun i h'=>i<=N/\∃(ts:aD) (t s:Sl) (a:aL×Bool),ts.length<=i/\D=(ts++(dX (N-i) a).1,(dX (N-i) a).2)/\gN (fun b=>b<h.size) h [] s a.1/\
   Sp h h' [ag a2 286 (eM s a.2),aj 3 t 1 aE ts,ag a5 47 (aq (o.1,c.1,k.1,j.1,d.1,n.1,t,⟨none,0,0⟩)),ag A 47 (aq bJ)]) (fun i=>N-i) 0 rfl ⟨zo _,[],⟨none,0,0⟩,s7,q7.2,qp _,by rw[hD];simp,O7,H⟩ ?_
  rintro i c1 ⟨hi,ts,t,s,a,c0,L,Y,B⟩;dsimp only;refine al (fun e=>?_) fun e=>?_
  ·have I:i<N:=by omega
   refine⟨a2,rfl,a.2,(B.box 0 rfl).cell rfl,bq (fun eb=>?_) fun eb=>?_⟩
   ·have J:dX (N-i) a=([],a):=by
     have:a=(a.1,true):=by rw[<-eb]
     rw[this];exact Iu _ _
    rw[J,qM]at L;rw[L];exact⟨t,s,Y,B⟩
   ·refine⟨t,(B.box 2 rfl).cell rfl,(fU (l:=a.1) (f:=a.2) [_,_,_] (by decide) (by decide) Y B).mono ?_⟩;rintro _ dd ⟨rfl,R,O5,Q⟩;refine⟨_,rfl,⟨(Q.box 2 rfl).cell rfl,trivial⟩,?_⟩;refine Q.lit af aE kS rfl [(bA a 1).1] rfl (show 1*1<=2^20 by decide) rfl fun v c7 K=>?_;have K:=K.cl;refine⟨⟨(K.box 3 rfl).cell rfl,trivial⟩,?_⟩;refine K.append af 2 rfl kS ⟨_,_,rfl,rfl⟩ rfl (by decide) (fun _=>rfl) (K.seq 0 rfl fun _=>rfl) iU (by simp;omega) fun t2 cd a3=>⟨trivial,?_⟩
    have a3:Sp h cd [aj 3 v 1 aE [(bA a 1).1],ag a2 286 (eM R (bA a 1).2.2),aj 3 t2 1 aE (ts++[(bA a 1).1]),ag a5 47 (aq (o.1,c.1,k.1,j.1,d.1,n.1,t,⟨none,0,0⟩)),ag A 47 (aq bJ)]:=a3;refine a3.storeAt af 3 rfl rfl rfl rfl rfl (by simp) fun b4 am=>⟨trivial,?_⟩
    have am:Sp h b4 [aj 3 v 1 aE [(bA a 1).1],ag a2 286 (eM R (bA a 1).2.2),aj 3 t2 1 aE (ts++[(bA a 1).1]),ag a5 47 (aq (o.1,c.1,k.1,j.1,d.1,n.1,t2,⟨none,0,0⟩)),ag A 47 (aq bJ)]:=am;refine⟨i+1,by rw[an _];rfl,⟨by omega,ts++[(bA a 1).1],t2,R,(bA a 1).2,by simp;omega,?_,O5,am.rest⟩,by omega⟩;have J:N-i=(N-(i+1))+1:=by omega
    rw[L,J,Mc _ _ eb];simp
  ·have I:i=N:=by omega
   subst I;have J:dX (i-i) a=([],a):=by rw[qZ];rfl
   rw[J,qM]at L;rw[L];exact⟨t,s,Y,B⟩
 rintro _ cs ⟨t,s,OD,b6⟩;have da:D.1.length<=N:=by rw[hD];exact Iw _ _
 have dj:E.1.length<=M:=by rw[hE];exact SB _ _ _
 refine cv (fun _ h'=>∃(u s:Sl),gN (fun b=>b<h.size) h [] s E.2.1/\Sp h h' [ag a2 286 (eM s E.2.2),aj 3 t 1 aE D.1,cR 73 u 4 bv fE E.1,ag a5 47 (aq (o.1,c.1,k.1,j.1,d.1,n.1,t,u)),ag A 47 (aq bJ)]) ?_ ?_
 ·refine(fU (l:=D.2.1) (f:=D.2.2) [_,_,_] (by decide) (by decide) OD b6).mono ?_;rintro _ b2 ⟨rfl,s8,O8,F⟩;rw[show bA (D.2.1,D.2.2) 1=q8 from Z.symm]at O8 F⊢;rw[hM];refine⟨_,rfl,?_⟩;have F:=F.Ox 73 4 bv fE;have F:Sp h b2 [ag a2 286 (eM s8 q8.2.2),aj 3 t 1 aE D.1,cR 73 ⟨none,0,0⟩ 4 bv fE [],ag a5 47 (aq (o.1,c.1,k.1,j.1,d.1,n.1,t,⟨none,0,0⟩)),ag A 47 (aq bJ)]:=F.ca [0,1,4,2,3];refine az (fun i:Nat=>(i:Int)) (fun i h'=>i<=M/\∃(V:List Wl.cE) (u s:Sl) (a:aL×Bool),V.length<=i/\E=(V++(gg p (M-i) a).1,(gg p (M-i) a).2)/\gN (fun b=>b<h.size) h [] s a.1/\
   Sp h h' [ag a2 286 (eM s a.2),aj 3 t 1 aE D.1,cR 73 u 4 bv fE V,ag a5 47 (aq (o.1,c.1,k.1,j.1,d.1,n.1,t,u)),ag A 47 (aq bJ)]) (fun i=>M-i) 0 rfl ⟨zo _,[],⟨none,0,0⟩,s8,q8.2,qp _,by rw[hE];simp,O8,F⟩ ?_
  rintro i c6 ⟨hi,V,u,s,a,cf,L,Y,B⟩;dsimp only;refine al (fun e=>?_) fun e=>?_
  ·have I:i<M:=by omega
   refine⟨a2,rfl,a.2,(B.box 0 rfl).cell rfl,bq (fun eb=>?_) fun eb=>?_⟩
   ·have J:gg p (M-i) a=([],a):=by
     have:a=(a.1,true):=by rw[<-eb]
     rw[this];exact SA _ _ _
    rw[J,qM]at L;rw[L];exact⟨u,s,Y,B⟩
   ·refine⟨u,(B.box 3 rfl).cell rfl,p,?_,(Qb (l:=a.1) (f:=a.2) [_,_,_,_] p Y B).mono ?_⟩
    ·rw[hp];exact(B.box 3 rfl).cells 2 (tZ (k.1,j.1,d.1)) rfl
    rintro _ c8 ⟨x,rfl,R,O5,Q⟩;refine⟨x,rfl,⟨(Q.box 4 rfl).cell rfl,trivial⟩,?_⟩;have hx:∀x:dh,(bv x).length=4:=fun _=>rfl;refine av.YH (K1:=fun _ h'=>aB.ok [(a5.add 7,u)] h') ?_ ?_
    ·refine Q.lit af bv Vy rfl [x] rfl (show 1*4<=2^20 by decide) rfl fun v cp cc=>⟨(cc.box 4 rfl).cell rfl,trivial⟩
    refine Q.Oy af 3 0 (by decide) rfl rfl Vy rfl (by decide) hx GS rfl (by decide) (by omega) fun u2 b9 ax=>⟨trivial,?_⟩
    have ax:Sp h b9 [emp,ag a2 286 (eM R (ga p a).2.2),aj 3 t 1 aE D.1,cR 73 u2 4 bv fE (V++[(ga p a).1]),ag a5 47 (aq (o.1,c.1,k.1,j.1,d.1,n.1,t,u)),ag A 47 (aq bJ)]:=ax;refine ax.storeAt af 4 rfl rfl rfl rfl rfl (by simp) fun b3 W=>⟨trivial,?_⟩
    have W:Sp h b3 [emp,ag a2 286 (eM R (ga p a).2.2),aj 3 t 1 aE D.1,cR 73 u2 4 bv fE (V++[(ga p a).1]),ag a5 47 (aq (o.1,c.1,k.1,j.1,d.1,n.1,t,u2)),ag A 47 (aq bJ)]:=W;refine⟨i+1,by rw[an _];rfl,⟨by omega,V++[(ga p a).1],u2,R,(ga p a).2,by simp;omega,?_,O5,W.rest⟩,by omega⟩;have J:M-i=(M-(i+1))+1:=by omega
    rw[L,J,Uz _ _ _ eb];simp
  ·have I:i=M:=by omega
   subst I;have J:gg p (i-i) a=([],a):=by rw[qZ];rfl
   rw[J,qM]at L;rw[L];exact⟨u,s,Y,B⟩
 rintro _ bl ⟨u,s,OE,w⟩;obtain⟨y,hy⟩:∃y:bn,y=(o.1,c.1,k.1,j.1,d.1,n.1,t,u):=⟨_,rfl⟩
 obtain⟨T,S⟩:∃T:ar,T=⟨o.1,c.1,p,n.1,D.1,E.1⟩:=⟨_,rfl⟩
 rw[<-S]at g;have hz:cn T:=by
  rw[S];exact⟨by show D.1.length<=_;omega,by show E.1.length<=_;omega,by rw[hE];exact UA _ _ _⟩
 have w:Sp h bl [bt y T,ag a2 286 (eM s E.2.2),ag a5 47 (aq y),ag A 47 (aq bJ)]:=by
  refine aa.Iv (by rw[hy,S,hp];exact⟨rfl,rfl,rfl,rfl⟩) ?_;rw[hy,S];exact w.ca [1,2,0,3,4]
 have c4:=hb.len;refine aU ?_;have no:iz G=none->∀{h':Heap},Sp h h' [ag A 47 (aq bJ)]->(iz G=none/\(Value.tuple #[cN bJ,vU false])=.tuple #[cN bJ,vU false]/\Sp h h' [])∨∃m x,iz G=some m/\(Value.tuple #[cN bJ,vU false])=.tuple #[cN x,vU true]/\Sp h h' [bt x m]:=fun e _ B=>.inl ⟨e,rfl,B.ca []⟩;refine⟨a2,rfl,E.2.2,(w.box 1 rfl).cell rfl,bq (fun eb=>?_) fun eb=>dN (fun ez=>?_) fun ez=>?_⟩
 ·refine w.storeAll af 3 rfl rfl (aq bJ) rfl rfl rfl rfl fun a0 z=>?_;refine⟨bJ,(z.box 3 rfl).aF _ rfl,no ?_ (z.ca [3])⟩;unfold iz;rw[g];simp[eb]
 ·refine w.storeAll af 3 rfl rfl (aq bJ) rfl rfl rfl rfl fun a0 z=>?_;refine⟨bJ,(z.box 3 rfl).aF _ rfl,no ?_ (z.ca [3])⟩;have:G.length=0:=by omega
  unfold iz;rw[g];simp[this]
 ·refine⟨y,(w.box 2 rfl).aF _ rfl,(AU y T bl (w.at 0 rfl) hz).mono ?_⟩;rintro _ a0 ⟨r,rfl,ad⟩;refine⟨r,rfl,(jb b r G (bo T) a0 (hb.up ((Sp.zip w.ah).comp ad).ah) (ad.seq 0 rfl fun _=>rfl)).mono ?_⟩;rintro _ ch ⟨rfl,rfl⟩;have z:=w.comp ad;refine⟨_,rfl,aW (fun U=>?_) fun U=>?_⟩
  ·refine z.storeAll af 3 rfl rfl (aq bJ) rfl rfl rfl rfl fun bw P=>?_;refine⟨bJ,(P.box 3 rfl).aF _ rfl,no ?_ (P.ca [3])⟩;unfold iz;rw[g];simp[of_decide_eq_false U]
  ·refine⟨y,(z.box 2 rfl).aF _ rfl,z.storeAll af 3 rfl rfl (aq y) rfl rfl rfl rfl fun bw P=>?_⟩;refine⟨y,(P.box 3 rfl).aF _ rfl,.inr ⟨T,y,?_,rfl,P.ca [0]⟩⟩;have e0:¬G.length=0:=by omega
   have e2:G=bo T:=of_decide_eq_true U;unfold iz;rw[g];simp only[eb,e0,<-e2];rfl
end
section
abbrev jn:=Int×Int×Int×Sl×Sl
abbrev bK(x:jn):aQ:=[vQ vW x.1,vQ vW x.2.1,vQ vW x.2.2.1,x.2.2.2.1,x.2.2.2.2]
abbrev Db(x:jn):Value:=vV #[vQ vW x.1,vQ vW x.2.1,vQ vW x.2.2.1,x.2.2.2.1,x.2.2.2.2]
abbrev oE:jn:=(0,0,0,⟨none,0,0⟩,⟨none,0,0⟩)
theorem SC{h:Heap}{s:Sl}{l:aL}(j:Rd h s 1 aw l)(v:l.length<=4){K:Int×Int->Heap->Prop}(p:K (fZ l,(l.length:Int)) h):
  aN (σ:=Int×Int) (fun b K1 d=>
 Br (decide (b.2<((s.len:Nat):Int)))
 (∃a3:Addr,(s.ptr=some a3/\0<=b.2/\b.2<((s.len:Nat):Int))/\
 ∃g:Int,cellOf d (a3.add (b.2.toNat*1))=some (vQ vX g)/\
 (0<=(8:Int))/\
 K1 (qc vW ((qy (qj vW) (qc vW (b.1*2^min (8:Int).toNat (qj vW)))|||(qy (qj vW) (qc vW g))).toNat:Nat),qc vW (b.2+1)) d)
 (K b d)) ((0:Int),(0:Int)) h:=by
 have r:=j.len;refine az (τ:=Nat) (fun i=>(fZ (l.take i),(i:Int))) (fun i h'=>i<=l.length/\h'=h) (fun i=>l.length-i) 0 (by simp[fZ]) ⟨zo _,rfl⟩ ?_;rintro i h' ⟨u,rfl⟩;refine al (fun e=>?_) (fun e=>?_)
 ·have a:i<l.length:=by simp only at e;omega
  refine j.kA i rfl a ((l.getD i 0).toNat:Int) (by rw[getD_lt a];rfl) fun t m=>⟨by decide,i+1,?_,⟨a,rfl⟩,by omega⟩
  have o:=uQ (l.take i) (by simp;omega);have c:=o.2.2 (by simp;omega);obtain⟨n,f⟩:∃n:Nat,fZ (l.take i)=(n:Int):=⟨(fZ (l.take i)).toNat,by rw[rY];omega⟩
  rw[<-rY,f]at c;have k:=(l.getD i 0).toNat_lt;show(_,_)=(_,_)
  rw[f,Le n _ (by omega) k,an _];have q:l.take (i+1)=l.take i++[l.getD i 0]:=by rw[getD_lt a];simp
  rw[q,rE,f];rfl
 ·have:i=l.length:=by simp only at e;omega
  subst this;simpa using p
theorem Qd(b:Sl)(c:aL)(h:Heap)(X:Rd h b 1 aw c)(hc:c.length<=2^30)(y:b.len<=b.cap):
  ac xa 157 #[b] h fun v h'=>(bU c=none/\v=.tuple #[Db oE,vU false]/\Sp h h' [])∨
   ∃(g:Pg) (r:Sl),bU c=some g/\v=.tuple #[Db (g.seq,g.num,g.many,r,b),vU true]/\Sp h h' [jo r 1 aw g.bears]:=by
 refine IX b ?_;unfold CK;refine(Sp.refl h).alloc af rfl fun u N B=>?_;have B:Sp h N [ag u 214 (bK oE)]:=B;have f:∀{h':Heap} {Bs:List HP},Sp h h' (ag u 214 (bK oE)::Bs)->bU c=none->
   ab xa (Instr.storeAt 214 (vS (some u)) (Db oE)) h' fun _ t=>∃o:jn,ai t u 0 (bK o)/\((bU c=none/\Value.tuple #[Db o,vU false]=.tuple #[Db oE,vU false]/\Sp h t [])∨
   ∃(g:Pg) (r:Sl),bU c=some g/\Value.tuple #[Db o,vU false]=.tuple #[Db (g.seq,g.num,g.many,r,b),vU true]/\Sp h t [jo r 1 aw g.bears]):=fun{h' Bs} H' j=>by
  refine H'.storeAll af 0 rfl rfl (bK oE) rfl rfl rfl rfl fun t L=>?_;exact⟨oE,(L.box 0 rfl).aF _ rfl,.inl ⟨j,rfl,.zip L.ah⟩⟩
 refine(Fx b c N (X.up B.ah) hc y).mono ?_;rintro _ K ⟨T,Q1⟩;cases htc:gD c with
 |none=>
  obtain⟨rfl,G⟩:=T htc;have j:bU c=none:=by unfold bU;rw[htc]
  exact⟨(0,⟨none,0,0⟩,false),rfl,aU (aW (fun _=>f (B.up G.ah) j) fun e=>by cases e)⟩
 |some kx=>
  obtain⟨k,x⟩:=kx;obtain⟨r,rfl,G⟩:=Q1 k x htc;have p:Sp h K [ag u 214 (bK oE),aj 5 r 1 aw x]:=B.comp G;have O:x.length=55:=by
   unfold gD at htc;split at htc
   ·rename_i a;injection htc with htc
    injection htc with _ htc
    rw[<-htc];simp;omega
   ·cases htc
  have U:=(p.own 1 rfl).len;have w:=(p.own 1 rfl).cap;have A:=p.seq 1 rfl fun _=>rfl;refine⟨(k,r,true),rfl,aU (aW (fun e=>by cases e) fun _=>ci (fun e=>f p ?_) fun m=>?_)⟩
  ·unfold bU;rw[htc];exact if_neg fun a=>e a.1
  dsimp only;have m:k=2:=m;have J:6<x.length:=by omega
  have t:4<x.length:=by omega
  have Q:5<x.length:=by omega
  refine⟨⟨by decide,by omega⟩,?_⟩;refine SC (s:=⟨r.ptr,4,r.cap⟩) (l:=x.take 4) (A.take 4 (by omega)) (by simp;omega) ?_;have V:=(x.getD 6 0).toNat_lt;have u4:=(x.getD 4 0).toNat_lt;have u5:=(x.getD 5 0).toNat_lt;refine A.kA 6 rfl J ((x.getD 6 0).toNat:Int) (by rw[getD_lt J];rfl) fun a9 S=>?_;rw[an ((x.getD 6 0).toNat:Int),an (7+((x.getD 6 0).toNat:Int))];refine aU (al (fun e=>f p ?_) fun e=>?_)
  ·unfold bU;rw[htc];exact if_neg fun a=>by omega
  obtain⟨n,j⟩:∃n:Nat,n=(x.getD 6 0).toNat:=⟨_,rfl⟩
  rw[<-j]at e V⊢;rw[show(7+((n:Nat):Int)).toNat=7+n from by omega];refine⟨⟨by omega,by omega⟩,?_⟩;refine(Sq ⟨_,r.len-(7+n),r.cap-(7+n)⟩ (x.drop (7+n)) _ rfl K (A.drop (7+n) w) (by dsimp only;omega) (by simp;omega)).mono ?_;rintro _ _ ⟨⟨z,rfl,hz⟩,rfl⟩;have i:(x.drop (7+n)).all (fun b=>decide (b=0))=true↔z.len=0:=by
   rw[hz,qU];exact⟨fun a x E=>of_decide_eq_true (a x E),fun a x E=>decide_eq_true (a x E)⟩
  refine⟨z,rfl,al (fun R=>f p ?_) fun R=>?_⟩
  ·unfold bU;rw[htc];exact if_neg fun a=>by
    have:=i.1 (by rw[j];exact a.2.2);omega
  have I:z.len=0:=by omega
  refine A.kA 4 rfl t ((x.getD 4 0).toNat:Int) (by rw[getD_lt t];rfl) fun W M=>?_;refine A.kA 5 rfl Q ((x.getD 5 0).toNat:Int) (by rw[getD_lt Q];rfl) fun Y P=>?_;refine⟨⟨by decide,by omega,by omega⟩,?_⟩;rw[an ((x.getD 4 0).toNat:Int),an ((x.getD 5 0).toNat:Int)];refine p.storeAll af 0 rfl rfl (bK (fZ (x.take 4),((x.getD 4 0).toNat:Int),((x.getD 5 0).toNat:Int),⟨if r.cap=7 then r.ptr else r.ptr.map (·.add (7*1)),7+n-7,r.cap-7⟩,b)) rfl rfl rfl rfl fun D d=>⟨trivial,?_⟩
  have d:Sp h D [ag u 214 (bK (fZ (x.take 4),((x.getD 4 0).toNat:Int),((x.getD 5 0).toNat:Int),⟨if r.cap=7 then r.ptr else r.ptr.map (·.add (7*1)),7+n-7,r.cap-7⟩,b)),aj 5 r 1 aw x]:=d;refine⟨(fZ (x.take 4),((x.getD 4 0).toNat:Int),((x.getD 5 0).toNat:Int),⟨if r.cap=7 then r.ptr else r.ptr.map (·.add (7*1)),7+n-7,r.cap-7⟩,b),(d.box 0 rfl).aF _ rfl,.inr ⟨LS x c,⟨if r.cap=7 then r.ptr else r.ptr.map (·.add (7*1)),7+n-7,r.cap-7⟩,?_,rfl,?_⟩⟩
  ·unfold bU;rw[htc];exact if_pos ⟨m,by omega,by rw[<-j];exact i.2 I⟩
  ·have H:=(d.freeze 1 rfl fun _=>rfl).ca [1];refine H.gn 0 rfl fun q F=>?_;have F:Seq _ q r 1 aw x:=F;have Z:=(F.drop 7 w).take n (by simp;omega);show Seq _ q _ 1 aw ((x.drop 7).take (x.getD 6 0).toNat);rw[<-j,show 7+n-7=n from by omega];exact Z
end
section
variable {B:ap} {h0 h:Heap} {As:List HP}
end
end Go.Qw
namespace Wl
theorem Md{l:List Pg}{f:Pg}:∀{n k:Nat},gX l f n=none->n<=k->gX l f k=none:=by
 intro n k h a
 induction k with
 |zero=>rw[show n=0 from by omega]at h;exact h
 |succ k ih=>
  by_cases e:n=k+1
  ·rw[<-e];exact h
  ·unfold gX;rw[ih (by omega)]
end Wl
namespace Go.Qw
open Go Go.Vc Go.Proofs Wl
section
theorem SD:∀x,∀c∈bK x,c.oneCell'=true:=by intro x c a;simp[bK]at a;rcases a with rfl|rfl|rfl|rfl|rfl<;>rfl
abbrev SE:bN C.tosH 212 214 5 (bK oE) 72:=⟨_,_,rfl,rfl,rfl,rfl,rfl,rfl⟩
def iS(f:jn)(i:Int)(x:jn):Bool:=x.1==f.1&&(x.2.2.1==f.2.2.1&&x.2.1==i)
theorem Me(x f:jn)(i:Int)(a b:Addr)(h:Heap)(k:bZ h a 214 (bK f))(l:bZ h b 3 [vQ vW i]):
  ac xa 207 #[Db x,vS (some a),vS (some b)] h fun v h'=>v=vU (iS f i x)/\Sp h h' []:=by
 refine Cf x a b ?_;unfold rK;refine(Sp.refl h).boxed fun m n c=>?_;have d:=k.ah c.ah k.lt;have g:=l.ah c.ah l.lt;refine⟨x.1,(c.box 0 rfl).cell0 rfl,f.1,d.cell0 rfl,dN (fun e=>?_) fun e=>?_⟩
 ·refine⟨x.2.2.1,(c.box 0 rfl).cell rfl,f.2.2.1,d.cell rfl,dN (fun j=>?_) fun j=>?_⟩
  ·refine⟨x.2.1,(c.box 0 rfl).cell rfl,i,g.cell0 rfl,?_,.zip c.ah⟩;congr 1;unfold iS;rw[e,j];simp
  ·refine⟨?_,.zip c.ah⟩;congr 1;unfold iS;simp[j]
 ·refine⟨?_,.zip c.ah⟩;congr 1;unfold iS;simp[e]
theorem Ns(l:Sl)(rows:List jn)(f:jn)(i:Int)(a b:Addr)(h:Heap)(t:Rd h l 5 bK rows)(E:rows.length<=2^30)(s:bZ h a 214 (bK f))(w:bZ h b 3 [vQ vW i]):
  ac xa 206 #[l,.func (.func 207) #[] #[vS (some a),vS (some b)]] h fun v h'=>v=vQ vW (if rows.findIdx (iS f i)<rows.length then(rows.findIdx (iS f i):Int)else-1)/\Sp h h' []:=by
 refine jx l (207,#[],#[vS (some a),vS (some b)]) ?_;unfold fS;have y:=t.len;refine az (fun i:Nat=>(i:Int)) (fun k h'=>Sp h h' []/\k<=rows.length/\∀j (o:j<rows.length),j<k->iS f i rows[j]=false) (fun k=>rows.length-k) 0 rfl ⟨Sp.refl h,by omega,fun j _ o=>by omega⟩ ?_;rintro k B ⟨m,F,d⟩;refine al (fun e=>?_) (fun e=>?_)
 ·have c:k<rows.length:=by
   have z:(k:Int)<(l.len:Int):=e;omega
  refine(Seq.up t m.ah).dE (g:=bK) k rfl c rows[k] rfl (eZ rfl ?_);refine(Me rows[k] f i a b B (s.ah m.ah s.lt) (w.ah m.ah w.lt)).mono ?_;rintro _ D ⟨rfl,u⟩;refine⟨_,rfl,bq (fun r=>?_) (fun r=>?_)⟩
  ·rw[LX c d r,if_pos c];exact⟨rfl,m.up u.ah⟩
  ·refine⟨k+1,by rw[an _];rfl,⟨m.up u.ah,by omega,fun j o q=>?_⟩,by omega⟩;rcases zQ.1 q with h3|rfl
   ·exact d j o h3
   ·exact r
 ·have z:¬(k:Int)<(l.len:Int):=e;have n:¬rows.findIdx (iS f i)<rows.length:=by
   rw[List.findIdx_lt_length];rintro⟨x,A,p⟩;obtain⟨j,o,rfl⟩:=qN A;rw[d j o (by omega)]at p;cases p
  rw[if_neg n];exact⟨rfl,m⟩
def Hj(p:jn×Pg):Prop:=p.1.1=p.2.seq/\p.1.2.1=p.2.num/\p.1.2.2.1=p.2.many
theorem Bw{p f:jn×Pg}(a:Hj p)(b:Hj f)(i:Int):iS f.1 i p.1=pf f.2 i p.2:=by
 unfold iS pf;rw[a.1,a.2.1,a.2.2,b.1,b.2.2];rw[Bool.eq_iff_iff];simp
theorem WE{L:List (jn×Pg)}{f:jn×Pg}(e:∀p∈L,Hj p)(c:Hj f)(i:Int){k:Nat}(b:(L.map qx).findIdx (iS f.1 i)=k):
  if a:k<L.length then(L.map ze).find? (pf f.2 i)=some L[k].2 else(L.map ze).find? (pf f.2 i)=none:=by
 split
 ·rename_i a;have l:(L.map qx).findIdx (iS f.1 i)<(L.map qx).length:=by rw[b,qC];exact a
  rw[List.find?_eq_some_iff_getElem];have h:=List.findIdx_getElem (p:=iS f.1 i) (xs:=L.map qx) (w:=l);simp only[b,yt]at h;rw[Bw (e _ (qn a)) c]at h;refine⟨h,k,by simpa using a,by simp,fun j o=>?_⟩;have d:=List.not_of_lt_findIdx (p:=iS f.1 i) (xs:=L.map qx) (i:=j) (by rw[b];exact o);simp only[yt]at d⊢;rw[Bw (e _ (qn _)) c]at d;simpa using d
 ·rename_i a;rw[yB];intro g n;obtain⟨p,m,rfl⟩:=qE.1 n;intro q;apply a;rw[<-b];have:(L.map qx).findIdx (iS f.1 i)<(L.map qx).length:=List.findIdx_lt_length.2 ⟨p.1,qE.2 ⟨p,m,rfl⟩,by rw[Bw (e p m) c];exact q⟩;simpa using this
end
section
theorem Nt(l:Sl)(L:List (jn×Pg))(f:jn×Pg)(h:Heap)(S:Rd h l 5 bK (L.map qx))(hs:L.length<=2^30)(T:∀p∈L,Hj p)(R:f∈L)(hm:f.2.many<=2^20):
  ac xa 158 #[l,Db f.1] h fun v h'=>(it (L.map ze) f.2=none/\(∃o:Sl,v=.tuple #[o,vU false])/\Sp h h' [])∨
   ∃(o:Sl) (G:List (jn×Pg)),it (L.map ze) f.2=some (G.map ze)/\(∀p∈G,p∈L)/\G.length<=2^20+1/\v=.tuple #[o,vU true]/\Sp h h' [aj 214 o 5 bK (G.map qx)]:=by
 have w:=T f R;have r:f.1.2.2.1=f.2.many:=w.2.2;refine Fi l f.1 ?_;unfold xp;refine(Sp.refl h).boxed fun j Z H=>?_;have H:Sp h Z [ag j 214 (bK f.1)]:=H;refine⟨f.1,(H.box 0 rfl).aF _ rfl,?_⟩;refine H.lit af bK SE rfl [f.1] rfl (show 1*5<=2^20 by decide) rfl fun v3 h2 H2=>?_;refine H2.alloc af rfl fun a4 h3 M=>?_;have M:Sp h h3 [ag j 214 (bK f.1),aj 214 v3 5 bK [f.1],ag a4 3 [vQ vW 0]]:=M;refine M.storeAll af 2 rfl rfl [vQ vW 1] rfl rfl rfl rfl fun h4 N=>?_;have N:Sp h h4 [ag j 214 (bK f.1),aj 214 v3 5 bK [f.1],ag a4 3 [vQ vW 1]]:=N;refine az (fun t:Nat×Sl×Addr=>(t.2.1,t.2.2)) (fun t h'=>∃G:List (jn×Pg),gX (L.map ze) f.2 t.1=some (G.map ze)/\(∀p∈G,p∈L)/\G.length=t.1+1/\(t.1:Int)<=2^20/\(0<t.1->(t.1:Int)<f.2.many)/\
  Sp h h' [ag j 214 (bK f.1),aj 214 t.2.1 5 bK (G.map qx),ag t.2.2 3 [vQ vW ((t.1+1:Nat):Int)]]) (fun t=>2^20+1-t.1) (0,v3,a4) rfl ⟨[f],rfl,fun p O=>by rw[qB.1 O];exact R,rfl,by show((0:Nat):Int)<=2^20;decide,fun u=>absurd u (Nat.lt_irrefl _),N⟩ ?_
 rintro⟨n,o,b⟩ h5 ⟨G,F,y,I,hn,A,a⟩;dsimp only at F I hn A a⊢;refine⟨((n+1:Nat):Int),(a.box 2 rfl).cell0 rfl,f.1.2.2.1,(a.box 0 rfl).cell rfl,al (fun e=>?_) fun e=>?_⟩
 ·rw[r]at e;refine(Ns l (L.map qx) f.1 ((n+1:Nat):Int) j b h5 (Seq.up S a.ah) (by simpa using hs) (a.box 0 rfl) (a.box 2 rfl)).mono ?_;rintro _ h6 ⟨rfl,X⟩;have P:=a.up X.ah;obtain⟨k,V⟩:∃k,(L.map qx).findIdx (iS f.1 ((n+1:Nat):Int))=k:=⟨_,rfl⟩
  have d:=WE T w ((n+1:Nat):Int) V;rw[V];refine⟨_,rfl,al (fun B=>?_) fun B=>?_⟩
  ·have Q:¬k<L.length:=fun u=>by
    rw[if_pos (by simpa using u)]at B;have B:(k:Int)<0:=B;omega
   rw[dif_neg Q]at d;refine .inl ⟨?_,⟨⟨none,0,0⟩,rfl⟩,.zip P.ah⟩;unfold it;rw[if_neg (by omega)];refine Md (n:=n+1) ?_ (by omega);unfold gX;rw[F];dsimp only;rw[d]
  ·have i:k<L.length:=by
    refine Decidable.byContradiction fun u=>B ?_;rw[if_neg (by simpa using u)];decide
   rw[dif_pos i]at d;rw[if_pos (show k<(L.map qx).length by simpa using i)];refine(Seq.up S P.ah).dE (g:=bK) k rfl (by simpa using i) L[k].1 (by simp) ?_;refine P.lit af bK SE rfl [L[k].1] rfl (show 1*5<=2^20 by decide) rfl fun s h7 E=>?_;have E:=E.cl;refine E.append af 2 rfl SE ⟨_,_,rfl,rfl⟩ rfl (by decide) (fun _=>rfl) (E.seq 0 rfl fun _=>rfl) SD (by simp;omega) fun c h8 D=>?_;have D:Sp h h8 [aj 214 s 5 bK [L[k].1],ag j 214 (bK f.1),aj 214 c 5 bK (G.map qx++[L[k].1]),ag b 3 [vQ vW ((n+1:Nat):Int)]]:=D;refine⟨_,(D.box 3 rfl).cell0 rfl,?_⟩;refine D.alloc af rfl fun m W K=>?_;have K:Sp h W [aj 214 s 5 bK [L[k].1],ag j 214 (bK f.1),aj 214 c 5 bK (G.map qx++[L[k].1]),ag b 3 [vQ vW ((n+1:Nat):Int)],ag m 3 [vQ vW 0]]:=K;refine K.storeAll af 4 rfl rfl [vQ vW ((n+1:Nat):Int)] rfl rfl rfl rfl fun ad x=>?_;refine⟨_,(x.box 4 rfl).cell0 rfl,?_⟩;rw[an _];refine x.storeAll af 4 rfl rfl [vQ vW (((n+1:Nat):Int)+1)] rfl rfl rfl rfl fun J q=>?_;have q:Sp h J [aj 214 s 5 bK [L[k].1],ag j 214 (bK f.1),aj 214 c 5 bK (G.map qx++[L[k].1]),ag b 3 [vQ vW ((n+1:Nat):Int)],ag m 3 [vQ vW (((n+1:Nat):Int)+1)]]:=q;refine⟨(n+1,c,m),rfl,⟨G++[L[k]],?_,?_,by simp;omega,by dsimp only;omega,fun _=>by dsimp only;omega,?_⟩,by dsimp only;omega⟩
   ·dsimp only;unfold gX;rw[F];dsimp only;rw[d];simp
   ·intro p O;rcases qH.1 O with h|h
    ·exact y p h
    ·rw[qB.1 h];exact qn i
   ·have:=q.ca [1,2,4];simpa using this
 ·rw[r]at e;refine⟨f.1.2.2.1,(a.box 0 rfl).cell rfl,?_⟩;rw[r];by_cases U:f.2.many>0
  ·have Y:f.2.many.toNat-1=n:=by
    by_cases z:0<n
    ·have:=A z;omega
    ·omega
   refine .inr ⟨o,G,?_,y,by omega,?_,a.ca [1]⟩
   ·unfold it;rw[if_neg (by omega),Y];exact F
   ·rw[decide_eq_true U]
  ·refine .inl ⟨?_,⟨o,?_⟩,.zip a.ah⟩
   ·unfold it;rw[if_pos (by omega)]
   ·rw[decide_eq_false U]
end
section
theorem Nu(c:Sl)(x:jn)(b d:aL)(h:Heap)(e:Rd h c 1 aw b)(f:Rd h x.2.2.2.2 1 aw d):
  ac xa 210 #[c,Db x] h fun v h'=>v=vU (decide (b=d))/\Sp h h' []:=by
 refine DI c x ?_;unfold tl;refine(Sp.refl h).boxed fun i g a=>?_;refine⟨x.2.2.2.2,(a.box 0 rfl).cell rfl,(jb c x.2.2.2.2 b d g (Seq.up e a.ah) (Seq.up f a.ah)).mono ?_⟩;rintro _ _ ⟨rfl,rfl⟩;exact⟨_,rfl,rfl,.zip a.ah⟩
theorem Nv(s l:Sl)(b:bR)(G:List (jn×Pg))(h:Heap)(m:dU h s 1 aw b)(B:Rd h l 5 bK (G.map qx))(K:∀p∈G,Rd h p.1.2.2.2.2 1 aw p.2.cell)(O:G.length<=2^30):
  ac xa 209 #[s,l,.func (.func 210) #[] #[]] h fun v h'=>v=vU (decide (b=G.map fun p=>p.2.cell))/\Sp h h' []:=by
 refine gd s l (210,#[],#[]) ?_;unfold dD;obtain⟨rs,m⟩:=m;have L:=m.Ti;have u:=B.len;simp only[qC]at u;refine ci (fun e=>?_) (fun e=>?_)
 ·refine⟨?_,Sp.refl h⟩;rw[decide_eq_false];intro q;have:=congrArg List.length q;simp only[qC]at this;omega
 have F:b.length=G.length:=by omega
 refine az (fun i:Nat=>(i:Int)) (fun k h'=>Sp h h' []/\k<=b.length/\∀j (w:j<b.length),j<k->b[j]=(G[j]'(by omega)).2.cell) (fun k=>b.length-k) 0 rfl ⟨Sp.refl h,by omega,fun j _ w=>by omega⟩ ?_;rintro k L ⟨o,N,n⟩;refine al (fun e=>?_) (fun e=>?_)
 ·have d:k<b.length:=by
   have I:(k:Int)<(s.len:Int):=e;omega
  have c:k<G.length:=by omega
  refine(fv.up m o.ah).Ov k rfl d fun a r _ M y=>?_;refine(Seq.up B o.ah).dE (g:=bK) k rfl (by simpa using c) G[k].1 (by simp) ?_;refine o.alloc af rfl fun E u x=>?_;have x:Sp h u [ag E 214 (bK oE)]:=x;refine x.storeAll af 0 rfl rfl (bK G[k].1) rfl rfl rfl rfl fun h3 f=>?_;have f:Sp h h3 [ag E 214 (bK G[k].1)]:=f;refine⟨G[k].1,(f.box 0 rfl).aF _ rfl,eZ rfl ?_⟩;have z:Rd h3 r 1 aw b[k]:=Seq.up (m.row k r b[k] y (qd d)) f.ah;refine(Nu r G[k].1 b[k] G[k].2.cell h3 z (Seq.up (K _ (qn c)) f.ah)).mono ?_;rintro _ H ⟨rfl,J⟩;have D:Sp h H []:=.zip (f.up J.ah).ah;refine⟨_,rfl,aW (fun A=>?_) (fun A=>?_)⟩
  ·refine⟨?_,D⟩;rw[decide_eq_false];intro q;refine of_decide_eq_false A ?_;have:b[k]?=(G.map fun p=>p.2.cell)[k]?:=by rw[q]
   simpa[d,c]using this
  ·refine⟨k+1,by rw[an _];rfl,⟨D,by omega,fun j w t=>?_⟩,by omega⟩;rcases zQ.1 t with h3|rfl
   ·exact n j w h3
   ·exact of_decide_eq_true A
 ·have I:¬(k:Int)<(s.len:Int):=e;refine⟨?_,o⟩;rw[decide_eq_true];refine yr (by simp;omega) fun j h3 H=>?_;rw[n j h3 (by omega)];simp
end
section
structure YI (h:Heap) (p:jn×Pg):Prop where
 bears:Rd h p.1.2.2.2.1 1 aw p.2.bears
 cell:Rd h p.1.2.2.2.2 1 aw p.2.cell
 len:p.2.bears.length<=48
theorem SF{s:List Pg}(h:iz (s.flatMap Pg.bears)=none):jM s=none:=by
 unfold jM;rw[h]
theorem Qe{s:List Pg}{m:ar}(h:iz (s.flatMap Pg.bears)=some m):jM s=if aP m=s.map Pg.cell then some m else none:=by
 unfold jM;rw[h]
abbrev fm:ar:=⟨0,0,(0,0,0),0,[],[]⟩
theorem aa.bJ{B:ap}{a h:Heap}{As:List HP}(H:aa B a h As):aa B a h (bt bJ fm::As):=
 aa.Iv ⟨rfl,rfl,rfl,rfl⟩ ((((H.Ox 73 4 bv fE).cl).nil 3 1 aE).cl)
theorem UB:cn fm:=⟨by decide,by decide,fun _ a=>absurd a yv⟩
theorem SG{G:List (jn×Pg)}(a:∀p∈G,p.2.bears.length<=48):∀i,((G.take i).flatMap fun p=>p.2.bears).length<=48*i:=by
 intro i
 induction i with
 |zero=>simp
 |succ i ih=>
  by_cases h:i<G.length
  ·rw[aK _ _ h,qY,qw];have:=a _ (qn h);simp only[zf,wx,qM];omega
  ·rw[qi (by omega)]at ih⊢;omega
theorem Nw(l:Sl)(G:List (jn×Pg))(h:Heap)(F:Rd h l 5 bK (G.map qx))(H:∀p∈G,YI h p)(hn:G.length<=2^21):
  ac xa 159 #[l] h fun v h'=>∃(m:ar) (x:bn) (ok:Bool),v=.tuple #[cN x,vU ok]/\Sp h h' [bt x m]/\cn m/\jM (G.map ze)=if ok then some m else none:=by
 refine GK l ?_;unfold AE;have D:=F.len;simp only[qC]at D;have L:=SG (fun p f=>(H p f).len);refine(Sp.refl h).alloc af rfl fun b W N=>?_;have N:Sp h W [ag b 47 (aq bJ),aj 5 ⟨none,0,0⟩ 1 aw []]:=N.nil 5 1 aw;refine az (fun t:Nat×Sl=>(t.2,(t.1:Int))) (fun t h'=>t.1<=G.length/\Sp h h' [ag b 47 (aq bJ),aj 5 t.2 1 aw ((G.take t.1).flatMap fun p=>p.2.bears)]) (fun t=>G.length-t.1) (0,⟨none,0,0⟩) rfl ⟨zo _,N⟩ ?_;rintro⟨i,o⟩ U ⟨X,d⟩;dsimp only at X d⊢;have A:=L i;refine al (fun e=>?_) fun e=>?_
 ·have a:i<G.length:=by omega
  refine(Seq.up F d.ah).dE (g:=bK) i rfl (by simpa using a) G[i].1 (by simp) ?_;refine d.alloc af rfl fun a5 h3 I=>?_;have I:Sp h h3 [ag b 47 (aq bJ),aj 5 o 1 aw ((G.take i).flatMap fun p=>p.2.bears),ag a5 214 (bK oE)]:=I;refine I.storeAll af 2 rfl rfl (bK G[i].1) rfl rfl rfl rfl fun Y s=>?_;have s:Sp h Y [ag b 47 (aq bJ),aj 5 o 1 aw ((G.take i).flatMap fun p=>p.2.bears),ag a5 214 (bK G[i].1)]:=s;have P:=H _ (qn a);refine⟨G[i].1.2.2.2.1,(s.box 2 rfl).cell rfl,?_⟩;refine s.append af 1 rfl iA ⟨_,_,rfl,rfl⟩ rfl (by decide) (fun _=>rfl) (Seq.up P.bears s.ah) fX (by have:=P.len;omega) fun Q Z E=>?_;refine⟨(i+1,Q),by rw[an _];rfl,⟨a,?_⟩,by dsimp only;omega⟩;have E:Sp h Z [ag b 47 (aq bJ),aj 5 Q 1 aw (((G.take i).flatMap fun p=>p.2.bears)++G[i].2.bears),ag a5 214 (bK G[i].1)]:=E;have:=E.ca [0,1];dsimp only;rw[aK _ _ a,qY];simpa using this
 ·have a:i=G.length:=by omega
  subst a;rw[zc]at d A;obtain⟨c,r⟩:∃c,c=(G.map ze).flatMap Pg.bears:=⟨_,rfl⟩
  rw[show(G.flatMap fun p=>p.2.bears)=c from by rw[r,List.flatMap_map]]at d A;refine(Qc o c U (d.seq 1 rfl fun _=>rfl) (d.own 1 rfl).cap).mono ?_;rintro _ T (⟨f,rfl,R6⟩|⟨m,x,f,rfl,R6⟩)
  ·refine⟨(bJ,false),rfl,?_⟩;have K:=d.up R6.ah;refine K.alloc af rfl fun a9 M k=>?_;have k:Sp h M [ag b 47 (aq bJ),aj 5 o 1 aw c,ag a9 47 (aq bJ)]:=k;refine k.storeAll af 2 rfl rfl (aq bJ) rfl rfl rfl rfl fun h8 j=>?_;refine aW (fun _=>?_) fun e=>by cases e
   refine j.storeAll af 0 rfl rfl (aq bJ) rfl rfl rfl rfl fun h9 O=>?_;refine⟨bJ,(O.box 0 rfl).aF _ rfl,fm,bJ,false,rfl,(Go.Qw.aa.bJ O).ca [0],UB,?_⟩;exact SF (by rw[<-r];exact f)
  ·refine⟨(x,true),rfl,?_⟩;have R:cn m:=nr (uy.1 f).1;have K:Sp h T [ag b 47 (aq bJ),aj 5 o 1 aw c,bt x m]:=d.comp R6;refine K.alloc af rfl fun a9 M k=>?_;have k:Sp h M [ag b 47 (aq bJ),aj 5 o 1 aw c,bt x m,ag a9 47 (aq bJ)]:=k;refine k.storeAll af 3 rfl rfl (aq x) rfl rfl rfl rfl fun h8 j=>?_;have j:Sp h h8 [ag b 47 (aq bJ),aj 5 o 1 aw c,bt x m,ag a9 47 (aq x)]:=j;refine aW (fun e=>by cases e) fun _=>?_;refine⟨x,(j.box 3 rfl).aF _ rfl,(kG x m h8 (j.at 2 rfl) R).mono ?_⟩;rintro _ z ⟨n,rfl,y⟩;have q:Sp h z [ag b 47 (aq bJ),aj 5 o 1 aw c,bt x m,ag a9 47 (aq x),cz n (aP m)]:=j.comp y;refine⟨n,rfl,(Nv n l (aP m) G z (aa.yI y fun _=>rfl) (Seq.up F q.ah) (fun p f=>Seq.up (H p f).cell q.ah) (by omega)).mono ?_⟩;rintro _ S ⟨rfl,J⟩;have u:=q.up J.ah;refine⟨_,rfl,x,(u.box 3 rfl).aF _ rfl,?_⟩;refine u.storeAll af 0 rfl rfl (aq x) rfl rfl rfl rfl fun V w=>?_;refine⟨x,(w.box 0 rfl).aF _ rfl,m,x,_,rfl,w.ca [2],R,?_⟩;rw[Qe (by rw[<-r];exact f),we];show(if aP m=G.map (fun p=>p.2.cell)then some m else none)=_;by_cases B:aP m=G.map fun p=>p.2.cell
   ·rw[if_pos B,decide_eq_true B];rfl
   ·rw[if_neg B,decide_eq_false B];rfl
end
end Go.Qw
namespace Wl
theorem Oe(x c:aL)(a:(x.getD 6 0).toNat<=48):(LS x c).bears.length<=48/\(LS x c).many<=255:=
 ⟨by show((x.drop 7).take _).length<=48;rw[qR];omega,by show((x.getD 5 0).toNat:Int)<=255;have:=(x.getD 5 0).toNat_lt;omega⟩
theorem SH{c:aL}{g:Pg}(h:bU c=some g):g.bears.length<=48/\g.many<=255/\g.cell=c:=by
 refine⟨?_,?_,CX h⟩
 all_goals
  unfold bU at h;split at h
  ·split at h
   ·rename_i a;injection h with h
    rw[<-h]
    first
     |exact(Oe _ _ a.2.1).1
     |exact(Oe _ _ a.2.1).2
   ·cases h
  ·cases h
end Wl
namespace Go.Qw
open Go Go.Vc Go.Proofs Wl
section
structure Qf (ll:bR) (rs:List Sl) (pool:List (Sl×aL)) (p:jn×Pg):Prop where
 ok:Hj p
 bears:(p.1.2.2.2.1,p.2.bears)∈pool
 len:p.2.bears.length<=48
 many:p.2.many<=255
 cell:∃k:Nat,rs[k]?=some p.1.2.2.2.2/\ll[k]?=some p.2.cell
theorem Qf.more{b:bR}{rs:List Sl}{pool:List (Sl×aL)}{p:jn×Pg}(a:Qf b rs pool p)(y:Sl×aL):Qf b rs (y::pool) p:=⟨a.ok,q0 _ a.bears,a.len,a.many,a.cell⟩
def dL:jf bn ar:=⟨fun h q x m=>nG h q x m,fun a c=>a.ah c,fun a b=>a.mono b⟩
theorem WF:∀x,∀c∈aq x,c.oneCell'=true:=by intro x c a;simp[aq]at a;rcases a with rfl|rfl|rfl|rfl|rfl|rfl|rfl|rfl<;>rfl
abbrev YJ:bN C.tosH 128 47 8 (aq bJ) 96:=⟨_,_,rfl,rfl,rfl,rfl,rfl,rfl⟩
theorem Vz:Tryz.prog.underlying 217=some (.map 9 4):=by kernel_rfl
theorem VA:Tryz.prog.underlying 9=some .string:=by kernel_rfl
theorem SI:aA xa (zeroValue 4) (vU false):=by
 have h:(Tryz.prog.info? 4).bind (·.zero)=some (vU false):=by kernel_rfl
 cases hf:Tryz.prog.info? 4 with
 |none=>rw[hf]at h;cases h
 |some f=>
  rw[hf]at h;refine(co hf).bind ?_;rw[show f.zero=some (vU false)from h];exact .pure
def jD(m:ar):ByteArray×Bool:=(⟨(bo m).toArray⟩,true)
theorem SJ{a b:aL}(h:(⟨a.toArray⟩:ByteArray)=⟨b.toArray⟩):a=b:=by
 injection h with h;exact List.toArray_inj h
theorem UC(m:ar)(out:List ar)(h:(out.any fun y=>decide (bo y=bo m))=false):fW ⟨(bo m).toArray⟩ (out.map jD)=none:=by
 rw[EG];intro q c b;obtain⟨y,a,rfl⟩:=qE.1 c;rw[wM]at h;exact h y a (decide_eq_true (SJ b))
theorem Hk(m:ar):∀out:List ar,(fW ⟨(bo m).toArray⟩ (out.map jD)).getD false=out.any fun y=>decide (bo y=bo m)
 |[]=>rfl
 |y::t=>by
  rw[List.map_cons,List.any_cons];unfold jD fW;by_cases e:bo y=bo m
  ·rw[if_pos (by rw[e]),decide_eq_true e];rfl
  ·rw[if_neg (fun a=>e (SJ a)),decide_eq_false e,Bool.false_or];exact Hk m t
end
section
variable {B:ap} {h0 h h':Heap} {As:List HP} {s:Sl} {d:List bn}
def UD(a b:bn):Int:=fF b.1 a.1
def iE(a b:bn):Bool:=decide (b.1<=a.1)
theorem Mf(a b:bn):UD a b<0↔¬iE b a=true:=by
 unfold UD iE fF;by_cases h:b.1<a.1
 ·rw[if_pos h];simp;omega
 ·rw[if_neg h];split<;>simp<;>omega
theorem Bx:Ord iE:=⟨fun a b c e d=>decide_eq_true (by have:=of_decide_eq_true e;have:=of_decide_eq_true d;omega),fun a b=>by
 unfold iE;rw[Bool.or_eq_true,decide_eq_true_eq,decide_eq_true_eq];omega⟩
abbrev rf(s:Sl)(d:List bn):HP:=aj 47 s 8 aq d
theorem Qg(a b:bn)(h:Heap):ac xa 161 #[cN a,cN b] h fun v h'=>v=vQ vW (UD a b)/\Sp h h' []:=by
 refine Fj a b ?_;unfold xq;refine(Sp.refl h).boxed fun e g f=>f.boxed fun a2 d c=>?_;have c:Sp h d [ag e 47 (aq a),ag a2 47 (aq b)]:=c;refine⟨b.1,(c.box 1 rfl).cell0 rfl,a.1,(c.box 0 rfl).cell0 rfl,(lp b.1 a.1 d).mono ?_⟩;rintro _ _ ⟨rfl,rfl⟩;exact⟨_,rfl,rfl,.zip c.ah⟩
theorem Nx{c b:List bn}{y:bn}(d:Sd iE (c++b))(g:∀z∈c,iE z y=true)(f:∀z∈b,¬iE z y=true):Sd iE (c++y::b):=
 Sd.app Bx d.left (zF.2 ⟨fun z a=>Bx.sO (f z a),d.right⟩) fun x e z a=>by
  rcases zj.1 a with rfl|a
  ·exact g x e
  ·exact d.rB x e z a
theorem Ga(X M Y:List bn)(a b:Int)(ha:a=(X.length:Int))(hb:b=(X.length+M.length:Nat))(am:X.length+M.length+Y.length<=2^40)(H:aa B h0 h (rf s (X++(M++Y))::As)):
  ac xa 236 #[s,vQ vW a,vQ vW b,.func (.func 161) #[] #[]] h fun v h'=>v=.tuple #[]/\∃Z,Sd iE Z/\bG iE M Z/\aa B h0 h' (rf s (X++(Z++Y))::As):=by
 refine iL s a b (161,#[],#[]) ?_;unfold fh;subst ha;subst hb;rw[an ((X.length:Int)+1)];refine az (fun t:Nat×List bn=>((X.length+1+t.1:Nat):Int)) (fun t h'=>(t.1+1<=M.length∨t.1=0)/\Sd iE t.2/\bG iE (M.take (t.1+1)) t.2/\t.2.length=(M.take (t.1+1)).length/\aa B h0 h' (rf s (X++(t.2++(M.drop (t.1+1)++Y)))::As)) (fun t=>M.length-t.1) (0,M.take 1) rfl ?_ ?_
 ·refine⟨.inr rfl,?_,bG.refl _,rfl,?_⟩
  ·cases M with
   |nil=>exact List.Pairwise.nil
   |cons x M=>exact zF.2 ⟨fun _ h=>by simp at h,by simp⟩
  ·rw[<-qm (M.take (0+1)),List.take_append_drop];exact H
 rintro⟨t,P⟩ h1 ⟨ht,p,E,V,S⟩;dsimp only at*;refine al (fun e=>?_) (fun e=>?_)
 ·have K:t+1<M.length:=by omega
  obtain⟨y,hy⟩:∃y,y=M[t+1]:=⟨_,rfl⟩
  have G:P.length=t+1:=by rw[V];simp;omega
  have eD:M.drop (t+1)=y::M.drop (t+1+1):=by rw[qS K,hy]
  rw[eD]at S;refine az (fun u:List bn×List bn=>((X.length+u.1.length:Nat):Int)) (fun u h'=>u.1++u.2=P/\(∀z∈u.2,¬iE z y=true)/\aa B h0 h' (rf s (X++(u.1++(y::(u.2++(M.drop (t+1+1)++Y)))))::As)) (fun u=>u.1.length) (P,[]) (by dsimp only;rw[G];congr 1;omega) ⟨by simp,by simp,by simpa using S⟩ ?_;rintro⟨c,d⟩ h2 ⟨J,f,L⟩;dsimp only at*;have ax:c.length+d.length=t+1:=by rw[<-G,<-J,qw]
  have k:∀{h':Heap},(∀z∈c,iE z y=true)->aa B h0 h' (rf s (X++(c++(y::(d++(M.drop (t+1+1)++Y)))))::As)->
    ∃l:Nat×List bn,qc vW (((X.length+1+t:Nat):Int)+1)=((X.length+1+l.1:Nat):Int)/\((l.1+1<=M.length∨l.1=0)/\Sd iE l.2/\bG iE (M.take (l.1+1)) l.2/\l.2.length=(M.take (l.1+1)).length/\aa B h0 h' (rf s (X++(l.2++(M.drop (l.1+1)++Y)))::As))/\M.length-l.1<M.length-t:=fun{h'} hle H'=>by
   refine⟨(t+1,c++y::d),by dsimp only;rw[an _];omega,⟨.inl (by dsimp only;omega),?_,?_,?_,?_⟩,by dsimp only;omega⟩
   ·exact Nx (by rw[J];exact p) hle f
   ·dsimp only;rw[aK M (t+1) K,<-hy];have h1:bG iE (M.take (t+1)++[y]) (P++[y]):=E.app (bG.refl _);refine h1.trans ?_;rw[<-J,qm];have h2:bG iE (d++[y]) ([y]++d):=bG.NM Bx fun x hx z U=>by rw[qB.1 U];exact f x hx
    exact(bG.refl _).app h2
   ·dsimp only;simp;omega
   ·dsimp only;have:X++((c++y::d)++(M.drop (t+1+1)++Y))=X++(c++(y::(d++(M.drop (t+1+1)++Y)))):=by simp
    rw[this];exact H'
  obtain⟨D,O⟩:∃D,D=X++(c++(y::(d++(M.drop (t+1+1)++Y)))):=⟨_,rfl⟩
  refine cv (fun _ h'=>∃(Q:List bn) (z:bn),c=Q++[z]/\¬iE z y=true/\aa B h0 h' (rf s D::As)) ?_ ?_
  ·rw[<-O]at L k;refine al (fun R=>?_) (fun R=>⟨trivial,k (fun z U=>?_) L⟩)
   ·have I:c≠[]:=fun h=>by rw[h]at R;simp at R
    obtain⟨Q,z,n⟩:∃(Q:List bn) (z:bn),c=Q++[z]:=⟨c.dropLast,c.getLast I,(w4 I).symm⟩
    have ad:c.length=Q.length+1:=by rw[n];simp
    have g1:D[X.length+c.length]?=some y:=by
     rw[O,qg (by omega),show X.length+c.length-X.length=c.length by omega,qg (by omega),qZ];rfl
    have g2:D[X.length+c.length-1]?=some z:=by
     rw[O,qg (by omega),show X.length+c.length-1-X.length=Q.length by omega,n,qm,qg (qp _),qZ];rfl
    obtain⟨N,A⟩:=qk.1 g1;obtain⟨T,q⟩:=qk.1 g2;refine(L.seq 0 rfl fun _=>rfl).dE (g:=aq) _ rfl N y (by rw[A]) ?_;have ej:qc vW (((X.length+c.length:Nat):Int)-1)=((X.length+c.length-1:Nat):Int):=by rw[an _];omega
    rw[ej];refine(L.seq 0 rfl fun _=>rfl).dE (g:=aq) _ rfl T z (by rw[q]) (eZ (by rfl) ?_);refine(Qg y z h2).mono ?_;rintro _ h3 ⟨rfl,R3⟩;have F:=L.up R3.ah;refine⟨_,rfl,trivial,al (fun W=>⟨Q,z,n,(Mf y z).1 W,F⟩) fun W=>k (fun w m=>?_) F⟩;have o:iE z y=true:=by
     by_cases hc:iE z y=true
     ·exact hc
     ·exact absurd ((Mf y z).2 hc) W
    rw[n]at m;rcases qH.1 m with m|m
    ·refine Bx.trans _ _ _ ?_ o;have:Sd iE (Q++[z]):=by rw[<-n];exact Sd.left (v:=d) (by rw[J];exact p)
     exact this.rB w m z (by simp)
    ·rw[qB.1 m];exact o
   ·have:c=[]:=by
     cases c with
     |nil=>rfl
     |cons x P=>exfalso;simp only[zi]at R;omega
    rw[this]at U;cases U
  ·rintro _ h3 ⟨Q,z,n,o,F⟩;have ad:c.length=Q.length+1:=by rw[n];simp
   have r:D=(X++Q)++z::([]++y::(d++(M.drop (t+1+1)++Y))):=by rw[O,n];simp
   obtain⟨q1,q2,q3,q4⟩:=GV (X++Q) [] (d++(M.drop (t+1+1)++Y)) z y (i:=X.length+c.length-1) (j:=X.length+c.length) (by simp;omega) (by simp;omega);rw[<-r]at q1 q2 q3 q4;obtain⟨T,q⟩:=qk.1 q1;obtain⟨N,A⟩:=qk.1 q2;have ej:qc vW (((X.length+c.length:Nat):Int)-1)=((X.length+c.length-1:Nat):Int):=by rw[an _];omega
   rw[ej];refine(F.seq 0 rfl fun _=>rfl).dE (g:=aq) _ rfl T z (by rw[q]) ?_;refine(F.seq 0 rfl fun _=>rfl).dE (g:=aq) _ rfl N y (by rw[A]) ?_;refine F.set af 0 rfl (fun _=>rfl) rfl (X.length+c.length) rfl N z rfl rfl rfl fun h4 H4=>⟨trivial,?_⟩
   refine H4.set af 0 rfl (fun _=>rfl) rfl (X.length+c.length-1) rfl (by simpa using T) y rfl rfl rfl fun h5 H5=>⟨trivial,?_⟩
   refine⟨(Q,z::d),by dsimp only;congr 1;omega,⟨by dsimp only;rw[<-J,n];simp,?_,?_⟩,by dsimp only;omega⟩
   ·dsimp only;intro w m;rcases zj.1 m with rfl|m
    ·exact o
    ·exact f w m
   ·dsimp only;have:X++(Q++(y::(z::d++(M.drop (t+1+1)++Y))))=(X++Q)++y::([]++z::(d++(M.drop (t+1+1)++Y))):=by simp
    rw[this,<-q4];exact H5
 ·refine⟨rfl,P,p,?_,?_⟩
  ·rw[qi (by omega)]at E;exact E
  ·rw[List.drop_of_length_le (by omega)]at S;simpa using S
end
section
variable {B:ap} {h0 h h':Heap} {As:List HP} {s:Sl}
theorem Mg(d:List bn)(n:Int)(i:n=d.length)(j:d.length<20)(H:aa B h0 h (rf s d::As)):
  ac xa 211 #[s,vQ vW n,.func (.func 161) #[] #[]] h fun v h'=>v=.tuple #[]/\∃a,Sd iE a/\bG iE d a/\aa B h0 h' (rf s a::As):=by
 refine ka s n (161,#[],#[]) ?_;unfold gh;refine az (fun _:Unit=>((0:Int),(20:Int))) (fun _ h'=>h'=h) (fun _=>0) () rfl rfl ?_;rintro _ _ rfl;refine al (fun e=>by have e:(20:Int)<=n:=e;omega) fun _=>?_;refine(Ga [] d [] 0 n rfl (by simp[i]) (by simp;omega) (by simpa using H)).mono ?_;rintro _ c ⟨rfl,a,f,b,g⟩;refine⟨(),rfl,?_⟩;refine az (fun _:Unit=>(20:Int)) (fun _ h'=>h'=c) (fun _=>0) () rfl rfl ?_;rintro _ _ rfl;refine al (fun e=>by have e:(20:Int)<n:=e;omega) fun _=>?_;exact⟨rfl,a,f,b,by simpa using g⟩
theorem DW(d:List bn)(b:d.length<20)(H:aa B h0 h (rf s d::As)):
  ac xa 160 #[s,.func (.func 161) #[] #[]] h fun v h'=>v=.tuple #[]/\∃a,Sd iE a/\bG iE d a/\aa B h0 h' (rf s a::As):=by
 refine gw s (161,#[],#[]) ?_;unfold dM;have c:=(H.own 0 rfl).len;refine(Mg d _ (by rw[c]) b H).mono ?_;rintro _ e ⟨rfl,R⟩;exact⟨(),rfl,rfl,R⟩
end
end Go.Qw
namespace Go.Vc
open Go
section
variable {α β:Type} {E:jf α β} {e k:Nat} {f:α->aQ} {B:ap} {h0 h:Heap} {As:List HP} {s:Sl} {ll:List β}
def mM(E:jf α β)(ps:List (α×β)):HP:=⟨fun h q=>∀p∈ps,E.p h q p.1 p.2,fun a c p h=>E.loc (a p h) c,fun a b p h=>E.mono (a p h) b⟩
theorem aa.VB(H:aa B h0 h (cR e s k f E ll::As)):∃ps:List (α×β),ps.map ze=ll/\aa B h0 h (mM E ps::aj e s k f (ps.map qx)::As):=by
 have u:aa B h0 h (HP.ex (fun ps:List (α×β)=>((aj e s k f (ps.map qx)).sep (mM E ps)).and (ps.map ze=ll))::As):=by
  refine H.gn 0 rfl fun q ⟨rs,n,a,b,c,d,w⟩=>⟨rs.zip ll,?_⟩
  have r:(rs.zip ll).map qx=rs:=List.map_fst_zip (by omega);have v:(rs.zip ll).map ze=ll:=List.map_snd_zip (by omega);refine⟨⟨fun b=>s.on b,n,fun x g m=>(b x g).2 m,fun x g=>(b x g).1,c,?_,?_⟩,v⟩
  ·rw[r];exact⟨a,fun _ g=>g⟩
  ·intro p o;obtain⟨i,t,rfl⟩:=qN o;rw[List.length_zip]at t;rw[List.getElem_zip];exact w i _ _ (qd (by omega)) (qd (by omega))
 obtain⟨ps,j⟩:=u.uk;obtain⟨j,l⟩:=j.lA;exact⟨ps,l,j.nO⟩
theorem aa.XV{ps a:List (α×β)}(t:∀p∈a,p∈ps)(H:aa B h0 h (mM E ps::aj e s k f (a.map qx)::As)):aa B h0 h (cR e s k f E (a.map ze)::As):=by
 have v:aa B h0 h ((aj e s k f (a.map qx)).sep (mM E ps)::As):=H.jX;refine v.gn 0 rfl fun q ⟨z,n,u,b,c,d,w⟩=>?_;refine⟨a.map qx,n,d.1,fun x m=>⟨b x (d.2 x m),fun o=>u x (d.2 x m) o⟩,c,by simp,fun i r l g j=>?_⟩;rw[qP]at g j;cases h3:a[i]? with
 |none=>rw[h3]at g;cases g
 |some y=>
  rw[h3]at g j;injection g with g;injection j with j
  subst g j;exact w y (t y (wu h3))
end
end Go.Vc
namespace Go.Qw
open Go Go.Vc Go.Proofs Wl
section
variable {B:ap} {h0 h h':Heap} {As:List HP} {s:Sl}
theorem Qh(l:List ar)(x:l.length<20)(H:aa B h0 h (cR 47 s 8 aq dL l::As)):
  ac xa 160 #[s,.func (.func 161) #[] #[]] h fun v h'=>v=.tuple #[]/\aa B h0 h' (cR 47 s 8 aq dL (l.mergeSort FV)::As):=by
 obtain⟨ps,g,i⟩:=Go.Vc.aa.VB H;have n:ps.length=l.length:=by rw[<-g,qC]
 have f:∀p∈ps,p.1.1=p.2.seq:=fun p d=>(i.at 0 rfl p d).seq;refine(DW (ps.map qx) (by simp;omega) i.jF).mono ?_;rintro _ w ⟨rfl,j,t,m,R⟩;refine⟨rfl,?_⟩;have k:j=(ps.map qx).mergeSort iE:=OM Bx t m;obtain⟨e,c⟩:∃e,e=ps.mergeSort fun a b=>iE a.1 b.1:=⟨_,rfl⟩
 have u:e.map qx=j:=by rw[c,k];exact yd fun _ _ _ _=>rfl
 have o:e.map ze=l.mergeSort FV:=by
  rw[c,<-g];refine yd fun a r b q=>?_;unfold iE FV;rw[f a r,f b q]
 rw[<-o];refine Go.Vc.aa.XV (ps:=ps) (fun p d=>?_) (by rw[u];exact R.jF);rw[c]at d;exact wq.1 d
end
section
theorem Qi(l:Sl)(w:bR)(rs:List Sl)(h:Heap)(hl:fv h (fun b=>b<h.size) l 1 aw w rs)(hn:w.length<=2^20)(hc:∀c∈w,c.length<=2^20)(am:∀r∈rs,r.len<=r.cap)(a3:(eW w).length<20):
  ac xa 120 #[l] h fun v h'=>∃r:Sl,v=r/\(∀m∈eW w,cn m)/\Sp h h' [cR 47 r 8 aq dL (eW w)]:=by
 refine IU l ?_;unfold CH;have b7:=hl.Ti;have X:Sp h h [cQ 1 aw [],aj 214 ⟨none,0,0⟩ 5 bK []]:=((Sp.refl h).NX 1 aw).nil 214 5 bK;refine az (fun t:Nat×Sl=>(t.2,(t.1:Int))) (fun t h'=>t.1<=w.length/\∃(L:List (jn×Pg)) (pool:List (Sl×aL)),L.map ze=(w.take t.1).filterMap bU/\L.length<=t.1/\(∀p∈L,Qf w rs pool p)/\
  Sp h h' [cQ 1 aw pool,aj 214 t.2 5 bK (L.map qx)]) (fun t=>w.length-t.1) (0,⟨none,0,0⟩) rfl ⟨zo _,[],[],rfl,qp _,fun _ q=>absurd q yv,X⟩ ?_
 rintro⟨i,o⟩ h1 ⟨hi,L,pool,hL,bb,hP,X⟩;dsimp only at hi hL bb X⊢;refine al (fun e=>?_) fun e=>?_
 ·have d:i<w.length:=by omega
  refine(fv.up hl X.ah).Ov i rfl d fun a r b9 hr a0=>?_;have ad:r∈rs:=wu a0;refine(Qd r w[i] h1 hr (by have:=hc _ (qn d);omega) (am r ad)).mono ?_;rintro _ h2 (⟨q,rfl,R2⟩|⟨g,r2,q,rfl,R2⟩)
  ·have H2:=X.up R2.ah;refine⟨(oE,false),rfl,?_⟩;refine H2.alloc af rfl fun a5 h3 Z=>?_;have Z:Sp h h3 [cQ 1 aw pool,aj 214 o 5 bK (L.map qx),ag a5 214 (bK oE)]:=Z;refine Z.storeAll af 2 rfl rfl (bK oE) rfl rfl rfl rfl fun h4 H4=>?_;refine bq (fun e=>by cases e) fun _=>?_;refine⟨(i+1,o),by rw[an _];rfl,⟨d,L,pool,?_,by dsimp only;omega,hP,H4.ca [0,1]⟩,by dsimp only;omega⟩;dsimp only;rw[aK _ _ d,yg,hL];simp[q]
  ·have H2:Sp h h2 [cQ 1 aw pool,aj 214 o 5 bK (L.map qx),jo r2 1 aw g.bears]:=X.comp R2;have V:=SH q;obtain⟨y,hy⟩:∃y:jn,y=(g.seq,g.num,g.many,r2,r):=⟨_,rfl⟩
   refine⟨(y,true),by rw[hy],?_⟩;refine H2.alloc af rfl fun a5 h3 Z=>?_;have Z:Sp h h3 [cQ 1 aw pool,aj 214 o 5 bK (L.map qx),jo r2 1 aw g.bears,ag a5 214 (bK oE)]:=Z;refine Z.storeAll af 3 rfl rfl (bK y) rfl rfl rfl rfl fun h4 H4=>?_;have H4:Sp h h4 [cQ 1 aw pool,aj 214 o 5 bK (L.map qx),jo r2 1 aw g.bears,ag a5 214 (bK y)]:=H4;refine bq (fun _=>?_) fun e=>by cases e
   refine⟨y,(H4.box 3 rfl).aF _ rfl,?_⟩;refine H4.lit af bK SE rfl [y] rfl (show 1*5<=2^20 by decide) rfl fun v7 h5 H5=>?_;have H5:Sp h h5 [cQ 1 aw pool,aj 214 o 5 bK (L.map qx),jo r2 1 aw g.bears,ag a5 214 (bK y),aj 214 v7 5 bK [y]]:=H5;refine H5.append af 1 rfl SE ⟨_,_,rfl,rfl⟩ rfl (by decide) (fun _=>rfl) (H5.seq 4 rfl fun _=>rfl) SD (by simp;omega) fun v8 h6 H6=>?_;have H6:Sp h h6 [cQ 1 aw pool,aj 214 v8 5 bK (L.map qx++[y]),jo r2 1 aw g.bears,ag a5 214 (bK y),aj 214 v7 5 bK [y]]:=H6;have H7:Sp h h6 [cQ 1 aw pool,jo r2 1 aw g.bears,aj 214 v8 5 bK (L.map qx++[y])]:=H6.ca [0,2,1];have O:=H7.GU;refine⟨(i+1,v8),by rw[an _];rfl,⟨d,L++[(y,g)],(r2,g.bears)::pool,?_,by simp;omega,?_,by simpa using O⟩,by dsimp only;omega⟩
   ·dsimp only;rw[aK _ _ d,yg,za,hL];simp[q]
   ·intro p bk;rcases qH.1 bk with M|M
    ·exact(hP p M).more _
    ·rw[qB.1 M,hy];exact⟨⟨rfl,rfl,rfl⟩,qT,V.1,V.2.1,i,a0,by rw[qd d];exact congrArg some V.2.2.symm⟩
 ·have d:i=w.length:=by omega
  subst d;rw[zc]at hL;obtain⟨P,H⟩:∃P,P=L.map ze:=⟨_,rfl⟩
  have cd:L.length<=2^20:=by omega
  refine X.Xi Value.bool fun A h7 H7=>?_;have H7:=H7.Ox 47 8 aq dL;refine az (fun t:Nat×Sl=>(t.2,(t.1:Int))) (fun t h'=>t.1<=L.length/\∃out:List ar,out=((L.take t.1).map ze).foldl (cP P) []/\out.length<=t.1/\(∀m∈out,cn m)/\
   Sp h h' [cQ 1 aw pool,aj 214 o 5 bK (L.map qx),kQ A Value.bool (out.map jD),cR 47 t.2 8 aq dL out]) (fun t=>L.length-t.1) (0,⟨none,0,0⟩) rfl ⟨zo _,[],rfl,qp _,fun _ q=>absurd q yv,H7⟩ ?_
  rintro⟨j,u⟩ h8 ⟨hj,out,s,b0,W,O⟩;dsimp only at hj s b0 O⊢;refine al (fun e=>?_) fun e=>?_
  ·have B:=(O.own 1 rfl).len;simp only[qC]at B;have z:j<L.length:=by omega
   have E:((L.take (j+1)).map ze).foldl (cP P) []=cP P out L[j].2:=by
    rw[aK _ _ z,za,wz,<-s];rfl
   have q:=hP _ (qn z);have skip:∀{h':Heap} {Bs:List HP},cP P out L[j].2=out->Sp h h' (cQ 1 aw pool::aj 214 o 5 bK (L.map qx)::kQ A Value.bool (out.map jD)::cR 47 u 8 aq dL out::Bs)->
     ∃t:Nat×Sl,(u,qc vW ((j:Int)+1))=(t.2,(t.1:Int))/\(t.1<=L.length/\∃out:List ar,out=((L.take t.1).map ze).foldl (cP P) []/\out.length<=t.1/\(∀m∈out,cn m)/\
   Sp h h' [cQ 1 aw pool,aj 214 o 5 bK (L.map qx),kQ A Value.bool (out.map jD),cR 47 t.2 8 aq dL out])/\L.length-t.1<L.length-j:=fun{h' Bs} e' H'=>
    ⟨(j+1,u),by rw[an _];rfl,⟨z,out,by rw[E,e'],by dsimp only;omega,W,H'.ca [0,1,2,3]⟩,by dsimp only;omega⟩
   refine(O.seq 1 rfl fun _=>rfl).dE (g:=bK) j rfl (by simpa using z) L[j].1 (by simp) ?_;refine O.alloc af rfl fun f h9 H9=>?_;have H9:Sp h h9 [cQ 1 aw pool,aj 214 o 5 bK (L.map qx),kQ A Value.bool (out.map jD),cR 47 u 8 aq dL out,ag f 214 (bK oE)]:=H9;refine H9.storeAll af 4 rfl rfl (bK L[j].1) rfl rfl rfl rfl fun ay n=>?_;have n:Sp h ay [cQ 1 aw pool,aj 214 o 5 bK (L.map qx),kQ A Value.bool (out.map jD),cR 47 u 8 aq dL out,ag f 214 (bK L[j].1)]:=n;refine⟨L[j].1.2.1,(n.box 4 rfl).cell rfl,ci (fun e1=>skip ?_ n) fun e1=>?_⟩
   ·unfold cP;rw[if_pos (by rw[<-q.ok.2.1];exact e1)]
   have I:¬L[j].2.num≠0:=by rw[<-q.ok.2.1];exact fun M=>M e1
   refine⟨L[j].1,(n.box 4 rfl).aF _ rfl,(Nt o L L[j] ay (n.seq 1 rfl fun _=>rfl) (by omega) (fun p q=>(hP p q).ok) (qn z) (by have:=q.many;omega)).mono ?_⟩;rintro _ a7 (⟨hg,⟨o2,rfl⟩,R11⟩|⟨o2,G,hg,hGL,hGn,rfl,R11⟩)
   ·refine⟨(o2,false),rfl,aW (fun _=>skip ?_ (n.up R11.ah)) fun e=>by cases e⟩;unfold cP;rw[if_neg I,H,hg]
   have K:Sp h a7 [cQ 1 aw pool,aj 214 o 5 bK (L.map qx),kQ A Value.bool (out.map jD),cR 47 u 8 aq dL out,ag f 214 (bK L[j].1),aj 214 o2 5 bK (G.map qx)]:=n.comp R11;refine⟨(o2,true),rfl,aW (fun e=>by cases e) fun _=>?_⟩;refine(Nw o2 G a7 (K.seq 5 rfl fun _=>rfl) (fun p q=>?_) (by omega)).mono ?_
   ·have hq:=hP p (hGL p q);obtain⟨k,b5,b3⟩:=hq.cell;exact⟨K.Wj hq.bears,Seq.up (hl.row k _ _ b5 b3) K.ah,hq.len⟩
   rintro _ a8 ⟨m,x,ok,rfl,b2,hz,hw⟩;have bd:Sp h a8 [cQ 1 aw pool,aj 214 o 5 bK (L.map qx),kQ A Value.bool (out.map jD),cR 47 u 8 aq dL out,ag f 214 (bK L[j].1),aj 214 o2 5 bK (G.map qx),bt x m]:=K.comp b2;refine⟨(x,ok),rfl,?_⟩;refine bd.alloc af rfl fun F a9 Y=>?_;have Y:Sp h a9 [cQ 1 aw pool,aj 214 o 5 bK (L.map qx),kQ A Value.bool (out.map jD),cR 47 u 8 aq dL out,ag f 214 (bK L[j].1),aj 214 o2 5 bK (G.map qx),bt x m,ag F 47 (aq bJ)]:=Y;refine Y.storeAll af 7 rfl rfl (aq x) rfl rfl rfl rfl fun ax D=>?_;have D:Sp h ax [cQ 1 aw pool,aj 214 o 5 bK (L.map qx),kQ A Value.bool (out.map jD),cR 47 u 8 aq dL out,ag f 214 (bK L[j].1),aj 214 o2 5 bK (G.map qx),bt x m,ag F 47 (aq x)]:=D;refine⟨x,(D.box 7 rfl).aF _ rfl,(AU x m ax (D.at 6 rfl) hz).mono ?_⟩;rintro _ b4 ⟨N,rfl,a1⟩;have J:Sp h b4 [cQ 1 aw pool,aj 214 o 5 bK (L.map qx),kQ A Value.bool (out.map jD),cR 47 u 8 aq dL out,ag f 214 (bK L[j].1),aj 214 o2 5 bK (G.map qx),bt x m,ag F 47 (aq x),aj 5 N 1 aw (bo m)]:=D.comp a1;refine⟨N,rfl,BN af ⟨_,rfl,rfl⟩ ⟨_,rfl,rfl⟩ ⟨_,rfl,rfl⟩ (a1.seq 0 rfl fun _=>rfl) ?_⟩;refine aU (aW (fun T=>skip ?_ J) fun T=>?_)
   ·have T:ok=false:=T;rw[T]at hw;unfold cP;rw[if_neg I,H,hg];dsimp only;rw[hw];rfl
   have T:ok=true:=T;rw[T]at hw;refine(J.map 2 rfl).lookup Vz VA (u0:=false) SI ⟨(fW ⟨(bo m).toArray⟩ (out.map jD)).getD false,rfl,?_⟩;refine bq (fun U=>skip ?_ J) fun U=>?_
   ·rw[Hk]at U;unfold cP;rw[if_neg I,H,hg];dsimp only;rw[hw];exact if_pos U
   have b6:=U;rw[Hk]at U;have bw:fW ⟨(bo m).toArray⟩ (out.map jD)=none:=UC m out U;refine J.Xj true 2 rfl Vz VA fun bl a2=>?_;rw[Ao true bw]at a2;have Q:aa (fun b=>b<h.size) h bl [cQ 1 aw pool,aj 214 o 5 bK (L.map qx),kQ A Value.bool (out.map jD++[jD m]),cR 47 u 8 aq dL out,ag f 214 (bK L[j].1),aj 214 o2 5 bK (G.map qx),EA dL x m,ag F 47 (aq x),aj 5 N 1 aw (bo m)]:=a2;refine⟨x,(Q.box 7 rfl).aF _ rfl,?_⟩;refine Q.Oy af 3 6 (by decide) (a:=x) rfl rfl YJ rfl (by decide) (fun _=>rfl) WF (parts:=#[(0,cN x)]) (by kernel_rfl) (by decide) (by omega) fun a6 b1 S=>?_;have S:Sp h b1 [cQ 1 aw pool,aj 214 o 5 bK (L.map qx),kQ A Value.bool (out.map jD++[jD m]),cR 47 a6 8 aq dL (out++[m]),ag f 214 (bK L[j].1),aj 214 o2 5 bK (G.map qx),emp,ag F 47 (aq x),aj 5 N 1 aw (bo m)]:=S;refine⟨(j+1,a6),by rw[an _];rfl,⟨z,out++[m],?_,by simp;omega,?_,?_⟩,by dsimp only;omega⟩
   ·dsimp only;rw[E];unfold cP;rw[if_neg I,H,hg];dsimp only;rw[hw];exact(if_neg (by rw[U];exact Bool.false_ne_true)).symm
   ·intro y hy;rcases qH.1 hy with M|M
    ·exact W y M
    ·rw[qB.1 M];exact hz
   ·rw[za];exact S.ca [0,1,2,3]
  ·have B:=(O.own 1 rfl).len;simp only[qC]at B;have br:j=L.length:=by omega
   rw[br,zc]at s;have ej:out.mergeSort FV=eW w:=by unfold eW FU;rw[s,H,hL]
   have a4:out.length<20:=by rw[<-ej,zT]at a3;exact a3
   refine(Qh out a4 (O.ca [3])).mono ?_;rintro _ cc ⟨rfl,R⟩;exact⟨(),rfl,u,rfl,by rw[<-ej];exact fun m hm=>W m (wq.1 hm),by rw[<-ej];exact R⟩
end
end Go.Qw
namespace Go.Vc
open Go
theorem aa.XW{α:Type}{B:ap}{p h:Heap}{As:List HP}{e d k:Nat}{s:Sl}{f:α->aQ}{a:List (List α)}(H:aa B p h (iw e s d k f a::As))(n:∀x,(f x).length=k):
  ∃rs:List Sl,fv h (fun b=>b<h.size) s k f a rs/\∀r∈rs,r.len<=r.cap:=by
 obtain⟨rs,j,H⟩:=H.ul;have H:=aa.Dj H;have own:∀(i:Nat) (c:i<a.length),(aj e s 1 cF rs::bx d k f rs a)[i+1]?=some (aj d (rs[i]'(by omega)) k f a[i]):=fun i c=>by
  rw[qo];exact gO j i c
 refine⟨rs,⟨H.seq 0 rfl fun _=>rfl,j,fun i r l m g=>?_⟩,fun r o=>?_⟩
 ·have c:i<a.length:=(qk.1 g).1;have h3:=H.seq (i+1) (own i c) n;have q:rs[i]'(by omega)=r:=by rw[qd (by omega)]at m;simpa using m
  have d:a[i]=l:=by rw[qd c]at g;simpa using g
  rw[q,d]at h3;exact h3
 ·obtain⟨i,c,rfl⟩:=qN o;exact(H.own (i+1) (own i (by omega))).cap
end Go.Vc
namespace Go.Qw
open Go Go.Vc Go.Proofs Wl
theorem Qj{pw:Addr}{a:Addr}{d:bf}{h:Heap}(s b:Sl)(q:bZ h a 70 (eK pw d s b))(j:dU h s 1 aw d.l)(ok:dc d)(e:(eW d.l).length<20):
  ac xa 76 #[vS (some a)] h fun v h'=>∃r:Sl,v=r/\(∀m∈eW d.l,cn m)/\Sp h h' [cR 47 r 8 aq dL (eW d.l)]:=by
 refine Aw (some a) ?_;unfold pM;have i:=ok.len;have k:=ok.room;refine(uP s b q j ok).mono ?_;rintro _ i ⟨f,rfl,g⟩;obtain⟨rs,o,n⟩:=g.XW fun _=>rfl;refine⟨f,rfl,(Qi f d.l rs i o (by omega) (fun c u=>by rw[ok.cell c u];decide) n e).mono ?_⟩;rintro _ k ⟨r,rfl,t,p⟩;exact⟨r,rfl,r,rfl,t,(g.comp p).ca [1]⟩
abbrev ft(p:aM):aQ:=[.pointer p]
def Jy(pw:Addr)(h:Heap):aM->Option bf->Prop
 |none,none=>True
 |some a,some d=>dc d/\(eW d.l).length<20/\∃s b:Sl,bZ h a 70 (eK pw d s b)/\dU h s 1 aw d.l
 |_,_=>False
theorem Jy.up{pw:Addr}{h f:Heap}{p:aM}{d:Option bf}(x:Jy pw h p d)(g:aG (fun b=>b<h.size) h f):Jy pw f p d:=by
 cases p<;>cases d
 ·trivial
 ·exact x
 ·exact x
 ·obtain⟨a,b,s,t,c,rs,e⟩:=x;exact⟨a,b,s,t,c.ah g c.lt,rs,fv.up e g⟩
theorem Ny{pw:Addr}(s:Sl)(N:List aM)(ds:aS)(h:Heap)(Y:Rd h s 1 ft N)(hl:N.length=ds.length)(hn:ds.length<=64)(hd:∀(i:Nat) (p:aM) (d:Option bf),N[i]?=some p->ds[i]?=some d->Jy pw h p d):
  ac xa 38 #[s] h fun v h'=>∃x:bn,v=.tuple #[cN x,vU (gj ds).isSome]/\(gj ds=none->x=bJ)/\Sp h h' [bt x ((gj ds).getD fm)]:=by
 refine EK s ?_;unfold ww;have a7:=Y.len;refine(Sp.refl h).alloc af rfl fun n h1 H1=>H1.alloc af rfl fun a2 h2 X=>?_;have X:Sp h h2 [ag n 47 (aq bJ),ag a2 47 (aq bJ)]:=X;have X:Sp h h2 [bt bJ fm,ag n 47 (aq bJ),ag a2 47 (aq bJ)]:=Go.Qw.aa.bJ X;refine az (fun t:Nat×Bool=>(t.2,(t.1:Int)-1)) (fun t h'=>t.1<=ds.length/\∃(o:Option ar) (x:bn),o=((ds.take t.1).flatMap fM).foldl fk none/\t.2=o.isSome/\(o=none->x=bJ)/\
  Sp h h' [bt x (o.getD fm),ag n 47 (aq bJ),ag a2 47 (aq x)]) (fun t=>ds.length-t.1) (0,false) rfl ⟨zo _,none,bJ,rfl,rfl,fun _=>rfl,X⟩ ?_
 rintro⟨i,f⟩ h3 ⟨hi,o,x,G,Z,hx,B⟩;dsimp only at hi G Z B⊢;rw[show qc vW ((i:Int)-1+1)=(i:Int)from by rw[an _];omega];refine al (fun e=>?_) fun e=>?_
 ·have hid:i=ds.length:=by omega
  rw[hid,zc]at G;have G:gj ds=o:=G.symm;refine⟨x,(B.box 2 rfl).aF _ rfl,B.storeAll af 1 rfl rfl (aq x) rfl rfl rfl rfl fun h4 H4=>?_⟩;refine⟨x,(H4.box 1 rfl).aF _ rfl,x,by rw[G,Z],by rw[G];exact hx,by rw[G];exact H4.ca [0]⟩
 ·have u:i<ds.length:=by omega
  have A:i<N.length:=by omega
  obtain⟨d,I⟩:∃d,ds[i]?=some d:=⟨_,qd u⟩
  have am:ds[i]=d:=by rw[qd u]at I;injection I
  obtain⟨p,M⟩:∃p,N[i]?=some p:=⟨_,qd A⟩
  have J:N[i]=p:=by rw[qd A]at M;injection M
  have L:=(hd i p d M I).up B.ah;have w:(ds.take (i+1)).flatMap fM=(ds.take i).flatMap fM++fM d:=by rw[aK _ _ u,qY,am];simp
  have skip:fM d=[]->∀{h':Heap} {Bs:List HP},Sp h h' (bt x (o.getD fm)::ag n 47 (aq bJ)::ag a2 47 (aq x)::Bs)->
    ∃t:Nat×Bool,(f,(i:Int))=(t.2,(t.1:Int)-1)/\(t.1<=ds.length/\∃(o:Option ar) (x:bn),o=((ds.take t.1).flatMap fM).foldl fk none/\t.2=o.isSome/\(o=none->x=bJ)/\
  Sp h h' [bt x (o.getD fm),ag n 47 (aq bJ),ag a2 47 (aq x)])/\ds.length-t.1<ds.length-i:=fun em {h' Bs} H'=>
   ⟨(i+1,f),by dsimp only;congr 1;omega,⟨u,o,x,by dsimp only;rw[w,em,qM];exact G,Z,hx,H'.ca [0,1,2]⟩,by dsimp only;omega⟩
  refine aU ?_;refine(Seq.up Y B.ah).kA i rfl A p (by rw[J]) fun a6 _=>?_;cases p with
  |none=>
   cases d with
   |some d=>exact absurd L id
   |none=>exact bq (fun _=>skip rfl B) fun e=>by cases e
  |some a=>
   cases d with
   |none=>exact absurd L id
   |some d=>
    refine bq (fun e=>by cases e) fun _=>?_;obtain⟨ok,T,s1,b1,Q,a3⟩:=L;refine(Seq.up Y B.ah).kA i rfl A (some a) (by rw[J]) fun a8 _=>?_;refine(ol s1 b1 Q).mono ?_;rintro _ _ ⟨rfl,rfl⟩;refine⟨_,rfl,bq (fun el=>skip (by unfold fM;dsimp only;rw[if_pos el]) B) fun el=>?_⟩;have P:fM (some d)=eW d.l:=by unfold fM;dsimp only;rw[el];rfl
    refine(Seq.up Y B.ah).kA i rfl A (some a) (by rw[J]) fun bk _=>?_;refine(Qj s1 b1 Q a3 ok T).mono ?_;rintro _ h7 ⟨r,rfl,hz,R7⟩;have H7:Sp h h7 [cR 47 r 8 aq dL (eW d.l),bt x (o.getD fm),ag n 47 (aq bJ),ag a2 47 (aq x)]:=(B.comp R7).ca [3,0,1,2];obtain⟨ps,W,H7⟩:=Go.Vc.aa.VB H7;refine⟨r,rfl,?_⟩;have bb:ps.length<20:=by rw[<-qC (f:=ze),W];exact T
    refine az (fun t:Nat×Bool=>(t.2,(t.1:Int))) (fun t h'=>t.1<=ps.length/\∃(b:Option ar) (y:bn),b=((ps.take t.1).map ze).foldl fk o/\t.2=b.isSome/\(b=none->y=bJ)/\((y,b.getD fm)=(x,o.getD fm)∨(y,b.getD fm)∈ps)/\
     Sp h h' [mM dL ps,aj 47 r 8 aq (ps.map qx),bt x (o.getD fm),ag n 47 (aq bJ),ag a2 47 (aq y)]) (fun t=>ps.length-t.1) (0,f) rfl ⟨zo _,o,x,rfl,Z,hx,.inl rfl,H7⟩ ?_
    rintro⟨j,g⟩ h8 ⟨hj,b,y,E,R,hy,K,D⟩;dsimp only at hj E R D⊢;have a4:=(D.own 1 rfl).len;simp only[qC]at a4;have z:y.1=(b.getD fm).seq:=by
     rcases K with F|F
     ·injection F with h1 h2
      rw[h1,h2];exact(D.at 2 rfl).seq
     ·exact(D.at 0 rfl _ F).seq
    refine al (fun e2=>?_) fun e2=>?_
    ·have k:j<ps.length:=by omega
     have a9:=(D.at 0 rfl _ (qn k)).seq;have V:((ps.take (j+1)).map ze).foldl fk o=fk b ps[j].2:=by
      rw[aK _ _ k,za,wz,<-E];rfl
     refine(D.seq 1 rfl fun _=>rfl).dE (g:=aq) j rfl (by simpa using k) ps[j].1 (by simp) ?_;refine D.alloc af rfl fun S h9 O=>?_;have O:Sp h h9 [mM dL ps,aj 47 r 8 aq (ps.map qx),bt x (o.getD fm),ag n 47 (aq bJ),ag a2 47 (aq y),ag S 47 (aq bJ)]:=O;refine O.storeAll af 5 rfl rfl (aq ps[j].1) rfl rfl rfl rfl fun a0 c=>?_;have c:Sp h a0 [mM dL ps,aj 47 r 8 aq (ps.map qx),bt x (o.getD fm),ag n 47 (aq bJ),ag a2 47 (aq y),ag S 47 (aq ps[j].1)]:=c;have take:fk b ps[j].2=some ps[j].2->∀{h':Heap} {Bs:List HP},Sp h h' (mM dL ps::aj 47 r 8 aq (ps.map qx)::bt x (o.getD fm)::ag n 47 (aq bJ)::ag a2 47 (aq ps[j].1)::Bs)->
       ∃t:Nat×Bool,(true,qc vW ((j:Int)+1))=(t.2,(t.1:Int))/\(t.1<=ps.length/\∃(b:Option ar) (y:bn),b=((ps.take t.1).map ze).foldl fk o/\t.2=b.isSome/\(b=none->y=bJ)/\((y,b.getD fm)=(x,o.getD fm)∨(y,b.getD fm)∈ps)/\
     Sp h h' [mM dL ps,aj 47 r 8 aq (ps.map qx),bt x (o.getD fm),ag n 47 (aq bJ),ag a2 47 (aq y)])/\ps.length-t.1<ps.length-j:=fun em {h' Bs} H'=>
      ⟨(j+1,true),by rw[an _];rfl,⟨k,some ps[j].2,ps[j].1,by dsimp only;rw[V,em],rfl,(fun F=>by cases F),.inr (qn k),H'.ca [0,1,2,3,4]⟩,by dsimp only;omega⟩
     refine aW (fun U=>?_) fun U=>?_
     ·refine⟨ps[j].1,(c.box 5 rfl).aF _ rfl,c.storeAll af 4 rfl rfl (aq ps[j].1) rfl rfl rfl rfl fun bd ax=>take ?_ ax⟩;have:b=none:=by cases b with|none=>rfl|some _=>rw[R]at U;cases U
      rw[this];rfl
     ·obtain⟨m',H⟩:∃m',b=some m':=by cases b with|none=>rw[R]at U;cases U|some m=>exact⟨m,rfl⟩
      rw[H]at z;have z:y.1=m'.seq:=z;refine⟨ps[j].1.1,(c.box 5 rfl).cell0 rfl,y.1,(c.box 4 rfl).cell0 rfl,al (fun e3=>?_) fun e3=>?_⟩
      ·refine⟨ps[j].1,(c.box 5 rfl).aF _ rfl,c.storeAll af 4 rfl rfl (aq ps[j].1) rfl rfl rfl rfl fun a5 ad=>take ?_ ad⟩;rw[H];unfold fk;dsimp only;exact if_pos (by omega)
      ·refine⟨(j+1,g),by rw[an _];rfl,⟨k,b,y,?_,R,hy,K,c.ca [0,1,2,3,4]⟩,by dsimp only;omega⟩;dsimp only;rw[V,H];unfold fk;dsimp only;exact(if_neg (by omega)).symm
    ·have ay:j=ps.length:=by omega
     rw[ay,zc,W]at E;refine⟨(i+1,g),by dsimp only;congr 1;omega,⟨u,b,y,?_,R,hy,?_⟩,by dsimp only;omega⟩
     ·dsimp only;rw[w,wz,<-G,P];exact E
     ·rcases K with F|F
      ·injection F with q1 q2
       have:=D.ca [2,3,4];rw[q2];rw[q1]at this⊢;exact this
      ·have O:Sp h h8 [bt y (b.getD fm),aj 47 r 8 aq (ps.map qx),bt x (o.getD fm),ag n 47 (aq bJ),ag a2 47 (aq y)]:=D.gn 0 rfl fun q hq=>hq _ F;exact O.ca [0,3,4]
end Go.Qw
namespace Wl
def dO(m:ar)(d:bf):bR:=if(eU m d.l).length<=d.room then eU m d.l else(jc m d.l).take d.room
end Wl
namespace Go.Qw
open Go Go.Vc Go.Proofs Wl
theorem SK{pw a:Addr}{d:bf}{h:Heap}(s b:Sl)(x:bn)(m:ar)(g:bZ h a 70 (eK pw d s b))(p:dU h s 1 aw d.l)(ok:dc d)(o:eS h x m)(y:cn m):
  ac xa 40 #[vS (some a),cN x] h fun v h'=>∃r:Sl,v=r/\Sp h h' [cz r (dO m d)]:=by
 refine IK (some a) x ?_;unfold Cy;refine(Sp.refl h).boxed fun z H f=>?_;have f:Sp h H [ag z 47 (aq x)]:=f;refine⟨x,(f.box 0 rfl).aF _ rfl,(Be s b x m (g.ah f.ah g.lt) (by obtain⟨rs,e⟩:=p;exact⟨rs,fv.up e f.ah⟩) ok (o.up f.ah) y).mono ?_⟩;rintro _ F ⟨j,rfl,u⟩;have i:Sp h F [ag z 47 (aq x),cz j (eU m d.l)]:=f.comp u;have B:=(u.sj).1;have n:=g.ah i.ah g.lt;refine⟨j,rfl,(AR s b n).mono ?_⟩;rintro _ _ ⟨rfl,rfl⟩;refine⟨_,rfl,al (fun e=>?_) fun e=>?_⟩
 ·have e:(j.len:Int)<=(d.room:Int):=e;refine⟨j,rfl,?_⟩;unfold dO;rw[if_pos (by omega)];exact i.ca [1]
 ·have e:¬(j.len:Int)<=(d.room:Int):=e;refine⟨x,(i.box 0 rfl).aF _ rfl,(FG s b x m n (by obtain⟨rs,e⟩:=p;exact⟨rs,fv.up e i.ah⟩) ok (o.up i.ah) y).mono ?_⟩;rintro _ h3 ⟨c,rfl,w⟩;have q:=i.comp w;have k:=w.sj;refine⟨c,rfl,(AR s b (g.ah q.ah g.lt)).mono ?_⟩;rintro _ _ ⟨rfl,rfl⟩;have t:=k.1;have E:(if(d.room:Int)<(c.len:Int)then(d.room:Int)else(c.len:Int))=((min d.room c.len:Nat):Int):=by split<;>omega
  refine⟨_,rfl,?_⟩;show(0<=(if(d.room:Int)<(c.len:Int)then(d.room:Int)else(c.len:Int))/\_)/\_;rw[E];refine⟨⟨by omega,Int.ofNat_le.2 (zH (vo _ _) k.2)⟩,⟨c.ptr,min d.room c.len,c.cap⟩,by rw[qq],?_⟩;have G:Sp h _ [cz c (jc m d.l)]:=q.ca [2];have A:=G.YB (min d.room c.len) (by rw[<-t];exact vo _ _);unfold dO;rw[if_neg (by omega)];have:(jc m d.l).take d.room=(jc m d.l).take (min d.room c.len):=by
   rw[t];by_cases D:d.room<=(jc m d.l).length
   ·rw[wv D]
   ·rw[Nat.min_eq_right (by omega),zc,qi (by omega)]
  rw[this];exact A
theorem Mh{pages:List Pg}{out:List ar}{x:Pg}:(cP pages out x).length<=out.length+1:=by
 unfold cP;split
 ·omega
 ·split
  ·omega
  ·split
   ·omega
   ·split
    ·omega
    ·simp
theorem By{pages:List Pg}:∀(xs:List Pg) (out:List ar),(xs.foldl (cP pages) out).length<=out.length+xs.length
 |[],out=>by simp
 |x::xs,out=>by
  have b:=By (pages:=pages) xs (cP pages out x);have a:=Mh (pages:=pages) (out:=out) (x:=x);rw[zA,zi];omega
theorem Bz(l:bR):(eW l).length<=(l.filterMap bU).length:=by
 unfold eW;rw[zT];have:=By (pages:=l.filterMap bU) (l.filterMap bU) [];simpa[FU]using this
theorem WG{m:ar}{C:Int->aL}{l:bR}(n:bB m=true)(f:∀c∈l,eC m C c):∀x∈eW l,x.seq<m.seq∨x=m:=fun x b=>by
 obtain⟨d,h⟩:=LV b;have e:=DV d;have a:(lm x 0).cell∈l:=h _ (by rw[jm];exact qE.2 ⟨0,qF.2 e,rfl⟩);have:=((f _ a).page _ (kK d e)).1;have:x.seq<=m.seq:=this;by_cases i:x.seq=m.seq
 ·exact .inr (Sn n (fun c a g k j=>((f c a).page g k).2 j) b i)
 ·exact .inl (by omega)
theorem Qk{m:ar}{C:Int->aL}{l:bR}(f:∀c∈l,eC m C c)(a:fT m l=true):m∈eW l:=by
 unfold fT at a;rw[qz]at a;exact Uw a.1 (fun c b=>of_decide_eq_true (qU.1 a.2 c b)) fun c b g e d=>((f c b).page g e).2 d
theorem SL{ds:aS}{m:ar}{C:Int->aL}(i:bB m=true)(f:∀d,some d∈ds->∀c∈d.l,eC m C c){d:bf}(e:some d∈ds)(a:d.lost=false)(g:fT m d.l=true):gj ds=some m:=
 So e a (Qk (f d e) g) fun h b _=>WG i (f h b)
end Go.Qw
namespace Wl
open Go Go.Qw Go.Vc
def fJ(m:ar)(w:Pow)(ds:aS)(k:Int):Int×Pow×aS:=
 match bs ds k with
 |none=>(0,w,ds)
 |some d=>if d.lost then(0,w,ds)else if d.l=dO m d then(0,w,ds)else((d.rewrite w (dO m d)).1,(d.rewrite w (dO m d)).2.1,fO ds k (d.rewrite w (dO m d)).2.2)
def opens(m:ar):aD->Pow->aS->Int×Pow×aS
 |[],w,ds=>(0,w,ds)
 |k::l,w,ds=>if(fJ m w ds k).1=0 then opens m l (fJ m w ds k).2.1 (fJ m w ds k).2.2 else fJ m w ds k
def oU(m:ar)(d:bf):bf:=if d.lost=true∨d.l=dO m d then d else{d with l:=dO m d,wait:=0,laid:=[],has:=false}
def dm{α:Type}(q:Nat->Bool)(l:List (Option α)):List (Option α):=(qD 64).map fun i=>if q i then l.getD i none else none
theorem lY{α:Type}(q:Nat->Bool)(l:List (Option α))(i:Nat)(a:i<64:=by omega):(dm q l)[i]?=some (if q i then l.getD i none else none):=by
 unfold dm;rw[qP,List.getElem?_range a];rfl
theorem Ix{α:Type}(q:Nat->Bool)(l:List (Option α)):(dm q l).length=64:=by simp[dm]
def ic(m:ar)(i:Nat):Bool:=decide ((i:Int)∈m.drives)
theorem DX(q:Nat->Bool)(ds:aS)(k:Int):bs (dm q ds) k=if q k.toNat then bs ds k else none:=by
 unfold bs;by_cases h:0<=k/\k<64
 ·rw[if_pos h,if_pos h,lY q ds k.toNat];cases q k.toNat
  ·rfl
  ·simp only[if_true,Option.join,qf];cases ds[k.toNat]?<;>rfl
 ·rw[if_neg h,if_neg h];split<;>rfl
theorem Gb(m:ar)(d:bf):∀c∈dO m d,c.length=64:=fun c a=>by
 unfold dO at a;split at a
 ·exact uZ m d.l c a
 ·exact uZ m d.l c (wQ _ (wV a))
theorem Mi(m:ar)(d:bf):(dO m d).length<=d.room:=by
 unfold dO;split
 ·assumption
 ·rw[qR];omega
theorem Nz{w:Pow}(i:w.calm){m:ar}{ds:aS}{k:Int}(c:ds.length=64):
  ∃a,fJ m w ds k=(0,w,a)/\a.length=64/\∀s,bs a s=if s=k then(bs ds s).map (oU m)else bs ds s:=by
 unfold fJ;cases hd:bs ds k with
 |none=>exact⟨ds,rfl,c,fun s=>by by_cases b:s=k;rw[if_pos b,b,hd];rfl;rw[if_neg b]⟩
 |some d=>
  dsimp only;have e:(d.lost=true∨d.l=dO m d)->∃a,((0:Int),w,ds)=(0,w,a)/\a.length=64/\∀s,bs a s=if s=k then(bs ds s).map (oU m)else bs ds s:=fun h=>
   ⟨ds,rfl,c,fun s=>by
    by_cases b:s=k
    ·rw[if_pos b,b,hd,qJ];unfold oU;rw[if_pos h]
    ·rw[if_neg b]⟩
  by_cases f:d.lost=true
  ·rw[if_pos f];exact e (.inl f)
  ·rw[if_neg f];by_cases g:d.l=dO m d
   ·rw[if_pos g];exact e (.inr g)
   ·rw[if_neg g,Bn i (Gb m d) (by simpa using f) (Mi m d)];refine⟨_,rfl,by rw[LI];exact c,fun s=>?_⟩;rw[LJ c hd];by_cases b:s=k
    ·rw[if_pos b,if_pos b,b,hd,qJ];unfold oU;rw[if_neg (by rintro(h|h);exact f h;exact g h)]
    ·rw[if_neg b,if_neg b]
theorem Gc{w:Pow}(d:w.calm){m:ar}:∀{l:aD} {ds:aS},l.Nodup->ds.length=64->
  ∃a,opens m l w ds=(0,w,a)/\a.length=64/\∀s,bs a s=if s∈l then(bs ds s).map (oU m)else bs ds s
 |[],ds,_,h64=>⟨ds,rfl,h64,fun s=>by simp⟩
 |k::l,ds,b,h64=>by
  obtain⟨f,b⟩:=List.nodup_cons.1 b;obtain⟨i,e,p,j⟩:=Nz d (m:=m) (k:=k) h64;obtain⟨g,o,h,n⟩:=Gc d (m:=m) (l:=l) (ds:=i) b p;refine⟨g,?_,h,fun s=>?_⟩
  ·unfold opens;rw[e];exact o
  ·rw[n,j];by_cases c:s=k
   ·subst c;simp[f]
   ·simp[c]
end Wl
namespace Go.Vc
open Go Wl
section
variable {k:Kit} {B:ap} {h0 h:Heap} {As:List HP} {a pw b:Addr} {mc:aQ} {offs:Int} {da:List aM} {w:Pow} {ds:aS} {d:bf} {n:Nat}
end
open Go Wl Go.Qw
section
variable {B:ap} {h0 h:Heap} {As L:List HP} {X:HP} {k:Kit} {pw b:Addr} {da:List aM} {ds:aS} {d:bf} {n:Nat}
theorem aa.SM(g:n<L.length)(H:aa B h0 h (HP.all L::X::As)):aa B h0 h (HP.all (L.set n X)::As):=by
 have k:=(H.jX:aa B h0 h (X.sep (HP.all L)::As))
 have j:aa B h0 h ((X::L)++As):=aa.lL (L:=X::L) k;refine aa.closeAll _ (j.pick (fun i=>if i=n then 0 else i+1) (fun a b c=>by(try dsimp only at c);split at c<;>split at c<;>omega) fun i A e=>?_)
 try dsimp only
 by_cases d:i=n
 ·subst d;rw[ql (by simpa using g),List.getElem?_set_self g]at e;rw[if_pos rfl];exact e
 ·rw[if_neg d,List.cons_append,qo];by_cases f:i<L.length
  ·rw[ql (by simpa using f),List.getElem?_set_ne (Ne.symm d)]at e;rw[ql f];exact e
  ·rw[qg (by simp;omega),List.length_set]at e;rw[qg (by omega)];exact e
theorem aa.WH(c:L[n]?=some X)(H:aa B h0 h (HP.all L::As)):aa B h0 h (X::HP.all (L.set n emp)::As):=by
 have a:=(qk.1 c).1;have b:=(aa.lL H).cons n (A:=X) (by rw[ql a];exact c);rw[List.set_append_left _ _ a]at b;exact(aa.closeAll (X::L.set n emp) b).nO.jF
structure kz (da:List aM) (ds:aS):Prop where
 len:da.length=ds.length
 same:∀i:Nat,(da.getD i none).isSome=(ds.getD i none).isSome
def de(k:Kit)(pw:Addr)(a:List aM)(ds:aS):HP:=(HP.all (cW k pw a ds)).and (kz a ds)
theorem kz.addr(ok:kz da ds)(c:ds[n]?=some (some d)):∃b,da[n]?=some (some b):=by
 have f:=(qk.1 c).1;have a:=ok.same n;rw[qf,qf,c]at a;have e:n<da.length:=by rw[ok.len];exact f
 rw[qd e]at a⊢;simp at a;obtain⟨b,g⟩:=wE.1 a;exact⟨b,by rw[g]⟩
theorem kz.AV(ok:kz da ds)(b:ds[n]?=some none):da[n]?=some none:=by
 have d:=(qk.1 b).1;have a:=ok.same n;rw[qf,qf,b]at a;have c:n<da.length:=by rw[ok.len];exact d
 rw[qd c]at a⊢;simp at a;rw[a]
theorem kz.set(ok:kz da ds):kz (da.set n (some b)) (ds.set n (some d)):=by
 refine⟨by simp[ok.len],fun i=>?_⟩;have:=ok.same i;have e:=ok.len;simp only[qf,qW]at this⊢;by_cases a:n=i
 ·rw[if_pos a,if_pos a];by_cases c:n<ds.length
  ·rw[if_pos c,if_pos (by omega)];rfl
  ·rw[if_neg c,if_neg (by omega)];rfl
 ·rw[if_neg a,if_neg a];exact this
theorem Iy(e:da.length=ds.length):(cW k pw da ds).set n (gF k.tD (k.f pw) b d)=cW k pw (da.set n (some b)) (ds.set n (some d)):=by
 apply zr;intro j;simp only[cW,qW,zB,List.length_zipWith];by_cases a:n=j
 ·subst a;by_cases c:n<ds.length
  ·rw[if_pos rfl,if_pos (by omega),if_pos rfl,if_pos (by omega),if_pos rfl,if_pos c];rfl
  ·rw[if_pos rfl,if_neg (by omega),if_pos rfl,if_neg (by omega)]
 ·simp[a]
theorem aa.VC(e:n<ds.length)(H:aa B h0 h (de k pw da ds::gF k.tD (k.f pw) b d::As)):aa B h0 h (de k pw (da.set n (some b)) (ds.set n (some d))::As):=by
 obtain⟨H,ok⟩:=H.lA;have c:=ok.len;have a:=aa.SM (n:=n) (by simp[cW];omega) H;rw[Iy c]at a;exact a.tolA ok.set
def VD(k:Kit)(pw:Addr)(a:List aM)(ds:aS)(n:Nat):HP:=(HP.all ((cW k pw a ds).set n emp)).and (kz a ds)
theorem aa.SN(H:aa B h0 h (de k pw da ds::As))(a:ds[n]?=some (some d)):∃b,da[n]?=some (some b)/\aa B h0 h (gF k.tD (k.f pw) b d::VD k pw da ds n::As):=by
 obtain⟨H,ok⟩:=H.lA;obtain⟨b,c⟩:=ok.addr a;have e:=aa.WH (n:=n) (X:=gF k.tD (k.f pw) b d) (by simp only[cW,zB,c,a];rfl) H;exact⟨b,c,(e.jF.tolA ok).jF⟩
theorem aa.XX(g:da[n]?=some (some b))(H:aa B h0 h (gF k.tD (k.f pw) b d::VD k pw da ds n::As)):aa B h0 h (de k pw da (ds.set n (some d))::As):=by
 obtain⟨H,ok⟩:=H.jF.lA;have m:=(qk.1 g).1;have l:=ok.len;have c:=aa.SM (n:=n) (by simp[cW];omega) H;rw[List.set_set,Iy l]at c;have e:da.set n (some b)=da:=by
  obtain⟨j,i⟩:=qk.1 g
  conv=>lhs;rw[<-i]
  exact List.set_getElem_self j
 have a:kz (da.set n (some b)) (ds.set n (some d)):=ok.set;rw[e]at c a;exact c.tolA a
theorem aa.SO{a:Addr}{b:aQ}{offs:Int}{w:Pow}(H:aa B h0 h (bm k a pw b offs da w ds::As)):fG b da ds/\aa B h0 h (de k pw da ds::bP k.tP pw w::ag a k.tS (bL b pw offs da)::As):=by
 obtain⟨H,ok⟩:=H.lA;have d:aa B h0 h (HP.all (bP k.tP pw w::cW k pw da ds)::ag a k.tS (bL b pw offs da)::As):=H.nO;have c:aa B h0 h (HP.all (cW k pw da ds)::bP k.tP pw w::ag a k.tS (bL b pw offs da)::As):=d.nO;exact⟨ok,c.tolA ⟨by rw[ok.la,ok.ls],ok.same⟩⟩
theorem aa.XY{a:Addr}{b:aQ}{offs:Int}{w:Pow}(h8:b.length=8)(c:ds.length=64)(H:aa B h0 h (de k pw da ds::bP k.tP pw w::ag a k.tS (bL b pw offs da)::As)):aa B h0 h (bm k a pw b offs da w ds::As):=by
 obtain⟨H,ok⟩:=H.lA;have e:aa B h0 h (HP.all (bP k.tP pw w::cW k pw da ds)::ag a k.tS (bL b pw offs da)::As):=H.jX;have d:aa B h0 h (HP.all (ag a k.tS (bL b pw offs da)::bP k.tP pw w::cW k pw da ds)::As):=e.jX;exact d.tolA ⟨h8,by rw[ok.len,c],c,ok.same⟩
theorem aa.XZ(q:Nat->Bool)(r:ds.length<=64)(H:aa B h0 h (de k pw da ds::As)):aa B h0 h (de k pw (dm q da) (dm q ds)::As):=by
 obtain⟨H,ok⟩:=H.lA;have p:=ok.len;have n:=aa.TY (aa.lL H) 64;obtain⟨M,j⟩:∃M,M=cW k pw da ds:=⟨_,rfl⟩
 rw[<-j]at n;have l:M.length=ds.length:=by rw[j];simp[cW];omega
 have f:∀i,i<64->(cW k pw (dm q da) (dm q ds))[i]?=some (if q i=true/\i<ds.length then M.getD i emp else emp):=fun i d=>by
  simp only[cW,zB,lY _ _ _ d];congr 1;cases hq:q i with
  |false=>simp[TR]
  |true=>
   simp only[if_true,true_and];by_cases hid:i<ds.length
   ·rw[if_pos hid,j];simp only[cW,qf,zB,qd hid,qd (show i<da.length by omega)];rfl
   ·rw[if_neg hid];simp only[qf,qX (show ds.length<=i by omega),qX (show da.length<=i by omega)];rfl
 have g:(cW k pw (dm q da) (dm q ds)).length=64:=by simp[cW,dm]
 have o:aa B h0 h (cW k pw (dm q da) (dm q ds)++As):=by
  refine n.pick (fun i=>if i<64 then(if q i=true/\i<ds.length then 64+i else i)else i+ds.length) (fun a b c=>by(try dsimp only at c);split at c<;>split at c<;>(try split at c)<;>(try split at c)<;>omega) fun i A d=>?_
  try dsimp only
  by_cases e:i<64
  ·rw[ql (by omega),f i e]at d;rw[if_pos e];by_cases m:q i=true/\i<ds.length
   ·rw[if_pos m]at d⊢;rw[qg (by simp),wR,Nat.add_sub_cancel_left,ql (by omega)];rw[qf,qd (by omega)]at d;rw[qd (by omega)];exact d
   ·rw[if_neg m]at d⊢;rw[ql (by simpa using e),wg,if_pos e];exact d
  ·rw[if_neg e];rw[qg (by omega),g]at d;rw[qg (by simp;omega),wR,qg (by omega),l,show i+ds.length-64-ds.length=i-64 by omega];exact d
 refine(aa.closeAll _ o).tolA ⟨by simp[dm],fun i=>?_⟩;by_cases e:i<64
 ·rw[qf,qf,lY _ _ _ e,lY _ _ _ e];cases q i
  ·rfl
  ·exact ok.same i
 ·rw[qf,qf,qX (by simp[dm];omega),qX (by simp[dm];omega)];rfl
end
end Go.Vc
namespace Go.Qw
open Go Go.Vc Go.Proofs Wl
section
variable {B:ap} {h0 h:Heap} {As:List HP} {a pw b:Addr} {mc:aQ} {offs:Int} {da:List aM} {w:Pow} {ds:aS} {d:bf}
def hO(a cells:Int):Bool:=decide ((0<=a/\a<64)/\1<=cells/\cells<=512)
end
end Go.Qw
namespace Go.Vc
open Go Wl
section
variable {k:Kit} {B:ap} {h0 h:Heap} {As:List HP} {a pw b:Addr} {mc:aQ} {offs:Int} {da:List aM} {w:Pow} {ds:aS} {d:bf} {n:Nat}
end
end Go.Vc
namespace Go.Qw
open Go Go.Vc Go.Proofs Wl
section
variable {B:ap} {h0 h:Heap} {As:List HP} {a pw b:Addr} {offs:Int} {da:List aM} {w:Pow} {ds:aS} {d:bf}
end
section
variable {B:ap} {h0 h:Heap} {As:List HP} {a pw:Addr} {offs:Int} {da:List aM} {w:Pow} {ds:aS} {mc:aQ}
theorem SP{k:Int}{d:bf}(e:bs ds k=some d)(H:aa B h0 h (bm bh a pw mc offs da w ds::As)):∃(b:Addr) (s g:Sl),gH da k=some b/\bZ h b 70 (eK pw d s g)/\dU h s 1 aw d.l/\dc d:=by
 obtain⟨ok,_⟩:=aa.db H;rcases lH ok k with⟨h1,_⟩|⟨n,d',b,rfl,hn,h1,h2,h3,h4⟩
 ·rw[h1]at e;cases e
 ·rw[h2]at e;injection e with e
  subst e;obtain⟨m,c,j⟩:=Go.Vc.aa.kq H h1;rw[h3]at c;injection c with c
  injection c with c
  subst c;obtain⟨f,s,g,i⟩:=aa.nF j;exact⟨b,s,g,h4,i.box 0 rfl,(i.bj 2 [1,0]).yI fun _=>rfl,f⟩
theorem Ya{k:Int}(c:bs ds k=none)(H:aa B h0 h (bm bh a pw mc offs da w ds::As)):gH da k=none:=by
 obtain⟨ok,_⟩:=aa.db H;rcases lH ok k with⟨_,h2⟩|⟨n,d',b,rfl,hn,h1,h2,h3,h4⟩
 ·exact h2
 ·rw[h2]at c;cases c
theorem Mj{k:Int}(H:aa B h0 h (bm bh a pw mc offs da w ds::As)):ac xa 8 #[vS (some a),vQ vW k] h fun v h'=>v=.pointer (gH da k)/\h'=h:=by
 obtain⟨ok,b⟩:=aa.db H;exact lj k ok b
theorem Mk{k:Int}{d:bf}{b:Addr}(x:bn)(m:ar)(o:bs ds k=some d)(n:gH da k=some b)(e:eS h x m)(p:cn m)(H:aa B h0 h (bm bh a pw mc offs da w ds::As)):
  ac xa 17 #[vS (some b),cN x] h fun v h'=>v=vU (fT m d.l)/\Sp h h' []:=by
 obtain⟨q,s,i,c,g,f,j⟩:=SP o H;rw[n]at c;injection c with c
 subst c;exact PI b pw d s i x m h g f j e p
end
def gq(a pw:Addr)(b:List aM)(offs:Int)(w:Pow)(ds:aS)(m:ar):HP:=HP.ex fun x:bn=>(bm bh a pw (aq x) offs b w ds).sep (bt x m)
section
variable {B:ap} {h0 h:Heap} {As:List HP} {a pw:Addr} {offs:Int} {da:List aM} {w:Pow} {ds:aS} {m:ar}
theorem jd(H:aa B h0 h (gq a pw da offs w ds m::As)):∃x,aa B h0 h (bm bh a pw (aq x) offs da w ds::bt x m::As):=by
 obtain⟨x,H⟩:=H.uk;exact⟨x,H.nO.jF⟩
theorem DY{x:bn}(H:aa B h0 h (bm bh a pw (aq x) offs da w ds::bt x m::As)):aa B h0 h (gq a pw da offs w ds m::As):=
 aa.En (F:=fun x:bn=>(bm bh a pw (aq x) offs da w ds).sep (bt x m)) x H.jF.jX
end
section
variable {B:ap} {h0 h:Heap} {As:List HP} {a pw:Addr} {offs:Int} {da:List aM} {w:Pow} {ds:aS} {m:ar}
theorem Ql(p:Pm)(extra:Int)(s:Sl)(l:aD)(i:St B h0 As fun h=>Rd h s 1 aE l)(f:l.length<=64)(j:re p extra l=0)(g:w=Pow.new)(H:aa B h0 h (bP 56 pw w::As)):
  ac xa 6 #[kP p,vQ vW extra,vS (some pw),s] h fun v h'=>∃(a:Addr) (da:List aM) (D:aS),v=.tuple #[vS (some a),vQ vW 0]/\D.length=64/\
   (∀s,bs D s=if s∈ba l l.length then some ⟨(l.getD s.toNat 0).toNat,aP (cu p extra l),0,[],false,false⟩else none)/\aa B h0 h' (gq a pw da 0 Pow.new D (cu p extra l)::As):=by
 subst g;obtain⟨D,e,k,d⟩:=Sk (p:=p) (extra:=extra) (l:=l) f j;refine(Nd p extra s l i (by omega) H).mono ?_;rintro _ h' ⟨_,b⟩;rw[e]at b;obtain⟨a,y,da,rfl,c⟩:=b rfl;exact⟨a,da,D,rfl,k,d,DY c⟩
theorem WI(name:ByteArray)(s:Sl)(b:aL)(f:St B h0 As fun h=>Rd h s 1 aw b)(d:s.len<=s.cap)(k:name.size<=2^40)(c:bB m=true)(e:b.length<=2^20)(H:aa B h0 h (gq a pw da offs w ds m::As)):
  ac xa 10 #[vS (some a),vT name,s] h fun v h'=>v=vQ vW (cZ m offs w ds name b).1/\
   aa B h0 h' (gq a pw da offs (cZ m offs w ds name b).2.2.1 (cZ m offs w ds name b).2.2.2 (cZ m offs w ds name b).2.1::As):=by
 obtain⟨x,H⟩:=jd H;obtain⟨n,l,j,g⟩:=(gQ m).1 ((dQ m).1 c).1;refine(Uo x m name s b f d k (nr c) j g (jP c) (nR c) (by omega) (by omega) e H).mono ?_;rintro _ h' ⟨rfl,y,i⟩;exact⟨rfl,DY i⟩
theorem UE(b:bB m=true)(H:aa B h0 h (gq a pw da offs w ds m::As)):
  ac xa 18 #[vS (some a)] h fun v h'=>∃r:Sl,v=r/\Sp h h' [aj 3 r 1 aE (bS ds m.drives)]:=by
 obtain⟨x,H⟩:=jd H;exact gW x m (H.at 1 rfl) (nr b) H
theorem UF(b:bB m=true)(H:aa B h0 h (gq a pw da offs w ds m::As)):
  ac xa 16 #[vS (some a)] h fun v h'=>∃y:bn,v=cN y/\Sp h h' [bt y m]:=by
 obtain⟨x,H⟩:=jd H;exact GY x m (H.at 1 rfl) (nr b) H
theorem BA(k:Int)(H:aa B h0 h (gq a pw da offs w ds m::As)):ac xa 8 #[vS (some a),vQ vW k] h fun v h'=>v=.pointer (gH da k)/\h'=h:=by
 obtain⟨x,H⟩:=jd H;exact Mj H
theorem WJ{k:Int}{d:bf}(c:bs ds k=some d)(H:aa B h0 h (gq a pw da offs w ds m::As)):∃b,gH da k=some b:=by
 obtain⟨x,H⟩:=jd H;obtain⟨b,_,_,e,_⟩:=SP c H;exact⟨b,e⟩
theorem SQ{k:Int}(b:bs ds k=none)(H:aa B h0 h (gq a pw da offs w ds m::As)):gH da k=none:=by
 obtain⟨x,H⟩:=jd H;exact Ya b H
theorem SR{k:Int}{d:bf}{b:Addr}(z:bn)(n:ar)(f:bs ds k=some d)(e:gH da k=some b)(c:eS h z n)(g:cn n)(H:aa B h0 h (gq a pw da offs w ds m::As)):
  ac xa 17 #[vS (some b),cN z] h fun v h'=>v=vU (fT n d.l)/\Sp h h' []:=by
 obtain⟨x,H⟩:=jd H;exact Mk z n f e c g H
end
end Go.Qw
namespace Go.Vc
open Go
section
variable {C:Ctx} {t t2 ty e eb k:Nat} {z:aQ} {by_:Nat} {α:Type} {h h0:Heap} {p B:ap} {v:Sl} {f:α->aQ} {l l2:List α} {As:List HP} {a:Addr} {pre post:aQ}
theorem bZ.Ml(u:C.Ok)(w:bN C.tosH t e k z by_)(o:∀x,(f x).length=k)(j:bZ h a eb (pre++l.flatMap f++post))(y:Seq h p v k f l2)(g:l2.length=l.length)(d:∀x,∀c∈f x,c.oneCell'=true){n r E:Nat}(A:n=pre.length)(B:r=l.length){K:Int->Heap->Prop}
  (F:∀h',bZ h' a eb (pre++l2.flatMap f++post)->aG (fun b=>b≠a.block) h h'->K l2.length h'):
  av C.P (zK #[t,t2] ty #[.slice (some (a.add n)) r E,v]) (.one (.sc (.int .i64))) h K:=by
 unfold av zK;simp only[List.getElem?_toArray,List.getElem?_cons_zero,qo];refine ab.bind (ab.always (au (w.under u)) ?_);refine ab.bind (ab.pure' ?_);refine ab.bind (ab.always (w.size u) ?_);have s:=y.len;have i:Nat.min v.len r=v.len:=wv (by omega);rw[i];refine ab.bind (dV o y ?_);have H:=j.addr;have D:a.add n=⟨a.block,0+n,none⟩:=by
  conv=>lhs;rw[H]
  simp[Addr.add];omega
 rw[D];refine ab.bind ?_;have q:=j.blk;refine cL (e:=eb) (pre:=pre) (old:=l.flatMap f) (post:=post) q (by rw[cw o,cw o,g]) (by omega) ?_ ?_
 ·intro c G;obtain⟨x,_,m⟩:=zL.1 G;exact d x c m
 ·refine ab.pure' ⟨_,by rw[goInt,s],F _ ⟨j.off,j.spot,?_⟩ (aG.fc q (fun A=>A rfl))⟩;rw[eF q,if_pos rfl]
theorem aa.Ml(o:C.Ok)(H:aa B h0 h As)(i:Nat)(m:As[i]?=some (ag a eb (pre++l.flatMap f++post)))(r:bN C.tosH t e k z by_)(q:∀x,(f x).length=k)(s:Seq h p v k f l2)(d:l2.length=l.length)(b:∀x,∀c∈f x,c.oneCell'=true){n j u:Nat}(A:n=pre.length)(g:j=l.length){K:Int->Heap->Prop}
  (w:∀h',aa B h0 h' (As.set i (ag a eb (pre++l2.flatMap f++post)))->K l2.length h'):
  av C.P (zK #[t,t2] ty #[.slice (some (a.add n)) j u,v]) (.one (.sc (.int .i64))) h K:=
 (H.box i m).Ml o r q s d b A g fun h' x y=>w h' (H.oY i m y x)
end
end Go.Vc
namespace Go.Qw
open Go Go.Vc Go.Proofs Wl
section
variable {B:ap} {h0 h:Heap} {As:List HP} {pw a:Addr} {d:bf} {w:Pow}
theorem NA(s t:Sl)(l k:bR)(h:Heap)(g:dU h s 1 aw l)(b:dU h t 1 aw k)(G:l.length<=2^30):
  ac xa 41 #[s,t,.func (.func 43) #[] #[]] h fun v h'=>v=vU (decide (l=k))/\h'=h:=by
 refine iN s t (43,#[],#[]) ?_;unfold fu;have o:=g.len;have A:=b.len;refine ci (fun e=>?_) (fun e=>?_)
 ·refine⟨?_,rfl⟩;rw[decide_eq_false];intro m;rw[m]at o;omega
 have d:l.length=k.length:=by omega
 refine az (fun i:Nat=>(i:Int)) (fun i h'=>i<=l.length/\(∀j (p:j<l.length),j<i->l[j]=(k[j]'(by omega)))/\h'=h) (fun i=>l.length-i) 0 rfl ⟨by omega,fun j _ p=>by omega,rfl⟩ ?_;rintro i o ⟨E,f,rfl⟩;refine al (fun e=>?_) (fun e=>?_)
 ·have c:i<l.length:=by have y:(i:Int)<(s.len:Int):=e;omega
  obtain⟨rs,g⟩:=g;obtain⟨D,b⟩:=b;refine g.Ov i rfl c fun a r _ B u=>?_;refine b.Ov i rfl (by omega) fun a2 q _ z w=>eZ rfl ?_;refine(jb r q l[i] (k[i]'(by omega)) o (g.row i r l[i] u (qd c)) (b.row i q _ w (qd (by omega)))).mono ?_;rintro _ _ ⟨rfl,rfl⟩;refine⟨_,rfl,aW (fun x=>?_) (fun x=>?_)⟩
  ·refine⟨?_,rfl⟩;rw[decide_eq_false];intro m;refine of_decide_eq_false x ?_;simp only[m]
  ·refine⟨i+1,by rw[an _];rfl,⟨by omega,fun j p n=>?_,rfl⟩,by omega⟩;rcases zQ.1 n with h3|rfl
   ·exact f j p h3
   ·exact of_decide_eq_true x
 ·have y:¬(i:Int)<(s.len:Int):=e;refine⟨?_,rfl⟩;rw[decide_eq_true];exact yr d fun j h3 F=>f j h3 (by omega)
theorem NB(H:aa B h0 h (fq pw a d::As))(p:Addr):ac xa 9 #[vS (some a),vS (some p)] h fun v h'=>∃b,v=vS (some b)/\Sp h h' [fq p b d]:=by
 refine sS (some a) (some p) ?_;unfold mQ;obtain⟨ok,s,b,H⟩:=H.nF;have f:=H.box 0 rfl;have u:dU h s 1 aw d.l:=(H.bj 3 [1]).yI fun _=>rfl;have r:dU h b 1 aw d.laid:=(H.bj 3 [2]).yI fun _=>rfl;have z:=ok.len;have A:=ok.room;have D:=ok.laid;refine aU (bq (fun e=>by cases e) fun _=>bq (fun e=>by cases e) fun _=>?_);refine⟨a,rfl,_,f.cell rfl,a,rfl,s,f.cell rfl,a,rfl,_,f.cell rfl,a,rfl,b,f.cell rfl,a,rfl,_,f.cell rfl,a,rfl,_,f.cell rfl,?_⟩;refine(pU s d.l h u (by omega) fun c q=>by rw[ok.cell c q];decide).mono ?_;rintro _ y ⟨m,rfl,o⟩;have g:=f.ah o.ah f.lt;refine⟨m,rfl,⟨g.cell rfl,g.cell rfl,g.cell rfl,g.cell rfl,g.cell rfl,trivial⟩,?_⟩;refine(pU b d.laid y (r.up o.ah) (by omega) fun c q=>by rw[ok.cellL c q];decide).mono ?_;rintro _ w ⟨n,rfl,x⟩;have t:Sp h w [cz m d.l,cz n d.laid]:=o.comp x;have j:=f.ah t.ah f.lt;refine⟨n,rfl,⟨j.cell rfl,j.cell rfl,j.cell rfl,j.cell rfl,trivial⟩,?_⟩;refine t.boxed fun a3 h3 k=>?_;have i:=f.ah k.ah f.lt;refine⟨⟨i.cell rfl,i.cell rfl,i.cell rfl,i.cell rfl,trivial⟩,a3,rfl,?_⟩;have k:Sp h h3 [cz m d.l,cz n d.laid,ag a3 70 (eK p d m n)]:=k;exact aa.tv ok (k.bj 3 [2,0,1])
theorem Of:∀x,∀c∈ft x,c.oneCell'=true:=by intro x c a;simp only[ft,qB]at a;subst a;rfl
theorem Gd(b:aQ)(pw:Addr)(offs:Int)(a:List aM):bL b pw offs a=(b++[vS (some pw),vQ vW offs])++a.flatMap ft++[]:=by
 have:a.flatMap ft=a.map .pointer:=by induction a<;>simp_all [ft]
 simp[bL,this]
theorem UG:bN C.tosH 40 34 1 [vS none] 8:=⟨⟨_,_,rfl,rfl,rfl,rfl,rfl,rfl⟩⟩
theorem NC(x:bn)(m:ar)(l:Int)(v:Sl)(f:List aM)(h:Heap)(k:eS h x m)(s:bB m=true)(A:Rd h v 1 ft f)(u:f.length=64)(o:bZ h pw 56 (powC w l)):
  ac xa 45 #[cN x,vS (some pw),v] h fun r h'=>∃(a:Addr) (y:bn),r=vS (some a)/\Sp h h' [bt y m,ag a 63 (bL (aq y) pw w.offs f)]:=by
 refine Dy x (some pw) v ?_;unfold sW;have q:=nr s;refine(Sp.refl h).boxed fun j p c=>?_;have c:Sp h p [ag j 47 (aq x)]:=c;refine aU ⟨x,(c.box 0 rfl).aF _ rfl,(DN x m p (k.up c.ah) q).mono ?_⟩;rintro _ t ⟨rfl,z⟩;have i:=c.comp z;refine⟨_,rfl,aW (fun e=>by rw[s]at e;cases e) fun _=>bq (fun e=>by cases e) fun _=>?_⟩;refine⟨x,(i.box 0 rfl).aF _ rfl,(oR x m t (k.up i.ah) q).mono ?_⟩;rintro _ h3 ⟨y,rfl,B⟩;have n:Sp h h3 [ag j 47 (aq x),bt y m]:=i.comp B;refine⟨y,rfl,(AO l (o.ah n.ah o.lt)).mono ?_⟩;rintro _ _ ⟨rfl,rfl⟩;refine⟨_,rfl,_,Ie y pw w.offs,n.boxed fun a9 E g=>?_⟩;have b:(Value.agg (bL (aq y) pw w.offs (qh 64 none)).toArray).cells.toList=bL (aq y) pw w.offs (qh 64 none):=by simp[Value.cells]
 rw[b,Gd]at g;refine⟨a9,rfl,?_⟩;refine g.Ml af 2 rfl UG (fun _=>rfl) (Seq.up A g.ah) (by simp[u]) Of rfl (by simp) fun D d=>?_;have d:Sp h D [ag j 47 (aq x),bt y m,ag a9 63 ((aq y++[vS (some pw),vQ vW w.offs])++f.flatMap ft++[])]:=d;rw[<-Gd]at d;exact⟨a9,y,rfl,d.ca [1,2]⟩
end
end Go.Qw
namespace Go.Vc
open Go Wl Go.Qw
section
variable {B:ap} {h0 h:Heap} {As:List HP} {pw:Addr} {da:List aM} {ds:aS} {d:bf} {n:Nat}
theorem aa.Yb(H:aa B h0 h (de bh pw da ds::As)):kz da ds:=H.lA.2
theorem aa.SS(H:aa B h0 h (de bh pw da ds::As)){b:Addr}(g:da[n]?=some (some b))(i:ds[n]?=some (some d)):dc d/\∃s t:Sl,bZ h b 70 (eK pw d s t)/\dU h s 1 aw d.l:=by
 obtain⟨j,a,c⟩:=H.SN i;rw[g]at a;injection a with a
 injection a with a
 subst a;obtain⟨s,t,f,e,_⟩:=fq.box (c:aa B h0 h (fq pw b d::_));obtain⟨ok,_⟩:=c.nF;exact⟨ok,s,t,f,e⟩
end
end Go.Vc
namespace Go.Qw
open Go Go.Vc Go.Proofs Wl
section
variable {B:ap} {h0 h:Heap} {As:List HP} {pw a:Addr} {da:List aM} {ds:aS} {w:Pow}
theorem Jl{l:aD}{j:Nat}(a:j<l.length)(x:Int):x∈l.take (j+1)↔x∈l.take j∨x=l[j]:=by
 rw[aK _ _ a,qH,qB]
def Qm(B:ap)(d:Heap)(As:List HP)(pw:Addr)(c:List aM)(ds:aS)(w:Pow)(v:Value)(b:Heap):Prop:=
 (gj ds=none->v=.tuple #[vS none,vQ vW 11]/\aa B d b (de bh pw c ds::bP 56 pw w::As))/\
  ∀m,gj ds=some m->((opens m m.drives w ds).1≠0->v=.tuple #[vS none,vQ vW (opens m m.drives w ds).1]/\aa B d b (de bh pw c (opens m m.drives w ds).2.2::bP 56 pw (opens m m.drives w ds).2.1::As))/\
   ((opens m m.drives w ds).1=0->∃a:Addr,v=.tuple #[vS (some a),vQ vW 0]/\aa B d b (gq a pw (dm (ic m) c) (opens m m.drives w ds).2.1.offs (opens m m.drives w ds).2.1 (dm (ic m) (opens m m.drives w ds).2.2) m::As))
theorem Mm(s:Sl)(h:Heap):ac xa 14 #[vS none,s] h fun v h'=>v=.tuple #[vS none,vQ vW 1]/\h'=h:=by
 refine wn none s ?_;unfold sn;exact bq (fun _=>⟨rfl,rfl⟩) fun e=>by cases e
theorem Iz(s:Sl)(hS:St B h0 As fun h=>Rd h s 1 ft da)(hn:ds.length<=64)(b7:s.len<=s.cap)(hj:∀d,some d∈ds->(eW d.l).length<20)(a0:∀m,gj ds=some m->bB m=true)
  (H:aa B h0 h (de bh pw da ds::bP 56 pw w::As)):ac xa 14 #[vS (some pw),s] h fun v h'=>
  Qm B h0 As pw da ds w v h':=by
 refine wn (some pw) s ?_;unfold sn;have a5:=hS.at [_,_] H;have V:=H.Yb;have ch:=a5.len;have b2:=V.len;have br:(if(64:Int)<(s.len:Int)then(64:Int)else(s.len:Int))=(s.len:Int):=if_neg (by omega);rw[br];refine bq (fun e=>by cases e) fun _=>⟨⟨by omega,by omega⟩,?_⟩
 simp only[qq];refine(Ny (pw:=pw) s da ds h a5 b2 hn fun i p d t hd=>?_).mono ?_
 ·cases d with
  |none=>
   have:=V.AV hd;rw[t]at this;injection this with this
   subst this;trivial
  |some d=>
   obtain⟨b,O⟩:=V.addr hd;rw[t]at O;injection O with O
   subst O;obtain⟨ok,s1,t1,q1,q2⟩:=H.SS t hd;exact⟨ok,hj d (wu hd),s1,t1,q1,q2⟩
 rintro _ h1 ⟨x,rfl,_,R1⟩;have H1:=H.cM R1;refine⟨(x,(gj ds).isSome),rfl,H1.alloc af rfl fun a2 h2 H2=>?_⟩;have H2:=H2.cl;refine H2.storeAll af 0 rfl rfl (aq x) rfl rfl rfl rfl fun h3 Y=>?_;have Y:aa B h0 h3 (ag a2 47 (aq x)::bt x ((gj ds).getD fm)::de bh pw da ds::bP 56 pw w::As):=Y;refine aW (fun e=>⟨fun _=>⟨rfl,Y.bj 4 [2,3]⟩,fun m hm=>by rw[hm]at e;cases e⟩) fun e=>?_;obtain⟨m,hm⟩:∃m,gj ds=some m:=wE.1 e;have hM:=a0 m hm;rw[hm]at Y;have Y:aa B h0 h3 (ag a2 47 (aq x)::bt x m::de bh pw da ds::bP 56 pw w::As):=Y;have hz:=nr hM;have b9:=nR hM;have U:∀{v:Value} {h':Heap},(((opens m m.drives w ds).1≠0->v=.tuple #[vS none,vQ vW (opens m m.drives w ds).1]/\aa B h0 h' (de bh pw da (opens m m.drives w ds).2.2::bP 56 pw (opens m m.drives w ds).2.1::As))/\
   ((opens m m.drives w ds).1=0->∃a:Addr,v=.tuple #[vS (some a),vQ vW 0]/\aa B h0 h' (gq a pw (dm (ic m) da) (opens m m.drives w ds).2.1.offs (opens m m.drives w ds).2.1 (dm (ic m) (opens m m.drives w ds).2.2) m::As)))->Qm B h0 As pw da ds w v h':=fun{v h'} S=>by
  unfold Qm;refine⟨fun h=>(by rw[hm]at h;cases h),fun m' M=>?_⟩;rw[hm]at M;injection M with M
  subst M;exact S
 refine Y.make af ft UG (by decide) none rfl rfl 64 64 rfl rfl (qp _) (by decide) fun o h4 cs cd H4=>?_;have H4:aa B h0 h4 (de bh pw da ds::bP 56 pw w::bt x m::ag a2 47 (aq x)::aj 34 o 1 ft (qh 64 none)::As):=H4.cl.bj 5 [3,4,2,1,0];refine⟨x.2.2.2.2.2.2.1,(H4.box 3 rfl).cell rfl,?_⟩;refine az (fun j:Nat=>(j:Int)) (fun j h'=>j<=m.drives.length/\∃(g:Pow) (f:aS) (k:List aM),opens m m.drives w ds=opens m (m.drives.drop j) g f/\f.length=ds.length/\k.length=64/\
   (∀i:Nat,i<64->k[i]?=some (if(i:Int)∈m.drives.take j then da.getD i none else none))/\
   aa B h0 h' (de bh pw da f::bP 56 pw g::bt x m::ag a2 47 (aq x)::aj 34 o 1 ft k::As)) (fun j=>m.drives.length-j) 0 rfl
  ⟨zo _,w,ds,_,rfl,rfl,by simp,fun i R=>by rw[wg,if_pos R];simp,H4⟩ ?_
 rintro j h5 ⟨cp,g,f,k,I,bb,X,F,N⟩;dsimp only;have hx:eS h5 x m:=N.at 2 rfl;have b6:=hx.drives.len;have a9:=hS.at [_,_,_,_,_] N;have a7:=N.Yb;refine al (fun e=>?_) fun e=>?_
 ·have r:j<m.drives.length:=by have e':(j:Int)<(x.2.2.2.2.2.2.1.len:Int):=e;omega
  refine hx.drives.cK j rfl r m.drives[j] rfl ?_;obtain⟨n,W⟩:∃n:Nat,m.drives[j]=(n:Int):=⟨m.drives[j].toNat,by have:=jP hM _ (qn r);omega⟩
  have b5:n<64:=by have:=jP hM _ (qn r);omega
  rw[W];have Z:m.drives.drop j=(n:Int)::m.drives.drop (j+1):=by rw[qS r,W]
  have q:opens m (m.drives.drop j) g f=if(fJ m g f n).1=0 then opens m (m.drives.drop (j+1)) (fJ m g f n).2.1 (fJ m g f n).2.2 else fJ m g f n:=by rw[Z];rfl
  have E:∀i:Nat,((i:Int)∈m.drives.take (j+1))↔((i:Int)∈m.drives.take j)∨i=n:=fun i=>by
   rw[Jl r,W];constructor
   ·rintro(h|h);exact .inl h;exact .inr (by omega)
   ·rintro(h|h);exact .inl h;exact .inr (by omega)
  have ax:bs f (n:Int)=(f[n]?).join:=by unfold bs;rw[if_pos (by omega),qq]
  have wr:qc vW ((j:Int)+1)=((j+1:Nat):Int):=by rw[an _];rfl
  rw[wr];have skip:bs f (n:Int)=none->da.getD n none=none->∃K,(((j+1:Nat):Int))=((K:Nat):Int)/\(K<=m.drives.length/\∃(g:Pow) (f:aS) (k:List aM),opens m m.drives w ds=opens m (m.drives.drop K) g f/\f.length=ds.length/\k.length=64/\
   (∀i:Nat,i<64->k[i]?=some (if(i:Int)∈m.drives.take K then da.getD i none else none))/\
   aa B h0 h5 (de bh pw da f::bP 56 pw g::bt x m::ag a2 47 (aq x)::aj 34 o 1 ft k::As))/\m.drives.length-K<m.drives.length-j:=fun h1 h2=>by
   refine⟨j+1,rfl,⟨r,g,f,k,?_,bb,X,fun i R=>?_,N⟩,by omega⟩
   ·rw[I,q];have:fJ m g f n=(0,g,f):=by unfold fJ;rw[h1]
    rw[this,if_pos rfl]
   ·rw[F i R];by_cases z:i=n
    ·subst z;rw[h2];simp
    ·have:((i:Int)∈m.drives.take (j+1))↔((i:Int)∈m.drives.take j):=by rw[E];simp[z]
     simp only[this]
  refine aU (al (fun e2=>?_) fun e2=>?_)
  ·have e2:(n:Int)>=(s.len:Int):=e2;refine skip ?_ ?_
   ·rw[ax,qX (by omega)];rfl
   ·rw[qf,qX (by omega)];rfl
  ·have e2:¬(n:Int)>=(s.len:Int):=e2;have Q:n<da.length:=by omega
   have bd:n<f.length:=by omega
   obtain⟨p,t⟩:∃p,da[n]?=some p:=⟨_,qd Q⟩
   obtain⟨dd,u⟩:∃dd,f[n]?=some dd:=⟨_,qd bd⟩
   have a3:da[n]=p:=by rw[qd Q]at t;injection t
   refine a9.kA n rfl Q p (by rw[a3]) fun a8 _=>?_;cases dd with
   |none=>
    have:=a7.AV u;rw[t]at this;injection this with this
    subst this;refine bq (fun _=>skip (by rw[ax,u];rfl) (by rw[qf,t];rfl)) fun e=>by cases e
   |some d=>
    obtain⟨b,O⟩:=a7.addr u;rw[t]at O;injection O with O
    subst O;refine bq (fun e=>by cases e) fun _=>a9.kA n rfl Q (some b) (by rw[a3]) fun cf _=>?_;refine N.set af 4 rfl (fun _=>rfl) rfl n rfl (by omega) (some b) rfl rfl rfl fun h6 L=>?_;have L:aa B h0 h6 (de bh pw da f::bP 56 pw g::bt x m::ag a2 47 (aq x)::aj 34 o 1 ft (k.set n (some b))::As):=L;have ad:∀i:Nat,i<64->(k.set n (some b))[i]?=some (if(i:Int)∈m.drives.take (j+1)then da.getD i none else none):=fun i R=>by
     rw[qW];by_cases z:n=i
     ·subst z;rw[if_pos rfl,if_pos (by omega),if_pos ((E n).2 (.inr rfl)),qf,t];rfl
     ·have:((i:Int)∈m.drives.take (j+1))↔((i:Int)∈m.drives.take j):=by rw[E];simp[Ne.symm z]
      rw[if_neg z,F i R];simp only[this]
    have J:bs f (n:Int)=some d:=by rw[ax,u];rfl
    have next:∀{h':Heap} (w':Pow) (d':aS),fJ m g f n=(0,w',d')->d'.length=f.length->aa B h0 h' (de bh pw da d'::bP 56 pw w'::bt x m::ag a2 47 (aq x)::aj 34 o 1 ft (k.set n (some b))::As)->
      ∃K,(((j+1:Nat):Int))=((K:Nat):Int)/\(K<=m.drives.length/\∃(g:Pow) (f:aS) (k:List aM),opens m m.drives w ds=opens m (m.drives.drop K) g f/\f.length=ds.length/\k.length=64/\
   (∀i:Nat,i<64->k[i]?=some (if(i:Int)∈m.drives.take K then da.getD i none else none))/\
   aa B h0 h' (de bh pw da f::bP 56 pw g::bt x m::ag a2 47 (aq x)::aj 34 o 1 ft k::As))/\m.drives.length-K<m.drives.length-j:=fun{h'} w' d' ho hl' H'=>
     ⟨j+1,rfl,⟨r,w',d',_,by rw[I,q,ho,if_pos rfl],by rw[hl',bb],by simp[X],ad,H'⟩,by omega⟩
    obtain⟨P,s1,t1,q1,q2⟩:=L.SS t u;refine(ol s1 t1 q1).mono ?_;rintro _ h6 ⟨rfl,rfl⟩;refine⟨_,rfl,bq (fun el=>next g f (by unfold fJ;rw[J];dsimp only;rw[if_pos el]) rfl L) fun el=>?_⟩;refine⟨x,(L.box 3 rfl).aF _ rfl,(SK s1 t1 x m q1 q2 P (L.at 2 rfl) hz).mono ?_⟩;rintro _ h7 ⟨r7,rfl,R7⟩;have b1:=q1.ah R7.ah q1.lt;have bk:=q2.up R7.ah;refine⟨r7,rfl,(uP s1 t1 b1 bk P).mono ?_⟩;rintro _ h8 ⟨r8,rfl,R8⟩;have ay:Sp h6 h8 [cz r7 (dO m d),cz r8 d.l]:=R7.comp R8;have k1:=P.len;have k2:=P.room;have kl:=Mi m d;refine⟨r8,rfl,(NA r8 r7 d.l (dO m d) h8 ((ay.bj 2 [1]).yI fun _=>rfl) (ay.yI fun _=>rfl) (by omega)).mono ?_⟩;rintro _ h8 ⟨rfl,rfl⟩;have a6:¬d.lost=true:=by rw[el];decide
    have H8:aa B h0 h8 (de bh pw da f::bP 56 pw g::bt x m::ag a2 47 (aq x)::aj 34 o 1 ft (k.set n (some b))::As):=L.up ay.ah;refine⟨_,rfl,bq (fun ee=>next g f (by unfold fJ;rw[J];dsimp only;rw[if_neg a6,if_pos (of_decide_eq_true ee)]) rfl H8) fun ee=>?_⟩;have b0:=of_decide_eq_false ee;have H9:aa B h0 h8 (cz r7 (dO m d)::de bh pw da f::bP 56 pw g::bt x m::ag a2 47 (aq x)::aj 34 o 1 ft (k.set n (some b))::As):=(L.cM R7).up R8.ah;obtain⟨rs,H9⟩:=H9.Pn fun _=>rfl;obtain⟨b',D,am⟩:=(H9.jF).SN u;rw[t]at D;injection D with D
    injection D with D
    subst D;have am:=am.bj 4 [0,3,1,2];refine(Bd r7 (dO m d) am (St.iv 1 rfl fun h' hq=>?_) (by omega) fun c hc=>by rw[Gb m d c hc];decide).mono ?_
    ·exact⟨rs,hq.1,hq.2.1,hq.2.2⟩
    rintro _ b3 ⟨rfl,bw⟩;have A:fJ m g f n=((d.rewrite g (dO m d)).1,(d.rewrite g (dO m d)).2.1,fO f n (d.rewrite g (dO m d)).2.2):=by
     unfold fJ;rw[J];dsimp only;rw[if_neg a6,if_neg b0]
    have a1:aa B h0 b3 (de bh pw da (f.set n (some (d.rewrite g (dO m d)).2.2))::bP 56 pw (d.rewrite g (dO m d)).2.1::bt x m::ag a2 47 (aq x)::aj 34 o 1 ft (k.set n (some b))::As):=aa.XX t (bw.bj 7 [0,2,1,4,5,6]);have b4:fO f (n:Int) (d.rewrite g (dO m d)).2.2=f.set n (some (d.rewrite g (dO m d)).2.2):=by unfold fO;rw[qq]
    rw[b4]at A;refine⟨_,rfl,ci (fun G=>U ⟨fun _=>?_,fun h0'=>?_⟩) fun G=>next _ _ (by rw[A,G]) (by simp) a1⟩
    ·have:opens m m.drives w ds=fJ m g f n:=by rw[I,q,A,if_neg G]
     rw[this,A];exact⟨rfl,a1.bj 5 [0,1]⟩
    ·exfalso;have:opens m m.drives w ds=fJ m g f n:=by rw[I,q,A,if_neg G]
     rw[this,A]at h0';exact G h0'
 ·have e':¬(j:Int)<(x.2.2.2.2.2.2.1.len:Int):=e;have a4:j=m.drives.length:=by omega
  have T:opens m m.drives w ds=(0,g,f):=by rw[I,a4,List.drop_length];rfl
  obtain⟨lw,cc,L⟩:=aa.pd (N.jF:aa B h0 h5 (bP 56 pw g::de bh pw da f::_));have bl:k=dm (ic m) da:=by
   refine zr fun i=>?_;by_cases R:i<64
   ·rw[F i R,lY _ _ _ R,a4,zc];unfold ic;by_cases S:(i:Int)∈m.drives
    ·rw[if_pos S,decide_eq_true S];rfl
    ·rw[if_neg S,decide_eq_false S];rfl
   ·rw[qX (by omega),qX (by rw[Ix];omega)]
  refine⟨x,(N.box 3 rfl).aF _ rfl,(NC (w:=g) x m lw o k h5 hx hM (N.seq 4 rfl fun _=>rfl) X (L.box 0 rfl)).mono ?_⟩;rintro _ h7 ⟨a,y,rfl,R7⟩;refine⟨some a,rfl,U ⟨fun S=>absurd (by rw[T]) S,fun _=>⟨a,rfl,?_⟩⟩⟩;rw[T];dsimp only;have e1:(de bh pw da f::bP 56 pw g::bt x m::ag a2 47 (aq x)::aj 34 o 1 ft k::As)++[bt y m,ag a 63 (bL (aq y) pw g.offs k)]=((de bh pw da f::bP 56 pw g::bt x m::ag a2 47 (aq x)::aj 34 o 1 ft k::As)++[bt y m])++[ag a 63 (bL (aq y) pw g.offs k)]:=by simp
  have H7:=N.comp R7;rw[e1,bl]at H7;have H8:aa B h0 h7 ((ag a 63 (bL (aq y) pw g.offs (dm (ic m) da))::de bh pw da f::bP 56 pw g::bt x m::ag a2 47 (aq x)::aj 34 o 1 ft (dm (ic m) da)::As)++[bt y m]):=H7.cl;have H9:aa B h0 h7 (de bh pw da f::bP 56 pw g::ag a 63 (bL (aq y) pw g.offs (dm (ic m) da))::bt y m::As):=H8.cl.bj 7 [2,3,1,0];exact DY (aa.XY rfl (Ix _ _) (aa.XZ (ic m) (by omega) H9))
end
theorem Ad{l:aD}(h:l.Pairwise (·<·)):iP l=l:=by
 have f:(iP l).Perm l:=List.mergeSort_perm _ _;have g:(iP l).Pairwise (fun a b=>decide (a<=b)=true):=List.pairwise_mergeSort (fun a b c e d=>by simp at*;omega) (fun a b=>by simp;omega) l;refine f.eq_of_pairwise (le:=fun a b:Int=>decide (a<=b)=true) ?_ g (h.imp fun h=>by simp;omega);intro a b _ _ e d;simp at e d;omega
theorem rZ(c:Nat)(x:Int)(d:0<x:=by omega):ba (qh c x) (qh c x).length=(qD c).map fun i:Nat=>(i:Int):=by
 rw[wR];unfold ba;refine wy.2 fun y b=>?_;obtain⟨i,a,rfl⟩:=qE.1 b;have a:=qF.1 a;simp[qf,a];omega
theorem SU{p:Pm}{extra:Int}(h:bV p=true)(e:0<=extra/\extra<=16)(c:Nat)(x:Int)(l:1<=c/\c<=24)(k:1<=x/\x<=512):re p extra (qh c x)=0:=by
 have j:(dB (qh c x)).2=true:=by
  have a:(qh c x).all (dC · 0 512)=true:=qU.2 fun y b=>by
   rw[List.eq_of_mem_replicate b];exact(jO _ _ _).2 ⟨by omega,by omega⟩
  unfold dB;rw[if_pos a,rZ c x,wR];simp;omega
 have g:dC extra 0 16=true:=(jO _ _ _).2 e;have h3:((ba (qh c x) (qh c x).length).any fun i=>decide ((qh c x).getD i.toNat 0<((aP (cu p extra (qh c x))).length:Int)))=false:=by
  refine wM.2 fun y b=>?_;rw[rZ c x]at b;obtain⟨i,d,rfl⟩:=qE.1 b;have d:=qF.1 d;have m:=Jh p extra (qh c x) (by simp;omega);have f:(qh c x).getD ((i:Int)).toNat 0=x:=by rw[qq];simp[qf,d]
  rw[f];simp;omega
 unfold re;rw[j,h,g,h3];rfl
structure Ca (p:Pm) (extra:Int) (c:Nat) (x:Int) (m:ar) (D:aS):Prop where
 m_eq:m=cu p extra (qh c x)
 len:D.length=64
 may:bB m=true
 dr:m.drives=(qD c).map fun i:Nat=>(i:Int)
 at_:∀s,bs D s=if s∈m.drives then some ⟨x.toNat,aP m,0,[],false,false⟩else none
theorem UH{p:Pm}{extra:Int}{c:Nat}{x:Int}(k:bV p=true)(j:0<=extra/\extra<=16)(f:1<=c/\c<=24)(d:1<=x/\x<=512){D:aS}(b:D.length=64)
  (g:∀s,bs D s=if s∈ba (qh c x) (qh c x).length then some ⟨((qh c x).getD s.toNat 0).toNat,aP (cu p extra (qh c x)),0,[],false,false⟩else none):Ca p extra c x (cu p extra (qh c x)) D:=by
 have e:=SU k j c x f d;refine⟨rfl,b,LF (by simp;omega) e,rZ c x,fun s=>?_⟩;rw[g s];show(if s∈ba _ _ then _ else none)=(if s∈ba _ _ then _ else none)
 by_cases h:s∈ba (qh c x) (qh c x).length
 ·rw[if_pos h,if_pos h];rw[rZ c x]at h;obtain⟨i,a,rfl⟩:=qE.1 h;have a:=qF.1 a;rw[qq,pG 0 (by simpa using a),List.getElem_replicate]
 ·rw[if_neg h,if_neg h]
theorem Ca.live{p:Pm}{extra:Int}{c:Nat}{x:Int}{m:ar}{D:aS}(F:Ca p extra c x m D):bS D m.drives=m.drives:=wy.2 fun k a=>by
 unfold isLive;rw[F.at_ k,if_pos a];rfl
theorem Ca.aH{p:Pm}{extra:Int}{c:Nat}{x:Int}{m:ar}{D:aS}(F:Ca p extra c x m D):m.aH=[]/\m.seq=1/\m.next=0/\m.p=p/\m.extra=extra:=by rw[F.m_eq];exact⟨rfl,rfl,rfl,rfl,rfl⟩
theorem SV{M:ar}{D2:aS}{b:aL}{name:ByteArray}(z:bB M=true)(h:D2.length=64)(o:M.aH=[])(O:M.seq<=100)(L:M.next<=100)(n:bS D2 M.drives≠[])(J:gC name=true)(H:(b.length:Int)<=M.p.1*M.p.2.2*8)
  (q:∀j∈bS D2 M.drives,∃d,bs D2 j=some d/\d.lost=false/\(d.l.length:Int)+9+(aT M.p b).length*(M.p.1+M.extra).toNat<=d.room):
  (ck M.p M.next (aT M.p b).length=none->cZ M 0 Pow.new D2 name b=(8,M,Pow.new,D2))/\∀t,ck M.p M.next (aT M.p b).length=some t->
   bB (dK M ⟨name,M.next,b.length,t⟩)=true/\∃c,cZ M 0 Pow.new D2 name b=(0,dK M ⟨name,M.next,b.length,t⟩,Pow.new,c)/\c.length=64/\
    ∀k,bs c k=(bs D2 k).map fun d=>if k∈bS D2 M.drives then eV ((fj M M.next t (aT M.p b) (bS D2 M.drives) k (aT M.p b).length).map dp++aP (dK M ⟨name,M.next,b.length,t⟩)) d else d:=by
 have i:cO M (iD Pow.new 0) D2 name b.length=0:=PQ J (fun e s=>by rw[o]at s;cases s) H (by rw[o];decide) n (by omega) (by omega);obtain⟨_,D⟩:=Iq (m:=M) (offs:=0) (w:=Pow.new) (ds:=D2) (name:=name) (b:=b) uY h z;obtain⟨v,y⟩:=D i;refine⟨v,fun t E=>?_⟩;obtain⟨f,_,F⟩:=y t E;refine⟨f,?_⟩;have K:=tV f;have u:∀j,gM (aP (dK M ⟨name,M.next,b.length,t⟩)).length (cI M M.next t (aT M.p b) (bS D2 M.drives) (aT M.p b).length) j<=9+(aT M.p b).length*(M.p.1+M.extra).toNat/\0<=gM (aP (dK M ⟨name,M.next,b.length,t⟩)).length (cI M M.next t (aT M.p b) (bS D2 M.drives) (aT M.p b).length) j:=fun j=>by
  rw[Bp,LN,qC];have:=CW M M.next t (aT M.p b) (bS D2 M.drives) j (aT M.p b).length;have e:(((aT M.p b).length*(M.p.1+M.extra).toNat:Nat):Int)=((aT M.p b).length:Int)*((M.p.1+M.extra).toNat:Int):=wc _ _;omega
 obtain⟨c,A,x,G⟩:=F (PR fun j I=>by
  obtain⟨d,a,r,B⟩:=q j I;have:=u j;exact⟨d,a,r,this.2,by omega⟩)
 refine⟨c,A,x,fun k=>?_⟩;rw[G k];cases hd:bs D2 k with
 |none=>rfl
 |some d=>
  rw[qJ,qJ];by_cases g:k∈bS D2 M.drives
  ·obtain⟨N,a,r,B⟩:=q k g;rw[hd]at a;injection a with a
   subst a;have:=u k;rw[if_pos g,if_pos g,Np (by omega)]
  ·rw[if_neg g,if_neg g]
theorem Qn{m:ar}(b:bB m=true)(l:bR):fT m (eU m l)=true:=by
 unfold fT;rw[b,z8];exact qU.2 fun c a=>decide_eq_true (List.mem_append_left _ a)
theorem UI{m:ar}(a:bB m=true)(l:bR):(eU m l).length<=9+l.length:=by
 have c:=tV a;have b:=oS m l;unfold eU;rw[qw];omega
theorem WK{m:ar}{d:bf}(a:d.lost=false)(c:(eU m d.l).length<=d.room):(oU m d).lost=false/\(oU m d).l=eU m d.l:=by
 have b:dO m d=eU m d.l:=by unfold dO;rw[if_pos c]
 unfold oU;split
 ·rename_i h;rcases h with h|h
  ·rw[a]at h;cases h
  ·exact⟨a,h.trans b⟩
 ·exact⟨a,b⟩
theorem Yc{D:aS}(c:D.length=64){d:bf}(h:some d∈D):∃k,bs D k=some d:=by
 obtain⟨i,a,b⟩:=qN h;refine⟨(i:Int),?_⟩;unfold bs;rw[if_pos (by omega),qq,qd a,b];rfl
theorem at_mem{D:aS}{d:bf}{k:Int}(h:bs D k=some d):some d∈D:=by
 unfold bs at h;split at h
 ·cases hx:D[k.toNat]? with
  |none=>rw[hx]at h;cases h
  |some o=>rw[hx]at h;have:o=some d:=h;rw[<-this];exact wu hx
 ·cases h
theorem Mn{m:ar}{k:Int}(h:0<=k):ic m k.toNat=decide (k∈m.drives):=by unfold ic;rw[Int.toNat_of_nonneg h]
structure Mo (m:ar) (d:bf):Prop where
 lost:d.lost=false
 room:d.room=90
 len:d.l.length<=40
 few:(eW d.l).length<20
theorem Qp{m:ar}{C:Int->aL}{D:aS}{f:bf}{w:Nat}(S:Ma m C D)(q:m.drives=[0,1,2])(Z:w<3)(e:∀k d,bs D k=some d->Mo m d/\fT m d.l=true)(b:∀k∈[(0:Int),1,2],∃d,bs D k=some d)
  (A:Mo m f) (O:∀c∈f.l,eC m C c):
  (∀d,some d∈(D.set w (some f)).set 9 (some (bf.new 5))->(eW d.l).length<20)/\gj ((D.set w (some f)).set 9 (some (bf.new 5)))=some m/\
  ∃n,opens m m.drives Pow.new ((D.set w (some f)).set 9 (some (bf.new 5)))=(0,Pow.new,n)/\n.length=64/\bS (dm (ic m) n) m.drives=m.drives/\bs (dm (ic m) n) 9=none/\∃d,bs (dm (ic m) n) (w:Int)=some d/\fT m d.l=true:=by
 obtain⟨o,j⟩:∃o,o=(D.set w (some f)).set 9 (some (bf.new 5)):=⟨_,rfl⟩
 rw[<-j];have i:=S.len;have t:∀d,some d∈o->d=bf.new 5∨d=f∨∃k,bs D k=some d:=fun d a=>by
  rw[j]at a;rcases wb a with a|a
  ·rcases wb a with a|a
   ·exact .inr (.inr (Yc i a))
   ·injection a with a;exact .inr (.inl a)
  ·injection a with a;exact .inl a
 have I:∀s,bs o s=if s=9 then some (bf.new 5)else if s=(w:Int)then some f else bs D s:=fun s=>by
  have L:=lW (D.set w (some f)) 9 (bf.new 5) s (by omega) (by simpa using i);have J:=lW D w f s (by omega) i;unfold fO at L J;rw[qq]at L J;rw[j,L,J];rfl
 have N:∀d,some d∈o->∀c∈d.l,eC m C c:=fun d a c M=>by
  rcases t d a with rfl|rfl|⟨k,g⟩
  ·cases M
  ·exact O c M
  ·exact S.cells k d g c M
 obtain⟨p,u,v⟩:∃p∈[(0:Int),1,2],p≠(w:Int):=by
  by_cases h:w=0
  ·exact⟨1,by simp,by omega⟩
  ·exact⟨0,by simp,by omega⟩
 obtain⟨P,r⟩:=b p u;have z:p≠9:=by rintro rfl;simp at u
 have G:bs o p=some P:=by rw[I,if_neg z,if_neg v,r]
 have x:=SL S.may N (at_mem G) (e p P r).1.lost (e p P r).2;refine⟨fun d a=>?_,x,?_⟩
 ·rcases t d a with rfl|rfl|⟨k,g⟩
  ·exact Nat.lt_of_le_of_lt (Bz _) (by decide)
  ·exact A.few
  ·exact(e k d g).1.few
 obtain⟨n,V,T,X⟩:=Gc uY (m:=m) (l:=m.drives) (ds:=o) (EE S.may) (by rw[j];simpa using i);have E:∀k∈m.drives,∃d,bs n k=some d/\d.lost=false/\fT m d.l=true:=fun k g=>by
  have y:k∈[(0:Int),1,2]:=q▸g;obtain⟨d,a,H⟩:∃d,bs o k=some d/\Mo m d:=by
   have Q:k≠9:=by rintro rfl;simp at y
   by_cases B:k=(w:Int)
   ·exact⟨f,by rw[I,if_neg Q,if_pos B],A⟩
   ·obtain⟨d,a⟩:=b k y;exact⟨d,by rw[I,if_neg Q,if_neg B,a],(e k d a).1⟩
  have Y:=UI S.may d.l;have:=H.len;have:=H.room;obtain⟨W,U⟩:=WK (m:=m) H.lost (by omega);exact⟨oU m d,by rw[X,if_pos g,a];rfl,W,by rw[U];exact Qn S.may _⟩
 refine⟨n,V,T,wy.2 fun k g=>?_,?_,?_⟩
 ·obtain⟨d,a,R,_⟩:=E k g;have h0:=jP S.may k g;unfold isLive;rw[DX,Mn h0.1,decide_eq_true g,if_pos rfl,a];simp[R]
 ·rw[DX,if_neg (by unfold ic;rw[q];decide)]
 ·have F:(w:Int)∈m.drives:=by rw[q];simp;omega
  obtain⟨d,a,_,K⟩:=E _ F;refine⟨d,?_,K⟩;rw[DX,Mn (by omega),decide_eq_true F,if_pos rfl,a]
theorem ND{p:Pm}{E:Int}{m:ar}{D:aS}(F:Ca p E 3 90 m D)(hE:0<=E/\E<=6)(hK:1<=p.1/\p.1<=6)(hs:0<p.1*p.2.2){name:ByteArray}(O:gC name=true){b:aL}(hb:(b.length:Int)<=p.1*p.2.2):
  ((cZ m 0 Pow.new D name b).1=0∨(cZ m 0 Pow.new D name b).1=8)/\(cZ m 0 Pow.new D name b).2.2.1=Pow.new/\∃C:Int->aL,
   Ma (cZ m 0 Pow.new D name b).2.1 C (cZ m 0 Pow.new D name b).2.2.2/\(cZ m 0 Pow.new D name b).2.1.drives=[0,1,2]/\
   (∀k d,bs (cZ m 0 Pow.new D name b).2.2.2 k=some d->Mo (cZ m 0 Pow.new D name b).2.1 d/\fT (cZ m 0 Pow.new D name b).2.1 d.l=true)/\
   (∀k∈[(0:Int),1,2],∃d,bs (cZ m 0 Pow.new D name b).2.2.2 k=some d)/\
   Mo (cZ m 0 Pow.new D name b).2.1 ⟨90,aP m,0,[],false,false⟩/\∀c∈aP m,eC (cZ m 0 Pow.new D name b).2.1 C c:=by
 obtain⟨W,o2,K,g,V⟩:=F.aH;have f:m.drives=[0,1,2]:=F.dr;have h9:=tV F.may;have v:∀n:ar,bB n=true->(eW (aP n)).length<20:=fun n O=>by
  have s:=Bz (aP n);have o:=yo bU (aP n);have:=tV O;omega
 have H:Int->aL:=fun _=>[]
 have S:Ma m H D:=by
  refine⟨F.may,F.len,fun k d a c u=>?_,fun e J=>by rw[W]at J;cases J⟩;rw[F.at_]at a;split at a
  ·injection a with a
   subst a;exact tW H F.may u
  ·cases a
 have R:(aT p b).length<=1:=by
  have y:bV p=true:=by have:=((gQ m).1 ((dQ m).1 F.may).1).2.2.1;rw[g]at this;exact this
  have s:=Bo y b;have Z:countP p b.length<=1:=by
   unfold countP;split
   ·have o:((b.length:Int)-1)/(p.1*p.2.2)<1:=Int.ediv_lt_of_lt_mul hs (by rw[Int.one_mul];omega);omega
   ·decide
  omega
 have X:(aT p b).length*(p.1+E).toNat<=1*12:=Nat.mul_le_mul R (by omega);have w:∀j∈m.drives,bs D j=some ⟨90,aP m,0,[],false,false⟩:=fun j Q=>by rw[F.at_,if_pos Q];rfl
 obtain⟨T,U⟩:=SV (M:=m) (D2:=D) (b:=b) (name:=name) F.may F.len W (by omega) (by omega) (by rw[F.live,f];simp) O (by rw[g];omega) (by
  rw[F.live,g,V];intro j Q;have e:(((aT p b).length*(p.1+E).toNat:Nat):Int)=((aT p b).length:Int)*((p.1+E).toNat:Int):=wc _ _;exact⟨_,w j Q,rfl,by show((aP m).length:Int)+9+_<=((90:Nat):Int);omega⟩)
 rw[F.live,K,g]at U;rw[K,g]at T;cases ht:ck p 0 (aT p b).length with
 |none=>
  rw[T ht];refine⟨.inr rfl,rfl,H,S,f,fun k d a=>?_,fun k I=>⟨_,w k (by rw[f];exact I)⟩,⟨rfl,rfl,by show(aP m).length<=40;omega,v m F.may⟩,fun c u=>tW H F.may u⟩;rw[F.at_]at a;split at a
  ·injection a with a
   subst a;refine⟨⟨rfl,rfl,by show(aP m).length<=40;omega,v m F.may⟩,?_⟩;unfold fT;rw[F.may,z8];exact qU.2 fun pg y=>decide_eq_true y
  ·cases a
 |some t=>
  obtain⟨h,D3,N,q2,G⟩:=U t ht;have z:=tV h;rcases WC (offs:=0) (name:=name) (b:=b) uY S with⟨⟨e,J,s⟩,_⟩|⟨_,t',ds',s,o,h3,h4⟩
  ·rw[N]at s;injection s with s
   exact absurd s.symm J
  ·rw[N]at o;injection o with _ o
   injection o with h5 o
   injection o with _ h6
   rw[N];dsimp only;rw[h5,h6];rw[h5]at h z G;rw[h6]at G;have q:(dK m ⟨name,m.next,b.length,t'⟩).drives=[0,1,2]:=f;obtain⟨x,A⟩:∃x,x=dK m ⟨name,m.next,b.length,t'⟩:=⟨_,rfl⟩
   rw[<-A]at h z G h3 q⊢;have B:=fun k=>CW m 0 t (aT p b) m.drives k (aT p b).length;rw[g,V]at B;refine⟨.inl rfl,rfl,_,h3,q,fun k d a=>?_,fun k I=>?_,⟨rfl,rfl,by show(aP m).length<=40;omega,v m F.may⟩,fun c u=>?_⟩
   ·rw[G]at a;cases h0:bs D k with
    |none=>rw[h0]at a;cases a
    |some d0=>
     rw[h0,qJ]at a;injection a with a
     rw[F.at_]at h0;split at h0
     ·rename_i I;injection h0 with h0
      rw[if_pos I]at a;subst a;have L:(eV ((fj m 0 t (aT p b) m.drives k (aT p b).length).map dp++aP x) d0).l=aP m++((fj m 0 t (aT p b) m.drives k (aT p b).length).map dp++aP x):=by rw[LR,<-h0]
      have ad:=B k;refine⟨⟨by rw[(rU _ _).1,<-h0],by rw[(rU _ _).2,<-h0];rfl,?_,?_⟩,?_⟩
      ·rw[L];simp only[qw,qC];omega
      ·rw[L];refine Nat.lt_of_le_of_lt (Bz _) ?_;have P:((fj m 0 t (aT p b) m.drives k (aT p b).length).map dp).filterMap bU=[]:=by
        rw[List.filterMap_eq_nil_iff];intro c u;obtain⟨r,Y,rfl⟩:=qE.1 u;obtain⟨i,id,rfl,hi,hid⟩:=FO Y;have:=He (m:=m) (b:=b) (t:=t) F.may (by omega) (by rw[g];omega) (by rw[K,g];exact ht) (i:=i) (id:=id) (by rw[g];exact hi) (by exact hid);rw[K,g]at this;exact FY this
       rw[yg,yg,P,List.nil_append,qw];have a1:=yo bU (aP m);have a2:=yo bU (aP x);omega
      ·unfold fT;rw[h,z8,L];exact qU.2 fun pg y=>decide_eq_true (wQ _ (wQ _ y))
     ·cases h0
   ·rw[G,w k (by rw[f];exact I)];exact⟨_,rfl⟩
   ·rw[A];exact(tW H F.may u).with rfl
theorem xD{p q:ap}(a b:Sl)(c j:aD)(h:Heap)(r:Seq h p a 1 aE c)(o:Seq h q b 1 aE j)(w:c.length<=2^40:=by omega):
  ac xa 46 #[a,b] h fun v h'=>v=vU (decide (c=j))/\h'=h:=by
 refine nY a b ?_;unfold jZ;have m:=r.len;have n:=o.len;refine ci (fun d=>⟨?_,rfl⟩) (fun i=>?_)
 ·rw[decide_eq_false (fun e=>d (by rw[m,n,e]))]
 ·refine az (fun k:Nat=>(k:Int)) (fun k h'=>h'=h/\k<=c.length/\c.take k=j.take k) (fun k=>c.length-k) 0 rfl ⟨rfl,by omega,by simp⟩ ?_;rintro k h' ⟨rfl,u,l⟩;refine al (fun s=>?_) (fun t=>?_)
  ·have g:k<c.length:=by omega
   have f:k<j.length:=by omega
   refine r.cK k rfl g _ rfl ?_;refine o.cK k rfl f _ rfl ?_;refine ci (fun d=>⟨?_,rfl⟩) (fun i=>?_)
   ·rw[decide_eq_false];intro e;subst e;exact d rfl
   ·rw[an _];exact⟨k+1,by simp,⟨rfl,by omega,by rw[aK _ _ g,aK _ _ f,l,i]⟩,by omega⟩
  ·have:k=c.length:=by omega
   subst this;rw[qi (by omega),qi (by omega)]at l;exact⟨by rw[decide_eq_true l],rfl⟩
theorem Hl(x y:bn)(m:ar)(h:Heap)(l:eS h x m)(k:eS h y m)(hz:cn m):ac xa 15 #[cN x,cN y] h fun v h'=>v=vU true/\Sp h h' []:=by
 refine ng x y ?_;unfold jJ;refine(Sp.refl h).boxed fun H h1 H1=>?_;refine H1.boxed fun a2 h2 r=>?_;have r:Sp h h2 [ag H 47 (aq x),ag a2 47 (aq y)]:=r;have n:=r.box 0 rfl;have s:=r.box 1 rfl;have P:x.2.2.1=m.p.1:=congrArg (·.1) l.p;have Z:x.2.2.2.1=m.p.2.1:=congrArg (·.2.1) l.p;have X:x.2.2.2.2.1=m.p.2.2:=congrArg (·.2.2) l.p;have W:y.2.2.1=m.p.1:=congrArg (·.1) k.p;have O:y.2.2.2.1=m.p.2.1:=congrArg (·.2.1) k.p;have ad:y.2.2.2.2.1=m.p.2.2:=congrArg (·.2.2) k.p;have a4:=hz.dr;have a5:=hz.ob;have ax:=cS.len l.aH;have am:=cS.len k.aH;refine aU ⟨m.seq,by rw[<-l.seq];exact n.cell0 rfl,m.seq,by rw[<-k.seq];exact s.cell0 rfl,ci (fun e=>absurd rfl e) fun _=>?_⟩;refine⟨m.next,by rw[<-l.next];exact n.cell rfl,m.next,by rw[<-k.next];exact s.cell rfl,ci (fun e=>absurd rfl e) fun _=>?_⟩;refine⟨m.p,by rw[<-P,<-Z,<-X];exact n.rO 2 rfl rfl rfl,m.p,by rw[<-W,<-O,<-ad];exact s.rO 2 rfl rfl rfl,_,RB _ _ m.p m.p,aW (fun e=>absurd e (by simp)) fun _=>?_⟩;refine⟨m.extra,by rw[<-l.extra];exact n.cell rfl,m.extra,by rw[<-k.extra];exact s.cell rfl,ci (fun e=>absurd rfl e) fun _=>?_⟩;refine⟨x.2.2.2.2.2.2.1,n.cell rfl,y.2.2.2.2.2.2.1,s.cell rfl,(xD _ _ m.drives m.drives h2 (l.up r.ah).drives (k.up r.ah).drives).mono ?_⟩;rintro _ h3 ⟨rfl,rfl⟩;refine⟨_,rfl,aW (fun e=>absurd e (by simp)) fun _=>⟨x.2.2.2.2.2.2.2,n.cell rfl,y.2.2.2.2.2.2.2,s.cell rfl,ci (fun e=>absurd (by omega) e) fun _=>?_⟩⟩;refine⟨x.2.2.2.2.2.2.2,n.cell rfl,?_⟩;obtain⟨us,F⟩:=cS.fix l.aH;obtain⟨vs,G⟩:=cS.fix k.aH;have ay:=F.2.1;have a7:=G.2.1;refine az (fun i:Nat=>(i:Int)) (fun i h'=>i<=m.aH.length/\Sp h h' [ag H 47 (aq x),ag a2 47 (aq y)]) (fun i=>m.aH.length-i) 0 rfl ⟨by omega,r⟩ ?_;rintro i h5 ⟨hi,q⟩;refine al (fun e=>?_) (fun e=>?_)
 ·have o:i<m.aH.length:=by
   have e':(i:Int)<(x.2.2.2.2.2.2.2.len:Int):=e;omega
  obtain⟨E,U⟩:∃E,E=m.aH[i]:=⟨_,rfl⟩
  have A:=hz.nm _ (qn o);rw[<-U]at A;obtain⟨u,hu⟩:∃u,u=us[i]'(by omega):=⟨_,rfl⟩
  obtain⟨v,hv⟩:∃v,v=vs[i]'(by omega):=⟨_,rfl⟩
  obtain⟨f,ha,zz,b,R⟩:=F.1.dE (g:=bv) (i:=(i:Int)) i rfl (by omega) u (by rw[hu]) (K:=fun t=>t=u) rfl;obtain⟨d,hb,a6,c,D⟩:=G.1.dE (g:=bv) (i:=(i:Int)) i rfl (by omega) v (by rw[hv]) (K:=fun t=>t=v) rfl;rw[R]at b;rw[D]at c;obtain⟨⟨u1,u2,u3⟩,u4⟩:=Fix.row F o;obtain⟨⟨v1,v2,v3⟩,v4⟩:=Fix.row G o;rw[<-U,<-hu]at u1 u2 u3 u4;rw[<-U,<-hv]at v1 v2 v3 v4;refine cv (fun st h'=>∃Bs,Sp h h' (ag H 47 (aq x)::ag a2 47 (aq y)::ag st.1 73 (bv u)::ag st.2 73 (bv v)::Bs)) ?_ ?_
  ·have keep:∀{h':Heap} {Bs:List HP},Sp h h' (ag H 47 (aq x)::ag a2 47 (aq y)::Bs)->
     aB.ok [(d.add ((i:Int).toNat*4),(vT v.1)),((d.add ((i:Int).toNat*4)).add 1,(vQ vW v.2.1)),((d.add ((i:Int).toNat*4)).add 2,(vQ vW v.2.2.1)),((d.add ((i:Int).toNat*4)).add 3,(vR v.2.2.2.ptr v.2.2.2.len v.2.2.2.cap)),(a2.add 7,(vR y.2.2.2.2.2.2.2.ptr y.2.2.2.2.2.2.2.len y.2.2.2.2.2.2.2.cap)),(f.add ((i:Int).toNat*4),(vT u.1)),((f.add ((i:Int).toNat*4)).add 1,(vQ vW u.2.1)),((f.add ((i:Int).toNat*4)).add 2,(vQ vW u.2.2.1)),((f.add ((i:Int).toNat*4)).add 3,(vR u.2.2.2.ptr u.2.2.2.len u.2.2.2.cap)),(H.add 7,(vR x.2.2.2.2.2.2.2.ptr x.2.2.2.2.2.2.2.len x.2.2.2.2.2.2.2.cap))] h':=fun{h' Bs} H'=>by
    have a:=H'.ah;exact⟨a.cell (cC c.1) c.1,a.cell (cC c.2.1) c.2.1,a.cell (cC c.2.2.1) c.2.2.1,a.cell (cC c.2.2.2.1) c.2.2.2.1,(H'.box 1 rfl).cell rfl,a.cell (cC b.1) b.1,a.cell (cC b.2.1) b.2.1,a.cell (cC b.2.2.1) b.2.2.1,a.cell (cC b.2.2.2.1) b.2.2.2.1,(H'.box 0 rfl).cell rfl,trivial⟩
   have L:=keep q;have a:=q.ah;refine⟨x.2.2.2.2.2.2.2,(q.box 0 rfl).cell rfl,f,ha,u,⟨a.cell (cC b.1) b.1,a.cell (cC b.2.1) b.2.1,a.cell (cC b.2.2.1) b.2.2.1,a.cell (cC b.2.2.2.1) b.2.2.2.1,trivial⟩,y.2.2.2.2.2.2.2,(q.box 1 rfl).cell rfl,d,hb,v,⟨a.cell (cC c.1) c.1,a.cell (cC c.2.1) c.2.1,a.cell (cC c.2.2.1) c.2.2.1,a.cell (cC c.2.2.2.1) c.2.2.2.1,trivial⟩,?_,?_⟩
   ·refine q.alloc af rfl fun S h6 B=>⟨keep B,B.alloc af rfl fun V h7 z=>⟨keep z,?_⟩⟩
    refine z.storeAll af 2 rfl rfl (bv u) rfl rfl rfl rfl fun h8 w=>?_;obtain⟨M,Y,T,Q,L,_⟩:=keep w;refine⟨⟨M,Y,T,Q,L,trivial⟩,w.storeAll af 3 rfl rfl (bv v) rfl rfl rfl rfl fun N j=>⟨trivial,[],j⟩⟩
   ·refine q.alloc af rfl fun S h6 B=>⟨keep B,B.alloc af rfl fun V h7 z=>⟨keep z,?_⟩⟩
    refine z.storeAll af 3 rfl rfl (bv u) rfl rfl rfl rfl fun h8 w=>?_;obtain⟨M,Y,T,Q,L,_⟩:=keep w;refine⟨⟨M,Y,T,Q,L,trivial⟩,w.storeAll af 2 rfl rfl (bv v) rfl rfl rfl rfl fun N j=>⟨trivial,[],j.bj 4 [0,1,3,2]⟩⟩
  ·rintro⟨s1,s2⟩ N ⟨Bs,j⟩;dsimp only at j⊢;have I:=j.box 2 rfl;have J:=j.box 3 rfl;have a3:=A.2;refine⟨E.name,by rw[<-u1];exact I.cell0 rfl,E.name,by rw[<-v1];exact J.cell0 rfl,aW (fun e=>absurd e (by simp)) fun _=>?_⟩;refine⟨E.object,by rw[<-u2];exact I.cell rfl,E.object,by rw[<-v2];exact J.cell rfl,ci (fun e=>absurd rfl e) fun _=>?_⟩;refine⟨E.length,by rw[<-u3];exact I.cell rfl,E.length,by rw[<-v3];exact J.cell rfl,ci (fun e=>absurd rfl e) fun _=>?_⟩;refine⟨u.2.2.2,I.cell rfl,v.2.2.2,J.cell rfl,(xD _ _ E.tries E.tries N (Seq.up u4 j.ah) (Seq.up v4 j.ah)).mono ?_⟩;rintro _ a0 ⟨rfl,rfl⟩;refine⟨_,rfl,aW (fun e=>absurd e (by simp)) fun _=>⟨i+1,by rw[an _];rfl,⟨by omega,j.bj 2 [0,1]|>.Dj (As:=[_,_])⟩,by omega⟩⟩
 ·exact⟨rfl,.zip q.ah⟩
section
variable {B B':ap} {h0 h0' h h':Heap} {As As':List HP} {a b pw pw2:Addr} {d:bf}
end
section
variable {B:ap} {h0 h:Heap} {As:List HP} {a a2 pw pw2:Addr} {mc:aQ} {offs:Int} {da da2:List aM} {w:Pow} {ds:aS}
end
section
variable {B:ap} {h0 h:Heap} {As:List HP} {a pw b:Addr} {x:bn} {offs:Int} {da:List aM} {w:Pow} {ds:aS} {d:bf}
end
end Go.Qw
