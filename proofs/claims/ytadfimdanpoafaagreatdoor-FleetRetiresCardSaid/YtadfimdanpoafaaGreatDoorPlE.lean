/- Lemmas. -/
import Derived.Test.YtadfimdanpoafaaGreatDoorPlD
set_option linter.unusedVariables false
set_option linter.unusedSimpArgs false
open Go.Builtin renaming append_ -> qw, copy_ -> wX, firstCells -> wB
open List renaming append_assoc -> qp, drop_drop -> zH, drop_of_length_le -> zb, exists_mem_of_ne_nil -> vl, filter_append -> zj, filter_cons -> zr, filter_cons_of_pos -> yi, filter_eq_nil_iff -> wG, flatMap_append -> zh, foldl_cons -> zE, foldl_nil -> wQ, getElem?_cons_succ -> qy, getElem?_cons_zero -> yQ, getElem?_toArray -> zZ, length_append -> qx, length_drop -> za, length_take -> zd, mem_append -> qA, mem_cons -> q8, mem_cons_self -> qW, mem_filter -> qB, mem_flatMap -> zm, mem_range -> qD, nil_append -> zR, pairwise_append -> wU, pairwise_cons -> zP, range -> qE, range_succ -> zI, replicate -> qg, take_append_drop -> qI, take_left -> vV, take_of_length_le -> qi
open Nat renaming le_refl -> ql, min_eq_left -> yo, zero_add -> wy
open UInt8 renaming ofNat -> yx
open Go.IntKind renaming bits -> qk, signed -> yR, u32 -> xv, u8 -> xu, wrap -> qc
open Int renaming emod_lt_of_pos -> wE, emod_nonneg -> yp, fdiv -> qU, fdiv_eq_ediv_of_nonneg -> vf
open BitVec renaming ofInt -> qC, ofInt_natCast -> wT, ofNat_toNat -> vx, setWidth_eq -> vy
open Array renaming getElem?_modify -> wu
open Bool renaming and_eq_true -> qz, false_eq_true -> zf
open Go.Value renaming int -> xl
namespace Go.Vc
open Go
section
variable {C:Ctx} {t t2 ty e k:Nat} {z:aW} {by_:Nat} {α:Type} {h h0:Heap} {p B:aB} {s v:Sl} {f:α->aW} {l l2:List α} {As:List HP}
theorem Own.Qe(R:C.Ok)(Q:bW C.toBE t e k z by_)(D:∀x,(f x).length=k)(o:Own h e s k f l)(N:Seq h p v k f l2)(u:∀x,∀c∈f x,c.oneCell'=true)(j:Nat)(W:j<=l.length){A:aO}{L V:Nat}(i:A=if s.cap=j then s.ptr else s.ptr.map (·.add (j*k)))(w:L=s.len-j){K:Int->Heap->Prop}
  (E:∀n h',Own h' e s k f (l.take j++(l2.take (l.length-j)++l.drop (j+l2.length)))->aU (fun b=>¬s.on b) h h'->K n h'):
  az C.P (wX #[t,t2] ty #[.slice A L V,.slice v.ptr v.len v.cap]) (.one (.sc (.int .i64))) h K:=by
 unfold az wX;simp only[zZ,yQ,qy];refine ag.bind (ag.always (aM (Q.under R)) ?_);refine ag.bind (ag.pure' ?_);refine ag.bind (ag.always (Q.size R) ?_);have g:=o.len;have q:=N.len;have O:=o.cap;obtain⟨m,F⟩:∃m,m=Nat.min v.len L:=⟨_,rfl⟩
 rw[<-F];have M:m<=l2.length:=by rw[F,<-q];exact Nat.min_le_left _ _
 have y:m<=l.length-j:=by rw[F,<-g,w];exact Nat.min_le_right _ _
 have X:m=min l2.length (l.length-j):=by rw[F,w,g,q]
 have G:=N.take m M;have T:l2.take (l.length-j)++l.drop (j+l2.length)=l2.take m++l.drop (j+m):=by
  rcases Nat.le_total l2.length (l.length-j)with hh|hh
  ·rw[qi hh,show m=l2.length by omega,List.take_length]
  ·rw[show m=l.length-j by omega,zb (show l.length<=j+l2.length by omega),zb (by omega)]
 rw[T]at E;have H:wB k m (.slice v.ptr v.len v.cap)=wB k m (.slice v.ptr m v.cap):=by cases v.ptr<;>rfl
 rw[H];refine ag.bind (hO (v:=⟨v.ptr,m,v.cap⟩) D G ?_);have d:m=0->l.take j++(l2.take m++l.drop (j+m))=l:=fun e=>by rw[e];simp
 rcases o.head with⟨h1,h2,h3⟩|⟨b,rest,h1,h2,h3,h4⟩
 ·have a:A=none:=by rw[i,h1];split<;>rfl
  rw[a];subst h3;have:m=0:=by simp at y;exact y
  refine ag.pure' ⟨_,rfl,E _ h ?_ (aU.refl _ _)⟩;rw[d this];exact o
 ·by_cases r:s.cap=j
  ·have a:A=some ⟨b,0,none⟩:=by rw[i,if_pos r,h1]
   rw[a];have B:m=0:=by omega
   refine ag.bind ?_;rw[B];simp only[List.take_zero,List.flatMap_nil];exact ag.pure' (ag.pure' ⟨_,rfl,E _ h (by rw[d B];exact o) (aU.refl _ _)⟩)
  ·have a:A=some ⟨b,0+j*k,none⟩:=by rw[i,if_neg r,h1];simp only[Option.map_some];rw[add_eq]
   rw[a];refine ag.bind ?_;have I:l.flatMap f++rest=(l.take j).flatMap f++((l.drop j).take m).flatMap f++((l.drop (j+m)).flatMap f++rest):=by
    rw[<-qp,<-zh,<-zh,<-zH,qp (List.take j l),qI,qI]
   rw[I]at h2;refine fA (e:=e) (pre:=(l.take j).flatMap f) (old:=((l.drop j).take m).flatMap f) (post:=(l.drop (j+m)).flatMap f++rest) h2 (by rw[dR D,dR D,zd,zd,za];congr 1;omega) (by rw[dR D,zd];rw[yo W];omega) ?_ ?_
   ·intro c U;obtain⟨x,_,J⟩:=zm.1 U;exact u x c J
   ·refine ag.pure' ⟨_,rfl,E _ _ ⟨by rw[g,qx,qx,zd,zd,za];omega,.inr ⟨b,rest,h1,?_,h3,h4⟩⟩ (aU.ji h2 (fun S=>S ⟨0,h1⟩))⟩;rw[iF h2,if_pos rfl,zh,zh];simp[qp]
theorem aa.Qe(E:C.Ok)(H:aa B h0 h As)(i:Nat)(o:As[i]?=some (ar e s k f l))(D:bW C.toBE t e k z by_)(q:∀x,(f x).length=k)(u:Seq h p v k f l2)(a:∀x,∀c∈f x,c.oneCell'=true)(j:Nat)(A:j<=l.length){m:aO}{g w:Nat}(b:m=if s.cap=j then s.ptr else s.ptr.map (·.add (j*k)))(d:g=s.len-j){K:Int->Heap->Prop}
  (r:∀n h',aa B h0 h' (As.set i (ar e s k f (l.take j++(l2.take (l.length-j)++l.drop (j+l2.length)))))->K n h'):
  az C.P (wX #[t,t2] ty #[.slice m g w,.slice v.ptr v.len v.cap]) (.one (.sc (.int .i64))) h K:=
 (H.own i o).Qe E D q u a j A b d fun n h' x y=>r n h' (H.nU i o y x)
end
end Go.Vc
namespace Wl
open Go
def b8(n:Int):UInt8:=yx (n%256).toNat
theorem eu(n:Int):qc xu n=((b8 n).toNat:Int):=by
 have h0:=yp n (show(256:Int)≠0 by decide);have a:=wE n (show(0:Int)<256 by decide);have e:((b8 n).toNat:Int)=n%256:=by
  unfold b8;rw[UInt8.toNat_ofNat'];omega
 rw[e];unfold qc;simp[qk,yR]
abbrev rX:=BitVec 32
def Kk(s:rX):rX:=if s&&&1#32=1#32 then(s>>>1)^^^3988292384#32 else s>>>1
def BJ:Nat->rX->rX
 |0,s=>s
 |n+1,s=>Kk (BJ n s)
def Uj(s:rX)(x:UInt8):rX:=BJ 8 (s^^^BitVec.ofNat 32 x.toNat)
def tU(l:aX):rX:=l.foldl Uj 4294967295#32
def BL(l:aX):rX:=4294967295#32^^^tU l
theorem Vm(l:aX)(x:UInt8):tU (l++[x])=Uj (tU l) x:=by unfold tU;rw[List.foldl_append];rfl
theorem Qf(s:rX):qc xv ((s.toNat:Nat):Int)=(s.toNat:Int):=by
 have:=s.isLt;unfold qc;simp[qk,yR];omega
theorem Vn(a b:rX):qc xv ((qC (qk xv) (a.toNat:Int)^^^qC (qk xv) (b.toNat:Int)).toNat:Nat)=((a^^^b).toNat:Int):=by
 show qc xv (((qC 32 (a.toNat:Int)^^^qC 32 (b.toNat:Int):BitVec 32).toNat:Nat):Int)=_;rw[wT,wT,vx,vx,vy,vy,Qf]
theorem aft(a b:rX):qc xv ((qC (qk xv) (a.toNat:Int)&&&qC (qk xv) (b.toNat:Int)).toNat:Nat)=((a&&&b).toNat:Int):=by
 show qc xv (((qC 32 (a.toNat:Int)&&&qC 32 (b.toNat:Int):BitVec 32).toNat:Nat):Int)=_;rw[wT,wT,vx,vx,vy,vy,Qf]
theorem NC(n:Int):qc xv n=((qC 32 n).toNat:Int):=by
 unfold qc;simp[qk,yR,BitVec.toNat_ofInt];omega
theorem acU(s:rX):qU (s.toNat:Int) (2^min (1:Int).toNat (qk xv))=((s>>>1).toNat:Int):=by
 rw[show min (1:Int).toNat (qk xv)=1 from rfl,vf _ (by decide),BitVec.toNat_ushiftRight,Nat.shiftRight_eq_div_pow];simp
theorem Uk(s:rX):((s&&&1#32).toNat:Int)=1↔s&&&1#32=1#32:=by
 constructor
 ·intro h;apply BitVec.eq_of_toNat_eq;have:(1#32:rX).toNat=1:=rfl;omega
 ·intro h;rw[h];rfl
def nM(s:rX):aX:=(qE 4).map fun i=>b8 (qU (s.toNat:Int) (2^(8*i)))
theorem Qg(s:rX):(nM s).length=4:=by simp[nM]
def dT(b:Int)(a:aX):aX:=[87,115,1,b8 b]++a++qg (55-a.length) 0
def eM(a:Int)(b:aX):aX:=
 if 1<=a/\a<=255/\b.length<=55 then dT a b++nM (BL (dT a b))++[165]else[]
theorem Fl{b:Int}{a:aX}(h:a.length<=55):(dT b a).length=59:=by simp[dT];omega
theorem nl{a:Int}{b:aX}(d:1<=a)(c:a<=255)(h3:b.length<=55):(eM a b).length=64:=by
 unfold eM;rw[if_pos ⟨d,c,h3⟩];simp[Fl h3,Qg]
end Wl
namespace Go.Vc
open Go
def iG(s:ByteArray):aX:=s.data.toList
theorem CT(s:ByteArray):(iG s).length=s.size:=rfl
def afN(n:Nat):Obj->Obj
 | .cells c elem (lo,hi)=>.cells c elem (if lo==hi then(n,n+1)else(min lo n,max hi (n+1)))
 |o=>o
theorem ag.Xv{P:Program}{h:Heap}{b n:Nat}{c:Array Value}{e:TypeId}{K:Unit->Heap->Prop}(g:h[b]?=some (.cells c e (0,0)))(k:n=c.size)(d:∀h',(∀x,x≠b->h'[x]?=h[x]?)->h'.size=h.size->(∃f,h'[b]?=some (.cells c e f))->K () h'):
  ag P (freeze {block:=b,off:=n} 1) h K:=fun w j=>by
 refine⟨(),w.freeze {block:=b,off:=n} 1,run_freeze P w _ _,⟨rfl,rfl,rfl,ql _⟩,?_⟩;subst j;have a:(w.freeze {block:=b,off:=n} 1).heap=w.heap.modify b (afN n):=rfl;refine d _ (fun x i=>?_) ?_ ?_
 ·rw[a,wu,if_neg (fun e=>i e.symm)]
 ·rw[a];simp
 ·rw[a,wu,if_pos rfl,g];exact⟨_,rfl⟩
section
variable {C:Ctx} {B:aB} {h h0:Heap} {As:List HP} {t e ts:Nat}
theorem acV(l:C.Ok)(H:∃i,C.T.get ts=some i/\i.cU=.str)(w:∃i,C.T.get t=some i/\i.cU=.slice e)(F:∃i,C.T.get e=some i/\i.cU=.int .u8)(s:ByteArray){K:Sl->Heap->Prop}(z:∀r h',Sp h h' [sV r 1 aE (iG s)]->K r h'):
  az C.P (convert ts t (.string s)) (.one (.sc .slc)) h K:=by
 obtain⟨M,D,E⟩:=H;obtain⟨L,q,v⟩:=w;obtain⟨i3,a3,A⟩:=F;have I:C.P.underlying ts=some .string:=by have:=l.cU D;rw[E]at this;exact uv this
 have y:C.P.underlying t=some (.slice e):=by have:=l.cU q;rw[v]at this;exact jK this
 have u3:C.P.underlying e=some (.int .u8):=by have:=l.cU a3;rw[A]at this;exact Hi this
 unfold az convert;refine ag.bind (ag.always (aM I) ?_);refine ag.bind (ag.always (aM y) ?_);refine ag.bind (ag.always (aM u3) ?_);unfold Conv.stringToBytes;refine ag.bind (ag.Ml ⟨fun G=>(by cases G),fun _ u=>?_⟩);generalize k:Question.cut (Question.appendCap s.size 0 e) u=cc;have n:s.size<=cc:=by rw[<-k];simp only[Question.cut];omega
 unfold newRow;refine ag.bind (ag.bind (ag.nS (ag.pure' ?_)));unfold markStringish;obtain⟨a,d⟩:∃a:Array Value,a=s.data.map (fun b=>Value.int .u8 b.toNat)++Array.replicate (cc-s.size) (Value.int .u8 0):=⟨_,rfl⟩
 rw[<-d];refine ag.bind (ag.bind (ag.adT ?_));have g:shapeOf (h.push (.cells a e)) h.size=some (e,a.size):=by unfold shapeOf;simp
 dsimp only;rw[g];refine ag.Xv (c:=a) (e:=e) (by simp) rfl fun h' p o j=>?_;refine ag.pure' ⟨⟨some ⟨h.size,0,none⟩,s.size,cc⟩,rfl,z _ _ ?_⟩;obtain⟨f,j⟩:=j;refine .one ⟨by rw[o];simp,fun b J _=>by rw[p b (by omega),Array.getElem?_push,if_neg (by omega)]⟩ ?_;refine⟨by rw[CT],fun i x m=>⟨h.size,0,rfl,⟨ql _,by rw[o];simp⟩,?_,trivial⟩⟩;rw[add_zero];have B:i<s.data.size:=by have:=(List.getElem?_eq_some_iff.1 m).1;simpa[iG]using this
 unfold cellOf;simp only[j,Nat.mul_one,wy,Option.isSome_none,zf,if_false];rw[d,Array.getElem?_append_left (by simpa using B),Array.getElem?_map];have:s.data[i]?=some x:=by rw[<-m];simp[iG]
 rw[this];rfl
end
section
variable {C:Ctx} {t t2 e k:Nat} {z:aW} {by_:Nat} {h h0:Heap} {B:aB} {As:List HP} {s:Sl} {l:aX}
theorem OG(w:C.Ok)(L:bW C.toBE t e 1 z by_)(V:∃i,C.T.get t2=some i/\i.cU=.str)(Y:z.length=1)(H:0<by_/\by_<=128)
  (r:Own h e s 1 aE l) (x:ByteArray) (ab:l.length+x.size<=2^32) {ty:Nat} {K:Sl->Heap->Prop}
  (F:∀J h',Own h' e J 1 aE (l++iG x)->aU (fun b=>¬s.on b) h h'->(∀b,J.on b->s.on b∨h.size<=b)->K J h'):
  az C.P (qw #[t,t2] ty #[.slice s.ptr s.len s.cap,.string x]) (.one (.sc .slc)) h K:=by
 obtain⟨i2,g1,R⟩:=V;have G:C.P.underlying t2=some .string:=by have:=w.cU g1;rw[R]at this;exact uv this
 obtain⟨D,v,x2,x3,zv,x4,Q⟩:=L.info w;have k:∀y∈(iG x).flatMap aE,y.oneCell'=true:=fun y hy=>by
  obtain⟨b,_,hb⟩:=zm.1 hy;exact gw b y hb
 have g:((x.extract 0 x.size).data.map fun b=>Value.int .u8 (b.toNat:Int))=((iG x).flatMap aE).toArray:=by
  have S:x.extract 0 x.size=x:=by
   apply ByteArray.ext;simp[ByteArray.data_extract]
  rw[S];apply Array.ext';simp only[Array.toList_map,iG];exact List.map_eq_flatMap
 unfold az qw;simp only[zZ,yQ,qy];refine ag.bind (ag.always (aM (L.under w)) ?_);refine ag.bind (ag.always (L.size w) ?_);refine ag.bind (ag.always (aM G) ?_);refine ag.bind (ag.pure' ?_);simp only[zf,if_false,Bool.not_false,if_true];refine ag.bind (ag.pure' ?_);have p:=r.len;have u:∀y,(aE y).length=1:=fun _=>rfl;have j:=dR u l;have a:=dR u (iG x);have W:=CT x;have q:∀{h:Heap} {K:Array Value->Heap->Prop},K ((iG x).flatMap aE).toArray h->ag C.P (wB 1 x.size (.string x)) h K:=fun{h K} hK=>by
  unfold wB;dsimp only;rw[g];exact ag.pure' hK
 by_cases f:s.len+x.size<=s.cap
 ·rw[if_pos f];refine ag.bind (q ?_);rcases r.head with⟨p1,p2,p3⟩|⟨b,rest,p1,p2,p3,p4⟩
  ·rw[p1];have A:iG x=[]:=List.eq_nil_of_length_eq_zero (by omega);refine ag.pure' ⟨⟨none,s.len+x.size,s.cap⟩,rfl,F _ _ ⟨?_,.inl ⟨rfl,p2,by simp[p3,A]⟩⟩ (aU.refl _ _) ?_⟩
   ·simp;omega
   ·rintro M ⟨o,d⟩;cases d
  ·rw[p1];refine ag.bind ?_;rw[add_eq,wy];have B:((iG x).flatMap aE).length<=rest.length:=by
    rw[a,p3];omega
   refine fA (e:=e) (pre:=l.flatMap aE) (old:=rest.take ((iG x).flatMap aE).length) (post:=rest.drop ((iG x).flatMap aE).length) ?_ ?_ ?_ ?_ ?_
   ·rw[qp,qI];exact p2
   ·rw[zd];exact yo B
   ·rw[j,p];omega
   ·intro c U;exact k c (by simpa using U)
   ·refine ag.pure' ⟨⟨some ⟨b,0,none⟩,s.len+x.size,s.cap⟩,rfl,F _ _ ⟨?_,.inr ⟨b,rest.drop ((iG x).flatMap aE).length,rfl,?_,?_,f⟩⟩ ?_ ?_⟩
    ·simp;omega
    ·rw[iF p2,if_pos rfl];simp
    ·rw[za,p3,a];show(s.cap-s.len)*1-(iG x).length*1=(s.cap-(s.len+x.size))*1;omega
    ·exact aU.ji p2 (fun O=>O ⟨0,p1⟩)
    ·rintro M ⟨o,d⟩;cases d;exact .inl ⟨0,p1⟩
 ·rw[if_neg f];have m:Seq h (fun _=>True) s 1 aE l:=r.seq u (fun _ _=>trivial);have N:=r.cap;refine ag.bind (ag.always (dc v) ?_);rw[if_neg (fun hh=>by rcases hh.2 with h|h<;>first|exact h|(rw[x3]at h;omega))];refine ag.bind (ag.always (dc v) ?_);have X:=Uf (s.len+x.size) s.cap;rw[if_neg (by
   have:Builtin.nextslicecap (s.len+x.size) s.cap*D.bytes<=(16*2^32+16*768)*128:=Nat.mul_le_mul (by omega) (by rw[x3];exact H.2);omega)]
  refine ag.bind (ag.Ml ⟨fun hf=>(by cases hf),fun _ Z=>?_⟩);refine ag.bind (ag.always (dc v) ?_);refine ag.bind (ag.IJ ?_);refine ag.bind (hO u m ?_);refine ag.bind (q ?_);have E:aF C.P (zeroValue e) zv:=(dc v).bind (by rw[x4];exact .pure);refine ag.bind (ag.always E ?_);rw[Q,Fa];unfold newRow;refine ag.bind (ag.bind (ag.nS (ag.pure' (ag.pure' ?_))));generalize I:Question.cut (Question.appendCap (s.len+x.size) s.cap e) Z=cc;have n:s.len+x.size<=cc:=by rw[<-I];simp only[Question.cut];omega
  refine⟨⟨some ⟨h.size,0,none⟩,s.len+x.size,cc⟩,rfl,F _ _ ⟨?_,.inr ⟨h.size,iv z (cc-(s.len+x.size)),rfl,?_,?_,n⟩⟩ (aU.push _ _ _) ?_⟩
  ·simp;omega
  ·simp
  ·rw[nI,Y]
  ·rintro M ⟨o,d⟩;cases d;exact .inr (ql _)
theorem aa.Xw(F:C.Ok)(H:aa B h0 h As)(i:Nat)(w:As[i]?=some (ar e s 1 aE l))(A:bW C.toBE t e 1 z by_)(q:∃i,C.T.get t2=some i/\i.cU=.str)(u:z.length=1)(m:0<by_/\by_<=128)
  (x:ByteArray) (n:l.length+x.size<=2^32) {ty:Nat} {K:Sl->Heap->Prop} (v:∀f h',aa B h0 h' (As.set i (ar e f 1 aE (l++iG x)))->K f h'):
  az C.P (qw #[t,t2] ty #[.slice s.ptr s.len s.cap,.string x]) (.one (.sc .slc)) h K:=by
 obtain⟨y,D,c,E,a⟩:=H;have k:=a i _ w;refine OG F A q u m k.1 x n fun f h' d o g=>v f h' ?_;refine aa.CP y D E a (o.mono fun b j p r=>p (k.2 b r)) ⟨d,fun b j=>⟨d.lt j,?_⟩⟩;rcases g b j with h1|h1
 ·exact .inl (k.2 b h1)
 ·exact .inr h1
end
end Go.Vc
namespace Wl
open Go
structure bV where
 name:ByteArray
 object:Int
 length:Int
 tries:aC
structure aG where
 seq:Int
 next:Int
 p:Int×Int×Int
 extra:Int
 drives:aC
 objs:List bV
def afu:bV:=⟨⟨#[]⟩,0,0,[]⟩
def oM(l:List bV)(i:Nat):bV:=l.getD i afu
theorem nN{l:List bV}{i:Nat}(h:i<l.length:=by omega):oM l i=l[i]:=by unfold oM;rw[List.getD_eq_getElem?_getD,List.getElem?_eq_getElem h];rfl
def fd(n a b:Int):Bool:=decide (a<=n)&&decide (n<=b)
def mb(c:UInt8):Bool:=(decide (97<=c.toNat)&&decide (c.toNat<=122))||(decide (48<=c.toNat)&&decide (c.toNat<=57))||decide (c.toNat=45)
def jv(s:ByteArray):Bool:=s.data.toList.all mb&&(decide (1<=s.size)&&decide (s.size<=12))
def eU(a b:ByteArray):Bool:=Op.bytesLess a.toList b.toList
def jl(l:aC)(a:Int)(i:Nat):Bool:=fd (l.getD i 0) 0 a&&(decide (i=0)||decide (l.getD (i-1) 0<l.getD i 0))
def oN(l:aC)(a:Int):Bool:=(qE l.length).all (jl l a)
def countP(p:Int×Int×Int)(n:Int):Int:=if bL p&&decide (0<n)then(n-1)/(p.1*p.2.2)+1 else 0
def gz(m:aG)(x:bV):Bool:=
 jv x.name&&(fd x.object 0 (m.next-1)&&(fd x.length 0 (m.p.1*m.p.2.2*8)&&(x.tries.all (fd · 0 15)&&decide ((x.tries.length:Int)=countP m.p x.length))))
def oO(m:aG)(i:Nat):Bool:=
 gz m (oM m.objs i)&&((decide (i=0)||eU (oM m.objs (i-1)).name (oM m.objs i).name)&&!(m.objs.take i).any fun y=>decide (y.object=(oM m.objs i).object))
def kl(m:aG):Bool:=fd m.seq 1 2147483647&&(fd m.next 0 16777216&&(bL m.p&&fd m.extra 0 16))
def bO(m:aG):Bool:=kl m&&(oN m.drives 63&&(decide (m.objs.length<=12)&&(qE m.objs.length).all (oO m)))
theorem Fm{p:Nat->Bool}{n i:Nat}(a:i<n)(h:p i=false):(qE n).all p=false:=List.all_eq_false.2 ⟨i,qD.2 a,by rw[h];simp⟩
theorem sX{p:Nat->Bool}{n:Nat}(h:∀i,i<n->p i=true):(qE n).all p=true:=List.all_eq_true.2 fun i a=>h i (qD.1 a)
def bN(n:Int)(k:Nat):aX:=(qE k).map fun i=>b8 (qU n (2^(8*(k-1-i))))
theorem co(n:Int)(k:Nat):(bN n k).length=k:=by simp[bN]
def iP(x:bV):aX:=b8 x.name.size::(x.name.data.toList++(bN x.object 3++(bN x.length 2++x.tries.map b8)))
def gp(m:aG):aX:=
 if bO m then bN m.seq 4++(bN m.next 4++([b8 m.p.1,b8 m.p.2.1,b8 m.p.2.2,b8 m.extra,b8 m.drives.length]++(m.drives.map b8++(b8 m.objs.length::m.objs.flatMap iP))))else[]
def jH(seq a c:Int)(b:aX):aX:=eM 2 (bN seq 4++([b8 a,b8 c,b8 b.length]++b))
def gX(b:aX):Nat:=(b.length+47)/48
def aY(m:aG):cD:=(qE (gX (gp m))).map fun i:Nat=>jH m.seq i (gX (gp m)) (((gp m).drop (48*i)).take 48)
theorem Xx{m:aG}(h:bO m=true):kl m=true:=by unfold bO at h;simp at h;exact h.1
theorem Qh{m:aG}(h:kl m=true):(1<=m.seq/\m.seq<=2147483647)/\(0<=m.next/\m.next<=16777216)/\bL m.p=true/\0<=m.extra/\m.extra<=16:=by
 unfold kl fd at h;simpa[and_assoc]using h
theorem CU{m:aG}{c:aX}(h:c∈aY m):c.length=64:=by
 unfold aY at h;obtain⟨i,_,rfl⟩:=List.mem_map.1 h;exact nl (by decide) (by decide) (by simp[co];omega)
structure cC where
 object:Int
 block:Int
 id:Int
 p:Int×Int×Int
 seed:Int
 data:aX
theorem rY(n:Int):((b8 n).toNat:Int)=n%256:=by
 have h0:=yp n (show(256:Int)≠0 by decide);have a:=wE n (show(0:Int)<256 by decide);unfold b8;rw[UInt8.toNat_ofNat'];omega
def ia(r:cC):Bool:=(fd r.object 0 16777215&&(fd r.block 0 7&&bS r.id))&&(bL r.p&&decide ((r.data.length:Int)=r.p.2.2))
def iD(r:cC):aX:=bN r.object 3++(bN r.block 1++(bN r.id 2++([b8 r.p.1,b8 r.p.2.1,b8 r.p.2.2]++(bN r.seed 4++r.data))))
def cy(r:cC):aX:=if ia r then eM 1 (iD r)else[]
def de(l:aX):Int:=l.foldl (fun n x=>n*256+x.toNat) 0
def jM(c:aX):Option (Int×aX):=
 if c.length=64/\eM ((c.getD 3 0).toNat:Int) ((c.drop 4).take 55)=c then some (((c.getD 3 0).toNat:Int),(c.drop 4).take 55)else none
def tV(x:aX):cC:=
 ⟨de (x.take 3),de ((x.drop 3).take 1),de ((x.drop 4).take 2),(de ((x.drop 6).take 1),de ((x.drop 7).take 1),de ((x.drop 8).take 1)),de ((x.drop 9).take 4),(x.drop 13).take (de ((x.drop 8).take 1)).toNat⟩
def dp(c:aX):Option cC:=
 match jM c with
 |some (k,x)=>if k=1/\bL (tV x).p=true/\cy (tV x)=c then some (tV x)else none
 |none=>none
theorem Xy(n:Int):bN n 1=[b8 n]:=by simp[bN]
theorem Xz(n:Int):bN n 2=[b8 (qU n (2^8)),b8 n]:=by simp[bN,zI]
theorem Sz(n:Int):bN n 3=[b8 (qU n (2^16)),b8 (qU n (2^8)),b8 n]:=by simp[bN,zI]
theorem Kl(n:Int):bN n 4=[b8 (qU n (2^24)),b8 (qU n (2^16)),b8 (qU n (2^8)),b8 n]:=by simp[bN,zI]
theorem CV{n:Int}(h0:0<=n:=by omega)(a:n<256:=by omega):de [b8 n]=n:=by
 simp only[de,zE,wQ,rY];omega
theorem fdiv_pow(n:Int)(k:Nat):qU n (2^k)=n/(2^k):=vf _ (Int.pow_nonneg (by decide))
theorem aai{n:Int}(h0:0<=n)(a:n<65536):de (bN n 2)=n:=by
 rw[Xz,fdiv_pow];simp only[de,zE,wQ,rY];omega
theorem Vo{n:Int}(h0:0<=n)(a:n<16777216):de (bN n 3)=n:=by
 rw[Sz,fdiv_pow,fdiv_pow];simp only[de,zE,wQ,rY];omega
theorem ND{n:Int}(h0:0<=n)(a:n<4294967296):de (bN n 4)=n:=by
 rw[Kl,fdiv_pow,fdiv_pow,fdiv_pow];simp only[de,zE,wQ,rY];omega
theorem ge(r:cC):ia r=true↔(0<=r.object/\r.object<=16777215)/\(0<=r.block/\r.block<=7)/\(0<=r.id/\r.id<=65535)/\bL r.p=true/\(r.data.length:Int)=r.p.2.2:=by
 unfold ia fd bS;simp[and_assoc]
theorem nX{r:cC}(h:ia r=true):(iD r).length=13+r.data.length/\r.data.length<=24:=by
 obtain⟨_,_,_,a,b⟩:=(ge r).1 h;have:=(bM r.p).1 a;refine⟨by unfold iD;simp[co];omega,by omega⟩
theorem CW{r:cC}(h:ia r=true):(cy r).length=64:=by
 have:=nX h;unfold cy;rw[if_pos h];exact nl (by decide) (by decide) (by omega)
theorem Au{k:Int}{a:aX}(d:1<=k:=by decide)(b:k<=255:=by decide)(h3:a.length<=55:=by omega):jM (eM k a)=some (k,a++qg (55-a.length) 0):=by
 obtain⟨x,c⟩:∃x,x=a++qg (55-a.length) 0:=⟨_,rfl⟩
 have e:x.length=55:=by rw[c];simp;omega
 have f:eM k a=[87,115,1,b8 k]++(x++(nM (BL (dT k a))++[165])):=by
  unfold eM;rw[if_pos ⟨d,b,h3⟩];unfold dT;rw[c];simp[qp]
 have l:((eM k a).getD 3 0)=b8 k:=by rw[f];rfl
 have g:((eM k a).drop 4).take 55=x:=by
  rw[f];have:([87,115,1,b8 k]++(x++(nM (BL (dT k a))++[165]))).drop 4=x++(nM (BL (dT k a))++[165]):=rfl;rw[this,List.take_append_of_le_length (by omega),qi (by omega)]
 have h:((b8 k).toNat:Int)=k:=by rw[rY];omega
 have i:dT k x=dT k a:=by
  unfold dT;rw[e,c];simp[qp]
 have j:eM k x=eM k a:=by
  unfold eM;rw[if_pos ⟨d,b,by omega⟩,if_pos ⟨d,b,h3⟩,i]
 unfold jM;rw[l,g,h,if_pos ⟨nl d b h3,j⟩,c]
theorem Vp{r:cC}(h:ia r=true)(A:0<=r.seed/\r.seed<4294967296)(z:aX):tV (iD r++z)=r:=by
 obtain⟨y,t,h3,q,w⟩:=(ge r).1 h;have x:=(bM r.p).1 q;have l1:=co r.object 3;have l2:=co r.id 2;have k:=co r.seed 4;have e:iD r++z=bN r.object 3++([b8 r.block]++(bN r.id 2++([b8 r.p.1]++([b8 r.p.2.1]++([b8 r.p.2.2]++(bN r.seed 4++(r.data++z))))))):=by
  unfold iD;rw[Xy];simp[qp]
 have d:∀(u v:aX) (n:Nat),u.length=n->∀m,(u++v).drop (n+m)=v.drop m:=fun u v n b m=>by
  rw[<-zH,<-b,List.drop_left]
 have a:∀(u v:aX) (n:Nat),u.length=n->(u++v).take n=u:=fun u v n b=>by rw[<-b,vV]
 have i:(iD r++z).drop 3=[b8 r.block]++(bN r.id 2++([b8 r.p.1]++([b8 r.p.2.1]++([b8 r.p.2.2]++(bN r.seed 4++(r.data++z)))))):=by rw[e];exact d _ _ 3 l1 0
 have o:(iD r++z).drop 4=bN r.id 2++([b8 r.p.1]++([b8 r.p.2.1]++([b8 r.p.2.2]++(bN r.seed 4++(r.data++z))))):=by
  rw[show 4=3+1 from rfl,<-zH,i];rfl
 have f:(iD r++z).drop 6=[b8 r.p.1]++([b8 r.p.2.1]++([b8 r.p.2.2]++(bN r.seed 4++(r.data++z)))):=by
  rw[show 6=4+2 from rfl,<-zH,o];exact d _ _ 2 l2 0
 have j:(iD r++z).drop 7=[b8 r.p.2.1]++([b8 r.p.2.2]++(bN r.seed 4++(r.data++z))):=by
  rw[show 7=6+1 from rfl,<-zH,f];rfl
 have g:(iD r++z).drop 8=[b8 r.p.2.2]++(bN r.seed 4++(r.data++z)):=by
  rw[show 8=7+1 from rfl,<-zH,j];rfl
 have l:(iD r++z).drop 9=bN r.seed 4++(r.data++z):=by
  rw[show 9=8+1 from rfl,<-zH,g];rfl
 have c:(iD r++z).drop 13=r.data++z:=by
  rw[show 13=9+4 from rfl,<-zH,l];exact d _ _ 4 k 0
 have s:de (((iD r++z).drop 8).take 1)=r.p.2.2:=by rw[g,a _ _ 1 rfl,CV]
 unfold tV;rw[s,i,o,f,j,l,c];rw[a [b8 r.block] _ 1 rfl,a _ _ 2 l2,a [b8 r.p.1] _ 1 rfl,a [b8 r.p.2.1] _ 1 rfl,a _ _ 4 k];have t0:(iD r++z).take 3=bN r.object 3:=by rw[e];exact a _ _ 3 l1
 rw[t0,Vo (by omega) (by omega),CV,aai (by omega) (by omega),CV,CV,ND (by omega) (by omega)];have:r.p.2.2.toNat=r.data.length:=by omega
 rw[this,vV]
theorem md{r:cC}(h:ia r=true)(b:0<=r.seed/\r.seed<4294967296):dp (cy r)=some r:=by
 have c:=nX h;have a:=((ge r).1 h).2.2.2.1;have e:cy r=eM 1 (iD r):=by unfold cy;rw[if_pos h]
 unfold dp;rw[e,Au];dsimp only;rw[Vp h b,if_pos ⟨rfl,a,e⟩]
theorem Vq{c:aX}{r:cC}(h:dp c=some r):cy r=c/\ia r=true/\bL r.p=true:=by
 unfold dp at h;cases hc:jM c with
 |none=>rw[hc]at h;cases h
 |some kx=>
  rw[hc]at h;dsimp only at h;by_cases a:kx.1=1/\bL (tV kx.2).p=true/\cy (tV kx.2)=c
  ·rw[if_pos a]at h;injection h with h
   subst h;refine⟨a.2.2,?_,a.2.1⟩;by_cases d:ia (tV kx.2)=true
   ·exact d
   ·exfalso;have b:=a.2.2;unfold cy at b;rw[if_neg d]at b;unfold jM at hc;rw[<-b]at hc;simp at hc
  ·rw[if_neg a]at h;cases h
end Wl
namespace Go.Vc
open Go
section
variable {C:Ctx} {h:Heap} {t e ts:Nat}
theorem If:∀(l:aX) (b:ByteArray),l.foldl ByteArray.push b=⟨(b.data.toList++l).toArray⟩
 |[],b=>by simp
 |x::l,b=>by
  rw[zE,If l (b.push x)];simp[ByteArray.push]
theorem Ul(u:C.Ok)(D:∃i,C.T.get t=some i/\i.cU=.slice e)(M:∃i,C.T.get ts=some i/\i.cU=.str)(L:∃i,C.T.get e=some i/\i.cU=.int .u8){s:Sl}{l:aX}{p:aB}(y:Seq h p s 1 aE l){K:ByteArray->Heap->Prop}(w:K ⟨l.toArray⟩ h):
  az C.P (convert t ts (.slice s.ptr s.len s.cap)) (.one (.sc .str)) h K:=by
 obtain⟨Q,I,J⟩:=M;obtain⟨O,A,B⟩:=D;obtain⟨i3,a3,H⟩:=L;have N:C.P.underlying ts=some .string:=by have:=u.cU I;rw[J]at this;exact uv this
 have F:C.P.underlying t=some (.slice e):=by have:=u.cU A;rw[B]at this;exact jK this
 have u3:C.P.underlying e=some (.int .u8):=by have:=u.cU a3;rw[H]at this;exact Hi this
 unfold az convert;refine ag.bind (ag.always (aM F) ?_);refine ag.bind (ag.always (aM N) ?_);refine ag.bind (ag.always (aM u3) ?_);unfold Conv.bytesToString;have d:=hO (P:=C.P) (f:=aE) (k:=1) (K:=fun q h'=>q=(l.flatMap aE).toArray/\h'=h) (fun _=>rfl) y ⟨rfl,rfl⟩;cases hp:s.ptr with
 |none=>
  have:l=[]:=by
   cases l with
   |nil=>rfl
   |cons x r=>obtain⟨b,o,z,_⟩:=y.elem 0 x (by simp);rw[hp]at z;cases z
  subst this;exact ag.pure' ⟨⟨#[]⟩,rfl,w⟩
 |some a=>
  rw[hp]at d;dsimp only;have g:ag C.P (loadCells a s.len) h fun q h'=>q=(l.flatMap aE).toArray/\h'=h:=by
   have:wB 1 s.len (.slice (some a) s.len s.cap)=loadCells a s.len:=by
    unfold wB;simp
   rw[<-this];exact d
  refine ag.bind (g.mono ?_);rintro _ _ ⟨rfl,rfl⟩;have j:∀(l:aX) (b:ByteArray),aF C.P (forIn (m:=Sem) (l.flatMap aE) b fun c r=>match c with
    |xl xu n=>do pure (ForInStep.yield (r.push (yx n.toNat)))
    |_=>do let r<-stuck "bytesToString: byte expected";pure r) (l.foldl ByteArray.push b):=fun l=>by
   induction l with
   |nil=>intro b;exact .pure
   |cons x l ih=>
    intro b;have E:(x::l).flatMap aE=Value.int .u8 x.toNat::l.flatMap aE:=rfl;rw[E,List.forIn_cons];have G:b.push (yx ((x.toNat:Int)).toNat)=b.push x:=by
     rw[Int.toNat_natCast];congr 1;apply UInt8.toNat_inj.1;simp
    refine aF.bind (v:=ForInStep.yield (b.push x)) (by dsimp only;rw[G];exact .pure) ?_;exact ih _
  refine ag.bind (ag.always (v:=l.foldl ByteArray.push ByteArray.empty) ?_ ?_)
  ·rw[List.forIn_toArray];exact j l _
  ·refine ag.pure' ⟨_,rfl,?_⟩;rw[If];exact w
end
end Go.Vc
namespace Wl
section
variable {α:Type} (le:α->α->Bool)
def iw(a b:α):Bool:=le a b&&le b a
def ct(l a:List α):Prop:=∀x,l.filter (iw le x)=a.filter (iw le x)
def Sd(l:List α):Prop:=l.Pairwise fun a b=>le a b=true
structure Ord:Prop where
 trans:∀a b c,le a b=true->le b c=true->le a c=true
 total:∀a b,(le a b||le b a)=true
variable {le}
theorem Ord.Fo(o:Ord le){a b:α}(h:¬le a b=true):le b a=true:=by
 have:=o.total a b;cases h1:le a b with
 |true=>exact absurd h1 h
 |false=>rw[h1]at this;simpa using this
theorem Ord.refl(o:Ord le)(a:α):le a a=true:=by have:=o.total a a;simpa using this
theorem ct.refl(l:List α):ct le l l:=fun _=>rfl
theorem ct.trans{l1 l2 a:List α}(h:ct le l1 l2)(k:ct le l2 a):ct le l1 a:=fun x=>(h x).trans (k x)
theorem ct.symm{l1 l2:List α}(h:ct le l1 l2):ct le l2 l1:=fun x=>(h x).symm
theorem ct.app{a b c d:List α}(h:ct le a b)(k:ct le c d):ct le (a++c) (b++d):=fun x=>by
 rw[zj,zj,h x,k x]
theorem ct.mem(o:Ord le){l a:List α}(h:ct le l a){y:α}(c:y∈a):y∈l:=by
 have b:y∈a.filter (iw le y):=qB.2 ⟨c,by unfold iw;rw[o.refl];rfl⟩;rw[<-h y]at b;exact(qB.1 b).1
theorem ct.XA(o:Ord le){u v:List α}(h:∀x∈u,∀y∈v,¬le x y=true):ct le (u++v) (v++u):=fun z=>by
 rw[zj,zj];by_cases e:u.filter (iw le z)=[]
 ·rw[e];simp
 ·by_cases f:v.filter (iw le z)=[]
  ·rw[f];simp
  ·exfalso;obtain⟨x,i⟩:=vl _ e;obtain⟨y,g⟩:=vl _ f;obtain⟨c,b⟩:=qB.1 i;obtain⟨d,a⟩:=qB.1 g;unfold iw at b a;simp only[qz]at b a;exact h x c y d (o.trans _ _ _ b.2 a.1)
theorem ct.Qi(o:Ord le){l:List α}(h:ct le [] l):l=[]:=by
 cases l with
 |nil=>rfl
 |cons a l=>exact absurd (ct.mem o h (qW ..)) (by simp)
theorem NE(o:Ord le):∀(l c:List α),Sd le l->Sd le c->ct le l c->l=c
 |[],c,_,_,h=>(ct.Qi o h).symm
 |a::l,[],_,_,h=>absurd (ct.Qi o h.symm) (by simp)
 |a::l,b::c,s,s',h=>by
  have d:a=b:=by
   have j:le a b=true:=by
    have:=ct.mem o h (y:=b) (qW ..);rcases q8.1 this with e|e
    ·rw[e];exact o.refl _
    ·exact(zP.1 s).1 _ e
   have g:le b a=true:=by
    have:=ct.mem o h.symm (y:=a) (qW ..);rcases q8.1 this with e|e
    ·rw[e];exact o.refl _
    ·exact(zP.1 s').1 _ e
   have h3:=h a;have i:iw le a a=true:=by unfold iw;rw[o.refl];rfl
   have f:iw le a b=true:=by unfold iw;rw[j,g];rfl
   rw[yi i,yi f]at h3;injection h3
  subst d;rw[NE o l c (zP.1 s).2 (zP.1 s').2 fun x=>by
   have h3:=h x;rw[zr,zr]at h3;split at h3
   ·injection h3
   ·exact h3]
theorem Fp(o:Ord le)(l:List α):Sd le (l.mergeSort le)/\ct le l (l.mergeSort le):=by
 refine⟨List.pairwise_mergeSort o.trans o.total l,fun x=>?_⟩;have f:(l.filter (iw le x)).Pairwise fun a b=>le a b=true:=by
  rw[List.pairwise_filter];refine List.Pairwise.imp ?_ (List.pairwise_of_forall (l:=l) (R:=fun _ _=>True) fun _ _=>trivial);intro a b _ e d;unfold iw at e d;simp only[qz]at e d;exact o.trans _ _ _ e.2 d.1
 have g:=List.sublist_mergeSort o.trans o.total f List.filter_sublist;have c:=g.filter (iw le x);rw[List.filter_filter]at c;simp only[Bool.and_self]at c;exact c.eq_of_length ((List.mergeSort_perm l le).symm.filter _).length_eq
theorem abX(o:Ord le){l a:List α}(s:Sd le a)(h:ct le l a):a=l.mergeSort le:=by
 obtain⟨c,b⟩:=Fp o l;exact NE o _ _ s c (h.symm.trans b)
theorem Sd.app(o:Ord le){u v:List α}(a:Sd le u)(b:Sd le v)(h:∀x∈u,∀y∈v,le x y=true):Sd le (u++v):=wU.2 ⟨a,b,h⟩
theorem Sd.left{u v:List α}(h:Sd le (u++v)):Sd le u:=(wU.1 h).1
theorem Sd.right{u v:List α}(h:Sd le (u++v)):Sd le v:=(wU.1 h).2.1
theorem Sd.Hv{u v:List α}(h:Sd le (u++v)):∀x∈u,∀y∈v,le x y=true:=(wU.1 h).2.2
theorem Sd.at_(o:Ord le){l:List α}(h:Sd le l){i j:Nat}(a:i<=j)(b:j<l.length):le (l[i]'(by omega)) l[j]=true:=by
 by_cases e:i=j
 ·subst e;exact o.refl _
 ·exact List.pairwise_iff_getElem.1 h i j (by omega) b (by omega)
theorem XB(o:Ord le){l1 l2 b a f g:List α}(l:Sd le (l1++l2))(p:Sd le (b++a))(h:∀x∈l1,∀y∈a,le x y=true)(e:∀x∈l2,∀y∈b,¬le x y=true)
  (i:ct le (l1++b) f) (k:Sd le f) (j:ct le (l2++a) g) (m:Sd le g):Sd le (f++g)/\ct le ((l1++l2)++(b++a)) (f++g):=by
 constructor
 ·refine Sd.app o k m fun x c y d=>?_;rcases qA.1 (ct.mem o i c)with c|c<;>rcases qA.1 (ct.mem o j d)with d|d
  ·exact l.Hv x c y d
  ·exact h x c y d
  ·exact o.Fo (e y d x c)
  ·exact p.Hv x c y d
 ·have n:ct le ((l1++l2)++(b++a)) ((l1++b)++(l2++a)):=by
   rw[show(l1++l2)++(b++a)=l1++((l2++b)++a)by simp,show(l1++b)++(l2++a)=l1++((b++l2)++a)by simp];exact(ct.refl _).app ((ct.XA o e).app (ct.refl _))
  exact n.trans (i.app j)
end
section
variable {α:Type} {le:α->α->Bool}
theorem ux(o:Ord le):∀{l j:List α},ct le l j->l.length=j.length
 |[],j,h=>by rw[ct.Qi o h]
 |a::l,j,h=>by
  have z:=ct.mem o h.symm (y:=a) (qW ..);obtain⟨u,v,w⟩:=List.append_of_mem z;have p:∃(u:List α) (b:α) (v:List α),j=u++b::v/\(∀x∈u,iw le a x=false)/\iw le a b=true:=by
   have m:j.filter (iw le a)≠[]:=fun G=>by
    have:a∈j.filter (iw le a):=qB.2 ⟨z,by unfold iw;rw[o.refl];rfl⟩;rw[G]at this;cases this
   clear w u v z h
   induction j with
   |nil=>exact absurd rfl m
   |cons c j ih=>
    by_cases r:iw le a c=true
    ·exact⟨[],c,j,rfl,by simp,r⟩
    ·rw[List.filter_cons_of_neg r]at m;obtain⟨u,b,v,e,f,g⟩:=ih m;refine⟨c::u,b,v,by rw[e];rfl,fun x i=>?_,g⟩;rcases q8.1 i with rfl|i
     ·simpa using r
     ·exact f x i
  obtain⟨u,b,v,rfl,A,D⟩:=p;have F:iw le a a=true:=by unfold iw;rw[o.refl];rfl
  have n:=h a;have s:u.filter (iw le a)=[]:=wG.2 fun x i=>by rw[A x i];simp
  rw[yi F,zj,s,zR,yi D]at n;have q:a=b:=by injection n
  subst q;have B:ct le l (u++v):=fun x=>by
   have i:=h x;rw[zr,zj,zr]at i;rw[zj];by_cases d:iw le x a=true
   ·rw[if_pos d,if_pos d]at i;have t:u.filter (iw le x)=[]:=wG.2 fun y E k=>by
     have:=A y E;unfold iw at this d k;simp only[qz]at d k;rw[o.trans _ _ _ d.2 k.1,o.trans _ _ _ k.2 d.1]at this;cases this
    rw[t,zR]at i⊢;injection i
   ·rw[if_neg d,if_neg d]at i;exact i
  rw[List.length_cons,ux o B];simp;omega
end
end Wl
