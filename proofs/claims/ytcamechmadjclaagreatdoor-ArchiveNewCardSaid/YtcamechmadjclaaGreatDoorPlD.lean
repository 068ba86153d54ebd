/- Part of the proofs that the laws of this seat answer true whatever the input reads, and leave it as it was; no condition. -/
import Derived.Test.YtcamechmadjclaaGreatDoorPlA
import Derived.Test.YtcamechmadjclaaGreatDoorPlB
set_option linter.unusedVariables false
set_option linter.unusedSimpArgs false
open Go.IntKind renaming bits -> ql, u32 -> wQ, u64 -> wR, u8 -> wP, wrap -> qa
open Int renaming fdiv -> qI
open Go.Builtin renaming append_ -> qh, copy_ -> zd, firstCells -> zn, nextslicecap -> zY
open List renaming all_eq_false -> wu, all_eq_true -> qH, append_assoc -> qp, drop_drop -> wq, drop_of_length_le -> q9, eq_nil_of_length_eq_zero -> qP, flatMap_append -> qy, flatMap_nil -> zC, getD_eq_getElem?_getD -> qj, getElem?_cons_succ -> qe, getElem?_cons_zero -> zr, getElem?_eq_getElem -> qc, getElem?_eq_some_iff -> qn, getElem?_toArray -> q6, length_append -> qu, length_drop -> qG, length_take -> qx, mem_flatMap -> zB, mem_map -> zx, mem_range -> q5, range -> zf, replicate -> qd, take_append_drop -> qw, take_length -> qK, take_of_length_le -> qi
open Option renaming map_some -> qQ
open Nat renaming le_refl -> qM, min_eq_left -> zu, mul_le_mul -> wo, mul_one -> za, zero_add -> zo
open BitVec renaming ofInt -> qq, ofInt_natCast -> zp, ofNat -> zK, ofNat_toNat -> wi, setWidth_eq -> wj
open Array renaming ext' -> zN, getElem?_modify -> zl, replicate -> we
open Bool renaming false_eq_true -> qJ, not_false -> zP
namespace Wl
def cV(p:Int×Int×Int):Bool:=decide (p.1>=1)&&(decide (p.1<=16)&&(decide (p.2.1>=1)&&(decide (p.2.1<=4)&&(decide (p.2.2>=1)&&decide (p.2.2<=24)))))
theorem iT(p:Int×Int×Int):cV p=true↔(1<=p.1/\p.1<=16)/\(1<=p.2.1/\p.2.1<=4)/\1<=p.2.2/\p.2.2<=24:=by
 simp[cV,and_assoc]
open Go
def yp(s:Int):Int:=qa wR (qa wR (s*(6364136223846793005:Int))+(1442695040888963407:Int))
def told(s:Int):Int:=qa wQ (qI (yp s) (2^min (32:Int).toNat (ql wR)))
def fh(l:List Int):List Int:=l.mergeSort fun x y=>decide (x<=y)
theorem uK(l:List Int):(fh l).length=l.length:=List.length_mergeSort l
theorem uL(l:List Int)(x:Int):x∈fh l↔x∈l:=List.mem_mergeSort
abbrev Row:=List UInt8
abbrev yq:=List Row
end Wl
namespace Go.Vc
open Go
section
variable {C:Ctx} {t t2 ty e k:Nat} {z:List Value} {by_:Nat} {α:Type} {h h0:Heap} {p B:am} {s v:Sl} {f:α->List Value} {l l2:List α} {As:List HP}
theorem Own.rV(R:C.Ok)(O:bk C.tokp t e k z by_)(E:∀x,(f x).length=k)(o:Own h e s k f l)(Q:Seq h p v k f l2)(u:∀x,∀c∈f x,c.oneCell'=true)(j:Nat)(X:j<=l.length){w:Option Addr}{J T:Nat}(i:w=if s.cap=j then s.ptr else s.ptr.map (·.add (j*k)))(y:J=s.len-j){K:Int->Heap->Prop}
  (D:∀n G,Own G e s k f (l.take j++(l2.take (l.length-j)++l.drop (j+l2.length)))->ax (fun b=>¬s.on b) h G->K n G):
  ar C.P (zd #[t,t2] ty #[.slice w J T,.slice v.ptr v.len v.cap]) (.one (.sc (.int .i64))) h K:=by
 unfold ar zd;simp only[q6,zr,qe];refine ab.bind (ab.always (aq (O.under R)) ?_);refine ab.bind (ab.pure' ?_);refine ab.bind (ab.always (O.size R) ?_);have g:=o.len;have q:=Q.len;have S:=o.cap;obtain⟨m,F⟩:∃m,m=Nat.min v.len J:=⟨_,rfl⟩
 rw[<-F];have N:m<=l2.length:=by rw[F,<-q];exact Nat.min_le_left _ _
 have B:m<=l.length-j:=by rw[F,<-g,y];exact Nat.min_le_right _ _
 have W:m=min l2.length (l.length-j):=by rw[F,y,g,q]
 have L:=Q.take m N;have Y:l2.take (l.length-j)++l.drop (j+l2.length)=l2.take m++l.drop (j+m):=by
  rcases Nat.le_total l2.length (l.length-j)with hh|hh
  ·rw[qi hh,show m=l2.length by omega,qK]
  ·rw[show m=l.length-j by omega,q9 (show l.length<=j+l2.length by omega),q9 (by omega)]
 rw[Y]at D;have H:zn k m (.slice v.ptr v.len v.cap)=zn k m (.slice v.ptr m v.cap):=by cases v.ptr<;>rfl
 rw[H];refine ab.bind (cu (v:=⟨v.ptr,m,v.cap⟩) E L ?_);have d:m=0->l.take j++(l2.take m++l.drop (j+m))=l:=fun e=>by rw[e];simp
 rcases o.head with⟨h1,h2,h3⟩|⟨b,rest,h1,h2,h3,h4⟩
 ·have a:w=none:=by rw[i,h1];split<;>rfl
  rw[a];subst h3;have:m=0:=by simp at B;exact B
  refine ab.pure' ⟨_,rfl,D _ h ?_ (ax.refl _ _)⟩;rw[d this];exact o
 ·by_cases r:s.cap=j
  ·have a:w=some ⟨b,0,none⟩:=by rw[i,if_pos r,h1]
   rw[a];have A:m=0:=by omega
   refine ab.bind ?_;rw[A];simp only[List.take_zero,zC];exact ab.pure' (ab.pure' ⟨_,rfl,D _ h (by rw[d A];exact o) (ax.refl _ _)⟩)
  ·have a:w=some ⟨b,0+j*k,none⟩:=by rw[i,if_neg r,h1];simp only[qQ];rw[add_eq]
   rw[a];refine ab.bind ?_;have M:l.flatMap f++rest=(l.take j).flatMap f++((l.drop j).take m).flatMap f++((l.drop (j+m)).flatMap f++rest):=by
    rw[<-qp,<-qy,<-qy,<-wq,qp (List.take j l),qw,qw]
   rw[M]at h2;refine bB (e:=e) (pre:=(l.take j).flatMap f) (old:=((l.drop j).take m).flatMap f) (post:=(l.drop (j+m)).flatMap f++rest) h2 (by rw[bN E,bN E,qx,qx,qG];congr 1;omega) (by rw[bN E,qx];rw[zu X];omega) ?_ ?_
   ·intro c V;obtain⟨x,_,I⟩:=zB.1 V;exact u x c I
   ·refine ab.pure' ⟨_,rfl,D _ _ ⟨by rw[g,qu,qu,qx,qx,qG];omega,.inr ⟨b,rest,h1,?_,h3,h4⟩⟩ (ax.cy h2 (fun U=>U ⟨0,h1⟩))⟩;rw[cn h2,if_pos rfl,qy,qy];simp[qp]
theorem aa.rV(E:C.Ok)(H:aa B h0 h As)(i:Nat)(q:As[i]?=some (au e s k f l))(r:bk C.tokp t e k z by_)(D:∀x,(f x).length=k)(w:Seq h p v k f l2)(a:∀x,∀c∈f x,c.oneCell'=true)(j:Nat)(F:j<=l.length){o:Option Addr}{m u:Nat}(d:o=if s.cap=j then s.ptr else s.ptr.map (·.add (j*k)))(g:m=s.len-j){K:Int->Heap->Prop}
  (A:∀n b,aa B h0 b (As.set i (au e s k f (l.take j++(l2.take (l.length-j)++l.drop (j+l2.length)))))->K n b):
  ar C.P (zd #[t,t2] ty #[.slice o m u,.slice v.ptr v.len v.cap]) (.one (.sc (.int .i64))) h K:=
 (H.own i q).rV E r D w a j F d g fun n b x y=>A n b (H.gr i q y x)
end
end Go.Vc
namespace Wl
open Go
def b8(n:Int):UInt8:=UInt8.ofNat (n%256).toNat
theorem aT(n:Int):qa wP n=((b8 n).toNat:Int):=by
 have h0:=Int.emod_nonneg n (show(256:Int)≠0 by decide);have a:=Int.emod_lt_of_pos n (show(0:Int)<256 by decide);have e:((b8 n).toNat:Int)=n%256:=by
  unfold b8;rw[UInt8.toNat_ofNat'];omega
 rw[e];unfold qa;simp[ql,IntKind.signed]
abbrev gg:=BitVec 32
def iU(s:gg):gg:=if s&&&1#32=1#32 then(s>>>1)^^^3988292384#32 else s>>>1
def ft:Nat->gg->gg
 |0,s=>s
 |n+1,s=>iU (ft n s)
def tv(s:gg)(x:UInt8):gg:=ft 8 (s^^^zK 32 x.toNat)
def ee(l:List UInt8):gg:=l.foldl tv 4294967295#32
def mj(l:List UInt8):gg:=4294967295#32^^^ee l
theorem nX(l:List UInt8)(x:UInt8):ee (l++[x])=tv (ee l) x:=by unfold ee;rw[List.foldl_append];rfl
theorem rW(s:gg):qa wQ ((s.toNat:Nat):Int)=(s.toNat:Int):=by
 have:=s.isLt;unfold qa;simp[ql,IntKind.signed];omega
theorem mL(a b:gg):qa wQ ((qq (ql wQ) (a.toNat:Int)^^^qq (ql wQ) (b.toNat:Int)).toNat:Nat)=((a^^^b).toNat:Int):=by
 show qa wQ (((qq 32 (a.toNat:Int)^^^qq 32 (b.toNat:Int):BitVec 32).toNat:Nat):Int)=_;rw[zp,zp,wi,wi,wj,wj,rW]
theorem wn(a b:gg):qa wQ ((qq (ql wQ) (a.toNat:Int)&&&qq (ql wQ) (b.toNat:Int)).toNat:Nat)=((a&&&b).toNat:Int):=by
 show qa wQ (((qq 32 (a.toNat:Int)&&&qq 32 (b.toNat:Int):BitVec 32).toNat:Nat):Int)=_;rw[zp,zp,wi,wi,wj,wj,rW]
theorem pB(n:Int):qa wQ n=((qq 32 n).toNat:Int):=by
 unfold qa;simp[ql,IntKind.signed,BitVec.toNat_ofInt];omega
theorem tw(s:gg):qI (s.toNat:Int) (2^min (1:Int).toNat (ql wQ))=((s>>>1).toNat:Int):=by
 rw[show min (1:Int).toNat (ql wQ)=1 from rfl,Int.fdiv_eq_ediv_of_nonneg _ (by decide),BitVec.toNat_ushiftRight,Nat.shiftRight_eq_div_pow];simp
theorem mM(s:gg):((s&&&1#32).toNat:Int)=1↔s&&&1#32=1#32:=by
 constructor
 ·intro h;apply BitVec.eq_of_toNat_eq;have:(1#32:gg).toNat=1:=rfl;omega
 ·intro h;rw[h];rfl
def gu(s:gg):List UInt8:=(zf 4).map fun i=>b8 (qI (s.toNat:Int) (2^(8*i)))
theorem rX(s:gg):(gu s).length=4:=by simp[gu]
def bF(b:Int)(a:List UInt8):List UInt8:=[87,115,1,b8 b]++a++qd (55-a.length) 0
def cw(a:Int)(b:List UInt8):List UInt8:=
 if 1<=a/\a<=255/\b.length<=55 then bF a b++gu (mj (bF a b))++[165]else[]
theorem iV{b:Int}{a:List UInt8}(h:a.length<=55):(bF b a).length=59:=by simp[bF];omega
theorem sH{a:Int}{b:List UInt8}(e:1<=a)(d:a<=255)(c:b.length<=55):(cw a b).length=64:=by
 unfold cw;rw[if_pos ⟨e,d,c⟩];simp[iV c,rX]
end Wl
namespace Go.Vc
open Go
def cq(s:ByteArray):List UInt8:=s.data.toList
theorem gv(s:ByteArray):(cq s).length=s.size:=rfl
def ym(n:Nat):Obj->Obj
 | .cells c elem (lo,hi)=>.cells c elem (if lo==hi then(n,n+1)else(min lo n,max hi (n+1)))
 |o=>o
theorem ab.uM{P:Program}{h:Heap}{b n:Nat}{c:Array Value}{e:TypeId}{K:Unit->Heap->Prop}(i:h[b]?=some (.cells c e (0,0)))(l:n=c.size)(k:∀a,(∀x,x≠b->a[x]?=h[x]?)->a.size=h.size->(∃f,a[b]?=some (.cells c e f))->K () a):
  ab P (freeze {block:=b,off:=n} 1) h K:=fun w g=>by
 refine⟨(),w.freeze {block:=b,off:=n} 1,run_freeze P w _ _,⟨rfl,rfl,rfl,qM _⟩,?_⟩;subst g;have d:(w.freeze {block:=b,off:=n} 1).heap=w.heap.modify b (ym n):=rfl;refine k _ (fun x j=>?_) ?_ ?_
 ·rw[d,zl,if_neg (fun e=>j e.symm)]
 ·rw[d];simp
 ·rw[d,zl,if_pos rfl,i];exact⟨_,rfl⟩
section
variable {C:Ctx} {B:am} {h h0:Heap} {As:List HP} {t e ts:Nat}
theorem xj(l:C.Ok)(z:∃i,C.T.get ts=some i/\i.bi=.str)(F:∃i,C.T.get t=some i/\i.bi=.slice e)(q:∃i,C.T.get e=some i/\i.bi=.int .u8)(s:ByteArray){K:Sl->Heap->Prop}(B:∀r g,Sp h g [rL r 1 aF (cq s)]->K r g):
  ar C.P (convert ts t (.string s)) (.one (.sc .slc)) h K:=by
 obtain⟨L,w,A⟩:=z;obtain⟨N,G,I⟩:=F;obtain⟨i3,a3,J⟩:=q;have D:C.P.underlying ts=some .string:=by have:=l.bi w;rw[A]at this;exact kr this
 have u:C.P.underlying t=some (.slice e):=by have:=l.bi G;rw[I]at this;exact dI this
 have u3:C.P.underlying e=some (.int .u8):=by have:=l.bi a3;rw[J]at this;exact oM this
 unfold ar convert;refine ab.bind (ab.always (aq D) ?_);refine ab.bind (ab.always (aq u) ?_);refine ab.bind (ab.always (aq u3) ?_);unfold Conv.stringToBytes;refine ab.bind (ab.oK ⟨fun v=>(by cases v),fun _ y=>?_⟩);generalize j:Question.cut (Question.appendCap s.size 0 e) y=cc;have p:s.size<=cc:=by rw[<-j];simp only[Question.cut];omega
 unfold newRow;refine ab.bind (ab.bind (ab.gk (ab.pure' ?_)));unfold markStringish;obtain⟨a,d⟩:∃a:Array Value,a=s.data.map (fun b=>Value.int .u8 b.toNat)++we (cc-s.size) (Value.int .u8 0):=⟨_,rfl⟩
 rw[<-d];refine ab.bind (ab.bind (ab.xr ?_));have k:shapeOf (h.push (.cells a e)) h.size=some (e,a.size):=by unfold shapeOf;simp
 dsimp only;rw[k];refine ab.uM (c:=a) (e:=e) (by simp) rfl fun g E o m=>?_;refine ab.pure' ⟨⟨some ⟨h.size,0,none⟩,s.size,cc⟩,rfl,B _ _ ?_⟩;obtain⟨f,m⟩:=m;refine .one ⟨by rw[o];simp,fun b M _=>by rw[E b (by omega),Array.getElem?_push,if_neg (by omega)]⟩ ?_;refine⟨by rw[gv],fun i x n=>⟨h.size,0,rfl,⟨qM _,by rw[o];simp⟩,?_,trivial⟩⟩;rw[add_zero];have H:i<s.data.size:=by have:=(qn.1 n).1;simpa[cq]using this
 unfold cellOf;simp only[m,za,zo,Option.isSome_none,qJ,if_false];rw[d,Array.getElem?_append_left (by simpa using H),Array.getElem?_map];have:s.data[i]?=some x:=by rw[<-n];simp[cq]
 rw[this];rfl
end
section
variable {C:Ctx} {t t2 e k:Nat} {z:List Value} {by_:Nat} {h h0:Heap} {B:am} {As:List HP} {s:Sl} {l:List UInt8}
theorem pO(v:C.Ok)(B:bk C.tokp t e 1 z by_)(h2:∃i,C.T.get t2=some i/\i.bi=.str)(hz:z.length=1)(I:0<by_/\by_<=128)
  (r:Own h e s 1 aF l) (x:ByteArray) (a0:l.length+x.size<=2^32) {X:Nat} {K:Sl->Heap->Prop}
  (G:∀F A,Own A e F 1 aF (l++cq x)->ax (fun b=>¬s.on b) h A->(∀b,F.on b->s.on b∨h.size<=b)->K F A):
  ar C.P (qh #[t,t2] X #[.slice s.ptr s.len s.cap,.string x]) (.one (.sc .slc)) h K:=by
 obtain⟨i2,R,Z⟩:=h2;have M:C.P.underlying t2=some .string:=by have:=v.bi R;rw[Z]at this;exact kr this
 obtain⟨D,w,x2,x3,W,x4,Q⟩:=B.info v;have m:∀y∈(cq x).flatMap aF,y.oneCell'=true:=fun y hy=>by
  obtain⟨b,_,hb⟩:=zB.1 hy;exact cg b y hb
 have g:((x.extract 0 x.size).data.map fun b=>Value.int .u8 (b.toNat:Int))=((cq x).flatMap aF).toArray:=by
  have e0:x.extract 0 x.size=x:=by
   apply ByteArray.ext;simp[ByteArray.data_extract]
  rw[e0];apply zN;simp only[Array.toList_map,cq];exact List.map_eq_flatMap
 unfold ar qh;simp only[q6,zr,qe];refine ab.bind (ab.always (aq (B.under v)) ?_);refine ab.bind (ab.always (B.size v) ?_);refine ab.bind (ab.always (aq M) ?_);refine ab.bind (ab.pure' ?_);simp only[qJ,if_false,zP,if_true];refine ab.bind (ab.pure' ?_);have p:=r.len;have u:∀y,(aF y).length=1:=fun _=>rfl;have j:=bN u l;have a:=bN u (cq x);have U:=gv x;have k:∀{h:Heap} {K:Array Value->Heap->Prop},K ((cq x).flatMap aF).toArray h->ab C.P (zn 1 x.size (.string x)) h K:=fun{h K} hK=>by
  unfold zn;dsimp only;rw[g];exact ab.pure' hK
 by_cases d:s.len+x.size<=s.cap
 ·rw[if_pos d];refine ab.bind (k ?_);rcases r.head with⟨p1,p2,p3⟩|⟨b,rest,p1,p2,p3,p4⟩
  ·rw[p1];have J:cq x=[]:=qP (by omega);refine ab.pure' ⟨⟨none,s.len+x.size,s.cap⟩,rfl,G _ _ ⟨?_,.inl ⟨rfl,p2,by simp[p3,J]⟩⟩ (ax.refl _ _) ?_⟩
   ·simp;omega
   ·rintro N ⟨o,f⟩;cases f
  ·rw[p1];refine ab.bind ?_;rw[add_eq,zo];have L:((cq x).flatMap aF).length<=rest.length:=by
    rw[a,p3];omega
   refine bB (e:=e) (pre:=l.flatMap aF) (old:=rest.take ((cq x).flatMap aF).length) (post:=rest.drop ((cq x).flatMap aF).length) ?_ ?_ ?_ ?_ ?_
   ·rw[qp,qw];exact p2
   ·rw[qx];exact zu L
   ·rw[j,p];omega
   ·intro c hc;exact m c (by simpa using hc)
   ·refine ab.pure' ⟨⟨some ⟨b,0,none⟩,s.len+x.size,s.cap⟩,rfl,G _ _ ⟨?_,.inr ⟨b,rest.drop ((cq x).flatMap aF).length,rfl,?_,?_,d⟩⟩ ?_ ?_⟩
    ·simp;omega
    ·rw[cn p2,if_pos rfl];simp
    ·rw[qG,p3,a];show(s.cap-s.len)*1-(cq x).length*1=(s.cap-(s.len+x.size))*1;omega
    ·exact ax.cy p2 (fun hn=>hn ⟨0,p1⟩)
    ·rintro N ⟨o,f⟩;cases f;exact .inl ⟨0,p1⟩
 ·rw[if_neg d];have q:Seq h (fun _=>True) s 1 aF l:=r.seq u (fun _ _=>trivial);have O:=r.cap;refine ab.bind (ab.always (bc w) ?_);rw[if_neg (fun V=>by rcases V.2 with h|h<;>first|exact h|(rw[x3]at h;omega))];refine ab.bind (ab.always (bc w) ?_);have ad:=tp (s.len+x.size) s.cap (by omega);rw[if_neg (by
   have:zY (s.len+x.size) s.cap*D.bytes<=(16*2^32+16*768)*128:=wo (by omega) (by rw[x3];exact I.2);omega)]
  refine ab.bind (ab.oK ⟨fun S=>(by cases S),fun _ Y=>?_⟩);refine ab.bind (ab.always (bc w) ?_);refine ab.bind (ab.nv ?_);refine ab.bind (cu u q ?_);refine ab.bind (k ?_);have H:aj C.P (zeroValue e) W:=(bc w).bind (by rw[x4];exact .pure);refine ab.bind (ab.always H ?_);rw[Q,ma];unfold newRow;refine ab.bind (ab.bind (ab.gk (ab.pure' (ab.pure' ?_))));generalize E:Question.cut (Question.appendCap (s.len+x.size) s.cap e) Y=cc;have n:s.len+x.size<=cc:=by rw[<-E];simp only[Question.cut];omega
  refine⟨⟨some ⟨h.size,0,none⟩,s.len+x.size,cc⟩,rfl,G _ _ ⟨?_,.inr ⟨h.size,cC z (cc-(s.len+x.size)),rfl,?_,?_,n⟩⟩ (ax.push _ _ _) ?_⟩
  ·simp;omega
  ·simp
  ·rw[fm,hz]
  ·rintro N ⟨o,f⟩;cases f;exact .inr (qM _)
theorem aa.pC(A:C.Ok)(H:aa B h0 h As)(i:Nat)(E:As[i]?=some (au e s 1 aF l))(q:bk C.tokp t e 1 z by_)(G:∃i,C.T.get t2=some i/\i.bi=.str)(D:z.length=1)(k:0<by_/\by_<=128)
  (x:ByteArray) (p:l.length+x.size<=2^32) {r:Nat} {K:Sl->Heap->Prop} (w:∀g f,aa B h0 f (As.set i (au e g 1 aF (l++cq x)))->K g f):
  ar C.P (qh #[t,t2] r #[.slice s.ptr s.len s.cap,.string x]) (.one (.sc .slc)) h K:=by
 obtain⟨v,F,c,I,a⟩:=H;have m:=a i _ E;refine pO A q G D k m.1 x p fun g f d j n=>w g f ?_;refine aa.rk v F I a (j.mono fun b o u y=>u (m.2 b y)) ⟨d,fun b o=>⟨d.lt o,?_⟩⟩;rcases n b o with h1|h1
 ·exact .inl (m.2 b h1)
 ·exact .inr h1
end
end Go.Vc
namespace Wl
open Go
structure dd where
 name:ByteArray
 object:Int
 length:Int
 tries:List Int
structure ba where
 seq:Int
 next:Int
 p:Int×Int×Int
 extra:Int
 drives:List Int
 objs:List dd
def xZ:dd:=⟨⟨#[]⟩,0,0,[]⟩
def cT(l:List dd)(i:Nat):dd:=l.getD i xZ
theorem iW{l:List dd}{i:Nat}(h:i<l.length):cT l i=l[i]:=by unfold cT;rw[qj,qc h];rfl
def bz(n a b:Int):Bool:=decide (a<=n)&&decide (n<=b)
def bV(c:UInt8):Bool:=(decide (97<=c.toNat)&&decide (c.toNat<=122))||(decide (48<=c.toNat)&&decide (c.toNat<=57))||decide (c.toNat=45)
def dP(s:ByteArray):Bool:=s.data.toList.all bV&&(decide (1<=s.size)&&decide (s.size<=12))
def gX(a b:ByteArray):Bool:=Op.bytesLess a.toList b.toList
def cj(l:List Int)(a:Int)(i:Nat):Bool:=bz (l.getD i 0) 0 a&&(decide (i=0)||decide (l.getD (i-1) 0<l.getD i 0))
def kP(l:List Int)(a:Int):Bool:=(zf l.length).all (cj l a)
def countP(p:Int×Int×Int)(n:Int):Int:=if cV p&&decide (0<n)then(n-1)/(p.1*p.2.2)+1 else 0
def cP(m:ba)(x:dd):Bool:=
 dP x.name&&(bz x.object 0 (m.next-1)&&(bz x.length 0 (m.p.1*m.p.2.2*8)&&(x.tries.all (bz · 0 15)&&decide ((x.tries.length:Int)=countP m.p x.length))))
def eg(m:ba)(i:Nat):Bool:=
 cP m (cT m.objs i)&&((decide (i=0)||gX (cT m.objs (i-1)).name (cT m.objs i).name)&&!(m.objs.take i).any fun y=>decide (y.object=(cT m.objs i).object))
def fi(m:ba):Bool:=bz m.seq 1 2147483647&&(bz m.next 0 16777216&&(cV m.p&&bz m.extra 0 16))
def ce(m:ba):Bool:=fi m&&(kP m.drives 63&&(decide (m.objs.length<=12)&&(zf m.objs.length).all (eg m)))
theorem ml{p:Nat->Bool}{n i:Nat}(a:i<n)(h:p i=false):(zf n).all p=false:=wu.2 ⟨i,q5.2 a,by rw[h];simp⟩
theorem lm{p:Nat->Bool}{n:Nat}(h:∀i,i<n->p i=true):(zf n).all p=true:=qH.2 fun i a=>h i (q5.1 a)
def bx(n:Int)(k:Nat):List UInt8:=(zf k).map fun i=>b8 (qI n (2^(8*(k-1-i))))
theorem aW(n:Int)(k:Nat):(bx n k).length=k:=by simp[bx]
def cx(x:dd):List UInt8:=b8 x.name.size::(x.name.data.toList++(bx x.object 3++(bx x.length 2++x.tries.map b8)))
def de(m:ba):List UInt8:=
 if ce m then bx m.seq 4++(bx m.next 4++([b8 m.p.1,b8 m.p.2.1,b8 m.p.2.2,b8 m.extra,b8 m.drives.length]++(m.drives.map b8++(b8 m.objs.length::m.objs.flatMap cx))))else[]
def fu(seq a c:Int)(b:List UInt8):List UInt8:=cw 2 (bx seq 4++([b8 a,b8 c,b8 b.length]++b))
def bP(b:List UInt8):Nat:=(b.length+47)/48
def aX(m:ba):List (List UInt8):=(zf (bP (de m))).map fun i:Nat=>fu m.seq i (bP (de m)) (((de m).drop (48*i)).take 48)
theorem uN{m:ba}(h:ce m=true):fi m=true:=by unfold ce at h;simp at h;exact h.1
theorem nE{m:ba}(h:fi m=true):(1<=m.seq/\m.seq<=2147483647)/\(0<=m.next/\m.next<=16777216)/\cV m.p=true/\0<=m.extra/\m.extra<=16:=by
 unfold fi bz at h;simpa[and_assoc]using h
theorem tU{m:ba}{c:List UInt8}(h:c∈aX m):c.length=64:=by
 unfold aX at h;obtain⟨i,_,rfl⟩:=zx.1 h;exact sH (by decide) (by decide) (by simp[aW];omega)
end Wl
