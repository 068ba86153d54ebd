/- Lemmas for the proof of the law; no condition. -/
import Derived.Test.YtcaonbjibhlkcaaGreatDoorKE
import Derived.Test.YtcaonbjibhlkcaaGreatDoorKD
set_option linter.unusedVariables false
set_option maxHeartbeats 4000000
set_option linter.unusedSimpArgs false
open Go.Proofs.Tryz renaming prog -> xv
open Go.Value renaming bool -> xo, int -> xk, pointer -> xm, slice -> xl, string -> xn
open Go.IntKind renaming i64 -> xq, u32 -> xt, u64 -> xu, wrap -> qc
open List renaming drop_eq_getElem_cons -> qS, ext_getElem? -> zx, getD_eq_getElem?_getD -> qe, getElem?_append_left -> qm, getElem?_append_right -> qj, getElem?_eq_getElem -> qd, getElem?_set -> qV, getElem_mem -> qh, length_cons -> zi, length_map -> qD, length_range -> zy, length_set -> zr, length_take -> qM, map_append -> qW, mem_cons_self -> q0, pairwise_mergeSort -> wH, range -> qy, range_succ -> zt, set_append_right -> q7, take_of_length_le -> qi
open Nat renaming le_refl -> ql, mul_le_mul -> zJ, sub_self -> zd
open Prod renaming fst -> qK
open Int renaming natCast_mul -> zW, toNat_natCast -> qp
set_option maxRecDepth 100000
namespace Go.Qw
open Go Go.Vc Go.Proofs Wl
section
variable {B:aA} {h0 h:Heap} {As:List HP} {a pw:Addr} {offs:Int} {da:List aP} {w:Pow} {ds:aX} {m:aD}
end
section
theorem adX{B:aA}{g h:Heap}{As:List HP}{a pw:Addr}{offs:Int}{e:List aP}{w:Pow}{ds:aX}{m:aD}(name:ByteArray)(i:bQ m=true)(H:aa B g h (jW a pw e offs w ds m::As)):
  ab xv 87 #[xm (some a),xn name] h fun v h'=>∃r:Sl,v=.tuple #[r,xk xq (iL m offs w ds name).2]/\Sp h h' [EA (ft 1 az) r (iL m offs w ds name).1]:=by
 have c:=(afg H).2;obtain⟨x,f⟩:=Mt H;exact abN x name i (fun k d b=>Nat.le_trans (c k d b).1 (c k d b).2.1) f
end
section
variable {B:aA} {h0 h:Heap} {As:List HP} {a pw b:Addr} {offs:Int} {da:List aP} {w:Pow} {ds:aX} {m:aD} {q:aP}
theorem Sn(y:UL)(A:y.1=2)(x:bQ m=true)(H:aa B h0 h (jW a pw da offs w ds m::ar b 103 (it q (some a))::As)):
  ab xv 47 #[xm (some b),Xd y] h fun v h'=>∃r:Sl,v=VM ((iL m offs w ds y.2.1).2,r,gz,0,0,0,gz,0)/\Sp h h' [EA (ft 1 az) r (iL m offs w ds y.2.1).1]:=by
 refine lX (some b) y ?_;unfold jR;have d:=H.box 1 rfl;refine(Sp.refl h).boxed fun i s k=>?_;have k:Sp h s [ar i 71 (Cm y)]:=k;refine k.alloc ac rfl fun f u c=>?_;have c:Sp h u [ar i 71 (Cm y),ar f 68 (kP (kQ 0))]:=c;have n:=d.ag c.ag d.lt;obtain⟨E,l⟩:∃E,E=iL m offs w ds y.2.1:=⟨_,rfl⟩
 refine bO (fun _ h'=>∃r:Sl,Sp h h' [ar f 68 (kP (E.2,r,gz,0,0,0,gz,0)),EA (ft 1 az) r E.1]) ?_ ?_
 ·refine⟨y.1,(c.box 0 rfl).cell0 rfl,?_⟩;rw[A];refine cz (fun e=>absurd e (by decide)) fun _=>cz (fun _=>?_) fun e=>absurd rfl e;refine⟨b,rfl,some a,n.cell rfl,y.2.1,(c.box 0 rfl).cell rfl,(adX y.2.1 x (H.up c.ag)).mono ?_⟩;rw[<-l];rintro _ h3 ⟨r,rfl,z⟩;have p:Sp h h3 [ar i 71 (Cm y),ar f 68 (kP (kQ 0)),EA (ft 1 az) r E.1]:=c.comp z;refine⟨(r,E.2),rfl,trivial,?_⟩;refine p.store ac 1 rfl rfl 1 [r] rfl rfl rfl (by simp) fun F j=>⟨trivial,?_⟩
  have j:Sp h F [ar i 71 (Cm y),ar f 68 (kP (0,r,gz,0,0,0,gz,0)),EA (ft 1 az) r E.1]:=j;refine j.ja ac 1 rfl rfl [xk xq E.2] rfl rfl rfl (by simp) fun I t=>⟨trivial,r,?_⟩
  exact t.cj [1,2]
 ·rintro _ G ⟨r,o⟩;refine⟨(E.2,r,gz,0,0,0,gz,0),(o.box 0 rfl).aF _ rfl,o.storeAll ac 0 rfl rfl (kP (E.2,r,gz,0,0,0,gz,0)) rfl rfl rfl rfl fun D g=>?_⟩;have g:Sp h D [ar f 68 (kP (E.2,r,gz,0,0,0,gz,0)),EA (ft 1 az) r E.1]:=g;exact⟨(E.2,r,gz,0,0,0,gz,0),(g.box 0 rfl).aF _ rfl,r,by rw[<-l],by rw[<-l];exact g.cj [1]⟩
theorem Xf(y:UL)(k:y.1=2)(o:bQ m=true)(H:aa B h0 h (jW a pw da offs w ds m::ar b 103 (it q (some a))::As)):
  ab xv 24 #[xm (some b),Xd y] h fun v h'=>∃r:Sl,v=VM ((iL m offs w ds y.2.1).2,r,gz,0,0,0,gz,0)/\Sp h h' [EA (ft 1 az) r (iL m offs w ds y.2.1).1]:=by
 refine ni (some b) y ?_;unfold kR;refine(Sp.refl h).boxed fun f l g=>?_;have g:Sp h l [ar f 71 (Cm y)]:=g;refine g.alloc ac rfl fun j n c=>bF (fun e=>by cases e) fun _=>aT ?_;have c:Sp h n [ar f 71 (Cm y),ar j 68 (kP (kQ 0))]:=c;refine⟨y.1,(c.box 0 rfl).cell0 rfl,aT ?_⟩;rw[k];refine cz (fun e=>absurd e (by decide)) fun _=>cz (fun _=>?_) fun e=>absurd rfl e;refine bF (fun _=>?_) fun e=>by cases e
 refine⟨y,(c.box 0 rfl).aF _ rfl,(Sn y k o (H.up c.ag)).mono ?_⟩;obtain⟨E,p⟩:∃E,E=iL m offs w ds y.2.1:=⟨_,rfl⟩
 rw[<-p];rintro _ h3 ⟨r,rfl,s⟩;obtain⟨Y,i⟩:∃Y:Qt,Y=(E.2,r,gz,0,0,0,gz,0):=⟨_,rfl⟩
 rw[<-i];refine⟨Y,rfl,(c.comp s).storeAll ac 1 rfl rfl (kP Y) rfl rfl rfl rfl fun t d=>?_⟩;have d:Sp h t [ar f 71 (Cm y),ar j 68 (kP Y),EA (ft 1 az) r E.1]:=d;exact⟨Y,(d.box 1 rfl).aF _ rfl,r,by rw[<-i],d.cj [2]⟩
end
end Go.Qw
namespace Wl
open Go
def So{α:Type}(le:α->α->Bool)(a:α):List α->List α
 |[]=>[a]
 |b::l=>if le a b then a::b::l else b::So le a l
def Ln{α:Type}(le:α->α->Bool):List α->List α
 |[]=>[]
 |a::l=>So le a (Ln le l)
theorem Sq{α:Type}{le:α->α->Bool}{a:α}{l2:List α}(d:∀c∈l2,le a c=true):∀l1:List α,(∀b∈l1,¬le a b=true)->So le a (l1++l2)=l1++a::l2
 |[],_=>by
  cases l2 with
  |nil=>rfl
  |cons c l=>exact if_pos (d c q0)
 |b::l,h=>by
  show(if le a b then a::b::(l++l2)else b::So le a (l++l2))=_;rw[if_neg (h b q0),Sq d l fun c e=>h c (List.mem_cons_of_mem _ e)];rfl
theorem UN{α:Type}{le:α->α->Bool}(o:Ord le):∀l:List α,l.mergeSort le=Ln le l
 |[]=>by simp[Ln]
 |a::l=>by
  obtain⟨l1,l2,i,g,h⟩:=List.mergeSort_cons o.trans o.total a l;have d:=wH o.trans o.total (a::l);rw[i]at d⊢;show _=So le a (Ln le l);rw[<-UN o l,g,Sq (fun c f=>((List.pairwise_append.1 d).2.1.imp fun h=>h)|>fun k=>(List.pairwise_cons.1 k).1 c f) l1 fun b e=>by simpa using h b e]
theorem agc:Ord (fun x y:Int=>decide (x<=y)):=⟨fun a b c e d=>by simp at*;omega,fun a b=>by simp;omega⟩
def Xg(n:Nat)(seed id:Int):aB:=Ln (fun x y=>decide (x<=y)) ((dm n (oP (oP (rL seed id))) (upto n) (tE (oP (rL seed id)) n)).2.take (tE (oP (rL seed id)) n))
theorem aft(n:Nat)(seed:Int):kL n seed=fun id=>dL n (Xg n seed id):=funext fun id=>by
 unfold kL cA Ae jl Xg;rw[UN agc]
def Xh(p:Int×Int×Int)(o b:Int)(k:Nat):Bool:=bA p&&(((bT (if bA p then bc p.1.toNat p.2.1.toNat++((dH p).filter bp).map (fun id=>dL (bn p).toNat (Xg (bn p).toNat (cE o b k) id))else[]):Nat):Int)==bn p)
theorem afu(p:Int×Int×Int)(o b:Int):Do p o b=Xh p o b:=funext fun k=>by
 unfold Do dQ io cG Xh;rw[aft]
abbrev EK:Int×Int×Int:=(1,1,4)
theorem adY:(lF EK 0 0).isSome=true:=by
 unfold lF;rw[afu,List.find?_isSome];have h:(qy 16).any (Xh EK 0 0)=true:=by decide+kernel
 exact List.any_eq_true.1 h
end Wl
namespace Go.Qw
open Go Go.Vc Go.Proofs Wl
abbrev Jo:ByteArray:=⟨#[97]⟩
def gQ:aD:=de EK 2 [20,20]
theorem abQ{D:aX}(q:D.length=64)(z:∀s,bR D s=if s∈bi [20,20] 2 then some ⟨(([20,20]:aB).getD s.toNat 0).toNat,bf gQ,0,[],false,false⟩else none):
  ∃(n:aD) (a:aX),cK gQ 0 Pow.new D Jo [97,98,99]=(0,n,Pow.new,a)/\bQ n=true/\iL n 0 Pow.new a Jo=([97,98,99],0):=by
 have A:Bg EK 2 [20,20]=0:=by decide+kernel
 obtain⟨S,F,L⟩:=ZV (m:=gQ) rfl A (by decide) q z (fun _=>[]);have l:gQ.drives=[0,1]:=by decide+kernel
 have I:Inv gQ (fun _=>[]) D 0:=⟨S,F,L,fun e B=>(by cases B),(by rw[l];decide),by decide,by decide⟩
 have f:bg D gQ.drives=gQ.drives:=F.bg;have j:cQ gQ (fO Pow.new 0) D Jo 3=0:=by
  unfold cQ;rw[f,l,if_neg (by decide),if_neg (by decide+kernel),if_neg (by decide),if_neg (by decide),if_neg (by decide)]
 have v:(bf gQ).length=1:=by decide+kernel
 have i:(splitB gQ.p [97,98,99]).length=1:=by decide+kernel
 rcases I.put (name:=Jo) (b:=[97,98,99]) q0 with⟨e,hne,hq⟩|⟨_,t,a,_,hq,I'⟩
 ·exfalso;rcases UJ (offs:=0) (name:=Jo) (b:=[97,98,99]) xG S with⟨⟨e',hne',hq'⟩,hcode⟩|⟨_,t,a,_,hq2,_,_⟩
  ·rw[hq']at hcode;dsimp only at hcode;rcases hcode with h|⟨_,⟨_,h⟩|⟨_,t,ht,hf⟩⟩
   ·exact hne' (h.trans j)
   ·rw[i]at h;have x:=adY;have o:ct gQ.p gQ.next 1=(lF EK 0 0).map fun t=>[(t:Int)]:=by
     show(some []).bind _=_;rfl
    rw[o]at h;cases hh:lF EK 0 0 with
    |none=>rw[hh]at x;cases x
    |some t=>rw[hh]at h;cases h
   ·obtain⟨_,H⟩:=NS (m:=gQ) (offs:=0) (w:=Pow.new) (ds:=D) (name:=Jo) (b:=[97,98,99]) xG S.len S.may;obtain⟨u,_,_⟩:=(H j).2 t ht;rw[(roomy (m:=gQ) (w:=Pow.new) (live:=bg D gQ.drives) (ds:=D) fun k y=>?_).1]at hf
    ·cases hf
    ·have d:=adW (m:=gQ) (t:=t) (b:=[97,98,99]) (live:=bg D gQ.drives) u k (nb:=(splitB gQ.p [97,98,99]).length) (c:=1) (by rw[i];exact ql _);have g:k∈bi [20,20] 2:=by rw[f]at y;exact y
     refine⟨_,by rw[z,if_pos g],rfl,d.1,?_⟩;have E:(9+1*(gQ.p.1+gQ.extra).toNat:Nat)=12:=by decide
     have o:=d.2;rw[E]at o;have r:((([20,20]:aB).getD k.toNat 0).toNat:Int)=20:=by
      have:∀k∈bi [20,20] 2,((([20,20]:aB).getD k.toNat 0).toNat:Int)=20:=by decide+kernel
      exact this k g
     show((bf gQ).length:Int)+_<=((([20,20]:aB).getD k.toNat 0).toNat:Int);rw[r,v];omega
  ·rw[hq2]at hq;exact hne (congrArg qK hq).symm
 ·have d:=I'.get (e:=⟨Jo,gQ.next,(3:Nat),t⟩) (nT.2 (.inr rfl));refine⟨_,a,hq,I'.sto.may,?_⟩;have G:ji (fun _=>[]) gQ.next [97,98,99] gQ.next=[97,98,99]:=by unfold ji;simp
  dsimp only at d;rw[G]at d;exact d
end Go.Qw
namespace Wl
end Wl
namespace Go.Qw
open Go Go.Vc Go.Proofs Wl
abbrev afv:bN C.toBq 58 77 2 [xk xq 0,xl none 0 0] 32:=⟨_,_,rfl,rfl,rfl,rfl,rfl,rfl⟩
theorem aa.agd{B:aA}{c h:Heap}{As:List HP}{e:Nat}{r:Sl}{l:Row}(H:aa B c h As)(i:Nat)(d:As[i]?=some (an e r 1 az l))(id:Int):aa B c h (As.set i (EA DA (id,r) (id,l))):=
 H.ga i d fun q ⟨a,b⟩=>⟨rfl,a.seq (fun _=>rfl) b⟩
abbrev Bn(p:Pm)(seed:Int)(l:Sl):aV:=[xk xq p.1,xk xq p.2.1,xk xq p.2.2,xk xt seed,l]
theorem Od(p:Pm)(seed:Int)(h:Heap):ab xv 8 #[ir p,xk xt seed] h fun v h'=>
  (bA p=false->v=xm none/\Sp h h' [])/\(bA p=true->∃a:Addr,v=xm (some a)/\Sp h h' [ar a 60 (Bn p seed ⟨none,0,0⟩)]):=by
 refine LN p seed ?_;unfold Fz;refine(Sp.refl h).boxed fun k i d=>?_;refine⟨p,(d.box 0 rfl).aF _ rfl,(dz p i).mono ?_⟩;rintro _ j ⟨rfl,f⟩;have c:=d.up f.ag;refine⟨_,rfl,be (fun e=>?_) (fun e=>?_)⟩
 ·exact⟨fun _=>⟨rfl,c.cj []⟩,fun b=>(by rw[e]at b;cases b)⟩
 ·refine⟨p,(c.box 0 rfl).aF _ rfl,c.boxed fun a h3 g=>?_⟩;exact⟨fun b=>(by rw[e]at b;cases b),fun _=>⟨a,rfl,g.cj [1]⟩⟩
section
variable {B:aA} {h0 h:Heap} {As:List HP}
theorem ZW(a:Addr)(p:Pm)(seed id:Int)(l data:Sl)(syms:List (Int×Row))(row:Row)(H:aa B h0 h (ar a 60 (Bn p seed l)::dK 77 l 2 yv DA syms::As))(n:Rd h data 1 az row)(x:row.length<=2^20)(u:syms.length<=2^20):
  ab xv 13 #[xm (some a),xk xq id,data] h fun v h'=>v=xo (jK p (id,row))/\∃b:Sl,aa B h0 h' (ar a 60 (Bn p seed b)::dK 77 b 2 yv DA (if jK p (id,row)then syms++[(id,row)]else syms)::As):=by
 refine AP (some a) id data ?_;unfold ph;refine(fm data row h n).mono ?_;rintro _ s ⟨r,rfl,o⟩;have m:=H.cX o;refine⟨r,rfl,m.alloc ac rfl fun t w g=>?_⟩;have g:=g.bH;refine g.storeAll ac 0 rfl rfl (yv (id,r)) rfl rfl rfl rfl fun h3 d=>?_;refine aT (bF (fun e=>by cases e) fun _=>?_);refine⟨a,rfl,p,(d.box 2 rfl).aF _ rfl,(id,r),(d.box 0 rfl).aF _ rfl,?_⟩;refine(Ik p (id,r) row h3 (d.seq 1 rfl fun _=>rfl)).mono ?_;rintro _ z ⟨rfl,k⟩;have c:=d.up k.ag;refine⟨_,rfl,trivial,be (fun e=>?_) (fun e=>?_)⟩
 ·exact⟨by rw[e],l,by rw[e];exact c.bo 4 [2,3]⟩
 ·rw[e];refine⟨a,rfl,l,(c.box 2 rfl).cell rfl,(id,r),(c.box 0 rfl).aF _ rfl,?_⟩;have f:=aa.agd c 1 rfl id;refine f.pW ac yv afv rfl [(id,r)] rfl (show 1*2<=2^20 by decide) rfl ⟨(f.box 2 rfl).cell rfl,trivial⟩ ?_;refine f.JC ac 3 1 (by decide) rfl rfl afv rfl (by decide) (fun _=>rfl) afo rfl (by decide) (by omega) fun b q i=>⟨trivial,a,rfl,?_⟩
  refine i.store ac 2 rfl rfl 4 [b] rfl rfl rfl (by simp[Bn]) fun y j=>⟨trivial,rfl,b,?_⟩
  exact j.bo 4 [2,3]
end
theorem DF(a:Addr)(p:Pm)(seed:Int)(l:Sl)(syms:List (Int×Row))(h:Heap)(d:bZ h a 60 (Bn p seed l))(k:fg DB h l syms)(o:syms.length<=2^20):
  ab xv 11 #[xm (some a)] h fun v h'=>v=xk xq (bn p-io p seed (syms.map qK))/\Sp h h' []:=by
 refine xM (some a) ?_;unfold ol;refine bF (fun e=>by cases e) fun _=>?_;refine⟨a,rfl,p,d.aF _ rfl,a,rfl,p,d.aF _ rfl,a,rfl,seed,d.cell rfl,a,rfl,l,d.cell rfl,(jw p h).mono ?_⟩;rintro _ i ⟨rfl,g⟩;have b:=d.ag g.ag d.lt;refine⟨_,rfl,⟨b.cell rfl,b.cell rfl,b.cell0 rfl,b.cell rfl,b.cell rfl,trivial⟩,?_⟩;refine(Oa l syms i (fg.up k g.ag)).mono ?_;rintro _ j ⟨r,rfl,f⟩;have c:=b.ag f.ag b.lt;refine⟨r,rfl,⟨c.cell rfl,c.cell0 rfl,c.cell rfl,c.cell rfl,trivial⟩,?_⟩;refine(xz p seed r _ j (f.seq 0 rfl fun _=>rfl) (by simp;omega)).mono ?_;rintro _ h3 ⟨rfl,n⟩;refine⟨_,rfl,trivial,?_,.zip (up (up g.ag f.ag) n.ag)⟩;have i:=CM p seed (syms.map qK);have j:bn p<=20:=by
  unfold bn;split
  ·rename_i m;have:=(bC p).1 m;omega
  ·omega
 rw[aj _]
theorem Io(a:Addr)(p:Pm)(seed:Int)(l:Sl)(syms:List (Int×Row))(h:Heap)(b:bZ h a 60 (Bn p seed l))(c:fg DB h l syms)(d:syms.length<=2^18):
  ab xv 12 #[xm (some a)] h fun v h'=>∃r:Sl,v=.tuple #[r,xk xq (jX p seed syms).2]/\Sp h h' [an 5 r 1 az (jX p seed syms).1]:=by
 refine uQ (some a) ?_;unfold nh;refine bF (fun e=>by cases e) fun _=>?_;refine⟨a,rfl,p,b.aF _ rfl,a,rfl,seed,b.cell rfl,a,rfl,l,b.cell rfl,(Le p seed l syms h c d).mono ?_⟩;rintro _ g ⟨r,rfl,f⟩;exact⟨(r,_),rfl,trivial,r,rfl,f⟩
def sink:aB->Nat->aB
 |l,0=>l
 |l,i+1=>if dN l (i+1)<dN l i then sink (ik l (i+1) i) i else l
def sinks(l:aB):Nat->aB
 |0=>l
 |i+1=>sink (sinks l i) i
theorem Sr:∀(i:Nat) (l:aB),(sink l i).length=l.length
 |0,l=>rfl
 |i+1,l=>by
   unfold sink;split;· rw[Sr i,pX]
   ·rfl
theorem sI(l:aB):∀i,(sinks l i).length=l.length
 |0=>rfl
 |i+1=>by rw[sinks,Sr,sI l i]
theorem ux{l:aB}{i:Nat}(h:i<l.length):dN l i=l[i]:=by rw[dN,qe,qd h];rfl
theorem swap_perm(l:aB)(i:Nat)(h:i+1<l.length):(ik l (i+1) i).Perm l:=by
 have e:l=l.take i++l[i]::l[i+1]::l.drop (i+2):=by
  rw[<-qS (by omega),<-qS (by omega),List.take_append_drop]
 have f:ik l (i+1) i=l.take i++l[i+1]::l[i]::l.drop (i+2):=by
  rw[ik,ux (show i<l.length by omega),ux h];apply zx;intro j;have a:(l.take i).length=i:=by simp;omega
  rw[qV,qV];simp only[zr];by_cases c:i=j
  ·subst c;rw[if_pos rfl,if_pos (by omega),qj (by omega),a];simp
  ·rw[if_neg c];by_cases b:i+1=j
   ·subst b;rw[if_pos rfl,if_pos (by omega),qj (by omega),a];simp
   ·rw[if_neg b]
    conv=>lhs;rw[e]
    by_cases h3:j<i
    ·rw[qm (by omega),qm (by omega)]
    ·rw[qj (by omega),qj (by omega),a];obtain⟨d,g⟩:∃d,j-i=d+2:=⟨j-i-2,by omega⟩
     rw[g];rfl
 rw[f]
 conv=>rhs;rw[e]
 exact List.Perm.append_left _ (List.Perm.swap _ _ _)
theorem Oe:∀(i:Nat) (l:aB),i<l.length->(sink l i).Perm l
 |0,l,_=>.refl _
 |i+1,l,h=>by
  unfold sink;split
  ·exact(Oe i _ (by rw[pX];omega)).trans (swap_perm l i h)
  ·exact .refl _
theorem Lo(l:aB):∀i,i<=l.length->(sinks l i).Perm l
 |0,_=>.refl _
 |i+1,h=>(Oe i _ (by rw[sI];omega)).trans (Lo l i (by omega))
def afw(l:aB)(n:Nat):Prop:=∀a b,a<b->b<n->dN l a<=dN l b
theorem abR{l:aB}{i j k:Nat}(d:i<l.length)(c:j<l.length):dN (ik l i j) k=if k=j then dN l i else if k=i then dN l j else dN l k:=by
 simp only[dN,ik,qe,qV,zr];by_cases a:j=k
 ·subst a;simp[c]
 ·by_cases b:i=k
  ·subst b;simp[a,d];omega
  ·simp[a,b];omega
theorem UO(n:Nat):∀(i:Nat) (l:aB),i<n->n<=l.length->(∀a b,a<b->b<n->a≠i->b≠i->dN l a<=dN l b)->(∀b,i<b->b<n->dN l i<=dN l b)->afw (sink l i) n
 |0,l,hi,hn,h1,h2=>fun a b c d=>by
  unfold sink;by_cases e:a=0
  ·subst e;exact h2 b c d
  ·exact h1 a b c d e (by omega)
 |i+1,l,hi,hn,h1,h2=>by
  unfold sink;split
  ·rename_i o;have h:∀k,dN (ik l (i+1) i) k=if k=i then dN l (i+1)else if k=i+1 then dN l i else dN l k:=fun k=>abR (by omega) (by omega)
   refine UO n i _ (by omega) (by rw[pX];exact hn) (fun a b c d e j=>?_) (fun b d m=>?_)
   ·rw[h,h,if_neg e,if_neg j];by_cases h3:a=i+1
    ·rw[if_pos h3,if_neg (by omega)];exact h1 i b (by omega) d (by omega) (by omega)
    ·rw[if_neg h3];by_cases f:b=i+1
     ·rw[if_pos f];exact h1 a i (by omega) (by omega) h3 (by omega)
     ·rw[if_neg f];exact h1 a b c d h3 f
   ·rw[h,h,if_pos rfl,if_neg (by omega)];by_cases f:b=i+1
    ·rw[if_pos f];omega
    ·rw[if_neg f];exact h2 b (by omega) m
  ·rename_i p;intro a b c d;by_cases g:b=i+1
   ·subst g;by_cases e:a=i
    ·subst e;omega
    ·have:=h1 a i (by omega) (by omega) (by omega) (by omega);omega
   ·by_cases e:a=i+1
    ·subst e;exact h2 b c d
    ·exact h1 a b c d e g
theorem Ss(l:aB):∀i,i<=l.length->afw (sinks l i) i
 |0,_=>fun a b _ d=>by omega
 |i+1,h=>by
  have e:=Ss l i (by omega);rw[sinks];exact UO (i+1) i _ (by omega) (by rw[sI];omega) (fun a b c d _ f=>e a b c (by omega)) (fun b d g=>by omega)
theorem Uc{a b:aB}(c:a.Perm b)(f:a.Pairwise (·<=·))(d:b.Pairwise (·<=·)):a=b:=
 c.eq_of_pairwise (fun x y _ _ g e=>Int.le_antisymm g e) f d
theorem Xi(l:aB):sinks l l.length=jl l:=by
 refine Uc ((Lo l _ (ql _)).trans (List.mergeSort_perm l _).symm) ?_ ?_
 ·have:=Ss l l.length (ql _);rw[List.pairwise_iff_getElem];intro i j f e d;have g:=sI l l.length;have:=this i j d (by omega)
  rwa [ux f,ux e]at this
 ·have:=wH (le:=fun x y:Int=>decide (x<=y)) (by intro a b c;simp;omega) (by intro a b;simp;omega) l;exact this.imp (by simp)
theorem Su(a:Addr)(s:Int)(n k:Nat)(h:Heap)(N:bZ h a 281 [xk xu s])(hn:n<=64)(hk:k<=n):
  ab xv 215 #[xm (some a),xk xq n,xk xq k] h fun v h'=>∃r:Sl,v=r/\aa (fun b=>b<h.size/\¬b=a.block) h h' [ar a 281 [xk xu (dm n s (upto n) k).1],an 3 r 1 aC (Ae s n k)]:=by
 refine vl (some a) n k ?_;unfold nt;refine aT (ai (fun e=>by omega) fun _=>ai (fun e=>by omega) fun _=>ai (fun e=>by omega) fun _=>ai (fun e=>by omega) fun _=>?_);have H0:aa (fun b=>b<h.size/\¬b=a.block) h h [ar a 281 [xk xu s]]:=.PB (fun b=>b=a.block) (fun b E=>by rw[E];exact N.lt) ⟨N,rfl⟩;refine au (fun t:Sl×Nat=>(t.1,(t.2:Int))) (fun t h'=>t.2<=n/\aa (fun b=>b<h.size/\¬b=a.block) h h' [ar a 281 [xk xu s],an 3 t.1 1 aC (upto t.2)]) (fun t=>n-t.2) (⟨none,0,0⟩,0) rfl ⟨by simp,H0.nil 3 1 aC⟩ ?_;rintro⟨v,i⟩ h2 ⟨hi,R⟩;dsimp only at*;refine ai (fun e=>?_) (fun e=>?_)
 ·refine R.push ac 1 rfl lE rfl (by decide) (fun _=>rfl) gJ (i:Int) rfl (by decide) (by rw[fB];omega) fun v' h3 g=>?_;refine⟨(v',i+1),by dsimp only;rw[aj _];rfl,⟨by dsimp only;omega,?_⟩,by dsimp only;omega⟩;dsimp only;rw[ZQ];exact g
 ·have K:i=n:=by omega
  subst K;refine au (fun j:Nat=>(j:Int)) (fun j h'=>j<=k/\aa (fun b=>b<h.size/\¬b=a.block) h h' [ar a 281 [xk xu (dm i s (upto i) j).1],an 3 v 1 aC (dm i s (upto i) j).2]) (fun j=>k-j) 0 rfl ⟨by omega,R⟩ ?_;rintro j h3 ⟨hj,g⟩;have H:=pY i s (upto i) j;rw[fB]at H;refine ai (fun e3=>?_) (fun e3=>?_)
  ·rw[aj _];have f:((i:Int)-(j:Int))=((i-j:Nat):Int):=by omega
   rw[f];refine(Et a _ _ h3 (g.box 0 rfl)).mono ?_;rintro w h4 ⟨rfl,I,F⟩;have p:=g.nW 0 rfl F I;have ad:=nN (dm i s (upto i) j).1 ((i-j:Nat):Int);refine⟨_,rfl,?_⟩;dsimp only;rw[aj _,aj _];have P:(j:Int)+iw (dm i s (upto i) j).1 ((i-j:Nat):Int)=((j+(iw (dm i s (upto i) j).1 ((i-j:Nat):Int)).toNat:Nat):Int):=by omega
   have l:j+(iw (dm i s (upto i) j).1 ((i-j:Nat):Int)).toNat<(dm i s (upto i) j).2.length:=by omega
   rw[P];have q:=p.seq 1 rfl (fun _=>rfl);refine q.bt _ rfl l _ rfl ?_;refine q.bt j rfl (by omega) _ rfl ?_;refine p.set ac 1 rfl (fun _=>rfl) rfl j rfl (by omega) _ rfl rfl rfl fun h5 u=>⟨trivial,?_⟩
   refine u.set ac 1 rfl (fun _=>rfl) rfl _ rfl (by simpa using l) _ rfl rfl rfl fun O m=>⟨trivial,?_⟩
   refine⟨j+1,rfl,⟨by omega,?_⟩,by omega⟩;rw[dm,ik,dN,dN,Go.Vc.getD_lt l,Go.Vc.getD_lt (show j<(dm i s (upto i) j).2.length by omega)];exact m
  ·have G:j=k:=by omega
   subst G;have S:=(g.own 1 rfl).cap;have U:=(g.own 1 rfl).len;refine⟨⟨by omega,by omega⟩,?_⟩;rw[qp];have p:=g.cut 1 rfl (fun _=>rfl) j (by omega);obtain⟨L,D⟩:∃L,L=(dm i s (upto i) j).2.take j:=⟨_,rfl⟩
   have A:L.length=j:=by rw[D,qM];omega
   rw[<-D]at p;refine au (fun x:Nat=>(x:Int)) (fun x h'=>x<=j/\aa (fun b=>b<h.size/\¬b=a.block) h h' [ar a 281 [xk xu (dm i s (upto i) j).1],an 3 ⟨v.ptr,j,v.cap⟩ 1 aC (sinks L x)]) (fun x=>j-x) 0 rfl ⟨by omega,p⟩ ?_;rintro x h5 ⟨P,u⟩;refine ai (fun W=>?_) (fun W=>?_)
   ·refine au (fun t:Nat×aB=>(t.1:Int)) (fun t h'=>t.1<=x/\t.2.length=j/\sink t.2 t.1=sinks L (x+1)/\aa (fun b=>b<h.size/\¬b=a.block) h h' [ar a 281 [xk xu (dm i s (upto i) j).1],an 3 ⟨v.ptr,j,v.cap⟩ 1 aC t.2]) (fun t=>t.1) (x,sinks L x) rfl ⟨by simp,by rw[sI];exact A,rfl,u⟩ ?_;rintro⟨y,M⟩ O ⟨hy,Y,o,m⟩;dsimp only at*;rw[aj ((x:Int)+1)];have d:sink M y=M->∃B:Nat,(x:Int)+1=(B:Int)/\(B<=j/\aa (fun b=>b<h.size/\¬b=a.block) h O [ar a 281 [xk xu (dm i s (upto i) j).1],an 3 ⟨v.ptr,j,v.cap⟩ 1 aC (sinks L B)])/\j-B<j-x:=fun J=>
     ⟨x+1,rfl,⟨by omega,by rw[<-o,J];exact m⟩,by omega⟩
    refine aT ?_;refine ai (fun X=>?_) (fun X=>d (by rw[show y=0 by omega];rfl));obtain⟨z,rfl⟩:∃z,y=z+1:=⟨y-1,by omega⟩
    have hz:((z+1:Nat):Int)-1=(z:Int):=by omega
    rw[aj (((z+1:Nat):Int)-1),hz];have c:=m.seq 1 rfl (fun _=>rfl);have g1:=ux (show z<M.length by omega);have V:=ux (show z+1<M.length by omega);refine c.bt (z+1) rfl (by omega) _ rfl ?_;refine c.bt z rfl (by omega) _ rfl ?_;refine ai (fun Z=>?_) (fun Z=>d (by rw[sink,if_neg (by omega)]));refine c.bt z rfl (by omega) _ rfl ?_;refine c.bt (z+1) rfl (by omega) _ rfl ?_;refine m.set ac 1 rfl (fun _=>rfl) rfl (z+1) rfl (by omega) _ rfl rfl rfl fun h7 T=>⟨trivial,?_⟩
    refine T.set ac 1 rfl (fun _=>rfl) rfl z rfl (by simp;omega) _ rfl rfl rfl fun h8 H8=>⟨trivial,?_⟩
    refine⟨(z,ik M (z+1) z),rfl,⟨by dsimp only;omega,by dsimp only;rw[pX];exact Y,?_,?_⟩,by dsimp only;omega⟩
    ·dsimp only;rw[<-o];conv=>rhs;rw[sink]
     rw[if_pos (by omega)]
    ·dsimp only;rw[ik,g1,V];exact H8
   ·have:x=j:=by omega
    subst this;refine⟨⟨v.ptr,x,v.cap⟩,rfl,?_⟩;have Q:=Xi L;rw[A]at Q;rw[Q,D]at u;exact u
theorem Xj(p:Pm)(seed id:Int)(h:Heap):ab xv 139 #[ir p,xk xt seed,xk xq id] h fun v h'=>∃r:Sl,v=r/\Sp h h' [an 3 r 1 aC (if bA p&&bp id then cA (bn p).toNat seed id else[])]:=by
 refine AT p seed id ?_;unfold pk;refine(Sp.refl h).boxed fun a G F=>?_;refine aT ?_;refine⟨p,(F.box 0 rfl).aF _ rfl,(nz p G).mono ?_⟩;rintro v m ⟨rfl,P⟩;have J:=F.comp P;have B:(bA p&&bp id)=false->Sp h m [an 3 ⟨none,0,0⟩ 1 aC (if bA p&&bp id then cA (bn p).toNat seed id else[])]:=fun T=>by
  rw[T];exact(J.nil 3 1 aC).take 1 (fun i A c=>by cases i with|zero=>exact c|succ i=>simp at c)
 refine⟨_,rfl,be (fun e=>⟨⟨none,0,0⟩,rfl,B (by rw[e];rfl)⟩) fun s=>?_⟩;refine(td id m).mono ?_;rintro v h3 ⟨rfl,rfl⟩;refine⟨_,rfl,be (fun e=>⟨⟨none,0,0⟩,rfl,B (by rw[e];simp)⟩) fun hid=>?_⟩;rw[s,hid];have N:=(bC p).1 s;have Y:bn p=p.1+p.2.1:=by rw[bn,if_pos s]
 obtain⟨n,w⟩:∃n:Nat,bn p=n:=⟨(bn p).toNat,by omega⟩
 rw[w,qp];refine J.boxed (t:=281) fun d W D=>?_;refine(GN d _ W (D.box 1 rfl)).mono ?_;rintro v S ⟨rfl,o,j⟩;have H:=D.nW 1 rfl j o;refine⟨_,rfl,p,(H.box 0 rfl).aF _ rfl,(xK p S).mono ?_⟩;rintro v O ⟨rfl,Q⟩;have z:=H.comp Q;refine⟨_,rfl,?_⟩;dsimp only;rw[w];refine(OS n O (by omega) (by omega)).mono ?_;rintro v V ⟨t,rfl,k⟩;have y:=z.comp k;refine⟨t,rfl,?_⟩;have u:∀b,t.on b->b≠d.block:=fun b f X=>by
  have G:=(k.fresh 0 rfl).2 b f;have m:=(z.box 1 rfl).lt;omega
 refine(Sg t n d _ V ((k.own 0 rfl).seq (fun _=>rfl) u) (y.box 1 rfl) (by omega) (by omega)).mono ?_;rintro v h8 ⟨rfl,l,g⟩;have E:=y.nW 1 rfl g l;refine⟨_,rfl,p,(E.box 0 rfl).aF _ rfl,(xK p h8).mono ?_⟩;rintro v U ⟨rfl,L⟩;have I:=E.comp L;refine⟨_,rfl,?_⟩;dsimp only;rw[w];refine(Su d _ n _ U (I.box 1 rfl) (by omega) (pZ _ n)).mono ?_;rintro v K ⟨r,rfl,x⟩;have R:=I.call 1 rfl (fun b=>b=d.block) (fun q M b f=>by rw[f];exact M.2) x;exact⟨r,rfl,r,rfl,(R.take 3 (fun i A c=>by cases i with|zero=>exact c|succ i=>simp at c))⟩
theorem Ud(p:Pm)(seed id:Int)(h:Heap):ab xv 69 #[ir p,xk xt seed,xk xq id] h fun v h'=>∃r:Sl,v=r/\
  Sp h h' [an 5 r 1 az (if bA p&&bp id then kL (bn p).toNat seed id else[])]:=by
 refine xP p seed id ?_;unfold ot;refine(Sp.refl h).boxed fun a O z=>?_;refine aT ?_;refine⟨p,(z.box 0 rfl).aF _ rfl,(nz p O).mono ?_⟩;rintro v D ⟨rfl,M⟩;have t:=z.comp M;have u:(bA p&&bp id)=false->Sp h D [an 5 ⟨none,0,0⟩ 1 az (if bA p&&bp id then kL (bn p).toNat seed id else[])]:=fun P=>by
  rw[P];exact(t.nil 5 1 az).take 1 (fun i A g=>by cases i with|zero=>exact g|succ i=>simp at g)
 refine⟨_,rfl,be (fun e=>⟨⟨none,0,0⟩,rfl,u (by rw[e];rfl)⟩) fun l=>?_⟩;refine(td id D).mono ?_;rintro v h3 ⟨rfl,rfl⟩;refine⟨_,rfl,be (fun e=>⟨⟨none,0,0⟩,rfl,u (by rw[e];simp)⟩) fun hid=>?_⟩;refine⟨p,(t.box 0 rfl).aF _ rfl,(xK p _).mono ?_⟩;rintro v H ⟨rfl,Q⟩;have N:=t.comp Q;have K:=(bC p).1 l;have T:bn p=p.1+p.2.1:=by rw[bn,if_pos l]
 obtain⟨n,F⟩:∃n:Nat,bn p=n:=⟨(bn p).toNat,by omega⟩
 refine⟨_,rfl,?_⟩;dsimp only;rw[F];refine N.make ac az fi (by decide) 0 rfl rfl n n rfl rfl (ql _) (by omega) fun v H S R y=>?_;refine⟨p,(y.box 0 rfl).aF _ rfl,(Xj p seed id H).mono ?_⟩;rintro w U ⟨c,rfl,o⟩;rw[l,hid,F,qp]at o;rw[l,hid,qp];have q:=y.comp o;have j:=q.seq 2 rfl (fun _=>rfl);have s:=j.len;obtain⟨b,d⟩:∃b,b=cA n seed id:=⟨_,rfl⟩
 have m:∀x∈b,0<=x/\x<(n:Int):=fun x B=>kB (by omega) (by omega) (by rw[<-d];exact B);have G:b.length<=n:=by rw[d];exact rN (by omega) (by omega) _ _
 simp only[Bool.and_self,if_true,<-d]at q j s o;refine⟨c,rfl,?_⟩;refine au (fun i:Nat=>(i:Int)) (fun i h'=>i<=b.length/\Sp h h' [ar a 25 [xk xq p.1,xk xq p.2.1,xk xq p.2.2],an 5 v 1 az (dL n (b.take i)),an 3 c 1 aC b]) (fun i=>b.length-i) 0 rfl ⟨by omega,q⟩ ?_;rintro i L ⟨g,k⟩;refine ai (fun e=>?_) (fun e=>?_)
 ·have f:i<b.length:=by omega
  have B:=m _ (qh f);refine(k.seq 2 rfl (fun _=>rfl)).bt i rfl f _ rfl ?_;refine k.set ac 1 rfl (fun _=>rfl) rfl b[i].toNat (by omega) (by rw[nO];omega) 1 rfl rfl rfl fun V I=>?_;refine⟨i+1,by rw[aj _];rfl,⟨by omega,?_⟩,by omega⟩;have J:dL n (b.take (i+1))=(dL n (b.take i)).set b[i].toNat 1:=by rw[aH _ _ f,dL,List.foldl_append];rfl
  rw[J];exact I
 ·rw[qi (by omega)]at k;have E:Sp h L [an 5 v 1 az (dL n b)]:=(k.del 2).take 1 (fun i A g=>by cases i with|zero=>exact g|succ i=>simp at g);refine⟨v,rfl,?_⟩;rw[d]at E;exact E
theorem OT(p:Pm)(h:Heap)(z:bA p=true):ab xv 67 #[ir p] h fun v h'=>∃r:Sl,v=r/\Sp h h' [dJ 23 r 1 az (bc p.1.toNat p.2.1.toNat)]:=by
 refine tU p ?_;unfold mO;refine(Sp.refl h).boxed fun a Z O=>?_;have J:=(bC p).1 z;obtain⟨K,U⟩:∃K:Nat,p.1=K:=⟨p.1.toNat,by omega⟩
 obtain⟨b,I⟩:∃H:Nat,p.2.1=H:=⟨p.2.1.toNat,by omega⟩
 refine aT ?_;refine au (fun t:Sl×Nat=>(t.1,(t.2:Int))) (fun t h'=>t.2<=b/\Sp h h' [ar a 25 [xk xq p.1,xk xq p.2.1,xk xq p.2.2],dJ 23 t.1 1 az ((bc K b).take t.2)]) (fun t=>b-t.2) (⟨none,0,0⟩,0) rfl ⟨by simp,O.CB 23 1 az⟩ ?_;rintro⟨s,k⟩ W ⟨hk,c⟩;dsimp only at*;refine aT ⟨p.2.1,(c.box 0 rfl).cell rfl,?_⟩;refine ai (fun e=>?_) (fun e=>?_)
 ·have P:k<b:=by omega
  refine⟨p,(c.box 0 rfl).aF _ rfl,(nz p W).mono ?_⟩;rintro v S ⟨rfl,F⟩;have q:Sp h S [ar a 25 [xk xq p.1,xk xq p.2.1,xk xq p.2.2],dJ 23 s 1 az ((bc K b).take k)]:=c.up F.ag;refine⟨_,rfl,Iu z ?_⟩;refine⟨p.1,(q.box 0 rfl).cell0 rfl,p.2.1,(q.box 0 rfl).cell rfl,?_⟩;rw[aj (p.1+p.2.1)];refine q.make ac az fi (by decide) 0 rfl rfl (K+b) (K+b) (by omega) (by omega) (ql _) (by omega) fun u Y D R B=>?_;let rowAt:Nat->aU:=fun j=>(qy j).map (fun i=>Gf.pw ((k+1)*(i+1)%255))++List.replicate (K+b-j) (0:UInt8);refine au (fun j:Nat=>(j:Int)) (fun j h'=>j<=K/\Sp h h' [ar a 25 [xk xq p.1,xk xq p.2.1,xk xq p.2.2],dJ 23 s 1 az ((bc K b).take k),an 5 u 1 az (rowAt j)]) (fun j=>K-j) 0 rfl ⟨by omega,B⟩ ?_;rintro j V ⟨X,g⟩;refine⟨p.1,(g.box 0 rfl).cell0 rfl,?_⟩;have y:(rowAt j).length=K+b:=by simp[rowAt];omega
  refine ai (fun N=>?_) (fun N=>?_)
  ·have f:j<K:=by omega
   have hm:(k+1)*(j+1)<=4*16:=zJ (by omega) (by omega);have G:qc xq (qc xq ((k:Int)+1)*qc xq ((j:Int)+1))=(((k+1)*(j+1):Nat):Int):=by
    rw[aj ((k:Int)+1),aj ((j:Int)+1),show((k:Int)+1)*((j:Int)+1)=(((k+1)*(j+1):Nat):Int)by rw[zW];rfl];exact kJ _
   rw[G];refine(Ua _ V).mono ?_;rintro v h8 ⟨rfl,rfl⟩;refine⟨_,rfl,?_⟩;refine g.set ac 2 rfl (fun _=>rfl) rfl j rfl (by omega) _ rfl rfl rfl fun h9 w=>?_;refine⟨j+1,by rw[aj _];rfl,⟨by omega,?_⟩,by omega⟩;have o:(rowAt j).set j (Gf.pw ((((k+1)*(j+1):Nat):Int)%255).toNat)=rowAt (j+1):=by
    have L:((((k+1)*(j+1):Nat):Int)%255).toNat=(k+1)*(j+1)%255:=by omega
    rw[L];simp only[rowAt];rw[q7 _ _ (by simp),qD,zy,zd,show K+b-j=K+b-(j+1)+1 by omega,List.replicate_succ,List.set_cons_zero,zt,qW,List.append_assoc];rfl
   rw[<-o];exact w
  ·have f:j=K:=by omega
   subst f;refine⟨p.1,(g.box 0 rfl).cell0 rfl,?_⟩;rw[aj (p.1+k)];refine g.set ac 2 rfl (fun _=>rfl) rfl (j+k) (by omega) (by omega) 1 rfl rfl rfl fun h8 x=>?_;have o:(rowAt j).set (j+k) 1=fj j b k:=by
    simp only[rowAt,fj];rw[q7 _ _ (by simp)];congr 1;apply zx;intro i;rw[qD,zy,qV,List.getElem?_map,List.length_replicate,List.getElem?_replicate];by_cases m:i<b
    ·rw[List.getElem?_range m,Option.map_some];by_cases d:i=k
     ·subst d;rw[if_pos (by omega),if_pos (by omega)];simp
     ·rw[if_neg (by omega),if_pos (by omega),if_neg d]
    ·rw[List.getElem?_eq_none (l:=qy b) (by simp;omega),if_neg (by omega),if_neg (by omega)];rfl
   rw[o]at x;have w:=x.freeze 2 rfl (fun _=>rfl);have Q:((bc j b).take k).length=k:=by simp[bc];omega
   refine w.nX ac 1 2 (by decide) rfl rfl fa (by omega) fun T E n=>?_;refine⟨(T,k+1),by dsimp only;rw[aj _];rfl,⟨by dsimp only;omega,?_⟩,by dsimp only;omega⟩;have M:(bc j b).take (k+1)=(bc j b).take k++[fj j b k]:=by
    rw[aH _ _ (by simp[bc];omega)];simp[bc]
   dsimp only;rw[M];exact n.del 2
 ·refine⟨s,rfl,?_⟩;rw[U,I,qp,qp];rw[qi (by simp[bc];omega)]at c;exact c.take 1 (fun i A m=>by cases i with|zero=>exact m|succ i=>simp at m)
theorem MD(p:Pm)(seed:Int)(ids:Sl)(l:aB)(h:Heap)(q:Rd h ids 1 aC l)(J:l.length<=2^30):ab xv 33 #[ir p,xk xt seed,ids] h fun v h'=>∃r:Sl,v=r/\Sp h h' [dJ 23 r 1 az (cG p seed l)]:=by
 refine sQ p seed ids ?_;unfold lW;refine(Sp.refl h).boxed fun a E u=>?_;refine⟨p,(u.box 0 rfl).aF _ rfl,(nz p E).mono ?_⟩;rintro v z ⟨rfl,D⟩;have o:Sp h z [ar a 25 [xk xq p.1,xk xq p.2.1,xk xq p.2.2]]:=u.up D.ag;refine⟨_,rfl,be (fun e=>⟨⟨none,0,0⟩,rfl,?_⟩) fun j=>?_⟩
 ·rw[cG,e];exact(o.CB 23 1 az).take 1 (fun i A f=>by cases i with|zero=>exact f|succ i=>simp at f)
 refine⟨p,(o.box 0 rfl).aF _ rfl,(OT p z j).mono ?_⟩;rintro v h3 ⟨r,rfl,H⟩;have b:=o.comp H;refine⟨r,rfl,?_⟩;have y:=q.len;let at_:Nat->cv:=fun k=>cG p seed (l.take k);have h0:bc p.1.toNat p.2.1.toNat=at_ 0:=by simp[at_,cG,j]
 rw[h0]at b;refine au (fun t:Sl×Nat=>(t.1,(t.2:Int))) (fun t h'=>t.2<=l.length/\Sp h h' [ar a 25 [xk xq p.1,xk xq p.2.1,xk xq p.2.2],dJ 23 t.1 1 az (at_ t.2)]) (fun t=>l.length-t.2) (r,0) rfl ⟨by simp,b⟩ ?_;rintro⟨s,k⟩ h3 ⟨K,b⟩;dsimp only at*;refine ai (fun e=>?_) (fun e=>?_)
 ·have c:k<l.length:=by omega
  refine(Seq.up q b.ag).bt k rfl c _ rfl ((td l[k] h3).mono ?_);rintro v L ⟨rfl,rfl⟩;refine⟨_,rfl,?_⟩;have n:=ID p seed (l.take k);rw[qM]at n;have m:(at_ k).length+1<=2^32:=by show(cG p seed (l.take k)).length+1<=2^32;omega
  refine bF (fun g=>?_) (fun g=>?_)
  ·refine⟨p,(b.box 0 rfl).aF _ rfl,(Ud p seed l[k] _).mono ?_⟩;rintro v G ⟨w,rfl,x⟩;rw[j,show bp l[k]=true from g]at x;have B:=(b.comp x).freeze 2 rfl (fun _=>rfl);refine⟨w,rfl,?_⟩;refine B.nX ac 1 2 (by decide) rfl rfl fa m fun I G F=>?_;refine⟨(I,k+1),by dsimp only;rw[aj _];rfl,⟨by dsimp only;omega,?_⟩,by dsimp only;omega⟩;have d:at_ (k+1)=at_ k++[kL (bn p).toNat seed l[k]]:=by
    simp only[at_];rw[aH _ _ c,Fi,j,show bp l[k]=true from g];rfl
   dsimp only;rw[d];exact F.del 2
  ·refine⟨(s,k+1),by dsimp only;rw[aj _];rfl,⟨by dsimp only;omega,?_⟩,by dsimp only;omega⟩;have d:at_ (k+1)=at_ k:=by
    simp only[at_];rw[aH _ _ c,Fi,show bp l[k]=false from g,Bool.and_false];rfl
   dsimp only;rw[d];exact b
 ·refine⟨s,rfl,?_⟩;have d:at_ k=cG p seed l:=by simp only[at_];rw[qi (by omega)]
  rw[d]at b;exact b.take 1 (fun i A f=>by cases i with|zero=>exact f|succ i=>simp at f)
theorem ME(a:Sl)(m:aQ)(n:Nat)(h:Heap)(c:fo h a 1 az m)(g:aY n m)(s:n<=64)(q:m.length<=2^30):ab xv 133 #[a] h fun v h'=>v=xo true/\h'=h:=by
 refine sT a ?_;unfold lZ;have o:=c.len;refine au (fun k:Nat=>(k:Int)) (fun k h'=>h'=h/\k<=m.length) (fun k=>m.length-k) 0 rfl ⟨rfl,by omega⟩ ?_;rintro k h' ⟨rfl,u⟩;refine ai (fun e=>?_) (fun e=>⟨rfl,rfl⟩);have b:k<m.length:=by omega
 refine c.get k rfl b fun r l=>?_;refine c.get 0 rfl (by omega) fun t f=>?_;have i:=l.len;have j:=f.len;rw[g _ (qh _)]at i j;refine bV (fun e=>by omega) fun _=>?_;refine c.get k rfl b fun p d=>?_;have h3:=d.len;rw[g _ (qh _)]at h3;refine ai (fun e=>by omega) fun _=>?_;exact⟨k+1,by rw[aj _];rfl,⟨rfl,by omega⟩,by omega⟩
theorem find_range_succ(P:Nat->Bool)(i:Nat):(qy (i+1)).find? P=((qy i).find? P).or (if P i then some i else none):=by
 rw[zt,List.find?_append];congr 1;by_cases h:P i<;>simp[h]
def Sv:Option Nat->Int
 |some i=>i
 |none=>-1
theorem Xk(m:aQ)(i j:Nat):fM m i j=fM m j i:=by
 by_cases h:i=j
 ·rw[h]
 ·rw[fM,fM,List.set_comm _ _ (fun a=>h a.symm)]
theorem Xl{a t:Row}(h:a.length=t.length):ck 0 a t=t:=by
 apply List.ext_getElem (by rw[bK h]);intro i c b;simp[ck,Gf.zero_mul]
theorem MF(a:Sl)(m:aQ)(n:Nat)(h:Heap)(ha:fo h a 1 az m)(hm:aY n m)(hn:n<=64)(hs:m.length<=2^30):
  ab xv 65 #[a] h fun v h'=>∃r:Sl,v=r/\r.len=bT m/\Sp h h' []:=by
 refine sS a ?_;unfold lY;refine(ME a m n h ha hm hn hs).mono ?_;rintro v p ⟨rfl,rfl⟩;refine⟨_,rfl,be (fun e=>by cases e) fun _=>?_⟩;have hl:=ha.len;refine au (fun t:Sl×List Sl=>(t.1,(t.2.length:Int))) (fun t h'=>t.2.length<=m.length/\Sp p h' (an 23 t.1 1 bD t.2::bz 5 1 az t.2 (m.take t.2.length))) (fun t=>m.length-t.2.length) (⟨none,0,0⟩,[]) rfl ⟨by simp,by simpa[bz]using(Sp.refl p).nil 23 1 bD⟩ ?_;rintro⟨s,rs⟩ h2 ⟨hk,H2⟩;dsimp only at*;refine ai (fun e=>?_) (fun e=>?_)
 ·have D:rs.length<m.length:=by omega
  refine(ha.up H2.ag).get rs.length rfl D fun r hr=>?_;have c2:m[rs.length].length=n:=hm _ (qh _);have bk:(bz 5 1 az rs (m.take rs.length)).length=rs.length:=by rw[rx (by rw[qM];omega),qM];omega
  have Hn:aa (fun b=>b<p.size) p h2 ((an 23 s 1 bD rs::bz 5 1 az rs (m.take rs.length))++[an 5 ⟨none,0,0⟩ 1 az []]):=H2.nil 5 1 az;have ay:((an 23 s 1 bD rs::bz 5 1 az rs (m.take rs.length))++[an 5 ⟨none,0,0⟩ 1 az ([]:aU)])[rs.length+1]?=some (an 5 ⟨none,0,0⟩ 1 az []):=by
   rw[qj (by simp;omega),zi,bk,zd];rfl
  refine Hn.append ac (rs.length+1) ay fi ⟨_,_,rfl,rfl⟩ rfl (by decide) (fun _=>rfl) hr fT (by simp;omega) fun w h3 L=>?_;have cs:Sp p h3 ((an 23 s 1 bD rs::bz 5 1 az rs (m.take rs.length))++[an 5 w 1 az m[rs.length]]):=by
   rw[q7 _ _ (by simp;omega),zi,bk,zd]at L;exact L
  refine cs.push ac 0 rfl fa rfl (by decide) (fun _=>rfl) kY w rfl (by decide) (by omega) fun s' h4 H4=>?_;refine⟨(s',rs++[w]),by dsimp only;rw[aj _];simp,⟨by simp;omega,?_⟩,by simp;omega⟩;dsimp only;rw[show(rs++[w]).length=rs.length+1 by simp,aH _ _ D,oN (by rw[qM];omega)];exact H4
 ·have S:m.take rs.length=m:=qi (by omega);rw[S]at H2;have b3:rs.length=m.length:=by omega
  have bb:s.len=m.length:=by rw[(H2.own 0 rfl).len,b3]
  have da:=(H2.own 0 rfl).cap;have b2:m≠[]->dn m=n:=fun a0=>by
   have:0<m.length:=List.length_pos_iff.2 a0;rw[dn,bj this];exact hm _ (qh _)
  refine bO (fun(d:Int) h'=>d=(bT m:Int)/\Sp p h' []) ?_ ?_
  ·refine au (fun t:List Sl×Nat=>(((bu m t.2).1:Int),(t.2:Int))) (fun t h'=>t.2<=dn m/\t.1.length=m.length/\Sp p h' (jU s t.1 (bu m t.2).2)) (fun t=>dn m-t.2) (rs,0) rfl ⟨by simp,b3,H2⟩ ?_;rintro⟨l,ba⟩ h3 ⟨R,cf,L⟩;dsimp only at*;have I:=fK hm ba;have z:=oR m ba;have fin:¬(0<m.length/\ba<dn m)->((bu m ba).1:Int)=(bT m:Int)/\Sp p h3 []:=fun hh=>by
    refine⟨?_,.zip L.ag⟩;by_cases h0:0<m.length
    ·have:ba=dn m:=by omega
     rw[this];rfl
    ·have:m=[]:=List.eq_nil_of_length_eq_zero (by omega);subst this;rw[bT,iD,iD]
   obtain⟨st,b7⟩:∃st,st=bu m ba:=⟨_,rfl⟩
   rw[<-b7]at I z L fin⊢;obtain⟨c,g⟩:=st;dsimp only at I z L fin⊢;have B:l.length=g.length:=by omega
   have o:bu m (ba+1)=fY (c,g) ba:=by rw[bu,<-b7]
   refine aT ?_;refine ai (fun e0=>?_) (fun e0=>fin (by omega));have a0:m≠[]:=fun hh=>by rw[hh]at bb;simp at bb;omega
   have hw:=b2 a0;refine(L.JA B (fun _=>rfl)).get 0 rfl (by omega) fun r0 cq=>?_;have b1:=cq.len;rw[I.1 _ (qh _)]at b1;refine ai (fun e1=>?_) (fun e1=>fin (by omega));have dy:ba<n:=by omega
   have a8:fo h3 s 1 az g:=L.JA B (fun _=>rfl);let P:Nat->Bool:=fun i=>decide (c<=i)&&(aE (av g i) ba !=0);have cn:(qy c).find? P=none:=JH fun j hj=>by show(decide (c<=j)&&_)=false;rw[decide_eq_false (by omega)];rfl
   refine au (fun i:Nat=>(Sv ((qy i).find? P),(i:Int))) (fun i h'=>h'=h3/\c<=i/\i<=g.length) (fun i=>g.length-i) c (by rw[cn];rfl) ⟨rfl,ql _,z⟩ ?_;rintro i h4 ⟨rfl,cr,dl⟩;dsimp only;refine ai (fun S=>?_) (fun S=>?_)
   ·have br:i<g.length:=by omega
    have c2:g[i].length=n:=I.1 _ (qh _);refine a8.get i rfl br fun r hr=>?_;refine hr.bt ba rfl (by omega) _ rfl ?_;have M:aE (av g i) ba=g[i][ba]'(by omega):=by rw[bj br,Cf]
    rw[aj ((i:Int)+1)];have Q:=find_range_succ P i;have nx:∀x:Int,x=Sv ((qy (i+1)).find? P)->∃G:Nat,(x,(i:Int)+1)=(Sv ((qy G).find? P),(G:Int))/\(h4=h4/\c<=G/\G<=g.length)/\g.length-G<g.length-i:=fun x hx=>
     ⟨i+1,by rw[hx];rfl,⟨rfl,by omega,by omega⟩,by omega⟩
    refine bV (fun e3=>?_) (fun e3=>?_)
    ·have a2:P i=true:=by
      show(decide (c<=i)&&(aE (av g i) ba !=0))=true;rw[decide_eq_true cr,M];simp;exact fun h0=>e3 (by rw[h0];rfl)
     rw[a2,if_pos rfl]at Q;refine ai (fun Z=>nx _ ?_) (fun Z=>nx _ ?_)
     ·cases hf:(qy i).find? P with
      |none=>rw[Q,hf];rfl
      |some x=>rw[hf]at Z;simp only[Sv]at Z;omega
     ·cases hf:(qy i).find? P with
      |none=>rw[hf]at Z;simp[Sv]at Z
      |some x=>rw[Q,hf];rfl
    ·have a2:P i=false:=by
      show(decide (c<=i)&&(aE (av g i) ba !=0))=false;rw[M,xw.1 e3];simp
     rw[a2]at Q;refine nx _ ?_;rw[Q]
     cases(qy i).find? P<;>rfl
   ·have cc:i=g.length:=by omega
    subst cc;have b4:(qy g.length).find? P=gq g c ba:=rfl;rw[b4];cases hb:gq g c ba with
    |none=>
     refine ai (fun _=>?_) (fun S=>absurd (by decide) S);refine⟨(l,ba+1),?_,⟨by dsimp only;omega,cf,?_⟩,by dsimp only;omega⟩
     ·dsimp only;rw[o,fY,hb,aj _];rfl
     ·dsimp only;rw[o,fY,hb];exact L
    |some at_=>
     have hh:=mZ hb;refine ai (fun S=>absurd (show((at_:Nat):Int)<0 from S) (by omega)) (fun _=>?_);have a5:c<g.length:=by omega
     have hi:=hh.2.1;have b6:=L.seq 0 rfl (fun _=>rfl);refine aT ?_;refine b6.jN c rfl (by omega) fun _ _ _=>?_;refine b6.jN at_ rfl (by omega) fun _ _ _=>?_;refine L.set ac 0 rfl (fun _=>rfl) rfl at_ rfl (by omega) (l[c]'(by omega)) rfl rfl rfl fun h5 H5=>⟨trivial,?_⟩
     refine H5.set ac 0 rfl (fun _=>rfl) rfl c rfl (by simp;omega) (l[at_]'(by omega)) rfl rfl rfl fun h6 H6=>⟨trivial,?_⟩
     have N:Sp p h6 (jU s ((l.set at_ (l[c]'(by omega))).set c (l[at_]'(by omega))) (fM g c at_)):=by
      have:=H6.Va (at_+1) (c+1) (A:=an 5 (l[at_]'(by omega)) 1 az g[at_]) (A2:=an 5 (l[c]'(by omega)) 1 az g[c]) (gU B at_ hi) (gU B c a5);show aa _ p h6 (an 23 s 1 bD _::bz 5 1 az _ _);rw[Xk,<-Gp B at_ c hi a5];exact this
     obtain⟨q,am⟩:∃q,q=(l.set at_ (l[c]'(by omega))).set c (l[at_]'(by omega)):=⟨_,rfl⟩
     rw[<-am]at N;have dk:q.length=g.length:=by rw[am];simp;omega
     obtain⟨y,X⟩:∃y,y=fM g c at_:=⟨_,rfl⟩
     have ah:aY n y:=by rw[X];exact Af I.1 a5 hi
     have c9:y.length=g.length:=by rw[X];exact jz _ _ _
     rw[<-X]at N;have J:q.length=y.length:=by omega
     have u:c<y.length:=by omega
     refine aT ?_;have gt:=ky (a:=s) J c u;have lt:y[c].length=n:=ah _ (qh _);have a7:=N.seq 0 rfl (fun _=>rfl);refine a7.jN c rfl (by omega) fun dx ax _=>?_;have ap:=N.seq (c+1) gt (fun _=>rfl);refine ap.bt ba rfl (by omega) _ rfl ?_;refine a7.jN c rfl (by omega) fun dr bq _=>?_;refine(Ub _ h6).mono ?_;rintro v h7 ⟨rfl,rfl⟩;refine⟨_,rfl,⟨bq,ax,trivial⟩,?_⟩;refine(OR _ _ _ h7 ap (by omega)).mono ?_;rintro v h8 ⟨r,rfl,R8⟩;refine⟨r,rfl,⟨mH ax R8.ag,trivial⟩,?_⟩;have H8:=N.comp R8;dsimp only;refine H8.set ac 0 rfl (fun _=>rfl) rfl c rfl (by omega) r rfl rfl rfl fun h9 H9=>⟨trivial,?_⟩
     have a3:y[c]=av y c:=(bj u).symm;have c4:(y[c])[ba]'(by omega)=aE (av y c) ba:=by rw[Cf (by rw[bj u];omega)];simp only[bj u]
     have a6:Sp p h9 (jU s (q.set c r) (il c ba y)):=by
      have h8:Sp p h9 ((an 23 s 1 bD (q.set c r)::bz 5 1 az q y)++[an 5 r 1 az (scaleB (Gf.inv ((y[c])[ba]'(by omega))) y[c])]):=H9;have h9:=h8.PD (c+1) (by simp[rx J];omega);rw[c4,a3]at h9;show aa _ p _ (an 23 s 1 bD _::bz 5 1 az _ (y.set c _));rw[<-iN J];exact h9
     obtain⟨T,ad⟩:∃T,T=q.set c r:=⟨_,rfl⟩
     obtain⟨f,Y⟩:∃f,f=il c ba y:=⟨_,rfl⟩
     rw[<-ad,<-Y]at a6;have dd:T.length=g.length:=by rw[ad];simp;omega
     have b5:f.length=g.length:=by rw[Y,lP];omega
     have K:aY n f:=by rw[Y];exact rP ah u
     have O:c<f.length:=by omega
     have H:fY (c,g) ba=(c+1,cI c ba f g.length):=by
      rw[fY];dsimp only;rw[hb,Y,X]
     refine au (fun t:Nat×List Sl=>(t.1:Int)) (fun t h'=>t.1<=f.length/\t.2.length=f.length/\Sp p h' (jU s t.2 (cI c ba f t.1))) (fun t=>f.length-t.1) (0,T) rfl ⟨by simp,by dsimp only;omega,by rw[MY];exact a6⟩ ?_;rintro⟨k,F⟩ bs ⟨ds,bl,E⟩;dsimp only at*;have c0:=lQ c ba f k;have U:F.length=(cI c ba f k).length:=by rw[c0];exact bl
     refine ai (fun e=>?_) (fun e=>?_)
     ·have D:k<f.length:=by omega
      have b0:av (cI c ba f k) k=av f k:=by rw[lR D,if_neg (by omega)]
      have Z:(cI c ba f k)[k]'(by omega)=av f k:=by rw[<-b0,bj]
      have gk:=ky (a:=s) U k (by omega);rw[Z]at gk;have lk:=bP K D;rw[aj ((k:Int)+1)];have skip:cI c ba f (k+1)=cI c ba f k->∃G:Nat×List Sl,(k:Int)+1=(G.1:Int)/\(G.1<=f.length/\G.2.length=f.length/\Sp p bs (jU s G.2 (cI c ba f G.1)))/\f.length-G.1<f.length-k:=fun c3=>
       ⟨(k+1,F),rfl,⟨by dsimp only;omega,bl,by dsimp only;rw[c3];exact E⟩,by dsimp only;omega⟩
      refine aT ?_;have V:=E.seq 0 rfl (fun _=>rfl);have a4:=E.seq (k+1) gk (fun _=>rfl);have R:(av f k)[ba]'(by omega)=aE (av f k) ba:=(Cf).symm;refine bV (fun S=>?_) (fun S=>AL rfl (skip ?_))
      ·have W:k≠c:=fun hh=>S (by rw[hh]);refine V.jN k rfl (by omega) fun _ _ _=>?_;refine a4.bt ba rfl (by omega) _ rfl ?_;refine bV (fun e3=>?_) (fun e3=>skip ?_)
       ·have a3:av (cI c ba f k) c=av f c:=by rw[lR O,if_neg (by omega)]
        have e5:(cI c ba f k)[c]'(by omega)=av f c:=by rw[<-a3,bj]
        have gt:=ky (a:=s) U c (by omega);rw[e5]at gt;have lt:=bP K O;refine V.jN k rfl (by omega) fun a1 b9 _=>?_;refine a4.bt ba rfl (by omega) _ rfl ?_;refine V.jN c rfl (by omega) fun _ _ _=>?_;refine V.jN k rfl (by omega) fun _ _ _=>?_;refine(GM _ _ _ (av f c) (av f k) bs (E.seq (c+1) gt (fun _=>rfl)) a4 (by omega) (by omega)).mono ?_;rintro v du ⟨w,rfl,a9⟩;refine⟨w,rfl,⟨mH b9 a9.ag,trivial⟩,?_⟩;have c6:=E.comp a9
        skip
        refine c6.set ac 0 rfl (fun _=>rfl) rfl k rfl (by omega) w rfl rfl rfl fun c8 cp=>⟨trivial,?_⟩
        refine⟨(k+1,F.set k w),rfl,⟨by dsimp only;omega,by simp;omega,?_⟩,by dsimp only;omega⟩;dsimp only;rw[EZ D W];have c7:Sp p c8 ((an 23 s 1 bD (F.set k w)::bz 5 1 az F (cI c ba f k))++[an 5 w 1 az (ck ((av f k)[ba]'(by omega)) (av f c) (av f k))]):=cp;have bd:=c7.PD (k+1) (by simp[rx U];omega);rw[R]at bd;show aa _ p _ (an 23 s 1 bD _::bz 5 1 az _ ((cI c ba f k).set k _));rw[<-iN U];exact bd
       ·have hz:aE (av f k) ba=0:=by rw[<-R];exact xw.1 e3
        rw[EZ D W,hz,Xl (by rw[bP K O,lk])];apply zx;intro j;rw[qV];split
        ·rename_i c1;subst c1;rw[if_pos (by omega),qd (by omega),Z]
        ·rfl
      ·have W:k=c:=by omega
       subst W;exact MZ
     ·have cd:k=f.length:=by omega
      subst cd;refine⟨(F,ba+1),?_,⟨by dsimp only;omega,by dsimp only;omega,?_⟩,by dsimp only;omega⟩
      ·dsimp only;rw[o,H,aj _,aj _];rfl
      ·dsimp only;rw[o,H,<-b5];exact E
  ·rintro d h3 ⟨rfl,R3⟩;have z:=oR m (dn m);rw[(fK hm _).2]at z;have b0:bT m=(bu m (dn m)).1:=rfl;exact⟨⟨by omega,by omega⟩,⟨s.ptr,bT m,s.cap⟩,by simp,rfl,R3⟩
theorem Sw(a:Sl)(m:aQ)(n:Nat)(h:Heap)(e:fo h a 1 az m)(f:aY n m)(b:n<=64)(c:m.length<=2^30):
  ab xv 32 #[a] h fun v h'=>v=xk xq (bT m)/\Sp h h' []:=by
 refine uR a ?_;unfold nj;refine(MF a m n h e f b c).mono ?_;rintro v i ⟨r,rfl,d,g⟩;exact⟨r,rfl,by rw[d],g⟩
theorem MG(p:Pm)(seed:Int)(ids:Sl)(l:aB)(h:Heap)(e:Rd h ids 1 aC l)(n:l.length<=2^29):ab xv 15 #[ir p,xk xt seed,ids] h fun v h'=>v=xk xq (io p seed l)/\Sp h h' []:=by
 refine sP p seed ids ?_;unfold lV;refine(Sp.refl h).boxed fun a i b=>?_;refine⟨p,(b.box 0 rfl).aF _ rfl,(MD p seed ids l i (Seq.up e b.ag) (by omega)).mono ?_⟩;rintro v j ⟨r,rfl,g⟩;have d:=b.comp g;have f:=ID p seed l;have c:(bn p).toNat<=64:=by
  unfold bn;split
  ·rename_i k;have:=(bC p).1 k;omega
  ·omega
 refine⟨r,rfl,(Sw r _ _ j (d.DJ 1 rfl) (iQ p seed l) c (by omega)).mono ?_⟩;rintro v h3 ⟨rfl,m⟩;exact⟨_,rfl,rfl,.zip (d.comp m).ag⟩
end Go.Qw
namespace Wl
def fL(F n:Nat):aB:=(qy n).map fun i:Nat=>((F+i:Nat):Int)
theorem GP(F n:Nat):fL F (n+1)=fL F n++[((F+n:Nat):Int)]:=by unfold fL;rw[zt,qW];rfl
theorem Jp(F n:Nat):(fL F n).length=n:=by unfold fL;simp
theorem Sx{F n:Nat}(h:F+n<=60100):∀i∈fL F n,bp i=true:=fun i b=>by
 obtain⟨k,a,rfl⟩:=List.mem_map.1 b;have:=List.mem_range.1 a;unfold bp;simp;omega
def gZ(p:Int×Int×Int)(s:Int)(F n:Nat):Int:=bn p-(io p s (fL F n):Int)
theorem Xm{p:Int×Int×Int}(s:Int)(F:Nat)(a:bA p=true):gZ p s F 0=p.1:=by
 unfold gZ;rw[show fL F 0=[]from rfl,XP s a,lT a];omega
theorem Xn(p:Int×Int×Int)(s:Int)(F n:Nat):gZ p s F (n+1)<=gZ p s F n/\gZ p s F n<=gZ p s F (n+1)+1:=by
 unfold gZ;rw[GP];have:=Vu p s (fL F n) ((F+n:Nat):Int);omega
theorem Lp{p:Int×Int×Int}(s:Int)(F n:Nat)(a:bA p=true):dQ p s (fL F n)=decide (gZ p s F n<=0):=by
 have h:=CM p s (fL F n);unfold dQ gZ;rw[a,Bool.true_and];by_cases e:(io p s (fL F n):Int)=bn p
 ·rw[e,beq_self_eq_true,Int.sub_self];rfl
 ·rw[beq_eq_false_iff_ne.2 e,decide_eq_false (by omega)]
end Wl
namespace Go.Qw
open Go Go.Vc Go.Proofs Wl
theorem OU(h:Heap):ab xv 9 #[] h fun v h'=>v=xo true/\aR (fun b=>b<h.size) h h':=by
 refine xL ?_;unfold oh;refine(Sp.refl h).lit ac aC lE rfl [20,20] rfl (show 2*1<=2^20 by decide) rfl fun i B w=>?_;refine(Si (1,1,4) 2 i [20,20] (As:=[an 3 i 1 aC [20,20]]) (St.kK 0 rfl fun h' g=>g.1.seq (fun _=>rfl) g.2) (by decide) (by decide+kernel) w).mono ?_;rintro _ E ⟨b,a,pw,da,D,rfl,n,x,z⟩;obtain⟨p,d,c,m,f⟩:=abQ n x;refine⟨(some b,0),rfl,aT (bV (fun e=>absurd rfl e) fun _=>bF (fun e=>by cases e) fun _=>?_)⟩;refine z.lit ac az fi rfl [97,98,99] rfl (show 3*1<=2^20 by decide) rfl fun l h3 q=>?_;have j:=(q.own 3 rfl).cap;refine q.b2b ac 3 rfl ⟨_,rfl,rfl⟩ ⟨_,rfl,rfl⟩ fun A k=>?_;have k:Sp h A (jW a pw da 0 Pow.new D gQ::ar b 103 (it (some pw) (some a))::[an 3 i 1 aC [20,20],nL l 1 az [97,98,99]]):=k;have o:bQ gQ=true:=by decide+kernel
 have P:=Xe (As:=[an 3 i 1 aC [20,20],nL l 1 az [97,98,99]]) (1,rf,l,0,0,0,0,gz,gz) rfl [97,98,99] (St.kK 1 rfl fun h' g=>g) j (show rf.size<=2^40 by decide) o (by decide) k;dsimp only at P;rw[show cK gQ 0 Pow.new D rf [97,98,99]=(0,p,Pow.new,d)from c]at P;refine P.mono ?_;rintro _ F ⟨rfl,s⟩;refine⟨kQ 0,rfl,cz (fun _=>?_) fun e=>absurd rfl e⟩;have G:=Xf (2,rf,gz,0,0,0,0,gz,gz) rfl m s;dsimp only at G;rw[show iL p 0 Pow.new d rf=([97,98,99],0)from f]at G;refine G.mono ?_;rintro _ u ⟨r,rfl,t⟩;refine⟨((0,r,gz,0,0,0,gz,0):Qt),rfl,?_⟩;have y:Rd u r 1 az [97,98,99]:=t.at 0 rfl;refine LC ac ⟨_,rfl,rfl⟩ ⟨_,rfl,rfl⟩ ⟨_,rfl,rfl⟩ y ?_;exact⟨congrArg Value.bool (beq_self_eq_true Ns.toList),(s.up t.ag).ag⟩
theorem DG(a b c seed:Int)(data:Sl)(dl:Row)(g:Int)(h:Heap)(hd:Rd h data 1 az dl):
  ab xv 3 #[xk xq a,xk xq b,xk xq c,xk xu seed,data,xk xq g] h fun v h'=>v=xo true/\aR (fun b=>b<h.size) h h':=by
 refine pF a b c seed data g ?_;unfold kC;refine(TW a b c h).mono ?_;rintro _ h1 ⟨rfl,R1⟩;obtain⟨p,hp⟩:∃p,p=JM a b c:=⟨_,rfl⟩
 have f:bA p=true:=by rw[hp];exact XQ a b c
 rw[<-hp];have br:=(bC p).1 f;have wk:∀{h':Heap} {As:List HP},Sp h h' As->ab xv 9 #[] h' fun v a8=>v=xo true/\aR (fun b=>b<h.size) h a8:=fun{h'} {As} H=>(OU h').mono fun _ _ x=>⟨x.1,(aa.up H x.2).ag⟩
 refine⟨p,rfl,R1.alloc ac rfl fun a2 h2 H2=>?_⟩;refine H2.storeAll ac 0 rfl rfl [xk xq p.1,xk xq p.2.1,xk xq p.2.2] rfl rfl rfl rfl fun h3 H3=>?_;refine⟨p,(H3.box 0 rfl).aF _ rfl,(ZJ p seed h3).mono ?_⟩;rintro _ h4 ⟨s,rfl,R4⟩;have H4:=H3.up R4.ag;refine⟨s,rfl,p.1,(H4.box 0 rfl).cell0 rfl,p.2.2,(H4.box 0 rfl).cell rfl,?_⟩;obtain⟨K,hK⟩:∃K:Nat,p.1=K:=⟨p.1.toNat,by omega⟩
 obtain⟨Hh,hH⟩:∃H:Nat,p.2.1=H:=⟨p.2.1.toNat,by omega⟩
 obtain⟨w,hw⟩:∃w:Nat,p.2.2=w:=⟨p.2.2.toNat,by omega⟩
 have bl:K*w<=16*24:=zJ (by omega) (by omega);have ah:p.1*p.2.2=((K*w:Nat):Int):=by rw[hK,hw,zW]
 rw[ah,kJ _];refine(ZK data dl (K*w) h4 (Seq.up hd H4.ag) (by omega)).mono ?_;rintro _ h5 ⟨x,rfl,R5⟩;have T:=H4.comp R5;have a3:=YT dl (K*w);have ax:=(T.own 1 rfl).cap;refine⟨x,rfl,p,(T.box 0 rfl).aF _ rfl,?_⟩;generalize Pa dl (K*w)=d at*;refine(Ro p s x d h5 (T.seq 1 rfl fun _=>rfl) ax).mono ?_;rintro v h6 ⟨n1,n2⟩;have j:mq p s d.length=if dQ p s (dH p)then 0 else 8:=by rw[mq,f,decide_eq_true (by rw[ah,a3])];rfl
 cases hf:dQ p s (dH p)with
 |false=>
  rw[hf,if_neg (by simp)]at j;obtain⟨rfl,R6⟩:=n2 (by rw[j];decide);rw[j];have W:=T.up R6.ag;refine⟨(none,8),rfl,p,(W.box 0 rfl).aF _ rfl,(Od p s h6).mono ?_⟩;rintro _ h7 ⟨_,n2⟩;obtain⟨D,rfl,R7⟩:=n2 f;refine⟨some D,rfl,aT (bV (fun _=>cz (fun _=>?_) (fun e=>absurd rfl e)) (fun e=>absurd e (by decide)))⟩;refine(wk (W.up R7.ag)).mono ?_;rintro _ h8 ⟨rfl,P⟩;exact⟨_,rfl,rfl,P⟩
 |true=>
  rw[hf,if_pos rfl]at j;obtain⟨y,m,rfl,R6⟩:=n1 j;have B:bM p s d K Hh w (K+Hh):=⟨f,hf,hK,hH,hw,rfl,by omega,by omega,by omega,by omega,by omega,by omega,by omega⟩
  have W:=T.comp R6;refine⟨(some y,0),rfl,p,(W.box 0 rfl).aF _ rfl,(Od p s h6).mono ?_⟩;rintro _ h7 ⟨_,n2⟩;obtain⟨D,rfl,R7⟩:=n2 f;have H7:=W.comp R7;refine⟨some D,rfl,aT (bV (fun e=>absurd rfl e) fun _=>bF (fun e=>by cases e) fun _=>bF (fun e=>by cases e) fun _=>?_)⟩;refine(iM g 60000 h7 (by decide) (by decide)).mono ?_;rintro _ h8 ⟨rfl,rfl⟩;obtain⟨F,hF⟩:∃F:Nat,g%60000=F:=⟨(g%60000).toNat,by have:=Int.emod_nonneg g (show(60000:Int)≠0 by decide);omega⟩
  have bs:F<60000:=by have:=Int.emod_lt_of_pos g (show(0:Int)<60000 by decide);omega
  rw[hF];refine⟨_,rfl,p.1,(H7.box 0 rfl).cell0 rfl,?_⟩;obtain⟨X,Q⟩:∃X,X=dE p s d:=⟨_,rfl⟩
  have R:∀n,(dF p s X (fL F n)).length=n:=fun n=>by unfold dF;rw[qD,Jp]
  have H8:Sp h h8 [ar D 60 (Bn p s ⟨none,0,0⟩),dK 77 ⟨none,0,0⟩ 2 yv DA (dF p s X (fL F 0)),an 3 ⟨none,0,0⟩ 1 aC (fL F 0),ar a2 25 [xk xq p.1,xk xq p.2.1,xk xq p.2.2],an 5 x 1 az d,dJ 23 m 1 az X,ar y 57 (Dr p s m)]:=by
   rw[Q];exact((H7.Vd 77 2 yv DA).nil 3 1 aC).cj [4,5,6,0,1,2,3]
  refine bO (fun v h'=>∃(n:Nat) (l:Sl),n<=60/\v=gZ p s F n/\Sp h h' [ar D 60 (Bn p s l),dK 77 l 2 yv DA (dF p s X (fL F n)),an 5 x 1 az d]) ?_ ?_
  ·refine au (fun t:Nat×Sl=>(gZ p s F t.1,t.2,(t.1:Int))) (fun t h'=>t.1<=60/\∃l:Sl,Sp h h' [ar D 60 (Bn p s l),dK 77 l 2 yv DA (dF p s X (fL F t.1)),an 3 t.2 1 aC (fL F t.1),ar a2 25 [xk xq p.1,xk xq p.2.1,xk xq p.2.2],an 5 x 1 az d,dJ 23 m 1 az X,ar y 57 (Dr p s m)]) (fun t=>60-t.1) (0,⟨none,0,0⟩) (by dsimp only;rw[Xm s F f];rfl) ⟨by decide,_,H8⟩ ?_;rintro⟨n,u⟩ Z ⟨hn,l,I⟩;dsimp only at*;have out:∃(n':Nat) (l':Sl),n'<=60/\gZ p s F n=gZ p s F n'/\Sp h Z [ar D 60 (Bn p s l'),dK 77 l' 2 yv DA (dF p s X (fL F n')),an 5 x 1 az d]:=⟨n,l,hn,rfl,I.cj [0,1,4]⟩
   refine aT (ai (fun e1=>ai (fun e2=>?_) fun _=>out) fun _=>out);have bq:n<60:=by omega
   have hid:∀i∈fL F n,bp i=true:=Sx (by omega);have ap:dQ p s (fL F n)=false:=by rw[Lp s F n f];exact decide_eq_false (by omega)
   refine(DF D p s l _ Z (I.box 0 rfl) (I.MS 1 rfl fun _=>rfl) (by rw[R];omega)).mono ?_;rintro _ J ⟨rfl,A⟩;have k:=I.up A.ag;refine⟨_,rfl,bV (fun e=>absurd (by rw[nU];rfl) e) fun _=>?_⟩;refine(Io D p s l _ J (k.box 0 rfl) (k.MS 1 rfl fun _=>rfl) (by rw[R];omega)).mono ?_;have G:jX p s (dF p s X (fL F n))=([],9):=RY f (by rw[Q];exact B.Lf hid) (by rw[nU];exact ap);rw[G];rintro _ O ⟨r,rfl,N⟩;have o:=k.comp N;have a0:=(o.own 7 rfl).len;refine⟨(r,9),rfl,aT (bV (fun e=>absurd rfl e) fun _=>ai (fun e=>absurd e (by rw[a0];decide)) fun _=>?_)⟩;have a9:qc xq ((F:Int)+(n:Int))=((F+n:Nat):Int):=by rw[aj _];omega
   rw[a9];have bb:=Jp F n;refine o.push ac 2 rfl lE rfl (by decide) (fun _=>rfl) gJ ((F+n:Nat):Int) rfl (by decide) (by omega) fun u' ad z=>?_;rw[<-GP]at z;rw[Q]at z;refine(B.symbol y ((F+n:Nat):Int) ad ⟨m,z.box 6 rfl,z.DJ 5 rfl⟩).mono ?_;have Y:bp ((F+n:Nat):Int)=true:=by unfold bp;simp;omega
   rw[Y,if_pos rfl];rintro _ a7 ⟨q,rfl,a6⟩;have V:=z.comp a6;have U:=B.Qc ((F+n:Nat):Int);refine⟨q,rfl,?_⟩;refine(ZW D p s ((F+n:Nat):Int) l q (dF p s (dE p s d) (fL F n)) _ V (V.seq 8 rfl fun _=>rfl) (by rw[U];omega) (by rw[<-Q,R];omega)).mono ?_;have a5:jK p (((F+n:Nat):Int),ff w (dE p s d) (cA (K+Hh) s ((F+n:Nat):Int)))=true:=(Ld B.may).2 ⟨Y,by dsimp only;rw[U,B.size]⟩;rw[a5,if_pos rfl];rintro _ ay ⟨rfl,l',L⟩;have e5:dF p s (dE p s d) (fL F n)++[(((F+n:Nat):Int),ff w (dE p s d) (cA (K+Hh) s ((F+n:Nat):Int)))]=dF p s X (fL F (n+1)):=by
    rw[GP,Q];simp only[dF,qW,List.map_cons,List.map_nil,B.size,B.nD]
   rw[e5,<-Q]at L;refine⟨_,rfl,be (fun e=>by cases e) fun _=>?_⟩;have E:=L.box 3 rfl;refine⟨p.1,E.cell0 rfl,p.2.1,E.cell rfl,p,E.aF _ rfl,?_⟩;refine(MG p s u' (fL F (n+1)) ay (L.seq 2 rfl fun _=>rfl) (by rw[Jp];omega)).mono ?_;rintro _ b1 ⟨rfl,am⟩;have S:=L.up am.ag;have M:=S.box 3 rfl;refine⟨_,rfl,⟨M.cell rfl,M.cell0 rfl,trivial⟩,?_⟩;have b0:=CM p s (fL F (n+1));have a1:bn p=p.1+p.2.1:=lT f;have e3:qc xq (qc xq (p.1+p.2.1)-(io p s (fL F (n+1)):Int))=gZ p s F (n+1):=by
    rw[aj (p.1+p.2.1),aj _,<-a1];rfl
   rw[e3];obtain⟨s1,s2⟩:=Xn p s F n;have bd:0<=gZ p s F (n+1):=by unfold gZ;omega
   have bk:gZ p s F n<=100:=by unfold gZ;omega
   rw[aj (gZ p s F n-1)];refine ai (fun e=>absurd e (by omega)) fun _=>ai (fun e=>absurd e (by omega)) fun _=>?_;refine⟨(n+1,u'),by dsimp only;rw[aj _];rfl,⟨by dsimp only;omega,l',?_⟩,by dsimp only;omega⟩;exact S.cj [0,1,2,3,4,5,6]
  ·rintro v Z ⟨n,l,hn,rfl,I⟩;have hid:∀i∈fL F n,bp i=true:=Sx (by omega);refine ai (fun e=>?_) fun e=>?_
   ·refine(DF D p s l _ Z (I.box 0 rfl) (I.MS 1 rfl fun _=>rfl) (by rw[R];omega)).mono ?_;rintro _ J ⟨rfl,A⟩;refine⟨_,rfl,cz (fun _=>?_) fun e=>absurd (by rw[nU];rfl) e⟩;refine(wk (I.up A.ag)).mono ?_;rintro _ O ⟨rfl,P⟩;exact⟨_,rfl,rfl,P⟩
   ·have a4:dQ p s (fL F n)=true:=by rw[Lp s F n f];exact decide_eq_true (by omega)
    have h0:gZ p s F n=0:=by have:=CM p s (fL F n);unfold gZ at e⊢;omega
    have G:jX p s (dF p s X (fL F n))=(d,0):=by rw[Q];exact B.dec hid a4
    refine(Io D p s l _ Z (I.box 0 rfl) (I.MS 1 rfl fun _=>rfl) (by rw[R];omega)).mono ?_;rw[G];rintro _ J ⟨r,rfl,A⟩;have k:=I.comp A;refine⟨(r,0),rfl,?_⟩;refine(DF D p s l _ J (k.box 0 rfl) (k.MS 1 rfl fun _=>rfl) (by rw[R];omega)).mono ?_;rintro _ O ⟨rfl,N⟩;have o:=k.up N.ag;refine⟨_,rfl,cz (fun _=>cz (fun _=>?_) fun e=>absurd rfl e) fun e=>absurd (by rw[nU];exact h0) e⟩;refine(VS r x d d O (o.seq 3 rfl fun _=>rfl) (o.seq 2 rfl fun _=>rfl) (by omega)).mono ?_;rintro _ ad ⟨rfl,rfl⟩;refine⟨_,rfl,bF (fun _=>?_) fun e=>absurd rfl (of_decide_eq_false e)⟩;refine(wk o).mono ?_;rintro _ a7 ⟨rfl,P⟩;exact⟨_,rfl,rfl,P⟩
end Go.Qw
