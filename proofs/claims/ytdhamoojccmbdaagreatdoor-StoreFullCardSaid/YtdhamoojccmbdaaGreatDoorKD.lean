/- Part of the proofs that the laws of this seat answer true whatever the input reads, and leave it as it was; no condition. -/
import Derived.Test.YtdhamoojccmbdaaGreatDoorKB
import Derived.Test.YtdhamoojccmbdaaGreatDoorKC
import Derived.Test.YtdhamoojccmbdaaGreatDoorPlI
import Derived.Test.YtdhamoojccmbdaaGreatDoorTabS
import Derived.Test.YtdhamoojccmbdaaGreatDoorPlA
import Derived.Test.YtdhamoojccmbdaaGreatDoorKA
import Derived.Test.YtdhamoojccmbdaaGreatDoorPlG
set_option linter.unusedVariables false
set_option linter.unusedSimpArgs false
open Go.Proofs.Tryz renaming prog -> vV
open Go.Value renaming agg -> vQ, bool -> vP, int -> vL, pointer -> vN, slice -> vM, string -> vO
open Go.IntKind renaming i64 -> vR, u32 -> vT, wrap -> qc
open Go.Instr renaming slice -> vz, sliceAt -> wy, sliceBound -> yW, sliceBounds -> zP, storeAt -> qf
open Int renaming emod_lt_of_pos -> z8, emod_nonneg -> wY, le_refl -> vE, mul_le_mul -> wu, natCast_nonneg -> zT, ofNat_inj -> vH, tdiv -> wC, toNat_natCast -> qp
open List renaming all_eq_true -> qM, any_eq_false -> zZ, any_eq_true -> wR, drop_eq_getElem_cons -> qT, filter_eq_self -> wg, find?_eq_none -> wL, find?_eq_some_iff_append -> wD, getD_eq_getElem?_getD -> qe, getElem?_eq_getElem -> qd, getElem?_eq_none -> ze, getElem_mem -> qg, length_append -> qu, length_cons -> zi, length_filter_le -> q7, length_map -> qw, map_append -> qQ, mem_append -> qE, mem_cons_of_mem -> qU, mem_cons_self -> q8, mem_map -> qx, mem_of_mem_take -> zK, mem_range -> qH, mem_singleton -> qG, mem_take_iff_getElem -> wZ, pairwise_map -> vk, range -> qC, range_succ -> zF, take_append_drop -> qD, take_left -> vj, take_of_length_le -> qi
open Prod renaming fst -> qK
open Nat renaming add_zero -> yl, le_refl -> ql, le_trans -> zl, lt_succ_iff_lt_or_eq -> zn, mul_le_mul -> wb, mul_le_mul_right -> zG, mul_one -> wN, succ_mul -> zI
open BitVec renaming ofInt -> qA
open Bool renaming true_and -> zS
set_option maxRecDepth 100000
namespace Go.Proofs.YtdhamoojccmbdaaGreatDoor
open Go Go.Vc Go.Proofs Wl
section
variable {B:aA} {h0 h:Heap} {As:List HP} {a pw b:Addr} {mc:List Value} {offs:Int} {da:List (Option Addr)} {w:Pow} {ds:bc} {d:bE}
def ji(a cells:Int):Bool:=decide ((0<=a/\a<64)/\1<=cells/\cells<=512)
end
end Go.Proofs.YtdhamoojccmbdaaGreatDoor
namespace Go.Vc
open Go Wl
section
variable {k:Jd} {B:aA} {h0 h:Heap} {As:List HP} {a pw b:Addr} {mc:List Value} {offs:Int} {da:List (Option Addr)} {w:Pow} {ds:bc} {d:bE} {n:Nat}
end
end Go.Vc
namespace Go.Proofs.YtdhamoojccmbdaaGreatDoor
open Go Go.Vc Go.Proofs Wl
section
variable {B:aA} {h0 h:Heap} {As:List HP} {a pw b:Addr} {offs:Int} {da:List (Option Addr)} {w:Pow} {ds:bc} {d:bE}
end
section
variable {B:aA} {h0 h:Heap} {As:List HP} {a pw:Addr} {offs:Int} {da:List (Option Addr)} {w:Pow} {ds:bc} {mc:List Value}
theorem Uh{k:Int}{d:bE}(e:cb ds k=some d)(H:aa B h0 h (bm bz a pw mc offs da w ds::As)):∃(b:Addr) (s f:Sl),og da k=some b/\cw h b cC (gJ pw d s f)/\gg h s 1 aC d.l/\gc d:=by
 obtain⟨ok,_⟩:=aa.cJ H;rcases oh ok k with⟨h1,_⟩|⟨n,d',b,rfl,hn,h1,h2,h3,h4⟩
 ·rw[h1]at e;cases e
 ·rw[h2]at e;injection e with e
  subst e;obtain⟨m,c,j⟩:=Go.Vc.aa.mF H h1;rw[h3]at c;injection c with c
  injection c with c
  subst c;obtain⟨g,s,f,i⟩:=aa.ux j;exact⟨b,s,f,h4,i.box 0 rfl,(i.bo 2 [1,0]).OE fun _=>rfl,g⟩
theorem Ui{k:Int}{d:bE}{b:Addr}(x:cg)(m:aG)(f:cb ds k=some d)(i:og da k=some b)(o:eG h x m)(g:db m)(H:aa B h0 h (bm bz a pw mc offs da w ds::As)):
  ac vV Eu #[vN (some b),ft x] h fun v h'=>v=vP (mJ m d.l)/\Sp h h' []:=by
 obtain⟨q,s,e,c,n,p,j⟩:=Uh f H;rw[i]at c;injection c with c
 subst c;exact Ym b pw d s e x m h n p j o g
end
def ke(a pw:Addr)(b:List (Option Addr))(offs:Int)(w:Pow)(ds:bc)(m:aG):HP:=HP.ex fun x:cg=>(bm bz a pw (aV x) offs b w ds).sep (cO x m)
section
variable {B:aA} {h0 h:Heap} {As:List HP} {a pw:Addr} {offs:Int} {da:List (Option Addr)} {w:Pow} {ds:bc} {m:aG}
theorem uQ(H:aa B h0 h (ke a pw da offs w ds m::As)):∃x,aa B h0 h (bm bz a pw (aV x) offs da w ds::cO x m::As):=by
 obtain⟨x,H⟩:=H.HT;exact⟨x,H.KE.uV⟩
theorem Km{x:cg}(H:aa B h0 h (bm bz a pw (aV x) offs da w ds::cO x m::As)):aa B h0 h (ke a pw da offs w ds m::As):=
 aa.KD (F:=fun x:cg=>(bm bz a pw (aV x) offs da w ds).sep (cO x m)) x H.uV.oX
end
section
variable {B:aA} {h0 h:Heap} {As:List HP} {a pw:Addr} {offs:Int} {da:List (Option Addr)} {w:Pow} {ds:bc} {m:aG}
theorem age(H:aa B h0 h (ke a pw da offs w ds m::As)):ds.length=64/\∀k d,cb ds k=some d->d.l.length<=d.room/\d.room<=512/\gc d:=by
 obtain⟨x,H⟩:=uQ H;obtain⟨ok,_⟩:=aa.cJ H;refine⟨ok.ls,fun k d e=>?_⟩;obtain⟨b,s,f,_,_,_,c⟩:=Uh e H;exact⟨c.len,c.room,c⟩
theorem YR(p:Pm)(extra:Int)(s:Sl)(l:List Int)(c:St B h0 As fun h=>Rd h s 1 aE l)(i:l.length<=64)(e:xK p extra l=0)(k:w=Pow.new)(H:aa B h0 h (dU bG pw w::As)):
  ac vV AB #[kB p,vL vR extra,vN (some pw),vM s.ptr s.len s.cap] h fun v h'=>∃(a:Addr) (da:List (Option Addr)) (D:bc),v=.tuple #[vN (some a),vL vR 0]/\D.length=64/\
   (∀s,cb D s=if s∈bj l l.length then some ⟨(l.getD s.toNat 0).toNat,bh (cu p extra l),0,[],false,false⟩else none)/\aa B h0 h' (ke a pw da 0 Pow.new D (cu p extra l)::As):=by
 subst k;obtain⟨D,j,g,f⟩:=aaT (p:=p) (extra:=extra) (l:=l) i e;refine(Jh p extra s l c (by omega) H).mono ?_;rintro _ h' ⟨_,b⟩;rw[j]at b;obtain⟨a,y,da,rfl,d⟩:=b rfl;exact⟨a,da,D,rfl,g,f,Km d⟩
theorem WK(name:ByteArray)(s:Sl)(b:List UInt8)(f:St B h0 As fun h=>Rd h s 1 aC b)(d:s.len<=s.cap)(i:name.size<=2^40)(c:bS m=true)(e:b.length<=2^20)(H:aa B h0 h (ke a pw da offs w ds m::As)):
  ac vV sD #[vN (some a),vO name,vM s.ptr s.len s.cap] h fun v h'=>v=vL vR (gB m offs w ds name b).1/\
   aa B h0 h' (ke a pw da offs (gB m offs w ds name b).2.2.1 (gB m offs w ds name b).2.2.2 (gB m offs w ds name b).2.1::As):=by
 obtain⟨x,H⟩:=uQ H;obtain⟨n,l,j,k⟩:=(dK m).1 ((ce m).1 c).1;refine(acN x m name s b f d i (rT c) j k (lG c) (mq c) (by omega) (by omega) e H).mono ?_;rintro _ h' ⟨rfl,y,g⟩;exact⟨rfl,Km g⟩
theorem Kn(b:bS m=true)(H:aa B h0 h (ke a pw da offs w ds m::As)):
  ac vV nf #[vN (some a)] h fun v h'=>∃y:cg,v=ft y/\Sp h h' [cO y m]:=by
 obtain⟨x,H⟩:=uQ H;exact Oi x m (H.at 1 rfl) (rT b) H
end
end Go.Proofs.YtdhamoojccmbdaaGreatDoor
namespace Wl
open Go Go.Proofs.YtdhamoojccmbdaaGreatDoor Go.Vc
def xO(m:aG)(i:Nat):aG:={m with seq:=m.seq+1,objs:=m.objs.take i++m.objs.drop (i+1)}
def dX(m:aG)(offs:Int)(w:Pow)(ds:bc)(name:ByteArray):Int×aG×Pow×bc:=
 if fu w offs then(14,m,w,ds)else if m.objs.any (dm name)=false then(5,m,w,ds)else if m.seq>=2147483647 then(7,m,w,ds)else
 dO m offs w ds (xO m (m.objs.findIdx (dm name)))
end Wl
namespace Go.Vc
open Go
theorem Uj{C:Ctx}{t e k:Nat}{z:List Value}{b:Nat}{h:Heap}{s:Sl}(c:C.Ok)(a:bN C.toBR t e k z b){x y u:Int}(i j n:Nat)(H:x=i)(l:y=j)(I:u=n)(J:i<=j)(o:j<=n)(h3:n<=s.cap){K:Sl->Heap->Prop}(A:∀v,K v h):
  aw C.P (wy t (vM s.ptr s.len s.cap) (some (vL vR x)) (some (vL vR y)) (some (vL vR u))) (.one (.sc .slc)) h K:=by
 subst H;subst l;subst I;have B:aI C.P (zP true s.len s.cap (some (vL vR (i:Int))) (some (vL vR (j:Int))) (some (vL vR (n:Int)))) (i,j,n):=fun w=>by
  have d:¬((n:Int)<0):=by omega
  have x2:¬((s.cap:Int)<(n:Int)):=by omega
  have x3:(n:Int)<=(s.cap:Int):=by omega
  have E:(0:Int)<=(n:Int):=by omega
  have F:(0:Int)<=(j:Int):=by omega
  have f:(0:Int)<=(i:Int):=by omega
  have L:(j:Int)<=(n:Int):=by omega
  have D:(i:Int)<=(j:Int):=by omega
  have g:¬((j:Int)<0):=by omega
  have q:¬((i:Int)<0):=by omega
  have m:¬((n:Int)<(j:Int)):=by omega
  have G:¬((j:Int)<(i:Int)):=by omega
  have M:¬(n<j):=by omega
  have r:¬(j<i):=by omega
  have p:¬(s.cap<n):=by omega
  simp[zP,yW,asIntOf,d,x2,x3,E,F,f,L,D,g,q,m,G,M,r,p,J,o,h3]
 unfold aw wy;refine ag.bind (ag.always (aN (a.under c)) ?_);show ag C.P (vz t (vM s.ptr s.len s.cap) (some (vL vR (i:Int))) (some (vL vR (j:Int))) (some (vL vR (n:Int)))) h _;unfold vz;refine ag.bind (ag.always (aN (a.under c)) ?_);refine ag.bind (ag.always B ?_);refine ag.bind (ag.always (a.size c) ?_);exact ag.pure' ⟨⟨_,_,_⟩,rfl,A _⟩
end Go.Vc
namespace Go.Proofs.YtdhamoojccmbdaaGreatDoor
open Go Go.Vc Go.Proofs Wl
section
variable {B:aA} {h0 h:Heap} {As:List HP} {a pw:Addr} {offs:Int} {da:List (Option Addr)} {w:Pow} {ds:bc} {m:aG} {s:Sl}
theorem VZ(d:List dV)(i:Nat)(j:i<d.length)(o:d.length<=2^30)(H:aa B h0 h (an aX s 4 bH d::As)):
  ac vV mw #[vM s.ptr s.len s.cap,vL vR i,vL vR (i+1)] h fun v h'=>∃r:Sl,v=vM r.ptr r.len r.cap/\aa B h0 h' (an aX r 4 bH (d.take i++d.drop (i+1))::As):=by
 refine lX s i (i+1) ?_;unfold iv;have f:=H.own 0 rfl;have q:=f.len;have n:=f.cap;refine Uj ae Oe i (i+1) s.len rfl rfl rfl (by omega) (by omega) n fun _=>?_;refine cx (fun e=>absurd e (by omega)) fun _=>⟨⟨by omega,by omega⟩,⟨by omega,by omega⟩,?_⟩
 have l:((i:Int)+1).toNat=i+1:=by omega
 rw[l,qp];refine H.Nn ae 0 rfl Oe ⟨_,_,rfl,rfl⟩ (fun _=>rfl) Od i j fun m b=>⟨trivial,⟨by omega,by dsimp only;omega,by dsimp only;omega⟩,?_⟩
 have b:aa B h0 m (an aX s 4 bH ((d.take i++d.drop (i+1))++d.drop (d.length-1))::As):=b;have a:(d.take i++d.drop (i+1)).length=d.length-1:=by simp;omega
 dsimp only;rw[qp,qp];refine b.ou ae 0 rfl Oe (fun _=>rfl) rfl (by intro v g;simp at g;rcases g with rfl|rfl|rfl<;>rfl) (d.length-1) (by simp;omega) fun p c=>?_;have k:((d.take i++d.drop (i+1))++d.drop (d.length-1)).take (d.length-1)=d.take i++d.drop (i+1):=by
  rw[<-a,vj]
 rw[k]at c;exact⟨⟨s.ptr,d.length-1,s.cap⟩,rfl,c⟩
theorem Uk(name:ByteArray)(x:cg)(m:aG)(E:bS m=true)(H:aa B h0 h (bm bz a pw (aV x) offs da w ds::cO x m::As)):
  ac vV oz #[vN (some a),vO name] h fun v h'=>v=vL vR (dX m offs w ds name).1/\
   ∃y,aa B h0 h' (bm bz a pw (aV y) offs da (dX m offs w ds name).2.2.1 (dX m offs w ds name).2.2.2::cO y (dX m offs w ds name).2.1::As):=by
 refine Be (some a) name ?_;unfold po;have q:=rT E;have T:=mq E;obtain⟨g1,g2,g3,g4⟩:=(dK m).1 ((ce m).1 E).1;have U:=((ce m).1 E).2.2.2.1;refine(td H).mono ?_;rintro _ h1 ⟨rfl,rfl⟩;refine⟨_,rfl,bA (fun e=>?_) fun Q=>?_⟩
 ·have l:dX m offs w ds name=(14,m,w,ds):=by unfold dX;rw[if_pos e]
  rw[l];exact⟨rfl,x,H⟩
 refine(find_spec x m name (H.at 1 rfl) q H).mono ?_;rintro _ S ⟨⟨i,rfl,Z⟩,Y⟩;have t:=H.up Y.ai;refine⟨i,rfl,?_⟩;rcases Z with⟨rfl,hno⟩|⟨n,hn,rfl,d,hbef⟩
 ·refine ak (fun _=>?_) fun e=>absurd (by decide) e;have l:dX m offs w ds name=(5,m,w,ds):=by unfold dX;rw[if_neg (by rw[Q];decide),if_pos hno]
  rw[l];exact⟨rfl,x,t⟩
 have f:m.objs.any (dm name)=true:=wR.2 ⟨_,qg hn,d⟩;have s:m.objs.findIdx (dm name)=n:=by
  rw[List.findIdx_eq hn];refine⟨d,fun j hj=>?_⟩;have:=zZ.1 hbef (m.objs[j]'(by omega)) (wZ.2 ⟨j,by omega,rfl⟩);simpa using this
 have D:=(aa.cJ t).2;have u:eG S x m:=t.at 1 rfl;dsimp only;refine ak (fun e=>absurd e (Int.not_lt.2 (zT n))) fun _=>⟨a,rfl,x.1,D.cell0 rfl,?_⟩
 rw[u.seq];refine ak (fun J=>?_) fun J=>?_
 ·have l:dX m offs w ds name=(7,m,w,ds):=by unfold dX;rw[if_neg (by rw[Q];decide),if_neg (by rw[f];decide),if_pos J]
  rw[l];exact⟨rfl,x,t⟩
 refine⟨a,rfl,x,D.aQ _ rfl,(rJ x m S u q).mono ?_⟩;rintro _ h3 ⟨y,L,pool,rfl,F,A,V,R3⟩;have W:=(t.comp R3).front;refine⟨y,rfl,W.alloc ae rfl fun a3 h4 N=>?_⟩;have N:=N.bL;refine N.storeAll ae 0 rfl rfl (aV y) rfl rfl rfl rfl fun h5 G=>?_;have G:aa B h0 h5 (au a3 aB (aV y)::eM 1 aE pool::an aS y.2.2.2.2.2.2.1 1 aE m.drives::an aX y.2.2.2.2.2.2.2 4 bH (L.map qK)::bm bz a pw (aV x) offs da w ds::cO x m::As):=G;refine⟨y.1,(G.box 0 rfl).cell0 rfl,?_⟩;rw[F.1,Go.Vc.wrap_small (m.seq+1) (by omega) (by omega)];refine G.jD ae 0 rfl rfl [vL vR (m.seq+1)] rfl rfl rfl (by simp[Value.cells]) fun h6 r=>?_;have r:aa B h0 h6 (au a3 aB (vL vR (m.seq+1)::(aV y).drop 1)::eM 1 aE pool::an aS y.2.2.2.2.2.2.1 1 aE m.drives::an aX y.2.2.2.2.2.2.2 4 bH (L.map qK)::bm bz a pw (aV x) offs da w ds::cO x m::As):=r;refine⟨_,(r.box 0 rfl).cell rfl,?_⟩;have X:L.length=m.objs.length:=by rw[<-A,qw]
 have r:=r.bo 6 [3,0,1,2,4,5];rw[Go.Vc.wrap_small ((n:Int)+1) (by omega) (by omega)];refine(VZ (L.map qK) n (by rw[qw];omega) (by rw[qw];omega) r).mono ?_;rintro _ h7 ⟨o,rfl,K⟩;have K:aa B h0 h7 (au a3 aB (vL vR (m.seq+1)::(aV y).drop 1)::eM 1 aE pool::an aS y.2.2.2.2.2.2.1 1 aE m.drives::an aX o 4 bH ((L.map qK).take n++(L.map qK).drop (n+1))::bm bz a pw (aV x) offs da w ds::cO x m::As):=K.bo 6 [1,2,3,0,4,5];refine⟨o,rfl,K.store ae 0 rfl rfl 7 [vM o.ptr o.len o.cap] rfl rfl rfl (by simp[Value.cells]) fun h8 I=>?_⟩;obtain⟨b,c⟩:∃b:cg,b=(m.seq+1,y.2.1,y.2.2.1,y.2.2.2.1,y.2.2.2.2.1,y.2.2.2.2.2.1,y.2.2.2.2.2.2.1,o):=⟨_,rfl⟩
 have ed:b.2.2.2.2.2.2.1=y.2.2.2.2.2.2.1:=by rw[c]
 have eo:b.2.2.2.2.2.2.2=o:=by rw[c]
 obtain⟨L2,g⟩:∃L2,L2=L.take n++L.drop (n+1):=⟨_,rfl⟩
 have O:L2.map qK=(L.map qK).take n++(L.map qK).drop (n+1):=by rw[g,qQ,List.map_take,List.map_drop]
 have I:aa B h0 h8 (au a3 aB (aV b)::eM 1 aE pool::an aS b.2.2.2.2.2.2.1 1 aE m.drives::an aX b.2.2.2.2.2.2.2 4 bH (L2.map qK)::bm bz a pw (aV x) offs da w ds::cO x m::As):=by rw[ed,eo,O,c];exact I
 refine⟨b,(I.box 0 rfl).aQ _ rfl,?_⟩;obtain⟨M,z⟩:∃M,M=xO m n:=⟨_,rfl⟩
 have H9:aa B h0 h8 (cO b M::bm bz a pw (aV x) offs da w ds::cO x m::As):=aa.Kd (m:=M) (L:=L2) (pool:=pool) (by rw[z,c];exact⟨rfl,F.2.1,F.2.2.1,F.2.2.2⟩)
  (by rw[z,g,qQ,List.map_take,List.map_drop,A];rfl) (fun p d=>V p (by
   rw[g]at d;rcases qE.1 d with d|d
   ·exact zK d
   ·exact List.mem_of_mem_drop d)) (by rw[z];exact I.bo 6 [1,2,3,4,5])
 have P:db M:=by
  rw[z];have sub:∀e,e∈m.objs.take n++m.objs.drop (n+1)->e∈m.objs:=fun e k=>by
   rcases qE.1 k with k|k
   ·exact zK k
   ·exact List.mem_of_mem_drop k
  refine⟨q.dr,?_,?_⟩
  ·have:=q.ob;show(m.objs.take n++m.objs.drop (n+1)).length<=_;simp;omega
  ·exact fun e k=>q.nm e (sub e k)
 refine(VK x m b M (As:=cO b M::As) (St.gK 0 rfl fun _ hq=>hq) q P (by omega) (H9.bo 3 [1,2,0])).mono ?_;rintro _ ab ⟨rfl,y3,R⟩;have l:dX m offs w ds name=dO m offs w ds M:=by
  unfold dX;rw[if_neg (by rw[Q];decide),if_neg (by rw[f];decide),if_neg J,s,z]
 rw[l];exact⟨_,rfl,rfl,y3,R.bo 3 [0,1]⟩
theorem YS(name:ByteArray)(b:bS m=true)(H:aa B h0 h (ke a pw da offs w ds m::As)):
  ac vV oz #[vN (some a),vO name] h fun v h'=>v=vL vR (dX m offs w ds name).1/\
   aa B h0 h' (ke a pw da offs (dX m offs w ds name).2.2.1 (dX m offs w ds name).2.2.2 (dX m offs w ds name).2.1::As):=by
 obtain⟨x,H⟩:=uQ H;refine(Uk name x m b H).mono ?_;rintro _ h' ⟨rfl,y,c⟩;exact⟨rfl,Km c⟩
end
theorem Fa{p q:aA}(a b:Sl)(c j:List Int)(h:Heap)(o:Seq h p a 1 aE c)(r:Seq h q b 1 aE j)(u:c.length<=2^40):
  ac vV tE #[vM a.ptr a.len a.cap,vM b.ptr b.len b.cap] h fun v h'=>v=vP (decide (c=j))/\h'=h:=by
 refine sO a b ?_;unfold lU;have m:=o.len;have n:=r.len;refine bQ (fun d=>⟨?_,rfl⟩) (fun f=>?_)
 ·rw[decide_eq_false (fun e=>d (by rw[m,n,e]))]
 ·refine av (fun k:Nat=>(k:Int)) (fun k h'=>h'=h/\k<=c.length/\c.take k=j.take k) (fun k=>c.length-k) 0 rfl ⟨rfl,by omega,by simp⟩ ?_;rintro k h' ⟨rfl,w,l⟩;refine ak (fun t=>?_) (fun s=>?_)
  ·have i:k<c.length:=by omega
   have g:k<j.length:=by omega
   refine o.bv k rfl i _ rfl ?_;refine r.bv k rfl g _ rfl ?_;refine bQ (fun d=>⟨?_,rfl⟩) (fun f=>?_)
   ·rw[decide_eq_false];intro e;subst e;exact d rfl
   ·rw[wrap_small _ (by omega) (by omega)];exact⟨k+1,by simp,⟨rfl,by omega,by rw[aH _ _ i,aH _ _ g,l,f]⟩,by omega⟩
  ·have:k=c.length:=by omega
   subst this;rw[qi (by omega),qi (by omega)]at l;exact⟨by rw[decide_eq_true l],rfl⟩
theorem CZ(x y:cg)(m:aG)(h:Heap)(k:eG h x m)(l:eG h y m)(N:db m):ac vV sE #[ft x,ft y] h fun v h'=>v=vP true/\Sp h h' []:=by
 refine rD x y ?_;unfold lp;refine(Sp.refl h).boxed fun A h1 H1=>?_;refine H1.boxed fun a2 h2 n=>?_;have n:Sp h h2 [au A aB (aV x),au a2 aB (aV y)]:=n;have r:=n.box 0 rfl;have s:=n.box 1 rfl;have W:x.2.2.1=m.p.1:=congrArg (·.1) k.p;have S:x.2.2.2.1=m.p.2.1:=congrArg (·.2.1) k.p;have T:x.2.2.2.2.1=m.p.2.2:=congrArg (·.2.2) k.p;have Q:y.2.2.1=m.p.1:=congrArg (·.1) l.p;have V:y.2.2.2.1=m.p.2.1:=congrArg (·.2.1) l.p;have U:y.2.2.2.2.1=m.p.2.2:=congrArg (·.2.2) l.p;have ax:=N.dr;have ay:=N.ob;have ad:=cm.len k.objs;have ah:=cm.len l.objs;refine ba ⟨m.seq,by rw[<-k.seq];exact r.cell0 rfl,m.seq,by rw[<-l.seq];exact s.cell0 rfl,bQ (fun e=>absurd rfl e) fun _=>?_⟩;refine⟨m.next,by rw[<-k.next];exact r.cell rfl,m.next,by rw[<-l.next];exact s.cell rfl,bQ (fun e=>absurd rfl e) fun _=>?_⟩;refine⟨m.p,by rw[<-W,<-S,<-T];exact r.AK 2 rfl rfl rfl,m.p,by rw[<-Q,<-V,<-U];exact s.AK 2 rfl rfl rfl,_,aan _ _ m.p m.p,bg (fun e=>absurd e (by simp)) fun _=>?_⟩;refine⟨m.extra,by rw[<-k.extra];exact r.cell rfl,m.extra,by rw[<-l.extra];exact s.cell rfl,bQ (fun e=>absurd rfl e) fun _=>?_⟩;refine⟨x.2.2.2.2.2.2.1,r.cell rfl,y.2.2.2.2.2.2.1,s.cell rfl,(Fa _ _ m.drives m.drives h2 (k.up n.ai).drives (l.up n.ai).drives (by omega)).mono ?_⟩;rintro _ h3 ⟨rfl,rfl⟩;refine⟨_,rfl,bg (fun e=>absurd e (by simp)) fun _=>⟨x.2.2.2.2.2.2.2,r.cell rfl,y.2.2.2.2.2.2.2,s.cell rfl,bQ (fun e=>absurd (by omega) e) fun _=>?_⟩⟩;refine⟨x.2.2.2.2.2.2.2,r.cell rfl,?_⟩;obtain⟨us,F⟩:=cm.fix k.objs;obtain⟨vs,G⟩:=cm.fix l.objs;have ao:=F.2.1;have am:=G.2.1;refine av (fun i:Nat=>(i:Int)) (fun i h'=>i<=m.objs.length/\Sp h h' [au A aB (aV x),au a2 aB (aV y)]) (fun i=>m.objs.length-i) 0 rfl ⟨by omega,n⟩ ?_;rintro i h5 ⟨hi,o⟩;refine ak (fun e=>?_) (fun e=>?_)
 ·have q:i<m.objs.length:=by
   have e':(i:Int)<(x.2.2.2.2.2.2.2.len:Int):=e;omega
  obtain⟨E,M⟩:∃E,E=m.objs[i]:=⟨_,rfl⟩
  have D:=N.nm _ (qg q);rw[<-M]at D;obtain⟨u,hu⟩:∃u,u=us[i]'(by omega):=⟨_,rfl⟩
  obtain⟨v,hv⟩:∃v,v=vs[i]'(by omega):=⟨_,rfl⟩
  obtain⟨f,ha,zz,c,Z⟩:=F.1.dD (g:=bH) (i:=(i:Int)) i rfl (by omega) u (by rw[hu]) (K:=fun t=>t=u) rfl;obtain⟨d,hb,a0,a,z⟩:=G.1.dD (g:=bH) (i:=(i:Int)) i rfl (by omega) v (by rw[hv]) (K:=fun t=>t=v) rfl;rw[Z]at c;rw[z]at a;obtain⟨⟨u1,u2,u3⟩,u4⟩:=Fix.row F q;obtain⟨⟨v1,v2,v3⟩,v4⟩:=Fix.row G q;rw[<-M,<-hu]at u1 u2 u3 u4;rw[<-M,<-hv]at v1 v2 v3 v4;refine cl (fun st h'=>∃Bs,Sp h h' (au A aB (aV x)::au a2 aB (aV y)::au st.1 aX (bH u)::au st.2 aX (bH v)::Bs)) ?_ ?_
  ·have keep:∀{h':Heap} {Bs:List HP},Sp h h' (au A aB (aV x)::au a2 aB (aV y)::Bs)->
     aq.ok [(d.add ((i:Int).toNat*4),(vO v.1)),((d.add ((i:Int).toNat*4)).add 1,(vL vR v.2.1)),((d.add ((i:Int).toNat*4)).add 2,(vL vR v.2.2.1)),((d.add ((i:Int).toNat*4)).add 3,(vM v.2.2.2.ptr v.2.2.2.len v.2.2.2.cap)),(a2.add 7,(vM y.2.2.2.2.2.2.2.ptr y.2.2.2.2.2.2.2.len y.2.2.2.2.2.2.2.cap)),(f.add ((i:Int).toNat*4),(vO u.1)),((f.add ((i:Int).toNat*4)).add 1,(vL vR u.2.1)),((f.add ((i:Int).toNat*4)).add 2,(vL vR u.2.2.1)),((f.add ((i:Int).toNat*4)).add 3,(vM u.2.2.2.ptr u.2.2.2.len u.2.2.2.cap)),(A.add 7,(vM x.2.2.2.2.2.2.2.ptr x.2.2.2.2.2.2.2.len x.2.2.2.2.2.2.2.cap))] h':=fun{h' Bs} H'=>by
    have b:=H'.ai;exact⟨b.cell (cS a.1) a.1,b.cell (cS a.2.1) a.2.1,b.cell (cS a.2.2.1) a.2.2.1,b.cell (cS a.2.2.2.1) a.2.2.2.1,(H'.box 1 rfl).cell rfl,b.cell (cS c.1) c.1,b.cell (cS c.2.1) c.2.1,b.cell (cS c.2.2.1) c.2.2.1,b.cell (cS c.2.2.2.1) c.2.2.2.1,(H'.box 0 rfl).cell rfl,trivial⟩
   have I:=keep o;have b:=o.ai;refine⟨x.2.2.2.2.2.2.2,(o.box 0 rfl).cell rfl,f,ha,u,⟨b.cell (cS c.1) c.1,b.cell (cS c.2.1) c.2.1,b.cell (cS c.2.2.1) c.2.2.1,b.cell (cS c.2.2.2.1) c.2.2.2.1,trivial⟩,y.2.2.2.2.2.2.2,(o.box 1 rfl).cell rfl,d,hb,v,⟨b.cell (cS a.1) a.1,b.cell (cS a.2.1) a.2.1,b.cell (cS a.2.2.1) a.2.2.1,b.cell (cS a.2.2.2.1) a.2.2.2.1,trivial⟩,?_,?_⟩
   ·refine o.alloc ae rfl fun O h6 H=>⟨keep H,H.alloc ae rfl fun ab h7 w=>⟨keep w,?_⟩⟩
    refine w.storeAll ae 2 rfl rfl (bH u) rfl rfl rfl rfl fun h8 B=>?_;obtain⟨R,X,k3,Y,I,_⟩:=keep B;refine⟨⟨R,X,k3,Y,I,trivial⟩,B.storeAll ae 3 rfl rfl (bH v) rfl rfl rfl rfl fun P j=>⟨trivial,[],j⟩⟩
   ·refine o.alloc ae rfl fun O h6 H=>⟨keep H,H.alloc ae rfl fun ab h7 w=>⟨keep w,?_⟩⟩
    refine w.storeAll ae 3 rfl rfl (bH u) rfl rfl rfl rfl fun h8 B=>?_;obtain⟨R,X,k3,Y,I,_⟩:=keep B;refine⟨⟨R,X,k3,Y,I,trivial⟩,B.storeAll ae 2 rfl rfl (bH v) rfl rfl rfl rfl fun P j=>⟨trivial,[],j.bo 4 [0,1,3,2]⟩⟩
  ·rintro⟨s1,s2⟩ P ⟨Bs,j⟩;dsimp only at j⊢;have J:=j.box 2 rfl;have L:=j.box 3 rfl;have ap:=D.2;refine⟨E.name,by rw[<-u1];exact J.cell0 rfl,E.name,by rw[<-v1];exact L.cell0 rfl,bg (fun e=>absurd e (by simp)) fun _=>?_⟩;refine⟨E.object,by rw[<-u2];exact J.cell rfl,E.object,by rw[<-v2];exact L.cell rfl,bQ (fun e=>absurd rfl e) fun _=>?_⟩;refine⟨E.length,by rw[<-u3];exact J.cell rfl,E.length,by rw[<-v3];exact L.cell rfl,bQ (fun e=>absurd rfl e) fun _=>?_⟩;refine⟨u.2.2.2,J.cell rfl,v.2.2.2,L.cell rfl,(Fa _ _ E.tries E.tries P (Seq.up u4 j.ai) (Seq.up v4 j.ai) (by omega)).mono ?_⟩;rintro _ a3 ⟨rfl,rfl⟩;refine⟨_,rfl,bg (fun e=>absurd e (by simp)) fun _=>⟨i+1,by rw[Go.Vc.wrap_small _ (by omega) (by omega)];rfl,⟨by omega,j.bo 2 [0,1]|>.Ru (As:=[_,_])⟩,by omega⟩⟩
 ·exact⟨rfl,.zip o.ai⟩
section
variable {B B':aA} {h0 h0' h h':Heap} {As As':List HP} {a b pw pw2:Addr} {d:bE}
end
section
variable {B:aA} {h0 h:Heap} {As:List HP} {a a2 pw pw2:Addr} {mc:List Value} {offs:Int} {da da2:List (Option Addr)} {w:Pow} {ds:bc}
end
section
variable {B:aA} {h0 h:Heap} {As:List HP} {a pw b:Addr} {x:cg} {offs:Int} {da:List (Option Addr)} {w:Pow} {ds:bc} {d:bE}
end
end Go.Proofs.YtdhamoojccmbdaaGreatDoor
namespace Go.Vc
open Go Wl Go.Proofs.YtdhamoojccmbdaaGreatDoor
def rV(l:List Int)(k:Nat):Int:=l.getD k 0
def iB(l:List Int):Pm:=CW (rV l 0) (rV l 1) (rV l 2)
def tR(l:List Int):Nat:=(2+rV l 4%4).toNat
def Ej(l:List Int):List Int:=(qC (tR l)).map fun i=>8+rV l (5+i)%50
def YT(l:List Int):Int:=rV l 3%7
theorem WL(l:List Int):2<=tR l/\tR l<=5:=by unfold tR;omega
theorem Ul(l:List Int):(Ej l).length=tR l:=by simp[Ej]
end Go.Vc
namespace Go.Proofs.YtdhamoojccmbdaaGreatDoor
open Go Go.Vc Go.Proofs Wl
section
variable {B:aA} {h0 h:Heap} {As:List HP} {a pw:Addr} {offs:Int} {da:List (Option Addr)} {w:Pow} {ds:bc}
theorem rX(s:Sl)(l:List Int)(k:Nat)(h:Heap)(a:Rd h s 1 aE l):ac vV Cd #[vM s.ptr s.len s.cap,vL vR k] h fun v h'=>v=vL vR (rV l k)/\h'=h:=by
 refine Bf s k ?_;unfold pr rV;have c:=a.len;refine ak (fun e=>?_) (fun e=>⟨?_,rfl⟩)
 ·have b:k<l.length:=by omega
  refine a.bv k rfl b (l.getD k 0) (by rw[getD_lt b];rfl) ⟨rfl,rfl⟩
 ·rw[qe,ze (by omega)];rfl
theorem Wa(s:Sl)(l:List Int)(h:Heap)(p:Rd h s 1 aE l):ac vV ww #[vM s.ptr s.len s.cap] h fun v h'=>∃r:Sl,v=.tuple #[kB (iB l),vL vR (YT l),vM r.ptr r.len r.cap]/\Sp h h' [an aS r 1 aE (Ej l)]:=by
 refine uo s ?_;unfold nc;refine(Sp.refl h).alloc ae rfl fun q J w=>?_;have a:=p.up w.ai;refine(rX s l 0 J a).mono ?_;rintro _ _ ⟨rfl,rfl⟩;refine⟨_,rfl,(rX s l 1 _ a).mono ?_⟩;rintro _ _ ⟨rfl,rfl⟩;refine⟨_,rfl,(rX s l 2 _ a).mono ?_⟩;rintro _ D ⟨rfl,rfl⟩;refine⟨_,rfl,(Yt _ _ _ D).mono ?_⟩;rintro _ P ⟨rfl,y⟩;have B:=w.up y.ai;refine⟨iB l,rfl,?_⟩;refine B.alloc ae rfl fun d O I=>?_;refine I.storeAll ae 1 rfl rfl [vL vR (iB l).1,vL vR (iB l).2.1,vL vR (iB l).2.2] rfl rfl rfl rfl fun z m=>?_;have m:Sp h z [an aS ⟨none,0,0⟩ 1 aE ((Ej l).take 0),au d aT [vL vR (iB l).1,vL vR (iB l).2.1,vL vR (iB l).2.2],au q aT [vL vR 0,vL vR 0,vL vR 0]]:=(m.nil aS 1 aE).bV [2,1,0];have Q:=WL l;have F:=Ul l;refine av (fun t:Sl×Nat=>(t.1,(t.2:Int))) (fun t h'=>t.2<=tR l/\Sp h h' [an aS t.1 1 aE ((Ej l).take t.2),au d aT [vL vR (iB l).1,vL vR (iB l).2.1,vL vR (iB l).2.2],au q aT [vL vR 0,vL vR 0,vL vR 0]]) (fun t=>tR l-t.2) (⟨none,0,0⟩,0) rfl ⟨by simp,m⟩ ?_;rintro⟨o,i⟩ h8 ⟨N,f⟩;dsimp only at*;have b:=p.up f.ai;refine(rX s l 4 h8 b).mono ?_;rintro _ _ ⟨rfl,rfl⟩;refine⟨_,rfl,(bK _ 4 _ (by decide) (by decide)).mono ?_⟩;rintro _ h8 ⟨rfl,rfl⟩;refine⟨_,rfl,?_⟩;have g:=f.box 1 rfl;dsimp only;rw[Go.Vc.wrap_small (2+rV l 4%4) (by omega) (by omega)];have k:2+rV l 4%4=(tR l:Int):=by unfold tR;omega
 rw[k];refine ak (fun e=>?_) (fun e=>?_)
 ·have K:i<tR l:=by omega
  rw[Go.Vc.wrap_small ((5:Int)+i) (by omega) (by omega)];have G:(5:Int)+i=((5+i:Nat):Int):=by omega
  rw[G];refine(rX s l (5+i) h8 b).mono ?_;rintro _ _ ⟨rfl,rfl⟩;refine⟨_,rfl,(bK _ 50 _ (by decide) (by decide)).mono ?_⟩;rintro _ x ⟨rfl,rfl⟩;refine⟨_,rfl,?_⟩;dsimp only;rw[Go.Vc.wrap_small (8+rV l (5+i)%50) (by omega) (by omega)];refine f.push ae 0 rfl nw rfl (by decide) (fun _=>rfl) ja (8+rV l (5+i)%50) rfl (by decide) (by simp;omega) fun L E n=>?_;refine⟨(L,i+1),by dsimp only;rw[Go.Vc.wrap_small _ (by omega) (by omega)];rfl,⟨by dsimp only;omega,?_⟩,by dsimp only;omega⟩;dsimp only;rw[aH _ _ (show i<(Ej l).length by omega)];have M:(Ej l)[i]'(by omega)=8+rV l (5+i)%50:=by simp[Ej]
  rw[M];exact n
 ·have j:i=tR l:=by omega
  subst j;rw[qi (by omega)]at f;have u:aq.ok [(d,(vL vR (iB l).1)),(d.add 1,(vL vR (iB l).2.1)),(d.add 2,(vL vR (iB l).2.2))] h8:=⟨g.cell0 rfl,g.cell rfl,g.cell rfl,trivial⟩
  refine⟨iB l,g.aQ _ rfl,(rX s l 3 h8 b).mono ?_⟩;rintro _ _ ⟨rfl,rfl⟩;refine⟨_,rfl,u,(bK _ 7 _ (by decide) (by decide)).mono ?_⟩;rintro _ H ⟨rfl,rfl⟩;refine⟨_,rfl,u,?_⟩;refine f.storeAll ae 2 rfl rfl [vL vR (iB l).1,vL vR (iB l).2.1,vL vR (iB l).2.2] rfl rfl rfl rfl fun A c=>⟨trivial,?_⟩
  exact⟨iB l,(c.box 2 rfl).aQ _ rfl,o,rfl,c.bV [0]⟩
theorem adm:(eP (1,1,1) 0 Pow.new [5]).1=0:=by decide+kernel
theorem YU:(bi (eP (1,1,1) 0 Pow.new [5]).2.2 (cu (1,1,1) 0 [5]).drives).length=1:=by decide+kernel
end
end Go.Proofs.YtdhamoojccmbdaaGreatDoor
namespace Wl
structure Mv where
 kind:Int
 name:ByteArray
 data:List UInt8
 slot:Int
 n:Int
 m:Int
 mask:Int
 keeps:List Int
 torns:List Int
def AT:List ByteArray:=[⟨#[97]⟩,⟨#[98]⟩,⟨#[99,97,116,45,55]⟩,⟨#[100]⟩,⟨#[101,49,50,51,52,53,54,55,56,57,48,49]⟩]
def nA(p:Int×Int×Int)(b:Mv):Prop:=
 (b.kind=1/\b.name∈AT/\(b.data.length:Int)<=3*(p.1*p.2.2)+1)∨((b.kind=2∨b.kind=3∨b.kind=5)/\b.name∈AT)∨b.kind=4∨
 (b.kind=6/\(0<=b.slot/\b.slot<9)/\6<=b.n/\b.n<66)∨(b.kind=7/\0<=b.slot/\b.slot<8)∨(b.kind=8/\(0<=b.slot/\b.slot<8)/\6<=b.n/\b.n<66)∨(b.kind=9/\0<=b.slot/\b.slot<8)∨
 (b.kind=10/\(-1<=b.n/\b.n<=7)/\-1<=b.m/\b.m<=68)∨(b.kind=11/\(0<=b.slot/\b.slot<7)/\(0<=b.n/\b.n<40)/\(0<=b.m/\b.m<61)/\0<=b.mask/\b.mask<4294967296)
end Wl
namespace Go.Vc
open Go Wl
abbrev pR(s:ByteArray):List Value:=[vO s]
abbrev WM:=Int×ByteArray×Sl×Int×Int×Int×Int×Sl×Sl
abbrev pS(x:WM):List Value:=[vL vR x.1,vO x.2.1,vM x.2.2.1.ptr x.2.2.1.len x.2.2.1.cap,vL vR x.2.2.2.1,vL vR x.2.2.2.2.1,vL vR x.2.2.2.2.2.1,vL vT x.2.2.2.2.2.2.1,vM x.2.2.2.2.2.2.2.1.ptr x.2.2.2.2.2.2.2.1.len x.2.2.2.2.2.2.2.1.cap,vM x.2.2.2.2.2.2.2.2.ptr x.2.2.2.2.2.2.2.2.len x.2.2.2.2.2.2.2.2.cap]
abbrev mvV(x:WM):Value:=vQ #[vL vR x.1,vO x.2.1,vM x.2.2.1.ptr x.2.2.1.len x.2.2.1.cap,vL vR x.2.2.2.1,vL vR x.2.2.2.2.1,vL vR x.2.2.2.2.2.1,vL vT x.2.2.2.2.2.2.1,vM x.2.2.2.2.2.2.2.1.ptr x.2.2.2.2.2.2.2.1.len x.2.2.2.2.2.2.2.1.cap,vM x.2.2.2.2.2.2.2.2.ptr x.2.2.2.2.2.2.2.2.len x.2.2.2.2.2.2.2.2.cap]
def nU:iC WM Mv:=⟨fun h q a b=>(a.1=b.kind/\a.2.1=b.name/\a.2.2.2.1=b.slot/\a.2.2.2.2.1=b.n/\a.2.2.2.2.2.1=b.m/\a.2.2.2.2.2.2.1=b.mask/\a.2.2.1.len<=a.2.2.1.cap)/\Seq h q a.2.2.1 1 aC b.data/\Seq h q a.2.2.2.2.2.2.2.1 1 aE b.keeps/\Seq h q a.2.2.2.2.2.2.2.2 1 aE b.torns,
 fun a d=>⟨a.1,a.2.1.ai d,a.2.2.1.ai d,a.2.2.2.ai d⟩,fun a c=>⟨a.1,a.2.1.mono c,a.2.2.1.mono c,a.2.2.2.mono c⟩⟩
theorem aeT:∀x,∀c∈pR x,c.oneCell'=true:=by intro x c a;simp[pR]at a;subst a;rfl
theorem agh:∀x,∀c∈pS x,c.oneCell'=true:=by intro x c a;simp[pS]at a;rcases a with rfl|rfl|rfl|rfl|rfl|rfl|rfl|rfl|rfl<;>rfl
end Go.Vc
namespace Go.Proofs.YtdhamoojccmbdaaGreatDoor
open Go Go.Vc Go.Proofs Wl
abbrev agi:bN C.toBR UE fS 1 [vO ⟨#[]⟩] 16:=⟨_,_,rfl,rfl,rfl,rfl,rfl,rfl⟩
abbrev zMv:List Value:=[vL vR 0,vO ⟨#[]⟩,vM none 0 0,vL vR 0,vL vR 0,vL vR 0,vL vT 0,vM none 0 0,vM none 0 0]
abbrev eMv:bN C.toBR PO gr 9 zMv 128:=⟨_,_,rfl,rfl,rfl,rfl,rfl,rfl⟩
theorem uG(n:Int)(h:Heap):ac vV Bt #[vL vR n] h fun v h'=>∃s∈AT,v=vO s/\Sp h h' []:=by
 refine xY n ?_;unfold oG;refine(Sp.refl h).lit ae pR agi rfl AT rfl (by decide) (by kernel_rfl) fun d b a=>?_;refine(bK n 5 b (by decide) (by decide)).mono ?_;rintro _ e ⟨rfl,rfl⟩;have f:=wY n (show(5:Int)≠0 by decide);have c:=z8 n (show(0:Int)<5 by decide);have g:AT.length=5:=rfl;refine⟨_,rfl,(a.seq 0 rfl fun _=>rfl).bv (n%5).toNat (by omega) (by omega) (AT[(n%5).toNat]'(by omega)) rfl ⟨_,qg _,rfl,.zip a.ai⟩⟩
theorem abv(p:Pm)(k a b:Int)(h:Heap)(T:bM p=true):ac vV Bj #[kB p,vL vR k,vL vR a,vL vR b] h fun v h'=>∃(x:WM) (m:Mv),v=mvV x/\nA p m/\Sp h h' [EA nU x m]:=by
 refine xV p k a b ?_;unfold oD;obtain⟨⟨P,U⟩,_,Q,O⟩:=(bU p).1 T;have V:1<=p.1*p.2.2/\p.1*p.2.2<=16*24:=⟨wu P Q (by omega) (by omega),wu U O (by omega) (by omega)⟩
 refine(Sp.refl h).boxed fun J h1 Z=>Z.alloc ae rfl fun a2 H f=>?_;have f:Sp h H [au J aT [vL vR p.1,vL vR p.2.1,vL vR p.2.2],au a2 gr zMv]:=f;have fin:∀(d e n m c:Int) (name:ByteArray) {h':Heap},Sp h h' [au J aT [vL vR p.1,vL vR p.2.1,vL vR p.2.2],au a2 gr zMv]->nA p ⟨d,name,[],e,n,m,c,[],[]⟩->
   ag vV (qf gr (vN (some a2)) (vQ #[vL vR d,vO name,vM none 0 0,vL vR e,vL vR n,vL vR m,vL vT c,vM none 0 0,vM none 0 0])) h' fun _ i=>
    ∃r:WM,aj i a2 0 (pS r)/\∃(x:WM) (m:Mv),mvV r=mvV x/\nA p m/\Sp h i [EA nU x m]:=by
  intro d e n m c name h' L E;refine L.storeAll ae 1 rfl rfl (pS (d,name,⟨none,0,0⟩,e,n,m,c,⟨none,0,0⟩,⟨none,0,0⟩)) rfl rfl rfl rfl fun i w=>?_;refine⟨(d,name,⟨none,0,0⟩,e,n,m,c,⟨none,0,0⟩,⟨none,0,0⟩),(w.box 1 rfl).aQ _ rfl,_,_,rfl,E,?_⟩;have M:Sp h i []:=.zip w.ai;exact M.comp (.one (aU.refl _ _) ⟨⟨rfl,rfl,rfl,rfl,rfl,rfl,ql _⟩,Seq.nil _ _ _ _ _ _,Seq.nil _ _ _ _ _ _,Seq.nil _ _ _ _ _ _⟩)
 refine(bK k 26 H (by decide) (by decide)).mono ?_;rintro _ h3 ⟨rfl,rfl⟩;have k0:=wY k (show(26:Int)≠0 by decide);have k1:=z8 k (show(0:Int)<26 by decide);have W:∀(x n:Int),0<n->0<=x%n/\x%n<n:=fun x n Y=>⟨wY x (by omega),z8 x Y⟩
 refine⟨_,rfl,ak (fun _=>?_) fun _=>?_⟩
 ·refine⟨by decide,p.1,(f.box 0 rfl).cell0 rfl,p.2.2,(f.box 0 rfl).cell rfl,(uG a h3).mono ?_⟩;rintro _ g ⟨s,j,rfl,o⟩;have y:=f.up o.ai;have X:qc vR ((qc vR ((qc vR ((3:Int)*p.1))*p.2.2))+(2:Int))=3*(p.1*p.2.2)+2:=by
   rw[Go.Vc.wrap_small (3*p.1) (by omega) (by omega),Int.mul_assoc,Go.Vc.wrap_small (3*(p.1*p.2.2)) (by omega) (by omega),Go.Vc.wrap_small _ (by omega) (by omega)]
  refine⟨s,rfl,⟨(y.box 0 rfl).cell rfl,(y.box 0 rfl).cell0 rfl,trivial⟩,?_⟩;rw[X];refine(bK _ (3*(p.1*p.2.2)+2) g (by omega) (by omega)).mono ?_;rintro _ t ⟨rfl,rfl⟩;obtain⟨q,B⟩:∃q,q=qc vR (wC a 5)%(3*(p.1*p.2.2)+2):=⟨_,rfl⟩
  have D:=W (qc vR (wC a 5)) (3*(p.1*p.2.2)+2) (by omega);rw[<-B]at D⊢;obtain⟨N,S⟩:∃N:Nat,q=N:=⟨q.toNat,by omega⟩
  subst S;refine⟨_,rfl,⟨(y.box 0 rfl).cell rfl,(y.box 0 rfl).cell0 rfl,trivial⟩,(Ms N b t (by omega)).mono ?_⟩;rintro _ R ⟨r,l,rfl,hl,K⟩;have G:=y.comp K;have u:=(K.own 0 rfl).cap;refine⟨r,rfl,⟨(G.box 0 rfl).cell rfl,(G.box 0 rfl).cell0 rfl,trivial⟩,?_⟩;refine G.storeAll ae 1 rfl rfl (pS (1,s,r,0,0,0,0,⟨none,0,0⟩,⟨none,0,0⟩)) rfl rfl rfl rfl fun h7 I=>?_;refine⟨trivial,(1,s,r,0,0,0,0,⟨none,0,0⟩,⟨none,0,0⟩),(I.box 1 rfl).aQ _ rfl,_,(⟨1,s,l,0,0,0,0,[],[]⟩:Mv),rfl,.inl ⟨rfl,j,by dsimp only;omega⟩,?_⟩;have H8:=I.bV [2];exact H8.gf 0 rfl fun q B=>⟨⟨rfl,rfl,rfl,rfl,rfl,rfl,u⟩,B.1.seq (fun _=>rfl) B.2,Seq.nil _ _ _ _ _ _,Seq.nil _ _ _ _ _ _⟩
 refine ak (fun _=>(uG a h3).mono ?_) fun _=>ak (fun _=>(uG a h3).mono ?_) fun _=>cx (fun _=>?_) fun _=>cx (fun _=>(uG a h3).mono ?_) fun _=>cx (fun _=>?_) fun _=>cx (fun _=>?_) fun _=>cx (fun _=>?_) fun _=>cx (fun _=>?_) fun _=>ak (fun _=>?_) fun _=>cx (fun _=>?_) fun _=>?_
 ·rintro _ g ⟨s,j,rfl,o⟩;exact⟨s,rfl,fin 2 0 0 0 0 s (f.up o.ai) (.inr (.inl ⟨.inl rfl,j⟩))⟩
 ·rintro _ g ⟨s,j,rfl,o⟩;exact⟨s,rfl,fin 3 0 0 0 0 s (f.up o.ai) (.inr (.inl ⟨.inr (.inl rfl),j⟩))⟩
 ·exact fin 4 0 0 0 0 _ f (.inr (.inr (.inl rfl)))
 ·rintro _ g ⟨s,j,rfl,o⟩;exact⟨s,rfl,fin 5 0 0 0 0 s (f.up o.ai) (.inr (.inl ⟨.inr (.inr rfl),j⟩))⟩
 ·refine(bK a 9 h3 (by decide) (by decide)).mono ?_;rintro _ g ⟨rfl,rfl⟩;refine⟨_,rfl,(bK b 60 g (by decide) (by decide)).mono ?_⟩;rintro _ t ⟨rfl,rfl⟩;have A:=W a 9 (by decide);have F:=W b 60 (by decide);refine⟨_,rfl,?_⟩;dsimp only;rw[Go.Vc.wrap_small (6+b%60) (by omega) (by omega)];exact fin 6 _ _ 0 0 _ f (.inr (.inr (.inr (.inl ⟨rfl,A,by dsimp only;omega,by dsimp only;omega⟩))))
 ·refine(bK a 8 h3 (by decide) (by decide)).mono ?_;rintro _ _ ⟨rfl,rfl⟩;exact⟨_,rfl,fin 7 _ 0 0 0 _ f (.inr (.inr (.inr (.inr (.inl ⟨rfl,W a 8 (by decide)⟩)))))⟩
 ·refine(bK a 8 h3 (by decide) (by decide)).mono ?_;rintro _ g ⟨rfl,rfl⟩;refine⟨_,rfl,(bK b 60 g (by decide) (by decide)).mono ?_⟩;rintro _ t ⟨rfl,rfl⟩;have A:=W a 8 (by decide);have F:=W b 60 (by decide);refine⟨_,rfl,?_⟩;dsimp only;rw[Go.Vc.wrap_small (6+b%60) (by omega) (by omega)];exact fin 8 _ _ 0 0 _ f (.inr (.inr (.inr (.inr (.inr (.inl ⟨rfl,A,by dsimp only;omega,by dsimp only;omega⟩))))))
 ·refine(bK a 8 h3 (by decide) (by decide)).mono ?_;rintro _ _ ⟨rfl,rfl⟩;exact⟨_,rfl,fin 9 _ 0 0 0 _ f (.inr (.inr (.inr (.inr (.inr (.inr (.inl ⟨rfl,W a 8 (by decide)⟩)))))))⟩
 ·refine(bK a 3 h3 (by decide) (by decide)).mono ?_;rintro _ g ⟨rfl,rfl⟩;refine⟨_,rfl,(bK b 20 g (by decide) (by decide)).mono ?_⟩;rintro _ t ⟨rfl,rfl⟩;have A:=W a 3 (by decide);have F:=W b 20 (by decide);exact⟨_,rfl,fin 10 0 _ _ 0 _ f (.inr (.inr (.inr (.inr (.inr (.inr (.inr (.inl ⟨rfl,by dsimp only;omega,by dsimp only;omega,by dsimp only;omega⟩))))))))⟩
 ·refine(bK a 9 h3 (by decide) (by decide)).mono ?_;rintro _ g ⟨rfl,rfl⟩;refine⟨_,rfl,(bK b 70 g (by decide) (by decide)).mono ?_⟩;rintro _ t ⟨rfl,rfl⟩;have A:=W a 9 (by decide);have F:=W b 70 (by decide);refine⟨_,rfl,?_⟩;dsimp only;rw[Go.Vc.wrap_small (a%9-1) (by omega) (by omega),Go.Vc.wrap_small (b%70-1) (by omega) (by omega)];exact fin 10 0 _ _ 0 _ f (.inr (.inr (.inr (.inr (.inr (.inr (.inr (.inl ⟨rfl,by dsimp only;omega,by dsimp only;omega,by dsimp only;omega⟩))))))))
 ·refine(bK a 7 h3 (by decide) (by decide)).mono ?_;rintro _ g ⟨rfl,rfl⟩;refine⟨_,rfl,by decide,(bK _ 40 g (by decide) (by decide)).mono ?_⟩;rintro _ t ⟨rfl,rfl⟩;refine⟨_,rfl,(bK b 61 t (by decide) (by decide)).mono ?_⟩;rintro _ R ⟨rfl,rfl⟩;have hw:∀z:Int,0<=qc vT z/\qc vT z<4294967296:=fun z=>by rw[OI];have:=(qA 32 z).isLt;omega
  exact⟨_,rfl,fin 11 _ _ _ _ _ f (.inr (.inr (.inr (.inr (.inr (.inr (.inr (.inr ⟨rfl,W a 7 (by decide),W _ 40 (by decide),W b 61 (by decide),hw _⟩))))))))⟩
theorem YV(p:Pm)(s:Sl)(l:List Int)(a:Nat)(h:Heap)(N:bM p=true)(g:Rd h s 1 aE l)(T:a<=100):
  ac vV xQ #[kB p,vM s.ptr s.len s.cap,vL vR a,vP false] h fun v h'=>∃(r:Sl) (L:List Mv),v=vM r.ptr r.len r.cap/\(∀m∈L,nA p m)/\L.length<=a/\Sp h h' [dv gr r 9 pS nU L]:=by
 refine xg p s a false ?_;unfold nI;have M:=g.len;refine(Sp.refl h).boxed fun u Q z=>?_;have z:Sp h Q [au u aT [vL vR p.1,vL vR p.2.1,vL vR p.2.2]]:=z;have fin:∀{h':Heap} (r:Sl) (L:List Mv),(∀m∈L,nA p m)->L.length<=a->Sp h h' [au u aT [vL vR p.1,vL vR p.2.1,vL vR p.2.2],dv gr r 9 pS nU L]->∃(n:Sl) (L:List Mv),(Value.slice r.ptr r.len r.cap)=vM n.ptr n.len n.cap/\(∀m∈L,nA p m)/\L.length<=a/\Sp h h' [dv gr n 9 pS nU L]:=fun r L q R I=>⟨r,L,rfl,q,R,I.bV [1]⟩
 refine ba ?_;refine av (fun t:Sl×List Mv=>(t.1,((3*t.2.length:Nat):Int))) (fun t h'=>(∀m∈t.2,nA p m)/\t.2.length<=a/\Sp h h' [au u aT [vL vR p.1,vL vR p.2.1,vL vR p.2.2],dv gr t.1 9 pS nU t.2]) (fun t=>a-t.2.length) (⟨none,0,0⟩,[]) rfl ⟨by simp,by simp,z.Rr gr 9 pS nU⟩ ?_;rintro⟨o,L⟩ K ⟨c,A,f⟩;dsimp only at c A f⊢;obtain⟨k,G⟩:∃k,k=L.length:=⟨_,rfl⟩
 rw[<-G]at A⊢;obtain⟨Y,U⟩:=f.afh 1 rfl;refine ba ?_;rw[Go.Vc.wrap_small (((3*k:Nat):Int)+2) (by omega) (by omega)];refine ak (fun X=>?_) fun _=>fin o L c (by omega) f;refine ak (fun Z=>?_) fun _=>fin o L c (by omega) f;have S:3*k+2<l.length:=by omega
 have J:k<a:=by omega
 refine ba (ba (bA (fun e=>by cases e) fun _=>bA (fun e=>by cases e) fun _=>?_));have d:=g.up f.ai;obtain⟨D,B,q,_,_⟩:=g.elem (3*k) l[3*k] (qd (by omega));have b:∀{h':Heap},Rd h' s 1 aE l->cellOf h' ((⟨D,B,none⟩:Addr).add (((3*k:Nat):Int).toNat*1))=some (vL vR l[3*k]):=fun{h'} hr=>by
  obtain⟨V,H,i,_,u3⟩:=hr.elem (3*k) l[3*k] (qd (by omega));rw[q]at i;injection i with i
  injection i with i u2
  subst i;subst u2;rw[qp,add_eq];have F:=u3.1;rw[add_eq,yl]at F;exact F
 refine⟨p,(f.box 0 rfl).aQ _ rfl,⟨D,B,none⟩,⟨q,by omega,by omega⟩,l[3*k],b d,by decide,?_⟩;rw[Go.Vc.wrap_small (((3*k:Nat):Int)+1) (by omega) (by omega)];refine d.bv (3*k+1) (by omega) (by omega) l[3*k+1] rfl ?_;refine d.bv (3*k+2) (by omega) (by omega) l[3*k+2] rfl ?_;refine(abv p _ _ _ K N).mono ?_;rintro _ h3 ⟨x,m,rfl,w,O⟩;have j:=f.comp O;refine⟨x,rfl,⟨b (g.up j.ai),trivial⟩,?_⟩;refine j.rp ae pS eMv rfl [x] rfl (show 1*9<=2^20 by decide) (by kernel_rfl) ⟨b (g.up j.ai),trivial⟩ ?_;refine j.HR ae 1 2 (by decide) rfl rfl eMv rfl (by decide) (fun _=>rfl) agh (by kernel_rfl) (by decide) (by omega) fun H W E=>?_;refine⟨⟨b (g.up E.ai),trivial⟩,(H,L++[m]),?_,⟨fun P y=>?_,by dsimp only;simp;omega,E.bV [0,1]⟩,by dsimp only;simp;omega⟩
 ·dsimp only;rw[Go.Vc.wrap_small (((3*k:Nat):Int)+3) (by omega) (by omega),qu,<-G];rfl
 ·rcases qE.1 y with h|h
  ·exact c P h
  ·rw[qG.1 h];exact w
theorem nA.put{p:Pm}{b:Mv}(h:nA p b)(a:b.kind=1):b.name∈AT/\(b.data.length:Int)<=3*(p.1*p.2.2)+1:=by
 unfold nA at h;rw[a]at h;rcases h with h|h|h|h|h|h|h|h|h
 ·exact h.2
 ·exact absurd h.1 (by decide)
 ·exact absurd h (by decide)
 all_goals exact absurd h.1 (by decide)
theorem nA.named{p:Pm}{b:Mv}(h:nA p b)(a:b.kind=2∨b.kind=3∨b.kind=5):b.name∈AT:=by
 unfold nA at h;rcases h with h|h|h|h|h|h|h|h|h
 ·exact h.2.1
 ·exact h.2
 ·omega
 all_goals omega
theorem adn:∀s∈AT,s.size<=12:=by decide+kernel
theorem aeU{p:Pm}{extra:Int}{l:List Int}(f:bM p=true)(g:0<=extra/\extra<=16)(k:1<=l.length/\l.length<=24)(h:∀x∈l,1<=x/\x<=512):
  xK p extra l=0/\bj l l.length=(qC l.length).map fun i:Nat=>(i:Int):=by
 have d:∀i (a:i<l.length),1<=l.getD i 0/\l.getD i 0<=512:=fun i a=>by rw[lm 0 a];exact h _ (qg a)
 have h0:bj l l.length=(qC l.length).map fun i:Nat=>(i:Int):=by
  unfold bj;refine wg.2 fun y b=>?_;obtain⟨i,a,rfl⟩:=qx.1 b;have a:=qH.1 a;have:=d i a;rw[qp];exact decide_eq_true (by omega)
 refine⟨?_,h0⟩;have j:(eO l).2=true:=by
  have c:l.all (eS · 0 512)=true:=qM.2 fun y b=>(lF _ _ _).2 ⟨by have:=h y b;omega,(h y b).2⟩;unfold eO;rw[if_pos c,h0];simp;omega
 have e:eS extra 0 16=true:=(lF _ _ _).2 g;have h3:((bj l l.length).any fun i=>decide (l.getD i.toNat 0<((bh (cu p extra l)).length:Int)))=false:=by
  refine zZ.2 fun y b=>?_;rw[h0]at b;obtain⟨i,a,rfl⟩:=qx.1 b;have a:=qH.1 a;have m:=QF p extra l k.2;have:=d i a;rw[qp,decide_eq_true_eq];omega
 unfold xK;rw[j,f,e,h3];rfl
theorem abw{p:Pm}{extra:Int}{l:List Int}{D:bc}{m:aG}(i:m=cu p extra l)(v:xK p extra l=0)(w:l.length<=64)(j:D.length=64)
  (t:∀s,cb D s=if s∈bj l l.length then some ⟨(l.getD s.toNat 0).toNat,bh m,0,[],false,false⟩else none) (C:Int->List UInt8):fZ m C D/\Full m C D/\PI m D:=by
 have b:bS m=true:=by rw[i];exact TC w v
 have n:m.drives=bj l l.length:=by rw[i];rfl
 have u:m.objs=[]:=by rw[i];rfl
 have f:∀k d,cb D k=some d->∀c∈d.l,c∈bh m:=fun k d a c f=>by
  rw[t]at a;split at a
  ·injection a with a;subst a;exact f
  ·cases a
 refine⟨⟨b,j,fun k d a c h=>Io C b (f k d a c h),fun e g=>by rw[u]at g;cases g⟩,⟨fun k q=>?_,fun e g=>by rw[u]at g;cases g⟩,fun k d a c h r o=>?_⟩
 ·rw[n]at q;refine⟨_,by rw[t,if_pos q],rfl,?_⟩;unfold mJ;rw[b,zS];exact qM.2 fun c f=>decide_eq_true f
 ·rw[lE (f k d a c h)]at o;cases o
theorem Da{m:aG}{i:Nat}{e:Wl.bW}(h:e∈(xO m i).objs):e∈m.objs:=by
 have h:e∈m.objs.take i++m.objs.drop (i+1):=h;rcases qE.1 h with h|h
 ·exact zK h
 ·exact List.mem_of_mem_drop h
theorem agk(m:aG)(i:Nat):(xO m i).objs=m.objs.eraseIdx i:=by
 show m.objs.take i++m.objs.drop (i+1)=_;rw[List.eraseIdx_eq_take_drop_succ]
theorem ado{m:aG}(b:bS m=true)(l:m.seq<=2147483646)(i:Nat):bS (xO m i)=true:=by
 obtain⟨d,f,h3,g,j,c,k⟩:=(ce m).1 b;obtain⟨n,a2,a3,a4⟩:=(dK m).1 d;have a:(xO m i).objs.Sublist m.objs:=by rw[agk];exact List.eraseIdx_sublist ..
 refine(ce _).2 ⟨(dK _).2 ⟨⟨?_,?_⟩,a2,a3,a4⟩,f,h3,zl a.length_le g,fun e h=>?_,c.sublist a,k.sublist a⟩
 ·show 1<=m.seq+1;omega
 ·show m.seq+1<=_;omega
 ·exact(gn _ _).2 ((gn _ _).1 (j e (Da h)))
structure Inv (m:aG) (C:Int->List UInt8) (ds:bc) (N:Nat):Prop where
 sto:fZ m C ds
 full:Full m C ds
 low:PI m ds
 nm:∀e∈m.objs,e.name∈AT
 dr:m.drives≠[]
 seq:m.seq<=1+N
 nx:m.next<=N
theorem adp{m:aG}{C:Int->List UInt8}{ds:bc}{N:Nat}(I:Inv m C ds N):m.objs.length<=5:=by
 have h:(m.objs.map Wl.bW.name).Nodup:=by
  have b:=((ce m).1 I.sto.may).2.2.2.2.2.1;exact vk.2 (b.imp fun h=>AR h)
 have:=Ud h (m:=AT) fun x a=>by
  obtain⟨e,c,rfl⟩:=qx.1 a;exact I.nm e c
 rw[qw]at this;exact this
theorem Inv.step{m:aG}{C:Int->List UInt8}{ds:bc}{N:Nat}(I:Inv m C ds N):Inv m C ds (N+1):=⟨I.sto,I.full,I.low,I.nm,I.dr,by have:=I.seq;omega,by have:=I.nx;omega⟩
theorem Inv.put{m:aG}{C:Int->List UInt8}{ds:bc}{N:Nat}{name:ByteArray}{b:List UInt8}(I:Inv m C ds N)(d:name∈AT):
  (∃e,e≠0/\gB m 0 Pow.new ds name b=(e,m,Pow.new,ds))∨(cP m false ds name b.length=0/\∃t a,cy m.p m.next (bn m.p b).length=some t/\gB m 0 Pow.new ds name b=(0,dg m ⟨name,m.next,b.length,t⟩,Pow.new,a)/\Inv (dg m ⟨name,m.next,b.length,t⟩) (kb C m.next b) a (N+1)):=by
 rcases WJ (offs:=0) (name:=name) (b:=b) Eb I.sto with⟨h,_⟩|⟨hr,t,a,ht,c,S',hds⟩
 ·exact .inl h
 ·refine .inr ⟨hr,t,a,ht,c,S',I.full.put I.sto hr ht S' hds,I.low.put I.sto hr ht hds,fun e c=>?_,I.dr,?_,?_⟩
  ·rcases rS.1 c with c|rfl
   ·exact I.nm e c
   ·exact d
  ·have:=I.seq;show m.seq+1<=_;omega
  ·have:=I.nx;show m.next+1<=_;omega
theorem Inv.del{m:aG}{C:Int->List UInt8}{ds:bc}{N:Nat}{name:ByteArray}(I:Inv m C ds N)(j:N<=1000):
  (m.objs.any (dm name)=false/\dX m 0 Pow.new ds name=(5,m,Pow.new,ds))∨(m.objs.any (dm name)=true/\((df m ds m.drives (fun _=>((bh (xO m (m.objs.findIdx (dm name)))).length:Int))=false/\dX m 0 Pow.new ds name=(7,m,Pow.new,ds))∨
   ∃a,dX m 0 Pow.new ds name=(0,xO m (m.objs.findIdx (dm name)),Pow.new,a)/\Inv (xO m (m.objs.findIdx (dm name))) C a (N+1))):=by
 have h:=I.seq;cases ha:m.objs.any (dm name)with
 |false=>exact .inl ⟨rfl,by unfold dX;rw[if_neg (by decide),if_pos ha]⟩
 |true=>
  obtain⟨i,f⟩:∃i,i=m.objs.findIdx (dm name):=⟨_,rfl⟩
  have e:dX m 0 Pow.new ds name=dO m 0 Pow.new ds (xO m i):=by
   unfold dX;rw[if_neg (by decide),if_neg (by rw[ha];decide),if_neg (by omega),f]
  have d:bi ds (xO m i).drives=m.drives:=I.full.bi;rw[e,<-f];refine .inr ⟨rfl,?_⟩;have c:=ado I.sto.may (by omega) i;rcases YN (offs:=0) Eb I.sto rfl c rfl rfl (vE _) (fun x b=>Da b)with⟨h1,h2⟩|⟨_,a,h1,S',hds⟩
  ·rw[d]at h1;exact .inl ⟨h1.resolve_left I.dr,h2⟩
  ·exact .inr ⟨a,h1,S',I.full.Uf I.sto c rfl rfl rfl (fun x b=>Da b) hds,I.low.Uf rfl rfl (fun x b=>Da b) hds,fun e g=>I.nm e (Da g),I.dr,by show m.seq+1<=_;omega,by have:=I.nx;show m.next<=_;omega⟩
theorem Inv.get{m:aG}{C:Int->List UInt8}{ds:bc}{N:Nat}(I:Inv m C ds N){e:Wl.bW}(a:e∈m.objs):nz m 0 Pow.new ds e.name=(C e.object,0):=by
 rw[(I.sto.get rfl e.name).1 e a rfl,if_pos (I.full.can I.sto I.dr a)]
theorem Ov{a:Nat}:∀{l:List (List UInt8)},(∀x∈l,x.length=a)->l.flatten.length=l.length*a
 |[],_=>by simp
 |x::l,h=>by
  rw[List.flatten_cons,qu,h x q8,Ov fun y b=>h y (qU _ b),zi,zI];omega
theorem YW(p:Pm)(l:Sl)(c:List (List UInt8))(n:Int)(h:Heap)(R:gg h l 1 aC c)(hn:n<=2^20)(Y:c.length<=2^10):
  ac vV PX #[kB p,vM l.ptr l.len l.cap,vL vR n] h fun v h'=>∃(r:Sl) (b:Bool),v=.tuple #[vM r.ptr r.len r.cap,vP b]/\Sp h h' [EA (gh 1 aC) r (mZ p c n)]:=by
 refine Nx p l n ?_;unfold Gu;have s:=R.len;refine(Sp.refl h).boxed fun H Q E=>?_;have E:Sp h Q [au H aT [vL vR p.1,vL vR p.2.1,vL vR p.2.2]]:=E;have f:∀{h':Heap},Sp h h' [au H aT [vL vR p.1,vL vR p.2.1,vL vR p.2.2]]->mZ p c n=[]->∃(r:Sl) (b:Bool),(.tuple #[vM none 0 0,vP false]:Value)=.tuple #[vM r.ptr r.len r.cap,vP b]/\Sp h h' [EA (gh 1 aC) r (mZ p c n)]:=fun S U=>by
  rw[U];exact⟨⟨none,0,0⟩,false,rfl,(((S.nil aD 1 aC).bV [1]).Xa 0 rfl fun _=>rfl)⟩
 refine ba ⟨p,(E.box 0 rfl).aQ _ rfl,(dN p Q).mono ?_⟩;rintro _ V ⟨rfl,T⟩;have z:=E.up T.ai;refine⟨_,rfl,bg (fun e=>f z (by unfold mZ;rw[if_neg (by rintro⟨h,_⟩;rw[e]at h;cases h)])) fun e1=>ak (fun e=>f z (by unfold mZ;rw[if_neg (by rintro⟨_,h,_⟩;omega)])) fun e2=>?_⟩;have D:bM p=true:=by simpa using e1
 refine⟨p,(z.box 0 rfl).aQ _ rfl,(uz p n V (by omega)).mono ?_⟩;rintro _ h3 ⟨rfl,R3⟩;have L:=z.up R3.ai;refine⟨_,rfl,bQ (fun e=>f L (by unfold mZ;rw[if_neg (by rintro⟨_,_,h,_⟩;rw[s]at e;exact e h)])) fun P=>?_⟩;have J:(c.length:Int)=countP p n:=by rw[s]at P;exact P
 obtain⟨s1,s2,s3⟩:=kD D;refine av (fun t:Sl×Nat=>(t.1,(t.2:Int))) (fun t h'=>t.2<=c.length/\(∀x∈c.take t.2,x.length=dn p)/\Sp h h' [au H aT [vL vR p.1,vL vR p.2.1,vL vR p.2.2],an aD t.1 1 aC (c.take t.2).flatten]) (fun t=>c.length-t.2) (⟨none,0,0⟩,0) rfl ⟨by simp,by simp,L.nil aD 1 aC⟩ ?_;rintro⟨o,i⟩ Z ⟨M,a,w⟩;dsimp only at M a w⊢;refine ak (fun e=>?_) fun e=>?_
 ·have g:i<c.length:=by
   have e':(i:Int)<(l.len:Int):=e;omega
  refine(R.up w.ai).get i rfl g fun r O=>⟨p,(w.box 0 rfl).aQ _ rfl,(Ho p Z D).mono ?_⟩
  rintro _ h5 ⟨rfl,K⟩;have A:=w.up K.ai;have y:=O.len;refine⟨_,rfl,bQ (fun B=>?_) fun B=>?_⟩
  ·refine f (A.bV [0]) ?_;unfold mZ;rw[if_neg];rintro⟨_,_,_,h⟩;have:=of_decide_eq_true (qM.1 h _ (qg g));exact B (by rw[y,this])
  ·have F:c[i].length=dn p:=by rw[y]at B;exact vH.1 B
   have u:=Ov a;rw[List.length_take_of_le M]at u;have hb:i*dn p<=2^10*2^10:=wb (by omega) (by omega);refine A.append ae 1 rfl fP ⟨_,_,rfl,rfl⟩ rfl (by decide) (fun _=>rfl) (Seq.up O K.ai) ge (by omega) fun o' h6 H6=>?_;refine⟨(o',i+1),by dsimp only;rw[Go.Vc.wrap_small _ (by omega) (by omega)];rfl,⟨by dsimp only;omega,?_,?_⟩,by dsimp only;omega⟩
   ·dsimp only;intro x m;rw[aH _ _ g]at m;rcases qE.1 m with m|m
    ·exact a x m
    ·rw[qG.1 m];exact F
   ·dsimp only;rw[aH _ _ g,List.flatten_append];simpa using H6
 ·rw[qi (by have e':¬(i:Int)<(l.len:Int):=e;omega)]at a w;have u:=Ov a;have j:=w.own 1 rfl;have G:=j.len;obtain⟨k,hk⟩:∃k:Nat,n=k:=⟨n.toNat,by omega⟩
  subst hk;have d:=Jk D k;have I:(countP p (k:Int)).toNat=c.length:=by omega
  rw[I,<-u,<-G]at d;have X:mZ p c (k:Int)=c.flatten.take k:=by
   unfold mZ;rw[if_pos ⟨D,by omega,J,qM.2 fun x m=>decide_eq_true (a x m)⟩,qp]
  refine XD ae fP k rfl rfl (zl d j.cap) ?_;refine⟨⟨o.ptr,k,k⟩,true,rfl,?_⟩;rw[X];have A:=(w.bV [1]).Xa 0 rfl fun _=>rfl;refine A.gf 0 rfl fun q W=>?_;have N:=Seq.take W k (by omega);exact⟨N.1,N.2⟩
section
variable {B:aA} {h0 h:Heap} {As:List HP} {a pw:Addr} {offs:Int} {da:List (Option Addr)} {w:Pow} {ds:bc} {m:aG}
theorem Wb(x:cg)(o:bS m=true)(H:aa B h0 h (bm bz a pw (aV x) offs da w ds::cO x m::As)):
  ac vV DN #[vN (some a)] h fun v h'=>v=vP (rU m ds)/\Sp h h' []:=by
 refine Cj (some a) ?_;unfold re;have z:=rT o;have t:=mq o;refine(Sp.refl h).boxed fun i N c=>?_;have c:Sp h N [au i nj [vN (some a)]]:=c;have u:=H.up c.ai;refine⟨some a,(c.box 0 rfl).cell0 rfl,(fY x m (u.at 1 rfl) z u).mono ?_⟩;rintro _ K ⟨A,rfl,p⟩;have f:=c.comp p;have L:(bi ds m.drives).length<=64:=zl (q7 _ _) t;refine⟨A,rfl,(Ps Bv #[] #[vN (some i)] (ML m ds) A (bi ds m.drives) K (by rfl) (p.seq 0 rfl fun _=>rfl) (by omega) ?_).mono ?_⟩
 ·intro k M h3 j;have g:=u.up (p.up j.ai).ai;have l:cw h3 i nj [vN (some a)]:=(f.up j.ai).box 0 rfl;obtain⟨ok,F⟩:=aa.cJ g;obtain⟨q,d,r,_⟩:=xL M;have D:=lG o k q;refine xZ k i ?_;unfold oH;obtain⟨n,rfl⟩:∃n:Nat,k=n:=⟨k.toNat,by omega⟩
  have G:n<da.length:=by rw[ok.la];omega
  have J:cellOf h3 ((a.add 10).add ((n:Int).toNat*1))=some (.pointer da[n]):=by
   rw[qp,wN];refine F.xx 10 n ?_;rw[sZ ok.l8,qd G];rfl
  have y:og da (n:Int)=da[n]:=by unfold og;rw[if_pos (by omega),qp,qd G];rfl
  obtain⟨b,s,O,e,_⟩:=Uh r g;refine⟨some a,l.cell0 rfl,a,rfl,⟨by omega,by omega⟩,da[n],J,some a,l.cell0 rfl,a,rfl,x,F.aQ _ rfl,?_⟩;rw[<-y,e];refine(Ui x m r e (g.at 1 rfl) z g).mono ?_;rintro _ P ⟨rfl,E⟩;have I:=(l.ai E.ai l.lt).cell0 rfl;refine⟨_,rfl,⟨I,I,trivial⟩,?_,E⟩;unfold ML;rw[r]
 ·rintro _ h3 ⟨rfl,j⟩;exact⟨_,rfl,rfl,.zip (f.up j.ai).ai⟩
theorem aeV{name:ByteArray}{l:List Wl.bW}{i:Int}(h:XX (dm name) l i):(i<0/\l.find? (dm name)=none)∨∃(n:Nat) (a:n<l.length),i=n/\l.find? (dm name)=some l[n]:=by
 rcases h with⟨rfl,h⟩|⟨n,a,rfl,h1,h2⟩
 ·exact .inl ⟨by decide,wL.2 fun e b=>zZ.1 h e b⟩
 ·refine .inr ⟨n,a,rfl,wD.2 ⟨h1,l.take n,l.drop (n+1),?_,fun e b=>?_⟩⟩
  ·rw[<-qT a,qD]
  ·have:=zZ.1 h2 e b;simpa using this
theorem adq(x:cg)(name:ByteArray)(N:bS m=true)(K:∀k d,cb ds k=some d->d.l.length<=512)(H:aa B h0 h (bm bz a pw (aV x) offs da w ds::cO x m::As)):
  ac vV sG #[vN (some a),vO name] h fun v h'=>∃r:Sl,v=.tuple #[vM r.ptr r.len r.cap,vL vR (nz m offs w ds name).2]/\Sp h h' [EA (gh 1 aC) r (nz m offs w ds name).1]:=by
 refine Fe (some a) name ?_;unfold tW;have hz:=rT N;have a0:=mq N;have a1:(bi ds m.drives).length<=64:=zl (q7 _ _) a0;have f:∀{h':Heap} (e:Int),Sp h h' []->nz m offs w ds name=([],e)->∃r:Sl,(.tuple #[vM none 0 0,vL vR e]:Value)=.tuple #[vM r.ptr r.len r.cap,vL vR (nz m offs w ds name).2]/\Sp h h' [EA (gh 1 aC) r (nz m offs w ds name).1]:=fun e R he=>by
  rw[he];exact⟨⟨none,0,0⟩,rfl,(R.nil aD 1 aC).Xa 0 rfl fun _=>rfl⟩
 refine(td H).mono ?_;rintro _ M ⟨rfl,rfl⟩;refine⟨_,rfl,bA (fun e=>f 14 (Sp.refl _) (by unfold nz;rw[if_pos e])) fun e1=>?_⟩;refine(find_spec x m name (H.at 1 rfl) hz H).mono ?_;rintro _ h2 ⟨⟨i,rfl,hi⟩,R2⟩;have H2:=H.up R2.ai;refine⟨i,rfl,?_⟩;rcases aeV hi with⟨hneg,hf⟩|⟨n,hn,rfl,hf⟩
 ·exact ak (fun _=>f 5 R2 (by unfold nz;rw[if_neg (by rw[e1];decide),hf])) fun e=>absurd hneg e
 refine ak (fun e=>absurd e (Int.not_lt.2 (zT n))) fun _=>?_;obtain⟨E,hE⟩:∃E,E=m.objs[n]:=⟨_,rfl⟩
 have ad:E∈m.objs:=by rw[hE];exact qg hn
 have ep:nz m offs w ds name=BO m ds E:=by unfold nz;rw[if_neg (by rw[e1];decide),hf,hE]
 rw[ep]at f⊢;refine(Wb x N H2).mono ?_;rintro _ h3 ⟨rfl,R3⟩;have H3:=H2.up R3.ai;have A:Sp M h3 []:=R2.up R3.ai;refine⟨_,rfl,bg (fun e=>f 11 A (by unfold BO;rw[if_pos e])) fun e3=>?_⟩;have e3:rU m ds=true:=by simpa using e3
 have O:=(gn m E).1 (((ce m).1 N).2.2.2.2.1 E ad);have a6:E.tries.length<=8:=by have:=uE O.2.2.1.2;omega
 have ah:=((dK m).1 ((ce m).1 N).1).2.2.1;have ap:=(aa.cJ H3).2;have am:eG M x m:=H.at 1 rfl;obtain⟨ys,F⟩:=cm.fix am.objs;have a7:=F.2.1;have s:=Fix.row F hn;obtain⟨xe,V⟩:∃xe,xe=ys[n]'(by omega):=⟨_,rfl⟩
 rw[<-hE,<-V]at s;refine⟨a,rfl,x.2.2.2.2.2.2.2,ap.cell rfl,(Seq.up F.1 A.ai).dD (g:=bH) n rfl (by omega) xe (by rw[V]) ?_⟩;refine(Sp.refl h3).alloc ae rfl fun a8 h4 Q4=>?_;refine Q4.storeAll ae 0 rfl rfl (bH xe) rfl rfl rfl rfl fun h5 Z=>?_;have Z:Sp h3 h5 [au a8 aX (bH xe)]:=Z;have R5:Sp M h5 [au a8 aX (bH xe)]:=A.comp Z;have T:Rd M xe.2.2.2 1 aE E.tries:=s.2;have a4:=T.len;have eo:xe.2.1=E.object:=s.1.2.1;have el:xe.2.2.1=E.length:=s.1.2.2;have R5:=R5.FN aF aD 1 aC;refine⟨xe.2.2.2,(Z.box 0 rfl).cell rfl,?_⟩;refine av (fun t:Sl×Nat=>(t.1,(t.2:Int))) (fun t h'=>t.2<=E.tries.length/\(∀j,j<t.2->(jn m ds E.object E.tries j).2=0)/\Sp M h' [dP t.1 ((qC t.2).map fun j=>(jn m ds E.object E.tries j).1),au a8 aX (bH xe)]) (fun t=>E.tries.length-t.2) (⟨none,0,0⟩,0) rfl ⟨by simp,fun j u=>absurd u (Nat.not_lt_zero _),R5⟩ ?_;rintro⟨o,k⟩ h6 ⟨hk,J,y⟩;dsimp only at hk J y⊢;have H6:=H.up y.ai;have X:=(aa.cJ H6).2;have Y:eG h6 x m:=H6.at 1 rfl;have cp:∀{h':Heap},cw h' a fK (dz (aV x) pw offs da)->aj h' (a.add 2) 0 [vL vR m.p.1,vL vR m.p.2.1,vL vR m.p.2.2]:=fun{h'} hb=>by
  rw[<-Y.p];exact⟨by rw[addr_add];exact hb.cell rfl,by rw[addr_add];exact hb.cell rfl,by rw[addr_add];exact hb.cell rfl,trivial⟩
 refine ak (fun e=>?_) fun e=>?_
 ·have G:k<E.tries.length:=by
   have e':(k:Int)<(xe.2.2.2.len:Int):=e;omega
  refine(Seq.up T y.ai).bv k rfl G E.tries[k] rfl ?_;refine ba ⟨a,rfl,x,X.aQ _ rfl,xe.2.1,(y.box 1 rfl).cell rfl,(fY x m Y hz H6).mono ?_⟩;rintro _ h7 ⟨lv,rfl,R7⟩;have H7:=H6.up R7.ai;have q:=(aa.cJ H7).2;have U:=y.up R7.ai;refine⟨lv,rfl,⟨(U.box 1 rfl).cell rfl,q.cell0 rfl,q.cell rfl,q.cell rfl,q.cell rfl,q.cell rfl,q.cell rfl,q.cell rfl,q.cell rfl,trivial⟩,?_⟩;rw[eo];refine(TB x m lv (bi ds m.drives) E.object k (H7.at 1 rfl) hz (R7.seq 0 rfl fun _=>rfl) (by omega) (fun j u=>by obtain⟨_,d,hd,_⟩:=xL u;exact⟨d,hd⟩) H7).mono ?_;rintro _ h8 ⟨r,ss,rfl,R8⟩;have H8:=H7.up R8.ai;have S:=(aa.cJ H8).2;have L:=U.up R8.ai;refine⟨r,rfl,trivial,ba ⟨a,rfl,m.p,cp S,xe.2.1,(L.box 1 rfl).cell rfl,(uA xe.2.1 k E.tries[k] h8).mono ?_⟩⟩;rintro _ h9 ⟨rfl,rfl⟩;obtain⟨c1,c2,c3,_⟩:=cp S;have D:Fix kC 2 piv h9 (fun b=>b<h9.size) r ss (ic m ds (bi ds m.drives) E.object k):=R8.at 0 rfl;have ab:fA MI h9 r (ic m ds (bi ds m.drives) E.object k):=⟨ss,D.1,D.2.1,D.2.2⟩
  have a9:(ic m ds (bi ds m.drives) E.object k).length<=64*512:=by
   unfold ic;refine zl (Oo (c:=512) fun j u=>?_) (zG _ a1);obtain⟨_,d,hd,_⟩:=xL u;unfold th;rw[hd];have M:=Yk m E.object k d.l;have h2:=K j d hd;show(xJ m E.object k d.l).length<=512;omega
  rw[eo];refine⟨_,rfl,⟨c1,c2,c3,trivial⟩,(YL m.p (cK E.object k E.tries[k]) r _ h9 ab (by omega)).mono ?_⟩;rintro _ bd ⟨a2,rfl,I⟩;have eb:mK m.p (cK E.object k E.tries[k]) (ic m ds (bi ds m.drives) E.object k)=jn m ds E.object E.tries k:=by
   unfold jn;rw[lm 0 G]
  rw[eb]at I⊢;have W:=L.up I.ai;refine⟨(a2,(jn m ds E.object E.tries k).2),rfl,trivial,bQ (fun e4=>f 11 (.zip W.ai) ?_) fun e4=>?_⟩
  ·unfold BO;rw[if_neg (by rw[e3];decide),if_neg];intro Q;exact e4 (of_decide_eq_true (qM.1 Q k (qH.2 G)))
  ·have ax:=(L.comp I).bo 3 [0,2,1];refine aa.HU ae ax fq (by simp;omega) fun o' a5 a3=>?_;refine⟨(o',k+1),by dsimp only;rw[Go.Vc.wrap_small _ (by omega) (by omega)];rfl,⟨by dsimp only;omega,fun j u=>?_,?_⟩,by dsimp only;omega⟩
   ·rcases zn.1 u with u|rfl
    ·exact J j u
    ·simpa using e4
   ·dsimp only;rw[zF,qQ];exact a3
 ·have ay:k=E.tries.length:=by
   have e':¬(k:Int)<(xe.2.2.2.len:Int):=e;omega
  subst ay;refine⟨a,rfl,m.p,cp X,xe.2.2.1,(y.box 1 rfl).cell rfl,?_⟩;rw[el];have z:E.length<=2^20:=by
   obtain⟨⟨k1,k2⟩,_,z1,z2⟩:=(bU m.p).1 ah;have:m.p.1*m.p.2.2<=16*24:=wu k2 z2 (by omega) (by omega);have:=O.2.2.1.2;omega
  refine(YW m.p o _ E.length h6 (y.OE fun _=>rfl) z (by simp;omega)).mono ?_;rintro _ bb ⟨P,b,rfl,ao⟩;have eg:BO m ds E=(mZ m.p ((qC E.tries.length).map fun k=>(jn m ds E.object E.tries k).1) E.length,0):=by
   unfold BO;rw[if_neg (by rw[e3];decide),if_pos (qM.2 fun j u=>decide_eq_true (J j (qH.1 u)))]
  rw[eg];exact⟨(P,b),rfl,trivial,P,rfl,((y.comp ao).bV [2])⟩
end
end Go.Proofs.YtdhamoojccmbdaaGreatDoor
