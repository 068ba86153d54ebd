/- Part of the proofs that the laws of this seat answer true whatever the input reads, and leave it as it was; no condition. -/
import Derived.Test.YtdhamoojccmbdaaGreatDoorKB
import Derived.Test.YtdhamoojccmbdaaGreatDoorKC
import Derived.Test.YtdhamoojccmbdaaGreatDoorPlI
import Derived.Test.YtdhamoojccmbdaaGreatDoorTabS
import Derived.Test.YtdhamoojccmbdaaGreatDoorPlA
import Derived.Test.YtdhamoojccmbdaaGreatDoorKA
import Derived.Test.YtdhamoojccmbdaaGreatDoorPlG
set_option linter.unusedVariables false
set_option linter.unusedSimpArgs false
open Go.Proofs.Tryz renaming prog -> xl
open Go.Value renaming agg -> xg, bool -> xf, int -> vX, pointer -> vZ, slice -> vY, string -> xd
open Go.IntKind renaming i64 -> xh, u32 -> xj, wrap -> qc
open Go.Instr renaming slice -> vJ, sliceAt -> wE, sliceBound -> va, sliceBounds -> zQ, storeAt -> qf
open Int renaming emod_lt_of_pos -> wC, emod_nonneg -> yk, le_refl -> vQ, mul_le_mul -> wi, mul_pos -> vR, natCast_mul -> wh, natCast_nonneg -> zO, ofNat_inj -> vT, tdiv -> wH, toNat_natCast -> qo, toNat_of_nonneg -> yN
open List renaming all_eq_true -> qM, any_eq_false -> z6, any_eq_true -> wm, append_nil -> qQ, countP_le_length -> vB, drop_eq_getElem_cons -> qW, filter_eq_self -> wq, find?_eq_none -> z8, find?_eq_some_iff_append -> wL, find?_some -> vK, findIdx_lt_length_of_exists -> yH, flatMap_cons -> zl, flatMap_nil -> wj, getD_eq_getElem?_getD -> qe, getElem?_eq_getElem -> qd, getElem?_eq_none -> zf, getElem_mem -> qg, length_append -> qw, length_cons -> zb, length_filter_le -> qY, length_map -> qx, length_mergeSort -> wx, length_range -> zw, length_take -> qZ, map_append -> qS, map_cons -> zT, mem_append -> qB, mem_cons_of_mem -> qO, mem_cons_self -> qU, mem_filter -> qI, mem_flatMap -> zo, mem_map -> qu, mem_of_find?_eq_some -> yB, mem_of_mem_take -> zM, mem_range -> qF, mem_singleton -> qH, mem_take_iff_getElem -> w8, nodup_range -> yR, pairwise_iff_getElem -> zd, pairwise_map -> w4, range -> qC, range_succ -> zI, take_append_drop -> qE, take_left -> vx, take_length -> qR, take_of_length_le -> qi, take_succ_eq_append_getElem -> zu
open Prod renaming fst -> qJ
open Nat renaming add_zero -> w9, le_refl -> ql, le_trans -> q9, lt_succ_iff_lt_or_eq -> zq, min_eq_left -> w6, mul_le_mul -> we, mul_le_mul_right -> zr, mul_one -> wJ, succ_mul -> zJ, zero_le -> w7
open BitVec renaming ofInt -> qA
open Bool renaming true_and -> zU
open Option renaming map_some -> qN
set_option maxRecDepth 100000
namespace Go.Proofs.YtdhamoojccmbdaaGreatDoor
open Go Go.Vc Go.Proofs Wl
section
variable {B:aA} {h0 h:Heap} {As:List HP} {a pw b:Addr} {mc:List Value} {offs:Int} {da:List (Option Addr)} {w:Pow} {ds:aW} {d:bC}
def jy(a cells:Int):Bool:=decide ((0<=a/\a<64)/\1<=cells/\cells<=512)
end
end Go.Proofs.YtdhamoojccmbdaaGreatDoor
namespace Go.Vc
open Go Wl
section
variable {k:JU} {B:aA} {h0 h:Heap} {As:List HP} {a pw b:Addr} {mc:List Value} {offs:Int} {da:List (Option Addr)} {w:Pow} {ds:aW} {d:bC} {n:Nat}
end
end Go.Vc
namespace Go.Proofs.YtdhamoojccmbdaaGreatDoor
open Go Go.Vc Go.Proofs Wl
section
variable {B:aA} {h0 h:Heap} {As:List HP} {a pw b:Addr} {offs:Int} {da:List (Option Addr)} {w:Pow} {ds:aW} {d:bC}
end
section
variable {B:aA} {h0 h:Heap} {As:List HP} {a pw:Addr} {offs:Int} {da:List (Option Addr)} {w:Pow} {ds:aW} {mc:List Value}
theorem NL{k:Int}{d:bC}(e:bG ds k=some d)(H:aa B h0 h (bn bA a pw mc offs da w ds::As)):∃(b:Addr) (s g:Sl),mX da k=some b/\cy h b cE (gS pw d s g)/\gr h s 1 aB d.l/\gm d:=by
 obtain⟨ok,_⟩:=aa.cI H;rcases oE ok k with⟨h1,_⟩|⟨n,d',b,rfl,hn,h1,h2,h3,h4⟩
 ·rw[h1]at e;cases e
 ·rw[h2]at e;injection e with e
  subst e;obtain⟨m,c,j⟩:=Go.Vc.aa.mW H h1;rw[h3]at c;injection c with c
  injection c with c
  subst c;obtain⟨f,s,g,i⟩:=aa.uT j;exact⟨b,s,g,h4,i.box 0 rfl,(i.bo 2 [1,0]).PG fun _=>rfl,f⟩
theorem Ve{k:Int}{d:bC}{b:Addr}(x:cv)(m:aE)(e:bG ds k=some d)(o:mX da k=some b)(p:ff h x m)(n:dp m)(H:aa B h0 h (bn bA a pw mc offs da w ds::As)):
  ae xl Ff #[vZ (some b),go x] h fun v h'=>v=xf (ne m d.l)/\Sp h h' []:=by
 obtain⟨q,s,j,c,i,f,g⟩:=NL e H;rw[o]at c;injection c with c
 subst c;exact Zl b pw d s j x m h i f g p n
end
def ic(a pw:Addr)(b:List (Option Addr))(offs:Int)(w:Pow)(ds:aW)(m:aE):HP:=HP.ex fun x:cv=>(bn bA a pw (aZ x) offs b w ds).sep (dl x m)
section
variable {B:aA} {h0 h:Heap} {As:List HP} {a pw:Addr} {offs:Int} {da:List (Option Addr)} {w:Pow} {ds:aW} {m:aE}
theorem xr(H:aa B h0 h (ic a pw da offs w ds m::As)):∃x,aa B h0 h (bn bA a pw (aZ x) offs da w ds::dl x m::As):=by
 obtain⟨x,H⟩:=H.IJ;exact⟨x,H.Lz.xx⟩
theorem Lh{x:cv}(H:aa B h0 h (bn bA a pw (aZ x) offs da w ds::dl x m::As)):aa B h0 h (ic a pw da offs w ds m::As):=
 aa.Ly (F:=fun x:cv=>(bn bA a pw (aZ x) offs da w ds).sep (dl x m)) x H.xx.pA
end
section
variable {B:aA} {h0 h:Heap} {As:List HP} {a pw:Addr} {offs:Int} {da:List (Option Addr)} {w:Pow} {ds:aW} {m:aE}
theorem acx(H:aa B h0 h (ic a pw da offs w ds m::As)):ds.length=64/\∀k d,bG ds k=some d->d.l.length<=d.room/\d.room<=512/\gm d:=by
 obtain⟨x,H⟩:=xr H;obtain⟨ok,_⟩:=aa.cI H;refine⟨ok.ls,fun k d e=>?_⟩;obtain⟨b,s,f,_,_,_,c⟩:=NL e H;exact⟨c.len,c.room,c⟩
theorem ZS(p:Pm)(extra:Int)(s:Sl)(l:List Int)(f:St B h0 As fun h=>Rd h s 1 aD l)(k:l.length<=64)(d:Ap p extra l=0)(g:w=Pow.new)(H:aa B h0 h (dR bD pw w::As)):
  ae xl pO #[kA p,vX xh extra,vZ (some pw),vY s.ptr s.len s.cap] h fun v h'=>∃(a:Addr) (da:List (Option Addr)) (D:aW),v=.tuple #[vZ (some a),vX xh 0]/\D.length=64/\
   (∀s,bG D s=if s∈bj l l.length then some ⟨(l.getD s.toNat 0).toNat,be (ce p extra l),0,[],false,false⟩else none)/\aa B h0 h' (ic a pw da 0 Pow.new D (ce p extra l)::As):=by
 subst g;obtain⟨D,i,j,c⟩:=abU (p:=p) (extra:=extra) (l:=l) k d;refine(JY p extra s l f (by omega) H).mono ?_;rintro _ h' ⟨_,b⟩;rw[i]at b;obtain⟨a,y,da,rfl,e⟩:=b rfl;exact⟨a,da,D,rfl,j,c,Lh e⟩
theorem agj(name:ByteArray)(s:Sl)(b:List UInt8)(j:St B h0 As fun h=>Rd h s 1 aB b)(e:s.len<=s.cap)(k:name.size<=2^40)(c:bP m=true)(d:b.length<=2^20)(H:aa B h0 h (ic a pw da offs w ds m::As)):
  ae xl td #[vZ (some a),xd name,vY s.ptr s.len s.cap] h fun v h'=>v=vX xh (ga m offs w ds name b).1/\
   aa B h0 h' (ic a pw da offs (ga m offs w ds name b).2.2.1 (ga m offs w ds name b).2.2.2 (ga m offs w ds name b).2.1::As):=by
 obtain⟨x,H⟩:=xr H;obtain⟨l,n,i,f⟩:=(dD m).1 ((bS m).1 c).1;refine(adZ x m name s b j e k (DD c) i f (ko c) (kZ c) (by omega) (by omega) d H).mono ?_;rintro _ h' ⟨rfl,y,g⟩;exact⟨rfl,Lh g⟩
end
end Go.Proofs.YtdhamoojccmbdaaGreatDoor
namespace Wl
open Go Go.Proofs.YtdhamoojccmbdaaGreatDoor Go.Vc
def ul(m:aE)(i:Nat):aE:={m with seq:=m.seq+1,objs:=m.objs.take i++m.objs.drop (i+1)}
def eU(m:aE)(offs:Int)(w:Pow)(ds:aW)(name:ByteArray):Int×aE×Pow×aW:=
 if eF w offs then(14,m,w,ds)else if m.objs.any (bR name)=false then(5,m,w,ds)else if m.seq>=2147483647 then(7,m,w,ds)else
 dU m offs w ds (ul m (m.objs.findIdx (bR name)))
end Wl
namespace Go.Vc
open Go
theorem Vf{C:Ctx}{t e k:Nat}{z:List Value}{c:Nat}{h:Heap}{s:Sl}(b:C.Ok)(a:bN C.toCB t e k z c){x y u:Int}(i j n:Nat)(L:x=i)(F:y=j)(G:u=n)(o:i<=j)(m:j<=n)(h3:n<=s.cap){K:Sl->Heap->Prop}(g:∀v,K v h):
  av C.P (wE t (vY s.ptr s.len s.cap) (some (vX xh x)) (some (vX xh y)) (some (vX xh u))) (.one (.sc .slc)) h K:=by
 subst L;subst F;subst G;have J:aI C.P (zQ true s.len s.cap (some (vX xh (i:Int))) (some (vX xh (j:Int))) (some (vX xh (n:Int)))) (i,j,n):=fun w=>by
  have B:¬((n:Int)<0):=by omega
  have x2:¬((s.cap:Int)<(n:Int)):=by omega
  have x3:(n:Int)<=(s.cap:Int):=by omega
  have M:(0:Int)<=(n:Int):=by omega
  have r:(0:Int)<=(j:Int):=by omega
  have f:(0:Int)<=(i:Int):=by omega
  have E:(j:Int)<=(n:Int):=by omega
  have A:(i:Int)<=(j:Int):=by omega
  have q:¬((j:Int)<0):=by omega
  have I:¬((i:Int)<0):=by omega
  have l:¬((n:Int)<(j:Int)):=by omega
  have D:¬((j:Int)<(i:Int)):=by omega
  have H:¬(n<j):=by omega
  have p:¬(j<i):=by omega
  have d:¬(s.cap<n):=by omega
  simp[zQ,va,asIntOf,B,x2,x3,M,r,f,E,A,q,I,l,D,H,p,d,o,m,h3]
 unfold av wE;refine ac.bind (ac.always (aG (a.under b)) ?_);show ac C.P (vJ t (vY s.ptr s.len s.cap) (some (vX xh (i:Int))) (some (vX xh (j:Int))) (some (vX xh (n:Int)))) h _;unfold vJ;refine ac.bind (ac.always (aG (a.under b)) ?_);refine ac.bind (ac.always J ?_);refine ac.bind (ac.always (a.size b) ?_);exact ac.pure' ⟨⟨_,_,_⟩,rfl,g _⟩
end Go.Vc
namespace Go.Proofs.YtdhamoojccmbdaaGreatDoor
open Go Go.Vc Go.Proofs Wl
section
variable {B:aA} {h0 h:Heap} {As:List HP} {a pw:Addr} {offs:Int} {da:List (Option Addr)} {w:Pow} {ds:aW} {m:aE} {s:Sl}
theorem WW(d:List dZ)(i:Nat)(j:i<d.length)(o:d.length<=2^30)(H:aa B h0 h (an aV s 4 bI d::As)):
  ae xl mO #[vY s.ptr s.len s.cap,vX xh i,vX xh (i+1)] h fun v h'=>∃r:Sl,v=vY r.ptr r.len r.cap/\aa B h0 h' (an aV r 4 bI (d.take i++d.drop (i+1))::As):=by
 refine mz s i (i+1) ?_;unfold iD;have c:=H.own 0 rfl;have q:=c.len;have k:=c.cap;refine Vf af Pj i (i+1) s.len rfl rfl rfl (by omega) (by omega) k fun _=>?_;refine cw (fun e=>absurd e (by omega)) fun _=>⟨⟨by omega,by omega⟩,⟨by omega,by omega⟩,?_⟩
 have m:((i:Int)+1).toNat=i+1:=by omega
 rw[m,qo];refine H.On af 0 rfl Pj ⟨_,_,rfl,rfl⟩ (fun _=>rfl) Ph i j fun l b=>⟨trivial,⟨by omega,by dsimp only;omega,by dsimp only;omega⟩,?_⟩
 have b:aa B h0 l (an aV s 4 bI ((d.take i++d.drop (i+1))++d.drop (d.length-1))::As):=b;have a:(d.take i++d.drop (i+1)).length=d.length-1:=by simp;omega
 dsimp only;rw[qo,qo];refine b.oK af 0 rfl Pj (fun _=>rfl) rfl (by intro v g;simp at g;rcases g with rfl|rfl|rfl<;>rfl) (d.length-1) (by simp;omega) fun p f=>?_;have n:((d.take i++d.drop (i+1))++d.drop (d.length-1)).take (d.length-1)=d.take i++d.drop (i+1):=by
  rw[<-a,vx]
 rw[n]at f;exact⟨⟨s.ptr,d.length-1,s.cap⟩,rfl,f⟩
theorem Vg(name:ByteArray)(x:cv)(m:aE)(G:bP m=true)(H:aa B h0 h (bn bA a pw (aZ x) offs da w ds::dl x m::As)):
  ae xl oP #[vZ (some a),xd name] h fun v h'=>v=vX xh (eU m offs w ds name).1/\
   ∃y,aa B h0 h' (bn bA a pw (aZ y) offs da (eU m offs w ds name).2.2.1 (eU m offs w ds name).2.2.2::dl y (eU m offs w ds name).2.1::As):=by
 refine BP (some a) name ?_;unfold pP;have r:=DD G;have T:=kZ G;obtain⟨g1,g2,g3,g4⟩:=(dD m).1 ((bS m).1 G).1;have Y:=((bS m).1 G).2.2.2.1;refine(pk H).mono ?_;rintro _ h1 ⟨rfl,rfl⟩;refine⟨_,rfl,bs (fun e=>?_) fun Q=>?_⟩
 ·have g:eU m offs w ds name=(14,m,w,ds):=by unfold eU;rw[if_pos e]
  rw[g];exact⟨rfl,x,H⟩
 refine(find_spec x m name (H.at 1 rfl) r H).mono ?_;rintro _ S ⟨⟨i,rfl,W⟩,R2⟩;have A:=H.up R2.ai;refine⟨i,rfl,?_⟩;rcases W with⟨rfl,hno⟩|⟨n,hn,rfl,c,hbef⟩
 ·refine ak (fun _=>?_) fun e=>absurd (by decide) e;have g:eU m offs w ds name=(5,m,w,ds):=by unfold eU;rw[if_neg (by rw[Q];decide),if_pos hno]
  rw[g];exact⟨rfl,x,A⟩
 have f:m.objs.any (bR name)=true:=wm.2 ⟨_,qg hn,c⟩;have t:m.objs.findIdx (bR name)=n:=by
  rw[List.findIdx_eq hn];refine⟨c,fun j hj=>?_⟩;have:=z6.1 hbef (m.objs[j]'(by omega)) (w8.2 ⟨j,by omega,rfl⟩);simpa using this
 have D:=(aa.cI A).2;have z:ff S x m:=A.at 1 rfl;dsimp only;refine ak (fun e=>absurd e (Int.not_lt.2 (zO n))) fun _=>⟨a,rfl,x.1,D.cell0 rfl,?_⟩
 rw[z.seq];refine ak (fun J=>?_) fun J=>?_
 ·have g:eU m offs w ds name=(7,m,w,ds):=by unfold eU;rw[if_neg (by rw[Q];decide),if_neg (by rw[f];decide),if_pos J]
  rw[g];exact⟨rfl,x,A⟩
 refine⟨a,rfl,x,D.aO _ rfl,(so x m S z r).mono ?_⟩;rintro _ h3 ⟨y,L,pool,rfl,E,s,hL,R3⟩;have H3:=(A.comp R3).front;refine⟨y,rfl,H3.alloc af rfl fun a3 h4 K=>?_⟩;have K:=K.bM;refine K.storeAll af 0 rfl rfl (aZ y) rfl rfl rfl rfl fun Z I=>?_;have I:aa B h0 Z (aq a3 aF (aZ y)::eO 1 aD pool::an aT y.2.2.2.2.2.2.1 1 aD m.drives::an aV y.2.2.2.2.2.2.2 4 bI (L.map qJ)::bn bA a pw (aZ x) offs da w ds::dl x m::As):=I;refine⟨y.1,(I.box 0 rfl).cell0 rfl,?_⟩;rw[E.1,Go.Vc.wrap_small (m.seq+1) (by omega) (by omega)];refine I.jS af 0 rfl rfl [vX xh (m.seq+1)] rfl rfl rfl (by simp[Value.cells]) fun h6 q=>?_;have q:aa B h0 h6 (aq a3 aF (vX xh (m.seq+1)::(aZ y).drop 1)::eO 1 aD pool::an aT y.2.2.2.2.2.2.1 1 aD m.drives::an aV y.2.2.2.2.2.2.2 4 bI (L.map qJ)::bn bA a pw (aZ x) offs da w ds::dl x m::As):=q;refine⟨_,(q.box 0 rfl).cell rfl,?_⟩;have ab:L.length=m.objs.length:=by rw[<-s,qx]
 have q:=q.bo 6 [3,0,1,2,4,5];rw[Go.Vc.wrap_small ((n:Int)+1) (by omega) (by omega)];refine(WW (L.map qJ) n (by rw[qx];omega) (by rw[qx];omega) q).mono ?_;rintro _ U ⟨o,rfl,O⟩;have O:aa B h0 U (aq a3 aF (vX xh (m.seq+1)::(aZ y).drop 1)::eO 1 aD pool::an aT y.2.2.2.2.2.2.1 1 aD m.drives::an aV o 4 bI ((L.map qJ).take n++(L.map qJ).drop (n+1))::bn bA a pw (aZ x) offs da w ds::dl x m::As):=O.bo 6 [1,2,3,0,4,5];refine⟨o,rfl,O.store af 0 rfl rfl 7 [vY o.ptr o.len o.cap] rfl rfl rfl (by simp[Value.cells]) fun h8 F=>?_⟩;obtain⟨b,d⟩:∃b:cv,b=(m.seq+1,y.2.1,y.2.2.1,y.2.2.2.1,y.2.2.2.2.1,y.2.2.2.2.2.1,y.2.2.2.2.2.2.1,o):=⟨_,rfl⟩
 have ed:b.2.2.2.2.2.2.1=y.2.2.2.2.2.2.1:=by rw[d]
 have eo:b.2.2.2.2.2.2.2=o:=by rw[d]
 obtain⟨L2,k⟩:∃L2,L2=L.take n++L.drop (n+1):=⟨_,rfl⟩
 have P:L2.map qJ=(L.map qJ).take n++(L.map qJ).drop (n+1):=by rw[k,qS,List.map_take,List.map_drop]
 have F:aa B h0 h8 (aq a3 aF (aZ b)::eO 1 aD pool::an aT b.2.2.2.2.2.2.1 1 aD m.drives::an aV b.2.2.2.2.2.2.2 4 bI (L2.map qJ)::bn bA a pw (aZ x) offs da w ds::dl x m::As):=by rw[ed,eo,P,d];exact F
 refine⟨b,(F.box 0 rfl).aO _ rfl,?_⟩;obtain⟨M,u⟩:∃M,M=ul m n:=⟨_,rfl⟩
 have H9:aa B h0 h8 (dl b M::bn bA a pw (aZ x) offs da w ds::dl x m::As):=aa.KV (m:=M) (L:=L2) (pool:=pool) (by rw[u,d];exact⟨rfl,E.2.1,E.2.2.1,E.2.2.2⟩)
  (by rw[u,k,qS,List.map_take,List.map_drop,s];rfl) (fun p c=>hL p (by
   rw[k]at c;rcases qB.1 c with c|c
   ·exact zM c
   ·exact List.mem_of_mem_drop c)) (by rw[u];exact F.bo 6 [1,2,3,4,5])
 have R:dp M:=by
  rw[u];have sub:∀e,e∈m.objs.take n++m.objs.drop (n+1)->e∈m.objs:=fun e l=>by
   rcases qB.1 l with l|l
   ·exact zM l
   ·exact List.mem_of_mem_drop l
  refine⟨r.dr,?_,?_⟩
  ·have:=r.ob;show(m.objs.take n++m.objs.drop (n+1)).length<=_;simp;omega
  ·exact fun e l=>r.nm e (sub e l)
 refine(WH x m b M (As:=dl b M::As) (St.ij 0 rfl fun _ V=>V) r R (by omega) (H9.bo 3 [1,2,0])).mono ?_;rintro _ ad ⟨rfl,X,N⟩;have g:eU m offs w ds name=dU m offs w ds M:=by
  unfold eU;rw[if_neg (by rw[Q];decide),if_neg (by rw[f];decide),if_neg J,t,u]
 rw[g];exact⟨_,rfl,rfl,X,N.bo 3 [0,1]⟩
theorem ZT(name:ByteArray)(b:bP m=true)(H:aa B h0 h (ic a pw da offs w ds m::As)):
  ae xl oP #[vZ (some a),xd name] h fun v h'=>v=vX xh (eU m offs w ds name).1/\
   aa B h0 h' (ic a pw da offs (eU m offs w ds name).2.2.1 (eU m offs w ds name).2.2.2 (eU m offs w ds name).2.1::As):=by
 obtain⟨x,H⟩:=xr H;refine(Vg name x m b H).mono ?_;rintro _ h' ⟨rfl,y,c⟩;exact⟨rfl,Lh c⟩
end
section
variable {B B':aA} {h0 h0' h h':Heap} {As As':List HP} {a b pw pw2:Addr} {d:bC}
end
section
variable {B:aA} {h0 h:Heap} {As:List HP} {a a2 pw pw2:Addr} {mc:List Value} {offs:Int} {da da2:List (Option Addr)} {w:Pow} {ds:aW}
end
section
variable {B:aA} {h0 h:Heap} {As:List HP} {a pw b:Addr} {x:cv} {offs:Int} {da:List (Option Addr)} {w:Pow} {ds:aW} {d:bC}
end
end Go.Proofs.YtdhamoojccmbdaaGreatDoor
namespace Go.Vc
open Go Wl Go.Proofs.YtdhamoojccmbdaaGreatDoor
def sD(l:List Int)(k:Nat):Int:=l.getD k 0
def iL(l:List Int):Pm:=DE (sD l 0) (sD l 1) (sD l 2)
def Ax(l:List Int):Nat:=(2+sD l 4%4).toNat
def Iz(l:List Int):List Int:=(qC (Ax l)).map fun i=>8+sD l (5+i)%50
def ZU(l:List Int):Int:=sD l 3%7
theorem agk(l:List Int):2<=Ax l/\Ax l<=5:=by unfold Ax;omega
theorem aez(l:List Int):(Iz l).length=Ax l:=by simp[Iz]
end Go.Vc
namespace Go.Proofs.YtdhamoojccmbdaaGreatDoor
open Go Go.Vc Go.Proofs Wl
section
variable {B:aA} {h0 h:Heap} {As:List HP} {a pw:Addr} {offs:Int} {da:List (Option Addr)} {w:Pow} {ds:aW}
theorem sE(s:Sl)(l:List Int)(k:Nat)(h:Heap)(a:Rd h s 1 aD l):ae xl CN #[vY s.ptr s.len s.cap,vX xh k] h fun v h'=>v=vX xh (sD l k)/\h'=h:=by
 refine BQ s k ?_;unfold pR sD;have c:=a.len;refine ak (fun e=>?_) (fun e=>⟨?_,rfl⟩)
 ·have b:k<l.length:=by omega
  refine a.bz k rfl b (l.getD k 0) (by rw[getD_lt b];rfl) ⟨rfl,rfl⟩
 ·rw[qe,zf (by omega)];rfl
theorem WX(s:Sl)(l:List Int)(h:Heap)(w:Rd h s 1 aD l):ae xl xL #[vY s.ptr s.len s.cap] h fun v h'=>∃r:Sl,v=.tuple #[kA (iL l),vX xh (ZU l),vY r.ptr r.len r.cap]/\Sp h h' [an aT r 1 aD (Iz l)]:=by
 refine uM s ?_;unfold nF;refine(Sp.refl h).alloc af rfl fun u D q=>?_;have b:=w.up q.ai;refine(sE s l 0 D b).mono ?_;rintro _ _ ⟨rfl,rfl⟩;refine⟨_,rfl,(sE s l 1 _ b).mono ?_⟩;rintro _ _ ⟨rfl,rfl⟩;refine⟨_,rfl,(sE s l 2 _ b).mono ?_⟩;rintro _ I ⟨rfl,rfl⟩;refine⟨_,rfl,(Zs _ _ _ I).mono ?_⟩;rintro _ O ⟨rfl,M⟩;have K:=q.up M.ai;refine⟨iL l,rfl,?_⟩;refine K.alloc af rfl fun c P y=>?_;refine y.storeAll af 1 rfl rfl [vX xh (iL l).1,vX xh (iL l).2.1,vX xh (iL l).2.2] rfl rfl rfl rfl fun x k=>?_;have k:Sp h x [an aT ⟨none,0,0⟩ 1 aD ((Iz l).take 0),aq c aP [vX xh (iL l).1,vX xh (iL l).2.1,vX xh (iL l).2.2],aq u aP [vX xh 0,vX xh 0,vX xh 0]]:=(k.nil aT 1 aD).bO [2,1,0];have Q:=agk l;have F:=aez l;refine aw (fun t:Sl×Nat=>(t.1,(t.2:Int))) (fun t h'=>t.2<=Ax l/\Sp h h' [an aT t.1 1 aD ((Iz l).take t.2),aq c aP [vX xh (iL l).1,vX xh (iL l).2.1,vX xh (iL l).2.2],aq u aP [vX xh 0,vX xh 0,vX xh 0]]) (fun t=>Ax l-t.2) (⟨none,0,0⟩,0) rfl ⟨by simp,k⟩ ?_;rintro⟨o,i⟩ h8 ⟨N,d⟩;dsimp only at*;have a:=w.up d.ai;refine(sE s l 4 h8 a).mono ?_;rintro _ _ ⟨rfl,rfl⟩;refine⟨_,rfl,(bW _ 4 _ (by decide) (by decide)).mono ?_⟩;rintro _ h8 ⟨rfl,rfl⟩;refine⟨_,rfl,?_⟩;have g:=d.box 1 rfl;dsimp only;rw[Go.Vc.wrap_small (2+sD l 4%4) (by omega) (by omega)];have m:2+sD l 4%4=(Ax l:Int):=by unfold Ax;omega
 rw[m];refine ak (fun e=>?_) (fun e=>?_)
 ·have E:i<Ax l:=by omega
  rw[Go.Vc.wrap_small ((5:Int)+i) (by omega) (by omega)];have H:(5:Int)+i=((5+i:Nat):Int):=by omega
  rw[H];refine(sE s l (5+i) h8 a).mono ?_;rintro _ _ ⟨rfl,rfl⟩;refine⟨_,rfl,(bW _ 50 _ (by decide) (by decide)).mono ?_⟩;rintro _ z ⟨rfl,rfl⟩;refine⟨_,rfl,?_⟩;dsimp only;rw[Go.Vc.wrap_small (8+sD l (5+i)%50) (by omega) (by omega)];refine d.push af 0 rfl me rfl (by decide) (fun _=>rfl) jp (8+sD l (5+i)%50) rfl (by decide) (by simp;omega) fun L G j=>?_;refine⟨(L,i+1),by dsimp only;rw[Go.Vc.wrap_small _ (by omega) (by omega)];rfl,⟨by dsimp only;omega,?_⟩,by dsimp only;omega⟩;dsimp only;rw[aJ _ _ (show i<(Iz l).length by omega)];have A:(Iz l)[i]'(by omega)=8+sD l (5+i)%50:=by simp[Iz]
  rw[A];exact j
 ·have n:i=Ax l:=by omega
  subst n;rw[qi (by omega)]at d;have p:ar.ok [(c,(vX xh (iL l).1)),(c.add 1,(vX xh (iL l).2.1)),(c.add 2,(vX xh (iL l).2.2))] h8:=⟨g.cell0 rfl,g.cell rfl,g.cell rfl,trivial⟩
  refine⟨iL l,g.aO _ rfl,(sE s l 3 h8 a).mono ?_⟩;rintro _ _ ⟨rfl,rfl⟩;refine⟨_,rfl,p,(bW _ 7 _ (by decide) (by decide)).mono ?_⟩;rintro _ J ⟨rfl,rfl⟩;refine⟨_,rfl,p,?_⟩;refine d.storeAll af 2 rfl rfl [vX xh (iL l).1,vX xh (iL l).2.1,vX xh (iL l).2.2] rfl rfl rfl rfl fun B f=>⟨trivial,?_⟩
  exact⟨iL l,(f.box 2 rfl).aO _ rfl,o,rfl,f.bO [0]⟩
theorem aeA:(eT (1,1,1) 0 Pow.new [5]).1=0:=by decide+kernel
theorem ZV:(bg (eT (1,1,1) 0 Pow.new [5]).2.2 (ce (1,1,1) 0 [5]).drives).length=1:=by decide+kernel
end
end Go.Proofs.YtdhamoojccmbdaaGreatDoor
namespace Wl
structure Mv where
 kind:Int
 name:ByteArray
 data:List UInt8
 slot:Int
 n:Int
 m:Int
 mask:Int
 keeps:List Int
 torns:List Int
def FM:List ByteArray:=[⟨#[97]⟩,⟨#[98]⟩,⟨#[99,97,116,45,55]⟩,⟨#[100]⟩,⟨#[101,49,50,51,52,53,54,55,56,57,48,49]⟩]
def um(p:Int×Int×Int)(b:Mv):Prop:=
 (b.kind=1/\b.name∈FM/\(b.data.length:Int)<=3*(p.1*p.2.2)+1)∨((b.kind=2∨b.kind=3∨b.kind=5)/\b.name∈FM)∨b.kind=4∨
 (b.kind=6/\(0<=b.slot/\b.slot<9)/\6<=b.n/\b.n<66)∨(b.kind=7/\0<=b.slot/\b.slot<8)∨(b.kind=8/\(0<=b.slot/\b.slot<8)/\6<=b.n/\b.n<66)∨(b.kind=9/\0<=b.slot/\b.slot<8)∨
 (b.kind=10/\(-1<=b.n/\b.n<=7)/\-1<=b.m/\b.m<=68)∨(b.kind=11/\(0<=b.slot/\b.slot<7)/\(0<=b.n/\b.n<40)/\(0<=b.m/\b.m<61)/\0<=b.mask/\b.mask<4294967296)
end Wl
namespace Go.Vc
open Go Wl
abbrev Ay(s:ByteArray):List Value:=[xd s]
abbrev QL:=Int×ByteArray×Sl×Int×Int×Int×Int×Sl×Sl
abbrev iP(x:QL):List Value:=[vX xh x.1,xd x.2.1,vY x.2.2.1.ptr x.2.2.1.len x.2.2.1.cap,vX xh x.2.2.2.1,vX xh x.2.2.2.2.1,vX xh x.2.2.2.2.2.1,vX xj x.2.2.2.2.2.2.1,vY x.2.2.2.2.2.2.2.1.ptr x.2.2.2.2.2.2.2.1.len x.2.2.2.2.2.2.2.1.cap,vY x.2.2.2.2.2.2.2.2.ptr x.2.2.2.2.2.2.2.2.len x.2.2.2.2.2.2.2.2.cap]
abbrev mvV(x:QL):Value:=xg #[vX xh x.1,xd x.2.1,vY x.2.2.1.ptr x.2.2.1.len x.2.2.1.cap,vX xh x.2.2.2.1,vX xh x.2.2.2.2.1,vX xh x.2.2.2.2.2.1,vX xj x.2.2.2.2.2.2.1,vY x.2.2.2.2.2.2.2.1.ptr x.2.2.2.2.2.2.2.1.len x.2.2.2.2.2.2.2.1.cap,vY x.2.2.2.2.2.2.2.2.ptr x.2.2.2.2.2.2.2.2.len x.2.2.2.2.2.2.2.2.cap]
def gW:je QL Mv:=⟨fun h q a b=>(a.1=b.kind/\a.2.1=b.name/\a.2.2.2.1=b.slot/\a.2.2.2.2.1=b.n/\a.2.2.2.2.2.1=b.m/\a.2.2.2.2.2.2.1=b.mask/\a.2.2.1.len<=a.2.2.1.cap)/\Seq h q a.2.2.1 1 aB b.data/\Seq h q a.2.2.2.2.2.2.2.1 1 aD b.keeps/\Seq h q a.2.2.2.2.2.2.2.2 1 aD b.torns,
 fun a d=>⟨a.1,a.2.1.ai d,a.2.2.1.ai d,a.2.2.2.ai d⟩,fun a c=>⟨a.1,a.2.1.mono c,a.2.2.1.mono c,a.2.2.2.mono c⟩⟩
theorem agl:∀x,∀c∈Ay x,c.oneCell'=true:=by intro x c a;simp[Ay]at a;subst a;rfl
theorem ahA:∀x,∀c∈iP x,c.oneCell'=true:=by intro x c a;simp[iP]at a;rcases a with rfl|rfl|rfl|rfl|rfl|rfl|rfl|rfl|rfl<;>rfl
end Go.Vc
namespace Go.Proofs.YtdhamoojccmbdaaGreatDoor
open Go Go.Vc Go.Proofs Wl
abbrev ahB:bN C.toCB Vz gB 1 [xd ⟨#[]⟩] 16:=⟨_,_,rfl,rfl,rfl,rfl,rfl,rfl⟩
abbrev zMv:List Value:=[vX xh 0,xd ⟨#[]⟩,vY none 0 0,vX xh 0,vX xh 0,vX xh 0,vX xj 0,vY none 0 0,vY none 0 0]
abbrev eMv:bN C.toCB QR eE 9 zMv 128:=⟨_,_,rfl,rfl,rfl,rfl,rfl,rfl⟩
theorem wd(n:Int)(h:Heap):ae xl Cb #[vX xh n] h fun v h'=>∃s∈FM,v=xd s/\Sp h h' []:=by
 refine AI n ?_;unfold oW;refine(Sp.refl h).lit af Ay ahB rfl FM rfl (by decide) (by kernel_rfl) fun d b a=>?_;refine(bW n 5 b (by decide) (by decide)).mono ?_;rintro _ f ⟨rfl,rfl⟩;have c:=yk n (show(5:Int)≠0 by decide);have e:=wC n (show(0:Int)<5 by decide);have g:FM.length=5:=rfl;refine⟨_,rfl,(a.seq 0 rfl fun _=>rfl).bz (n%5).toNat (by omega) (by omega) (FM[(n%5).toNat]'(by omega)) rfl ⟨_,qg _,rfl,.zip a.ai⟩⟩
theorem acy(p:Pm)(k a b:Int)(h:Heap)(R:bJ p=true):ae xl BV #[kA p,vX xh k,vX xh a,vX xh b] h fun v h'=>∃(x:QL) (m:Mv),v=mvV x/\um p m/\Sp h h' [EA gW x m]:=by
 refine AF p k a b ?_;unfold oT;obtain⟨⟨T,Z⟩,_,P,z2⟩:=(bK p).1 R;have U:1<=p.1*p.2.2/\p.1*p.2.2<=16*24:=⟨wi T P (by omega) (by omega),wi Z z2 (by omega) (by omega)⟩
 refine(Sp.refl h).boxed fun K h1 V=>V.alloc af rfl fun a2 I f=>?_;have f:Sp h I [aq K aP [vX xh p.1,vX xh p.2.1,vX xh p.2.2],aq a2 eE zMv]:=f;have fin:∀(e c n m d:Int) (name:ByteArray) {h':Heap},Sp h h' [aq K aP [vX xh p.1,vX xh p.2.1,vX xh p.2.2],aq a2 eE zMv]->um p ⟨e,name,[],c,n,m,d,[],[]⟩->
   ac xl (qf eE (vZ (some a2)) (xg #[vX xh e,xd name,vY none 0 0,vX xh c,vX xh n,vX xh m,vX xj d,vY none 0 0,vY none 0 0])) h' fun _ i=>
    ∃r:QL,aj i a2 0 (iP r)/\∃(x:QL) (m:Mv),mvV r=mvV x/\um p m/\Sp h i [EA gW x m]:=by
  intro e c n m d name h' Q F;refine Q.storeAll af 1 rfl rfl (iP (e,name,⟨none,0,0⟩,c,n,m,d,⟨none,0,0⟩,⟨none,0,0⟩)) rfl rfl rfl rfl fun i A=>?_;refine⟨(e,name,⟨none,0,0⟩,c,n,m,d,⟨none,0,0⟩,⟨none,0,0⟩),(A.box 1 rfl).aO _ rfl,_,_,rfl,F,?_⟩;have L:Sp h i []:=.zip A.ai;exact L.comp (.one (aU.refl _ _) ⟨⟨rfl,rfl,rfl,rfl,rfl,rfl,ql _⟩,Seq.nil _ _ _ _ _ _,Seq.nil _ _ _ _ _ _,Seq.nil _ _ _ _ _ _⟩)
 refine(bW k 26 I (by decide) (by decide)).mono ?_;rintro _ h3 ⟨rfl,rfl⟩;have k0:=yk k (show(26:Int)≠0 by decide);have k1:=wC k (show(0:Int)<26 by decide);have W:∀(x n:Int),0<n->0<=x%n/\x%n<n:=fun x n hn=>⟨yk x (by omega),wC x hn⟩
 refine⟨_,rfl,ak (fun _=>?_) fun _=>?_⟩
 ·refine⟨by decide,p.1,(f.box 0 rfl).cell0 rfl,p.2.2,(f.box 0 rfl).cell rfl,(wd a h3).mono ?_⟩;rintro _ g ⟨s,t,rfl,o⟩;have y:=f.up o.ai;have X:qc xh ((qc xh ((qc xh ((3:Int)*p.1))*p.2.2))+(2:Int))=3*(p.1*p.2.2)+2:=by
   rw[Go.Vc.wrap_small (3*p.1) (by omega) (by omega),Int.mul_assoc,Go.Vc.wrap_small (3*(p.1*p.2.2)) (by omega) (by omega),Go.Vc.wrap_small _ (by omega) (by omega)]
  refine⟨s,rfl,⟨(y.box 0 rfl).cell rfl,(y.box 0 rfl).cell0 rfl,trivial⟩,?_⟩;rw[X];refine(bW _ (3*(p.1*p.2.2)+2) g (by omega) (by omega)).mono ?_;rintro _ j ⟨rfl,rfl⟩;obtain⟨q,B⟩:∃q,q=qc xh (wH a 5)%(3*(p.1*p.2.2)+2):=⟨_,rfl⟩
  have G:=W (qc xh (wH a 5)) (3*(p.1*p.2.2)+2) (by omega);rw[<-B]at G⊢;obtain⟨N,S⟩:∃N:Nat,q=N:=⟨q.toNat,by omega⟩
  subst S;refine⟨_,rfl,⟨(y.box 0 rfl).cell rfl,(y.box 0 rfl).cell0 rfl,trivial⟩,(Zh N b j (by omega)).mono ?_⟩;rintro _ O ⟨r,l,rfl,hl,H⟩;have D:=y.comp H;have w:=(H.own 0 rfl).cap;refine⟨r,rfl,⟨(D.box 0 rfl).cell rfl,(D.box 0 rfl).cell0 rfl,trivial⟩,?_⟩;refine D.storeAll af 1 rfl rfl (iP (1,s,r,0,0,0,0,⟨none,0,0⟩,⟨none,0,0⟩)) rfl rfl rfl rfl fun h7 J=>?_;refine⟨trivial,(1,s,r,0,0,0,0,⟨none,0,0⟩,⟨none,0,0⟩),(J.box 1 rfl).aO _ rfl,_,(⟨1,s,l,0,0,0,0,[],[]⟩:Mv),rfl,.inl ⟨rfl,t,by dsimp only;omega⟩,?_⟩;have M:=J.bO [2];exact M.gq 0 rfl fun q B=>⟨⟨rfl,rfl,rfl,rfl,rfl,rfl,w⟩,B.1.seq (fun _=>rfl) B.2,Seq.nil _ _ _ _ _ _,Seq.nil _ _ _ _ _ _⟩
 refine ak (fun _=>(wd a h3).mono ?_) fun _=>ak (fun _=>(wd a h3).mono ?_) fun _=>cw (fun _=>?_) fun _=>cw (fun _=>(wd a h3).mono ?_) fun _=>cw (fun _=>?_) fun _=>cw (fun _=>?_) fun _=>cw (fun _=>?_) fun _=>cw (fun _=>?_) fun _=>ak (fun _=>?_) fun _=>cw (fun _=>?_) fun _=>?_
 ·rintro _ g ⟨s,t,rfl,o⟩;exact⟨s,rfl,fin 2 0 0 0 0 s (f.up o.ai) (.inr (.inl ⟨.inl rfl,t⟩))⟩
 ·rintro _ g ⟨s,t,rfl,o⟩;exact⟨s,rfl,fin 3 0 0 0 0 s (f.up o.ai) (.inr (.inl ⟨.inr (.inl rfl),t⟩))⟩
 ·exact fin 4 0 0 0 0 _ f (.inr (.inr (.inl rfl)))
 ·rintro _ g ⟨s,t,rfl,o⟩;exact⟨s,rfl,fin 5 0 0 0 0 s (f.up o.ai) (.inr (.inl ⟨.inr (.inr rfl),t⟩))⟩
 ·refine(bW a 9 h3 (by decide) (by decide)).mono ?_;rintro _ g ⟨rfl,rfl⟩;refine⟨_,rfl,(bW b 60 g (by decide) (by decide)).mono ?_⟩;rintro _ j ⟨rfl,rfl⟩;have u:=W a 9 (by decide);have E:=W b 60 (by decide);refine⟨_,rfl,?_⟩;dsimp only;rw[Go.Vc.wrap_small (6+b%60) (by omega) (by omega)];exact fin 6 _ _ 0 0 _ f (.inr (.inr (.inr (.inl ⟨rfl,u,by dsimp only;omega,by dsimp only;omega⟩))))
 ·refine(bW a 8 h3 (by decide) (by decide)).mono ?_;rintro _ _ ⟨rfl,rfl⟩;exact⟨_,rfl,fin 7 _ 0 0 0 _ f (.inr (.inr (.inr (.inr (.inl ⟨rfl,W a 8 (by decide)⟩)))))⟩
 ·refine(bW a 8 h3 (by decide) (by decide)).mono ?_;rintro _ g ⟨rfl,rfl⟩;refine⟨_,rfl,(bW b 60 g (by decide) (by decide)).mono ?_⟩;rintro _ j ⟨rfl,rfl⟩;have u:=W a 8 (by decide);have E:=W b 60 (by decide);refine⟨_,rfl,?_⟩;dsimp only;rw[Go.Vc.wrap_small (6+b%60) (by omega) (by omega)];exact fin 8 _ _ 0 0 _ f (.inr (.inr (.inr (.inr (.inr (.inl ⟨rfl,u,by dsimp only;omega,by dsimp only;omega⟩))))))
 ·refine(bW a 8 h3 (by decide) (by decide)).mono ?_;rintro _ _ ⟨rfl,rfl⟩;exact⟨_,rfl,fin 9 _ 0 0 0 _ f (.inr (.inr (.inr (.inr (.inr (.inr (.inl ⟨rfl,W a 8 (by decide)⟩)))))))⟩
 ·refine(bW a 3 h3 (by decide) (by decide)).mono ?_;rintro _ g ⟨rfl,rfl⟩;refine⟨_,rfl,(bW b 20 g (by decide) (by decide)).mono ?_⟩;rintro _ j ⟨rfl,rfl⟩;have u:=W a 3 (by decide);have E:=W b 20 (by decide);exact⟨_,rfl,fin 10 0 _ _ 0 _ f (.inr (.inr (.inr (.inr (.inr (.inr (.inr (.inl ⟨rfl,by dsimp only;omega,by dsimp only;omega,by dsimp only;omega⟩))))))))⟩
 ·refine(bW a 9 h3 (by decide) (by decide)).mono ?_;rintro _ g ⟨rfl,rfl⟩;refine⟨_,rfl,(bW b 70 g (by decide) (by decide)).mono ?_⟩;rintro _ j ⟨rfl,rfl⟩;have u:=W a 9 (by decide);have E:=W b 70 (by decide);refine⟨_,rfl,?_⟩;dsimp only;rw[Go.Vc.wrap_small (a%9-1) (by omega) (by omega),Go.Vc.wrap_small (b%70-1) (by omega) (by omega)];exact fin 10 0 _ _ 0 _ f (.inr (.inr (.inr (.inr (.inr (.inr (.inr (.inl ⟨rfl,by dsimp only;omega,by dsimp only;omega,by dsimp only;omega⟩))))))))
 ·refine(bW a 7 h3 (by decide) (by decide)).mono ?_;rintro _ g ⟨rfl,rfl⟩;refine⟨_,rfl,by decide,(bW _ 40 g (by decide) (by decide)).mono ?_⟩;rintro _ j ⟨rfl,rfl⟩;refine⟨_,rfl,(bW b 61 j (by decide) (by decide)).mono ?_⟩;rintro _ O ⟨rfl,rfl⟩;have Y:∀z:Int,0<=qc xj z/\qc xj z<4294967296:=fun z=>by rw[PK];have:=(qA 32 z).isLt;omega
  exact⟨_,rfl,fin 11 _ _ _ _ _ f (.inr (.inr (.inr (.inr (.inr (.inr (.inr (.inr ⟨rfl,W a 7 (by decide),W _ 40 (by decide),W b 61 (by decide),Y _⟩))))))))⟩
theorem ZW(p:Pm)(s:Sl)(l:List Int)(a:Nat)(h:Heap)(O:bJ p=true)(i:Rd h s 1 aD l)(X:a<=100):
  ae xl AA #[kA p,vY s.ptr s.len s.cap,vX xh a,xf false] h fun v h'=>∃(r:Sl) (L:List Mv),v=vY r.ptr r.len r.cap/\(∀m∈L,um p m)/\L.length<=a/\Sp h h' [eM eE r 9 iP gW L]:=by
 refine xN p s a false ?_;unfold oa;have S:=i.len;refine(Sp.refl h).boxed fun z J w=>?_;have w:Sp h J [aq z aP [vX xh p.1,vX xh p.2.1,vX xh p.2.2]]:=w;have fin:∀{h':Heap} (r:Sl) (L:List Mv),(∀m∈L,um p m)->L.length<=a->Sp h h' [aq z aP [vX xh p.1,vX xh p.2.1,vX xh p.2.2],eM eE r 9 iP gW L]->∃(n:Sl) (L:List Mv),(Value.slice r.ptr r.len r.cap)=vY n.ptr n.len n.cap/\(∀m∈L,um p m)/\L.length<=a/\Sp h h' [eM eE n 9 iP gW L]:=fun r L q M N=>⟨r,L,rfl,q,M,N.bO [1]⟩
 refine aX ?_;refine aw (fun t:Sl×List Mv=>(t.1,((3*t.2.length:Nat):Int))) (fun t h'=>(∀m∈t.2,um p m)/\t.2.length<=a/\Sp h h' [aq z aP [vX xh p.1,vX xh p.2.1,vX xh p.2.2],eM eE t.1 9 iP gW t.2]) (fun t=>a-t.2.length) (⟨none,0,0⟩,[]) rfl ⟨by simp,by simp,w.XW eE 9 iP gW⟩ ?_;rintro⟨o,L⟩ K ⟨c,H,f⟩;dsimp only at c H f⊢;obtain⟨k,A⟩:∃k,k=L.length:=⟨_,rfl⟩
 rw[<-A]at H⊢;obtain⟨Z,T⟩:=f.ahX 1 rfl;refine aX ?_;rw[Go.Vc.wrap_small (((3*k:Nat):Int)+2) (by omega) (by omega)];refine ak (fun Y=>?_) fun _=>fin o L c (by omega) f;refine ak (fun W=>?_) fun _=>fin o L c (by omega) f;have I:3*k+2<l.length:=by omega
 have P:k<a:=by omega
 refine aX (aX (bs (fun e=>by cases e) fun _=>bs (fun e=>by cases e) fun _=>?_));have d:=i.up f.ai;obtain⟨B,G,q,_,_⟩:=i.elem (3*k) l[3*k] (qd (by omega));have b:∀{h':Heap},Rd h' s 1 aD l->cellOf h' ((⟨B,G,none⟩:Addr).add (((3*k:Nat):Int).toNat*1))=some (vX xh l[3*k]):=fun{h'} hr=>by
  obtain⟨V,F,g,_,u3⟩:=hr.elem (3*k) l[3*k] (qd (by omega));rw[q]at g;injection g with g
  injection g with g u2
  subst g;subst u2;rw[qo,add_eq];have D:=u3.1;rw[add_eq,w9]at D;exact D
 refine⟨p,(f.box 0 rfl).aO _ rfl,⟨B,G,none⟩,⟨q,by omega,by omega⟩,l[3*k],b d,by decide,?_⟩;rw[Go.Vc.wrap_small (((3*k:Nat):Int)+1) (by omega) (by omega)];refine d.bz (3*k+1) (by omega) (by omega) l[3*k+1] rfl ?_;refine d.bz (3*k+2) (by omega) (by omega) l[3*k+2] rfl ?_;refine(acy p _ _ _ K O).mono ?_;rintro _ h3 ⟨x,m,rfl,u,R⟩;have j:=f.comp R;refine⟨x,rfl,⟨b (i.up j.ai),trivial⟩,?_⟩;refine j.rU af iP eMv rfl [x] rfl (show 1*9<=2^20 by decide) (by kernel_rfl) ⟨b (i.up j.ai),trivial⟩ ?_;refine j.Lw af 1 2 (by decide) rfl rfl eMv rfl (by decide) (fun _=>rfl) ahA (by kernel_rfl) (by decide) (by omega) fun F U E=>?_;refine⟨⟨b (i.up E.ai),trivial⟩,(F,L++[m]),?_,⟨fun Q y=>?_,by dsimp only;simp;omega,E.bO [0,1]⟩,by dsimp only;simp;omega⟩
 ·dsimp only;rw[Go.Vc.wrap_small (((3*k:Nat):Int)+3) (by omega) (by omega),qw,<-A];rfl
 ·rcases qB.1 y with h|h
  ·exact c Q h
  ·rw[qH.1 h];exact u
theorem um.put{p:Pm}{b:Mv}(h:um p b)(a:b.kind=1):b.name∈FM/\(b.data.length:Int)<=3*(p.1*p.2.2)+1:=by
 unfold um at h;rw[a]at h;rcases h with h|h|h|h|h|h|h|h|h
 ·exact h.2
 ·exact absurd h.1 (by decide)
 ·exact absurd h (by decide)
 all_goals exact absurd h.1 (by decide)
theorem aeB:∀s∈FM,s.size<=12:=by decide+kernel
theorem XH:∀s∈FM,jG s=true:=by decide+kernel
theorem agm{p:Pm}{extra:Int}{l:List Int}(g:bJ p=true)(j:0<=extra/\extra<=16)(k:1<=l.length/\l.length<=24)(h:∀x∈l,1<=x/\x<=512):
  Ap p extra l=0/\bj l l.length=(qC l.length).map fun i:Nat=>(i:Int):=by
 have d:∀i (a:i<l.length),1<=l.getD i 0/\l.getD i 0<=512:=fun i a=>by rw[iM 0 a];exact h _ (qg a)
 have h0:bj l l.length=(qC l.length).map fun i:Nat=>(i:Int):=by
  unfold bj;refine wq.2 fun y b=>?_;obtain⟨i,a,rfl⟩:=qu.1 b;have a:=qF.1 a;have:=d i a;rw[qo];exact decide_eq_true (by omega)
 refine⟨?_,h0⟩;have f:(eS l).2=true:=by
  have c:l.all (eV · 0 512)=true:=qM.2 fun y b=>(lT _ _ _).2 ⟨by have:=h y b;omega,(h y b).2⟩;unfold eS;rw[if_pos c,h0];simp;omega
 have e:eV extra 0 16=true:=(lT _ _ _).2 j;have h3:((bj l l.length).any fun i=>decide (l.getD i.toNat 0<((be (ce p extra l)).length:Int)))=false:=by
  refine z6.2 fun y b=>?_;rw[h0]at b;obtain⟨i,a,rfl⟩:=qu.1 b;have a:=qF.1 a;have m:=RK p extra l k.2;have:=d i a;rw[qo,decide_eq_true_eq];omega
 unfold Ap;rw[f,g,e,h3];rfl
theorem acz{p:Pm}{extra:Int}{l:List Int}{D:aW}{m:aE}(n:m=ce p extra l)(v:Ap p extra l=0)(w:l.length<=64)(i:D.length=64)
  (t:∀s,bG D s=if s∈bj l l.length then some ⟨(l.getD s.toNat 0).toNat,be m,0,[],false,false⟩else none) (C:Int->List UInt8):fo m C D/\Full m C D/\DH m D:=by
 have b:bP m=true:=by rw[n];exact UG w v
 have j:m.drives=bj l l.length:=by rw[n];rfl
 have q:m.objs=[]:=by rw[n];rfl
 have f:∀k d,bG D k=some d->∀c∈d.l,c∈be m:=fun k d a c f=>by
  rw[t]at a;split at a
  ·injection a with a;subst a;exact f
  ·cases a
 refine⟨⟨b,i,fun k d a c h=>Jf C b (f k d a c h),fun e g=>by rw[q]at g;cases g⟩,⟨fun k o=>?_,fun e g=>by rw[q]at g;cases g⟩,fun k d a c h r u=>?_⟩
 ·rw[j]at o;refine⟨_,by rw[t,if_pos o],rfl,?_⟩;unfold ne;rw[b,zU];exact qM.2 fun c f=>decide_eq_true f
 ·rw[fN (f k d a c h)]at u;cases u
theorem px{m:aE}{i:Nat}{e:Wl.bY}(h:e∈(ul m i).objs):e∈m.objs:=by
 have h:e∈m.objs.take i++m.objs.drop (i+1):=h;rcases qB.1 h with h|h
 ·exact zM h
 ·exact List.mem_of_mem_drop h
theorem acA(m:aE)(i:Nat):(ul m i).objs=m.objs.eraseIdx i:=by
 show m.objs.take i++m.objs.drop (i+1)=_;rw[List.eraseIdx_eq_take_drop_succ]
theorem aeC{m:aE}(d:bP m=true)(n:m.seq<=2147483646)(i:Nat):bP (ul m i)=true:=by
 obtain⟨h,g,h3,f,k,c,b⟩:=(bS m).1 d;obtain⟨l,a2,a3,a4⟩:=(dD m).1 h;have a:(ul m i).objs.Sublist m.objs:=by rw[acA];exact List.eraseIdx_sublist ..
 refine(bS _).2 ⟨(dD _).2 ⟨⟨?_,?_⟩,a2,a3,a4⟩,g,h3,q9 a.length_le f,fun e j=>?_,c.sublist a,b.sublist a⟩
 ·show 1<=m.seq+1;omega
 ·show m.seq+1<=_;omega
 ·exact(eW _ _).2 ((eW _ _).1 (k e (px j)))
structure Inv (m:aE) (C:Int->List UInt8) (ds:aW) (N:Nat):Prop where
 sto:fo m C ds
 full:Full m C ds
 low:DH m ds
 nm:∀e∈m.objs,e.name∈FM
 dr:m.drives≠[]
 seq:m.seq<=1+N
 nx:m.next<=N
theorem Li{m:aE}{C:Int->List UInt8}{ds:aW}{N:Nat}(I:Inv m C ds N):m.objs.length<=5:=by
 have h:(m.objs.map Wl.bY.name).Nodup:=by
  have b:=((bS m).1 I.sto.may).2.2.2.2.2.1;exact w4.2 (b.imp fun h=>pr h)
 have:=Aw h (m:=FM) fun x a=>by
  obtain⟨e,c,rfl⟩:=qu.1 a;exact I.nm e c
 rw[qx]at this;exact this
theorem Inv.step{m:aE}{C:Int->List UInt8}{ds:aW}{N:Nat}(I:Inv m C ds N):Inv m C ds (N+1):=⟨I.sto,I.full,I.low,I.nm,I.dr,by have:=I.seq;omega,by have:=I.nx;omega⟩
theorem aeD{m:aE}{name:ByteArray}(h:m.objs.any (bR name)=true):m.objs.findIdx (bR name)<m.objs.length/\∀b:m.objs.findIdx (bR name)<m.objs.length,(m.objs[m.objs.findIdx (bR name)]).name=name:=by
 have d:m.objs.findIdx (bR name)<m.objs.length:=by
  obtain⟨e,f,c⟩:=wm.1 h;exact yH ⟨e,f,c⟩
 refine⟨d,fun b=>?_⟩;have a:bR name (m.objs[m.objs.findIdx (bR name)])=true:=List.findIdx_getElem (w:=b)
 revert a
 generalize m.objs[m.objs.findIdx (bR name)]=e;intro a;unfold bR at a;exact ke (by simpa using a)
theorem Inv.get{m:aE}{C:Int->List UInt8}{ds:aW}{N:Nat}(I:Inv m C ds N){e:Wl.bY}(a:e∈m.objs):mf m 0 Pow.new ds e.name=(C e.object,0):=by
 rw[(I.sto.get rfl e.name).1 e a rfl,if_pos (I.full.can I.sto I.dr a)]
theorem Px{a:Nat}:∀{l:List (List UInt8)},(∀x∈l,x.length=a)->l.flatten.length=l.length*a
 |[],_=>by simp
 |x::l,h=>by
  rw[List.flatten_cons,qw,h x qU,Px fun y b=>h y (qO _ b),zb,zJ];omega
theorem ZX(p:Pm)(l:Sl)(c:List (List UInt8))(n:Int)(h:Heap)(R:gr h l 1 aB c)(hn:n<=2^20)(S:c.length<=2^10):
  ae xl Ra #[kA p,vY l.ptr l.len l.cap,vX xh n] h fun v h'=>∃(r:Sl) (b:Bool),v=.tuple #[vY r.ptr r.len r.cap,xf b]/\Sp h h' [EA (ju 1 aB) r (nE p c n)]:=by
 refine OA p l n ?_;unfold Hk;have m:=R.len;refine(Sp.refl h).boxed fun J M D=>?_;have D:Sp h M [aq J aP [vX xh p.1,vX xh p.2.1,vX xh p.2.2]]:=D;have g:∀{h':Heap},Sp h h' [aq J aP [vX xh p.1,vX xh p.2.1,vX xh p.2.2]]->nE p c n=[]->∃(r:Sl) (b:Bool),(.tuple #[vY none 0 0,xf false]:Value)=.tuple #[vY r.ptr r.len r.cap,xf b]/\Sp h h' [EA (ju 1 aB) r (nE p c n)]:=fun X he=>by
  rw[he];exact⟨⟨none,0,0⟩,false,rfl,(((X.nil aC 1 aB).bO [1]).XX 0 rfl fun _=>rfl)⟩
 refine aX ⟨p,(D.box 0 rfl).aO _ rfl,(dS p M).mono ?_⟩;rintro _ W ⟨rfl,R2⟩;have B:=D.up R2.ai;refine⟨_,rfl,bi (fun e=>g B (by unfold nE;rw[if_neg (by rintro⟨h,_⟩;rw[e]at h;cases h)])) fun e1=>ak (fun e=>g B (by unfold nE;rw[if_neg (by rintro⟨_,h,_⟩;omega)])) fun e2=>?_⟩;have z:bJ p=true:=by simpa using e1
 refine⟨p,(B.box 0 rfl).aO _ rfl,(rj p n W (by omega)).mono ?_⟩;rintro _ h3 ⟨rfl,R3⟩;have N:=B.up R3.ai;refine⟨_,rfl,ci (fun e=>g N (by unfold nE;rw[if_neg (by rintro⟨_,_,h,_⟩;rw[m]at e;exact e h)])) fun P=>?_⟩;have G:(c.length:Int)=countP p n:=by rw[m]at P;exact P
 obtain⟨s1,s2,s3⟩:=kT z;refine aw (fun t:Sl×Nat=>(t.1,(t.2:Int))) (fun t h'=>t.2<=c.length/\(∀x∈c.take t.2,x.length=dv p)/\Sp h h' [aq J aP [vX xh p.1,vX xh p.2.1,vX xh p.2.2],an aC t.1 1 aB (c.take t.2).flatten]) (fun t=>c.length-t.2) (⟨none,0,0⟩,0) rfl ⟨by simp,by simp,N.nil aC 1 aB⟩ ?_;rintro⟨o,i⟩ h4 ⟨K,a,u⟩;dsimp only at K a u⊢;refine ak (fun e=>?_) fun e=>?_
 ·have f:i<c.length:=by
   have Z:(i:Int)<(l.len:Int):=e;omega
  refine(R.up u.ai).get i rfl f fun r O=>⟨p,(u.box 0 rfl).aO _ rfl,(If p h4 z).mono ?_⟩
  rintro _ h5 ⟨rfl,Q⟩;have E:=u.up Q.ai;have y:=O.len;refine⟨_,rfl,ci (fun A=>?_) fun A=>?_⟩
  ·refine g (E.bO [0]) ?_;unfold nE;rw[if_neg];rintro⟨_,_,_,h⟩;have:=of_decide_eq_true (qM.1 h _ (qg f));exact A (by rw[y,this])
  ·have I:c[i].length=dv p:=by rw[y]at A;exact vT.1 A
   have w:=Px a;rw[List.length_take_of_le K]at w;have hb:i*dv p<=2^10*2^10:=we (by omega) (by omega);refine E.append af 1 rfl fX ⟨_,_,rfl,rfl⟩ rfl (by decide) (fun _=>rfl) (Seq.up O Q.ai) gp (by omega) fun o' h6 U=>?_;refine⟨(o',i+1),by dsimp only;rw[Go.Vc.wrap_small _ (by omega) (by omega)];rfl,⟨by dsimp only;omega,?_,?_⟩,by dsimp only;omega⟩
   ·dsimp only;intro x s;rw[aJ _ _ f]at s;rcases qB.1 s with s|s
    ·exact a x s
    ·rw[qH.1 s];exact I
   ·dsimp only;rw[aJ _ _ f,List.flatten_append];simpa using U
 ·rw[qi (by have Z:¬(i:Int)<(l.len:Int):=e;omega)]at a u;have w:=Px a;have j:=u.own 1 rfl;have F:=j.len;obtain⟨k,V⟩:∃k:Nat,n=k:=⟨n.toNat,by omega⟩
  subst V;have d:=Kb z k;have H:(countP p (k:Int)).toNat=c.length:=by omega
  rw[H,<-w,<-F]at d;have Y:nE p c (k:Int)=c.flatten.take k:=by
   unfold nE;rw[if_pos ⟨z,by omega,G,qM.2 fun x s=>decide_eq_true (a x s)⟩,qo]
  refine YA af fX k rfl rfl (q9 d j.cap) ?_;refine⟨⟨o.ptr,k,k⟩,true,rfl,?_⟩;rw[Y];have E:=(u.bO [1]).XX 0 rfl fun _=>rfl;refine E.gq 0 rfl fun q T=>?_;have L:=Seq.take T k (by omega);exact⟨L.1,L.2⟩
section
variable {B:aA} {h0 h:Heap} {As:List HP} {a pw:Addr} {offs:Int} {da:List (Option Addr)} {w:Pow} {ds:aW} {m:aE}
theorem WY(x:cv)(q:bP m=true)(H:aa B h0 h (bn bA a pw (aZ x) offs da w ds::dl x m::As)):
  ae xl Ev #[vZ (some a)] h fun v h'=>v=xf (sC m ds)/\Sp h h' []:=by
 refine CT (some a) ?_;unfold rJ;have E:=DD q;have o:=kZ q;refine(Sp.refl h).boxed fun l M f=>?_;have f:Sp h M [aq l nK [vZ (some a)]]:=f;have t:=H.up f.ai;refine⟨some a,(f.box 0 rfl).cell0 rfl,(fA x m (t.at 1 rfl) E t).mono ?_⟩;rintro _ L ⟨G,rfl,y⟩;have e:=f.comp y;have J:(bg ds m.drives).length<=64:=q9 (qY _ _) o;refine⟨G,rfl,(Qt Cd #[] #[vZ (some l)] (NI m ds) G (bg ds m.drives) L (by rfl) (y.seq 0 rfl fun _=>rfl) (by omega) ?_).mono ?_⟩
 ·intro k K h3 j;have g:=t.up (y.up j.ai).ai;have i:cy h3 l nK [vZ (some a)]:=(e.up j.ai).box 0 rfl;obtain⟨ok,F⟩:=aa.cI g;obtain⟨r,d,p,_⟩:=sB K;have z:=ko q k r;refine AJ k l ?_;unfold oX;obtain⟨n,rfl⟩:∃n:Nat,k=n:=⟨k.toNat,by omega⟩
  have I:n<da.length:=by rw[ok.la];omega
  have N:cellOf h3 ((a.add 10).add ((n:Int).toNat*1))=some (.pointer da[n]):=by
   rw[qo,wJ];refine F.uy 10 n ?_;rw[pf ok.l8,qd I];rfl
  have u:mX da (n:Int)=da[n]:=by unfold mX;rw[if_pos (by omega),qo,qd I];rfl
  obtain⟨b,s,P,c,_⟩:=NL p g;refine⟨some a,i.cell0 rfl,a,rfl,⟨by omega,by omega⟩,da[n],N,some a,i.cell0 rfl,a,rfl,x,F.aO _ rfl,?_⟩;rw[<-u,c];refine(Ve x m p c (g.at 1 rfl) E g).mono ?_;rintro _ O ⟨rfl,D⟩;have A:=(i.ai D.ai i.lt).cell0 rfl;refine⟨_,rfl,⟨A,A,trivial⟩,?_,D⟩;unfold NI;rw[p]
 ·rintro _ h3 ⟨rfl,j⟩;exact⟨_,rfl,rfl,.zip (e.up j.ai).ai⟩
theorem XI{name:ByteArray}{l:List Wl.bY}{i:Int}(h:YV (bR name) l i):(i<0/\l.find? (bR name)=none)∨∃(n:Nat) (a:n<l.length),i=n/\l.find? (bR name)=some l[n]:=by
 rcases h with⟨rfl,h⟩|⟨n,a,rfl,h1,h2⟩
 ·exact .inl ⟨by decide,z8.2 fun e b=>z6.1 h e b⟩
 ·refine .inr ⟨n,a,rfl,wL.2 ⟨h1,l.take n,l.drop (n+1),?_,fun e b=>?_⟩⟩
  ·rw[<-qW a,qE]
  ·have:=z6.1 h2 e b;simpa using this
theorem aeE(x:cv)(name:ByteArray)(Y:bP m=true)(K:∀k d,bG ds k=some d->d.l.length<=512)(H:aa B h0 h (bn bA a pw (aZ x) offs da w ds::dl x m::As)):
  ae xl tf #[vZ (some a),xd name] h fun v h'=>∃r:Sl,v=.tuple #[vY r.ptr r.len r.cap,vX xh (mf m offs w ds name).2]/\Sp h h' [EA (ju 1 aB) r (mf m offs w ds name).1]:=by
 refine FP (some a) name ?_;unfold uq;have hz:=DD Y;have a0:=kZ Y;have ax:(bg ds m.drives).length<=64:=q9 (qY _ _) a0;have f:∀{h':Heap} (e:Int),Sp h h' []->mf m offs w ds name=([],e)->∃r:Sl,(.tuple #[vY none 0 0,vX xh e]:Value)=.tuple #[vY r.ptr r.len r.cap,vX xh (mf m offs w ds name).2]/\Sp h h' [EA (ju 1 aB) r (mf m offs w ds name).1]:=fun e R he=>by
  rw[he];exact⟨⟨none,0,0⟩,rfl,(R.nil aC 1 aB).XX 0 rfl fun _=>rfl⟩
 refine(pk H).mono ?_;rintro _ M ⟨rfl,rfl⟩;refine⟨_,rfl,bs (fun e=>f 14 (Sp.refl _) (by unfold mf;rw[if_pos e])) fun e1=>?_⟩;refine(find_spec x m name (H.at 1 rfl) hz H).mono ?_;rintro _ h2 ⟨⟨i,rfl,hi⟩,R2⟩;have H2:=H.up R2.ai;refine⟨i,rfl,?_⟩;rcases XI hi with⟨hneg,hf⟩|⟨n,hn,rfl,hf⟩
 ·exact ak (fun _=>f 5 R2 (by unfold mf;rw[if_neg (by rw[e1];decide),hf])) fun e=>absurd hneg e
 refine ak (fun e=>absurd e (Int.not_lt.2 (zO n))) fun _=>?_;obtain⟨E,hE⟩:∃E,E=m.objs[n]:=⟨_,rfl⟩
 have ap:E∈m.objs:=by rw[hE];exact qg hn
 have ep:mf m offs w ds name=Cw m ds E:=by unfold mf;rw[if_neg (by rw[e1];decide),hf,hE]
 rw[ep]at f⊢;refine(WY x Y H2).mono ?_;rintro _ h3 ⟨rfl,R3⟩;have H3:=H2.up R3.ai;have D:Sp M h3 []:=R2.up R3.ai;refine⟨_,rfl,bi (fun e=>f 11 D (by unfold Cw;rw[if_pos e])) fun Z=>?_⟩;have Z:sC m ds=true:=by simpa using Z
 have X:=(eW m E).1 (((bS m).1 Y).2.2.2.2.1 E ap);have a7:E.tries.length<=8:=by have:=nC X.2.2.1.2;omega
 have ah:=((dD m).1 ((bS m).1 Y).1).2.2.1;have ao:=(aa.cI H3).2;have a1:ff M x m:=H.at 1 rfl;obtain⟨ys,F⟩:=cO.fix a1.objs;have a9:=F.2.1;have s:=Fix.row F hn;obtain⟨xe,V⟩:∃xe,xe=ys[n]'(by omega):=⟨_,rfl⟩
 rw[<-hE,<-V]at s;refine⟨a,rfl,x.2.2.2.2.2.2.2,ao.cell rfl,(Seq.up F.1 D.ai).dI (g:=bI) n rfl (by omega) xe (by rw[V]) ?_⟩;refine(Sp.refl h3).alloc af rfl fun a8 h4 Q4=>?_;refine Q4.storeAll af 0 rfl rfl (bI xe) rfl rfl rfl rfl fun h5 Q5=>?_;have Q5:Sp h3 h5 [aq a8 aV (bI xe)]:=Q5;have R5:Sp M h5 [aq a8 aV (bI xe)]:=D.comp Q5;have W:Rd M xe.2.2.2 1 aD E.tries:=s.2;have a4:=W.len;have eo:xe.2.1=E.object:=s.1.2.1;have el:xe.2.2.1=E.length:=s.1.2.2;have R5:=R5.Gy aH aC 1 aB;refine⟨xe.2.2.2,(Q5.box 0 rfl).cell rfl,?_⟩;refine aw (fun t:Sl×Nat=>(t.1,(t.2:Int))) (fun t h'=>t.2<=E.tries.length/\(∀j,j<t.2->(jE m ds E.object E.tries j).2=0)/\Sp M h' [dV t.1 ((qC t.2).map fun j=>(jE m ds E.object E.tries j).1),aq a8 aV (bI xe)]) (fun t=>E.tries.length-t.2) (⟨none,0,0⟩,0) rfl ⟨by simp,fun j u=>absurd u (Nat.not_lt_zero _),R5⟩ ?_;rintro⟨o,k⟩ h6 ⟨hk,J,y⟩;dsimp only at hk J y⊢;have H6:=H.up y.ai;have P:=(aa.cI H6).2;have N:ff h6 x m:=H6.at 1 rfl;have cp:∀{h':Heap},cy h' a fS (dF (aZ x) pw offs da)->aj h' (a.add 2) 0 [vX xh m.p.1,vX xh m.p.2.1,vX xh m.p.2.2]:=fun{h'} hb=>by
  rw[<-N.p];exact⟨by rw[addr_add];exact hb.cell rfl,by rw[addr_add];exact hb.cell rfl,by rw[addr_add];exact hb.cell rfl,trivial⟩
 refine ak (fun e=>?_) fun e=>?_
 ·have I:k<E.tries.length:=by
   have e':(k:Int)<(xe.2.2.2.len:Int):=e;omega
  refine(Seq.up W y.ai).bz k rfl I E.tries[k] rfl ?_;refine aX ⟨a,rfl,x,P.aO _ rfl,xe.2.1,(y.box 1 rfl).cell rfl,(fA x m N hz H6).mono ?_⟩;rintro _ h7 ⟨lv,rfl,R7⟩;have H7:=H6.up R7.ai;have q:=(aa.cI H7).2;have S:=y.up R7.ai;refine⟨lv,rfl,⟨(S.box 1 rfl).cell rfl,q.cell0 rfl,q.cell rfl,q.cell rfl,q.cell rfl,q.cell rfl,q.cell rfl,q.cell rfl,q.cell rfl,trivial⟩,?_⟩;rw[eo];refine(UF x m lv (bg ds m.drives) E.object k (H7.at 1 rfl) hz (R7.seq 0 rfl fun _=>rfl) (by omega) (fun j u=>by obtain⟨_,d,hd,_⟩:=sB u;exact⟨d,hd⟩) H7).mono ?_;rintro _ h8 ⟨r,ss,rfl,R8⟩;have H8:=H7.up R8.ai;have Q:=(aa.cI H8).2;have L:=S.up R8.ai;refine⟨r,rfl,trivial,aX ⟨a,rfl,m.p,cp Q,xe.2.1,(L.box 1 rfl).cell rfl,(uV xe.2.1 k E.tries[k] h8).mono ?_⟩⟩;rintro _ h9 ⟨rfl,rfl⟩;obtain⟨c1,c2,c3,_⟩:=cp Q;have G:Fix kS 2 piv h9 (fun b=>b<h9.size) r ss (io m ds (bg ds m.drives) E.object k):=R8.at 0 rfl;have a3:fG NG h9 r (io m ds (bg ds m.drives) E.object k):=⟨ss,G.1,G.2.1,G.2.2⟩
  have a5:(io m ds (bg ds m.drives) E.object k).length<=64*512:=by
   unfold io;refine q9 (DC (c:=512) fun j u=>?_) (zr _ ax);obtain⟨_,d,hd,_⟩:=sB u;unfold tK;rw[hd];have M:=Zj m E.object k d.l;have h2:=K j d hd;show(Ao m E.object k d.l).length<=512;omega
  rw[eo];refine⟨_,rfl,⟨c1,c2,c3,trivial⟩,(ZK m.p (cJ E.object k E.tries[k]) r _ h9 a3 (by omega)).mono ?_⟩;rintro _ a6 ⟨a2,rfl,z⟩;have eb:ng m.p (cJ E.object k E.tries[k]) (io m ds (bg ds m.drives) E.object k)=jE m ds E.object E.tries k:=by
   unfold jE;rw[iM 0 I]
  rw[eb]at z⊢;have T:=L.up z.ai;refine⟨(a2,(jE m ds E.object E.tries k).2),rfl,trivial,ci (fun e4=>f 11 (.zip T.ai) ?_) fun e4=>?_⟩
  ·unfold Cw;rw[if_neg (by rw[Z];decide),if_neg];intro U;exact e4 (of_decide_eq_true (qM.1 U k (qF.2 I)))
  ·have ad:=(L.comp z).bo 3 [0,2,1];refine aa.IK af ad fJ (by simp;omega) fun o' bd ay=>?_;refine⟨(o',k+1),by dsimp only;rw[Go.Vc.wrap_small _ (by omega) (by omega)];rfl,⟨by dsimp only;omega,fun j u=>?_,?_⟩,by dsimp only;omega⟩
   ·rcases zq.1 u with u|rfl
    ·exact J j u
    ·simpa using e4
   ·dsimp only;rw[zI,qS];exact ay
 ·have ab:k=E.tries.length:=by
   have e':¬(k:Int)<(xe.2.2.2.len:Int):=e;omega
  subst ab;refine⟨a,rfl,m.p,cp P,xe.2.2.1,(y.box 1 rfl).cell rfl,?_⟩;rw[el];have A:E.length<=2^20:=by
   obtain⟨⟨k1,k2⟩,_,z1,z2⟩:=(bK m.p).1 ah;have:m.p.1*m.p.2.2<=16*24:=wi k2 z2 (by omega) (by omega);have:=X.2.2.1.2;omega
  refine(ZX m.p o _ E.length h6 (y.PG fun _=>rfl) A (by simp;omega)).mono ?_;rintro _ bb ⟨O,b,rfl,am⟩;have eg:Cw m ds E=(nE m.p ((qC E.tries.length).map fun k=>(jE m ds E.object E.tries k).1) E.length,0):=by
   unfold Cw;rw[if_neg (by rw[Z];decide),if_pos (qM.2 fun j u=>decide_eq_true (J j (qF.1 u)))]
  rw[eg];exact⟨(O,b),rfl,trivial,O,rfl,((y.comp am).bO [2])⟩
end
def Lj(m:aE)(ds:aW)(o k:Int):Nat:=match bG ds k with|some d=>(fQ m d.l).countP (fun r=>decide (r.object=o))|none=>0
def lF(m:aE)(ds:aW)(live:List Int)(o:Int):Nat:=(live.map (Lj m ds o)).sum
def kh(m:aE)(offs:Int)(w:Pow)(ds:aW)(name:ByteArray):(Int×Int×Int)×Int:=
 if eF w offs=true then((0,0,0),14)else match m.objs.find? (bR name)with
 |none=>((0,0,0),5)
 |some e=>((e.length,(e.tries.length:Int),(lF m ds (bg ds m.drives) e.object:Int)),0)
section
variable {B:aA} {h0 h:Heap} {As:List HP} {a pw:Addr} {offs:Int} {da:List (Option Addr)} {w:Pow} {ds:aW} {m:aE}
abbrev nS(s:Int×Int×Int)(t:Sl):List Value:=[vX xh s.1,vX xh s.2.1,vX xh s.2.2,vY t.ptr t.len t.cap]
theorem agn(m:aE)(ds:aW)(o k:Int)(a:∀k d,bG ds k=some d->d.l.length<=512):Lj m ds o k<=512:=by
 unfold Lj;cases hd:bG ds k with
 |none=>exact w7 _
 |some d=>exact q9 vB (q9 (pi m d.l) (a k d hd))
theorem XJ(m:aE)(ds:aW)(o:Int)(a:∀k d,bG ds k=some d->d.l.length<=512):∀l:List Int,lF m ds l o<=l.length*512
 |[]=>by simp[lF]
 |k::l=>by
  have:=XJ m ds o a l;have:=agn m ds o k a;unfold lF at*;rw[zT,List.sum_cons,zb,zJ];omega
theorem acB(m:aE)(ds:aW)(o:Int)(l:List Int)(i:Nat)(a:i<l.length):lF m ds (l.take (i+1)) o=lF m ds (l.take i) o+Lj m ds o l[i]:=by
 unfold lF;rw[zu a,qS,List.sum_append];simp
theorem acC(x:cv)(name:ByteArray)(hm:bP m=true)(I:∀k d,bG ds k=some d->d.l.length<=512)(H:aa B h0 h (bn bA a pw (aZ x) offs da w ds::dl x m::As)):
  ae xl rF #[vZ (some a),xd name] h fun v h'=>∃t:Sl,v=.tuple #[xg #[vX xh (kh m offs w ds name).1.1,vX xh (kh m offs w ds name).1.2.1,vX xh (kh m offs w ds name).1.2.2,vY t.ptr t.len t.cap],vX xh (kh m offs w ds name).2]/\Sp h h' []:=by
 refine Em (some a) name ?_;unfold th;have hz:=DD hm;have b6:=kZ hm;have b5:(bg ds m.drives).length<=64:=q9 (qY _ _) b6;refine(Sp.refl h).alloc af rfl fun L h1 R1=>?_;have M:=H.up R1.ai;refine(pk M).mono ?_;rintro _ h2 ⟨rfl,rfl⟩;refine⟨_,rfl,bs (fun e=>?_) fun e1=>?_⟩
 ·refine R1.storeAll af 0 rfl rfl (nS (0,0,0) ⟨none,0,0⟩) rfl rfl rfl rfl fun h3 P=>?_;have P:Sp h h3 [aq L dP (nS (0,0,0) ⟨none,0,0⟩)]:=P;refine⟨(0,0,0,⟨none,0,0⟩),(P.box 0 rfl).aO _ rfl,⟨none,0,0⟩,?_,P.bO []⟩;unfold kh;rw[if_pos e]
 refine(find_spec x m name (M.at 1 rfl) hz M).mono ?_;rintro _ h4 ⟨⟨i,rfl,hi⟩,R4⟩;have y:=R1.up R4.ai;have H4:=M.up R4.ai;refine⟨i,rfl,?_⟩;rcases XI hi with⟨hneg,hf⟩|⟨n,hn,rfl,hf⟩
 ·refine ak (fun _=>?_) fun e=>absurd hneg e;refine y.storeAll af 0 rfl rfl (nS (0,0,0) ⟨none,0,0⟩) rfl rfl rfl rfl fun h3 P=>?_;have P:Sp h h3 [aq L dP (nS (0,0,0) ⟨none,0,0⟩)]:=P;refine⟨(0,0,0,⟨none,0,0⟩),(P.box 0 rfl).aO _ rfl,⟨none,0,0⟩,?_,P.bO []⟩;unfold kh;rw[if_neg (by rw[e1];decide),hf]
 refine ak (fun e=>absurd e (Int.not_lt.2 (zO n))) fun _=>?_;obtain⟨E,hE⟩:∃E,E=m.objs[n]:=⟨_,rfl⟩
 have b4:E∈m.objs:=by rw[hE];exact qg hn
 have ep:kh m offs w ds name=((E.length,(E.tries.length:Int),(lF m ds (bg ds m.drives) E.object:Int)),0):=by unfold kh;rw[if_neg (by rw[e1];decide),hf,hE]
 rw[ep];have c1:=(eW m E).1 (((bS m).1 hm).2.2.2.2.1 E b4);have dr:E.tries.length<=8:=by have:=nC c1.2.2.1.2;omega
 have bk:=(aa.cI H4).2;have b7:ff h4 x m:=H4.at 1 rfl;obtain⟨ys,F⟩:=cO.fix b7.objs;have dx:=F.2.1;have p:=Fix.row F hn;obtain⟨xe,a4⟩:∃xe,xe=ys[n]'(by omega):=⟨_,rfl⟩
 rw[<-hE,<-a4]at p;refine⟨a,rfl,x.2.2.2.2.2.2.2,bk.cell rfl,F.1.dI (g:=bI) n rfl (by omega) xe (by rw[a4]) ?_⟩;refine(Sp.refl h4).alloc af rfl fun c h6 Q6=>?_;refine Q6.storeAll af 0 rfl rfl (bI xe) rfl rfl rfl rfl fun h7 Q7=>?_;have Q7:Sp h4 h7 [aq c aV (bI xe)]:=Q7;obtain⟨Q,R7⟩:∃Q,Sp h h7 [aq L dP Q,aq c aV (bI xe)]/\Q.length=4:=⟨_,y.comp Q7,rfl⟩
 obtain⟨R7,z4⟩:=R7;have X:Rd h4 xe.2.2.2 1 aD E.tries:=p.2;have R:=X.len;have eo:xe.2.1=E.object:=p.1.2.1;have el:xe.2.2.1=E.length:=p.1.2.2;have a3:=Q7.ai;refine co (fun(s:Addr) h'=>∃t:Sl,Sp h h' [aq L dP Q,aq c aV (bI xe),aq s dP (nS (E.length,(E.tries.length:Int),0) t)]) ?_ ?_
 ·have J:=R7.box 1 rfl;refine⟨xe.2.2.1,J.cell rfl,xe.2.2.2,J.cell rfl,xe.2.2.2,J.cell rfl,?_,?_⟩
  ·refine(jr xe.2.2.2 E.tries h7 (X.up a3) (by omega)).mono ?_;rintro _ h8 ⟨t,rfl,R8⟩;have a9:=R7.up R8.ai;refine⟨t,rfl,kW R8.ai ⟨J.cell rfl,J.cell rfl,trivial⟩,a9.alloc af rfl fun dd h9 R9=>?_⟩;have a7:=R9.box 1 rfl;refine⟨⟨a7.cell rfl,a7.cell rfl,trivial⟩,R9.storeAll af 2 rfl rfl (nS (E.length,(E.tries.length:Int),0) t) (by rw[el,R];rfl) rfl rfl rfl fun b1 S=>⟨trivial,t,S⟩⟩
  ·refine(Sp.refl h7).alloc af rfl fun d2 c2 a2=>?_;have ad:=R7.comp a2;have f:=ad.box 1 rfl;refine⟨⟨f.cell rfl,f.cell rfl,f.cell rfl,trivial⟩,?_⟩;refine(jr xe.2.2.2 E.tries c2 ((X.up a3).up a2.ai) (by omega)).mono ?_;rintro _ d0 ⟨t,rfl,ax⟩;have a6:=ad.up ax.ai;refine⟨t,rfl,kW ax.ai ⟨f.cell rfl,f.cell rfl,trivial⟩,a6.storeAll af 2 rfl rfl (nS (E.length,(E.tries.length:Int),0) t) (by rw[el,R];rfl) rfl rfl rfl fun b1 S=>⟨trivial,t,S⟩⟩
 rintro A dk ⟨t,y⟩;have ao:=H.up y.ai;refine(fA x m (ao.at 1 rfl) hz ao).mono ?_;rintro _ a8 ⟨Z,rfl,G⟩;obtain⟨live,z⟩:∃live,live=bg ds m.drives:=⟨_,rfl⟩
 have cc:∀k∈live,k∈m.drives/\∃d,bG ds k=some d/\d.lost=false:=fun k hk=>sB (by rw[<-z];exact hk);rw[<-z]at G b5⊢;have G:Sp h a8 [aq L dP Q,aq c aV (bI xe),aq A dP (nS (E.length,(E.tries.length:Int),(lF m ds (live.take 0) E.object:Int)) t),an aT Z 1 aD live]:=y.comp G;have c8:=(G.own 3 rfl).len;refine⟨Z,rfl,?_⟩;refine aw (fun i:Nat=>(i:Int)) (fun i h'=>i<=live.length/\Sp h h' [aq L dP Q,aq c aV (bI xe),aq A dP (nS (E.length,(E.tries.length:Int),(lF m ds (live.take i) E.object:Int)) t),an aT Z 1 aD live]) (fun i=>live.length-i) 0 rfl ⟨by omega,G⟩ ?_;rintro i ap ⟨hi,u⟩;dsimp only;refine ak (fun e=>?_) fun e=>?_
 ·have T:i<live.length:=by omega
  refine(u.seq 3 rfl fun _=>rfl).bz i rfl T live[i] rfl ?_;have Y:=H.up u.ai;obtain⟨cf,d,hd,_⟩:=cc live[i] (qg T);have c4:=ko hm _ cf;obtain⟨ok,hb⟩:=aa.cI Y;obtain⟨k,hk⟩:∃k:Nat,live[i]=k:=⟨live[i].toNat,by omega⟩
  have a0:k<da.length:=by rw[ok.la];omega
  have W:=acB m ds E.object live i T;rw[hk]at hd W⊢;have cd:cellOf ap ((a.add 10).add ((k:Int).toNat*1))=some (.pointer da[k]):=by
   rw[qo,wJ];refine hb.uy 10 k ?_;rw[pf ok.l8,qd a0];rfl
  have b3:mX da (k:Int)=da[k]:=by unfold mX;rw[if_pos (by omega),qo,qd a0];rfl
  obtain⟨b,sd,bl,bd,cs,b0,cp⟩:=NL hd Y;refine⟨a,rfl,⟨by omega,by omega⟩,da[k],cd,a,rfl,x,hb.aO _ rfl,?_⟩;rw[<-b3,bd];refine(Ae b pw d sd bl x m ap cs b0 cp (Y.at 1 rfl) hz).mono ?_;rintro _ d1 ⟨r7,V,rfl,ab⟩;have ch:=q9 (pi m d.l) (I _ d hd);have a5:Lj m ds E.object k=(fQ m d.l).countP (fun r=>decide (r.object=E.object)):=by unfold Lj;rw[hd]
  obtain⟨cA,U⟩:∃cA,cA=fQ m d.l:=⟨_,rfl⟩
  rw[<-U]at ab ch a5;have D:=u.comp ab;have F4:=D.dO 4 rfl;have c9:=F4.2.1;have du:=F4.1.len;refine⟨r7,rfl,trivial,?_⟩;have ay:=XJ m ds E.object I (live.take i);rw[qZ,w6 hi]at ay;obtain⟨O,cr⟩:∃O,O=lF m ds (live.take i) E.object:=⟨_,rfl⟩
  rw[<-cr]at D ay W;have c6:i*512<=64*512:=zr _ (by omega);refine aw (fun j:Nat=>(j:Int)) (fun j h'=>j<=cA.length/\Sp h h' [aq L dP Q,aq c aV (bI xe),aq A dP (nS (E.length,(E.tries.length:Int),((O+(cA.take j).countP (fun r=>decide (r.object=E.object)):Nat):Int)) t),an aT Z 1 aD live,cj dT 8 bB r7 V cA]) (fun j=>cA.length-j) 0 rfl ⟨by omega,D⟩ ?_;rintro j dy ⟨hj,N⟩;dsimp only;refine ak (fun e2=>?_) fun e2=>?_
  ·have am:j<cA.length:=by omega
   have F5:=N.dO 4 rfl;obtain⟨⟨g1,_⟩,_⟩:=Fix.row F5 am;have cn:j<V.length:=by omega
   refine F5.1.dI (g:=bB) j rfl cn V[j] rfl ?_;refine N.alloc af rfl fun b9 d3 b2=>?_;refine b2.storeAll af 5 rfl rfl (bB V[j]) rfl rfl rfl rfl fun bb o=>?_;have o:Sp h bb [aq L dP Q,aq c aV (bI xe),aq A dP (nS (E.length,(E.tries.length:Int),((O+(cA.take j).countP (fun r=>decide (r.object=E.object)):Nat):Int)) t),an aT Z 1 aD live,cj dT 8 bB r7 V cA,aq b9 bc (bB V[j])]:=o;have c5:(cA.take j).countP (fun r=>decide (r.object=E.object))<=512:=q9 vB (by rw[qZ];omega);have K:(cA.take (j+1)).countP (fun r=>decide (r.object=E.object))=(cA.take j).countP (fun r=>decide (r.object=E.object))+(if cA[j].object=E.object then 1 else 0):=by
    rw[zu am,List.countP_append,List.countP_singleton];simp
   refine⟨V[j].1,(o.box 5 rfl).cell0 rfl,xe.2.1,(o.box 1 rfl).cell rfl,cw (fun e3=>?_) fun e3=>?_⟩
   ·have e4:cA[j].object=E.object:=by rw[<-g1,e3,eo]
    rw[if_pos e4]at K;refine⟨((O+(cA.take j).countP (fun r=>decide (r.object=E.object)):Nat):Int),(o.box 2 rfl).cell rfl,o.storeAt af 2 rfl rfl (off:=2) rfl rfl rfl (by simp) fun c7 ah=>?_⟩;have ew:qc xh (((O+(cA.take j).countP (fun r=>decide (r.object=E.object)):Nat):Int)+1)=((O+(cA.take j).countP (fun r=>decide (r.object=E.object)):Nat):Int)+1:=Go.Vc.wrap_small _ (by omega) (by omega);refine⟨j+1,by rw[Go.Vc.wrap_small _ (by omega) (by omega)];rfl,⟨by omega,?_⟩,by omega⟩;rw[K];rw[ew]at ah;have q:=ah.bO [0,1,2,3,4];have e5:((O+((cA.take j).countP (fun r=>decide (r.object=E.object))+1):Nat):Int)=((O+(cA.take j).countP (fun r=>decide (r.object=E.object)):Nat):Int)+1:=by omega
    rw[e5];exact q
   ·have e4:¬cA[j].object=E.object:=fun h=>e3 (by rw[g1,h,eo]);rw[if_neg e4,w9]at K;exact⟨j+1,by rw[Go.Vc.wrap_small _ (by omega) (by omega)];rfl,⟨by omega,by rw[K];exact o.bO [0,1,2,3,4]⟩,by omega⟩
  have br:j=cA.length:=by omega
  subst br;rw[qR,<-a5,<-W]at N;exact⟨i+1,by rw[Go.Vc.wrap_small _ (by omega) (by omega)];rfl,⟨by omega,N.bO [0,1,2,3]⟩,by omega⟩
 have cq:i=live.length:=by omega
 subst cq;rw[qR]at u;refine⟨(E.length,(E.tries.length:Int),(lF m ds live E.object:Int),t),(u.box 2 rfl).aO _ rfl,?_⟩;refine u.storeAll af 0 rfl rfl (nS (E.length,(E.tries.length:Int),(lF m ds live E.object:Int)) t) rfl rfl rfl (by rw[z4];rfl) fun bq q=>?_;have q:Sp h bq [aq L dP (nS (E.length,(E.tries.length:Int),(lF m ds live E.object:Int)) t),aq c aV (bI xe),aq A dP (nS (E.length,(E.tries.length:Int),(lF m ds live E.object:Int)) t),an aT Z 1 aD live]:=q;exact⟨(E.length,(E.tries.length:Int),(lF m ds live E.object:Int),t),(q.box 0 rfl).aO _ rfl,t,rfl,q.bO []⟩
theorem aeF(name:ByteArray)(e:bP m=true)(H:aa B h0 h (ic a pw da offs w ds m::As)):
  ae xl rF #[vZ (some a),xd name] h fun v h'=>∃t:Sl,v=.tuple #[xg #[vX xh (kh m offs w ds name).1.1,vX xh (kh m offs w ds name).1.2.1,vX xh (kh m offs w ds name).1.2.2,vY t.ptr t.len t.cap],vX xh (kh m offs w ds name).2]/\Sp h h' []:=by
 have c:=(acx H).2;obtain⟨x,f⟩:=xr H;exact acC x name e (fun k d b=>q9 (c k d b).1 (c k d b).2.1) f
end
section
variable {m:aE} {C:Int->List UInt8} {ds:aW} {offs:Int} {w:Pow}
def ET(m:aE)(ds:aW):Prop:=∀k d,bG ds k=some d->∀e b,bG ds e=some b->∀c∈d.l,∀f∈b.l,∀r a,dm c=some r->dm f=some a->cX m r=true->cX m a=true->rv r=rv a->k=e
theorem ZY{n:aE}(f:∀k d,bG ds k=some d->∀c∈d.l,c∈be n):ET m ds:=fun k d e _ _ _ c a _ _ r _ b _ _ _ _=>by
 rw[fN (f k d e c a)]at b;cases b
theorem acD{o:Int}{a:List Int}{b:List (List UInt8)}{live:List Int}{k:Int}{n:Nat}{r:cT}(h:r∈gi m o a b live k n):
  ∃(i id:Nat),r=kw m o i (cJ o i (a.getD i 0)) (b.getD i []) id/\i<n/\id<(m.p.1+m.extra).toNat/\rp (gh o i live) id=k:=by
 unfold gi at h;obtain⟨i,d,c⟩:=zo.1 h;unfold pq at c;obtain⟨id,f,rfl⟩:=qu.1 c;obtain⟨h3,e⟩:=qI.1 f;exact⟨i,id,rfl,qF.1 d,qF.1 h3,of_decide_eq_true e⟩
theorem QM(S:fo m C ds){name:ByteArray}{b:List UInt8}{t:List Int}(I:cB m (eF w offs) ds name b.length=0)(E:cz m.p m.next (bm m.p b).length=some t)
  {k:Int} {f:bC} (H:bG ds k=some f) {c:List UInt8} (g:c∈(kH m ds t b (cM m ⟨name,m.next,b.length,t⟩) k f).l) {r:cT} (a:dm c=some r) (v:cX (cM m ⟨name,m.next,b.length,t⟩) r=true):
  (c∈f.l/\cX m r=true/\r.object<m.next)∨∃(i id:Nat),r.object=m.next/\r.block=i/\r.id=id/\rp (gh m.next i (bg ds m.drives)) id=k:=by
 obtain⟨J,L,z3,z4,z5⟩:=jC I;have o:m.next<=16777215:=by have:¬16777215<m.next:=fun h=>z5 (.inr (.inl h));omega
 have h8:=xq S.Cx (fun h=>z4 (.inl h));have e:c∈f.l->c∈f.l/\cX m r=true/\r.object<m.next:=fun j=>by
  have u:=(S.cells k f H c j).old r a;obtain⟨F,G,x,y,c3,B⟩:=fj.1 v;rcases jD.1 y with y|rfl
  ·exact⟨j,fj.2 ⟨F,G,x,y,c3,B⟩,u⟩
  ·have:m.next=r.object:=c3;omega
 by_cases z:k∈bg ds m.drives
 ·obtain⟨_,_,N,A⟩:=lW (m:=m) (t:=t) (b:=b) (n:=cM m ⟨name,m.next,b.length,t⟩) (d:=f) z;rw[A]at g;rcases qB.1 g with h|h
  ·rcases ES h with h|h
   ·exact .inl (e h)
   ·rw[fN h]at a;cases a
  ·rcases qB.1 h with h|h
   ·obtain⟨K,s,rfl⟩:=qu.1 h;obtain⟨i,id,rfl,D,hid,q⟩:=acD s;rw[mI (Je S.may o h8 E D hid) (jn _ _ _)]at a;injection a with a
    subst a;exact .inr ⟨i,id,rfl,rfl,rfl,q⟩
   ·rw[fN h]at a;cases a
 ·unfold kH at g;rw[if_neg z]at g;exact .inl (e g)
theorem ET.put(O:ET m ds)(S:fo m C ds){name:ByteArray}{b:List UInt8}{t:List Int}{f:aW}(v:cB m (eF w offs) ds name b.length=0)(n:cz m.p m.next (bm m.p b).length=some t)
  (a:∀k,bG f k=(bG ds k).map (kH m ds t b (cM m ⟨name,m.next,b.length,t⟩) k)):ET (cM m ⟨name,m.next,b.length,t⟩) f:=by
 intro k d x z G h c y B j r D s q h3 E u;obtain⟨F,o,rfl⟩:=nh a x;obtain⟨g,e,rfl⟩:=nh a h;unfold rv at u;injection u with e1 e2
 injection e2 with e2 e3
 rcases QM S v n o y s h3 with⟨a1,a2,a3⟩|⟨i,id,b1,b2,b3,b4⟩<;>rcases QM S v n e j q E with⟨a1',a2',a3'⟩|⟨i',id',b1',b2',b3',b4'⟩
 ·exact O k F o z g e c a1 B a1' r D s q a2 a2' (by unfold rv;rw[e1,e2,e3])
 ·omega
 ·omega
 ·have A:i=i':=by omega
  have l:id=id':=by omega
  subst A l;rw[<-b4,<-b4']
theorem ET.Iy(O:ET m ds){n:aE}{i:aW}(v:n.p=m.p)(a:∀x∈n.objs,x∈m.objs)
  (g:∀k,bG i k=(bG ds k).map fun d=>if k∈Wl.bg ds n.drives then dG (be n) (dw m d (be n).length)else d):ET n i:=by
 have old:∀{k:Int} {e:bC} {c:List UInt8} {r:cT},c∈(if k∈Wl.bg ds n.drives then dG (be n) (dw m e (be n).length)else e).l->dm c=some r->c∈e.l:=fun{k e c r} b htr=>by
  split at b
  ·rw[Ar]at b;rcases qB.1 b with h|h
   ·rcases ES h with h|h
    ·exact h
    ·rw[fN h]at htr;cases htr
   ·rw[fN h]at htr;cases htr
  ·exact b
 intro k d y z F o c b B s r D u t h3 E A;obtain⟨e,w,rfl⟩:=nh (f:=fun k d=>if k∈Wl.bg ds n.drives then dG (be n) (dw m d (be n).length)else d) g y;obtain⟨j,q,rfl⟩:=nh (f:=fun k d=>if k∈Wl.bg ds n.drives then dG (be n) (dw m d (be n).length)else d) g o;exact O k e w z j q c (old b u) B (old s t) r D u t (uZ v a h3) (uZ v a E) A
def EU(m:aE)(ds:aW)(o k:Int):List cT:=match bG ds k with|some d=>(fQ m d.l).filter (fun r=>decide (r.object=o))|none=>[]
theorem acE(m:aE)(ds:aW)(o:Int)(l:List Int):lF m ds l o=(l.flatMap fun k=>(EU m ds o k).map rv).length:=by
 rw[List.length_flatMap];unfold lF;congr 1;refine List.map_congr_left fun k _=>?_;rw[qx];unfold Lj EU;cases bG ds k with
 |none=>rfl
 |some d=>exact List.countP_eq_length_filter ..
theorem IA{o k:Int}{r:cT}(h:r∈EU m ds o k):∃d,bG ds k=some d/\r∈fQ m d.l/\r.object=o:=by
 unfold EU at h;cases hd:bG ds k with
 |none=>rw[hd]at h;cases h
 |some d=>rw[hd]at h;exact⟨d,rfl,(qI.1 h).1,of_decide_eq_true (qI.1 h).2⟩
theorem ZZ(O:ET m ds)(F:Full m C ds)(L:DH m ds)(S:fo m C ds){e:Wl.bY}(w:e∈m.objs):lF m ds m.drives e.object=e.tries.length*(m.p.1+m.extra).toNat:=by
 rw[acE];have M:m.drives.Nodup:=uG S.may;have n1:(m.drives.flatMap fun k=>(EU m ds e.object k).map rv).Nodup:=by
  refine List.pairwise_flatMap.2 ⟨fun k _=>w4.2 ?_,M.imp fun{k k'} hne=>fun x f y J n=>?_⟩
  ·unfold EU;cases o:bG ds k with
   |none=>exact List.Pairwise.nil
   |some d=>
    refine((Kc m d.l).sublist List.filter_sublist).imp fun h e=>?_;unfold rv at e;injection e with e1 e2
    injection e2 with e2 e3
    rw[(kg _ _).2 ⟨e1,e2,e3⟩]at h;cases h
  ·obtain⟨r,t,rfl⟩:=qu.1 f;obtain⟨X,z,rfl⟩:=qu.1 J;obtain⟨d,o,H,_⟩:=IA t;obtain⟨d',I,D,_⟩:=IA z;obtain⟨B,R,c3⟩:=lj H;obtain⟨E,A,K⟩:=lj D;exact hne (O k d o k' d' I _ B _ E r X R A c3 K n)
 have n2:(Pv [e] (m.p.1+m.extra).toNat).Nodup:=by
  unfold Pv;rw[zl,wj,qQ];refine List.pairwise_flatMap.2 ⟨fun i _=>w4.2 (yR.imp fun{a b} hne h=>?_),yR.imp fun{a b} hne=>fun x f y J n=>?_⟩
  ·injection h with _ h;injection h with _ h;omega
  ·obtain⟨u,_,rfl⟩:=qu.1 f;obtain⟨u',_,rfl⟩:=qu.1 J;injection n with _ h;injection h with h _;omega
 have hl:(Pv [e] (m.p.1+m.extra).toNat).length=e.tries.length*(m.p.1+m.extra).toNat:=by
  unfold Pv;rw[zl,wj,qQ,Pw (c:=(m.p.1+m.extra).toNat) fun i _=>by simp,zw]
 rw[<-hl];refine Nat.le_antisymm (Aw n1 fun x f=>?_) (Aw n2 fun x f=>?_)
 ·obtain⟨k,N,f⟩:=zo.1 f;obtain⟨r,t,rfl⟩:=qu.1 f;obtain⟨d,o,H,Q⟩:=IA t;obtain⟨V,U,P⟩:=lj H;obtain⟨B,R,v,g,W,o2,_⟩:=fj.1 P;have j:v=e:=Le S.may g w (W.trans Q);subst j;obtain⟨r1,Y,Z,_⟩:=(iI r).1 B;have:=L k d o _ V r U P;refine zo.2 ⟨v,List.mem_singleton_self _,zo.2 ⟨r.block.toNat,qF.2 (by omega),qu.2 ⟨r.id.toNat,qF.2 (by omega),?_⟩⟩⟩;unfold rv;rw[Q,yN Y.1,yN Z.1]
 ·obtain⟨v,g,s⟩:=zo.1 f;have j:v=e:=qH.1 g;rw[j]at s;clear g j f;obtain⟨i,q,G⟩:=zo.1 s;obtain⟨id,hid,rfl⟩:=qu.1 G;have q:=qF.1 q;have hid:=qF.1 hid;obtain⟨k,N,d,o,T⟩:=F.all e w i q id hid;have t:=Lf S.may (S.cells k d o) T (mI (S.Ix w q (S.Lg hid)) (jn _ _ _)) (S.counts w q (S.Lg hid));refine zo.2 ⟨k,N,qu.2 ⟨kw m e.object i (cJ e.object i (e.tries.getD i 0)) (fB m C e.object i) id,?_,rfl⟩⟩;unfold EU;rw[o];exact qI.2 ⟨t,decide_eq_true rfl⟩
end
section
variable {m:aE} {C:Int->List UInt8} {ds:aW} {N:Nat} {name:ByteArray} {b:List UInt8}
structure mg (m:aE) (C:Int->List UInt8) (ds:aW) (N:Nat):Prop where
 inv:Inv m C ds N
 once:ET m ds
 room:∀k∈m.drives,∃d,bG ds k=some d/\d.lost=false/\d.room=400
 four:∀e∈m.objs,e.tries.length<=4
 ids:(m.p.1+m.extra).toNat<=12
theorem mg.step(I:mg m C ds N):mg m C ds (N+1):=⟨I.inv.step,I.once,I.room,I.four,I.ids⟩
theorem ahD{p:Pm}(c:bJ p=true){n:Int}(d:n<=3*(p.1*p.2.2)+1):countP p n<=4:=by
 have b:=(bK p).1 c;have a:0<p.1*p.2.2:=vR (by omega) (by omega);unfold countP;split
 ·have:(n-1)/(p.1*p.2.2)<4:=Int.ediv_lt_of_lt_mul a (by rw[Int.mul_comm 4];omega);omega
 ·decide
theorem mg.fits(I:mg m C ds N){F:Int->Int}(f:∀k,F k<=151):cY m ds m.drives F=true:=by
 refine I.inv.low.fits I.inv.sto (R:=400) (c:=4) (n:=5) I.four (Li I.inv) fun k a=>?_;obtain⟨d,e,b,h3⟩:=I.room k a;refine⟨d,e,b,h3,?_⟩;have:=I.ids;have:=f k;omega
theorem BD:m.objs.any (bR name)=true↔∃e∈m.objs,e.name=name:=by
 rw[wm];refine⟨fun⟨e,he,h⟩=>⟨e,he,ke (by unfold bR at h;simpa using h)⟩,fun⟨e,he,h⟩=>⟨e,he,by unfold bR;rw[h];simp⟩⟩
theorem NM{t:List Int}{n:aE}{k:Int}{d:bC}:(kH m ds t b n k d).lost=d.lost/\(kH m ds t b n k d).room=d.room:=by
 by_cases a:k∈bg ds m.drives
 ·obtain⟨e,c,_⟩:=lW (m:=m) (t:=t) (b:=b) (n:=n) (d:=d) a;exact⟨e,c⟩
 ·unfold kH;rw[if_neg a];exact⟨rfl,rfl⟩
theorem mg.put(I:mg m C ds N)(o:name∈FM)(A:(b.length:Int)<=3*(m.p.1*m.p.2.2)+1)(l:∀e∈m.objs,e.name≠name)(D:N<=1000):
  ga m 0 Pow.new ds name b=(8,m,Pow.new,ds)∨∃t f,ga m 0 Pow.new ds name b=(0,cM m ⟨name,m.next,b.length,t⟩,Pow.new,f)/\mg (cM m ⟨name,m.next,b.length,t⟩) (iK C m.next b) f (N+1):=by
 have S:=I.inv.sto;have z:=(bK m.p).1 S.Cx;have y:0<m.p.1*m.p.2.2:=vR (by omega) (by omega);have i:bg ds m.drives=m.drives:=I.inv.full.bg;have x:=I.inv.seq;have q:=I.inv.nx;have B:=Li I.inv;have a:cB m (eF Pow.new 0) ds name b.length=0:=Zt (XH _ o) l (by omega) (by omega) (by rw[i];exact I.inv.dr) (by omega) (by omega);have j:(bm m.p b).length<=4:=by
  have:=Aq S.Cx b;have:=ahD S.Cx A;omega
 rcases agh (offs:=0) (name:=name) (b:=b) EL S with⟨⟨e,hne,hq⟩,hcode⟩|⟨_,t,f,ht,hq,S',hds⟩
 ·rw[hq]at hcode;dsimp only at hcode;rcases hcode with h|⟨_,⟨h,_⟩|⟨_,t,ht,hf⟩⟩
  ·exact absurd (h.trans a) hne
  ·subst h;exact .inl hq
  ·obtain⟨_,s⟩:=QA (m:=m) (offs:=0) (w:=Pow.new) (ds:=ds) (name:=name) (b:=b) EL S.len S.may;obtain⟨n,_,_⟩:=(s a).2 t ht;rw[i,I.fits fun k=>?_]at hf
   ·cases hf
   ·have:=(agi (m:=m) (t:=t) (b:=b) (live:=m.drives) n k (c:=4) j).2;have:=I.ids;omega
 ·refine .inr ⟨t,f,hq,⟨⟨S',I.inv.full.put S a ht S' hds,I.inv.low.put S a ht hds,fun e g=>?_,I.inv.dr,by show m.seq+1<=_;omega,by show m.next+1<=_;omega⟩,I.once.put S a ht hds,fun k r=>?_,fun e g=>?_,I.ids⟩⟩
  ·rcases jD.1 g with g|rfl
   ·exact I.inv.nm e g
   ·exact o
  ·obtain⟨d,v,u,h3⟩:=I.room k r;refine⟨_,by rw[hds,v,qN],by rw[NM.1,u],by rw[NM.2,h3]⟩
  ·rcases jD.1 g with g|rfl
   ·exact I.four e g
   ·show t.length<=4;rw[im ht];exact j
theorem acF(h:∃e∈m.objs,e.name=name)(c:jG name=true):ga m 0 Pow.new ds name b=(4,m,Pow.new,ds):=by
 have a:cB m (eF Pow.new 0) ds name b.length=4:=by
  unfold cB;rw[if_neg (by decide),if_neg (by rw[c];decide),if_pos (BD.2 h)]
 unfold ga;rw[a,if_pos (by decide)]
theorem mg.del(I:mg m C ds N)(s:N<=1000)(h:∃e∈m.objs,e.name=name):
  ∃a,eU m 0 Pow.new ds name=(0,ul m (m.objs.findIdx (bR name)),Pow.new,a)/\mg (ul m (m.objs.findIdx (bR name))) C a (N+1):=by
 have S:=I.inv.sto;have t:=I.inv.seq;have o:=BD.2 h;obtain⟨i,j⟩:∃i,i=m.objs.findIdx (bR name):=⟨_,rfl⟩
 have e:eU m 0 Pow.new ds name=dU m 0 Pow.new ds (ul m i):=by
  unfold eU;rw[if_neg (by decide),if_neg (by rw[o];decide),if_neg (by omega),j]
 have f:bg ds (ul m i).drives=m.drives:=I.inv.full.bg;rw[e,<-j];have b:=aeC S.may (by omega) i;have r:=NA b;rcases ZM (offs:=0) EL S rfl b rfl rfl (vQ _) (fun x c=>px c)with⟨h1,h2⟩|⟨_,a,h1,S',hds⟩
 ·rw[f,I.fits fun k=>(by omega)]at h1;exact absurd (h1.resolve_left I.inv.dr) (by decide)
 ·refine⟨a,h1,⟨S',I.inv.full.Iy S b rfl rfl rfl (fun x c=>px c) hds,I.inv.low.Iy rfl rfl (fun x c=>px c) hds,fun e g=>I.inv.nm e (px g),I.inv.dr,by show m.seq+1<=_;omega,by have:=I.inv.nx;show m.next<=_;omega⟩,I.once.Iy rfl (fun x c=>px c) hds,fun k l=>?_,fun e g=>I.four e (px g),I.ids⟩;obtain⟨d,n,p,q⟩:=I.room k l;rw[f]at hds;refine⟨_,by rw[hds,n,qN,if_pos (show k∈m.drives from l)],by rw[(nf _ _).1,(tR _ _ _).1];exact p,by rw[(nf _ _).2,(tR _ _ _).2];exact q⟩
theorem aeG(h:¬∃e∈m.objs,e.name=name):eU m 0 Pow.new ds name=(5,m,Pow.new,ds):=by
 have a:m.objs.any (bR name)=false:=by cases hh:m.objs.any (bR name)with|false=>rfl|true=>exact absurd (BD.1 hh) h
 unfold eU;rw[if_neg (by decide),if_pos a]
theorem Bd(h:¬∃e∈m.objs,e.name=name):m.objs.find? (bR name)=none:=z8.2 fun e b a=>h ⟨e,b,ke (by unfold bR at a;simpa using a)⟩
theorem get_none(h:¬∃e∈m.objs,e.name=name):mf m 0 Pow.new ds name=([],5):=by
 unfold mf;rw[if_neg (by decide),Bd h]
theorem acG(h:¬∃e∈m.objs,e.name=name):kh m 0 Pow.new ds name=((0,0,0),5):=by
 unfold kh;rw[if_neg (by decide),Bd h]
theorem mg.stat(I:mg m C ds N){e:Wl.bY}(b:e∈m.objs):kh m 0 Pow.new ds e.name=((((C e.object).length:Int),countP m.p (C e.object).length,countP m.p (C e.object).length*(m.p.1+m.extra)),0):=by
 have a:m.objs.find? (bR e.name)=some e:=by
  cases a:m.objs.find? (bR e.name)with
  |none=>exact absurd (z8.1 a e b) (by unfold bR;simp)
  |some e'=>
   have g:=yB a;have d:=vK a;unfold bR at d;rw[QJ I.inv.sto.may g b (ke (by simpa using d))]
 obtain⟨c,k⟩:=I.inv.sto.ents e b;have f:=(eW m e).1 (I.inv.sto.entry b);have h:(e.tries.length:Int)=countP m.p (C e.object).length:=by rw[c];exact f.2.2.2.2
 have i:=(bK m.p).1 I.inv.sto.Cx;have j:=((dD m).1 ((bS m).1 I.inv.sto.may).1).2.2.2;unfold kh;rw[if_neg (by decide),a];dsimp only;rw[I.inv.full.bg,ZZ I.once I.inv.full I.inv.low I.inv.sto b,<-c,<-h];have:(((e.tries.length*(m.p.1+m.extra).toNat:Nat)):Int)=(e.tries.length:Int)*(m.p.1+m.extra):=by
  rw[wh,yN (by omega)]
 rw[this]
structure my (m:aE) (C:Int->List UInt8) (rs:List QL) (M:List Mv) (kvs:List (ByteArray×Sl)):Prop where
 nd:(kvs.map qJ).Nodup
 len:kvs.length=m.objs.length
 mem:∀q∈kvs,∃e∈m.objs,e.name=q.1/\∃(j:Nat) (h1:j<rs.length) (h2:j<M.length),q.2=rs[j].2.2.1/\C e.object=M[j].data
 all:∀e∈m.objs,cN e.name kvs≠none
variable {rs:List QL} {M:List Mv} {kvs:List (ByteArray×Sl)}
theorem my.some(H:my m C rs M kvs){s:Sl}(h:cN name kvs=some s):∃e∈m.objs,e.name=name/\∃(j:Nat) (b:j<rs.length) (a:j<M.length),s=rs[j].2.2.1/\C e.object=M[j].data:=H.mem _ (PX h)
theorem my.none(H:my m C rs M kvs)(h:cN name kvs=Option.none):¬∃e∈m.objs,e.name=name:=fun⟨e,he,hn⟩=>H.all e he (by rw[hn];exact h)
theorem my.put(H:my m C rs M kvs)(S:fo m C ds)(h:cN name kvs=Option.none){j:Nat}(l:j<rs.length)(k:j<M.length){t:List Int}(y:b=M[j].data){L:Int}:
  my (cM m ⟨name,m.next,L,t⟩) (iK C m.next b) rs M (sM name rs[j].2.2.1 kvs):=by
 rw[GY _ h];have z:=LU.1 h;refine⟨?_,?_,fun q f=>?_,fun e d=>?_⟩
 ·rw[qS];refine List.nodup_append.2 ⟨H.nd,by simp,fun a n c g=>?_⟩;obtain⟨p,s,rfl⟩:=qu.1 n;have g:c=name:=by simpa using g
  rw[g];exact z p s
 ·show _=((m.objs++[_]).mergeSort sK).length;rw[wx,qw,qw,H.len];rfl
 ·rcases qB.1 f with f|f
  ·obtain⟨e,d,x,o,i,v,w,r⟩:=H.mem q f;refine⟨e,jD.2 (.inl d),x,o,i,v,w,?_⟩;have:=S.old d;unfold iK;rw[if_neg (by omega)];exact r
  ·rw[qH.1 f];refine⟨_,jD.2 (.inr rfl),rfl,j,l,k,rfl,?_⟩;show iK C m.next b m.next=_;unfold iK;rw[if_pos rfl];exact y
 ·rw[PZ];rcases jD.1 d with d|rfl
  ·cases hg:cN e.name kvs with
   |none=>exact absurd hg (H.all e d)
   |some u=>simp
  ·rw[if_pos rfl];cases cN (⟨name,m.next,L,t⟩:Wl.bY).name kvs<;>simp
theorem my.del(H:my m C rs M kvs)(v:bP m=true)(h:cN name kvs≠Option.none):my (ul m (m.objs.findIdx (bR name))) C rs M (iB name kvs):=by
 obtain⟨s,y⟩:=Option.ne_none_iff_exists'.1 h;obtain⟨t,n,l,_⟩:=H.some y;obtain⟨g,b⟩:=aeD (BD.2 ⟨t,n,l⟩);have b:=b g;obtain⟨w,u⟩:=LV (x:=name) H.nd;have a:=acA m (m.objs.findIdx (bR name));have d:=((bS m).1 v).2.2.2.2.2.1;refine⟨w,?_,fun q o=>?_,fun e f=>?_⟩
 ·rw[a,List.length_eraseIdx,if_pos g];have:=PY h;have:=H.len;omega
 ·obtain⟨e,f,p,rest⟩:=H.mem q (GZ o);refine⟨e,?_,p,rest⟩;rw[a];obtain⟨j,i,rfl⟩:=List.mem_iff_getElem.1 f;refine List.mem_eraseIdx_iff_getElem.2 ⟨j,i,fun c=>u q o ?_,rfl⟩;rw[<-p,<-b];congr 1;exact getElem_congr_idx c
 ·have k:e.name≠name:=fun r=>by
   rw[a]at f;obtain⟨j,i,c,rfl⟩:=List.mem_eraseIdx_iff_getElem.1 f;rcases Nat.lt_or_gt_of_ne c with hlt|hlt
   ·exact pr (zd.1 d _ _ i g hlt) (by rw[r,b])
   ·exact pr (zd.1 d _ _ g i hlt) (by rw[r,b])
  rw[LW k];exact H.all e (px f)
end
end Go.Proofs.YtdhamoojccmbdaaGreatDoor
