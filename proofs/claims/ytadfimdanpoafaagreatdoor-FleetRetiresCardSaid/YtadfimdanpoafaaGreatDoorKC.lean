/- Lemmas. -/
import Derived.Test.YtadfimdanpoafaaGreatDoorKB
set_option linter.unusedVariables false
set_option maxHeartbeats 4000000
set_option linter.unusedSimpArgs false
open Go.Proofs.Tryz renaming prog -> xx
open List renaming all_append -> yH, all_eq_false -> yh, all_eq_true -> qN, any_append -> y6, any_eq_false -> wc, any_eq_true -> wV, append_assoc -> qp, append_nil -> qS, cons_append -> zB, drop_drop -> zH, drop_eq_getElem_cons -> qV, drop_of_length_le -> zb, eq_of_mem_replicate -> yM, eq_replicate_iff -> vJ, ext_getElem -> wk, filter_append -> zj, filter_eq_self -> z6, find?_eq_none -> zO, findIdx_lt_length -> wZ, flatMap_append -> zh, flatMap_cons -> zl, foldl_append -> wN, foldl_cons -> zE, getD_eq_getElem?_getD -> qe, getElem?_append_left -> qm, getElem?_append_right -> qj, getElem?_cons_succ -> qy, getElem?_eq_getElem -> qd, getElem?_eq_some_iff -> qn, getElem?_map -> qO, getElem?_replicate -> zK, getElem?_set_self -> zy, getElem?_zip_eq_some -> vm, getElem_append_left -> w9, getElem_append_right -> wJ, getElem_drop -> wb, getElem_map -> zS, getElem_mem -> qh, getElem_of_mem -> qH, getElem_take -> w4, getElem_zip -> yT, length_append -> qx, length_cons -> q9, length_drop -> za, length_eq_zero_iff -> yV, length_filter_le -> qP, length_map -> qu, length_range -> zx, length_set -> zA, length_take -> zd, map_append -> qT, map_cons -> zV, map_map -> wR, map_nil -> vj, mem_append -> qA, mem_append_left -> yc, mem_append_right -> wq, mem_cons -> q8, mem_cons_of_mem -> qR, mem_cons_self -> qW, mem_filter -> qB, mem_flatMap -> zm, mem_iff_getElem? -> yD, mem_map -> qq, mem_of_find?_eq_some -> wH, mem_of_mem_take -> wD, mem_range -> qD, mem_replicate -> wS, mem_singleton -> qG, mergeSort_perm -> wK, pairwise_iff_getElem -> zp, pairwise_map -> wz, pairwise_mergeSort -> yj, range -> qE, range_succ -> zI, replicate -> qg, set_append_right -> zc, set_cons_zero -> zC, set_set -> vi, take_append_drop -> qI, take_length -> qQ, take_of_length_le -> qi, zipWith -> zo
open Go.Value renaming agg -> xr, bool -> xq, int -> xl, pointer -> xo, slice -> xn, string -> xp
open Go.IntKind renaming bits -> qk, i64 -> xt, u32 -> xv, u8 -> xu, wrap -> qc
open Nat renaming add_comm -> vC, le_of_ble_eq_true -> zF, le_refl -> ql, le_trans -> q7, lt_of_lt_of_le -> qY, lt_succ_iff_lt_or_eq -> zk, lt_trichotomy -> yg, mul_le_mul_right -> zu, mul_one -> zT, not_lt_zero -> vR, sub_self -> zi, succ_mul -> zJ, zero_le -> wm
open Prod renaming ext -> yU, fst -> qJ, snd -> zt
open Int renaming le_refl -> vB, natCast_nonneg -> zX, ofNat_le -> yK, toNat_natCast -> qo, toNat_of_nonneg -> w5
open Option renaming map_some -> qL, some -> zM
open UInt8 renaming toNat_inj -> yq
open Bool renaming and_eq_false_iff -> y9, and_eq_true -> qz, eq_iff_iff -> y7, false_eq_true -> zf, not_eq_true' -> wL, true_and -> zW
open Go.Instr renaming makeSlice -> qF, storeAt -> qf
open BitVec renaming ofInt -> qC
set_option maxRecDepth 100000
namespace Go.Qw
open Go Go.Vc Go.Proofs Wl
theorem Wv{m:aG}{ds:aT}{name:ByteArray}{n:Nat}(f:jv name=true)(d:∀e∈m.objs,e.name≠name)(h3:(n:Int)<=m.p.1*m.p.2.2*8)(g:m.objs.length<=11)(a:bc ds m.drives≠[])(j:m.next<=16777215)(i:m.seq<=2147483646):cK m false ds name n=0:=by
 have c:m.objs.any (dP name)=false:=wc.2 fun e b h=>d e b (lh (by unfold dP at h;simpa using h));unfold cK;rw[if_neg (by decide),if_neg (by simp[f]),if_neg (by simp[c]),if_neg (by omega),if_neg (by rintro(h|h|h);exact a h;omega;omega)]
def ig(a pw:Addr)(b:List aO)(offs:Int)(w:Pow)(ds:aT)(m:aG):HP:=HP.ex fun x:bD=>(aV bj a pw (aP x) offs b w ds).sep (bU x m)
section
variable {B:aB} {h0 h:Heap} {As:List HP} {a pw:Addr} {offs:Int} {da:List aO} {w:Pow} {ds:aT} {m:aG}
theorem mR(H:aa B h0 h (ig a pw da offs w ds m::As)):∃x,aa B h0 h (aV bj a pw (aP x) offs da w ds::bU x m::As):=by
 obtain⟨x,H⟩:=H.Ht;exact⟨x,H.Kh.uR⟩
theorem JF{x:bD}(H:aa B h0 h (aV bj a pw (aP x) offs da w ds::bU x m::As)):aa B h0 h (ig a pw da offs w ds m::As):=
 aa.Kg (F:=fun x:bD=>(aV bj a pw (aP x) offs da w ds).sep (bU x m)) x H.uR.oL
end
section
variable {B:aB} {h0 h:Heap} {As:List HP} {a pw:Addr} {offs:Int} {da:List aO} {w:Pow} {ds:aT} {m:aG}
theorem YW(H:aa B h0 h (ig a pw da offs w ds m::As)):ds.length=64/\∀k d,bp ds k=some d->d.l.length<=d.room/\d.room<=512/\fV d:=by
 obtain⟨x,H⟩:=mR H;obtain⟨ok,_⟩:=aa.cB H;refine⟨ok.ls,fun k d e=>?_⟩;obtain⟨b,s,f,_,_,_,c⟩:=pE e H;exact⟨c.len,c.room,c⟩
theorem Ww(p:Pm)(extra:Int)(s:Sl)(l:aC)(j:St B h0 As fun h=>Rd h s 1 aD l)(f:l.length<=64)(d:xS p extra l=0)(e:w=Pow.new)(H:aa B h0 h (dN 101 pw w::As)):
  ac xx 7 #[kh p,xl xt extra,xo (some pw),s] h fun v h'=>∃(a:Addr) (da:List aO) (D:aT),v=.tuple #[xo (some a),xl xt 0]/\D.length=64/\
   (∀s,bp D s=if s∈bm l l.length then some ⟨(l.getD s.toNat 0).toNat,aY (ck p extra l),0,[],false,false⟩else none)/\aa B h0 h' (ig a pw da 0 Pow.new D (ck p extra l)::As):=by
 subst e;obtain⟨D,i,c,k⟩:=YT (p:=p) (extra:=extra) (l:=l) f d;refine(IE p extra s l j (by omega) H).mono ?_;rintro _ h' ⟨_,b⟩;rw[i]at b;obtain⟨a,y,da,rfl,g⟩:=b rfl;exact⟨a,da,D,rfl,c,k,JF g⟩
theorem adD(name:ByteArray)(s:Sl)(b:aX)(j:St B h0 As fun h=>Rd h s 1 aE b)(e:s.len<=s.cap)(f:name.size<=2^40)(c:bO m=true)(d:b.length<=2^20)(H:aa B h0 h (ig a pw da offs w ds m::As)):
  ac xx 10 #[xo (some a),xp name,s] h fun v h'=>v=xl xt (gf m offs w ds name b).1/\
   aa B h0 h' (ig a pw da offs (gf m offs w ds name b).2.2.1 (gf m offs w ds name b).2.2.2 (gf m offs w ds name b).2.1::As):=by
 obtain⟨x,H⟩:=mR H;obtain⟨n,l,g,i⟩:=(dM m).1 ((bZ m).1 c).1;refine(abe x m name s b j e f (uG c) g i (im c) (kM c) (by omega) (by omega) d H).mono ?_;rintro _ h' ⟨rfl,y,k⟩;exact⟨rfl,JF k⟩
theorem abp(b:bO m=true)(H:aa B h0 h (ig a pw da offs w ds m::As)):
  ac xx 15 #[xo (some a)] h fun v h'=>∃r:Sl,v=r/\Sp h h' [ar 3 r 1 aD (bc ds m.drives)]:=by
 obtain⟨x,H⟩:=mR H;exact ez x m (H.at 1 rfl) (uG b) H
theorem YX(k:Int)(H:aa B h0 h (ig a pw da offs w ds m::As)):ac xx 16 #[xo (some a),xl xt k] h fun v h'=>v=.pointer (iR da k)/\h'=h:=by
 obtain⟨x,H⟩:=mR H;exact pF H
theorem YY{k:Int}(b:bp ds k=none)(H:aa B h0 h (ig a pw da offs w ds m::As)):iR da k=none:=by
 obtain⟨x,H⟩:=mR H;exact RT b H
end
end Go.Qw
namespace Wl
open Go Go.Qw Go.Vc
def kH(r:cC):Int×Int×Int:=(r.object,r.block,r.id)
def lA(m:aG)(ds:aT)(k:Int):List cC:=match bp ds k with|some d=>if d.lost then[]else cZ m d.l|none=>[]
def sN(m:aG)(ds:aT)(l:aC):List (Int×Int×Int):=l.flatMap fun k=>(lA m ds k).map kH
def xU(m:aG)(ds:aT)(a:Int)(others:aC):List cC:=(lA m ds a).filter fun r=>!decide (kH r∈sN m ds others)
def pG(others:aC)(r:cC):aC:=(qE (dG r.object r.block others).length).map fun i:Nat=>kQ (dG r.object r.block others) (r.id+i)
def jJ(m:aG)(ds:aT)(pages:Nat)(others:aC)(g:aC)(r:cC):Option Int:=(pG others r).find? fun k=>fk m ds k ((pages:Int)+g.getD k.toNat 0+1)
def kI(m:aG)(ds:aT)(pages:Nat)(others:aC):List cC->aC->List (Int×aX)->Option (aC×List (Int×aX))
 |[],g,l=>some (g,l)
 |r::rs,g,l=>match jJ m ds pages others g r with
  |none=>none
  |some k=>kI m ds pages others rs (g.set k.toNat (g.getD k.toNat 0+1)) (l++[(k,cy r)])
end Wl
namespace Go.Qw
open Go Go.Vc Go.Proofs Wl
abbrev Oq(x:Int):Value:=xl xt x
def bY(a:Addr)(x y:bD)(oth:Sl)(pages:Int)(g:aC)(sl:Sl):aW:=xo (some a)::(aP x++(aP y++(xn oth.ptr oth.len oth.cap::xl xt pages::(g.map Oq++[xn sl.ptr sl.len sl.cap]))))
theorem Nl{a:Addr}{x y:bD}{oth:Sl}{pages:Int}{g:aC}{sl:Sl}(b:g.length=64){k:Nat}(c:k<64):(bY a x y oth pages g sl)[19+k]?=some (Oq (g.getD k 0)):=by
 unfold bY;have e:∀(l:aW),(xo (some a)::(aP x++(aP y++(xn oth.ptr oth.len oth.cap::xl xt pages::l))):aW)[19+k]?=l[k]?:=fun l=>by
  rw[show 19+k=k+19 by omega];rfl
 rw[e,qm (by simp[b];omega),qO,qd (by omega),fQ 0];rfl
theorem HN{a:Addr}{x y:bD}{oth:Sl}{pages:Int}{g:aC}{sl:Sl}(b:g.length=64):(bY a x y oth pages g sl)[83]?=some (xn sl.ptr sl.len sl.cap):=by
 unfold bY;have e:∀(l:aW),(xo (some a)::(aP x++(aP y++(xn oth.ptr oth.len oth.cap::xl xt pages::l))):aW)[83]?=l[64]?:=fun l=>rfl;rw[e,qj (by simp[b])];simp[b]
theorem Wx{a:Addr}{x y:bD}{oth:Sl}{pages:Int}{g:aC}{sl:Sl}(b:g.length=64){k:Nat}(c:k<64)(v:Int):(bY a x y oth pages g sl).set (19+k) (Oq v)=bY a x y oth pages (g.set k v) sl:=by
 unfold bY;have e:∀(l:aW),(xo (some a)::(aP x++(aP y++(xn oth.ptr oth.len oth.cap::xl xt pages::l))):aW).set (19+k) (Oq v)=xo (some a)::(aP x++(aP y++(xn oth.ptr oth.len oth.cap::xl xt pages::(l.set k (Oq v))))):=fun l=>by
  rw[show 19+k=k+19 by omega];rfl
 rw[e,List.set_append_left _ _ (by simp[b];omega),List.map_set]
theorem Wy{a:Addr}{x y:bD}{oth:Sl}{pages:Int}{g:aC}{sl:Sl}(c:g.length=64)(b:Sl):(bY a x y oth pages g sl).set 83 (xn b.ptr b.len b.cap)=bY a x y oth pages g b:=by
 unfold bY;have e:∀(l:aW),(xo (some a)::(aP x++(aP y++(xn oth.ptr oth.len oth.cap::xl xt pages::l))):aW).set 83 (xn b.ptr b.len b.cap)=xo (some a)::(aP x++(aP y++(xn oth.ptr oth.len oth.cap::xl xt pages::(l.set 64 (xn b.ptr b.len b.cap))))):=fun l=>rfl;rw[e,zc _ _ (by simp[c])];simp[c]
theorem oF{a:Addr}{x y:bD}{oth:Sl}{pages:Int}{g:aC}{sl:Sl}(b:g.length=64):(bY a x y oth pages g sl).length=84:=by simp[bY,b]
section
variable {B:aB} {h0 h:Heap} {As:List HP} {a pw v:Addr} {offs:Int} {da:List aO} {w:Pow} {ds:aT} {mc:aW}
theorem RV(y:bu)(h:Heap):ac xx 245 #[recv y] h fun v h'=>v=mU (y.1,y.2.1,y.2.2.1)/\Sp h h' []:=by
 refine QU y ?_;unfold KY;refine(Sp.refl h).boxed fun e g d=>d.alloc ae rfl fun i f b=>?_;have a:=b.box 0 rfl;refine⟨y.1,a.cell0 rfl,y.2.1,a.cell rfl,y.2.2.1,a.cell rfl,?_⟩;refine b.storeAll ae 1 rfl rfl [xl xt y.1,xl xt y.2.1,xl xt y.2.2.1] rfl rfl rfl rfl fun h3 c=>?_;exact⟨(y.1,y.2.1,y.2.2.1),(c.box 1 rfl).aL _ rfl,rfl,.zip c.ai⟩
theorem LN{xm yn:bD}{m:aG}{oth sl:Sl}{pages:Nat}{g:aC}(c e:Int)(u:0<=c/\c<64)(q:g.length=64)(M:pages<=2^30)(G:∀x∈g,0<=x/\x<=2^30)(L:0<=e/\e<=2^30)(E:dK h xm m)(D:cO m)
  (i:bX h v 131 (bY a xm yn oth pages g sl)) (H:aa B h0 h (aV bj a pw mc offs da w ds::As)):
  ac xx 152 #[xo (some v),xl xt c,xl xt e] h fun v h'=>v=xq (fk m ds c ((pages:Int)+g.getD c.toNat 0+e))/\Sp h h' []:=by
 refine EL (some v) c e ?_;unfold tC;have K:c.toNat<64:=by omega
 have n:=Nl (a:=a) (x:=xm) (y:=yn) (oth:=oth) (pages:=pages) (sl:=sl) q K;have I:0<=g.getD c.toNat 0/\g.getD c.toNat 0<=2^30:=by rw[fQ 0];exact G _ (qh _)
 have p:cellOf h ((v.add 19).add (c.toNat*1))=some (Oq (g.getD c.toNat 0)):=by rw[addr_add,zT];exact i.cell n
 have f:∀j,j<8->cellOf h ((v.add 1).add j)=(aP xm)[j]?:=fun j t=>by
  rw[addr_add];have:(aP xm)[j]?=some ((aP xm)[j]'(by simpa using t)):=qd _;rw[this];refine i.cell ?_;rw[vC,<-this];unfold bY;rw[qy,qm (by simpa using t)]
 refine⟨v,rfl,some a,i.cell0 rfl,v,rfl,xm,i.cells 1 _ rfl,v,rfl,pages,i.cell rfl,v,rfl,⟨u.1,u.2⟩,g.getD c.toNat 0,p,?_⟩;have J:qc xt (qc xt ((pages:Int)+g.getD c.toNat 0)+e)=(pages:Int)+g.getD c.toNat 0+e:=by
  rw[ak ((pages:Int)+g.getD c.toNat 0),ak _]
 rw[J];obtain⟨ok,o⟩:=aa.cB H;refine(lF c ok o).mono ?_;rintro _ z ⟨rfl,rfl⟩;have held:∀{h':Heap},Sp z h' []->av.ok [((v.add 19).add (c.toNat*1),Oq (g.getD c.toNat 0)),(v.add 18,xl xt pages)] h':=fun{h'} R=>jL R.ai ⟨p,i.cell rfl,trivial⟩;refine⟨_,rfl,⟨p,i.cell rfl,f 0 (by omega),f 1 (by omega),f 2 (by omega),f 3 (by omega),f 4 (by omega),f 5 (by omega),f 6 (by omega),f 7 (by omega),trivial⟩,?_⟩;cases hd:bp ds c with
 |none=>
  rw[RT hd H];refine(GF xm _ z).mono ?_;rintro _ A ⟨rfl,k⟩;exact⟨_,rfl,held k,by unfold fk;rw[hd],k⟩
 |some d=>
  obtain⟨b,s,F,l,N,r,O⟩:=pE hd H;rw[l];refine(GD s F xm m _ N r r.len O E D).mono ?_;rintro _ A ⟨rfl,k⟩;exact⟨_,rfl,held k,by unfold fk;rw[hd],k⟩
end
section
variable {B:aB} {h0 h:Heap} {As:List HP} {a pw v:Addr} {offs:Int} {da:List aO} {w:Pow} {ds:aT} {mc:aW}
theorem JG{o b k:Int}{l:aC}(h:k∈dG o b l):k∈l/\0<=k/\k<64:=by
 unfold dG at h;split at h
 ·exact(GL _ _ _).1 h
 ·cases h
theorem UG{o:aC}(a:o≠[]){i:Int}(b:0<=i:=by omega):kQ o i∈o:=by
 have:=YL a i.toNat
 rwa [show((i.toNat:Nat):Int)=i by omega]at this
theorem JH{others:aC}{r:cC}{k:Int}(b:0<=r.id)(h:k∈pG others r):k∈others/\0<=k/\k<64:=by
 unfold pG at h;obtain⟨i,a,rfl⟩:=qq.1 h;have a:=qD.1 a;exact JG (UG (fun h0=>by rw[h0]at a;exact vR _ a))
theorem YZ{l:aC}(h:l.Nodup):(jt l).Pairwise (·<·):=by
 have e:(jt l).Perm l:=wK _ _;have g:(jt l).Pairwise (fun a b=>decide (a<=b)=true):=yj (fun a b c i f=>by simp at*;omega) (fun a b=>by simp;omega) l;have d:(jt l).Pairwise (fun a b=>a≠b):=e.nodup_iff.2 h;exact(g.and d).imp fun h=>by have i:=of_decide_eq_true h.1;have f:=h.2;omega
theorem Za{l:aC}(h:l.Nodup)(c:∀k∈l,0<=k/\k<64):l.length<=64:=by
 have d:(jt l).Perm l:=wK _ _;have:=IZ (a:=0) (b:=64) (YZ h) (fun k e=>c k (d.mem_iff.1 e)) (by decide);rw[d.length_eq]at this;omega
theorem TG(o b:Int)(l:aC):(dG o b l).length<=64:=by
 refine Za ?_ fun k a=>(JG a).2;unfold dG;split
 ·exact RG _ _
 ·exact List.nodup_nil
theorem LO{α:Type}{p:α->Bool}:∀{l:List α} {i:Nat} (a:i<l.length),(∀j (b:j<i),p (l[j]'(by omega))=false)->p l[i]=true->l.find? p=some l[i]
 |[],i,a,_,_=>absurd a (by simp)
 |x::l,0,_,_,h=>List.find?_cons_of_pos h
 |x::l,i+1,a,hno,h=>by
  have h0:p x=false:=hno 0 (by omega);rw[List.find?_cons_of_neg (by simp[h0])];exact LO (l:=l) (i:=i) (by simpa using a) (fun j b=>hno (j+1) (by omega)) h
theorem Wz{xm yn:bD}{m:aG}{oth sl:Sl}{pages:Nat}{g others:aC}{l:List (Int×aX)}(y:bu)(r:cC)(hr:0<=r.id/\r.id<=65535)(n:g.length=64)(ah:pages<=2^30)(hg:∀x∈g,0<=x/\x<=2^20)(hl:l.length<=2^20)(a7:others.length<=64)
  (hS:St B h0 As fun h=>dK h xm m/\Rd h oth 1 aD others/\fx dg h y r) (W:cO m)
  (H:aa B h0 h (aV bj a pw mc offs da w ds::aq v 131 (bY a xm yn oth pages g sl)::cx 112 sl 2 piv dX l::As)):
  ac xx 155 #[xo (some v),recv y] h fun u h'=>(jJ m ds pages others g r=none->u=xq false/\aa B h0 h' (aV bj a pw mc offs da w ds::aq v 131 (bY a xm yn oth pages g sl)::cx 112 sl 2 piv dX l::As))/\
   (∀k,jJ m ds pages others g r=some k->u=xq true/\∃T,aa B h0 h' (aV bj a pw mc offs da w ds::aq v 131 (bY a xm yn oth pages (g.set k.toNat (g.getD k.toNat 0+1)) T)::cx 112 T 2 piv dX (l++[(k,cy r)])::As)):=by
 refine Du (some v) y ?_;unfold sA;refine H.boxed fun K h1 E=>?_;have E:=E.bC;have E:aa B h0 h1 (aq K 139 (bn y)::aV bj a pw mc offs da w ds::aq v 131 (bY a xm yn oth pages g sl)::cx 112 sl 2 piv dX l::As):=E;obtain⟨_,Z,ap⟩:=hS.at [_,_,_,_] E;obtain⟨e1,e2,e3,e4,e5,e6,e7⟩:=ap.1;have Q:=E.box 0 rfl;have ab:=E.box 2 rfl;refine⟨y.1,Q.cell0 rfl,y.2.1,Q.cell rfl,v,rfl,oth,ab.cell rfl,?_⟩;rw[e1,e2];refine(IF r.object r.block oth others h1 Z).mono ?_;rintro _ h2 ⟨d,rfl,R2⟩;obtain⟨b,f⟩:∃b,b=dG r.object r.block others:=⟨_,rfl⟩
 rw[<-f]at R2;have H2:=E.cS R2;have S:∀k∈b,k∈others/\0<=k/\k<64:=fun k t=>by rw[f]at t;exact JG t
 have a3:b.length<=64:=by rw[f];exact TG _ _ _
 have a4:(pG others r).length=b.length:=by unfold pG;rw[qu,zx,f]
 have p:∀j (N:j<(pG others r).length),(pG others r)[j]=kQ b (r.id+(j:Int)):=fun j N=>by simp[pG,f]
 refine⟨d,rfl,trivial,?_⟩;refine aw (fun i:Nat=>(i:Int)) (fun i h'=>i<=b.length/\(∀j,j<i->fk m ds (kQ b (r.id+(j:Int))) ((pages:Int)+g.getD (kQ b (r.id+(j:Int))).toNat 0+1)=false)/\aa B h0 h' (ar 3 d 1 aD b::aq K 139 (bn y)::aV bj a pw mc offs da w ds::aq v 131 (bY a xm yn oth pages g sl)::cx 112 sl 2 piv dX l::As)) (fun i=>b.length-i) 0 rfl ⟨by omega,fun j N=>by omega,H2⟩ ?_;rintro i h3 ⟨hi,I,R⟩;dsimp only;have am:=(R.own 0 rfl).len;refine al (fun e=>?_) fun e=>?_
 ·have U:i<b.length:=by omega
  refine⟨y.2.2.1,(R.box 1 rfl).cell rfl,?_⟩;rw[e3,ak (r.id+(i:Int))];refine(UE d b (r.id+i) h3 (R.seq 0 rfl fun _=>rfl)).mono ?_;rintro _ h4 ⟨rfl,rfl⟩;obtain⟨k,t⟩:∃k,k=kQ b (r.id+(i:Int)):=⟨_,rfl⟩
  have ax:k∈b:=by rw[t];exact UG (fun h0=>by rw[h0]at U;exact vR _ U)
  obtain⟨a6,M,J⟩:=S k ax;rw[<-t];have X:aa B h0 h4 (aV bj a pw mc offs da w ds::aq v 131 (bY a xm yn oth pages g sl)::cx 112 sl 2 piv dX l::ar 3 d 1 aD b::aq K 139 (bn y)::As):=R.bi 5 [2,3,4,0,1];obtain⟨a0,_,_⟩:=hS.at [_,_,_,_,_] X;refine⟨k,rfl,(LN k 1 ⟨M,J⟩ n ah (fun x hx=>by have:=hg x hx;omega) (by omega) a0 W (X.box 1 rfl) X).mono ?_⟩;rintro _ h5 ⟨rfl,R5⟩;have H5:=X.up R5.ai;refine⟨_,rfl,bw (fun e8=>?_) fun e8=>?_⟩
  ·have A:jJ m ds pages others g r=some k:=by
    unfold jJ;rw[LO (i:=i) (by omega) (fun j N=>by rw[p];exact I j N) (by rw[p,<-t];exact e8),p,<-t]
   have O:k.toNat<64:=by omega
   have a2:=Nl (a:=a) (x:=xm) (y:=yn) (oth:=oth) (pages:=pages) (sl:=sl) n O;have a5:0<=g.getD k.toNat 0/\g.getD k.toNat 0<=2^20:=by rw[fQ 0];exact hg _ (qh _)
   refine⟨v,rfl,⟨M,J⟩,g.getD k.toNat 0,by rw[addr_add,zT];exact(H5.box 1 rfl).cell a2,v,rfl,⟨M,J⟩,?_⟩;rw[addr_add,zT,ak (g.getD k.toNat 0+1)];refine H5.storeAt ae 1 rfl rfl rfl rfl rfl (by rw[oF n];omega) fun h6 s=>?_;rw[Wx n O]at s;obtain⟨F,G⟩:∃F,F=g.set k.toNat (g.getD k.toNat 0+1):=⟨_,rfl⟩
   have c:F.length=64:=by rw[G,zA];exact n
   rw[<-G]at s;have s:aa B h0 h6 (aV bj a pw mc offs da w ds::aq v 131 (bY a xm yn oth pages F sl)::cx 112 sl 2 piv dX l::ar 3 d 1 aD b::aq K 139 (bn y)::As):=s;obtain⟨_,_,ao⟩:=hS.at [_,_,_,_,_] s;have ad:=s.box 1 rfl;refine⟨trivial,v,rfl,sl,ad.cell (HN c),y,(s.box 4 rfl).aL _ rfl,(rP y r h6 ao).mono ?_⟩;rintro _ h7 ⟨u,rfl,R7⟩;have V:=(s.cS R7).fO 0 rfl (D:=EA dX (k,u) (k,cy r)) fun z W=>⟨rfl,W.1.seq (fun _=>rfl) W.2⟩
   have V:aa B h0 h7 (EA dX (k,u) (k,cy r)::aV bj a pw mc offs da w ds::aq v 131 (bY a xm yn oth pages F sl)::cx 112 sl 2 piv dX l::ar 3 d 1 aD b::aq K 139 (bn y)::As):=V;have P:=V.box 2 rfl;refine⟨u,rfl,⟨P.cell (HN c),trivial⟩,?_⟩;refine V.nV ae piv Gx rfl [(k,u)] rfl (show 1*2<=2^20 by decide) rfl ⟨P.cell (HN c),trivial⟩ ?_;refine aa.CR ae V 3 0 (by decide) (a:=(k,u)) rfl rfl Gx rfl (by decide) (fun _=>rfl) HK (parts:=#[(0,xr #[xl xt k,u])]) (by kernel_rfl) (by decide) (by omega) fun Y h9 H9=>⟨trivial,v,rfl,?_⟩
   have H9:aa B h0 h9 (emp::aV bj a pw mc offs da w ds::aq v 131 (bY a xm yn oth pages F sl)::cx 112 Y 2 piv dX (l++[(k,cy r)])::ar 3 d 1 aD b::aq K 139 (bn y)::As):=H9;refine H9.storeAt ae 2 rfl rfl rfl rfl rfl (by rw[oF c];omega) fun ay q=>?_;rw[Wy c]at q;refine⟨trivial,fun o=>by rw[A]at o;(cases o),fun k' o=>?_⟩;rw[A]at o;injection o with o
   subst o;rw[<-G];have q:aa B h0 ay (emp::aV bj a pw mc offs da w ds::aq v 131 (bY a xm yn oth pages F Y)::cx 112 Y 2 piv dX (l++[(k,cy r)])::ar 3 d 1 aD b::aq K 139 (bn y)::As):=q;exact⟨rfl,Y,q.bi 6 [1,2,3]⟩
  ·refine⟨i+1,by rw[ak _];rfl,⟨by omega,fun j N=>?_,H5.bi 5 [3,4,0,1,2]⟩,by omega⟩;rcases zk.1 N with h|rfl
   ·exact I j h
   ·rw[<-t];exact e8
 ·have L:jJ m ds pages others g r=none:=by
   unfold jJ;refine zO.2 fun x hx=>?_;obtain⟨j,N,rfl⟩:=qH hx;rw[p,I j (by omega)];decide
  refine⟨fun _=>⟨rfl,R.bi 5 [2,3,4]⟩,fun k o=>by rw[L]at o;cases o⟩
end
theorem aeX:sZ xx 286 3:=
 ⟨⟨⟨"object",3,0,false, "", "wellspring/fleet",0⟩,⟨"block",3,1,false, "", "wellspring/fleet",8⟩,⟨"id",3,2,false, "", "wellspring/fleet",16⟩,by kernel_rfl,by decide,by decide,by decide,rfl,rfl,rfl,rfl,rfl,rfl⟩,by kernel_rfl,by kernel_rfl,fun w=>Tryz.isAgg3 w⟩
theorem aeY:Tryz.prog.underlying 284=some (.map 286 4):=by kernel_rfl
theorem afB:aF xx (zeroValue 4) (xq false):=fun w=>Tryz.zeroValue4 w
theorem LP(x:bD)(h:Heap):ac xx 81 #[xo none,eT x] h fun v h'=>∃r:Sl,v=r/\Sp h h' [bP r []]:=by
 refine wn none x ?_;unfold rn;refine(Sp.refl h).boxed fun m j i=>?_;refine(pS none (R:=fun v h'=>v=xn none 0 0/\h'=j) ?_).mono ?_
 ·unfold na;exact bw (fun _=>⟨rfl,rfl⟩) fun e=>by cases e
 rintro _ f ⟨rfl,rfl⟩;refine⟨⟨none,0,0⟩,rfl,?_⟩;have g:Sp h f [bP ⟨none,0,0⟩ []]:=(i.nil 139 8 bn).bK [1];refine aw (fun _:Unit=>((⟨none,0,0⟩:Sl),(-1:Int))) (fun _ h'=>Sp h h' [bP ⟨none,0,0⟩ []]) (fun _=>0) () rfl g ?_;rintro _ h3 c;dsimp only;rw[show qc xt ((-1:Int)+1)=0 from rfl];refine al (fun e=>?_) (fun e=>absurd (show(0:Int)>=((0:Nat):Int)by decide) e);refine(AM [] (by simp) c).mono ?_;rintro _ k ⟨rfl,d⟩;refine⟨(),rfl,(xH _ (by simp) d).mono ?_⟩;rintro _ l ⟨b,rfl,a⟩;refine⟨b,rfl,b,rfl,?_⟩;have:Rk (([]:List bu).mergeSort cb)=[]:=by simp[Rk,jy]
 rw[this]at a;exact a
section
variable {B:aB} {h0 h:Heap} {As:List HP} {a pw v:Addr} {offs:Int} {da:List aO} {w:Pow} {ds:aT} {mc:aW}
theorem DK{m:aG}{d:bB}(ok:fV d):(cZ m d.l).length<=512:=by
 have:=mz m d.l;have:=ok.len;have:=ok.room;omega
theorem WA{xm yn:bD}{m:aG}{oth sl:Sl}{pages:Int}{g others:aC}(o:aO)(rs:List cC)(ho:(o=none/\rs=[])∨∃k d b,o=some b/\iR da k=some b/\bp ds k=some d/\rs=cZ m d.l)
  (V:∀k∈others,∃d,bp ds k=some d/\d.lost=false) (b3:others.length<=64) (hS:St B h0 As fun h=>dK h xm m/\Rd h oth 1 aD others) (hz:cO m)
  (H:aa B h0 h (aV bj a pw mc offs da w ds::aq v 131 (bY a xm yn oth pages g sl)::As)):
  ac xx 154 #[xo (some v),.pointer o] h fun u h'=>∃(r:Sl) (T:List (bu×cC)),u=xn r.ptr r.len r.cap/\T.map zt=(rs.filter fun r=>!decide (kH r∈sN m ds others))/\Sp h h' [bP r (T.map qJ),fq T]:=by
 refine Dt (some v) o ?_;unfold sw;refine Qs fun q h1 hq hs hp=>?_;have R1:Sp h h1 [ta q []]:=.one (any hp) ⟨hs,by omega,hs.lt⟩;refine R1.alloc ae rfl fun F h2 R2=>?_;refine R2.storeAll ae 1 rfl rfl [.map (some q)] rfl rfl rfl rfl fun h3 R3=>?_;have R3:Sp h h3 [ta q [],aq F 284 [.map (some q)]]:=R3;have H3:=H.up R3.ai;have a4:=H3.box 1 rfl;have N:∀{h':Heap},bX h' v 131 (bY a xm yn oth pages g sl)->∀j,j<8->cellOf h' ((v.add 1).add j)=(aP xm)[j]?:=fun{h'} Q j hj=>by
  rw[addr_add];have:(aP xm)[j]?=some ((aP xm)[j]'(by simpa using hj)):=qd _;rw[this];refine Q.cell ?_;rw[vC,<-this];unfold bY;rw[qy,qm (by simpa using hj)]
 refine⟨v,rfl,oth,a4.cell rfl,?_⟩;have br:=(hS.at [_,_] H3).2.len;refine aw (fun t:Nat×List (Int×Int×Int)=>(t.1:Int)) (fun t h'=>t.1<=others.length/\(∀x,x∈t.2↔x∈sN m ds (others.take t.1))/\Sp h h' [ta q t.2,aq F 284 [.map (some q)]]) (fun t=>others.length-t.1) (0,[]) rfl ⟨wm _,fun x=>by simp[sN],R3⟩ ?_;rintro⟨i,G⟩ h4 ⟨hi,M,R4⟩;dsimp only at hi M⊢;have H4:=H.up R4.ai;have f:=H4.box 1 rfl;obtain⟨ap,a6⟩:=hS.at [_,_] H4;refine al (fun e=>?_) fun e=>?_
 ·have W:i<others.length:=by omega
  refine a6.bx i rfl W others[i] rfl ?_;obtain⟨d,hd,bk⟩:=V others[i] (qh W);obtain⟨b,s,bl,Q,q1,q2,q3⟩:=pE hd H4;refine be ⟨v,rfl,some a,f.cell0 rfl,v,rfl,xm,f.cells 1 _ rfl,(pF H4).mono ?_⟩;rintro _ h5 ⟨rfl,rfl⟩;rw[Q];refine⟨_,rfl,⟨N f 0 (by omega),N f 1 (by omega),N f 2 (by omega),N f 3 (by omega),N f 4 (by omega),N f 5 (by omega),N f 6 (by omega),N f 7 (by omega),trivial⟩,?_⟩;refine(pz b pw d s bl xm m h5 q1 q2 q3 ap hz).mono ?_;rintro _ h6 ⟨E,X,rfl,I⟩;refine⟨E,rfl,trivial,?_⟩;dsimp only;have am:lA m ds others[i]=cZ m d.l:=by unfold lA;rw[hd];dsimp only;rw[if_neg (by simp[bk])]
  have bq:=DK (m:=m) q3;obtain⟨n,ab⟩:∃n,n=cZ m d.l:=⟨_,rfl⟩
  rw[<-ab]at I am bq;have I:Sp h h6 [ta q G,aq F 284 [.map (some q)],cu dg 8 bn E X n]:=R4.comp I;have F6:=I.dV 2 rfl;have b0:=F6.1.len;have b2:=F6.2.1;refine aw (fun t:Nat×List (Int×Int×Int)=>(t.1:Int)) (fun t h'=>t.1<=n.length/\(∀x,x∈t.2↔x∈sN m ds (others.take i)∨x∈(n.take t.1).map kH)/\Sp h h' [ta q t.2,aq F 284 [.map (some q)],cu dg 8 bn E X n]) (fun t=>n.length-t.1) (0,G) rfl ⟨wm _,fun x=>by rw[M];simp,I⟩ ?_;rintro⟨j,c⟩ h7 ⟨hj,J,R7⟩;dsimp only at hj J⊢;have F7:=R7.dV 2 rfl;refine al (fun e2=>?_) fun e2=>?_
  ·have ad:j<n.length:=by omega
   obtain⟨p,S⟩:=Fix.row F7 ad;obtain⟨y,hy⟩:∃y,y=X[j]'(by omega):=⟨_,rfl⟩
   rw[<-hy]at p S;refine F7.1.dt (g:=bn) j rfl (by omega) y (by rw[hy]) ?_;refine R7.alloc ae rfl fun U h8 R8=>?_;refine R8.storeAll ae 3 rfl rfl (bn y) rfl rfl rfl rfl fun h9 R9=>?_;have R9:Sp h h9 [ta q c,aq F 284 [.map (some q)],cu dg 8 bn E X n,aq U 139 (bn y)]:=R9;refine⟨some q,(R9.box 1 rfl).cell0 rfl,y,(R9.box 3 rfl).aL _ rfl,(RV y h9).mono ?_⟩;rintro _ ao ⟨rfl,K⟩;have K:Sp h ao [ta q c,aq F 284 [.map (some q)],cu dg 8 bn E X n,aq U 139 (bn y)]:=R9.up K.ai;refine⟨(y.1,y.2.1,y.2.2.1),rfl,⟨(K.box 1 rfl).cell0 rfl,trivial⟩,?_⟩;have a0:oY ao q c:=(K.at 0 rfl).1;refine a0.update aeY aeX fun bb O Y Z=>?_;have ah:(y.1,y.2.1,y.2.2.1)=kH n[j]:=by unfold kH;rw[p.1,p.2.1,p.2.2.1]
   rw[ah]at O;have a3:Sp h bb [ta q (if kH n[j]∈c then c else c++[kH n[j]]),aq F 284 [.map (some q)],cu dg 8 bn E X n,aq U 139 (bn y)]:=
    K.step 0 rfl (D:=ta q (if kH n[j]∈c then c else c++[kH n[j]])) fun q0 L bd=>⟨Y.mono fun b _ Q a5=>Q (by rw[a5];exact L.2),O,⟨by rw[Z];exact bd _ L.2,.inl L.2⟩⟩
   refine⟨trivial,(j+1,if kH n[j]∈c then c else c++[kH n[j]]),by dsimp only;rw[ak _];rfl,⟨by dsimp only;omega,fun x=>?_,a3.bK [0,1,2]⟩,by dsimp only;omega⟩;dsimp only;rw[aI _ _ ad,qT,qA,zV,vj,qG,<-or_assoc,<-J];by_cases hm:kH n[j]∈c
   ·rw[if_pos hm];exact⟨fun h=>.inl h,fun h=>by rcases h with h|rfl;exact h;exact hm⟩
   ·rw[if_neg hm,qA,qG]
  ·refine⟨(i+1,c),by dsimp only;rw[ak _];rfl,⟨by dsimp only;omega,fun x=>?_,R7.bK [0,1]⟩,by dsimp only;omega⟩;dsimp only;have b4:¬(j:Int)<(E.len:Int):=e2;have a8:n.take j=n:=qi (by omega);rw[J,a8,aI _ _ W];unfold sN;rw[zh,qA,zl,List.flatMap_nil,qS,am]
 ·have a9:i=others.length:=by omega
  subst a9;rw[qQ]at M;refine⟨v,rfl,xm,f.cells 1 _ rfl,?_⟩;have ay:ac xx 81 #[.pointer o,eT xm] h4 fun u h'=>∃(r:Sl) (T:List (bu×cC)),u=xn r.ptr r.len r.cap/\T.map zt=rs/\T.length<=512/\Keyed T/\Sp h4 h' [bP r (T.map qJ),fq T]:=by
   rcases ho with⟨rfl,rfl⟩|⟨k,d,b,rfl,Q,hd,rfl⟩
   ·refine(LP xm h4).mono ?_;rintro _ h' ⟨r,rfl,R⟩;exact⟨r,[],rfl,rfl,by simp,(fun t P=>by cases P),R.comp (.one (A:=fq []) (aU.refl _ _) (fun t P=>(by cases P)))⟩
   ·obtain⟨b',s,bl,z,q1,q2,q3⟩:=pE hd H4;rw[Q]at z;injection z with z
    subst z;refine(Ez b pw d s bl xm m h4 q1 q2 q3 ap hz).mono ?_;rintro _ h' ⟨r,T,rfl,hT,hk,R⟩;exact⟨r,T,rfl,hT,by have:=DK (m:=m) q3;rw[<-hT,qu]at this;exact this,hk,R⟩
  refine ay.mono ?_;rintro _ h5 ⟨r,T,rfl,hT,b1,hK,R5⟩;have H5:Sp h h5 (ar 139 r 8 bn (T.map qJ)::[fq T,ta q G,aq F 284 [.map (some q)]]):=(R4.comp R5).bK [2,3,0,1];refine⟨r,rfl,(Rn r (T.map qJ) 247 #[xo (some F)] (fun y=>decide ((y.1,y.2.1,y.2.2.1)∈G)) (fun h'=>oY h' q G/\bX h' F 284 [.map (some q)]) (by rfl) (As:=[fq T,ta q G,aq F 284 [.map (some q)]])
   ((St.dU (A:=ta q G) 1 rfl fun h' hq=>hq.1).and (St.dU (A:=aq F 284 [.map (some q)]) 2 rfl fun h' hq=>hq.1)) ?_ H5 (by rw[qu];omega)).mono ?_⟩
  ·rintro y h' ⟨ax,z⟩;refine Bp y F ?_;unfold po;refine(Sp.refl h').boxed fun a1 h6 I=>?_;have a7:=z.ai I.ai z.lt;refine⟨some q,a7.cell0 rfl,y,(I.box 0 rfl).aL _ rfl,(RV y h6).mono ?_⟩;rintro _ h7 ⟨rfl,R7⟩;have P7:=(I.up R7.ai).ai;refine⟨(y.1,y.2.1,y.2.2.1),rfl,⟨(z.ai P7 z.lt).cell0 rfl,trivial⟩,?_⟩;refine(ax.ai P7 ax.lt).lookup aeY aeX afB ?_;exact⟨trivial,rfl,.zip P7⟩
  ·rintro _ h6 ⟨r',rfl,I⟩;refine⟨r',rfl,r',T.filter (fun t=>!decide (kH t.2∈G)),rfl,?_,?_⟩
   ·rw[<-hT,List.filter_map];congr 1;refine List.filter_congr fun t P=>?_;simp only[Function.comp_apply,M]
   ·have e:(T.map qJ).filter (fun y=>!decide ((y.1,y.2.1,y.2.2.1)∈G))=(T.filter (fun t=>!decide (kH t.2∈G))).map qJ:=by
     rw[List.filter_map];congr 1;refine List.filter_congr fun t P=>?_;obtain⟨k1,k2,k3⟩:=hK t P;have ek:(t.1.1,t.1.2.1,t.1.2.2.1)=kH t.2:=by unfold kH;rw[k1,k2,k3]
     show(!decide ((t.1.1,t.1.2.1,t.1.2.2.1)∈G))=_;rw[ek]
    rw[e]at I;exact(I.fO 1 rfl (D:=fq (T.filter (fun t=>!decide (kH t.2∈G)))) fun q0 L t P=>L t (qB.1 P).1).bK [0,1]
end
end Go.Qw
namespace Wl
open Go Go.Qw Go.Vc
def pH(m:aG)(ds:aT)(pages:Nat)(others:aC)(a:Int):Option (aC×List (Int×aX)):=
 if others.any fun k=>!fk m ds k (pages:Int)then none else kI m ds pages others (xU m ds a others) (qg 64 0) []
theorem TH(m:aG)(ds:aT)(pages:Nat)(others:aC)(r:cC)(rs:List cC)(g:aC)(l:List (Int×aX)):kI m ds pages others (r::rs) g l=match jJ m ds pages others g r with
  |none=>none
  |some k=>kI m ds pages others rs (g.set k.toNat (g.getD k.toNat 0+1)) (l++[(k,cy r)]):=rfl
end Wl
namespace Go.Qw
open Go Go.Vc Go.Proofs Wl
section
variable {B:aB} {h0 h:Heap} {As:List HP} {a pw v:Addr} {offs:Int} {da:List aO} {w:Pow} {ds:aT} {mc:aW}
theorem RW(h:Heap):ac xx 153 #[xo none] h fun v h'=>v=xq false/\h'=h:=by
 refine pj none ?_;unfold mi;exact bw (fun e=>by cases e) fun _=>⟨rfl,rfl⟩
theorem WB{xm yn:bD}{m:aG}{oth:Sl}{pages:Nat}{others:aC}(c:Int)(ad:pages<=2^30)(ax:∀k∈others,0<=k/\k<64)(O:∀k∈others,∃d,bp ds k=some d/\d.lost=false)(ah:others.length<=64)
  (hS:St B h0 As fun h=>dK h xm m/\Rd h oth 1 aD others) (hz:cO m)
  (H:aa B h0 h (aV bj a pw mc offs da w ds::aq v 131 (bY a xm yn oth pages (qg 64 0) ⟨none,0,0⟩)::As)):
  ac xx 77 #[xo (some v),xl xt c] h fun u h'=>(pH m ds pages others c=none->u=xq false/\∃mv,aa B h0 h' (aV bj a pw mc offs da w ds::aq v 131 mv::As))/\
   (∀D,pH m ds pages others c=some D->u=xq true/\∃G,aa B h0 h' (aV bj a pw mc offs da w ds::aq v 131 (bY a xm yn oth pages D.1 G)::cx 112 G 2 piv dX D.2::As)/\D.1.length=64/\(∀x∈D.1,0<=x/\x<=512)/\D.2.length<=512/\∀y∈D.2,y.1∈others/\y.2.length<=64):=by
 refine EK (some v) c ?_;unfold tz;refine H.boxed fun z M U=>?_;have U:aa B h0 M (aq z 128 [xo (some v)]::aV bj a pw mc offs da w ds::aq v 131 (bY a xm yn oth pages (qg 64 0) ⟨none,0,0⟩)::As):=U.bC;have ap:=U.box 0 rfl;have ao:=U.box 2 rfl;obtain⟨a7,am⟩:=hS.at [_,_,_] U;refine⟨some v,ap.cell0 rfl,v,rfl,oth,ao.cell rfl,?_⟩;have a5:∀k:Int,(qg 64 (0:Int)).getD k.toNat 0=0:=fun k=>by
  rw[qe,zK];split<;>rfl
 refine(GG 151 #[] #[xo (some z)] (fun k=>!fk m ds k (pages:Int)) oth others M (by rfl) am (by omega) fun k hk h' R'=>?_).mono ?_
 ·refine Ca k z ?_;unfold pR;have L:=U.up R'.ai;refine⟨some v,(L.box 0 rfl).cell0 rfl,?_⟩;have N:=L.bi 3 [1,2,0];refine(LN k 0 (ax k hk) (by simp) ad (fun x i=>by rw[yM i];decide) (by decide) (hS.at [_,_,_] N).1 hz (N.box 1 rfl) N).mono ?_;rintro _ h2 ⟨rfl,R2⟩;refine⟨_,rfl,?_,R2⟩;rw[a5,Int.add_zero,Int.add_zero]
 rintro _ h2 ⟨rfl,R2⟩;have H2:=U.up R2.ai;refine⟨_,rfl,bw (fun e=>?_) fun e=>?_⟩
 ·have hn:pH m ds pages others c=none:=by unfold pH;rw[if_pos e]
  exact⟨fun _=>⟨rfl,_,H2.bi 3 [1,2]⟩,fun D q=>by rw[hn]at q;cases q⟩
 have ay:pH m ds pages others c=kI m ds pages others (xU m ds c others) (qg 64 0) []:=by unfold pH;rw[if_neg (by rw[e];decide)]
 rw[ay];refine⟨some v,(H2.box 0 rfl).cell0 rfl,v,rfl,some a,(H2.box 2 rfl).cell0 rfl,?_⟩;have p:aa B h0 h2 (aV bj a pw mc offs da w ds::aq v 131 (bY a xm yn oth pages (qg 64 0) ⟨none,0,0⟩)::aq z 128 [xo (some v)]::As):=H2.bi 3 [1,2,0];refine(pF p).mono ?_;rintro _ h3 ⟨rfl,rfl⟩;refine⟨_,rfl,?_⟩;refine cl (fun(o:aO) h'=>h'=h3/\((o=none/\lA m ds c=[])∨∃k d b,o=some b/\iR da k=some b/\bp ds k=some d/\lA m ds c=cZ m d.l)) ?_ ?_
 ·cases hd:bp ds c with
  |none=>
   rw[RT hd p];refine(RW h3).mono ?_;rintro _ _ ⟨rfl,rfl⟩;exact⟨false,rfl,bw (fun e=>by cases e) fun _=>⟨rfl,.inl ⟨rfl,by unfold lA;rw[hd]⟩⟩⟩
  |some d=>
   obtain⟨b,s,bl,hb,q1,q2,q3⟩:=pE hd p;rw[hb];refine(AK s bl q1).mono ?_;rintro _ _ ⟨rfl,rfl⟩;refine⟨_,rfl,bw (fun e=>⟨rfl,.inl ⟨rfl,by unfold lA;rw[hd];dsimp only;rw[if_pos e]⟩⟩) fun e=>⟨rfl,.inr ⟨c,d,b,rfl,hb,hd,by unfold lA;rw[hd];dsimp only;rw[if_neg (by rw[e];decide)]⟩⟩⟩
 rintro o h5 ⟨rfl,ho⟩;refine⟨some v,(p.box 2 rfl).cell0 rfl,?_⟩;refine(WA (As:=aq z 128 [xo (some v)]::As) o (lA m ds c) ho O ah hS.cons hz p).mono ?_;rintro _ h6 ⟨r,T,rfl,hT,R6⟩;obtain⟨rs,I⟩:∃rs,rs=xU m ds c others:=⟨_,rfl⟩
 have hT:T.map zt=rs:=by rw[hT,I];rfl
 have a6:rs.length<=512:=by
  rw[I];refine q7 (qP _ _) ?_;rcases ho with⟨_,h⟩|⟨k,d,b,_,hb,hd,h⟩
  ·rw[h];decide
  ·rw[h];obtain⟨_,_,_,_,_,_,q3⟩:=pE hd p;exact DK q3
 have J:∀x∈rs,ia x=true:=fun x i=>by
  rw[I]at i;have i:=(qB.1 i).1;rcases ho with⟨_,h⟩|⟨k,d,b,_,hb,hd,h⟩
  ·rw[h]at i;cases i
  ·rw[h]at i;obtain⟨_,_,_,hc⟩:=uo i;exact LK hc
 rw[<-I];have H6:aa B h0 h6 (cx 112 ⟨none,0,0⟩ 2 piv dX []::aV bj a pw mc offs da w ds::aq v 131 (bY a xm yn oth pages (qg 64 0) ⟨none,0,0⟩)::aq z 128 [xo (some v)]::(As++[bP r (T.map qJ),fq T])):=((p.comp R6).My 112 2 piv dX).bC;have H6:aa B h0 h6 (aV bj a pw mc offs da w ds::aq v 131 (bY a xm yn oth pages (qg 64 0) ⟨none,0,0⟩)::cx 112 ⟨none,0,0⟩ 2 piv dX []::aq z 128 [xo (some v)]::(As++[bP r (T.map qJ),fq T])):=H6.bi 4 [1,2,0,3];have fr:∀{h':Heap} {X Y Z W:HP},aa B h0 h' (X::Y::Z::W::(As++[bP r (T.map qJ),fq T]))->aa B h0 h' (X::Y::Z::W::bP r (T.map qJ)::fq T::As):=fun{h' X Y Z W} L=>by
  have M:aa B h0 h' ([bP r (T.map qJ),fq T]++(X::Y::Z::W::As)):=aa.front (As:=X::Y::Z::W::As) (Bs:=[bP r (T.map qJ),fq T]) L;exact aa.bi (As:=bP r (T.map qJ)::fq T::X::Y::Z::W::As) M 6 [2,3,4,5,0,1]
 have H6:=fr H6;have a4:=(H6.own 4 rfl).len;rw[qu]at a4;have a8:T.length=rs.length:=by rw[<-hT,qu]
 refine⟨r,rfl,?_⟩;refine aw (fun t:Nat×aC×List (Int×aX)×Sl=>(t.1:Int))
  (fun t h'=>t.1<=rs.length/\kI m ds pages others rs (qg 64 0) []=kI m ds pages others (rs.drop t.1) t.2.1 t.2.2.1/\t.2.1.length=64/\(∀x∈t.2.1,0<=x/\x<=t.1)/\t.2.2.1.length<=t.1/\(∀y∈t.2.2.1,y.1∈others/\y.2.length<=64)/\
   aa B h0 h' (aV bj a pw mc offs da w ds::aq v 131 (bY a xm yn oth pages t.2.1 t.2.2.2)::cx 112 t.2.2.2 2 piv dX t.2.2.1::aq z 128 [xo (some v)]::bP r (T.map qJ)::fq T::As))
  (fun t=>rs.length-t.1) (0,qg 64 0,[],⟨none,0,0⟩) rfl ⟨wm _,rfl,by simp,fun x i=>by rw[yM i];exact⟨vB _,vB _⟩,ql _,(fun y K=>by cases K),H6⟩ ?_
 rintro⟨j,g,l,sl⟩ h7 ⟨hj,n,E,hg,a0,S,H7⟩;dsimp only at hj n E hg a0 S H7⊢;refine al (fun e2=>?_) fun e2=>?_
 ·have F:j<rs.length:=by omega
  have P:j<T.length:=by omega
  refine(H7.seq 4 rfl fun _=>rfl).dt (g:=bn) j rfl (by rw[qu];exact P) T[j].1 (by rw[zS]) ?_;refine H7.alloc ae rfl fun V h8 H8=>?_;have H8:=H8.bC;refine H8.storeAll ae 0 rfl rfl (bn T[j].1) rfl rfl rfl rfl fun h9 H9=>?_;have H9:aa B h0 h9 (aq V 139 (bn T[j].1)::aV bj a pw mc offs da w ds::aq v 131 (bY a xm yn oth pages g sl)::cx 112 sl 2 piv dX l::aq z 128 [xo (some v)]::bP r (T.map qJ)::fq T::As):=H9;refine⟨some v,(H9.box 4 rfl).cell0 rfl,T[j].1,(H9.box 0 rfl).aL _ rfl,?_⟩;have a3:T[j].2=rs[j]:=by
   have M:(T.map zt)[j]?=rs[j]?:=by rw[hT]
   rw[qO,qd P,qd F]at M;injection M
  have ab:=(ge _).1 (J rs[j] (qh F));refine(Wz (v:=v) (xm:=xm) (yn:=yn) (oth:=oth) (others:=others) (As:=aq z 128 [xo (some v)]::bP r (T.map qJ)::fq T::aq V 139 (bn T[j].1)::As) T[j].1 rs[j] ab.2.2.1 E ad (fun x i=>by have:=hg x i;omega) (by omega) ah
   (fun Bs h' L=>?_) hz (H9.bi 7 [1,2,3,4,5,6,0])).mono ?_
  ·obtain⟨z1,z2⟩:=hS.cons.cons.cons.cons Bs h' L;refine⟨z1,z2,?_⟩;have z3:=(St.dU (B:=B) (h0:=h0) (As:=aq z 128 [xo (some v)]::bP r (T.map qJ)::fq T::aq V 139 (bn T[j].1)::As) (A:=fq T) (Q:=fun h=>fx dg h T[j].1 T[j].2) 2 rfl fun h' hq=>hq T[j] (qh P)) Bs h' L;rw[a3]at z3;exact z3
  ·rintro _ bb ⟨Q0,Q1⟩;have f:kI m ds pages others (rs.drop j) g l=match jJ m ds pages others g rs[j]with
     |none=>none
     |some k=>kI m ds pages others (rs.drop (j+1)) (g.set k.toNat (g.getD k.toNat 0+1)) (l++[(k,cy rs[j])]):=by
    rw[qV F];rfl
   cases hf:jJ m ds pages others g rs[j]with
   |none=>
    obtain⟨rfl,R⟩:=Q0 hf;rw[hf]at f;refine⟨false,rfl,bh (fun _=>?_) fun e=>by cases e⟩;exact⟨fun _=>⟨rfl,_,R.bi 7 [0,1]⟩,fun D q=>by rw[n,f]at q;cases q⟩
   |some k=>
    obtain⟨rfl,G,R⟩:=Q1 k hf;rw[hf]at f;dsimp only at f;obtain⟨a2,bk,bd⟩:=JH ab.2.2.1.1 (wH hf);refine⟨true,rfl,bh (fun e=>by cases e) fun _=>?_⟩;refine⟨(j+1,g.set k.toNat (g.getD k.toNat 0+1),l++[(k,cy rs[j])],G),by dsimp only;rw[ak _];rfl,⟨by dsimp only;omega,by dsimp only;rw[n,f],by dsimp only;rw[zA];exact E,fun x i=>?_,by dsimp only;rw[qx];simp;omega,fun y K=>?_,R.bi 7 [0,1,2,3,4,5]⟩,by dsimp only;omega⟩
    ·dsimp only at i⊢;rcases List.mem_or_eq_of_mem_set i with i|rfl
     ·have:=hg x i;omega
     ·have:=hg (g.getD k.toNat 0) (by rw[fQ 0];exact qh _);omega
    ·dsimp only at K;rcases qA.1 K with K|K
     ·exact S y K
     ·rw[qG.1 K];exact⟨a2,by rw[CW (J rs[j] (qh F))];exact ql _⟩
 ·have a9:¬(j:Int)<(r.len:Int):=e2;rw[zb (by omega)]at n;have n:kI m ds pages others rs (qg 64 0) []=some (g,l):=n;refine⟨fun q=>by rw[n]at q;(cases q),fun D q=>?_⟩;rw[n]at q;injection q with q
  subst q;exact⟨rfl,sl,H7.bi 6 [0,1,2],E,fun x i=>by have:=hg x i;omega,by dsimp only;omega,S⟩
end
end Go.Qw
namespace Wl
open Go Go.Qw Go.Vc
def dE(m:aG)(offs:Int)(w:Pow)(ds:aT)(a:Int):Int×aG×Pow×aT:=
 if dC w offs then(14,m,w,ds)else if a∉m.drives then(5,m,w,ds)else
 let others:=(bc ds m.drives).filter fun k=>!decide (k=a);let n:=mQ m (m.drives.filter fun k=>!decide (k=a));let pages:=(aY n).length
 if others=[]∨m.seq>=2147483647 then(7,m,w,ds)else
 match pH m ds pages others a with
 |none=>(7,m,w,ds)
 |some gl=>
  let b:=makes m (fun k=>(pages:Int)+gl.1.getD k.toNat 0) others w ds
  if b.1≠0 then(b.1,m,b.2)else
  let d:=layAll gl.2 b.2.1 b.2.2
  if d.1≠0 then(d.1,m,d.2)else
  let c:=eC m offs d.2.1 d.2.2 n
  if c.1≠0 then c else(0,c.2.1,c.2.2.1,c.2.2.2.set a.toNat none)
end Wl
namespace Go.Qw
open Go Go.Vc Go.Proofs Wl
theorem Zb(a:Addr)(x y:bD):aF xx (Instr.build 131 #[(0,xo (some a)),(1,eT x),(2,eT y)]) (xr (bY a x y ⟨none,0,0⟩ 0 (qg 64 0) ⟨none,0,0⟩).toArray):=
 uK ae (i:=_) rfl rfl rfl (vs:=[(0,xo (some a)),(1,eT x),(2,eT y)]) (cells:=(bY a x y ⟨none,0,0⟩ 0 (qg 64 0) ⟨none,0,0⟩).toArray) (by kernel_rfl)
section
variable {B:aB} {h0 h:Heap} {As:List HP} {a pw v:Addr} {offs:Int} {da:List aO} {w:Pow} {ds:aT} {mc:aW}
theorem TJ(x:bD)(m:aG)(k n:Int)(t:0<=k/\k<64)(l:St B h0 As fun h=>dK h x m)(f:cO m)(H:aa B h0 h (aV bj a pw mc offs da w ds::As)):
  ac xx 78 #[.pointer (iR da k),eT x,xl xt n] h fun u h'=>u=xl xt (dv m w ds k n).1/\aa B h0 h' (aV bj a pw mc offs da (dv m w ds k n).2.1 (dv m w ds k n).2.2::As):=by
 obtain⟨ok,r⟩:=aa.cB H;obtain⟨j,rfl⟩:∃j:Nat,k=j:=⟨k.toNat,by omega⟩
 rcases lc ok (j:Int)with⟨e1,e2⟩|⟨n',d,b,e0,e1,e2,e3,e4,e5⟩
 ·rw[e2];have e:dv m w ds j n=(5,w,ds):=by unfold dv;rw[e1]
  refine(GH x _ h).mono ?_;rintro _ h3 ⟨rfl,g⟩;rw[e];exact⟨rfl,H.up g.ai⟩
 ·rw[e5];have q:j=n':=by omega
  subst q;obtain⟨s,c,p⟩:=Go.Vc.aa.kP H e2;rw[e4]at c;injection c with c
  injection c with c
  subst c;have e:dv m w ds j n=((fW m w d n).1,(fW m w d n).2.1,ds.set j (some (fW m w d n).2.2)):=by unfold dv;rw[e3];simp only[jE,qo]
  refine(Oh x m n (fun Bs h' o=>l (Bs++[_]) h' (by rw[qp];exact o)) f p).mono ?_;rintro _ h3 ⟨rfl,i⟩;rw[e];exact⟨rfl,Go.Vc.aa.DB (k:=bj) (n:=j) e4 i⟩
theorem Zc{a:Addr}{x y:bD}{oth:Sl}{pages:Int}{g:aC}{sl:Sl}(b:Sl):(bY a x y oth pages g sl).set 17 (xn b.ptr b.len b.cap)=bY a x y b pages g sl:=rfl
theorem abq{a:Addr}{x y:bD}{oth:Sl}{pages:Int}{g:aC}{sl:Sl}(b:Int):(bY a x y oth pages g sl).set 18 (xl xt b)=bY a x y oth b g sl:=rfl
theorem Zd{a:Addr}{x y:bD}{oth:Sl}{pages:Int}{g:aC}{sl:Sl}(b:Int):(bY a x y oth pages g sl).set 9 (xl xt b)=bY a x (b,y.2) oth pages g sl:=rfl
theorem abr{a:Addr}{x y:bD}{oth:Sl}{pages:Int}{g:aC}{sl:Sl}(b:Sl):(bY a x y oth pages g sl).set 15 (xn b.ptr b.len b.cap)=bY a x (y.1,y.2.1,y.2.2.1,y.2.2.2.1,y.2.2.2.2.1,y.2.2.2.2.2.1,b,y.2.2.2.2.2.2.2) oth pages g sl:=rfl
theorem Ze(n a:Int)(b:Addr)(h:Heap)(c:bX h b 3 [xl xt a]):ac xx 73 #[xl xt n,xo (some b)] h fun u h'=>u=xq (n !=a)/\Sp h h' []:=by
 refine FN n b ?_;unfold vG;exact⟨a,c.cell0 rfl,rfl,Sp.refl h⟩
theorem aeZ(n a:Int):(!(n !=a))=decide (n=a):=by
 by_cases h:n=a
 ·subst h;simp
 ·simp[h]
theorem TK(b:Int)(x:bD)(m:aG)(hm:bO m=true)(H:aa B h0 h (aV bj a pw (aP x) offs da w ds::bU x m::As)):
  ac xx 14 #[xo (some a),xl xt b] h fun v h'=>v=xl xt (dE m offs w ds b).1/\
   ∃y K,aa B h0 h' (aV bj a pw (aP y) offs K (dE m offs w ds b).2.2.1 (dE m offs w ds b).2.2.2::bU y (dE m offs w ds b).2.1::As):=by
 refine Jf (some a) b ?_;unfold BP;have hz:=uG hm;have ea:=kM hm;have a5:=im hm;obtain⟨g1,g2,g3,g4⟩:=(dM m).1 ((bZ m).1 hm).1;refine H.boxed fun g h1 H1=>?_;have H1:aa B h0 h1 (aV bj a pw (aP x) offs da w ds::bU x m::aq g 3 [xl xt b]::As):=(H1.bC).bi 3 [1,2,0];refine(GU H1).mono ?_;rintro _ h2 ⟨rfl,rfl⟩;refine⟨_,rfl,bw (fun e=>?_) fun e1=>?_⟩
 ·have ep:dE m offs w ds b=(14,m,w,ds):=by unfold dE;rw[if_pos e]
  rw[ep];exact⟨rfl,x,da,H1.bi 3 [0,1]⟩
 refine(Cu x m (H1.at 1 rfl) hz H1).mono ?_;rintro _ h3 ⟨y,rfl,R3⟩;have H3:=H1.cS R3;refine⟨y,rfl,H3.alloc ae rfl fun a4 h4 H4=>?_⟩;have H4:=H4.bC;refine H4.storeAll ae 0 rfl rfl (aP y) rfl rfl rfl rfl fun h5 H5=>?_;have H5:aa B h0 h5 (aV bj a pw (aP x) offs da w ds::bU x m::aq a4 59 (aP y)::bU y m::aq g 3 [xl xt b]::As):=H5.bi 5 [2,3,0,1,4];have a6:dK h5 y m:=H5.at 3 rfl;refine⟨y.2.2.2.2.2.2.1,(H5.box 2 rfl).cell rfl,b,(H5.box 4 rfl).cell0 rfl,(rD _ m.drives b h5 a6.drives).mono ?_⟩;rintro _ h6 ⟨rfl,rfl⟩;refine⟨_,rfl,bh (fun e2=>?_) fun e2=>?_⟩
 ·have ep:dE m offs w ds b=(5,m,w,ds):=by unfold dE;rw[if_neg (by rw[e1];decide),if_pos (of_decide_eq_false e2)]
  rw[ep];exact⟨rfl,x,da,H5.bi 5 [0,1]⟩
 have M:b∈m.drives:=of_decide_eq_true e2;refine H5.alloc ae rfl fun D h7 H7=>?_;have H7:=H7.bC;refine H7.storeAll ae 0 rfl rfl [.func (.func 73) #[] #[xo (some g)]] rfl rfl rfl rfl fun h8 H8=>?_;have H8:aa B h0 h8 (aV bj a pw (aP x) offs da w ds::bU x m::aq D 127 [.func (.func 73) #[] #[xo (some g)]]::aq g 3 [xl xt b]::aq a4 59 (aP y)::bU y m::As):=H8.bi 6 [1,2,0,5,3,4];refine be ⟨y,(H8.box 4 rfl).aL _ rfl,(LM x m (H8.at 1 rfl) hz H8).mono ?_⟩;rintro _ h9 ⟨p,L,pool,rfl,hf,d3,hL,R9⟩;have H9:=(H8.comp R9).front;have dz:bX h9 a4 59 (aP y):=(H8.up R9.ai).box 4 rfl;have O:∀{h':Heap},bX h' a4 59 (aP y)->av.ok [(a4,xl xt y.1),(a4.add 1,xl xt y.2.1),(a4.add 2,xl xt y.2.2.1),(a4.add 3,xl xt y.2.2.2.1),(a4.add 4,xl xt y.2.2.2.2.1),(a4.add 5,xl xt y.2.2.2.2.2.1),(a4.add 6,xn y.2.2.2.2.2.2.1.ptr y.2.2.2.2.2.2.1.len y.2.2.2.2.2.2.1.cap),(a4.add 7,xn y.2.2.2.2.2.2.2.ptr y.2.2.2.2.2.2.2.len y.2.2.2.2.2.2.2.cap)] h':=fun{h'} I=>⟨I.cell0 rfl,I.cell rfl,I.cell rfl,I.cell rfl,I.cell rfl,I.cell rfl,I.cell rfl,I.cell rfl,trivial⟩
 refine⟨p,rfl,O dz,_,Zb a y p,H9.boxed fun c bb G=>⟨O ?_,?_⟩⟩
 ·exact(show aa B h0 bb _ from G).box 7 rfl
 have G:aa B h0 bb (aq c 131 (bY a y p ⟨none,0,0⟩ 0 (qg 64 0) ⟨none,0,0⟩)::eF 1 aD pool::ar 3 p.2.2.2.2.2.2.1 1 aD m.drives::ar 105 p.2.2.2.2.2.2.2 4 bI (L.map qJ)::aV bj a pw (aP x) offs da w ds::bU x m::aq D 127 [.func (.func 73) #[] #[xo (some g)]]::aq g 3 [xl xt b]::aq a4 59 (aP y)::bU y m::As):=G.bC;have G:aa B h0 bb (aV bj a pw (aP x) offs da w ds::bU x m::aq D 127 [.func (.func 73) #[] #[xo (some g)]]::aq g 3 [xl xt b]::aq c 131 (bY a y p ⟨none,0,0⟩ 0 (qg 64 0) ⟨none,0,0⟩)::ar 3 p.2.2.2.2.2.2.1 1 aD m.drives::eF 1 aD pool::ar 105 p.2.2.2.2.2.2.2 4 bI (L.map qJ)::aq a4 59 (aP y)::bU y m::As):=G.bi 10 [4,5,6,7,0,2,1,3,8,9];refine(ez x m (G.at 1 rfl) hz G).mono ?_;rintro _ en ⟨lv,rfl,c9⟩;have cq:=G.cS c9;have eh:(bc ds m.drives).length<=m.drives.length:=qP _ _;have b0:∀(ad:FuncId) (a3:ad=75∨ad=76) (n:Int) (h':Heap),(bX h' D 127 [.func (.func 73) #[] #[xo (some g)]]/\bX h' g 3 [xl xt b])->ac xx ad ([Value.int .i64 n]++(#[Value.pointer (some D)]:Array Value).toList).toArray h' fun v ch=>v=xq (decide (n=b))/\Sp h' ch []:=fun ad a3 n h' I=>by
  obtain⟨cr,dx⟩:=I;have a2:∃x1:cA,cellOf h' D=some (.func (.func x1.1) x1.2.1 x1.2.2)/\gb C x1.1 (x1.2.1.toList++[(xl xt n)]++x1.2.2.toList) (.one (.sc .bool)) h' fun r2 h1=>(Value.bool (!r2)=xq (decide (n=b))/\Sp h' h1 []):=by
   refine⟨(73,#[],#[xo (some g)]),cr.cell0 rfl,ee (by rfl) ((Ze n b g h' dx).mono ?_)⟩;rintro _ ch ⟨rfl,R⟩;exact⟨_,rfl,by rw[aeZ],R⟩
  rcases a3 with rfl|rfl
  ·refine FO n D ?_;unfold vP;exact a2
  ·refine FP n D ?_;unfold wd;exact a2
 refine⟨lv,rfl,(xF lv (bc ds m.drives) 75 #[xo (some D)] (fun n=>decide (n=b)) (fun h'=>bX h' D 127 [.func (.func 73) #[] #[xo (some g)]]/\bX h' g 3 [xl xt b]) (by rfl)
  ((St.dU (A:=aq D 127 [.func (.func 73) #[] #[xo (some g)]]) 2 rfl fun h' r=>r.1).and (St.dU (A:=aq g 3 [xl xt b]) 3 rfl fun h' r=>r.1)) (fun n h' I=>b0 _ (.inl rfl) n h' I) cq (by omega)).mono ?_⟩
 rintro _ eb ⟨f,rfl,b4⟩;obtain⟨others,u⟩:∃others,others=(bc ds m.drives).filter fun k=>!decide (k=b):=⟨_,rfl⟩
 rw[<-u]at b4;have d0:others.length<=64:=by rw[u];exact q7 (qP _ _) (by omega)
 have W:∀k∈others,0<=k/\k<64:=fun k hk=>by rw[u]at hk;exact a5 k (mE (qB.1 hk).1).1
 have ab:∀k∈others,∃d,bp ds k=some d/\d.lost=false:=fun k hk=>by rw[u]at hk;exact(mE (qB.1 hk).1).2
 refine⟨f,rfl,c,rfl,?_⟩;refine b4.storeAt ae 5 rfl rfl rfl rfl rfl (by rw[oF (by simp)];omega) fun c0 s=>?_;rw[Zc f]at s;have s:aa B h0 c0 (ar 3 f 1 aD others::aV bj a pw (aP x) offs da w ds::bU x m::aq D 127 [.func (.func 73) #[] #[xo (some g)]]::aq g 3 [xl xt b]::aq c 131 (bY a y p f 0 (qg 64 0) ⟨none,0,0⟩)::ar 3 p.2.2.2.2.2.2.1 1 aD m.drives::eF 1 aD pool::ar 105 p.2.2.2.2.2.2.2 4 bI (L.map qJ)::aq a4 59 (aP y)::bU y m::As):=s;have cd:=(s.own 0 rfl).len;have V:∀{h':Heap} {w':Pow} {ds':aT} {Ds:List HP},aa B h0 h' (aV bj a pw (aP x) offs da w ds::bU x m::As)->dE m offs w ds b=(7,m,w,ds)->(Value.int .i64 7=xl xt (dE m offs w ds b).1/\∃y K,aa B h0 h' (aV bj a pw (aP y) offs K (dE m offs w ds b).2.2.1 (dE m offs w ds b).2.2.2::bU y (dE m offs w ds b).2.1::As)):=fun{h' w' ds' Ds} H' ep=>by
  rw[ep];exact⟨rfl,x,da,H'⟩
 have e7:(others=[]∨m.seq>=2147483647)->dE m offs w ds b=(7,m,w,ds):=fun hc=>by
  unfold dE;rw[if_neg (by rw[e1];decide),if_neg (fun hh=>hh M)];dsimp only;rw[<-u,if_pos hc]
 refine be ⟨c,rfl,f,(s.box 5 rfl).cell rfl,cI (fun e=>?_) fun e3=>⟨y.1,(s.box 9 rfl).cell0 rfl,al (fun e=>?_) fun e4=>?_⟩⟩
 ·exact V (w':=w) (ds':=ds) (Ds:=[]) (s.bi 11 [1,2]) (e7 (.inl (yV.1 (by omega))))
 ·rw[a6.seq]at e;exact V (w':=w) (ds':=ds) (Ds:=[]) (s.bi 11 [1,2]) (e7 (.inr e))
 rw[a6.seq]at e4;have b6:others≠[]:=fun h=>e3 (by rw[cd,h];rfl);refine⟨c,rfl,p.1,(s.box 5 rfl).cell rfl,c,rfl,?_⟩;rw[hf.1,ak (m.seq+1)];refine s.storeAt ae 5 rfl rfl rfl rfl rfl (by rw[oF (by simp)];omega) fun cs Y=>?_;rw[Zd (m.seq+1)]at Y;have Y:aa B h0 cs (ar 3 p.2.2.2.2.2.2.1 1 aD m.drives::ar 3 f 1 aD others::aV bj a pw (aP x) offs da w ds::bU x m::aq D 127 [.func (.func 73) #[] #[xo (some g)]]::aq g 3 [xl xt b]::aq c 131 (bY a y (m.seq+1,p.2) f 0 (qg 64 0) ⟨none,0,0⟩)::eF 1 aD pool::ar 105 p.2.2.2.2.2.2.2 4 bI (L.map qJ)::aq a4 59 (aP y)::bU y m::As):=Y.bi 11 [6,0,1,2,3,4,5,7,8,9,10];refine⟨c,rfl,p.2.2.2.2.2.2.1,by rw[addr_add];exact(Y.box 6 rfl).cell rfl,?_⟩;refine(xF p.2.2.2.2.2.2.1 m.drives 76 #[xo (some D)] (fun n=>decide (n=b)) (fun h'=>bX h' D 127 [.func (.func 73) #[] #[xo (some g)]]/\bX h' g 3 [xl xt b]) (by rfl)
  ((St.dU (A:=aq D 127 [.func (.func 73) #[] #[xo (some g)]]) 3 rfl fun h' r=>r.1).and (St.dU (A:=aq g 3 [xl xt b]) 4 rfl fun h' r=>r.1)) (fun n h' I=>b0 _ (.inr rfl) n h' I) Y (by omega)).mono ?_
 rintro _ ec ⟨ax,rfl,cf⟩;obtain⟨dr,a7⟩:∃dr,dr=m.drives.filter fun k=>!decide (k=b):=⟨_,rfl⟩
 rw[<-a7]at cf;refine⟨ax,rfl,c,rfl,?_⟩;rw[addr_add];refine cf.storeAt ae 6 rfl rfl rfl rfl rfl (by rw[oF (by simp)];omega) fun bl E=>?_;rw[show 9+6=15 from rfl,abr ax]at E;obtain⟨l,ay⟩:∃l:bD,l=(m.seq+1,p.2.1,p.2.2.1,p.2.2.2.1,p.2.2.2.2.1,p.2.2.2.2.2.1,ax,p.2.2.2.2.2.2.2):=⟨_,rfl⟩
 have ed:l.2.2.2.2.2.2.1=ax:=by rw[ay]
 have eo:l.2.2.2.2.2.2.2=p.2.2.2.2.2.2.2:=by rw[ay]
 obtain⟨N,hN⟩:∃N,N=mQ m dr:=⟨_,rfl⟩
 have E:aa B h0 bl (ar 3 l.2.2.2.2.2.2.1 1 aD N.drives::ar 3 f 1 aD others::aV bj a pw (aP x) offs da w ds::bU x m::aq D 127 [.func (.func 73) #[] #[xo (some g)]]::aq g 3 [xl xt b]::aq c 131 (bY a y l f 0 (qg 64 0) ⟨none,0,0⟩)::eF 1 aD pool::ar 105 l.2.2.2.2.2.2.2 4 bI (L.map qJ)::aq a4 59 (aP y)::bU y m::As):=by rw[ed,eo,hN,ay];exact E
 have E:aa B h0 bl (bU l N::ar 3 f 1 aD others::aV bj a pw (aP x) offs da w ds::bU x m::aq D 127 [.func (.func 73) #[] #[xo (some g)]]::aq g 3 [xl xt b]::aq c 131 (bY a y l f 0 (qg 64 0) ⟨none,0,0⟩)::aq a4 59 (aP y)::bU y m::As):=
  aa.Jz (m:=N) (L:=L) (pool:=pool) (by rw[hN,ay];exact⟨rfl,hf.2.1,hf.2.2.1,hf.2.2.2⟩) (by rw[hN];exact d3) hL (E.bi 11 [7,0,8,1,2,3,4,5,6,9,10])
 have a9:cO N:=by rw[hN];exact⟨by show dr.length<=_;rw[a7];exact q7 (qP _ _) (by omega),hz.ob,hz.nm⟩
 refine⟨c,rfl,l,(E.box 6 rfl).cells 9 _ rfl,(kY l N bl (E.at 0 rfl) a9).mono ?_⟩;rintro _ ei ⟨pg,rfl,b9⟩;have a0:=(aa.AZ b9).1;have b3:=jb N a9;obtain⟨j,ce⟩:∃j,j=(aY N).length:=⟨_,rfl⟩
 rw[<-ce]at a0 b3;have cp:=E.up b9.ai;refine⟨pg,rfl,c,rfl,?_⟩;refine cp.storeAt ae 6 rfl rfl rfl rfl rfl (by rw[oF (by simp)];omega) fun d2 S=>?_;rw[abq (pg.len:Int),a0]at S;have S:aa B h0 d2 (aV bj a pw (aP x) offs da w ds::aq c 131 (bY a y l f j (qg 64 0) ⟨none,0,0⟩)::ar 3 f 1 aD others::bU l N::aq g 3 [xl xt b]::aq a4 59 (aP y)::bU y m::bU x m::As):=S.bi 9 [2,6,1,0,5,7,8,3];obtain⟨T,hT⟩:∃T,T=ar 3 f 1 aD others::bU l N::aq g 3 [xl xt b]::aq a4 59 (aP y)::bU y m::bU x m::As:=⟨_,rfl⟩
 have tL:St B h0 T fun h=>Rd h f 1 aD others:=by rw[hT];exact St.dU (A:=ar 3 f 1 aD others) 0 rfl fun _ r=>r.1.seq (fun _=>rfl) r.2
 have tN:St B h0 T fun h=>dK h l N:=by rw[hT];exact St.dU 1 rfl fun _ r=>r
 have tS:St B h0 T fun h=>bX h g 3 [xl xt b]:=by rw[hT];exact St.dU (A:=aq g 3 [xl xt b]) 2 rfl fun _ r=>r.1
 have tB:St B h0 T fun h=>bX h a4 59 (aP y):=by rw[hT];exact St.dU (A:=aq a4 59 (aP y)) 3 rfl fun _ r=>r.1
 have tY:St B h0 T fun h=>dK h y m:=by rw[hT];exact St.dU 4 rfl fun _ r=>r
 have fin:∀{h':Heap} {w':Pow} {ds':aT} {K:List aO} {X:HP},aa B h0 h' (aV bj a pw (aP x) offs K w' ds'::X::T)->aa B h0 h' (aV bj a pw (aP x) offs K w' ds'::bU x m::As):=fun{h' w' ds' K X} H'=>by
  rw[hT]at H';exact H'.bi 8 [0,7]
 rw[<-hT]at S;refine⟨b,(tS.at [_,_] S).cell0 rfl,?_⟩;have d7:dE m offs w ds b=match pH m ds j others b with
   |none=>(7,m,w,ds)
   |some gl=>
    if(makes m (fun k=>(j:Int)+gl.1.getD k.toNat 0) others w ds).1≠0 then((makes m (fun k=>(j:Int)+gl.1.getD k.toNat 0) others w ds).1,m,(makes m (fun k=>(j:Int)+gl.1.getD k.toNat 0) others w ds).2)else
    if(layAll gl.2 (makes m (fun k=>(j:Int)+gl.1.getD k.toNat 0) others w ds).2.1 (makes m (fun k=>(j:Int)+gl.1.getD k.toNat 0) others w ds).2.2).1≠0 then((layAll gl.2 (makes m (fun k=>(j:Int)+gl.1.getD k.toNat 0) others w ds).2.1 (makes m (fun k=>(j:Int)+gl.1.getD k.toNat 0) others w ds).2.2).1,m,(layAll gl.2 (makes m (fun k=>(j:Int)+gl.1.getD k.toNat 0) others w ds).2.1 (makes m (fun k=>(j:Int)+gl.1.getD k.toNat 0) others w ds).2.2).2)else
    let r3:=eC m offs (layAll gl.2 (makes m (fun k=>(j:Int)+gl.1.getD k.toNat 0) others w ds).2.1 (makes m (fun k=>(j:Int)+gl.1.getD k.toNat 0) others w ds).2.2).2.1 (layAll gl.2 (makes m (fun k=>(j:Int)+gl.1.getD k.toNat 0) others w ds).2.1 (makes m (fun k=>(j:Int)+gl.1.getD k.toNat 0) others w ds).2.2).2.2 N
    if r3.1≠0 then r3 else(0,r3.2.1,r3.2.2.1,r3.2.2.2.set b.toNat none):=by
  unfold dE;rw[if_neg (by rw[e1];decide),if_neg (fun hh=>hh M)];dsimp only;rw[<-u,<-a7,<-hN,<-ce,if_neg (by rintro(h|h);exact b6 h;exact e4 h)]
 rw[d7];refine(WB (v:=c) (xm:=y) (yn:=l) (oth:=f) (others:=others) b (by omega) W ab d0 (tY.and tL) hz S).mono ?_;rintro _ ej ⟨Q0,Q1⟩;cases hpl:pH m ds j others b with
 |none=>
  obtain⟨rfl,mv,ah⟩:=Q0 hpl;exact⟨false,rfl,bh (fun _=>⟨rfl,x,da,fin ah⟩) fun e=>by cases e⟩
 |some gl=>
  obtain⟨rfl,q,ah,b1,d6,d8,cc⟩:=Q1 gl hpl;refine⟨true,rfl,bh (fun e=>by cases e) fun _=>?_⟩;dsimp only;obtain⟨NN,b5⟩:∃NN:Int->Int,NN=fun k=>(j:Int)+gl.1.getD k.toNat 0:=⟨_,rfl⟩
  rw[<-b5];obtain⟨Z,hZ⟩:∃Z,Z=makes m NN others w ds:=⟨_,rfl⟩
  rw[<-hZ];refine⟨c,rfl,f,(ah.box 1 rfl).cell rfl,?_⟩;refine aw (fun t:Nat×Pow×aT=>(t.1:Int)) (fun t h'=>t.1<=others.length/\Z=makes m NN (others.drop t.1) t.2.1 t.2.2/\aa B h0 h' (aV bj a pw (aP x) offs da t.2.1 t.2.2::aq c 131 (bY a y l f j gl.1 q)::cx 112 q 2 piv dX gl.2::T)) (fun t=>others.length-t.1) (0,w,ds) rfl ⟨wm _,hZ,ah⟩ ?_;rintro⟨i,w1,ap⟩ d4 ⟨hi,o,J⟩;dsimp only at hi o J⊢;have F:=J.box 1 rfl;refine al (fun e=>?_) fun e=>?_
  ·have bq:i<others.length:=by omega
   rw[Lx _ _ _ _ _ _ bq]at o;refine(tL.at [_,_,_] J).bx i rfl bq others[i] rfl ?_;obtain⟨k,hk⟩:∃k,k=others[i]:=⟨_,rfl⟩
   have Q:=W others[i] (qh bq);rw[<-hk]at o Q⊢;have cm:k.toNat<64:=by omega
   have bk:∀{h':Heap},bX h' c 131 (bY a y l f j gl.1 q)->cellOf h' ((c.add 19).add (k.toNat*1))=some (Oq (gl.1.getD k.toNat 0)):=fun{h'} I=>by
    rw[addr_add,zT];exact I.cell (Nl b1 cm)
   have ef:0<=gl.1.getD k.toNat 0/\gl.1.getD k.toNat 0<=512:=by rw[fQ 0];exact d6 _ (qh _)
   have br:=tB.at [_,_,_] J;refine be ⟨y,br.aL _ rfl,c,rfl,(j:Int),F.cell rfl,c,rfl,⟨Q.1,Q.2⟩,gl.1.getD k.toNat 0,bk F,(pF J).mono ?_⟩;rintro _ eg ⟨rfl,rfl⟩;obtain⟨c1,c2,c3,c4,c5,c6,c7,c8,_⟩:=O br;refine⟨_,rfl,⟨bk F,F.cell rfl,c1,c2,c3,c4,c5,c6,c7,c8,trivial⟩,?_⟩;rw[ak ((j:Int)+gl.1.getD k.toNat 0)];refine(TJ y m k ((j:Int)+gl.1.getD k.toNat 0) Q (As:=aq c 131 (bY a y l f j gl.1 q)::cx 112 q 2 piv dX gl.2::T) tY.cons.cons hz J).mono ?_;have d5:NN k=(j:Int)+gl.1.getD k.toNat 0:=by rw[b5]
   rw[<-d5];obtain⟨U,b2⟩:∃U,U=dv m w1 ap k (NN k):=⟨_,rfl⟩
   rw[<-b2]at o⊢;rintro _ ek ⟨rfl,am⟩;refine⟨U.1,rfl,⟨bk (am.box 1 rfl),(am.box 1 rfl).cell rfl,trivial⟩,ca (fun e5=>?_) fun e5=>?_⟩
   ·rw[if_neg e5]at o;rw[o,if_pos e5];exact⟨rfl,x,da,fin (am.bi 3 [0,1])⟩
   ·rw[if_pos e5]at o;exact⟨(i+1,U.2.1,U.2.2),by dsimp only;rw[ak _];rfl,⟨by dsimp only;omega,o,am⟩,by dsimp only;omega⟩
  ·have dk:others.drop i=[]:=zb (by omega);rw[dk]at o;have o:Z=(0,w1,ap):=o;rw[o];rw[if_neg (by simp)];dsimp only;refine⟨c,rfl,q,F.cell (HN b1),?_⟩;obtain⟨ys,bd⟩:=J.IU 2 rfl fun _=>rfl;have bd:aa B h0 d4 (aV bj a pw (aP x) offs da w1 ap::aq c 131 (bY a y l f j gl.1 q)::cu dX 2 piv q ys gl.2::T):=bd;refine(AL q ys gl.2 (As:=aq c 131 (bY a y l f j gl.1 q)::cu dX 2 piv q ys gl.2::T) (St.dU 1 rfl fun _ r=>r) (by omega) (fun z b7=>⟨W _ (cc z b7).1,by have:=(cc z b7).2;omega⟩) bd).mono ?_;rintro _ du ⟨rfl,P⟩;obtain⟨r2,dd⟩:∃r2,r2=layAll gl.2 w1 ap:=⟨_,rfl⟩
   rw[<-dd]at P⊢;refine⟨_,rfl,ca (fun e5=>?_) fun e5=>?_⟩
   ·rw[if_pos e5];exact⟨rfl,x,da,fin (P.bi 3 [0,1])⟩
   rw[if_neg (by simpa using e5)];refine⟨c,rfl,l,(P.box 1 rfl).cells 9 _ rfl,?_⟩;have P:aa B h0 du (aV bj a pw (aP x) offs da r2.2.1 r2.2.2::bU x m::aq g 3 [xl xt b]::bU l N::As):=by
    rw[hT]at P;exact P.bi 9 [0,8,5,4]
   refine(TD x m l N (As:=aq g 3 [xl xt b]::bU l N::As) (St.dU 1 rfl fun _ r=>r) hz a9 (by omega) P).mono ?_;rintro _ er ⟨rfl,y5,ao⟩;obtain⟨r3,cn⟩:∃r3,r3=eC m offs r2.2.1 r2.2.2 N:=⟨_,rfl⟩
   rw[<-cn]at ao⊢;refine⟨_,rfl,ca (fun e6=>?_) fun e6=>?_⟩
   ·rw[if_pos e6];exact⟨rfl,y5,da,ao.bi 4 [0,1]⟩
   rw[if_neg (by simpa using e6)];refine⟨b,(ao.box 2 rfl).cell0 rfl,?_⟩;have d9:=a5 b M;obtain⟨sn,dy⟩:∃sn:Nat,b=sn:=⟨b.toNat,by omega⟩
   subst dy;refine(RS sn (by omega) y5 (ao.bi 4 [0,1])).mono ?_;rintro _ el ⟨rfl,d1⟩;exact⟨(),rfl,rfl,y5,_,d1⟩
end
theorem RX{m:aG}{offs:Int}{w:Pow}{ds:aT}{n:aG}(q:w.calm)(j:ds.length=64)(u:dC w offs=false)(p:bO n=true)(G:n.seq=m.seq+1):
  let live:=bc ds n.drives;let N:Int->Int:=fun _=>((aY n).length:Int)
  (live=[]∨cH m ds live N=false->eC m offs w ds n=(7,m,w,ds))/\(live≠[]->cH m ds live N=true->∃ds',eC m offs w ds n=(0,n,w,ds')/\ds'.length=64/\
   ∀k,bp ds' k=(bp ds k).map fun d=>if k∈live then dq (aY n) (dI m d (aY n).length)else d):=by
 intro live N;have b:live.Nodup:=GQ (oX p);have e:eC m offs w ds n=(if live=[]∨cH m ds live N=false then(7,m,w,ds)else
   if(makes m N live w ds).1≠0 then((makes m N live w ds).1,m,(makes m N live w ds).2)else
   ((layAll (bA n live) (makes m N live w ds).2.1 (makes m N live w ds).2.2).1,if(layAll (bA n live) (makes m N live w ds).2.1 (makes m N live w ds).2.2).1=0 then n else m,(layAll (bA n live) (makes m N live w ds).2.1 (makes m N live w ds).2.2).2)):=by
  unfold eC;rw[if_neg (by rw[u];decide),if_neg (by rw[p,decide_eq_false (by simpa using G)];decide)]
 refine⟨fun h=>by rw[e,if_pos h],fun o l=>?_⟩;rw[e,if_neg (by rintro(h|h);exact o h;rw[l]at h;cases h)];obtain⟨B,v,H,r⟩:=uq q (N:=N) b j l;rw[v];dsimp only;rw[if_neg (by simp)];obtain⟨A,F,z,s⟩:=GP q (ds:=B) (P:=bA n live) H fun x t=>by
  obtain⟨a,f⟩:=ke t;obtain⟨E,i,g⟩:=rR (qN.1 l x.1 a);obtain⟨D,y,I⟩:=DJ g;refine⟨f,dI m E (N x.1),?_,D,?_⟩
  ·rw[r,i,qL,if_pos a]
  ·rw[oE b,if_pos a,y];have:N x.1=((aY n).length:Int):=rfl;omega
 rw[F];refine⟨A,rfl,z,fun k=>?_⟩;rw[s,r,Option.map_map];congr 1;funext d;show dq (dY (bA n live) k) (if k∈live then dI m d (N k)else d)=_;rw[oE b];by_cases c:k∈live
 ·rw[if_pos c,if_pos c,if_pos c]
 ·rw[if_neg c,if_neg c,if_neg c];rfl
theorem WC{m:aG}{ds:aT}{live:aC}{N:Int->Int}(h:∀k∈live,∃d,bp ds k=some d/\d.lost=false/\0<=N k/\(d.l.length:Int)+N k<=d.room):cH m ds live N=true:=(roomy (w:=Pow.new) h).1
theorem TL{m:aG}{l:aC}(h:bO m=true)(p:m.seq<=2147483646)(d:l.Pairwise (·<·))(a:∀k∈l,0<=k/\k<64):bO {m with seq:=m.seq+1,drives:=l}=true:=by
 obtain⟨j,n,h3,b,g,i,e⟩:=(bZ m).1 h;obtain⟨o,c,a3,a4⟩:=(dM m).1 j;refine(bZ _).2 ⟨(dM _).2 ⟨⟨?_,?_⟩,c,a3,a4⟩,d,fun k f=>?_,b,g,i,e⟩
 ·show 1<=m.seq+1;omega
 ·show m.seq+1<=_;omega
 ·have:=a k f;exact⟨this.1,by omega⟩
end Go.Qw
namespace Wl
open Go
structure Pg where
 seq:Int
 num:Int
 many:Int
 bears:aX
 cell:aX
def afa(x c:aX):Pg:=⟨de (x.take 4),((x.getD 4 0).toNat:Int),((x.getD 5 0).toNat:Int),(x.drop 7).take (x.getD 6 0).toNat,c⟩
def CD(c:aX):Option Pg:=
 match jM c with
 |some (k,x)=>if k=2/\(x.getD 6 0).toNat<=48/\(x.drop (7+(x.getD 6 0).toNat)).all (fun b=>decide (b=0))=true then some (afa x c)else none
 |none=>none
theorem WD{seq c a:Int}{b:aX}(i:0<=seq/\seq<4294967296)(r:0<=c/\c<256)(h3:0<=a/\a<256)(q:b.length<=48):CD (jH seq c a b)=some ⟨seq,c,a,b,jH seq c a b⟩:=by
 have k:(bN seq 4++([b8 c,b8 a,b8 b.length]++b)).length=7+b.length:=by simp[co];omega
 obtain⟨x,e⟩:∃x,x=bN seq 4++([b8 c,b8 a,b8 b.length]++b)++qg (55-(bN seq 4++([b8 c,b8 a,b8 b.length]++b)).length) 0:=⟨_,rfl⟩
 have n:jM (jH seq c a b)=some (2,x):=by
  unfold jH;rw[Au,e]
 have d:=Kl seq;have f:x.getD 6 0=b8 b.length:=by rw[e,d];rfl
 have m:x.getD 5 0=b8 a:=by rw[e,d];rfl
 have o:x.getD 4 0=b8 c:=by rw[e,d];rfl
 have j:x.take 4=bN seq 4:=by rw[e,d];rfl
 have g:x.drop 7=b++qg (55-(7+b.length)) 0:=by rw[e,k,d];rfl
 have h:((b8 (b.length:Int)).toNat)=b.length:=by have:=rY (b.length:Int);omega
 unfold CD;rw[n];dsimp only;have p:(b8 (b.length:Int)).toNat<=48:=by omega
 rw[if_pos ⟨rfl,by rw[f];exact p,by
  rw[f,h,<-zH,g,List.drop_left];exact qN.2 fun y l=>decide_eq_true (yM l)⟩]
 unfold afa;rw[j,o,m,f,g,ND i.1 i.2,h,List.take_left];have:=rY c;have:=rY a;congr 2<;>omega
def pgN(m:aG)(i:Nat):Pg:=⟨m.seq,i,gX (gp m),((gp m).drop (48*i)).take 48,jH m.seq i (gX (gp m)) (((gp m).drop (48*i)).take 48)⟩
theorem Ot(m:aG):aY m=(qE (gX (gp m))).map fun i=>(pgN m i).cell:=rfl
theorem adE{m:aG}(a:bO m=true):gX (gp m)<=9:=by
 have:=Go.Qw.GS a;unfold aY at this
 rwa [qu,zx]at this
theorem WE{m:aG}(a:bO m=true){i:Nat}(d:i<gX (gp m)):CD (pgN m i).cell=some (pgN m i):=by
 have c:=adE a;have b:=((dM m).1 ((bZ m).1 a).1).1;exact WD ⟨by omega,by omega⟩ ⟨by omega,by omega⟩ ⟨by omega,by omega⟩ (by simp;omega)
end Wl
namespace Go.Qw
open Go Go.Vc Go.Proofs Wl
theorem Nm(s:Sl)(l:Row)(c:UInt8)(h:Heap)(p:Rd h s 1 aE l)(u:s.len<=s.cap)(w:l.length<=2^30):
  ac xx 314 #[s,xl xu c.toNat] h fun v h'=>∃k:Nat,v=xn s.ptr k s.cap/\k<=l.length/\(∀j (f:j<l.length),k<=j->l[j]=c)/\(∀(d:k-1<l.length),0<k->l[k-1]≠c)/\h'=h:=by
 refine Ai s _ ?_;unfold ox;have o:=p.len;refine be ?_;refine aw (fun k:Nat=>(⟨s.ptr,k,s.cap⟩:Sl)) (fun k h'=>h'=h/\k<=l.length/\∀j (f:j<l.length),k<=j->l[j]=c) (fun k=>k) l.length (by rw[<-o]) ⟨rfl,ql _,fun j f d=>by omega⟩ ?_;rintro k y ⟨rfl,d,b⟩;dsimp only;refine be (al (fun e=>?_) (fun e=>?_))
 ·have q:0<k:=by omega
  rw[ak _];refine(p.take k d).bx (g:=fun x:UInt8=>Value.int .u8 x.toNat) (k-1) (by omega) (by simp;omega) (l[k-1]'(by omega)) (by simp[aE]) ?_|>fun⟨a,ha,x,hx,hK⟩=>⟨a,ha,x.toNat,hx,hK⟩
  refine cI (fun m=>?_) (fun m=>?_)
  ·have i:l[k-1]'(by omega)=c:=by
    have:(l[k-1]'(by omega)).toNat=c.toNat:=by exact_mod_cast m
    exact yq.1 this
   refine⟨⟨by omega,by omega⟩,k-1,by congr 1;omega,⟨rfl,by omega,fun j f t=>?_⟩,by omega⟩;by_cases n:j=k-1
   ·subst n;exact i
   ·exact b j f (by omega)
  ·refine⟨k,rfl,d,b,fun _ _ r=>m (by rw[r]),rfl⟩
 ·exact⟨k,rfl,d,b,fun _ h0=>by omega,rfl⟩
theorem Pk(s:Sl)(l:Row)(c:UInt8)(h:Heap)(p:Rd h s 1 aE l)(u:s.len<=s.cap)(D:l.length<=2^30):
  ac xx 313 #[s,xl xu c.toNat] h fun v h'=>(∃r:Sl,v=r/\(r.len=0↔∀x∈l,x=c))/\h'=h:=by
 refine Bq s _ ?_;unfold pr;have A:=p.len;refine cl (fun r h'=>h'=h/\(r.len=0↔∀x∈l,x=c)) ?_ ?_
 ·refine aw (fun t:Sl×Nat=>t.1) (fun t h'=>h'=h/\t.2<=l.length/\(∀j (d:j<l.length),j<t.2->l[j]=c)/\Rd h t.1 1 aE (l.drop t.2)/\t.1.len<=t.1.cap) (fun t=>l.length-t.2) (s,0) rfl ⟨rfl,by simp,fun j _ d=>by omega,by simpa using p,u⟩ ?_;rintro⟨r,k⟩ B ⟨rfl,E,a,b,o⟩;dsimp only at*;have g:=b.len;rw[za]at g;refine be (al (fun e=>?_) (fun e=>?_))
  ·have i:k<l.length:=by omega
   refine b.bx 0 rfl (by rw[za];omega) _ rfl ?_;have y:(l.drop k)[0]'(by rw[za];omega)=l[k]:=by simp
   rw[y];refine cI (fun n=>?_) (fun n=>?_)
   ·have f:l[k]=c:=by
     have:(l[k]).toNat=c.toNat:=by exact_mod_cast n
     exact yq.1 this
    refine⟨⟨by omega,by omega⟩,(⟨if r.cap=1 then r.ptr else r.ptr.map (·.add (1*1)),r.len-1,r.cap-1⟩,k+1),rfl,⟨rfl,by omega,fun j d m=>?_,?_,by dsimp only;omega⟩,by dsimp only;omega⟩
    ·rcases zk.1 m with h2|rfl
     ·exact a j d h2
     ·exact f
    ·have:=b.drop 1 o;rw[zH]at this;exact this
   ·refine⟨rfl,⟨fun h0=>by omega,fun z=>absurd ?_ n⟩⟩;rw[z _ (qh i)]
  ·have q:k=l.length:=by omega
   refine⟨rfl,⟨fun _ x w=>?_,fun _=>by show r.len=0;omega⟩⟩;obtain⟨j,d,rfl⟩:=qH w;exact a j d (by omega)
 ·rintro r B ⟨rfl,b⟩;refine cI (fun e=>?_) (fun e=>?_)
  ·exact⟨⟨⟨none,0,0⟩,rfl,by rw[<-b];exact⟨fun _=>by omega,fun _=>rfl⟩⟩,rfl⟩
  ·exact⟨⟨r,rfl,b⟩,rfl⟩
theorem Ou(s:Sl)(l:Row)(cut:ByteArray)(b:cut=⟨#[0]⟩)(h:Heap)(d:Rd h s 1 aE l)(i:s.len<=s.cap)(m:l.length<=2^30):
  ac xx 238 #[s,xp cut] h fun v h'=>(∃r:Sl,v=r/\(r.len=0↔∀x∈l,x=0))/\h'=h:=by
 subst b;refine MV s _ ?_;unfold Gd;have p:=d.len;refine cI (fun e=>?_) (fun e=>?_)
 ·refine⟨⟨⟨none,0,0⟩,rfl,⟨fun _ x a=>?_,fun _=>rfl⟩⟩,rfl⟩;have:l=[]:=List.eq_nil_of_length_eq_zero (by omega);subst this;cases a
 ·refine CM (by decide+kernel) (be (Mp (by decide+kernel) ?_));refine⟨0,⟨by decide,rfl⟩,Mp (by decide) ?_⟩;refine⟨0,⟨by decide,rfl⟩,0,⟨by decide,rfl⟩,?_⟩;refine(Nm s l 0 h d i m).mono ?_;rintro v t ⟨k,rfl,o,f,h3,rfl⟩;refine⟨⟨s.ptr,k,s.cap⟩,rfl,trivial,?_⟩;refine(Pk ⟨s.ptr,k,s.cap⟩ (l.take k) 0 t (d.take k o) (by show k<=s.cap;omega) (by simp;omega)).mono ?_;rintro v u ⟨⟨r,rfl,g⟩,rfl⟩;refine⟨r,rfl,trivial,⟨r,rfl,g.trans ⟨fun c x a=>?_,fun c x a=>c x (wD a)⟩⟩,rfl⟩;obtain⟨j,q,rfl⟩:=qH a;by_cases n:j<k
  ·exact c _ (by rw[List.mem_take_iff_getElem];exact⟨j,by omega,rfl⟩)
  ·exact f j q (by omega)
def qv(x:Sl×Sl):aW:=[x.1,x.2]
theorem Zf:∀x,∀c∈qv x,c.oneCell'=true:=fun x c a=>by
 simp only[qv,q8,List.not_mem_nil,or_false]at a;rcases a with rfl|rfl<;>rfl
def iV:iJ (Sl×Sl) eZ:=⟨fun h q a e=>Seq h q a.1 1 aD e.1/\Seq h q a.2 1 aE e.2,fun a b=>⟨a.1.ai b,a.2.ai b⟩,fun a c=>⟨a.1.mono c,a.2.mono c⟩⟩
abbrev pI:iJ Sl (List eZ):=cF iV 2 qv
abbrev afC:iJ Sl aS:=cF (sW 1 aE) 1 bJ
abbrev eQ:bW C.toBE 261 263 2 [xn none 0 0,xn none 0 0] 48:=⟨_,_,rfl,rfl,rfl,rfl,rfl,rfl⟩
abbrev Zg:bW C.toBE 40 35 1 [xn none 0 0] 24:=⟨_,_,rfl,rfl,rfl,rfl,rfl,rfl⟩
abbrev acG:bW C.toBE 270 4 1 [xq false] 1:=⟨_,_,rfl,rfl,rfl,rfl,rfl,rfl⟩
theorem pI.get{h:Heap}{q:aB}{s:Sl}{L:List eZ}(x:pI.p h q s L){i:Int}(n:Nat)(d:i=n)(b:n<L.length){K:Sl×Sl->Prop}(c:∀r,iV.p h q r L[n]->K r):
  ∃a:Addr,(s.ptr=some a/\0<=i/\i<((s.len:Nat):Int))/\∃x:Sl×Sl,aj h (a.add (i.toNat*2)) 0 [x.1,x.2]/\K x:=by
 obtain⟨rs,e,f,h3⟩:=cF.oK x;exact e.dt (g:=qv) n d (by omega) (rs[n]'(by omega)) rfl (c _ (h3 n (by omega) b))
structure xV (h:Heap) (p:Addr) (l k v:Sl) (L:List eZ) (kn:List Bool) (vs:aS):Prop where
 box:bX h p 341 [l,k,v]
 eqs:fx pI h l L
 known:Rd h k 1 eO kn
 vals:fx afC h v vs
theorem xV.up{h h':Heap}{p:Addr}{l k v:Sl}{L:List eZ}{kn:List Bool}{vs:aS}(x:xV h p l k v L kn vs)(a:aU (fun b=>b<h.size) h h'):xV h' p l k v L kn vs:=
 ⟨x.box.ai a x.box.lt,fx.up x.eqs a,Seq.up x.known a,fx.up x.vals a⟩
theorem RY{kn:List Bool}{c:Int}(h0:0<=c)(a:c.toNat<kn.length):Wl.kn kn c=kn[c.toNat]:=by
 unfold Wl.kn;rw[qe,qd a];rfl
theorem lH{m:aS}{i:Nat}(h:i<m.length):aA m i=m[i]:=bv h
theorem je{α:Type}(f:α->Bool)(l:List α){k:Nat}(a:k<l.length):(l.take (k+1)).filter f=(l.take k).filter f++if f l[k]then[l[k]]else[]:=by
 rw[aI _ _ a,zj,List.filter_cons];cases f l[k]<;>rfl
theorem sO(V:aS)(a:Row)(l:aC)(c:Int):cM V a (l++[c])=dl 1 (aA V c.toNat) (cM V a l):=by
 unfold cM;rw[wN];rfl
theorem UH(a t:Row):dl 1 a t=zo (fun x y=>y^^^x) a t:=by
 unfold dl;congr 1;funext x y;rw[Gf.one_mul]
theorem GV{a t:Row}(d:a.length=t.length){k:Nat}(b:k<t.length:=by omega):(zo (fun x y=>y^^^x) (a.take k) (t.take k)++t.drop k).set k (t[k]^^^(a[k]'(by omega)))=zo (fun x y=>y^^^x) (a.take (k+1)) (t.take (k+1))++t.drop (k+1):=by
 have c:(zo (fun x y=>y^^^x) (a.take k) (t.take k)).length=k:=by simp;omega
 rw[zc _ _ (by omega),c,zi,qV b,zC,aI _ _ b,aI _ _ (show k<a.length by omega),List.zipWith_append (by simp;omega)];simp
theorem RZ(p:Addr)(l k v:Sl)(L:List eZ)(kn:List Bool)(vs:aS)(n:Nat)(h:Heap)(u:xV h p l k v L kn vs)(F:kn.length=n)(G:∀e∈L,∀c∈e.1,0<=c/\c<(n:Int))(U:L.length<=2^30)(z:∀e∈L,e.1.length<=2^30):
  ac xx 379 #[xo (some p)] h fun v h'=>(∃i:Int,v=xl xt i/\(0<=i->∃(P:i.toNat<L.length),((L[i.toNat]).1.filter fun c=>!Wl.kn kn c).length=1))/\Sp h h' []:=by
 refine Dz (some p) ?_;unfold sF;have O:=cF.len u.eqs;refine⟨p,rfl,l,u.box.cell0 rfl,?_⟩;refine aw (fun i:Nat=>(i:Int)) (fun i h'=>i<=L.length/\Sp h h' []) (fun i=>L.length-i) 0 rfl ⟨by omega,Sp.refl h⟩ ?_;rintro i Q ⟨P,A⟩;refine al (fun e=>?_) (fun e=>⟨⟨-1,rfl,fun T=>by omega⟩,A⟩);have g:i<L.length:=by omega
 refine pI.get (fx.up u.eqs A.ai) i rfl g fun x I=>?_;refine(Sp.refl Q).alloc ae rfl fun a S M=>?_;refine M.storeAll ae 0 rfl rfl (qv x) rfl rfl rfl rfl fun h3 t=>?_;have D:=up A.ai t.ai;have o:=u.up D;have r:=iV.mono (iV.loc I t.ai) fun b K=>qY K t.ai.1;have y:=t.box 0 rfl;refine⟨x.1,y.cell0 rfl,?_⟩;have H:=r.1.len;have E:=z _ (qh g);let d:Nat->Nat:=fun j=>(((L[i]).1.take j).filter fun c=>!Wl.kn kn c).length;refine aw (fun j:Nat=>(((d j:Nat):Int),(j:Int))) (fun j h'=>h'=h3/\j<=(L[i]).1.length) (fun j=>(L[i]).1.length-j) 0 (by simp[d]) ⟨rfl,by omega⟩ ?_;rintro j R ⟨rfl,V⟩;dsimp only;have J:d j<=j:=q7 (qP _ _) (by simp;omega);refine al (fun N=>?_) (fun N=>?_)
 ·have f:j<(L[i]).1.length:=by omega
  have B:=G _ (qh g) _ (qh f);refine r.1.bx j rfl f _ rfl ?_;refine⟨p,rfl,k,o.box.cell rfl,?_⟩;refine o.known.bx (L[i]).1[j].toNat (by omega) (by omega) _ rfl ?_;rw[ak ((j:Int)+1),ak _];have q:=RY (kn:=kn) B.1 (by omega);refine bh (fun m=>?_) (fun m=>?_)
  ·refine⟨j+1,?_,⟨rfl,by omega⟩,by omega⟩;have:d (j+1)=d j+1:=by simp only[d];rw[je _ _ f,q,m];simp
   rw[this];rfl
  ·refine⟨j+1,?_,⟨rfl,by omega⟩,by omega⟩;have:d (j+1)=d j:=by simp only[d];rw[je _ _ f,q,m];simp
   rw[this];rfl
 ·have w:j=(L[i]).1.length:=by omega
  subst w;have s:d (L[i]).1.length=((L[i]).1.filter fun c=>!Wl.kn kn c).length:=by simp only[d];rw[qQ]
  rw[s];refine cI (fun m=>⟨⟨i,rfl,fun _=>⟨by omega,by exact_mod_cast m⟩⟩,.zip D⟩) (fun m=>?_);exact⟨i+1,by rw[ak _];rfl,⟨by omega,.zip D⟩,by omega⟩
theorem Ov(p:Addr)(l k v:Sl)(L:List eZ)(kn:List Bool)(vs:aS)(n w:Nat)(x:Sl×Sl)(e:eZ)(h:Heap)(Y:xV h p l k v L kn vs)(M:jo n w L kn vs)(P:fx iV h x e)(J:iy n w e)(hw:w<=2^20)(ao:e.1.length<=2^20):
  ac xx 306 #[xo (some p),xr #[x.1,x.2]] h fun r h'=>∃a b:Sl,r=xr #[a,b]/\Sp h h' [ar 3 a 1 aD (fa kn vs e).1,ar 5 b 1 aE (fa kn vs e).2]:=by
 refine Dy (some p) x ?_;unfold sE;refine(Sp.refl h).boxed fun S h1 H1=>?_;refine H1.alloc ae rfl fun V h2 O=>?_;have P2:=O.ai;refine⟨x.2,(O.box 0 rfl).cell rfl,(fR x.2 e.2 h2 (Seq.up P.2 P2) (by have:=J.len;omega)).mono ?_⟩;rintro vv h3 ⟨d,rfl,R3⟩;have H3:=O.comp R3;refine⟨d,rfl,H3.alloc ae rfl fun a5 h4 H4=>?_⟩;refine H4.storeAll ae 3 rfl rfl (qv (⟨none,0,0⟩,d)) rfl rfl rfl rfl fun h5 H5=>?_;have H6:Sp h h5 [aq S 263 (qv x),aq V 263 [xn none 0 0,xn none 0 0],ar 5 d 1 aE e.2,aq a5 263 (qv (⟨none,0,0⟩,d)),ar 3 ⟨none,0,0⟩ 1 aD []]:=H5.nil 3 1 aD;refine⟨x.1,(H6.box 0 rfl).cell0 rfl,?_⟩;have am:=P.1.len;have ah:=M.klen;have ab:=M.vlen;refine aw (fun t:Nat×Sl=>(t.1:Int)) (fun t h'=>t.1<=e.1.length/\Sp h h' [aq S 263 (qv x),aq V 263 [xn none 0 0,xn none 0 0],ar 5 d 1 aE (cM vs e.2 ((e.1.take t.1).filter fun c=>Wl.kn kn c)),aq a5 263 (qv (t.2,d)),ar 3 t.2 1 aD ((e.1.take t.1).filter fun c=>!Wl.kn kn c)]) (fun t=>e.1.length-t.1) (0,⟨none,0,0⟩) rfl ⟨by simp,by simpa[cM]using H6⟩ ?_;rintro⟨j,o⟩ h7 ⟨hj,q⟩;dsimp only at*;have s:(cM vs e.2 ((e.1.take j).filter fun c=>Wl.kn kn c)).length=w:=jn J.len fun c hc=>by
  have E:=qB.1 hc;have I:=wD E.1;exact M.Fz (J.cP c I).1 (J.cP c I).2 E.2
 have ap:((e.1.take j).filter fun c=>!Wl.kn kn c).length<=j:=q7 (qP _ _) (by simp;omega);refine al (fun e2=>?_) (fun e2=>?_)
 ·have f:j<e.1.length:=by omega
  have u:=J.cP _ (qh f);have z:=Y.up q.ai;refine(Seq.up P.1 q.ai).bx j rfl f _ rfl ?_;refine⟨p,rfl,k,z.box.cell rfl,?_⟩;refine z.known.bx (e.1[j]).toNat (by omega) (by omega) _ rfl ?_;have G:=RY (kn:=kn) u.1 (by omega);refine bh (fun B=>?_) (fun B=>?_)
  ·rw[<-G]at B;refine⟨o,(q.box 3 rfl).cell0 rfl,?_⟩;refine q.push ae 4 rfl lL rfl (by decide) (fun _=>rfl) jf e.1[j] rfl (by decide) (by omega) fun Z h8 g=>?_;refine g.kv ae 3 rfl rfl [Z] rfl rfl rfl (by simp[qv]) fun h9 K=>?_;refine⟨(j+1,Z),by dsimp only;rw[ak _];rfl,⟨by dsimp only;omega,?_⟩,by dsimp only;omega⟩;dsimp only;rw[je _ _ f,je _ _ f,B];simp only[Bool.not_false,if_true,zf,if_false,qS];exact K
  ·rw[<-G]at B;have H:=M.Fz u.1 u.2 B;rw[lH (by omega)]at H;refine⟨p,rfl,v,z.box.cell rfl,?_⟩;obtain⟨vr,R,ad,Q⟩:=cF.oK Y.vals;have i:(e.1[j]).toNat<vs.length:=by omega
   refine(Seq.up R q.ai).nL (e.1[j]).toNat (by omega) (by omega) ?_;have N:=(Q (e.1[j]).toNat (by omega) i).1;have F:=N.len;generalize vr[(e.1[j]).toNat]'(by omega)=y at N F⊢;obtain⟨A,hA⟩:∃A,A=vs[(e.1[j]).toNat]'i:=⟨_,rfl⟩
   obtain⟨D,hD⟩:∃D,D=cM vs e.2 ((e.1.take j).filter fun c=>Wl.kn kn c):=⟨_,rfl⟩
   rw[<-hA]at H N F;rw[<-hD]at q s;refine aw (fun m:Nat=>(m:Int)) (fun m h'=>m<=w/\Sp h h' [aq S 263 (qv x),aq V 263 [xn none 0 0,xn none 0 0],ar 5 d 1 aE (zo (fun x y=>y^^^x) (A.take m) (D.take m)++D.drop m),aq a5 263 (qv (o,d)),ar 3 o 1 aD ((e.1.take j).filter fun c=>!Wl.kn kn c)]) (fun m=>w-m) 0 rfl ⟨by omega,by simpa using q⟩ ?_;rintro m h8 ⟨hm,g⟩;have X:(zo (fun x y=>y^^^x) (A.take m) (D.take m)).length=m:=by simp;omega
   refine al (fun e4=>?_) (fun e4=>?_)
   ·have ax:m<w:=by omega
    refine(Seq.up N g.ai).bx m rfl (by omega) _ rfl ?_;refine⟨d,(g.box 3 rfl).cell rfl,?_⟩;refine(g.seq 2 rfl (fun _=>rfl)).bx m rfl (by simp;omega) _ rfl ?_;have U:((zo (fun x y=>y^^^x) (A.take m) (D.take m)++D.drop m)[m]'(by simp;omega))=D[m]'(by omega):=by
     rw[wJ (by omega)];simp[X]
    rw[U,pC];refine g.set ae 2 rfl (fun _=>rfl) rfl m rfl (by simp;omega) (D[m]'(by omega)^^^A[m]'(by omega)) rfl rfl rfl fun h9 K=>?_;rw[GV (by omega)]at K;exact⟨m+1,by rw[ak _];rfl,⟨by omega,K⟩,by omega⟩
   ·have W:m=w:=by omega
    subst W;refine⟨(j+1,o),by dsimp only;rw[ak _];rfl,⟨by dsimp only;omega,?_⟩,by dsimp only;omega⟩;dsimp only;rw[je _ _ f,je _ _ f,B];simp only[Bool.not_true,if_true,zf,if_false,qS];rw[sO,lH i,<-hA,<-hD,UH];rw[qi (by omega),qi (by omega),zb (by omega),qS]at g;exact g
 ·have T:j=e.1.length:=by omega
  subst T;rw[qQ]at q;refine⟨(o,d),(q.box 3 rfl).aL _ rfl,?_⟩;refine q.storeAll ae 1 rfl rfl (qv (o,d)) rfl rfl rfl rfl fun h8 g=>?_;refine⟨(o,d),(g.box 1 rfl).aL _ rfl,o,d,rfl,?_⟩;exact g.bK [4,2]
theorem aa.afT{B:aB}{h0 h:Heap}{As:List HP}{e k:Nat}{α:Type}{f:α->aW}{s:Sl}{l:List α}(H:aa B h0 h As)(i:Nat)(j:As[i]?=some (ar e s k f l))(c:∀x,(f x).length=k)(d:l≠[]):aa B h0 h (As.set i (EA (sW k f) s l)):=
 H.fO i j fun q ⟨a,b⟩=>⟨a.seq c b,fun g=>absurd g d⟩
theorem count_set{l:List Bool}:∀{i:Nat} (h:i<l.length),l[i]=false->((l.set i true).count false)+1=l.count false:=by
 induction l with
 |nil=>intro i h;simp at h
 |cons a l ih=>
  intro i h b;cases i with
  |zero=>simp at b;subst b;simp
  |succ i=>
   have:=ih (i:=i) (by simpa using h) (by simpa using b);rw[List.set_cons_succ,List.count_cons,List.count_cons];omega
theorem Zh(p:Addr)(l k v:Sl)(L:List eZ)(n w:Nat)(h0 h:Heap)(hE:fx pI h0 l L)(D:∀e∈L,iy n w e)(hn:n<=64)(W:L.length<=2^20)(T:1<=w/\w<=2^20)(z:∀e∈L,e.1.length<=2^20)
  (H:Sp h0 h [aq p 341 [l,k,v],ar 4 k 1 eO (qg n false),cx 35 v 1 bJ (sW 1 aE) (qg n [])]):
  ac xx 305 #[xo (some p)] h fun r h'=>r=.tuple #[]/\∃kn vs,jo n w L kn vs/\Sp h0 h' [aq p 341 [l,k,v],ar 4 k 1 eO kn,cx 35 v 1 bJ (sW 1 aE) vs]:=by
 refine EO (some p) ?_;unfold tI;refine aw (fun _:List Bool×aS=>()) (fun t h'=>jo n w L t.1 t.2/\Sp h0 h' [aq p 341 [l,k,v],ar 4 k 1 eO t.1,cx 35 v 1 bJ (sW 1 aE) t.2]) (fun t=>t.1.count false) (qg n false,qg n []) rfl ⟨VA n w L,H⟩ ?_;rintro⟨kn,vs⟩ M ⟨m,O⟩;dsimp only at*;have E:=m.klen;have Q:=m.vlen;have mk:∀{q},Sp h0 q [aq p 341 [l,k,v],ar 4 k 1 eO kn,cx 35 v 1 bJ (sW 1 aE) vs]->xV q p l k v L kn vs:=fun f=>
  ⟨f.box 0 rfl,fx.up hE f.ai,f.seq 1 rfl fun _=>rfl,f.eRd 2 rfl fun _=>rfl⟩
 refine(RZ p l k v L kn vs n M (mk O) E (fun e K=>(D e K).cP) (by omega) (fun e K=>by have:=z e K;omega)).mono ?_;rintro _ q ⟨⟨i,rfl,Y⟩,Z⟩;refine⟨i,rfl,?_⟩;have f:=O.up Z.ai;refine al (fun e=>⟨rfl,kn,vs,m,f⟩) (fun e=>?_);have F:0<=i:=Int.not_lt.1 e;obtain⟨y,s⟩:=Y F;have g:=mk f;refine⟨p,rfl,l,g.box.cell0 rfl,?_⟩;refine pI.get g.eqs i.toNat (by omega) y fun x R=>?_;have d:=qh y;refine(Ov p l k v L kn vs n w x L[i.toNat] q g m R (D _ d) T.2 (z _ d)).mono ?_;rintro _ h3 ⟨a,b,rfl,S⟩;refine⟨(a,b),rfl,?_⟩;obtain⟨c,B⟩:∃c,(fa kn vs L[i.toNat]).1=[c]:=by
  have M:(fa kn vs L[i.toNat]).1.length=1:=s
  match q:(fa kn vs L[i.toNat]).1,M with
  |[c],_=>exact⟨c,rfl⟩
 have u:=m.BM (D _ d);have I:=u.cP c (by rw[B];simp);have o:Wl.kn kn c=false:=FA m L[i.toNat] c (by rw[B];simp);rw[RY I.1 (by omega)]at o;have N:=f.comp S;rw[B]at N;refine N.alloc ae rfl fun a8 h4 P=>?_;refine P.storeAll ae 5 rfl rfl (qv (a,b)) rfl rfl rfl rfl fun h5 j=>?_;refine⟨p,rfl,k,(j.box 0 rfl).cell rfl,a,(j.box 5 rfl).cell0 rfl,?_⟩;have A:=j.seq 3 rfl fun _=>rfl;refine A.bx 0 rfl (by simp) c rfl ?_;refine⟨p,rfl,v,(j.box 0 rfl).cell rfl,a,(j.box 5 rfl).cell0 rfl,?_⟩;refine A.bx 0 rfl (by simp) c rfl ?_;refine⟨b,(j.box 5 rfl).cell rfl,?_⟩;refine j.set ae 1 rfl (fun _=>rfl) rfl c.toNat (by omega) (by omega) true rfl rfl rfl fun h6 G=>?_;refine⟨⟨(G.box 5 rfl).cell rfl,(G.box 5 rfl).cell0 rfl,trivial⟩,?_⟩;have J:(fa kn vs L[i.toNat]).2≠[]:=fun X=>by have:=u.len;rw[X]at this;simp at this;omega
 have V:=aa.afT G 4 rfl (fun _=>rfl) J;refine V.afM ae 2 4 (by decide) rfl rfl (fun _=>rfl) rfl c.toNat (by omega) (by omega) rfl rfl rfl fun h8 U=>⟨trivial,?_⟩
 refine⟨(kn.set c.toNat true,vs.set c.toNat (fa kn vs L[i.toNat]).2),rfl,⟨XT m D d B,U.bK [0,1,2]⟩,?_⟩;have:=count_set (l:=kn) (i:=c.toNat) (by omega) o;dsimp only;omega
theorem TM(s:Sl)(l:Row)(h:Heap)(b:Rd h s 1 aE l)(d:s.len<=s.cap)(a:l.length<=2^30):
  ac xx 307 #[s] h fun v h'=>v=xq (!(l.any (· !=0)))/\h'=h:=by
 refine Lf s ?_;unfold Ew;refine(Ou s l _ rfl h b d a).mono ?_;rintro _ e ⟨⟨r,rfl,c⟩,rfl⟩;refine⟨r,rfl,?_,rfl⟩;congr 1;rw[y7];simp only[beq_iff_eq,wL,wc,bne_iff_ne,ne_eq,Decidable.not_not];rw[<-c];omega
def Nn(l:aC):Prop:=∀i (h:i+1<l.length),l[i]<l[i+1]
theorem Pn(n:Nat)(l:Sl)(L:List eZ)(w:Nat)(h:Heap)(A:fx pI h l L)(F:∀e∈L,iy n w e/\Nn e.1)(hn:n<=64)(N:L.length<=2^20)(t:∀e∈L,e.1.length<=2^20):
  ac xx 304 #[xl xt n,l] h fun v h'=>v=xq true/\Sp h h' []:=by
 refine MY _ l ?_;unfold Gi;have V:=cF.len A;refine be (al (fun e=>by omega) fun _=>al (fun e=>by omega) fun _=>?_);refine aw (fun i:Nat=>(i:Int)) (fun i h'=>i<=L.length/\Sp h h' []) (fun i=>L.length-i) 0 rfl ⟨by omega,Sp.refl h⟩ ?_;rintro i Z ⟨hi,u⟩;refine al (fun e=>?_) (fun e=>⟨rfl,u⟩);have d:i<L.length:=by omega
 refine pI.get (fx.up A u.ai) i rfl d fun x J=>?_;refine(Sp.refl Z).alloc ae rfl fun a h2 T=>?_;refine T.storeAll ae 0 rfl rfl (qv x) rfl rfl rfl rfl fun h3 p=>?_;have H:=up u.ai p.ai;have c:=iV.mono (iV.loc J p.ai) fun b O=>qY O p.ai.1;have f:=p.box 0 rfl;refine⟨x.1,f.cell0 rfl,?_⟩;have M:=c.1.len;have E:=t _ (qh d);obtain⟨m,q⟩:=F _ (qh d);refine aw (fun j:Nat=>(j:Int)) (fun j h'=>h'=h3/\j<=(L[i]).1.length) (fun j=>(L[i]).1.length-j) 0 rfl ⟨rfl,by omega⟩ ?_;rintro j D ⟨rfl,hj⟩;refine al (fun U=>?_) (fun U=>?_)
 ·have o:j<(L[i]).1.length:=by omega
  have W:=m.cP _ (qh o);refine c.1.bx j rfl o _ rfl ?_;refine al (fun e=>by omega) fun _=>al (fun e=>by omega) fun _=>?_;have B:∃s:Nat,qc xt ((j:Int)+1)=(s:Int)/\(D=D/\s<=(L[i]).1.length)/\(L[i]).1.length-s<(L[i]).1.length-j:=⟨j+1,by rw[ak _];rfl,⟨rfl,by omega⟩,by omega⟩
  refine al (fun R=>?_) (fun R=>B);refine⟨x.1,f.cell0 rfl,?_⟩;rw[ak ((j:Int)-1)];refine c.1.bx (j-1) (by omega) (by omega) _ rfl ?_;have G:=q (j-1) (by omega);have Y:(L[i]).1[j-1+1]'(by omega)=(L[i]).1[j]:=by congr 1;omega
  rw[Y]at G;exact al (fun e=>absurd G (by omega)) fun _=>B
 ·refine⟨x.2,f.cell rfl,?_⟩;obtain⟨rs,Q,h8,I⟩:=cF.oK (fx.up A H);have r:=(I 0 (by omega) (by omega)).2.len;obtain⟨z,S,y,P,X⟩:=Q.dt (g:=qv) (i:=(0:Int)) 0 rfl (by omega) (rs[0]'(by omega)) rfl (K:=fun y=>y.2.len=w) (by rw[r];exact(F _ (qh (show 0<L.length by omega))).1.len);refine⟨z,S,y.2,?_,?_⟩
  ·exact P.2.1
  have k:=c.2.len;rw[m.len]at k;refine ca (fun e=>absurd (by rw[k,X]) e) fun _=>?_;exact⟨i+1,by rw[ak _];rfl,⟨by omega,.zip H⟩,by omega⟩
theorem aa.Zi{B:aB}{h0 h:Heap}{As:List HP}{e k:Nat}{α β:Type}{E:iJ α β}{f:α->aW}{s:Sl}{n:Nat}{a:α}{b:β}(H:aa B h0 h As)(i:Nat)(t:As[i]?=some (ar e s k f (qg n a)))(o:∀h,E.p h (fun _=>False) a b):aa B h0 h (As.set i (cx e s k f E (qg n b))):=
 H.fO i t fun q ⟨x,y⟩=>⟨_,fun _=>False,x,fun c m=>⟨y c m,fun h=>h⟩,fun _ h=>h.elim,by simp,fun j r l d g=>by
  rw[zK]at d g;split at d
  ·rename_i u;rw[if_pos u]at g;cases d;cases g;exact o h
  ·cases d⟩
theorem aa.afU{B:aB}{h0 h:Heap}{As:List HP}{e k:Nat}{a b:Sl}{l:aC}{r:Row}(H:aa B h0 h As)(i j:Nat)(d:i≠j)(m:As[i]?=some (ar e a 1 aD l))(n:As[j]?=some (ar k b 1 aE r)):aa B h0 h ((As.set i (EA iV (a,b) (l,r))).set j emp):=
 H.merge i j d m n fun p o _ f g=>⟨f.1.seq (fun _=>rfl) fun x c=>.inl (f.2 x c),g.1.seq (fun _=>rfl) fun x c=>.inr (g.2 x c)⟩
theorem Zj(kn:List Bool)(vs:aS)(L:List eZ){i:Nat}(a:i<L.length):ba kn vs (L.take (i+1))=if(fa kn vs L[i]).1.isEmpty then ba kn vs (L.take i)else ba kn vs (L.take i)++[fa kn vs L[i]]:=by
 unfold ba;rw[aI _ _ a,qT,zj];cases h:(fa kn vs L[i]).1.isEmpty<;>simp[h]
theorem WF(kn:List Bool)(vs:aS)(L:List eZ){i:Nat}(a:i<L.length):jO kn vs (L.take (i+1))=(jO kn vs (L.take i)||((fa kn vs L[i]).1.isEmpty&&(fa kn vs L[i]).2.any (· !=0))):=by
 unfold jO;rw[aI _ _ a,qT,y6];simp
theorem WG{kn:List Bool}{vs:aS}{L:List eZ}{i:Nat}(h:jO kn vs (L.take i)=true):jO kn vs L=true:=by
 rw[<-qI i L];unfold jO at*;rw[qT,y6,h];rfl
theorem Zk(l:Sl)(L:List eZ)(n w:Nat)(h:Heap)(D:fx pI h l L)(hL:∀e∈L,iy n w e/\Nn e.1)(hn:n<=64)(F:L.length<=2^20)(hw:1<=w/\w<=2^20)(A:∀e∈L,e.1.length<=2^20):
  ac xx 233 #[xl xt n,l] h fun r h'=>∃kn vs,jo n w L kn vs/\((jO kn vs L=true/\r=.tuple #[xn none 0 0,xn none 0 0,xn none 0 0,xl xt 10]/\Sp h h' [])∨
   (jO kn vs L=false/\∃k v s:Sl,r=.tuple #[k,v,s,xl xt 0]/\Sp h h' [ar 4 k 1 eO kn,cx 35 v 1 bJ (sW 1 aE) vs,cx 263 s 2 qv iV (ba kn vs L)])):=by
 refine OV _ l ?_;unfold Iu;have am:=cF.len D;refine(Pn n l L w h D hL hn F A).mono ?_;rintro _ h1 ⟨rfl,R1⟩;refine⟨true,rfl,bh (fun e=>by cases e) fun _=>?_⟩;refine cl (fun s h'=>∃(p:Addr) (k v:Sl),s=some p/\Sp h h' [aq p 341 [l,k,v],ar 4 k 1 eO (qg n false),cx 35 v 1 bJ (sW 1 aE) (qg n [])]) ⟨?_,?_⟩ ?_
 ·refine R1.make ae eO acG (by decide) false rfl rfl n n rfl rfl (ql _) (by omega) fun k h2 R M O=>⟨trivial,?_⟩
  refine O.make ae bJ Zg (by decide) ⟨none,0,0⟩ rfl rfl n n rfl rfl (ql _) (by omega) fun v h3 K U Q=>⟨trivial,?_⟩
  refine Q.boxed fun p Y G=>⟨trivial,p,k,v,rfl,?_⟩
  exact(aa.Zi (E:=sW 1 aE) (b:=[]) G 1 rfl fun h=>⟨Seq.nil _ _ _ _ _ _,fun _=>rfl⟩).bK [2,0,1]
 ·refine R1.make ae bJ Zg (by decide) ⟨none,0,0⟩ rfl rfl n n rfl rfl (ql _) (by omega) fun v h3 K U Q=>⟨trivial,?_⟩
  refine Q.make ae eO acG (by decide) false rfl rfl n n rfl rfl (ql _) (by omega) fun k h2 R M O=>⟨trivial,?_⟩
  refine O.boxed fun p Y G=>⟨trivial,p,k,v,rfl,?_⟩
  exact(aa.Zi (E:=sW 1 aE) (b:=[]) G 0 rfl fun h=>⟨Seq.nil _ _ _ _ _ _,fun _=>rfl⟩).bK [2,1,0]
 rintro s Y ⟨p,k,v,rfl,G⟩;refine(Zh p l k v L n w h Y D (fun e he=>(hL e he).1) hn F hw A G).mono ?_;rintro _ h5 ⟨rfl,kn,vs,J,H5⟩;refine⟨(),rfl,?_⟩;refine aw (fun t:Nat×Sl=>(t.2,(t.1:Int))) (fun t h'=>t.1<=L.length/\jO kn vs (L.take t.1)=false/\Sp h h' [aq p 341 [l,k,v],ar 4 k 1 eO kn,cx 35 v 1 bJ (sW 1 aE) vs,cx 263 t.2 2 qv iV (ba kn vs (L.take t.1))]) (fun t=>L.length-t.1) (0,⟨none,0,0⟩) rfl ⟨by simp,rfl,H5.My 263 2 qv iV⟩ ?_;rintro⟨i,o⟩ h6 ⟨hi,u,B⟩;dsimp only at*;refine al (fun e=>?_) (fun e=>?_)
 ·have m:i<L.length:=by omega
  obtain⟨rs,q1,q2,q3⟩:=cF.oK D;have hx:=q3 i (by omega) m;refine(Seq.up q1 B.ai).dt (g:=qv) i rfl (by omega) (rs[i]'(by omega)) rfl ?_;generalize rs[i]'(by omega)=x at hx⊢;refine B.alloc ae rfl fun a h7 H7=>?_;refine H7.storeAll ae 4 rfl rfl (qv x) rfl rfl rfl rfl fun h8 z=>?_;refine⟨x,(z.box 4 rfl).aL _ rfl,?_⟩;have V:xV h8 p l k v L kn vs:=⟨z.box 0 rfl,fx.up D z.ai,z.seq 1 rfl fun _=>rfl,z.eRd 2 rfl fun _=>rfl⟩
  obtain⟨H,-⟩:=hL _ (qh m);have X:fx iV h8 x L[i]:=fx.up hx z.ai;refine(Ov p l k v L kn vs n w x L[i] h8 V J X H hw.2 (A _ (qh m))).mono ?_;rintro _ h9 ⟨c,d,rfl,R9⟩;refine⟨(c,d),rfl,?_⟩;have H9:=z.comp R9;refine H9.alloc ae rfl fun a2 ao Z=>?_;refine Z.storeAll ae 7 rfl rfl (qv (c,d)) rfl rfl rfl rfl fun W f=>?_;refine⟨c,(f.box 7 rfl).cell0 rfl,?_⟩;have q:=(f.own 5 rfl).len;have ah:(ba kn vs (L.take i)).length<=L.length:=by
   unfold ba;refine q7 (qP _ _) ?_;simp;omega
  have y:=Zj kn vs L m;have j:=WF kn vs L m;refine al (fun e2=>?_) (fun e2=>?_)
  ·have P:(fa kn vs L[i]).1.isEmpty=false:=by
    cases hh:(fa kn vs L[i]).1 with
    |nil=>rw[hh]at q;simp at q;omega
    |cons a l=>rfl
   rw[P]at y j;refine⟨(c,d),(f.box 7 rfl).aL _ rfl,?_⟩;have N:=aa.afU f 5 6 (by decide) rfl rfl;refine N.CR ae 3 5 (by decide) rfl rfl eQ rfl (by decide) (fun _=>rfl) Zf rfl (by decide) (by omega) fun o' ad S=>?_;refine⟨(i+1,o'),by dsimp only;rw[ak _];rfl,⟨by dsimp only;omega,by dsimp only;rw[j,u];rfl,?_⟩,by dsimp only;omega⟩;dsimp only;rw[y];exact S.bK [0,1,2,3]
  ·have ab:(fa kn vs L[i]).1.isEmpty=true:=by
    cases hh:(fa kn vs L[i]).1 with
    |nil=>rfl
    |cons a l=>rw[hh]at q;simp at q;omega
   rw[ab]at y j;refine⟨d,(f.box 7 rfl).cell rfl,?_⟩;refine(TM d _ W (f.seq 6 rfl fun _=>rfl) (f.own 6 rfl).cap (by have:=(J.BM H).len;omega)).mono ?_;rintro _ ap ⟨rfl,rfl⟩;refine⟨_,rfl,bh (fun I=>?_) (fun I=>?_)⟩
   ·refine⟨kn,vs,J,.inl ⟨WG (i:=i+1) ?_,rfl,f.bK []⟩⟩;rw[j];simp at I;simp[I]
   ·refine⟨(i+1,o),by dsimp only;rw[ak _];rfl,⟨by dsimp only;omega,?_,?_⟩,by dsimp only;omega⟩
    ·dsimp only;rw[j,u];simp at I;simp;exact I
    ·dsimp only;rw[y];exact f.bK [0,1,2,3]
 ·have T:i=L.length:=by omega
  subst T;rw[qQ]at B u;refine⟨p,rfl,k,(B.box 0 rfl).cell rfl,p,rfl,v,(B.box 0 rfl).cell rfl,kn,vs,J,.inr ⟨u,k,v,o,rfl,B.bK [1,2,3]⟩⟩
def kp(pool:List (Sl×Row)):HP:=⟨fun h q=>∀x∈pool,Seq h q x.1 1 aE x.2,fun a c x b=>(a x b).ai c,fun a d x b=>(a x b).mono d⟩
theorem _root_.Go.Vc.aa.pool{B:aB}{h0 h:Heap}{As:List HP}(H:aa B h0 h As)(i j:Nat)(b:i≠j){pool:List (Sl×Row)}{r:Sl}{l:Row}(e:As[i]?=some (kp pool))(f:As[j]?=some (sV r 1 aE l)):aa B h0 h ((As.set i (kp ((r,l)::pool))).set j emp):=
 H.merge i j b e f fun k g _ c d x a=>by
  rcases q8.1 a with rfl|a
  ·exact Seq.mono d fun _ h=>.inr h
  ·exact(c x a).mono fun _ h=>.inl h
theorem _root_.Go.Vc.aa.LQ{B:aB}{h0 h:Heap}{As:List HP}(H:aa B h0 h As)(i:Nat){pool:List (Sl×Row)}(b:As[i]?=some (kp pool)){r:Sl}{l:Row}(a:(r,l)∈pool):Rd h r 1 aE l:=(H.at i b) _ a
theorem _root_.Go.Vc.aa.abs{B:aB}{h0 h:Heap}{As:List HP}(H:aa B h0 h As)(i j:Nat)(c:i≠j){pool:List (Sl×Row)}{s:Sl}{rs:List Sl}{a:aS}(p:As[i]?=some (ar 35 s 1 bJ rs))(q:As[j]?=some (kp pool))
  (n:rs.length=a.length) (t:∀(k:Nat) r l,rs[k]?=some r->a[k]?=some l->(r,l)∈pool):aa B h0 h ((As.set i (fS 35 s 1 aE a)).set j emp):=
 H.merge i j c p q fun v g m d o=>⟨rs,g,d.1,fun b e=>⟨.inl (d.2 b e),m b (d.2 b e)⟩,fun _ h=>.inr h,n,fun k r l u f=>o _ (t k r l u f)⟩
def gO(pool:List (Sl×Row))(g:Row->Row)(rs:List Sl)(m:aS):Prop:=rs.length=m.length/\∀(i:Nat) r l,rs[i]?=some r->m[i]?=some l->(r,g l)∈pool
theorem gO.get{pool:List (Sl×Row)}{g:Row->Row}{rs:List Sl}{m:aS}(h:gO pool g rs m){i:Nat}(a:i<m.length):(rs[i]'(by rw[h.1];exact a),g m[i])∈pool:=
 h.2 i _ _ (qd _) (qd _)
theorem gO.mono{pool a:List (Sl×Row)}{g:Row->Row}{rs:List Sl}{m:aS}(h:gO pool g rs m)(b:∀x∈pool,x∈a):gO a g rs m:=⟨h.1,fun i r l d c=>b _ (h.2 i r l d c)⟩
theorem gO.set{pool:List (Sl×Row)}{g:Row->Row}{rs:List Sl}{m:aS}(h:gO pool g rs m)(i:Nat){r:Sl}{l:Row}(f:(r,g l)∈pool):gO pool g (rs.set i r) (m.set i l):=by
 refine⟨by simp[h.1],fun k e j a b=>?_⟩;rw[List.getElem?_set]at a b;by_cases c:i=k
 ·subst c;rw[if_pos rfl]at a b;split at a
  ·rename_i d;rw[if_pos (by rw[<-h.1];exact d)]at b;cases a;cases b;exact f
  ·cases a
 ·rw[if_neg c]at a b;exact h.2 k e j a b
theorem _root_.Go.Vc.aa.DL{B:aB}{h0 h:Heap}{As:List HP}(H:aa B h0 h As)(i j:Nat){pool:List (Sl×Row)}{e:Nat}{s:Sl}{rs:List Sl}{a:aS}(f:As[i]?=some (ar e s 1 bJ rs))(g:As[j]?=some (kp pool))
  (c:gO pool id rs a):gT h (fun b=>b<h.size) s 1 aE a rs:=⟨H.seq i f fun _=>rfl,c.1,fun k r l m d=>H.LQ j g (c.2 k r l m d)⟩
theorem GW{B:aB}{h0 h:Heap}{As:List HP}(s f:Addr)(t:UInt8)(g a:Sl)(b c:Row)(H:aa B h0 h (ar 5 a 1 aE c::As))(F:St B h0 As fun h=>cellOf h s=some (xo (some f))/\gN h f/\Rd h g 1 aE b)
  (I:b.length=c.length) (S:b.length<=2^30) {K:Heap->Prop} (J:∀h',aa B h0 h' (ar 5 a 1 aE (dl t b c)::As)->K h'):
  aJ (σ:=Int) (fun d N i=>
 Br (decide (d<((g.len:Nat):Int)))
 (∃E:Addr,(g.ptr=some E/\0<=d/\d<((g.len:Nat):Int))/\
 ∃G:Int,cellOf i (E.add (d.toNat*1))=some (xl xu G)/\
 ∃u:Addr,(a.ptr=some u/\0<=d/\d<((a.len:Nat):Int))/\
 ∃z:Int,cellOf i (u.add (d.toNat*1))=some (xl xu z)/\
 ∃l:Addr,(some s=some l)/\
 ∃p:aO,cellOf i l=some (.pointer p)/\
 af xx 320 #[(.pointer p),(xl xu (t.toNat:Int)),(xl xu G)] (.one (.sc (.int .u8))) i fun A r=>
 (av.ok [(u.add (d.toNat*1),(xl xu z))] r)/\
 ∃q:Addr,(a.ptr=some q/\0<=d/\d<((a.len:Nat):Int))/\
 ag xx (qf 5 (xo (some (q.add (d.toNat*1)))) (xl xu (qc xu ((qC (qk xu) z^^^(qC (qk xu) A)).toNat:Nat)))) r fun _ h3=>
 (av.ok [] h3)/\
 N (qc xt (d+(1:Int))) h3) (K i)) (0:Int) h:=by
 have P:g.len=b.length:=(F.at [ar 5 a 1 aE c] H).2.2.len;refine aw (fun k:Nat=>(k:Int)) (fun k h'=>k<=b.length/\aa B h0 h' (ar 5 a 1 aE (zo (fun x y=>y^^^Gf.mul t x) (b.take k) (c.take k)++c.drop k)::As)) (fun k=>b.length-k) 0 rfl ⟨by omega,by simpa using H⟩ ?_;rintro k i ⟨L,n⟩;obtain⟨R,Q,M⟩:=F.at [_] n;refine al (fun e=>?_) (fun e=>?_)
 ·have w:k<b.length:=by omega
  have o:(zo (fun x y=>y^^^Gf.mul t x) (b.take k) (c.take k)).length=k:=by simp;omega
  have O:(zo (fun x y=>y^^^Gf.mul t x) (b.take k) (c.take k)++c.drop k).length=c.length:=by rw[qx,o,za];omega
  refine M.bx k rfl w _ rfl ?_;have m:(zo (fun x y=>y^^^Gf.mul t x) (b.take k) (c.take k)++c.drop k)[k]'(by omega)=c[k]:=by
   rw[wJ (by omega)];simp[o]
  refine(n.seq 0 rfl fun _=>rfl).Ps k rfl (by omega) _ rfl fun ax j=>?_;rw[m]at j⊢;refine⟨s,rfl,some f,R,(JB f t b[k] i Q).mono ?_⟩;rintro v r ⟨rfl,rfl⟩;refine⟨_,rfl,⟨j,trivial⟩,?_⟩;rw[pC];refine n.set ae 0 rfl (fun _=>rfl) rfl k rfl (by omega) _ rfl rfl rfl fun h3 D=>⟨trivial,?_⟩
  rw[zC,xL I (by omega)]at D;exact⟨k+1,by rw[ak _];rfl,⟨by omega,D⟩,by omega⟩
 ·have:k=b.length:=by omega
  subst this;rw[qi (ql _),qi (by omega),zb (by omega),qS]at n;exact J i n
def fX(f:Addr)(p:Int×Int×Int)(v r b c e d a:Sl):aW:=[xo (some f),xl xt p.1,xl xt p.2.1,xl xt p.2.2,v,r,b,c,e,d,a]
structure CE (h:Heap) (s f:Addr) (wa mo:Sl) (wr mr:List Sl) (W M:aS):Prop where
 fld:cellOf h s=some (xo (some f))
 way:cellOf h (s.add 9)=some (xn wa.ptr wa.len wa.cap)
 more:cellOf h (s.add 10)=some (xn mo.ptr mo.len mo.cap)
 field:gN h f
 rW:gT h (fun b=>b<h.size) wa 1 aE W wr
 rM:gT h (fun b=>b<h.size) mo 1 aE M mr
theorem CE.of{h:Heap}{s f:Addr}{p:Int×Int×Int}{v r k i m d c:Sl}{g e:List Sl}{W M:aS}(a:bX h s 269 (fX f p v r k i m d c))(l:gN h f)(n:gT h (fun b=>b<h.size) d 1 aE W g)(j:gT h (fun b=>b<h.size) c 1 aE M e):CE h s f d c g e W M:=
 ⟨a.cell0 rfl,a.cell rfl,a.cell rfl,l,n,j⟩
theorem GX{B:aB}{h0 h:Heap}{As:List HP}(s f:Addr)(t:UInt8)(c:Int)(b a y u:Sl)(w0 e:Row)(r n:List Sl)(W M:aS)(H:aa B h0 h (ar 5 b 1 aE w0::ar 5 a 1 aE e::As))(i:St B h0 As fun h=>CE h s f y u r n W M)
  (D:0<=c) (o:c.toNat<W.length) (p:c.toNat<M.length) (l:(aA W c.toNat).length=w0.length) (x:(aA M c.toNat).length=e.length) (E:w0.length<=2^30) (A:e.length<=2^30):
  ac xx 312 #[xo (some s),xl xu t.toNat,xl xt c,b,a] h fun v h'=>v=.tuple #[]/\aa B h0 h' (ar 5 b 1 aE (dl t (aA W c.toNat) w0)::ar 5 a 1 aE (dl t (aA M c.toNat) e)::As):=by
 refine Cj (some s) _ c b a ?_;unfold pW;have S:=i.at [_,_] H;refine⟨s,rfl,y,S.way,?_⟩;rw[lH o]at l⊢;rw[lH p]at x⊢;have q:=S.rW;have z:=q.len;refine q.top.nL c.toNat (by omega) (by omega) ?_;refine GW s f t (r[c.toNat]'(by omega)) b (W[c.toNat]) w0 H (St.mk' fun h' j=>?_) l (by omega) fun h3 g=>?_
 ·have d:=i.at [_] j;exact⟨d.fld,d.field,d.rW.row _ _ _ (qd _) (qd o)⟩
 have w:=i.at [_,_] g;refine⟨s,rfl,u,w.more,?_⟩;have k:=w.rM;have m:=k.len;refine k.top.nL c.toNat (by omega) (by omega) ?_;refine GW s f t (n[c.toNat]'(by omega)) a (M[c.toNat]) e g.uR (St.mk' fun h' j=>?_) x (by omega) fun h3 g=>⟨rfl,g.uR⟩
 ·have d:=i.at [_] j;exact⟨d.fld,d.field,d.rM.row _ _ _ (qd _) (qd p)⟩
def fl:aC->Bool
 |[]=>true
 |[_]=>true
 |a::b::r=>decide (a<b)&&fl (b::r)
theorem LR:∀(l:aC) (a b:Int),fl (l++[a,b])=(fl (l++[a])&&decide (a<b))
 |[],a,b=>by simp[fl]
 |[c],a,b=>by simp[fl]
 |c::d::r,a,b=>by
  have:=LR (d::r) a b;simp only[zB]at this⊢;simp only[fl,this,Bool.and_assoc]
theorem Zl{l r:aC}(h:fl l=false):fl (l++r)=false:=by
 induction l with
 |nil=>simp[fl]at h
 |cons a t ih=>
  cases t with
  |nil=>simp[fl]at h
  |cons b t=>
   simp only[fl,y9]at h;simp only[zB,fl,y9];rcases h with h|h
   ·exact .inl h
   ·exact .inr (ih h)
theorem abt(l:aC)(k:Nat)(h:k+1<l.length):l.take (k+2)=l.take k++[l[k],l[k+1]]:=by
 have b:l.take (k+2)=l.take (k+1)++[l[k+1]]:=aI l (k+1) h;have a:=aI l k;rw[b,a,qp];rfl
def fm(n:Int)(r:aC):Bool:=r.all (fun c=>decide (0<=c/\c<n))&&fl r
theorem Zm{n:Int}{l r:aC}(h:fm n l=false):fm n (l++r)=false:=by
 simp only[fm,y9]at*;rcases h with h|h
 ·left;rw[yH,h];rfl
 ·right;exact Zl h
theorem WH{n:Int}{r:aC}(h:0<r.length):fm n (r.take 1)=decide (0<=r[0]/\r[0]<n):=by
 cases r with
 |nil=>simp at h
 |cons a t=>simp[fm,fl]
theorem WI{n:Int}{r:aC}{k:Nat}(h:k+1<r.length):fm n (r.take (k+2))=(fm n (r.take (k+1))&&decide (0<=r[k+1]/\r[k+1]<n)&&decide (r[k]<r[k+1])):=by
 have b:r.take (k+2)=r.take (k+1)++[r[k+1]]:=aI r (k+1) h;have a:fl (r.take (k+2))=(fl (r.take (k+1))&&decide (r[k]<r[k+1])):=by
  rw[abt r k h,LR,aI r k]
 simp only[fm,a];rw[b,yH];simp only[List.all_cons,List.all_nil,Bool.and_true]
 cases(r.take (k+1)).all fun c=>decide (0<=c/\c<n)<;>cases fl (r.take (k+1))<;>cases decide (0<=r[k+1]/\r[k+1]<n)<;>simp
theorem xW{n:Int}{r:aC}{k:Nat}(h:fm n (r.take k)=false):fm n r=false:=by
 rw[<-qI k r];exact Zm h
theorem WJ{n:Int}{r:aC}{k:Nat}(c:k<r.length)(h:fm n (r.take k)=true):
  (r[k]<0->fm n r=false)/\(n<=r[k]->fm n r=false)/\(∀(h0:0<k),r[k]<=r[k-1]->fm n r=false)/\
  (0<=r[k]->r[k]<n->(∀h0:0<k,r[k-1]<r[k])->fm n (r.take (k+1))=true):=by
 cases k with
 |zero=>
  have e:=WH (n:=n) c;refine⟨fun a=>xW (k:=1) ?_,fun a=>xW (k:=1) ?_,fun h0=>by omega,fun a b _=>?_⟩
  ·rw[e,decide_eq_false (by omega)]
  ·rw[e,decide_eq_false (by omega)]
  ·rw[e,decide_eq_true ⟨a,b⟩]
 |succ k=>
  have e:=WI (n:=n) c;refine⟨fun a=>xW (k:=k+2) ?_,fun a=>xW (k:=k+2) ?_,fun h0 a=>xW (k:=k+2) ?_,fun a b h3=>?_⟩
  ·rw[e,decide_eq_false (p:=0<=r[k+1]/\r[k+1]<n) (by omega)];simp
  ·rw[e,decide_eq_false (p:=0<=r[k+1]/\r[k+1]<n) (by omega)];simp
  ·rw[e,decide_eq_false (p:=r[k]<r[k+1]) (by simpa using a)];simp
  ·have d:r[k]<r[k+1]:=by simpa using h3 (by omega)
   rw[e,h,decide_eq_true (p:=0<=r[k+1]/\r[k+1]<n) ⟨a,b⟩,decide_eq_true d];rfl
def jh(n:Int)(a:dJ):Bool:=decide (0<=n/\n<=64)&&a.all (fm n)
theorem abu{α:Type}{f:α->Bool}{l:List α}{k:Nat}(a:k<l.length)(h:(l.take k).all f=true):(l.take (k+1)).all f=f l[k]:=by
 rw[aI _ _ a,yH,h];simp
theorem afc{α:Type}{f:α->Bool}{l:List α}{k:Nat}(a:k<l.length)(h:f l[k]=false):l.all f=false:=by
 rw[yh];exact⟨l[k],qh a,by simp[h]⟩
theorem No{p:aB}(n:Int)(a:Sl)(b:dJ)(rs:List Sl)(h:Heap)(y:gT h p a 1 aD b rs)(J:b.length<=2^40)(w:∀l∈b,l.length<=2^40):
  ac xx 380 #[xl xt n,a] h fun v h'=>v=xq (jh n b)/\h'=h:=by
 refine Li n a ?_;unfold Ex;have F:=y.PM;refine cl (fun _ h'=>h'=h/\0<=n/\n<=64) ?_ ?_
 ·refine al (fun j=>⟨?_,rfl⟩) (fun j=>al (fun f=>⟨?_,rfl⟩) (fun f=>⟨rfl,by omega,by omega⟩))
  ·rw[jh,decide_eq_false (by omega)];rfl
  ·rw[jh,decide_eq_false (by omega)];rfl
 ·rintro _ h' ⟨rfl,t,o⟩;have A:jh n b=b.all (fm n):=by rw[jh,decide_eq_true ⟨t,o⟩];rfl
  refine aw (fun k:Nat=>(k:Int)) (fun k h0=>h0=h'/\k<=b.length/\(b.take k).all (fm n)=true) (fun k=>b.length-k) 0 rfl ⟨rfl,by omega,by simp⟩ ?_;rintro i h0 ⟨rfl,I,c⟩;refine al (fun u=>?_) (fun s=>?_)
  ·have e:i<b.length:=by omega
   refine y.get i rfl e fun r m _=>?_;have B:=m.len;have E:=w _ (qh e);have d:fm n b[i]=false->jh n b=false:=fun D=>by rw[A];exact afc e D
   refine aw (fun k:Nat=>(k:Int)) (fun k f=>f=h0/\k<=b[i].length/\fm n (b[i].take k)=true) (fun k=>b[i].length-k) 0 rfl ⟨rfl,by omega,by simp[fm,fl]⟩ ?_;rintro k f ⟨rfl,H,q⟩;refine al (fun u=>?_) (fun s=>?_)
   ·have g:k<b[i].length:=by omega
    obtain⟨n1,n2,G,z⟩:=WJ g q;refine m.bx k rfl g _ rfl ?_;refine al (fun j=>⟨by rw[d (n1 j)],rfl⟩) (fun j=>?_);refine al (fun f=>⟨by rw[d (n2 f)],rfl⟩) (fun f=>?_);rw[ak (k+1),ak (k-1)];refine al (fun h3=>?_) (fun h3=>?_)
    ·refine m.bx (k-1) (by omega) (by omega) _ rfl ?_;refine al (fun x=>⟨by rw[d (G (by omega) x)],rfl⟩) (fun x=>?_);exact⟨k+1,by simp,⟨rfl,by omega,z (by omega) (by omega) (fun _=>by omega)⟩,by omega⟩
    ·exact⟨k+1,by simp,⟨rfl,by omega,z (by omega) (by omega) (fun _=>by omega)⟩,by omega⟩
   ·rw[qi (by omega)]at q;rw[ak (i+1)];exact⟨i+1,by simp,⟨rfl,by omega,by rw[abu e c,q]⟩,by omega⟩
  ·rw[qi (by omega)]at c;exact⟨by rw[A,c],rfl⟩
theorem LS{p:aB}(a:Sl)(c:List Bool)(x:Bool)(h:Heap)(i:Seq h p a 1 eO c)(o:c.length<=2^40):
  ac xx 406 #[a,xq x] h fun v h'=>∃r:Int,v=xl xt r/\(0<=r↔x∈c)/\h'=h:=by
 refine te a x ?_;unfold mu;have l:=i.len;refine aw (fun k:Nat=>(k:Int)) (fun k h'=>h'=h/\k<=c.length/\x∉c.take k) (fun k=>c.length-k) 0 rfl ⟨rfl,by omega,by simp⟩ ?_;rintro k h' ⟨rfl,n,g⟩;refine al (fun m=>?_) (fun j=>?_)
 ·have b:k<c.length:=by omega
  refine i.bx k rfl b _ rfl ?_;refine bw (fun f=>⟨_,rfl,⟨fun _=>?_,fun _=>by omega⟩,rfl⟩) (fun d=>?_)
  ·rw[eq_of_beq f];exact qh b
  ·rw[ak _];refine⟨k+1,by simp,⟨rfl,by omega,?_⟩,by omega⟩;rw[aI _ _ b];simp only[qA,qG,not_or];exact⟨g,fun e=>by rw[e]at d;simp at d⟩
 ·rw[qi (by omega)]at g;exact⟨_,rfl,⟨fun h=>by omega,fun h=>absurd h g⟩,rfl⟩
theorem GY{p:aB}(a:Sl)(b:List Bool)(x:Bool)(h:Heap)(c:Seq h p a 1 eO b)(d:b.length<=2^40):
  ac xx 381 #[a,xq x] h fun v h'=>v=xq (decide (x∈b))/\h'=h:=by
 refine pK a x ?_;unfold kO;refine(LS a b x h c d).mono ?_;rintro v h' ⟨r,rfl,e,rfl⟩;refine⟨r,rfl,?_,rfl⟩;exact congrArg Value.bool (decide_eq_decide.2 e)
theorem TN{α:Type}{f:α->Bool}{l:List α}{k:Nat}(a:k<l.length):(l.take (k+1)).filter f=if f l[k]then(l.take k).filter f++[l[k]]else(l.take k).filter f:=by
 rw[aI _ _ a,zj];by_cases h:f l[k]=true<;>simp[h]
theorem LU{p q:aB}(i:Addr)(o r:Sl)(op:List Bool)(row:aC)(h:Heap)(w:cellOf h (i.add 1)=some (xn o.ptr o.len o.cap))(n:Seq h p o 1 eO op)(m:Seq h q r 1 aD row)
  (l:∀c∈row,0<=c/\c<op.length) (A:row.length<=2^40):
  ac xx 407 #[xo (some i),r] h fun v h'=>
   v=.tuple #[xl xt ((cT op row).getLast?.getD 0),xq ((cT op row).length==1)]/\h'=h:=by
 refine xD (some i) r ?_;unfold nB;have s:=m.len;refine aw (fun k:Nat=>((cT op (row.take k)).getLast?.getD 0,((cT op (row.take k)).length:Int),(k:Int))) (fun k h'=>h'=h/\k<=row.length) (fun k=>row.length-k) 0 rfl ⟨rfl,by omega⟩ ?_;rintro k h' ⟨rfl,z⟩;dsimp only;refine al (fun x=>?_) (fun t=>?_)
 ·have d:k<row.length:=by omega
  have y:=l _ (qh d);refine m.bx k rfl d _ rfl ?_;refine⟨i,rfl,o,w,?_⟩;have a:row[k].toNat<op.length:=by omega
  refine n.bx row[k].toNat (by omega) a _ rfl ?_;have b:jB op row[k]=op[row[k].toNat]:=by simp[jB,qe,qd a]
  have g:=TN (f:=jB op) d;have u:(cT op (row.take k)).length<=row.length:=q7 (qP _ _) (by rw[zd];omega);rw[ak (k+1),ak _];refine bw (fun j=>?_) (fun j=>?_)
  ·refine⟨k+1,?_,⟨rfl,by omega⟩,by omega⟩;have e:cT op (row.take (k+1))=cT op (row.take k)++[row[k]]:=by rw[cT,g,b,j];rfl
   simp[e]
  ·refine⟨k+1,?_,⟨rfl,by omega⟩,by omega⟩;have e:cT op (row.take (k+1))=cT op (row.take k):=by rw[cT,g,b,j];rfl
   simp[e]
 ·have e:row.take k=row:=qi (by omega);refine⟨?_,rfl⟩;simp only[e];congr 4;congr 1;rw[y7];simp;omega
structure AS (h:Heap) (p:aB) (a:Addr) (l o u:Sl) (rows:dJ) (rs:List Sl) (op us:List Bool):Prop where
 c0:cellOf h a=some (xn l.ptr l.len l.cap)
 c1:cellOf h (a.add 1)=some (xn o.ptr o.len o.cap)
 c2:cellOf h (a.add 2)=some (xn u.ptr u.len u.cap)
 fy:p a.block
 sRows:gT h p l 1 aD rows rs
 sOp:Seq h p o 1 eO op
 sUs:Seq h p u 1 eO us
 ulen:us.length=rows.length
 cP:∀r∈rows,∀c∈r,0<=c/\c<op.length
 short:∀r∈rows,r.length<=64
theorem AS.ai{h h':Heap}{p:aB}{a:Addr}{l o u:Sl}{rows:dJ}{rs:List Sl}{op us:List Bool}(c:AS h p a l o u rows rs op us)(k:aU p h h'):AS h' p a l o u rows rs op us:=by
 have b:∀n,(a.add n).block=a.block:=fun n=>by unfold Addr.add;split<;>rfl
 exact⟨k.cell c.fy c.c0,k.cell (by rw[b];exact c.fy) c.c1,k.cell (by rw[b];exact c.fy) c.c2,c.fy,c.sRows.ai k,c.sOp.ai k,c.sUs.ai k,c.ulen,c.cP,c.short⟩
theorem Po{p:aB}(a:Addr)(l o u:Sl)(rows:dJ)(rs:List Sl)(op us:List Bool)(h:Heap)(y:AS h p a l o u rows rs op us)(P:rows.length<=2^40):
  ac xx 382 #[xo (some a)] h fun v h'=>aU (fun _=>True) h h'/\
   v=match lP rows op us with
    |some i=>.tuple #[xr #[xl xt i,xl xt (eS rows op i)],xq true]
    |none=>.tuple #[xr #[xl xt 0,xl xt 0],xq false]:=by
 refine Bt (some a) ?_;unfold pv;refine Am ae rfl fun b L N q e K=>?_;have f:=y.ai (e.mono fun _ _ _=>trivial);refine⟨a,rfl,l,f.c0,?_⟩;have I:=y.sRows.PM;refine aw (fun k:Nat=>(k:Int)) (fun k h'=>h'=L/\k<=rows.length/\∀j,j<k->lO rows op us j=false) (fun k=>rows.length-k) 0 rfl ⟨rfl,by omega,fun j n=>by omega⟩ ?_;rintro k h' ⟨rfl,O,B⟩;refine al (fun J=>?_) (fun H=>?_)
 ·have c:k<rows.length:=by omega
  refine f.sRows.get k rfl c fun r F _=>?_;refine⟨a,rfl,u,f.c2,?_⟩;refine f.sUs.bx k rfl (by rw[y.ulen];exact c) _ rfl ?_;have E:us.getD k false=us[k]'(by rw[y.ulen];exact c):=by rw[qe,qd];rfl
  have s:rows.getD k []=rows[k]:=by rw[qe,qd c];rfl
  rw[ak _];refine bw (fun x=>?_) (fun x=>?_)
  ·refine⟨k+1,by simp,⟨rfl,by omega,fun j n=>?_⟩,by omega⟩;rcases zk.1 n with n|rfl
   ·exact B j n
   ·simp only[lO,E,x];rfl
  ·refine(LU a o r op rows[k] h' f.c1 f.sOp F (y.cP _ (qh c)) (q7 (y.short _ (qh c)) (by omega))).mono ?_;rintro v M ⟨rfl,rfl⟩;refine⟨(_,_),rfl,?_⟩;have g:lO rows op us k=((cT op rows[k]).length==1):=by simp only[lO,E,x,s];rfl
   refine bw (fun w=>?_) (fun w=>?_)
   ·have m:lO rows op us k=true:=g.trans w;refine CO ae q rfl _ rfl rfl rfl (ql _) fun h3 d t A=>?_;refine⟨(_,_),d.aL _ rfl,e.then t (fun G D _=>by omega),?_⟩;have z:eS rows op k=(cT op rows[k]).getLast?.getD 0:=by unfold eS;rw[s]
    rw[lP,XU c B m];show _=Value.tuple #[xr #[xl xt k,xl xt (eS rows op k)],xq true];rw[z];rfl
   ·have m:lO rows op us k=false:=g.trans w;refine⟨k+1,by simp,⟨rfl,by omega,fun j n=>?_⟩,by omega⟩;rcases zk.1 n with n|rfl
    ·exact B j n
    ·exact m
 ·refine CO ae q rfl _ rfl rfl rfl (ql _) fun h3 d t A=>?_;refine⟨(_,_),d.aL _ rfl,e.then t (fun G D _=>by omega),?_⟩;rw[lP,NK (fun j n=>B j (by omega))]
theorem JI{l:List Bool}{i:Nat}(h:i<l.length):l.getD i false=l[i]:=by rw[qe,qd h];rfl
theorem UI(op:List Bool)(a:aC):∀k,-1<=io op a k/\io op a k<k
 |0=>by simp[io]
 |k+1=>by
  have:=UI op a k;unfold io;split<;>omega
theorem Pp{p:aB}(a:Addr)(l o u:Sl)(rows:dJ)(rs:List Sl)(op us:List Bool)(h:Heap)(q:AS h p a l o u rows rs op us)(hs:rows.length<=2^30)(a6:op.length<=2^30):
  ac xx 383 #[xo (some a)] h fun v h'=>aU (fun _=>True) h h'/\v=xl xt (gD rows op us):=by
 refine Bu (some a) ?_;unfold px;refine⟨a,rfl,o,q.c1,?_⟩;have a5:=q.sOp.len;refine Go.Vc.run_make (f:=aD) ae ⟨_,_,rfl,rfl,rfl,rfl,rfl,rfl⟩ (by decide) 0 rfl rfl op.length op.length (by omega) (by omega) (ql _) (by omega) fun s h1 M ad a9 n a4=>?_;have U:=q.ai (n.mono fun _ _ _=>trivial);refine⟨a,rfl,l,U.c0,?_⟩;have a3:=q.sRows.PM;have z:∀b,s.on b->b=h.size:=by rintro b ⟨o',K⟩;rw[ad]at K;cases K;rfl
 have am:∀k,((fun _ r=>r:Nat->aC->aC) k (rows.getD k [])).length<=64:=fun k=>by
  show(rows.getD k []).length<=64;by_cases hk:k<rows.length
  ·rw[qe,qd hk];exact q.short _ (qh hk)
  ·rw[qe,List.getElem?_eq_none (by omega)];simp
 let d:=kA (fun _ r=>r) rows us (qg op.length 0);have G:∀k,(d k).length=op.length:=fun k=>by rw[Db];simp
 have X:∀k,∀x∈d k,0<=x/\x<=64*k:=fun k x hx=>Qv (fun _ r=>r) am k x hx;refine aw (fun k:Nat=>(k:Int)) (fun k h'=>aU (fun b=>b<h.size) h h'/\k<=rows.length/\Own h' 3 s 1 aD (d k)) (fun k=>rows.length-k) 0 rfl ⟨n.mono fun _ _ _=>trivial,by omega,M⟩ ?_;rintro i W ⟨F,hi,t⟩;have y:AS W p a l o u rows rs op us:=q.ai (F.mono fun b e _=>e);refine al (fun P=>?_) (fun N=>?_)
 ·have g:i<rows.length:=by omega
  have J:rows.getD i []=rows[i]:=by rw[qe,qd g];rfl
  have Z:us.getD i false=us[i]'(by rw[q.ulen];exact g):=JI _;refine y.sRows.get i rfl g fun r hr T=>?_;have a8:=hr.len;have Q:=q.short _ (qh g);refine aw (fun k:Nat=>(k:Int)) (fun k h'=>aU (fun b=>b<h.size) h h'/\k<=rows[i].length/\Own h' 3 s 1 aD (if us.getD i false then d i else jP (d i) (rows[i].take k))) (fun k=>rows[i].length-k) 0 rfl
   ⟨F,by omega,by simpa[jP]using t⟩ ?_
  rintro j h3 ⟨A,hj,c⟩;have w:AS h3 p a l o u rows rs op us:=q.ai (A.mono fun b e _=>e);refine al (fun P=>?_) (fun N=>?_)
  ·have E:j<rows[i].length:=by omega
   have S:=w.sRows.row i r _ T (qd g);have hc:=q.cP _ (qh g) _ (qh E);refine S.bx j rfl E _ rfl ?_;refine⟨a,rfl,u,w.c2,?_⟩;refine w.sUs.bx i rfl (by rw[q.ulen];exact g) _ rfl ?_;rw[ak (j+1)];refine bh (fun e=>?_) (fun e=>?_)
   ·rw[Z,e]at c;simp only[zf,if_false]at c;have I:(jP (d i) (rows[i].take j)).length=op.length:=by rw[DW,G]
    have m:rows[i][j].toNat<(jP (d i) (rows[i].take j)).length:=by rw[I];omega
    have a7:=FB (r:=rows[i].take j) (X i) _ (qh m);have a2:(rows[i].take j).length<=64:=by rw[zd];omega
    have ap:Seq h3 (fun _=>True) s 1 aD (jP (d i) (rows[i].take j)):=c.seq (fun _=>rfl) (fun _ _=>trivial);refine ap.bx rows[i][j].toNat (by omega) m _ rfl ?_;rw[ak _];refine c.set ae (fun _=>rfl) rfl rows[i][j].toNat (by omega) m _ rfl rfl rfl fun h4 D ah a0=>?_;refine⟨j+1,by simp,⟨A.then ah (fun b e _=>fun V=>by have:=z b V;omega),by omega,?_⟩,by omega⟩;rw[Z,e];simp only[zf,if_false];rw[aI _ _ E,SF,getD_lt m];exact D
   ·refine⟨j+1,by simp,⟨A,by omega,?_⟩,by omega⟩;rw[Z,e]at c⊢;exact c
  ·rw[ak (i+1)];rw[qi (by omega)]at c;refine⟨i+1,by simp,⟨A,by omega,?_⟩,by omega⟩;have:d (i+1)=if us.getD i false then d i else jP (d i) rows[i]:=by
    show kA _ _ _ _ (i+1)=_;rw[kA];simp only[J];rfl
   rw[this];exact c
 ·have Y:i=rows.length:=by omega
  subst Y;refine⟨a,rfl,o,y.c1,?_⟩;have L:Seq W (fun _=>True) s 1 aD (d rows.length):=t.seq (fun _=>rfl) (fun _ _=>trivial);have ay:=G rows.length;refine aw (fun k:Nat=>(io op (d rows.length) k,(k:Int))) (fun k h'=>h'=W/\k<=op.length) (fun k=>op.length-k) 0 rfl ⟨rfl,by omega⟩ ?_;rintro k h3 ⟨rfl,hk⟩;dsimp only;have a1:=UI op (d rows.length) k;refine al (fun P=>?_) (fun N=>?_)
  ·have H:k<op.length:=by omega
   refine y.sOp.bx k rfl H _ rfl ?_;rw[ak (k+1)];have B:op.getD k false=op[k]:=JI H;refine bw (fun e=>?_) (fun e=>?_)
   ·refine al (fun O=>?_) (fun R=>?_)
    ·refine⟨k+1,?_,⟨rfl,by omega⟩,by omega⟩;rw[io,if_pos (by rw[B,e,decide_eq_true O];rfl)];rfl
    ·refine L.bx k rfl (by omega) _ rfl ?_;refine L.bx (io op (d rows.length) k).toNat (by omega) (by omega) _ rfl ?_;have e1:(d rows.length).getD k 0=(d rows.length)[k]:=getD_lt;have e2:(d rows.length).getD (io op (d rows.length) k).toNat 0=(d rows.length)[(io op (d rows.length) k).toNat]:=getD_lt;refine al (fun ab=>?_) (fun ao=>?_)
     ·refine⟨k+1,?_,⟨rfl,by omega⟩,by omega⟩;rw[io,if_pos (by rw[B,e,e1,e2,decide_eq_true ab];simp)];rfl
     ·refine⟨k+1,?_,⟨rfl,by omega⟩,by omega⟩;rw[io,if_neg (by rw[B,e,e1,e2,decide_eq_false ao,decide_eq_false R];simp)];rfl
   ·refine⟨k+1,?_,⟨rfl,by omega⟩,by omega⟩;rw[io,if_neg (by rw[B,e];simp)];rfl
  ·have ax:k=op.length:=by omega
   subst ax;exact⟨F.mono fun b e _=>e,rfl⟩
def fo(p:Int×Int):aW:=[xl xt p.1,xl xt p.2]
theorem abv:∀x,∀c∈fo x,c.oneCell'=true:=by
 intro x c a;simp only[fo,q8,List.not_mem_nil,or_false]at a;rcases a with rfl|rfl<;>rfl
def DM(n:Int)(rows:dJ):List (Int×Int)×aC×aC:=
 if jh n rows then((dw n.toNat rows).steps,(dw n.toNat rows).dead,fi (dw n.toNat rows).used rows.length)else([],[],[])
def afd(h0 h:Heap)(v:Value)(ok:Bool)(a:List (Int×Int))(b c:aC):Prop:=
 ∃s d f:Sl,v=.tuple #[xr #[s,d,f],xq ok]/\
  Sp h0 h [ar 347 s 2 fo a,ar 3 d 1 aD b,ar 3 f 1 aD c]
theorem adF{α β γ:Type}{h0 h:Heap}{c:Nat->Nat}{o p m j r q:Nat}{n:α->aW}{g:β->aW}{v:γ->aW}{k s t:Sl}{l1:List α}{l2:List β}{u:List γ}(l:lX h0 h c)(f:dF h c 6 o k j n l1)(e:dF h c 7 p s r g l2)(a3:dF h c 8 m t q v u):
  Sp h0 h [ar o k j n l1,ar p s r g l2,ar m t q v u]:=by
 refine⟨fun _ h=>h,l.ai,fun b=>c b-5,fun b a=>?_,fun i A d=>?_⟩
 ·have:=l.bs b a;dsimp only;omega
 ·match i,d with
  |0,d=>simp at d;subst d;exact⟨f.own,fun b a=>⟨f.own.lt a,by have:=f.bs b a;dsimp only;omega⟩⟩
  |1,d=>simp at d;subst d;exact⟨e.own,fun b a=>⟨e.own.lt a,by have:=e.bs b a;dsimp only;omega⟩⟩
  |2,d=>simp at d;subst d;exact⟨a3.own,fun b a=>⟨a3.own.lt a,by have:=a3.bs b a;dsimp only;omega⟩⟩
  |i+3,d=>simp at d
theorem adG{n:Int}{rows:dJ}(h:jh n rows=true):0<=n/\n<=64/\∀r∈rows,fm n r=true:=by
 simp only[jh,qz,decide_eq_true_eq,qN]at h;exact⟨h.1.1,h.1.2,h.2⟩
theorem JJ{n:Int}{r:aC}(h:fm n r=true):∀c∈r,0<=c/\c<n:=by
 simp only[fm,qz,qN,decide_eq_true_eq]at h;exact h.1
theorem Ow:∀{r:aC} {a n:Int},fl r=true->(∀c∈r,a<=c/\c<n)->(r.length:Int)<=max 0 (n-a)
 |[],a,n,_,_=>by simp;omega
 |[x],a,n,_,h=>by have:=h x (by simp);simp;omega
 |x::y::t,a,n,hr,h=>by
  simp only[fl,qz,decide_eq_true_eq]at hr;have g:=h x (by simp);have f:=h y (by simp);have d:∀(l:aC) (z:Int),fl (z::l)=true->∀c∈l,z<c:=by
   intro l
   induction l with
   |nil=>intro z _ c b;simp at b
   |cons w t ih=>
    intro z e c b;simp only[fl,qz,decide_eq_true_eq]at e;rcases q8.1 b with rfl|b
    ·exact e.1
    ·have:=ih w e.2 c b;omega
  have:=Ow (r:=y::t) (a:=x+1) (n:=n) hr.2 fun c b=>⟨by
   rcases q8.1 b with rfl|b
   ·omega
   ·have:=d t y hr.2 c b;omega,(h c (by simp only[q8]at b⊢;exact .inr b)).2⟩
  simp only[q9]at this⊢;omega
theorem Zn{n:Int}{r:aC}(h:fm n r=true)(c:n<=64):r.length<=64:=by
 have b:=JJ h;simp only[fm,qz]at h;have:=Ow (a:=0) h.2 b;omega
theorem abw(n k:Nat)(h:k<n):(qg k true++qg (n-k) false).set k true=qg (k+1) true++qg (n-(k+1)) false:=by
 have e:n-k=(n-(k+1))+1:=by omega
 rw[zc _ _ (by simp),e,List.replicate_succ];simp only[List.length_replicate,zi,zC];rw[List.replicate_succ' (n:=k)];simp
theorem Sa{h h0:Heap}{c:Nat->Nat}{a:Addr}{l o u:Sl}{rows:dJ}{rs:List Sl}{op us:List Bool}(p:gT h0 (fun b=>b<h0.size) l 1 aD rows rs)(j:lX h0 h c)(e:jW h c 2 a 399 [l,o,u])
  (k:dF h c 3 4 o 1 eO op) (n:dF h c 4 4 u 1 eO us) (g:us.length=rows.length) (m:op.length<=64) (i:∀r∈rows,fm op.length r=true):AS h (fun b=>b<h.size) a l o u rows rs op us:=
 ⟨e.box.cell0 rfl,e.box.cell rfl,e.box.cell rfl,e.box.lt,(p.ai j.ai).mono fun b f=>qY f j.ai.1,k.Vb fun _=>rfl,n.Vb fun _=>rfl,g,fun r d=>JJ (i r d),fun r d=>Zn (i r d) (by omega)⟩
theorem Zo(n:Int)(l:Sl)(rows:dJ)(rs:List Sl)(h:Heap)(hl:gT h (fun b=>b<h.size) l 1 aD rows rs)(hs:rows.length<=2^30)(dx:∀r∈rows,r.length<=2^40):
  ac xx 308 #[xl xt n,l] h fun v h'=>afd h h' v (jh n rows) (DM n rows).1 (DM n rows).2.1 (DM n rows).2.2:=by
 refine MZ n l ?_;unfold Gj;have es:=hl.PM;refine tQ ae (lX.refl h) 1 rfl fun a1 h1 cc da=>?_;have E:=(lX.refl h).keep (m:=1) da (by decide);refine(No n l rows rs h1 (hl.ai E.ai) (by omega) dx).mono ?_;rintro v h2 ⟨rfl,rfl⟩;refine⟨_,rfl,?_⟩;refine bh (fun hr=>?_) (fun hr=>?_)
 ·refine cc.kv ae rfl _ rfl rfl rfl (ql _) fun h3 a0 D=>?_;refine⟨(⟨none,0,0⟩,⟨none,0,0⟩,⟨none,0,0⟩),a0.box.aL _ rfl,?_⟩;refine⟨⟨none,0,0⟩,⟨none,0,0⟩,⟨none,0,0⟩,by rw[hr],?_⟩;simp only[DM,hr,zf,if_false];exact(((Sp.zip (E.keep (m:=1) D (by decide)).ai).nil 347 2 fo).nil 3 1 aD).nil 3 1 aD
 ·obtain⟨er,ep,b4⟩:=adG hr;obtain⟨N,rfl⟩:∃N:Nat,n=N:=⟨n.toNat,by omega⟩
  have hN:N<=64:=by omega
  refine cl (fun s h'=>∃c a o u,s=some a/\lX h h' c/\jW h' c 1 a1 267 [xn none 0 0,xn none 0 0,xn none 0 0]/\jW h' c 2 a 399 [l,xn o.ptr o.len o.cap,xn u.ptr u.len u.cap]/\
   dF h' c 3 4 o 1 eO (qg N false)/\dF h' c 4 4 u 1 eO (qg rows.length false)) ⟨?_,?_⟩ ?_
  ·refine An ae E 3 eO ⟨_,_,rfl,rfl,rfl,rfl,rfl,rfl⟩ (by decide) false rfl rfl N rfl rfl (by omega) fun o h3 ho D=>?_;refine⟨trivial,?_⟩;refine An ae (E.keep (m:=3) D (by decide)) 4 eO ⟨_,_,rfl,rfl,rfl,rfl,rfl,rfl⟩ (by decide) false rfl rfl rows.length (by omega) (by omega) (by omega) fun u h4 hu H=>?_;refine⟨trivial,?_⟩;refine PP _ ((E.keep (m:=3) D (by decide)).keep (m:=4) H (by decide)) 2 fun a h5 ha A=>?_;exact⟨trivial,_,a,o,u,rfl,((E.keep D (by decide)).keep H (by decide)).keep A (by decide),((cc.keep D (by decide)).keep H (by decide)).keep A (by decide),ha,(ho.keep H (by decide)).keep A (by decide),hu.keep A (by decide)⟩
  ·refine An ae E 4 eO ⟨_,_,rfl,rfl,rfl,rfl,rfl,rfl⟩ (by decide) false rfl rfl rows.length (by omega) (by omega) (by omega) fun u h3 hu D=>?_;refine⟨trivial,?_⟩;refine An ae (E.keep (m:=4) D (by decide)) 3 eO ⟨_,_,rfl,rfl,rfl,rfl,rfl,rfl⟩ (by decide) false rfl rfl N rfl rfl (by omega) fun o h4 ho H=>?_;refine⟨trivial,?_⟩;refine PP _ ((E.keep (m:=4) D (by decide)).keep (m:=3) H (by decide)) 2 fun a h5 ha A=>?_;exact⟨trivial,_,a,o,u,rfl,((E.keep D (by decide)).keep H (by decide)).keep A (by decide),((cc.keep D (by decide)).keep H (by decide)).keep A (by decide),ha,ho.keep A (by decide),(hu.keep H (by decide)).keep A (by decide)⟩
  ·rintro s h3 ⟨c,a,o,u,rfl,cr,bd,a0,ay,cs⟩;refine⟨a,rfl,o,a0.box.cell rfl,?_⟩;have et:o.len=N:=by rw[ay.own.len];simp
   refine aw (fun t:Nat×(Nat->Nat)=>(t.1:Int)) (fun t h'=>t.1<=N/\lX h h' t.2/\jW h' t.2 1 a1 267 [xn none 0 0,xn none 0 0,xn none 0 0]/\jW h' t.2 2 a 399 [l,o,u]/\
    dF h' t.2 3 4 o 1 eO (qg t.1 true++qg (N-t.1) false)/\dF h' t.2 4 4 u 1 eO (qg rows.length false)) (fun t=>N-t.1) (0,c) rfl ⟨by simp,cr,bd,a0,by simpa using ay,cs⟩ ?_
   rintro⟨k,c⟩ h4 ⟨hk,a9,b5,br,bl,cf⟩;dsimp only at*;refine al (fun d7=>?_) (fun d3=>?_)
   ·have dz:k<N:=by omega
    refine⟨a,rfl,o,br.box.cell rfl,?_⟩;refine bl.set ae (fun _=>rfl) rfl k rfl (by simp;omega) true rfl rfl rfl fun h5 bk A=>?_;rw[ak _];rw[abw _ _ dz]at bk;exact⟨(k+1,_),by simp,⟨by simp;omega,a9.keep A (by decide),b5.keep A (by decide),br.keep A (by decide),bk,cf.keep A (by decide)⟩,by simp;omega⟩
   ·have ec:k=N:=by omega
    subst ec;simp only[zi,List.replicate_zero,qS]at bl;refine tQ ae a9 5 rfl fun ap h5 c7 A=>?_;have d0:=a9.keep (m:=5) A (by decide);have d2:=b5.keep (m:=5) A (by decide);have eb:=br.keep (m:=5) A (by decide);have bk:=bl.keep (m:=5) A (by decide);have c8:=cf.keep (m:=5) A (by decide);clear a9 b5 br bl cf cr bd a0 ay cs;generalize grow c h4.size 5=c5 at*;refine aw (τ:=Nat×List Bool×List Bool×(List (Int×Int))×aC×(Nat->Nat)×Sl×Sl) (fun _=>())
     (fun⟨f,op,us,st,dd,c,ss,ds⟩ h'=>op.length=k/\us.length=rows.length/\op.count true<=f/\f<=k/\st.length<=k-f/\dd.length<=k-f/\
      (∃r,cw rows f op us=r/\dw k rows=⟨st++r.steps,dd++r.dead,r.used⟩)/\lX h h' c/\
      jW h' c 1 a1 267 [xn none 0 0,xn none 0 0,xn none 0 0]/\jW h' c 2 a 399 [l,o,u]/\
      dF h' c 3 4 o 1 eO op/\dF h' c 4 4 u 1 eO us/\
      jW h' c 5 ap 267 [ss,ds,xn none 0 0]/\dF h' c 6 347 ss 2 fo st/\dF h' c 7 3 ds 1 aD dd)
     (fun t=>t.1) (k,qg k true,qg rows.length false,[],[],c5,⟨none,0,0⟩,⟨none,0,0⟩) rfl
     ⟨by simp,by simp,by simp,by simp,by simp,by simp,⟨_,rfl,by simp[dw]⟩,d0,d2,eb,bk,c8,c7,dF.nil _ _ _ _ _ _,dF.nil _ _ _ _ _ _⟩ ?_
    rintro⟨f,op,us,st,dd,c,ss,ds⟩ h6 ⟨ah,K,eh,ew,ej,eg,⟨r,am,bq⟩,M,a6,O,ab,S,I,J,L⟩;dsimp only at*;have G:∀r∈rows,fm op.length r=true:=by rw[ah];exact b4
    have a2:=Sa hl M O ab S K (by omega) G;refine⟨a,rfl,o,O.box.cell rfl,?_⟩;refine(GY o op true h6 (ab.Vb fun _=>rfl) (by omega)).mono ?_;rintro v h7 ⟨rfl,rfl⟩;refine⟨_,rfl,?_⟩;refine bh (fun hc=>?_) (fun hc=>?_)
    ·have Z:op.contains true=false:=by simpa using hc
     have bd:r=⟨[],[],us⟩:=by rw[<-am];exact Ay Z f
     subst bd;simp only[qS]at bq;refine⟨a,rfl,u,O.box.cell rfl,?_⟩;have el:u.len=rows.length:=by rw[S.own.len,K]
     refine aw (fun t:Nat×(Nat->Nat)×Sl=>(t.1:Int)) (fun⟨j,c,fs⟩ h'=>j<=rows.length/\lX h h' c/\
      jW h' c 1 a1 267 [xn none 0 0,xn none 0 0,xn none 0 0]/\dF h' c 4 4 u 1 eO us/\
      jW h' c 5 ap 267 [ss,ds,fs]/\dF h' c 6 347 ss 2 fo st/\dF h' c 7 3 ds 1 aD dd/\dF h' c 8 3 fs 1 aD (fi us j)) (fun t=>rows.length-t.1) (0,c,⟨none,0,0⟩) rfl
      ⟨by simp,M,a6,S,I,J,L,dF.nil _ _ _ _ _ _⟩ ?_
     rintro⟨j,c,fs⟩ h8 ⟨hj,bb,ce,b3,W,a8,a3,a5⟩;dsimp only at*;refine al (fun d7=>?_) (fun d3=>?_)
     ·have en:j<rows.length:=by omega
      have eo:(fi us j).length<=j:=HG us j;refine(b3.Vb fun _=>rfl).bx j rfl (by omega) _ rfl ?_;have cn:us.getD j false=us[j]:=JI (by omega);rw[ak _];refine bh (fun hb=>?_) (fun hb=>?_)
      ·refine⟨fs,W.box.cell rfl,?_⟩;refine IP ae bb 9 aD ⟨_,_,rfl,rfl,rfl,rfl,rfl,rfl⟩ rfl [(j:Int)] rfl (zF rfl) rfl fun v h9 d4 p=>?_;refine(a5.keep (m:=9) p (by decide)).append ae ⟨_,_,rfl,rfl,rfl,rfl,rfl,rfl⟩ ⟨_,_,rfl,rfl⟩ rfl (by decide) (fun _=>rfl) (d4.seq fun _=>rfl) jf (by simp;omega) fun ef b7 b0 g=>?_;refine((W.keep (m:=9) p (by decide)).keep (m:=8) g (by decide)).store ae rfl 2 _ rfl rfl rfl (zF rfl) fun c2 b1 d=>?_;refine⟨(j+1,_,ef),by simp,⟨by simp;omega,((bb.keep p (by decide)).keep g (by decide)).keep d (by decide),((ce.keep p (by decide)).keep g (by decide)).keep d (by decide),((b3.keep p (by decide)).keep g (by decide)).keep d (by decide),b1,
        ((a8.keep p (by decide)).keep g (by decide)).keep d (by decide),((a3.keep p (by decide)).keep g (by decide)).keep d (by decide),?_⟩,by simp;omega⟩
       have e:fi us (j+1)=fi us j++[(j:Int)]:=by rw[fi,cn,hb];rfl
       rw[e];exact b0.keep d (by decide)
      ·have e:fi us (j+1)=fi us j:=by rw[fi,cn,hb];rfl
       exact⟨(j+1,c,fs),by simp,⟨by simp;omega,bb,ce,b3,W,a8,a3,by rw[e];exact a5⟩,by simp;omega⟩
     ·have ea:j=rows.length:=by omega
      subst ea;refine⟨(ss,ds,fs),W.box.aL _ rfl,?_⟩;refine ce.kv ae rfl _ rfl rfl rfl (ql _) fun h9 du p=>?_;refine⟨(ss,ds,fs),du.box.aL _ rfl,?_⟩;refine⟨ss,ds,fs,by rw[hr],?_⟩;simp only[DM,hr,if_true,qo,bq];exact adF (bb.keep (m:=1) p (by decide)) (a8.keep (m:=1) p (by decide)) (a3.keep (m:=1) p (by decide)) (a5.keep (m:=1) p (by decide))
    ·have Z:op.contains true=true:=by simpa using hc
     obtain⟨f',rfl⟩:∃f',f=f'+1:=by
      obtain⟨j,hj,e⟩:=FC Z;have:=jZ e;exact⟨f-1,by omega⟩
     refine be ?_;refine(Po a l o u rows rs op us h7 a2 (by omega)).mono ?_;rintro v h8 ⟨z,rfl⟩;have z:=z.bs c 9;cases hst:lP rows op us with
     |some i=>
      obtain⟨hi,dk⟩:=ua hst;obtain⟨ek,d1,ay⟩:=Dc dk;have c0:rows.getD i []=rows[i]:=by rw[qe,qd hi];rfl
      have ei:=JJ (G _ (qh hi)) _ (c0▸d1);refine⟨((i,eS rows op i),true),rfl,?_⟩;dsimp only;refine tQ ae (M.keep (m:=9) z (by decide)) 9 rfl fun ax h9 has p=>?_;refine has.kv ae rfl _ rfl rfl rfl (ql _) fun b7 Q g=>?_;refine Mp rfl ?_;have F:=((M.keep (m:=9) z (by decide)).keep (m:=9) p (by decide)).keep (m:=9) g (by decide);have ad:=((a6.keep (m:=9) z (by decide)).keep (m:=9) p (by decide)).keep (m:=9) g (by decide);have Y:=((O.keep (m:=9) z (by decide)).keep (m:=9) p (by decide)).keep (m:=9) g (by decide);have V:=((ab.keep (m:=9) z (by decide)).keep (m:=9) p (by decide)).keep (m:=9) g (by decide);have X:=((S.keep (m:=9) z (by decide)).keep (m:=9) p (by decide)).keep (m:=9) g (by decide);have B:=((I.keep (m:=9) z (by decide)).keep (m:=9) p (by decide)).keep (m:=9) g (by decide);have P:=((J.keep (m:=9) z (by decide)).keep (m:=9) p (by decide)).keep (m:=9) g (by decide);have R:=((L.keep (m:=9) z (by decide)).keep (m:=9) p (by decide)).keep (m:=9) g (by decide);clear M a6 O ab S I J L z p has a2;generalize grow (grow (grow c h7.size 9) h8.size 9) h9.size 9=c10 at*;refine⟨ss,B.box.cell0 rfl,(_,_),Q.box.aL _ rfl,?_⟩;dsimp only;refine IP ae F 10 fo ⟨_,_,rfl,rfl,rfl,rfl,rfl,rfl⟩ rfl [((i:Int),eS rows op i)] rfl (zF rfl) rfl fun v c2 cq d=>?_;refine(P.keep (m:=10) d (by decide)).append ae ⟨_,_,rfl,rfl,rfl,rfl,rfl,rfl⟩ ⟨_,_,rfl,rfl⟩ rfl (by decide) (fun _=>rfl) (cq.seq fun _=>rfl) abv (by simp;omega) fun d8 d9 b6 q=>?_;refine((B.keep (m:=10) d (by decide)).keep (m:=6) q (by decide)).kv ae rfl _ rfl rfl rfl (zF rfl) fun c9 b9 y=>?_;have T:=((Q.keep (m:=10) d (by decide)).keep (m:=6) q (by decide)).keep (m:=5) y (by decide);have a7:=((Y.keep (m:=10) d (by decide)).keep (m:=6) q (by decide)).keep (m:=5) y (by decide);have ch:=((X.keep (m:=10) d (by decide)).keep (m:=6) q (by decide)).keep (m:=5) y (by decide);have c6:=((V.keep (m:=10) d (by decide)).keep (m:=6) q (by decide)).keep (m:=5) y (by decide);refine⟨a,rfl,u,a7.box.cell rfl,(i:Int),T.box.cell0 rfl,a,rfl,o,a7.box.cell rfl,eS rows op i,T.box.cell rfl,?_⟩;refine ch.set ae (fun _=>rfl) rfl i rfl (by omega) true rfl rfl rfl fun dy cp x=>?_;have ao:=T.keep (m:=4) x (by decide);have U:=a7.keep (m:=4) x (by decide);refine⟨⟨ao.box.cell rfl,trivial⟩,?_⟩;refine(c6.keep (m:=4) x (by decide)).set ae (fun _=>rfl) rfl (eS rows op i).toNat (by omega) (by omega) false rfl rfl rfl fun dr a4 w=>?_;have d6:=ao.keep (m:=3) w (by decide);have c1:=U.keep (m:=3) w (by decide);refine⟨trivial,?_⟩;have ed:=jZ (op:=op) (j:=(eS rows op i).toNat) ay;rw[nY Z hst]at am;refine⟨(f',op.set (eS rows op i).toNat false,us.set i true,st++[((i:Int),eS rows op i)],dd,_,d8,ds),rfl,⟨by simp[ah],by simp[K],by dsimp only;omega,by dsimp only;omega,by simp;omega,by dsimp only;omega,⟨_,rfl,?_⟩,
       ((((F.keep d (by decide)).keep q (by decide)).keep y (by decide)).keep x (by decide)).keep w (by decide),
       ((((ad.keep d (by decide)).keep q (by decide)).keep y (by decide)).keep x (by decide)).keep w (by decide),
       c1,a4,cp.keep w (by decide),(b9.keep x (by decide)).keep w (by decide),((b6.keep y (by decide)).keep x (by decide)).keep w (by decide),
       ((((R.keep d (by decide)).keep q (by decide)).keep y (by decide)).keep x (by decide)).keep w (by decide)⟩,by dsimp only;omega⟩
      rw[bq,<-am];simp
     |none=>
      have d5:=sa (rows:=rows) (us:=us) Z;refine⟨((0,0),false),rfl,?_⟩;dsimp only;refine tQ ae (M.keep (m:=9) z (by decide)) 9 rfl fun ax h9 has p=>?_;refine has.kv ae rfl _ rfl rfl rfl (ql _) fun b7 Q g=>?_;refine CM rfl ?_;have F:=((M.keep (m:=9) z (by decide)).keep (m:=9) p (by decide)).keep (m:=9) g (by decide);have ad:=((a6.keep (m:=9) z (by decide)).keep (m:=9) p (by decide)).keep (m:=9) g (by decide);have Y:=((O.keep (m:=9) z (by decide)).keep (m:=9) p (by decide)).keep (m:=9) g (by decide);have V:=((ab.keep (m:=9) z (by decide)).keep (m:=9) p (by decide)).keep (m:=9) g (by decide);have X:=((S.keep (m:=9) z (by decide)).keep (m:=9) p (by decide)).keep (m:=9) g (by decide);have B:=((I.keep (m:=9) z (by decide)).keep (m:=9) p (by decide)).keep (m:=9) g (by decide);have P:=((J.keep (m:=9) z (by decide)).keep (m:=9) p (by decide)).keep (m:=9) g (by decide);have R:=((L.keep (m:=9) z (by decide)).keep (m:=9) p (by decide)).keep (m:=9) g (by decide);clear M a6 O ab S I J L z p has a2;generalize grow (grow (grow c h7.size 9) h8.size 9) h9.size 9=c10 at*;have a2:=Sa hl F Y V X K (by omega) G;refine(Pp a l o u rows rs op us b7 a2 (by omega) (by omega)).mono ?_;rintro v c2 ⟨d,rfl⟩;have d:=d.bs c10 9;refine⟨_,rfl,?_⟩;refine⟨ds,(B.keep (m:=9) d (by decide)).box.cell rfl,?_⟩;refine IP ae (F.keep (m:=9) d (by decide)) 10 aD ⟨_,_,rfl,rfl,rfl,rfl,rfl,rfl⟩ rfl [gD rows op us] rfl (zF rfl) rfl fun v d9 cm q=>?_;refine((R.keep (m:=9) d (by decide)).keep (m:=10) q (by decide)).append ae ⟨_,_,rfl,rfl,rfl,rfl,rfl,rfl⟩ ⟨_,_,rfl,rfl⟩ rfl (by decide) (fun _=>rfl) (cm.seq fun _=>rfl) jf (by simp;omega) fun ds' c9 cd y=>?_;refine(((B.keep (m:=9) d (by decide)).keep (m:=10) q (by decide)).keep (m:=7) y (by decide)).store ae rfl 1 _ rfl rfl rfl (zF rfl) fun dy b2 x=>?_;have U:=(((Y.keep (m:=9) d (by decide)).keep (m:=10) q (by decide)).keep (m:=7) y (by decide)).keep (m:=5) x (by decide);have c4:=(((V.keep (m:=9) d (by decide)).keep (m:=10) q (by decide)).keep (m:=7) y (by decide)).keep (m:=5) x (by decide);refine⟨a,rfl,o,U.box.cell rfl,?_⟩;refine c4.set ae (fun _=>rfl) rfl (gD rows op us).toNat (by omega) (by omega) false rfl rfl rfl fun dr a4 w=>?_;have ed:=jZ (op:=op) (j:=(gD rows op us).toNat) d5.2.2;rw[nZ Z hst]at am;refine⟨(f',op.set (gD rows op us).toNat false,us,st,dd++[gD rows op us],_,ss,ds'),rfl,⟨by simp[ah],K,by dsimp only;omega,by dsimp only;omega,by dsimp only;omega,by simp;omega,⟨_,rfl,?_⟩,
       ((((F.keep d (by decide)).keep q (by decide)).keep y (by decide)).keep x (by decide)).keep w (by decide),
       ((((ad.keep d (by decide)).keep q (by decide)).keep y (by decide)).keep x (by decide)).keep w (by decide),
       U.keep w (by decide),a4,((((X.keep d (by decide)).keep q (by decide)).keep y (by decide)).keep x (by decide)).keep w (by decide),b2.keep w (by decide),
       ((((P.keep d (by decide)).keep q (by decide)).keep y (by decide)).keep x (by decide)).keep w (by decide),
       (cd.keep x (by decide)).keep w (by decide)⟩,by dsimp only;omega⟩
      rw[bq,<-am];simp
theorem LV(pool:List (Sl×Row))(c:(⟨none,0,0⟩,[])∈pool)(n:Nat):gO pool id (qg n ⟨none,0,0⟩) (qg n []):=
 ⟨by simp,fun i r l a b=>by
  rw[zK]at a b;split at a
  ·rename_i d;rw[if_pos d]at b;cases a;cases b;exact c
  ·cases a⟩
theorem aa.adH{B:aB}{h0 h:Heap}{As:List HP}(H:aa B h0 h As)(i:Nat){pool:List (Sl×Row)}(c:As[i]?=some (kp pool)):aa B h0 h (As.set i (kp ((⟨none,0,0⟩,[])::pool))):=
 H.fO i c fun q b x a=>by
  rcases q8.1 a with rfl|a
  ·exact Seq.nil _ _ _ _ _ _
  ·exact b x a
structure WK (h:Heap) (f:Addr) (r st dd lf:Sl) (rr:List (Sl×Sl)) (R:List eZ) (ST:List (Int×Int)) (D L:aC):Prop where
 field:gN h f
 rest:nk iV 2 qv h r rr R
 steps:Rd h st 2 fo ST
 dead:Rd h dd 1 aD D
 left:Rd h lf 1 aD L
abbrev SA(s:Addr)(a:aW):HP:=aq s 269 a
abbrev HA(s:Sl)(rs:List Sl):HP:=ar 35 s 1 bJ rs
abbrev RA(s:Sl)(l:Row):HP:=ar 5 s 1 aE l
theorem Ox{R:dJ}:∀{l1 l2:List (Int×Int)} {D:Int->Prop},sf R D (l1++l2)->sf R D l1/\sf R (fun x=>D x∨∃i,(i,x)∈l1) l2
 |[],l2,D,h=>⟨trivial,by
  have:(fun x=>D x∨∃i,(i,x)∈([]:List (Int×Int)))=D:=by funext x;simp
  rw[this];exact h⟩
 |(i,c)::l1,l2,D,h=>by
  obtain⟨a,b,f,d,e⟩:=h;obtain⟨k,g⟩:=Ox e;refine⟨⟨a,b,f,d,k⟩,?_⟩;have:(fun x=>D x∨∃j,(j,x)∈(i,c)::l1)=fun x=>(D x∨x=c)∨∃j,(j,x)∈l1:=by
   funext x;simp only[q8,Prod.mk.injEq,eq_iff_iff];constructor
   ·rintro(h|⟨j,⟨_,h⟩|h⟩)
    ·exact .inl (.inl h)
    ·exact .inl (.inr h)
    ·exact .inr ⟨j,h⟩
   ·rintro((h|h)|⟨j,h⟩)
    ·exact .inl h
    ·exact .inr ⟨i,.inl ⟨rfl,h⟩⟩
    ·exact .inr ⟨j,.inr h⟩
  rw[this];exact g
section
variable {B:aB} {h0 h:Heap} {As:List HP}
theorem TO(s f:Addr)(p:Int×Int×Int)(v r Y T lf P S:Sl)(n:Nat)(pool:List (Sl×Row))(H:aa B h0 h (SA s (fX f p v r Y T lf P S)::kp pool::As))(l:v.len=n)(hn:n<=64){K:Unit->Heap->Prop}
  (Q:∀j d h',j.len=n->d.len=n->aa B h0 h' (SA s (fX f p v r Y T lf j d)::HA j (qg n ⟨none,0,0⟩)::HA d (qg n ⟨none,0,0⟩)::kp pool::As)->K () h'):(fun(c:aO) (R:Unit->Heap->Prop)=>
 ∃a3:Addr,(c=some a3)/\
 ∃b:Sl,cellOf h (a3.add 4)=some (xn b.ptr b.len b.cap)/\
 ∃a5:Addr,(c=some a5)/\
 ∃a:Sl,cellOf h (a5.add 4)=some (xn a.ptr a.len a.cap)/\
 (az xx (qF 40 (xl xt ((b.len:Nat):Int)) (xl xt ((b.len:Nat):Int))) (.one (.sc .slc)) h fun y M=>
 (av.ok [(a5.add 4,(xn a.ptr a.len a.cap)),(a3.add 4,(xn b.ptr b.len b.cap))] M)/\
 ∃N:Addr,(c=some N)/\
 (az xx (qF 40 (xl xt ((a.len:Nat):Int)) (xl xt ((a.len:Nat):Int))) (.one (.sc .slc)) M fun v9 A=>
 (av.ok [(a5.add 4,(xn a.ptr a.len a.cap)),(a3.add 4,(xn b.ptr b.len b.cap))] A)/\
 ag xx (qf 40 (xo (some (N.add 9))) (xn y.ptr y.len y.cap)) A fun _ h3=>
 (av.ok [] h3)/\
 ∃F:Addr,(c=some F)/\
 ag xx (qf 40 (xo (some (F.add 10))) (xn v9.ptr v9.len v9.cap)) h3 fun _ q=>
 (av.ok [] q)/\
 R () q)/\(ag xx (qf 40 (xo (some (N.add 9))) (xn y.ptr y.len y.cap)) M fun _ X=>
 (av.ok [] X)/\
 az xx (qF 40 (xl xt ((a.len:Nat):Int)) (xl xt ((a.len:Nat):Int))) (.one (.sc .slc)) X fun x Z=>
 (av.ok [] Z)/\
 ∃E:Addr,(c=some E)/\
 ag xx (qf 40 (xo (some (E.add 10))) (xn x.ptr x.len x.cap)) Z fun _ W=>
 (av.ok [] W)/\
 R () W))/\(az xx (qF 40 (xl xt ((a.len:Nat):Int)) (xl xt ((a.len:Nat):Int))) (.one (.sc .slc)) h fun u h8=>
 (av.ok [(a5.add 4,(xn a.ptr a.len a.cap)),(a3.add 4,(xn b.ptr b.len b.cap))] h8)/\
 az xx (qF 40 (xl xt ((b.len:Nat):Int)) (xl xt ((b.len:Nat):Int))) (.one (.sc .slc)) h8 fun w U=>
 (av.ok [(a5.add 4,(xn a.ptr a.len a.cap)),(a3.add 4,(xn b.ptr b.len b.cap))] U)/\
 ∃L:Addr,(c=some L)/\
 ag xx (qf 40 (xo (some (L.add 9))) (xn w.ptr w.len w.cap)) U fun _ J=>
 (av.ok [] J)/\
 ∃G:Addr,(c=some G)/\
 ag xx (qf 40 (xo (some (G.add 10))) (xn u.ptr u.len u.cap)) J fun _ I=>
 (av.ok [] I)/\
 R () I)) (some s) K:=by
 have V:=H.box 0 rfl;refine⟨s,rfl,v,V.cell rfl,s,rfl,v,V.cell rfl,?_,?_⟩
 ·refine H.make ae bJ fG (by decide) ⟨none,0,0⟩ rfl rfl n n (by rw[l]) (by rw[l]) (ql _) (by omega) fun j M o O m=>?_;have m:=m.bC;have k:=m.box 1 rfl;refine⟨⟨k.cell rfl,k.cell rfl,trivial⟩,s,rfl,?_,?_⟩
  ·refine m.make ae bJ fG (by decide) ⟨none,0,0⟩ rfl rfl n n (by rw[l]) (by rw[l]) (ql _) (by omega) fun d A e D g=>?_;have g:=g.bC;have i:=g.box 2 rfl;refine⟨⟨i.cell rfl,i.cell rfl,trivial⟩,?_⟩;refine g.store ae 2 rfl rfl 9 [j] rfl rfl rfl (by simp[fX]) fun h3 t=>⟨trivial,s,rfl,?_⟩
   refine t.store ae 2 rfl rfl 10 [d] rfl rfl rfl (by simp[fX]) fun q z=>⟨trivial,?_⟩
   exact Q j d q o e (z.bi 4 [2,1,0,3])
  ·refine m.store ae 1 rfl rfl 9 [j] rfl rfl rfl (by simp[fX]) fun A g=>⟨trivial,?_⟩
   refine g.make ae bJ fG (by decide) ⟨none,0,0⟩ rfl rfl n n (by rw[l]) (by rw[l]) (ql _) (by omega) fun d h3 e D t=>⟨trivial,s,rfl,?_⟩
   have t:=t.bC;refine t.store ae 2 rfl rfl 10 [d] rfl rfl rfl (by simp[fX]) fun q z=>⟨trivial,?_⟩
   exact Q j d q o e (z.bi 4 [2,1,0,3])
 ·refine H.make ae bJ fG (by decide) ⟨none,0,0⟩ rfl rfl n n (by rw[l]) (by rw[l]) (ql _) (by omega) fun d M o O m=>?_;have m:=m.bC;have k:=m.box 1 rfl;refine⟨⟨k.cell rfl,k.cell rfl,trivial⟩,?_⟩;refine m.make ae bJ fG (by decide) ⟨none,0,0⟩ rfl rfl n n (by rw[l]) (by rw[l]) (ql _) (by omega) fun j A e D g=>?_;have g:=g.bC;have i:=g.box 2 rfl;refine⟨⟨i.cell rfl,i.cell rfl,trivial⟩,s,rfl,?_⟩;refine g.store ae 2 rfl rfl 9 [j] rfl rfl rfl (by simp[fX]) fun h3 t=>⟨trivial,s,rfl,?_⟩
  refine t.store ae 2 rfl rfl 10 [d] rfl rfl rfl (by simp[fX]) fun q z=>⟨trivial,?_⟩
  exact Q j d q e o (z.bi 4 [2,0,1,3])
end
section
variable {B:aB} {h0 h:Heap} {As:List HP}
theorem Zp(n nd w:Nat)(d:aC):(fF n nd w d).1.length=n/\(fF n nd w d).2.length=n:=by
 unfold fF;have:∀(l:List (Int×Nat)) (s:aS×aS),(l.foldl (fun s p=>(s.1.set p.1.toNat (nF nd p.2),s.2.set p.1.toNat (aN w))) s).1.length=s.1.length/\(l.foldl (fun s p=>(s.1.set p.1.toNat (nF nd p.2),s.2.set p.1.toNat (aN w))) s).2.length=s.2.length:=by
  intro l
  induction l with
  |nil=>intro s;exact⟨rfl,rfl⟩
  |cons a l ih=>intro s;rw[zE];have:=ih (s.1.set a.1.toNat (nF nd a.2),s.2.set a.1.toNat (aN w));simpa using this
 have:=this d.zipIdx (qg n [],qg n []);simpa using this
abbrev Told(s f:Addr)(p:Int×Int×Int)(v r d e h b a:Sl)(i c:List Sl)(g:List (Sl×Row)):List HP:=[SA s (fX f p v r d e h b a),HA b i,HA a c,kp g]
theorem WL(s f:Addr)(p:Int×Int×Int)(v r st P lf wa L:Sl)(I mr:List Sl)(pl:List (Sl×Row))(c:Int)(nd w:Nat)(H:aa B h0 h (Told s f p v r st P lf wa L I mr pl++As))(ay:0<=c)(hw:c.toNat<I.length)(Z:c.toNat<mr.length)(Y:p.2.2=w)(hd:P.len=nd)(a0:nd<=64)(V:w<=2^20){K:Unit->Heap->Prop}
  (hk:∀a b h',aa B h0 h' (RA a (aN nd)::RA b (aN w)::(Told s f p v r st P lf wa L (I.set c.toNat a) (mr.set c.toNat b) pl++As))->K () h'):(fun(R:aO) (K3:Unit->Heap->Prop)=>
 ∃o:Addr,(R=some o)/\
 ∃g:Sl,cellOf h (o.add 9)=some (xn g.ptr g.len g.cap)/\
 ∃a25:Addr,(R=some a25)/\
 ∃d:Sl,cellOf h (a25.add 10)=some (xn d.ptr d.len d.cap)/\
 ∃O:Addr,(R=some O)/\
 ∃j:Int,cellOf h ((O.add 1).add 2)=some (xl xt j)/\
 (az xx (qF 35 (xl xt ((P.len:Nat):Int)) (xl xt ((P.len:Nat):Int))) (.one (.sc .slc)) h fun l M=>
 (av.ok [((O.add 1).add 2,(xl xt j)),(a25.add 10,(xn d.ptr d.len d.cap)),(o.add 9,(xn g.ptr g.len g.cap))] M)/\
 ∃T:Addr,(g.ptr=some T/\0<=c/\c<((g.len:Nat):Int))/\
 (az xx (qF 35 (xl xt j) (xl xt j)) (.one (.sc .slc)) M fun W ab=>
 (av.ok [(a25.add 10,(xn d.ptr d.len d.cap)),(o.add 9,(xn g.ptr g.len g.cap))] ab)/\
 ag xx (qf 35 (xo (some (T.add (c.toNat*1)))) (xn l.ptr l.len l.cap)) ab fun _ t=>
 (av.ok [] t)/\
 ∃z:Addr,(d.ptr=some z/\0<=c/\c<((d.len:Nat):Int))/\
 ag xx (qf 35 (xo (some (z.add (c.toNat*1)))) (xn W.ptr W.len W.cap)) t fun _ u=>
 (av.ok [] u)/\
 K3 () u)/\(ag xx (qf 35 (xo (some (T.add (c.toNat*1)))) (xn l.ptr l.len l.cap)) M fun _ E=>
 (av.ok [] E)/\
 az xx (qF 35 (xl xt j) (xl xt j)) (.one (.sc .slc)) E fun k A=>
 (av.ok [] A)/\
 ∃F:Addr,(d.ptr=some F/\0<=c/\c<((d.len:Nat):Int))/\
 ag xx (qf 35 (xo (some (F.add (c.toNat*1)))) (xn k.ptr k.len k.cap)) A fun _ D=>
 (av.ok [] D)/\
 K3 () D))/\(az xx (qF 35 (xl xt j) (xl xt j)) (.one (.sc .slc)) h fun S ah=>
 (av.ok [(a25.add 10,(xn d.ptr d.len d.cap)),(o.add 9,(xn g.ptr g.len g.cap))] ah)/\
 az xx (qF 35 (xl xt ((P.len:Nat):Int)) (xl xt ((P.len:Nat):Int))) (.one (.sc .slc)) ah fun U am=>
 (av.ok [(a25.add 10,(xn d.ptr d.len d.cap)),(o.add 9,(xn g.ptr g.len g.cap))] am)/\
 ∃ax:Addr,(g.ptr=some ax/\0<=c/\c<((g.len:Nat):Int))/\
 ag xx (qf 35 (xo (some (ax.add (c.toNat*1)))) (xn U.ptr U.len U.cap)) am fun _ ad=>
 (av.ok [] ad)/\
 ∃ap:Addr,(d.ptr=some ap/\0<=c/\c<((d.len:Nat):Int))/\
 ag xx (qf 35 (xo (some (ap.add (c.toNat*1)))) (xn S.ptr S.len S.cap)) ad fun _ ao=>
 (av.ok [] ao)/\
 K3 () ao)) (some s) K:=by
 have hb:=H.box 0 rfl;have mk:∀{X:Heap} {Cs:List HP} (m:Nat) (Z:m<=2^20) {z1 z2:Int},z1=(m:Int)->z2=(m:Int)->aa B h0 X Cs->∀{K:Sl->Heap->Prop},(∀a h',aa B h0 h' (RA a (aN m)::Cs)->K a h')->
   az xx (qF 35 (xl xt z1) (xl xt z2)) (.one (.sc .slc)) X K:=by
  intro X Cs m Z z1 z2 e1 e2 G K hK;subst e1;subst e2;exact G.make ae aE ga (by decide) 0 rfl rfl m m rfl rfl (ql _) (by omega) fun a h' _ _ H'=>hK a h' H'.bC
 refine⟨s,rfl,wa,hb.cell rfl,s,rfl,L,hb.cell rfl,s,rfl,p.2.2,show cellOf h (s.add 3)=_ from hb.cell rfl,?_,?_⟩
 ·refine mk nd (by omega) (by rw[hd]) (by rw[hd]) H fun a X G=>?_;have n:=G.box 1 rfl;refine⟨⟨show cellOf X (s.add 3)=_ from n.cell rfl,n.cell rfl,n.cell rfl,trivial⟩,?_⟩;have q:∀{h2:Heap} {Cs:List HP} {I:List Sl} (i:Nat) (a:Sl) {s':Sl},aa B h0 h2 Cs->Cs[i]?=some (HA s' I)->c.toNat<I.length->∀{K:Heap->Prop},(∀h',aa B h0 h' (Cs.set i (HA s' (I.set c.toNat a)))->K h')->∃x:Addr,(s'.ptr=some x/\0<=c/\c<((s'.len:Nat):Int))/\ag xx (qf 35 (xo (some (x.add (c.toNat*1)))) (xn a.ptr a.len a.cap)) h2 fun _ h'=>K h':=by
   intro h2 Cs I i a s' J hi hl K hK;exact J.set ae i hi (fun _=>rfl) rfl c.toNat (by omega) hl a rfl rfl rfl fun h3 N=>hK h3 N
  obtain⟨x,hx,-⟩:=q (K:=fun _=>True) 2 a G rfl hw fun _ _=>trivial;refine⟨x,hx,?_,?_⟩
  ·refine mk w V Y Y G fun b h2 J=>?_;have y:=J.box 2 rfl;refine⟨⟨y.cell rfl,y.cell rfl,trivial⟩,?_⟩;obtain⟨x',Q,hr⟩:=q (K:=fun t=>av.ok [] t/\∃z:Addr,(L.ptr=some z/\0<=c/\c<((L.len:Nat):Int))/\
 ag xx (qf 35 (xo (some (z.add (c.toNat*1)))) (xn b.ptr b.len b.cap)) t fun _ u=>(av.ok [] u)/\K () u) 3 a J rfl hw fun h3 N=>⟨trivial,q 4 b N rfl Z fun h4 H4=>⟨trivial,hk a b h4 (H4.bi 6 [1,0,2,3,4,5])⟩⟩
   have e:x=x':=zM.inj (hx.1.symm.trans Q.1);subst e;exact hr
  ·obtain⟨x',Q,hr⟩:=q (K:=fun E=>av.ok [] E/\az xx (qF 35 (xl xt p.2.2) (xl xt p.2.2)) (.one (.sc .slc)) E fun k A=>
 (av.ok [] A)/\
 ∃F:Addr,(L.ptr=some F/\0<=c/\c<((L.len:Nat):Int))/\
 ag xx (qf 35 (xo (some (F.add (c.toNat*1)))) (xn k.ptr k.len k.cap)) A fun _ D=>
 (av.ok [] D)/\K () D) 2 a G rfl hw fun h3 N=>⟨trivial,mk w V Y Y N fun b h4 H4=>⟨trivial,q 4 b H4 rfl Z fun h5 H5=>⟨trivial,hk a b h5 (H5.bi 6 [1,0,2,3,4,5])⟩⟩⟩
   have e:x=x':=zM.inj (hx.1.symm.trans Q.1);subst e;exact hr
 ·refine mk w V Y Y H fun b X G=>?_;have n:=G.box 1 rfl;refine⟨⟨n.cell rfl,n.cell rfl,trivial⟩,?_⟩;refine mk nd (by omega) (by rw[hd]) (by rw[hd]) G fun a h2 J=>?_;have y:=J.box 2 rfl;refine⟨⟨y.cell rfl,y.cell rfl,trivial⟩,?_⟩;refine J.set ae 3 rfl (fun _=>rfl) rfl c.toNat (by omega) hw a rfl rfl rfl fun h3 N=>⟨trivial,?_⟩
  refine N.set ae 4 rfl (fun _=>rfl) rfl c.toNat (by omega) Z b rfl rfl rfl fun h4 H4=>⟨trivial,hk a b h4 (H4.bi 6 [0,1,2,3,4,5])⟩
end
section
variable {B:aB} {h0 h:Heap} {As:List HP}
theorem Sb{h:Heap}{Cs:List HP}(x:Sl)(m:Row)(nd:Nat)(z:Int)(H:aa B h0 h Cs)(v:z=nd)(w:nd<=64)(E:m.length<=2^20){L L2:av}(A:L.ok h)(p:L2.ok h)(r:St B h0 Cs fun h=>Rd h x 1 aE m){K:Sl->Sl->Heap->Prop}
  (s:∀a b h',aU (fun b=>b<h.size) h h'->aa B h0 h' (RA a (aN nd)::RA b m::Cs)->K a b h'):
  (az xx (qF 35 (xl xt z) (xl xt z)) (.one (.sc .slc)) h fun g e=>
 (av.ok L e)/\
 af xx 206 #[(xn x.ptr x.len x.cap)] (.one (.sc .slc)) e fun l k=>K g l k)/\(af xx 206 #[(xn x.ptr x.len x.cap)] (.one (.sc .slc)) h fun j d=>
 (av.ok L2 d)/\
 az xx (qF 35 (xl xt z) (xl xt z)) (.one (.sc .slc)) d fun o n=>K o j n):=by
 subst v;constructor
 ·refine H.Ki ae aE ga (by decide) 0 rfl rfl nd nd rfl rfl (ql _) (by omega) fun a u _ q c=>⟨jL q A,?_⟩
  have c:=c.bC;refine(fR x m u (r.at [_] c)).mono ?_;rintro _ f ⟨b,rfl,t⟩;exact⟨b,rfl,s a b f (up q t.ai) ((c.cS t).uR)⟩
 ·refine(fR x m h (r.at [] H)).mono ?_;rintro _ u ⟨b,rfl,i⟩;have c:=H.cS i;refine⟨b,rfl,jL i.ai p,?_⟩;refine c.Ki ae aE ga (by decide) 0 rfl rfl nd nd rfl rfl (ql _) (by omega) fun a f _ D y=>?_;exact s a b f (up i.ai D) y.bC
structure lB (pool pl:List (Sl×Row)) (wr mr:List Sl) (W M:aS):Prop where
 sub:∀x∈pool,x∈pl
 way:gO pl id wr W
 more:gO pl id mr M
theorem lB.step{pool f:List (Sl×Row)}{g e:List Sl}{W M:aS}(x:lB pool f g e W M)(c:Nat)(a b:Sl)(l m:Row):lB pool ((b,m)::(a,l)::f) (g.set c a) (e.set c b) (W.set c l) (M.set c m):=
 ⟨fun y d=>by simp[x.sub y d],(x.way.mono fun y d=>by simp[d]).set c (by simp),(x.more.mono fun y d=>by simp[d]).set c (by simp)⟩
theorem WM(s f:Addr)(p:Int×Int×Int)(v r A o E ay a8:Sl)(rr:List (Sl×Sl))(R:List eZ)(ST:List (Int×Int))(D L:aC)(n nd w:Nat)(pool:List (Sl×Row))(H:aa B h0 h (SA s (fX f p v r A o E ay a8)::kp pool::As))(Y:St B h0 As fun h=>WK h f r A o E rr R ST D L)
  (hv:v.len=n) (hn:n<=64) (hp:p.2.2=w) (hw:w<=2^20) (b9:D.length=nd) (ad:nd<=64) (hR:∀e∈R,iy n w e) (hD:∀c∈D,0<=c/\c<(n:Int)) (b1:D.Nodup) (hg:sf (R.map qJ) (·∈D) ST) (ce:ST.length<=2^20) (bl:∀e∈R,e.1.length<=2^20) (bk:(⟨none,0,0⟩,[])∈pool):
  ac xx 235 #[xo (some s)] h fun v' h'=>v'=.tuple #[]/\∃k l z u J,aa B h0 h' (Told s f p v r A o E k l z u J++As)/\lB pool J z u (ST.foldl (gE R nd) (fF n nd w D)).1 (ST.foldl (gE R nd) (fF n nd w D)).2:=by
 refine Ag (some s) ?_;unfold ov;have hb:=H.box 0 rfl;have a9:o.len=nd:=by rw[(Y.at [_,_] H).dead.len,b9]
 refine⟨s,rfl,o,show cellOf h (s.add 7)=_ from hb.cell rfl,?_⟩;refine cl (fun _ h'=>∃k l,k.len=n/\l.len=n/\aa B h0 h' (Told s f p v r A o E k l (qg n ⟨none,0,0⟩) (qg n ⟨none,0,0⟩) pool++As)) ?_ ?_
 ·exact TO (K:=fun _ h'=>∃k l,k.len=n/\l.len=n/\aa B h0 h' (Told s f p v r A o E k l (qg n ⟨none,0,0⟩) (qg n ⟨none,0,0⟩) pool++As)) s f p v r A o E ay a8 n pool H hv hn fun k l h' h1 h2 O=>⟨k,l,h1,h2,O⟩
 rintro-h1 ⟨k,l,cq,c0,H1⟩;have b2:=H1.box 0 rfl;refine⟨s,rfl,o,show cellOf h1 (s.add 7)=_ from b2.cell rfl,?_⟩;refine aw (fun t:Nat×List Sl×List Sl×List (Sl×Row)=>(t.1:Int)) (fun t h'=>t.1<=nd/\aa B h0 h' (Told s f p v r A o E k l t.2.1 t.2.2.1 t.2.2.2++As)/\lB pool t.2.2.2 t.2.1 t.2.2.1 (fF n nd w (D.take t.1)).1 (fF n nd w (D.take t.1)).2) (fun t=>nd-t.1)
  (0,qg n ⟨none,0,0⟩,qg n ⟨none,0,0⟩,pool) rfl ⟨by omega,H1,⟨fun _ h=>h,LV pool bk n,LV pool bk n⟩⟩ ?_
 rintro⟨i,z,u,J⟩ h2 ⟨hi,H2,T2⟩;dsimp only at*;have b5:=Zp n nd w (D.take i);have V:=T2.way.1;have X:=T2.more.1;refine al (fun e=>?_) (fun e=>?_)
 ·have Z:i<nd:=by omega
  have P:=hD _ (qh (show i<D.length by omega));refine(Y.at [_,_,_,_] H2).dead.bx i rfl (by omega) _ rfl ?_;refine cl (fun _ h'=>∃a b,aa B h0 h' (RA a (aN nd)::RA b (aN w)::(Told s f p v r A o E k l (z.set D[i].toNat a) (u.set D[i].toNat b) J++As))) ?_ ?_
  ·exact WL (K:=fun _ h'=>∃a b,aa B h0 h' (RA a (aN nd)::RA b (aN w)::(Told s f p v r A o E k l (z.set D[i].toNat a) (u.set D[i].toNat b) J++As))) s f p v r A o E k l z u J D[i] nd w H2 P.1 (by omega) (by omega) hp a9 ad hw fun a b h' O=>⟨a,b,O⟩
  rintro-h3 ⟨a,b,H3⟩;refine⟨s,rfl,k,(H3.box 2 rfl).cell rfl,?_⟩;refine(H3.seq 3 rfl fun _=>rfl).nL D[i].toNat (by omega) (by simp;omega) ?_;rw[List.getElem_set_self];refine H3.set ae 0 rfl (fun _=>rfl) rfl i rfl (by simp[aN];omega) 1 rfl rfl rfl fun h4 H4=>?_;have H5:=(H4.freeze 0 rfl fun _=>rfl).pool 5 0 (by decide) rfl rfl;have H6:=(H5.freeze 1 rfl fun _=>rfl).pool 5 1 (by decide) rfl rfl;refine⟨(i+1,z.set D[i].toNat a,u.set D[i].toNat b,_),by dsimp only;rw[ak _];rfl,⟨by dsimp only;omega,H6.bi 6 [2,3,4,5],?_⟩,by dsimp only;omega⟩;dsimp only;have e1:D.take (i+1)=D.take i++[D[i]]:=aI _ _;have e2:(D.take i).length=i:=by simp;omega
  rw[e1,Ku,e2];exact T2.step D[i].toNat a b (nF nd i) (aN w)
 have am:i=D.length:=by omega
 subst am;rw[qQ]at T2 b5 V X;refine⟨s,rfl,A,(H2.box 0 rfl).cell rfl,?_⟩;have cf:=(Y.at [_,_,_,_] H2).steps.len;refine aw (fun t:Nat×List Sl×List Sl×List (Sl×Row)=>(t.1:Int)) (fun t h'=>t.1<=ST.length/\aa B h0 h' (Told s f p v r A o E k l t.2.1 t.2.2.1 t.2.2.2++As)/\lB pool t.2.2.2 t.2.1 t.2.2.1 ((ST.take t.1).foldl (gE R nd) (fF n nd w D)).1 ((ST.take t.1).foldl (gE R nd) (fF n nd w D)).2) (fun t=>ST.length-t.1)
  (0,z,u,J) rfl ⟨by simp,H2,T2⟩ ?_
 clear V X T2 H2 hi e;rintro⟨i,z,u,J⟩ h3 ⟨hi,H3,T3⟩;dsimp only at*;obtain⟨dk,-⟩:=MF (nd:=nd) (w:=w) hD b1 D.length (ql _);rw[qQ]at dk;have a6:=Ox (l1:=ST.take i) (l2:=ST.drop i) (by rw[qI];exact hg);obtain⟨bd,-⟩:=Jc hR a6.1 dk;obtain⟨W,hW⟩:∃W,W=((ST.take i).foldl (gE R nd) (fF n nd w D)).1:=⟨_,rfl⟩
 obtain⟨M,hM⟩:∃M,M=((ST.take i).foldl (gE R nd) (fF n nd w D)).2:=⟨_,rfl⟩
 have ah:(ST.take i).foldl (gE R nd) (fF n nd w D)=(W,M):=by rw[hW,hM]
 have I:XX n nd w (fun c=>c∈D∨∃j,(j,c)∈ST.take i) W M:=by rw[hW,hM];exact bd
 rw[<-hW,<-hM]at T3;clear bd hW hM;have ch:=I.wl;have cm:=I.ml;have V:=T3.way.1;have X:=T3.more.1;refine al (fun e=>?_) (fun e=>?_)
 ·have Z:i<ST.length:=by omega
  have ao:=a6.2;rw[qV Z]at ao;obtain⟨row,bs,ax⟩:∃row bs,ST[i]=(row,bs):=⟨_,_,rfl⟩
  rw[ax]at ao;obtain⟨g1,g2,g3,g4,-⟩:=ao;have m:row.toNat<R.length:=by have:=g1.2;rw[qu]at this;omega
  obtain⟨d,T⟩:∃d,d=R[row.toNat]:=⟨_,rfl⟩
  have er:R.getD row.toNat ([],[])=d:=by rw[qe,qd m,T];rfl
  have b0:(R.map qJ).getD row.toNat []=d.1:=by rw[qe,qO,qd m,T];rfl
  rw[b0]at g3 g4;have N:=hR d (T▸qh m);have cr:=bl d (T▸qh m);have cn:=N.cP bs g3;have G3:=Y.at [_,_,_,_] H3;have hF:=G3.rest.2.1;refine G3.steps.dt (g:=fo) i rfl Z ST[i] rfl ?_;rw[ax];refine H3.Fi ae rfl fun a50 h4 P4 H4=>?_;have H4:=H4.bC;refine H4.storeAll ae 0 rfl rfl (fo (row,bs)) rfl rfl rfl rfl fun h5 H5=>?_;have b6:row.toNat<rr.length:=by rw[hF];exact m
  obtain⟨y,hy⟩:∃y,y=rr[row.toNat]:=⟨_,rfl⟩
  have G:∀{h'},nk iV 2 qv h' r rr R->iV.p h' (fun b=>b<h'.size) y d:=fun hh=>by rw[hy,T];exact Fix.row hh m
  refine cl (fun a' h'=>aa B h0 h' (aq a' 263 (qv y)::aq a50 347 (fo (row,bs))::(Told s f p v r A o E k l z u J++As))) ?_ ?_
  ·have a3:=H5.box 1 rfl;have G5:=Y.at [_,_,_,_,_] H5;refine⟨s,rfl,r,a3.cell rfl,row,(H5.box 0 rfl).cell0 rfl,?_⟩;obtain⟨br,ha,x,P,rfl⟩:=G5.rest.1.dt (g:=qv) (i:=row) row.toNat (by omega) b6 y (by rw[hy]) (K:=fun x=>x=y) rfl;refine⟨br,ha,_,P,?_⟩;refine H5.Fi ae rfl fun S h6 P6 H6=>⟨⟨rC P.1 P6,rC P.2.1 P6,rC ((H5.box 0 rfl).cell0 rfl) P6,rC (a3.cell rfl) P6,trivial⟩,?_⟩
   have H6:=H6.bC;refine H6.storeAll ae 0 rfl rfl (qv x) rfl rfl rfl rfl fun h7 H7=>⟨trivial,H7⟩
  intro S h7 H7;refine cl (fun t h'=>aa B h0 h' (RA t.1 (aN nd)::RA t.2 d.2::aq S 263 (qv y)::aq a50 347 (fo (row,bs))::(Told s f p v r A o E k l z u J++As))) ?_ ?_
  ·have a1:=H7.box 0 rfl;refine⟨y.2,a1.cell rfl,?_⟩;exact Sb (L:=[(S.add 1,xn y.2.ptr y.2.len y.2.cap)]) (K:=fun a b h'=>av.ok [] h'/\aa B h0 h' (RA a (aN nd)::RA b d.2::aq S 263 (qv y)::aq a50 347 (fo (row,bs))::(Told s f p v r A o E k l z u J++As))) y.2 d.2 nd _ H7 (by rw[a9]) ad (by rw[N.len];exact hw) ⟨a1.cell rfl,trivial⟩ (L2:=[]) trivial (St.mk' fun h' O=>(G (Y.at [_,_,_,_,_,_] O).rest).2) fun a b h' _ O=>⟨trivial,O⟩
  rintro⟨U,q⟩ h8 H8;dsimp only at H8;refine⟨y.1,(H8.box 2 rfl).cell0 rfl,?_⟩;have cp:=(G (Y.at [_,_,_,_,_,_,_,_] H8).rest).1.len;let F:Nat->aC:=fun j=>(d.1.take j).filter fun c=>!decide (c=bs);refine aw (fun j:Nat=>(j:Int)) (fun j h'=>j<=d.1.length/\aa B h0 h' (RA U (cM W (aN nd) (F j))::RA q (cM M d.2 (F j))::aq S 263 (qv y)::aq a50 347 (fo (row,bs))::(Told s f p v r A o E k l z u J++As))) (fun j=>d.1.length-j) 0 rfl ⟨by omega,by simpa[F,cM]using H8⟩ ?_;rintro j h9 ⟨hj,H9⟩;have told:∀c∈F j,(aA W c.toNat).length=nd/\(aA M c.toNat).length=w:=fun c P=>by
   have a0:=qB.1 P;have hm:=wD a0.1;exact I.rw_ c (g4 c hm (by simpa using a0.2)) (N.cP c hm).1 (N.cP c hm).2
  have a7:(cM W (aN nd) (F j)).length=nd:=jn (by simp[aN]) fun c P=>(told c P).1;have a4:(cM M d.2 (F j)).length=w:=jn N.len fun c P=>(told c P).2;refine al (fun e2=>?_) (fun e2=>?_)
  ·have Q:j<d.1.length:=by omega
   have ap:=N.cP _ (qh Q);refine(G (Y.at [_,_,_,_,_,_,_,_] H9).rest).1.bx j rfl Q _ rfl ?_;refine⟨bs,(H9.box 3 rfl).cell rfl,?_⟩;refine ca (fun a2=>?_) (fun b7=>?_)
   ·have tc:=I.rw_ d.1[j] (g4 _ (qh Q) a2) ap.1 ap.2;refine(GX s f 1 d.1[j] U q k l _ _ z u W M H9 (St.mk' fun h' O=>?_) ap.1 (by omega) (by omega) (by rw[tc.1,a7]) (by rw[tc.2,a4]) (by omega) (by omega)).mono ?_
    ·exact CE.of (O.box 2 rfl) (Y.at [_,_,_,_,_,_] O).field (O.DL 3 5 rfl rfl T3.way) (O.DL 4 5 rfl rfl T3.more)
    rintro _ cc ⟨rfl,ab⟩;have e3:F (j+1)=F j++[d.1[j]]:=by
     simp only[F];rw[je _ _ Q];simp[a2]
    exact⟨(),rfl,j+1,by rw[ak _];rfl,⟨by omega,by rw[e3,sO,sO];exact ab⟩,by omega⟩
   ·have e3:F (j+1)=F j:=by
     simp only[F];rw[je _ _ Q];simp[b7]
    exact⟨j+1,by rw[ak _];rfl,⟨by omega,by rw[e3];exact H9⟩,by omega⟩
  ·have cd:j=d.1.length:=by omega
   subst cd;have a5:=H9.box 3 rfl;have bb:=H9.box 4 rfl;refine⟨s,rfl,k,bb.cell rfl,bs,a5.cell rfl,s,rfl,l,bb.cell rfl,bs,a5.cell rfl,?_⟩;refine H9.set ae 5 rfl (fun _=>rfl) rfl bs.toNat (by omega) (by omega) U rfl rfl rfl fun cc ab=>⟨⟨(ab.box 3 rfl).cell rfl,trivial⟩,?_⟩
   refine ab.set ae 6 rfl (fun _=>rfl) rfl bs.toNat (by omega) (by omega) q rfl rfl rfl fun cs b4=>⟨trivial,?_⟩
   have bq:=(b4.freeze 0 rfl fun _=>rfl).pool 7 0 (by decide) rfl rfl;have b3:=(bq.freeze 1 rfl fun _=>rfl).pool 7 1 (by decide) rfl rfl;refine⟨(i+1,z.set bs.toNat U,u.set bs.toNat q,_),by dsimp only;rw[ak _];rfl,⟨by dsimp only;omega,b3.bi 8 [4,5,6,7],?_⟩,by dsimp only;omega⟩;dsimp only;rw[aI _ _ Z,wN,ah,ax];have e3:[(row,bs)].foldl (gE R nd) (W,M)=(W.set bs.toNat (cM W (aN nd) (F d.1.length)),M.set bs.toNat (cM M d.2 (F d.1.length))):=by
    simp only[zE,List.foldl_nil,gE,er,F,qQ]
   rw[e3];exact T3.step bs.toNat U q _ _
 ·have am:i=ST.length:=by omega
  subst am;rw[qQ]at ah;exact⟨rfl,k,l,z,u,J,H3,by rw[ah];exact T3⟩
end
def jU(nd:Nat)(known:List Bool)(vals:aS)(s:aS×aS)(i:Nat):aS×aS:=
 (s.1.mapIdx fun c r=>if c<i/\known.getD c false=true then aN nd else r,s.2.mapIdx fun c r=>if c<i/\known.getD c false=true then aA vals c else r)
theorem WN(nd:Nat)(known:List Bool)(vals:aS)(s:aS×aS):jU nd known vals s 0=s:=by
 unfold jU;refine yU ?_ ?_<;>refine wk (by simp) fun i b a=>?_<;>simp
theorem Zq(nd:Nat)(known:List Bool)(vals:aS)(s:aS×aS){n:Nat}(a:s.1.length=n)(b:s.2.length=n):jU nd known vals s n=gY nd known vals s:=by
 unfold jU gY;refine yU ?_ ?_<;>refine wk (by simp) fun i a b=>?_<;>simp at a<;>simp[show i<n by omega]
theorem Zr(nd:Nat)(known:List Bool)(vals:aS)(s:aS×aS){i:Nat}(d:known.getD i false=true):jU nd known vals s (i+1)=((jU nd known vals s i).1.set i (aN nd),(jU nd known vals s i).2.set i (aA vals i)):=by
 unfold jU;refine yU ?_ ?_<;>refine wk (by simp) fun j f e=>?_<;>simp only[List.getElem_mapIdx,List.getElem_set]<;>by_cases c:i=j
 ·subst c;rw[if_pos ⟨by omega,d⟩,if_pos rfl]
 ·rw[if_neg c];congr 1;simp only[eq_iff_iff];constructor<;>rintro⟨a,b⟩<;>exact⟨by omega,b⟩
 ·subst c;rw[if_pos ⟨by omega,d⟩,if_pos rfl]
 ·rw[if_neg c];congr 1;simp only[eq_iff_iff];constructor<;>rintro⟨a,b⟩<;>exact⟨by omega,b⟩
theorem abx(nd:Nat)(known:List Bool)(vals:aS)(s:aS×aS){i:Nat}(e:known.getD i false=false):jU nd known vals s (i+1)=jU nd known vals s i:=by
 have c:∀j,(j<i+1/\known.getD j false=true)↔(j<i/\known.getD j false=true):=fun j=>by
  constructor
  ·rintro⟨a,b⟩;by_cases d:j=i
   ·subst d;rw[e]at b;cases b
   ·exact⟨by omega,b⟩
  ·rintro⟨a,b⟩;exact⟨by omega,b⟩
 unfold jU;simp only[c]
section
variable {B:aB} {h0 h:Heap} {As:List HP}
theorem Zs(s f:Addr)(p:Int×Int×Int)(v r L u O J I:Sl)(j g d:List Sl)(l:List (Sl×Row))(known:List Bool)(V W M:aS)(n nd:Nat)(H:aa B h0 h (Told s f p v r L u O J I g d l++HA v j::As))(hn:n<=64)(D:u.len=nd)(ah:nd<=64)(hT:lB l l g d W M)(Q:gO l id j V)(ab:V.length=n)(A:W.length=n)(z:M.length=n)
  (hk:∀(c:Nat) (hc:c<j.length),j[c].ptr.isNone=!(known.getD c false)):
  ac xx 236 #[xo (some s)] h fun v' h'=>v'=.tuple #[]/\∃g d b,aa B h0 h' (Told s f p v r L u O J I g d b++HA v j::As)/\lB l b g d (gY nd known V (W,M)).1 (gY nd known V (W,M)).2:=by
 refine Bo (some s) ?_;unfold pm;have P:=Q.1;have K:v.len=n:=by rw[(H.own 4 rfl).len];omega
 refine⟨s,rfl,v,(H.box 0 rfl).cell rfl,?_⟩;refine aw (fun t:Nat×List Sl×List Sl×List (Sl×Row)=>(t.1:Int)) (fun t h'=>t.1<=n/\aa B h0 h' (Told s f p v r L u O J I t.2.1 t.2.2.1 t.2.2.2++HA v j::As)/\lB l t.2.2.2 t.2.1 t.2.2.1 (jU nd known V (W,M) t.1).1 (jU nd known V (W,M) t.1).2) (fun t=>n-t.1) (0,g,d,l) rfl ⟨by omega,H,by rw[WN];exact hT⟩ ?_;rintro⟨i,g,d,b⟩ h1 ⟨hi,F,k⟩;dsimp only at*;have X:(jU nd known V (W,M) i).1.length=n:=by simp[jU,A]
 have Y:(jU nd known V (W,M) i).2.length=n:=by simp[jU,z]
 have R:=k.way.1;have S:=k.more.1;refine al (fun e=>?_) (fun e=>?_)
 ·have ad:i<n:=by omega
  refine(F.seq 4 rfl fun _=>rfl).nL i rfl (by omega) ?_;have y:=hk i (by omega);refine bh (fun E=>?_) (fun E=>?_)
  ·have m:known.getD i false=true:=by rw[y]at E;simpa using E
   have o:=F.box 0 rfl;refine⟨s,rfl,J,o.cell rfl,s,rfl,I,o.cell rfl,s,rfl,u,show cellOf h1 (s.add 7)=_ from o.cell rfl,?_⟩;refine F.Ki ae aE ga (by decide) 0 rfl rfl nd nd (by rw[D]) (by rw[D]) (ql _) (by omega) fun a Z _ P2 G=>?_;have G:=G.bC;have q:=G.box 1 rfl;refine⟨⟨show cellOf Z (s.add 7)=_ from q.cell rfl,q.cell rfl,q.cell rfl,trivial⟩,?_⟩;refine G.set ae 2 rfl (fun _=>rfl) rfl i rfl (by omega) a rfl rfl rfl fun h3 T=>⟨trivial,?_⟩
   refine T.set ae 3 rfl (fun _=>rfl) rfl i rfl (by omega) (j[i]'(by omega)) rfl rfl rfl fun h4 U=>⟨trivial,?_⟩
   have H5:=(U.freeze 0 rfl fun _=>rfl).pool 4 0 (by decide) rfl rfl;refine⟨(i+1,g.set i a,d.set i (j[i]'(by omega)),_),by dsimp only;rw[ak _];rfl,⟨by dsimp only;omega,H5.bi 5 [1,2,3,4],?_⟩,by dsimp only;omega⟩;dsimp only;rw[Zr nd known V (W,M) m];have hm:((j[i]'(by omega)),aA V i)∈l:=by
    have:=Q.get (i:=i) (by omega);rw[lH (by omega)];exact this
   exact⟨fun x w=>qR _ (k.sub x w),(k.way.mono fun x w=>qR _ w).set i (by simp[aN]),(k.more.mono fun x w=>qR _ w).set i (qR _ (k.sub _ hm))⟩
  ·have m:known.getD i false=false:=by rw[y]at E;simpa using E
   exact⟨(i+1,g,d,b),by dsimp only;rw[ak _];rfl,⟨by dsimp only;omega,F,by dsimp only;rw[abx nd known V (W,M) m];exact k⟩,by dsimp only;omega⟩
 ·have N:i=n:=by omega
  subst N;exact⟨rfl,g,d,b,F,by rw[<-Zq nd known V (W,M) A z];exact k⟩
def mS(nd:Nat)(known:List Bool)(vals W M D:aS)(i:Nat):aS:=vals.mapIdx fun c r=>if c<i/\known.getD c false=false then gu D (aA W c) (aA M c) nd else r
theorem Zt(nd:Nat)(known:List Bool)(vals W M D:aS):mS nd known vals W M D 0=vals:=by
 unfold mS;refine wk (by simp) fun i b a=>?_;simp
theorem aby(nd:Nat)(known:List Bool)(vals W M D:aS){n:Nat}(a:vals.length=n):mS nd known vals W M D n=uY nd known vals W M D:=by
 unfold mS uY;refine wk (by simp) fun i a b=>?_;simp at a;simp only[List.getElem_mapIdx];cases hk:known.getD i false
 ·rw[if_pos ⟨by omega,rfl⟩,if_neg (by simp)]
 ·rw[if_neg (by simp),if_pos rfl]
theorem abz(nd:Nat)(known:List Bool)(vals W M D:aS){i:Nat}(e:known.getD i false=true):mS nd known vals W M D (i+1)=mS nd known vals W M D i:=by
 have c:∀j,(j<i+1/\known.getD j false=false)↔(j<i/\known.getD j false=false):=fun j=>by
  constructor
  ·rintro⟨a,b⟩;by_cases d:j=i
   ·subst d;rw[e]at b;cases b
   ·exact⟨by omega,b⟩
  ·rintro⟨a,b⟩;exact⟨by omega,b⟩
 unfold mS;simp only[c]
theorem adI(nd:Nat)(known:List Bool)(vals W M D:aS){i:Nat}(d:known.getD i false=false):mS nd known vals W M D (i+1)=(mS nd known vals W M D i).set i (gu D (aA W i) (aA M i) nd):=by
 unfold mS;refine wk (by simp) fun j f e=>?_;simp only[List.getElem_mapIdx,List.getElem_set];by_cases c:i=j
 ·subst c;rw[if_pos ⟨by omega,d⟩,if_pos rfl]
 ·rw[if_neg c];congr 1;simp only[eq_iff_iff];constructor<;>rintro⟨a,b⟩<;>exact⟨by omega,b⟩
theorem Zu(s f:Addr)(p:Int×Int×Int)(v r st Y Z Q I dead:Sl)(g A z dr:List Sl)(E:List (Sl×Row))(known:List Bool)(V W M D:aS)(n nd w:Nat)(H:aa B h0 h (Told s f p v r st Y Z Q I A z E++HA v g::As))(hS:St B h0 As fun h=>gN h f/\gT h (fun b=>b<h.size) dead 1 aE D dr)(hn:n<=64)(hw:w<=2^20)(bd:nd<=64)(X:lB E E A z W M)(hV:gO E id g V)(F:V.length=n)(a6:W.length=n)(a9:M.length=n)
  (O:∀c,c<n->(aA W c).length=nd/\(aA M c).length=w) (bk:D.length=nd) (G:bg w D) (hk:∀(c:Nat) (l:c<g.length),g[c].ptr.isNone=!(known.getD c false)):
  ac xx 239 #[xo (some s),dead] h fun v' h'=>v'=.tuple #[]/\∃L a,aa B h0 h' (Told s f p v r st Y Z Q I A z a++HA v L::As)/\gO a id L (uY nd known V W M D):=by
 refine Cf (some s) dead ?_;unfold pU;have a2:=hV.1;have ad:v.len=n:=by rw[(H.own 4 rfl).len];omega
 have a4:=X.way.1;have a5:=X.more.1;refine⟨s,rfl,v,(H.box 0 rfl).cell rfl,?_⟩;refine aw (fun t:Nat×List Sl×List (Sl×Row)=>(t.1:Int)) (fun t h'=>t.1<=n/\aa B h0 h' (Told s f p v r st Y Z Q I A z t.2.2++HA v t.2.1::As)/\gO t.2.2 id t.2.1 (mS nd known V W M D t.1)/\(∀x∈E,x∈t.2.2)/\∀(c:Nat) (l:c<t.2.1.length),t.1<=c->t.2.1[c].ptr.isNone=!(known.getD c false)) (fun t=>n-t.1) (0,g,E) rfl ⟨by omega,H,by rw[Zt];exact hV,fun _ h=>h,fun c l _=>hk c l⟩ ?_;rintro⟨i,g,a⟩ h1 ⟨hi,u,T,d,q⟩;dsimp only at*;have bb:(mS nd known V W M D i).length=n:=by simp[mS,F]
 have a3:=T.1;refine al (fun e=>?_) (fun e=>?_)
 ·have a0:i<n:=by omega
  have J:=u.box 0 rfl;refine⟨s,rfl,v,J.cell rfl,?_⟩;refine(u.seq 4 rfl fun _=>rfl).nL i rfl (by omega) ?_;have N:=q i (by omega) (ql _);refine bh (fun S=>?_) (fun S=>?_)
  ·have o:known.getD i false=true:=by rw[N]at S;simpa using S
   exact⟨(i+1,g,a),by dsimp only;rw[ak _];rfl,⟨by dsimp only;omega,u,by dsimp only;rw[abz nd known V W M D o];exact T,d,fun c l h=>q c l (by dsimp only at h;omega)⟩,by dsimp only;omega⟩
  have o:known.getD i false=false:=by rw[N]at S;simpa using S
  have ap:=O i a0;have ab:((z[i]'(by omega)),aA M i)∈a:=by
   have:=(X.more.mono d).get (i:=i) (by omega);rw[lH (by omega)];exact this
  have P:((A[i]'(by omega)),aA W i)∈a:=by
   have:=(X.way.mono d).get (i:=i) (by omega);rw[lH (by omega)];exact this
  refine⟨s,rfl,I,J.cell rfl,?_⟩;refine(u.seq 2 rfl fun _=>rfl).nL i rfl (by omega) ?_;refine(fR _ (aA M i) h1 (u.LQ 3 rfl ab)).mono ?_;rintro _ h2 ⟨b,rfl,R2⟩;have U:=u.cS R2;have am:=U.box 1 rfl;refine⟨b,rfl,s,rfl,Q,am.cell rfl,?_⟩;refine(U.seq 2 rfl fun _=>rfl).nL i rfl (by omega) ?_;have ax:=(U.LQ 4 rfl P).len;refine aw (fun j:Nat=>(j:Int)) (fun j h'=>j<=nd/\aa B h0 h' (RA b (gu D (aA W i) (aA M i) j)::(Told s f p v r st Y Z Q I A z a++HA v g::As))) (fun j=>nd-j) 0 rfl ⟨by omega,U⟩ ?_;rintro j h3 ⟨hj,K⟩;refine al (fun e3=>?_) (fun e3=>?_)
  ·have a8:j<nd:=by omega
   have y:j<(aA W i).length:=by omega
   refine(K.LQ 4 rfl P).bx j rfl y _ rfl ?_;obtain⟨S1,S2⟩:=hS.at [_,_,_,_,_,_] K;have a7:=S2.len;refine S2.top.nL j rfl (by omega) ?_;have ay:(D[j]'(by omega)).length=w:=G _ (qh _);have R:(aA W i)[j]'y=aQ (aA W i) j:=by rw[aQ,qe,qd y];rfl
   have a1:(gu D (aA W i) (aA M i) j).length=w:=kV _ ap.2 fun k hk=>cj G;rw[R];refine GW s f (aQ (aA W i) j) (dr[j]'(by omega)) b (D[j]'(by omega)) _ K (St.mk' fun h' H'=>?_) (by rw[ay,a1]) (by omega) fun h4 H4=>?_
   ·obtain⟨q1,q2⟩:=hS.at [_,_,_,_,_] H';exact⟨(H'.box 0 rfl).cell0 rfl,q1,q2.row _ _ _ (qd _) (qd _)⟩
   ·refine⟨j+1,by rw[ak _];rfl,⟨by omega,?_⟩,by omega⟩;rw[gu,lH (m:=D) (i:=j) (by omega)];exact H4
  ·have ah:j=nd:=by omega
   subst ah;refine⟨s,rfl,v,(K.box 1 rfl).cell rfl,?_⟩;refine K.set ae 5 rfl (fun _=>rfl) rfl i rfl (by omega) b rfl rfl rfl fun h4 H4=>?_;have H5:=(H4.freeze 0 rfl fun _=>rfl).pool 4 0 (by decide) rfl rfl;refine⟨(i+1,g.set i b,_),by dsimp only;rw[ak _];rfl,⟨by dsimp only;omega,H5.bi 6 [1,2,3,4,5],?_,fun x hx=>qR _ (d x hx),fun c l h=>?_⟩,by dsimp only;omega⟩
   ·dsimp only;rw[adI j known V W M D o];exact(T.mono fun x hx=>qR _ hx).set i (by simp)
   ·dsimp only at l h⊢;rw[List.getElem_set_ne (by omega)];exact q c (by simpa using l) (by omega)
 ·have ao:i=n:=by omega
  subst ao;exact⟨rfl,g,a,u,by rw[<-aby nd known V W M D F];exact T⟩
end
section
variable {B:aB} {h0 h:Heap} {As:List HP}
abbrev MA(s:Sl)(m:aS):HP:=fS 35 s 1 aE m
abbrev Se:iJ Sl Row:=aef (gr 1 aE) fun r _=>r.len<=r.cap
abbrev CA(s:Sl)(m:aS):HP:=cx 35 s 1 bJ Se m
theorem aa.Zv{e:Nat}{s:Sl}{l:Row}(H:aa B h0 h As)(i:Nat)(c:As[i]?=some (ar e s 1 aE l)):aa B h0 h (As.set i (EA Se s l)):=
 H.fO i c fun _ ⟨a,b⟩=>⟨a.seq (fun _=>rfl) b,a.cap⟩
theorem WO(s f:Addr)(p:Int×Int×Int)(v r U J Q N I:Sl)(o m:List Sl)(O:List (Sl×Row))(rr:List (Sl×Sl))(R:List eZ)(ST:List (Int×Int))(D L:aC)(W M:aS)(n nd w:Nat)(H:aa B h0 h (Told s f p v r U J Q N I o m O++As))(hS:St B h0 As fun h=>WK h f r U J Q rr R ST D L)
  (hn:n=p.1.toNat+p.2.1.toNat) (hp:p.2.2=w) (hw:w<=2^20) (ay:bL p=true) (b3:D.length=nd) (bk:nd<=64) (hR:∀e∈R,iy n w e) (bl:∀e∈R,e.1.length<=2^20) (hL:∀i∈L,0<=i/\i<(R.length:Int)) (ch:L.length<=2^20) (hT:lB O O o m W M) (b9:W.length=n) (cd:M.length=n)
  (E:∀c,c<n->(aA W c).length=nd/\(aA M c).length=w):
  ac xx 237 #[xo (some s)] h fun v' h'=>∃a b:Sl,v'=.tuple #[a,b]/\aa B h0 h' (MA a (dm n nd R W L (bz p.1.toNat p.2.1.toNat))::CA b (fj n w R M L (bz p.1.toNat p.2.1.toNat))::(Told s f p v r U J Q N I o m O++As)):=by
 refine Ah (some s) ?_;unfold ow;have hb:=H.box 0 rfl;have ad:J.len=nd:=by rw[(hS.at [_,_,_,_] H).dead.len,b3]
 have cn:=(bM p).1 ay;have b6:=hT.way.1;have b7:=hT.more.1;refine⟨s,rfl,J,show cellOf h (s.add 7)=_ from hb.cell rfl,s,rfl,Q,show cellOf h (s.add 8)=_ from hb.cell rfl,?_⟩;have cf:=(hS.at [_,_,_,_] H).left.len;have a0:∀{h':Heap} {Cs:List HP},aa B h0 h' (Cs++(Told s f p v r U J Q N I o m O++As))->aa B h0 h' (Told s f p v r U J Q N I o m O++As):=fun{h' Cs} T=>T.take Cs.length fun i A hi=>by
  rw[qj (by omega),Nat.add_sub_cancel_left];exact hi
 have SR:∀{h':Heap},aa B h0 h' (Told s f p v r U J Q N I o m O++As)->CE h' s f N I o m W M:=fun T=>CE.of (T.box 0 rfl) (hS.at [_,_,_,_] T).field (T.DL 1 3 rfl rfl hT.way) (T.DL 2 3 rfl rfl hT.more);let rA:Int->Row:=fun i=>cM W (aN nd) (R.getD i.toNat ([],[])).1;let rB:Int->Row:=fun i=>cM M (R.getD i.toNat ([],[])).2 (R.getD i.toNat ([],[])).1;have H0:aa B h0 h (MA ⟨none,0,0⟩ []::CA ⟨none,0,0⟩ []::(Told s f p v r U J Q N I o m O++As)):=((H.My 35 1 bJ Se).bC.Kb 35 1 aE).bC;refine aw (fun t:Nat×Sl×Sl=>(t.2.1,t.2.2,(t.1:Int))) (fun t h'=>t.1<=L.length/\aa B h0 h' (MA t.2.1 ((L.take t.1).map rA)::CA t.2.2 ((L.take t.1).map rB)::(Told s f p v r U J Q N I o m O++As))) (fun t=>L.length-t.1) (0,⟨none,0,0⟩,⟨none,0,0⟩) rfl ⟨by simp,H0⟩ ?_;rintro⟨i,a,b⟩ h1 ⟨hi,H1⟩;dsimp only at*;refine al (fun e=>?_) (fun e=>?_)
 ·have G:i<L.length:=by omega
  have G1:=hS.at [_,_,_,_,_,_] H1;refine G1.left.bx i rfl G _ rfl ?_;have hx:=hL _ (qh G);generalize b0:L[i]=x at hx⊢;have F:x.toNat<R.length:=by omega
  obtain⟨l,ap⟩:∃l,l=R[x.toNat]:=⟨_,rfl⟩
  have er:R.getD x.toNat ([],[])=l:=by rw[qe,qd F,ap];rfl
  have ax:=hR l (ap▸qh F);have cm:=bl l (ap▸qh F);have hF:=G1.rest.2.1;have a9:x.toNat<rr.length:=by rw[hF];exact F
  obtain⟨y,hy⟩:∃y,y=rr[x.toNat]:=⟨_,rfl⟩
  have S:∀{h'},nk iV 2 qv h' r rr R->iV.p h' (fun b=>b<h'.size) y l:=fun hh=>by rw[hy,ap];exact Fix.row hh F
  refine cl (fun t h'=>aa B h0 h' (RA t.1 (aN nd)::RA t.2 l.2::MA a ((L.take i).map rA)::CA b ((L.take i).map rB)::(Told s f p v r U J Q N I o m O++As))) ?_ ?_
  ·have ao:=H1.box 2 rfl;refine⟨s,rfl,r,ao.cell rfl,?_⟩;obtain⟨bb,ha,z,hc,rfl⟩:=G1.rest.1.dt (g:=qv) (i:=x) x.toNat (by omega) a9 y (by rw[hy]) (K:=fun z=>z=y) rfl;refine⟨bb,ha,z.2,hc.2.1,?_⟩;have a1:av.ok [(s.add 5,xn r.ptr r.len r.cap)] h1:=⟨ao.cell rfl,trivial⟩
   exact Sb (L:=[((bb.add (x.toNat*2)).add 1,xn z.2.ptr z.2.len z.2.cap),(s.add 5,xn r.ptr r.len r.cap)]) (L2:=[(s.add 5,xn r.ptr r.len r.cap)]) (K:=fun a' b' h'=>av.ok [(s.add 5,xn r.ptr r.len r.cap)] h'/\aa B h0 h' (RA a' (aN nd)::RA b' l.2::MA a ((L.take i).map rA)::CA b ((L.take i).map rB)::(Told s f p v r U J Q N I o m O++As)))
    z.2 l.2 nd _ H1 (by rw[ad]) bk (by rw[ax.len];exact hw) ⟨hc.2.1,a1⟩ a1 (St.mk' fun h' T=>(S (hS.at [_,_,_,_,_,_] T).rest).2) fun a b h' P T=>⟨jL P a1,T⟩
  rintro⟨am,u⟩ h2 H2;dsimp only at H2;have G2:=hS.at [_,_,_,_,_,_,_,_] H2;refine⟨s,rfl,r,(H2.box 4 rfl).cell rfl,?_⟩;obtain⟨bq,ha,z,hc,rfl⟩:=G2.rest.1.dt (g:=qv) (i:=x) x.toNat (by omega) a9 y (by rw[hy]) (K:=fun z=>z=y) rfl;refine⟨bq,ha,z.1,hc.1,?_⟩;have b1:=(S G2.rest).1.len;refine aw (fun j:Nat=>(j:Int)) (fun j h'=>j<=l.1.length/\aa B h0 h' (RA am (cM W (aN nd) (l.1.take j))::RA u (cM M l.2 (l.1.take j))::MA a ((L.take i).map rA)::CA b ((L.take i).map rB)::(Told s f p v r U J Q N I o m O++As))) (fun j=>l.1.length-j) 0 rfl ⟨by omega,by simpa[cM]using H2⟩ ?_;rintro j h3 ⟨hj,X⟩;have told:∀c∈l.1.take j,(aA W c.toNat).length=nd/\(aA M c.toNat).length=w:=fun c hc=>by
   have cc:=ax.cP c (wD hc);exact E c.toNat (by omega)
  have ab:(cM W (aN nd) (l.1.take j)).length=nd:=jn (by simp[aN]) fun c hc=>(told c hc).1;have Z:(cM M l.2 (l.1.take j)).length=w:=jn ax.len fun c hc=>(told c hc).2;refine al (fun e2=>?_) (fun e2=>?_)
  ·have Y:j<l.1.length:=by omega
   have b4:=ax.cP _ (qh Y);refine(S (hS.at [_,_,_,_,_,_,_,_] X).rest).1.bx j rfl Y _ rfl ?_;have tc:=E l.1[j].toNat (by omega);refine(GX s f 1 l.1[j] am u N I _ _ o m W M X (St.mk' fun h' T=>SR (a0 (Cs:=[_,_]) T)) b4.1 (by omega) (by omega) (by rw[tc.1,ab]) (by rw[tc.2,Z]) (by omega) (by omega)).mono ?_;rintro _ h4 ⟨rfl,V⟩;exact⟨(),rfl,j+1,by rw[ak _];rfl,⟨by omega,by rw[aI _ _ Y,sO,sO];exact V⟩,by omega⟩
  ·have a4:j=l.1.length:=by omega
   subst a4;rw[qQ]at X;have V:=aa.Zv (X.freeze 0 rfl fun _=>rfl) 1 rfl;refine V.uw ae 2 0 (by decide) rfl rfl fG (by simp;omega) fun a' h5 H5=>?_;refine H5.CR ae 3 1 (by decide) rfl rfl fG rfl (by decide) (fun _=>rfl) lY rfl (by decide) (by simp;omega) fun b' h6 H6=>?_;refine⟨(i+1,a',b'),by dsimp only;rw[ak _];rfl,⟨by dsimp only;omega,?_⟩,by dsimp only;omega⟩;dsimp only;rw[aI _ _ G,qT,qT,b0];have e3:[x].map rA=[cM W (aN nd) l.1]:=by simp only[zV,vj,rA,er]
   have e4:[x].map rB=[cM M l.2 l.1]:=by simp only[zV,vj,rB,er]
   rw[e3,e4];exact H6.bi 8 [2,3,4,5,6,7]
 have a3:i=L.length:=by omega
 subst a3;rw[qQ]at H1;have ao:=H1.box 2 rfl;refine⟨s,rfl,p,ao.cells 1 _ rfl,(EC p h1).mono ?_⟩;rintro _ h2 ⟨q,rfl,R2⟩;rw[ay,if_pos rfl]at R2;obtain⟨d,a7⟩:∃d,d=bz p.1.toNat p.2.1.toNat:=⟨_,rfl⟩
 have b5:d.length=p.2.1.toNat:=by rw[a7];simp[bz]
 have a8:∀x∈d,x.length=n:=fun x hx=>by rw[hn];exact Kr _ _ x (a7▸hx)
 rw[<-a7]at R2⊢;have H2:=(H1.cS R2).Vl 0 rfl;obtain⟨qr,H2⟩:=H2.IU 0 rfl fun _=>rfl;have cp:=(H2.dV 0 rfl).1.len;have ce:=(H2.dV 0 rfl).2.1;refine⟨q,rfl,?_⟩;let a5:Row->Row:=fun x=>gu W x (aN nd) n;let a6:Row->Row:=fun x=>gu M x (aN w) n;refine aw (fun t:Nat×Sl×Sl=>(t.2.1,t.2.2,(t.1:Int))) (fun t h'=>t.1<=d.length/\aa B h0 h' (cu (gr 1 aE) 1 bJ q qr d::MA t.2.1 (L.map rA++(d.take t.1).map a5)::CA t.2.2 (L.map rB++(d.take t.1).map a6)::(Told s f p v r U J Q N I o m O++As))) (fun t=>d.length-t.1) (0,a,b) rfl ⟨by simp,by simpa using H2⟩ ?_;rintro⟨i,a,b⟩ h3 ⟨hi,X⟩;dsimp only at*;refine al (fun e=>?_) (fun e=>?_)
 ·have G:i<d.length:=by omega
  have b2:=a8 _ (qh G);have F3:=X.dV 0 rfl;refine F3.1.nL i rfl (by omega) ?_;have b1:(qr[i]'(by omega)).len=n:=by rw[(Fix.row F3 G).len,b2]
  refine cl (fun t h'=>aa B h0 h' (RA t.1 (aN nd)::RA t.2 (aN w)::cu (gr 1 aE) 1 bJ q qr d::MA a (L.map rA++(d.take i).map a5)::CA b (L.map rB++(d.take i).map a6)::(Told s f p v r U J Q N I o m O++As))) ?_ ?_
  ·have br:=X.box 3 rfl;refine⟨s,rfl,p.2.2,show cellOf h3 (s.add 3)=_ from br.cell rfl,?_,?_⟩
   ·refine X.make ae aE ga (by decide) 0 rfl rfl nd nd (by rw[ad]) (by rw[ad]) (ql _) (by omega) fun x h4 _ _ V=>?_;have V:=V.bC;refine⟨⟨show cellOf h4 (s.add 3)=_ from(V.box 4 rfl).cell rfl,trivial⟩,?_⟩;refine V.make ae aE ga (by decide) 0 rfl rfl w w hp hp (ql _) (by omega) fun y h5 _ _ H5=>⟨trivial,H5.bC.uR⟩
   ·refine X.make ae aE ga (by decide) 0 rfl rfl w w hp hp (ql _) (by omega) fun y h4 _ _ V=>⟨trivial,?_⟩
    refine V.bC.make ae aE ga (by decide) 0 rfl rfl nd nd (by rw[ad]) (by rw[ad]) (ql _) (by omega) fun x h5 _ _ H5=>⟨trivial,H5.bC⟩
  rintro⟨am,u⟩ h4 V;dsimp only at V⊢;refine aw (fun j:Nat=>(j:Int)) (fun j h'=>j<=n/\aa B h0 h' (RA am (gu W d[i] (aN nd) j)::RA u (gu M d[i] (aN w) j)::cu (gr 1 aE) 1 bJ q qr d::MA a (L.map rA++(d.take i).map a5)::CA b (L.map rB++(d.take i).map a6)::(Told s f p v r U J Q N I o m O++As))) (fun j=>n-j) 0 rfl ⟨by omega,V⟩ ?_;rintro j h5 ⟨hj,H5⟩;have ab:(gu W d[i] (aN nd) j).length=nd:=kV _ (by simp[aN]) fun k hk=>(E k (by omega)).1;have Z:(gu M d[i] (aN w) j).length=w:=kV _ (by simp[aN]) fun k hk=>(E k (by omega)).2;refine al (fun e2=>?_) (fun e2=>?_)
  ·have Y:j<n:=by omega
   have a2:j<d[i].length:=by omega
   refine(Fix.row (H5.dV 2 rfl) G).bx j rfl a2 _ rfl ?_;have bd:d[i][j]'a2=aQ d[i] j:=by rw[aQ,qe,qd a2];rfl
   rw[bd];have tc:=E j Y;refine(GX s f (aQ d[i] j) (j:Int) am u N I _ _ o m W M H5 (St.mk' fun h' T=>SR (a0 (Cs:=[_,_,_]) T)) (by omega) (by omega) (by omega) (by rw[qo,tc.1,ab]) (by rw[qo,tc.2,Z]) (by omega) (by omega)).mono ?_;rintro _ h6 ⟨rfl,H6⟩;rw[qo]at H6;exact⟨(),rfl,j+1,by rw[ak _];rfl,⟨by omega,H6⟩,by omega⟩
  ·have a4:j=n:=by omega
   subst a4;have H6:=aa.Zv (H5.freeze 0 rfl fun _=>rfl) 1 rfl;refine H6.uw ae 3 0 (by decide) rfl rfl fG (by simp;omega) fun a' h7 H7=>?_;refine H7.CR ae 4 1 (by decide) rfl rfl fG rfl (by decide) (fun _=>rfl) lY rfl (by decide) (by simp;omega) fun b' h8 H8=>?_;refine⟨(i+1,a',b'),by dsimp only;rw[ak _];rfl,⟨by dsimp only;omega,?_⟩,by dsimp only;omega⟩;dsimp only;rw[aI _ _ G,qT,qT,<-qp,<-qp];exact H8.bi 9 [2,3,4,5,6,7,8]
 ·have a3:i=d.length:=by omega
  subst a3;rw[qQ]at X;exact⟨a,b,rfl,X.rest⟩
end
section
variable {B:aB} {h0 h:Heap} {As:List HP}
abbrev afe:bW C.toBE 265 347 2 [xl xt 0,xl xt 0] 16:=⟨_,_,rfl,rfl,rfl,rfl,rfl,rfl⟩
theorem TP(s:Sl)(l:List (Int×Int))(b:FuncId)(a:Array Value)(g:Int×Int->Bool)(Q:Heap->Prop)(y:C.fns[b]?=some true)(u:St B h0 As Q)(o:∀x h',Q h'->ac xx b ([Value.agg #[xl xt x.1,xl xt x.2]]++a.toList).toArray h' fun v r=>v=xq (g x)/\Sp h' r [])(H:aa B h0 h (ar 347 s 2 fo l::As))(E:l.length<=2^20):
  ac xx 384 #[s,.func (.func b) #[] a] h fun v h'=>v=xl xt (if l.findIdx g<l.length then(l.findIdx g:Int)else-1)/\aa B h0 h' (ar 347 s 2 fo l::As):=by
 refine lJ s (b,#[],a) ?_;unfold iz;have z:=(H.own 0 rfl).len;refine aw (fun i:Nat=>(i:Int)) (fun i h'=>aa B h0 h' (ar 347 s 2 fo l::As)/\i<=l.length/\∀j (n:j<l.length),j<i->g l[j]=false) (fun i=>l.length-i) 0 rfl ⟨H,by omega,fun j _ n=>by omega⟩ ?_;rintro i A ⟨m,F,d⟩;refine al (fun e=>?_) (fun e=>?_)
 ·have c:i<l.length:=by omega
  refine(m.seq 0 rfl fun _=>rfl).dt (g:=fo) i rfl c l[i] rfl ?_;refine ee y ?_;refine(o l[i] A (u.at [_] m)).mono ?_;rintro _ D ⟨rfl,t⟩;refine⟨_,rfl,bw (fun p=>?_) (fun p=>?_)⟩
  ·rw[xE c d p,if_pos c];exact⟨rfl,m.up t.ai⟩
  ·refine⟨i+1,by rw[ak _];rfl,⟨m.up t.ai,by omega,fun j n q=>?_⟩,by omega⟩;rcases zk.1 q with h3|rfl
   ·exact d j n h3
   ·exact p
 ·have k:¬l.findIdx g<l.length:=by
   rw[wZ];rintro⟨x,w,f⟩;obtain⟨j,n,rfl⟩:=qH w;rw[d j n (by omega)]at f;cases f
  rw[if_neg k];exact⟨rfl,m⟩
theorem Sf(s:Sl)(l:List (Int×Int))(b:FuncId)(a:Array Value)(g:Int×Int->Bool)(Q:Heap->Prop)(A:C.fns[b]?=some true)(z:St B h0 As Q)(m:∀x h',Q h'->ac xx b ([Value.agg #[xl xt x.1,xl xt x.2]]++a.toList).toArray h' fun v w=>v=xq (g x)/\Sp h' w [])(H:aa B h0 h (ar 347 s 2 fo l::As))(I:l.length<=2^20):
  ac xx 309 #[s,.func (.func b) #[] a] h fun v h'=>∃r:Sl,v=r/\aa B h0 h' (ar 347 r 2 fo (l.filter fun x=>!g x)::As):=by
 refine lu s (b,#[],a) ?_;unfold ik;refine(TP s l b a g Q A z m H I).mono ?_;rintro _ S ⟨rfl,E⟩;have L:=(H.own 0 rfl).len;have N:=(H.own 0 rfl).cap;refine⟨_,rfl,cI (fun e=>?_) (fun e=>?_)⟩
 ·have p:¬l.findIdx g<l.length:=fun n=>by rw[if_pos n]at e;omega
  exact⟨s,rfl,by rw[filter_all p];exact E⟩
 ·have d:l.findIdx g<l.length:=by
   by_cases n:l.findIdx g<l.length
   ·exact n
   ·rw[if_neg n]at e;exact absurd rfl e
  rw[if_pos d];refine aw (fun t:Nat×Nat×List (Int×Int)=>((t.1:Int),(t.2.1:Int))) (fun t h'=>ko g l t.2.2 t.1 t.2.1/\t.2.1<=l.length/\aa B h0 h' (ar 347 s 2 fo t.2.2::As)) (fun t=>l.length-t.2.1) (l.findIdx g,l.findIdx g+1,l) (by rw[ak _];rfl) ⟨ko.start d rfl,by dsimp only;omega,E⟩ ?_;rintro⟨i,j,F⟩ O ⟨M2,R,u⟩;dsimp only at*;have M:=M2.len;have J:=M2.le;refine al (fun K=>?_) (fun K=>?_)
  ·have f:j<l.length:=by omega
   refine(u.seq 0 rfl fun _=>rfl).dt (g:=fo) j rfl (by omega) l[j] (by rw[M2.at_ f]) ?_;refine u.alloc ae rfl fun a5 h3 c=>?_;have c:=c.bC;refine c.storeAll ae 0 rfl rfl (fo l[j]) rfl rfl rfl rfl fun y k=>?_;refine⟨l[j],(k.box 0 rfl).aL _ rfl,?_⟩;refine ee A ?_;refine(m l[j] y (z.at [_,_] k)).mono ?_;rintro _ P ⟨rfl,G⟩;have D:=k.up G.ai;have c:=D.Hr;refine⟨_,rfl,bh (fun q=>?_) (fun q=>?_)⟩
   ·refine⟨l[j],(D.box 0 rfl).aL _ rfl,?_⟩;refine c.set ae 0 rfl (fun _=>rfl) rfl i rfl (by omega) l[j] rfl rfl rfl fun y k=>?_;exact⟨(i+1,j+1,F.set i l[j]),by dsimp only;rw[ak _,ak _];rfl,⟨M2.keep f (by simpa using q),by dsimp only;omega,k⟩,by dsimp only;omega⟩
   ·exact⟨(i,j+1,F),by dsimp only;rw[ak _];rfl,⟨M2.skip f (by simpa using q),by dsimp only;omega,c⟩,by dsimp only;omega⟩
  ·have o:j=l.length:=by omega
   subst o;refine⟨⟨by omega,by omega⟩,?_⟩;rw[qo];refine u.nW ae 0 rfl afe (fun _=>rfl) rfl (by decide) i (by omega) fun h3 c=>⟨⟨by omega,by omega⟩,⟨s.ptr,i,s.cap⟩,rfl,?_⟩
   have:=M2.pre;rw[qQ]at this;rw[<-this];exact c
end
section
variable {B:aB} {h0 h:Heap} {As:List HP}
def ur(pool:List (Sl×aC)):HP:=⟨fun h q=>∀x∈pool,Seq h q x.1 1 aD x.2,fun a c x b=>(a x b).ai c,fun a d x b=>(a x b).mono d⟩
theorem aa.Zw(H:aa B h0 h As):aa B h0 h (As++[ur []]):=H.comp (.one (aU.refl _ _) fun x a=>by cases a)
theorem aa.acH(H:aa B h0 h As)(i j:Nat)(b:i≠j){pool:List (Sl×aC)}{r:Sl}{l:aC}(f:As[i]?=some (ur pool))(e:As[j]?=some (sV r 1 aD l)):aa B h0 h ((As.set i (ur (pool++[(r,l)]))).set j emp):=
 H.merge i j b f e fun k g _ c d x a=>by
  rcases qA.1 a with a|a
  ·exact(c x a).mono fun _ h=>.inl h
  ·rw[qG]at a;subst a;exact Seq.mono d fun _ h=>.inr h
abbrev aff:bW C.toBE 83 22 1 [xn none 0 0] 24:=⟨_,_,rfl,rfl,rfl,rfl,rfl,rfl⟩
theorem TQ(s c:Addr)(r:Sl)(x:Int×Int)(h':Heap)(e:cellOf h' c=some (xo (some s))/\cellOf h' (s.add 5)=some (xn r.ptr r.len r.cap)):
  ac xx 310 ([Value.agg #[xl xt x.1,xl xt x.2]]++(#[Value.pointer (some c)]:Array Value).toList).toArray h' fun v d=>v=xq (decide (x.1>=(r.len:Int)))/\Sp h' d []:=by
 refine ug x c ?_;unfold mY;refine(Sp.refl h').boxed fun a f b=>?_;exact⟨x.1,(b.box 0 rfl).cell0 rfl,some s,rC e.1 b.ai,s,rfl,r,rC e.2 b.ai,rfl,.zip b.ai⟩
theorem TR(s a:Addr)(r:Sl)(x:Int)(h':Heap)(c:cellOf h' a=some (xo (some s))/\cellOf h' (s.add 5)=some (xn r.ptr r.len r.cap)):
  ac xx 311 ([Value.int .i64 x]++(#[Value.pointer (some a)]:Array Value).toList).toArray h' fun v b=>v=xq (decide (x>=(r.len:Int)))/\Sp h' b []:=by
 refine uh x a ?_;unfold mZ;exact⟨some s,c.1,s,rfl,r,c.2,rfl,Sp.refl _⟩
theorem TS(s f:Addr)(p:Int×Int×Int)(v r m j d J F kn:Sl)(z:List (Sl×Sl))(R:List eZ)(known:List Bool)(n:Nat)(H:aa B h0 h (SA s (fX f p v r m j d J F)::As))(hS:St B h0 As fun h=>nk iV 2 qv h r z R/\Rd h kn 1 eO known)(ao:known.length=n)(hn:n<=64)(a3:R.length<=2^19)(ay:∀e∈R,e.1.length<=2^20)
  (E:jh (n:Int) (rowsOf R known n)=true) (Z:(dw n (rowsOf R known n)).steps.length<=2^20/\(fi (dw n (rowsOf R known n)).used (rowsOf R known n).length).length<=2^20):
  ac xx 234 #[xo (some s),kn] h fun v' h'=>v'=.tuple #[]/\∃L A K:Sl,aa B h0 h' (SA s (fX f p v r L A K J F)::ar 347 L 2 fo ((dw n (rowsOf R known n)).steps.filter fun x=>decide (x.1<R.length))::ar 3 A 1 aD (dw n (rowsOf R known n)).dead::ar 3 K 1 aD ((fi (dw n (rowsOf R known n)).used (rowsOf R known n).length).filter fun x=>decide (x<R.length))::As):=by
 refine Af (some s) kn ?_;unfold ou;refine H.boxed fun q G T=>?_;have T:=T.bC;refine⟨some s,(T.box 0 rfl).cell0 rfl,s,rfl,r,(T.box 1 rfl).cell rfl,?_⟩;have G1:=hS.at [_,_] T;have ab:=G1.1.1.len;have Q:=G1.1.2.1;have U:=G1.2.len;let pre:List HP:=[aq q 264 [xo (some s)],SA s (fX f p v r m j d J F)]
 have H2:aa B h0 G (ar 22 ⟨none,0,0⟩ 1 bJ []::ur []::aq q 264 [xo (some s)]::SA s (fX f p v r m j d J F)::As):=((aa.Zw T).bC.nil 22 1 bJ).bC;refine aw (fun t:Nat×Sl=>(t.2,(t.1:Int))) (fun t h'=>t.1<=R.length/\aa B h0 h' (ar 22 t.2 1 bJ ((z.take t.1).map qJ)::ur []::aq q 264 [xo (some s)]::SA s (fX f p v r m j d J F)::As)) (fun t=>R.length-t.1) (0,⟨none,0,0⟩) rfl ⟨by simp,by simpa using H2⟩ ?_;rintro⟨i,o⟩ h3 ⟨hi,H3⟩;dsimp only at*;refine al (fun e=>?_) (fun e=>?_)
 ·have a2:i<R.length:=by omega
  have G3:=hS.at [_,_,_,_] H3;refine G3.1.1.dt (g:=qv) i rfl (by omega) (z[i]'(by omega)) rfl ?_;refine H3.alloc ae rfl fun a8 h4 w=>?_;have w:=w.bC;refine w.storeAll ae 0 rfl rfl (qv (z[i]'(by omega))) rfl rfl rfl rfl fun h5 I=>?_;refine⟨(z[i]'(by omega)).1,(I.box 0 rfl).cell0 rfl,?_⟩;refine I.Hr.push ae 0 rfl aff rfl (by decide) (fun _=>rfl) lY (z[i]'(by omega)).1 rfl (by decide) (by simp;omega) fun o' h6 H6=>?_;refine⟨(i+1,o'),by dsimp only;rw[ak _];rfl,⟨by dsimp only;omega,?_⟩,by dsimp only;omega⟩;dsimp only;rw[aI z i,qT];exact H6
 have O:i=R.length:=by omega
 subst O;rw[qi (by omega)]at H3;refine aw (fun t:Nat×Sl×List Sl=>(t.2.1,(t.1:Int))) (fun t h'=>t.1<=n/\t.2.2.length=(gQ known t.1).length/\aa B h0 h' (ar 22 t.2.1 1 bJ (z.map qJ++t.2.2)::ur (t.2.2.zip (gQ known t.1))::aq q 264 [xo (some s)]::SA s (fX f p v r m j d J F)::As)) (fun t=>n-t.1) (0,o,[]) rfl ⟨by omega,rfl,by simpa using H3⟩ ?_;rintro⟨i,o,X⟩ h4 ⟨hi,D,w⟩;dsimp only at*;have a4:=DX known i;refine al (fun e=>?_) (fun e=>?_)
 ·have a2:i<n:=by omega
  have G4:=hS.at [_,_,_,_] w;refine G4.2.bx i rfl (by omega) _ rfl ?_;have a0:known.getD i false=known[i]'(by omega):=by rw[qe,qd (by omega)];rfl
  have P:=MH known i;rw[a0]at P;refine bw (fun e2=>?_) (fun e2=>?_)
  ·rw[e2,if_pos rfl]at P;refine w.lit ae aD lL rfl [(i:Int)] rfl (show 1*1<=2^20 by decide) rfl fun b h5 I=>?_;have I:=I.bC.freeze 0 rfl fun _=>rfl;have H6:=aa.acH I 2 0 (by decide) rfl rfl;refine H6.push ae 1 rfl aff rfl (by decide) (fun _=>rfl) lY b rfl (by decide) (by simp;omega) fun o' h7 H7=>?_;refine⟨(i+1,o',X++[b]),by dsimp only;rw[ak _];rfl,⟨by dsimp only;omega,by dsimp only;rw[P];simp[D],?_⟩,by dsimp only;omega⟩;dsimp only;rw[P,List.zip_append D,<-qp];exact H7.Hr
  ·rw[e2,if_neg (by simp),qS]at P;exact⟨(i+1,o,X),by dsimp only;rw[ak _];rfl,⟨by dsimp only;omega,by dsimp only;rw[P];exact D,by dsimp only;rw[P];exact w⟩,by dsimp only;omega⟩
 have O:i=n:=by omega
 subst O;have G4:=hS.at [_,_,_,_] w;have N:(rowsOf R known i).length=R.length+X.length:=by rw[rowsOf,qx,qu,D]
 have Y:gT h4 (fun b=>b<h4.size) o 1 aD (rowsOf R known i) (z.map qJ++X):=by
  refine⟨w.seq 0 rfl fun _=>rfl,by rw[N];simp;omega,fun k a l G S=>?_⟩;by_cases hk:k<R.length
  ·rw[qm (by simp;omega),qO,qd (by omega)]at G;rw[rowsOf,qm (by simp;omega),qO,qd hk]at S;simp only[qL,zM.injEq]at G S;subst G;subst S;exact(Fix.row G4.1 hk).1
  ·rw[qj (by simp;omega)]at G;rw[rowsOf,qj (by simp;omega)]at S;simp only[qu,Q]at G S;have hm:(a,l)∈X.zip (gQ known i):=by
    refine yD.2 ⟨k-R.length,?_⟩;rw[vm];exact⟨G,S⟩
   exact(w.at 1 rfl) _ hm
 rw[U,ao];refine(Zo (i:Int) o (rowsOf R known i) _ h4 Y (by omega) ?_).mono ?_
 ·intro x W;rcases qA.1 W with W|W
  ·obtain⟨e,he,rfl⟩:=qq.1 W;have:=ay e he;omega
  ·obtain⟨c,hc,rfl⟩:=qq.1 W;simp
 rintro _ h5 ⟨L,A,K,rfl,R5⟩;have ax:DM (i:Int) (rowsOf R known i)=((dw i (rowsOf R known i)).steps,(dw i (rowsOf R known i)).dead,fi (dw i (rowsOf R known i)).used (rowsOf R known i).length):=by
  unfold DM;rw[if_pos E,qo]
 rw[ax]at R5;dsimp only at R5;have I:=((w.Hr).Hr).comp R5;refine⟨((L,A,K),_),rfl,?_⟩;have H6:aa B h0 h5 (ar 347 L 2 fo (dw i (rowsOf R known i)).steps::ar 3 A 1 aD (dw i (rowsOf R known i)).dead::ar 3 K 1 aD (fi (dw i (rowsOf R known i)).used (rowsOf R known i).length)::aq q 264 [xo (some s)]::SA s (fX f p v r m j d J F)::As):=aa.front (As:=aq q 264 [xo (some s)]::SA s (fX f p v r m j d J F)::As) (Bs:=[_,_,_]) I;refine H6.alloc ae rfl fun a6 h7 H7=>?_;have H7:=H7.bC;refine H7.storeAll ae 0 rfl rfl [L,A,K] rfl rfl rfl rfl fun h8 H8=>?_;refine⟨L,(H8.box 0 rfl).cell0 rfl,?_⟩;refine(Sf L _ 310 #[xo (some q)] (fun x=>decide (x.1>=(r.len:Int))) (fun h'=>cellOf h' q=some (xo (some s))/\cellOf h' (s.add 5)=some (xn r.ptr r.len r.cap)) rfl (St.mk' fun h' V=>⟨(V.box 3 rfl).cell0 rfl,(V.box 4 rfl).cell rfl⟩) (fun x h' hq=>TQ s q r x h' hq) H8.uR Z.1).mono ?_;rintro _ h9 ⟨u,rfl,H9⟩;refine⟨u,rfl,?_⟩;refine H9.kv ae 1 rfl rfl [u] rfl rfl rfl (by simp) fun a9 ad=>?_;refine⟨K,(ad.box 1 rfl).cell rfl,?_⟩;have ap:=ad.bi 6 [3,0,1,2,4,5];refine(xF K _ 311 #[xo (some q)] (fun x=>decide (x>=(r.len:Int))) (fun h'=>cellOf h' q=some (xo (some s))/\cellOf h' (s.add 5)=some (xn r.ptr r.len r.cap)) rfl (St.mk' fun h' V=>⟨(V.box 3 rfl).cell0 rfl,(V.box 4 rfl).cell rfl⟩) (fun x h' hq=>TR s q r x h' hq) ap Z.2).mono ?_;rintro _ bb ⟨y,rfl,am⟩;refine⟨y,rfl,?_⟩;refine am.store ae 2 rfl rfl 2 [y] rfl rfl rfl (by simp) fun a5 M=>?_;refine⟨some s,(M.box 4 rfl).cell0 rfl,(u,A,y),(M.box 2 rfl).aL _ rfl,s,rfl,?_⟩;refine M.store ae 5 rfl rfl 6 [u,A,y] rfl rfl rfl (by simp[fX]) fun a7 ah=>⟨rfl,u,A,y,?_⟩
 have e1:(fun x:Int×Int=>!decide (x.1>=(r.len:Int)))=fun x=>decide (x.1<(R.length:Int)):=by
  funext x;rw[ab,Q];by_cases h:x.1<(R.length:Int)
  ·rw[decide_eq_true h,decide_eq_false (by omega)];rfl
  ·rw[decide_eq_false h,decide_eq_true (by omega)];rfl
 have e2:(fun x:Int=>!decide (x>=(r.len:Int)))=fun x=>decide (x<(R.length:Int)):=by
  funext x;rw[ab,Q];by_cases h:x<(R.length:Int)
  ·rw[decide_eq_true h,decide_eq_false (by omega)];rfl
  ·rw[decide_eq_false h,decide_eq_true (by omega)];rfl
 rw[e1,e2]at ah;exact ah.bi 6 [5,1,3,0]
end
theorem adJ(h:Heap)(x:UInt8):ac xx 360 #[xl xu x.toNat] h fun v h'=>v=xq (x !=0)/\h'=h:=by
 refine Nb _ ?_;unfold Gn;refine⟨?_,rfl⟩;congr 1;by_cases a:x=0
 ·subst a;rfl
 ·have:((x.toNat:Nat):Int)≠0:=fun b=>a (DD.1 b);rw[bne_iff_ne.2 a];exact bne_iff_ne.2 this
theorem Zx(a:Sl)(l:Row)(h:Heap)(o:Rd h a 1 aE l)(t:l.length<=2^30):ac xx 282 #[a] h fun v h'=>v=xl xt (if lQ l<l.length then(lQ l:Int)else-1)/\h'=h:=by
 refine QW a ?_;unfold Lb;refine(pu a (360,#[],#[]) (R:=fun v h'=>v=xl xt (if lQ l<l.length then(lQ l:Int)else-1)/\h'=h) ?_).mono ?_
 ·unfold kF;have r:=o.len;refine aw (fun i:Nat=>(i:Int)) (fun i h'=>h'=h/\i<=l.length/\∀j (d:j<l.length),j<i->l[j]=0) (fun i=>l.length-i) 0 rfl ⟨rfl,by omega,fun j _ d=>by omega⟩ ?_;rintro i p ⟨rfl,u,c⟩;refine al (fun e=>?_) (fun e=>?_)
  ·have b:i<l.length:=by omega
   refine o.bx i rfl b _ rfl ?_;refine ee (by rfl) ?_;refine(adJ p l[i]).mono ?_;rintro v s ⟨rfl,rfl⟩;refine⟨_,rfl,bw (fun m=>?_) (fun m=>?_)⟩
   ·have k:lQ l=i:=by
     rw[lQ,List.findIdx_eq b];exact⟨m,fun j d=>by simp[c j (by omega) d]⟩
    rw[k,if_pos b];exact⟨rfl,rfl⟩
   ·refine⟨i+1,by rw[ak _];rfl,⟨rfl,by omega,fun j d n=>?_⟩,by omega⟩;rcases zk.1 n with h3|rfl
    ·exact c j d h3
    ·simpa using m
  ·have g:¬lQ l<l.length:=by
    rw[lQ,wZ];rintro⟨x,q,f⟩;obtain⟨j,d,rfl⟩:=qH q;rw[c j d (by omega)]at f;simp at f
   rw[if_neg g];exact⟨rfl,rfl⟩
 ·rintro v p ⟨rfl,rfl⟩;exact⟨_,rfl,rfl,rfl⟩
theorem Oy{l:Row}:¬lQ l<l.length↔l=aN l.length:=by
 rw[lQ,wZ];constructor
 ·intro h;refine vJ.2 ⟨rfl,fun x b=>?_⟩;by_cases a:x=0
  ·exact a
  ·exact absurd ⟨x,b,by simpa using a⟩ h
 ·rintro h ⟨x,b,a⟩;have:=(vJ.1 h).2 x b;subst this;simp at a
theorem TT(f:Addr)(a b:Sl)(A B:aS)(m n w:Nat)(h:Heap)(hf:gN h f)(ha:gx h a 1 aE A)(hb:gx h b 1 aE B)(hl:A.length=m)(br:B.length=m)(u:bg n A)(hB:bg w B)(bb:1<=n)(hn:n+w<=64)(hm:m<=2^20)(hr:cR A=n):
  ac xx 211 #[xo (some f),a,b] h fun v h'=>(km n A B/\∃r:Sl,v=.tuple #[r,xl xt 0]/\Sp h h' [fS 35 r 1 aE (fI n A B)])∨(¬km n A B/\v=.tuple #[xn none 0 0,xl xt 10]/\Sp h h' []):=by
 have a8:n<=m:=by have:=oR A u;omega
 have d:B.length=A.length:=by omega
 have ax:=ha.len;have O:=hb.len;refine Ep (some f) a b ?_;unfold Bn;refine be ?_;refine(my a A n h ha u).mono ?_;rintro v H ⟨rfl,rfl⟩;refine⟨_,rfl,bh (fun e=>by cases e) fun _=>?_⟩;refine(my b B w H hb hB).mono ?_;rintro v J ⟨rfl,rfl⟩;refine⟨_,rfl,bh (fun e=>by cases e) fun _=>?_⟩;refine ca (fun e=>absurd (by rw[ax,O,d]) e) fun _=>?_;refine cI (fun e=>by omega) fun _=>?_;refine(rz a A J ha).mono ?_;rintro v h3 ⟨rfl,rfl⟩;have a2:fP A=n:=by
  cases A with
  |nil=>simp at hl;omega
  |cons x t=>rw[fP,bv (by simp)];exact u _ (by simp)
 refine⟨_,rfl,?_⟩;rw[a2];refine(xK a A n h3 ha u).mono ?_;rintro v h4 ⟨r,rs,rfl,b2,R4⟩;refine⟨r,rfl,?_⟩;have a4:=(R4.own 0 rfl).len;refine aw (fun t:Nat×List Sl=>(t.1:Int)) (fun t h'=>t.1<=m/\t.2.length=m/\Sp h3 h' (ne r t.2 (oB A B t.1))) (fun t=>m-t.1) (0,rs) rfl ⟨by simp,by dsimp only;omega,by simpa[oB,eI]using R4⟩ ?_;rintro⟨k,rs⟩ h5 ⟨hk,bd,R⟩;dsimp only at*;have Y:rs.length=(oB A B k).length:=by rw[sI d];omega
 refine al (fun e=>?_) (fun e=>?_)
 ·have K:k<m:=by omega
  have U:k<A.length:=by omega
  have F:=oz (a:=r) Y k (by rw[sI d];omega);have eg:(oB A B k)[k]'(by rw[sI d];omega)=A[k]:=by
   have:=YC d U;rw[qd (by rw[sI d];omega)]at this;exact zM.inj this
  rw[eg]at F;have l1:A[k].length=n:=u _ (qh _);have l2:(B[k]'(by omega)).length=w:=hB _ (qh _);refine(R.seq 0 rfl (fun _=>rfl)).oJ k rfl (by omega) fun a1 X I=>?_;refine(hb.up R.ai).get k rfl (by omega) fun rb ap=>?_;refine R.append ae (k+1) F ga Rz rfl (by decide) (fun _=>rfl) ap gw (by omega) fun s6 h6 H6=>⟨trivial,?_⟩
  refine H6.set ae 0 rfl (fun _=>rfl) rfl k rfl (by omega) s6 rfl rfl rfl fun h7 H7=>⟨trivial,?_⟩
  refine⟨(k+1,rs.set k s6),by dsimp only;rw[ak _];rfl,⟨by dsimp only;omega,by dsimp only;simp;omega,?_⟩,by dsimp only;omega⟩;dsimp only;rw[<-YD d U];show Sp h3 h7 (ar 35 r 1 bJ (rs.set k s6)::bR 5 1 aE (rs.set k s6) ((oB A B k).set k _));rw[<-lC Y];exact H7
 ·have ab:k=A.length:=by omega
  subst ab;rw[YE d]at R;refine(tg f h5).mono ?_;rintro v h6 ⟨rfl,rfl⟩;refine⟨some f,rfl,?_⟩;have L:=mf d.symm u hB;have b1:=lD d.symm;refine(Bw (m:=eI A B) (n:=n+w) hf hf.lt (by omega) L (by omega) (by omega) (by omega) R).mono ?_;rintro v h7 ⟨l,rfl,a5,q⟩;rw[IX d.symm u,hr];refine⟨_,rfl,?_⟩;dsimp only;have S:=(q.own 0 rfl).cap;have bq:=(q.own 0 rfl).len;have J:=il L n;refine al (fun e=>absurd (show(n:Int)<(n:Int)from e) (by omega)) fun _=>?_;refine⟨⟨zX _,yK.2 (show n<=r.len by omega)⟩,?_⟩;obtain⟨M,Q⟩:∃M,M=(bG (eI A B) n).2:=⟨_,rfl⟩
  have a9:M.length=A.length:=by have:=J.2;rw[<-Q]at this;omega
  have P:bg (n+w) M:=by rw[Q];exact J.1
  rw[<-Q]at q;have T:l.length=M.length:=by omega
  have o:km n A B↔∀i (hi:i<M.length),n<=i->M[i]=aN M[i].length:=by
   unfold km;rw[<-Q];constructor
   ·intro G i hi hn;refine G _ (yD.2 ⟨i-n,?_⟩);rw[List.getElem?_drop,show n+(i-n)=i by omega,qd hi]
   ·intro G x hx;obtain⟨i,hi,rfl⟩:=qH hx;simp only[za]at hi;rw[wb];exact G _ (by omega) (by omega)
  refine aw (fun i:Nat=>(i:Int)) (fun i h'=>h'=h7/\n+i<=M.length/\∀j (hj:j<M.length),n<=j->j<n+i->M[j]=aN M[j].length) (fun i=>M.length-(n+i)) 0 rfl ⟨rfl,by omega,fun j _ _ _=>by omega⟩ ?_;rintro i h8 ⟨rfl,hi,p⟩;rw[qo];refine al (fun e=>?_) (fun e=>?_)
  ·have g:n+i<M.length:=by omega
   have F:=oz (a:=r) T (n+i) (by omega);have ao:(M[n+i]'g).length=n+w:=P _ (qh _);have E:=q.seq (n+i+1) F (fun _=>rfl);have D:=(q.seq 0 rfl (fun _=>rfl)).drop n S;have a0:(l.drop n)[i]'(by simp;omega)=l[n+i]'(by omega):=wb;refine D.oJ i rfl (by simp;omega) fun a1 X I=>?_;rw[a0];refine(Zx _ _ h8 E (by omega)).mono ?_;rintro _ h9 ⟨rfl,rfl⟩;refine⟨_,rfl,al (fun Z=>?_) (fun Z=>?_)⟩
   ·right;have y:lQ (M[n+i]'g)<(M[n+i]'g).length:=by
     by_cases hh:lQ (M[n+i]'g)<(M[n+i]'g).length
     ·exact hh
     ·rw[if_neg hh]at Z;exact absurd Z (by decide)
    refine⟨fun G=>?_,rfl,.zip q.ai⟩;have:=o.1 G (n+i) g (by omega);exact absurd y (Oy.2 this)
   ·have y:¬lQ (M[n+i]'g)<(M[n+i]'g).length:=fun hh=>by
     rw[if_pos hh]at Z;exact Z (zX _)
    refine⟨i+1,by rw[ak _];rfl,⟨rfl,by omega,fun j hj H J=>?_⟩,by omega⟩;by_cases am:j=n+i
    ·subst am;exact Oy.1 y
    ·exact p j hj H (by omega)
  refine⟨⟨zX _,yK.2 (show n<=r.cap by omega)⟩,?_⟩;have z:km n A B:=o.2 fun j hj H=>p j hj H (by omega);have e1:fI n A B=(M.take n).map (List.drop n):=by rw[fI,<-Q]
  have N:∀k (hk:k<n),(fI n A B).take (k+1)=(fI n A B).take k++[(M[k]'(by omega)).drop n]:=fun k hk=>by
   rw[e1,aI _ _ (by simp;omega),zS,w4]
  have b0:(fI n A B).length=n:=(uA d.symm u hB hr).1;refine aw (fun t:Sl×Nat=>(t.1,(t.2:Int))) (fun t h'=>t.2<=n/\Sp h8 h' [fS 35 t.1 1 aE ((fI n A B).take t.2)]) (fun t=>n-t.2) (⟨none,0,0⟩,0) rfl ⟨by simp,(Sp.refl h8).Kb 35 1 aE⟩ ?_;rintro⟨s,k⟩ h9 ⟨a7,H9⟩;dsimp only at*;have HH:=q.comp H9;refine al (fun e=>?_) (fun e=>?_)
  ·have K:k<n:=by omega
   have F:=oz (a:=r) T k (by omega);have V:(ne r l M++[fS 35 s 1 aE ((fI n A B).take k)])[k+1]?=some (ar 5 (l[k]'(by omega)) 1 aE (M[k]'(by omega))):=by
    rw[qm (by simp[bR];omega)];exact F
   have ao:(M[k]'(by omega)).length=n+w:=P _ (qh _);have W:=HH.own (k+1) V;have E:=HH.seq (k+1) V (fun _=>rfl);have a6:=W.len;have D:=(HH.seq 0 rfl (fun _=>rfl)).take n (by omega);have ay:(l.take n)[k]'(by simp;omega)=l[k]'(by omega):=w4;refine D.oJ k rfl (by simp;omega) fun a1 X I=>?_;rw[ay];refine⟨⟨zX _,yK.2 (by omega)⟩,?_⟩;refine(fR _ _ h9 (E.drop n W.cap) (by simp;omega)).mono ?_;rintro v bl ⟨c,rfl,ad⟩;have a3:=(H9.comp ad).freeze 1 rfl (fun _=>rfl);refine⟨c,rfl,?_⟩;refine a3.uw ae 0 1 (by decide) rfl rfl fG (by simp;omega) fun s' bk ah=>?_;refine⟨(s',k+1),by dsimp only;rw[ak _];rfl,⟨by dsimp only;omega,?_⟩,by dsimp only;omega⟩;dsimp only;rw[N k K];exact ah.del 1
  ·rw[qi (by omega)]at H9;refine .inl ⟨z,s,rfl,?_⟩;have:=(Sp.zip q.ai).comp H9;exact this
section
variable {B:aB} {h0 h:Heap} {As:List HP}
theorem Sg:∀{l:aC},l.Pairwise (·<·)->fl l=true
 |[],_=>rfl
 |[_],_=>rfl
 |a::b::r,h=>by
  rw[List.pairwise_cons]at h;rw[fl,Sg h.2,decide_eq_true (h.1 b (by simp))];rfl
theorem WP{l:aC}(h:l.Pairwise (·<·)):Nn l:=fun i a=>zp.1 h i (i+1) (by omega) a (by omega)
theorem WQ{n:Nat}{R:List eZ}{known:List Bool}(h:n<=64)(f:∀e∈R,(∀c∈e.1,0<=c/\c<(n:Int))/\e.1.Pairwise (·<·)):jh (n:Int) (rowsOf R known n)=true:=by
 unfold jh;rw[qz];refine⟨by simp;omega,qN.2 fun r a=>?_⟩;unfold fm;rw[qz];rcases qA.1 a with a|a
 ·obtain⟨e,b,rfl⟩:=qq.1 a;exact⟨qN.2 fun c g=>by simpa using(f e b).1 c g,Sg (f e b).2⟩
 ·obtain⟨d,rfl,i,_⟩:=AC a;exact⟨by simp;omega,rfl⟩
theorem aa.afg{e:Nat}{v:Sl}{vs:aS}(H:aa B h0 h As)(i:Nat)(s:As[i]?=some (cx e v 1 bJ (sW 1 aE) vs)):
  ∃f:List Sl,aa B h0 h (As.set i (ar e v 1 bJ f)++[kp (f.zip vs)])/\f.length=vs.length/\∀(c:Nat) (o:c<f.length) (n:c<vs.length),f[c].ptr.isNone=vs[c].isEmpty:=by
 have g:i<As.length:=(qn.1 s).1;have w:aa B h0 h (As.set i (HP.ex fun f:List Sl=>((ar e v 1 bJ f).sep (kp (f.zip vs))).and (f.length=vs.length/\∀(c:Nat) (o:c<f.length) (n:c<vs.length),f[c].ptr.isNone=vs[c].isEmpty))):=
  H.fO i s fun q ⟨rs,D,a,b,c,d,e⟩=>⟨rs,⟨fun b=>v.on b,D,fun x j=>(b x j).2,fun x j=>(b x j).1,c,⟨a,fun x j=>j⟩,fun x j=>by
   obtain⟨k,u,l⟩:=qH j;simp only[List.length_zip]at u;rw[yT]at l;subst l;exact(e k _ _ (qd (by omega)) (qd (by omega))).1⟩,d,fun k o n=>by
   obtain⟨x,y⟩:=e k _ _ (qd o) (qd n);cases hv:vs[k]with
   |nil=>rw[y hv];rfl
   |cons z t=>
    have:=x.isSome (by rw[hv];simp);rw[this];rfl⟩
 obtain⟨f,m⟩:=w.Vj i (zy g);rw[vi]at m;have A:=m.fact i (zy g);have p:=m.abV i (zy g);rw[vi]at p;have r:=p.split i (zy g);rw[vi]at r;exact⟨f,r,A⟩
def yv(x:Int×Sl):aW:=[xl xt x.1,x.2]
def afV:iJ (Int×Sl) (Int×Row):=⟨fun h q a b=>a.1=b.1/\Seq h q a.2 1 aE b.2,fun a c=>⟨a.1,a.2.ai c⟩,fun a d=>⟨a.1,a.2.mono d⟩⟩
abbrev LW:iJ Sl (List (Int×Row)):=cF afV 2 yv
end
theorem WR{a:List Sl}{vs:aS}(h:a.length=vs.length)(b:List (Sl×Row))(d:∀x∈a.zip vs,x∈b):gO b id a vs:=
 ⟨h,fun i r l e c=>d _ (yD.2 ⟨i,by rw[vm];exact⟨e,c⟩⟩)⟩
theorem Sh{α β:Type}:∀(a:List α) (x:α) (l:List β) (h:a.length<l.length),(a++[x]).zip l=a.zip l++[(x,l[a.length])]
 |[],x,b::l,_=>by simp
 |c::a,x,b::l,h=>by
  have:=Sh a x l (by simpa using h);simp[this]
def acI(h h':Heap)(v:Value)(n:Nat)(A a:aS):Prop:=
 (km n A a/\∃r:Sl,v=.tuple #[r,xl xt 0]/\Sp h h' [MA r (fI n A a)])∨(¬km n A a/\v=.tuple #[xn none 0 0,xl xt 10]/\Sp h h' [])
theorem abA(p:Pm)(seed:Int)(l:Sl)(syms:List (Int×Row))(n w:Nat)(h:Heap)(hl:fx LW h l syms)(y:bL p=true)(b3:∀x∈syms,AD p x)(hn:(cg p).toNat=n)(hw:p.2.2.toNat=w)(ew:syms.length<=2^18)(hr:cR (dW p seed (syms.map qJ))=n):
  ac xx 147 #[kh p,xl xv seed,l] h fun v h'=>acI h h' v n (dW p seed (syms.map qJ)) (rk p syms):=by
 refine MQ p seed l ?_;unfold FX;have es:=(bM p).1 y;have ed:cg p=n:=by rw[<-hn];have:=ri y;omega
 have b4:n=p.1.toNat+p.2.1.toNat:=by rw[<-hn,ri y];omega
 have b7:p.2.2=(w:Int):=by omega
 have ce:1<=n:=by omega
 have c5:n<=20:=by omega
 obtain⟨U,d7,eo,c0⟩:=cF.oK hl;have ej:=cF.len hl;let d:List eZ:=uc n seed syms;have eh:d.length=syms.length:=by simp[d,uc]
 have I:=aeq (seed:=seed) ce c5 b3 hw;let u:Nat->dJ:=fun i=>(syms.take i).map fun x=>dj n seed x.1;have ab:∀x:Int×Row,x∈syms->(bL p&&bS x.1)=true:=fun x hx=>by rw[y,(b3 x hx).id];rfl
 refine(Sp.refl h).boxed fun a1 K H1=>?_;have d4:Sp h K [ar 263 ⟨none,0,0⟩ 2 qv [],ur [],aq a1 24 [xl xt p.1,xl xt p.2.1,xl xt p.2.2]]:=((aa.Zw H1).nil 263 2 qv).bK [2,1,0];refine aw (fun t:Nat×Sl×List Sl=>(t.2.1,(t.1:Int))) (fun t h'=>t.1<=syms.length/\t.2.2.length=t.1/\Sp h h' [ar 263 t.2.1 2 qv (t.2.2.zip (U.map zt)),ur (t.2.2.zip (u t.1)),aq a1 24 [xl xt p.1,xl xt p.2.1,xl xt p.2.2]]) (fun t=>syms.length-t.1) (0,⟨none,0,0⟩,[]) rfl ⟨by simp,rfl,d4⟩ ?_;rintro⟨i,o,cr⟩ h2 ⟨hi,b0,H2⟩;dsimp only at*;have cd:(u i).length=i:=by simp[u];omega
 refine al (fun e=>?_) (fun e=>?_)
 ·have Z:i<syms.length:=by omega
  obtain⟨y1,y2⟩:=c0 i (by omega) Z;refine(Seq.up d7 H2.ai).dt (g:=yv) i rfl (by omega) (U[i]'(by omega)) rfl ?_;refine H2.alloc ae rfl fun a5 h3 H3=>?_;refine H3.storeAll ae 3 rfl rfl (yv (U[i]'(by omega))) rfl rfl rfl rfl fun h4 P=>?_;refine⟨p,(P.box 2 rfl).aL _ rfl,(U[i]'(by omega)).1,(P.box 3 rfl).cell0 rfl,(U[i]'(by omega)).2,(P.box 3 rfl).cell rfl,?_⟩;refine(AO p seed (U[i]'(by omega)).1 h4).mono ?_;rintro _ h5 ⟨r,rfl,R5⟩;rw[y1,ab _ (qh Z),if_pos rfl,hn]at R5;have H5:=(P.comp R5).freeze 4 rfl fun _=>rfl;refine⟨r,rfl,⟨(H5.box 3 rfl).cell rfl,trivial⟩,?_⟩;have H6:=aa.acH H5 1 4 (by decide) rfl rfl;have dz:=H6.box 3 rfl;refine H6.nV ae qv eQ rfl [(r,(U[i]'(by omega)).2)] rfl (show 1*2<=2^20 by decide) rfl ⟨dz.cell rfl,trivial⟩ ?_;refine H6.push ae 0 rfl eQ rfl (by decide) (fun _=>rfl) Zf (r,(U[i]'(by omega)).2) rfl (by decide) (by simp;omega) fun o' h7 H7=>?_;refine⟨⟨(H7.box 3 rfl).cell rfl,trivial⟩,?_⟩;refine⟨(i+1,o',cr++[r]),by dsimp only;rw[ak _];rfl,⟨by dsimp only;omega,by simp[b0],?_⟩,by dsimp only;omega⟩;dsimp only;have e1:u (i+1)=u i++[dj n seed syms[i].1]:=by simp only[u];rw[aI _ _ Z,qT];rfl
  have e2:(cr++[r]).zip (U.map zt)=cr.zip (U.map zt)++[(r,(U[i]'(by omega)).2)]:=by
   rw[Sh cr r (U.map zt) (by simp;omega),zS];simp only[b0]
  rw[e1,e2,List.zip_append (by rw[b0,cd])];exact H7.bK [0,1,2]
 have d1:i=syms.length:=by omega
 subst d1;have ea:u syms.length=syms.map fun x=>dj n seed x.1:=by simp only[u];rw[qQ]
 rw[ea]at H2;have c7:∀{h':Heap},(∀x∈cr.zip (syms.map fun x=>dj n seed x.1),Vc.Seq h' (fun b=>b<h'.size) x.1 1 aD x.2)->aU (fun b=>b<h.size) h h'->Vc.Seq h' (fun b=>b<h'.size) o 2 qv (cr.zip (U.map zt))->fx pI h' o d:=fun{h'} hp hpr hs=>by
  refine⟨_,hs,by simp[d,uc];omega,fun k a b K h2=>?_⟩;have hk:k<syms.length:=by have:=(qn.1 h2).1;omega
  rw[qd (by simp;omega),yT,zS]at K;have e2:d[k]?=some (dj n seed syms[k].1,syms[k].2):=by simp[d,uc,hk]
  rw[e2]at h2;simp only[zM.injEq]at K h2;subst K;subst h2;refine⟨hp (cr[k]'(by omega),dj n seed syms[k].1) (yD.2 ⟨k,?_⟩),Seq.up (c0 k (by omega) hk).2 hpr⟩;rw[vm];exact⟨qd _,by simp[hk]⟩
 refine cl (fun s h'=>∃(a8 f:Addr),s=some a8/\Sp h h' [SA a8 (fX f p ⟨none,0,0⟩ ⟨none,0,0⟩ ⟨none,0,0⟩ ⟨none,0,0⟩ ⟨none,0,0⟩ ⟨none,0,0⟩ ⟨none,0,0⟩),ar 263 o 2 qv (cr.zip (U.map zt)),ur (cr.zip (syms.map fun x=>dj n seed x.1)),aq a1 24 [xl xt p.1,xl xt p.2.1,xl xt p.2.2],aq f 319 dD]) ?_ ?_
 ·refine⟨p,(H2.box 2 rfl).aL _ rfl,(un h2).mono ?_⟩;rintro _ h3 ⟨f,rfl,R3⟩;have H3:=H2.comp R3;refine⟨some f,rfl,⟨(H3.box 2 rfl).cell0 rfl,(H3.box 2 rfl).cell rfl,(H3.box 2 rfl).cell rfl,trivial⟩,?_⟩;refine H3.boxed fun a8 h4 P=>?_;exact⟨⟨(P.box 2 rfl).cell0 rfl,(P.box 2 rfl).cell rfl,(P.box 2 rfl).cell rfl,trivial⟩,a8,f,rfl,P.bK [4,0,1,2,3]⟩
 rintro _ h3 ⟨s,f,rfl,H3⟩;refine⟨p,(H3.box 3 rfl).aL _ rfl,(ly p h3).mono ?_⟩;rintro _ h4 ⟨rfl,R4⟩;have P:=H3.up R4.ai;refine⟨_,rfl,?_⟩;rw[ed];have eg:fx pI h4 o d:=c7 (P.at 2 rfl) P.ai (P.seq 1 rfl fun _=>rfl);have cp:∀e∈d,e.1.length<=2^20:=fun e F=>by
  obtain⟨x,hx,rfl⟩:=qq.1 F;have:=Ao ce c5 seed x.1;dsimp only;omega
 refine(Zk o d n w h4 eg (fun e F=>⟨(I e F).1,WP (I e F).2⟩) (by omega) (by omega) ⟨by omega,by omega⟩ cp).mono ?_;have hA:bg n (bz p.1.toNat p.2.1.toNat):=by rw[b4];exact Kr _ _
 have eA:=VE (seed:=seed) y hn b3;have eB:=VF (seed:=seed) (n:=n) (p:=p) (l:=syms) hw;rw[<-eA]at hr⊢;rw[<-eB];rintro _ h5 ⟨known,vals,hI,⟨ab,rfl,R5⟩|⟨ab,k,v,rs,rfl,R5⟩⟩
 ·refine⟨(⟨none,0,0⟩,⟨none,0,0⟩,⟨none,0,0⟩,10),rfl,ca (fun _=>?_) (fun e=>absurd e (by decide))⟩;exact .inr ⟨XY (fun e F=>(I e F).1) hA hI ab hr,rfl,(P.up R5.ai).bK []⟩
 refine⟨(k,v,rs,0),rfl,ca (fun e=>absurd rfl e) (fun _=>?_)⟩;have S:=aaC (fun e F=>(I e F).1) hA hI ab;have z:=NP (fun e F=>(I e F).1) hI;obtain⟨f1,f2,f3,f4,f5⟩:=Kv (fun e F=>(I e F).1) hI;have H:=oa hI (fun e F=>(I e F).1);have bd:=adi (known:=known) (vals:=vals) (fun e F=>(I e F).2);have c6:=XZ (l:=d) (known:=known) (vals:=vals);have ay:=Ya (known:=known) (vals:=vals) cp;have b6:=hI.vlen;have du:=hI.klen;unfold Pu at S;obtain⟨R,a3⟩:∃R,R=ba known vals d:=⟨_,rfl⟩
 change gq n w d _ known vals _ _ _ _ at S;rw[<-a3]at S z f1 f2 f3 f4 f5 H bd c6 ay R5;obtain⟨N,H6,d8,cs⟩:=aa.afg (P.comp R5) 6 rfl;obtain⟨rr,H7⟩:=aa.IU H6 7 rfl fun _=>rfl;have H8:=aa.adH H7 8 rfl;have H9:Sp h h5 [SA s (fX f p ⟨none,0,0⟩ ⟨none,0,0⟩ ⟨none,0,0⟩ ⟨none,0,0⟩ ⟨none,0,0⟩ ⟨none,0,0⟩ ⟨none,0,0⟩),kp ((⟨none,0,0⟩,[])::N.zip vals),HA v N,cu iV 2 qv rs rr R,ar 4 k 1 eO known,aq f 319 dD]:=aa.bK H8 [0,8,6,7,5,4];have bq:v.len=n:=by rw[(H9.own 2 rfl).len];omega
 have hk:∀(c:Nat) (hc:c<N.length),N[c].ptr.isNone=!(known.getD c false):=fun c hc=>by
  rw[cs c hc (by omega)];have K:=hI.row c (by omega);rw[lH (show c<vals.length by omega)]at K;cases hkn:known.getD c false with
  |true=>
   rw[hkn,if_pos rfl]at K;cases hv:vals[c]'(by omega)with
   |nil=>rw[hv]at K;simp at K;omega
   |cons x t=>rfl
  |false=>
   rw[hkn,if_neg (by simp)]at K;rw[yV.1 K];rfl
 refine⟨s,rfl,H9.store ae 0 rfl rfl 4 [v] rfl rfl rfl (by simp[fX]) fun h6 ef=>?_⟩;refine⟨s,rfl,ef.store ae 0 rfl rfl 5 [rs] rfl rfl rfl (by simp[fX]) fun h7 dy=>?_⟩;have cm:=WQ (known:=known) (n:=n) (by omega) fun e F=>⟨(H e F).cP,bd e F⟩
 have ap:=uX (rows:=rowsOf R known n) (n:=n) (by rw[a3];exact uD (a3▸H));have et:(rowsOf R known n).length<=R.length+n:=by
  rw[rowsOf,qx,qu];have:=DX known n;omega
 refine(TS s f p v rs _ _ _ _ _ k rr R known n (As:=[kp ((⟨none,0,0⟩,[])::N.zip vals),HA v N,cu iV 2 qv rs rr R,ar 4 k 1 eO known,aq f 319 dD]) dy (St.mk' fun h' H'=>⟨H'.dV 2 rfl,H'.seq 3 rfl fun _=>rfl⟩) du (by omega) (by omega) ay cm ⟨by have:=ap.1;omega,by have:=HG (dw n (rowsOf R known n)).used (rowsOf R known n).length;omega⟩).mono ?_;rintro _ h8 ⟨rfl,st,Y,lf,c9⟩;refine⟨(),rfl,?_⟩;obtain⟨D,hD⟩:∃D,D=(gi R known n).dead:=⟨_,rfl⟩
 obtain⟨ST,b1⟩:∃ST,ST=mJ R known n:=⟨_,rfl⟩
 obtain⟨L,hL⟩:∃L,L=Wl.leftOf R known n:=⟨_,rfl⟩
 have dx:Sp h h8 (SA s (fX f p v rs st Y lf ⟨none,0,0⟩ ⟨none,0,0⟩)::kp ((⟨none,0,0⟩,[])::N.zip vals)::[HA v N,ar 347 st 2 fo ST,ar 3 Y 1 aD D,ar 3 lf 1 aD L,cu iV 2 qv rs rr R,aq f 319 dD]):=by
  rw[hD,b1,hL];exact aa.bK c9 [0,4,5,1,2,3,6,8]
 rw[<-hD]at S z f1 f2 f3 f5;rw[<-b1]at S z;rw[<-hL]at S f4;have ch:ST.length<=2^20:=by
  rw[b1,mJ,gi];have:=qP (fun x:Int×Int=>decide (x.1<R.length)) (dw n (rowsOf R known n)).steps;have:=ap.1;omega
 have en:L.length<=2^20-2^10:=by
  rw[hL,Wl.leftOf,gi];have:=qP (fun x:Int=>decide (x<R.length)) (fi (dw n (rowsOf R known n)).used (rowsOf R known n).length);have:=HG (dw n (rowsOf R known n)).used (rowsOf R known n).length;omega
 have B:St (fun b=>b<h.size) h [HA v N,ar 347 st 2 fo ST,ar 3 Y 1 aD D,ar 3 lf 1 aD L,cu iV 2 qv rs rr R,aq f 319 dD] fun h=>WK h f rs st Y lf rr R ST D L:=
  St.mk' fun h' H'=>⟨H'.box 5 rfl,H'.dV 4 rfl,H'.seq 1 rfl fun _=>rfl,H'.seq 2 rfl fun _=>rfl,H'.seq 3 rfl fun _=>rfl⟩
 refine(WM s f p v rs st Y lf _ _ rr R ST D L n D.length w _ dx B bq (by omega) b7 (by omega) rfl (by omega) H f1 f2 z ch ay (by simp)).mono ?_;rintro _ h9 ⟨rfl,wa,mo,wr,mr,pl,c4,a0⟩;refine⟨(),rfl,?_⟩;have d6:=(B.at [_,_,_,_] c4).dead.len;generalize ek:ST.foldl (gE R D.length) (fF n D.length w D)=S0 at a0 S;have da:S0.1.length=n:=by have:=S.lens.1;simpa[gY]using this
 have ec:S0.2.length=n:=by have:=S.lens.2.1;simpa[gY]using this
 have hV:gO pl id N vals:=WR d8 pl fun x hx=>a0.sub x (qR _ hx);refine(Zs s f p v rs st Y lf wa mo N wr mr pl known vals S0.1 S0.2 n D.length c4 (by omega) d6 (by omega) ⟨fun _ h=>h,a0.way,a0.more⟩ hV b6 da ec hk).mono ?_;rintro _ ep ⟨rfl,ad,ah,V,d2,O⟩;refine⟨(),rfl,?_⟩;obtain⟨W,hW⟩:∃W,W=(gY D.length known vals S0).1:=⟨_,rfl⟩
 obtain⟨M,hM⟩:∃M,M=(gY D.length known vals S0).2:=⟨_,rfl⟩
 change lB pl V ad ah (gY D.length known vals S0).1 (gY D.length known vals S0).2 at O;rw[<-hW,<-hM]at O S;have m:=S.lens;refine(WO s f p v rs st Y lf wa mo ad ah V rr R ST D L W M n D.length w d2 B b4 b7 (by omega) y rfl (by omega) H ay f4 (by omega) ⟨fun _ h=>h,O.way,O.more⟩ m.1 m.2.1 m.2.2).mono ?_;rintro _ am ⟨a,b,rfl,a6⟩;refine⟨(a,b),rfl,s,rfl,Y,show cellOf am (s.add 7)=_ from(a6.box 2 rfl).cell rfl,?_⟩;have d5:gO V id N vals:=hV.mono O.sub;obtain⟨e1,e2⟩:=oZ S;have T:=AB (n:=n) (w:=w) (ahead:=bz p.1.toNat p.2.1.toNat) (l:=d) (known:=known) (vals:=vals) (dead:=D) (left:=L) (W:=W) (M:=M);have a9:∀{X:aS},_->_:=fun{X} hs=>S.Us hr (D:=X) hs;have a4:=S.Ut hr;have bb:=S.VG (by omega) hr;have a2:=S.MD (by omega) hr;rw[<-a3]at e1 e2 T a9 a4 bb a2;obtain⟨dA,b5⟩:∃dA,dA=dm n D.length R W L (bz p.1.toNat p.2.1.toNat):=⟨_,rfl⟩
 obtain⟨G,d9⟩:∃G,G=fj n w R M L (bz p.1.toNat p.2.1.toNat):=⟨_,rfl⟩
 rw[<-b5]at e1 T a9 a4 bb a2 a6;rw[<-d9]at e2 T a9 a4 bb a6;have d3:dA.length=L.length+p.2.1.toNat:=by rw[b5];simp[dm,bz]
 have bk:∀{h':Heap} {pre:List HP} {dead:Sl} {dr:List Sl} {X:aS} {Q:HP},Sp h h' (Told s f p v rs st Y lf wa mo ad ah V++HA v N::[ar 347 st 2 fo ST,ar 3 Y 1 aD D,ar 3 lf 1 aD L,cu iV 2 qv rs rr R,aq f 319 dD,Q])->(∀h',Q.p h' (fun b=>b<h'.size)->gT h' (fun b=>b<h'.size) dead 1 aE X dr)->fh D.length w dA G X->
   ac xx 239 #[xo (some s),dead] h' fun v' ax=>v'=.tuple #[]/\cellOf ax (s.add 4)=some (xn v.ptr v.len v.cap)/\acI h ax (.tuple #[v,xl xt 0]) n (dn n d (bz p.1.toNat p.2.1.toNat)) (gU w d (bz p.1.toNat p.2.1.toNat)):=by
  intro h' pre dead dr X Q H' hQ hs;refine(Zu s f p v rs st Y lf wa mo dead N ad ah dr V known vals W M X n D.length w H' (St.mk' fun ax ao=>⟨ao.box 4 rfl,hQ ax (ao.at 5 rfl)⟩) (by omega) (by omega) (by omega) ⟨fun _ h=>h,O.way,O.more⟩ d5 b6 m.1 m.2.1 m.2.2 hs.1 hs.2.1 hk).mono ?_;rintro _ ax ⟨rfl,ei,er,ao,ip⟩;refine⟨rfl,(ao.box 0 rfl).cell rfl,?_⟩;obtain⟨c1,c2⟩:=a9 hs;refine .inl ⟨c1,v,rfl,?_⟩;rw[<-c2];exact(ao.abs 4 3 (by decide) rfl rfl ip.1 fun k r l K h2=>ip.2 k r l K h2).bK [4]
 have J:Sp h am (MA a dA::CA b G::(Told s f p v rs st Y lf wa mo ad ah V++HA v N::[ar 347 st 2 fo ST,ar 3 Y 1 aD D,ar 3 lf 1 aD L,cu iV 2 qv rs rr R,aq f 319 dD])):=a6;have cq:=J.eRd 1 rfl fun _=>rfl;have cf:gx am b 1 aE G:=cF.togx (by
  have:=cF.impl (α':=Sl) (E:=Se) (E':=gr 1 aE) id (fun{h q a b} (hx:Se.p h q a b)=>hx.1) cq
  rwa [List.map_id]at this)
 have dk:=cf.len;refine cI (fun e0=>?_) (fun e0=>?_)
 ·have cn:D.length=0:=by omega
  obtain⟨br,q1,q2,q3⟩:=cF.oK cq;refine aw (fun i:Nat=>(i:Int)) (fun i h'=>h'=am/\i<=G.length/\∀j (hj:j<G.length),j<i->G[j]=aN w) (fun i=>G.length-i) 0 rfl ⟨rfl,by omega,fun j _ hj=>by omega⟩ ?_;rintro i a7 ⟨rfl,hi,hz⟩;have b2:fh D.length w dA G []↔∀r∈G,r=aN w:=by rw[cn];exact Kw T
  refine al (fun e=>?_) (fun e=>?_)
  ·have Z:i<G.length:=by
    have e':(i:Int)<(b.len:Int):=e;omega
   obtain⟨y1,y2⟩:=q3 i (by omega) Z;have eb:G[i].length=w:=e2 _ (qh _);refine q1.nL i rfl (by omega) ?_;refine(Ou (br[i]'(by omega)) G[i] _ rfl a7 y1 y2 (by omega)).mono ?_;rintro _ b9 ⟨⟨t,rfl,ht⟩,rfl⟩;refine⟨t,rfl,al (fun e3=>?_) (fun e3=>?_)⟩
   ·refine .inr ⟨fun hc=>?_,rfl,J.bK []⟩;have cc:=a4 hc;have ds:D=[]:=yV.1 cn;rw[ds]at cc;have:=(Kw T).1 cc _ (qh Z);have h0:t.len=0:=ht.2 fun x hx=>by rw[this]at hx;exact(wS.1 hx).2
    omega
   ·have h0:t.len=0:=by omega
    refine⟨i+1,by rw[ak _];rfl,⟨rfl,by omega,fun j hj el=>?_⟩,by omega⟩;by_cases hh:j=i
    ·subst hh;exact vJ.2 ⟨eb,ht.1 h0⟩
    ·exact hz j hj (by omega)
  ·have hs:fh D.length w dA G []:=b2.2 fun r hr=>by
    obtain⟨j,hj,rfl⟩:=qH hr;have e':¬(i:Int)<(b.len:Int):=e;exact hz j hj (by omega)
   have bl:=aa.comp (J.bK [2,3,4,5,6,7,8,9,10,11]) (Sp.one (h:=a7) (h':=a7) (A:=emp) (aU.refl _ _) trivial);refine(bk (pre:=[]) (dead:=⟨none,0,0⟩) (dr:=[]) (X:=[]) (Q:=emp) ?_ (fun h' _=>⟨Seq.nil _ _ _ _ _ _,rfl,fun k r l K _=>by cases K⟩) hs).mono ?_
   ·exact bl
   ·rintro _ b9 ⟨rfl,hc,hm⟩;exact⟨(),rfl,s,rfl,v,hc,hm⟩
 ·have d0:1<=D.length:=by omega
  refine⟨s,rfl,some f,(J.box 2 rfl).cell0 rfl,?_⟩;refine(TT f a b dA G dA.length D.length w am (J.box 11 rfl) (J.Ie 0 rfl) cf rfl T.symm e1 e2 d0 (by omega) (by omega) a2).mono ?_;rintro _ a7 (⟨hc,r,rfl,R12⟩|⟨hc,rfl,R12⟩)
  ·refine⟨(r,0),rfl,ca (fun e=>absurd rfl e) fun _=>?_⟩;have bl:=(J.comp R12).Vl 12 rfl;obtain⟨dr,c8⟩:=aa.IU bl 12 rfl fun _=>rfl;have hs:=oT T e1 e2 a2 hc;refine(bk (pre:=[]) (dead:=r) (dr:=dr) (X:=fI D.length dA G) (Q:=cu (gr 1 aE) 1 bJ r dr (fI D.length dA G)) (c8.bK [2,3,4,5,6,7,8,9,10,11,12]) (fun h' x=>⟨x.1,x.2.1,x.2.2⟩) hs).mono ?_;rintro _ b9 ⟨rfl,hc,hm⟩;exact⟨(),rfl,s,rfl,v,hc,hm⟩
  ·refine⟨(⟨none,0,0⟩,10),rfl,ca (fun _=>?_) (fun e=>absurd e (by decide))⟩;exact .inr ⟨fun hh=>hc (bb.2 hh),rfl,(J.up R12.ai).bK []⟩
end Go.Qw
namespace Wl
def lS(p:Int×Int×Int)(x:Int×Row):Bool:=bS x.1&&decide ((x.2.length:Int)=p.2.2)
theorem Si{p:Int×Int×Int}{x:Int×Row}(c:bL p=true):lS p x=true↔AD p x:=by
 have:=(bM p).1 c;unfold lS;rw[qz,decide_eq_true_iff];exact⟨fun⟨a,b⟩=>⟨a,by omega⟩,fun h=>⟨h.id,by have:=h.len;omega⟩⟩
def tk(p:Int×Int×Int)(seed:Int)(X:aS)(i:Nat):Row:=(qE i).flatMap fun j:Nat=>fE p.2.2.toNat X (dj (cg p).toNat seed (j:Int))
theorem Oz(p:Int×Int×Int)(seed:Int)(X:aS)(i:Nat):tk p seed X (i+1)=tk p seed X i++fE p.2.2.toNat X (dj (cg p).toNat seed (i:Int)):=by
 unfold tk;rw[zI,zh];simp
open Classical in
noncomputable def mG(p:Int×Int×Int)(seed:Int)(l:List (Int×Row)):Row×Int:=
 if bL p&&l.all (lS p)then
  if fT p seed (l.map qJ)then
   if km (cg p).toNat (dW p seed (l.map qJ)) (rk p l)then(tk p seed (fI (cg p).toNat (dW p seed (l.map qJ)) (rk p l)) p.1.toNat,0)else([],10)
  else([],9)
 else([],1)
end Wl
namespace Go.Qw
open Go Go.Vc Go.Proofs Wl
theorem TU(p:Pm)(x:Int×Sl)(l:Row)(h:Heap)(f:Rd h x.2 1 aE l):ac xx 144 #[kh p,xr #[xl xt x.1,x.2]] h fun v h'=>v=xq (lS p (x.1,l))/\Sp h h' []:=by
 refine Jj p x ?_;unfold BZ;refine(Sp.refl h).boxed fun g j e=>?_;refine e.boxed fun k i a=>?_;have d:=f.len;refine⟨x.1,(a.box 1 rfl).cell0 rfl,al (fun c=>?_) (fun c=>?_)⟩
 ·refine⟨x.1,(a.box 1 rfl).cell0 rfl,al (fun b=>?_) (fun b=>?_)⟩
  ·refine⟨x.2,(a.box 1 rfl).cell rfl,p.2.2,(a.box 0 rfl).cell rfl,?_,.zip a.ai⟩;congr 1;unfold lS bS;rw[decide_eq_true (show 0<=x.1 from c),decide_eq_true (show x.1<=65535 from b),d];rw[y7];simp
  ·refine⟨?_,.zip a.ai⟩;unfold lS bS;rw[decide_eq_false (show¬x.1<=65535 from b)];simp
 ·refine⟨?_,.zip a.ai⟩;unfold lS bS;rw[decide_eq_false (show¬0<=x.1 from c)];simp
theorem TV(p:Pm)(b:Addr)(x:Int×Sl)(l:Row)(h:Heap)(c:bX h b 24 [xl xt p.1,xl xt p.2.1,xl xt p.2.2])(e:Rd h x.2 1 aE l):ac xx 143 #[xr #[xl xt x.1,x.2],xo (some b)] h fun v h'=>v=xq (!lS p (x.1,l))/\Sp h h' []:=by
 refine FV x b ?_;unfold xa;refine(Sp.refl h).boxed fun i f a=>?_;refine⟨p,(c.ai a.ai c.lt).aL _ rfl,x,(a.box 0 rfl).aL _ rfl,?_⟩;refine(TU p x l f (Seq.up e a.ai)).mono ?_;rintro _ g ⟨rfl,d⟩;exact⟨_,rfl,rfl,.zip (a.up d.ai).ai⟩
theorem TW(p:Pm)(d:Addr)(l:Sl)(syms:List (Int×Row))(h:Heap)(n:bX h d 24 [xl xt p.1,xl xt p.2.1,xl xt p.2.2])(m:fx LW h l syms)(B:syms.length<=2^30):ac xx 142 #[l,.func (.func 143) #[] #[xo (some d)]] h fun v h'=>v=xq (!syms.all (lS p))/\Sp h h' []:=by
 refine jR l (143,#[],#[xo (some d)]) ?_;unfold fY;refine(kC l (143,#[],#[xo (some d)]) (R:=fun v h'=>(∃i:Int,v=xl xt i/\(decide (i>=0)=!syms.all (lS p)))/\Sp h h' []) ?_).mono ?_
 ·unfold gH;obtain⟨f,x,A,y⟩:=cF.oK m;have t:=cF.len m;refine aw (fun i:Nat=>(i:Int)) (fun i h'=>i<=syms.length/\(syms.take i).all (lS p)=true/\Sp h h' []) (fun i=>syms.length-i) 0 rfl ⟨by omega,by simp,Sp.refl h⟩ ?_;rintro i r ⟨o,a,c⟩;refine al (fun e=>?_) (fun e=>?_)
  ·have b:i<syms.length:=by omega
   obtain⟨w,u⟩:=y i (by omega) b;refine(Seq.up x c.ai).dt (g:=yv) i rfl (by omega) (f[i]'(by omega)) rfl ?_;refine ee (by rfl) ?_;refine(TV p d (f[i]'(by omega)) syms[i].2 r (n.ai c.ai n.lt) (Seq.up u c.ai)).mono ?_;rintro _ z ⟨rfl,q⟩;have k:((f[i]'(by omega)).1,syms[i].2)=syms[i]:=by rw[w]
   rw[k];refine⟨_,rfl,bh (fun j=>?_) (fun j=>?_)⟩
   ·refine⟨⟨i,rfl,?_⟩,c.up q.ai⟩;rw[decide_eq_true (show(i:Int)>=0 by omega)];have:syms.all (lS p)=false:=yh.2 ⟨_,qh b,by simpa using j⟩;rw[this];rfl
   ·refine⟨i+1,by rw[ak _];rfl,⟨by omega,?_,c.up q.ai⟩,by omega⟩;rw[aI _ _ b,yH,a];simpa using j
  ·refine⟨⟨-1,rfl,?_⟩,c⟩;rw[qi (by omega)]at a;rw[a];rfl
 ·rintro _ r ⟨⟨i,rfl,o⟩,s⟩;exact⟨i,rfl,by rw[o],s⟩
theorem Zy(l:Sl)(syms:List (Int×Row))(h:Heap)(k:fx LW h l syms)(B:syms.length<=2^30):ac xx 146 #[l] h fun v h'=>∃r:Sl,v=r/\Sp h h' [ar 3 r 1 aD (syms.map qJ)]:=by
 refine MP l ?_;unfold FW;obtain⟨c,s,y,u⟩:=cF.oK k;have p:=cF.len k;refine aw (fun t:Nat×Sl=>(t.2,(t.1:Int))) (fun t h'=>t.1<=syms.length/\Sp h h' [ar 3 t.2 1 aD ((syms.take t.1).map qJ)]) (fun t=>syms.length-t.1) (0,⟨none,0,0⟩) rfl ⟨by simp,(Sp.refl h).nil 3 1 aD⟩ ?_;rintro⟨i,o⟩ D ⟨A,d⟩;dsimp only at*;refine al (fun e=>?_) (fun e=>?_)
 ·have b:i<syms.length:=by omega
  obtain⟨q,z⟩:=u i (by omega) b;refine(Seq.up s d.ai).dt (g:=yv) i rfl (by omega) (c[i]'(by omega)) rfl ?_;refine d.alloc ae rfl fun a x n=>?_;refine n.storeAll ae 1 rfl rfl (yv (c[i]'(by omega))) rfl rfl rfl rfl fun h3 f=>?_;refine⟨(c[i]'(by omega)).1,(f.box 1 rfl).cell0 rfl,?_⟩;refine f.push ae 0 rfl lL rfl (by decide) (fun _=>rfl) jf (c[i]'(by omega)).1 rfl (by decide) (by simp;omega) fun m w j=>?_;refine⟨(i+1,m),by dsimp only;rw[ak _];rfl,⟨by dsimp only;omega,?_⟩,by dsimp only;omega⟩;dsimp only;rw[aI _ _ b,qT];rw[q]at j;exact j.bK [0]
 ·have:i=syms.length:=by omega
  subst this;rw[qQ]at d;exact⟨o,rfl,d⟩
theorem abB{B:aB}{h0 h:Heap}{As:List HP}(f b:Sl)(d c:Row)(H:aa B h0 h (ar 5 b 1 aE c::As))(t:St B h0 As fun h=>Rd h f 1 aE d)
  (u:d.length=c.length) (G:d.length<=2^30) {K:Heap->Prop} (w:∀h',aa B h0 h' (ar 5 b 1 aE (dl 1 d c)::As)->K h'):
  aJ (σ:=Int) (fun a v g=>
 Br (decide (a<((f.len:Nat):Int)))
 (∃n:Addr,(f.ptr=some n/\0<=a/\a<((f.len:Nat):Int))/\
 ∃o:Int,cellOf g (n.add (a.toNat*1))=some (xl xu o)/\
 ∃p:Addr,(b.ptr=some p/\0<=a/\a<((b.len:Nat):Int))/\
 ∃j:Int,cellOf g (p.add (a.toNat*1))=some (xl xu j)/\
 ∃a28:Addr,(b.ptr=some a28/\0<=a/\a<((b.len:Nat):Int))/\
 ag xx (qf 5 (xo (some (a28.add (a.toNat*1)))) (xl xu (qc xu ((qC (qk xu) j^^^(qC (qk xu) o)).toNat:Nat)))) g fun _ q=>
 v (qc xt (a+(1:Int))) q) (K g)) (0:Int) h:=by
 have E:f.len=d.length:=(t.at [ar 5 b 1 aE c] H).len;refine aw (fun k:Nat=>(k:Int)) (fun k h'=>k<=d.length/\aa B h0 h' (ar 5 b 1 aE (zo (fun x y=>y^^^x) (d.take k) (c.take k)++c.drop k)::As)) (fun k=>d.length-k) 0 rfl ⟨by omega,by simpa using H⟩ ?_;rintro k F ⟨z,l⟩;have A:=t.at [_] l;refine al (fun e=>?_) (fun e=>?_)
 ·have r:k<d.length:=by omega
  have m:(zo (fun x y=>y^^^x) (d.take k) (c.take k)).length=k:=by simp;omega
  have D:(zo (fun x y=>y^^^x) (d.take k) (c.take k)++c.drop k).length=c.length:=by rw[qx,m,za];omega
  refine A.bx k rfl r _ rfl ?_;have i:(zo (fun x y=>y^^^x) (d.take k) (c.take k)++c.drop k)[k]'(by omega)=c[k]:=by
   rw[wJ (by omega)];simp[m]
  refine(l.seq 0 rfl fun _=>rfl).bx k rfl (by omega) _ rfl ?_;rw[i,pC];refine l.set ae 0 rfl (fun _=>rfl) rfl k rfl (by omega) _ rfl rfl rfl fun h3 s=>?_;rw[zC,GV u]at s;exact⟨k+1,by rw[ak _];rfl,⟨by omega,s⟩,by omega⟩
 ·have:k=d.length:=by omega
  subst this;rw[qi (ql _),qi (by omega),zb (by omega),qS,<-UH]at l;exact w F l
theorem WS(p:Pm)(seed:Int)(l:Sl)(syms:List (Int×Row))(h:Heap)(U:fx LW h l syms)(ah:syms.length<=2^18):
  ac xx 68 #[kh p,xl xv seed,l] h fun v h'=>∃r:Sl,v=.tuple #[r,xl xt (mG p seed syms).2]/\Sp h h' [ar 5 r 1 aE (mG p seed syms).1]:=by
 refine Jh p seed l ?_;unfold BW;refine(Sp.refl h).boxed fun J h1 H1=>?_;have s:∀{h':Heap} (e:Int),Sp h h' [aq J 24 [xl xt p.1,xl xt p.2.1,xl xt p.2.2]]->mG p seed syms=([],e)->∃r:Sl,(.tuple #[xn none 0 0,xl xt e]:Value)=.tuple #[r,xl xt (mG p seed syms).2]/\Sp h h' [ar 5 r 1 aE (mG p seed syms).1]:=fun e V he=>by
  rw[he];exact⟨⟨none,0,0⟩,rfl,(V.nil 5 1 aE).bK [1]⟩
 refine be ⟨p,(H1.box 0 rfl).aL _ rfl,?_⟩;refine(ey p h1).mono ?_;rintro _ h2 ⟨rfl,R2⟩;have P:=H1.up R2.ai;refine⟨_,rfl,bh (fun e=>?_) (fun a=>?_)⟩
 ·exact s 1 P (by unfold mG;rw[e];rfl)
 refine(TW p J l syms h2 (P.box 0 rfl) (fx.up U P.ai) (by omega)).mono ?_;rintro _ h3 ⟨rfl,R3⟩;have Q:=P.up R3.ai;refine⟨_,rfl,bh (fun e=>?_) (fun d=>?_)⟩
 ·exact s 1 Q (by unfold mG;rw[a,e];rfl)
 refine be ⟨p,(Q.box 0 rfl).aL _ rfl,?_⟩;refine(Zy l syms h3 (fx.up U Q.ai) (by omega)).mono ?_;rintro _ h4 ⟨r,rfl,R4⟩;have H4:=Q.comp R4;have w:=H4.box 0 rfl;refine⟨r,rfl,⟨w.cell0 rfl,w.cell rfl,w.cell rfl,trivial⟩,?_⟩;refine(Of p seed r (syms.map qJ) h4 (H4.seq 1 rfl fun _=>rfl) (by simp;omega)).mono ?_;rintro _ h5 ⟨rfl,R5⟩;have N:Sp h h5 [aq J 24 [xl xt p.1,xl xt p.2.1,xl xt p.2.2]]:=(H4.up R5.ai).bK [0];refine⟨_,rfl,trivial,bh (fun e=>?_) (fun b=>?_)⟩
 ·exact s 9 N (by unfold mG;rw[a,d,e];rfl)
 have H:∀x∈syms,AD p x:=fun x g=>(Si a).1 (qN.1 d x g);have a2:=(bM p).1 a;have a3:=ri a;have hr:cR (dW p seed (syms.map qJ))=(cg p).toNat:=by
  have:=b;unfold fT Kq at this;rw[a]at this;simp at this;omega
 refine⟨p,(N.box 0 rfl).aL _ rfl,?_⟩;refine(abA p seed l syms (cg p).toNat p.2.2.toNat h5 (fx.up U N.ai) a H rfl rfl ah hr).mono ?_;rintro _ h6 (⟨hc,m,rfl,R6⟩|⟨hc,rfl,R6⟩)
 rotate_left
 ·refine⟨(⟨none,0,0⟩,10),rfl,ca (fun _=>s 10 (N.up R6.ai) ?_) (fun e=>absurd e (by decide))⟩;unfold mG;rw[a,d,b,if_neg hc];rfl
 refine⟨(m,0),rfl,ca (fun e=>absurd rfl e) (fun _=>?_)⟩;obtain⟨X,hX⟩:∃X,X=fI (cg p).toNat (dW p seed (syms.map qJ)) (rk p syms):=⟨_,rfl⟩
 have M:mG p seed syms=(tk p seed X p.1.toNat,0):=by unfold mG;rw[a,d,b,if_pos hc,hX];rfl
 have W:bg p.2.2.toNat (rk p syms):=fun x g=>by
  rcases qA.1 g with g|g
  ·rw[(wS.1 g).2];simp[aN]
  ·obtain⟨y,hy,rfl⟩:=qq.1 g;exact(H y hy).len
 have T:(dW p seed (syms.map qJ)).length=(rk p syms).length:=by
  rw[<-VE (n:=(cg p).toNat) (seed:=seed) a rfl H,<-VF (n:=(cg p).toNat) (seed:=seed) (p:=p) (l:=syms) rfl];exact uC
 obtain⟨G,k⟩:=uA T (me p seed _) W hr;rw[<-hX]at R6 G k;have H6:=(N.comp R6).Vl 1 rfl;obtain⟨O,R⟩:=aa.IU H6 1 rfl fun _=>rfl;have ax:=(R.dV 1 rfl).1.len;have ap:=(R.dV 1 rfl).2.1;refine⟨p.1,(R.box 0 rfl).cell0 rfl,?_⟩;rw[M];have K:Sp h h6 [ar 5 ⟨none,0,0⟩ 1 aE [],aq J 24 [xl xt p.1,xl xt p.2.1,xl xt p.2.2],cu (gr 1 aE) 1 bJ m O X]:=(R.nil 5 1 aE).bK [2,0,1];have L:∀j:Nat,(fE p.2.2.toNat X (dj (cg p).toNat seed (j:Int))).length=p.2.2.toNat:=fun j=>Uq k G fun x g=>ma (by omega) (by omega) g;have F:∀i,(tk p seed X i).length=i*p.2.2.toNat:=fun i=>by
  induction i with
  |zero=>simp[tk]
  |succ i ih=>rw[Oz,qx,ih,L,zJ]
 refine aw (fun t:Nat×Sl=>(t.2,(t.1:Int))) (fun t h'=>t.1<=p.1.toNat/\Sp h h' [ar 5 t.2 1 aE (tk p seed X t.1),aq J 24 [xl xt p.1,xl xt p.2.1,xl xt p.2.2],cu (gr 1 aE) 1 bJ m O X]) (fun t=>p.1.toNat-t.1) (0,⟨none,0,0⟩) rfl ⟨by omega,by simpa[tk]using K⟩ ?_;rintro⟨i,o⟩ h8 ⟨hi,K⟩;dsimp only at*;refine al (fun e=>?_) (fun e=>?_)
 ·have a4:i<p.1.toNat:=by omega
  refine⟨p.2.2,(K.box 1 rfl).cell rfl,?_⟩;refine K.make ae aE ga (by decide) 0 rfl rfl p.2.2.toNat p.2.2.toNat (by omega) (by omega) (ql _) (by omega) fun sm h9 _ _ H9=>?_;refine⟨p,(H9.box 1 rfl).aL _ rfl,(AO p seed (i:Int) h9).mono ?_⟩;rintro _ a0 ⟨c,rfl,z⟩;have ad:(bL p&&bS (i:Int))=true:=by rw[a];unfold bS;simp;omega
  rw[ad,if_pos rfl]at z;have I:=(H9.comp z).bK [3,0,1,2,4];refine⟨c,rfl,?_⟩;generalize D:dj (cg p).toNat seed (i:Int)=cs at I z;have u:∀x∈cs,0<=x/\x<((cg p).toNat:Int):=fun x g=>ma (by omega) (by omega) (D▸g);have am:cs.length<=20:=by have:=Ao (n:=(cg p).toNat) (by omega) (by omega) seed (i:Int);rw[D]at this;omega
  have ao:=(I.own 4 rfl).len;refine aw (fun j:Nat=>(j:Int)) (fun j h'=>j<=cs.length/\Sp h h' [ar 5 sm 1 aE (fE p.2.2.toNat X (cs.take j)),ar 5 o 1 aE (tk p seed X i),aq J 24 [xl xt p.1,xl xt p.2.1,xl xt p.2.2],cu (gr 1 aE) 1 bJ m O X,ar 3 c 1 aD cs]) (fun j=>cs.length-j) 0 rfl ⟨by omega,I⟩ ?_;rintro j ay ⟨hj,f⟩;have B:=oU k G u j hj;refine al (fun e2=>?_) (fun e2=>?_)
  ·have E:j<cs.length:=by omega
   have a5:=u _ (qh E);refine(f.seq 4 rfl fun _=>rfl).bx j rfl E _ rfl ?_;have q:cs[j].toNat<X.length:=by omega
   refine(f.dV 3 rfl).1.nL cs[j].toNat (by omega) (by omega) ?_;have S:(X[cs[j].toNat]'q).length=p.2.2.toNat:=k _ (qh _);refine abB (O[cs[j].toNat]'(by omega)) sm (X[cs[j].toNat]'q) _ f (St.mk' fun h' V=>Fix.row (V.dV 2 rfl) q) (by rw[S,B]) (by omega) fun Z A=>?_;refine⟨j+1,by rw[ak _];rfl,⟨by omega,?_⟩,by omega⟩;rw[aI _ _ E,Da,lH q];exact A
  ·have ab:j=cs.length:=by omega
   subst ab;rw[qQ]at f B;refine f.append ae 1 rfl ga Rz rfl (by decide) (fun _=>rfl) (f.seq 0 rfl fun _=>rfl) gw (by rw[F,B];have:i*p.2.2.toNat<=16*24:=Nat.mul_le_mul (by omega) (by omega);omega) fun o' Z A=>?_;refine⟨(i+1,o'),by dsimp only;rw[ak _];rfl,⟨by dsimp only;omega,?_⟩,by dsimp only;omega⟩;dsimp only;rw[Oz,D];exact A.bK [1,2,3]
 ·have Y:i=p.1.toNat:=by omega
  subst Y;exact⟨o,rfl,K.bK [0]⟩
end Go.Qw
namespace Wl
section
variable {p:Int×Int×Int} {seed:Int} {d:Row} {K H w n:Nat}
def li(p:Int×Int×Int)(seed:Int)(X:aS)(ids:aC):List (Int×Row):=ids.map fun i=>(i,fE p.2.2.toNat X (dj (cg p).toNat seed i))
theorem bT.size(B:bT p seed d K H w n):p.2.2.toNat=w:=by have:=B.s;omega
theorem JK(X:aS)(ids:aC):(li p seed X ids).map qJ=ids:=by simp[li,wR,Function.comp_def]
theorem bT.Sj(B:bT p seed d K H w n){ids:aC}(hid:∀i∈ids,bS i=true):(li p seed (eW p seed d) ids).all (lS p)=true:=qN.2 fun x b=>by
 obtain⟨i,a,rfl⟩:=qq.1 b;refine(Si B.may).2 ⟨hid i a,?_⟩;dsimp only;rw[B.size,B.oV];exact B.XO i
theorem LX{α β:Type}{f g:α->List β}:∀(l:List α),(∀x∈l,f x=g x)->l.flatMap f=l.flatMap g
 |[],_=>rfl
 |a::l,h=>by rw[zl,zl,h a (by simp),LX l fun x b=>h x (by simp[b])]
theorem OA(d:Row)(w:Nat):∀i,i*w<=d.length->(qE i).flatMap (Go.Vc.Fc d w)=d.take (i*w)
 |0,_=>by simp
 |i+1,h=>by
  have e:(i+1)*w=i*w+w:=zJ i w;rw[zI,zh,OA d w i (by omega),e,List.take_add];simp[Go.Vc.Fc]
theorem bT.out(B:bT p seed d K H w n):tk p seed (eW p seed d) p.1.toNat=d:=by
 have a:p.1.toNat=K:=by have:=B.k;omega
 unfold tk;rw[a,B.size,B.oV];have:(qE K).flatMap (fun j:Nat=>fE w (eW p seed d) (dj n seed (j:Int)))=(qE K).flatMap (Go.Vc.Fc d w):=by
  exact LX _ fun j b=>B.aat (qD.1 b)
 rw[this,OA d w K (by rw[B.len];exact ql _),qi (by rw[B.len];exact ql _)]
theorem bT.Zz(B:bT p seed d K H w n){ids:aC}(hid:∀i∈ids,bS i=true):Wl.fh n w (dW p seed ids) (rk p (li p seed (eW p seed d) ids)) (eW p seed d):=by
 have l:ids.filter bS=ids:=z6.2 hid;have j:dW p seed ids=bz K H++ids.map (rf n seed):=by
  unfold dW;rw[B.may,if_pos rfl,l,B.oV];have o:p.1.toNat=K:=by have:=B.k;omega
  have e:p.2.1.toNat=H:=by have:=B.h;omega
  rw[o,e]
 have m:rk p (li p seed (eW p seed d) ids)=qg H (aN w)++ids.map fun i=>fE w (eW p seed d) (dj n seed i):=by
  unfold rk li;have e:p.2.1.toNat=H:=by have:=B.h;omega
  rw[e,B.size,B.oV,wR];rfl
 refine⟨B.rZ.1,B.rZ.2,fun i g=>?_⟩;rw[j]at g⊢;rw[m];have b:(bz K H).length=H:=by simp[bz]
 simp only[qx,qu,b]at g;by_cases a:i<H
 ·have f:aA (bz K H++ids.map (rf n seed)) i=kS K H i:=by
   rw[bv (by simp;omega),w9 (by omega)];simp[bz]
  have c:aA (qg H (aN w)++ids.map fun i=>fE w (eW p seed d) (dj n seed i)) i=aN w:=by
   rw[bv (by simp;omega),w9 (by simpa using a)];simp
  rw[f,c];exact B.low a
 ·have f:aA (bz K H++ids.map (rf n seed)) i=rf n seed (ids[i-H]'(by omega)):=by
   rw[bv (by simp;omega),wJ (by omega)];simp[b]
  have c:aA (qg H (aN w)++ids.map fun i=>fE w (eW p seed d) (dj n seed i)) i=fE w (eW p seed d) (dj n seed (ids[i-H]'(by omega))):=by
   rw[bv (by simp;omega),wJ (by simpa using a)];simp
  rw[f,c,B.sym]
theorem ZA{l:List (Int×Row)}(b:∀x∈l,AD p x):bg p.2.2.toNat (rk p l):=fun x a=>by
 rcases qA.1 a with a|a
 ·rw[(wS.1 a).2];simp[aN]
 ·obtain⟨y,c,rfl⟩:=qq.1 a;exact(b y c).len
theorem TX(a:bL p=true){l:List (Int×Row)}(b:∀x∈l,AD p x):(dW p seed (l.map qJ)).length=(rk p l).length:=by
 rw[<-VE (n:=(cg p).toNat) (seed:=seed) a rfl b,<-VF (n:=(cg p).toNat) (seed:=seed) (p:=p) (l:=l) rfl];exact uC
theorem GZ(a:bL p=true){ids:aC}:fT p seed ids=true↔cR (dW p seed ids)=(cg p).toNat:=by
 have:=ri a;have:=(bM p).1 a;unfold fT Kq;rw[a,zW];simp;omega
theorem bT.dec(B:bT p seed d K H w n){ids:aC}(hid:∀i∈ids,bS i=true)(e:fT p seed ids=true):mG p seed (li p seed (eW p seed d) ids)=(d,0):=by
 have a:∀x∈li p seed (eW p seed d) ids,AD p x:=fun x h=>(Si B.may).1 (qN.1 (B.Sj hid) x h);have f:=B.Zz hid;have b:=TX (seed:=seed) B.may a;rw[JK]at b;have g:=(GZ B.may).1 e;have c:=kU b (me p seed ids) (ZA a) g (by rw[B.oV,B.size];exact f);unfold mG;rw[B.may,B.Sj hid,JK,e];simp only[Bool.and_self,if_true];rw[if_pos c.2,<-c.1,B.out]
theorem abC(a:bL p=true){l:List (Int×Row)}(b:l.all (lS p)=true)(c:fT p seed (l.map qJ)=false):mG p seed l=([],9):=by
 unfold mG;rw[a,b,c];rfl
end
end Wl
namespace Go.Qw
open Go Go.Vc Go.Proofs Wl
end Go.Qw
namespace Wl
section
variable {p:Int×Int×Int} {seed:Int} {d:Row} {K H w n:Nat}
end
theorem TY{n:Nat}{A:aS}(l:bg n A)(d:cR A=n){y:Nat->UInt8}(u:∀r∈A,bF (fun j=>aQ r j) y n=0):∀i,i<n->y i=0:=by
 intro i p;let Y:aS:=(qE n).map fun c=>[y c]
 have o:bg 1 (qg A.length (aN 1)):=fun r d=>by rw[(wS.1 d).2];rfl
 have a:A.length=(qg A.length (aN 1)).length:=by simp
 have f:∀j,j<A.length->aA (qg A.length (aN 1)) j=aN 1:=fun j g=>by rw[bv (by simpa using g)];simp
 have e:∀z:Nat->UInt8,(∀r∈A,bF (fun j=>aQ r j) z n=0)->fh n 1 A (qg A.length (aN 1)) ((qE n).map fun c=>[z c]):=fun z s=>by
  have b:bg 1 ((qE n).map fun c=>[z c]):=fun r d=>by obtain⟨c,_,rfl⟩:=qq.1 d;rfl
  refine⟨by simp,b,fun j g=>?_⟩;rw[f j g];refine fB (n:=1) (ib b (by simp) _ n (ql _)) rfl fun k w=>?_;obtain rfl:k=0:=by omega
  rw[gA b (by simp) _ 0 n (ql _),cz,<-s _ (mem_row g)];refine fD n (fun _ _=>rfl) fun c q=>?_;rw[bv (by simpa using q)];simp[aQ]
 have t:=(kU a l o d (e (fun _=>0) fun r _=>dot_zero' r n)).1;have v:=(kU a l o d (e y u)).1;have h:aQ (aA ((qE n).map fun c=>[y c]) i) 0=aQ (aA ((qE n).map fun _=>[(0:UInt8)]) i) 0:=congrArg (fun m=>aQ (aA m i) 0) (v.trans t.symm);rw[bv (by simpa using p),bv (by simpa using p)]at h;simpa[aQ]using h
where
 dot_zero' (r:Row):∀n,bF (fun j=>aQ r j) (fun _=>(0:UInt8)) n=0
  |0=>rfl
  |n+1=>by rw[bF,dot_zero' r n,Gf.mul_zero];rfl
section
variable {p:Int×Int×Int} {seed:Int} {d:Row} {K H w n:Nat}
theorem adK{ids c:aC}(h:∀i∈ids,i∈c):∀r∈dW p seed ids,r∈dW p seed c:=fun r a=>by
 unfold dW at*;cases hm:bL p
 ·rw[hm]at a;simp at a
 ·rw[hm,if_pos rfl,qA]at a;rw[if_pos rfl,qA];rcases a with a|a
  ·exact .inl a
  ·obtain⟨i,b,rfl⟩:=qq.1 a;rw[qB]at b;exact .inr (qq.2 ⟨i,qB.2 ⟨h i b.1,b.2⟩,rfl⟩)
theorem ZB(d:bL p=true){ids a:aC}(h:∀i∈ids,i∈a)(g:fT p seed ids=true):fT p seed a=true:=by
 have c:=(GZ d).1 g;refine(GZ d).2 ?_;have f:=Ft (me p seed a);by_cases b:cR (dW p seed a)<(cg p).toNat
 ·exfalso;obtain⟨y,⟨i,k,e⟩,j⟩:=kernel (me p seed a) b;exact e (TY (me p seed ids) c (fun r c=>j r (adK h r c)) i k)
 ·omega
end
end Wl
namespace Go.Qw
open Go Go.Vc Go.Proofs Wl
theorem go(a b:cC):mH a b=true↔a.object=b.object/\a.block=b.block/\a.id=b.id:=by unfold mH;rw[decide_eq_true_eq]
theorem UJ{l:List cC}{i:Nat}(a:i<l.length)(b:oP l i=true):l[i]∈rh l:=by
 unfold rh;exact qq.2 ⟨i,qB.2 ⟨qD.2 a,b⟩,fQ _ a⟩
theorem abD{l:List cC}{r:cC}(h:r∈l):∃b∈rh l,mH b r=true:=by
 have e:∀i (a:i<l.length),∃b∈rh l,mH b l[i]=true:=by
  intro i
  induction i with
  |zero=>intro a;exact⟨l[0],UJ a (by unfold oP;simp),(go _ _).2 ⟨rfl,rfl,rfl⟩⟩
  |succ i ih=>
   intro a;cases hk:oP l (i+1)with
   |true=>exact⟨_,UJ a hk,(go _ _).2 ⟨rfl,rfl,rfl⟩⟩
   |false=>
    obtain⟨b,f,d⟩:=ih (by omega);unfold oP at hk;rw[Bool.or_eq_false_iff,Bool.not_eq_false']at hk;have c:=hk.2;rw[Nat.add_sub_cancel,fQ _ a,fQ _ (show i<l.length by omega)]at c;rw[go]at d c;exact⟨b,f,(go _ _).2 ⟨by rw[d.1,c.1],by rw[d.2.1,c.2.1],by rw[d.2.2,c.2.2]⟩⟩
 obtain⟨i,a,rfl⟩:=qH h;exact e i a
theorem dZ{m:aG}{r:cC}:cX m r=true↔ia r=true/\r.p=m.p/\∃x∈m.objs,x.object=r.object/\r.block<(x.tries.length:Int)/\r.seed=cN r.object r.block (x.tries.getD r.block.toNat 0):=by
 unfold cX;rw[qz,qz,decide_eq_true_eq,wV];simp only[qz,decide_eq_true_eq]
theorem JL{m:aG}(d:bO m=true){x y:Wl.bV}(f:x∈m.objs)(e:y∈m.objs)(h:x.object=y.object):x=y:=by
 have a:=zp.1 ((bZ m).1 d).2.2.2.2.2.2;obtain⟨i,b,rfl⟩:=qH f;obtain⟨j,c,rfl⟩:=qH e;rcases yg i j with hl|rfl|hl
 ·exact absurd h (a i j b c hl)
 ·rfl
 ·exact absurd h.symm (a j i c b hl)
theorem OB{m:aG}(d:bO m=true){x y:Wl.bV}(f:x∈m.objs)(e:y∈m.objs)(h:x.name=y.name):x=y:=by
 have a:=zp.1 ((bZ m).1 d).2.2.2.2.2.1;obtain⟨i,b,rfl⟩:=qH f;obtain⟨j,c,rfl⟩:=qH e;rcases yg i j with hl|rfl|hl
 ·exact absurd h (AR (a i j b c hl))
 ·rfl
 ·exact absurd h.symm (AR (a j i c b hl))
def ft(m:aG)(C:Int->aX)(o b:Int):aX:=(bo m.p (C o)).getD b.toNat []
def DN(m:aG)(C:Int->aX)(r:cC):Prop:=r.data=xP m.p r.seed (ft m C r.object r.block) r.id
theorem JM{m:aG}{C:Int->aX}{r a:cC}(u:bO m=true)(w:cX m r=true)(i:cX m a=true)(e:DN m C r)(g:DN m C a)(h:mH a r=true):a=r:=by
 obtain⟨_,v,p,d,q,_,n⟩:=dZ.1 w;obtain⟨_,s,x2,b,j,_,t⟩:=dZ.1 i;rw[go]at h;obtain⟨c,f,o⟩:=h;have k:p=x2:=JL u d b (by rw[q,j,c]);subst k;have l:a.seed=r.seed:=by rw[n,t,c,f]
 unfold DN at e g;cases r;cases a;simp only at*;subst c f o l;rw[v,s,e,g]
structure hJ (m:aG) (C:Int->aX) (c:aX):Prop where
 old:∀r,dp c=some r->r.object<m.next
 tru:∀r,dp c=some r->cX m r=true->DN m C r
 page:∀g,CD c=some g->g.seq<=m.seq/\(g.seq=m.seq->c∈aY m)
theorem DO{m:aG}{C:Int->aX}{l:cD}(o:bO m=true)(g:∀c∈l,hJ m C c){c:aX}(i:c∈l){r:cC}(j:dp c=some r)(f:cX m r=true):r∈cZ m l:=by
 have a:r∈(l.filterMap (jw m)).mergeSort pM:=List.mem_mergeSort.2 (List.mem_filterMap.2 ⟨c,i,by unfold jw;rw[j];dsimp only;rw[if_pos f]⟩);obtain⟨h,k,p⟩:=abD a;obtain⟨n,d,e,b⟩:=uo (m:=m) (l:=l) (r:=h) k;have:=JM o f b ((g c i).tru r j f) ((g n d).tru h e b) p;rw[<-this];exact k
theorem fe{m:aG}{l:cD}{r:cC}(h:r∈cZ m l):cy r∈l/\dp (cy r)=some r/\cX m r=true:=by
 obtain⟨c,b,a,d⟩:=uo h;rw[(Vq a).1];exact⟨b,a,d⟩
theorem CF{n:aG}(C:Int->aX){c:aX}(e:bO n=true)(h:c∈aY n):hJ n C c:=by
 have h0:=fb h;refine⟨fun r a=>(by rw[h0]at a;cases a),fun r a _=>(by rw[h0]at a;cases a),fun g b=>?_⟩;rw[Ot]at h;obtain⟨i,d,rfl⟩:=qq.1 h;rw[WE e (qD.1 d)]at b;injection b with b
 subst b;exact⟨vB _,fun _=>by rw[Ot];exact qq.2 ⟨i,d,rfl⟩⟩
theorem adL{m:aG}{C:Int->aX}{l:cD}(a:bO m=true)(b:∀c∈l,hJ m C c):∀c∈ir m l,hJ m C c:=fun c d=>by
 rcases qA.1 d with h|h
 ·exact CF C a h
 ·obtain⟨r,e,rfl⟩:=qq.1 h;exact b _ (fe e).1
theorem UK{m:aG}{C:Int->aX}{d:bB}{N:Int}(e:bO m=true)(b:∀c∈d.l,hJ m C c):∀c∈(dI m d N).l,hJ m C c:=fun c a=>by
 unfold dI at a;split at a
 ·exact b c a
 ·exact adL e b c a
theorem JN{m:aG}{C:Int->aX}{d:bB}{N:Int}(b:bO m=true)(e:∀c∈d.l,hJ m C c){r:cC}(a:cy r∈d.l)(f:dp (cy r)=some r)(g:cX m r=true):cy r∈(dI m d N).l:=by
 unfold dI;split
 ·exact a
 ·exact wq _ (qq.2 ⟨r,DO b e a f g,rfl⟩)
theorem WT{r:cC}(h:ia r=true):CD (cy r)=none:=by
 have a:=nX h;unfold CD cy;rw[if_pos h,Au];dsimp only;rw[if_neg (by rintro⟨h,_⟩;exact absurd h (by decide))]
theorem DP{m n:aG}{C D:Int->aX}{o b:Int}(a:n.p=m.p)(h:D o=C o):ft n D o b=ft m C o b:=by unfold ft;rw[a,h]
theorem DN.congr{m n:aG}{C D:Int->aX}{r:cC}(a:n.p=m.p)(b:D r.object=C r.object)(h:DN m C r):DN n D r:=by
 unfold DN at h⊢;rw[DP a b,a];exact h
theorem ut{m n:aG}{r:cC}(b:n.p=m.p)(a:∀x∈n.objs,x∈m.objs)(h:cX n r=true):cX m r=true:=by
 obtain⟨e,c,x,d,h3⟩:=dZ.1 h;exact dZ.2 ⟨e,by rw[c,b],x,a x d,h3⟩
theorem hJ.next{m n:aG}{C:Int->aX}{c:aX}(h:hJ m C c)(d:n.p=m.p)(k:m.next<=n.next)(j:m.seq<n.seq)(a:∀x∈n.objs,x∈m.objs):hJ n C c:=
 ⟨fun r b=>by have:=h.old r b;omega,fun r b i=>(h.tru r b (ut d a i)).congr d rfl,fun g f=>by have:=(h.page g f).1;exact⟨by omega,fun e=>by omega⟩⟩
def kf(C:Int->aX)(o:Int)(b:aX):Int->aX:=fun k=>if k=o then b else C k
theorem hJ.with{m:aG}{C:Int->aX}{e:Wl.bV}{b c:aX}(h:hJ m C c)(o:e.object=m.next):hJ (db m e) (kf C m.next b) c:=by
 refine⟨fun r a=>?_,fun r a j=>?_,fun g k=>?_⟩
 ·have:=h.old r a;show r.object<m.next+1;omega
 ·have l:=h.old r a;obtain⟨n,i,x,d,h3,f⟩:=dZ.1 j;rcases mD.1 d with d|rfl
  ·refine(h.tru r a (dZ.2 ⟨n,i,x,d,h3,f⟩)).congr (m:=m) rfl ?_;unfold kf;rw[if_neg (by omega)]
  ·omega
 ·have:=(h.page g k).1;show g.seq<=m.seq+1/\(g.seq=m.seq+1->_)
  exact⟨by omega,fun e=>by omega⟩
theorem afh{m:aG}{C:Int->aX}{e:Wl.bV}{b:aX}{seed:Int}{i id:Nat}(f:0<=seed/\seed<4294967296)(c:ia (jF m m.next i seed ((bo m.p b).getD i []) id)=true):
  hJ (db m e) (kf C m.next b) (cy (jF m m.next i seed ((bo m.p b).getD i []) id)):=by
 have a:=md c f;refine⟨fun r h=>?_,fun r h j=>?_,fun g h=>?_⟩
 ·rw[a]at h;injection h with h;subst h
  show m.next<m.next+1;omega
 ·rw[a]at h;injection h with h;subst h
  have d:ft (db m e) (kf C m.next b) m.next (i:Int)=(bo m.p b).getD i []:=by
   unfold ft kf;rw[if_pos rfl,qo];rfl
  show xP m.p seed ((bo m.p b).getD i []) id=xP (db m e).p seed (ft (db m e) (kf C m.next b) m.next (i:Int)) id;rw[d];rfl
 ·rw[WT c]at h;cases h
structure fw (m:aG) (C:Int->aX) (ds:aT):Prop where
 may:bO m=true
 len:ds.length=64
 cells:∀k d,bp ds k=some d->∀c∈d.l,hJ m C c
 ents:∀e∈m.objs,((C e.object).length:Int)=e.length/\cG m.p e.object (bo m.p (C e.object)).length=some e.tries
theorem fw.old{m:aG}{C:Int->aX}{ds:aT}(S:fw m C ds){e:Wl.bV}(a:e∈m.objs):e.object<m.next:=((gC m e).1 (((bZ m).1 S.may).2.2.2.2.1 e a)).2.1.2
theorem nR{ds ds':aT}{f:Int->bB->bB}(h:∀k,bp ds' k=(bp ds k).map (f k)){k:Int}{d:bB}(a:bp ds' k=some d):∃b,bp ds k=some b/\d=f k b:=by
 rw[h]at a;cases h0:bp ds k with
 |none=>rw[h0]at a;cases a
 |some b=>rw[h0]at a;injection a with a;exact⟨b,rfl,a.symm⟩
theorem UL{n:aG}{C:Int->aX}{b:cD}{d:bB}(f:∀c∈d.l,hJ n C c)(e:∀c∈b,hJ n C c):∀c∈(dq b d).l,hJ n C c:=fun c a=>by
 rw[mF]at a;rcases qA.1 a with h|h
 ·exact f c h
 ·exact e c h
def kq(m:aG)(ds:aT)(t:aC)(b:aX)(n:aG)(k:Int)(d:bB):bB:=
 if k∈bc ds m.drives then dq ((gn m m.next t (bo m.p b) (bc ds m.drives) k (bo m.p b).length).map cy++aY n) (dI m d (iU (aY n).length (di m m.next t (bo m.p b) (bc ds m.drives) (bo m.p b).length) k))else d
theorem adM{m:aG}{offs:Int}{w:Pow}{ds:aT}{C:Int->aX}{name:ByteArray}{b:aX}(x:w.calm)(S:fw m C ds):
  ((∃e,e≠0/\gf m offs w ds name b=(e,m,w,ds))/\((gf m offs w ds name b).1=cK m (dC w offs) ds name b.length∨(cK m (dC w offs) ds name b.length=0/\((gf m offs w ds name b).1=8/\cG m.p m.next (bo m.p b).length=none∨(gf m offs w ds name b).1=7/\∃t,cG m.p m.next (bo m.p b).length=some t/\cH m ds (bc ds m.drives) (iU (aY (db m ⟨name,m.next,b.length,t⟩)).length (di m m.next t (bo m.p b) (bc ds m.drives) (bo m.p b).length))=false))))∨
  (cK m (dC w offs) ds name b.length=0/\∃t ds',cG m.p m.next (bo m.p b).length=some t/\gf m offs w ds name b=(0,db m ⟨name,m.next,b.length,t⟩,w,ds')/\fw (db m ⟨name,m.next,b.length,t⟩) (kf C m.next b) ds'/\
   ∀k,bp ds' k=(bp ds k).map (kq m ds t b (db m ⟨name,m.next,b.length,t⟩) k)):=by
 obtain⟨G,u⟩:=Oo (offs:=offs) (name:=name) (b:=b) x S.len S.may;by_cases a:cK m (dC w offs) ds name b.length=0
 ·obtain⟨H,s⟩:=u a;cases ht:cG m.p m.next (bo m.p b).length with
  |none=>rw[H ht];exact .inl ⟨⟨8,by decide,rfl⟩,.inr ⟨a,.inl ⟨rfl,rfl⟩⟩⟩
  |some t=>
   obtain⟨j,v,y⟩:=s t ht;cases hf:cH m ds (bc ds m.drives) (iU (aY (db m ⟨name,m.next,b.length,t⟩)).length (di m m.next t (bo m.p b) (bc ds m.drives) (bo m.p b).length))with
   |false=>rw[v hf];exact .inl ⟨⟨7,by decide,rfl⟩,.inr ⟨a,.inr ⟨rfl,t,rfl,hf⟩⟩⟩
   |true=>
    obtain⟨ds',B,D,A⟩:=y hf;have g:∀k,bp ds' k=(bp ds k).map (kq m ds t b (db m ⟨name,m.next,b.length,t⟩) k):=A;refine .inr ⟨a,t,ds',rfl,B,⟨j,D,fun k d z=>?_,fun e l=>?_⟩,g⟩
    ·obtain⟨q,h0,rfl⟩:=nR g z;unfold kq;split
     ·refine UL (fun c f=>(UK S.may (S.cells k q h0) c f).with rfl) fun c f=>?_;rcases qA.1 f with h|h
      ·obtain⟨r,n,rfl⟩:=qq.1 h;obtain⟨i,id,rfl,E,hid⟩:=LJ n;obtain⟨J,I,z3,z4,z5⟩:=jq a;have o:=((dM m).1 ((bZ m).1 S.may).1)
       have h8:=uF o.2.2.1 (fun h=>z4 (.inl h));exact afh (jd _ _ _) (HM S.may (by have:¬16777215<m.next:=fun h=>z5 (.inr (.inl h));omega) h8 ht E hid)
      ·exact CF _ j h
     ·exact fun c f=>(S.cells k q h0 c f).with rfl
    ·rcases mD.1 l with l|rfl
     ·have F:=S.old l;have:kf C m.next b e.object=C e.object:=by unfold kf;rw[if_neg (by omega)]
      rw[this];exact S.ents e l
     ·have:kf C m.next b m.next=b:=by unfold kf;rw[if_pos rfl]
      show((kf C m.next b m.next).length:Int)=(b.length:Int)/\cG m.p m.next (bo m.p (kf C m.next b m.next)).length=some t;rw[this];exact⟨rfl,ht⟩
 ·rw[G a];exact .inl ⟨⟨_,a,rfl⟩,.inl rfl⟩
theorem WU{m n:aG}{offs:Int}{w:Pow}{ds:aT}{C:Int->aX}(v:w.calm)(S:fw m C ds)(y:dC w offs=false)(i:bO n=true)(D:n.seq=m.seq+1)(l:n.p=m.p)(o:m.next<=n.next)(a:∀x∈n.objs,x∈m.objs):
  ((bc ds n.drives=[]∨cH m ds (bc ds n.drives) (fun _=>((aY n).length:Int))=false)/\eC m offs w ds n=(7,m,w,ds))∨
  ((bc ds n.drives≠[]/\cH m ds (bc ds n.drives) (fun _=>((aY n).length:Int))=true)/\∃ds',eC m offs w ds n=(0,n,w,ds')/\fw n C ds'/\
   ∀k,bp ds' k=(bp ds k).map fun d=>if k∈bc ds n.drives then dq (aY n) (dI m d (aY n).length)else d):=by
 obtain⟨E,u⟩:=RX (m:=m) (n:=n) (offs:=offs) (w:=w) (ds:=ds) v S.len y i D;by_cases g:bc ds n.drives=[]∨cH m ds (bc ds n.drives) (fun _=>((aY n).length:Int))=false
 ·exact .inl ⟨g,E g⟩
 ·have r:bc ds n.drives≠[]:=fun h=>g (.inl h);have t:cH m ds (bc ds n.drives) (fun _=>((aY n).length:Int))=true:=by
   cases h:cH m ds (bc ds n.drives) (fun _=>((aY n).length:Int))with
   |false=>exact absurd (.inr h) g
   |true=>rfl
  obtain⟨ds',z,A,s⟩:=u r t;refine .inr ⟨⟨r,t⟩,ds',z,⟨i,A,fun k d j=>?_,fun e B=>?_⟩,s⟩
  ·obtain⟨q,h0,rfl⟩:=nR (f:=fun k d=>if k∈bc ds n.drives then dq (aY n) (dI m d (aY n).length)else d) s j;split
   ·exact UL (fun c b=>(UK S.may (S.cells k q h0) c b).next l o (by omega) a) fun c b=>CF C i b
   ·exact fun c b=>(S.cells k q h0 c b).next l o (by omega) a
  ·have:=S.ents e (a e B);rw[l];exact this
end Go.Qw
namespace Wl
open Go Go.Qw Go.Vc
def mT(p:Int×Int×Int)(a:cD)(n:Int):aX:=if bL p=true/\0<=n/\(a.length:Int)=countP p n/\(a.all fun x=>decide (x.length=dH p))=true then a.flatten.take n.toNat else[]
noncomputable def jr(m:aG)(ds:aT)(o:Int)(a:aC)(k:Nat):aX×Int:=mG m.p (cN o k (a.getD k 0)) (iu m ds (bc ds m.drives) o k)
def LY(m:aG)(ds:aT)(k:Int):Bool:=match bp ds k with|some d=>mC m d.l|none=>false
def rE(m:aG)(ds:aT):Bool:=(bc ds m.drives).any (LY m ds)
noncomputable def Bz(m:aG)(ds:aT)(e:bV):aX×Int:=
 if rE m ds=false then([],11)else if((qE e.tries.length).all fun k=>decide ((jr m ds e.object e.tries k).2=0))=true then(mT m.p ((qE e.tries.length).map fun k=>(jr m ds e.object e.tries k).1) e.length,0)else([],11)
noncomputable def nf(m:aG)(offs:Int)(w:Pow)(ds:aT)(name:ByteArray):aX×Int:=
 if dC w offs then([],14)else match m.objs.find? (dP name)with
 |none=>([],5)
 |some e=>Bz m ds e
def oG(m:aG)(ds:aT)(o b:Int):aC:=(iu m ds (bc ds m.drives) o b).map qJ
def Sk(m:aG)(ds:aT)(e:bV):Bool:=rE m ds&&(qE e.tries.length).all fun k=>fT m.p (cN e.object k (e.tries.getD k 0)) (oG m ds e.object k)
theorem LZ(a:Nat)(b:aX):∀n,((qE n).map (um a b)).flatten=b.take (n*a)++qg (n*a-b.length) 0
 |0=>by simp
 |n+1=>by
  rw[zI,qT,List.flatten_append,LZ a b n,zJ];simp only[zV,vj,List.flatten_cons,List.flatten_nil,qS];unfold um;by_cases h:n*a<=b.length
  ·have c:n*a-b.length=0:=by omega
   rw[c,List.replicate_zero,qS,<-qp,<-List.take_add,List.drop_replicate,za];congr 2;omega
  ·have d:b.drop (n*a)=[]:=zb (by omega);rw[d,List.take_nil,List.nil_append,List.length_nil,List.drop_zero,qi (by omega),qi (by omega),qp,List.replicate_append_replicate];congr 2;omega
theorem II{p:Int×Int×Int}(a:bL p=true)(n:Nat):n<=(countP p n).toNat*dH p:=by
 obtain⟨h,g,b⟩:=kG a;unfold countP;rw[a,zW];by_cases h0:0<(n:Int)
 ·rw[decide_eq_true h0,if_pos rfl,<-b];have f:=Int.emod_lt_of_pos ((n:Int)-1) (show(0:Int)<(dH p:Int)by omega);have d:=Int.mul_ediv_add_emod ((n:Int)-1) (dH p:Int);have h3:0<=((n:Int)-1)/(dH p:Int):=Int.ediv_nonneg (by omega) (by omega);obtain⟨q,c⟩:=Int.eq_ofNat_of_zero_le h3;rw[c]at d⊢;have e:((q:Int)+1).toNat=q+1:=by omega
  rw[e,zJ];have:(dH p:Int)*(q:Int)=((q*dH p:Nat):Int):=by rw[Int.natCast_mul,Int.mul_comm]
  omega
 ·omega
theorem WV{p:Int×Int×Int}(a:bL p=true)(b:aX):mT p (bo p b) b.length=b:=by
 unfold mT;rw[if_pos ⟨a,by omega,xT a b,qN.2 fun x c=>by
  unfold bo at c;obtain⟨i,_,rfl⟩:=qq.1 c;exact decide_eq_true (Gy _ _ _)⟩]
 have:=II a b.length;unfold bo;rw[LZ,qi this,qo,List.take_append_of_le_length (ql _),qQ]
end Wl
namespace Go.Qw
open Go Go.Vc Go.Proofs Wl
section
variable {m:aG} {C:Int->aX} {ds:aT} {offs:Int} {w:Pow}
theorem WW{o b k:Int}{x:Int×aX}(h:x∈sK m ds o b k):∃d r,bp ds k=some d/\r∈cZ m d.l/\r.object=o/\r.block=b/\x=(r.id,r.data):=by
 unfold sK at h;cases hd:bp ds k with
 |none=>rw[hd]at h;cases h
 |some d=>
  rw[hd]at h;unfold xR at h;obtain⟨r,c,rfl⟩:=qq.1 h;obtain⟨e,a⟩:=qB.1 c;rw[qz,decide_eq_true_eq,decide_eq_true_eq]at a;exact⟨d,r,rfl,e,a.1,a.2,rfl⟩
theorem fw.entry(S:fw m C ds){e:Wl.bV}(a:e∈m.objs):gz m e=true:=((bZ m).1 S.may).2.2.2.2.1 e a
theorem fw.BA(S:fw m C ds):bL m.p=true:=((dM m).1 ((bZ m).1 S.may).1).2.2.1
theorem fw.blocks(S:fw m C ds){e:Wl.bV}(a:e∈m.objs):(bo m.p (C e.object)).length=e.tries.length:=(iq (S.ents e a).2).symm
theorem fw.fy(S:fw m C ds){e:Wl.bV}(a:e∈m.objs){k:Nat}(b:k<e.tries.length):∃K H w n,bT m.p (cN e.object k (e.tries.getD k 0)) (ft m C e.object k) K H w n:=by
 have h:=UF S.BA (S.ents e a).2 (i:=k) (by rw[S.blocks a];exact b);unfold ft;rw[qo];exact h
theorem fw.sym(S:fw m C ds){e:Wl.bV}(v:e∈m.objs){k:Nat}(A:k<e.tries.length){s:Int}{x:Int×aX}(h:x∈sK m ds e.object k s):
  bS x.1=true/\x.2=fE m.p.2.2.toNat (eW m.p (cN e.object k (e.tries.getD k 0)) (ft m C e.object k)) (dj (cg m.p).toNat (cN e.object k (e.tries.getD k 0)) x.1):=by
 obtain⟨d,r,o,l,f,g,rfl⟩:=WW h;obtain⟨w,n,j⟩:=fe l;obtain⟨u,z,y,q,t,_,i⟩:=dZ.1 j;have b:y=e:=JL S.may q v (by rw[t,f]);subst b;have hid:=((ge r).1 u).2.2.1;have a:bS r.id=true:=by unfold bS;simp;omega
 have c:=(S.cells s d o _ w).tru r n j;unfold DN at c;rw[f,g]at c;rw[f,g,qo]at i;refine⟨a,?_⟩;show r.data=_;rw[c,i];unfold xP;rw[if_pos a]
theorem Ma{α β:Type}{f:α->β}:∀{l:List (α×β)},(∀x∈l,x.2=f x.1)->l=(l.map qJ).map fun i=>(i,f i)
 |[],_=>rfl
 |x::l,h=>by
  have c:=h x qW;have b:=Ma (l:=l) fun y a=>h y (qR _ a);rw[zV,zV,<-b,<-c]
theorem fw.syms(S:fw m C ds){e:Wl.bV}(f:e∈m.objs){k:Nat}(d:k<e.tries.length)(a:aC):
  iu m ds a e.object k=li m.p (cN e.object k (e.tries.getD k 0)) (eW m.p (cN e.object k (e.tries.getD k 0)) (ft m C e.object k)) ((iu m ds a e.object k).map qJ)/\∀i∈(iu m ds a e.object k).map qJ,bS i=true:=by
 have c:∀x∈iu m ds a e.object k,bS x.1=true/\x.2=fE m.p.2.2.toNat (eW m.p (cN e.object k (e.tries.getD k 0)) (ft m C e.object k)) (dj (cg m.p).toNat (cN e.object k (e.tries.getD k 0)) x.1):=fun x b=>by
  unfold iu at b;obtain⟨s,_,b⟩:=zm.1 b;exact S.sym f d b
 refine⟨Ma fun x b=>(c x b).2,fun i g=>?_⟩;obtain⟨x,b,rfl⟩:=qq.1 g;exact(c x b).1
theorem fw.jr(S:fw m C ds){e:Wl.bV}(b:e∈m.objs){k:Nat}(d:k<e.tries.length):
  Wl.jr m ds e.object e.tries k=if fT m.p (cN e.object k (e.tries.getD k 0)) (oG m ds e.object k)=true then(ft m C e.object k,0)else([],9):=by
 obtain⟨K,H,w,n,B⟩:=S.fy b d;obtain⟨f,c⟩:=S.syms b d (bc ds m.drives);unfold Wl.jr;rw[f];by_cases a:fT m.p (cN e.object k (e.tries.getD k 0)) (oG m ds e.object k)=true
 ·rw[if_pos a];exact B.dec c a
 ·rw[if_neg a];refine abC B.may (B.Sj c) ?_;rw[JK];exact eq_false_of_ne_true a
theorem fw.Bz(S:fw m C ds){e:Wl.bV}(b:e∈m.objs):Wl.Bz m ds e=if Sk m ds e=true then(C e.object,0)else([],11):=by
 have a:((qE e.tries.length).all fun k=>decide ((Wl.jr m ds e.object e.tries k).2=0))=(qE e.tries.length).all fun k=>fT m.p (cN e.object k (e.tries.getD k 0)) (oG m ds e.object k):=by
  rw[y7,qN,qN];refine forall_congr' fun k=>forall_congr' fun g=>?_;rw[S.jr b (qD.1 g)];cases fT m.p (cN e.object k (e.tries.getD k 0)) (oG m ds e.object k)with
  |true=>simp
  |false=>simp
 unfold Wl.Bz Sk;rw[a];cases hw:rE m ds with
 |false=>rw[if_pos rfl,Bool.false_and,if_neg (by decide)]
 |true=>
  rw[if_neg (by decide),zW];cases hf:(qE e.tries.length).all fun k=>fT m.p (cN e.object k (e.tries.getD k 0)) (oG m ds e.object k)with
  |false=>rw[if_neg (by decide),if_neg (by decide)]
  |true=>
   rw[if_pos rfl,if_pos rfl];have f:((qE e.tries.length).map fun k=>(Wl.jr m ds e.object e.tries k).1)=bo m.p (C e.object):=by
    apply wk
    ·simp[S.blocks b]
    ·intro k c d;rw[zS,List.getElem_range];simp only[qu,zx]at c;rw[S.jr b c,if_pos (qN.1 hf k (qD.2 c))];unfold ft;rw[qo,fQ _ d]
   rw[f,<-(S.ents e b).1,WV S.BA]
theorem fw.get(S:fw m C ds)(g:dC w offs=false)(name:ByteArray):
  (∀e∈m.objs,e.name=name->nf m offs w ds name=if Sk m ds e=true then(C e.object,0)else([],11))/\((∀e∈m.objs,e.name≠name)->nf m offs w ds name=([],5)):=by
 refine⟨fun e b d=>?_,fun c=>?_⟩
 ·have a:m.objs.find? (dP name)=some e:=by
   cases a:m.objs.find? (dP name)with
   |none=>
    have:=zO.1 a e b;exact absurd (by unfold dP;rw[d];simp) this
   |some y=>
    have f:=List.find?_some a;have i:=wH a;rw[OB S.may i b (by rw[d];exact lh (by unfold dP at f;simpa using f))]
  unfold nf;rw[g,if_neg (by decide),a];exact S.Bz b
 ·have a:m.objs.find? (dP name)=none:=zO.2 fun e b h=>c e b (lh (by unfold dP at h;simpa using h));unfold nf;rw[g,if_neg (by decide),a]
end
theorem Mb{o b:Int}{live:aC}(g:0<=o/\o<=16777215)(i:0<=b/\b<8)(c:live.Nodup)(d:∀k∈live,0<=k/\k<64):(dG o b live).Nodup/\(dG o b live).Perm live:=by
 have e:dG o b live=sJ ((8*o+b)%64).toNat live:=by unfold dG;rw[if_pos (by omega)]
 rw[e];have f:=RG ((8*o+b)%64).toNat live;refine⟨f,(List.perm_ext_iff_of_nodup f c).2 fun a=>?_⟩;rw[GL];exact⟨fun h=>h.1,fun h=>⟨h,d a h⟩⟩
theorem abE{a b:cC}(d:pM a b=true)(c:pM b a=true):mH a b=true:=by
 unfold pM at d c;rw[decide_eq_true_eq]at d c;rw[go];omega
theorem abF{a b c:cC}(h:pM a b=true)(d:mH a c=true):pM c b=true:=by
 rw[go]at d;unfold pM at h⊢;rw[decide_eq_true_eq]at h⊢;omega
theorem WX{l:List cC}(h:l.Pairwise fun a b=>pM a b=true):(rh l).Pairwise fun a b=>mH a b=false:=by
 unfold rh;rw[wz];have k:((qE l.length).filter (oP l)).Pairwise (·<·):=(List.pairwise_lt_range (n:=l.length)).filter _;refine k.imp_of_mem fun{i j} hi hj hlt=>?_;have c:=qD.1 (qB.1 hj).1;have d:=(qB.1 hj).2;rw[fQ _ (show i<l.length by omega),fQ _ c];refine eq_false_of_ne_true fun g=>?_;unfold oP at d;rw[decide_eq_false (by omega),Bool.false_or,wL,fQ _ c,fQ _ (show j-1<l.length by omega)]at d;have f:=zp.1 h;have o:pM l[i] l[j-1]=true:=by
  by_cases e:i=j-1
  ·subst e;unfold pM;rw[decide_eq_true_eq];omega
  ·exact f i (j-1) (by omega) (by omega) (by omega)
 have m:pM l[j-1] l[j]=true:=f (j-1) j (by omega) c (by omega);have:=abE (abF o g) m;rw[d]at this;cases this
theorem rS(m:aG)(l:cD):(cZ m l).Pairwise fun a b=>mH a b=false:=WX (yj aeh.1 aeh.2 _)
theorem rF{α:Type}[DecidableEq α]:∀{l m:List α},l.Nodup->(∀x∈l,x∈m)->l.length<=m.length
 |[],m,_,_=>wm _
 |x::l,m,h,hs=>by
  obtain⟨f,d⟩:=List.nodup_cons.1 h;have c:=hs x qW;have:=rF (l:=l) (m:=m.erase x) d fun y b=>by
   have a:y≠x:=fun e=>f (e▸b);exact(List.mem_erase_of_ne a).2 (hs y (qR _ b))
  rw[List.length_erase_of_mem c]at this;have:=List.length_pos_of_mem c;rw[q9];omega
def jz(r:cC):Int×Int×Int:=(r.object,r.block,r.id)
def Ha(l:List Wl.bV)(T:Nat):List (Int×Int×Int):=l.flatMap fun e=>(qE e.tries.length).flatMap fun(i:Nat)=>(qE T).map fun(id:Nat)=>(e.object,(i:Int),(id:Int))
theorem Np{α β:Type}{f:α->List β}{c:Nat}:∀{l:List α},(∀x∈l,(f x).length=c)->(l.flatMap f).length=l.length*c
 |[],_=>by simp
 |x::l,h=>by
  rw[zl,qx,h x qW,Np fun y a=>h y (qR _ a),q9,zJ];omega
theorem Sm{l:List Wl.bV}{T c n:Nat}(h:∀e∈l,e.tries.length<=c)(a:l.length<=n):(Ha l T).length<=n*(c*T):=by
 refine q7 (CB (c:=c*T) fun e b=>?_) (zu _ a);rw[Np (c:=T) fun i _=>by simp,zx];exact zu _ (h e b)
section
variable {m:aG} {C:Int->aX} {ds:aT} {offs:Int} {w:Pow}
def sP(m:aG)(ds:aT):Prop:=∀k d,bp ds k=some d->∀c∈d.l,∀r,dp c=some r->cX m r=true->r.id<m.p.1+m.extra
theorem WY{l:cD}(a:∀r∈cZ m l,r.id<m.p.1+m.extra){c n:Nat}(g:∀e∈m.objs,e.tries.length<=c)(f:m.objs.length<=n):(cZ m l).length<=n*(c*(m.p.1+m.extra).toNat):=by
 have t:((cZ m l).map jz).Nodup:=by
  refine wz.2 ((rS m l).imp fun h e=>?_);unfold jz at e;injection e with e1 e2
  injection e2 with e2 e3
  rw[(go _ _).2 ⟨e1,e2,e3⟩]at h;cases h
 have b:=rF t (m:=Ha m.objs (m.p.1+m.extra).toNat) fun x i=>by
  obtain⟨r,d,rfl⟩:=qq.1 i;obtain⟨_,_,u⟩:=fe d;obtain⟨o,v,e,q,k,w,_⟩:=dZ.1 u;obtain⟨y,j,s,_⟩:=(ge r).1 o;have:=a r d;refine zm.2 ⟨e,q,zm.2 ⟨r.block.toNat,qD.2 (by omega),qq.2 ⟨r.id.toNat,qD.2 (by omega),?_⟩⟩⟩;unfold jz;rw[k,w5 j.1,w5 s.1]
 rw[qu]at b;exact q7 b (Sm g f)
structure Full (m:aG) (C:Int->aX) (ds:aT):Prop where
 live:∀k∈m.drives,∃d,bp ds k=some d/\d.lost=false/\mC m d.l=true
 all:∀e∈m.objs,∀i:Nat,i<e.tries.length->∀id:Nat,id<(m.p.1+m.extra).toNat->∃k∈m.drives,∃d,bp ds k=some d/\cy (jF m e.object i (cN e.object i (e.tries.getD i 0)) (ft m C e.object i) id)∈d.l
theorem Full.bc(F:Full m C ds):Wl.bc ds m.drives=m.drives:=z6.2 fun k b=>by
 obtain⟨d,c,a,_⟩:=F.live k b;unfold isLive;rw[c];simp[a]
theorem fw.afi(S:fw m C ds){e:Wl.bV}(a:e∈m.objs):e.tries.length<=8:=by
 obtain⟨_,_,h3,_,b⟩:=(gC m e).1 (S.entry a);have:=mP h3.2;omega
theorem fw.Hb(S:fw m C ds){e:Wl.bV}(a:e∈m.objs){i:Nat}(d:i<e.tries.length){id:Nat}(hid:id<=65535):ia (jF m e.object i (cN e.object i (e.tries.getD i 0)) (ft m C e.object i) id)=true:=by
 obtain⟨K,H,w,n,B⟩:=S.fy a d;have h8:=S.afi a;have b:=((gC m e).1 (S.entry a)).2.1;have c:=((dM m).1 ((bZ m).1 S.may).1).2.1;exact RK B ⟨b.1,by omega⟩ ⟨by omega,by omega⟩ ⟨by omega,by omega⟩
theorem fw.counts(S:fw m C ds){e:Wl.bV}(a:e∈m.objs){i:Nat}(b:i<e.tries.length){id:Nat}(hid:id<=65535):cX m (jF m e.object i (cN e.object i (e.tries.getD i 0)) (ft m C e.object i) id)=true:=
 dZ.2 ⟨S.Hb a b hid,rfl,e,a,rfl,by show(i:Int)<_;omega,by show cN e.object i _=cN e.object (i:Int) (e.tries.getD (i:Int).toNat 0);rw[qo]⟩
theorem fw.JO(S:fw m C ds){id:Nat}(h:id<(m.p.1+m.extra).toNat):id<=65535:=by
 obtain⟨_,_,a,b⟩:=(dM m).1 ((bZ m).1 S.may).1;have:=(bM m.p).1 a;omega
theorem fw.afD(S:fw m C ds){e:Wl.bV}(a:e∈m.objs){i:Nat}(b:i<e.tries.length){id:Nat}(hid:id<=65535){k:Int}(f:k∈bc ds m.drives){d:bB}(c:bp ds k=some d)
  (h:cy (jF m e.object i (cN e.object i (e.tries.getD i 0)) (ft m C e.object i) id)∈d.l):(id:Int)∈oG m ds e.object i:=by
 have g:=DO S.may (S.cells k d c) h (md (S.Hb a b hid) (jd _ _ _)) (S.counts a b hid);unfold oG iu;refine qq.2 ⟨((id:Int),(jF m e.object i (cN e.object i (e.tries.getD i 0)) (ft m C e.object i) id).data),zm.2 ⟨k,f,?_⟩,rfl⟩;unfold sK;rw[c];exact qq.2 ⟨_,qB.2 ⟨g,by simp[jF]⟩,rfl⟩
theorem ZC{p:Pm}(a:bL p=true){i:Int}(h:i∈eV p):∃id:Nat,i=id/\(id:Int)<p.1:=by
 have:=(bM p).1 a;unfold eV upto at h;obtain⟨id,hid,rfl⟩:=qq.1 h;have:=qD.1 hid;exact⟨id,rfl,by omega⟩
theorem Full.can(F:Full m C ds)(S:fw m C ds)(g:m.drives≠[]){e:Wl.bV}(f:e∈m.objs):Sk m ds e=true:=by
 unfold Sk;rw[qz];constructor
 ·unfold rE;rw[F.bc];obtain⟨k,c⟩:=List.exists_mem_of_ne_nil _ g;obtain⟨d,q,_,h3⟩:=F.live k c;exact wV.2 ⟨k,c,by unfold LY;rw[q];exact h3⟩
 ·refine qN.2 fun i b=>?_;have b:=qD.1 b;obtain⟨K,H,w,n,B⟩:=S.fy f b;refine ZB B.may (ids:=eV m.p) (fun j o=>?_) B.full;obtain⟨id,rfl,hid⟩:=ZC S.BA o;have r:=((dM m).1 ((bZ m).1 S.may).1).2.2.2;have a:id<(m.p.1+m.extra).toNat:=by omega
  obtain⟨k,c,d,l,h⟩:=F.all e f i b id a;exact S.afD f b (S.JO a) (by rw[F.bc];exact c) l h
theorem sQ(m:aG)(d:bB)(N:Int):(dI m d N).lost=d.lost/\(dI m d N).room=d.room:=by
 unfold dI;split<;>exact⟨rfl,rfl⟩
theorem lI{t:aC}{b:aX}{n:aG}{k:Int}{d:bB}(a:k∈bc ds m.drives):
  (kq m ds t b n k d).lost=d.lost/\(kq m ds t b n k d).room=d.room/\∃N,(kq m ds t b n k d).l=(dI m d N).l++((gn m m.next t (bo m.p b) (bc ds m.drives) k (bo m.p b).length).map cy++aY n):=by
 unfold kq;rw[if_pos a];refine⟨by rw[(iB _ _).1,(sQ _ _ _).1],by rw[(iB _ _).2,(sQ _ _ _).2],_,mF _ _⟩
theorem OC{n:aG}(a:bO n=true){l1 l2:cD}(h:∀c∈aY n,c∈l2):mC n (l1++l2)=true:=by
 unfold mC;rw[a,zW];exact qN.2 fun c b=>decide_eq_true (wq _ (h c b))
theorem Full.put(F:Full m C ds)(S:fw m C ds){name:ByteArray}{b:aX}{t:aC}{ds':aT}(H:cK m (dC w offs) ds name b.length=0)(J:cG m.p m.next (bo m.p b).length=some t)
  (M:fw (db m ⟨name,m.next,b.length,t⟩) (kf C m.next b) ds') (f:∀k,bp ds' k=(bp ds k).map (kq m ds t b (db m ⟨name,m.next,b.length,t⟩) k)):Full (db m ⟨name,m.next,b.length,t⟩) (kf C m.next b) ds':=by
 have a:=F.bc;obtain⟨R,P,z3,z4,z5⟩:=jq H;have A:m.drives≠[]:=by rw[<-a];exact fun h=>z5 (.inl h)
 have u:m.next<=16777215:=by have:¬16777215<m.next:=fun h=>z5 (.inr (.inl h));omega
 refine⟨fun k g=>?_,fun e l i r id hid=>?_⟩
 ·have g:k∈m.drives:=g;obtain⟨d,B,E,h3⟩:=F.live k g;obtain⟨x,D,N,q⟩:=lI (m:=m) (t:=t) (b:=b) (n:=db m ⟨name,m.next,b.length,t⟩) (d:=d) (show k∈Wl.bc ds m.drives by rw[a];exact g);refine⟨_,by rw[f,B,qL],by rw[x];exact E,?_⟩;rw[q];exact OC M.may fun c s=>wq _ s
 ·have hid:id<(m.p.1+m.extra).toNat:=hid;rcases mD.1 l with l|rfl
  ·have L:=S.old l;obtain⟨k,g,d,G,s⟩:=F.all e l i r id hid;obtain⟨x,D,N,q⟩:=lI (m:=m) (t:=t) (b:=b) (n:=db m ⟨name,m.next,b.length,t⟩) (d:=d) (show k∈Wl.bc ds m.drives by rw[a];exact g);refine⟨k,g,_,by rw[f,G,qL],?_⟩;rw[q];have y:ft (db m ⟨name,m.next,b.length,t⟩) (kf C m.next b) e.object i=ft m C e.object i:=DP rfl (by unfold kf;rw[if_neg (by omega)]);rw[y];exact yc _ (JN S.may (S.cells k d G) s (md (S.Hb l r (S.JO hid)) (jd _ _ _)) (S.counts l r (S.JO hid)))
  ·have r:i<t.length:=r;have K:=iq J;have h8:=uF S.BA (fun h=>z4 (.inl h));have z:=((dM m).1 ((bZ m).1 S.may).1).2.1.1;have O:(0:Int)<=(i:Int)/\(i:Int)<8:=⟨by omega,by omega⟩
   have I:=Mb (o:=m.next) (b:=(i:Int)) (live:=m.drives) ⟨z,u⟩ O (oX S.may) (im S.may);obtain⟨Q,v⟩:=I;have one:dG m.next i m.drives≠[]:=fun h=>by rw[h]at v;exact A (List.nil_perm.1 v)
   have j:kQ (dG m.next i m.drives) id∈m.drives:=by
    rw[aeW one];exact v.mem_iff.1 (qh _)
   obtain⟨d,B,E,h3⟩:=F.live _ j;obtain⟨x,D,N,q⟩:=lI (m:=m) (t:=t) (b:=b) (n:=db m ⟨name,m.next,b.length,t⟩) (d:=d) (show kQ (dG m.next i m.drives) id∈Wl.bc ds m.drives by rw[a];exact j);refine⟨_,j,_,by rw[f,B,qL],?_⟩;rw[q];refine wq _ (yc _ (qq.2 ⟨_,?_,rfl⟩));have y:ft (db m ⟨name,m.next,b.length,t⟩) (kf C m.next b) m.next i=(bo m.p b).getD i []:=by
    unfold ft kf;rw[if_pos rfl,qo];rfl
   show jF m m.next i (cN m.next i (t.getD i 0)) (ft (db m ⟨name,m.next,b.length,t⟩) (kf C m.next b) m.next i) id∈_;rw[y,a];unfold gn;refine zm.2 ⟨i,qD.2 (by omega),?_⟩;unfold oD;exact qq.2 ⟨id,qB.2 ⟨qD.2 hid,decide_eq_true rfl⟩,rfl⟩
end
section
variable {m:aG} {C:Int->aX} {ds:aT} {offs:Int} {w:Pow}
theorem xX{d:bB}{N:Int}{c:aX}(h:c∈(dI m d N).l):c∈d.l∨c∈aY m:=by
 unfold dI at h;split at h
 ·exact .inl h
 ·rcases qA.1 h with h|h
  ·exact .inr h
  ·obtain⟨r,a,rfl⟩:=qq.1 h;exact .inl (fe a).1
theorem sP.put(L:sP m ds)(S:fw m C ds){name:ByteArray}{b:aX}{t:aC}{ds':aT}(z:cK m (dC w offs) ds name b.length=0)(B:cG m.p m.next (bo m.p b).length=some t)
  (u:∀k,bp ds' k=(bp ds k).map (kq m ds t b (db m ⟨name,m.next,b.length,t⟩) k)):sP (db m ⟨name,m.next,b.length,t⟩) ds':=by
 obtain⟨K,J,z3,z4,z5⟩:=jq z;have o:m.next<=16777215:=by have:¬16777215<m.next:=fun h=>z5 (.inr (.inl h));omega
 have H:=((dM m).1 ((bZ m).1 S.may).1)
 have h8:=uF S.BA (fun h=>z4 (.inl h));have g:∀k e,bp ds k=some e->∀c∈e.l,∀r,dp c=some r->cX (db m ⟨name,m.next,b.length,t⟩) r=true->r.id<m.p.1+m.extra:=fun k e h0 c j r a f=>by
  have I:=(S.cells k e h0 c j).old r a;obtain⟨G,y,x,q,c3,E⟩:=dZ.1 f;rcases mD.1 q with q|rfl
  ·exact L k e h0 c j r a (dZ.2 ⟨G,y,x,q,c3,E⟩)
  ·have:m.next=r.object:=c3;omega
 intro k d A c j r a f;show r.id<m.p.1+m.extra;obtain⟨e,h0,rfl⟩:=nR u A;by_cases v:k∈bc ds m.drives
 ·obtain⟨_,_,N,D⟩:=lI (m:=m) (t:=t) (b:=b) (n:=db m ⟨name,m.next,b.length,t⟩) (d:=e) v;rw[D]at j;rcases qA.1 j with h|h
  ·rcases xX h with h|h
   ·exact g k e h0 c h r a f
   ·rw[fb h]at a;cases a
  ·rcases qA.1 h with h|h
   ·obtain⟨M,s,rfl⟩:=qq.1 h;obtain⟨i,id,rfl,F,hid⟩:=LJ s;rw[md (HM S.may o h8 B F hid) (jd _ _ _)]at a;injection a with a
    subst a;show(id:Int)<_;omega
   ·rw[fb h]at a;cases a
 ·unfold kq at j;rw[if_neg v]at j;exact g k e h0 c j r a f
theorem sP.afj(L:sP m ds){n:aG}{ds':aT}(o:n.p=m.p)(q:n.extra=m.extra)(e:∀x∈n.objs,x∈m.objs)
  (i:∀k,bp ds' k=(bp ds k).map fun d=>if k∈Wl.bc ds n.drives then dq (aY n) (dI m d (aY n).length)else d):sP n ds':=by
 intro k d s c g r a j;rw[o,q];have b:=ut o e j;obtain⟨l,h0,rfl⟩:=nR (f:=fun k d=>if k∈Wl.bc ds n.drives then dq (aY n) (dI m d (aY n).length)else d) i s;split at g
 ·rw[mF]at g;rcases qA.1 g with h|h
  ·rcases xX h with h|h
   ·exact L k l h0 c h r a b
   ·rw[fb h]at a;cases a
  ·rw[fb h]at a;cases a
 ·exact L k l h0 c g r a b
theorem sP.cE(L:sP m ds){k:Int}{d:bB}(e:bp ds k=some d):∀r∈cZ m d.l,r.id<m.p.1+m.extra:=fun r a=>by
 obtain⟨c,b,f⟩:=fe a;exact L k d e _ c r b f
theorem sP.fits(L:sP m ds)(S:fw m C ds){live:aC}{N:Int->Int}{R:Nat}{c n:Nat}(h:∀e∈m.objs,e.tries.length<=c)(f:m.objs.length<=n)(a:∀k∈live,∃d,bp ds k=some d/\d.lost=false/\d.room=R/\((9+n*(c*(m.p.1+m.extra).toNat):Nat):Int)+max (N k) 0<=R):
  cH m ds live N=true:=by
 unfold cH;refine qN.2 fun k j=>?_;obtain⟨d,b,i,g,o⟩:=a k j;unfold fk;rw[b];show jT m d (N k)=true;have r:=WY (m:=m) (L.cE b) h f;have q:=GS S.may;unfold jT;rw[i];have:fp d (ir m d.l).length (N k)=true:=by
  unfold fp ir nD;rw[qx,qu];exact decide_eq_true (by rw[g];omega)
 rw[this,Bool.or_true];rfl
theorem ZD{t:aC}{b:aX}{live:aC}{k:Int}{nb:Nat}:(dY (di m m.next t (bo m.p b) live nb) k).length<=nb*(m.p.1+m.extra).toNat:=by
 rw[RP,qu];exact TC m m.next t (bo m.p b) live k nb
theorem adN{t:aC}{b:aX}{live:aC}{n:aG}(a:bO n=true)(k:Int){nb c:Nat}(d:nb<=c):0<=iU (aY n).length (di m m.next t (bo m.p b) live nb) k/\iU (aY n).length (di m m.next t (bo m.p b) live nb) k<=((9+c*(m.p.1+m.extra).toNat:Nat):Int):=by
 have f:=ZD (m:=m) (t:=t) (b:=b) (live:=live) (k:=k) (nb:=nb);have e:=GS a;have h3:=zu (m.p.1+m.extra).toNat d;rw[GR];omega
end
end Go.Qw
