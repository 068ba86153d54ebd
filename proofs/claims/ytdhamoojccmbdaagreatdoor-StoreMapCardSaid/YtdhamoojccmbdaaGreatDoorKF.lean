/- Part of the proofs that the laws of this seat answer true whatever the input reads, and leave it as it was; no condition. -/
import Derived.Test.YtdhamoojccmbdaaGreatDoorKE
import Derived.Test.YtdhamoojccmbdaaGreatDoorKD
import Derived.Test.YtdhamoojccmbdaaGreatDoorKC
set_option linter.unusedVariables false
set_option linter.unusedSimpArgs false
open Go.Proofs.Tryz renaming prog -> xl
open Go.Value renaming bool -> xf, int -> vX, pointer -> vZ, slice -> vY, string -> xd
open List renaming getElem_map -> wo, getElem_mem -> qg, length_map -> qx, pairwise_iff_getElem -> zd, take_of_length_le -> qi
open Go.IntKind renaming i64 -> xh, wrap -> qc
open Nat renaming le_trans -> q9
open Int renaming le_refl -> vQ, mul_le_mul -> wi, mul_nonneg -> y9
open Option renaming some -> zL
set_option maxRecDepth 100000
namespace Go.Proofs.YtdhamoojccmbdaaGreatDoor
open Go Go.Vc Go.Proofs Wl
def tU(m:aE)(offs:Int)(w:Pow):List ByteArray:=if eF w offs then[]else m.objs.map Wl.bY.name
section
variable {B:aA} {h0 h:Heap} {As:List HP} {a pw:Addr} {offs:Int} {da:List (Option Addr)} {w:Pow} {ds:aW} {m:aE}
theorem aaa(x:cv)(q:bP m=true)(H:aa B h0 h (bn bA a pw (aZ x) offs da w ds::dl x m::As)):
  ae xl lY #[vZ (some a)] h fun v h'=>∃r:Sl,v=vY r.ptr r.len r.cap/\Sp h h' [an gB r 1 Ay (tU m offs w)]:=by
 refine pQ (some a) ?_;unfold mM;refine(pk H).mono ?_;rintro _ d ⟨rfl,rfl⟩;refine⟨_,rfl,bs (fun e=>?_) fun K=>?_⟩
 ·have:tU m offs w=[]:=by unfold tU;rw[if_pos e]
  rw[this];exact⟨⟨none,0,0⟩,rfl,(Sp.refl d).nil gB 1 Ay⟩
 have G:tU m offs w=m.objs.map Wl.bY.name:=by unfold tU;rw[if_neg (by rw[K];decide)]
 rw[G];have O:=(aa.cI H).2;have P:ff d x m:=H.at 1 rfl;have A:=((bS m).1 q).2.2.2.1;obtain⟨y,F⟩:=cO.fix P.objs;have D:=F.2.1;have z:=F.1.len;refine⟨a,rfl,x.2.2.2.2.2.2.2,O.cell rfl,?_⟩;refine aw (fun t:Sl×Nat=>(t.1,(t.2:Int))) (fun t h'=>t.2<=m.objs.length/\Sp d h' [an gB t.1 1 Ay ((m.objs.map Wl.bY.name).take t.2)]) (fun t=>m.objs.length-t.2) (⟨none,0,0⟩,0) rfl ⟨by simp,by simpa using(Sp.refl d).nil gB 1 Ay⟩ ?_;rintro⟨o,i⟩ T ⟨u,j⟩;dsimp only at u j⊢;refine ak (fun e=>?_) fun e=>?_
 ·have c:i<m.objs.length:=by omega
  have b:=Fix.row F c;obtain⟨E,n⟩:∃E,E=m.objs[i]:=⟨_,rfl⟩
  have p:E∈m.objs:=by rw[n];exact qg c
  obtain⟨xe,f⟩:∃xe,xe=y[i]'(by omega):=⟨_,rfl⟩
  rw[<-n,<-f]at b;have k:xe.1=E.name:=b.1.1;have L:E.name.size<=12:=by
   have:=((eW m E).1 (((bS m).1 q).2.2.2.2.1 E p)).1;unfold jG at this;simp at this;omega
  refine(Seq.up F.1 j.ai).dI (g:=bI) i rfl (by omega) xe (by rw[f]) ?_;refine j.alloc af rfl fun N h3 I=>?_;refine I.storeAll af 1 rfl rfl (bI xe) rfl rfl rfl rfl fun s l=>?_;have l:Sp d s [an gB o 1 Ay ((m.objs.map Wl.bY.name).take i),aq N aV (bI xe)]:=l;refine⟨xe.1,(l.box 1 rfl).cell0 rfl,(RQ xe.1 s (by rw[k];omega)).mono ?_⟩;rintro _ U ⟨rfl,R⟩;have M:=(l.up R.ai).bO [0];refine⟨_,rfl,M.push af 0 rfl ahB rfl (by decide) (fun _=>rfl) agl xe.1 rfl (by decide) (by simp;omega) fun Q S J=>?_⟩;refine⟨(Q,i+1),by dsimp only;rw[Go.Vc.wrap_small _ (by omega) (by omega)];rfl,⟨by dsimp only;omega,?_⟩,by dsimp only;omega⟩;dsimp only;rw[aJ _ _ (show i<(m.objs.map Wl.bY.name).length by simpa using c),wo,<-n,<-k];exact J
 ·rw[qi (by rw[qx];omega)]at j;exact⟨o,rfl,j⟩
theorem aeH(b:bP m=true)(H:aa B h0 h (ic a pw da offs w ds m::As)):
  ae xl lY #[vZ (some a)] h fun v h'=>∃r:Sl,v=vY r.ptr r.len r.cap/\Sp h h' [an gB r 1 Ay (tU m offs w)]:=by
 obtain⟨x,H⟩:=xr H;exact aaa x b H
end
section
variable {B:aA} {h0 h:Heap} {As:List HP} {a pw:Addr} {offs:Int} {da:List (Option Addr)} {w:Pow} {ds:aW}
theorem RR(x:cv)(m:aE)(d:ff h x m)(f:m.objs=[])(H:aa B h0 h (bn bA a pw (aZ x) offs da w ds::As)):
  ae xl lY #[vZ (some a)] h fun v h'=>v=vY none 0 0/\h'=h:=by
 refine pQ (some a) ?_;unfold mM;obtain⟨ok,c⟩:=aa.cI H;refine(rI (some a) (R:=fun v h'=>v=xf (eF w offs)/\h'=h) ?_).mono ?_
 ·unfold nL;refine bs (fun e=>by cases e) fun _=>(Dx H).mono ?_;rintro _ _ ⟨rfl,rfl⟩;exact⟨_,rfl,rfl,rfl⟩
 rintro _ _ ⟨rfl,rfl⟩;refine⟨_,rfl,bs (fun _=>⟨rfl,rfl⟩) fun _=>⟨a,rfl,x.2.2.2.2.2.2.2,c.cell rfl,?_⟩⟩;have b:=cO.len d.objs;rw[f]at b;refine aw (fun _:Unit=>((⟨none,0,0⟩:Sl),(0:Int))) (fun _ h'=>h'=_) (fun _=>0) () rfl rfl ?_;rintro _ g rfl;exact ak (fun e=>absurd e (by rw[b];decide)) fun _=>⟨rfl,rfl⟩
theorem Vh(h:Heap):ae xl xO #[] h fun v h'=>v=xf true/\Sp h h' []:=by
 refine uO ?_;unfold nH;refine(HU h).mono ?_;rintro _ n ⟨pw,rfl,l⟩;refine⟨_,rfl,?_⟩;refine l.lit af aD me rfl [5] rfl (show 1*1<=2^20 by decide) rfl fun d m j=>?_;refine(JY (1,1,1) 0 d [5] (As:=[an aT d 1 aD [5]]) (St.ij 0 rfl fun h' c=>c.1.seq (fun _=>rfl) c.2) (by decide) j).mono ?_;rintro _ h3 ⟨_,Q⟩;obtain⟨a,x,da,rfl,b⟩:=Q aeA;have k:dp (ce (1,1,1) 0 [5]):=Nk _ _ _ (by decide);have i:ff h3 x (ce (1,1,1) 0 [5]):=b.at 1 rfl;refine⟨(some a,0),rfl,cw (fun _=>bs (fun _=>?_) fun e=>by cases e) fun e=>absurd rfl e⟩;refine(RR x _ i rfl b).mono ?_;rintro _ _ ⟨rfl,rfl⟩;refine⟨⟨none,0,0⟩,rfl,cw (fun _=>?_) fun e=>absurd rfl e⟩;refine(fA x _ i k b).mono ?_;rintro _ o ⟨r,rfl,f⟩;have g:=(f.own 0 rfl).len;rw[ZV]at g;refine⟨r,rfl,?_,.zip (aa.up b f.ai).ai⟩;rw[g];rfl
end
section
theorem ago{B:aA}{g h:Heap}{As:List HP}{a pw:Addr}{offs:Int}{e:List (Option Addr)}{w:Pow}{ds:aW}{m:aE}(name:ByteArray)(f:bP m=true)(H:aa B g h (ic a pw e offs w ds m::As)):
  ae xl tf #[vZ (some a),xd name] h fun v h'=>∃r:Sl,v=.tuple #[vY r.ptr r.len r.cap,vX xh (mf m offs w ds name).2]/\Sp h h' [EA (ju 1 aB) r (mf m offs w ds name).1]:=by
 have c:=(acx H).2;obtain⟨x,i⟩:=xr H;exact aeE x name f (fun k d b=>q9 (c k d b).1 (c k d b).2.1) i
theorem acH{m:aE}:tU m 0 Pow.new=m.objs.map Wl.bY.name:=by unfold tU;rw[if_neg (by decide)]
end
section
theorem DI:Tryz.prog.underlying CK=some (.map gB aH):=by kernel_rfl
theorem NN:Tryz.prog.underlying gB=some .string:=by kernel_rfl
theorem Vi:aI xl (zeroValue aH) (vY none 0 0):=by
 have h:(Tryz.prog.info? aH).bind (·.zero)=some (vY none 0 0):=by kernel_rfl
 cases hf:Tryz.prog.info? aH with
 |none=>rw[hf]at h;cases h
 |some f=>
  rw[hf]at h;refine(cK hf).bind ?_;rw[show f.zero=some (vY none 0 0)from h];exact .pure
abbrev uz(s:Sl):Value:=vY s.ptr s.len s.cap
theorem RS(c0:Sl)(l:List Int)(s1:Sl)(l1:List Int)(h:Heap)(hs:Rd h c0 1 aD l)(c7:Rd h s1 1 aD l1):
  ae xl lc #[vY c0.ptr c0.len c0.cap,vY s1.ptr s1.len s1.cap] h fun v h'=>v=xf true/\Sp h h' []:=by
 refine sh c0 s1 ?_;unfold lJ;refine(WX c0 l h hs).mono ?_;rintro _ h1 ⟨r,rfl,R1⟩;refine⟨(iL l,ZU l,r),rfl,R1.alloc af rfl fun B h2 H2=>?_⟩;refine H2.storeAll af 1 rfl rfl [vX xh (iL l).1,vX xh (iL l).2.1,vX xh (iL l).2.2] rfl rfl rfl rfl fun h3 H3=>?_;obtain⟨p,ad⟩:∃p,p=iL l:=⟨_,rfl⟩
 obtain⟨E,hE⟩:∃E,E=ZU l:=⟨_,rfl⟩
 have hp:bJ p=true:=by rw[ad];exact abW _ _ _
 have R:p.1<=6/\p.2.2<=9:=by rw[ad];unfold iL DE;dsimp only;omega
 have ei:=(bK p).1 hp;have e4:0<=E/\E<=6:=by rw[hE];unfold ZU;omega
 rw[<-ad,<-hE];rw[<-ad]at H3;have H3:Sp h h3 [aq B aP [vX xh p.1,vX xh p.2.1,vX xh p.2.2]]:=H3.bO [1];obtain⟨e0,c8⟩:=agm (extra:=E) (l:=[400,400,400]) hp (by omega) (by decide) (by decide);refine co (fun(t:Option Addr×Int) h'=>∃(a pw:Addr) (da:List (Option Addr)) (D:aW),t=(some a,0)/\D.length=64/\(∀s,bG D s=if s∈bj [400,400,400] ([400,400,400]:List Int).length then some ⟨(([400,400,400]:List Int).getD s.toNat 0).toNat,be (ce p E [400,400,400]),0,[],false,false⟩else none)/\
  Sp h h' [ic a pw da 0 Pow.new D (ce p E [400,400,400]),aq B aP [vX xh p.1,vX xh p.2.1,vX xh p.2.2]]) ?_ ?_
 ·have hb:=H3.box 0 rfl;have b5:∀{h5:Heap} {pw:Addr} {q:Sl},Sp h h5 [dR bD pw Pow.new,aq B aP [vX xh p.1,vX xh p.2.1,vX xh p.2.2],an aT q 1 aD [400,400,400]]->ae xl pO #[kA p,vX xh E,vZ (some pw),vY q.ptr q.len q.cap] h5 fun v h'=>∃(a:Addr) (da:List (Option Addr)) (D:aW),v=.tuple #[vZ (some a),vX xh 0]/\D.length=64/\
    (∀s,bG D s=if s∈bj [400,400,400] ([400,400,400]:List Int).length then some ⟨(([400,400,400]:List Int).getD s.toNat 0).toNat,be (ce p E [400,400,400]),0,[],false,false⟩else none)/\Sp h h' [ic a pw da 0 Pow.new D (ce p E [400,400,400]),aq B aP [vX xh p.1,vX xh p.2.1,vX xh p.2.2]]:=fun{h5 pw q} H5=>by
   refine(ZS p E q [400,400,400] (As:=[aq B aP [vX xh p.1,vX xh p.2.1,vX xh p.2.2],an aT q 1 aD [400,400,400]]) (St.ij (A:=an aT q 1 aD [400,400,400]) 1 rfl fun h' U=>U.1.seq (fun _=>rfl) U.2) (by decide) e0 rfl H5).mono ?_;rintro _ h7 ⟨a,da,D,rfl,f2,f3,H7⟩;exact⟨a,da,D,rfl,f2,f3,H7.bO [0,1]⟩
  refine⟨p,hb.aO _ rfl,?_,?_⟩
  ·refine(HU h3).mono ?_;rintro _ h4 ⟨pw,rfl,R4⟩;have H4:=H3.dc R4;have a0:=H4.box 1 rfl;refine⟨_,rfl,⟨a0.cell0 rfl,a0.cell rfl,a0.cell rfl,trivial⟩,?_⟩;refine H4.lit af aD me rfl [400,400,400] rfl (show 3*1<=2^20 by decide) rfl fun q h5 H5=>?_;have b0:=H5.box 1 rfl;refine⟨⟨b0.cell0 rfl,b0.cell rfl,b0.cell rfl,trivial⟩,(b5 H5).mono ?_⟩;rintro _ h6 ⟨a,da,D,rfl,f2,f3,H6⟩;exact⟨(some a,0),rfl,trivial,a,pw,da,D,rfl,f2,f3,H6⟩
  ·refine H3.lit af aD me rfl [400,400,400] rfl (show 3*1<=2^20 by decide) rfl fun q h7 H7=>?_;have br:=H7.box 0 rfl;refine⟨⟨br.cell0 rfl,br.cell rfl,br.cell rfl,trivial⟩,(HU h7).mono ?_⟩;rintro _ h8 ⟨pw,rfl,R8⟩;have H8:=H7.dc R8;have bq:=H8.box 1 rfl;refine⟨_,rfl,⟨bq.cell0 rfl,bq.cell rfl,bq.cell rfl,trivial⟩,(b5 H8).mono ?_⟩;rintro _ h6 ⟨a,da,D,rfl,f2,f3,H6⟩;exact⟨(some a,0),rfl,trivial,a,pw,da,D,rfl,f2,f3,H6⟩
 rintro⟨_,_⟩ h8 ⟨a,pw,da,D,y,f2,f3,H8⟩;injection y with he1 he2
 subst he1 he2;obtain⟨S0,F0,L0⟩:=acz (m:=ce p E [400,400,400]) rfl e0 (by decide) f2 f3 (fun _=>[]);have cf:bj [400,400,400] ([400,400,400]:List Int).length=[0,1,2]:=by rw[c8];rfl
 have I0:mg (ce p E [400,400,400]) (fun _=>[]) D 0:=by
  refine⟨⟨S0,F0,L0,fun e y=>(by cases y),?_,vQ _,vQ _⟩,ZY (n:=ce p E [400,400,400]) fun k d hd c hc=>?_,fun k hk=>?_,fun e y=>(by cases y),by show(p.1+E).toNat<=12;omega⟩
  ·show bj _ _≠[];rw[cf];simp
  ·rw[f3]at hd;split at hd
   ·injection hd with hd;subst hd;exact hc
   ·cases hd
  ·have hk:k∈bj [400,400,400] ([400,400,400]:List Int).length:=hk;refine⟨_,by rw[f3,if_pos hk],rfl,?_⟩;rw[cf]at hk;simp at hk;rcases hk with rfl|rfl|rfl<;>rfl
 refine aX (ci (fun e=>absurd rfl e) fun _=>bs (fun e=>by cases e) fun _=>?_);refine H8.agO uz fun N cp V=>?_;have V:Sp h cp [ic a pw da 0 Pow.new D (ce p E [400,400,400]),aq B aP [vX xh p.1,vX xh p.2.1,vX xh p.2.2],kq N uz []]:=V;refine⟨p,(V.box 1 rfl).aO _ rfl,?_⟩;refine(ZW p s1 l1 14 cp hp (c7.up V.ai) (by decide)).mono ?_;rintro _ d3 ⟨q,M,rfl,hM,eh,b4⟩;obtain⟨rs,b4⟩:=b4.Ob 0 rfl fun _=>rfl;have bk:Sp h d3 [ic a pw da 0 Pow.new D (ce p E [400,400,400]),aq B aP [vX xh p.1,vX xh p.2.1,vX xh p.2.2],kq N uz [],cj gW 9 iP q rs M]:=V.comp b4;refine⟨q,rfl,?_⟩;have c9:rs.length=M.length:=(bk.dO 3 rfl).2.1;have es:q.len=M.length:=by rw[(bk.dO 3 rfl).1.len,c9]
 refine aw (fun i:Nat=>(i:Int)) (fun i h'=>i<=M.length/\∃ds m C f,mg m C ds i/\m.p=p/\m.extra=E/\my m C rs M f/\Sp h h' [ic a pw da 0 Pow.new ds m,aq B aP [vX xh p.1,vX xh p.2.1,vX xh p.2.2],kq N uz f,cj gW 9 iP q rs M]) (fun i=>M.length-i) 0 rfl ⟨by omega,D,_,_,[],I0,rfl,rfl,⟨List.Pairwise.nil,rfl,fun q U=>(by cases U),fun e y=>(by cases y)⟩,bk⟩ ?_;rintro i dy ⟨hi,ds,m,C,f,I,o,x,G,a3⟩;dsimp only;refine ak (fun e=>?_) fun e=>?_
 ·have Z:i<M.length:=by omega
  have hF:=a3.dO 3 rfl;have b6:i<rs.length:=by omega
  refine hF.1.dI i rfl b6 rs[i] rfl ?_;refine a3.alloc af rfl fun S ec ea=>?_;refine ea.storeAll af 4 rfl rfl (iP rs[i]) rfl rfl rfl rfl fun dx w=>?_;have w:Sp h dx [ic a pw da 0 Pow.new ds m,aq B aP [vX xh p.1,vX xh p.2.1,vX xh p.2.2],kq N uz f,cj gW 9 iP q rs M,aq S eE (iP rs[i])]:=w;have hb:=w.box 4 rfl;obtain⟨⟨k1,k2,_,_,_,_,kc⟩,kd,_,_⟩:=Fix.row (w.dO 3 rfl) Z;have hk:um p M[i]:=hM _ (qg Z);refine⟨rs[i].2.1,hb.cell rfl,(w.map 2 rfl).To DI NN (u0:=⟨none,0,0⟩) Vi ⟨((cN rs[i].2.1 f).getD ⟨none,0,0⟩,(cN rs[i].2.1 f).isSome),rfl,?_⟩⟩;have X:=I.inv.sto.may;have eo:=I.inv.seq;have next:∀{h':Heap} {K:aW} {m':aE} {C':Int->List UInt8} {ap:List (ByteArray×Sl)},mg m' C' K (i+1)->m'.p=p->m'.extra=E->my m' C' rs M ap->Sp h h' [ic a pw da 0 Pow.new K m',aq B aP [vX xh p.1,vX xh p.2.1,vX xh p.2.2],kq N uz ap,cj gW 9 iP q rs M]->
    ∃t':Nat,qc xh ((i:Int)+1)=(t':Int)/\(t'<=M.length/\∃ds m C f,mg m C ds t'/\m.p=p/\m.extra=E/\my m C rs M f/\Sp h h' [ic a pw da 0 Pow.new ds m,aq B aP [vX xh p.1,vX xh p.2.1,vX xh p.2.2],kq N uz f,cj gW 9 iP q rs M])/\M.length-t'<M.length-i:=fun q1 q2 q3 q4 q5=>
   ⟨i+1,by rw[Go.Vc.wrap_small _ (by omega) (by omega)];rfl,⟨by omega,_,_,_,_,q1,q2,q3,q4,q5⟩,by omega⟩
  refine co (fun _ h'=>∃ds m C f,mg m C ds (i+1)/\m.p=p/\m.extra=E/\my m C rs M f/\Sp h h' [ic a pw da 0 Pow.new ds m,aq B aP [vX xh p.1,vX xh p.2.1,vX xh p.2.2],kq N uz f,cj gW 9 iP q rs M]) ?_ ?_
  ·have am:∀{h':Heap} {As:List HP} {j:Nat} (hj:j<M.length) (Y:j<rs.length),aa (fun b=>b<h.size) h h' (ic a pw da 0 Pow.new ds m::aq B aP [vX xh p.1,vX xh p.2.1,vX xh p.2.2]::kq N uz f::cj gW 9 iP q rs M::As)->Rd h' rs[j].2.2.1 1 aB M[j].data:=fun hj Y H'=>(Fix.row (H'.dO 3 rfl) hj).2.1;refine⟨rs[i].1,hb.cell0 rfl,cw (fun e1=>?_) fun _=>cw (fun e1=>?_) fun _=>cw (fun e1=>?_) fun _=>cw (fun e1=>?_) fun _=>?_⟩
   ·obtain⟨n1,n2⟩:=um.put hk (k1.symm.trans e1);have cd:p.1*p.2.2<=6*9:=wi R.1 R.2 (by omega) (by omega);refine⟨rs[i].2.1,hb.cell rfl,rs[i].2.2.1,hb.cell rfl,?_⟩;rw[k2];refine(agj (As:=[aq B aP [vX xh p.1,vX xh p.2.1,vX xh p.2.2],kq N uz f,cj gW 9 iP q rs M,aq S eE (iP rs[i])]) M[i].name rs[i].2.2.1 M[i].data (St.ij (A:=cj gW 9 iP q rs M) 2 rfl fun h' U=>(Fix.row U Z).2.1) kc (by have:=aeB _ n1;omega) X (by omega) w).mono ?_;rintro _ d5 ⟨rfl,F⟩;cases hg:cN M[i].name f with
    |some s=>
     obtain⟨e,y,L,_⟩:=G.some hg;rw[acF ⟨e,y,L⟩ (XH _ n1)]at F⊢;refine⟨4,rfl,aX (cw (fun e=>absurd e (by decide)) fun _=>aX (bs (fun e=>by simp at e) fun _=>bs (fun e=>by simp at e) fun _=>bs (fun e=>by simp at e) fun _=>?_))⟩;exact⟨ds,m,C,f,I.step,o,x,G,F.bO [0,1,2,3]⟩
    |none=>
     have O:=G.none hg;rcases I.put (b:=M[i].data) n1 (by rw[o];exact n2) (fun e y hh=>O ⟨e,y,hh⟩) (by omega)with U|⟨t,K,U,I'⟩
     ·rw[U]at F⊢;refine⟨8,rfl,aX (cw (fun _=>bs (fun _=>?_) fun e=>by simp at e) fun e=>absurd rfl e)⟩;exact next I.step o x G (F.bO [0,1,2,3])
     ·rw[U]at F⊢;have F:Sp h d5 [ic a pw da 0 Pow.new K (cM m ⟨M[i].name,m.next,M[i].data.length,t⟩),aq B aP [vX xh p.1,vX xh p.2.1,vX xh p.2.2],kq N uz f,cj gW 9 iP q rs M,aq S eE (iP rs[i])]:=F;have ah:=F.box 4 rfl;refine⟨0,rfl,aX (cw (fun e=>absurd e (by decide)) fun _=>aX (bs (fun e=>by simp at e) fun _=>bs (fun _=>ci (fun e=>absurd rfl e) fun _=>bs (fun _=>?_) fun e=>by simp at e) fun e=>by simp at e))⟩;refine⟨rs[i].2.1,ah.cell rfl,rs[i].2.2.1,ah.cell rfl,?_⟩;refine F.agP rs[i].2.2.1 2 rfl DI NN fun ef dd=>?_;refine⟨K,_,_,sM rs[i].2.1 rs[i].2.2.1 f,I',o,x,?_,dd.bO [0,1,2,3]⟩;rw[k2];exact G.put I.inv.sto hg b6 Z rfl
   ·refine⟨rs[i].2.1,hb.cell rfl,?_⟩;rw[k2];refine(ago M[i].name X w).mono ?_;rintro _ a1 ⟨g,rfl,ay⟩;have bl:=w.comp ay;cases hg:cN M[i].name f with
    |some s=>
     obtain⟨e,y,L,j,bd,Y,a7,b3⟩:=G.some hg;rw[<-L,I.inv.get y]at ay⊢;have d1:Rd a1 g 1 aB (C e.object):=ay.at 0 rfl;have a6:Rd a1 s 1 aB (C e.object):=by rw[a7,b3];exact am Y bd bl
     have c1:(C e.object).length<=2^40:=by
      have:=(I.inv.sto.ents _ y).1;have:=((eW m _).1 (I.inv.sto.entry y)).2.2.1;have cd:p.1*p.2.2<=6*9:=wi R.1 R.2 (by omega) (by omega);rw[o]at this;omega
     refine⟨(g,0),rfl,bs (fun _=>ci (fun e=>absurd rfl e) fun _=>?_) fun e=>by simp at e⟩;refine(YM g s _ _ a1 d1 a6 c1).mono ?_;rintro _ eq ⟨rfl,rfl⟩;refine⟨_,rfl,bs (fun e=>by simp at e) fun _=>bs (fun e=>by simp at e) fun _=>?_⟩;exact⟨ds,m,C,f,I.step,o,x,G,bl.bO [0,1,2,3]⟩
    |none=>
     have O:=G.none hg;rw[get_none O];refine⟨(g,5),rfl,bs (fun e=>by simp at e) fun _=>bs (fun _=>ci (fun e=>absurd rfl e) fun _=>?_) fun e=>by simp at e⟩;exact⟨ds,m,C,f,I.step,o,x,G,bl.bO [0,1,2,3]⟩
   ·refine⟨rs[i].2.1,hb.cell rfl,?_⟩;rw[k2];refine(ZT M[i].name X w).mono ?_;rintro _ cq ⟨rfl,z⟩;cases hg:cN M[i].name f with
    |some s=>
     obtain⟨e,y,L,_⟩:=G.some hg;obtain⟨K,U,I'⟩:=I.del (by omega) ⟨e,y,L⟩;rw[U]at z⊢;have z:Sp h cq [ic a pw da 0 Pow.new K (ul m (m.objs.findIdx (bR M[i].name))),aq B aP [vX xh p.1,vX xh p.2.1,vX xh p.2.2],kq N uz f,cj gW 9 iP q rs M,aq S eE (iP rs[i])]:=z;refine⟨0,rfl,aX (bs (fun e=>by simp at e) fun _=>bs (fun e=>by simp at e) fun _=>?_)⟩;refine⟨rs[i].2.1,(z.box 4 rfl).cell rfl,z.aaX 2 rfl rfl DI NN fun d8 ab=>?_⟩;refine⟨K,_,C,iB rs[i].2.1 f,I',o,x,?_,ab.bO [0,1,2,3]⟩;rw[k2];exact G.del X (by rw[hg];simp)
    |none=>
     have O:=G.none hg;rw[aeG O]at z⊢;have z:Sp h cq [ic a pw da 0 Pow.new ds m,aq B aP [vX xh p.1,vX xh p.2.1,vX xh p.2.2],kq N uz f,cj gW 9 iP q rs M,aq S eE (iP rs[i])]:=z;refine⟨5,rfl,aX (bs (fun e=>by simp at e) fun _=>bs (fun _=>ci (fun e=>absurd rfl e) fun _=>?_) fun e=>by simp at e)⟩;refine⟨rs[i].2.1,(z.box 4 rfl).cell rfl,z.aaX 2 rfl rfl DI NN fun d8 ab=>?_⟩;rw[k2,Ek hg]at ab;exact⟨ds,m,C,f,I.step,o,x,G,ab.bO [0,1,2,3]⟩
   ·refine⟨rs[i].2.1,hb.cell rfl,?_⟩;rw[k2];refine(aeF M[i].name X w).mono ?_;rintro _ ej ⟨t,rfl,d2⟩;have cr:=w.up d2.ai;obtain⟨T,hT⟩:∃T,T=kh m 0 Pow.new ds M[i].name:=⟨_,rfl⟩
    rw[<-hT];refine⟨((T.1.1,T.1.2.1,T.1.2.2,t),T.2),rfl,cr.alloc af rfl fun d6 en d9=>?_⟩;refine d9.storeAll af 5 rfl rfl (nS T.1 t) rfl rfl rfl rfl fun b2 J=>?_;have J:Sp h b2 [ic a pw da 0 Pow.new ds m,aq B aP [vX xh p.1,vX xh p.2.1,vX xh p.2.2],kq N uz f,cj gW 9 iP q rs M,aq S eE (iP rs[i]),aq d6 dP (nS T.1 t)]:=J;have b1:=J.box 5 rfl;cases hg:cN M[i].name f with
    |some s=>
     obtain⟨e,y,L,j,bd,Y,a7,b3⟩:=G.some hg;have a4:=I.stat y;rw[L,<-hT]at a4;have a6:Rd b2 s 1 aB (C e.object):=by rw[a7,b3];exact am Y bd J
     have b9:=a6.len;have c5:=(I.inv.sto.ents _ y).1;have c6:=((eW m _).1 (I.inv.sto.entry y)).2.2.1;have cd:p.1*p.2.2<=6*9:=wi R.1 R.2 (by omega) (by omega);rw[o]at c6;have d0:countP p (C e.object).length<=8:=nC (by omega);have d7:0<=countP p (C e.object).length:=by
      have:=((eW m _).1 (I.inv.sto.entry y)).2.2.2.2;rw[o,<-c5]at this;omega
     rw[o,x]at a4;subst a4;dsimp only at b1 J⊢;refine bs (fun e=>by simp at e) fun _=>bs (fun _=>?_) fun e=>by simp at e
     refine⟨((C e.object).length:Int),b1.cell0 rfl,ci (fun e2=>absurd (by rw[<-b9];rfl) e2) fun _=>?_⟩;refine⟨countP p (C e.object).length,b1.cell rfl,p,(J.box 1 rfl).aO _ rfl,?_⟩;rw[show((((zL s).getD (⟨none,0,0⟩:Sl)).len:Nat):Int)=((C e.object).length:Int)by show(s.len:Int)=_;rw[b9]];refine(rj p _ b2 (by omega)).mono ?_;rintro _ ep ⟨rfl,c2⟩;have a5:=J.up c2.ai;have P:=a5.box 5 rfl;refine⟨_,rfl,⟨P.cell rfl,P.cell0 rfl,trivial⟩,ci (fun e2=>absurd rfl e2) fun _=>?_⟩;refine⟨countP p (C e.object).length*(p.1+E),P.cell rfl,countP p (C e.object).length,P.cell rfl,p.1,(a5.box 1 rfl).cell0 rfl,ci (fun e2=>absurd ?_ e2) fun _=>⟨ds,m,C,f,I.step,o,x,G,a5.bO [0,1,2,3]⟩⟩;have eb:countP p (C e.object).length*(p.1+E)<=8*12:=wi d0 (by omega) (by omega) (by omega);have ed:0<=countP p (C e.object).length*(p.1+E):=y9 d7 (by omega);rw[Go.Vc.wrap_small (p.1+E) (by omega) (by omega),Go.Vc.wrap_small _ (by omega) (by omega)]
    |none=>
     have O:=G.none hg;rw[acG O]at hT;subst hT;refine bs (fun e=>by simp at e) fun _=>bs (fun e=>by simp at e) fun _=>⟨trivial,?_⟩
     exact⟨ds,m,C,f,I.step,o,x,G,J.bO [0,1,2,3]⟩
   ·exact⟨ds,m,C,f,I.step,o,x,G,w.bO [0,1,2,3]⟩
  rintro _ el ⟨a8,H,C2,W,I2,ch,cc,ax,b7⟩;have ao:=I2.inv.sto.may;have ek:=Li I2.inv;refine(aeH ao b7).mono ?_;rintro _ eg ⟨nr,rfl,a9⟩;rw[acH]at a9;have c4:nr.len=H.objs.length:=by rw[(a9.own 0 rfl).len,qx]
  have du:=b7.comp a9;have cs:=((bS H).1 ao).2.2.2.2.2.1;refine⟨nr,rfl,?_⟩;refine aw (fun i:Nat=>(i:Int)) (fun i h'=>i<=H.objs.length/\Sp h h' [ic a pw da 0 Pow.new a8 H,aq B aP [vX xh p.1,vX xh p.2.1,vX xh p.2.2],kq N uz W,cj gW 9 iP q rs M,an gB nr 1 Ay (H.objs.map Wl.bY.name)]) (fun i=>H.objs.length-i) 0 rfl ⟨by omega,du⟩ ?_;rintro k d4 ⟨er,Q⟩;dsimp only;refine ak (fun e2=>?_) fun e2=>?_
  ·have bb:k<H.objs.length:=by omega
   refine(Q.seq 4 rfl fun _=>rfl).bz k rfl (by rw[qx];exact bb) (H.objs[k]).name (by rw[wo]) ?_;obtain⟨u,hu⟩:=Option.ne_none_iff_exists'.1 (ax.all _ (qg bb));refine(Q.map 2 rfl).To DI NN (u0:=⟨none,0,0⟩) Vi ⟨(u,true),by rw[hu];rfl,?_⟩;have K8:∃t':Nat,qc xh ((k:Int)+1)=(t':Int)/\(t'<=H.objs.length/\Sp h d4 [ic a pw da 0 Pow.new a8 H,aq B aP [vX xh p.1,vX xh p.2.1,vX xh p.2.2],kq N uz W,cj gW 9 iP q rs M,an gB nr 1 Ay (H.objs.map Wl.bY.name)])/\H.objs.length-t'<H.objs.length-k:=
    ⟨k+1,by rw[Go.Vc.wrap_small _ (by omega) (by omega)];rfl,⟨by omega,Q⟩,by omega⟩
   refine bs (fun e=>by simp at e) fun _=>ak (fun e3=>?_) fun _=>K8;have e3:(0:Int)<(k:Int):=e3;have ew:qc xh ((k:Int)-1)=((k-1:Nat):Int):=by rw[Go.Vc.wrap_small _ (by omega) (by omega)];omega
   rw[ew];have cn:k-1<H.objs.length:=by omega
   refine(Q.seq 4 rfl fun _=>rfl).bz (k-1) rfl (by rw[qx];exact cn) (H.objs[k-1]).name (by rw[wo]) ?_;have dk:Op.bytesLess (H.objs[k-1]).name.toList (H.objs[k]).name.toList=true:=zd.1 cs _ _ cn bb (by omega);rw[dk];exact bs (fun e=>by simp at e) fun _=>K8
  refine(Q.map 2 rfl).len rfl DI (ci (fun e3=>absurd (by rw[c4,ax.len]) e3) fun _=>?_);exact⟨i+1,by rw[Go.Vc.wrap_small _ (by omega) (by omega)];rfl,⟨by omega,a8,H,C2,W,I2,ch,cc,ax,Q.bO [0,1,2,3]⟩,by omega⟩
 refine(Vh dy).mono ?_;rintro _ et ⟨rfl,dr⟩;exact⟨true,rfl,rfl,.zip (a3.up dr.ai).ai⟩
theorem Js(s:Sl)(l:List Int)(c:Sl)(l1:List Int)(h:Heap)(e:Rd h s 1 aD l)(d:Rd h c 1 aD l1):
  ae xl lc #[vY s.ptr s.len s.cap,vY c.ptr c.len c.cap] h fun v h'=>v=xf true/\aU (fun b=>b<h.size) h h':=
 (RS s l c l1 h e d).mono fun _ _ ⟨a,b⟩=>⟨a,b.ai⟩
end
end Go.Proofs.YtdhamoojccmbdaaGreatDoor
