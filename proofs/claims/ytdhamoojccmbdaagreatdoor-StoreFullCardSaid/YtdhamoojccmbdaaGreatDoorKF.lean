/- Part of the proofs that the laws of this seat answer true whatever the input reads, and leave it as it was; no condition. -/
import Derived.Test.YtdhamoojccmbdaaGreatDoorKE
import Derived.Test.YtdhamoojccmbdaaGreatDoorKD
import Derived.Test.YtdhamoojccmbdaaGreatDoorKC
set_option linter.unusedVariables false
set_option linter.unusedSimpArgs false
open Go.Proofs.Tryz renaming prog -> vV
open Go.Value renaming bool -> vP, int -> vL, pointer -> vN, slice -> vM, string -> vO
open List renaming append_assoc -> qo, append_nil -> qP, drop_eq_getElem_cons -> qT, drop_of_length_le -> q9, getElem_append_right -> z7, getElem_drop -> zR, getElem_map -> zY, getElem_mem -> qg, length -> vg, length_append -> qu, length_map -> qw, length_mergeSort -> wj, length_range -> zt, length_take -> qX, map_append -> qQ, mem_map -> qx, set_append_right -> za, set_cons_zero -> zw, take_length -> qR, take_of_length_le -> qi, take_succ_eq_append_getElem -> zp
open Go.IntKind renaming i64 -> vR, wrap -> qc
open Nat renaming add_zero -> yl, le_trans -> zl, min_eq_left -> wJ, sub_self -> zf
open Int renaming emod_lt_of_pos -> z8, emod_nonneg -> wY, le_refl -> vE, mul_le_mul -> wu, mul_pos -> vF
set_option maxRecDepth 100000
namespace Go.Proofs.YtdhamoojccmbdaaGreatDoor
open Go Go.Vc Go.Proofs Wl
def tq(m:aG)(offs:Int)(w:Pow):List ByteArray:=if fu w offs then[]else m.objs.map Wl.bW.name
section
variable {B:aA} {h0 h:Heap} {As:List HP} {a pw:Addr} {offs:Int} {da:List (Option Addr)} {w:Pow} {ds:bc} {m:aG}
theorem YX(x:cg)(q:bS m=true)(H:aa B h0 h (bm bz a pw (aV x) offs da w ds::cO x m::As)):
  ac vV jq #[vN (some a)] h fun v h'=>∃r:Sl,v=vM r.ptr r.len r.cap/\Sp h h' [an fS r 1 pR (tq m offs w)]:=by
 refine pq (some a) ?_;unfold mu;refine(td H).mono ?_;rintro _ j ⟨rfl,rfl⟩;refine⟨_,rfl,bA (fun e=>?_) fun O=>?_⟩
 ·have:tq m offs w=[]:=by unfold tq;rw[if_pos e]
  rw[this];exact⟨⟨none,0,0⟩,rfl,(Sp.refl j).nil fS 1 pR⟩
 have R:tq m offs w=m.objs.map Wl.bW.name:=by unfold tq;rw[if_neg (by rw[O];decide)]
 rw[R];have N:=(aa.cJ H).2;have P:eG j x m:=H.at 1 rfl;have u:=((ce m).1 q).2.2.2.1;obtain⟨I,F⟩:=cm.fix P.objs;have G:=F.2.1;have K:=F.1.len;refine⟨a,rfl,x.2.2.2.2.2.2.2,N.cell rfl,?_⟩;refine av (fun t:Sl×Nat=>(t.1,(t.2:Int))) (fun t h'=>t.2<=m.objs.length/\Sp j h' [an fS t.1 1 pR ((m.objs.map Wl.bW.name).take t.2)]) (fun t=>m.objs.length-t.2) (⟨none,0,0⟩,0) rfl ⟨by simp,by simpa using(Sp.refl j).nil fS 1 pR⟩ ?_;rintro⟨o,i⟩ T ⟨D,d⟩;dsimp only at D d⊢;refine ak (fun e=>?_) fun e=>?_
 ·have c:i<m.objs.length:=by omega
  have b:=Fix.row F c;obtain⟨E,n⟩:∃E,E=m.objs[i]:=⟨_,rfl⟩
  have p:E∈m.objs:=by rw[n];exact qg c
  obtain⟨xe,k⟩:∃xe,xe=I[i]'(by omega):=⟨_,rfl⟩
  rw[<-n,<-k]at b;have f:xe.1=E.name:=b.1.1;have z:E.name.size<=12:=by
   have:=((gn m E).1 (((ce m).1 q).2.2.2.2.1 E p)).1;unfold jF at this;simp at this;omega
  refine(Seq.up F.1 d.ai).dD (g:=bH) i rfl (by omega) xe (by rw[k]) ?_;refine d.alloc ae rfl fun M h3 A=>?_;refine A.storeAll ae 1 rfl rfl (bH xe) rfl rfl rfl rfl fun s l=>?_;have l:Sp j s [an fS o 1 pR ((m.objs.map Wl.bW.name).take i),au M aX (bH xe)]:=l;refine⟨xe.1,(l.box 1 rfl).cell0 rfl,(QL xe.1 s (by rw[f];omega)).mono ?_⟩;rintro _ U ⟨rfl,y⟩;have L:=(l.up y.ai).bV [0];refine⟨_,rfl,L.push ae 0 rfl agi rfl (by decide) (fun _=>rfl) aeT xe.1 rfl (by decide) (by simp;omega) fun Q S J=>?_⟩;refine⟨(Q,i+1),by dsimp only;rw[Go.Vc.wrap_small _ (by omega) (by omega)];rfl,⟨by dsimp only;omega,?_⟩,by dsimp only;omega⟩;dsimp only;rw[aH _ _ (show i<(m.objs.map Wl.bW.name).length by simpa using c),zY,<-n,<-f];exact J
 ·rw[qi (by rw[qw];omega)]at d;exact⟨o,rfl,d⟩
theorem ads(b:bS m=true)(H:aa B h0 h (ke a pw da offs w ds m::As)):
  ac vV jq #[vN (some a)] h fun v h'=>∃r:Sl,v=vM r.ptr r.len r.cap/\Sp h h' [an fS r 1 pR (tq m offs w)]:=by
 obtain⟨x,H⟩:=uQ H;exact YX x b H
end
section
variable {B:aA} {h0 h:Heap} {As:List HP} {a pw:Addr} {offs:Int} {da:List (Option Addr)} {w:Pow} {ds:bc}
theorem QM(x:cg)(m:aG)(c:eG h x m)(d:m.objs=[])(H:aa B h0 h (bm bz a pw (aV x) offs da w ds::As)):
  ac vV jq #[vN (some a)] h fun v h'=>v=vM none 0 0/\h'=h:=by
 refine pq (some a) ?_;unfold mu;obtain⟨ok,f⟩:=aa.cJ H;refine(rc (some a) (R:=fun v h'=>v=vP (fu w offs)/\h'=h) ?_).mono ?_
 ·unfold nk;refine bA (fun e=>by cases e) fun _=>(CP H).mono ?_;rintro _ _ ⟨rfl,rfl⟩;exact⟨_,rfl,rfl,rfl⟩
 rintro _ _ ⟨rfl,rfl⟩;refine⟨_,rfl,bA (fun _=>⟨rfl,rfl⟩) fun _=>⟨a,rfl,x.2.2.2.2.2.2.2,f.cell rfl,?_⟩⟩;have b:=cm.len c.objs;rw[d]at b;refine av (fun _:Unit=>((⟨none,0,0⟩:Sl),(0:Int))) (fun _ h'=>h'=_) (fun _=>0) () rfl rfl ?_;rintro _ g rfl;exact ak (fun e=>absurd e (by rw[b];decide)) fun _=>⟨rfl,rfl⟩
theorem HJ(h:Heap):ac vV xh #[] h fun v h'=>v=vP true/\Sp h h' []:=by
 refine ur ?_;unfold ng;refine(Pf h).mono ?_;rintro _ o ⟨pw,rfl,l⟩;refine⟨_,rfl,?_⟩;refine l.lit ae aE nw rfl [5] rfl (show 1*1<=2^20 by decide) rfl fun c m k=>?_;refine(Jh (1,1,1) 0 c [5] (As:=[an aS c 1 aE [5]]) (St.gK 0 rfl fun h' f=>f.1.seq (fun _=>rfl) f.2) (by decide) k).mono ?_;rintro _ h3 ⟨_,Q⟩;obtain⟨a,x,da,rfl,b⟩:=Q adm;have j:db (cu (1,1,1) 0 [5]):=Mj _ _ _ (by decide);have i:eG h3 x (cu (1,1,1) 0 [5]):=b.at 1 rfl;refine⟨(some a,0),rfl,cx (fun _=>bA (fun _=>?_) fun e=>by cases e) fun e=>absurd rfl e⟩;refine(QM x _ i rfl b).mono ?_;rintro _ _ ⟨rfl,rfl⟩;refine⟨⟨none,0,0⟩,rfl,cx (fun _=>?_) fun e=>absurd rfl e⟩;refine(fY x _ i j b).mono ?_;rintro _ n ⟨r,rfl,g⟩;have d:=(g.own 0 rfl).len;rw[YU]at d;refine⟨r,rfl,?_,.zip (aa.up b g.ai).ai⟩;rw[d];rfl
end
section
theorem WN{B:aA}{f h:Heap}{As:List HP}{a pw:Addr}{offs:Int}{g:List (Option Addr)}{w:Pow}{ds:bc}{m:aG}(name:ByteArray)(e:bS m=true)(H:aa B f h (ke a pw g offs w ds m::As)):
  ac vV sG #[vN (some a),vO name] h fun v h'=>∃r:Sl,v=.tuple #[vM r.ptr r.len r.cap,vL vR (nz m offs w ds name).2]/\Sp h h' [EA (gh 1 aC) r (nz m offs w ds name).1]:=by
 have c:=(age H).2;obtain⟨x,i⟩:=uQ H;exact adq x name e (fun k d b=>zl (c k d b).1 (c k d b).2.1) i
def ko(x:Int):Int:=6+x%25
theorem Um(x:Int):6<=ko x/\ko x<=30:=by unfold ko;omega
theorem agO{l:List Int}{i:Nat}(a:i<l.length):((l.take i).map ko++l.drop i).set i (ko l[i])=(l.take (i+1)).map ko++l.drop (i+1):=by
 rw[za _ _ (by simp;omega),qw,qX,wJ (by omega),zf,qT a,zw,zp a,qQ,qo];rfl
theorem agP{l:List Int}{i:Nat}(a:i<l.length)(h:i<((l.take i).map ko++l.drop i).length):((l.take i).map ko++l.drop i)[i]=l[i]:=by
 rw[z7 (by simp;omega)];simp only[qw,qX,wJ (Nat.le_of_lt a),zf,zR,yl]
theorem aeW:jF kK=true:=by decide+kernel
theorem adt:∀s∈AT,s.size≠3:=by decide+kernel
theorem aeX:kK∉AT:=fun h=>adt _ h (by decide+kernel)
theorem adu:kK.size<=2^40:=by decide+kernel
theorem abx{m:aG}:tq m 0 Pow.new=m.objs.map Wl.bW.name:=by unfold tq;rw[if_neg (by decide)]
theorem Ow(c0:Sl)(l:List Int)(s1:Sl)(l1:List Int)(n x:Int)(h:Heap)(hs:Rd h c0 1 aE l)(c8:Rd h s1 1 aE l1):
  ac vV kv #[vM c0.ptr c0.len c0.cap,vM s1.ptr s1.len s1.cap,vL vR n,vL vR x] h fun v h'=>v=vP true/\Sp h h' []:=by
 refine pT c0 s1 n x ?_;unfold kL;refine(Wa c0 l h hs).mono ?_;rintro _ h1 ⟨r,rfl,R1⟩;refine⟨(iB l,YT l,r),rfl,R1.alloc ae rfl fun S h2 H2=>?_⟩;refine H2.storeAll ae 1 rfl rfl [vL vR (iB l).1,vL vR (iB l).2.1,vL vR (iB l).2.2] rfl rfl rfl rfl fun h3 H3=>?_;obtain⟨p,ad⟩:∃p,p=iB l:=⟨_,rfl⟩
 obtain⟨E,hE⟩:∃E,E=YT l:=⟨_,rfl⟩
 obtain⟨c,hc⟩:∃c,c=tR l:=⟨_,rfl⟩
 obtain⟨L,hL⟩:∃L,L=Ej l:=⟨_,rfl⟩
 have ax:L.length=c:=by rw[hL,hc];exact Ul l
 have d1:2<=c/\c<=5:=by rw[hc];exact WL l
 have hp:bM p=true:=by rw[ad];exact aaV _ _ _
 have Q:p.1<=6/\p.2.2<=9:=by rw[ad];unfold iB CW;dsimp only;omega
 have ec:=(bU p).1 hp;have d6:0<=E/\E<=6:=by rw[hE];unfold YT;omega
 rw[<-ad,<-hE];rw[<-ad,<-hL]at H3;have H3:Sp h h3 [an aS r 1 aE ((L.take 0).map ko++L.drop 0),au S aT [vL vR p.1,vL vR p.2.1,vL vR p.2.2]]:=H3;have es:r.len=c:=by rw[<-ax,(H3.own 0 rfl).len];rfl
 refine av (fun i:Nat=>(i:Int)) (fun i h'=>i<=c/\Sp h h' [an aS r 1 aE ((L.take i).map ko++L.drop i),au S aT [vL vR p.1,vL vR p.2.1,vL vR p.2.2]]) (fun i=>c-i) 0 rfl ⟨by omega,H3⟩ ?_;rintro i h4 ⟨hi,Y⟩;dsimp only;refine ak (fun e=>?_) fun e=>?_
 ·have j:i<L.length:=by omega
  have ah:i<((L.take i).map ko++L.drop i).length:=by simp;omega
  refine(Y.seq 0 rfl fun _=>rfl).bv i rfl ah L[i] (congrArg aE (agP j ah)) ?_;refine(bK L[i] 25 h4 (by decide) (by decide)).mono ?_;rintro _ h5 ⟨rfl,rfl⟩;have hg:=Um L[i];have ew:qc vR (6+L[i]%25)=ko L[i]:=by rw[Go.Vc.wrap_small _ (by unfold ko at hg;omega) (by unfold ko at hg;omega)];rfl
  refine⟨_,rfl,?_⟩;dsimp only;rw[ew];refine Y.set ae 0 rfl (fun _=>rfl) rfl i rfl ah (ko L[i]) rfl rfl rfl fun h6 H6=>?_;rw[agO j]at H6;exact⟨i+1,by rw[Go.Vc.wrap_small _ (by omega) (by omega)];rfl,⟨by omega,H6⟩,by omega⟩
 have c2:i=L.length:=by omega
 subst c2;rw[q9 (by omega),qP,qi (by omega)]at Y;obtain⟨G,hG⟩:∃G,G=L.map ko:=⟨_,rfl⟩
 rw[<-hG]at Y;have d4:G.length=L.length:=by rw[hG,qw]
 have b2:∀x∈G,1<=x/\x<=512:=by
  rw[hG];intro x hx;obtain⟨y,_,rfl⟩:=qx.1 hx;have:=Um y;omega
 obtain⟨e0,dy⟩:=aeU (extra:=E) hp (by omega) (show 1<=G.length/\G.length<=24 by omega) b2;refine cl (fun(t:Option Addr×Int) h'=>∃(a pw:Addr) (da:List (Option Addr)) (D:bc),t=(some a,0)/\D.length=64/\(∀s,cb D s=if s∈bj G G.length then some ⟨(G.getD s.toNat 0).toNat,bh (cu p E G),0,[],false,false⟩else none)/\
  Sp h h' [ke a pw da 0 Pow.new D (cu p E G),an aS r 1 aE G,au S aT [vL vR p.1,vL vR p.2.1,vL vR p.2.2]]) ?_ ?_
 ·refine⟨p,(Y.box 1 rfl).aQ _ rfl,(Pf h4).mono ?_⟩;rintro _ h6 ⟨pw,rfl,R6⟩;have H6:=Y.cY R6;refine⟨_,rfl,jE R6.ai ⟨(Y.box 1 rfl).cell0 rfl,(Y.box 1 rfl).cell rfl,(Y.box 1 rfl).cell rfl,trivial⟩,?_⟩;refine(YR p E r G (As:=[an aS r 1 aE G,au S aT [vL vR p.1,vL vR p.2.1,vL vR p.2.2]]) (St.gK 0 rfl fun h' F=>F.1.seq (fun _=>rfl) F.2) (by omega) e0 rfl H6).mono ?_;rintro _ h7 ⟨a,da,D,rfl,f2,f3,H7⟩;exact⟨(some a,0),rfl,trivial,a,pw,da,D,rfl,f2,f3,H7⟩
 rintro⟨_,_⟩ h8 ⟨a,pw,da,D,he,f2,f3,H8⟩;injection he with he1 he2
 subst he1 he2;obtain⟨S0,F0,L0⟩:=abw (m:=cu p E G) rfl e0 (by omega) f2 f3 (fun _=>[]);have I0:Inv (cu p E G) (fun _=>[]) D 0:=by
  refine⟨S0,F0,L0,fun e he=>(by cases he),?_,vE _,vE _⟩;show bj G G.length≠[];rw[dy];intro h;have h2:G.length=0:=by have:=congrArg vg h;rw[qw,zt]at this;exact this
  omega
 refine ba (bQ (fun e=>absurd rfl e) fun _=>bA (fun e=>by cases e) fun _=>?_);refine⟨p,(H8.box 2 rfl).aQ _ rfl,?_⟩;refine(YV p s1 l1 8 h8 hp (c8.up H8.ai) (by decide)).mono ?_;rintro _ bd ⟨q,M,rfl,hM,ei,am⟩;obtain⟨rs,am⟩:=am.Nb 0 rfl fun _=>rfl;have a0:Sp h bd [ke a pw da 0 Pow.new D (cu p E G),an aS r 1 aE G,au S aT [vL vR p.1,vL vR p.2.1,vL vR p.2.2],cH nU 9 pS q rs M]:=H8.comp am;refine⟨q,rfl,?_⟩;have eh:q.len=M.length:=by rw[(a0.eJ 3 rfl).1.len,(a0.eJ 3 rfl).2.1]
 refine av (fun i:Nat=>(i:Int)) (fun i h'=>i<=M.length/\∃ds m C,Inv m C ds i/\m.p=p/\Sp h h' [ke a pw da 0 Pow.new ds m,an aS r 1 aE G,au S aT [vL vR p.1,vL vR p.2.1,vL vR p.2.2],cH nU 9 pS q rs M]) (fun i=>M.length-i) 0 rfl ⟨by omega,D,_,_,I0,rfl,a0⟩ ?_;rintro i ep ⟨hi,ds,m,C,I,K,X⟩;dsimp only;refine ak (fun e=>?_) fun e=>?_
 ·have j:i<M.length:=by omega
  have hF:=X.eJ 3 rfl;have bq:i<rs.length:=by rw[hF.2.1];exact j
  refine hF.1.dD i rfl bq rs[i] rfl ?_;refine X.alloc ae rfl fun a3 ej du=>?_;refine du.storeAll ae 4 rfl rfl (pS rs[i]) rfl rfl rfl rfl fun cd P=>?_;have P:Sp h cd [ke a pw da 0 Pow.new ds m,an aS r 1 aE G,au S aT [vL vR p.1,vL vR p.2.1,vL vR p.2.2],cH nU 9 pS q rs M,au a3 gr (pS rs[i])]:=P;have hb:=P.box 4 rfl;obtain⟨⟨k1,k2,_,_,_,_,kc⟩,kd,_,_⟩:=Fix.row (P.eJ 3 rfl) j;have hk:nA p M[i]:=hM _ (qg j);refine⟨rs[i].1,hb.cell0 rfl,cx (fun e1=>?_) fun _=>cx (fun e1=>?_) fun _=>?_⟩
  ·obtain⟨n1,n2⟩:=nA.put hk (k1.symm.trans e1);have a5:p.1*p.2.2<=6*9:=wu Q.1 Q.2 (by omega) (by omega);refine⟨rs[i].2.1,hb.cell rfl,rs[i].2.2.1,hb.cell rfl,?_⟩;rw[k2];refine(WK (As:=[an aS r 1 aE G,au S aT [vL vR p.1,vL vR p.2.1,vL vR p.2.2],cH nU 9 pS q rs M,au a3 gr (pS rs[i])]) M[i].name rs[i].2.2.1 M[i].data (St.gK (A:=cH nU 9 pS q rs M) 2 rfl fun h' F=>(Fix.row F j).2.1) kc (by have:=adn _ n1;omega) I.sto.may (by omega) P).mono ?_;rintro _ b4 ⟨rfl,w⟩;refine⟨_,rfl,i+1,by rw[Go.Vc.wrap_small _ (by omega) (by omega)];rfl,⟨by omega,?_⟩,by omega⟩;rcases I.put (b:=M[i].data) n1 with⟨e,_,F⟩|⟨_,t,ds',_,F,I'⟩
   ·rw[F]at w;exact⟨_,_,_,I.step,K,w.bV [0,1,2,3]⟩
   ·rw[F]at w;exact⟨_,_,_,I',K,w.bV [0,1,2,3]⟩
  ·have n1:=nA.named hk (.inr (.inl (k1.symm.trans e1)));refine⟨rs[i].2.1,hb.cell rfl,?_⟩;rw[k2];refine(YS M[i].name I.sto.may P).mono ?_;rintro _ b4 ⟨rfl,w⟩;refine⟨_,rfl,i+1,by rw[Go.Vc.wrap_small _ (by omega) (by omega)];rfl,⟨by omega,?_⟩,by omega⟩;rcases I.del (name:=M[i].name) (by omega)with⟨_,F⟩|⟨_,⟨_,F⟩|⟨ds',F,I'⟩⟩
   ·rw[F]at w;exact⟨_,_,_,I.step,K,w.bV [0,1,2,3]⟩
   ·rw[F]at w;exact⟨_,_,_,I.step,K,w.bV [0,1,2,3]⟩
   ·rw[F]at w;exact⟨_,_,_,I',K,w.bV [0,1,2,3]⟩
  ·exact⟨i+1,by rw[Go.Vc.wrap_small _ (by omega) (by omega)];rfl,⟨by omega,ds,m,C,I.step,K,P.bV [0,1,2,3]⟩,by omega⟩
 have B:=I.sto.may;have eg:=adp I;have eo:=I.seq;have el:=I.nx;refine(Kn B X).mono ?_;rintro _ er ⟨y,rfl,b3⟩;have cp:=(X.bV [0,2]).comp b3;refine⟨y,rfl,cp.alloc ae rfl fun W d9 b7=>?_⟩;refine b7.storeAll ae 3 rfl rfl (aV y) rfl rfl rfl rfl fun cr Z=>?_;have Z:Sp h cr [ke a pw da 0 Pow.new ds m,au S aT [vL vR p.1,vL vR p.2.1,vL vR p.2.2],cO y m,au W aB (aV y)]:=Z;have J:∀{h':Heap} {Bs:List HP} {d:bc} {m':aG},bS m'=true->aa (fun b=>b<h.size) h h' (ke a pw da 0 Pow.new d m'::Bs)->ac vV jq #[vN (some a)] h' fun v h2=>∃r:Sl,v=vM r.ptr r.len r.cap/\r.len=m'.objs.length/\Sp h' h2 [an fS r 1 pR (m'.objs.map Wl.bW.name)]:=fun dk H'=>by
  refine(ads dk H').mono ?_;rintro _ h2 ⟨r,rfl,R⟩;rw[abx]at R;exact⟨r,rfl,by rw[(R.own 0 rfl).len,qw],R⟩
 refine(J B Z).mono ?_;rintro _ e2 ⟨nr,rfl,eb,c6⟩;have cs:=(Z.comp c6).Rr aF 1 bI (gh 1 aC);refine⟨nr,rfl,?_⟩;refine av (fun t:Sl×Nat=>(t.1,(t.2:Int))) (fun t h'=>t.2<=m.objs.length/\Sp h h' [ke a pw da 0 Pow.new ds m,au S aT [vL vR p.1,vL vR p.2.1,vL vR p.2.2],cO y m,au W aB (aV y),an fS nr 1 pR (m.objs.map Wl.bW.name),dv aF t.1 1 bI (gh 1 aC) ((m.objs.take t.2).map fun e=>C e.object)]) (fun t=>m.objs.length-t.2) (⟨none,0,0⟩,0) rfl ⟨by simp,cs⟩ ?_;rintro⟨o,i⟩ c5 ⟨hi,H⟩;dsimp only at hi H⊢;refine ak (fun e=>?_) fun e=>?_
 ·have j:i<m.objs.length:=by omega
  refine(H.seq 4 rfl fun _=>rfl).bv i rfl (by rw[qw];exact j) (m.objs[i]).name (by rw[zY]) ?_;refine(WN (m.objs[i]).name B H).mono ?_;rintro _ ef ⟨g,rfl,a8⟩;rw[I.get (qg j)]at a8⊢;refine⟨(g,0),rfl,bQ (fun e=>absurd rfl e) fun _=>?_⟩;refine(H.comp a8).HR ae 5 6 (by decide) rfl rfl fq rfl (by decide) (fun _=>rfl) me rfl (by decide) (by simp;omega) fun o' d2 c1=>?_;refine⟨(o',i+1),by rw[Go.Vc.wrap_small _ (by omega) (by omega)];rfl,⟨by omega,?_⟩,by omega⟩;dsimp only;rw[zp j,qQ];exact c1.bV [0,1,2,3,4,5]
 have b9:i=m.objs.length:=by omega
 subst b9;rw[qR]at H;have a9:o.len=m.objs.length:=by rw[(H.afh 5 rfl).1,qw]
 have hw:qc vR (qc vR (6*p.1)*p.2.2)=6*(p.1*p.2.2):=by
  have a5:p.1*p.2.2<=6*9:=wu Q.1 Q.2 (by omega) (by omega);have c7:0<p.1*p.2.2:=vF (by omega) (by omega);have e3:6*p.1*p.2.2=6*(p.1*p.2.2):=Int.mul_assoc _ _ _;rw[Go.Vc.wrap_small (6*p.1) (by omega) (by omega),e3,Go.Vc.wrap_small (6*(p.1*p.2.2)) (by omega) (by omega)]
 have a5:p.1*p.2.2<=6*9:=wu Q.1 Q.2 (by omega) (by omega);have c7:0<p.1*p.2.2:=vF (by omega) (by omega);refine⟨p.1,(H.box 1 rfl).cell0 rfl,p.2.2,(H.box 1 rfl).cell rfl,?_⟩;rw[hw];refine(bK n (6*(p.1*p.2.2)) c5 (by omega) (by omega)).mono ?_;rintro _ d0 ⟨rfl,rfl⟩;have ed:=wY n (show 6*(p.1*p.2.2)≠0 by omega);have et:=z8 n (show 0<6*(p.1*p.2.2)by omega);obtain⟨N,hN⟩:∃N:Nat,(N:Int)=n%(6*(p.1*p.2.2)):=⟨(n%(6*(p.1*p.2.2))).toNat,by omega⟩
 rw[<-hN];refine⟨_,rfl,(Ms N x d0 (by omega)).mono ?_⟩;rintro _ ea ⟨sb,b,rfl,d8,cf⟩;have a6:=H.comp cf;refine⟨sb,rfl,(WK (As:=[au S aT [vL vR p.1,vL vR p.2.1,vL vR p.2.2],cO y m,au W aB (aV y),an fS nr 1 pR (m.objs.map Wl.bW.name),dv aF o 1 bI (gh 1 aC) (m.objs.map fun e=>C e.object),an aD sb 1 aC b]) kK sb b (St.gK 5 rfl fun h' F=>F.1.seq (fun _=>rfl) F.2) (a6.own 6 rfl).cap adu B (by omega) a6).mono ?_⟩;rintro _ b5 ⟨rfl,k⟩;have b1:bi ds m.drives=m.drives:=I.full.bi;have dd:cP m (fu Pow.new 0) ds kK b.length=0:=Yu aeW (fun e he hh=>aeX (hh▸I.nm e he)) (by rw[K];omega) (by omega) (by rw[b1];exact I.dr) (by omega) (by omega);refine⟨_,rfl,?_⟩;rcases WJ (offs:=0) (name:=kK) (b:=b) Eb I.sto with⟨⟨e,hne,F⟩,hcode⟩|⟨_,t,ds',ht,F,S',hds⟩
 ·rw[F]at k hcode⊢;dsimp only at k hcode⊢;have ch:e=8∨e=7:=by
   rcases hcode with h|⟨_,h|h⟩
   ·exact absurd (h.trans dd) hne
   ·exact .inl h.1
   ·exact .inr h.1
  have k:Sp h b5 [ke a pw da 0 Pow.new ds m,au S aT [vL vR p.1,vL vR p.2.1,vL vR p.2.2],cO y m,au W aB (aV y),an fS nr 1 pR (m.objs.map Wl.bW.name),dv aF o 1 bI (gh 1 aC) (m.objs.map fun e=>C e.object),an aD sb 1 aC b]:=k;refine cx (fun e1=>absurd e1 hne) fun _=>?_;refine cl (fun _ h'=>Sp h h' [ke a pw da 0 Pow.new ds m,dv aF o 1 bI (gh 1 aC) (m.objs.map fun e=>C e.object)]) ?_ ?_
  ·have f:=k.box 3 rfl;rcases ch with rfl|rfl
   ·refine bQ (fun _=>bQ (fun e=>absurd rfl e) fun _=>⟨y,f.aQ _ rfl,?_⟩) fun e=>absurd e (by decide);refine(Kn B k).mono ?_;rintro _ ay ⟨z,rfl,V⟩;have O:=k.comp V;refine⟨z,rfl,jE V.ai ⟨f.cell0 rfl,f.cell rfl,f.cell rfl,f.cell rfl,f.cell rfl,f.cell rfl,f.cell rfl,f.cell rfl,trivial⟩,?_⟩;refine(CZ z y m ay (O.at 7 rfl) (O.at 2 rfl) (rT B)).mono ?_;rintro _ c4 ⟨rfl,ap⟩;exact⟨true,rfl,trivial,bA (fun e=>by cases e) fun _=>(O.up ap.ai).bV [0,5]⟩
   ·refine bQ (fun e=>absurd rfl e) fun _=>⟨y,f.aQ _ rfl,?_⟩
    refine(Kn B k).mono ?_;rintro _ ay ⟨z,rfl,V⟩;have O:=k.comp V;refine⟨z,rfl,jE V.ai ⟨f.cell0 rfl,f.cell rfl,f.cell rfl,f.cell rfl,f.cell rfl,f.cell rfl,f.cell rfl,f.cell rfl,trivial⟩,?_⟩;refine(CZ z y m ay (O.at 7 rfl) (O.at 2 rfl) (rT B)).mono ?_;rintro _ c4 ⟨rfl,ap⟩;exact⟨true,rfl,trivial,bA (fun e=>by cases e) fun _=>(O.up ap.ai).bV [0,5]⟩
  rintro _ eq bb;refine(J B bb).mono ?_;rintro _ ek ⟨ab,rfl,T,bl⟩;have c9:=bb.comp bl;refine⟨ab,rfl,?_⟩;refine av (fun i:Nat=>(i:Int)) (fun i h'=>i<=m.objs.length/\Sp h h' [ke a pw da 0 Pow.new ds m,dv aF o 1 bI (gh 1 aC) (m.objs.map fun e=>C e.object),an fS ab 1 pR (m.objs.map Wl.bW.name)]) (fun i=>m.objs.length-i) 0 rfl ⟨by omega,c9⟩ ?_;rintro i d5 ⟨hi,U⟩;dsimp only;refine ak (fun e=>?_) fun e=>?_
  ·have j:i<m.objs.length:=by omega
   refine(U.seq 2 rfl fun _=>rfl).bv i rfl (by rw[qw];exact j) (m.objs[i]).name (by rw[zY]) ?_;refine(WN (m.objs[i]).name B U).mono ?_;rintro _ a4 ⟨g,rfl,a1⟩;rw[I.get (qg j)]at a1⊢;have ao:=U.comp a1;refine⟨(g,0),rfl,bQ (fun e=>absurd rfl e) fun _=>?_⟩;refine cm.oV (ao.eRd 1 rfl fun _=>rfl) i rfl (by rw[qw];exact j) fun u hu=>?_;rw[zY]at hu;have hg:Rd a4 g 1 aC (C (m.objs[i]).object):=ao.at 3 rfl;have ax:(C (m.objs[i]).object).length<=2^40:=by
    have:=(I.sto.ents _ (qg j)).1;have:=((gn m _).1 (I.sto.entry (qg j))).2.2.1;rw[K]at this;omega
   refine(XP g u _ _ a4 hg hu ax).mono ?_;rintro _ d3 ⟨rfl,rfl⟩;refine⟨_,rfl,bA (fun e=>by simp at e) fun _=>?_⟩;exact⟨i+1,by rw[Go.Vc.wrap_small _ (by omega) (by omega)];rfl,⟨by omega,ao.bV [0,1,2]⟩,by omega⟩
  refine(J B U).mono ?_;rintro _ b0 ⟨cc,rfl,a7,cn⟩;refine⟨cc,rfl,cx (fun _=>?_) fun e=>absurd (by rw[a7,a9]) e⟩;refine(HJ b0).mono ?_;rintro _ d7 ⟨rfl,dx⟩;exact⟨true,rfl,rfl,.zip ((U.up cn.ai).up dx.ai).ai⟩
 ·rw[F]at k⊢;dsimp only at k⊢;refine cx (fun _=>?_) fun e=>absurd rfl e;refine(J S'.may k).mono ?_;rintro _ br ⟨ab,rfl,T,cq⟩;have b6:(dg m ⟨kK,m.next,b.length,t⟩).objs.length=m.objs.length+1:=by
   show((m.objs++[_]).mergeSort sf).length=_;rw[wj,qu];rfl
  rw[b6]at T;refine⟨ab,rfl,cx (fun _=>?_) fun e=>absurd (by rw[T,a9,Go.Vc.wrap_small _ (by omega) (by omega)];rfl) e⟩;refine(HJ br).mono ?_;rintro _ en ⟨rfl,bk⟩;exact⟨true,rfl,rfl,.zip ((k.up cq.ai).up bk.ai).ai⟩
theorem HK(s:Sl)(l:List Int)(c:Sl)(l1:List Int)(n x:Int)(h:Heap)(e:Rd h s 1 aE l)(d:Rd h c 1 aE l1):
  ac vV kv #[vM s.ptr s.len s.cap,vM c.ptr c.len c.cap,vL vR n,vL vR x] h fun v h'=>v=vP true/\aU (fun b=>b<h.size) h h':=
 (Ow s l c l1 n x h e d).mono fun _ _ ⟨a,b⟩=>⟨a,b.ai⟩
end
end Go.Proofs.YtdhamoojccmbdaaGreatDoor
