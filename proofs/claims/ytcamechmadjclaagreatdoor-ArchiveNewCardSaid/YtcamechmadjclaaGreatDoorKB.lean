/- Part of the proofs that the laws of this seat answer true whatever the input reads, and leave it as it was; no condition. -/
import Derived.Test.YtcamechmadjclaaGreatDoorKA
set_option linter.unusedVariables false
set_option linter.unusedSimpArgs false
open Go.Proofs.Tryz renaming prog -> wS
open Go.Value renaming bool -> wM, int -> wI, slice -> wJ
open Go.IntKind renaming i64 -> wO, wrap -> qa
set_option maxRecDepth 20000
namespace Go.Proofs.YtcamechmadjclaaGreatDoor
open Go Go.Vc Go.Proofs Wl
section
theorem uv{p:Pm}{a:Int}{l:List Int}(d:l.length<=64):∀y∈(aR p a l).drives,0<=y/\y<64:=fun y b=>by
 obtain⟨n,c,rfl,_⟩:=(js l l.length y).1 b;omega
theorem tl{p:Pm}{a:Int}{w:Pow}{l:List Int}(h:(aC p a w l).1=0):l.length<=64:=by
 rw[lj]at h;by_cases b:cZ p a l=0
 ·exact(li (oF b).2.2.2.1).2.1
 ·rw[if_neg b]at h;exact absurd h b
abbrev cU(p:Pm):List Value:=[wI wO p.1,wI wO p.2.1,wI wO p.2.2]
theorem oI(p:Pm)(k:Int)(B:Sl)(Q:List Int)(w:Sl)(c:List Int)(h:Heap)(t:Rd h B 1 ay Q)(M:Rd h w 1 ay c):
  ac wS dp #[kC p,wI wO k,wJ B.ptr B.len B.cap,wJ w.ptr w.len w.cap] h fun v l=>v=wM true/\Sp h l []:=by
 refine fJ p k B w ?_;unfold dx;have bb:=t.len;refine(Sp.refl h).boxed fun j P I=>af (fun e=>?_) fun e=>?_
 ·refine(mE P).mono ?_;rintro _ h2 ⟨rfl,Y⟩;exact⟨true,rfl,rfl,.zip (aa.up I Y.ai).ai⟩
 refine(tf w c P (M.up I.ai)).mono ?_;rintro _ h3 ⟨r,rfl,V⟩;refine⟨(bM c,xP c,r),rfl,?_⟩;have H3:=I.comp V;refine H3.alloc ae rfl fun a4 h4 H4=>?_;refine H4.storeAll ae 2 rfl rfl (cU (bM c)) rfl rfl rfl rfl fun U K=>?_;have a5:=sE c;have b0:=tF c;have K:Sp h U [ao j aw (cU p),ao a4 aw (cU (bM c)),au aL r 1 ay (cR c)]:=K.cH [0,2,1];refine aB (fun i:Nat=>(i:Int)) (fun i l=>i<=4/\Sp h l [ao j aw (cU p),ao a4 aw (cU (bM c)),au aL r 1 ay (cR c)]) (fun i=>4-i) 0 rfl ⟨by omega,K⟩ ?_;rintro i h6 ⟨hi,F⟩;dsimp only;refine af (fun e6=>?_) (fun e6=>?_)
 ·have a6:i<4:=by omega
  refine⟨bM c,(F.box 1 rfl).aO _ rfl,F.alloc ae rfl fun A h7 H7=>?_⟩;refine H7.storeAll ae 3 rfl rfl (cU (bM c)) rfl rfl rfl rfl fun h8 q=>?_;have q:Sp h h8 [ao A aw (cU (bM c)),ao j aw (cU p),ao a4 aw (cU (bM c)),au aL r 1 ay (cR c)]:=q.bv;have s:St (fun b=>b<h.size) h [ao j aw (cU p),ao a4 aw (cU (bM c)),au aL r 1 ay (cR c)] fun h=>Rd h r 1 ay (cR c):=St.mK 2 rfl fun l O=>O.1.seq (fun _=>rfl) O.2;refine dN (fun(st:Int×Sl) l=>∃(x:Pm) (d:List Int),d.length<=100/\St (fun b=>b<h.size) h [ao j aw (cU p),ao a4 aw (cU (bM c)),au aL r 1 ay (cR c)] (fun h=>Rd h st.2 1 ay d)/\Sp h l (ao A aw (cU x)::[ao j aw (cU p),ao a4 aw (cU (bM c)),au aL r 1 ay (cR c)])) ?_ ?_
  ·refine bp (fun c1=>?_) fun c1=>bp (fun X=>?_) fun X=>bp (fun c3=>?_) fun c3=>?_
   ·refine⟨p,(q.box 1 rfl).aO _ rfl,?_⟩;refine q.storeAll ae 0 rfl rfl (cU p) rfl rfl rfl rfl fun h9 W=>⟨p,cR c,by omega,s,W⟩
   ·exact⟨bM c,cR c,by omega,s,q⟩
   ·exact⟨bM c,Q,by omega,St.base t fun l hp=>t.up hp,q⟩
   ·exact⟨bM c,cR c,by omega,s,q⟩
  rintro⟨y,z⟩ a9 ⟨x,d,ad,m,D⟩;dsimp only at m⊢;refine⟨x,(D.box 0 rfl).aO _ rfl,(pN x y z d (As:=ao A aw (cU x)::[ao j aw (cU p),ao a4 aw (cU (bM c)),au aL r 1 ay (cR c)]) (m.cons) (by omega) D).mono ?_⟩;rintro _ a0 ⟨Q1,Q0⟩;have next:∀{l:Heap},Sp h l [ao j aw (cU p),ao a4 aw (cU (bM c)),au aL r 1 ay (cR c)]->∃G:Nat,qa wO ((i:Int)+1)=(G:Int)/\(G<=4/\Sp h l [ao j aw (cU p),ao a4 aw (cU (bM c)),au aL r 1 ay (cR c)])/\4-G<4-i:=fun R=>⟨i+1,by rw[Go.Vc.wrap_small _ (by omega) (by omega)];rfl,⟨by omega,R⟩,by omega⟩
  by_cases u:(aC x y Pow.new d).1=0
  ·obtain⟨b,a,pw,E,da,rfl,g⟩:=Q0 u;refine⟨(some b,0),rfl,?_⟩;dsimp only;have n:=tl u;refine⟨x,(g.box 3 rfl).aO _ rfl,?_⟩;refine(oH x y z d (As:=ao b bA (dS (some pw) (some a))::aI bU a pw (aE E) Pow.new.offs da (aC x y Pow.new d).2.1 (aC x y Pow.new d).2.2::dG E (aR x y d)::ao A aw (cU x)::[ao j aw (cU p),ao a4 aw (cU (bM c)),au aL r 1 ay (cR c)]) ((((m.cons).cons).cons).cons) (by omega) g).mono ?_;rintro _ H ⟨_,P0⟩;obtain⟨Z,a2,bd,x2,S,rfl,f⟩:=P0 u;refine⟨(some Z,0),rfl,bq (fun e=>absurd rfl e) fun _=>aN (fun e=>by cases e) fun _=>aN (fun _=>?_) fun e=>by cases e⟩;have hz:co (aR x y d):=iM x y d n;have o:=f.aV 7 [4,1,5,2];refine(tk E x2 (aR x y d) (o.at 2 rfl) (o.at 3 rfl) hz (uv n) (f.box 3 rfl) (f.box 0 rfl) o).mono ?_;rintro _ br ⟨rfl,J⟩;refine⟨true,rfl,aK (fun e=>by cases e) fun _=>next ?_⟩;exact(aa.up f J.ai).rest.rest.rest.rest.rest.rest.rest
  ·obtain⟨rfl,g⟩:=Q1 u;refine⟨(none,(aC x y Pow.new d).1),rfl,?_⟩;dsimp only;refine⟨x,(g.box 0 rfl).aO _ rfl,?_⟩;refine(oH x y z d (As:=ao A aw (cU x)::[ao j aw (cU p),ao a4 aw (cU (bM c)),au aL r 1 ay (cR c)]) (m.cons) (by omega) g).mono ?_;rintro _ H ⟨P1,_⟩;obtain⟨rfl,f⟩:=P1 u;refine⟨(none,(aC x y Pow.new d).1),rfl,bq (fun e=>absurd rfl e) fun _=>?_⟩;have T:((aC x y Pow.new d).1==(0:Int))=false:=by simpa using u
   rw[T];exact aN (fun e=>by cases e) fun _=>aN (fun e=>by cases e) fun _=>next f.rest
 ·refine(ut 4 h6).mono ?_;rintro _ a3 ⟨rfl,N⟩;refine⟨cS 14,rfl,bp (fun _=>?_) fun e=>absurd rfl e⟩;refine(pm _).mono ?_;rintro _ _ ⟨rfl,rfl⟩;refine⟨none,rfl,aN (fun _=>?_) fun e=>by cases e⟩;refine(pn 0 _).mono ?_;rintro _ _ ⟨rfl,rfl⟩;refine⟨none,rfl,aN (fun _=>?_) fun e=>by cases e⟩;refine(mE _).mono ?_;rintro _ a8 ⟨rfl,L⟩;exact⟨true,rfl,rfl,.zip (aa.up (aa.up F N.ai) L.ai).ai⟩
theorem lP(p:Pm)(c:Int)(e:Sl)(j:List Int)(d:Sl)(i:List Int)(h:Heap)(g:Rd h e 1 ay j)(f:Rd h d 1 ay i):
  ac wS dp #[kC p,wI wO c,wJ e.ptr e.len e.cap,wJ d.ptr d.len d.cap] h fun v k=>v=wM true/\ax (fun b=>b<h.size) h k:=
 (oI p c e j d i h g f).mono fun _ _ ⟨a,b⟩=>⟨a,b.ai⟩
end
end Go.Proofs.YtcamechmadjclaaGreatDoor
