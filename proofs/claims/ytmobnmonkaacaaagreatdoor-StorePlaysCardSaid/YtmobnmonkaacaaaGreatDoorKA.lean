/- Lemmas for the proof of the law; no condition. -/
import Derived.Test.YtmobnmonkaacaaaGreatDoorTabS
import Derived.Test.YtmobnmonkaacaaaGreatDoorShelfA
set_option maxHeartbeats 2000000
set_option linter.unusedVariables false
set_option linter.unusedSimpArgs false
open Go.Proofs.Tryz renaming prog -> xR
open Go.Value renaming agg -> xM, bool -> xL, int -> xH, pointer -> xJ, slice -> xI, string -> xK
open Go.IntKind renaming bits -> qq, i64 -> xN, signed -> yA, u32 -> xP, u64 -> xQ, u8 -> xO, wrap -> qc
open Option renaming some -> wb
open Int renaming ediv_le_self -> xf, ediv_nonneg -> xr, fdiv -> zo, lt_tmod_of_pos -> vG, tdiv -> yg, tmod -> xz
open UInt8 renaming ofNat -> zI
open List renaming exists_cons_of_length_eq_add_one -> yq, foldl_nil -> vS, length -> xp, map_snd_zip -> xg, mem_mergeSort -> vH, nil_append -> wX, range -> qy, replicate -> qh, replicate_succ -> ya
open Nat renaming mod_eq_of_lt -> yR
open BitVec renaming ofInt -> qG, ofNat -> yJ
open Bool renaming not_true -> yl
open Prod renaming fst -> qA, snd -> zh
open Go.Instr renaming fill -> wv, storeAt -> qD
set_option maxRecDepth 100000
open Option renaming some -> dB, none -> eH
open Bool renaming true -> eX, false -> eY
open Go renaming Addr -> hU
open Go.Qw renaming cellOf -> hY, Heap -> m5
open List renaming length -> n4
open Go.Qw.cg renaming two -> G0, n -> G6, inn -> G7, loop -> G9, join -> Hf, tn -> HF, lp -> I0, jn -> I1
namespace Go.Qw
open Go.Proofs
abbrev Cells:=dP
abbrev powC(w:Pow)(l:Int):aS:=[xL w.off,xL w.fuse.isSome,xH xN l,xH xN w.offs]
def Eg(w:Pow)(l:Int):Prop:=∀k,w.fuse=dB k->l=k/\k<2^62
def eF(t:Nat)(a:hU)(w:Pow):HP:=HP.ex λl:Int=>(an a t (powC w l)).and (Eg w l)
variable {B:au} {h0 h h':m5} {As:List HP} {t:Nat} {a:hU} {w:Pow}
theorem aa.jE(H:aa B h0 h (eF t a w::As)):∃l,Eg w l/\aa B h0 h (an a t (powC w l)::As):=by obtain⟨l,H⟩:=H.AV;obtain⟨H,b⟩:=H.Fv;exact⟨l,b,H⟩
theorem aa.mE{l:Int}(b:Eg w l)(H:aa B h0 h (an a t (powC w l)::As)):aa B h0 h (eF t a w::As):=
 (H.toFv b).Ct (F:=λl:Int=>(an a t (powC w l)).and (Eg w l)) l
theorem sW(l:Int)(b:bV h a 107 (powC w l)):ak xR 63 #[xJ (dB a)] h λv h'=>v=xL (!w.off)/\h'=h:=by refine ts Tryz.func63 ?_;exact aT (λ_=>⟨a,n5,w.off,b.cell0 n5,n5,n5⟩) λe=>o1
theorem CV(l:Int)(b:bV h a 107 (powC w l)):ak xR 82 #[xJ (dB a)] h λv h'=>v=xH xN w.offs/\h'=h:=by refine ts Tryz.func82 ?_;exact aT (λe=>o1) λ_=>⟨a,n5,w.offs,b.cell n5,n5,n5⟩
theorem Jv(h:m5):ak xR 41 #[] h λv h'=>∃a,v=xJ (dB a)/\Sp h h' [eF 107 a Pow.new]:=by refine ts Tryz.func41 ?_;refine(Sp.refl h).boxed λa c b=>⟨a,n5,aa.mE (l:=0) (w:=Pow.new) (λk e=>o1) b⟩
theorem Xv(n:Int)(o:n<2^62)(H:aa B h0 h (eF 107 a w::As)):ak xR 16 #[xJ (dB a),xH xN n] h λv h'=>v=.tuple #[]/\aa B h0 h' (eF 107 a (w.arm n)::As):=by
 obtain⟨l,p,f⟩:=H.jE;refine ts Tryz.func16 ?_;refine(sW l (f.box 0 n5)).I2 ⟨_,n5,aH (λe=>⟨n5,?_⟩) λe=>?_⟩
 .have:w.arm n=w:=by unfold Pow.arm;rw[m6 p7]
  rw[this];exact H
 .have d:w.off=eY:=p7
  refine⟨a,n5,f.store ag 0 n5 n5 1 [xL (decide (n>=0))] n5 n5 n5 oo λm g=>?_⟩;refine⟨a,n5,g.store ag 0 n5 n5 2 [xH xN (if(0:Int)>n then 0 else n)] n5 n5 n5 C4 λh3 j=>⟨n5,?_⟩⟩;refine aa.mE (l:=if(0:Int)>n then 0 else n) (λk c=>?_) ?_
  .unfold Pow.arm at c;rw[nq Bk]at c;by_cases b:0<=n
   .rw[m6 b]at c;simp at c;subst c;rw[nq n7];omega
   .rw[nq b]at c;cases c
  .have i:powC (w.arm n) (if(0:Int)>n then 0 else n)=[xL w.off,xL (decide (n>=0)),xH xN (if(0:Int)>n then 0 else n),xH xN w.offs]:=by
    unfold Pow.arm powC;rw[nq Bk];by_cases b:0<=n
    .rw[m6 b];simp[d,b]
    .rw[nq b];simp[d];omega
   rw[i];exact j
theorem CW(H:aa B h0 h (eF 107 a w::As)):ak xR 27 #[xJ (dB a)] h λv h'=>v=xL w.step.1/\aa B h0 h' (eF 107 a w.step.2::As):=by
 obtain⟨l,r,c⟩:=H.jE;refine ts Tryz.func27 ?_;refine(sW l (c.box 0 n5)).I2 ⟨_,n5,aH (λe=>?_) λe=>?_⟩
 .have:w.step=(eY,w):=by unfold Pow.step;rw[m6 p7]
  rw[this];exact⟨n5,H⟩
 have g:w.off=eY:=p7
 refine⟨a,n5,_,(c.box 0 n5).cell n5,aH (λe2=>?_) λe2=>?_⟩
 .have:w.step=(eX,w):=by
   unfold Pow.step;rw[nq C0];cases d:w.fuse with
   |none=>rfl
   |some k=>rw[d]at e2;cases e2
  rw[this];exact⟨n5,H⟩
 obtain⟨k,d⟩:∃k,w.fuse=dB k:=yP.1 e2;obtain⟨rfl,u⟩:=r k d;have s:powC w (k:Int)=[xL eY,xL eX,xH xN k,xH xN w.offs]:=by simp[powC,g,d]
 rw[s]at c;refine⟨a,n5,_,(c.box 0 n5).cell n5,be (λp=>?_) λp=>?_⟩
 .have m:k=0:=n7
  subst m;have i:w.step=(eY,⟨eX,dB 0,qc xN (w.offs+1)⟩):=by unfold Pow.step;rw[nq C0,d]
  rw[i];refine⟨a,n5,c.iB ag 0 n5 n5 [xL eX] n5 n5 n5 oo λt n=>?_⟩;refine⟨a,n5,w.offs,(n.box 0 n5).cell n5,a,n5,n.store ag 0 n5 n5 3 [xH xN (qc xN (w.offs+1))] n5 n5 n5 C4 λh3 f=>⟨n5,?_⟩⟩;refine aa.mE (l:=((0:Nat):Int)) (λo b=>by cases b;exact⟨n5,n8⟩) ?_;exact f
 .obtain⟨j,rfl⟩:∃j,k=j+1:=⟨k-1,n7⟩
  have i:w.step=(eX,⟨eY,dB j,w.offs⟩):=by unfold Pow.step;rw[nq C0,d]
  rw[i];refine⟨a,n5,_,(c.box 0 n5).cell n5,a,n5,c.store ag 0 n5 n5 2 [xH xN (qc xN (((j+1:Nat):Int)-1))] n5 n5 n5 C4 λh3 f=>⟨n5,?_⟩⟩;refine aa.mE (l:=(j:Int)) (λo b=>by cases b;exact⟨n5,n7⟩) ?_;rw[af _]at f;have q:((j+1:Nat):Int)-1=(j:Int):=n7
  rw[q]at f;exact f
abbrev Pm:=Int×Int×Int
abbrev go(p:Pm):Value:=xM #[xH xN p.1,xH xN p.2.1,xH xN p.2.2]
theorem eV(p:Pm)(h:m5):ak xR 106 #[go p] h λv h'=>v=xL (bH p)/\Sp h h' []:=by refine ts Tryz.func106 ?_ (args:=[p]);refine(Sp.refl h).boxed λa d j=>?_;have e:=j.box 0 n5;have c:Sp h d []:=.zip j.ac;have i:hY d a=dB (xH xN p.1):=e.cell0 n5;have g:hY d (a.add 1)=dB (xH xN p.2.1):=e.cell n5;have f:hY d (a.add 2)=dB (xH xN p.2.2):=e.cell n5;unfold bH;refine⟨_,i,ae (λb=>?_) λb=>⟨v7,c⟩⟩;rw[n1 b];refine⟨_,i,ae (λb=>?_) λb=>⟨v7,c⟩⟩;rw[n1 b];refine⟨_,g,ae (λb=>?_) λb=>⟨v7,c⟩⟩;rw[n1 b];refine⟨_,g,ae (λb=>?_) λb=>⟨v7,c⟩⟩;rw[n1 b];refine⟨_,f,ae (λb=>?_) λb=>⟨v7,c⟩⟩;rw[n1 b];exact⟨_,f,n5,c⟩
abbrev fu:bS C.toAg 22 3 1 [xH xN 0] 8:=⟨_,_,n5,n5,n5,n5,n5,n5⟩
abbrev cK:bS C.toAg 41 5 1 [xH xO 0] 1:=⟨_,_,n5,n5,n5,n5,n5,n5⟩
abbrev cI:bS C.toAg 79 41 1 [xI eH 0 0] 24:=⟨_,_,n5,n5,n5,n5,n5,n5⟩
theorem jF(s:Sl)(l:aC)(h:m5)(a:Rd h s 1 ar l)(d:n4 l<=2^30):ak xR 92 #[s] h λv h'=>∃r:Sl,v=r/\Sp h h' [ai 3 r 1 ar l]:=by
 refine ts Tryz.func92 ?_;refine aT (λe=>?_) (λe=>?_)
 .have:=a.isNil e;subst this;exact⟨⟨eH,0,0⟩,n5,(Sp.refl h).nil 3 1 ar⟩
 .refine(Sp.refl h).lit ag ar fu n5 [] n5 n8 n5 λi g b=>?_;refine b.append ag 0 n5 fu ⟨_,_,n5,n5⟩ n5 n8 (λ_=>rfl) (a.up b.ac) db oi λf j c=>⟨f,n5,c⟩
theorem fN(s:Sl)(l:aR)(h:m5)(a:Rd h s 1 aq l)(d:n4 l<=2^30:=by omega):ak xR 213 #[s] h λv h'=>∃r:Sl,v=r/\Sp h h' [ai 5 r 1 aq l]:=by
 refine ts Tryz.func213 ?_;refine aT (λe=>?_) (λe=>?_)
 .have:=a.isNil e;subst this;exact⟨⟨eH,0,0⟩,n5,(Sp.refl h).nil 5 1 aq⟩
 .refine(Sp.refl h).lit ag aq cK n5 [] n5 n8 n5 λi g b=>?_;refine b.append ag 0 n5 cK ⟨_,_,n5,n5⟩ n5 n8 (λ_=>rfl) (a.up b.ac) cB oi λf j c=>⟨f,n5,c⟩
theorem Jw{e:TypeId}(s:Sl)(l:aC)(h:m5)(c:Own h e s 1 ar l)(a:n4 l<2^40):ak xR 258 #[s] h λv h'=>v=.tuple #[]/\Own h' e s 1 ar (mg l)/\aQ (λb=>¬s.on b) h h':=
 LK Tryz.slices_Sort_int Tryz.slices_Sort_int_none c a
theorem bT(x n:Int)(h:m5)(c:0<n:=by decide)(f:n<=2^62:=by decide):ak xR 14 #[xH xN x,xH xN n] h λv h'=>v=xH xN (x%n)/\h'=h:=by
 refine ts Tryz.func14 ?_ (HF (HF (I1 [(0,aI)] [(0,1),(8,13)] G6)));have e:=yX x c;have g:-n<x.tmod n:=vG x c;have d:=Fm x n c;refine⟨n7,aE ?_⟩;refine ae (λb=>?_) (λa=>?_)
 .rw[af _];exact⟨by rw[d,m6 b],n5⟩
 .exact⟨by rw[d,nq a],n5⟩
theorem lI{p q:au}(a b:Sl)(c g:Row)(h:m5)(r:Seq h p a 1 aq c)(s:Seq h q b 1 aq g)(y:n4 c<=2^40):
  ak xR 47 #[a,b] h λv h'=>v=xL (decide (c=g))/\h'=h:=by
 refine ts Tryz.func47 ?_ (HF (HF (I0 [(13,aI)] [(4,6),(13,26)])));have m:=r.len;have l:=s.len;refine bt (λd=>⟨?_,n5⟩) (λj=>?_)
 .rw[n2 λe=>d (by rw[m,l,e])]
 .refine aj (λk:Nat=>(k:Int)) (λk h'=>h'=h/\k<=n4 c/\c.take k=g.take k) (λk=>n4 c-k) 0 n5 ⟨n5,n7,oo⟩ ?_;rintro k h' ⟨rfl,x,o⟩;refine ae (λw=>?_) (λt=>?_)
  .have f:k<n4 c:=n7
   have i:k<n4 g:=n7
   refine r.aV k n5 f _ n5 ?_;refine s.aV k n5 i _ n5 ?_;refine bt (λd=>⟨?_,n5⟩) (λj=>?_)
   .rw[n2];intro e;subst e;exact d n5
   .rw[af _];have u:c[k]=g[k]:=yw.1 n7;exact⟨k+1,oo,⟨n5,n7,by rw[az _ _ f,az _ _ i,o,u]⟩,n7⟩
  .have:k=n4 c:=n7
   subst this;rw[qf n7,qf n7]at o;exact⟨by rw[n1 o],n5⟩
structure eZ (d:bp):Prop where
 wait:d.wait<=n4 d.l
 len:n4 d.l<=d.room
 room:d.room<=512
 cell:∀c∈d.l,n4 c=64
 laid:n4 d.laid<=d.room
 cellL:∀c∈d.laid,n4 c=64
variable {d:bp} {b:aR}
theorem eZ.new{n:Nat}(h:n<=512):eZ (bp.new n):=⟨qj _,qX _,h,by simp[bp.new],qX _,by simp[bp.new]⟩
theorem eZ.rewrite{l:dP}(h:eZ d):eZ (d.rewrite w l).2.2:=by
 obtain⟨b,e,h3,a,f,i⟩:=h;unfold bp.rewrite;split
 .exact⟨b,e,h3,a,f,i⟩
 .rename_i g;have g:∀c∈l,n4 c=64:=Cw
  split
  .exact⟨b,e,h3,a,f,i⟩
  .split
   .exact⟨b,e,h3,a,f,i⟩
   .split
    .exact⟨b,e,h3,a,f,i⟩
    .split
     .exact⟨qX _,n9,h3,g,qX _,oo⟩
     .exact⟨b,e,h3,a,n9,g⟩
abbrev ce(s:Sl)(l:Cells):HP:=gA 41 s 5 1 aq l
def kb(t:Nat)(f:bp->Sl->Sl->aS)(a:hU)(d:bp):HP:=
 (HP.ex λb:Sl×Sl=>(an a t (f d b.1 b.2)).sep ((ce b.1 d.l).sep (ce b.2 d.laid))).and (eZ d)
variable {f:bp->Sl->Sl->aS}
theorem aa.jV(H:aa B h0 h (kb t f a d::As)):eZ d/\∃s b:Sl,aa B h0 h (an a t (f d s b)::ce s d.l::ce b d.laid::As):=by obtain⟨H,ok⟩:=H.Fv;obtain⟨c,H⟩:=H.AV;exact⟨ok,c.1,c.2,H.Cu.Cu.aG 3 [2,1,0]⟩
theorem aa.iC{s b:Sl}(ok:eZ d)(H:aa B h0 h (an a t (f d s b)::ce s d.l::ce b d.laid::As)):aa B h0 h (kb t f a d::As):=
 ((((H.aG 3 [2,1,0]).kq).kq).Ct (F:=λc:Sl×Sl=>(an a t (f d c.1 c.2)).sep ((ce c.1 d.l).sep (ce c.2 d.laid))) (s,b)).toFv ok
abbrev fj(pw:hU)(d:bp)(s b:Sl):aS:=[xJ (dB pw),xH xN d.room,s,xH xN d.wait,b,xL d.has,xL d.lost]
abbrev jo(pw a:hU)(d:bp):HP:=kb 172 (fj pw) a d
section
variable {pw:hU}
theorem RR(n:Int)(pw:hU)(h:m5):ak xR 107 #[xH xN n,xJ (dB pw)] h λv h'=>
  (1<=n/\n<=512->∃a,v=xJ (dB a)/\Sp h h' [jo pw a (bp.new n.toNat)])/\(¬(1<=n/\n<=512)->v=xJ eH/\Sp h h' []):=by
 refine ts Tryz.func107 ?_ (HF (I1 [] [(4,15)] G6));refine aE (ae (λe=>⟨λc=>absurd c n7,λ_=>⟨n5,Sp.refl h⟩⟩) λi=>ae (λe=>⟨λc=>absurd c n7,λ_=>⟨n5,Sp.refl h⟩⟩) λe2=>aT (λe=>o1) λ_=>?_);refine(Sp.refl h).boxed λa g f=>⟨λ_=>⟨a,n5,?_⟩,λc=>absurd n7 c⟩
 refine aa.iC (s:=⟨eH,0,0⟩) (b:=⟨eH,0,0⟩) (eZ.new n7) ?_;have e:((n.toNat:Nat):Int)=n:=n7
 have d:=((f.jm 41 5 1 aq).jm 41 5 1 aq).aG 3 [2,1,0];have e2:fj pw (bp.new n.toNat) ⟨eH,0,0⟩ ⟨eH,0,0⟩=[xJ (dB pw),xH xN n,xI eH 0 0,xH xN 0,xI eH 0 0,xL eY,xL eY]:=by simp only[fj,bp.new,e];rfl
 rw[e2];exact d
theorem CX(s b:Sl)(c:bp)(H:aa B h0 h (an a 172 (fj pw d s b)::ce s d.l::ce b d.laid::eF 107 pw w::As))(ok:eZ d)(g:c={d with laid:=[],has:=eY}):
  ak xR 257 #[xJ (dB a)] h λv h'=>v=xH xN 0/\aa B h0 h' (jo pw a c::eF 107 pw w::As):=by
 refine ts Tryz.func257 ?_;refine⟨a,n5,H.store ag 0 n5 n5 4 [xI eH 0 0] n5 n5 n5 t8 λi e=>?_⟩;refine⟨a,n5,e.store ag 0 n5 n5 5 [xL eY] n5 n5 n5 t8 λh3 f=>⟨n5,?_⟩⟩;subst g;refine aa.iC (s:=s) (b:=⟨eH,0,0⟩) ⟨ok.wait,ok.len,ok.room,ok.cell,qX _,oo⟩ ?_;exact((f.jm 41 5 1 aq).aG 5 [1,2,0,4])
theorem Oh(x:Sl)(row:aR)(H:aa B h0 h (jo pw a d::eF 107 pw w::As))(O:Rd h x 1 aq row)(hr:n4 row<=2^20):
  ak xR 185 #[xJ (dB a),x] h λv h'=>v=xH xN (d.append w row).1/\aa B h0 h' (jo pw a (d.append w row).2.2::eF 107 pw (d.append w row).2.1::As):=by
 refine ts Tryz.func185 ?_ (HF (G0 (Hf [] [(4,36)] (G7 (HF (HF (I1 [(9,oe)] [(9,18)] G6))))) (I1 [] [(36,47)] G6)));have W:=O.len;obtain⟨ok,s,b,F⟩:=H.jV;have z:=F.box 0 n5;obtain⟨T,_⟩:=aa.lE (F.aG 4 [1]);have K:=ok.room;have P:=ok.len;have I:=ok.wait;have g:∀(e:Int),d.append w row=(e,w,d)->(Value.int .i64 e=xH xN (d.append w row).1/\aa B h0 h (jo pw a (d.append w row).2.2::eF 107 pw (d.append w row).2.1::As)):=λe V=>by
  rw[V];exact⟨n5,H⟩
 refine aE (bt (λe=>g 1 (by unfold bp.append;rw[m6 n7])) λZ=>?_);have u:n4 row=64:=n7
 refine aE (aT (λe=>o1) λ_=>⟨a,n5,d.lost,z.cell n5,aT (λe=>g 5 ?_) λf=>?_⟩)
 .unfold bp.append;rw[nq n7,m6 e]
 refine⟨a,n5,s,z.cell n5,a,n5,(d.room:Int),z.cell n5,ae (λe=>g 7 ?_) λN=>?_⟩
 .unfold bp.append;rw[nq n7,nq (by simp[f]),m6 n7]
 obtain⟨l,hl,J⟩:=(F.aG 4 [3,0,1,2]).jE;refine⟨a,n5,dB pw,z.cell0 n5,(sW l (J.box 0 n5)).mono ?_⟩;rintro _ S ⟨rfl,rfl⟩;refine⟨_,n5,aH (λe=>g 14 ?_) λo=>?_⟩
 .unfold bp.append;rw[nq n7,nq (by simp[f]),nq n7,m6 p7]
 have k:w.off=eY:=by simpa using o
 refine aE ⟨a,n5,s,z.cell n5,(fN x row S O).I4 λr h4 U=>?_⟩;have E:=(F.bQ U).aG 5 [2,0,1,3,4];have t:=E.box 2 n5;refine⟨r,n5,⟨t.cell n5,I6⟩,?_⟩;have X:=E;refine E.ke ag bv cI n5 [r] n5 (show 1*1<=2^20 by decide) n5 ⟨t.cell n5,I6⟩ ?_;refine E.mh ag cI n7 λA h6 L=>⟨I6,?_⟩
 have L:=L.aG 4 [1,0,2,3];refine⟨a,n5,L.store ag 0 n5 n5 2 [A] n5 n5 n5 t8 λh7 Q=>⟨I6,?_⟩⟩;have G:=Q.box 0 n5;refine⟨a,n5,(d.wait:Int),G.cell n5,a,n5,?_⟩;rw[af ((d.wait:Int)+1)];refine Q.store ag 0 n5 n5 3 [xH xN ((d.wait:Int)+1)] n5 n5 n5 t8 λh8 Y=>?_;obtain⟨i,j⟩:∃i:bp,i={d with l:=d.l++[row],wait:=d.wait+1}:=⟨_,rfl⟩
 have p:eZ i:=by
  subst j;refine⟨oi,oi,ok.room,λc m=>?_,ok.laid,ok.cellL⟩;rcases qx.1 m with m|m
  .exact ok.cell c m
  .rw[qB.1 m];exact u
 have y:aa B h0 h8 (an a 172 (fj pw i A b)::ce A i.l::ce b i.laid::eF 107 pw w::As):=by rw[j];exact Y
 refine⟨a,n5,dB pw,(y.box 0 n5).cell0 n5,(CW (y.aG 4 [3,0,1,2])).I3 λh9 D=>?_⟩;have D:=D.aG 4 [1,2,3,0];have q:d.append w row=if w.step.1 then(0,w.step.2,{i with laid:=[],has:=eY})else(14,w.step.2,i):=by rw[j];unfold bp.append;rw[nq n7,nq (by simp[f]),nq n7,nq (by simp[k])]
 rw[q];refine⟨_,n5,aH (λe=>?_) λe=>?_⟩
 .rw[e];exact⟨n5,D.iC p⟩
 .rw[e];refine(CX A b _ D p n5).I3 λR M=>⟨0,n5,n5,M⟩
theorem Ix(x:Sl)(row:aR)(h:m5)(a:Rd h x 1 aq row):ak xR 185 #[xJ eH,x] h λv h'=>v=xH xN (if row.length≠64 then 1 else 5)/\h'=h:=by refine ts Tryz.func185 ?_ (HF (G0 (Hf [] [(4,36)] (G7 (HF (HF (I1 [(9,oe)] [(9,18)] G6))))) (I1 [] [(36,47)] G6)));have b:=a.len;refine aE (bt (λe=>⟨by rw[m6 n7],n5⟩) λe=>?_);exact aE (aT (λ_=>⟨by rw[nq n7],n5⟩) λe=>o1)
theorem UA(H:aa B h0 h (jo pw a d::eF 107 pw w::As)):
  ak xR 260 #[xJ (dB a)] h λv h'=>v=xH xN (d.sync w).1/\aa B h0 h' (jo pw a (d.sync w).2.2::eF 107 pw (d.sync w).2.1::As):=by
 refine ts Tryz.func260 ?_ (HF (I1 [] [(2,11)] G6));obtain⟨ok,s,b,i⟩:=H.jV;have j:=i.box 0 n5;refine aE (aT (λe=>o1) λ_=>⟨a,n5,d.lost,j.cell n5,aT (λe=>?_) λc=>?_⟩)
 .have:d.sync w=(5,w,d):=by unfold bp.sync;rw[m6 e]
  rw[this];exact⟨n5,H⟩
 refine⟨a,n5,dB pw,j.cell0 n5,(CW (i.aG 4 [3,0,1,2])).I3 λm g=>?_⟩;have g:=g.aG 4 [1,2,3,0];have f:d.sync w=if w.step.1 then(0,w.step.2,{{d with wait:=0}with laid:=[],has:=eY})else(14,w.step.2,d):=by unfold bp.sync;rw[nq B9]
 rw[f];refine⟨_,n5,aH (λe=>?_) λe=>?_⟩
 .rw[e];exact⟨n5,g.iC ok⟩
 .rw[e];refine⟨a,n5,g.store ag 0 n5 n5 3 [xH xN 0] n5 n5 n5 t8 λh3 l=>?_⟩;refine(CX (d:={d with wait:=0}) s b _ l ⟨qX _,ok.len,ok.room,ok.cell,ok.laid,ok.cellL⟩ rfl).I3 λo k=>⟨0,n5,n5,k⟩
theorem Ml(h:m5):ak xR 260 #[xJ eH] h λv h'=>v=xH xN 5/\h'=h:=by refine ts Tryz.func260 ?_ (HF (I1 [] [(2,11)] G6));exact aE (aT (λ_=>⟨n5,n5⟩) λe=>o1)
theorem jo.box(H:aa B h0 h (jo pw a d::As)):∃s b:Sl,bV h a 172 (fj pw d s b)/\dT h s 1 aq d.l/\s.len=n4 d.l:=by obtain⟨ok,s,b,c⟩:=H.jV;exact⟨s,b,c.box 0 n5,(c.aG 3 [1]).uC λ_=>rfl,(aa.lE (c.aG 3 [1])).1⟩
theorem Jx(s b:Sl)(c:bV h a 172 (fj pw d s b)):ak xR 149 #[xJ (dB a)] h λv h'=>v=xH xN d.room/\h'=h:=by refine ts Tryz.func149 ?_;exact aT (λe=>o1) λ_=>⟨a,n5,_,c.cell n5,n5,n5⟩
theorem CY(s b:Sl)(f:bV h a 172 (fj pw d s b))(c:s.len=n4 d.l):ak xR 147 #[xJ (dB a)] h λv h'=>v=xH xN (n4 d.l:Int)/\h'=h:=by refine ts Tryz.func147 ?_;exact aT (λe=>o1) λ_=>⟨a,n5,_,f.cell n5,by rw[c],n5⟩
theorem UB(s b:Sl)(c:bV h a 172 (fj pw d s b)):ak xR 150 #[xJ (dB a)] h λv h'=>v=xH xN d.wait/\h'=h:=by refine ts Tryz.func150 ?_;exact aT (λe=>o1) λ_=>⟨a,n5,_,c.cell n5,n5,n5⟩
theorem uO(s b:Sl)(c:bV h a 172 (fj pw d s b)):ak xR 136 #[xJ (dB a)] h λv h'=>v=xL d.lost/\h'=h:=by refine ts Tryz.func136 ?_;exact aT (λ_=>⟨a,n5,_,c.cell n5,n5,n5⟩) λe=>o1
theorem UC(s b:Sl)(i:Int)(m:bV h a 172 (fj pw d s b))(k:dT h s 1 aq d.l)(o:∀c∈d.l,n4 c=64):ak xR 146 #[xJ (dB a),xH xN i] h λv h'=>∃r:Sl,v=r/\Sp h h' [ai 5 r 1 aq (if 0<=i then d.l.getD i.toNat []else[])]:=by
 refine ts Tryz.func146 ?_ (HF (I1 [] [(4,20)] G6));have p:=k.len;have f:(if 0<=i then d.l.getD i.toNat []else[])=[]->∃r:Sl,Value.slice eH 0 0=xI r.ptr r.len r.cap/\Sp h h [ai 5 r 1 aq (if 0<=i then d.l.getD i.toNat []else[])]:=λe=>by
  rw[e];exact⟨⟨eH,0,0⟩,n5,(Sp.refl h).nil 5 1 aq⟩
 refine aE (aT (λe=>o1) λ_=>ae (λe=>f (by rw[nq n7])) λu=>⟨a,n5,s,m.cell n5,ae (λe=>f ?_) λe2=>?_⟩)
 .rw[m6 n7,qg,zf n7];rfl
 .refine⟨a,n5,s,m.cell n5,k.get i.toNat n7 n7 λr q=>?_⟩;have g:i.toNat<n4 d.l:=n7
  have:=o _ (qe g);refine(fN r _ h q).I4 λj w t=>?_;rw[m6 n7,getD_lt g];exact⟨j,n5,j,n5,t⟩
theorem FK(l:Sl)(ll:Cells)(h:m5)(d:dT h l 1 aq ll)(w:n4 ll<=2^20)(f:∀c∈ll,n4 c<=2^20):ak xR 215 #[l] h λv h'=>∃r:Sl,v=r/\Sp h h' [ce r ll]:=by
 refine ts Tryz.func215 ?_ (HF (HF (I0 [(3,bK),(8,aI)] [(3,4),(5,6),(8,18)])));have o:=d.len;refine aj (λt:Sl×Nat=>(t.1,(t.2:Int))) (λt h'=>t.2<=n4 ll/\Sp h h' [ce t.1 (ll.take t.2)]) (λt=>n4 ll-t.2) (⟨eH,0,0⟩,0) n5 ⟨oo,by simpa using(Sp.refl h).jm 41 5 1 aq⟩ ?_;rintro⟨s,i⟩ p ⟨x,b⟩;dsimp only at*;refine ae (λe=>?_) (λe=>?_)
 .have a:i<n4 ll:=n7
  refine(d.up b.ac).get i n5 a λr k=>?_;have:=f _ (qe a);refine(fN r _ p k).I4 λg u m=>⟨g,n5,?_⟩;refine aa.mh ag (b.comp m) cI oi λj h3 q=>?_;refine⟨(j,i+1),oj,⟨n9,?_⟩,n9⟩
  try dsimp only
  rw[az _ _ a];exact q
 .rw[qf n7]at b;exact⟨s,n5,b⟩
theorem FL(s b:Sl)(j:bV h a 172 (fj pw d s b))(i:dT h s 1 aq d.l)(ok:eZ d):ak xR 151 #[xJ (dB a)] h λv h'=>∃r:Sl,v=r/\Sp h h' [ce r d.l]:=by
 refine ts Tryz.func151 ?_;have:=ok.len;have:=ok.room;refine aT (λe=>o1) λ_=>⟨a,n5,s,j.cell n5,(FK s d.l h i n7 λc f=>by rw[ok.cell c f];decide).I4 λr k g=>?_⟩;exact⟨r,n5,r,n5,g⟩
end
theorem Xw(b:Sl)(l:aR)(h:m5)(q:Rd h b 1 aq l)(D:n4 l<=2^40):ak xR 261 #[b] h λv h'=>v=xH xP (Ck l).toNat/\h'=h:=by
 refine ts Tryz.func261 ?_ (HF (HF (G0 (HF (G7 (G9 [(3,(.sc (.int .u32))),(9,aI)] [(3,4),(5,7),(9,29)] (HF (HF (G0 (G7 (HF (HF (HF (G7 (G9 [(3,(.sc (.int .u32))),(17,aI)] [(3,4),(6,7),(17,28)] G6)))))) G6)))))) G6)));have B:=q.len;refine aj (λt:Nat=>(((mf (l.take t)).toNat:Int),(t:Int))) (λt h'=>t<=n4 l/\h'=h) (λt=>n4 l-t) 0 n5 ⟨n7,n5⟩ ?_;rintro i z ⟨E,rfl⟩;refine ae (λe=>?_) (λe=>?_)
 .have d:i<n4 l:=by have w:(i:Int)<(b.len:Int):=e;omega
  refine q.aV i n5 d (l[i].toNat:Int) n5 ?_;have x:qc xP (l[i].toNat:Int)=((yJ 32 l[i].toNat).toNat:Int):=by rw[Cl,wH]
  rw[x,DP];refine aj (λk:Nat=>(((nR k (mf (l.take i)^^^yJ 32 l[i].toNat)).toNat:Int),(k:Int))) (λk h'=>k<=8/\h'=z) (λk=>8-k) 0 n5 ⟨n7,n5⟩ ?_;rintro k p ⟨A,rfl⟩;obtain⟨c,g⟩:=I5 (nR k (mf (l.take i)^^^yJ 32 l[i].toNat))
  try dsimp only
  rw[<-g];refine ae (λe2=>⟨n8,?_⟩) (λe2=>?_)
  .have a:∀n:rv,n=tm c->∃f:Nat,(((n.toNat:Nat):Int),qc xN ((k:Int)+1))=(((nR f (mf (l.take i)^^^yJ 32 l[i].toNat)).toNat:Int),(f:Int))/\(f<=8/\p=p)/\8-f<8-k:=λn u=>
    ⟨k+1,by rw[af _,u,g];rfl,⟨n7,n5⟩,n7⟩
   have r:qc xP ((qG (qq xP) (c.toNat:Int)&&&qG (qq xP) (1:Int)).toNat:Nat)=((c&&&1#32).toNat:Int):=YR c 1#32;have s:qc xP ((qG (qq xP) ((c>>>1).toNat:Int)^^^qG (qq xP) (3988292384:Int)).toNat:Nat)=(((c>>>1)^^^3988292384#32).toNat:Int):=DP (c>>>1) 3988292384#32;rw[r,PG,s];refine be (λm=>a _ ?_) (λm=>a _ ?_)
   .unfold tm;rw[m6 ((DQ c).1 m)]
   .unfold tm;rw[nq λy=>m ((DQ c).2 y)]
  .have j:k=8:=n7
   subst j;refine⟨i+1,?_,⟨n7,n5⟩,n7⟩;rw[af _,az _ _ d,Gu,g];rfl
 .have o:i=n4 l:=by have w:¬(i:Int)<(b.len:Int):=e;omega
  subst o;refine⟨?_,n5⟩;rw[qt];exact congrArg (Value.int .u32) (DP 4294967295#32 (mf l))
theorem CZ(a:Int)(f:Sl)(l:aR)(h:m5)(D:Rd h f 1 aq l)(P:n4 l<=2^40:=by omega):ak xR 189 #[xH xN a,f] h λv h'=>∃r:Sl,v=r/\Sp h h' [ai 5 r 1 aq (eS a l)]:=by
 refine ts Tryz.func189 ?_ (HF (I1 [] [(4,5),(8,19)] (HF (HF (HF (HF (I0 [(32,aI)] [(7,8),(32,45)])))))));have O:=D.len;have g:¬(1<=a/\a<=255/\l.length<=55)->∃r:Sl,Value.slice eH 0 0=xI r.ptr r.len r.cap/\Sp h h [ai 5 r 1 aq (eS a l)]:=λe=>by
  unfold eS;rw[nq e];exact⟨⟨eH,0,0⟩,n5,(Sp.refl h).nil 5 1 aq⟩
 refine aE (ae (λe=>g n7) λR=>ae (λe=>g n7) λe2=>ae (λe=>g n7) λN=>?_);refine(Sp.refl h).make ag aq cK n8 0 n5 n5 64 64 n5 n5 (qj _) n8 λo y s w E=>?_;rw[cb];refine E.lit ag aq cK n5 [87,115,1,b8 a] n5 (show 4*1<=2^20 by decide) n5 λv3 h3 B=>?_;refine B.Cr ag 0 n5 cK (λ_=>rfl) (B.seq 1 n5 λ_=>rfl) cB λ_ p k=>⟨⟨n8,by rw[s];decide⟩,?_⟩
 have k:Sp h p [ai 5 o 1 aq ([87,115,1,b8 a]++qh 60 0)]:=by have:=k.bu [0];simpa using this
 refine k.LL ag 0 n5 cK (λ_=>rfl) (Seq.up D k.ac) cB 4 oo n5 n5 λ_ z m=>⟨⟨n8,by rw[w];decide⟩,?_⟩
 have H:([87,115,1,b8 a]++qh 60 0).take 4++(l.take (n4 ([87,115,1,b8 a]++qh 60 (0:UInt8))-4)++([87,115,1,b8 a]++qh 60 0).drop (4+n4 l))=ff a l++qh 5 0:=by
  have L:n4 ([87,115,1,b8 a]++qh 60 (0:UInt8))=64:=oo
  rw[L,qf (l:=l) n7,<-wm];have y:([87,115,1,b8 a]++qh 60 (0:UInt8)).drop 4=qh 60 0:=rfl;have h3:([87,115,1,b8 a]++qh 60 (0:UInt8)).take 4=[87,115,1,b8 a]:=rfl;rw[y,h3,List.drop_replicate];unfold ff;have p:qh (60-n4 l) (0:UInt8)=qh (55-n4 l) 0++qh 5 0:=by rw[List.replicate_append_replicate];congr 1;omega
  rw[p];simp[ql]
 rw[H]at m;have b:n4 (ff a l)=59:=tp;have J:Rd z ⟨o.ptr,59,o.cap⟩ 1 aq (ff a l):=by have:=(m.seq 0 n5 λ_=>rfl).take 59 (by simp[b]);rw[List.take_append_of_le_length n7,qf n7]at this;exact this
 refine(Xw ⟨o.ptr,59,o.cap⟩ (ff a l) z J n7).I2 ?_;obtain⟨c,x⟩:=I5 (Ck (ff a l))
 rw[<-x];refine⟨_,n5,?_⟩;refine aj (λi:Nat=>(i:Int)) (λi h'=>i<=4/\Sp h h' [ai 5 o 1 aq (ff a l++((rU c).take i++qh (5-i) 0))]) (λi=>4-i) 0 n5 ⟨n7,x7⟩ ?_;rintro i S ⟨Q,A⟩;have d:=Ly c;refine ae (λe=>?_) (λe=>?_)
 .have I:i<4:=by have G:(i:Int)<4:=e;omega
  rw[af ((8:Int)*i),af ((59:Int)+i)];refine⟨n7,?_⟩;have F:((8:Int)*(i:Int)).toNat=8*i:=n7
  have K:min (8*i) (qq xP)=8*i:=by have:qq xP=32:=rfl;omega
  rw[F,K,cb];have M:b8 (zo (c.toNat:Int) (2^(8*i)))=(rU c)[i]'n7:=by simp[rU]
  rw[M];refine A.set ag 0 n5 (λ_=>rfl) n5 (59+i) n7 (by simp[b];omega) ((rU c)[i]'n7) n5 n5 n5 λh8 j=>?_;refine⟨i+1,o0,⟨n7,?_⟩,n7⟩;have t:(ff a l++((rU c).take i++qh (5-i) 0)).set (59+i) ((rU c)[i]'n7)=ff a l++((rU c).take (i+1)++qh (5-(i+1)) 0):=by
   rw[qZ _ _ n7,b,wE,qZ _ _ oi,az _ _];have:5-i=(5-(i+1))+1:=n7
   rw[this,ya];simp[d,Nat.min_eq_left (show i<=4 by omega)];rw[az _ _ (show i<n4 (rU c) by omega),ql];rfl
  rw[t]at j;exact j
 .have u:i=4:=by have G:¬(i:Int)<4:=e;omega
  subst u;refine A.set ag 0 n5 (λ_=>rfl) n5 63 n5 (by simp[b,d]) 165 n5 n5 n5 λh8 j=>⟨o,n5,?_⟩
  have q:(ff a l++((rU c).take 4++qh (5-4) 0)).set 63 165=eS a l:=by unfold eS;rw[m6 ⟨n7,n7,n7⟩,<-x,qf n7,qZ _ _ n7,b,qZ _ _ Bk];simp[d]
  rw[q]at j;exact j
abbrev dH:=ByteArray×Int×Int×Sl
abbrev bi:=Int×Int×Int×Int×Int×Int×Sl×Sl
abbrev bg(x:dH):aS:=[xK x.1,xH xN x.2.1,xH xN x.2.2.1,x.2.2.2]
abbrev aD(x:bi):aS:=[xH xN x.1,xH xN x.2.1,xH xN x.2.2.1,xH xN x.2.2.2.1,xH xN x.2.2.2.2.1,xH xN x.2.2.2.2.2.1,x.2.2.2.2.2.2.1,x.2.2.2.2.2.2.2]
abbrev cL(x:bi):Value:=xM #[xH xN x.1,xH xN x.2.1,xH xN x.2.2.1,xH xN x.2.2.2.1,xH xN x.2.2.2.2.1,xH xN x.2.2.2.2.2.1,x.2.2.2.2.2.2.1,x.2.2.2.2.2.2.2]
def gH:ja dH Qw.cT:=⟨λh q a b=>(a.1=b.name/\a.2.1=b.object/\a.2.2.1=b.length)/\Seq h q a.2.2.2 1 ar b.tries,λa d=>⟨a.1,a.2.ac d⟩,λa c=>⟨a.1,a.2.mono c⟩⟩
abbrev sX:ja Sl (List Qw.cT):=bZ gH 4 bg
structure kS (h:m5) (q:au) (x:bi) (m:aB):Prop where
 seq:x.1=m.seq
 next:x.2.1=m.next
 p:(x.2.2.1,x.2.2.2.1,x.2.2.2.2.1)=m.p
 extra:x.2.2.2.2.2.1=m.extra
 drives:Seq h q x.2.2.2.2.2.2.1 1 ar m.drives
 objs:sX.p h q x.2.2.2.2.2.2.2 m.objs
 dcap:x.2.2.2.2.2.2.1.len<=x.2.2.2.2.2.2.1.cap
 ocap:x.2.2.2.2.2.2.2.len<=x.2.2.2.2.2.2.2.cap
abbrev ct(h:m5)(x:bi)(m:aB):Prop:=kS h (λb=>b<h.size) x m
theorem kS.ac{h h':m5}{q:au}{x:bi}{m:aB}(a:kS h q x m)(b:aQ q h h'):kS h' q x m:=⟨a.seq,a.next,a.p,a.extra,a.drives.ac b,sX.loc a.objs b,a.dcap,a.ocap⟩
theorem kS.mono{h:m5}{q q':au}{x:bi}{m:aB}(a:kS h q x m)(c:∀b,q b->q' b):kS h q' x m:=⟨a.seq,a.next,a.p,a.extra,a.drives.mono c,sX.mono a.objs c,a.dcap,a.ocap⟩
theorem ct.up{h h':m5}{x:bi}{m:aB}(a:ct h x m)(c:aQ (λb=>b<h.size) h h'):ct h' x m:=(kS.ac a c).mono λ_ d=>qS d c.1
def bn(x:bi)(m:aB):HP:=⟨λh q=>kS h q x m,λa c=>a.ac c,λa b=>a.mono b⟩
theorem Ar:∀x,∀c∈bg x,c.oneCell'=eX:=by intro x c a;simp[bg]at a;rcases a with rfl|rfl|rfl|rfl<;>rfl
theorem pA(n a b:Int)(h:m5):ak xR 131 #[xH xN n,xH xN a,xH xN b] h λv h'=>v=xL (dM n a b)/\h'=h:=by
 refine ts Tryz.func131 ?_;unfold dM;refine ae (λe=>⟨?_,n5⟩) (λe=>⟨?_,n5⟩)
 .rw[n1 (show a<=n from e)];rfl
 .rw[n2 (show¬a<=n from e)];rfl
theorem Jy(s:ByteArray)(h:m5)(G:s.size<=2^40):ak xR 174 #[xK s] h λv h'=>v=xL (gJ s)/\Sp h h' []:=by
 refine ts Tryz.func174 ?_ (HF (I0 [(8,aI)] [(2,3),(4,5),(8,31)]));refine ZP ag ⟨_,n5,n5⟩ ⟨_,n5,n5⟩ ⟨_,n5,n5⟩ s λr F p=>?_;have z:=p.rd 0 n5;have E:=z.len;have D:=tG s;refine aj (λi:Nat=>(i:Int)) (λi h'=>i<=s.size/\h'=F/\∀c∈(iH s).take i,ga c=eX) (λi=>s.size-i) 0 n5 ⟨n7,n5,oo⟩ ?_;rintro i t ⟨H,rfl,d⟩;refine ae (λe=>?_) (λe=>?_)
 .have j:i<n4 (iH s):=by have B:(i:Int)<(r.len:Int):=e;omega
  refine z.aV i n5 j ((iH s)[i].toNat:Int) n5 ?_;obtain⟨c,q⟩:=I5 ((iH s)[i])
  rw[<-q];have a:ga c=eX->∃o:Nat,qc xN ((i:Int)+1)=(o:Int)/\(o<=s.size/\t=t/\∀c∈(iH s).take o,ga c=eX)/\s.size-o<s.size-i:=λw=>
   ⟨i+1,o0,⟨n7,n5,λx k=>by
    rw[az _ _ j]at k;rcases qx.1 k with k|k
    .exact d x k
    .rw[qB.1 k,<-q];exact w⟩,n7⟩
  have g:ga c=eY->Value.bool eY=xL (gJ s)/\Sp h t []:=λw=>by
   refine⟨?_,p.bu []⟩;unfold gJ;have:s.data.toList.all ga=eY:=z6.2 ⟨c,by rw[q];exact qe j,by rw[w];simp⟩;rw[this];rfl
  have b:ga c=eX↔((97<=(c.toNat:Int)/\(c.toNat:Int)<=122)∨(48<=(c.toNat:Int)/\(c.toNat:Int)<=57)∨(c.toNat:Int)=45):=by unfold ga;simp[or_assoc];omega
  have f:ga c=eY↔¬((97<=(c.toNat:Int)/\(c.toNat:Int)<=122)∨(48<=(c.toNat:Int)/\(c.toNat:Int)<=57)∨(c.toNat:Int)=45):=by rw[<-b];cases ga c<;>simp
  refine ae (λu=>ae (λe2=>bt (λl=>g (f.2 n7)) λl=>a (b.2 n7)) λe2=>ae (λl=>bt (λm=>g (f.2 n7)) λm=>a (b.2 n7)) λl=>a (b.2 n7)) λu=>ae (λe2=>ae (λl=>bt (λm=>g (f.2 n7)) λm=>a (b.2 n7)) λl=>ae (λm=>bt (λA=>g (f.2 n7)) λA=>a (b.2 n7)) λm=>a (b.2 n7)) λe2=>a (b.2 n7)
 .have B:¬(i:Int)<(r.len:Int):=e;rw[qf n7]at d;have y:s.data.toList.all ga=eX:=qP.2 d;refine ae (λu=>⟨?_,p.bu []⟩) (λu=>⟨?_,p.bu []⟩)
  .unfold gJ;rw[y,n1 (show 1<=s.size by omega)];congr 1;simp;omega
  .unfold gJ;rw[y,n2 (show¬1<=s.size by omega)];rfl
theorem UD(s:Sl)(l:aC)(a:Int)(h:m5)(r:Rd h s 1 ar l)(z:n4 l<=2^40):ak xR 132 #[s,xH xN a] h λv h'=>v=xL (ow l a)/\h'=h:=by
 refine ts Tryz.func132 ?_ (HF (I0 [(9,aI)] [(4,7),(9,32)]));have x:=r.len;refine aj (λi:Nat=>(i:Int)) (λi h'=>i<=n4 l/\h'=h/\∀j,j<i->fL l a j=eX) (λi=>n4 l-i) 0 n5 ⟨n7,n5,n7⟩ ?_;rintro i m ⟨A,rfl,c⟩;refine ae (λe=>?_) (λe=>?_)
 .have d:i<n4 l:=by have w:(i:Int)<(s.len:Int):=e;omega
  refine r.aV i n5 d l[i] n5 ?_;have p:l.getD i 0=l[i]:=getD_lt d;have g:fL l a i=eY->Value.bool eY=xL (ow l a)/\m=m:=λq=>⟨by unfold ow;rw[Cp d q],n5⟩
  have b:fL l a i=eX->∃o:Nat,qc xN ((i:Int)+1)=(o:Int)/\(o<=n4 l/\m=m/\∀j,j<o->fL l a j=eX)/\l.length-o<n4 l-i:=λq=>
   ⟨i+1,o0,⟨n7,n5,λj y=>by
    by_cases t:j=i
    .rw[t];exact q
    .exact c j n7⟩,n7⟩
  refine(pA l[i] 0 a m).I2 ⟨_,n5,aH (λk=>g (by unfold fL;rw[p,k];rfl)) λk=>ae (λe2=>?_) λe2=>b (by unfold fL;rw[p,k,n1 (show i=0 by omega)];rfl)⟩;rw[af ((i:Int)-1)];refine r.aV (i-1) n7 n7 (l[i-1]'n7) n5 ?_;have f:l.getD (i-1) 0=l[i-1]'n7:=getD_lt;refine ae (λu=>g ?_) (λu=>b ?_)
  .unfold fL;rw[p,f,k,n2 (show¬i=0 by omega),n2 n7];rfl
  .unfold fL;rw[p,f,k,n1 (show l[i-1]'n7<l[i]by omega)];simp
 .have w:¬(i:Int)<(s.len:Int):=e;exact⟨by unfold ow;rw[rX λj y=>c j n7],n5⟩
theorem sE(p:Pm)(n:Int)(h:m5)(o:n<=2^40:=by omega):ak xR 96 #[go p,xH xN n] h λv h'=>v=xH xN (countP p n)/\Sp h h' []:=by
 refine ts Tryz.func96 ?_ (HF (I1 [] [(4,12)] G6)) (args:=[p,(n:Int)]);refine(Sp.refl h).boxed λm f d=>?_;refine aE ⟨p,(d.box 0 n5).aw _ n5,(eV p f).I3 λj l=>?_⟩;have b:=d.up l.ac;refine⟨_,n5,aH (λe=>⟨?_,b.bu []⟩) λg=>ae (λe=>⟨?_,b.bu []⟩) λe=>?_⟩
 .unfold countP;rw[e];rfl
 .unfold countP;rw[n2 (show¬0<n by omega),Bool.and_false];rfl
 .have k:=(bI p).1 g;refine⟨p,(b.box 0 n5).aw _ n5,?_⟩;refine(Ap p (R:=λv h'=>v=xH xN (p.1*p.2.2)/\Sp h h' []) ?_).mono ?_
  .skip
   refine b.boxed λr h3 c=>⟨p.1,(c.box 1 n5).cell0 n5,p.2.2,(c.box 1 n5).cell n5,?_,c.bu []⟩
   have q:p.1*p.2.2<=16*24:=we n7 n7 n7 n7;have a:0<=p.1*p.2.2:=vR n7 n7;rw[af _]
  .rintro _ h3 ⟨rfl,i⟩;have a:0<p.1*p.2.2:=Int.mul_pos n7 n7;refine⟨_,n5,Int.ne_of_gt a,?_,i⟩;have f:(n-1)/(p.1*p.2.2)<=n-1:=xf _ n7;have j:0<=(n-1)/(p.1*p.2.2):=xr n7 n7;rw[af (n-1),yB n7,af ((n-1)/(p.1*p.2.2)),af _];unfold countP;rw[g,n1 (show 0<n by omega)];rfl
theorem Oi(s:Sl)(l:aC)(h:m5)(d:Rd h s 1 ar l)(k:n4 l<=2^40):ak xR 137 #[s,.func (.func 205) #[] #[]] h λv h'=>v=xL (!l.all (dM · 0 15))/\h'=h:=by
 refine ts Tryz.func137 ?_ (args:=[s,(.func (.func 205) #[] #[])]);have j:=d.len;refine(iJ s (205,#[],#[]) (R:=λv h'=>(∃i:Int,v=xH xN i/\(decide (i>=0)=!l.all (dM · 0 15)))/\h'=h) ?_).mono ?_
 .skip
  refine aj (λi:Nat=>(i:Int)) (λi h'=>i<=n4 l/\(l.take i).all (dM · 0 15)=eX/\h'=h) (λi=>n4 l-i) 0 n5 ⟨n7,oo,n5⟩ ?_;rintro i c ⟨f,a,rfl⟩;refine ae (λe=>?_) (λe=>?_)
  .have b:i<n4 l:=by have g:(i:Int)<(s.len:Int):=e;omega
   refine d.aV i n5 b l[i] n5 (fv qa ?_);refine(FI l[i] (R:=λv h'=>v=xL (!dM l[i] 0 15)/\h'=c) ?_).mono ?_
   .skip
    refine(pA l[i] 0 15 c).I2 ⟨_,n5,n5,n5⟩
   .rintro _ _ ⟨rfl,rfl⟩;refine⟨_,n5,aH (λe2=>?_) λe2=>?_⟩
    .refine⟨⟨i,n5,?_⟩,n5⟩;rw[n1 (show(i:Int)>=0 by omega)];have:l.all (dM · 0 15)=eY:=z6.2 ⟨_,qe b,E7⟩;rw[this];rfl
    .refine⟨i+1,o0,⟨n7,?_,n5⟩,n7⟩;rw[az _ _ b,wq,a];simp[e2]
  .have g:¬(i:Int)<(s.len:Int):=e;refine⟨⟨-1,n5,?_⟩,n5⟩;rw[qf n7]at a;rw[a];rfl
 .rintro _ c ⟨⟨i,rfl,f⟩,rfl⟩;exact⟨i,n5,by rw[f],n5⟩
structure bM (m:aB):Prop where
 dr:m.drives.length<=2^30
 ob:m.objs.length<=2^30
 nm:∀e∈m.objs,e.name.size<=2^30/\e.tries.length<=2^30
theorem addr_add(a:hU)(i j:Nat):(a.add i).add j=a.add (i+j):=by unfold Addr.add;by_cases b:i=0<;>by_cases c:j=0<;>simp[b,c,w6]
theorem bV.mi{h:m5}{a:hU}{e:TypeId}{b:aS}{v:Value}(d:bV h a e b)(i j:Nat)(c:b[i+j]?=dB v):hY h ((a.add i).add j)=dB v:=by rw[addr_add];exact d.cell c
theorem bV.mj{h:m5}{a:hU}{e:TypeId}{b:aS}{u v w:Value}(c:bV h a e b)(i:Nat)(f:b[i]?=dB u)(d:b[i+1]?=dB v)(g:b[i+2]?=dB w):aZ h (a.add i) 0 [u,v,w]:=
 ⟨c.mi i 0 f,c.mi i 1 d,c.mi i 2 g,I6⟩
abbrev mF:bS C.toAg 25 83 4 [xK ⟨#[]⟩,xH xN 0,xH xN 0,xI eH 0 0] 56:=⟨_,_,n5,n5,n5,n5,n5,n5⟩
theorem RS(x:bi)(m:aB)(e:dH)(E:Qw.cT)(h:m5)(i:ct h x m)(I:eN gH h e E)(J:kp m=eX)(O:E.name.size<=2^30)(S:E.tries.length<=2^30):
  ak xR 133 #[cL x,xM #[xK e.1,xH xN e.2.1,xH xN e.2.2.1,e.2.2.2]] h λv h'=>v=xL (gv m E)/\Sp h h' []:=by
 refine ts Tryz.func133 ?_ (HF (I1 [] [(4,5),(6,33)] G6)) (args:=[x,e]);obtain⟨_,F,d,_⟩:=Fs J;have D:=(bI m.p).1 d;obtain⟨⟨H,e2,s⟩,u⟩:=I;have f:x.2.2.1=m.p.1:=congrArg (·.1) i.p;have q:x.2.2.2.1=m.p.2.1:=congrArg (·.2.1) i.p;have c:x.2.2.2.2.1=m.p.2.2:=congrArg (·.2.2) i.p;have N:m.p.1*m.p.2.2<=16*24:=we n7 n7 n7 n7;have L:0<=m.p.1*m.p.2.2:=vR n7 n7;refine(Sp.refl h).boxed λM Q K=>?_;refine K.boxed λR A t=>?_;have k:∀{h':m5} {As:List HP},Sp h h' As->gv m E=eY->Value.bool eY=xL (gv m E)/\Sp h h' []:=λ{h' As} H' g=>⟨by rw[g],.zip H'.ac⟩
 refine aE ⟨E.name,by rw[<-H];exact(t.box 1 n5).cell0 n5,(Jy E.name A n7).I3 λh3 z=>?_⟩;have a:=t.up z.ac;refine⟨_,n5,aH (λb=>k a (by unfold gv;rw[b];rfl)) λj=>?_⟩;refine⟨E.object,by rw[<-e2];exact(a.box 1 n5).cell n5,m.next,by rw[<-i.next];exact(a.box 0 n5).cell n5,?_⟩
 try dsimp only
 rw[af (m.next-1)];refine(pA E.object 0 (m.next-1) h3).I2 ⟨_,n5,aH (λb=>k a (by unfold gv;rw[j,b];rfl)) λo=>?_⟩;have g:=a.box 0 n5;refine⟨E.length,by rw[<-s];exact(a.box 1 n5).cell n5,m.p.1,by rw[<-f];exact g.cell n5,m.p.2.2,by rw[<-c];exact g.mi 2 2 n5,?_⟩
 try dsimp only
 rw[af (m.p.1*m.p.2.2),af (m.p.1*m.p.2.2*8)];refine(pA E.length 0 (m.p.1*m.p.2.2*8) _).I2 ⟨_,n5,aH (λb=>k a (by unfold gv;rw[j,o,b];rfl)) λl=>?_⟩;have w:0<=E.length/\E.length<=m.p.1*m.p.2.2*8:=by unfold dM at l;simpa using l
 refine⟨e.2.2.2,(a.box 1 n5).cell n5,?_⟩;refine(Oi e.2.2.2 E.tries _ (Seq.up u a.ac) n7).I2 ⟨_,n5,aH (λb=>?_) λb=>⟨I6,k a ?_⟩⟩
 .have r:E.tries.all (dM · 0 15)=eX:=x0
  refine⟨e.2.2.2,(a.box 1 n5).cell n5,m.p,?_,E.length,by rw[<-s];exact(a.box 1 n5).cell n5,?_⟩
  .rw[<-f,<-q,<-c];exact g.mj 2 n5 n5 n5
  .refine(sE m.p E.length _).I3 λP G=>?_;have y:=a.up G.ac;refine⟨_,n5,⟨(y.box 1 n5).cell n5,I6⟩,?_,.zip y.ac⟩;unfold gv;have B:=u.len;rw[j,o,l,r,B];simp;rfl
 .have r:E.tries.all (dM · 0 15)=eY:=x0
  unfold gv;rw[j,o,l,r];rfl
theorem Oj(a:hU)(e:dH)(l:Sl)(b:List Qw.cT)(h:m5)(o:bV h a 83 (bg e))(q:eN sX h l b)(D:b.length<=2^30):
  ak xR 134 #[l,.func (.func 135) #[] #[xJ (dB a)]] h λv h'=>v=xL (b.any λy=>decide (y.object=e.2.1))/\Sp h h' []:=by
 refine ts Tryz.func134 ?_ (args:=[l,(.func (.func 135) #[] #[xJ (dB a)])]);refine(gY l (135,#[],#[xJ (dB a)]) (R:=λv h'=>(∃i:Int,v=xH xN i/\(decide (i>=0)=b.any λy=>decide (y.object=e.2.1)))/\Sp h h' []) ?_).mono ?_
 .skip
  obtain⟨p,B,E,A⟩:=bZ.kQ q;have z:=bZ.len q;refine aj (λi:Nat=>(i:Int)) (λi h'=>i<=b.length/\(b.take i).any (λy=>decide (y.object=e.2.1))=eY/\Sp h h' []) (λi=>b.length-i) 0 n5 ⟨n7,oo,Sp.refl h⟩ ?_;rintro i m ⟨r,c,j⟩;refine ae (λk=>?_) (λk=>?_)
  .have d:i<b.length:=by have u:(i:Int)<(l.len:Int):=k;omega
   obtain⟨⟨_,s,_⟩,_⟩:=A i n7 d;refine(Seq.up B j.ac).cG (g:=bg) i n5 n7 (p[i]'n7) n5 (fv qa ?_);refine(Iw (p[i]'n7) a (R:=λv h'=>v=xL (b[i].object==e.2.1)/\Sp m h' []) ?_).mono ?_
   .skip
    refine(Sp.refl m).boxed λF t f=>?_;have n:=o.ac (up j.ac f.ac) o.lt;exact⟨b[i].object,by rw[<-s];exact(f.box 0 n5).cell n5,e.2.1,n.cell n5,n5,.zip f.ac⟩
   .rintro _ t ⟨rfl,x⟩;have f:=j.up x.ac;refine⟨_,n5,be (λe2=>?_) λe2=>?_⟩
    .refine⟨⟨i,n5,?_⟩,f⟩;rw[n1 (show(i:Int)>=0 by omega)];exact(zQ.2 ⟨_,qe d,xx⟩).symm
    .refine⟨i+1,o0,⟨n7,?_,f⟩,n7⟩;rw[az _ _ d,yb,c];simpa using e2
  .have u:¬(i:Int)<(l.len:Int):=k;refine⟨⟨-1,n5,?_⟩,j⟩;rw[qf n7]at c;rw[c];rfl
 .rintro _ m ⟨⟨i,rfl,r⟩,w⟩;exact⟨i,n5,F9,w⟩
theorem FM(x:bi)(m:aB)(h:m5)(c:ct h x m)(R:bM m):ak xR 65 #[cL x] h λv h'=>v=xL (bE m)/\Sp h h' []:=by
 refine Mk x ?_;refine(Sp.refl h).boxed λU h1 F=>?_;have y:=F.box 0 n5;have P:x.2.2.1=m.p.1:=congrArg (·.1) c.p;have I:x.2.2.2.1=m.p.2.1:=congrArg (·.2.1) c.p;have M:x.2.2.2.2.1=m.p.2.2:=congrArg (·.2.2) c.p;have r:∀{h':m5} {As:List HP},Sp h h' As->bE m=eY->Value.bool eY=xL (bE m)/\Sp h h' []:=λ{h' As} H' y=>⟨by rw[y],.zip H'.ac⟩
 refine aE ⟨m.seq,by rw[<-c.seq];exact y.cell0 n5,(pA m.seq 1 2147483647 h1).I2 ?_⟩;refine⟨_,n5,aH (λb=>r F (by unfold bE kp;rw[b];rfl)) λE=>?_⟩;refine⟨m.next,by rw[<-c.next];exact y.cell n5,(pA m.next 0 16777216 _).I2 ?_⟩;refine⟨_,n5,aH (λb=>r F (by unfold bE kp;rw[E,b];rfl)) λN=>?_⟩;refine⟨m.p,by rw[<-P,<-I,<-M];exact y.mj 2 n5 n5 n5,(eV m.p _).I3 λh2 R2=>?_⟩;have o:=F.up R2.ac;refine⟨_,n5,aH (λb=>r o (by unfold bE kp;rw[E,N,b];rfl)) λY=>?_⟩;refine⟨m.extra,by rw[<-c.extra];exact(o.box 0 n5).cell n5,(pA m.extra 0 16 _).I2 ?_⟩;refine⟨_,n5,aH (λb=>r o (by unfold bE kp;rw[E,N,Y,b];rfl)) λb4=>?_⟩;have H:kp m=eX:=by unfold kp;rw[E,N,Y,b4];rfl
 have O:=c.up o.ac;have s:=o.box 0 n5;have ad:=R.dr;have ah:=R.ob;refine aE ⟨_,s.cell n5,(UD _ m.drives 63 _ O.drives n7).I2 ?_⟩;refine⟨_,n5,aH (λb=>r o (by unfold bE;rw[H,b];rfl)) λW=>?_⟩;have V:=bZ.len c.objs;refine⟨x.2.2.2.2.2.2.2,s.cell n5,ae (λe=>r o ?_) λab=>?_⟩
 .unfold bE;rw[H,W,n2 n7];rfl
 have S:n4 m.objs<=12:=n7
 refine⟨x.2.2.2.2.2.2.2,s.cell n5,?_⟩;obtain⟨l,B⟩:=bZ.fix c.objs;have al:=B.2.1;refine aj (λi:Nat=>(i:Int)) (λi h'=>i<=n4 m.objs/\(∀j,j<i->ko m j=eX)/\Sp h h' [an U 27 (aD x)]) (λi=>n4 m.objs-i) 0 n5 ⟨n7,n7,o⟩ ?_;rintro i h3 ⟨hi,q,Q⟩;refine ae (λe=>?_) (λe=>?_)
 .have k:i<n4 m.objs:=by have e':(i:Int)<(x.2.2.2.2.2.2.2.len:Int):=e;omega
  have A:=R.nm _ (qe k);have f:jl m.objs i=m.objs[i]:=lD k;have w:∀{h':m5} {As:List HP},Sp h h' As->ko m i=eY->Value.bool eY=xL (bE m)/\Sp h h' []:=λ{h' As} H' y=>r H' (by unfold bE;rw[Cp k y];simp);have F3:=fO.up B Q.ac;refine F3.1.cG (g:=bg) i n5 n7 (l[i]'n7) n5 ?_;refine Q.alloc ag n5 λD h4 H4=>?_;refine H4.storeAll ag 1 n5 n5 (bg (l[i]'n7)) n5 n5 n5 n5 λh5 z=>?_;have Z:=fO.up B z.ac;obtain⟨⟨y1,y2,y3⟩,y4⟩:=Fix.row Z k;obtain⟨b6,d⟩:∃b,b=(decide (i=0)||cQ (jl m.objs (i-1)).name (jl m.objs i).name):=⟨_,rfl⟩
  refine bs (λ_ h'=>gv m m.objs[i]=eX/\b6=eX/\Sp h h' [an U 27 (aD x),an D 83 (bg (l[i]'n7))]) ?_ ?_
  .refine⟨x,(z.box 0 n5).aw _ n5,l[i]'n7,(z.box 1 n5).aw _ n5,?_⟩;refine(RS x m (l[i]'n7) m.objs[i] h5 (c.up z.ac) (Fix.row Z k) H A.1 A.2).I3 λh6 R6=>?_;have a:=z.up R6.ac;have G:=fO.up B a.ac;refine⟨_,n5,I6,aH (λb=>w a (by unfold ko;rw[f,b];rfl)) λb=>ae (λe2=>?_) λe2=>⟨b,by rw[d,n1 (show i=0 by omega)];rfl,a⟩⟩;rw[af ((i:Int)-1)];obtain⟨T,ha,zz,hc,rfl⟩:=G.1.cG (g:=bg) (i:=(i:Int)-1) (i-1) n7 n7 (l[i-1]'n7) rfl (K:=λt=>t=l[i-1]'n7) rfl;refine⟨x.2.2.2.2.2.2.2,(a.box 0 n5).cell n5,T,ha,m.objs[i-1].name,?_,m.objs[i].name,?_,?_⟩
   .rw[<-(Fix.row G (show i-1<n4 m.objs by omega)).1.1];exact hc.1
   .rw[<-y1];exact(a.box 1 n5).cell0 n5
   .have n:jl m.objs (i-1)=m.objs[i-1]:=lD;rw[f,n]at d;refine aH (λu=>w a ?_) (λu=>⟨b,?_,a⟩)
    .unfold ko;rw[f,n,b,n2 (show¬i=0 by omega)];unfold cQ;rw[u];rfl
    .rw[d];unfold cQ;rw[u];simp
  .rintro _ h6 ⟨b,J,a⟩;have G:=fO.up B a.ac;refine⟨x.2.2.2.2.2.2.2,(a.box 0 n5).cell n5,⟨n7,by have:=c.ocap;omega⟩,?_⟩;rw[qi];refine(Oj D (l[i]'n7) ⟨x.2.2.2.2.2.2.2.ptr,i,x.2.2.2.2.2.2.2.cap⟩ (m.objs.take i) h6 (a.box 1 n5) (bZ.take G.elt i n7) oi).I3 λh7 R7=>?_;have X:=a.up R7.ac;rw[y2];refine⟨_,n5,aT (λu=>w X ?_) λu=>?_⟩
   .unfold ko;rw[f,u];simp
   .refine⟨i+1,o0,⟨n7,λj hj=>?_,X.bu [0]⟩,n7⟩;by_cases L:j=i
    .subst L;rw[J]at d;unfold ko;rw[<-d,f,b,u];rfl
    .exact q j n7
 .have e':¬(i:Int)<(x.2.2.2.2.2.2.2.len:Int):=e;refine⟨?_,.zip Q.ac⟩;unfold bE;rw[H,W,n1 S,rX λj hj=>q j n7];rfl
theorem pZ(s:Sl)(l:aR)(n:Int)(k:Nat)(r:k<=4)(u:n4 l<=2^20)(H:aa B h0 h (ai 5 s 1 aq l::As)):
  ak xR 188 #[s,xH xN n,xH xN k] h λv h'=>∃b:Sl,v=b/\aa B h0 h' (ai 5 b 1 aq (l++cy n k)::As):=by
 refine ts Tryz.func188 ?_ (HF (I0 [(0,bK),(7,aI)] [(0,1),(7,8),(10,22)]));have g:=bL n k;refine aj (λt:Sl×Nat=>(t.1,(k:Int)-1-t.2)) (λt h'=>t.2<=k/\aa B h0 h' (ai 5 t.1 1 aq (l++(cy n k).take t.2)::As)) (λt=>k-t.2) (s,0) (by rw[af _];simp) ⟨oo,v8⟩ ?_;rintro⟨o,j⟩ x ⟨w,a⟩;dsimp only at*;refine ae (λe=>?_) (λe=>?_)
 .have f:j<k:=n7
  rw[af ((8:Int)*((k:Int)-1-j))];refine⟨n7,?_⟩;have d:((8:Int)*((k:Int)-1-j)).toNat=8*(k-1-j):=n7
  have i:min (8*(k-1-j)) (qq xN)=8*(k-1-j):=by have:qq xN=64:=rfl;omega
  rw[d,i,cb];have p:b8 (zo n (2^(8*(k-1-j))))=(cy n k)[j]'n7:=by simp[cy]
  rw[p];refine a.push ag 0 n5 cK n5 n8 (λ_=>rfl) cB ((cy n k)[j]'n7) n5 n8 oi λm q c=>?_;refine⟨(m,j+1),by dsimp only;rw[af _];congr 1;omega,⟨n9,?_⟩,n9⟩
  try dsimp only
  rw[az _ _ (show j<n4 (cy n k) by omega),<-ql];exact c
 .rw[qf n7]at a;exact⟨o,n5,a⟩
theorem sF(b:Sl)(l:aC)(o:Sl)(c:aR)(H:aa B h0 h (ai 5 o 1 aq c::As))(q:St B h0 As λh=>Rd h b 1 ar l)(G:n4 c<=2^30)(E:n4 l<=2^30){K:Sl×Int->m5->Prop}
  (w:∀r h',aa B h0 h' (ai 5 r 1 aq (c++l.map b8)::As)->K (r,(n4 l:Int)) h'):
  fP (σ:=Sl×Int) (λa z h8=>
 Br (decide (a.2<((b.len:Nat):Int)))
 (∃g:hU,(b.ptr=dB g/\0<=a.2/\a.2<((b.len:Nat):Int))/\
 ∃k:Int,hY h8 (g.add (a.2.toNat*1))=dB (xH xN k)/\
 bF xR (Instr.buildSlice 41 1 #[(0,(xH xO (qc xO k)))]) (.one (.sc .slc)) h8 λd y=>
 bF xR (Builtin.append_ #[41,41] 41 #[(xI a.1.ptr a.1.len a.1.cap),(xI d.ptr d.len d.cap)]) (.one (.sc .slc)) y λf n=>
 z ((⟨f.ptr,f.len,f.cap⟩:Sl),qc xN (a.2+(1:Int))) n)
 (K a h8)) (o,(0:Int)) h:=by
 have x:b.len=n4 l:=(q.at [_] H).len;refine aj (λt:Sl×Nat=>(t.1,(t.2:Int))) (λt h'=>t.2<=n4 l/\aa B h0 h' (ai 5 t.1 1 aq (c++(l.take t.2).map b8)::As)) (λt=>n4 l-t.2) (o,0) n5 ⟨oo,v8⟩ ?_;rintro⟨u,i⟩ A ⟨F,m⟩;dsimp only at*;refine ae (λe=>?_) (λe=>?_)
 .have j:i<n4 l:=n7
  refine(q.at [_] m).aV i n5 j l[i] n5 ?_;rw[cb];refine m.push ag 0 n5 cK n5 n8 (λ_=>rfl) cB (b8 l[i]) n5 n8 oi λv D s=>?_;refine⟨(v,i+1),oj,⟨n9,?_⟩,n9⟩
  try dsimp only
  rw[az _ _ j,qF,<-ql];exact s
 .have p:i=n4 l:=n7
  subst p;rw[qt]at m;exact w u A m
theorem aac{m:aB}(a:bE m=eX){i:Nat}(b:i<n4 m.objs):gv m m.objs[i]=eX:=by
 unfold bE at a;simp only[qC]at a;have:=qP.1 a.2.2.2 i (qY.2 b);unfold ko at this;simp only[qC]at this;have c:=this.1
 rwa [lD b]at c
theorem Mm{m:aB}(d:bE m=eX){i:Nat}(h:i<m.objs.length):m.objs[i].name.size<=12/\m.objs[i].tries.length<=3073:=by
 have b:=aac d h;unfold gv gJ at b;simp only[qC,decide_eq_true_eq]at b;obtain⟨⟨_,_,g⟩,_,h3,_,c⟩:=b;refine⟨g,?_⟩;obtain⟨_,_,a,_⟩:=Fs (TP d);have f:=(bI m.p).1 a;unfold dM at h3;simp only[qC,decide_eq_true_eq]at h3;have j:m.p.1*m.p.2.2<=16*24:=we n7 n7 n7 n7;unfold countP at c;split at c
 .have:(m.objs[i].length-1)/(m.p.1*m.p.2.2)<=m.objs[i].length-1:=xf _ (by rename_i e;simp at e;omega);omega
 .omega
theorem UE{m:aB}(a:bE m=eX){i:Nat}(b:i<n4 m.objs):n4 (gh m.objs[i])<=4000:=by have:=Mm a b;unfold gh;simp[bL];have:m.objs[i].name.data.size=m.objs[i].name.size:=rfl;omega
theorem uP{m:aB}(a:bE m=eX):∀n,n<=n4 m.objs->n4 ((m.objs.take n).flatMap gh)<=n*4000
 |0,_=>oo
 |n+1,hn=>by
  rw[az _ _ (show n<n4 m.objs by omega),za,qo];have b:=uP a n n7;have c:=UE a (show n<n4 m.objs by omega);have h3:n4 ([m.objs[n]].flatMap gh)=n4 (gh m.objs[n]):=by rw[zm,zW,qL]
  omega
theorem ua{m:aB}(a:bE m=eX):n4 m.objs<=12:=by unfold bE at a;simp only[qC,decide_eq_true_eq]at a;exact a.2.2.1
theorem ub(m:aB)(h:bM m):n4 (gy m)<=100000:=by
 unfold gy;split
 .rename_i e;have c:=e;unfold bE at c;simp only[qC,decide_eq_true_eq]at c;have k:n4 m.drives<=64:=by
   have a:=c.2.1;unfold ow at a;rw[qP]at a;by_cases g:n4 m.drives<=64
   .exact g
   .exfalso;have b:∀i,i<n4 m.drives->(i:Int)<=m.drives.getD i 0:=λi=>by
     induction i with
     |zero=>
      intro f;have:=a 0 (qY.2 f);unfold fL dM at this;simp at this;simpa using this.1
     |succ i ih=>
      intro f;have:=a (i+1) (qY.2 f);have h3:=ih n7;unfold fL dM at this;simp at this;have d:=this.2;simp only[qg]at h3⊢;omega
    have h3:=b 64 n7;have d:=a 64 (qY.2 n7);unfold fL dM at d;simp at d;simp only[qg]at h3;omega
  have j:n4 (m.objs.flatMap gh)<=12*4000:=by have a:=uP e m.objs.length (qj _);rw[qt]at a;have:=zi 4000 (ua e);omega
  simp only[qo,q7,wK,qm,bL];omega
 .simp
theorem UF(x:bi)(m:aB)(h:m5)(d:ct h x m)(hz:bM m):ak xR 103 #[cL x] h λv h'=>∃r:Sl,v=r/\Sp h h' [ai 5 r 1 aq (gy m)]:=by
 refine ts Tryz.func103 ?_ (HF (HF (I1 [(3,bK)] [(3,4),(13,19)] (HF (G0 (HF (G7 (G9 [(3,bK),(44,aI)] [(3,4),(5,6),(44,54)] G6))) (HF (G0 (HF (G7 (G9 [(3,bK),(64,aI)] [(3,4),(7,8),(9,10),(64,99)] (HF (HF (G0 (G7 (HF (I1 [(3,bK)] [(3,4),(68,78)] (I1 [(3,bK)] [(3,4),(78,85)] (HF (G7 (G9 [(3,bK),(88,aI)] [(3,4),(9,10),(88,98)] G6))))))) G6)))))) G6))))))) [(3,(.l [0,1,3,4,2,5,6])),(14,(.l [0,1,2,3,4,7,8,5,6,9,10])),(15,(.l [0,1,2,4,5,3,6,7]))] (args:=[x]);refine(Sp.refl h).boxed λa1 h1 H1=>?_;refine⟨x,(H1.box 0 n5).aw _ n5,(FM x m h1 (d.up H1.ac) hz).I3 λh2 R2=>?_⟩;have H2:=H1.up R2.ac;refine⟨_,n5,aH (λe=>?_) λA=>?_⟩
 .unfold gy;rw[e];exact⟨⟨eH,0,0⟩,n5,((H2.nil 5 1 aq).bu [1])⟩
 have ab:x.2.2.1=m.p.1:=congrArg (·.1) d.p;have U:x.2.2.2.1=m.p.2.1:=congrArg (·.2.1) d.p;have Z:x.2.2.2.2.1=m.p.2.2:=congrArg (·.2.2) d.p;have G:=H2.box 0 n5;have b:=ub m hz;unfold gy at b;rw[A,m6 rfl]at b;have hM:∀{h':m5} {As:List HP},Sp h h' As->ct h' x m:=λ{h' As} K=>d.up K.ac;refine aE ⟨m.seq,by rw[<-d.seq];exact G.cell0 n5,m.next,by rw[<-d.next];exact G.cell n5,?_⟩;have H3:=(H2.nil 5 1 aq).bc;refine(pZ ⟨eH,0,0⟩ [] m.seq 4 n8 oo H3).I4 λs4 h4 H4=>⟨s4,n5,⟨by rw[<-d.next];exact(H4.box 1 n5).cell n5,I6⟩,?_⟩;refine(pZ s4 _ m.next 4 n8 tq H4).I4 λs5 h5 H5=>⟨s5,n5,I6,?_⟩;have f:=H5.box 1 n5;refine⟨m.p.1,by rw[<-ab];exact f.cell n5,m.p.2.1,by rw[<-U];exact f.mi 2 1 n5,m.p.2.2,by rw[<-Z];exact f.mi 2 2 n5,m.extra,by rw[<-d.extra];exact f.cell n5,x.2.2.2.2.2.2.1,f.cell n5,?_⟩;have al:=d.drives.len;have am:=bZ.len d.objs
 try dsimp only
 rw[cb,cb,cb,cb,cb,al];refine H5.lit ag aq cK n5 [b8 m.p.1,b8 m.p.2.1,b8 m.p.2.2,b8 m.extra,b8 (m.drives.length:Nat)] n5 (show 5*1<=2^20 by decide) n5 λa9 h6 H6=>?_;refine H6.append ag 0 n5 cK ⟨_,_,n5,n5⟩ n5 n8 (λ_=>rfl) (H6.seq 2 n5 λ_=>rfl) cB tq λs7 h7 S=>?_;have S:=S.bu [0,1];refine⟨x.2.2.2.2.2.2.1,(S.box 1 n5).cell n5,?_⟩;have a0:(([]++cy m.seq 4)++cy m.next 4++[b8 m.p.1,b8 m.p.2.1,b8 m.p.2.2,b8 m.extra,b8 (m.drives.length:Nat)]).length=13:=tq
 have a8:=hz.dr;refine sF x.2.2.2.2.2.2.1 m.drives s7 _ S (St.mk' λh' K=>(hM K).drives) n7 n7 λs8 h8 X=>?_
 try dsimp only
 refine⟨x.2.2.2.2.2.2.2,(X.box 1 n5).cell n5,?_⟩
 try dsimp only
 rw[cb,am];obtain⟨a,c⟩:=I5 (([]++cy m.seq 4)++cy m.next 4++[b8 m.p.1,b8 m.p.2.1,b8 m.p.2.2,b8 m.extra,b8 (m.drives.length:Nat)]++m.drives.map b8)
 rw[<-c]at X;have W:a.length=13+m.drives.length:=by rw[c];simp[bL];omega
 simp only[qo,q7,wK,qm,bL]at b;refine X.push ag 0 n5 cK n5 n8 (λ_=>rfl) cB (b8 (m.objs.length:Nat)) n5 n8 n7 λs9 h9 Q=>?_;have Q:Sp h h9 [ai 5 s9 1 aq (a++[b8 (m.objs.length:Nat)]),an a1 27 (aD x)]:=Q;refine⟨x.2.2.2.2.2.2.2,(Q.box 1 n5).cell n5,?_⟩;obtain⟨P,R⟩:=bZ.fix d.objs;have bb:=R.2.1;refine aj (λt:Sl×Nat=>(t.1,(t.2:Int))) (λt h'=>t.2<=m.objs.length/\Sp h h' [ai 5 t.1 1 aq (a++[b8 (m.objs.length:Nat)]++(m.objs.take t.2).flatMap gh),an a1 27 (aD x)]) (λt=>m.objs.length-t.2) (s9,0) n5 ⟨oo,by simpa using Q⟩ ?_;rintro⟨o,i⟩ bd ⟨hi,j⟩;dsimp only at*;refine ae (λe=>?_) (λe=>?_)
 .have w:i<m.objs.length:=n7
  have ay:=fO.up R j.ac;have Y:=Mm A w;have s:((m.objs.take i).flatMap gh).length<=50000:=by have h1:=uP A i hi;have:=ua A;have:i*4000<=12*4000:=zi _ n7;omega
  refine ay.1.cG (g:=bg) i n5 n7 (P[i]'n7) n5 ?_;refine j.alloc ag n5 λbl bk T=>?_;refine T.storeAll ag 2 n5 n5 (bg (P[i]'n7)) n5 n5 n5 n5 λah k=>?_;have ap:=fO.up R k.ac;obtain⟨⟨y,y2,y3⟩,y4⟩:=Fix.row ap w;obtain⟨E,hE⟩:=I5 (m.objs[i])
  rw[<-hE]at y y2 y3 y4 Y;have u:=k.box 2 n5;refine aE ⟨E.name,A5,E.name,A5,?_⟩;rw[cb];refine k.ke ag aq cK n5 [b8 (E.name.size:Nat)] n5 (show 1*1<=2^20 by decide) n5 ⟨A5,A5,I6⟩ ?_;have B:(a++[b8 (m.objs.length:Nat)]++(m.objs.take i).flatMap gh).length<=160000:=by rw[qo,qo,W];simp;simp at s;omega
  obtain⟨q,H⟩:=I5 (a++[b8 (m.objs.length:Nat)]++(m.objs.take i).flatMap gh)
  rw[<-H]at k B;refine k.push ag 0 n5 cK n5 n8 (λ_=>rfl) cB (b8 (E.name.size:Nat)) n5 n8 n7 λbq a2 J=>?_;have O:=J.box 2 n5;refine⟨⟨by rw[<-y];exact O.cell0 n5,by rw[<-y];exact O.cell0 n5,I6⟩,?_⟩;refine J.Jh ag 0 n5 cK ⟨_,n5,n5⟩ n5 n8 E.name oi λax a7 D=>?_;have z:=D.box 2 n5;refine⟨⟨by rw[<-y];exact z.cell0 n5,I6⟩,?_⟩;refine aE ⟨E.object,by rw[<-y2];exact z.cell n5,E.length,by rw[<-y3];exact z.cell n5,?_⟩;have a6:=tG E.name;refine(pZ ax _ E.object 3 n8 oi D).I4 λN a3 L=>?_;have ad:=L.box 2 n5;refine⟨N,n5,⟨by rw[<-y3];exact ad.cell n5,I6⟩,?_⟩;refine(pZ N _ E.length 2 n8 p9 L).I4 λM a5 F=>?_;have V:=F.box 2 n5;refine⟨M,n5,I6,(P[i]'n7).2.2.2,V.cell n5,?_⟩;refine sF (P[i]'n7).2.2.2 E.tries M _ F (St.mk' λh' K=>by rw[hE];exact(Fix.row (fO.up R K.ac) w).2) p9 n7 λao a4 I=>?_
  try dsimp only
  have ah:=ua A;refine⟨(ao,i+1),oj,⟨n9,?_⟩,n9⟩
  try dsimp only
  rw[az _ _ w,za,<-ql,<-H,zm,zW,qL,<-hE];have e3:q++[b8 (E.name.size:Nat)]++iH E.name++cy E.object 3++cy E.length 2++E.tries.map b8=q++gh E:=by unfold gh iH;simp[ql]
  rw[e3]at I;exact I.bu [0,1]
 .rw[qf n7]at j;refine⟨o,n5,?_⟩;have e2:a++[b8 (m.objs.length:Nat)]++m.objs.flatMap gh=gy m:=by rw[c];unfold gy;rw[A,m6 rfl];simp[ql]
  rw[e2]at j;exact j.bu [0]
def iz{α:Type}(k:Nat)(f:α->aS)(L:List (Sl×List α)):HP:=⟨λh q=>∀y∈L,Seq h q y.1 k f y.2,λa d y b=>(a y b).ac d,λa c y b=>(a y b).mono c⟩
variable {α:Type} {k:Nat} {L:List (Sl×List α)} {s:Sl} {l:List α}
section
variable {f:α->aS}
theorem aa.Eh(H:aa B h0 h As)(k:Nat)(f:α->aS):aa B h0 h (iz k f []::As):=
 (H.comp (.one (A:=iz k f []) (aQ.refl _ _) λy a=>E6)).bc
theorem aa.Iy(H:aa B h0 h (iz k f L::wd s k f l::As)):aa B h0 h (iz k f ((s,l)::L)::As):=by
 have g:=H.kq;refine g.dW 0 n5 λq ⟨j,i,_,b,c,d,e⟩ y a=>?_;rcases qN.1 a with rfl|a
 .exact d.mono b
 .exact(e y a).mono c
end
theorem abW(n:Int):cy n 4=[b8 (zo n (2^24)),b8 (zo n (2^16)),b8 (zo n (2^8)),b8 n]:=by
 have e:zo n (2^0)=n:=oo
 show[b8 (zo n (2^24)),b8 (zo n (2^16)),b8 (zo n (2^8)),b8 (zo n (2^0))]=_;rw[e]
theorem UG(seq a c:Int)(b:Sl)(l:aR)(h:m5)(q:Rd h b 1 aq l)(u:n4 l<=2^20):ak xR 104 #[xH xN seq,xH xN a,xH xN c,b] h λv h'=>∃r:Sl,v=r/\Sp h h' [ai 5 r 1 aq (nU seq a c l)]:=by
 refine ts Tryz.func104 ?_;refine⟨n8,n8,n8,?_⟩;have i:min (24:Int).toNat (qq xN)=24:=rfl;have j:min (16:Int).toNat (qq xN)=16:=rfl;have t:min (8:Int).toNat (qq xN)=8:=rfl;rw[i,j,t,cb,cb,cb,cb,cb,cb,cb];have d:=abW seq;generalize b8 (zo seq (2^24))=c1 at d⊢;generalize b8 (zo seq (2^16))=c2 at d⊢;generalize b8 (zo seq (2^8))=c3 at d⊢;generalize b8 seq=c4 at d⊢;have e:nU seq a c l=eS 2 ([c1,c2,c3,c4]++([b8 a,b8 c,b8 (b.len:Nat)]++l)):=by unfold nU;rw[d,q.len]
 generalize b8 a=c5 at e⊢;generalize b8 c=c6 at e⊢;generalize b8 (b.len:Nat)=c7 at e⊢;refine(Sp.refl h).lit ag aq cK n5 [c1,c2,c3,c4,c5,c6,c7] n5 (show 7*1<=2^20 by decide) o5 λw x p=>?_;refine p.append ag 0 n5 cK ⟨_,_,n5,n5⟩ n5 n8 (λ_=>rfl) (Seq.up q p.ac) cB oi λn m k=>?_;have o:Rd m n 1 aq ([c1,c2,c3,c4,c5,c6,c7]++l):=k.seq 0 n5 λ_=>rfl;have f:n4 ([c1,c2,c3,c4,c5,c6,c7]++l)<=2^40:=oi
 rw[e];have g:[c1,c2,c3,c4,c5,c6,c7]++l=[c1,c2,c3,c4]++([c5,c6,c7]++l):=rfl;rw[<-g];generalize [c1,c2,c3,c4,c5,c6,c7]++l=ll at o f⊢;refine(CZ 2 n ll m o f).I4 λr h3 s=>⟨r,n5,r,n5,(aa.comp (Sp.zip k.ac) s)⟩
theorem mT(x:bi)(m:aB)(h:m5)(y:ct h x m)(E:bM m):ak xR 39 #[cL x] h λv h'=>∃r:Sl,v=r/\Sp h h' [ce r (bG m)]:=by
 refine ts Tryz.func39 ?_ (HF (HF (HF (HF (I0 [(5,bK),(16,aI)] [(5,8),(16,39)]))))) (args:=[x]);refine(Sp.refl h).boxed λH P s=>?_;refine⟨x,(s.box 0 n5).aw _ n5,(UF x m P (y.up s.ac) E).I4 λb Q K=>?_⟩;have j:=s.comp K;have q:=ub m E;obtain⟨l,k⟩:=I5 (gy m)
 rw[<-k]at j q;have N:=(j.own 1 n5).len;have w:=(j.own 1 n5).cap;refine⟨b,n5,n8,?_⟩;have a:qc xN (yg (qc xN ((qc xN (((b.len:Nat):Int)+(48:Int)))-(1:Int))) (48:Int))=(fg l:Int):=by rw[af ((b.len:Int)+48),af ((b.len:Int)+48-1),yB n7];unfold fg;rw[af (((b.len:Int)+48-1)/48)];omega
 have G:fg l<=3000:=by unfold fg;omega
 rw[a];obtain⟨g,c⟩:∃g:dP,g=bG m:=⟨_,rfl⟩
 have D:n4 g=fg l:=by rw[c,k];simp[bG]
 have f:=j.jm 41 5 1 aq;refine aj (λt:Sl×Nat=>(t.1,(t.2:Int))) (λt h'=>t.2<=fg l/\Sp h h' [ce t.1 (g.take t.2),an H 27 (aD x),ai 5 b 1 aq l]) (λt=>fg l-t.2) (⟨eH,0,0⟩,0) n5 ⟨oo,f⟩ ?_;rintro⟨o,i⟩ h3 ⟨S,f⟩;dsimp only at*;refine ae (λe=>?_) (λe=>?_)
 .have p:i<fg l:=n7
  have z:48*i<n4 l:=by unfold fg at p;omega
  rw[af ((i:Int)*48),af ((i:Int)+1),af (((i:Int)+1)*48)];obtain⟨d,L⟩:∃d:Nat,d=min (48*i+48) l.length:=⟨_,rfl⟩
  have u:(if((i:Int)+1)*48<((b.len:Nat):Int)then((i:Int)+1)*48 else((b.len:Nat):Int))=(d:Int):=by split<;>omega
  rw[u];refine⟨m.seq,by rw[<-y.seq];exact(f.box 1 n5).cell0 n5,⟨n7,n7,n7⟩,?_⟩;have M:((i:Int)*48).toNat=48*i:=n7
  rw[M,qi];have B:=((f.seq 2 n5 λ_=>rfl).drop (48*i) w).take (d-48*i) p6;have e2:(l.drop (48*i)).take (d-48*i)=(l.drop (48*i)).take 48:=by
   by_cases T:48*i+48<=n4 l
   .rw[show d-48*i=48 by omega]
   .rw[qf p6,qf p6]
  rw[e2,zG]at B;refine(UG m.seq i (fg l) ⟨_,d-48*i,b.cap-48*i⟩ _ h3 (by rw[zG];exact B) oi).I4 λr R J=>?_;have A:=(f.bQ J).aG 4 [1,0,2,3];refine⟨r,n5,I6,?_⟩;refine A.ke ag bv cI n5 [r] n5 (show 1*1<=2^20 by decide) n5 I6 ?_;refine A.mh ag cI oi λO U I=>⟨I6,?_⟩
  refine⟨(O,i+1),n5,⟨n9,?_⟩,n9⟩
  try dsimp only
  rw[az _ _ (show i<n4 g by omega)];have F:g[i]'n7=nU m.seq i (fg l) ((l.drop (48*i)).take 48):=by subst c;subst k;simp[bG]
  rw[F];exact I
 .rw[qf n7,c]at f;exact⟨o,n5,f.bu [0]⟩
theorem Ol(s:Sl)(a:List dH)(h:m5)(b:Rd h s 4 bg a)(f:n4 a<=2^30):ak xR 155 #[s] h λv h'=>∃r:Sl,v=r/\Sp h h' [ai 83 r 4 bg a]:=by
 refine ts Tryz.func155 ?_;refine aT (λe=>?_) (λe=>?_)
 .have:=b.isNil e;subst this;exact⟨⟨eH,0,0⟩,n5,(Sp.refl h).nil 83 4 bg⟩
 .refine(Sp.refl h).lit ag bg mF n5 ([]:List dH) n5 n8 n5 λj i c=>?_;refine c.append ag 0 n5 mF ⟨_,_,n5,n5⟩ n5 n8 (λ_=>rfl) (Seq.up b c.ac) Ar oi λg k d=>?_;exact⟨g,n5,d⟩
def Ei(pool:List (Sl×aC))(p:dH×Qw.cT):Prop:=(p.1.1=p.2.name/\p.1.2.1=p.2.object/\p.1.2.2.1=p.2.length)/\(p.1.2.2.2,p.2.tries)∈pool
theorem aa.Bi{B:au}{l h:m5}{As:List HP}{y:bi}{m:aB}{L:List (dH×Qw.cT)}{pool:List (Sl×aC)}(f:y.1=m.seq/\y.2.1=m.next/\(y.2.2.1,y.2.2.2.1,y.2.2.2.2.1)=m.p/\y.2.2.2.2.2.1=m.extra)(n:L.map zh=m.objs)(o:∀p∈L,Ei pool p)
  (H:aa B l h (iz 1 ar pool::ai 3 y.2.2.2.2.2.2.1 1 ar m.drives::ai 83 y.2.2.2.2.2.2.2 4 bg (L.map qA)::As)):aa B l h (bn y m::As):=by
 have i:=(H.own 2 n5)
 have k:=(H.own 1 n5)
 have u:=((H.freeze 1 n5 λ_=>rfl).freeze 2 n5 λ_=>rfl).kq.kq;refine u.dW 0 n5 λq ⟨G,E,_,b,c,D,s⟩=>?_;obtain⟨F,I,_,t,A,z3,z4⟩:=s;refine⟨f.1,f.2.1,f.2.2.1,f.2.2.2,z3.mono λx g=>c x (t x g),⟨L.map qA,D.mono b,by rw[<-n];simp,λj r e a d=>?_⟩,k.cap,i.cap⟩;rw[<-n]at d;rw[qM]at a d;cases hj:L[j]? with
 |none=>rw[hj]at a;cases a
 |some p=>
  rw[hj]at a d;have v:=wb.inj (show dB p.1=dB r from a);have e2:=wb.inj (show dB p.2=dB e from d);subst v;subst e2;obtain⟨w,z⟩:=o p (wh hj);exact⟨w,(z4 _ z).mono λx g=>c x (A x g)⟩
theorem pB(x:bi)(m:aB)(h:m5)(A:ct h x m)(O:bM m):ak xR 86 #[cL x] h λv h'=>∃(y:bi) (L:List (dH×Qw.cT)) (pool:List (Sl×aC)),v=cL y/\(y.1=m.seq/\y.2.1=m.next/\(y.2.2.1,y.2.2.2.1,y.2.2.2.2.1)=m.p/\y.2.2.2.2.2.1=m.extra)/\L.map zh=m.objs/\(∀p∈L,Ei pool p)/\
  Sp h h' [iz 1 ar pool,ai 3 y.2.2.2.2.2.2.1 1 ar m.drives,ai 83 y.2.2.2.2.2.2.2 4 bg (L.map qA)]:=by
 refine ts Tryz.func86 ?_ (HF (I1 [] [(4,12)] (I0 [(15,aI)] [(3,4),(15,31)]))) [(1,(.l [0,1,3,4,2,6,5,7,8,9]))] (args:=[x]);refine(Sp.refl h).boxed λU k H1=>?_;refine H1.alloc ag n5 λT w J=>?_;have E:=J.box 0 n5;have hM:∀{h':m5} {As:List HP},Sp h h' As->ct h' x m:=λ{h' As} H'=>A.up H'.ac;obtain⟨b,Q⟩:=bZ.fix A.objs;have am:=Q.2.1;have ah:=O.dr;have ab:=O.ob;refine aE ⟨x.2.2.2.2.2.2.1,E.cell n5,x.2.2.2.2.2.2.2,E.cell n5,?_⟩;refine(jF _ m.drives w (hM J).drives n7).I4 λd h3 R3=>?_;have N:=J.comp R3;refine⟨d,n5,⟨(N.box 0 n5).cell n5,I6⟩,?_⟩;refine(Ol _ b h3 (fO.up Q N.ac).1 n7).I4 λo h4 W=>?_;have H4:=N.comp W;refine⟨o,n5,I6,?_⟩;refine H4.store ag 0 n5 n5 6 [d] n5 n5 n5 pb λh5 V=>⟨I6,?_⟩
 refine V.store ag 0 n5 n5 7 [o] n5 n5 n5 pb λh6 s=>⟨I6,?_⟩
 obtain⟨y,u⟩:∃y:bi,y=(x.1,x.2.1,x.2.2.1,x.2.2.2.1,x.2.2.2.2.1,x.2.2.2.2.2.1,d,o):=⟨_,rfl⟩
 have s:Sp h h6 [an U 27 (aD y),an T 27 [xH xN 0,xH xN 0,xH xN 0,xH xN 0,xH xN 0,xH xN 0,xI eH 0 0,xI eH 0 0],ai 3 d 1 ar m.drives,ai 83 o 4 bg b]:=by rw[u];exact s
 have c:y.2.2.2.2.2.2.2=o:=by rw[u]
 have S:y.2.2.2.2.2.2.1=d:=by rw[u]
 refine⟨o,by rw[<-c];exact(s.box 0 n5).cell n5,?_⟩;have al:=(s.own 3 n5).len;have s:=s.Eh 1 ar;refine aj (λt:List dH×List (Sl×aC)=>(t.1.length:Int)) (λt h'=>t.1.length<=m.objs.length/\(∀(j:Nat) r e,t.1[j]?=dB r->m.objs[j]?=dB e->(r.1=e.name/\r.2.1=e.object/\r.2.2.1=e.length)/\(r.2.2.2,e.tries)∈t.2)/\Sp h h' [iz 1 ar t.2,an U 27 (aD y),an T 27 [xH xN 0,xH xN 0,xH xN 0,xH xN 0,xH xN 0,xH xN 0,xI eH 0 0,xI eH 0 0],ai 3 d 1 ar m.drives,ai 83 o 4 bg (t.1++b.drop t.1.length)]) (λt=>m.objs.length-t.1.length) ([],[]) n5 ⟨oo,λj r e k=>by simp at k,s⟩ ?_;rintro⟨a,pool⟩ h7 ⟨hi,G,q⟩;dsimp only at*;refine ae (λe=>?_) (λe=>?_)
 .have z:a.length<m.objs.length:=n7
  have F7:=fO.up Q q.ac;obtain⟨⟨X,y2,y3⟩,y4⟩:=Fix.row F7 z;have f:(a++b.drop a.length)[a.length]'(by simp;omega)=b[a.length]'n7:=oo
  obtain⟨R,Z,zz,hc,rfl⟩:=(q.seq 4 rfl λ_=>rfl).cG (g:=bg) (i:=(a.length:Int)) a.length rfl oi (b[a.length]'n7) (by rw[f]) (K:=λt=>t=b[a.length]'n7) n5;refine⟨o,by rw[<-c];exact(q.box 1 n5).cell n5,o,by rw[<-c];exact(q.box 1 n5).cell n5,R,Z,_,hc.2.2.2.1,?_⟩;have Y:=(O.nm _ (qe z)).2;refine(jF _ m.objs[a.length].tries h7 y4 n7).I4 λt h8 R8=>?_;have B:=q.bQ R8;refine⟨t,n5,⟨by rw[<-c];exact(B.box 2 n5).cell n5,by rw[<-c];exact(B.box 2 n5).cell n5,I6⟩,?_⟩;refine B.WT ag 5 n5 (λ_=>rfl) n5 a.length n5 oi 3 [t] oo ((b[a.length]'n7).1,(b[a.length]'n7).2.1,(b[a.length]'n7).2.2.1,t) n5 n5 n5 (by rw[f];simp[bg]) λh9 D=>⟨I6,?_⟩
  have D:=(D.freeze 0 n5 λ_=>rfl).aG 6 [1,0,2,3,4,5];have D:=D.Iy;refine⟨(a++[((b[a.length]'n7).1,(b[a.length]'n7).2.1,(b[a.length]'n7).2.2.1,t)],(t,m.objs[a.length].tries)::pool),by simp only[qo,List.length_singleton];rw[af _];rfl,⟨oi,λj r e k w=>?_,?_⟩,oi⟩
  .dsimp only at k⊢;by_cases I:j<a.length
   .rw[qu I]at k;obtain⟨g1,g2⟩:=G j r e k w;exact⟨g1,List.mem_cons_of_mem _ g2⟩
   .have H:j=a.length:=by have:=(qn.1 k).1;simp at this;omega
    subst H;rw[qk (qj _),zd]at k;simp at k;rw[qd z]at w;injection w with w
    subst k;subst w;exact⟨⟨X,y2,y3⟩,List.mem_cons_self⟩
  .try dsimp only
   have e4:(a++b.drop a.length).set a.length ((b[a.length]'n7).1,(b[a.length]'n7).2.1,(b[a.length]'n7).2.2.1,t)=a++[((b[a.length]'n7).1,(b[a.length]'n7).2.1,(b[a.length]'n7).2.2.1,t)]++b.drop (a++[((b[a.length]'n7).1,(b[a.length]'n7).2.1,(b[a.length]'n7).2.2.1,t)]).length:=by rw[qZ _ _ (qj _),zd,qT (show a.length<b.length by omega),zu];simp
   rw[<-e4];exact D
 .have ad:a.length=m.objs.length:=n7
  rw[zj n7,qL]at q;refine⟨y,(q.box 1 n5).aw _ n5,?_⟩;refine q.storeAll ag 2 n5 n5 (aD y) n5 n5 n5 n5 λh8 B=>?_;have P:(a.zip m.objs).map qA=a:=List.map_fst_zip n7;have M:(a.zip m.objs).map zh=m.objs:=xg n7;refine⟨y,(B.box 2 n5).aw _ n5,y,a.zip m.objs,pool,n5,⟨by rw[u];exact A.seq,by rw[u];exact A.next,by rw[u];exact A.p,by rw[u];exact A.extra⟩,M,λp hp=>?_,?_⟩
  .obtain⟨j,I,rfl⟩:=qE hp;have F:j<a.length/\j<m.objs.length:=by simp at I;omega
   have:=G j _ _ (qd F.1) (qd F.2);rw[yk];exact this
  .rw[P,S,c];exact B.bu [0,3,4]
theorem GK(x:bi)(m:aB)(h:m5)(a:ct h x m)(d:bM m):ak xR 86 #[cL x] h λv h'=>∃y:bi,v=cL y/\Sp h h' [bn y m]:=by refine(pB x m h a d).mono ?_;rintro _ h' ⟨y,L,pool,rfl,b,c,e,H⟩;exact⟨y,n5,aa.Bi b c e H⟩
abbrev bw:=Int×Int×Int×Int×Int×Int×Int×Sl
abbrev bB(x:bw):aS:=[xH xN x.1,xH xN x.2.1,xH xN x.2.2.1,xH xN x.2.2.2.1,xH xN x.2.2.2.2.1,xH xN x.2.2.2.2.2.1,xH xP x.2.2.2.2.2.2.1,x.2.2.2.2.2.2.2]
abbrev recv(x:bw):Value:=xM #[xH xN x.1,xH xN x.2.1,xH xN x.2.2.1,xH xN x.2.2.2.1,xH xN x.2.2.2.2.1,xH xN x.2.2.2.2.2.1,xH xP x.2.2.2.2.2.2.1,x.2.2.2.2.2.2.2]
theorem Qc:∀x,∀c∈bB x,c.oneCell'=eX:=by intro x c a;simp[bB]at a;rcases a with rfl|rfl|rfl|rfl|rfl|rfl|rfl|rfl<;>rfl
def kc(x y:Int):Int:=if x<y then-1 else if x>y then 1 else 0
def lJ(a b:bw):Int:=if kc a.1 b.1≠0 then kc a.1 b.1 else if kc a.2.1 b.2.1≠0 then kc a.2.1 b.2.1 else kc a.2.2.1 b.2.2.1
def cD(a b:bw):Bool:=decide (lJ a b<=0)
theorem jq(x y:Int):(x<y/\kc x y=-1)∨(x>y/\kc x y=1)∨(x=y/\kc x y=0):=by
 unfold kc;by_cases a:x<y
 .exact .inl ⟨a,m6 a⟩
 .by_cases b:x>y
  .exact .inr (.inl ⟨b,by rw[nq a,m6 b]⟩)
  .exact .inr (.inr ⟨n7,by rw[nq a,nq b]⟩)
theorem Au(a b:bw):lJ a b<=0↔a.1<b.1∨(a.1=b.1/\(a.2.1<b.2.1∨(a.2.1=b.2.1/\a.2.2.1<=b.2.2.1))):=by
 unfold lJ;rcases jq a.1 b.1 with⟨h1,e1⟩|⟨h1,e1⟩|⟨h1,e1⟩
 .rw[e1,m6 n8];omega
 .rw[e1,m6 n8];omega
 .rw[e1,nq n8];rcases jq a.2.1 b.2.1 with⟨h2,e2⟩|⟨h2,e2⟩|⟨h2,e2⟩
  .rw[e2,m6 n8];omega
  .rw[e2,m6 n8];omega
  .rw[e2,nq n8];rcases jq a.2.2.1 b.2.2.1 with⟨h3,e3⟩|⟨h3,e3⟩|⟨h3,e3⟩<;>rw[e3]<;>omega
theorem pC(a b:bw):lJ a b<0↔¬cD b a=eX:=by
 unfold cD;rw[decide_eq_true_eq,Au];unfold lJ;rcases jq a.1 b.1 with⟨h1,e1⟩|⟨h1,e1⟩|⟨h1,e1⟩
 .rw[e1,m6 n8];omega
 .rw[e1,m6 n8];omega
 .rw[e1,nq n8];rcases jq a.2.1 b.2.1 with⟨h2,e2⟩|⟨h2,e2⟩|⟨h2,e2⟩
  .rw[e2,m6 n8];omega
  .rw[e2,m6 n8];omega
  .rw[e2,nq n8];rcases jq a.2.2.1 b.2.2.1 with⟨h3,e3⟩|⟨h3,e3⟩|⟨h3,e3⟩<;>rw[e3]<;>omega
theorem UH(a b:bw):lJ a b=0↔(a.1=b.1/\a.2.1=b.2.1/\a.2.2.1=b.2.2.1):=by
 unfold lJ;rcases jq a.1 b.1 with⟨h1,e1⟩|⟨h1,e1⟩|⟨h1,e1⟩
 .rw[e1,m6 n8];omega
 .rw[e1,m6 n8];omega
 .rw[e1,nq n8];rcases jq a.2.1 b.2.1 with⟨h2,e2⟩|⟨h2,e2⟩|⟨h2,e2⟩
  .rw[e2,m6 n8];omega
  .rw[e2,m6 n8];omega
  .rw[e2,nq n8];rcases jq a.2.2.1 b.2.2.1 with⟨h3,e3⟩|⟨h3,e3⟩|⟨h3,e3⟩<;>rw[e3]<;>omega
theorem eu:Ord cD:=⟨λa b c d e=>by
 unfold cD at*;rw[decide_eq_true_eq,Au]at*;omega,λa b=>by
 unfold cD;rw[Bool.or_eq_true,decide_eq_true_eq,decide_eq_true_eq,Au,Au];omega⟩
theorem Mn{α:Type}(A B C:List α)(x y:α){i j:Nat}(b:i=n4 A)(c:j=n4 A+1+n4 B):
  (A++x::(B++y::C))[i]?=dB x/\(A++x::(B++y::C))[j]?=dB y/\((A++x::(B++y::C)).set i y).set j x=A++y::(B++x::C)/\((A++x::(B++y::C)).set j x).set i y=A++y::(B++x::C):=by
 subst b;subst c;have a:n4 A+1+n4 B-n4 A=n4 B+1:=n7
 refine⟨by rw[qk (qj _),zd];rfl,?_,?_,?_⟩
 .rw[qk n7,a,qU,qk (qj _),zd];rfl
 .rw[qZ _ _ (qj _),zd,zu,qZ _ _ n7,a,wY,qZ _ _ (qj _),zd,zu]
 .rw[qZ _ _ (show A.length<=n4 A+1+n4 B by omega),a,wY,qZ _ _ (qj _),zd,zu,qZ _ _ (qj _),zd,zu]
abbrev Bj:bS C.toAg 125 128 8 [xH xN 0,xH xN 0,xH xN 0,xH xN 0,xH xN 0,xH xN 0,xH xP 0,xI eH 0 0] 80:=⟨_,_,n5,n5,n5,n5,n5,n5⟩
theorem sf(x y:Int)(h:m5):ak xR 244 #[xH xN x,xH xN y] h λv h'=>v=xH xN (kc x y)/\h'=h:=by
 refine ts Tryz.func244 ?_;have a:∀z:Int,ak xR 313 #[xH xN z] h λv h'=>v=xL eY/\h'=h:=λz=>by
  refine ts Tryz.func313 ?_;exact⟨oo,n5⟩
 refine(a x).I2 ⟨_,n5,(a y).I2 ?_⟩;refine⟨_,n5,aT (λe=>o1) λ_=>aT (λe=>o1) λ_=>?_⟩;refine ae (λe=>⟨by rw[kc,m6 e],n5⟩) λe=>ae (λe2=>⟨by rw[kc,nq e,m6 e2],n5⟩) λe2=>⟨by rw[kc,nq e,nq e2],n5⟩
theorem oL(a b:bw)(h:m5):ak xR 171 #[recv a,recv b] h λv h'=>v=xH xN (lJ a b)/\Sp h h' []:=by
 refine ts Tryz.func171 ?_ G6 [(1,(.l [0,1,2,3,5,6,7,8,10,11,12,13,4,9,14,15,16,17]))] (args:=[a,b]);refine(Sp.refl h).boxed λy O H=>H.boxed λD f m=>?_;have p:=m.box 0 n5;have s:=m.box 1 n5;have z:hY f (y.add 1)=dB (xH xN a.2.1):=p.cell n5;have B:hY f (D.add 1)=dB (xH xN b.2.1):=s.cell n5;have c3:hY f (y.add 2)=dB (xH xN a.2.2.1):=p.cell n5;have t:hY f (D.add 2)=dB (xH xN b.2.2.1):=s.cell n5;refine⟨a.1,p.cell0 n5,b.1,s.cell0 n5,a.2.1,z,b.2.1,B,a.2.2.1,c3,b.2.2.1,t,(sf _ _ f).I2 ?_⟩;refine⟨_,n5,⟨t,c3,B,z,I6⟩,(sf _ _ _).I2 ?_⟩;refine⟨_,n5,⟨t,c3,I6⟩,(sf _ _ _).I2 ?_⟩;refine⟨_,n5,I6,?_⟩;refine m.ke ag ar ⟨_,_,n5,n5,n5,n5,n5,n5⟩ n5 [kc a.1 b.1,kc a.2.1 b.2.1,kc a.2.2.1 b.2.2.1] n5 (show 3*1<=2^20 by decide) n5 I6 ?_;refine m.lit ag ar ⟨_,_,n5,n5,n5,n5,n5,n5⟩ n5 [kc a.1 b.1,kc a.2.1 b.2.1,kc a.2.2.1 b.2.2.1] n5 (show 3*1<=2^20 by decide) n5 λr E w=>?_;refine(Aq r (R:=λv h'=>v=xH xN (lJ a b)/\h'=E) ?_).mono ?_
 .skip
  have A:=w.seq 2 n5 λ_=>rfl;have G:=(w.own 2 n5).len;obtain⟨L,d⟩:=I5 ([kc a.1 b.1,kc a.2.1 b.2.1,kc a.2.2.1 b.2.2.1])
  rw[<-d]at A G;have I:n4 L=3:=by rw[d];rfl
  refine aj (λi:Nat=>(i:Int)) (λi h'=>i<=3/\(∀j,j<i->L[j]?=dB 0)/\h'=E) (λi=>3-i) 0 n5 ⟨n7,n7,n5⟩ ?_;rintro i J ⟨K,o,rfl⟩;have c:=λh0=>by have:=o 0 h0;rw[d]at this;simpa using this
  have k:=λh0=>by have:=o 1 h0;rw[d]at this;simpa using this
  have u:=λh0=>by have:=o 2 h0;rw[d]at this;simpa using this
  refine ae (λe=>?_) (λe=>?_)
  .have g:i<n4 L:=by have F:=e;omega
   refine A.aV i n5 g L[i] n5 ?_;refine bt (λe2=>⟨?_,n5⟩) (λe2=>?_)
   .congr 1;unfold lJ;have:i=0∨i=1∨i=2:=n7
    subst d;rcases this with rfl|rfl|rfl
    .exact(m6 (e2)).symm
    .rw[nq (by rw[c n7];simp)];exact(m6 (e2)).symm
    .rw[nq (by rw[c n7];simp),nq (by rw[k n7];simp)];rfl
   .refine⟨i+1,o0,⟨n7,λj M=>?_,n5⟩,n7⟩;by_cases x:j=i
    .subst x;rw[qd g,e2]
    .exact o j n7
  .have q:i=3:=by have F:=e;omega
   subst q;refine⟨?_,n5⟩;unfold lJ;rw[c n7,k n7,u n7];rfl
 .rintro _ J ⟨rfl,rfl⟩;exact⟨_,n5,I6,n5,.zip w.ac⟩
abbrev bU(s:Sl)(d:List bw):HP:=ai 128 s 8 bB d
section
variable {d:List bw}
theorem pD(X U M V Y:List bw)(n:Nat)(a b:Int)(Q:n4 U=n)(P:n4 V=n)(I:a=(n4 X:Int))(K:b=(n4 X+n+n4 M:Nat))(E:n4 X+n+n4 M+n+n4 Y<=2^40)(H:aa B h0 h (bU s (X++(U++(M++(V++Y))))::As)):
  ak xR 385 #[s,xH xN a,xH xN b,xH xN n,.func (.func 171) #[] #[]] h λv h'=>v=.tuple #[]/\aa B h0 h' (bU s (X++(V++(M++(U++Y))))::As):=by
 refine ts Tryz.func385 ?_ (HF (G7 (G9 [(10,aI)] [(10,38)] G6))) (args:=[s,(a:Int),(b:Int),(n:Int),(.func (.func 171) #[] #[])]);subst I;subst K;refine aj (λk:Nat=>(k:Int)) (λk h'=>k<=n/\aa B h0 h' (bU s (X++(V.take k++U.drop k++(M++(U.take k++V.drop k++Y))))::As)) (λk=>n-k) 0 n5 ⟨n7,v8⟩ ?_;rintro k R ⟨O,f⟩;refine ae (λe=>?_) (λe=>?_)
 .have z:k<n:=n7
  have g:k<n4 U:=n7
  have l:k<n4 V:=n7
  have d:X++(V.take k++U.drop k++(M++(U.take k++V.drop k++Y)))=(X++V.take k)++U[k]::((U.drop (k+1)++(M++U.take k))++V[k]::(V.drop (k+1)++Y)):=by rw[qT g,qT l];simp only[ql,zD,wX]
  have c:X++(V.take (k+1)++U.drop (k+1)++(M++(U.take (k+1)++V.drop (k+1)++Y)))=(X++V.take k)++V[k]::((U.drop (k+1)++(M++U.take k))++U[k]::(V.drop (k+1)++Y)):=by rw[az V k l,az U k g];simp only[ql,zD,wX]
  rw[d]at f;obtain⟨x,u,w,L⟩:=Mn (X++V.take k) (U.drop (k+1)++(M++U.take k)) (V.drop (k+1)++Y) U[k] V[k] (i:=n4 X+k) (j:=n4 X+n+n4 M+k) oi oi;obtain⟨D,G⟩:=I5 ((X++V.take k)++U[k]::((U.drop (k+1)++(M++U.take k))++V[k]::(V.drop (k+1)++Y)))
  rw[<-G]at f x u w L;have r:=(qn.1 x)
  have q:=(qn.1 u)
  obtain⟨o,p⟩:=r;obtain⟨m,t⟩:=q;have A:qc xN ((n4 X:Int)+k)=((n4 X+k:Nat):Int):=o9
  have F:qc xN (((n4 X+n+n4 M:Nat):Int)+k)=((n4 X+n+n4 M+k:Nat):Int):=o9
  rw[A,F];refine(f.seq 0 n5 λ_=>rfl).cG _ n5 m V[k] (by rw[t]) ?_;refine(f.seq 0 n5 λ_=>rfl).cG _ n5 o U[k] (by rw[p]) ?_;refine f.set ag 0 n5 (λ_=>rfl) n5 (n4 X+k) n5 o V[k] n5 n5 n5 λN y=>⟨I6,?_⟩
  refine y.set ag 0 n5 (λ_=>rfl) n5 (n4 X+n+n4 M+k) n5 x7 U[k] n5 n5 n5 λh3 J=>⟨I6,?_⟩
  refine⟨k+1,o0,⟨n7,?_⟩,n7⟩;rw[c,<-w];exact J
 .have:k=n:=n7
  subst this;rw[qf n7,zj n7,qf n7,zj n7]at f;refine⟨n5,?_⟩;simpa using f
theorem Om(X U V Y:List bw)(a m b:Int)(K:0<n4 U)(J:0<n4 V)(L:a=(n4 X:Int))(y:m=(n4 X+n4 U:Nat))(M:b=(n4 X+n4 U+n4 V:Nat))(E:n4 X+n4 U+n4 V+n4 Y<=2^40)(H:aa B h0 h (bU s (X++(U++(V++Y)))::As)):
  ak xR 356 #[s,xH xN a,xH xN m,xH xN b,.func (.func 171) #[] #[]] h λv h'=>v=.tuple #[]/\aa B h0 h' (bU s (X++(V++(U++Y)))::As):=by
 refine ts Tryz.func356 ?_ (HF (HF (G0 (G7 (G9 [(10,aI),(11,aI)] [(10,12),(18,50)] G6)) G6))) (args:=[s,(a:Int),(m:Int),(b:Int),(.func (.func 171) #[] #[])]);subst L;subst y;subst M;have G:qc xN (((n4 X+n4 U:Nat):Int)-n4 X)=(n4 U:Int):=o9
 have e2:qc xN (((n4 X+n4 U+n4 V:Nat):Int)-(n4 X+n4 U:Nat))=(n4 V:Int):=o9
 rw[G,e2];refine aj (λt:List bw×List bw×List bw×List bw=>((n4 t.2.1:Int),(n4 t.2.2.1:Int))) (λt h'=>0<n4 t.2.1/\0<n4 t.2.2.1/\X.length+n4 t.1+n4 t.2.1=n4 X+n4 U/\V++U=t.1++((t.2.2.1++t.2.1)++t.2.2.2)/\aa B h0 h' (bU s (X++(t.1++(t.2.1++(t.2.2.1++(t.2.2.2++Y)))))::As)) (λt=>n4 t.2.1+n4 t.2.2.1) ([],U,V,[]) n5 ⟨K,J,oo,oo,v8⟩ ?_;rintro⟨P,A,c,Q⟩ w ⟨N,O,y,p,u⟩;dsimp only at*;have k:=congrArg xp p;simp only[qo]at k;refine bt (λe=>ae (λz=>?_) λz=>?_) (λe=>?_)
 .--the left one is longer
  have r:n4 c<n4 A:=n7
  have F:A=A.take c.length++A.drop c.length:=(qz _ _).symm;have g:n4 (A.take c.length)=n4 c:=oi
  have i:qc xN (((n4 X+n4 U:Nat):Int)-n4 A)=(n4 (X++P):Int):=by rw[af _];simp;omega
  rw[i];have d:aa B h0 w (bU s ((X++P)++(A.take c.length++(A.drop c.length++(c++(Q++Y)))))::As):=by
   have:(X++P)++(A.take c.length++(A.drop c.length++(c++(Q++Y))))=X++(P++(A++(c++(Q++Y)))):=by
    conv=>rhs;rw[F]
    simp only[ql,zD,wX]
   rw[this];exact u
  refine(pD (X++P) (A.take c.length) (A.drop c.length) c (Q++Y) c.length _ _ g n5 n5 oi oi d).I3 λx f=>⟨(),n5,(P++c,A.drop c.length,A.take c.length,Q),?_,⟨u0,n9,u0,?_,?_⟩,u0⟩
  .try dsimp only
   rw[g,af _];simp;omega
  .try dsimp only
   rw[p,qz];simp
  .try dsimp only
   have:X++((P++c)++(A.drop c.length++(A.take c.length++(Q++Y))))=(X++P)++(c++(A.drop c.length++(A.take c.length++(Q++Y)))):=oo
   rw[this];exact f
 .have r:n4 A<n4 c:=n7
  obtain⟨j,R⟩:=I5 (n4 c-n4 A)
  have D:c=c.take j++c.drop j:=(qz _ _).symm;have o:n4 (c.drop j)=n4 A:=oi
  have l:n4 (c.take j)=j:=oi
  have i:qc xN (((n4 X+n4 U:Nat):Int)-n4 A)=(n4 (X++P):Int):=by rw[af _];simp;omega
  have I:qc xN ((qc xN (((n4 X+n4 U:Nat):Int)+n4 c))-n4 A)=((n4 (X++P)+n4 A+n4 (c.take j):Nat):Int):=by rw[af (((n4 X+n4 U:Nat):Int)+n4 c),af _,l];simp;omega
  rw[i,I];have d:aa B h0 w (bU s ((X++P)++(A++(c.take j++(c.drop j++(Q++Y)))))::As):=by
   have:(X++P)++(A++(c.take j++(c.drop j++(Q++Y))))=X++(P++(A++(c++(Q++Y)))):=by
    conv=>rhs;rw[D]
    simp only[ql,zD,wX]
   rw[this];exact u
  refine(pD (X++P) A (c.take j) (c.drop j) (Q++Y) A.length _ _ n5 o n5 n5 oi d).I3 λx f=>⟨(),n5,(P,c.drop j,c.take j,A++Q),?_,⟨n9,n9,n9,?_,?_⟩,n9⟩
  .try dsimp only
   rw[l,o,af _];congr 1;omega
  .try dsimp only
   rw[p,qz];simp
  .try dsimp only
   have:X++(P++(c.drop j++(c.take j++((A++Q)++Y))))=(X++P)++(c.drop j++(c.take j++(A++(Q++Y)))):=oo
   rw[this];exact f
 .have q:n4 A=n4 c:=n7
  have i:qc xN (((n4 X+n4 U:Nat):Int)-n4 A)=(n4 (X++P):Int):=by rw[af _];simp;omega
  rw[i];have d:aa B h0 w (bU s ((X++P)++(A++([]++(c++(Q++Y)))))::As):=by
   have:(X++P)++(A++([]++(c++(Q++Y))))=X++(P++(A++(c++(Q++Y)))):=oo
   rw[this];exact u
  refine(pD (X++P) A [] c (Q++Y) A.length _ _ n5 q.symm n5 oi oi d).I3 λx f=>⟨(),n5,n5,?_⟩;have:X++(V++(U++Y))=(X++P)++(c++([]++(A++(Q++Y)))):=by
   have:V++(U++Y)=(V++U)++Y:=oo
   rw[this,p];simp
  rw[this];exact f
end
theorem GL(l:aR)(x:UInt8):dm (l++[x])=dm l*256+x.toNat:=by unfold dm;rw[wz];rfl
theorem Bl:∀l:aR,n4 l<=4->0<=dm l/\dm l<4294967296/\(n4 l<=3->dm l<16777216)
 |[],_=>by simp[dm]
 |[a],_=>by have:=a.toNat_lt;simp only[dm,zN,vS];omega
 |[a,b],_=>by have:=a.toNat_lt;have:=b.toNat_lt;simp only[dm,zN,vS];omega
 |[a,b,c],_=>by have:=a.toNat_lt;have:=b.toNat_lt;have:=c.toNat_lt;simp only[dm,zN,vS];omega
 |[a,b,c,d],_=>by have:=a.toNat_lt;have:=b.toNat_lt;have:=c.toNat_lt;have:=d.toNat_lt;simp only[dm,zN,vS,q7,wK];omega
 |_::_::_::_::_::_,h=>E9
theorem UI(n x:Nat)(f:n<2^32:=by omega)(e:x<256:=by omega):qc xN (((qG (qq xN) (qc xN ((n:Int)*2^min (8:Int).toNat (qq xN)))|||qG (qq xN) (qc xN (x:Int))).toNat:Nat):Int)=(n:Int)*256+x:=by
 have a:min (8:Int).toNat (qq xN)=8:=rfl;rw[a];have d:qc xN ((n:Int)*2^8)=((n*256:Nat):Int):=by rw[Qw.af _];omega
 have e2:qc xN (x:Int)=((x:Nat):Int):=Qw.af _;rw[d,e2];have c:(qG (qq xN) ((n*256:Nat):Int)|||qG (qq xN) ((x:Nat):Int)).toNat=n*256+x:=by show((qG 64 ((n*256:Nat):Int)|||qG 64 ((x:Nat):Int):BitVec 64)).toNat=n*256+x;rw[BitVec.toNat_or,wH,wH,BitVec.toNat_ofNat,BitVec.toNat_ofNat,yR n7,yR n7];have:=Nat.shiftLeft_add_eq_or_of_lt (b:=x) (i:=8) n7 n;rw[Nat.shiftLeft_eq,show(2:Nat)^8=256 from rfl]at this;omega
 rw[c,Qw.af _];omega
def cx:ja bw ck:=⟨λh q a b=>(a.1=b.object/\a.2.1=b.block/\a.2.2.1=b.id/\(a.2.2.2.1,a.2.2.2.2.1,a.2.2.2.2.2.1)=b.p/\a.2.2.2.2.2.2.1=b.seed/\0<=b.seed/\b.seed<4294967296)/\Seq h q a.2.2.2.2.2.2.2 1 aq b.data,λa d=>⟨a.1,a.2.ac d⟩,λa c=>⟨a.1,a.2.mono c⟩⟩
theorem uc{p q:au}(a b:Sl)(d c:aR)(h:m5)(e:Seq h p a 1 aq d)(f:Seq h q b 1 aq c):
  ak xR 220 #[a,b] h λv h'=>v=xL (decide (d=c))/\h'=h:=by
 refine ts Tryz.func220 ?_;refine PL ag ⟨_,n5,n5⟩ ⟨_,n5,n5⟩ ⟨_,n5,n5⟩ e (PL ag ⟨_,n5,n5⟩ ⟨_,n5,n5⟩ ⟨_,n5,n5⟩ f ⟨?_,n5⟩);rw[ByteArray.toList_mk,ByteArray.toList_mk];have:(d==c)=decide (d=c):=by rw[Bool.eq_iff_iff];simp
 rw[this]
theorem RT(b:Sl)(c:aR)(h:m5)(i:Rd h b 1 aq c)(w:n4 c<=2^30)(d:b.len<=b.cap):
  ak xR 238 #[b] h λv h'=>(gz c=eH->v=.tuple #[xH xN 0,xI eH 0 0,xL eY]/\Sp h h' [])/\
   ∀k x,gz c=dB (k,x)->∃r:Sl,v=.tuple #[xH xN k,r,xL eX]/\Sp h h' [ai 5 r 1 aq x]:=by
 refine ts Tryz.func238 ?_;have A:=i.len;refine bt (λe=>?_) (λe=>?_)
 .have:gz c=eH:=by unfold gz;rw[nq λa=>e n7]
  rw[this];exact⟨λ_=>⟨n5,Sp.refl h⟩,λk x h=>t7⟩
 have j:n4 c=64:=n7
 have h3:3<n4 c:=n7
 refine i.nA 3 n5 h3 ((c.getD 3 0).toNat:Int) (by rw[getD_lt h3];rfl) λy l=>⟨⟨n8,n8,n7⟩,?_⟩
 have f:=(i.drop 4 d).take 55 oi;have q:n4 ((c.drop 4).take 55)=55:=oi
 refine(fN ⟨_,55,b.cap-4⟩ ((c.drop 4).take 55) h f).I4 λr u n=>⟨r,n5,gF n.ac ⟨l,I6⟩,?_⟩;have z:=(c.getD 3 0).toNat_lt;rw[af ((c.getD 3 0).toNat:Int)];refine(CZ ((c.getD 3 0).toNat:Int) r ((c.drop 4).take 55) u (n.seq 0 n5 λ_=>rfl)).I4 λp s t=>?_;have g:=n.comp t;refine⟨p,n5,(uc b p c _ s (i.up g.ac) (g.seq 1 n5 λ_=>rfl)).I2 ?_⟩;refine⟨_,n5,aH (λe2=>?_) λe2=>?_⟩
 .have o:c≠eS ((c.getD 3 0).toNat:Int) ((c.drop 4).take 55):=of_decide_eq_false e2;have:gz c=eH:=by unfold gz;rw[nq λa=>o a.2.symm]
  rw[this];exact⟨λ_=>⟨n5,.zip g.ac⟩,λk x h=>t7⟩
 .have m:c=eS ((c.getD 3 0).toNat:Int) ((c.drop 4).take 55):=n3 e2;have:gz c=dB (((c.getD 3 0).toNat:Int),(c.drop 4).take 55):=by unfold gz;rw[m6 ⟨j,m.symm⟩]
  rw[this];refine⟨λh=>t7,λk x a=>?_⟩;injection a with a
  injection a with hh1 hh2
  subst hh1;subst hh2;exact⟨r,n5,g.bu [0]⟩
theorem Jz(b:Sl)(l:aR)(h:m5)(d:Rd h b 1 aq l)(m:n4 l<=4):ak xR 239 #[b] h λv h'=>v=xH xN (dm l)/\h'=h:=by
 refine ts Tryz.func239 ?_ (HF (HF (I0 [(3,aI),(8,aI)] [(3,4),(5,6),(8,18)])));have g:=d.len;refine aj (λi:Nat=>(dm (l.take i),(i:Int))) (λi h'=>i<=n4 l/\h'=h) (λi=>n4 l-i) 0 n5 ⟨n7,n5⟩ ?_;rintro i p ⟨o,rfl⟩
 try dsimp only
 refine ae (λe=>?_) (λe=>?_)
 .have a:i<n4 l:=n7
  refine d.aV i n5 a (l[i].toNat:Int) n5 ⟨n8,?_⟩;have c:=(Bl (l.take i) oi)
  have j:=c.2.2 oi;have k:=l[i].toNat_lt;obtain⟨n,f⟩:∃n:Nat,dm (l.take i)=(n:Int):=⟨(dm (l.take i)).toNat,n7⟩
  refine⟨i+1,?_,⟨n7,n5⟩,n7⟩;rw[az _ _ a,GL,f,UI n _,af ((i:Int)+1)];rfl
 .rw[qf n7];exact⟨n5,n5⟩
theorem EK(x:bw)(r:ck)(h:m5)(A:eN cx h x r):ak xR 240 #[recv x] h λv h'=>v=xL (jL r)/\Sp h h' []:=by
 refine ts Tryz.func240 ?_ (HF (I1 [(3,oe)] [(3,32)] G6)) (args:=[x]);obtain⟨⟨I,e2,B,l,K,_⟩,F⟩:=A;have s:x.2.2.2.1=r.p.1:=congrArg (·.1) l;have m:x.2.2.2.2.1=r.p.2.1:=congrArg (·.2.1) l;have a:x.2.2.2.2.2.1=r.p.2.2:=congrArg (·.2.2) l;have c:=Seq.len F;refine(Sp.refl h).boxed λf j q=>?_;have k:=q.box 0 n5;have z:hY j f=dB (xH xN r.object):=by rw[<-I];exact k.cell0 n5
 have u:hY j (f.add 1)=dB (xH xN r.block):=by rw[<-e2];exact k.cell n5
 have y:hY j (f.add 2)=dB (xH xN r.id):=by rw[<-B];exact k.cell n5
 have w:∀{h':m5},Sp h h' [an f 128 (bB x)]->(jL r=eX->False)->Value.bool eY=xL (jL r)/\Sp h h' []:=λ{h'} H' hn=>⟨by cases hq:jL r with|false=>rfl|true=>exact absurd hq hn,.zip H'.ac⟩
 refine bs (λb h'=>b=decide ((0<=r.object/\r.object<=16777215)/\(0<=r.block/\r.block<=7)/\(0<=r.id/\r.id<=65535))/\h'=j) ?_ ?_
 .refine⟨_,z,ae (λJ=>⟨_,z,ae (λe=>⟨_,u,ae (λE=>⟨_,u,ae (λH=>⟨_,y,ae (λG=>⟨_,y,?_,n5⟩) λG=>⟨?_,n5⟩⟩) λH=>⟨?_,n5⟩⟩) λE=>⟨?_,n5⟩⟩) λe=>⟨?_,n5⟩⟩) λJ=>⟨?_,n5⟩⟩
  .rw[decide_eq_decide];omega
  all_goals (symm;rw[decide_eq_false_iff_not];omega)
 .rintro _ _ ⟨rfl,rfl⟩;refine ae (λg=>?_) λg=>w q λo=>g (by have:=(jM r).1 o;omega);refine⟨r.p,by rw[<-s,<-m,<-a];exact k.mj 3 n5 n5 n5,(eV r.p _).I3 λh3 D=>?_⟩;have t:=q.up D.ac;have d:=t.box 0 n5;refine⟨_,n5,aT (λe=>?_) λe=>w t λo=>by have:=((jM r).1 o).2.2.2.1;rw[e]at this;cases this⟩;refine⟨x.2.2.2.2.2.2.2,d.cell n5,r.p.2.2,by rw[<-a];exact d.mi 3 2 n5,?_,.zip t.ac⟩;congr 1;by_cases i:(r.data.length:Int)=r.p.2.2
  .have:jL r=eX:=(jM r).2 ⟨n7,n7,n7,e,i⟩;rw[this,c];simpa using i
  .have:jL r=eY:=by
    cases hq:jL r with
    |false=>rfl
    |true=>exact absurd ((jM r).1 hq).2.2.2.2 i
   rw[this,c];simpa using i
theorem mU(s:Sl)(l:aR)(n:Int)(k:Nat)(m:k<=4)(o:n4 l<=2^30)(H:aa B h0 h (ai 5 s 1 aq l::As)):
  ak xR 253 #[s,xH xN n,xH xN k] h λv h'=>∃r:Sl,v=r/\aa B h0 h' (ai 5 r 1 aq (l++cy n k)::As):=by
 refine ts Tryz.func253 ?_ (HF (I0 [(0,bK),(7,aI)] [(0,1),(7,8),(10,22)]));rw[af ((k:Int)-1)];refine aj (λt:Sl×Nat=>(t.1,(k:Int)-1-t.2)) (λt h'=>t.2<=k/\aa B h0 h' (ai 5 t.1 1 aq (l++(cy n k).take t.2)::As)) (λt=>k-t.2) (s,0) oo ⟨oo,v8⟩ ?_;rintro⟨r,t⟩ p ⟨q,b⟩;dsimp only at*;refine ae (λe=>?_) (λe=>?_)
 .have a:t<k:=n7
  have i:qc xN ((8:Int)*((k:Int)-1-t))=((8*(k-1-t):Nat):Int):=by rw[af _];omega
  rw[i,qi];have e2:min (8*(k-1-t)) (qq xN)=8*(k-1-t):=by have:qq xN=64:=rfl;omega
  rw[e2,cb];refine⟨n7,?_⟩;refine b.push ag 0 n5 cK n5 n8 (λ_=>rfl) cB (b8 (zo n (2^(8*(k-1-t))))) n5 n8 p9 λg j d=>?_;refine⟨(g,t+1),?_,⟨n9,?_⟩,n9⟩
  .try dsimp only
   have c:qc xN ((k:Int)-1-t-1)=(k:Int)-1-((t+1:Nat):Int):=by rw[af _];omega
   rw[c]
  .try dsimp only
   have f:(cy n k).take t++[b8 (zo n (2^(8*(k-1-t))))]=(cy n k).take (t+1):=by rw[az _ _ (by rw[bL];exact a)];congr 2;simp[cy]
   rw[<-f,<-ql];exact d
 .have:t=k:=n7
  subst this;rw[qf (by rw[bL];omega)]at b;exact⟨r,n5,b⟩
theorem wO(x:bw)(r:ck)(h:m5)(y:eN cx h x r):ak xR 181 #[recv x] h λv h'=>∃s:Sl,v=s/\Sp h h' [ai 5 s 1 aq (gc r)]:=by
 refine ts Tryz.func181 ?_ (args:=[x]);obtain⟨⟨S,e2,I,k,M,e7,Y⟩,N⟩:=id y;have t:x.2.2.2.1=r.p.1:=congrArg (·.1) k;have n:x.2.2.2.2.1=r.p.2.1:=congrArg (·.2.1) k;have f:x.2.2.2.2.2.1=r.p.2.2:=congrArg (·.2.2) k;refine(Sp.refl h).boxed λL U d=>?_;refine⟨x,(d.box 0 n5).aw _ n5,(EK x r U (cx.mono (cx.loc y d.ac) λ_ V=>qS V d.ac.1)).I3 λX P=>?_⟩;have i:=d.up P.ac;refine⟨_,n5,aH (λg=>?_) λg=>?_⟩
 .unfold gc;rw[g];exact⟨⟨eH,0,0⟩,n5,(i.nil 5 1 aq).bu [1]⟩
 have O:=rx g;have w:=i.box 0 n5;refine⟨r.object,by rw[<-S];exact w.cell0 n5,(mU ⟨eH,0,0⟩ [] r.object 3 n8 oo (i.nil 5 1 aq).bc).I4 λD h3 G=>?_⟩;have l:=G.box 1 n5;refine⟨D,n5,r.block,by rw[<-e2];exact l.cell n5,(mU D _ r.block 1 n8 tq G).I4 λH Z A=>?_⟩;have q:=A.box 1 n5;refine⟨H,n5,r.id,by rw[<-I];exact q.cell n5,(mU H _ r.id 2 n8 tq A).I4 λW h5 z=>?_⟩;have a:=z.box 1 n5;refine⟨W,n5,r.p.1,by rw[<-t];exact a.cell n5,r.p.2.1,by rw[<-n];exact a.mi 3 1 n5,r.p.2.2,by rw[<-f];exact a.mi 3 2 n5,?_⟩
 try dsimp only
 rw[cb,cb,cb];refine z.lit ag aq cK n5 [b8 r.p.1,b8 r.p.2.1,b8 r.p.2.2] n5 (show 3*1<=2^20 by decide) n5 λR h6 E=>?_;refine E.append ag 0 n5 cK ⟨_,_,n5,n5⟩ n5 n8 (λ_=>rfl) (E.seq 2 n5 λ_=>rfl) cB tq λQ h7 e=>?_;have e:=e.bu [0,1];have j:=e.box 1 n5;refine⟨r.seed,by rw[<-M];exact j.cell n5,?_⟩
 try dsimp only
 rw[af r.seed];refine(mU Q _ r.seed 4 n8 tq e).I4 λT h8 u=>?_;have o:=u.box 1 n5;refine⟨T,n5,x.2.2.2.2.2.2.2,o.cell n5,?_⟩;refine u.append ag 0 n5 cK ⟨_,_,n5,n5⟩ n5 n8 (λ_=>rfl) (Seq.up N u.ac) cB p9 λF B c=>?_;have J:[]++cy r.object 3++cy r.block 1++cy r.id 2++[b8 r.p.1,b8 r.p.2.1,b8 r.p.2.2]++cy r.seed 4++r.data=ox r:=by unfold ox;simp[ql]
 have c:Sp h B [ai 5 F 1 aq (ox r),an L 128 (bB x)]:=by rw[<-J];exact c
 refine(CZ 1 F (ox r) B (c.seq 0 n5 λ_=>rfl)).I4 λb K m=>⟨b,n5,b,n5,?_⟩;unfold gc;rw[g,m6 rfl];exact(c.comp m).bu [2]
theorem Mo(b:Sl)(c:aR)(h:m5)(hb:Rd h b 1 aq c)(hc:c.length<=2^30)(U:b.len<=b.cap):
  ak xR 168 #[b] h λv h'=>∃x:bw,v=.tuple #[recv x,xL (dn c).isSome]/\(dn c=eH->Sp h h' [])/\∀r,dn c=dB r->Sp h h' [EA cx x r]:=by
 refine ts Tryz.func168 ?_ (HF (HF (I1 [] [(3,4),(14,21)] (I1 [(7,(.sc .adr))] [(7,8),(21,31)] (I1 [] [(31,42)] G6))))) [(4,(.y [0,1,3,4,6,7] (.y [2] (.y [5] (.l [8,9,10,11]) (.l [10,8,9,11])) (.l [10,5,8,9,11])) (.l [10,2,5,8,9,11]))),(5,(.l [0,1,3,4,6,7,2,5,8,9,10,11]))];refine(Sp.refl h).alloc ag n5 λw h1 H1=>?_;have D:∀{h':m5} {Bs:List HP},Sp h h' (an w 128 (bB (0,0,0,0,0,0,0,⟨eH,0,0⟩))::Bs)->dn c=eH->
   av xR (qD 128 (xJ (dB w)) (recv (0,0,0,0,0,0,0,⟨eH,0,0⟩))) h' λ_ H=>∃V:bw,aZ H w 0 (bB V)/\∃x:bw,Value.tuple #[recv V,xL eY]=.tuple #[recv x,xL (dn c).isSome]/\(dn c=eH->Sp h H [])/\∀r,dn c=dB r->Sp h H [EA cx x r]:=λ{h' Bs} H' G=>by
  refine H'.storeAll ag 0 n5 n5 (bB (0,0,0,0,0,0,0,⟨eH,0,0⟩)) n5 n5 n5 n5 λH H4=>?_;exact⟨(0,0,0,0,0,0,0,⟨eH,0,0⟩),(H4.box 0 n5).aw _ n5,(0,0,0,0,0,0,0,⟨eH,0,0⟩),by rw[G];rfl,λ_=>.zip H4.ac,λr O=>by rw[G]at O;cases O⟩
 refine(RT b c h1 (hb.up H1.ac) hc U).mono ?_;rintro _ h2 ⟨Q0,Q1⟩;cases htc:gz c with
 |none=>
  obtain⟨rfl,R2⟩:=Q0 htc;have G:dn c=eH:=by unfold dn;rw[htc]
  exact⟨(0,⟨eH,0,0⟩,eY),n5,aE (aH (λ_=>D (H1.up R2.ac) G) λe=>o1)⟩
 |some kx=>
  obtain⟨k,x⟩:=kx;obtain⟨r,rfl,R2⟩:=Q1 k x htc;have t:=H1.comp R2;have a0:x.length=55:=by
   unfold gz at htc;split at htc
   .rename_i m;injection htc with htc
    injection htc with _ htc
    rw[<-htc];simp;omega
   .cases htc
  have a6:=(t.own 1 n5).len;have S:=(t.own 1 n5).cap;refine⟨(k,r,eX),n5,aE (aH (λe=>o1) λ_=>bt (λe=>D t ?_) λL=>?_)⟩
  .unfold dn;rw[htc];exact nq λm=>e m.1
  try dsimp only
  have L:k=1:=L;obtain⟨R,s⟩:=I5 (uB x)
  have M:dn c=if bH R.p=eX/\gc R=c then dB R else eH:=by
   unfold dn;rw[htc]
   try dsimp only
   rw[<-s];by_cases m:bH R.p=eX/\gc R=c
   .rw[m6 m];exact m6 ⟨L,m⟩
   .rw[nq m];exact nq λh=>m h.2
  have tA:∀{h':m5},Rd h' r 1 aq x->ak xR 239 #[xI r.ptr 3 r.cap] h' λv I=>v=xH xN R.object/\I=h':=λ{h'} O=>by
   rw[s];exact Jz ⟨r.ptr,3,r.cap⟩ (x.take 3) h' (O.take 3 n7) oi
  have N:∀{h':m5} (j n:Nat),j+n<=55->n<=4->Rd h' r 1 aq x->ak xR 239 #[.slice (if r.cap=j then r.ptr else r.ptr.map (·.add (j*1))) n (r.cap-j)] h' λv I=>v=xH xN (dm ((x.drop j).take n))/\I=h':=λ{h'} j n hjn G O=>
   Jz ⟨if r.cap=j then r.ptr else r.ptr.map (·.add (j*1)),n,r.cap-j⟩ ((x.drop j).take n) h' ((O.drop j S).take n p6) oi
  have rd:∀{h':m5} {A:HP} {Bs:List HP},Sp h h' (A::ai 5 r 1 aq x::Bs)->Rd h' r 1 aq x:=λ{h' A Bs} H'=>H'.seq 1 n5 λ_=>rfl;have ov:∀{h':m5} {A A2:HP} {Bs:List HP},Sp h h' (A::A2::ai 5 r 1 aq x::Bs)->Rd h' r 1 aq x:=λ{h' A A2 Bs} H'=>H'.seq 2 n5 λ_=>rfl;refine bs (λ(a:hU) h'=>Sp h h' [an a 128 (bB (R.object,R.block,R.id,0,0,0,0,⟨eH,0,0⟩)),an w 128 (bB (0,0,0,0,0,0,0,⟨eH,0,0⟩)),ai 5 r 1 aq x]) ?_ ?_
  .have eb:dm ((x.drop 3).take 1)=R.block:=C9
   have ei:dm ((x.drop 4).take 2)=R.id:=C9
   have fin:∀{h':m5} {a:hU},Sp h h' [an w 128 (bB (0,0,0,0,0,0,0,⟨eH,0,0⟩)),ai 5 r 1 aq x,an a 128 (bB (0,0,0,0,0,0,0,⟨eH,0,0⟩))]->
     av xR (qD 128 (xJ (dB a)) (recv (R.object,R.block,R.id,0,0,0,0,⟨eH,0,0⟩))) h' λ_ H=>bx.ok [] H/\Sp h H [an a 128 (bB (R.object,R.block,R.id,0,0,0,0,⟨eH,0,0⟩)),an w 128 (bB (0,0,0,0,0,0,0,⟨eH,0,0⟩)),ai 5 r 1 aq x]:=λ{h' a} H'=>
    H'.storeAll ag 2 n5 n5 (bB (R.object,R.block,R.id,0,0,0,0,⟨eH,0,0⟩)) n5 n5 n5 n5 λH H4=>⟨I6,H4.bu [2,0,1]⟩
   have A_:∀{h':m5} {Bs:List HP} {K:Int->m5->Prop},Sp h h' (an w 128 (bB (0,0,0,0,0,0,0,⟨eH,0,0⟩))::ai 5 r 1 aq x::Bs)->K R.object h'->ji xR 239 #[xI r.ptr 3 r.cap] (.one (.sc (.int .i64))) h' K:=λ{h' Bs K} H' hK=>by
    refine(tA (rd H')).I2 ⟨_,n5,hK⟩
   have B_:∀{h':m5} {Bs:List HP} {K:Int->m5->Prop},Sp h h' (an w 128 (bB (0,0,0,0,0,0,0,⟨eH,0,0⟩))::ai 5 r 1 aq x::Bs)->K R.block h'->ji xR 239 #[.slice (if r.cap=3 then r.ptr else r.ptr.map (·.add (3*1))) 1 (r.cap-3)] (.one (.sc (.int .i64))) h' K:=λ{h' Bs K} H' hK=>by
    refine(N 3 1 n8 n8 (rd H')).I2 ⟨_,n5,by rw[eb];exact hK⟩
   have C_:∀{h':m5} {Bs:List HP} {K:Int->m5->Prop},Sp h h' (an w 128 (bB (0,0,0,0,0,0,0,⟨eH,0,0⟩))::ai 5 r 1 aq x::Bs)->K R.id h'->ji xR 239 #[.slice (if r.cap=4 then r.ptr else r.ptr.map (·.add (4*1))) 2 (r.cap-4)] (.one (.sc (.int .i64))) h' K:=λ{h' Bs K} H' hK=>by
    refine(N 4 2 n8 n8 (rd H')).I2 ⟨_,n5,by rw[ei];exact hK⟩
   refine⟨⟨n8,n7⟩,⟨n8,n8,n7⟩,⟨n8,n8,n7⟩,A_ t ⟨I6,B_ t ⟨I6,C_ t ⟨I6,?_⟩,?_⟩,?_⟩,?_⟩
   .refine t.alloc ag n5 λa9 h9 f=>⟨I6,?_⟩
    exact fin f
   .refine t.alloc ag n5 λa9 h9 f=>⟨I6,?_⟩
    exact C_ f ⟨I6,fin f⟩
   .refine t.alloc ag n5 λa9 h9 f=>⟨I6,?_⟩
    exact B_ f ⟨I6,C_ f ⟨I6,fin f⟩⟩
   .refine t.alloc ag n5 λa9 h9 f=>⟨I6,?_⟩
    exact A_ f ⟨I6,B_ f ⟨I6,C_ f ⟨I6,fin f⟩⟩⟩
  .rintro a9 h5 H5;have J:0<=R.seed/\R.seed<4294967296:=by have:=Bl ((x.drop 9).take 4) oi;rw[s];exact⟨this.1,this.2.1⟩
   have e6:dm ((x.drop 6).take 1)=R.p.1:=C9
   have e7:dm ((x.drop 7).take 1)=R.p.2.1:=C9
   have e8:dm ((x.drop 8).take 1)=R.p.2.2:=C9
   have e9:dm ((x.drop 9).take 4)=R.seed:=C9
   refine aE ⟨⟨n8,n8,n7⟩,⟨n8,n8,n7⟩,⟨n8,n8,n7⟩,(N 6 1 n8 n8 (ov H5)).I2 ?_⟩;refine⟨_,n5,I6,(N 7 1 n8 n8 (ov H5)).I2 ?_⟩;refine⟨_,n5,I6,(N 8 1 n8 n8 (ov H5)).I2 ?_⟩;refine⟨_,n5,I6,?_⟩
   try dsimp only
   rw[e6,e7,e8];refine H5.store ag 0 n5 n5 3 [xH xN R.p.1,xH xN R.p.2.1,xH xN R.p.2.2] n5 n5 n5 oo λa5 Q=>⟨I6,?_⟩
   refine⟨⟨n8,n8,n7⟩,(N 9 4 n8 n8 (ov Q)).I2 ?_⟩;refine⟨_,n5,?_⟩
   try dsimp only
   have ew:qc xP (dm ((x.drop 9).take 4))=R.seed:=by rw[e9];unfold qc;simp[qq,yA];omega
   rw[ew];refine Q.store ag 0 n5 n5 6 [xH xP R.seed] n5 n5 n5 oo λao P=>?_;refine⟨R.p,(P.box 0 n5).mj 3 n5 n5 n5,(eV R.p ao).I3 λap ax=>?_⟩;have z:=P.up ax.ac;refine⟨_,n5,aH (λg=>D (z.aG 2 [1,0]) (by rw[M,nq λm=>by rw[g]at m;cases m.1])) λg=>?_⟩;have a3:=(bI R.p).1 g;refine⟨R.p.2.2,(z.box 0 n5).mi 3 2 n5,?_⟩
   try dsimp only
   rw[af ((13:Int)+R.p.2.2)];refine⟨⟨n8,n7,n7⟩,?_⟩;have ad:((13:Int)+R.p.2.2).toNat-(13:Int).toNat=R.p.2.2.toNat:=n7
   rw[ad];have E:(x.drop 13).take R.p.2.2.toNat=R.data:=C9
   have F:=((ov z).drop 13 S).take R.p.2.2.toNat p6;rw[E]at F;have a8:R.data.length=R.p.2.2.toNat:=by rw[<-E];simp;omega
   refine(fN ⟨if r.cap=13 then r.ptr else r.ptr.map (·.add (13*1)),R.p.2.2.toNat,r.cap-13⟩ R.data ap F).I4 λu a2 ay=>?_;have al:=z.comp ay;refine⟨u,n5,?_⟩;refine al.store ag 0 n5 n5 7 [u] n5 n5 n5 oo λW i=>?_;have i:Sp h W [an a9 128 (bB (R.object,R.block,R.id,R.p.1,R.p.2.1,R.p.2.2,R.seed,u)),an w 128 (bB (0,0,0,0,0,0,0,⟨eH,0,0⟩)),ai 5 r 1 aq x,ai 5 u 1 aq R.data]:=i;obtain⟨X,hX⟩:∃X:bw,X=(R.object,R.block,R.id,R.p.1,R.p.2.1,R.p.2.2,R.seed,u):=⟨_,rfl⟩
   rw[<-hX]at i;have Y:∀{h':m5} {q:au},Seq h' q u 1 aq R.data->cx.p h' q X R:=λ{h' q} hs=>by rw[hX];exact⟨⟨n5,n5,n5,n5,n5,J⟩,hs⟩
   refine⟨X,(i.box 0 n5).aw _ n5,(wO X R W (Y (i.seq 3 n5 λ_=>rfl))).I4 λs5 am ab=>?_⟩;have o:=i.comp ab;refine⟨s5,n5,(uc b s5 c (gc R) am (hb.up o.ac) (o.seq 4 n5 λ_=>rfl)).I2 ?_⟩;refine⟨_,n5,aH (λZ=>D (o.aG 2 [1,0]) (by rw[M,nq λm=>(of_decide_eq_false Z) m.2.symm])) λZ=>?_⟩;have Z:c=gc R:=n3 Z;refine⟨X,(o.box 0 n5).aw _ n5,?_⟩;refine o.storeAll ag 1 n5 n5 (bB X) n5 n5 n5 n5 λbd T=>?_;have d:dn c=dB R:=by rw[M,m6 ⟨g,Z.symm⟩]
   refine⟨X,(T.box 1 n5).aw _ n5,X,by rw[d];rfl,λG=>(by rw[d]at G;cases G),λr' B=>?_⟩;rw[d]at B;injection B with B
   subst B;have ah:=T.bu [3];exact ah.dW 0 n5 λq hq=>Y (hq.1.seq (λ_=>rfl) hq.2)
variable {X Y Z:HP}
section
variable {L:List HP}
theorem aa.acX(H:aa B h0 h (X::Y::(L++As))):aa B h0 h (L++(X::Y::As)):=
 H.pick (λi=>if i<n4 L then i+2 else if i=n4 L then 0 else if i=n4 L+1 then 1 else i) (λa b c=>o4) λi A d=>o4
theorem aa.aad(n:Nat)(b:L[n]?=dB X)(H:aa B h0 h (Y::Z::(L++As))):aa B h0 h (X::Z::Y::(L.set n emp++As)):=by
 have a:=H.cons (n+2) (A:=X) o4;have e:(Y::Z::(L++As)).set (n+2) emp=Y::Z::(L.set n emp++As):=o4
 rw[e]at a;exact a.aG 3 [0,2,1]
theorem aa.Qd(n:Nat)(e:n<n4 L)(H:aa B h0 h (X::Z::Y::(L.set n emp++As))):aa B h0 h (Y::Z::(L.set n X++As)):=
 H.pick (λi=>if i=0 then 2 else if i=1 then 1 else if i=n+2 then 0 else i+1) (λa b d=>o4) λi A c=>by
  match i,c with
  |0,c=>exact c
  |1,c=>exact c
  |i+2,c=>
   grind
end
structure Kit where
 tS:Nat
 tP:Nat
 tD:Nat
 f:hU->bp->Sl->Sl->aS
def abX(k:Kit)(pw:hU)(a:bJ)(d:Option bp):HP:=match a,d with
 |some a,dB d=>kb k.tD (k.f pw) a d
 |_,_=>emp
abbrev cZ(b:aS)(pw:hU)(a:Int)(c:List bJ):aS:=b++(xJ (dB pw)::xH xN a::c.map .pointer)
structure gI (mc:aS) (da:List bJ) (ds:aF):Prop where
 l8:n4 mc=8
 la:n4 da=64
 ls:n4 ds=64
 same:∀i:Nat,(da.getD i eH).isSome=(ds.getD i eH).isSome
abbrev jr(k:Kit)(pw:hU)(a:List bJ)(b:aF):List HP:=List.zipWith (abX k pw) a b
def aJ(k:Kit)(a pw:hU)(e:aS)(b:Int)(c:List bJ)(w:Pow)(d:aF):HP:=
 (HP.all (an a k.tS (cZ e pw b c)::eF k.tP pw w::jr k pw c d)).and (gI e c d)
variable {mc:aS} {offs:Int} {da:List bJ} {w':Pow} {ds:aF} {d':bp} {n:Nat}
section
variable {k:Kit} {pw:hU}
theorem Mp(ok:gI mc da ds):n4 (jr k pw da ds)=64:=by simp[jr,ok.la,ok.ls]
theorem aa.jQ(H:aa B h0 h (aJ k a pw mc offs da w ds::As)):gI mc da ds/\aa B h0 h (an a k.tS (cZ mc pw offs da)::eF k.tP pw w::(jr k pw da ds++As)):=by obtain⟨H,ok⟩:=H.Fv;exact⟨ok,H.Ak⟩
theorem aa.mG(ok:gI mc da ds)(H:aa B h0 h (an a k.tS (cZ mc pw offs da)::eF k.tP pw w::(jr k pw da ds++As))):aa B h0 h (aJ k a pw mc offs da w ds::As):=
 (aa.closeAll (an a k.tS (cZ mc pw offs da)::eF k.tP pw w::jr k pw da ds) H).toFv ok
theorem gI.addr(ok:gI mc da ds)(c:ds[n]?=dB (dB d)):∃b,da[n]?=dB (dB b):=by
 have g:n<64:=by have:=(qn.1 c).1;rw[ok.ls]at this;exact this
 have a:=ok.same n;rw[qg,qg,c]at a;have f:n<n4 da:=by rw[ok.la];exact g
 rw[qd f]at a⊢;simp at a;obtain⟨b,e⟩:=yP.1 a;exact⟨b,by rw[e]⟩
theorem gI.UJ(ok:gI mc da ds)(d:n<64)(b:ds[n]?=dB eH):da[n]?=dB eH:=by
 have a:=ok.same n;rw[qg,qg,b]at a;have c:n<n4 da:=by rw[ok.la];exact d
 rw[qd c]at a⊢;simp at a;rw[a]
theorem gI.set(ok:gI mc da ds){b:hU}(c:da[n]?=dB (dB b)):gI mc da (ds.set n (dB d')):=by
 refine⟨ok.l8,ok.la,by rw[qO];exact ok.ls,λi=>?_⟩;by_cases a:n=i
 .subst a;have d:n<n4 ds:=by have:=(qn.1 c).1;rw[ok.la]at this;rw[ok.ls];exact this
  rw[qg,c,qg,List.getElem?_set_self d];rfl
 .rw[qg (l:=ds.set n _),w4 a,<-qg];exact ok.same i
theorem Xx{b:hU}(c:da[n]?=dB (dB b))(e:n<n4 ds):(jr k pw da ds).set n (kb k.tD (k.f pw) b d')=jr k pw da (ds.set n (dB d')):=by
 apply zp;intro j;have d:n<n4 da:=(qn.1 c).1;simp only[jr,qW,wQ,List.length_zipWith];by_cases a:n=j
 .subst a;rw[m6 n5,m6 n7,m6 n5,m6 e,c];rfl
 .simp[a]
def Ej(k:Kit)(a pw:hU)(e:aS)(b:Int)(c:List bJ)(d:aF)(n:Nat):HP:=
 (HP.all (an a k.tS (cZ e pw b c)::(jr k pw c d).set n emp)).and (gI e c d)
theorem aa.fq(H:aa B h0 h (aJ k a pw mc offs da w ds::As))(c:ds[n]?=dB (dB d)):∃b,da[n]?=dB (dB b)/\aa B h0 h (kb k.tD (k.f pw) b d::eF k.tP pw w::Ej k a pw mc offs da ds n::As):=by
 obtain⟨ok,l⟩:=H.jQ;obtain⟨b,e⟩:=ok.addr c;refine⟨b,e,?_⟩;have j:(jr k pw da ds)[n]?=dB (kb k.tD (k.f pw) b d):=by simp only[jr,wQ,e,c];rfl
 have g:=l.aad n j;have i:aa B h0 h (kb k.tD (k.f pw) b d::eF k.tP pw w::((an a k.tS (cZ mc pw offs da)::(jr k pw da ds).set n emp)++As)):=g;exact(((aa.closeAll _ i.acX).toFv ok).aG 3 [1,2,0]:aa B h0 h (kb k.tD (k.f pw) b d::eF k.tP pw w::Ej k a pw mc offs da ds n::As))
theorem aa.kN{b:hU}(m:da[n]?=dB (dB b))(H:aa B h0 h (kb k.tD (k.f pw) b d'::eF k.tP pw w'::Ej k a pw mc offs da ds n::As)):aa B h0 h (aJ k a pw mc offs da w' (ds.set n (dB d'))::As):=by
 have l:aa B h0 h (Ej k a pw mc offs da ds n::eF k.tP pw w'::kb k.tD (k.f pw) b d'::As):=H.aG 3 [2,1,0];obtain⟨l,ok⟩:=l.Fv;have o:=l.Ak;have q:n<n4 ds:=by have:=(qn.1 m).1;rw[ok.la]at this;rw[ok.ls];exact this
 have s:=Mp (k:=k) (pw:=pw) ok;have g:n<n4 (jr k pw da ds):=by rw[s,<-ok.ls];exact q
 obtain⟨L,p⟩:=I5 (jr k pw da ds)
 rw[<-p]at o g;have t:aa B h0 h (kb k.tD (k.f pw) b d'::eF k.tP pw w'::an a k.tS (cZ mc pw offs da)::(L.set n emp++As)):=by
  refine o.pick (λi=>if i=0 then 1+n4 L+1 else if i=1 then 1+n4 L else if i=2 then 0 else if i<3+n4 L then i-2 else i) (λx y c=>by(try dsimp only at c);split at c<;>split at c<;>(try split at c)<;>(try split at c)<;>(try split at c)<;>(try split at c)<;>(try split at c)<;>(try split at c)<;>omega) λi A e=>?_
  try dsimp only
  have d:n4 (an a k.tS (cZ mc pw offs da)::L.set n emp)=1+n4 L:=oi
  match i,e with
  |0,e=>rw[m6 n5,qk n7,d,show 1+n4 L+1-(1+n4 L)=1 by omega];exact e
  |1,e=>rw[nq n7,m6 n5,qk n7,d,zd];exact e
  |2,e=>rw[nq n7,nq n7,m6 rfl];exact e
  |i+3,e=>
   rw[nq n7,nq n7,nq n7];rw[qU,qU,qU]at e;by_cases j:i<n4 L
   .rw[m6 n7,show i+3-2=i+1 by omega,qu (by rw[d];omega),qU];rw[qu (by simpa using j)]at e;exact e
   .rw[nq n7,qk (by rw[d];omega),d,show i+3-(1+n4 L)=(i-n4 L)+2 by omega,qU,qU];rw[qk oi,qO]at e;exact e
 have r:=aa.Qd n g t;rw[p,Xx m q]at r;exact r.mG (ok.set m)
end
def dR:ja (Int×Sl) (Int×aR):=⟨λh q a b=>a.1=b.1/\Seq h q a.2 1 aq b.2,λa d=>⟨a.1,a.2.ac d⟩,λa c=>⟨a.1,a.2.mono c⟩⟩
def piv(x:Int×Sl):aS:=[xH xN x.1,x.2]
theorem sY:∀x,∀c∈piv x,c.oneCell'=eX:=by intro x c a;simp[piv]at a;rcases a with rfl|rfl<;>rfl
def de(b:List bJ)(a:Int):bJ:=if 0<=a/\a<64 then(b[a.toNat]?).join else eH
theorem gf{j:aS}{f:List bJ}{c:aF}(ok:gI j f c)(a:Int):
  (bR c a=eH/\de f a=eH)∨∃(n:Nat) (d:bp) (b:hU),a=n/\n<64/\c[n]?=dB (dB d)/\bR c a=dB d/\f[n]?=dB (dB b)/\de f a=dB b:=by
 unfold bR de;by_cases h:0<=a/\a<64
 .rw[m6 h,m6 h];have i:a.toNat<n4 c:=by rw[ok.ls];omega
  cases hd:c[a.toNat]with
  |none=>
   have e:c[a.toNat]?=dB eH:=by rw[qd i,hd]
   exact .inl ⟨A3,by rw[ok.UJ n7 e];rfl⟩
  |some d=>
   have e:c[a.toNat]?=dB (dB d):=by rw[qd i,hd]
   obtain⟨b,g⟩:=ok.addr e;exact .inr ⟨a.toNat,d,b,n7,n7,e,A3,g,by rw[g];rfl⟩
 .rw[nq h,nq h];exact .inl ⟨n5,n5⟩
theorem mH{c:aS}{pw:hU}{a:Int}{b:List bJ}(h8:n4 c=8)(n:Nat):(cZ c pw a b)[10+n]?=(b[n]?).map .pointer:=by unfold cZ;rw[qk n7,h8,show 10+n-8=n+1+1 by omega,qU,qU,qM]
theorem ud{b:aS}{pw:hU}{a:Int}{c:List bJ}(h8:n4 b=8):(cZ b pw a c)[8]?=dB (xJ (dB pw)):=by unfold cZ;rw[qk n7,h8];rfl
theorem GM{b:aS}{pw:hU}{a:Int}{c:List bJ}(h8:n4 b=8):(cZ b pw a c)[9]?=dB (xH xN a):=by unfold cZ;rw[qk n7,h8];rfl
abbrev bN:Qw.Kit:=⟨105,107,172,λpw=>fj pw⟩
theorem Mq{e:TypeId}(s:Sl)(l:aC)(h:m5)(c:Own h e s 1 ar l)(a:n4 l<2^40):ak xR 259 #[s] h λv h'=>v=xI s.ptr (Lib.compact l).length s.cap/\Own h' e ⟨s.ptr,n4 (Lib.compact l),s.cap⟩ 1 ar (Lib.compact l)/\aQ (λb=>¬s.on b) h h':=
 Gx Tryz.slices_Compact_int Tryz.slices_Compact_int_empty c a
section
variable {pw:hU}
theorem jz(b:Int)(ok:gI mc da ds)(f:bV h a 105 (cZ mc pw offs da)):ak xR 26 #[xJ (dB a),xH xN b] h λv h'=>v=.pointer (de da b)/\h'=h:=by
 refine ts Tryz.func26 ?_ (HF (I1 [] [(4,15)] G6));have c:¬(0<=b/\b<64)->Value.pointer eH=.pointer (de da b)/\h=h:=λe=>by unfold de;rw[nq e];exact⟨n5,n5⟩
 refine aE (aT (λe=>o1) λ_=>ae (λe=>c n7) λg=>ae (λe=>c n7) λe2=>?_);have d:b.toNat<n4 da:=C1
 refine⟨a,n5,⟨n7,n7⟩,da[b.toNat],?_,?_,n5⟩
 .rw[zG];refine f.mi 10 b.toNat ?_;rw[mH ok.l8,qd d];rfl
 .unfold de;rw[m6 n7,qd d];rfl
theorem aa.cw(H:aa B h0 h (aJ bN a pw mc offs da w ds::As)):gI mc da ds/\bV h a 105 (cZ mc pw offs da):=by obtain⟨ok,b⟩:=Qw.aa.jQ H;exact⟨ok,b.box 0 n5⟩
theorem GN(s:Sl)(l:aC)(u:Rd h s 1 ar l)(K:n4 l<=2^30)(H:aa B h0 h (aJ bN a pw mc offs da w ds::As)):
  ak xR 66 #[.func (.func 26) #[xJ (dB a)] #[],s] h λv h'=>∃r:Sl,v=r/\Sp h h' [ai 3 r 1 ar (aY ds l)]:=by
 refine ts Tryz.func66 ?_ (HF (HF (I0 [(5,bK),(11,aI)] [(5,6),(7,9),(11,30)]))) (args:=[(.func (.func 26) #[xJ (dB a)] #[]),s]);have z:=u.len;obtain⟨ok,x⟩:=aa.cw H;refine aj (λt:Sl×Nat=>(t.1,(t.2:Int))) (λt h'=>t.2<=n4 l/\Sp h h' [ai 3 t.1 1 ar (aY ds (l.take t.2))]) (λt=>n4 l-t.2) (⟨eH,0,0⟩,0) n5 ⟨oo,by simpa[aY]using(Sp.refl h).nil 3 1 ar⟩ ?_;rintro⟨o,i⟩ M ⟨L,j⟩;dsimp only at*;refine ae (λe=>?_) (λe=>?_)
 .have p:i<n4 l:=n7
  have c:aY ds (l.take (i+1))=aY ds (l.take i)++(if isLive ds l[i]then[l[i]]else[]):=by unfold aY;rw[az _ _ p,zg,zx,wL]
  have E:n4 (aY ds (l.take i))<=n4 l:=by have:=qH (isLive ds) (l.take i);unfold aY;simp at this⊢;omega
  have next:∀{h':m5} {k:Sl},Sp h h' [ai 3 k 1 ar (aY ds (l.take (i+1)))]->∃m:Sl×Nat,((⟨k.ptr,k.len,k.cap⟩:Sl),qc xN ((i:Int)+1))=(m.1,(m.2:Int))/\(m.2<=n4 l/\Sp h h' [ai 3 m.1 1 ar (aY ds (l.take m.2))])/\l.length-m.2<n4 l-i:=λ{h' k} H'=>
   ⟨(k,i+1),oj,⟨n9,H'⟩,n9⟩
  refine(Seq.up u j.ac).aV i n5 p l[i] n5 (fv qa ?_);refine(jz l[i] ok (x.ac j.ac x.lt)).I2 ⟨_,n5,?_⟩;rcases gf ok l[i]with⟨c1,c2⟩|⟨n,d,b,c0,c1,c2,c3,c4,c5⟩
  .rw[c2];have g:isLive ds l[i]=eY:=by unfold isLive;rw[c1]
   rw[g]at c;refine aH (λe=>o1) λ_=>next (by rw[c];simpa using j)
  .rw[c5];have g:isLive ds l[i]=!d.lost:=by unfold isLive;rw[c3]
   refine aH (λ_=>?_) λe=>o1
   obtain⟨I,f,y⟩:=Qw.aa.fq (aa.up H j.ac) c2;rw[c4]at f;injection f with f
   injection f with f
   subst f;obtain⟨F,D,q,_,_⟩:=jo.box y;refine(uO F D q).I2 ⟨_,n5,aH (λe=>?_) λe=>?_⟩
   .rw[g,e]at c;refine j.push ag 0 n5 fu n5 n8 (λ_=>rfl) db l[i] n5 n8 n7 λk J A=>next ?_
    rw[c];exact A
   .rw[g,e]at c;exact next (by rw[c];simpa using j)
 .rw[qf n7]at j;exact⟨o,n5,j⟩
theorem RU(s:Sl)(l:aC)(S:St B h0 As λh=>Rd h s 1 ar l)(hl:n4 l<=2^30)(z:∀x∈l,0<=x/\x<64)(H:aa B h0 h (aJ bN a pw mc offs da w ds::As)):
  ak xR 186 #[.func (.func 26) #[xJ (dB a)] #[],s] h λv h'=>v=xH xN (iO (gq l) w ds).1/\aa B h0 h' (aJ bN a pw mc offs da (iO (gq l) w ds).2.1 (iO (gq l) w ds).2.2::As):=by
 refine ts Tryz.func186 ?_ (HF (HF (HF (I0 [(15,aI)] [(4,5),(6,8),(15,27)])))) (args:=[(.func (.func 26) #[xJ (dB a)] #[]),s]);refine(jF s l h (S.at [_] H) n7).I4 λr W T=>?_;have L:=H.bQ T;refine⟨r,n5,(Jw r l W (L.own 0 n5) n7).I3 λQ ⟨J,X⟩=>?_⟩;have N:=L.nS 0 n5 X J;refine⟨(),n5,(Mq r (mg l) Q J (by rw[Jb];omega)).I3 λh3 ⟨P,I⟩=>?_⟩;have G:=N.step (D:=ai 3 ⟨r.ptr,n4 (Lib.compact (mg l)),r.cap⟩ 1 ar (Lib.compact (mg l))) 0 n5 λq A E=>⟨I.mono λb _ m F=>m (A.2 b F),P,λb m=>⟨qS (E b (A.2 b m)) I.1,.inl (A.2 b m)⟩⟩
 rw[Rn l z]at G⊢;obtain⟨u,K⟩:=I5 (gq l)
 rw[<-K]at G⊢;have O:n4 u<=64:=by have:=qH (λi=>decide (i∈l)) ((qy 64).map λi:Nat=>(i:Int));rw[K];unfold gq;simpa using this
 refine⟨⟨r.ptr,n4 u,r.cap⟩,n5,?_⟩;refine aj (λt:Nat×Pow×aF=>(t.1:Int)) (λt h'=>t.1<=n4 u/\iO u w ds=iO (u.drop t.1) t.2.1 t.2.2/\aa B h0 h' (ai 3 ⟨r.ptr,n4 u,r.cap⟩ 1 ar u::aJ bN a pw mc offs da t.2.1 t.2.2::As)) (λt=>n4 u-t.1) (0,w,ds) n5 ⟨oo,n5,G⟩ ?_;rintro⟨i,j,f⟩ h4 ⟨hi,c,o⟩;dsimp only at*;refine ae (λe=>?_) (λe=>?_)
 .have p:i<n4 u:=n7
  obtain⟨ok,m⟩:=aa.cw o.rest;rw[qT p,mO]at c;refine(o.seq 0 n5 λ_=>rfl).aV i n5 p u[i] n5 (fv qa ?_);refine(jz u[i] ok m).mono ?_;rintro _ V ⟨rfl,rfl⟩;refine⟨_,n5,?_⟩;rcases gf ok u[i]with⟨c1,c2⟩|⟨n,d,b,c0,c1,c2,c3,c4,c5⟩
  .rw[c2];refine(Ml V).mono ?_;rintro _ Y ⟨rfl,rfl⟩;have y:fw j f u[i]=(5,j,f):=by unfold fw;rw[c1]
   rw[y]at c;refine⟨5,n5,bt (λ_=>?_) λe=>absurd e n8⟩;have:iO u w ds=(5,j,f):=c;rw[this];exact⟨n5,o.rest⟩
  .rw[c5];obtain⟨Z,g,R⟩:=Qw.aa.fq (o.aG 2 [1,0]) c2;rw[c4]at g;injection g with g
   injection g with g
   subst g;refine(UA R).I3 λY U=>?_;have M:=Qw.aa.kN (k:=bN) (n:=n) c4 U;have y:fw j f u[i]=((d.sync j).1,(d.sync j).2.1,f.set n (dB (d.sync j).2.2)):=by unfold fw;rw[c3];simp only[iD,c0,qi]
   rw[y]at c;refine⟨_,n5,bt (λe2=>?_) λe2=>?_⟩
   .have:iO u w ds=((d.sync j).1,(d.sync j).2.1,f.set n (dB (d.sync j).2.2)):=by rw[c];exact nq e2
    rw[this];exact⟨n5,M.nB⟩
   .refine⟨(i+1,(d.sync j).2.1,f.set n (dB (d.sync j).2.2)),oj,⟨n9,?_,M.aG 2 [1,0]⟩,n9⟩;rw[c];exact m6 e2
 .rw[zj n7]at c;rw[c];exact⟨n5,o.rest⟩
end
theorem HP.Av{h:m5}:∀{L:List HP} {q:au} {i:Nat} {A:HP},(HP.all L).p h q->L[i]?=dB A->A.p h q
 |A::L,q,0,A',⟨q1,q2,_,b,_,d,_⟩,hi=>by simp at hi;subst hi;exact A.mono d b
 |A::L,q,i+1,A',⟨q1,q2,_,_,c,_,e⟩,hi=>A'.mono (HP.Av e (by simpa using hi)) c
 |[],_,i,_,_,hi=>by simp at hi
variable {β:Type} {e e2:Nat} {ll:List (List α)}
section
variable {f:α->aS}
theorem aa.Mr(H:aa B h0 h (gA e s e2 k f ll::As))(j:∀x,n4 (f x)=k):∃rs,aa B h0 h (ci (iG k f) 1 bv s rs ll::As):=by
 obtain⟨rs,H⟩:=H.AV;obtain⟨H,b⟩:=H.Fv;refine⟨rs,H.dW 0 n5 λq d=>⟨?_,b,λi r l g a=>?_⟩⟩
 .have:=HP.Av (i:=0) d n5;exact this.1.seq (λ_=>rfl) this.2
 .have c:i<n4 ll:=(qn.1 a).1;have n:=eC (e:=e2) (k:=k) (f:=f) b i c;have:=HP.Av (i:=i+1) d D2;have m:rs[i]'n7=r:=by rw[qd n7]at g;simpa using g
  have e2:ll[i]=l:=by rw[qd c]at a;simpa using a
  rw[m,e2]at this;exact this.1.seq j this.2
end
def bj(m:aB)(a:aC):List (Int×aR):=a.flatMap λn=>(bG m).map λc=>(n,c)
theorem lY{m:aB}{a:aC}{x:Int×aR}(h:x∈bj m a):x.1∈a/\x.2.length=64:=by unfold bj at h;obtain⟨n,e,d⟩:=wZ.1 h;obtain⟨c,b,rfl⟩:=qI.1 d;exact⟨e,su b⟩
theorem jA(m:aB)(a:bM m):n4 (bG m)<=3000:=by have:=ub m a;unfold bG fg;simp;omega
abbrev Ms:bS C.toAg 137 142 2 [xH xN 0,xI eH 0 0] 32:=⟨_,_,n5,n5,n5,n5,n5,n5⟩
section
variable {pw:hU}
theorem Da(s:Sl)(u:List (Int×Sl))(P:List (Int×aR))(I:St B h0 As λh=>fO dR 2 piv h s u P)(hl:n4 P<=2^30)(G:∀x∈P,(0<=x.1/\x.1<64)/\x.2.length<=2^20)(H:aa B h0 h (aJ bN a pw mc offs da w ds::As)):
  ak xR 100 #[.func (.func 26) #[xJ (dB a)] #[],s] h λv h'=>v=xH xN (layAll P w ds).1/\aa B h0 h' (aJ bN a pw mc offs da (layAll P w ds).2.1 (layAll P w ds).2.2::As):=by
 refine ts Tryz.func100 ?_ (HF (HF (G0 (HF (G7 (G9 [(5,bK),(11,aI)] [(4,6),(7,9),(11,31)] (HF (HF (G0 (G7 (HF (G0 (Hf [] [(4,5),(8,9),(15,25)] (I1 [(8,aI)] [(8,9),(15,22)] G6)) G6))) G6)))))) G6))) [(5,(.l [0,1,2,4,5,3,6,7]))] (args:=[(.func (.func 26) #[xJ (dB a)] #[]),s]);have V:=(I.at [_] H).1.len;have ab:=(I.at [_] H).2.1;have H0:=(H.nil 3 1 ar).bc;refine aj (λt:Sl×Nat×Pow×aF=>(t.1,(t.2.1:Int))) (λt h'=>t.2.1<=n4 P/\fQ P w ds=fQ (P.drop t.2.1) t.2.2.1 t.2.2.2/\aa B h0 h' (ai 3 t.1 1 ar ((P.take t.2.1).map qA)::aJ bN a pw mc offs da t.2.2.1 t.2.2.2::As)) (λt=>n4 P-t.2.1) (⟨eH,0,0⟩,0,w,ds) n5 ⟨oo,n5,by simpa using H0⟩ ?_;rintro⟨o,i,z,r⟩ h1 ⟨hi,f,J⟩;dsimp only at*;refine ae (λe=>?_) (λe=>?_)
 .have q:i<n4 P:=n7
  rw[qT q,kV]at f;have S:=I.at [_,_] J;have N:=G _ (qe q);refine S.1.cG (g:=piv) i n5 n7 (u[i]'n7) n5 ?_;refine J.alloc ag n5 λa4 T A=>?_;have A:=A.bc;refine A.storeAll ag 0 n5 n5 (piv (u[i]'n7)) n5 n5 n5 n5 λh3 p=>?_;obtain⟨Q,O⟩:=Fix.row (I.at [_,_,_] p) q;have p:=p.aG 3 [2,0,1];obtain⟨ok,hb⟩:=aa.cw p;obtain⟨c,m⟩:=I5 (dV z r P[i].1 P[i].2)
  rw[<-m]at f;refine bs (λ_ h'=>c.1=0/\aa B h0 h' (aJ bN a pw mc offs da c.2.1 c.2.2::an a4 142 (piv (u[i]'n7))::ai 3 o 1 ar ((P.take i).map qA)::As)) ?_ ?_
  .refine bs (λe h'=>e=c.1/\aa B h0 h' (aJ bN a pw mc offs da c.2.1 c.2.2::an a4 142 (piv (u[i]'n7))::ai 3 o 1 ar ((P.take i).map qA)::As)) ?_ ?_
   .refine⟨P[i].1,by rw[<-Q];exact(p.box 1 n5).cell0 n5,(u[i]'n7).2,(p.box 1 n5).cell n5,fv qa ?_⟩;refine(jz P[i].1 ok hb).mono ?_;rintro _ L ⟨rfl,rfl⟩;refine⟨_,n5,⟨(p.box 1 n5).cell n5,I6⟩,?_⟩;rcases gf ok P[i].1 with⟨c1,c2⟩|⟨n,d,b,c0,c1,c2,c3,c4,c5⟩
    .rw[c2];refine(Ix (u[i]'n7).2 P[i].2 L O).mono ?_;rintro _ Z ⟨rfl,rfl⟩;have E:c=(if P[i].2.length≠64 then 1 else 5,z,r):=by rw[m];unfold dV;rw[c1]
     refine⟨_,n5,I6,by rw[E],?_⟩;rw[E];exact p
    .rw[c5];obtain⟨b',j,K⟩:=Qw.aa.fq p c2;rw[c4]at j;injection j with j
     injection j with j
     subst j;refine(Oh (u[i]'n7).2 P[i].2 K O N.2).I3 λh6 X=>?_;have H7:=Qw.aa.kN (k:=bN) (n:=n) c4 X;have E:c=((d.append z P[i].2).1,(d.append z P[i].2).2.1,r.set n (dB (d.append z P[i].2).2.2)):=by rw[m];unfold dV;rw[c3];simp only[iD,c0,qi]
     refine⟨_,n5,I6,by rw[E],?_⟩;rw[E];exact H7
   .rintro e4 L ⟨rfl,F⟩;refine bt (λe2=>?_) λe2=>⟨e2,F⟩
    rw[nq e2]at f;have:layAll P w ds=c:=by unfold layAll;rw[f];exact nq e2
    rw[this];exact⟨n5,F.nB.nB⟩
  .rintro _ L ⟨e2,F⟩;rw[m6 e2]at f;refine⟨P[i].1,by rw[<-Q];exact(F.box 1 n5).cell0 n5,?_⟩;refine F.push ag 2 n5 fu n5 n8 (λ_=>rfl) db P[i].1 n5 n8 oi λY Z K=>?_;refine⟨(Y,i+1,c.2.1,c.2.2),oj,⟨n9,f,?_⟩,n9⟩
   try dsimp only
   rw[az _ _ q,qF];exact K.aG 3 [2,0]
 .have M:i=n4 P:=n7
  subst M;rw[List.drop_length]at f;rw[qt]at J;have A:=(J.freeze 0 n5 λ_=>rfl).aG 2 [1,0];have D:layAll P w ds=iO (gq (P.map qA)) z r:=by unfold layAll;rw[f];rfl
  refine(RU o (P.map qA) (St.dU 0 n5 λh' W=>W) oi (λx R=>?_) A).mono ?_
  .obtain⟨y,U,rfl⟩:=qI.1 R;exact(G y U).1
  .rintro _ T ⟨rfl,p⟩;refine⟨_,n5,by rw[D],?_⟩;rw[D];exact p.nB
theorem EL(x:bi)(m:aB)(s:Sl)(a:aC)(h:m5)(X:ct h x m)(G:bM m)(R:Rd h s 1 ar a)(ab:n4 a<=2^10):
  ak xR 108 #[cL x,s] h λv h'=>∃(r:Sl) (ys:List (Int×Sl)),v=r/\Sp h h' [ci dR 2 piv r ys (bj m a)]:=by
 refine ts Tryz.func108 ?_ (HF (HF (HF (G0 (HF (G7 (G9 [(6,bK),(15,aI)] [(6,7),(8,9),(10,11),(15,33)] (HF (HF (G0 (G7 (HF (HF (G7 (G9 [(6,bK),(21,aI)] [(6,7),(10,11),(21,32)] G6))))) G6)))))) G6)))) (args:=[x,s]);refine(Sp.refl h).boxed λa1 S N=>?_;refine⟨x,(N.box 0 n5).aw _ n5,(mT x m S (X.up N.ac) G).I4 λr h2 R2=>?_⟩;have y:=N.bQ R2;refine⟨r,n5,?_⟩;obtain⟨rs,y⟩:=y.Mr λ_=>rfl;have P:=jA m G;obtain⟨d,E⟩:=I5 (bG m)
 rw[<-E]at y P;have W:=y.dg 0 n5;have ad:=W.1.len;have ah:=W.2.1;have al:=R.len;obtain⟨T,H⟩:∃T:Int->List ((Int×Sl)×(Int×aR)),T=λn=>(rs.zip d).map λz=>((n,z.1),(n,z.2)):=⟨_,rfl⟩
 have f:∀n,n4 (T n)=n4 d:=λn=>by rw[H];simp;omega
 have O:∀n,(T n).map zh=d.map λc=>(n,c):=λn=>by
  have G:=xg (l₁:=rs) (l₂:=d) n7
  conv=>rhs;rw[<-G]
  rw[H];simp[y0,Function.comp_def]
 have M:∀n j (L:j<n4 d),(T n)[j]'(by rw[f];exact L)=((n,rs[j]'n7),(n,d[j])):=λn j L=>by subst H;simp
 have g:=(y.nil 142 2 piv).bu [2,0];have F:∀i,i<=n4 a->n4 ((a.take i).flatMap T)<=i*3000:=λi=>by
  induction i with
  |zero=>simp
  |succ i ih=>
   intro U;rw[az _ _ (show i<n4 a by omega),za,qo];have S:=ih n7;have h2:n4 ([a[i]].flatMap T)=n4 d:=by rw[zm,zW,qL,f]
   omega
 refine aj (λt:Sl×Nat=>(t.1,(t.2:Int))) (λt h'=>t.2<=n4 a/\Sp h h' [ai 142 t.1 2 piv (((a.take t.2).flatMap T).map qA),ci (iG 1 aq) 1 bv r rs d]) (λt=>n4 a-t.2) (⟨eH,0,0⟩,0) n5 ⟨oo,g⟩ ?_;rintro⟨o,i⟩ h3 ⟨U,g⟩;dsimp only at*;refine ae (λe=>?_) (λe=>?_)
 .have D:i<n4 a:=n7
  have ht:=F i U;have hb:i*3000<=2^10*3000:=zi _ n7;refine(Seq.up R g.ac).aV i n5 D a[i] n5 ?_;refine aj (λt:Sl×Nat=>(t.1,(t.2:Int))) (λt h'=>t.2<=n4 d/\Sp h h' [ai 142 t.1 2 piv (((a.take i).flatMap T).map qA++((T a[i]).take t.2).map qA),ci (iG 1 aq) 1 bv r rs d]) (λt=>n4 d-t.2) (o,0) n5 ⟨oo,Cw⟩ ?_;rintro⟨u,j⟩ h4 ⟨L,p⟩;dsimp only at*;refine ae (λe2=>?_) (λe2=>?_)
  .have B:j<n4 d:=n7
   refine(p.dg 1 n5).1.kX j n5 n7 ?_;refine p.push ag 0 n5 Ms n5 n8 (λ_=>rfl) sY (a[i],rs[j]'n7) n5 n8 (by simp only[qo,qm,qw,f];omega) λu' h5 Y=>?_;refine⟨(u',j+1),oj,⟨n9,?_⟩,n9⟩
   try dsimp only
   rw[az (T a[i]) j (by rw[f];exact B),qF,M _ _ B,<-ql];exact Y
  .have J:j=n4 d:=n7
   subst J;rw[qf (l:=T a[i]) (by rw[f];exact qj _)]at p;refine⟨(u,i+1),oj,⟨n9,?_⟩,n9⟩
   try dsimp only
   rw[az _ _ D,za,qF,zm,zW,qL];exact p
 .have K:i=n4 a:=n7
  subst K;rw[qt]at g;refine⟨o,(a.flatMap T).map qA,n5,?_⟩;have p:=(g.freeze 0 n5 λ_=>rfl).kq;refine p.dW 0 n5 λq ⟨q1,q2,_,b,c,z1,Z⟩=>?_;have A:(a.flatMap T).map zh=bj m a:=by unfold bj;rw[List.map_flatMap,<-E];congr 1;funext n;exact O n
  rw[<-A];refine⟨Z.mono c,oo,λj r' l' w I=>?_⟩;rw[qM]at w I;cases g3:(a.flatMap T)[j]? with
  |none=>rw[g3]at w;cases w
  |some t=>
   rw[g3]at w I;simp at w I;subst w;subst I;obtain⟨n,_,V⟩:=wZ.1 (wh g3);rw[H]at V;obtain⟨z,Q,rfl⟩:=qI.1 V;obtain⟨k,hk,rfl⟩:=List.mem_iff_getElem.1 Q;rw[yk];exact⟨n5,(z1.2.2 k _ _ (qd _) (qd _)).mono b⟩
end
section
variable {d:List bw}
theorem RV{b c:List bw}{y:bw}(d:Sd cD (b++c))(f:∀z∈b,cD z y=eX)(g:∀z∈c,¬cD z y=eX):Sd cD (b++y::c):=
 Sd.app eu d.left (zt.2 ⟨λz a=>eu.Cq (g z a),d.right⟩) λx e z a=>by
  rcases qN.1 a with rfl|a
  .exact f x e
  .exact d.DS x e z a
theorem Aw(X M Y:List bw)(a b:Int)(ha:a=(n4 X:Int))(hb:b=(n4 X+n4 M:Nat))(ad:n4 X+n4 M+n4 Y<=2^40)(H:aa B h0 h (bU s (X++(M++Y))::As)):
  ak xR 311 #[s,xH xN a,xH xN b,.func (.func 171) #[] #[]] h λv h'=>v=.tuple #[]/\∃V,Sd cD V/\cC cD M V/\aa B h0 h' (bU s (X++(V++Y))::As):=by
 refine ts Tryz.func311 ?_ (HF (G7 (G9 [(8,aI)] [(8,10),(12,53)] (HF (G0 (G7 (HF (G7 (G9 [(9,aI)] [(9,10),(18,53)] (I1 [] [(18,35)] G6))))) G6))))) (args:=[s,(a:Int),(b:Int),(.func (.func 171) #[] #[])]);subst ha;subst hb;rw[af ((n4 X:Int)+1)];refine aj (λt:Nat×List bw=>((n4 X+1+t.1:Nat):Int)) (λt h'=>(t.1+1<=n4 M∨t.1=0)/\Sd cD t.2/\cC cD (M.take (t.1+1)) t.2/\t.2.length=n4 (M.take (t.1+1))/\aa B h0 h' (bU s (X++(t.2++(M.drop (t.1+1)++Y)))::As)) (λt=>n4 M-t.1) (0,M.take 1) n5 ?_ ?_
 .refine⟨.inr n5,?_,cC.refl _,n5,?_⟩
  .cases M with
   |nil=>exact List.Pairwise.nil
   |cons x M=>exact zt.2 ⟨λ_ h=>E9,oo⟩
  .rw[<-ql (M.take (0+1)),qz];exact H
 rintro⟨t,P⟩ h1 ⟨ht,E,A,W,O⟩;dsimp only at*;refine ae (λe=>?_) (λe=>?_)
 .have J:t+1<n4 M:=n7
  obtain⟨y,hy⟩:=I5 (M[t+1])
  have G:n4 P=t+1:=by rw[W];simp;omega
  have eD:M.drop (t+1)=y::M.drop (t+1+1):=by rw[qT J,hy]
  rw[eD]at O;refine aj (λu:List bw×List bw=>((n4 X+n4 u.1:Nat):Int)) (λu h'=>u.1++u.2=P/\(∀z∈u.2,¬cD z y=eX)/\aa B h0 h' (bU s (X++(u.1++(y::(u.2++(M.drop (t+1+1)++Y)))))::As)) (λu=>n4 u.1) (P,[]) (by dsimp only;rw[G];congr 1;omega) ⟨oo,oo,E2⟩ ?_;rintro⟨c,d⟩ h2 ⟨L,f,I⟩;dsimp only at*;have ab:n4 c+n4 d=t+1:=by rw[<-G,<-L,qo]
  have done:∀{h':m5},(∀z∈c,cD z y=eX)->aa B h0 h' (bU s (X++(c++(y::(d++(M.drop (t+1+1)++Y)))))::As)->
    ∃k:Nat×List bw,qc xN (((n4 X+1+t:Nat):Int)+1)=((n4 X+1+k.1:Nat):Int)/\((k.1+1<=n4 M∨k.1=0)/\Sd cD k.2/\cC cD (M.take (k.1+1)) k.2/\k.2.length=n4 (M.take (k.1+1))/\aa B h0 h' (bU s (X++(k.2++(M.drop (k.1+1)++Y)))::As))/\M.length-k.1<n4 M-t:=λ{h'} hle H'=>by
   refine⟨(t+1,c++y::d),by dsimp only;rw[af _];omega,⟨.inl n9,?_,?_,?_,?_⟩,n9⟩
   .exact RV D3 hle f
   .try dsimp only
    rw[az M (t+1) J,<-hy];have h1:cC cD (M.take (t+1)++[y]) (P++[y]):=A.app (cC.refl _);refine h1.trans ?_;rw[<-L,ql];have h2:cC cD (d++[y]) ([y]++d):=cC.TQ eu λx hx z R=>by rw[qB.1 R];exact f x hx
    exact(cC.refl _).app h2
   ·(try dsimp only);simp;omega
   .try dsimp only
    have:X++((c++y::d)++(M.drop (t+1+1)++Y))=X++(c++(y::(d++(M.drop (t+1+1)++Y)))):=oo
    rw[this];exact H'
  obtain⟨D,N⟩:=I5 (X++(c++(y::(d++(M.drop (t+1+1)++Y)))))
  refine bs (λ_ h'=>∃(Q:List bw) (z:bw),c=Q++[z]/\¬cD z y=eX/\aa B h0 h' (bU s D::As)) ?_ ?_
  .rw[<-N]at I done;refine ae (λe2=>?_) (λe2=>⟨I6,done (λz R=>?_) I⟩)
   .have K:c≠[]:=λh=>by rw[h]at e2;simp at e2
    obtain⟨Q,z,o⟩:∃(Q:List bw) (z:bw),c=Q++[z]:=⟨c.dropLast,c.getLast K,(List.dropLast_concat_getLast K).symm⟩
    have U:n4 c=n4 Q+1:=E5
    have g1:D[n4 X+n4 c]?=dB y:=by rw[N,qk n7,show X.length+n4 c-n4 X=n4 c by omega,qk n7,zd];rfl
    have g2:D[n4 X+n4 c-1]?=dB z:=by rw[N,qk n7,show X.length+n4 c-1-n4 X=n4 Q by omega,o,ql,qk (qj _),zd];rfl
    obtain⟨T,q⟩:=qn.1 g1;obtain⟨S,r⟩:=qn.1 g2;refine(I.seq 0 n5 λ_=>rfl).cG (g:=bB) _ n5 T y (by rw[q]) ?_;have ej:qc xN (((n4 X+n4 c:Nat):Int)-1)=((n4 X+n4 c-1:Nat):Int):=o9
    rw[ej];refine(I.seq 0 n5 λ_=>rfl).cG (g:=bB) _ n5 S z F9 (fv qa ?_);refine(oL y z h2).I3 λh3 R3=>?_;have F:=I.up R3.ac;refine⟨_,n5,I6,ae (λZ=>⟨Q,z,o,(pC y z).1 Z,F⟩) λZ=>done (λw l=>?_) F⟩;have m:cD z y=eX:=by
     by_cases hc:cD z y=eX
     .exact hc
     .exact absurd ((pC y z).2 hc) Z
    rw[o]at l;rcases qx.1 l with l|l
    .refine eu.trans _ _ _ ?_ m;have:Sd cD (Q++[z]):=by rw[<-o];exact Sd.left (v:=d) D3
     exact this.DS w l z oo
    .rw[qB.1 l];exact m
   .have:c=[]:=by
     cases c with
     |nil=>rfl
     |cons x P=>exfalso;simp only[q7]at e2;omega
    rw[this]at R;cases R
  .rintro _ h3 ⟨Q,z,o,m,F⟩;have U:n4 c=n4 Q+1:=E5
   have p:D=(X++Q)++z::([]++y::(d++(M.drop (t+1+1)++Y))):=by rw[N,o];simp
   obtain⟨q1,q2,q3,q4⟩:=Mn (X++Q) [] (d++(M.drop (t+1+1)++Y)) z y (i:=n4 X+n4 c-1) (j:=n4 X+n4 c) oi oi;rw[<-p]at q1 q2 q3 q4;obtain⟨S,r⟩:=qn.1 q1;obtain⟨T,q⟩:=qn.1 q2;have ej:qc xN (((n4 X+n4 c:Nat):Int)-1)=((n4 X+n4 c-1:Nat):Int):=o9
   rw[ej];refine(F.seq 0 n5 λ_=>rfl).cG (g:=bB) _ n5 S z F9 ?_;refine(F.seq 0 n5 λ_=>rfl).cG (g:=bB) _ n5 T y (by rw[q]) ?_;refine F.set ag 0 n5 (λ_=>rfl) n5 (n4 X+n4 c) n5 T z n5 n5 n5 λh4 H4=>⟨I6,?_⟩
   refine H4.set ag 0 n5 (λ_=>rfl) n5 (n4 X+n4 c-1) n5 D6 y n5 n5 n5 λh5 H5=>⟨I6,?_⟩
   refine⟨(Q,z::d),by dsimp only;congr 1;omega,⟨by dsimp only;rw[<-L,o];simp,?_,?_⟩,n9⟩
   .try dsimp only
    intro w l;rcases qN.1 l with rfl|l
    .exact m
    .exact f w l
   .try dsimp only
    have:X++(Q++(y::(z::d++(M.drop (t+1+1)++Y))))=(X++Q)++y::([]++z::(d++(M.drop (t+1+1)++Y))):=oo
    rw[this,<-q4];exact H5
 .refine⟨n5,P,E,?_,?_⟩
  .rw[qf n7]at A;exact A
  .rw[zj n7]at O;simpa using O
end
theorem Ek(x y:Nat)(h:x+y<=2^62:=by omega):qc xN (zo (qc xQ (qc xN ((x:Int)+(y:Int)))) (2^min (1:Int).toNat (qq xQ)))=(((x+y)/2:Nat):Int):=by
 rw[af ((x:Int)+y)];have e:qc xQ ((x:Int)+(y:Int))=(x:Int)+y:=by unfold qc;simp[qq,yA];omega
 rw[e,show min (1:Int).toNat (qq xQ)=1 from n5,Int.fdiv_eq_ediv_of_nonneg _ n8,af _];omega
section
variable {d:List bw}
theorem xS{x y:bw}(h:¬lJ x y<0):cD y x=eX:=by
 by_cases a:cD y x=eX
 .exact a
 .exact absurd ((pC x y).2 a) h
theorem kf{K:bw->Prop}(H:aa B h0 h (bU s d::As)){i:Int}(n:Nat)(f:i=n){x:bw}(b:d[n]?=dB x)(c:K x):
  ∃a:hU,(s.ptr=dB a/\0<=i/\i<((s.len:Nat):Int))/\∃x:bw,aZ h (a.add (i.toNat*8)) 0 (bB x)/\K x:=by
 obtain⟨e,j⟩:=qn.1 b;exact(H.seq 0 n5 λ_=>rfl).cG (g:=bB) n f e x (by rw[j]) c
theorem Iz(x:bw)(X R Y:List bw)(ad:n4 X+1+n4 R+n4 Y<=2^40)(y:Sd cD R)(H:aa B h0 h (bU s (X++(x::(R++Y)))::As)){K:vQ}
  (d:∀h',(∃M,Sd cD M/\cC cD (x::R) M/\aa B h0 h' (bU s (X++(M++Y))::As))->K (.tuple #[]) h') (a m b:Int) (ha:a=(n4 X:Int)) (hm:m=(n4 X+1:Nat)) (hb:b=(n4 X+1+n4 R:Nat)):
  fP (σ:=Int×Int) (λc K1 g=>
   Br (decide (c.1<c.2))
   ((0<=(1:Int))/\
   ∃a2:hU,(s.ptr=dB a2/\0<=(qc xN (zo (qc xQ (qc xN (c.1+c.2))) (2^min (1:Int).toNat (qq xQ))))/\(qc xN (zo (qc xQ (qc xN (c.1+c.2))) (2^min (1:Int).toNat (qq xQ))))<((s.len:Nat):Int))/\
   ∃x3:bw,aZ g (a2.add ((qc xN (zo (qc xQ (qc xN (c.1+c.2))) (2^min (1:Int).toNat (qq xQ)))).toNat*8)) 0 (bB x3)/\
   ∃a4:hU,(s.ptr=dB a4/\0<=a/\a<((s.len:Nat):Int))/\
   ∃x5:bw,aZ g (a4.add (a.toNat*8)) 0 (bB x5)/\
   vI C 171 ((#[]:Array Value).toList++[recv x3,recv x5]++(#[]:Array Value).toList) (.one (.sc (.int .i64))) g λr6 n=>
   (bx.ok [] n)/\
   Br (decide (r6<(0:Int)))
   (K1 (qc xN ((qc xN (zo (qc xQ (qc xN (c.1+c.2))) (2^min (1:Int).toNat (qq xQ))))+(1:Int)),c.2) n)
   (K1 (c.1,qc xN (zo (qc xQ (qc xN (c.1+c.2))) (2^min (1:Int).toNat (qq xQ)))) n))
   (fP (σ:=Int) (λf K2 h3=>
   Br (decide (f<(qc xN (c.1-(1:Int)))))
   (∃a8:hU,(s.ptr=dB a8/\0<=(qc xN (f+(1:Int)))/\(qc xN (f+(1:Int)))<((s.len:Nat):Int))/\
   ∃x9:bw,aZ h3 (a8.add ((qc xN (f+(1:Int))).toNat*8)) 0 (bB x9)/\
   ∃G:hU,(s.ptr=dB G/\0<=f/\f<((s.len:Nat):Int))/\
   ∃r:bw,aZ h3 (G.add (f.toNat*8)) 0 (bB r)/\
   ∃L:hU,(s.ptr=dB L/\0<=f/\f<((s.len:Nat):Int))/\
   av xR (qD 128 (xJ (dB (L.add (f.toNat*8)))) (recv x9)) h3 λ_ W=>
   (bx.ok [] W)/\
   ∃J:hU,(s.ptr=dB J/\0<=(qc xN (f+(1:Int)))/\(qc xN (f+(1:Int)))<((s.len:Nat):Int))/\
   av xR (qD 128 (xJ (dB (J.add ((qc xN (f+(1:Int))).toNat*8)))) (recv r)) W λ_ S=>
   (bx.ok [] S)/\
   K2 (qc xN (f+(1:Int))) S)
   (K (.tuple #[]) h3)) a g)) (m,b) h:=by
 subst ha;subst hm;subst hb;refine aj (λt:Nat×Nat=>(((n4 X+1+t.1:Nat):Int),((n4 X+1+t.2:Nat):Int))) (λt h'=>t.1<=t.2/\t.2<=n4 R/\(∀k (d:k<n4 R),k<t.1->¬cD x R[k]=eX)/\(∀k (d:k<n4 R),t.2<=k->cD x R[k]=eX)/\aa B h0 h' (bU s (X++(x::(R++Y)))::As)) (λt=>t.2-t.1) (0,n4 R) n5 ⟨oo,oo,λ_ _ h=>E9,λ_ g n=>absurd g D2,H⟩ ?_;rintro⟨i,j⟩ g ⟨ah,hj,q,A,N⟩;dsimp only at*;refine ae (λe=>?_) (λe=>?_)
 .have o:i<j:=n7
  rw[Ek _ _];have eh:((n4 X+1+i)+(n4 X+1+j))/2=n4 X+1+(i+j)/2:=n7
  rw[eh];have d:(i+j)/2<n4 R:=n7
  refine⟨n8,kf N _ n5 (x:=R[(i+j)/2]) ?_ (kf N X.length n5 (x:=x) ?_ (fv qa ?_))⟩
  .rw[qk n7,show X.length+1+(i+j)/2-n4 X=(i+j)/2+1 by omega,qU,qu d,qd d]
  .rw[qk (qj _),zd];rfl
  refine(oL R[(i+j)/2] x g).I3 λn R2=>?_;have H2:=N.up R2.ac;refine⟨_,n5,I6,ae (λe2=>?_) λe2=>?_⟩
  .have V:=(pC _ _).1 e2;refine⟨((i+j)/2+1,j),oj,⟨n9,hj,λk F Q=>?_,A,H2⟩,n9⟩;intro hc;exact V (eu.trans _ _ _ hc (y.at_ eu (i:=k) (j:=(i+j)/2) (by dsimp only at Q;omega) d))
  .refine⟨(i,(i+j)/2),n5,⟨n9,n9,q,λk F P=>?_,H2⟩,n9⟩;exact eu.trans _ _ _ (xS e2) (y.at_ eu (by dsimp only at P;omega) F)
 .have o:i=j:=n7
  subst o;have hM:Sd cD (R.take i++x::R.drop i):=by
   refine Sd.app eu (Sd.left (v:=R.drop i) (by rw[qz];exact y)) (zt.2 ⟨λz E=>?_,Sd.right (u:=R.take i) (by rw[qz];exact y)⟩) λz E w D=>?_
   .obtain⟨k,d,rfl⟩:=qE E;rw[zM];exact A _ _ n7
   .obtain⟨k,d,rfl⟩:=qE E;rw[zF];have Z:k<i:=sz
    have g:=eu.Cq (q k sz Z);rcases qN.1 D with rfl|D
    .exact g
    .obtain⟨l,hl,rfl⟩:=qE D;rw[zM];exact y.at_ eu n7 (by simp at hl;omega)
  have hE:cC cD (x::R) (R.take i++x::R.drop i):=by
   have g:cC cD ([x]++R.take i) (R.take i++[x]):=cC.TQ eu λz E w D=>by
    rw[qB.1 E];obtain⟨k,d,rfl⟩:=qE D;rw[zF];exact q k sz sz
   have n:=g.app (cC.refl (le:=cD) (R.drop i));have e1:([x]++R.take i)++R.drop i=x::R:=by rw[ql,qz];rfl
   have e2:(R.take i++[x])++R.drop i=R.take i++x::R.drop i:=oo
   rw[e1,e2]at n;exact n
  have el:qc xN (((n4 X+1+i:Nat):Int)-1)=((n4 X+i:Nat):Int):=o9
  rw[el];refine aj (λt:Nat=>((n4 X+t:Nat):Int)) (λt h'=>t<=i/\aa B h0 h' (bU s (X++(R.take t++(x::(R.drop t++Y))))::As)) (λt=>i-t) 0 n5 ⟨n7,by simpa using N⟩ ?_;rintro t h3 ⟨ht,O⟩;refine ae (λe2=>?_) (λe2=>?_)
  .have ab:t<i:=n7
   have I:t<n4 R:=n7
   have p:X++(R.take t++(x::(R.drop t++Y)))=(X++R.take t)++x::([]++R[t]::(R.drop (t+1)++Y)):=by rw[qT I];simp only[ql,zD,wX]
   obtain⟨U,T,q3,q4⟩:=Mn (X++R.take t) [] (R.drop (t+1)++Y) x R[t] (i:=n4 X+t) (j:=n4 X+t+1) oi oi;rw[<-p]at U T q3 q4;have ek:qc xN (((n4 X+t:Nat):Int)+1)=((n4 X+t+1:Nat):Int):=o9
   rw[ek];refine kf O _ n5 T (kf O _ n5 U ?_);refine O.set ag 0 n5 (λ_=>rfl) n5 (n4 X+t) n5 (qn.1 U).1 R[t] n5 n5 n5 λW H4=>⟨I6,?_⟩
   refine H4.set ag 0 n5 (λ_=>rfl) n5 (n4 X+t+1) n5 (by rw[qO];exact(qn.1 T).1) x n5 n5 n5 λS H5=>⟨I6,?_⟩
   refine⟨t+1,n5,⟨n7,?_⟩,n7⟩;have e3:X++(R.take (t+1)++(x::(R.drop (t+1)++Y)))=(X++R.take t)++R[t]::([]++x::(R.drop (t+1)++Y)):=by rw[az R t I];simp only[ql,zD,wX]
   rw[e3,<-q3];exact H5
  .have:t=i:=n7
   subst this;refine d h3 ⟨R.take t++x::R.drop t,hM,hE,?_⟩;have:X++((R.take t++x::R.drop t)++Y)=X++(R.take t++(x::(R.drop t++Y))):=oo
   rw[this];exact O
theorem GO(y:bw)(X L Y:List bw)(ap:n4 X+n4 L+1+n4 Y<=2^40)(N:Sd cD L)(H:aa B h0 h (bU s (X++(L++(y::Y)))::As)){K:vQ}
  (d:∀h',(∃M,Sd cD M/\cC cD (L++[y]) M/\aa B h0 h' (bU s (X++(M++Y))::As))->K (.tuple #[]) h') (a m:Int) (ha:a=(n4 X:Int)) (hm:m=(n4 X+n4 L:Nat)):
  fP (σ:=Int×Int) (λb K3 Z=>
   Br (decide (b.1<b.2))
   ((0<=(1:Int))/\
   ∃I:hU,(s.ptr=dB I/\0<=m/\m<((s.len:Nat):Int))/\
   ∃O:bw,aZ Z (I.add (m.toNat*8)) 0 (bB O)/\
   ∃D:hU,(s.ptr=dB D/\0<=(qc xN (zo (qc xQ (qc xN (b.1+b.2))) (2^min (1:Int).toNat (qq xQ))))/\(qc xN (zo (qc xQ (qc xN (b.1+b.2))) (2^min (1:Int).toNat (qq xQ))))<((s.len:Nat):Int))/\
   ∃r:bw,aZ Z (D.add ((qc xN (zo (qc xQ (qc xN (b.1+b.2))) (2^min (1:Int).toNat (qq xQ)))).toNat*8)) 0 (bB r)/\
   vI C 171 ((#[]:Array Value).toList++[recv O,recv r]++(#[]:Array Value).toList) (.one (.sc (.int .i64))) Z λah h7=>
   (bx.ok [] h7)/\
   Br (!(decide (ah<(0:Int))))
   (K3 (qc xN ((qc xN (zo (qc xQ (qc xN (b.1+b.2))) (2^min (1:Int).toNat (qq xQ))))+(1:Int)),b.2) h7)
   (K3 (b.1,qc xN (zo (qc xQ (qc xN (b.1+b.2))) (2^min (1:Int).toNat (qq xQ)))) h7))
   (fP (σ:=Int) (λc K4 h8=>
   Br (decide (c>b.1))
   (∃U:hU,(s.ptr=dB U/\0<=(qc xN (c-(1:Int)))/\(qc xN (c-(1:Int)))<((s.len:Nat):Int))/\
   ∃J:bw,aZ h8 (U.add ((qc xN (c-(1:Int))).toNat*8)) 0 (bB J)/\
   ∃T:hU,(s.ptr=dB T/\0<=c/\c<((s.len:Nat):Int))/\
   ∃G:bw,aZ h8 (T.add (c.toNat*8)) 0 (bB G)/\
   ∃a25:hU,(s.ptr=dB a25/\0<=c/\c<((s.len:Nat):Int))/\
   av xR (qD 128 (xJ (dB (a25.add (c.toNat*8)))) (recv J)) h8 λ_ h9=>
   (bx.ok [] h9)/\
   ∃q:hU,(s.ptr=dB q/\0<=(qc xN (c-(1:Int)))/\(qc xN (c-(1:Int)))<((s.len:Nat):Int))/\
   av xR (qD 128 (xJ (dB (q.add ((qc xN (c-(1:Int))).toNat*8)))) (recv G)) h9 λ_ R=>
   (bx.ok [] R)/\
   K4 (qc xN (c-(1:Int))) R)
   (K (.tuple #[]) h8)) m Z)) (a,m) h:=by
 subst ha;subst hm;refine aj (λt:Nat×Nat=>(((n4 X+t.1:Nat):Int),((n4 X+t.2:Nat):Int))) (λt h'=>t.1<=t.2/\t.2<=n4 L/\(∀k (d:k<n4 L),k<t.1->cD L[k] y=eX)/\(∀k (d:k<n4 L),t.2<=k->¬cD L[k] y=eX)/\aa B h0 h' (bU s (X++(L++(y::Y)))::As)) (λt=>t.2-t.1) (0,n4 L) n5 ⟨oo,oo,λ_ _ h=>E9,λ_ o S=>absurd o D6,H⟩ ?_;rintro⟨i,j⟩ o ⟨ax,hj,P,g,V⟩;dsimp only at*;refine ae (λe=>?_) (λe=>?_)
 .have f:i<j:=n7
  rw[Ek _ _];have eh:((n4 X+i)+(n4 X+j))/2=n4 X+(i+j)/2:=n7
  rw[eh];have d:(i+j)/2<n4 L:=n7
  refine⟨n8,kf V (n4 X+n4 L) n5 (x:=y) ?_ (kf V _ n5 (x:=L[(i+j)/2]) ?_ (fv qa ?_))⟩
  .rw[qk n7,show X.length+n4 L-n4 X=n4 L by omega,qk (qj _),zd];rfl
  .rw[qk n7,show X.length+(i+j)/2-n4 X=(i+j)/2 by omega,qu d,qd d]
  refine(oL y L[(i+j)/2] o).I3 λS R2=>?_;have H2:=V.up R2.ac;refine⟨_,n5,I6,?_⟩;by_cases e2:lJ y L[(i+j)/2]<0
  .have al:=(pC _ _).1 e2;refine aH (λQ=>absurd Q xx) λ_=>?_;refine⟨(i,(i+j)/2),n5,⟨n9,n9,P,λk F ab=>?_,H2⟩,n9⟩;intro hc;exact al (eu.trans _ _ _ (N.at_ eu (i:=(i+j)/2) (j:=k) (by dsimp only at ab;omega) F) hc)
  .refine aH (λ_=>?_) λQ=>absurd Q xx;refine⟨((i+j)/2+1,j),oj,⟨n9,hj,λk F ad=>?_,g,H2⟩,n9⟩;exact eu.trans _ _ _ (N.at_ eu (by dsimp only at ad;omega) d) (xS e2)
 .have f:i=j:=n7
  subst f;have hM:Sd cD (L.take i++y::L.drop i):=by
   refine Sd.app eu (Sd.left (v:=L.drop i) (by rw[qz];exact N)) (zt.2 ⟨λz E=>?_,Sd.right (u:=L.take i) (by rw[qz];exact N)⟩) λz E w A=>?_
   .obtain⟨k,d,rfl⟩:=qE E;rw[zM];exact eu.Cq (g _ sz n7)
   .obtain⟨k,d,rfl⟩:=qE E;rw[zF];have am:k<i:=sz
    have o:=P k sz am;rcases qN.1 A with rfl|A
    .exact o
    .obtain⟨l,hl,rfl⟩:=qE A;rw[zM];exact N.at_ eu n7 (by simp at hl;omega)
  have hE:cC cD (L++[y]) (L.take i++y::L.drop i):=by
   have o:cC cD (L.drop i++[y]) ([y]++L.drop i):=cC.TQ eu λz E w A=>by
    rw[qB.1 A];obtain⟨k,d,rfl⟩:=qE E;rw[zM];exact g _ sz n7
   have S:=(cC.refl (le:=cD) (L.take i)).app o;have e1:L.take i++(L.drop i++[y])=L++[y]:=by rw[<-ql,qz]
   rw[e1]at S;exact S
  refine aj (λt:Nat=>((n4 X+t:Nat):Int)) (λt h'=>i<=t/\t<=n4 L/\aa B h0 h' (bU s (X++(L.take t++(y::(L.drop t++Y))))::As)) (λt=>t-i) L.length n5 ⟨n7,n7,by simpa using V⟩ ?_;rintro t h3 ⟨ht,ao,W⟩;refine ae (λe2=>?_) (λe2=>?_)
  .obtain⟨u,rfl⟩:∃u,t=u+1:=⟨t-1,n7⟩
   have p:u<n4 L:=n7
   have n:X++(L.take (u+1)++(y::(L.drop (u+1)++Y)))=(X++L.take u)++L[u]::([]++y::(L.drop (u+1)++Y)):=by rw[az L u p];simp only[ql,zD,wX]
   obtain⟨q1,q2,q3,q4⟩:=Mn (X++L.take u) [] (L.drop (u+1)++Y) L[u] y (i:=n4 X+u) (j:=n4 X+(u+1)) oi oi;rw[<-n]at q1 q2 q3 q4;have ek:qc xN (((n4 X+(u+1):Nat):Int)-1)=((n4 X+u:Nat):Int):=o9
   rw[ek];refine kf W _ n5 q1 (kf W _ n5 q2 ?_);refine W.set ag 0 n5 (λ_=>rfl) n5 (n4 X+(u+1)) n5 (qn.1 q2).1 L[u] n5 n5 n5 λh4 H4=>⟨I6,?_⟩
   refine H4.set ag 0 n5 (λ_=>rfl) n5 (n4 X+u) n5 (by rw[qO];exact(qn.1 q1).1) y n5 n5 n5 λh5 H5=>⟨I6,?_⟩
   refine⟨u,n5,⟨n7,n7,?_⟩,n7⟩;have Q:X++(L.take u++(y::(L.drop u++Y)))=(X++L.take u)++y::([]++L[u]::(L.drop (u+1)++Y)):=by rw[qT p];simp only[ql,zD,wX]
   rw[Q,<-q4];exact H5
  .have:t=i:=n7
   subst this;refine d h3 ⟨L.take t++y::L.drop t,hM,hE,?_⟩;have:X++((L.take t++y::L.drop t)++Y)=X++(L.take t++(y::(L.drop t++Y))):=oo
   rw[this];exact W
end
theorem UK{L R:List bw}(k:Sd cD L)(l:Sd cD R)(p q:Nat)(s:p<=n4 L)(r:q<=n4 R)
  (n:∀i j (c:i<n4 L) (d:j<n4 R),i+1=p->j=q->cD L[i] R[j]=eX)
  (o:∀i j (c:i<n4 L) (d:j<n4 R),i=p->j+1=q->¬cD L[i] R[j]=eX):
  (∀x∈L.take p,∀y∈R.drop q,cD x y=eX)/\(∀x∈L.drop p,∀y∈R.take q,¬cD x y=eX):=by
 constructor
 .intro x e y f;obtain⟨i,c,rfl⟩:=qE e;obtain⟨j,d,rfl⟩:=qE f;rw[zF,zM];have b:i<p:=by simp at c;omega
  have a:q+j<n4 R:=sz
  have g:=k.at_ eu (i:=i) (j:=p-1) n7 n7;have m:=n (p-1) q n7 n7 n7 n5;have h3:=l.at_ eu (i:=q) (j:=q+j) n7 a;exact eu.trans _ _ _ g (eu.trans _ _ _ m h3)
 .intro x e y f h;obtain⟨i,c,rfl⟩:=qE e;obtain⟨j,d,rfl⟩:=qE f;rw[zF,zM]at h;have a:j<q:=sz
  have b:p+i<n4 L:=by simp at c;omega
  have g:=k.at_ eu (i:=p) (j:=p+i) n7 b;have h3:=l.at_ eu (i:=j) (j:=q-1) n7 n7;exact o p (q-1) n7 n7 n5 n7 (eu.trans _ _ _ g (eu.trans _ _ _ h h3))
theorem BO:∀(N:Nat) {B:au} {h0 h:m5} {As:List HP} {s:Sl} (X L R Y:List bw) (a m b:Int),0<n4 L->0<n4 R->n4 L+n4 R<=N->a=(n4 X:Int)->m=(n4 X+n4 L:Nat)->b=(n4 X+n4 L+n4 R:Nat)->n4 X+n4 L+n4 R+n4 Y<=2^40->Sd cD L->Sd cD R->
  aa B h0 h (bU s (X++(L++(R++Y)))::As)->
  ak xR 312 #[s,xH xN a,xH xN m,xH xN b,.func (.func 171) #[] #[]] h λv h'=>v=.tuple #[]/\∃M,Sd cD M/\cC cD (L++R) M/\aa B h0 h' (bU s (X++(M++Y))::As):=by
 intro N
 induction N with
 |zero=>intro B h0 h As s X L R Y a m b hL hR hN;omega
 |succ N ih=>
  intro B h0 h As s X L R Y a m b hL hR hN ha hm hb ad Z T H;refine ts Tryz.func312 ?_ (G0 (HF (G0 (HF (HF (G0 (G7 (G9 [(10,aI),(11,aI)] [(10,13),(31,54)] G6)) (I0 [(13,aI)] [(13,14),(55,77)])))) G6)) (G0 (HF (G0 (HF (HF (G0 (G7 (G9 [(14,aI),(15,aI)] [(14,17),(83,107)] G6)) (I0 [(17,aI)] [(17,18),(108,129)])))) G6)) (HF (HF (HF (I1 [(20,aI),(21,aI)] [(20,22),(138,147)] (HF (G0 (G7 (G9 [(20,aI),(21,aI)] [(20,22),(23,24),(149,175)] G6)) (HF (I1 [] [(178,192)] (I1 [] [(192,206)] G6))))))))))) (args:=[s,(a:Int),(m:Int),(b:Int),(.func (.func 171) #[] #[])]);have e1:qc xN (m-a)=(n4 L:Int):=o9
  have e2:qc xN (b-m)=(n4 R:Int):=o9
  rw[e1,e2];refine be (λc=>?_) λc=>be (λc2=>?_) λc2=>?_
  .obtain⟨x,hx⟩:∃x,L=[x]:=by
    match L,hL,c with
    |[x],_,_=>exact⟨x,n5⟩
    |x::y::L,_,c=>simp at c;omega
   subst hx;exact Iz (K:=λv h'=>v=.tuple #[]/\∃M,Sd cD M/\cC cD ([x]++R) M/\aa B h0 h' (bU s (X++(M++Y))::As)) x X R Y (by simp at ad⊢;omega) T H (λh' ⟨M,W,P,V⟩=>⟨n5,M,W,P,V⟩) a m b ha (by rw[hm];simp) (by rw[hb];simp)
  .obtain⟨y,hy⟩:∃y,R=[y]:=by
    match R,hR,c2 with
    |[x],_,_=>exact⟨x,n5⟩
    |x::y::L,_,c=>simp at c;omega
   subst hy;exact GO (K:=λv h'=>v=.tuple #[]/\∃M,Sd cD M/\cC cD (L++[y]) M/\aa B h0 h' (bU s (X++(M++Y))::As)) y X L Y (by simp at ad⊢;omega) Z H (λh' ⟨M,W,P,V⟩=>⟨n5,M,W,P,V⟩) a m ha hm
  .refine⟨n8,?_⟩;subst ha;subst hm;subst hb;have c':n4 L≠1:=λE=>c n7;have bl:n4 R≠1:=λE=>c2 n7;rw[Ek X.length (n4 X+n4 L+n4 R)];obtain⟨BI,U⟩:=I5 ((n4 X+(n4 X+n4 L+n4 R))/2)
   rw[<-U];have en:qc xN ((BI:Int)+((n4 X+n4 L:Nat):Int))=((BI+(n4 X+n4 L):Nat):Int):=o9
   rw[en];obtain⟨n,hn⟩:=I5 (BI+(n4 X+n4 L))
   rw[<-hn];have ep:qc xN ((n:Int)-1)=((n-1:Nat):Int):=o9
   rw[ep];obtain⟨D,hD⟩:=I5 (X++(L++(R++Y)))
   have gL:∀i (f:i<n4 L),D[n4 X+i]?=dB L[i]:=λi f=>by
    rw[hD,qk n7,wE,qu f,qd f]
   have gR:∀i (f:i<n4 R),D[n4 X+n4 L+i]?=dB R[i]:=λi f=>by
    rw[hD,qk n7,show X.length+n4 L+i-n4 X=n4 L+i by omega,qk n7,wE,qu f,qd f]
   rw[<-hD]at H;refine bs (λ(k:Int×Int) h'=>h'=h/\∃o f:Nat,k=((o:Int),(f:Int))/\o<=f/\X.length<=o/\f<=n4 X+n4 L/\f<=BI/\n<=o+(n4 X+n4 L+n4 R)/\(o=n4 X∨n=o+(n4 X+n4 L+n4 R))/\(f=n4 X+n4 L∨f=BI)) ?_ ?_
   .refine ae (λe=>⟨n5,n-(n4 X+n4 L+n4 R),BI,?_,n7,n7,n7,n7,n7,n7,n7⟩) λe=>⟨n5,n4 X,n4 X+n4 L,n5,n7,n7,n7,n7,n7,n7,n7⟩
    have:qc xN ((n:Int)-((n4 X+n4 L+n4 R:Nat):Int))=((n-(n4 X+n4 L+n4 R):Nat):Int):=o9
    rw[this]
   .rintro⟨bq,br⟩ _ ⟨rfl,o,f,a1,b1,b2,b3,b4,b5,b6,b7⟩;injection a1 with est1 est2
    subst est1;subst est2
    try dsimp only
    refine aj (λt:Nat×Nat=>((t.1:Int),(t.2:Int))) (λt h'=>o<=t.1/\t.1<=t.2/\t.2<=f/\
     (∀i j (l:i<n4 L) (Q:j<n4 R),n4 X+i+1=t.1->n4 X+i+(n4 X+n4 L+j)=n-1->o<t.1->cD L[i] R[j]=eX)/\
     (∀i j (l:i<n4 L) (Q:j<n4 R),n4 X+i=t.2->n4 X+i+(n4 X+n4 L+j)=n-1->t.2<f->¬cD L[i] R[j]=eX)/\
     aa B h0 h' (bU s D::As)) (λt=>t.2-t.1) (o,f) n5 ⟨oo,by simpa using b1,oo,λ_ _ _ _ _ _ A=>absurd A oo,λ_ _ _ _ _ _ A=>absurd A oo,H⟩ ?_
    rintro⟨k,r⟩ h1 ⟨t1,t2,t3,F1,F2,H1⟩;dsimp only at*;refine ae (λe=>?_) (λe=>?_)
    .have A:k<r:=n7
     rw[Ek _ _];obtain⟨G,am⟩:=I5 ((k+r)/2)
     rw[<-am];have a9:qc xN (((n-1:Nat):Int)-(G:Int))=((n-1-G:Nat):Int):=o9
     rw[a9];obtain⟨i,l⟩:∃i,G=n4 X+i:=⟨G-n4 X,n7⟩
     obtain⟨j,a7⟩:∃j,n-1-G=n4 X+n4 L+j:=⟨n-1-G-(n4 X+n4 L),n7⟩
     have a8:i<n4 L:=n7
     have ao:j<n4 R:=n7
     rw[a7,l];refine⟨n8,kf H1 _ n5 (gR j ao) (kf H1 _ n5 (gL i a8) (fv qa ?_))⟩;refine(oL R[j] L[i] h1).I3 λh2 R2=>?_;have I:=H1.up R2.ac;refine⟨_,n5,I6,?_⟩;by_cases e2:lJ R[j] L[i]<0
     .have bk:=(pC _ _).1 e2;refine aH (λe3=>absurd e3 xx) λ_=>?_;refine⟨(k,n4 X+i),n5,⟨t1,n9,n9,F1,λi2 j2 a6 a4 z F _=>?_,I⟩,n9⟩;dsimp only at z;have:i2=i:=n7
      subst this;have:j2=j:=n7
      subst this;exact bk
     .refine aH (λ_=>?_) λe3=>absurd e3 xx;refine⟨(n4 X+i+1,r),oj,⟨n9,n9,t3,λi2 j2 a6 a4 z F _=>?_,F2,I⟩,n9⟩;dsimp only at z;have:i2=i:=n7
      subst this;have:j2=j:=n7
      subst this;exact xS e2
    .have a0:k=r:=n7
     subst a0;have ap:qc xN ((n:Int)-(k:Int))=((n-k:Nat):Int):=o9
     rw[ap];obtain⟨p,hp⟩:∃p,k=n4 X+p:=⟨k-n4 X,n7⟩
     obtain⟨q,hq⟩:∃q,n-k=n4 X+n4 L+q:=⟨n-k-(n4 X+n4 L),n7⟩
     have ay:p<=n4 L:=n7
     have bd:q<=n4 R:=n7
     obtain⟨a5,a3⟩:=UK Z T p q ay bd (λi j l Q z F=>F1 i j l Q n7 n7 (by
      by_cases bb:o<k
      .exact bb
      .exfalso;have:k=o:=n7
       omega)) (λi j l Q z F=>F2 i j l Q n7 n7 (by
      by_cases ax:k<f
      .exact ax
      .exfalso;have:k=f:=n7
       omega))
     have eL:L.take p++L.drop p=L:=qz _ _;have eR:R.take q++R.drop q=R:=qz _ _;have l1:n4 (L.take p)=p:=oi
     have l2:n4 (L.drop p)=n4 L-p:=oo
     have r1:n4 (R.take q)=q:=oi
     have r2:n4 (R.drop q)=n4 R-q:=oo
     have ab:Sd cD (L.take p):=Sd.left (v:=L.drop p) (by rw[eL];exact Z);have S:Sd cD (L.drop p):=Sd.right (u:=L.take p) (by rw[eL];exact Z);have al:Sd cD (R.take q):=Sd.left (v:=R.drop q) (by rw[eR];exact T);have ah:Sd cD (R.drop q):=Sd.right (u:=R.take q) (by rw[eR];exact T);rw[hq,hp];refine bs (λ_ h'=>aa B h0 h' (bU s (X++(L.take p++(R.take q++(L.drop p++(R.drop q++Y)))))::As)) ?_ ?_
     .have w:aa B h0 h1 (bU s ((X++L.take p)++(L.drop p++(R.take q++(R.drop q++Y))))::As):=by
       have:(X++L.take p)++(L.drop p++(R.take q++(R.drop q++Y)))=D:=by
        rw[hD]
        conv=>rhs;rw[<-eL,<-eR]
        simp only[ql,zD,wX]
       rw[this];exact H1
      refine ae (λz=>ae (λF=>?_) λF=>?_) λz=>?_
      .refine(Om (X++L.take p) (L.drop p) (R.take q) (R.drop q++Y) _ _ _ n7 n7 oi oi oi oi w).I3 λh2 I=>⟨(),n5,?_⟩;rw[ql]at I;exact I
      .have:R.take q=[]:=qQ n7;rw[this]at w⊢;simpa using w
      .have:L.drop p=[]:=qQ n7;rw[this]at w⊢;simpa using w
     .rintro _ h2 I;refine bs (λ_ h'=>∃g,Sd cD g/\cC cD (L.take p++R.take q) g/\g.length=p+q/\aa B h0 h' (bU s (X++(g++(L.drop p++(R.drop q++Y))))::As)) ?_ ?_
      .have d:(L.take p=[]∨R.take q=[])->∃g,Sd cD g/\cC cD (L.take p++R.take q) g/\g.length=p+q/\aa B h0 h2 (bU s (X++(g++(L.drop p++(R.drop q++Y))))::As):=λJ=>by
        refine⟨L.take p++R.take q,?_,cC.refl _,oi,by rw[ql];exact I⟩;rcases J with E|E
        .rw[E];exact al
        .rw[E,qL];exact ab
       refine ae (λz=>ae (λF=>?_) λF=>d (.inr (qQ n7))) λz=>d (.inl (qQ n7));refine(ih X (L.take p) (R.take q) (L.drop p++(R.drop q++Y)) _ _ _ n7 n7 n7 n5 (by rw[l1]) (by rw[l1,r1];omega) oi ab al I).I3 λh3 ⟨g,W,P,V⟩=>⟨(),n5,g,W,P,?_,V⟩;have O:=sS eu P;rw[<-O];simp;omega
      .rintro _ h3 ⟨g,m1,m2,m3,H3⟩;have fin:∀{h':m5} {M2:List bw},Sd cD M2->cC cD (L.drop p++R.drop q) M2->aa B h0 h' (bU s (X++(g++(M2++Y)))::As)->(Value.tuple #[]=.tuple #[]/\∃M,Sd cD M/\cC cD (L++R) M/\aa B h0 h' (bU s (X++(M++Y))::As)):=λ{h' M2} k1 k2 k3=>by
        obtain⟨f1,f2⟩:=TR eu (by rw[eL];exact Z) (by rw[eR];exact T) a5 a3 m2 m1 k2 k1;rw[eL,eR]at f2;exact⟨n5,g++M2,f1,f2,by rw[ql];exact k3⟩
       have d:(L.drop p=[]∨R.drop q=[])->(Value.tuple #[]=.tuple #[]/\∃M,Sd cD M/\cC cD (L++R) M/\aa B h0 h3 (bU s (X++(M++Y))::As)):=λJ=>by
        refine fin (M2:=L.drop p++R.drop q) ?_ (cC.refl _) (by rw[ql];exact H3);rcases J with E|E
        .rw[E];exact ah
        .rw[E,qL];exact S
       refine ae (λz=>ae (λF=>?_) λF=>d (.inr (qQ n7))) λz=>d (.inl (qQ n7));have a2:aa B h0 h3 (bU s ((X++g)++(L.drop p++(R.drop q++Y)))::As):=by rw[ql];exact H3
       refine(ih (X++g) (L.drop p) (R.drop q) Y _ _ _ n7 n7 n7 oi oi oi oi S ah a2).I3 λh4 ⟨M2,k1,k2,k3⟩=>⟨(),n5,fin k1 k2 (by rw[ql]at k3;exact k3)⟩
def Bs(k:Nat)(l:List bw):Prop:=∀q,Sd cD ((l.drop (q*k)).take k)
theorem Bs.nil(k:Nat):Bs k []:=λq=>by simp[Sd]
theorem Bs.first{k:Nat}{l:List bw}(h:Bs k l):Sd cD (l.take k):=by have:=h 0;simpa using this
theorem Bs.rest{k:Nat}{l:List bw}(h:Bs k l):Bs k (l.drop k):=λq=>by
 have:=h (q+1);rw[wm,show k+q*k=(q+1)*k by rw[zU,Nat.add_comm]];exact this
theorem Bs.snoc{k t:Nat}{l M:List bw}(h:Bs k l)(c:n4 l=t*k)(d:Sd cD M)(b:n4 M<=k):Bs k (l++M):=λq=>by
 rcases Nat.lt_trichotomy q t with hq|hq|hq
 .have a:(q+1)*k<=t*k:=zi _ hq;rw[zU]at a;rw[List.drop_append_of_le_length n7,List.take_append_of_le_length p6];exact h q
 .subst hq;rw[<-c,List.drop_left,qf b];exact d
 .have a:(t+1)*k<=q*k:=zi _ hq;rw[zU]at a;rw[zj (by rw[qo];omega)];simp[Sd]
theorem Bs.whole{k:Nat}{l:List bw}(h:Bs k l)(a:n4 l<=k):Sd cD l:=by have:=h.first;rw[qf a]at this;exact this
section
variable {d:List bw}
theorem On(d:List bw)(n:Int)(hn:n=n4 d)(hd:n4 d<=2^30)(H:aa B h0 h (bU s d::As)):
  ak xR 242 #[s,xH xN n,.func (.func 171) #[] #[]] h λv h'=>v=.tuple #[]/\aa B h0 h' (bU s (d.mergeSort cD)::As):=by
 subst hn;refine ts Tryz.func242 ?_ (HF (HF (G0 (G7 (G9 [(7,aI),(8,aI)] [(7,9),(11,23)] G6)) (HF (G7 (G9 [(6,aI)] [(6,10),(28,63)] (HF (G7 (HF (G0 (G7 (G9 [(7,aI),(8,aI)] [(7,9),(33,49)] G6)) G6)))))))))) (args:=[s,(n4 d:Int),(.func (.func 171) #[] #[])]);refine aj (λP:List bw=>((n4 P:Int),((n4 P+20:Nat):Int))) (λP h'=>n4 P<=n4 d/\(∃t,n4 P=t*20)/\Bs 20 P/\cC cD (d.take P.length) P/\aa B h0 h' (bU s (P++d.drop P.length)::As)) (λP=>n4 d-n4 P) [] n5 ⟨oo,⟨0,oo⟩,Bs.nil _,by simpa using cC.refl _,v8⟩ ?_;rintro P h1 ⟨hP,⟨t,J⟩,T,U,L⟩
 try dsimp only
 refine ae (λe=>?_) (λe=>?_)
 .have ab:n4 P+20<=n4 d:=n7
  have Y:(d.drop P.length).take 20++d.drop (n4 P+20)=d.drop P.length:=by rw[<-wm];exact qz _ _
  have W:n4 ((d.drop P.length).take 20)=20:=oi
  rw[<-Y]at L;refine(Aw P ((d.drop P.length).take 20) (d.drop (n4 P+20)) _ _ n5 (by rw[W]) oi L).I3 λh2 ⟨o,p,b,H2⟩=>?_;have z:n4 o=20:=by rw[<-sS eu b,W]
  have g:n4 (P++o)=n4 P+20:=by rw[qo,z]
  refine⟨(),n5,P++o,?_,⟨n7,⟨t+1,by rw[g,J,zU]⟩,T.snoc J p n7,?_,?_⟩,n7⟩
  .rw[g,af _];congr 1
  .rw[g];have:d.take (n4 P+20)=d.take P.length++(d.drop P.length).take 20:=by rw[List.take_add]
   rw[this];exact U.app b
  .rw[g,ql];exact H2
 .have F:aa B h0 h1 (bU s (P++(d.drop P.length++[]))::As):=by rw[qL];exact L
  refine(Aw P (d.drop P.length) [] _ _ n5 p6 oi F).I3 λh3 ⟨o,p,b,V⟩=>?_;have z:n4 o=n4 d-n4 P:=by rw[<-sS eu b,qJ]
  have R:=T.snoc J p n7;have c:cC cD d (P++o):=by have:=U.app b;rw[qz]at this;exact this
  refine⟨(),n5,?_⟩;refine aj (λt:Nat×List bw=>(t.1:Int)) (λt h'=>0<t.1/\t.1<=2^32/\t.2.length=n4 d/\Bs t.1 t.2/\cC cD d t.2/\aa B h0 h' (bU s t.2::As)) (λt=>2^32-t.1) (20,P++o) n5 ⟨n9,n9,by dsimp only;rw[qo];omega,R,c,by rw[qL]at V;exact V⟩ ?_;rintro⟨k,l⟩ h4 ⟨ao,hk,hl,X,w,O⟩;dsimp only at*;refine ae (λe2=>?_) (λe2=>?_)
  .have ad:k<n4 d:=n7
   have N:qc xN ((2:Int)*k)=((2*k:Nat):Int):=o9
   have I:qc xN ((k:Int)*2)=((2*k:Nat):Int):=o9
   rw[N];have next:∀{h':m5} (q:List bw),n4 q=n4 d->Bs (2*k) q->cC cD l q->aa B h0 h' (bU s q::As)->∃f:Nat×List bw,qc xN ((k:Int)*2)=(f.1:Int)/\(0<f.1/\f.1<=2^32/\f.2.length=n4 d/\Bs f.1 f.2/\cC cD d f.2/\aa B h0 h' (bU s f.2::As))/\2^32-f.1<2^32-k:=λ{h'} q q1 q2 q3 q4=>
    ⟨(2*k,q),I,⟨n9,n9,q1,q2,w.trans q3,q4⟩,n9⟩
   refine aj (λt:List bw×List bw=>((n4 t.1:Int),((n4 t.1+2*k:Nat):Int))) (λt h'=>(∃u,n4 t.1=u*(2*k))/\t.1.length+n4 t.2=n4 d/\Bs (2*k) t.1/\Bs k t.2/\cC cD l (t.1++t.2)/\aa B h0 h' (bU s (t.1++t.2)::As)) (λt=>n4 t.2) ([],l) (by dsimp only;rw[wK,Nat.zero_add];rfl) ⟨⟨0,oo⟩,by simpa using hl,Bs.nil _,X,by simpa using cC.refl _,E2⟩ ?_;rintro⟨P,Q⟩ S ⟨⟨u,D⟩,am,j,a,c,E⟩;dsimp only at*;have G:qc xN ((n4 P:Int)+k)=((n4 P+k:Nat):Int):=o9
   rw[G];have eQ:Q.take k++Q.drop k=Q:=qz _ _;refine ae (λe3=>?_) (λe3=>ae (λe4=>?_) λe4=>?_)
   .have ah:2*k<=n4 Q:=n7
    have y:Q.take k++((Q.drop k).take k++Q.drop (2*k))=Q:=by
     have:Q.drop (2*k)=(Q.drop k).drop k:=by rw[wm];congr 1;omega
     rw[this,qz,eQ]
    have l1:n4 (Q.take k)=k:=oi
    have l2:n4 ((Q.drop k).take k)=k:=oi
    have m:aa B h0 S (bU s (P++(Q.take k++((Q.drop k).take k++Q.drop (2*k))))::As):=by rw[y];exact E
    refine(BO _ P (Q.take k) ((Q.drop k).take k) (Q.drop (2*k)) _ _ _ n7 n7 (qj _) n5 (by rw[l1]) (by rw[l1,l2];omega) oi a.first a.rest.first m).I3 λh6 ⟨M,p,b,A⟩=>?_;have x:n4 M=2*k:=by rw[<-sS eu b,qo,l1,l2];omega
    have i:n4 (P++M)=n4 P+2*k:=by rw[qo,x]
    refine⟨(),n5,(P++M,Q.drop (2*k)),?_,⟨⟨u+1,by dsimp only;rw[i,D];exact(zU u (2*k)).symm⟩,by dsimp only;rw[i,qJ];omega,j.snoc D p n7,?_,?_,?_⟩,by dsimp only;rw[qJ];omega⟩
    .try dsimp only
     rw[i,af _];congr 1
    .try dsimp only
     have:Q.drop (2*k)=(Q.drop k).drop k:=by rw[wm];congr 1;omega
     rw[this];exact a.rest.rest
    .try dsimp only
     refine c.trans ?_
     conv=>arg 2;rw[<-y]
     rw[ql];have:=(cC.refl P).app (b.app (cC.refl (Q.drop (2*k))));rw[ql]at this;exact this
    .try dsimp only
     rw[ql];exact A
   .have r:k<n4 Q:=n7
    have al:n4 Q<2*k:=n7
    have l1:n4 (Q.take k)=k:=oi
    have l2:n4 (Q.drop k)=n4 Q-k:=oo
    have K:Sd cD (Q.drop k):=by have:=a.rest.first;rw[qf n7]at this;exact this
    have m:aa B h0 S (bU s (P++(Q.take k++(Q.drop k++[])))::As):=by rw[qL,eQ];exact E
    refine(BO _ P (Q.take k) (Q.drop k) [] _ _ _ n7 n7 (qj _) n5 (by rw[l1]) (by rw[l1,l2];omega) oi a.first K m).I3 λh6 ⟨M,p,b,A⟩=>?_;have x:n4 M=n4 Q:=by rw[<-sS eu b,eQ]
    rw[eQ]at b;rw[qL]at A;exact⟨(),n5,next (P++M) (by rw[qo];omega) (j.snoc D p n7) (c.trans ((cC.refl _).app b)) A⟩
   .have r:n4 Q<=k:=n7
    exact next (P++Q) (by rw[qo];omega) (j.snoc D (a.whole r) n7) c E
  .have Z:=X.whole n7;rw[YS eu Z w]at O;exact⟨n5,O⟩
theorem GP(d:List bw)(b:n4 d<=2^30)(H:aa B h0 h (bU s d::As)):
  ak xR 170 #[s,.func (.func 171) #[] #[]] h λv h'=>v=.tuple #[]/\aa B h0 h' (bU s (d.mergeSort cD)::As):=by
 refine ts Tryz.func170 ?_ (args:=[s,(.func (.func 171) #[] #[])]);refine(On d _ (by rw[(H.own 0 n5).len]) b H).I3 λc a=>⟨(),n5,n5,a⟩
def jW:bw:=(0,0,0,0,0,0,0,⟨eH,0,0⟩)
end
def lm(l:List bw)(k:Nat):Bool:=decide (k=0)||decide (lJ (l.getD k jW) (l.getD (k-1) jW)≠0)
def ky(l:List bw)(k:Nat):List bw:=((qy k).filter (lm l)).map λi=>l.getD i jW
def UL(l:List bw):List bw:=ky l l.length
theorem mV(l:List bw)(k:Nat):ky l (k+1)=ky l k++if lm l k then[l.getD k jW]else[]:=by unfold ky;rw[zC,zg,qF,zx,wL];split<;>rfl
section
variable {d:List bw}
theorem GQ(a b:bw)(h:m5):ak xR 173 #[recv a,recv b] h λv h'=>v=xL (decide (lJ a b=0))/\Sp h h' []:=by refine ts Tryz.func173 ?_ (args:=[a,b]);refine(Sp.refl h).boxed λj g e=>e.boxed λi f c=>?_;refine⟨a,(c.box 0 n5).aw _ n5,b,(c.box 1 n5).aw _ n5,(oL a b f).I3 λh3 d=>?_⟩;refine⟨_,n5,?_,.zip (aa.up c d.ac).ac⟩;congr 1
theorem FN(l:List bw)(hd:n4 l<=2^30)(H:aa B h0 h (bU s l::As)):
  ak xR 172 #[s,.func (.func 173) #[] #[]] h λv h'=>∃r:Sl,v=r/\aa B h0 h' (bU r (UL l)::As):=by
 refine ts Tryz.func172 ?_ (HF (HF (G0 (HF (G7 (G9 [(5,aI)] [(4,8),(12,65)] (HF (G0 (G7 (HF (G0 (HF (I0 [(5,aI),(7,aI)] [(5,6),(7,8),(32,59)])) G6))) G6))))) G6))) (args:=[s,(.func (.func 173) #[] #[])]);have ab:=(H.own 0 n5).len;have A:=(H.own 0 n5).cap;have g:(∀j,j<n4 l->lm l j=eX)->UL l=l:=λu=>by
  have:∀k,k<=n4 l->ky l k=l.take k:=λk=>by
   induction k with
   |zero=>simp[ky]
   |succ k ih=>
    intro J;rw[mV,ih n7,m6 (u k n7),az l k,getD_lt (show k<n4 l by omega)]
  unfold UL;rw[this _ (qj _),qt]
 refine ae (λe=>⟨s,n5,?_⟩) (λe=>?_)
 .rw[g λj f=>by unfold lm;rw[n1 (show j=0 by omega)];rfl];exact H
 refine aj (λi:Nat=>(i:Int)) (λi h'=>1<=i/\i<=n4 l/\(∀j,j<i->lm l j=eX)/\aa B h0 h' (bU s l::As)) (λi=>n4 l-i) 1 n5 ⟨n7,n7,λj f=>by unfold lm;rw[n1 (show j=0 by omega)];rfl,H⟩ ?_;rintro i h1 ⟨ad,hi,u,G⟩;refine ae (λK=>?_) (λK=>?_)
 .have E:i<n4 l:=by have e':=K;omega
  have ei:qc xN ((i:Int)-1)=((i-1:Nat):Int):=o9
  rw[ei];refine kf G i n5 (x:=l.getD i jW) (by rw[getD_lt E,qd E]) (kf G (i-1) n5 (x:=l.getD (i-1) jW) (by rw[getD_lt (show i-1<n4 l by omega),qd]) (fv qa ?_));refine(GQ _ _ h1).I3 λh2 R2=>?_;have V:=G.up R2.ac;refine⟨_,n5,I6,aT (λe2=>?_) λe2=>?_⟩
  .have q:lm l i=eY:=by unfold lm;rw[n2 (show¬i=0 by omega)];simpa using e2
   have m:ky l i=l.take i:=by
    have:∀k,k<=i->ky l k=l.take k:=λk=>by
     induction k with
     |zero=>simp[ky]
     |succ k ih=>
      intro J;rw[mV,ih n7,m6 (u k n7),az l k,getD_lt (show k<n4 l by omega)]
    exact this i (qj _)
   refine⟨⟨n7,n7⟩,?_⟩;rw[qi];refine aj (λt:Nat×List bw=>((n4 (ky l (i+t.1)):Int),(t.1:Int))) (λt h'=>1<=t.1/\i+t.1<=n4 l/\t.2.length=n4 l/\(ky l (i+t.1)).length+1<=i+t.1/\t.2.take (ky l (i+t.1)).length=ky l (i+t.1)/\(∀j,i+t.1-1<=j->t.2[j]?=l[j]?)/\aa B h0 h' (bU s t.2::As)) (λt=>n4 l-t.1) (1,l) ?_ ⟨oo,n9,n5,?_,?_,λ_ _=>rfl,V⟩ ?_
   .try dsimp only
    rw[mV,q,m];simp;omega
   .try dsimp only
    rw[mV,q,m];simp;omega
   .try dsimp only
    rw[mV,q,m];simp
   rintro⟨k,D⟩ h3 ⟨ah,am,y,L,d,p,I⟩;dsimp only at*;obtain⟨c,N⟩:=I5 (n4 (ky l (i+k)))
   rw[<-N]at L d⊢;have al:=(I.own 0 n5).len;have F:=(I.seq 0 n5 λ_=>rfl).drop i A;refine ae (λe3=>?_) (λe3=>?_)
   .have T:i+k<n4 l:=n7
    have ek:qc xN ((k:Int)-1)=((k-1:Nat):Int):=o9
    rw[ek];have X:∀j,k-1<=j->(f:i+j<n4 l)->(D.drop i)[j]?=dB (l.getD (i+j) jW):=λj f z=>by
     rw[wJ,p _ n7,getD_lt z,qd z]
    have Z:=X k n7 T;have P:=X (k-1) n7 n7;obtain⟨W,Y⟩:=qn.1 Z;obtain⟨q1,q2⟩:=qn.1 P;refine Seq.cG F k n5 W (l.getD (i+k) jW) (by rw[Y]) ?_;refine Seq.cG F (k-1) n5 q1 (l.getD (i+(k-1)) jW) (by rw[q2]) (fv qa ?_);refine(GQ _ _ h3).I3 λh4 R4=>?_;have S:=I.up R4.ac;have o:lm l (i+k)=!decide (lJ (l.getD (i+k) jW) (l.getD (i+(k-1)) jW)=0):=by unfold lm;rw[n2 (show¬i+k=0 by omega),show i+k-1=i+(k-1)by omega];simp
    have b:=mV l (i+k);rw[o]at b;refine⟨_,n5,I6,aH (λQ=>?_) λQ=>?_⟩
    .rw[Q]at b;have a:n4 (ky l (i+(k+1)))=c+1:=by rw[<-w6,b];simp[N]
     have w:=(S.seq 0 n5 λ_=>rfl).drop i A;refine Seq.cG w k n5 W (l.getD (i+k) jW) (by rw[Y]) ?_;refine S.set ag 0 n5 (λ_=>rfl) n5 c n5 n7 (l.getD (i+k) jW) n5 n5 n5 λh5 H5=>?_;refine⟨(k+1,D.set c (l.getD (i+k) jW)),?_,⟨n9,n9,by dsimp only;rw[qO];exact y,by dsimp only;rw[a];omega,?_,λj f=>?_,H5⟩,n9⟩
     .try dsimp only
      rw[a,af _,af _];rfl
     .try dsimp only
      rw[a,az _ c D8,List.getElem_set_self,List.take_set_of_le (qj _),d,<-w6,b];simp
     .dsimp only at f⊢;rw[w4 n7];exact p j n7
    .rw[Q]at b;have a:n4 (ky l (i+(k+1)))=c:=by rw[<-w6,b];simp[N]
     refine⟨(k+1,D),?_,⟨n9,n9,y,by dsimp only;rw[a];omega,?_,λj f=>p j (by dsimp only at f;omega),S⟩,n9⟩
     .try dsimp only
      rw[a,af _];rfl
     .try dsimp only
      rw[a,d,<-w6,b];simp
   .have O:i+k=n4 l:=n7
    refine⟨⟨n7,n7⟩,?_⟩;rw[qi];refine I.nY ag 0 n5 Bj (λ_=>rfl) n5 n8 c n7 λh6 U=>⟨⟨n7,n7⟩,⟨s.ptr,c,s.cap⟩,n5,?_⟩
    rw[d,O]at U;exact U
  .refine⟨i+1,o0,⟨n7,n7,λj f=>?_,V⟩,n7⟩;by_cases M:j=i
   .subst M;unfold lm;rw[n1 (show lJ (l.getD j jW) (l.getD (j-1) jW)≠0 by simpa using e2)];simp
   .exact u j n7
 .have R:i=n4 l:=by have e':=K;omega
  subst R;rw[g u];exact⟨s,n5,G⟩
end
def fieldsOf(d:Option TypeDesc):List (Bool×TypeId×Nat):=match d with|some (.struct fs)=>fs.toList.map (λf=>(f.name== "_",f.type,f.offset))|_=>[]
theorem UM:fieldsOf (Tryz.prog.underlying 24)=[(eY,3,0),(eY,3,1),(eY,3,2)]:=o5
theorem Xy:Tryz.prog.stoodInHeld 24=eY:=o5
theorem Xz:Tryz.prog.eqGuardType Tryz.prog.depth 24=eY:=o5
theorem Mt{P:Program}{t:TypeId}{a b c:TypeId×Nat}(h:fieldsOf (P.underlying t)=[(eY,a.1,a.2),(eY,b.1,b.2),(eY,c.1,c.2)]):
  ∃f g e:Field,P.underlying t=dB (.struct #[f,g,e])/\(f.name≠ "_" /\f.type=a.1/\f.offset=a.2)/\(g.name≠ "_" /\g.type=b.1/\g.offset=b.2)/\(e.name≠ "_" /\e.type=c.1/\e.offset=c.2):=by
 cases hu:P.underlying t with
 |none=>rw[hu]at h;cases h
 |some d=>
  rw[hu]at h;cases d with
  |struct fs=>
   simp only[fieldsOf]at h;obtain⟨l⟩:=fs;have i:n4 l=3:=by simpa using congrArg xp h
   obtain⟨f,r,rfl⟩:=yq i;obtain⟨g,j,rfl⟩:=yq (by simpa using i:n4 r=1+1);obtain⟨e,k,rfl⟩:=yq (by simpa using i:n4 j=0+1);obtain rfl:k=[]:=by simpa using i
   simp at h;exact⟨f,g,e,n5,⟨h.1.1,h.1.2.1,h.1.2.2⟩,⟨h.2.1.1,h.2.1.2.1,h.2.1.2.2⟩,⟨h.2.2.1,h.2.2.2.1,h.2.2.2.2⟩⟩
  |_=>cases h
theorem js{P:Program}{d:Nat}{t:TypeId}{k:IntKind}(h:∃c,P.underlying t=dB (.int c))(a b:Int):aL P (Op.equalIn (d+1) t (.int k a) (.int k b)) (a==b):=by obtain⟨c,h⟩:=h;unfold Op.equalIn;refine(aK h).bind ?_;simp only[if_true];exact .pure
theorem lZ{P:Program}{t:TypeId}{k:IntKind}(h:P.underlying t=dB (.int k)){a:Array Value}{i:Nat}{v:Value}(b:a[i]?=dB v):aL P (part t a i) v:=by unfold part isAgg;refine aL.bind (v:=eY) ((aK h).bind .pure) ?_;simp only[zc,if_false,b];exact .pure
theorem acY(p q:Pm):aL xR (Op.equal 24 (xM #[xH xN p.1,xH xN p.2.1,xH xN p.2.2]) (xM #[xH xN q.1,xH xN q.2.1,xH xN q.2.2])) (decide (p=q)):=by
 obtain⟨f,g,u,G,⟨B,y,z⟩,⟨E,H,A⟩,⟨I,F,u3⟩⟩:=Mt (a:=(3,0)) (b:=(3,1)) (c:=(3,2)) UM;have D:∃k,Tryz.prog.underlying 3=dB (.int k):=⟨.i64,o5⟩
 obtain⟨k,d⟩:=D;unfold Op.equal;rw[show Op.maxDepth=9998+1+1 from n5,Op.equalIn];refine(aK G).bind ?_;refine aL.bind (v:=xR) (λw=>rfl) ?_;simp only[Xy,zc,if_false,List.forIn_toArray,List.forIn_cons,List.forIn_nil,ne_eq,B,E,I,not_false_eq_true,if_true,y,z,H,A,F,u3];obtain⟨a,b,c⟩:=p;obtain⟨h,i,j⟩:=q
 try dsimp only
 have n:aL xR (part 3 #[Value.int xN a,Value.int xN b,Value.int xN c] 0) _:=lZ d n5;have o:aL xR (part 3 #[Value.int xN h,Value.int xN i,Value.int xN j] 0) _:=lZ d n5;have s:aL xR (part 3 #[Value.int xN a,Value.int xN b,Value.int xN c] 1) _:=lZ d n5;have r:aL xR (part 3 #[Value.int xN h,Value.int xN i,Value.int xN j] 1) _:=lZ d n5;have x:aL xR (part 3 #[Value.int xN a,Value.int xN b,Value.int xN c] 2) _:=lZ d n5;have t:aL xR (part 3 #[Value.int xN h,Value.int xN i,Value.int xN j] 2) _:=lZ d n5;by_cases l:a=h
 .by_cases m:b=i
  .by_cases h3:c=j
   .have e:decide ((a,b,c)=(h,i,j))=eX:=by simp[l,m,h3]
    rw[e];refine aL.bind (v:=(eH,())) (aL.bind (v:=ForInStep.yield (eH,())) (n.bind (o.bind ((js ⟨k,d⟩ a h).bind ?_))) (aL.bind (v:=ForInStep.yield (eH,())) (s.bind (r.bind ((js ⟨k,d⟩ b i).bind ?_))) (aL.bind (v:=ForInStep.yield (eH,())) (x.bind (t.bind ((js ⟨k,d⟩ c j).bind ?_))) .pure))) .pure
    .simp only[l,beq_self_eq_true,yl,zc,if_false];exact .pure
    .simp only[m,beq_self_eq_true,yl,zc,if_false];exact .pure
    .simp only[h3,beq_self_eq_true,yl,zc,if_false];exact .pure
   .have e:decide ((a,b,c)=(h,i,j))=eY:=by simp[h3]
    rw[e];refine aL.bind (v:=(dB eY,())) (aL.bind (v:=ForInStep.yield (eH,())) (n.bind (o.bind ((js ⟨k,d⟩ a h).bind ?_))) (aL.bind (v:=ForInStep.yield (eH,())) (s.bind (r.bind ((js ⟨k,d⟩ b i).bind ?_))) (aL.bind (v:=ForInStep.done (dB eY,())) (x.bind (t.bind ((js ⟨k,d⟩ c j).bind ?_))) .pure))) .pure
    .simp only[l,beq_self_eq_true,yl,zc,if_false];exact .pure
    .simp only[m,beq_self_eq_true,yl,zc,if_false];exact .pure
    .rw[show(c==j)=eY by simpa using h3];simp only[wG,if_true];exact .pure
  .have e:decide ((a,b,c)=(h,i,j))=eY:=by simp[m]
   rw[e];refine aL.bind (v:=(dB eY,())) (aL.bind (v:=ForInStep.yield (eH,())) (n.bind (o.bind ((js ⟨k,d⟩ a h).bind ?_))) (aL.bind (v:=ForInStep.done (dB eY,())) (s.bind (r.bind ((js ⟨k,d⟩ b i).bind ?_))) .pure)) .pure
   .simp only[l,beq_self_eq_true,yl,zc,if_false];exact .pure
   .rw[show(b==i)=eY by simpa using m];simp only[wG,if_true];exact .pure
 .have e:decide ((a,b,c)=(h,i,j))=eY:=by simp[l]
  rw[e];refine aL.bind (v:=(dB eY,())) (aL.bind (v:=ForInStep.done (dB eY,())) (n.bind (o.bind ((js ⟨k,d⟩ a h).bind ?_))) .pure) .pure;rw[show(a==h)=eY by simpa using l];simp only[wG,if_true];exact .pure
theorem Mu(x y:Operand)(p q:Pm):kj xR .neq 24 x y (xM #[xH xN p.1,xH xN p.2.1,xH xN p.2.2]) (xM #[xH xN q.1,xH xN q.2.1,xH xN q.2.2]) (xL (!decide (p=q))):=by
 unfold kj eqGuard;refine aL.bind (v:=()) ?_ ?_
 .simp only[yl,zc,if_false];refine aL.bind (v:=xR) (λw=>rfl) ?_;refine aL.bind (v:=xR) (λw=>rfl) ?_;simp only[Xz,wG,if_true];exact .pure
 .exact(acY p q).bind .pure
def Mw(P:cT->Bool)(l:List cT)(i:Int):Prop:=(i=-1/\l.any P=eY)∨∃n:Nat,∃h:n<n4 l,i=n/\P l[n]=eX/\(l.take n).any P=eY
theorem Mx{P:cT->Bool}{l:List cT}{i:Int}(h:Mw P l i):decide (i>=0)=l.any P:=by
 rcases h with⟨rfl,h⟩|⟨n,hn,rfl,h,_⟩
 .rw[h];rfl
 .rw[zQ.2 ⟨_,qe hn,h⟩];exact n1 n7
theorem EM(f:FuncId)(pre post:Array Value)(P:Qw.cT->Bool)(l:Sl)(a:List Qw.cT)(h:m5)(s:C.fns[f]?=dB eX)(m:eN sX h l a)(A:n4 a<=2^30)
  (n:∀(u:dH) (E:Qw.cT) (h':m5),Sp h h' []->eN gH h' u E->E∈a->ak xR f (pre.toList++[Value.agg #[xK u.1,xH xN u.2.1,xH xN u.2.2.1,u.2.2.2]]++post.toList).toArray h' λv e=>v=xL (P E)/\Sp h' e []):
  ak xR 156 #[l,.func (.func f) pre post] h λv h'=>(∃i:Int,v=xH xN i/\Mw P a i)/\Sp h h' []:=by
 refine gY l (f,pre,post) ?_;obtain⟨k,x,D,w⟩:=bZ.kQ m;have r:=bZ.len m;refine aj (λi:Nat=>(i:Int)) (λi h'=>i<=n4 a/\(a.take i).any P=eY/\Sp h h' []) (λi=>n4 a-i) 0 n5 ⟨n7,oo,Sp.refl h⟩ ?_;rintro i y ⟨B,b,d⟩;refine ae (λg=>?_) (λg=>?_)
 .have c:i<n4 a:=by have p:=g;omega
  have t:=gH.mono (gH.loc (w i n7 c) d.ac) λ_ o=>qS o d.ac.1;refine(Seq.up x d.ac).cG i n5 n7 (k[i]'n7) n5 (fv s ?_);refine(n (k[i]'n7) a[i] y d t (qe c)).I3 λz q=>?_;have j:=d.up q.ac;refine⟨_,n5,aT (λe2=>⟨⟨i,n5,.inr ⟨i,c,n5,e2,b⟩⟩,j⟩) λe2=>?_⟩;refine⟨i+1,o0,⟨n7,?_,j⟩,n7⟩;rw[az _ _ c,yb,b,List.any_cons,List.any_nil,e2];rfl
 .have p:=g;rw[qf n7]at b;exact⟨⟨-1,n5,.inl ⟨n5,b⟩⟩,d⟩
theorem IA(f:FuncId)(pre post:Array Value)(P:Qw.cT->Bool)(l:Sl)(a:List Qw.cT)(h:m5)(k:C.fns[f]?=dB eX)(d:eN sX h l a)(e:n4 a<=2^30)
  (c:∀(u:dH) (E:Qw.cT) (h':m5),Sp h h' []->eN gH h' u E->E∈a->ak xR f (pre.toList++[Value.agg #[xK u.1,xH xN u.2.1,xH xN u.2.2.1,u.2.2.2]]++post.toList).toArray h' λv b=>v=xL (P E)/\Sp h' b []):
  ak xR 134 #[l,.func (.func f) pre post] h λv h'=>v=xL (a.any P)/\Sp h h' []:=by
 refine ts Tryz.func134 ?_ (args:=[l,(.func (.func f) pre post)]);refine(EM f pre post P l a h k d e c).mono ?_;rintro _ m ⟨⟨i,rfl,g⟩,j⟩;exact⟨i,n5,by rw[Mx g],j⟩
theorem sG(o b t:Int)(h:m5):ak xR 90 #[xH xN o,xH xN b,xH xN t] h λv h'=>v=xH xP (fl o b t)/\h'=h:=by
 refine ts Tryz.func90 ?_;refine⟨?_,n5⟩;have:qc xP ((qc xP ((qc xP ((128:Int)*(qc xP o)))+(qc xP ((16:Int)*(qc xP b)))))+(qc xP t))=fl o b t:=by unfold fl qc;simp[qq,yA];omega
 rw[this]
theorem Oo(x:bi)(m:aB)(y:bw)(r:ck)(h:m5)(o:ct h x m)(hz:bM m)(N:eN cx h y r):
  ak xR 169 #[cL x,recv y] h λv h'=>v=xL (dF m r)/\Sp h h' []:=by
 refine ts Tryz.func169 ?_ (HF (I1 [] [(4,15)] G6)) (args:=[x,y]);refine(Sp.refl h).boxed λa1 h1 H1=>H1.boxed λk V l=>?_;obtain⟨⟨Z,e2,e3,t,U,e7,e8⟩,e6⟩:=id N;have G:=congrArg (·.1) o.p;have B:=congrArg (·.2.1) o.p;have s:=congrArg (·.2.2) o.p;have H:=congrArg (·.1) t;have w:=congrArg (·.2.1) t;have F:=congrArg (·.2.2) t;have Y:=hz.ob;refine aE ⟨y,(l.box 1 n5).aw _ n5,(EK y r V (cx.mono (cx.loc N l.ac) λ_ hb=>qS hb l.ac.1)).I3 λh3 S=>?_⟩;have e:=l.up S.ac;have K:=e.box 0 n5;have A:=e.box 1 n5;refine⟨_,n5,aH (λg=>⟨by unfold dF;rw[g];rfl,.zip e.ac⟩) λg=>?_⟩;obtain⟨_,g2,_⟩:=(jM r).1 g;refine⟨r.p,by rw[<-H,<-w,<-F];exact A.mj 3 n5 n5 n5,m.p,by rw[<-G,<-B,<-s];exact K.mj 2 n5 n5 n5,_,Mu _ _ r.p m.p,aH (λz=>⟨?_,.zip e.ac⟩) λz=>?_⟩
 .unfold dF;rw[g,z];rfl
 obtain⟨P,J⟩:∃P:Qw.cT->Bool,P=λx=>decide (x.object=r.object)&&(decide (r.block<(x.tries.length:Int))&&decide (r.seed=fl r.object r.block (x.tries.getD r.block.toNat 0))):=⟨_,rfl⟩
 have I:dF m r=m.objs.any P:=by unfold dF;rw[g,z,J];rfl
 refine⟨x.2.2.2.2.2.2.2,K.cell n5,?_⟩;refine(IA 241 #[] #[xJ (dB k)] P x.2.2.2.2.2.2.2 m.objs h3 qa (o.up e.ac).objs n7 λu E W X he _=>?_).mono ?_
 .obtain⟨⟨y1,R,y3⟩,Q⟩:=he;have T:=Seq.len Q;have j:=A.ac X.ac A.lt;refine ts Tryz.func241 ?_ (args:=[u,k]);refine(Sp.refl W).boxed λa5 b c=>?_;have O:=c.box 0 n5;have a:=j.ac c.ac j.lt;have q:hY b (a5.add 1)=dB (xH xN E.object):=by rw[<-R];exact O.cell n5
  have f:hY b (a5.add 3)=dB (xI u.2.2.2.ptr u.2.2.2.len u.2.2.2.cap):=O.cell n5;have i:hY b k=dB (xH xN r.object):=by rw[<-Z];exact a.cell0 n5
  have d:hY b (k.add 1)=dB (xH xN r.block):=by rw[<-e2];exact a.cell n5
  have L:hY b (k.add 6)=dB (xH xP r.seed):=by rw[<-U];exact a.cell n5
  rw[J];refine⟨E.object,q,r.object,i,be (λD=>?_) λD=>⟨⟨i,q,I6⟩,?_,.zip c.ac⟩⟩
  .refine⟨u.2.2.2,f,r.block,d,ae (λq2=>?_) λq2=>⟨⟨d,f,i,q,I6⟩,?_,.zip c.ac⟩⟩
   .have M:r.block.toNat<E.tries.length:=n7
    refine⟨r.seed,L,r.object,i,r.block,d,u.2.2.2,f,r.block,d,?_⟩;refine Seq.aV (Seq.up Q c.ac) r.block.toNat n7 M (E.tries.getD r.block.toNat 0) (by rw[getD_lt M];rfl) ?_;refine(sG _ _ _ b).I2 ⟨_,n5,⟨d,f,L,d,f,i,q,I6⟩,?_,.zip c.ac⟩
    try dsimp only
    rw[n1 D,n1 (show r.block<(E.tries.length:Int)by omega),z8,z8];congr 1
   .try dsimp only
    rw[n2 (show¬r.block<(E.tries.length:Int)by omega)];simp
  .try dsimp only
   rw[n2 D];rfl
 .rintro _ b ⟨rfl,R5⟩;exact⟨_,n5,by rw[I],.zip (aa.up e R5.ac).ac⟩
def fV(k:Nat)(f:α->aS):ja Sl (List α):=⟨λh q s l=>Seq h q s k f l/\s.len<=s.cap,λa c=>⟨a.1.ac c,a.2⟩,λa b=>⟨a.1.mono b,a.2⟩⟩
theorem aa.GR{B:au}{j h:m5}{As:List HP}{e a k:Nat}{s:Sl}{f:α->aS}{ll:List (List α)}(H:aa B j h (gA e s a k f ll::As))(n:∀x,n4 (f x)=k):∃rs,aa B j h (ci (fV k f) 1 bv s rs ll::As):=by
 obtain⟨rs,H⟩:=H.AV;obtain⟨H,c⟩:=H.Fv;refine⟨rs,H.dW 0 n5 λq g=>⟨?_,c,λi r l m b=>?_⟩⟩
 .have:=HP.Av (i:=0) g n5;exact this.1.seq (λ_=>rfl) this.2
 .have d:=(qn.1 b).1;have p:=eC (e:=a) (k:=k) (f:=f) c i d;have:=HP.Av (i:=i+1) g B3;have o:rs[i]'n7=r:=by rw[qd n7]at m;simpa using m
  have a:ll[i]=l:=by rw[qd d]at b;simpa using b
  rw[o,a]at this;exact⟨this.1.seq n this.2,this.1.cap⟩
def fB(T:List (bw×ck)):HP:=⟨λh q=>∀t∈T,cx.p h q t.1 t.2,λa d t b=>cx.loc (a t b) d,λa c t b=>cx.mono (a t b) c⟩
def Keyed(T:List (bw×ck)):Prop:=∀t∈T,t.1.1=t.2.object/\t.1.2.1=t.2.block/\t.1.2.2.1=t.2.id
def My(a b:bw×ck):Bool:=lP a.2 b.2
theorem XA{T:List (bw×ck)}(k:Keyed T):∀a∈T,∀b∈T,My a b=cD a.1 b.1:=λa f b h=>by
 obtain⟨g,e,a3⟩:=k a f;obtain⟨c,i,d⟩:=k b h;unfold My lP cD;rw[decide_eq_decide,Au,g,e,a3,c,i,d]
theorem RW{T:List (bw×ck)}(k:Keyed T):(T.mergeSort My).map qA=(T.map qA).mergeSort cD/\(T.mergeSort My).map zh=(T.map zh).mergeSort lP/\Keyed (T.mergeSort My):=
 ⟨vJ (XA k),vJ λa _ b _=>rfl,λt c=>k t (vH.1 c)⟩
def GS:bw×ck:=(jW,nz)
def Db(T:List (bw×ck)):List (bw×ck):=((qy T.length).filter (oy (T.map zh))).map λi=>T.getD i GS
theorem getD_map{α β:Type}(f:α->β)(l:List α)(i:Nat)(d:α):(l.map f).getD i (f d)=f (l.getD i d):=by rw[qg,qg,qM];cases l[i]?<;>rfl
theorem UN{T:List (bw×ck)}(k:Keyed T):(Db T).map qA=UL (T.map qA)/\(Db T).map zh=mZ (T.map zh)/\∀t∈Db T,t∈T:=by
 have m:∀i,i<n4 T->lm (T.map qA) i=oy (T.map zh) i:=λi a=>by
  unfold lm oy;have g:∀j,j<n4 T->(T.map qA).getD j jW=(T[j]?.getD GS).1/\(T.map zh).getD j nz=(T[j]?.getD GS).2:=λj p=>by
   rw[qg,qg,qM,qM,qd p];exact⟨n5,n5⟩
  by_cases h0:i=0
  .rw[n1 h0];rfl
  .rw[n2 h0,yn,yn,(g i a).1,(g i a).2,(g (i-1) n7).1,(g (i-1) n7).2];rw[qd a,qd (show i-1<n4 T by omega)];obtain⟨f,r,a3⟩:=k _ (qe a);obtain⟨e,l,q⟩:=k _ (qe (show i-1<n4 T by omega));unfold dJ;simp only[vt];have c:=UH T[i].1 (T[i-1]'n7).1;rw[f,r,a3,e,l,q]at c;by_cases b:lJ T[i].1 (T[i-1]'n7).1=0
   .rw[n2 λh=>h b,n1 (c.1 b)];rfl
   .rw[n1 b,n2 λo=>b (c.2 o)];rfl
 have n:=List.filter_congr λi a=>m i (qY.1 a);refine⟨?_,?_,λt d=>?_⟩
 .unfold Db UL ky;rw[qm,n,y0];congr 1;funext i;exact(getD_map qA T i GS).symm
 .unfold Db mZ;rw[qm,y0];congr 1;funext i;exact(getD_map zh T i GS).symm
 .unfold Db at d;obtain⟨i,a,rfl⟩:=qI.1 d;have:=qY.1 (qK.1 a).1;rw[getD_lt this];exact qe this
theorem Ki(a pw:hU)(d:bp)(s b:Sl)(x:bi)(m:aB)(h:m5)(F:bV h a 172 (fj pw d s b))(hl:dT h s 1 aq d.l)(ok:eZ d)(hx:ct h x m)(hz:bM m):
  ak xR 93 #[xJ (dB a),cL x] h λv h'=>∃(r:Sl) (T:List (bw×ck)),v=r/\T.map zh=gK m d.l/\Keyed T/\Sp h h' [bU r (T.map qA),fB T]:=by
 refine ts Tryz.func93 ?_ (HF (.scope 0 [(6,bK),(7,aI)] [(4,5),(6,10),(12,40)] [G6,G6,G6] [(.two G6 (.two G6 (.two (.join [(6,bK)] [(6,7),(8,10),(18,36)] G6) G6)))] [(1,[G6])])) (args:=[(dB a),x]);have ab:=ok.len;have X:=ok.room;refine(Sp.refl h).boxed λH h1 S=>?_;refine(FL s b (F.ac S.ac F.lt) (hl.up S.ac) ok).I4 λI h2 R2=>?_;have K:=S.bQ R2;obtain⟨rs,K⟩:=aa.GR K λ_=>rfl;refine⟨I,n5,?_⟩;have F2:=K.dg 0 n5;have ad:=F2.1.len;have ah:=F2.2.1;have A:Sp h h2 [bU ⟨eH,0,0⟩ [],fB [],ci (fV 1 aq) 1 bv I rs d.l,an H 27 (aD x)]:=
  ((K.comp (.one (aQ.refl _ _) λt f=>(by cases f))).nil 128 8 bB).bu [3,2,0,1]
 refine aj (λt:Sl×Nat×List (bw×ck)=>(t.1,(t.2.1:Int)-1)) (λt h'=>t.2.1<=n4 d.l/\t.2.2.length<=t.2.1/\Keyed t.2.2/\t.2.2.map zh=(d.l.take t.2.1).filterMap (gj m)/\Sp h h' [bU t.1 (t.2.2.map qA),fB t.2.2,ci (fV 1 aq) 1 bv I rs d.l,an H 27 (aD x)]) (λt=>n4 d.l-t.2.1) (⟨eH,0,0⟩,0,[]) n5 ⟨oo,oo,(λt f=>(by cases f)),oo,A⟩ ?_;rintro⟨o,i,T⟩ h3 ⟨hi,am,L,k,A⟩;dsimp only at*;have ei:qc xN ((i:Int)-1+1)=(i:Int):=o9
 rw[ei];refine ae (λe=>?_) (λe=>?_)
 .have N:i=n4 d.l:=n7
  subst N;rw[qt]at k;refine(GP (T.map qA) B6 A).I3 λh4 H4=>?_;obtain⟨s1,s2,s3⟩:=RW L;rw[<-s1]at H4;refine⟨(),n5,(FN _ (by rw[qm,List.length_mergeSort];omega) H4).I4 λr5 h5 Z=>?_⟩;obtain⟨c1,c2,c3⟩:=UN s3;rw[<-c1]at Z;refine⟨r5,n5,r5,Db (T.mergeSort My),n5,?_,λt f=>s3 t (c3 t f),?_⟩
  .have hr:gK m d.l=(Db (T.mergeSort My)).map zh:=by unfold gK;rw[<-k,c2,s2]
   exact hr.symm
  .exact(Z.dW 1 n5 λq z t f=>z t (vH.1 (c3 t f))).bu [0,1]
 .have B:i<n4 d.l:=n7
  have g:=Gv m d.l i B;have next:∀{h':m5} {E:Sl} {T':List (bw×ck)},n4 T'<=i+1->Keyed T'->T'.map zh=(d.l.take (i+1)).filterMap (gj m)->Sp h h' [bU E (T'.map qA),fB T',ci (fV 1 aq) 1 bv I rs d.l,an H 27 (aD x)]->
    ∃j:Sl×Nat×List (bw×ck),((⟨E.ptr,E.len,E.cap⟩:Sl),(i:Int))=(j.1,(j.2.1:Int)-1)/\(j.2.1<=n4 d.l/\j.2.2.length<=j.2.1/\Keyed j.2.2/\j.2.2.map zh=(d.l.take j.2.1).filterMap (gj m)/\Sp h h' [bU j.1 (j.2.2.map qA),fB j.2.2,ci (fV 1 aq) 1 bv I rs d.l,an H 27 (aD x)])/\d.l.length-j.2.1<n4 d.l-i:=λ{h' E T'} q1 q2 q3 q4=>
   ⟨(E,i+1,T'),by dsimp only;congr 1;omega,⟨n9,q1,q2,q3,q4⟩,n9⟩
  refine aE ?_;refine(A.dg 2 n5).1.kX i n5 n7 ?_;obtain⟨p,P⟩:=Fix.row (A.dg 2 rfl) B;obtain⟨c,hc⟩:=I5 (d.l[i])
  rw[<-hc]at p g;have al:n4 c=64:=by rw[hc];exact ok.cell _ (qe B)
  refine(Mo (rs[i]'n7) c h3 p n7 P).I4 λy h6 ⟨Q0,Q1⟩=>⟨(y,(dn c).isSome),n5,?_⟩
  try dsimp only
  cases htr:dn c with
  |none=>
   have J:gj m c=eH:=by unfold gj;rw[htr]
   rw[J,vK,qL]at g;have O:=A.up (Q0 htr).ac;refine O.alloc ag n5 λa9 h7 Y=>?_;refine Y.storeAll ag 4 n5 n5 (bB y) n5 n5 n5 n5 λh8 u=>aT (λe=>o1) λ_=>?_;exact next n7 L (by rw[k,g]) (u.bu [0,1,2,3])
  |some r=>
   have O:=A.bQ (Q1 r htr);refine O.alloc ag n5 λa9 h7 Y=>?_;refine Y.storeAll ag 5 n5 n5 (bB y) n5 n5 n5 n5 λh8 u=>aT (λ_=>?_) λe=>o1
   have U:=u.eAt 0 n5;have V:aZ h8 H 0 (aD x):=(u.box 4 n5).aw _ n5;have Q:aZ h8 a9 0 (bB y):=(u.box 5 n5).aw _ n5;have W:=Oo x m y r h8 (hx.up u.ac) hz U;refine⟨x,V,y,Q,W.mono ?_⟩;rintro _ h9 ⟨rfl,R9⟩;have M:=u.up R9.ac;refine⟨_,n5,aT (λe2=>?_) λe2=>?_⟩
   .have J:gj m c=dB r:=by unfold gj;rw[htr];exact m6 e2
    rw[J,Option.toList_some]at g;refine⟨y,(M.box 5 n5).aw _ n5,?_⟩;refine M.push ag 1 n5 Bj n5 n8 (λ_=>rfl) Qc y o5 n8 B6 λE ao G=>?_;have w:=(G.eAt 0 n5).1;have R:=G.merge 2 0 n8 n5 n5 (D:=fB (T++[(y,r)])) (λq1 q2 _ p1 p2 t f=>by
     rcases qx.1 f with f|f
     .exact cx.mono (p1 t f) λ_ F=>.inl F
     .rw[qB.1 f];exact cx.mono p2 λ_ F=>.inr F)
    refine next (T':=T++[(y,r)]) oi (λt f=>?_) (by rw[qF,k,g];rfl) ?_
    .rcases qx.1 f with f|f
     .exact L t f
     .rw[qB.1 f];exact⟨w.1,w.2.1,w.2.2.1⟩
    .rw[qF];exact R.bu [1,2,3,4]
   .have J:gj m c=eH:=by unfold gj;rw[htr];exact nq E7
    rw[J,vK,qL]at g;exact next n7 L (by rw[k,g]) (M.bu [1,2,3,4])
theorem ue(a pw:hU)(d:bp)(s b:Sl)(x:bi)(m:aB)(h:m5)(z:bV h a 172 (fj pw d s b))(o:dT h s 1 aq d.l)(ok:eZ d)(g:ct h x m)(w:bM m):
  ak xR 93 #[xJ (dB a),cL x] h λv h'=>∃(r:Sl) (n:List bw),v=r/\Sp h h' [ci cx 8 bB r n (gK m d.l)]:=by
 refine(Ki a pw d s b x m h z o ok g w).mono ?_;rintro _ h' ⟨r,T,rfl,i,_,H⟩;refine⟨r,T.map qA,n5,?_⟩;have p:=(H.freeze 0 n5 λ_=>rfl).kq;have u:aa _ _ _ (ci cx 8 bB r (T.map qA) (gK m d.l)::_):=p.dW 0 n5 λq ⟨E,D,_,b,c,y,k⟩=>by
  rw[<-i];refine⟨Seq.mono k c,oo,λj A B e f=>?_⟩;rw[qM]at e f;cases g3:T[j]? with
  |none=>rw[g3]at e;cases e
  |some t=>
   rw[g3]at e f;simp at e f;subst e;subst f;exact cx.mono (y t (wh g3)) b
 exact u.bu [0]
def bh(l:aC)(k:Nat):aC:=((qy k).map λi:Nat=>(i:Int)).filter λi=>decide (0<l.getD i.toNat 0)
def dI(l:aC):aC×Bool:=
 if l.all (dM · 0 512)then(bh l l.length,decide (n4 l<=64)&&decide (0<n4 (bh l l.length)))else([],eY)
theorem nE(l:aC)(k:Nat)(a:k<n4 l):bh l (k+1)=bh l k++if 0<l[k]then[(k:Int)]else[]:=by unfold bh;rw[zC,qF,zg];congr 1;simp only[List.map_cons,List.map_nil,zx,wL,qi,qg,qd a,vt];by_cases h:0<l[k]<;>simp[h]
theorem lp(l:aC)(k:Nat):n4 (bh l k)<=k:=by unfold bh;exact qV (qH _ _) oo
theorem Oq(s:Sl)(l:aC)(h:m5)(m:Rd h s 1 ar l)(E:n4 l<=2^20):
  ak xR 105 #[s] h λv h'=>∃r:Sl,v=.tuple #[r,xL (dI l).2]/\Sp h h' [ai 3 r 1 ar (dI l).1]:=by
 refine ts Tryz.func105 ?_ (HF (HF (G0 (HF (G7 (G9 [(4,bK),(9,aI)] [(2,7),(9,27)] (HF (HF (G0 (G7 (HF (I1 [] [(2,4),(14,20)] G6))) G6)))))) G6)));have u:=m.len;have A:=(Sp.refl h).nil 3 1 ar;refine aj (λt:Sl×Nat=>(t.1,(t.2:Int))) (λt h'=>t.2<=n4 l/\(l.take t.2).all (dM · 0 512)=eX/\Sp h h' [ai 3 t.1 1 ar (bh l t.2)]) (λt=>n4 l-t.2) (⟨eH,0,0⟩,0) n5 ⟨oo,oo,A⟩ ?_;rintro⟨o,i⟩ G ⟨F,c,f⟩;dsimp only at*;have d:∀(a:i<n4 l),dM l[i] 0 512=eY->dI l=([],eY):=λa g=>by
  unfold dI;rw[nq];intro p;have:=qP.1 p _ (qe a);rw[g]at this;cases this
 refine ae (λe=>?_) (λe=>?_)
 .have a:i<n4 l:=n7
  have x:=lp l i;refine(Seq.up m f.ac).aV i n5 a l[i] n5 ?_;refine aE (ae (λj=>?_) λj=>ae (λe2=>?_) λe2=>?_)
  .have g:=d a qb;rw[g];exact⟨⟨eH,0,0⟩,n5,(f.bu []).nil 3 1 ar⟩
  .have g:=d a qb;rw[g];exact⟨⟨eH,0,0⟩,n5,(f.bu []).nil 3 1 ar⟩
  .have b:(l.take (i+1)).all (dM · 0 512)=eX:=by rw[az l i a,wq,c,z8,List.all_cons,List.all_nil,Bool.and_true];unfold dM;simp;omega
   refine ae (λq=>?_) (λq=>?_)
   .refine f.push ag 0 n5 fu n5 n8 (λ_=>rfl) db (i:Int) n5 n8 n7 λz D w=>?_;refine⟨(z,i+1),oj,⟨n9,b,?_⟩,n9⟩
    try dsimp only
    rw[nE l i a,m6 n7];exact w
   .refine⟨(o,i+1),oj,⟨n9,b,?_⟩,n9⟩
    try dsimp only
    rw[nE l i a,nq n7,qL];exact f
 .have k:i=n4 l:=n7
  subst k;rw[qt]at c;have y:=(f.own 0 n5).len;have B:dI l=(bh l l.length,decide (n4 l<=64)&&decide (0<n4 (bh l l.length))):=by unfold dI;rw[m6 c]
  rw[B];refine ae (λj=>⟨o,?_,f⟩) (λj=>⟨o,?_,f⟩)
  .try dsimp only
   rw[n1 (show l.length<=64 by omega),z8];congr 4;refine congrArg Value.bool ?_;rw[decide_eq_decide];omega
  .try dsimp only
   rw[n2 (show¬n4 l<=64 by omega),Bool.false_and]
section
variable {pw:hU}
theorem eW(x:bi)(m:aB)(c:ct h x m)(f:bM m)(H:aa B h0 h (aJ bN a pw (aD x) offs da w ds::As)):
  ak xR 38 #[xJ (dB a)] h λv h'=>∃r:Sl,v=r/\Sp h h' [ai 3 r 1 ar (aY ds m.drives)]:=by
 refine ts Tryz.func38 ?_;obtain⟨ok,g⟩:=aa.cw H;have d:=f.dr;refine aT (λe=>o1) λ_=>⟨a,n5,x.2.2.2.2.2.2.1,g.cell n5,(GN _ m.drives c.drives n7 H).I4 λr i b=>?_⟩;exact⟨r,n5,r,n5,b⟩
theorem IB(x:bi)(m:aB)(g:ct h x m)(l:bM m)(H:aa B h0 h (aJ bN a pw (aD x) offs da w ds::As)):
  ak xR 25 #[xJ (dB a)] h λv h'=>∃y:bi,v=cL y/\Sp h h' [bn y m]:=by
 refine ts Tryz.func25 ?_;obtain⟨ok,f⟩:=aa.cw H;refine(Sp.refl h).alloc ag n5 λn k c=>?_;have b:=f.ac c.ac f.lt;refine aT (λe=>o1) λ_=>⟨a,n5,x,b.aw _ n5,(GK x m k (g.up c.ac) l).I4 λy o j=>?_⟩;have i:=c.comp j;refine⟨y,n5,?_⟩;refine i.store ag 0 n5 n5 0 (aD y) n5 n5 n5 pb λh3 d=>?_;exact⟨y,(d.box 0 n5).aw _ n5,y,n5,d.bu [1]⟩
end
def gN(w:Pow)(a:Int):Bool:=w.off||w.offs !=a
section
variable {pw:hU}
theorem aa.Qe(H:aa B h0 h (aJ bN a pw mc offs da w ds::As)):∃l,Eg w l/\bV h pw 107 (powC w l):=by obtain⟨ok,e⟩:=Qw.aa.jQ H;have b:=e.rest;obtain⟨l,c,d⟩:=aa.jE b;exact⟨l,c,d.box 0 n5⟩
theorem pE(H:aa B h0 h (aJ bN a pw mc offs da w ds::As)):
  ak xR 33 #[xJ (dB a)] h λv h'=>v=xL (gN w offs)/\h'=h:=by
 refine ts Tryz.func33 ?_ G6 [(1,(.l [0,1,2,3,4,5,6,7,8,9,10,11,12,13,15,16,17,18,14,19,20,21,22]))];obtain⟨ok,f⟩:=aa.cw H;obtain⟨l,i,g⟩:=aa.Qe H;have d:hY h (a.add 8)=dB (xJ (dB pw)):=f.cell (ud ok.l8);have c:hY h (a.add 9)=dB (xH xN offs):=f.cell (GM ok.l8);refine aT (λ_=>?_) (λe=>o1);refine⟨a,n5,dB pw,d,(sW l g).I2 ?_⟩;refine⟨_,n5,I6,aH (λe=>⟨I6,?_⟩) λe=>?_⟩
 .have b:w.off=eX:=p7
  exact⟨by unfold gN;rw[b];rfl,n5⟩
 .have b:w.off=eY:=p7
  refine⟨a,n5,dB pw,d,a,n5,offs,c,(CV l g).I2 ?_⟩;exact⟨_,n5,⟨c,I6⟩,by unfold gN;rw[b];rfl,n5⟩
theorem nF(H:aa B h0 h (aJ bN a pw mc offs da w ds::As)):
  ak xR 15 #[xJ (dB a)] h λv h'=>v=xJ (dB pw)/\h'=h:=by
 refine ts Tryz.func15 ?_;obtain⟨ok,b⟩:=aa.cw H;exact aT (λe=>o1) λ_=>⟨a,n5,dB pw,b.cell (ud ok.l8),n5,n5⟩
end
section
variable {k:Kit} {pw:hU}
theorem aa.abY(H:aa B h0 h As):∀n,aa B h0 h (qh n emp++As)
 |0=>H
 |n+1=>(((aa.abY H n).comp (.one (A:=emp) (aQ.refl _ _) I6)).bc:aa B h0 h (emp::(qh n emp++As)))
theorem aa.JA(h8:n4 mc=8)(H:aa B h0 h (an a k.tS (cZ mc pw offs (qh 64 eH))::eF k.tP pw w::As)):aa B h0 h (aJ k a pw mc offs (qh 64 eH) w (qh 64 eH)::As):=by
 have ok:gI mc (qh 64 eH) (qh 64 (eH:Option bp)):=⟨h8,oo,oo,λi=>by
  simp only[qg,wD];split<;>rfl⟩
 have g:jr k pw (qh 64 eH) (qh 64 (eH:Option bp))=qh 64 emp:=by simp[jr,abX]
 refine aa.mG ok ?_;rw[g];have f:=aa.abY H 64;refine f.pick (λi=>if i=0 then 64 else if i=1 then 65 else if i<66 then i-2 else i) (λx y b=>by(try dsimp only at b);split at b<;>split at b<;>(try split at b)<;>(try split at b)<;>(try split at b)<;>(try split at b)<;>omega) λi A d=>?_;rcases i with _|_|i
 .simpa using d
 .simpa using d
 .by_cases e:i<64
  .have c:(qh 64 emp++As)[i]?=dB A:=d;rw[qu p7]at c
   try dsimp only
   rw[nq n7,nq n7,m6 n7,qu oi];simpa using c
  .have c:(qh 64 emp++As)[i]?=dB A:=d;rw[qk oi]at c
   try dsimp only
   rw[nq n7,nq n7,nq n7,qk oi];simp only[List.length_replicate]at c⊢;obtain⟨j,rfl⟩:∃j,i=j+64:=⟨i-64,n7⟩
   have e2:j+64+1+1-64=j+1+1:=n7
   rw[e2];simpa using c
end
theorem UO(x:bi)(pw:hU)(a:Int):aL xR (Instr.build 105 #[(0,cL x),(1,xJ (dB pw)),(2,xH xN a)]) (xM (cZ (aD x) pw a (qh 64 eH)).toArray):=
 tv ag (i:=_) n5 n5 n5 (vs:=[(0,cL x),(1,xJ (dB pw)),(2,xH xN a)]) (cells:=(cZ (aD x) pw a (qh 64 eH)).toArray) o5
section
variable {k:Kit} {pw b:hU}
theorem JB(h8:n4 mc=8):(cZ mc pw offs da).set (10+n) (xJ (dB b))=cZ mc pw offs (da.set n (dB b)):=by unfold cZ;rw[qZ _ _ n7,h8,show 10+n-8=n+1+1 by omega,wY,wY,List.map_set]
theorem aa.Qf(ok:gI mc da ds)(D:n<64)(u:ds[n]?=dB eH)(H:aa B h0 h (an a k.tS (cZ mc pw offs (da.set n (dB b)))::eF k.tP pw w::(jr k pw da ds++(kb k.tD (k.f pw) b d::As)))):aa B h0 h (aJ k a pw mc offs (da.set n (dB b)) w (ds.set n (dB d))::As):=by
 have r:=ok.UJ D u;have s:=ok.la;have l:=ok.ls;have m:gI mc (da.set n (dB b)) (ds.set n (dB d)):=⟨ok.l8,by simp[s],by simp[l],λi=>by
  by_cases F:n=i
  .grind
  .have:=ok.same i
   grind⟩
 have q:=Mp (k:=k) (pw:=pw) ok;have t:(jr k pw da ds)[n]?=dB emp:=by simp only[jr,wQ,r,u];rfl
 have c:jr k pw (da.set n (dB b)) (ds.set n (dB d))=(jr k pw da ds).set n (kb k.tD (k.f pw) b d):=by
  apply zp;intro j;simp only[jr,qW,wQ,List.length_zipWith];by_cases g:n=j
  .subst g;rw[m6 n5,m6 n7,m6 n5,m6 n7,m6 n5,m6 n7];rfl
  .simp[g]
 refine aa.mG m ?_;rw[c];obtain⟨L,o⟩:=I5 (jr k pw da ds)
 rw[<-o]at H t q⊢;have v:=H.cons (n4 L+2) (A:=kb k.tD (k.f pw) b d) oo;have e:(an a k.tS (cZ mc pw offs (da.set n (dB b)))::eF k.tP pw w::(L++(kb k.tD (k.f pw) b d::As))).set (n4 L+2) emp=an a k.tS (cZ mc pw offs (da.set n (dB b)))::eF k.tP pw w::(L++(emp::As)):=oo
 rw[e]at v;have x:=v.aG 3 [0,2,1];have p:L.set n emp=L:=by
  obtain⟨I,y⟩:=qn.1 t
  conv=>lhs;rw[<-y]
  simp
 have G:aa B h0 h (kb k.tD (k.f pw) b d::eF k.tP pw w::an a k.tS (cZ mc pw offs (da.set n (dB b)))::(L.set n emp++(emp::As))):=by rw[p];exact x
 have E:=aa.Qd n n7 G;have z:=aa.closeAll (an a k.tS (cZ mc pw offs (da.set n (dB b)))::eF k.tP pw w::L.set n (kb k.tD (k.f pw) b d)) E;exact aa.Ak (L:=an a k.tS (cZ mc pw offs (da.set n (dB b)))::eF k.tP pw w::L.set n (kb k.tD (k.f pw) b d)) z.nB
end
def co(p:Pm)(a:Int)(l:aC):aB:=⟨1,0,p,a,bh l l.length,[]⟩
def fG(l:aC)(k:Nat):aF:=(qy 64).map λi:Nat=>if(i:Int)∈(bh l l.length).take k then dB (bp.new (l.getD i 0).toNat)else eH
def cV(p:Pm)(a:Int)(w:Pow)(l:aC):Int×Pow×aF:=
 if(dI l).2&&(bH p&&dM a 0 16)then
  if(bh l l.length).any λi=>decide (l.getD i.toNat 0<(n4 (bG (co p a l)):Int))then(7,w,[])
  else layAll (bj (co p a l) (bh l l.length)) w (fG l (bh l l.length).length)
 else(1,w,[])
theorem Dc(l:aC):fG l 0=qh 64 eH:=rfl
theorem xT(l:aC)(k:Nat):n4 (fG l k)=64:=rfl
theorem Dd(l:aC)(k n:Nat)(a:k<n4 (bh l l.length))(c:(bh l l.length)[k]=(n:Int))(b:n<64:=by omega):(fG l k).set n (dB (bp.new (l.getD n 0).toNat))=fG l (k+1):=by
 apply zp;intro j;unfold fG;rw[az _ _ a,qW,]
 grind
theorem oM(l:aC)(k:Nat)(x:Int):x∈bh l k↔∃n:Nat,n<k/\x=(n:Int)/\0<l.getD n 0:=by
 unfold bh;rw[qK,]
 grind
theorem xU(l:aC)(k i:Nat)(a:i<n4 (bh l k)):∃n:Nat,n<k/\(bh l k)[i]=(n:Int)/\0<l.getD n 0:=(oM l k _).1 (qe a)
def cN(p:Int×Int×Int):Nat:=(p.1*p.2.2).toNat
def sH(a:Nat)(b:aR)(i:Nat):aR:=(b.drop (i*a)).take a++(qh a 0).drop (b.drop (i*a)).length
theorem JC(a:Nat)(b:aR)(i:Nat):n4 (sH a b i)=a:=by unfold sH;grind
def splitB(p:Int×Int×Int)(b:aR):dP:=(qy (countP p b.length).toNat).map (sH (cN p) b)
def uQ(p:Int×Int×Int)(o b:Int)(n:Nat):Bool:=fy p (fl o b n) (fh p)
def lK(p:Int×Int×Int)(o b:Int):Option Nat:=(qy 16).find? (uQ p o b)
def cR(p:Int×Int×Int)(o:Int):Nat->Option (aC)
 |0=>dB []
 |n+1=>(cR p o n).bind λl=>(lK p o n).map λt=>l++[(t:Int)]
theorem kz{p:Int×Int×Int}{o:Int}:∀{n:Nat} {l:aC},cR p o n=dB l->n4 l=n
 |0,l,h=>by cases h;rfl
 |n+1,l,h=>by
  unfold cR at h;cases h1:cR p o n with
  |none=>grind
  |some k=>
   rw[h1]at h;cases h2:lK p o n with
   |none=>grind
   |some t=>
    rw[h2]at h;injection h with h
    rw[<-h,qo,kz h1];rfl
theorem De{p:Int×Int×Int}{o b:Int}{t:Nat}(h:lK p o b=dB t):t<16/\uQ p o b t=eX/\∀k,k<t->uQ p o b k=eY:=by
 obtain⟨d,us,vs,c,h3⟩:=List.find?_eq_some_iff_append.1 h;have f:=congrArg xp c;have g:t=n4 us:=by
  have:(qy 16)[n4 us]?=dB t:=o4
  grind
 refine⟨o4,d,λk e=>?_⟩;have a:k∈us:=by
  have:(qy 16)[k]?=us[k]?:=by rw[c,qu n7]
  grind
 grind
theorem Df{p:Int×Int×Int}{o:Int}:∀{n:Nat} {l:aC},cR p o n=dB l->∀i (b:i<n4 l),∃t:Nat,l[i]=(t)/\lK p o i=dB t
 |0,l,h=>by cases h;simp
 |n+1,l,h=>by
  unfold cR at h;cases h1:cR p o n with
  |none=>grind
  |some k=>
   rw[h1]at h;cases h2:lK p o n with
   |none=>grind
   |some t=>
    rw[h2]at h;injection h with h
    subst h;intro i b;have c:=kz h1;by_cases a:i<n4 k
    .rw[List.getElem_append_left a];exact Df h1 i a
    .have:i=n4 k:=o4
     grind
theorem Dg(p:Pm)(h:m5)(d:bH p=eX):ak xR 167 #[go p] h λv h'=>v=xH xN (cN p)/\Sp h h' []:=by
 have c:=(bI p).1 d;refine Ap p ?_;refine(Sp.refl h).boxed λf h3 a=>⟨p.1,(a.box 0 n5).cell0 n5,p.2.2,(a.box 0 n5).cell n5,?_,a.bu []⟩
 have e:p.1*p.2.2<=16*24:=we n7 n7 n7 n7;have b:0<=p.1*p.2.2:=vR n7 n7;rw[af _];unfold cN;congr 1;omega
theorem gZ{p:Pm}(c:bH p=eX):1<=cN p/\cN p<=384/\(cN p:Int)=p.1*p.2.2:=by have b:=(bI p).1 c;have d:p.1*p.2.2<=16*24:=we n7 n7 n7 n7;have a:0<p.1*p.2.2:=Int.mul_pos n7 n7;unfold cN;omega
theorem kg{p:Pm}(a:bH p=eX)(n:Nat):0<=countP p n/\countP p n<=n/\∀i:Nat,(i:Int)<countP p n->i*cN p<n:=by
 obtain⟨g,h,b⟩:=gZ a;unfold countP;rw[a,z8];by_cases h0:0<(n:Int)
 .rw[n1 h0,m6 n5,<-b];have e:((n:Int)-1)/(cN p:Int)<=n-1:=xf _ n7;have j:0<=((n:Int)-1)/(cN p:Int):=xr n7 n7;refine⟨n7,n7,λi c=>?_⟩;have h3:(i:Int)<=((n:Int)-1)/(cN p:Int):=n7
  have f:=(Int.le_ediv_iff_mul_le n7).1 h3;have d:((i*cN p:Nat):Int)=(i:Int)*(cN p:Int):=zR i (cN p);omega
 .rw[n2 h0,nq n8];exact⟨n7,n7,λi c=>n7⟩
theorem Ot(p:Pm)(s:Sl)(b:aR)(h:m5)(g:bH p=eX)(l:Rd h s 1 aq b)(u:s.len<=s.cap)(Q:n4 b<=2^30):ak xR 176 #[go p,s] h λv h'=>∃r:Sl,v=r/\Sp h h' [ce r (splitB p b)]:=by
 refine ts Tryz.func176 ?_ (HF (HF (I0 [(5,bK),(12,aI)] [(5,8),(12,31)]))) (args:=[p,s]);have c:=l.len;obtain⟨V,W,U⟩:=gZ g;obtain⟨P,S,c3⟩:=kg g b.length;refine(Sp.refl h).boxed λk K q=>?_;refine⟨p,(q.box 0 n5).aw _ n5,?_⟩;refine(sE p s.len K).I3 λN H=>?_;have x:=q.up H.ac;refine⟨_,n5,?_⟩;obtain⟨n,y⟩:∃n:Nat,n=(countP p b.length).toNat:=⟨_,rfl⟩
 have d:(countP p (s.len:Nat))=(n:Int):=by rw[c];omega
 rw[d];have E:n4 (splitB p b)=n:=by unfold splitB;rw[<-y];simp
 have a:=x.jm 41 5 1 aq;refine aj (λt:Sl×Nat=>(t.1,(t.2:Int))) (λt h'=>t.2<=n/\Sp h h' [ce t.1 ((splitB p b).take t.2),an k 24 [xH xN p.1,xH xN p.2.1,xH xN p.2.2]]) (λt=>n-t.2) (⟨eH,0,0⟩,0) n5 ⟨oo,a⟩ ?_;rintro⟨o,i⟩ h3 ⟨R,a⟩;dsimp only at*;refine ae (λe=>?_) (λe=>?_)
 .have D:i<n:=n7
  have A:=c3 i (by rw[<-c,d];omega);refine⟨p,(a.box 1 n5).aw _ n5,(Dg p h3 g).I3 λO F=>?_⟩;have B:=a.up F.ac;refine⟨_,n5,B.DV ag aq cK n8 (0:UInt8) n5 n5 (cN p) (cN p) n5 n5 (qj _) n7 λv J T Y f=>?_⟩;have f:=f.bc;refine⟨p,(f.box 2 n5).aw _ n5,(Dg p J g).I3 λX z=>?_⟩;have m:=f.up z.ac;refine⟨_,n5,?_⟩;have em:qc xN ((i:Int)*(cN p:Int))=((i*cN p:Nat):Int):=by rw[<-zR,af _]
  try dsimp only
  rw[em,qi];refine⟨⟨n7,n7⟩,?_⟩;have G:=(Seq.up l m.ac).drop (i*cN p) u;refine m.Cr ag 0 n5 cK (λ_=>rfl) (v:=⟨_,s.len-i*cN p,s.cap-i*cN p⟩) G cB λ_ M j=>?_;have j:Sp h M [ai 5 v 1 aq (sH (cN p) b i),ce o ((splitB p b).take i),an k 24 [xH xN p.1,xH xN p.2.1,xH xN p.2.2]]:=by simpa[sH]using j
  refine(j.aG 2 [1,0]).mh ag cI oi λI h8 L=>?_;refine⟨(I,i+1),oj,⟨n9,?_⟩,n9⟩
  try dsimp only
  rw[az _ _ (show i<n4 (splitB p b) by omega)];have w:(splitB p b)[i]'n7=sH (cN p) b i:=by simp[splitB]
  rw[w];exact L
 .rw[qf n7]at a;exact⟨o,n5,a.bu [0]⟩
theorem lQ(a b:UInt8):qc xO ((qG (qq xO) (a.toNat:Int)^^^qG (qq xO) (b.toNat:Int)).toNat:Nat)=((a^^^b).toNat:Int):=by
 have e:∀a:UInt8,qG (qq xO) (a.toNat:Int)=a.toBitVec:=λa=>by
  apply BitVec.eq_of_toNat_eq;have:=zP a;simp[qq]
 rw[e,e];have c:=(a.toBitVec^^^b.toBitVec).isLt;have:((a^^^b).toNat:Int)=((a.toBitVec^^^b.toBitVec).toNat:Int):=rfl;rw[this];show(((a.toBitVec^^^b.toBitVec).toNat:Nat):Int)%256=_;have:(a.toBitVec^^^b.toBitVec).toNat<256:=c;omega
def tri(a:UInt8):Nat->Int×Int×Int
 |0=>((a.toNat:Int),(3:Int),(0:Int))
 |1=>(((Gf.x2 a).toNat:Int),(1:Int),(a.toNat:Int))
 |_=>(((Gf.x2 (Gf.x2 a)).toNat:Int),(0:Int),((Gf.x3 a).toNat:Int))
theorem Ou(a:UInt8)(h:m5):ak xR 335 #[xH xO a.toNat,xH xO 3] h λv h'=>v=xH xO (Gf.x3 a).toNat/\h'=h:=by
 have e:∀n:Nat,n<256->
   ((qc xO ((qG (qq xO) (n:Int)&&&(qG (qq xO) (128:Int))).toNat:Nat)) !=(0:Int))=eX->qc xO ((qG (qq xO) (qc xO ((n:Int)*2^min (1:Int).toNat (qq xO)))^^^(qG (qq xO) (27:Int))).toNat:Nat)=((Gf.x2 (zI n)).toNat:Int):=o6
 have c:∀n:Nat,n<256->
   ((qc xO ((qG (qq xO) (n:Int)&&&(qG (qq xO) (128:Int))).toNat:Nat)) !=(0:Int))=eY->qc xO ((n:Int)*2^min (1:Int).toNat (qq xO))=((Gf.x2 (zI n)).toNat:Int):=o6
 refine ts Tryz.func335 ?_ (HF (.scope 0 [(0,(.sc (.int .u8))),(1,(.sc (.int .u8))),(5,(.sc (.int .u8)))] [(0,2),(4,26)] [G6] [(.two G6 (.two (.join [(5,(.sc (.int .u8)))] [(5,6),(10,16)] G6) (.two G6 (.two G6 (.two (.join [(0,(.sc (.int .u8)))] [(0,1),(21,24)] G6) G6)))))] []));refine aj (tri a) (λt h'=>h'=h/\t<=2) (λt=>2-t) 0 n5 ⟨n5,n7⟩ ?_;rintro t h' ⟨rfl,f⟩;rcases(show t=0∨t=1∨t=2 by omega)with rfl|rfl|rfl
 .rw[show tri a 0=((a.toNat:Int),(3:Int),(0:Int))from rfl]
  try dsimp only
  refine rV n8 (aE (Fi n8 ?_));refine⟨n8,aE ?_⟩;refine aT (λd=>?_) (λd=>?_)
  .rw[e _ (zP a) d,wN];refine⟨n8,1,?_,⟨n5,n8⟩,n8⟩;have:=lQ 0 a;simp only[wo]at this;exact yU n5 (yU n5 this)
  .rw[c _ (zP a) d,wN];refine⟨n8,1,?_,⟨n5,n8⟩,n8⟩;have:=lQ 0 a;simp only[wo]at this;exact yU n5 (yU n5 this)
 .rw[show tri a 1=(((Gf.x2 a).toNat:Int),(1:Int),(a.toNat:Int))from rfl]
  try dsimp only
  refine rV n8 (aE (Fi n8 ?_));refine⟨n8,aE ?_⟩;refine aT (λd=>?_) (λd=>?_)
  .rw[e _ (zP (Gf.x2 a)) d,wN];refine⟨n8,2,?_,⟨n5,n8⟩,n8⟩;refine yU n5 (yU n5 ?_);have:=lQ a (Gf.x2 a);rw[vO]at this;exact this
  .rw[c _ (zP (Gf.x2 a)) d,wN];refine⟨n8,2,?_,⟨n5,n8⟩,n8⟩;refine yU n5 (yU n5 ?_);have:=lQ a (Gf.x2 a);rw[vO]at this;exact this
 .exact Fi (b:=(0:Int)==0) n8 ⟨n5,n5⟩
def jt:aC:=(qy 255).map λi=>((Gf.pw i).toNat:Int)
def pF:aC:=(qy 256).map λx=>if x=0 then 0 else((Gf.lg (zI x):Nat):Int)
theorem hJ:n4 jt=255:=by simp[jt]
theorem uf:n4 pF=256:=by simp[pF]
def eP:aS:=jt.map (Sc.enc (.int .u8))++pF.map (Sc.enc (.int .i64))
abbrev ia(h:m5)(a:hU):Prop:=bV h a 316 eP
theorem IC(k:IntKind)(l:aC):(l.map (Sc.enc (.int k))).all (·.oneCell')=eX:=by rw[List.all_map,qP];intro x _;rfl
theorem Ov(h:m5):ak xR 281 #[] h λv h'=>v=xM (jt.map (Sc.enc (.int .u8))).toArray/\Sp h h' []:=by
 refine ts Tryz.func281 ?_ (HF (HF (I0 [(1,(.sc (.int .u8))),(3,aI)] [(1,12)])));refine(Sp.refl h).alloc ag n5 λa u p=>?_;refine aj (λi:Nat=>(((Gf.pw i).toNat:Int),(i:Int))) (λi h'=>i<=255/\Sp h h' [an a 311 (((qy 255).map λj=>if j<i then((Gf.pw j).toNat:Int)else 0).map (Sc.enc (.int .u8)))]) (λi=>255-i) 0 n5 ⟨n7,?_⟩ ?_
 .have e:((qy 255).map λj=>if j<0 then((Gf.pw j).toNat:Int)else 0).map (Sc.enc (.int .u8))=qh 255 (xH xO 0):=by simp;rfl
  rw[e];exact p
 .rintro i r ⟨t,f⟩;refine ae (λo=>?_) (λk=>?_)
  .dsimp only at o;refine⟨⟨n9,n9⟩,?_⟩
   try dsimp only
   rw[show((i:Int).toNat*1)=i by omega];refine f.storeAt ag 0 n5 n5 n5 n5 n5 oi λh3 g=>?_;refine(Ou (Gf.pw i) h3).I2 ⟨_,n5,i+1,?_,⟨n7,?_⟩,n7⟩
   .rw[af _];rfl
   .have e:((((qy 255).map λj=>if j<i then((Gf.pw j).toNat:Int)else 0).map (Sc.enc (.int .u8))).set i (xH xO (Gf.pw i).toNat))=(((qy 255).map λj=>if j<i+1 then((Gf.pw j).toNat:Int)else 0).map (Sc.enc (.int .u8))):=by
     apply zp;intro j;simp only[qW,qM,qm,zL];by_cases c:i=j
     .subst c;have:i<255:=n7
      simp[this]
     .by_cases d:j<255
      .simp only[c,if_false,zq d,zn];by_cases b:j<i
       .rw[m6 b,m6 n7]
       .rw[nq b,nq n7]
      .simp[c,d]
    rw[<-e];exact g
  .have l:i=255:=by dsimp only at k;omega
   subst l;have e:((qy 255).map λj=>if j<255 then((Gf.pw j).toNat:Int)else 0)=jt:=by unfold jt;apply List.map_congr_left;intro j c;rw[m6 (qY.1 c)]
   rw[e]at f;have q:=f.box 0 n5;refine⟨jt,⟨hJ,q.aw _ Bm⟩,?_⟩;refine f.storeAll ag 0 n5 n5 (jt.map (Sc.enc (.int .u8))) n5 (by rw[qm,hJ]) (IC _ _) n5 λh3 g=>?_;have m:=g.box 0 n5;exact⟨jt,⟨hJ,m.aw _ Bm⟩,n5,.zip g.ac⟩
theorem UP(h:m5):ak xR 282 #[xM (jt.map (Sc.enc (.int .u8))).toArray] h λv h'=>v=xM (pF.map (Sc.enc (.int .i64))).toArray/\Sp h h' []:=by
 refine ts Tryz.func282 ?_ (HF (I0 [(6,aI)] [(3,5),(6,14)])) (args:=[(xM (jt.map (Sc.enc (.int .u8))).toArray)]);refine(Sp.refl h).boxed λa F y=>?_;refine y.alloc ag n5 λz B q=>?_;have p:=q.box 0 n5;refine⟨jt,⟨hJ,p.aw _ (by show List.take _ (jt.map _)=_;rw[qf (qj _)])⟩,?_⟩;let L:Nat->aC:=λi=>(qy 256).map λx=>if x≠0/\Gf.lg (zI x)<i then((Gf.lg (zI x):Nat):Int)else 0
 refine aj (λi:Nat=>(i:Int)) (λi h'=>i<=255/\Sp h h' [emp,an z 313 ((L i).map (Sc.enc (.int .i64)))]) (λi=>255-i) 0 n5 ⟨n7,?_⟩ ?_
 .have e:(L 0).map (Sc.enc (.int .i64))=qh 256 (xH xN 0):=by simp[L];rfl
  rw[e];exact q.dW 0 n5 λ_ _=>trivial
 .rintro i h3 ⟨E,k⟩;refine ae (λw=>?_) (λt=>?_)
  .have c:i<255:=n7
   have s:=zP (Gf.pw i);refine⟨((Gf.pw i).toNat:Int),⟨n7,n7,by simp[jt,c]⟩,⟨n7,n7⟩,?_⟩;rw[show(((Gf.pw i).toNat:Int).toNat*1)=(Gf.pw i).toNat by omega];refine k.storeAt ag 1 n5 n5 n5 n5 n5 (by simp[L];omega) λu g=>?_;refine⟨i+1,o0,⟨n7,?_⟩,n7⟩;have e:((L i).map (Sc.enc (.int .i64))).set (Gf.pw i).toNat (xH xN i)=(L (i+1)).map (Sc.enc (.int .i64)):=by
    apply zp;intro j;simp only[qW,qM,qm,zL,L];by_cases f:(Gf.pw i).toNat=j
    .subst f;simp only[if_true,zq s,zn,s];have o:(Gf.pw i).toNat≠0:=λh0=>Gf.Re i c (yw.1 h0);rw[wN,Gf.Rc i c,m6 ⟨o,n7⟩]
    .by_cases d:j<256
     .simp only[f,if_false,zq d,zn];by_cases b:j=0
      .simp[b]
      .have D:Gf.lg (zI j)≠i:=λh0=>by
        apply f;rw[<-h0,Gf.Rb _ λA=>b (by have:=congrArg UInt8.toNat A;simpa[yR d]using this)];simp[yR d]
       by_cases l:Gf.lg (zI j)<i
       .rw[m6 ⟨b,l⟩,m6 ⟨b,n7⟩]
       .rw[nq λr=>l r.2,nq λr=>l n7]
     .simp[f,d]
   rw[<-e];exact g
  .have c:i=255:=n7
   subst c;have e:L 255=pF:=by
    unfold pF;apply List.map_congr_left;intro j f;by_cases b:j=0
    .simp[b]
    .rw[m6 ⟨b,Gf.Gt _⟩,nq b]
   rw[e]at k;have p:=k.box 1 n5;refine⟨pF,⟨uf,p.aw _ Bm⟩,?_⟩;refine k.storeAll ag 1 n5 n5 (pF.map (Sc.enc (.int .i64))) n5 (by rw[qm,uf]) (IC _ _) n5 λu g=>?_;have m:=g.box 1 n5;exact⟨pF,⟨uf,m.aw _ Bm⟩,n5,.zip g.ac⟩
theorem sI(h:m5):ak xR 224 #[] h λv h'=>∃a:hU,v=xJ (dB a)/\Sp h h' [an a 316 eP]:=by
 refine ts Tryz.func224 ?_;refine(Ov h).mono ?_;rintro v u ⟨rfl,p⟩;refine⟨jt,n5,?_⟩;refine p.alloc ag n5 λa r m=>?_;refine m.storeAll ag 0 n5 n5 (jt.map (Sc.enc (.int .u8))) n5 (by rw[qm,hJ]) (IC _ _) (by rw[qm,hJ];rfl) λh3 k=>?_;have l:=k.box 0 n5;have c:aZ h3 a 0 (jt.map (Sc.enc (.int .u8))):=l.aw _ Bm;refine⟨jt,⟨hJ,c⟩,jt,⟨hJ,c⟩,?_⟩;refine(UP h3).I3 λs g=>⟨pF,n5,ng.2 ⟨(g.ac).cells l.lt c,I6⟩,_,tv ag (i:=_) n5 n5 n5 (cells:=eP.toArray) ?_,?_⟩
 .have b:∀z:aS,n4 z=511->wv (λn=>[(0,255),(255,256)][n]?) z.toArray [(0,xM (jt.map (Sc.enc (.int .u8))).toArray),(1,xM (pF.map (Sc.enc (.int .i64))).toArray)]=dB eP.toArray:=by
   intro z b;have e:z=[]++z.take 255++z.drop 255:=oo
   conv=>lhs;rw[e]
   rw[LD (vs:=jt.map (Sc.enc (.int .u8))) n5 (by simp[hJ]) (by simp[hJ,b])];have e2:[]++jt.map (Sc.enc (.int .u8))++z.drop 255=jt.map (Sc.enc (.int .u8))++z.drop 255++[]:=oo
   rw[e2,LD (vs:=pF.map (Sc.enc (.int .i64))) n5 (by simp[hJ,uf]) (by simp[uf,b])];simp[wv,eP]
  exact b _ n5
 .have o:(Value.agg eP.toArray).cells.toList=eP:=rfl;refine(k.comp g).boxed λq t f=>?_;have d:=f.box 0 n5;exact⟨ng.2 ⟨d.aw _ Bm,I6⟩,q,n5,f.take 1 λi A j=>by cases i with|zero=>exact j|succ i=>simp at j⟩
theorem Dh{h:m5}{a:hU}(c:ia h a)(n:Nat)(b:n<255):hY h (a.add n)=dB (xH xO (Gf.pw n).toNat):=
 c.cell (by rw[eP,qu (by simp[hJ,b])];simp[jt,b])
theorem Di{h:m5}{a:hU}(c:ia h a)(x:UInt8)(d:x≠0):hY h ((a.add 255).add x.toNat)=dB (xH xN (Gf.lg x)):=by
 have f:=c.addr;have e:(a.add 255).add x.toNat=a.add (255+x.toNat):=by rw[f,add_eq,add_eq,add_eq];congr 1;omega
 rw[e];refine c.cell ?_;have b:=zP x;have h0:x.toNat≠0:=λh0=>d (yw.1 h0);rw[eP,qk (by simp[hJ])];simp[hJ,pF,b,h0]
theorem pG(a:hU)(h:m5):ak xR 354 #[xJ (dB a)] h λv h'=>v=xJ (dB a)/\h'=h:=by refine ts Tryz.func354 ?_;exact rV n5 ⟨n5,n5⟩
theorem sg(a:hU)(h:m5):ak xR 298 #[xJ (dB a)] h λv h'=>v=xJ (dB a)/\h'=h:=by refine ts Tryz.func298 ?_;exact rV n5 ⟨n5,n5⟩
theorem Kj(a:hU)(h:m5):ak xR 382 #[xJ (dB a)] h λv h'=>v=xJ (dB a)/\h'=h:=by refine ts Tryz.func382 ?_;exact rV n5 ⟨n5,n5⟩
theorem nc{x:UInt8}:((x.toNat:Int)=0)↔x=0:=⟨λh=>yw.1 sR,λh=>by rw[h];rfl⟩
theorem FO(a:hU)(x y:UInt8)(h:m5)(d:ia h a):ak xR 307 #[xJ (dB a),xH xO x.toNat,xH xO y.toNat] h λv h'=>v=xH xO (Gf.mul x y).toNat/\h'=h:=by
 refine ts Tryz.func307 ?_ (HF (I1 [] [(6,7),(8,14)] G6));refine aE ?_;refine be (λh0=>⟨by rw[Gf.mul,m6 (.inl (nc.1 h0))];rfl,n5⟩) λg=>?_;refine be (λh0=>⟨by rw[Gf.mul,m6 (.inr (nc.1 h0))];rfl,n5⟩) λi=>?_;have b:x≠0:=λh0=>g (nc.2 h0);have c:y≠0:=λh0=>i (nc.2 h0);refine(pG a h).I2 ?_;have j:=zP x;have k:=zP y;have l1:=Gf.Gt x;have l2:=Gf.Gt y;refine⟨dB a,n5,a,n5,⟨n7,n7⟩,(Gf.lg x:Int),?_,a,n5,⟨n7,n7⟩,(Gf.lg y:Int),?_,n8,a,n5,?_⟩
 .rw[show((x.toNat:Int).toNat*1)=x.toNat by omega];exact Di d x b
 .rw[show((y.toNat:Int).toNat*1)=y.toNat by omega];exact Di d y c
 rw[af _];have e:xz ((Gf.lg x:Int)+(Gf.lg y:Int)) 255=(((Gf.lg x+Gf.lg y)%255:Nat):Int):=by rw[zS n7];rfl
 rw[e];have f:=vk (Gf.lg x+Gf.lg y) (show 255>0 by decide);refine⟨⟨n7,n7⟩,_,?_,by rw[Gf.mul,nq (by simp[b,c])],n5⟩;rw[show((((Gf.lg x+Gf.lg y)%255:Nat):Int).toNat*1)=(Gf.lg x+Gf.lg y)%255 by omega];exact Dh d _ f
theorem XB(a:hU)(x:UInt8)(h:m5)(d:ia h a):ak xR 346 #[xJ (dB a),xH xO x.toNat] h λv h'=>v=xH xO (Gf.inv x).toNat/\h'=h:=by
 refine ts Tryz.func346 ?_;refine be (λh0=>⟨by rw[Gf.inv,m6 (nc.1 h0)];rfl,n5⟩) λf=>?_;have b:x≠0:=λh0=>f (nc.2 h0);refine(pG a h).I2 ?_;have g:=zP x;have l1:=Gf.Gt x;refine⟨dB a,n5,a,n5,⟨n7,n7⟩,(Gf.lg x:Int),?_,n8,a,n5,?_⟩
 .rw[show((x.toNat:Int).toNat*1)=x.toNat by omega];exact Di d x b
 rw[af _];have e:xz (255-(Gf.lg x:Int)) 255=(((255-Gf.lg x)%255:Nat):Int):=by rw[zS n7];omega
 rw[e];have c:=vk (255-Gf.lg x) (show 255>0 by decide);refine⟨⟨n7,n7⟩,_,?_,by rw[Gf.inv,nq b],n5⟩;rw[show((((255-Gf.lg x)%255:Nat):Int).toNat*1)=(255-Gf.lg x)%255 by omega];exact Dh d _ c
theorem XC(a:hU)(n:Int)(h:m5)(g:ia h a):ak xR 343 #[xJ (dB a),xH xN n] h λv h'=>v=xH xO (Gf.pw (n%255).toNat).toNat/\h'=h:=by
 refine ts Tryz.func343 ?_ (HF (HF (I1 [(1,aI)] [(1,2),(7,11)] G6)));have j:=yX n (show(0:Int)<255 by decide);have i:-255<n.tmod 255:=vG n n8;have b:=Fm n 255;have e:=Int.emod_nonneg n (show(255:Int)≠0 by decide);have c:=Int.emod_lt_of_pos n (show(0:Int)<255 by decide);refine⟨n8,bs (λs h'=>s=n%255/\h'=h) ?_ ?_⟩
 .refine ae (λf=>?_) (λd=>?_)
  .rw[m6 f]at b;exact⟨by rw[af _,b],n5⟩
  .rw[nq d]at b;exact⟨b.symm,n5⟩
 .rintro s h' ⟨rfl,rfl⟩;refine(pG a h').I2 ⟨dB a,n5,a,n5,⟨e,c⟩,_,?_,n5,n5⟩;rw[zG];exact Dh g _ n7
theorem lR(p:Pm)(h:m5):ak xR 223 #[go p] h λv h'=>v=xH xN (bD p)/\Sp h h' []:=by refine ts Tryz.func223 ?_ (args:=[p]);refine(Sp.refl h).boxed λa f c=>?_;refine⟨p,(c.box 0 n5).aw _ n5,?_⟩;refine(eV p f).I3 λi g=>?_;have b:=c.comp g;have d:=b.box 0 n5;refine⟨_,n5,aH (λe=>⟨by simp[bD,e],.zip b.ac⟩) λe=>?_⟩;refine⟨_,d.cell0 n5,_,d.cell n5,?_,.zip b.ac⟩;have:=(bI p).1 e;rw[af _,bD,m6 e]
theorem UQ(n i:Int)(h:m5):ak xR 342 #[xH xN n,xH xN i] h λv h'=>∃s:Sl,v=s/\
  Sp h h' [ai 5 s 1 aq (if 1<=n/\n<=64/\0<=i/\i<n then(qh n.toNat (0:UInt8)).set i.toNat 1 else[])]:=by
 refine ts Tryz.func342 ?_ (HF (I1 [] [(4,5),(6,21)] G6));have a:∀c:Prop,¬c->[Decidable c]->Sp h h [ai 5 ⟨eH,0,0⟩ 1 aq (if c then(qh n.toNat (0:UInt8)).set i.toNat 1 else[])]:=λc b _=>by
  rw[nq b];exact(Sp.refl h).nil 5 1 aq
 refine aE ?_;refine ae (λe=>⟨⟨eH,0,0⟩,n5,a _ n7⟩) λm=>?_;refine ae (λe=>⟨⟨eH,0,0⟩,n5,a _ n7⟩) λe2=>?_;refine ae (λe=>⟨⟨eH,0,0⟩,n5,a _ n7⟩) λg=>?_;refine ae (λe=>⟨⟨eH,0,0⟩,n5,a _ n7⟩) λj=>?_;refine(Sp.refl h).make ag aq ⟨_,_,n5,n5,n5,n5,n5,n5⟩ n8 0 n5 n5 n.toNat n.toNat n7 n7 (qj _) n7 λs o l b f=>?_;refine f.set ag 0 n5 (λ_=>rfl) n5 i.toNat n7 oi 1 n5 n5 n5 λk d=>?_;refine⟨s,n5,?_⟩;rw[m6 n7];exact d
theorem Kk(s:Int)(h:m5):ak xR 233 #[xH xP s] h λv h'=>∃a:hU,v=xJ (dB a)/\Sp h h' [an a 341 [xH xQ (qc xQ s)]]:=by refine ts Tryz.func233 ?_;exact(Sp.refl h).boxed λa c b=>⟨a,n5,b⟩
theorem Ax(a:hU)(s:Int)(h:m5)(d:bV h a 341 [xH xQ s]):ak xR 234 #[xJ (dB a)] h λv h'=>v=xH xP (told s)/\bV h' a 341 [xH xQ (tw s)]/\aQ (·≠a.block) h h':=by refine ts Tryz.func234 ?_;refine rV n5 ⟨a,n5,s,d.cell0 n5,a,n5,?_⟩;refine sn ag d n5 _ n5 n5 n5 (qj _) λe b c _=>?_;exact⟨a,n5,_,b.cell0 n5,n8,n5,b,c⟩
theorem GU(a:hU)(s n:Int)(h:m5)(f:bV h a 341 [xH xQ s])(i:0<n:=by omega)(d:n<=2^62:=by omega):ak xR 309 #[xJ (dB a),xH xN n] h λv h'=>v=xH xN (je s n)/\bV h' a 341 [xH xQ (tw s)]/\aQ (·≠a.block) h h':=by refine ts Tryz.func309 ?_ (HF (I1 [] [(4,11)] G6));refine aE (rV n5 (ae (λe=>n7) λ_=>?_));refine(Ax a s h f).I3 λg ⟨c,b⟩=>⟨_,n5,B1,n5,c,b⟩
theorem El(a b:Nat)(c:a<=2^40)(d:b<=2^40):qc xN ((a:Int)+(b:Int))=((a+b:Nat):Int):=by rw[af _];rfl
theorem UR(l:Nat)(h:m5)(f:l<=20):ak xR 355 #[xH xN l] h λv h'=>v=xH xN (cu l)/\h'=h:=by
 have k:∀l:Nat,l<=20->∀r:Nat,r<=5->(∀j,j<r->j*j<l)->r*r<l->r<5:=n8
 have i:∀l:Nat,l<=20->∀r:Nat,r<=5->(∀j,j<r->j*j<l)->¬r*r<l->r=cu l:=n8
 refine ts Tryz.func355 ?_ (HF (HF (G0 (G7 (G9 [(3,aI)] [(3,11)] G6)) G6)));refine aj (λr:Nat=>(r:Int)) (λr h'=>h'=h/\r<=5/\∀j,j<r->j*j<l) (λr=>5-r) 0 n5 ⟨n5,n7,λj d=>n7⟩ ?_;rintro r h' ⟨rfl,c,d⟩;have m:r*r<=25:=zr c c;have e:qc xN ((r:Int)*(r:Int))=((r*r:Nat):Int):=by rw[<-zR];exact kl _
 rw[e];refine ae (λo=>?_) (λg=>?_)
 .have a:r*r<l:=n7
  have p:=k l f r c d a;refine⟨r+1,o0,⟨n5,n7,λj b=>?_⟩,n7⟩;rcases Nat.lt_succ_iff_lt_or_eq.1 b with b|rfl
  .exact d j b
  .exact a
 .exact⟨by rw[i l f r c d n7],n5⟩
theorem US(r:Nat)(h:m5)(b:r<=5):ak xR 255 #[xH xQ r] h λv h'=>v=xH xN (pY r)/\h'=h:=by
 intro w a;refine(Tryz.bits_Len (r:Int) w n7 n7).mono ?_;rintro e w' ⟨rfl,rfl⟩;have k:∀r:Nat,r<=5->Lib.bitLen r=pY r:=o6
 exact⟨_,n5,dj.refl _,by rw[qi,k r b],a⟩
theorem Ow(l k:Nat)(h:m5)(b:l<=20)(a:1<=l)(d:k<=20)(g:1<=k):ak xR 310 #[xH xN l,xH xN k] h λv h'=>v=xH xN (kW l k)/\h'=h:=by
 have q:∀k:Nat,k<=20->1<k->qc xN ((k:Int)*qc xN ((k:Int)-1))=((k*(k-1):Nat):Int)/\k*(k-1)≠0:=n8
 have u:∀l:Nat,l<=20->1<=l->1<=cu l/\cu l<=5:=n8
 have c3:∀l:Nat,l<=20->1<=l->qc xN (yg (l:Int) (cu l))=((l/cu l:Nat):Int):=n8
 have t:∀l:Nat,l<=20->1<=l->∀k:Nat,k<=20->1<=k->qc xN ((l:Int)*k)≠0:=o6
 have c5:∀k:Nat,k<=20->1<k->qc xN (yg (1048576:Int) (qc xN ((k:Int)*qc xN ((k:Int)-1))))=((1048576/(k*(k-1)):Nat):Int):=o6
 have m:∀l:Nat,l<=20->1<=l->qc xN (yg (1048576:Int) (l:Int))=((1048576/l:Nat):Int):=o6
 have x:∀l:Nat,l<=20->1<=l->∀k:Nat,k<=20->1<=k->qc xN (yg (qc xN ((1048576:Int)*cu l)) (qc xN ((l:Int)*k)))=((1048576*cu l/(l*k):Nat):Int):=o6
 have w:∀l:Nat,l<=20->1<=l->qc xN (yg (qc xN ((qc xN ((1048576:Int)*cu l))*pY (cu l))) (l:Int))=((1048576*cu l*pY (cu l)/l:Nat):Int):=o6
 have o:∀l:Nat,l<=20->∀k:Nat,k<=20->1048576*cu l/(l*k)<=2^30/\1048576*cu l*pY (cu l)/l<=2^30/\1048576/(k*(k-1))<=2^30/\1048576/l<=2^30:=o6
 refine ts Tryz.func310 ?_ (HF (HF (HF (I1 [(6,aI)] [(6,7),(12,19)] (I1 [(6,aI)] [(6,8),(19,48)] G6)))));have i:=o l b k d;refine(UR l h b).mono ?_;rintro v y ⟨rfl,rfl⟩;have r:=u l b a;refine⟨_,n5,n7,bs (λs h'=>s=(((if k>1 then 1048576/(k*(k-1))else 1048576/l):Nat):Int)/\h'=y) ?_ ?_⟩
 .refine ae (λe=>?_) (λe=>?_)
  .have:=q k d n7;refine⟨by rw[this.1];omega,by rw[c5 k d n7,m6 n7],n5⟩
  .refine⟨by rw[m l b a,nq n7],n5⟩
 .rintro s p ⟨rfl,rfl⟩;have z:(if k>1 then 1048576/(k*(k-1))else 1048576/l)<=2^30:=by split<;>first|exact i.2.2.1|exact i.2.2.2
  refine aE ?_;try dsimp only
  refine⟨show((cu l:Nat):Int)≠0 by omega,?_⟩;rw[c3 l b a];refine ae (λe=>⟨t l b a k d g,?_,n5⟩) (λe=>?_)
  .rw[x l b a k d g,El _ _ n7 (qV i.1 n8),kW,m6 (c:=k<l/cu l) (xy.1 e)]
  .refine be (λe2=>?_) (λe2=>?_)
   .have j:qc xQ (cu l:Int)=(cu l:Int):=B1
    rw[j];refine(US (cu l) p r.2).I2 ⟨_,n5,n7,?_,n5⟩;rw[w l b a,El _ _ n7 (qV i.2.1 n8),kW,nq (c:=k<l/cu l) λf=>e (xy.2 f),m6 (c:=k=l/cu l) (yO.1 e2)]
   .exact⟨by rw[kW,nq (c:=k<l/cu l) λf=>e (xy.2 f),nq (c:=k=l/cu l) λf=>e2 (yO.2 f),Nat.add_zero],n5⟩
theorem RX(l:Nat)(h:m5)(b:l<=20)(c:1<=l):ak xR 236 #[xH xN l] h λv h'=>∃s:Sl,v=s/\Sp h h' [ai 3 s 1 ar (fx l)]:=by
 refine ts Tryz.func236 ?_ (HF (I1 [] [(2,3),(6,12)] (HF (HF (I0 [(3,bK),(4,aI),(5,aI)] [(3,6),(14,28)])))));refine aE (ae (λe=>n7) λ_=>ae (λe=>n7) λ_=>?_);refine(Sp.refl h).make ag ar fu n8 0 n5 n5 0 l n5 n5 n7 n7 λs w j o m=>?_;refine aj (λt:Sl×Nat=>(t.1,((jk l t.2:Nat):Int),((t.2+1:Nat):Int))) (λt h'=>t.2<=l/\Sp h h' [ai 3 t.1 1 ar ((fx l).take t.2)]) (λt=>l-t.2) (s,0) n5 ⟨oo,x7⟩ ?_;rintro⟨s,k⟩ f ⟨r,a⟩;dsimp only at*;refine ae (λe=>?_) (λe=>?_)
 .refine(Ow l (k+1) f b c n7 n7).I2 ⟨_,n5,?_⟩;have p:=sQ l b k n7;have q:=AS l b (k+1) n7;have e2:qc xN ((jk l k:Int)+(kW l (k+1):Int))=((jk l (k+1):Nat):Int):=by rw[af _,jk];rfl
  try dsimp only
  rw[e2];refine a.push ag 0 n5 fu n5 n8 (λ_=>rfl) db _ n5 n8 t6 λg u i=>?_;refine⟨(g,k+1),oj,⟨n9,?_⟩,n9⟩;have d:(fx l).take (k+1)=(fx l).take k++[((jk l (k+1):Nat):Int)]:=by rw[az _ _ xa];simp[fx]
  dsimp only;rw[d];exact i
 .refine⟨s,n5,?_⟩;rw[qf xa]at a;exact a
theorem Ox{p:au}(t:Sl)(lt:aC)(x b:Int)(h:m5)(j:Seq h p t 1 ar lt)(r:0<=x)(a:lt.getLast?=dB b)(g:x<b)(u:n4 lt<=2^40):
  ak xR 308 #[t,xH xN x] h λv h'=>v=xH xN (Ij lt x)/\h'=h:=by
 refine ts Tryz.func308 ?_ (HF (I1 [] [(4,5),(7,24)] (I0 [(26,aI)] [(4,7),(26,37)])));have s:=j.len;have i:lt≠[]:=λe=>by rw[e]at a;cases a
 have o:0<n4 lt:=List.length_pos_iff.2 i;have l:lt[n4 lt-1]=b:=by rw[List.getLast?_eq_getElem?,qd n7]at a;simpa using a
 refine aE (be (λe=>n7) λ_=>ae (λe=>n7) λ_=>?_);rw[af _];refine j.aV (n4 lt-1) n7 n7 _ n5 ?_;rw[l];refine ae (λe=>n7) λ_=>?_;have d:(lt.findIdx λy=>decide (y>x))<n4 lt:=List.findIdx_lt_length_of_exists ⟨b,List.mem_of_getLast? a,Cw⟩;refine aj (λk:Nat=>(k:Int)) (λk h'=>h'=h/\k<=(lt.findIdx λy=>decide (y>x))) (λk=>n4 lt-k) 0 n5 ⟨n5,n7⟩ ?_;rintro k h' ⟨rfl,m⟩;refine ae (λe=>?_) (λe=>n7);have c:k<n4 lt:=n7
 refine j.aV k n5 c _ n5 ?_;rw[af _];refine ae (λe2=>?_) (λe2=>?_)
 .have:(lt.findIdx λy=>decide (y>x))=k:=Nat.le_antisymm (Nat.le_of_not_lt λf=>by have:=List.not_of_lt_findIdx f;simp at this;omega) m;exact⟨by rw[Ij,this];rfl,n5⟩
 .refine⟨k+1,n5,⟨n5,?_⟩,n7⟩;refine Nat.lt_of_le_of_ne m λq=>?_;have:=List.findIdx_getElem (xs:=lt) (p:=λy=>decide (y>x)) (w:=d);simp only[<-q]at this;simp at this;omega
theorem Ew(t:Sl)(n:Nat)(a:hU)(s:Int)(h:m5)(i:Seq h (·≠a.block) t 1 ar (fx n))(o:bV h a 341 [xH xQ s])(b:1<=n)(f:n<=20):
  ak xR 235 #[t,xJ (dB a)] h λv h'=>v=xH xN (AU s n)/\bV h' a 341 [xH xQ (tw s)]/\aQ (·≠a.block) h h':=by
 refine ts Tryz.func235 ?_;have j:=i.len;rw[fR]at j;refine be (λe=>n7) λ_=>?_;rw[af _];refine i.aV (n-1) n7 xa _ n5 ?_;have k:(fx n)[n-1]'(by rw[fR];omega)=((jk n n:Nat):Int):=by simp only[fx,List.getElem_map,List.getElem_range];rw[show n-1+1=n by omega]
 rw[k];have q:=Fq n f b;have m:=sQ n f n f;refine(GU a s _ h o).mono ?_;rintro v l ⟨rfl,g,d⟩;have c:=nK s (jk n n);refine⟨_,n5,(Ox t (fx n) _ _ l (i.ac d) c.1 (AT n b) c.2 xa).I2 ?_⟩;exact⟨_,n5,n5,g,d⟩
theorem UT(a:hU)(s:Int)(n k:Nat)(h:m5)(F:bV h a 341 [xH xQ s])(P:n<=64)(Q:k<=n):
  ak xR 237 #[xJ (dB a),xH xN n,xH xN k] h λv h'=>∃r:Sl,v=r/\aa (λb=>b<h.size/\¬b=a.block) h h' [an a 341 [xH xQ (dX n s (upto n) k).1],ai 3 r 1 ar (AR s n k)]:=by
 refine ts Tryz.func237 ?_ (HF (I1 [] [(6,7),(12,27)] (HF (G0 (HF (G7 (G9 [(31,aI)] [(8,9),(31,39)] G6))) (I0 [(40,aI)] [(9,11),(40,65)])))));refine aE (ae (λe=>n7) λ_=>ae (λe=>n7) λ_=>ae (λe=>n7) λ_=>ae (λe=>n7) λ_=>?_);have M:aa (λb=>b<h.size/\¬b=a.block) h h [an a 341 [xH xQ s]]:=.LC (λb=>b=a.block) (λb A=>by rw[A];exact F.lt) ⟨F,n5⟩;refine M.make ag ar fu n8 0 n5 n5 n n n5 n5 (qj _) n7 λv U R N K=>?_;refine aj (λi:Nat=>(i:Int)) (λi h'=>i<=n/\aa (λb=>b<h.size/\¬b=a.block) h h' [an a 341 [xH xQ s],ai 3 v 1 ar ((upto n).take i++qh (n-i) 0)]) (λi=>n-i) 0 n5 ⟨n7,by simpa using K⟩ ?_;rintro i O ⟨S,o⟩;refine ae (λe=>?_) (λe=>?_)
 .have l:i<n:=n7
  refine o.set ag 1 n5 (λ_=>rfl) n5 i n5 (by simp[ft];omega) (i:Int) n5 n5 n5 λh3 f=>?_;refine⟨i+1,o0,⟨n7,?_⟩,n7⟩;have e2:((upto n).take i++qh (n-i) 0).set i (i:Int)=(upto n).take (i+1)++qh (n-(i+1)) 0:=by
   have D:n4 ((upto n).take i)=i:=by rw[qw,ft];omega
   rw[az _ _ B7,qZ _ _ n7,D,zd,show n-i=n-(i+1)+1 by omega,ya,zu];simp[upto]
  rw[<-e2];exact f
 .have l:i=n:=n7
  subst l;have e2:(upto i).take i++qh (i-i) 0=upto i:=by rw[qf B7];simp
  rw[e2]at o;refine aj (λj:Nat=>(j:Int)) (λj h'=>j<=k/\aa (λb=>b<h.size/\¬b=a.block) h h' [an a 341 [xH xQ (dX i s (upto i) j).1],ai 3 v 1 ar (dX i s (upto i) j).2]) (λj=>k-j) 0 n5 ⟨n7,o⟩ ?_;rintro j h3 ⟨T,f⟩;have y:=pq i s (upto i) j;rw[ft]at y;refine ae (λH=>?_) (λH=>?_)
  .rw[af _];have d:((i:Int)-(j:Int))=((i-j:Nat):Int):=n7
   rw[d];refine(GU a _ _ h3 (f.box 0 n5)).mono ?_;rintro w E ⟨rfl,z,t⟩;have g:=f.nT 0 n5 t z;have I:=nK (dX i s (upto i) j).1 ((i-j:Nat):Int);refine⟨_,n5,?_⟩
   try dsimp only
   rw[af _,af _];have G:(j:Int)+je (dX i s (upto i) j).1 ((i-j:Nat):Int)=((j+(je (dX i s (upto i) j).1 ((i-j:Nat):Int)).toNat:Nat):Int):=n7
   have c:j+(je (dX i s (upto i) j).1 ((i-j:Nat):Int)).toNat<(dX i s (upto i) j).2.length:=n7
   rw[G];have m:=g.seq 1 n5 λ_=>rfl;refine m.aV _ n5 c _ n5 ?_;refine m.aV j n5 n7 _ n5 ?_;refine g.set ag 1 n5 (λ_=>rfl) n5 j n5 n7 _ n5 n5 n5 λL u=>⟨I6,?_⟩
   refine u.set ag 1 n5 (λ_=>rfl) n5 _ n5 D7 _ n5 n5 n5 λV J=>⟨I6,?_⟩
   refine⟨j+1,n5,⟨n7,?_⟩,n7⟩;rw[dX,iZ,eU,eU,Qw.getD_lt c,Qw.getD_lt (show j<(dX i s (upto i) j).2.length by omega)];exact J
  .have x:j=k:=n7
   subst x;refine⟨⟨n7,n7⟩,?_⟩;have q:=f.seq 1 n5 λ_=>rfl;refine(jF ⟨v.ptr,j,v.cap⟩ ((dX i s (upto i) j).2.take j) h3 (q.take j n7) t6).mono ?_;rintro w E ⟨r,rfl,g⟩;refine⟨r,n5,?_⟩;refine(Jw r _ E (g.own 0 n5) t6).I3 λL ⟨B,p⟩=>?_;have u:=(f.comp g).nS 2 n5 p B;exact⟨(),n5,r,n5,u.del 1⟩
theorem uR(p:Pm)(seed id:Int)(h:m5):ak xR 166 #[go p,xH xP seed,xH xN id] h λv h'=>∃r:Sl,v=r/\Sp h h' [ai 3 r 1 ar (if bH p&&bP id then dZ (bD p).toNat seed id else[])]:=by
 refine ts Tryz.func166 ?_ (HF (I1 [] [(6,7),(10,21)] G6)) (args:=[p,(xH xP (seed:Int)),(id:Int)]);refine(Sp.refl h).boxed λa E D=>?_;refine aE ?_;refine⟨p,(D.box 0 n5).aw _ n5,(eV p E).mono ?_⟩;rintro v l ⟨rfl,L⟩;have j:=D.comp L;have o:(bH p&&bP id)=eY->Sp h l [ai 3 ⟨eH,0,0⟩ 1 ar (if bH p&&bP id then dZ (bD p).toNat seed id else[])]:=λM=>by
  rw[M];exact(j.nil 3 1 ar).take 1 (λi A f=>by cases i with|zero=>exact f|succ i=>simp at f)
 refine⟨_,n5,aH (λe=>⟨⟨eH,0,0⟩,n5,o A3⟩) λy=>?_⟩;refine ae (λe=>⟨⟨eH,0,0⟩,n5,o v6⟩) λU=>?_;refine ae (λe=>⟨⟨eH,0,0⟩,n5,o v6⟩) λe2=>?_;have hid:bP id=eX:=v6
 rw[y,hid];refine⟨p,(j.box 0 n5).aw _ n5,(lR p l).mono ?_⟩;rintro v h3 ⟨rfl,G⟩;have P:=j.comp G;have I:=(bI p).1 y;have T:bD p=p.1+p.2.1:=by rw[bD,m6 y]
 obtain⟨n,J⟩:∃n:Nat,bD p=n:=⟨(bD p).toNat,n7⟩
 refine⟨_,n5,?_⟩
 try dsimp only
 rw[J,qi];refine(Kk _ h3).mono ?_;rintro v K ⟨d,rfl,B⟩;refine⟨dB d,n5,?_⟩;refine(Ax d _ K (B.box 0 n5)).mono ?_;rintro v O ⟨rfl,u,k⟩;have F:=B.nT 0 n5 k u;refine⟨_,n5,?_⟩;refine(RX n O n7 n7).mono ?_;rintro v S ⟨t,rfl,m⟩;have c:=F.comp m;refine⟨t,n5,?_⟩;have w:∀b,t.on b->b≠d.block:=λb x V=>by
  have E:=(m.fresh 0 n5).2 b x;have l:=(F.box 0 n5).lt;omega
 refine(Ew t n d _ S ((m.own 0 n5).seq (λ_=>rfl) w) (c.box 0 n5) n7 n7).mono ?_;rintro v Q ⟨rfl,g,s⟩;have z:=c.nT 0 n5 s g;refine⟨_,n5,?_⟩;refine(UT d _ n _ Q (z.box 0 n5) n7 (pr _ n)).I4 λr h8 H=>?_;have R:=z.call 0 n5 (λb=>b=d.block) (λq N b x=>by rw[x];exact N.2) H;exact⟨r,n5,r,n5,((P.comp R).take 3 λi A f=>by cases i with|zero=>exact f|succ i=>simp at f)⟩
theorem XD{α:Type}{h:m5}{e:TypeId}{s:Sl}{k:Nat}{f:α->aS}{l:List α}(c:Own h e s k f l)(a:l≠[]):s.ptr.isNone=eY:=by
 rcases c.head with⟨_,_,h3⟩|⟨b,rest,h1,_⟩
 .exact absurd h3 a
 .rw[h1];rfl
theorem XE(p:Pm)(seed id:Int)(h:m5):ak xR 314 #[go p,xH xP seed,xH xN id] h λv h'=>∃r:Sl,v=r/\
  Sp h h' [ai 5 r 1 aq (if bH p&&bP id then pv (bD p).toNat seed id else[])]/\r.ptr.isNone=!(bH p&&bP id):=by
 refine ts Tryz.func314 ?_ (HF (I1 [] [(6,7),(10,21)] (HF (I0 [(29,aI)] [(9,10),(29,37)])))) (args:=[p,(xH xP (seed:Int)),(id:Int)]);refine(Sp.refl h).boxed λa O F=>?_;refine aE ?_;refine⟨p,(F.box 0 n5).aw _ n5,(eV p O).mono ?_⟩;rintro v B ⟨rfl,K⟩;have m:=F.comp K;have u:(bH p&&bP id)=eY->Sp h B [ai 5 ⟨eH,0,0⟩ 1 aq (if bH p&&bP id then pv (bD p).toNat seed id else[])]/\Option.isNone (eH:bJ)=!(bH p&&bP id):=λL=>by
  rw[L];exact⟨(m.nil 5 1 aq).take 1 (λi A g=>by cases i with|zero=>exact g|succ i=>simp at g),n5⟩
 refine⟨_,n5,aH (λe=>⟨⟨eH,0,0⟩,n5,u A3⟩) λl=>?_⟩;refine ae (λe=>⟨⟨eH,0,0⟩,n5,u v6⟩) λT=>?_;refine ae (λe=>⟨⟨eH,0,0⟩,n5,u v6⟩) λe2=>?_;have hid:bP id=eX:=v6
 refine⟨p,(m.box 0 n5).aw _ n5,(lR p B).mono ?_⟩;rintro v h3 ⟨rfl,H⟩;have Q:=m.comp H;have I:=(bI p).1 l;have R:bD p=p.1+p.2.1:=by rw[bD,m6 l]
 obtain⟨n,D⟩:∃n:Nat,bD p=n:=⟨(bD p).toNat,n7⟩
 refine⟨_,n5,?_⟩
 try dsimp only
 rw[D];refine Q.make ag aq cK n8 0 n5 n5 n n n5 n5 (qj _) n7 λv J S N E=>?_;refine⟨p,(E.box 0 n5).aw _ n5,(uR p seed id J).I4 λc U y=>?_⟩;rw[l,hid,D,qi]at y;rw[l,hid,qi];have q:=E.comp y;have j:=q.seq 2 n5 λ_=>rfl;have s:=j.len;obtain⟨b,d⟩:=I5 (dZ n seed id)
 have t:∀x∈b,0<=x/\x<(n:Int):=λx z=>km n7 n7 (by rw[<-d];exact z);have G:n4 b<=n:=by rw[d];exact mw n7 n7 _ _
 simp only[Bool.and_self,if_true,<-d]at q j s y;refine⟨c,n5,?_⟩;refine aj (λi:Nat=>(i:Int)) (λi h'=>i<=n4 b/\Sp h h' [an a 24 [xH xN p.1,xH xN p.2.1,xH xN p.2.2],ai 5 v 1 aq (gT n (b.take i)),ai 3 c 1 ar b]) (λi=>n4 b-i) 0 n5 ⟨n7,q⟩ ?_;rintro i W ⟨g,k⟩;refine ae (λe=>?_) (λe=>?_)
 .have f:i<n4 b:=n7
  have z:=t _ (qe f);refine(k.seq 2 n5 λ_=>rfl).aV i n5 f _ n5 ?_;refine k.set ag 1 n5 (λ_=>rfl) n5 b[i].toNat n7 (by rw[pu];omega) 1 n5 n5 n5 λV P=>?_;refine⟨i+1,o0,⟨n7,?_⟩,n7⟩;have e2:gT n (b.take (i+1))=(gT n (b.take i)).set b[i].toNat 1:=by rw[az _ _ f,gT,wz];rfl
  rw[e2];exact P
 .rw[qf n7]at k;have o:=(k.del 2).take 1 (λi A g=>by cases i with|zero=>exact g|succ i=>simp at g);refine⟨v,n5,?_,XD (o.own 0 n5) λM=>?_⟩
  .rw[d]at o;exact o
  .have:=pu n b;rw[M]at this;simp at this;omega
theorem BP(p:Pm)(h:m5):ak xR 293 #[go p] h λv h'=>∃r:Sl,v=r/\Sp h h' [dw 41 r 1 aq (if bH p then bA p.1.toNat p.2.1.toNat else[])]:=by
 refine ts Tryz.func293 ?_ (HF (HF (HF (HF (G0 (HF (G7 (G9 [(4,bK),(14,aI)] [(4,8),(14,45)] (HF (HF (G0 (G7 (HF (I1 [(6,bK)] [(6,7),(17,24)] (I0 [(26,aI)] [(7,8),(26,40)])))) G6)))))) G6))))) [(8,(.l [0,2,3,4,5,1,6,7]))] (args:=[p]);refine(Sp.refl h).boxed λa h1 F=>?_;refine⟨p,(F.box 0 n5).aw _ n5,(eV p h1).mono ?_⟩;rintro v P ⟨rfl,U⟩;have B:=F.comp U;refine⟨_,n5,aH (λe=>⟨⟨eH,0,0⟩,n5,?_⟩) λz=>?_⟩
 .rw[e];exact(B.sq 41 1 aq).take 1 (λi A c=>by cases i with|zero=>exact c|succ i=>simp at c)
 have O:=(bI p).1 z;have I:bD p=p.1+p.2.1:=by rw[bD,m6 z]
 obtain⟨K,Y⟩:∃K:Nat,p.1=K:=⟨p.1.toNat,n7⟩
 obtain⟨b,Z⟩:∃H:Nat,p.2.1=H:=⟨p.2.1.toNat,n7⟩
 refine(sI P).mono ?_;rintro v h3 ⟨f,rfl,M⟩;have G:=(B.comp M).sq 41 1 aq;refine⟨dB f,n5,_,(G.box 0 n5).cell n5,?_⟩;refine aj (λt:Sl×Nat=>(t.1,(t.2:Int))) (λt h'=>t.2<=b/\Sp h h' [an a 24 [xH xN p.1,xH xN p.2.1,xH xN p.2.2],an f 316 eP,dw 41 t.1 1 aq ((bA K b).take t.2)]) (λt=>b-t.2) (⟨eH,0,0⟩,0) n5 ⟨oo,G⟩ ?_;rintro⟨s,k⟩ R ⟨hk,g⟩;dsimp only at*;refine ae (λe=>?_) (λe=>?_)
 .have L:k<b:=n7
  refine aE ⟨p,(g.box 0 n5).aw _ n5,p.1,(g.box 0 n5).cell0 n5,?_⟩;refine(lR p R).mono ?_;rintro v h5 ⟨rfl,R5⟩;have D:=g.comp R5;refine⟨_,n5,⟨(D.box 0 n5).cell0 n5,I6⟩,?_⟩
  try dsimp only
  rw[af (p.1+k),I];refine(UQ _ _ h5).mono ?_;rintro v h6 ⟨u,rfl,x⟩;rw[m6 n7]at x;have W:(p.1+p.2.1).toNat=K+b:=n7
  have e2:(p.1+(k:Int)).toNat=K+k:=n7
  rw[W,e2]at x;have y:=D.comp x;refine⟨u,n5,⟨(y.box 0 n5).cell0 n5,I6⟩,p.1,(y.box 0 n5).cell0 n5,?_⟩;let rowAt:Nat->aR:=λj=>(qy j).map (λi=>Gf.pw ((k+1)*(i+1)%255))++((qh (K+b) (0:UInt8)).set (K+k) 1).drop j;refine aj (λj:Nat=>(j:Int)) (λj h'=>j<=K/\Sp h h' [an a 24 [xH xN p.1,xH xN p.2.1,xH xN p.2.2],an f 316 eP,dw 41 s 1 aq ((bA K b).take k),ai 5 u 1 aq (rowAt j)]) (λj=>K-j) 0 n5 ⟨n7,y⟩ ?_;rintro j h7 ⟨hj,o⟩;refine ae (λJ=>?_) (λJ=>?_)
  .have d:j<K:=n7
   have hm:(k+1)*(j+1)<=4*16:=zr n7 n7;have N:qc xN (qc xN ((k:Int)+1)*qc xN ((j:Int)+1))=(((k+1)*(j+1):Nat):Int):=by rw[af ((k:Int)+1),af ((j:Int)+1),show((k:Int)+1)*((j:Int)+1)=(((k+1)*(j+1):Nat):Int)by rw[zR];rfl];exact kl _
   rw[N];refine(XC f _ h7 (o.box 1 n5)).I2 ⟨_,n5,?_⟩;have E:n4 (rowAt j)=K+b:=by simp[rowAt];omega
   refine o.set ag 3 n5 (λ_=>rfl) n5 j n5 n7 _ n5 n5 n5 λS w=>?_;refine⟨j+1,o0,⟨n7,?_⟩,n7⟩;have q:(rowAt j).set j (Gf.pw ((((k+1)*(j+1):Nat):Int)%255).toNat)=rowAt (j+1):=by
    have T:((((k+1)*(j+1):Nat):Int)%255).toNat=(k+1)*(j+1)%255:=n7
    rw[T];simp only[rowAt];rw[qZ _ _ oo,qm,zL,zd,qT oi,zu,zC,qF,ql];rfl
   rw[<-q];exact w
  .have d:j=K:=n7
   subst d;have q:rowAt j=lC j b k:=by
    simp only[rowAt,lC];congr 1;apply zp;intro i;rw[wJ,qW,qM];by_cases c:i<b
    .rw[zq c,zn,wD];by_cases m:i=k
     .subst m;simp[c]
     .rw[nq n7,m6 n7,nq m]
    .rw[zf (l:=qy b) oi,nq n7,wD,nq n7];rfl
   rw[q]at o;have H8:=o.freeze 3 n5 λ_=>rfl;have X:n4 ((bA j b).take k)=k:=A8
   refine H8.jD ag 2 3 n8 n5 n5 cI n7 λQ S w=>?_;refine⟨(Q,k+1),oj,⟨n9,?_⟩,n9⟩;have V:(bA j b).take (k+1)=(bA j b).take k++[lC j b k]:=by rw[az _ _ A8];simp[bA]
   try dsimp only
   rw[V];exact w.del 3
 .refine⟨s,n5,?_⟩;rw[m6 z,Y,Z,qi,qi];rw[qf A8]at g;exact g.take 2 (λi A c=>by cases i with|zero=>exact c|succ i=>simp at c)
end Go.Qw
