/- Lemmas for the proof of the law; no condition. -/
import Derived.Test.YtplpfpidgljdhaaGreatDoorTabS
import Derived.Test.YtplpfpidgljdhaaGreatDoorShelfA
set_option linter.unusedVariables false
set_option linter.unusedSimpArgs false
open Go.Proofs.Tryz renaming prog -> xQ
open Go.Value renaming agg -> xL, bool -> xK, int -> xG, pointer -> xI, slice -> xH, string -> xJ
open Go.IntKind renaming bits -> qG, i64 -> xM, signed -> vg, u32 -> xO, u64 -> xP, u8 -> xN, wrap -> qe
open Option renaming some -> zQ
open Int renaming ediv_le_self -> xi, fdiv -> zG, mul_pos -> xx, tdiv -> vJ, tmod -> xz
open UInt8 renaming ofNat -> yK, ofNat_toNat -> va, toNat_lt -> w6
open List renaming exists_cons_of_length_eq_add_one -> yB, length -> vR, length_zipWith -> yG, map_congr_left -> vE, range -> qz, replicate -> qi
open BitVec renaming ofInt -> qK, ofNat -> wG
open Prod renaming fst -> qq, snd -> zi
open Go.Instr renaming fill -> wC, storeAt -> qE
set_option maxRecDepth 100000
open Option renaming some -> dB, none -> ez
open Bool renaming true -> eH, false -> eL
open Go renaming Addr -> eX
open Go.Qw renaming cellOf -> f7, Heap -> f8
open List renaming length -> ii
namespace Go.Qw
open Go.Proofs
abbrev Cells:=bO
abbrev powC(w:Pow)(l:Int):aR:=[xK w.off,xK w.fuse.isSome,xG xM l,xG xM w.offs]
def Hz(w:Pow)(l:Int):Prop:=∀k,w.fuse=dB k->l=k/\k<2^62
def bK(t:Nat)(a:eX)(w:Pow):HP:=HP.ex λl:Int=>(ac a t (powC w l)).and (Hz w l)
variable {B:av} {h0 h h':f8} {As:List HP} {t:Nat} {a:eX} {w:Pow}
theorem aa.nZ(H:aa B h0 h (bK t a w::As)):∃l,Hz w l/\aa B h0 h (ac a t (powC w l)::As):=by obtain⟨l,H⟩:=H.oz;obtain⟨H,b⟩:=H.oA;exact⟨l,b,H⟩
theorem aa.Bw{l:Int}(b:Hz w l)(H:aa B h0 h (ac a t (powC w l)::As)):aa B h0 h (bK t a w::As):=
 (H.tooA b).sX (F:=λl:Int=>(ac a t (powC w l)).and (Hz w l)) l
theorem sO(l:Int)(b:bW h a 104 (powC w l)):an xQ 16 #[xI (dB a)] h λv h'=>v=xK (!w.off)/\h'=h:=by refine ts Tryz.func16 ?_;exact bf (λ_=>⟨a,i0,w.off,b.cell0 i0,i0,i0⟩) λe=>j1
theorem Dq(l:Int)(b:bW h a 104 (powC w l)):an xQ 59 #[xI (dB a)] h λv h'=>v=xG xM w.offs/\h'=h:=by refine ts Tryz.func59 ?_;exact bf (λe=>j1) λ_=>⟨a,i0,w.offs,b.cell i0,i0,i0⟩
theorem Kr(h:f8):an xQ 23 #[] h λv h'=>∃a,v=xI (dB a)/\Sp h h' [bK 104 a Pow.new]:=by refine ts Tryz.func23 ?_;refine(Sp.refl h).boxed λa c b=>⟨a,i0,aa.Bw (l:=0) (w:=Pow.new) (λk e=>j1) b⟩
theorem Zz(n:Int)(p:n<2^62)(H:aa B h0 h (bK 104 a w::As)):an xQ 15 #[xI (dB a),xG xM n] h λv h'=>v=.tuple #[]/\aa B h0 h' (bK 104 a (w.arm n)::As):=by
 obtain⟨l,o,f⟩:=H.nZ;refine ts Tryz.func15 ?_;refine(sO l (f.box 0 i0)).mono ?_;rintro _ q ⟨rfl,rfl⟩;refine⟨_,i0,aQ (λe=>⟨i0,?_⟩) λe=>?_⟩
 ·have:w.arm n=w:=by unfold Pow.arm;rw[f9 lb]
  rw[this];exact H
 ·have d:w.off=eL:=lb
  refine⟨a,i0,f.store aj 0 i0 i0 1 [xK (decide (n>=0))] i0 i0 i0 i9 λm g=>?_⟩;refine⟨a,i0,g.store aj 0 i0 i0 2 [xG xM (if(0:Int)>n then 0 else n)] i0 i0 i0 (by simp[powC]) λh3 i=>⟨i0,?_⟩⟩;refine aa.Bw (l:=if(0:Int)>n then 0 else n) (λk c=>?_) ?_
  ·unfold Pow.arm at c;rw[g0 p7]at c;by_cases b:0<=n
   ·rw[f9 b]at c;simp at c;subst c;rw[g0 i4];omega
   ·rw[g0 b]at c;cases c
  ·have j:powC (w.arm n) (if(0:Int)>n then 0 else n)=[xK w.off,xK (decide (n>=0)),xG xM (if(0:Int)>n then 0 else n),xG xM w.offs]:=by
    unfold Pow.arm powC;rw[g0 p7];by_cases b:0<=n
    ·rw[f9 b];simp[d,b]
    ·rw[g0 b];simp[d];omega
   rw[j];exact i
theorem Dr(H:aa B h0 h (bK 104 a w::As)):an xQ 98 #[xI (dB a)] h λv h'=>v=xK w.step.1/\aa B h0 h' (bK 104 a w.step.2::As):=by
 obtain⟨l,q,b⟩:=H.nZ;refine ts Tryz.func98 ?_;refine(sO l (b.box 0 i0)).mono ?_;rintro _ u ⟨rfl,rfl⟩;refine⟨_,i0,aQ (λe=>?_) λe=>?_⟩
 ·have:w.step=(eL,w):=by unfold Pow.step;rw[f9 lb]
  rw[this];exact⟨i0,H⟩
 have g:w.off=eL:=lb
 refine⟨a,i0,_,(b.box 0 i0).cell i0,aQ (λe2=>?_) λe2=>?_⟩
 ·have:w.step=(eH,w):=by
   unfold Pow.step;rw[g0 oj];cases d:w.fuse with
   |none=>rfl
   |some k=>rw[d]at e2;cases e2
  rw[this];exact⟨i0,H⟩
 obtain⟨k,d⟩:∃k,w.fuse=dB k:=yw.1 e2;obtain⟨rfl,x⟩:=q k d;have p:powC w (k:Int)=[xK eL,xK eH,xG xM k,xG xM w.offs]:=by simp[powC,g,d]
 rw[p]at b;refine⟨a,i0,_,(b.box 0 i0).cell i0,cv (λs=>?_) λs=>?_⟩
 ·have i:k=0:=i4
  subst i;have m:w.step=(eL,⟨eH,dB 0,qe xM (w.offs+1)⟩):=by unfold Pow.step;rw[g0 oj,d]
  rw[m];refine⟨a,i0,b.ja aj 0 i0 i0 [xK eH] i0 i0 i0 i9 λt n=>?_⟩;refine⟨a,i0,w.offs,(n.box 0 i0).cell i0,a,i0,n.store aj 0 i0 i0 3 [xG xM (qe xM (w.offs+1))] i0 i0 i0 (by simp[powC]) λh3 f=>⟨i0,?_⟩⟩;refine aa.Bw (l:=((0:Nat):Int)) (λr c=>by cases c;exact⟨i0,i5⟩) ?_;exact f
 ·obtain⟨j,rfl⟩:∃j,k=j+1:=⟨k-1,i4⟩
  have m:w.step=(eH,⟨eL,dB j,w.offs⟩):=by unfold Pow.step;rw[g0 oj,d]
  rw[m];refine⟨a,i0,_,(b.box 0 i0).cell i0,a,i0,b.store aj 0 i0 i0 2 [xG xM (qe xM (((j+1:Nat):Int)-1))] i0 i0 i0 (by simp[powC]) λh3 f=>⟨i0,?_⟩⟩;refine aa.Bw (l:=(j:Int)) (λr c=>by cases c;exact⟨i0,i4⟩) ?_;rw[ai _]at f;have o:((j+1:Nat):Int)-1=(j:Int):=i4
  rw[o]at f;exact f
abbrev Pm:=Int×Int×Int
abbrev jQ(p:Pm):Value:=xL #[xG xM p.1,xG xM p.2.1,xG xM p.2.2]
theorem eF(p:Pm)(h:f8):an xQ 58 #[jQ p] h λv h'=>v=xK (bS p)/\Sp h h' []:=by refine ts Tryz.func58 ?_ (args:=[p]);refine(Sp.refl h).boxed λa d j=>?_;have e:=j.box 0 i0;have c:Sp h d []:=.zip j.af;have g:f7 d a=dB (xG xM p.1):=e.cell0 i0;have f:f7 d (a.add 1)=dB (xG xM p.2.1):=e.cell i0;have i:f7 d (a.add 2)=dB (xG xM p.2.2):=e.cell i0;unfold bS;refine⟨_,g,ag (λb=>?_) λb=>⟨q6,c⟩⟩;rw[g9 b];refine⟨_,g,ag (λb=>?_) λb=>⟨q6,c⟩⟩;rw[g9 b];refine⟨_,f,ag (λb=>?_) λb=>⟨q6,c⟩⟩;rw[g9 b];refine⟨_,f,ag (λb=>?_) λb=>⟨q6,c⟩⟩;rw[g9 b];refine⟨_,i,ag (λb=>?_) λb=>⟨q6,c⟩⟩;rw[g9 b];exact⟨_,i,i0,c⟩
abbrev fR:bI C.toAi 22 3 1 [xG xM 0] 8:=⟨_,_,i0,i0,i0,i0,i0,i0⟩
abbrev gF:bI C.toAi 58 5 1 [xG xN 0] 1:=⟨_,_,i0,i0,i0,i0,i0,i0⟩
abbrev fw:bI C.toAi 43 58 1 [xH ez 0 0] 24:=⟨_,_,i0,i0,i0,i0,i0,i0⟩
theorem jy(s:Sl)(l:aB)(h:f8)(b:Rd h s 1 ak l)(c:ii l<=2^30):an xQ 101 #[s] h λv h'=>∃r:Sl,v=r/\Sp h h' [ae 3 r 1 ak l]:=by
 refine ts Tryz.func101 ?_;refine bf (λe=>?_) (λe=>?_)
 ·have:=b.isNil e;subst this;exact⟨⟨ez,0,0⟩,i0,(Sp.refl h).nil 3 1 ak⟩
 ·refine(Sp.refl h).lit aj ak fR i0 [] i0 i5 i0 λg j a=>?_;refine a.append aj 0 i0 fR ⟨_,_,i0,i0⟩ i0 i5 (λ_=>rfl) (b.up a.af) eC i7 λd i f=>⟨d,i0,f⟩
theorem eI(s:Sl)(l:aP)(h:f8)(b:Rd h s 1 aw l)(c:ii l<=2^30):an xQ 89 #[s] h λv h'=>∃r:Sl,v=r/\Sp h h' [ae 5 r 1 aw l]:=by
 refine ts Tryz.func89 ?_;refine bf (λe=>?_) (λe=>?_)
 ·have:=b.isNil e;subst this;exact⟨⟨ez,0,0⟩,i0,(Sp.refl h).nil 5 1 aw⟩
 ·refine(Sp.refl h).lit aj aw gF i0 [] i0 i5 i0 λg j a=>?_;refine a.append aj 0 i0 gF ⟨_,_,i0,i0⟩ i0 i5 (λ_=>rfl) (b.up a.af) gW i7 λd i f=>⟨d,i0,f⟩
theorem Ds{e:TypeId}(s:Sl)(l:aB)(h:f8)(c:Own h e s 1 ak l)(a:ii l<2^40):an xQ 82 #[s] h λv h'=>v=.tuple #[]/\Own h' e s 1 ak (iu l)/\aN (λb=>¬s.on b) h h':=
 MF Tryz.slices_Sort_int Tryz.slices_Sort_int_none c a
theorem cF(x n:Int)(h:f8)(b:0<n:=by decide)(f:n<=2^62:=by decide):an xQ 54 #[xG xM x,xG xM n] h λv h'=>v=xG xM (x%n)/\h'=h:=by
 refine ts Tryz.func54 ?_ (.two .n (.two .n (.two (.join [(0,aS)] [(0,1),(8,13)] .n) .n)));have g:=vL x b;have e:-n<x.tmod n:=Int.lt_tmod_of_pos x b;have d:=Mw x n b;refine⟨i4,aT ?_⟩;refine ag (λc=>?_) (λa=>?_)
 ·rw[ai _];exact⟨by rw[d,f9 c],i0⟩
 ·exact⟨by rw[d,g0 a],i0⟩
theorem TB{p q:av}(a b:Sl)(c f:Row)(h:f8)(r:Seq h p a 1 aw c)(s:Seq h q b 1 aw f)(x:ii c<=2^40):
  an xQ 30 #[a,b] h λv h'=>v=xK (decide (c=f))/\h'=h:=by
 refine ts Tryz.func30 ?_ (.two .n (.two .n (.two (.two .n (.inn (.loop [(13,aS)] [(4,6),(13,26)] .n))) .n)));have o:=r.len;have j:=s.len;refine bx (λd=>⟨?_,i0⟩) (λm=>?_)
 ·rw[hU λe=>d (by rw[o,j,e])]
 ·refine aq (λk:Nat=>(k:Int)) (λk h'=>h'=h/\k<=ii c/\c.take k=f.take k) (λk=>ii c-k) 0 i0 ⟨i0,i4,i9⟩ ?_;rintro k h' ⟨rfl,y,l⟩;refine ag (λu=>?_) (λt=>?_)
  ·have i:k<ii c:=i4
   have g:k<ii f:=i4
   refine r.bt k i0 i _ i0 ?_;refine s.bt k i0 g _ i0 ?_;refine bx (λd=>⟨?_,i0⟩) (λm=>?_)
   ·rw[hU];intro e;subst e;exact d i0
   ·rw[ai _];have w:c[k]=f[k]:=wy.1 i4;exact⟨k+1,i9,⟨i0,i4,by rw[aD _ _ i,aD _ _ g,l,w]⟩,i4⟩
  ·have:k=ii c:=i4
   subst this;rw[qg i4,qg i4]at l;exact⟨by rw[g9 l],i0⟩
structure gy (d:aY):Prop where
 wait:d.wait<=ii d.l
 len:ii d.l<=d.room
 room:d.room<=512
 cell:∀c∈d.l,ii c=64
 laid:ii d.laid<=d.room
 cellL:∀c∈d.laid,ii c=64
variable {d:aY} {b:aP}
theorem gy.new{n:Nat}(h:n<=512):gy (aY.new n):=⟨qm _,zb _,h,by simp[aY.new],zb _,by simp[aY.new]⟩
theorem gy.rewrite{l:bO}(h:gy d):gy (d.rewrite w l).2.2:=by
 obtain⟨e,a,h3,b,i,f⟩:=h;unfold aY.rewrite;split
 ·exact⟨e,a,h3,b,i,f⟩
 ·rename_i g;have g:∀c∈l,ii c=64:=l9
  split
  ·exact⟨e,a,h3,b,i,f⟩
  ·split
   ·exact⟨e,a,h3,b,i,f⟩
   ·split
    ·exact⟨e,a,h3,b,i,f⟩
    ·split
     ·exact⟨zb _,i6,h3,g,zb _,i9⟩
     ·exact⟨e,a,h3,b,i6,g⟩
abbrev dC(s:Sl)(l:Cells):HP:=dc 58 s 5 1 aw l
def gq(t:Nat)(f:aY->Sl->Sl->aR)(a:eX)(d:aY):HP:=
 (HP.ex λb:Sl×Sl=>(ac a t (f d b.1 b.2)).sep ((dC b.1 d.l).sep (dC b.2 d.laid))).and (gy d)
variable {f:aY->Sl->Sl->aR}
theorem aa.nz(H:aa B h0 h (gq t f a d::As)):gy d/\∃s b:Sl,aa B h0 h (ac a t (f d s b)::dC s d.l::dC b d.laid::As):=by obtain⟨H,ok⟩:=H.oA;obtain⟨c,H⟩:=H.oz;exact⟨ok,c.1,c.2,H.lK.lK.aL 3 [2,1,0]⟩
theorem aa.tG{s b:Sl}(ok:gy d)(H:aa B h0 h (ac a t (f d s b)::dC s d.l::dC b d.laid::As)):aa B h0 h (gq t f a d::As):=
 ((((H.aL 3 [2,1,0]).iQ).iQ).sX (F:=λc:Sl×Sl=>(ac a t (f d c.1 c.2)).sep ((dC c.1 d.l).sep (dC c.2 d.laid))) (s,b)).tooA ok
abbrev eG(pw:eX)(d:aY)(s b:Sl):aR:=[xI (dB pw),xG xM d.room,s,xG xM d.wait,b,xK d.has,xK d.lost]
abbrev ir(pw a:eX)(d:aY):HP:=gq 102 (eG pw) a d
section
variable {pw:eX}
theorem HB(n:Int)(pw:eX)(h:f8):an xQ 60 #[xG xM n,xI (dB pw)] h λv h'=>
  (1<=n/\n<=512->∃a,v=xI (dB a)/\Sp h h' [ir pw a (aY.new n.toNat)])/\(¬(1<=n/\n<=512)->v=xI ez/\Sp h h' []):=by
 refine ts Tryz.func60 ?_ (.two .n (.two (.join [] [(4,15)] .n) .n));refine aT (ag (λe=>⟨λc=>absurd c i4,λ_=>⟨i0,Sp.refl h⟩⟩) λi=>ag (λe=>⟨λc=>absurd c i4,λ_=>⟨i0,Sp.refl h⟩⟩) λe2=>bf (λe=>j1) λ_=>?_);refine(Sp.refl h).boxed λa g d=>⟨λ_=>⟨a,i0,?_⟩,λc=>absurd i4 c⟩
 refine aa.tG (s:=⟨ez,0,0⟩) (b:=⟨ez,0,0⟩) (gy.new i4) ?_;have e:((n.toNat:Nat):Int)=n:=i4
 have f:=((d.ww 58 5 1 aw).ww 58 5 1 aw).aL 3 [2,1,0];have e2:eG pw (aY.new n.toNat) ⟨ez,0,0⟩ ⟨ez,0,0⟩=[xI (dB pw),xG xM n,xH ez 0 0,xG xM 0,xH ez 0 0,xK eL,xK eL]:=by simp only[eG,aY.new,e];rfl
 rw[e2];exact f
theorem Dt(s b:Sl)(c:aY)(H:aa B h0 h (ac a 102 (eG pw d s b)::dC s d.l::dC b d.laid::bK 104 pw w::As))(ok:gy d)(f:c={d with laid:=[],has:=eL}):
  an xQ 99 #[xI (dB a)] h λv h'=>v=xG xM 0/\aa B h0 h' (ir pw a c::bK 104 pw w::As):=by
 refine ts Tryz.func99 ?_;refine⟨a,i0,H.store aj 0 i0 i0 4 [xH ez 0 0] i0 i0 i0 lz λi g=>?_⟩;refine⟨a,i0,g.store aj 0 i0 i0 5 [xK eL] i0 i0 i0 lz λh3 e=>⟨i0,?_⟩⟩;subst f;refine aa.tG (s:=s) (b:=⟨ez,0,0⟩) ⟨ok.wait,ok.len,ok.room,ok.cell,zb _,i9⟩ ?_;exact((e.ww 58 5 1 aw).aL 5 [1,2,0,4])
theorem Fg(x:Sl)(row:aP)(H:aa B h0 h (ir pw a d::bK 104 pw w::As))(N:Rd h x 1 aw row)(hr:ii row<=2^20):
  an xQ 107 #[xI (dB a),x] h λv h'=>v=xG xM (d.append w row).1/\aa B h0 h' (ir pw a (d.append w row).2.2::bK 104 pw (d.append w row).2.1::As):=by
 refine ts Tryz.func107 ?_ (.two .n (.two (.join [] [(4,36)] (.inn (.two .n (.two .n (.two (.join [(9,rS)] [(9,18)] .n) .n))))) (.two (.join [] [(36,47)] .n) .n)));have W:=N.len;obtain⟨ok,s,b,A⟩:=H.nz;have o:=A.box 0 i0;obtain⟨R,_⟩:=aa.rE (A.aL 4 [1]);have K:=ok.room;have P:=ok.len;have J:=ok.wait;have same:∀(e:Int),d.append w row=(e,w,d)->(Value.int .i64 e=xG xM (d.append w row).1/\aa B h0 h (ir pw a (d.append w row).2.2::bK 104 pw (d.append w row).2.1::As)):=λe U=>by
  rw[U];exact⟨i0,H⟩
 refine aT (bx (λe=>same 1 (by unfold aY.append;rw[f9 i4])) λT=>?_);have q:ii row=64:=i4
 refine aT (bf (λe=>j1) λ_=>⟨a,i0,d.lost,o.cell i0,bf (λe=>same 5 ?_) λf=>?_⟩)
 ·unfold aY.append;rw[g0 i4,f9 e]
 refine⟨a,i0,s,o.cell i0,a,i0,(d.room:Int),o.cell i0,ag (λe=>same 7 ?_) λF=>?_⟩
 ·unfold aY.append;rw[g0 i4,g0 qa,f9 i4]
 obtain⟨l,hl,I⟩:=(A.aL 4 [3,0,1,2]).nZ;refine⟨a,i0,dB pw,o.cell0 i0,(sO l (I.box 0 i0)).mono ?_⟩;rintro _ Q ⟨rfl,rfl⟩;refine⟨_,i0,aQ (λe=>same 14 ?_) λk=>?_⟩
 ·unfold aY.append;rw[g0 i4,g0 qa,g0 i4,f9 lb]
 have i:w.off=eL:=sz
 refine aT ⟨a,i0,s,o.cell i0,(eI x row Q N i4).mono ?_⟩;rintro _ Z ⟨r,rfl,V⟩;have E:=(A.bN V).aL 5 [2,0,1,3,4];have p:=E.box 2 i0;refine⟨r,i0,⟨p.cell i0,trivial⟩,?_⟩;have X:=E;refine E.nS aj aX fw i0 [r] i0 (show 1*1<=2^20 by decide) i0 ⟨p.cell i0,trivial⟩ ?_;refine E.Ey aj fw i4 λD h6 M=>⟨trivial,?_⟩
 have M:=M.aL 4 [1,0,2,3];refine⟨a,i0,M.store aj 0 i0 i0 2 [D] i0 i0 i0 lz λh7 O=>⟨trivial,?_⟩⟩;have G:=O.box 0 i0;refine⟨a,i0,(d.wait:Int),G.cell i0,a,i0,?_⟩;rw[ai ((d.wait:Int)+1)];refine O.store aj 0 i0 i0 3 [xG xM ((d.wait:Int)+1)] i0 i0 i0 lz λh8 S=>?_;obtain⟨g,j⟩:∃g:aY,g={d with l:=d.l++[row],wait:=d.wait+1}:=⟨_,rfl⟩
 have m:gy g:=by
  subst j;refine⟨i7,i7,ok.room,λc u=>?_,ok.laid,ok.cellL⟩;rcases qy.1 u with u|u
  ·exact ok.cell c u
  ·rw[qp.1 u];exact q
 have t:aa B h0 h8 (ac a 102 (eG pw g D b)::dC D g.l::dC b g.laid::bK 104 pw w::As):=by rw[j];exact S
 refine⟨a,i0,dB pw,(t.box 0 i0).cell0 i0,(Dr (t.aL 4 [3,0,1,2])).mono ?_⟩;rintro _ h9 ⟨rfl,z⟩;have z:=z.aL 4 [1,2,3,0];have y:d.append w row=if w.step.1 then(0,w.step.2,{g with laid:=[],has:=eL})else(14,w.step.2,g):=by rw[j];unfold aY.append;rw[g0 i4,g0 qa,g0 i4,g0 (by simp[i])]
 rw[y];refine⟨_,i0,aQ (λe=>?_) λe=>?_⟩
 ·rw[e];exact⟨i0,z.tG m⟩
 ·rw[e];refine(Dt D b _ z m i0).mono ?_;rintro _ Y ⟨rfl,L⟩;exact⟨0,i0,i0,L⟩
theorem Jq(x:Sl)(row:aP)(h:f8)(b:Rd h x 1 aw row):an xQ 107 #[xI ez,x] h λv h'=>v=xG xM (if row.length≠64 then 1 else 5)/\h'=h:=by refine ts Tryz.func107 ?_ (.two .n (.two (.join [] [(4,36)] (.inn (.two .n (.two .n (.two (.join [(9,rS)] [(9,18)] .n) .n))))) (.two (.join [] [(36,47)] .n) .n)));have a:=b.len;refine aT (bx (λe=>⟨by rw[f9 i4],i0⟩) λe=>?_);exact aT (bf (λ_=>⟨by rw[g0 i4],i0⟩) λe=>j1)
theorem Wo(H:aa B h0 h (ir pw a d::bK 104 pw w::As)):
  an xQ 145 #[xI (dB a)] h λv h'=>v=xG xM (d.sync w).1/\aa B h0 h' (ir pw a (d.sync w).2.2::bK 104 pw (d.sync w).2.1::As):=by
 refine ts Tryz.func145 ?_ (.two .n (.two (.join [] [(2,11)] .n) .n));obtain⟨ok,s,b,j⟩:=H.nz;have i:=j.box 0 i0;refine aT (bf (λe=>j1) λ_=>⟨a,i0,d.lost,i.cell i0,bf (λe=>?_) λc=>?_⟩)
 ·have:d.sync w=(5,w,d):=by unfold aY.sync;rw[f9 e]
  rw[this];exact⟨i0,H⟩
 refine⟨a,i0,dB pw,i.cell0 i0,(Dr (j.aL 4 [3,0,1,2])).mono ?_⟩;rintro _ o ⟨rfl,g⟩;have g:=g.aL 4 [1,2,3,0];have f:d.sync w=if w.step.1 then(0,w.step.2,{{d with wait:=0}with laid:=[],has:=eL})else(14,w.step.2,d):=by unfold aY.sync;rw[g0 n7]
 rw[f];refine⟨_,i0,aQ (λe=>?_) λe=>?_⟩
 ·rw[e];exact⟨i0,g.tG ok⟩
 ·rw[e];refine⟨a,i0,g.store aj 0 i0 i0 3 [xG xM 0] i0 i0 i0 lz λh3 k=>?_⟩;refine(Dt (d:={d with wait:=0}) s b _ k ⟨zb _,ok.len,ok.room,ok.cell,ok.laid,ok.cellL⟩ rfl).mono ?_;rintro _ m ⟨rfl,l⟩;exact⟨0,i0,i0,l⟩
theorem Nx(h:f8):an xQ 145 #[xI ez] h λv h'=>v=xG xM 5/\h'=h:=by refine ts Tryz.func145 ?_ (.two .n (.two (.join [] [(2,11)] .n) .n));exact aT (bf (λ_=>⟨i0,i0⟩) λe=>j1)
theorem ir.box(H:aa B h0 h (ir pw a d::As)):∃s b:Sl,bW h a 102 (eG pw d s b)/\dY h s 1 aw d.l/\s.len=ii d.l:=by obtain⟨ok,s,b,c⟩:=H.nz;exact⟨s,b,c.box 0 i0,(c.aL 3 [1]).sY λ_=>rfl,(aa.rE (c.aL 3 [1])).1⟩
theorem Du(s b:Sl)(c:bW h a 102 (eG pw d s b)):an xQ 97 #[xI (dB a)] h λv h'=>v=xG xM d.room/\h'=h:=by refine ts Tryz.func97 ?_;exact bf (λe=>j1) λ_=>⟨a,i0,_,c.cell i0,i0,i0⟩
theorem Ks(s b:Sl)(c:bW h a 102 (eG pw d s b))(f:s.len=ii d.l):an xQ 177 #[xI (dB a)] h λv h'=>v=xG xM (ii d.l:Int)/\h'=h:=by refine ts Tryz.func177 ?_;exact bf (λe=>j1) λ_=>⟨a,i0,_,c.cell i0,by rw[f],i0⟩
theorem ro(s b:Sl)(c:bW h a 102 (eG pw d s b)):an xQ 43 #[xI (dB a)] h λv h'=>v=xK d.lost/\h'=h:=by refine ts Tryz.func43 ?_;exact bf (λ_=>⟨a,i0,_,c.cell i0,i0,i0⟩) λe=>j1
theorem Wp(s b:Sl)(i:Int)(j:bW h a 102 (eG pw d s b))(k:dY h s 1 aw d.l)(q:∀c∈d.l,ii c=64):an xQ 35 #[xI (dB a),xG xM i] h λv h'=>∃r:Sl,v=r/\Sp h h' [ae 5 r 1 aw (if 0<=i then d.l.getD i.toNat []else[])]:=by
 refine ts Tryz.func35 ?_ (.two .n (.two (.join [] [(4,20)] .n) .n));have o:=k.len;have f:(if 0<=i then d.l.getD i.toNat []else[])=[]->∃r:Sl,Value.slice ez 0 0=xH r.ptr r.len r.cap/\Sp h h [ae 5 r 1 aw (if 0<=i then d.l.getD i.toNat []else[])]:=λe=>by
  rw[e];exact⟨⟨ez,0,0⟩,i0,(Sp.refl h).nil 5 1 aw⟩
 refine aT (bf (λe=>j1) λ_=>ag (λe=>f (by rw[g0 i4])) λw=>⟨a,i0,s,j.cell i0,ag (λe=>f ?_) λe2=>?_⟩)
 ·rw[f9 i4,qd,qB i4];rfl
 ·refine⟨a,i0,s,j.cell i0,k.get i.toNat i4 i4 λr t=>?_⟩;have g:i.toNat<ii d.l:=i4
  have:=q _ (qf g);refine(eI r _ h t i4).mono ?_;rintro _ u ⟨m,rfl,p⟩;rw[f9 i4,getD_lt g];exact⟨m,i0,m,i0,p⟩
theorem Ge(l:Sl)(a:Cells)(h:f8)(f:dY h l 1 aw a)(x:ii a<=2^20)(q:∀c∈a,ii c<=2^20):an xQ 51 #[l] h λv h'=>∃r:Sl,v=r/\Sp h h' [dC r a]:=by
 refine ts Tryz.func51 ?_ (.two .n (.two .n (.two (.two .n (.inn (.loop [(3,cK),(8,aS)] [(3,4),(5,6),(8,18)] .n))) .n)));have j:=f.len;refine aq (λt:Sl×Nat=>(t.1,(t.2:Int))) (λt h'=>t.2<=ii a/\Sp h h' [dC t.1 (a.take t.2)]) (λt=>ii a-t.2) (⟨ez,0,0⟩,0) i0 ⟨i9,by simpa using(Sp.refl h).ww 58 5 1 aw⟩ ?_;rintro⟨s,i⟩ o ⟨y,d⟩;dsimp only at*;refine ag (λe=>?_) (λe=>?_)
 ·have b:i<ii a:=i4
  refine(f.up d.af).get i i0 b λr u=>?_;have:=q _ (qf b);refine(eI r _ o u i4).mono ?_;rintro _ w ⟨g,rfl,m⟩;refine⟨g,i0,?_⟩;refine aa.Ey aj (d.comp m) fw i7 λk h3 p=>?_;refine⟨(k,i+1),jj,⟨i6,?_⟩,i6⟩
  try dsimp only
  rw[aD _ _ b];exact p
 ·rw[qg i4]at d;exact⟨s,i0,d⟩
theorem tH(s b:Sl)(g:bW h a 102 (eG pw d s b))(j:dY h s 1 aw d.l)(ok:gy d):an xQ 14 #[xI (dB a)] h λv h'=>∃r:Sl,v=r/\Sp h h' [dC r d.l]:=by
 refine ts Tryz.func14 ?_;have:=ok.len;have:=ok.room;refine bf (λe=>j1) λ_=>⟨a,i0,s,g.cell i0,(Ge s d.l h j i4 λc i=>by rw[ok.cell c i];decide).mono ?_⟩
 rintro _ k ⟨r,rfl,f⟩;exact⟨r,i0,r,i0,f⟩
end
theorem ZA(b:Sl)(l:aP)(h:f8)(q:Rd h b 1 aw l)(D:ii l<=2^40):an xQ 141 #[b] h λv h'=>v=xG xO (lM l).toNat/\h'=h:=by
 refine ts Tryz.func141 ?_ (.two .n (.two .n (.two (.two .n (.inn (.loop [(3,(.sc (.int .u32))),(9,aS)] [(3,4),(5,7),(9,29)] (.two .n (.two .n (.two (.inn (.two .n (.two .n (.two .n (.inn (.loop [(3,(.sc (.int .u32))),(17,aS)] [(3,4),(6,7),(17,28)] .n)))))) .n)))))) .n)));have A:=q.len;refine aq (λt:Nat=>(((kJ (l.take t)).toNat:Int),(t:Int))) (λt h'=>t<=ii l/\h'=h) (λt=>ii l-t) 0 i0 ⟨i4,i0⟩ ?_;rintro i x ⟨B,rfl⟩;refine ag (λe=>?_) (λe=>?_)
 ·have d:i<ii l:=by have r:(i:Int)<(b.len:Int):=e;omega
  refine q.bt i i0 d (l[i].toNat:Int) i0 ?_;have z:qe xO (l[i].toNat:Int)=((wG 32 l[i].toNat).toNat:Int):=by rw[Kc,w9]
  rw[z,Tg];refine aq (λk:Nat=>(((dV k (kJ (l.take i)^^^wG 32 l[i].toNat)).toNat:Int),(k:Int))) (λk h'=>k<=8/\h'=x) (λk=>8-k) 0 i0 ⟨i4,i0⟩ ?_;rintro k p ⟨E,rfl⟩;obtain⟨c,m⟩:∃c,c=dV k (kJ (l.take i)^^^wG 32 l[i].toNat):=⟨_,rfl⟩
  try dsimp only
  rw[<-m];refine ag (λe2=>⟨i5,?_⟩) (λe2=>?_)
  ·have a:∀n:jq,n=jC c->∃f:Nat,(((n.toNat:Nat):Int),qe xM ((k:Int)+1))=(((dV f (kJ (l.take i)^^^wG 32 l[i].toNat)).toNat:Int),(f:Int))/\(f<=8/\p=p)/\8-f<8-k:=λn u=>
    ⟨k+1,by rw[ai _,u,m];rfl,⟨i4,i0⟩,i4⟩
   have y:qe xO ((qK (qG xO) (c.toNat:Int)&&&qK (qG xO) (1:Int)).toNat:Nat)=((c&&&1#32).toNat:Int):=afJ c 1#32;have s:qe xO ((qK (qG xO) ((c>>>1).toNat:Int)^^^qK (qG xO) (3988292384:Int)).toNat:Nat)=(((c>>>1)^^^3988292384#32).toNat:Int):=Tg (c>>>1) 3988292384#32;rw[y,acw,s];refine cv (λj=>a _ ?_) (λj=>a _ ?_)
   ·unfold jC;rw[f9 ((RB c).1 j)]
   ·unfold jC;rw[g0 λw=>j ((RB c).2 w)]
  ·have g:k=8:=i4
   subst g;refine⟨i+1,?_,⟨i4,i0⟩,i4⟩;rw[ai _,aD _ _ d,Tf,m];rfl
 ·have o:i=ii l:=by have r:¬(i:Int)<(b.len:Int):=e;omega
  subst o;refine⟨?_,i0⟩;rw[qN];exact congrArg (Value.int .u32) (Tg 4294967295#32 (kJ l))
theorem Dv(kind:Int)(d:Sl)(l:aP)(h:f8)(x:Rd h d 1 aw l)(S:ii l<=2^40:=by omega):an xQ 90 #[xG xM kind,d] h λv h'=>∃r:Sl,v=r/\Sp h h' [ae 5 r 1 aw (dW kind l)]:=by
 refine ts Tryz.func90 ?_ (.two .n (.two (.join [] [(4,5),(8,19)] .n) (.two .n (.two .n (.two .n (.two .n (.two (.two .n (.inn (.loop [(32,aS)] [(7,8),(32,45)] .n))) .n)))))));have O:=x.len;have f:¬(1<=kind/\kind<=255/\l.length<=55)->∃r:Sl,Value.slice ez 0 0=xH r.ptr r.len r.cap/\Sp h h [ae 5 r 1 aw (dW kind l)]:=λe=>by
  unfold dW;rw[g0 e];exact⟨⟨ez,0,0⟩,i0,(Sp.refl h).nil 5 1 aw⟩
 refine aT (ag (λe=>f i4) λR=>ag (λe=>f i4) λe2=>ag (λe=>f i4) λP=>?_);refine(Sp.refl h).make aj aw gF i5 0 i0 i0 64 64 i0 i0 (qm _) i5 λo w s t E=>?_;rw[dU];refine E.lit aj aw gF i0 [87,115,1,b8 kind] i0 (show 4*1<=2^20 by decide) i0 λv3 h3 A=>?_;refine A.Ha aj 0 i0 gF (λ_=>rfl) (A.seq 1 i0 λ_=>rfl) gW λ_ k j=>⟨⟨i5,by rw[s];decide⟩,?_⟩
 have j:Sp h k [ae 5 o 1 aw ([87,115,1,b8 kind]++qi 60 0)]:=by have:=j.bB [0];simpa using this
 refine j.MJ aj 0 i0 gF (λ_=>rfl) (Seq.up x j.af) gW 4 i9 i0 i0 λ_ y p=>⟨⟨i5,by rw[t];decide⟩,?_⟩
 have J:([87,115,1,b8 kind]++qi 60 0).take 4++(l.take (ii ([87,115,1,b8 kind]++qi 60 (0:UInt8))-4)++([87,115,1,b8 kind]++qi 60 0).drop (4+ii l))=dJ kind l++qi 5 0:=by
  have L:ii ([87,115,1,b8 kind]++qi 60 (0:UInt8))=64:=i9
  rw[L,qg (l:=l) i4,<-wm];have w:([87,115,1,b8 kind]++qi 60 (0:UInt8)).drop 4=qi 60 0:=rfl;have h3:([87,115,1,b8 kind]++qi 60 (0:UInt8)).take 4=[87,115,1,b8 kind]:=rfl;rw[w,h3,List.drop_replicate];unfold dJ;have k:qi (60-ii l) (0:UInt8)=qi (55-ii l) 0++qi 5 0:=by rw[List.replicate_append_replicate];congr 1;omega
  rw[k];simp[qn]
 rw[J]at p;have a:ii (dJ kind l)=59:=tl i4;have H:Rd y ⟨o.ptr,59,o.cap⟩ 1 aw (dJ kind l):=by have:=(p.seq 0 i0 λ_=>rfl).take 59 m5;rw[wv i4,qg i4]at this;exact this
 refine(ZA ⟨o.ptr,59,o.cap⟩ (dJ kind l) y H i4).mono ?_;rintro _ M ⟨rfl,rfl⟩;obtain⟨c,B⟩:∃c,c=lM (dJ kind l):=⟨_,rfl⟩
 rw[<-B];refine⟨_,i0,?_⟩;refine aq (λi:Nat=>(i:Int)) (λi h'=>i<=4/\Sp h h' [ae 5 o 1 aw (dJ kind l++((kT c).take i++qi (5-i) 0))]) (λi=>4-i) 0 i0 ⟨i4,by simpa using p⟩ ?_;rintro i N ⟨Q,z⟩;have b:=AY c;refine ag (λe=>?_) (λe=>?_)
 ·have I:i<4:=by have D:(i:Int)<4:=e;omega
  rw[ai ((8:Int)*i),ai ((59:Int)+i)];refine⟨i4,?_⟩;have F:((8:Int)*(i:Int)).toNat=8*i:=i4
  have G:min (8*i) (qG xO)=8*i:=by have:qG xO=32:=rfl;omega
  rw[F,G,dU];have K:b8 (zG (c.toNat:Int) (2^(8*i)))=(kT c)[i]'(by omega):=by simp[kT]
  rw[K];refine z.set aj 0 i0 (λ_=>rfl) i0 (59+i) i4 (by simp[a];omega) ((kT c)[i]'(by omega)) i0 i0 i0 λh8 g=>?_;refine⟨i+1,j0,⟨i4,?_⟩,i4⟩;have q:(dJ kind l++((kT c).take i++qi (5-i) 0)).set (59+i) ((kT c)[i]'(by omega))=dJ kind l++((kT c).take (i+1)++qi (5-(i+1)) 0):=by
   rw[qS _ _ i4,a,zn,qS _ _ i7,aD _ _];have:5-i=(5-(i+1))+1:=i4
   rw[this,yi];simp[b,Nat.min_eq_left (show i<=4 by omega)];rw[aD _ _ (show i<ii (kT c) by omega),qn];rfl
  rw[q]at g;exact g
 ·have u:i=4:=by have D:¬(i:Int)<4:=e;omega
  subst u;refine z.set aj 0 i0 (λ_=>rfl) i0 63 i0 (by simp[a,b]) 165 i0 i0 i0 λh8 g=>⟨o,i0,?_⟩
  have m:(dJ kind l++((kT c).take 4++qi (5-4) 0)).set 63 165=dW kind l:=by unfold dW;rw[f9 ⟨i4,i4,i4⟩,<-B,qg i4,qS _ _ i4,a,qS _ _ m4];simp[b]
  rw[m]at g;exact g
abbrev dD:=ByteArray×Int×Int×Sl
abbrev bo:=Int×Int×Int×Int×Int×Int×Sl×Sl
abbrev bh(x:dD):aR:=[xJ x.1,xG xM x.2.1,xG xM x.2.2.1,x.2.2.2]
abbrev az(x:bo):aR:=[xG xM x.1,xG xM x.2.1,xG xM x.2.2.1,xG xM x.2.2.2.1,xG xM x.2.2.2.2.1,xG xM x.2.2.2.2.2.1,x.2.2.2.2.2.2.1,x.2.2.2.2.2.2.2]
abbrev dq(x:bo):Value:=xL #[xG xM x.1,xG xM x.2.1,xG xM x.2.2.1,xG xM x.2.2.2.1,xG xM x.2.2.2.2.1,xG xM x.2.2.2.2.2.1,x.2.2.2.2.2.2.1,x.2.2.2.2.2.2.2]
def ff:iy dD Qw.dm:=⟨λh q a b=>(a.1=b.name/\a.2.1=b.object/\a.2.2.1=b.length)/\Seq h q a.2.2.2 1 ak b.tries,λa c=>⟨a.1,a.2.af c⟩,λa d=>⟨a.1,a.2.mono d⟩⟩
abbrev py:iy Sl (List Qw.dm):=bv ff 4 bh
structure oP (h:f8) (q:av) (x:bo) (m:aA):Prop where
 seq:x.1=m.seq
 next:x.2.1=m.next
 p:(x.2.2.1,x.2.2.2.1,x.2.2.2.2.1)=m.p
 extra:x.2.2.2.2.2.1=m.extra
 drives:Seq h q x.2.2.2.2.2.2.1 1 ak m.drives
 objs:py.p h q x.2.2.2.2.2.2.2 m.objs
 dcap:x.2.2.2.2.2.2.1.len<=x.2.2.2.2.2.2.1.cap
 ocap:x.2.2.2.2.2.2.2.len<=x.2.2.2.2.2.2.2.cap
abbrev dh(h:f8)(x:bo)(m:aA):Prop:=oP h (λb=>b<h.size) x m
theorem oP.af{h h':f8}{q:av}{x:bo}{m:aA}(a:oP h q x m)(b:aN q h h'):oP h' q x m:=⟨a.seq,a.next,a.p,a.extra,a.drives.af b,py.loc a.objs b,a.dcap,a.ocap⟩
theorem oP.mono{h:f8}{q q':av}{x:bo}{m:aA}(a:oP h q x m)(c:∀b,q b->q' b):oP h q' x m:=⟨a.seq,a.next,a.p,a.extra,a.drives.mono c,py.mono a.objs c,a.dcap,a.ocap⟩
theorem dh.up{h h':f8}{x:bo}{m:aA}(a:dh h x m)(c:aN (λb=>b<h.size) h h'):dh h' x m:=(oP.af a c).mono λ_ d=>qT d c.1
def aZ(x:bo)(m:aA):HP:=⟨λh q=>oP h q x m,λa c=>a.af c,λa b=>a.mono b⟩
theorem EQ:∀x,∀c∈bh x,c.oneCell'=eH:=by intro x c a;simp[bh]at a;rcases a with rfl|rfl|rfl|rfl<;>rfl
theorem pz(n a b:Int)(h:f8):an xQ 147 #[xG xM n,xG xM a,xG xM b] h λv h'=>v=xK (fo n a b)/\h'=h:=by
 refine ts Tryz.func147 ?_;unfold fo;refine ag (λe=>⟨?_,i0⟩) (λe=>⟨?_,i0⟩)
 ·rw[g9 (show a<=n from e)];rfl
 ·rw[hU (show¬a<=n from e)];rfl
theorem Ku(s:ByteArray)(h:f8)(H:s.size<=2^40):an xQ 110 #[xJ s] h λv h'=>v=xK (ly s)/\Sp h h' []:=by
 refine ts Tryz.func110 ?_ (.two .n (.two (.two .n (.inn (.loop [(8,aS)] [(2,3),(4,5),(8,31)] .n))) .n));refine acx aj ⟨_,i0,i0⟩ ⟨_,i0,i0⟩ ⟨_,i0,i0⟩ s λr F o=>?_;have z:=o.rd 0 i0;have D:=z.len;have B:=AZ s;refine aq (λi:Nat=>(i:Int)) (λi h'=>i<=s.size/\h'=F/\∀c∈(iX s).take i,mu c=eH) (λi=>s.size-i) 0 i0 ⟨i4,i0,i9⟩ ?_;rintro i q ⟨G,rfl,d⟩;refine ag (λe=>?_) (λe=>?_)
 ·have j:i<ii (iX s):=by have A:(i:Int)<(r.len:Int):=e;omega
  refine z.bt i i0 j ((iX s)[i].toNat:Int) i0 ?_;obtain⟨c,u⟩:∃c,c=(iX s)[i]:=⟨_,rfl⟩
  rw[<-u];have a:mu c=eH->∃p:Nat,qe xM ((i:Int)+1)=(p:Int)/\(p<=s.size/\q=q/\∀c∈(iX s).take p,mu c=eH)/\s.size-p<s.size-i:=λt=>
   ⟨i+1,j0,⟨i4,i0,λx k=>by
    rw[aD _ _ j]at k;rcases qy.1 k with k|k
    ·exact d x k
    ·rw[qp.1 k,<-u];exact t⟩,i4⟩
  have g:mu c=eL->Value.bool eL=xK (ly s)/\Sp h q []:=λt=>by
   refine⟨?_,o.bB []⟩;unfold ly;have:s.data.toList.all mu=eL:=vb.2 ⟨c,by rw[u];exact qf j,by rw[t];simp⟩;rw[this];rfl
  have b:mu c=eH↔((97<=(c.toNat:Int)/\(c.toNat:Int)<=122)∨(48<=(c.toNat:Int)/\(c.toNat:Int)<=57)∨(c.toNat:Int)=45):=by unfold mu;simp[or_assoc];omega
  have f:mu c=eL↔¬((97<=(c.toNat:Int)/\(c.toNat:Int)<=122)∨(48<=(c.toNat:Int)/\(c.toNat:Int)<=57)∨(c.toNat:Int)=45):=by rw[<-b];cases mu c<;>simp
  refine ag (λw=>ag (λe2=>bx (λm=>g (f.2 i4)) λm=>a (b.2 i4)) λe2=>ag (λm=>bx (λl=>g (f.2 i4)) λl=>a (b.2 i4)) λm=>a (b.2 i4)) λw=>ag (λe2=>ag (λm=>bx (λl=>g (f.2 i4)) λl=>a (b.2 i4)) λm=>ag (λl=>bx (λE=>g (f.2 i4)) λE=>a (b.2 i4)) λl=>a (b.2 i4)) λe2=>a (b.2 i4)
 ·have A:¬(i:Int)<(r.len:Int):=e;rw[qg i4]at d;have y:s.data.toList.all mu=eH:=qY.2 d;refine ag (λw=>⟨?_,o.bB []⟩) (λw=>⟨?_,o.bB []⟩)
  ·unfold ly;rw[y,g9 (show 1<=s.size by omega)];congr 1;simp;omega
  ·unfold ly;rw[y,hU (show¬1<=s.size by omega)];rfl
theorem Wq(s:Sl)(l:aB)(most:Int)(h:f8)(r:Rd h s 1 ak l)(y:ii l<=2^40):an xQ 148 #[s,xG xM most] h λv h'=>v=xK (oD l most)/\h'=h:=by
 refine ts Tryz.func148 ?_ (.two .n (.two (.two .n (.inn (.loop [(9,aS)] [(4,7),(9,32)] .n))) .n));have w:=r.len;refine aq (λi:Nat=>(i:Int)) (λi h'=>i<=ii l/\h'=h/\∀j,j<i->jD l most j=eH) (λi=>ii l-i) 0 i0 ⟨i4,i0,i4⟩ ?_;rintro i g ⟨z,rfl,a⟩;refine ag (λe=>?_) (λe=>?_)
 ·have c:i<ii l:=by have t:(i:Int)<(s.len:Int):=e;omega
  refine r.bt i i0 c l[i] i0 ?_;have m:l.getD i 0=l[i]:=getD_lt c;have f:jD l most i=eL->Value.bool eL=xK (oD l most)/\g=g:=λq=>⟨by unfold oD;rw[CN c q],i0⟩
  have b:jD l most i=eH->∃o:Nat,qe xM ((i:Int)+1)=(o:Int)/\(o<=ii l/\g=g/\∀j,j<o->jD l most j=eH)/\l.length-o<ii l-i:=λq=>
   ⟨i+1,j0,⟨i4,i0,λj u=>by
    by_cases p:j=i
    ·rw[p];exact q
    ·exact a j i4⟩,i4⟩
  refine(pz l[i] 0 most g).mono ?_;rintro _ _ ⟨rfl,rfl⟩;refine⟨_,i0,aQ (λk=>f (by unfold jD;rw[m,k];rfl)) λk=>ag (λe2=>?_) λe2=>b (by unfold jD;rw[m,k,g9 (show i=0 by omega)];rfl)⟩;rw[ai ((i:Int)-1)];refine r.bt (i-1) i4 i4 (l[i-1]'(by omega)) i0 ?_;have d:l.getD (i-1) 0=l[i-1]'(by omega):=getD_lt;refine ag (λx=>f ?_) (λx=>b ?_)
  ·unfold jD;rw[m,d,k,hU (show¬i=0 by omega),hU i4];rfl
  ·unfold jD;rw[m,d,k,g9 (show l[i-1]'(by omega)<l[i]by omega)];simp
 ·have t:¬(i:Int)<(s.len:Int):=e;exact⟨by unfold oD;rw[rF λj u=>a j i4],i0⟩
theorem su(p:Pm)(n:Int)(h:f8)(q:n<=2^40:=by omega):an xQ 67 #[jQ p,xG xM n] h λv h'=>v=xG xM (countP p n)/\Sp h h' []:=by
 refine ts Tryz.func67 ?_ (.two .n (.two (.join [] [(4,12)] .n) .n)) (args:=[p,(n:Int)]);refine(Sp.refl h).boxed λo g d=>?_;refine aT ⟨p,(d.box 0 i0).aE _ i0,(eF p g).mono ?_⟩;rintro _ j ⟨rfl,k⟩;have b:=d.up k.af;refine⟨_,i0,aQ (λe=>⟨?_,b.bB []⟩) λf=>ag (λe=>⟨?_,b.bB []⟩) λe=>?_⟩
 ·unfold countP;rw[e];rfl
 ·unfold countP;rw[hU (show¬0<n by omega),Bool.and_false];rfl
 ·have l:=(cg p).1 f;refine⟨p,(b.box 0 i0).aE _ i0,?_⟩;refine(Ar p (R:=λv h'=>v=xG xM (p.1*p.2.2)/\Sp h h' []) ?_).mono ?_
  ·skip
   refine b.boxed λm h3 c=>⟨p.1,(c.box 1 i0).cell0 i0,p.2.2,(c.box 1 i0).cell i0,?_,c.bB []⟩
   have r:p.1*p.2.2<=16*24:=yg i4 i4 i4 i4;have a:0<=p.1*p.2.2:=vV i4 i4;rw[ai _]
  ·rintro _ h3 ⟨rfl,i⟩;have a:0<p.1*p.2.2:=xx i4 i4;refine⟨_,i0,Int.ne_of_gt a,?_,i⟩;have g:(n-1)/(p.1*p.2.2)<=n-1:=xi _ i4;have j:0<=(n-1)/(p.1*p.2.2):=Int.ediv_nonneg i4 i4;rw[ai (n-1),Int.tdiv_eq_ediv_of_nonneg i4,ai ((n-1)/(p.1*p.2.2)),ai _];unfold countP;rw[f,g9 (show 0<n by omega)];rfl
theorem PQ(s:Sl)(l:aB)(h:f8)(f:Rd h s 1 ak l)(k:ii l<=2^40):an xQ 121 #[s,.func (.func 218) #[] #[]] h λv h'=>v=xK (!l.all (fo · 0 15))/\h'=h:=by
 refine ts Tryz.func121 ?_ (args:=[s,(.func (.func 218) #[] #[])]);have j:=f.len;refine(iB s (218,#[],#[]) (R:=λv h'=>(∃i:Int,v=xG xM i/\(decide (i>=0)=!l.all (fo · 0 15)))/\h'=h) ?_).mono ?_
 ·skip
  refine aq (λi:Nat=>(i:Int)) (λi h'=>i<=ii l/\(l.take i).all (fo · 0 15)=eH/\h'=h) (λi=>ii l-i) 0 i0 ⟨i4,i9,i0⟩ ?_;rintro i c ⟨d,a,rfl⟩;refine ag (λe=>?_) (λe=>?_)
  ·have b:i<ii l:=by have g:(i:Int)<(s.len:Int):=e;omega
   refine f.bt i i0 b l[i] i0 (dL lx ?_);refine(Gc l[i] (R:=λv h'=>v=xK (!fo l[i] 0 15)/\h'=c) ?_).mono ?_
   ·skip
    refine(pz l[i] 0 15 c).mono ?_;rintro _ _ ⟨rfl,rfl⟩;exact⟨_,i0,i0,i0⟩
   ·rintro _ _ ⟨rfl,rfl⟩;refine⟨_,i0,aQ (λe2=>?_) λe2=>?_⟩
    ·refine⟨⟨i,i0,?_⟩,i0⟩;rw[g9 (show(i:Int)>=0 by omega)];have:l.all (fo · 0 15)=eL:=vb.2 ⟨_,qf b,by rw[e2];simp⟩;rw[this];rfl
    ·refine⟨i+1,j0,⟨i4,?_,i0⟩,i4⟩;rw[aD _ _ b,vp,a];simp[e2]
  ·have g:¬(i:Int)<(s.len:Int):=e;refine⟨⟨-1,i0,?_⟩,i0⟩;rw[qg i4]at a;rw[a];rfl
 ·rintro _ c ⟨⟨i,rfl,d⟩,rfl⟩;exact⟨i,i0,by rw[d],i0⟩
structure cw (m:aA):Prop where
 dr:m.drives.length<=2^30
 ob:m.objs.length<=2^30
 nm:∀e∈m.objs,e.name.size<=2^30/\e.tries.length<=2^30
theorem addr_add(a:eX)(i j:Nat):(a.add i).add j=a.add (i+j):=by unfold Addr.add;by_cases c:i=0<;>by_cases b:j=0<;>simp[c,b,w5]
theorem bW.uL{h:f8}{a:eX}{e:TypeId}{b:aR}{v:Value}(c:bW h a e b)(i j:Nat)(d:b[i+j]?=dB v):f7 h ((a.add i).add j)=dB v:=by rw[addr_add];exact c.cell d
theorem bW.uM{h:f8}{a:eX}{e:TypeId}{b:aR}{u v w:Value}(c:bW h a e b)(i:Nat)(g:b[i]?=dB u)(f:b[i+1]?=dB v)(d:b[i+2]?=dB w):bp h (a.add i) 0 [u,v,w]:=
 ⟨c.uL i 0 g,c.uL i 1 f,c.uL i 2 d,trivial⟩
abbrev Jr:bI C.toAi 37 88 4 [xJ ⟨#[]⟩,xG xM 0,xG xM 0,xH ez 0 0] 56:=⟨_,_,i0,i0,i0,i0,i0,i0⟩
theorem TC(x:bo)(m:aA)(e:dD)(E:Qw.dm)(h:f8)(i:dh h x m)(H:dM ff h e E)(J:kK m=eH)(Q:E.name.size<=2^30)(N:E.tries.length<=2^30):
  an xQ 149 #[dq x,xL #[xJ e.1,xG xM e.2.1,xG xM e.2.2.1,e.2.2.2]] h λv h'=>v=xK (gC m E)/\Sp h h' []:=by
 refine ts Tryz.func149 ?_ (.two .n (.two (.join [] [(4,5),(6,33)] .n) .n)) (args:=[x,e]);obtain⟨_,B,f,_⟩:=ML J;have L:=(cg m.p).1 f;obtain⟨⟨K,e2,w⟩,s⟩:=H;have g:x.2.2.1=m.p.1:=congrArg (·.1) i.p;have o:x.2.2.2.1=m.p.2.1:=congrArg (·.2.1) i.p;have c:x.2.2.2.2.1=m.p.2.2:=congrArg (·.2.2) i.p;have S:m.p.1*m.p.2.2<=16*24:=yg i4 i4 i4 i4;have F:0<=m.p.1*m.p.2.2:=vV i4 i4;refine(Sp.refl h).boxed λP R G=>?_;refine G.boxed λO A t=>?_;have j:∀{h':f8} {As:List HP},Sp h h' As->gC m E=eL->Value.bool eL=xK (gC m E)/\Sp h h' []:=λ{h' As} H' d=>⟨by rw[d],.zip H'.af⟩
 refine aT ⟨E.name,by rw[<-K];exact(t.box 1 i0).cell0 i0,(Ku E.name A i4).mono ?_⟩;rintro _ h3 ⟨rfl,z⟩;have a:=t.up z.af;refine⟨_,i0,aQ (λb=>j a (by unfold gC;rw[b];rfl)) λk=>?_⟩;refine⟨E.object,by rw[<-e2];exact(a.box 1 i0).cell i0,m.next,by rw[<-i.next];exact(a.box 0 i0).cell i0,?_⟩
 try dsimp only
 rw[ai (m.next-1)];refine(pz E.object 0 (m.next-1) h3).mono ?_;rintro _ _ ⟨rfl,rfl⟩;refine⟨_,i0,aQ (λb=>j a (by unfold gC;rw[k,b];rfl)) λr=>?_⟩;have d:=a.box 0 i0;refine⟨E.length,by rw[<-w];exact(a.box 1 i0).cell i0,m.p.1,by rw[<-g];exact d.cell i0,m.p.2.2,by rw[<-c];exact d.uL 2 2 i0,?_⟩
 try dsimp only
 rw[ai (m.p.1*m.p.2.2),ai (m.p.1*m.p.2.2*8)];refine(pz E.length 0 (m.p.1*m.p.2.2*8) _).mono ?_;rintro _ _ ⟨rfl,rfl⟩;refine⟨_,i0,aQ (λb=>j a (by unfold gC;rw[k,r,b];rfl)) λl=>?_⟩;have u:0<=E.length/\E.length<=m.p.1*m.p.2.2*8:=by unfold fo at l;simpa using l
 refine⟨e.2.2.2,(a.box 1 i0).cell i0,?_⟩;refine(PQ e.2.2.2 E.tries _ (Seq.up s a.af) i4).mono ?_;rintro _ _ ⟨rfl,rfl⟩;refine⟨_,i0,aQ (λb=>?_) λb=>⟨trivial,j a ?_⟩⟩
 ·have q:E.tries.all (fo · 0 15)=eH:=k9
  refine⟨e.2.2.2,(a.box 1 i0).cell i0,m.p,?_,E.length,by rw[<-w];exact(a.box 1 i0).cell i0,?_⟩
  ·rw[<-g,<-o,<-c];exact d.uM 2 i0 i0 i0
  ·refine(su m.p E.length _).mono ?_;rintro _ M ⟨rfl,I⟩;have y:=a.up I.af;refine⟨_,i0,⟨(y.box 1 i0).cell i0,trivial⟩,?_,.zip y.af⟩;unfold gC;have D:=s.len;rw[k,r,l,q,D];simp;rfl
 ·have q:E.tries.all (fo · 0 15)=eL:=k9
  unfold gC;rw[k,r,l,q];rfl
theorem PR(a:eX)(e:dD)(l:Sl)(b:List Qw.dm)(h:f8)(o:bW h a 88 (bh e))(p:dM py h l b)(E:b.length<=2^30):
  an xQ 150 #[l,.func (.func 151) #[] #[xI (dB a)]] h λv h'=>v=xK (b.any λy=>decide (y.object=e.2.1))/\Sp h h' []:=by
 refine ts Tryz.func150 ?_ (args:=[l,(.func (.func 151) #[] #[xI (dB a)])]);refine(ia l (151,#[],#[xI (dB a)]) (R:=λv h'=>(∃i:Int,v=xG xM i/\(decide (i>=0)=b.any λy=>decide (y.object=e.2.1)))/\Sp h h' []) ?_).mono ?_
 ·skip
  obtain⟨q,w,F,B⟩:=bv.jZ p;have u:=bv.len p;refine aq (λi:Nat=>(i:Int)) (λi h'=>i<=b.length/\(b.take i).any (λy=>decide (y.object=e.2.1))=eL/\Sp h h' []) (λi=>b.length-i) 0 i0 ⟨i4,i9,Sp.refl h⟩ ?_;rintro i m ⟨r,c,j⟩;refine ag (λn=>?_) (λn=>?_)
  ·have d:i<b.length:=by have s:(i:Int)<(l.len:Int):=n;omega
   obtain⟨⟨_,z,_⟩,_⟩:=B i i4 d;refine(Seq.up w j.af).cX (g:=bh) i i0 i4 (q[i]'(by omega)) i0 (dL lx ?_);refine(Jp (q[i]'(by omega)) a (R:=λv h'=>v=xK (b[i].object==e.2.1)/\Sp m h' []) ?_).mono ?_
   ·skip
    refine(Sp.refl m).boxed λD t f=>?_;have k:=o.af (up j.af f.af) o.lt;exact⟨b[i].object,by rw[<-z];exact(f.box 0 i0).cell i0,e.2.1,k.cell i0,i0,.zip f.af⟩
   ·rintro _ t ⟨rfl,x⟩;have f:=j.up x.af;refine⟨_,i0,cv (λe2=>?_) λe2=>?_⟩
    ·refine⟨⟨i,i0,?_⟩,f⟩;rw[g9 (show(i:Int)>=0 by omega)];exact(wq.2 ⟨_,qf d,nq⟩).symm
    ·refine⟨i+1,j0,⟨i4,?_,f⟩,i4⟩;rw[aD _ _ d,y0,c];simpa using e2
  ·have s:¬(i:Int)<(l.len:Int):=n;refine⟨⟨-1,i0,?_⟩,j⟩;rw[qg i4]at c;rw[c];rfl
 ·rintro _ m ⟨⟨i,rfl,r⟩,A⟩;exact⟨i,i0,by rw[r],A⟩
theorem Gg(x:bo)(m:aA)(h:f8)(f:dh h x m)(S:cw m):an xQ 100 #[dq x] h λv h'=>v=xK (bs m)/\Sp h h' []:=by
 refine ts Tryz.func100 ?_ (.two .n (.two (.join [] [(2,3),(5,27)] .n) (.two (.join [] [(2,3),(27,37)] .n) (.two (.two .n (.inn (.loop [(40,aS)] [(2,5),(40,72)] (.two .n (.two .n (.two (.inn (.two .n (.two (.join [] [(2,3),(45,65)] .n) .n))) .n)))))) .n)))) (args:=[x]);refine(Sp.refl h).boxed λR h1 G=>?_;have w:=G.box 0 i0;have O:x.2.2.1=m.p.1:=congrArg (·.1) f.p;have Q:x.2.2.2.1=m.p.2.1:=congrArg (·.2.1) f.p;have N:x.2.2.2.2.1=m.p.2.2:=congrArg (·.2.2) f.p;have u:∀{h':f8} {As:List HP},Sp h h' As->bs m=eL->Value.bool eL=xK (bs m)/\Sp h h' []:=λ{h' As} H' w=>⟨by rw[w],.zip H'.af⟩
 refine aT ⟨m.seq,by rw[<-f.seq];exact w.cell0 i0,(pz m.seq 1 2147483647 h1).mono ?_⟩;rintro _ _ ⟨rfl,rfl⟩;refine⟨_,i0,aQ (λb=>u G (by unfold bs kK;rw[b];rfl)) λF=>?_⟩;refine⟨m.next,by rw[<-f.next];exact w.cell i0,(pz m.next 0 16777216 _).mono ?_⟩;rintro _ _ ⟨rfl,rfl⟩;refine⟨_,i0,aQ (λb=>u G (by unfold bs kK;rw[F,b];rfl)) λL=>?_⟩;refine⟨m.p,by rw[<-O,<-Q,<-N];exact w.uM 2 i0 i0 i0,(eF m.p _).mono ?_⟩;rintro _ h2 ⟨rfl,R2⟩;have r:=G.up R2.af;refine⟨_,i0,aQ (λb=>u r (by unfold bs kK;rw[F,L,b];rfl)) λY=>?_⟩;refine⟨m.extra,by rw[<-f.extra];exact(r.box 0 i0).cell i0,(pz m.extra 0 16 _).mono ?_⟩;rintro _ _ ⟨rfl,rfl⟩;refine⟨_,i0,aQ (λb=>u r (by unfold bs kK;rw[F,L,Y,b];rfl)) λb4=>?_⟩;have I:kK m=eH:=by unfold kK;rw[F,L,Y,b4];rfl
 have V:=f.up r.af;have s:=r.box 0 i0;have ab:=S.dr;have al:=S.ob;refine aT ⟨_,s.cell i0,(Wq _ m.drives 63 _ V.drives i4).mono ?_⟩;rintro _ _ ⟨rfl,rfl⟩;refine⟨_,i0,aQ (λb=>u r (by unfold bs;rw[I,b];rfl)) λb5=>?_⟩;have X:=bv.len f.objs;refine⟨x.2.2.2.2.2.2.2,s.cell i0,ag (λe=>u r ?_) λad=>?_⟩
 ·unfold bs;rw[I,b5,hU i4];rfl
 have U:ii m.objs<=12:=i4
 refine⟨x.2.2.2.2.2.2.2,s.cell i0,?_⟩;obtain⟨l,D⟩:=bv.fix f.objs;have ah:=D.2.1;refine aq (λi:Nat=>(i:Int)) (λi h'=>i<=ii m.objs/\(∀j,j<i->oE m j=eH)/\Sp h h' [ac R 39 (az x)]) (λi=>ii m.objs-i) 0 i0 ⟨i4,i4,r⟩ ?_;rintro i h3 ⟨hi,o,T⟩;refine ag (λe=>?_) (λe=>?_)
 ·have d:i<ii m.objs:=by have e':(i:Int)<(x.2.2.2.2.2.2.2.len:Int):=e;omega
  have E:=S.nm _ (qf d);have c:oC m.objs i=m.objs[i]:=nK d;have z:∀{h':f8} {As:List HP},Sp h h' As->oE m i=eL->Value.bool eL=xK (bs m)/\Sp h h' []:=λ{h' As} H' w=>u H' (by unfold bs;rw[CN d w];simp);have F3:=nl.up D T.af;refine F3.1.cX (g:=bh) i i0 i4 (l[i]'(by omega)) i0 ?_;refine T.alloc aj i0 λA h4 H4=>?_;refine H4.storeAll aj 1 i0 i0 (bh (l[i]'(by omega))) i0 i0 i0 i0 λh5 y=>?_;have y:Sp h h5 [ac R 39 (az x),ac A 88 (bh (l[i]'(by omega)))]:=y;have Z:=nl.up D y.af;obtain⟨⟨y1,y2,y3⟩,y4⟩:=Fix.row Z d;obtain⟨b6,k⟩:∃b,b=(decide (i=0)||fd (oC m.objs (i-1)).name (oC m.objs i).name):=⟨_,rfl⟩
  refine bG (λ_ h'=>gC m m.objs[i]=eH/\b6=eH/\Sp h h' [ac R 39 (az x),ac A 88 (bh (l[i]'(by omega)))]) ?_ ?_
  ·refine⟨x,(y.box 0 i0).aE _ i0,l[i]'(by omega),(y.box 1 i0).aE _ i0,?_⟩;refine(TC x m (l[i]'(by omega)) m.objs[i] h5 (f.up y.af) (Fix.row Z d) I E.1 E.2).mono ?_;rintro _ h6 ⟨rfl,R6⟩;have a:=y.up R6.af;have H:=nl.up D a.af;refine⟨_,i0,trivial,aQ (λb=>z a (by unfold oE;rw[c,b];rfl)) λb=>ag (λe2=>?_) λe2=>⟨b,by rw[k,g9 (show i=0 by omega)];rfl,a⟩⟩;rw[ai ((i:Int)-1)];obtain⟨M,ha,zz,hc,rfl⟩:=H.1.cX (g:=bh) (i:=(i:Int)-1) (i-1) i4 i4 (l[i-1]'(by omega)) rfl (K:=λt=>t=l[i-1]'(by omega)) rfl;refine⟨x.2.2.2.2.2.2.2,(a.box 0 i0).cell i0,M,ha,m.objs[i-1].name,?_,m.objs[i].name,?_,?_⟩
   ·rw[<-(Fix.row H (show i-1<ii m.objs by omega)).1.1];exact hc.1
   ·rw[<-y1];exact(a.box 1 i0).cell0 i0
   ·have q:oC m.objs (i-1)=m.objs[i-1]:=nK;rw[c,q]at k;refine aQ (λB=>z a ?_) (λB=>⟨b,?_,a⟩)
    ·unfold oE;rw[c,q,b,hU (show¬i=0 by omega)];unfold fd;rw[B];rfl
    ·rw[k];unfold fd;rw[B];simp
  ·rintro _ h6 ⟨b,P,a⟩;have H:=nl.up D a.af;refine⟨x.2.2.2.2.2.2.2,(a.box 0 i0).cell i0,⟨i4,by have:=f.ocap;omega⟩,?_⟩;rw[qk];refine(PR A (l[i]'(by omega)) ⟨x.2.2.2.2.2.2.2.ptr,i,x.2.2.2.2.2.2.2.cap⟩ (m.objs.take i) h6 (a.box 1 i0) (bv.take H.elt i i4) i7).mono ?_;rintro _ h7 ⟨rfl,R7⟩;have W:=a.up R7.af;rw[y2];refine⟨_,i0,bf (λB=>z W ?_) λB=>?_⟩
   ·unfold oE;rw[c,B];simp
   ·refine⟨i+1,j0,⟨i4,λj hj=>?_,W.bB [0]⟩,i4⟩;by_cases J:j=i
    ·subst J;rw[P]at k;unfold oE;rw[<-k,c,b,B];rfl
    ·exact o j i4
 ·have e':¬(i:Int)<(x.2.2.2.2.2.2.2.len:Int):=e;refine⟨?_,.zip T.af⟩;unfold bs;rw[I,b5,g9 U,rF λj hj=>o j i4];rfl
theorem pR(s:Sl)(l:aP)(n:Int)(k:Nat)(x:k<=4)(u:ii l<=2^20)(H:aa B h0 h (ae 5 s 1 aw l::As)):
  an xQ 152 #[s,xG xM n,xG xM k] h λv h'=>∃b:Sl,v=b/\aa B h0 h' (ae 5 b 1 aw (l++ce n k)::As):=by
 refine ts Tryz.func152 ?_ (.two .n (.two (.two .n (.inn (.loop [(0,cK),(7,aS)] [(0,1),(7,8),(10,22)] .n))) .n));have c:=cD n k;refine aq (λt:Sl×Nat=>(t.1,(k:Int)-1-t.2)) (λt h'=>t.2<=k/\aa B h0 h' (ae 5 t.1 1 aw (l++(ce n k).take t.2)::As)) (λt=>k-t.2) (s,0) (by rw[ai _];simp) ⟨i9,l6⟩ ?_;rintro⟨o,j⟩ w ⟨r,a⟩;dsimp only at*;refine ag (λe=>?_) (λe=>?_)
 ·have g:j<k:=i4
  rw[ai ((8:Int)*((k:Int)-1-j))];refine⟨i4,?_⟩;have f:((8:Int)*((k:Int)-1-j)).toNat=8*(k-1-j):=i4
  have m:min (8*(k-1-j)) (qG xM)=8*(k-1-j):=by have:qG xM=64:=rfl;omega
  rw[f,m,dU];have p:b8 (zG n (2^(8*(k-1-j))))=(ce n k)[j]'(by omega):=by simp[ce]
  rw[p];refine a.push aj 0 i0 gF i0 i5 (λ_=>rfl) gW ((ce n k)[j]'(by omega)) i0 i5 i7 λi q d=>?_;refine⟨(i,j+1),by dsimp only;rw[ai _];congr 1;omega,⟨i6,?_⟩,i6⟩
  try dsimp only
  rw[aD _ _ (show j<ii (ce n k) by omega),<-qn];exact d
 ·rw[qg i4]at a;exact⟨o,i0,a⟩
theorem HC(b:Sl)(l:aB)(o:Sl)(c:aP)(H:aa B h0 h (ae 5 o 1 aw c::As))(r:St B h0 As λh=>Rd h b 1 ak l)(D:ii c<=2^30)(F:ii l<=2^30){K:Sl×Int->f8->Prop}
  (y:∀q h',aa B h0 h' (ae 5 q 1 aw (c++l.map b8)::As)->K (q,(ii l:Int)) h'):
  gU (σ:=Sl×Int) (λa A h8=>
 Br (decide (a.2<((b.len:Nat):Int)))
 (∃j:eX,(b.ptr=dB j/\0<=a.2/\a.2<((b.len:Nat):Int))/\
 ∃g:Int,f7 h8 (j.add (a.2.toNat*1))=dB (xG xM g)/\
 bz xQ (Instr.buildSlice 58 1 #[(0,(xG xN (qe xN g)))]) (.one (.sc .slc)) h8 λd z=>
 bz xQ (Builtin.append_ #[58,58] 58 #[(xH a.1.ptr a.1.len a.1.cap),(xH d.ptr d.len d.cap)]) (.one (.sc .slc)) z λf n=>
 A ((⟨f.ptr,f.len,f.cap⟩:Sl),qe xM (a.2+(1:Int))) n)
 (K a h8)) (o,(0:Int)) h:=by
 have v:b.len=ii l:=(r.at [_] H).len;refine aq (λt:Sl×Nat=>(t.1,(t.2:Int))) (λt h'=>t.2<=ii l/\aa B h0 h' (ae 5 t.1 1 aw (c++(l.take t.2).map b8)::As)) (λt=>ii l-t.2) (o,0) i0 ⟨i9,l6⟩ ?_;rintro⟨u,i⟩ w ⟨G,m⟩;dsimp only at*;refine ag (λe=>?_) (λe=>?_)
 ·have k:i<ii l:=i4
  refine(r.at [_] m).bt i i0 k l[i] i0 ?_;rw[dU];refine m.push aj 0 i0 gF i0 i5 (λ_=>rfl) gW (b8 l[i]) i0 i5 i7 λx E s=>?_;refine⟨(x,i+1),jj,⟨i6,?_⟩,i6⟩
  try dsimp only
  rw[aD _ _ k,qM,<-qn];exact s
 ·have p:i=ii l:=i4
  subst p;rw[qN]at m;exact y u w m
theorem acN{m:aA}(a:bs m=eH){i:Nat}(b:i<ii m.objs):gC m m.objs[i]=eH:=by
 unfold bs at a;simp only[qw]at a;have:=qY.1 a.2.2.2 i (qC.2 b);unfold oE at this;simp only[qw]at this;have c:=this.1
 rwa [nK b]at c
theorem Wr{m:aA}(d:bs m=eH){i:Nat}(f:i<m.objs.length):m.objs[i].name.size<=12/\m.objs[i].tries.length<=3073:=by
 have b:=acN d f;unfold gC ly at b;simp only[qw,decide_eq_true_eq]at b;obtain⟨⟨_,_,e⟩,_,h3,_,c⟩:=b;refine⟨e,?_⟩;obtain⟨_,_,a,_⟩:=ML (VC d);have h:=(cg m.p).1 a;unfold fo at h3;simp only[qw,decide_eq_true_eq]at h3;have j:m.p.1*m.p.2.2<=16*24:=yg i4 i4 i4 i4;unfold countP at c;split at c
 ·have:(m.objs[i].length-1)/(m.p.1*m.p.2.2)<=m.objs[i].length-1:=xi _ (by rename_i g;simp at g;omega);omega
 ·omega
theorem Ws{m:aA}(b:bs m=eH){i:Nat}(a:i<ii m.objs):ii (fI m.objs[i])<=4000:=by have:=Wr b a;unfold fI;simp[cD];have:m.objs[i].name.data.size=m.objs[i].name.size:=rfl;omega
theorem Dw{m:aA}(a:bs m=eH):∀n,n<=ii m.objs->ii ((m.objs.take n).flatMap fI)<=n*4000
 |0,_=>i9
 |n+1,hn=>by
  rw[aD _ _ (show n<ii m.objs by omega),qZ,qt];have c:=Dw a n i4;have b:=Ws a (show n<ii m.objs by omega);have h3:ii ([m.objs[n]].flatMap fI)=ii (fI m.objs[n]):=by rw[zj,z7,qF]
  omega
theorem Gh{m:aA}(a:bs m=eH):ii m.objs<=12:=by unfold bs at a;simp only[qw,decide_eq_true_eq]at a;exact a.2.2.1
theorem Gi(m:aA)(h:cw m):ii (bJ m)<=100000:=by
 unfold bJ;split
 ·rename_i f;have c:=f;unfold bs at c;simp only[qw,decide_eq_true_eq]at c;have j:ii m.drives<=64:=by
   have a:=c.2.1;unfold oD at a;rw[qY]at a;by_cases g:ii m.drives<=64
   ·exact g
   ·exfalso;have e:∀i,i<ii m.drives->(i:Int)<=m.drives.getD i 0:=λi=>by
     induction i with
     |zero=>
      intro d;have:=a 0 (qC.2 d);unfold jD fo at this;simp at this;simpa using this.1
     |succ i ih=>
      intro d;have:=a (i+1) (qC.2 d);have h3:=ih i4;unfold jD fo at this;simp at this;have b:=this.2;simp only[qd]at h3⊢;omega
    have h3:=e 64 i4;have b:=a 64 (qC.2 i4);unfold jD fo at b;simp at b;simp only[qd]at h3;omega
  have k:ii (m.objs.flatMap fI)<=12*4000:=by have a:=Dw f m.objs.length (qm _);rw[qN]at a;have:=zK 4000 (Gh f);omega
  simp only[qt,zh,y5,qu,cD];omega
 ·simp
theorem Dx(x:bo)(m:aA)(h:f8)(d:dh h x m)(hz:cw m):an xQ 103 #[dq x] h λv h'=>∃r:Sl,v=r/\Sp h h' [ae 5 r 1 aw (bJ m)]:=by
 refine ts Tryz.func103 ?_ (.two .n (.two .n (.two (.join [(3,cK)] [(3,4),(13,19)] .n) (.two .n (.two (.two .n (.inn (.loop [(3,cK),(44,aS)] [(3,4),(5,6),(44,54)] .n))) (.two .n (.two (.two .n (.inn (.loop [(3,cK),(64,aS)] [(3,4),(7,8),(9,10),(64,99)] (.two .n (.two .n (.two (.inn (.two .n (.two (.join [(3,cK)] [(3,4),(68,78)] .n) (.two (.join [(3,cK)] [(3,4),(78,85)] .n) (.two .n (.inn (.loop [(3,cK),(88,aS)] [(3,4),(9,10),(88,98)] .n))))))) .n)))))) .n))))))) [(3,(.l [0,1,3,4,2,5,6])),(14,(.l [0,1,2,3,4,7,8,5,6,9,10])),(15,(.l [0,1,2,4,5,3,6,7]))] (args:=[x]);refine(Sp.refl h).boxed λa1 h1 H1=>?_;refine⟨x,(H1.box 0 i0).aE _ i0,(Gg x m h1 (d.up H1.af) hz).mono ?_⟩;rintro _ h2 ⟨rfl,R2⟩;have H2:=H1.up R2.af;refine⟨_,i0,aQ (λe=>?_) λB=>?_⟩
 ·unfold bJ;rw[e];exact⟨⟨ez,0,0⟩,i0,((H2.nil 5 1 aw).bB [1])⟩
 have ab:x.2.2.1=m.p.1:=congrArg (·.1) d.p;have al:x.2.2.2.1=m.p.2.1:=congrArg (·.2.1) d.p;have Z:x.2.2.2.2.1=m.p.2.2:=congrArg (·.2.2) d.p;have J:=H2.box 0 i0;have c:=Gi m hz;unfold bJ at c;rw[B,f9 rfl]at c;have hM:∀{h':f8} {As:List HP},Sp h h' As->dh h' x m:=λ{h' As} L=>d.up L.af;refine aT ⟨m.seq,by rw[<-d.seq];exact J.cell0 i0,m.next,by rw[<-d.next];exact J.cell i0,?_⟩;have H3:=(H2.nil 5 1 aw).be;refine(pR ⟨ez,0,0⟩ [] m.seq 4 i5 i9 H3).mono ?_;rintro _ h4 ⟨s4,rfl,H4⟩;refine⟨s4,i0,⟨by rw[<-d.next];exact(H4.box 1 i0).cell i0,trivial⟩,?_⟩;refine(pR s4 _ m.next 4 i5 p6 H4).mono ?_;rintro _ h5 ⟨s5,rfl,H5⟩;refine⟨s5,i0,trivial,?_⟩;have q:=H5.box 1 i0;refine⟨m.p.1,by rw[<-ab];exact q.cell i0,m.p.2.1,by rw[<-al];exact q.uL 2 1 i0,m.p.2.2,by rw[<-Z];exact q.uL 2 2 i0,m.extra,by rw[<-d.extra];exact q.cell i0,x.2.2.2.2.2.2.1,q.cell i0,?_⟩;have U:=d.drives.len;have ax:=bv.len d.objs
 try dsimp only
 rw[dU,dU,dU,dU,dU,U];refine H5.lit aj aw gF i0 [b8 m.p.1,b8 m.p.2.1,b8 m.p.2.2,b8 m.extra,b8 (m.drives.length:Nat)] i0 (show 5*1<=2^20 by decide) i0 λa9 h6 H6=>?_;refine H6.append aj 0 i0 gF ⟨_,_,i0,i0⟩ i0 i5 (λ_=>rfl) (H6.seq 2 i0 λ_=>rfl) gW p6 λs7 h7 S=>?_;have S:=S.bB [0,1];refine⟨x.2.2.2.2.2.2.1,(S.box 1 i0).cell i0,?_⟩;have a0:(([]++ce m.seq 4)++ce m.next 4++[b8 m.p.1,b8 m.p.2.1,b8 m.p.2.2,b8 m.extra,b8 (m.drives.length:Nat)]).length=13:=p6
 have a6:=hz.dr;refine HC x.2.2.2.2.2.2.1 m.drives s7 _ S (St.mk' λh' L=>(hM L).drives) i4 i4 λs8 h8 H8=>?_
 try dsimp only
 refine⟨x.2.2.2.2.2.2.2,(H8.box 1 i0).cell i0,?_⟩
 try dsimp only
 rw[dU,ax];obtain⟨a,b⟩:∃a,a=([]++ce m.seq 4)++ce m.next 4++[b8 m.p.1,b8 m.p.2.1,b8 m.p.2.2,b8 m.extra,b8 (m.drives.length:Nat)]++m.drives.map b8:=⟨_,rfl⟩
 rw[<-b]at H8;have ad:a.length=13+m.drives.length:=by rw[b];simp[cD];omega
 simp only[qt,zh,y5,qu,cD]at c;refine H8.push aj 0 i0 gF i0 i5 (λ_=>rfl) gW (b8 (m.objs.length:Nat)) i0 i5 i4 λs9 h9 T=>?_;have T:Sp h h9 [ae 5 s9 1 aw (a++[b8 (m.objs.length:Nat)]),ac a1 39 (az x)]:=T;refine⟨x.2.2.2.2.2.2.2,(T.box 1 i0).cell i0,?_⟩;obtain⟨Q,R⟩:=bv.fix d.objs;have bb:=R.2.1;refine aq (λt:Sl×Nat=>(t.1,(t.2:Int))) (λt h'=>t.2<=m.objs.length/\Sp h h' [ae 5 t.1 1 aw (a++[b8 (m.objs.length:Nat)]++(m.objs.take t.2).flatMap fI),ac a1 39 (az x)]) (λt=>m.objs.length-t.2) (s9,0) i0 ⟨i9,by simpa using T⟩ ?_;rintro⟨o,i⟩ a8 ⟨hi,k⟩;dsimp only at*;refine ag (λe=>?_) (λe=>?_)
 ·have y:i<m.objs.length:=i4
  have am:=nl.up R k.af;have ah:=Wr B y;have s:((m.objs.take i).flatMap fI).length<=50000:=by have h1:=Dw B i hi;have:=Gh B;have:i*4000<=12*4000:=zK _ i4;omega
  refine am.1.cX (g:=bh) i i0 i4 (Q[i]'(by omega)) i0 ?_;refine k.alloc aj i0 λX bd Y=>?_;refine Y.storeAll aj 2 i0 i0 (bh (Q[i]'(by omega))) i0 i0 i0 i0 λar f=>?_;have ap:=nl.up R f.af;obtain⟨⟨z,y2,y3⟩,y4⟩:=Fix.row ap y;obtain⟨E,hE⟩:∃E,E=m.objs[i]:=⟨_,rfl⟩
  rw[<-hE]at z y2 y3 y4 ah;have w:=f.box 2 i0;refine aT ⟨E.name,nb,E.name,nb,?_⟩;rw[dU];refine f.nS aj aw gF i0 [b8 (E.name.size:Nat)] i0 (show 1*1<=2^20 by decide) i0 ⟨nb,nb,trivial⟩ ?_;have K:(a++[b8 (m.objs.length:Nat)]++(m.objs.take i).flatMap fI).length<=160000:=by rw[qt,qt,ad];simp;simp at s;omega
  obtain⟨j,D⟩:∃j,j=a++[b8 (m.objs.length:Nat)]++(m.objs.take i).flatMap fI:=⟨_,rfl⟩
  rw[<-D]at f K;refine f.push aj 0 i0 gF i0 i5 (λ_=>rfl) gW (b8 (E.name.size:Nat)) i0 i5 i4 λa4 a3 F=>?_;have H:=F.box 2 i0;refine⟨⟨by rw[<-z];exact H.cell0 i0,by rw[<-z];exact H.cell0 i0,trivial⟩,?_⟩;refine F.VB aj 0 i0 gF ⟨_,i0,i0⟩ i0 i5 E.name i7 λO W u=>?_;have A:=u.box 2 i0;refine⟨⟨by rw[<-z];exact A.cell0 i0,trivial⟩,?_⟩;have u:Sp h W [ae 5 O 1 aw (j++[b8 (E.name.size:Nat)]++iX E.name),ac a1 39 (az x),ac X 88 (bh (Q[i]'(by omega)))]:=u;refine aT ⟨E.object,by rw[<-y2];exact A.cell i0,E.length,by rw[<-y3];exact A.cell i0,?_⟩;have bk:=AZ E.name;refine(pR O _ E.object 3 i5 i7 u).mono ?_;rintro _ a2 ⟨I,rfl,G⟩;have V:=G.box 2 i0;refine⟨I,i0,⟨by rw[<-y3];exact V.cell i0,trivial⟩,?_⟩;refine(pR I _ E.length 2 i5 m0 G).mono ?_;rintro _ a7 ⟨M,rfl,P⟩;have ao:=P.box 2 i0;refine⟨M,i0,trivial,(Q[i]'(by omega)).2.2.2,ao.cell i0,?_⟩;refine HC (Q[i]'(by omega)).2.2.2 E.tries M _ P (St.mk' λh' L=>by rw[hE];exact(Fix.row (nl.up R L.af) y).2) m0 i4 λay a5 N=>?_
  try dsimp only
  have ar:=Gh B;refine⟨(ay,i+1),jj,⟨i6,?_⟩,i6⟩
  try dsimp only
  rw[aD _ _ y,qZ,<-qn,<-D,zj,z7,qF,<-hE];have e3:j++[b8 (E.name.size:Nat)]++iX E.name++ce E.object 3++ce E.length 2++E.tries.map b8=j++fI E:=by unfold fI iX;simp[qn]
  rw[e3]at N;exact N.bB [0,1]
 ·rw[qg i4]at k;refine⟨o,i0,?_⟩;have e2:a++[b8 (m.objs.length:Nat)]++m.objs.flatMap fI=bJ m:=by rw[b];unfold bJ;rw[B,f9 rfl];simp[qn]
  rw[e2]at k;exact k.bB [0]
def ci{α:Type}(k:Nat)(f:α->aR)(L:List (Sl×List α)):HP:=⟨λh q=>∀y∈L,Seq h q y.1 k f y.2,λa c y b=>(a y b).af c,λa d y b=>(a y b).mono d⟩
variable {α:Type} {k:Nat} {L:List (Sl×List α)} {s:Sl} {l:List α}
section
variable {f:α->aR}
theorem aa.Js(H:aa B h0 h As)(k:Nat)(f:α->aR):aa B h0 h (ci k f []::As):=
 (H.comp (.one (A:=ci k f []) (aN.refl _ _) λy a=>t8)).be
theorem aa.Jt(H:aa B h0 h (ci k f L::kP s k f l::As)):aa B h0 h (ci k f ((s,l)::L)::As):=by
 have g:aa B h0 h ((kP s k f l).sep (ci k f L)::As):=H.iQ;refine g.dX 0 i0 λq ⟨i,j,_,b,c,d,e⟩ y a=>?_;rcases qV.1 a with rfl|a
 ·exact d.mono b
 ·exact(e y a).mono c
theorem aa.acO(H:aa B h0 h (ci k f L::As)){y:Sl×List α}(a:y∈L):Rd h y.1 k f y.2:=H.at 0 i0 y a
end
theorem aeS(n:Int):ce n 4=[b8 (zG n (2^24)),b8 (zG n (2^16)),b8 (zG n (2^8)),b8 n]:=by
 have e:zG n (2^0)=n:=i9
 show[b8 (zG n (2^24)),b8 (zG n (2^16)),b8 (zG n (2^8)),b8 (zG n (2^0))]=_;rw[e]
theorem Wu(seq a c:Int)(b:Sl)(l:aP)(h:f8)(o:Rd h b 1 aw l)(u:ii l<=2^20):an xQ 104 #[xG xM seq,xG xM a,xG xM c,b] h λv h'=>∃r:Sl,v=r/\Sp h h' [ae 5 r 1 aw (jT seq a c l)]:=by
 refine ts Tryz.func104 ?_;refine⟨i5,i5,i5,?_⟩;have j:min (24:Int).toNat (qG xM)=24:=rfl;have i:min (16:Int).toNat (qG xM)=16:=rfl;have s:min (8:Int).toNat (qG xM)=8:=rfl;rw[j,i,s,dU,dU,dU,dU,dU,dU,dU];have d:=aeS seq;generalize b8 (zG seq (2^24))=c1 at d⊢;generalize b8 (zG seq (2^16))=c2 at d⊢;generalize b8 (zG seq (2^8))=c3 at d⊢;generalize b8 seq=c4 at d⊢;have e:jT seq a c l=dW 2 ([c1,c2,c3,c4]++([b8 a,b8 c,b8 (b.len:Nat)]++l)):=by unfold jT;rw[d,o.len]
 generalize b8 a=c5 at e⊢;generalize b8 c=c6 at e⊢;generalize b8 (b.len:Nat)=c7 at e⊢;refine(Sp.refl h).lit aj aw gF i0 [c1,c2,c3,c4,c5,c6,c7] i0 (show 7*1<=2^20 by decide) j3 λw x q=>?_;refine q.append aj 0 i0 gF ⟨_,_,i0,i0⟩ i0 i5 (λ_=>rfl) (Seq.up o q.af) gW i7 λm n k=>?_;have p:Rd n m 1 aw ([c1,c2,c3,c4,c5,c6,c7]++l):=k.seq 0 i0 λ_=>rfl;have f:ii ([c1,c2,c3,c4,c5,c6,c7]++l)<=2^40:=i7
 rw[e];have g:[c1,c2,c3,c4,c5,c6,c7]++l=[c1,c2,c3,c4]++([c5,c6,c7]++l):=rfl;rw[<-g];generalize [c1,c2,c3,c4,c5,c6,c7]++l=ll at p f⊢;refine(Dv 2 m ll n p f).mono ?_;rintro _ h3 ⟨r,rfl,t⟩;exact⟨r,i0,r,i0,(aa.comp (Sp.zip k.af) t)⟩
theorem mT(x:bo)(m:aA)(h:f8)(y:dh h x m)(A:cw m):an xQ 52 #[dq x] h λv h'=>∃r:Sl,v=r/\Sp h h' [dC r (aO m)]:=by
 refine ts Tryz.func52 ?_ (.two .n (.two .n (.two .n (.two .n (.two (.two .n (.inn (.loop [(5,cK),(16,aS)] [(5,8),(16,39)] .n))) .n))))) (args:=[x]);refine(Sp.refl h).boxed λz O p=>?_;refine⟨x,(p.box 0 i0).aE _ i0,(Dx x m O (y.up p.af) A).mono ?_⟩;rintro _ J ⟨b,rfl,N⟩;have j:=p.comp N;have u:=Gi m A;obtain⟨l,q⟩:∃l,l=bJ m:=⟨_,rfl⟩
 rw[<-q]at j u;have G:=(j.own 1 i0).len;have w:=(j.own 1 i0).cap;refine⟨b,i0,i5,?_⟩;have f:qe xM (vJ (qe xM ((qe xM (((b.len:Nat):Int)+(48:Int)))-(1:Int))) (48:Int))=(dg l:Int):=by rw[ai ((b.len:Int)+48),ai ((b.len:Int)+48-1),Int.tdiv_eq_ediv_of_nonneg i4];unfold dg;rw[ai (((b.len:Int)+48-1)/48)];omega
 have H:dg l<=3000:=by unfold dg;omega
 rw[f];obtain⟨d,a⟩:∃d:bO,d=aO m:=⟨_,rfl⟩
 have E:ii d=dg l:=by rw[a,q];simp[aO]
 have g:Sp h J [dC ⟨ez,0,0⟩ (d.take 0),ac z 39 (az x),ae 5 b 1 aw l]:=j.ww 58 5 1 aw;refine aq (λt:Sl×Nat=>(t.1,(t.2:Int))) (λt h'=>t.2<=dg l/\Sp h h' [dC t.1 (d.take t.2),ac z 39 (az x),ae 5 b 1 aw l]) (λt=>dg l-t.2) (⟨ez,0,0⟩,0) i0 ⟨i9,g⟩ ?_;rintro⟨o,i⟩ h3 ⟨U,g⟩;dsimp only at*;refine ag (λe=>?_) (λe=>?_)
 ·have s:i<dg l:=i4
  have B:48*i<ii l:=by unfold dg at s;omega
  rw[ai ((i:Int)*48),ai ((i:Int)+1),ai (((i:Int)+1)*48)];obtain⟨c,I⟩:∃c:Nat,c=min (48*i+48) l.length:=⟨_,rfl⟩
  have k:(if((i:Int)+1)*48<((b.len:Nat):Int)then((i:Int)+1)*48 else((b.len:Nat):Int))=(c:Int):=by split<;>omega
  rw[k];refine⟨m.seq,by rw[<-y.seq];exact(g.box 1 i0).cell0 i0,⟨i4,i4,i4⟩,?_⟩;have Q:((i:Int)*48).toNat=48*i:=i4
  rw[Q,qk];have D:=((g.seq 2 i0 λ_=>rfl).drop (48*i) w).take (c-48*i) mn;have e2:(l.drop (48*i)).take (c-48*i)=(l.drop (48*i)).take 48:=by
   by_cases T:48*i+48<=ii l
   ·rw[show c-48*i=48 by omega]
   ·rw[qg mn,qg mn]
  rw[e2,wb]at D;refine(Wu m.seq i (dg l) ⟨_,c-48*i,b.cap-48*i⟩ _ h3 (by rw[wb];exact D) i7).mono ?_;rintro _ R ⟨r,rfl,M⟩;have F:=(g.bN M).aL 4 [1,0,2,3];refine⟨r,i0,trivial,?_⟩;refine F.nS aj aX fw i0 [r] i0 (show 1*1<=2^20 by decide) i0 trivial ?_;refine F.Ey aj fw i7 λK S L=>⟨trivial,?_⟩
  refine⟨(K,i+1),i0,⟨i6,?_⟩,i6⟩
  try dsimp only
  rw[aD _ _ (show i<ii d by omega)];have P:d[i]'(by omega)=jT m.seq i (dg l) ((l.drop (48*i)).take 48):=by subst a;subst q;simp[aO]
  rw[P];exact L
 ·rw[qg i4,a]at g;exact⟨o,i0,g.bB [0]⟩
theorem PS(s:Sl)(a:List dD)(h:f8)(c:Rd h s 4 bh a)(f:ii a<=2^30):an xQ 102 #[s] h λv h'=>∃r:Sl,v=r/\Sp h h' [ae 88 r 4 bh a]:=by
 refine ts Tryz.func102 ?_;refine bf (λe=>?_) (λe=>?_)
 ·have:=c.isNil e;subst this;exact⟨⟨ez,0,0⟩,i0,(Sp.refl h).nil 88 4 bh⟩
 ·refine(Sp.refl h).lit aj bh Jr i0 ([]:List dD) i0 i5 i0 λk j b=>?_;refine b.append aj 0 i0 Jr ⟨_,_,i0,i0⟩ i0 i5 (λ_=>rfl) (Seq.up c b.af) EQ i7 λd i g=>?_;exact⟨d,i0,g⟩
def Bx(pool:List (Sl×aB))(p:dD×Qw.dm):Prop:=(p.1.1=p.2.name/\p.1.2.1=p.2.object/\p.1.2.2.1=p.2.length)/\(p.1.2.2.2,p.2.tries)∈pool
theorem aa.By{B:av}{l h:f8}{As:List HP}{y:bo}{m:aA}{L:List (dD×Qw.dm)}{pool:List (Sl×aB)}(f:y.1=m.seq/\y.2.1=m.next/\(y.2.2.1,y.2.2.2.1,y.2.2.2.2.1)=m.p/\y.2.2.2.2.2.1=m.extra)(n:L.map zi=m.objs)(t:∀p∈L,Bx pool p)
  (H:aa B l h (ci 1 ak pool::ae 3 y.2.2.2.2.2.2.1 1 ak m.drives::ae 88 y.2.2.2.2.2.2.2 4 bh (L.map qq)::As)):aa B l h (aZ y m::As):=by
 have k:=(H.own 2 i0)
 have g:=(H.own 1 i0)
 have s:=((H.freeze 1 i0 λ_=>rfl).freeze 2 i0 λ_=>rfl).iQ.iQ;refine s.dX 0 i0 λq ⟨F,I,_,b,c,z,u⟩=>?_;obtain⟨G,E,_,w,v,z3,z4⟩:=u;refine⟨f.1,f.2.1,f.2.2.1,f.2.2.2,z3.mono λx i=>c x (w x i),⟨L.map qq,z.mono b,by rw[<-n];simp,λj r e a d=>?_⟩,g.cap,k.cap⟩;rw[<-n]at d;rw[qL]at a d;cases hj:L[j]? with
 |none=>rw[hj]at a;cases a
 |some p=>
  rw[hj]at a d;have A:=zQ.inj (show dB p.1=dB r from a);have e2:=zQ.inj (show dB p.2=dB e from d);subst A;subst e2;obtain⟨o,D⟩:=t p (zT hj);exact⟨o,(z4 _ D).mono λx i=>c x (v x i)⟩
theorem mU(x:bo)(m:aA)(h:f8)(A:dh h x m)(Q:cw m):an xQ 49 #[dq x] h λv h'=>∃(y:bo) (L:List (dD×Qw.dm)) (pool:List (Sl×aB)),v=dq y/\(y.1=m.seq/\y.2.1=m.next/\(y.2.2.1,y.2.2.2.1,y.2.2.2.2.1)=m.p/\y.2.2.2.2.2.1=m.extra)/\L.map zi=m.objs/\(∀p∈L,Bx pool p)/\
  Sp h h' [ci 1 ak pool,ae 3 y.2.2.2.2.2.2.1 1 ak m.drives,ae 88 y.2.2.2.2.2.2.2 4 bh (L.map qq)]:=by
 refine ts Tryz.func49 ?_ (.two .n (.two (.join [] [(4,12)] .n) (.two (.two .n (.inn (.loop [(15,aS)] [(3,4),(15,31)] .n))) .n))) [(1,(.l [0,1,3,4,2,6,5,7,8,9]))] (args:=[x]);refine(Sp.refl h).boxed λU k H1=>?_;refine H1.alloc aj i0 λT z M=>?_;have D:=M.box 0 i0;have W:∀{h':f8} {As:List HP},Sp h h' As->dh h' x m:=λ{h' As} H'=>A.up H'.af;obtain⟨b,H⟩:=bv.fix A.objs;have ad:=H.2.1;have ab:=Q.dr;have am:=Q.ob;refine aT ⟨x.2.2.2.2.2.2.1,D.cell i0,x.2.2.2.2.2.2.2,D.cell i0,?_⟩;refine(jy _ m.drives z (W M).drives i4).mono ?_;rintro _ h3 ⟨d,rfl,X⟩;have S:=M.comp X;refine⟨d,i0,⟨(S.box 0 i0).cell i0,trivial⟩,?_⟩;refine(PS _ b h3 (nl.up H S.af).1 i4).mono ?_;rintro _ h4 ⟨o,rfl,R4⟩;have H4:=S.comp R4;refine⟨o,i0,trivial,?_⟩;refine H4.store aj 0 i0 i0 6 [d] i0 i0 i0 j9 λh5 H5=>⟨trivial,?_⟩
 refine H5.store aj 0 i0 i0 7 [o] i0 i0 i0 j9 λh6 w=>⟨trivial,?_⟩
 obtain⟨y,u⟩:∃y:bo,y=(x.1,x.2.1,x.2.2.1,x.2.2.2.1,x.2.2.2.2.1,x.2.2.2.2.2.1,d,o):=⟨_,rfl⟩
 have w:Sp h h6 [ac U 39 (az y),ac T 39 [xG xM 0,xG xM 0,xG xM 0,xG xM 0,xG xM 0,xG xM 0,xH ez 0 0,xH ez 0 0],ae 3 d 1 ak m.drives,ae 88 o 4 bh b]:=by rw[u];exact w
 have c:y.2.2.2.2.2.2.2=o:=by rw[u]
 have I:y.2.2.2.2.2.2.1=d:=by rw[u]
 refine⟨o,by rw[<-c];exact(w.box 0 i0).cell i0,?_⟩;have al:=(w.own 3 i0).len;have w:=w.Js 1 ak;refine aq (λt:List dD×List (Sl×aB)=>(t.1.length:Int)) (λt h'=>t.1.length<=m.objs.length/\(∀(j:Nat) r e,t.1[j]?=dB r->m.objs[j]?=dB e->(r.1=e.name/\r.2.1=e.object/\r.2.2.1=e.length)/\(r.2.2.2,e.tries)∈t.2)/\Sp h h' [ci 1 ak t.2,ac U 39 (az y),ac T 39 [xG xM 0,xG xM 0,xG xM 0,xG xM 0,xG xM 0,xG xM 0,xH ez 0 0,xH ez 0 0],ae 3 d 1 ak m.drives,ae 88 o 4 bh (t.1++b.drop t.1.length)]) (λt=>m.objs.length-t.1.length) ([],[]) i0 ⟨i9,λj r e k=>by simp at k,w⟩ ?_;rintro⟨a,pool⟩ h7 ⟨hi,F,q⟩;dsimp only at*;refine ag (λe=>?_) (λe=>?_)
 ·have s:a.length<m.objs.length:=i4
  have F7:=nl.up H q.af;obtain⟨⟨y1,Y,y3⟩,y4⟩:=Fix.row F7 s;have f:(a++b.drop a.length)[a.length]'(by simp;omega)=b[a.length]'(by omega):=i9
  obtain⟨J,ha,zz,Z,rfl⟩:=(q.seq 4 rfl λ_=>rfl).cX (g:=bh) (i:=(a.length:Int)) a.length rfl i7 (b[a.length]'(by omega)) (by rw[f]) (K:=λt=>t=b[a.length]'(by omega)) i0;refine⟨o,by rw[<-c];exact(q.box 1 i0).cell i0,o,by rw[<-c];exact(q.box 1 i0).cell i0,J,ha,_,Z.2.2.2.1,?_⟩;have ao:=(Q.nm _ (qf s)).2;refine(jy _ m.objs[a.length].tries h7 y4 i4).mono ?_;rintro _ h8 ⟨t,rfl,R8⟩;have B:=q.bN R8;refine⟨t,i0,⟨by rw[<-c];exact(B.box 2 i0).cell i0,by rw[<-c];exact(B.box 2 i0).cell i0,trivial⟩,?_⟩;refine B.YV aj 5 i0 (λ_=>rfl) i0 a.length i0 i7 3 [t] i9 ((b[a.length]'(by omega)).1,(b[a.length]'(by omega)).2.1,(b[a.length]'(by omega)).2.2.1,t) i0 i0 i0 (by rw[f];simp[bh]) λh9 E=>⟨trivial,?_⟩
  have E:=(E.freeze 0 i0 λ_=>rfl).aL 6 [1,0,2,3,4,5];have E:=E.Jt;refine⟨(a++[((b[a.length]'(by omega)).1,(b[a.length]'(by omega)).2.1,(b[a.length]'(by omega)).2.2.1,t)],(t,m.objs[a.length].tries)::pool),by simp only[qt,List.length_singleton];rw[ai _];rfl,⟨i7,λj r e k z=>?_,?_⟩,i7⟩
  ·dsimp only at k⊢;by_cases N:j<a.length
   ·rw[ql N]at k;obtain⟨g1,g2⟩:=F j r e k z;exact⟨g1,List.mem_cons_of_mem _ g2⟩
   ·have O:j=a.length:=by have:=(qj.1 k).1;simp at this;omega
    subst O;rw[qh (qm _),qW]at k;simp at k;rw[qc s]at z;injection z with z
    subst k;subst z;exact⟨⟨y1,Y,y3⟩,List.mem_cons_self⟩
  ·try dsimp only
   have e4:(a++b.drop a.length).set a.length ((b[a.length]'(by omega)).1,(b[a.length]'(by omega)).2.1,(b[a.length]'(by omega)).2.2.1,t)=a++[((b[a.length]'(by omega)).1,(b[a.length]'(by omega)).2.1,(b[a.length]'(by omega)).2.2.1,t)]++b.drop (a++[((b[a.length]'(by omega)).1,(b[a.length]'(by omega)).2.1,(b[a.length]'(by omega)).2.2.1,t)]).length:=by rw[qS _ _ (qm _),qW,qJ (show a.length<b.length by omega),zr];simp
   rw[<-e4];exact E
 ·have ah:a.length=m.objs.length:=i4
  rw[zd i4,qF]at q;refine⟨y,(q.box 1 i0).aE _ i0,?_⟩;refine q.storeAll aj 2 i0 i0 (az y) i0 i0 i0 i0 λh8 B=>?_;have P:(a.zip m.objs).map qq=a:=List.map_fst_zip i4;have R:(a.zip m.objs).map zi=m.objs:=List.map_snd_zip i4;refine⟨y,(B.box 2 i0).aE _ i0,y,a.zip m.objs,pool,i0,⟨by rw[u];exact A.seq,by rw[u];exact A.next,by rw[u];exact A.p,by rw[u];exact A.extra⟩,R,λp V=>?_,?_⟩
  ·obtain⟨j,N,rfl⟩:=qD V;have G:j<a.length/\j<m.objs.length:=by simp at N;omega
   have:=F j _ _ (qc G.1) (qc G.2);rw[yL];exact this
  ·rw[P,I,c];exact B.bB [0,3,4]
theorem Bz(x:bo)(m:aA)(h:f8)(d:dh h x m)(a:cw m):an xQ 49 #[dq x] h λv h'=>∃y:bo,v=dq y/\Sp h h' [aZ y m]:=by refine(mU x m h d a).mono ?_;rintro _ h' ⟨y,L,pool,rfl,c,e,b,H⟩;exact⟨y,i0,aa.By c e b H⟩
abbrev bA:=Int×Int×Int×Int×Int×Int×Int×Sl
abbrev bL(x:bA):aR:=[xG xM x.1,xG xM x.2.1,xG xM x.2.2.1,xG xM x.2.2.2.1,xG xM x.2.2.2.2.1,xG xM x.2.2.2.2.2.1,xG xO x.2.2.2.2.2.2.1,x.2.2.2.2.2.2.2]
abbrev recv(x:bA):Value:=xL #[xG xM x.1,xG xM x.2.1,xG xM x.2.2.1,xG xM x.2.2.2.1,xG xM x.2.2.2.2.1,xG xM x.2.2.2.2.2.1,xG xO x.2.2.2.2.2.2.1,x.2.2.2.2.2.2.2]
theorem acP:∀x,∀c∈bL x,c.oneCell'=eH:=by intro x c a;simp[bL]at a;rcases a with rfl|rfl|rfl|rfl|rfl|rfl|rfl|rfl<;>rfl
def ib(x y:Int):Int:=if x<y then-1 else if x>y then 1 else 0
def lD(a b:bA):Int:=if ib a.1 b.1≠0 then ib a.1 b.1 else if ib a.2.1 b.2.1≠0 then ib a.2.1 b.2.1 else ib a.2.2.1 b.2.2.1
def cx(a b:bA):Bool:=decide (lD a b<=0)
theorem jf(x y:Int):(x<y/\ib x y=-1)∨(x>y/\ib x y=1)∨(x=y/\ib x y=0):=by
 unfold ib;by_cases a:x<y
 ·exact .inl ⟨a,f9 a⟩
 ·by_cases b:x>y
  ·exact .inr (.inl ⟨b,by rw[g0 a,f9 b]⟩)
  ·exact .inr (.inr ⟨i4,by rw[g0 a,g0 b]⟩)
theorem Av(a b:bA):lD a b<=0↔a.1<b.1∨(a.1=b.1/\(a.2.1<b.2.1∨(a.2.1=b.2.1/\a.2.2.1<=b.2.2.1))):=by
 unfold lD;rcases jf a.1 b.1 with⟨h1,e1⟩|⟨h1,e1⟩|⟨h1,e1⟩
 ·rw[e1,f9 i5];omega
 ·rw[e1,f9 i5];omega
 ·rw[e1,g0 i5];rcases jf a.2.1 b.2.1 with⟨h2,e2⟩|⟨h2,e2⟩|⟨h2,e2⟩
  ·rw[e2,f9 i5];omega
  ·rw[e2,f9 i5];omega
  ·rw[e2,g0 i5];rcases jf a.2.2.1 b.2.2.1 with⟨h3,e3⟩|⟨h3,e3⟩|⟨h3,e3⟩<;>rw[e3]<;>omega
theorem pA(a b:bA):lD a b<0↔¬cx b a=eH:=by
 unfold cx;rw[decide_eq_true_eq,Av];unfold lD;rcases jf a.1 b.1 with⟨h1,e1⟩|⟨h1,e1⟩|⟨h1,e1⟩
 ·rw[e1,f9 i5];omega
 ·rw[e1,f9 i5];omega
 ·rw[e1,g0 i5];rcases jf a.2.1 b.2.1 with⟨h2,e2⟩|⟨h2,e2⟩|⟨h2,e2⟩
  ·rw[e2,f9 i5];omega
  ·rw[e2,f9 i5];omega
  ·rw[e2,g0 i5];rcases jf a.2.2.1 b.2.2.1 with⟨h3,e3⟩|⟨h3,e3⟩|⟨h3,e3⟩<;>rw[e3]<;>omega
theorem Wv(a b:bA):lD a b=0↔(a.1=b.1/\a.2.1=b.2.1/\a.2.2.1=b.2.2.1):=by
 unfold lD;rcases jf a.1 b.1 with⟨h1,e1⟩|⟨h1,e1⟩|⟨h1,e1⟩
 ·rw[e1,f9 i5];omega
 ·rw[e1,f9 i5];omega
 ·rw[e1,g0 i5];rcases jf a.2.1 b.2.1 with⟨h2,e2⟩|⟨h2,e2⟩|⟨h2,e2⟩
  ·rw[e2,f9 i5];omega
  ·rw[e2,f9 i5];omega
  ·rw[e2,g0 i5];rcases jf a.2.2.1 b.2.2.1 with⟨h3,e3⟩|⟨h3,e3⟩|⟨h3,e3⟩<;>rw[e3]<;>omega
theorem dQ:Ord cx:=⟨λa b c e d=>by
 unfold cx at*;rw[decide_eq_true_eq,Av]at*;omega,λa b=>by
 unfold cx;rw[Bool.or_eq_true,decide_eq_true_eq,decide_eq_true_eq,Av,Av];omega⟩
theorem Ju{α:Type}(A B C:List α)(x y:α){i j:Nat}(c:i=ii A)(b:j=ii A+1+ii B):
  (A++x::(B++y::C))[i]?=dB x/\(A++x::(B++y::C))[j]?=dB y/\((A++x::(B++y::C)).set i y).set j x=A++y::(B++x::C)/\((A++x::(B++y::C)).set j x).set i y=A++y::(B++x::C):=by
 subst c;subst b;have a:ii A+1+ii B-ii A=ii B+1:=i4
 refine⟨by rw[qh (qm _),qW];rfl,?_,?_,?_⟩
 ·rw[qh i4,a,qo,qh (qm _),qW];rfl
 ·rw[qS _ _ (qm _),qW,zr,qS _ _ i4,a,zu,qS _ _ (qm _),qW,zr]
 ·rw[qS _ _ (show A.length<=ii A+1+ii B by omega),a,zu,qS _ _ (qm _),qW,zr,qS _ _ (qm _),qW,zr]
abbrev aeT:bI C.toAi 164 167 8 [xG xM 0,xG xM 0,xG xM 0,xG xM 0,xG xM 0,xG xM 0,xG xO 0,xH ez 0 0] 80:=⟨_,_,i0,i0,i0,i0,i0,i0⟩
theorem nA(x y:Int)(h:f8):an xQ 172 #[xG xM x,xG xM y] h λv h'=>v=xG xM (ib x y)/\h'=h:=by
 refine ts Tryz.func172 ?_;have a:∀z:Int,an xQ 235 #[xG xM z] h λv h'=>v=xK eL/\h'=h:=λz=>by
  refine ts Tryz.func235 ?_;exact⟨i9,i0⟩
 refine(a x).mono ?_;rintro _ _ ⟨rfl,rfl⟩;refine⟨_,i0,(a y).mono ?_⟩;rintro _ _ ⟨rfl,rfl⟩;refine⟨_,i0,bf (λe=>j1) λ_=>bf (λe=>j1) λ_=>?_⟩;refine ag (λe=>⟨by rw[ib,f9 e],i0⟩) λe=>ag (λe2=>⟨by rw[ib,g0 e,f9 e2],i0⟩) λe2=>⟨by rw[ib,g0 e,g0 e2],i0⟩
theorem oQ(a b:bA)(h:f8):an xQ 156 #[recv a,recv b] h λv h'=>v=xG xM (lD a b)/\Sp h h' []:=by
 refine ts Tryz.func156 ?_ .n [(1,(.l [0,1,2,3,5,6,7,8,10,11,12,13,4,9,14,15,16,17]))] (args:=[a,b]);refine(Sp.refl h).boxed λs N I=>I.boxed λq g f=>?_;have f:Sp h g [ac s 167 (bL a),ac q 167 (bL b)]:=f;have w:=f.box 0 i0;have u:=f.box 1 i0;have B:f7 g (s.add 1)=dB (xG xM a.2.1):=w.cell i0;have D:f7 g (q.add 1)=dB (xG xM b.2.1):=u.cell i0;have c3:f7 g (s.add 2)=dB (xG xM a.2.2.1):=w.cell i0;have y:f7 g (q.add 2)=dB (xG xM b.2.2.1):=u.cell i0;refine⟨a.1,w.cell0 i0,b.1,u.cell0 i0,a.2.1,B,b.2.1,D,a.2.2.1,c3,b.2.2.1,y,(nA _ _ g).mono ?_⟩;rintro _ _ ⟨rfl,rfl⟩;refine⟨_,i0,⟨y,c3,D,B,trivial⟩,(nA _ _ _).mono ?_⟩;rintro _ _ ⟨rfl,rfl⟩;refine⟨_,i0,⟨y,c3,trivial⟩,(nA _ _ _).mono ?_⟩;rintro _ M ⟨rfl,rfl⟩;refine⟨_,i0,trivial,?_⟩;refine f.nS aj ak ⟨_,_,i0,i0,i0,i0,i0,i0⟩ i0 [ib a.1 b.1,ib a.2.1 b.2.1,ib a.2.2.1 b.2.2.1] i0 (show 3*1<=2^20 by decide) i0 trivial ?_;refine f.lit aj ak ⟨_,_,i0,i0,i0,i0,i0,i0⟩ i0 [ib a.1 b.1,ib a.2.1 b.2.1,ib a.2.2.1 b.2.2.1] i0 (show 3*1<=2^20 by decide) i0 λc A z=>?_;refine(Au c (R:=λv h'=>v=xG xM (lD a b)/\h'=A) ?_).mono ?_
 ·skip
  have E:=z.seq 2 i0 λ_=>rfl;have J:=(z.own 2 i0).len;obtain⟨L,k⟩:∃L,L=[ib a.1 b.1,ib a.2.1 b.2.1,ib a.2.2.1 b.2.2.1]:=⟨_,rfl⟩
  rw[<-k]at E J;have G:ii L=3:=by rw[k];rfl
  refine aq (λi:Nat=>(i:Int)) (λi h'=>i<=3/\(∀j,j<i->L[j]?=dB 0)/\h'=A) (λi=>3-i) 0 i0 ⟨i4,i4,i0⟩ ?_;rintro i H ⟨O,p,rfl⟩;have d:0<i->ib a.1 b.1=0:=λh0=>by have:=p 0 h0;rw[k]at this;simpa using this
  have o:1<i->ib a.2.1 b.2.1=0:=λh0=>by have:=p 1 h0;rw[k]at this;simpa using this
  have x:2<i->ib a.2.2.1 b.2.2.1=0:=λh0=>by have:=p 2 h0;rw[k]at this;simpa using this
  refine ag (λe=>?_) (λe=>?_)
  ·have m:i<ii L:=by have F:(i:Int)<(c.len:Int):=e;omega
   refine E.bt i i0 m L[i] i0 ?_;refine bx (λe2=>⟨?_,i0⟩) (λe2=>?_)
   ·congr 1;unfold lD;have:i=0∨i=1∨i=2:=i4
    subst k;rcases this with rfl|rfl|rfl
    ·exact(f9 (show ib a.1 b.1≠0 from e2)).symm
    ·rw[g0 (by rw[d i4];simp)];exact(f9 (show ib a.2.1 b.2.1≠0 from e2)).symm
    ·rw[g0 (by rw[d i4];simp),g0 (by rw[o i4];simp)];rfl
   ·refine⟨i+1,j0,⟨i4,λj K=>?_,i0⟩,i4⟩;by_cases r:j=i
    ·subst r;rw[qc m,e2]
    ·exact p j i4
  ·have t:i=3:=by have F:¬(i:Int)<(c.len:Int):=e;omega
   subst t;refine⟨?_,i0⟩;unfold lD;rw[d i4,o i4,x i4];rfl
 ·rintro _ H ⟨rfl,rfl⟩;exact⟨_,i0,trivial,i0,.zip z.af⟩
abbrev cG(s:Sl)(d:List bA):HP:=ae 167 s 8 bL d
section
variable {d:List bA}
theorem pB(X U M V Y:List bA)(n:Nat)(a b:Int)(R:ii U=n)(Q:ii V=n)(F:a=(ii X:Int))(G:b=(ii X+n+ii M:Nat))(I:ii X+n+ii M+n+ii Y<=2^40)(H:aa B h0 h (cG s (X++(U++(M++(V++Y))))::As)):
  an xQ 341 #[s,xG xM a,xG xM b,xG xM n,.func (.func 156) #[] #[]] h λv h'=>v=.tuple #[]/\aa B h0 h' (cG s (X++(V++(M++(U++Y))))::As):=by
 refine ts Tryz.func341 ?_ (.two .n (.inn (.loop [(10,aS)] [(10,38)] .n))) (args:=[s,(a:Int),(b:Int),(n:Int),(.func (.func 156) #[] #[])]);subst F;subst G;refine aq (λk:Nat=>(k:Int)) (λk h'=>k<=n/\aa B h0 h' (cG s (X++(V.take k++U.drop k++(M++(U.take k++V.drop k++Y))))::As)) (λk=>n-k) 0 i0 ⟨i4,l6⟩ ?_;rintro k S ⟨T,d⟩;refine ag (λe=>?_) (λe=>?_)
 ·have L:k<n:=i4
  have o:k<ii U:=i4
  have m:k<ii V:=i4
  have f:X++(V.take k++U.drop k++(M++(U.take k++V.drop k++Y)))=(X++V.take k)++U[k]::((U.drop (k+1)++(M++U.take k))++V[k]::(V.drop (k+1)++Y)):=by rw[qJ o,qJ m];simp only[qn,zo,zW]
  have c:X++(V.take (k+1)++U.drop (k+1)++(M++(U.take (k+1)++V.drop (k+1)++Y)))=(X++V.take k)++V[k]::((U.drop (k+1)++(M++U.take k))++U[k]::(V.drop (k+1)++Y)):=by rw[aD V k m,aD U k o];simp only[qn,zo,zW]
  rw[f]at d;obtain⟨x,z,y,A⟩:=Ju (X++V.take k) (U.drop (k+1)++(M++U.take k)) (V.drop (k+1)++Y) U[k] V[k] (i:=ii X+k) (j:=ii X+n+ii M+k) i7 i7;obtain⟨D,O⟩:∃D,D=(X++V.take k)++U[k]::((U.drop (k+1)++(M++U.take k))++V[k]::(V.drop (k+1)++Y)):=⟨_,rfl⟩
  rw[<-O]at d x z y A;have r:=(qj.1 x)
  have w:=(qj.1 z)
  obtain⟨q,u⟩:=r;obtain⟨p,t⟩:=w;have J:qe xM ((ii X:Int)+k)=((ii X+k:Nat):Int):=j4
  have K:qe xM (((ii X+n+ii M:Nat):Int)+k)=((ii X+n+ii M+k:Nat):Int):=j4
  rw[J,K];refine(d.seq 0 i0 λ_=>rfl).cX (g:=bL) _ i0 p V[k] (by rw[t]) ?_;refine(d.seq 0 i0 λ_=>rfl).cX (g:=bL) _ i0 q U[k] (by rw[u]) ?_;refine d.set aj 0 i0 (λ_=>rfl) i0 (ii X+k) i0 q V[k] i0 i0 i0 λP E=>⟨trivial,?_⟩
  refine E.set aj 0 i0 (λ_=>rfl) i0 (ii X+n+ii M+k) i0 (by simpa using p) U[k] i0 i0 i0 λh3 N=>⟨trivial,?_⟩
  refine⟨k+1,j0,⟨i4,?_⟩,i4⟩;rw[c,<-y];exact N
 ·have:k=n:=i4
  subst this;rw[qg (l:=V) i4,zd (l:=U) i4,qg (l:=U) i4,zd (l:=V) i4]at d;refine⟨i0,?_⟩;simpa using d
theorem PT(X U V Y:List bA)(a m b:Int)(J:0<ii U)(I:0<ii V)(E:a=(ii X:Int))(y:m=(ii X+ii U:Nat))(F:b=(ii X+ii U+ii V:Nat))(G:ii X+ii U+ii V+ii Y<=2^40)(H:aa B h0 h (cG s (X++(U++(V++Y)))::As)):
  an xQ 328 #[s,xG xM a,xG xM m,xG xM b,.func (.func 156) #[] #[]] h λv h'=>v=.tuple #[]/\aa B h0 h' (cG s (X++(V++(U++Y)))::As):=by
 refine ts Tryz.func328 ?_ (.two .n (.two .n (.two (.inn (.loop [(10,aS),(11,aS)] [(10,12),(18,50)] .n)) .n))) (args:=[s,(a:Int),(m:Int),(b:Int),(.func (.func 156) #[] #[])]);subst E;subst y;subst F;have L:qe xM (((ii X+ii U:Nat):Int)-ii X)=(ii U:Int):=j4
 have e2:qe xM (((ii X+ii U+ii V:Nat):Int)-(ii X+ii U:Nat))=(ii V:Int):=j4
 rw[L,e2];refine aq (λt:List bA×List bA×List bA×List bA=>((ii t.2.1:Int),(ii t.2.2.1:Int))) (λt h'=>0<ii t.2.1/\0<ii t.2.2.1/\X.length+ii t.1+ii t.2.1=ii X+ii U/\V++U=t.1++((t.2.2.1++t.2.1)++t.2.2.2)/\aa B h0 h' (cG s (X++(t.1++(t.2.1++(t.2.2.1++(t.2.2.2++Y)))))::As)) (λt=>ii t.2.1+ii t.2.2.1) ([],U,V,[]) i0 ⟨J,I,i9,i9,l6⟩ ?_;rintro⟨P,A,c,Q⟩ w ⟨R,O,y,p,r⟩;dsimp only at*;have l:=congrArg vR p;simp only[qt]at l;refine bx (λe=>ag (λK=>?_) λK=>?_) (λe=>?_)
 ·--the left one is longer
  have q:ii c<ii A:=i4
  have D:A=A.take c.length++A.drop c.length:=(qA _ _).symm;have g:ii (A.take c.length)=ii c:=i7
  have k:qe xM (((ii X+ii U:Nat):Int)-ii A)=(ii (X++P):Int):=by rw[ai _];simp;omega
  rw[k];have d:aa B h0 w (cG s ((X++P)++(A.take c.length++(A.drop c.length++(c++(Q++Y)))))::As):=by
   have:(X++P)++(A.take c.length++(A.drop c.length++(c++(Q++Y))))=X++(P++(A++(c++(Q++Y)))):=by
    conv=>rhs;rw[D]
    simp only[qn,zo,zW]
   rw[this];exact r
  refine(pB (X++P) (A.take c.length) (A.drop c.length) c (Q++Y) c.length _ _ g i0 i0 i7 i7 d).mono ?_;rintro _ x ⟨rfl,f⟩;refine⟨(),i0,(P++c,A.drop c.length,A.take c.length,Q),?_,⟨l0,i6,l0,?_,?_⟩,l0⟩
  ·try dsimp only
   rw[g,ai _];simp;omega
  ·try dsimp only
   rw[p,qA];simp
  ·try dsimp only
   have:X++((P++c)++(A.drop c.length++(A.take c.length++(Q++Y))))=(X++P)++(c++(A.drop c.length++(A.take c.length++(Q++Y)))):=i9
   rw[this];exact f
 ·have q:ii A<ii c:=i4
  obtain⟨j,N⟩:∃j,j=ii c-ii A:=⟨_,rfl⟩
  have z:c=c.take j++c.drop j:=(qA _ _).symm;have o:ii (c.drop j)=ii A:=i7
  have i:ii (c.take j)=j:=i7
  have k:qe xM (((ii X+ii U:Nat):Int)-ii A)=(ii (X++P):Int):=by rw[ai _];simp;omega
  have M:qe xM ((qe xM (((ii X+ii U:Nat):Int)+ii c))-ii A)=((ii (X++P)+ii A+ii (c.take j):Nat):Int):=by rw[ai (((ii X+ii U:Nat):Int)+ii c),ai _,i];simp;omega
  rw[k,M];have d:aa B h0 w (cG s ((X++P)++(A++(c.take j++(c.drop j++(Q++Y)))))::As):=by
   have:(X++P)++(A++(c.take j++(c.drop j++(Q++Y))))=X++(P++(A++(c++(Q++Y)))):=by
    conv=>rhs;rw[z]
    simp only[qn,zo,zW]
   rw[this];exact r
  refine(pB (X++P) A (c.take j) (c.drop j) (Q++Y) A.length _ _ i0 o i0 i0 i7 d).mono ?_;rintro _ x ⟨rfl,f⟩;refine⟨(),i0,(P,c.drop j,c.take j,A++Q),?_,⟨i6,i6,i6,?_,?_⟩,i6⟩
  ·try dsimp only
   rw[i,o,ai _];congr 1;omega
  ·try dsimp only
   rw[p,qA];simp
  ·try dsimp only
   have:X++(P++(c.drop j++(c.take j++((A++Q)++Y))))=(X++P)++(c.drop j++(c.take j++(A++(Q++Y)))):=i9
   rw[this];exact f
 ·have u:ii A=ii c:=i4
  have k:qe xM (((ii X+ii U:Nat):Int)-ii A)=(ii (X++P):Int):=by rw[ai _];simp;omega
  rw[k];have d:aa B h0 w (cG s ((X++P)++(A++([]++(c++(Q++Y)))))::As):=by
   have:(X++P)++(A++([]++(c++(Q++Y))))=X++(P++(A++(c++(Q++Y)))):=i9
   rw[this];exact r
  refine(pB (X++P) A [] c (Q++Y) A.length _ _ i0 u.symm i0 i7 i7 d).mono ?_;rintro _ x ⟨rfl,f⟩;refine⟨(),i0,i0,?_⟩;have:X++(V++(U++Y))=(X++P)++(c++([]++(A++(Q++Y)))):=by
   have:V++(U++Y)=(V++U)++Y:=i9
   rw[this,p];simp
  rw[this];exact f
end
theorem TD(l:aP)(x:UInt8):dO (l++[x])=dO l*256+x.toNat:=by unfold dO;rw[List.foldl_append];rfl
theorem BA:∀l:aP,ii l<=4->0<=dO l/\dO l<4294967296/\(ii l<=3->dO l<16777216)
 |[],_=>by simp[dO]
 |[a],_=>by have:=a.toNat_lt;simp only[dO,zx,yy];omega
 |[a,b],_=>by have:=a.toNat_lt;have:=b.toNat_lt;simp only[dO,zx,yy];omega
 |[a,b,c],_=>by have:=a.toNat_lt;have:=b.toNat_lt;have:=c.toNat_lt;simp only[dO,zx,yy];omega
 |[a,b,c,d],_=>by have:=a.toNat_lt;have:=b.toNat_lt;have:=c.toNat_lt;have:=d.toNat_lt;simp only[dO,zx,yy,zh,y5];omega
 |_::_::_::_::_::_,h=>mq
theorem Ny(n x:Nat)(e:n<2^32)(f:x<256):qe xM (((qK (qG xM) (qe xM ((n:Int)*2^min (8:Int).toNat (qG xM)))|||qK (qG xM) (qe xM (x:Int))).toNat:Nat):Int)=(n:Int)*256+x:=by
 have d:min (8:Int).toNat (qG xM)=8:=rfl;rw[d];have c:qe xM ((n:Int)*2^8)=((n*256:Nat):Int):=by rw[Qw.ai _];omega
 have e2:qe xM (x:Int)=((x:Nat):Int):=Qw.ai _;rw[c,e2];have a:(qK (qG xM) ((n*256:Nat):Int)|||qK (qG xM) ((x:Nat):Int)).toNat=n*256+x:=by show((qK 64 ((n*256:Nat):Int)|||qK 64 ((x:Nat):Int):BitVec 64)).toNat=n*256+x;rw[BitVec.toNat_or,w9,w9,wP,wP,wk i4,wk i4];have:=Nat.shiftLeft_add_eq_or_of_lt (b:=x) (i:=8) i4 n;rw[Nat.shiftLeft_eq,show(2:Nat)^8=256 from rfl]at this;omega
 rw[a,Qw.ai _];omega
def fg:iy bA dG:=⟨λh q a b=>(a.1=b.object/\a.2.1=b.block/\a.2.2.1=b.id/\(a.2.2.2.1,a.2.2.2.2.1,a.2.2.2.2.2.1)=b.p/\a.2.2.2.2.2.2.1=b.seed/\0<=b.seed/\b.seed<4294967296)/\Seq h q a.2.2.2.2.2.2.2 1 aw b.data,λa c=>⟨a.1,a.2.af c⟩,λa d=>⟨a.1,a.2.mono d⟩⟩
theorem kY{p q:av}(a b:Sl)(c d:aP)(h:f8)(f:Seq h p a 1 aw c)(e:Seq h q b 1 aw d):
  an xQ 46 #[a,b] h λv h'=>v=xK (decide (c=d))/\h'=h:=by
 refine ts Tryz.func46 ?_;refine EE aj ⟨_,i0,i0⟩ ⟨_,i0,i0⟩ ⟨_,i0,i0⟩ f (EE aj ⟨_,i0,i0⟩ ⟨_,i0,i0⟩ ⟨_,i0,i0⟩ e ⟨?_,i0⟩);rw[ByteArray.toList_mk,ByteArray.toList_mk];have:(c==d)=decide (c=d):=by rw[Bool.eq_iff_iff];simp
 rw[this]
theorem sv(b:Sl)(c:aP)(h:f8)(g:Rd h b 1 aw c)(z:ii c<=2^30)(f:b.len<=b.cap):
  an xQ 34 #[b] h λv h'=>(eV c=ez->v=.tuple #[xG xM 0,xH ez 0 0,xK eL]/\Sp h h' [])/\
   ∀k x,eV c=dB (k,x)->∃r:Sl,v=.tuple #[xG xM k,r,xK eH]/\Sp h h' [ae 5 r 1 aw x]:=by
 refine ts Tryz.func34 ?_;have y:=g.len;refine bx (λe=>?_) (λe=>?_)
 ·have:eV c=ez:=by unfold eV;rw[g0 λa=>e i4]
  rw[this];exact⟨λ_=>⟨i0,Sp.refl h⟩,λk x h=>j8⟩
 have n:ii c=64:=i4
 have h3:3<ii c:=i4
 refine g.mb 3 i0 h3 ((c.getD 3 0).toNat:Int) (by rw[getD_lt h3];rfl) λw j=>⟨⟨i5,i5,i4⟩,?_⟩
 have d:=(g.drop 4 f).take 55 i7;have p:ii ((c.drop 4).take 55)=55:=i7
 refine(eI ⟨_,55,b.cap-4⟩ ((c.drop 4).take 55) h d i4).mono ?_;rintro _ u ⟨r,rfl,m⟩;refine⟨r,i0,ka m.af ⟨j,trivial⟩,?_⟩;have A:=(c.getD 3 0).toNat_lt;rw[ai ((c.getD 3 0).toNat:Int)];refine(Dv ((c.getD 3 0).toNat:Int) r ((c.drop 4).take 55) u (m.seq 0 i0 λ_=>rfl)).mono ?_;rintro _ s ⟨q,rfl,t⟩;have i:=m.comp t;refine⟨q,i0,(kY b q c _ s (g.up i.af) (i.seq 1 i0 λ_=>rfl)).mono ?_⟩;rintro _ h3 ⟨rfl,rfl⟩;refine⟨_,i0,aQ (λe2=>?_) λe2=>?_⟩
 ·have l:c≠dW ((c.getD 3 0).toNat:Int) ((c.drop 4).take 55):=of_decide_eq_false e2;have:eV c=ez:=by unfold eV;rw[g0 λa=>l a.2.symm]
  rw[this];exact⟨λ_=>⟨i0,.zip i.af⟩,λk x h=>j8⟩
 ·have o:c=dW ((c.getD 3 0).toNat:Int) ((c.drop 4).take 55):=hZ e2;have:eV c=dB (((c.getD 3 0).toNat:Int),(c.drop 4).take 55):=by unfold eV;rw[f9 ⟨n,o.symm⟩]
  rw[this];refine⟨λh=>j8,λk x a=>?_⟩;injection a with a
  injection a with hh1 hh2
  subst hh1;subst hh2;exact⟨r,i0,i.bB [0]⟩
theorem Kv(b:Sl)(l:aP)(h:f8)(d:Rd h b 1 aw l)(m:ii l<=4):an xQ 219 #[b] h λv h'=>v=xG xM (dO l)/\h'=h:=by
 refine ts Tryz.func219 ?_ (.two .n (.two .n (.two (.two .n (.inn (.loop [(3,aS),(8,aS)] [(3,4),(5,6),(8,18)] .n))) .n)));have f:=d.len;refine aq (λi:Nat=>(dO (l.take i),(i:Int))) (λi h'=>i<=ii l/\h'=h) (λi=>ii l-i) 0 i0 ⟨i4,i0⟩ ?_;rintro i o ⟨p,rfl⟩
 try dsimp only
 refine ag (λe=>?_) (λe=>?_)
 ·have a:i<ii l:=i4
  refine d.bt i i0 a (l[i].toNat:Int) i0 ⟨i5,?_⟩;have c:=(BA (l.take i) i7)
  have g:=c.2.2 i7;have k:=l[i].toNat_lt;obtain⟨n,j⟩:∃n:Nat,dO (l.take i)=(n:Int):=⟨(dO (l.take i)).toNat,i4⟩
  refine⟨i+1,?_,⟨i4,i0⟩,i4⟩;rw[aD _ _ a,TD,j,Ny n _ i4 i4,ai ((i:Int)+1)];rfl
 ·rw[qg i4];exact⟨i0,i0⟩
theorem Fh(x:bA)(r:dG)(h:f8)(B:dM fg h x r):an xQ 159 #[recv x] h λv h'=>v=xK (jR r)/\Sp h h' []:=by
 refine ts Tryz.func159 ?_ (.two .n (.two (.join [(3,rS)] [(3,32)] .n) .n)) (args:=[x]);obtain⟨⟨H,e2,G,m,K,_⟩,I⟩:=B;have t:x.2.2.2.1=r.p.1:=congrArg (·.1) m;have o:x.2.2.2.2.1=r.p.2.1:=congrArg (·.2.1) m;have d:x.2.2.2.2.2.1=r.p.2.2:=congrArg (·.2.2) m;have e:=Seq.len I;refine(Sp.refl h).boxed λa i f=>?_;have f:Sp h i [ac a 167 (bL x)]:=f;have k:=f.box 0 i0;have z:f7 i a=dB (xG xM r.object):=by rw[<-H];exact k.cell0 i0
 have w:f7 i (a.add 1)=dB (xG xM r.block):=by rw[<-e2];exact k.cell i0
 have y:f7 i (a.add 2)=dB (xG xM r.id):=by rw[<-G];exact k.cell i0
 have u:∀{h':f8},Sp h h' [ac a 167 (bL x)]->(jR r=eH->False)->Value.bool eL=xK (jR r)/\Sp h h' []:=λ{h'} H' hn=>⟨by cases hq:jR r with|false=>rfl|true=>exact absurd hq hn,.zip H'.af⟩
 refine bG (λb h'=>b=decide ((0<=r.object/\r.object<=16777215)/\(0<=r.block/\r.block<=7)/\(0<=r.id/\r.id<=65535))/\h'=i) ?_ ?_
 ·refine⟨_,z,ag (λA=>⟨_,z,ag (λj=>⟨_,w,ag (λJ=>⟨_,w,ag (λF=>⟨_,y,ag (λD=>⟨_,y,?_,i0⟩) λD=>⟨?_,i0⟩⟩) λF=>⟨?_,i0⟩⟩) λJ=>⟨?_,i0⟩⟩) λj=>⟨?_,i0⟩⟩) λA=>⟨?_,i0⟩⟩
  ·rw[decide_eq_decide];omega
  all_goals (symm;rw[decide_eq_false_iff_not];omega)
 ·rintro _ _ ⟨rfl,rfl⟩;refine ag (λg=>?_) λg=>u f λq=>g (by have:=(nL r).1 q;omega);refine⟨r.p,by rw[<-t,<-o,<-d];exact k.uM 3 i0 i0 i0,(eF r.p _).mono ?_⟩;rintro _ h3 ⟨rfl,E⟩;have s:Sp h h3 [ac a 167 (bL x)]:=f.up E.af;have c:=s.box 0 i0;refine⟨_,i0,bf (λj=>?_) λj=>u s λq=>by have:=((nL r).1 q).2.2.2.1;rw[j]at this;cases this⟩;refine⟨x.2.2.2.2.2.2.2,c.cell i0,r.p.2.2,by rw[<-d];exact c.uL 3 2 i0,?_,.zip s.af⟩;congr 1;by_cases l:(r.data.length:Int)=r.p.2.2
  ·have:jR r=eH:=(nL r).2 ⟨i4,i4,i4,j,l⟩;rw[this,e];simpa using l
  ·have:jR r=eL:=by
    cases hq:jR r with
    |false=>rfl
    |true=>exact absurd ((nL r).1 hq).2.2.2.2 l
   rw[this,e];simpa using l
theorem mV(s:Sl)(l:aP)(n:Int)(k:Nat)(q:k<=4)(o:ii l<=2^30)(H:aa B h0 h (ae 5 s 1 aw l::As)):
  an xQ 160 #[s,xG xM n,xG xM k] h λv h'=>∃r:Sl,v=r/\aa B h0 h' (ae 5 r 1 aw (l++ce n k)::As):=by
 refine ts Tryz.func160 ?_ (.two .n (.two (.two .n (.inn (.loop [(0,cK),(7,aS)] [(0,1),(7,8),(10,22)] .n))) .n));rw[ai ((k:Int)-1)];refine aq (λt:Sl×Nat=>(t.1,(k:Int)-1-t.2)) (λt h'=>t.2<=k/\aa B h0 h' (ae 5 t.1 1 aw (l++(ce n k).take t.2)::As)) (λt=>k-t.2) (s,0) i9 ⟨i9,l6⟩ ?_;rintro⟨r,t⟩ p ⟨j,a⟩;dsimp only at*;refine ag (λe=>?_) (λe=>?_)
 ·have b:t<k:=i4
  have i:qe xM ((8:Int)*((k:Int)-1-t))=((8*(k-1-t):Nat):Int):=by rw[ai _];omega
  rw[i,qk];have e2:min (8*(k-1-t)) (qG xM)=8*(k-1-t):=by have:qG xM=64:=rfl;omega
  rw[e2,dU];refine⟨i4,?_⟩;refine a.push aj 0 i0 gF i0 i5 (λ_=>rfl) gW (b8 (zG n (2^(8*(k-1-t))))) i0 i5 m0 λf m d=>?_;refine⟨(f,t+1),?_,⟨i6,?_⟩,i6⟩
  ·try dsimp only
   have g:qe xM ((k:Int)-1-t-1)=(k:Int)-1-((t+1:Nat):Int):=by rw[ai _];omega
   rw[g]
  ·try dsimp only
   have c:(ce n k).take t++[b8 (zG n (2^(8*(k-1-t))))]=(ce n k).take (t+1):=by rw[aD _ _ (by rw[cD];exact b)];congr 2;simp[ce]
   rw[<-c,<-qn];exact d
 ·have:t=k:=i4
  subst this;rw[qg (by rw[cD];omega)]at a;exact⟨r,i0,a⟩
theorem pS(x:bA)(r:dG)(h:f8)(z:dM fg h x r):an xQ 106 #[recv x] h λv h'=>∃s:Sl,v=s/\Sp h h' [ae 5 s 1 aw (dl r)]:=by
 refine ts Tryz.func106 ?_ (args:=[x]);obtain⟨⟨X,e2,U,j,R,e7,e8⟩,Y⟩:=id z;have y:x.2.2.2.1=r.p.1:=congrArg (·.1) j;have m:x.2.2.2.2.1=r.p.2.1:=congrArg (·.2.1) j;have n:x.2.2.2.2.2.1=r.p.2.2:=congrArg (·.2.2) j;refine(Sp.refl h).boxed λe G b=>?_;have b:Sp h G [ac e 167 (bL x)]:=b;refine⟨x,(b.box 0 i0).aE _ i0,(Fh x r G (fg.mono (fg.loc z b.af) λ_ P=>qT P b.af.1)).mono ?_⟩;rintro _ O ⟨rfl,S⟩;have k:Sp h O [ac e 167 (bL x)]:=b.up S.af;refine⟨_,i0,aQ (λg=>?_) λg=>?_⟩
 ·unfold dl;rw[g];exact⟨⟨ez,0,0⟩,i0,(k.nil 5 1 aw).bB [1]⟩
 have T:=rh g;have l:=k.box 0 i0;refine⟨r.object,by rw[<-X];exact l.cell0 i0,(mV ⟨ez,0,0⟩ [] r.object 3 i5 i9 (k.nil 5 1 aw).be).mono ?_⟩;rintro _ h3 ⟨F,rfl,H⟩;have i:=H.box 1 i0;refine⟨F,i0,r.block,by rw[<-e2];exact i.cell i0,(mV F _ r.block 1 i5 p6 H).mono ?_⟩;rintro _ Z ⟨B,rfl,K⟩;have o:=K.box 1 i0;refine⟨B,i0,r.id,by rw[<-U];exact o.cell i0,(mV B _ r.id 2 i5 p6 K).mono ?_⟩;rintro _ h5 ⟨Q,rfl,D⟩;have a:=D.box 1 i0;refine⟨Q,i0,r.p.1,by rw[<-y];exact a.cell i0,r.p.2.1,by rw[<-m];exact a.uL 3 1 i0,r.p.2.2,by rw[<-n];exact a.uL 3 2 i0,?_⟩
 try dsimp only
 rw[dU,dU,dU];refine D.lit aj aw gF i0 [b8 r.p.1,b8 r.p.2.1,b8 r.p.2.2] i0 (show 3*1<=2^20 by decide) i0 λW h6 J=>?_;refine J.append aj 0 i0 gF ⟨_,_,i0,i0⟩ i0 i5 (λ_=>rfl) (J.seq 2 i0 λ_=>rfl) gW p6 λA M f=>?_;have f:Sp h M [ae 5 A 1 aw ([]++ce r.object 3++ce r.block 1++ce r.id 2++[b8 r.p.1,b8 r.p.2.1,b8 r.p.2.2]),ac e 167 (bL x)]:=f.bB [0,1];have t:=f.box 1 i0;refine⟨r.seed,by rw[<-R];exact t.cell i0,?_⟩
 try dsimp only
 rw[ai r.seed];refine(mV A _ r.seed 4 i5 p6 f).mono ?_;rintro _ h8 ⟨N,rfl,u⟩;have w:=u.box 1 i0;refine⟨N,i0,x.2.2.2.2.2.2.2,w.cell i0,?_⟩;refine u.append aj 0 i0 gF ⟨_,_,i0,i0⟩ i0 i5 (λ_=>rfl) (Seq.up Y u.af) gW m0 λE I d=>?_;have L:[]++ce r.object 3++ce r.block 1++ce r.id 2++[b8 r.p.1,b8 r.p.2.1,b8 r.p.2.2]++ce r.seed 4++r.data=Ba r:=by unfold Ba;simp[qn]
 have d:Sp h I [ae 5 E 1 aw (Ba r),ac e 167 (bL x)]:=by rw[<-L];exact d
 refine(Dv 1 E (Ba r) I (d.seq 0 i0 λ_=>rfl)).mono ?_;rintro _ V ⟨c,rfl,q⟩;refine⟨c,i0,c,i0,?_⟩;unfold dl;rw[g,f9 rfl];exact(d.comp q).bB [2]
theorem Nz(b:Sl)(c:aP)(h:f8)(hb:Rd h b 1 aw c)(hc:c.length<=2^30)(ad:b.len<=b.cap):
  an xQ 153 #[b] h λv h'=>∃x:bA,v=.tuple #[recv x,xK (dP c).isSome]/\(dP c=ez->Sp h h' [])/\∀r,dP c=dB r->Sp h h' [EA fg x r]:=by
 refine ts Tryz.func153 ?_ (.two .n (.two .n (.two (.join [] [(3,4),(14,21)] .n) (.two (.join [(7,(.sc .adr))] [(7,8),(21,31)] .n) (.two (.join [] [(31,42)] .n) .n))))) [(4,(.y [0,1,3,4,6,7] (.y [2] (.y [5] (.l [8,9,10,11]) (.l [10,8,9,11])) (.l [10,5,8,9,11])) (.l [10,2,5,8,9,11]))),(5,(.l [0,1,3,4,6,7,2,5,8,9,10,11]))];refine(Sp.refl h).alloc aj i0 λd h1 U=>?_;have U:Sp h h1 [ac d 167 (bL (0,0,0,0,0,0,0,⟨ez,0,0⟩))]:=U;have E:∀{h':f8} {Bs:List HP},Sp h h' (ac d 167 (bL (0,0,0,0,0,0,0,⟨ez,0,0⟩))::Bs)->dP c=ez->
   au xQ (qE 167 (xI (dB d)) (recv (0,0,0,0,0,0,0,⟨ez,0,0⟩))) h' λ_ G=>∃Z:bA,bp G d 0 (bL Z)/\∃x:bA,Value.tuple #[recv Z,xK eL]=.tuple #[recv x,xK (dP c).isSome]/\(dP c=ez->Sp h G [])/\∀r,dP c=dB r->Sp h G [EA fg x r]:=λ{h' Bs} H' I=>by
  refine H'.storeAll aj 0 i0 i0 (bL (0,0,0,0,0,0,0,⟨ez,0,0⟩)) i0 i0 i0 i0 λG H4=>?_;exact⟨(0,0,0,0,0,0,0,⟨ez,0,0⟩),(H4.box 0 i0).aE _ i0,(0,0,0,0,0,0,0,⟨ez,0,0⟩),by rw[I];rfl,λ_=>.zip H4.af,λr P=>by rw[I]at P;cases P⟩
 refine(sv b c h1 (hb.up U.af) hc ad).mono ?_;rintro _ h2 ⟨Q0,Q1⟩;cases htc:eV c with
 |none=>
  obtain⟨rfl,R2⟩:=Q0 htc;have I:dP c=ez:=by unfold dP;rw[htc]
  exact⟨(0,⟨ez,0,0⟩,eL),i0,aT (aQ (λ_=>E (U.up R2.af) I) λe=>j1)⟩
 |some kx=>
  obtain⟨k,x⟩:=kx;obtain⟨r,rfl,R2⟩:=Q1 k x htc;have t:Sp h h2 [ac d 167 (bL (0,0,0,0,0,0,0,⟨ez,0,0⟩)),ae 5 r 1 aw x]:=U.comp R2;have a3:x.length=55:=by
   unfold eV at htc;split at htc
   ·rename_i o;injection htc with htc
    injection htc with _ htc
    rw[<-htc];simp;omega
   ·cases htc
  have a6:=(t.own 1 i0).len;have ah:=(t.own 1 i0).cap;refine⟨(k,r,eH),i0,aT (aQ (λe=>j1) λ_=>bx (λe=>E t ?_) λN=>?_)⟩
  ·unfold dP;rw[htc];exact g0 λo=>e o.1
  try dsimp only
  have N:k=1:=N;obtain⟨R,w⟩:∃R,R=Bb x:=⟨_,rfl⟩
  have O:dP c=if bS R.p=eH/\dl R=c then dB R else ez:=by
   unfold dP;rw[htc]
   try dsimp only
   rw[<-w];by_cases o:bS R.p=eH/\dl R=c
   ·rw[f9 o];exact f9 ⟨N,o⟩
   ·rw[g0 o];exact g0 λh=>o h.2
  have tA:∀{h':f8},Rd h' r 1 aw x->an xQ 219 #[xH r.ptr 3 r.cap] h' λv L=>v=xG xM R.object/\L=h':=λ{h'} P=>by
   rw[w];exact Kv ⟨r.ptr,3,r.cap⟩ (x.take 3) h' (P.take 3 i4) i7
  have Q:∀{h':f8} (j n:Nat),j+n<=55->n<=4->Rd h' r 1 aw x->an xQ 219 #[.slice (if r.cap=j then r.ptr else r.ptr.map (·.add (j*1))) n (r.cap-j)] h' λv L=>v=xG xM (dO ((x.drop j).take n))/\L=h':=λ{h'} j n hjn I P=>
   Kv ⟨if r.cap=j then r.ptr else r.ptr.map (·.add (j*1)),n,r.cap-j⟩ ((x.drop j).take n) h' ((P.drop j ah).take n mn) i7
  have rd:∀{h':f8} {A:HP} {Bs:List HP},Sp h h' (A::ae 5 r 1 aw x::Bs)->Rd h' r 1 aw x:=λ{h' A Bs} H'=>H'.seq 1 i0 λ_=>rfl;have CF:∀{h':f8} {A A2:HP} {Bs:List HP},Sp h h' (A::A2::ae 5 r 1 aw x::Bs)->Rd h' r 1 aw x:=λ{h' A A2 Bs} H'=>H'.seq 2 i0 λ_=>rfl;refine bG (λ(a:eX) h'=>Sp h h' [ac a 167 (bL (R.object,R.block,R.id,0,0,0,0,⟨ez,0,0⟩)),ac d 167 (bL (0,0,0,0,0,0,0,⟨ez,0,0⟩)),ae 5 r 1 aw x]) ?_ ?_
  ·have eb:dO ((x.drop 3).take 1)=R.block:=p9
   have ei:dO ((x.drop 4).take 2)=R.id:=p9
   have fin:∀{h':f8} {a:eX},Sp h h' [ac d 167 (bL (0,0,0,0,0,0,0,⟨ez,0,0⟩)),ae 5 r 1 aw x,ac a 167 (bL (0,0,0,0,0,0,0,⟨ez,0,0⟩))]->
     au xQ (qE 167 (xI (dB a)) (recv (R.object,R.block,R.id,0,0,0,0,⟨ez,0,0⟩))) h' λ_ G=>bQ.ok [] G/\Sp h G [ac a 167 (bL (R.object,R.block,R.id,0,0,0,0,⟨ez,0,0⟩)),ac d 167 (bL (0,0,0,0,0,0,0,⟨ez,0,0⟩)),ae 5 r 1 aw x]:=λ{h' a} H'=>
    H'.storeAll aj 2 i0 i0 (bL (R.object,R.block,R.id,0,0,0,0,⟨ez,0,0⟩)) i0 i0 i0 i0 λG H4=>⟨trivial,H4.bB [2,0,1]⟩
   have A_:∀{h':f8} {Bs:List HP} {K:Int->f8->Prop},Sp h h' (ac d 167 (bL (0,0,0,0,0,0,0,⟨ez,0,0⟩))::ae 5 r 1 aw x::Bs)->K R.object h'->ox xQ 219 #[xH r.ptr 3 r.cap] (.one (.sc (.int .i64))) h' K:=λ{h' Bs K} H' hK=>by
    refine(tA (rd H')).mono ?_;rintro _ _ ⟨rfl,rfl⟩;exact⟨_,i0,hK⟩
   have B_:∀{h':f8} {Bs:List HP} {K:Int->f8->Prop},Sp h h' (ac d 167 (bL (0,0,0,0,0,0,0,⟨ez,0,0⟩))::ae 5 r 1 aw x::Bs)->K R.block h'->ox xQ 219 #[.slice (if r.cap=3 then r.ptr else r.ptr.map (·.add (3*1))) 1 (r.cap-3)] (.one (.sc (.int .i64))) h' K:=λ{h' Bs K} H' hK=>by
    refine(Q 3 1 i5 i5 (rd H')).mono ?_;rintro _ _ ⟨rfl,rfl⟩;exact⟨_,i0,by rw[eb];exact hK⟩
   have C_:∀{h':f8} {Bs:List HP} {K:Int->f8->Prop},Sp h h' (ac d 167 (bL (0,0,0,0,0,0,0,⟨ez,0,0⟩))::ae 5 r 1 aw x::Bs)->K R.id h'->ox xQ 219 #[.slice (if r.cap=4 then r.ptr else r.ptr.map (·.add (4*1))) 2 (r.cap-4)] (.one (.sc (.int .i64))) h' K:=λ{h' Bs K} H' hK=>by
    refine(Q 4 2 i5 i5 (rd H')).mono ?_;rintro _ _ ⟨rfl,rfl⟩;exact⟨_,i0,by rw[ei];exact hK⟩
   refine⟨⟨i5,i4⟩,⟨i5,i5,i4⟩,⟨i5,i5,i4⟩,A_ t ⟨trivial,B_ t ⟨trivial,C_ t ⟨trivial,?_⟩,?_⟩,?_⟩,?_⟩
   ·refine t.alloc aj i0 λa9 h9 m=>⟨trivial,?_⟩
    exact fin m
   ·refine t.alloc aj i0 λa9 h9 m=>⟨trivial,?_⟩
    exact C_ m ⟨trivial,fin m⟩
   ·refine t.alloc aj i0 λa9 h9 m=>⟨trivial,?_⟩
    exact B_ m ⟨trivial,C_ m ⟨trivial,fin m⟩⟩
   ·refine t.alloc aj i0 λa9 h9 m=>⟨trivial,?_⟩
    exact A_ m ⟨trivial,B_ m ⟨trivial,C_ m ⟨trivial,fin m⟩⟩⟩
  ·rintro a9 h5 H5;have M:0<=R.seed/\R.seed<4294967296:=by have:=BA ((x.drop 9).take 4) i7;rw[w];exact⟨this.1,this.2.1⟩
   have e6:dO ((x.drop 6).take 1)=R.p.1:=p9
   have e7:dO ((x.drop 7).take 1)=R.p.2.1:=p9
   have e8:dO ((x.drop 8).take 1)=R.p.2.2:=p9
   have e9:dO ((x.drop 9).take 4)=R.seed:=p9
   refine aT ⟨⟨i5,i5,i4⟩,⟨i5,i5,i4⟩,⟨i5,i5,i4⟩,(Q 6 1 i5 i5 (CF H5)).mono ?_⟩;rintro _ _ ⟨rfl,rfl⟩;refine⟨_,i0,trivial,(Q 7 1 i5 i5 (CF H5)).mono ?_⟩;rintro _ _ ⟨rfl,rfl⟩;refine⟨_,i0,trivial,(Q 8 1 i5 i5 (CF H5)).mono ?_⟩;rintro _ bb ⟨rfl,rfl⟩;refine⟨_,i0,trivial,?_⟩
   try dsimp only
   rw[e6,e7,e8];refine H5.store aj 0 i0 i0 3 [xG xM R.p.1,xG xM R.p.2.1,xG xM R.p.2.2] i0 i0 i0 i9 λar F=>⟨trivial,?_⟩
   have F:Sp h ar [ac a9 167 (bL (R.object,R.block,R.id,R.p.1,R.p.2.1,R.p.2.2,0,⟨ez,0,0⟩)),ac d 167 (bL (0,0,0,0,0,0,0,⟨ez,0,0⟩)),ae 5 r 1 aw x]:=F;refine⟨⟨i5,i5,i4⟩,(Q 9 4 i5 i5 (CF F)).mono ?_⟩;rintro _ a7 ⟨rfl,rfl⟩;refine⟨_,i0,?_⟩
   try dsimp only
   have ew:qe xO (dO ((x.drop 9).take 4))=R.seed:=by rw[e9];unfold qe;simp[qG,vg];omega
   rw[ew];refine F.store aj 0 i0 i0 6 [xG xO R.seed] i0 i0 i0 i9 λV B=>?_;have B:Sp h V [ac a9 167 (bL (R.object,R.block,R.id,R.p.1,R.p.2.1,R.p.2.2,R.seed,⟨ez,0,0⟩)),ac d 167 (bL (0,0,0,0,0,0,0,⟨ez,0,0⟩)),ae 5 r 1 aw x]:=B;refine⟨R.p,(B.box 0 i0).uM 3 i0 i0 i0,(eF R.p V).mono ?_⟩;rintro _ ab ⟨rfl,ax⟩;have z:Sp h ab [ac a9 167 (bL (R.object,R.block,R.id,R.p.1,R.p.2.1,R.p.2.2,R.seed,⟨ez,0,0⟩)),ac d 167 (bL (0,0,0,0,0,0,0,⟨ez,0,0⟩)),ae 5 r 1 aw x]:=B.up ax.af;refine⟨_,i0,aQ (λg=>E (z.aL 2 [1,0]) (by rw[O,g0 λo=>by rw[g]at o;cases o.1])) λg=>?_⟩;have bd:=(cg R.p).1 g;refine⟨R.p.2.2,(z.box 0 i0).uL 3 2 i0,?_⟩
   try dsimp only
   rw[ai ((13:Int)+R.p.2.2)];refine⟨⟨i5,i4,i4⟩,?_⟩;have ay:((13:Int)+R.p.2.2).toNat-(13:Int).toNat=R.p.2.2.toNat:=i4
   rw[ay];have H:(x.drop 13).take R.p.2.2.toNat=R.data:=p9
   have J:=((CF z).drop 13 ah).take R.p.2.2.toNat mn;rw[H]at J;have a4:R.data.length=R.p.2.2.toNat:=by rw[<-H];simp;omega
   refine(eI ⟨if r.cap=13 then r.ptr else r.ptr.map (·.add (13*1)),R.p.2.2.toNat,r.cap-13⟩ R.data ab J i4).mono ?_;rintro _ a5 ⟨u,rfl,ao⟩;have am:=z.comp ao;refine⟨u,i0,?_⟩;refine am.store aj 0 i0 i0 7 [u] i0 i0 i0 i9 λT i=>?_;have i:Sp h T [ac a9 167 (bL (R.object,R.block,R.id,R.p.1,R.p.2.1,R.p.2.2,R.seed,u)),ac d 167 (bL (0,0,0,0,0,0,0,⟨ez,0,0⟩)),ae 5 r 1 aw x,ae 5 u 1 aw R.data]:=i;obtain⟨X,hX⟩:∃X:bA,X=(R.object,R.block,R.id,R.p.1,R.p.2.1,R.p.2.2,R.seed,u):=⟨_,rfl⟩
   rw[<-hX]at i;have W:∀{h':f8} {q:av},Seq h' q u 1 aw R.data->fg.p h' q X R:=λ{h' q} hs=>by rw[hX];exact⟨⟨i0,i0,i0,i0,i0,M⟩,hs⟩
   refine⟨X,(i.box 0 i0).aE _ i0,(pS X R T (W (i.seq 3 i0 λ_=>rfl))).mono ?_⟩;rintro _ a0 ⟨s5,rfl,al⟩;have s:=i.comp al;refine⟨s5,i0,(kY b s5 c (dl R) a0 (hb.up s.af) (s.seq 4 i0 λ_=>rfl)).mono ?_⟩;rintro _ a8 ⟨rfl,rfl⟩;refine⟨_,i0,aQ (λY=>E (s.aL 2 [1,0]) (by rw[O,g0 λo=>(of_decide_eq_false Y) o.2.symm])) λY=>?_⟩;have Y:c=dl R:=hZ Y;refine⟨X,(s.box 0 i0).aE _ i0,?_⟩;refine s.storeAll aj 1 i0 i0 (bL X) i0 i0 i0 i0 λap S=>?_;have f:dP c=dB R:=by rw[O,f9 ⟨g,Y.symm⟩]
   refine⟨X,(S.box 1 i0).aE _ i0,X,by rw[f];rfl,λI=>(by rw[f]at I;cases I),λr' D=>?_⟩;rw[f]at D;injection D with D
   subst D;have a2:Sp h ap [ae 5 u 1 aw R.data]:=S.bB [3];exact a2.dX 0 i0 λq hq=>W (hq.1.seq (λ_=>rfl) hq.2)
variable {X Y Z:HP}
section
variable {L:List HP}
theorem aa.afS(H:aa B h0 h (X::Y::(L++As))):aa B h0 h (L++(X::Y::As)):=
 H.pick (λi=>if i<ii L then i+2 else if i=ii L then 0 else if i=ii L+1 then 1 else i) (λa b c=>by(try dsimp only at c);split at c<;>split at c<;>(try split at c)<;>(try split at c)<;>(try split at c)<;>(try split at c)<;>omega) λi A d=>by
  try dsimp only
  by_cases g:i<ii L
  ·rw[ql g]at d;rw[f9 g,qo,qo,ql g];exact d
  ·rw[qh i4]at d;rw[g0 g];by_cases e:i=ii L
   ·subst e;rw[f9 rfl];rw[qW]at d;exact d
   ·rw[g0 e];by_cases f:i=ii L+1
    ·subst f;rw[f9 rfl];rw[show L.length+1-ii L=1 by omega]at d;exact d
    ·rw[g0 f];obtain⟨j,rfl⟩:∃j,i=ii L+(j+2):=⟨i-ii L-2,i4⟩
     rw[zn,qo,qo]at d;rw[show L.length+(j+2)=(ii L+j)+1+1 by omega,qo,qo,qh i4,zn];exact d
theorem aa.RT(n:Nat)(b:L[n]?=dB X)(H:aa B h0 h (Y::Z::(L++As))):aa B h0 h (X::Z::Y::(L.set n emp++As)):=by
 have a:=(qj.1 b).1;have c:=H.cons (n+2) (A:=X) (by rw[qo,qo,ql a];exact b);have e:(Y::Z::(L++As)).set (n+2) emp=Y::Z::(L.set n emp++As):=by rw[zu,zu,List.set_append_left _ _ a]
 rw[e]at c;exact c.aL 3 [0,2,1]
theorem aa.ER(n:Nat)(f:n<ii L)(H:aa B h0 h (X::Z::Y::(L.set n emp++As))):aa B h0 h (Y::Z::(L.set n X++As)):=
 H.pick (λi=>if i=0 then 2 else if i=1 then 1 else if i=n+2 then 0 else i+1) (λa b c=>by(try dsimp only at c);split at c<;>split at c<;>(try split at c)<;>(try split at c)<;>(try split at c)<;>(try split at c)<;>omega) λi A d=>by
  try dsimp only
  match i,d with
  |0,d=>exact d
  |1,d=>exact d
  |i+2,d=>
   rw[g0 i4,g0 i4];rw[qo,qo]at d;by_cases e:i=n
   ·subst e;rw[ql sR,zg f]at d;rw[f9 rfl];exact d
   ·rw[g0 i4,qo,qo,qo];by_cases g:i<ii L
    ·rw[ql l9,zy i4]at d;rw[ql l9,zy i4];exact d
    ·rw[qh i7,zc]at d;rw[qh i7,zc];exact d
end
structure Kit where
 tS:Nat
 tP:Nat
 tD:Nat
 f:eX->aY->Sl->Sl->aR
def ZB(k:Kit)(pw:eX)(a:bZ)(d:Option aY):HP:=match a,d with
 |some a,dB d=>gq k.tD (k.f pw) a d
 |_,_=>emp
abbrev bC(a:aR)(pw:eX)(offs:Int)(b:List bZ):aR:=a++(xI (dB pw)::xG xM offs::b.map .pointer)
structure fx (mc:aR) (da:List bZ) (ds:aF):Prop where
 l8:ii mc=8
 la:ii da=64
 ls:ii ds=64
 same:∀i:Nat,(da.getD i ez).isSome=(ds.getD i ez).isSome
abbrev cZ(k:Kit)(pw:eX)(a:List bZ)(ds:aF):List HP:=List.zipWith (ZB k pw) a ds
def ba(k:Kit)(a pw:eX)(c:aR)(offs:Int)(b:List bZ)(w:Pow)(ds:aF):HP:=
 (HP.all (ac a k.tS (bC c pw offs b)::bK k.tP pw w::cZ k pw b ds)).and (fx c b ds)
variable {mc:aR} {offs:Int} {da:List bZ} {w':Pow} {ds:aF} {d':aY} {n:Nat}
section
variable {k:Kit} {pw:eX}
theorem BB(ok:fx mc da ds):ii (cZ k pw da ds)=64:=by simp[cZ,ok.la,ok.ls]
theorem aa.mB(H:aa B h0 h (ba k a pw mc offs da w ds::As)):fx mc da ds/\aa B h0 h (ac a k.tS (bC mc pw offs da)::bK k.tP pw w::(cZ k pw da ds++As)):=by obtain⟨H,ok⟩:=H.oA;exact⟨ok,H.kQ⟩
theorem aa.mC(ok:fx mc da ds)(H:aa B h0 h (ac a k.tS (bC mc pw offs da)::bK k.tP pw w::(cZ k pw da ds++As))):aa B h0 h (ba k a pw mc offs da w ds::As):=
 (aa.closeAll (ac a k.tS (bC mc pw offs da)::bK k.tP pw w::cZ k pw da ds) H).tooA ok
theorem fx.addr(ok:fx mc da ds)(c:ds[n]?=dB (dB d)):∃b,da[n]?=dB (dB b):=by
 have e:n<64:=by have:=(qj.1 c).1;rw[ok.ls]at this;exact this
 have a:=ok.same n;rw[qd,qd,c]at a;have f:n<ii da:=by rw[ok.la];exact e
 rw[qc f]at a⊢;simp at a;obtain⟨b,g⟩:=yw.1 a;exact⟨b,by rw[g]⟩
theorem fx.Dy(ok:fx mc da ds)(b:n<64)(d:ds[n]?=dB ez):da[n]?=dB ez:=by
 have a:=ok.same n;rw[qd,qd,d]at a;have c:n<ii da:=by rw[ok.la];exact b
 rw[qc c]at a⊢;simp at a;rw[a]
theorem fx.set(ok:fx mc da ds){b:eX}(c:da[n]?=dB (dB b)):fx mc da (ds.set n (dB d')):=by
 refine⟨ok.l8,ok.la,by rw[zc];exact ok.ls,λi=>?_⟩;by_cases a:n=i
 ·subst a;have d:n<ii ds:=by have:=(qj.1 c).1;rw[ok.la]at this;rw[ok.ls];exact this
  rw[qd,c,qd,zg d];rfl
 ·rw[qd (l:=ds.set n _),zy a,<-qd];exact ok.same i
theorem ZC{b:eX}(c:da[n]?=dB (dB b))(d:n<ii ds):(cZ k pw da ds).set n (gq k.tD (k.f pw) b d')=cZ k pw da (ds.set n (dB d')):=by
 apply zt;intro j;have e:n<ii da:=(qj.1 c).1;simp only[cZ,qU,zF,yG];by_cases a:n=j
 ·subst a;rw[f9 i0,f9 i4,f9 i0,f9 d,c];rfl
 ·simp[a]
def LP(k:Kit)(a pw:eX)(c:aR)(offs:Int)(b:List bZ)(ds:aF)(n:Nat):HP:=
 (HP.all (ac a k.tS (bC c pw offs b)::(cZ k pw b ds).set n emp)).and (fx c b ds)
theorem aa.ju(H:aa B h0 h (ba k a pw mc offs da w ds::As))(e:ds[n]?=dB (dB d)):∃b,da[n]?=dB (dB b)/\aa B h0 h (gq k.tD (k.f pw) b d::bK k.tP pw w::LP k a pw mc offs da ds n::As):=by
 obtain⟨ok,i⟩:=H.mB;obtain⟨b,c⟩:=ok.addr e;refine⟨b,c,?_⟩;have l:(cZ k pw da ds)[n]?=dB (gq k.tD (k.f pw) b d):=by simp only[cZ,zF,c,e];rfl
 have j:=i.RT n l;have g:aa B h0 h (gq k.tD (k.f pw) b d::bK k.tP pw w::((ac a k.tS (bC mc pw offs da)::(cZ k pw da ds).set n emp)++As)):=j;exact(((aa.closeAll _ g.afS).tooA ok).aL 3 [1,2,0]:aa B h0 h (gq k.tD (k.f pw) b d::bK k.tP pw w::LP k a pw mc offs da ds n::As))
theorem aa.pC{b:eX}(j:da[n]?=dB (dB b))(H:aa B h0 h (gq k.tD (k.f pw) b d'::bK k.tP pw w'::LP k a pw mc offs da ds n::As)):aa B h0 h (ba k a pw mc offs da w' (ds.set n (dB d'))::As):=by
 have l:aa B h0 h (LP k a pw mc offs da ds n::bK k.tP pw w'::gq k.tD (k.f pw) b d'::As):=H.aL 3 [2,1,0];obtain⟨l,ok⟩:=l.oA;have o:=l.kQ;have q:n<ii ds:=by have:=(qj.1 j).1;rw[ok.la]at this;rw[ok.ls];exact this
 have s:=BB (k:=k) (pw:=pw) ok;have g:n<ii (cZ k pw da ds):=by rw[s,<-ok.ls];exact q
 obtain⟨L,p⟩:∃L,L=cZ k pw da ds:=⟨_,rfl⟩
 rw[<-p]at o g;have t:aa B h0 h (gq k.tD (k.f pw) b d'::bK k.tP pw w'::ac a k.tS (bC mc pw offs da)::(L.set n emp++As)):=by
  refine o.pick (λi=>if i=0 then 1+ii L+1 else if i=1 then 1+ii L else if i=2 then 0 else if i<3+ii L then i-2 else i) (λx y c=>by(try dsimp only at c);split at c<;>split at c<;>(try split at c)<;>(try split at c)<;>(try split at c)<;>(try split at c)<;>(try split at c)<;>(try split at c)<;>omega) λi A e=>?_
  try dsimp only
  have d:ii (ac a k.tS (bC mc pw offs da)::L.set n emp)=1+ii L:=i7
  match i,e with
  |0,e=>rw[f9 i0,qh i4,d,show 1+ii L+1-(1+ii L)=1 by omega];exact e
  |1,e=>rw[g0 i4,f9 i0,qh i4,d,qW];exact e
  |2,e=>rw[g0 i4,g0 i4,f9 rfl];exact e
  |i+3,e=>
   rw[g0 i4,g0 i4,g0 i4];rw[qo,qo,qo]at e;by_cases m:i<ii L
   ·rw[f9 i4,show i+3-2=i+1 by omega,ql (by rw[d];omega),qo];rw[ql n9]at e;exact e
   ·rw[g0 i4,qh (by rw[d];omega),d,show i+3-(1+ii L)=(i-ii L)+2 by omega,qo,qo];rw[qh i7,zc]at e;exact e
 have r:=aa.ER n g t;rw[p,ZC j q]at r;exact r.mC (ok.set j)
end
def jg:iy (Int×Sl) (Int×aP):=⟨λh q a b=>a.1=b.1/\Seq h q a.2 1 aw b.2,λa c=>⟨a.1,a.2.af c⟩,λa d=>⟨a.1,a.2.mono d⟩⟩
def piv(x:Int×Sl):aR:=[xG xM x.1,x.2]
theorem Jv:∀x,∀c∈piv x,c.oneCell'=eH:=by intro x c a;simp[piv]at a;rcases a with rfl|rfl<;>rfl
def gf(a:List bZ)(slot:Int):bZ:=if 0<=slot/\slot<64 then(a[slot.toNat]?).join else ez
theorem mD{g:aR}{c:List bZ}{ds:aF}(ok:fx g c ds)(slot:Int):
  (aU ds slot=ez/\gf c slot=ez)∨∃(n:Nat) (d:aY) (b:eX),slot=n/\n<64/\ds[n]?=dB (dB d)/\aU ds slot=dB d/\c[n]?=dB (dB b)/\gf c slot=dB b:=by
 unfold aU gf;by_cases h:0<=slot/\slot<64
 ·rw[f9 h,f9 h];have e:slot.toNat<ii ds:=by rw[ok.ls];omega
  cases hd:ds[slot.toNat]with
  |none=>
   have a:ds[slot.toNat]?=dB ez:=by rw[qc e,hd]
   exact .inl ⟨by rw[a];rfl,by rw[ok.Dy i4 a];rfl⟩
  |some d=>
   have a:ds[slot.toNat]?=dB (dB d):=by rw[qc e,hd]
   obtain⟨b,f⟩:=ok.addr a;exact .inr ⟨slot.toNat,d,b,i4,i4,a,by rw[a];rfl,f,by rw[f];rfl⟩
 ·rw[g0 h,g0 h];exact .inl ⟨i0,i0⟩
theorem uN{a:aR}{pw:eX}{offs:Int}{b:List bZ}(h8:ii a=8)(n:Nat):(bC a pw offs b)[10+n]?=(b[n]?).map .pointer:=by unfold bC;rw[qh i4,h8,show 10+n-8=n+1+1 by omega,qo,qo,qL]
theorem NA{a:aR}{pw:eX}{offs:Int}{b:List bZ}(h8:ii a=8):(bC a pw offs b)[8]?=dB (xI (dB pw)):=by unfold bC;rw[qh i4,h8];rfl
theorem TE{a:aR}{pw:eX}{offs:Int}{b:List bZ}(h8:ii a=8):(bC a pw offs b)[9]?=dB (xG xM offs):=by unfold bC;rw[qh i4,h8];rfl
abbrev bc:Qw.Kit:=⟨92,104,102,λpw=>eG pw⟩
theorem NB{e:TypeId}(s:Sl)(l:aB)(h:f8)(c:Own h e s 1 ak l)(a:ii l<2^40):an xQ 144 #[s] h λv h'=>v=xH s.ptr (Lib.compact l).length s.cap/\Own h' e ⟨s.ptr,ii (Lib.compact l),s.cap⟩ 1 ak (Lib.compact l)/\aN (λb=>¬s.on b) h h':=
 Hl Tryz.slices_Compact_int Tryz.slices_Compact_int_empty c a
section
variable {pw:eX}
theorem kE(slot:Int)(ok:fx mc da ds)(d:bW h a 92 (bC mc pw offs da)):an xQ 13 #[xI (dB a),xG xM slot] h λv h'=>v=.pointer (gf da slot)/\h'=h:=by
 refine ts Tryz.func13 ?_ (.two .n (.two (.join [] [(4,15)] .n) .n));have c:¬(0<=slot/\slot<64)->Value.pointer ez=.pointer (gf da slot)/\h=h:=λe=>by unfold gf;rw[g0 e];exact⟨i0,i0⟩
 refine aT (bf (λe=>j1) λ_=>ag (λe=>c i4) λf=>ag (λe=>c i4) λe2=>?_);have b:slot.toNat<ii da:=by rw[ok.la];omega
 refine⟨a,i0,⟨i4,i4⟩,da[slot.toNat],?_,?_,i0⟩
 ·rw[wb];refine d.uL 10 slot.toNat ?_;rw[uN ok.l8,qc b];rfl
 ·unfold gf;rw[f9 i4,qc b];rfl
theorem aa.cP(H:aa B h0 h (ba bc a pw mc offs da w ds::As)):fx mc da ds/\bW h a 92 (bC mc pw offs da):=by obtain⟨ok,b⟩:=Qw.aa.mB H;exact⟨ok,b.box 0 i0⟩
theorem HD(s:Sl)(l:aB)(x:Rd h s 1 ak l)(J:ii l<=2^30)(H:aa B h0 h (ba bc a pw mc offs da w ds::As)):
  an xQ 50 #[.func (.func 13) #[xI (dB a)] #[],s] h λv h'=>∃r:Sl,v=r/\Sp h h' [ae 3 r 1 ak (bu ds l)]:=by
 refine ts Tryz.func50 ?_ (.two .n (.two .n (.two (.two .n (.inn (.loop [(5,cK),(11,aS)] [(5,6),(7,9),(11,30)] .n))) .n))) (args:=[(.func (.func 13) #[xI (dB a)] #[]),s]);have D:=x.len;obtain⟨ok,u⟩:=aa.cP H;refine aq (λt:Sl×Nat=>(t.1,(t.2:Int))) (λt h'=>t.2<=ii l/\Sp h h' [ae 3 t.1 1 ak (bu ds (l.take t.2))]) (λt=>ii l-t.2) (⟨ez,0,0⟩,0) i0 ⟨i9,by simpa[bu]using(Sp.refl h).nil 3 1 ak⟩ ?_;rintro⟨o,i⟩ L ⟨M,j⟩;dsimp only at*;refine ag (λe=>?_) (λe=>?_)
 ·have p:i<ii l:=i4
  have c:bu ds (l.take (i+1))=bu ds (l.take i)++(if isLive ds l[i]then[l[i]]else[]):=by unfold bu;rw[aD _ _ p,zl,zq,vo]
  have E:ii (bu ds (l.take i))<=ii l:=by have:=qR (isLive ds) (l.take i);unfold bu;simp at this⊢;omega
  have next:∀{h':f8} {k:Sl},Sp h h' [ae 3 k 1 ak (bu ds (l.take (i+1)))]->∃m:Sl×Nat,((⟨k.ptr,k.len,k.cap⟩:Sl),qe xM ((i:Int)+1))=(m.1,(m.2:Int))/\(m.2<=ii l/\Sp h h' [ae 3 m.1 1 ak (bu ds (l.take m.2))])/\l.length-m.2<ii l-i:=λ{h' k} H'=>
   ⟨(k,i+1),jj,⟨i6,H'⟩,i6⟩
  refine(Seq.up x j.af).bt i i0 p l[i] i0 (dL lx ?_);refine(kE l[i] ok (u.af j.af u.lt)).mono ?_;rintro _ I ⟨rfl,rfl⟩;refine⟨_,i0,?_⟩;rcases mD ok l[i]with⟨c1,c2⟩|⟨n,d,b,c0,c1,c2,c3,c4,c5⟩
  ·rw[c2];have g:isLive ds l[i]=eL:=by unfold isLive;rw[c1]
   rw[g]at c;refine aQ (λe=>j1) λ_=>next (by rw[c];simpa using j)
  ·rw[c5];have g:isLive ds l[i]=!d.lost:=by unfold isLive;rw[c3]
   refine aQ (λ_=>?_) λe=>j1
   obtain⟨K,f,z⟩:=Qw.aa.ju (aa.up H j.af) c2;rw[c4]at f;injection f with f
   injection f with f
   subst f;obtain⟨A,y,q,_,_⟩:=ir.box z;refine(ro A y q).mono ?_;rintro _ h3 ⟨rfl,rfl⟩;refine⟨_,i0,aQ (λe=>?_) λe=>?_⟩
   ·rw[g,e]at c;refine j.push aj 0 i0 fR i0 i5 (λ_=>rfl) eC l[i] i0 i5 i4 λk G F=>next ?_
    rw[c];exact F
   ·rw[g,e]at c;exact next (by rw[c];simpa using j)
 ·rw[qg i4]at j;exact⟨o,i0,j⟩
theorem HE(s:Sl)(l:aB)(Q:St B h0 As λh=>Rd h s 1 ak l)(Z:ii l<=2^30)(z:∀x∈l,0<=x/\x<64)(H:aa B h0 h (ba bc a pw mc offs da w ds::As)):
  an xQ 95 #[.func (.func 13) #[xI (dB a)] #[],s] h λv h'=>v=xG xM (fN (dw l) w ds).1/\aa B h0 h' (ba bc a pw mc offs da (fN (dw l) w ds).2.1 (fN (dw l) w ds).2.2::As):=by
 refine ts Tryz.func95 ?_ (.two .n (.two .n (.two .n (.two (.two .n (.inn (.loop [(15,aS)] [(4,5),(6,8),(15,27)] .n))) .n)))) (args:=[(.func (.func 13) #[xI (dB a)] #[]),s]);refine(jy s l h (Q.at [_] H) i4).mono ?_;rintro _ V ⟨r,rfl,U⟩;have K:=H.bN U;refine⟨r,i0,(Ds r l V (K.own 0 i0) i4).mono ?_⟩;rintro _ O ⟨rfl,I,T⟩;have N:=K.mN 0 i0 T I;refine⟨(),i0,(NB r (iu l) O I (by rw[CJ];omega)).mono ?_⟩;rintro _ h3 ⟨rfl,R,G⟩;have o:=N.step (D:=ae 3 ⟨r.ptr,ii (Lib.compact (iu l)),r.cap⟩ 1 ak (Lib.compact (iu l))) 0 i0 λq E A=>⟨G.mono λb _ j F=>j (E.2 b F),R,λb j=>⟨qT (A b (E.2 b j)) G.1,.inl (E.2 b j)⟩⟩
 rw[Ti l z]at o⊢;obtain⟨u,J⟩:∃u,u=dw l:=⟨_,rfl⟩
 rw[<-J]at o⊢;have o:aa B h0 h3 (ae 3 ⟨r.ptr,ii u,r.cap⟩ 1 ak u::ba bc a pw mc offs da w ds::As):=o;have X:ii u<=64:=by have:=qR (λi=>decide (i∈l)) ((qz 64).map λi:Nat=>(i:Int));rw[J];unfold dw;simpa using this
 refine⟨⟨r.ptr,ii u,r.cap⟩,i0,?_⟩;refine aq (λt:Nat×Pow×aF=>(t.1:Int)) (λt h'=>t.1<=ii u/\fN u w ds=fN (u.drop t.1) t.2.1 t.2.2/\aa B h0 h' (ae 3 ⟨r.ptr,ii u,r.cap⟩ 1 ak u::ba bc a pw mc offs da t.2.1 t.2.2::As)) (λt=>ii u-t.1) (0,w,ds) i0 ⟨i9,i0,o⟩ ?_;rintro⟨i,g,ds1⟩ Y ⟨hi,c,p⟩;dsimp only at*;refine ag (λe=>?_) (λe=>?_)
 ·have m:i<ii u:=i4
  obtain⟨ok,j⟩:=aa.cP p.rest;rw[qJ m,oB]at c;refine(p.seq 0 i0 λ_=>rfl).bt i i0 m u[i] i0 (dL lx ?_);refine(kE u[i] ok j).mono ?_;rintro _ P ⟨rfl,rfl⟩;refine⟨_,i0,?_⟩;rcases mD ok u[i]with⟨c1,c2⟩|⟨n,d,b,c0,c1,c2,c3,c4,c5⟩
  ·rw[c2];refine(Nx P).mono ?_;rintro _ M ⟨rfl,rfl⟩;have y:fK g ds1 u[i]=(5,g,ds1):=by unfold fK;rw[c1]
   rw[y]at c;refine⟨5,i0,bx (λ_=>?_) λe=>absurd e i5⟩;have:fN u w ds=(5,g,ds1):=c;rw[this];exact⟨i0,p.rest⟩
  ·rw[c5];obtain⟨b',f,S⟩:=Qw.aa.ju (p.aL 2 [1,0]) c2;rw[c4]at f;injection f with f
   injection f with f
   subst f;refine(Wo S).mono ?_;rintro _ M ⟨rfl,W⟩;have L:=Qw.aa.pC (k:=bc) (n:=n) c4 W;have y:fK g ds1 u[i]=((d.sync g).1,(d.sync g).2.1,ds1.set n (dB (d.sync g).2.2)):=by unfold fK;rw[c3];simp only[bM,c0,qk]
   rw[y]at c;refine⟨_,i0,bx (λe2=>?_) λe2=>?_⟩
   ·have:fN u w ds=((d.sync g).1,(d.sync g).2.1,ds1.set n (dB (d.sync g).2.2)):=by rw[c];exact g0 e2
    rw[this];exact⟨i0,L.oy⟩
   ·refine⟨(i+1,(d.sync g).2.1,ds1.set n (dB (d.sync g).2.2)),jj,⟨i6,?_,L.aL 2 [1,0]⟩,i6⟩;rw[c];exact f9 e2
 ·rw[zd i4]at c;rw[c];exact⟨i0,p.rest⟩
end
theorem HP.Aw{h:f8}:∀{L:List HP} {q:av} {i:Nat} {A:HP},(HP.all L).p h q->L[i]?=dB A->A.p h q
 |A::L,q,0,A',⟨q1,q2,_,b,_,d,_⟩,hi=>by simp at hi;subst hi;exact A.mono d b
 |A::L,q,i+1,A',⟨q1,q2,_,_,c,_,e⟩,hi=>A'.mono (HP.Aw e (by simpa using hi)) c
 |[],_,i,_,_,hi=>by simp at hi
variable {β:Type} {e e2:Nat} {ll:List (List α)}
section
variable {f:α->aR}
theorem aa.NC(H:aa B h0 h (dc e s e2 k f ll::As))(j:∀x,ii (f x)=k):∃rs,aa B h0 h (cy (bR k f) 1 aX s rs ll::As):=by
 obtain⟨rs,H⟩:=H.oz;obtain⟨H,c⟩:=H.oA;refine⟨rs,H.dX 0 i0 λq b=>⟨?_,c,λi r l d a=>?_⟩⟩
 ·have:=HP.Aw (i:=0) b i0;exact this.1.seq (λ_=>rfl) this.2
 ·have g:i<ii ll:=(qj.1 a).1;have m:=fk (e:=e2) (k:=k) (f:=f) c i g;have:=HP.Aw (i:=i+1) b n9;have n:rs[i]'(by omega)=r:=by rw[qc i4]at d;simpa using d
  have e2:ll[i]=l:=by rw[qc g]at a;simpa using a
  rw[n,e2]at this;exact this.1.seq j this.2
end
def bF(m:aA)(cj:aB):List (Int×aP):=cj.flatMap λn=>(aO m).map λc=>(n,c)
theorem kF{m:aA}{cj:aB}{x:Int×aP}(h:x∈bF m cj):x.1∈cj/\x.2.length=64:=by unfold bF at h;obtain⟨n,a,d⟩:=zM.1 h;obtain⟨c,b,rfl⟩:=qx.1 d;exact⟨a,sa b⟩
theorem ki(m:aA)(a:cw m):ii (aO m)<=3000:=by have:=Gi m a;unfold aO dg;simp;omega
abbrev ND:bI C.toAi 114 124 2 [xG xM 0,xH ez 0 0] 32:=⟨_,_,i0,i0,i0,i0,i0,i0⟩
section
variable {pw:eX}
theorem Dz(s:Sl)(r:List (Int×Sl))(P:List (Int×aP))(I:St B h0 As λh=>nl jg 2 piv h s r P)(hl:ii P<=2^30)(D:∀x∈P,(0<=x.1/\x.1<64)/\x.2.length<=2^20)(H:aa B h0 h (ba bc a pw mc offs da w ds::As)):
  an xQ 61 #[.func (.func 13) #[xI (dB a)] #[],s] h λv h'=>v=xG xM (layAll P w ds).1/\aa B h0 h' (ba bc a pw mc offs da (layAll P w ds).2.1 (layAll P w ds).2.2::As):=by
 refine ts Tryz.func61 ?_ (.two .n (.two .n (.two (.two .n (.inn (.loop [(5,cK),(11,aS)] [(4,6),(7,9),(11,31)] (.two .n (.two .n (.two (.inn (.two .n (.two (.join [] [(4,5),(8,9),(15,25)] (.two (.join [(8,aS)] [(8,9),(15,22)] .n) .n)) .n))) .n)))))) .n))) [(5,(.l [0,1,2,4,5,3,6,7]))] (args:=[(.func (.func 13) #[xI (dB a)] #[]),s]);have V:=(I.at [_] H).1.len;have S:=(I.at [_] H).2.1;have H0:=(H.nil 3 1 ak).be;refine aq (λt:Sl×Nat×Pow×aF=>(t.1,(t.2.1:Int))) (λt h'=>t.2.1<=ii P/\kR P w ds=kR (P.drop t.2.1) t.2.2.1 t.2.2.2/\aa B h0 h' (ae 3 t.1 1 ak ((P.take t.2.1).map qq)::ba bc a pw mc offs da t.2.2.1 t.2.2.2::As)) (λt=>ii P-t.2.1) (⟨ez,0,0⟩,0,w,ds) i0 ⟨i9,i0,by simpa using H0⟩ ?_;rintro⟨o,i,u,ds1⟩ h1 ⟨hi,f,G⟩;dsimp only at*;refine ag (λe=>?_) (λe=>?_)
 ·have q:i<ii P:=i4
  rw[qJ q,ta]at f;have F1:=I.at [_,_] G;have K:=D _ (qf q);refine F1.1.cX (g:=piv) i i0 i4 (r[i]'(by omega)) i0 ?_;refine G.alloc aj i0 λa4 T z=>?_;have z:=z.be;refine z.storeAll aj 0 i0 i0 (piv (r[i]'(by omega))) i0 i0 i0 i0 λh3 m=>?_;obtain⟨N,O⟩:=Fix.row (I.at [_,_,_] m) q;have m:aa B h0 h3 (ac a4 124 (piv (r[i]'(by omega)))::ae 3 o 1 ak ((P.take i).map qq)::ba bc a pw mc offs da u ds1::As):=m;have m:=m.aL 3 [2,0,1];obtain⟨ok,U⟩:=aa.cP m;obtain⟨c,p⟩:∃c,c=fJ u ds1 P[i].1 P[i].2:=⟨_,rfl⟩
  rw[<-p]at f;refine bG (λ_ h'=>c.1=0/\aa B h0 h' (ba bc a pw mc offs da c.2.1 c.2.2::ac a4 124 (piv (r[i]'(by omega)))::ae 3 o 1 ak ((P.take i).map qq)::As)) ?_ ?_
  ·refine bG (λe h'=>e=c.1/\aa B h0 h' (ba bc a pw mc offs da c.2.1 c.2.2::ac a4 124 (piv (r[i]'(by omega)))::ae 3 o 1 ak ((P.take i).map qq)::As)) ?_ ?_
   ·refine⟨P[i].1,by rw[<-N];exact(m.box 1 i0).cell0 i0,(r[i]'(by omega)).2,(m.box 1 i0).cell i0,dL lx ?_⟩;refine(kE P[i].1 ok U).mono ?_;rintro _ J ⟨rfl,rfl⟩;refine⟨_,i0,⟨(m.box 1 i0).cell i0,trivial⟩,?_⟩;rcases mD ok P[i].1 with⟨c1,c2⟩|⟨n,d,b,c0,c1,c2,c3,c4,c5⟩
    ·rw[c2];refine(Jq (r[i]'(by omega)).2 P[i].2 J O).mono ?_;rintro _ W ⟨rfl,rfl⟩;have A:c=(if P[i].2.length≠64 then 1 else 5,u,ds1):=by rw[p];unfold fJ;rw[c1]
     refine⟨_,i0,trivial,by rw[A],?_⟩;rw[A];exact m
    ·rw[c5];obtain⟨b',j,L⟩:=Qw.aa.ju m c2;rw[c4]at j;injection j with j
     injection j with j
     subst j;refine(Fg (r[i]'(by omega)).2 P[i].2 L O K.2).mono ?_;rintro _ h6 ⟨rfl,H6⟩;have Y:=Qw.aa.pC (k:=bc) (n:=n) c4 H6;have A:c=((d.append u P[i].2).1,(d.append u P[i].2).2.1,ds1.set n (dB (d.append u P[i].2).2.2)):=by rw[p];unfold fJ;rw[c3];simp only[bM,c0,qk]
     refine⟨_,i0,trivial,by rw[A],?_⟩;rw[A];exact Y
   ·rintro e4 J ⟨rfl,F⟩;refine bx (λe2=>?_) λe2=>⟨e2,F⟩
    rw[g0 e2]at f;have:layAll P w ds=c:=by unfold layAll;rw[f];exact g0 e2
    rw[this];exact⟨i0,F.oy.oy⟩
  ·rintro _ J ⟨e2,F⟩;rw[f9 e2]at f;refine⟨P[i].1,by rw[<-N];exact(F.box 1 i0).cell0 i0,?_⟩;refine F.push aj 2 i0 fR i0 i5 (λ_=>rfl) eC P[i].1 i0 i5 i7 λX W L=>?_;refine⟨(X,i+1,c.2.1,c.2.2),jj,⟨i6,f,?_⟩,i6⟩
   try dsimp only
   rw[aD _ _ q,qM];exact L.aL 3 [2,0]
 ·have M:i=ii P:=i4
  subst M;rw[List.drop_length]at f;rw[qN]at G;have z:=(G.freeze 0 i0 λ_=>rfl).aL 2 [1,0];have E:layAll P w ds=fN (dw (P.map qq)) u ds1:=by unfold layAll;rw[f];rfl
  refine(HE o (P.map qq) (St.dN 0 i0 λh' Z=>Z) i7 (λx Q=>?_) z).mono ?_
  ·obtain⟨y,R,rfl⟩:=qx.1 Q;exact(D y R).1
  ·rintro _ T ⟨rfl,m⟩;refine⟨_,i0,t7,?_⟩;rw[E];exact m.oy
theorem Fi(x:bo)(m:aA)(s:Sl)(cj:aB)(h:f8)(hx:dh h x m)(G:cw m)(W:Rd h s 1 ak cj)(ad:ii cj<=2^10):
  an xQ 62 #[dq x,s] h λv h'=>∃(r:Sl) (ys:List (Int×Sl)),v=r/\Sp h h' [cy jg 2 piv r ys (bF m cj)]:=by
 refine ts Tryz.func62 ?_ (.two .n (.two .n (.two .n (.two (.two .n (.inn (.loop [(6,cK),(15,aS)] [(6,7),(8,9),(10,11),(15,33)] (.two .n (.two .n (.two (.inn (.two .n (.two .n (.inn (.loop [(6,cK),(21,aS)] [(6,7),(10,11),(21,32)] .n))))) .n)))))) .n)))) (args:=[x,s]);refine(Sp.refl h).boxed λa1 S J=>?_;refine⟨x,(J.box 0 i0).aE _ i0,(mT x m S (hx.up J.af) G).mono ?_⟩;rintro _ V ⟨r,rfl,R2⟩;have B:=J.bN R2;refine⟨r,i0,?_⟩;obtain⟨rs,B⟩:=B.NC λ_=>rfl;have K:=ki m G;obtain⟨a,D⟩:∃a,a=aO m:=⟨_,rfl⟩
 rw[<-D]at B K;have Q:=B.eS 0 i0;have Y:=Q.1.len;have X:=Q.2.1;have ab:=W.len;obtain⟨T,F⟩:∃T:Int->List ((Int×Sl)×(Int×aP)),T=λn=>(rs.zip a).map λz=>((n,z.1),(n,z.2)):=⟨_,rfl⟩
 have d:∀n,ii (T n)=ii a:=λn=>by rw[F];simp;omega
 have I:∀n,(T n).map zi=a.map λc=>(n,c):=λn=>by
  have G:=List.map_snd_zip (l₁:=rs) (l₂:=a) i4
  conv=>rhs;rw[<-G]
  rw[F];simp[w7,Function.comp_def]
 have P:∀n j (L:j<ii a),(T n)[j]'(by rw[d];exact L)=((n,rs[j]'(by omega)),(n,a[j])):=λn j L=>by subst F;simp
 have g:Sp h V [ae 124 ⟨ez,0,0⟩ 2 piv (((cj.take 0).flatMap T).map qq),cy (bR 1 aw) 1 aX r rs a]:=(B.nil 124 2 piv).bB [2,0];have w:∀i,i<=ii cj->ii ((cj.take i).flatMap T)<=i*3000:=λi=>by
  induction i with
  |zero=>simp
  |succ i ih=>
   intro U;rw[aD _ _ (show i<ii cj by omega),qZ,qt];have S:=ih i4;have V:ii ([cj[i]].flatMap T)=ii a:=by rw[zj,z7,qF,d]
   omega
 refine aq (λt:Sl×Nat=>(t.1,(t.2:Int))) (λt h'=>t.2<=ii cj/\Sp h h' [ae 124 t.1 2 piv (((cj.take t.2).flatMap T).map qq),cy (bR 1 aw) 1 aX r rs a]) (λt=>ii cj-t.2) (⟨ez,0,0⟩,0) i0 ⟨i9,g⟩ ?_;rintro⟨o,i⟩ h3 ⟨U,g⟩;dsimp only at*;refine ag (λe=>?_) (λe=>?_)
 ·have y:i<ii cj:=i4
  have ht:=w i U;have hb:i*3000<=2^10*3000:=zK _ i4;refine(Seq.up W g.af).bt i i0 y cj[i] i0 ?_;refine aq (λt:Sl×Nat=>(t.1,(t.2:Int))) (λt h'=>t.2<=ii a/\Sp h h' [ae 124 t.1 2 piv (((cj.take i).flatMap T).map qq++((T cj[i]).take t.2).map qq),cy (bR 1 aw) 1 aX r rs a]) (λt=>ii a-t.2) (o,0) i0 ⟨i9,l9⟩ ?_;rintro⟨u,j⟩ h4 ⟨L,p⟩;dsimp only at*;refine ag (λe2=>?_) (λe2=>?_)
  ·have E:j<ii a:=i4
   refine(p.eS 1 i0).1.lY j i0 i4 ?_;refine p.push aj 0 i0 ND i0 i5 (λ_=>rfl) Jv (cj[i],rs[j]'(by omega)) i0 i5 (by simp only[qt,qu,qO,d];omega) λu' h5 H5=>?_;refine⟨(u',j+1),jj,⟨i6,?_⟩,i6⟩
   try dsimp only
   rw[aD (T cj[i]) j (by rw[d];exact E),qM,P _ _ E,<-qn];exact H5
  ·have M:j=ii a:=i4
   subst M;rw[qg (l:=T cj[i]) (by rw[d];exact qm _)]at p;refine⟨(u,i+1),jj,⟨i6,?_⟩,i6⟩
   try dsimp only
   rw[aD _ _ y,qZ,qM,zj,z7,qF];exact p
 ·have O:i=ii cj:=i4
  subst O;rw[qN]at g;refine⟨o,(cj.flatMap T).map qq,i0,?_⟩;have p:=(g.freeze 0 i0 λ_=>rfl).iQ;refine p.dX 0 i0 λq ⟨q1,q2,_,b,c,z1,Z⟩=>?_;have A:(cj.flatMap T).map zi=bF m cj:=by unfold bF;rw[List.map_flatMap,<-D];congr 1;funext n;exact I n
  rw[<-A];refine⟨Z.mono c,i9,λj r' l' f H=>?_⟩;rw[qL]at f H;cases g3:(cj.flatMap T)[j]? with
  |none=>rw[g3]at f;cases f
  |some t=>
   rw[g3]at f H;simp at f H;subst f;subst H;obtain⟨n,_,R⟩:=zM.1 (zT g3);rw[F]at R;obtain⟨z,N,rfl⟩:=qx.1 R;obtain⟨k,hk,rfl⟩:=List.mem_iff_getElem.1 N;rw[yL];exact⟨i0,(z1.2.2 k _ _ (qc _) (qc _)).mono b⟩
end
section
variable {d:List bA}
theorem TF{b d:List bA}{y:bA}(c:Sd cx (b++d))(g:∀z∈b,cx z y=eH)(f:∀z∈d,¬cx z y=eH):Sd cx (b++y::d):=
 Sd.app dQ c.left (zH.2 ⟨λz a=>dQ.An (f z a),c.right⟩) λx e z a=>by
  rcases qV.1 a with rfl|a
  ·exact g x e
  ·exact c.uz x e z a
theorem Ax(X M Y:List bA)(a b:Int)(ha:a=(ii X:Int))(hb:b=(ii X+ii M:Nat))(ah:ii X+ii M+ii Y<=2^40)(H:aa B h0 h (cG s (X++(M++Y))::As)):
  an xQ 287 #[s,xG xM a,xG xM b,.func (.func 156) #[] #[]] h λv h'=>v=.tuple #[]/\∃W,Sd cx W/\cb cx M W/\aa B h0 h' (cG s (X++(W++Y))::As):=by
 refine ts Tryz.func287 ?_ (.two .n (.inn (.loop [(8,aS)] [(8,10),(12,53)] (.two .n (.two (.inn (.two .n (.inn (.loop [(9,aS)] [(9,10),(18,53)] (.two (.join [] [(18,35)] .n) .n))))) .n))))) (args:=[s,(a:Int),(b:Int),(.func (.func 156) #[] #[])]);subst ha;subst hb;rw[ai ((ii X:Int)+1)];refine aq (λt:Nat×List bA=>((ii X+1+t.1:Nat):Int)) (λt h'=>(t.1+1<=ii M∨t.1=0)/\Sd cx t.2/\cb cx (M.take (t.1+1)) t.2/\t.2.length=ii (M.take (t.1+1))/\aa B h0 h' (cG s (X++(t.2++(M.drop (t.1+1)++Y)))::As)) (λt=>ii M-t.1) (0,M.take 1) i0 ?_ ?_
 ·refine⟨.inr i0,?_,cb.refl _,i0,?_⟩
  ·cases M with
   |nil=>exact List.Pairwise.nil
   |cons x M=>exact zH.2 ⟨λ_ h=>mq,i9⟩
  ·rw[<-qn (M.take (0+1)),qA];exact H
 rintro⟨t,P⟩ h1 ⟨ht,F,r,ab,O⟩;dsimp only at*;refine ag (λe=>?_) (λe=>?_)
 ·have I:t+1<ii M:=i4
  obtain⟨y,hy⟩:∃y,y=M[t+1]:=⟨_,rfl⟩
  have J:ii P=t+1:=by rw[ab];simp;omega
  have eD:M.drop (t+1)=y::M.drop (t+1+1):=by rw[qJ I,hy]
  rw[eD]at O;refine aq (λu:List bA×List bA=>((ii X+ii u.1:Nat):Int)) (λu h'=>u.1++u.2=P/\(∀z∈u.2,¬cx z y=eH)/\aa B h0 h' (cG s (X++(u.1++(y::(u.2++(M.drop (t+1+1)++Y)))))::As)) (λu=>ii u.1) (P,[]) (by dsimp only;rw[J];congr 1;omega) ⟨i9,i9,by simpa using O⟩ ?_;rintro⟨c,d⟩ h2 ⟨K,f,L⟩;dsimp only at*;have ad:ii c+ii d=t+1:=by rw[<-J,<-K,qt]
  have k:∀{h':f8},(∀z∈c,cx z y=eH)->aa B h0 h' (cG s (X++(c++(y::(d++(M.drop (t+1+1)++Y)))))::As)->
    ∃l:Nat×List bA,qe xM (((ii X+1+t:Nat):Int)+1)=((ii X+1+l.1:Nat):Int)/\((l.1+1<=ii M∨l.1=0)/\Sd cx l.2/\cb cx (M.take (l.1+1)) l.2/\l.2.length=ii (M.take (l.1+1))/\aa B h0 h' (cG s (X++(l.2++(M.drop (l.1+1)++Y)))::As))/\M.length-l.1<ii M-t:=λ{h'} hle H'=>by
   refine⟨(t+1,c++y::d),by dsimp only;rw[ai _];omega,⟨.inl i6,?_,?_,?_,?_⟩,i6⟩
   ·exact TF n3 hle f
   ·try dsimp only
    rw[aD M (t+1) I,<-hy];have h1:cb cx (M.take (t+1)++[y]) (P++[y]):=r.app (cb.refl _);refine h1.trans ?_;rw[<-K,qn];have h2:cb cx (d++[y]) ([y]++d):=cb.RC dQ λx hx z S=>by rw[qp.1 S];exact f x hx
    exact(cb.refl _).app h2
   ·(try dsimp only);simp;omega
   ·try dsimp only
    have:X++((c++y::d)++(M.drop (t+1+1)++Y))=X++(c++(y::(d++(M.drop (t+1+1)++Y)))):=i9
    rw[this];exact H'
  obtain⟨D,T⟩:∃D,D=X++(c++(y::(d++(M.drop (t+1+1)++Y)))):=⟨_,rfl⟩
  refine bG (λ_ h'=>∃(Q:List bA) (z:bA),c=Q++[z]/\¬cx z y=eH/\aa B h0 h' (cG s D::As)) ?_ ?_
  ·rw[<-T]at L k;refine ag (λe2=>?_) (λe2=>⟨trivial,k (λz S=>?_) L⟩)
   ·have N:c≠[]:=λh=>by rw[h]at e2;simp at e2
    obtain⟨Q,z,o⟩:∃(Q:List bA) (z:bA),c=Q++[z]:=⟨c.dropLast,c.getLast N,(List.dropLast_concat_getLast N).symm⟩
    have Z:ii c=ii Q+1:=q0
    have g1:D[ii X+ii c]?=dB y:=by rw[T,qh i4,show X.length+ii c-ii X=ii c by omega,qh i4,qW];rfl
    have g2:D[ii X+ii c-1]?=dB z:=by rw[T,qh i4,show X.length+ii c-1-ii X=ii Q by omega,o,qn,qh (qm _),qW];rfl
    obtain⟨R,q⟩:=qj.1 g1;obtain⟨U,E⟩:=qj.1 g2;refine(L.seq 0 i0 λ_=>rfl).cX (g:=bL) _ i0 R y u7 ?_;have V:qe xM (((ii X+ii c:Nat):Int)-1)=((ii X+ii c-1:Nat):Int):=j4
    rw[V];refine(L.seq 0 i0 λ_=>rfl).cX (g:=bL) _ i0 U z t7 (dL lx ?_);refine(oQ y z h2).mono ?_;rintro _ h3 ⟨rfl,R3⟩;have G:=L.up R3.af;refine⟨_,i0,trivial,ag (λe3=>⟨Q,z,o,(pA y z).1 e3,G⟩) λe3=>k (λw m=>?_) G⟩;have p:cx z y=eH:=by
     by_cases hc:cx z y=eH
     ·exact hc
     ·exact absurd ((pA y z).2 hc) e3
    rw[o]at m;rcases qy.1 m with m|m
    ·refine dQ.trans _ _ _ ?_ p;have:Sd cx (Q++[z]):=by rw[<-o];exact Sd.left (v:=d) n3
     exact this.uz w m z i9
    ·rw[qp.1 m];exact p
   ·have:c=[]:=by
     cases c with
     |nil=>rfl
     |cons x P=>exfalso;simp only[zh]at e2;omega
    rw[this]at S;cases S
  ·rintro _ h3 ⟨Q,z,o,p,G⟩;have Z:ii c=ii Q+1:=q0
   have A:D=(X++Q)++z::([]++y::(d++(M.drop (t+1+1)++Y))):=by rw[T,o];simp
   obtain⟨q1,q2,q3,q4⟩:=Ju (X++Q) [] (d++(M.drop (t+1+1)++Y)) z y (i:=ii X+ii c-1) (j:=ii X+ii c) i7 i7;rw[<-A]at q1 q2 q3 q4;obtain⟨U,E⟩:=qj.1 q1;obtain⟨R,q⟩:=qj.1 q2;have V:qe xM (((ii X+ii c:Nat):Int)-1)=((ii X+ii c-1:Nat):Int):=j4
   rw[V];refine(G.seq 0 i0 λ_=>rfl).cX (g:=bL) _ i0 U z t7 ?_;refine(G.seq 0 i0 λ_=>rfl).cX (g:=bL) _ i0 R y u7 ?_;refine G.set aj 0 i0 (λ_=>rfl) i0 (ii X+ii c) i0 R z i0 i0 i0 λh4 H4=>⟨trivial,?_⟩
   refine H4.set aj 0 i0 (λ_=>rfl) i0 (ii X+ii c-1) i0 (by simpa using U) y i0 i0 i0 λh5 H5=>⟨trivial,?_⟩
   refine⟨(Q,z::d),l4,⟨by dsimp only;rw[<-K,o];simp,?_,?_⟩,i6⟩
   ·try dsimp only
    intro w m;rcases qV.1 m with rfl|m
    ·exact p
    ·exact f w m
   ·try dsimp only
    have:X++(Q++(y::(z::d++(M.drop (t+1+1)++Y))))=(X++Q)++y::([]++z::(d++(M.drop (t+1+1)++Y))):=i9
    rw[this,<-q4];exact H5
 ·refine⟨i0,P,F,?_,?_⟩
  ·rw[qg i4]at r;exact r
  ·rw[zd i4]at O;simpa using O
end
theorem ES(x y:Nat)(h:x+y<=2^62:=by omega):qe xM (zG (qe xP (qe xM ((x:Int)+(y:Int)))) (2^min (1:Int).toNat (qG xP)))=(((x+y)/2:Nat):Int):=by
 rw[ai ((x:Int)+y)];have e:qe xP ((x:Int)+(y:Int))=(x:Int)+y:=by unfold qe;simp[qG,vg];omega
 rw[e,show min (1:Int).toNat (qG xP)=1 from i0,Int.fdiv_eq_ediv_of_nonneg _ i5,ai _];omega
section
variable {d:List bA}
theorem xW{x y:bA}(h:¬lD x y<0):cx y x=eH:=by
 by_cases a:cx y x=eH
 ·exact a
 ·exact absurd ((pA x y).2 a) h
theorem jU{K:bA->Prop}(H:aa B h0 h (cG s d::As)){i:Int}(n:Nat)(e:i=n){x:bA}(j:d[n]?=dB x)(f:K x):
  ∃a:eX,(s.ptr=dB a/\0<=i/\i<((s.len:Nat):Int))/\∃x:bA,bp h (a.add (i.toNat*8)) 0 (bL x)/\K x:=by
 obtain⟨c,b⟩:=qj.1 j;exact(H.seq 0 i0 λ_=>rfl).cX (g:=bL) n e c x (by rw[b]) f
theorem Jw(x:bA)(X R Y:List bA)(ab:ii X+1+ii R+ii Y<=2^40)(G:Sd cx R)(H:aa B h0 h (cG s (X++(x::(R++Y)))::As)){K:wf}
  (d:∀h',(∃M,Sd cx M/\cb cx (x::R) M/\aa B h0 h' (cG s (X++(M++Y))::As))->K (.tuple #[]) h') (a m b:Int) (ha:a=(ii X:Int)) (hm:m=(ii X+1:Nat)) (hb:b=(ii X+1+ii R:Nat)):
  gU (σ:=Int×Int) (λc K1 g=>
   Br (decide (c.1<c.2))
   ((0<=(1:Int))/\
   ∃a2:eX,(s.ptr=dB a2/\0<=(qe xM (zG (qe xP (qe xM (c.1+c.2))) (2^min (1:Int).toNat (qG xP))))/\(qe xM (zG (qe xP (qe xM (c.1+c.2))) (2^min (1:Int).toNat (qG xP))))<((s.len:Nat):Int))/\
   ∃x3:bA,bp g (a2.add ((qe xM (zG (qe xP (qe xM (c.1+c.2))) (2^min (1:Int).toNat (qG xP)))).toNat*8)) 0 (bL x3)/\
   ∃a4:eX,(s.ptr=dB a4/\0<=a/\a<((s.len:Nat):Int))/\
   ∃x5:bA,bp g (a4.add (a.toNat*8)) 0 (bL x5)/\
   wd C 156 ((#[]:Array Value).toList++[recv x3,recv x5]++(#[]:Array Value).toList) (.one (.sc (.int .i64))) g λr6 n=>
   (bQ.ok [] n)/\
   Br (decide (r6<(0:Int)))
   (K1 (qe xM ((qe xM (zG (qe xP (qe xM (c.1+c.2))) (2^min (1:Int).toNat (qG xP))))+(1:Int)),c.2) n)
   (K1 (c.1,qe xM (zG (qe xP (qe xM (c.1+c.2))) (2^min (1:Int).toNat (qG xP)))) n))
   (gU (σ:=Int) (λf K2 h3=>
   Br (decide (f<(qe xM (c.1-(1:Int)))))
   (∃a8:eX,(s.ptr=dB a8/\0<=(qe xM (f+(1:Int)))/\(qe xM (f+(1:Int)))<((s.len:Nat):Int))/\
   ∃x9:bA,bp h3 (a8.add ((qe xM (f+(1:Int))).toNat*8)) 0 (bL x9)/\
   ∃D:eX,(s.ptr=dB D/\0<=f/\f<((s.len:Nat):Int))/\
   ∃y:bA,bp h3 (D.add (f.toNat*8)) 0 (bL y)/\
   ∃F:eX,(s.ptr=dB F/\0<=f/\f<((s.len:Nat):Int))/\
   au xQ (qE 167 (xI (dB (F.add (f.toNat*8)))) (recv x9)) h3 λ_ P=>
   (bQ.ok [] P)/\
   ∃A:eX,(s.ptr=dB A/\0<=(qe xM (f+(1:Int)))/\(qe xM (f+(1:Int)))<((s.len:Nat):Int))/\
   au xQ (qE 167 (xI (dB (A.add ((qe xM (f+(1:Int))).toNat*8)))) (recv y)) P λ_ W=>
   (bQ.ok [] W)/\
   K2 (qe xM (f+(1:Int))) W)
   (K (.tuple #[]) h3)) a g)) (m,b) h:=by
 subst ha;subst hm;subst hb;refine aq (λt:Nat×Nat=>(((ii X+1+t.1:Nat):Int),((ii X+1+t.2:Nat):Int))) (λt h'=>t.1<=t.2/\t.2<=ii R/\(∀k (d:k<ii R),k<t.1->¬cx x R[k]=eH)/\(∀k (d:k<ii R),t.2<=k->cx x R[k]=eH)/\aa B h0 h' (cG s (X++(x::(R++Y)))::As)) (λt=>t.2-t.1) (0,ii R) i0 ⟨i9,i9,λ_ _ h=>mq,λ_ g n=>absurd g rb,H⟩ ?_;rintro⟨i,j⟩ g ⟨ah,hj,p,I,N⟩;dsimp only at*;refine ag (λe=>?_) (λe=>?_)
 ·have o:i<j:=i4
  rw[ES _ _];have eh:((ii X+1+i)+(ii X+1+j))/2=ii X+1+(i+j)/2:=i4
  rw[eh];have d:(i+j)/2<ii R:=i4
  refine⟨i5,jU N _ i0 (x:=R[(i+j)/2]) ?_ (jU N X.length i0 (x:=x) ?_ (dL lx ?_))⟩
  ·rw[qh i4,show X.length+1+(i+j)/2-ii X=(i+j)/2+1 by omega,qo,ql d,qc d]
  ·rw[qh (qm _),qW];rfl
  refine(oQ R[(i+j)/2] x g).mono ?_;rintro _ n ⟨rfl,R2⟩;have H2:=N.up R2.af;refine⟨_,i0,trivial,ag (λe2=>?_) λe2=>?_⟩
  ·have Q:=(pA _ _).1 e2;refine⟨((i+j)/2+1,j),jj,⟨i6,hj,λk E V=>?_,I,H2⟩,i6⟩;intro hc;exact Q (dQ.trans _ _ _ hc (G.at_ dQ (i:=k) (j:=(i+j)/2) (by dsimp only at V;omega) d))
  ·refine⟨(i,(i+j)/2),i0,⟨i6,i6,p,λk E Z=>?_,H2⟩,i6⟩;exact dQ.trans _ _ _ (xW e2) (G.at_ dQ (by dsimp only at Z;omega) E)
 ·have o:i=j:=i4
  subst o;have hM:Sd cx (R.take i++x::R.drop i):=by
   refine Sd.app dQ (Sd.left (v:=R.drop i) (by rw[qA];exact G)) (zH.2 ⟨λz J=>?_,Sd.right (u:=R.take i) (by rw[qA];exact G)⟩) λz J w r=>?_
   ·obtain⟨k,d,rfl⟩:=qD J;rw[wu];exact I _ _ i4
   ·obtain⟨k,d,rfl⟩:=qD J;rw[yh];have U:k<i:=k7
    have g:=dQ.An (p k k7 U);rcases qV.1 r with rfl|r
    ·exact g
    ·obtain⟨l,hl,rfl⟩:=qD r;rw[wu];exact G.at_ dQ i4 (by simp at hl;omega)
  have hE:cb cx (x::R) (R.take i++x::R.drop i):=by
   have g:cb cx ([x]++R.take i) (R.take i++[x]):=cb.RC dQ λz J w r=>by
    rw[qp.1 J];obtain⟨k,d,rfl⟩:=qD r;rw[yh];exact p k k7 k7
   have n:=g.app (cb.refl (le:=cx) (R.drop i));have e1:([x]++R.take i)++R.drop i=x::R:=by rw[qn,qA];rfl
   have e2:(R.take i++[x])++R.drop i=R.take i++x::R.drop i:=i9
   rw[e1,e2]at n;exact n
  have el:qe xM (((ii X+1+i:Nat):Int)-1)=((ii X+i:Nat):Int):=j4
  rw[el];refine aq (λt:Nat=>((ii X+t:Nat):Int)) (λt h'=>t<=i/\aa B h0 h' (cG s (X++(R.take t++(x::(R.drop t++Y))))::As)) (λt=>i-t) 0 i0 ⟨i4,by simpa using N⟩ ?_;rintro t h3 ⟨ht,O⟩;refine ag (λe2=>?_) (λe2=>?_)
  ·have ad:t<i:=i4
   have L:t<ii R:=i4
   have q:X++(R.take t++(x::(R.drop t++Y)))=(X++R.take t)++x::([]++R[t]::(R.drop (t+1)++Y)):=by rw[qJ L];simp only[qn,zo,zW]
   obtain⟨S,T,q3,q4⟩:=Ju (X++R.take t) [] (R.drop (t+1)++Y) x R[t] (i:=ii X+t) (j:=ii X+t+1) i7 i7;rw[<-q]at S T q3 q4;have ek:qe xM (((ii X+t:Nat):Int)+1)=((ii X+t+1:Nat):Int):=j4
   rw[ek];refine jU O _ i0 T (jU O _ i0 S ?_);refine O.set aj 0 i0 (λ_=>rfl) i0 (ii X+t) i0 (qj.1 S).1 R[t] i0 i0 i0 λP H4=>⟨trivial,?_⟩
   refine H4.set aj 0 i0 (λ_=>rfl) i0 (ii X+t+1) i0 (by rw[zc];exact(qj.1 T).1) x i0 i0 i0 λW H5=>⟨trivial,?_⟩
   refine⟨t+1,i0,⟨i4,?_⟩,i4⟩;have e3:X++(R.take (t+1)++(x::(R.drop (t+1)++Y)))=(X++R.take t)++R[t]::([]++x::(R.drop (t+1)++Y)):=by rw[aD R t L];simp only[qn,zo,zW]
   rw[e3,<-q3];exact H5
  ·have:t=i:=i4
   subst this;refine d h3 ⟨R.take t++x::R.drop t,hM,hE,?_⟩;have:X++((R.take t++x::R.drop t)++Y)=X++(R.take t++(x::(R.drop t++Y))):=i9
   rw[this];exact O
theorem HG(y:bA)(X L Y:List bA)(ao:ii X+ii L+1+ii Y<=2^40)(r:Sd cx L)(H:aa B h0 h (cG s (X++(L++(y::Y)))::As)){K:wf}
  (d:∀h',(∃M,Sd cx M/\cb cx (L++[y]) M/\aa B h0 h' (cG s (X++(M++Y))::As))->K (.tuple #[]) h') (a m:Int) (ha:a=(ii X:Int)) (hm:m=(ii X+ii L:Nat)):
  gU (σ:=Int×Int) (λb K3 Z=>
   Br (decide (b.1<b.2))
   ((0<=(1:Int))/\
   ∃q:eX,(s.ptr=dB q/\0<=m/\m<((s.len:Nat):Int))/\
   ∃N:bA,bp Z (q.add (m.toNat*8)) 0 (bL N)/\
   ∃I:eX,(s.ptr=dB I/\0<=(qe xM (zG (qe xP (qe xM (b.1+b.2))) (2^min (1:Int).toNat (qG xP))))/\(qe xM (zG (qe xP (qe xM (b.1+b.2))) (2^min (1:Int).toNat (qG xP))))<((s.len:Nat):Int))/\
   ∃P:bA,bp Z (I.add ((qe xM (zG (qe xP (qe xM (b.1+b.2))) (2^min (1:Int).toNat (qG xP)))).toNat*8)) 0 (bL P)/\
   wd C 156 ((#[]:Array Value).toList++[recv N,recv P]++(#[]:Array Value).toList) (.one (.sc (.int .i64))) Z λad h7=>
   (bQ.ok [] h7)/\
   Br (!(decide (ad<(0:Int))))
   (K3 (qe xM ((qe xM (zG (qe xP (qe xM (b.1+b.2))) (2^min (1:Int).toNat (qG xP))))+(1:Int)),b.2) h7)
   (K3 (b.1,qe xM (zG (qe xP (qe xM (b.1+b.2))) (2^min (1:Int).toNat (qG xP)))) h7))
   (gU (σ:=Int) (λc K4 h8=>
   Br (decide (c>b.1))
   (∃Q:eX,(s.ptr=dB Q/\0<=(qe xM (c-(1:Int)))/\(qe xM (c-(1:Int)))<((s.len:Nat):Int))/\
   ∃R:bA,bp h8 (Q.add ((qe xM (c-(1:Int))).toNat*8)) 0 (bL R)/\
   ∃G:eX,(s.ptr=dB G/\0<=c/\c<((s.len:Nat):Int))/\
   ∃T:bA,bp h8 (G.add (c.toNat*8)) 0 (bL T)/\
   ∃a25:eX,(s.ptr=dB a25/\0<=c/\c<((s.len:Nat):Int))/\
   au xQ (qE 167 (xI (dB (a25.add (c.toNat*8)))) (recv R)) h8 λ_ h9=>
   (bQ.ok [] h9)/\
   ∃A:eX,(s.ptr=dB A/\0<=(qe xM (c-(1:Int)))/\(qe xM (c-(1:Int)))<((s.len:Nat):Int))/\
   au xQ (qE 167 (xI (dB (A.add ((qe xM (c-(1:Int))).toNat*8)))) (recv T)) h9 λ_ J=>
   (bQ.ok [] J)/\
   K4 (qe xM (c-(1:Int))) J)
   (K (.tuple #[]) h8)) m Z)) (a,m) h:=by
 subst ha;subst hm;refine aq (λt:Nat×Nat=>(((ii X+t.1:Nat):Int),((ii X+t.2:Nat):Int))) (λt h'=>t.1<=t.2/\t.2<=ii L/\(∀k (d:k<ii L),k<t.1->cx L[k] y=eH)/\(∀k (d:k<ii L),t.2<=k->¬cx L[k] y=eH)/\aa B h0 h' (cG s (X++(L++(y::Y)))::As)) (λt=>t.2-t.1) (0,ii L) i0 ⟨i9,i9,λ_ _ h=>mq,λ_ g S=>absurd g (by simpa using S),H⟩ ?_;rintro⟨i,j⟩ g ⟨ar,hj,F,n,V⟩;dsimp only at*;refine ag (λe=>?_) (λe=>?_)
 ·have f:i<j:=i4
  rw[ES _ _];have eh:((ii X+i)+(ii X+j))/2=ii X+(i+j)/2:=i4
  rw[eh];have d:(i+j)/2<ii L:=i4
  refine⟨i5,jU V (ii X+ii L) i0 (x:=y) ?_ (jU V _ i0 (x:=L[(i+j)/2]) ?_ (dL lx ?_))⟩
  ·rw[qh i4,show X.length+ii L-ii X=ii L by omega,qh (qm _),qW];rfl
  ·rw[qh i4,show X.length+(i+j)/2-ii X=(i+j)/2 by omega,ql d,qc d]
  refine(oQ y L[(i+j)/2] g).mono ?_;rintro _ S ⟨rfl,R2⟩;have H2:=V.up R2.af;refine⟨_,i0,trivial,?_⟩;by_cases e2:lD y L[(i+j)/2]<0
  ·have ab:=(pA _ _).1 e2;refine aQ (λU=>absurd U nq) λ_=>?_;refine⟨(i,(i+j)/2),i0,⟨i6,i6,F,λk D am=>?_,H2⟩,i6⟩;intro hc;exact ab (dQ.trans _ _ _ (r.at_ dQ (i:=(i+j)/2) (j:=k) (by dsimp only at am;omega) D) hc)
  ·refine aQ (λ_=>?_) λU=>absurd U nq;refine⟨((i+j)/2+1,j),jj,⟨i6,hj,λk D al=>?_,n,H2⟩,i6⟩;exact dQ.trans _ _ _ (r.at_ dQ (by dsimp only at al;omega) d) (xW e2)
 ·have f:i=j:=i4
  subst f;have hM:Sd cx (L.take i++y::L.drop i):=by
   refine Sd.app dQ (Sd.left (v:=L.drop i) (by rw[qA];exact r)) (zH.2 ⟨λz O=>?_,Sd.right (u:=L.take i) (by rw[qA];exact r)⟩) λz O w p=>?_
   ·obtain⟨k,d,rfl⟩:=qD O;rw[wu];exact dQ.An (n _ k7 i4)
   ·obtain⟨k,d,rfl⟩:=qD O;rw[yh];have ah:k<i:=k7
    have g:=F k k7 ah;rcases qV.1 p with rfl|p
    ·exact g
    ·obtain⟨l,hl,rfl⟩:=qD p;rw[wu];exact r.at_ dQ i4 (by simp at hl;omega)
  have hE:cb cx (L++[y]) (L.take i++y::L.drop i):=by
   have g:cb cx (L.drop i++[y]) ([y]++L.drop i):=cb.RC dQ λz O w p=>by
    rw[qp.1 p];obtain⟨k,d,rfl⟩:=qD O;rw[wu];exact n _ k7 i4
   have S:=(cb.refl (le:=cx) (L.take i)).app g;have e1:L.take i++(L.drop i++[y])=L++[y]:=by rw[<-qn,qA]
   rw[e1]at S;exact S
  refine aq (λt:Nat=>((ii X+t:Nat):Int)) (λt h'=>i<=t/\t<=ii L/\aa B h0 h' (cG s (X++(L.take t++(y::(L.drop t++Y))))::As)) (λt=>t-i) L.length i0 ⟨i4,i4,by simpa using V⟩ ?_;rintro t h3 ⟨ht,ap,W⟩;refine ag (λe2=>?_) (λe2=>?_)
  ·obtain⟨u,rfl⟩:∃u,t=u+1:=⟨t-1,i4⟩
   have E:u<ii L:=i4
   have o:X++(L.take (u+1)++(y::(L.drop (u+1)++Y)))=(X++L.take u)++L[u]::([]++y::(L.drop (u+1)++Y)):=by rw[aD L u E];simp only[qn,zo,zW]
   obtain⟨q1,q2,q3,q4⟩:=Ju (X++L.take u) [] (L.drop (u+1)++Y) L[u] y (i:=ii X+u) (j:=ii X+(u+1)) i7 i7;rw[<-o]at q1 q2 q3 q4;have ek:qe xM (((ii X+(u+1):Nat):Int)-1)=((ii X+u:Nat):Int):=j4
   rw[ek];refine jU W _ i0 q1 (jU W _ i0 q2 ?_);refine W.set aj 0 i0 (λ_=>rfl) i0 (ii X+(u+1)) i0 (qj.1 q2).1 L[u] i0 i0 i0 λh4 H4=>⟨trivial,?_⟩
   refine H4.set aj 0 i0 (λ_=>rfl) i0 (ii X+u) i0 (by rw[zc];exact(qj.1 q1).1) y i0 i0 i0 λh5 H5=>⟨trivial,?_⟩
   refine⟨u,i0,⟨i4,i4,?_⟩,i4⟩;have U:X++(L.take u++(y::(L.drop u++Y)))=(X++L.take u)++y::([]++L[u]::(L.drop (u+1)++Y)):=by rw[qJ E];simp only[qn,zo,zW]
   rw[U,<-q4];exact H5
  ·have:t=i:=i4
   subst this;refine d h3 ⟨L.take t++y::L.drop t,hM,hE,?_⟩;have:X++((L.take t++y::L.drop t)++Y)=X++(L.take t++(y::(L.drop t++Y))):=i9
   rw[this];exact W
end
theorem Ww{L R:List bA}(h:Sd cx L)(k:Sd cx R)(p q:Nat)(r:p<=ii L)(s:q<=ii R)
  (n:∀i j (d:i<ii L) (a:j<ii R),i+1=p->j=q->cx L[i] R[j]=eH)
  (o:∀i j (d:i<ii L) (a:j<ii R),i=p->j+1=q->¬cx L[i] R[j]=eH):
  (∀x∈L.take p,∀y∈R.drop q,cx x y=eH)/\(∀x∈L.drop p,∀y∈R.take q,¬cx x y=eH):=by
 constructor
 ·intro x e y g;obtain⟨i,d,rfl⟩:=qD e;obtain⟨j,a,rfl⟩:=qD g;rw[yh,wu];have c:i<p:=k7
  have b:q+j<ii R:=by simp at a;omega
  have f:=h.at_ dQ (i:=i) (j:=p-1) i4 i4;have m:=n (p-1) q i4 i4 i4 i0;have h3:=k.at_ dQ (i:=q) (j:=q+j) i4 b;exact dQ.trans _ _ _ f (dQ.trans _ _ _ m h3)
 ·intro x e y g l;obtain⟨i,d,rfl⟩:=qD e;obtain⟨j,a,rfl⟩:=qD g;rw[yh,wu]at l;have b:j<q:=by simp at a;omega
  have c:p+i<ii L:=k7
  have f:=h.at_ dQ (i:=p) (j:=p+i) i4 c;have h3:=k.at_ dQ (i:=j) (j:=q-1) i4 i4;exact o p (q-1) i4 i4 i0 i4 (dQ.trans _ _ _ f (dQ.trans _ _ _ l h3))
theorem Cg:∀(N:Nat) {B:av} {h0 h:f8} {As:List HP} {s:Sl} (X L R Y:List bA) (a m b:Int),0<ii L->0<ii R->ii L+ii R<=N->a=(ii X:Int)->m=(ii X+ii L:Nat)->b=(ii X+ii L+ii R:Nat)->ii X+ii L+ii R+ii Y<=2^40->Sd cx L->Sd cx R->
  aa B h0 h (cG s (X++(L++(R++Y)))::As)->
  an xQ 288 #[s,xG xM a,xG xM m,xG xM b,.func (.func 156) #[] #[]] h λv h'=>v=.tuple #[]/\∃M,Sd cx M/\cb cx (L++R) M/\aa B h0 h' (cG s (X++(M++Y))::As):=by
 intro N
 induction N with
 |zero=>intro B h0 h As s X L R Y a m b hL hR hN;omega
 |succ N ih=>
  intro B h0 h As s X L R Y a m b hL hR hN ha hm hb S W V H;refine ts Tryz.func288 ?_ (.two (.two .n (.two (.two .n (.two .n (.two (.inn (.loop [(10,aS),(11,aS)] [(10,13),(31,54)] .n)) (.two (.two .n (.inn (.loop [(13,aS)] [(13,14),(55,77)] .n))) .n)))) .n)) (.two (.two .n (.two (.two .n (.two .n (.two (.inn (.loop [(14,aS),(15,aS)] [(14,17),(83,107)] .n)) (.two (.two .n (.inn (.loop [(17,aS)] [(17,18),(108,129)] .n))) .n)))) .n)) (.two .n (.two .n (.two .n (.two (.join [(20,aS),(21,aS)] [(20,22),(138,147)] .n) (.two .n (.two (.inn (.loop [(20,aS),(21,aS)] [(20,22),(23,24),(149,175)] .n)) (.two .n (.two (.join [] [(178,192)] .n) (.two (.join [] [(192,206)] .n) .n))))))))))) (args:=[s,(a:Int),(m:Int),(b:Int),(.func (.func 156) #[] #[])]);have e1:qe xM (m-a)=(ii L:Int):=j4
  have e2:qe xM (b-m)=(ii R:Int):=j4
  rw[e1,e2];refine cv (λc=>?_) λc=>cv (λc2=>?_) λc2=>?_
  ·obtain⟨x,hx⟩:∃x,L=[x]:=by
    match L,hL,c with
    |[x],_,_=>exact⟨x,i0⟩
    |x::y::L,_,c=>simp at c;omega
   subst hx;exact Jw (K:=λv h'=>v=.tuple #[]/\∃M,Sd cx M/\cb cx ([x]++R) M/\aa B h0 h' (cG s (X++(M++Y))::As)) x X R Y (by simp at S⊢;omega) V H (λh' ⟨M,P,O,q3⟩=>⟨i0,M,P,O,q3⟩) a m b ha (by rw[hm];simp) (by rw[hb];simp)
  ·obtain⟨y,hy⟩:∃y,R=[y]:=by
    match R,hR,c2 with
    |[x],_,_=>exact⟨x,i0⟩
    |x::y::L,_,c=>simp at c;omega
   subst hy;exact HG (K:=λv h'=>v=.tuple #[]/\∃M,Sd cx M/\cb cx (L++[y]) M/\aa B h0 h' (cG s (X++(M++Y))::As)) y X L Y (by simp at S⊢;omega) W H (λh' ⟨M,P,O,q3⟩=>⟨i0,M,P,O,q3⟩) a m ha hm
  ·refine⟨i5,?_⟩;subst ha;subst hm;subst hb;have c':ii L≠1:=λz=>c i4;have bl:ii R≠1:=λz=>c2 i4;rw[ES X.length (ii X+ii L+ii R)];obtain⟨CY,ab⟩:∃CY,CY=(ii X+(ii X+ii L+ii R))/2:=⟨_,rfl⟩
   rw[<-ab];have en:qe xM ((CY:Int)+((ii X+ii L:Nat):Int))=((CY+(ii X+ii L):Nat):Int):=j4
   rw[en];obtain⟨n,hn⟩:∃n,n=CY+(ii X+ii L):=⟨_,rfl⟩
   rw[<-hn];have ep:qe xM ((n:Int)-1)=((n-1:Nat):Int):=j4
   rw[ep];obtain⟨D,hD⟩:∃D,D=X++(L++(R++Y)):=⟨_,rfl⟩
   have gL:∀i (f:i<ii L),D[ii X+i]?=dB L[i]:=λi f=>by
    rw[hD,qh i4,zn,ql f,qc f]
   have gR:∀i (f:i<ii R),D[ii X+ii L+i]?=dB R[i]:=λi f=>by
    rw[hD,qh i4,show X.length+ii L+i-ii X=ii L+i by omega,qh i4,zn,ql f,qc f]
   rw[<-hD]at H;refine bG (λ(st:Int×Int) h'=>h'=h/\∃l f:Nat,st=((l:Int),(f:Int))/\l<=f/\X.length<=l/\f<=ii X+ii L/\f<=CY/\n<=l+(ii X+ii L+ii R)/\(l=ii X∨n=l+(ii X+ii L+ii R))/\(f=ii X+ii L∨f=CY)) ?_ ?_
   ·refine ag (λe=>⟨i0,n-(ii X+ii L+ii R),CY,?_,i4,i4,i4,i4,i4,i4,i4⟩) λe=>⟨i0,ii X,ii X+ii L,i0,i4,i4,i4,i4,i4,i4,i4⟩
    have:qe xM ((n:Int)-((ii X+ii L+ii R:Nat):Int))=((n-(ii X+ii L+ii R):Nat):Int):=j4
    rw[this]
   ·rintro⟨bq,bk⟩ _ ⟨rfl,l,f,ap,b1,b2,b3,b4,b5,b6,b7⟩;injection ap with est1 est2
    subst est1;subst est2
    try dsimp only
    refine aq (λt:Nat×Nat=>((t.1:Int),(t.2:Int))) (λt h'=>l<=t.1/\t.1<=t.2/\t.2<=f/\
     (∀i j (k:i<ii L) (U:j<ii R),ii X+i+1=t.1->ii X+i+(ii X+ii L+j)=n-1->l<t.1->cx L[i] R[j]=eH)/\
     (∀i j (k:i<ii L) (U:j<ii R),ii X+i=t.2->ii X+i+(ii X+ii L+j)=n-1->t.2<f->¬cx L[i] R[j]=eH)/\
     aa B h0 h' (cG s D::As)) (λt=>t.2-t.1) (l,f) i0 ⟨i9,by simpa using b1,i9,λ_ _ _ _ _ _ E=>absurd E i9,λ_ _ _ _ _ _ E=>absurd E i9,H⟩ ?_
    rintro⟨st,r⟩ h1 ⟨t1,t2,t3,F1,F2,H1⟩;dsimp only at*;refine ag (λe=>?_) (λe=>?_)
    ·have E:st<r:=i4
     rw[ES _ _];obtain⟨F,a6⟩:∃F,F=(st+r)/2:=⟨_,rfl⟩
     rw[<-a6];have a1:qe xM (((n-1:Nat):Int)-(F:Int))=((n-1-F:Nat):Int):=j4
     rw[a1];obtain⟨i,k⟩:∃i,F=ii X+i:=⟨F-ii X,i4⟩
     obtain⟨j,a8⟩:∃j,n-1-F=ii X+ii L+j:=⟨n-1-F-(ii X+ii L),i4⟩
     have a9:i<ii L:=i4
     have am:j<ii R:=i4
     rw[a8,k];refine⟨i5,jU H1 _ i0 (gR j am) (jU H1 _ i0 (gL i a9) (dL lx ?_))⟩;refine(oQ R[j] L[i] h1).mono ?_;rintro _ h2 ⟨rfl,R2⟩;have G:=H1.up R2.af;refine⟨_,i0,trivial,?_⟩;by_cases e2:lD R[j] L[i]<0
     ·have ao:=(pA _ _).1 e2;refine aQ (λe3=>absurd e3 nq) λ_=>?_;refine⟨(st,ii X+i),i0,⟨t1,i6,i6,F1,λi2 j2 a3 ax o A _=>?_,G⟩,i6⟩;dsimp only at o;have:i2=i:=i4
      subst this;have:j2=j:=i4
      subst this;exact ao
     ·refine aQ (λ_=>?_) λe3=>absurd e3 nq;refine⟨(ii X+i+1,r),jj,⟨i6,i6,t3,λi2 j2 a3 ax o A _=>?_,F2,G⟩,i6⟩;dsimp only at o;have:i2=i:=i4
      subst this;have:j2=j:=i4
      subst this;exact xW e2
    ·have bd:st=r:=i4
     subst bd;have a5:qe xM ((n:Int)-(st:Int))=((n-st:Nat):Int):=j4
     rw[a5];obtain⟨p,hp⟩:∃p,st=ii X+p:=⟨st-ii X,i4⟩
     obtain⟨q,hq⟩:∃q,n-st=ii X+ii L+q:=⟨n-st-(ii X+ii L),i4⟩
     have bb:p<=ii L:=i4
     have ar:q<=ii R:=i4
     obtain⟨a7,a4⟩:=Ww W V p q bb ar (λi j k U o A=>F1 i j k U i4 i4 (by
      by_cases ay:l<st
      ·exact ay
      ·exfalso;have:st=l:=i4
       omega)) (λi j k U o A=>F2 i j k U i4 i4 (by
      by_cases a2:st<f
      ·exact a2
      ·exfalso;have:st=f:=i4
       omega))
     have T:L.take p++L.drop p=L:=qA _ _;have Q:R.take q++R.drop q=R:=qA _ _;have l1:ii (L.take p)=p:=i7
     have l2:ii (L.drop p)=ii L-p:=i9
     have r1:ii (R.take q)=q:=i7
     have r2:ii (R.drop q)=ii R-q:=i9
     have al:Sd cx (L.take p):=Sd.left (v:=L.drop p) (by rw[T];exact W);have Z:Sd cx (L.drop p):=Sd.right (u:=L.take p) (by rw[T];exact W);have ah:Sd cx (R.take q):=Sd.left (v:=R.drop q) (by rw[Q];exact V);have ad:Sd cx (R.drop q):=Sd.right (u:=R.take q) (by rw[Q];exact V);rw[hq,hp];refine bG (λ_ h'=>aa B h0 h' (cG s (X++(L.take p++(R.take q++(L.drop p++(R.drop q++Y)))))::As)) ?_ ?_
     ·have w:aa B h0 h1 (cG s ((X++L.take p)++(L.drop p++(R.take q++(R.drop q++Y))))::As):=by
       have:(X++L.take p)++(L.drop p++(R.take q++(R.drop q++Y)))=D:=by
        rw[hD]
        conv=>rhs;rw[<-T,<-Q]
        simp only[qn,zo,zW]
       rw[this];exact H1
      refine ag (λo=>ag (λA=>?_) λA=>?_) λo=>?_
      ·refine(PT (X++L.take p) (L.drop p) (R.take q) (R.drop q++Y) _ _ _ i4 i4 i7 i7 i7 i7 w).mono ?_;rintro _ h2 ⟨rfl,G⟩;refine⟨(),i0,?_⟩;rw[qn]at G;exact G
      ·have:R.take q=[]:=qX i4;rw[this]at w⊢;simpa using w
      ·have:L.drop p=[]:=qX i4;rw[this]at w⊢;simpa using w
     ·rintro _ h2 G;refine bG (λ_ h'=>∃g,Sd cx g/\cb cx (L.take p++R.take q) g/\g.length=p+q/\aa B h0 h' (cG s (X++(g++(L.drop p++(R.drop q++Y))))::As)) ?_ ?_
      ·have d:(L.take p=[]∨R.take q=[])->∃g,Sd cx g/\cb cx (L.take p++R.take q) g/\g.length=p+q/\aa B h0 h2 (cG s (X++(g++(L.drop p++(R.drop q++Y))))::As):=λJ=>by
        refine⟨L.take p++R.take q,?_,cb.refl _,i7,by rw[qn];exact G⟩;rcases J with z|z
        ·rw[z];exact ah
        ·rw[z,qF];exact al
       refine ag (λo=>ag (λA=>?_) λA=>d (.inr (qX i4))) λo=>d (.inl (qX i4));refine(ih X (L.take p) (R.take q) (L.drop p++(R.drop q++Y)) _ _ _ i4 i4 i4 i0 (by rw[l1]) (by rw[l1,r1];omega) i7 al ah G).mono ?_;rintro _ h3 ⟨rfl,g,P,O,q3⟩;refine⟨(),i0,g,P,O,?_,q3⟩;have I:=sJ dQ O;rw[<-I];simp;omega
      ·rintro _ h3 ⟨g,m1,m2,m3,H3⟩;have fin:∀{h':f8} {M2:List bA},Sd cx M2->cb cx (L.drop p++R.drop q) M2->aa B h0 h' (cG s (X++(g++(M2++Y)))::As)->(Value.tuple #[]=.tuple #[]/\∃M,Sd cx M/\cb cx (L++R) M/\aa B h0 h' (cG s (X++(M++Y))::As)):=λ{h' M2} k1 k2 k3=>by
        obtain⟨f1,f2⟩:=VE dQ (by rw[T];exact W) (by rw[Q];exact V) a7 a4 m2 m1 k2 k1;rw[T,Q]at f2;exact⟨i0,g++M2,f1,f2,by rw[qn];exact k3⟩
       have d:(L.drop p=[]∨R.drop q=[])->(Value.tuple #[]=.tuple #[]/\∃M,Sd cx M/\cb cx (L++R) M/\aa B h0 h3 (cG s (X++(M++Y))::As)):=λJ=>by
        refine fin (M2:=L.drop p++R.drop q) ?_ (cb.refl _) (by rw[qn];exact H3);rcases J with z|z
        ·rw[z];exact ad
        ·rw[z,qF];exact Z
       refine ag (λo=>ag (λA=>?_) λA=>d (.inr (qX i4))) λo=>d (.inl (qX i4));have a0:aa B h0 h3 (cG s ((X++g)++(L.drop p++(R.drop q++Y)))::As):=by rw[qn];exact H3
       refine(ih (X++g) (L.drop p) (R.drop q) Y _ _ _ i4 i4 i4 i7 i7 i7 i7 Z ad a0).mono ?_;rintro _ h4 ⟨rfl,M2,k1,k2,k3⟩;refine⟨(),i0,fin k1 k2 (by rw[qn]at k3;exact k3)⟩
def Bs(k:Nat)(l:List bA):Prop:=∀q,Sd cx ((l.drop (q*k)).take k)
theorem Bs.nil(k:Nat):Bs k []:=λq=>by simp[Sd]
theorem Bs.first{k:Nat}{l:List bA}(h:Bs k l):Sd cx (l.take k):=by have:=h 0;simpa using this
theorem Bs.rest{k:Nat}{l:List bA}(h:Bs k l):Bs k (l.drop k):=λq=>by
 have:=h (q+1);rw[wm,show k+q*k=(q+1)*k by rw[wc,Nat.add_comm]];exact this
theorem Bs.snoc{k t:Nat}{l M:List bA}(h:Bs k l)(c:ii l=t*k)(d:Sd cx M)(b:ii M<=k:=by omega):Bs k (l++M):=λq=>by
 rcases Nat.lt_trichotomy q t with hq|hq|hq
 ·have a:(q+1)*k<=t*k:=zK _ hq;rw[wc]at a;rw[List.drop_append_of_le_length i4,wv mn];exact h q
 ·subst hq;rw[<-c,List.drop_left,qg b];exact d
 ·have a:(t+1)*k<=q*k:=zK _ hq;rw[wc]at a;rw[zd (by rw[qt];omega)];simp[Sd]
theorem Bs.whole{k:Nat}{l:List bA}(h:Bs k l)(a:ii l<=k):Sd cx l:=by have:=h.first;rw[qg a]at this;exact this
section
variable {d:List bA}
theorem PU(d:List bA)(n:Int)(hn:n=ii d)(hd:ii d<=2^30)(H:aa B h0 h (cG s d::As)):
  an xQ 221 #[s,xG xM n,.func (.func 156) #[] #[]] h λv h'=>v=.tuple #[]/\aa B h0 h' (cG s (d.mergeSort cx)::As):=by
 subst hn;refine ts Tryz.func221 ?_ (.two .n (.two .n (.two (.inn (.loop [(7,aS),(8,aS)] [(7,9),(11,23)] .n)) (.two .n (.inn (.loop [(6,aS)] [(6,10),(28,63)] (.two .n (.inn (.two .n (.two (.inn (.loop [(7,aS),(8,aS)] [(7,9),(33,49)] .n)) .n)))))))))) (args:=[s,(ii d:Int),(.func (.func 156) #[] #[])]);refine aq (λP:List bA=>((ii P:Int),((ii P+20:Nat):Int))) (λP h'=>ii P<=ii d/\(∃t,ii P=t*20)/\Bs 20 P/\cb cx (d.take P.length) P/\aa B h0 h' (cG s (P++d.drop P.length)::As)) (λP=>ii d-ii P) [] i0 ⟨i9,⟨0,i9⟩,Bs.nil _,by simpa using cb.refl _,l6⟩ ?_;rintro P h1 ⟨hP,⟨t,O⟩,V,U,G⟩
 try dsimp only
 refine ag (λe=>?_) (λe=>?_)
 ·have al:ii P+20<=ii d:=i4
  have eY:(d.drop P.length).take 20++d.drop (ii P+20)=d.drop P.length:=by rw[<-wm];exact qA _ _
  have S:ii ((d.drop P.length).take 20)=20:=i7
  rw[<-eY]at G;refine(Ax P ((d.drop P.length).take 20) (d.drop (ii P+20)) _ _ i0 (by rw[S]) i7 G).mono ?_;rintro _ h2 ⟨rfl,i,o,b,H2⟩;have r:ii i=20:=by rw[<-sJ dQ b,S]
  have f:ii (P++i)=ii P+20:=by rw[qt,r]
  refine⟨(),i0,P++i,?_,⟨i4,⟨t+1,by rw[f,O,wc]⟩,V.snoc O o,?_,?_⟩,i4⟩
  ·rw[f,ai _];congr 1
  ·rw[f];have:d.take (ii P+20)=d.take P.length++(d.drop P.length).take 20:=by rw[List.take_add]
   rw[this];exact U.app b
  ·rw[f,qn];exact H2
 ·have J:aa B h0 h1 (cG s (P++(d.drop P.length++[]))::As):=by rw[qF];exact G
  refine(Ax P (d.drop P.length) [] _ _ i0 mn i7 J).mono ?_;rintro _ h3 ⟨rfl,i,o,b,W⟩;have r:ii i=ii d-ii P:=by rw[<-sJ dQ b,za]
  have R:Bs 20 (P++i):=V.snoc O o;have c:cb cx d (P++i):=by have:=U.app b;rw[qA]at this;exact this
  refine⟨(),i0,?_⟩;refine aq (λt:Nat×List bA=>(t.1:Int)) (λt h'=>0<t.1/\t.1<=2^32/\t.2.length=ii d/\Bs t.1 t.2/\cb cx d t.2/\aa B h0 h' (cG s t.2::As)) (λt=>2^32-t.1) (20,P++i) i0 ⟨i6,i6,by dsimp only;rw[qt];omega,R,c,by rw[qF]at W;exact W⟩ ?_;rintro⟨k,l⟩ h4 ⟨ah,hk,hl,T,y,K⟩;dsimp only at*;refine ag (λe2=>?_) (λe2=>?_)
  ·have Y:k<ii d:=i4
   have N:qe xM ((2:Int)*k)=((2*k:Nat):Int):=j4
   have L:qe xM ((k:Int)*2)=((2*k:Nat):Int):=j4
   rw[N];have next:∀{h':f8} (q:List bA),ii q=ii d->Bs (2*k) q->cb cx l q->aa B h0 h' (cG s q::As)->∃g:Nat×List bA,qe xM ((k:Int)*2)=(g.1:Int)/\(0<g.1/\g.1<=2^32/\g.2.length=ii d/\Bs g.1 g.2/\cb cx d g.2/\aa B h0 h' (cG s g.2::As))/\2^32-g.1<2^32-k:=λ{h'} q q1 q2 q3 q4=>
    ⟨(2*k,q),L,⟨i6,i6,q1,q2,y.trans q3,q4⟩,i6⟩
   refine aq (λt:List bA×List bA=>((ii t.1:Int),((ii t.1+2*k:Nat):Int))) (λt h'=>(∃u,ii t.1=u*(2*k))/\t.1.length+ii t.2=ii d/\Bs (2*k) t.1/\Bs k t.2/\cb cx l (t.1++t.2)/\aa B h0 h' (cG s (t.1++t.2)::As)) (λt=>ii t.2) ([],l) (by dsimp only;rw[y5,Nat.zero_add];rfl) ⟨⟨0,i9⟩,by simpa using hl,Bs.nil _,T,by simpa using cb.refl _,by simpa using K⟩ ?_;rintro⟨P,Q⟩ X ⟨⟨u,D⟩,ad,m,a,c,I⟩;dsimp only at*;have E:qe xM ((ii P:Int)+k)=((ii P+k:Nat):Int):=j4
   rw[E];have eQ:Q.take k++Q.drop k=Q:=qA _ _;refine ag (λe3=>?_) (λe3=>ag (λe4=>?_) λe4=>?_)
   ·have ab:2*k<=ii Q:=i4
    have x:Q.take k++((Q.drop k).take k++Q.drop (2*k))=Q:=by
     have:Q.drop (2*k)=(Q.drop k).drop k:=by rw[wm];congr 1;omega
     rw[this,qA,eQ]
    have l1:ii (Q.take k)=k:=i7
    have l2:ii ((Q.drop k).take k)=k:=i7
    have p:aa B h0 X (cG s (P++(Q.take k++((Q.drop k).take k++Q.drop (2*k))))::As):=by rw[x];exact I
    refine(Cg _ P (Q.take k) ((Q.drop k).take k) (Q.drop (2*k)) _ _ _ i4 i4 (qm _) i0 (by rw[l1]) (by rw[l1,l2];omega) i7 a.first a.rest.first p).mono ?_;rintro _ h6 ⟨rfl,M,o,b,A⟩;have w:ii M=2*k:=by rw[<-sJ dQ b,qt,l1,l2];omega
    have j:ii (P++M)=ii P+2*k:=by rw[qt,w]
    refine⟨(),i0,(P++M,Q.drop (2*k)),?_,⟨⟨u+1,by dsimp only;rw[j,D];exact(wc u (2*k)).symm⟩,by dsimp only;rw[j,za];omega,m.snoc D o,?_,?_,?_⟩,by dsimp only;rw[za];omega⟩
    ·try dsimp only
     rw[j,ai _];congr 1
    ·try dsimp only
     have:Q.drop (2*k)=(Q.drop k).drop k:=by rw[wm];congr 1;omega
     rw[this];exact a.rest.rest
    ·try dsimp only
     refine c.trans ?_
     conv=>arg 2;rw[<-x]
     rw[qn];have:=(cb.refl (le:=cx) P).app (b.app (cb.refl (le:=cx) (Q.drop (2*k))));rw[qn]at this;exact this
    ·try dsimp only
     rw[qn];exact A
   ·have z:k<ii Q:=i4
    have Z:ii Q<2*k:=i4
    have l1:ii (Q.take k)=k:=i7
    have l2:ii (Q.drop k)=ii Q-k:=i9
    have F:Sd cx (Q.drop k):=by have:=a.rest.first;rw[qg i4]at this;exact this
    have p:aa B h0 X (cG s (P++(Q.take k++(Q.drop k++[])))::As):=by rw[qF,eQ];exact I
    refine(Cg _ P (Q.take k) (Q.drop k) [] _ _ _ i4 i4 (qm _) i0 (by rw[l1]) (by rw[l1,l2];omega) i7 a.first F p).mono ?_;rintro _ h6 ⟨rfl,M,o,b,A⟩;have w:ii M=ii Q:=by rw[<-sJ dQ b,eQ]
    rw[eQ]at b;rw[qF]at A;exact⟨(),i0,next (P++M) (by rw[qt];omega) (m.snoc D o) (c.trans ((cb.refl _).app b)) A⟩
   ·have z:ii Q<=k:=i4
    exact next (P++Q) (by rw[qt];omega) (m.snoc D (a.whole z)) c I
  ·have hs:Sd cx l:=T.whole i4;rw[LL dQ hs y]at K;exact⟨i0,K⟩
theorem HI(d:List bA)(b:ii d<=2^30)(H:aa B h0 h (cG s d::As)):
  an xQ 155 #[s,.func (.func 156) #[] #[]] h λv h'=>v=.tuple #[]/\aa B h0 h' (cG s (d.mergeSort cx)::As):=by
 refine ts Tryz.func155 ?_ (args:=[s,(.func (.func 156) #[] #[])]);refine(PU d _ (by rw[(H.own 0 i0).len]) b H).mono ?_;rintro _ c ⟨rfl,a⟩;exact⟨(),i0,i0,a⟩
def jO:bA:=(0,0,0,0,0,0,0,⟨ez,0,0⟩)
end
def kj(l:List bA)(k:Nat):Bool:=decide (k=0)||decide (lD (l.getD k jO) (l.getD (k-1) jO)≠0)
def km(l:List bA)(k:Nat):List bA:=((qz k).filter (kj l)).map λi=>l.getD i jO
def Wx(l:List bA):List bA:=km l l.length
theorem mW(l:List bA)(k:Nat):km l (k+1)=km l k++if kj l k then[l.getD k jO]else[]:=by unfold km;rw[zV,zl,qM,zq,vo];split<;>rfl
section
variable {d:List bA}
theorem HJ(a b:bA)(h:f8):an xQ 158 #[recv a,recv b] h λv h'=>v=xK (decide (lD a b=0))/\Sp h h' []:=by refine ts Tryz.func158 ?_ (args:=[a,b]);refine(Sp.refl h).boxed λg j i=>i.boxed λe d c=>?_;have c:Sp h d [ac g 167 (bL a),ac e 167 (bL b)]:=c;refine⟨a,(c.box 0 i0).aE _ i0,b,(c.box 1 i0).aE _ i0,(oQ a b d).mono ?_⟩;rintro _ h3 ⟨rfl,f⟩;refine⟨_,i0,?_,.zip (aa.up c f.af).af⟩;congr 1
theorem Gj(l:List bA)(hd:ii l<=2^30)(H:aa B h0 h (cG s l::As)):
  an xQ 157 #[s,.func (.func 158) #[] #[]] h λv h'=>∃r:Sl,v=r/\aa B h0 h' (cG r (Wx l)::As):=by
 refine ts Tryz.func157 ?_ (.two .n (.two .n (.two (.two .n (.inn (.loop [(5,aS)] [(4,8),(12,65)] (.two .n (.two (.inn (.two .n (.two (.two .n (.two (.two .n (.inn (.loop [(5,aS),(7,aS)] [(5,6),(7,8),(32,59)] .n))) .n)) .n))) .n))))) .n))) (args:=[s,(.func (.func 158) #[] #[])]);have ad:=(H.own 0 i0).len;have E:=(H.own 0 i0).cap;have same:(∀j,j<ii l->kj l j=eH)->Wx l=l:=λy=>by
  have:∀k,k<=ii l->km l k=l.take k:=λk=>by
   induction k with
   |zero=>simp[km]
   |succ k ih=>
    intro U;rw[mW,ih i4,f9 (y k i4),aD l k,getD_lt (show k<ii l by omega)]
  unfold Wx;rw[this _ (qm _),qN]
 refine ag (λe=>⟨s,i0,?_⟩) (λe=>?_)
 ·rw[same λj m=>by unfold kj;rw[g9 (show j=0 by omega)];rfl];exact H
 refine aq (λi:Nat=>(i:Int)) (λi h'=>1<=i/\i<=ii l/\(∀j,j<i->kj l j=eH)/\aa B h0 h' (cG s l::As)) (λi=>ii l-i) 1 i0 ⟨i4,i4,λj m=>by unfold kj;rw[g9 (show j=0 by omega)];rfl,H⟩ ?_;rintro i h1 ⟨ah,hi,y,I⟩;refine ag (λQ=>?_) (λQ=>?_)
 ·have A:i<ii l:=by have e':(i:Int)<(s.len:Int):=Q;omega
  have ei:qe xM ((i:Int)-1)=((i-1:Nat):Int):=j4
  rw[ei];refine jU I i i0 (x:=l.getD i jO) (by rw[getD_lt A,qc A]) (jU I (i-1) i0 (x:=l.getD (i-1) jO) (by rw[getD_lt (show i-1<ii l by omega),qc]) (dL lx ?_));refine(HJ _ _ h1).mono ?_;rintro _ h2 ⟨rfl,R2⟩;have X:=I.up R2.af;refine⟨_,i0,trivial,bf (λe2=>?_) λe2=>?_⟩
  ·have p:kj l i=eL:=by unfold kj;rw[hU (show¬i=0 by omega)];simpa using e2
   have o:km l i=l.take i:=by
    have:∀k,k<=i->km l k=l.take k:=λk=>by
     induction k with
     |zero=>simp[km]
     |succ k ih=>
      intro U;rw[mW,ih i4,f9 (y k i4),aD l k,getD_lt (show k<ii l by omega)]
    exact this i (qm _)
   refine⟨⟨i4,i4⟩,?_⟩;rw[qk];refine aq (λt:Nat×List bA=>((ii (km l (i+t.1)):Int),(t.1:Int))) (λt h'=>1<=t.1/\i+t.1<=ii l/\t.2.length=ii l/\(km l (i+t.1)).length+1<=i+t.1/\t.2.take (km l (i+t.1)).length=km l (i+t.1)/\(∀j,i+t.1-1<=j->t.2[j]?=l[j]?)/\aa B h0 h' (cG s t.2::As)) (λt=>ii l-t.1) (1,l) ?_ ⟨i9,i6,i0,?_,?_,λ_ _=>rfl,X⟩ ?_
   ·try dsimp only
    rw[mW,p,o];simp;omega
   ·try dsimp only
    rw[mW,p,o];simp;omega
   ·try dsimp only
    rw[mW,p,o];simp
   rintro⟨k,D⟩ h3 ⟨am,ab,w,T,d,u,J⟩;dsimp only at*;obtain⟨c,M⟩:∃c,c=ii (km l (i+k)):=⟨_,rfl⟩
   rw[<-M]at T d⊢;have al:=(J.own 0 i0).len;have G:=(J.seq 0 i0 λ_=>rfl).drop i E;refine ag (λe3=>?_) (λe3=>?_)
   ·have L:i+k<ii l:=i4
    have ek:qe xM ((k:Int)-1)=((k-1:Nat):Int):=j4
    rw[ek];have V:∀j,k-1<=j->(m:i+j<ii l)->(D.drop i)[j]?=dB (l.getD (i+j) jO):=λj m F=>by
     rw[List.getElem?_drop,u _ i4,getD_lt F,qc F]
    have gk:=V k i4 L;have O:=V (k-1) i4 i4;obtain⟨Z,Y⟩:=qj.1 gk;obtain⟨q1,q2⟩:=qj.1 O;refine Seq.cX (f:=bL) (g:=bL) G k i0 Z (l.getD (i+k) jO) (by rw[Y]) ?_;refine Seq.cX (f:=bL) (g:=bL) G (k-1) i0 q1 (l.getD (i+(k-1)) jO) (by rw[q2]) (dL lx ?_);refine(HJ _ _ h3).mono ?_;rintro _ h4 ⟨rfl,R4⟩;have R:=J.up R4.af;have q:kj l (i+k)=!decide (lD (l.getD (i+k) jO) (l.getD (i+(k-1)) jO)=0):=by unfold kj;rw[hU (show¬i+k=0 by omega),show i+k-1=i+(k-1)by omega];simp
    have a:=mW l (i+k);rw[q]at a;refine⟨_,i0,trivial,aQ (λS=>?_) λS=>?_⟩
    ·rw[S]at a;have b:ii (km l (i+(k+1)))=c+1:=by rw[<-w5,a];simp[M]
     have z:=(R.seq 0 i0 λ_=>rfl).drop i E;refine Seq.cX (f:=bL) (g:=bL) z k i0 Z (l.getD (i+k) jO) (by rw[Y]) ?_;refine R.set aj 0 i0 (λ_=>rfl) i0 c i0 i4 (l.getD (i+k) jO) i0 i0 i0 λh5 H5=>?_;refine⟨(k+1,D.set c (l.getD (i+k) jO)),?_,⟨i6,i6,by dsimp only;rw[zc];exact w,by dsimp only;rw[b];omega,?_,λj m=>?_,H5⟩,i6⟩
     ·try dsimp only
      rw[b,ai _,ai _];rfl
     ·try dsimp only
      rw[b,aD _ c (by rw[zc];omega),List.getElem_set_self,List.take_set_of_le (qm _),d,<-w5,a];simp
     ·dsimp only at m⊢;rw[zy i4];exact u j i4
    ·rw[S]at a;have b:ii (km l (i+(k+1)))=c:=by rw[<-w5,a];simp[M]
     refine⟨(k+1,D),?_,⟨i6,i6,w,by dsimp only;rw[b];omega,?_,λj m=>u j (by dsimp only at m;omega),R⟩,i6⟩
     ·try dsimp only
      rw[b,ai _];rfl
     ·try dsimp only
      rw[b,d,<-w5,a];simp
   ·have N:i+k=ii l:=i4
    refine⟨⟨i4,i4⟩,?_⟩;rw[qk];refine J.nV aj 0 i0 aeT (λ_=>rfl) i0 i5 c i4 λh6 W=>⟨⟨i4,i4⟩,⟨s.ptr,c,s.cap⟩,i0,?_⟩
    rw[d,N]at W;exact W
  ·refine⟨i+1,j0,⟨i4,i4,λj m=>?_,X⟩,i4⟩;by_cases K:j=i
   ·subst K;unfold kj;rw[g9 (show lD (l.getD j jO) (l.getD (j-1) jO)≠0 by simpa using e2)];simp
   ·exact y j i4
 ·have P:i=ii l:=by have e':¬(i:Int)<(s.len:Int):=Q;omega
  subst P;rw[same y];exact⟨s,i0,I⟩
end
def fieldsOf(d:Option TypeDesc):List (Bool×TypeId×Nat):=match d with|some (.struct fs)=>fs.toList.map (λf=>(f.name== "_",f.type,f.offset))|_=>[]
theorem Wy:fieldsOf (Tryz.prog.underlying 36)=[(eL,3,0),(eL,3,1),(eL,3,2)]:=j3
theorem ZD:Tryz.prog.stoodInHeld 36=eL:=j3
theorem ZE:Tryz.prog.eqGuardType Tryz.prog.depth 36=eL:=j3
theorem NE{P:Program}{t:TypeId}{a b c:TypeId×Nat}(h:fieldsOf (P.underlying t)=[(eL,a.1,a.2),(eL,b.1,b.2),(eL,c.1,c.2)]):
  ∃f g e:Field,P.underlying t=dB (.struct #[f,g,e])/\(f.name≠ "_" /\f.type=a.1/\f.offset=a.2)/\(g.name≠ "_" /\g.type=b.1/\g.offset=b.2)/\(e.name≠ "_" /\e.type=c.1/\e.offset=c.2):=by
 cases hu:P.underlying t with
 |none=>rw[hu]at h;cases h
 |some d=>
  rw[hu]at h;cases d with
  |struct fs=>
   simp only[fieldsOf]at h;obtain⟨l⟩:=fs;have i:ii l=3:=by simpa using congrArg vR h
   obtain⟨f,r,rfl⟩:=yB i;obtain⟨g,k,rfl⟩:=yB (by simpa using i:ii r=1+1);obtain⟨e,j,rfl⟩:=yB (by simpa using i:ii k=0+1);obtain rfl:j=[]:=by simpa using i
   simp at h;exact⟨f,g,e,i0,⟨h.1.1,h.1.2.1,h.1.2.2⟩,⟨h.2.1.1,h.2.1.2.1,h.2.1.2.2⟩,⟨h.2.2.1,h.2.2.2.1,h.2.2.2.2⟩⟩
  |_=>cases h
theorem jh{P:Program}{d:Nat}{t:TypeId}{k:IntKind}(h:∃c,P.underlying t=dB (.int c))(a b:Int):aH P (Op.equalIn (d+1) t (.int k a) (.int k b)) (a==b):=by obtain⟨c,h⟩:=h;unfold Op.equalIn;refine(aG h).bind ?_;simp only[if_true];exact .pure
theorem lW{P:Program}{t:TypeId}{k:IntKind}(h:P.underlying t=dB (.int k)){a:Array Value}{i:Nat}{v:Value}(b:a[i]?=dB v):aH P (part t a i) v:=by unfold part isAgg;refine aH.bind (v:=eL) ((aG h).bind .pure) ?_;simp only[zf,if_false,b];exact .pure
theorem afT(p q:Pm):aH xQ (Op.equal 36 (xL #[xG xM p.1,xG xM p.2.1,xG xM p.2.2]) (xL #[xG xM q.1,xG xM q.2.1,xG xM q.2.2])) (decide (p=q)):=by
 obtain⟨f,g,u,A,⟨F,B,D⟩,⟨y,z,H⟩,⟨I,E,u3⟩⟩:=NE (a:=(3,0)) (b:=(3,1)) (c:=(3,2)) Wy;have G:∃k,Tryz.prog.underlying 3=dB (.int k):=⟨.i64,j3⟩
 obtain⟨k,d⟩:=G;unfold Op.equal;rw[show Op.maxDepth=9998+1+1 from i0,Op.equalIn];refine(aG A).bind ?_;refine aH.bind (v:=xQ) (λw=>rfl) ?_;simp only[ZD,zf,if_false,List.forIn_toArray,List.forIn_cons,List.forIn_nil,ne_eq,F,y,I,not_false_eq_true,if_true,B,D,z,H,E,u3];obtain⟨a,b,c⟩:=p;obtain⟨h,i,j⟩:=q
 try dsimp only
 have o:aH xQ (part 3 #[Value.int xM a,Value.int xM b,Value.int xM c] 0) _:=lW d i0;have n:aH xQ (part 3 #[Value.int xM h,Value.int xM i,Value.int xM j] 0) _:=lW d i0;have r:aH xQ (part 3 #[Value.int xM a,Value.int xM b,Value.int xM c] 1) _:=lW d i0;have s:aH xQ (part 3 #[Value.int xM h,Value.int xM i,Value.int xM j] 1) _:=lW d i0;have x:aH xQ (part 3 #[Value.int xM a,Value.int xM b,Value.int xM c] 2) _:=lW d i0;have t:aH xQ (part 3 #[Value.int xM h,Value.int xM i,Value.int xM j] 2) _:=lW d i0;by_cases l:a=h
 ·by_cases m:b=i
  ·by_cases h3:c=j
   ·have e:decide ((a,b,c)=(h,i,j))=eH:=by simp[l,m,h3]
    rw[e];refine aH.bind (v:=(ez,())) (aH.bind (v:=ForInStep.yield (ez,())) (o.bind (n.bind ((jh ⟨k,d⟩ a h).bind ?_))) (aH.bind (v:=ForInStep.yield (ez,())) (r.bind (s.bind ((jh ⟨k,d⟩ b i).bind ?_))) (aH.bind (v:=ForInStep.yield (ez,())) (x.bind (t.bind ((jh ⟨k,d⟩ c j).bind ?_))) .pure))) .pure
    ·simp only[l,beq_self_eq_true,yb,zf,if_false];exact .pure
    ·simp only[m,beq_self_eq_true,yb,zf,if_false];exact .pure
    ·simp only[h3,beq_self_eq_true,yb,zf,if_false];exact .pure
   ·have e:decide ((a,b,c)=(h,i,j))=eL:=by simp[h3]
    rw[e];refine aH.bind (v:=(dB eL,())) (aH.bind (v:=ForInStep.yield (ez,())) (o.bind (n.bind ((jh ⟨k,d⟩ a h).bind ?_))) (aH.bind (v:=ForInStep.yield (ez,())) (r.bind (s.bind ((jh ⟨k,d⟩ b i).bind ?_))) (aH.bind (v:=ForInStep.done (dB eL,())) (x.bind (t.bind ((jh ⟨k,d⟩ c j).bind ?_))) .pure))) .pure
    ·simp only[l,beq_self_eq_true,yb,zf,if_false];exact .pure
    ·simp only[m,beq_self_eq_true,yb,zf,if_false];exact .pure
    ·rw[show(c==j)=eL by simpa using h3];simp only[w4,if_true];exact .pure
  ·have e:decide ((a,b,c)=(h,i,j))=eL:=by simp[m]
   rw[e];refine aH.bind (v:=(dB eL,())) (aH.bind (v:=ForInStep.yield (ez,())) (o.bind (n.bind ((jh ⟨k,d⟩ a h).bind ?_))) (aH.bind (v:=ForInStep.done (dB eL,())) (r.bind (s.bind ((jh ⟨k,d⟩ b i).bind ?_))) .pure)) .pure
   ·simp only[l,beq_self_eq_true,yb,zf,if_false];exact .pure
   ·rw[show(b==i)=eL by simpa using m];simp only[w4,if_true];exact .pure
 ·have e:decide ((a,b,c)=(h,i,j))=eL:=by simp[l]
  rw[e];refine aH.bind (v:=(dB eL,())) (aH.bind (v:=ForInStep.done (dB eL,())) (o.bind (n.bind ((jh ⟨k,d⟩ a h).bind ?_))) .pure) .pure;rw[show(a==h)=eL by simpa using l];simp only[w4,if_true];exact .pure
theorem Wz(x y:Operand)(p q:Pm):jY xQ .neq 36 x y (xL #[xG xM p.1,xG xM p.2.1,xG xM p.2.2]) (xL #[xG xM q.1,xG xM q.2.1,xG xM q.2.2]) (xK (!decide (p=q))):=by
 unfold jY eqGuard;refine aH.bind (v:=()) ?_ ?_
 ·simp only[yb,zf,if_false];refine aH.bind (v:=xQ) (λw=>rfl) ?_;refine aH.bind (v:=xQ) (λw=>rfl) ?_;simp only[ZE,w4,if_true];exact .pure
 ·exact(afT p q).bind .pure
def ZF(P:dm->Bool)(l:List dm)(i:Int):Prop:=(i=-1/\l.any P=eL)∨∃n:Nat,∃h:n<ii l,i=n/\P l[n]=eH/\(l.take n).any P=eL
theorem NF{P:dm->Bool}{l:List dm}{i:Int}(h:ZF P l i):decide (i>=0)=l.any P:=by
 rcases h with⟨rfl,h⟩|⟨n,hn,rfl,h,_⟩
 ·rw[h];rfl
 ·rw[wq.2 ⟨_,qf hn,h⟩];exact g9 i4
theorem Fj(f:FuncId)(pre post:Array Value)(P:Qw.dm->Bool)(l:Sl)(a:List Qw.dm)(h:f8)(t:C.fns[f]?=dB eH)(n:dM py h l a)(D:ii a<=2^30)
  (z:∀(u:dD) (E:Qw.dm) (h':f8),Sp h h' []->dM ff h' u E->E∈a->an xQ f (pre.toList++[Value.agg #[xJ u.1,xG xM u.2.1,xG xM u.2.2.1,u.2.2.2]]++post.toList).toArray h' λv e=>v=xK (P E)/\Sp h' e []):
  an xQ 125 #[l,.func (.func f) pre post] h λv h'=>(∃i:Int,v=xG xM i/\ZF P a i)/\Sp h h' []:=by
 refine ia l (f,pre,post) ?_;obtain⟨j,w,F,y⟩:=bv.jZ n;have r:=bv.len n;refine aq (λi:Nat=>(i:Int)) (λi h'=>i<=ii a/\(a.take i).any P=eL/\Sp h h' []) (λi=>ii a-i) 0 i0 ⟨i4,i9,Sp.refl h⟩ ?_;rintro i o ⟨B,b,d⟩;refine ag (λk=>?_) (λk=>?_)
 ·have c:i<ii a:=by have p:(i:Int)<(l.len:Int):=k;omega
  have s:dM ff o (j[i]'(by omega)) a[i]:=ff.mono (ff.loc (y i i4 c) d.af) λ_ q=>qT q d.af.1;refine(Seq.up w d.af).cX (g:=bh) i i0 i4 (j[i]'(by omega)) i0 (dL t ?_);refine(z (j[i]'(by omega)) a[i] o d s (qf c)).mono ?_;rintro _ A ⟨rfl,x⟩;have m:=d.up x.af;refine⟨_,i0,bf (λe2=>⟨⟨i,i0,.inr ⟨i,c,i0,e2,b⟩⟩,m⟩) λe2=>?_⟩;refine⟨i+1,j0,⟨i4,?_,m⟩,i4⟩;rw[aD _ _ c,y0,b,List.any_cons,List.any_nil,e2];rfl
 ·have p:¬(i:Int)<(l.len:Int):=k;rw[qg i4]at b;exact⟨⟨-1,i0,.inl ⟨i0,b⟩⟩,d⟩
theorem Jx(f:FuncId)(pre post:Array Value)(P:Qw.dm->Bool)(l:Sl)(a:List Qw.dm)(h:f8)(d:C.fns[f]?=dB eH)(c:dM py h l a)(k:ii a<=2^30)
  (j:∀(u:dD) (E:Qw.dm) (h':f8),Sp h h' []->dM ff h' u E->E∈a->an xQ f (pre.toList++[Value.agg #[xJ u.1,xG xM u.2.1,xG xM u.2.2.1,u.2.2.2]]++post.toList).toArray h' λv b=>v=xK (P E)/\Sp h' b []):
  an xQ 150 #[l,.func (.func f) pre post] h λv h'=>v=xK (a.any P)/\Sp h h' []:=by
 refine ts Tryz.func150 ?_ (args:=[l,(.func (.func (f,pre,post).1) (f,pre,post).2.1 (f,pre,post).2.2)]);refine(Fj f pre post P l a h d c k j).mono ?_;rintro _ m ⟨⟨i,rfl,g⟩,e⟩;exact⟨i,i0,by rw[NF g],e⟩
theorem sw(o b t:Int)(h:f8):an xQ 87 #[xG xM o,xG xM b,xG xM t] h λv h'=>v=xG xO (iG o b t)/\h'=h:=by
 refine ts Tryz.func87 ?_;refine⟨?_,i0⟩;have:qe xO ((qe xO ((qe xO ((128:Int)*(qe xO o)))+(qe xO ((16:Int)*(qe xO b)))))+(qe xO t))=iG o b t:=by unfold iG qe;simp[qG,vg];omega
 rw[this]
theorem PW(x:bo)(m:aA)(y:bA)(r:dG)(h:f8)(q:dh h x m)(Y:cw m)(N:dM fg h y r):
  an xQ 154 #[dq x,recv y] h λv h'=>v=xK (ij m r)/\Sp h h' []:=by
 refine ts Tryz.func154 ?_ (.two .n (.two (.join [] [(4,15)] .n) .n)) (args:=[x,y]);refine(Sp.refl h).boxed λQ h1 X=>X.boxed λd O e=>?_;have e:Sp h O [ac Q 39 (az x),ac d 167 (bL y)]:=e;obtain⟨⟨e1,e2,e3,t,Z,e7,e8⟩,e6⟩:=id N;have I:x.2.2.1=m.p.1:=congrArg (·.1) q.p;have w:x.2.2.2.1=m.p.2.1:=congrArg (·.2.1) q.p;have z:x.2.2.2.2.1=m.p.2.2:=congrArg (·.2.2) q.p;have J:y.2.2.2.1=r.p.1:=congrArg (·.1) t;have A:y.2.2.2.2.1=r.p.2.1:=congrArg (·.2.1) t;have D:y.2.2.2.2.2.1=r.p.2.2:=congrArg (·.2.2) t;have ab:=Y.ob;refine aT ⟨y,(e.box 1 i0).aE _ i0,(Fh y r O (fg.mono (fg.loc N e.af) λ_ W=>qT W e.af.1)).mono ?_⟩;rintro _ h3 ⟨rfl,V⟩;have j:Sp h h3 [ac Q 39 (az x),ac d 167 (bL y)]:=e.up V.af;have T:=j.box 0 i0;have B:=j.box 1 i0;refine⟨_,i0,aQ (λg=>⟨by unfold ij;rw[g];rfl,.zip j.af⟩) λg=>?_⟩;obtain⟨_,g2,_⟩:=(nL r).1 g;refine⟨r.p,by rw[<-J,<-A,<-D];exact B.uM 3 i0 i0 i0,m.p,by rw[<-I,<-w,<-z];exact T.uM 2 i0 i0 i0,_,Wz _ _ r.p m.p,aQ (λH=>⟨?_,.zip j.af⟩) λH=>?_⟩
 ·unfold ij;rw[g,H];rfl
 obtain⟨P,U⟩:∃P:Qw.dm->Bool,P=λx=>decide (x.object=r.object)&&(decide (r.block<(x.tries.length:Int))&&decide (r.seed=iG r.object r.block (x.tries.getD r.block.toNat 0))):=⟨_,rfl⟩
 have F:ij m r=m.objs.any P:=by unfold ij;rw[g,H,U];rfl
 refine⟨x.2.2.2.2.2.2.2,T.cell i0,?_⟩;refine(Jx 220 #[] #[xI (dB d)] P x.2.2.2.2.2.2.2 m.objs h3 lx (q.up j.af).objs i4 λu E L H4 he _=>?_).mono ?_
 ·obtain⟨⟨y1,y2,y3⟩,R⟩:=he;have ad:=Seq.len R;have o:=B.af H4.af B.lt;refine ts Tryz.func220 ?_ (args:=[u,d]);refine(Sp.refl L).boxed λa5 a b=>?_;have b:Sp L a [ac a5 88 (bh u)]:=b;have M:=b.box 0 i0;have c:=o.af b.af o.lt;have s:f7 a (a5.add 1)=dB (xG xM E.object):=by rw[<-y2];exact M.cell i0
  have k:f7 a (a5.add 3)=dB (xH u.2.2.2.ptr u.2.2.2.len u.2.2.2.cap):=M.cell i0;have l:f7 a d=dB (xG xM r.object):=by rw[<-e1];exact c.cell0 i0
  have i:f7 a (d.add 1)=dB (xG xM r.block):=by rw[<-e2];exact c.cell i0
  have K:f7 a (d.add 6)=dB (xG xO r.seed):=by rw[<-Z];exact c.cell i0
  rw[U];refine⟨E.object,s,r.object,l,cv (λG=>?_) λG=>⟨⟨l,s,trivial⟩,?_,.zip b.af⟩⟩
  ·refine⟨u.2.2.2,k,r.block,i,ag (λq2=>?_) λq2=>⟨⟨i,k,l,s,trivial⟩,?_,.zip b.af⟩⟩
   ·have S:r.block.toNat<E.tries.length:=i4
    refine⟨r.seed,K,r.object,l,r.block,i,u.2.2.2,k,r.block,i,?_⟩;refine Seq.bt (f:=ak) (Seq.up R b.af) r.block.toNat i4 S (E.tries.getD r.block.toNat 0) (by rw[getD_lt S];rfl) ?_;refine(sw _ _ _ a).mono ?_;rintro _ _ ⟨rfl,rfl⟩;refine⟨_,i0,⟨i,k,K,i,k,l,s,trivial⟩,?_,.zip b.af⟩
    try dsimp only
    rw[g9 G,g9 (show r.block<(E.tries.length:Int)by omega),yd,yd];congr 1
   ·try dsimp only
    rw[hU (show¬r.block<(E.tries.length:Int)by omega)];simp
  ·try dsimp only
   rw[hU G];rfl
 ·rintro _ a ⟨rfl,R5⟩;exact⟨_,i0,by rw[F],.zip (aa.up j R5.af).af⟩
def nB(k:Nat)(f:α->aR):iy Sl (List α):=⟨λh q s l=>Seq h q s k f l/\s.len<=s.cap,λa b=>⟨a.1.af b,a.2⟩,λa c=>⟨a.1.mono c,a.2⟩⟩
theorem aa.abU{B:av}{d h:f8}{As:List HP}{e b k:Nat}{s:Sl}{f:α->aR}{a:List (List α)}(H:aa B d h (dc e s b k f a::As))(o:∀x,ii (f x)=k):∃rs,aa B d h (cy (nB k f) 1 aX s rs a::As):=by
 obtain⟨rs,H⟩:=H.oz;obtain⟨H,j⟩:=H.oA;refine⟨rs,H.dX 0 i0 λq g=>⟨?_,j,λi r l m c=>?_⟩⟩
 ·have:=HP.Aw (i:=0) g i0;exact this.1.seq (λ_=>rfl) this.2
 ·have n:i<ii a:=(qj.1 c).1;have p:=fk (e:=b) (k:=k) (f:=f) j i n;have:=HP.Aw (i:=i+1) g (by simpa using p);have t:rs[i]'(by omega)=r:=by rw[qc i4]at m;simpa using m
  have b:a[i]=l:=by rw[qc n]at c;simpa using c
  rw[t,b]at this;exact⟨this.1.seq o this.2,this.1.cap⟩
def pT(T:List (bA×dG)):HP:=⟨λh q=>∀t∈T,fg.p h q t.1 t.2,λa c t b=>fg.loc (a t b) c,λa d t b=>fg.mono (a t b) d⟩
def Keyed(T:List (bA×dG)):Prop:=∀t∈T,t.1.1=t.2.object/\t.1.2.1=t.2.block/\t.1.2.2.1=t.2.id
def Kw(a b:bA×dG):Bool:=mv a.2 b.2
theorem ZG{T:List (bA×dG)}(k:Keyed T):∀a∈T,∀b∈T,Kw a b=cx a.1 b.1:=λa i b e=>by
 obtain⟨f,c,a3⟩:=k a i;obtain⟨h,d,g⟩:=k b e;unfold Kw mv cx;rw[decide_eq_decide,Av,f,c,a3,h,d,g]
theorem TG{T:List (bA×dG)}(k:Keyed T):(T.mergeSort Kw).map qq=(T.map qq).mergeSort cx/\(T.mergeSort Kw).map zi=(T.map zi).mergeSort mv/\Keyed (T.mergeSort Kw):=
 ⟨yP (ZG k),yP λa _ b _=>rfl,λt c=>k t (wM.1 c)⟩
def HK:bA×dG:=(jO,uA)
def BC(T:List (bA×dG)):List (bA×dG):=((qz T.length).filter (se (T.map zi))).map λi=>T.getD i HK
theorem getD_map{α β:Type}(f:α->β)(l:List α)(i:Nat)(d:α):(l.map f).getD i (f d)=f (l.getD i d):=by rw[qd,qd,qL];cases l[i]?<;>rfl
theorem WA{T:List (bA×dG)}(k:Keyed T):(BC T).map qq=Wx (T.map qq)/\(BC T).map zi=rG (T.map zi)/\∀t∈BC T,t∈T:=by
 have r:∀i,i<ii T->kj (T.map qq) i=se (T.map zi) i:=λi a=>by
  unfold kj se;have g:∀j,j<ii T->(T.map qq).getD j jO=(T[j]?.getD HK).1/\(T.map zi).getD j uA=(T[j]?.getD HK).2:=λj l=>by
   rw[qd,qd,qL,qL,qc l];exact⟨i0,i0⟩
  by_cases h0:i=0
  ·rw[g9 h0];rfl
  ·rw[hU h0,vq,vq,(g i a).1,(g i a).2,(g (i-1) i4).1,(g (i-1) i4).2];rw[qc a,qc (show i-1<ii T by omega)];obtain⟨f,e,a3⟩:=k _ (qf a);obtain⟨o,m,q⟩:=k _ (qf (show i-1<ii T by omega));unfold oF;simp only[Option.getD_some];have c:=Wv T[i].1 (T[i-1]'(by omega)).1;rw[f,e,a3,o,m,q]at c;by_cases b:lD T[i].1 (T[i-1]'(by omega)).1=0
   ·rw[hU λh=>h b,g9 (c.1 b)];rfl
   ·rw[g9 b,hU λp=>b (c.2 p)];rfl
 have n:(qz T.length).filter (kj (T.map qq))=(qz T.length).filter (se (T.map zi)):=List.filter_congr λi a=>r i (qC.1 a);refine⟨?_,?_,λt d=>?_⟩
 ·unfold BC Wx km;rw[qu,n,w7];congr 1;funext i;exact(getD_map qq T i HK).symm
 ·unfold BC rG;rw[qu,w7];congr 1;funext i;exact(getD_map zi T i HK).symm
 ·unfold BC at d;obtain⟨i,a,rfl⟩:=qx.1 d;have:=qC.1 (qI.1 a).1;rw[getD_lt this];exact qf this
theorem Ln(a pw:eX)(d:aY)(s b:Sl)(x:bo)(m:aA)(h:f8)(I:bW h a 102 (eG pw d s b))(hl:dY h s 1 aw d.l)(ok:gy d)(hx:dh h x m)(hz:cw m):
  an xQ 105 #[xI (dB a),dq x] h λv h'=>∃(r:Sl) (T:List (bA×dG)),v=r/\T.map zi=fO m d.l/\Keyed T/\Sp h h' [cG r (T.map qq),pT T]:=by
 refine ts Tryz.func105 ?_ (.two .n (.scope 0 [(6,cK),(7,aS)] [(4,5),(6,10),(12,40)] [.n,.n,.n] [(.two .n (.two .n (.two (.join [(6,cK)] [(6,7),(8,10),(18,36)] .n) .n)))] [(1,[.n])])) (args:=[(dB a),x]);have ab:=ok.len;have Q:=ok.room;refine(Sp.refl h).boxed λu h1 K=>?_;have K:Sp h h1 [ac u 39 (az x)]:=K;refine(tH s b (I.af K.af I.lt) (hl.up K.af) ok).mono ?_;rintro _ h2 ⟨H,rfl,R2⟩;have N:=K.bN R2;obtain⟨rs,N⟩:=aa.abU N λ_=>rfl;refine⟨H,i0,?_⟩;have F2:=N.eS 0 i0;have ah:=F2.1.len;have ad:=F2.2.1;have G:Sp h h2 [cG ⟨ez,0,0⟩ [],pT [],cy (nB 1 aw) 1 aX H rs d.l,ac u 39 (az x)]:=
  ((N.comp (.one (A:=pT []) (aN.refl _ _) λt f=>(by cases f))).nil 167 8 bL).bB [3,2,0,1]
 refine aq (λt:Sl×Nat×List (bA×dG)=>(t.1,(t.2.1:Int)-1)) (λt h'=>t.2.1<=ii d.l/\t.2.2.length<=t.2.1/\Keyed t.2.2/\t.2.2.map zi=(d.l.take t.2.1).filterMap (gY m)/\Sp h h' [cG t.1 (t.2.2.map qq),pT t.2.2,cy (nB 1 aw) 1 aX H rs d.l,ac u 39 (az x)]) (λt=>ii d.l-t.2.1) (⟨ez,0,0⟩,0,[]) i0 ⟨i9,i9,(λt f=>(by cases f)),i9,G⟩ ?_;rintro⟨o,i,T⟩ h3 ⟨hi,al,M,k,G⟩;dsimp only at*;have ei:qe xM ((i:Int)-1+1)=(i:Int):=j4
 rw[ei];refine ag (λe=>?_) (λe=>?_)
 ·have W:i=ii d.l:=i4
  subst W;rw[qN]at k;refine(HI (T.map qq) oa G).mono ?_;rintro _ h4 ⟨rfl,H4⟩;obtain⟨s1,s2,s3⟩:=TG M;rw[<-s1]at H4;refine⟨(),i0,(Gj _ (by rw[qu,List.length_mergeSort];omega) H4).mono ?_⟩;rintro _ h5 ⟨r5,rfl,H5⟩;obtain⟨c1,c2,c3⟩:=WA s3;rw[<-c1]at H5;refine⟨r5,i0,r5,BC (T.mergeSort Kw),i0,?_,λt f=>s3 t (c3 t f),?_⟩
  ·have hr:fO m d.l=(BC (T.mergeSort Kw)).map zi:=by unfold fO;rw[<-k,c2,s2]
   exact hr.symm
  ·exact(H5.dX 1 i0 (D:=pT (BC (T.mergeSort Kw))) λq z t f=>z t (wM.1 (c3 t f))).bB [0,1]
 ·have F:i<ii d.l:=i4
  have g:=Tj m d.l i F;have next:∀{h':f8} {E:Sl} {T':List (bA×dG)},ii T'<=i+1->Keyed T'->T'.map zi=(d.l.take (i+1)).filterMap (gY m)->Sp h h' [cG E (T'.map qq),pT T',cy (nB 1 aw) 1 aX H rs d.l,ac u 39 (az x)]->
    ∃j:Sl×Nat×List (bA×dG),((⟨E.ptr,E.len,E.cap⟩:Sl),(i:Int))=(j.1,(j.2.1:Int)-1)/\(j.2.1<=ii d.l/\j.2.2.length<=j.2.1/\Keyed j.2.2/\j.2.2.map zi=(d.l.take j.2.1).filterMap (gY m)/\Sp h h' [cG j.1 (j.2.2.map qq),pT j.2.2,cy (nB 1 aw) 1 aX H rs d.l,ac u 39 (az x)])/\d.l.length-j.2.1<ii d.l-i:=λ{h' E T'} q1 q2 q3 q4=>
   ⟨(E,i+1,T'),l4,⟨i6,q1,q2,q3,q4⟩,i6⟩
  refine aT ?_;refine(G.eS 2 i0).1.lY i i0 i4 ?_;obtain⟨w,Z⟩:=Fix.row (G.eS 2 rfl) F;obtain⟨c,hc⟩:∃c,c=d.l[i]:=⟨_,rfl⟩
  rw[<-hc]at w g;have ao:ii c=64:=by rw[hc];exact ok.cell _ (qf F)
  refine(Nz (rs[i]'(by omega)) c h3 w i4 Z).mono ?_;rintro _ h6 ⟨y,rfl,Q0,Q1⟩;refine⟨(y,(dP c).isSome),i0,?_⟩
  try dsimp only
  cases htr:dP c with
  |none=>
   have L:gY m c=ez:=by unfold gY;rw[htr]
   rw[L,Option.toList_none,qF]at g;have S:=G.up (Q0 htr).af;refine S.alloc aj i0 λa9 h7 P=>?_;refine P.storeAll aj 4 i0 i0 (bL y) i0 i0 i0 i0 λh8 p=>bf (λe=>j1) λ_=>?_;exact next i4 M (by rw[k,g]) (p.bB [0,1,2,3])
  |some r=>
   have S:=G.bN (Q1 r htr);refine S.alloc aj i0 λa9 h7 P=>?_;refine P.storeAll aj 5 i0 i0 (bL y) i0 i0 i0 i0 λh8 p=>bf (λ_=>?_) λe=>j1
   have p:Sp h h8 [EA fg y r,cG o (T.map qq),pT T,cy (nB 1 aw) 1 aX H rs d.l,ac u 39 (az x),ac a9 167 (bL y)]:=p;have U:=p.eAt 0 i0;have Y:bp h8 u 0 (az x):=(p.box 4 i0).aE _ i0;have R:bp h8 a9 0 (bL y):=(p.box 5 i0).aE _ i0;have X:=PW x m y r h8 (hx.up p.af) hz U;refine⟨x,Y,y,R,X.mono ?_⟩;rintro _ h9 ⟨rfl,R9⟩;have V:Sp h h9 [EA fg y r,cG o (T.map qq),pT T,cy (nB 1 aw) 1 aX H rs d.l,ac u 39 (az x),ac a9 167 (bL y)]:=p.up R9.af;refine⟨_,i0,bf (λe2=>?_) λe2=>?_⟩
   ·have L:gY m c=dB r:=by unfold gY;rw[htr];exact f9 e2
    rw[L,Option.toList_some]at g;refine⟨y,(V.box 5 i0).aE _ i0,?_⟩;refine V.push aj 1 i0 aeT i0 i5 (λ_=>rfl) acP y j3 i5 oa λE am J=>?_;have B:=(J.eAt 0 i0).1;have O:=J.merge 2 0 i5 i0 i0 (D:=pT (T++[(y,r)])) (λq1 q2 _ p1 p2 t f=>by
     rcases qy.1 f with f|f
     ·exact fg.mono (p1 t f) λ_ I=>.inl I
     ·rw[qp.1 f];exact fg.mono p2 λ_ I=>.inr I)
    refine next (T':=T++[(y,r)]) i7 (λt f=>?_) (by rw[qM,k,g];rfl) ?_
    ·rcases qy.1 f with f|f
     ·exact M t f
     ·rw[qp.1 f];exact⟨B.1,B.2.1,B.2.2.1⟩
    ·rw[qM];exact O.bB [1,2,3,4]
   ·have L:gY m c=ez:=by unfold gY;rw[htr];exact g0 (by rw[e2];simp)
    rw[L,Option.toList_none,qF]at g;exact next i4 M (by rw[k,g]) (V.bB [1,2,3,4])
theorem DA(a pw:eX)(d:aY)(s b:Sl)(x:bo)(m:aA)(h:f8)(i:bW h a 102 (eG pw d s b))(k:dY h s 1 aw d.l)(ok:gy d)(g:dh h x m)(o:cw m):
  an xQ 105 #[xI (dB a),dq x] h λv h'=>∃(r:Sl) (u:List bA),v=r/\Sp h h' [cy fg 8 bL r u (fO m d.l)]:=by
 refine(Ln a pw d s b x m h i k ok g o).mono ?_;rintro _ h' ⟨r,T,rfl,y,_,H⟩;refine⟨r,T.map qq,i0,?_⟩;have z:=(H.freeze 0 i0 λ_=>rfl).iQ;have p:aa _ _ _ (cy fg 8 bL r (T.map qq) (fO m d.l)::_):=z.dX 0 i0 λq ⟨D,E,_,b,c,w,n⟩=>by
  rw[<-y];refine⟨Seq.mono n c,i9,λj B A e f=>?_⟩;rw[qL]at e f;cases g3:T[j]? with
  |none=>rw[g3]at e;cases e
  |some t=>
   rw[g3]at e f;simp at e f;subst e;subst f;exact fg.mono (w t (zT g3)) b
 exact p.bB [0]
def bi(l:aB)(k:Nat):aB:=((qz k).map λi:Nat=>(i:Int)).filter λi=>decide (0<l.getD i.toNat 0)
def fl(l:aB):aB×Bool:=
 if l.all (fo · 0 512)then(bi l l.length,decide (ii l<=64)&&decide (0<ii (bi l l.length)))else([],eL)
theorem Ch(l:aB)(k:Nat)(a:k<ii l):bi l (k+1)=bi l k++if 0<l[k]then[(k:Int)]else[]:=by unfold bi;rw[zV,qM,zl];congr 1;simp only[List.map_cons,List.map_nil,zq,vo,qk,qd,qc a,Option.getD_some];by_cases h:0<l[k]<;>simp[h]
theorem oR(l:aB)(k:Nat):ii (bi l k)<=k:=by unfold bi;exact q9 (qR _ _) i9
theorem PX(s:Sl)(l:aB)(h:f8)(m:Rd h s 1 ak l)(E:ii l<=2^20):
  an xQ 57 #[s] h λv h'=>∃r:Sl,v=.tuple #[r,xK (fl l).2]/\Sp h h' [ae 3 r 1 ak (fl l).1]:=by
 refine ts Tryz.func57 ?_ (.two .n (.two .n (.two (.two .n (.inn (.loop [(4,cK),(9,aS)] [(2,7),(9,27)] (.two .n (.two .n (.two (.inn (.two .n (.two (.join [] [(2,4),(14,20)] .n) .n))) .n)))))) .n)));have q:=m.len;have A:Sp h h [ae 3 ⟨ez,0,0⟩ 1 ak (bi l 0)]:=(Sp.refl h).nil 3 1 ak;refine aq (λt:Sl×Nat=>(t.1,(t.2:Int))) (λt h'=>t.2<=ii l/\(l.take t.2).all (fo · 0 512)=eH/\Sp h h' [ae 3 t.1 1 ak (bi l t.2)]) (λt=>ii l-t.2) (⟨ez,0,0⟩,0) i0 ⟨i9,i9,A⟩ ?_;rintro⟨o,i⟩ F ⟨G,b,f⟩;dsimp only at*;have d:∀(a:i<ii l),fo l[i] 0 512=eL->fl l=([],eL):=λa g=>by
  unfold fl;rw[g0];intro z;have:=qY.1 z _ (qf a);rw[g]at this;cases this
 refine ag (λe=>?_) (λe=>?_)
 ·have a:i<ii l:=i4
  have x:=oR l i;refine(Seq.up m f.af).bt i i0 a l[i] i0 ?_;refine aT (ag (λj=>?_) λj=>ag (λe2=>?_) λe2=>?_)
  ·have g:=d a n8;rw[g];exact⟨⟨ez,0,0⟩,i0,(f.bB []).nil 3 1 ak⟩
  ·have g:=d a n8;rw[g];exact⟨⟨ez,0,0⟩,i0,(f.bB []).nil 3 1 ak⟩
  ·have c:(l.take (i+1)).all (fo · 0 512)=eH:=by rw[aD l i a,vp,b,yd,List.all_cons,List.all_nil,Bool.and_true];unfold fo;simp;omega
   refine ag (λy=>?_) (λy=>?_)
   ·refine f.push aj 0 i0 fR i0 i5 (λ_=>rfl) eC (i:Int) i0 i5 i4 λu D B=>?_;refine⟨(u,i+1),jj,⟨i6,c,?_⟩,i6⟩
    try dsimp only
    rw[Ch l i a,f9 i4];exact B
   ·refine⟨(o,i+1),jj,⟨i6,c,?_⟩,i6⟩
    try dsimp only
    rw[Ch l i a,g0 i4,qF];exact f
 ·have k:i=ii l:=i4
  subst k;rw[qN]at b;have w:=(f.own 0 i0).len;have p:fl l=(bi l l.length,decide (ii l<=64)&&decide (0<ii (bi l l.length))):=by unfold fl;rw[f9 b]
  rw[p];refine ag (λj=>⟨o,?_,f⟩) (λj=>⟨o,?_,f⟩)
  ·try dsimp only
   rw[g9 (show l.length<=64 by omega),yd];congr 4;refine congrArg Value.bool ?_;rw[decide_eq_decide];omega
  ·try dsimp only
   rw[hU (show¬ii l<=64 by omega),Bool.false_and]
section
variable {pw:eX}
theorem fS(x:bo)(m:aA)(g:dh h x m)(b:cw m)(H:aa B h0 h (ba bc a pw (az x) offs da w ds::As)):
  an xQ 12 #[xI (dB a)] h λv h'=>∃r:Sl,v=r/\Sp h h' [ae 3 r 1 ak (bu ds m.drives)]:=by
 refine ts Tryz.func12 ?_;obtain⟨ok,d⟩:=aa.cP H;have f:=b.dr;refine bf (λe=>j1) λ_=>⟨a,i0,x.2.2.2.2.2.2.1,d.cell i0,(HD _ m.drives g.drives i4 H).mono ?_⟩;rintro _ i ⟨r,rfl,c⟩;exact⟨r,i0,r,i0,c⟩
theorem Jy(x:bo)(m:aA)(g:dh h x m)(j:cw m)(H:aa B h0 h (ba bc a pw (az x) offs da w ds::As)):
  an xQ 11 #[xI (dB a)] h λv h'=>∃y:bo,v=dq y/\Sp h h' [aZ y m]:=by
 refine ts Tryz.func11 ?_;obtain⟨ok,d⟩:=aa.cP H;refine(Sp.refl h).alloc aj i0 λo l b=>?_;have c:=d.af b.af d.lt;refine bf (λe=>j1) λ_=>⟨a,i0,x,c.aE _ i0,(Bz x m l (g.up b.af) j).mono ?_⟩;rintro _ n ⟨y,rfl,k⟩;have i:=b.comp k;refine⟨y,i0,?_⟩;refine i.store aj 0 i0 i0 0 (az y) i0 i0 i0 j9 λh3 f=>?_;exact⟨y,(f.box 0 i0).aE _ i0,y,i0,f.bB [1]⟩
end
def fT(w:Pow)(offs:Int):Bool:=w.off||w.offs !=offs
section
variable {pw:eX}
theorem aa.acQ(H:aa B h0 h (ba bc a pw mc offs da w ds::As)):∃l,Hz w l/\bW h pw 104 (powC w l):=by obtain⟨ok,c⟩:=Qw.aa.mB H;have e:=c.rest;obtain⟨l,d,b⟩:=aa.nZ e;exact⟨l,d,b.box 0 i0⟩
theorem pD(H:aa B h0 h (ba bc a pw mc offs da w ds::As)):
  an xQ 38 #[xI (dB a)] h λv h'=>v=xK (fT w offs)/\h'=h:=by
 refine ts Tryz.func38 ?_ .n [(1,(.l [0,1,2,3,4,5,6,7,8,9,10,11,12,13,15,16,17,18,14,19,20,21,22]))];obtain⟨ok,f⟩:=aa.cP H;obtain⟨l,i,c⟩:=aa.acQ H;have d:f7 h (a.add 8)=dB (xI (dB pw)):=f.cell (NA ok.l8);have g:f7 h (a.add 9)=dB (xG xM offs):=f.cell (TE ok.l8);refine bf (λ_=>?_) (λe=>j1);refine⟨a,i0,dB pw,d,(sO l c).mono ?_⟩;rintro _ _ ⟨rfl,rfl⟩;refine⟨_,i0,trivial,aQ (λe=>⟨trivial,?_⟩) λe=>?_⟩
 ·have b:w.off=eH:=lb
  exact⟨by unfold fT;rw[b];rfl,i0⟩
 ·have b:w.off=eL:=lb
  refine⟨a,i0,dB pw,d,a,i0,offs,g,(Dq l c).mono ?_⟩;rintro _ _ ⟨rfl,rfl⟩;exact⟨_,i0,⟨g,trivial⟩,by unfold fT;rw[b];rfl,i0⟩
theorem Ci(H:aa B h0 h (ba bc a pw mc offs da w ds::As)):
  an xQ 7 #[xI (dB a)] h λv h'=>v=xI (dB pw)/\h'=h:=by
 refine ts Tryz.func7 ?_;obtain⟨ok,b⟩:=aa.cP H;exact bf (λe=>j1) λ_=>⟨a,i0,dB pw,b.cell (NA ok.l8),i0,i0⟩
end
section
variable {k:Kit} {pw:eX}
theorem aa.ZH(H:aa B h0 h As):∀n,aa B h0 h (qi n emp++As)
 |0=>H
 |n+1=>(((aa.ZH H n).comp (.one (A:=emp) (aN.refl _ _) trivial)).be:aa B h0 h (emp::(qi n emp++As)))
theorem aa.WB(h8:ii mc=8)(H:aa B h0 h (ac a k.tS (bC mc pw offs (qi 64 ez))::bK k.tP pw w::As)):aa B h0 h (ba k a pw mc offs (qi 64 ez) w (qi 64 ez)::As):=by
 have ok:fx mc (qi 64 ez) (qi 64 (ez:Option aY)):=⟨h8,i9,i9,λi=>by
  simp only[qd,zO];split<;>rfl⟩
 have f:cZ k pw (qi 64 ez) (qi 64 (ez:Option aY))=qi 64 emp:=by simp[cZ,ZB]
 refine aa.mC ok ?_;rw[f];have g:=aa.ZH H 64;refine g.pick (λi=>if i=0 then 64 else if i=1 then 65 else if i<66 then i-2 else i) (λx y b=>by(try dsimp only at b);split at b<;>split at b<;>(try split at b)<;>(try split at b)<;>(try split at b)<;>(try split at b)<;>omega) λi A d=>?_;rcases i with _|_|i
 ·simpa using d
 ·simpa using d
 ·by_cases e:i<64
  ·have c:(qi 64 emp++As)[i]?=dB A:=d;rw[ql lb]at c
   try dsimp only
   rw[g0 i4,g0 i4,f9 i4,ql i7];simpa using c
  ·have c:(qi 64 emp++As)[i]?=dB A:=d;rw[qh i7]at c
   try dsimp only
   rw[g0 i4,g0 i4,g0 i4,qh i7];simp only[List.length_replicate]at c⊢;obtain⟨j,rfl⟩:∃j,i=j+64:=⟨i-64,i4⟩
   have e2:j+64+1+1-64=j+1+1:=i4
   rw[e2];simpa using c
end
theorem Kx(x:bo)(pw:eX)(offs:Int):aH xQ (Instr.build 92 #[(0,dq x),(1,xI (dB pw)),(2,xG xM offs)]) (xL (bC (az x) pw offs (qi 64 ez)).toArray):=
 CE aj (i:=_) i0 i0 i0 (vs:=[(0,dq x),(1,xI (dB pw)),(2,xG xM offs)]) (cells:=(bC (az x) pw offs (qi 64 ez)).toArray) j3
section
variable {k:Kit} {pw b:eX}
theorem Ky(h8:ii mc=8):(bC mc pw offs da).set (10+n) (xI (dB b))=bC mc pw offs (da.set n (dB b)):=by unfold bC;rw[qS _ _ i4,h8,show 10+n-8=n+1+1 by omega,zu,zu,List.map_set]
theorem aa.acR(ok:fx mc da ds)(D:n<64)(x:ds[n]?=dB ez)(H:aa B h0 h (ac a k.tS (bC mc pw offs (da.set n (dB b)))::bK k.tP pw w::(cZ k pw da ds++(gq k.tD (k.f pw) b d::As)))):aa B h0 h (ba k a pw mc offs (da.set n (dB b)) w (ds.set n (dB d))::As):=by
 have m:=ok.Dy D x;have t:=ok.la;have s:=ok.ls;have q:fx mc (da.set n (dB b)) (ds.set n (dB d)):=⟨ok.l8,sL,by simp[s],λi=>by
  by_cases c:n=i
  ·subst c;rw[qd,qd,zg i4,zg i4];rfl
  ·have:=ok.same i;rw[qd,qd]at this⊢;rw[zy c,zy c];exact this⟩
 have o:=BB (k:=k) (pw:=pw) ok;have u:(cZ k pw da ds)[n]?=dB emp:=by simp only[cZ,zF,m,x];rfl
 have g:cZ k pw (da.set n (dB b)) (ds.set n (dB d))=(cZ k pw da ds).set n (gq k.tD (k.f pw) b d):=by
  apply zt;intro j;simp only[cZ,qU,zF,yG];by_cases l:n=j
  ·subst l;rw[f9 i0,f9 i4,f9 i0,f9 i4,f9 i0,f9 i4];rfl
  ·simp[l]
 refine aa.mC q ?_;rw[g];obtain⟨L,r⟩:∃L,L=cZ k pw da ds:=⟨_,rfl⟩
 rw[<-r]at H u o⊢;have v:=H.cons (ii L+2) (A:=gq k.tD (k.f pw) b d) (by
  rw[qo,qo,qh (qm _),qW];rfl)
 have e:(ac a k.tS (bC mc pw offs (da.set n (dB b)))::bK k.tP pw w::(L++(gq k.tD (k.f pw) b d::As))).set (ii L+2) emp=ac a k.tS (bC mc pw offs (da.set n (dB b)))::bK k.tP pw w::(L++(emp::As)):=by rw[zu,zu,qS _ _ (qm _),qW];rfl
 rw[e]at v;have y:=v.aL 3 [0,2,1];have p:L.set n emp=L:=by
  obtain⟨F,z⟩:=qj.1 u
  conv=>lhs;rw[<-z]
  exact List.set_getElem_self F
 have G:aa B h0 h (gq k.tD (k.f pw) b d::bK k.tP pw w::ac a k.tS (bC mc pw offs (da.set n (dB b)))::(L.set n emp++(emp::As))):=by rw[p];exact y
 have I:=aa.ER n i4 G;have E:=aa.closeAll (ac a k.tS (bC mc pw offs (da.set n (dB b)))::bK k.tP pw w::L.set n (gq k.tD (k.f pw) b d)) I;exact aa.kQ (L:=ac a k.tS (bC mc pw offs (da.set n (dB b)))::bK k.tP pw w::L.set n (gq k.tD (k.f pw) b d)) E.oy
end
def cA(p:Pm)(extra:Int)(l:aB):aA:=⟨1,0,p,extra,bi l l.length,[]⟩
def ik(l:aB)(k:Nat):aF:=(qz 64).map λi:Nat=>if(i:Int)∈(bi l l.length).take k then dB (aY.new (l.getD i 0).toNat)else ez
def fU(p:Pm)(extra:Int)(w:Pow)(l:aB):Int×Pow×aF:=
 if(fl l).2&&(bS p&&fo extra 0 16)then
  if(bi l l.length).any λi=>decide (l.getD i.toNat 0<(ii (aO (cA p extra l)):Int))then(7,w,[])
  else layAll (bF (cA p extra l) (bi l l.length)) w (ik l (bi l l.length).length)
 else(1,w,[])
theorem NG(l:aB):ik l 0=qi 64 ez:=by
 unfold ik;rw[List.take_zero];apply zt;intro j;simp only[qL,zO,zm,List.not_mem_nil,if_false];by_cases h:j<64
 ·simp[h,zm]
 ·simp[h]
theorem PY(l:aB)(k:Nat):ii (ik l k)=64:=by simp[ik]
theorem NH(l:aB)(k n:Nat)(e:k<ii (bi l l.length))(c:(bi l l.length)[k]=(n:Int))(b:n<64):(ik l k).set n (dB (aY.new (l.getD n 0).toNat))=ik l (k+1):=by
 apply zt;intro j;unfold ik;rw[aD _ _ e,c,qU,qu,zC];by_cases d:j<64
 ·simp only[qL,zm d,qQ,qy,qp];by_cases a:n=j
  ·subst a;rw[f9 i0,f9 b,f9 (Or.inr i0)]
  ·rw[g0 a];have:¬(j:Int)=(n:Int):=i4
   simp only[this,or_false]
 ·rw[g0 i4];rw[qB i7,qB i7]
theorem tI(l:aB)(k:Nat)(x:Int):x∈bi l k↔∃n:Nat,n<k/\x=(n:Int)/\0<l.getD n 0:=by
 unfold bi;rw[qI,qx];constructor
 ·rintro⟨⟨n,b,rfl⟩,a⟩;exact⟨n,qC.1 b,i0,kt⟩
 ·rintro⟨n,b,rfl,a⟩;exact⟨⟨n,qC.2 b,i0⟩,kt⟩
theorem PZ(l:aB)(k i:Nat)(a:i<ii (bi l k)):∃n:Nat,n<k/\(bi l k)[i]=(n:Int)/\0<l.getD n 0:=(tI l k _).1 (qf a)
def gm(p:Int×Int×Int):Nat:=(p.1*p.2.2).toNat
def BD(a:Nat)(b:aP)(i:Nat):aP:=(b.drop (i*a)).take a++(qi a 0).drop (b.drop (i*a)).length
theorem Kz(a:Nat)(b:aP)(i:Nat):ii (BD a b i)=a:=by unfold BD;simp;omega
def splitB(p:Int×Int×Int)(b:aP):bO:=(qz (countP p b.length).toNat).map (BD (gm p) b)
def HL(p:Int×Int×Int)(o b:Int)(n:Nat):Bool:=md p (iG o b n) (gD p)
def oS(p:Int×Int×Int)(o b:Int):Option Nat:=(qz 16).find? (HL p o b)
def dv(p:Int×Int×Int)(o:Int):Nat->Option (aB)
 |0=>dB []
 |n+1=>(dv p o n).bind λl=>(oS p o n).map λt=>l++[(t:Int)]
theorem lE{p:Int×Int×Int}{o:Int}:∀{n:Nat} {l:aB},dv p o n=dB l->ii l=n
 |0,l,h=>by cases h;rfl
 |n+1,l,h=>by
  unfold dv at h;cases h1:dv p o n with
  |none=>rw[h1]at h;cases h
  |some k=>
   rw[h1]at h;cases h2:oS p o n with
   |none=>rw[h2]at h;cases h
   |some t=>
    rw[h2]at h;have h:dB (k++[(t:Int)])=dB l:=h;injection h with h
    rw[<-h,qt,lE h1];rfl
theorem DB{p:Int×Int×Int}{o b:Int}{t:Nat}(h:oS p o b=dB t):t<16/\HL p o b t=eH/\∀k,k<t->HL p o b k=eL:=by
 unfold oS at h;obtain⟨e,us,vs,c,h3⟩:=List.find?_eq_some_iff_append.1 h;have d:=congrArg vR c;have f:t=ii us:=by
  have:(qz 16)[ii us]?=dB t:=by rw[c,qh (qm _),qW];rfl
  rw[zm k7]at this;injection this with this;exact this.symm
 refine⟨k7,e,λk g=>?_⟩;have a:k∈us:=by
  have:(qz 16)[k]?=us[k]?:=by rw[c,ql i4]
  rw[zm k7]at this;exact zT this.symm
 simpa using h3 k a
theorem uO{p:Int×Int×Int}{o:Int}:∀{n:Nat} {l:aB},dv p o n=dB l->∀i (b:i<ii l),∃t:Nat,l[i]=(t:Int)/\oS p o i=dB t
 |0,l,h=>by cases h;intro i b;simp at b
 |n+1,l,h=>by
  unfold dv at h;cases h1:dv p o n with
  |none=>rw[h1]at h;cases h
  |some k=>
   rw[h1]at h;cases h2:oS p o n with
   |none=>rw[h2]at h;cases h
   |some t=>
    rw[h2]at h;have h:dB (k++[(t:Int)])=dB l:=h;injection h with h
    subst h;intro i b;have c:=lE h1;by_cases a:i<ii k
    ·rw[List.getElem_append_left a];exact uO h1 i a
    ·have:i=ii k:=by simp at b;omega
     subst this;refine⟨t,i9,?_⟩;rw[c];exact h2
theorem KA(p:Pm)(h:f8)(b:bS p=eH):an xQ 112 #[jQ p] h λv h'=>v=xG xM (gm p)/\Sp h h' []:=by
 have d:=(cg p).1 b;refine Ar p ?_;refine(Sp.refl h).boxed λe h3 a=>⟨p.1,(a.box 0 i0).cell0 i0,p.2.2,(a.box 0 i0).cell i0,?_,a.bB []⟩
 have f:p.1*p.2.2<=16*24:=yg i4 i4 i4 i4;have c:0<=p.1*p.2.2:=vV i4 i4;rw[ai _];unfold gm;congr 1;omega
theorem oT{p:Pm}(a:bS p=eH):1<=gm p/\gm p<=384/\(gm p:Int)=p.1*p.2.2:=by have c:=(cg p).1 a;have d:p.1*p.2.2<=16*24:=yg i4 i4 i4 i4;have b:0<p.1*p.2.2:=xx i4 i4;unfold gm;omega
theorem lO{p:Pm}(a:bS p=eH)(n:Nat):0<=countP p n/\countP p n<=n/\∀i:Nat,(i:Int)<countP p n->i*gm p<n:=by
 obtain⟨d,h,b⟩:=oT a;unfold countP;rw[a,yd];by_cases h0:0<(n:Int)
 ·rw[g9 h0,f9 i0,<-b];have g:((n:Int)-1)/(gm p:Int)<=n-1:=xi _ i4;have e:0<=((n:Int)-1)/(gm p:Int):=Int.ediv_nonneg i4 i4;refine⟨i4,i4,λi c=>?_⟩;have h3:(i:Int)<=((n:Int)-1)/(gm p:Int):=i4
  have f:=(Int.le_ediv_iff_mul_le i4).1 h3;have j:((i*gm p:Nat):Int)=(i:Int)*(gm p:Int):=wQ i (gm p);omega
 ·rw[hU h0,g0 i5];exact⟨i4,i4,λi c=>i4⟩
theorem Qa(p:Pm)(s:Sl)(b:aP)(h:f8)(f:bS p=eH)(m:Rd h s 1 aw b)(L:s.len<=s.cap)(T:ii b<=2^30):an xQ 113 #[jQ p,s] h λv h'=>∃r:Sl,v=r/\Sp h h' [dC r (splitB p b)]:=by
 refine ts Tryz.func113 ?_ (.two .n (.two .n (.two (.two .n (.inn (.loop [(5,cK),(12,aS)] [(5,8),(12,31)] .n))) .n))) (args:=[p,s]);have c:=m.len;obtain⟨Q,S,X⟩:=oT f;obtain⟨U,W,c3⟩:=lO f b.length;refine(Sp.refl h).boxed λj I l=>?_;refine⟨p,(l.box 0 i0).aE _ i0,?_⟩;refine(su p s.len I).mono ?_;rintro _ x ⟨rfl,H⟩;have w:=l.up H.af;refine⟨_,i0,?_⟩;obtain⟨n,E⟩:∃n:Nat,n=(countP p b.length).toNat:=⟨_,rfl⟩
 have d:(countP p (s.len:Nat))=(n:Int):=by rw[c];omega
 rw[d];have J:ii (splitB p b)=n:=by unfold splitB;rw[<-E];simp
 have a:Sp h x [dC ⟨ez,0,0⟩ ((splitB p b).take 0),ac j 36 [xG xM p.1,xG xM p.2.1,xG xM p.2.2]]:=w.ww 58 5 1 aw;refine aq (λt:Sl×Nat=>(t.1,(t.2:Int))) (λt h'=>t.2<=n/\Sp h h' [dC t.1 ((splitB p b).take t.2),ac j 36 [xG xM p.1,xG xM p.2.1,xG xM p.2.2]]) (λt=>n-t.2) (⟨ez,0,0⟩,0) i0 ⟨i9,a⟩ ?_;rintro⟨o,i⟩ h3 ⟨Y,a⟩;dsimp only at*;refine ag (λe=>?_) (λe=>?_)
 ·have F:i<n:=i4
  have D:=c3 i (by rw[<-c,d];omega);refine⟨p,(a.box 1 i0).aE _ i0,(KA p h3 f).mono ?_⟩;rintro _ O ⟨rfl,G⟩;have N:=a.up G.af;refine⟨_,i0,N.LK aj aw gF i5 (0:UInt8) i0 i0 (gm p) (gm p) i0 i0 (qm _) i4 λv z R V g=>?_⟩;have g:=g.be;refine⟨p,(g.box 2 i0).aE _ i0,(KA p z f).mono ?_⟩;rintro _ P ⟨rfl,y⟩;have q:=g.up y.af;refine⟨_,i0,?_⟩;have em:qe xM ((i:Int)*(gm p:Int))=((i*gm p:Nat):Int):=by rw[<-wQ,ai _]
  try dsimp only
  rw[em,qk];refine⟨⟨i4,i4⟩,?_⟩;have M:=(Seq.up m q.af).drop (i*gm p) L;refine q.Ha aj 0 i0 gF (λ_=>rfl) (v:=⟨_,s.len-i*gm p,s.cap-i*gm p⟩) M gW λ_ u k=>?_;have k:Sp h u [ae 5 v 1 aw (BD (gm p) b i),dC o ((splitB p b).take i),ac j 36 [xG xM p.1,xG xM p.2.1,xG xM p.2.2]]:=by simpa[BD]using k
  refine(k.aL 2 [1,0]).Ey aj fw i7 λB h8 A=>?_;refine⟨(B,i+1),jj,⟨i6,?_⟩,i6⟩
  try dsimp only
  rw[aD _ _ (show i<ii (splitB p b) by omega)];have K:(splitB p b)[i]'(by omega)=BD (gm p) b i:=by simp[splitB]
  rw[K];exact A
 ·rw[qg i4]at a;exact⟨o,i0,a.bB [0]⟩
theorem mE(a b:UInt8):qe xN ((qK (qG xN) (a.toNat:Int)^^^qK (qG xN) (b.toNat:Int)).toNat:Nat)=((a^^^b).toNat:Int):=by
 have e:∀a:UInt8,qK (qG xN) (a.toNat:Int)=a.toBitVec:=λa=>by
  apply BitVec.eq_of_toNat_eq;have:=w6 a;simp[qG]
 rw[e,e];have c:=(a.toBitVec^^^b.toBitVec).isLt;have:((a^^^b).toNat:Int)=((a.toBitVec^^^b.toBitVec).toNat:Int):=rfl;rw[this];show(((a.toBitVec^^^b.toBitVec).toNat:Nat):Int)%256=_;have:(a.toBitVec^^^b.toBitVec).toNat<256:=c;omega
def tri(a:UInt8):Nat->Int×Int×Int
 |0=>((a.toNat:Int),(3:Int),(0:Int))
 |1=>(((Gf.x2 a).toNat:Int),(1:Int),(a.toNat:Int))
 |_=>(((Gf.x2 (Gf.x2 a)).toNat:Int),(0:Int),((Gf.x3 a).toNat:Int))
theorem Qb(a:UInt8)(h:f8):an xQ 295 #[xG xN a.toNat,xG xN 3] h λv h'=>v=xG xN (Gf.x3 a).toNat/\h'=h:=by
 have e:∀n:Nat,n<256->
   ((qe xN ((qK (qG xN) (n:Int)&&&(qK (qG xN) (128:Int))).toNat:Nat)) !=(0:Int))=eH->qe xN ((qK (qG xN) (qe xN ((n:Int)*2^min (1:Int).toNat (qG xN)))^^^(qK (qG xN) (27:Int))).toNat:Nat)=((Gf.x2 (yK n)).toNat:Int):=j5
 have c:∀n:Nat,n<256->
   ((qe xN ((qK (qG xN) (n:Int)&&&(qK (qG xN) (128:Int))).toNat:Nat)) !=(0:Int))=eL->qe xN ((n:Int)*2^min (1:Int).toNat (qG xN))=((Gf.x2 (yK n)).toNat:Int):=j5
 refine ts Tryz.func295 ?_ (.two .n (.scope 0 [(0,(.sc (.int .u8))),(1,(.sc (.int .u8))),(5,(.sc (.int .u8)))] [(0,2),(4,26)] [.n] [(.two .n (.two (.join [(5,(.sc (.int .u8)))] [(5,6),(10,16)] .n) (.two .n (.two .n (.two (.join [(0,(.sc (.int .u8)))] [(0,1),(21,24)] .n) .n)))))] []));refine aq (tri a) (λt h'=>h'=h/\t<=2) (λt=>2-t) 0 i0 ⟨i0,i4⟩ ?_;rintro t h' ⟨rfl,f⟩;rcases(show t=0∨t=1∨t=2 by omega)with rfl|rfl|rfl
 ·rw[show tri a 0=((a.toNat:Int),(3:Int),(0:Int))from rfl]
  try dsimp only
  refine sV i5 (aT (CB i5 ?_));refine⟨i5,aT ?_⟩;refine bf (λd=>?_) (λd=>?_)
  ·rw[e _ (w6 a) d,va];refine⟨i5,1,?_,⟨i0,i5⟩,i5⟩;have:=mE 0 a;simp only[wz]at this;exact vi i0 (vi i0 this)
  ·rw[c _ (w6 a) d,va];refine⟨i5,1,?_,⟨i0,i5⟩,i5⟩;have:=mE 0 a;simp only[wz]at this;exact vi i0 (vi i0 this)
 ·rw[show tri a 1=(((Gf.x2 a).toNat:Int),(1:Int),(a.toNat:Int))from rfl]
  try dsimp only
  refine sV i5 (aT (CB i5 ?_));refine⟨i5,aT ?_⟩;refine bf (λd=>?_) (λd=>?_)
  ·rw[e _ (w6 (Gf.x2 a)) d,va];refine⟨i5,2,?_,⟨i0,i5⟩,i5⟩;refine vi i0 (vi i0 ?_);have:=mE a (Gf.x2 a);rw[vz]at this;exact this
  ·rw[c _ (w6 (Gf.x2 a)) d,va];refine⟨i5,2,?_,⟨i0,i5⟩,i5⟩;refine vi i0 (vi i0 ?_);have:=mE a (Gf.x2 a);rw[vz]at this;exact this
 ·exact CB (b:=(0:Int)==0) i5 ⟨i0,i0⟩
def ji:aB:=(qz 255).map λi=>((Gf.pw i).toNat:Int)
def pE:aB:=(qz 256).map λx=>if x=0 then 0 else((Gf.lg (yK x):Nat):Int)
theorem ic:ii ji=255:=by simp[ji]
theorem tJ:ii pE=256:=by simp[pE]
def cR:aR:=ji.map (Sc.enc (.int .u8))++pE.map (Sc.enc (.int .i64))
abbrev fy(h:f8)(a:eX):Prop:=bW h a 308 cR
theorem Jz(k:IntKind)(l:aB):(l.map (Sc.enc (.int k))).all (·.oneCell')=eH:=by rw[List.all_map,qY];intro x _;rfl
theorem Qc(h:f8):an xQ 228 #[] h λv h'=>v=xL (ji.map (Sc.enc (.int .u8))).toArray/\Sp h h' []:=by
 refine ts Tryz.func228 ?_ (.two .n (.two .n (.two (.two .n (.inn (.loop [(1,(.sc (.int .u8))),(3,aS)] [(1,12)] .n))) .n)));refine(Sp.refl h).alloc aj i0 λa t q=>?_;refine aq (λi:Nat=>(((Gf.pw i).toNat:Int),(i:Int))) (λi h'=>i<=255/\Sp h h' [ac a 303 (((qz 255).map λj=>if j<i then((Gf.pw j).toNat:Int)else 0).map (Sc.enc (.int .u8)))]) (λi=>255-i) 0 i0 ⟨i4,?_⟩ ?_
 ·have e:((qz 255).map λj=>if j<0 then((Gf.pw j).toNat:Int)else 0).map (Sc.enc (.int .u8))=qi 255 (xG xN 0):=by simp;rfl
  rw[e];exact q
 ·rintro i s ⟨u,f⟩;refine ag (λm=>?_) (λk=>?_)
  ·dsimp only at m;refine⟨⟨i6,i6⟩,?_⟩
   try dsimp only
   rw[show((i:Int).toNat*1)=i by omega];refine f.storeAt aj 0 i0 i0 i0 i0 i0 i7 λh3 g=>?_;refine(Qb (Gf.pw i) h3).mono ?_;rintro v r ⟨rfl,rfl⟩;refine⟨_,i0,i+1,?_,⟨i4,?_⟩,i4⟩
   ·rw[ai _];rfl
   ·have e:((((qz 255).map λj=>if j<i then((Gf.pw j).toNat:Int)else 0).map (Sc.enc (.int .u8))).set i (xG xN (Gf.pw i).toNat))=(((qz 255).map λj=>if j<i+1 then((Gf.pw j).toNat:Int)else 0).map (Sc.enc (.int .u8))):=by
     apply zt;intro j;simp only[qU,qL,qu,zC];by_cases c:i=j
     ·subst c;have:i<255:=i4
      simp[this]
     ·by_cases b:j<255
      ·simp only[c,if_false,zm b,qQ];by_cases d:j<i
       ·rw[f9 d,f9 i4]
       ·rw[g0 d,g0 i4]
      ·simp[c,b]
    rw[<-e];exact g
  ·have o:i=255:=by dsimp only at k;omega
   subst o;have e:((qz 255).map λj=>if j<255 then((Gf.pw j).toNat:Int)else 0)=ji:=by unfold ji;apply vE;intro j c;rw[f9 (qC.1 c)]
   rw[e]at f;have p:=f.box 0 i0;refine⟨ji,⟨ic,p.aE _ n4⟩,?_⟩;refine f.storeAll aj 0 i0 i0 (ji.map (Sc.enc (.int .u8))) i0 (by rw[qu,ic]) (Jz _ _) i0 λh3 g=>?_;have l:=g.box 0 i0;exact⟨ji,⟨ic,l.aE _ n4⟩,i0,.zip g.af⟩
theorem WC(h:f8):an xQ 229 #[xL (ji.map (Sc.enc (.int .u8))).toArray] h λv h'=>v=xL (pE.map (Sc.enc (.int .i64))).toArray/\Sp h h' []:=by
 refine ts Tryz.func229 ?_ (.two .n (.two (.two .n (.inn (.loop [(6,aS)] [(3,5),(6,14)] .n))) .n)) (args:=[(xL (ji.map (Sc.enc (.int .u8))).toArray)]);refine(Sp.refl h).boxed λa E z=>?_;refine z.alloc aj i0 λw B r=>?_;have l:=r.box 0 i0;refine⟨ji,⟨ic,l.aE _ (by show List.take _ (ji.map _)=_;rw[qg (qm _)])⟩,?_⟩;let L:Nat->aB:=λi=>(qz 256).map λx=>if x≠0/\Gf.lg (yK x)<i then((Gf.lg (yK x):Nat):Int)else 0
 refine aq (λi:Nat=>(i:Int)) (λi h'=>i<=255/\Sp h h' [emp,ac w 305 ((L i).map (Sc.enc (.int .i64)))]) (λi=>255-i) 0 i0 ⟨i4,?_⟩ ?_
 ·have e:(L 0).map (Sc.enc (.int .i64))=qi 256 (xG xM 0):=by simp[L];rfl
  rw[e];exact r.dX 0 i0 λ_ _=>trivial
 ·rintro i h3 ⟨F,g⟩;refine ag (λy=>?_) (λt=>?_)
  ·have c:i<255:=i4
   have q:=w6 (Gf.pw i);refine⟨((Gf.pw i).toNat:Int),⟨i4,i4,by simp[ji,c]⟩,⟨i4,i4⟩,?_⟩;rw[show(((Gf.pw i).toNat:Int).toNat*1)=(Gf.pw i).toNat by omega];refine g.storeAt aj 1 i0 i0 i0 i0 i0 (by simp[L];omega) λu k=>?_;refine⟨i+1,j0,⟨i4,?_⟩,i4⟩;have e:((L i).map (Sc.enc (.int .i64))).set (Gf.pw i).toNat (xG xM i)=(L (i+1)).map (Sc.enc (.int .i64)):=by
    apply zt;intro j;simp only[qU,qL,qu,zC,L];by_cases f:(Gf.pw i).toNat=j
    ·subst f;simp only[if_true,zm q,qQ,q];have p:(Gf.pw i).toNat≠0:=λh0=>Gf.Tb i c (wy.1 h0);rw[va,Gf.Ta i c,f9 ⟨p,i4⟩]
    ·by_cases d:j<256
     ·simp only[f,if_false,zm d,qQ];by_cases b:j=0
      ·simp[b]
      ·have D:Gf.lg (yK j)≠i:=λh0=>by
        apply f;rw[<-h0,Gf.SZ _ λA=>b (by have:=congrArg UInt8.toNat A;simpa[wk d]using this)];simp[wk d]
       by_cases o:Gf.lg (yK j)<i
       ·rw[f9 ⟨b,o⟩,f9 ⟨b,i4⟩]
       ·rw[g0 λs=>o s.2,g0 λs=>o i4]
     ·simp[f,d]
   rw[<-e];exact k
  ·have c:i=255:=i4
   subst c;have e:L 255=pE:=by
    unfold pE;apply vE;intro j f;by_cases b:j=0
    ·simp[b]
    ·rw[f9 ⟨b,Gf.He _⟩,g0 b]
   rw[e]at g;have l:=g.box 1 i0;refine⟨pE,⟨tJ,l.aE _ n4⟩,?_⟩;refine g.storeAll aj 1 i0 i0 (pE.map (Sc.enc (.int .i64))) i0 (by rw[qu,tJ]) (Jz _ _) i0 λu k=>?_;have m:=k.box 1 i0;exact⟨pE,⟨tJ,m.aE _ n4⟩,i0,.zip k.af⟩
theorem oU(h:f8):an xQ 163 #[] h λv h'=>∃a:eX,v=xI (dB a)/\Sp h h' [ac a 308 cR]:=by
 refine ts Tryz.func163 ?_;refine(Qc h).mono ?_;rintro v u ⟨rfl,o⟩;refine⟨ji,i0,?_⟩;refine o.alloc aj i0 λa s m=>?_;refine m.storeAll aj 0 i0 i0 (ji.map (Sc.enc (.int .u8))) i0 (by rw[qu,ic]) (Jz _ _) (by rw[qu,ic];rfl) λh3 k=>?_;have f:=k.box 0 i0;have c:bp h3 a 0 (ji.map (Sc.enc (.int .u8))):=f.aE _ n4;refine⟨ji,⟨ic,c⟩,ji,⟨ic,c⟩,?_⟩;refine(WC h3).mono ?_;rintro v r ⟨rfl,l⟩;refine⟨pE,i0,nj.2 ⟨(l.af).cells f.lt c,trivial⟩,_,CE aj (i:=_) i0 i0 i0 (cells:=cR.toArray) ?_,?_⟩
 ·have b:∀z:aR,ii z=511->wC (λn=>[(0,255),(255,256)][n]?) z.toArray [(0,xL (ji.map (Sc.enc (.int .u8))).toArray),(1,xL (pE.map (Sc.enc (.int .i64))).toArray)]=dB cR.toArray:=by
   intro z b;have e:z=[]++z.take 255++z.drop 255:=i9
   conv=>lhs;rw[e]
   rw[Mx (vs:=ji.map (Sc.enc (.int .u8))) i0 (by simp[ic]) (by simp[ic,b])];have e2:[]++ji.map (Sc.enc (.int .u8))++z.drop 255=ji.map (Sc.enc (.int .u8))++z.drop 255++[]:=i9
   rw[e2,Mx (vs:=pE.map (Sc.enc (.int .i64))) i0 (by simp[ic,tJ]) (by simp[tJ,b])];simp[wC,cR]
  exact b _ i0
 ·have p:(Value.agg cR.toArray).cells.toList=cR:=rfl;refine(k.comp l).boxed λq t g=>?_;have d:=g.box 0 i0;exact⟨nj.2 ⟨d.aE _ n4,trivial⟩,q,i0,g.take 1 λi A j=>by cases i with|zero=>exact j|succ i=>simp at j⟩
theorem DC{h:f8}{a:eX}(c:fy h a)(n:Nat)(b:n<255):f7 h (a.add n)=dB (xG xN (Gf.pw n).toNat):=
 c.cell (by rw[cR,ql (by simp[ic,b])];simp[ji,b])
theorem DD{h:f8}{a:eX}(c:fy h a)(x:UInt8)(d:x≠0):f7 h ((a.add 255).add x.toNat)=dB (xG xM (Gf.lg x)):=by
 have f:=c.addr;have e:(a.add 255).add x.toNat=a.add (255+x.toNat):=by rw[f,add_eq,add_eq,add_eq];congr 1;omega
 rw[e];refine c.cell ?_;have b:=w6 x;have h0:x.toNat≠0:=λh0=>d (wy.1 h0);rw[cR,qh (by simp[ic])];simp[ic,pE,b,h0]
theorem pF(a:eX)(h:f8):an xQ 319 #[xI (dB a)] h λv h'=>v=xI (dB a)/\h'=h:=by refine ts Tryz.func319 ?_;exact sV i0 ⟨i0,i0⟩
theorem rJ(a:eX)(h:f8):an xQ 226 #[xI (dB a)] h λv h'=>v=xI (dB a)/\h'=h:=by refine ts Tryz.func226 ?_;exact sV i0 ⟨i0,i0⟩
theorem Lo(a:eX)(h:f8):an xQ 329 #[xI (dB a)] h λv h'=>v=xI (dB a)/\h'=h:=by refine ts Tryz.func329 ?_;exact sV i0 ⟨i0,i0⟩
theorem xX{x:UInt8}:((x.toNat:Int)=0)↔x=0:=⟨λh=>wy.1 j7,λh=>by rw[h];rfl⟩
theorem Gk(a:eX)(x y:UInt8)(h:f8)(f:fy h a):an xQ 268 #[xI (dB a),xG xN x.toNat,xG xN y.toNat] h λv h'=>v=xG xN (Gf.mul x y).toNat/\h'=h:=by
 refine ts Tryz.func268 ?_ (.two .n (.two (.join [] [(6,7),(8,14)] .n) .n));refine aT ?_;refine cv (λh0=>⟨by rw[Gf.mul,f9 (.inl (xX.1 h0))];rfl,i0⟩) λg=>?_;refine cv (λh0=>⟨by rw[Gf.mul,f9 (.inr (xX.1 h0))];rfl,i0⟩) λi=>?_;have b:x≠0:=λh0=>g (xX.2 h0);have c:y≠0:=λh0=>i (xX.2 h0);refine(pF a h).mono ?_;rintro v j ⟨rfl,rfl⟩;have l:=w6 x;have k:=w6 y;have l1:=Gf.He x;have l2:=Gf.He y;refine⟨dB a,i0,a,i0,⟨i4,i4⟩,(Gf.lg x:Int),?_,a,i0,⟨i4,i4⟩,(Gf.lg y:Int),?_,i5,a,i0,?_⟩
 ·rw[show((x.toNat:Int).toNat*1)=x.toNat by omega];exact DD f x b
 ·rw[show((y.toNat:Int).toNat*1)=y.toNat by omega];exact DD f y c
 rw[ai _];have e:xz ((Gf.lg x:Int)+(Gf.lg y:Int)) 255=(((Gf.lg x+Gf.lg y)%255:Nat):Int):=by rw[yQ i4];rfl
 rw[e];have d:=vw (Gf.lg x+Gf.lg y) (show 255>0 by decide);refine⟨⟨i4,i4⟩,_,?_,by rw[Gf.mul,g0 (by simp[b,c])],i0⟩;rw[show((((Gf.lg x+Gf.lg y)%255:Nat):Int).toNat*1)=(Gf.lg x+Gf.lg y)%255 by omega];exact DC f _ d
theorem ZI(a:eX)(x:UInt8)(h:f8)(d:fy h a):an xQ 291 #[xI (dB a),xG xN x.toNat] h λv h'=>v=xG xN (Gf.inv x).toNat/\h'=h:=by
 refine ts Tryz.func291 ?_;refine cv (λh0=>⟨by rw[Gf.inv,f9 (xX.1 h0)];rfl,i0⟩) λf=>?_;have b:x≠0:=λh0=>f (xX.2 h0);refine(pF a h).mono ?_;rintro v g ⟨rfl,rfl⟩;have i:=w6 x;have l1:=Gf.He x;refine⟨dB a,i0,a,i0,⟨i4,i4⟩,(Gf.lg x:Int),?_,i5,a,i0,?_⟩
 ·rw[show((x.toNat:Int).toNat*1)=x.toNat by omega];exact DD d x b
 rw[ai _];have e:xz (255-(Gf.lg x:Int)) 255=(((255-Gf.lg x)%255:Nat):Int):=by rw[yQ i4];omega
 rw[e];have c:=vw (255-Gf.lg x) (show 255>0 by decide);refine⟨⟨i4,i4⟩,_,?_,by rw[Gf.inv,g0 b],i0⟩;rw[show((((255-Gf.lg x)%255:Nat):Int).toNat*1)=(255-Gf.lg x)%255 by omega];exact DC d _ c
theorem ZJ(a:eX)(n:Int)(h:f8)(i:fy h a):an xQ 274 #[xI (dB a),xG xM n] h λv h'=>v=xG xN (Gf.pw (n%255).toNat).toNat/\h'=h:=by
 refine ts Tryz.func274 ?_ (.two .n (.two .n (.two (.join [(1,aS)] [(1,2),(7,11)] .n) .n)));have j:=vL n (show(0:Int)<255 by decide);have g:-255<n.tmod 255:=Int.lt_tmod_of_pos n i5;have b:=Mw n 255 i5;have d:=Int.emod_nonneg n (show(255:Int)≠0 by decide);have f:=Int.emod_lt_of_pos n (show(0:Int)<255 by decide);refine⟨i5,bG (λs h'=>s=n%255/\h'=h) ?_ ?_⟩
 ·refine ag (λe=>?_) (λc=>?_)
  ·rw[f9 e]at b;exact⟨by rw[ai _,b],i0⟩
  ·rw[g0 c]at b;exact⟨b.symm,i0⟩
 ·rintro s h' ⟨rfl,rfl⟩;refine(pF a h').mono ?_;rintro v g ⟨rfl,rfl⟩;refine⟨dB a,i0,a,i0,⟨d,f⟩,_,?_,i0,i0⟩;rw[wb];exact DC i _ i4
theorem jV(p:Pm)(h:f8):an xQ 193 #[jQ p] h λv h'=>v=xG xM (bX p)/\Sp h h' []:=by refine ts Tryz.func193 ?_ (args:=[p]);refine(Sp.refl h).boxed λa f d=>?_;refine⟨p,(d.box 0 i0).aE _ i0,?_⟩;refine(eF p f).mono ?_;rintro v i ⟨rfl,g⟩;have b:=d.comp g;have c:=b.box 0 i0;refine⟨_,i0,aQ (λe=>⟨by simp[bX,e],.zip b.af⟩) λe=>?_⟩;refine⟨_,c.cell0 i0,_,c.cell i0,?_,.zip b.af⟩;have:=(cg p).1 e;rw[ai _,bX,f9 e]
theorem WD(n i:Int)(h:f8):an xQ 273 #[xG xM n,xG xM i] h λv h'=>∃s:Sl,v=s/\
  Sp h h' [ae 5 s 1 aw (if 1<=n/\n<=64/\0<=i/\i<n then(qi n.toNat (0:UInt8)).set i.toNat 1 else[])]:=by
 refine ts Tryz.func273 ?_ (.two .n (.two (.join [] [(4,5),(6,21)] .n) .n));have a:∀c:Prop,¬c->[Decidable c]->Sp h h [ae 5 ⟨ez,0,0⟩ 1 aw (if c then(qi n.toNat (0:UInt8)).set i.toNat 1 else[])]:=λc b _=>by
  rw[g0 b];exact(Sp.refl h).nil 5 1 aw
 refine aT ?_;refine ag (λe=>⟨⟨ez,0,0⟩,i0,a _ i4⟩) λo=>?_;refine ag (λe=>⟨⟨ez,0,0⟩,i0,a _ i4⟩) λe2=>?_;refine ag (λe=>⟨⟨ez,0,0⟩,i0,a _ i4⟩) λm=>?_;refine ag (λe=>⟨⟨ez,0,0⟩,i0,a _ i4⟩) λg=>?_;refine(Sp.refl h).make aj aw ⟨_,_,i0,i0,i0,i0,i0,i0⟩ i5 0 i0 i0 n.toNat n.toNat i4 i4 (qm _) i4 λs l k b f=>?_;refine f.set aj 0 i0 (λ_=>rfl) i0 i.toNat i4 i7 1 i0 i0 i0 λj d=>?_;refine⟨s,i0,?_⟩;rw[f9 i4];exact d
theorem Lp(s:Int)(h:f8):an xQ 201 #[xG xO s] h λv h'=>∃a:eX,v=xI (dB a)/\Sp h h' [ac a 351 [xG xP (qe xP s)]]:=by refine ts Tryz.func201 ?_;exact(Sp.refl h).boxed λa c b=>⟨a,i0,b⟩
theorem Ay(a:eX)(s:Int)(h:f8)(d:bW h a 351 [xG xP s]):an xQ 202 #[xI (dB a)] h λv h'=>v=xG xO (told s)/\bW h' a 351 [xG xP (BX s)]/\aN (·≠a.block) h h':=by refine ts Tryz.func202 ?_;refine sV i0 ⟨a,i0,s,d.cell0 i0,a,i0,?_⟩;refine AU aj d i0 _ i0 i0 i0 (qm _) λe b c _=>?_;exact⟨a,i0,_,b.cell0 i0,i5,i0,b,c⟩
theorem HM(a:eX)(s n:Int)(h:f8)(d:bW h a 351 [xG xP s])(g:0<n:=by omega)(f:n<=2^62:=by omega):an xQ 270 #[xI (dB a),xG xM n] h λv h'=>v=xG xM (lL s n)/\bW h' a 351 [xG xP (BX s)]/\aN (·≠a.block) h h':=by refine ts Tryz.func270 ?_ (.two .n (.two (.join [] [(4,11)] .n) .n));refine aT (sV i0 (ag (λe=>i4) λ_=>?_));refine(Ay a s h d).mono ?_;rintro v i ⟨rfl,c,b⟩;exact⟨_,i0,p5,i0,c,b⟩
theorem RU(a b:Nat)(c:a<=2^40)(d:b<=2^40):qe xM ((a:Int)+(b:Int))=((a+b:Nat):Int):=by rw[ai _];rfl
theorem WE(l:Nat)(h:f8)(f:l<=20):an xQ 320 #[xG xM l] h λv h'=>v=xG xM (ft l)/\h'=h:=by
 have o:∀l:Nat,l<=20->∀r:Nat,r<=5->(∀j,j<r->j*j<l)->r*r<l->r<5:=i5
 have m:∀l:Nat,l<=20->∀r:Nat,r<=5->(∀j,j<r->j*j<l)->¬r*r<l->r=ft l:=i5
 refine ts Tryz.func320 ?_ (.two .n (.two .n (.two (.inn (.loop [(3,aS)] [(3,11)] .n)) .n)));refine aq (λr:Nat=>(r:Int)) (λr h'=>h'=h/\r<=5/\∀j,j<r->j*j<l) (λr=>5-r) 0 i0 ⟨i0,i4,λj c=>i4⟩ ?_;rintro r h' ⟨rfl,d,c⟩;have i:r*r<=25:=Nat.mul_le_mul d d;have e:qe xM ((r:Int)*(r:Int))=((r*r:Nat):Int):=by rw[<-wQ];exact rY _
 rw[e];refine ag (λk=>?_) (λg=>?_)
 ·have a:r*r<l:=i4
  have p:=o l f r d c a;refine⟨r+1,j0,⟨i0,i4,λj b=>?_⟩,i4⟩;rcases Nat.lt_succ_iff_lt_or_eq.1 b with b|rfl
  ·exact c j b
  ·exact a
 ·exact⟨by rw[m l f r d c i4],i0⟩
theorem WF(r:Nat)(h:f8)(b:r<=5):an xQ 130 #[xG xP r] h λv h'=>v=xG xM (EB r)/\h'=h:=by
 intro w a;refine(Tryz.bits_Len (r:Int) w i4 i4).mono ?_;rintro e w' ⟨rfl,rfl⟩;have k:∀r:Nat,r<=5->Lib.bitLen r=EB r:=j5
 exact⟨_,i0,de.refl _,by rw[qk,k r b],a⟩
theorem Qd(l k:Nat)(h:f8)(b:l<=20)(a:1<=l)(g:k<=20)(d:1<=k):an xQ 271 #[xG xM l,xG xM k] h λv h'=>v=xG xM (po l k)/\h'=h:=by
 have o:∀k:Nat,k<=20->1<k->qe xM ((k:Int)*qe xM ((k:Int)-1))=((k*(k-1):Nat):Int)/\k*(k-1)≠0:=i5
 have p:∀l:Nat,l<=20->1<=l->1<=ft l/\ft l<=5:=i5
 have c3:∀l:Nat,l<=20->1<=l->qe xM (vJ (l:Int) (ft l))=((l/ft l:Nat):Int):=i5
 have w:∀l:Nat,l<=20->1<=l->∀k:Nat,k<=20->1<=k->qe xM ((l:Int)*k)≠0:=j5
 have r:∀k:Nat,k<=20->1<k->qe xM (vJ (1048576:Int) (qe xM ((k:Int)*qe xM ((k:Int)-1))))=((1048576/(k*(k-1)):Nat):Int):=j5
 have y:∀l:Nat,l<=20->1<=l->qe xM (vJ (1048576:Int) (l:Int))=((1048576/l:Nat):Int):=j5
 have q:∀l:Nat,l<=20->1<=l->∀k:Nat,k<=20->1<=k->qe xM (vJ (qe xM ((1048576:Int)*ft l)) (qe xM ((l:Int)*k)))=((1048576*ft l/(l*k):Nat):Int):=j5
 have m:∀l:Nat,l<=20->1<=l->qe xM (vJ (qe xM ((qe xM ((1048576:Int)*ft l))*EB (ft l))) (l:Int))=((1048576*ft l*EB (ft l)/l:Nat):Int):=j5
 have t:∀l:Nat,l<=20->∀k:Nat,k<=20->1048576*ft l/(l*k)<=2^30/\1048576*ft l*EB (ft l)/l<=2^30/\1048576/(k*(k-1))<=2^30/\1048576/l<=2^30:=j5
 refine ts Tryz.func271 ?_ (.two .n (.two .n (.two .n (.two (.join [(6,aS)] [(6,7),(12,19)] .n) (.two (.join [(6,aS)] [(6,8),(19,48)] .n) .n)))));have i:=t l b k g;refine(WE l h b).mono ?_;rintro v u ⟨rfl,rfl⟩;have z:=p l b a;refine⟨_,i0,i4,bG (λs h'=>s=(((if k>1 then 1048576/(k*(k-1))else 1048576/l):Nat):Int)/\h'=u) ?_ ?_⟩
 ·refine ag (λe=>?_) (λe=>?_)
  ·have:=o k g i4;refine⟨by rw[this.1];omega,by rw[r k g i4,f9 i4],i0⟩
  ·refine⟨by rw[y l b a,g0 i4],i0⟩
 ·rintro s j ⟨rfl,rfl⟩;have A:(if k>1 then 1048576/(k*(k-1))else 1048576/l)<=2^30:=by split<;>first|exact i.2.2.1|exact i.2.2.2
  refine aT ?_;try dsimp only
  refine⟨show((ft l:Nat):Int)≠0 by omega,?_⟩;rw[c3 l b a];refine ag (λe=>⟨w l b a k g d,?_,i0⟩) (λe=>?_)
  ·rw[q l b a k g d,RU _ _ i4 (q9 i.1 i5),po,f9 (c:=k<l/ft l) (vX.1 e)]
  ·refine cv (λe2=>?_) (λe2=>?_)
   ·have x:qe xP (ft l:Int)=(ft l:Int):=p5
    rw[x];refine(WF (ft l) j z.2).mono ?_;rintro v h3 ⟨rfl,rfl⟩;refine⟨_,i0,i4,?_,i0⟩;rw[m l b a,RU _ _ i4 (q9 i.2.1 i5),po,g0 (c:=k<l/ft l) λf=>e (vX.2 f),f9 (c:=k=l/ft l) (vI.1 e2)]
   ·exact⟨by rw[po,g0 (c:=k<l/ft l) λf=>e (vX.2 f),g0 (c:=k=l/ft l) λf=>e2 (vI.2 f),Nat.add_zero],i0⟩
theorem TH(l:Nat)(h:f8)(c:l<=20)(a:1<=l):an xQ 204 #[xG xM l] h λv h'=>∃s:Sl,v=s/\Sp h h' [ae 3 s 1 ak (jB l)]:=by
 refine ts Tryz.func204 ?_ (.two .n (.two (.join [] [(2,3),(6,12)] .n) (.two .n (.two .n (.two (.two .n (.inn (.loop [(3,cK),(4,aS),(5,aS)] [(3,6),(14,28)] .n))) .n)))));refine aT (ag (λe=>i4) λ_=>ag (λe=>i4) λ_=>?_);refine(Sp.refl h).make aj ak fR i5 0 i0 i0 0 l i0 i0 i4 i4 λs r d u g=>?_;refine aq (λt:Sl×Nat=>(t.1,((ms l t.2:Nat):Int),((t.2+1:Nat):Int))) (λt h'=>t.2<=l/\Sp h h' [ae 3 t.1 1 ak ((jB l).take t.2)]) (λt=>l-t.2) (s,0) i0 ⟨i9,l9⟩ ?_;rintro⟨s,k⟩ f ⟨w,b⟩;dsimp only at*;refine ag (λe=>?_) (λe=>?_)
 ·refine(Qd l (k+1) f c a i4 i4).mono ?_;rintro v h3 ⟨rfl,rfl⟩;refine⟨_,i0,?_⟩;have q:=EC l c k i4;have p:=Hg l c (k+1) i4;have e2:qe xM ((ms l k:Int)+(po l (k+1):Int))=((ms l (k+1):Nat):Int):=by rw[ai _,ms];rfl
  try dsimp only
  rw[e2];refine b.push aj 0 i0 fR i0 i5 (λ_=>rfl) eC _ i0 i5 o6 λi o m=>?_;refine⟨(i,k+1),jj,⟨i6,?_⟩,i6⟩;have j:(jB l).take (k+1)=(jB l).take k++[((ms l (k+1):Nat):Int)]:=by rw[aD _ _ tg];simp[jB]
  dsimp only;rw[j];exact m
 ·refine⟨s,i0,?_⟩;rw[qg tg]at b;exact b
theorem Qe{p:av}(t:Sl)(lt:aB)(x b:Int)(h:f8)(c:Seq h p t 1 ak lt)(r:0<=x)(a:lt.getLast?=dB b)(j:x<b)(u:ii lt<=2^40):
  an xQ 269 #[t,xG xM x] h λv h'=>v=xG xM (Tc lt x)/\h'=h:=by
 refine ts Tryz.func269 ?_ (.two .n (.two (.join [] [(4,5),(7,24)] .n) (.two (.two .n (.inn (.loop [(26,aS)] [(4,7),(26,37)] .n))) .n)));have s:=c.len;have f:lt≠[]:=λe=>by rw[e]at a;cases a
 have m:0<ii lt:=List.length_pos_iff.2 f;have g:lt[ii lt-1]=b:=by rw[List.getLast?_eq_getElem?,qc i4]at a;simpa using a
 refine aT (cv (λe=>i4) λ_=>ag (λe=>i4) λ_=>?_);rw[ai _];refine c.bt (ii lt-1) i4 i4 _ i0 ?_;rw[g];refine ag (λe=>i4) λ_=>?_;have l:(lt.findIdx λy=>decide (y>x))<ii lt:=List.findIdx_lt_length_of_exists ⟨b,List.mem_of_getLast? a,by simpa using j⟩;refine aq (λk:Nat=>(k:Int)) (λk h'=>h'=h/\k<=(lt.findIdx λy=>decide (y>x))) (λk=>ii lt-k) 0 i0 ⟨i0,i4⟩ ?_;rintro k h' ⟨rfl,o⟩;refine ag (λe=>?_) (λe=>i4);have i:k<ii lt:=i4
 refine c.bt k i0 i _ i0 ?_;rw[ai _];refine ag (λe2=>?_) (λe2=>?_)
 ·have:(lt.findIdx λy=>decide (y>x))=k:=Nat.le_antisymm (Nat.le_of_not_lt λd=>by have:=List.not_of_lt_findIdx d;simp at this;omega) o;exact⟨by rw[Tc,this];rfl,i0⟩
 ·refine⟨k+1,i0,⟨i0,?_⟩,i4⟩;refine Nat.lt_of_le_of_ne o λq=>?_;have:=List.findIdx_getElem (xs:=lt) (p:=λy=>decide (y>x)) (w:=l);simp only[<-q]at this;simp at this;omega
theorem EX(t:Sl)(n:Nat)(a:eX)(s:Int)(h:f8)(f:Seq h (·≠a.block) t 1 ak (jB n))(j:bW h a 351 [xG xP s])(c:1<=n)(g:n<=20):
  an xQ 203 #[t,xI (dB a)] h λv h'=>v=xG xM (ED s n)/\bW h' a 351 [xG xP (BX s)]/\aN (·≠a.block) h h':=by
 refine ts Tryz.func203 ?_;have k:=f.len;rw[lu]at k;refine cv (λe=>i4) λ_=>?_;rw[ai _];refine f.bt (n-1) i4 tg _ i0 ?_;have o:(jB n)[n-1]'(by rw[lu];omega)=((ms n n:Nat):Int):=by simp only[jB,List.getElem_map,List.getElem_range];rw[show n-1+1=n by omega]
 rw[o];have p:=MH n g c;have l:=EC n g n g;refine(HM a s _ h j).mono ?_;rintro v m ⟨rfl,i,d⟩;have b:=td s (ms n n);refine⟨_,i0,(Qe t (jB n) _ _ m (f.af d) b.1 (Hj n c) b.2 tg).mono ?_⟩;rintro v q ⟨rfl,rfl⟩;exact⟨_,i0,i0,i,d⟩
theorem WG(a:eX)(s:Int)(n k:Nat)(h:f8)(F:bW h a 351 [xG xP s])(R:n<=64)(U:k<=n):
  an xQ 205 #[xI (dB a),xG xM n,xG xM k] h λv h'=>∃r:Sl,v=r/\aa (λb=>b<h.size/\¬b=a.block) h h' [ac a 351 [xG xP (gB n s (upto n) k).1],ae 3 r 1 ak (Ez s n k)]:=by
 refine ts Tryz.func205 ?_ (.two .n (.two (.join [] [(6,7),(12,27)] .n) (.two .n (.two (.two .n (.inn (.loop [(31,aS)] [(8,9),(31,39)] .n))) (.two (.two .n (.inn (.loop [(40,aS)] [(9,11),(40,65)] .n))) .n)))));refine aT (ag (λe=>i4) λ_=>ag (λe=>i4) λ_=>ag (λe=>i4) λ_=>ag (λe=>i4) λ_=>?_);have L:aa (λb=>b<h.size/\¬b=a.block) h h [ac a 351 [xG xP s]]:=.Vp (λb=>b=a.block) (λb B=>by rw[B];exact F.lt) ⟨F,i0⟩;refine L.make aj ak fR i5 0 i0 i0 n n i0 i0 (qm _) i4 λv S Q V I=>?_;refine aq (λi:Nat=>(i:Int)) (λi h'=>i<=n/\aa (λb=>b<h.size/\¬b=a.block) h h' [ac a 351 [xG xP s],ae 3 v 1 ak ((upto n).take i++qi (n-i) 0)]) (λi=>n-i) 0 i0 ⟨i4,by simpa using I⟩ ?_;rintro i O ⟨T,t⟩;refine ag (λe=>?_) (λe=>?_)
 ·have l:i<n:=i4
  refine t.set aj 1 i0 (λ_=>rfl) i0 i i0 (by simp[gX];omega) (i:Int) i0 i0 i0 λh3 f=>?_;refine⟨i+1,j0,⟨i4,?_⟩,i4⟩;have e2:((upto n).take i++qi (n-i) 0).set i (i:Int)=(upto n).take (i+1)++qi (n-(i+1)) 0:=by
   have q:ii ((upto n).take i)=i:=by rw[qO,gX];omega
   rw[aD _ _ tp,qS _ _ i4,q,qW,show n-i=n-(i+1)+1 by omega,yi,zr];simp[upto]
  rw[<-e2];exact f
 ·have l:i=n:=i4
  subst l;have e2:(upto i).take i++qi (i-i) 0=upto i:=by rw[qg tp];simp
  rw[e2]at t;refine aq (λj:Nat=>(j:Int)) (λj h'=>j<=k/\aa (λb=>b<h.size/\¬b=a.block) h h' [ac a 351 [xG xP (gB i s (upto i) j).1],ae 3 v 1 ak (gB i s (upto i) j).2]) (λj=>k-j) 0 i0 ⟨i4,t⟩ ?_;rintro j h3 ⟨P,f⟩;have x:=te i s (upto i) j;rw[gX]at x;refine ag (λK=>?_) (λK=>?_)
  ·rw[ai _];have c:((i:Int)-(j:Int))=((i-j:Nat):Int):=i4
   rw[c];refine(HM a _ _ h3 (f.box 0 i0)).mono ?_;rintro w E ⟨rfl,u,p⟩;have m:=f.sH 0 i0 p u;have G:=td (gB i s (upto i) j).1 ((i-j:Nat):Int);refine⟨_,i0,?_⟩
   try dsimp only
   rw[ai _,ai _];have H:(j:Int)+lL (gB i s (upto i) j).1 ((i-j:Nat):Int)=((j+(lL (gB i s (upto i) j).1 ((i-j:Nat):Int)).toNat:Nat):Int):=i4
   have d:j+(lL (gB i s (upto i) j).1 ((i-j:Nat):Int)).toNat<(gB i s (upto i) j).2.length:=i4
   rw[H];have g:=m.seq 1 i0 λ_=>rfl;refine g.bt _ i0 d _ i0 ?_;refine g.bt j i0 i4 _ i0 ?_;refine m.set aj 1 i0 (λ_=>rfl) i0 j i0 i4 _ i0 i0 i0 λJ A=>⟨trivial,?_⟩
   refine A.set aj 1 i0 (λ_=>rfl) i0 _ i0 p0 _ i0 i0 i0 λN M=>⟨trivial,?_⟩
   refine⟨j+1,i0,⟨i4,?_⟩,i4⟩;rw[gB,pP,kS,kS,Qw.getD_lt d,Qw.getD_lt (show j<(gB i s (upto i) j).2.length by omega)];exact M
  ·have z:j=k:=i4
   subst z;refine⟨⟨i4,i4⟩,?_⟩;have D:=f.seq 1 i0 λ_=>rfl;refine(jy ⟨v.ptr,j,v.cap⟩ ((gB i s (upto i) j).2.take j) h3 (D.take j i4) o6).mono ?_;rintro w E ⟨r,rfl,m⟩;refine⟨r,i0,?_⟩;refine(Ds r _ E (m.own 0 i0) o6).mono ?_;rintro w J ⟨rfl,y,o⟩;have A:=(f.comp m).mN 2 i0 o y;exact⟨(),i0,r,i0,A.del 1⟩
theorem uP(p:Pm)(seed id:Int)(h:f8):an xQ 140 #[jQ p,xG xO seed,xG xM id] h λv h'=>∃r:Sl,v=r/\Sp h h' [ae 3 r 1 ak (if bS p&&ct id then eT (bX p).toNat seed id else[])]:=by
 refine ts Tryz.func140 ?_ (.two .n (.two (.join [] [(6,7),(10,21)] .n) .n)) (args:=[p,(xG xO (seed:Int)),(id:Int)]);refine(Sp.refl h).boxed λa E B=>?_;refine aT ?_;refine⟨p,(B.box 0 i0).aE _ i0,(eF p E).mono ?_⟩;rintro v m ⟨rfl,Q⟩;have l:=B.comp Q;have u:(bS p&&ct id)=eL->Sp h m [ae 3 ⟨ez,0,0⟩ 1 ak (if bS p&&ct id then eT (bX p).toNat seed id else[])]:=λP=>by
  rw[P];exact(l.nil 3 1 ak).take 1 (λi A f=>by cases i with|zero=>exact f|succ i=>simp at f)
 refine⟨_,i0,aQ (λe=>⟨⟨ez,0,0⟩,i0,u o0⟩) λj=>?_⟩;refine ag (λe=>⟨⟨ez,0,0⟩,i0,u l5⟩) λV=>?_;refine ag (λe=>⟨⟨ez,0,0⟩,i0,u l5⟩) λe2=>?_;have hid:ct id=eH:=l5
 rw[j,hid];refine⟨p,(l.box 0 i0).aE _ i0,(jV p m).mono ?_⟩;rintro v h3 ⟨rfl,J⟩;have S:=l.comp J;have K:=(cg p).1 j;have U:bX p=p.1+p.2.1:=by rw[bX,f9 j]
 obtain⟨n,O⟩:∃n:Nat,bX p=n:=⟨(bX p).toNat,i4⟩
 refine⟨_,i0,?_⟩
 try dsimp only
 rw[O,qk];refine(Lp _ h3).mono ?_;rintro v G ⟨d,rfl,D⟩;refine⟨dB d,i0,?_⟩;refine(Ay d _ G (D.box 0 i0)).mono ?_;rintro v M ⟨rfl,y,g⟩;have F:=D.sH 0 i0 g y;refine⟨_,i0,?_⟩;refine(TH n M i4 i4).mono ?_;rintro v H ⟨t,rfl,s⟩;have c:=F.comp s;refine⟨t,i0,?_⟩;have w:∀b,t.on b->b≠d.block:=λb o T=>by
  have E:=(s.fresh 0 i0).2 b o;have m:=(F.box 0 i0).lt;omega
 refine(EX t n d _ H ((s.own 0 i0).seq (λ_=>rfl) w) (c.box 0 i0) i4 i4).mono ?_;rintro v I ⟨rfl,x,k⟩;have z:=c.sH 0 i0 k x;refine⟨_,i0,?_⟩;refine(WG d _ n _ I (z.box 0 i0) i4 (th _ n i4 i4)).mono ?_;rintro v h8 ⟨r,rfl,N⟩;have R:=z.call 0 i0 (λb=>b=d.block) (λq L b o=>by rw[o];exact L.2) N;exact⟨r,i0,r,i0,((S.comp R).take 3 λi A f=>by cases i with|zero=>exact f|succ i=>simp at f)⟩
end Go.Qw
