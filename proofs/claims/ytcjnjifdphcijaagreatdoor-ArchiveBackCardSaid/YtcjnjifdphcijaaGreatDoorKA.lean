/- Lemmas for the proof of the law; no condition. -/
import Derived.Test.YtcjnjifdphcijaaGreatDoorTabS
import Derived.Test.YtcjnjifdphcijaaGreatDoorShelfA
set_option maxHeartbeats 2000000
set_option linter.unusedVariables false
set_option linter.unusedSimpArgs false
open Go.Proofs.Tryz renaming prog -> xT
open Go.Value renaming agg -> xO, bool -> xN, int -> xJ, pointer -> xL, slice -> xK, string -> xM
open Go.IntKind renaming bits -> qI, i64 -> xP, signed -> vb, u32 -> xR, u64 -> xS, u8 -> xQ, wrap -> qe
open Option renaming some -> zX
open Int renaming ediv_le_self -> xh, ediv_nonneg -> xp, fdiv -> zQ, mul_nonneg -> vX, mul_pos -> xx, tdiv -> vm, tmod -> xD
open UInt8 renaming ofNat -> yR, ofNat_toNat -> y7, toNat_lt -> w6
open List renaming exists_cons_of_length_eq_add_one -> yG, length -> vx, map_congr_left -> vL, range -> qx, replicate -> qg, take_append_of_le_length -> yC
open Nat renaming mod_eq_of_lt -> vE
open BitVec renaming ofInt -> qP, ofNat -> xu
open Prod renaming fst -> qE, snd -> zi
open Go.Instr renaming fill -> wK, storeAt -> qH
set_option maxRecDepth 100000
open Option renaming some -> dB, none -> et
open Bool renaming true -> ez, false -> eH
open Go renaming Addr -> eS
open Go.Qw renaming cellOf -> eX, Heap -> f7
open List renaming length -> hY
open Go.Qw.cN renaming two -> u7, n -> u9, inn -> v1, loop -> v2, join -> v6, tn -> v7, lp -> wj, jn -> ws
namespace Go.Qw
open Go.Proofs
abbrev Cells:=bH
abbrev powC(w:Pow)(l:Int):aT:=[xN w.off,xN w.fuse.isSome,xJ xP l,xJ xP w.offs]
def Jg(w:Pow)(l:Int):Prop:=∀k,w.fuse=dB k->l=k/\k<2^62
def ce(t:Nat)(a:eS)(w:Pow):HP:=HP.ex λl:Int=>(aj a t (powC w l)).and (Jg w l)
variable {B:av} {h0 h h':f7} {As:List HP} {t:Nat} {a:eS} {w:Pow}
theorem aa.rQ(H:aa B h0 h (ce t a w::As)):∃l,Jg w l/\aa B h0 h (aj a t (powC w l)::As):=by obtain⟨l,H⟩:=H.pD;obtain⟨H,b⟩:=H.pE;exact⟨l,b,H⟩
theorem aa.CR{l:Int}(b:Jg w l)(H:aa B h0 h (aj a t (powC w l)::As)):aa B h0 h (ce t a w::As):=
 (H.topE b).uF (F:=λl:Int=>(aj a t (powC w l)).and (Jg w l)) l
theorem Gi(l:Int)(b:bQ h a 118 (powC w l)):ai xT 66 #[xL (dB a)] h λv h'=>v=xN (!w.off)/\h'=h:=by refine ts Tryz.func66 ?_;exact aY (λ_=>⟨a,hZ,w.off,b.cell0 hZ,hZ,hZ⟩) λe=>jj
theorem EL(l:Int)(b:bQ h a 118 (powC w l)):ai xT 74 #[xL (dB a)] h λv h'=>v=xJ xP w.offs/\h'=h:=by refine ts Tryz.func74 ?_;exact aY (λe=>jj) λ_=>⟨a,hZ,w.offs,b.cell hZ,hZ,hZ⟩
theorem Yw(h:f7):ai xT 29 #[] h λv h'=>∃a,v=xL (dB a)/\Sp h h' [ce 118 a Pow.new]:=by refine ts Tryz.func29 ?_;refine(Sp.refl h).boxed λa c b=>⟨a,hZ,aa.CR (l:=0) (w:=Pow.new) (λk e=>jj) b⟩
theorem EM(H:aa B h0 h (ce 118 a w::As)):ai xT 182 #[xL (dB a)] h λv h'=>v=xN w.step.1/\aa B h0 h' (ce 118 a w.step.2::As):=by
 obtain⟨l,s,b⟩:=H.rQ;refine ts Tryz.func182 ?_;refine(Gi l (b.box 0 hZ)).xa ⟨_,hZ,aW (λe=>?_) λe=>?_⟩
 .have:w.step=(eH,w):=by unfold Pow.step;rw[f8 lc]
  rw[this];exact⟨hZ,H⟩
 have g:w.off=eH:=lc
 refine⟨a,hZ,_,(b.box 0 hZ).cell hZ,aW (λe2=>?_) λe2=>?_⟩
 .have:w.step=(ez,w):=by
   unfold Pow.step;rw[f9 oo];cases d:w.fuse with
   |none=>rfl
   |some k=>rw[d]at e2;cases e2
  rw[this];exact⟨hZ,H⟩
 obtain⟨k,d⟩:∃k,w.fuse=dB k:=yA.1 e2;obtain⟨rfl,x⟩:=s k d;have q:powC w (k:Int)=[xN eH,xN ez,xJ xP k,xJ xP w.offs]:=by simp[powC,g,d]
 rw[q]at b;refine⟨a,hZ,_,(b.box 0 hZ).cell hZ,aX (λr=>?_) λr=>?_⟩
 .have i:k=0:=ii
  subst i;have m:w.step=(eH,⟨ez,dB 0,qe xP (w.offs+1)⟩):=by unfold Pow.step;rw[f9 oo,d]
  rw[m];refine⟨a,hZ,b.fv ae 0 hZ hZ [xN ez] hZ hZ hZ i6 λu n=>?_⟩;refine⟨a,hZ,w.offs,(n.box 0 hZ).cell hZ,a,hZ,n.store ae 0 hZ hZ 3 [xJ xP (qe xP (w.offs+1))] hZ hZ hZ t6 λh3 f=>⟨hZ,?_⟩⟩;refine aa.CR (l:=((0:Nat):Int)) (λo c=>by cases c;exact⟨hZ,i0⟩) ?_;exact f
 .obtain⟨j,rfl⟩:∃j,k=j+1:=⟨k-1,ii⟩
  have m:w.step=(ez,⟨eH,dB j,w.offs⟩):=by unfold Pow.step;rw[f9 oo,d]
  rw[m];refine⟨a,hZ,_,(b.box 0 hZ).cell hZ,a,hZ,b.store ae 0 hZ hZ 2 [xJ xP (qe xP (((j+1:Nat):Int)-1))] hZ hZ hZ t6 λh3 f=>⟨hZ,?_⟩⟩;refine aa.CR (l:=(j:Int)) (λo c=>by cases c;exact⟨hZ,ii⟩) ?_;rw[ag _]at f;have p:((j+1:Nat):Int)-1=(j:Int):=ii
  rw[p]at f;exact f
abbrev Pm:=Int×Int×Int
abbrev kb(p:Pm):Value:=xO #[xJ xP p.1,xJ xP p.2.1,xJ xP p.2.2]
theorem eE(p:Pm)(h:f7):ai xT 73 #[kb p] h λv h'=>v=xN (bK p)/\Sp h h' []:=by refine ts Tryz.func73 ?_ (args:=[p]);refine(Sp.refl h).boxed λa d f=>?_;have e:=f.box 0 hZ;have c:Sp h d []:=.zip f.ac;have g:eX d a=dB (xJ xP p.1):=e.cell0 hZ;have j:eX d (a.add 1)=dB (xJ xP p.2.1):=e.cell hZ;have i:eX d (a.add 2)=dB (xJ xP p.2.2):=e.cell hZ;unfold bK;refine⟨_,g,af (λb=>?_) λb=>⟨pb,c⟩⟩;rw[g0 b];refine⟨_,g,af (λb=>?_) λb=>⟨pb,c⟩⟩;rw[g0 b];refine⟨_,j,af (λb=>?_) λb=>⟨pb,c⟩⟩;rw[g0 b];refine⟨_,j,af (λb=>?_) λb=>⟨pb,c⟩⟩;rw[g0 b];refine⟨_,i,af (λb=>?_) λb=>⟨pb,c⟩⟩;rw[g0 b];exact⟨_,i,hZ,c⟩
abbrev gb:bL C.toBH 22 3 1 [xJ xP 0] 8:=⟨_,_,hZ,hZ,hZ,hZ,hZ,hZ⟩
abbrev gN:bL C.toBH 34 5 1 [xJ xQ 0] 1:=⟨_,_,hZ,hZ,hZ,hZ,hZ,hZ⟩
abbrev fF:bL C.toBH 53 34 1 [xK et 0 0] 24:=⟨_,_,hZ,hZ,hZ,hZ,hZ,hZ⟩
theorem ij(s:Sl)(l:az)(h:f7)(b:Rd h s 1 aw l)(f:hY l<=2^30):ai xT 94 #[s] h λv h'=>∃r:Sl,v=r/\Sp h h' [an 3 r 1 aw l]:=by
 refine ts Tryz.func94 ?_;refine aY (λe=>?_) (λe=>?_)
 .have:=b.isNil e;subst this;exact⟨⟨et,0,0⟩,hZ,(Sp.refl h).nil 3 1 aw⟩
 .refine(Sp.refl h).lit ae aw gb hZ [] hZ i0 hZ λj g a=>?_;refine a.append ae 0 hZ gb ⟨_,_,hZ,hZ⟩ hZ i0 (λ_=>rfl) (b.up a.ac) fd i5 λc i d=>⟨c,hZ,d⟩
theorem fP(s:Sl)(l:aL)(h:f7)(b:Rd h s 1 aB l)(f:hY l<=2^30):ai xT 124 #[s] h λv h'=>∃r:Sl,v=r/\Sp h h' [an 5 r 1 aB l]:=by
 refine ts Tryz.func124 ?_;refine aY (λe=>?_) (λe=>?_)
 .have:=b.isNil e;subst this;exact⟨⟨et,0,0⟩,hZ,(Sp.refl h).nil 5 1 aB⟩
 .refine(Sp.refl h).lit ae aB gN hZ [] hZ i0 hZ λj g a=>?_;refine a.append ae 0 hZ gN ⟨_,_,hZ,hZ⟩ hZ i0 (λ_=>rfl) (b.up a.ac) ic i5 λc i d=>⟨c,hZ,d⟩
theorem EN{e:TypeId}(s:Sl)(l:az)(h:f7)(c:Own h e s 1 aw l)(a:hY l<2^40):ai xT 46 #[s] h λv h'=>v=.tuple #[]/\Own h' e s 1 aw (iC l)/\aS (λb=>¬s.on b) h h':=
 Ow Tryz.slices_Sort_int Tryz.slices_Sort_int_none c a
theorem cK(x n:Int)(h:f7)(b:0<n:=by decide)(g:n<=2^62:=by decide):ai xT 7 #[xJ xP x,xJ xP n] h λv h'=>v=xJ xP (x%n)/\h'=h:=by
 refine ts Tryz.func7 ?_ (v7 (v7 (ws [(0,aU)] [(0,1),(8,13)] u9)));have e:=vP x b;have f:-n<x.tmod n:=Int.lt_tmod_of_pos x b;have d:=Oj x n b;refine⟨ii,aG ?_⟩;refine af (λc=>?_) (λa=>?_)
 .rw[ag _];exact⟨by rw[d,f8 c],hZ⟩
 .exact⟨by rw[d,f9 a],hZ⟩
theorem VD{p q:av}(a b:Sl)(c f:Row)(h:f7)(r:Seq h p a 1 aB c)(s:Seq h q b 1 aB f)(x:hY c<=2^40):
  ai xT 11 #[a,b] h λv h'=>v=xN (decide (c=f))/\h'=h:=by
 refine ts Tryz.func11 ?_ (v7 (v7 (wj [(13,aU)] [(4,6),(13,26)])));have o:=r.len;have j:=s.len;refine bA (λd=>⟨?_,hZ⟩) (λl=>?_)
 .rw[g9 λe=>d (by rw[o,j,e])]
 .refine aq (λk:Nat=>(k:Int)) (λk h'=>h'=h/\k<=hY c/\c.take k=f.take k) (λk=>hY c-k) 0 hZ ⟨hZ,ii,i6⟩ ?_;rintro k h' ⟨rfl,y,m⟩;refine af (λw=>?_) (λt=>?_)
  .have i:k<hY c:=ii
   have g:k<hY f:=ii
   refine r.bo k hZ i _ hZ ?_;refine s.bo k hZ g _ hZ ?_;refine bA (λd=>⟨?_,hZ⟩) (λl=>?_)
   .rw[g9];intro e;subst e;exact d hZ
   .rw[ag _];have u:c[k]=f[k]:=yJ.1 ii;exact⟨k+1,i6,⟨hZ,ii,by rw[aE _ _ i,aE _ _ g,m,u]⟩,ii⟩
  .have:k=hY c:=ii
   subst this;rw[qh ii,qh ii]at m;exact⟨by rw[g0 m],hZ⟩
structure gO (d:ba):Prop where
 wait:d.wait<=hY d.l
 len:hY d.l<=d.room
 room:d.room<=512
 cell:∀c∈d.l,hY c=64
 laid:hY d.laid<=d.room
 cellL:∀c∈d.laid,hY c=64
variable {d:ba} {b:aL}
theorem gO.new{n:Nat}(h:n<=512):gO (ba.new n):=⟨qm _,zk _,h,by simp[ba.new],zk _,by simp[ba.new]⟩
theorem gO.rewrite{l:bH}(h:gO d):gO (d.rewrite w l).2.2:=by
 obtain⟨a,e,h3,b,f,g⟩:=h;unfold ba.rewrite;split
 .exact⟨a,e,h3,b,f,g⟩
 .rename_i i;have i:∀c∈l,hY c=64:=tg
  split
  .exact⟨a,e,h3,b,f,g⟩
  .split
   .exact⟨a,e,h3,b,f,g⟩
   .split
    .exact⟨a,e,h3,b,f,g⟩
    .split
     .exact⟨zk _,i4,h3,i,zk _,i6⟩
     .exact⟨a,e,h3,b,i4,i⟩
abbrev gg(s:Sl)(l:Cells):HP:=fy 34 s 5 1 aB l
def gU(t:Nat)(f:ba->Sl->Sl->aT)(a:eS)(d:ba):HP:=
 (HP.ex λb:Sl×Sl=>(aj a t (f d b.1 b.2)).sep ((gg b.1 d.l).sep (gg b.2 d.laid))).and (gO d)
variable {f:ba->Sl->Sl->aT}
theorem aa.pT(H:aa B h0 h (gU t f a d::As)):gO d/\∃s b:Sl,aa B h0 h (aj a t (f d s b)::gg s d.l::gg b d.laid::As):=by obtain⟨H,ok⟩:=H.pE;obtain⟨c,H⟩:=H.pD;exact⟨ok,c.1,c.2,H.mD.mD.aJ 3 [2,1,0]⟩
theorem aa.BR{s b:Sl}(ok:gO d)(H:aa B h0 h (aj a t (f d s b)::gg s d.l::gg b d.laid::As)):aa B h0 h (gU t f a d::As):=
 ((((H.aJ 3 [2,1,0]).jw).jw).uF (F:=λc:Sl×Sl=>(aj a t (f d c.1 c.2)).sep ((gg c.1 d.l).sep (gg c.2 d.laid))) (s,b)).topE ok
abbrev ft(pw:eS)(d:ba)(s b:Sl):aT:=[xL (dB pw),xJ xP d.room,s,xJ xP d.wait,b,xN d.has,xN d.lost]
abbrev jN(pw a:eS)(d:ba):HP:=gU 155 (ft pw) a d
section
variable {pw:eS}
theorem Jh(n:Int)(pw:eS)(h:f7):ai xT 44 #[xJ xP n,xL (dB pw)] h λv h'=>
  (1<=n/\n<=512->∃a,v=xL (dB a)/\Sp h h' [jN pw a (ba.new n.toNat)])/\(¬(1<=n/\n<=512)->v=xL et/\Sp h h' []):=by
 refine ts Tryz.func44 ?_ (v7 (ws [] [(4,15)] u9));refine aG (af (λe=>⟨λc=>absurd c ii,λ_=>⟨hZ,Sp.refl h⟩⟩) λi=>af (λe=>⟨λc=>absurd c ii,λ_=>⟨hZ,Sp.refl h⟩⟩) λe2=>aY (λe=>jj) λ_=>?_);refine(Sp.refl h).boxed λa g d=>⟨λ_=>⟨a,hZ,?_⟩,λc=>absurd ii c⟩
 refine aa.BR (s:=⟨et,0,0⟩) (b:=⟨et,0,0⟩) (gO.new ii) ?_;have e:((n.toNat:Nat):Int)=n:=ii
 have f:=((d.Bf 34 5 1 aB).Bf 34 5 1 aB).aJ 3 [2,1,0];have e2:ft pw (ba.new n.toNat) ⟨et,0,0⟩ ⟨et,0,0⟩=[xL (dB pw),xJ xP n,xK et 0 0,xJ xP 0,xK et 0 0,xN eH,xN eH]:=by simp only[ft,ba.new,e];rfl
 rw[e2];exact f
theorem EO(s b:Sl)(c:ba)(H:aa B h0 h (aj a 155 (ft pw d s b)::gg s d.l::gg b d.laid::ce 118 pw w::As))(ok:gO d)(f:c={d with laid:=[],has:=eH}):
  ai xT 184 #[xL (dB a)] h λv h'=>v=xJ xP 0/\aa B h0 h' (jN pw a c::ce 118 pw w::As):=by
 refine ts Tryz.func184 ?_;refine⟨a,hZ,H.store ae 0 hZ hZ 4 [xK et 0 0] hZ hZ hZ l5 λi g=>?_⟩;refine⟨a,hZ,g.store ae 0 hZ hZ 5 [xN eH] hZ hZ hZ l5 λh3 e=>⟨hZ,?_⟩⟩;subst f;refine aa.BR (s:=s) (b:=⟨et,0,0⟩) ⟨ok.wait,ok.len,ok.room,ok.cell,zk _,i6⟩ ?_;exact((e.Bf 34 5 1 aB).aJ 5 [1,2,0,4])
theorem GI(x:Sl)(row:aL)(H:aa B h0 h (jN pw a d::ce 118 pw w::As))(N:Rd h x 1 aB row)(Z:hY row<=2^20):
  ai xT 116 #[xL (dB a),x] h λv h'=>v=xJ xP (d.append w row).1/\aa B h0 h' (jN pw a (d.append w row).2.2::ce 118 pw (d.append w row).2.1::As):=by
 refine ts Tryz.func116 ?_ (v7 (u7 (v6 [] [(4,36)] (v1 (v7 (v7 (ws [(9,ka)] [(9,18)] u9))))) (ws [] [(36,47)] u9)));have Y:=N.len;obtain⟨ok,s,b,A⟩:=H.pT;have u:=A.box 0 hZ;obtain⟨U,_⟩:=aa.tj (A.aJ 4 [1]);have M:=ok.room;have P:=ok.len;have K:=ok.wait;have same:∀(e:Int),d.append w row=(e,w,d)->(Value.int .i64 e=xJ xP (d.append w row).1/\aa B h0 h (jN pw a (d.append w row).2.2::ce 118 pw (d.append w row).2.1::As)):=λe X=>by
  rw[X];exact⟨hZ,H⟩
 refine aG (bA (λe=>same 1 (by unfold ba.append;rw[f8 ii])) λR=>?_);have k:hY row=64:=ii
 refine aG (aY (λe=>jj) λ_=>⟨a,hZ,d.lost,u.cell hZ,aY (λe=>same 5 ?_) λf=>?_⟩)
 .unfold ba.append;rw[f9 ii,f8 e]
 refine⟨a,hZ,s,u.cell hZ,a,hZ,(d.room:Int),u.cell hZ,af (λe=>same 7 ?_) λL=>?_⟩
 .unfold ba.append;rw[f9 ii,f9 qa,f8 ii]
 obtain⟨l,hl,I⟩:=(A.aJ 4 [3,0,1,2]).rQ;refine⟨a,hZ,dB pw,u.cell0 hZ,(Gi l (I.box 0 hZ)).mono ?_⟩;rintro _ T ⟨rfl,rfl⟩;refine⟨_,hZ,aW (λe=>same 14 ?_) λo=>?_⟩
 .unfold ba.append;rw[f9 ii,f9 qa,f9 ii,f8 lc]
 have i:w.off=eH:=p7
 refine aG ⟨a,hZ,s,u.cell hZ,(fP x row T N ii).x0 λr h4 W=>?_⟩;have z:=(A.ci W).aJ 5 [2,0,1,3,4];have m:=z.box 2 hZ;refine⟨r,hZ,⟨m.cell hZ,x7⟩,?_⟩;have S:=z;refine z.oX ae bn fF hZ [r] hZ (show 1*1<=2^20 by decide) hZ ⟨m.cell hZ,x7⟩ ?_;refine z.Cp ae fF ii λE h6 J=>⟨x7,?_⟩
 have J:=J.aJ 4 [1,0,2,3];refine⟨a,hZ,J.store ae 0 hZ hZ 2 [E] hZ hZ hZ l5 λh7 O=>⟨x7,?_⟩⟩;have F:=O.box 0 hZ;refine⟨a,hZ,(d.wait:Int),F.cell hZ,a,hZ,?_⟩;rw[ag ((d.wait:Int)+1)];refine O.store ae 0 hZ hZ 3 [xJ xP ((d.wait:Int)+1)] hZ hZ hZ l5 λh8 Q=>?_;obtain⟨g,j⟩:∃g:ba,g={d with l:=d.l++[row],wait:=d.wait+1}:=⟨_,rfl⟩
 have q:gO g:=by
  subst j;refine⟨i5,i5,ok.room,λc p=>?_,ok.laid,ok.cellL⟩;rcases qt.1 p with p|p
  .exact ok.cell c p
  .rw[qp.1 p];exact k
 have y:aa B h0 h8 (aj a 155 (ft pw g E b)::gg E g.l::gg b g.laid::ce 118 pw w::As):=by rw[j];exact Q
 refine⟨a,hZ,dB pw,(y.box 0 hZ).cell0 hZ,(EM (y.aJ 4 [3,0,1,2])).xc λh9 D=>?_⟩;have D:=D.aJ 4 [1,2,3,0];have t:d.append w row=if w.step.1 then(0,w.step.2,{g with laid:=[],has:=eH})else(14,w.step.2,g):=by rw[j];unfold ba.append;rw[f9 ii,f9 qa,f9 ii,f9 (by simp[i])]
 rw[t];refine⟨_,hZ,aW (λe=>?_) λe=>?_⟩
 .rw[e];exact⟨hZ,D.BR q⟩
 .rw[e];refine(EO E b _ D q hZ).xc λV G=>⟨0,hZ,hZ,G⟩
theorem KU(x:Sl)(row:aL)(h:f7)(b:Rd h x 1 aB row):ai xT 116 #[xL et,x] h λv h'=>v=xJ xP (if row.length≠64 then 1 else 5)/\h'=h:=by refine ts Tryz.func116 ?_ (v7 (u7 (v6 [] [(4,36)] (v1 (v7 (v7 (ws [(9,ka)] [(9,18)] u9))))) (ws [] [(36,47)] u9)));have a:=b.len;refine aG (bA (λe=>⟨by rw[f8 ii],hZ⟩) λe=>?_);exact aG (aY (λ_=>⟨by rw[f9 ii],hZ⟩) λe=>jj)
theorem Yx(H:aa B h0 h (jN pw a d::ce 118 pw w::As)):
  ai xT 187 #[xL (dB a)] h λv h'=>v=xJ xP (d.sync w).1/\aa B h0 h' (jN pw a (d.sync w).2.2::ce 118 pw (d.sync w).2.1::As):=by
 refine ts Tryz.func187 ?_ (v7 (ws [] [(2,11)] u9));obtain⟨ok,s,b,i⟩:=H.pT;have j:=i.box 0 hZ;refine aG (aY (λe=>jj) λ_=>⟨a,hZ,d.lost,j.cell hZ,aY (λe=>?_) λc=>?_⟩)
 .have:d.sync w=(5,w,d):=by unfold ba.sync;rw[f8 e]
  rw[this];exact⟨hZ,H⟩
 refine⟨a,hZ,dB pw,j.cell0 hZ,(EM (i.aJ 4 [3,0,1,2])).xc λm g=>?_⟩;have g:=g.aJ 4 [1,2,3,0];have f:d.sync w=if w.step.1 then(0,w.step.2,{{d with wait:=0}with laid:=[],has:=eH})else(14,w.step.2,d):=by unfold ba.sync;rw[f9 n8]
 rw[f];refine⟨_,hZ,aW (λe=>?_) λe=>?_⟩
 .rw[e];exact⟨hZ,g.BR ok⟩
 .rw[e];refine⟨a,hZ,g.store ae 0 hZ hZ 3 [xJ xP 0] hZ hZ hZ l5 λh3 k=>?_⟩;refine(EO (d:={d with wait:=0}) s b _ k ⟨zk _,ok.len,ok.room,ok.cell,ok.laid,ok.cellL⟩ rfl).xc λo l=>⟨0,hZ,hZ,l⟩
theorem Pr(h:f7):ai xT 187 #[xL et] h λv h'=>v=xJ xP 5/\h'=h:=by refine ts Tryz.func187 ?_ (v7 (ws [] [(2,11)] u9));exact aG (aY (λ_=>⟨hZ,hZ⟩) λe=>jj)
theorem jN.box(H:aa B h0 h (jN pw a d::As)):∃s b:Sl,bQ h a 155 (ft pw d s b)/\fe h s 1 aB d.l/\s.len=hY d.l:=by obtain⟨ok,s,b,c⟩:=H.pT;exact⟨s,b,c.box 0 hZ,(c.aJ 3 [1]).uG λ_=>rfl,(aa.tj (c.aJ 3 [1])).1⟩
theorem EP(s b:Sl)(c:bQ h a 155 (ft pw d s b)):ai xT 181 #[xL (dB a)] h λv h'=>v=xJ xP d.room/\h'=h:=by refine ts Tryz.func181 ?_;exact aY (λe=>jj) λ_=>⟨a,hZ,_,c.cell hZ,hZ,hZ⟩
theorem Mb(s b:Sl)(c:bQ h a 155 (ft pw d s b))(f:s.len=hY d.l):ai xT 113 #[xL (dB a)] h λv h'=>v=xJ xP (hY d.l:Int)/\h'=h:=by refine ts Tryz.func113 ?_;exact aY (λe=>jj) λ_=>⟨a,hZ,_,c.cell hZ,by rw[f],hZ⟩
theorem sT(s b:Sl)(c:bQ h a 155 (ft pw d s b)):ai xT 108 #[xL (dB a)] h λv h'=>v=xN d.lost/\h'=h:=by refine ts Tryz.func108 ?_;exact aY (λ_=>⟨a,hZ,_,c.cell hZ,hZ,hZ⟩) λe=>jj
theorem HO(l:Sl)(a:Cells)(h:f7)(f:fe h l 1 aB a)(w:hY a<=2^20)(o:∀c∈a,hY c<=2^20):ai xT 183 #[l] h λv h'=>∃r:Sl,v=r/\Sp h h' [gg r a]:=by
 refine ts Tryz.func183 ?_ (v7 (v7 (wj [(3,cM),(8,aU)] [(3,4),(5,6),(8,18)])));have k:=f.len;refine aq (λt:Sl×Nat=>(t.1,(t.2:Int))) (λt h'=>t.2<=hY a/\Sp h h' [gg t.1 (a.take t.2)]) (λt=>hY a-t.2) (⟨et,0,0⟩,0) hZ ⟨i6,by simpa using(Sp.refl h).Bf 34 5 1 aB⟩ ?_;rintro⟨s,i⟩ g ⟨y,d⟩;dsimp only at*;refine af (λe=>?_) (λe=>?_)
 .have b:i<hY a:=ii
  refine(f.up d.ac).get i hZ b λr j=>?_;have:=o _ (qf b);refine(fP r _ g j ii).x0 λq x p=>⟨q,hZ,?_⟩;refine aa.Cp ae (d.comp p) fF i5 λu h3 m=>?_;refine⟨(u,i+1),i7,⟨i4,?_⟩,i4⟩
  try dsimp only
  rw[aE _ _ b];exact m
 .rw[qh ii]at d;exact⟨s,hZ,d⟩
theorem uW(s b:Sl)(g:bQ h a 155 (ft pw d s b))(i:fe h s 1 aB d.l)(ok:gO d):ai xT 120 #[xL (dB a)] h λv h'=>∃r:Sl,v=r/\Sp h h' [gg r d.l]:=by
 refine ts Tryz.func120 ?_;have:=ok.len;have:=ok.room;refine aY (λe=>jj) λ_=>⟨a,hZ,s,g.cell hZ,(HO s d.l h i ii λc f=>by rw[ok.cell c f];decide).x0 λr k j=>?_⟩;exact⟨r,hZ,r,hZ,j⟩
end
theorem abZ(b:Sl)(l:aL)(h:f7)(q:Rd h b 1 aB l)(B:hY l<=2^40):ai xT 191 #[b] h λv h'=>v=xJ xR (BM l).toNat/\h'=h:=by
 refine ts Tryz.func191 ?_ (v7 (v7 (u7 (v7 (v1 (v2 [(3,(.sc (.int .u32))),(9,aU)] [(3,4),(5,7),(9,29)] (v7 (v7 (u7 (v1 (v7 (v7 (v7 (v1 (v2 [(3,(.sc (.int .u32))),(17,aU)] [(3,4),(6,7),(17,28)] u9)))))) u9)))))) u9)));have E:=q.len;refine aq (λt:Nat=>(((tR (l.take t)).toNat:Int),(t:Int))) (λt h'=>t<=hY l/\h'=h) (λt=>hY l-t) 0 hZ ⟨ii,hZ⟩ ?_;rintro i r ⟨A,rfl⟩;refine af (λe=>?_) (λe=>?_)
 .have d:i<hY l:=by have x:(i:Int)<(b.len:Int):=e;omega
  refine q.bo i hZ d (l[i].toNat:Int) hZ ?_;have w:qe xR (l[i].toNat:Int)=((xu 32 l[i].toNat).toNat:Int):=by rw[LK,yd]
  rw[w,Vd];refine aq (λk:Nat=>(((BL k (tR (l.take i)^^^xu 32 l[i].toNat)).toNat:Int),(k:Int))) (λk h'=>k<=8/\h'=r) (λk=>8-k) 0 hZ ⟨ii,hZ⟩ ?_;rintro k p ⟨D,rfl⟩;obtain⟨c,g⟩:=x6 (BL k (tR (l.take i)^^^xu 32 l[i].toNat))
  try dsimp only
  rw[<-g];refine af (λe2=>⟨i0,?_⟩) (λe2=>?_)
  .have a:∀n:sN,n=IS c->∃f:Nat,(((n.toNat:Nat):Int),qe xP ((k:Int)+1))=(((BL f (tR (l.take i)^^^xu 32 l[i].toNat)).toNat:Int),(f:Int))/\(f<=8/\p=p)/\8-f<8-k:=λn s=>
    ⟨k+1,by rw[ag _,s,g];rfl,⟨ii,hZ⟩,ii⟩
   have z:qe xR ((qP (qI xR) (c.toNat:Int)&&&qP (qI xR) (1:Int)).toNat:Nat)=((c&&&1#32).toNat:Int):=aiC c 1#32;have u:qe xR ((qP (qI xR) ((c>>>1).toNat:Int)^^^qP (qI xR) (3988292384:Int)).toNat:Nat)=(((c>>>1)^^^3988292384#32).toNat:Int):=Vd (c>>>1) 3988292384#32;rw[z,afc,u];refine aX (λj=>a _ ?_) (λj=>a _ ?_)
   .unfold IS;rw[f8 ((TC c).1 j)]
   .unfold IS;rw[f9 λy=>j ((TC c).2 y)]
  .have o:k=8:=ii
   subst o;refine⟨i+1,?_,⟨ii,hZ⟩,ii⟩;rw[ag _,aE _ _ d,Vb,g];rfl
 .have m:i=hY l:=by have x:¬(i:Int)<(b.len:Int):=e;omega
  subst m;refine⟨?_,hZ⟩;rw[qM];exact congrArg (Value.int .u32) (Vd 4294967295#32 (tR l))
theorem EQ(a:Int)(f:Sl)(l:aL)(h:f7)(D:Rd h f 1 aB l)(R:hY l<=2^40:=by omega):ai xT 125 #[xJ xP a,f] h λv h'=>∃r:Sl,v=r/\Sp h h' [an 5 r 1 aB (eT a l)]:=by
 refine ts Tryz.func125 ?_ (v7 (ws [] [(4,5),(8,19)] (v7 (v7 (v7 (v7 (wj [(32,aU)] [(7,8),(32,45)])))))));have T:=D.len;have g:¬(1<=a/\a<=255/\l.length<=55)->∃r:Sl,Value.slice et 0 0=xK r.ptr r.len r.cap/\Sp h h [an 5 r 1 aB (eT a l)]:=λe=>by
  unfold eT;rw[f9 e];exact⟨⟨et,0,0⟩,hZ,(Sp.refl h).nil 5 1 aB⟩
 refine aG (af (λe=>g ii) λN=>af (λe=>g ii) λe2=>af (λe=>g ii) λS=>?_);refine(Sp.refl h).make ae aB gN i0 0 hZ hZ 64 64 hZ hZ (qm _) i0 λo y m p H=>?_;rw[fg];refine H.lit ae aB gN hZ [87,115,1,b8 a] hZ (show 4*1<=2^20 by decide) hZ λv3 h3 z=>?_;refine z.IM ae 0 hZ gN (λ_=>rfl) (z.seq 1 hZ λ_=>rfl) ic λ_ w k=>⟨⟨i0,by rw[m];decide⟩,?_⟩
 have k:Sp h w [an 5 o 1 aB ([87,115,1,b8 a]++qg 60 0)]:=by have:=k.bt [0];simpa using this
 refine k.OA ae 0 hZ gN (λ_=>rfl) (Seq.up D k.ac) ic 4 i6 hZ hZ λ_ x u=>⟨⟨i0,by rw[p];decide⟩,?_⟩
 have K:([87,115,1,b8 a]++qg 60 0).take 4++(l.take (hY ([87,115,1,b8 a]++qg 60 (0:UInt8))-4)++([87,115,1,b8 a]++qg 60 0).drop (4+hY l))=eN a l++qg 5 0:=by
  have E:hY ([87,115,1,b8 a]++qg 60 (0:UInt8))=64:=i6
  rw[E,qh (l:=l) ii,<-zN];have y:([87,115,1,b8 a]++qg 60 (0:UInt8)).drop 4=qg 60 0:=rfl;have h3:([87,115,1,b8 a]++qg 60 (0:UInt8)).take 4=[87,115,1,b8 a]:=rfl;rw[y,h3,List.drop_replicate];unfold eN;have w:qg (60-hY l) (0:UInt8)=qg (55-hY l) 0++qg 5 0:=by rw[List.replicate_append_replicate];congr 1;omega
  rw[w];simp[qn]
 rw[K]at u;have b:hY (eN a l)=59:=Ei ii;have F:Rd x ⟨o.ptr,59,o.cap⟩ 1 aB (eN a l):=by have:=(u.seq 0 hZ λ_=>rfl).take 59 mn;rw[yC ii,qh ii]at this;exact this
 refine(abZ ⟨o.ptr,59,o.cap⟩ (eN a l) x F ii).xa ?_;obtain⟨c,B⟩:=x6 (BM (eN a l))
 rw[<-B];refine⟨_,hZ,?_⟩;refine aq (λi:Nat=>(i:Int)) (λi h'=>i<=4/\Sp h h' [an 5 o 1 aB (eN a l++((oN c).take i++qg (5-i) 0))]) (λi=>4-i) 0 hZ ⟨ii,by simpa using u⟩ ?_;rintro i Q ⟨P,A⟩;have d:=OC c;refine af (λe=>?_) (λe=>?_)
 .have G:i<4:=by have J:(i:Int)<4:=e;omega
  rw[ag ((8:Int)*i),ag ((59:Int)+i)];refine⟨ii,?_⟩;have I:((8:Int)*(i:Int)).toNat=8*i:=ii
  have L:min (8*i) (qI xR)=8*i:=by have:qI xR=32:=rfl;omega
  rw[I,L,fg];have M:b8 (zQ (c.toNat:Int) (2^(8*i)))=(oN c)[i]'ii:=by simp[oN]
  rw[M];refine A.set ae 0 hZ (λ_=>rfl) hZ (59+i) ii (by simp[b];omega) ((oN c)[i]'ii) hZ hZ hZ λh8 j=>?_;refine⟨i+1,i9,⟨ii,?_⟩,ii⟩;have s:(eN a l++((oN c).take i++qg (5-i) 0)).set (59+i) ((oN c)[i]'ii)=eN a l++((oN c).take (i+1)++qg (5-(i+1)) 0):=by
   rw[qV _ _ ii,b,zl,qV _ _ i5,aE _ _];have:5-i=(5-(i+1))+1:=ii
   rw[this,yo];simp[d,Nat.min_eq_left (show i<=4 by omega)];rw[aE _ _ (show i<hY (oN c) by omega),qn];rfl
  rw[s]at j;exact j
 .have t:i=4:=by have J:¬(i:Int)<4:=e;omega
  subst t;refine A.set ae 0 hZ (λ_=>rfl) hZ 63 hZ (by simp[b,d]) 165 hZ hZ hZ λh8 j=>⟨o,hZ,?_⟩
  have q:(eN a l++((oN c).take 4++qg (5-4) 0)).set 63 165=eT a l:=by unfold eT;rw[f8 ⟨ii,ii,ii⟩,<-B,qh ii,qV _ _ ii,b,qV _ _ p8];simp[d]
  rw[q]at j;exact j
abbrev dP:=ByteArray×Int×Int×Sl
abbrev bh:=Int×Int×Int×Int×Int×Int×Sl×Sl
abbrev bY(x:dP):aT:=[xM x.1,xJ xP x.2.1,xJ xP x.2.2.1,x.2.2.2]
abbrev aM(x:bh):aT:=[xJ xP x.1,xJ xP x.2.1,xJ xP x.2.2.1,xJ xP x.2.2.2.1,xJ xP x.2.2.2.2.1,xJ xP x.2.2.2.2.2.1,x.2.2.2.2.2.2.1,x.2.2.2.2.2.2.2]
abbrev dK(x:bh):Value:=xO #[xJ xP x.1,xJ xP x.2.1,xJ xP x.2.2.1,xJ xP x.2.2.2.1,xJ xP x.2.2.2.2.1,xJ xP x.2.2.2.2.2.1,x.2.2.2.2.2.2.1,x.2.2.2.2.2.2.2]
def gV:iW dP Qw.cb:=⟨λh q a b=>(a.1=b.name/\a.2.1=b.object/\a.2.2.1=b.length)/\Seq h q a.2.2.2 1 aw b.tries,λa d=>⟨a.1,a.2.ac d⟩,λa c=>⟨a.1,a.2.mono c⟩⟩
abbrev rR:iW Sl (List Qw.cb):=bN gV 4 bY
structure sD (h:f7) (q:av) (x:bh) (m:ak):Prop where
 seq:x.1=m.seq
 next:x.2.1=m.next
 p:(x.2.2.1,x.2.2.2.1,x.2.2.2.2.1)=m.p
 extra:x.2.2.2.2.2.1=m.extra
 drives:Seq h q x.2.2.2.2.2.2.1 1 aw m.drives
 objs:rR.p h q x.2.2.2.2.2.2.2 m.objs
 dcap:x.2.2.2.2.2.2.1.len<=x.2.2.2.2.2.2.1.cap
 ocap:x.2.2.2.2.2.2.2.len<=x.2.2.2.2.2.2.2.cap
abbrev cR(h:f7)(x:bh)(m:ak):Prop:=sD h (λb=>b<h.size) x m
theorem sD.ac{h h':f7}{q:av}{x:bh}{m:ak}(a:sD h q x m)(b:aS q h h'):sD h' q x m:=⟨a.seq,a.next,a.p,a.extra,a.drives.ac b,rR.loc a.objs b,a.dcap,a.ocap⟩
theorem sD.mono{h:f7}{q q':av}{x:bh}{m:ak}(a:sD h q x m)(c:∀b,q b->q' b):sD h q' x m:=⟨a.seq,a.next,a.p,a.extra,a.drives.mono c,rR.mono a.objs c,a.dcap,a.ocap⟩
theorem cR.up{h h':f7}{x:bh}{m:ak}(a:cR h x m)(c:aS (λb=>b<h.size) h h'):cR h' x m:=(sD.ac a c).mono λ_ d=>qY d c.1
def bI(x:bh)(m:ak):HP:=⟨λh q=>sD h q x m,λa c=>a.ac c,λa b=>a.mono b⟩
theorem Gj:∀x,∀c∈bY x,c.oneCell'=ez:=by intro x c a;simp[bY]at a;rcases a with rfl|rfl|rfl|rfl<;>rfl
theorem rS(n a b:Int)(h:f7):ai xT 172 #[xJ xP n,xJ xP a,xJ xP b] h λv h'=>v=xN (fR n a b)/\h'=h:=by
 refine ts Tryz.func172 ?_;unfold fR;refine af (λe=>⟨?_,hZ⟩) (λe=>⟨?_,hZ⟩)
 .rw[g0 (show a<=n from e)];rfl
 .rw[g9 (show¬a<=n from e)];rfl
theorem Mc(s:ByteArray)(h:f7)(H:s.size<=2^40):ai xT 129 #[xM s] h λv h'=>v=xN (lC s)/\Sp h h' []:=by
 refine ts Tryz.func129 ?_ (v7 (wj [(8,aU)] [(2,3),(4,5),(8,31)]));refine afd ae ⟨_,hZ,hZ⟩ ⟨_,hZ,hZ⟩ ⟨_,hZ,hZ⟩ s λr A o=>?_;have y:=o.rd 0 hZ;have D:=y.len;have E:=Cr s;refine aq (λi:Nat=>(i:Int)) (λi h'=>i<=s.size/\h'=A/\∀c∈(jM s).take i,ng c=ez) (λi=>s.size-i) 0 hZ ⟨ii,hZ,i6⟩ ?_;rintro i q ⟨G,rfl,d⟩;refine af (λe=>?_) (λe=>?_)
 .have j:i<hY (jM s):=by have F:(i:Int)<(r.len:Int):=e;omega
  refine y.bo i hZ j ((jM s)[i].toNat:Int) hZ ?_;obtain⟨c,t⟩:=x6 ((jM s)[i])
  rw[<-t];have a:ng c=ez->∃p:Nat,qe xP ((i:Int)+1)=(p:Int)/\(p<=s.size/\q=q/\∀c∈(jM s).take p,ng c=ez)/\s.size-p<s.size-i:=λw=>
   ⟨i+1,i9,⟨ii,hZ,λx k=>by
    rw[aE _ _ j]at k;rcases qt.1 k with k|k
    .exact d x k
    .rw[qp.1 k,<-t];exact w⟩,ii⟩
  have f:ng c=eH->Value.bool eH=xN (lC s)/\Sp h q []:=λw=>by
   refine⟨?_,o.bt []⟩;unfold lC;have:s.data.toList.all ng=eH:=yF.2 ⟨c,by rw[t];exact qf j,by rw[w];simp⟩;rw[this];rfl
  have b:ng c=ez↔((97<=(c.toNat:Int)/\(c.toNat:Int)<=122)∨(48<=(c.toNat:Int)/\(c.toNat:Int)<=57)∨(c.toNat:Int)=45):=by unfold ng;simp[or_assoc];omega
  have g:ng c=eH↔¬((97<=(c.toNat:Int)/\(c.toNat:Int)<=122)∨(48<=(c.toNat:Int)/\(c.toNat:Int)<=57)∨(c.toNat:Int)=45):=by rw[<-b];cases ng c<;>simp
  refine af (λu=>af (λe2=>bA (λm=>f (g.2 ii)) λm=>a (b.2 ii)) λe2=>af (λm=>bA (λl=>f (g.2 ii)) λl=>a (b.2 ii)) λm=>a (b.2 ii)) λu=>af (λe2=>af (λm=>bA (λl=>f (g.2 ii)) λl=>a (b.2 ii)) λm=>af (λl=>bA (λB=>f (g.2 ii)) λB=>a (b.2 ii)) λl=>a (b.2 ii)) λe2=>a (b.2 ii)
 .have F:¬(i:Int)<(r.len:Int):=e;rw[qh ii]at d;have z:s.data.toList.all ng=ez:=qK.2 d;refine af (λu=>⟨?_,o.bt []⟩) (λu=>⟨?_,o.bt []⟩)
  .unfold lC;rw[z,g0 (show 1<=s.size by omega)];congr 1;simp;omega
  .unfold lC;rw[z,g9 (show¬1<=s.size by omega)];rfl
theorem Yy(s:Sl)(l:az)(most:Int)(h:f7)(q:Rd h s 1 aw l)(z:hY l<=2^40):ai xT 173 #[s,xJ xP most] h λv h'=>v=xN (pH l most)/\h'=h:=by
 refine ts Tryz.func173 ?_ (v7 (wj [(9,aU)] [(4,7),(9,32)]));have u:=q.len;refine aq (λi:Nat=>(i:Int)) (λi h'=>i<=hY l/\h'=h/\∀j,j<i->ko l most j=ez) (λi=>hY l-i) 0 hZ ⟨ii,hZ,ii⟩ ?_;rintro i d ⟨y,rfl,b⟩;refine af (λe=>?_) (λe=>?_)
 .have c:i<hY l:=by have w:(i:Int)<(s.len:Int):=e;omega
  refine q.bo i hZ c l[i] hZ ?_;have o:l.getD i 0=l[i]:=getD_lt c;have k:ko l most i=eH->Value.bool eH=xN (pH l most)/\d=d:=λp=>⟨by unfold pH;rw[Ej c p],hZ⟩
  have a:ko l most i=ez->∃m:Nat,qe xP ((i:Int)+1)=(m:Int)/\(m<=hY l/\d=d/\∀j,j<m->ko l most j=ez)/\l.length-m<hY l-i:=λp=>
   ⟨i+1,i9,⟨ii,hZ,λj t=>by
    by_cases r:j=i
    .rw[r];exact p
    .exact b j ii⟩,ii⟩
  refine(rS l[i] 0 most d).xa ⟨_,hZ,aW (λf=>k (by unfold ko;rw[o,f];rfl)) λf=>af (λe2=>?_) λe2=>a (by unfold ko;rw[o,f,g0 (show i=0 by omega)];rfl)⟩;rw[ag ((i:Int)-1)];refine q.bo (i-1) ii ii (l[i-1]'ii) hZ ?_;have g:l.getD (i-1) 0=l[i-1]'ii:=getD_lt;refine af (λx=>k ?_) (λx=>a ?_)
  .unfold ko;rw[o,g,f,g9 (show¬i=0 by omega),g9 ii];rfl
  .unfold ko;rw[o,g,f,g0 (show l[i-1]'ii<l[i]by omega)];simp
 .have w:¬(i:Int)<(s.len:Int):=e;exact⟨by unfold pH;rw[tk λj t=>b j ii],hZ⟩
theorem pU(p:Pm)(n:Int)(h:f7)(m:n<=2^40:=by omega):ai xT 77 #[kb p,xJ xP n] h λv h'=>v=xJ xP (countP p n)/\Sp h h' []:=by
 refine ts Tryz.func77 ?_ (v7 (ws [] [(4,12)] u9)) (args:=[p,(n:Int)]);refine(Sp.refl h).boxed λo d f=>?_;refine aG ⟨p,(f.box 0 hZ).aA _ hZ,(eE p d).xc λj k=>?_⟩;have b:=f.up k.ac;refine⟨_,hZ,aW (λe=>⟨?_,b.bt []⟩) λg=>af (λe=>⟨?_,b.bt []⟩) λe=>?_⟩
 .unfold countP;rw[e];rfl
 .unfold countP;rw[g9 (show¬0<n by omega),Bool.and_false];rfl
 .have i:=(bP p).1 g;refine⟨p,(b.box 0 hZ).aA _ hZ,?_⟩;refine(BP p (R:=λv h'=>v=xJ xP (p.1*p.2.2)/\Sp h h' []) ?_).mono ?_
  .skip
   refine b.boxed λq h3 c=>⟨p.1,(c.box 1 hZ).cell0 hZ,p.2.2,(c.box 1 hZ).cell hZ,?_,c.bt []⟩
   have r:p.1*p.2.2<=16*24:=w7 ii ii ii ii;have a:0<=p.1*p.2.2:=vX ii ii;rw[ag _]
  .rintro _ h3 ⟨rfl,l⟩;have a:0<p.1*p.2.2:=xx ii ii;refine⟨_,hZ,Int.ne_of_gt a,?_,l⟩;have d:(n-1)/(p.1*p.2.2)<=n-1:=xh _ ii;have j:0<=(n-1)/(p.1*p.2.2):=xp ii ii;rw[ag (n-1),Int.tdiv_eq_ediv_of_nonneg ii,ag ((n-1)/(p.1*p.2.2)),ag _];unfold countP;rw[g,g0 (show 0<n by omega)];rfl
theorem RL(s:Sl)(l:az)(h:f7)(f:Rd h s 1 aw l)(k:hY l<=2^40):ai xT 105 #[s,.func (.func 235) #[] #[]] h λv h'=>v=xN (!l.all (fR · 0 15))/\h'=h:=by
 refine ts Tryz.func105 ?_ (args:=[s,(.func (.func 235) #[] #[])]);have g:=f.len;refine(iY s (235,#[],#[]) (R:=λv h'=>(∃i:Int,v=xJ xP i/\(decide (i>=0)=!l.all (fR · 0 15)))/\h'=h) ?_).mono ?_
 .skip
  refine aq (λi:Nat=>(i:Int)) (λi h'=>i<=hY l/\(l.take i).all (fR · 0 15)=ez/\h'=h) (λi=>hY l-i) 0 hZ ⟨ii,i6,hZ⟩ ?_;rintro i c ⟨d,a,rfl⟩;refine af (λe=>?_) (λe=>?_)
  .have b:i<hY l:=by have j:(i:Int)<(s.len:Int):=e;omega
   refine f.bo i hZ b l[i] hZ (dV kt ?_);refine(HN l[i] (R:=λv h'=>v=xN (!fR l[i] 0 15)/\h'=c) ?_).mono ?_
   .skip
    refine(rS l[i] 0 15 c).xa ⟨_,hZ,hZ,hZ⟩
   .rintro _ _ ⟨rfl,rfl⟩;refine⟨_,hZ,aW (λe2=>?_) λe2=>?_⟩
    .refine⟨⟨i,hZ,?_⟩,hZ⟩;rw[g0 (show(i:Int)>=0 by omega)];have:l.all (fR · 0 15)=eH:=yF.2 ⟨_,qf b,by rw[e2];simp⟩;rw[this];rfl
    .refine⟨i+1,i9,⟨ii,?_,hZ⟩,ii⟩;rw[aE _ _ b,y0,a];simp[e2]
  .have j:¬(i:Int)<(s.len:Int):=e;refine⟨⟨-1,hZ,?_⟩,hZ⟩;rw[qh ii]at a;rw[a];rfl
 .rintro _ c ⟨⟨i,rfl,d⟩,rfl⟩;exact⟨i,hZ,by rw[d],hZ⟩
structure cC (m:ak):Prop where
 dr:m.drives.length<=2^30
 ob:m.objs.length<=2^30
 nm:∀e∈m.objs,e.name.size<=2^30/\e.tries.length<=2^30
theorem addr_add(a:eS)(i j:Nat):(a.add i).add j=a.add (i+j):=by unfold Addr.add;by_cases c:i=0<;>by_cases b:j=0<;>simp[c,b,wU]
theorem bQ.tI{h:f7}{a:eS}{e:TypeId}{b:aT}{v:Value}(c:bQ h a e b)(i j:Nat)(d:b[i+j]?=dB v):eX h ((a.add i).add j)=dB v:=by rw[addr_add];exact c.cell d
theorem bQ.Gk{h:f7}{a:eS}{e:TypeId}{b:aT}{u v w:Value}(c:bQ h a e b)(i:Nat)(g:b[i]?=dB u)(d:b[i+1]?=dB v)(f:b[i+2]?=dB w):bj h (a.add i) 0 [u,v,w]:=
 ⟨c.tI i 0 g,c.tI i 1 d,c.tI i 2 f,x7⟩
abbrev KV:bL C.toBH 83 111 4 [xM ⟨#[]⟩,xJ xP 0,xJ xP 0,xK et 0 0] 56:=⟨_,_,hZ,hZ,hZ,hZ,hZ,hZ⟩
theorem VE(x:bh)(m:ak)(e:dP)(E:Qw.cb)(h:f7)(i:cR h x m)(L:eu gV h e E)(F:lD m=ez)(N:E.name.size<=2^30)(O:E.tries.length<=2^30):
  ai xT 174 #[dK x,xO #[xM e.1,xJ xP e.2.1,xJ xP e.2.2.1,e.2.2.2]] h λv h'=>v=xN (gQ m E)/\Sp h h' []:=by
 refine ts Tryz.func174 ?_ (v7 (ws [] [(4,5),(6,33)] u9)) (args:=[x,e]);obtain⟨_,z,f,_⟩:=OF F;have A:=(bP m.p).1 f;obtain⟨⟨D,e2,y⟩,t⟩:=L;have c:x.2.2.1=m.p.1:=congrArg (·.1) i.p;have o:x.2.2.2.1=m.p.2.1:=congrArg (·.2.1) i.p;have d:x.2.2.2.2.1=m.p.2.2:=congrArg (·.2.2) i.p;have R:m.p.1*m.p.2.2<=16*24:=w7 ii ii ii ii;have J:0<=m.p.1*m.p.2.2:=vX ii ii;refine(Sp.refl h).boxed λP M H=>?_;refine H.boxed λQ B s=>?_;have k:∀{h':f7} {As:List HP},Sp h h' As->gQ m E=eH->Value.bool eH=xN (gQ m E)/\Sp h h' []:=λ{h' As} H' g=>⟨by rw[g],.zip H'.ac⟩
 refine aG ⟨E.name,by rw[<-D];exact(s.box 1 hZ).cell0 hZ,(Mc E.name B ii).xc λh3 K=>?_⟩;have a:=s.up K.ac;refine⟨_,hZ,aW (λb=>k a (by unfold gQ;rw[b];rfl)) λj=>?_⟩;refine⟨E.object,by rw[<-e2];exact(a.box 1 hZ).cell hZ,m.next,by rw[<-i.next];exact(a.box 0 hZ).cell hZ,?_⟩
 try dsimp only
 rw[ag (m.next-1)];refine(rS E.object 0 (m.next-1) h3).xa ⟨_,hZ,aW (λb=>k a (by unfold gQ;rw[j,b];rfl)) λr=>?_⟩;have g:=a.box 0 hZ;refine⟨E.length,by rw[<-y];exact(a.box 1 hZ).cell hZ,m.p.1,by rw[<-c];exact g.cell hZ,m.p.2.2,by rw[<-d];exact g.tI 2 2 hZ,?_⟩
 try dsimp only
 rw[ag (m.p.1*m.p.2.2),ag (m.p.1*m.p.2.2*8)];refine(rS E.length 0 (m.p.1*m.p.2.2*8) _).xa ⟨_,hZ,aW (λb=>k a (by unfold gQ;rw[j,r,b];rfl)) λl=>?_⟩;have w:0<=E.length/\E.length<=m.p.1*m.p.2.2*8:=by unfold fR at l;simpa using l
 refine⟨e.2.2.2,(a.box 1 hZ).cell hZ,?_⟩;refine(RL e.2.2.2 E.tries _ (Seq.up t a.ac) ii).xa ⟨_,hZ,aW (λb=>?_) λb=>⟨x7,k a ?_⟩⟩
 .have q:E.tries.all (fR · 0 15)=ez:=j9
  refine⟨e.2.2.2,(a.box 1 hZ).cell hZ,m.p,?_,E.length,by rw[<-y];exact(a.box 1 hZ).cell hZ,?_⟩
  .rw[<-c,<-o,<-d];exact g.Gk 2 hZ hZ hZ
  .refine(pU m.p E.length _).xc λS G=>?_;have u:=a.up G.ac;refine⟨_,hZ,⟨(u.box 1 hZ).cell hZ,x7⟩,?_,.zip u.ac⟩;unfold gQ;have I:=t.len;rw[j,r,l,q,I];simp;rfl
 .have q:E.tries.all (fR · 0 15)=eH:=j9
  unfold gQ;rw[j,r,l,q];rfl
theorem RM(a:eS)(e:dP)(l:Sl)(b:List Qw.cb)(h:f7)(p:bQ h a 111 (bY e))(r:eu rR h l b)(F:b.length<=2^30):
  ai xT 175 #[l,.func (.func 176) #[] #[xL (dB a)]] h λv h'=>v=xN (b.any λy=>decide (y.object=e.2.1))/\Sp h h' []:=by
 refine ts Tryz.func175 ?_ (args:=[l,(.func (.func 176) #[] #[xL (dB a)])]);refine(iH l (176,#[],#[xL (dB a)]) (R:=λv h'=>(∃i:Int,v=xJ xP i/\(decide (i>=0)=b.any λy=>decide (y.object=e.2.1)))/\Sp h h' []) ?_).mono ?_
 .skip
  obtain⟨q,u,E,B⟩:=bN.kN r;have t:=bN.len r;refine aq (λi:Nat=>(i:Int)) (λi h'=>i<=b.length/\(b.take i).any (λy=>decide (y.object=e.2.1))=eH/\Sp h h' []) (λi=>b.length-i) 0 hZ ⟨ii,i6,Sp.refl h⟩ ?_;rintro i k ⟨o,c,j⟩;refine af (λm=>?_) (λm=>?_)
  .have d:i<b.length:=by have z:(i:Int)<(l.len:Int):=m;omega
   obtain⟨⟨_,x,_⟩,_⟩:=B i ii d;refine(Seq.up u j.ac).de (g:=bY) i hZ ii (q[i]'ii) hZ (dV kt ?_);refine(KT (q[i]'ii) a (R:=λv h'=>v=xN (b[i].object==e.2.1)/\Sp k h' []) ?_).mono ?_
   .skip
    refine(Sp.refl k).boxed λD s f=>?_;have n:=p.ac (up j.ac f.ac) p.lt;exact⟨b[i].object,by rw[<-x];exact(f.box 0 hZ).cell hZ,e.2.1,n.cell hZ,hZ,.zip f.ac⟩
   .rintro _ s ⟨rfl,w⟩;have f:=j.up w.ac;refine⟨_,hZ,aX (λe2=>?_) λe2=>?_⟩
    .refine⟨⟨i,hZ,?_⟩,f⟩;rw[g0 (show(i:Int)>=0 by omega)];exact(z7.2 ⟨_,qf d,n5⟩).symm
    .refine⟨i+1,i9,⟨ii,?_,f⟩,ii⟩;rw[aE _ _ d,y5,c];simpa using e2
  .have z:¬(i:Int)<(l.len:Int):=m;refine⟨⟨-1,hZ,?_⟩,j⟩;rw[qh ii]at c;rw[c];rfl
 .rintro _ k ⟨⟨i,rfl,o⟩,A⟩;exact⟨i,hZ,by rw[o],A⟩
theorem CS(x:bh)(m:ak)(h:f7)(d:cR h x m)(M:cC m):ai xT 99 #[dK x] h λv h'=>v=xN (bc m)/\Sp h h' []:=by
 refine ts Tryz.func99 ?_ (v7 (ws [] [(2,3),(5,27)] (ws [] [(2,3),(27,37)] (u7 (v7 (v1 (v2 [(40,aU)] [(2,5),(40,72)] (v7 (v7 (u7 (v1 (v7 (ws [] [(2,3),(45,65)] u9))) u9)))))) u9)))) (args:=[x]);refine(Sp.refl h).boxed λW h1 I=>?_;have w:=I.box 0 hZ;have R:x.2.2.1=m.p.1:=congrArg (·.1) d.p;have J:x.2.2.2.1=m.p.2.1:=congrArg (·.2.1) d.p;have S:x.2.2.2.2.1=m.p.2.2:=congrArg (·.2.2) d.p;have u:∀{h':f7} {As:List HP},Sp h h' As->bc m=eH->Value.bool eH=xN (bc m)/\Sp h h' []:=λ{h' As} H' w=>⟨by rw[w],.zip H'.ac⟩
 refine aG ⟨m.seq,by rw[<-d.seq];exact w.cell0 hZ,(rS m.seq 1 2147483647 h1).xa ?_⟩;refine⟨_,hZ,aW (λb=>u I (by unfold bc lD;rw[b];rfl)) λH=>?_⟩;refine⟨m.next,by rw[<-d.next];exact w.cell hZ,(rS m.next 0 16777216 _).xa ?_⟩;refine⟨_,hZ,aW (λb=>u I (by unfold bc lD;rw[H,b];rfl)) λU=>?_⟩;refine⟨m.p,by rw[<-R,<-J,<-S];exact w.Gk 2 hZ hZ hZ,(eE m.p _).xc λh2 R2=>?_⟩;have r:=I.up R2.ac;refine⟨_,hZ,aW (λb=>u r (by unfold bc lD;rw[H,U,b];rfl)) λY=>?_⟩;refine⟨m.extra,by rw[<-d.extra];exact(r.box 0 hZ).cell hZ,(rS m.extra 0 16 _).xa ?_⟩;refine⟨_,hZ,aW (λb=>u r (by unfold bc lD;rw[H,U,Y,b];rfl)) λb4=>?_⟩;have G:lD m=ez:=by unfold lD;rw[H,U,Y,b4];rfl
 have Q:=d.up r.ac;have y:=r.box 0 hZ;have al:=M.dr;have ad:=M.ob;refine aG ⟨_,y.cell hZ,(Yy _ m.drives 63 _ Q.drives ii).xa ?_⟩;refine⟨_,hZ,aW (λb=>u r (by unfold bc;rw[G,b];rfl)) λb5=>?_⟩;have Z:=bN.len d.objs;refine⟨x.2.2.2.2.2.2.2,y.cell hZ,af (λe=>u r ?_) λah=>?_⟩
 .unfold bc;rw[G,b5,g9 ii];rfl
 have T:hY m.objs<=12:=ii
 refine⟨x.2.2.2.2.2.2.2,y.cell hZ,?_⟩;obtain⟨q,E⟩:=bN.fix d.objs;have ab:=E.2.1;refine aq (λi:Nat=>(i:Int)) (λi h'=>i<=hY m.objs/\(∀j,j<i->pI m j=ez)/\Sp h h' [aj W 85 (aM x)]) (λi=>hY m.objs-i) 0 hZ ⟨ii,ii,r⟩ ?_;rintro i h3 ⟨hi,l,P⟩;refine af (λe=>?_) (λe=>?_)
 .have f:i<hY m.objs:=by have e':(i:Int)<(x.2.2.2.2.2.2.2.len:Int):=e;omega
  have A:=M.nm _ (qf f);have k:pG m.objs i=m.objs[i]:=oO f;have z:∀{h':f7} {As:List HP},Sp h h' As->pI m i=eH->Value.bool eH=xN (bc m)/\Sp h h' []:=λ{h' As} H' w=>u H' (by unfold bc;rw[Ej f w];simp);have F3:=oh.up E P.ac;refine F3.1.de (g:=bY) i hZ ii (q[i]'ii) hZ ?_;refine P.alloc ae hZ λB h4 H4=>?_;refine H4.storeAll ae 1 hZ hZ (bY (q[i]'ii)) hZ hZ hZ hZ λh5 D=>?_;have V:=oh.up E D.ac;obtain⟨⟨y1,y2,y3⟩,y4⟩:=Fix.row V f;obtain⟨b6,c⟩:∃b,b=(decide (i=0)||fK (pG m.objs (i-1)).name (pG m.objs i).name):=⟨_,rfl⟩
  refine bB (λ_ h'=>gQ m m.objs[i]=ez/\b6=ez/\Sp h h' [aj W 85 (aM x),aj B 111 (bY (q[i]'ii))]) ?_ ?_
  .refine⟨x,(D.box 0 hZ).aA _ hZ,q[i]'ii,(D.box 1 hZ).aA _ hZ,?_⟩;refine(VE x m (q[i]'ii) m.objs[i] h5 (d.up D.ac) (Fix.row V f) G A.1 A.2).xc λX R6=>?_;have a:=D.up R6.ac;have F:=oh.up E a.ac;refine⟨_,hZ,x7,aW (λb=>z a (by unfold pI;rw[k,b];rfl)) λb=>af (λe2=>?_) λe2=>⟨b,by rw[c,g0 (show i=0 by omega)];rfl,a⟩⟩;rw[ag ((i:Int)-1)];obtain⟨O,ha,zz,hc,rfl⟩:=F.1.de (g:=bY) (i:=(i:Int)-1) (i-1) ii ii (q[i-1]'ii) rfl (K:=λt=>t=q[i-1]'ii) rfl;refine⟨x.2.2.2.2.2.2.2,(a.box 0 hZ).cell hZ,O,ha,m.objs[i-1].name,?_,m.objs[i].name,?_,?_⟩
   .rw[<-(Fix.row F (show i-1<hY m.objs by omega)).1.1];exact hc.1
   .rw[<-y1];exact(a.box 1 hZ).cell0 hZ
   .have o:pG m.objs (i-1)=m.objs[i-1]:=oO;rw[k,o]at c;refine aW (λs=>z a ?_) (λs=>⟨b,?_,a⟩)
    .unfold pI;rw[k,o,b,g9 (show¬i=0 by omega)];unfold fK;rw[s];rfl
    .rw[c];unfold fK;rw[s];simp
  .rintro _ X ⟨b,L,a⟩;have F:=oh.up E a.ac;refine⟨x.2.2.2.2.2.2.2,(a.box 0 hZ).cell hZ,⟨ii,by have:=d.ocap;omega⟩,?_⟩;rw[qj];refine(RM B (q[i]'ii) ⟨x.2.2.2.2.2.2.2.ptr,i,x.2.2.2.2.2.2.2.cap⟩ (m.objs.take i) X (a.box 1 hZ) (bN.take F.elt i ii) i5).xc λh7 R7=>?_;have H7:=a.up R7.ac;rw[y2];refine⟨_,hZ,aY (λs=>z H7 ?_) λs=>?_⟩
   .unfold pI;rw[k,s];simp
   .refine⟨i+1,i9,⟨ii,λj hj=>?_,H7.bt [0]⟩,ii⟩;by_cases N:j=i
    .subst N;rw[L]at c;unfold pI;rw[<-c,k,b,s];rfl
    .exact l j ii
 .have e':¬(i:Int)<(x.2.2.2.2.2.2.2.len:Int):=e;refine⟨?_,.zip P.ac⟩;unfold bc;rw[G,b5,g0 T,tk λj hj=>l j ii];rfl
theorem sE(s:Sl)(l:aL)(n:Int)(k:Nat)(w:k<=4)(x:hY l<=2^20)(H:aa B h0 h (an 5 s 1 aB l::As)):
  ai xT 177 #[s,xJ xP n,xJ xP k] h λv h'=>∃b:Sl,v=b/\aa B h0 h' (an 5 b 1 aB (l++bE n k)::As):=by
 refine ts Tryz.func177 ?_ (v7 (wj [(0,cM),(7,aU)] [(0,1),(7,8),(10,22)]));have c:=cw n k;refine aq (λt:Sl×Nat=>(t.1,(k:Int)-1-t.2)) (λt h'=>t.2<=k/\aa B h0 h' (an 5 t.1 1 aB (l++(bE n k).take t.2)::As)) (λt=>k-t.2) (s,0) (by rw[ag _];simp) ⟨i6,l4⟩ ?_;rintro⟨o,j⟩ q ⟨r,a⟩;dsimp only at*;refine af (λe=>?_) (λe=>?_)
 .have g:j<k:=ii
  rw[ag ((8:Int)*((k:Int)-1-j))];refine⟨ii,?_⟩;have f:((8:Int)*((k:Int)-1-j)).toNat=8*(k-1-j):=ii
  have i:min (8*(k-1-j)) (qI xP)=8*(k-1-j):=by have:qI xP=64:=rfl;omega
  rw[f,i,fg];have p:b8 (zQ n (2^(8*(k-1-j))))=(bE n k)[j]'ii:=by simp[bE]
  rw[p];refine a.push ae 0 hZ gN hZ i0 (λ_=>rfl) ic ((bE n k)[j]'ii) hZ i0 i5 λm u d=>?_;refine⟨(m,j+1),by dsimp only;rw[ag _];congr 1;omega,⟨i4,?_⟩,i4⟩
  try dsimp only
  rw[aE _ _ (show j<hY (bE n k) by omega),<-qn];exact d
 .rw[qh ii]at a;exact⟨o,hZ,a⟩
theorem Ji(b:Sl)(l:az)(o:Sl)(c:aL)(H:aa B h0 h (an 5 o 1 aB c::As))(q:St B h0 As λh=>Rd h b 1 aw l)(F:hY c<=2^30)(G:hY l<=2^30){K:Sl×Int->f7->Prop}
  (A:∀r h',aa B h0 h' (an 5 r 1 aB (c++l.map b8)::As)->K (r,(hY l:Int)) h'):
  gX (σ:=Sl×Int) (λa y h8=>
 Br (decide (a.2<((b.len:Nat):Int)))
 (∃j:eS,(b.ptr=dB j/\0<=a.2/\a.2<((b.len:Nat):Int))/\
 ∃k:Int,eX h8 (j.add (a.2.toNat*1))=dB (xJ xP k)/\
 bx xT (Instr.buildSlice 34 1 #[(0,(xJ xQ (qe xQ k)))]) (.one (.sc .slc)) h8 λf z=>
 bx xT (Builtin.append_ #[34,34] 34 #[(xK a.1.ptr a.1.len a.1.cap),(xK f.ptr f.len f.cap)]) (.one (.sc .slc)) z λd p=>
 y ((⟨d.ptr,d.len,d.cap⟩:Sl),qe xP (a.2+(1:Int))) p)
 (K a h8)) (o,(0:Int)) h:=by
 have x:b.len=hY l:=(q.at [_] H).len;refine aq (λt:Sl×Nat=>(t.1,(t.2:Int))) (λt h'=>t.2<=hY l/\aa B h0 h' (an 5 t.1 1 aB (c++(l.take t.2).map b8)::As)) (λt=>hY l-t.2) (o,0) hZ ⟨i6,l4⟩ ?_;rintro⟨u,i⟩ s ⟨E,m⟩;dsimp only at*;refine af (λe=>?_) (λe=>?_)
 .have g:i<hY l:=ii
  refine(q.at [_] m).bo i hZ g l[i] hZ ?_;rw[fg];refine m.push ae 0 hZ gN hZ i0 (λ_=>rfl) ic (b8 l[i]) hZ i0 i5 λv D w=>?_;refine⟨(v,i+1),i7,⟨i4,?_⟩,i4⟩
  try dsimp only
  rw[aE _ _ g,qN,<-qn];exact w
 .have n:i=hY l:=ii
  subst n;rw[qM]at m;exact A u s m
theorem afv{m:ak}(a:bc m=ez){i:Nat}(b:i<hY m.objs):gQ m m.objs[i]=ez:=by
 unfold bc at a;simp only[qy]at a;have:=qK.1 a.2.2.2 i (qz.2 b);unfold pI at this;simp only[qy]at this;have c:=this.1
 rwa [oO b]at c
theorem Yz{m:ak}(d:bc m=ez){i:Nat}(f:i<m.objs.length):m.objs[i].name.size<=12/\m.objs[i].tries.length<=3073:=by
 have b:=afv d f;unfold gQ lC at b;simp only[qy,decide_eq_true_eq]at b;obtain⟨⟨_,_,h⟩,_,h3,_,c⟩:=b;refine⟨h,?_⟩;obtain⟨_,_,a,_⟩:=OF (XM d);have g:=(bP m.p).1 a;unfold fR at h3;simp only[qy,decide_eq_true_eq]at h3;have j:m.p.1*m.p.2.2<=16*24:=w7 ii ii ii ii;unfold countP at c;split at c
 .have:(m.objs[i].length-1)/(m.p.1*m.p.2.2)<=m.objs[i].length-1:=xh _ (by rename_i e;simp at e;omega);omega
 .omega
theorem YA{m:ak}(b:bc m=ez){i:Nat}(a:i<hY m.objs):hY (ge m.objs[i])<=4000:=by have:=Yz b a;unfold ge;simp[cw];have:m.objs[i].name.data.size=m.objs[i].name.size:=rfl;omega
theorem ER{m:ak}(a:bc m=ez):∀n,n<=hY m.objs->hY ((m.objs.take n).flatMap ge)<=n*4000
 |0,_=>i6
 |n+1,hn=>by
  rw[aE _ _ (show n<hY m.objs by omega),q9,qw];have b:=ER a n ii;have c:=YA a (show n<hY m.objs by omega);have h3:hY ([m.objs[n]].flatMap ge)=hY (ge m.objs[n]):=by rw[zb,z6,qG]
  omega
theorem HQ{m:ak}(a:bc m=ez):hY m.objs<=12:=by unfold bc at a;simp only[qy,decide_eq_true_eq]at a;exact a.2.2.1
theorem HR(m:ak)(k:cC m):hY (bO m)<=100000:=by
 unfold bO;split
 .rename_i d;have b:=d;unfold bc at b;simp only[qy,decide_eq_true_eq]at b;have j:hY m.drives<=64:=by
   have a:=b.2.1;unfold pH at a;rw[qK]at a;by_cases g:hY m.drives<=64
   .exact g
   .exfalso;have e:∀i,i<hY m.drives->(i:Int)<=m.drives.getD i 0:=λi=>by
     induction i with
     |zero=>
      intro f;have:=a 0 (qz.2 f);unfold ko fR at this;simp at this;simpa using this.1
     |succ i ih=>
      intro f;have:=a (i+1) (qz.2 f);have h3:=ih ii;unfold ko fR at this;simp at this;have c:=this.2;simp only[qd]at h3⊢;omega
    have h3:=e 64 ii;have c:=a 64 (qz.2 ii);unfold ko fR at c;simp at c;simp only[qd]at h3;omega
  have h:hY (m.objs.flatMap ge)<=12*4000:=by have a:=ER d m.objs.length (qm _);rw[qM]at a;have:=zF 4000 (HQ d);omega
  simp only[qw,za,yp,qu,cw];omega
 .simp
theorem ES(x:bh)(m:ak)(h:f7)(d:cR h x m)(hz:cC m):ai xT 103 #[dK x] h λv h'=>∃r:Sl,v=r/\Sp h h' [an 5 r 1 aB (bO m)]:=by
 refine ts Tryz.func103 ?_ (v7 (v7 (ws [(3,cM)] [(3,4),(13,19)] (v7 (u7 (v7 (v1 (v2 [(3,cM),(44,aU)] [(3,4),(5,6),(44,54)] u9))) (v7 (u7 (v7 (v1 (v2 [(3,cM),(64,aU)] [(3,4),(7,8),(9,10),(64,99)] (v7 (v7 (u7 (v1 (v7 (ws [(3,cM)] [(3,4),(68,78)] (ws [(3,cM)] [(3,4),(78,85)] (v7 (v1 (v2 [(3,cM),(88,aU)] [(3,4),(9,10),(88,98)] u9))))))) u9)))))) u9))))))) [(3,(.l [0,1,3,4,2,5,6])),(14,(.l [0,1,2,3,4,7,8,5,6,9,10])),(15,(.l [0,1,2,4,5,3,6,7]))] (args:=[x]);refine(Sp.refl h).boxed λa1 h1 H1=>?_;refine⟨x,(H1.box 0 hZ).aA _ hZ,(CS x m h1 (d.up H1.ac) hz).xc λh2 R2=>?_⟩;have H2:=H1.up R2.ac;refine⟨_,hZ,aW (λe=>?_) λA=>?_⟩
 .unfold bO;rw[e];exact⟨⟨et,0,0⟩,hZ,((H2.nil 5 1 aB).bt [1])⟩
 have am:x.2.2.1=m.p.1:=congrArg (·.1) d.p;have W:x.2.2.2.1=m.p.2.1:=congrArg (·.2.1) d.p;have ao:x.2.2.2.2.1=m.p.2.2:=congrArg (·.2.2) d.p;have J:=H2.box 0 hZ;have b:=HR m hz;unfold bO at b;rw[A,f8 rfl]at b;have hM:∀{h':f7} {As:List HP},Sp h h' As->cR h' x m:=λ{h' As} G=>d.up G.ac;refine aG ⟨m.seq,by rw[<-d.seq];exact J.cell0 hZ,m.next,by rw[<-d.next];exact J.cell hZ,?_⟩;have H3:=(H2.nil 5 1 aB).aZ;refine(sE ⟨et,0,0⟩ [] m.seq 4 i0 i6 H3).x0 λs4 h4 H4=>⟨s4,hZ,⟨by rw[<-d.next];exact(H4.box 1 hZ).cell hZ,x7⟩,?_⟩;refine(sE s4 _ m.next 4 i0 p6 H4).x0 λs5 h5 H5=>⟨s5,hZ,x7,?_⟩;have j:=H5.box 1 hZ;refine⟨m.p.1,by rw[<-am];exact j.cell hZ,m.p.2.1,by rw[<-W];exact j.tI 2 1 hZ,m.p.2.2,by rw[<-ao];exact j.tI 2 2 hZ,m.extra,by rw[<-d.extra];exact j.cell hZ,x.2.2.2.2.2.2.1,j.cell hZ,?_⟩;have ax:=d.drives.len;have al:=bN.len d.objs
 try dsimp only
 rw[fg,fg,fg,fg,fg,ax];refine H5.lit ae aB gN hZ [b8 m.p.1,b8 m.p.2.1,b8 m.p.2.2,b8 m.extra,b8 (m.drives.length:Nat)] hZ (show 5*1<=2^20 by decide) hZ λbb h6 H6=>?_;refine H6.append ae 0 hZ gN ⟨_,_,hZ,hZ⟩ hZ i0 (λ_=>rfl) (H6.seq 2 hZ λ_=>rfl) ic p6 λs7 h7 R=>?_;have R:=R.bt [0,1];refine⟨x.2.2.2.2.2.2.1,(R.box 1 hZ).cell hZ,?_⟩;have ay:(([]++bE m.seq 4)++bE m.next 4++[b8 m.p.1,b8 m.p.2.1,b8 m.p.2.2,b8 m.extra,b8 (m.drives.length:Nat)]).length=13:=p6
 have a0:=hz.dr;refine Ji x.2.2.2.2.2.2.1 m.drives s7 _ R (St.mk' λh' G=>(hM G).drives) ii ii λs8 h8 H8=>?_
 try dsimp only
 refine⟨x.2.2.2.2.2.2.2,(H8.box 1 hZ).cell hZ,?_⟩
 try dsimp only
 rw[fg,al];obtain⟨a,c⟩:=x6 (([]++bE m.seq 4)++bE m.next 4++[b8 m.p.1,b8 m.p.2.1,b8 m.p.2.2,b8 m.extra,b8 (m.drives.length:Nat)]++m.drives.map b8)
 rw[<-c]at H8;have ah:a.length=13+m.drives.length:=by rw[c];simp[cw];omega
 simp only[qw,za,yp,qu,cw]at b;refine H8.push ae 0 hZ gN hZ i0 (λ_=>rfl) ic (b8 (m.objs.length:Nat)) hZ i0 ii λs9 h9 P=>?_;have P:Sp h h9 [an 5 s9 1 aB (a++[b8 (m.objs.length:Nat)]),aj a1 85 (aM x)]:=P;refine⟨x.2.2.2.2.2.2.2,(P.box 1 hZ).cell hZ,?_⟩;obtain⟨S,Q⟩:=bN.fix d.objs;have a2:=Q.2.1;refine aq (λt:Sl×Nat=>(t.1,(t.2:Int))) (λt h'=>t.2<=m.objs.length/\Sp h h' [an 5 t.1 1 aB (a++[b8 (m.objs.length:Nat)]++(m.objs.take t.2).flatMap ge),aj a1 85 (aM x)]) (λt=>m.objs.length-t.2) (s9,0) hZ ⟨i6,by simpa using P⟩ ?_;rintro⟨o,i⟩ bk ⟨hi,k⟩;dsimp only at*;refine af (λe=>?_) (λe=>?_)
 .have q:i<m.objs.length:=ii
  have T:=oh.up Q k.ac;have ad:=Yz A q;have u:((m.objs.take i).flatMap ge).length<=50000:=by have h1:=ER A i hi;have:=HQ A;have:i*4000<=12*4000:=zF _ ii;omega
  refine T.1.de (g:=bY) i hZ ii (S[i]'ii) hZ ?_;refine k.alloc ae hZ λa4 a5 Z=>?_;refine Z.storeAll ae 2 hZ hZ (bY (S[i]'ii)) hZ hZ hZ hZ λar f=>?_;have ab:=oh.up Q f.ac;obtain⟨⟨y,y2,y3⟩,y4⟩:=Fix.row ab q;obtain⟨E,X⟩:=x6 (m.objs[i])
  rw[<-X]at y y2 y3 y4 ad;have s:=f.box 2 hZ;refine aG ⟨E.name,n0,E.name,n0,?_⟩;rw[fg];refine f.oX ae aB gN hZ [b8 (E.name.size:Nat)] hZ (show 1*1<=2^20 by decide) hZ ⟨n0,n0,x7⟩ ?_;have L:(a++[b8 (m.objs.length:Nat)]++(m.objs.take i).flatMap ge).length<=160000:=by rw[qw,qw,ah];simp;simp at u;omega
  obtain⟨w,K⟩:=x6 (a++[b8 (m.objs.length:Nat)]++(m.objs.take i).flatMap ge)
  rw[<-K]at f L;refine f.push ae 0 hZ gN hZ i0 (λ_=>rfl) ic (b8 (E.name.size:Nat)) hZ i0 ii λa3 a7 I=>?_;have O:=I.box 2 hZ;refine⟨⟨by rw[<-y];exact O.cell0 hZ,by rw[<-y];exact O.cell0 hZ,x7⟩,?_⟩;refine I.XL ae 0 hZ gN ⟨_,hZ,hZ⟩ hZ i0 E.name i5 λV a6 N=>?_;have z:=N.box 2 hZ;refine⟨⟨by rw[<-y];exact z.cell0 hZ,x7⟩,?_⟩;refine aG ⟨E.object,by rw[<-y2];exact z.cell hZ,E.length,by rw[<-y3];exact z.cell hZ,?_⟩;have bl:=Cr E.name;refine(sE V _ E.object 3 i0 i5 N).x0 λF bd M=>?_;have Y:=M.box 2 hZ;refine⟨F,hZ,⟨by rw[<-y3];exact Y.cell hZ,x7⟩,?_⟩;refine(sE F _ E.length 2 i0 m4 M).x0 λB a8 H=>?_;have ap:=H.box 2 hZ;refine⟨B,hZ,x7,(S[i]'ii).2.2.2,ap.cell hZ,?_⟩;refine Ji (S[i]'ii).2.2.2 E.tries B _ H (St.mk' λh' G=>by rw[X];exact(Fix.row (oh.up Q G.ac) q).2) m4 ii λU a9 D=>?_
  try dsimp only
  have ar:=HQ A;refine⟨(U,i+1),i7,⟨i4,?_⟩,i4⟩
  try dsimp only
  rw[aE _ _ q,q9,<-qn,<-K,zb,z6,qG,<-X];have e3:w++[b8 (E.name.size:Nat)]++jM E.name++bE E.object 3++bE E.length 2++E.tries.map b8=w++ge E:=by unfold ge jM;simp[qn]
  rw[e3]at D;exact D.bt [0,1]
 .rw[qh ii]at k;refine⟨o,hZ,?_⟩;have e2:a++[b8 (m.objs.length:Nat)]++m.objs.flatMap ge=bO m:=by rw[c];unfold bO;rw[A,f8 rfl];simp[qn]
  rw[e2]at k;exact k.bt [0]
def iI{α:Type}(k:Nat)(f:α->aT)(L:List (Sl×List α)):HP:=⟨λh q=>∀y∈L,Seq h q y.1 k f y.2,λa d y b=>(a y b).ac d,λa c y b=>(a y b).mono c⟩
variable {α:Type} {k:Nat} {L:List (Sl×List α)} {s:Sl} {l:List α}
section
variable {f:α->aT}
theorem aa.KW(H:aa B h0 h As)(k:Nat)(f:α->aT):aa B h0 h (iI k f []::As):=
 (H.comp (.one (A:=iI k f []) (aS.refl _ _) λy a=>t7)).aZ
theorem aa.KX(H:aa B h0 h (iI k f L::td s k f l::As)):aa B h0 h (iI k f ((s,l)::L)::As):=by
 have g:=H.jw;refine g.eW 0 hZ λq ⟨j,i,_,b,c,d,e⟩ y a=>?_;rcases qT.1 a with rfl|a
 .exact d.mono b
 .exact(e y a).mono c
theorem aa.afw(H:aa B h0 h (iI k f L::As)){y:Sl×List α}(a:y∈L):Rd h y.1 k f y.2:=H.at 0 hZ y a
end
theorem ahE(n:Int):bE n 4=[b8 (zQ n (2^24)),b8 (zQ n (2^16)),b8 (zQ n (2^8)),b8 n]:=by
 have e:zQ n (2^0)=n:=i6
 show[b8 (zQ n (2^24)),b8 (zQ n (2^16)),b8 (zQ n (2^8)),b8 (zQ n (2^0))]=_;rw[e]
theorem YB(seq a c:Int)(b:Sl)(l:aL)(h:f7)(q:Rd h b 1 aB l)(x:hY l<=2^20):ai xT 104 #[xJ xP seq,xJ xP a,xJ xP c,b] h λv h'=>∃r:Sl,v=r/\Sp h h' [an 5 r 1 aB (kH seq a c l)]:=by
 refine ts Tryz.func104 ?_;refine⟨i0,i0,i0,?_⟩;have i:min (24:Int).toNat (qI xP)=24:=rfl;have g:min (16:Int).toNat (qI xP)=16:=rfl;have s:min (8:Int).toNat (qI xP)=8:=rfl;rw[i,g,s,fg,fg,fg,fg,fg,fg,fg];have d:=ahE seq;generalize b8 (zQ seq (2^24))=c1 at d⊢;generalize b8 (zQ seq (2^16))=c2 at d⊢;generalize b8 (zQ seq (2^8))=c3 at d⊢;generalize b8 seq=c4 at d⊢;have e:kH seq a c l=eT 2 ([c1,c2,c3,c4]++([b8 a,b8 c,b8 (b.len:Nat)]++l)):=by unfold kH;rw[d,q.len]
 generalize b8 a=c5 at e⊢;generalize b8 c=c6 at e⊢;generalize b8 (b.len:Nat)=c7 at e⊢;refine(Sp.refl h).lit ae aB gN hZ [c1,c2,c3,c4,c5,c6,c7] hZ (show 7*1<=2^20 by decide) js λw u p=>?_;refine p.append ae 0 hZ gN ⟨_,_,hZ,hZ⟩ hZ i0 (λ_=>rfl) (Seq.up q p.ac) ic i5 λn o m=>?_;have k:Rd o n 1 aB ([c1,c2,c3,c4,c5,c6,c7]++l):=m.seq 0 hZ λ_=>rfl;have f:hY ([c1,c2,c3,c4,c5,c6,c7]++l)<=2^40:=i5
 rw[e];have j:[c1,c2,c3,c4,c5,c6,c7]++l=[c1,c2,c3,c4]++([c5,c6,c7]++l):=rfl;rw[<-j];generalize [c1,c2,c3,c4,c5,c6,c7]++l=ll at k f⊢;refine(EQ 2 n ll o k f).x0 λr h3 t=>⟨r,hZ,r,hZ,(aa.comp (Sp.zip m.ac) t)⟩
theorem mu(x:bh)(m:ak)(h:f7)(y:cR h x m)(B:cC m):ai xT 53 #[dK x] h λv h'=>∃r:Sl,v=r/\Sp h h' [gg r (aP m)]:=by
 refine ts Tryz.func53 ?_ (v7 (v7 (v7 (v7 (wj [(5,cM),(16,aU)] [(5,8),(16,39)]))))) (args:=[x]);refine(Sp.refl h).boxed λI F q=>?_;refine⟨x,(q.box 0 hZ).aA _ hZ,(ES x m F (y.up q.ac) B).x0 λb R J=>?_⟩;have j:=q.comp J;have p:=HR m B;obtain⟨l,w⟩:=x6 (bO m)
 rw[<-w]at j p;have H:=(j.own 1 hZ).len;have s:=(j.own 1 hZ).cap;refine⟨b,hZ,i0,?_⟩;have a:qe xP (vm (qe xP ((qe xP (((b.len:Nat):Int)+(48:Int)))-(1:Int))) (48:Int))=(dC l:Int):=by rw[ag ((b.len:Int)+48),ag ((b.len:Int)+48-1),Int.tdiv_eq_ediv_of_nonneg ii];unfold dC;rw[ag (((b.len:Int)+48-1)/48)];omega
 have G:dC l<=3000:=by unfold dC;omega
 rw[a];obtain⟨g,c⟩:∃g:bH,g=aP m:=⟨_,rfl⟩
 have E:hY g=dC l:=by rw[c,w];simp[aP]
 have d:=j.Bf 34 5 1 aB;refine aq (λt:Sl×Nat=>(t.1,(t.2:Int))) (λt h'=>t.2<=dC l/\Sp h h' [gg t.1 (g.take t.2),aj I 85 (aM x),an 5 b 1 aB l]) (λt=>dC l-t.2) (⟨et,0,0⟩,0) hZ ⟨i6,d⟩ ?_;rintro⟨o,i⟩ h3 ⟨T,d⟩;dsimp only at*;refine af (λe=>?_) (λe=>?_)
 .have k:i<dC l:=ii
  have A:48*i<hY l:=by unfold dC at k;omega
  rw[ag ((i:Int)*48),ag ((i:Int)+1),ag (((i:Int)+1)*48)];obtain⟨f,P⟩:∃f:Nat,f=min (48*i+48) l.length:=⟨_,rfl⟩
  have u:(if((i:Int)+1)*48<((b.len:Nat):Int)then((i:Int)+1)*48 else((b.len:Nat):Int))=(f:Int):=by split<;>omega
  rw[u];refine⟨m.seq,by rw[<-y.seq];exact(d.box 1 hZ).cell0 hZ,⟨ii,ii,ii⟩,?_⟩;have K:((i:Int)*48).toNat=48*i:=ii
  rw[K,qj];have D:=((d.seq 2 hZ λ_=>rfl).drop (48*i) s).take (f-48*i) l9;have e2:(l.drop (48*i)).take (f-48*i)=(l.drop (48*i)).take 48:=by
   by_cases U:48*i+48<=hY l
   .rw[show f-48*i=48 by omega]
   .rw[qh l9,qh l9]
  rw[e2,wx]at D;refine(YB m.seq i (dC l) ⟨_,f-48*i,b.cap-48*i⟩ _ h3 (by rw[wx];exact D) i5).x0 λr S L=>?_;have z:=(d.ci L).aJ 4 [1,0,2,3];refine⟨r,hZ,x7,?_⟩;refine z.oX ae bn fF hZ [r] hZ (show 1*1<=2^20 by decide) hZ x7 ?_;refine z.Cp ae fF i5 λO Q M=>⟨x7,?_⟩
  refine⟨(O,i+1),hZ,⟨i4,?_⟩,i4⟩
  try dsimp only
  rw[aE _ _ (show i<hY g by omega)];have N:g[i]'ii=kH m.seq i (dC l) ((l.drop (48*i)).take 48):=by subst c;subst w;simp[aP]
  rw[N];exact M
 .rw[qh ii,c]at d;exact⟨o,hZ,d.bt [0]⟩
theorem RN(s:Sl)(a:List dP)(h:f7)(c:Rd h s 4 bY a)(d:hY a<=2^30):ai xT 153 #[s] h λv h'=>∃r:Sl,v=r/\Sp h h' [an 111 r 4 bY a]:=by
 refine ts Tryz.func153 ?_;refine aY (λe=>?_) (λe=>?_)
 .have:=c.isNil e;subst this;exact⟨⟨et,0,0⟩,hZ,(Sp.refl h).nil 111 4 bY⟩
 .refine(Sp.refl h).lit ae bY KV hZ ([]:List dP) hZ i0 hZ λk i b=>?_;refine b.append ae 0 hZ KV ⟨_,_,hZ,hZ⟩ hZ i0 (λ_=>rfl) (Seq.up c b.ac) Gj i5 λg j f=>?_;exact⟨g,hZ,f⟩
def CT(pool:List (Sl×az))(p:dP×Qw.cb):Prop:=(p.1.1=p.2.name/\p.1.2.1=p.2.object/\p.1.2.2.1=p.2.length)/\(p.1.2.2.2,p.2.tries)∈pool
theorem aa.CV{B:av}{l h:f7}{As:List HP}{y:bh}{m:ak}{L:List (dP×Qw.cb)}{pool:List (Sl×az)}(d:y.1=m.seq/\y.2.1=m.next/\(y.2.2.1,y.2.2.2.1,y.2.2.2.2.1)=m.p/\y.2.2.2.2.2.1=m.extra)(n:L.map zi=m.objs)(v:∀p∈L,CT pool p)
  (H:aa B l h (iI 1 aw pool::an 3 y.2.2.2.2.2.2.1 1 aw m.drives::an 111 y.2.2.2.2.2.2.2 4 bY (L.map qE)::As)):aa B l h (bI y m::As):=by
 have k:=(H.own 2 hZ)
 have g:=(H.own 1 hZ)
 have D:=((H.freeze 1 hZ λ_=>rfl).freeze 2 hZ λ_=>rfl).jw.jw;refine D.eW 0 hZ λq ⟨F,G,_,b,c,o,z⟩=>?_;obtain⟨I,E,_,A,s,z3,z4⟩:=z;refine⟨d.1,d.2.1,d.2.2.1,d.2.2.2,z3.mono λx i=>c x (A x i),⟨L.map qE,o.mono b,by rw[<-n];simp,λj r e a f=>?_⟩,g.cap,k.cap⟩;rw[<-n]at f;rw[qO]at a f;cases hj:L[j]? with
 |none=>rw[hj]at a;cases a
 |some p=>
  rw[hj]at a f;have u:=zX.inj (show dB p.1=dB r from a);have e2:=zX.inj (show dB p.2=dB e from f);subst u;subst e2;obtain⟨t,w⟩:=v p (zZ hj);exact⟨t,(z4 _ w).mono λx i=>c x (s x i)⟩
theorem nM(x:bh)(m:ak)(h:f7)(A:cR h x m)(J:cC m):ai xT 91 #[dK x] h λv h'=>∃(y:bh) (L:List (dP×Qw.cb)) (pool:List (Sl×az)),v=dK y/\(y.1=m.seq/\y.2.1=m.next/\(y.2.2.1,y.2.2.2.1,y.2.2.2.2.1)=m.p/\y.2.2.2.2.2.1=m.extra)/\L.map zi=m.objs/\(∀p∈L,CT pool p)/\
  Sp h h' [iI 1 aw pool,an 3 y.2.2.2.2.2.2.1 1 aw m.drives,an 111 y.2.2.2.2.2.2.2 4 bY (L.map qE)]:=by
 refine ts Tryz.func91 ?_ (v7 (ws [] [(4,12)] (wj [(15,aU)] [(3,4),(15,31)]))) [(1,(.l [0,1,3,4,2,6,5,7,8,9]))] (args:=[x]);refine(Sp.refl h).boxed λU k H1=>?_;refine H1.alloc ae hZ λT w Q=>?_;have G:=Q.box 0 hZ;have W:∀{h':f7} {As:List HP},Sp h h' As->cR h' x m:=λ{h' As} H'=>A.up H'.ac;obtain⟨b,I⟩:=bN.fix A.objs;have Z:=I.2.1;have V:=J.dr;have ah:=J.ob;refine aG ⟨x.2.2.2.2.2.2.1,G.cell hZ,x.2.2.2.2.2.2.2,G.cell hZ,?_⟩;refine(ij _ m.drives w (W Q).drives ii).x0 λd h3 R3=>?_;have P:=Q.comp R3;refine⟨d,hZ,⟨(P.box 0 hZ).cell hZ,x7⟩,?_⟩;refine(RN _ b h3 (oh.up I P.ac).1 ii).x0 λo h4 R4=>?_;have H4:=P.comp R4;refine⟨o,hZ,x7,?_⟩;refine H4.store ae 0 hZ hZ 6 [d] hZ hZ hZ j7 λh5 Y=>⟨x7,?_⟩
 refine Y.store ae 0 hZ hZ 7 [o] hZ hZ hZ j7 λh6 z=>⟨x7,?_⟩
 obtain⟨y,s⟩:∃y:bh,y=(x.1,x.2.1,x.2.2.1,x.2.2.2.1,x.2.2.2.2.1,x.2.2.2.2.2.1,d,o):=⟨_,rfl⟩
 have z:Sp h h6 [aj U 85 (aM y),aj T 85 [xJ xP 0,xJ xP 0,xJ xP 0,xJ xP 0,xJ xP 0,xJ xP 0,xK et 0 0,xK et 0 0],an 3 d 1 aw m.drives,an 111 o 4 bY b]:=by rw[s];exact z
 have c:y.2.2.2.2.2.2.2=o:=by rw[s]
 have N:y.2.2.2.2.2.2.1=d:=by rw[s]
 refine⟨o,by rw[<-c];exact(z.box 0 hZ).cell hZ,?_⟩;have ab:=(z.own 3 hZ).len;have z:=z.KW 1 aw;refine aq (λt:List dP×List (Sl×az)=>(t.1.length:Int)) (λt h'=>t.1.length<=m.objs.length/\(∀(j:Nat) r e,t.1[j]?=dB r->m.objs[j]?=dB e->(r.1=e.name/\r.2.1=e.object/\r.2.2.1=e.length)/\(r.2.2.2,e.tries)∈t.2)/\Sp h h' [iI 1 aw t.2,aj U 85 (aM y),aj T 85 [xJ xP 0,xJ xP 0,xJ xP 0,xJ xP 0,xJ xP 0,xJ xP 0,xK et 0 0,xK et 0 0],an 3 d 1 aw m.drives,an 111 o 4 bY (t.1++b.drop t.1.length)]) (λt=>m.objs.length-t.1.length) ([],[]) hZ ⟨i6,λj r e k=>by simp at k,z⟩ ?_;rintro⟨a,pool⟩ h7 ⟨hi,D,q⟩;dsimp only at*;refine af (λe=>?_) (λe=>?_)
 .have u:a.length<m.objs.length:=ii
  have F7:=oh.up I q.ac;obtain⟨⟨y1,y2,y3⟩,y4⟩:=Fix.row F7 u;have f:(a++b.drop a.length)[a.length]'(by simp;omega)=b[a.length]'ii:=i6
  obtain⟨S,ha,zz,X,rfl⟩:=(q.seq 4 rfl λ_=>rfl).de (g:=bY) (i:=(a.length:Int)) a.length rfl i5 (b[a.length]'ii) (by rw[f]) (K:=λt=>t=b[a.length]'ii) hZ;refine⟨o,by rw[<-c];exact(q.box 1 hZ).cell hZ,o,by rw[<-c];exact(q.box 1 hZ).cell hZ,S,ha,_,X.2.2.2.1,?_⟩;have ad:=(J.nm _ (qf u)).2;refine(ij _ m.objs[a.length].tries h7 y4 ii).x0 λt h8 R8=>?_;have B:=q.ci R8;refine⟨t,hZ,⟨by rw[<-c];exact(B.box 2 hZ).cell hZ,by rw[<-c];exact(B.box 2 hZ).cell hZ,x7⟩,?_⟩;refine B.abr ae 5 hZ (λ_=>rfl) hZ a.length hZ i5 3 [t] i6 ((b[a.length]'ii).1,(b[a.length]'ii).2.1,(b[a.length]'ii).2.2.1,t) hZ hZ hZ (by rw[f];simp[bY]) λh9 E=>⟨x7,?_⟩
  have E:=(E.freeze 0 hZ λ_=>rfl).aJ 6 [1,0,2,3,4,5];have E:=E.KX;refine⟨(a++[((b[a.length]'ii).1,(b[a.length]'ii).2.1,(b[a.length]'ii).2.2.1,t)],(t,m.objs[a.length].tries)::pool),by simp only[qw,List.length_singleton];rw[ag _];rfl,⟨i5,λj r e k w=>?_,?_⟩,i5⟩
  .dsimp only at k⊢;by_cases O:j<a.length
   .rw[ql O]at k;obtain⟨g1,g2⟩:=D j r e k w;exact⟨g1,List.mem_cons_of_mem _ g2⟩
   .have R:j=a.length:=by have:=(qk.1 k).1;simp at this;omega
    subst R;rw[qi (qm _),qX]at k;simp at k;rw[qc u]at w;injection w with w
    subst k;subst w;exact⟨⟨y1,y2,y3⟩,List.mem_cons_self⟩
  .try dsimp only
   have e4:(a++b.drop a.length).set a.length ((b[a.length]'ii).1,(b[a.length]'ii).2.1,(b[a.length]'ii).2.2.1,t)=a++[((b[a.length]'ii).1,(b[a.length]'ii).2.1,(b[a.length]'ii).2.2.1,t)]++b.drop (a++[((b[a.length]'ii).1,(b[a.length]'ii).2.1,(b[a.length]'ii).2.2.1,t)]).length:=by rw[qV _ _ (qm _),qX,qL (show a.length<b.length by omega),zn];simp
   rw[<-e4];exact E
 .have al:a.length=m.objs.length:=ii
  rw[zd ii,qG]at q;refine⟨y,(q.box 1 hZ).aA _ hZ,?_⟩;refine q.storeAll ae 2 hZ hZ (aM y) hZ hZ hZ hZ λh8 B=>?_;have M:(a.zip m.objs).map qE=a:=List.map_fst_zip ii;have H:(a.zip m.objs).map zi=m.objs:=List.map_snd_zip ii;refine⟨y,(B.box 2 hZ).aA _ hZ,y,a.zip m.objs,pool,hZ,⟨by rw[s];exact A.seq,by rw[s];exact A.next,by rw[s];exact A.p,by rw[s];exact A.extra⟩,H,λp hp=>?_,?_⟩
  .obtain⟨j,O,rfl⟩:=qB hp;have F:j<a.length/\j<m.objs.length:=by simp at O;omega
   have:=D j _ _ (qc F.1) (qc F.2);rw[yS];exact this
  .rw[M,N,c];exact B.bt [0,3,4]
theorem CW(x:bh)(m:ak)(h:f7)(c:cR h x m)(e:cC m):ai xT 91 #[dK x] h λv h'=>∃y:bh,v=dK y/\Sp h h' [bI y m]:=by refine(nM x m h c e).mono ?_;rintro _ h' ⟨y,L,pool,rfl,a,b,d,H⟩;exact⟨y,hZ,aa.CV a b d H⟩
abbrev bF:=Int×Int×Int×Int×Int×Int×Int×Sl
abbrev cX(x:bF):aT:=[xJ xP x.1,xJ xP x.2.1,xJ xP x.2.2.1,xJ xP x.2.2.2.1,xJ xP x.2.2.2.2.1,xJ xP x.2.2.2.2.2.1,xJ xR x.2.2.2.2.2.2.1,x.2.2.2.2.2.2.2]
abbrev recv(x:bF):Value:=xO #[xJ xP x.1,xJ xP x.2.1,xJ xP x.2.2.1,xJ xP x.2.2.2.1,xJ xP x.2.2.2.2.1,xJ xP x.2.2.2.2.2.1,xJ xR x.2.2.2.2.2.2.1,x.2.2.2.2.2.2.2]
theorem afx:∀x,∀c∈cX x,c.oneCell'=ez:=by intro x c a;simp[cX]at a;rcases a with rfl|rfl|rfl|rfl|rfl|rfl|rfl|rfl<;>rfl
def jO(x y:Int):Int:=if x<y then-1 else if x>y then 1 else 0
def mv(a b:bF):Int:=if jO a.1 b.1≠0 then jO a.1 b.1 else if jO a.2.1 b.2.1≠0 then jO a.2.1 b.2.1 else jO a.2.2.1 b.2.2.1
def cG(a b:bF):Bool:=decide (mv a b<=0)
theorem jP(x y:Int):(x<y/\jO x y=-1)∨(x>y/\jO x y=1)∨(x=y/\jO x y=0):=by
 unfold jO;by_cases a:x<y
 .exact .inl ⟨a,f8 a⟩
 .by_cases b:x>y
  .exact .inr (.inl ⟨b,by rw[f9 a,f8 b]⟩)
  .exact .inr (.inr ⟨ii,by rw[f9 a,f9 b]⟩)
theorem BS(a b:bF):mv a b<=0↔a.1<b.1∨(a.1=b.1/\(a.2.1<b.2.1∨(a.2.1=b.2.1/\a.2.2.1<=b.2.2.1))):=by
 unfold mv;rcases jP a.1 b.1 with⟨h1,e1⟩|⟨h1,e1⟩|⟨h1,e1⟩
 .rw[e1,f8 i0];omega
 .rw[e1,f8 i0];omega
 .rw[e1,f9 i0];rcases jP a.2.1 b.2.1 with⟨h2,e2⟩|⟨h2,e2⟩|⟨h2,e2⟩
  .rw[e2,f8 i0];omega
  .rw[e2,f8 i0];omega
  .rw[e2,f9 i0];rcases jP a.2.2.1 b.2.2.1 with⟨h3,e3⟩|⟨h3,e3⟩|⟨h3,e3⟩<;>rw[e3]<;>omega
theorem rT(a b:bF):mv a b<0↔¬cG b a=ez:=by
 unfold cG;rw[decide_eq_true_eq,BS];unfold mv;rcases jP a.1 b.1 with⟨h1,e1⟩|⟨h1,e1⟩|⟨h1,e1⟩
 .rw[e1,f8 i0];omega
 .rw[e1,f8 i0];omega
 .rw[e1,f9 i0];rcases jP a.2.1 b.2.1 with⟨h2,e2⟩|⟨h2,e2⟩|⟨h2,e2⟩
  .rw[e2,f8 i0];omega
  .rw[e2,f8 i0];omega
  .rw[e2,f9 i0];rcases jP a.2.2.1 b.2.2.1 with⟨h3,e3⟩|⟨h3,e3⟩|⟨h3,e3⟩<;>rw[e3]<;>omega
theorem YC(a b:bF):mv a b=0↔(a.1=b.1/\a.2.1=b.2.1/\a.2.2.1=b.2.2.1):=by
 unfold mv;rcases jP a.1 b.1 with⟨h1,e1⟩|⟨h1,e1⟩|⟨h1,e1⟩
 .rw[e1,f8 i0];omega
 .rw[e1,f8 i0];omega
 .rw[e1,f9 i0];rcases jP a.2.1 b.2.1 with⟨h2,e2⟩|⟨h2,e2⟩|⟨h2,e2⟩
  .rw[e2,f8 i0];omega
  .rw[e2,f8 i0];omega
  .rw[e2,f9 i0];rcases jP a.2.2.1 b.2.2.1 with⟨h3,e3⟩|⟨h3,e3⟩|⟨h3,e3⟩<;>rw[e3]<;>omega
theorem eF:Ord cG:=⟨λa b c d e=>by
 unfold cG at*;rw[decide_eq_true_eq,BS]at*;omega,λa b=>by
 unfold cG;rw[Bool.or_eq_true,decide_eq_true_eq,decide_eq_true_eq,BS,BS];omega⟩
theorem KY{α:Type}(A B C:List α)(x y:α){i j:Nat}(c:i=hY A)(b:j=hY A+1+hY B):
  (A++x::(B++y::C))[i]?=dB x/\(A++x::(B++y::C))[j]?=dB y/\((A++x::(B++y::C)).set i y).set j x=A++y::(B++x::C)/\((A++x::(B++y::C)).set j x).set i y=A++y::(B++x::C):=by
 subst c;subst b;have a:hY A+1+hY B-hY A=hY B+1:=ii
 refine⟨by rw[qi (qm _),qX];rfl,?_,?_,?_⟩
 .rw[qi ii,a,qq,qi (qm _),qX];rfl
 .rw[qV _ _ (qm _),qX,zn,qV _ _ ii,a,zy,qV _ _ (qm _),qX,zn]
 .rw[qV _ _ (show A.length<=hY A+1+hY B by omega),a,zy,qV _ _ (qm _),qX,zn,qV _ _ (qm _),qX,zn]
abbrev ahF:bL C.toBH 150 153 8 [xJ xP 0,xJ xP 0,xJ xP 0,xJ xP 0,xJ xP 0,xJ xP 0,xJ xR 0,xK et 0 0] 80:=⟨_,_,hZ,hZ,hZ,hZ,hZ,hZ⟩
theorem oD(x y:Int)(h:f7):ai xT 204 #[xJ xP x,xJ xP y] h λv h'=>v=xJ xP (jO x y)/\h'=h:=by
 refine ts Tryz.func204 ?_;have a:∀z:Int,ai xT 234 #[xJ xP z] h λv h'=>v=xN eH/\h'=h:=λz=>by
  refine ts Tryz.func234 ?_;exact⟨i6,hZ⟩
 refine(a x).xa ⟨_,hZ,(a y).xa ?_⟩;refine⟨_,hZ,aY (λe=>jj) λ_=>aY (λe=>jj) λ_=>?_⟩;refine af (λe=>⟨by rw[jO,f8 e],hZ⟩) λe=>af (λe2=>⟨by rw[jO,f9 e,f8 e2],hZ⟩) λe2=>⟨by rw[jO,f9 e,f9 e2],hZ⟩
theorem pV(a b:bF)(h:f7):ai xT 158 #[recv a,recv b] h λv h'=>v=xJ xP (mv a b)/\Sp h h' []:=by
 refine ts Tryz.func158 ?_ u9 [(1,(.l [0,1,2,3,5,6,7,8,10,11,12,13,4,9,14,15,16,17]))] (args:=[a,b]);refine(Sp.refl h).boxed λA K H=>H.boxed λB k m=>?_;have r:=m.box 0 hZ;have x:=m.box 1 hZ;have y:eX k (A.add 1)=dB (xJ xP a.2.1):=r.cell hZ;have z:eX k (B.add 1)=dB (xJ xP b.2.1):=x.cell hZ;have c3:eX k (A.add 2)=dB (xJ xP a.2.2.1):=r.cell hZ;have u:eX k (B.add 2)=dB (xJ xP b.2.2.1):=x.cell hZ;refine⟨a.1,r.cell0 hZ,b.1,x.cell0 hZ,a.2.1,y,b.2.1,z,a.2.2.1,c3,b.2.2.1,u,(oD _ _ k).xa ?_⟩;refine⟨_,hZ,⟨u,c3,z,y,x7⟩,(oD _ _ _).xa ?_⟩;refine⟨_,hZ,⟨u,c3,x7⟩,(oD _ _ _).xa ?_⟩;refine⟨_,hZ,x7,?_⟩;refine m.oX ae aw ⟨_,_,hZ,hZ,hZ,hZ,hZ,hZ⟩ hZ [jO a.1 b.1,jO a.2.1 b.2.1,jO a.2.2.1 b.2.2.1] hZ (show 3*1<=2^20 by decide) hZ x7 ?_;refine m.lit ae aw ⟨_,_,hZ,hZ,hZ,hZ,hZ,hZ⟩ hZ [jO a.1 b.1,jO a.2.1 b.2.1,jO a.2.2.1 b.2.2.1] hZ (show 3*1<=2^20 by decide) hZ λs D t=>?_;refine(BQ s (R:=λv h'=>v=xJ xP (mv a b)/\h'=D) ?_).mono ?_
 .skip
  have E:=t.seq 2 hZ λ_=>rfl;have J:=(t.own 2 hZ).len;obtain⟨L,d⟩:=x6 ([jO a.1 b.1,jO a.2.1 b.2.1,jO a.2.2.1 b.2.2.1])
  rw[<-d]at E J;have I:hY L=3:=by rw[d];rfl
  refine aq (λi:Nat=>(i:Int)) (λi h'=>i<=3/\(∀j,j<i->L[j]?=dB 0)/\h'=D) (λi=>3-i) 0 hZ ⟨ii,ii,hZ⟩ ?_;rintro i F ⟨O,o,rfl⟩;have c:=λh0=>by have:=o 0 h0;rw[d]at this;simpa using this
  have f:=λh0=>by have:=o 1 h0;rw[d]at this;simpa using this
  have p:=λh0=>by have:=o 2 h0;rw[d]at this;simpa using this
  refine af (λe=>?_) (λe=>?_)
  .have g:i<hY L:=by have G:=e;omega
   refine E.bo i hZ g L[i] hZ ?_;refine bA (λe2=>⟨?_,hZ⟩) (λe2=>?_)
   .congr 1;unfold mv;have:i=0∨i=1∨i=2:=ii
    subst d;rcases this with rfl|rfl|rfl
    .exact(f8 (e2)).symm
    .rw[f9 (by rw[c ii];simp)];exact(f8 (e2)).symm
    .rw[f9 (by rw[c ii];simp),f9 (by rw[f ii];simp)];rfl
   .refine⟨i+1,i9,⟨ii,λj M=>?_,hZ⟩,ii⟩;by_cases w:j=i
    .subst w;rw[qc g,e2]
    .exact o j ii
  .have q:i=3:=by have G:=e;omega
   subst q;refine⟨?_,hZ⟩;unfold mv;rw[c ii,f ii,p ii];rfl
 .rintro _ F ⟨rfl,rfl⟩;exact⟨_,hZ,x7,hZ,.zip t.ac⟩
abbrev cP(s:Sl)(d:List bF):HP:=an 153 s 8 cX d
section
variable {d:List bF}
theorem rU(X U M V Y:List bF)(n:Nat)(a b:Int)(O:hY U=n)(Q:hY V=n)(F:a=(hY X:Int))(G:b=(hY X+n+hY M:Nat))(K:hY X+n+hY M+n+hY Y<=2^40)(H:aa B h0 h (cP s (X++(U++(M++(V++Y))))::As)):
  ai xT 355 #[s,xJ xP a,xJ xP b,xJ xP n,.func (.func 158) #[] #[]] h λv h'=>v=.tuple #[]/\aa B h0 h' (cP s (X++(V++(M++(U++Y))))::As):=by
 refine ts Tryz.func355 ?_ (v7 (v1 (v2 [(10,aU)] [(10,38)] u9))) (args:=[s,(a:Int),(b:Int),(n:Int),(.func (.func 158) #[] #[])]);subst F;subst G;refine aq (λk:Nat=>(k:Int)) (λk h'=>k<=n/\aa B h0 h' (cP s (X++(V.take k++U.drop k++(M++(U.take k++V.drop k++Y))))::As)) (λk=>n-k) 0 hZ ⟨ii,l4⟩ ?_;rintro k N ⟨R,d⟩;refine af (λe=>?_) (λe=>?_)
 .have I:k<n:=ii
  have o:k<hY U:=ii
  have l:k<hY V:=ii
  have f:X++(V.take k++U.drop k++(M++(U.take k++V.drop k++Y)))=(X++V.take k)++U[k]::((U.drop (k+1)++(M++U.take k))++V[k]::(V.drop (k+1)++Y)):=by rw[qL o,qL l];simp only[qn,zu,we]
  have c:X++(V.take (k+1)++U.drop (k+1)++(M++(U.take (k+1)++V.drop (k+1)++Y)))=(X++V.take k)++V[k]::((U.drop (k+1)++(M++U.take k))++U[k]::(V.drop (k+1)++Y)):=by rw[aE V k l,aE U k o];simp only[qn,zu,we]
  rw[f]at d;obtain⟨u,w,x,z⟩:=KY (X++V.take k) (U.drop (k+1)++(M++U.take k)) (V.drop (k+1)++Y) U[k] V[k] (i:=hY X+k) (j:=hY X+n+hY M+k) i5 i5;obtain⟨D,J⟩:=x6 ((X++V.take k)++U[k]::((U.drop (k+1)++(M++U.take k))++V[k]::(V.drop (k+1)++Y)))
  rw[<-J]at d u w x z;have p:=(qk.1 u)
  have q:=(qk.1 w)
  obtain⟨g,r⟩:=p;obtain⟨m,t⟩:=q;have L:qe xP ((hY X:Int)+k)=((hY X+k:Nat):Int):=j1
  have y:qe xP (((hY X+n+hY M:Nat):Int)+k)=((hY X+n+hY M+k:Nat):Int):=j1
  rw[L,y];refine(d.seq 0 hZ λ_=>rfl).de _ hZ m V[k] (by rw[t]) ?_;refine(d.seq 0 hZ λ_=>rfl).de _ hZ g U[k] q6 ?_;refine d.set ae 0 hZ (λ_=>rfl) hZ (hY X+k) hZ g V[k] hZ hZ hZ λP A=>⟨x7,?_⟩
  refine A.set ae 0 hZ (λ_=>rfl) hZ (hY X+n+hY M+k) hZ sb U[k] hZ hZ hZ λh3 E=>⟨x7,?_⟩
  refine⟨k+1,i9,⟨ii,?_⟩,ii⟩;rw[c,<-x];exact E
 .have:k=n:=ii
  subst this;rw[qh ii,zd ii,qh ii,zd ii]at d;refine⟨hZ,?_⟩;simpa using d
theorem RO(X U V Y:List bF)(a m b:Int)(F:0<hY U)(L:0<hY V)(J:a=(hY X:Int))(y:m=(hY X+hY U:Nat))(K:b=(hY X+hY U+hY V:Nat))(E:hY X+hY U+hY V+hY Y<=2^40)(H:aa B h0 h (cP s (X++(U++(V++Y)))::As)):
  ai xT 336 #[s,xJ xP a,xJ xP m,xJ xP b,.func (.func 158) #[] #[]] h λv h'=>v=.tuple #[]/\aa B h0 h' (cP s (X++(V++(U++Y)))::As):=by
 refine ts Tryz.func336 ?_ (v7 (v7 (u7 (v1 (v2 [(10,aU),(11,aU)] [(10,12),(18,50)] u9)) u9))) (args:=[s,(a:Int),(m:Int),(b:Int),(.func (.func 158) #[] #[])]);subst J;subst y;subst K;have G:qe xP (((hY X+hY U:Nat):Int)-hY X)=(hY U:Int):=j1
 have e2:qe xP (((hY X+hY U+hY V:Nat):Int)-(hY X+hY U:Nat))=(hY V:Int):=j1
 rw[G,e2];refine aq (λt:List bF×List bF×List bF×List bF=>((hY t.2.1:Int),(hY t.2.2.1:Int))) (λt h'=>0<hY t.2.1/\0<hY t.2.2.1/\X.length+hY t.1+hY t.2.1=hY X+hY U/\V++U=t.1++((t.2.2.1++t.2.1)++t.2.2.2)/\aa B h0 h' (cP s (X++(t.1++(t.2.1++(t.2.2.1++(t.2.2.2++Y)))))::As)) (λt=>hY t.2.1+hY t.2.2.1) ([],U,V,[]) hZ ⟨F,L,i6,i6,l4⟩ ?_;rintro⟨P,A,c,Q⟩ q ⟨R,O,y,p,u⟩;dsimp only at*;have k:=congrArg vx p;simp only[qw]at k;refine bA (λe=>af (λM=>?_) λM=>?_) (λe=>?_)
 .--the left one is longer
  have w:hY c<hY A:=ii
  have z:A=A.take c.length++A.drop c.length:=(qC _ _).symm;have g:hY (A.take c.length)=hY c:=i5
  have o:qe xP (((hY X+hY U:Nat):Int)-hY A)=(hY (X++P):Int):=by rw[ag _];simp;omega
  rw[o];have d:aa B h0 q (cP s ((X++P)++(A.take c.length++(A.drop c.length++(c++(Q++Y)))))::As):=by
   have:(X++P)++(A.take c.length++(A.drop c.length++(c++(Q++Y))))=X++(P++(A++(c++(Q++Y)))):=by
    conv=>rhs;rw[z]
    simp only[qn,zu,we]
   rw[this];exact u
  refine(rU (X++P) (A.take c.length) (A.drop c.length) c (Q++Y) c.length _ _ g hZ hZ i5 i5 d).xc λx f=>⟨(),hZ,(P++c,A.drop c.length,A.take c.length,Q),?_,⟨lx,i4,lx,?_,?_⟩,lx⟩
  .try dsimp only
   rw[g,ag _];simp;omega
  .try dsimp only
   rw[p,qC];simp
  .try dsimp only
   have:X++((P++c)++(A.drop c.length++(A.take c.length++(Q++Y))))=(X++P)++(c++(A.drop c.length++(A.take c.length++(Q++Y)))):=i6
   rw[this];exact f
 .have w:hY A<hY c:=ii
  obtain⟨j,N⟩:=x6 (hY c-hY A)
  have I:c=c.take j++c.drop j:=(qC _ _).symm;have i:hY (c.drop j)=hY A:=i5
  have l:hY (c.take j)=j:=i5
  have o:qe xP (((hY X+hY U:Nat):Int)-hY A)=(hY (X++P):Int):=by rw[ag _];simp;omega
  have D:qe xP ((qe xP (((hY X+hY U:Nat):Int)+hY c))-hY A)=((hY (X++P)+hY A+hY (c.take j):Nat):Int):=by rw[ag (((hY X+hY U:Nat):Int)+hY c),ag _,l];simp;omega
  rw[o,D];have d:aa B h0 q (cP s ((X++P)++(A++(c.take j++(c.drop j++(Q++Y)))))::As):=by
   have:(X++P)++(A++(c.take j++(c.drop j++(Q++Y))))=X++(P++(A++(c++(Q++Y)))):=by
    conv=>rhs;rw[I]
    simp only[qn,zu,we]
   rw[this];exact u
  refine(rU (X++P) A (c.take j) (c.drop j) (Q++Y) A.length _ _ hZ i hZ hZ i5 d).xc λx f=>⟨(),hZ,(P,c.drop j,c.take j,A++Q),?_,⟨i4,i4,i4,?_,?_⟩,i4⟩
  .try dsimp only
   rw[l,i,ag _];congr 1;omega
  .try dsimp only
   rw[p,qC];simp
  .try dsimp only
   have:X++(P++(c.drop j++(c.take j++((A++Q)++Y))))=(X++P)++(c.drop j++(c.take j++(A++(Q++Y)))):=i6
   rw[this];exact f
 .have r:hY A=hY c:=ii
  have o:qe xP (((hY X+hY U:Nat):Int)-hY A)=(hY (X++P):Int):=by rw[ag _];simp;omega
  rw[o];have d:aa B h0 q (cP s ((X++P)++(A++([]++(c++(Q++Y)))))::As):=by
   have:(X++P)++(A++([]++(c++(Q++Y))))=X++(P++(A++(c++(Q++Y)))):=i6
   rw[this];exact u
  refine(rU (X++P) A [] c (Q++Y) A.length _ _ hZ r.symm hZ i5 i5 d).xc λx f=>⟨(),hZ,hZ,?_⟩;have:X++(V++(U++Y))=(X++P)++(c++([]++(A++(Q++Y)))):=by
   have:V++(U++Y)=(V++U)++Y:=i6
   rw[this,p];simp
  rw[this];exact f
end
theorem VF(l:aL)(x:UInt8):dv (l++[x])=dv l*256+x.toNat:=by unfold dv;rw[List.foldl_append];rfl
theorem CX:∀l:aL,hY l<=4->0<=dv l/\dv l<4294967296/\(hY l<=3->dv l<16777216)
 |[],_=>by simp[dv]
 |[a],_=>by have:=a.toNat_lt;simp only[dv,zB,wT];omega
 |[a,b],_=>by have:=a.toNat_lt;have:=b.toNat_lt;simp only[dv,zB,wT];omega
 |[a,b,c],_=>by have:=a.toNat_lt;have:=b.toNat_lt;have:=c.toNat_lt;simp only[dv,zB,wT];omega
 |[a,b,c,d],_=>by have:=a.toNat_lt;have:=b.toNat_lt;have:=c.toNat_lt;have:=d.toNat_lt;simp only[dv,zB,wT,za,yp];omega
 |_::_::_::_::_::_,h=>l6
theorem Ps(n x:Nat)(f:n<2^32)(e:x<256):qe xP (((qP (qI xP) (qe xP ((n:Int)*2^min (8:Int).toNat (qI xP)))|||qP (qI xP) (qe xP (x:Int))).toNat:Nat):Int)=(n:Int)*256+x:=by
 have d:min (8:Int).toNat (qI xP)=8:=rfl;rw[d];have c:qe xP ((n:Int)*2^8)=((n*256:Nat):Int):=by rw[Qw.ag _];omega
 have e2:qe xP (x:Int)=((x:Nat):Int):=Qw.ag _;rw[c,e2];have a:(qP (qI xP) ((n*256:Nat):Int)|||qP (qI xP) ((x:Nat):Int)).toNat=n*256+x:=by show((qP 64 ((n*256:Nat):Int)|||qP 64 ((x:Nat):Int):BitVec 64)).toNat=n*256+x;rw[BitVec.toNat_or,yd,yd,BitVec.toNat_ofNat,BitVec.toNat_ofNat,vE ii,vE ii];have:=Nat.shiftLeft_add_eq_or_of_lt (b:=x) (i:=8) ii n;rw[Nat.shiftLeft_eq,show(2:Nat)^8=256 from rfl]at this;omega
 rw[a,Qw.ag _];omega
def gD:iW bF cU:=⟨λh q a b=>(a.1=b.object/\a.2.1=b.block/\a.2.2.1=b.id/\(a.2.2.2.1,a.2.2.2.2.1,a.2.2.2.2.2.1)=b.p/\a.2.2.2.2.2.2.1=b.seed/\0<=b.seed/\b.seed<4294967296)/\Seq h q a.2.2.2.2.2.2.2 1 aB b.data,λa d=>⟨a.1,a.2.ac d⟩,λa c=>⟨a.1,a.2.mono c⟩⟩
theorem ku{p q:av}(a b:Sl)(d c:aL)(h:f7)(e:Seq h p a 1 aB d)(f:Seq h q b 1 aB c):
  ai xT 121 #[a,b] h λv h'=>v=xN (decide (d=c))/\h'=h:=by
 refine ts Tryz.func121 ?_;refine FV ae ⟨_,hZ,hZ⟩ ⟨_,hZ,hZ⟩ ⟨_,hZ,hZ⟩ e (FV ae ⟨_,hZ,hZ⟩ ⟨_,hZ,hZ⟩ ⟨_,hZ,hZ⟩ f ⟨?_,hZ⟩);rw[ByteArray.toList_mk,ByteArray.toList_mk];have:(d==c)=decide (d=c):=by rw[Bool.eq_iff_iff];simp
 rw[this]
theorem Jj(b:Sl)(c:aL)(h:f7)(i:Rd h b 1 aB c)(w:hY c<=2^30)(d:b.len<=b.cap):
  ai xT 63 #[b] h λv h'=>(jz c=et->v=.tuple #[xJ xP 0,xK et 0 0,xN eH]/\Sp h h' [])/\
   ∀k x,jz c=dB (k,x)->∃r:Sl,v=.tuple #[xJ xP k,r,xN ez]/\Sp h h' [an 5 r 1 aB x]:=by
 refine ts Tryz.func63 ?_;have A:=i.len;refine bA (λe=>?_) (λe=>?_)
 .have:jz c=et:=by unfold jz;rw[f9 λa=>e ii]
  rw[this];exact⟨λ_=>⟨hZ,Sp.refl h⟩,λk x h=>j8⟩
 have m:hY c=64:=ii
 have h3:3<hY c:=ii
 refine i.mU 3 hZ h3 ((c.getD 3 0).toNat:Int) (by rw[getD_lt h3];rfl) λy l=>⟨⟨i0,i0,ii⟩,?_⟩
 have f:=(i.drop 4 d).take 55 i5;have q:hY ((c.drop 4).take 55)=55:=i5
 refine(fP ⟨_,55,b.cap-4⟩ ((c.drop 4).take 55) h f ii).x0 λr s n=>⟨r,hZ,jW n.ac ⟨l,x7⟩,?_⟩;have z:=(c.getD 3 0).toNat_lt;rw[ag ((c.getD 3 0).toNat:Int)];refine(EQ ((c.getD 3 0).toNat:Int) r ((c.drop 4).take 55) s (n.seq 0 hZ λ_=>rfl)).x0 λp t u=>?_;have g:=n.comp u;refine⟨p,hZ,(ku b p c _ t (i.up g.ac) (g.seq 1 hZ λ_=>rfl)).xa ?_⟩;refine⟨_,hZ,aW (λe2=>?_) λe2=>?_⟩
 .have o:c≠eT ((c.getD 3 0).toNat:Int) ((c.drop 4).take 55):=of_decide_eq_false e2;have:jz c=et:=by unfold jz;rw[f9 λa=>o a.2.symm]
  rw[this];exact⟨λ_=>⟨hZ,.zip g.ac⟩,λk x h=>j8⟩
 .have j:c=eT ((c.getD 3 0).toNat:Int) ((c.drop 4).take 55):=hU e2;have:jz c=dB (((c.getD 3 0).toNat:Int),(c.drop 4).take 55):=by unfold jz;rw[f8 ⟨m,j.symm⟩]
  rw[this];refine⟨λh=>j8,λk x a=>?_⟩;injection a with a
  injection a with hh1 hh2
  subst hh1;subst hh2;exact⟨r,hZ,g.bt [0]⟩
theorem Md(b:Sl)(l:aL)(h:f7)(d:Rd h b 1 aB l)(p:hY l<=4):ai xT 226 #[b] h λv h'=>v=xJ xP (dv l)/\h'=h:=by
 refine ts Tryz.func226 ?_ (v7 (v7 (wj [(3,aU),(8,aU)] [(3,4),(5,6),(8,18)])));have j:=d.len;refine aq (λi:Nat=>(dv (l.take i),(i:Int))) (λi h'=>i<=hY l/\h'=h) (λi=>hY l-i) 0 hZ ⟨ii,hZ⟩ ?_;rintro i k ⟨o,rfl⟩
 try dsimp only
 refine af (λe=>?_) (λe=>?_)
 .have a:i<hY l:=ii
  refine d.bo i hZ a (l[i].toNat:Int) hZ ⟨i0,?_⟩;have c:=(CX (l.take i) i5)
  have f:=c.2.2 i5;have m:=l[i].toNat_lt;obtain⟨n,g⟩:∃n:Nat,dv (l.take i)=(n:Int):=⟨(dv (l.take i)).toNat,ii⟩
  refine⟨i+1,?_,⟨ii,hZ⟩,ii⟩;rw[aE _ _ a,VF,g,Ps n _ ii ii,ag ((i:Int)+1)];rfl
 .rw[qh ii];exact⟨hZ,hZ⟩
theorem GJ(x:bF)(r:cU)(h:f7)(A:eu gD h x r):ai xT 205 #[recv x] h λv h'=>v=xN (ji r)/\Sp h h' []:=by
 refine ts Tryz.func205 ?_ (v7 (ws [(3,ka)] [(3,32)] u9)) (args:=[x]);obtain⟨⟨E,e2,J,q,K,_⟩,D⟩:=A;have l:x.2.2.2.1=r.p.1:=congrArg (·.1) q;have m:x.2.2.2.2.1=r.p.2.1:=congrArg (·.2.1) q;have c:x.2.2.2.2.2.1=r.p.2.2:=congrArg (·.2.2) q;have e:=Seq.len D;refine(Sp.refl h).boxed λi f t=>?_;have j:=t.box 0 hZ;have y:eX f i=dB (xJ xP r.object):=by rw[<-E];exact j.cell0 hZ
 have z:eX f (i.add 1)=dB (xJ xP r.block):=by rw[<-e2];exact j.cell hZ
 have u:eX f (i.add 2)=dB (xJ xP r.id):=by rw[<-J];exact j.cell hZ
 have w:∀{h':f7},Sp h h' [aj i 153 (cX x)]->(ji r=ez->False)->Value.bool eH=xN (ji r)/\Sp h h' []:=λ{h'} H' hn=>⟨by cases hq:ji r with|false=>rfl|true=>exact absurd hq hn,.zip H'.ac⟩
 refine bB (λb h'=>b=decide ((0<=r.object/\r.object<=16777215)/\(0<=r.block/\r.block<=7)/\(0<=r.id/\r.id<=65535))/\h'=f) ?_ ?_
 .refine⟨_,y,af (λB=>⟨_,y,af (λd=>⟨_,z,af (λI=>⟨_,z,af (λF=>⟨_,u,af (λG=>⟨_,u,?_,hZ⟩) λG=>⟨?_,hZ⟩⟩) λF=>⟨?_,hZ⟩⟩) λI=>⟨?_,hZ⟩⟩) λd=>⟨?_,hZ⟩⟩) λB=>⟨?_,hZ⟩⟩
  .rw[decide_eq_decide];omega
  all_goals (symm;rw[decide_eq_false_iff_not];omega)
 .rintro _ _ ⟨rfl,rfl⟩;refine af (λg=>?_) λg=>w t λs=>g (by have:=(lq r).1 s;omega);refine⟨r.p,by rw[<-l,<-m,<-c];exact j.Gk 3 hZ hZ hZ,(eE r.p _).xc λh3 H=>?_⟩;have o:=t.up H.ac;have a:=o.box 0 hZ;refine⟨_,hZ,aY (λd=>?_) λd=>w o λs=>by have:=((lq r).1 s).2.2.2.1;rw[d]at this;cases this⟩;refine⟨x.2.2.2.2.2.2.2,a.cell hZ,r.p.2.2,by rw[<-c];exact a.tI 3 2 hZ,?_,.zip o.ac⟩;congr 1;by_cases k:(r.data.length:Int)=r.p.2.2
  .have:ji r=ez:=(lq r).2 ⟨ii,ii,ii,d,k⟩;rw[this,e];simpa using k
  .have:ji r=eH:=by
    cases hq:ji r with
    |false=>rfl
    |true=>exact absurd ((lq r).1 hq).2.2.2.2 k
   rw[this,e];simpa using k
theorem nN(s:Sl)(l:aL)(n:Int)(k:Nat)(p:k<=4)(q:hY l<=2^30)(H:aa B h0 h (an 5 s 1 aB l::As)):
  ai xT 206 #[s,xJ xP n,xJ xP k] h λv h'=>∃r:Sl,v=r/\aa B h0 h' (an 5 r 1 aB (l++bE n k)::As):=by
 refine ts Tryz.func206 ?_ (v7 (wj [(0,cM),(7,aU)] [(0,1),(7,8),(10,22)]));rw[ag ((k:Int)-1)];refine aq (λt:Sl×Nat=>(t.1,(k:Int)-1-t.2)) (λt h'=>t.2<=k/\aa B h0 h' (an 5 t.1 1 aB (l++(bE n k).take t.2)::As)) (λt=>k-t.2) (s,0) i6 ⟨i6,l4⟩ ?_;rintro⟨r,t⟩ j ⟨o,b⟩;dsimp only at*;refine af (λe=>?_) (λe=>?_)
 .have a:t<k:=ii
  have f:qe xP ((8:Int)*((k:Int)-1-t))=((8*(k-1-t):Nat):Int):=by rw[ag _];omega
  rw[f,qj];have e2:min (8*(k-1-t)) (qI xP)=8*(k-1-t):=by have:qI xP=64:=rfl;omega
  rw[e2,fg];refine⟨ii,?_⟩;refine b.push ae 0 hZ gN hZ i0 (λ_=>rfl) ic (b8 (zQ n (2^(8*(k-1-t))))) hZ i0 m4 λi m c=>?_;refine⟨(i,t+1),?_,⟨i4,?_⟩,i4⟩
  .try dsimp only
   have g:qe xP ((k:Int)-1-t-1)=(k:Int)-1-((t+1:Nat):Int):=by rw[ag _];omega
   rw[g]
  .try dsimp only
   have d:(bE n k).take t++[b8 (zQ n (2^(8*(k-1-t))))]=(bE n k).take (t+1):=by rw[aE _ _ (by rw[cw];exact a)];congr 2;simp[bE]
   rw[<-d,<-qn];exact c
 .have:t=k:=ii
  subst this;rw[qh (by rw[cw];omega)]at b;exact⟨r,hZ,b⟩
theorem sF(x:bF)(r:cU)(h:f7)(z:eu gD h x r):ai xT 137 #[recv x] h λv h'=>∃s:Sl,v=s/\Sp h h' [an 5 s 1 aB (cF r)]:=by
 refine ts Tryz.func137 ?_ (args:=[x]);obtain⟨⟨N,e2,V,o,K,e7,e8⟩,J⟩:=id z;have k:x.2.2.2.1=r.p.1:=congrArg (·.1) o;have n:x.2.2.2.2.1=r.p.2.1:=congrArg (·.2.1) o;have u:x.2.2.2.2.2.1=r.p.2.2:=congrArg (·.2.2) o;refine(Sp.refl h).boxed λL I d=>?_;refine⟨x,(d.box 0 hZ).aA _ hZ,(GJ x r I (gD.mono (gD.loc z d.ac) λ_ S=>qY S d.ac.1)).xc λY M=>?_⟩;have m:=d.up M.ac;refine⟨_,hZ,aW (λg=>?_) λg=>?_⟩
 .unfold cF;rw[g];exact⟨⟨et,0,0⟩,hZ,(m.nil 5 1 aB).bt [1]⟩
 have Q:=oZ g;have w:=m.box 0 hZ;refine⟨r.object,by rw[<-N];exact w.cell0 hZ,(nN ⟨et,0,0⟩ [] r.object 3 i0 i6 (m.nil 5 1 aB).aZ).x0 λG h3 A=>?_⟩;have q:=A.box 1 hZ;refine⟨G,hZ,r.block,by rw[<-e2];exact q.cell hZ,(nN G _ r.block 1 i0 p6 A).x0 λH Z D=>?_⟩;have j:=D.box 1 hZ;refine⟨H,hZ,r.id,by rw[<-V];exact j.cell hZ,(nN H _ r.id 2 i0 p6 D).x0 λO X E=>?_⟩;have a:=E.box 1 hZ;refine⟨O,hZ,r.p.1,by rw[<-k];exact a.cell hZ,r.p.2.1,by rw[<-n];exact a.tI 3 1 hZ,r.p.2.2,by rw[<-u];exact a.tI 3 2 hZ,?_⟩
 try dsimp only
 rw[fg,fg,fg];refine E.lit ae aB gN hZ [b8 r.p.1,b8 r.p.2.1,b8 r.p.2.2] hZ (show 3*1<=2^20 by decide) hZ λP h6 B=>?_;refine B.append ae 0 hZ gN ⟨_,_,hZ,hZ⟩ hZ i0 (λ_=>rfl) (B.seq 2 hZ λ_=>rfl) ic p6 λU h7 c=>?_;have c:=c.bt [0,1];have t:=c.box 1 hZ;refine⟨r.seed,by rw[<-K];exact t.cell hZ,?_⟩
 try dsimp only
 rw[ag r.seed];refine(nN U _ r.seed 4 i0 p6 c).x0 λT h8 f=>?_;have i:=f.box 1 hZ;refine⟨T,hZ,x.2.2.2.2.2.2.2,i.cell hZ,?_⟩;refine f.append ae 0 hZ gN ⟨_,_,hZ,hZ⟩ hZ i0 (λ_=>rfl) (Seq.up J f.ac) ic m4 λy F e=>?_;have W:[]++bE r.object 3++bE r.block 1++bE r.id 2++[b8 r.p.1,b8 r.p.2.1,b8 r.p.2.2]++bE r.seed 4++r.data=jy r:=by unfold jy;simp[qn]
 have e:Sp h F [an 5 y 1 aB (jy r),aj L 153 (cX x)]:=by rw[<-W];exact e
 refine(EQ 1 y (jy r) F (e.seq 0 hZ λ_=>rfl)).x0 λb R l=>⟨b,hZ,b,hZ,?_⟩;unfold cF;rw[g,f8 rfl];exact(e.comp l).bt [2]
theorem Pt(b:Sl)(c:aL)(h:f7)(hb:Rd h b 1 aB c)(hc:c.length<=2^30)(Y:b.len<=b.cap):
  ai xT 155 #[b] h λv h'=>∃x:bF,v=.tuple #[recv x,xN (dJ c).isSome]/\(dJ c=et->Sp h h' [])/\∀r,dJ c=dB r->Sp h h' [EA gD x r]:=by
 refine ts Tryz.func155 ?_ (v7 (v7 (ws [] [(3,4),(14,21)] (ws [(7,(.sc .adr))] [(7,8),(21,31)] (ws [] [(31,42)] u9))))) [(4,(.y [0,1,3,4,6,7] (.y [2] (.y [5] (.l [8,9,10,11]) (.l [10,8,9,11])) (.l [10,5,8,9,11])) (.l [10,2,5,8,9,11]))),(5,(.l [0,1,3,4,6,7,2,5,8,9,10,11]))];refine(Sp.refl h).alloc ae hZ λt h1 H1=>?_;have D:∀{h':f7} {Bs:List HP},Sp h h' (aj t 153 (cX (0,0,0,0,0,0,0,⟨et,0,0⟩))::Bs)->dJ c=et->
   au xT (qH 153 (xL (dB t)) (recv (0,0,0,0,0,0,0,⟨et,0,0⟩))) h' λ_ G=>∃V:bF,bj G t 0 (cX V)/\∃x:bF,Value.tuple #[recv V,xN eH]=.tuple #[recv x,xN (dJ c).isSome]/\(dJ c=et->Sp h G [])/\∀r,dJ c=dB r->Sp h G [EA gD x r]:=λ{h' Bs} H' H=>by
  refine H'.storeAll ae 0 hZ hZ (cX (0,0,0,0,0,0,0,⟨et,0,0⟩)) hZ hZ hZ hZ λG H4=>?_;exact⟨(0,0,0,0,0,0,0,⟨et,0,0⟩),(H4.box 0 hZ).aA _ hZ,(0,0,0,0,0,0,0,⟨et,0,0⟩),by rw[H];rfl,λ_=>.zip H4.ac,λr N=>by rw[H]at N;cases N⟩
 refine(Jj b c h1 (hb.up H1.ac) hc Y).mono ?_;rintro _ h2 ⟨Q0,Q1⟩;cases htc:jz c with
 |none=>
  obtain⟨rfl,R2⟩:=Q0 htc;have H:dJ c=et:=by unfold dJ;rw[htc]
  exact⟨(0,⟨et,0,0⟩,eH),hZ,aG (aW (λ_=>D (H1.up R2.ac) H) λe=>jj)⟩
 |some kx=>
  obtain⟨k,x⟩:=kx;obtain⟨r,rfl,R2⟩:=Q1 k x htc;have w:=H1.comp R2;have ay:x.length=55:=by
   unfold jz at htc;split at htc
   .rename_i m;injection htc with htc
    injection htc with _ htc
    rw[<-htc];simp;omega
   .cases htc
  have a6:=(w.own 1 hZ).len;have S:=(w.own 1 hZ).cap;refine⟨(k,r,ez),hZ,aG (aW (λe=>jj) λ_=>bA (λe=>D w ?_) λJ=>?_)⟩
  .unfold dJ;rw[htc];exact f9 λm=>e m.1
  try dsimp only
  have J:k=1:=J;obtain⟨R,s⟩:=x6 (tV x)
  have L:dJ c=if bK R.p=ez/\cF R=c then dB R else et:=by
   unfold dJ;rw[htc]
   try dsimp only
   rw[<-s];by_cases m:bK R.p=ez/\cF R=c
   .rw[f8 m];exact f8 ⟨J,m⟩
   .rw[f9 m];exact f9 λh=>m h.2
  have tA:∀{h':f7},Rd h' r 1 aB x->ai xT 226 #[xK r.ptr 3 r.cap] h' λv M=>v=xJ xP R.object/\M=h':=λ{h'} N=>by
   rw[s];exact Md ⟨r.ptr,3,r.cap⟩ (x.take 3) h' (N.take 3 ii) i5
  have O:∀{h':f7} (j n:Nat),j+n<=55->n<=4->Rd h' r 1 aB x->ai xT 226 #[.slice (if r.cap=j then r.ptr else r.ptr.map (·.add (j*1))) n (r.cap-j)] h' λv M=>v=xJ xP (dv ((x.drop j).take n))/\M=h':=λ{h'} j n hjn H N=>
   Md ⟨if r.cap=j then r.ptr else r.ptr.map (·.add (j*1)),n,r.cap-j⟩ ((x.drop j).take n) h' ((N.drop j S).take n l9) i5
  have rd:∀{h':f7} {A:HP} {Bs:List HP},Sp h h' (A::an 5 r 1 aB x::Bs)->Rd h' r 1 aB x:=λ{h' A Bs} H'=>H'.seq 1 hZ λ_=>rfl;have Ea:∀{h':f7} {A A2:HP} {Bs:List HP},Sp h h' (A::A2::an 5 r 1 aB x::Bs)->Rd h' r 1 aB x:=λ{h' A A2 Bs} H'=>H'.seq 2 hZ λ_=>rfl;refine bB (λ(a:eS) h'=>Sp h h' [aj a 153 (cX (R.object,R.block,R.id,0,0,0,0,⟨et,0,0⟩)),aj t 153 (cX (0,0,0,0,0,0,0,⟨et,0,0⟩)),an 5 r 1 aB x]) ?_ ?_
  .have eb:dv ((x.drop 3).take 1)=R.block:=p9
   have ei:dv ((x.drop 4).take 2)=R.id:=p9
   have fin:∀{h':f7} {a:eS},Sp h h' [aj t 153 (cX (0,0,0,0,0,0,0,⟨et,0,0⟩)),an 5 r 1 aB x,aj a 153 (cX (0,0,0,0,0,0,0,⟨et,0,0⟩))]->
     au xT (qH 153 (xL (dB a)) (recv (R.object,R.block,R.id,0,0,0,0,⟨et,0,0⟩))) h' λ_ G=>bR.ok [] G/\Sp h G [aj a 153 (cX (R.object,R.block,R.id,0,0,0,0,⟨et,0,0⟩)),aj t 153 (cX (0,0,0,0,0,0,0,⟨et,0,0⟩)),an 5 r 1 aB x]:=λ{h' a} H'=>
    H'.storeAll ae 2 hZ hZ (cX (R.object,R.block,R.id,0,0,0,0,⟨et,0,0⟩)) hZ hZ hZ hZ λG H4=>⟨x7,H4.bt [2,0,1]⟩
   have A_:∀{h':f7} {Bs:List HP} {K:Int->f7->Prop},Sp h h' (aj t 153 (cX (0,0,0,0,0,0,0,⟨et,0,0⟩))::an 5 r 1 aB x::Bs)->K R.object h'->oy xT 226 #[xK r.ptr 3 r.cap] (.one (.sc (.int .i64))) h' K:=λ{h' Bs K} H' hK=>by
    refine(tA (rd H')).xa ⟨_,hZ,hK⟩
   have B_:∀{h':f7} {Bs:List HP} {K:Int->f7->Prop},Sp h h' (aj t 153 (cX (0,0,0,0,0,0,0,⟨et,0,0⟩))::an 5 r 1 aB x::Bs)->K R.block h'->oy xT 226 #[.slice (if r.cap=3 then r.ptr else r.ptr.map (·.add (3*1))) 1 (r.cap-3)] (.one (.sc (.int .i64))) h' K:=λ{h' Bs K} H' hK=>by
    refine(O 3 1 i0 i0 (rd H')).xa ⟨_,hZ,by rw[eb];exact hK⟩
   have C_:∀{h':f7} {Bs:List HP} {K:Int->f7->Prop},Sp h h' (aj t 153 (cX (0,0,0,0,0,0,0,⟨et,0,0⟩))::an 5 r 1 aB x::Bs)->K R.id h'->oy xT 226 #[.slice (if r.cap=4 then r.ptr else r.ptr.map (·.add (4*1))) 2 (r.cap-4)] (.one (.sc (.int .i64))) h' K:=λ{h' Bs K} H' hK=>by
    refine(O 4 2 i0 i0 (rd H')).xa ⟨_,hZ,by rw[ei];exact hK⟩
   refine⟨⟨i0,ii⟩,⟨i0,i0,ii⟩,⟨i0,i0,ii⟩,A_ w ⟨x7,B_ w ⟨x7,C_ w ⟨x7,?_⟩,?_⟩,?_⟩,?_⟩
   .refine w.alloc ae hZ λa9 h9 f=>⟨x7,?_⟩
    exact fin f
   .refine w.alloc ae hZ λa9 h9 f=>⟨x7,?_⟩
    exact C_ f ⟨x7,fin f⟩
   .refine w.alloc ae hZ λa9 h9 f=>⟨x7,?_⟩
    exact B_ f ⟨x7,C_ f ⟨x7,fin f⟩⟩
   .refine w.alloc ae hZ λa9 h9 f=>⟨x7,?_⟩
    exact A_ f ⟨x7,B_ f ⟨x7,C_ f ⟨x7,fin f⟩⟩⟩
  .rintro a9 h5 H5;have I:0<=R.seed/\R.seed<4294967296:=by have:=CX ((x.drop 9).take 4) i5;rw[s];exact⟨this.1,this.2.1⟩
   have e6:dv ((x.drop 6).take 1)=R.p.1:=p9
   have e7:dv ((x.drop 7).take 1)=R.p.2.1:=p9
   have e8:dv ((x.drop 8).take 1)=R.p.2.2:=p9
   have e9:dv ((x.drop 9).take 4)=R.seed:=p9
   refine aG ⟨⟨i0,i0,ii⟩,⟨i0,i0,ii⟩,⟨i0,i0,ii⟩,(O 6 1 i0 i0 (Ea H5)).xa ?_⟩;refine⟨_,hZ,x7,(O 7 1 i0 i0 (Ea H5)).xa ?_⟩;refine⟨_,hZ,x7,(O 8 1 i0 i0 (Ea H5)).xa ?_⟩;refine⟨_,hZ,x7,?_⟩
   try dsimp only
   rw[e6,e7,e8];refine H5.store ae 0 hZ hZ 3 [xJ xP R.p.1,xJ xP R.p.2.1,xJ xP R.p.2.2] hZ hZ hZ i6 λa5 T=>⟨x7,?_⟩
   refine⟨⟨i0,i0,ii⟩,(O 9 4 i0 i0 (Ea T)).xa ?_⟩;refine⟨_,hZ,?_⟩
   try dsimp only
   have ew:qe xR (dv ((x.drop 9).take 4))=R.seed:=by rw[e9];unfold qe;simp[qI,vb];omega
   rw[ew];refine T.store ae 0 hZ hZ 6 [xJ xR R.seed] hZ hZ hZ i6 λap U=>?_;refine⟨R.p,(U.box 0 hZ).Gk 3 hZ hZ hZ,(eE R.p ap).xc λab ah=>?_⟩;have B:=U.up ah.ac;refine⟨_,hZ,aW (λg=>D (B.aJ 2 [1,0]) (by rw[L,f9 λm=>by rw[g]at m;cases m.1])) λg=>?_⟩;have a0:=(bP R.p).1 g;refine⟨R.p.2.2,(B.box 0 hZ).tI 3 2 hZ,?_⟩
   try dsimp only
   rw[ag ((13:Int)+R.p.2.2)];refine⟨⟨i0,ii,ii⟩,?_⟩;have ax:((13:Int)+R.p.2.2).toNat-(13:Int).toNat=R.p.2.2.toNat:=ii
   rw[ax];have E:(x.drop 13).take R.p.2.2.toNat=R.data:=p9
   have F:=((Ea B).drop 13 S).take R.p.2.2.toNat l9;rw[E]at F;have bb:R.data.length=R.p.2.2.toNat:=by rw[<-E];simp;omega
   refine(fP ⟨if r.cap=13 then r.ptr else r.ptr.map (·.add (13*1)),R.p.2.2.toNat,r.cap-13⟩ R.data ab F ii).x0 λu a2 al=>?_;have ar:=B.comp al;refine⟨u,hZ,?_⟩;refine ar.store ae 0 hZ hZ 7 [u] hZ hZ hZ i6 λP i=>?_;have i:Sp h P [aj a9 153 (cX (R.object,R.block,R.id,R.p.1,R.p.2.1,R.p.2.2,R.seed,u)),aj t 153 (cX (0,0,0,0,0,0,0,⟨et,0,0⟩)),an 5 r 1 aB x,an 5 u 1 aB R.data]:=i;obtain⟨X,hX⟩:∃X:bF,X=(R.object,R.block,R.id,R.p.1,R.p.2.1,R.p.2.2,R.seed,u):=⟨_,rfl⟩
   rw[<-hX]at i;have W:∀{h':f7} {q:av},Seq h' q u 1 aB R.data->gD.p h' q X R:=λ{h' q} hs=>by rw[hX];exact⟨⟨hZ,hZ,hZ,hZ,hZ,I⟩,hs⟩
   refine⟨X,(i.box 0 hZ).aA _ hZ,(sF X R P (W (i.seq 3 hZ λ_=>rfl))).x0 λs5 am ao=>?_⟩;have o:=i.comp ao;refine⟨s5,hZ,(ku b s5 c (cF R) am (hb.up o.ac) (o.seq 4 hZ λ_=>rfl)).xa ?_⟩;refine⟨_,hZ,aW (λQ=>D (o.aJ 2 [1,0]) (by rw[L,f9 λm=>(of_decide_eq_false Q) m.2.symm])) λQ=>?_⟩;have Q:c=cF R:=hU Q;refine⟨X,(o.box 0 hZ).aA _ hZ,?_⟩;refine o.storeAll ae 1 hZ hZ (cX X) hZ hZ hZ hZ λa7 Z=>?_;have d:dJ c=dB R:=by rw[L,f8 ⟨g,Q.symm⟩]
   refine⟨X,(Z.box 1 hZ).aA _ hZ,X,by rw[d];rfl,λH=>(by rw[d]at H;cases H),λr' z=>?_⟩;rw[d]at z;injection z with z
   subst z;have ad:=Z.bt [3];exact ad.eW 0 hZ λq hq=>W (hq.1.seq (λ_=>rfl) hq.2)
variable {X Y Z:HP}
section
variable {L:List HP}
theorem aa.aiL(H:aa B h0 h (X::Y::(L++As))):aa B h0 h (L++(X::Y::As)):=
 H.pick (λi=>if i<hY L then i+2 else if i=hY L then 0 else if i=hY L+1 then 1 else i) (λa b c=>by(try dsimp only at c);split at c<;>split at c<;>(try split at c)<;>(try split at c)<;>(try split at c)<;>(try split at c)<;>omega) λi A d=>by
  try dsimp only
  by_cases g:i<hY L
  .rw[ql g]at d;rw[f8 g,qq,qq,ql g];exact d
  .rw[qi ii]at d;rw[f9 g];by_cases e:i=hY L
   .subst e;rw[f8 rfl];rw[qX]at d;exact d
   .rw[f9 e];by_cases f:i=hY L+1
    .subst f;rw[f8 rfl];rw[show L.length+1-hY L=1 by omega]at d;exact d
    .rw[f9 f];obtain⟨j,rfl⟩:∃j,i=hY L+(j+2):=⟨i-hY L-2,ii⟩
     rw[zl,qq,qq]at d;rw[show L.length+(j+2)=(hY L+j)+1+1 by omega,qq,qq,qi ii,zl];exact d
theorem aa.TT(n:Nat)(c:L[n]?=dB X)(H:aa B h0 h (Y::Z::(L++As))):aa B h0 h (X::Z::Y::(L.set n emp++As)):=by
 have a:=(qk.1 c).1;have b:=H.cons (n+2) (A:=X) (by rw[qq,qq,ql a];exact c);have e:(Y::Z::(L++As)).set (n+2) emp=Y::Z::(L.set n emp++As):=by rw[zy,zy,List.set_append_left _ _ a]
 rw[e]at b;exact b.aJ 3 [0,2,1]
theorem aa.Gl(n:Nat)(f:n<hY L)(H:aa B h0 h (X::Z::Y::(L.set n emp++As))):aa B h0 h (Y::Z::(L.set n X++As)):=
 H.pick (λi=>if i=0 then 2 else if i=1 then 1 else if i=n+2 then 0 else i+1) (λa b c=>by(try dsimp only at c);split at c<;>split at c<;>(try split at c)<;>(try split at c)<;>(try split at c)<;>(try split at c)<;>omega) λi A d=>by
  try dsimp only
  match i,d with
  |0,d=>exact d
  |1,d=>exact d
  |i+2,d=>
   rw[f9 ii,f9 ii];rw[qq,qq]at d;by_cases e:i=n
   .subst e;rw[ql m6,zj f]at d;rw[f8 rfl];exact d
   .rw[f9 ii,qq,qq,qq];by_cases g:i<hY L
    .rw[ql m0,zG ii]at d;rw[ql m0,zG ii];exact d
    .rw[qi i5,zE]at d;rw[qi i5,zE];exact d
end
structure Kit where
 tS:Nat
 tP:Nat
 tD:Nat
 f:eS->ba->Sl->Sl->aT
def aca(k:Kit)(pw:eS)(a:bD)(d:Option ba):HP:=match a,d with
 |some a,dB d=>gU k.tD (k.f pw) a d
 |_,_=>emp
abbrev bS(a:aT)(pw:eS)(offs:Int)(b:List bD):aT:=a++(xL (dB pw)::xJ xP offs::b.map .pointer)
structure fM (mc:aT) (da:List bD) (ds:aD):Prop where
 l8:hY mc=8
 la:hY da=64
 ls:hY ds=64
 same:∀i:Nat,(da.getD i et).isSome=(ds.getD i et).isSome
abbrev dq(k:Kit)(pw:eS)(a:List bD)(ds:aD):List HP:=List.zipWith (aca k pw) a ds
def bf(k:Kit)(a pw:eS)(c:aT)(offs:Int)(b:List bD)(w:Pow)(ds:aD):HP:=
 (HP.all (aj a k.tS (bS c pw offs b)::ce k.tP pw w::dq k pw b ds)).and (fM c b ds)
variable {mc:aT} {offs:Int} {da:List bD} {w':Pow} {ds:aD} {d':ba} {n:Nat}
section
variable {k:Kit} {pw:eS}
theorem CY(ok:fM mc da ds):hY (dq k pw da ds)=64:=by simp[dq,ok.la,ok.ls]
theorem aa.oR(H:aa B h0 h (bf k a pw mc offs da w ds::As)):fM mc da ds/\aa B h0 h (aj a k.tS (bS mc pw offs da)::ce k.tP pw w::(dq k pw da ds++As)):=by obtain⟨H,ok⟩:=H.pE;exact⟨ok,H.lI⟩
theorem aa.pi(ok:fM mc da ds)(H:aa B h0 h (aj a k.tS (bS mc pw offs da)::ce k.tP pw w::(dq k pw da ds++As))):aa B h0 h (bf k a pw mc offs da w ds::As):=
 (aa.closeAll (aj a k.tS (bS mc pw offs da)::ce k.tP pw w::dq k pw da ds) H).topE ok
theorem fM.addr(ok:fM mc da ds)(c:ds[n]?=dB (dB d)):∃b,da[n]?=dB (dB b):=by
 have f:n<64:=by have:=(qk.1 c).1;rw[ok.ls]at this;exact this
 have a:=ok.same n;rw[qd,qd,c]at a;have g:n<hY da:=by rw[ok.la];exact f
 rw[qc g]at a⊢;simp at a;obtain⟨b,e⟩:=yA.1 a;exact⟨b,by rw[e]⟩
theorem fM.uX(ok:fM mc da ds)(c:n<64)(b:ds[n]?=dB et):da[n]?=dB et:=by
 have a:=ok.same n;rw[qd,qd,b]at a;have d:n<hY da:=by rw[ok.la];exact c
 rw[qc d]at a⊢;simp at a;rw[a]
theorem fM.set(ok:fM mc da ds){b:eS}(c:da[n]?=dB (dB b)):fM mc da (ds.set n (dB d')):=by
 refine⟨ok.l8,ok.la,by rw[zE];exact ok.ls,λi=>?_⟩;by_cases a:n=i
 .subst a;have d:n<hY ds:=by have:=(qk.1 c).1;rw[ok.la]at this;rw[ok.ls];exact this
  rw[qd,c,qd,zj d];rfl
 .rw[qd (l:=ds.set n _),zG a,<-qd];exact ok.same i
theorem acb{b:eS}(c:da[n]?=dB (dB b))(d:n<hY ds):(dq k pw da ds).set n (gU k.tD (k.f pw) b d')=dq k pw da (ds.set n (dB d')):=by
 apply zt;intro j;have e:n<hY da:=(qk.1 c).1;simp only[dq,qW,zL,yN];by_cases a:n=j
 .subst a;rw[f8 hZ,f8 ii,f8 hZ,f8 d,c];rfl
 .simp[a]
def NJ(k:Kit)(a pw:eS)(c:aT)(offs:Int)(b:List bD)(ds:aD)(n:Nat):HP:=
 (HP.all (aj a k.tS (bS c pw offs b)::(dq k pw b ds).set n emp)).and (fM c b ds)
theorem aa.kV(H:aa B h0 h (bf k a pw mc offs da w ds::As))(e:ds[n]?=dB (dB d)):∃b,da[n]?=dB (dB b)/\aa B h0 h (gU k.tD (k.f pw) b d::ce k.tP pw w::NJ k a pw mc offs da ds n::As):=by
 obtain⟨ok,j⟩:=H.oR;obtain⟨b,c⟩:=ok.addr e;refine⟨b,c,?_⟩;have g:(dq k pw da ds)[n]?=dB (gU k.tD (k.f pw) b d):=by simp only[dq,zL,c,e];rfl
 have l:=j.TT n g;have i:aa B h0 h (gU k.tD (k.f pw) b d::ce k.tP pw w::((aj a k.tS (bS mc pw offs da)::(dq k pw da ds).set n emp)++As)):=l;exact(((aa.closeAll _ i.aiL).topE ok).aJ 3 [1,2,0]:aa B h0 h (gU k.tD (k.f pw) b d::ce k.tP pw w::NJ k a pw mc offs da ds n::As))
theorem aa.uY{b:eS}(m:da[n]?=dB (dB b))(H:aa B h0 h (gU k.tD (k.f pw) b d'::ce k.tP pw w'::NJ k a pw mc offs da ds n::As)):aa B h0 h (bf k a pw mc offs da w' (ds.set n (dB d'))::As):=by
 have l:aa B h0 h (NJ k a pw mc offs da ds n::ce k.tP pw w'::gU k.tD (k.f pw) b d'::As):=H.aJ 3 [2,1,0];obtain⟨l,ok⟩:=l.pE;have p:=l.lI;have o:n<hY ds:=by have:=(qk.1 m).1;rw[ok.la]at this;rw[ok.ls];exact this
 have t:=CY (k:=k) (pw:=pw) ok;have g:n<hY (dq k pw da ds):=by rw[t,<-ok.ls];exact o
 obtain⟨L,q⟩:=x6 (dq k pw da ds)
 rw[<-q]at p g;have s:aa B h0 h (gU k.tD (k.f pw) b d'::ce k.tP pw w'::aj a k.tS (bS mc pw offs da)::(L.set n emp++As)):=by
  refine p.pick (λi=>if i=0 then 1+hY L+1 else if i=1 then 1+hY L else if i=2 then 0 else if i<3+hY L then i-2 else i) (λx y c=>by(try dsimp only at c);split at c<;>split at c<;>(try split at c)<;>(try split at c)<;>(try split at c)<;>(try split at c)<;>(try split at c)<;>(try split at c)<;>omega) λi A e=>?_
  try dsimp only
  have d:hY (aj a k.tS (bS mc pw offs da)::L.set n emp)=1+hY L:=i5
  match i,e with
  |0,e=>rw[f8 hZ,qi ii,d,show 1+hY L+1-(1+hY L)=1 by omega];exact e
  |1,e=>rw[f9 ii,f8 hZ,qi ii,d,qX];exact e
  |2,e=>rw[f9 ii,f9 ii,f8 rfl];exact e
  |i+3,e=>
   rw[f9 ii,f9 ii,f9 ii];rw[qq,qq,qq]at e;by_cases j:i<hY L
   .rw[f8 ii,show i+3-2=i+1 by omega,ql (by rw[d];omega),qq];rw[ql rb]at e;exact e
   .rw[f9 ii,qi (by rw[d];omega),d,show i+3-(1+hY L)=(i-hY L)+2 by omega,qq,qq];rw[qi i5,zE]at e;exact e
 have r:=aa.Gl n g s;rw[q,acb m o]at r;exact r.pi (ok.set m)
end
def mS:iW (Int×Sl) (Int×aL):=⟨λh q a b=>a.1=b.1/\Seq h q a.2 1 aB b.2,λa d=>⟨a.1,a.2.ac d⟩,λa c=>⟨a.1,a.2.mono c⟩⟩
def piv(x:Int×Sl):aT:=[xJ xP x.1,x.2]
theorem KZ:∀x,∀c∈piv x,c.oneCell'=ez:=by intro x c a;simp[piv]at a;rcases a with rfl|rfl<;>rfl
def gH(a:List bD)(slot:Int):bD:=if 0<=slot/\slot<64 then(a[slot.toNat]?).join else et
theorem oS{g:aT}{c:List bD}{ds:aD}(ok:fM g c ds)(slot:Int):
  (aH ds slot=et/\gH c slot=et)∨∃(n:Nat) (d:ba) (b:eS),slot=n/\n<64/\ds[n]?=dB (dB d)/\aH ds slot=dB d/\c[n]?=dB (dB b)/\gH c slot=dB b:=by
 unfold aH gH;by_cases h:0<=slot/\slot<64
 .rw[f8 h,f8 h];have f:slot.toNat<hY ds:=by rw[ok.ls];omega
  cases hd:ds[slot.toNat]with
  |none=>
   have a:ds[slot.toNat]?=dB et:=by rw[qc f,hd]
   exact .inl ⟨t8,by rw[ok.uX ii a];rfl⟩
  |some d=>
   have a:ds[slot.toNat]?=dB (dB d):=by rw[qc f,hd]
   obtain⟨b,e⟩:=ok.addr a;exact .inr ⟨slot.toNat,d,b,ii,ii,a,t8,e,n4⟩
 .rw[f9 h,f9 h];exact .inl ⟨hZ,hZ⟩
theorem pj{a:aT}{pw:eS}{offs:Int}{b:List bD}(h8:hY a=8)(n:Nat):(bS a pw offs b)[10+n]?=(b[n]?).map .pointer:=by unfold bS;rw[qi ii,h8,show 10+n-8=n+1+1 by omega,qq,qq,qO]
theorem Pu{a:aT}{pw:eS}{offs:Int}{b:List bD}(h8:hY a=8):(bS a pw offs b)[8]?=dB (xL (dB pw)):=by unfold bS;rw[qi ii,h8];rfl
theorem VG{a:aT}{pw:eS}{offs:Int}{b:List bD}(h8:hY a=8):(bS a pw offs b)[9]?=dB (xJ xP offs):=by unfold bS;rw[qi ii,h8];rfl
abbrev bi:Qw.Kit:=⟨127,118,155,λpw=>ft pw⟩
theorem Pv{e:TypeId}(s:Sl)(l:az)(h:f7)(c:Own h e s 1 aw l)(a:hY l<2^40):ai xT 186 #[s] h λv h'=>v=xK s.ptr (Lib.compact l).length s.cap/\Own h' e ⟨s.ptr,hY (Lib.compact l),s.cap⟩ 1 aw (Lib.compact l)/\aS (λb=>¬s.on b) h h':=
 IU Tryz.slices_Compact_int Tryz.slices_Compact_int_empty c a
section
variable {pw:eS}
theorem mM(slot:Int)(ok:fM mc da ds)(d:bQ h a 127 (bS mc pw offs da)):ai xT 56 #[xL (dB a),xJ xP slot] h λv h'=>v=.pointer (gH da slot)/\h'=h:=by
 refine ts Tryz.func56 ?_ (v7 (ws [] [(4,15)] u9));have b:¬(0<=slot/\slot<64)->Value.pointer et=.pointer (gH da slot)/\h=h:=λe=>by unfold gH;rw[f9 e];exact⟨hZ,hZ⟩
 refine aG (aY (λe=>jj) λ_=>af (λe=>b ii) λf=>af (λe=>b ii) λe2=>?_);have c:slot.toNat<hY da:=o9
 refine⟨a,hZ,⟨ii,ii⟩,da[slot.toNat],?_,?_,hZ⟩
 .rw[wx];refine d.tI 10 slot.toNat ?_;rw[pj ok.l8,qc c];rfl
 .unfold gH;rw[f8 ii,qc c];rfl
theorem aa.cE(H:aa B h0 h (bf bi a pw mc offs da w ds::As)):fM mc da ds/\bQ h a 127 (bS mc pw offs da):=by obtain⟨ok,b⟩:=Qw.aa.oR H;exact⟨ok,b.box 0 hZ⟩
theorem Jk(s:Sl)(l:az)(x:Rd h s 1 aw l)(L:hY l<=2^30)(H:aa B h0 h (bf bi a pw mc offs da w ds::As)):
  ai xT 100 #[.func (.func 56) #[xL (dB a)] #[],s] h λv h'=>∃r:Sl,v=r/\Sp h h' [an 3 r 1 aw (aR ds l)]:=by
 refine ts Tryz.func100 ?_ (v7 (v7 (wj [(5,cM),(11,aU)] [(5,6),(7,9),(11,30)]))) (args:=[(.func (.func 56) #[xL (dB a)] #[]),s]);have D:=x.len;obtain⟨ok,u⟩:=aa.cE H;refine aq (λt:Sl×Nat=>(t.1,(t.2:Int))) (λt h'=>t.2<=hY l/\Sp h h' [an 3 t.1 1 aw (aR ds (l.take t.2))]) (λt=>hY l-t.2) (⟨et,0,0⟩,0) hZ ⟨i6,by simpa[aR]using(Sp.refl h).nil 3 1 aw⟩ ?_;rintro⟨o,i⟩ G ⟨J,j⟩;dsimp only at*;refine af (λe=>?_) (λe=>?_)
 .have p:i<hY l:=ii
  have c:aR ds (l.take (i+1))=aR ds (l.take i)++(if isLive ds l[i]then[l[i]]else[]):=by unfold aR;rw[aE _ _ p,zm,zr,vl]
  have z:hY (aR ds (l.take i))<=hY l:=by have:=qU (isLive ds) (l.take i);unfold aR;simp at this⊢;omega
  have next:∀{h':f7} {k:Sl},Sp h h' [an 3 k 1 aw (aR ds (l.take (i+1)))]->∃m:Sl×Nat,((⟨k.ptr,k.len,k.cap⟩:Sl),qe xP ((i:Int)+1))=(m.1,(m.2:Int))/\(m.2<=hY l/\Sp h h' [an 3 m.1 1 aw (aR ds (l.take m.2))])/\l.length-m.2<hY l-i:=λ{h' k} H'=>
   ⟨(k,i+1),i7,⟨i4,H'⟩,i4⟩
  refine(Seq.up x j.ac).bo i hZ p l[i] hZ (dV kt ?_);refine(mM l[i] ok (u.ac j.ac u.lt)).xa ⟨_,hZ,?_⟩;rcases oS ok l[i]with⟨c1,c2⟩|⟨n,d,b,c0,c1,c2,c3,c4,c5⟩
  .rw[c2];have g:isLive ds l[i]=eH:=by unfold isLive;rw[c1]
   rw[g]at c;refine aW (λe=>jj) λ_=>next (by rw[c];simpa using j)
  .rw[c5];have g:isLive ds l[i]=!d.lost:=by unfold isLive;rw[c3]
   refine aW (λ_=>?_) λe=>jj
   obtain⟨K,f,y⟩:=Qw.aa.kV (aa.up H j.ac) c2;rw[c4]at f;injection f with f
   injection f with f
   subst f;obtain⟨F,A,q,_,_⟩:=jN.box y;refine(sT F A q).xa ⟨_,hZ,aW (λe=>?_) λe=>?_⟩
   .rw[g,e]at c;refine j.push ae 0 hZ gb hZ i0 (λ_=>rfl) fd l[i] hZ i0 ii λk M E=>next ?_
    rw[c];exact E
   .rw[g,e]at c;exact next (by rw[c];simpa using j)
 .rw[qh ii]at j;exact⟨o,hZ,j⟩
theorem Jl(s:Sl)(l:az)(X:St B h0 As λh=>Rd h s 1 aw l)(hl:hY l<=2^30)(p:∀x∈l,0<=x/\x<64)(H:aa B h0 h (bf bi a pw mc offs da w ds::As)):
  ai xT 117 #[.func (.func 56) #[xL (dB a)] #[],s] h λv h'=>v=xJ xP (eO (cI l) w ds).1/\aa B h0 h' (bf bi a pw mc offs da (eO (cI l) w ds).2.1 (eO (cI l) w ds).2.2::As):=by
 refine ts Tryz.func117 ?_ (v7 (v7 (v7 (wj [(15,aU)] [(4,5),(6,8),(15,27)])))) (args:=[(.func (.func 56) #[xL (dB a)] #[]),s]);refine(ij s l h (X.at [_] H) ii).x0 λr M W=>?_;have I:=H.ci W;refine⟨r,hZ,(EN r l M (I.own 0 hZ) ii).xc λS ⟨K,O⟩=>?_⟩;have R:=I.nG 0 hZ O K;refine⟨(),hZ,(Pv r (iC l) S K (by rw[Ef];omega)).xc λh3 ⟨P,J⟩=>?_⟩;have z:=R.step (D:=an 3 ⟨r.ptr,hY (Lib.compact (iC l)),r.cap⟩ 1 aw (Lib.compact (iC l))) 0 hZ λq y E=>⟨J.mono λb _ j F=>j (y.2 b F),P,λb j=>⟨qY (E b (y.2 b j)) J.1,.inl (y.2 b j)⟩⟩
 rw[Vi l p]at z⊢;obtain⟨u,L⟩:=x6 (cI l)
 rw[<-L]at z⊢;have N:hY u<=64:=by have:=qU (λi=>decide (i∈l)) ((qx 64).map λi:Nat=>(i:Int));rw[L];unfold cI;simpa using this
 refine⟨⟨r.ptr,hY u,r.cap⟩,hZ,?_⟩;refine aq (λt:Nat×Pow×aD=>(t.1:Int)) (λt h'=>t.1<=hY u/\eO u w ds=eO (u.drop t.1) t.2.1 t.2.2/\aa B h0 h' (an 3 ⟨r.ptr,hY u,r.cap⟩ 1 aw u::bf bi a pw mc offs da t.2.1 t.2.2::As)) (λt=>hY u-t.1) (0,w,ds) hZ ⟨i6,hZ,z⟩ ?_;rintro⟨i,g,ds1⟩ Y ⟨Z,c,o⟩;dsimp only at*;refine af (λe=>?_) (λe=>?_)
 .have m:i<hY u:=ii
  obtain⟨ok,j⟩:=aa.cE o.rest;rw[qL m,pF]at c;refine(o.seq 0 hZ λ_=>rfl).bo i hZ m u[i] hZ (dV kt ?_);refine(mM u[i] ok j).mono ?_;rintro _ Q ⟨rfl,rfl⟩;refine⟨_,hZ,?_⟩;rcases oS ok u[i]with⟨c1,c2⟩|⟨n,d,b,c0,c1,c2,c3,c4,c5⟩
  .rw[c2];refine(Pr Q).mono ?_;rintro _ T ⟨rfl,rfl⟩;have A:go g ds1 u[i]=(5,g,ds1):=by unfold go;rw[c1]
   rw[A]at c;refine⟨5,hZ,bA (λ_=>?_) λe=>absurd e i0⟩;have:eO u w ds=(5,g,ds1):=c;rw[this];exact⟨hZ,o.rest⟩
  .rw[c5];obtain⟨b',f,V⟩:=Qw.aa.kV (o.aJ 2 [1,0]) c2;rw[c4]at f;injection f with f
   injection f with f
   subst f;refine(Yx V).xc λT U=>?_;have G:=Qw.aa.uY (k:=bi) (n:=n) c4 U;have A:go g ds1 u[i]=((d.sync g).1,(d.sync g).2.1,ds1.set n (dB (d.sync g).2.2)):=by unfold go;rw[c3];simp only[cu,c0,qj]
   rw[A]at c;refine⟨_,hZ,bA (λe2=>?_) λe2=>?_⟩
   .have:eO u w ds=((d.sync g).1,(d.sync g).2.1,ds1.set n (dB (d.sync g).2.2)):=by rw[c];exact f9 e2
    rw[this];exact⟨hZ,G.pC⟩
   .refine⟨(i+1,(d.sync g).2.1,ds1.set n (dB (d.sync g).2.2)),i7,⟨i4,?_,G.aJ 2 [1,0]⟩,i4⟩;rw[c];exact f8 e2
 .rw[zd ii]at c;rw[c];exact⟨hZ,o.rest⟩
end
theorem HP.BU{h:f7}:∀{L:List HP} {q:av} {i:Nat} {A:HP},(HP.all L).p h q->L[i]?=dB A->A.p h q
 |A::L,q,0,A',⟨q1,q2,_,b,_,d,_⟩,hi=>by simp at hi;subst hi;exact A.mono d b
 |A::L,q,i+1,A',⟨q1,q2,_,_,c,_,e⟩,hi=>A'.mono (HP.BU e (by simpa using hi)) c
 |[],_,i,_,_,hi=>by simp at hi
variable {β:Type} {e e2:Nat} {ll:List (List α)}
section
variable {f:α->aT}
theorem aa.Pw(H:aa B h0 h (fy e s e2 k f ll::As))(m:∀x,hY (f x)=k):∃rs,aa B h0 h (dI (cz k f) 1 bn s rs ll::As):=by
 obtain⟨rs,H⟩:=H.pD;obtain⟨H,g⟩:=H.pE;refine⟨rs,H.eW 0 hZ λq c=>⟨?_,g,λi r l b a=>?_⟩⟩
 .have:=HP.BU (i:=0) c hZ;exact this.1.seq (λ_=>rfl) this.2
 .have d:i<hY ll:=(qk.1 a).1;have n:=iw (e:=e2) (k:=k) (f:=f) g i d;have:=HP.BU (i:=i+1) c (by simpa using n);have j:rs[i]'ii=r:=by rw[qc ii]at b;simpa using b
  have e2:ll[i]=l:=by rw[qc d]at a;simpa using a
  rw[j,e2]at this;exact this.1.seq m this.2
end
def bM(m:ak)(a:az):List (Int×aL):=a.flatMap λn=>(aP m).map λc=>(n,c)
theorem ly{m:ak}{a:az}{x:Int×aL}(h:x∈bM m a):x.1∈a/\x.2.length=64:=by unfold bM at h;obtain⟨n,e,d⟩:=zI.1 h;obtain⟨c,b,rfl⟩:=qo.1 d;exact⟨e,tU b⟩
theorem ke(m:ak)(a:cC m):hY (aP m)<=3000:=by have:=HR m a;unfold aP dC;simp;omega
abbrev Px:bL C.toBH 96 134 2 [xJ xP 0,xK et 0 0] 32:=⟨_,_,hZ,hZ,hZ,hZ,hZ,hZ⟩
section
variable {pw:eS}
theorem ET(s:Sl)(r:List (Int×Sl))(P:List (Int×aL))(I:St B h0 As λh=>oh mS 2 piv h s r P)(hl:hY P<=2^30)(z:∀x∈P,(0<=x.1/\x.1<64)/\x.2.length<=2^20)(H:aa B h0 h (bf bi a pw mc offs da w ds::As)):
  ai xT 57 #[.func (.func 56) #[xL (dB a)] #[],s] h λv h'=>v=xJ xP (layAll P w ds).1/\aa B h0 h' (bf bi a pw mc offs da (layAll P w ds).2.1 (layAll P w ds).2.2::As):=by
 refine ts Tryz.func57 ?_ (v7 (v7 (u7 (v7 (v1 (v2 [(5,cM),(11,aU)] [(4,6),(7,9),(11,31)] (v7 (v7 (u7 (v1 (v7 (u7 (v6 [] [(4,5),(8,9),(15,25)] (ws [(8,aU)] [(8,9),(15,22)] u9)) u9))) u9)))))) u9))) [(5,(.l [0,1,2,4,5,3,6,7]))] (args:=[(.func (.func 56) #[xL (dB a)] #[]),s]);have W:=(I.at [_] H).1.len;have ab:=(I.at [_] H).2.1;have U:=(H.nil 3 1 aw).aZ;refine aq (λt:Sl×Nat×Pow×aD=>(t.1,(t.2.1:Int))) (λt h'=>t.2.1<=hY P/\lJ P w ds=lJ (P.drop t.2.1) t.2.2.1 t.2.2.2/\aa B h0 h' (an 3 t.1 1 aw ((P.take t.2.1).map qE)::bf bi a pw mc offs da t.2.2.1 t.2.2.2::As)) (λt=>hY P-t.2.1) (⟨et,0,0⟩,0,w,ds) hZ ⟨i6,hZ,by simpa using U⟩ ?_;rintro⟨o,i,u,ds1⟩ h1 ⟨hi,f,G⟩;dsimp only at*;refine af (λe=>?_) (λe=>?_)
 .have q:i<hY P:=ii
  rw[qL q,uI]at f;have F1:=I.at [_,_] G;have K:=z _ (qf q);refine F1.1.de (g:=piv) i hZ ii (r[i]'ii) hZ ?_;refine G.alloc ae hZ λa4 S A=>?_;have A:=A.aZ;refine A.storeAll ae 0 hZ hZ (piv (r[i]'ii)) hZ hZ hZ hZ λh3 m=>?_;obtain⟨O,N⟩:=Fix.row (I.at [_,_,_] m) q;have m:=m.aJ 3 [2,0,1];obtain⟨ok,Z⟩:=aa.cE m;obtain⟨c,p⟩:=x6 (gn u ds1 P[i].1 P[i].2)
  rw[<-p]at f;refine bB (λ_ h'=>c.1=0/\aa B h0 h' (bf bi a pw mc offs da c.2.1 c.2.2::aj a4 134 (piv (r[i]'ii))::an 3 o 1 aw ((P.take i).map qE)::As)) ?_ ?_
  .refine bB (λe h'=>e=c.1/\aa B h0 h' (bf bi a pw mc offs da c.2.1 c.2.2::aj a4 134 (piv (r[i]'ii))::an 3 o 1 aw ((P.take i).map qE)::As)) ?_ ?_
   .refine⟨P[i].1,by rw[<-O];exact(m.box 1 hZ).cell0 hZ,(r[i]'ii).2,(m.box 1 hZ).cell hZ,dV kt ?_⟩;refine(mM P[i].1 ok Z).mono ?_;rintro _ J ⟨rfl,rfl⟩;refine⟨_,hZ,⟨(m.box 1 hZ).cell hZ,x7⟩,?_⟩;rcases oS ok P[i].1 with⟨c1,c2⟩|⟨n,d,b,c0,c1,c2,c3,c4,c5⟩
    .rw[c2];refine(KU (r[i]'ii).2 P[i].2 J N).mono ?_;rintro _ R ⟨rfl,rfl⟩;have D:c=(if P[i].2.length≠64 then 1 else 5,u,ds1):=by rw[p];unfold gn;rw[c1]
     refine⟨_,hZ,x7,by rw[D],?_⟩;rw[D];exact m
    .rw[c5];obtain⟨b',j,M⟩:=Qw.aa.kV m c2;rw[c4]at j;injection j with j
     injection j with j
     subst j;refine(GI (r[i]'ii).2 P[i].2 M N K.2).xc λh6 X=>?_;have T:=Qw.aa.uY (k:=bi) (n:=n) c4 X;have D:c=((d.append u P[i].2).1,(d.append u P[i].2).2.1,ds1.set n (dB (d.append u P[i].2).2.2)):=by rw[p];unfold gn;rw[c3];simp only[cu,c0,qj]
     refine⟨_,hZ,x7,by rw[D],?_⟩;rw[D];exact T
   .rintro e4 J ⟨rfl,F⟩;refine bA (λe2=>?_) λe2=>⟨e2,F⟩
    rw[f9 e2]at f;have:layAll P w ds=c:=by unfold layAll;rw[f];exact f9 e2
    rw[this];exact⟨hZ,F.pC.pC⟩
  .rintro _ J ⟨e2,F⟩;rw[f8 e2]at f;refine⟨P[i].1,by rw[<-O];exact(F.box 1 hZ).cell0 hZ,?_⟩;refine F.push ae 2 hZ gb hZ i0 (λ_=>rfl) fd P[i].1 hZ i0 i5 λo' R M=>?_;refine⟨(o',i+1,c.2.1,c.2.2),i7,⟨i4,f,?_⟩,i4⟩
   try dsimp only
   rw[aE _ _ q,qN];exact M.aJ 3 [2,0]
 .have L:i=hY P:=ii
  subst L;rw[List.drop_length]at f;rw[qM]at G;have A:=(G.freeze 0 hZ λ_=>rfl).aJ 2 [1,0];have E:layAll P w ds=eO (cI (P.map qE)) u ds1:=by unfold layAll;rw[f];rfl
  refine(Jl o (P.map qE) (St.ey 0 hZ λh' Y=>Y) i5 (λx Q=>?_) A).mono ?_
  .obtain⟨y,V,rfl⟩:=qo.1 Q;exact(z y V).1
  .rintro _ S ⟨rfl,m⟩;refine⟨_,hZ,tp,?_⟩;rw[E];exact m.pC
theorem GK(x:bh)(m:ak)(s:Sl)(a:az)(h:f7)(hx:cR h x m)(H:cC m)(S:Rd h s 1 aw a)(al:hY a<=2^10):
  ai xT 58 #[dK x,s] h λv h'=>∃(r:Sl) (ys:List (Int×Sl)),v=r/\Sp h h' [dI mS 2 piv r ys (bM m a)]:=by
 refine ts Tryz.func58 ?_ (v7 (v7 (v7 (u7 (v7 (v1 (v2 [(6,cM),(15,aU)] [(6,7),(8,9),(10,11),(15,33)] (v7 (v7 (u7 (v1 (v7 (v7 (v1 (v2 [(6,cM),(21,aU)] [(6,7),(10,11),(21,32)] u9))))) u9)))))) u9)))) (args:=[x,s]);refine(Sp.refl h).boxed λa1 U O=>?_;refine⟨x,(O.box 0 hZ).aA _ hZ,(mu x m U (hx.up O.ac) H).x0 λr h2 Y=>?_⟩;have F:=O.ci Y;refine⟨r,hZ,?_⟩;obtain⟨rs,F⟩:=F.Pw λ_=>rfl;have N:=ke m H;obtain⟨d,D⟩:=x6 (aP m)
 rw[<-D]at F N;have W:=F.eC 0 hZ;have ah:=W.1.len;have ab:=W.2.1;have ad:=S.len;obtain⟨T,I⟩:∃T:Int->List ((Int×Sl)×(Int×aL)),T=λn=>(rs.zip d).map λz=>((n,z.1),(n,z.2)):=⟨_,rfl⟩
 have f:∀n,hY (T n)=hY d:=λn=>by rw[I];simp;omega
 have M:∀n,(T n).map zi=d.map λc=>(n,c):=λn=>by
  have H:=List.map_snd_zip (l₁:=rs) (l₂:=d) ii
  conv=>rhs;rw[<-H]
  rw[I];simp[wN,Function.comp_def]
 have K:∀n j (L:j<hY d),(T n)[j]'(by rw[f];exact L)=((n,rs[j]'ii),(n,d[j])):=λn j L=>by subst I;simp
 have w:=(F.nil 134 2 piv).bt [2,0];have A:∀i,i<=hY a->hY ((a.take i).flatMap T)<=i*3000:=λi=>by
  induction i with
  |zero=>simp
  |succ i ih=>
   intro R;rw[aE _ _ (show i<hY a by omega),q9,qw];have U:=ih ii;have h2:hY ([a[i]].flatMap T)=hY d:=by rw[zb,z6,qG,f]
   omega
 refine aq (λt:Sl×Nat=>(t.1,(t.2:Int))) (λt h'=>t.2<=hY a/\Sp h h' [an 134 t.1 2 piv (((a.take t.2).flatMap T).map qE),dI (cz 1 aB) 1 bn r rs d]) (λt=>hY a-t.2) (⟨et,0,0⟩,0) hZ ⟨i6,w⟩ ?_;rintro⟨o,i⟩ h3 ⟨R,w⟩;dsimp only at*;refine af (λe=>?_) (λe=>?_)
 .have y:i<hY a:=ii
  have ht:=A i R;have hb:i*3000<=2^10*3000:=zF _ ii;refine(Seq.up S w.ac).bo i hZ y a[i] hZ ?_;refine aq (λt:Sl×Nat=>(t.1,(t.2:Int))) (λt h'=>t.2<=hY d/\Sp h h' [an 134 t.1 2 piv (((a.take i).flatMap T).map qE++((T a[i]).take t.2).map qE),dI (cz 1 aB) 1 bn r rs d]) (λt=>hY d-t.2) (o,0) hZ ⟨i6,pt⟩ ?_;rintro⟨u,j⟩ h4 ⟨L,p⟩;dsimp only at*;refine af (λe2=>?_) (λe2=>?_)
  .have B:j<hY d:=ii
   refine(p.eC 1 hZ).1.mQ j hZ ii ?_;refine p.push ae 0 hZ Px hZ i0 (λ_=>rfl) KZ (a[i],rs[j]'ii) hZ i0 (by simp only[qw,qu,qR,f];omega) λu' h5 Z=>?_;refine⟨(u',j+1),i7,⟨i4,?_⟩,i4⟩
   try dsimp only
   rw[aE (T a[i]) j (by rw[f];exact B),qN,K _ _ B,<-qn];exact Z
  .have Q:j=hY d:=ii
   subst Q;rw[qh (l:=T a[i]) (by rw[f];exact qm _)]at p;refine⟨(u,i+1),i7,⟨i4,?_⟩,i4⟩
   try dsimp only
   rw[aE _ _ y,q9,qN,zb,z6,qG];exact p
 .have P:i=hY a:=ii
  subst P;rw[qM]at w;refine⟨o,(a.flatMap T).map qE,hZ,?_⟩;have p:=(w.freeze 0 hZ λ_=>rfl).jw;refine p.eW 0 hZ λq ⟨q1,q2,_,b,c,X,z2⟩=>?_;have E:(a.flatMap T).map zi=bM m a:=by unfold bM;rw[List.map_flatMap,<-D];congr 1;funext n;exact M n
  rw[<-E];refine⟨z2.mono c,i6,λj r' l' g G=>?_⟩;rw[qO]at g G;cases g3:(a.flatMap T)[j]? with
  |none=>rw[g3]at g;cases g
  |some t=>
   rw[g3]at g G;simp at g G;subst g;subst G;obtain⟨n,_,V⟩:=zI.1 (zZ g3);rw[I]at V;obtain⟨z,J,rfl⟩:=qo.1 V;obtain⟨k,hk,rfl⟩:=List.mem_iff_getElem.1 J;rw[yS];exact⟨hZ,(X.2.2 k _ _ (qc _) (qc _)).mono b⟩
end
section
variable {d:List bF}
theorem VH{b c:List bF}{y:bF}(d:Sd cG (b++c))(f:∀z∈b,cG z y=ez)(g:∀z∈c,¬cG z y=ez):Sd cG (b++y::c):=
 Sd.app eF d.left (zx.2 ⟨λz a=>eF.BN (g z a),d.right⟩) λx e z a=>by
  rcases qT.1 a with rfl|a
  .exact f x e
  .exact d.Az x e z a
theorem BV(X M Y:List bF)(a b:Int)(ha:a=(hY X:Int))(hb:b=(hY X+hY M:Nat))(ah:hY X+hY M+hY Y<=2^40)(H:aa B h0 h (cP s (X++(M++Y))::As)):
  ai xT 288 #[s,xJ xP a,xJ xP b,.func (.func 158) #[] #[]] h λv h'=>v=.tuple #[]/\∃M',Sd cG M'/\cm cG M M'/\aa B h0 h' (cP s (X++(M'++Y))::As):=by
 refine ts Tryz.func288 ?_ (v7 (v1 (v2 [(8,aU)] [(8,10),(12,53)] (v7 (u7 (v1 (v7 (v1 (v2 [(9,aU)] [(9,10),(18,53)] (ws [] [(18,35)] u9))))) u9))))) (args:=[s,(a:Int),(b:Int),(.func (.func 158) #[] #[])]);subst ha;subst hb;rw[ag ((hY X:Int)+1)];refine aq (λt:Nat×List bF=>((hY X+1+t.1:Nat):Int)) (λt h'=>(t.1+1<=hY M∨t.1=0)/\Sd cG t.2/\cm cG (M.take (t.1+1)) t.2/\t.2.length=hY (M.take (t.1+1))/\aa B h0 h' (cP s (X++(t.2++(M.drop (t.1+1)++Y)))::As)) (λt=>hY M-t.1) (0,M.take 1) hZ ?_ ?_
 .refine⟨.inr hZ,?_,cm.refl _,hZ,?_⟩
  .cases M with
   |nil=>exact List.Pairwise.nil
   |cons x M=>exact zx.2 ⟨λ_ h=>l6,i6⟩
  .rw[<-qn (M.take (0+1)),qC];exact H
 rintro⟨t,P⟩ h1 ⟨ht,A,q,ab,T⟩;dsimp only at*;refine af (λe=>?_) (λe=>?_)
 .have K:t+1<hY M:=ii
  obtain⟨y,hy⟩:=x6 (M[t+1])
  have I:hY P=t+1:=by rw[ab];simp;omega
  have eD:M.drop (t+1)=y::M.drop (t+1+1):=by rw[qL K,hy]
  rw[eD]at T;refine aq (λu:List bF×List bF=>((hY X+hY u.1:Nat):Int)) (λu h'=>u.1++u.2=P/\(∀z∈u.2,¬cG z y=ez)/\aa B h0 h' (cP s (X++(u.1++(y::(u.2++(M.drop (t+1+1)++Y)))))::As)) (λu=>hY u.1) (P,[]) (by dsimp only;rw[I];congr 1;omega) ⟨i6,i6,by simpa using T⟩ ?_;rintro⟨c,d⟩ h2 ⟨J,k,N⟩;dsimp only at*;have ad:hY c+hY d=t+1:=by rw[<-I,<-J,qw]
  have f:∀{h':f7},(∀z∈c,cG z y=ez)->aa B h0 h' (cP s (X++(c++(y::(d++(M.drop (t+1+1)++Y)))))::As)->
    ∃l:Nat×List bF,qe xP (((hY X+1+t:Nat):Int)+1)=((hY X+1+l.1:Nat):Int)/\((l.1+1<=hY M∨l.1=0)/\Sd cG l.2/\cm cG (M.take (l.1+1)) l.2/\l.2.length=hY (M.take (l.1+1))/\aa B h0 h' (cP s (X++(l.2++(M.drop (l.1+1)++Y)))::As))/\M.length-l.1<hY M-t:=λ{h'} hle H'=>by
   refine⟨(t+1,c++y::d),m7,⟨.inl i4,?_,?_,?_,?_⟩,i4⟩
   .exact VH oa hle k
   .try dsimp only
    rw[aE M (t+1) K,<-hy];have h1:cm cG (M.take (t+1)++[y]) (P++[y]):=q.app (cm.refl _);refine h1.trans ?_;rw[<-J,qn];have h2:cm cG (d++[y]) ([y]++d):=cm.TD eF λx hx z S=>by rw[qp.1 S];exact k x hx
    exact(cm.refl _).app h2
   ·(try dsimp only);simp;omega
   .try dsimp only
    have:X++((c++y::d)++(M.drop (t+1+1)++Y))=X++(c++(y::(d++(M.drop (t+1+1)++Y)))):=i6
    rw[this];exact H'
  obtain⟨D,U⟩:=x6 (X++(c++(y::(d++(M.drop (t+1+1)++Y)))))
  refine bB (λ_ h'=>∃(Q:List bF) (z:bF),c=Q++[z]/\¬cG z y=ez/\aa B h0 h' (cP s D::As)) ?_ ?_
  .rw[<-U]at N f;refine af (λe2=>?_) (λe2=>⟨x7,f (λz S=>?_) N⟩)
   .have L:c≠[]:=λh=>by rw[h]at e2;simp at e2
    obtain⟨Q,z,o⟩:∃(Q:List bF) (z:bF),c=Q++[z]:=⟨c.dropLast,c.getLast L,(List.dropLast_concat_getLast L).symm⟩
    have V:hY c=hY Q+1:=pa
    have g1:D[hY X+hY c]?=dB y:=by rw[U,qi ii,show X.length+hY c-hY X=hY c by omega,qi ii,qX];rfl
    have g2:D[hY X+hY c-1]?=dB z:=by rw[U,qi ii,show X.length+hY c-1-hY X=hY Q by omega,o,qn,qi (qm _),qX];rfl
    obtain⟨O,r⟩:=qk.1 g1;obtain⟨R,E⟩:=qk.1 g2;refine(N.seq 0 hZ λ_=>rfl).de (g:=cX) _ hZ O y q6 ?_;have Z:qe xP (((hY X+hY c:Nat):Int)-1)=((hY X+hY c-1:Nat):Int):=j1
    rw[Z];refine(N.seq 0 hZ λ_=>rfl).de (g:=cX) _ hZ R z tp (dV kt ?_);refine(pV y z h2).xc λh3 R3=>?_;have G:=N.up R3.ac;refine⟨_,hZ,x7,af (λW=>⟨Q,z,o,(rT y z).1 W,G⟩) λW=>f (λw m=>?_) G⟩;have p:cG z y=ez:=by
     by_cases hc:cG z y=ez
     .exact hc
     .exact absurd ((rT y z).2 hc) W
    rw[o]at m;rcases qt.1 m with m|m
    .refine eF.trans _ _ _ ?_ p;have:Sd cG (Q++[z]):=by rw[<-o];exact Sd.left (v:=d) oa
     exact this.Az w m z i6
    .rw[qp.1 m];exact p
   .have:c=[]:=by
     cases c with
     |nil=>rfl
     |cons x P=>exfalso;simp only[za]at e2;omega
    rw[this]at S;cases S
  .rintro _ h3 ⟨Q,z,o,p,G⟩;have V:hY c=hY Q+1:=pa
   have F:D=(X++Q)++z::([]++y::(d++(M.drop (t+1+1)++Y))):=by rw[U,o];simp
   obtain⟨q1,q2,q3,q4⟩:=KY (X++Q) [] (d++(M.drop (t+1+1)++Y)) z y (i:=hY X+hY c-1) (j:=hY X+hY c) i5 i5;rw[<-F]at q1 q2 q3 q4;obtain⟨R,E⟩:=qk.1 q1;obtain⟨O,r⟩:=qk.1 q2;have Z:qe xP (((hY X+hY c:Nat):Int)-1)=((hY X+hY c-1:Nat):Int):=j1
   rw[Z];refine(G.seq 0 hZ λ_=>rfl).de (g:=cX) _ hZ R z tp ?_;refine(G.seq 0 hZ λ_=>rfl).de (g:=cX) _ hZ O y q6 ?_;refine G.set ae 0 hZ (λ_=>rfl) hZ (hY X+hY c) hZ O z hZ hZ hZ λh4 H4=>⟨x7,?_⟩
   refine H4.set ae 0 hZ (λ_=>rfl) hZ (hY X+hY c-1) hZ (by simpa using R) y hZ hZ hZ λh5 H5=>⟨x7,?_⟩
   refine⟨(Q,z::d),lz,⟨by dsimp only;rw[<-J,o];simp,?_,?_⟩,i4⟩
   .try dsimp only
    intro w m;rcases qT.1 m with rfl|m
    .exact p
    .exact k w m
   .try dsimp only
    have:X++(Q++(y::(z::d++(M.drop (t+1+1)++Y))))=(X++Q)++y::([]++z::(d++(M.drop (t+1+1)++Y))):=i6
    rw[this,<-q4];exact H5
 .refine⟨hZ,P,A,?_,?_⟩
  .rw[qh ii]at q;exact q
  .rw[zd ii]at T;simpa using T
end
theorem Gm(x y:Nat)(h:x+y<=2^62:=by omega):qe xP (zQ (qe xS (qe xP ((x:Int)+(y:Int)))) (2^min (1:Int).toNat (qI xS)))=(((x+y)/2:Nat):Int):=by
 rw[ag ((x:Int)+y)];have e:qe xS ((x:Int)+(y:Int))=(x:Int)+y:=by unfold qe;simp[qI,vb];omega
 rw[e,show min (1:Int).toNat (qI xS)=1 from hZ,Int.fdiv_eq_ediv_of_nonneg _ i0,ag _];omega
section
variable {d:List bF}
theorem Bn{x y:bF}(h:¬mv x y<0):cG y x=ez:=by
 by_cases a:cG y x=ez
 .exact a
 .exact absurd ((rT x y).2 a) h
theorem kI{K:bF->Prop}(H:aa B h0 h (cP s d::As)){i:Int}(n:Nat)(f:i=n){x:bF}(e:d[n]?=dB x)(c:K x):
  ∃a:eS,(s.ptr=dB a/\0<=i/\i<((s.len:Nat):Int))/\∃x:bF,bj h (a.add (i.toNat*8)) 0 (cX x)/\K x:=by
 obtain⟨b,j⟩:=qk.1 e;exact(H.seq 0 hZ λ_=>rfl).de (g:=cX) n f b x (by rw[j]) c
theorem La(x:bF)(X R Y:List bF)(ah:hY X+1+hY R+hY Y<=2^40)(y:Sd cG R)(H:aa B h0 h (cP s (X++(x::(R++Y)))::As)){K:Bd}
  (d:∀h',(∃M,Sd cG M/\cm cG (x::R) M/\aa B h0 h' (cP s (X++(M++Y))::As))->K (.tuple #[]) h') (a m b:Int) (ha:a=(hY X:Int)) (hm:m=(hY X+1:Nat)) (hb:b=(hY X+1+hY R:Nat)):
  gX (σ:=Int×Int) (λc K1 g=>
   Br (decide (c.1<c.2))
   ((0<=(1:Int))/\
   ∃a2:eS,(s.ptr=dB a2/\0<=(qe xP (zQ (qe xS (qe xP (c.1+c.2))) (2^min (1:Int).toNat (qI xS))))/\(qe xP (zQ (qe xS (qe xP (c.1+c.2))) (2^min (1:Int).toNat (qI xS))))<((s.len:Nat):Int))/\
   ∃x3:bF,bj g (a2.add ((qe xP (zQ (qe xS (qe xP (c.1+c.2))) (2^min (1:Int).toNat (qI xS)))).toNat*8)) 0 (cX x3)/\
   ∃a4:eS,(s.ptr=dB a4/\0<=a/\a<((s.len:Nat):Int))/\
   ∃x5:bF,bj g (a4.add (a.toNat*8)) 0 (cX x5)/\
   uB C 158 ((#[]:Array Value).toList++[recv x3,recv x5]++(#[]:Array Value).toList) (.one (.sc (.int .i64))) g λr6 n=>
   (bR.ok [] n)/\
   Br (decide (r6<(0:Int)))
   (K1 (qe xP ((qe xP (zQ (qe xS (qe xP (c.1+c.2))) (2^min (1:Int).toNat (qI xS))))+(1:Int)),c.2) n)
   (K1 (c.1,qe xP (zQ (qe xS (qe xP (c.1+c.2))) (2^min (1:Int).toNat (qI xS)))) n))
   (gX (σ:=Int) (λf K2 h3=>
   Br (decide (f<(qe xP (c.1-(1:Int)))))
   (∃a8:eS,(s.ptr=dB a8/\0<=(qe xP (f+(1:Int)))/\(qe xP (f+(1:Int)))<((s.len:Nat):Int))/\
   ∃x9:bF,bj h3 (a8.add ((qe xP (f+(1:Int))).toNat*8)) 0 (cX x9)/\
   ∃G:eS,(s.ptr=dB G/\0<=f/\f<((s.len:Nat):Int))/\
   ∃F:bF,bj h3 (G.add (f.toNat*8)) 0 (cX F)/\
   ∃L:eS,(s.ptr=dB L/\0<=f/\f<((s.len:Nat):Int))/\
   au xT (qH 153 (xL (dB (L.add (f.toNat*8)))) (recv x9)) h3 λ_ W=>
   (bR.ok [] W)/\
   ∃D:eS,(s.ptr=dB D/\0<=(qe xP (f+(1:Int)))/\(qe xP (f+(1:Int)))<((s.len:Nat):Int))/\
   au xT (qH 153 (xL (dB (D.add ((qe xP (f+(1:Int))).toNat*8)))) (recv F)) W λ_ U=>
   (bR.ok [] U)/\
   K2 (qe xP (f+(1:Int))) U)
   (K (.tuple #[]) h3)) a g)) (m,b) h:=by
 subst ha;subst hm;subst hb;refine aq (λt:Nat×Nat=>(((hY X+1+t.1:Nat):Int),((hY X+1+t.2:Nat):Int))) (λt h'=>t.1<=t.2/\t.2<=hY R/\(∀k (d:k<hY R),k<t.1->¬cG x R[k]=ez)/\(∀k (d:k<hY R),t.2<=k->cG x R[k]=ez)/\aa B h0 h' (cP s (X++(x::(R++Y)))::As)) (λt=>t.2-t.1) (0,hY R) hZ ⟨i6,i6,λ_ _ h=>l6,λ_ g n=>absurd g (by simpa using n),H⟩ ?_;rintro⟨i,j⟩ g ⟨ab,hj,p,r,O⟩;dsimp only at*;refine af (λe=>?_) (λe=>?_)
 .have o:i<j:=ii
  rw[Gm _ _];have eh:((hY X+1+i)+(hY X+1+j))/2=hY X+1+(i+j)/2:=ii
  rw[eh];have d:(i+j)/2<hY R:=ii
  refine⟨i0,kI O _ hZ (x:=R[(i+j)/2]) ?_ (kI O X.length hZ (x:=x) ?_ (dV kt ?_))⟩
  .rw[qi ii,show X.length+1+(i+j)/2-hY X=(i+j)/2+1 by omega,qq,ql d,qc d]
  .rw[qi (qm _),qX];rfl
  refine(pV R[(i+j)/2] x g).xc λn R2=>?_;have H2:=O.up R2.ac;refine⟨_,hZ,x7,af (λe2=>?_) λe2=>?_⟩
  .have Q:=(rT _ _).1 e2;refine⟨((i+j)/2+1,j),i7,⟨i4,hj,λk I T=>?_,r,H2⟩,i4⟩;intro hc;exact Q (eF.trans _ _ _ hc (y.at_ eF (i:=k) (j:=(i+j)/2) (by dsimp only at T;omega) d))
  .refine⟨(i,(i+j)/2),hZ,⟨i4,i4,p,λk I V=>?_,H2⟩,i4⟩;exact eF.trans _ _ _ (Bn e2) (y.at_ eF (by dsimp only at V;omega) I)
 .have o:i=j:=ii
  subst o;have hM:Sd cG (R.take i++x::R.drop i):=by
   refine Sd.app eF (Sd.left (v:=R.drop i) (by rw[qC];exact y)) (zx.2 ⟨λz E=>?_,Sd.right (u:=R.take i) (by rw[qC];exact y)⟩) λz E w J=>?_
   .obtain⟨k,d,rfl⟩:=qB E;rw[wB];exact r _ _ ii
   .obtain⟨k,d,rfl⟩:=qB E;rw[yn];have S:k<i:=lb
    have g:=eF.BN (p k lb S);rcases qT.1 J with rfl|J
    .exact g
    .obtain⟨l,hl,rfl⟩:=qB J;rw[wB];exact y.at_ eF ii (by simp at hl;omega)
  have hE:cm cG (x::R) (R.take i++x::R.drop i):=by
   have g:cm cG ([x]++R.take i) (R.take i++[x]):=cm.TD eF λz E w J=>by
    rw[qp.1 E];obtain⟨k,d,rfl⟩:=qB J;rw[yn];exact p k lb lb
   have n:=g.app (cm.refl (le:=cG) (R.drop i));have e1:([x]++R.take i)++R.drop i=x::R:=by rw[qn,qC];rfl
   have e2:(R.take i++[x])++R.drop i=R.take i++x::R.drop i:=i6
   rw[e1,e2]at n;exact n
  have el:qe xP (((hY X+1+i:Nat):Int)-1)=((hY X+i:Nat):Int):=j1
  rw[el];refine aq (λt:Nat=>((hY X+t:Nat):Int)) (λt h'=>t<=i/\aa B h0 h' (cP s (X++(R.take t++(x::(R.drop t++Y))))::As)) (λt=>i-t) 0 hZ ⟨ii,by simpa using O⟩ ?_;rintro t h3 ⟨ht,N⟩;refine af (λe2=>?_) (λe2=>?_)
  .have ad:t<i:=ii
   have A:t<hY R:=ii
   have q:X++(R.take t++(x::(R.drop t++Y)))=(X++R.take t)++x::([]++R[t]::(R.drop (t+1)++Y)):=by rw[qL A];simp only[qn,zu,we]
   obtain⟨P,Z,q3,q4⟩:=KY (X++R.take t) [] (R.drop (t+1)++Y) x R[t] (i:=hY X+t) (j:=hY X+t+1) i5 i5;rw[<-q]at P Z q3 q4;have ek:qe xP (((hY X+t:Nat):Int)+1)=((hY X+t+1:Nat):Int):=j1
   rw[ek];refine kI N _ hZ Z (kI N _ hZ P ?_);refine N.set ae 0 hZ (λ_=>rfl) hZ (hY X+t) hZ (qk.1 P).1 R[t] hZ hZ hZ λW H4=>⟨x7,?_⟩
   refine H4.set ae 0 hZ (λ_=>rfl) hZ (hY X+t+1) hZ (by rw[zE];exact(qk.1 Z).1) x hZ hZ hZ λU H5=>⟨x7,?_⟩
   refine⟨t+1,hZ,⟨ii,?_⟩,ii⟩;have e3:X++(R.take (t+1)++(x::(R.drop (t+1)++Y)))=(X++R.take t)++R[t]::([]++x::(R.drop (t+1)++Y)):=by rw[aE R t A];simp only[qn,zu,we]
   rw[e3,<-q3];exact H5
  .have:t=i:=ii
   subst this;refine d h3 ⟨R.take t++x::R.drop t,hM,hE,?_⟩;have:X++((R.take t++x::R.drop t)++Y)=X++(R.take t++(x::(R.drop t++Y))):=i6
   rw[this];exact N
theorem Jm(y:bF)(X L Y:List bF)(ar:hY X+hY L+1+hY Y<=2^40)(P:Sd cG L)(H:aa B h0 h (cP s (X++(L++(y::Y)))::As)){K:Bd}
  (d:∀h',(∃M,Sd cG M/\cm cG (L++[y]) M/\aa B h0 h' (cP s (X++(M++Y))::As))->K (.tuple #[]) h') (a m:Int) (ha:a=(hY X:Int)) (hm:m=(hY X+hY L:Nat)):
  gX (σ:=Int×Int) (λb K3 V=>
   Br (decide (b.1<b.2))
   ((0<=(1:Int))/\
   ∃I:eS,(s.ptr=dB I/\0<=m/\m<((s.len:Nat):Int))/\
   ∃D:bF,bj V (I.add (m.toNat*8)) 0 (cX D)/\
   ∃G:eS,(s.ptr=dB G/\0<=(qe xP (zQ (qe xS (qe xP (b.1+b.2))) (2^min (1:Int).toNat (qI xS))))/\(qe xP (zQ (qe xS (qe xP (b.1+b.2))) (2^min (1:Int).toNat (qI xS))))<((s.len:Nat):Int))/\
   ∃Q:bF,bj V (G.add ((qe xP (zQ (qe xS (qe xP (b.1+b.2))) (2^min (1:Int).toNat (qI xS)))).toNat*8)) 0 (cX Q)/\
   uB C 158 ((#[]:Array Value).toList++[recv D,recv Q]++(#[]:Array Value).toList) (.one (.sc (.int .i64))) V λam h7=>
   (bR.ok [] h7)/\
   Br (!(decide (am<(0:Int))))
   (K3 (qe xP ((qe xP (zQ (qe xS (qe xP (b.1+b.2))) (2^min (1:Int).toNat (qI xS))))+(1:Int)),b.2) h7)
   (K3 (b.1,qe xP (zQ (qe xS (qe xP (b.1+b.2))) (2^min (1:Int).toNat (qI xS)))) h7))
   (gX (σ:=Int) (λc K4 h8=>
   Br (decide (c>b.1))
   (∃A:eS,(s.ptr=dB A/\0<=(qe xP (c-(1:Int)))/\(qe xP (c-(1:Int)))<((s.len:Nat):Int))/\
   ∃U:bF,bj h8 (A.add ((qe xP (c-(1:Int))).toNat*8)) 0 (cX U)/\
   ∃N:eS,(s.ptr=dB N/\0<=c/\c<((s.len:Nat):Int))/\
   ∃q:bF,bj h8 (N.add (c.toNat*8)) 0 (cX q)/\
   ∃a25:eS,(s.ptr=dB a25/\0<=c/\c<((s.len:Nat):Int))/\
   au xT (qH 153 (xL (dB (a25.add (c.toNat*8)))) (recv U)) h8 λ_ h9=>
   (bR.ok [] h9)/\
   ∃E:eS,(s.ptr=dB E/\0<=(qe xP (c-(1:Int)))/\(qe xP (c-(1:Int)))<((s.len:Nat):Int))/\
   au xT (qH 153 (xL (dB (E.add ((qe xP (c-(1:Int))).toNat*8)))) (recv q)) h9 λ_ T=>
   (bR.ok [] T)/\
   K4 (qe xP (c-(1:Int))) T)
   (K (.tuple #[]) h8)) m V)) (a,m) h:=by
 subst ha;subst hm;refine aq (λt:Nat×Nat=>(((hY X+t.1:Nat):Int),((hY X+t.2:Nat):Int))) (λt h'=>t.1<=t.2/\t.2<=hY L/\(∀k (d:k<hY L),k<t.1->cG L[k] y=ez)/\(∀k (d:k<hY L),t.2<=k->¬cG L[k] y=ez)/\aa B h0 h' (cP s (X++(L++(y::Y)))::As)) (λt=>t.2-t.1) (0,hY L) hZ ⟨i6,i6,λ_ _ h=>l6,λ_ n O=>absurd n (by simpa using O),H⟩ ?_;rintro⟨i,j⟩ n ⟨ao,hj,J,g,Z⟩;dsimp only at*;refine af (λe=>?_) (λe=>?_)
 .have f:i<j:=ii
  rw[Gm _ _];have eh:((hY X+i)+(hY X+j))/2=hY X+(i+j)/2:=ii
  rw[eh];have d:(i+j)/2<hY L:=ii
  refine⟨i0,kI Z (hY X+hY L) hZ (x:=y) ?_ (kI Z _ hZ (x:=L[(i+j)/2]) ?_ (dV kt ?_))⟩
  .rw[qi ii,show X.length+hY L-hY X=hY L by omega,qi (qm _),qX];rfl
  .rw[qi ii,show X.length+(i+j)/2-hY X=(i+j)/2 by omega,ql d,qc d]
  refine(pV y L[(i+j)/2] n).xc λO R2=>?_;have H2:=Z.up R2.ac;refine⟨_,hZ,x7,?_⟩;by_cases e2:mv y L[(i+j)/2]<0
  .have ab:=(rT _ _).1 e2;refine aW (λr=>absurd r n5) λ_=>?_;refine⟨(i,(i+j)/2),hZ,⟨i4,i4,J,λk R al=>?_,H2⟩,i4⟩;intro hc;exact ab (eF.trans _ _ _ (P.at_ eF (i:=(i+j)/2) (j:=k) (by dsimp only at al;omega) R) hc)
  .refine aW (λ_=>?_) λr=>absurd r n5;refine⟨((i+j)/2+1,j),i7,⟨i4,hj,λk R ah=>?_,g,H2⟩,i4⟩;exact eF.trans _ _ _ (P.at_ eF (by dsimp only at ah;omega) d) (Bn e2)
 .have f:i=j:=ii
  subst f;have hM:Sd cG (L.take i++y::L.drop i):=by
   refine Sd.app eF (Sd.left (v:=L.drop i) (by rw[qC];exact P)) (zx.2 ⟨λz F=>?_,Sd.right (u:=L.take i) (by rw[qC];exact P)⟩) λz F w S=>?_
   .obtain⟨k,d,rfl⟩:=qB F;rw[wB];exact eF.BN (g _ lb ii)
   .obtain⟨k,d,rfl⟩:=qB F;rw[yn];have ad:k<i:=lb
    have n:=J k lb ad;rcases qT.1 S with rfl|S
    .exact n
    .obtain⟨l,hl,rfl⟩:=qB S;rw[wB];exact P.at_ eF ii (by simp at hl;omega)
  have hE:cm cG (L++[y]) (L.take i++y::L.drop i):=by
   have n:cm cG (L.drop i++[y]) ([y]++L.drop i):=cm.TD eF λz F w S=>by
    rw[qp.1 S];obtain⟨k,d,rfl⟩:=qB F;rw[wB];exact g _ lb ii
   have O:=(cm.refl (le:=cG) (L.take i)).app n;have e1:L.take i++(L.drop i++[y])=L++[y]:=by rw[<-qn,qC]
   rw[e1]at O;exact O
  refine aq (λt:Nat=>((hY X+t:Nat):Int)) (λt h'=>i<=t/\t<=hY L/\aa B h0 h' (cP s (X++(L.take t++(y::(L.drop t++Y))))::As)) (λt=>t-i) L.length hZ ⟨ii,ii,by simpa using Z⟩ ?_;rintro t h3 ⟨ht,ap,W⟩;refine af (λe2=>?_) (λe2=>?_)
  .obtain⟨u,rfl⟩:∃u,t=u+1:=⟨t-1,ii⟩
   have p:u<hY L:=ii
   have o:X++(L.take (u+1)++(y::(L.drop (u+1)++Y)))=(X++L.take u)++L[u]::([]++y::(L.drop (u+1)++Y)):=by rw[aE L u p];simp only[qn,zu,we]
   obtain⟨q1,q2,q3,q4⟩:=KY (X++L.take u) [] (L.drop (u+1)++Y) L[u] y (i:=hY X+u) (j:=hY X+(u+1)) i5 i5;rw[<-o]at q1 q2 q3 q4;have ek:qe xP (((hY X+(u+1):Nat):Int)-1)=((hY X+u:Nat):Int):=j1
   rw[ek];refine kI W _ hZ q1 (kI W _ hZ q2 ?_);refine W.set ae 0 hZ (λ_=>rfl) hZ (hY X+(u+1)) hZ (qk.1 q2).1 L[u] hZ hZ hZ λh4 H4=>⟨x7,?_⟩
   refine H4.set ae 0 hZ (λ_=>rfl) hZ (hY X+u) hZ (by rw[zE];exact(qk.1 q1).1) y hZ hZ hZ λh5 H5=>⟨x7,?_⟩
   refine⟨u,hZ,⟨ii,ii,?_⟩,ii⟩;have r:X++(L.take u++(y::(L.drop u++Y)))=(X++L.take u)++y::([]++L[u]::(L.drop (u+1)++Y)):=by rw[qL p];simp only[qn,zu,we]
   rw[r,<-q4];exact H5
  .have:t=i:=ii
   subst this;refine d h3 ⟨L.take t++y::L.drop t,hM,hE,?_⟩;have:X++((L.take t++y::L.drop t)++Y)=X++(L.take t++(y::(L.drop t++Y))):=i6
   rw[this];exact W
end
theorem YD{L R:List bF}(k:Sd cG L)(l:Sd cG R)(p q:Nat)(s:p<=hY L)(r:q<=hY R)
  (n:∀i j (d:i<hY L) (a:j<hY R),i+1=p->j=q->cG L[i] R[j]=ez)
  (o:∀i j (d:i<hY L) (a:j<hY R),i=p->j+1=q->¬cG L[i] R[j]=ez):
  (∀x∈L.take p,∀y∈R.drop q,cG x y=ez)/\(∀x∈L.drop p,∀y∈R.take q,¬cG x y=ez):=by
 constructor
 .intro x f y g;obtain⟨i,d,rfl⟩:=qB f;obtain⟨j,a,rfl⟩:=qB g;rw[yn,wB];have b:i<p:=lb
  have c:q+j<hY R:=by simp at a;omega
  have e:=k.at_ eF (i:=i) (j:=p-1) ii ii;have m:=n (p-1) q ii ii ii hZ;have h3:=l.at_ eF (i:=q) (j:=q+j) ii c;exact eF.trans _ _ _ e (eF.trans _ _ _ m h3)
 .intro x f y g h;obtain⟨i,d,rfl⟩:=qB f;obtain⟨j,a,rfl⟩:=qB g;rw[yn,wB]at h;have c:j<q:=by simp at a;omega
  have b:p+i<hY L:=lb
  have e:=k.at_ eF (i:=p) (j:=p+i) ii b;have h3:=l.at_ eF (i:=j) (j:=q-1) ii ii;exact o p (q-1) ii ii hZ ii (eF.trans _ _ _ e (eF.trans _ _ _ h h3))
theorem DF:∀(N:Nat) {B:av} {h0 h:f7} {As:List HP} {s:Sl} (X L R Y:List bF) (a m b:Int),0<hY L->0<hY R->hY L+hY R<=N->a=(hY X:Int)->m=(hY X+hY L:Nat)->b=(hY X+hY L+hY R:Nat)->hY X+hY L+hY R+hY Y<=2^40->Sd cG L->Sd cG R->
  aa B h0 h (cP s (X++(L++(R++Y)))::As)->
  ai xT 289 #[s,xJ xP a,xJ xP m,xJ xP b,.func (.func 158) #[] #[]] h λv h'=>v=.tuple #[]/\∃M,Sd cG M/\cm cG (L++R) M/\aa B h0 h' (cP s (X++(M++Y))::As):=by
 intro N
 induction N with
 |zero=>intro B h0 h As s X L R Y a m b hL hR hN;omega
 |succ N ih=>
  intro B h0 h As s X L R Y a m b hL hR hN ha hm hb T sL V H;refine ts Tryz.func289 ?_ (u7 (v7 (u7 (v7 (v7 (u7 (v1 (v2 [(10,aU),(11,aU)] [(10,13),(31,54)] u9)) (wj [(13,aU)] [(13,14),(55,77)])))) u9)) (u7 (v7 (u7 (v7 (v7 (u7 (v1 (v2 [(14,aU),(15,aU)] [(14,17),(83,107)] u9)) (wj [(17,aU)] [(17,18),(108,129)])))) u9)) (v7 (v7 (v7 (ws [(20,aU),(21,aU)] [(20,22),(138,147)] (v7 (u7 (v1 (v2 [(20,aU),(21,aU)] [(20,22),(23,24),(149,175)] u9)) (v7 (ws [] [(178,192)] (ws [] [(192,206)] u9))))))))))) (args:=[s,(a:Int),(m:Int),(b:Int),(.func (.func 158) #[] #[])]);have e1:qe xP (m-a)=(hY L:Int):=j1
  have e2:qe xP (b-m)=(hY R:Int):=j1
  rw[e1,e2];refine aX (λc=>?_) λc=>aX (λc2=>?_) λc2=>?_
  .obtain⟨x,hx⟩:∃x,L=[x]:=by
    match L,hL,c with
    |[x],_,_=>exact⟨x,hZ⟩
    |x::y::L,_,c=>simp at c;omega
   subst hx;exact La (K:=λv h'=>v=.tuple #[]/\∃M,Sd cG M/\cm cG ([x]++R) M/\aa B h0 h' (cP s (X++(M++Y))::As)) x X R Y (by simp at T⊢;omega) V H (λh' ⟨M,Q,O,q3⟩=>⟨hZ,M,Q,O,q3⟩) a m b ha (by rw[hm];simp) (by rw[hb];simp)
  .obtain⟨y,hy⟩:∃y,R=[y]:=by
    match R,hR,c2 with
    |[x],_,_=>exact⟨x,hZ⟩
    |x::y::L,_,c=>simp at c;omega
   subst hy;exact Jm (K:=λv h'=>v=.tuple #[]/\∃M,Sd cG M/\cm cG (L++[y]) M/\aa B h0 h' (cP s (X++(M++Y))::As)) y X L Y (by simp at T⊢;omega) sL H (λh' ⟨M,Q,O,q3⟩=>⟨hZ,M,Q,O,q3⟩) a m ha hm
  .refine⟨i0,?_⟩;subst ha;subst hm;subst hb;have c':hY L≠1:=λz=>c ii;have bk:hY R≠1:=λz=>c2 ii;rw[Gm X.length (hY X+hY L+hY R)];obtain⟨DA,S⟩:=x6 ((hY X+(hY X+hY L+hY R))/2)
   rw[<-S];have en:qe xP ((DA:Int)+((hY X+hY L:Nat):Int))=((DA+(hY X+hY L):Nat):Int):=j1
   rw[en];obtain⟨n,hn⟩:=x6 (DA+(hY X+hY L))
   rw[<-hn];have ep:qe xP ((n:Int)-1)=((n-1:Nat):Int):=j1
   rw[ep];obtain⟨D,hD⟩:=x6 (X++(L++(R++Y)))
   have gL:∀i (f:i<hY L),D[hY X+i]?=dB L[i]:=λi f=>by
    rw[hD,qi ii,zl,ql f,qc f]
   have gR:∀i (f:i<hY R),D[hY X+hY L+i]?=dB R[i]:=λi f=>by
    rw[hD,qi ii,show X.length+hY L+i-hY X=hY L+i by omega,qi ii,zl,ql f,qc f]
   rw[<-hD]at H;refine bB (λ(st:Int×Int) h'=>h'=h/\∃l f:Nat,st=((l:Int),(f:Int))/\l<=f/\X.length<=l/\f<=hY X+hY L/\f<=DA/\n<=l+(hY X+hY L+hY R)/\(l=hY X∨n=l+(hY X+hY L+hY R))/\(f=hY X+hY L∨f=DA)) ?_ ?_
   .refine af (λe=>⟨hZ,n-(hY X+hY L+hY R),DA,?_,ii,ii,ii,ii,ii,ii,ii⟩) λe=>⟨hZ,hY X,hY X+hY L,hZ,ii,ii,ii,ii,ii,ii,ii⟩
    have:qe xP ((n:Int)-((hY X+hY L+hY R:Nat):Int))=((n-(hY X+hY L+hY R):Nat):Int):=j1
    rw[this]
   .rintro⟨bd,bb⟩ _ ⟨rfl,l,f,a6,b1,b2,b3,b4,b5,b6,b7⟩;injection a6 with est1 est2
    subst est1;subst est2
    try dsimp only
    refine aq (λt:Nat×Nat=>((t.1:Int),(t.2:Int))) (λt h'=>l<=t.1/\t.1<=t.2/\t.2<=f/\
     (∀i j (k:i<hY L) (Z:j<hY R),hY X+i+1=t.1->hY X+i+(hY X+hY L+j)=n-1->l<t.1->cG L[i] R[j]=ez)/\
     (∀i j (k:i<hY L) (Z:j<hY R),hY X+i=t.2->hY X+i+(hY X+hY L+j)=n-1->t.2<f->¬cG L[i] R[j]=ez)/\
     aa B h0 h' (cP s D::As)) (λt=>t.2-t.1) (l,f) hZ ⟨i6,by simpa using b1,i6,λ_ _ _ _ _ _ A=>absurd A i6,λ_ _ _ _ _ _ A=>absurd A i6,H⟩ ?_
    rintro⟨st,r⟩ h1 ⟨t1,t2,t3,F1,F2,H1⟩;dsimp only at*;refine af (λe=>?_) (λe=>?_)
    .have A:st<r:=ii
     rw[Gm _ _];obtain⟨F,ax⟩:=x6 ((st+r)/2)
     rw[<-ax];have ar:qe xP (((n-1:Nat):Int)-(F:Int))=((n-1-F:Nat):Int):=j1
     rw[ar];obtain⟨i,k⟩:∃i,F=hY X+i:=⟨F-hY X,ii⟩
     obtain⟨j,a0⟩:∃j,n-1-F=hY X+hY L+j:=⟨n-1-F-(hY X+hY L),ii⟩
     have ah:i<hY L:=ii
     have a4:j<hY R:=ii
     rw[a0,k];refine⟨i0,kI H1 _ hZ (gR j a4) (kI H1 _ hZ (gL i ah) (dV kt ?_))⟩;refine(pV R[j] L[i] h1).xc λh2 R2=>?_;have G:=H1.up R2.ac;refine⟨_,hZ,x7,?_⟩;by_cases e2:mv R[j] L[i]<0
     .have ao:=(rT _ _).1 e2;refine aW (λe3=>absurd e3 n5) λ_=>?_;refine⟨(st,hY X+i),hZ,⟨t1,i4,i4,F1,λi2 j2 a2 a9 w E _=>?_,G⟩,i4⟩;dsimp only at w;have:i2=i:=ii
      subst this;have:j2=j:=ii
      subst this;exact ao
     .refine aW (λ_=>?_) λe3=>absurd e3 n5;refine⟨(hY X+i+1,r),i7,⟨i4,i4,t3,λi2 j2 a2 a9 w E _=>?_,F2,G⟩,i4⟩;dsimp only at w;have:i2=i:=ii
      subst this;have:j2=j:=ii
      subst this;exact Bn e2
    .have a5:st=r:=ii
     subst a5;have a1:qe xP ((n:Int)-(st:Int))=((n-st:Nat):Int):=j1
     rw[a1];obtain⟨p,hp⟩:∃p,st=hY X+p:=⟨st-hY X,ii⟩
     obtain⟨q,hq⟩:∃q,n-st=hY X+hY L+q:=⟨n-st-(hY X+hY L),ii⟩
     have a8:p<=hY L:=ii
     have ay:q<=hY R:=ii
     obtain⟨a7,ap⟩:=YD sL V p q a8 ay (λi j k Z w E=>F1 i j k Z ii ii (by
      by_cases a3:l<st
      .exact a3
      .exfalso;have:st=l:=ii
       omega)) (λi j k Z w E=>F2 i j k Z ii ii (by
      by_cases al:st<f
      .exact al
      .exfalso;have:st=f:=ii
       omega))
     have eL:L.take p++L.drop p=L:=qC _ _;have W:R.take q++R.drop q=R:=qC _ _;have l1:hY (L.take p)=p:=i5
     have l2:hY (L.drop p)=hY L-p:=i6
     have r1:hY (R.take q)=q:=i5
     have r2:hY (R.drop q)=hY R-q:=i6
     have U:Sd cG (L.take p):=Sd.left (v:=L.drop p) (by rw[eL];exact sL);have ad:Sd cG (L.drop p):=Sd.right (u:=L.take p) (by rw[eL];exact sL);have ab:Sd cG (R.take q):=Sd.left (v:=R.drop q) (by rw[W];exact V);have P:Sd cG (R.drop q):=Sd.right (u:=R.take q) (by rw[W];exact V);rw[hq,hp];refine bB (λ_ h'=>aa B h0 h' (cP s (X++(L.take p++(R.take q++(L.drop p++(R.drop q++Y)))))::As)) ?_ ?_
     .have o:aa B h0 h1 (cP s ((X++L.take p)++(L.drop p++(R.take q++(R.drop q++Y))))::As):=by
       have:(X++L.take p)++(L.drop p++(R.take q++(R.drop q++Y)))=D:=by
        rw[hD]
        conv=>rhs;rw[<-eL,<-W]
        simp only[qn,zu,we]
       rw[this];exact H1
      refine af (λw=>af (λE=>?_) λE=>?_) λw=>?_
      .refine(RO (X++L.take p) (L.drop p) (R.take q) (R.drop q++Y) _ _ _ ii ii i5 i5 i5 i5 o).xc λh2 G=>⟨(),hZ,?_⟩;rw[qn]at G;exact G
      .have:R.take q=[]:=qZ ii;rw[this]at o⊢;simpa using o
      .have:L.drop p=[]:=qZ ii;rw[this]at o⊢;simpa using o
     .rintro _ h2 G;refine bB (λ_ h'=>∃g,Sd cG g/\cm cG (L.take p++R.take q) g/\g.length=p+q/\aa B h0 h' (cP s (X++(g++(L.drop p++(R.drop q++Y))))::As)) ?_ ?_
      .have d:(L.take p=[]∨R.take q=[])->∃g,Sd cG g/\cm cG (L.take p++R.take q) g/\g.length=p+q/\aa B h0 h2 (cP s (X++(g++(L.drop p++(R.drop q++Y))))::As):=λJ=>by
        refine⟨L.take p++R.take q,?_,cm.refl _,i5,by rw[qn];exact G⟩;rcases J with z|z
        .rw[z];exact ab
        .rw[z,qG];exact U
       refine af (λw=>af (λE=>?_) λE=>d (.inr (qZ ii))) λw=>d (.inl (qZ ii));refine(ih X (L.take p) (R.take q) (L.drop p++(R.drop q++Y)) _ _ _ ii ii ii hZ (by rw[l1]) (by rw[l1,r1];omega) i5 U ab G).xc λh3 ⟨g,Q,O,q3⟩=>⟨(),hZ,g,Q,O,?_,q3⟩;have I:=uo eF O;rw[<-I];simp;omega
      .rintro _ h3 ⟨g,m1,m2,m3,H3⟩;have fin:∀{h':f7} {M2:List bF},Sd cG M2->cm cG (L.drop p++R.drop q) M2->aa B h0 h' (cP s (X++(g++(M2++Y)))::As)->(Value.tuple #[]=.tuple #[]/\∃M,Sd cG M/\cm cG (L++R) M/\aa B h0 h' (cP s (X++(M++Y))::As)):=λ{h' M2} k1 k2 k3=>by
        obtain⟨f1,f2⟩:=XP eF (by rw[eL];exact sL) (by rw[W];exact V) a7 ap m2 m1 k2 k1;rw[eL,W]at f2;exact⟨hZ,g++M2,f1,f2,by rw[qn];exact k3⟩
       have d:(L.drop p=[]∨R.drop q=[])->(Value.tuple #[]=.tuple #[]/\∃M,Sd cG M/\cm cG (L++R) M/\aa B h0 h3 (cP s (X++(M++Y))::As)):=λJ=>by
        refine fin (M2:=L.drop p++R.drop q) ?_ (cm.refl _) (by rw[qn];exact H3);rcases J with z|z
        .rw[z];exact P
        .rw[z,qG];exact ad
       refine af (λw=>af (λE=>?_) λE=>d (.inr (qZ ii))) λw=>d (.inl (qZ ii));have am:aa B h0 h3 (cP s ((X++g)++(L.drop p++(R.drop q++Y)))::As):=by rw[qn];exact H3
       refine(ih (X++g) (L.drop p) (R.drop q) Y _ _ _ ii ii ii i5 i5 i5 i5 ad P am).xc λh4 ⟨M2,k1,k2,k3⟩=>⟨(),hZ,fin k1 k2 (by rw[qn]at k3;exact k3)⟩
def Bs(k:Nat)(l:List bF):Prop:=∀q,Sd cG ((l.drop (q*k)).take k)
theorem Bs.nil(k:Nat):Bs k []:=λq=>by simp[Sd]
theorem Bs.first{k:Nat}{l:List bF}(h:Bs k l):Sd cG (l.take k):=by have:=h 0;simpa using this
theorem Bs.rest{k:Nat}{l:List bF}(h:Bs k l):Bs k (l.drop k):=λq=>by
 have:=h (q+1);rw[zN,show k+q*k=(q+1)*k by rw[zM,Nat.add_comm]];exact this
theorem Bs.snoc{k t:Nat}{l M:List bF}(h:Bs k l)(c:hY l=t*k)(d:Sd cG M)(b:hY M<=k:=by omega):Bs k (l++M):=λq=>by
 rcases Nat.lt_trichotomy q t with hq|hq|hq
 .have a:(q+1)*k<=t*k:=zF _ hq;rw[zM]at a;rw[List.drop_append_of_le_length ii,yC l9];exact h q
 .subst hq;rw[<-c,List.drop_left,qh b];exact d
 .have a:(t+1)*k<=q*k:=zF _ hq;rw[zM]at a;rw[zd (by rw[qw];omega)];simp[Sd]
theorem Bs.whole{k:Nat}{l:List bF}(h:Bs k l)(a:hY l<=k):Sd cG l:=by have:=h.first;rw[qh a]at this;exact this
section
variable {d:List bF}
theorem RP(d:List bF)(n:Int)(hn:n=hY d)(hd:hY d<=2^30)(H:aa B h0 h (cP s d::As)):
  ai xT 228 #[s,xJ xP n,.func (.func 158) #[] #[]] h λv h'=>v=.tuple #[]/\aa B h0 h' (cP s (d.mergeSort cG)::As):=by
 subst hn;refine ts Tryz.func228 ?_ (v7 (v7 (u7 (v1 (v2 [(7,aU),(8,aU)] [(7,9),(11,23)] u9)) (v7 (v1 (v2 [(6,aU)] [(6,10),(28,63)] (v7 (v1 (v7 (u7 (v1 (v2 [(7,aU),(8,aU)] [(7,9),(33,49)] u9)) u9)))))))))) (args:=[s,(hY d:Int),(.func (.func 158) #[] #[])]);refine aq (λP:List bF=>((hY P:Int),((hY P+20:Nat):Int))) (λP h'=>hY P<=hY d/\(∃t,hY P=t*20)/\Bs 20 P/\cm cG (d.take P.length) P/\aa B h0 h' (cP s (P++d.drop P.length)::As)) (λP=>hY d-hY P) [] hZ ⟨i6,⟨0,i6⟩,Bs.nil _,by simpa using cm.refl _,l4⟩ ?_;rintro P h1 ⟨hP,⟨t,N⟩,W,S,K⟩
 try dsimp only
 refine af (λe=>?_) (λe=>?_)
 .have ad:hY P+20<=hY d:=ii
  have eY:(d.drop P.length).take 20++d.drop (hY P+20)=d.drop P.length:=by rw[<-zN];exact qC _ _
  have R:hY ((d.drop P.length).take 20)=20:=i5
  rw[<-eY]at K;refine(BV P ((d.drop P.length).take 20) (d.drop (hY P+20)) _ _ hZ (by rw[R]) i5 K).xc λh2 ⟨o,p,b,H2⟩=>?_;have r:hY o=20:=by rw[<-uo eF b,R]
  have f:hY (P++o)=hY P+20:=by rw[qw,r]
  refine⟨(),hZ,P++o,?_,⟨ii,⟨t+1,by rw[f,N,zM]⟩,W.snoc N p,?_,?_⟩,ii⟩
  .rw[f,ag _];congr 1
  .rw[f];have:d.take (hY P+20)=d.take P.length++(d.drop P.length).take 20:=by rw[List.take_add]
   rw[this];exact S.app b
  .rw[f,qn];exact H2
 .have D:aa B h0 h1 (cP s (P++(d.drop P.length++[]))::As):=by rw[qG];exact K
  refine(BV P (d.drop P.length) [] _ _ hZ l9 i5 D).xc λh3 ⟨o,p,b,V⟩=>?_;have r:hY o=hY d-hY P:=by rw[<-uo eF b,zc]
  have J:=W.snoc N p;have c:cm cG d (P++o):=by have:=S.app b;rw[qC]at this;exact this
  refine⟨(),hZ,?_⟩;refine aq (λt:Nat×List bF=>(t.1:Int)) (λt h'=>0<t.1/\t.1<=2^32/\t.2.length=hY d/\Bs t.1 t.2/\cm cG d t.2/\aa B h0 h' (cP s t.2::As)) (λt=>2^32-t.1) (20,P++o) hZ ⟨i4,i4,by dsimp only;rw[qw];omega,J,c,by rw[qG]at V;exact V⟩ ?_;rintro⟨k,l⟩ h4 ⟨am,hk,hl,U,q,I⟩;dsimp only at*;refine af (λe2=>?_) (λe2=>?_)
  .have ah:k<hY d:=ii
   have O:qe xP ((2:Int)*k)=((2*k:Nat):Int):=j1
   have G:qe xP ((k:Int)*2)=((2*k:Nat):Int):=j1
   rw[O];have next:∀{h':f7} (l':List bF),hY l'=hY d->Bs (2*k) l'->cm cG l l'->aa B h0 h' (cP s l'::As)->∃g:Nat×List bF,qe xP ((k:Int)*2)=(g.1:Int)/\(0<g.1/\g.1<=2^32/\g.2.length=hY d/\Bs g.1 g.2/\cm cG d g.2/\aa B h0 h' (cP s g.2::As))/\2^32-g.1<2^32-k:=λ{h'} l' q1 q2 q3 q4=>
    ⟨(2*k,l'),G,⟨i4,i4,q1,q2,q.trans q3,q4⟩,i4⟩
   refine aq (λt:List bF×List bF=>((hY t.1:Int),((hY t.1+2*k:Nat):Int))) (λt h'=>(∃u,hY t.1=u*(2*k))/\t.1.length+hY t.2=hY d/\Bs (2*k) t.1/\Bs k t.2/\cm cG l (t.1++t.2)/\aa B h0 h' (cP s (t.1++t.2)::As)) (λt=>hY t.2) ([],l) (by dsimp only;rw[yp,Nat.zero_add];rfl) ⟨⟨0,i6⟩,by simpa using hl,Bs.nil _,U,by simpa using cm.refl _,by simpa using I⟩ ?_;rintro⟨P,Q⟩ T ⟨⟨u,A⟩,X,m,a,c,F⟩;dsimp only at*;have L:qe xP ((hY P:Int)+k)=((hY P+k:Nat):Int):=j1
   rw[L];have eQ:Q.take k++Q.drop k=Q:=qC _ _;refine af (λZ=>?_) (λZ=>af (λe4=>?_) λe4=>?_)
   .have ab:2*k<=hY Q:=ii
    have w:Q.take k++((Q.drop k).take k++Q.drop (2*k))=Q:=by
     have:Q.drop (2*k)=(Q.drop k).drop k:=by rw[zN];congr 1;omega
     rw[this,qC,eQ]
    have l1:hY (Q.take k)=k:=i5
    have l2:hY ((Q.drop k).take k)=k:=i5
    have i:aa B h0 T (cP s (P++(Q.take k++((Q.drop k).take k++Q.drop (2*k))))::As):=by rw[w];exact F
    refine(DF _ P (Q.take k) ((Q.drop k).take k) (Q.drop (2*k)) _ _ _ ii ii (qm _) hZ (by rw[l1]) (by rw[l1,l2];omega) i5 a.first a.rest.first i).xc λh6 ⟨M,p,b,z⟩=>?_;have x:hY M=2*k:=by rw[<-uo eF b,qw,l1,l2];omega
    have j:hY (P++M)=hY P+2*k:=by rw[qw,x]
    refine⟨(),hZ,(P++M,Q.drop (2*k)),?_,⟨⟨u+1,by dsimp only;rw[j,A];exact(zM u (2*k)).symm⟩,by dsimp only;rw[j,zc];omega,m.snoc A p,?_,?_,?_⟩,by dsimp only;rw[zc];omega⟩
    .try dsimp only
     rw[j,ag _];congr 1
    .try dsimp only
     have:Q.drop (2*k)=(Q.drop k).drop k:=by rw[zN];congr 1;omega
     rw[this];exact a.rest.rest
    .try dsimp only
     refine c.trans ?_
     conv=>arg 2;rw[<-w]
     rw[qn];have:=(cm.refl P).app (b.app (cm.refl (Q.drop (2*k))));rw[qn]at this;exact this
    .try dsimp only
     rw[qn];exact z
   .have y:k<hY Q:=ii
    have al:hY Q<2*k:=ii
    have l1:hY (Q.take k)=k:=i5
    have l2:hY (Q.drop k)=hY Q-k:=i6
    have E:Sd cG (Q.drop k):=by have:=a.rest.first;rw[qh ii]at this;exact this
    have i:aa B h0 T (cP s (P++(Q.take k++(Q.drop k++[])))::As):=by rw[qG,eQ];exact F
    refine(DF _ P (Q.take k) (Q.drop k) [] _ _ _ ii ii (qm _) hZ (by rw[l1]) (by rw[l1,l2];omega) i5 a.first E i).xc λh6 ⟨M,p,b,z⟩=>?_;have x:hY M=hY Q:=by rw[<-uo eF b,eQ]
    rw[eQ]at b;rw[qG]at z;exact⟨(),hZ,next (P++M) (by rw[qw];omega) (m.snoc A p) (c.trans ((cm.refl _).app b)) z⟩
   .have y:hY Q<=k:=ii
    exact next (P++Q) (by rw[qw];omega) (m.snoc A (a.whole y)) c F
  .have Y:=U.whole ii;rw[Vh eF Y q]at I;exact⟨hZ,I⟩
theorem Jn(d:List bF)(b:hY d<=2^30)(H:aa B h0 h (cP s d::As)):
  ai xT 157 #[s,.func (.func 158) #[] #[]] h λv h'=>v=.tuple #[]/\aa B h0 h' (cP s (d.mergeSort cG)::As):=by
 refine ts Tryz.func157 ?_ (args:=[s,(.func (.func 158) #[] #[])]);refine(RP d _ (by rw[(H.own 0 hZ).len]) b H).xc λc a=>⟨(),hZ,hZ,a⟩
def kB:bF:=(0,0,0,0,0,0,0,⟨et,0,0⟩)
end
def lQ(l:List bF)(k:Nat):Bool:=decide (k=0)||decide (mv (l.getD k kB) (l.getD (k-1) kB)≠0)
def kW(l:List bF)(k:Nat):List bF:=((qx k).filter (lQ l)).map λi=>l.getD i kB
def YE(l:List bF):List bF:=kW l l.length
theorem nO(l:List bF)(k:Nat):kW l (k+1)=kW l k++if lQ l k then[l.getD k kB]else[]:=by unfold kW;rw[zJ,zm,qN,zr,vl];split<;>rfl
section
variable {d:List bF}
theorem Jo(a b:bF)(h:f7):ai xT 160 #[recv a,recv b] h λv h'=>v=xN (decide (mv a b=0))/\Sp h h' []:=by refine ts Tryz.func160 ?_ (args:=[a,b]);refine(Sp.refl h).boxed λi g e=>e.boxed λj d c=>?_;refine⟨a,(c.box 0 hZ).aA _ hZ,b,(c.box 1 hZ).aA _ hZ,(pV a b d).xc λh3 f=>?_⟩;refine⟨_,hZ,?_,.zip (aa.up c f.ac).ac⟩;congr 1
theorem HS(l:List bF)(hd:hY l<=2^30)(H:aa B h0 h (cP s l::As)):
  ai xT 159 #[s,.func (.func 160) #[] #[]] h λv h'=>∃r:Sl,v=r/\aa B h0 h' (cP r (YE l)::As):=by
 refine ts Tryz.func159 ?_ (v7 (v7 (u7 (v7 (v1 (v2 [(5,aU)] [(4,8),(12,65)] (v7 (u7 (v1 (v7 (u7 (v7 (wj [(5,aU),(7,aU)] [(5,6),(7,8),(32,59)])) u9))) u9))))) u9))) (args:=[s,(.func (.func 160) #[] #[])]);have am:=(H.own 0 hZ).len;have z:=(H.own 0 hZ).cap;have same:(∀j,j<hY l->lQ l j=ez)->YE l=l:=λE=>by
  have:∀k,k<=hY l->kW l k=l.take k:=λk=>by
   induction k with
   |zero=>simp[kW]
   |succ k ih=>
    intro N;rw[nO,ih ii,f8 (E k ii),aE l k,getD_lt (show k<hY l by omega)]
  unfold YE;rw[this _ (qm _),qM]
 refine af (λe=>⟨s,hZ,?_⟩) (λe=>?_)
 .rw[same λj f=>by unfold lQ;rw[g0 (show j=0 by omega)];rfl];exact H
 refine aq (λi:Nat=>(i:Int)) (λi h'=>1<=i/\i<=hY l/\(∀j,j<i->lQ l j=ez)/\aa B h0 h' (cP s l::As)) (λi=>hY l-i) 1 hZ ⟨ii,ii,λj f=>by unfold lQ;rw[g0 (show j=0 by omega)];rfl,H⟩ ?_;rintro i h1 ⟨ab,hi,E,G⟩;refine af (λP=>?_) (λP=>?_)
 .have q:i<hY l:=by have e':=P;omega
  have ei:qe xP ((i:Int)-1)=((i-1:Nat):Int):=j1
  rw[ei];refine kI G i hZ (x:=l.getD i kB) (by rw[getD_lt q,qc q]) (kI G (i-1) hZ (x:=l.getD (i-1) kB) (by rw[getD_lt (show i-1<hY l by omega),qc]) (dV kt ?_));refine(Jo _ _ h1).xc λh2 Z=>?_;have X:=G.up Z.ac;refine⟨_,hZ,x7,aY (λe2=>?_) λe2=>?_⟩
  .have g:lQ l i=eH:=by unfold lQ;rw[g9 (show¬i=0 by omega)];simpa using e2
   have o:kW l i=l.take i:=by
    have:∀k,k<=i->kW l k=l.take k:=λk=>by
     induction k with
     |zero=>simp[kW]
     |succ k ih=>
      intro N;rw[nO,ih ii,f8 (E k ii),aE l k,getD_lt (show k<hY l by omega)]
    exact this i (qm _)
   refine⟨⟨ii,ii⟩,?_⟩;rw[qj];refine aq (λt:Nat×List bF=>((hY (kW l (i+t.1)):Int),(t.1:Int))) (λt h'=>1<=t.1/\i+t.1<=hY l/\t.2.length=hY l/\(kW l (i+t.1)).length+1<=i+t.1/\t.2.take (kW l (i+t.1)).length=kW l (i+t.1)/\(∀j,i+t.1-1<=j->t.2[j]?=l[j]?)/\aa B h0 h' (cP s t.2::As)) (λt=>hY l-t.1) (1,l) ?_ ⟨i6,i4,hZ,?_,?_,λ_ _=>rfl,X⟩ ?_
   .try dsimp only
    rw[nO,g,o];simp;omega
   .try dsimp only
    rw[nO,g,o];simp;omega
   .try dsimp only
    rw[nO,g,o];simp
   rintro⟨k,D⟩ h3 ⟨ad,al,u,K,d,p,F⟩;dsimp only at*;obtain⟨c,I⟩:=x6 (hY (kW l (i+k)))
   rw[<-I]at K d⊢;have ah:=(F.own 0 hZ).len;have y:=(F.seq 0 hZ λ_=>rfl).drop i z;refine af (λe3=>?_) (λe3=>?_)
   .have R:i+k<hY l:=ii
    have ek:qe xP ((k:Int)-1)=((k-1:Nat):Int):=j1
    rw[ek];have V:∀j,k-1<=j->(f:i+j<hY l)->(D.drop i)[j]?=dB (l.getD (i+j) kB):=λj f A=>by
     rw[List.getElem?_drop,p _ ii,getD_lt A,qc A]
    have gk:=V k ii R;have Q:=V (k-1) ii ii;obtain⟨T,U⟩:=qk.1 gk;obtain⟨Y,q2⟩:=qk.1 Q;refine Seq.de y k hZ T (l.getD (i+k) kB) (by rw[U]) ?_;refine Seq.de y (k-1) hZ Y (l.getD (i+(k-1)) kB) (by rw[q2]) (dV kt ?_);refine(Jo _ _ h3).xc λh4 R4=>?_;have M:=F.up R4.ac;have m:lQ l (i+k)=!decide (mv (l.getD (i+k) kB) (l.getD (i+(k-1)) kB)=0):=by unfold lQ;rw[g9 (show¬i+k=0 by omega),show i+k-1=i+(k-1)by omega];simp
    have a:=nO l (i+k);rw[m]at a;refine⟨_,hZ,x7,aW (λL=>?_) λL=>?_⟩
    .rw[L]at a;have b:hY (kW l (i+(k+1)))=c+1:=by rw[<-wU,a];simp[I]
     have w:=(M.seq 0 hZ λ_=>rfl).drop i z;refine Seq.de w k hZ T (l.getD (i+k) kB) (by rw[U]) ?_;refine M.set ae 0 hZ (λ_=>rfl) hZ c hZ ii (l.getD (i+k) kB) hZ hZ hZ λh5 H5=>?_;refine⟨(k+1,D.set c (l.getD (i+k) kB)),?_,⟨i4,i4,by dsimp only;rw[zE];exact u,by dsimp only;rw[b];omega,?_,λj f=>?_,H5⟩,i4⟩
     .try dsimp only
      rw[b,ag _,ag _];rfl
     .try dsimp only
      rw[b,aE _ c (by rw[zE];omega),List.getElem_set_self,List.take_set_of_le (qm _),d,<-wU,a];simp
     .dsimp only at f⊢;rw[zG ii];exact p j ii
    .rw[L]at a;have b:hY (kW l (i+(k+1)))=c:=by rw[<-wU,a];simp[I]
     refine⟨(k+1,D),?_,⟨i4,i4,u,by dsimp only;rw[b];omega,?_,λj f=>p j (by dsimp only at f;omega),M⟩,i4⟩
     .try dsimp only
      rw[b,ag _];rfl
     .try dsimp only
      rw[b,d,<-wU,a];simp
   .have J:i+k=hY l:=ii
    refine⟨⟨ii,ii⟩,?_⟩;rw[qj];refine F.pc ae 0 hZ ahF (λ_=>rfl) hZ i0 c ii λh6 W=>⟨⟨ii,ii⟩,⟨s.ptr,c,s.cap⟩,hZ,?_⟩
    rw[d,J]at W;exact W
  .refine⟨i+1,i9,⟨ii,ii,λj f=>?_,X⟩,ii⟩;by_cases O:j=i
   .subst O;unfold lQ;rw[g0 (show mv (l.getD j kB) (l.getD (j-1) kB)≠0 by simpa using e2)];simp
   .exact E j ii
 .have S:i=hY l:=by have e':=P;omega
  subst S;rw[same E];exact⟨s,hZ,G⟩
end
def fieldsOf(d:Option TypeDesc):List (Bool×TypeId×Nat):=match d with|some (.struct fs)=>fs.toList.map (λf=>(f.name== "_",f.type,f.offset))|_=>[]
theorem YF:fieldsOf (Tryz.prog.underlying 25)=[(eH,3,0),(eH,3,1),(eH,3,2)]:=js
theorem acd:Tryz.prog.stoodInHeld 25=eH:=js
theorem ace:Tryz.prog.eqGuardType Tryz.prog.depth 25=eH:=js
theorem Py{P:Program}{t:TypeId}{a b c:TypeId×Nat}(h:fieldsOf (P.underlying t)=[(eH,a.1,a.2),(eH,b.1,b.2),(eH,c.1,c.2)]):
  ∃f g e:Field,P.underlying t=dB (.struct #[f,g,e])/\(f.name≠ "_" /\f.type=a.1/\f.offset=a.2)/\(g.name≠ "_" /\g.type=b.1/\g.offset=b.2)/\(e.name≠ "_" /\e.type=c.1/\e.offset=c.2):=by
 cases hu:P.underlying t with
 |none=>rw[hu]at h;cases h
 |some d=>
  rw[hu]at h;cases d with
  |struct fs=>
   simp only[fieldsOf]at h;obtain⟨l⟩:=fs;have i:hY l=3:=by simpa using congrArg vx h
   obtain⟨f,r,rfl⟩:=yG i;obtain⟨g,j,rfl⟩:=yG (by simpa using i:hY r=1+1);obtain⟨e,k,rfl⟩:=yG (by simpa using i:hY j=0+1);obtain rfl:k=[]:=tg
   simp at h;exact⟨f,g,e,hZ,⟨h.1.1,h.1.2.1,h.1.2.2⟩,⟨h.2.1.1,h.2.1.2.1,h.2.1.2.2⟩,⟨h.2.2.1,h.2.2.2.1,h.2.2.2.2⟩⟩
  |_=>cases h
theorem jQ{P:Program}{d:Nat}{t:TypeId}{k:IntKind}(h:∃c,P.underlying t=dB (.int c))(a b:Int):aI P (Op.equalIn (d+1) t (.int k a) (.int k b)) (a==b):=by obtain⟨c,h⟩:=h;unfold Op.equalIn;refine(aF h).bind ?_;simp only[if_true];exact .pure
theorem mN{P:Program}{t:TypeId}{k:IntKind}(h:P.underlying t=dB (.int k)){a:Array Value}{i:Nat}{v:Value}(b:a[i]?=dB v):aI P (part t a i) v:=by unfold part isAgg;refine aI.bind (v:=eH) ((aF h).bind .pure) ?_;simp only[zh,if_false,b];exact .pure
theorem aiM(p q:Pm):aI xT (Op.equal 25 (xO #[xJ xP p.1,xJ xP p.2.1,xJ xP p.2.2]) (xO #[xJ xP q.1,xJ xP q.2.1,xJ xP q.2.2])) (decide (p=q)):=by
 obtain⟨f,g,u,I,⟨y,B,z⟩,⟨A,E,G⟩,⟨F,H,u3⟩⟩:=Py (a:=(3,0)) (b:=(3,1)) (c:=(3,2)) YF;have D:∃k,Tryz.prog.underlying 3=dB (.int k):=⟨.i64,js⟩
 obtain⟨k,d⟩:=D;unfold Op.equal;rw[show Op.maxDepth=9998+1+1 from hZ,Op.equalIn];refine(aF I).bind ?_;refine aI.bind (v:=xT) (λw=>rfl) ?_;simp only[acd,zh,if_false,List.forIn_toArray,List.forIn_cons,List.forIn_nil,ne_eq,y,A,F,not_false_eq_true,if_true,B,z,E,G,H,u3];obtain⟨a,b,c⟩:=p;obtain⟨h,i,j⟩:=q
 try dsimp only
 have o:aI xT (part 3 #[Value.int xP a,Value.int xP b,Value.int xP c] 0) _:=mN d hZ;have n:aI xT (part 3 #[Value.int xP h,Value.int xP i,Value.int xP j] 0) _:=mN d hZ;have s:aI xT (part 3 #[Value.int xP a,Value.int xP b,Value.int xP c] 1) _:=mN d hZ;have r:aI xT (part 3 #[Value.int xP h,Value.int xP i,Value.int xP j] 1) _:=mN d hZ;have t:aI xT (part 3 #[Value.int xP a,Value.int xP b,Value.int xP c] 2) _:=mN d hZ;have x:aI xT (part 3 #[Value.int xP h,Value.int xP i,Value.int xP j] 2) _:=mN d hZ;by_cases l:a=h
 .by_cases m:b=i
  .by_cases h3:c=j
   .have e:decide ((a,b,c)=(h,i,j))=ez:=by simp[l,m,h3]
    rw[e];refine aI.bind (v:=(et,())) (aI.bind (v:=ForInStep.yield (et,())) (o.bind (n.bind ((jQ ⟨k,d⟩ a h).bind ?_))) (aI.bind (v:=ForInStep.yield (et,())) (s.bind (r.bind ((jQ ⟨k,d⟩ b i).bind ?_))) (aI.bind (v:=ForInStep.yield (et,())) (t.bind (x.bind ((jQ ⟨k,d⟩ c j).bind ?_))) .pure))) .pure
    .simp only[l,beq_self_eq_true,yg,zh,if_false];exact .pure
    .simp only[m,beq_self_eq_true,yg,zh,if_false];exact .pure
    .simp only[h3,beq_self_eq_true,yg,zh,if_false];exact .pure
   .have e:decide ((a,b,c)=(h,i,j))=eH:=by simp[h3]
    rw[e];refine aI.bind (v:=(dB eH,())) (aI.bind (v:=ForInStep.yield (et,())) (o.bind (n.bind ((jQ ⟨k,d⟩ a h).bind ?_))) (aI.bind (v:=ForInStep.yield (et,())) (s.bind (r.bind ((jQ ⟨k,d⟩ b i).bind ?_))) (aI.bind (v:=ForInStep.done (dB eH,())) (t.bind (x.bind ((jQ ⟨k,d⟩ c j).bind ?_))) .pure))) .pure
    .simp only[l,beq_self_eq_true,yg,zh,if_false];exact .pure
    .simp only[m,beq_self_eq_true,yg,zh,if_false];exact .pure
    .rw[show(c==j)=eH by simpa using h3];simp only[yi,if_true];exact .pure
  .have e:decide ((a,b,c)=(h,i,j))=eH:=by simp[m]
   rw[e];refine aI.bind (v:=(dB eH,())) (aI.bind (v:=ForInStep.yield (et,())) (o.bind (n.bind ((jQ ⟨k,d⟩ a h).bind ?_))) (aI.bind (v:=ForInStep.done (dB eH,())) (s.bind (r.bind ((jQ ⟨k,d⟩ b i).bind ?_))) .pure)) .pure
   .simp only[l,beq_self_eq_true,yg,zh,if_false];exact .pure
   .rw[show(b==i)=eH by simpa using m];simp only[yi,if_true];exact .pure
 .have e:decide ((a,b,c)=(h,i,j))=eH:=by simp[l]
  rw[e];refine aI.bind (v:=(dB eH,())) (aI.bind (v:=ForInStep.done (dB eH,())) (o.bind (n.bind ((jQ ⟨k,d⟩ a h).bind ?_))) .pure) .pure;rw[show(a==h)=eH by simpa using l];simp only[yi,if_true];exact .pure
theorem ahG(x y:Operand)(p q:Pm):kM xT .neq 25 x y (xO #[xJ xP p.1,xJ xP p.2.1,xJ xP p.2.2]) (xO #[xJ xP q.1,xJ xP q.2.1,xJ xP q.2.2]) (xN (!decide (p=q))):=by
 unfold kM eqGuard;refine aI.bind (v:=()) ?_ ?_
 .simp only[yg,zh,if_false];refine aI.bind (v:=xT) (λw=>rfl) ?_;refine aI.bind (v:=xT) (λw=>rfl) ?_;simp only[ace,yi,if_true];exact .pure
 .exact(aiM p q).bind .pure
def VI(P:cb->Bool)(l:List cb)(i:Int):Prop:=(i=-1/\l.any P=eH)∨∃n:Nat,∃h:n<hY l,i=n/\P l[n]=ez/\(l.take n).any P=eH
theorem Pz{P:cb->Bool}{l:List cb}{i:Int}(h:VI P l i):decide (i>=0)=l.any P:=by
 rcases h with⟨rfl,h⟩|⟨n,hn,rfl,h,_⟩
 .rw[h];rfl
 .rw[z7.2 ⟨_,qf hn,h⟩];exact g0 ii
theorem GL(f:FuncId)(pre post:Array Value)(P:Qw.cb->Bool)(l:Sl)(a:List Qw.cb)(h:f7)(o:C.fns[f]?=dB ez)(m:eu rR h l a)(D:hY a<=2^30)
  (r:∀(u:dP) (E:Qw.cb) (h':f7),Sp h h' []->eu gV h' u E->E∈a->ai xT f (pre.toList++[Value.agg #[xM u.1,xJ xP u.2.1,xJ xP u.2.2.1,u.2.2.2]]++post.toList).toArray h' λv g=>v=xN (P E)/\Sp h' g []):
  ai xT 142 #[l,.func (.func f) pre post] h λv h'=>(∃i:Int,v=xJ xP i/\VI P a i)/\Sp h h' []:=by
 refine iH l (f,pre,post) ?_;obtain⟨k,q,A,y⟩:=bN.kN m;have p:=bN.len m;refine aq (λi:Nat=>(i:Int)) (λi h'=>i<=hY a/\(a.take i).any P=eH/\Sp h h' []) (λi=>hY a-i) 0 hZ ⟨ii,i6,Sp.refl h⟩ ?_;rintro i n ⟨B,b,d⟩;refine af (λe=>?_) (λe=>?_)
 .have c:i<hY a:=by have t:=e;omega
  have x:=gV.mono (gV.loc (y i ii c) d.ac) λ_ w=>qY w d.ac.1;refine(Seq.up q d.ac).de i hZ ii (k[i]'ii) hZ (dV o ?_);refine(r (k[i]'ii) a[i] n d x (qf c)).xc λz s=>?_;have j:=d.up s.ac;refine⟨_,hZ,aY (λe2=>⟨⟨i,hZ,.inr ⟨i,c,hZ,e2,b⟩⟩,j⟩) λe2=>?_⟩;refine⟨i+1,i9,⟨ii,?_,j⟩,ii⟩;rw[aE _ _ c,y5,b,List.any_cons,List.any_nil,e2];rfl
 .have t:=e;rw[qh ii]at b;exact⟨⟨-1,hZ,.inl ⟨hZ,b⟩⟩,d⟩
theorem Lb(f:FuncId)(pre post:Array Value)(P:Qw.cb->Bool)(l:Sl)(a:List Qw.cb)(h:f7)(c:C.fns[f]?=dB ez)(k:eu rR h l a)(g:hY a<=2^30)
  (d:∀(u:dP) (E:Qw.cb) (h':f7),Sp h h' []->eu gV h' u E->E∈a->ai xT f (pre.toList++[Value.agg #[xM u.1,xJ xP u.2.1,xJ xP u.2.2.1,u.2.2.2]]++post.toList).toArray h' λv b=>v=xN (P E)/\Sp h' b []):
  ai xT 175 #[l,.func (.func f) pre post] h λv h'=>v=xN (a.any P)/\Sp h h' []:=by
 refine ts Tryz.func175 ?_ (args:=[l,(.func (.func f) pre post)]);refine(GL f pre post P l a h c k g d).mono ?_;rintro _ m ⟨⟨i,rfl,e⟩,j⟩;exact⟨i,hZ,by rw[Pz e],j⟩
theorem pW(o b t:Int)(h:f7):ai xT 89 #[xJ xP o,xJ xP b,xJ xP t] h λv h'=>v=xJ xR (cv o b t)/\h'=h:=by
 refine ts Tryz.func89 ?_;refine⟨?_,hZ⟩;have:qe xR ((qe xR ((qe xR ((128:Int)*(qe xR o)))+(qe xR ((16:Int)*(qe xR b)))))+(qe xR t))=cv o b t:=by unfold cv qe;simp[qI,vb];omega
 rw[this]
theorem RQ(x:bh)(m:ak)(y:bF)(r:cU)(h:f7)(o:cR h x m)(hz:cC m)(N:eu gD h y r):
  ai xT 156 #[dK x,recv y] h λv h'=>v=xN (eU m r)/\Sp h h' []:=by
 refine ts Tryz.func156 ?_ (v7 (ws [] [(4,15)] u9)) (args:=[x,y]);refine(Sp.refl h).boxed λa1 h1 Y=>Y.boxed λf S q=>?_;obtain⟨⟨V,e2,e3,A,T,e7,e8⟩,e6⟩:=id N;have s:=congrArg (·.1) o.p;have w:=congrArg (·.2.1) o.p;have F:=congrArg (·.2.2) o.p;have z:=congrArg (·.1) A;have B:=congrArg (·.2.1) A;have G:=congrArg (·.2.2) A;have R:=hz.ob;refine aG ⟨y,(q.box 1 hZ).aA _ hZ,(GJ y r S (gD.mono (gD.loc N q.ac) λ_ Z=>qY Z q.ac.1)).xc λh3 R3=>?_⟩;have c:=q.up R3.ac;have K:=c.box 0 hZ;have I:=c.box 1 hZ;refine⟨_,hZ,aW (λg=>⟨by unfold eU;rw[g];rfl,.zip c.ac⟩) λg=>?_⟩;obtain⟨_,g2,_⟩:=(lq r).1 g;refine⟨r.p,by rw[<-z,<-B,<-G];exact I.Gk 3 hZ hZ hZ,m.p,by rw[<-s,<-w,<-F];exact K.Gk 2 hZ hZ hZ,_,ahG _ _ r.p m.p,aW (λH=>⟨?_,.zip c.ac⟩) λH=>?_⟩
 .unfold eU;rw[g,H];rfl
 obtain⟨P,O⟩:∃P:Qw.cb->Bool,P=λx=>decide (x.object=r.object)&&(decide (r.block<(x.tries.length:Int))&&decide (r.seed=cv r.object r.block (x.tries.getD r.block.toNat 0))):=⟨_,rfl⟩
 have D:eU m r=m.objs.any P:=by unfold eU;rw[g,H,O];rfl
 refine⟨x.2.2.2.2.2.2.2,K.cell hZ,?_⟩;refine(Lb 227 #[] #[xL (dB f)] P x.2.2.2.2.2.2.2 m.objs h3 kt (o.up c.ac).objs ii λu E h4 X he _=>?_).mono ?_
 .obtain⟨⟨y1,W,y3⟩,Q⟩:=he;have ab:=Seq.len Q;have j:=I.ac X.ac I.lt;refine ts Tryz.func227 ?_ (args:=[u,f]);refine(Sp.refl h4).boxed λa5 a d=>?_;have L:=d.box 0 hZ;have b:=j.ac d.ac j.lt;have l:eX a (a5.add 1)=dB (xJ xP E.object):=by rw[<-W];exact L.cell hZ
  have i:eX a (a5.add 3)=dB (xK u.2.2.2.ptr u.2.2.2.len u.2.2.2.cap):=L.cell hZ;have k:eX a f=dB (xJ xP r.object):=by rw[<-V];exact b.cell0 hZ
  have e:eX a (f.add 1)=dB (xJ xP r.block):=by rw[<-e2];exact b.cell hZ
  have M:eX a (f.add 6)=dB (xJ xR r.seed):=by rw[<-T];exact b.cell hZ
  rw[O];refine⟨E.object,l,r.object,k,aX (λt=>?_) λt=>⟨⟨k,l,x7⟩,?_,.zip d.ac⟩⟩
  .refine⟨u.2.2.2,i,r.block,e,af (λU=>?_) λU=>⟨⟨e,i,k,l,x7⟩,?_,.zip d.ac⟩⟩
   .have J:r.block.toNat<E.tries.length:=ii
    refine⟨r.seed,M,r.object,k,r.block,e,u.2.2.2,i,r.block,e,?_⟩;refine Seq.bo (Seq.up Q d.ac) r.block.toNat ii J (E.tries.getD r.block.toNat 0) (by rw[getD_lt J];rfl) ?_;refine(pW _ _ _ a).xa ⟨_,hZ,⟨e,i,M,e,i,k,l,x7⟩,?_,.zip d.ac⟩
    try dsimp only
    rw[g0 t,g0 (show r.block<(E.tries.length:Int)by omega),zS,zS];congr 1
   .try dsimp only
    rw[g9 (show¬r.block<(E.tries.length:Int)by omega)];simp
  .try dsimp only
   rw[g9 t];rfl
 .rintro _ a ⟨rfl,R5⟩;exact⟨_,hZ,by rw[D],.zip (aa.up c R5.ac).ac⟩
def AL(k:Nat)(f:α->aT):iW Sl (List α):=⟨λh q s l=>Seq h q s k f l/\s.len<=s.cap,λa c=>⟨a.1.ac c,a.2⟩,λa b=>⟨a.1.mono b,a.2⟩⟩
theorem aa.aeB{B:av}{m h:f7}{As:List HP}{e a k:Nat}{s:Sl}{f:α->aT}{b:List (List α)}(H:aa B m h (fy e s a k f b::As))(t:∀x,hY (f x)=k):∃rs,aa B m h (dI (AL k f) 1 bn s rs b::As):=by
 obtain⟨rs,H⟩:=H.pD;obtain⟨H,n⟩:=H.pE;refine⟨rs,H.eW 0 hZ λq g=>⟨?_,n,λi r l d c=>?_⟩⟩
 .have:=HP.BU (i:=0) g hZ;exact this.1.seq (λ_=>rfl) this.2
 .have j:=(qk.1 c).1;have o:=iw (e:=a) (k:=k) (f:=f) n i j;have:=HP.BU (i:=i+1) g p7;have p:rs[i]'ii=r:=by rw[qc ii]at d;simpa using d
  have a:b[i]=l:=by rw[qc j]at c;simpa using c
  rw[p,a]at this;exact⟨this.1.seq t this.2,this.1.cap⟩
def Gn(T:List (bF×cU)):HP:=⟨λh q=>∀t∈T,gD.p h q t.1 t.2,λa d t b=>gD.loc (a t b) d,λa c t b=>gD.mono (a t b) c⟩
def Keyed(T:List (bF×cU)):Prop:=∀t∈T,t.1.1=t.2.object/\t.1.2.1=t.2.block/\t.1.2.2.1=t.2.id
def PA(a b:bF×cU):Bool:=ro a.2 b.2
theorem acf{T:List (bF×cU)}(k:Keyed T):∀a∈T,∀b∈T,PA a b=cG a.1 b.1:=λa d b e=>by
 obtain⟨f,g,a3⟩:=k a d;obtain⟨i,h,c⟩:=k b e;unfold PA ro cG;rw[decide_eq_decide,BS,f,g,a3,i,h,c]
theorem VJ{T:List (bF×cU)}(k:Keyed T):(T.mergeSort PA).map qE=(T.map qE).mergeSort cG/\(T.mergeSort PA).map zi=(T.map zi).mergeSort ro/\Keyed (T.mergeSort PA):=
 ⟨yV (acf k),yV λa _ b _=>rfl,λt c=>k t (wF.1 c)⟩
def Jp:bF×cU:=(kB,IV)
def EU(T:List (bF×cU)):List (bF×cU):=((qx T.length).filter (sC (T.map zi))).map λi=>T.getD i Jp
theorem getD_map{α β:Type}(f:α->β)(l:List α)(i:Nat)(d:α):(l.map f).getD i (f d)=f (l.getD i d):=by rw[qd,qd,qO];cases l[i]?<;>rfl
theorem YG{T:List (bF×cU)}(k:Keyed T):(EU T).map qE=YE (T.map qE)/\(EU T).map zi=rK (T.map zi)/\∀t∈EU T,t∈T:=by
 have q:∀i,i<hY T->lQ (T.map qE) i=sC (T.map zi) i:=λi a=>by
  unfold lQ sC;have g:∀j,j<hY T->(T.map qE).getD j kB=(T[j]?.getD Jp).1/\(T.map zi).getD j IV=(T[j]?.getD Jp).2:=λj f=>by
   rw[qd,qd,qO,qO,qc f];exact⟨hZ,hZ⟩
  by_cases h0:i=0
  .rw[g0 h0];rfl
  .rw[g9 h0,vn,vn,(g i a).1,(g i a).2,(g (i-1) ii).1,(g (i-1) ii).2];rw[qc a,qc (show i-1<hY T by omega)];obtain⟨m,n,a3⟩:=k _ (qf a);obtain⟨l,r,o⟩:=k _ (qf (show i-1<hY T by omega));unfold nI;simp only[Option.getD_some];have c:=YC T[i].1 (T[i-1]'ii).1;rw[m,n,a3,l,r,o]at c;by_cases b:mv T[i].1 (T[i-1]'ii).1=0
   .rw[g9 λh=>h b,g0 (c.1 b)];rfl
   .rw[g0 b,g9 λp=>b (c.2 p)];rfl
 have e:=List.filter_congr λi a=>q i (qz.1 a);refine⟨?_,?_,λt d=>?_⟩
 .unfold EU YE kW;rw[qu,e,wN];congr 1;funext i;exact(getD_map qE T i Jp).symm
 .unfold EU rK;rw[qu,wN];congr 1;funext i;exact(getD_map zi T i Jp).symm
 .unfold EU at d;obtain⟨i,a,rfl⟩:=qo.1 d;have:=qz.1 (qD.1 a).1;rw[getD_lt this];exact qf this
theorem Nf(a pw:eS)(d:ba)(s b:Sl)(x:bh)(m:ak)(h:f7)(F:bQ h a 155 (ft pw d s b))(hl:fe h s 1 aB d.l)(ok:gO d)(hx:cR h x m)(hz:cC m):
  ai xT 95 #[xL (dB a),dK x] h λv h'=>∃(r:Sl) (T:List (bF×cU)),v=r/\T.map zi=dQ m d.l/\Keyed T/\Sp h h' [cP r (T.map qE),Gn T]:=by
 refine ts Tryz.func95 ?_ (v7 (.scope 0 [(6,cM),(7,aU)] [(4,5),(6,10),(12,40)] [u9,u9,u9] [(.two u9 (.two u9 (.two (.join [(6,cM)] [(6,7),(8,10),(18,36)] u9) u9)))] [(1,[u9])])) (args:=[(dB a),x]);have ab:=ok.len;have Y:=ok.room;refine(Sp.refl h).boxed λG h1 R=>?_;refine(uW s b (F.ac R.ac F.lt) (hl.up R.ac) ok).x0 λI h2 R2=>?_;have L:=R.ci R2;obtain⟨rs,L⟩:=aa.aeB L λ_=>rfl;refine⟨I,hZ,?_⟩;have F2:=L.eC 0 hZ;have ao:=F2.1.len;have ah:=F2.2.1;have w:Sp h h2 [cP ⟨et,0,0⟩ [],Gn [],dI (AL 1 aB) 1 bn I rs d.l,aj G 85 (aM x)]:=
  ((L.comp (.one (aS.refl _ _) λt f=>(by cases f))).nil 153 8 cX).bt [3,2,0,1]
 refine aq (λt:Sl×Nat×List (bF×cU)=>(t.1,(t.2.1:Int)-1)) (λt h'=>t.2.1<=hY d.l/\t.2.2.length<=t.2.1/\Keyed t.2.2/\t.2.2.map zi=(d.l.take t.2.1).filterMap (jd m)/\Sp h h' [cP t.1 (t.2.2.map qE),Gn t.2.2,dI (AL 1 aB) 1 bn I rs d.l,aj G 85 (aM x)]) (λt=>hY d.l-t.2.1) (⟨et,0,0⟩,0,[]) hZ ⟨i6,i6,(λt f=>(by cases f)),i6,w⟩ ?_;rintro⟨o,i,T⟩ h3 ⟨hi,ad,K,k,w⟩;dsimp only at*;have ei:qe xP ((i:Int)-1+1)=(i:Int):=j1
 rw[ei];refine af (λe=>?_) (λe=>?_)
 .have U:i=hY d.l:=ii
  subst U;rw[qM]at k;refine(Jn (T.map qE) m8 w).xc λh4 H4=>?_;obtain⟨s1,s2,s3⟩:=VJ K;rw[<-s1]at H4;refine⟨(),hZ,(HS _ (by rw[qu,List.length_mergeSort];omega) H4).x0 λr5 h5 H5=>?_⟩;obtain⟨c1,c2,c3⟩:=YG s3;rw[<-c1]at H5;refine⟨r5,hZ,r5,EU (T.mergeSort PA),hZ,?_,λt f=>s3 t (c3 t f),?_⟩
  .have hr:dQ m d.l=(EU (T.mergeSort PA)).map zi:=by unfold dQ;rw[<-k,c2,s2]
   exact hr.symm
  .exact(H5.eW 1 hZ λq z t f=>z t (wF.1 (c3 t f))).bt [0,1]
 .have u:i<hY d.l:=ii
  have g:=Vj m d.l i u;have next:∀{h':f7} {A:Sl} {T':List (bF×cU)},hY T'<=i+1->Keyed T'->T'.map zi=(d.l.take (i+1)).filterMap (jd m)->Sp h h' [cP A (T'.map qE),Gn T',dI (AL 1 aB) 1 bn I rs d.l,aj G 85 (aM x)]->
    ∃j:Sl×Nat×List (bF×cU),((⟨A.ptr,A.len,A.cap⟩:Sl),(i:Int))=(j.1,(j.2.1:Int)-1)/\(j.2.1<=hY d.l/\j.2.2.length<=j.2.1/\Keyed j.2.2/\j.2.2.map zi=(d.l.take j.2.1).filterMap (jd m)/\Sp h h' [cP j.1 (j.2.2.map qE),Gn j.2.2,dI (AL 1 aB) 1 bn I rs d.l,aj G 85 (aM x)])/\d.l.length-j.2.1<hY d.l-i:=λ{h' A T'} Z q2 q3 q4=>
   ⟨(A,i+1,T'),lz,⟨i4,Z,q2,q3,q4⟩,i4⟩
  refine aG ?_;refine(w.eC 2 hZ).1.mQ i hZ ii ?_;obtain⟨p,O⟩:=Fix.row (w.eC 2 rfl) u;obtain⟨c,hc⟩:=x6 (d.l[i])
  rw[<-hc]at p g;have al:hY c=64:=by rw[hc];exact ok.cell _ (qf u)
  refine(Pt (rs[i]'ii) c h3 p ii O).x0 λy h6 ⟨Q0,Q1⟩=>⟨(y,(dJ c).isSome),hZ,?_⟩
  try dsimp only
  cases htr:dJ c with
  |none=>
   have J:jd m c=et:=by unfold jd;rw[htr]
   rw[J,Option.toList_none,qG]at g;have Q:=w.up (Q0 htr).ac;refine Q.alloc ae hZ λa9 h7 P=>?_;refine P.storeAll ae 4 hZ hZ (cX y) hZ hZ hZ hZ λh8 B=>aY (λe=>jj) λ_=>?_;exact next ii K (by rw[k,g]) (B.bt [0,1,2,3])
  |some r=>
   have Q:=w.ci (Q1 r htr);refine Q.alloc ae hZ λa9 h7 P=>?_;refine P.storeAll ae 5 hZ hZ (cX y) hZ hZ hZ hZ λh8 B=>aY (λ_=>?_) λe=>jj
   have V:=B.eAt 0 hZ;have X:bj h8 G 0 (aM x):=(B.box 4 hZ).aA _ hZ;have W:bj h8 a9 0 (cX y):=(B.box 5 hZ).aA _ hZ;have S:=RQ x m y r h8 (hx.up B.ac) hz V;refine⟨x,X,y,W,S.mono ?_⟩;rintro _ h9 ⟨rfl,R9⟩;have N:=B.up R9.ac;refine⟨_,hZ,aY (λe2=>?_) λe2=>?_⟩
   .have J:jd m c=dB r:=by unfold jd;rw[htr];exact f8 e2
    rw[J,Option.toList_some]at g;refine⟨y,(N.box 5 hZ).aA _ hZ,?_⟩;refine N.push ae 1 hZ ahF hZ i0 (λ_=>rfl) afx y js i0 m8 λA am H=>?_;have E:=(H.eAt 0 hZ).1;have M:=H.merge 2 0 i0 hZ hZ (D:=Gn (T++[(y,r)])) (λZ q2 _ p1 p2 t f=>by
     rcases qt.1 f with f|f
     .exact gD.mono (p1 t f) λ_ F=>.inl F
     .rw[qp.1 f];exact gD.mono p2 λ_ F=>.inr F)
    refine next (T':=T++[(y,r)]) i5 (λt f=>?_) (by rw[qN,k,g];rfl) ?_
    .rcases qt.1 f with f|f
     .exact K t f
     .rw[qp.1 f];exact⟨E.1,E.2.1,E.2.2.1⟩
    .rw[qN];exact M.bt [1,2,3,4]
   .have J:jd m c=et:=by unfold jd;rw[htr];exact f9 (by rw[e2];simp)
    rw[J,Option.toList_none,qG]at g;exact next ii K (by rw[k,g]) (N.bt [1,2,3,4])
theorem uZ(a pw:eS)(d:ba)(s b:Sl)(x:bh)(m:ak)(h:f7)(p:bQ h a 155 (ft pw d s b))(z:fe h s 1 aB d.l)(ok:gO d)(i:cR h x m)(u:cC m):
  ai xT 95 #[xL (dB a),dK x] h λv h'=>∃(r:Sl) (y:List bF),v=r/\Sp h h' [dI gD 8 cX r y (dQ m d.l)]:=by
 refine(Nf a pw d s b x m h p z ok i u).mono ?_;rintro _ h' ⟨r,T,rfl,n,_,H⟩;refine⟨r,T.map qE,hZ,?_⟩;have o:=(H.freeze 0 hZ λ_=>rfl).jw;have k:aa _ _ _ (dI gD 8 cX r (T.map qE) (dQ m d.l)::_):=o.eW 0 hZ λq ⟨A,B,_,b,c,g,w⟩=>by
  rw[<-n];refine⟨Seq.mono w c,i6,λj D l' e f=>?_⟩;rw[qO]at e f;cases g3:T[j]? with
  |none=>rw[g3]at e;cases e
  |some t=>
   rw[g3]at e f;simp at e f;subst e;subst f;exact gD.mono (g t (zZ g3)) b
 exact k.bt [0]
def bm(l:az)(k:Nat):az:=((qx k).map λi:Nat=>(i:Int)).filter λi=>decide (0<l.getD i.toNat 0)
def fQ(l:az):az×Bool:=
 if l.all (fR · 0 512)then(bm l l.length,decide (hY l<=64)&&decide (0<hY (bm l l.length)))else([],eH)
theorem DG(l:az)(k:Nat)(a:k<hY l):bm l (k+1)=bm l k++if 0<l[k]then[(k:Int)]else[]:=by unfold bm;rw[zJ,qN,zm];congr 1;simp only[List.map_cons,List.map_nil,zr,vl,qj,qd,qc a,Option.getD_some];by_cases h:0<l[k]<;>simp[h]
theorem pX(l:az)(k:Nat):hY (bm l k)<=k:=by unfold bm;exact qQ (qU _ _) i6
theorem RR(s:Sl)(l:az)(h:f7)(m:Rd h s 1 aw l)(F:hY l<=2^20):
  ai xT 72 #[s] h λv h'=>∃r:Sl,v=.tuple #[r,xN (fQ l).2]/\Sp h h' [an 3 r 1 aw (fQ l).1]:=by
 refine ts Tryz.func72 ?_ (v7 (v7 (u7 (v7 (v1 (v2 [(4,cM),(9,aU)] [(2,7),(9,27)] (v7 (v7 (u7 (v1 (v7 (ws [] [(2,4),(14,20)] u9))) u9)))))) u9)));have w:=m.len;have u:=(Sp.refl h).nil 3 1 aw;refine aq (λt:Sl×Nat=>(t.1,(t.2:Int))) (λt h'=>t.2<=hY l/\(l.take t.2).all (fR · 0 512)=ez/\Sp h h' [an 3 t.1 1 aw (bm l t.2)]) (λt=>hY l-t.2) (⟨et,0,0⟩,0) hZ ⟨i6,i6,u⟩ ?_;rintro⟨o,i⟩ D ⟨E,c,d⟩;dsimp only at*;have f:∀(a:i<hY l),fR l[i] 0 512=eH->fQ l=([],eH):=λa g=>by
  unfold fQ;rw[f9];intro q;have:=qK.1 q _ (qf a);rw[g]at this;cases this
 refine af (λe=>?_) (λe=>?_)
 .have a:i<hY l:=ii
  have z:=pX l i;refine(Seq.up m d.ac).bo i hZ a l[i] hZ ?_;refine aG (af (λj=>?_) λj=>af (λe2=>?_) λe2=>?_)
  .have g:=f a oj;rw[g];exact⟨⟨et,0,0⟩,hZ,(d.bt []).nil 3 1 aw⟩
  .have g:=f a oj;rw[g];exact⟨⟨et,0,0⟩,hZ,(d.bt []).nil 3 1 aw⟩
  .have b:(l.take (i+1)).all (fR · 0 512)=ez:=by rw[aE l i a,y0,c,zS,List.all_cons,List.all_nil,Bool.and_true];unfold fR;simp;omega
   refine af (λA=>?_) (λA=>?_)
   .refine d.push ae 0 hZ gb hZ i0 (λ_=>rfl) fd (i:Int) hZ i0 ii λB G y=>?_;refine⟨(B,i+1),i7,⟨i4,b,?_⟩,i4⟩
    try dsimp only
    rw[DG l i a,f8 ii];exact y
   .refine⟨(o,i+1),i7,⟨i4,b,?_⟩,i4⟩
    try dsimp only
    rw[DG l i a,f9 ii,qG];exact d
 .have k:i=hY l:=ii
  subst k;rw[qM]at c;have p:=(d.own 0 hZ).len;have x:fQ l=(bm l l.length,decide (hY l<=64)&&decide (0<hY (bm l l.length))):=by unfold fQ;rw[f8 c]
  rw[x];refine af (λj=>⟨o,?_,d⟩) (λj=>⟨o,?_,d⟩)
  .try dsimp only
   rw[g0 (show l.length<=64 by omega),zS];congr 4;refine congrArg Value.bool ?_;rw[decide_eq_decide];omega
  .try dsimp only
   rw[g9 (show¬hY l<=64 by omega),Bool.false_and]
section
variable {pw:eS}
theorem fi(x:bh)(m:ak)(d:cR h x m)(f:cC m)(H:aa B h0 h (bf bi a pw (aM x) offs da w ds::As)):
  ai xT 50 #[xL (dB a)] h λv h'=>∃r:Sl,v=r/\Sp h h' [an 3 r 1 aw (aR ds m.drives)]:=by
 refine ts Tryz.func50 ?_;obtain⟨ok,c⟩:=aa.cE H;have b:=f.dr;refine aY (λe=>jj) λ_=>⟨a,hZ,x.2.2.2.2.2.2.1,c.cell hZ,(Jk _ m.drives d.drives ii H).x0 λr i g=>?_⟩;exact⟨r,hZ,r,hZ,g⟩
theorem rV(x:bh)(m:ak)(i:cR h x m)(l:cC m)(H:aa B h0 h (bf bi a pw (aM x) offs da w ds::As)):
  ai xT 40 #[xL (dB a)] h λv h'=>∃y:bh,v=dK y/\Sp h h' [bI y m]:=by
 refine ts Tryz.func40 ?_;obtain⟨ok,f⟩:=aa.cE H;refine(Sp.refl h).alloc ae hZ λo g c=>?_;have b:=f.ac c.ac f.lt;refine aY (λe=>jj) λ_=>⟨a,hZ,x,b.aA _ hZ,(CW x m g (i.up c.ac) l).x0 λy n k=>?_⟩;have j:=c.comp k;refine⟨y,hZ,?_⟩;refine j.store ae 0 hZ hZ 0 (aM y) hZ hZ hZ j7 λh3 d=>?_;exact⟨y,(d.box 0 hZ).aA _ hZ,y,hZ,d.bt [1]⟩
end
def dE(w:Pow)(offs:Int):Bool:=w.off||w.offs !=offs
section
variable {pw:eS}
theorem aa.afy(H:aa B h0 h (bf bi a pw mc offs da w ds::As)):∃l,Jg w l/\bQ h pw 118 (powC w l):=by obtain⟨ok,c⟩:=Qw.aa.oR H;have d:=c.rest;obtain⟨l,e,b⟩:=aa.rQ d;exact⟨l,e,b.box 0 hZ⟩
theorem lR(H:aa B h0 h (bf bi a pw mc offs da w ds::As)):
  ai xT 37 #[xL (dB a)] h λv h'=>v=xN (dE w offs)/\h'=h:=by
 refine ts Tryz.func37 ?_ u9 [(1,(.l [0,1,2,3,4,5,6,7,8,9,10,11,12,13,15,16,17,18,14,19,20,21,22]))];obtain⟨ok,f⟩:=aa.cE H;obtain⟨l,i,d⟩:=aa.afy H;have g:eX h (a.add 8)=dB (xL (dB pw)):=f.cell (Pu ok.l8);have c:eX h (a.add 9)=dB (xJ xP offs):=f.cell (VG ok.l8);refine aY (λ_=>?_) (λe=>jj);refine⟨a,hZ,dB pw,g,(Gi l d).xa ?_⟩;refine⟨_,hZ,x7,aW (λe=>⟨x7,?_⟩) λe=>?_⟩
 .have b:w.off=ez:=lc
  exact⟨by unfold dE;rw[b];rfl,hZ⟩
 .have b:w.off=eH:=lc
  refine⟨a,hZ,dB pw,g,a,hZ,offs,c,(EL l d).xa ?_⟩;exact⟨_,hZ,⟨c,x7⟩,by unfold dE;rw[b];rfl,hZ⟩
theorem Ng(H:aa B h0 h (bf bi a pw mc offs da w ds::As)):
  ai xT 45 #[xL (dB a)] h λv h'=>v=xL (dB pw)/\h'=h:=by
 refine ts Tryz.func45 ?_;obtain⟨ok,b⟩:=aa.cE H;exact aY (λe=>jj) λ_=>⟨a,hZ,dB pw,b.cell (Pu ok.l8),hZ,hZ⟩
end
section
variable {k:Kit} {pw:eS}
theorem aa.acg(H:aa B h0 h As):∀n,aa B h0 h (qg n emp++As)
 |0=>H
 |n+1=>(((aa.acg H n).comp (.one (A:=emp) (aS.refl _ _) x7)).aZ:aa B h0 h (emp::(qg n emp++As)))
theorem aa.YH(h8:hY mc=8)(H:aa B h0 h (aj a k.tS (bS mc pw offs (qg 64 et))::ce k.tP pw w::As)):aa B h0 h (bf k a pw mc offs (qg 64 et) w (qg 64 et)::As):=by
 have ok:fM mc (qg 64 et) (qg 64 (et:Option ba)):=⟨h8,i6,i6,λi=>by
  simp only[qd,zU];split<;>rfl⟩
 have f:dq k pw (qg 64 et) (qg 64 (et:Option ba))=qg 64 emp:=by simp[dq,aca]
 refine aa.pi ok ?_;rw[f];have g:=aa.acg H 64;refine g.pick (λi=>if i=0 then 64 else if i=1 then 65 else if i<66 then i-2 else i) (λx y b=>by(try dsimp only at b);split at b<;>split at b<;>(try split at b)<;>(try split at b)<;>(try split at b)<;>(try split at b)<;>omega) λi A d=>?_;rcases i with _|_|i
 .simpa using d
 .simpa using d
 .by_cases e:i<64
  .have c:(qg 64 emp++As)[i]?=dB A:=d;rw[ql lc]at c
   try dsimp only
   rw[f9 ii,f9 ii,f8 ii,ql i5];simpa using c
  .have c:(qg 64 emp++As)[i]?=dB A:=d;rw[qi i5]at c
   try dsimp only
   rw[f9 ii,f9 ii,f9 ii,qi i5];simp only[List.length_replicate]at c⊢;obtain⟨j,rfl⟩:∃j,i=j+64:=⟨i-64,ii⟩
   have e2:j+64+1+1-64=j+1+1:=ii
   rw[e2];simpa using c
end
theorem Mf(x:bh)(pw:eS)(offs:Int):aI xT (Instr.build 127 #[(0,dK x),(1,xL (dB pw)),(2,xJ xP offs)]) (xO (bS (aM x) pw offs (qg 64 et)).toArray):=
 uD ae (i:=_) hZ hZ hZ (vs:=[(0,dK x),(1,xL (dB pw)),(2,xJ xP offs)]) (cells:=(bS (aM x) pw offs (qg 64 et)).toArray) js
section
variable {k:Kit} {pw b:eS}
theorem Mg(h8:hY mc=8):(bS mc pw offs da).set (10+n) (xL (dB b))=bS mc pw offs (da.set n (dB b)):=by unfold bS;rw[qV _ _ ii,h8,show 10+n-8=n+1+1 by omega,zy,zy,List.map_set]
theorem aa.afz(ok:fM mc da ds)(z:n<64)(x:ds[n]?=dB et)(H:aa B h0 h (aj a k.tS (bS mc pw offs (da.set n (dB b)))::ce k.tP pw w::(dq k pw da ds++(gU k.tD (k.f pw) b d::As)))):aa B h0 h (bf k a pw mc offs (da.set n (dB b)) w (ds.set n (dB d))::As):=by
 have t:=ok.uX z x;have p:=ok.la;have r:=ok.ls;have s:fM mc (da.set n (dB b)) (ds.set n (dB d)):=⟨ok.l8,by simp[p],by simp[r],λi=>by
  by_cases c:n=i
  .subst c;rw[qd,qd,zj ii,zj ii];rfl
  .have:=ok.same i;rw[qd,qd]at this⊢;rw[zG c,zG c];exact this⟩
 have o:=CY (k:=k) (pw:=pw) ok;have u:(dq k pw da ds)[n]?=dB emp:=by simp only[dq,zL,t,x];rfl
 have l:dq k pw (da.set n (dB b)) (ds.set n (dB d))=(dq k pw da ds).set n (gU k.tD (k.f pw) b d):=by
  apply zt;intro j;simp only[dq,qW,zL,yN];by_cases g:n=j
  .subst g;rw[f8 hZ,f8 ii,f8 hZ,f8 ii,f8 hZ,f8 ii];rfl
  .simp[g]
 refine aa.pi s ?_;rw[l];obtain⟨L,m⟩:=x6 (dq k pw da ds)
 rw[<-m]at H u o⊢;have v:=H.cons (hY L+2) (A:=gU k.tD (k.f pw) b d) (by
  rw[qq,qq,qi (qm _),qX];rfl)
 have e:(aj a k.tS (bS mc pw offs (da.set n (dB b)))::ce k.tP pw w::(L++(gU k.tD (k.f pw) b d::As))).set (hY L+2) emp=aj a k.tS (bS mc pw offs (da.set n (dB b)))::ce k.tP pw w::(L++(emp::As)):=by rw[zy,zy,qV _ _ (qm _),qX];rfl
 rw[e]at v;have D:=v.aJ 3 [0,2,1];have q:L.set n emp=L:=by
  obtain⟨y,E⟩:=qk.1 u
  conv=>lhs;rw[<-E]
  exact List.set_getElem_self y
 have F:aa B h0 h (gU k.tD (k.f pw) b d::ce k.tP pw w::aj a k.tS (bS mc pw offs (da.set n (dB b)))::(L.set n emp++(emp::As))):=by rw[q];exact D
 have G:=aa.Gl n ii F;have I:=aa.closeAll (aj a k.tS (bS mc pw offs (da.set n (dB b)))::ce k.tP pw w::L.set n (gU k.tD (k.f pw) b d)) G;exact aa.lI (L:=aj a k.tS (bS mc pw offs (da.set n (dB b)))::ce k.tP pw w::L.set n (gU k.tD (k.f pw) b d)) I.pC
end
def cx(p:Pm)(extra:Int)(l:az):ak:=⟨1,0,p,extra,bm l l.length,[]⟩
def iP(l:az)(k:Nat):aD:=(qx 64).map λi:Nat=>if(i:Int)∈(bm l l.length).take k then dB (ba.new (l.getD i 0).toNat)else et
def dH(p:Pm)(extra:Int)(w:Pow)(l:az):Int×Pow×aD:=
 if(fQ l).2&&(bK p&&fR extra 0 16)then
  if(bm l l.length).any λi=>decide (l.getD i.toNat 0<(hY (aP (cx p extra l)):Int))then(7,w,[])
  else layAll (bM (cx p extra l) (bm l l.length)) w (iP l (bm l l.length).length)
 else(1,w,[])
theorem PB(l:az):iP l 0=qg 64 et:=by
 unfold iP;rw[List.take_zero];apply zt;intro j;simp only[qO,zU,zp,List.not_mem_nil,if_false];by_cases h:j<64
 .simp[h,zp]
 .simp[h]
theorem RS(l:az)(k:Nat):hY (iP l k)=64:=by simp[iP]
theorem PC(l:az)(k n:Nat)(d:k<hY (bm l l.length))(e:(bm l l.length)[k]=(n:Int))(b:n<64):(iP l k).set n (dB (ba.new (l.getD n 0).toNat))=iP l (k+1):=by
 apply zt;intro j;unfold iP;rw[aE _ _ d,e,qW,qu,zC];by_cases c:j<64
 .simp only[qO,zp c,qS,qt,qp];by_cases a:n=j
  .subst a;rw[f8 hZ,f8 b,f8 (Or.inr hZ)]
  .rw[f9 a];have:¬(j:Int)=(n:Int):=ii
   simp only[this,or_false]
 .rw[f9 ii];rw[qJ i5,qJ i5]
theorem vz(l:az)(k:Nat)(x:Int):x∈bm l k↔∃n:Nat,n<k/\x=(n:Int)/\0<l.getD n 0:=by
 unfold bm;rw[qD,qo];constructor
 .rintro⟨⟨n,a,rfl⟩,b⟩;exact⟨n,qz.1 a,hZ,j9⟩
 .rintro⟨n,a,rfl,b⟩;exact⟨⟨n,qz.2 a,hZ⟩,j9⟩
theorem RT(l:az)(k i:Nat)(a:i<hY (bm l k)):∃n:Nat,n<k/\(bm l k)[i]=(n:Int)/\0<l.getD n 0:=(vz l k _).1 (qf a)
def dX(p:Int×Int×Int):Nat:=(p.1*p.2.2).toNat
def ue(a:Nat)(b:aL)(i:Nat):aL:=(b.drop (i*a)).take a++(qg a 0).drop (b.drop (i*a)).length
theorem EV(a:Nat)(b:aL)(i:Nat):hY (ue a b i)=a:=by unfold ue;simp;omega
def splitB(p:Int×Int×Int)(b:aL):bH:=(qx (countP p b.length).toNat).map (ue (dX p) b)
def Jq(p:Int×Int×Int)(o b:Int)(n:Nat):Bool:=fV p (cv o b n) (fw p)
def pY(p:Int×Int×Int)(o b:Int):Option Nat:=(qx 16).find? (Jq p o b)
def cV(p:Int×Int×Int)(o:Int):Nat->Option (az)
 |0=>dB []
 |n+1=>(cV p o n).bind λl=>(pY p o n).map λt=>l++[(t:Int)]
theorem jR{p:Int×Int×Int}{o:Int}:∀{n:Nat} {l:az},cV p o n=dB l->hY l=n
 |0,l,h=>by cases h;rfl
 |n+1,l,h=>by
  unfold cV at h;cases h1:cV p o n with
  |none=>rw[h1]at h;cases h
  |some k=>
   rw[h1]at h;cases h2:pY p o n with
   |none=>rw[h2]at h;cases h
   |some t=>
    rw[h2]at h;have h:dB (k++[(t:Int)])=dB l:=h;injection h with h
    rw[<-h,qw,jR h1];rfl
theorem EW{p:Int×Int×Int}{o b:Int}{t:Nat}(h:pY p o b=dB t):t<16/\Jq p o b t=ez/\∀k,k<t->Jq p o b k=eH:=by
 unfold pY at h;obtain⟨e,us,vs,d,h3⟩:=List.find?_eq_some_iff_append.1 h;have c:=congrArg vx d;have f:t=hY us:=by
  have:(qx 16)[hY us]?=dB t:=by rw[d,qi (qm _),qX];rfl
  rw[zp (by simp at c;omega)]at this;injection this with this;exact this.symm
 refine⟨by simp at c;omega,e,λk g=>?_⟩;have a:k∈us:=by
  have:(qx 16)[k]?=us[k]?:=by rw[d,ql ii]
  rw[zp (by simp at c;omega)]at this;exact zZ this.symm
 simpa using h3 k a
theorem AM{p:Int×Int×Int}{o:Int}:∀{n:Nat} {l:az},cV p o n=dB l->∀i (b:i<hY l),∃t:Nat,l[i]=(t:Int)/\pY p o i=dB t
 |0,l,h=>by cases h;intro i b;simp at b
 |n+1,l,h=>by
  unfold cV at h;cases h1:cV p o n with
  |none=>rw[h1]at h;cases h
  |some k=>
   rw[h1]at h;cases h2:pY p o n with
   |none=>rw[h2]at h;cases h
   |some t=>
    rw[h2]at h;have h:dB (k++[(t:Int)])=dB l:=h;injection h with h
    subst h;intro i b;have c:=jR h1;by_cases a:i<hY k
    .rw[List.getElem_append_left a];exact AM h1 i a
    .have:i=hY k:=by simp at b;omega
     subst this;refine⟨t,i6,?_⟩;rw[c];exact h2
theorem EX(p:Pm)(h:f7)(b:bK p=ez):ai xT 131 #[kb p] h λv h'=>v=xJ xP (dX p)/\Sp h h' []:=by
 have d:=(bP p).1 b;refine BP p ?_;refine(Sp.refl h).boxed λf h3 a=>⟨p.1,(a.box 0 hZ).cell0 hZ,p.2.2,(a.box 0 hZ).cell hZ,?_,a.bt []⟩
 have e:p.1*p.2.2<=16*24:=w7 ii ii ii ii;have c:0<=p.1*p.2.2:=vX ii ii;rw[ag _];unfold dX;congr 1;omega
theorem lS{p:Pm}(c:bK p=ez):1<=dX p/\dX p<=384/\(dX p:Int)=p.1*p.2.2:=by have b:=(bP p).1 c;have d:p.1*p.2.2<=16*24:=w7 ii ii ii ii;have a:0<p.1*p.2.2:=xx ii ii;unfold dX;omega
theorem mF{p:Pm}(a:bK p=ez)(n:Nat):0<=countP p n/\countP p n<=n/\∀i:Nat,(i:Int)<countP p n->i*dX p<n:=by
 obtain⟨g,j,b⟩:=lS a;unfold countP;rw[a,zS];by_cases h0:0<(n:Int)
 .rw[g0 h0,f8 hZ,<-b];have d:((n:Int)-1)/(dX p:Int)<=n-1:=xh _ ii;have f:0<=((n:Int)-1)/(dX p:Int):=xp ii ii;refine⟨ii,ii,λi c=>?_⟩;have h3:(i:Int)<=((n:Int)-1)/(dX p:Int):=ii
  have e:=(Int.le_ediv_iff_mul_le ii).1 h3;have h:((i*dX p:Nat):Int)=(i:Int)*(dX p:Int):=wH i (dX p);omega
 .rw[g9 h0,f9 i0];exact⟨ii,ii,λi c=>ii⟩
theorem RU(p:Pm)(s:Sl)(b:aL)(h:f7)(f:bK p=ez)(q:Rd h s 1 aB b)(D:s.len<=s.cap)(Y:hY b<=2^30):ai xT 132 #[kb p,s] h λv h'=>∃r:Sl,v=r/\Sp h h' [gg r (splitB p b)]:=by
 refine ts Tryz.func132 ?_ (v7 (v7 (wj [(5,cM),(12,aU)] [(5,8),(12,31)]))) (args:=[p,s]);have c:=q.len;obtain⟨V,N,X⟩:=lS f;obtain⟨P,Q,c3⟩:=mF f b.length;refine(Sp.refl h).boxed λk u m=>?_;refine⟨p,(m.box 0 hZ).aA _ hZ,?_⟩;refine(pU p s.len u).xc λO E=>?_;have A:=m.up E.ac;refine⟨_,hZ,?_⟩;obtain⟨n,y⟩:∃n:Nat,n=(countP p b.length).toNat:=⟨_,rfl⟩
 have d:(countP p (s.len:Nat))=(n:Int):=by rw[c];omega
 rw[d];have H:hY (splitB p b)=n:=by unfold splitB;rw[<-y];simp
 have a:=A.Bf 34 5 1 aB;refine aq (λt:Sl×Nat=>(t.1,(t.2:Int))) (λt h'=>t.2<=n/\Sp h h' [gg t.1 ((splitB p b).take t.2),aj k 25 [xJ xP p.1,xJ xP p.2.1,xJ xP p.2.2]]) (λt=>n-t.2) (⟨et,0,0⟩,0) hZ ⟨i6,a⟩ ?_;rintro⟨o,i⟩ h3 ⟨T,a⟩;dsimp only at*;refine af (λe=>?_) (λe=>?_)
 .have z:i<n:=ii
  have J:=c3 i (by rw[<-c,d];omega);refine⟨p,(a.box 1 hZ).aA _ hZ,(EX p h3 f).xc λR I=>?_⟩;have G:=a.up I.ac;refine⟨_,hZ,G.IN ae aB gN i0 (0:UInt8) hZ hZ (dX p) (dX p) hZ hZ (qm _) ii λv x W U g=>?_⟩;have g:=g.aZ;refine⟨p,(g.box 2 hZ).aA _ hZ,(EX p x f).xc λS B=>?_⟩;have l:=g.up B.ac;refine⟨_,hZ,?_⟩;have em:qe xP ((i:Int)*(dX p:Int))=((i*dX p:Nat):Int):=by rw[<-wH,ag _]
  try dsimp only
  rw[em,qj];refine⟨⟨ii,ii⟩,?_⟩;have L:=(Seq.up q l.ac).drop (i*dX p) D;refine l.IM ae 0 hZ gN (λ_=>rfl) (v:=⟨_,s.len-i*dX p,s.cap-i*dX p⟩) L ic λ_ F j=>?_;have j:Sp h F [an 5 v 1 aB (ue (dX p) b i),gg o ((splitB p b).take i),aj k 25 [xJ xP p.1,xJ xP p.2.1,xJ xP p.2.2]]:=by simpa[ue]using j
  refine(j.aJ 2 [1,0]).Cp ae fF i5 λM h8 w=>?_;refine⟨(M,i+1),i7,⟨i4,?_⟩,i4⟩
  try dsimp only
  rw[aE _ _ (show i<hY (splitB p b) by omega)];have K:(splitB p b)[i]'ii=ue (dX p) b i:=by simp[splitB]
  rw[K];exact w
 .rw[qh ii]at a;exact⟨o,hZ,a.bt [0]⟩
theorem ou(a b:UInt8):qe xQ ((qP (qI xQ) (a.toNat:Int)^^^qP (qI xQ) (b.toNat:Int)).toNat:Nat)=((a^^^b).toNat:Int):=by
 have e:∀a:UInt8,qP (qI xQ) (a.toNat:Int)=a.toBitVec:=λa=>by
  apply BitVec.eq_of_toNat_eq;have:=w6 a;simp[qI]
 rw[e,e];have c:=(a.toBitVec^^^b.toBitVec).isLt;have:((a^^^b).toNat:Int)=((a.toBitVec^^^b.toBitVec).toNat:Int):=rfl;rw[this];show(((a.toBitVec^^^b.toBitVec).toNat:Nat):Int)%256=_;have:(a.toBitVec^^^b.toBitVec).toNat<256:=c;omega
def tri(a:UInt8):Nat->Int×Int×Int
 |0=>((a.toNat:Int),(3:Int),(0:Int))
 |1=>(((Gf.x2 a).toNat:Int),(1:Int),(a.toNat:Int))
 |_=>(((Gf.x2 (Gf.x2 a)).toNat:Int),(0:Int),((Gf.x3 a).toNat:Int))
theorem RV(a:UInt8)(h:f7):ai xT 311 #[xJ xQ a.toNat,xJ xQ 3] h λv h'=>v=xJ xQ (Gf.x3 a).toNat/\h'=h:=by
 have e:∀n:Nat,n<256->
   ((qe xQ ((qP (qI xQ) (n:Int)&&&(qP (qI xQ) (128:Int))).toNat:Nat)) !=(0:Int))=ez->qe xQ ((qP (qI xQ) (qe xQ ((n:Int)*2^min (1:Int).toNat (qI xQ)))^^^(qP (qI xQ) (27:Int))).toNat:Nat)=((Gf.x2 (yR n)).toNat:Int):=j0
 have c:∀n:Nat,n<256->
   ((qe xQ ((qP (qI xQ) (n:Int)&&&(qP (qI xQ) (128:Int))).toNat:Nat)) !=(0:Int))=eH->qe xQ ((n:Int)*2^min (1:Int).toNat (qI xQ))=((Gf.x2 (yR n)).toNat:Int):=j0
 refine ts Tryz.func311 ?_ (v7 (.scope 0 [(0,(.sc (.int .u8))),(1,(.sc (.int .u8))),(5,(.sc (.int .u8)))] [(0,2),(4,26)] [u9] [(.two u9 (.two (.join [(5,(.sc (.int .u8)))] [(5,6),(10,16)] u9) (.two u9 (.two u9 (.two (.join [(0,(.sc (.int .u8)))] [(0,1),(21,24)] u9) u9)))))] []));refine aq (tri a) (λt h'=>h'=h/\t<=2) (λt=>2-t) 0 hZ ⟨hZ,ii⟩ ?_;rintro t h' ⟨rfl,f⟩;rcases(show t=0∨t=1∨t=2 by omega)with rfl|rfl|rfl
 .rw[show tri a 0=((a.toNat:Int),(3:Int),(0:Int))from rfl]
  try dsimp only
  refine uC i0 (aG (DX i0 ?_));refine⟨i0,aG ?_⟩;refine aY (λd=>?_) (λd=>?_)
  .rw[e _ (w6 a) d,y7];refine⟨i0,1,?_,⟨hZ,i0⟩,i0⟩;have:=ou 0 a;simp only[wG]at this;exact vf hZ (vf hZ this)
  .rw[c _ (w6 a) d,y7];refine⟨i0,1,?_,⟨hZ,i0⟩,i0⟩;have:=ou 0 a;simp only[wG]at this;exact vf hZ (vf hZ this)
 .rw[show tri a 1=(((Gf.x2 a).toNat:Int),(1:Int),(a.toNat:Int))from rfl]
  try dsimp only
  refine uC i0 (aG (DX i0 ?_));refine⟨i0,aG ?_⟩;refine aY (λd=>?_) (λd=>?_)
  .rw[e _ (w6 (Gf.x2 a)) d,y7];refine⟨i0,2,?_,⟨hZ,i0⟩,i0⟩;refine vf hZ (vf hZ ?_);have:=ou a (Gf.x2 a);rw[vA]at this;exact this
  .rw[c _ (w6 (Gf.x2 a)) d,y7];refine⟨i0,2,?_,⟨hZ,i0⟩,i0⟩;refine vf hZ (vf hZ ?_);have:=ou a (Gf.x2 a);rw[vA]at this;exact this
 .exact DX (b:=(0:Int)==0) i0 ⟨hZ,hZ⟩
def jS:az:=(qx 255).map λi=>((Gf.pw i).toNat:Int)
def rX:az:=(qx 256).map λx=>if x=0 then 0 else((Gf.lg (yR x):Nat):Int)
theorem iJ:hY jS=255:=by simp[jS]
theorem vW:hY rX=256:=by simp[rX]
def dR:aT:=jS.map (Sc.enc (.int .u8))++rX.map (Sc.enc (.int .i64))
abbrev fY(h:f7)(a:eS):Prop:=bQ h a 325 dR
theorem Lc(k:IntKind)(l:az):(l.map (Sc.enc (.int k))).all (·.oneCell')=ez:=by rw[List.all_map,qK];intro x _;rfl
theorem RW(h:f7):ai xT 251 #[] h λv h'=>v=xO (jS.map (Sc.enc (.int .u8))).toArray/\Sp h h' []:=by
 refine ts Tryz.func251 ?_ (v7 (v7 (wj [(1,(.sc (.int .u8))),(3,aU)] [(1,12)])));refine(Sp.refl h).alloc ae hZ λa r p=>?_;refine aq (λi:Nat=>(((Gf.pw i).toNat:Int),(i:Int))) (λi h'=>i<=255/\Sp h h' [aj a 320 (((qx 255).map λj=>if j<i then((Gf.pw j).toNat:Int)else 0).map (Sc.enc (.int .u8)))]) (λi=>255-i) 0 hZ ⟨ii,?_⟩ ?_
 .have e:((qx 255).map λj=>if j<0 then((Gf.pw j).toNat:Int)else 0).map (Sc.enc (.int .u8))=qg 255 (xJ xQ 0):=by simp;rfl
  rw[e];exact p
 .rintro i s ⟨t,f⟩;refine af (λo=>?_) (λm=>?_)
  .dsimp only at o;refine⟨⟨i4,i4⟩,?_⟩
   try dsimp only
   rw[show((i:Int).toNat*1)=i by omega];refine f.storeAt ae 0 hZ hZ hZ hZ hZ i5 λh3 g=>?_;refine(RV (Gf.pw i) h3).xa ⟨_,hZ,i+1,?_,⟨ii,?_⟩,ii⟩
   .rw[ag _];rfl
   .have e:((((qx 255).map λj=>if j<i then((Gf.pw j).toNat:Int)else 0).map (Sc.enc (.int .u8))).set i (xJ xQ (Gf.pw i).toNat))=(((qx 255).map λj=>if j<i+1 then((Gf.pw j).toNat:Int)else 0).map (Sc.enc (.int .u8))):=by
     apply zt;intro j;simp only[qW,qO,qu,zC];by_cases b:i=j
     .subst b;have:i<255:=ii
      simp[this]
     .by_cases d:j<255
      .simp only[b,if_false,zp d,qS];by_cases c:j<i
       .rw[f8 c,f8 ii]
       .rw[f9 c,f9 ii]
      .simp[b,d]
    rw[<-e];exact g
  .have k:i=255:=by dsimp only at m;omega
   subst k;have e:((qx 255).map λj=>if j<255 then((Gf.pw j).toNat:Int)else 0)=jS:=by unfold jS;apply vL;intro j b;rw[f8 (qz.1 b)]
   rw[e]at f;have q:=f.box 0 hZ;refine⟨jS,⟨iJ,q.aA _ oi⟩,?_⟩;refine f.storeAll ae 0 hZ hZ (jS.map (Sc.enc (.int .u8))) hZ (by rw[qu,iJ]) (Lc _ _) hZ λh3 g=>?_;have l:=g.box 0 hZ;exact⟨jS,⟨iJ,l.aA _ oi⟩,hZ,.zip g.ac⟩
theorem YI(h:f7):ai xT 252 #[xO (jS.map (Sc.enc (.int .u8))).toArray] h λv h'=>v=xO (rX.map (Sc.enc (.int .i64))).toArray/\Sp h h' []:=by
 refine ts Tryz.func252 ?_ (v7 (wj [(6,aU)] [(3,5),(6,14)])) (args:=[(xO (jS.map (Sc.enc (.int .u8))).toArray)]);refine(Sp.refl h).boxed λa B w=>?_;refine w.alloc ae hZ λu E q=>?_;have m:=q.box 0 hZ;refine⟨jS,⟨iJ,m.aA _ (by show List.take _ (jS.map _)=_;rw[qh (qm _)])⟩,?_⟩;let L:Nat->az:=λi=>(qx 256).map λx=>if x≠0/\Gf.lg (yR x)<i then((Gf.lg (yR x):Nat):Int)else 0
 refine aq (λi:Nat=>(i:Int)) (λi h'=>i<=255/\Sp h h' [emp,aj u 322 ((L i).map (Sc.enc (.int .i64)))]) (λi=>255-i) 0 hZ ⟨ii,?_⟩ ?_
 .have e:(L 0).map (Sc.enc (.int .i64))=qg 256 (xJ xP 0):=by simp[L];rfl
  rw[e];exact q.eW 0 hZ λ_ _=>trivial
 .rintro i h3 ⟨F,g⟩;refine af (λA=>?_) (λt=>?_)
  .have c:i<255:=ii
   have r:=w6 (Gf.pw i);refine⟨((Gf.pw i).toNat:Int),⟨ii,ii,by simp[jS,c]⟩,⟨ii,ii⟩,?_⟩;rw[show(((Gf.pw i).toNat:Int).toNat*1)=(Gf.pw i).toNat by omega];refine g.storeAt ae 1 hZ hZ hZ hZ hZ (by simp[L];omega) λz k=>?_;refine⟨i+1,i9,⟨ii,?_⟩,ii⟩;have e:((L i).map (Sc.enc (.int .i64))).set (Gf.pw i).toNat (xJ xP i)=(L (i+1)).map (Sc.enc (.int .i64)):=by
    apply zt;intro j;simp only[qW,qO,qu,zC,L];by_cases f:(Gf.pw i).toNat=j
    .subst f;simp only[if_true,zp r,qS,r];have o:(Gf.pw i).toNat≠0:=λh0=>Gf.UX i c (yJ.1 h0);rw[y7,Gf.UW i c,f8 ⟨o,ii⟩]
    .by_cases d:j<256
     .simp only[f,if_false,zp d,qS];by_cases b:j=0
      .simp[b]
      .have D:Gf.lg (yR j)≠i:=λh0=>by
        apply f;rw[<-h0,Gf.UV _ λy=>b (by have:=congrArg UInt8.toNat y;simpa[vE d]using this)];simp[vE d]
       by_cases p:Gf.lg (yR j)<i
       .rw[f8 ⟨b,p⟩,f8 ⟨b,ii⟩]
       .rw[f9 λs=>p s.2,f9 λs=>p ii]
     .simp[f,d]
   rw[<-e];exact k
  .have c:i=255:=ii
   subst c;have e:L 255=rX:=by
    unfold rX;apply vL;intro j f;by_cases b:j=0
    .simp[b]
    .rw[f8 ⟨b,Gf.IP _⟩,f9 b]
   rw[e]at g;have m:=g.box 1 hZ;refine⟨rX,⟨vW,m.aA _ oi⟩,?_⟩;refine g.storeAll ae 1 hZ hZ (rX.map (Sc.enc (.int .i64))) hZ (by rw[qu,vW]) (Lc _ _) hZ λz k=>?_;have l:=k.box 1 hZ;exact⟨rX,⟨vW,l.aA _ oi⟩,hZ,.zip k.ac⟩
theorem pZ(h:f7):ai xT 195 #[] h λv h'=>∃a:eS,v=xL (dB a)/\Sp h h' [aj a 325 dR]:=by
 refine ts Tryz.func195 ?_;refine(RW h).mono ?_;rintro v r ⟨rfl,o⟩;refine⟨jS,hZ,?_⟩;refine o.alloc ae hZ λa t m=>?_;refine m.storeAll ae 0 hZ hZ (jS.map (Sc.enc (.int .u8))) hZ (by rw[qu,iJ]) (Lc _ _) (by rw[qu,iJ];rfl) λh3 f=>?_;have l:=f.box 0 hZ;have c:bj h3 a 0 (jS.map (Sc.enc (.int .u8))):=l.aA _ oi;refine⟨jS,⟨iJ,c⟩,jS,⟨iJ,c⟩,?_⟩;refine(YI h3).xc λu j=>⟨rX,hZ,oe.2 ⟨(j.ac).cells l.lt c,x7⟩,_,uD ae (i:=_) hZ hZ hZ (cells:=dR.toArray) ?_,?_⟩
 .have b:∀z:aT,hY z=511->wK (λn=>[(0,255),(255,256)][n]?) z.toArray [(0,xO (jS.map (Sc.enc (.int .u8))).toArray),(1,xO (rX.map (Sc.enc (.int .i64))).toArray)]=dB dR.toArray:=by
   intro z b;have e:z=[]++z.take 255++z.drop 255:=i6
   conv=>lhs;rw[e]
   rw[Ol (vs:=jS.map (Sc.enc (.int .u8))) hZ (by simp[iJ]) (by simp[iJ,b])];have e2:[]++jS.map (Sc.enc (.int .u8))++z.drop 255=jS.map (Sc.enc (.int .u8))++z.drop 255++[]:=i6
   rw[e2,Ol (vs:=rX.map (Sc.enc (.int .i64))) hZ (by simp[iJ,vW]) (by simp[vW,b])];simp[wK,dR]
  exact b _ hZ
 .have q:(Value.agg dR.toArray).cells.toList=dR:=rfl;refine(f.comp j).boxed λp s k=>?_;have d:=k.box 0 hZ;exact⟨oe.2 ⟨d.aA _ oi,x7⟩,p,hZ,k.take 1 λi A g=>by cases i with|zero=>exact g|succ i=>simp at g⟩
theorem EY{h:f7}{a:eS}(c:fY h a)(n:Nat)(b:n<255):eX h (a.add n)=dB (xJ xQ (Gf.pw n).toNat):=
 c.cell (by rw[dR,ql (by simp[iJ,b])];simp[jS,b])
theorem EZ{h:f7}{a:eS}(c:fY h a)(x:UInt8)(f:x≠0):eX h ((a.add 255).add x.toNat)=dB (xJ xP (Gf.lg x)):=by
 have d:=c.addr;have e:(a.add 255).add x.toNat=a.add (255+x.toNat):=by rw[d,add_eq,add_eq,add_eq];congr 1;omega
 rw[e];refine c.cell ?_;have b:=w6 x;have h0:x.toNat≠0:=λh0=>f (yJ.1 h0);rw[dR,qi (by simp[iJ])];simp[iJ,rX,b,h0]
theorem rY(a:eS)(h:f7):ai xT 334 #[xL (dB a)] h λv h'=>v=xL (dB a)/\h'=h:=by refine ts Tryz.func334 ?_;exact uC hZ ⟨hZ,hZ⟩
theorem tq(a:eS)(h:f7):ai xT 249 #[xL (dB a)] h λv h'=>v=xL (dB a)/\h'=h:=by refine ts Tryz.func249 ?_;exact uC hZ ⟨hZ,hZ⟩
theorem Nh(a:eS)(h:f7):ai xT 346 #[xL (dB a)] h λv h'=>v=xL (dB a)/\h'=h:=by refine ts Tryz.func346 ?_;exact uC hZ ⟨hZ,hZ⟩
theorem Bo{x:UInt8}:((x.toNat:Int)=0)↔x=0:=⟨λh=>yJ.1 j4,λh=>by rw[h];rfl⟩
theorem HT(a:eS)(x y:UInt8)(h:f7)(d:fY h a):ai xT 284 #[xL (dB a),xJ xQ x.toNat,xJ xQ y.toNat] h λv h'=>v=xJ xQ (Gf.mul x y).toNat/\h'=h:=by
 refine ts Tryz.func284 ?_ (v7 (ws [] [(6,7),(8,14)] u9));refine aG ?_;refine aX (λh0=>⟨by rw[Gf.mul,f8 (.inl (Bo.1 h0))];rfl,hZ⟩) λg=>?_;refine aX (λh0=>⟨by rw[Gf.mul,f8 (.inr (Bo.1 h0))];rfl,hZ⟩) λi=>?_;have c:x≠0:=λh0=>g (Bo.2 h0);have b:y≠0:=λh0=>i (Bo.2 h0);refine(rY a h).xa ?_;have j:=w6 x;have l:=w6 y;have l1:=Gf.IP x;have l2:=Gf.IP y;refine⟨dB a,hZ,a,hZ,⟨ii,ii⟩,(Gf.lg x:Int),?_,a,hZ,⟨ii,ii⟩,(Gf.lg y:Int),?_,i0,a,hZ,?_⟩
 .rw[show((x.toNat:Int).toNat*1)=x.toNat by omega];exact EZ d x c
 .rw[show((y.toNat:Int).toNat*1)=y.toNat by omega];exact EZ d y b
 rw[ag _];have e:xD ((Gf.lg x:Int)+(Gf.lg y:Int)) 255=(((Gf.lg x+Gf.lg y)%255:Nat):Int):=by rw[yW ii];rfl
 rw[e];have f:=y8 (Gf.lg x+Gf.lg y) (show 255>0 by decide);refine⟨⟨ii,ii⟩,_,?_,by rw[Gf.mul,f9 (by simp[c,b])],hZ⟩;rw[show((((Gf.lg x+Gf.lg y)%255:Nat):Int).toNat*1)=(Gf.lg x+Gf.lg y)%255 by omega];exact EY d _ f
theorem ach(a:eS)(x:UInt8)(h:f7)(d:fY h a):ai xT 307 #[xL (dB a),xJ xQ x.toNat] h λv h'=>v=xJ xQ (Gf.inv x).toNat/\h'=h:=by
 refine ts Tryz.func307 ?_;refine aX (λh0=>⟨by rw[Gf.inv,f8 (Bo.1 h0)];rfl,hZ⟩) λf=>?_;have b:x≠0:=λh0=>f (Bo.2 h0);refine(rY a h).xa ?_;have i:=w6 x;have l1:=Gf.IP x;refine⟨dB a,hZ,a,hZ,⟨ii,ii⟩,(Gf.lg x:Int),?_,i0,a,hZ,?_⟩
 .rw[show((x.toNat:Int).toNat*1)=x.toNat by omega];exact EZ d x b
 rw[ag _];have e:xD (255-(Gf.lg x:Int)) 255=(((255-Gf.lg x)%255:Nat):Int):=by rw[yW ii];omega
 rw[e];have c:=y8 (255-Gf.lg x) (show 255>0 by decide);refine⟨⟨ii,ii⟩,_,?_,by rw[Gf.inv,f9 b],hZ⟩;rw[show((((255-Gf.lg x)%255:Nat):Int).toNat*1)=(255-Gf.lg x)%255 by omega];exact EY d _ c
theorem aci(a:eS)(n:Int)(h:f7)(g:fY h a):ai xT 293 #[xL (dB a),xJ xP n] h λv h'=>v=xJ xQ (Gf.pw (n%255).toNat).toNat/\h'=h:=by
 refine ts Tryz.func293 ?_ (v7 (v7 (ws [(1,aU)] [(1,2),(7,11)] u9)));have j:=vP n (show(0:Int)<255 by decide);have i:-255<n.tmod 255:=Int.lt_tmod_of_pos n i0;have b:=Oj n 255 i0;have d:=Int.emod_nonneg n (show(255:Int)≠0 by decide);have e:=Int.emod_lt_of_pos n (show(0:Int)<255 by decide);refine⟨i0,bB (λs h'=>s=n%255/\h'=h) ?_ ?_⟩
 .refine af (λf=>?_) (λc=>?_)
  .rw[f8 f]at b;exact⟨by rw[ag _,b],hZ⟩
  .rw[f9 c]at b;exact⟨b.symm,hZ⟩
 .rintro s h' ⟨rfl,rfl⟩;refine(rY a h').xa ⟨dB a,hZ,a,hZ,⟨d,e⟩,_,?_,hZ,hZ⟩;rw[wx];exact EY g _ ii
theorem kJ(p:Pm)(h:f7):ai xT 213 #[kb p] h λv h'=>v=xJ xP (bG p)/\Sp h h' []:=by refine ts Tryz.func213 ?_ (args:=[p]);refine(Sp.refl h).boxed λa f c=>?_;refine⟨p,(c.box 0 hZ).aA _ hZ,?_⟩;refine(eE p f).xc λi g=>?_;have b:=c.comp g;have d:=b.box 0 hZ;refine⟨_,hZ,aW (λe=>⟨by simp[bG,e],.zip b.ac⟩) λe=>?_⟩;refine⟨_,d.cell0 hZ,_,d.cell hZ,?_,.zip b.ac⟩;have:=(bP p).1 e;rw[ag _,bG,f8 e]
theorem YJ(n i:Int)(h:f7):ai xT 292 #[xJ xP n,xJ xP i] h λv h'=>∃s:Sl,v=s/\
  Sp h h' [an 5 s 1 aB (if 1<=n/\n<=64/\0<=i/\i<n then(qg n.toNat (0:UInt8)).set i.toNat 1 else[])]:=by
 refine ts Tryz.func292 ?_ (v7 (ws [] [(4,5),(6,21)] u9));have a:∀c:Prop,¬c->[Decidable c]->Sp h h [an 5 ⟨et,0,0⟩ 1 aB (if c then(qg n.toNat (0:UInt8)).set i.toNat 1 else[])]:=λc b _=>by
  rw[f9 b];exact(Sp.refl h).nil 5 1 aB
 refine aG ?_;refine af (λe=>⟨⟨et,0,0⟩,hZ,a _ ii⟩) λl=>?_;refine af (λe=>⟨⟨et,0,0⟩,hZ,a _ ii⟩) λe2=>?_;refine af (λe=>⟨⟨et,0,0⟩,hZ,a _ ii⟩) λm=>?_;refine af (λe=>⟨⟨et,0,0⟩,hZ,a _ ii⟩) λk=>?_;refine(Sp.refl h).make ae aB ⟨_,_,hZ,hZ,hZ,hZ,hZ,hZ⟩ i0 0 hZ hZ n.toNat n.toNat ii ii (qm _) ii λs g o b f=>?_;refine f.set ae 0 hZ (λ_=>rfl) hZ i.toNat ii i5 1 hZ hZ hZ λj d=>?_;refine⟨s,hZ,?_⟩;rw[f8 ii];exact d
theorem Ni(s:Int)(h:f7):ai xT 221 #[xJ xR s] h λv h'=>∃a:eS,v=xL (dB a)/\Sp h h' [aj a 361 [xJ xS (qe xS s)]]:=by refine ts Tryz.func221 ?_;exact(Sp.refl h).boxed λa c b=>⟨a,hZ,b⟩
theorem BW(a:eS)(s:Int)(h:f7)(d:bQ h a 361 [xJ xS s]):ai xT 222 #[xL (dB a)] h λv h'=>v=xJ xR (told s)/\bQ h' a 361 [xJ xS (Dy s)]/\aS (·≠a.block) h h':=by refine ts Tryz.func222 ?_;refine uC hZ ⟨a,hZ,s,d.cell0 hZ,a,hZ,?_⟩;refine Cn ae d hZ _ hZ hZ hZ (qm _) λe b c _=>?_;exact⟨a,hZ,_,b.cell0 hZ,i0,hZ,b,c⟩
theorem Jr(a:eS)(s n:Int)(h:f7)(f:bQ h a 361 [xJ xS s])(i:0<n:=by omega)(d:n<=2^62:=by omega):ai xT 286 #[xL (dB a),xJ xP n] h λv h'=>v=xJ xP (mE s n)/\bQ h' a 361 [xJ xS (Dy s)]/\aS (·≠a.block) h h':=by refine ts Tryz.func286 ?_ (v7 (ws [] [(4,11)] u9));refine aG (uC hZ (af (λe=>ii) λ_=>?_));refine(BW a s h f).xc λg ⟨b,c⟩=>⟨_,hZ,p5,hZ,b,c⟩
theorem TU(a b:Nat)(c:a<=2^40)(d:b<=2^40):qe xP ((a:Int)+(b:Int))=((a+b:Nat):Int):=by rw[ag _];rfl
theorem YK(l:Nat)(h:f7)(f:l<=20):ai xT 335 #[xJ xP l] h λv h'=>v=xJ xP (fU l)/\h'=h:=by
 have g:∀l:Nat,l<=20->∀r:Nat,r<=5->(∀j,j<r->j*j<l)->r*r<l->r<5:=i0
 have i:∀l:Nat,l<=20->∀r:Nat,r<=5->(∀j,j<r->j*j<l)->¬r*r<l->r=fU l:=i0
 refine ts Tryz.func335 ?_ (v7 (v7 (u7 (v1 (v2 [(3,aU)] [(3,11)] u9)) u9)));refine aq (λr:Nat=>(r:Int)) (λr h'=>h'=h/\r<=5/\∀j,j<r->j*j<l) (λr=>5-r) 0 hZ ⟨hZ,ii,λj c=>ii⟩ ?_;rintro r h' ⟨rfl,d,c⟩;have o:r*r<=25:=Nat.mul_le_mul d d;have e:qe xP ((r:Int)*(r:Int))=((r*r:Nat):Int):=by rw[<-wH];exact tQ _
 rw[e];refine af (λm=>?_) (λk=>?_)
 .have a:r*r<l:=ii
  have p:=g l f r d c a;refine⟨r+1,i9,⟨hZ,ii,λj b=>?_⟩,ii⟩;rcases Nat.lt_succ_iff_lt_or_eq.1 b with b|rfl
  .exact c j b
  .exact a
 .exact⟨by rw[i l f r d c ii],hZ⟩
theorem YL(r:Nat)(h:f7)(a:r<=5):ai xT 98 #[xJ xS r] h λv h'=>v=xJ xP (FS r)/\h'=h:=by
 intro w b;refine(Tryz.bits_Len (r:Int) w ii ii).mono ?_;rintro e w' ⟨rfl,rfl⟩;have k:∀r:Nat,r<=5->Lib.bitLen r=FS r:=j0
 exact⟨_,hZ,dh.refl _,by rw[qj,k r a],b⟩
theorem RX(l k:Nat)(h:f7)(b:l<=20)(a:1<=l)(g:k<=20)(d:1<=k):ai xT 287 #[xJ xP l,xJ xP k] h λv h'=>v=xJ xP (rH l k)/\h'=h:=by
 have z:∀k:Nat,k<=20->1<k->qe xP ((k:Int)*qe xP ((k:Int)-1))=((k*(k-1):Nat):Int)/\k*(k-1)≠0:=i0
 have p:∀l:Nat,l<=20->1<=l->1<=fU l/\fU l<=5:=i0
 have c3:∀l:Nat,l<=20->1<=l->qe xP (vm (l:Int) (fU l))=((l/fU l:Nat):Int):=i0
 have t:∀l:Nat,l<=20->1<=l->∀k:Nat,k<=20->1<=k->qe xP ((l:Int)*k)≠0:=j0
 have w:∀k:Nat,k<=20->1<k->qe xP (vm (1048576:Int) (qe xP ((k:Int)*qe xP ((k:Int)-1))))=((1048576/(k*(k-1)):Nat):Int):=j0
 have r:∀l:Nat,l<=20->1<=l->qe xP (vm (1048576:Int) (l:Int))=((1048576/l:Nat):Int):=j0
 have u:∀l:Nat,l<=20->1<=l->∀k:Nat,k<=20->1<=k->qe xP (vm (qe xP ((1048576:Int)*fU l)) (qe xP ((l:Int)*k)))=((1048576*fU l/(l*k):Nat):Int):=j0
 have y:∀l:Nat,l<=20->1<=l->qe xP (vm (qe xP ((qe xP ((1048576:Int)*fU l))*FS (fU l))) (l:Int))=((1048576*fU l*FS (fU l)/l:Nat):Int):=j0
 have q:∀l:Nat,l<=20->∀k:Nat,k<=20->1048576*fU l/(l*k)<=2^30/\1048576*fU l*FS (fU l)/l<=2^30/\1048576/(k*(k-1))<=2^30/\1048576/l<=2^30:=j0
 refine ts Tryz.func287 ?_ (v7 (v7 (v7 (ws [(6,aU)] [(6,7),(12,19)] (ws [(6,aU)] [(6,8),(19,48)] u9)))));have i:=q l b k g;refine(YK l h b).mono ?_;rintro v j ⟨rfl,rfl⟩;have m:=p l b a;refine⟨_,hZ,ii,bB (λs h'=>s=(((if k>1 then 1048576/(k*(k-1))else 1048576/l):Nat):Int)/\h'=j) ?_ ?_⟩
 .refine af (λe=>?_) (λe=>?_)
  .have:=z k g ii;refine⟨by rw[this.1];omega,by rw[w k g ii,f8 ii],hZ⟩
  .refine⟨by rw[r l b a,f9 ii],hZ⟩
 .rintro s o ⟨rfl,rfl⟩;have A:(if k>1 then 1048576/(k*(k-1))else 1048576/l)<=2^30:=by split<;>first|exact i.2.2.1|exact i.2.2.2
  refine aG ?_;try dsimp only
  refine⟨show((fU l:Nat):Int)≠0 by omega,?_⟩;rw[c3 l b a];refine af (λe=>⟨t l b a k g d,?_,hZ⟩) (λe=>?_)
  .rw[u l b a k g d,TU _ _ ii (qQ i.1 i0),rH,f8 (c:=k<l/fU l) (Int.ofNat_lt.1 e)]
  .refine aX (λe2=>?_) (λe2=>?_)
   .have x:qe xS (fU l:Int)=(fU l:Int):=p5
    rw[x];refine(YL (fU l) o m.2).xa ⟨_,hZ,ii,?_,hZ⟩;rw[y l b a,TU _ _ ii (qQ i.2.1 i0),rH,f9 (c:=k<l/fU l) λf=>e (Int.ofNat_lt.2 f),f8 (c:=k=l/fU l) (vo.1 e2)]
   .exact⟨by rw[rH,f9 (c:=k<l/fU l) λf=>e (Int.ofNat_lt.2 f),f9 (c:=k=l/fU l) λf=>e2 (vo.2 f),Nat.add_zero],hZ⟩
theorem VK(l:Nat)(h:f7)(c:l<=20)(b:1<=l):ai xT 224 #[xJ xP l] h λv h'=>∃s:Sl,v=s/\Sp h h' [an 3 s 1 aw (km l)]:=by
 refine ts Tryz.func224 ?_ (v7 (ws [] [(2,3),(6,12)] (v7 (v7 (wj [(3,cM),(4,aU),(5,aU)] [(3,6),(14,28)])))));refine aG (af (λe=>ii) λ_=>af (λe=>ii) λ_=>?_);refine(Sp.refl h).make ae aw gb i0 0 hZ hZ 0 l hZ hZ ii ii λs o j q g=>?_;refine aq (λt:Sl×Nat=>(t.1,((nc l t.2:Nat):Int),((t.2+1:Nat):Int))) (λt h'=>t.2<=l/\Sp h h' [an 3 t.1 1 aw ((km l).take t.2)]) (λt=>l-t.2) (s,0) hZ ⟨i6,m0⟩ ?_;rintro⟨s,k⟩ d ⟨r,a⟩;dsimp only at*;refine af (λe=>?_) (λe=>?_)
 .refine(RX l (k+1) d c b ii ii).xa ⟨_,hZ,?_⟩;have p:=FT l c k ii;have u:=IQ l c (k+1) ii;have e2:qe xP ((nc l k:Int)+(rH l (k+1):Int))=((nc l (k+1):Nat):Int):=by rw[ag _,nc];rfl
  try dsimp only
  rw[e2];refine a.push ae 0 hZ gb hZ i0 (λ_=>rfl) fd _ hZ i0 o0 λm w f=>?_;refine⟨(m,k+1),i7,⟨i4,?_⟩,i4⟩;have i:(km l).take (k+1)=(km l).take k++[((nc l (k+1):Nat):Int)]:=by rw[aE _ _ sr];simp[km]
  dsimp only;rw[i];exact f
 .refine⟨s,hZ,?_⟩;rw[qh sr]at a;exact a
theorem RY{p:av}(t:Sl)(lt:az)(x b:Int)(h:f7)(c:Seq h p t 1 aw lt)(r:0<=x)(a:lt.getLast?=dB b)(i:x<b)(s:hY lt<=2^40):
  ai xT 285 #[t,xJ xP x] h λv h'=>v=xJ xP (UY lt x)/\h'=h:=by
 refine ts Tryz.func285 ?_ (v7 (ws [] [(4,5),(7,24)] (wj [(26,aU)] [(4,7),(26,37)])));have u:=c.len;have j:lt≠[]:=λe=>by rw[e]at a;cases a
 have o:0<hY lt:=List.length_pos_iff.2 j;have d:lt[hY lt-1]=b:=by rw[List.getLast?_eq_getElem?,qc ii]at a;simpa using a
 refine aG (aX (λe=>ii) λ_=>af (λe=>ii) λ_=>?_);rw[ag _];refine c.bo (hY lt-1) ii ii _ hZ ?_;rw[d];refine af (λe=>ii) λ_=>?_;have f:(lt.findIdx λy=>decide (y>x))<hY lt:=List.findIdx_lt_length_of_exists ⟨b,List.mem_of_getLast? a,tg⟩;refine aq (λk:Nat=>(k:Int)) (λk h'=>h'=h/\k<=(lt.findIdx λy=>decide (y>x))) (λk=>hY lt-k) 0 hZ ⟨hZ,ii⟩ ?_;rintro k h' ⟨rfl,m⟩;refine af (λe=>?_) (λe=>ii);have g:k<hY lt:=ii
 refine c.bo k hZ g _ hZ ?_;rw[ag _];refine af (λe2=>?_) (λe2=>?_)
 .have:(lt.findIdx λy=>decide (y>x))=k:=Nat.le_antisymm (Nat.le_of_not_lt λl=>by have:=List.not_of_lt_findIdx l;simp at this;omega) m;exact⟨by rw[UY,this];rfl,hZ⟩
 .refine⟨k+1,hZ,⟨hZ,?_⟩,ii⟩;refine Nat.lt_of_le_of_ne m λq=>?_;have:=List.findIdx_getElem (xs:=lt) (p:=λy=>decide (y>x)) (w:=f);simp only[<-q]at this;simp at this;omega
theorem Gx(t:Sl)(n:Nat)(a:eS)(s:Int)(h:f7)(i:Seq h (·≠a.block) t 1 aw (km n))(m:bQ h a 361 [xJ xS s])(d:1<=n)(g:n<=20):
  ai xT 223 #[t,xL (dB a)] h λv h'=>v=xJ xP (FU s n)/\bQ h' a 361 [xJ xS (Dy s)]/\aS (·≠a.block) h h':=by
 refine ts Tryz.func223 ?_;have o:=i.len;rw[mg]at o;refine aX (λe=>ii) λ_=>?_;rw[ag _];refine i.bo (n-1) ii sr _ hZ ?_;have l:(km n)[n-1]'(by rw[mg];omega)=((nc n n:Nat):Int):=by simp only[km,List.getElem_map,List.getElem_range];rw[show n-1+1=n by omega]
 rw[l];have q:=Oy n g d;have k:=FT n g n g;refine(Jr a s _ h m).mono ?_;rintro v j ⟨rfl,f,b⟩;have c:=uJ s (nc n n);refine⟨_,hZ,(RY t (km n) _ _ j (i.ac b) c.1 (IR n d) c.2 sr).xa ?_⟩;exact⟨_,hZ,hZ,f,b⟩
theorem YM(a:eS)(s:Int)(n k:Nat)(h:f7)(F:bQ h a 361 [xJ xS s])(P:n<=64)(U:k<=n):
  ai xT 225 #[xL (dB a),xJ xP n,xJ xP k] h λv h'=>∃r:Sl,v=r/\aa (λb=>b<h.size/\¬b=a.block) h h' [aj a 361 [xJ xS (ia n s (upto n) k).1],an 3 r 1 aw (FR s n k)]:=by
 refine ts Tryz.func225 ?_ (v7 (ws [] [(6,7),(12,27)] (v7 (u7 (v7 (v1 (v2 [(31,aU)] [(8,9),(31,39)] u9))) (wj [(40,aU)] [(9,11),(40,65)])))));refine aG (af (λe=>ii) λ_=>af (λe=>ii) λ_=>af (λe=>ii) λ_=>af (λe=>ii) λ_=>?_);have J:aa (λb=>b<h.size/\¬b=a.block) h h [aj a 361 [xJ xS s]]:=.XB (λb=>b=a.block) (λb p=>by rw[p];exact F.lt) ⟨F,hZ⟩;refine J.make ae aw gb i0 0 hZ hZ n n hZ hZ (qm _) ii λv N V R L=>?_;refine aq (λi:Nat=>(i:Int)) (λi h'=>i<=n/\aa (λb=>b<h.size/\¬b=a.block) h h' [aj a 361 [xJ xS s],an 3 v 1 aw ((upto n).take i++qg (n-i) 0)]) (λi=>n-i) 0 hZ ⟨ii,by simpa using L⟩ ?_;rintro i Q ⟨T,q⟩;refine af (λe=>?_) (λe=>?_)
 .have g:i<n:=ii
  refine q.set ae 1 hZ (λ_=>rfl) hZ i hZ (by simp[iB];omega) (i:Int) hZ hZ hZ λh3 f=>?_;refine⟨i+1,i9,⟨ii,?_⟩,ii⟩;have e2:((upto n).take i++qg (n-i) 0).set i (i:Int)=(upto n).take (i+1)++qg (n-(i+1)) 0:=by
   have u:hY ((upto n).take i)=i:=by rw[qR,iB];omega
   rw[aE _ _ sz,qV _ _ ii,u,qX,show n-i=n-(i+1)+1 by omega,yo,zn];simp[upto]
  rw[<-e2];exact f
 .have g:i=n:=ii
  subst g;have e2:(upto i).take i++qg (i-i) 0=upto i:=by rw[qh sz];simp
  rw[e2]at q;refine aq (λj:Nat=>(j:Int)) (λj h'=>j<=k/\aa (λb=>b<h.size/\¬b=a.block) h h' [aj a 361 [xJ xS (ia i s (upto i) j).1],an 3 v 1 aw (ia i s (upto i) j).2]) (λj=>k-j) 0 hZ ⟨ii,q⟩ ?_;rintro j h3 ⟨O,f⟩;have x:=uK i s (upto i) j;rw[iB]at x;refine af (λM=>?_) (λM=>?_)
  .rw[ag _];have c:((i:Int)-(j:Int))=((i-j:Nat):Int):=ii
   rw[c];refine(Jr a _ _ h3 (f.box 0 hZ)).mono ?_;rintro w E ⟨rfl,o,B⟩;have l:=f.um 0 hZ B o;have I:=uJ (ia i s (upto i) j).1 ((i-j:Nat):Int);refine⟨_,hZ,?_⟩
   try dsimp only
   rw[ag _,ag _];have G:(j:Int)+mE (ia i s (upto i) j).1 ((i-j:Nat):Int)=((j+(mE (ia i s (upto i) j).1 ((i-j:Nat):Int)).toNat:Nat):Int):=ii
   have d:j+(mE (ia i s (upto i) j).1 ((i-j:Nat):Int)).toNat<(ia i s (upto i) j).2.length:=ii
   rw[G];have m:=l.seq 1 hZ λ_=>rfl;refine m.bo _ hZ d _ hZ ?_;refine m.bo j hZ ii _ hZ ?_;refine l.set ae 1 hZ (λ_=>rfl) hZ j hZ ii _ hZ hZ hZ λH z=>⟨x7,?_⟩
   refine z.set ae 1 hZ (λ_=>rfl) hZ _ hZ (by simpa using d) _ hZ hZ hZ λS K=>⟨x7,?_⟩
   refine⟨j+1,hZ,⟨ii,?_⟩,ii⟩;rw[ia,sA,lK,lK,Qw.getD_lt d,Qw.getD_lt (show j<(ia i s (upto i) j).2.length by omega)];exact K
  .have y:j=k:=ii
   subst y;refine⟨⟨ii,ii⟩,?_⟩;have D:=f.seq 1 hZ λ_=>rfl;refine(ij ⟨v.ptr,j,v.cap⟩ ((ia i s (upto i) j).2.take j) h3 (D.take j ii) o0).mono ?_;rintro w E ⟨r,rfl,l⟩;refine⟨r,hZ,?_⟩;refine(EN r _ E (l.own 0 hZ) o0).xc λH ⟨t,A⟩=>?_;have z:=(f.comp l).nG 2 hZ A t;exact⟨(),hZ,r,hZ,z.del 1⟩
theorem AN(p:Pm)(seed id:Int)(h:f7):ai xT 152 #[kb p,xJ xR seed,xJ xP id] h λv h'=>∃r:Sl,v=r/\Sp h h' [an 3 r 1 aw (if bK p&&bW id then dz (bG p).toNat seed id else[])]:=by
 refine ts Tryz.func152 ?_ (v7 (ws [] [(6,7),(10,21)] u9)) (args:=[p,(xJ xR (seed:Int)),(id:Int)]);refine(Sp.refl h).boxed λa z D=>?_;refine aG ?_;refine⟨p,(D.box 0 hZ).aA _ hZ,(eE p z).mono ?_⟩;rintro v j ⟨rfl,M⟩;have g:=D.comp M;have m:(bK p&&bW id)=eH->Sp h j [an 3 ⟨et,0,0⟩ 1 aw (if bK p&&bW id then dz (bG p).toNat seed id else[])]:=λG=>by
  rw[G];exact(g.nil 3 1 aw).take 1 (λi A f=>by cases i with|zero=>exact f|succ i=>simp at f)
 refine⟨_,hZ,aW (λe=>⟨⟨et,0,0⟩,hZ,m n4⟩) λo=>?_⟩;refine af (λe=>⟨⟨et,0,0⟩,hZ,m l0⟩) λU=>?_;refine af (λe=>⟨⟨et,0,0⟩,hZ,m l0⟩) λe2=>?_;have hid:bW id=ez:=l0
 rw[o,hid];refine⟨p,(g.box 0 hZ).aA _ hZ,(kJ p j).mono ?_⟩;rintro v h3 ⟨rfl,P⟩;have K:=g.comp P;have Q:=(bP p).1 o;have T:bG p=p.1+p.2.1:=by rw[bG,f8 o]
 obtain⟨n,I⟩:∃n:Nat,bG p=n:=⟨(bG p).toNat,ii⟩
 refine⟨_,hZ,?_⟩
 try dsimp only
 rw[I,qj];refine(Ni _ h3).mono ?_;rintro v L ⟨d,rfl,B⟩;refine⟨dB d,hZ,?_⟩;refine(BW d _ L (B.box 0 hZ)).mono ?_;rintro v H ⟨rfl,w,x⟩;have E:=B.um 0 hZ x w;refine⟨_,hZ,?_⟩;refine(VK n H ii ii).mono ?_;rintro v N ⟨t,rfl,k⟩;have c:=E.comp k;refine⟨t,hZ,?_⟩;have y:∀b,t.on b->b≠d.block:=λb u V=>by
  have z:=(k.fresh 0 hZ).2 b u;have j:=(E.box 0 hZ).lt;omega
 refine(Gx t n d _ N ((k.own 0 hZ).seq (λ_=>rfl) y) (c.box 0 hZ) ii ii).mono ?_;rintro v O ⟨rfl,l,s⟩;have F:=c.um 0 hZ s l;refine⟨_,hZ,?_⟩;refine(YM d _ n _ O (F.box 0 hZ) ii (uL _ n ii ii)).x0 λr h8 S=>?_;have R:=F.call 0 hZ (λb=>b=d.block) (λq J b u=>by rw[u];exact J.2) S;exact⟨r,hZ,r,hZ,((K.comp R).take 3 λi A f=>by cases i with|zero=>exact f|succ i=>simp at f)⟩
end Go.Qw
