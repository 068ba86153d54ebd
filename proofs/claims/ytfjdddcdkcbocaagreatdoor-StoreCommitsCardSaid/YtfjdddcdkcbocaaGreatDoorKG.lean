/- Lemmas for the proof of the law; no condition. -/
import Derived.Test.YtfjdddcdkcbocaaGreatDoorKF
set_option maxHeartbeats 2000000
set_option linter.unusedVariables false
set_option maxHeartbeats 8000000
set_option linter.unusedSimpArgs false
open Go.Proofs.Tryz renaming prog -> xZ
open Go.Value renaming agg -> xU, bool -> xT, int -> xP, pointer -> xR, slice -> xQ, string -> xS
open Go.IntKind renaming bits -> qx, i64 -> xV, signed -> yG, u32 -> xX, u8 -> xW, wrap -> qe
open Nat renaming beq -> wv, eq_of_beq_eq_true -> zy, not_lt_zero -> xC
open List renaming drop -> wW, map_set -> xM, range -> qz, replicate -> qi, take -> yy
open Int renaming fdiv -> zr, tdiv -> yD
open Go.Builtin renaming append_ -> zb
open Go.Instr renaming buildSlice -> zJ, storeAt -> qL
open Prod renaming fst -> qF, snd -> zk
set_option maxRecDepth 100000
open Option renaming some -> cO, none -> dB
open Bool renaming true -> eH, false -> eL
open Go renaming Addr -> fY
open Go.Qw renaming cellOf -> hU, Heap -> hY
open List renaming length -> n1
open Go.Qw.cT renaming two -> E8, n -> E9, inn -> F8, loop -> G0, join -> G6, tn -> G7, lp -> Hf, jn -> HF
namespace Go.Qw
open Go.Proofs
section
theorem Has.sub{b:aG}{S a:aD}(F:Has b S)(h:∀k∈a,k∈S):Has b a:=⟨F.1,λk c=>F.2 k (h k c)⟩
theorem Has.lay{S:aD}{a:aG}(F:Has a S)(P:List (Int×aS))(w:Pow):Has (layAll P w a).2.2 S:=by
 have b:∀(P:List (Int×aS)) {a:aG} (w:Pow),Has a S->Has (fU P w a).2.2 S:=by
  intro P
  induction P with
  |nil=>intro a w F;exact F
  |cons y P ih=>
   intro a w F;rw[lh];split
   .exact ih _ (F.append w y.1 y.2)
   .exact F.append w y.1 y.2
 have c:∀(l:aD) {a:aG} (w:Pow),Has a S->Has (iR l w a).2.2 S:=by
  intro l
  induction l with
  |nil=>intro a w F;exact F
  |cons y l ih=>
   intro a w F;rw[mT];split
   .exact ih _ (F.sync w y)
   .exact F.sync w y
 unfold layAll
 try dsimp only
 split
 .exact c _ _ (b P w F)
 .exact b P w F
variable {B:au} {h0 h:hY} {As:List HP} {a pw:fY} {offs:Int} {da:List bK} {w:Pow} {ds:aG}
theorem PC(x:aY)(m:aA)(c:ByteArray)(s:Sl)(b:aS)(hS:St B h0 As λh=>Rd h s 1 ar b)(it:s.len<=s.cap)(hn:c.size<=2^40)(hm:bH m=eH)(l2:n1 b<=2^20)
  (H:aa B h0 h (aJ bD a pw (az x) offs da w ds::be x m::As)):
  an xZ 30 #[xR (cO a),xS c,s] h λv h'=>v=xP xV (eM m offs w ds c b).1/\
   ∃y,aa B h0 h' (aJ bD a pw (az y) offs da (eM m offs w ds c b).2.2.1 (eM m offs w ds c b).2.2.2::be y (eM m offs w ds c b).2.1::As):=by
 refine ts Tryz.func30 ?_ (G7 (G7 (G7 (E8 (G6 [] [(6,7),(35,86)] (F8 (G7 (G7 (G7 (G7 (G7 (G7 (HF [(47,mH)] [(47,66)] E9))))))))) (G7 (G7 (G7 (G7 (E8 (G7 (F8 (G0 [(11,bN),(102,aH)] [(6,7),(11,12),(13,23),(102,180)] (G7 (G7 (E8 (F8 (G7 (G7 (E8 (G6 [(15,aH)] [(15,16),(107,120)] (F8 (G0 [(15,aH)] [(15,16),(107,120)] (HF [] [(107,118)] E9)))) (G7 (G7 (G7 (G7 (G7 (G7 (F8 (G0 [(11,bN),(20,aH)] [(11,12),(20,23),(143,179)] (G7 (E8 (F8 (G7 (HF [(22,(.sc .adr))] [(22,23),(158,167)] E9))) E9)))))))))))))) E9)))))) (G7 (G7 (G7 (E8 (G6 [(24,aH)] [(24,25),(186,203)] (F8 (G0 [(24,aH)] [(24,25),(186,203)] (HF [] [(186,201)] E9)))) (HF [] [(203,217)] (E8 (G7 (F8 (G0 [(219,aH)] [(26,27),(219,233)] E9))) (G7 (G7 (HF [(27,aH)] [(27,28),(242,247)] (HF [(27,aH)] [(27,28),(247,253)] (HF [] [(253,259)] E9)))))))))))))))))))) [(33,(.y [0,1,2,3,4,5,6] (.l [7,8,9,10]) (.l [9,7,8,10]))),(42,(.y [0,1,2,3,5,7,8,9,10] (.l [4,6,11,12,13,14]) (.y [6] (.l [4,11,12,13,14]) (.l [11,4,12,13,14]))))];have hz:=iO hm;have j6:=gJ hm;have fs:∀y∈m.drives,0<=y/\y<64:=gT hm;obtain⟨g1,g2,hp,g4⟩:=(fR m).1 ((ck m).1 hm).1;have k5:=(bL m.p).1 hp;obtain⟨s1,s2,s3⟩:=ic hp;have i1:=(hS.at [_,_] H).len;have hc:=(aa.cK H).2;have hx:cj h x m:=H.at 1 n2;have g9:(x.2.2.1,x.2.2.2.1,x.2.2.2.2.1)=m.p:=hx.p;have cp:∀{h':hY},bR h' a 40 (dh (az x) pw offs da)->bA h' (a.add 2) 0 [xP xV m.p.1,xP xV m.p.2.1,xP xV m.p.2.2]:=λ{h'} hb=>by
  rw[<-g9];exact⟨o5,o5,o5,I4⟩
 refine⟨a,n2,m.p,cp hc,H.alloc af n2 λa3 h1 H1=>?_⟩;have H1:=H1.bf;refine H1.storeAll af 0 n2 n2 [xP xV m.p.1,xP xV m.p.2.1,xP xV m.p.2.2] n2 n2 n2 n2 λh2 H2=>?_;have H2:=H2.aF 3 [1,2,0];refine(mv x m (H2.at 1 n2) hz fs H2).I2 λU h3 R3=>?_;obtain⟨live,J⟩:=I3 (bn ds m.drives)
 rw[<-J]at R3;have ln:n1 live<=64:=by rw[J];exact q7 (qO _ _) j6
 have W:∀k∈live,0<=k/\k<64:=λk hk=>by rw[J]at hk;exact fs k (qN.1 hk).1
 have c8:live.Nodup:=by rw[J];exact TC hm ds
 have H3:=(H2.bV R3).aF 4 [1,2,3,0];have c4:=(H3.own 3 n2).len;refine⟨U,n2,?_⟩;have ap:∀{h':hY} {Bs:List HP} {e:Int},aa B h0 h' (aJ bD a pw (az x) offs da w ds::be x m::aj a3 24 [xP xV m.p.1,xP xV m.p.2.1,xP xV m.p.2.2]::ai 3 U 1 aq live::As)->eM m offs w ds c b=(e,m,w,ds)->(Value.int .i64 e=xP xV (eM m offs w ds c b).1/\
   ∃y,aa B h0 h' (aJ bD a pw (az y) offs da (eM m offs w ds c b).2.2.1 (eM m offs w ds c b).2.2.2::be y (eM m offs w ds c b).2.1::As)):=λ{h' Bs e} H' he=>by
  rw[he];exact⟨n2,x,H'.aF 4 [0,1]⟩
 have a0:∀{e:Int},e≠0->dR m (gO w offs) ds c b.length=e->eM m offs w ds c b=(e,m,w,ds):=λ{e} h0 he=>by
  unfold eM;rw[he,l0 h0]
 refine bj (λ(_:Unit) h'=>dR m (gO w offs) ds c b.length=0/\aa B h0 h' (aJ bD a pw (az x) offs da w ds::be x m::aj a3 24 [xP xV m.p.1,xP xV m.p.2.1,xP xV m.p.2.2]::ai 3 U 1 aq live::As)) ?_ ?_
 .refine(io H3).I0 ⟨_,n2,aU (λe=>ap (Bs:=[]) H3 (a0 n4 (by unfold dR;rw[l0 e]))) λe1=>?_⟩;refine(Hq c _ hn).I0 ⟨_,n2,aI (λe=>ap (Bs:=[]) H3 (a0 n4 (by unfold dR;rw[m6 o7,l0 A1]))) λe2=>?_⟩;refine(sO x m c (H3.at 1 n2) hz H3).I1 λh4 R4=>?_;have H4:=H3.up R4.ac;refine⟨_,n2,?_⟩;by_cases ah:m.objs.any (dH c)=eH
  .rw[l0 ah];exact ae (λ_=>ap (Bs:=[]) H4 (a0 n4 (by unfold dR;rw[m6 o7,m6 D1,l0 ah]))) λe=>absurd (zi _) e
  rw[m6 ah];refine ae (λe=>absurd e n4) λ_=>?_;have i7:x.2.2.2.2.2.2.2.len=n1 m.objs:=bW.len hx.objs;refine bj (λ(t:Bool) h'=>t=decide (m.p.1*m.p.2.2*8<(n1 b:Int)∨12<=n1 m.objs)/\aa B h0 h' (aJ bD a pw (az x) offs da w ds::be x m::aj a3 24 [xP xV m.p.1,xP xV m.p.2.1,xP xV m.p.2.2]::ai 3 U 1 aq live::As)) ?_ ?_
  .refine⟨m.p.1,(H4.box 2 n2).cell0 n2,m.p.2.2,(H4.box 2 n2).cell n2,?_⟩
   try dsimp only
   rw[<-s3,ag (cQ m.p:Int),ag ((cQ m.p:Int)*8)];refine ae (λe=>⟨(m9 (.inl n3)).symm,H4⟩) λe=>⟨a,n2,x.2.2.2.2.2.2.2,(aa.cK H4).2.cell n2,?_,H4⟩
   rw[decide_eq_decide];omega
  rintro t h7 ⟨rfl,H7⟩;refine aU (λe=>ap (Bs:=[]) H7 (a0 n4 (by unfold dR;rw[m6 o7,m6 D1,m6 ah,l0 (nq e)]))) λe5=>?_;have e5:=of_decide_eq_false e5;have b2:(bn ds m.drives=[]∨16777215<m.next∨2147483647<=m.seq)->dR m (gO w offs) ds c b.length=7:=λhh=>by unfold dR;rw[m6 o7,m6 D1,m6 ah,m6 e5,l0 hh]
  have O:=(aa.cK H7).2;refine aV (λe=>ap (Bs:=[]) H7 (a0 n4 (b2 (.inl (by rw[<-J];exact List.length_eq_zero_iff.1 n3))))) λe6=>?_;refine⟨a,n2,x.2.1,O.cell n2,?_⟩;rw[hx.next];refine ae (λe=>ap (Bs:=[]) H7 (a0 n4 (b2 (.inr (.inl n3))))) λe7=>?_;refine⟨a,n2,x.1,O.cell0 n2,?_⟩;rw[hx.seq];refine aV (λe=>ap (Bs:=[]) H7 (a0 n4 (b2 (.inr (.inr n3))))) λe8=>?_;refine⟨?_,H7⟩;unfold dR;rw[m6 o7,m6 D1,m6 ah,m6 e5,m6];rintro(h|h|h)
  .rw[<-J]at h;rw[h]at c4;exact e6 (by rw[c4];rfl)
  .omega
  .omega
 rintro _ h8 ⟨hr,H8⟩;obtain⟨z1,z2,z3,z4,z5⟩:=uj hr;have ix:¬m.p.1*m.p.2.2*8<(n1 b:Int):=λh=>z4 (.inl h);have l9:n1 m.objs<=11:=by have:¬12<=n1 m.objs:=λh=>z4 (.inr h);omega
 have f0:live≠[]:=λh=>z5 (.inl (by rw[<-J];exact h));have gi:m.next<=16777215:=by have:¬16777215<m.next:=λh=>z5 (.inr (.inl h));omega
 have l1:m.seq<=2147483646:=by have:¬2147483647<=m.seq:=λh=>z5 (.inr (.inr h));omega
 have l5:c.size<=12:=by unfold gB at z2;simp at z2;omega
 have d8:=Qx hp ix;have d0:∀{e:Int×aA×Pow×aG},(match cV m.p m.next (splitB m.p b).length with
   |none=>(8,m,w,ds)
   |some t=>
    let live:=bn ds m.drives;let l:=dz m m.next t (splitB m.p b) live (splitB m.p b).length;let n:=nH m ⟨c,m.next,n1 b,t⟩;let N:=cl (bI n).length l
    if iu m ds live N=eL then(7,m,w,ds)else
    if(makes m N live w ds).1≠0 then((makes m N live w ds).1,m,(makes m N live w ds).2)else
    let r2:=layAll l (makes m N live w ds).2.1 (makes m N live w ds).2.2
    if r2.1≠0 then(r2.1,m,r2.2)else
    ((layAll (bo n live) r2.2.1 r2.2.2).1,if(layAll (bo n live) r2.2.1 r2.2.2).1=0 then n else m,(layAll (bo n live) r2.2.1 r2.2.2).2))=e->eM m offs w ds c b=e:=λ{e} he=>by
  unfold eM;rw[m6 (by rw[hr];decide)];exact he
 obtain⟨bl,a6⟩:=I3 (splitB m.p b)
 have dd:∀r∈bl,n1 r=cQ m.p:=by rw[a6];intro r hr;unfold splitB at hr;obtain⟨i,_,rfl⟩:=qI.1 hr;exact JP _ _ _
 rw[<-a6]at d8 d0;refine⟨a,n2,x.2.1,(aa.cK H8).2.cell n2,H8.alloc af n2 λI h9 H9=>?_⟩;have H9:=H9.bf;refine H9.storeAll af 0 n2 n2 (aT (c,x.2.1,(s.len:Int),⟨dB,0,0⟩)) n2 n2 n2 n2 λfq bd=>?_;have bd:aa B h0 fq (aj I 59 (aT (c,m.next,(n1 b:Int),⟨dB,0,0⟩))::aJ bD a pw (az x) offs da w ds::be x m::aj a3 24 [xP xV m.p.1,xP xV m.p.2.1,xP xV m.p.2.2]::ai 3 U 1 aq live::As):=by rw[<-hx.next,<-i1];exact bd
 have bd:=bd.aF 5 [1,2,3,4,0];rw[hx.next];refine(HQ U live 0 fq (bd.seq 3 n2 λ_=>rfl) n3 W).I1 λm5 h6=>?_;rw[Wj];refine⟨dw [],n2,(bd.up h6.ac).alloc af n2 λa22 l8 eg=>?_⟩;have eg:=eg.bf;refine eg.storeAll af 0 n2 n2 (dm (dw [])) n2 (by rw[qp,iy]) (by unfold dm;rw[List.all_map];exact qU.2 λx _=>rfl) (by rw[qp,iy];rfl) λhu b6=>?_;have b6:=b6.aF 6 [1,2,3,4,5,0];refine⟨m.p,(b6.box 2 n2).aw _ n2,(NW m.p s b hu hp (hS.at [_,_,_,_,_,_] b6) it n3).I2 λq mn ek=>?_⟩;rw[<-a6]at ek;obtain⟨rs,a5⟩:=aa.GU (b6.bV ek) λ_=>rfl;have a5:=(((a5.Ix 146 2 piv dZ).bf).nil 3 1 aq).bf;have k8:=(a5.dv 2 n2).1.len;have m7:=(a5.dv 2 n2).2.1;refine⟨q,n2,?_⟩;have a5:=a5.aF 9 [3,4,5,6,7,0,8,2,1];refine ak (λt:Sl×Nat×aD×Sl=>(t.1,(t.2.1:Int))) (λt h'=>t.2.1<=n1 bl/\cV m.p m.next t.2.1=cO t.2.2.1/\aa B h0 h' (aJ bD a pw (az x) offs da w ds::be x m::aj a3 24 [xP xV m.p.1,xP xV m.p.2.1,xP xV m.p.2.2]::ai 3 U 1 aq live::aj I 59 (aT (c,m.next,(n1 b:Int),t.2.2.2))::ai 3 t.2.2.2 1 aq (t.2.2.1)::aj a22 104 (dm (dw (dz m m.next t.2.2.1 bl live t.2.1)))::cy (ga 1 ar) 1 bv q rs bl::db 146 t.1 2 piv dZ (dz m m.next t.2.2.1 bl live t.2.1)::As)) (λt=>n1 bl-t.2.1) (⟨dB,0,0⟩,0,[],⟨dB,0,0⟩) n2 ⟨qT _,n2,a5⟩ ?_;rintro⟨o,i,T,tr⟩ lf ⟨hi,hT,ab⟩;dsimp only at hi hT ab⊢;have fa:=kC hT;refine ae (λe=>?_) λe=>?_
 rotate_left
 .have ea:i=n1 bl:=n3
  rw[ea]at hT ab;obtain⟨P,hP⟩:=I3 (dz m m.next T bl live bl.length)
  rw[<-hP]at ab;obtain⟨pc,ab⟩:=ab.Fw 8 rfl λ_=>rfl;obtain⟨E,hE⟩:∃E:Qw.cS,E=⟨c,m.next,n1 b,T⟩:=⟨_,rfl⟩
  obtain⟨n,b7⟩:=I3 (nH m E)
  obtain⟨F,ec⟩:=I3 ((bI n).length)
  have f7:=nf (m:=n);rw[<-ec]at f7;have im:bH n=eH:=by rw[b7,hE];exact Nn hm hr (by rw[<-a6];exact hT)
  have ew:=iO im;have k1:n1 T=n1 bl:=kC hT;have i5:n1 P<=8*32:=by rw[hP,mO];exact zu n3 n3
  have f1:∀{e:Int×aA×Pow×aG},(
    if iu m ds live (cl F P)=eL then(7,m,w,ds)else
    if(makes m (cl F P) live w ds).1≠0 then((makes m (cl F P) live w ds).1,m,(makes m (cl F P) live w ds).2)else
    if(layAll P (makes m (cl F P) live w ds).2.1 (makes m (cl F P) live w ds).2.2).1≠0 then((layAll P (makes m (cl F P) live w ds).2.1 (makes m (cl F P) live w ds).2.2).1,m,(layAll P (makes m (cl F P) live w ds).2.1 (makes m (cl F P) live w ds).2.2).2)else
    ((layAll (bo n live) (layAll P (makes m (cl F P) live w ds).2.1 (makes m (cl F P) live w ds).2.2).2.1 (layAll P (makes m (cl F P) live w ds).2.1 (makes m (cl F P) live w ds).2.2).2.2).1,if(layAll (bo n live) (layAll P (makes m (cl F P) live w ds).2.1 (makes m (cl F P) live w ds).2.2).2.1 (layAll P (makes m (cl F P) live w ds).2.1 (makes m (cl F P) live w ds).2.2).2.2).1=0 then n else m,(layAll (bo n live) (layAll P (makes m (cl F P) live w ds).2.1 (makes m (cl F P) live w ds).2.2).2.1 (layAll P (makes m (cl F P) live w ds).2.1 (makes m (cl F P) live w ds).2.2).2.2).2))=e->eM m offs w ds c b=e:=λ{e} he=>by
   refine d0 ?_;rw[hT];rw[ec,b7,hE,hP,J]at he;exact he
  refine(HU x m (ab.at 1 n2) hz n3 ab).I2 λy l4 i3=>⟨y,n2,(ab.bV i3).alloc af n2 λM k7 dr=>?_⟩;have dr:=dr.bf;refine dr.storeAll af 0 n2 n2 (az y) n2 n2 n2 n2 λi8 du=>?_;have g5:cj i8 y (fJ m):=du.at 1 n2;refine⟨y.2.1,(du.box 0 n2).cell n2,?_⟩;have hd:y.2.1=m.next:=g5.next
  try dsimp only
  rw[hd,ag (m.next+1)];refine du.store af 0 n2 n2 1 [xP xV (m.next+1)] n2 n2 n2 o8 λcq d4=>?_;obtain⟨S,a4⟩:∃S:Sl->aY,S=λo=>(y.1,m.next+1,y.2.2.1,y.2.2.2.1,y.2.2.2.2.1,y.2.2.2.2.2.1,y.2.2.2.2.2.2.1,o):=⟨_,rfl⟩
  obtain⟨L,d3⟩:=I3 y.2.2.2.2.2.2.2
  have d4:aa B h0 cq (aj M 27 (az (S L))::be y (fJ m)::aJ bD a pw (az x) offs da w ds::be x m::aj a3 24 [xP xV m.p.1,xP xV m.p.2.1,xP xV m.p.2.2]::ai 3 U 1 aq live::aj I 59 (aT (c,m.next,(n1 b:Int),tr))::ai 3 tr 1 aq (T)::aj a22 104 (dm (dw (P)))::cy (ga 1 ar) 1 bv q rs bl::cy dZ 2 piv o pc P::As):=by rw[a4,d3];exact d4
  obtain⟨ys,al⟩:=aa.Wf (d4.aF 2 [1,0]);have hF:∀{h':hY} {Bs:List HP},aa B h0 h' (pW y (fJ m) ys::Bs)->gA eC 4 aT h' L ys m.objs:=λ{h' Bs} H=>by rw[d3];exact(H.at 0 rfl:kX h' _ y (fJ m)/\Fix eC 4 aT h' _ y.2.2.2.2.2.2.2 ys (fJ m).objs).2
  have f3:n1 ys=n1 m.objs:=(hF al).2.1;have i7:L.len=n1 ys:=(hF al).1.len;have jp:L.len<=L.cap:=by rw[d3];exact(al.at 0 rfl:kX cq _ y (fJ m)/\Fix eC 4 aT cq _ y.2.2.2.2.2.2.2 ys (fJ m).objs).1.ocap
  have O:∀{h':hY} {Bs:List HP},aa B h0 h' (pW y (fJ m) ys::aj M 27 (az (S L))::Bs)->hU h' (M.add 7)=cO (xQ L.ptr L.len L.cap):=λH=>(H.box 1 n2).cell (by rw[a4];rfl);refine bj (λ(t:Int) h'=>∃k:Nat,t=k/\k<=n1 m.objs/\(∀e∈m.objs.take k,cU e.name c=eH)/\(∀hk:k<n1 m.objs,cU m.objs[k].name c=eL)/\aa B h0 h' (pW y (fJ m) ys::aj M 27 (az (S L))::aJ bD a pw (az x) offs da w ds::be x m::aj a3 24 [xP xV m.p.1,xP xV m.p.2.1,xP xV m.p.2.2]::ai 3 U 1 aq live::aj I 59 (aT (c,m.next,(n1 b:Int),tr))::ai 3 tr 1 aq (T)::aj a22 104 (dm (dw (P)))::cy (ga 1 ar) 1 bv q rs bl::cy dZ 2 piv o pc P::As)) ?_ ?_
  .refine ak (λk:Nat=>(k:Int)) (λk h'=>k<=n1 m.objs/\(∀e∈m.objs.take k,cU e.name c=eH)/\h'=cq) (λk=>n1 m.objs-k) 0 n2 ⟨qT _,λe he=>(by simp at he),n2⟩ ?_;rintro k k0 ⟨hk,V,rfl⟩
   try dsimp only
   refine aE ⟨L,O al,ae (λe2=>?_) λe2=>⟨k,n2,hk,V,λb3=>absurd b3 n3,al⟩⟩;have b3:k<n1 m.objs:=n3
   obtain⟨gs,ha,zz,hc,rfl⟩:=(hF al).1.cH (g:=aT) (i:=(k:Int)) k rfl n3 (ys[k]'n3) rfl (K:=λt=>t=ys[k]'n3) rfl;have q0:hU k0 (gs.add ((k:Int).toNat*4))=cO (xS m.objs[k].name):=by rw[<-(Fix.row (hF al) b3).1.1];exact hc.1
   refine⟨L,O al,gs,ha,m.objs[k].name,q0,aU (λe3=>⟨k+1,oi,⟨b3,λe he=>?_,n2⟩,n3⟩) λe3=>⟨k,n2,hk,V,λ_=>e3,al⟩⟩;rw[aC _ _ b3,qu,qA]at he;rcases he with he|rfl
   .exact V e he
   .exact e3
  rintro t m0 ⟨k,rfl,hk,V,e9,a2⟩;have c5:n.objs=m.objs.take k++E::m.objs.drop k:=by rw[b7];refine YD ((ck m).1 hm).2.2.2.2.2.1 (by rw[hE];exact Ke z3) hk (by rw[hE];exact V) (by rw[hE];exact e9)
  obtain⟨xe,d1⟩:∃xe:dg,xe=(c,m.next,(n1 b:Int),tr):=⟨_,rfl⟩
  refine bj (λ(_:Unit) h'=>∃r:Sl,aa B h0 h' (aj M 27 (az (S r))::be (S r) n::aJ bD a pw (az x) offs da w ds::be x m::ai 3 U 1 aq live::aj a22 104 (dm (dw P))::cy dZ 2 piv o pc P::As)) ?_ ?_
  .have b4:∀{h':hY},bR h' I 59 (aT (c,m.next,(n1 b:Int),tr))->bA h' I 0 (aT xe):=λ{h'} hb=>by rw[d1];exact hb.aw _ n2
   have j1:∀{h':hY},hU h' (M.add 7)=cO (xQ L.ptr L.len L.cap)->bR h' I 59 (aT (c,m.next,(n1 b:Int),tr))->bF.ok [(M.add 7,xQ L.ptr L.len L.cap),(I,xS xe.1),(I.add 1,xP xV xe.2.1),(I.add 2,xP xV xe.2.2.1),(I.add 3,xQ xe.2.2.2.ptr xe.2.2.2.len xe.2.2.2.cap)] h':=λ{h'} h7 hb=>by
    rw[d1];exact⟨h7,hb.cell0 n2,hb.cell n2,hb.cell n2,hb.cell n2,I4⟩
   refine⟨L,O a2,xe,b4 (a2.box 6 n2),L,O a2,⟨zi _,n3⟩,?_⟩;rw[qj];have hv:k<=n1 ys:=n3
   have fin:∀{h':hY} (v:Sl),aa B h0 h' (ai 59 v 4 aT ([xe]++ys.drop k)::pW y (fJ m) ys::aj M 27 (az (S L))::aJ bD a pw (az x) offs da w ds::be x m::aj a3 24 [xP xV m.p.1,xP xV m.p.2.1,xP xV m.p.2.2]::ai 3 U 1 aq live::aj I 59 (aT (c,m.next,(n1 b:Int),tr))::ai 3 tr 1 aq (T)::aj a22 104 (dm (dw (P)))::cy (ga 1 ar) 1 bv q rs bl::cy dZ 2 piv o pc P::As)->
     bC xZ (zb #[25,25] 25 #[xQ L.ptr k k,v]) (.one (.sc .slc)) h' λv2 h2=>(bF.ok [(M.add 7,xQ L.ptr L.len L.cap)] h2)/\av xZ (qL 25 (xR (cO (M.add 7))) (xQ v2.ptr v2.len v2.cap)) h2 λ_ h3=>(bF.ok [] h3)/\∃r:Sl,aa B h0 h3 (aj M 27 (az (S r))::be (S r) n::aJ bD a pw (az x) offs da w ds::be x m::ai 3 U 1 aq live::aj a22 104 (dm (dw P))::cy dZ 2 piv o pc P::As):=λ{h'} v H=>by
    have ho:=(H.own 0 n2).len;have ht:=(hF (H.aF 2 [1,0])).1.take k hv;rw[qq,List.length_singleton]at ho;refine H.Ep (s:=⟨L.ptr,k,k⟩) af kQ ⟨_,_,n2,n2⟩ n2 n4 (λ_=>rfl) ⟨ht.len,ht.elem⟩ (qk _) n5 (H.seq 0 n2 λ_=>rfl) n7 λr h2 H2=>?_;have H2:=H2.bf;refine⟨⟨O (H2.aF 4 [2,3]),I4⟩,H2.store af 3 n2 n2 7 [r] n2 n2 n2 (by rw[a4];simp[Value.cells]) λh3 H3=>⟨I4,r,?_⟩⟩;have eq:(az (S L)).take 7++([r]:aR)++(az (S L)).drop (7+1)=az (S r):=by rw[a4];rfl
    have H4:aa B h0 h3 (ai 59 r 4 aT (ys.take k++([xe]++ys.drop k))::ai 59 v 4 aT ([xe]++ys.drop k)::pW y (fJ m) ys::aj M 27 (az (S r))::aJ bD a pw (az x) offs da w ds::be x m::aj a3 24 [xP xV m.p.1,xP xV m.p.2.1,xP xV m.p.2.2]::ai 3 U 1 aq live::aj I 59 (aT (c,m.next,(n1 b:Int),tr))::ai 3 tr 1 aq (T)::aj a22 104 (dm (dw (P)))::cy (ga 1 ar) 1 bv q rs bl::cy dZ 2 piv o pc P::As):=by rw[<-eq];exact H3
    have H5:=H4.dG 9 n2 (D:=Tw [(xe,E)]) λz hz t ht=>by
     rw[qA.1 ht,d1,hE];exact⟨⟨n2,n2,n2⟩,hz.1.seq (λ_=>rfl) hz.2⟩
    have H6:=H5.aF 13 [2,0,9,3,4,5,7,10,12];have br:=(H6.at 0 rfl:kX h3 _ y (fJ m)/\Fix eC 4 aT h3 _ y.2.2.2.2.2.2.2 ys (fJ m).objs).1;refine(aa.Wg (x:=y) (m:=fJ m) (x2:=S r) (m2:=n) (by rw[a4,b7];exact⟨br.seq,n2,br.p,br.extra⟩) (by rw[a4]) (by rw[b7];rfl) (by rw[a4]) (by rw[c5];simp[f3]) (λp hp=>?_) H6).aF 2 [1,0];rw[c5,List.zip_append (by simp[f3])]at hp;show p∈ys.zip m.objs∨_;rw[<-List.take_append_drop k (ys.zip m.objs)];rcases qu.1 hp with hp|hp
    .exact .inl (List.mem_append_left _ (by rw[List.zip,List.take_zipWith];exact hp))
    .rw[List.singleton_append,List.zip_cons_cons]at hp;rcases qQ.1 hp with hp|hp
     .exact .inr (by rw[hp];simp)
     .exact .inl (List.mem_append_right _ (by rw[List.zip,List.drop_zipWith];exact hp))
   have app:∀{h':hY} {v:Sl} {K:Sl->hY->Prop},aa B h0 h' (ai 59 v 4 aT [xe]::pW y (fJ m) ys::aj M 27 (az (S L))::aJ bD a pw (az x) offs da w ds::be x m::aj a3 24 [xP xV m.p.1,xP xV m.p.2.1,xP xV m.p.2.2]::ai 3 U 1 aq live::aj I 59 (aT (c,m.next,(n1 b:Int),tr))::ai 3 tr 1 aq (T)::aj a22 104 (dm (dw (P)))::cy (ga 1 ar) 1 bv q rs bl::cy dZ 2 piv o pc P::As)->(∀v' ci,aa B h0 ci (ai 59 v' 4 aT ([xe]++ys.drop k)::pW y (fJ m) ys::aj M 27 (az (S L))::aJ bD a pw (az x) offs da w ds::be x m::aj a3 24 [xP xV m.p.1,xP xV m.p.2.1,xP xV m.p.2.2]::ai 3 U 1 aq live::aj I 59 (aT (c,m.next,(n1 b:Int),tr))::ai 3 tr 1 aq (T)::aj a22 104 (dm (dw (P)))::cy (ga 1 ar) 1 bv q rs bl::cy dZ 2 piv o pc P::As)->K v' ci)->
     bC xZ (zb #[25,25] 25 #[v,.slice (if L.cap=k then L.ptr else L.ptr.map (·.add (k*4))) (L.len-k) (L.cap-k)]) (.one (.sc .slc)) h' K:=λ{h' v K} H hK=>
    H.append af 0 n2 kQ ⟨_,_,n2,n2⟩ n2 n4 (λ_=>rfl) ((hF (H.aF 2 [1,0])).1.drop k jp) ow n7 λv' ci H'=>hK v' ci H'
   refine⟨?_,?_⟩
   .refine hJ af kQ k n2 n2 n3 ⟨j1 (O a2) (a2.box 6 n2),?_⟩;refine a2.lit af aT kQ n2 [xe] n2 (show 1*4<=2^20 by decide) o0 λv l3 b9=>?_;have b9:=b9.bf;refine⟨⟨O (b9.aF 3 [1,2]),I4⟩,app b9 λv' ld f4=>⟨⟨O (f4.aF 3 [1,2]),I4⟩,fin v' f4⟩⟩
   .refine a2.lit af aT kQ n2 [xe] n2 (show 1*4<=2^20 by decide) o0 λv mx a1=>?_;have a1:=a1.bf;refine⟨⟨O (a1.aF 3 [1,2]),O (a1.aF 3 [1,2]),I4⟩,?_,?_⟩
    .refine hJ af kQ k n2 n2 n3 ⟨⟨O (a1.aF 3 [1,2]),I4⟩,?_⟩;exact app a1 λv' m8 gd=>⟨⟨O (gd.aF 3 [1,2]),I4⟩,fin v' gd⟩
    .refine app a1 λv' l7 cr=>⟨⟨O (cr.aF 3 [1,2]),O (cr.aF 3 [1,2]),I4⟩,?_⟩
     exact hJ af kQ k n2 n2 n3 ⟨⟨O (cr.aF 3 [1,2]),I4⟩,fin v' cr⟩
  rintro _ md ⟨r,hl⟩;have ei:∀{h':hY} {w':Pow} {ay:aG} {c1:aD},aa B h0 h' (aj M 27 (az (S r))::be (S r) n::aJ bD a pw (az x) offs da w' ay::be x m::ai 3 U 1 aq live::aj a22 104 (dm c1)::cy dZ 2 piv o pc P::As)->aa B h0 h' (aJ bD a pw (az x) offs da w' ay::be x m::ai 3 U 1 aq live::aj a22 104 (dm c1)::cy dZ 2 piv o pc P::aj M 27 (az (S r))::be (S r) n::As):=λH=>H.aF 7 [2,3,4,5,6,0,1];have g6:∀k:Int,((P.filter λy=>decide (y.1=k)).length:Int)<=256:=λk=>by
   have:=qO (λy:Int×aS=>decide (y.1=k)) P;omega
  refine ak (λj:Nat=>(j:Int)) (λj h'=>j<=n1 live/\aa B h0 h' (aj M 27 (az (S r))::be (S r) n::aJ bD a pw (az x) offs da w ds::be x m::ai 3 U 1 aq live::aj a22 104 (dm (pX (live.take j) (dw P) F))::cy dZ 2 piv o pc P::As)) (λj=>n1 live-j) 0 n2 ⟨qT _,hl⟩ ?_;rintro j i6 ⟨hj,R⟩
  try dsimp only
  refine ae (λe2=>?_) λe2=>?_
  .have cd:j<n1 live:=n3
   have X:=W _ (qf cd);obtain⟨Y,b1⟩:∃Y:Nat,live[j]=(Y:Int):=⟨live[j].toNat,n3⟩
   obtain⟨G,hG⟩:=I3 (pX (live.take j) (dw P) F)
   have ef:n1 G=64:=by rw[hG,Ga,iy]
   rw[<-hG]at R;have k6:G.getD Y 0<=256+9/\0<=G.getD Y 0:=by have h1:=Gb (F:Int) (l:=live.take j) (iy P) (c8.sublist (List.take_sublist _ _)) (λy hy=>W y (List.mem_of_mem_take hy)) (Y:Int) n3 n3;rw[<-hG,qj,rT P]at h1;have:=g6 Y;rw[h1];split<;>omega
   have ed:pX (live.take (j+1)) (dw P) F=G.set Y (G.getD Y 0+F):=by rw[aC _ _ cd,Wo,b1,qj,<-hG]
   refine(R.seq 4 n2 λ_=>rfl).aX j n2 cd live[j] n2 ?_;rw[b1]at X⊢;refine⟨⟨X.1,X.2⟩,G.getD Y 0,AJ ef n3 (R.box 5 n2),S r,(R.box 0 n2).aw _ n2,(mg (S r) n i6 (R.at 1 n2) ew).I2 λpg m4 fn=>?_⟩;have f9:=(aa.lI fn).1;have f6:=R.up fn.ac;refine⟨pg,n2,⟨AJ ef n3 (f6.box 5 n2),I4⟩,⟨X.1,X.2⟩,?_⟩;rw[qj,zM,f9,<-ec,ag _];refine f6.storeAt af 5 n2 n2 (off:=Y) n2 n2 n2 (by rw[qp,ef];omega) λb5 j0=>⟨I4,?_⟩
   refine⟨j+1,oi,⟨cd,?_⟩,n3⟩;have e4:dm (G.set Y (G.getD Y 0+F))=(dm G).set Y (xP xV (G.getD Y 0+F)):=by unfold dm;rw[xM]
   rw[ed,e4];exact j0
  have ih:j=n1 live:=n3
  rw[ih,qy]at R;obtain⟨NF,dy⟩:=I3 (pX live (dw P) F)
  have b5:n1 NF=64:=by rw[dy,Ga,iy]
  rw[<-dy]at R;have eo:∀k∈live,(λk:Int=>NF.getD k.toNat 0) k=cl F P k:=λk hk=>by
   have X:=W k hk;have h1:=Gb (F:Int) (l:=live) (iy P) c8 W k X.1 X.2;obtain⟨Y,rfl⟩:∃Y:Nat,k=(Y:Int):=⟨k.toNat,n3⟩
   try dsimp only
   rw[dy,h1,l0 hk,qj,rT P];unfold cl;omega
  have R:=ei R;have tX:∀{h':hY} {w':Pow} {ay:aG} {Bs:List HP},aa B h0 h' (aJ bD a pw (az x) offs da w' ay::be x m::ai 3 U 1 aq live::Bs)->Rd h' U 1 aq live:=λH=>H.seq 2 n2 λ_=>rfl;have out:∀{h':hY} {w':Pow} {ay:aG} {e:Int},aa B h0 h' (aJ bD a pw (az x) offs da w' ay::be x m::ai 3 U 1 aq live::aj a22 104 (dm NF)::cy dZ 2 piv o pc P::aj M 27 (az (S r))::be (S r) n::As)->eM m offs w ds c b=(e,m,w',ay)->(Value.int .i64 e=xP xV (eM m offs w ds c b).1/\
    ∃y,aa B h0 h' (aJ bD a pw (az y) offs da (eM m offs w ds c b).2.2.1 (eM m offs w ds c b).2.2.2::be y (eM m offs w ds c b).2.1::As)):=λ{h' w' ay e} H' he=>by
   rw[he];exact⟨n2,x,H'.aF 7 [0,1]⟩
  refine⟨NF,⟨b5,(R.box 3 n2).aw _ (qy ..)⟩,(Kp x m U live NF b5 (R.at 1 n2) hz (tX R) n3 W R).I1 λla g0=>?_⟩;have eh:=R.up g0.ac;rw[HV eo];refine⟨_,n2,aI (λg=>out eh (f1 (by rw[l0 g]))) λg=>?_⟩;refine⟨NF,⟨b5,(eh.box 3 n2).aw _ (qy ..)⟩,(HT x m U live NF b5 (St.and (St.dN 0 n2 λh' hq=>hq) (St.dN (A:=ai 3 U 1 aq live) 1 n2 λh' hq=>hq.1.seq (λ_=>rfl) hq.2)) hz n3 W eh).mono ?_⟩;rw[Ag eo];rintro _ lz ⟨rfl,d6⟩;have am:∀{e:Int×aA×Pow×aG},(
    if(makes m (cl F P) live w ds).1≠0 then((makes m (cl F P) live w ds).1,m,(makes m (cl F P) live w ds).2)else
    if(layAll P (makes m (cl F P) live w ds).2.1 (makes m (cl F P) live w ds).2.2).1≠0 then((layAll P (makes m (cl F P) live w ds).2.1 (makes m (cl F P) live w ds).2.2).1,m,(layAll P (makes m (cl F P) live w ds).2.1 (makes m (cl F P) live w ds).2.2).2)else
    ((layAll (bo n live) (layAll P (makes m (cl F P) live w ds).2.1 (makes m (cl F P) live w ds).2.2).2.1 (layAll P (makes m (cl F P) live w ds).2.1 (makes m (cl F P) live w ds).2.2).2.2).1,if(layAll (bo n live) (layAll P (makes m (cl F P) live w ds).2.1 (makes m (cl F P) live w ds).2.2).2.1 (layAll P (makes m (cl F P) live w ds).2.1 (makes m (cl F P) live w ds).2.2).2.2).1=0 then n else m,(layAll (bo n live) (layAll P (makes m (cl F P) live w ds).2.1 (makes m (cl F P) live w ds).2.2).2.1 (layAll P (makes m (cl F P) live w ds).2.1 (makes m (cl F P) live w ds).2.2).2.2).2))=e->eM m offs w ds c b=e:=λ{e} he=>f1 (by rw[m6 D7];exact he)
  obtain⟨m1,f8⟩:=I3 (makes m (cl F P) live w ds)
  rw[<-f8]at d6 am⊢;refine⟨_,n2,?_⟩;by_cases g1:m1.1=0
  rotate_left
  .refine aE (aV (λe=>absurd e g1) λ_=>aE (aV (λe=>absurd e g1) λ_=>aE (aV (λe=>absurd e g1) λ_=>out d6 (am (by rw[l0 g1])))))
  refine aE (aV (λ_=>?_) λe=>absurd g1 e);have c0:Has m1.2.2 live:=by rw[f8,J];exact Has.makes (Has.live (aa.cK R).1.ls)
  have c6:∀y∈P,y.1∈live/\y.2.length<=64:=λy hy=>by rw[hP]at hy;exact FU ⟨n3,gi⟩ f0 W d8 hy
  refine(Kc o pc P (St.dN (A:=cy dZ 2 piv o pc P) 3 n2 λh' hq=>hq) n3 (λy hy=>by have:=(c6 y hy).2;omega) (c0.sub λk hk=>by obtain⟨y,hy,rfl⟩:=qI.1 hk;exact(c6 y hy).1) d6).I1 λlk cs=>?_;obtain⟨m2,f5⟩:=I3 (layAll P m1.2.1 m1.2.2)
  rw[<-f5]at cs am⊢;rw[m6 (by rw[g1];decide)]at am;refine⟨_,n2,?_⟩;by_cases g2:m2.1=0
  rotate_left
  .refine aE (aV (λe=>absurd e g2) λ_=>aE (aV (λe=>absurd e g2) λ_=>out cs (am (by rw[l0 g2]))))
  refine aE (aV (λ_=>?_) λe=>absurd g2 e);have dk:Has m2.2.2 live:=by rw[f5];exact c0.lay P _
  refine⟨S r,(cs.box 5 n2).aw _ n2,(Ad (S r) n U live (St.and (St.dN (A:=be (S r) n) 5 n2 λh' hq=>hq) (St.dN (A:=ai 3 U 1 aq live) 1 n2 λh' hq=>hq.1.seq (λ_=>rfl) hq.2)) ew n3 dk cs).I1 λk4 cc=>?_⟩;obtain⟨m3,i0⟩:=I3 (layAll (bo n live) m2.2.1 m2.2.2)
  rw[<-i0]at cc am⊢;rw[m6 (by rw[g2];decide)]at am;refine⟨_,n2,?_⟩;by_cases g3:m3.1=0
  rotate_left
  .refine aE (aV (λe=>absurd e g3) λ_=>out cc (am (by rw[m6 g3])))
  refine aE (aV (λ_=>?_) λe=>absurd g3 e);refine⟨S r,(cc.box 5 n2).aw _ n2,a,n2,NR x (S r) cc λll ii=>?_⟩;rw[am n2,l0 g3];exact⟨n2,S r,ii.aF 7 [0,6]⟩
 have a8:i<n1 bl:=n3
 obtain⟨P,hP⟩:=I3 (dz m m.next T bl live i)
 rw[<-hP]at ab;have i9:=ab.dv 7 n2;refine i9.1.aX i n2 n3 (rs[i]'n3) n2 ?_;refine bj (λ(t:Int) h'=>((lP m.p m.next i=dB/\t=16)∨∃n:Nat,n<16/\lP m.p m.next i=cO n/\t=n)/\aa B h0 h' (aJ bD a pw (az x) offs da w ds::be x m::aj a3 24 [xP xV m.p.1,xP xV m.p.2.1,xP xV m.p.2.2]::ai 3 U 1 aq live::aj I 59 (aT (c,m.next,(n1 b:Int),tr))::ai 3 tr 1 aq (T)::aj a22 104 (dm (dw (P)))::cy (ga 1 ar) 1 bv q rs bl::db 146 o 2 piv dZ (P)::As)) ?_ ?_
 .refine ak (λk:Nat=>(k:Int)) (λk h'=>k<=16/\(∀j,j<k->uO m.p m.next i j=eL)/\aa B h0 h' (aJ bD a pw (az x) offs da w ds::be x m::aj a3 24 [xP xV m.p.1,xP xV m.p.2.1,xP xV m.p.2.2]::ai 3 U 1 aq live::aj I 59 (aT (c,m.next,(n1 b:Int),tr))::ai 3 tr 1 aq (T)::aj a22 104 (dm (dw (P)))::cy (ga 1 ar) 1 bv q rs bl::db 146 o 2 piv dZ (P)::As)) (λk=>16-k) 0 n2 ⟨qT _,λj hj=>absurd hj (xC _),ab⟩ ?_;rintro k jj ⟨hk,V,d9⟩
  try dsimp only
  refine aE (ae (λe2=>?_) λe2=>?_)
  rotate_left
  .have es:k=16:=n3
   exact⟨I4,I4,.inl ⟨Wm (by rw[es]at V;exact V),n3⟩,d9⟩
  have bb:=d9.box 2 n2;refine⟨m.p,bb.aw _ n2,(rq m.next i k jj).I0 ?_⟩;refine⟨_,n2,⟨bb.cell0 n2,bb.cell n2,bb.cell n2,I4⟩,(Cf m.p (ft m.next i k) _).I1 λli i2=>?_⟩;have f2:=d9.up i2.ac;refine⟨_,n2,I4,aI (λe3=>⟨k+1,oi,⟨n3,λj hj=>?_,f2⟩,n3⟩) λe3=>⟨.inr ⟨k,n3,aaM n3 V e3,n2⟩,f2⟩⟩;by_cases j5:j=k
  .rw[j5];exact e3
  .exact V j n3
 rintro t mp ⟨ht,d5⟩;rcases ht with⟨hno,rfl⟩|⟨n,hn16,hsm,rfl⟩
 .refine aV (λ_=>ap (Bs:=[]) (d5.aF 9 [0,1,2,3]) (d0 ?_)) λe=>absurd n2 e;have:cV m.p m.next bl.length=dB:=Wk (i:=i+1) (by unfold cV;rw[hT,Option.bind_some,hno];rfl) _ a8;rw[this]
 refine aV (λe=>n3) λ_=>?_;refine⟨tr,(d5.box 4 n2).cell n2,?_⟩;refine d5.push af 5 n2 eK n2 n4 (λ_=>rfl) cP (n:Int) n2 n4 n3 λax lo g7=>?_;refine g7.store af 4 n2 n2 3 [ax] n2 n2 n2 n9 λj2 d7=>?_;have hs:cV m.p m.next (i+1)=cO (T++[(n:Int)]):=by unfold cV;rw[hT,Option.bind_some,hsm];rfl
 refine(rq m.next i n j2).I0 ?_;obtain⟨seed,ao⟩:=I3 (ft m.next i n)
 rw[<-ao];refine⟨seed,n2,m.p,(d7.box 2 n2).aw _ n2,?_⟩;have d2:fE m.p seed (fl m.p)=eH:=by rw[ao];exact(Dm hsm).2.1
 obtain⟨K,Hh,w',nn,BK⟩:=Zh (seed:=seed) (d:=bl[i]) hp d2 (by rw[dd _ (qf a8),s3]);have c7:=Fix.row (d7.dv 7 n2) a8;refine(PB m.p seed (rs[i]'n3) bl[i] _ c7.1 c7.2).mono ?_;rintro _ kx ⟨Q0,_⟩;obtain⟨bk,mm,rfl,iq⟩:=Q0 BK.iM;have ep:=((d7.comp iq).front).aF 11 [2,3,4,5,6,7,8,9,10,0,1];refine⟨(cO bk,0),n2,(KS m.next i U live kx (ep.seq 3 n2 λ_=>rfl) n3).I2 λb0 k9 g8=>?_⟩;have gk:=(ep.bV g8).aF 12 [1,2,3,4,5,6,7,8,9,10,11,0];obtain⟨f,a7⟩:=I3 (jk m.next i live)
 rw[<-a7]at gk;refine⟨b0,n2,?_⟩;obtain⟨ad,bq⟩:∃ad:Nat,ad=(m.p.1+m.extra).toNat:=⟨_,rfl⟩
 have ca:ad<=32:=n3
 have j3:(T++[(n:Int)]).getD i 0=(n:Int):=by rw[qg,ql n3,fa,zh];rfl
 have j4:bl.getD i []=bl[i]:=by rw[qg,qd a8];rfl
 obtain⟨Q,hQ⟩:=I3 (nA m m.next (T++[(n:Int)]) bl live i)
 have ip:Q=(qz ad).map λid:Nat=>mN m m.next i seed bl[i] f id:=by rw[hQ];unfold nA;rw[j3,j4,<-ao,<-a7,<-bq]
 have j7:n1 Q=ad:=by rw[hQ,Bw,<-bq]
 have i5:n1 P<=8*32:=by rw[hP,mO,<-bq];exact zu n3 ca
 have h5:dz m m.next (T++[(n:Int)]) bl live (i+1)=P++Q:=by rw[lY,KQ m m.next (n:Int) bl live fa,<-hP,hQ]
 refine ak (λt:Sl×Nat=>(t.1,(t.2:Int))) (λt h'=>t.2<=ad/\aa B h0 h' (aJ bD a pw (az x) offs da w ds::be x m::aj a3 24 [xP xV m.p.1,xP xV m.p.2.1,xP xV m.p.2.2]::ai 3 U 1 aq live::aj I 59 (aT (c,m.next,(n1 b:Int),ax))::ai 3 ax 1 aq (T++[(n:Int)])::aj a22 104 (dm (dw (P++Q.take t.2)))::cy (ga 1 ar) 1 bv q rs bl::db 146 t.1 2 piv dZ (P++Q.take t.2)::dD 41 mm 1 ar (kd m.p seed bl[i])::aj bk 197 (sj m.p seed mm)::ai 3 b0 1 aq f::As)) (λt=>ad-t.2) (o,0) n2 ⟨qT _,by simpa using gk⟩ ?_;rintro⟨o2,id⟩ hw ⟨hid,Z⟩;dsimp only at hid Z⊢;have fr:=(aa.cK Z).2;refine⟨m.p.1,(Z.box 2 n2).cell0 n2,a,n2,x.2.2.2.2.2.1,fr.cell n2,?_⟩;have en:qe xV (m.p.1+x.2.2.2.2.2.1)=(ad:Int):=by rw[hx.extra,ag _];omega
 try dsimp only
 rw[en];refine ae (λe3=>?_) λe3=>?_
 rotate_left
 .have ea:id=ad:=n3
  rw[ea,<-j7,qy]at Z;refine⟨(o2,i+1,T++[(n:Int)],ax),n8,⟨a8,hs,?_⟩,n5⟩
  try dsimp only
  rw[h5];exact Z.aF 12 [0,1,2,3,4,5,6,7,8]
 have el:id<ad:=n3
 refine(TD b0 f id hw (Z.seq 11 n2 λ_=>rfl)).I0 ⟨_,n2,?_⟩;have bb:=Z.box 2 n2;have fz:acX _ bk m.p seed (kd m.p seed bl[i]):=⟨mm,Z.box 10 n2,Z.oG 9 n2⟩
 have c9:Bv m.p seed bl[i] id=if bQ id then jN w' (kd m.p seed bl[i]) (ey nn seed id)else[]:=by unfold Bv;rw[BK.sC,show m.p.2.2.toNat=w' by have:=BK.s;omega]
 have held:∀{h':hY},bR h' a3 24 [xP xV m.p.1,xP xV m.p.2.1,xP xV m.p.2.2]->bF.ok [(a3,xP xV m.p.1),(a3.add 1,xP xV m.p.2.1),(a3.add 2,xP xV m.p.2.2)] h':=λ{h'} hb=>⟨hb.cell0 n2,hb.cell n2,hb.cell n2,I4⟩
 refine bj (λ(eb:fY) h'=>∃r:Sl,aa B h0 h' (aj eb 144 (bB (m.next,(i:Int),(id:Int),m.p.1,m.p.2.1,m.p.2.2,seed,r))::ai 5 r 1 ar (Bv m.p seed bl[i] id)::aJ bD a pw (az x) offs da w ds::be x m::aj a3 24 [xP xV m.p.1,xP xV m.p.2.1,xP xV m.p.2.2]::ai 3 U 1 aq live::aj I 59 (aT (c,m.next,(n1 b:Int),ax))::ai 3 ax 1 aq (T++[(n:Int)])::aj a22 104 (dm (dw (P++Q.take id)))::cy (ga 1 ar) 1 bv q rs bl::db 146 o2 2 piv dZ (P++Q.take id)::dD 41 mm 1 ar (kd m.p seed bl[i])::aj bk 197 (sj m.p seed mm)::ai 3 b0 1 aq f::As)) ?_ ?_
 .refine⟨m.p,bb.aw _ n2,?_,?_⟩
  .refine(AK bk m.p seed id _ nn w' _ fz hp BK.s BK.sC BK.Ar.2 BK.Ar.1).I2 λr lb fb=>?_;rw[<-c9]at fb;have gl:=Z.bV fb;refine⟨r,n2,held (gl.box 3 n2),gl.alloc af n2 λml le cn=>?_⟩;have cn:=cn.bf;refine⟨held (cn.box 4 n2),?_⟩;exact cn.storeAll af 0 n2 n2 (bB (m.next,(i:Int),(id:Int),m.p.1,m.p.2.1,m.p.2.2,seed,r)) n2 n2 n2 n2 λm6 jn=>⟨I4,r,jn⟩
  .refine Z.tE af n2 λmo mc lw a9=>?_;have a9:=a9.bf;refine⟨held (a9.box 3 n2),?_⟩;refine(AK bk m.p seed id _ nn w' _ ⟨mm,a9.box 11 n2,a9.oG 10 n2⟩ hp BK.s BK.sC BK.Ar.2 BK.Ar.1).I2 λr l6 er=>?_;rw[<-c9]at er;have fi:=(a9.bV er).aF 2 [1,0];refine⟨r,n2,held (fi.box 4 n2),?_⟩;exact fi.storeAll af 0 n2 n2 (bB (m.next,(i:Int),(id:Int),m.p.1,m.p.2.1,m.p.2.2,seed,r)) n2 n2 n2 n2 λlc i4=>⟨I4,r,i4⟩
 rintro eb ka ⟨r,dx⟩;have ej:=EU m.next i n;rw[<-ao]at ej;refine⟨(m.next,(i:Int),(id:Int),m.p.1,m.p.2.1,m.p.2.2,seed,r),(dx.box 0 n2).aw _ n2,?_⟩;refine(un (m.next,(i:Int),(id:Int),m.p.1,m.p.2.1,m.p.2.2,seed,r) (SB m m.next i seed bl[i] id) ka ⟨⟨n2,n2,n2,n2,n2,ej.1,ej.2⟩,dx.seq 1 n2 λ_=>rfl⟩).I2 λu mr j8=>?_;have gt:=(dx.bV j8).dG 0 n2 (D:=EA dZ (nz f id,u) (mN m m.next i seed bl[i] f id)) λz hz=>⟨n2,hz.1.seq (λ_=>rfl) hz.2⟩
 have c2:Q[id]'n3=mN m m.next i seed bl[i] f id:=by simp[ip]
 refine⟨u,n2,?_⟩;refine aa.AY af gt 11 0 n4 (a:=(nz f id,u)) n2 n2 ZK n2 n4 (λ_=>rfl) sX (parts:=#[(0,xU #[xP xV (nz f id),u])]) o0 n4 n7 λo3 j9 cf=>?_;have hf:=FU (m:=m) (tries:=T++[(n:Int)]) (bl:=bl) ⟨n3,gi⟩ f0 W d8 (y:=mN m m.next i seed bl[i] f id) (by
  unfold dz;refine yd.2 ⟨i,q8.2 a8,?_⟩;rw[<-hQ,<-c2];exact qf _)
 have X:=W _ hf.1;have e0:(mN m m.next i seed bl[i] f id).1=nz f id:=rfl;rw[e0]at X;obtain⟨Y,b1⟩:∃Y:Nat,nz f id=(Y:Int):=⟨(nz f id).toNat,n3⟩
 rw[b1]at X⊢;have et:P++Q.take (id+1)=(P++Q.take id)++[mN m m.next i seed bl[i] f id]:=by rw[aC Q id,c2,<-qo]
 have ks:dw (P++Q.take (id+1))=(dw (P++Q.take id)).set Y ((dw (P++Q.take id)).getD Y 0+1):=by rw[et];exact TB _ (by rw[e0,b1]) n3
 have k3:(dw (P++Q.take id)).getD Y 0<=8*32+32:=by
  rw[rT _];have h1:=qO (λy:Int×aS=>decide (y.1=(Y:Int))) (P++Q.take id);have h2:(P++Q.take id).length<=8*32+32:=by rw[qq,qB];omega
  omega
 have k2:0<=(dw (P++Q.take id)).getD Y 0:=by rw[rT _];omega
 have cf:aa B h0 j9 (emp::aj eb 144 (bB (m.next,(i:Int),(id:Int),m.p.1,m.p.2.1,m.p.2.2,seed,r))::ai 5 r 1 ar (Bv m.p seed bl[i] id)::aJ bD a pw (az x) offs da w ds::be x m::aj a3 24 [xP xV m.p.1,xP xV m.p.2.1,xP xV m.p.2.2]::ai 3 U 1 aq live::aj I 59 (aT (c,m.next,(n1 b:Int),ax))::ai 3 ax 1 aq (T++[(n:Int)])::aj a22 104 (dm (dw (P++Q.take id)))::cy (ga 1 ar) 1 bv q rs bl::db 146 o3 2 piv dZ (P++Q.take (id+1))::dD 41 mm 1 ar (kd m.p seed bl[i])::aj bk 197 (sj m.p seed mm)::ai 3 b0 1 aq f::As):=by rw[et];exact cf
 refine⟨⟨X.1,X.2⟩,(dw (P++Q.take id)).getD Y 0,AJ (iy _) n3 (cf.box 9 n2),⟨X.1,X.2⟩,?_⟩;rw[qj,zM,ag _];refine cf.storeAt af 9 n2 n2 (off:=Y) n2 n2 n2 (by rw[qp,iy];omega) λl0 hg=>?_;refine⟨(o3,id+1),n8,⟨el,?_⟩,n5⟩
 try dsimp only
 have e4:dm (dw (P++Q.take (id+1)))=(dm (dw (P++Q.take id))).set Y (xP xV ((dw (P++Q.take id)).getD Y 0+1)):=by rw[ks];unfold dm;rw[xM]
 rw[e4];exact hg.aF 15 [3,4,5,6,7,8,9,10,11,12,13,14]
end
theorem YF{m:aO}{i:Nat}(h:i<n1 m):aB m i=m[i]:=bh h
theorem NX(a:Sl)(l:Row)(h:hY)(q:Rd h a 1 ar l)(u:n1 l<=2^30):an xZ 232 #[a] h λv h'=>v=xP xV (if gY l<n1 l then(gY l:Int)else-1)/\h'=h:=by
 refine ts Tryz.func232 ?_ (G7 (Hf [(6,aH)] [(2,4),(6,16)]));have s:=q.len;refine ak (λi:Nat=>(i:Int)) (λi h'=>h'=h/\i<=n1 l/\∀j (d:j<n1 l),j<i->l[j]=0) (λi=>n1 l-i) 0 n2 ⟨n2,n3,λj _ d=>n3⟩ ?_;rintro i t ⟨rfl,w,c⟩;refine ae (λe=>?_) (λe=>?_)
 .have b:i<n1 l:=n3
  refine q.aX i n2 b _ n2 ?_;refine bt (λo=>?_) (λo=>?_)
  .have k:l[i]≠0:=λr=>o (by rw[r];rfl);have m:gY l=i:=by rw[gY,List.findIdx_eq b];exact⟨D4,λj d=>by simp[c j n3 d]⟩
   rw[m,l0 b];exact⟨n2,n2⟩
  .refine⟨i+1,oi,⟨n2,n3,λj d p=>?_⟩,n3⟩;rcases zd.1 p with h3|rfl
   .exact c j d h3
   .exact nj.1 o
 .have f:¬gY l<n1 l:=by rw[gY,List.findIdx_lt_length];rintro⟨x,k,g⟩;obtain⟨j,d,rfl⟩:=qE k;rw[c j d n3]at g;simp at g
  rw[m6 f];exact⟨n2,n2⟩
theorem Je(a b:Sl)(A y:aO)(m n w:Nat)(h:hY)(ha:eu h a 1 ar A)(hb:eu h b 1 ar y)(hl:n1 A=m)(hy:n1 y=m)(J:1<=m)(R:m<=2^20)(hA:aW n A)(hB:aW w y)(ih:1<=n)(hn:n+w<=64):
  an xZ 158 #[a,b] h λv h'=>(cx A≠n/\v=.tuple #[xQ dB 0 0,xP xV 9]/\Sp h h' [])∨(cx A=n/\jc n A y/\∃r:Sl,v=.tuple #[r,xP xV 0]/\Sp h h' [dD 41 r 1 ar (eS n A y)])∨(cx A=n/\¬jc n A y/\v=.tuple #[xQ dB 0 0,xP xV 10]/\Sp h h' []):=by
 have cr:n1 y=n1 A:=n3
 have fs:=ha.len;have cn:=hb.len;refine ts Tryz.func158 ?_ (G7 (HF [] [(4,6),(16,36)] (G7 (G7 (G7 (E8 (G7 (F8 (G0 [(7,bN),(8,bN),(46,aH)] [(7,10),(46,66)] E9))) (E8 (G7 (F8 (G0 [(10,aH)] [(10,15),(66,182)] (G7 (E8 (F8 (G7 (E8 (F8 (G0 [(11,aH)] [(11,12),(72,82)] E9)) (HF [] [(82,110)] (G7 (HF [] [(118,136)] (G7 (F8 (G0 [(138,aH)] [(13,15),(138,182)] (G7 (G7 (E8 (F8 (G7 (G7 (HF [(154,mH)] [(148,155)] E9)))) E9)))))))))))) E9))))) (Hf [(15,aH)] [(4,6),(15,16),(183,195)])))))))) [(10,(.l [0,1,2,3,4,8,9,10,11,12,5,6,7,13,14,15,16,17])),(20,(.l [0,1,2,3,4,5,6,7,8,10,11,12,13,14,9,15,16,17,18,19])),(26,(.l [0,1,2,3,4,5,6,7,8,9,10,11,12,14,15,16,17,18,19,20,21,22,13,23,24,25,26,27]))];refine aE ?_;refine(lE a A n h ha hA).mono ?_;rintro v L ⟨rfl,rfl⟩;refine⟨_,n2,aI (λe=>oj) λ_=>?_⟩;refine(lE b y w L hb hB).mono ?_;rintro v p ⟨rfl,rfl⟩;refine⟨_,n2,aI (λe=>oj) λ_=>?_⟩;refine bt (λe=>absurd (by rw[fs,cn,cr]) e) λ_=>?_;refine aV (λe=>n3) λ_=>?_;refine ha.get 0 n2 n3 λr0 ew=>?_;have a2:=ew.len;rw[hA _ (qf _)]at a2;rw[a2];refine(uq a A n p ha hA).mono ?_;rintro v h4 ⟨rfl,R4⟩;have g4:=CL hA;refine⟨_,n2,ae (λe=>.inl ⟨λU=>?_,n2,.zip R4.ac⟩) λe0=>?_⟩
 .have e':(cx A:Int)<(n:Int):=e;omega
 have hr:cx A=n:=by have e':¬(cx A:Int)<(n:Int):=e0;omega
 have ht:n<=m:=by have:=mD A hA;omega
 obtain⟨M,hM⟩:=I3 (eI A y)
 have el:n1 M=m:=by rw[hM,lq];exact hl
 have d6:aW (n+w) M:=by rw[hM];exact lJ n3 hA hB
 have ef:∀k (hk:k<m),(M[k]'n3).take n=A[k]'n3/\(M[k]'n3).drop n=y[k]'n3:=λk hk=>by
  have L:(A[k]'n3).length=n:=hA _ (qf _);have e:M[k]'n3=A[k]'n3++y[k]'n3:=by subst hM;simp[eI]
  rw[e,List.take_left' L,List.drop_left' L];exact⟨n2,n2⟩
 have b5:(bc M n).1=n:=by rw[hM,tK n3 hA];exact hr
 obtain⟨g8,d3⟩:=ha;obtain⟨g3,fr⟩:=hb;have H4:=(((Sp.refl p).up R4.ac).nil 41 1 bv).nil 41 1 bv|>.ZN
 refine ak (λt:Sl×Sl×Nat×List Sl×List Sl×List (Sl×Row)=>(t.1,t.2.1,(t.2.2.1:Int)))
  (λt h'=>t.2.2.1<=m/\Sp p h' [ai 41 t.1 1 bv t.2.2.2.1,ai 41 t.2.1 1 bv t.2.2.2.2.1,fP t.2.2.2.2.2]/\cb t.2.2.2.2.2 (yy n) t.2.2.2.1 (M.take t.2.2.1)/\cb t.2.2.2.2.2 (wW n) t.2.2.2.2.1 (M.take t.2.2.1))
  (λt=>m-t.2.2.1) (⟨dB,0,0⟩,⟨dB,0,0⟩,0,[],[],[]) n2 ⟨n9,H4,cb.nil _ _,cb.nil _ _⟩ ?_
 rintro⟨s,t,k,rs,qs,pool⟩ h5 ⟨hk,H5,ip,iq⟩;dsimp only at*;have f8:n1 rs=k:=by rw[ip.1,qB];omega
 have f7:n1 qs=k:=by rw[iq.1,qB];omega
 refine ae (λe=>?_) (λe=>?_)
 .have f6:k<m:=n3
  obtain⟨mt,md⟩:=ef k f6;have lA:(A[k]'n3).length=n:=hA _ (qf _);have lB:(y[k]'n3).length=w:=hB _ (qf _);obtain⟨a8,d4,x9,ea,ed⟩:=d3.RD (K:=λ_ r=>Rd p r 1 ar (A[k]'n3)) (i:=(k:Int)) k rfl n3 λ_ _ _ hs _=>hs;obtain⟨f0,dr,er,G,c9⟩:=fr.RD (K:=λ_ r=>Rd p r 1 ar (y[k]'n3)) (i:=(k:Int)) k rfl n3 λ_ _ _ hs _=>hs;refine⟨a8,d4,x9,ee ea H5.ac,f0,dr,er,ee G H5.ac,?_⟩;have H6:=H5.nil 5 1 ar;refine H6.append af 3 n2 cN ⟨_,_,n2,n2⟩ n2 n4 (λ_=>rfl) (Seq.up ed H6.ac) cD n7 λbb h7 H7=>⟨⟨ee G H7.ac,I4⟩,?_⟩
  refine H7.lit af bv cM n2 [bb] n2 (show 1*1<=2^20 by decide) n2 λhm h8 H8=>⟨⟨ee G H8.ac,I4⟩,?_⟩
  refine H8.append af 0 n2 cM ⟨_,_,n2,n2⟩ n2 n4 (λ_=>rfl) (H8.seq 4 n2 λ_=>rfl) jK n7 λs' h9 H9=>⟨⟨ee G H9.ac,I4⟩,?_⟩
  have dk:=H9.nil 5 1 ar;refine dk.append af 5 n2 cN ⟨_,_,n2,n2⟩ n2 n4 (λ_=>rfl) (Seq.up c9 dk.ac) cD n7 λcc g9 d2=>⟨I4,?_⟩
  refine d2.lit af bv cM n2 [cc] n2 (show 1*1<=2^20 by decide) n2 λgd b4 g=>⟨I4,?_⟩
  refine g.append af 1 n2 cM ⟨_,_,n2,n2⟩ n2 n4 (λ_=>rfl) (g.seq 6 n2 λ_=>rfl) jK n7 λF d9 eb=>⟨I4,?_⟩
  have a3:=(((eb.freeze 3 n2 λ_=>rfl).freeze 5 n2 λ_=>rfl).pool 2 3 n4 n2 n2).pool 2 5 n4 n2 n2;refine⟨(s',F,k+1,rs++[bb],qs++[cc],(cc,y[k]'n3)::(bb,A[k]'n3)::pool),n8,⟨n5,Ez a3,?_,?_⟩,n5⟩
  .try dsimp only
   rw[aC _ _ (show k<n1 M by omega)];exact(ip.mono λx O=>qt _ (qt _ O)).snoc (by rw[mt];simp)
  .try dsimp only
   rw[aC _ _ (show k<n1 M by omega)];exact(iq.mono λx O=>qt _ (qt _ O)).snoc (by rw[md];simp)
 have et:k=m:=n3
 subst et;rw[List.take_of_length_le n3]at ip iq;have gt:=(H5.own 0 n2).len;have g5:=(H5.own 1 n2).len;have g7:=(H5.own 1 n2).cap;refine ak (λt:Nat×List Sl×List Sl×List (Sl×Row)=>(t.1:Int))
  (λu h'=>u.1<=n/\Sp p h' [ai 41 s 1 bv u.2.1,ai 41 t 1 bv u.2.2.1,fP u.2.2.2]/\cb u.2.2.2 (yy n) u.2.1 (bc M u.1).2/\cb u.2.2.2 (wW n) u.2.2.1 (bc M u.1).2)
  (λu=>n-u.1) (0,rs,qs,pool) n2 ⟨n9,H5,ip,iq⟩ ?_
 rintro⟨c,Y,X,B⟩ b4 ⟨hc,g,P,D⟩;dsimp only at*;have H:=fS d6 c;obtain⟨d,J⟩:=I3 ((bc M c).2)
 rw[<-J]at P D H;have ci:n1 d=k:=by rw[H.2];exact el
 have hu:=P.1;have hq:=D.1;refine ae (λe=>?_) (λe=>?_)
 .have eh:c<n:=n3
  obtain⟨ix,b2,c4⟩:=JA b5 eh;rw[<-J]at b2 c4;have c2:=kL b2;have a5:∀j (hj:j<k),(d[j]'n3).length=n+w:=λj hj=>H.1 _ (qf _);refine ak (λj:Nat=>(j:Int)) (λj h'=>h'=b4/\c<=j/\j<=ix) (λj=>ix-j) c n2 ⟨n2,qk _,c2.1⟩ ?_;rintro j d9 ⟨rfl,fn,hw⟩;have b1:j<k:=n3
  have b9:=g.seq 0 n2 λ_=>rfl;refine b9.dQ j n2 n3 λ_ _ _=>?_;have Z:=g.ik 2 n2 (P.get (show j<n1 d by omega));have e7:((d[j]'n3).take n)[c]'(by rw[qB,a5 j b1];omega)=aM (aB d j) c:=by rw[zL,bh n3,lX (by rw[a5 j b1];omega)]
  refine Z.aX c n2 (by rw[qB,a5 j b1];omega) _ n2 ?_;rw[e7];refine aV (λe0=>?_) (λe0=>?_)
  .have:j≠ix:=λU=>c2.2.2 (by rw[<-U];exact nj.1 e0);exact⟨j+1,oi,⟨n2,n3,n3⟩,n3⟩
  have bq:j=ix:=by
   by_cases U:j<ix
   .exact absurd (by rw[CR b2 fn U];rfl) e0
   .omega
  subst bq;refine aE ?_;have cq:=g.seq 1 n2 λ_=>rfl;refine b9.dQ c n2 n3 λ_ _ _=>?_;refine b9.dQ j n2 n3 λ_ _ _=>?_;refine cq.dQ c n2 n3 λ_ _ _=>?_;refine cq.dQ j n2 n3 λ_ _ _=>?_;refine g.set af 0 n2 (λ_=>rfl) n2 j n2 n3 (Y[c]'n3) n2 n2 n2 λh0 a3=>⟨I4,?_⟩
  refine a3.set af 0 n2 (λ_=>rfl) n2 c n2 n7 (Y[j]'n3) n2 n2 n2 λgl e9=>⟨I4,?_⟩
  refine e9.set af 1 n2 (λ_=>rfl) n2 j n2 n3 (X[c]'n3) n2 n2 n2 λh3 ep=>⟨I4,?_⟩
  refine ep.set af 1 n2 (λ_=>rfl) n2 c n2 n7 (X[j]'n3) n2 n2 n2 λc7 e1=>⟨I4,?_⟩
  obtain⟨m2,R⟩:=I3 (fM d c j)
  have da:m2=(d.set j (aB d c)).set c (aB d j):=by rw[R,BH];rfl
  obtain⟨bd,ap⟩:∃x,x=(Y.set j (Y[c]'n3)).set c (Y[j]'n3):=⟨_,rfl⟩
  obtain⟨ca,ao⟩:∃x,x=(X.set j (X[c]'n3)).set c (X[j]'n3):=⟨_,rfl⟩
  have a7:cb B (yy n) bd m2:=by rw[da,ap,bh n3,bh n3];exact(P.set j (P.get n3)).set c (P.get n3)
  have b7:cb B (wW n) ca m2:=by rw[da,ao,bh n3,bh n3];exact(D.set j (D.get n3)).set c (D.get n3)
  have E:Sp p c7 [ai 41 s 1 bv bd,ai 41 t 1 bv ca,fP B]:=by rw[ap,ao];exact e1
  have fa:n1 m2=k:=by rw[R,iU];exact ci
  have am:aW (n+w) m2:=by rw[R];exact og H.1
  have hg:=a7.1;have g0:=b7.1;have T:∀i (hi:i<k),(m2[i]'n3).length=n+w:=λi hi=>am _ (qf _);have c8:=E.seq 0 n2 λ_=>rfl;have d7:=E.seq 1 n2 λ_=>rfl;refine c8.dQ c n2 n3 λ_ _ _=>?_;have ah:=E.ik 2 n2 (a7.get (show c<n1 m2 by omega));have f3:((m2[c]'n3).take n)[c]'(by rw[qB,T c n3];omega)=aM (aB m2 c) c:=by rw[zL,bh n3,lX (by rw[T c n3];omega)]
  refine ah.aX c n2 (by rw[qB,T c n3];omega) _ n2 ?_;rw[f3];refine(Af _ c7).mono ?_;rintro v d1 ⟨rfl,rfl⟩;refine⟨_,n2,aE ?_⟩;refine c8.dQ c n2 n3 λ_ _ _=>?_;refine d7.dQ c n2 n3 λho c6 _=>?_
  try dsimp only
  refine(ma _ _ _ d1 ah (by rw[qB,T c n3];omega)).mono ?_;rintro v fb ⟨ra,rfl,c1⟩;refine⟨ra,n2,⟨ee c6 c1.ac,I4⟩,?_⟩;have dd:=E.comp c1;refine(ma _ _ _ fb (dd.ik 2 n2 (b7.get (show c<n1 m2 by omega))) (by rw[qJ,T c n3];omega)).mono ?_;rintro v g1 ⟨rb,rfl,ek⟩;refine⟨rb,n2,I4,?_⟩;have ec:=dd.comp ek;refine ec.set af 0 n2 (λ_=>rfl) n2 c n2 n3 ra n2 n2 n2 λh6 eq=>⟨I4,?_⟩
  refine eq.set af 1 n2 (λ_=>rfl) n2 c n2 n3 rb n2 n2 n2 λen eo=>⟨I4,?_⟩
  have ej:=Ez ((((eo.freeze 3 n2 λ_=>rfl).freeze 4 n2 λ_=>rfl).pool 2 3 n4 n2 n2).pool 2 4 n4 n2 n2);obtain⟨f,Q⟩:=I3 (fW c c m2)
  obtain⟨a4,ay⟩:∃x,x=bd.set c ra:=⟨_,rfl⟩
  obtain⟨b6,ax⟩:∃x,x=ca.set c rb:=⟨_,rfl⟩
  obtain⟨z,q⟩:∃x,x=(rb,scaleB (Gf.inv (aM (aB m2 c) c)) ((m2[c]'n3).drop n))::(ra,scaleB (Gf.inv (aM (aB m2 c) c)) ((m2[c]'n3).take n))::B:=⟨_,rfl⟩
  have d8:cb z (yy n) a4 f:=by rw[Q,ay,fW,q];refine(a7.mono λx O=>qt _ (qt _ O)).set c ?_;rw[CM,<-bh (show c<n1 m2 by omega)];simp
  have f1:cb z (wW n) b6 f:=by rw[Q,ax,fW,q];refine(b7.mono λx O=>qt _ (qt _ O)).set c ?_;rw[GI,<-bh (show c<n1 m2 by omega)];simp
  have du:Sp p en [ai 41 s 1 bv a4,ai 41 t 1 bv b6,fP z]:=by rw[ay,ax,q];exact ej
  have gs:n1 f=k:=by rw[Q,kM];exact fa
  have a1:aW (n+w) f:=by rw[Q];exact mB am n3
  have W:(bc M (c+1)).2=bO c c f k:=by rw[c4,Q,R,ci]
  refine ak (λu:Nat×List Sl×List Sl×List (Sl×Row)=>(u.1:Int))
   (λu h'=>u.1<=k/\Sp p h' [ai 41 s 1 bv u.2.1,ai 41 t 1 bv u.2.2.1,fP u.2.2.2]/\cb u.2.2.2 (yy n) u.2.1 (bO c c f u.1)/\cb u.2.2.2 (wW n) u.2.2.1 (bO c c f u.1))
   (λu=>k-u.1) (0,a4,b6,z) n2 ⟨n9,du,by rw[oh];exact d8,by rw[oh];exact f1⟩ ?_
  rintro⟨i,b0,a6,ab⟩ ds ⟨hi,o,N,I⟩;dsimp only at*;have gi:=kN c c f i;have hf:=N.1;have g2:=I.1;refine ae (λe2=>?_) (λe2=>?_)
  .have fq:i<k:=n3
   have c0:(bO c c f i)[i]'n3=aB f i:=by rw[<-bh n3,je,m6 n3]
   have e8:(bO c c f i)[c]'n3=aB f c:=by rw[<-bh n3,je,m6 n3]
   have li:(aB f i).length=n+w:=bZ a1;have lc:(aB f c).length=n+w:=bZ a1;have bk:=o.seq 0 n2 λ_=>rfl;have cf:=o.seq 1 n2 λ_=>rfl;have xi:=o.ik 2 n2 (N.get (show i<(bO c c f i).length by omega));have xc:=o.ik 2 n2 (N.get (show c<(bO c c f i).length by omega));have yi:=o.ik 2 n2 (I.get (show i<(bO c c f i).length by omega));have yc:=o.ik 2 n2 (I.get (show c<(bO c c f i).length by omega));rw[c0]at xi yi;rw[e8]at xc yc;refine bk.dQ i n2 n3 λ_ _ _=>?_;have b3:((aB f i).take n)[c]'(by rw[qB,li];omega)=aM (aB f i) c:=by rw[zL,lX]
   refine xi.aX c n2 C2 _ n2 ?_;rw[b3];rw[ag ((i:Int)+1)];have skip:bO c c f (i+1)=bO c c f i->∃F:Nat×List Sl×List Sl×List (Sl×Row),(i:Int)+1=(F.1:Int)/\(F.1<=k/\Sp p ds [ai 41 s 1 bv F.2.1,ai 41 t 1 bv F.2.2.1,fP F.2.2.2]/\cb F.2.2.2 (yy n) F.2.1 (bO c c f F.1)/\cb F.2.2.2 (wW n) F.2.2.1 (bO c c f F.1))/\k-F.1<k-i:=λcp=>
    ⟨(i+1,b0,a6,ab),n2,⟨n5,o,by dsimp only;rw[cp];exact N,by dsimp only;rw[cp];exact I⟩,n5⟩
   refine aE ?_;refine bt (λe3=>?_) (λe3=>rX n2 (skip ?_))
   .have V:i≠c:=λU=>e3 (by rw[U]);refine bt (λe4=>?_) (λe4=>skip ?_)
    .refine bk.dQ c n2 n3 λ_ _ _=>?_;refine bk.dQ i n2 n3 λ_ _ _=>?_;refine cf.dQ c n2 n3 λhe c5 _=>?_;refine cf.dQ i n2 n3 λii cs _=>?_;refine(jS _ _ _ _ _ ds xc xi E0 C2).mono ?_;rintro v ei ⟨ra,rfl,S⟩;refine⟨ra,n2,⟨ee cs S.ac,ee c5 S.ac,I4⟩,?_⟩;have d5:=o.comp S;refine(jS _ _ _ _ _ ei (Seq.up yc S.ac) (Seq.up yi S.ac) E0 (by rw[qJ,li];omega)).I2 λrb f9 eg=>⟨rb,n2,I4,?_⟩;have e5:=d5.comp eg;refine e5.set af 0 n2 (λ_=>rfl) n2 i n2 n3 ra n2 n2 n2 λhp f2=>⟨I4,?_⟩
     refine f2.set af 1 n2 (λ_=>rfl) n2 i n2 n3 rb n2 n2 n2 λgk dx=>⟨I4,?_⟩
     have fz:=Ez ((((dx.freeze 3 n2 λ_=>rfl).freeze 4 n2 λ_=>rfl).pool 2 3 n4 n2 n2).pool 2 4 n4 n2 n2);refine⟨(i+1,b0.set i ra,a6.set i rb,_),n2,⟨n5,fz,?_,?_⟩,n5⟩
     .try dsimp only
      rw[kv n3 V];refine(N.mono λx O=>qt _ (qt _ O)).set i ?_;rw[IA];simp
     .try dsimp only
      rw[kv n3 V];refine(I.mono λx O=>qt _ (qt _ O)).set i ?_;rw[Mi];simp
    .have hz:aM (aB f i) c=0:=nj.1 e4;rw[kv n3 V,hz,BI];apply zq;intro x;rw[List.getElem?_set];split
     .rename_i f5;subst f5;rw[l0 n3,qd n3,c0]
     .rfl
   .have V:i=c:=n3
    subst V;exact uC
  .have es:i=k:=n3
   subst es;refine⟨(c+1,b0,a6,ab),n8,⟨n5,o,?_,?_⟩,n5⟩
   ·(try dsimp only);rw[W];exact N
   ·(try dsimp only);rw[W];exact I
 have dy:c=n:=n3
 subst dy;have cd:=FD (a:=A) (b:=y) n3 hA hB hr;rw[<-hM,<-J]at cd;have al:jc c A y↔∀i (hi:i<n1 d),c<=i->(d[i].drop c)=aN (d[i].drop c).length:=by
  unfold jc;rw[<-hM,<-J];constructor
  .intro hc i hi hn;have hz:d[i]=aN d[i].length:=hc _ (List.mem_iff_getElem?.2 ⟨i-c,by rw[List.getElem?_drop,show c+(i-c)=i by omega,qd hi]⟩)
   conv=>lhs;rw[hz]
   simp[aN]
  .intro hc x O;obtain⟨i,hi,rfl⟩:=qE O;simp only[qJ]at hi;rw[List.getElem_drop];have hd:=hc (c+i) n3 n3;have a9:(d[c+i]'n3).length=c+w:=H.1 _ (qf _);refine gw (n:=c+w) a9 (by simp[aN,a9]) λj hj=>?_;rw[cJ];by_cases f4:j<c
   .have:=cd.2.2 j f4 (c+i) n3;rw[YF (show c+i<n1 d by omega),m6 n3]at this;exact this
   .have this:aM ((d[c+i]'n3).drop c) (j-c)=aM (aN ((d[c+i]'n3).drop c).length) (j-c):=congrArg (λr=>aM r (j-c)) hd;rw[FC,cJ,show c+(j-c)=j by omega]at this;exact this
 refine ak (λi:Nat=>(i:Int)) (λi h'=>h'=b4/\c<=i/\i<=k/\∀j (hj:j<n1 d),c<=j->j<i->d[j].drop c=aN (d[j].drop c).length) (λi=>k-i) c n2 ⟨n2,qk _,n3,λj _ _ _=>n3⟩ ?_;rintro i e6 ⟨rfl,b3,fq,ad⟩;refine ae (λe=>?_) (λe=>?_)
 .have g6:i<k:=by have e':(i:Int)<(t.len:Int):=e;omega
  refine(g.seq 1 n2 λ_=>rfl).dQ i n2 n3 λ_ _ _=>?_;have Z:=g.ik 2 n2 (D.get (show i<n1 d by omega));have a9:(d[i]'n3).length=c+w:=H.1 _ (qf _);refine(NX _ _ e6 Z n7).I0 ⟨_,n2,ae (λe2=>?_) λe2=>?_⟩
  .right;right;have bl:gY ((d[i]'n3).drop c)<((d[i]'n3).drop c).length:=by
    by_cases U:gY ((d[i]'n3).drop c)<((d[i]'n3).drop c).length
    .exact U
    .rw[m6 U]at e2;exact absurd e2 n4
   refine⟨hr,λd0=>absurd bl (uT.2 (al.1 d0 i n3 b3)),n2,.zip g.ac⟩
  .have bl:¬gY ((d[i]'n3).drop c)<((d[i]'n3).drop c).length:=λU=>by
    rw[l0 U]at e2;exact e2 (zi _)
   refine⟨i+1,oi,⟨n2,n3,n3,λj hj L p=>?_⟩,n3⟩;by_cases bq:j=i
   .subst bq;exact uT.1 bl
   .exact ad j hj L n3
 have br:jc c A y:=al.2 λj hj L=>ad j hj L (by
  have e':¬(i:Int)<(t.len:Int):=e;omega)
 refine⟨⟨zi _,Int.ofNat_le.2 (show c<=t.cap by omega)⟩,?_⟩;have a0:eS c A y=(d.take c).map (wW c):=by rw[eS,<-hM,<-J]
 have HC:=g.cut 1 n2 (λ_=>rfl) c n3;have HR:=HC.nV 1 2 n4 (ll:=eS c A y) n2 n2 (by rw[a0];simp;omega) (λi r l L p=>by
  rw[a0,qP]at p;rw[List.getElem?_take]at L p;split at L
  .rename_i fi;rw[l0 fi]at p;cases hmi:d[i]? with
   |none=>rw[hmi]at p;cases p
   |some x=>rw[hmi]at p;cases p;exact D.2 i r x L hmi
  .cases L)
 rw[qj];refine .inr (.inl ⟨hr,br,⟨t.ptr,c,t.cap⟩,n2,?_⟩);exact HR.bs [1]
theorem Jf(p:Pm)(seed:Int)(l:Sl)(a:List (Int×Row))(h:hY)(hl:fk BE h l a)(a3:n1 a<=2^18)(ax:∀x∈a,n1 x.2<=2^20):
  an xZ 108 #[gr p,xP xX seed,l] h λv h'=>∃r:Sl,v=.tuple #[r,xP xV (iY p seed a).2]/\Sp h h' [ai 5 r 1 ar (iY p seed a).1]:=by
 refine ts Tryz.func108 ?_ (G7 (G7 (G7 (G7 (E8 (G7 (F8 (G0 [(9,bN),(10,aH)] [(9,11),(20,32)] E9))) (E8 (G7 (F8 (G0 [(8,bN),(9,bN),(34,aH)] [(6,10),(12,13),(34,62)] (G7 (G7 (E8 (F8 (G7 (HF [] [(6,8),(38,50)] E9))) E9)))))) (G7 (G7 (G7 (Hf [(15,bN),(16,aH)] [(15,17),(74,89)])))))))))) [(14,(.l [0,1,2,5,6,7,3,4,8,9,10,11,12]))] (args:=[p,(xP xX (seed:Int)),l]);refine(Sp.refl h).boxed λR h1 H1=>?_;have s:∀{h':hY} {As:List HP} (e:Int),Sp h h' As->iY p seed a=([],e)->∃r:Sl,(.tuple #[xQ dB 0 0,xP xV e]:Value)=.tuple #[r,xP xV (iY p seed a).2]/\Sp h h' [ai 5 r 1 ar (iY p seed a).1]:=λ{h' As} e H' he=>by
  rw[he];exact⟨⟨dB,0,0⟩,n2,(Sp.zip H'.ac).nil 5 1 ar⟩
 refine⟨p,(H1.box 0 n2).aw _ n2,(dV p h1).I1 λh2 R2=>?_⟩;have H2:=H1.up R2.ac;refine⟨_,n2,aI (λe=>?_) λd=>?_⟩
 .exact s 1 H2 (by unfold iY;rw[e];rfl)
 have a5:=(bL p).1 d;have bl:=pG d;obtain⟨w,W⟩:=I3 p.2.2.toNat
 let pc:aR:=[xP xV p.1,xP xV p.2.1,xP xV p.2.2]
 have ap:Sp h h2 [MA ⟨dB,0,0⟩ [],aj R 24 [xP xV p.1,xP xV p.2.1,xP xV p.2.2]]:=(H2.sv 41 1 ar).bf;refine ak (λt:Nat×Sl=>(t.2,(t.1:Int))) (λt h'=>t.1<=p.2.1.toNat/\Sp h h' [MA t.2 (qi t.1 (aN w)),aj R 24 [xP xV p.1,xP xV p.2.1,xP xV p.2.2]]) (λt=>p.2.1.toNat-t.1) (0,⟨dB,0,0⟩) n2 ⟨n3,ap⟩ ?_;rintro⟨i,b⟩ h3 ⟨hi,H3⟩;dsimp only at*;refine⟨p.2.1,(H3.box 1 n2).cell n2,ae (λe=>?_) λe=>?_⟩
 .refine⟨p.2.2,(H3.box 1 n2).cell n2,?_⟩;refine H3.make af ar cN n4 0 n2 n2 w w n3 n3 (qk _) n3 λz h4 _ _ E=>?_;refine(E.freeze 2 n2 λ_=>rfl).jE af 0 2 n4 n2 n2 cM n7 λb' h5 H=>?_;refine⟨(i+1,b'),n8,⟨n5,?_⟩,n5⟩
  try dsimp only
  rw[List.replicate_succ'];exact H.bs [0,1]
 have A:i=p.2.1.toNat:=n3
 subst A;obtain⟨I,q1,q2,q3⟩:=bW.ku hl;have a7:=bW.len hl;have am:Sp h h3 [MA b (qi p.2.1.toNat (aN w)++(a.take 0).map zk),ai 3 ⟨dB,0,0⟩ 1 aq ((a.take 0).map qF),aj R 24 [xP xV p.1,xP xV p.2.1,xP xV p.2.2]]:=by have:=(H3.nil 3 1 aq).bs [0,2,1];simpa using this
 refine ak (λt:Nat×Sl×Sl=>(t.2.1,t.2.2,(t.1:Int))) (λt h'=>t.1<=n1 a/\(a.take t.1).all (jw p)=eH/\Sp h h' [MA t.2.2 (qi p.2.1.toNat (aN w)++(a.take t.1).map zk),ai 3 t.2.1 1 aq ((a.take t.1).map qF),aj R 24 [xP xV p.1,xP xV p.2.1,xP xV p.2.2]]) (λt=>n1 a-t.1) (0,⟨dB,0,0⟩,b) n2 ⟨n3,n9,am⟩ ?_;rintro⟨i,o,b2⟩ h4 ⟨bd,f,E⟩;dsimp only at*;refine ae (λe2=>?_) (λe2=>?_)
 .have q:i<n1 a:=n3
  obtain⟨y1,y2⟩:=q3 i n3 q;have ah:=y2.len;have a2:=ax _ (qf q);refine(Seq.up q1 E.ac).cH (g:=yv) i n2 n3 (I[i]'n3) n2 ?_;refine E.alloc af n2 λa6 h5 H=>?_;refine H.storeAll af 3 n2 n2 (yv (I[i]'n3)) n2 n2 n2 n2 λh6 J=>?_;have B:=J.box 3 n2;have N:jw p a[i]=eL->iY p seed a=([],1):=λhf=>by
   have:a.all (jw p)=eL:=List.all_eq_false.2 ⟨_,qf q,by simp[hf]⟩;unfold iY;rw[d,this];rfl
  refine aE ⟨(I[i]'n3).1,B.cell0 n2,(kl _ h6).I0 ?_⟩;refine⟨_,n2,aI (λe3=>?_) λe3=>?_⟩
  .exact s 1 J (N (by unfold jw;rw[<-y1,e3];rfl))
  refine⟨(I[i]'n3).2,B.cell n2,p.2.2,(J.box 2 n2).cell n2,bt (λe4=>?_) λe4=>?_⟩
  .refine s 1 J (N ?_);unfold jw;rw[nb (by rw[ah]at e4;exact e4)];simp
  have a0:jw p a[i]=eH:=by unfold jw;rw[<-y1,e3,m9 (by rw[ah]at e4;exact e4)];rfl
  refine⟨(I[i]'n3).1,B.cell0 n2,(I[i]'n3).2,B.cell n2,?_⟩;refine J.ir af aq eK n2 [(I[i]'n3).1] n2 (show 1*1<=2^20 by decide) n2 ⟨B.cell n2,I4⟩ ?_;refine J.push af 1 n2 eK n2 n4 (λ_=>rfl) cP (I[i]'n3).1 n2 n4 n7 λo' h8 M=>⟨⟨(M.box 3 n2).cell n2,I4⟩,?_⟩
  have T:=M.nil 5 1 ar;refine T.append af 4 n2 cN uh n2 n4 (λ_=>rfl) (Seq.up y2 T.ac) cD n7 λz ay G=>⟨I4,?_⟩
  have D:=G.freeze 4 n2 λ_=>rfl;refine D.ir (L:=[]) af bv cM n2 [z] n2 (show 1*1<=2^20 by decide) n2 I4 ?_;refine D.jE af 0 4 n4 n2 n2 cM n7 λb' a9 ab=>⟨I4,?_⟩
  refine⟨(i+1,o',b'),n8,⟨n5,?_,?_⟩,n5⟩
  ·(try dsimp only);rw[aC _ _ q,List.all_append,f];simp[a0]
  .try dsimp only
   rw[aC _ _ q,qG,qG,<-qo];rw[y1,List.nil_append]at ab;exact ab.bs [0,1,2]
 have A:i=n1 a:=n3
 subst A;rw[qy]at E f;have Z:∀x∈a,Eo p x:=λx F=>(VW d).1 (qU.1 f x F);have Y:qi p.2.1.toNat (aN w)++a.map zk=mG p a:=by unfold mG;rw[W]
 rw[Y]at E;refine⟨p,(E.box 2 n2).aw _ n2,(AH p seed o _ h4 (E.seq 1 n2 λ_=>rfl) n7).I2 λm h5 R5=>?_⟩;have H:=E.comp R5;refine⟨m,n2,?_⟩;have V:aW w (mG p a):=λx F=>by
  rcases qu.1 F with F|F
  .rw[(List.mem_replicate.1 F).2,W];simp[aN]
  .obtain⟨y,hy,rfl⟩:=qI.1 F;rw[W];exact(Z y hy).len
 have ad:(eG p seed (a.map qF)).length=(mG p a).length:=by rw[<-RX (n:=(bE p).toNat) (seed:=seed) d n2 Z,<-RY (n:=(bE p).toNat) (seed:=seed) (p:=p) (l:=a) rfl];exact sU
 have a4:(mG p a).length=p.2.1.toNat+n1 a:=by unfold mG;simp
 refine(Je m b2 _ (mG p a) (mG p a).length (bE p).toNat w h5 (H.oG 3 n2) (H.oG 0 n2) ad n2 n3 n3 (om p seed _) V n3 n3).mono ?_;have k:fE p seed (a.map qF)=decide (cx (eG p seed (a.map qF))=(bE p).toNat):=by unfold fE Bc;rw[d,Bool.true_and,Bool.eq_iff_iff];simp;omega
 rintro _ h6 (⟨hr,rfl,R6⟩|⟨hr,hc,x,rfl,R6⟩|⟨hr,hc,rfl,R6⟩)
 .refine⟨(⟨dB,0,0⟩,9),n2,bt (λ_=>s 9 (H.up R6.ac) ?_) λe=>absurd e n4⟩;unfold iY;rw[d,f,k,nb hr];rfl
 rotate_left
 .refine⟨(⟨dB,0,0⟩,10),n2,bt (λ_=>s 10 (H.up R6.ac) ?_) λe=>absurd e n4⟩;unfold iY;rw[d,f,k,m9 hr,m6 hc];rfl
 refine⟨(x,0),n2,bt (λe=>absurd n2 e) λ_=>?_⟩;obtain⟨X,hX⟩:=I3 (eS (bE p).toNat (eG p seed (a.map qF)) (mG p a))
 have U:iY p seed a=(nk p seed X p.1.toNat,0):=by unfold iY;rw[d,f,k,m9 hr,l0 hc,hX];rfl
 obtain⟨O,P⟩:=pH ad (om p seed _) V hr;rw[<-hX]at R6 O P;have J:Sp h h6 [MA x X,aj R 24 [xP xV p.1,xP xV p.2.1,xP xV p.2.2]]:=(H.comp R6).bs [4,2];rw[U];have K:∀j:Nat,(jN w X (ey (bE p).toNat seed (j:Int))).length=w:=λj=>Qc P O λx F=>kq n3 n3 F;have Q:∀i,(nk p seed X i).length=i*w:=λi=>by
  induction i with
  |zero=>simp[nk]
  |succ i ih=>rw[uU,qq,ih,<-W,K,Nat.succ_mul]
 have H7:Sp h h6 [ai 5 ⟨dB,0,0⟩ 1 ar (nk p seed X 0),MA x X,aj R 24 [xP xV p.1,xP xV p.2.1,xP xV p.2.2]]:=by simpa[nk]using(J.nil 5 1 ar).bf
 refine ak (λt:Nat×Sl=>(t.2,(t.1:Int))) (λt h'=>t.1<=p.1.toNat/\Sp h h' [ai 5 t.2 1 ar (nk p seed X t.1),MA x X,aj R 24 [xP xV p.1,xP xV p.2.1,xP xV p.2.2]]) (λt=>p.1.toNat-t.1) (0,⟨dB,0,0⟩) n2 ⟨n3,H7⟩ ?_;rintro⟨i,u⟩ h8 ⟨bk,M⟩;dsimp only at*;refine⟨p.1,(M.box 2 n2).cell0 n2,ae (λe=>?_) λe=>?_⟩
 .have q:i<p.1.toNat:=n3
  refine⟨p,(M.box 2 n2).aw _ n2,p,(M.box 2 n2).aw _ n2,(BG p seed (i:Int) h8).I2 λc h9 R9=>?_⟩;have al:(bJ p&&bQ (i:Int))=eH:=by rw[d];unfold bQ;simp;omega
  rw[al,l0 rfl]at R9;have T:=M.comp R9;have S:=T.box 2 n2;refine⟨c,n2,⟨S.cell0 n2,S.cell n2,S.cell n2,I4⟩,?_⟩;have a8:=mz (n:=(bE p).toNat) n3 n3 seed (i:Int);refine(Fc p x c X _ (bE p).toNat w h9 (T.oG 1 n2) (T.seq 3 n2 λ_=>rfl) n3 P O λy hy=>kq n3 n3 hy).I2 λz ay ao=>?_;have G:=T.comp ao;refine⟨z,n2,I4,?_⟩;refine G.append af 0 n2 cN uh n2 n4 (λ_=>rfl) (G.seq 4 n2 λ_=>rfl) cD (by rw[Q,K];have:i*w<=16*24:=zu n3 n3;omega) λu' bb D=>⟨I4,?_⟩
  refine⟨(i+1,u'),n8,⟨n5,?_⟩,n5⟩
  try dsimp only
  rw[uU,<-W];exact D.bs [0,1,2]
 .have A:i=p.1.toNat:=n3
  subst A;exact⟨u,n2,M.bs [0]⟩
variable {B:au} {h0 h:hY} {As:List HP} {a:fY} {offs:Int} {da:List bK} {w:Pow} {ds:aG}
section
variable {pw:fY}
theorem TE{m:aA}{e:aG}{c:aD}{o b:Int}:∀y∈dW m e c o b,n1 y.2<=2^20:=λy a=>by
 obtain⟨k,_,a⟩:=yd.1 a;unfold mP at a;cases hd:bY e k with
 |none=>rw[hd]at a;cases a
 |some d=>
  rw[hd]at a;obtain⟨r,f,rfl⟩:=qI.1 a;obtain⟨_,_,_,g⟩:=BA (qN.1 f).1;obtain⟨_,_,_,h,i⟩:=(jM r).1 (Hv g);have h3:=(bL r.p).1 h
  try dsimp only
  omega
theorem Wq(x:aY)(m:aA)(c:ByteArray)(U:bH m=eH)(H:aa B h0 h (aJ bD a pw (az x) offs da w ds::be x m::As)):
  an xZ 32 #[xR (cO a),xS c] h λv h'=>∃r:Sl,v=.tuple #[r,xP xV (iZ m offs w ds c).2]/\Sp h h' [EA (iJ 1 ar) r (iZ m offs w ds c).1]:=by
 refine ts Tryz.func32 ?_ (G7 (G7 (G7 (G7 (G7 (G7 (G7 (E8 (G7 (F8 (G0 [(8,bN),(37,aH)] [(4,6),(8,12),(37,70)] (G7 (G7 (E8 (F8 (G7 (HF [(10,bN),(11,aH)] [(10,12),(40,63)] E9))) E9)))))) E9)))))))) [(13,(.l [0,1,2,3,4,5,6,7,8,9,10,11,12,14,15,16,17,13,18,19,20,21,22,23,24]))];have hz:=iO U;have S:=gJ U;have D:∀y∈m.drives,0<=y/\y<64:=gT U;have a4:(bn ds m.drives).length<=64:=q7 (qO _ _) S;have f:∀{h':hY} (e:Int),Sp h h' []->iZ m offs w ds c=([],e)->∃r:Sl,(.tuple #[xQ dB 0 0,xP xV e]:Value)=.tuple #[r,xP xV (iZ m offs w ds c).2]/\Sp h h' [EA (iJ 1 ar) r (iZ m offs w ds c).1]:=λe R he=>by
  rw[he];exact⟨⟨dB,0,0⟩,n2,(R.nil 5 1 ar).Ed 0 n2 λ_=>rfl⟩
 refine(io H).mono ?_;rintro _ h1 ⟨rfl,rfl⟩;refine⟨_,n2,aU (λe=>f 14 (Sp.refl _) (by unfold iZ;rw[l0 e])) λe1=>?_⟩;refine(sO x m c (H.at 1 n2) hz H).I1 λh2 R2=>?_;have H2:=H.up R2.ac;have hi:=Wh (dH c) m.objs;generalize (if m.objs.any (dH c)=eH then((m.objs.findIdx (dH c):Nat):Int)else-1)=i at hi;refine⟨i,n2,?_⟩;rcases Ey hi with⟨hneg,hf⟩|⟨n,hn,rfl,hf⟩
 .exact ae (λ_=>f 5 R2 (by unfold iZ;rw[m6 o7,hf])) λe=>absurd hneg e
 refine ae (λe=>absurd e (Int.not_lt.2 (zi n))) λ_=>?_;obtain⟨E,hE⟩:=I3 (m.objs[n])
 have ao:E∈m.objs:=CH
 have ep:iZ m offs w ds c=pS m ds E:=by unfold iZ;rw[m6 o7,hf,hE]
 rw[ep]at f⊢;refine(mv x m (H2.at 1 n2) hz D H2).I2 λlv h3 R3=>?_;have H3:=H2.up R3.ac;refine⟨lv,rfl,(NS x m lv (bn ds m.drives) (H3.at 1 rfl) hz (R3.seq 0 rfl λ_=>rfl) n3 (λk P=>D k (qN.1 P).1) (λk P=>by obtain⟨_,d,hd,_⟩:=pR P;exact⟨d,hd⟩) H3).I1 λh4 R4=>?_⟩;have H4:=H3.up R4.ac;have G:=(R2.up R3.ac).up R4.ac;refine⟨_,n2,aI (λe=>f 11 G (by unfold pS;exact l0 e)) λe3=>?_⟩;have e3:BF m ds=eH:=e3;have W:=(gX m E).1 (((ck m).1 U).2.2.2.2.1 E ao);have a3:E.tries.length<=8:=by have:=kG W.2.2.1.2;omega
 have ax:=((fR m).1 ((ck m).1 U).1).2.2.1;have ab:=(aa.cK H4).2;have ay:cj h1 x m:=H.at 1 n2;obtain⟨ys,F⟩:=bW.fix ay.objs;have a7:=F.2.1;have q:=Fix.row F hn;obtain⟨xe,T⟩:=I3 (ys[n]'n3)
 rw[<-hE,<-T]at q;refine⟨a,n2,x.2.2.2.2.2.2.2,ab.cell n2,(Seq.up F.1 G.ac).cH (g:=aT) n n2 n3 xe (by rw[T]) ?_⟩;refine(Sp.refl h4).alloc af n2 λa9 h5 Q5=>?_;refine Q5.storeAll af 0 n2 n2 (aT xe) n2 n2 n2 n2 λh6 Q6=>?_;have R6:=G.comp Q6;have X:Rd h1 xe.2.2.2 1 aq E.tries:=q.2;have a1:=X.len;have eo:xe.2.1=E.object:=q.1.2.1;have el:xe.2.2.1=E.length:=q.1.2.2;have R6:=R6.kc 41 5 1 ar;refine⟨xe.2.2.2,(Q6.box 0 n2).cell n2,?_⟩;refine ak (λt:Sl×Nat=>(t.1,(t.2:Int))) (λt h'=>t.2<=E.tries.length/\(∀j,j<t.2->(kI m ds E.object E.tries j).2=0)/\Sp h1 h' [cg t.1 ((qz t.2).map λj=>(kI m ds E.object E.tries j).1),aj a9 59 (aT xe)]) (λt=>E.tries.length-t.2) (⟨dB,0,0⟩,0) n2 ⟨n9,λj O=>absurd O (xC _),R6⟩ ?_;rintro⟨o,k⟩ h7 ⟨P,K,z⟩;dsimp only at P K z⊢;have Z:=H.up z.ac;have M:=(aa.cK Z).2;have Y:cj h7 x m:=Z.at 1 n2;have cp:∀{h':hY},bR h' a 40 (dh (az x) pw offs da)->bA h' (a.add 2) 0 [xP xV m.p.1,xP xV m.p.2.1,xP xV m.p.2.2]:=λ{h'} hb=>by
  rw[<-Y.p];exact⟨o5,o5,o5,I4⟩
 refine ae (λe=>?_) λe=>?_
 .have I:k<E.tries.length:=by have e':(k:Int)<(xe.2.2.2.len:Int):=e;omega
  have s:=z.box 1 n2;refine aE ⟨a,n2,m.p,cp M,xe.2.1,s.cell n2,xe.2.2.2,s.cell n2,?_⟩;refine(Seq.up X z.ac).aX k n2 I E.tries[k] n2 ?_;refine⟨xe.2.1,s.cell n2,(rq xe.2.1 k E.tries[k] h7).I0 ?_⟩;obtain⟨c1,c2,c3,_⟩:=cp M;refine⟨_,n2,⟨s.cell n2,s.cell n2,c1,c2,c3,I4⟩,?_⟩;rw[eo];refine(Ce x m E.object k Y hz S D Z).mono ?_;rintro _ h9 ⟨r,ss,rfl,R9⟩;have L:=z.up R9.ac;have H9:=Z.up R9.ac;obtain⟨d1,d2,d3,_⟩:=cp (aa.cK H9).2;have N:Fix dZ 2 piv h9 (λb=>b<h9.size) r ss (dW m ds (bn ds m.drives) E.object k):=R9.at 0 n2;have a0:fk BE h9 r (dW m ds (bn ds m.drives) E.object k):=⟨ss,N.1,N.2.1,N.2.2⟩
  have a2:=BJ m E.object k (Wi Z) (bn ds m.drives);refine⟨r,n2,⟨(L.box 1 n2).cell n2,d1,d2,d3,I4⟩,(Jf m.p (ft E.object k E.tries[k]) r _ h9 a0 n3 TE).I2 λah a8 J=>?_⟩;have eb:iY m.p (ft E.object k E.tries[k]) (dW m ds (bn ds m.drives) E.object k)=kI m ds E.object E.tries k:=by unfold kI;rw[rF 0 I]
  rw[eb]at J⊢;have u:=L.up J.ac;refine⟨(ah,(kI m ds E.object E.tries k).2),n2,⟨(u.box 1 n2).cell n2,I4⟩,bt (λe4=>f 11 (.zip u.ac) ?_) λe4=>?_⟩
  .unfold pS;rw[m6 D0,m6];intro Q;exact e4 (nq (qU.1 Q k (q8.2 I)))
  .have ap:=(L.comp J).aF 3 [0,2,1];refine aa.nG af ap cM n7 λo' a6 ad=>?_;refine⟨(o',k+1),n8,⟨n5,λj O=>?_,?_⟩,n5⟩
   .rcases zd.1 O with O|rfl
    .exact K j O
    .simpa using e4
   .try dsimp only
    rw[List.range_succ,qG];exact ad
 .have am:k=E.tries.length:=by have e':¬(k:Int)<(xe.2.2.2.len:Int):=e;omega
  subst am;refine⟨a,n2,m.p,cp M,xe.2.2.1,(z.box 1 n2).cell n2,?_⟩;rw[el];have A:E.length<=2^20:=by obtain⟨⟨k1,k2⟩,_,z1,z2⟩:=(bL m.p).1 ax;have:m.p.1*m.p.2.2<=16*24:=wi k2 z2 n3 n3;have:=W.2.2.1.2;omega
  refine(TA m.p o _ E.length h7 (z.BN λ_=>rfl) A n7).mono ?_;rintro _ a5 ⟨V,b,rfl,al⟩;have eg:pS m ds E=(iE m.p ((qz E.tries.length).map λk=>(kI m ds E.object E.tries k).1) E.length,0):=by unfold pS;rw[m6 D0,l0 (qU.2 λj O=>m9 (K j (q8.1 O)))]
  rw[eg];exact⟨(V,b),n2,I4,V,n2,((z.comp al).bs [2])⟩
end
def iA(a pw:fY)(d:List bK)(b:Int)(w:Pow)(c:aG)(m:aA):HP:=HP.ex λx:aY=>(aJ bD a pw (az x) b d w c).sep (be x m)
variable {m:aA} {d:bu}
section
variable {pw:fY}
theorem iQ(H:aa B h0 h (iA a pw da offs w ds m::As)):∃x,aa B h0 h (aJ bD a pw (az x) offs da w ds::be x m::As):=by obtain⟨x,H⟩:=H.AZ;exact⟨x,H.CE.nt⟩
theorem mR{x:aY}(H:aa B h0 h (aJ bD a pw (az x) offs da w ds::be x m::As)):aa B h0 h (iA a pw da offs w ds m::As):=
 aa.CD (F:=λx:aY=>(aJ bD a pw (az x) offs da w ds).sep (be x m)) x H.nt.jW
theorem PD(i at_ f:Int)(hm:0<=f/\f<2^32)(H:aa B h0 h (ij pw a d::As)):
  an xZ 44 #[xR (cO a),xP xV i,xP xV at_,xP xX f] h λv h'=>v=xT (lD d i at_ f)/\aa B h0 h' (ij pw a (d.ms i at_ f)::As):=by
 refine ts Tryz.func44 ?_ (G7 (HF [] [(8,9),(11,34)] (G7 (Hf [(10,aH)] [(10,11),(42,63)]))));obtain⟨ok,s,bl,O⟩:=aa.jX (id H);have ab:=(aa.lI (O.aF 2 [1,0])).1;have N:=O.box 0 n2;have M:lD d i at_ f=eL->(Value.bool eL=xT (lD d i at_ f)/\aa B h0 h (ij pw a (d.ms i at_ f)::As)):=λe=>by
  unfold bu.ms;rw[e];exact⟨n2,H⟩
 have r:¬((0<=i/\i<(n1 d.l:Int))/\(0<=at_/\at_<=60)/\f≠0)->lD d i at_ f=eL:=λh=>nb h;refine aE (ae (λe=>M (r n3)) λe1=>⟨a,n2,s,N.cell n2,ae (λe=>M (r n3)) λe2=>ae (λe=>M (r n3)) λe3=>ae (λe=>M (r n3)) λe4=>aV (λe=>M (r n3)) λe5=>?_⟩);have hi:0<=i/\i<(n1 d.l:Int):=n3
 have u:lD d i at_ f=eH:=m9 ⟨hi,⟨n3,n3⟩,e5⟩;obtain⟨n,rfl⟩:∃n:Nat,i=n:=⟨i.toNat,n3⟩
 obtain⟨p,rfl⟩:∃p:Nat,at_=p:=⟨at_.toNat,n3⟩
 have Q:n<n1 d.l:=n3
 have I:d.l[n].length=64:=ok.cell _ (qf Q);obtain⟨c,R⟩:=I3 (d.l[n])
 refine⟨a,n2,s,N.cell n2,?_⟩;obtain⟨rs,H2⟩:=aa.GU (O.aF 2 [1,0]) λ_=>rfl;have T:=H2.dv 0 n2;have ah:=T.2.1;have J:=Fix.row T Q;refine T.1.lm n n2 n3 ?_;refine(O.nil 5 1 ar).bf.append af 0 n2 cN ⟨_,_,n2,n2⟩ n2 n4 (λ_=>rfl) J.1 cD n7 λm h2 V=>?_;have V:aa B h0 h2 (ai 5 m 1 ar (dl c p f 0)::aj a 161 (dE pw d s bl)::cg s d.l::cg bl d.laid::As):=by show aa B h0 h2 (ai 5 m 1 ar c::_);rw[R];exact V
 refine ak (λk:Nat=>(k:Int)) (λk h'=>k<=4/\aa B h0 h' (ai 5 m 1 ar (dl c p f k)::aj a 161 (dE pw d s bl)::cg s d.l::cg bl d.laid::As)) (λk=>4-k) 0 n2 ⟨n3,V⟩ ?_;rintro k h3 ⟨hk,P⟩
 try dsimp only
 refine ae (λe=>?_) λe=>?_
 .have G:k<4:=n3
  have ad:(dl c p f k).length=64:=by rw[rP,R];exact I
  obtain⟨z,hz⟩:=I3 ((dl c p f k)[p+k]'n3)
  have U:qe xV ((p:Int)+(k:Int))=((p+k:Nat):Int):=o6
  rw[U];refine(P.seq 0 n2 λ_=>rfl).aX (p+k) n2 n3 (z.toNat:Int) (by rw[hz];rfl) ?_;refine⟨o6,?_⟩;have E:min (qe xV ((8:Int)*(k:Int))).toNat (qx xX)=8*k:=by rw[ag _];show min ((8:Int)*k).toNat 32=8*k;omega
  rw[E,bT (zr f (2^(8*k)))];have W:=lV z (b8 (zr f (2^(8*k))));rw[W];refine P.set af 0 n2 (λ_=>rfl) n2 (p+k) n2 n3 (z^^^BB f k) n2 n2 n2 λZ X=>⟨I4,?_⟩
  refine⟨k+1,oi,⟨n3,?_⟩,n3⟩;have w:dl c p f (k+1)=(dl c p f k).set (p+k) (z^^^BB f k):=by show(dl c p f k).set (p+k) ((dl c p f k).getD (p+k) 0^^^BB f k)=_;rw[rF 0,hz]
  rw[w];exact X
 .have G:k=4:=n3
  subst G;obtain⟨g,q,X⟩:=(P.aF 3 [2,0,1]).Ba;have L:(bg 5 1 ar g d.l).length=n1 d.l:=gz q;refine⟨a,n2,s,(P.box 1 n2).cell n2,?_⟩;refine X.set af 0 n2 (λ_=>rfl) n2 n n2 n3 m n2 n2 n2 λZ S=>⟨by rw[u],?_⟩
  have A:d.ms (n:Int) (p:Int) f={d with l:=d.l.set n (dl c p f 4)}:=by unfold bu.ms;rw[u,l0 n2,qj,rF [] Q,<-R];rfl
  rw[A];have S:aa B h0 Z (ai 41 s 1 bv (g.set n m)::(bg 5 1 ar g d.l++(ai 5 m 1 ar (dl c p f 4)::aj a 161 (dE pw d s bl)::cg bl d.laid::As))):=S;have F:(ai 41 s 1 bv (g.set n m)::(bg 5 1 ar g d.l++(ai 5 m 1 ar (dl c p f 4)::aj a 161 (dE pw d s bl)::cg bl d.laid::As)))[n+1]?=cO (ai 5 (g[n]'n3) 1 ar d.l[n]):=by rw[qX,qw n3,dU q n Q]
  have K:(ai 41 s 1 bv (g.set n m)::(bg 5 1 ar g d.l++(ai 5 m 1 ar (dl c p f 4)::aj a 161 (dE pw d s bl)::cg bl d.laid::As)))[n1 d.l+1]?=cO (ai 5 m 1 ar (dl c p f 4)):=by rw[qX,ql n3,L,zh];rfl
  have Y:=S.merge (n+1) (n1 d.l+1) n3 F K (D:=ai 5 m 1 ar (dl c p f 4)) λq1 q2 _ _ p2=>(ai 5 m 1 ar (dl c p f 4)).mono p2 λ_ N=>.inr N;have o:(g.set n m).length=(d.l.set n (dl c p f 4)).length:=by rw[qK,qK];exact q
  have y:bg 5 1 ar (g.set n m) (d.l.set n (dl c p f 4))=(bg 5 1 ar g d.l).set n (ai 5 m 1 ar (dl c p f 4)):=by
   apply zq;intro j;by_cases hj:j<n1 d.l
   .rw[dU o j (by rw[qK];exact hj)];by_cases t:n=j
    .subst t;rw[zG n3,wD,wD]
    .rw[wP t,dU q j hj,yY t,yY t]
   .rw[zj (by rw[gz o,qK];omega),zj xa]
  rw[yb,List.set_append_left _ _ n3,yb,List.set_append_right _ _ xa]at Y;rw[qK,L,zh,<-y]at Y;have H8:=aa.CI o Y;refine aa.iF (s:=s) (b:=bl) ⟨by show d.wait<=_;rw[qK];exact ok.wait,by show(d.l.set n _).length<=_;rw[qK];exact ok.len,ok.room,λx W=>?_,ok.laid,ok.cellL⟩ (H8.aF 4 [2,0,3]);rcases zT W with h|rfl
  .exact ok.cell x h
  .rw[rP,R];exact I
theorem TF{c:Kit}{m:aR}{k:Int}{b:fY}(e:bY ds k=cO d)(j:dj da k=cO b)(H:aa B h0 h (aJ c a pw m offs da w ds::As)):
  ∃n:Nat,k=n/\da[n]?=cO (cO b)/\(∀l,iG ds k l=ds.set n (cO l))/\aa B h0 h (ke c.tD (c.f pw) b d::eJ c.tP pw w::Et c a pw m offs da ds n::As):=by
 obtain⟨n,rfl,s⟩:=kE e;have p:ds[n]?=cO (cO d):=by
  unfold bY at e;rw[l0 n3,qj]at e;cases hX:ds[n]? with
  |none=>rw[hX]at e;cases e
  |some o=>rw[hX]at e;exact congrArg cO e
 obtain⟨q,g,r⟩:=Qw.aa.fy H p;have i:q=b:=by unfold dj at j;rw[l0 n3,qj,g]at j;injection j
 subst i;exact⟨n,n2,g,λl=>by simp only[iG,qj],r⟩
theorem Wr{k:Int}{b:fY}(i at_ c:Int)(e:0<=c/\c<2^32)(f:bY ds k=cO d)(o:dj da k=cO b)(H:aa B h0 h (iA a pw da offs w ds m::As)):
  an xZ 44 #[xR (cO b),xP xV i,xP xV at_,xP xX c] h λv h'=>v=xT (lD d i at_ c)/\aa B h0 h' (iA a pw da offs w (iG ds k (d.ms i at_ c)) m::As):=by
 obtain⟨x,H⟩:=iQ H;obtain⟨n,rfl,g,l,p⟩:=TF f o H;refine(PD i at_ c e p).mono ?_;rintro _ h' ⟨rfl,j⟩;rw[l];exact⟨n2,mR (Qw.aa.kR (k:=bD) (n:=n) g j)⟩
theorem Ws{k:Int}{b:fY}(c:bY ds k=cO d)(i:dj da k=cO b)(H:aa B h0 h (iA a pw da offs w ds m::As)):
  an xZ 42 #[xR (cO b)] h λv h'=>v=.tuple #[]/\aa B h0 h' (iA a pw da offs w (iG ds k d.Iq) m::As):=by
 obtain⟨x,H⟩:=iQ H;obtain⟨n,rfl,e,g,j⟩:=TF c i H;refine(Tt j).mono ?_;rintro _ h' ⟨rfl,f⟩;rw[g];exact⟨n2,mR (Qw.aa.kR (k:=bD) (n:=n) e f)⟩
theorem Wu{k:Int}{b:fY}(c:bY ds k=cO d)(i:dj da k=cO b)(H:aa B h0 h (fK a pw da offs w ds m::As)):
  an xZ 41 #[xR (cO b)] h λv h'=>v=.tuple #[]/\aa B h0 h' (fK a pw da offs w (iG ds k d.Iq) m::As):=by
 obtain⟨x,H⟩:=iP H;obtain⟨n,rfl,e,g,j⟩:=TF c i H;refine(SK j).mono ?_;rintro _ h' ⟨rfl,f⟩;rw[g];exact⟨n2,nU (Qw.aa.kR (k:=bP) (n:=n) e f)⟩
theorem KU(h:hY):an xZ 41 #[xR dB] h λv h'=>v=.tuple #[]/\h'=h:=by refine ts Tryz.func41 ?_;exact aU (λe=>oj) λ_=>⟨n2,n2⟩
theorem QK(n:Int)(b:n<2^62)(H:aa B h0 h (iA a pw da offs w ds m::As)):an xZ 15 #[xR (cO pw),xP xV n] h λv h'=>v=.tuple #[]/\aa B h0 h' (iA a pw da offs (w.arm n) ds m::As):=by obtain⟨x,H⟩:=iQ H;obtain⟨ok,d⟩:=H.jQ;refine(Wd n b (d.aF 2 [1,0])).mono ?_;rintro _ h' ⟨rfl,c⟩;exact⟨n2,mR ((c.aF 2 [1,0]).mJ ok)⟩
theorem aaN{k:Int}(e:0<=k/\k<64)(H:aa B h0 h (iA a pw da offs w ds m::As)):hU h ((a.add 10).add (k.toNat*1))=cO (.pointer (dj da k))/\(bY ds k=dB->dj da k=dB)/\(∀d,bY ds k=cO d->∃b,dj da k=cO b):=by
 obtain⟨x,H⟩:=iQ H;obtain⟨n,rfl⟩:∃n:Nat,k=(n:Int):=⟨k.toNat,n3⟩
 refine⟨by rw[qj];exact HS H n,λh=>QH h H,λd h=>?_⟩;obtain⟨b,_,_,_,c,_⟩:=AI h H;exact⟨b,c⟩
theorem QL(H:aa B h0 h (iA a pw da offs w ds m::As)):hU h (a.add 8)=cO (xR (cO pw)):=by obtain⟨x,H⟩:=iQ H;obtain⟨ok,b⟩:=aa.cK H;exact b.cell (uc ok.l8)
theorem aaO(c:ByteArray)(s:Sl)(b:aS)(g:St B h0 As λh=>Rd h s 1 ar b)(e:s.len<=s.cap)(f:c.size<=2^40)(j:bH m=eH)(d:n1 b<=2^20)(H:aa B h0 h (iA a pw da offs w ds m::As)):
  an xZ 30 #[xR (cO a),xS c,s] h λv h'=>v=xP xV (eM m offs w ds c b).1/\
   aa B h0 h' (iA a pw da offs (eM m offs w ds c b).2.2.1 (eM m offs w ds c b).2.2.2 (eM m offs w ds c b).2.1::As):=by
 obtain⟨x,H⟩:=iQ H;refine(PC x m c s b g e f j d H).mono ?_;rintro _ h' ⟨rfl,y,i⟩;exact⟨n2,mR i⟩
theorem TG(b:ByteArray)(d:bH m=eH)(H:aa B h0 h (iA a pw da offs w ds m::As)):
  an xZ 34 #[xR (cO a),xS b] h λv h'=>v=xP xV (cI m offs w ds b).1/\
   aa B h0 h' (iA a pw da offs (cI m offs w ds b).2.2.1 (cI m offs w ds b).2.2.2 (cI m offs w ds b).2.1::As):=by
 obtain⟨x,H⟩:=iQ H;refine(NT b x m d H).mono ?_;rintro _ h' ⟨rfl,y,c⟩;exact⟨n2,mR c⟩
theorem aaP(b:ByteArray)(c:bH m=eH)(H:aa B h0 h (iA a pw da offs w ds m::As)):
  an xZ 32 #[xR (cO a),xS b] h λv h'=>∃r:Sl,v=.tuple #[r,xP xV (iZ m offs w ds b).2]/\Sp h h' [EA (iJ 1 ar) r (iZ m offs w ds b).1]:=by
 obtain⟨x,H⟩:=iQ H;exact Wq x m b c H
theorem YG(b:bH m=eH)(H:aa B h0 h (iA a pw da offs w ds m::As)):
  an xZ 36 #[xR (cO a)] h λv h'=>∃r:Sl,v=r/\Sp h h' [ai 9 r 1 pk (mb m offs w)]:=by
 obtain⟨x,H⟩:=iQ H;exact Tv x m b H
theorem YH(b:ByteArray)(c:bH m=eH)(H:aa B h0 h (iA a pw da offs w ds m::As)):
  an xZ 38 #[xR (cO a),xS b] h λv h'=>∃t:Sl,v=.tuple #[xU #[xP xV (gG m offs w ds b).1.1,xP xV (gG m offs w ds b).1.2.1,xP xV (gG m offs w ds b).1.2.2,t],xP xV (gG m offs w ds b).2]/\Sp h h' [ai 3 t 1 aq (jZ m offs w b)]:=by
 obtain⟨x,H⟩:=iQ H;exact Tz x m b c H
theorem Wv(b:ByteArray)(g:bH m=eH)(H:aa B h0 h (fK a pw da offs w ds m::As)):
  an xZ 37 #[xR (cO a),xS b] h λv h'=>∃t:Sl,v=.tuple #[xU #[xP xV (gG m offs w ds b).1.1,xP xV (gG m offs w ds b).1.2.1,xP xV (gG m offs w ds b).1.2.2,t],xP xV (gG m offs w ds b).2]/\Sp h h' [ai 3 t 1 aq (jZ m offs w b)]:=by
 have e:=(VB H).2;obtain⟨x,f⟩:=iP H;exact Tx x b g (λk d c=>q7 (e k d c).1 (e k d c).2.1) f
theorem YI(b:ByteArray)(g:bH m=eH)(H:aa B h0 h (fK a pw da offs w ds m::As)):
  an xZ 31 #[xR (cO a),xS b] h λv h'=>∃r:Sl,v=.tuple #[r,xP xV (iZ m offs w ds b).2]/\Sp h h' [EA (iJ 1 ar) r (iZ m offs w ds b).1]:=by
 have e:=(VB H).2;obtain⟨x,f⟩:=iP H;exact Yu x b g (λk d c=>q7 (e k d c).1 (e k d c).2.1) f
theorem Ww{f c:fY}{d:List bK}(e:bH m=eH)(H:aa B h0 h (fK a pw da offs w ds m::iA f c d offs w ds m::As)):
  an xZ 18 #[xR (cO a),xR (cO f)] h λv h'=>v=xT eH/\Sp h h' []:=by
 obtain⟨x,H⟩:=iP H;obtain⟨x2,H⟩:=iQ (H.aF 3 [2,0,1]);have b:=H.aF 4 [2,0,3,1];exact Ps x x2 m (b.at 2 n2) (b.at 3 n2) (iO e) (gT e) n2 b
end
def ut(b:Mv):Prop:=(∃n:Int,(0<=n/\n<60)/\b=⟨12,⟨#[]⟩,[],0,n,0,0,[],[]⟩)∨
 ∃(n:Int) (a us:aD),(0<=n/\n<12)/\b=⟨13,⟨#[]⟩,[],0,n,0,0,a,us⟩/\(n1 a=9/\us.length=9)/\(∀x∈a,-1<=x/\x<=7)/\∀x∈us,-1<=x/\x<=65
theorem Kr{P:Int->Prop}{l:aD}{x:Int}(h:∀y∈l,P y)(b:P x):∀y∈l++[x],P y:=λy a=>by
 rcases qu.1 a with a|a
 .exact h y a
 .rw[qA.1 a];exact b
theorem PE(k a b:Int)(h:hY):an xZ 25 #[xP xV k,xP xV a,xP xV b] h λv h'=>∃(x:AG) (m:Mv),v=NH x/\ut m/\Sp h h' [EA jx x m]:=by
 refine ts Tryz.func25 ?_ (G7 (G7 (G7 (G7 (HF [] [(19,27)] (E8 (G7 (F8 (G0 [(9,aH)] [(9,10),(27,53)] (G7 (E8 (F8 (HF [] [(31,42)] E9)) E9))))) E9))))));refine(Sp.refl h).alloc af n2 λA V T=>?_;refine(bm k 3 V).mono ?_;rintro _ h2 ⟨rfl,rfl⟩;refine⟨_,n2,ae (λ_=>?_) λ_=>?_⟩
 .refine(bm a 60 h2).mono ?_;rintro _ h3 ⟨rfl,rfl⟩;refine⟨_,n2,?_⟩;have P:0<=a%60/\a%60<60:=n3
  refine T.storeAll af 0 n2 n2 (jd (12,⟨#[]⟩,⟨dB,0,0⟩,0,a%60,0,0,⟨dB,0,0⟩,⟨dB,0,0⟩)) n2 n2 n2 n2 λE s=>?_;refine⟨(12,⟨#[]⟩,⟨dB,0,0⟩,0,a%60,0,0,⟨dB,0,0⟩,⟨dB,0,0⟩),(s.box 0 n2).aw _ n2,_,⟨12,⟨#[]⟩,[],0,a%60,0,0,[],[]⟩,n2,.inl ⟨_,P,n2⟩,?_⟩;exact s.dG 0 n2 λq _=>⟨⟨n2,n2,n2,n2,n2,n2,qk _⟩,⟨n2,λi x p=>(by simp at p)⟩,⟨n2,λi x p=>(by simp at p)⟩,n2,λi x p=>(by simp at p)⟩
 obtain⟨f,d⟩:∃f:Int->Sl->Sl->AG,f=λn k t=>(13,⟨#[]⟩,⟨dB,0,0⟩,0,n,0,0,k,t):=⟨_,rfl⟩
 refine T.alloc af n2 λa5 h3 Z=>?_;refine Z.storeAll af 1 n2 n2 (jd (13,⟨#[]⟩,⟨dB,0,0⟩,0,0,0,0,⟨dB,0,0⟩,⟨dB,0,0⟩)) n2 n2 n2 n2 λE s=>?_;have s:Sp h E [aj A 44 Kn,aj a5 44 (jd (f 0 ⟨dB,0,0⟩ ⟨dB,0,0⟩))]:=by rw[d];exact s
 refine bj (λ_ h'=>∃n:Int,(0<=n/\n<12)/\Sp h h' [aj A 44 Kn,aj a5 44 (jd (f n ⟨dB,0,0⟩ ⟨dB,0,0⟩)),ai 3 ⟨dB,0,0⟩ 1 aq [],ai 3 ⟨dB,0,0⟩ 1 aq []]) ?_ ?_
 .refine(bm a 5 E).mono ?_;rintro _ R ⟨rfl,rfl⟩;refine⟨_,n2,aV (λ_=>?_) λ_=>⟨0,n3,(s.nil 3 1 aq).nil 3 1 aq⟩⟩;refine(bm b 12 R).mono ?_;rintro _ S ⟨rfl,rfl⟩;have P:0<=b%12/\b%12<12:=n3
  refine⟨_,n2,?_⟩;refine s.storeAt af 1 n2 n2 (off:=4) n2 n2 n2 (show 4<9 by decide) λL j=>⟨b%12,P,?_⟩
  have j:Sp h L [aj A 44 Kn,aj a5 44 (jd (f (b%12) ⟨dB,0,0⟩ ⟨dB,0,0⟩))]:=by rw[d]at j⊢;exact j
  exact(j.nil 3 1 aq).nil 3 1 aq
 rintro _ R ⟨n,n0,H5⟩;refine ak (λt:Sl×Sl×aD×aD=>((n1 t.2.2.1:Nat):Int)) (λt h'=>n1 t.2.2.1<=9/\t.2.2.2.length=n1 t.2.2.1/\(∀x∈t.2.2.1,-1<=x/\x<=7)/\(∀x∈t.2.2.2,-1<=x/\x<=65)/\Sp h h' [aj A 44 Kn,aj a5 44 (jd (f n t.1 t.2.1)),ai 3 t.1 1 aq t.2.2.1,ai 3 t.2.1 1 aq t.2.2.2]) (λt=>9-n1 t.2.2.1) (⟨dB,0,0⟩,⟨dB,0,0⟩,[],[]) n2 ⟨n9,n2,n9,n9,H5⟩ ?_;rintro⟨B,u,o,us⟩ S ⟨Y,I,H,F,y⟩;dsimp only at Y I H F y⊢;refine ae (λe=>?_) λe=>?_
 .have O:∀{h':hY} {g c:Sl},bR h' a5 44 (jd (f n c g))->hU h' (a5.add 8)=cO (xQ g.ptr g.len g.cap):=λD=>by rw[d]at D;exact D.cell n2
  have G:∀{h':hY} {g c:Sl},bR h' a5 44 (jd (f n c g))->hU h' (a5.add 7)=cO (xQ c.ptr c.len c.cap):=λD=>by rw[d]at D;exact D.cell n2
  refine aE ⟨B,G (y.box 1 n2),n3,?_⟩;refine(bm _ 9 S).I0 ?_;obtain⟨q,hq⟩:=I3 ((zr a (2^min ((n1 o:Nat):Int).toNat (qx xV)))%9)
  rw[<-hq];have q0:0<=q/\q<9:=n3
  refine⟨q,n2,⟨G (y.box 1 n2),I4⟩,?_⟩;rw[ag (q-1)];refine y.lit af aq eK n2 [q-1] n2 (show 1<=2^20 by decide) n2 λv L j=>⟨⟨G (j.box 1 n2),I4⟩,?_⟩
  refine j.append af 2 n2 eK ⟨_,_,n2,n2⟩ n2 n4 (λ_=>rfl) (j.seq 4 n2 λ_=>rfl) cP n7 λc h8 K=>⟨I4,?_⟩
  refine K.storeAt af 1 n2 n2 (off:=7) n2 n2 n2 (show 7<9 by decide) λQ z=>⟨I4,?_⟩
  have z:Sp h Q [aj A 44 Kn,aj a5 44 (jd (f n c u)),ai 3 c 1 aq (o++[q-1]),ai 3 u 1 aq us]:=by rw[d]at z⊢;exact aa.bs z [0,1,2,3]
  refine⟨u,O (z.box 1 n2),n3,?_⟩;refine(bm _ 67 Q).I0 ?_;obtain⟨r,hr⟩:=I3 ((zr b (2^min ((n1 o:Nat):Int).toNat (qx xV)))%67)
  rw[<-hr];have r0:0<=r/\r<67:=n3
  refine⟨r,n2,⟨O (z.box 1 n2),I4⟩,?_⟩;rw[ag (r-1)];refine z.lit af aq eK n2 [r-1] n2 (show 1<=2^20 by decide) n2 λv W w=>⟨⟨O (w.box 1 n2),I4⟩,?_⟩
  refine w.append af 3 n2 eK ⟨_,_,n2,n2⟩ n2 n4 (λ_=>rfl) (w.seq 4 n2 λ_=>rfl) cP n7 λJ ab N=>⟨I4,?_⟩
  refine N.storeAt af 1 n2 n2 (off:=8) n2 n2 n2 (show 8<9 by decide) λM l=>⟨I4,?_⟩
  rw[ag (((n1 o:Nat):Int)+1)];have l:Sp h M [aj A 44 Kn,aj a5 44 (jd (f n c J)),ai 3 c 1 aq (o++[q-1]),ai 3 J 1 aq (us++[r-1])]:=by rw[d]at l⊢;exact aa.bs l [0,1,2,3]
  exact⟨(c,J,o++[q-1],us++[r-1]),n9,⟨n7,n7,Kr H ⟨n3,n3⟩,Kr F ⟨n3,n3⟩,l⟩,n7⟩
 .refine⟨f n B u,(y.box 1 n2).aw _ n2,?_⟩;refine y.storeAll af 0 n2 n2 (jd (f n B u)) n2 n2 n2 n2 λL j=>?_;refine⟨f n B u,(j.box 0 n2).aw _ n2,f n B u,⟨13,⟨#[]⟩,[],0,n,0,0,o,us⟩,n2,.inr ⟨n,o,us,n0,n2,⟨n3,n3⟩,H,F⟩,?_⟩;have K:=(((j.freeze 2 n2 λ_=>rfl).freeze 3 n2 λ_=>rfl).aF 4 [2,3]).jW;refine K.dG 0 n2 λq ⟨q1,q2,_,b1,X,z1,U⟩=>?_;rw[d];exact⟨⟨n2,n2,n2,n2,n2,n2,qk _⟩,⟨n2,λi x p=>(by simp at p)⟩,U.mono X,z1.mono b1⟩
theorem PF(p:Pm)(s:Sl)(l:aD)(b:Nat)(a:Bool)(h:hY)(hp:bJ p=eH)(i:Rd h s 1 aq l)(hm:b<=100):
  an xZ 7 #[gr p,s,xP xV b,xT a] h λv h'=>∃(r:Sl) (L:List Mv),v=r/\(∀m∈L,kU p m∨(a=eH/\ut m))/\L.length<=b/\Sp h h' [db 44 r 9 jd jx L]:=by
 refine ts Tryz.func7 ?_ (G7 (G7 (E8 (G6 [(9,bN)] [(9,72)] (G7 (F8 (G0 [(9,bN),(10,aH)] [(9,72)] (HF [] [(11,22)] (E8 (F8 (E8 (G6 [(9,bN)] [(9,10),(24,52)] (HF [(32,mH)] [(24,33)] E9)) E9)) E9)))))) E9))) (args:=[p,s,(b:Int),a]);have T:=i.len;refine(Sp.refl h).boxed λz h1 X=>?_;have fin:∀{h':hY} (r:Sl) (L:List Mv),(∀m∈L,kU p m∨(a=eH/\ut m))->n1 L<=b->Sp h h' [aj z 24 [xP xV p.1,xP xV p.2.1,xP xV p.2.2],db 44 r 9 jd jx L]->∃(I:Sl) (L:List Mv),(Value.slice r.ptr r.len r.cap)=xQ I.ptr I.len I.cap/\(∀m∈L,kU p m∨(a=eH/\ut m))/\L.length<=b/\Sp h h' [db 44 I 9 jd jx L]:=λr L y S H'=>⟨r,L,n2,y,S,H'.bs [1]⟩
 refine aE ?_;refine ak (λt:Sl×List Mv=>(t.1,((3*n1 t.2:Nat):Int))) (λt h'=>(∀m∈t.2,kU p m∨(a=eH/\ut m))/\t.2.length<=b/\Sp h h' [aj z 24 [xP xV p.1,xP xV p.2.1,xP xV p.2.2],db 44 t.1 9 jd jx t.2]) (λt=>b-n1 t.2) (⟨dB,0,0⟩,[]) n2 ⟨n9,n9,X.Ix 44 9 jd jx⟩ ?_;rintro⟨o,L⟩ V ⟨g,P,j⟩;dsimp only at g P j⊢;obtain⟨k,M⟩:=I3 (n1 L)
 rw[<-M]at P⊢;obtain⟨el,ec⟩:=j.abI 1 rfl;refine aE ?_;rw[ag (((3*k:Nat):Int)+2)];refine ae (λe1=>?_) λ_=>fin o L g n3 j;refine ae (λe2=>?_) λ_=>fin o L g n3 j;have Q:3*k+2<n1 l:=n3
 have ad:k<b:=n3
 have K:=i.up j.ac;obtain⟨E,D,y,_,_⟩:=i.elem (3*k) l[3*k] (qd n3);have c:∀{h':hY},Rd h' s 1 aq l->hU h' ((⟨E,D,dB⟩:fY).add (((3*k:Nat):Int).toNat*1))=cO (xP xV l[3*k]):=λ{h'} hr=>by
  obtain⟨b',O,A,_,u3⟩:=hr.elem (3*k) l[3*k] (qd n3);rw[y]at A;injection A with A
  injection A with A u2
  subst A;subst u2;rw[qj,add_eq];have G:=u3.1;rw[add_eq,yh]at G;exact G
 have put:∀{h3:hY} {x:AG} {m:Mv},(kU p m∨(a=eH/\ut m))->Sp h h3 [aj z 24 [xP xV p.1,xP xV p.2.1,xP xV p.2.2],db 44 o 9 jd jx L,EA jx x m]->
   bC xZ (zJ 34 1 #[(0,NH x)]) (.one (.sc .slc)) h3 λv4 G=>bF.ok [((⟨E,D,dB⟩:fY).add (((3*k:Nat):Int).toNat*1),xP xV l[3*k])] G/\bC xZ (zb #[34,34] 34 #[o,v4]) (.one (.sc .slc)) G λv5 w=>bF.ok [((⟨E,D,dB⟩:fY).add (((3*k:Nat):Int).toNat*1),xP xV l[3*k])] w/\
    ∃q:Sl×List Mv,((⟨v5.ptr,v5.len,v5.cap⟩:Sl),qe xV (((3*k:Nat):Int)+3))=(q.1,((3*n1 q.2:Nat):Int))/\((∀m∈q.2,kU p m∨(a=eH/\ut m))/\q.2.length<=b/\Sp h w [aj z 24 [xP xV p.1,xP xV p.2.1,xP xV p.2.2],db 44 q.1 9 jd jx q.2])/\b-n1 q.2<b-k:=λ{h3 x m} f B=>by
  refine B.ir af jd eMv n2 [x] n2 (show 1*9<=2^20 by decide) o0 ⟨c (i.up B.ac),I4⟩ ?_;refine B.AY af 1 2 n4 n2 n2 eMv n2 n4 (λ_=>rfl) acQ o0 n4 n3 λO w u=>?_;refine⟨⟨c (i.up u.ac),I4⟩,(O,L++[m]),?_,⟨λU J=>?_,p7,u.bs [0,1]⟩,p7⟩
  .try dsimp only
   rw[ag (((3*k:Nat):Int)+3),qq,<-M];rfl
  .rcases qu.1 J with h|h
   .exact g U h
   .rw[qA.1 h];exact f
 have ah:∀{F:hY} (W:Sp h F [aj z 24 [xP xV p.1,xP xV p.2.1,xP xV p.2.2],db 44 o 9 jd jx L]),Rd F s 1 aq l:=λH=>i.up H.ac;refine aE (bj (λ(t:Bool) h'=>(t=eH->a=eH)/\Sp h h' [aj z 24 [xP xV p.1,xP xV p.2.1,xP xV p.2.2],db 44 o 9 jd jx L]) ?_ ?_)
 .refine aU (λef=>?_) λ_=>⟨λe=>oj,j⟩
  refine⟨⟨E,D,dB⟩,⟨y,n3,n3⟩,l[3*k],c K,(bm _ 5 V).I0 ?_⟩;exact⟨_,n2,λ_=>ef,j⟩
 rintro t w ⟨Z,u⟩;have d:=i.up u.ac;refine aU (λR=>?_) λ_=>?_
 .refine⟨⟨E,D,dB⟩,⟨y,n3,n3⟩,l[3*k],c d,n4,?_⟩;rw[ag (((3*k:Nat):Int)+1)];refine d.aX (3*k+1) n3 n3 l[3*k+1] n2 ?_;refine d.aX (3*k+2) n3 n3 l[3*k+2] n2 ?_;refine(PE _ _ _ w).mono ?_;rintro _ h6 ⟨x,m,rfl,f,Y⟩;have N:=u.comp Y;exact⟨x,n2,⟨c (i.up N.ac),I4⟩,put (.inr ⟨Z R,f⟩) N⟩
 .try dsimp only
  refine⟨p,(u.box 0 n2).aw _ n2,⟨E,D,dB⟩,⟨y,n3,n3⟩,l[3*k],c d,n4,?_⟩;rw[ag (((3*k:Nat):Int)+1)];refine d.aX (3*k+1) n3 n3 l[3*k+1] n2 ?_;refine d.aX (3*k+2) n3 n3 l[3*k+2] n2 ?_;refine(Wb p _ _ _ w hp).mono ?_;rintro _ h3 ⟨x,m,rfl,f,R3⟩;have B:=u.comp R3;exact⟨x,n2,⟨c (i.up B.ac),I4⟩,put (.inl f) B⟩
section
variable {pw:fY}
end
theorem NY{p q:au}(a b:Sl)(c d:List ByteArray)(h:hY)(r:Qw.Seq h p a 1 pk c)(m:Qw.Seq h q b 1 pk d)(u:n1 c<=2^30):
  an xZ 35 #[a,b] h λv h'=>(c=d->v=xT eH)/\h'=h:=by
 refine ts Tryz.func35 ?_ (G7 (G7 (Hf [(13,aH)] [(4,6),(13,26)])));have k:=r.len;have j:=m.len;refine bt (λe=>⟨λf=>absurd (by rw[k,j,f]) e,n2⟩) λe=>?_;refine ak (λi:Nat=>(i:Int)) (λi h'=>i<=n1 c/\h'=h) (λi=>n1 c-i) 0 n2 ⟨n3,n2⟩ ?_;rintro i t ⟨w,rfl⟩;refine ae (λo=>?_) λo=>⟨λ_=>rfl,n2⟩
 have g:i<n1 c:=by have e':(i:Int)<(a.len:Int):=o;omega
 have l:i<n1 d:=n3
 refine r.aX i n2 g c[i] n2 ?_;refine m.aX i n2 l d[i] n2 ?_;refine aI (λf=>⟨λs=>?_,n2⟩) λf=>⟨i+1,oi,⟨n3,n2⟩,n3⟩
 subst s;simp at f
section
variable {pw:fY}
end
structure acY (b:Mv):Prop where
 put:b.kind=1->b.name.size<=2^40/\b.data.length<=2^20
 slot:b.kind=9∨b.kind=11->0<=b.slot/\b.slot<64
 arm:b.kind=12->b.n<2^62
 mask:b.kind=11->0<=b.mask/\b.mask<2^32
theorem HY{m:aA}(b:bH m=eH)(a:Int)(w:Pow)(d:aG)(n:aA):bH (ce m a w d n).2.1=eH:=by
 unfold ce;split
 .exact b
 split
 .exact b
 rename_i c;have c:bH n=eH:=by
  cases h:bH n with
  |true=>rfl
  |false=>rw[h]at c;exact absurd n2 c
 try dsimp only
 split
 .exact b
 split
 .exact b
 try dsimp only
 split
 .exact c
 .exact b
theorem TH{m:aA}(c:bH m=eH)(a:Int)(w:Pow)(d:aG)(b:ByteArray):bH (cI m a w d b).2.1=eH:=by
 unfold cI;split
 .exact c
 split
 .exact c
 split
 .exact c
 .exact HY c _ _ _ _
theorem aaQ{m:aA}(d:bH m=eH)(a:Int)(w:Pow)(f:aG)(c:ByteArray)(b:aS):bH (eM m a w f c b).2.1=eH:=by
 unfold eM;split
 .exact d
 rename_i e;have e:dR m (gO w a) f c b.length=0:=pt
 cases ht:cV m.p m.next (splitB m.p b).length with
 |none=>exact d
 |some t=>
  try dsimp only
  split
  .exact d
  split
  .exact d
  split
  .exact d
  try dsimp only
  split
  .exact Nn d e ht
  .exact d
theorem NZ{w:Pow}(h:w.calm)(d:bu)(l:dS):(d.rewrite w l).2.1=w:=by
 unfold bu.rewrite;rw[rO h]
 repeat' split
 all_goals rfl
theorem po{w:Pow}(h:w.calm)(m:aA)(N:Int->Int):∀(l:aD) (ds:aG),(makes m N l w ds).2.1=w
 |[],_=>rfl
 |k::l,ds=>by
  have a:(fG m w ds k (N k)).2.1=w:=by
   unfold fG;cases bY ds k with
   |none=>rfl
   |some d=>
    try dsimp only
    unfold eO;split
    .rfl
    split
    .rfl
    split
    .rfl
    exact NZ h _ _
  unfold makes;split
  .rw[a];exact po h m N l _
  .exact a
theorem YJ{w:Pow}(h:w.calm)(m:aA)(a:Int)(d:aG)(c:ByteArray)(b:aS):(eM m a w d c b).2.2.1=w:=by
 unfold eM;split
 .rfl
 cases cV m.p m.next (splitB m.p b).length with
 |none=>rfl
 |some t=>
  try dsimp only
  split
  .rfl
  split
  .exact po h _ _ _ _
  rw[po h];split
  .exact uk h _ _
  .try dsimp only
   rw[uk h];exact uk h _ _
theorem PG{w:Pow}(h:w.calm)(m:aA)(a:Int)(b:aG)(n:aA):(ce m a w b n).2.2.1=w:=by
 unfold ce;split
 .rfl
 split
 .rfl
 try dsimp only
 split
 .rfl
 split
 .exact po h _ _ _ _
 rw[po h];exact uk h _ _
theorem PH{w:Pow}(h:w.calm)(m:aA)(a:Int)(c:aG)(b:ByteArray):(cI m a w c b).2.2.1=w:=by
 unfold cI;split
 .rfl
 split
 .rfl
 split
 .rfl
 .exact PG h _ _ _ _
theorem aaR{m:aA}(f:bH m=eH)(b:Int)(w:Pow)(g:aG)(a:ByteArray):(iZ m b w g a).1.length<=2^20:=by
 unfold iZ;split
 .exact qT _
 cases hf:m.objs.find? (dH a)with
 |none=>exact qT _
 |some E=>
  have c:=zU hf;have d:=(gX m E).1 (((ck m).1 f).2.2.2.2.1 E c);have j:=((fR m).1 ((ck m).1 f).1).2.2.1;have e:E.length<=2^20:=by obtain⟨⟨l,i⟩,_,k,h⟩:=(bL m.p).1 j;have:m.p.1*m.p.2.2<=16*24:=wi i h n3 n3;have:=d.2.2.1.2;omega
  show(pS m g E).1.length<=_;unfold pS;split
  .exact qT _
  split
  .try dsimp only
   unfold iE;split
   .rw[qB];omega
   .exact qT _
  .exact qT _
theorem Wx{m:aA}(d:bH m=eH)(b:Int)(w:Pow)(a:ByteArray):(jZ m b w a).length<=8:=by
 unfold jZ;split
 .exact qT _
 cases hf:m.objs.find? (dH a)with
 |none=>exact qT _
 |some E=>
  have c:=(gX m E).1 (((ck m).1 d).2.2.2.2.1 E (zU hf));have:=kG c.2.2.1.2
  try dsimp only
  omega
section
theorem PI(x:UInt8):qe xW ((x.toNat:Int)+1)=((x+1).toNat:Int):=by have:=x.toNat_lt;rw[UInt8.toNat_add];unfold qe;simp[qx,yG]
theorem KV(s:Int×Int×Int)(t u:Sl)(l:aD)(h:hY)(d:Rd h t 1 aq l)(g:Rd h u 1 aq l)(k:n1 l<=2^30):
  an xZ 39 #[xU #[xP xV s.1,xP xV s.2.1,xP xV s.2.2,t],xU #[xP xV s.1,xP xV s.2.1,xP xV s.2.2,u]] h λv h'=>v=xT eH/\Sp h h' []:=by
 refine ts Tryz.func39 ?_ (args:=[(s.1,s.2.1,s.2.2,t),(s.1,s.2.1,s.2.2,u)]);refine(Sp.refl h).boxed λm j i=>i.boxed λa2 f a=>?_;have c:=a.box 0 n2;have b:=a.box 1 n2;refine⟨s.1,c.cell0 n2,s.1,b.cell0 n2,aV (λ_=>?_) λe=>absurd n2 e⟩;refine⟨s.2.1,c.cell n2,s.2.1,b.cell n2,aV (λ_=>?_) λe=>absurd n2 e⟩;refine⟨s.2.2,c.cell n2,s.2.2,b.cell n2,aV (λ_=>?_) λe=>absurd n2 e⟩;refine⟨t,c.cell n2,u,b.cell n2,(nL t u l l f (Seq.up d a.ac) (Seq.up g a.ac)).I0 ?_⟩;exact⟨_,n2,by rw[m9 rfl],.zip a.ac⟩
variable {B:au} {h0 h:hY} {As:List HP} {a pw a2 pw2:fY} {offs:Int} {da da2:List bK} {w:Pow} {ds:aG} {m:aA}
abbrev ZS(B:au)(g h':hY)(As:List HP)(a pw e c:fY)(b:Int)(f d:List bK):Prop:=∃(w:Pow) (ds:aG) (m:aA),bH m=eH/\aa B g h' (fK a pw f b w ds m::iA e c d b w ds m::As)
theorem PJ(x:AG)(b:Mv)(X:St B h0 As λh=>fk jx h x b)(Y:acY b)(i:bH m=eH)(H:aa B h0 h (fK a pw da offs w ds m::iA a2 pw2 da2 offs w ds m::As)):
  an xZ 8 #[xR (cO a),xR (cO a2),NH x] h λv h'=>v=xT eH/\∃(w':Pow) (M:aG) (m':aA),bH m'=eH/\(b.kind≠12->w.calm->w'=w)/\aa B h0 h' (fK a pw da offs w' M m'::iA a2 pw2 da2 offs w' M m'::As):=by
 refine ts Tryz.func8 ?_ (G7 (E8 (G7 (F8 (G7 (E8 (G7 (G7 (G7 (Hf [(41,aH)] [(10,11),(41,51)])))) (G7 (G7 (G7 (G7 (G7 (G7 (G7 (G7 (G7 (G7 (G7 (G7 (G7 (E8 (HF [] [(183,188)] E9) E9)))))))))))))))))) E9)) [(17,(.l [0,1,2,4,5,6,3,7,8,9])),(25,(.l [0,1,2,4,5,6,7,8,9,10,3,11,12])),(30,(.l [0,1,2,4,5,6,7,8,9,10,3,11,12])),(33,(.l [0,2,3,1,4]))] (args:=[(cO a),(cO a2),x]);obtain⟨⟨Q,e2,e4,e5,e6,e7,L⟩,ed,_⟩:=X.at [_,_] H;refine H.boxed λa1 h1 c=>?_;have c:=c.bf.aF 3 [1,2,0];have j:=c.box 2 n2;have ab:Rd h1 x.2.2.1 1 ar b.data:=(X.at [_,_,_] c).2.1;refine⟨x.1,j.cell0 n2,aV (λk1=>?_) λ_=>?_⟩
 .obtain⟨I,O⟩:=Y.put (Q▸k1);rw[<-e2]at I;refine⟨x.2.2.1,j.cell n2,(HN x.2.2.1 b.data h1 ab n3).I2 λS D p=>?_⟩;have g:=(c.bV p).aF 4 [1,2,0,3];refine⟨S,n2,x.2.1,(g.box 3 n2).cell n2,?_⟩;refine(aaA x.2.1 S b.data (St.dN (A:=ai 5 S 1 ar b.data) 1 n2 λh' F=>F.1.seq (λ_=>rfl) F.2) (g.own 2 n2).cap I i O g).I1 λh3 f=>?_;obtain⟨P,s⟩:=I3 (eM m offs w ds x.2.1 b.data)
  rw[<-s]at f⊢;have ah:Rd h3 x.2.2.1 1 ar b.data:=(X.at [_,_,_,_] f).2.1;refine⟨P.1,n2,x.2.2.1,(f.box 3 n2).cell n2,(lM S x.2.2.1 b.data b.data h3 (f.seq 2 n2 λ_=>rfl) ah n3).I0 ?_⟩;refine⟨_,n2,?_⟩;have ap:=(f.own 2 n2).len;refine ak (λk:Nat=>(k:Int)) (λk h'=>k<=n1 b.data/\∃l:aS,n1 l=n1 b.data/\aa B h0 h' (fK a pw da offs P.2.2.1 P.2.2.2 P.2.1::iA a2 pw2 da2 offs w ds m::ai 5 S 1 ar l::aj a1 44 (jd x)::As)) (λk=>n1 b.data-k) 0 n2 ⟨qT _,b.data,n2,f⟩ ?_;rintro k h5 ⟨W,l,hl,y⟩
  try dsimp only
  refine ae (λe=>?_) λe=>?_
  .have V:k<n1 l:=n3
   refine(y.seq 2 n2 λ_=>rfl).aX k n2 V (l[k].toNat:Int) n2 ?_;refine y.set af 2 n2 (λ_=>rfl) n2 k n2 V (l[k]+1) (by rw[PI];rfl) n2 n2 λh6 K=>?_;exact⟨k+1,oi,⟨n3,l.set k (l[k]+1),by rw[qK];exact hl,K⟩,n3⟩
  refine⟨x.2.1,(y.box 3 n2).cell n2,x.2.2.1,(y.box 3 n2).cell n2,?_⟩;have y:=y.aF 4 [1,0,3];refine(aaO x.2.1 x.2.2.1 b.data (St.cons (St.cons λBs h' hh=>(X Bs h' hh).2.1)) L I i O y).I1 λh7 G=>?_;rw[<-s]at G⊢;refine⟨P.1,n2,aV (λ_=>⟨by rw[m9 rfl],P.2.2.1,P.2.2.2,P.2.1,by rw[s];exact aaQ i _ _ _ _ _,λ_ hc=>by rw[s];exact YJ hc _ _ _ _ _,G.aF 3 [1,0]⟩) λe=>absurd n2 e⟩
 refine aV (λk2=>?_) λ_=>?_
 .refine⟨x.2.1,j.cell n2,(YI x.2.1 i c).I2 λr D p=>?_⟩;have g:=c.bV p;refine⟨(r,(iZ m offs w ds x.2.1).2),n2,x.2.1,(g.box 3 n2).cell n2,(aaP x.2.1 i (g.aF 4 [2,0,1,3])).I2 λR h3 R3=>?_⟩;have f:=g.bV R3;have hl:=aaR i offs w ds x.2.1;refine⟨(R,(iZ m offs w ds x.2.1).2),n2,aV (λ_=>?_) λe=>absurd n2 e⟩;refine(lM r R _ _ h3 (f.at 1 n2) (f.at 0 n2) n3).I0 ⟨_,n2,by rw[m9 rfl],w,ds,m,i,λ_ _=>rfl,f.aF 5 [2,3]⟩
 refine aV (λk3=>?_) λ_=>?_
 .refine⟨x.2.1,j.cell n2,x.2.1,j.cell n2,(Tj x.2.1 i c).I1 λD g=>?_⟩;obtain⟨P,s⟩:=I3 (cI m offs w ds x.2.1)
  rw[<-s]at g⊢;refine⟨P.1,n2,⟨(g.box 2 n2).cell n2,I4⟩,(TG x.2.1 i (g.aF 3 [1,0,2])).I1 λh3 f=>?_⟩;rw[<-s]at f⊢;exact⟨P.1,n2,I4,by rw[beq_self_eq_true],P.2.2.1,P.2.2.2,P.2.1,by rw[s];exact TH i _ _ _ _,λ_ hc=>by rw[s];exact PH hc _ _ _ _,f.aF 3 [1,0]⟩
 refine aV (λk4=>?_) λ_=>?_
 .refine(Yz i c).I2 λr D p=>?_;have g:=c.bV p;refine⟨r,n2,(YG i (g.aF 4 [2,0,1,3])).I2 λR h3 R3=>?_⟩;have f:=g.bV R3;have ad:(mb m offs w).length<=2^30:=by
   have ao:=((ck m).1 i).2.2.2.1;unfold mb;split
   .exact qT _
   .rw[qp];omega
  refine⟨R,n2,(NY r R _ _ h3 (f.seq 1 n2 λ_=>rfl) (f.seq 0 n2 λ_=>rfl) ad).mono ?_⟩;rintro _ _ ⟨hv,rfl⟩;have hv:=hv n2;subst hv;exact⟨eH,n2,n2,w,ds,m,i,λ_ _=>rfl,f.aF 5 [2,3]⟩
 refine aV (λk5=>?_) λ_=>?_
 .refine⟨x.2.1,j.cell n2,(Wv x.2.1 i c).I2 λt D p=>?_⟩;have g:=c.bV p;obtain⟨E,hE⟩:=I3 (gG m offs w ds x.2.1)
  rw[<-hE];refine⟨((E.1.1,E.1.2.1,E.1.2.2,t),E.2),n2,g.alloc af n2 λam h3 f=>?_⟩;have f:=f.bf;refine f.storeAll af 0 n2 n2 (mi E.1 t) n2 n2 n2 n2 λh4 H4=>?_;refine⟨x.2.1,(H4.box 4 n2).cell n2,(YH x.2.1 i (H4.aF 5 [3,0,1,2,4])).I2 λu h5 R5=>?_⟩;have y:=H4.bV R5;rw[<-hE];refine⟨((E.1.1,E.1.2.1,E.1.2.2,u),E.2),n2,y.alloc af n2 λal h6 K=>?_⟩;have K:=K.bf;refine K.storeAll af 0 n2 n2 (mi E.1 u) n2 n2 n2 n2 λh7 G=>?_;have hl:=Wx i offs w x.2.1;refine aV (λ_=>?_) λe=>absurd n2 e;refine⟨(E.1.1,E.1.2.1,E.1.2.2,t),(G.box 2 n2).aw _ n2,(E.1.1,E.1.2.1,E.1.2.2,u),(G.box 0 n2).aw _ n2,?_⟩;refine(KV E.1 t u _ h7 (G.seq 3 n2 λ_=>rfl) (G.seq 1 n2 λ_=>rfl) n3).I1 λh8 R8=>⟨eH,n2,n2,w,ds,m,i,λ_ _=>rfl,(G.up R8.ac).aF 7 [4,5]⟩
 have rp:∀{h':hY},aa B h0 h' (fK a pw da offs w ds m::iA a2 pw2 da2 offs w ds m::aj a1 44 (jd x)::As)->(x.1=9∨x.1=11)->(0<=x.2.2.2.1/\x.2.2.2.1<64)/\hU h' ((a2.add 10).add (x.2.2.2.1.toNat*1))=cO (.pointer (dj da2 x.2.2.2.1))/\(bY ds x.2.2.2.1=dB->dj da2 x.2.2.2.1=dB)/\(∀d,bY ds x.2.2.2.1=cO d->∃b,dj da2 x.2.2.2.1=cO b):=λH W=>by
  have z:0<=x.2.2.2.1/\x.2.2.2.1<64:=by rw[e4];exact Y.slot (by rw[<-Q];exact W)
  exact⟨z,aaN z (H.aF 3 [1,0,2])⟩
 refine aV (λk9=>?_) λ_=>?_
 .obtain⟨z,U,Z,c3⟩:=rp c (.inl k9);refine⟨x.2.2.2.1,j.cell n2,x.2.2.2.1,j.cell n2,a2,n2,⟨z.1,z.2⟩,dj da2 x.2.2.2.1,U,(Kf x.2.2.2.1 c).I0 ?_⟩;refine⟨_,n2,⟨U,j.cell n2,I4⟩,?_⟩;cases hd:bY ds x.2.2.2.1 with
  |none=>
   rw[Kg hd c,Z hd];refine(KU _).I0 ⟨(),n2,aU (λe=>oj) λ_=>⟨n2,w,ds,m,i,λ_ _=>rfl,c.aF 3 [0,1]⟩⟩
  |some d=>
   obtain⟨q,F⟩:=Qy hd c;obtain⟨q2,o⟩:=c3 d hd;rw[F,o];refine(Wu hd F c).I1 λD g=>⟨(),n2,aU (λ_=>?_) λe=>oj⟩;refine(Ws hd o (g.aF 3 [1,0,2])).I1 λh3 f=>⟨(),n2,n2,w,_,m,i,λ_ _=>rfl,f.aF 3 [1,0]⟩
 refine aV (λT=>?_) λ_=>?_
 .obtain⟨z,U,Z,c3⟩:=rp c (.inr T);have N:0<=x.2.2.2.2.2.2.1/\x.2.2.2.2.2.2.1<2^32:=by rw[e7];exact Y.mask (by rw[<-Q];exact T)
  refine⟨x.2.2.2.1,j.cell n2,x.2.2.2.1,j.cell n2,a2,n2,⟨z.1,z.2⟩,dj da2 x.2.2.2.1,U,(Kf x.2.2.2.1 c).I0 ?_⟩;refine⟨_,n2,⟨U,j.cell n2,I4⟩,x.2.2.2.2.1,j.cell n2,x.2.2.2.2.2.1,j.cell n2,x.2.2.2.2.2.2.1,j.cell n2,?_⟩;cases hd:bY ds x.2.2.2.1 with
  |none=>
   rw[Kg hd c,Z hd];refine(KF _ _ _ _).I1 λD p=>⟨eL,n2,aU (λe=>oj) λ_=>⟨n2,w,ds,m,i,λ_ _=>rfl,(c.up p.ac).aF 3 [0,1]⟩⟩
  |some d=>
   obtain⟨q,F⟩:=Qy hd c;obtain⟨q2,o⟩:=c3 d hd;rw[F,o];refine(VD x.2.2.2.2.1 x.2.2.2.2.2.1 x.2.2.2.2.2.2.1 N hd F c).I1 λD g=>?_;have b2:=g.box 2 n2;refine⟨_,n2,aU (λ_=>?_) λe=>oj⟩;refine⟨x.2.2.2.2.1,b2.cell n2,x.2.2.2.2.2.1,b2.cell n2,x.2.2.2.2.2.2.1,b2.cell n2,?_⟩;refine(Wr x.2.2.2.2.1 x.2.2.2.2.2.1 x.2.2.2.2.2.2.1 N hd o (g.aF 3 [1,0,2])).I1 λh3 f=>⟨_,n2,by rw[beq_self_eq_true],w,_,m,i,λ_ _=>rfl,f.aF 3 [1,0]⟩
 refine aV (λJ=>?_) λ_=>⟨n2,w,ds,m,i,λ_ _=>rfl,c.aF 3 [0,1]⟩
 have hn:x.2.2.2.2.1<2^62:=by rw[e5];exact Y.arm (by rw[<-Q];exact J)
 refine aE ⟨x.2.2.2.2.1,j.cell n2,(Kh c).I0 ?_⟩;refine⟨_,n2,⟨j.cell n2,I4⟩,(QE x.2.2.2.2.1 hn c).I1 λD g=>?_⟩;refine⟨(),n2,I4,a2,n2,cO pw2,QL (g.aF 3 [1,0,2]),x.2.2.2.2.1,(g.box 2 n2).cell n2,?_⟩;refine(QK x.2.2.2.2.1 hn (g.aF 3 [1,0,2])).I1 λh3 f=>⟨(),n2,I4,n2,_,ds,m,i,λW _=>absurd (by rw[<-Q];exact J) W,f.aF 3 [1,0]⟩
end
variable {b:fY} {mc:aR}
section
variable {pw:fY}
abbrev EB(l:aD):aG:=(cY (dC l) (sn l) Pow.new (jU l)).2.2
abbrev BL(l:aD):aA:=cv (dC l) (sn l) (jU l)
theorem Wy(s:Sl)(l:aD)(h:hY)(B:Rd h s 1 aq l):an xZ 6 #[s] h λv h'=>
  (iN (dC l) (sn l) (jU l)≠0->v=.tuple #[xR dB,xR dB]/\Sp h h' [])/\
  (iN (dC l) (sn l) (jU l)=0->∃(a a2 pw pw2:fY) (x x2:aY) (da da2:List bK),v=.tuple #[xR (cO a),xR (cO a2)]/\
   Sp h h' [aJ bP a pw (az x) 0 da Pow.new (EB l),be x (BL l),aJ bD a2 pw2 (az x2) 0 da2 Pow.new (EB l),be x2 (BL l)]):=by
 refine ts Tryz.func6 ?_;refine(Pt s l h B).I2 λr I D=>⟨(dC l,sn l,r),n2,?_⟩;have t:=FY l;have A:=Jb l;refine D.alloc af n2 λa2 K u=>?_;refine u.storeAll af 1 n2 n2 [xP xV (dC l).1,xP xV (dC l).2.1,xP xV (dC l).2.2] n2 n2 n2 n2 λh3 j=>?_;have j:Sp h h3 [ai 3 r 1 aq (jU l),aj a2 24 [xP xV (dC l).1,xP xV (dC l).2.1,xP xV (dC l).2.2]]:=j;refine(JI h3).I2 λpw H F=>?_;have q:=j.bV F;refine⟨_,n2,q.boxed λpw2 y i=>?_⟩;have i:Sp h y [gc pw2 Pow.new,eJ 96 pw Pow.new,ai 3 r 1 aq (jU l),aj a2 24 [xP xV (dC l).1,xP xV (dC l).2.1,xP xV (dC l).2.2]]:=aa.mI (l:=0) (w:=Pow.new) (λk e=>oj) i.bf;refine⟨dC l,(i.box 3 n2).aw _ n2,?_⟩;refine(ET (dC l) (sn l) r (jU l) (As:=[gc pw2 Pow.new,ai 3 r 1 aq (jU l),aj a2 24 [xP xV (dC l).1,xP xV (dC l).2.1,xP xV (dC l).2.2]]) (St.dN 1 n2 λh' b=>b.1.seq (λ_=>rfl) b.2) n3 (i.aF 2 [1,0])).mono ?_;rintro _ J ⟨z,n⟩;by_cases f:iN (dC l) (sn l) (jU l)=0
 .obtain⟨g,o,_⟩:=OV n3 f;rw[o]at n;obtain⟨a,x,da,rfl,d⟩:=n g;refine⟨(cO a,0),n2,dC l,(d.box 4 n2).aw _ n2,?_⟩;refine(DM (dC l) (sn l) r (jU l) (As:=[aJ bP a pw (az x) Pow.new.offs da Pow.new (EB l),be x (BL l),ai 3 r 1 aq (jU l),aj a2 24 [xP xV (dC l).1,xP xV (dC l).2.1,xP xV (dC l).2.2]]) (St.dN 2 n2 λh' b=>b.1.seq (λ_=>rfl) b.2) n3 (d.aF 3 [2,0,1])).mono ?_;rintro _ E ⟨_,p⟩;rw[o]at p;obtain⟨c,x2,da2,rfl,m⟩:=p g;refine⟨(cO c,0),n2,λh=>absurd f h,λ_=>⟨a,c,pw,pw2,x,x2,da,da2,n2,?_⟩⟩;exact(show aa _ _ _ [aJ bD c pw2 (az x2) 0 da2 Pow.new (EB l),be x2 (BL l),aJ bP a pw (az x) 0 da Pow.new (EB l),be x (BL l),ai 3 r 1 aq (jU l),aj a2 24 [xP xV (dC l).1,xP xV (dC l).2.1,xP xV (dC l).2.2]]from m).bs [2,3,0,1]
 .have g:(cY (dC l) (sn l) Pow.new (jU l)).1≠0:=by rw[sM,m6 f];exact f
  obtain⟨rfl,d⟩:=z g;refine⟨(dB,_),n2,dC l,(d.box 2 n2).aw _ n2,?_⟩;refine(DM (dC l) (sn l) r (jU l) (As:=[ai 3 r 1 aq (jU l),aj a2 24 [xP xV (dC l).1,xP xV (dC l).2.1,xP xV (dC l).2.2]]) (St.dN 0 n2 λh' b=>b.1.seq (λ_=>rfl) b.2) n3 d).mono ?_;rintro _ E ⟨G,_⟩;obtain⟨rfl,m⟩:=G g;exact⟨(dB,_),n2,λ_=>⟨n2,.zip m.ac⟩,λh=>absurd h f⟩
end
theorem kU.sm{p:Pm}{b:Mv}(g:bJ p=eH)(h:kU p b):acY b:=by
 obtain⟨⟨j,c⟩,_,i,d⟩:=(bL p).1 g;have f:p.1*p.2.2<=16*24:=wi c d n3 n3;refine⟨λa=>?_,λa=>?_,λa=>?_,λa=>?_⟩
 .obtain⟨e,k⟩:=Qw.kU.put h a;have:=Yy _ e;exact⟨n3,n3⟩
 .unfold kU at h;rcases h with h|h|h|h|h|h|h|h|h<;>omega
 .unfold kU at h;rcases h with h|h|h|h|h|h|h|h|h<;>omega
 .unfold kU at h;rcases h with h|h|h|h|h|h|h|h|h<;>omega
variable {a2 pw2:fY} {da2:List bK}
section
variable {pw:fY}
end
variable {t t2 e eb k:Nat} {z:aR} {by_:Nat} {α:Type} {p:au} {v:Sl} {f:α->aR} {l l2:List α} {pre post:aR}
section
variable {C:Ctx} {ty:Nat}
end
section
abbrev lS:aY:=(0,0,0,0,0,0,⟨dB,0,0⟩,⟨dB,0,0⟩)
variable {B:au} {h0:hY} {As:List HP} {a pw a2 pw2:fY} {offs:Int} {da da2:List bK} {w:Pow} {ds:aG} {m:aA}
theorem aaS(z:aY)(n:aA)(d:St B h0 As λh=>cj h z n)(c:bH m=eH)(b:bG n)(H:aa B h0 h (fK a pw da offs w ds m::As)):
  an xZ 16 #[xR (cO a),cu z] h λv h'=>v=xP xV (ce m offs w ds n).1/\aa B h0 h' (fK a pw da offs (ce m offs w ds n).2.2.1 (ce m offs w ds n).2.2.2 (ce m offs w ds n).2.1::As):=by
 obtain⟨x,H⟩:=iP H;obtain⟨f,_⟩:=(fR m).1 ((ck m).1 c).1;refine(EX x m z n d (iO c) b n3 H).mono ?_;rintro _ h' ⟨rfl,y,e⟩;exact⟨n2,nU e⟩
end
section
theorem PK(s:Sl)(l:aD)(h:hY)(y:Rd h s 1 aq l)(F:n1 l<=2^30):an xZ 115 #[s] h λv h'=>∃(r:Sl) (k:aD),v=r/\k.length=n1 l/\Sp h h' [ai 3 r 1 aq k]:=by
 refine ts Tryz.func115 ?_ (G7 (G7 (E8 (G7 (F8 (G0 [(10,aH)] [(4,6),(10,47)] (G7 (G7 (E8 (F8 (G7 (G7 (F8 (G0 [(5,aH)] [(5,6),(14,46)] (HF [] [(14,28)] E9)))))) E9)))))) E9)));refine((Sp.refl h).nil 3 1 aq).append af 0 n2 eK ⟨_,_,n2,n2⟩ n2 n4 (λ_=>rfl) y cP n7 λv d o=>?_;have o:Sp h d [ai 3 v 1 aq l]:=o;have w:=(o.own 0 n2).len;refine ak (λt:Nat×aD=>(t.1:Int)) (λt h'=>t.1<=n1 l/\t.2.length=n1 l/\Sp h h' [ai 3 v 1 aq t.2]) (λt=>n1 l-t.1) (0,l) n2 ⟨qT _,n2,o⟩ ?_;rintro⟨i,k⟩ m ⟨z,p,u⟩;dsimp only at z p u⊢;refine ae (λe=>?_) λe=>⟨v,k,n2,p,u⟩
 have q:i<n1 l:=n3
 refine ak (λt:Nat×aD=>(t.1:Int)) (λt h'=>t.1<=i/\t.2.length=n1 l/\Sp h h' [ai 3 v 1 aq t.2]) (λt=>t.1) (i,k) n2 ⟨qk _,p,u⟩ ?_;rintro⟨j,a⟩ h3 ⟨B,c,g⟩;dsimp only at B c g⊢;have out:∃f:Nat×aD,qe xV ((i:Int)+1)=(f.1:Int)/\(f.1<=n1 l/\f.2.length=n1 l/\Sp h h3 [ai 3 v 1 aq f.2])/\l.length-f.1<n1 l-i:=⟨(i+1,a),oi,⟨q,c,g⟩,n5⟩
 have b:=g.seq 0 n2 λ_=>rfl;refine aE (ae (λH=>?_) λ_=>out);have D:qe xV ((j:Int)-1)=((j-1:Nat):Int):=o6
 rw[D];have d:j<n1 a:=n3
 have m:j-1<n1 a:=n3
 refine b.aX j n2 d a[j] n2 (b.aX (j-1) n2 m a[j-1] n2 (ae (λ_=>?_) λ_=>out));refine b.aX (j-1) n2 m a[j-1] n2 (b.aX j n2 d a[j] n2 ?_);refine g.set af 0 n2 (λ_=>rfl) n2 j n2 d a[j-1] n2 n2 n2 λE A=>⟨I4,?_⟩
 refine aa.set af A 0 n2 (λ_=>rfl) n2 (j-1) n2 (by rw[qK];exact m) a[j] n2 n2 n2 λG x=>⟨I4,?_⟩
 exact⟨(j-1,(a.set j a[j-1]).set (j-1) a[j]),n2,⟨n5,C0,x⟩,n5⟩
theorem PL(s:Sl)(l:aD)(h:hY)(z:Rd h s 1 aq l)(y:n1 l<=2^30):an xZ 47 #[s] h λv h'=>∃(r:Sl) (k:aD),v=r/\k.length<=n1 l/\Sp h h' [ai 3 r 1 aq k]:=by
 refine ts Tryz.func47 ?_ (G7 (G7 (Hf [(3,bN),(9,aH)] [(3,4),(5,6),(9,31)])));refine(PK s l h z y).mono ?_;rintro _ I ⟨j,a,rfl,E,p⟩;have q:=(p.own 0 n2).len;refine⟨j,n2,?_⟩;refine ak (λt:Sl×Nat×aD=>(t.1,(t.2.1:Int))) (λt h'=>t.2.1<=n1 a/\t.2.2.length<=t.2.1/\Sp h h' [ai 3 j 1 aq a,ai 3 t.1 1 aq t.2.2]) (λt=>n1 a-t.2.1) (⟨dB,0,0⟩,0,[]) n2 ⟨qT _,qk _,p.nil 3 1 aq⟩ ?_;rintro⟨o,i,k⟩ A ⟨F,w,d⟩;dsimp only at F w d⊢;have f:=(d.own 1 n2).len;refine ae (λe=>?_) λe=>⟨o,k,n2,n3,d.bs [1]⟩
 have c:i<n1 a:=n3
 refine(d.seq 0 n2 λ_=>rfl).aX i n2 c a[i] n2 ?_;have g:bC xZ (zJ 22 1 #[(0,xP xV a[i])]) (.one (.sc .slc)) A λv5 h3=>bC xZ (zb #[22,22] 22 #[o,v5]) (.one (.sc .slc)) h3 λG m=>
   ∃b:Sl×Nat×aD,(G,qe xV ((i:Int)+1))=(b.1,(b.2.1:Int))/\(b.2.1<=n1 a/\b.2.2.length<=b.2.1/\Sp h m [ai 3 j 1 aq a,ai 3 b.1 1 aq b.2.2])/\a.length-b.2.1<n1 a-i:=by
  refine d.push af 1 n2 eK n2 n4 (λ_=>rfl) cP a[i] n2 n4 n3 λx m u=>?_;exact⟨(x,i+1,k++[a[i]]),oi,⟨c,p7,u⟩,n5⟩
 refine aV (λ_=>g) λB=>?_;have D:0<n1 k:=by
  rcases Nat.eq_zero_or_pos k.length with h|h
  .exact absurd (by rw[f,h];rfl) B
  .exact h
 have H:qe xV ((o.len:Int)-1)=((n1 k-1:Nat):Int):=by rw[f,ag _];omega
 rw[H];refine(d.seq 1 n2 λ_=>rfl).aX (n1 k-1) n2 n3 (k[n1 k-1]'n3) n2 (bt (λ_=>g) λ_=>?_);exact⟨(o,i+1,k),oi,⟨c,n5,d⟩,n5⟩
theorem count_le(p:Pm)(n:Int)(b:0<=n):countP p n<=n:=by
 unfold countP;split
 .have:=Int.ediv_le_self (a:=n-1) (p.1*p.2.2) (by rename_i h;simp at h;omega);omega
 .exact b
end
end Go.Qw
