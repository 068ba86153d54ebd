/- Lemmas for the proof of the law; no condition. -/
import Derived.Test.YtcjnjifdphcijaaGreatDoorKD
import Derived.Lib.BufferWrite
import Derived.Lib.UnsafeStr
set_option maxHeartbeats 2000000
set_option linter.unusedVariables false
set_option linter.unusedSimpArgs false
open Go.Proofs.Tryz renaming prog -> xT
open List renaming dropLast_concat_getLast -> yL, filterMap_append -> vZ, length -> vx, not_mem_nil -> yx, range -> qx, replicate -> qg
open Go.Value renaming agg -> xO, bool -> xN, int -> xJ, pointer -> xL, slice -> xK, string -> xM
open Go.IntKind renaming bits -> qI, i64 -> xP, u32 -> xR, u8 -> xQ, wrap -> qe
open Int renaming tdiv -> vm
open Go.Instr renaming slice -> xn, sliceAt -> w5, sliceBounds -> wo, storeAt -> qH
open Prod renaming fst -> qE, snd -> zi
open BitVec renaming ofInt -> qP
open Array renaming length_toList -> xq
set_option maxRecDepth 100000
open Option renaming some -> dB, none -> et
open Bool renaming true -> ez, false -> eH
open Go renaming Addr -> eS
open Go.Qw renaming Heap -> f7
open List renaming length -> hY
open Go.Qw.cN renaming two -> u7, n -> u9, inn -> v1, loop -> v2, join -> v6, tn -> v7, lp -> wj, jn -> ws
namespace Go.Qw
open Go.Proofs
variable {B B':av} {h0 h0' h h':f7} {As As':List HP} {a b pw2:eS} {d:ba}
section
variable {pw:eS}
end
variable {a2:eS} {mc:aT} {offs:Int} {da da2:List bD} {w:Pow} {ds:aD}
section
variable {pw:eS}
end
variable {x:bh}
section
variable {pw:eS}
end
def sj(l:az)(k:Nat):Int:=l.getD k 0
def kF(l:az):Pm:=Cb (sj l 0) (sj l 1) (sj l 2)
def Ae(l:az):Nat:=(2+sj l 4%4).toNat
def Ie(l:az):az:=(qx (Ae l)).map λi=>8+sj l (5+i)%50
def WC(l:az):Int:=sj l 3%7
theorem afT(l:az):2<=Ae l/\Ae l<=5:=by unfold Ae;omega
theorem acY(l:az):hY (Ie l)=Ae l:=by simp[Ie]
section
variable {pw:eS}
theorem sl(s:Sl)(l:az)(k:Nat)(h:f7)(b:Rd h s 1 aw l):ai xT 10 #[s,xJ xP k] h λv h'=>v=xJ xP (sj l k)/\h'=h:=by
 refine ts Tryz.func10 ?_;unfold sj;have c:=b.len;refine af (λe=>?_) (λe=>⟨?_,hZ⟩)
 .have a:k<hY l:=ii
  refine b.bo k hZ a (l.getD k 0) (by rw[getD_lt a];rfl) ⟨hZ,hZ⟩
 .rw[List.getD_eq_getElem?_getD,List.getElem?_eq_none ii];rfl
theorem SG(s:Sl)(l:az)(h:f7)(u:Rd h s 1 aw l):ai xT 14 #[s] h λv h'=>∃r:Sl,v=.tuple #[kb (kF l),xJ xP (WC l),r]/\Sp h h' [an 3 r 1 aw (Ie l)]:=by
 refine ud s ?_;refine(Sp.refl h).alloc ae hZ λF w q=>?_;have b:=u.up q.ac;refine(sl s l 0 w b).xa ⟨_,hZ,(sl s l 1 _ b).xa ?_⟩;refine⟨_,hZ,(sl s l 2 _ b).mono ?_⟩;rintro _ B ⟨rfl,rfl⟩;refine⟨_,hZ,(Wc _ _ _ B).xc λM I=>?_⟩;have H:=q.up I.ac;refine⟨kF l,hZ,?_⟩;refine H.alloc ae hZ λf O G=>?_;refine G.storeAll ae 1 hZ hZ [xJ xP (kF l).1,xJ xP (kF l).2.1,xJ xP (kF l).2.2] hZ hZ hZ hZ λQ m=>?_;have m:=(m.nil 3 1 aw).bt [2,1,0];have N:=afT l;have K:=acY l;refine aq (λt:Sl×Nat=>(t.1,(t.2:Int))) (λt h'=>t.2<=Ae l/\Sp h h' [an 3 t.1 1 aw ((Ie l).take t.2),aj f 25 [xJ xP (kF l).1,xJ xP (kF l).2.1,xJ xP (kF l).2.2],aj F 25 [xJ xP 0,xJ xP 0,xJ xP 0]]) (λt=>Ae l-t.2) (⟨et,0,0⟩,0) hZ ⟨i6,m⟩ ?_;rintro⟨o,i⟩ h8 ⟨P,c⟩;dsimp only at*;have a:=u.up c.ac;refine(sl s l 4 h8 a).xa ⟨_,hZ,(cK _ 4 _).mono ?_⟩;rintro _ h8 ⟨rfl,rfl⟩;refine⟨_,hZ,?_⟩;have g:=c.box 1 hZ
 try dsimp only
 rw[ag (2+sj l 4%4)];have j:2+sj l 4%4=(Ae l:Int):=by unfold Ae;omega
 rw[j];refine af (λe=>?_) (λe=>?_)
 .have z:i<Ae l:=ii
  rw[ag ((5:Int)+i)];have E:(5:Int)+i=((5+i:Nat):Int):=ii
  rw[E];refine(sl s l (5+i) h8 a).xa ⟨_,hZ,(cK _ 50 _).xa ?_⟩;refine⟨_,hZ,?_⟩
  try dsimp only
  rw[ag (8+sj l (5+i)%50)];refine c.push ae 0 hZ gb hZ i0 (λ_=>rfl) fd (8+sj l (5+i)%50) hZ i0 i5 λL x n=>?_;refine⟨(L,i+1),i7,⟨i4,?_⟩,i4⟩
  try dsimp only
  rw[aE _ _ (show i<hY (Ie l) by omega)];have A:(Ie l)[i]'ii=8+sj l (5+i)%50:=by simp[Ie]
  rw[A];exact n
 .have k:i=Ae l:=ii
  subst k;rw[qh ii]at c;have p:bR.ok [(f,(xJ xP (kF l).1)),(f.add 1,(xJ xP (kF l).2.1)),(f.add 2,(xJ xP (kF l).2.2))] h8:=⟨g.cell0 hZ,g.cell hZ,g.cell hZ,x7⟩
  refine⟨kF l,g.aA _ hZ,(sl s l 3 h8 a).xa ?_⟩;refine⟨_,hZ,p,(cK _ 7 _).xa ?_⟩;refine⟨_,hZ,p,?_⟩;refine c.storeAll ae 2 hZ hZ [xJ xP (kF l).1,xJ xP (kF l).2.1,xJ xP (kF l).2.2] hZ hZ hZ hZ λD d=>⟨x7,?_⟩
  exact⟨kF l,(d.box 2 hZ).aA _ hZ,o,hZ,d.bt [0]⟩
theorem acZ:(dH (1,1,1) 0 Pow.new [5]).1=0:=j0
theorem Nu(x:bh)(m:ak)(f:cR h x m)(c:m.objs=[])(H:aa B h0 h (bf bi a pw (aM x) offs da w ds::As)):
  ai xT 36 #[xL (dB a)] h λv h'=>v=xK et 0 0/\h'=h:=by
 refine ts Tryz.func36 ?_ (v7 (v7 (v7 (wj [(3,cM),(14,aU)] [(3,4),(5,6),(14,25)]))));obtain⟨ok,d⟩:=aa.cE H;refine(rp (dB a) (R:=λv h'=>v=xN (dE w offs)/\h'=h) ?_).mono ?_
 .skip
  refine aY (λe=>jj) λ_=>(lR H).xa ⟨_,hZ,hZ,hZ⟩
 rintro _ _ ⟨rfl,rfl⟩;refine⟨_,hZ,aY (λ_=>⟨hZ,hZ⟩) λ_=>⟨a,hZ,x.2.2.2.2.2.2.2,d.cell hZ,?_⟩⟩;have b:=bN.len f.objs;rw[c]at b;refine aq (λ_:Unit=>((⟨et,0,0⟩:Sl),(0:Int))) (λ_ h'=>h'=_) (λ_=>0) () hZ hZ ?_;rintro _ g rfl;exact af (λe=>absurd e (by rw[b];decide)) λ_=>⟨hZ,hZ⟩
end
abbrev kC(p s:bD)(L:List bD):aT:=.pointer p::.pointer s::L.map .pointer
abbrev eZ(p s:bD):aT:=kC p s (qg 64 et)
variable {b2:eS}
section
variable {pw:eS}
theorem ZT(pw s:eS):aI xT (Instr.build 60 #[(0,xL (dB pw)),(1,xL (dB s))]) (xO (eZ (dB pw) (dB s)).toArray):=
 uD ae (i:=_) hZ hZ hZ (vs:=[(0,xL (dB pw)),(1,xL (dB s))]) (cells:=(eZ (dB pw) (dB s)).toArray) js
theorem MJ(p:Pm)(extra:Int)(s:Sl)(l:az)(o:St B h0 As λh=>Rd h s 1 aw l)(r:hY l<=2^20)(H:aa B h0 h As):
  ai xT 15 #[kb p,xJ xP extra,s] h λv h'=>
   ((dH p extra Pow.new l).1≠0->v=.tuple #[xL et,xJ xP (dH p extra Pow.new l).1]/\aa B h0 h' As)/\
   ((dH p extra Pow.new l).1=0->∃(b a pw:eS) (x:bh) (da:List bD),v=.tuple #[xL (dB b),xJ xP 0]/\
    aa B h0 h' (aj b 60 (eZ (dB pw) (dB a))::bf bi a pw (aM x) Pow.new.offs da (dH p extra Pow.new l).2.1 (dH p extra Pow.new l).2.2::bI x (cx p extra l)::As)):=by
 refine ts Tryz.func15 ?_ (args:=[p,(extra:Int),s]);refine H.boxed λk i g=>?_;have g:aa B h0 i (aj k 25 [xJ xP p.1,xJ xP p.2.1,xJ xP p.2.2]::As):=g.aZ;refine(Yw i).x0 λpw t m=>?_;have j:=g.ci m;refine⟨_,hZ,p,(j.box 1 hZ).aA _ hZ,?_⟩;refine(Se p extra s l (o.cons) r j).mono ?_;rintro _ h3 ⟨q,n⟩;by_cases c:(dH p extra Pow.new l).1=0
 .obtain⟨a,x,da,rfl,d⟩:=n c;refine⟨(dB a,0),hZ,bA (λe=>absurd hZ e) λ_=>⟨_,ZT pw a,d.boxed λb u f=>?_⟩⟩;have f:=f.aZ;exact⟨λe=>absurd c e,λ_=>⟨b,a,pw,x,da,hZ,f.aJ 4 [0,1,2]⟩⟩
 .obtain⟨rfl,d⟩:=q c;refine⟨(et,(dH p extra Pow.new l).1),hZ,bA (λ_=>⟨λ_=>⟨hZ,d.rest⟩,λe=>absurd e c⟩) λe=>absurd e c⟩
theorem SH{p:bD}{L:List bD}(k:Int)(d:bQ h b 60 (kC p (dB a) L))(ok:fM mc da ds)(f:bQ h a 127 (bS mc pw offs da)):ai xT 67 #[xL (dB b),xJ xP k] h λv h'=>v=.pointer (gH da k)/\h'=h:=by
 refine ts Tryz.func67 ?_ (v7 (u7 (v6 [] [(4,28)] (v1 (ws [(5,ka)] [(5,16)] u9))) u9));have c:¬(0<=k/\k<64)->Value.pointer et=.pointer (gH da k)/\h=h:=λe=>by unfold gH;rw[f9 e];exact⟨hZ,hZ⟩
 refine aG (aG (aY (λe=>jj) λ_=>af (λe=>aY (λ_=>c ii) λe=>jj) λg=>?_));refine aY (λe=>c (by have:=hU e;omega)) λe=>?_;refine⟨b,hZ,dB a,d.cell hZ,aY (λ_=>⟨b,hZ,dB a,d.cell hZ,(mM k ok f).mono ?_⟩) λe=>jj⟩;rintro _ _ ⟨rfl,rfl⟩;exact⟨_,hZ,hZ,hZ⟩
theorem SI(b:eS)(h:f7):ai xT 9 #[xL (dB b),mvz 0] h λv h'=>v=mR (dw 1)/\Sp h h' []:=by refine ts Tryz.func9 ?_ (v7 (v7 (u7 (v6 [] [(8,101)] (v7 (v1 (ws [(11,ka)] [(11,17)] u9)))) u9))) (args:=[(dB b),(mvt 0)]);refine(Sp.refl h).boxed λk g f=>f.alloc ae hZ λa2 j c=>aY (λe=>jj) λ_=>aG ?_;refine⟨0,(c.box 0 hZ).cell0 hZ,aG ?_⟩;refine aX (λe=>absurd e i0) λ_=>aX (λe=>absurd e i0) λ_=>aX (λe=>absurd e i0) λ_=>aX (λe=>absurd e i0) λ_=>?_;refine aY (λe=>jj) λ_=>?_;refine aX (λe=>absurd e i0) λ_=>aX (λe=>absurd e i0) λ_=>aX (λe=>absurd e i0) λ_=>aX (λe=>absurd e i0) λ_=>?_;refine aX (λe=>absurd e i0) λ_=>aX (λe=>absurd e i0) λ_=>aX (λe=>absurd e i0) λ_=>aX (λe=>absurd e i0) λ_=>?_;refine c.fv ae 1 hZ hZ [xJ xP 1] hZ hZ hZ i0 λh3 a=>?_;refine⟨dw 1,(a.box 1 hZ).aA _ hZ,a.storeAll ae 1 hZ hZ (gA (dw 1)) hZ hZ hZ hZ λi d=>?_⟩;exact⟨dw 1,(d.box 1 hZ).aA _ hZ,hZ,.zip d.ac⟩
theorem Nv{p:bD}(x:bh)(m:ak)(q:m.objs=[])(r:dE w offs=eH)(c:bQ h b 60 (eZ p (dB a)))(l:cR h x m)(H:aa B h0 h (bf bi a pw (aM x) offs da w ds::As)):
  ai xT 19 #[xL (dB b),mvz 4] h λv h'=>v=mR (dw 0)/\Sp h h' []:=by
 refine ts Tryz.func19 ?_ (v7 (ws [] [(5,78)] u9)) (args:=[(dB b),(mvt 4)]);refine(Sp.refl h).boxed λu s o=>o.alloc ae hZ λa2 t i=>aG ?_;refine⟨4,(i.box 0 hZ).cell0 hZ,?_⟩;refine aX (λe=>absurd e i0) λ_=>aX (λe=>absurd e i0) λ_=>aX (λe=>absurd e i0) λ_=>aX (λ_=>?_) λe=>absurd hZ e;have g:=i.ac;have j:=c.ac g c.lt;refine⟨b,hZ,dB a,j.cell hZ,(Nu x m (l.up g) q (aa.up H g)).xa ?_⟩;refine⟨ck,hZ,?_⟩;refine i.store ae 1 hZ hZ 2 [xK et 0 0] hZ hZ hZ i0 λh3 f=>?_;have d:=c.ac f.ac c.lt;refine⟨b,hZ,dB a,d.cell hZ,aY (λe=>jj) λ_=>⟨b,hZ,dB a,d.cell hZ,(lR (aa.up H f.ac)).xa ?_⟩⟩;refine⟨_,hZ,aY (λe=>by rw[r]at e;cases e) λ_=>?_⟩;refine⟨dw 0,(f.box 1 hZ).aA _ hZ,f.storeAll ae 1 hZ hZ (gA (dw 0)) hZ hZ hZ hZ λy k=>?_⟩;exact⟨dw 0,(k.box 1 hZ).aA _ hZ,hZ,.zip k.ac⟩
theorem SJ{p:bD}(x:bh)(m:ak)(l:m.objs=[])(o:dE w offs=eH)(c:bQ h b 60 (eZ p (dB a)))(i:cR h x m)(H:aa B h0 h (bf bi a pw (aM x) offs da w ds::As)):
  ai xT 9 #[xL (dB b),mvz 4] h λv h'=>v=mR (dw 0)/\Sp h h' []:=by
 refine ts Tryz.func9 ?_ (v7 (v7 (u7 (v6 [] [(8,101)] (v7 (v1 (ws [(11,ka)] [(11,17)] u9)))) u9))) (args:=[(dB b),(mvt 4)]);refine(Sp.refl h).boxed λs q j=>j.alloc ae hZ λa2 r d=>aY (λe=>jj) λ_=>aG ?_;refine⟨4,(d.box 0 hZ).cell0 hZ,aG ?_⟩;refine aX (λe=>absurd e i0) λ_=>aX (λe=>absurd e i0) λ_=>aX (λe=>absurd e i0) λ_=>aX (λ_=>?_) λe=>absurd hZ e;refine aY (λ_=>?_) λe=>jj
 have f:=d.ac;refine⟨mvt 4,(d.box 0 hZ).aA _ hZ,(Nv x m l o (c.ac f c.lt) (i.up f) (aa.up H f)).xc λh3 k=>?_⟩;refine⟨dw 0,hZ,?_⟩;refine(aa.up d k.ac).storeAll ae 1 hZ hZ (gA (dw 0)) hZ hZ hZ hZ λt g=>?_;exact⟨dw 0,(g.box 1 hZ).aA _ hZ,hZ,.zip g.ac⟩
theorem WD:dE (dH (1,1,1) 0 Pow.new [5]).2.1 Pow.new.offs=eH:=j0
theorem QG(h:f7):ai xT 13 #[] h λv h'=>v=xN ez/\Sp h h' []:=by refine ts Tryz.func13 ?_;refine(Sp.refl h).lit ae aw gb hZ [5] hZ (show 1*1<=2^20 by decide) hZ λf m k=>?_;refine(MJ (1,1,1) 0 f [5] (As:=[an 3 f 1 aw [5]]) (St.ey 0 hZ λh' d=>d.1.seq (λ_=>rfl) d.2) i0 k).mono ?_;rintro _ i ⟨_,Q⟩;obtain⟨b,a,pw,x,da,rfl,c⟩:=Q acZ;have g:cR i x (cx (1,1,1) 0 [5]):=c.at 2 hZ;refine⟨(dB b,0),hZ,aX (λ_=>aY (λ_=>?_) λe=>jj) λe=>absurd hZ e⟩;refine(SJ x _ hZ WD (c.box 0 hZ) g (c.rest)).xc λh3 l=>⟨dw 0,hZ,aX (λ_=>?_) λe=>absurd hZ e⟩;refine(SI b h3).xc λn j=>⟨dw 1,hZ,hZ,.zip (aa.up (aa.up c l.ac) j.ac).ac⟩
end
abbrev rq:=Int×ByteArray×Sl×Int×Int×Int×Int×Sl×Sl
abbrev MK(y:rq):aT:=[xJ xP y.1,xM y.2.1,y.2.2.1,xJ xP y.2.2.2.1,xJ xP y.2.2.2.2.1,xJ xP y.2.2.2.2.2.1,xJ xR y.2.2.2.2.2.2.1,y.2.2.2.2.2.2.2.1,y.2.2.2.2.2.2.2.2]
abbrev oc(y:rq):Value:=xO (MK y).toArray
variable {m:ak} {q:bD}
section
variable {pw:eS}
theorem QH(y:rq)(t:y.1=1)(c:aL)(s:St B h0 As λh=>Rd h y.2.2.1 1 aB c)(i:y.2.2.1.len<=y.2.2.1.cap)(l:y.2.1.size<=2^40)(u:bc m=ez)(f:hY c<=2^20)(H:aa B h0 h (bu a pw da offs w ds m::aj b 60 (eZ q (dB a))::As)):
  ai xT 19 #[xL (dB b),oc y] h λv h'=>v=mR (dw (di m offs w ds y.2.1 c).1)/\
   aa B h0 h' (bu a pw da offs (di m offs w ds y.2.1 c).2.2.1 (di m offs w ds y.2.1 c).2.2.2 (di m offs w ds y.2.1 c).2.1::aj b 60 (eZ q (dB a))::As):=by
 refine ts Tryz.func19 ?_ (v7 (ws [] [(5,78)] u9)) (args:=[(dB b),y]);refine H.boxed λD x g=>?_;have g:=g.aZ;refine g.alloc ae hZ λa2 A d=>?_;have d:=d.aZ;refine bB (λ_ h'=>aa B h0 h' (aj a2 43 (gA (dw (di m offs w ds y.2.1 c).1))::bu a pw da offs (di m offs w ds y.2.1 c).2.2.1 (di m offs w ds y.2.1 c).2.2.2 (di m offs w ds y.2.1 c).2.1::aj b 60 (eZ q (dB a))::As)) ?_ ?_
 .refine⟨y.1,(d.box 1 hZ).cell0 hZ,aX (λ_=>?_) λe=>absurd t e⟩;refine⟨b,hZ,dB a,(d.box 3 hZ).cell hZ,y.2.1,(d.box 1 hZ).cell hZ,y.2.2.1,(d.box 1 hZ).cell hZ,?_⟩;have o:=d.aJ 4 [2,0,3];refine(afI y.2.1 y.2.2.1 c (As:=aj a2 43 (gA (dw 0))::aj b 60 (eZ q (dB a))::As) s.cons.cons i l u f o).xc λG p=>⟨_,hZ,x7,p.fv ae 1 hZ hZ [xJ xP (di m offs w ds y.2.1 c).1] hZ hZ hZ i6 λz r=>⟨x7,?_⟩⟩;exact r.aJ 3 [1,0,2]
 .rintro _ E k;refine⟨dw (di m offs w ds y.2.1 c).1,(k.box 0 hZ).aA _ hZ,k.storeAll ae 0 hZ hZ (gA (dw (di m offs w ds y.2.1 c).1)) hZ hZ hZ hZ λF j=>?_⟩;exact⟨dw (di m offs w ds y.2.1 c).1,(j.box 0 hZ).aA _ hZ,hZ,j.rest⟩
theorem Nw(y:rq)(s:y.1=5)(u:bc m=ez)(H:aa B h0 h (bu a pw da offs w ds m::aj b 60 (eZ q (dB a))::As)):
  ai xT 19 #[xL (dB b),oc y] h λv h'=>∃t:Sl,v=mR ((hJ m offs w ds y.2.1).2,ck,ck,(hJ m offs w ds y.2.1).1.1,(hJ m offs w ds y.2.1).1.2.1,(hJ m offs w ds y.2.1).1.2.2,t,0)/\Sp h h' []:=by
 refine ts Tryz.func19 ?_ (v7 (ws [] [(5,78)] u9)) (args:=[(dB b),y]);have d:=H.box 1 hZ;refine(Sp.refl h).boxed λD x o=>?_;refine o.alloc ae hZ λa2 A c=>?_;have f:=d.ac c.ac d.lt;obtain⟨E,j⟩:=x6 (hJ m offs w ds y.2.1)
 refine bB (λ_ h'=>∃t:Sl,Sp h h' [aj a2 43 (gA (E.2,ck,ck,E.1.1,E.1.2.1,E.1.2.2,t,0))]) ?_ ?_
 .refine⟨y.1,(c.box 0 hZ).cell0 hZ,?_⟩;rw[s];refine aX (λe=>absurd e i0) λ_=>aX (λe=>absurd e i0) λ_=>aX (λe=>absurd e i0) λ_=>aX (λe=>absurd e i0) λ_=>aX (λ_=>?_) λe=>absurd hZ e;refine⟨b,hZ,dB a,f.cell hZ,y.2.1,(c.box 0 hZ).cell hZ,(acX y.2.1 u (H.up c.ac)).x0 λt h3 r=>?_⟩;have k:=c.up r.ac;refine⟨((E.1.1,E.1.2.1,E.1.2.2,t),E.2),by rw[j],x7,?_⟩;refine k.store ae 1 hZ hZ 3 [xJ xP E.1.1,xJ xP E.1.2.1,xJ xP E.1.2.2,t] hZ hZ hZ i6 λI l=>⟨x7,?_⟩
  refine l.fv ae 1 hZ hZ [xJ xP E.2] hZ hZ hZ i6 λz p=>⟨x7,t,?_⟩
  exact p.bt [1]
 .rintro _ F ⟨t,i⟩;refine⟨(E.2,ck,ck,E.1.1,E.1.2.1,E.1.2.2,t,0),(i.box 0 hZ).aA _ hZ,i.storeAll ae 0 hZ hZ (gA (E.2,ck,ck,E.1.1,E.1.2.1,E.1.2.2,t,0)) hZ hZ hZ hZ λG g=>?_⟩;exact⟨(E.2,ck,ck,E.1.1,E.1.2.1,E.1.2.2,t,0),(g.box 0 hZ).aA _ hZ,t,by rw[<-j],.zip g.ac⟩
theorem WE(y:rq)(i:y.1=1)(c:aL)(r:St B h0 As λh=>Rd h y.2.2.1 1 aB c)(j:y.2.2.1.len<=y.2.2.1.cap)(l:y.2.1.size<=2^40)(s:bc m=ez)(f:hY c<=2^20)(H:aa B h0 h (bu a pw da offs w ds m::aj b 60 (eZ q (dB a))::As)):
  ai xT 9 #[xL (dB b),oc y] h λv h'=>v=mR (dw (di m offs w ds y.2.1 c).1)/\
   aa B h0 h' (bu a pw da offs (di m offs w ds y.2.1 c).2.2.1 (di m offs w ds y.2.1 c).2.2.2 (di m offs w ds y.2.1 c).2.1::aj b 60 (eZ q (dB a))::As):=by
 refine ts Tryz.func9 ?_ (v7 (v7 (u7 (v6 [] [(8,101)] (v7 (v1 (ws [(11,ka)] [(11,17)] u9)))) u9))) (args:=[(dB b),y]);refine H.boxed λp t g=>?_;have g:=g.aZ;refine g.alloc ae hZ λa2 u d=>aY (λe=>jj) λ_=>aG ?_;have d:=d.aZ.aJ 4 [2,3,1,0];refine⟨y.1,(d.box 2 hZ).cell0 hZ,aG (aX (λ_=>?_) λe=>absurd i e)⟩;refine aY (λ_=>?_) λe=>by rw[i]at e;cases e
 refine⟨y,(d.box 2 hZ).aA _ hZ,(QH y i c (As:=aj p 37 (MK y)::aj a2 43 (gA (dw 0))::As) r.cons.cons j l s f d).xc λh3 o=>?_⟩;refine⟨dw (di m offs w ds y.2.1 c).1,hZ,o.storeAll ae 3 hZ hZ (gA (dw (di m offs w ds y.2.1 c).1)) hZ hZ hZ hZ λx k=>?_⟩;exact⟨dw (di m offs w ds y.2.1 c).1,(k.box 3 hZ).aA _ hZ,hZ,k.aJ 4 [0,1]⟩
theorem SK(y:rq)(g:y.1=5)(k:bc m=ez)(H:aa B h0 h (bu a pw da offs w ds m::aj b 60 (eZ q (dB a))::As)):
  ai xT 9 #[xL (dB b),oc y] h λv h'=>∃t:Sl,v=mR ((hJ m offs w ds y.2.1).2,ck,ck,(hJ m offs w ds y.2.1).1.1,(hJ m offs w ds y.2.1).1.2.1,(hJ m offs w ds y.2.1).1.2.2,t,0)/\Sp h h' []:=by
 refine ts Tryz.func9 ?_ (v7 (v7 (u7 (v6 [] [(8,101)] (v7 (v1 (ws [(11,ka)] [(11,17)] u9)))) u9))) (args:=[(dB b),y]);refine(Sp.refl h).boxed λp l i=>?_;refine i.alloc ae hZ λa2 o c=>aY (λe=>jj) λ_=>aG ?_;refine⟨y.1,(c.box 0 hZ).cell0 hZ,aG ?_⟩;rw[g];refine aX (λe=>absurd e i0) λ_=>aX (λe=>absurd e i0) λ_=>aX (λe=>absurd e i0) λ_=>aX (λe=>absurd e i0) λ_=>?_;refine aY (λ_=>?_) λe=>jj
 refine⟨y,(c.box 0 hZ).aA _ hZ,(Nw y g k (H.up c.ac)).x0 λt h3 j=>?_⟩;obtain⟨Y,d⟩:∃Y:Bl,Y=((hJ m offs w ds y.2.1).2,ck,ck,(hJ m offs w ds y.2.1).1.1,(hJ m offs w ds y.2.1).1.2.1,(hJ m offs w ds y.2.1).1.2.2,t,0):=⟨_,rfl⟩
 rw[<-d];refine⟨Y,hZ,(c.up j.ac).storeAll ae 1 hZ hZ (gA Y) hZ hZ hZ hZ λr f=>?_⟩;exact⟨Y,(f.box 1 hZ).aA _ hZ,t,by rw[<-d],.zip f.ac⟩
theorem QI(p:Pm)(extra:Int)(s:Sl)(l:az)(j:St B h0 As λh=>Rd h s 1 aw l)(k:hY l<=64)(g:tz p extra l=0)(H:aa B h0 h As):
  ai xT 15 #[kb p,xJ xP extra,s] h λv h'=>∃(b a pw:eS) (da:List bD) (D:aD),v=.tuple #[xL (dB b),xJ xP 0]/\D.length=64/\
   (∀s,aH D s=if s∈bm l l.length then dB ⟨(l.getD s.toNat 0).toNat,aP (cx p extra l),0,[],eH,eH⟩else et)/\aa B h0 h' (bu a pw da 0 Pow.new D (cx p extra l)::aj b 60 (eZ (dB pw) (dB a))::As):=by
 obtain⟨D,d,f,e⟩:=Zi (p:=p) (extra:=extra) (l:=l) k g;refine(MJ p extra s l j ii H).mono ?_;rintro _ h' ⟨_,c⟩;rw[d]at c;obtain⟨b,a,pw,y,da,rfl,i⟩:=c rfl;exact⟨b,a,pw,da,D,hZ,f,e,ny (i.aJ 3 [1,2,0])⟩
end
theorem ada{a b:cU}(c:ro a b=ez)(d:ro b a=ez):nI a b=ez:=by unfold ro at c d;rw[decide_eq_true_eq]at c d;rw[me];omega
theorem adb{a b c:cU}(h:ro a b=ez)(d:nI a c=ez):ro c b=ez:=by rw[me]at d;unfold ro at h⊢;rw[decide_eq_true_eq]at h⊢;omega
theorem WF{l:List cU}(h:l.Pairwise λa b=>ro a b=ez):(rK l).Pairwise λa b=>nI a b=eH:=by
 unfold rK;rw[List.pairwise_map];have m:((qx l.length).filter (sC l)).Pairwise (·<·):=(List.pairwise_lt_range (n:=hY l)).filter _;refine m.imp_of_mem λ{i j} hi hj hlt=>?_;have c:=qz.1 (qD.1 hj).1;have d:=(qD.1 hj).2;rw[gT _ (show i<hY l by omega),gT _ c];refine eq_false_of_ne_true λo=>?_;unfold sC at d;rw[g9 ii,vn,Bool.not_eq_true',gT _ c,gT _ (show j-1<hY l by omega)]at d;have f:=List.pairwise_iff_getElem.1 h;have g:ro l[i] l[j-1]=ez:=by
  by_cases e:i=j-1
  .subst e;unfold ro;rw[decide_eq_true_eq];omega
  .exact f i (j-1) ii ii ii
 have k:ro l[j-1] l[j]=ez:=f (j-1) j ii c ii;have:=ada (adb g o) k;rw[d]at this;cases this
theorem SL(m:ak)(l:bH):(dQ m l).Pairwise λa b=>nI a b=eH:=WF (List.pairwise_mergeSort agX.1 agX.2 _)
theorem nB{α:Type}[DecidableEq α]:∀{l m:List α},l.Nodup->(∀x∈l,x∈m)->hY l<=hY m
 |[],m,_,_=>zk _
 |x::l,m,h,hs=>by
  obtain⟨d,f⟩:=List.nodup_cons.1 h;have b:=hs x qF;have:=nB (l:=l) (m:=m.erase x) f λy c=>by
   have a:y≠x:=λe=>d (e▸c);exact(List.mem_erase_of_ne a).2 (hs y (qA _ c))
  rw[List.length_erase_of_mem b]at this;have:=List.length_pos_of_mem b;rw[za];omega
section
variable {C:Int->aL}
def Low(m:ak)(ds:aD):Prop:=∀k d,aH ds k=dB d->∀c∈d.l,∀r,dJ c=dB r->eU m r=ez->r.id<m.p.1+m.extra
structure Full (m:ak) (C:Int->aL) (ds:aD):Prop where
 live:∀k∈m.drives,∃d,aH ds k=dB d/\d.lost=eH/\fx m d.l=ez
 all:∀e∈m.objs,∀i:Nat,i<e.tries.length->∀id:Nat,id<(m.p.1+m.extra).toNat->∃k∈m.drives,∃d,aH ds k=dB d/\cF (kw m e.object i (cv e.object i (e.tries.getD i 0)) (fH m C e.object i) id)∈d.l
theorem Full.aR(F:Full m C ds):Qw.aR ds m.drives=m.drives:=wJ.2 λk b=>by
 obtain⟨d,a,c,_⟩:=F.live k b;unfold isLive;rw[a];simp[c]
theorem eJ.aib(S:eJ m C ds){e:Qw.cb}(a:e∈m.objs):e.tries.length<=8:=by obtain⟨_,_,h3,_,b⟩:=(gr m e).1 (S.entry a);have:=nP h3.2;omega
theorem eJ.sX(S:eJ m C ds){e:Qw.cb}(a:e∈m.objs){i:Nat}(d:i<e.tries.length){id:Nat}(hid:id<=65535):ji (kw m e.object i (cv e.object i (e.tries.getD i 0)) (fH m C e.object i) id)=ez:=by obtain⟨K,H,w,n,B⟩:=S.fm a d;have h8:=S.aib a;have b:=((gr m e).1 (S.entry a)).2.1;have c:=((dn m).1 ((bU m).1 S.may).1).2.1;exact PY B ⟨b.1,ii⟩ ⟨ii,ii⟩ ⟨ii,ii⟩
theorem eJ.counts(S:eJ m C ds){e:Qw.cb}(a:e∈m.objs){i:Nat}(b:i<e.tries.length){id:Nat}(hid:id<=65535):eU m (kw m e.object i (cv e.object i (e.tries.getD i 0)) (fH m C e.object i) id)=ez:=
 jT.2 ⟨S.sX a b hid,hZ,e,a,hZ,by show(i:Int)<_;omega,by show cv e.object i _=cv e.object (i:Int) (e.tries.getD (i:Int).toNat 0);rw[qj]⟩
theorem eJ.Do(S:eJ m C ds){id:Nat}(h:id<(m.p.1+m.extra).toNat):id<=65535:=by obtain⟨_,_,a,b⟩:=(dn m).1 ((bU m).1 S.may).1;have:=(bP m.p).1 a;omega
theorem eJ.aiO(S:eJ m C ds){e:Qw.cb}(a:e∈m.objs){i:Nat}(c:i<e.tries.length){id:Nat}(hid:id<=65535){k:Int}(g:k∈aR ds m.drives){d:ba}(b:aH ds k=dB d)
  (f:cF (kw m e.object i (cv e.object i (e.tries.getD i 0)) (fH m C e.object i) id)∈d.l):(id:Int)∈mP m ds e.object i:=by
 have h:=nA S.may (S.cells k d b) f (lZ (S.sX a c hid) (iz _ _ _)) (S.counts a c hid);unfold mP eG;refine qo.2 ⟨((id:Int),(kw m e.object i (cv e.object i (e.tries.getD i 0)) (fH m C e.object i) id).data),zI.2 ⟨k,g,?_⟩,hZ⟩;unfold il;rw[b];exact qo.2 ⟨_,qD.2 ⟨h,by simp[kw]⟩,hZ⟩
theorem ZU{p:Pm}(a:bK p=ez){i:Int}(h:i∈fw p):∃id:Nat,i=id/\(id:Int)<p.1:=by have:=(bP p).1 a;unfold fw upto at h;obtain⟨id,hid,rfl⟩:=qo.1 h;have:=qz.1 hid;exact⟨id,hZ,ii⟩
theorem Full.can(F:Full m C ds)(S:eJ m C ds)(g:m.drives≠[]){e:Qw.cb}(f:e∈m.objs):QF m ds e=ez:=by
 unfold QF;rw[qy];constructor
 .unfold sh;rw[F.aR];obtain⟨k,c⟩:=List.exists_mem_of_ne_nil _ g;obtain⟨d,h,_,h3⟩:=F.live k c;exact z7.2 ⟨k,c,by unfold JX;rw[h];exact h3⟩
 .refine qK.2 λi b=>?_;have b:=qz.1 b;obtain⟨K,H,w,n,B⟩:=S.fm f b;refine MI B.may (ids:=fw m.p) (λj l=>?_) B.full;obtain⟨id,rfl,hid⟩:=ZU S.Ic l;have r:=((dn m).1 ((bU m).1 S.may).1).2.2.2;have a:id<(m.p.1+m.extra).toNat:=ii
  obtain⟨k,c,d,q,o⟩:=F.all e f i b id a;exact S.aiO f b (S.Do a) (by rw[F.aR];exact c) q o
theorem sY(m:ak)(d:ba)(N:Int):(ct m d N).lost=d.lost/\(ct m d N).room=d.room:=by unfold ct;split<;>exact⟨hZ,hZ⟩
theorem Bz{t:az}{b:aL}{n:ak}{k:Int}{d:ba}(a:k∈aR ds m.drives):
  (uh m ds t b n k d).lost=d.lost/\(uh m ds t b n k d).room=d.room/\∃N,(uh m ds t b n k d).l=(ct m d N).l++((kg m m.next t (splitB m.p b) (aR ds m.drives) k (splitB m.p b).length).map cF++aP n):=by
 unfold uh;rw[f8 a];refine⟨by rw[(nw _ _).1,(sY _ _ _).1],by rw[(nw _ _).2,(sY _ _ _).2],_,xZ _ _⟩
theorem ML{n:ak}(b:bc n=ez){l1 l2:bH}(h:∀c∈aP n,c∈l2):fx n (l1++l2)=ez:=by unfold fx;rw[b,zS];exact qK.2 λc a=>g0 (zH _ (h c a))
theorem Full.put(F:Full m C ds)(S:eJ m C ds){name:ByteArray}{b:aL}{t:az}{ds':aD}(H:dY m (dE w offs) ds name b.length=0)(K:cV m.p m.next (splitB m.p b).length=dB t)
  (O:eJ (fB m ⟨name,m.next,b.length,t⟩) (lW C m.next b) ds') (g:∀k,aH ds' k=(aH ds k).map (uh m ds t b (fB m ⟨name,m.next,b.length,t⟩) k)):Full (fB m ⟨name,m.next,b.length,t⟩) (lW C m.next b) ds':=by
 have a:=F.aR;obtain⟨P,Q,z3,z4,z5⟩:=nv H;have A:m.drives≠[]:=by rw[<-a];exactλh=>z5 (.inl h)
 have v:m.next<=16777215:=by have:¬16777215<m.next:=λh=>z5 (.inr (.inl h));omega
 refine⟨λk j=>?_,λe l i r id hid=>?_⟩
 .have j:k∈m.drives:=j;obtain⟨d,s,E,h3⟩:=F.live k j;obtain⟨u,D,N,q⟩:=Bz (m:=m) (t:=t) (b:=b) (n:=fB m ⟨name,m.next,b.length,t⟩) (d:=d) (show k∈Qw.aR ds m.drives by rw[a];exact j);refine⟨_,by rw[g,s,qS],by rw[u];exact E,?_⟩;rw[q];exact ML O.may λc x=>zH _ x
 .have hid:id<(m.p.1+m.extra).toNat:=hid;rcases xX.1 l with l|rfl
  .have M:=S.old l;obtain⟨k,j,d,G,x⟩:=F.all e l i r id hid;obtain⟨u,D,N,q⟩:=Bz (m:=m) (t:=t) (b:=b) (n:=fB m ⟨name,m.next,b.length,t⟩) (d:=d) (show k∈Qw.aR ds m.drives by rw[a];exact j);refine⟨k,j,_,by rw[g,G,qS],?_⟩;rw[q];have y:fH (fB m ⟨name,m.next,b.length,t⟩) (lW C m.next b) e.object i=fH m C e.object i:=Dm hZ (by unfold lW;rw[f9 ii]);rw[y];exact ze _ (QE S.may (S.cells k d G) x (lZ (S.sX l r (S.Do hid)) (iz _ _ _)) (S.counts l r (S.Do hid)))
  .have r:i<t.length:=r;have L:=jR K;have h8:=Gp S.Ic λh=>z4 (.inl h);have z:=((dn m).1 ((bU m).1 S.may).1).2.1.1;have J:(0:Int)<=(i:Int)/\(i:Int)<8:=⟨ii,ii⟩
   have I:=We (o:=m.next) (b:=(i:Int)) (live:=m.drives) ⟨z,v⟩ J (mq S.may) (gv S.may);obtain⟨R,B⟩:=I;have one:dM m.next i m.drives≠[]:=λh=>by rw[h]at B;exact A (List.nil_perm.1 B)
   have f:fS (dM m.next i m.drives) id∈m.drives:=by rw[ahU one];exact B.mem_iff.1 (qf _)
   obtain⟨d,s,E,h3⟩:=F.live _ f;obtain⟨u,D,N,q⟩:=Bz (m:=m) (t:=t) (b:=b) (n:=fB m ⟨name,m.next,b.length,t⟩) (d:=d) (show fS (dM m.next i m.drives) id∈Qw.aR ds m.drives by rw[a];exact f);refine⟨_,f,_,by rw[g,s,qS],?_⟩;rw[q];refine zH _ (ze _ (qo.2 ⟨_,?_,hZ⟩));have y:fH (fB m ⟨name,m.next,b.length,t⟩) (lW C m.next b) m.next i=(splitB m.p b).getD i []:=by unfold fH lW;rw[f8 hZ,qj];rfl
   show kw m m.next i (cv m.next i (t.getD i 0)) (fH (fB m ⟨name,m.next,b.length,t⟩) (lW C m.next b) m.next i) id∈_;rw[y,a];unfold kg;refine zI.2 ⟨i,qz.2 ii,?_⟩;unfold sa;exact qo.2 ⟨id,qD.2 ⟨qz.2 hid,g0 hZ⟩,hZ⟩
end
def If(m:ak)(i:Nat):ak:={m with seq:=m.seq+1,objs:=m.objs.take i++m.objs.drop (i+1)}
def cQ(m:ak)(offs:Int)(w:Pow)(ds:aD)(name:ByteArray):Int×ak×Pow×aD:=
 if dE w offs then(14,m,w,ds)else if m.objs.any (gu name)=eH then(5,m,w,ds)else if m.seq>=2147483647 then(7,m,w,ds)else
 cj m offs w ds (If m (m.objs.findIdx (gu name)))
theorem QJ{C:Ctx}{t e k:Nat}{z:aT}{a:Nat}{h:f7}{s:Sl}(b:C.Ok)(c:bL C.toBH t e k z a){x y u:Int}(i j n:Nat)(m:x=i)(D:y=j)(M:u=n)(g:i<=j)(p:j<=n)(h3:n<=s.cap){K:Sl->f7->Prop}(H:∀v,K v h):
  bx C.P (w5 t (xK s.ptr s.len s.cap) (dB (xJ xP x)) (dB (xJ xP y)) (dB (xJ xP u))) (.one (.sc .slc)) h K:=by
 subst m;subst D;subst M;have G:aI C.P (wo ez s.len s.cap (dB (xJ xP (i:Int))) (dB (xJ xP (j:Int))) (dB (xJ xP (n:Int)))) (i,j,n):=λw=>by
  have l:¬((n:Int)<0):=ii
  have x2:¬((s.cap:Int)<(n:Int)):=ii
  have x3:(n:Int)<=(s.cap:Int):=ii
  have r:(0:Int)<=(n:Int):=ii
  have o:(0:Int)<=(j:Int):=ii
  have d:(0:Int)<=(i:Int):=ii
  have f:(j:Int)<=(n:Int):=ii
  have q:(i:Int)<=(j:Int):=ii
  have F:¬((j:Int)<0):=ii
  have I:¬((i:Int)<0):=ii
  have B:¬((n:Int)<(j:Int)):=ii
  have A:¬((j:Int)<(i:Int)):=ii
  have L:¬(n<j):=ii
  have E:¬(j<i):=ii
  have J:¬(s.cap<n):=ii
  simp[wo,Instr.sliceBound,asIntOf,l,x2,x3,r,o,d,f,q,F,I,B,A,L,E,J,g,p,h3]
 unfold bx w5;refine au.bind (au.always (aF (c.under b)) ?_);show au C.P (xn t (xK s.ptr s.len s.cap) (dB (xJ xP (i:Int))) (dB (xJ xP (j:Int))) (dB (xJ xP (n:Int)))) h _;unfold xn;refine au.bind (au.always (aF (c.under b)) ?_);refine au.bind (au.always G ?_);refine au.bind (au.always (c.size b) ?_);exact au.pure' ⟨⟨_,_,_⟩,hZ,H _⟩
variable {s:Sl}
section
variable {pw:eS}
theorem SM(d:List dP)(i:Nat)(k:i<hY d)(p:hY d<=2^30)(H:aa B h0 h (an 111 s 4 bY d::As)):
  ai xT 92 #[s,xJ xP i,xJ xP (i+1)] h λv h'=>∃r:Sl,v=r/\aa B h0 h' (an 111 r 4 bY (d.take i++d.drop (i+1))::As):=by
 refine ts Tryz.func92 ?_;have f:=H.own 0 hZ;have q:=f.len;have g:=f.cap;refine QJ ae KV i (i+1) s.len hZ hZ hZ ii ii g λ_=>?_;refine aX (λe=>absurd e ii) λ_=>⟨⟨ii,ii⟩,⟨ii,ii⟩,?_⟩
 have j:((i:Int)+1).toNat=i+1:=ii
 rw[j,qj];refine H.KS ae 0 hZ KV ⟨_,_,hZ,hZ⟩ (λ_=>rfl) Gj i k λn m=>⟨x7,⟨ii,i4,i4⟩,?_⟩
 have a:hY (d.take i++d.drop (i+1))=hY d-1:=i5
 try dsimp only
 rw[qj,qj];refine m.pc ae 0 hZ KV (λ_=>rfl) hZ (by intro v c;simp at c;rcases c with rfl|rfl|rfl<;>rfl) (hY d-1) i5 λo b=>?_;have l:((d.take i++d.drop (i+1))++d.drop (hY d-1)).take (hY d-1)=d.take i++d.drop (i+1):=by rw[<-a,List.take_left]
 rw[l]at b;exact⟨⟨s.ptr,hY d-1,s.cap⟩,hZ,b⟩
theorem QK(name:ByteArray)(x:bh)(m:ak)(G:bc m=ez)(H:aa B h0 h (bf bi a pw (aM x) offs da w ds::bI x m::As)):
  ai xT 35 #[xL (dB a),xM name] h λv h'=>v=xJ xP (cQ m offs w ds name).1/\
   ∃y,aa B h0 h' (bf bi a pw (aM y) offs da (cQ m offs w ds name).2.2.1 (cQ m offs w ds name).2.2.2::bI y (cQ m offs w ds name).2.1::As):=by
 refine ts Tryz.func35 ?_;have q:=im G;have R:=gM G;obtain⟨g1,g2,g3,g4⟩:=(dn m).1 ((bU m).1 G).1;have ad:=((bU m).1 G).2.2.2.1;refine(pq H).xa ⟨_,hZ,aY (λe=>?_) λP=>?_⟩
 .have l:cQ m offs w ds name=(14,m,w,ds):=by unfold cQ;rw[f8 e]
  rw[l];exact⟨hZ,x,H⟩
 refine(find_spec x m name (H.at 1 hZ) q H).mono ?_;rintro _ S ⟨⟨i,rfl,hi⟩,Y⟩;have r:=H.up Y.ac;refine⟨i,hZ,?_⟩;rcases hi with⟨rfl,hno⟩|⟨n,hn,rfl,d,hbef⟩
 .refine af (λ_=>?_) λe=>absurd i0 e;have l:cQ m offs w ds name=(5,m,w,ds):=by unfold cQ;rw[f9 (by rw[P];decide),f8 hno]
  rw[l];exact⟨hZ,x,r⟩
 have f:m.objs.any (gu name)=ez:=z7.2 ⟨_,qf hn,d⟩;have t:m.objs.findIdx (gu name)=n:=by rw[List.findIdx_eq hn];refine⟨d,λj hj=>?_⟩;have:=wq.1 hbef (m.objs[j]'ii) (List.mem_take_iff_getElem.2 ⟨j,ii,hZ⟩);simpa using this
 have u:=(aa.cE r).2;have A:cR S x m:=r.at 1 hZ;refine af (λe=>absurd e (Int.not_lt.2 (Int.natCast_nonneg n))) λ_=>⟨a,hZ,x.1,u.cell0 hZ,?_⟩
 rw[A.seq];refine af (λK=>?_) λK=>?_
 .have l:cQ m offs w ds name=(7,m,w,ds):=by unfold cQ;rw[f9 (by rw[P];decide),f9 (by rw[f];decide),f8 K]
  rw[l];exact⟨hZ,x,r⟩
 refine⟨a,hZ,x,u.aA _ hZ,(nM x m S A q).mono ?_⟩;rintro _ h3 ⟨y,L,pool,rfl,D,z,Z,R3⟩;have V:=(r.comp R3).front;refine⟨y,hZ,V.alloc ae hZ λa3 h4 Q=>?_⟩;have Q:=Q.aZ;refine Q.storeAll ae 0 hZ hZ (aM y) hZ hZ hZ hZ λh5 T=>?_;refine⟨y.1,(T.box 0 hZ).cell0 hZ,?_⟩
 try dsimp only
 rw[D.1,ag (m.seq+1)];refine T.fv ae 0 hZ hZ [xJ xP (m.seq+1)] hZ hZ hZ j7 λh6 F=>?_;refine⟨_,(F.box 0 hZ).cell hZ,?_⟩;have X:hY L=hY m.objs:=by rw[<-z,qu]
 have F:=F.aJ 6 [3,0,1,2,4,5];rw[ag ((n:Int)+1)];refine(SM (L.map qE) n m8 m8 F).x0 λo h7 J=>?_;have J:=J.aJ 6 [1,2,3,0,4,5];refine⟨o,hZ,J.store ae 0 hZ hZ 7 [o] hZ hZ hZ j7 λh8 E=>?_⟩;obtain⟨b,c⟩:∃b:bh,b=(m.seq+1,y.2.1,y.2.2.1,y.2.2.2.1,y.2.2.2.2.1,y.2.2.2.2.2.1,y.2.2.2.2.2.2.1,o):=⟨_,rfl⟩
 have ed:b.2.2.2.2.2.2.1=y.2.2.2.2.2.2.1:=by rw[c]
 have W:b.2.2.2.2.2.2.2=o:=by rw[c]
 obtain⟨L2,g⟩:=x6 (L.take n++L.drop (n+1))
 have N:L2.map qE=(L.map qE).take n++(L.map qE).drop (n+1):=by rw[g,qN,List.map_take,List.map_drop]
 have E:aa B h0 h8 (aj a3 85 (aM b)::iI 1 aw pool::an 3 b.2.2.2.2.2.2.1 1 aw m.drives::an 111 b.2.2.2.2.2.2.2 4 bY (L2.map qE)::bf bi a pw (aM x) offs da w ds::bI x m::As):=by rw[ed,W,N,c];exact E
 refine⟨b,(E.box 0 hZ).aA _ hZ,?_⟩;obtain⟨M,s⟩:=x6 (If m n)
 have H9:aa B h0 h8 (bI b M::bf bi a pw (aM x) offs da w ds::bI x m::As):=aa.CV (m:=M) (L:=L2) (pool:=pool) (by rw[s,c];exact⟨hZ,D.2.1,D.2.2.1,D.2.2.2⟩)
  (by rw[s,g,qN,List.map_take,List.map_drop,z];rfl) (λp d=>Z p (by
   rw[g]at d;rcases qt.1 d with d|d
   .exact zw d
   .exact List.mem_of_mem_drop d)) (by rw[s];exact E.aJ 6 [1,2,3,4,5])
 have I:cC M:=by
  rw[s];have sub:∀e,e∈m.objs.take n++m.objs.drop (n+1)->e∈m.objs:=λe k=>by
   rcases qt.1 k with k|k
   .exact zw k
   .exact List.mem_of_mem_drop k
  refine⟨q.dr,?_,?_⟩
  .have:=q.ob;show(m.objs.take n++m.objs.drop (n+1)).length<=_;simp;omega
  .exactλe k=>q.nm e (sub e k)
 refine(GS x m b M (As:=bI b M::As) (St.ey 0 hZ λ_ U=>U) q I ii (H9.aJ 3 [1,2,0])).xc λab ⟨y3,O⟩=>?_;have l:cQ m offs w ds name=cj m offs w ds M:=by unfold cQ;rw[f9 (by rw[P];decide),f9 (by rw[f];decide),f9 K,t,s]
 rw[l];exact⟨_,hZ,hZ,y3,O.aJ 3 [0,1]⟩
theorem WG(name:ByteArray)(b:bc m=ez)(H:aa B h0 h (bu a pw da offs w ds m::As)):
  ai xT 35 #[xL (dB a),xM name] h λv h'=>v=xJ xP (cQ m offs w ds name).1/\
   aa B h0 h' (bu a pw da offs (cQ m offs w ds name).2.2.1 (cQ m offs w ds name).2.2.2 (cQ m offs w ds name).2.1::As):=by
 obtain⟨x,H⟩:=gc H;refine(QK name x m b H).mono ?_;rintro _ h' ⟨rfl,y,c⟩;exact⟨hZ,ny c⟩
end
structure Mv where
 kind:Int
 name:ByteArray
 data:aL
 slot:Int
 n:Int
 m:Int
 mask:Int
 keeps:az
 torns:az
def rv:List ByteArray:=[⟨#[97]⟩,⟨#[98]⟩,⟨#[99,97,116,45,55]⟩,⟨#[100]⟩,⟨#[101,49,50,51,52,53,54,55,56,57,48,49]⟩]
def oU(p:Int×Int×Int)(b:Mv):Prop:=
 (b.kind=1/\b.name∈rv/\(hY b.data:Int)<=3*(p.1*p.2.2)+1)∨((b.kind=2∨b.kind=3∨b.kind=5)/\b.name∈rv)∨b.kind=4∨
 (b.kind=6/\(0<=b.slot/\b.slot<9)/\6<=b.n/\b.n<66)∨(b.kind=7/\0<=b.slot/\b.slot<8)∨(b.kind=8/\(0<=b.slot/\b.slot<8)/\6<=b.n/\b.n<66)∨(b.kind=9/\0<=b.slot/\b.slot<8)∨
 (b.kind=10/\(-1<=b.n/\b.n<=7)/\-1<=b.m/\b.m<=68)∨(b.kind=11/\(0<=b.slot/\b.slot<7)/\(0<=b.n/\b.n<40)/\(0<=b.m/\b.m<61)/\0<=b.mask/\b.mask<4294967296)
def QL(b:Mv):Prop:=b=⟨b.kind,if b.kind=1∨b.kind=2∨b.kind=3∨b.kind=5 then b.name else⟨#[]⟩,if b.kind=1 then b.data else[],if b.kind=6∨b.kind=7∨b.kind=8∨b.kind=9∨b.kind=11 then b.slot else 0,
 if b.kind=6∨b.kind=8∨b.kind=10∨b.kind=11 then b.n else 0,if b.kind=10∨b.kind=11 then b.m else 0,if b.kind=11 then b.mask else 0,[],[]⟩
abbrev od(s:ByteArray):aT:=[xM s]
abbrev QM:=Int×ByteArray×Sl×Int×Int×Int×Int×Sl×Sl
abbrev rx(x:QM):aT:=[xJ xP x.1,xM x.2.1,x.2.2.1,xJ xP x.2.2.2.1,xJ xP x.2.2.2.2.1,xJ xP x.2.2.2.2.2.1,xJ xR x.2.2.2.2.2.2.1,x.2.2.2.2.2.2.2.1,x.2.2.2.2.2.2.2.2]
abbrev mvV(x:QM):Value:=xO #[xJ xP x.1,xM x.2.1,x.2.2.1,xJ xP x.2.2.2.1,xJ xP x.2.2.2.2.1,xJ xP x.2.2.2.2.2.1,xJ xR x.2.2.2.2.2.2.1,x.2.2.2.2.2.2.2.1,x.2.2.2.2.2.2.2.2]
def nT:iW QM Mv:=⟨λh q a b=>(a.1=b.kind/\a.2.1=b.name/\a.2.2.2.1=b.slot/\a.2.2.2.2.1=b.n/\a.2.2.2.2.2.1=b.m/\a.2.2.2.2.2.2.1=b.mask/\a.2.2.1.len<=a.2.2.1.cap)/\Seq h q a.2.2.1 1 aB b.data/\Seq h q a.2.2.2.2.2.2.2.1 1 aw b.keeps/\Seq h q a.2.2.2.2.2.2.2.2 1 aw b.torns,
 λa d=>⟨a.1,a.2.1.ac d,a.2.2.1.ac d,a.2.2.2.ac d⟩,λa c=>⟨a.1,a.2.1.mono c,a.2.2.1.mono c,a.2.2.2.mono c⟩⟩
theorem afU:∀x,∀c∈od x,c.oneCell'=ez:=by intro x c a;simp[od]at a;subst a;rfl
theorem aic:∀x,∀c∈rx x,c.oneCell'=ez:=by intro x c a;simp[rx]at a;rcases a with rfl|rfl|rfl|rfl|rfl|rfl|rfl|rfl|rfl<;>rfl
abbrev aid:bL C.toBH 39 9 1 [xM ⟨#[]⟩] 16:=⟨_,_,hZ,hZ,hZ,hZ,hZ,hZ⟩
abbrev zMv:aT:=[xJ xP 0,xM ⟨#[]⟩,xK et 0 0,xJ xP 0,xJ xP 0,xJ xP 0,xJ xR 0,xK et 0 0,xK et 0 0]
abbrev eMv:bL C.toBH 32 37 9 zMv 128:=⟨_,_,hZ,hZ,hZ,hZ,hZ,hZ⟩
theorem ui(n:Int)(h:f7):ai xT 31 #[xJ xP n] h λv h'=>∃s∈rv,v=xM s/\Sp h h' []:=by refine ts Tryz.func31 ?_;refine(Sp.refl h).lit ae od aid hZ rv hZ i0 js λe b a=>?_;refine(cK n 5 b).xa ?_;have c:=w9 n (show(5:Int)≠0 by decide);have g:=wv n (show(0:Int)<5 by decide);have f:hY rv=5:=rfl;refine⟨_,hZ,(a.seq 0 hZ λ_=>rfl).bo (n%5).toNat ii ii (rv[(n%5).toNat]'ii) hZ ⟨_,qf _,hZ,.zip a.ac⟩⟩
theorem WH(p:Pm)(k a b:Int)(h:f7)(U:bK p=ez):ai xT 18 #[kb p,xJ xP k,xJ xP a,xJ xP b] h λv h'=>∃(x:QM) (m:Mv),v=mvV x/\oU p m/\QL m/\Sp h h' [EA nT x m]:=by
 refine Ai p k a b ?_;obtain⟨⟨Y,I⟩,_,J,z2⟩:=(bP p).1 U;have Z:1<=p.1*p.2.2/\p.1*p.2.2<=16*24:=⟨w7 Y J ii ii,w7 I z2 ii ii⟩
 refine(Sp.refl h).boxed λR h1 X=>X.alloc ae hZ λa2 P e=>?_;have fin:∀(c slot n m d:Int) (name:ByteArray) {h':f7},Sp h h' [aj R 25 [xJ xP p.1,xJ xP p.2.1,xJ xP p.2.2],aj a2 37 zMv]->oU p ⟨c,name,[],slot,n,m,d,[],[]⟩->QL ⟨c,name,[],slot,n,m,d,[],[]⟩->
   au xT (qH 37 (xL (dB a2)) (xO #[xJ xP c,xM name,xK et 0 0,xJ xP slot,xJ xP n,xJ xP m,xJ xR d,xK et 0 0,xK et 0 0])) h' λ_ g=>
    ∃r:QM,bj g a2 0 (rx r)/\∃(x:QM) (m:Mv),mvV r=mvV x/\oU p m/\QL m/\Sp h g [EA nT x m]:=by
  intro c slot n m d name h' H' B L;refine H'.storeAll ae 1 hZ hZ (rx (c,name,⟨et,0,0⟩,slot,n,m,d,⟨et,0,0⟩,⟨et,0,0⟩)) hZ hZ hZ hZ λg t=>?_;refine⟨(c,name,⟨et,0,0⟩,slot,n,m,d,⟨et,0,0⟩,⟨et,0,0⟩),(t.box 1 hZ).aA _ hZ,_,_,hZ,B,L,?_⟩;have Q:Sp h g []:=.zip t.ac;exact Q.comp (.one (aS.refl _ _) ⟨⟨hZ,hZ,hZ,hZ,hZ,hZ,qm _⟩,Seq.nil _ _ _ _ _ _,Seq.nil _ _ _ _ _ _,Seq.nil _ _ _ _ _ _⟩)
 refine(cK k 26 P).mono ?_;rintro _ h3 ⟨rfl,rfl⟩;have k0:=w9 k (show(26:Int)≠0 by decide);have k1:=wv k (show(0:Int)<26 by decide);have W:∀(x n:Int),0<n->0<=x%n/\x%n<n:=λx n M=>⟨w9 x ii,wv x M⟩
 refine⟨_,hZ,af (λ_=>?_) λ_=>?_⟩
 .refine⟨i0,p.1,(e.box 0 hZ).cell0 hZ,p.2.2,(e.box 0 hZ).cell hZ,(ui a h3).mono ?_⟩;rintro _ f ⟨s,o,rfl,j⟩;have w:=e.up j.ac;have S:qe xP ((qe xP ((qe xP ((3:Int)*p.1))*p.2.2))+(2:Int))=3*(p.1*p.2.2)+2:=by rw[ag (3*p.1),Int.mul_assoc,ag (3*(p.1*p.2.2)),ag _]
  refine⟨s,hZ,⟨(w.box 0 hZ).cell hZ,(w.box 0 hZ).cell0 hZ,x7⟩,?_⟩;rw[S];refine(cK _ (3*(p.1*p.2.2)+2) f ii ii).mono ?_;rintro _ i ⟨rfl,rfl⟩;obtain⟨q,A⟩:=x6 (qe xP (vm a 5)%(3*(p.1*p.2.2)+2))
  have D:=W (qe xP (vm a 5)) (3*(p.1*p.2.2)+2) ii;rw[<-A]at D⊢;obtain⟨N,O⟩:∃N:Nat,q=N:=⟨q.toNat,ii⟩
  subst O;refine⟨_,hZ,⟨(w.box 0 hZ).cell hZ,(w.box 0 hZ).cell0 hZ,x7⟩,(VT N b i ii).mono ?_⟩;rintro _ T ⟨r,l,rfl,hl,H⟩;have F:=w.comp H;have u:=(H.own 0 hZ).cap;refine⟨r,hZ,⟨(F.box 0 hZ).cell hZ,(F.box 0 hZ).cell0 hZ,x7⟩,?_⟩;refine F.storeAll ae 1 hZ hZ (rx (1,s,r,0,0,0,0,⟨et,0,0⟩,⟨et,0,0⟩)) hZ hZ hZ hZ λh7 G=>?_;refine⟨x7,(1,s,r,0,0,0,0,⟨et,0,0⟩,⟨et,0,0⟩),(G.box 1 hZ).aA _ hZ,_,(⟨1,s,l,0,0,0,0,[],[]⟩:Mv),hZ,.inl ⟨hZ,o,i4⟩,hZ,?_⟩;have K:=G.bt [2];exact K.eW 0 hZ λq A=>⟨⟨hZ,hZ,hZ,hZ,hZ,hZ,u⟩,A.1.seq (λ_=>rfl) A.2,Seq.nil _ _ _ _ _ _,Seq.nil _ _ _ _ _ _⟩
 refine af (λ_=>(ui a h3).mono ?_) λ_=>af (λ_=>(ui a h3).mono ?_) λ_=>aX (λ_=>?_) λ_=>aX (λ_=>(ui a h3).mono ?_) λ_=>aX (λ_=>?_) λ_=>aX (λ_=>?_) λ_=>aX (λ_=>?_) λ_=>aX (λ_=>?_) λ_=>af (λ_=>?_) λ_=>aX (λ_=>?_) λ_=>?_
 .rintro _ f ⟨s,o,rfl,j⟩;exact⟨s,hZ,fin 2 0 0 0 0 s (e.up j.ac) (.inr (.inl ⟨.inl hZ,o⟩)) hZ⟩
 .rintro _ f ⟨s,o,rfl,j⟩;exact⟨s,hZ,fin 3 0 0 0 0 s (e.up j.ac) (.inr (.inl ⟨.inr (.inl hZ),o⟩)) hZ⟩
 .exact fin 4 0 0 0 0 _ e (.inr (.inr (.inl hZ))) hZ
 .rintro _ f ⟨s,o,rfl,j⟩;exact⟨s,hZ,fin 5 0 0 0 0 s (e.up j.ac) (.inr (.inl ⟨.inr (.inr hZ),o⟩)) hZ⟩
 .refine(cK a 9 h3).mono ?_;rintro _ f ⟨rfl,rfl⟩;refine⟨_,hZ,(cK b 60 f).mono ?_⟩;rintro _ i ⟨rfl,rfl⟩;have y:=W a 9 i0;have E:=W b 60 i0;refine⟨_,hZ,?_⟩
  try dsimp only
  rw[ag (6+b%60)];exact fin 6 _ _ 0 0 _ e (.inr (.inr (.inr (.inl ⟨hZ,y,i4,i4⟩)))) hZ
 .refine(cK a 8 h3).xa ⟨_,hZ,fin 7 _ 0 0 0 _ e (.inr (.inr (.inr (.inr (.inl ⟨hZ,W a 8 i0⟩))))) hZ⟩
 .refine(cK a 8 h3).mono ?_;rintro _ f ⟨rfl,rfl⟩;refine⟨_,hZ,(cK b 60 f).mono ?_⟩;rintro _ i ⟨rfl,rfl⟩;have y:=W a 8 i0;have E:=W b 60 i0;refine⟨_,hZ,?_⟩
  try dsimp only
  rw[ag (6+b%60)];exact fin 8 _ _ 0 0 _ e (.inr (.inr (.inr (.inr (.inr (.inl ⟨hZ,y,i4,i4⟩)))))) hZ
 .refine(cK a 8 h3).xa ⟨_,hZ,fin 9 _ 0 0 0 _ e (.inr (.inr (.inr (.inr (.inr (.inr (.inl ⟨hZ,W a 8 i0⟩))))))) hZ⟩
 .refine(cK a 3 h3).mono ?_;rintro _ f ⟨rfl,rfl⟩;refine⟨_,hZ,(cK b 20 f).mono ?_⟩;rintro _ i ⟨rfl,rfl⟩;have y:=W a 3 i0;have E:=W b 20 i0;exact⟨_,hZ,fin 10 0 _ _ 0 _ e (.inr (.inr (.inr (.inr (.inr (.inr (.inr (.inl ⟨hZ,i4,i4,i4⟩)))))))) hZ⟩
 .refine(cK a 9 h3).mono ?_;rintro _ f ⟨rfl,rfl⟩;refine⟨_,hZ,(cK b 70 f).mono ?_⟩;rintro _ i ⟨rfl,rfl⟩;have y:=W a 9 i0;have E:=W b 70 i0;refine⟨_,hZ,?_⟩
  try dsimp only
  rw[ag (a%9-1),ag (b%70-1)];exact fin 10 0 _ _ 0 _ e (.inr (.inr (.inr (.inr (.inr (.inr (.inr (.inl ⟨hZ,i4,i4,i4⟩)))))))) hZ
 .refine(cK a 7 h3).mono ?_;rintro _ f ⟨rfl,rfl⟩;refine⟨_,hZ,i0,(cK _ 40 f).mono ?_⟩;rintro _ i ⟨rfl,rfl⟩;refine⟨_,hZ,(cK b 61 i).xa ?_⟩;have V:∀z:Int,0<=qe xR z/\qe xR z<4294967296:=λz=>by rw[LK];have:=(qP 32 z).isLt;omega
  exact⟨_,hZ,fin 11 _ _ _ _ _ e (.inr (.inr (.inr (.inr (.inr (.inr (.inr (.inr ⟨hZ,W a 7 i0,W _ 40 i0,W b 61 i0,V _⟩)))))))) hZ⟩
theorem ZV(p:Pm)(k a b:Int)(h:f7)(c:bK p=ez):ai xT 18 #[kb p,xJ xP k,xJ xP a,xJ xP b] h λv h'=>∃(x:QM) (m:Mv),v=mvV x/\oU p m/\Sp h h' [EA nT x m]:=
 (WH p k a b h c).mono λ_ _ ⟨x,m,e,o,_,H⟩=>⟨x,m,e,o,H⟩
theorem WI(p:Pm)(s:Sl)(l:az)(most:Nat)(h:f7)(M:bK p=ez)(g:Rd h s 1 aw l)(X:most<=100):
  ai xT 8 #[kb p,s,xJ xP most,xN eH] h λv h'=>∃(r:Sl) (L:List Mv),v=r/\(∀m∈L,oU p m)/\L.length<=most/\Sp h h' [bV 37 r 9 rx nT L]:=by
 refine uU p s most eH ?_;have J:=g.len;refine(Sp.refl h).boxed λy R N=>?_;have fin:∀{h':f7} (r:Sl) (L:List Mv),(∀m∈L,oU p m)->hY L<=most->Sp h h' [aj y 25 [xJ xP p.1,xJ xP p.2.1,xJ xP p.2.2],bV 37 r 9 rx nT L]->∃(n:Sl) (L:List Mv),(Value.slice r.ptr r.len r.cap)=xK n.ptr n.len n.cap/\(∀m∈L,oU p m)/\L.length<=most/\Sp h h' [bV 37 n 9 rx nT L]:=λr L i I Q=>⟨r,L,hZ,i,I,Q.bt [1]⟩
 refine aG ?_;refine aq (λt:Sl×List Mv=>(t.1,((3*hY t.2:Nat):Int))) (λt h'=>(∀m∈t.2,oU p m)/\t.2.length<=most/\Sp h h' [aj y 25 [xJ xP p.1,xJ xP p.2.1,xJ xP p.2.2],bV 37 t.1 9 rx nT t.2]) (λt=>most-hY t.2) (⟨et,0,0⟩,[]) hZ ⟨i6,i6,N.th 37 9 rx nT⟩ ?_;rintro⟨o,L⟩ G ⟨b,z,d⟩;dsimp only at b z d⊢;obtain⟨k,E⟩:=x6 (hY L)
 rw[<-E]at z⊢;obtain⟨W,U⟩:=d.Oo 1 rfl;refine aG ?_;rw[ag (((3*k:Nat):Int)+2)];refine af (λT=>?_) λ_=>fin o L b ii d;refine af (λV=>?_) λ_=>fin o L b ii d;have O:3*k+2<hY l:=ii
 have H:k<most:=ii
 refine aG (aG (aY (λe=>jj) λ_=>aY (λe=>jj) λ_=>?_));have c:=g.up d.ac;obtain⟨D,A,i,_,_⟩:=g.elem (3*k) l[3*k] (qc ii);have a:∀{h':f7},Rd h' s 1 aw l->cellOf h' ((⟨D,A,et⟩:eS).add (((3*k:Nat):Int).toNat*1))=dB (xJ xP l[3*k]):=λ{h'} hr=>by
  obtain⟨Y,F,f,_,u3⟩:=hr.elem (3*k) l[3*k] (qc ii);rw[i]at f;injection f with f
  injection f with f u2
  subst f;subst u2;rw[qj,add_eq];have w:=u3.1;rw[add_eq,Nat.add_zero]at w;exact w
 refine⟨p,(d.box 0 hZ).aA _ hZ,⟨D,A,et⟩,⟨i,ii,ii⟩,l[3*k],a c,i0,?_⟩;rw[ag (((3*k:Nat):Int)+1)];refine c.bo (3*k+1) ii ii l[3*k+1] hZ ?_;refine c.bo (3*k+2) ii ii l[3*k+2] hZ ?_;refine(ZV p _ _ _ G M).mono ?_;rintro _ h3 ⟨x,m,rfl,u,P⟩;have j:=d.comp P;refine⟨x,hZ,⟨a (g.up j.ac),x7⟩,?_⟩;refine j.oX ae rx eMv hZ [x] hZ (show 1*9<=2^20 by decide) js ⟨a (g.up j.ac),x7⟩ ?_;refine j.nH ae 1 2 i0 hZ hZ eMv hZ i0 (λ_=>rfl) aic js i0 ii λF S B=>?_;refine⟨⟨a (g.up B.ac),x7⟩,(F,L++[m]),?_,⟨λK q=>?_,lx,B.bt [0,1]⟩,lx⟩
 .try dsimp only
  rw[ag (((3*k:Nat):Int)+3),qw,<-E];rfl
 .rcases qt.1 q with h|h
  .exact b K h
  .rw[qp.1 h];exact u
theorem oU.put{p:Pm}{b:Mv}(h:oU p b)(a:b.kind=1):b.name∈rv/\(hY b.data:Int)<=3*(p.1*p.2.2)+1:=by
 unfold oU at h;rw[a]at h;rcases h with h|h|h|h|h|h|h|h|h
 .exact h.2
 .exact absurd h.1 i0
 .exact absurd h i0
 all_goals exact absurd h.1 i0
theorem adc:∀s∈rv,s.size<=12:=j0
theorem afV{p:Pm}{extra:Int}{l:az}(j:bK p=ez)(f:0<=extra/\extra<=16)(k:1<=hY l/\l.length<=24)(h:∀x∈l,1<=x/\x<=512):
  tz p extra l=0/\bm l l.length=(qx l.length).map λi:Nat=>(i:Int):=by
 have d:∀i (a:i<hY l),1<=l.getD i 0/\l.getD i 0<=512:=λi a=>by rw[gT 0 a];exact h _ (qf a)
 have h0:bm l l.length=(qx l.length).map λi:Nat=>(i:Int):=by unfold bm;refine wJ.2 λy b=>?_;obtain⟨i,a,rfl⟩:=qo.1 b;have a:=qz.1 a;have:=d i a;rw[qj];exact g0 ii
 refine⟨?_,h0⟩;have e:(fQ l).2=ez:=by have c:l.all (fR · 0 512)=ez:=qK.2 λy b=>(mL _ _ _).2 ⟨by have:=h y b;omega,(h y b).2⟩;unfold fQ;rw[f8 c,h0];simp;omega
 have g:fR extra 0 16=ez:=(mL _ _ _).2 f;have h3:((bm l l.length).any λi=>decide (l.getD i.toNat 0<(hY (aP (cx p extra l)):Int)))=eH:=by refine wq.2 λy b=>?_;rw[h0]at b;obtain⟨i,a,rfl⟩:=qo.1 b;have a:=qz.1 a;have m:=DI p extra l k.2;have:=d i a;rw[qj,decide_eq_true_eq];omega
 unfold tz;rw[e,j,g,h3];rfl
theorem ZW{p:Pm}{extra:Int}{l:az}{D:aD}{m:ak}(n:m=cx p extra l)(v:tz p extra l=0)(w:hY l<=64)(j:hY D=64)
  (u:∀s,aH D s=if s∈bm l l.length then dB ⟨(l.getD s.toNat 0).toNat,aP m,0,[],eH,eH⟩else et) (C:Int->aL):eJ m C D/\Full m C D/\Low m D:=by
 have b:bc m=ez:=by rw[n];exact HV w v
 have i:m.drives=bm l l.length:=by rw[n];rfl
 have q:m.objs=[]:=by rw[n];rfl
 have f:∀k d,aH D k=dB d->∀c∈d.l,c∈aP m:=λk d a c f=>by
  rw[u]at a;split at a
  .injection a with a;subst a;exact f
  .cases a
 refine⟨⟨b,j,λk d a c h=>Gt C b (f k d a c h),λe g=>by rw[q]at g;cases g⟩,⟨λk t=>?_,λe g=>by rw[q]at g;cases g⟩,λk d a c h r o=>?_⟩
 .rw[i]at t;refine⟨_,by rw[u,f8 t],hZ,?_⟩;unfold fx;rw[b,zS];exact qK.2 λc f=>g0 f
 .rw[oq (f k d a c h)]at o;cases o
theorem Uk{m:ak}{i:Nat}{e:Qw.cb}(h:e∈(If m i).objs):e∈m.objs:=by
 have h:e∈m.objs.take i++m.objs.drop (i+1):=h;rcases qt.1 h with h|h
 .exact zw h
 .exact List.mem_of_mem_drop h
theorem aie(m:ak)(i:Nat):(If m i).objs=m.objs.eraseIdx i:=by show m.objs.take i++m.objs.drop (i+1)=_;rw[List.eraseIdx_eq_take_drop_succ]
theorem QN{m:ak}(f:bc m=ez)(n:m.seq<=2147483646)(i:Nat):bc (If m i)=ez:=by
 obtain⟨b,j,h3,d,g,h,k⟩:=(bU m).1 f;obtain⟨l,a2,a3,a4⟩:=(dn m).1 b;have a:(If m i).objs.Sublist m.objs:=by rw[aie];exact List.eraseIdx_sublist ..
 refine(bU _).2 ⟨(dn _).2 ⟨⟨?_,?_⟩,a2,a3,a4⟩,j,h3,qQ a.length_le d,λe c=>?_,h.sublist a,k.sublist a⟩
 .show 1<=m.seq+1;omega
 .show m.seq+1<=_;omega
 .exact(gr _ _).2 ((gr _ _).1 (g e (Uk c)))
structure Inv (m:ak) (C:Int->aL) (ds:aD) (N:Nat):Prop where
 sto:eJ m C ds
 full:Full m C ds
 low:Low m ds
 nm:∀e∈m.objs,e.name∈rv
 dr:m.drives≠[]
 seq:m.seq<=1+N
 nx:m.next<=N
theorem SN(s:ByteArray)(h:f7)(hs:s.size<=2^31):ai xT 154 #[xM s] h λv h'=>v=xM s/\Sp h h' []:=by
 refine ts Tryz.func154 ?_;refine aX (λe=>?_) λe=>?_
 .have t:s.size=0:=ii
  have:s=⟨#[]⟩:=by
   cases s with
   |mk d=>
    have:d=#[]:=Array.eq_empty_of_size_eq_zero t;rw[this]
  rw[this];exact⟨hZ,Sp.refl h⟩
 .refine(Sp.refl h).IN ae aB gN i0 0 hZ hZ s.size s.size hZ hZ (qm _) ii λA h1 T F V=>?_;obtain⟨J,E⟩:=Sp.fresh V 0 rfl;have hl:=J.len;rw[w4]at hl;rcases J.head with⟨p1,p2,p3⟩|⟨b,rest,p1,p2,p3,p4⟩
  .exfalso;have:=congrArg vx p3;rw[w4,List.length_nil]at this;omega
  have X:=E b ⟨0,p1⟩;have g:hY s.data.toList=s.size:=by rw[xq];rfl
  obtain⟨M,H⟩:∃M:Array Value,M=((qg s.size (0:UInt8)).flatMap aB++rest).toArray:=⟨_,rfl⟩
  rw[<-H]at p2;have Q:s.size<=M.size:=by rw[H];simp[dm (f:=aB) (k:=1) λ_=>rfl]
  obtain⟨Y,I⟩:∃Y:Array Value,Y=(M.toList.take 0++Lib.byteCells s.data.toList++M.toList.drop (0+s.size)).toArray:=⟨_,rfl⟩
  rw[p1];intro w u;have K:w.heap[b]?=dB (.cells M 5 (0,0)):=by rw[u];exact p2
  have m:=Lib.run_copy_row_string (P:=xT) w 34 9 3 5 b 0 A.len A.cap s M 5 kt kt K ii ii;rw[<-I]at m;have z:(w.setRow b Y).heap[b]?=dB (.cells Y 5 (0,0)):=setRow_heap _ _ M _ 5 (0,0) K;refine⟨_,_,m,⟨hZ,hZ,hZ,qm _⟩,(s.size:Int),hZ,⟨b,0,et⟩,⟨(by first|exact p1|rfl),i0,ii⟩,?_⟩;intro q c;have l:Y.toList=Lib.byteCells s.data.toList++M.toList.drop s.size:=by rw[I];simp
  have r:hY (Lib.byteCells s.data.toList)=s.size:=by rw[Lib.byteCells_length,g]
  have U:s.size<=Y.size:=by rw[<-xq,l,qw,r];omega
  have i:q.heap[b]?=dB (.cells Y 5 (0,0)):=by rw[c];exact z
  have D:s.data.toList≠[]:=λt=>by rw[t]at g;simp at g;omega
  have B:=Lib.run_unsafeString_row (P:=xT) q 297 3 9 5 kt kt b Y.size (by unfold World.shape?;rw[i]) s.data.toList D ii ii (λj x G=>by
   have hj:j<s.size:=by have:=(qk.1 G).1;omega
   have S:Y[j]?=dB (xJ xQ (x.toNat:Int)):=by rw[<-Array.getElem?_toList,l,List.getElem?_append_left ii];unfold Lib.byteCells;rw[qO,G];rfl
   have Z:((⟨b,0,et⟩:eS).add j)=⟨b,j,et⟩:=by unfold Addr.add;split<;>simp_all
   rw[Z];unfold World.cell?;simp only[i,S];rfl)
  have e9:((A.len:Nat):Int)=(hY s.data.toList:Int):=ii
  have fz:∀(a:World) (n:Nat),(a.freeze ⟨b,0,et⟩ n).heap.size=a.heap.size/\(∀k,k≠b->(a.freeze ⟨b,0,et⟩ n).heap[k]?=a.heap[k]?)/\dh a (a.freeze ⟨b,0,et⟩ n):=λa n=>by
   unfold World.freeze;split
   .exact⟨hZ,λ_ _=>rfl,dh.refl _⟩
   .refine⟨i6,λk o=>?_,⟨hZ,hZ,hZ,qm _⟩⟩;rw[wL,f9 λh=>o h.symm]
  obtain⟨L,O,N⟩:=fz q s.data.toList.length;refine⟨xM ⟨s.data.toList.toArray⟩,q.freeze ⟨b,0,et⟩ s.data.toList.length,?_,N,⟨s.data.toList.toArray⟩,hZ,i6,?_⟩
  .rw[e9];exact B
  .have W:(w.setRow b Y).heap.size=w.heap.size:=by unfold World.setRow;simp
   have R:∀k,k≠b->(w.setRow b Y).heap[k]?=w.heap[k]?:=λk o=>by
    unfold World.setRow;rw[wL,f9 λh=>o h.symm]
   refine .zip ⟨by rw[L,c,W,u];exact F.1,λk o y=>?_⟩;have p:k≠b:=by have:=X.1;omega
   rw[O k p,c,R k p,u];exact F.2 k o y
theorem Nx(s:ByteArray)(h:f7)(a:s.size<=2^31):ai xT 93 #[xM s] h λv h'=>v=xM s/\Sp h h' []:=by refine ts Tryz.func93 ?_;refine(SN s h a).xc λc b=>⟨_,hZ,hZ,b⟩
def ow(m:ak)(offs:Int)(w:Pow):List ByteArray:=if dE w offs then[]else m.objs.map Qw.cb.name
section
variable {pw:eS}
theorem WJ(x:bh)(s:bc m=ez)(H:aa B h0 h (bf bi a pw (aM x) offs da w ds::bI x m::As)):
  ai xT 36 #[xL (dB a)] h λv h'=>∃r:Sl,v=r/\Sp h h' [an 9 r 1 od (ow m offs w)]:=by
 refine ts Tryz.func36 ?_ (v7 (v7 (v7 (wj [(3,cM),(14,aU)] [(3,4),(5,6),(14,25)]))));refine(pq H).mono ?_;rintro _ k ⟨rfl,rfl⟩;refine⟨_,hZ,aY (λe=>?_) λD=>?_⟩
 .have:ow m offs w=[]:=by unfold ow;rw[f8 e]
  rw[this];exact⟨⟨et,0,0⟩,hZ,(Sp.refl k).nil 9 1 od⟩
 have O:ow m offs w=m.objs.map Qw.cb.name:=by unfold ow;rw[f9 (by rw[D];decide)]
 rw[O];have J:=(aa.cE H).2;have y:cR k x m:=H.at 1 hZ;have L:=((bU m).1 s).2.2.2.1;obtain⟨M,F⟩:=bN.fix y.objs;have N:=F.2.1;have u:=F.1.len;refine⟨a,hZ,x.2.2.2.2.2.2.2,J.cell hZ,?_⟩;refine aq (λt:Sl×Nat=>(t.1,(t.2:Int))) (λt h'=>t.2<=hY m.objs/\Sp k h' [an 9 t.1 1 od ((m.objs.map Qw.cb.name).take t.2)]) (λt=>hY m.objs-t.2) (⟨et,0,0⟩,0) hZ ⟨i6,by simpa using(Sp.refl k).nil 9 1 od⟩ ?_;rintro⟨o,i⟩ T ⟨G,d⟩;dsimp only at G d⊢;refine af (λe=>?_) λe=>?_
 .have c:i<hY m.objs:=ii
  have b:=Fix.row F c;obtain⟨E,l⟩:=x6 (m.objs[i])
  have p:E∈m.objs:=by rw[l];exact qf c
  obtain⟨xe,f⟩:=x6 (M[i]'ii)
  rw[<-l,<-f]at b;have j:xe.1=E.name:=b.1.1;have Q:E.name.size<=12:=by have:=((gr m E).1 (((bU m).1 s).2.2.2.2.1 E p)).1;unfold lC at this;simp at this;omega
  refine(Seq.up F.1 d.ac).de (g:=bY) i hZ ii xe (by rw[f]) ?_;refine d.alloc ae hZ λV h3 A=>?_;refine A.storeAll ae 1 hZ hZ (bY xe) hZ hZ hZ hZ λR q=>?_;refine⟨xe.1,(q.box 1 hZ).cell0 hZ,(Nx xe.1 R (by rw[j];omega)).xc λS K=>?_⟩;have I:=(q.up K.ac).bt [0];refine⟨_,hZ,I.push ae 0 hZ aid hZ i0 (λ_=>rfl) afU xe.1 hZ i0 i5 λP U z=>?_⟩;refine⟨(P,i+1),i7,⟨i4,?_⟩,i4⟩
  try dsimp only
  rw[aE _ _ (show i<hY (m.objs.map Qw.cb.name) by simpa using c),z8,<-l,<-j];exact z
 .rw[qh m8]at d;exact⟨o,hZ,d⟩
theorem ade(b:bc m=ez)(H:aa B h0 h (bu a pw da offs w ds m::As)):
  ai xT 36 #[xL (dB a)] h λv h'=>∃r:Sl,v=r/\Sp h h' [an 9 r 1 od (ow m offs w)]:=by
 obtain⟨x,H⟩:=gc H;exact WJ x b H
end
theorem afW{B:av}{g h:f7}{As:List HP}{a pw:eS}{offs:Int}{e:List bD}{w:Pow}{ds:aD}{m:ak}(name:ByteArray)(i:bc m=ez)(H:aa B g h (bu a pw e offs w ds m::As)):
  ai xT 34 #[xL (dB a),xM name] h λv h'=>∃r:Sl,v=.tuple #[r,xJ xP (jb m offs w ds name).2]/\Sp h h' [EA (cz 1 aB) r (jb m offs w ds name).1]:=by
 have b:=(jJ H).2;obtain⟨x,f⟩:=gc H;exact acW x name i (λk d c=>qQ (b k d c).1 (b k d c).2.1) f
variable {L:List bD}
section
variable {pw:eS}
theorem QO(y:rq)(t:y.1=2)(u:bc m=ez)(H:aa B h0 h (bu a pw da offs w ds m::aj b 60 (kC q (dB a) L)::As)):
  ai xT 19 #[xL (dB b),oc y] h λv h'=>∃r:Sl,v=mR ((jb m offs w ds y.2.1).2,r,ck,0,0,0,ck,0)/\Sp h h' [EA (cz 1 aB) r (jb m offs w ds y.2.1).1]:=by
 refine ts Tryz.func19 ?_ (v7 (ws [] [(5,78)] u9)) (args:=[(dB b),y]);have d:=H.box 1 hZ;refine(Sp.refl h).boxed λD x o=>?_;refine o.alloc ae hZ λa2 A c=>?_;have f:=d.ac c.ac d.lt;obtain⟨E,g⟩:=x6 (jb m offs w ds y.2.1)
 refine bB (λ_ h'=>∃r:Sl,Sp h h' [aj a2 43 (gA (E.2,r,ck,0,0,0,ck,0)),EA (cz 1 aB) r E.1]) ?_ ?_
 .refine⟨y.1,(c.box 0 hZ).cell0 hZ,?_⟩;rw[t];refine aX (λe=>absurd e i0) λ_=>aX (λ_=>?_) λe=>absurd hZ e;refine⟨b,hZ,dB a,f.cell hZ,y.2.1,(c.box 0 hZ).cell hZ,(afW y.2.1 u (H.up c.ac)).mono ?_⟩;rw[<-g];rintro _ h3 ⟨r,rfl,s⟩;have k:=c.comp s;refine⟨(r,E.2),hZ,x7,?_⟩;refine k.store ae 1 hZ hZ 1 [r] hZ hZ hZ i6 λI l=>⟨x7,?_⟩
  refine l.fv ae 1 hZ hZ [xJ xP E.2] hZ hZ hZ i6 λz p=>⟨x7,r,?_⟩
  exact p.bt [1,2]
 .rintro _ F ⟨r,j⟩;refine⟨(E.2,r,ck,0,0,0,ck,0),(j.box 0 hZ).aA _ hZ,j.storeAll ae 0 hZ hZ (gA (E.2,r,ck,0,0,0,ck,0)) hZ hZ hZ hZ λG i=>?_⟩;exact⟨(E.2,r,ck,0,0,0,ck,0),(i.box 0 hZ).aA _ hZ,r,by rw[<-g],by rw[<-g];exact i.bt [1]⟩
theorem Dp(y:rq)(g:y.1=2)(l:bc m=ez)(H:aa B h0 h (bu a pw da offs w ds m::aj b 60 (kC q (dB a) L)::As)):
  ai xT 9 #[xL (dB b),oc y] h λv h'=>∃r:Sl,v=mR ((jb m offs w ds y.2.1).2,r,ck,0,0,0,ck,0)/\Sp h h' [EA (cz 1 aB) r (jb m offs w ds y.2.1).1]:=by
 refine ts Tryz.func9 ?_ (v7 (v7 (u7 (v6 [] [(8,101)] (v7 (v1 (ws [(11,ka)] [(11,17)] u9)))) u9))) (args:=[(dB b),y]);refine(Sp.refl h).boxed λs o i=>?_;refine i.alloc ae hZ λa2 p c=>aY (λe=>jj) λ_=>aG ?_;refine⟨y.1,(c.box 0 hZ).cell0 hZ,aG ?_⟩;rw[g];refine aX (λe=>absurd e i0) λ_=>aX (λ_=>?_) λe=>absurd hZ e;refine aY (λ_=>?_) λe=>jj
 refine⟨y,(c.box 0 hZ).aA _ hZ,(QO y g l (H.up c.ac)).mono ?_⟩;obtain⟨E,j⟩:=x6 (jb m offs w ds y.2.1)
 rw[<-j];rintro _ h3 ⟨r,rfl,k⟩;obtain⟨Y,d⟩:∃Y:Bl,Y=(E.2,r,ck,0,0,0,ck,0):=⟨_,rfl⟩
 rw[<-d];refine⟨Y,hZ,(c.comp k).storeAll ae 1 hZ hZ (gA Y) hZ hZ hZ hZ λt f=>?_⟩;exact⟨Y,(f.box 1 hZ).aA _ hZ,r,by rw[<-d],f.bt [2]⟩
end
variable {v:eS}
section
variable {pw:eS}
end
section
variable {pw:eS}
end
theorem eJ.aif{m:ak}{C:Int->aL}{ds:aD}(S:eJ m C ds){k:Int}{f d:ba}(g:aH ds k=dB f)(b:∀c∈d.l,dN m C c):eJ m C (cu ds k d):=
 ⟨S.may,by rw[oT];exact S.len,λj e a=>by
  rw[ib S.len g]at a;split at a
  .injection a with a;subst a;exact b
  .exact S.cells j e a,S.ents⟩
structure Wn (p:Pm) (m:ak) (C:Int->aL) (ds:aD):Prop where
 sto:eJ m C ds
 live:aR ds m.drives≠[]
 dr:∀k∈m.drives,k<9
 pe:m.p=p
 wt:∀k d,aH ds k=dB d->d.wait=0
variable {p:Pm}
section
variable {C:Int->aL}
theorem WK{l:az}(h:l.Pairwise (·<·)){s:Int}(i:s∉l):(iC (l++[s])).Pairwise (·<·):=by have g:(l++[s]).Nodup:=List.nodup_append.2 ⟨h.imp λh e=>ii,i6,λa d b f e=>i (by rw[<-qp.1 f,<-e];exact d)⟩;have j:(iC (l++[s])).Perm (l++[s]):=List.mergeSort_perm _ _;have c:(iC (l++[s])).Pairwise (λa b=>a≠b):=j.nodup_iff.2 g;exact(Qw.El _).imp₂ (λa b=>ii) c
end
def AV(s:Sl)(n:Nat):Sl:=⟨if s.cap=n then s.ptr else s.ptr.map (·.add (n*1)),s.len-n,s.cap-n⟩
theorem Ka{a:eS}{s:Sl}{f:Bool}{n:Int}(c:0<=n)(g:s.len<=s.cap)(H:aa B h0 h (aj a 427 [s,xN f]::As)):
  ai xT 362 #[xL (dB a),xJ xP n] h λv h'=>
   (n<=s.len/\v=xK s.ptr n.toNat s.cap/\aa B h0 h' (aj a 427 [.slice (AV s n.toNat).ptr (AV s n.toNat).len (AV s n.toNat).cap,xN f]::As))∨
   ((s.len:Int)<n/\v=xK et 0 0/\aa B h0 h' (aj a 427 [s,xN ez]::As)):=by
 refine ts Tryz.func362 ?_;refine⟨a,hZ,s,(H.box 0 hZ).cell0 hZ,af (λe=>?_) λe=>?_⟩
 .refine⟨a,hZ,H.store ae 0 hZ hZ 1 [xN ez] hZ hZ hZ i6 λd b=>.inr ⟨e,hZ,b⟩⟩
 .refine⟨a,hZ,s,(H.box 0 hZ).cell0 hZ,⟨c,ii⟩,a,hZ,s,(H.box 0 hZ).cell0 hZ,⟨c,ii⟩,a,hZ,?_⟩;refine H.fv ae 0 hZ hZ [.slice (AV s n.toNat).ptr (AV s n.toNat).len (AV s n.toNat).cap] hZ hZ hZ i6 λd b=>Or.inl ⟨ii,hZ,b⟩
theorem AW(l:aL):jE l=dv l:=rfl
theorem QP{s:Sl}{l:aL}(j:Rd h s 1 aB l)(r:hY l<=4){R:Bd}(q:R (xJ xP (jE l)) h):
  gX (σ:=Int×Int) (λb K1 d=>
 Br (decide (b.2<((s.len:Nat):Int)))
 (∃a3:eS,(s.ptr=dB a3/\0<=b.2/\b.2<((s.len:Nat):Int))/\
 ∃g:Int,cellOf d (a3.add (b.2.toNat*1))=dB (xJ xQ g)/\
 (0<=(8:Int))/\
 K1 (qe xP ((qP (qI xP) (qe xP (b.1*2^min (8:Int).toNat (qI xP)))|||(qP (qI xP) (qe xP g))).toNat:Nat),qe xP (b.2+(1:Int))) d)
 (R (xJ xP b.1) d)) ((0:Int),(0:Int)) h:=by
 have v:=j.len;refine aq (τ:=Nat) (λi=>(jE (l.take i),(i:Int))) (λi h'=>i<=hY l/\h'=h) (λi=>hY l-i) 0 (by simp[jE]) ⟨zk _,hZ⟩ ?_;rintro i h' ⟨u,rfl⟩;refine af (λe=>?_) (λe=>?_)
 .have a:i<hY l:=o7
  refine j.mU i hZ a ((l.getD i 0).toNat:Int) (by rw[getD_lt a];rfl) λt m=>⟨i0,i+1,?_,⟨a,hZ⟩,ii⟩
  have p:=CX (l.take i) i5;have f:=p.2.2 i5;obtain⟨n,c⟩:∃n:Nat,jE (l.take i)=(n:Int):=⟨(jE (l.take i)).toNat,by rw[AW];omega⟩
  rw[<-AW,c]at f;have k:=(l.getD i 0).toNat_lt;show(_,_)=(_,_)
  rw[c,Ps n _ ii k,ag _];have o:l.take (i+1)=l.take i++[l.getD i 0]:=by rw[getD_lt a];simp
  rw[o,AC,c];rfl
 .have:i=hY l:=o7
  subst this;simpa using q
def mz(s:Sl)(n:Int):Sl:=if n<=s.len then AV s n.toNat else s
theorem ZX{a:eS}{s:Sl}{f:Bool}{n:Int}{l:aL}(j:0<=n)(o:n<=4)(g:s.len<=s.cap)(d:∀k h',aa B h0 h' (aj a 427 k::As)->Rd h' s 1 aB l)
  (H:aa B h0 h (aj a 427 [s,xN f]::As)):
  ai xT 357 #[xL (dB a),xJ xP n] h λv h'=>
   v=xJ xP (cy (l,f) n).1/\aa B h0 h' (aj a 427 [.slice (mz s n).ptr (mz s n).len (mz s n).cap,xN (cy (l,f) n).2.2]::As):=by
 have c:=(d _ _ H).len;refine ts Tryz.func357 ?_ (v7 (v7 (wj [(5,aU),(12,aU)] [(5,6),(7,8),(12,22)])));refine(Ka j g H).mono ?_;rintro v m (⟨e,rfl,H1⟩|⟨e,rfl,H1⟩)
 .have i:=(d _ _ H1).take n.toNat ii;refine⟨⟨s.ptr,n.toNat,s.cap⟩,hZ,?_⟩;refine QP (s:=⟨s.ptr,n.toNat,s.cap⟩) (R:=λv h'=>v=xJ xP (cy (l,f) n).1/\aa B h0 h' (aj a 427 [.slice (mz s n).ptr (mz s n).len (mz s n).cap,xN (cy (l,f) n).2.2]::As)) i i5 ?_;have b:gZ (l,f) n=(l.take n.toNat,(l.drop n.toNat,f)):=by unfold gZ;rw[f8 (show n<=((hY l:Nat):Int)by omega)]
  unfold cy mz;rw[b,f8 e];exact⟨hZ,H1⟩
 .refine⟨⟨et,0,0⟩,hZ,?_⟩;refine QP (s:=⟨et,0,0⟩) (l:=[]) (R:=λv h'=>v=xJ xP (cy (l,f) n).1/\aa B h0 h' (aj a 427 [.slice (mz s n).ptr (mz s n).len (mz s n).cap,xN (cy (l,f) n).2.2]::As)) ?_ i6 ?_
  .exact Seq.nil _ _ _ _ _ _
  .have b:gZ (l,f) n=([],(l,ez)):=by unfold gZ;rw[f9 (show¬n<=((hY l:Nat):Int)by omega)]
   unfold cy mz;rw[b,f9 ii];exact⟨hZ,H1⟩
theorem WL(l:aL):0<=jE l/\jE l<256^hY l:=by
 have c:∀(n:Nat) (l:aL),hY l=n->0<=jE l/\jE l<256^n:=by
  intro n
  induction n with
  |zero=>intro l b;have:l=[]:=List.length_eq_zero_iff.1 b;subst this;simp[jE]
  |succ n ih=>
   intro l b;have a:l≠[]:=λh=>by rw[h]at b;cases b
   have e:=yL a;have:=ih l.dropLast (by rw[List.length_dropLast];omega);rw[<-e,AC,Int.pow_succ];have:=(l.getLast a).toNat_lt;omega
 exact c _ l hZ
theorem nU(r:aL×Bool)(k:Nat):0<=(cy r k).1/\(cy r k).1<256^k:=by
 unfold cy gZ;split
 .have:=WL (r.1.take k);rename_i h;rw[qR,Nat.min_eq_left ii]at this;simpa using this
 .have:(0:Int)<256^k:=Int.pow_pos i0;simp[jE];omega
theorem countP_le{p:Int×Int×Int}{n:Int}(d:0<=n):0<=countP p n/\countP p n<=n:=by
 unfold countP;by_cases h:(bK p&&decide (0<n))=ez
 .rw[f8 h];rw[qy,decide_eq_true_eq]at h;have e:=(bP p).1 h.1;have a:0<p.1*p.2.2:=Int.mul_pos ii ii;have b:0<=(n-1)/(p.1*p.2.2):=Int.ediv_nonneg ii ii;have c:(n-1)/(p.1*p.2.2)<=n-1:=Int.ediv_le_self _ ii;omega
 .rw[f9 h];omega
variable {l:aL} {f:Bool} {n:Int}
abbrev sn(s:Sl)(f:Bool):aT:=[s,xN f]
structure lF (B:av) (h0:f7) (As:List HP) (s:Sl) (l:aL):Prop where
 cap:s.len<=s.cap
 st:St B h0 As λh=>Rd h s 1 aB l
theorem lF.next(O:lF B h0 As s l)(b:s.len=hY l)(a:0<=n):lF B h0 As (mz s n) (gZ (l,f) n).2.1:=by
 unfold mz gZ;by_cases e:n<=(s.len:Int)
 .rw[f8 e,f8 (show n<=((hY l:Nat):Int)by omega)];exact⟨by unfold AV;(try dsimp only);have:=O.cap;omega,O.st.mono λh x=>Seq.drop x n.toNat O.cap⟩
 .rw[f9 e,f9 (show¬n<=((hY l:Nat):Int)by omega)];exact O
theorem jc(b:List HP)(d:0<=n)(g:n<=4)(O:lF B h0 As s l)(H:aa B h0 h (aj a 427 (sn s f)::(b++As))):
  ai xT 357 #[xL (dB a),xJ xP n] h λv h'=>v=xJ xP (cy (l,f) n).1/\∃e,lF B h0 As e (cy (l,f) n).2.1/\aa B h0 h' (aj a 427 (sn e (cy (l,f) n).2.2)::(b++As)):=by
 have i:=(O.st.at (_::b) H).len;refine(ZX d g O.cap (λj h' c=>O.st.at (_::b) c) H).mono ?_;rintro v h' ⟨rfl,c⟩;exact⟨hZ,_,O.next i d,c⟩
theorem ZY(c:List HP)(g:0<=n)(O:lF B h0 As s l)(H:aa B h0 h (aj a 427 (sn s f)::(c++As))):
  ai xT 362 #[xL (dB a),xJ xP n] h λv h'=>∃r:Sl,v=r/\Rd h' r 1 aB (gZ (l,f) n).1/\∃i,lF B h0 As i (gZ (l,f) n).2.1/\aa B h0 h' (aj a 427 (sn i (gZ (l,f) n).2.2)::(c++As)):=by
 have j:=(O.st.at (_::c) H).len;refine(Ka g O.cap H).mono ?_;have d:=O.next (f:=f) j g;rintro v k (⟨e,rfl,H1⟩|⟨e,rfl,H1⟩)
 .have b:gZ (l,f) n=(l.take n.toNat,(l.drop n.toNat,f)):=by unfold gZ;rw[f8 (show n<=((hY l:Nat):Int)by omega)]
  refine⟨⟨s.ptr,n.toNat,s.cap⟩,hZ,?_,_,d,?_⟩
  .rw[b];exact(O.st.at (_::c) H1).take n.toNat ii
  .rw[b];unfold mz;rw[f8 e];exact H1
 .have b:gZ (l,f) n=([],(l,ez)):=by unfold gZ;rw[f9 (show¬n<=((hY l:Nat):Int)by omega)]
  refine⟨⟨et,0,0⟩,hZ,?_,_,d,?_⟩
  .rw[b];exact Seq.nil _ _ _ _ _ _
  .rw[b];unfold mz;rw[f9 ii];exact H1
theorem MM(n:Nat)(l:aL):gy n (l,ez)=([],(l,ez)):=by
 cases n<;>simp[gy]
theorem QQ(n:Nat)(r:aL×Bool)(h:r.2=eH):gy (n+1) r=((cy r 1).1::(gy n (cy r 1).2).1,(gy n (cy r 1).2).2):=by show(if r.2 then _ else _)=_;rw[h];rfl
abbrev pmC(p:Pm):aT:=[xJ xP p.1,xJ xP p.2.1,xJ xP p.2.2]
abbrev adf:aT:=[xM ⟨#[]⟩,xJ xP 0,xJ xP 0,xK et 0 0]
theorem WM(m:List HP)(p:Pm)(O:lF B h0 As s l)(H:aa B h0 h (aj a 427 (sn s f)::(m++As))):
  ai xT 358 #[xL (dB a),kb p] h λv h'=>∃x:dP,v=xO (bY x).toArray/\∃j,lF B h0 As j (lN p (l,f)).2.1/\
   aa B h0 h' (EA gV x (lN p (l,f)).1::aj a 427 (sn j (lN p (l,f)).2.2)::(m++As)):=by
 refine ts Tryz.func358 ?_ (v7 (v7 (v7 (u7 (v6 [] [(18,36)] (v7 (v1 (v2 [(22,aU)] [(22,36)] u9)))) u9)))) (args:=[(dB a),p]);refine H.boxed λa1 h1 Z=>?_;have Z:=Z.aZ;refine Z.alloc ae hZ λa2 h2 L=>?_;have L:=L.aZ;have L:=L.aJ 3 [2,1,0];obtain⟨w,E⟩:∃q,q=cy (l,f) 1:=⟨_,rfl⟩
 have S:=nU (l,f) 1;refine(jc (_::_::m) i0 i0 O L).xc λh3 ⟨s1,O3,H3⟩=>?_;rw[show((1:Nat):Int)=1 from rfl]at S;rw[<-E]at O3 H3 S⊢;refine⟨_,hZ,?_⟩;obtain⟨d,F⟩:∃q,q=gZ w.2 w.1:=⟨_,rfl⟩
 refine(ZY (l:=w.2.1) (f:=w.2.2) (_::_::m) S.1 O3 H3).x0 λr h4 ⟨u,s2,O4,H4⟩=>?_;have e2:gZ (w.2.1,w.2.2) w.1=d:=F.symm;rw[e2]at u O4 H4;refine⟨r,hZ,FV ae ⟨_,hZ,hZ⟩ ⟨_,hZ,hZ⟩ ⟨_,hZ,hZ⟩ u ?_⟩;refine H4.alloc ae hZ λa6 h6 Y=>?_;have Y:=Y.aZ;refine Y.storeAll ae 0 hZ hZ [xM ⟨d.1.toArray⟩,xJ xP 0,xJ xP 0,xK et 0 0] hZ hZ hZ hZ λh7 W=>?_;have W:=W.ie;obtain⟨g,G⟩:∃q,q=cy d.2 3:=⟨_,rfl⟩
 refine(jc (l:=d.2.1) (f:=d.2.2) (_::_::_::m) i0 i0 O4 W).xc λh8 ⟨s3,O8,H8⟩=>?_;have e3:cy (d.2.1,d.2.2) 3=g:=G.symm;rw[e3]at O8 H8⊢;refine⟨_,hZ,?_⟩;obtain⟨b,D⟩:∃q,q=cy g.2 2:=⟨_,rfl⟩
 have P:=nU g.2 2;rw[show((2:Nat):Int)=2 from rfl,<-D]at P;refine(jc (l:=g.2.1) (f:=g.2.2) (_::_::_::m) i0 i0 O8 H8).xc λh9 ⟨s4,O9,H9⟩=>?_;have e4:cy (g.2.1,g.2.2) 2=b:=D.symm;rw[e4]at O9 H9⊢;refine⟨_,hZ,?_⟩;refine H9.storeAt ae 1 hZ hZ hZ hZ hZ i6 λa3 X=>?_;refine X.storeAt ae 1 hZ hZ hZ hZ hZ i6 λR A=>?_;have z:lN p (l,f)=(⟨⟨d.1.toArray⟩,g.1,b.1,(gy (countP p b.1).toNat b.2).1⟩,(gy (countP p b.1).toNat b.2).2):=by subst E;subst F;subst G;subst D;rfl
 have ah:=countP_le (p:=p) (n:=b.1) P.1;obtain⟨N,hN⟩:∃N:Nat,countP p b.1=N:=⟨(countP p b.1).toNat,ii⟩
 rw[hN,qj]at z;have ad:N<=65536:=by have:=P.2;omega
 refine bB (λ_ h'=>∃(t j:Sl),lF B h0 As j (lN p (l,f)).2.1/\aa B h0 h' (aj a 427 (sn j (lN p (l,f)).2.2)::an 3 t 1 aw (lN p (l,f)).1.tries::aj a6 111 (bY (⟨d.1.toArray⟩,g.1,b.1,t))::aj a1 25 (pmC p)::aj a2 111 adf::(m++As))) ?_ ?_
 .refine⟨p,(A.box 2 hZ).aA _ hZ,b.1,(A.box 1 hZ).cell hZ,(pU p b.1 R (by have:=P.2;omega)).xc λa4 U=>?_⟩;have y:=(A.up U.ac).nil 3 1 aw;have y:=y.aZ.ie;rw[hN];refine⟨_,hZ,?_⟩;refine aq (λi:Nat=>(i:Int)) (λi h'=>i<=N/\∃(ts:az) (t j:Sl) (c:aL×Bool),ts.length<=i/\gy N b.2=(ts++(gy (N-i) c).1,(gy (N-i) c).2)/\lF B h0 As j c.1/\
   aa B h0 h' (aj a 427 (sn j c.2)::an 3 t 1 aw ts::aj a6 111 (bY (⟨d.1.toArray⟩,g.1,b.1,t))::aj a1 25 (pmC p)::aj a2 111 adf::(m++As))) (λi=>N-i) 0 hZ ⟨zk _,[],⟨et,0,0⟩,s4,b.2,qm _,i6,O9,y⟩ ?_
  rintro i ap ⟨hi,ts,t,j,c,ay,u,J,o⟩
  try dsimp only
  refine af (λe=>?_) λe=>?_
  .have I:i<N:=ii
   refine⟨a,hZ,c.2,(o.box 0 hZ).cell hZ,aY (λT=>?_) λT=>?_⟩
   .have K:gy (N-i) c=([],c):=by
     have:c=(c.1,ez):=by rw[<-T]
     rw[this];exact MM _ _
    rw[K,qG]at u;rw[u]at z;rw[z];exact⟨t,j,J,o⟩
   .refine⟨t,(o.box 2 hZ).cell hZ,(jc (l:=c.1) (f:=c.2) (_::_::_::_::m) i0 i0 J o).xc λal ⟨s5,O5,H5⟩=>?_⟩;refine⟨_,hZ,⟨(H5.box 2 hZ).cell hZ,x7⟩,?_⟩;refine H5.lit ae aw gb hZ [(cy c 1).1] hZ (show 1*1<=2^20 by decide) hZ λv a0 k=>?_;have k:=k.aZ;refine⟨⟨(k.box 3 hZ).cell hZ,x7⟩,?_⟩;refine k.append ae 2 hZ gb ⟨_,_,hZ,hZ⟩ hZ i0 (λ_=>rfl) (k.seq 0 hZ λ_=>rfl) fd i5 λt2 ar V=>⟨x7,?_⟩
    refine V.storeAt ae 3 hZ hZ hZ hZ hZ i6 λax Q=>⟨x7,?_⟩
    refine⟨i+1,i9,⟨ii,ts++[(cy c 1).1],t2,s5,(cy c 1).2,i5,?_,O5,Q.rest⟩,ii⟩;have K:N-i=(N-(i+1))+1:=ii
    rw[u,K,QQ _ _ T];simp
  .have I:i=N:=ii
   subst I;have K:gy (i-i) c=([],c):=by rw[qX];rfl
   rw[K,qG]at u;rw[u]at z;rw[z];exact⟨t,j,J,o⟩
 rintro _ am ⟨t,j,J,o⟩;refine⟨(⟨d.1.toArray⟩,g.1,b.1,t),(o.box 2 hZ).aA _ hZ,?_⟩;refine o.storeAll ae 4 hZ hZ (bY (⟨d.1.toArray⟩,g.1,b.1,t)) hZ hZ hZ hZ λao M=>?_;refine⟨(⟨d.1.toArray⟩,g.1,b.1,t),(M.box 4 hZ).aA _ hZ,(⟨d.1.toArray⟩,g.1,b.1,t),hZ,j,J,?_⟩;have ab:=(M.freeze 1 hZ λ_=>rfl).aJ 5 [1,0];refine ab.eW 0 hZ λq hq=>?_;rw[z];rw[z]at hq;exact⟨⟨hZ,hZ,hZ⟩,hq⟩
theorem bx.ajp{P:Program}{s:Sem Value}{h:f7}{K1 g:Sl->f7->Prop}(a:bx P s (.one (.sc .slc)) h K1)(b:bx P s (.one (.sc .slc)) h g):bx P s (.one (.sc .slc)) h λv h'=>K1 v h'/\g v h':=by
 intro w f;obtain⟨q,r,d,l1,c,e,j⟩:=a w f;obtain⟨t,u,i,l2,x2,p,k⟩:=b w f;rw[d]at i;injection i with g1 g2
 subst g1 g2;have l:c=x2:=by
  have:=e.symm.trans p;obtain⟨n,a2,a3⟩:=c;obtain⟨m,b2,o⟩:=x2;have h:Value.slice n a2 a3=Value.slice m b2 o:=this;injection h with c1 c2 c3
  subst c1 c2 c3;rfl
 subst l;exact⟨q,r,d,l1,c,e,j,k⟩
theorem aa.MN{B:av}{d h:f7}{As:List HP}{y:bh}{m:ak}(a:y.1=m.seq/\y.2.1=m.next/\(y.2.2.1,y.2.2.2.1,y.2.2.2.2.1)=m.p/\y.2.2.2.2.2.1=m.extra)
  (H:aa B d h (an 3 y.2.2.2.2.2.2.1 1 aw m.drives::bV 111 y.2.2.2.2.2.2.2 4 bY gV m.objs::As)):aa B d h (bI y m::As):=by
 have k:=(H.own 0 hZ).cap;have i:=(H.Oo 1 hZ).2;have g:=((H.freeze 0 hZ λ_=>rfl).KF 1 hZ λ_=>rfl).jw;refine g.eW 0 hZ λq ⟨l,n,_,b,c,e,j⟩=>?_;exact⟨a.1,a.2.1,a.2.2.1,a.2.2.2,j.mono λx f=>c x f,rR.mono e b,k,i⟩
abbrev fu:bh:=(0,0,0,0,0,0,⟨et,0,0⟩,⟨et,0,0⟩)
abbrev aeJ:bL C.toBH 83 111 4 adf 56:=⟨_,_,hZ,hZ,hZ,hZ,hZ,hZ⟩
theorem ZZ(p:Pm)(n:Nat)(l:aL):jA p n (l,ez)=([],(l,ez)):=by
 cases n<;>simp[jA]
theorem adg(p:Pm)(n:Nat)(r:aL×Bool)(h:r.2=eH):jA p (n+1) r=((lN p r).1::(jA p n (lN p r).2).1,(jA p n (lN p r).2).2):=by show(if r.2 then _ else _)=_;rw[h];rfl
theorem MO:∀(k:Nat) (r:aL×Bool),(gy k r).1.length<=k:=by
 intro k
 induction k with
 |zero=>intro r;exact qm _
 |succ k ih=>
  intro r;unfold gy;split
  .exact zk _
  .have:=ih (cy r 1).2;simp only[za];omega
theorem aaa(p:Pm):∀(k:Nat) (r:aL×Bool),(jA p k r).1.length<=k:=by
 intro k
 induction k with
 |zero=>intro r;exact qm _
 |succ k ih=>
  intro r;unfold jA;split
  .exact zk _
  .have:=ih (lN p r).2;simp only[za];omega
theorem afX(p:Pm)(r:aL×Bool):(lN p r).1.name.size<=2^30/\(lN p r).1.tries.length<=2^30:=by
 have b:=nU r 1;rw[show((1:Nat):Int)=1 from rfl]at b;constructor
 .show((gZ (cy r 1).2 (cy r 1).1).1.toArray).size<=_;unfold gZ;split
  .simp only[List.size_toArray,qR];have:=b.2;omega
  .simp
 .show(gy (countP p (cy (cy (gZ (cy r 1).2 (cy r 1).1).2 3).2 2).1).toNat _).1.length<=_;have a:=nU (cy (gZ (cy r 1).2 (cy r 1).1).2 3).2 2;rw[show((2:Nat):Int)=2 from rfl]at a;have c:=countP_le (p:=p) a.1;refine qQ (MO _ _) ?_;have:=a.2;omega
theorem adh(p:Pm):∀(k:Nat) (r:aL×Bool),∀e∈(jA p k r).1,e.name.size<=2^30/\e.tries.length<=2^30:=by
 intro k
 induction k with
 |zero=>intro r e a;exact absurd a yx
 |succ k ih=>
  intro r e a;unfold jA at a;split at a
  .exact absurd a yx
  .rcases qT.1 a with rfl|h
   .exact afX p r
   .exact ih _ e h
theorem WN(b:Sl)(F:aL)(h:f7)(hb:Rd h b 1 aB F)(hc:b.len<=b.cap):
  ai xT 342 #[b] h λv h'=>(kR F=et/\v=.tuple #[dK fu,xN eH]/\Sp h h' [])∨∃m x,kR F=dB m/\v=.tuple #[dK x,xN ez]/\Sp h h' [bI x m]:=by
 refine ts Tryz.func342 ?_ (v7 (v7 (v7 (v7 (v7 (u7 (v6 [] [(25,41)] (v7 (v1 (v2 [(27,aU)] [(27,41)] u9)))) (u7 (v6 [] [(41,59)] (v7 (v1 (v2 [(43,aU)] [(43,59)] u9)))) (ws [] [(3,4),(59,76)] u9))))))));have O:lF (λb=>b<h.size) h [] b F:=⟨hc,St.base hb λh' hp=>hb.up hp⟩
 refine(Sp.refl h).alloc ae hZ λa1 h1 H1=>?_;refine H1.boxed λa2 h2 H2=>?_;have H2:=H2.bt [1,0];obtain⟨B,ad⟩:∃q,q=cy (F,eH) 4:=⟨_,rfl⟩
 refine(jc [_] i0 i0 O H2).xc λh3 ⟨s1,O1,H3⟩=>?_;rw[<-ad]at O1 H3⊢;refine⟨_,hZ,?_⟩;obtain⟨z,ah⟩:∃q,q=cy B.2 4:=⟨_,rfl⟩
 refine(jc (l:=B.2.1) (f:=B.2.2) [_] i0 i0 O1 H3).xc λh4 ⟨s2,O2,H4⟩=>?_;rw[show cy (B.2.1,B.2.2) 4=z from ah.symm]at O2 H4⊢;refine⟨_,hZ,?_⟩;refine H4.alloc ae hZ λa5 h5 R=>?_;have R:=R.bt [0,2,1];refine R.storeAll ae 1 hZ hZ (aM (B.1,z.1,0,0,0,0,⟨et,0,0⟩,⟨et,0,0⟩)) hZ hZ hZ hZ λh6 H6=>?_;obtain⟨A,am⟩:∃q,q=cy z.2 1:=⟨_,rfl⟩
 refine(jc (l:=z.2.1) (f:=z.2.2) [_,_] i0 i0 O2 H6).xc λh7 ⟨s3,O3,H7⟩=>?_;rw[show cy (z.2.1,z.2.2) 1=A from am.symm]at O3 H7⊢;refine⟨_,hZ,?_⟩;obtain⟨k,ar⟩:∃q,q=cy A.2 1:=⟨_,rfl⟩
 refine(jc (l:=A.2.1) (f:=A.2.2) [_,_] i0 i0 O3 H7).xc λh8 ⟨s4,O4,H8⟩=>?_;rw[show cy (A.2.1,A.2.2) 1=k from ar.symm]at O4 H8⊢;refine⟨_,hZ,?_⟩;obtain⟨s,ax⟩:∃q,q=cy k.2 1:=⟨_,rfl⟩
 refine(jc (l:=k.2.1) (f:=k.2.2) [_,_] i0 i0 O4 H8).xc λh9 ⟨s5,O5,H9⟩=>?_;rw[show cy (k.2.1,k.2.2) 1=s from ax.symm]at O5 H9⊢;refine⟨_,hZ,?_⟩;refine H9.store ae 1 hZ hZ 2 [xJ xP A.1,xJ xP k.1,xJ xP s.1] hZ hZ hZ i6 λcq a7=>?_;obtain⟨o,al⟩:∃q,q=cy s.2 1:=⟨_,rfl⟩
 refine(jc (l:=s.2.1) (f:=s.2.2) [_,_] i0 i0 O5 a7).xc λbr ⟨s6,O6,ao⟩=>?_;rw[show cy (s.2.1,s.2.2) 1=o from al.symm]at O6 ao⊢;refine⟨_,hZ,?_⟩;refine ao.storeAt ae 1 hZ hZ hZ hZ hZ i6 λcs ay=>?_;obtain⟨q7,X⟩:∃q,q=cy o.2 1:=⟨_,rfl⟩
 have b7:=nU o.2 1;rw[show((1:Nat):Int)=1 from rfl,<-X]at b7;obtain⟨N,hN⟩:∃N:Nat,q7.1=N:=⟨q7.1.toNat,ii⟩
 have b6:N<256:=by have:=b7.2;omega
 obtain⟨D,hD⟩:=x6 (gy N q7.2)
 obtain⟨q8,Z⟩:∃q,q=cy D.2 1:=⟨_,rfl⟩
 have ab:=nU D.2 1;rw[show((1:Nat):Int)=1 from rfl,<-Z]at ab;obtain⟨M,hM⟩:∃M:Nat,q8.1=M:=⟨q8.1.toNat,ii⟩
 have bd:M<256:=by have:=ab.2;omega
 obtain⟨p,hp⟩:∃p:Pm,p=(A.1,k.1,s.1):=⟨_,rfl⟩
 obtain⟨E,hE⟩:=x6 (jA p M q8.2)
 have c:CC F=(⟨B.1,z.1,p,o.1,D.1,E.1⟩,E.2):=by unfold CC;simp only[<-ad,<-ah,<-am,<-ar,<-ax,<-al,<-X,hN,qj,<-hD,<-Z,hM,<-hp,<-hE]
 refine bB (λ_ h'=>∃(t d:Sl),lF (λb=>b<h.size) h [] d D.2.1/\Sp h h' [aj a2 427 (sn d D.2.2),an 3 t 1 aw D.1,aj a5 85 (aM (B.1,z.1,A.1,k.1,s.1,o.1,t,⟨et,0,0⟩)),aj a1 85 (aM fu)]) ?_ ?_
 .refine(jc (l:=o.2.1) (f:=o.2.2) [_,_] i0 i0 O6 ay).xc λb4 ⟨s7,O7,G⟩=>?_;rw[show cy (o.2.1,o.2.2) 1=q7 from X.symm]at O7 G⊢;rw[hN];refine⟨_,hZ,?_⟩;have G:=(G.nil 3 1 aw)
  have G:=G.bt [0,3,1,2];refine aq (λi:Nat=>(i:Int)) (λi h'=>i<=N/\∃(ts:az) (t d:Sl) (a:aL×Bool),hY ts<=i/\D=(ts++(gy (N-i) a).1,(gy (N-i) a).2)/\lF (λb=>b<h.size) h [] d a.1/\
   Sp h h' [aj a2 427 (sn d a.2),an 3 t 1 aw ts,aj a5 85 (aM (B.1,z.1,A.1,k.1,s.1,o.1,t,⟨et,0,0⟩)),aj a1 85 (aM fu)]) (λi=>N-i) 0 hZ ⟨zk _,[],⟨et,0,0⟩,s7,q7.2,qm _,by rw[hD];simp,O7,G⟩ ?_
  rintro i b1 ⟨hi,ts,t,d,a,cf,Q,Y,w⟩
  try dsimp only
  refine af (λe=>?_) λe=>?_
  .have I:i<N:=ii
   refine⟨a2,hZ,a.2,(w.box 0 hZ).cell hZ,aY (λJ=>?_) λJ=>?_⟩
   .have L:gy (N-i) a=([],a):=by
     have:a=(a.1,ez):=by rw[<-J]
     rw[this];exact MM _ _
    rw[L,qG]at Q;rw[Q];exact⟨t,d,Y,w⟩
   .refine⟨t,(w.box 2 hZ).cell hZ,(jc (l:=a.1) (f:=a.2) [_,_,_] i0 i0 Y w).xc λcl ⟨s5,O5,R⟩=>?_⟩;refine⟨_,hZ,⟨(R.box 2 hZ).cell hZ,x7⟩,?_⟩;refine R.lit ae aw gb hZ [(cy a 1).1] hZ (show 1*1<=2^20 by decide) hZ λv b5 K=>?_;have K:=K.aZ;refine⟨⟨(K.box 3 hZ).cell hZ,x7⟩,?_⟩;refine K.append ae 2 hZ gb ⟨_,_,hZ,hZ⟩ hZ i0 (λ_=>rfl) (K.seq 0 hZ λ_=>rfl) fd i5 λt2 b9 a3=>⟨x7,?_⟩
    refine a3.storeAt ae 3 hZ hZ hZ hZ hZ i6 λb2 a6=>⟨x7,?_⟩
    refine⟨i+1,i9,⟨ii,ts++[(cy a 1).1],t2,s5,(cy a 1).2,i5,?_,O5,a6.rest⟩,ii⟩;have L:N-i=(N-(i+1))+1:=ii
    rw[Q,L,QQ _ _ J];simp
  .have I:i=N:=ii
   subst I;have L:gy (i-i) a=([],a):=by rw[qX];rfl
   rw[L,qG]at Q;rw[Q];exact⟨t,d,Y,w⟩
 rintro _ b3 ⟨t,d,OD,a9⟩;have bs:hY D.1<=N:=by rw[hD];exact MO _ _
 have cr:hY E.1<=M:=by rw[hE];exact aaa _ _ _
 refine bB (λ_ h'=>∃(u d:Sl),lF (λb=>b<h.size) h [] d E.2.1/\Sp h h' [aj a2 427 (sn d E.2.2),an 3 t 1 aw D.1,bV 111 u 4 bY gV E.1,aj a5 85 (aM (B.1,z.1,A.1,k.1,s.1,o.1,t,u)),aj a1 85 (aM fu)]) ?_ ?_
 .refine(jc (l:=D.2.1) (f:=D.2.2) [_,_,_] i0 i0 OD a9).xc λcn ⟨s8,O8,H⟩=>?_;rw[show cy (D.2.1,D.2.2) 1=q8 from Z.symm]at O8 H⊢;rw[hM];refine⟨_,hZ,?_⟩;have H:=H.th 111 4 bY gV;have H:=H.bt [0,1,4,2,3];refine aq (λi:Nat=>(i:Int)) (λi h'=>i<=M/\∃(es:List Qw.cb) (u d:Sl) (a:aL×Bool),hY es<=i/\E=(es++(jA p (M-i) a).1,(jA p (M-i) a).2)/\lF (λb=>b<h.size) h [] d a.1/\
   Sp h h' [aj a2 427 (sn d a.2),an 3 t 1 aw D.1,bV 111 u 4 bY gV es,aj a5 85 (aM (B.1,z.1,A.1,k.1,s.1,o.1,t,u)),aj a1 85 (aM fu)]) (λi=>M-i) 0 hZ ⟨zk _,[],⟨et,0,0⟩,s8,q8.2,qm _,by rw[hE];simp,O8,H⟩ ?_
  rintro i bq ⟨hi,es,u,d,a,ca,Q,Y,w⟩
  try dsimp only
  refine af (λe=>?_) λe=>?_
  .have I:i<M:=ii
   refine⟨a2,hZ,a.2,(w.box 0 hZ).cell hZ,aY (λJ=>?_) λJ=>?_⟩
   .have L:jA p (M-i) a=([],a):=by
     have:a=(a.1,ez):=by rw[<-J]
     rw[this];exact ZZ _ _ _
    rw[L,qG]at Q;rw[Q];exact⟨u,d,Y,w⟩
   .refine⟨u,(w.box 3 hZ).cell hZ,p,?_,(WM (l:=a.1) (f:=a.2) [_,_,_,_] p Y w).mono ?_⟩
    .rw[hp];exact(w.box 3 hZ).cells 2 (pmC (A.1,k.1,s.1)) hZ
    rintro _ cp ⟨x,rfl,s5,O5,R⟩;refine⟨x,hZ,⟨(R.box 4 hZ).cell hZ,x7⟩,?_⟩;have hx:∀x:dP,hY (bY x)=4:=λ_=>rfl;refine bx.ajp (K1:=λ_ h'=>bR.ok [(a5.add 7,u)] h') ?_ ?_
    .refine R.lit ae bY aeJ hZ [x] hZ (show 1*4<=2^20 by decide) hZ λv bl a8=>⟨(a8.box 4 hZ).cell hZ,x7⟩
    refine R.nH ae 3 0 i0 hZ hZ aeJ hZ i0 hx Gj hZ i0 ii λu2 b0 bb=>⟨x7,?_⟩
    refine bb.storeAt ae 4 hZ hZ hZ hZ hZ i6 λcc a4=>⟨x7,?_⟩
    refine⟨i+1,i9,⟨ii,es++[(lN p a).1],u2,s5,(lN p a).2,i5,?_,O5,a4.rest⟩,ii⟩;have L:M-i=(M-(i+1))+1:=ii
    rw[Q,L,adg _ _ _ J];simp
  .have I:i=M:=ii
   subst I;have L:jA p (i-i) a=([],a):=by rw[qX];rfl
   rw[L,qG]at Q;rw[Q];exact⟨u,d,Y,w⟩
 rintro _ ap ⟨u,d,OE,j⟩;obtain⟨y,hy⟩:∃y:bh,y=(B.1,z.1,A.1,k.1,s.1,o.1,t,u):=⟨_,rfl⟩
 obtain⟨T,S⟩:∃T:ak,T=⟨B.1,z.1,p,o.1,D.1,E.1⟩:=⟨_,rfl⟩
 rw[<-S]at c;have hz:cC T:=by rw[S];exact⟨by show D.1.length<=_;omega,by show E.1.length<=_;omega,by rw[hE];exact adh _ _ _⟩
 have j:Sp h ap [bI y T,aj a2 427 (sn d E.2.2),aj a5 85 (aM y),aj a1 85 (aM fu)]:=by refine aa.MN (by rw[hy,S,hp];exact⟨hZ,hZ,hZ,hZ⟩) ?_;rw[hy,S];exact j.bt [1,2,0,3,4]
 have cd:=hb.len;refine aG ?_;have no:kR F=et->∀{h':f7},Sp h h' [aj a1 85 (aM fu)]->(kR F=et/\(Value.tuple #[dK fu,xN eH])=.tuple #[dK fu,xN eH]/\Sp h h' [])∨∃m x,kR F=dB m/\(Value.tuple #[dK fu,xN eH])=.tuple #[dK x,xN ez]/\Sp h h' [bI x m]:=λe _ w=>.inl ⟨e,hZ,w.bt []⟩;refine⟨a2,hZ,E.2.2,(j.box 1 hZ).cell hZ,aY (λJ=>?_) λJ=>aX (λez=>?_) λez=>?_⟩
 .refine j.storeAll ae 3 hZ hZ (aM fu) hZ hZ hZ hZ λV g=>?_;refine⟨fu,(g.box 3 hZ).aA _ hZ,no ?_ (g.bt [3])⟩;unfold kR;rw[c];simp[J]
 .refine j.storeAll ae 3 hZ hZ (aM fu) hZ hZ hZ hZ λV g=>?_;refine⟨fu,(g.box 3 hZ).aA _ hZ,no ?_ (g.bt [3])⟩;have:hY F=0:=ii
  unfold kR;rw[c];simp[this]
 .refine⟨y,(j.box 2 hZ).aA _ hZ,(ES y T ap (j.at 0 hZ) hz).x0 λr V W=>?_⟩;refine⟨r,hZ,(ku b r F (bO T) V (hb.up ((Sp.zip j.ac).comp W).ac) (W.seq 0 hZ λ_=>rfl)).xa ?_⟩;have g:=j.comp W;refine⟨_,hZ,aW (λU=>?_) λU=>?_⟩
  .refine g.storeAll ae 3 hZ hZ (aM fu) hZ hZ hZ hZ λa0 P=>?_;refine⟨fu,(P.box 3 hZ).aA _ hZ,no ?_ (P.bt [3])⟩;unfold kR;rw[c];simp[of_decide_eq_false U]
  .refine⟨y,(g.box 2 hZ).aA _ hZ,g.storeAll ae 3 hZ hZ (aM y) hZ hZ hZ hZ λa0 P=>?_⟩;refine⟨y,(P.box 3 hZ).aA _ hZ,.inr ⟨T,y,?_,hZ,P.bt [0]⟩⟩;have e0:¬hY F=0:=ii
   have e2:F=bO T:=hU U;unfold kR;rw[c];simp only[J,e0,<-e2];rfl
abbrev mf:=Int×Int×Int×Sl×Sl
abbrev jB(x:mf):aT:=[xJ xP x.1,xJ xP x.2.1,xJ xP x.2.2.1,x.2.2.2.1,x.2.2.2.2]
abbrev Ha(x:mf):Value:=xO #[xJ xP x.1,xJ xP x.2.1,xJ xP x.2.2.1,x.2.2.2.1,x.2.2.2.2]
abbrev Kb:mf:=(0,0,0,⟨et,0,0⟩,⟨et,0,0⟩)
theorem aab{h:f7}{s:Sl}{l:aL}(j:Rd h s 1 aB l)(r:hY l<=4){K:Int×Int->f7->Prop}(q:K (jE l,(hY l:Int)) h):
  gX (σ:=Int×Int) (λb K1 d=>
 Br (decide (b.2<((s.len:Nat):Int)))
 (∃a3:eS,(s.ptr=dB a3/\0<=b.2/\b.2<((s.len:Nat):Int))/\
 ∃g:Int,cellOf d (a3.add (b.2.toNat*1))=dB (xJ xQ g)/\
 (0<=(8:Int))/\
 K1 (qe xP ((qP (qI xP) (qe xP (b.1*2^min (8:Int).toNat (qI xP)))|||(qP (qI xP) (qe xP g))).toNat:Nat),qe xP (b.2+1)) d)
 (K b d)) ((0:Int),(0:Int)) h:=by
 have v:=j.len;refine aq (τ:=Nat) (λi=>(jE (l.take i),(i:Int))) (λi h'=>i<=hY l/\h'=h) (λi=>hY l-i) 0 (by simp[jE]) ⟨zk _,hZ⟩ ?_;rintro i h' ⟨u,rfl⟩;refine af (λe=>?_) (λe=>?_)
 .have a:i<hY l:=o7
  refine j.mU i hZ a ((l.getD i 0).toNat:Int) (by rw[getD_lt a];rfl) λt m=>⟨i0,i+1,?_,⟨a,hZ⟩,ii⟩
  have p:=CX (l.take i) i5;have f:=p.2.2 i5;obtain⟨n,c⟩:∃n:Nat,jE (l.take i)=(n:Int):=⟨(jE (l.take i)).toNat,by rw[AW];omega⟩
  rw[<-AW,c]at f;have k:=(l.getD i 0).toNat_lt;show(_,_)=(_,_)
  rw[c,Ps n _ ii k,ag _];have o:l.take (i+1)=l.take i++[l.getD i 0]:=by rw[getD_lt a];simp
  rw[o,AC,c];rfl
 .have:i=hY l:=o7
  subst this;simpa using q
theorem WO(b:Sl)(c:aL)(h:f7)(U:Rd h b 1 aB c)(R:hY c<=2^30)(w:b.len<=b.cap):
  ai xT 300 #[b] h λv h'=>(cH c=et/\v=.tuple #[Ha Kb,xN eH]/\Sp h h' [])∨
   ∃(g:Pg) (r:Sl),cH c=dB g/\v=.tuple #[Ha (g.seq,g.num,g.many,r,b),xN ez]/\Sp h h' [td r 1 aB g.bears]:=by
 refine ts Tryz.func300 ?_ (v7 (v7 (ws [] [(3,4),(17,24)] (v7 (u7 (v7 (v1 (v2 [(7,aU),(27,aU)] [(7,8),(9,10),(27,37)] u9))) (v7 (ws [] [(3,4),(41,53)] u9)))))));refine(Sp.refl h).alloc ae hZ λD O H=>?_;have d:∀{h':f7} {Bs:List HP},Sp h h' (aj D 377 (jB Kb)::Bs)->cH c=et->
   au xT (qH 377 (xL (dB D)) (Ha Kb)) h' λ_ p=>∃o:mf,bj p D 0 (jB o)/\((cH c=et/\Value.tuple #[Ha o,xN eH]=.tuple #[Ha Kb,xN eH]/\Sp h p [])∨
   ∃(g:Pg) (r:Sl),cH c=dB g/\Value.tuple #[Ha o,xN eH]=.tuple #[Ha (g.seq,g.num,g.many,r,b),xN ez]/\Sp h p [td r 1 aB g.bears]):=λ{h' Bs} H' f=>by
  refine H'.storeAll ae 0 hZ hZ (jB Kb) hZ hZ hZ hZ λp K=>?_;exact⟨Kb,(K.box 0 hZ).aA _ hZ,.inl ⟨f,hZ,.zip K.ac⟩⟩
 refine(Jj b c O (U.up H.ac) R w).mono ?_;rintro _ Q ⟨X,Q1⟩;cases htc:jz c with
 |none=>
  obtain⟨rfl,E⟩:=X htc;have f:cH c=et:=by unfold cH;rw[htc]
  exact⟨(0,⟨et,0,0⟩,eH),hZ,aG (aW (λ_=>d (H.up E.ac) f) λe=>jj)⟩
 |some kx=>
  obtain⟨k,x⟩:=kx;obtain⟨r,rfl,E⟩:=Q1 k x htc;have j:=H.comp E;have N:hY x=55:=by
   unfold jz at htc;split at htc
   .rename_i a;injection htc with htc
    injection htc with _ htc
    rw[<-htc];simp;omega
   .cases htc
  have T:=(j.own 1 hZ).len;have y:=(j.own 1 hZ).cap;have t:=j.seq 1 hZ λ_=>rfl;refine⟨(k,r,ez),hZ,aG (aW (λe=>jj) λ_=>bA (λe=>d j ?_) λm=>?_)⟩
  .unfold cH;rw[htc];exact f9 λa=>e a.1
  try dsimp only
  have m:k=2:=m;have J:6<hY x:=ii
  have p:4<hY x:=ii
  have I:5<hY x:=ii
  refine⟨⟨i0,ii⟩,?_⟩;refine aab (s:=⟨r.ptr,4,r.cap⟩) (l:=x.take 4) (t.take 4 ii) i5 ?_;have S:=(x.getD 6 0).toNat_lt;have u4:=(x.getD 4 0).toNat_lt;have u5:=(x.getD 5 0).toNat_lt;refine t.mU 6 hZ J ((x.getD 6 0).toNat:Int) (by rw[getD_lt J];rfl) λa9 ab=>?_;rw[ag ((x.getD 6 0).toNat:Int),ag (7+((x.getD 6 0).toNat:Int))];refine aG (af (λe=>d j ?_) λe=>?_)
  .unfold cH;rw[htc];exact f9 λa=>ii
  obtain⟨n,f⟩:∃n:Nat,n=(x.getD 6 0).toNat:=⟨_,rfl⟩
  rw[<-f]at e S⊢;rw[show(7+((n:Nat):Int)).toNat=7+n from by omega];refine⟨⟨ii,ii⟩,?_⟩;refine(Ft ⟨_,r.len-(7+n),r.cap-(7+n)⟩ (x.drop (7+n)) _ hZ Q (t.drop (7+n) y) i4 i5).mono ?_;rintro _ _ ⟨⟨z,rfl,V⟩,rfl⟩;have i:(x.drop (7+n)).all (λb=>decide (b=0))=ez↔z.len=0:=by rw[V,qK];exact⟨λa x A=>hU (a x A),λa x A=>g0 (a x A)⟩
  refine⟨z,hZ,af (λY=>d j ?_) λY=>?_⟩
  .unfold cH;rw[htc];exact f9 λa=>by
    have:=i.1 (by rw[f];exact a.2.2);omega
  have G:z.len=0:=ii
  refine t.mU 4 hZ p ((x.getD 4 0).toNat:Int) (by rw[getD_lt p];rfl) λZ M=>?_;refine t.mU 5 hZ I ((x.getD 5 0).toNat:Int) (by rw[getD_lt I];rfl) λW L=>?_;refine⟨⟨i0,ii,ii⟩,?_⟩;rw[ag ((x.getD 4 0).toNat:Int),ag ((x.getD 5 0).toNat:Int)];refine j.storeAll ae 0 hZ hZ (jB (jE (x.take 4),((x.getD 4 0).toNat:Int),((x.getD 5 0).toNat:Int),⟨if r.cap=7 then r.ptr else r.ptr.map (·.add (7*1)),7+n-7,r.cap-7⟩,b)) hZ hZ hZ hZ λP u=>⟨x7,?_⟩
  refine⟨(jE (x.take 4),((x.getD 4 0).toNat:Int),((x.getD 5 0).toNat:Int),⟨if r.cap=7 then r.ptr else r.ptr.map (·.add (7*1)),7+n-7,r.cap-7⟩,b),(u.box 0 hZ).aA _ hZ,.inr ⟨Qm x c,⟨if r.cap=7 then r.ptr else r.ptr.map (·.add (7*1)),7+n-7,r.cap-7⟩,?_,hZ,?_⟩⟩
  .unfold cH;rw[htc];exact f8 ⟨m,ii,by rw[<-f];exact i.2 G⟩
  .have F:=(u.freeze 1 hZ λ_=>rfl).bt [1];refine F.eW 0 hZ λq B=>?_;have B:Seq _ q r 1 aB x:=B;have hd:=(B.drop 7 y).take n i5;show Seq _ q _ 1 aB ((x.drop 7).take (x.getD 6 0).toNat);rw[<-f,show 7+n-7=n from by omega];exact hd
theorem QR{l:List Pg}{f:Pg}:∀{n k:Nat},kh l f n=et->n<=k->kh l f k=et:=by
 intro n k h a
 induction k with
 |zero=>rw[show n=0 from by omega]at h;exact h
 |succ k ih=>
  by_cases e:n=k+1
  .rw[<-e];exact h
  .unfold kh;rw[ih ii]
theorem aac:∀x,∀c∈jB x,c.oneCell'=ez:=by intro x c a;simp[jB]at a;rcases a with rfl|rfl|rfl|rfl|rfl<;>rfl
abbrev ePg:bL C.toBH 375 377 5 (jB Kb) 72:=⟨_,_,hZ,hZ,hZ,hZ,hZ,hZ⟩
def lG(f:mf)(i:Int)(x:mf):Bool:=x.1==f.1&&(x.2.2.1==f.2.2.1&&x.2.1==i)
theorem QS(x f:mf)(i:Int)(a b:eS)(h:f7)(k:bQ h a 377 (jB f))(l:bQ h b 3 [xJ xP i]):
  ai xT 341 #[Ha x,xL (dB a),xL (dB b)] h λv h'=>v=xN (lG f i x)/\Sp h h' []:=by
 refine ts Tryz.func341 ?_ (args:=[x,a,b]);refine(Sp.refl h).boxed λn m c=>?_;have d:=k.ac c.ac k.lt;have g:=l.ac c.ac l.lt;refine⟨x.1,(c.box 0 hZ).cell0 hZ,f.1,d.cell0 hZ,aX (λj=>?_) λj=>?_⟩
 .refine⟨x.2.2.1,(c.box 0 hZ).cell hZ,f.2.2.1,d.cell hZ,aX (λe=>?_) λe=>?_⟩
  .refine⟨x.2.1,(c.box 0 hZ).cell hZ,i,g.cell0 hZ,?_,.zip c.ac⟩;congr 1;unfold lG;rw[j,e];simp
  .refine⟨?_,.zip c.ac⟩;congr 1;unfold lG;simp[e]
 .refine⟨?_,.zip c.ac⟩;congr 1;unfold lG;simp[j]
theorem SO(l:Sl)(rows:List mf)(f:mf)(i:Int)(a b:eS)(h:f7)(y:Rd h l 5 jB rows)(F:hY rows<=2^30)(t:bQ h a 377 (jB f))(w:bQ h b 3 [xJ xP i]):
  ai xT 340 #[l,.func (.func 341) #[] #[xL (dB a),xL (dB b)]] h λv h'=>v=xJ xP (if rows.findIdx (lG f i)<hY rows then(rows.findIdx (lG f i):Int)else-1)/\Sp h h' []:=by
 refine ts Tryz.func340 ?_ (v7 (wj [(8,aU)] [(4,6),(8,19)])) (args:=[l,(.func (.func 341) #[] #[xL (dB a),xL (dB b)])]);have B:=y.len;refine aq (λi:Nat=>(i:Int)) (λk h'=>Sp h h' []/\k<=hY rows/\∀j (o:j<hY rows),j<k->lG f i rows[j]=eH) (λk=>hY rows-k) 0 hZ ⟨Sp.refl h,ii,λj _ o=>ii⟩ ?_;rintro k z ⟨m,G,d⟩;refine af (λe=>?_) (λe=>?_)
 .have c:k<hY rows:=by have D:(k:Int)<(l.len:Int):=e;omega
  refine(Seq.up y m.ac).de (g:=jB) k hZ c rows[k] hZ (dV hZ ?_);refine(QS rows[k] f i a b z (t.ac m.ac t.lt) (w.ac m.ac w.lt)).xc λE u=>⟨_,hZ,aY (λr=>?_) λr=>?_⟩
  .rw[Ad c d r,f8 c];exact⟨hZ,m.up u.ac⟩
  .refine⟨k+1,i9,⟨m.up u.ac,ii,λj o s=>?_⟩,ii⟩;rcases zf.1 s with h3|rfl
   .exact d j o h3
   .exact r
 .have D:¬(k:Int)<(l.len:Int):=e;have q:¬rows.findIdx (lG f i)<hY rows:=by rw[wu];rintro⟨x,A,p⟩;obtain⟨j,o,rfl⟩:=qB A;rw[d j o ii]at p;cases p
  rw[f9 q];exact⟨hZ,m⟩
def Lm(p:mf×Pg):Prop:=p.1.1=p.2.seq/\p.1.2.1=p.2.num/\p.1.2.2.1=p.2.many
theorem FA{p f:mf×Pg}(a:Lm p)(b:Lm f)(i:Int):lG f.1 i p.1=uw f.2 i p.2:=by unfold lG uw;rw[a.1,a.2.1,a.2.2,b.1,b.2.2];rw[Bool.eq_iff_iff];simp
theorem afY{L:List (mf×Pg)}{f:mf×Pg}(l:∀p∈L,Lm p)(d:Lm f)(i:Int){k:Nat}(b:(L.map qE).findIdx (lG f.1 i)=k):
  if a:k<hY L then(L.map zi).find? (uw f.2 i)=dB L[k].2 else(L.map zi).find? (uw f.2 i)=et:=by
 split
 .rename_i a;have h:(L.map qE).findIdx (lG f.1 i)<hY (L.map qE):=by rw[b,qu];exact a
  rw[List.find?_eq_some_iff_getElem];have c:=List.findIdx_getElem (p:=lG f.1 i) (xs:=L.map qE) (w:=h);simp only[b,z8]at c;rw[FA (l _ (qf a)) d]at c;refine⟨c,k,j5,i6,λj n=>?_⟩;have e:=List.not_of_lt_findIdx (p:=lG f.1 i) (xs:=L.map qE) (i:=j) (by rw[b];exact n);simp only[z8]at e⊢;rw[FA (l _ (qf _)) d]at e;simpa using e
 .rename_i a;rw[List.find?_eq_none];intro g q;obtain⟨p,m,rfl⟩:=qo.1 q;intro o;apply a;rw[<-b];have:(L.map qE).findIdx (lG f.1 i)<hY (L.map qE):=wu.2 ⟨p.1,qo.2 ⟨p,m,hZ⟩,by rw[FA (l p m) d];exact o⟩;simpa using this
theorem SP(l:Sl)(L:List (mf×Pg))(f:mf×Pg)(h:f7)(Q:Rd h l 5 jB (L.map qE))(hs:hY L<=2^30)(M:∀p∈L,Lm p)(I:f∈L)(hm:f.2.many<=2^20):
  ai xT 301 #[l,Ha f.1] h λv h'=>(kK (L.map zi) f.2=et/\(∃o:Sl,v=.tuple #[o,xN eH])/\Sp h h' [])∨
   ∃(o:Sl) (G:List (mf×Pg)),kK (L.map zi) f.2=dB (G.map zi)/\(∀p∈G,p∈L)/\G.length<=2^20+1/\v=.tuple #[o,xN ez]/\Sp h h' [an 377 o 5 jB (G.map qE)]:=by
 have j:=M f I;have i:f.1.2.2.1=f.2.many:=j.2.2;refine ts Tryz.func301 ?_ (v7 (v7 (wj [(6,cM),(7,(.sc .adr))] [(4,9),(11,30)]))) (args:=[l,f.1]);refine(Sp.refl h).boxed λK h1 N=>?_;refine⟨f.1,(N.box 0 hZ).aA _ hZ,?_⟩;refine N.lit ae jB ePg hZ [f.1] hZ (show 1*5<=2^20 by decide) hZ λv3 h2 V=>?_;refine V.alloc ae hZ λa4 h3 W=>?_;refine W.storeAll ae 2 hZ hZ [xJ xP 1] hZ hZ hZ hZ λh4 Z=>?_;refine aq (λt:Nat×Sl×eS=>(t.2.1,t.2.2)) (λt h'=>∃G:List (mf×Pg),kh (L.map zi) f.2 t.1=dB (G.map zi)/\(∀p∈G,p∈L)/\G.length=t.1+1/\(t.1:Int)<=2^20/\(0<t.1->(t.1:Int)<f.2.many)/\
  Sp h h' [aj K 377 (jB f.1),an 377 t.2.1 5 jB (G.map qE),aj t.2.2 3 [xJ xP ((t.1+1:Nat):Int)]]) (λt=>2^20+1-t.1) (0,v3,a4) hZ ⟨[f],hZ,λp E=>by rw[qp.1 E];exact I,hZ,by show((0:Nat):Int)<=2^20;decide,λr=>absurd r (Nat.lt_irrefl _),Z⟩ ?_
 rintro⟨n,o,b⟩ S ⟨G,x,u,H,T,q,a⟩;dsimp only at x H T q a⊢;refine⟨((n+1:Nat):Int),(a.box 2 hZ).cell0 hZ,f.1.2.2.1,(a.box 0 hZ).cell hZ,af (λe=>?_) λe=>?_⟩
 .rw[i]at e;refine(SO l (L.map qE) f.1 ((n+1:Nat):Int) K b S (Seq.up Q a.ac) (by simpa using hs) (a.box 0 hZ) (a.box 2 hZ)).xc λh6 X=>?_;have F:=a.up X.ac;obtain⟨k,O⟩:∃k,(L.map qE).findIdx (lG f.1 ((n+1:Nat):Int))=k:=⟨_,rfl⟩
  have d:=afY M j ((n+1:Nat):Int) O;rw[O];refine⟨_,hZ,af (λs=>?_) λs=>?_⟩
  .have y:¬k<hY L:=λr=>by
    rw[f8 (by simpa using r)]at s;have s:(k:Int)<0:=s;omega
   rw[dif_neg y]at d;refine .inl ⟨?_,⟨⟨et,0,0⟩,hZ⟩,.zip F.ac⟩;unfold kK;rw[f9 ii];refine QR (n:=n+1) ?_ ii;unfold kh;rw[x];(try dsimp only);rw[d]
  .have c:k<hY L:=by refine Decidable.byContradiction λr=>s ?_;rw[f9 (by simpa using r)];decide
   rw[dif_pos c]at d;rw[f8 (show k<hY (L.map qE) by simpa using c)];refine(Seq.up Q F.ac).de (g:=jB) k hZ l7 L[k].1 i6 ?_;refine F.lit ae jB ePg hZ [L[k].1] hZ (show 1*5<=2^20 by decide) hZ λR h7 w=>?_;have w:=w.aZ;refine w.append ae 2 hZ ePg ⟨_,_,hZ,hZ⟩ hZ i0 (λ_=>rfl) (w.seq 0 hZ λ_=>rfl) aac i5 λB h8 J=>?_;refine⟨_,(J.box 3 hZ).cell0 hZ,?_⟩;refine J.alloc ae hZ λA h9 H9=>?_;refine H9.storeAll ae 4 hZ hZ [xJ xP ((n+1:Nat):Int)] hZ hZ hZ hZ λab m=>?_;refine⟨_,(m.box 4 hZ).cell0 hZ,?_⟩
   try dsimp only
   rw[ag _];refine m.storeAll ae 4 hZ hZ [xJ xP (((n+1:Nat):Int)+1)] hZ hZ hZ hZ λU D=>?_;refine⟨(n+1,B,A),hZ,⟨G++[L[k]],?_,?_,i5,i4,λ_=>i4,?_⟩,i4⟩
   .try dsimp only
    unfold kh;rw[x];(try dsimp only);rw[d];simp
   .intro p E;rcases qt.1 E with h|h
    .exact u p h
    .rw[qp.1 h];exact qf c
   .have:=D.bt [1,2,4];simpa using this
 .rw[i]at e;refine⟨f.1.2.2.1,(a.box 0 hZ).cell hZ,?_⟩;rw[i];by_cases P:f.2.many>0
  .have Y:f.2.many.toNat-1=n:=by
    by_cases z:0<n
    .have:=q z;omega
    .omega
   refine .inr ⟨o,G,?_,u,ii,?_,a.bt [1]⟩
   .unfold kK;rw[f9 ii,Y];exact x
   .rw[g0 P]
  .refine .inl ⟨?_,⟨o,?_⟩,.zip a.ac⟩
   .unfold kK;rw[f8 ii]
   .rw[g9 P]
theorem SQ(c:Sl)(x:mf)(b d:aL)(h:f7)(f:Rd h c 1 aB b)(g:Rd h x.2.2.2.2 1 aB d):
  ai xT 344 #[c,Ha x] h λv h'=>v=xN (decide (b=d))/\Sp h h' []:=by
 refine ts Tryz.func344 ?_ (args:=[c,x]);refine(Sp.refl h).boxed λi e a=>?_;refine⟨x.2.2.2.2,(a.box 0 hZ).cell hZ,(ku c x.2.2.2.2 b d e (Seq.up f a.ac) (Seq.up g a.ac)).xa ?_⟩;exact⟨_,hZ,hZ,.zip a.ac⟩
theorem SS(s l:Sl)(b:bH)(G:List (mf×Pg))(h:f7)(f:fe h s 1 aB b)(F:Rd h l 5 jB (G.map qE))(J:∀p∈G,Rd h p.1.2.2.2.2 1 aB p.2.cell)(N:hY G<=2^30):
  ai xT 343 #[s,l,.func (.func 344) #[] #[]] h λv h'=>v=xN (decide (b=G.map λp=>p.2.cell))/\Sp h h' []:=by
 refine ts Tryz.func343 ?_ (v7 (v7 (wj [(17,aU)] [(6,10),(17,32)]))) (args:=[s,l,(.func (.func 344) #[] #[])]);obtain⟨rs,f⟩:=f;have H:=f.Ho;have A:=F.len;simp only[qu]at A;refine bA (λe=>?_) (λe=>?_)
 .refine⟨?_,Sp.refl h⟩;rw[g9];intro w;have:=congrArg vx w;simp only[qu]at this;omega
 have E:hY b=hY G:=ii
 refine aq (λi:Nat=>(i:Int)) (λk h'=>Sp h h' []/\k<=hY b/\∀j (t:j<hY b),j<k->b[j]=(G[j]'ii).2.cell) (λk=>hY b-k) 0 hZ ⟨Sp.refl h,ii,λj _ t=>ii⟩ ?_;rintro k H ⟨q,P,m⟩;refine af (λe=>?_) (λe=>?_)
 .have d:k<hY b:=by have K:(k:Int)<(s.len:Int):=e;omega
  have c:k<hY G:=ii
  refine(fT.up f q.ac).UT k hZ d λa r _ M y=>?_;refine(Seq.up F q.ac).de (g:=jB) k hZ l7 G[k].1 i6 ?_;refine q.alloc ae hZ λO A I=>?_;refine I.storeAll ae 0 hZ hZ (jB G[k].1) hZ hZ hZ hZ λh3 o=>?_;refine⟨G[k].1,(o.box 0 hZ).aA _ hZ,dV hZ ?_⟩;have u:Rd h3 r 1 aB b[k]:=Seq.up (f.row k r b[k] y (qc d)) o.ac;refine(SQ r G[k].1 b[k] G[k].2.cell h3 u (Seq.up (J _ (qf c)) o.ac)).xc λB L=>?_;have D:Sp h B []:=.zip (o.up L.ac).ac;refine⟨_,hZ,aW (λx=>?_) λx=>?_⟩
  .refine⟨?_,D⟩;rw[g9];intro w;refine of_decide_eq_false x ?_;have:b[k]?=(G.map λp=>p.2.cell)[k]?:=by rw[w]
   simpa[d,c]using this
  .refine⟨k+1,i9,⟨D,ii,λj t z=>?_⟩,ii⟩;rcases zf.1 z with h3|rfl
   .exact m j t h3
   .exact hU x
 .have K:¬(k:Int)<(s.len:Int):=e;refine⟨?_,q⟩;rw[g0];refine List.ext_getElem i5 λj h3 B=>?_;rw[m j h3 ii];simp
structure ajq (h:f7) (p:mf×Pg):Prop where
 bears:Rd h p.1.2.2.2.1 1 aB p.2.bears
 cell:Rd h p.1.2.2.2.2 1 aB p.2.cell
 len:hY p.2.bears<=48
theorem aae{s:List Pg}(h:kR (s.flatMap Pg.bears)=et):mG s=et:=by unfold mG;rw[h]
theorem WP{s:List Pg}{m:ak}(h:kR (s.flatMap Pg.bears)=dB m):mG s=if aP m=s.map Pg.cell then dB m else et:=by unfold mG;rw[h]
abbrev jU:ak:=⟨0,0,(0,0,0),0,[],[]⟩
theorem aa.fu{B:av}{a h:f7}{As:List HP}(H:aa B a h As):aa B a h (bI fu jU::As):=
 aa.MN ⟨hZ,hZ,hZ,hZ⟩ ((((H.th 111 4 bY gV).aZ).nil 3 1 aw).aZ)
theorem adi:cC jU:=⟨i0,i0,λ_ a=>absurd a yx⟩
theorem aaf{G:List (mf×Pg)}(a:∀p∈G,hY p.2.bears<=48):∀i,hY ((G.take i).flatMap λp=>p.2.bears)<=48*i:=by
 intro i
 induction i with
 |zero=>simp
 |succ i ih=>
  by_cases h:i<hY G
  .rw[aE _ _ h,q9,qw];have:=a _ (qf h);simp only[List.flatMap_cons,List.flatMap_nil,qG];omega
  .rw[qh ii]at ih⊢;omega
theorem SU(l:Sl)(G:List (mf×Pg))(h:f7)(K:Rd h l 5 jB (G.map qE))(D:∀p∈G,ajq h p)(Z:hY G<=2^21):
  ai xT 302 #[l] h λv h'=>∃(m:ak) (x:bh) (ok:Bool),v=.tuple #[dK x,xN ok]/\Sp h h' [bI x m]/\cC m/\mG (G.map zi)=if ok then dB m else et:=by
 refine ts Tryz.func302 ?_ (v7 (v7 (wj [(4,cM),(12,aU)] [(4,5),(6,7),(12,21)])));have A:=K.len;simp only[qu]at A;have z:=aaf λp c=>(D p c).len;refine(Sp.refl h).alloc ae hZ λS X I=>?_;have I:=I.nil 5 1 aB;refine aq (λt:Nat×Sl=>(t.2,(t.1:Int))) (λt h'=>t.1<=hY G/\Sp h h' [aj S 85 (aM fu),an 5 t.2 1 aB ((G.take t.1).flatMap λp=>p.2.bears)]) (λt=>hY G-t.1) (0,⟨et,0,0⟩) hZ ⟨zk _,I⟩ ?_;rintro⟨i,o⟩ Q ⟨T,b⟩;dsimp only at T b⊢;have q:=z i;refine af (λe=>?_) λe=>?_
 .have a:i<hY G:=ii
  refine(Seq.up K b.ac).de (g:=jB) i hZ j5 G[i].1 i6 ?_;refine b.alloc ae hZ λa5 h3 R=>?_;refine R.storeAll ae 2 hZ hZ (jB G[i].1) hZ hZ hZ hZ λh4 F=>?_;have N:=D _ (qf a);refine⟨G[i].1.2.2.2.1,(F.box 2 hZ).cell hZ,?_⟩;refine F.append ae 1 hZ gN ⟨_,_,hZ,hZ⟩ hZ i0 (λ_=>rfl) (Seq.up N.bears F.ac) ic (by have:=N.len;omega) λO Y V=>?_;refine⟨(i+1,O),i9,⟨a,?_⟩,i4⟩;have:=V.bt [0,1]
  try dsimp only
  rw[aE _ _ a,q9];simpa using this
 .have a:i=hY G:=ii
  subst a;rw[qM]at b q;obtain⟨w,f⟩:=x6 ((G.map zi).flatMap Pg.bears)
  rw[show(G.flatMap λp=>p.2.bears)=w from by rw[f,List.flatMap_map]]at b q;refine(WN o w Q (b.seq 1 hZ λ_=>rfl) (b.own 1 hZ).cap).mono ?_;rintro _ h6 (⟨c,rfl,R6⟩|⟨m,x,c,rfl,R6⟩)
  .refine⟨(fu,eH),hZ,?_⟩;have E:=b.up R6.ac;refine E.alloc ae hZ λa9 U B=>?_;refine B.storeAll ae 2 hZ hZ (aM fu) hZ hZ hZ hZ λh8 j=>?_;refine aW (λ_=>?_) λe=>jj
   refine j.storeAll ae 0 hZ hZ (aM fu) hZ hZ hZ hZ λh9 M=>?_;refine⟨fu,(M.box 0 hZ).aA _ hZ,jU,fu,eH,hZ,(Qw.aa.fu M).bt [0],adi,?_⟩;exact aae (by rw[<-f];exact c)
  .refine⟨(x,ez),hZ,?_⟩;have L:cC m:=im (CE.1 c).1;have E:=b.comp R6;refine E.alloc ae hZ λa9 U B=>?_;refine B.storeAll ae 3 hZ hZ (aM x) hZ hZ hZ hZ λh8 j=>?_;refine aW (λe=>jj) λ_=>?_;refine⟨x,(j.box 3 hZ).aA _ hZ,(mu x m h8 (j.at 2 hZ) L).x0 λu H k=>?_⟩;have d:=j.comp k;refine⟨u,hZ,(SS u l (aP m) G H (aa.uG k λ_=>rfl) (Seq.up K d.ac) (λp c=>Seq.up (D p c).cell d.ac) ii).xc λP J=>?_⟩;have r:=d.up J.ac;refine⟨_,hZ,x,(r.box 3 hZ).aA _ hZ,?_⟩;refine r.storeAll ae 0 hZ hZ (aM x) hZ hZ hZ hZ λW s=>?_;refine⟨x,(s.box 0 hZ).aA _ hZ,m,x,_,hZ,s.bt [2],L,?_⟩;rw[WP (by rw[<-f];exact c),List.map_map];show(if aP m=G.map (λp=>p.2.cell)then dB m else et)=_;by_cases y:aP m=G.map λp=>p.2.cell
   .rw[f8 y,g0 y];rfl
   .rw[f9 y,g9 y];rfl
theorem Ul(x c:aL)(a:(x.getD 6 0).toNat<=48):(Qm x c).bears.length<=48/\(Qm x c).many<=255:=
 ⟨by show((x.drop 7).take _).length<=48;rw[qR];omega,by show((x.getD 5 0).toNat:Int)<=255;have:=(x.getD 5 0).toNat_lt;omega⟩
theorem aag{c:aL}{g:Pg}(h:cH c=dB g):hY g.bears<=48/\g.many<=255/\g.cell=c:=by
 refine⟨?_,?_,GV h⟩
 all_goals
  unfold cH at h;split at h
  .split at h
   .rename_i a;injection h with h
    rw[<-h]
    first
     |exact(Ul _ _ a.2.1).1
     |exact(Ul _ _ a.2.1).2
   .cases h
  .cases h
structure WQ (ll:bH) (rs:List Sl) (pool:List (Sl×aL)) (p:mf×Pg):Prop where
 ok:Lm p
 bears:(p.1.2.2.2.1,p.2.bears)∈pool
 len:hY p.2.bears<=48
 many:p.2.many<=255
 cell:∃k:Nat,rs[k]?=dB p.1.2.2.2.2/\ll[k]?=dB p.2.cell
theorem WQ.more{b:bH}{rs:List Sl}{pool:List (Sl×aL)}{p:mf×Pg}(a:WQ b rs pool p)(y:Sl×aL):WQ b rs (y::pool) p:=⟨a.ok,qA _ a.bears,a.len,a.many,a.cell⟩
def nC:iW bh ak:=⟨λh q x m=>sD h q x m,λa c=>a.ac c,λa b=>a.mono b⟩
theorem afZ:∀x,∀c∈aM x,c.oneCell'=ez:=by intro x c a;simp[aM]at a;rcases a with rfl|rfl|rfl|rfl|rfl|rfl|rfl|rfl<;>rfl
abbrev ajr:bL C.toBH 247 85 8 (aM fu) 96:=⟨_,_,hZ,hZ,hZ,hZ,hZ,hZ⟩
theorem aeK:Tryz.prog.underlying 380=dB (.map 9 4):=js
theorem aeL:Tryz.prog.underlying 9=dB .string:=js
theorem aah:aI xT (zeroValue 4) (xN eH):=by
 have h:(Tryz.prog.info? 4).bind (·.zero)=dB (xN eH):=js
 cases hf:Tryz.prog.info? 4 with
 |none=>rw[hf]at h;cases h
 |some f=>
  rw[hf]at h;refine(dc hf).bind ?_;rw[show f.zero=dB (xN eH)from h];exact .pure
def FB(m:ak):ByteArray×Bool:=(⟨(bO m).toArray⟩,ez)
theorem aai{a b:aL}(h:(⟨a.toArray⟩:ByteArray)=⟨b.toArray⟩):a=b:=by injection h with h;exact List.toArray_inj h
theorem adj(m:ak)(out:List ak)(h:(out.any λy=>decide (bO y=bO m))=eH):kA ⟨(bO m).toArray⟩ (out.map FB)=et:=by rw[Je];intro q b a;obtain⟨y,c,rfl⟩:=qo.1 b;rw[wq]at h;exact h y c (g0 (aai a))
theorem Ln(m:ak):∀out:List ak,(kA ⟨(bO m).toArray⟩ (out.map FB)).getD eH=out.any λy=>decide (bO y=bO m)
 |[]=>rfl
 |y::t=>by
  rw[List.map_cons,List.any_cons];unfold FB kA;by_cases e:bO y=bO m
  .rw[f8 (by rw[e]),g0 e];rfl
  .rw[f9 λa=>e (aai a),g9 e,vn];exact Ln m t
section
variable {d:List bh}
def adk(a b:bh):Int:=jO b.1 a.1
def li(a b:bh):Bool:=decide (b.1<=a.1)
theorem QU(a b:bh):adk a b<0↔¬li b a=ez:=by
 unfold adk li jO;by_cases h:b.1<a.1
 .rw[f8 h];simp;omega
 .rw[f9 h];split<;>simp<;>omega
theorem FC:Ord li:=⟨λa b c d e=>g0 (by have:=hU d;have:=hU e;omega),λa b=>by
 unfold li;rw[Bool.or_eq_true,decide_eq_true_eq,decide_eq_true_eq];omega⟩
abbrev Af(s:Sl)(d:List bh):HP:=an 85 s 8 aM d
theorem WR(a b:bh)(h:f7):ai xT 304 #[dK a,dK b] h λv h'=>v=xJ xP (adk a b)/\Sp h h' []:=by refine ts Tryz.func304 ?_ (args:=[a,b]);refine(Sp.refl h).boxed λg f e=>e.boxed λa2 d c=>?_;refine⟨b.1,(c.box 1 hZ).cell0 hZ,a.1,(c.box 0 hZ).cell0 hZ,(oD b.1 a.1 d).xa ?_⟩;exact⟨_,hZ,hZ,.zip c.ac⟩
theorem SV{b c:List bh}{y:bh}(d:Sd li (b++c))(f:∀z∈b,li z y=ez)(g:∀z∈c,¬li z y=ez):Sd li (b++y::c):=
 Sd.app FC d.left (zx.2 ⟨λz a=>FC.BN (g z a),d.right⟩) λx e z a=>by
  rcases qT.1 a with rfl|a
  .exact f x e
  .exact d.Az x e z a
theorem Kc(X M Y:List bh)(a b:Int)(ha:a=(hY X:Int))(hb:b=(hY X+hY M:Nat))(ah:hY X+hY M+hY Y<=2^40)(H:aa B h0 h (Af s (X++(M++Y))::As)):
  ai xT 359 #[s,xJ xP a,xJ xP b,.func (.func 304) #[] #[]] h λv h'=>v=.tuple #[]/\∃M',Sd li M'/\cm li M M'/\aa B h0 h' (Af s (X++(M'++Y))::As):=by
 refine ts Tryz.func359 ?_ (v7 (v1 (v2 [(8,aU)] [(8,10),(12,53)] (v7 (u7 (v1 (v7 (v1 (v2 [(9,aU)] [(9,10),(18,53)] (ws [] [(18,35)] u9))))) u9))))) (args:=[s,(a:Int),(b:Int),(.func (.func 304) #[] #[])]);subst ha;subst hb;rw[ag ((hY X:Int)+1)];refine aq (λt:Nat×List bh=>((hY X+1+t.1:Nat):Int)) (λt h'=>(t.1+1<=hY M∨t.1=0)/\Sd li t.2/\cm li (M.take (t.1+1)) t.2/\t.2.length=hY (M.take (t.1+1))/\aa B h0 h' (Af s (X++(t.2++(M.drop (t.1+1)++Y)))::As)) (λt=>hY M-t.1) (0,M.take 1) hZ ?_ ?_
 .refine⟨.inr hZ,?_,cm.refl _,hZ,?_⟩
  .cases M with
   |nil=>exact List.Pairwise.nil
   |cons x M=>exact zx.2 ⟨λ_ h=>l6,i6⟩
  .rw[<-qn (M.take (0+1)),List.take_append_drop];exact H
 rintro⟨t,P⟩ h1 ⟨ht,A,q,ab,T⟩;dsimp only at*;refine af (λe=>?_) (λe=>?_)
 .have K:t+1<hY M:=ii
  obtain⟨y,hy⟩:=x6 (M[t+1])
  have I:hY P=t+1:=by rw[ab];simp;omega
  have eD:M.drop (t+1)=y::M.drop (t+1+1):=by rw[List.drop_eq_getElem_cons K,hy]
  rw[eD]at T;refine aq (λu:List bh×List bh=>((hY X+hY u.1:Nat):Int)) (λu h'=>u.1++u.2=P/\(∀z∈u.2,¬li z y=ez)/\aa B h0 h' (Af s (X++(u.1++(y::(u.2++(M.drop (t+1+1)++Y)))))::As)) (λu=>hY u.1) (P,[]) (by dsimp only;rw[I];congr 1;omega) ⟨i6,i6,by simpa using T⟩ ?_;rintro⟨c,d⟩ h2 ⟨J,k,N⟩;dsimp only at*;have ad:hY c+hY d=t+1:=by rw[<-I,<-J,qw]
  have f:∀{h':f7},(∀z∈c,li z y=ez)->aa B h0 h' (Af s (X++(c++(y::(d++(M.drop (t+1+1)++Y)))))::As)->
    ∃l:Nat×List bh,qe xP (((hY X+1+t:Nat):Int)+1)=((hY X+1+l.1:Nat):Int)/\((l.1+1<=hY M∨l.1=0)/\Sd li l.2/\cm li (M.take (l.1+1)) l.2/\l.2.length=hY (M.take (l.1+1))/\aa B h0 h' (Af s (X++(l.2++(M.drop (l.1+1)++Y)))::As))/\M.length-l.1<hY M-t:=λ{h'} hle H'=>by
   refine⟨(t+1,c++y::d),m7,⟨.inl i4,?_,?_,?_,?_⟩,i4⟩
   .exact SV oa hle k
   .try dsimp only
    rw[aE M (t+1) K,<-hy];have h1:cm li (M.take (t+1)++[y]) (P++[y]):=q.app (cm.refl _);refine h1.trans ?_;rw[<-J,qn];have h2:cm li (d++[y]) ([y]++d):=cm.TD FC λx hx z S=>by rw[qp.1 S];exact k x hx
    exact(cm.refl _).app h2
   ·(try dsimp only);simp;omega
   .try dsimp only
    have:X++((c++y::d)++(M.drop (t+1+1)++Y))=X++(c++(y::(d++(M.drop (t+1+1)++Y)))):=i6
    rw[this];exact H'
  obtain⟨D,V⟩:=x6 (X++(c++(y::(d++(M.drop (t+1+1)++Y)))))
  refine bB (λ_ h'=>∃(Q:List bh) (z:bh),c=Q++[z]/\¬li z y=ez/\aa B h0 h' (Af s D::As)) ?_ ?_
  .rw[<-V]at N f;refine af (λU=>?_) (λU=>⟨x7,f (λz S=>?_) N⟩)
   .have L:c≠[]:=λh=>by rw[h]at U;simp at U
    obtain⟨Q,z,o⟩:∃(Q:List bh) (z:bh),c=Q++[z]:=⟨c.dropLast,c.getLast L,(yL L).symm⟩
    have W:hY c=hY Q+1:=pa
    have g1:D[hY X+hY c]?=dB y:=by rw[V,qi ii,show X.length+hY c-hY X=hY c by omega,qi ii,qX];rfl
    have g2:D[hY X+hY c-1]?=dB z:=by rw[V,qi ii,show X.length+hY c-1-hY X=hY Q by omega,o,qn,qi (qm _),qX];rfl
    obtain⟨O,r⟩:=qk.1 g1;obtain⟨R,E⟩:=qk.1 g2;refine(N.seq 0 hZ λ_=>rfl).de (g:=aM) _ hZ O y q6 ?_;have ej:qe xP (((hY X+hY c:Nat):Int)-1)=((hY X+hY c-1:Nat):Int):=j1
    rw[ej];refine(N.seq 0 hZ λ_=>rfl).de (g:=aM) _ hZ R z tp (dV kt ?_);refine(WR y z h2).xc λh3 R3=>?_;have G:=N.up R3.ac;refine⟨_,hZ,x7,af (λZ=>⟨Q,z,o,(QU y z).1 Z,G⟩) λZ=>f (λw m=>?_) G⟩;have p:li z y=ez:=by
     by_cases hc:li z y=ez
     .exact hc
     .exact absurd ((QU y z).2 hc) Z
    rw[o]at m;rcases qt.1 m with m|m
    .refine FC.trans _ _ _ ?_ p;have:Sd li (Q++[z]):=by rw[<-o];exact Sd.left (v:=d) oa
     exact this.Az w m z i6
    .rw[qp.1 m];exact p
   .have:c=[]:=by
     cases c with
     |nil=>rfl
     |cons x P=>exfalso;simp only[za]at U;omega
    rw[this]at S;cases S
  .rintro _ h3 ⟨Q,z,o,p,G⟩;have W:hY c=hY Q+1:=pa
   have F:D=(X++Q)++z::([]++y::(d++(M.drop (t+1+1)++Y))):=by rw[V,o];simp
   obtain⟨q1,q2,q3,q4⟩:=KY (X++Q) [] (d++(M.drop (t+1+1)++Y)) z y (i:=hY X+hY c-1) (j:=hY X+hY c) i5 i5;rw[<-F]at q1 q2 q3 q4;obtain⟨R,E⟩:=qk.1 q1;obtain⟨O,r⟩:=qk.1 q2;have ej:qe xP (((hY X+hY c:Nat):Int)-1)=((hY X+hY c-1:Nat):Int):=j1
   rw[ej];refine(G.seq 0 hZ λ_=>rfl).de (g:=aM) _ hZ R z tp ?_;refine(G.seq 0 hZ λ_=>rfl).de (g:=aM) _ hZ O y q6 ?_;refine G.set ae 0 hZ (λ_=>rfl) hZ (hY X+hY c) hZ O z hZ hZ hZ λh4 H4=>⟨x7,?_⟩
   refine H4.set ae 0 hZ (λ_=>rfl) hZ (hY X+hY c-1) hZ (by simpa using R) y hZ hZ hZ λh5 H5=>⟨x7,?_⟩
   refine⟨(Q,z::d),lz,⟨by dsimp only;rw[<-J,o];simp,?_,?_⟩,i4⟩
   .try dsimp only
    intro w m;rcases qT.1 m with rfl|m
    .exact p
    .exact k w m
   .try dsimp only
    have:X++(Q++(y::(z::d++(M.drop (t+1+1)++Y))))=(X++Q)++y::([]++z::(d++(M.drop (t+1+1)++Y))):=i6
    rw[this,<-q4];exact H5
 .refine⟨hZ,P,A,?_,?_⟩
  .rw[qh ii]at q;exact q
  .rw[List.drop_of_length_le ii]at T;simpa using T
end
theorem QV(d:List bh)(n:Int)(c:n=hY d)(j:hY d<20)(H:aa B h0 h (Af s d::As)):
  ai xT 345 #[s,xJ xP n,.func (.func 304) #[] #[]] h λv h'=>v=.tuple #[]/\∃a,Sd li a/\cm li d a/\aa B h0 h' (Af s a::As):=by
 refine ts Tryz.func345 ?_ (v7 (v7 (u7 (v1 (v2 [(7,aU),(8,aU)] [(7,9),(11,23)] u9)) (v7 (v1 (v2 [(6,aU)] [(6,10),(28,63)] (v7 (v1 (v7 (u7 (v1 (v2 [(7,aU),(8,aU)] [(7,9),(33,49)] u9)) u9)))))))))) (args:=[s,(n:Int),(.func (.func 304) #[] #[])]);refine aq (λ_:Unit=>((0:Int),(20:Int))) (λ_ h'=>h'=h) (λ_=>0) () hZ hZ ?_;rintro _ _ rfl;refine af (λe=>by have e:(20:Int)<=n:=e;omega) λ_=>?_;refine(Kc [] d [] 0 n hZ n8 i5 l4).mono ?_;rintro _ b ⟨rfl,a,g,i,f⟩;refine⟨(),hZ,?_⟩;refine aq (λ_:Unit=>(20:Int)) (λ_ h'=>h'=b) (λ_=>0) () hZ hZ ?_;rintro _ _ rfl;refine af (λe=>by have e:(20:Int)<n:=e;omega) λ_=>?_;exact⟨hZ,a,g,i,m6⟩
theorem Ig(d:List bh)(b:hY d<20)(H:aa B h0 h (Af s d::As)):
  ai xT 303 #[s,.func (.func 304) #[] #[]] h λv h'=>v=.tuple #[]/\∃a,Sd li a/\cm li d a/\aa B h0 h' (Af s a::As):=by
 refine ts Tryz.func303 ?_ (args:=[s,(.func (.func 304) #[] #[])]);have c:=(H.own 0 hZ).len;refine(QV d _ (by rw[c]) b H).xc λe R=>⟨(),hZ,hZ,R⟩
variable {α β:Type} {E:iW α β} {e k:Nat} {ll:List β}
section
variable {f:α->aT}
def Cg(E:iW α β)(ps:List (α×β)):HP:=⟨λh q=>∀p∈ps,E.p h q p.1 p.2,λa c p h=>E.loc (a p h) c,λa b p h=>E.mono (a p h) b⟩
theorem aa.aeM(H:aa B h0 h (bV e s k f E ll::As)):∃ps:List (α×β),ps.map zi=ll/\aa B h0 h (Cg E ps::an e s k f (ps.map qE)::As):=by
 have u:aa B h0 h (HP.ex (λps:List (α×β)=>((an e s k f (ps.map qE)).sep (Cg E ps)).and (ps.map zi=ll))::As):=by
  refine H.eW 0 hZ λq ⟨rs,l,a,b,c,d,w⟩=>⟨rs.zip ll,?_⟩
  have m:(rs.zip ll).map qE=rs:=List.map_fst_zip ii;have t:(rs.zip ll).map zi=ll:=List.map_snd_zip ii;refine⟨⟨λb=>s.on b,l,λx g n=>(b x g).2 n,λx g=>(b x g).1,c,?_,?_⟩,t⟩
  .rw[m];exact⟨a,λ_ g=>g⟩
  .intro p o;obtain⟨i,r,rfl⟩:=qB o;rw[List.length_zip]at r;rw[List.getElem_zip];exact w i _ _ (qc ii) (qc ii)
 obtain⟨ps,j⟩:=u.pD;obtain⟨j,v⟩:=j.pE;exact⟨ps,v,j.mD⟩
theorem aa.aih{ps a:List (α×β)}(t:∀p∈a,p∈ps)(H:aa B h0 h (Cg E ps::an e s k f (a.map qE)::As)):aa B h0 h (bV e s k f E (a.map zi)::As):=by
 have u:=H.jw;refine u.eW 0 hZ λq ⟨z,n,v,b,c,d,w⟩=>?_;refine⟨a.map qE,n,d.1,λx m=>⟨b x (d.2 x m),λo=>v x (d.2 x m) o⟩,c,i6,λi r l g j=>?_⟩;rw[qO]at g j;cases h3:a[i]? with
 |none=>rw[h3]at g;cases g
 |some y=>
  rw[h3]at g j;injection g with g;injection j with j
  subst g j;exact w y (t y (zZ h3))
end
theorem WS(l:List ak)(x:hY l<20)(H:aa B h0 h (bV 85 s 8 aM nC l::As)):
  ai xT 303 #[s,.func (.func 304) #[] #[]] h λv h'=>v=.tuple #[]/\aa B h0 h' (bV 85 s 8 aM nC (l.mergeSort JO)::As):=by
 obtain⟨ps,j,i⟩:=Qw.aa.aeM H;have m:hY ps=hY l:=by rw[<-j,qu]
 have f:∀p∈ps,p.1.1=p.2.seq:=λp e=>(i.at 0 hZ p e).seq;refine(Ig (ps.map qE) i5 i.ie).xc λw ⟨g,r,t,R⟩=>⟨hZ,?_⟩;have k:g=(ps.map qE).mergeSort li:=Vh FC r t;obtain⟨d,c⟩:=x6 (ps.mergeSort λa b=>li a.1 b.1)
 have n:d.map qE=g:=by rw[c,k];exact yV λ_ _ _ _=>rfl
 have u:d.map zi=l.mergeSort JO:=by rw[c,<-j];refine yV λa o b q=>?_;unfold li JO;rw[f a o,f b q]
 rw[<-u];refine Qw.aa.aih (ps:=ps) (λp e=>?_) (by rw[n];exact R.ie);rw[c]at e;exact wF.1 e
theorem WT(l:Sl)(s:bH)(rs:List Sl)(h:f7)(hl:fT h (λb=>b<h.size) l 1 aB s rs)(hn:hY s<=2^20)(hc:∀c∈s,hY c<=2^20)(ab:∀r∈rs,r.len<=r.cap)(V:hY (gh s)<20):
  ai xT 244 #[l] h λv h'=>∃r:Sl,v=r/\(∀m∈gh s,cC m)/\Sp h h' [bV 85 r 8 aM nC (gh s)]:=by
 refine ts Tryz.func244 ?_ (v7 (v7 (u7 (v7 (v1 (v2 [(3,cM),(18,aU)] [(3,4),(5,8),(18,33)] u9))) (v7 (v7 (u7 (v7 (v1 (v2 [(8,cM),(36,aU)] [(8,9),(11,16),(36,73)] (v7 (v7 (u7 (v1 (v7 (v7 (v7 (v7 (v7 (v7 (ws [] [(59,66)] u9)))))))) u9)))))) u9))))));have b2:=hl.Ho;have S:=((Sp.refl h).KW 1 aB).nil 377 5 jB;refine aq (λt:Nat×Sl=>(t.2,(t.1:Int))) (λt h'=>t.1<=hY s/\∃(L:List (mf×Pg)) (pool:List (Sl×aL)),L.map zi=(s.take t.1).filterMap cH/\L.length<=t.1/\(∀p∈L,WQ s rs pool p)/\
  Sp h h' [iI 1 aB pool,an 377 t.2 5 jB (L.map qE)]) (λt=>hY s-t.1) (0,⟨et,0,0⟩) hZ ⟨zk _,[],[],hZ,qm _,λ_ f=>absurd f yx,S⟩ ?_
 rintro⟨i,o⟩ h1 ⟨hi,L,pool,Z,a4,hP,S⟩;dsimp only at hi Z a4 S⊢;refine af (λe=>?_) λe=>?_
 .have d:i<hY s:=ii
  refine(fT.up hl S.ac).UT i hZ d λa r bd hr ad=>?_;have U:r∈rs:=zZ ad;refine(WO r s[i] h1 hr (by have:=hc _ (qf d);omega) (ab r U)).mono ?_;rintro _ h2 (⟨f,rfl,R2⟩|⟨g,r2,f,rfl,R2⟩)
  .have H2:=S.up R2.ac;refine⟨(Kb,eH),hZ,?_⟩;refine H2.alloc ae hZ λa5 h3 H3=>?_;refine H3.storeAll ae 2 hZ hZ (jB Kb) hZ hZ hZ hZ λh4 H4=>?_;refine aY (λe=>jj) λ_=>?_;refine⟨(i+1,o),i9,⟨d,L,pool,?_,i4,hP,H4.bt [0,1]⟩,i4⟩
   try dsimp only
   rw[aE _ _ d,vZ,Z];simp[f]
  .have H2:=S.comp R2;have N:=aag f;obtain⟨y,hy⟩:∃y:mf,y=(g.seq,g.num,g.many,r2,r):=⟨_,rfl⟩
   refine⟨(y,ez),by rw[hy],?_⟩;refine H2.alloc ae hZ λa5 h3 H3=>?_;refine H3.storeAll ae 3 hZ hZ (jB y) hZ hZ hZ hZ λh4 H4=>?_;refine aY (λ_=>?_) λe=>jj
   refine⟨y,(H4.box 3 hZ).aA _ hZ,?_⟩;refine H4.lit ae jB ePg hZ [y] hZ (show 1*5<=2^20 by decide) hZ λv7 h5 H5=>?_;refine H5.append ae 1 hZ ePg ⟨_,_,hZ,hZ⟩ hZ i0 (λ_=>rfl) (H5.seq 4 hZ λ_=>rfl) aac i5 λv8 h6 H6=>?_;have X:=H6.bt [0,2,1];have K:=X.KX;refine⟨(i+1,v8),i9,⟨d,L++[(y,g)],(r2,g.bears)::pool,?_,i5,?_,by simpa using K⟩,i4⟩
   .try dsimp only
    rw[aE _ _ d,vZ,qN,Z];simp[f]
   .intro p am;rcases qt.1 am with E|E
    .exact(hP p E).more _
    .rw[qp.1 E,hy];exact⟨⟨hZ,hZ,hZ⟩,qF,N.1,N.2.1,i,ad,by rw[qc d];exact congrArg dB N.2.2.symm⟩
 .have d:i=hY s:=ii
  subst d;rw[qM]at Z;obtain⟨P,A⟩:=x6 (L.map zi)
  have bb:hY L<=2^20:=ii
  refine S.ahl Value.bool λmp h7 X=>?_;have X:=X.th 85 8 aM nC;refine aq (λt:Nat×Sl=>(t.2,(t.1:Int))) (λt h'=>t.1<=hY L/\∃out:List ak,out=((L.take t.1).map zi).foldl (dZ P) []/\out.length<=t.1/\(∀m∈out,cC m)/\
   Sp h h' [iI 1 aB pool,an 377 o 5 jB (L.map qE),HL mp Value.bool (out.map FB),bV 85 t.2 8 aM nC out]) (λt=>hY L-t.1) (0,⟨et,0,0⟩) hZ ⟨zk _,[],hZ,qm _,λ_ f=>absurd f yx,X⟩ ?_
  rintro⟨j,u⟩ h8 ⟨hj,out,q,a7,O,K⟩;dsimp only at hj q a7 K⊢;refine af (λe=>?_) λe=>?_
  .have D:=(K.own 1 hZ).len;simp only[qu]at D;have w:j<hY L:=ii
   have B:((L.take (j+1)).map zi).foldl (dZ P) []=dZ P out L[j].2:=by rw[aE _ _ w,qN,List.foldl_append,<-q];rfl
   have f:=hP _ (qf w);have skip:∀{h':f7} {Bs:List HP},dZ P out L[j].2=out->Sp h h' (iI 1 aB pool::an 377 o 5 jB (L.map qE)::HL mp Value.bool (out.map FB)::bV 85 u 8 aM nC out::Bs)->
     ∃t:Nat×Sl,(u,qe xP ((j:Int)+1))=(t.2,(t.1:Int))/\(t.1<=hY L/\∃out:List ak,out=((L.take t.1).map zi).foldl (dZ P) []/\out.length<=t.1/\(∀m∈out,cC m)/\
   Sp h h' [iI 1 aB pool,an 377 o 5 jB (L.map qE),HL mp Value.bool (out.map FB),bV 85 t.2 8 aM nC out])/\L.length-t.1<hY L-j:=λ{h' Bs} e' H'=>
    ⟨(j+1,u),i9,⟨w,out,by rw[B,e'],i4,O,H'.bt [0,1,2,3]⟩,i4⟩
   refine(K.seq 1 hZ λ_=>rfl).de (g:=jB) j hZ pt L[j].1 i6 ?_;refine K.alloc ae hZ λbl h9 H9=>?_;refine H9.storeAll ae 4 hZ hZ (jB L[j].1) hZ hZ hZ hZ λa8 z=>?_;refine⟨L[j].1.2.1,(z.box 4 hZ).cell hZ,bA (λe1=>skip ?_ z) λe1=>?_⟩
   .unfold dZ;rw[f8 (by rw[<-f.ok.2.1];exact e1)]
   have H:¬L[j].2.num≠0:=by rw[<-f.ok.2.1];exactλE=>E e1
   refine⟨L[j].1,(z.box 4 hZ).aA _ hZ,(SP o L L[j] a8 (z.seq 1 hZ λ_=>rfl) ii (λp f=>(hP p f).ok) (qf w) (by have:=f.many;omega)).mono ?_⟩;rintro _ ap (⟨hg,⟨o2,rfl⟩,R11⟩|⟨o2,G,hg,hGL,hGn,rfl,R11⟩)
   .refine⟨(o2,eH),hZ,aW (λ_=>skip ?_ (z.up R11.ac)) λe=>jj⟩;unfold dZ;rw[f9 H,A,hg]
   have F:=z.comp R11;refine⟨(o2,ez),hZ,aW (λe=>jj) λ_=>?_⟩;refine(SU o2 G ap (F.seq 5 hZ λ_=>rfl) (λp f=>?_) ii).mono ?_
   .have hq:=hP p (hGL p f);obtain⟨k,ar,a9⟩:=hq.cell;exact⟨F.afw hq.bears,Seq.up (hl.row k _ _ ar a9) F.ac,hq.len⟩
   rintro _ b4 ⟨m,x,ok,rfl,a1,hz,hw⟩;have al:=F.comp a1;refine⟨(x,ok),hZ,?_⟩;refine al.alloc ae hZ λbs br a3=>?_;refine a3.storeAll ae 7 hZ hZ (aM x) hZ hZ hZ hZ λax T=>?_;refine⟨x,(T.box 7 hZ).aA _ hZ,(ES x m ax (T.at 6 hZ) hz).x0 λa6 b1 Y=>?_⟩;have I:=T.comp Y;refine⟨a6,hZ,FV ae ⟨_,hZ,hZ⟩ ⟨_,hZ,hZ⟩ ⟨_,hZ,hZ⟩ (Y.seq 0 hZ λ_=>rfl) ?_⟩;refine aG (aW (λQ=>skip ?_ I) λQ=>?_)
   .have Q:ok=eH:=Q;rw[Q]at hw;unfold dZ;rw[f9 H,A,hg];(try dsimp only);rw[hw];rfl
   have Q:ok=ez:=Q;rw[Q]at hw;refine(I.map 2 hZ).lookup aeK aeL (u0:=eH) aah ⟨(kA ⟨(bO m).toArray⟩ (out.map FB)).getD eH,hZ,?_⟩;refine aY (λM=>skip ?_ I) λM=>?_
   .rw[Ln]at M;unfold dZ;rw[f9 H,A,hg];(try dsimp only);rw[hw];exact f8 M
   have b0:=M;rw[Ln]at M;have a0:kA ⟨(bO m).toArray⟩ (out.map FB)=et:=adj m out M;refine I.ahm ez 2 hZ aeK aeL λbq ah=>?_;rw[EJ ez a0]at ah;have J:=ah;refine⟨x,(J.box 7 hZ).aA _ hZ,?_⟩;refine J.nH ae 3 6 i0 (a:=x) hZ hZ ajr hZ i0 (λ_=>rfl) afZ (parts:=#[(0,dK x)]) js i0 ii λay bk ao=>?_;refine⟨(j+1,ay),i9,⟨w,out++[m],?_,i5,?_,?_⟩,i4⟩
   .try dsimp only
    rw[B];unfold dZ;rw[f9 H,A,hg];(try dsimp only);rw[hw];exact(f9 (by rw[M];exact Bool.false_ne_true)).symm
   .intro y hy;rcases qt.1 hy with E|E
    .exact O y E
    .rw[qp.1 E];exact hz
   .rw[qN];exact ao.bt [0,1,2,3]
  .have D:=(K.own 1 hZ).len;simp only[qu]at D;have a2:j=hY L:=ii
   rw[a2,qM]at q;have ej:out.mergeSort JO=gh s:=by unfold gh Qn;rw[q,A,Z]
   have W:hY out<20:=by rw[<-ej,List.length_mergeSort]at V;exact V
   refine(WS out W (K.bt [3])).xc λb3 R=>⟨(),hZ,u,hZ,by rw[<-ej];exactλm hm=>O m (wF.1 hm),by rw[<-ej];exact R⟩
theorem aa.aii{α:Type}{B:av}{q h:f7}{As:List HP}{e d k:Nat}{s:Sl}{f:α->aT}{a:List (List α)}(H:aa B q h (fy e s d k f a::As))(p:∀x,hY (f x)=k):
  ∃rs:List Sl,fT h (λb=>b<h.size) s k f a rs/\∀r∈rs,r.len<=r.cap:=by
 obtain⟨rs,m,H⟩:=H.Ar;have H:=aa.Hs H;have own:∀(i:Nat) (c:i<hY a),(an e s 1 bn rs::bw d k f rs a)[i+1]?=dB (an d (rs[i]'ii) k f a[i]):=λi c=>by
  rw[List.getElem?_cons_succ];exact iw m i c
 refine⟨rs,⟨H.seq 0 hZ λ_=>rfl,m,λi r l j g=>?_⟩,λr n=>?_⟩
 .have c:i<hY a:=(qk.1 g).1;have h3:=H.seq (i+1) (own i c) p;have o:rs[i]'ii=r:=by rw[qc ii]at j;simpa using j
  have d:a[i]=l:=by rw[qc c]at g;simpa using g
  rw[o,d]at h3;exact h3
 .obtain⟨i,c,rfl⟩:=qB n;exact(H.own (i+1) (own i ii)).cap
theorem WU{pw:eS}{a:eS}{d:ba}{h:f7}(s b:Sl)(q:bQ h a 155 (ft pw d s b))(u:fe h s 1 aB d.l)(ok:gO d)(e:hY (gh d.l)<20):
  ai xT 192 #[xL (dB a)] h λv h'=>∃r:Sl,v=r/\(∀m∈gh d.l,cC m)/\Sp h h' [bV 85 r 8 aM nC (gh d.l)]:=by
 refine ts Tryz.func192 ?_;have f:=ok.len;have j:=ok.room;refine(uW s b q u ok).x0 λg f i=>?_;obtain⟨rs,k,o⟩:=i.aii λ_=>rfl;refine⟨g,hZ,(WT g d.l rs f k ii (λc n=>by rw[ok.cell c n];decide) o e).x0 λr j ⟨t,p⟩=>?_⟩;exact⟨r,hZ,r,hZ,t,(i.comp p).bt [1]⟩
end Go.Qw
