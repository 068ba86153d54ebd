/- Lemmas for the proof of the law; no condition. -/
import Derived.Test.YtdibhfbogjngkaaGreatDoorKB
set_option linter.unusedVariables false
set_option maxHeartbeats 4000000
set_option linter.unusedSimpArgs false
open Go.Proofs.Tryz renaming prog -> xt
open Go.Value renaming agg -> xn, bool -> xm, int -> xi, pointer -> xk, slice -> xj, string -> xl
open Go.IntKind renaming bits -> ql, i64 -> xo, u32 -> xq, u8 -> xp, wrap -> qc
open List renaming drop -> xh, drop_length -> yC, eq_replicate_iff -> vf, getElem_set_self -> vd, map_set -> vS, not_mem_nil -> vL, range' -> zR, replicate -> qg, replicate_zero -> yU, zipWith -> zh
open Nat renaming le_of_ble_eq_true -> zK
open Option renaming some -> zT
open Bool renaming and_eq_false_iff -> ve
open Go.Instr renaming makeSlice -> qG, storeAt -> qf
open BitVec renaming ofInt -> qF
open Prod renaming fst -> qM
set_option maxRecDepth 100000
open Option renaming some -> dB, none -> eH
open Bool renaming true -> eR, false -> eS
open Go renaming Addr -> fz
open Go.Vc renaming cellOf -> f7, Heap -> f8
open List renaming length -> i0
namespace Go.Qw
open Go Go.Vc Go.Proofs Wl
section
variable {B:aB} {h0 h:f8} {As:List HP} {a pw b:fz} {mc:bc} {offs:Int} {da:List aO} {w:Pow} {ds:aF} {d:bo}
theorem jZ{p:aB}(s:Sl)(l:az)(x:Int)(h:f8)(f:Seq h p s 1 aq l)(n:i0 l<=2^40:=by omega):ab xt 84 #[s,xi xo x] h λv h'=>v=xm (decide (x∈l))/\h'=h:=by
 refine ma s x ?_;unfold jH;refine(np s x (R:=λv h'=>(∃i:Int,v=xi xo i/\(decide (i>=0)=decide (x∈l)))/\h'=h) ?_).mono ?_
 ·unfold lh;have k:=f.len;refine aw (λi:Nat=>(i:Int)) (λi h'=>i<=i0 l/\x∉l.take i/\h'=h) (λi=>i0 l-i) 0 i4 ⟨i5,jj,i4⟩ ?_;rintro i j ⟨g,b,rfl⟩;refine ai (λd=>?_) (λd=>?_)
  ·have a:i<i0 l:=by have m:(i:Int)<(s.len:Int):=d;omega
   refine f.bC i i4 a l[i] i4 ?_;refine de (λe=>⟨⟨i,i4,?_⟩,i4⟩) (λe=>?_)
   ·rw[g9 (show(i:Int)>=0 by omega),g9 (by rw[e];exact qh a)]
   ·refine⟨i+1,j1,⟨i5,λc=>?_,i4⟩,i5⟩;rw[aG _ _ a]at c;rcases qD.1 c with c|c
    ·exact b c
    ·exact e (qx.1 c)
  ·have m:¬(i:Int)<(s.len:Int):=d;rw[qi i5]at b;exact⟨⟨-1,i4,o0⟩,i4⟩
 ·rintro _ j ⟨⟨i,rfl,g⟩,rfl⟩;exact⟨i,i4,by rw[g],i4⟩
theorem Cd(H:aa B h0 h (bu bJ a pw mc offs da w ds::As)):ab xt 83 #[xk (dB a)] h λv h'=>v=xm (dY w offs)/\h'=h:=by refine Rm (dB a) ?_;unfold Ka;refine bD (λe=>j3) λ_=>(sK H).mono ?_;rintro _ _ ⟨rfl,rfl⟩;exact⟨_,i4,i4,i4⟩
def gy(a cells:Int):Bool:=decide ((0<=a/\a<64)/\1<=cells/\cells<=512)
theorem Kw(a cells:Int)(h:f8):ab xt 88 #[xi xo a,xi xo cells] h λv h'=>v=xm (gy a cells)/\h'=h:=by
 refine MG a cells ?_;unfold FH gy;refine ai (λc=>ai (λd=>ai (λb=>⟨?_,i4⟩) λb=>⟨?_,i4⟩) λd=>⟨?_,i4⟩) λc=>⟨?_,i4⟩
 ·congr 1;rw[decide_eq_decide];omega
 all_goals (rw[hZ i5])
theorem aip(b cells:Int)(x:ci)(m:aE)(k:dG h x m)(i:dg m)(H:aa B h0 h (bu bJ a pw (bn x) offs da w ds::As))(c:dY w offs=eR∨gy b cells=eS∨b∉m.drives∨b∈aR ds m.drives):
  ab xt 31 #[xk (dB a),xi xo b,xi xo cells] h λv h'=>v=xi xo (if dY w offs then 14 else if gy b cells=eS then 1 else if b∉m.drives then 5 else 4)/\Sp h h' []:=by
 refine uQ (dB a) b cells ?_;unfold rf;have q:=i.dr;refine(Cd H).mono ?_;rintro _ t ⟨rfl,rfl⟩;refine⟨_,i4,bD (λe=>⟨n9,Sp.refl _⟩) λe=>?_⟩;refine(sJ x m k i H).mono ?_;rintro _ E ⟨y,rfl,p⟩;refine⟨y,i4,p.alloc ac i4 λa3 h3 z=>?_⟩;refine z.storeAll ac 1 i4 i4 (bn y) i4 i4 i4 i4 λl d=>?_;have d:Sp t l [dF y m,ao a3 44 (bn y)]:=d;refine(Kw b cells l).mono ?_;rintro _ o ⟨rfl,rfl⟩;refine⟨_,i4,bh (λf=>⟨by rw[e,f];rfl,.zip d.ag⟩) λf=>?_⟩;have u:dG o y m:=d.at 0 i4;refine⟨y.2.2.2.2.2.2.1,(d.box 1 i4).cell i4,(jZ _ m.drives b o u.drives).mono ?_⟩;rintro _ F ⟨rfl,rfl⟩;refine⟨_,i4,bh (λg=>⟨by rw[e,f,g0 jj,g0 jj,f9 (of_decide_eq_false g)],.zip d.ag⟩) λg=>?_⟩;refine(dJ x m (k.up d.ag) i (H.up d.ag)).mono ?_;rintro _ s ⟨r,rfl,j⟩;have A:i0 (aR ds m.drives)<=i0 m.drives:=qR _ _;refine⟨r,i4,(jZ r _ b s (j.seq 0 i4 λ_=>rfl)).mono ?_⟩;rintro _ h8 ⟨rfl,rfl⟩;refine⟨_,i4,bD (λn=>⟨by rw[e,f,g0 jj,g0 jj,g0 λD=>D (ii g)],.zip (d.comp j).ag⟩) λn=>?_⟩;rcases c with c|c|c|c
 ·rw[e]at c;cases c
 ·rw[f]at c;cases c
 ·exact absurd (ii g) c
 ·exact absurd c (of_decide_eq_false n)
theorem abI(n:Nat)(f:n<64)(x:ci)(H:aa B h0 h (ki pw b d::bu bJ a pw (bn x) offs da w ds::As)):
  ab xt 89 #[xk (dB a),xi xo n,xk (dB b)] h λv h'=>v=.tuple #[]/\aa B h0 h' (bu bJ a pw (bn x) offs (da.set n (dB b)) w (ds.set n (dB d))::As):=by
 refine Gl (dB a) n (dB b) ?_;unfold uT;refine bD (λ_=>?_) λe=>j3
 refine ai (λ_=>ai (λ_=>?_) λe=>absurd (show(n:Int)<64 by omega) e) λe=>absurd (show(n:Int)>=0 by omega) e;refine⟨a,i4,⟨i5,i5⟩,?_⟩;rw[qm,Nat.mul_one];have g:aa B h0 h (bu bJ a pw (bn x) offs da w ds::ki pw b d::As):=H.aZ 2 [1,0];obtain⟨ok,i⟩:=Go.Vc.aa.sH g;have j:(a.add 10).add n=a.add (10+n):=by unfold Addr.add;simp[w9]
 rw[j];refine i.storeAt ac 0 i4 i4 i4 i4 i4 (by simp[ok.la];omega) λh' c=>?_;rw[zw,Qr ok.l8]at c;exact⟨i4,aa.aep ok f c⟩
theorem Wj(n:Nat)(Y:n<64)(cells:Int)(x:ci)(m:aE)(d:dg m)(H:aa B h0 h (bu bJ a pw (bn x) offs da w ds::dF x m::As))(hd:dY w offs=eS)(M:gy n cells=eR)(s:(n:Int)∈m.drives)(V:(n:Int)∉aR ds m.drives)(S:(i0 (bm m):Int)<=cells):
  ab xt 31 #[xk (dB a),xi xo n,xi xo cells] h λv h'=>v=xi xo (layAll (bt m [(n:Int)]) w (ds.set n (dB (bo.new cells.toNat)))).1/\
   ∃b,aa B h0 h' (bu bJ a pw (bn x) offs (da.set n (dB b)) (layAll (bt m [(n:Int)]) w (ds.set n (dB (bo.new cells.toNat)))).2.1 (layAll (bt m [(n:Int)]) w (ds.set n (dB (bo.new cells.toNat)))).2.2::dF x m::As):=by
 refine uQ (dB a) n cells ?_;unfold rf;have U:=d.dr;have L:=jU m d;refine(Cd H).mono ?_;rintro _ h1 ⟨rfl,rfl⟩;refine⟨_,i4,bD (λe=>by rw[hd]at e;cases e) λe=>?_⟩;refine(sJ x m (H.at 1 i4) d H).mono ?_;rintro _ h2 ⟨y,rfl,T⟩;have H2:=H.ca T;refine⟨y,i4,H2.alloc ac i4 λa3 h3 t=>?_⟩;have t:=t.bw;refine t.storeAll ac 0 i4 i4 (bn y) i4 i4 i4 i4 λO f=>?_;have f:aa B h0 O (ao a3 44 (bn y)::dF y m::bu bJ a pw (bn x) offs da w ds::dF x m::As):=f;refine(Kw n cells O).mono ?_;rintro _ Q ⟨rfl,rfl⟩;refine⟨_,i4,bh (λp=>by rw[M]at p;cases p) λp=>?_⟩;have hy:dG Q y m:=f.at 1 i4;refine⟨y.2.2.2.2.2.2.1,(f.box 0 i4).cell i4,(jZ _ m.drives n Q hy.drives).mono ?_⟩;rintro _ h6 ⟨rfl,rfl⟩;refine⟨_,i4,bh (λK=>absurd s (of_decide_eq_false K)) λK=>?_⟩;refine(dJ x m (f.at 3 i4) d (f.aZ 4 [2,0,1,3])).mono ?_;rintro _ W ⟨r,rfl,N⟩;have ar:i0 (aR ds m.drives)<=i0 m.drives:=qR _ _;have l:=f.up N.ag;refine⟨r,i4,(jZ r _ n W (N.seq 0 i4 λ_=>rfl)).mono ?_⟩;rintro _ h8 ⟨rfl,rfl⟩;refine⟨_,i4,bD (λP=>absurd (ii P) V) λP=>?_⟩;refine⟨y,(l.box 0 i4).aS _ i4,(nL y m h8 (l.at 1 i4) d).mono ?_⟩;rintro _ h9 ⟨u,rfl,R⟩;have i:=l.ca R;have ad:=(aa.Ef i).1;refine⟨u,i4,ai (λe5=>absurd S i5) λe5=>?_⟩;have i:=i.rest;refine(RC (i.aZ 3 [2,0,1])).mono ?_;rintro _ F ⟨rfl,rfl⟩;refine⟨_,i4,(Nm cells pw F).mono ?_⟩;have g:=ii M;rintro _ ah ⟨Q1,_⟩;obtain⟨b,rfl,E⟩:=Q1 ⟨g.2.1,g.2.2⟩;have k:=(i.ca E).aZ 4 [0,3,1,2];refine⟨_,i4,(abI n Y x k).mono ?_⟩;rintro _ ap ⟨rfl,j⟩;refine⟨(),i4,y,(j.box 1 i4).aS _ i4,?_⟩;refine j.lit ac aq gm i4 [(n:Int)] i4 (show 1*1<=2^20 by decide) i4 λq D c=>?_;have c:=c.bw;refine(CF y m q [(n:Int)] D (c.at 3 i4) d (c.seq 0 i4 λ_=>rfl) jj).mono ?_;rintro _ X ⟨u,Z,rfl,A⟩;have I:=(c.ca A).aZ 3 [2,0];refine⟨u,i4,?_⟩;refine(BX u Z (bt m [(n:Int)]) (St.fj 0 i4 λ_ hq=>hq) ?_ ?_ I).mono ?_
 ·rw[tv];simp;omega
 ·intro z d;obtain⟨G,o⟩:=jb d;rw[qx.1 G,o];exact⟨⟨i5,i5⟩,i6⟩
 rintro _ am ⟨rfl,J⟩;exact⟨_,i4,i4,b,J.aZ 5 [0,4]⟩
theorem UG(b:Int)(x:ci)(m:aE)(j:dG h x m)(g:dg m)(H:aa B h0 h (bu bJ a pw (bn x) offs da w ds::As))(c:dY w offs=eR∨b∉aR ds m.drives):
  ab xt 28 #[xk (dB a),xi xo b] h λv h'=>v=xi xo (if dY w offs then 14 else 5)/\Sp h h' []:=by
 refine De (dB a) b ?_;unfold Ap;have i:=g.dr;refine(Cd H).mono ?_;rintro _ n ⟨rfl,rfl⟩;refine⟨_,i4,bD (λe=>⟨n9,Sp.refl _⟩) λe=>?_⟩;refine(dJ x m j g H).mono ?_;rintro _ k ⟨r,rfl,f⟩;have l:i0 (aR ds m.drives)<=i0 m.drives:=qR _ _;refine⟨r,i4,(jZ r _ b k (f.seq 0 i4 λ_=>rfl)).mono ?_⟩;rintro _ h3 ⟨rfl,rfl⟩;refine⟨_,i4,bh (λd=>⟨n9,.zip f.ag⟩) λd=>?_⟩;rcases c with c|c
 ·rw[e]at c;cases c
 ·exact absurd (ii d) c
theorem Zj(H:aa B h0 h (ki pw b d::As)):ab xt 85 #[xk (dB b)] h λv h'=>v=.tuple #[]/\aa B h0 h' (ki pw b d.Cn::As):=by
 refine EH (dB b) ?_;unfold ud;obtain⟨ok,s,k,i⟩:=H.tj;refine bD (λ_=>?_) λe=>j3
 refine⟨b,i4,i.store ac 0 i4 i4 6 [xm eR] i4 i4 i4 lb λl j=>?_⟩;refine⟨b,i4,j.store ac 0 i4 i4 2 [xj eH 0 0] i4 i4 i4 lb λh3 f=>?_⟩;refine⟨b,i4,f.store ac 0 i4 i4 3 [xi xo 0] i4 i4 i4 lb λm a=>?_⟩;refine⟨b,i4,a.store ac 0 i4 i4 4 [xj eH 0 0] i4 i4 i4 lb λn g=>?_⟩;refine⟨b,i4,g.store ac 0 i4 i4 5 [xm eS] i4 i4 i4 lb λo c=>⟨i4,?_⟩⟩;refine aa.DG (s:=⟨eH,0,0⟩) (b:=⟨eH,0,0⟩) ⟨qk _,zE _,ok.room,by simp[bo.Cn],zE _,by simp[bo.Cn]⟩ ?_;exact((c.Aa 34 5 1 aD).Aa 34 5 1 aD).aZ 5 [2,0,1]
theorem Wk(n:Nat)(x:ci)(m:aE)(y:dG h x m)(i:dg m)(H:aa B h0 h (bu bJ a pw (bn x) offs da w ds::As))(u:dY w offs=eS)(q:(n:Int)∈aR ds m.drives)(t:ds[n]?=dB (dB d)):
  ab xt 28 #[xk (dB a),xi xo n] h λv h'=>v=xi xo 0/\aa B h0 h' (bu bJ a pw (bn x) offs da w (ds.set n (dB d.Cn))::As):=by
 refine De (dB a) n ?_;unfold Ap;have p:=i.dr;refine(Cd H).mono ?_;rintro _ F ⟨rfl,rfl⟩;refine⟨_,i4,bD (λe=>by rw[u]at e;cases e) λe=>?_⟩;refine(dJ x m y i H).mono ?_;rintro _ D ⟨r,rfl,g⟩;have E:i0 (aR ds m.drives)<=i0 m.drives:=qR _ _;refine⟨r,i4,(jZ r _ (n:Int) D (g.seq 0 i4 λ_=>rfl)).mono ?_⟩;rintro _ h3 ⟨rfl,rfl⟩;refine⟨_,i4,bh (λf=>absurd q (of_decide_eq_false f)) λf=>?_⟩;have j:=H.up g.ag;obtain⟨ok,z⟩:=aa.cN j;refine(mP (n:Int) ok z).mono ?_;rintro _ G ⟨rfl,rfl⟩;obtain⟨b,c,A⟩:=Go.Vc.aa.jT j t;have l:n<64:=by have:=(qn.1 c).1;rw[ok.la]at this;exact this
 have o:iL da (n:Int)=dB b:=by unfold iL;rw[f9 i5,qm,c];rfl
 rw[o];refine⟨_,i4,(Zj A).mono ?_⟩;rintro _ I ⟨rfl,s⟩;exact⟨(),i4,i4,Go.Vc.aa.sI (k:=bJ) (n:=n) c s⟩
end
end Go.Qw
namespace Go.Vc
open Go Wl
section
variable {k:Kit} {B:aB} {h0 h:f8} {As:List HP} {a pw b:fz} {mc:bc} {offs:Int} {da:List aO} {w:Pow} {ds:aF} {d:bo} {n:Nat}
end
end Go.Vc
namespace Go.Qw
open Go Go.Vc Go.Proofs Wl
section
variable {B:aB} {h0 h:f8} {As:List HP} {a pw b:fz} {offs:Int} {da:List aO} {w:Pow} {ds:aF} {d:bo}
end
section
variable {B:aB} {h0 h:f8} {As:List HP} {a pw:fz} {offs:Int} {da:List aO} {w:Pow} {ds:aF} {mc:bc}
theorem IC{k:Int}{d:bo}(e:aX ds k=dB d)(H:aa B h0 h (bu bJ a pw mc offs da w ds::As)):∃(b:fz) (s f:Sl),iL da k=dB b/\cv h b 156 (ga pw d s f)/\fO h s 1 aD d.l/\gB d:=by
 obtain⟨ok,_⟩:=aa.cN H;rcases oW ok k with⟨h1,_⟩|⟨n,d',b,rfl,hn,h1,h2,h3,h4⟩
 ·rw[h1]at e;cases e
 ·rw[h2]at e;injection e with e
  subst e;obtain⟨m,c,j⟩:=Go.Vc.aa.jT H h1;rw[h3]at c;injection c with c
  injection c with c
  subst c;obtain⟨g,s,f,i⟩:=aa.tj j;exact⟨b,s,f,h4,i.box 0 i4,(i.aZ 2 [1,0]).Fs λ_=>rfl,g⟩
theorem UH{k:Int}(H:aa B h0 h (bu bJ a pw mc offs da w ds::As)):ab xt 35 #[xk (dB a),xi xo k] h λv h'=>v=.pointer (iL da k)/\h'=h:=by obtain⟨ok,b⟩:=aa.cN H;exact mP k ok b
theorem UI{k:Int}{d:bo}{b:fz}(x:ci)(m:aE)(e:aX ds k=dB d)(j:iL da k=dB b)(g:dG h x m)(f:dg m)(H:aa B h0 h (bu bJ a pw mc offs da w ds::As)):
  ab xt 34 #[xk (dB b),gb x] h λv h'=>v=xm (jD m d.l)/\Sp h h' []:=by
 obtain⟨q,s,i,c,o,p,n⟩:=IC e H;rw[j]at c;injection c with c
 subst c;exact Zd b pw d s i x m h o p n g f
end
theorem aiq{order:az}(a:order≠[])(id:Nat):dU order id=order[id%i0 order]'(yw _ (by cases order with|nil=>exact absurd rfl a|cons=>simp)):=by
 have c:0<i0 order:=by cases order with|nil=>exact absurd rfl a|cons=>simp
 have b:=yw id c;unfold dU Ju;rw[g0 (by rintro(h|h);exact a h;omega)];have e:((id:Int)%(i0 order:Int)).toNat=id%i0 order:=i5
 rw[e,qe,qd b];rfl
def DQ(a b c:Int):Int×Int×Int:=(1+a%6,1+b%3,1+c%9)
theorem Zk(a b c:Int)(h:f8):ab xt 37 #[xi xo a,xi xo b,xi xo c] h λv h'=>v=lu (DQ a b c)/\Sp h h' []:=by refine Aq a b c ?_;unfold ot;refine(Sp.refl h).alloc ac i4 λx e f=>?_;refine(fA a 6 e i6 i6).mono ?_;rintro v g ⟨rfl,rfl⟩;refine⟨_,i4,(fA b 3 g i6 i6).mono ?_⟩;rintro v h3 ⟨rfl,rfl⟩;refine⟨_,i4,(fA c 9 h3 i6 i6).mono ?_⟩;rintro v i ⟨rfl,rfl⟩;refine⟨_,i4,?_⟩;dsimp only;rw[ak _,ak _,ak _];refine f.storeAll ac 0 i4 i4 [xi xo (1+a%6),xi xo (1+b%3),xi xo (1+c%9)] i4 i4 i4 i4 λj d=>?_;exact⟨DQ a b c,(d.box 0 i4).aS _ i4,i4,.zip d.ag⟩
theorem abJ(a b c:Int):bB (DQ a b c)=eR:=by rw[bZ];unfold DQ;dsimp only;omega
theorem Wm(m n:aE):cU m (bm n)=[]:=by unfold cU;rw[Yq];simp[pT]
def bI(a pw:fz)(b:List aO)(offs:Int)(w:Pow)(ds:aF)(m:aE):HP:=HP.ex λx:ci=>(bu bJ a pw (bn x) offs b w ds).sep (dF x m)
section
variable {B:aB} {h0 h:f8} {As:List HP} {a pw:fz} {offs:Int} {da:List aO} {w:Pow} {ds:aF} {m:aE}
theorem gN(H:aa B h0 h (bI a pw da offs w ds m::As)):∃x,aa B h0 h (bu bJ a pw (bn x) offs da w ds::dF x m::As):=by obtain⟨x,H⟩:=H.ta;exact⟨x,H.tH.oh⟩
theorem mA{x:ci}(H:aa B h0 h (bu bJ a pw (bn x) offs da w ds::dF x m::As)):aa B h0 h (bI a pw da offs w ds m::As):=
 aa.yT (F:=λx:ci=>(bu bJ a pw (bn x) offs da w ds).sep (dF x m)) x H.oh.mi
end
section
variable {B:aB} {h0 h:f8} {As:List HP} {a pw:fz} {offs:Int} {da:List aO} {w:Pow} {ds:aF} {m:aE}
theorem oD(H:aa B h0 h (bI a pw da offs w ds m::As)):i0 ds=64/\∀k d,aX ds k=dB d->i0 d.l<=d.room/\d.room<=512/\gB d:=by obtain⟨x,H⟩:=gN H;obtain⟨ok,_⟩:=aa.cN H;refine⟨ok.ls,λk d e=>?_⟩;obtain⟨b,s,f,_,_,_,c⟩:=IC e H;exact⟨c.len,c.room,c⟩
theorem NG(p:Pm)(extra:Int)(s:Sl)(l:az)(k:St B h0 As λh=>Rd h s 1 aq l)(c:i0 l<=64)(e:sP p extra l=0)(g:w=Pow.new)(H:aa B h0 h (dE 92 pw w::As)):
  ab xt 8 #[lu p,xi xo extra,xk (dB pw),s] h λv h'=>∃(a:fz) (da:List aO) (D:aF),v=.tuple #[xk (dB a),xi xo 0]/\D.length=64/\
   (∀s,aX D s=if s∈bp l l.length then dB ⟨(l.getD s.toNat 0).toNat,bm (ck p extra l),0,[],eS,eS⟩else eH)/\aa B h0 h' (bI a pw da 0 Pow.new D (ck p extra l)::As):=by
 subst g;obtain⟨D,i,d,j⟩:=abG (p:=p) (extra:=extra) (l:=l) c e;refine(Wb p extra s l k i5 H).mono ?_;rintro _ h' ⟨_,b⟩;rw[i]at b;obtain⟨a,y,da,rfl,f⟩:=b rfl;exact⟨a,da,D,i4,d,j,mA f⟩
theorem agH(name:ByteArray)(s:Sl)(b:ba)(k:St B h0 As λh=>Rd h s 1 aD b)(e:s.len<=s.cap)(i:name.size<=2^40)(c:bN m=eR)(d:i0 b<=2^20)(H:aa B h0 h (bI a pw da offs w ds m::As)):
  ab xt 10 #[xk (dB a),xl name,s] h λv h'=>v=xi xo (im m offs w ds name b).1/\
   aa B h0 h' (bI a pw da offs (im m offs w ds name b).2.2.1 (im m offs w ds name b).2.2.2 (im m offs w ds name b).2.1::As):=by
 obtain⟨x,H⟩:=gN H;obtain⟨n,l,f,g⟩:=(fg m).1 ((cF m).1 c).1;refine(aej x m name s b k e i (jY c) f g (mO c) (kG c) i5 i5 d H).mono ?_;rintro _ h' ⟨rfl,y,j⟩;exact⟨i4,mA j⟩
theorem UJ(b:bN m=eR)(H:aa B h0 h (bI a pw da offs w ds m::As)):
  ab xt 25 #[xk (dB a)] h λv h'=>∃r:Sl,v=r/\Sp h h' [al 3 r 1 aq (aR ds m.drives)]:=by
 obtain⟨x,H⟩:=gN H;exact dJ x m (H.at 1 i4) (jY b) H
theorem UK(b:bN m=eR)(H:aa B h0 h (bI a pw da offs w ds m::As)):
  ab xt 16 #[xk (dB a)] h λv h'=>∃y:ci,v=gb y/\Sp h h' [dF y m]:=by
 obtain⟨x,H⟩:=gN H;exact sJ x m (H.at 1 i4) (jY b) H
theorem QD(k:Int)(H:aa B h0 h (bI a pw da offs w ds m::As)):ab xt 35 #[xk (dB a),xi xo k] h λv h'=>v=.pointer (iL da k)/\h'=h:=by obtain⟨x,H⟩:=gN H;exact UH H
theorem XB{k:Int}{d:bo}(e:aX ds k=dB d)(H:aa B h0 h (bI a pw da offs w ds m::As)):∃b,iL da k=dB b:=by obtain⟨x,H⟩:=gN H;obtain⟨b,_,_,c,_⟩:=IC e H;exact⟨b,c⟩
theorem UL{k:Int}{d:bo}{b:fz}(f:aX ds k=dB d)(g:iL da k=dB b)(H:aa B h0 h (bI a pw da offs w ds m::As)):∃s e:Sl,cv h b 156 (ga pw d s e)/\fO h s 1 aD d.l/\gB d:=by
 obtain⟨x,H⟩:=gN H;obtain⟨o,s,e,c,j,n,i⟩:=IC f H;rw[g]at c;injection c with c
 subst c;exact⟨s,e,j,n,i⟩
theorem abK(o b:Int)(e:bN m=eR)(H:aa B h0 h (bI a pw da offs w ds m::As)):
  ab xt 18 #[xk (dB a),xi xo o,xi xo b] h λv h'=>∃r:Sl,v=r/\Sp h h' [dQ 22 r 3 1 aq (cJ m ds o b (aR ds m.drives))]:=by
 have c:=(oD H).2;obtain⟨x,H⟩:=gN H;exact Zb x m o b (H.at 1 i4) (jY e) (kG e) (λk d f=>by have:=c k d f;omega) H
theorem UM(H:aa B h0 h (bI a pw da offs w ds m::As)):ab xt 57 #[xk (dB a)] h λv h'=>v=xm (dY w offs)/\h'=h:=by obtain⟨x,H⟩:=gN H;exact sK H
end
end Go.Qw
namespace Wl
open Go Go.Qw Go.Vc
def cM(m:aE):az->Pow->aF->Int×Pow×aF
 |[],w,ds=>(0,w,ds)
 |k::l,w,ds=>match aX ds k with
  |none=>cM m l w ds
  |some d=>if d.l=bO m d.l then cM m l w ds else
   if(d.rewrite w (bO m d.l)).1=0 then cM m l (d.rewrite w (bO m d.l)).2.1 (bS ds k (d.rewrite w (bO m d.l)).2.2)
   else((d.rewrite w (bO m d.l)).1,(d.rewrite w (bO m d.l)).2.1,bS ds k (d.rewrite w (bO m d.l)).2.2)
theorem LD{m:aE}{w:Pow}{ds:aF}:∀{l:az},(∀k∈l,∀d,aX ds k=dB d->d.l=bO m d.l)->cM m l w ds=(0,w,ds)
 |[],_=>rfl
 |k::l,h=>by
  unfold cM;cases hd:aX ds k with
  |none=>exact LD λj a=>h j (qC _ a)
  |some d=>
   dsimp only;rw[f9 (h k List.mem_cons_self d hd)];exact LD λj a=>h j (qC _ a)
end Wl
namespace Go.Qw
open Go Go.Vc Go.Proofs Wl
theorem Wo(a b:Sl)(c d:cw)(h:f8)(o:fO h a 1 aD c)(p:fO h b 1 aD d)(x:i0 c<=2^30):
  ab xt 124 #[a,b,.func (.func 99) #[] #[]] h λv h'=>v=xm (decide (c=d))/\h'=h:=by
 refine lx a b (99,#[],#[]) ?_;unfold gT;have k:=o.len;have m:=p.len;refine bQ (λe=>⟨?_,i4⟩) λe=>?_
 ·rw[hZ λh=>e (by rw[k,m,h])]
 have u:i0 c=i0 d:=i5
 refine aw (λi:Nat=>(i:Int)) (λi h'=>i<=i0 c/\c.take i=d.take i/\h'=h) (λi=>i0 c-i) 0 i4 ⟨i5,jj,i4⟩ ?_;rintro i t ⟨y,g,rfl⟩;refine ai (λl=>?_) (λl=>?_)
 ·have f:i<i0 c:=by have w:(i:Int)<(a.len:Int):=l;omega
  refine o.get i i4 f λr q=>p.get i i4 i5 λs j=>fe k8 ?_;refine(rz r s _ _ t q j).mono ?_;rintro _ _ ⟨rfl,rfl⟩;refine⟨_,i4,bh (λn=>⟨?_,i4⟩) λn=>?_⟩
  ·rw[hZ λh=>of_decide_eq_false n (by simp only[h])]
  ·refine⟨i+1,j1,⟨i5,?_,i4⟩,i5⟩;rw[aG _ _ f,aG _ _ (show i<i0 d by omega),g,ii n]
 ·have w:¬(i:Int)<(a.len:Int):=l;rw[qi i5,qi i5]at g;exact⟨by rw[g9 g],i4⟩
abbrev cK(a:fz)(y:ci)(b:Sl)(t most k:Int):bc:=xk (dB a)::(bn y++[xj b.ptr b.len b.cap,xi xo t,xi xo most,xi xo k])
section
variable {B:aB} {h0 h:f8} {As:List HP} {a pw:fz} {offs:Int} {da:List aO} {w:Pow} {ds:aF} {m:aE}
theorem Wp{k:Int}{d:bo}{b:fz}(x:Sl)(l:cw)(D:St B h0 As λh=>fO h x 1 aD l)(q:i0 l<=2^20)(i:∀c∈l,i0 c<=2^20)(f:aX ds k=dB d)(p:iL da k=dB b)(H:aa B h0 h (bI a pw da offs w ds m::As)):
  ab xt 125 #[xk (dB b),x] h λv h'=>v=xi xo (d.rewrite w l).1/\aa B h0 h' (bI a pw da offs (d.rewrite w l).2.1 (bS ds k (d.rewrite w l).2.2) m::As):=by
 obtain⟨y,H⟩:=gN H;obtain⟨ok,_⟩:=aa.cN H;obtain⟨n,rfl,E⟩:=kO f;have A:ds[n]?=dB (dB d):=by
  unfold aX at f;rw[f9 i5,qm]at f;cases hX:ds[n]? with
  |none=>rw[hX]at f;cases f
  |some o=>rw[hX]at f;exact congrArg dB f
 obtain⟨r,g,u⟩:=Go.Vc.aa.jT H A;have j:r=b:=by unfold iL at p;rw[f9 i5,qm,g]at p;injection p
 subst j;refine(Io x l u (λBs h' t=>(D.cons.cons) Bs h' t) q i).mono ?_;rintro _ h' ⟨rfl,z⟩;have s:=Go.Vc.aa.sI (k:=bJ) (n:=n) g z;refine⟨i4,?_⟩;have e:bS ds (n:Int) (d.rewrite w l).2.2=ds.set n (dB (d.rewrite w l).2.2):=by simp only[bS,qm]
 rw[e];exact mA s
theorem RJ{m:aE}{l:cw}(b:dg m)(d:i0 l<=512):i0 (bO m l)<=4000/\∀c∈bO m l,i0 c<=64:=by
 refine⟨?_,λc a=>?_⟩
 ·have:=jU m b;have:=xF m l;unfold bO;rw[qy];omega
 ·unfold bO at a;rcases qD.1 a with a|a
  ·exact Nat.le_of_eq (ww a)
  ·exact Ks a
theorem NH{c:fz}(y:ci)(S:Sl)(live:az)(t most k:Int)(hm:bN m=eR)(hl:i0 live<=64)(u:∀k∈live,∃d,aX ds k=dB d)
  (Z:St B h0 As λh=>cv h c 109 (cK a y S t most k)/\dG h y m/\Rd h S 1 aq live) (H:aa B h0 h (bI a pw da offs w ds m::As)):
  ab xt 59 #[xk (dB c)] h λv h'=>v=xi xo (cM m live w ds).1/\aa B h0 h' (bI a pw da offs (cM m live w ds).2.1 (cM m live w ds).2.2 m::As):=by
 refine Ar (dB c) ?_;unfold ou;have V:=jY hm;have z:=Z.at [_] H;have ad:=z.2.2.len;refine⟨c,i4,S,z.1.cell i4,?_⟩;refine aw (λt:Nat×Pow×aF=>(t.1:Int)) (λt h'=>t.1<=i0 live/\(∀k∈live,∃d,aX t.2.2 k=dB d)/\cM m live w ds=cM m (live.drop t.1) t.2.1 t.2.2/\aa B h0 h' (bI a pw da offs t.2.1 t.2.2 m::As)) (λt=>i0 live-t.1) (0,w,ds) i4 ⟨i5,u,i4,H⟩ ?_;rintro⟨i,o,n⟩ h1 ⟨hi,f,j,p⟩;dsimp only at hi f j p⊢;obtain⟨D,hy,P⟩:=Z.at [_] p;refine ai (λe=>?_) λe=>?_
 ·have r:i<i0 live:=i5
  obtain⟨d,q⟩:=f live[i] (qh r);obtain⟨b,R⟩:=XB q p;refine P.bC i i4 r live[i] i4 ⟨c,i4,dB a,D.cell0 i4,(QD _ p).mono ?_⟩;rintro _ h2 ⟨rfl,rfl⟩;rw[R];obtain⟨s,W,T,U,I⟩:=UL q R p;have X:=I.len;have M:=I.room;obtain⟨k1,k2⟩:=RJ V (show d.l.length<=512 by omega);refine⟨_,i4,c,i4,y,D.cells 1 _ i4,(Ip s W y m T U I hy V).mono ?_⟩;rintro _ h3 ⟨g,rfl,E⟩;refine⟨g,i4,(Lu s W (T.ag E.ag T.lt) (U.up E.ag) I).mono ?_⟩;rintro _ Y ⟨x,rfl,N⟩;have L:fO Y g 1 aD (bO m d.l):=(E.Fs λ_=>rfl).up N.ag;refine⟨x,i4,(Wo x g _ _ Y (N.Fs λ_=>rfl) L i5).mono ?_⟩;rintro _ h5 ⟨rfl,rfl⟩;have J:live.drop i=live[i]::live.drop (i+1):=qQ r;have H3:=(p.ca E).up N.ag;refine⟨_,i4,ai (λG=>?_) λG=>?_⟩
  ·refine⟨(i+1,o,n),js,⟨i7,f,?_,H3.aZ 1 []⟩,i7⟩;rw[j,J];show cM m (live[i]::live.drop (i+1)) o n=cM m (live.drop (i+1)) o n;rw[cM,q];dsimp only;rw[f9 G]
  ·obtain⟨rs,Q⟩:=H3.YH λ_=>rfl;have Q:aa B h0 h5 (bI a pw da offs o n m::cW (cu 1 aD) 1 bs g rs (bO m d.l)::As):=Q.aZ 2 [1,0];refine(Wp g (bO m d.l) (St.fj (A:=cW (cu 1 aD) 1 bs g rs (bO m d.l)) 0 i4 λh' O=>⟨rs,O.1,O.2.1,O.2.2⟩) i5 (λc hc=>by have:=k2 c hc;omega) q R Q).mono ?_;rintro _ h6 ⟨rfl,F⟩;have F:=F.aZ 2 [0];refine⟨_,i4,bQ (λK=>?_) λK=>?_⟩
   ·have ec:cM m live w ds=((d.rewrite o (bO m d.l)).1,(d.rewrite o (bO m d.l)).2.1,bS n live[i] (d.rewrite o (bO m d.l)).2.2):=by rw[j,J,cM,q];dsimp only;rw[g0 G,g0 K]
    rw[ec];exact⟨i4,F⟩
   ·refine⟨(i+1,(d.rewrite o (bO m d.l)).2.1,bS n live[i] (d.rewrite o (bO m d.l)).2.2),js,⟨i7,λk hk=>?_,?_,F⟩,i7⟩
    ·dsimp only;rw[io (oD p).1 q];split
     ·exact⟨_,i4⟩
     ·exact f k hk
    ·dsimp only;rw[j,J,cM,q];dsimp only;rw[g0 G,f9 (by simpa using K)]
 ·have:i=i0 live:=i5
  subst this;rw[yC]at j;rw[j];exact⟨i4,p⟩
end
def ints(l:List Nat):az:=l.map λx:Nat=>(x:Int)
theorem lp(l:List Nat):i0 (ints l)=i0 l:=by simp[ints]
theorem LF{l:List Nat}{k:Nat}(h:k<i0 l):(ints l)[k]'(by rw[lp];exact h)=(l[k]:Int):=by simp[ints]
theorem XC{n:Nat}:∀{j i:Nat},i<=j->2*j<=n->ch n i<=ch n j
 |0,i,h,_=>by
   have:i=0:=i5
   subst this;exact qk _
 |j+1,i,h,hj=>by
  by_cases a:i=j+1
  ·subst a;exact qk _
  ·exact za (XC i5 i5) (aiM i5)
theorem DR(n t:Int)(h:f8):ab xt 122 #[xi xo n,xi xo t] h λv h'=>v=xm (decide (0<=n/\n<=64/\0<=t/\t<=n))/\h'=h:=by
 refine OQ n t ?_;unfold Hy;refine ai (λa=>ai (λb=>ai (λh3=>⟨?_,i4⟩) λh3=>⟨?_,i4⟩) λb=>⟨?_,i4⟩) (λa=>⟨?_,i4⟩)
 ·congr 1;exact decide_eq_decide.2 i5
 ·rw[hZ i5]
 ·rw[hZ i5]
 ·rw[hZ i5]
theorem sT(n t:Int)(h:f8)(A:-(2^62)<=n/\n<=2^62)(D:-(2^62)<=t/\t<=2^62):ab xt 58 #[xi xo n,xi xo t] h λv h'=>v=xi xo (hJ n t)/\h'=h:=by
 refine OM n t ?_;unfold Ht;refine(DR n t h).mono ?_;rintro v q ⟨rfl,rfl⟩;refine⟨_,i4,bh (λe=>?_) λe=>?_⟩
 ·have e:=of_decide_eq_false e;unfold hJ;rw[g0 e];exact⟨i4,i4⟩
 ·have e:=ii e;obtain⟨N,rfl⟩:∃N:Nat,n=N:=⟨n.toNat,i5⟩
  obtain⟨T,rfl⟩:∃T:Nat,t=T:=⟨t.toNat,i5⟩
  have p:hJ N T=((min (ch N T) 4097:Nat):Int):=by unfold hJ;rw[f9 e];rfl
  rw[p];obtain⟨m,y⟩:∃m,m=min T (N-T):=⟨_,rfl⟩
  have f:ch N m=ch N T:=by
   rw[y];rcases Nat.le_total T (N-T)with b|b
   ·rw[Nat.min_eq_left b]
   ·rw[Nat.min_eq_right b,<-Tc N T i5]
  have a:(if qc xo ((N:Int)-T)<(T:Int)then qc xo ((N:Int)-T)else(T:Int))=(m:Int):=by rw[ak _];split<;>omega
  rw[a];refine aw (λi:Nat=>(((ch N i:Nat):Int),(i:Int))) (λi h'=>h'=q/\i<=m/\ch N i<=4096) (λi=>m-i) 0 (by rw[nF];rfl) ⟨i4,i5,by rw[nF];omega⟩ ?_;rintro i b ⟨rfl,E,d⟩;dsimp only;refine ai (λs=>?_) (λs=>?_)
  ·have r:i<m:=i5
   have B:N<=64:=i5
   have c:=Xk (n:=N) (k:=i) i5;have g:ch N i*(N-i)<=4096*64:=Nat.mul_le_mul d i5;have l:qc xo ((N:Int)-i)=((N-i:Nat):Int):=j5
   have o:qc xo (((ch N i:Nat):Int)*((N-i:Nat):Int))=((ch N i*(N-i):Nat):Int):=by rw[<-Int.natCast_mul,ak _]
   have x:qc xo ((i:Int)+1)=((i+1:Nat):Int):=j1
   have u:Int.tdiv ((ch N i*(N-i):Nat):Int) ((i+1:Nat):Int)=((ch N (i+1):Nat):Int):=by rw[<-c,<-Int.ofNat_tdiv,Nat.mul_div_cancel _ i5]
   have w:ch N (i+1)<=4096*64:=by have:ch N (i+1)*1<=ch N (i+1)*(i+1):=Nat.mul_le_mul_left _ i5;omega
   rw[l,o,x,u,ak _];refine⟨i5,ai (λz=>?_) λz=>?_⟩
   ·have:=XC (n:=N) (j:=m) (i:=i+1) i5 i5;refine⟨?_,i4⟩;rw[show min (ch N T) 4097=4097 by omega];rfl
   ·exact⟨i+1,i4,⟨i4,i5,i5⟩,i5⟩
  ·have:i=m:=i5
   subst this;refine⟨?_,i4⟩;rw[show min (ch N T) 4097=ch N i by omega]
theorem index_spec(s:Sl)(l:az)(x:Int)(h:f8)(g:Rd h s 1 aq l)(m:i0 l<=2^30):ab xt 150 #[s,xi xo x] h λv h'=>(∃i:Int,v=xi xo i/\(0<=i↔x∈l)/\(0<=i->l[i.toNat]?=dB x/\∀j,j<i.toNat->l[j]?≠dB x)/\i<i0 l/\-1<=i)/\h'=h:=by
 refine np s x ?_;unfold lh;have k:=g.len;refine aw (λi:Nat=>(i:Int)) (λi h'=>h'=h/\i<=i0 l/\∀j,j<i->l[j]?≠dB x) (λi=>i0 l-i) 0 i4 ⟨i4,i5,λj b=>i5⟩ ?_;rintro i n ⟨rfl,o,c⟩;refine ai (λe=>?_) (λe=>?_)
 ·have a:i<i0 l:=i5
  refine g.bC i i4 a _ i4 ?_;refine de (λf=>?_) (λf=>?_)
  ·refine⟨⟨i,i4,⟨λ_=>f▸qh a,λ_=>i5⟩,λ_=>⟨by rw[qm,qd a,f],λj b=>c j i5⟩,i5,i5⟩,i4⟩
  ·refine⟨i+1,j1,⟨i4,i5,λj b=>?_⟩,i5⟩;rcases zo.1 b with b|rfl
   ·exact c j b
   ·rw[qd a];intro d;exact f (zT.inj d).symm
 ·refine⟨⟨-1,i4,⟨λd=>i5,λd=>?_⟩,λd=>i5,i5,i5⟩,i4⟩;obtain⟨j,b,rfl⟩:=qJ d;exact absurd (qd b) (c j i5)
theorem uK(s:Sl)(l:az)(x:Int)(h:f8)(b:Rd h s 1 aq l)(a:i0 l<=2^30):ab xt 84 #[s,xi xo x] h λv h'=>v=xm (decide (x∈l))/\h'=h:=by refine ma s x ?_;unfold jH;refine(index_spec s l x h b a).mono ?_;rintro v d ⟨⟨i,rfl,c,_⟩,rfl⟩;refine⟨i,i4,?_,i4⟩;congr 1;exact decide_eq_decide.2 c
theorem abL(n:Nat)(s:Sl)(l:List Nat){B:aB}{t h:f8}{As:List HP}(H:aa B t h As)(i:Nat)(o:As[i]?=dB (al 3 s 1 aq (ints l)))(O:n<=64)(J:i0 l<=n)(K:∀x∈l,x<n):
  ab xt 135 #[s,xi xo n] h λv h'=>match kl n l with
   |some l'=>v=xm eR/\aa B t h' (As.set i (al 3 s 1 aq (ints l')))
   |none=>v=xm eS/\h'=h:=by
 refine Rs s n ?_;unfold Kg;have g:=(H.own i o).len;rw[lp]at g;refine aw (λk:Nat=>(k:Int)-1) (λk h'=>h'=h/\k<=i0 l/\kl n (l.drop k)=eH) (λk=>k) l.length (by rw[g,ak _]) ⟨i4,qk _,by rw[yC];rfl⟩ ?_;rintro k P ⟨rfl,Q,c⟩;refine ai (λe=>?_) (λe=>?_)
 ·obtain⟨k,rfl⟩:∃j,k=j+1:=⟨k-1,i5⟩
  have b:k<i0 l:=i5
  have A:=H.seq i o λ_=>rfl;have d:(((k+1:Nat):Int)-1)=(k:Int):=i5
  have F:=K _ (qh b);have m:kl n (l.drop k)=if l[k]+(i0 l-k-1)+1<n then dB (zR (l[k]+1) (i0 l-k-1+1))else eH:=by rw[qQ b];unfold kl;rw[c];simp[Nat.sub_sub]
  refine A.bC k d (by rw[lp];exact b) _ i4 ?_;rw[LF b,d,ak ((n:Int)-((s.len:Nat):Int)),ak _];refine ai (λI=>?_) (λI=>?_)
  ·refine A.bC k i4 (by rw[lp];exact b) _ i4 ?_;rw[LF b,ak _];rw[f9 i5]at m;have G:=Tb k l _ i5 m;rw[G];dsimp only;refine H.set ac i o (λ_=>rfl) i4 k i4 (by rw[lp];exact b) ((l[k]:Int)+1) i4 i4 i4 λR E=>?_;let a:Nat->List Nat:=λj=>l.take k++zR (l[k]+1) (j+1)++l.drop (k+1+j);have f:(ints l).set k ((l[k]:Int)+1)=ints (a 0):=by
    have:a 0=l.set k (l[k]+1):=by simp only[a];rw[List.set_eq_take_append_cons_drop,f9 b];simp[List.range'_succ]
    rw[this];simp[ints,vS]
   rw[f]at E;refine aw (λj:Nat=>((k+1+j:Nat):Int)) (λj h'=>k+1+j<=i0 l/\aa B t h' (As.set i (al 3 s 1 aq (ints (a j))))) (λj=>i0 l-j) 0 j1 ⟨i5,E⟩ ?_;rintro j h3 ⟨N,r⟩;have D:i0 (a j)=i0 l:=by simp[a];omega
   have y:i<i0 As:=(qn.1 o).1;have z:(As.set i (al 3 s 1 aq (ints (a j))))[i]?=dB (al 3 s 1 aq (ints (a j))):=zp y;refine ai (λL=>?_) (λL=>?_)
   ·have u:k+1+j<i0 l:=i5
    have q:(a j)[k+j]'(by omega)=l[k]+1+j:=by simp only[a,qq];rw[wm i9,List.getElem_append_left i9];simp[List.getElem_range'];omega
    refine(r.seq i z λ_=>rfl).bC (k+j) j5 (by rw[lp];omega) _ i4 ?_;rw[LF i5,q,ak _];refine r.set ac i z (λ_=>rfl) i4 (k+1+j) i4 (by rw[lp];omega) (((l[k]+1+j:Nat):Int)+1) i4 i4 i4 λS p=>?_;refine⟨j+1,j5,⟨i5,?_⟩,i5⟩;rw[yO]at p;have:(ints (a j)).set (k+1+j) (((l[k]+1+j:Nat):Int)+1)=ints (a (j+1)):=by
     have M:(a j).set (k+1+j) (l[k]+1+j+1)=a (j+1):=by
      simp only[a];rw[qZ _ _ i9];have:k+1+j-i0 (List.take k l++zR (l[k]+1) (j+1))=0:=i9
      rw[this,qQ u,zw,List.range'_concat (n:=j+1)];simp[w9]
     rw[<-M];simp[ints,vS]
    rw[this]at p;exact p
   ·have w:k+1+j=i0 l:=i5
    refine⟨i4,?_⟩;have:l.take k++zR (l[k]+1) (i0 l-k-1+1)=a j:=by simp only[a];rw[w,yC,qN,show l.length-k-1+1=j+1 by omega]
    rw[this];exact r
  ·rw[g0 i5]at m;exact⟨k,by rw[ak _],⟨i4,i5,m⟩,i5⟩
 ·have:k=0:=i5
  subst this;rw[List.drop_zero]at c;rw[c];exact⟨i4,i4⟩
end Go.Qw
namespace Wl
open Go Go.Qw Go.Vc
def nO(m:aE)(offs:Int)(w:Pow)(ds:aF)(t most:Int):Int:=
 if dY w offs then 14 else if t<0∨t>=(i0 (aR ds m.drives):Int)∨most<0∨most>64 then 1 else if hJ (i0 (aR ds m.drives):Int) t>4096 then 13 else 0
end Wl
namespace Go.Qw
open Go Go.Vc Go.Proofs Wl
section
variable {B:aB} {h0 h:f8} {As:List HP} {a pw:fz} {offs:Int} {da:List aO} {w:Pow} {ds:aF} {m:aE}
theorem Kx(t most:Int)(s:bN m=eR)(V:m.aH=[])(O:∀k∈aR ds m.drives,∀d,aX ds k=dB d->d.l=bO m d.l)(T:-(2^62)<=t/\t<=2^62)(H:aa B h0 h (bI a pw da offs w ds m::As)):
  ab xt 15 #[xk (dB a),xi xo t,xi xo most] h λv h'=>v=.tuple #[xi xo 0,xi xo (nO m offs w ds t most)]/\aa B h0 h' (bI a pw da offs w ds m::As):=by
 refine BO (dB a) t most ?_;unfold uC;have u:=kG s;obtain⟨live,c⟩:∃live,live=aR ds m.drives:=⟨_,rfl⟩
 have G:i0 live<=64:=by rw[c];exact za (qR _ _) u
 refine bj (bD (λe=>j3) λ_=>(UM H).mono ?_);rintro _ Z ⟨rfl,rfl⟩;refine⟨_,i4,bD (λe=>?_) λN=>?_⟩
 ·have:nO m offs w ds t most=14:=by unfold nO;rw[f9 e]
  rw[this];exact⟨i4,H⟩
 have P:nO m offs w ds t most=(if t<0∨t>=(i0 live:Int)∨most<0∨most>64 then 1 else if hJ (i0 live:Int) t>4096 then 13 else 0):=by unfold nO;rw[g0 (by rw[N];decide),<-c]
 rw[P];refine(UK s H).mono ?_;rintro _ h2 ⟨y,rfl,M⟩;have J:=H.ca M;refine⟨y,i4,(UJ s (J.aZ 2 [1,0])).mono ?_⟩;rintro _ h3 ⟨f,rfl,I⟩;rw[<-c]at I;have S:=J.ca I;refine⟨f,i4,S.boxed λa5 K g=>?_⟩;have g:aa B h0 K (bI a pw da offs w ds m::ao a5 109 (cK a y f t most 0)::al 3 f 1 aq live::dF y m::As):=(g.bw).aZ 4 [3,0,1,2];have n:=(g.own 2 i4).len;have j:=g.box 1 i4;refine bj (bY (λ(b:Bool) h'=>b=decide (t<0∨t>=(i0 live:Int)∨most<0∨most>64)/\h'=K) ?_ ?_)
 ·refine ai (λe=>⟨by rw[g9 (.inl e)],i4⟩) λea=>⟨a5,i4,f,j.cell i4,ai (λe=>⟨by rw[g9 (.inr (.inl i5))],i4⟩) λY=>ai (λe=>⟨by rw[g9 (.inr (.inr (.inl e)))],i4⟩) λec=>⟨?_,i4⟩⟩
  rw[decide_eq_decide];omega
 rintro b W ⟨rfl,rfl⟩;refine ai (λe=>by rw[f9 e];exact⟨i4,g.aZ 4 [0]⟩) λR=>?_;rw[g0 R];refine⟨a5,i4,f,j.cell i4,(sT ((f.len:Nat):Int) t W i5 T).mono ?_⟩;rintro _ X ⟨rfl,rfl⟩;rw[n];refine⟨_,i4,ai (λe=>by rw[f9 e];exact⟨i4,g.aZ 4 [0]⟩) λL=>?_⟩;rw[g0 L];have U:St B h0 (ao a5 109 (cK a y f t most 0)::al 3 f 1 aq live::dF y m::As) λh=>cv h a5 109 (cK a y f t most 0)/\dG h y m/\Rd h f 1 aq live:=λBs h' F=>
  ⟨(St.fj (A:=ao a5 109 (cK a y f t most 0)) 0 i4 λ_ i=>i.1) Bs h' F,(St.fj (A:=dF y m) 2 i4 λ_ i=>i) Bs h' F,(St.fj (A:=al 3 f 1 aq live) (Q:=λh=>Rd h f 1 aq live) 1 i4 λh' i=>i.1.seq (λ_=>rfl) i.2) Bs h' F⟩
 refine(NH y f live t most 0 s G (λk E=>by obtain⟨_,d,D,_⟩:=gH (show k∈aR ds m.drives by rw[<-c];exact E);exact⟨d,D⟩) U g).mono ?_;rintro _ h8 ⟨rfl,r⟩;have x:cM m live w ds=(0,w,ds):=LD λk E d D=>O k (by rw[<-c];exact E) d D;rw[x]at r⊢;have q:=r.box 1 i4;have z:dG h8 y m:=r.at 3 i4;have p:=bL.len z.aH;rw[V]at p;have o:y.2.2.2.2.2.2.2.len=0:=p;refine⟨_,i4,bQ (λe=>absurd i4 e) λ_=>⟨a5,i4,y.2.2.2.2.2.2.2,by rw[addr_add];exact q.cell i4,?_⟩⟩;refine aw (λ_:Unit=>(0:Int)) (λ_ h'=>h'=h8) (λ_=>0) () i4 i4 ?_;rintro _ h9 rfl;refine ai (λe=>?_) λ_=>⟨a5,i4,0,q.cell i4,i4,r.aZ 4 [0]⟩
 exfalso;rw[o]at e;exact absurd e i6
end
theorem agI(h:f8)(x:UInt8):ab xt 209 #[xi xp x.toNat] h λv h'=>v=xm (x !=0)/\h'=h:=by
 refine Pa _ ?_;unfold HQ;refine⟨?_,i4⟩;congr 1;by_cases a:x=0
 ·subst a;rfl
 ·have:((x.toNat:Nat):Int)≠0:=λb=>a (CH.1 b);rw[bne_iff_ne.2 a];exact bne_iff_ne.2 this
theorem ID(a:Sl)(l:Row)(h:f8)(p:Rd h a 1 aD l)(s:i0 l<=2^30:=by omega):ab xt 139 #[a] h λv h'=>v=xi xo (if fm l<i0 l then(fm l:Int)else-1)/\h'=h:=by
 refine TH a ?_;unfold MP;refine(ro a (209,#[],#[]) (R:=λv h'=>v=xi xo (if fm l<i0 l then(fm l:Int)else-1)/\h'=h) ?_).mono ?_
 ·unfold lN;have q:=p.len;refine aw (λi:Nat=>(i:Int)) (λi h'=>h'=h/\i<=i0 l/\∀j (b:j<i0 l),j<i->l[j]=0) (λi=>i0 l-i) 0 i4 ⟨i4,i5,λj _ b=>i5⟩ ?_;rintro i o ⟨rfl,u,d⟩;refine ai (λe=>?_) (λe=>?_)
  ·have c:i<i0 l:=i5
   refine p.bC i i4 c _ i4 ?_;refine fe k8 ?_;refine(agI o l[i]).mono ?_;rintro v t ⟨rfl,rfl⟩;refine⟨_,i4,bD (λn=>?_) λn=>?_⟩
   ·have k:fm l=i:=by rw[fm,List.findIdx_eq c];exact⟨n,λj b=>by simp[d j i5 b]⟩
    rw[k,f9 c];exact⟨i4,i4⟩
   ·refine⟨i+1,j1,⟨i4,i5,λj b m=>?_⟩,i5⟩;rcases zo.1 m with h3|rfl
    ·exact d j b h3
    ·simpa using n
  ·have g:¬fm l<i0 l:=by rw[fm,wK];rintro⟨x,r,f⟩;obtain⟨j,b,rfl⟩:=qJ r;rw[d j b i5]at f;simp at f
   rw[g0 g];exact⟨i4,i4⟩
 ·rintro v o ⟨rfl,rfl⟩;exact⟨_,i4,i4,i4⟩
theorem aeq(a b:Sl)(c d:Row)(h:f8)(j:Rd h a 1 aD c)(l:Rd h b 1 aD d)(q:i0 c=i0 d)(t:i0 c<=2^30):ab xt 253 #[a,b] h λv h'=>∃r:Sl,v=.tuple #[r,xm eR]/\Sp h h' [al 5 r 1 aD (zh (·^^^·) c d)]:=by
 refine VK a b ?_;unfold Qj;have w:=j.len;have y:=l.len;refine bQ (λe=>i5) λ_=>?_;refine(Sp.refl h).make ac aD gz i6 0 i4 i4 c.length c.length i5 i5 (qk _) i5 λs h3 o u n=>?_;refine aw (λk:Nat=>(k:Int)) (λk h'=>k<=i0 c/\Sp h h' [al 5 s 1 aD (zh (·^^^·) (c.take k) (d.take k)++qg (i0 c-k) 0)]) (λk=>i0 c-k) 0 i4 ⟨i5,sp⟩ ?_;rintro k z ⟨x,f⟩;refine ai (λe=>?_) (λe=>?_)
 ·have g:k<i0 c:=i5
  refine(Seq.up j f.ag).bC k i4 g _ i4 ?_;refine(Seq.up l f.ag).bC k i4 i5 _ i4 ?_;rw[oA];refine f.set ac 0 i4 (λ_=>rfl) i4 k i4 i9 (c[k]^^^d[k]) i4 i4 i4 λA p=>⟨trivial,?_⟩
  refine⟨k+1,j1,⟨i5,?_⟩,i5⟩;have i:i0 (zh (·^^^·) (c.take k) (d.take k))=k:=i9
  have m:(zh (·^^^·) (c.take k) (d.take k)++qg (i0 c-k) (0:UInt8)).set k (c[k]^^^d[k])=zh (·^^^·) (c.take (k+1)) (d.take (k+1))++qg (i0 c-(k+1)) 0:=by rw[qZ _ _ i5,i,zc,show c.length-k=i0 c-(k+1)+1 by omega,ye,zw,aG _ _ g,aG _ _ (show k<i0 d by omega),yz i9,qq];rfl
  rw[<-m];exact p
 ·have:k=i0 c:=i5
  subst this;refine⟨s,i4,?_⟩;rw[qi (qk _),qi i5,zc,yU,qN]at f;exact f
theorem agJ(c:UInt8)(a b:Row):zh (·^^^·) (scaleB c a) b=cR c a b:=by unfold scaleB cR;rw[List.zipWith_map_left];congr 1;funext x y;exact UInt8.xor_comm _ _
theorem abM(f:fz)(c:UInt8)(a b:Sl)(d e:Row)(h:f8)(m:fI h f)(p:Rd h a 1 aD d)(q:Rd h b 1 aD e)(n:i0 d=i0 e)(j:i0 d<=2^30):
  ab xt 207 #[xk (dB f),xi xp c.toNat,a,b] h λv h'=>∃r:Sl,v=.tuple #[r,xm eR]/\Sp h h' [al 5 r 1 aD (cR c d e)]:=by
 refine TN (dB f) _ a b ?_;unfold Nb;refine(Nx f c a d h m p j).mono ?_;rintro v o ⟨r,rfl,g⟩;refine⟨r,i4,(aeq r b _ e o (g.seq 0 i4 λ_=>rfl) (Seq.up q g.ag) (by rw[ph];exact n) (by rw[ph];exact j)).mono ?_⟩;rintro v s ⟨w,rfl,l⟩;refine⟨(w,eR),i4,w,i4,?_⟩;rw[<-agJ];exact(g.comp l).take 1 λi A k=>by cases i with|zero=>exact k|succ i=>simp at k
def gw(f:fz)(n:Nat)(a:Sl):bc:=[xk (dB f),xi xo n,a]
def iq(b f:fz)(n:Nat)(M:aM):HP:=.ex λa:Sl=>(ao b 200 (gw f n a)).sep (cm 34 a 1 bs (cu 1 aD) M)
theorem abN(d f:fz)(n:Nat)(b r:Sl)(M:aM)(l:Row)(h:f8)(m:cv h d 200 (gw f n b))(D:fI h f)(G:dT (bL (cu 1 aD) 1 bs) h b M)(F:Rd h r 1 aD l)
  (N:i0 l=n) (U:n<=64) (u:aV n M) (z:∀x∈M,fm x<n) (S:i0 M<=2^30):
  ab xt 138 #[xk (dB d),r] h λv h'=>∃w:Sl,v=.tuple #[w,xm eR]/\Sp h h' [al 5 w 1 aD (eK M l)]:=by
 refine HB (dB d) r ?_;unfold Ay;have O:=F.len;have P:=bL.len G;refine bj ?_;refine bD (λe=>j3) λ_=>?_;refine⟨d,i4,n,m.cell i4,bQ (λe=>i5) λ_=>?_⟩;refine(fC r l h F i5).mono ?_;rintro v V ⟨w,rfl,H⟩;refine⟨w,i4,d,i4,b,(m.ag H.ag m.lt).cell i4,?_⟩;refine aw (λt:Sl×Nat=>(t.1,(t.2:Int))) (λt h'=>t.2<=i0 M/\Sp h h' [al 5 t.1 1 aD (eK (M.take t.2) l)]) (λt=>i0 M-t.2) (w,0) i4 ⟨jj,by simpa[eK]using H⟩ ?_;rintro⟨o,k⟩ R ⟨W,a⟩;dsimp only at*;refine ai (λe=>?_) (λe=>?_)
 ·have c:k<i0 M:=i5
  have K:M[k].length=n:=u _ (qh _);have B:=z _ (qh c);have s:aV n (M.take k):=λx y=>u x (zS y);have q:=KW s N;have T:=(a.own 0 i4).len;refine bL.nX (dT.up G a.ag) k i4 c λx y=>?_;refine(ID x _ R y).mono ?_;rintro v h3 ⟨rfl,rfl⟩;refine⟨_,i4,?_⟩;dsimp only;rw[f9 i5];refine(a.seq 0 i4 λ_=>rfl).bC (fm M[k]) i4 i5 _ i4 ?_;have p:(eK (M.take k) l)[fm M[k]]'(by omega)=aN (eK (M.take k) l) (fm M[k]):=(OE i5).symm;have g:eK (M.take (k+1)) l=cR (aN (eK (M.take k) l) (fm M[k])) M[k] (eK (M.take k) l):=by unfold eK;rw[aG _ _ c,wC];rfl
  rw[p];refine bQ (λI=>?_) (λI=>?_)
  ·refine⟨d,i4,dB f,(m.ag a.ag m.lt).cell0 i4,?_⟩;refine(abM f (aN (eK (M.take k) l) (fm M[k])) x o M[k] _ h3 (D.ag a.ag D.lt) y (a.seq 0 i4 λ_=>rfl) i5 i5).mono ?_;rintro v X ⟨E,rfl,L⟩;refine⟨(E,eR),i4,⟨(E,k+1),js,⟨i7,?_⟩,i7⟩⟩;dsimp only;rw[g];exact(a.comp L).take 1 λi A J=>by cases i with|zero=>exact J|succ i=>simp at J
  ·refine⟨(o,k+1),js,⟨i7,?_⟩,i7⟩;have Q:aN (eK (M.take k) l) (fm M[k])=0:=CH.1 I;have:eK (M.take (k+1)) l=eK (M.take k) l:=by rw[g,Q];refine eT (n:=n) (by rw[bX];exact q) q λj _=>?_;rw[cH i5,Gf.zero_mul,UInt8.xor_zero]
   dsimp only;rw[this];exact a
 ·refine⟨o,i4,?_⟩;rw[qi i5]at a;exact a
theorem RK(f:fz)(n:Nat)(h:f8)(i:n<=64):ab xt 69 #[xk (dB f),xi xo n] h λv h'=>∃c:fz,v=xk (dB c)/\Sp h h' [iq c f n []]:=by refine Tx (dB f) n ?_;unfold MB;refine bj ?_;refine ai (λe=>i5) λ_=>ai (λe=>i5) λ_=>?_;refine bj ?_;refine bD (λe=>j3) λ_=>?_;refine(Sp.refl h).boxed λa j d=>?_;refine⟨a,i4,?_⟩;have g:=(d.KL 34 1 bs (cu 1 aD)).join 0 1 i6 i4 i4;exact(g.close' (F:=λb:Sl=>(ao a 200 (gw f n b)).sep (cm 34 b 1 bs (cu 1 aD) [])) 0 ⟨eH,0,0⟩ i4).del 1
theorem iq.open{B:aB}{b h:f8}{As:List HP}{c f:fz}{n:Nat}{M:aM}(H:aa B b h (iq c f n M::As)):
  ∃a:Sl,aa B b h (cm 34 a 1 bs (cu 1 aD) M::ao c 200 (gw f n a)::As):=by
 obtain⟨a,d⟩:=H.ta;exact⟨a,d.tH⟩
theorem iq.close{B:aB}{c h:f8}{As:List HP}{b f:fz}{n:Nat}{M:aM}{a:Sl}(H:aa B c h (cm 34 a 1 bs (cu 1 aD) M::ao b 200 (gw f n a)::As)):
  aa B c h (iq b f n M::As):=H.mi.yT (F:=λa:Sl=>(ao b 200 (gw f n a)).sep (cm 34 a 1 bs (cu 1 aD) M)) a
theorem DS(a f:fz)(n:Nat)(M:aM){B:aB}{d h:f8}{As:List HP}(H:aa B d h (iq a f n M::As)):ab xt 141 #[xk (dB a)] h λv h'=>v=xi xo M.length/\h'=h:=by refine HC (dB a) ?_;unfold Az;obtain⟨b,c⟩:=iq.open H;refine bD (λe=>j3) λ_=>?_;exact⟨a,i4,b,(c.box 1 i4).cell i4,by rw[(c.adh 0 i4).1],i4⟩
theorem Gh(d f:fz)(n:Nat)(M:aM)(r:Sl)(l:Row){B:aB}{o h:f8}{As:List HP}(H:aa B o h (iq d f n M::As))(E:St B o As λh=>fI h f)(L:Rd h r 1 aD l)
  (F:i0 l=n) (I:n<=64) (m:aV n M) (u:∀x∈M,fm x<n) (V:i0 M<=64):
  ab xt 71 #[xk (dB d),r] h λv h'=>(∃b,v=xm b)/\aa B o h' (iq d f n (Td M l)::As):=by
 refine JF (dB d) r ?_;unfold BR;obtain⟨j,s⟩:=iq.open H;have k:=KW m F;refine(abN d f n j r M l h (s.box 1 i4) (E [_,_] h s) (s.PH 0 i4 λ_=>rfl) L F I m u i5).mono ?_;rintro v O ⟨w,rfl,J⟩;have K:=s.ca J;have S:=J.seq 0 i4 λ_=>rfl;refine⟨(w,eR),i4,bj ?_⟩;refine bh (λe=>j3) λ_=>?_;refine(ID w _ O S).mono ?_;rintro v Z ⟨rfl,rfl⟩;refine⟨_,i4,?_⟩;dsimp only;by_cases c:fm (eK M l)<i0 (eK M l)
 ·rw[f9 c];refine xY (hZ (Int.not_lt.2 (zX _))) ?_;have A:=K.Bz 0 i4 λ_=>rfl;have a:=A.box 2 i4;refine⟨d,i4,dB f,a.cell0 i4,d,i4,j,a.cell i4,?_⟩;have p:aV n (M++[eK M l]):=nh m k;refine A.sq ac bs fx i4 [w] i4 (show 1*1<=2^20 by decide) i4 ⟨a.cell i4,a.cell0 i4,trivial⟩ ?_;refine A.wd ac 1 0 i6 i4 i4 fx i4 i6 (λ_=>rfl) kb i4 i6 i5 λD t N=>?_;have g:aa B o t (cm 34 D 1 bs (cu 1 aD) (M++[eK M l])::ao d 200 (gw f n j)::As):=N.oF;have y:=g.box 1 i4;refine⟨⟨y.cell0 i4,trivial⟩,?_⟩;refine(Kr f D _ n t (E [_,_] t g) (bL.tofO (g.PH 0 i4 λ_=>rfl)) p I i9).mono ?_;rintro v X ⟨q,rs,rfl,W,z,T,P⟩;have i:=(gU p (eN (M++[eK M l]))).2;have Q:Sp t X [cm 34 ⟨q.ptr,cb (M++[eK M l]),q.cap⟩ 1 bs (cu 1 aD) (nj (M++[eK M l]))]:=by have:=aa.afY (As:=[]) P (by rw[i];exact z) (λ_=>rfl) (cb (M++[eK M l])) (by rw[i];omega);exact this
  have U:=g.ca Q;refine⟨q,i4,trivial,d,i4,?_⟩;refine U.storeAt ac 2 i4 i4 (off:=2) (v:=xj q.ptr q.len q.cap) i4 i4 i4 (by simp[gw]) λY G=>⟨trivial,⟨_,i4⟩,?_⟩
  have R:aa B o Y (cm 34 ⟨q.ptr,cb (M++[eK M l]),q.cap⟩ 1 bs (cu 1 aD) (nj (M++[eK M l]))::cm 34 D 1 bs (cu 1 aD) (M++[eK M l])::ao d 200 (gw f n ⟨q.ptr,cb (M++[eK M l]),q.cap⟩)::As):=by rw[show q.len=cb (M++[eK M l])from W]at G;exact G
  rw[Td,f9 c];exact iq.close R.pO
 ·rw[g0 c];refine GC (g9 i6) ⟨⟨_,i4⟩,?_⟩;rw[Td,g0 c];exact iq.close K.oF
theorem RL(g f:fz)(n:Nat)(M:aM)(a:Sl)(h:f8)(w:cv h g 200 (gw f n a))(d:dT (bL (cu 1 aD) 1 bs) h a M)(z:i0 M<=64)(j:aV n M)(B:n<=64):
  ab xt 210 #[xk (dB g)] h λv h'=>∃r:Sl,v=r/\Sp h h' [cm 34 r 1 bs (cu 1 aD) M]:=by
 refine HR (dB g) ?_;unfold AD;refine bD (λe=>j3) λ_=>?_;have l:=bL.len d;refine⟨g,i4,a,w.cell i4,?_⟩;refine aw (λt:Sl×Nat=>(t.1,(t.2:Int))) (λt h'=>t.2<=i0 M/\Sp h h' [cm 34 t.1 1 bs (cu 1 aD) (M.take t.2)]) (λt=>i0 M-t.2) (⟨eH,0,0⟩,0) i4 ⟨jj,(Sp.refl h).KL 34 1 bs (cu 1 aD)⟩ ?_;rintro⟨s,k⟩ y ⟨D,i⟩;dsimp only at*;refine ai (λe=>?_) (λe=>?_)
 ·have b:k<i0 M:=i5
  have m:=j _ (qh b);refine bL.nX (dT.up d i.ag) k i4 b λx q=>?_;refine(fC x M[k] y q i5).mono ?_;rintro v h3 ⟨c,rfl,p⟩;have u:=(i.ca p).Bz 0 i4 λ_=>rfl;refine⟨c,i4,?_⟩;refine u.wd ac 1 0 i6 i4 i4 fx i4 i6 (λ_=>rfl) kb i4 i6 i9 λA E o=>?_;refine⟨(A,k+1),js,⟨i7,?_⟩,i7⟩;dsimp only;rw[aG _ _ b];exact o.oF
 ·rw[qi i5]at i;exact⟨s,i4,i⟩
theorem iq.rd{B:aB}{s h:f8}{As:List HP}{k f:fz}{n:Nat}{M:aM}(H:aa B s h As)(i:Nat)(t:As[i]?=dB (iq k f n M)):∃g:Sl,cv h k 200 (gw f n g)/\dT (bL (cu 1 aD) 1 bs) h g M:=by obtain⟨g,y,z,u,v,m,p,rs,w,a,b,c,d,e⟩:=H.at i t;exact⟨g,p.1,rs,a.seq (λ_=>rfl) λx j=>m x (b x j).1,d,λi r l o q=>(cu 1 aD).mono (e i r l o q) λx j=>m x (c x j)⟩
theorem Pq(b f:fz)(n:Nat)(M:aM)(c:Sl)(h:f8)(g:cv h b 200 (gw f n c))(j:dT (bL (cu 1 aD) 1 bs) h c M)(k:i0 M<=64)(l:aV n M)(s:n<=64):
  ab xt 140 #[xk (dB b)] h λv h'=>∃d:fz,v=xk (dB d)/\Sp h h' [iq d f n M]:=by
 refine Gn (dB b) ?_;unfold uV;refine bD (λe=>j3) λ_=>?_;refine⟨b,i4,dB f,g.cell0 i4,b,i4,n,g.cell i4,?_⟩;have m:av.ok [(b.add 1,(xi xo (n:Int))),(b,(xk (dB f)))] h:=⟨g.cell i4,g.cell0 i4,trivial⟩
 refine(RL b f n M c h g j k l s).mono ?_;rintro v u ⟨r,rfl,o⟩;have i:=lX o.ag m;refine⟨r,i4,i,o.boxed λa t p=>?_⟩;have q:Sp h t (ao a 200 (gw f n r)::cm 34 r 1 bs (cu 1 aD) M::[]):=p.bw;refine⟨lX p.ag m,a,i4,?_⟩;exact iq.close q.oh
def dl(p:Pm)(seed:Int)(ids:az):aM:=if bB p then(ids.filter bW).map (oO (bE p).toNat seed)else[]
theorem Ky{p:Pm}{seed:Int}{ids:az}{k:Nat}(b:k<i0 ids):dl p seed (ids.take (k+1))=dl p seed (ids.take k)++(if(bB p&&bW ids[k])=eR then[oO (bE p).toNat seed ids[k]]else[]):=by
 unfold dl;by_cases a:bB p=eR
 ·rw[f9 a,f9 a,oP b];by_cases h:bW ids[k]=eR
  ·rw[f9 h,f9 (by rw[a,h];rfl),qU];rfl
  ·rw[g0 h,g0 sr,qN]
 ·rw[g0 a,g0 a,g0 l7];rfl
theorem Wq(p:Pm)(seed:Int)(ids:az):aV (bE p).toNat (dl p seed ids):=λr a=>by
 unfold dl at a;split at a
 ·obtain⟨i,_,rfl⟩:=qt.1 a;exact SK _ _ _
 ·cases a
theorem NI(p:Pm)(seed:Int)(ids:az):i0 (dl p seed ids)<=i0 ids:=by
 unfold dl;split
 ·rw[qA];exact qR _ _
 ·simp
abbrev IE:jz Sl aM:=bL (cu 1 aD) 1 bs
theorem abO(p:Pm)(seed:Int)(w:Sl)(W:bV)(h:f8)(L:dT (bL (cu 1 aq) 1 bs) h w W)(V:i0 W<=2^20)(I:∀l∈W,i0 l<=2^20):
  ab xt 72 #[lu p,xi xq seed,w] h λv h'=>∃r:Sl,v=r/\Sp h h' [cm 85 r 1 bs IE (W.map (dl p seed))]:=by
 refine MD p seed w ?_;unfold FF;obtain⟨K,y,M,G⟩:=bL.kD L;have S:=y.len;refine(Sp.refl h).boxed λa X O=>?_;refine aw (λt:Sl×Nat=>(t.1,(t.2:Int))) (λt h'=>t.2<=i0 W/\Sp h h' [cm 85 t.1 1 bs IE ((W.take t.2).map (dl p seed)),ao a 24 [xi xo p.1,xi xo p.2.1,xi xo p.2.2]]) (λt=>i0 W-t.2) (⟨eH,0,0⟩,0) i4 ⟨jj,(O.KL 85 1 bs IE).bw⟩ ?_;rintro⟨o,k⟩ Z ⟨Y,z⟩;dsimp only at*;refine ai (λe=>?_) (λe=>?_)
 ·have i:k<i0 W:=i5
  have Q:=I _ (qh i);have B:=G k i5 i;refine(Seq.up y z.ag).mS k i4 i5 ?_;generalize K[k]'(by omega)=x at B;have P:=Seq.len B;refine aw (λt:Sl×Nat=>(t.1,(t.2:Int))) (λt h'=>t.2<=W[k].length/\Sp h h' [cm 34 t.1 1 bs (cu 1 aD) (dl p seed (W[k].take t.2)),cm 85 o 1 bs IE ((W.take k).map (dl p seed)),ao a 24 [xi xo p.1,xi xo p.2.1,xi xo p.2.2]]) (λt=>W[k].length-t.2) (⟨eH,0,0⟩,0) i4 ⟨jj,by
    have:=(z.KL 34 1 bs (cu 1 aD)).bw;have J:dl p seed []=[]:=by unfold dl;split<;>rfl
    dsimp only;rw[List.take_zero,J];exact this⟩ ?_
  rintro⟨s,j⟩ h3 ⟨U,u⟩;dsimp only at*;refine ai (λN=>?_) (λN=>?_)
  ·have m:j<W[k].length:=i5
   refine(Seq.up B u.ag).bC j i4 m _ i4 ?_;refine⟨p,(u.box 2 i4).aS _ i4,(Ud p seed W[k][j] h3).mono ?_⟩;rintro v h4 ⟨c,rfl,H,f⟩;refine⟨c,i4,?_⟩;have q:=(u.ca H).Bz 0 i4 λ_=>rfl;have g:=NI p seed (W[k].take j);rw[zb]at g;refine bh (λn=>?_) (λn=>?_)
   ·rw[f]at n;have d:(bB p&&bW W[k][j])=eR:=sp
    rw[d,f9 rfl]at q;refine q.wd ac 1 0 i6 i4 i4 fx i4 i6 (λ_=>rfl) kb i4 i6 i5 λF T D=>?_;have A:=D.oF;refine⟨(F,j+1),js,⟨i7,?_⟩,i7⟩;dsimp only;rw[Ky m,f9 d];exact A
   ·rw[f]at n;have d:¬(bB p&&bW W[k][j])=eR:=λR=>by rw[R]at n;cases n
    refine⟨(s,j+1),js,⟨i7,?_⟩,i7⟩;dsimp only;rw[Ky m,g0 d,qN];exact q.oF
  ·rw[qi i5]at u;have q:=u.WZ 0 i4 λ_=>rfl;refine q.wd ac 1 0 i6 (E:=IE) (a:=s) (b:=dl p seed W[k]) i4 i4 (⟨_,_,i4,i4,i4,i4,i4,i4⟩:cj C.toCU 129 85 1 [xj eH 0 0] 24) i4 i6 (λ_=>rfl) kb i4 i6 i9 λF T D=>?_;refine⟨(F,k+1),js,⟨i7,?_⟩,i7⟩;dsimp only;rw[aG _ _ i,qU];exact D.oF
 ·rw[qi i5]at z;exact⟨o,i4,z.pO⟩
def lS(R:List aM)(a:az):Nat->aM
 |0=>[]
 |k+1=>lS R a k++if(k:Int)∈a then[]else R.getD k []
theorem QE{n:Nat}{R:List aM}(c:∀m∈R,aV n m)(b:az):∀k,aV n (lS R b k)
 |0=>λr a=>sz
 |k+1=>λr a=>by
  rcases qD.1 a with a|a
  ·exact QE c b k r a
  ·split at a
   ·cases a
   ·rw[qe]at a;cases hg:R[k]? with
    |none=>rw[hg]at a;cases a
    |some m=>rw[hg]at a;exact c m (List.mem_of_getElem? hg) r a
theorem UN(R:List aM)(a:az):∀{j k:Nat},j<=k->∃X,lS R a k=lS R a j++X
 |j,0,h=>⟨[],by
   have:j=0:=i5
   subst this;simp⟩
 |j,k+1,h=>by
  by_cases b:j=k+1
  ·subst b;exact⟨[],jj⟩
  ·obtain⟨X,c⟩:=UN R a (j:=j) (k:=k) i5;exact⟨X++if(k:Int)∈a then[]else R.getD k [],by rw[lS,c,qq]⟩
theorem aer{n:Nat}{m:aM}(c:aV n m)(h:cb m=n){b:aM}(a:aV n b)(d:∀r∈m,r∈b):cb b=n:=by have e:=lI a;have f:=GW c a d;omega
theorem Wr(I f:fz)(n:Nat)(M A:aM)(u l g:Sl)(R:List aM)(a:az)(h:f8)(hb:cv h I 200 (gw f n u))(T:dT IE h u M)(O:fI h f)(hl:dT (bL IE 1 bs) h l R)(hg:Rd h g 1 aq a)
  (Y:n<=64) (i:Er n M A) (U:∀m∈R,aV n m/\m.length<=2^20) (ad:i0 R<=2^20) (P:i0 a<=2^30):
  ab xt 73 #[xk (dB I),l,g,xi xo n] h λv h'=>v=xm (decide (cb (A++lS R a R.length)=n))/\Sp h h' []:=by
 refine ME (dB I) l g n ?_;unfold FG;obtain⟨ls,F,ah,Q⟩:=bL.kD hl;have am:=F.len;have q:∀{p A':aM},Er n p A'->i0 p<=64:=λx=>by have:=x.len;have:=lI x.evenA;omega
 have N:St (λb=>b<h.size) h [] λh'=>fI h' f:=.base O λh' hp=>O.ag hp O.lt;have K:aV n (A++lS R a R.length):=λr d=>(qD.1 d).elim (i.evenA r) (QE (λm hm=>(U m hm).1) a _ r);refine(Pq I f n M u h hb T (q i) i.even Y).mono ?_;rintro v h1 ⟨s,rfl,R1⟩;refine⟨dB s,i4,?_⟩;refine aw (λk:Nat=>(k:Int)) (λk h'=>k<=i0 R/\∃p,Er n p (A++lS R a k)/\Sp h h' [iq s f n p]) (λk=>i0 R-k) 0 i4 ⟨i5,M,by simpa[lS]using i,R1⟩ ?_;rintro k h2 ⟨hk,M2,z,B⟩;refine ai (λe=>?_) (λe=>?_)
 ·have t:k<i0 R:=i5
  have hx:=Q k i5 t;refine(Seq.up F B.ag).mS k i4 i5 ?_;generalize ls[k]'(by omega)=x at hx;have G:=U _ (qh t);refine(uK g a k h2 (Seq.up hg B.ag) P).mono ?_;rintro v h3 ⟨rfl,rfl⟩;refine⟨_,i4,ai (λS=>?_) λo=>?_⟩
  ·refine⟨k+1,j1,⟨i5,M2,?_,B⟩,i5⟩;rw[lS,f9 S,qN];exact z
  ·obtain⟨xs,E,ar,L⟩:=bL.kD hx;have ax:=E.len;have H:R.getD k []=R[k]:=by rw[qe,qd t];rfl
   refine aw (λj:Nat=>(j:Int)) (λj h'=>j<=R[k].length/\∃p,Er n p ((A++lS R a k)++R[k].take j)/\Sp h h' [iq s f n p]) (λj=>R[k].length-j) 0 i4 ⟨i5,M2,by simpa using z,B⟩ ?_;rintro j h4 ⟨hj,J,c,D⟩;refine ai (λe2=>?_) (λe2=>?_)
   ·have w:j<R[k].length:=i5
    have V:=L j i5 w;refine(Seq.up E D.ag).mS j i4 i5 ?_;generalize xs[j]'(by omega)=y at V;refine(DS s f n J D).mono ?_;rintro v h5 ⟨rfl,rfl⟩;refine⟨_,i4,de (λW=>?_) λW=>?_⟩
    ·refine⟨?_,.zip D.ag⟩;have ap:((i0 J:Nat):Int)=(n:Int):=W;have h6:cb ((A++lS R a k)++R[k].take j)=n:=by have:=c.len;omega
     have h7:cb (A++lS R a R.length)=n:=by
      refine aer c.evenA h6 K λr d=>?_;obtain⟨X,hX⟩:=UN R a (j:=k+1) (k:=i0 R) i5;rw[hX,lS,g0 o,H];simp only[qD]at d⊢;rcases d with(d|d)|d
      ·exact .inl d
      ·exact .inr (.inl (.inl d))
      ·exact .inr (.inl (.inr (zS d)))
     rw[h7];simp
    ·refine(Gh s f n J y _ D N (Seq.up V D.ag) (G.1 _ (qh _)) Y c.even c.lead (q c)).mono ?_;rintro v h6 ⟨⟨b,rfl⟩,H6⟩;refine⟨b,i4,⟨j+1,j1,⟨i5,_,?_,H6⟩,i5⟩⟩;have:=aaC c (G.1 _ (qh w));rw[aG _ _ w,<-qq];exact this
   ·refine⟨k+1,j1,⟨i5,J,?_,D⟩,i5⟩;rw[qi i5]at c;rw[lS,g0 o,H,<-qq];exact c
 ·have:k=i0 R:=i5
  subst this;refine(DS s f n M2 B).mono ?_;rintro v h5 ⟨rfl,rfl⟩;refine⟨_,i4,?_,.zip B.ag⟩;have:=z.len;congr 1;by_cases Z:cb (A++lS R a R.length)=n
  ·rw[g9 Z];exact beq_iff_eq.2 (show((i0 M2:Nat):Int)=n by omega)
  ·rw[hZ Z];exact beq_eq_false_iff_ne.2 (show((i0 M2:Nat):Int)≠n by omega)
def oK(n t:Nat):bV:=(kH t 0 n).map ints
def IF(n t:Int)(h:f8)(v:Value)(h':f8):Prop:=
 if 0<=n/\n<=64/\0<=t/\t<=n then
  if hJ n t>4096 then v=.tuple #[xj eH 0 0,xi xo 13]/\h'=h
  else∃r:Sl,v=.tuple #[r,xi xo 0]/\Sp h h' [cm 22 r 1 bs (cu 1 aq) (oK n.toNat t.toNat)]
 else v=.tuple #[xj eH 0 0,xi xo 1]/\h'=h
theorem UO(n t:Int)(h:f8)(hn:0<=n/\n<=2^30)(ht:(0:Int)<=0):ab xt 68 #[xi xo n,xi xo t] h (IF n t h):=by
 refine Tw n t ?_;unfold Mz;refine(DR n t h).mono ?_;rintro v J ⟨rfl,rfl⟩;refine⟨_,i4,bh (λe=>?_) λe=>?_⟩
 ·show IF n t J _ J;unfold IF;rw[g0 (of_decide_eq_false e)];exact⟨i4,i4⟩
 ·have e:=ii e;refine(sT n t J i5 i5).mono ?_;rintro v i ⟨rfl,rfl⟩;refine⟨_,i4,ai (λp=>?_) λp=>?_⟩
  ·show IF n t i _ i;unfold IF;rw[f9 e,f9 p];exact⟨i4,i4⟩
  ·refine(λG=>?_:(∀(v:Value) (h':f8),(∃r:Sl,v=.tuple #[r,xi xo 0]/\Sp i h' [cm 22 r 1 bs (cu 1 aq) (oK n.toNat t.toNat)])->IF n t i v h')->_) (λv h' l=>by unfold IF;rw[f9 e,g0 p];exact l);obtain⟨N,rfl⟩:∃N:Nat,n=N:=⟨n.toNat,i5⟩
   obtain⟨T,rfl⟩:∃T:Nat,t=T:=⟨t.toNat,i5⟩
   have V:i0 (kH T 0 N)<=4096:=by
    rw[KV N T 0 i5];have:hJ (N:Int) T=((min (ch N T) 4097:Nat):Int):=by unfold hJ;rw[f9 e];rfl
    rw[this]at p;have ay:¬(((min (ch N T) 4097:Nat):Int)>4096):=p;simp;omega
   refine(Sp.refl i).make ac aq gm i6 0 i4 i4 T T i4 i4 (qk _) i5 λs h3 am ah H3=>?_;refine aw (λk:Nat=>(k:Int)) (λk h'=>k<=T/\Sp i h' [al 3 s 1 aq (ints (zR 0 k++qg (T-k) 0))]) (λk=>T-k) 0 i4 ⟨i5,by
    have M:ints (zR 0 0++qg (T-0) 0)=qg T 0:=by simp[ints]
    rw[M];exact H3⟩ ?_
   rintro k h4 ⟨hk,A⟩;refine ai (λW=>?_) (λW=>?_)
   ·have ax:k<T:=i5
    refine A.set ac 0 i4 (λ_=>rfl) i4 k i4 (by simp[ints];omega) (k:Int) i4 i4 i4 λh5 B=>?_;refine⟨k+1,j1,⟨i5,?_⟩,i5⟩;have M:(ints (zR 0 k++qg (T-k) 0)).set k (k:Int)=ints (zR 0 (k+1)++qg (T-(k+1)) 0):=by
     have:(zR 0 k++qg (T-k) 0).set k k=zR 0 (k+1)++qg (T-(k+1)) 0:=by rw[qZ _ _ jj,List.length_range',zc,show T-k=T-(k+1)+1 by omega,ye,zw,List.range'_concat];simp
     rw[<-this];simp[ints,vS]
    rw[M]at B;exact B
   ·have:k=T:=i5
    subst this;rw[zc,yU,qN]at A;refine(jX s _ h4 (A.seq 0 i4 λ_=>rfl) (by simp[ints];omega)).mono ?_;rintro v h5 ⟨c,rfl,R5⟩;have B:=(A.ca R5).Bz 0 i4 λ_=>rfl;refine⟨c,i4,?_⟩;refine B.lit ac bs (⟨_,_,i4,i4,i4,i4,i4,i4⟩:cj C.toCU 51 22 1 [xj eH 0 0] 24) i4 [c] i4 (show 1*1<=2^20 by decide) i4 λo h6 Z=>?_;have H7:Sp i h6 (cm 22 o 1 bs (cu 1 aq) [ints (zR 0 k)]::al 3 s 1 aq (ints (zR 0 k))::[]):=(Z.ahn (E:=cu 1 aq) (a:=c) (b:=ints (zR 0 k)) 2 0 i6 i4 i4).bw.pO;have F:=Hd N k 0 i5;refine aw (λx:Sl×List (List Nat)×List Nat×List (List Nat)=>x.1) (λx h'=>x.2.1++x.2.2.2=kH k 0 N/\ra N x.2.2.1 x.2.2.2/\x.2.2.1.length=k/\(∀y∈x.2.2.1,y<N)/\Sp i h' [cm 22 x.1 1 bs (cu 1 aq) ((x.2.1++[x.2.2.1]).map ints),al 3 s 1 aq (ints x.2.2.1)]) (λx=>i0 x.2.2.2) (o,[],zR 0 k,kH k 0 N) i4 ⟨i4,F,jj,λy K=>by rw[List.mem_range'_1]at K;omega,by simpa using H7⟩ ?_;rintro⟨o,g,f,rest⟩ h8 ⟨z,w,ap,P,S⟩;dsimp only at*;refine(abL N s f S 1 i4 i5 i5 P).mono ?_;intro v u l;cases hs:kl N f with
    |none=>
     rw[hs]at l;obtain⟨rfl,rfl⟩:=l;refine⟨eS,i4,?_⟩;refine xY i4 (G _ _ ⟨o,i4,?_⟩);rw[qm,qm];have:rest=[f]:=by
      cases w with
      |last _=>rfl
      |more h _=>rw[hs]at h;cases h
     rw[this]at z;unfold oK;rw[<-z];exact S.pO
    |some cur'=>
     rw[hs]at l;obtain⟨rfl,D⟩:=l;refine⟨eR,i4,GC i4 ?_⟩;obtain⟨L,H,d⟩:∃L,ra N cur' L/\rest=f::L:=by
      cases w with
      |last h=>rw[hs]at h;cases h
      |more h h'=>rw[hs]at h;injection h with h;subst h;exact⟨_,h',i4⟩
     have j:Sp i u [cm 22 o 1 bs (cu 1 aq) ((g++[f]).map ints),al 3 s 1 aq (ints cur')]:=D;have q:cur'∈kH k 0 N:=by
      rw[<-z,d];have:cur'∈L:=by cases H<;>simp
      simp[this]
     have m:=Ak q;have Y:i0 g+2<=i0 (kH k 0 N):=by
      rw[<-z,d];have:1<=i0 L:=by cases H<;>simp
      simp;omega
     refine(jX s _ u (j.seq 1 i4 λ_=>rfl) (by rw[lp];omega)).mono ?_;rintro v ad ⟨U,rfl,O⟩;have Q:=(j.ca O).Bz 0 i4 λ_=>rfl;refine⟨U,i4,?_⟩;refine Q.wd ac 1 0 i6 (E:=cu 1 aq) (a:=U) (b:=ints cur') i4 i4 (⟨_,_,i4,i4,i4,i4,i4,i4⟩:cj C.toCU 51 22 1 [xj eH 0 0] 24) i4 i6 (λ_=>rfl) kb i4 i6 i9 λX ar R=>?_;refine⟨(X,g++[f],cur',L),i4,⟨by dsimp only;rw[<-z,d];simp,H,m.1,λy K=>(m.2.1 y K).2,?_⟩,by dsimp only;rw[d];simp⟩;have I:=R.oF;dsimp only;rw[qU (l₁:=g++[f])];exact I
def kQ(W:bV)(a:az):Nat->az
 |0=>[]
 |k+1=>kQ W a k++if(k:Int)∈a then[]else W.getD k []
def lT(p:Pm)(seed:Int)(W:bV)(a:az):Nat:=oH p seed (kQ W a W.length)
theorem Zl(p:Pm)(seed:Int)(a b:az):dl p seed (a++b)=dl p seed a++dl p seed b:=by unfold dl;split<;>simp
theorem QF(p:Pm)(seed:Int)(W:bV)(a:az):∀k,lS (W.map (dl p seed)) a k=dl p seed (kQ W a k)
 |0=>by simp[lS,kQ,dl]
 |k+1=>by
  rw[lS,kQ,Zl,QF p seed W a k];congr 1;by_cases h:(k:Int)∈a
  ·rw[f9 h,f9 h];simp[dl]
  ·rw[g0 h,g0 h,qe,qS,qe];cases W[k]? with
   |none=>simp[dl]
   |some l=>rfl
theorem abP{p:Pm}(a:bB p=eR)(seed:Int)(ids:az):dP p seed ids=bz p.1.toNat p.2.1.toNat++dl p seed ids:=by unfold dP dl;rw[f9 a,f9 a]
def kR(p:Pm)(seed:Int)(W:bV)(t:Nat):Option (az):=(oK W.length t).find? λg=>decide ((lT p seed W g:Int)≠bE p)
def ir(p:Pm)(seed:Int)(W:bV)(t:Int):az×Bool×Int:=
 if bB p then
  if 0<=t/\t<=i0 W/\W.length<=64 then
   if hJ W.length t>4096 then([],eS,13)
   else match kR p seed W t.toNat with
    |some g=>(g,eR,0)
    |none=>([],eS,0)
  else([],eS,1)
 else([],eS,1)
theorem Pr(K H:Nat):aV (K+H) (bz K H):=λr a=>by
 obtain⟨i,_,rfl⟩:=qt.1 a;exact Ag _ _ _
theorem QG{α:Type}(f:α->Bool)(l:List α){k:Nat}(b:k<i0 l)(a:(l.take k).find? f=eH):(l.take (k+1)).find? f=if f l[k]then dB l[k]else eH:=by rw[aG _ _ b,List.find?_append,a,Option.none_or,List.find?_cons];cases f l[k]<;>rfl
theorem abQ{α:Type}(f:α->Bool)(l:List α){k:Nat}{x:α}(h:(l.take k).find? f=dB x):l.find? f=dB x:=by have:l=l.take k++l.drop k:=(qK k l).symm;rw[this,List.find?_append,h];rfl
theorem NJ(p:Pm)(seed:Int)(w:Sl)(W:bV)(t:Int)(h:f8)(hW:dT (bL (cu 1 aq) 1 bs) h w W)(hl:i0 W<=2^20)(hr:∀l∈W,i0 l<=2^20)(ht:(0:Int)<=0):
  ab xt 23 #[lu p,xi xq seed,w,xi xo t] h λv h'=>∃r:Sl,v=.tuple #[r,xm (ir p seed W t).2.1,xi xo (ir p seed W t).2.2]/\Sp h h' [EA (cu 1 aq) r (ir p seed W t).1]:=by
 refine Ms p seed w t ?_;unfold FB;have a3:=bL.len hW;have j:∀{Y:f8},aY (λb=>b<h.size) h Y->Sp h Y [EA (cu 1 aq) ⟨eH,0,0⟩ []]:=λB=>.one B (Seq.nil _ _ _ _ _ _);refine(Sp.refl h).boxed λa Y H1=>?_;refine⟨p,(H1.box 0 i4).aS _ i4,(dW p Y).mono ?_⟩;rintro v h2 ⟨rfl,R2⟩;have H2:=H1.comp R2;refine⟨_,i4,bh (λe=>?_) λe=>?_⟩
 ·refine⟨⟨eH,0,0⟩,?_,?_⟩<;>(unfold ir;rw[g0 l5])
  exact j H2.ag
 ·have B:bB p=eR:=e;refine(UO (w.len:Int) t h2 i5 ht).mono ?_;intro v h3 G;unfold IF at G;rw[a3]at G;have Q:(0<=((i0 W:Nat):Int)/\((i0 W:Nat):Int)<=64/\0<=t/\t<=((i0 W:Nat):Int))↔(0<=t/\t<=i0 W/\W.length<=64):=i5
  by_cases I:0<=t/\t<=i0 W/\W.length<=64
  ·rw[f9 (Q.2 I)]at G;by_cases N:hJ W.length t>4096
   ·rw[f9 N]at G;obtain⟨rfl,rfl⟩:=G;refine⟨(⟨eH,0,0⟩,13),i4,bQ (λ_=>?_) λe=>j3⟩;refine⟨⟨eH,0,0⟩,?_,?_⟩<;>(unfold ir;rw[f9 B,f9 I,f9 N])
    exact j H2.ag
   ·rw[g0 N]at G;obtain⟨r,rfl,R3⟩:=G;refine⟨(r,0),i4,bQ (λe=>absurd i4 e) λ_=>?_⟩;dsimp only;rw[qm]at R3;have wR:ir p seed W t=match kR p seed W t.toNat with|some g=>(g,eR,0)|none=>([],eS,0):=by unfold ir;rw[f9 B,f9 I,g0 N]
    obtain⟨L,hL⟩:∃L,L=oK W.length t.toNat:=⟨_,rfl⟩
    rw[<-hL]at R3;have bl:i0 L<=4096:=by
     have h6:hJ (i0 W:Int) t=((min (ch W.length t.toNat) 4097:Nat):Int):=by unfold hJ;rw[f9 (Q.2 I)];rfl
     rw[h6]at N;rw[hL,oK,qA,KV _ _ 0 i5,Nat.sub_zero];omega
    have H3:Sp h h3 [ao a 24 [xi xo p.1,xi xo p.2.1,xi xo p.2.2],cm 22 r 1 bs (cu 1 aq) L]:=H2.comp R3;have pp:=(bZ p).1 B;have a0:bE p=p.1+p.2.1:=oU B;obtain⟨n,hn⟩:∃n:Nat,bE p=n:=⟨(bE p).toNat,i5⟩
    have z:n<=64:=i5
    refine⟨p,(H3.box 0 i4).aS _ i4,(kz p h3).mono ?_⟩;rintro v h4 ⟨rfl,R4⟩;have H4:=H3.up R4.ag;refine⟨_,i4,(rF h4).mono ?_⟩;rintro v h5 ⟨f,rfl,R5⟩;have H5:=H4.ca R5;rw[hn];refine⟨dB f,i4,(RK f n h5 z).mono ?_⟩;rintro v h6 ⟨P,rfl,R6⟩;have H6:Sp h h6 [iq P f n [],ao f 197 cV,ao a 24 [xi xo p.1,xi xo p.2.1,xi xo p.2.2],cm 22 r 1 bs (cu 1 aq) L]:=H5.ca R6;refine⟨dB P,i4,p,(H6.box 2 i4).aS _ i4,(uG p h6).mono ?_⟩;rintro v h7 ⟨ar,rfl,R7⟩;rw[f9 B]at R7;obtain⟨A,F⟩:∃A,A=bz p.1.toNat p.2.1.toNat:=⟨_,rfl⟩
    rw[<-F]at R7;have S:aV n A:=by have:=Pr p.1.toNat p.2.1.toNat;rw[F,show n=p.1.toNat+p.2.1.toNat by omega];exact this
    have bd:i0 A<=4:=by rw[F];simp[bz];omega
    have H7:Sp h h7 [iq P f n [],ao f 197 cV,ao a 24 [xi xo p.1,xi xo p.2.1,xi xo p.2.2],cm 22 r 1 bs (cu 1 aq) L,cm 34 ar 1 bs (cu 1 aD) A]:=(H6.comp R7).RX 4 i4;have V:∀{M' A':aM},Er n M' A'->i0 M'<=64:=λx=>by have:=x.len;have:=lI x.evenA;omega
    refine⟨ar,i4,?_⟩;refine aw (λk:Nat=>(k:Int)) (λk h'=>k<=i0 A/\∃M,Er n M (A.take k)/\Sp h h' [iq P f n M,ao f 197 cV,ao a 24 [xi xo p.1,xi xo p.2.1,xi xo p.2.2],cm 22 r 1 bs (cu 1 aq) L,cm 34 ar 1 bs (cu 1 aD) A]) (λk=>i0 A-k) 0 i4 ⟨i5,[],by simpa using ahA n,H7⟩ ?_;rintro k h8 ⟨hk,M,s,R⟩;have bq:=(R.adh 4 i4).1;refine ai (λe2=>?_) (λe2=>?_)
    ·have c:k<i0 A:=i5
     refine bL.nX (R.PH 4 i4 λ_=>rfl) k i4 c λx hx=>?_;refine(Gh P f n M x _ R (St.fj 0 i4 λh' y=>y.1) hx (S _ (qh _)) z s.even s.lead (V s)).mono ?_;rintro v h9 ⟨⟨b,rfl⟩,Z⟩;refine⟨b,i4,⟨k+1,j1,⟨i5,_,?_,Z⟩,i5⟩⟩;rw[aG _ _ c];exact aaC s (S _ (qh c))
    ·rw[qi i5]at s;refine⟨p,(R.box 2 i4).aS _ i4,(abO p seed w W h8 (dT.up hW R.ag) hl hr).mono ?_⟩;rintro v h9 ⟨K,rfl,R9⟩;have Z:=R.comp R9;refine⟨K,i4,?_⟩;have a8:∀m∈W.map (dl p seed),aV n m/\m.length<=2^20:=λm N=>by
      obtain⟨l,a7,rfl⟩:=qt.1 N;refine⟨?_,za (NI p seed l) (hr l a7)⟩;have:=Wq p seed l;rw[hn]at this;exact this
     let d:az->Bool:=λg=>decide ((lT p seed W g:Int)≠bE p);have wI:kR p seed W t.toNat=L.find? d:=by unfold kR;rw[<-hL]
     have bb:=(Z.adh 3 i4).1;refine aw (λk:Nat=>(k:Int)) (λk h'=>k<=i0 L/\(L.take k).find? d=eH/\Sp h h' [iq P f n M,ao f 197 cV,ao a 24 [xi xo p.1,xi xo p.2.1,xi xo p.2.2],cm 22 r 1 bs (cu 1 aq) L,cm 34 ar 1 bs (cu 1 aD) A,cm 85 K 1 bs IE (W.map (dl p seed))]) (λk=>i0 L-k) 0 i4 ⟨i5,jj,Z⟩ ?_;rintro k a6 ⟨a9,E,o⟩;refine ai (λe3=>?_) (λe3=>?_)
     ·have c:k<i0 L:=i5
      refine bL.ajd (o.PH 3 i4 λ_=>rfl) k i4 c λad x a4 O hx=>?_;obtain⟨am,hb,a5⟩:=iq.rd o 0 rfl;have a2:L[k].length<=2^30:=by
       have ay:L[k]∈oK W.length t.toNat:=by have h0:L[k]∈L:=qh c;generalize L[k]=y at h0;rw[hL]at h0;exact h0
       obtain⟨g,hg,a1⟩:=qt.1 ay;have:=(Ak hg).1;rw[<-a1,lp,this];have:=I.2.1;have:=I.2.2;omega
      refine(Wr P f n M A am K x (W.map (dl p seed)) L[k] a6 hb a5 (o.box 1 i4) (o.PH 5 i4 λ_=>rfl) hx z s a8 i9 a2).mono ?_;rintro v bk ⟨rfl,X⟩;have ap:(decide (cb (A++lS (W.map (dl p seed)) L[k] (W.map (dl p seed)).length)=n))=!d L[k]:=by
       rw[QF,qA,F,<-abP B];show _=!decide ((lT p seed W L[k]:Int)≠bE p);rw[hn];unfold lT oH;by_cases hh:cb (dP p seed (kQ W L[k] W.length))=n
       ·simp[hh]
       ·rw[hZ hh,g9 i5];rfl
      rw[ap];have U:=o.up X.ag;refine⟨_,i4,bh (λe4=>?_) λe4=>?_⟩
      ·have J:d L[k]=eR:=by simpa using e4
       have T:=QG d L c E;rw[f9 J]at T;have u:ir p seed W t=(L[k],eR,0):=by rw[wR,wI,abQ d L T]
       refine⟨x,by rw[u],?_⟩;rw[u];have ax:=U.WZ 3 i4 λ_=>rfl;have H:=pI O X.ag;have ah:=ax.gg (D:=EA (cu 1 aq) x L[k]) 3 i4 λq hq=>bL.pick hq k c a4 H;exact ah.take 3 λi A' hi=>by cases i with|zero=>exact hi|succ i=>simp at hi
      ·have J:d L[k]=eS:=by simpa using e4
       have T:=QG d L c E;rw[J]at T;exact⟨k+1,j1,⟨i5,T,U⟩,i5⟩
     ·rw[qi i5]at E;have u:ir p seed W t=([],eS,0):=by rw[wR,wI,E]
      refine⟨⟨eH,0,0⟩,by rw[u],?_⟩;rw[u];exact j o.ag
  ·rw[g0 λhh=>I (Q.1 hh)]at G;obtain⟨rfl,rfl⟩:=G;refine⟨(⟨eH,0,0⟩,1),i4,bQ (λ_=>?_) λe=>j3⟩;refine⟨⟨eH,0,0⟩,?_,?_⟩<;>(unfold ir;rw[f9 B,g0 I])
   exact j H2.ag
end Go.Qw
namespace Wl
open Go Go.Qw Go.Vc
def mB(W:bV)(id:Int):Bool:=W.any λl=>decide (id∈l)
def CN(W:bV):Nat:=W.flatten.foldr (λx a=>max a x.toNat) 0
theorem UP{x:Int}:∀{l:az},x∈l->x.toNat<=l.foldr (λx a=>max a x.toNat) 0
 |[],h=>k5
 |y::l,h=>by
  rw[List.foldr_cons];rcases qX.1 h with rfl|h
  ·omega
  ·have:=UP h;omega
theorem Ps{W:bV}{x:Int}(h:x∈W.flatten):x.toNat<=CN W:=UP h
theorem Pt{W:bV}{i:Nat}(h:mB W (i:Int)=eR):i<=CN W:=by unfold mB at h;rw[List.any_eq_true]at h;obtain⟨l,a,b⟩:=h;have:=Ps (List.mem_flatten.2 ⟨l,a,ii b⟩);omega
def rJ(W:bV):Nat->Nat->Nat
 |0,i=>i
 |f+1,i=>if mB W (i:Int)then rJ W f (i+1)else i
def dC(W:bV):Nat:=rJ W (CN W+1) 0
theorem CO(W:bV):∀f i,CN W<f+i->mB W (rJ W f i:Int)=eS/\i<=rJ W f i/\∀j,i<=j->j<rJ W f i->mB W (j:Int)=eR
 |0,i,h=>by
  refine⟨?_,qk _,λj g d=>absurd d (by unfold rJ;omega)⟩;cases e:mB W ((rJ W 0 i:Nat):Int)with
  |false=>rfl
  |true=>have:=Pt e;unfold rJ at this;omega
 |f+1,i,h=>by
  unfold rJ;cases e:mB W (i:Int)with
  |false=>rw[g0 i6];exact⟨e,qk _,λj g d=>i5⟩
  |true=>
   rw[f9 rfl];obtain⟨a,b,c⟩:=CO W f (i+1) i5;refine⟨a,i5,λj g d=>?_⟩;by_cases k:j=i
   ·rw[k];exact e
   ·exact c j i5 d
theorem abR(W:bV):mB W (dC W:Int)=eS:=(CO W _ 0 i5).1
theorem IG{W:bV}{j:Nat}(h:j<dC W):mB W (j:Int)=eR:=(CO W _ 0 i5).2.2 j (zE _) h
theorem Zm{W:bV}{i:Nat}(a:mB W (i:Int)=eS)(b:∀j,j<i->mB W (j:Int)=eR):dC W=i:=by
 rcases Nat.lt_trichotomy (dC W) i with h|h|h
 ·have:=b _ h;rw[abR W]at this;cases this
 ·exact h
 ·have:=IG h;rw[a]at this;cases this
theorem UQ(W:bV):dC W<=CN W+1:=by
 cases e:dC W with
 |zero=>omega
 |succ n=>have:=Pt (IG (W:=W) (j:=n) i5);omega
def dD(live:az)(s:Int):Int:=match live.idxOf? s with|some k=>(k:Int)|none=>-1
def iu(m:aE)(c:ba)(w:Pow)(ds:aF)(s:Int)(d:bo):Int×Pow×aF:=
 let r:=gd m w d 1
 if r.1≠0 then(r.1,r.2.1,bS ds s r.2.2)else
  let q:=r.2.2.append r.2.1 c
  (q.1,q.2.1,bS (bS ds s r.2.2) s q.2.2)
def fS(m:aE)(live set:az)(order:az)(c:ba)(id:Nat)(w:Pow)(ds:aF):List Nat->(Int×Pow×aF)×Int×Int
 |[]=>((7,w,ds),0,0)
 |i::l=>
  let s:=dU order ((id:Int)+i)
  match aX ds s with
  |none=>fS m live set order c id w ds l
  |some d=>if dD live s∈set∨fy m d 1=eS then fS m live set order c id w ds l
   else(iu m c w ds s d,dD live s,s)
structure iY where
 o:Int
 b:Int
 seed:Int
 M:aM
 W:bV
 got:az
 deriving Inhabited
def iY.Kz(x:iY)(m:aE)(id:Nat):di:=⟨x.o,x.b,id,m.p,x.seed,if bW id then fV m.p.2.2.toNat x.M (dw (bE m.p).toNat x.seed id)else[]⟩
def iY.uL(x:iY)(id:Nat)(k s:Int):iY:={x with W:=x.W.set k.toNat (x.W.getD k.toNat []++[(id:Int)]),got:=x.got++[s]}
def dS(m:aE)(live set:az)(w:Pow)(ds:aF)(x:iY):Int×Pow×aF×iY:=
 let id:=dC x.W;let o:=cQ x.o x.b live;let r:=fS m live set o (cL (x.Kz m id)) id w ds (List.range o.length)
 (r.1.1,r.1.2.1,r.1.2.2,if r.1.1=0 then x.uL id r.2.1 r.2.2 else x)
def cY(m:aE)(live:az)(t most:Int):Nat->Pow->aF->iY->Int×Pow×aF×iY
 |0,w,ds,x=>(12,w,ds,x)
 |f+1,w,ds,x=>
  let r:=ir m.p x.seed x.W t
  if r.2.2≠0 then(r.2.2,w,ds,x)else if r.2.1=eS then(0,w,ds,x)else if(i0 x.got:Int)>=most then(12,w,ds,x)else
   let q:=dS m live r.1 w ds x
   if q.1≠0 then q else cY m live t most f q.2.1 q.2.2.1 q.2.2.2
end Wl
namespace Go.Qw
open Go Go.Vc Go.Proofs Wl
theorem Pu(s:Sl)(l:Row)(c:UInt8)(h:f8)(p:Rd h s 1 aD l)(w:s.len<=s.cap)(u:i0 l<=2^30):
  ab xt 274 #[s,xi xp c.toNat] h λv h'=>∃k:Nat,v=xj s.ptr k s.cap/\k<=i0 l/\(∀j (f:j<i0 l),k<=j->l[j]=c)/\(∀(d:k-1<i0 l),0<k->l[k-1]≠c)/\h'=h:=by
 refine Bq s _ ?_;unfold pF;have n:=p.len;refine bj ?_;refine aw (λk:Nat=>(⟨s.ptr,k,s.cap⟩:Sl)) (λk h'=>h'=h/\k<=i0 l/\∀j (f:j<i0 l),k<=j->l[j]=c) (λk=>k) l.length (by rw[<-n]) ⟨i4,qk _,λj f d=>i5⟩ ?_;rintro k y ⟨rfl,d,b⟩;dsimp only;refine bj (ai (λe=>?_) λe=>?_)
 ·have q:0<k:=i5
  rw[ak _];refine(p.take k d).bC (g:=λx:UInt8=>Value.int .u8 x.toNat) (k-1) i5 i9 (l[k-1]'(by omega)) (by simp[aD]) ?_|>λ⟨a,ha,x,hx,hK⟩=>⟨a,ha,x.toNat,hx,hK⟩
  refine de (λi=>?_) (λi=>?_)
  ·have m:l[k-1]'(by omega)=c:=by
    have:(l[k-1]'(by omega)).toNat=c.toNat:=by exact_mod_cast i
    exact yy.1 this
   refine⟨⟨i5,i5⟩,k-1,by congr 1;omega,⟨i4,i5,λj f r=>?_⟩,i5⟩;by_cases o:j=k-1
   ·subst o;exact m
   ·exact b j f i5
  ·refine⟨k,i4,d,b,λ_ _ t=>i (by rw[t]),i4⟩
 ·exact⟨k,i4,d,b,λ_ h0=>i5,i4⟩
theorem RM(s:Sl)(l:Row)(c:UInt8)(h:f8)(p:Rd h s 1 aD l)(u:s.len<=s.cap)(D:i0 l<=2^30):
  ab xt 273 #[s,xi xp c.toNat] h λv h'=>(∃r:Sl,v=r/\(r.len=0↔∀x∈l,x=c))/\h'=h:=by
 refine CC s _ ?_;unfold ru;have A:=p.len;refine bY (λr h'=>h'=h/\(r.len=0↔∀x∈l,x=c)) ?_ ?_
 ·refine aw (λt:Sl×Nat=>t.1) (λt h'=>h'=h/\t.2<=i0 l/\(∀j (d:j<i0 l),j<t.2->l[j]=c)/\Rd h t.1 1 aD (l.drop t.2)/\t.1.len<=t.1.cap) (λt=>i0 l-t.2) (s,0) i4 ⟨i4,jj,λj _ d=>i5,q6,u⟩ ?_;rintro⟨r,k⟩ y ⟨rfl,E,a,b,n⟩;dsimp only at*;have f:=b.len;rw[ze]at f;refine bj (ai (λe=>?_) λe=>?_)
  ·have o:k<i0 l:=i5
   refine b.bC 0 i4 l4 _ i4 ?_;have w:(l.drop k)[0]'(by rw[ze];omega)=l[k]:=jj
   rw[w];refine de (λi=>?_) (λi=>?_)
   ·have m:l[k]=c:=by
     have:(l[k]).toNat=c.toNat:=by exact_mod_cast i
     exact yy.1 this
    refine⟨⟨i5,i5⟩,(⟨if r.cap=1 then r.ptr else r.ptr.map (·.add (1*1)),r.len-1,r.cap-1⟩,k+1),i4,⟨i4,i5,λj d g=>?_,?_,i7⟩,i7⟩
    ·rcases zo.1 g with h2|rfl
     ·exact a j d h2
     ·exact m
    ·have:=b.drop 1 n;rw[zN]at this;exact this
   ·refine⟨i4,⟨λh0=>i5,λB=>absurd ?_ i⟩⟩;rw[B _ (qh o)]
  ·have q:k=i0 l:=i5
   refine⟨i4,⟨λ_ x z=>?_,λ_=>by show r.len=0;omega⟩⟩;obtain⟨j,d,rfl⟩:=qJ z;exact a j d i5
 ·rintro r y ⟨rfl,b⟩;refine de (λe=>?_) (λe=>?_)
  ·exact⟨⟨⟨eH,0,0⟩,i4,by rw[<-b];exact⟨λ_=>i5,λ_=>rfl⟩⟩,i4⟩
  ·exact⟨⟨r,i4,b⟩,i4⟩
theorem QH(s:Sl)(l:Row)(cut:ByteArray)(a:cut=⟨#[0]⟩)(h:f8)(c:Rd h s 1 aD l)(m:s.len<=s.cap)(i:i0 l<=2^30):
  ab xt 221 #[s,xl cut] h λv h'=>(∃r:Sl,v=r/\(r.len=0↔∀x∈l,x=0))/\h'=h:=by
 subst a;refine Pb s _ ?_;unfold HS;have q:=c.len;refine de (λe=>?_) (λe=>?_)
 ·refine⟨⟨⟨eH,0,0⟩,i4,⟨λ_ x b=>?_,λ_=>rfl⟩⟩,i4⟩;have:l=[]:=List.eq_nil_of_length_eq_zero i5;subst this;cases b
 ·refine xY j6 (bj (GC j6 ?_));refine⟨0,⟨i6,i4⟩,GC i6 ?_⟩;refine⟨0,⟨i6,i4⟩,0,⟨i6,i4⟩,?_⟩;refine(Pu s l 0 h c m i).mono ?_;rintro v n ⟨k,rfl,o,t,h3,rfl⟩;refine⟨⟨s.ptr,k,s.cap⟩,i4,trivial,?_⟩;refine(RM ⟨s.ptr,k,s.cap⟩ (l.take k) 0 n (c.take k o) (by show k<=s.cap;omega) i9).mono ?_;rintro v u ⟨⟨r,rfl,g⟩,rfl⟩;refine⟨r,i4,trivial,⟨r,i4,g.trans ⟨λd x b=>?_,λd x b=>d x (zS b)⟩⟩,i4⟩;obtain⟨j,f,rfl⟩:=qJ b;by_cases p:j<k
  ·exact d _ (by rw[List.mem_take_iff_getElem];exact⟨j,i5,i4⟩)
  ·exact t j f i5
def qv(x:Sl×Sl):bc:=[x.1,x.2]
theorem abS:∀x,∀c∈qv x,c.oneCell'=eR:=λx c a=>by
 simp only[qv,qX,vL,or_false]at a;rcases a with rfl|rfl<;>rfl
def jL:jz (Sl×Sl) fu:=⟨λh q a e=>Seq h q a.1 1 aq e.1/\Seq h q a.2 1 aD e.2,λa b=>⟨a.1.ag b,a.2.ag b⟩,λa c=>⟨a.1.mono c,a.2.mono c⟩⟩
abbrev rK:jz Sl (List fu):=bL jL 2 qv
abbrev aiS:jz Sl aM:=bL (uy 1 aD) 1 bs
abbrev eQ:cj C.toCU 273 275 2 [xj eH 0 0,xj eH 0 0] 48:=⟨_,_,i4,i4,i4,i4,i4,i4⟩
abbrev abT:cj C.toCU 85 34 1 [xj eH 0 0] 24:=⟨_,_,i4,i4,i4,i4,i4,i4⟩
abbrev afN:cj C.toCU 282 4 1 [xm eS] 1:=⟨_,_,i4,i4,i4,i4,i4,i4⟩
theorem rK.get{h:f8}{q:aB}{s:Sl}{L:List fu}(x:rK.p h q s L){i:Int}(n:Nat)(e:i=n)(b:n<i0 L){K:Sl×Sl->Prop}(d:∀r,jL.p h q r L[n]->K r):
  ∃a:fz,(s.ptr=dB a/\0<=i/\i<((s.len:Nat):Int))/\∃x:Sl×Sl,an h (a.add (i.toNat*2)) 0 [x.1,x.2]/\K x:=by
 obtain⟨rs,c,f,h3⟩:=bL.kD x;exact c.eJ (g:=qv) n e i5 (rs[n]'(by omega)) i4 (d _ (h3 n i5 b))
structure AV (h:f8) (p:fz) (l k v:Sl) (L:List fu) (kn:List Bool) (vs:aM):Prop where
 box:cv h p 326 [l,k,v]
 eqs:dT rK h l L
 known:Rd h k 1 fi kn
 vals:dT aiS h v vs
theorem AV.up{h h':f8}{p:fz}{l k v:Sl}{L:List fu}{kn:List Bool}{vs:aM}(x:AV h p l k v L kn vs)(a:aY (λb=>b<h.size) h h'):AV h' p l k v L kn vs:=
 ⟨x.box.ag a x.box.lt,dT.up x.eqs a,Seq.up x.known a,dT.up x.vals a⟩
theorem UR{kn:List Bool}{c:Int}(b:0<=c)(a:c.toNat<i0 kn):Wl.kn kn c=kn[c.toNat]:=by unfold Wl.kn;rw[qe,qd a];rfl
theorem mR{m:aM}{i:Nat}(h:i<i0 m):aC m i=m[i]:=bx h
theorem jW{α:Type}(f:α->Bool)(l:List α){k:Nat}(a:k<i0 l):(l.take (k+1)).filter f=(l.take k).filter f++if f l[k]then[l[k]]else[]:=by rw[aG _ _ a,zl,zr];cases f l[k]<;>rfl
theorem uu(V:aM)(a:Row)(l:az)(c:Int):cP V a (l++[c])=cR 1 (aC V c.toNat) (cP V a l):=by unfold cP;rw[wC];rfl
theorem XD(a t:Row):cR 1 a t=zh (λx y=>y^^^x) a t:=by unfold cR;congr 1;funext x y;rw[Gf.one_mul]
theorem IH{a t:Row}(c:i0 a=i0 t){k:Nat}(b:k<i0 t:=by omega):(zh (λx y=>y^^^x) (a.take k) (t.take k)++t.drop k).set k (t[k]^^^(a[k]'(by omega)))=zh (λx y=>y^^^x) (a.take (k+1)) (t.take (k+1))++t.drop (k+1):=by
 have d:i0 (zh (λx y=>y^^^x) (a.take k) (t.take k))=k:=i9
 rw[qZ _ _ i5,d,zc,qQ b,zw,aG _ _ b,aG _ _ (show k<i0 a by omega),yz i9];simp
theorem US(p:fz)(l k v:Sl)(L:List fu)(kn:List Bool)(vs:aM)(n:Nat)(h:f8)(u:AV h p l k v L kn vs)(F:i0 kn=n)(G:∀e∈L,∀c∈e.1,0<=c/\c<(n:Int))(S:i0 L<=2^30)(y:∀e∈L,i0 e.1<=2^30):
  ab xt 306 #[xk (dB p)] h λv h'=>(∃i:Int,v=xi xo i/\(0<=i->∃(Q:i.toNat<i0 L),i0 ((L[i.toNat]).1.filter λc=>!Wl.kn kn c)=1))/\Sp h h' []:=by
 refine EP (dB p) ?_;unfold ul;have P:=bL.len u.eqs;refine⟨p,i4,l,u.box.cell0 i4,?_⟩;refine aw (λi:Nat=>(i:Int)) (λi h'=>i<=i0 L/\Sp h h' []) (λi=>i0 L-i) 0 i4 ⟨i5,Sp.refl h⟩ ?_;rintro i H ⟨Q,B⟩;refine ai (λe=>?_) λe=>⟨⟨-1,i4,λV=>i5⟩,B⟩;have g:i<i0 L:=i5
 refine rK.get (dT.up u.eqs B.ag) i i4 g λx J=>?_;refine(Sp.refl H).alloc ac i4 λa T N=>?_;refine N.storeAll ac 0 i4 i4 (qv x) i4 i4 i4 i4 λh3 t=>?_;have w:=up B.ag t.ag;have q:=u.up w;have r:=jL.mono (jL.loc J t.ag) λb M=>q7 M t.ag.1;have z:=t.box 0 i4;refine⟨x.1,z.cell0 i4,?_⟩;have O:=r.1.len;have E:=y _ (qh g);let d:Nat->Nat:=λj=>i0 (((L[i]).1.take j).filter λc=>!Wl.kn kn c);refine aw (λj:Nat=>(((d j:Nat):Int),(j:Int))) (λj h'=>h'=h3/\j<=(L[i]).1.length) (λj=>(L[i]).1.length-j) 0 pb ⟨i4,i5⟩ ?_;rintro j U ⟨rfl,R⟩;dsimp only;have I:d j<=j:=za (qR _ _) i9;refine ai (λK=>?_) (λK=>?_)
 ·have f:j<(L[i]).1.length:=i5
  have D:=G _ (qh g) _ (qh f);refine r.1.bC j i4 f _ i4 ?_;refine⟨p,i4,k,q.box.cell i4,?_⟩;refine q.known.bC (L[i]).1[j].toNat i5 i5 _ i4 ?_;rw[ak ((j:Int)+1),ak _];have o:=UR (kn:=kn) D.1 i5;refine bh (λm=>?_) (λm=>?_)
  ·refine⟨j+1,?_,⟨i4,i5⟩,i5⟩;have:d (j+1)=d j+1:=by simp only[d];rw[jW _ _ f,o,m];simp
   rw[this];rfl
  ·refine⟨j+1,?_,⟨i4,i5⟩,i5⟩;have:d (j+1)=d j:=by simp only[d];rw[jW _ _ f,o,m];simp
   rw[this];rfl
 ·have A:j=(L[i]).1.length:=i5
  subst A;have s:d (L[i]).1.length=i0 ((L[i]).1.filter λc=>!Wl.kn kn c):=by simp only[d];rw[qW]
  rw[s];refine de (λm=>⟨⟨i,i4,λ_=>⟨i5,by exact_mod_cast m⟩⟩,.zip w⟩) λm=>?_;exact⟨i+1,j1,⟨i5,.zip w⟩,i5⟩
theorem QI(p:fz)(l k v:Sl)(L:List fu)(kn:List Bool)(vs:aM)(n w:Nat)(x:Sl×Sl)(e:fu)(h:f8)(hP:AV h p l k v L kn vs)(N:kg n w L kn vs)(V:dT jL h x e)(F:jf n w e)(hw:w<=2^20)(ap:i0 e.1<=2^20):
  ab xt 265 #[xk (dB p),xn #[x.1,x.2]] h λr h'=>∃a b:Sl,r=xn #[a,b]/\Sp h h' [al 3 a 1 aq (fw kn vs e).1,al 5 b 1 aD (fw kn vs e).2]:=by
 refine EO (dB p) x ?_;unfold uk;refine(Sp.refl h).boxed λR h1 H1=>?_;refine H1.alloc ac i4 λX h2 Q=>?_;have P2:=Q.ag;refine⟨x.2,(Q.box 0 i4).cell i4,(fC x.2 e.2 h2 (Seq.up V.2 P2) (by have:=F.len;omega)).mono ?_⟩;rintro vv h3 ⟨d,rfl,R3⟩;have H3:=Q.comp R3;refine⟨d,i4,H3.alloc ac i4 λa5 h4 H4=>?_⟩;refine H4.storeAll ac 3 i4 i4 (qv (⟨eH,0,0⟩,d)) i4 i4 i4 i4 λh5 H5=>?_;have Y:Sp h h5 [ao R 275 (qv x),ao X 275 [xj eH 0 0,xj eH 0 0],al 5 d 1 aD e.2,ao a5 275 (qv (⟨eH,0,0⟩,d)),al 3 ⟨eH,0,0⟩ 1 aq []]:=H5.nil 3 1 aq;refine⟨x.1,(Y.box 0 i4).cell0 i4,?_⟩;have ay:=V.1.len;have ar:=N.klen;have ad:=N.vlen;refine aw (λt:Nat×Sl=>(t.1:Int)) (λt h'=>t.1<=i0 e.1/\Sp h h' [ao R 275 (qv x),ao X 275 [xj eH 0 0,xj eH 0 0],al 5 d 1 aD (cP vs e.2 ((e.1.take t.1).filter λc=>Wl.kn kn c)),ao a5 275 (qv (t.2,d)),al 3 t.2 1 aq ((e.1.take t.1).filter λc=>!Wl.kn kn c)]) (λt=>i0 e.1-t.1) (0,⟨eH,0,0⟩) i4 ⟨jj,by simpa[cP]using Y⟩ ?_;rintro⟨j,o⟩ h7 ⟨hj,q⟩;dsimp only at*;have u:i0 (cP vs e.2 ((e.1.take j).filter λc=>Wl.kn kn c))=w:=kf F.len λc hc=>by
  have E:=qI.1 hc;have J:=zS E.1;exact N.Hi (F.cS c J).1 (F.cS c J).2 E.2
 have ah:i0 ((e.1.take j).filter λc=>!Wl.kn kn c)<=j:=za (qR _ _) i9;refine ai (λe2=>?_) (λe2=>?_)
 ·have f:j<i0 e.1:=i5
  have z:=F.cS _ (qh f);have s:=hP.up q.ag;refine(Seq.up V.1 q.ag).bC j i4 f _ i4 ?_;refine⟨p,i4,k,s.box.cell i4,?_⟩;refine s.known.bC (e.1[j]).toNat i5 i5 _ i4 ?_;have H:=UR (kn:=kn) z.1 i5;refine bh (λB=>?_) (λB=>?_)
  ·rw[<-H]at B;refine⟨o,(q.box 3 i4).cell0 i4,?_⟩;refine q.push ac 4 i4 gm i4 i6 (λ_=>rfl) fN e.1[j] i4 i6 i5 λo' h8 g=>?_;refine g.lE ac 3 i4 i4 [o'] i4 i4 i4 (by simp[qv]) λh9 M=>?_;refine⟨(j+1,o'),js,⟨i7,?_⟩,i7⟩;dsimp only;rw[jW _ _ f,jW _ _ f,B];simp only[Bool.not_false,if_true,zj,if_false,qN];exact M
  ·rw[<-H]at B;have I:=N.Hi z.1 z.2 B;rw[mR i5]at I;refine⟨p,i4,v,s.box.cell i4,?_⟩;obtain⟨vr,T,am,W⟩:=bL.kD hP.vals;have i:(e.1[j]).toNat<i0 vs:=i5
   refine(Seq.up T q.ag).mS (e.1[j]).toNat i5 i5 ?_;have K:=(W (e.1[j]).toNat i5 i).1;have G:=K.len;generalize vr[(e.1[j]).toNat]'(by omega)=y at K G⊢;obtain⟨A,hA⟩:∃A,A=vs[(e.1[j]).toNat]'i:=⟨_,rfl⟩
   obtain⟨D,Z⟩:∃D,D=cP vs e.2 ((e.1.take j).filter λc=>Wl.kn kn c):=⟨_,rfl⟩
   rw[<-hA]at I K G;rw[<-Z]at q u;refine aw (λm:Nat=>(m:Int)) (λm h'=>m<=w/\Sp h h' [ao R 275 (qv x),ao X 275 [xj eH 0 0,xj eH 0 0],al 5 d 1 aD (zh (λx y=>y^^^x) (A.take m) (D.take m)++D.drop m),ao a5 275 (qv (o,d)),al 3 o 1 aq ((e.1.take j).filter λc=>!Wl.kn kn c)]) (λm=>w-m) 0 i4 ⟨i5,o9⟩ ?_;rintro m h8 ⟨hm,g⟩;have U:i0 (zh (λx y=>y^^^x) (A.take m) (D.take m))=m:=i9
   refine ai (λe4=>?_) (λe4=>?_)
   ·have ax:m<w:=i5
    refine(Seq.up K g.ag).bC m i4 i5 _ i4 ?_;refine⟨d,(g.box 3 i4).cell i4,?_⟩;refine(g.seq 2 i4 λ_=>rfl).bC m i4 i9 _ i4 ?_;have S:((zh (λx y=>y^^^x) (A.take m) (D.take m)++D.drop m)[m]'(by simp;omega))=D[m]'(by omega):=by rw[wm i5];simp[U]
    rw[S,oA];refine g.set ac 2 i4 (λ_=>rfl) i4 m i4 i9 (D[m]'(by omega)^^^A[m]'(by omega)) i4 i4 i4 λh9 M=>?_;rw[IH i5]at M;exact⟨m+1,j1,⟨i5,M⟩,i5⟩
   ·have P:m=w:=i5
    subst P;refine⟨(j+1,o),js,⟨i7,?_⟩,i7⟩;dsimp only;rw[jW _ _ f,jW _ _ f,B];simp only[Bool.not_true,if_true,zj,if_false,qN];rw[uu,mR i,<-hA,<-Z,XD];rw[qi i5,qi i5,zf i5,qN]at g;exact g
 ·have O:j=i0 e.1:=i5
  subst O;rw[qW]at q;refine⟨(o,d),(q.box 3 i4).aS _ i4,?_⟩;refine q.storeAll ac 1 i4 i4 (qv (o,d)) i4 i4 i4 i4 λh8 g=>?_;refine⟨(o,d),(g.box 1 i4).aS _ i4,o,d,i4,?_⟩;exact g.cE [4,2]
theorem aa.ajk{B:aB}{c h:f8}{As:List HP}{e k:Nat}{α:Type}{f:α->bc}{s:Sl}{l:List α}(H:aa B c h As)(i:Nat)(m:As[i]?=dB (al e s k f l))(g:∀x,i0 (f x)=k)(d:l≠[]):aa B c h (As.set i (EA (uy k f) s l)):=
 H.gg i m λq ⟨a,b⟩=>⟨a.seq g b,λj=>absurd j d⟩
theorem count_set{l:List Bool}:∀{i:Nat} (h:i<i0 l),l[i]=eS->((l.set i eR).count eS)+1=l.count eS:=by
 induction l with
 |nil=>intro i h;simp at h
 |cons a l ih=>
  intro i h b;cases i with
  |zero=>simp at b;subst b;simp
  |succ i=>
   have:=ih (i:=i) j7 k0;rw[List.set_cons_succ,vP,vP];omega
theorem abU(p:fz)(l k v:Sl)(L:List fu)(n w:Nat)(A h:f8)(W:dT rK A l L)(E:∀e∈L,jf n w e)(hn:n<=64)(Z:i0 L<=2^20)(X:1<=w/\w<=2^20)(y:∀e∈L,i0 e.1<=2^20)
  (H:Sp A h [ao p 326 [l,k,v],al 4 k 1 fi (qg n eS),cm 34 v 1 bs (uy 1 aD) (qg n [])]):
  ab xt 264 #[xk (dB p)] h λr h'=>r=.tuple #[]/\∃kn vs,kg n w L kn vs/\Sp A h' [ao p 326 [l,k,v],al 4 k 1 fi kn,cm 34 v 1 bs (uy 1 aD) vs]:=by
 refine Gr (dB p) ?_;unfold uZ;refine aw (λ_:List Bool×aM=>()) (λt h'=>kg n w L t.1 t.2/\Sp A h' [ao p 326 [l,k,v],al 4 k 1 fi t.1,cm 34 v 1 bs (uy 1 aD) t.2]) (λt=>t.1.count eS) (qg n eS,qg n []) i4 ⟨Yr n w L,H⟩ ?_;rintro⟨kn,vs⟩ J ⟨j,P⟩;dsimp only at*;have F:=j.klen;have T:=j.vlen;have mk:∀{z},Sp A z [ao p 326 [l,k,v],al 4 k 1 fi kn,cm 34 v 1 bs (uy 1 aD) vs]->AV z p l k v L kn vs:=λf=>
  ⟨f.box 0 i4,dT.up W f.ag,f.seq 1 i4 λ_=>rfl,f.PH 2 i4 λ_=>rfl⟩
 refine(US p l k v L kn vs n J (mk P) F (λe N=>(E e N).cS) i5 λe N=>by have:=y e N;omega).mono ?_;rintro _ z ⟨⟨i,rfl,hi⟩,R⟩;refine⟨i,i4,?_⟩;have f:=P.up R.ag;refine ai (λe=>⟨i4,kn,vs,j,f⟩) λe=>?_;have K:0<=i:=Int.not_lt.1 e;obtain⟨B,s⟩:=hi K;have m:=mk f;refine⟨p,i4,l,m.box.cell0 i4,?_⟩;refine rK.get m.eqs i.toNat i5 B λx Y=>?_;have d:=qh B;refine(QI p l k v L kn vs n w x L[i.toNat] z m j Y (E _ d) X.2 (y _ d)).mono ?_;rintro _ h3 ⟨a,b,rfl,U⟩;refine⟨(a,b),i4,?_⟩;obtain⟨c,D⟩:∃c,(fw kn vs L[i.toNat]).1=[c]:=by
  have J:(fw kn vs L[i.toNat]).1.length=1:=s
  match z:(fw kn vs L[i.toNat]).1,J with
  |[c],_=>exact⟨c,i4⟩
 have o:=j.Da (E _ d);have M:=o.cS c (by rw[D];simp);have q:Wl.kn kn c=eS:=Hj j L[i.toNat] c (by rw[D];simp);rw[UR M.1 i5]at q;have O:=f.comp U;rw[D]at O;refine O.alloc ac i4 λa8 h4 S=>?_;refine S.storeAll ac 5 i4 i4 (qv (a,b)) i4 i4 i4 i4 λh5 g=>?_;refine⟨p,i4,k,(g.box 0 i4).cell i4,a,(g.box 5 i4).cell0 i4,?_⟩;have u:=g.seq 3 i4 λ_=>rfl;refine u.bC 0 i4 jj c i4 ?_;refine⟨p,i4,v,(g.box 0 i4).cell i4,a,(g.box 5 i4).cell0 i4,?_⟩;refine u.bC 0 i4 jj c i4 ?_;refine⟨b,(g.box 5 i4).cell i4,?_⟩;refine g.set ac 1 i4 (λ_=>rfl) i4 c.toNat i5 i5 eR i4 i4 i4 λh6 G=>?_;refine⟨⟨(G.box 5 i4).cell i4,(G.box 5 i4).cell0 i4,trivial⟩,?_⟩;have I:(fw kn vs L[i.toNat]).2≠[]:=λhh=>by have:=o.len;rw[hh]at this;simp at this;omega
 have V:=aa.ajk G 4 i4 (λ_=>rfl) I;refine V.ajc ac 2 4 i6 i4 i4 (λ_=>rfl) i4 c.toNat i5 i5 i4 i4 i4 λh8 Q=>⟨trivial,?_⟩
 refine⟨(kn.set c.toNat eR,vs.set c.toNat (fw kn vs L[i.toNat]).2),i4,⟨aaD j E d D,Q.cE [0,1,2]⟩,?_⟩;have:=count_set (l:=kn) (i:=c.toNat) i5 q;dsimp only;omega
theorem Ws(s:Sl)(l:Row)(h:f8)(c:Rd h s 1 aD l)(d:s.len<=s.cap)(b:i0 l<=2^30):
  ab xt 266 #[s] h λv h'=>v=xm (!(l.any (· !=0)))/\h'=h:=by
 refine Nh s ?_;unfold FY;refine(QH s l _ i4 h c d b).mono ?_;rintro _ e ⟨⟨r,rfl,a⟩,rfl⟩;refine⟨r,i4,?_,i4⟩;congr 1;rw[vb];simp only[beq_iff_eq,Bool.not_eq_true',List.any_eq_false,bne_iff_ne,ne_eq,Decidable.not_not];rw[<-a];omega
def Pv(l:az):Prop:=∀i (h:i+1<i0 l),l[i]<l[i+1]
theorem RN(n:Nat)(l:Sl)(L:List fu)(w:Nat)(h:f8)(s:dT rK h l L)(E:∀e∈L,jf n w e/\Pv e.1)(hn:n<=64)(T:i0 L<=2^20)(r:∀e∈L,i0 e.1<=2^20):
  ab xt 263 #[xi xo n,l] h λv h'=>v=xm eR/\Sp h h' []:=by
 refine Pd _ l ?_;unfold HV;have W:=bL.len s;refine bj (ai (λe=>i5) λ_=>ai (λe=>i5) λ_=>?_);refine aw (λi:Nat=>(i:Int)) (λi h'=>i<=i0 L/\Sp h h' []) (λi=>i0 L-i) 0 i4 ⟨i5,Sp.refl h⟩ ?_;rintro i M ⟨hi,u⟩;refine ai (λe=>?_) λe=>⟨i4,u⟩;have d:i<i0 L:=i5
 refine rK.get (dT.up s u.ag) i i4 d λx Q=>?_;refine(Sp.refl M).alloc ac i4 λa h2 U=>?_;refine U.storeAll ac 0 i4 i4 (qv x) i4 i4 i4 i4 λh3 p=>?_;have B:=up u.ag p.ag;have c:=jL.mono (jL.loc Q p.ag) λb S=>q7 S p.ag.1;have f:=p.box 0 i4;refine⟨x.1,f.cell0 i4,?_⟩;have V:=c.1.len;have D:=r _ (qh d);obtain⟨k,q⟩:=E _ (qh d);refine aw (λj:Nat=>(j:Int)) (λj h'=>h'=h3/\j<=(L[i]).1.length) (λj=>(L[i]).1.length-j) 0 i4 ⟨i4,i5⟩ ?_;rintro j G ⟨rfl,hj⟩;refine ai (λR=>?_) (λR=>?_)
 ·have m:j<(L[i]).1.length:=i5
  have X:=k.cS _ (qh m);refine c.1.bC j i4 m _ i4 ?_;refine ai (λe=>i5) λ_=>ai (λe=>i5) λ_=>?_;have F:∃A:Nat,qc xo ((j:Int)+1)=(A:Int)/\(G=G/\A<=(L[i]).1.length)/\(L[i]).1.length-A<(L[i]).1.length-j:=⟨j+1,j1,⟨i4,i5⟩,i5⟩
  refine ai (λI=>?_) λI=>F;refine⟨x.1,f.cell0 i4,?_⟩;rw[ak ((j:Int)-1)];refine c.1.bC (j-1) i5 i5 _ i4 ?_;have H:=q (j-1) i5;have Z:(L[i]).1[j-1+1]'(by omega)=(L[i]).1[j]:=by congr 1;omega
  rw[Z]at H;exact ai (λe=>absurd H i5) λ_=>F
 ·refine⟨x.2,f.cell i4,?_⟩;obtain⟨rs,J,h8,Y⟩:=bL.kD (dT.up s B);have z:=(Y 0 i5 i5).2.len;obtain⟨t,O,y,N,P⟩:=J.eJ (g:=qv) (i:=(0:Int)) 0 rfl i5 (rs[0]'(by omega)) rfl (K:=λy=>y.2.len=w) (by rw[z];exact(E _ (qh (show 0<i0 L by omega))).1.len);refine⟨t,O,y.2,?_,?_⟩
  ·exact N.2.1
  have o:=c.2.len;rw[k.len]at o;refine bQ (λe=>absurd (by rw[o,P]) e) λ_=>?_;exact⟨i+1,j1,⟨i5,.zip B⟩,i5⟩
theorem aa.abV{B:aB}{m h:f8}{As:List HP}{e k:Nat}{α β:Type}{E:jz α β}{f:α->bc}{s:Sl}{n:Nat}{a:α}{b:β}(H:aa B m h As)(i:Nat)(v:As[i]?=dB (al e s k f (qg n a)))(o:∀h,E.p h (λ_=>False) a b):aa B m h (As.set i (cm e s k f E (qg n b))):=
 H.gg i v λq ⟨x,y⟩=>⟨_,λ_=>False,x,λc u=>⟨y c u,λh=>h⟩,λ_ h=>h.elim,jj,λj r l d g=>by
  rw[wg]at d g;split at d
  ·rename_i t;rw[f9 t]at g;cases d;cases g;exact o h
  ·cases d⟩
theorem aa.ajl{B:aB}{g h:f8}{As:List HP}{e n:Nat}{a b:Sl}{l:az}{r:Row}(H:aa B g h As)(i j:Nat)(d:i≠j)(o:As[i]?=dB (al e a 1 aq l))(m:As[j]?=dB (al n b 1 aD r)):aa B g h ((As.set i (EA jL (a,b) (l,r))).set j emp):=
 H.merge i j d o m λp q _ f k=>⟨f.1.seq (λ_=>rfl) λx c=>.inl (f.2 x c),k.1.seq (λ_=>rfl) λx c=>.inr (k.2 x c)⟩
theorem abW(kn:List Bool)(vs:aM)(L:List fu){i:Nat}(a:i<i0 L):bf kn vs (L.take (i+1))=if(fw kn vs L[i]).1.isEmpty then bf kn vs (L.take i)else bf kn vs (L.take i)++[fw kn vs L[i]]:=by unfold bf;rw[aG _ _ a,qU,zl];cases h:(fw kn vs L[i]).1.isEmpty<;>simp[h]
theorem Zn(kn:List Bool)(vs:aM)(L:List fu){i:Nat}(a:i<i0 L):kJ kn vs (L.take (i+1))=(kJ kn vs (L.take i)||((fw kn vs L[i]).1.isEmpty&&(fw kn vs L[i]).2.any (· !=0))):=by unfold kJ;rw[aG _ _ a,qU,yM];simp
theorem Zo{kn:List Bool}{vs:aM}{L:List fu}{i:Nat}(h:kJ kn vs (L.take i)=eR):kJ kn vs L=eR:=by rw[<-qK i L];unfold kJ at*;rw[qU,yM,h];rfl
theorem abX(l:Sl)(L:List fu)(n w:Nat)(h:f8)(D:dT rK h l L)(V:∀e∈L,jf n w e/\Pv e.1)(hn:n<=64)(H:i0 L<=2^20)(hw:1<=w/\w<=2^20)(A:∀e∈L,i0 e.1<=2^20):
  ab xt 216 #[xi xo n,l] h λr h'=>∃kn vs,kg n w L kn vs/\((kJ kn vs L=eR/\r=.tuple #[xj eH 0 0,xj eH 0 0,xj eH 0 0,xi xo 10]/\Sp h h' [])∨
   (kJ kn vs L=eS/\∃k v s:Sl,r=.tuple #[k,v,s,xi xo 0]/\Sp h h' [al 4 k 1 fi kn,cm 34 v 1 bs (uy 1 aD) vs,cm 275 s 2 qv jL (bf kn vs L)])):=by
 refine Ry _ l ?_;unfold Kl;have am:=bL.len D;refine(RN n l L w h D V hn H A).mono ?_;rintro _ h1 ⟨rfl,R1⟩;refine⟨eR,i4,bh (λe=>j3) λ_=>?_⟩;refine bY (λs h'=>∃(p:fz) (k v:Sl),s=dB p/\Sp h h' [ao p 326 [l,k,v],al 4 k 1 fi (qg n eS),cm 34 v 1 bs (uy 1 aD) (qg n [])]) ⟨?_,?_⟩ ?_
 ·refine R1.make ac fi afN i6 eS i4 i4 n n i4 i4 (qk _) i5 λk h2 T X R=>⟨trivial,?_⟩
  refine R.make ac bs abT i6 ⟨eH,0,0⟩ i4 i4 n n i4 i4 (qk _) i5 λv h3 M ad H3=>⟨trivial,?_⟩
  refine H3.boxed λp Y I=>⟨trivial,p,k,v,i4,?_⟩
  exact(aa.abV (E:=uy 1 aD) (b:=[]) I 1 i4 λh=>⟨Seq.nil _ _ _ _ _ _,λ_=>rfl⟩).cE [2,0,1]
 ·refine R1.make ac bs abT i6 ⟨eH,0,0⟩ i4 i4 n n i4 i4 (qk _) i5 λv h3 M ad H3=>⟨trivial,?_⟩
  refine H3.make ac fi afN i6 eS i4 i4 n n i4 i4 (qk _) i5 λk h2 T X R=>⟨trivial,?_⟩
  refine R.boxed λp Y I=>⟨trivial,p,k,v,i4,?_⟩
  exact(aa.abV (E:=uy 1 aD) (b:=[]) I 0 i4 λh=>⟨Seq.nil _ _ _ _ _ _,λ_=>rfl⟩).cE [2,1,0]
 rintro s Y ⟨p,k,v,rfl,I⟩;refine(abU p l k v L n w h Y D (λe he=>(V e he).1) hn H hw A I).mono ?_;rintro _ h5 ⟨rfl,kn,vs,J,H5⟩;refine⟨(),i4,?_⟩;refine aw (λt:Nat×Sl=>(t.2,(t.1:Int))) (λt h'=>t.1<=i0 L/\kJ kn vs (L.take t.1)=eS/\Sp h h' [ao p 326 [l,k,v],al 4 k 1 fi kn,cm 34 v 1 bs (uy 1 aD) vs,cm 275 t.2 2 qv jL (bf kn vs (L.take t.1))]) (λt=>i0 L-t.1) (0,⟨eH,0,0⟩) i4 ⟨jj,i4,H5.KL 275 2 qv jL⟩ ?_;rintro⟨i,o⟩ h6 ⟨hi,y,B⟩;dsimp only at*;refine ai (λe=>?_) (λe=>?_)
 ·have j:i<i0 L:=i5
  obtain⟨rs,q1,q2,q3⟩:=bL.kD D;have hx:=q3 i i5 j;refine(Seq.up q1 B.ag).eJ (g:=qv) i i4 i5 (rs[i]'(by omega)) i4 ?_;generalize rs[i]'(by omega)=x at hx⊢;refine B.alloc ac i4 λa h7 H7=>?_;refine H7.storeAll ac 4 i4 i4 (qv x) i4 i4 i4 i4 λh8 z=>?_;refine⟨x,(z.box 4 i4).aS _ i4,?_⟩;have O:AV h8 p l k v L kn vs:=⟨z.box 0 i4,dT.up D z.ag,z.seq 1 i4 λ_=>rfl,z.PH 2 i4 λ_=>rfl⟩
  obtain⟨G,-⟩:=V _ (qh j);have W:dT jL h8 x L[i]:=dT.up hx z.ag;refine(QI p l k v L kn vs n w x L[i] h8 O J W G hw.2 (A _ (qh j))).mono ?_;rintro _ h9 ⟨c,d,rfl,R9⟩;refine⟨(c,d),i4,?_⟩;have H9:=z.comp R9;refine H9.alloc ac i4 λa2 ax P=>?_;refine P.storeAll ac 7 i4 i4 (qv (c,d)) i4 i4 i4 i4 λS f=>?_;refine⟨c,(f.box 7 i4).cell0 i4,?_⟩;have u:=(f.own 5 i4).len;have ar:i0 (bf kn vs (L.take i))<=i0 L:=by unfold bf;refine za (qR _ _) ?_;simp;omega
  have q:=abW kn vs L j;have m:=Zn kn vs L j;refine ai (λe2=>?_) (λe2=>?_)
  ·have N:(fw kn vs L[i]).1.isEmpty=eS:=by
    cases hh:(fw kn vs L[i]).1 with
    |nil=>rw[hh]at u;simp at u;omega
    |cons a l=>rfl
   rw[N]at q m;refine⟨(c,d),(f.box 7 i4).aS _ i4,?_⟩;have Z:=aa.ajl f 5 6 i6 i4 i4;refine Z.wd ac 3 5 i6 i4 i4 eQ i4 i6 (λ_=>rfl) abS i4 i6 i5 λo' ah K=>?_;refine⟨(i+1,o'),js,⟨i7,by dsimp only;rw[m,y];rfl,?_⟩,i7⟩;dsimp only;rw[q];exact K.cE [0,1,2,3]
  ·have U:(fw kn vs L[i]).1.isEmpty=eR:=by
    cases hh:(fw kn vs L[i]).1 with
    |nil=>rfl
    |cons a l=>rw[hh]at u;simp at u;omega
   rw[U]at q m;refine⟨d,(f.box 7 i4).cell i4,?_⟩;refine(Ws d _ S (f.seq 6 i4 λ_=>rfl) (f.own 6 i4).cap (by have:=(J.Da G).len;omega)).mono ?_;rintro _ ap ⟨rfl,rfl⟩;refine⟨_,i4,bh (λF=>?_) λF=>?_⟩
   ·refine⟨kn,vs,J,.inl ⟨Zo (i:=i+1) ?_,i4,f.cE []⟩⟩;rw[m];simp at F;simp[F]
   ·refine⟨(i+1,o),js,⟨i7,?_,?_⟩,i7⟩
    ·dsimp only;rw[m,y];simp at F;simp;exact F
    ·dsimp only;rw[q];exact f.cE [0,1,2,3]
 ·have Q:i=i0 L:=i5
  subst Q;rw[qW]at B y;refine⟨p,i4,k,(B.box 0 i4).cell i4,p,i4,v,(B.box 0 i4).cell i4,kn,vs,J,.inr ⟨y,k,v,o,i4,B.cE [1,2,3]⟩⟩
def lC(pool:List (Sl×Row)):HP:=⟨λh q=>∀x∈pool,Seq h q x.1 1 aD x.2,λa c x b=>(a x b).ag c,λa d x b=>(a x b).mono d⟩
theorem _root_.Go.Vc.aa.pool{B:aB}{c h:f8}{As:List HP}(H:aa B c h As)(i j:Nat)(b:i≠j){pool:List (Sl×Row)}{r:Sl}{l:Row}(g:As[i]?=dB (lC pool))(d:As[j]?=dB (ux r 1 aD l)):aa B c h ((As.set i (lC ((r,l)::pool))).set j emp):=
 H.merge i j b g d λk m _ e f x a=>by
  rcases qX.1 a with rfl|a
  ·exact Seq.mono f λ_ h=>.inr h
  ·exact(e x a).mono λ_ h=>.inl h
theorem _root_.Go.Vc.aa.NK{B:aB}{a h:f8}{As:List HP}(H:aa B a h As)(i:Nat){pool:List (Sl×Row)}(c:As[i]?=dB (lC pool)){r:Sl}{l:Row}(b:(r,l)∈pool):Rd h r 1 aD l:=(H.at i c) _ b
theorem _root_.Go.Vc.aa.aes{B:aB}{f h:f8}{As:List HP}(H:aa B f h As)(i j:Nat)(d:i≠j){pool:List (Sl×Row)}{s:Sl}{rs:List Sl}{c:aM}(v:As[i]?=dB (al 34 s 1 bs rs))(g:As[j]?=dB (lC pool))
  (m:i0 rs=i0 c) (u:∀(k:Nat) r l,rs[k]?=dB r->c[k]?=dB l->(r,l)∈pool):aa B f h ((As.set i (fQ 34 s 1 aD c)).set j emp):=
 H.merge i j d v g λw t n a q=>⟨rs,t,a.1,λb e=>⟨.inl (a.2 b e),n b (a.2 b e)⟩,λ_ h=>.inr h,m,λk r l o p=>q _ (u k r l o p)⟩
def iv(pool:List (Sl×Row))(g:Row->Row)(rs:List Sl)(m:aM):Prop:=i0 rs=i0 m/\∀(i:Nat) r l,rs[i]?=dB r->m[i]?=dB l->(r,g l)∈pool
theorem iv.get{pool:List (Sl×Row)}{g:Row->Row}{rs:List Sl}{m:aM}(h:iv pool g rs m){i:Nat}(a:i<i0 m):(rs[i]'(by rw[h.1];exact a),g m[i])∈pool:=
 h.2 i _ _ (qd _) (qd _)
theorem iv.mono{pool a:List (Sl×Row)}{g:Row->Row}{rs:List Sl}{m:aM}(h:iv pool g rs m)(b:∀x∈pool,x∈a):iv a g rs m:=⟨h.1,λi r l c d=>b _ (h.2 i r l c d)⟩
theorem iv.set{pool:List (Sl×Row)}{g:Row->Row}{rs:List Sl}{m:aM}(h:iv pool g rs m)(i:Nat){r:Sl}{l:Row}(e:(r,g l)∈pool):iv pool g (rs.set i r) (m.set i l):=by
 refine⟨by simp[h.1],λk f l' a b=>?_⟩;rw[List.getElem?_set]at a b;by_cases c:i=k
 ·subst c;rw[f9 rfl]at a b;split at a
  ·rename_i d;rw[f9 (by rw[<-h.1];exact d)]at b;cases a;cases b;exact e
  ·cases a
 ·rw[g0 c]at a b;exact h.2 k f l' a b
theorem _root_.Go.Vc.aa.Fa{B:aB}{m h:f8}{As:List HP}(H:aa B m h As)(i j:Nat){pool:List (Sl×Row)}{e:Nat}{s:Sl}{rs:List Sl}{a:aM}(n:As[i]?=dB (al e s 1 bs rs))(d:As[j]?=dB (lC pool))
  (c:iv pool id rs a):iH h (λb=>b<h.size) s 1 aD a rs:=⟨H.seq i n λ_=>rfl,c.1,λk r l f g=>H.NK j d (c.2 k r l f g)⟩
theorem II{B:aB}{r h:f8}{As:List HP}(s f:fz)(t:UInt8)(g a:Sl)(b c:Row)(H:aa B r h (al 5 a 1 aD c::As))(I:St B r As λh=>f7 h s=dB (xk (dB f))/\fI h f/\Rd h g 1 aD b)
  (J:i0 b=i0 c) (T:i0 b<=2^30) {K:f8->Prop} (N:∀h',aa B r h' (al 5 a 1 aD (cR t b c)::As)->K h'):
  aJ (σ:=Int) (λd L i=>
 Br (decide (d<((g.len:Nat):Int)))
 (∃E:fz,(g.ptr=dB E/\0<=d/\d<((g.len:Nat):Int))/\
 ∃G:Int,f7 i (E.add (d.toNat*1))=dB (xi xp G)/\
 ∃D:fz,(a.ptr=dB D/\0<=d/\d<((a.len:Nat):Int))/\
 ∃u:Int,f7 i (D.add (d.toNat*1))=dB (xi xp u)/\
 ∃o:fz,(dB s=dB o)/\
 ∃q:aO,f7 i o=dB (.pointer q)/\
 ae xt 280 #[(.pointer q),(xi xp (t.toNat:Int)),(xi xp G)] (.one (.sc (.int .u8))) i λw z=>
 (av.ok [(D.add (d.toNat*1),(xi xp u))] z)/\
 ∃j:fz,(a.ptr=dB j/\0<=d/\d<((a.len:Nat):Int))/\
 af xt (qf 5 (xk (dB (j.add (d.toNat*1)))) (xi xp (qc xp ((qF (ql xp) u^^^(qF (ql xp) w)).toNat:Nat)))) z λ_ h3=>
 (av.ok [] h3)/\
 L (qc xo (d+(1:Int))) h3) (K i)) (0:Int) h:=by
 have O:g.len=i0 b:=(I.at [al 5 a 1 aD c] H).2.2.len;refine aw (λk:Nat=>(k:Int)) (λk h'=>k<=i0 b/\aa B r h' (al 5 a 1 aD (zh (λx y=>y^^^Gf.mul t x) (b.take k) (c.take k)++c.drop k)::As)) (λk=>i0 b-k) 0 i4 ⟨i5,ln⟩ ?_;rintro k i ⟨Q,p⟩;obtain⟨M,R,S⟩:=I.at [_] p;refine ai (λe=>?_) (λe=>?_)
 ·have A:k<i0 b:=i5
  have l:i0 (zh (λx y=>y^^^Gf.mul t x) (b.take k) (c.take k))=k:=i9
  have P:i0 (zh (λx y=>y^^^Gf.mul t x) (b.take k) (c.take k)++c.drop k)=i0 c:=by rw[qy,l,ze];omega
  refine S.bC k i4 A _ i4 ?_;have n:(zh (λx y=>y^^^Gf.mul t x) (b.take k) (c.take k)++c.drop k)[k]'(by omega)=c[k]:=by rw[wm i5];simp[l]
  refine(p.seq 0 i4 λ_=>rfl).RW k i4 i5 _ i4 λax m=>?_;rw[n]at m⊢;refine⟨s,i4,dB f,M,(Lz f t b[k] i R).mono ?_⟩;rintro v z ⟨rfl,rfl⟩;refine⟨_,i4,⟨m,trivial⟩,?_⟩;rw[oA];refine p.set ac 0 i4 (λ_=>rfl) i4 k i4 i5 _ i4 i4 i4 λh3 F=>⟨trivial,?_⟩
  rw[zw,AM J i5]at F;exact⟨k+1,j1,⟨i5,F⟩,i5⟩
 ·have:k=i0 b:=i5
  subst this;rw[qi (qk _),qi i5,zf i5,qN]at p;exact N i p
def gC(f:fz)(p:Int×Int×Int)(v r a d b c e:Sl):bc:=[xk (dB f),xi xo p.1,xi xo p.2.1,xi xo p.2.2,v,r,a,d,b,c,e]
structure DT (h:f8) (s f:fz) (wa mo:Sl) (wr mr:List Sl) (W M:aM):Prop where
 fld:f7 h s=dB (xk (dB f))
 way:f7 h (s.add 9)=dB (xj wa.ptr wa.len wa.cap)
 more:f7 h (s.add 10)=dB (xj mo.ptr mo.len mo.cap)
 field:fI h f
 rW:iH h (λb=>b<h.size) wa 1 aD W wr
 rM:iH h (λb=>b<h.size) mo 1 aD M mr
theorem DT.of{h:f8}{s f:fz}{p:Int×Int×Int}{v r k n m c a:Sl}{e g:List Sl}{W M:aM}(d:cv h s 281 (gC f p v r k n m c a))(i:fI h f)(j:iH h (λb=>b<h.size) c 1 aD W e)(l:iH h (λb=>b<h.size) a 1 aD M g):DT h s f c a e g W M:=
 ⟨d.cell0 i4,d.cell i4,d.cell i4,i,j,l⟩
theorem IJ{B:aB}{j h:f8}{As:List HP}(s f:fz)(t:UInt8)(c:Int)(a more p k:Sl)(w0 d:Row)(m u:List Sl)(W M:aM)(H:aa B j h (al 5 a 1 aD w0::al 5 more 1 aD d::As))(g:St B j As λh=>DT h s f p k m u W M)
  (A:0<=c) (o:c.toNat<i0 W) (n:c.toNat<i0 M) (r:i0 (aC W c.toNat)=i0 w0) (x:i0 (aC M c.toNat)=i0 d) (D:i0 w0<=2^30) (E:i0 d<=2^30):
  ab xt 272 #[xk (dB s),xi xp t.toNat,xi xo c,a,more] h λv h'=>v=.tuple #[]/\aa B j h' (al 5 a 1 aD (cR t (aC W c.toNat) w0)::al 5 more 1 aD (cR t (aC M c.toNat) d)::As):=by
 refine DC (dB s) _ c a more ?_;unfold si;have S:=g.at [_,_] H;refine⟨s,i4,p,S.way,?_⟩;rw[mR o]at r⊢;rw[mR n]at x⊢;have q:=S.rW;have z:=q.len;refine q.top.mS c.toNat i5 i5 ?_;refine II s f t (m[c.toNat]'(by omega)) a (W[c.toNat]) w0 H (St.mk' λh' i=>?_) r i5 λh3 e=>?_
 ·have b:=g.at [_] i;exact⟨b.fld,b.field,b.rW.row _ _ _ (qd _) (qd o)⟩
 have y:=g.at [_,_] e;refine⟨s,i4,k,y.more,?_⟩;have w:=y.rM;have l:=w.len;refine w.top.mS c.toNat i5 i5 ?_;refine II s f t (u[c.toNat]'(by omega)) more (M[c.toNat]) d e.oh (St.mk' λh' i=>?_) x i5 λh3 e=>⟨i4,e.oh⟩
 ·have b:=g.at [_] i;exact⟨b.fld,b.field,b.rM.row _ _ _ (qd _) (qd n)⟩
def fJ:az->Bool
 |[]=>eR
 |[_]=>eR
 |a::b::r=>decide (a<b)&&fJ (b::r)
theorem NL:∀(l:az) (a b:Int),fJ (l++[a,b])=(fJ (l++[a])&&decide (a<b))
 |[],a,b=>by simp[fJ]
 |[c],a,b=>by simp[fJ]
 |c::d::r,a,b=>by
  have:=NL (d::r) a b;simp only[zy]at this⊢;simp only[fJ,this,Bool.and_assoc]
theorem abY{l r:az}(h:fJ l=eS):fJ (l++r)=eS:=by
 induction l with
 |nil=>simp[fJ]at h
 |cons a t ih=>
  cases t with
  |nil=>simp[fJ]at h
  |cons b t=>
   simp only[fJ,ve]at h;simp only[zy,fJ,ve];rcases h with h|h
   ·exact .inl h
   ·exact .inr (ih h)
theorem aet(l:az)(k:Nat)(h:k+1<i0 l):l.take (k+2)=l.take k++[l[k],l[k+1]]:=by have a:l.take (k+2)=l.take (k+1)++[l[k+1]]:=aG l (k+1) h;have b:=aG l k;rw[a,b,qq];rfl
def fK(n:Int)(r:az):Bool:=r.all (λc=>decide (0<=c/\c<n))&&fJ r
theorem abZ{n:Int}{l r:az}(h:fK n l=eS):fK n (l++r)=eS:=by
 simp only[fK,ve]at*;rcases h with h|h
 ·left;rw[yL,h];rfl
 ·right;exact abY h
theorem Zp{n:Int}{r:az}(h:0<i0 r):fK n (r.take 1)=decide (0<=r[0]/\r[0]<n):=by
 cases r with
 |nil=>simp at h
 |cons a t=>simp[fK,fJ]
theorem Zq{n:Int}{r:az}{k:Nat}(h:k+1<i0 r):fK n (r.take (k+2))=(fK n (r.take (k+1))&&decide (0<=r[k+1]/\r[k+1]<n)&&decide (r[k]<r[k+1])):=by
 have a:r.take (k+2)=r.take (k+1)++[r[k+1]]:=aG r (k+1) h;have b:fJ (r.take (k+2))=(fJ (r.take (k+1))&&decide (r[k]<r[k+1])):=by rw[aet r k h,NL,aG r k]
 simp only[fK,b];rw[a,yL];simp only[List.all_cons,List.all_nil,Bool.and_true]
 cases(r.take (k+1)).all λc=>decide (0<=c/\c<n)<;>cases fJ (r.take (k+1))<;>cases decide (0<=r[k+1]/\r[k+1]<n)<;>simp
theorem AW{n:Int}{r:az}{k:Nat}(h:fK n (r.take k)=eS):fK n r=eS:=by rw[<-qK k r];exact abZ h
theorem Zr{n:Int}{r:az}{k:Nat}(c:k<i0 r)(h:fK n (r.take k)=eR):
  (r[k]<0->fK n r=eS)/\(n<=r[k]->fK n r=eS)/\(∀(h0:0<k),r[k]<=r[k-1]->fK n r=eS)/\
  (0<=r[k]->r[k]<n->(∀h0:0<k,r[k-1]<r[k])->fK n (r.take (k+1))=eR):=by
 cases k with
 |zero=>
  have e:=Zp (n:=n) c;refine⟨λa=>AW (k:=1) ?_,λa=>AW (k:=1) ?_,λh0=>i5,λa b _=>?_⟩
  ·rw[e,hZ i5]
  ·rw[e,hZ i5]
  ·rw[e,g9 ⟨a,b⟩]
 |succ k=>
  have e:=Zq (n:=n) c;refine⟨λa=>AW (k:=k+2) ?_,λa=>AW (k:=k+2) ?_,λh0 a=>AW (k:=k+2) ?_,λa b h3=>?_⟩
  ·rw[e,hZ (p:=0<=r[k+1]/\r[k+1]<n) i5];simp
  ·rw[e,hZ (p:=0<=r[k+1]/\r[k+1]<n) i5];simp
  ·rw[e,hZ (p:=r[k]<r[k+1]) j9];simp
  ·have d:r[k]<r[k+1]:=by simpa using h3 i5
   rw[e,h,g9 (p:=0<=r[k+1]/\r[k+1]<n) ⟨a,b⟩,g9 d];rfl
def ka(n:Int)(a:bV):Bool:=decide (0<=n/\n<=64)&&a.all (fK n)
theorem aeu{α:Type}{f:α->Bool}{l:List α}{k:Nat}(a:k<i0 l)(h:(l.take k).all f=eR):(l.take (k+1)).all f=f l[k]:=by rw[aG _ _ a,yL,h];simp
theorem air{α:Type}{f:α->Bool}{l:List α}{k:Nat}(a:k<i0 l)(h:f l[k]=eS):l.all f=eS:=by rw[List.all_eq_false];exact⟨l[k],qh a,sr⟩
theorem Pw{p:aB}(n:Int)(a:Sl)(b:bV)(rs:List Sl)(h:f8)(y:iH h p a 1 aq b rs)(H:i0 b<=2^40)(s:∀l∈b,i0 l<=2^40):
  ab xt 307 #[xi xo n,a] h λv h'=>v=xm (ka n b)/\h'=h:=by
 refine Nj n a ?_;unfold FZ;have D:=y.Ss;refine bY (λ_ h'=>h'=h/\0<=n/\n<=64) ?_ ?_
 ·refine ai (λj=>⟨?_,i4⟩) (λj=>ai (λf=>⟨?_,i4⟩) λf=>⟨i4,i5,i5⟩)
  ·rw[ka,hZ i5];rfl
  ·rw[ka,hZ i5];rfl
 ·rintro _ h' ⟨rfl,q,u⟩;have x:ka n b=b.all (fK n):=by rw[ka,g9 ⟨q,u⟩];rfl
  refine aw (λk:Nat=>(k:Int)) (λk h0=>h0=h'/\k<=i0 b/\(b.take k).all (fK n)=eR) (λk=>i0 b-k) 0 i4 ⟨i4,i5,jj⟩ ?_;rintro i h0 ⟨rfl,J,c⟩;refine ai (λw=>?_) (λo=>?_)
  ·have e:i<i0 b:=i5
   refine y.get i i4 e λr m _=>?_;have B:=m.len;have F:=s _ (qh e);have d:fK n b[i]=eS->ka n b=eS:=λE=>by rw[x];exact air e E
   refine aw (λk:Nat=>(k:Int)) (λk f=>f=h0/\k<=b[i].length/\fK n (b[i].take k)=eR) (λk=>b[i].length-k) 0 i4 ⟨i4,i5,by simp[fK,fJ]⟩ ?_;rintro k f ⟨rfl,I,t⟩;refine ai (λw=>?_) (λo=>?_)
   ·have g:k<b[i].length:=i5
    obtain⟨n1,n2,G,A⟩:=Zr g t;refine m.bC k i4 g _ i4 ?_;refine ai (λj=>⟨by rw[d (n1 j)],i4⟩) λj=>?_;refine ai (λf=>⟨by rw[d (n2 f)],i4⟩) λf=>?_;rw[ak (k+1),ak (k-1)];refine ai (λh3=>?_) (λh3=>?_)
    ·refine m.bC (k-1) i5 i5 _ i4 ?_;refine ai (λz=>⟨by rw[d (G i5 z)],i4⟩) λz=>?_;exact⟨k+1,jj,⟨i4,i5,A i5 i5 λ_=>i5⟩,i5⟩
    ·exact⟨k+1,jj,⟨i4,i5,A i5 i5 λ_=>i5⟩,i5⟩
   ·rw[qi i5]at t;rw[ak (i+1)];exact⟨i+1,jj,⟨i4,i5,by rw[aeu e c,t]⟩,i5⟩
  ·rw[qi i5]at c;exact⟨by rw[x,c],i4⟩
theorem NM{p:aB}(a:Sl)(b:List Bool)(x:Bool)(h:f8)(i:Seq h p a 1 fi b)(n:i0 b<=2^40):
  ab xt 324 #[a,xm x] h λv h'=>∃r:Int,v=xi xo r/\(0<=r↔x∈b)/\h'=h:=by
 refine uD a x ?_;unfold nt;have l:=i.len;refine aw (λk:Nat=>(k:Int)) (λk h'=>h'=h/\k<=i0 b/\x∉b.take k) (λk=>i0 b-k) 0 i4 ⟨i4,i5,jj⟩ ?_;rintro k h' ⟨rfl,o,f⟩;refine ai (λm=>?_) (λj=>?_)
 ·have c:k<i0 b:=i5
  refine i.bC k i4 c _ i4 ?_;refine bD (λg=>⟨_,i4,⟨λ_=>?_,λ_=>i5⟩,i4⟩) (λd=>?_)
  ·rw[eq_of_beq g];exact qh c
  ·rw[ak _];refine⟨k+1,jj,⟨i4,i5,?_⟩,i5⟩;rw[aG _ _ c];simp only[qD,qx,not_or];exact⟨f,λe=>by rw[e]at d;simp at d⟩
 ·rw[qi i5]at f;exact⟨_,i4,⟨λh=>i5,λh=>absurd h f⟩,i4⟩
theorem IK{p:aB}(a:Sl)(b:List Bool)(x:Bool)(h:f8)(d:Seq h p a 1 fi b)(e:i0 b<=2^40):
  ab xt 308 #[a,xm x] h λv h'=>v=xm (decide (x∈b))/\h'=h:=by
 refine rQ a x ?_;unfold md;refine(NM a b x h d e).mono ?_;rintro v h' ⟨r,rfl,c,rfl⟩;refine⟨r,i4,?_,i4⟩;exact congrArg Value.bool (decide_eq_decide.2 c)
theorem Wt{α:Type}{f:α->Bool}{l:List α}{k:Nat}(a:k<i0 l):(l.take (k+1)).filter f=if f l[k]then(l.take k).filter f++[l[k]]else(l.take k).filter f:=by rw[aG _ _ a,zl];by_cases h:f l[k]=eR<;>simp[h]
theorem NN{p q:aB}(i:fz)(o r:Sl)(op:List Bool)(row:az)(h:f8)(n:f7 h (i.add 1)=dB (xj o.ptr o.len o.cap))(x:Seq h p o 1 fi op)(m:Seq h q r 1 aq row)
  (j:∀c∈row,0<=c/\c<i0 op) (y:i0 row<=2^40):
  ab xt 325 #[xk (dB i),r] h λv h'=>
   v=.tuple #[xi xo ((db op row).getLast?.getD 0),xm (i0 (db op row)==1)]/\h'=h:=by
 refine AH (dB i) r ?_;unfold oz;have u:=m.len;refine aw (λk:Nat=>((db op (row.take k)).getLast?.getD 0,(i0 (db op (row.take k)):Int),(k:Int))) (λk h'=>h'=h/\k<=i0 row) (λk=>i0 row-k) 0 i4 ⟨i4,i5⟩ ?_;rintro k h' ⟨rfl,A⟩;dsimp only;refine ai (λw=>?_) (λt=>?_)
 ·have d:k<i0 row:=i5
  have z:=j _ (qh d);refine m.bC k i4 d _ i4 ?_;refine⟨i,i4,o,n,?_⟩;have b:row[k].toNat<i0 op:=i5
  refine x.bC row[k].toNat i5 b _ i4 ?_;have a:kp op row[k]=op[row[k].toNat]:=by simp[kp,qe,qd b]
  have g:=Wt (f:=kp op) d;have s:i0 (db op (row.take k))<=i0 row:=za (qR _ _) o8;rw[ak (k+1),ak _];refine bD (λl=>?_) (λl=>?_)
  ·refine⟨k+1,?_,⟨i4,i5⟩,i5⟩;have e:db op (row.take (k+1))=db op (row.take k)++[row[k]]:=by rw[db,g,a,l];rfl
   simp[e]
  ·refine⟨k+1,?_,⟨i4,i5⟩,i5⟩;have e:db op (row.take (k+1))=db op (row.take k):=by rw[db,g,a,l];rfl
   simp[e]
 ·have e:row.take k=row:=qi i5;refine⟨?_,i4⟩;simp only[e];congr 4;congr 1;rw[vb];simp;omega
structure Ce (h:f8) (p:aB) (a:fz) (l o u:Sl) (rows:bV) (rs:List Sl) (op us:List Bool):Prop where
 c0:f7 h a=dB (xj l.ptr l.len l.cap)
 c1:f7 h (a.add 1)=dB (xj o.ptr o.len o.cap)
 c2:f7 h (a.add 2)=dB (xj u.ptr u.len u.cap)
 fP:p a.block
 sRows:iH h p l 1 aq rows rs
 sOp:Seq h p o 1 fi op
 sUs:Seq h p u 1 fi us
 ulen:i0 us=i0 rows
 cS:∀r∈rows,∀c∈r,0<=c/\c<i0 op
 short:∀r∈rows,i0 r<=64
theorem Ce.ag{h h':f8}{p:aB}{a:fz}{l o u:Sl}{rows:bV}{rs:List Sl}{op us:List Bool}(c:Ce h p a l o u rows rs op us)(k:aY p h h'):Ce h' p a l o u rows rs op us:=by
 have b:∀n,(a.add n).block=a.block:=λn=>by unfold Addr.add;split<;>rfl
 exact⟨k.cell c.fP c.c0,k.cell (by rw[b];exact c.fP) c.c1,k.cell (by rw[b];exact c.fP) c.c2,c.fP,c.sRows.ag k,c.sOp.ag k,c.sUs.ag k,c.ulen,c.cS,c.short⟩
theorem RO{p:aB}(a:fz)(l o u:Sl)(rows:bV)(rs:List Sl)(op us:List Bool)(h:f8)(y:Ce h p a l o u rows rs op us)(M:i0 rows<=2^40):
  ab xt 309 #[xk (dB a)] h λv h'=>aY (λ_=>True) h h'/\
   v=match mW rows op us with
    |some i=>.tuple #[xn #[xi xo i,xi xo (fo rows op i)],xm eR]
    |none=>.tuple #[xn #[xi xo 0,xi xo 0],xm eS]:=by
 refine CD (dB a) ?_;unfold rv;refine Bx ac i4 λb H O q c L=>?_;have f:=y.ag (c.mono λ_ _ _=>trivial);refine⟨a,i4,l,f.c0,?_⟩;have J:=y.sRows.Ss;refine aw (λk:Nat=>(k:Int)) (λk h'=>h'=H/\k<=i0 rows/\∀j,j<k->mV rows op us j=eS) (λk=>i0 rows-k) 0 i4 ⟨i4,i5,λj n=>i5⟩ ?_;rintro k h' ⟨rfl,N,B⟩;refine ai (λK=>?_) (λG=>?_)
 ·have e:k<i0 rows:=i5
  refine f.sRows.get k i4 e λr F _=>?_;refine⟨a,i4,u,f.c2,?_⟩;refine f.sUs.bC k i4 (by rw[y.ulen];exact e) _ i4 ?_;have E:us.getD k eS=us[k]'(by rw[y.ulen];exact e):=by rw[qe,qd];rfl
  have s:rows.getD k []=rows[k]:=by rw[qe,qd e];rfl
  rw[ak _];refine bD (λx=>?_) (λx=>?_)
  ·refine⟨k+1,jj,⟨i4,i5,λj n=>?_⟩,i5⟩;rcases zo.1 n with n|rfl
   ·exact B j n
   ·simp only[mV,E,x];rfl
  ·refine(NN a o r op rows[k] h' f.c1 f.sOp F (y.cS _ (qh e)) (za (y.short _ (qh e)) i5)).mono ?_;rintro v P ⟨rfl,rfl⟩;refine⟨(_,_),i4,?_⟩;have m:mV rows op us k=(i0 (db op rows[k])==1):=by simp only[mV,E,x,s];rfl
   refine bD (λw=>?_) (λw=>?_)
   ·have g:mV rows op us k=eR:=m.trans w;refine Ed ac q i4 _ i4 i4 i4 (qk _) λh3 d t z=>?_;refine⟨(_,_),d.aS _ i4,c.then t (λI D _=>i5),?_⟩;have A:fo rows op k=(db op rows[k]).getLast?.getD 0:=by unfold fo;rw[s]
    rw[mW,aaF e B g];show _=Value.tuple #[xn #[xi xo k,xi xo (fo rows op k)],xm eR];rw[A];rfl
   ·have g:mV rows op us k=eS:=m.trans w;refine⟨k+1,jj,⟨i4,i5,λj n=>?_⟩,i5⟩;rcases zo.1 n with n|rfl
    ·exact B j n
    ·exact g
 ·refine Ed ac q i4 _ i4 i4 i4 (qk _) λh3 d t z=>?_;refine⟨(_,_),d.aS _ i4,c.then t (λI D _=>i5),?_⟩;rw[mW,aaE λj n=>B j i5]
theorem LG{l:List Bool}{i:Nat}(h:i<i0 l):l.getD i eS=l[i]:=by rw[qe,qd h];rfl
theorem XE(op:List Bool)(a:az):∀k,-1<=ja op a k/\ja op a k<k
 |0=>by simp[ja]
 |k+1=>by
  have:=XE op a k;unfold ja;split<;>omega
theorem RP{p:aB}(a:fz)(l o u:Sl)(rows:bV)(rs:List Sl)(op us:List Bool)(h:f8)(n:Ce h p a l o u rows rs op us)(hs:i0 rows<=2^30)(a2:i0 op<=2^30):
  ab xt 310 #[xk (dB a)] h λv h'=>aY (λ_=>True) h h'/\v=xi xo (hO rows op us):=by
 refine CE (dB a) ?_;unfold rx;refine⟨a,i4,o,n.c1,?_⟩;have a3:=n.sOp.len;refine Go.Vc.run_make (f:=aq) ac ⟨_,_,i4,i4,i4,i4,i4,i4⟩ i6 0 i4 i4 op.length op.length i5 i5 (qk _) i5 λs h1 G S a5 q a6=>?_;have V:=n.ag (q.mono λ_ _ _=>trivial);refine⟨a,i4,l,V.c0,?_⟩;have a1:=n.sRows.Ss;have A:∀b,s.on b->b=h.size:=by rintro b ⟨o',P⟩;rw[S]at P;cases P;rfl
 have ax:∀k,i0 ((λ_ r=>r:Nat->az->az) k (rows.getD k []))<=64:=λk=>by
  show(rows.getD k []).length<=64;by_cases T:k<i0 rows
  ·rw[qe,qd T];exact n.short _ (qh T)
  ·rw[qe,List.getElem?_eq_none i5];simp
 let d:=lJ (λ_ r=>r) rows us (qg op.length 0);have N:∀k,i0 (d k)=i0 op:=λk=>by rw[Es];simp
 have Y:∀k,∀x∈d k,0<=x/\x<=64*k:=λk x hx=>Th (λ_ r=>r) ax k x hx;refine aw (λk:Nat=>(k:Int)) (λk h'=>aY (λb=>b<h.size) h h'/\k<=i0 rows/\Own h' 3 s 1 aq (d k)) (λk=>i0 rows-k) 0 i4 ⟨q.mono λ_ _ _=>trivial,i5,G⟩ ?_;rintro i h2 ⟨F,hi,w⟩;have y:Ce h2 p a l o u rows rs op us:=n.ag (F.mono λb e _=>e);refine ai (λL=>?_) (λJ=>?_)
 ·have g:i<i0 rows:=i5
  have M:rows.getD i []=rows[i]:=by rw[qe,qd g];rfl
  have hu:us.getD i eS=us[i]'(by rw[n.ulen];exact g):=LG _;refine y.sRows.get i i4 g λr hr R=>?_;have a7:=hr.len;have Q:=n.short _ (qh g);refine aw (λk:Nat=>(k:Int)) (λk h'=>aY (λb=>b<h.size) h h'/\k<=rows[i].length/\Own h' 3 s 1 aq (if us.getD i eS then d i else kK (d i) (rows[i].take k))) (λk=>rows[i].length-k) 0 i4
   ⟨F,i5,by simpa[kK]using w⟩ ?_
  rintro j h3 ⟨B,hj,c⟩;have t:Ce h3 p a l o u rows rs op us:=n.ag (B.mono λb e _=>e);refine ai (λL=>?_) (λJ=>?_)
  ·have E:j<rows[i].length:=i5
   have ar:=t.sRows.row i r _ R (qd g);have hc:=n.cS _ (qh g) _ (qh E);refine ar.bC j i4 E _ i4 ?_;refine⟨a,i4,u,t.c2,?_⟩;refine t.sUs.bC i i4 (by rw[n.ulen];exact g) _ i4 ?_;rw[ak (j+1)];refine bh (λe=>?_) (λe=>?_)
   ·rw[hu,e]at c;simp only[zj,if_false]at c;have K:i0 (kK (d i) (rows[i].take j))=i0 op:=by rw[Fx,N]
    have m:rows[i][j].toNat<i0 (kK (d i) (rows[i].take j)):=by rw[K];omega
    have a4:=Hk (r:=rows[i].take j) (Y i) _ (qh m);have a9:i0 (rows[i].take j)<=64:=o8
    have ap:Seq h3 (λ_=>True) s 1 aq (kK (d i) (rows[i].take j)):=c.seq (λ_=>rfl) λ_ _=>trivial;refine ap.bC rows[i][j].toNat i5 m _ i4 ?_;rw[ak _];refine c.set ac (λ_=>rfl) i4 rows[i][j].toNat i5 m _ i4 i4 i4 λh4 D ad a0=>?_;refine⟨j+1,jj,⟨B.then ad (λb e _=>λZ=>by have:=A b Z;omega),i5,?_⟩,i5⟩;rw[hu,e];simp only[zj,if_false];rw[aG _ _ E,Vu,getD_lt m];exact D
   ·refine⟨j+1,jj,⟨B,i5,?_⟩,i5⟩;rw[hu,e]at c⊢;exact c
  ·rw[ak (i+1)];rw[qi i5]at c;refine⟨i+1,jj,⟨B,i5,?_⟩,i5⟩;have:d (i+1)=if us.getD i eS then d i else kK (d i) rows[i]:=by show lJ _ _ _ _ (i+1)=_;rw[lJ];simp only[M];rfl
   rw[this];exact c
 ·have am:i=i0 rows:=i5
  subst am;refine⟨a,i4,o,y.c1,?_⟩;have O:Seq h2 (λ_=>True) s 1 aq (d rows.length):=w.seq (λ_=>rfl) λ_ _=>trivial;have ay:=N rows.length;refine aw (λk:Nat=>(ja op (d rows.length) k,(k:Int))) (λk h'=>h'=h2/\k<=i0 op) (λk=>i0 op-k) 0 i4 ⟨i4,i5⟩ ?_;rintro k h3 ⟨rfl,T⟩;dsimp only;have a8:=XE op (d rows.length) k;refine ai (λL=>?_) (λJ=>?_)
  ·have I:k<i0 op:=i5
   refine y.sOp.bC k i4 I _ i4 ?_;rw[ak (k+1)];have z:op.getD k eS=op[k]:=LG I;refine bD (λe=>?_) (λe=>?_)
   ·refine ai (λH=>?_) (λX=>?_)
    ·refine⟨k+1,?_,⟨i4,i5⟩,i5⟩;rw[ja,f9 (by rw[z,e,g9 H];rfl)];rfl
    ·refine O.bC k i4 i5 _ i4 ?_;refine O.bC (ja op (d rows.length) k).toNat i5 i5 _ i4 ?_;have e1:(d rows.length).getD k 0=(d rows.length)[k]:=getD_lt;have e2:(d rows.length).getD (ja op (d rows.length) k).toNat 0=(d rows.length)[(ja op (d rows.length) k).toNat]:=getD_lt;refine ai (λah=>?_) (λU=>?_)
     ·refine⟨k+1,?_,⟨i4,i5⟩,i5⟩;rw[ja,f9 (by rw[z,e,e1,e2,g9 ah];simp)];rfl
     ·refine⟨k+1,?_,⟨i4,i5⟩,i5⟩;rw[ja,g0 (by rw[z,e,e1,e2,hZ U,hZ X];simp)];rfl
   ·refine⟨k+1,?_,⟨i4,i5⟩,i5⟩;rw[ja,g0 (by rw[z,e];simp)];rfl
  ·have W:k=i0 op:=i5
   subst W;exact⟨F.mono λb e _=>e,i4⟩
def fL(p:Int×Int):bc:=[xi xo p.1,xi xo p.2]
theorem aev:∀x,∀c∈fL x,c.oneCell'=eR:=by intro x c a;simp only[fL,qX,vL,or_false]at a;rcases a with rfl|rfl<;>rfl
def Fb(n:Int)(rows:bV):List (Int×Int)×az×az:=
 if ka n rows then((dM n.toNat rows).steps,(dM n.toNat rows).dead,fG (dM n.toNat rows).used rows.length)else([],[],[])
def ais(b h:f8)(v:Value)(ok:Bool)(a:List (Int×Int))(e c:az):Prop:=
 ∃s d f:Sl,v=.tuple #[xn #[s,d,f],xm ok]/\
  Sp b h [al 332 s 2 fL a,al 3 d 1 aq e,al 3 f 1 aq c]
theorem agK{α β γ:Type}{r h:f8}{c:Nat->Nat}{k n g s w v:Nat}{q:α->bc}{l:β->bc}{u:γ->bc}{p t j:Sl}{l1:List α}{l2:List β}{m:List γ}(o:nc r h c)(e:dO h c 6 k p s q l1)(f:dO h c 7 n t w l l2)(a3:dO h c 8 g j v u m):
  Sp r h [al k p s q l1,al n t w l l2,al g j v u m]:=by
 refine⟨λ_ h=>h,o.ag,λb=>c b-5,λb a=>?_,λi A d=>?_⟩
 ·have:=o.bv b a;dsimp only;omega
 ·match i,d with
  |0,d=>simp at d;subst d;exact⟨e.own,λb a=>⟨e.own.lt a,by have:=e.bv b a;dsimp only;omega⟩⟩
  |1,d=>simp at d;subst d;exact⟨f.own,λb a=>⟨f.own.lt a,by have:=f.bv b a;dsimp only;omega⟩⟩
  |2,d=>simp at d;subst d;exact⟨a3.own,λb a=>⟨a3.own.lt a,by have:=a3.bv b a;dsimp only;omega⟩⟩
  |i+3,d=>simp at d
theorem agL{n:Int}{rows:bV}(h:ka n rows=eR):0<=n/\n<=64/\∀r∈rows,fK n r=eR:=by simp only[ka,qz,decide_eq_true_eq,qL]at h;exact⟨h.1.1,h.1.2,h.2⟩
theorem LH{n:Int}{r:az}(h:fK n r=eR):∀c∈r,0<=c/\c<n:=by simp only[fK,qz,qL,decide_eq_true_eq]at h;exact h.1
theorem QJ:∀{r:az} {a n:Int},fJ r=eR->(∀c∈r,a<=c/\c<n)->(i0 r:Int)<=max 0 (n-a)
 |[],a,n,_,_=>i9
 |[x],a,n,_,h=>by have:=h x jj;simp;omega
 |x::y::t,a,n,hr,h=>by
  simp only[fJ,qz,decide_eq_true_eq]at hr;have g:=h x jj;have f:=h y jj;have e:∀(l:az) (z:Int),fJ (z::l)=eR->∀c∈l,z<c:=by
   intro l
   induction l with
   |nil=>intro z _ c b;simp at b
   |cons w t ih=>
    intro z d c b;simp only[fJ,qz,decide_eq_true_eq]at d;rcases qX.1 b with rfl|b
    ·exact d.1
    ·have:=ih w d.2 c b;omega
  have:=QJ (r:=y::t) (a:=x+1) (n:=n) hr.2 λc b=>⟨by
   rcases qX.1 b with rfl|b
   ·omega
   ·have:=e t y hr.2 c b;omega,(h c (by simp only[qX]at b⊢;exact .inr b)).2⟩
  simp only[List.length_cons]at this⊢;omega
theorem aca{n:Int}{r:az}(h:fK n r=eR)(c:n<=64):i0 r<=64:=by have b:=LH h;simp only[fK,qz]at h;have:=QJ (a:=0) h.2 b;omega
theorem aew(n k:Nat)(h:k<n):(qg k eR++qg (n-k) eS).set k eR=qg (k+1) eR++qg (n-(k+1)) eS:=by
 have e:n-k=(n-(k+1))+1:=i5
 rw[qZ _ _ jj,e,ye];simp only[List.length_replicate,zc,zw];rw[List.replicate_succ' (n:=k)];simp
theorem UT{h i:f8}{c:Nat->Nat}{a:fz}{l o u:Sl}{rows:bV}{rs:List Sl}{op us:List Bool}(m:iH i (λb=>b<i.size) l 1 aq rows rs)(k:nc i h c)(e:kV h c 2 a 366 [l,o,u])
  (p:dO h c 3 4 o 1 fi op) (q:dO h c 4 4 u 1 fi us) (g:i0 us=i0 rows) (n:i0 op<=64) (j:∀r∈rows,fK op.length r=eR):Ce h (λb=>b<h.size) a l o u rows rs op us:=
 ⟨e.box.cell0 i4,e.box.cell i4,e.box.cell i4,e.box.lt,(m.ag k.ag).mono λb f=>q7 f k.ag.1,p.XT λ_=>rfl,q.XT λ_=>rfl,g,λr d=>LH (j r d),λr d=>aca (j r d) i5⟩
theorem acb(n:Int)(l:Sl)(rows:bV)(rs:List Sl)(h:f8)(hl:iH h (λb=>b<h.size) l 1 aq rows rs)(hs:i0 rows<=2^30)(d4:∀r∈rows,i0 r<=2^40):
  ab xt 267 #[xi xo n,l] h λv h'=>ais h h' v (ka n rows) (Fb n rows).1 (Fb n rows).2.1 (Fb n rows).2.2:=by
 refine Pe n l ?_;unfold HW;have ep:=hl.Ss;refine vO ac (nc.refl h) 1 i4 λa1 h1 b1 d0=>?_;have E:=(nc.refl h).keep (m:=1) d0 i6;refine(Pw n l rows rs h1 (hl.ag E.ag) i5 d4).mono ?_;rintro v h2 ⟨rfl,rfl⟩;refine⟨_,i4,?_⟩;refine bh (λhr=>?_) (λhr=>?_)
 ·refine b1.lE ac i4 _ i4 i4 i4 (qk _) λh3 ah D=>?_;refine⟨(⟨eH,0,0⟩,⟨eH,0,0⟩,⟨eH,0,0⟩),ah.box.aS _ i4,?_⟩;refine⟨⟨eH,0,0⟩,⟨eH,0,0⟩,⟨eH,0,0⟩,by rw[hr],?_⟩;simp only[Fb,hr,zj,if_false];exact(((Sp.zip (E.keep (m:=1) D i6).ag).nil 332 2 fL).nil 3 1 aq).nil 3 1 aq
 ·obtain⟨et,ew,b9⟩:=agL hr;obtain⟨N,rfl⟩:∃N:Nat,n=N:=⟨n.toNat,i5⟩
  have hN:N<=64:=i5
  refine bY (λs h'=>∃c a o u,s=dB a/\nc h h' c/\kV h' c 1 a1 279 [xj eH 0 0,xj eH 0 0,xj eH 0 0]/\kV h' c 2 a 366 [l,xj o.ptr o.len o.cap,xj u.ptr u.len u.cap]/\
   dO h' c 3 4 o 1 fi (qg N eS)/\dO h' c 4 4 u 1 fi (qg rows.length eS)) ⟨?_,?_⟩ ?_
  ·refine By ac E 3 fi ⟨_,_,i4,i4,i4,i4,i4,i4⟩ i6 eS i4 i4 N i4 i4 i5 λo h3 ho D=>?_;refine⟨trivial,?_⟩;refine By ac (E.keep (m:=3) D i6) 4 fi ⟨_,_,i4,i4,i4,i4,i4,i4⟩ i6 eS i4 i4 rows.length i5 i5 i5 λu h4 hu G=>?_;refine⟨trivial,?_⟩;refine Sw _ ((E.keep (m:=3) D i6).keep (m:=4) G i6) 2 λa h5 ha A=>?_;exact⟨trivial,_,a,o,u,i4,((E.keep D i6).keep G i6).keep A i6,((b1.keep D i6).keep G i6).keep A i6,ha,(ho.keep G i6).keep A i6,hu.keep A i6⟩
  ·refine By ac E 4 fi ⟨_,_,i4,i4,i4,i4,i4,i4⟩ i6 eS i4 i4 rows.length i5 i5 i5 λu h3 hu D=>?_;refine⟨trivial,?_⟩;refine By ac (E.keep (m:=4) D i6) 3 fi ⟨_,_,i4,i4,i4,i4,i4,i4⟩ i6 eS i4 i4 N i4 i4 i5 λo h4 ho G=>?_;refine⟨trivial,?_⟩;refine Sw _ ((E.keep (m:=4) D i6).keep (m:=3) G i6) 2 λa h5 ha A=>?_;exact⟨trivial,_,a,o,u,i4,((E.keep D i6).keep G i6).keep A i6,((b1.keep D i6).keep G i6).keep A i6,ha,ho.keep A i6,(hu.keep G i6).keep A i6⟩
  ·rintro s h3 ⟨c,a,o,u,rfl,c8,bl,ah,a6,cq⟩;refine⟨a,i4,o,ah.box.cell i4,?_⟩;have es:o.len=N:=by rw[a6.own.len];simp
   refine aw (λt:Nat×(Nat->Nat)=>(t.1:Int)) (λt h'=>t.1<=N/\nc h h' t.2/\kV h' t.2 1 a1 279 [xj eH 0 0,xj eH 0 0,xj eH 0 0]/\kV h' t.2 2 a 366 [l,o,u]/\
    dO h' t.2 3 4 o 1 fi (qg t.1 eR++qg (N-t.1) eS)/\dO h' t.2 4 4 u 1 fi (qg rows.length eS)) (λt=>N-t.1) (0,c) i4 ⟨jj,c8,bl,ah,by simpa using a6,cq⟩ ?_
   rintro⟨k,c⟩ h4 ⟨hk,bb,b5,bd,bq,b7⟩;dsimp only at*;refine ai (λd9=>?_) (λd2=>?_)
   ·have dy:k<N:=i5
    refine⟨a,i4,o,bd.box.cell i4,?_⟩;refine bq.set ac (λ_=>rfl) i4 k i4 i9 eR i4 i4 i4 λh5 b0 A=>?_;rw[ak _];rw[aew _ _ dy]at b0;exact⟨(k+1,_),jj,⟨i9,bb.keep A i6,b5.keep A i6,bd.keep A i6,b0,b7.keep A i6⟩,i9⟩
   ·have dk:k=N:=i5
    subst dk;simp only[zc,yU,qN]at bq;refine vO ac bb 5 i4 λap h5 ed A=>?_;have dx:=bb.keep (m:=5) A i6;have eb:=b5.keep (m:=5) A i6;have dr:=bd.keep (m:=5) A i6;have b0:=bq.keep (m:=5) A i6;have da:=b7.keep (m:=5) A i6;clear bb b5 bd bq b7 c8 bl ah a6 cq;generalize grow c h4.size 5=c5 at*;refine aw (τ:=Nat×List Bool×List Bool×(List (Int×Int))×az×(Nat->Nat)×Sl×Sl) (λ_=>())
     (λ⟨f,op,us,st,dd,c,ss,ds⟩ h'=>i0 op=k/\us.length=i0 rows/\op.count eR<=f/\f<=k/\st.length<=k-f/\dd.length<=k-f/\
      (∃r,cD rows f op us=r/\dM k rows=⟨st++r.steps,dd++r.dead,r.used⟩)/\nc h h' c/\
      kV h' c 1 a1 279 [xj eH 0 0,xj eH 0 0,xj eH 0 0]/\kV h' c 2 a 366 [l,o,u]/\
      dO h' c 3 4 o 1 fi op/\dO h' c 4 4 u 1 fi us/\
      kV h' c 5 ap 279 [ss,ds,xj eH 0 0]/\dO h' c 6 332 ss 2 fL st/\dO h' c 7 3 ds 1 aq dd)
     (λt=>t.1) (k,qg k eR,qg rows.length eS,[],[],c5,⟨eH,0,0⟩,⟨eH,0,0⟩) i4
     ⟨jj,jj,jj,jj,jj,jj,⟨_,i4,by simp[dM]⟩,dx,eb,dr,b0,da,ed,dO.nil _ _ _ _ _ _,dO.nil _ _ _ _ _ _⟩ ?_
    rintro⟨f,op,us,st,dd,c,ss,ds⟩ h6 ⟨ar,J,ek,eq,ei,el,⟨r,a5,bk⟩,I,a8,O,Z,Q,L,K,M⟩;dsimp only at*;have H:∀r∈rows,fK op.length r=eR:=by rw[ar];exact b9
    have a9:=UT hl I O Z Q J i5 H;refine⟨a,i4,o,O.box.cell i4,?_⟩;refine(IK o op eR h6 (Z.XT λ_=>rfl) i5).mono ?_;rintro v h7 ⟨rfl,rfl⟩;refine⟨_,i4,?_⟩;refine bh (λhc=>?_) (λhc=>?_)
    ·have ad:op.contains eR=eS:=by simpa using hc
     have bl:r=⟨[],[],us⟩:=by rw[<-a5];exact BH ad f
     subst bl;simp only[qN]at bk;refine⟨a,i4,u,O.box.cell i4,?_⟩;have en:u.len=i0 rows:=by rw[Q.own.len,J]
     refine aw (λt:Nat×(Nat->Nat)×Sl=>(t.1:Int)) (λ⟨j,c,fs⟩ h'=>j<=i0 rows/\nc h h' c/\
      kV h' c 1 a1 279 [xj eH 0 0,xj eH 0 0,xj eH 0 0]/\dO h' c 4 4 u 1 fi us/\
      kV h' c 5 ap 279 [ss,ds,fs]/\dO h' c 6 332 ss 2 fL st/\dO h' c 7 3 ds 1 aq dd/\dO h' c 8 3 fs 1 aq (fG us j)) (λt=>i0 rows-t.1) (0,c,⟨eH,0,0⟩) i4
      ⟨jj,I,a8,Q,L,K,M,dO.nil _ _ _ _ _ _⟩ ?_
     rintro⟨j,c,fs⟩ h8 ⟨hj,br,cc,cf,X,a4,a0,a3⟩;dsimp only at*;refine ai (λd9=>?_) (λd2=>?_)
     ·have er:j<i0 rows:=i5
      have e0:i0 (fG us j)<=j:=Jo us j;refine(cf.XT λ_=>rfl).bC j i4 i5 _ i4 ?_;have cr:us.getD j eS=us[j]:=LG i5;rw[ak _];refine bh (λhb=>?_) (λhb=>?_)
      ·refine⟨fs,X.box.cell i4,?_⟩;refine KK ac br 9 aq ⟨_,_,i4,i4,i4,i4,i4,i4⟩ i4 [(j:Int)] i4 (zK i4) i4 λv h9 ec p=>?_;refine(a3.keep (m:=9) p i6).append ac ⟨_,_,i4,i4,i4,i4,i4,i4⟩ ⟨_,_,i4,i4⟩ i4 i6 (λ_=>rfl) (ec.seq λ_=>rfl) fN i9 λef cl b3 g=>?_;refine((X.keep (m:=9) p i6).keep (m:=8) g i6).store ac i4 2 _ i4 i4 i4 (zK i4) λc0 b2 d=>?_;refine⟨(j+1,_,ef),jj,⟨i9,((br.keep p i6).keep g i6).keep d i6,((cc.keep p i6).keep g i6).keep d i6,((cf.keep p i6).keep g i6).keep d i6,b2,
        ((a4.keep p i6).keep g i6).keep d i6,((a0.keep p i6).keep g i6).keep d i6,?_⟩,i9⟩
       have e:fG us (j+1)=fG us j++[(j:Int)]:=by rw[fG,cr,hb];rfl
       rw[e];exact b3.keep d i6
      ·have e:fG us (j+1)=fG us j:=by rw[fG,cr,hb];rfl
       exact⟨(j+1,c,fs),jj,⟨i9,br,cc,cf,X,a4,a0,by rw[e];exact a3⟩,i9⟩
     ·have d3:j=i0 rows:=i5
      subst d3;refine⟨(ss,ds,fs),X.box.aS _ i4,?_⟩;refine cc.lE ac i4 _ i4 i4 i4 (qk _) λh9 eg p=>?_;refine⟨(ss,ds,fs),eg.box.aS _ i4,?_⟩;refine⟨ss,ds,fs,by rw[hr],?_⟩;simp only[Fb,hr,if_true,qm,bk];exact agK (br.keep (m:=1) p i6) (a4.keep (m:=1) p i6) (a0.keep (m:=1) p i6) (a3.keep (m:=1) p i6)
    ·have ad:op.contains eR=eR:=by simpa using hc
     obtain⟨f',rfl⟩:∃f',f=f'+1:=by obtain⟨j,hj,e⟩:=Hl ad;have:=kZ e;exact⟨f-1,i5⟩
     refine bj ?_;refine(RO a l o u rows rs op us h7 a9 i5).mono ?_;rintro v h8 ⟨z,rfl⟩;have z:=z.bv c 9;cases hst:mW rows op us with
     |some i=>
      obtain⟨hi,dp⟩:=xv hst;obtain⟨eo,d1,a6⟩:=Et dp;have c7:rows.getD i []=rows[i]:=by rw[qe,qd hi];rfl
      have ej:=LH (H _ (qh hi)) _ (c7▸d1);refine⟨((i,fo rows op i),eR),i4,?_⟩;dsimp only;refine vO ac (I.keep (m:=9) z i6) 9 i4 λax h9 has p=>?_;refine has.lE ac i4 _ i4 i4 i4 (qk _) λcl T g=>?_;refine GC i4 ?_;have F:=((I.keep (m:=9) z i6).keep (m:=9) p i6).keep (m:=9) g i6;have a2:=((a8.keep (m:=9) z i6).keep (m:=9) p i6).keep (m:=9) g i6;have W:=((O.keep (m:=9) z i6).keep (m:=9) p i6).keep (m:=9) g i6;have Y:=((Z.keep (m:=9) z i6).keep (m:=9) p i6).keep (m:=9) g i6;have U:=((Q.keep (m:=9) z i6).keep (m:=9) p i6).keep (m:=9) g i6;have B:=((L.keep (m:=9) z i6).keep (m:=9) p i6).keep (m:=9) g i6;have S:=((K.keep (m:=9) z i6).keep (m:=9) p i6).keep (m:=9) g i6;have R:=((M.keep (m:=9) z i6).keep (m:=9) p i6).keep (m:=9) g i6;clear I a8 O Z Q L K M z p has a9;generalize grow (grow (grow c h7.size 9) h8.size 9) h9.size 9=c10 at*;refine⟨ss,B.box.cell0 i4,(_,_),T.box.aS _ i4,?_⟩;dsimp only;refine KK ac F 10 fL ⟨_,_,i4,i4,i4,i4,i4,i4⟩ i4 [((i:Int),fo rows op i)] i4 (zK i4) i4 λv c0 c6 d=>?_;refine(S.keep (m:=10) d i6).append ac ⟨_,_,i4,i4,i4,i4,i4,i4⟩ ⟨_,_,i4,i4⟩ i4 i6 (λ_=>rfl) (c6.seq λ_=>rfl) aev i9 λea d5 b4 q=>?_;refine((B.keep (m:=10) d i6).keep (m:=6) q i6).lE ac i4 _ i4 i4 i4 (zK i4) λdu b6 y=>?_;have P:=((T.keep (m:=10) d i6).keep (m:=6) q i6).keep (m:=5) y i6;have ay:=((W.keep (m:=10) d i6).keep (m:=6) q i6).keep (m:=5) y i6;have c2:=((U.keep (m:=10) d i6).keep (m:=6) q i6).keep (m:=5) y i6;have cs:=((Y.keep (m:=10) d i6).keep (m:=6) q i6).keep (m:=5) y i6;refine⟨a,i4,u,ay.box.cell i4,(i:Int),P.box.cell0 i4,a,i4,o,ay.box.cell i4,fo rows op i,P.box.cell i4,?_⟩;refine c2.set ac (λ_=>rfl) i4 i i4 i5 eR i4 i4 i4 λd6 c4 x=>?_;have a7:=P.keep (m:=4) x i6;have V:=ay.keep (m:=4) x i6;refine⟨⟨a7.box.cell i4,trivial⟩,?_⟩;refine(cs.keep (m:=4) x i6).set ac (λ_=>rfl) i4 (fo rows op i).toNat i5 i5 eS i4 i4 i4 λd8 am w=>?_;have dn:=a7.keep (m:=3) w i6;have c9:=V.keep (m:=3) w i6;refine⟨trivial,?_⟩;have eh:=kZ (op:=op) (j:=(fo rows op i).toNat) a6;rw[pj ad hst]at a5;refine⟨(f',op.set (fo rows op i).toNat eS,us.set i eR,st++[((i:Int),fo rows op i)],dd,_,ea,ds),i4,⟨by simp[ar],by simp[J],i7,i7,i9,i7,⟨_,i4,?_⟩,
       ((((F.keep d i6).keep q i6).keep y i6).keep x i6).keep w i6,
       ((((a2.keep d i6).keep q i6).keep y i6).keep x i6).keep w i6,
       c9,am,c4.keep w i6,(b6.keep x i6).keep w i6,((b4.keep y i6).keep x i6).keep w i6,
       ((((R.keep d i6).keep q i6).keep y i6).keep x i6).keep w i6⟩,i7⟩
      rw[bk,<-a5];simp
     |none=>
      have d7:=tQ (rows:=rows) (us:=us) ad;refine⟨((0,0),eS),i4,?_⟩;dsimp only;refine vO ac (I.keep (m:=9) z i6) 9 i4 λax h9 has p=>?_;refine has.lE ac i4 _ i4 i4 i4 (qk _) λcl T g=>?_;refine xY i4 ?_;have F:=((I.keep (m:=9) z i6).keep (m:=9) p i6).keep (m:=9) g i6;have a2:=((a8.keep (m:=9) z i6).keep (m:=9) p i6).keep (m:=9) g i6;have W:=((O.keep (m:=9) z i6).keep (m:=9) p i6).keep (m:=9) g i6;have Y:=((Z.keep (m:=9) z i6).keep (m:=9) p i6).keep (m:=9) g i6;have U:=((Q.keep (m:=9) z i6).keep (m:=9) p i6).keep (m:=9) g i6;have B:=((L.keep (m:=9) z i6).keep (m:=9) p i6).keep (m:=9) g i6;have S:=((K.keep (m:=9) z i6).keep (m:=9) p i6).keep (m:=9) g i6;have R:=((M.keep (m:=9) z i6).keep (m:=9) p i6).keep (m:=9) g i6;clear I a8 O Z Q L K M z p has a9;generalize grow (grow (grow c h7.size 9) h8.size 9) h9.size 9=c10 at*;have a9:=UT hl F W Y U J i5 H;refine(RP a l o u rows rs op us cl a9 i5 i5).mono ?_;rintro v c0 ⟨d,rfl⟩;have d:=d.bv c10 9;refine⟨_,i4,?_⟩;refine⟨ds,(B.keep (m:=9) d i6).box.cell i4,?_⟩;refine KK ac (F.keep (m:=9) d i6) 10 aq ⟨_,_,i4,i4,i4,i4,i4,i4⟩ i4 [hO rows op us] i4 (zK i4) i4 λv d5 c1 q=>?_;refine((R.keep (m:=9) d i6).keep (m:=10) q i6).append ac ⟨_,_,i4,i4,i4,i4,i4,i4⟩ ⟨_,_,i4,i4⟩ i4 i6 (λ_=>rfl) (c1.seq λ_=>rfl) fN i9 λds' du cd y=>?_;refine(((B.keep (m:=9) d i6).keep (m:=10) q i6).keep (m:=7) y i6).store ac i4 1 _ i4 i4 i4 (zK i4) λd6 cn x=>?_;have V:=(((W.keep (m:=9) d i6).keep (m:=10) q i6).keep (m:=7) y i6).keep (m:=5) x i6;have cp:=(((Y.keep (m:=9) d i6).keep (m:=10) q i6).keep (m:=7) y i6).keep (m:=5) x i6;refine⟨a,i4,o,V.box.cell i4,?_⟩;refine cp.set ac (λ_=>rfl) i4 (hO rows op us).toNat i5 i5 eS i4 i4 i4 λd8 am w=>?_;have eh:=kZ (op:=op) (j:=(hO rows op us).toNat) d7.2.2;rw[pk ad hst]at a5;refine⟨(f',op.set (hO rows op us).toNat eS,us,st,dd++[hO rows op us],_,ss,ds'),i4,⟨by simp[ar],J,i7,i7,i7,i9,⟨_,i4,?_⟩,
       ((((F.keep d i6).keep q i6).keep y i6).keep x i6).keep w i6,
       ((((a2.keep d i6).keep q i6).keep y i6).keep x i6).keep w i6,
       V.keep w i6,am,((((U.keep d i6).keep q i6).keep y i6).keep x i6).keep w i6,cn.keep w i6,
       ((((S.keep d i6).keep q i6).keep y i6).keep x i6).keep w i6,
       (cd.keep x i6).keep w i6⟩,i7⟩
      rw[bk,<-a5];simp
theorem NO(pool:List (Sl×Row))(c:(⟨eH,0,0⟩,[])∈pool)(n:Nat):iv pool id (qg n ⟨eH,0,0⟩) (qg n []):=
 ⟨jj,λi r l a b=>by
  rw[wg]at a b;split at a
  ·rename_i d;rw[f9 d]at b;cases a;cases b;exact c
  ·cases a⟩
theorem aa.agM{B:aB}{b h:f8}{As:List HP}(H:aa B b h As)(i:Nat){pool:List (Sl×Row)}(d:As[i]?=dB (lC pool)):aa B b h (As.set i (lC ((⟨eH,0,0⟩,[])::pool))):=
 H.gg i d λq c x a=>by
  rcases qX.1 a with rfl|a
  ·exact Seq.nil _ _ _ _ _ _
  ·exact c x a
structure Zs (h:f8) (f:fz) (r st dd lf:Sl) (rr:List (Sl×Sl)) (R:List fu) (ST:List (Int×Int)) (D L:az):Prop where
 field:fI h f
 rest:ol jL 2 qv h r rr R
 steps:Rd h st 2 fL ST
 dead:Rd h dd 1 aq D
 left:Rd h lf 1 aq L
abbrev SA(s:fz)(a:bc):HP:=ao s 281 a
abbrev HA(s:Sl)(rs:List Sl):HP:=al 34 s 1 bs rs
abbrev RA(s:Sl)(l:Row):HP:=al 5 s 1 aD l
theorem QK{R:bV}:∀{l1 l2:List (Int×Int)} {D:Int->Prop},tU R D (l1++l2)->tU R D l1/\tU R (λx=>D x∨∃i,(i,x)∈l1) l2
 |[],l2,D,h=>⟨trivial,by
  have:(λx=>D x∨∃i,(i,x)∈([]:List (Int×Int)))=D:=by funext x;simp
  rw[this];exact h⟩
 |(i,c)::l1,l2,D,h=>by
  obtain⟨a,b,g,d,e⟩:=h;obtain⟨k,f⟩:=QK e;refine⟨⟨a,b,g,d,k⟩,?_⟩;have:(λx=>D x∨∃j,(j,x)∈(i,c)::l1)=λx=>(D x∨x=c)∨∃j,(j,x)∈l1:=by
   funext x;simp only[qX,Prod.mk.injEq,eq_iff_iff];constructor
   ·rintro(h|⟨j,⟨_,h⟩|h⟩)
    ·exact .inl (.inl h)
    ·exact .inl (.inr h)
    ·exact .inr ⟨j,h⟩
   ·rintro((h|h)|⟨j,h⟩)
    ·exact .inl h
    ·exact .inr ⟨i,.inl ⟨i4,h⟩⟩
    ·exact .inr ⟨j,.inr h⟩
  rw[this];exact f
section
variable {B:aB} {h0 h:f8} {As:List HP}
theorem Wu(s f:fz)(p:Int×Int×Int)(v r V X W P O:Sl)(n:Nat)(pool:List (Sl×Row))(H:aa B h0 h (SA s (gC f p v r V X W P O)::lC pool::As))(m:v.len=n)(hn:n<=64){K:Unit->f8->Prop}
  (Q:∀g d h',g.len=n->d.len=n->aa B h0 h' (SA s (gC f p v r V X W g d)::HA g (qg n ⟨eH,0,0⟩)::HA d (qg n ⟨eH,0,0⟩)::lC pool::As)->K () h'):(λ(c:aO) (R:Unit->f8->Prop)=>
 ∃a3:fz,(c=dB a3)/\
 ∃b:Sl,f7 h (a3.add 4)=dB (xj b.ptr b.len b.cap)/\
 ∃a5:fz,(c=dB a5)/\
 ∃a:Sl,f7 h (a5.add 4)=dB (xj a.ptr a.len a.cap)/\
 (aA xt (qG 85 (xi xo ((b.len:Nat):Int)) (xi xo ((b.len:Nat):Int))) (.one (.sc .slc)) h λy D=>
 (av.ok [(a5.add 4,(xj a.ptr a.len a.cap)),(a3.add 4,(xj b.ptr b.len b.cap))] D)/\
 ∃S:fz,(c=dB S)/\
 (aA xt (qG 85 (xi xo ((a.len:Nat):Int)) (xi xo ((a.len:Nat):Int))) (.one (.sc .slc)) D λv9 I=>
 (av.ok [(a5.add 4,(xj a.ptr a.len a.cap)),(a3.add 4,(xj b.ptr b.len b.cap))] I)/\
 af xt (qf 85 (xk (dB (S.add 9))) (xj y.ptr y.len y.cap)) I λ_ h3=>
 (av.ok [] h3)/\
 ∃F:fz,(c=dB F)/\
 af xt (qf 85 (xk (dB (F.add 10))) (xj v9.ptr v9.len v9.cap)) h3 λ_ q=>
 (av.ok [] q)/\
 R () q)/\(af xt (qf 85 (xk (dB (S.add 9))) (xj y.ptr y.len y.cap)) D λ_ Z=>
 (av.ok [] Z)/\
 aA xt (qG 85 (xi xo ((a.len:Nat):Int)) (xi xo ((a.len:Nat):Int))) (.one (.sc .slc)) Z λu h6=>
 (av.ok [] h6)/\
 ∃z:fz,(c=dB z)/\
 af xt (qf 85 (xk (dB (z.add 10))) (xj u.ptr u.len u.cap)) h6 λ_ T=>
 (av.ok [] T)/\
 R () T))/\(aA xt (qG 85 (xi xo ((a.len:Nat):Int)) (xi xo ((a.len:Nat):Int))) (.one (.sc .slc)) h λt h8=>
 (av.ok [(a5.add 4,(xj a.ptr a.len a.cap)),(a3.add 4,(xj b.ptr b.len b.cap))] h8)/\
 aA xt (qG 85 (xi xo ((b.len:Nat):Int)) (xi xo ((b.len:Nat):Int))) (.one (.sc .slc)) h8 λw Y=>
 (av.ok [(a5.add 4,(xj a.ptr a.len a.cap)),(a3.add 4,(xj b.ptr b.len b.cap))] Y)/\
 ∃E:fz,(c=dB E)/\
 af xt (qf 85 (xk (dB (E.add 9))) (xj w.ptr w.len w.cap)) Y λ_ L=>
 (av.ok [] L)/\
 ∃G:fz,(c=dB G)/\
 af xt (qf 85 (xk (dB (G.add 10))) (xj t.ptr t.len t.cap)) L λ_ J=>
 (av.ok [] J)/\
 R () J)) (dB s) K:=by
 have U:=H.box 0 i4;refine⟨s,i4,v,U.cell i4,s,i4,v,U.cell i4,?_,?_⟩
 ·refine H.make ac bs fx i6 ⟨eH,0,0⟩ i4 i4 n n oj oj (qk _) i5 λg D o N l=>?_;have l:=l.bw;have k:=l.box 1 i4;refine⟨⟨k.cell i4,k.cell i4,trivial⟩,s,i4,?_,?_⟩
  ·refine l.make ac bs fx i6 ⟨eH,0,0⟩ i4 i4 n n oj oj (qk _) i5 λd I e M j=>?_;have j:=j.bw;have i:=j.box 2 i4;refine⟨⟨i.cell i4,i.cell i4,trivial⟩,?_⟩;refine j.store ac 2 i4 i4 9 [g] i4 i4 i4 m9 λh3 x=>⟨trivial,s,i4,?_⟩
   refine x.store ac 2 i4 i4 10 [d] i4 i4 i4 m9 λq A=>⟨trivial,?_⟩
   exact Q g d q o e (A.aZ 4 [2,1,0,3])
  ·refine l.store ac 1 i4 i4 9 [g] i4 i4 i4 m9 λI j=>⟨trivial,?_⟩
   refine j.make ac bs fx i6 ⟨eH,0,0⟩ i4 i4 n n oj oj (qk _) i5 λd h3 e M x=>⟨trivial,s,i4,?_⟩
   have x:=x.bw;refine x.store ac 2 i4 i4 10 [d] i4 i4 i4 m9 λq A=>⟨trivial,?_⟩
   exact Q g d q o e (A.aZ 4 [2,1,0,3])
 ·refine H.make ac bs fx i6 ⟨eH,0,0⟩ i4 i4 n n oj oj (qk _) i5 λd D o N l=>?_;have l:=l.bw;have k:=l.box 1 i4;refine⟨⟨k.cell i4,k.cell i4,trivial⟩,?_⟩;refine l.make ac bs fx i6 ⟨eH,0,0⟩ i4 i4 n n oj oj (qk _) i5 λg I e M j=>?_;have j:=j.bw;have i:=j.box 2 i4;refine⟨⟨i.cell i4,i.cell i4,trivial⟩,s,i4,?_⟩;refine j.store ac 2 i4 i4 9 [g] i4 i4 i4 m9 λh3 x=>⟨trivial,s,i4,?_⟩
  refine x.store ac 2 i4 i4 10 [d] i4 i4 i4 m9 λq A=>⟨trivial,?_⟩
  exact Q g d q e o (A.aZ 4 [2,0,1,3])
end
section
variable {B:aB} {h0 h:f8} {As:List HP}
theorem acd(n nd w:Nat)(d:az):(fZ n nd w d).1.length=n/\(fZ n nd w d).2.length=n:=by
 unfold fZ;have:∀(l:List (Int×Nat)) (s:aM×aM),(l.foldl (λs p=>(s.1.set p.1.toNat (oI nd p.2),s.2.set p.1.toNat (aK w))) s).1.length=i0 s.1/\(l.foldl (λs p=>(s.1.set p.1.toNat (oI nd p.2),s.2.set p.1.toNat (aK w))) s).2.length=i0 s.2:=by
  intro l
  induction l with
  |nil=>intro s;exact⟨i4,i4⟩
  |cons a l ih=>intro s;rw[zB];have:=ih (s.1.set a.1.toNat (oI nd a.2),s.2.set a.1.toNat (aK w));simpa using this
 have:=this d.zipIdx (qg n [],qg n []);simpa using this
abbrev Told(s f:fz)(p:Int×Int×Int)(v r c h e a b:Sl)(d i:List Sl)(g:List (Sl×Row)):List HP:=[SA s (gC f p v r c h e a b),HA a d,HA b i,lC g]
theorem Zt(s f:fz)(p:Int×Int×Int)(v r st L lf wa J:Sl)(I mr:List Sl)(pl:List (Sl×Row))(c:Int)(nd w:Nat)(H:aa B h0 h (Told s f p v r st L lf wa J I mr pl++As))(ay:0<=c)(hw:c.toNat<i0 I)(hm:c.toNat<i0 mr)(X:p.2.2=w)(hd:L.len=nd)(a0:nd<=64)(S:w<=2^20){K:Unit->f8->Prop}
  (hk:∀a b h',aa B h0 h' (RA a (aK nd)::RA b (aK w)::(Told s f p v r st L lf wa J (I.set c.toNat a) (mr.set c.toNat b) pl++As))->K () h'):(λ(R:aO) (K3:Unit->f8->Prop)=>
 ∃l:fz,(R=dB l)/\
 ∃g:Sl,f7 h (l.add 9)=dB (xj g.ptr g.len g.cap)/\
 ∃a25:fz,(R=dB a25)/\
 ∃d:Sl,f7 h (a25.add 10)=dB (xj d.ptr d.len d.cap)/\
 ∃M:fz,(R=dB M)/\
 ∃j:Int,f7 h ((M.add 1).add 2)=dB (xi xo j)/\
 (aA xt (qG 34 (xi xo ((L.len:Nat):Int)) (xi xo ((L.len:Nat):Int))) (.one (.sc .slc)) h λo Q=>
 (av.ok [((M.add 1).add 2,(xi xo j)),(a25.add 10,(xj d.ptr d.len d.cap)),(l.add 9,(xj g.ptr g.len g.cap))] Q)/\
 ∃W:fz,(g.ptr=dB W/\0<=c/\c<((g.len:Nat):Int))/\
 (aA xt (qG 34 (xi xo j) (xi xo j)) (.one (.sc .slc)) Q λT am=>
 (av.ok [(a25.add 10,(xj d.ptr d.len d.cap)),(l.add 9,(xj g.ptr g.len g.cap))] am)/\
 af xt (qf 34 (xk (dB (W.add (c.toNat*1)))) (xj o.ptr o.len o.cap)) am λ_ F=>
 (av.ok [] F)/\
 ∃D:fz,(d.ptr=dB D/\0<=c/\c<((d.len:Nat):Int))/\
 af xt (qf 34 (xk (dB (D.add (c.toNat*1)))) (xj T.ptr T.len T.cap)) F λ_ A=>
 (av.ok [] A)/\
 K3 () A)/\(af xt (qf 34 (xk (dB (W.add (c.toNat*1)))) (xj o.ptr o.len o.cap)) Q λ_ E=>
 (av.ok [] E)/\
 aA xt (qG 34 (xi xo j) (xi xo j)) (.one (.sc .slc)) E λk t=>
 (av.ok [] t)/\
 ∃u:fz,(d.ptr=dB u/\0<=c/\c<((d.len:Nat):Int))/\
 af xt (qf 34 (xk (dB (u.add (c.toNat*1)))) (xj k.ptr k.len k.cap)) t λ_ q=>
 (av.ok [] q)/\
 K3 () q))/\(aA xt (qG 34 (xi xo j) (xi xo j)) (.one (.sc .slc)) h λU ap=>
 (av.ok [(a25.add 10,(xj d.ptr d.len d.cap)),(l.add 9,(xj g.ptr g.len g.cap))] ap)/\
 aA xt (qG 34 (xi xo ((L.len:Nat):Int)) (xi xo ((L.len:Nat):Int))) (.one (.sc .slc)) ap λP ah=>
 (av.ok [(a25.add 10,(xj d.ptr d.len d.cap)),(l.add 9,(xj g.ptr g.len g.cap))] ah)/\
 ∃ar:fz,(g.ptr=dB ar/\0<=c/\c<((g.len:Nat):Int))/\
 af xt (qf 34 (xk (dB (ar.add (c.toNat*1)))) (xj P.ptr P.len P.cap)) ah λ_ ax=>
 (av.ok [] ax)/\
 ∃ad:fz,(d.ptr=dB ad/\0<=c/\c<((d.len:Nat):Int))/\
 af xt (qf 34 (xk (dB (ad.add (c.toNat*1)))) (xj U.ptr U.len U.cap)) ax λ_ Z=>
 (av.ok [] Z)/\
 K3 () Z)) (dB s) K:=by
 have hb:=H.box 0 i4;have mk:∀{Y:f8} {Cs:List HP} (m:Nat) (hm:m<=2^20) {z1 z2:Int},z1=(m:Int)->z2=(m:Int)->aa B h0 Y Cs->∀{K:Sl->f8->Prop},(∀a h',aa B h0 h' (RA a (aK m)::Cs)->K a h')->
   aA xt (qG 34 (xi xo z1) (xi xo z2)) (.one (.sc .slc)) Y K:=by
  intro Y Cs m hm z1 z2 e1 e2 G K hK;subst e1;subst e2;exact G.make ac aD gz i6 0 i4 i4 m m i4 i4 (qk _) i5 λa h' _ _ H'=>hK a h' H'.bw
 refine⟨s,i4,wa,hb.cell i4,s,i4,J,hb.cell i4,s,i4,p.2.2,show f7 h (s.add 3)=_ from hb.cell i4,?_,?_⟩
 ·refine mk nd i5 (by rw[hd]) (by rw[hd]) H λa Y G=>?_;have n:=G.box 1 i4;refine⟨⟨show f7 Y (s.add 3)=_ from n.cell i4,n.cell i4,n.cell i4,trivial⟩,?_⟩;have y:∀{h2:f8} {Cs:List HP} {I:List Sl} (i:Nat) (a:Sl) {s':Sl},aa B h0 h2 Cs->Cs[i]?=dB (HA s' I)->c.toNat<i0 I->∀{K:f8->Prop},(∀h',aa B h0 h' (Cs.set i (HA s' (I.set c.toNat a)))->K h')->∃x:fz,(s'.ptr=dB x/\0<=c/\c<((s'.len:Nat):Int))/\af xt (qf 34 (xk (dB (x.add (c.toNat*1)))) (xj a.ptr a.len a.cap)) h2 λ_ h'=>K h':=by intro h2 Cs I i a s' N hi hl K hK;exact N.set ac i hi (λ_=>rfl) i4 c.toNat i5 hl a i4 i4 i4 λh3 V=>hK h3 V
  obtain⟨x,hx,-⟩:=y (K:=λ_=>True) 2 a G rfl hw λ_ _=>trivial;refine⟨x,hx,?_,?_⟩
  ·refine mk w S X X G λb h2 N=>?_;have z:=N.box 2 i4;refine⟨⟨z.cell i4,z.cell i4,trivial⟩,?_⟩;obtain⟨x',O,hr⟩:=y (K:=λF=>av.ok [] F/\∃D:fz,(J.ptr=dB D/\0<=c/\c<((J.len:Nat):Int))/\
 af xt (qf 34 (xk (dB (D.add (c.toNat*1)))) (xj b.ptr b.len b.cap)) F λ_ A=>(av.ok [] A)/\K () A) 3 a N i4 hw λh3 V=>⟨trivial,y 4 b V i4 hm λh4 H4=>⟨trivial,hk a b h4 (H4.aZ 6 [1,0,2,3,4,5])⟩⟩
   have e:x=x':=zT.inj (hx.1.symm.trans O.1);subst e;exact hr
  ·obtain⟨x',O,hr⟩:=y (K:=λE=>av.ok [] E/\aA xt (qG 34 (xi xo p.2.2) (xi xo p.2.2)) (.one (.sc .slc)) E λk t=>
 (av.ok [] t)/\
 ∃u:fz,(J.ptr=dB u/\0<=c/\c<((J.len:Nat):Int))/\
 af xt (qf 34 (xk (dB (u.add (c.toNat*1)))) (xj k.ptr k.len k.cap)) t λ_ q=>
 (av.ok [] q)/\K () q) 2 a G i4 hw λh3 V=>⟨trivial,mk w S X X V λb h4 H4=>⟨trivial,y 4 b H4 i4 hm λh5 H5=>⟨trivial,hk a b h5 (H5.aZ 6 [1,0,2,3,4,5])⟩⟩⟩
   have e:x=x':=zT.inj (hx.1.symm.trans O.1);subst e;exact hr
 ·refine mk w S X X H λb Y G=>?_;have n:=G.box 1 i4;refine⟨⟨n.cell i4,n.cell i4,trivial⟩,?_⟩;refine mk nd i5 (by rw[hd]) (by rw[hd]) G λa h2 N=>?_;have z:=N.box 2 i4;refine⟨⟨z.cell i4,z.cell i4,trivial⟩,?_⟩;refine N.set ac 3 i4 (λ_=>rfl) i4 c.toNat i5 hw a i4 i4 i4 λh3 V=>⟨trivial,?_⟩
  refine V.set ac 4 i4 (λ_=>rfl) i4 c.toNat i5 hm b i4 i4 i4 λh4 H4=>⟨trivial,hk a b h4 (H4.aZ 6 [0,1,2,3,4,5])⟩
end
section
variable {B:aB} {h0 h:f8} {As:List HP}
theorem UU{h:f8}{Cs:List HP}(x:Sl)(m:Row)(nd:Nat)(z:Int)(H:aa B h0 h Cs)(w:z=nd)(D:nd<=64)(E:i0 m<=2^20){L L2:av}(v:L.ok h)(n:L2.ok h)(t:St B h0 Cs λh=>Rd h x 1 aD m){K:Sl->Sl->f8->Prop}
  (s:∀a b h',aY (λb=>b<h.size) h h'->aa B h0 h' (RA a (aK nd)::RA b m::Cs)->K a b h'):
  (aA xt (qG 34 (xi xo z) (xi xo z)) (.one (.sc .slc)) h λl d=>
 (av.ok L d)/\
 ae xt 146 #[(xj x.ptr x.len x.cap)] (.one (.sc .slc)) d λj f=>K l j f)/\(ae xt 146 #[(xj x.ptr x.len x.cap)] (.one (.sc .slc)) h λg e=>
 (av.ok L2 e)/\
 aA xt (qG 34 (xi xo z) (xi xo z)) (.one (.sc .slc)) e λi p=>K i g p):=by
 subst w;constructor
 ·refine H.LZ ac aD gz i6 0 i4 i4 nd nd i4 i4 (qk _) i5 λa r _ u c=>⟨lX u v,?_⟩
  have c:=c.bw;refine(fC x m r (t.at [_] c) i5).mono ?_;rintro _ o ⟨b,rfl,q⟩;exact⟨b,i4,s a b o (up u q.ag) ((c.ca q).oh)⟩
 ·refine(fC x m h (t.at [] H) i5).mono ?_;rintro _ r ⟨b,rfl,k⟩;have c:=H.ca k;refine⟨b,i4,lX k.ag n,?_⟩;refine c.LZ ac aD gz i6 0 i4 i4 nd nd i4 i4 (qk _) i5 λa o _ y A=>?_;exact s a b o (up k.ag y) A.bw
structure mK (pool pl:List (Sl×Row)) (wr mr:List Sl) (W M:aM):Prop where
 sub:∀x∈pool,x∈pl
 way:iv pl id wr W
 more:iv pl id mr M
theorem mK.step{pool f:List (Sl×Row)}{e g:List Sl}{W M:aM}(x:mK pool f e g W M)(c:Nat)(a b:Sl)(l m:Row):mK pool ((b,m)::(a,l)::f) (e.set c a) (g.set c b) (W.set c l) (M.set c m):=
 ⟨λy d=>by simp[x.sub y d],(x.way.mono λy d=>pb).set c jj,(x.more.mono λy d=>pb).set c jj⟩
theorem Zu(s f:fz)(p:Int×Int×Int)(v r u o E bd bb:Sl)(rr:List (Sl×Sl))(R:List fu)(ST:List (Int×Int))(D L:az)(n nd w:Nat)(pool:List (Sl×Row))(H:aa B h0 h (SA s (gC f p v r u o E bd bb)::lC pool::As))(Z:St B h0 As λh=>Zs h f r u o E rr R ST D L)
  (hv:v.len=n) (hn:n<=64) (hp:p.2.2=w) (hw:w<=2^20) (b3:i0 D=nd) (ad:nd<=64) (hR:∀e∈R,jf n w e) (hD:∀c∈D,0<=c/\c<(n:Int)) (b5:D.Nodup) (hg:tU (R.map qM) (·∈D) ST) (cl:i0 ST<=2^20) (bq:∀e∈R,i0 e.1<=2^20) (a7:(⟨eH,0,0⟩,[])∈pool):
  ab xt 218 #[xk (dB s)] h λv' h'=>v'=.tuple #[]/\∃d l z q I,aa B h0 h' (Told s f p v r u o E d l z q I++As)/\mK pool I z q (ST.foldl (ia R nd) (fZ n nd w D)).1 (ST.foldl (ia R nd) (fZ n nd w D)).2:=by
 refine Bo (dB s) ?_;unfold pD;have hb:=H.box 0 i4;have a5:o.len=nd:=by rw[(Z.at [_,_] H).dead.len,b3]
 refine⟨s,i4,o,show f7 h (s.add 7)=_ from hb.cell i4,?_⟩;refine bY (λ_ h'=>∃d l,d.len=n/\l.len=n/\aa B h0 h' (Told s f p v r u o E d l (qg n ⟨eH,0,0⟩) (qg n ⟨eH,0,0⟩) pool++As)) ?_ ?_
 ·exact Wu (K:=λ_ h'=>∃d l,d.len=n/\l.len=n/\aa B h0 h' (Told s f p v r u o E d l (qg n ⟨eH,0,0⟩) (qg n ⟨eH,0,0⟩) pool++As)) s f p v r u o E bd bb n pool H hv hn λd l h' h1 h2 N=>⟨d,l,h1,h2,N⟩
 rintro-h1 ⟨d,l,c2,cs,H1⟩;have br:=H1.box 0 i4;refine⟨s,i4,o,show f7 h1 (s.add 7)=_ from br.cell i4,?_⟩;refine aw (λt:Nat×List Sl×List Sl×List (Sl×Row)=>(t.1:Int)) (λt h'=>t.1<=nd/\aa B h0 h' (Told s f p v r u o E d l t.2.1 t.2.2.1 t.2.2.2++As)/\mK pool t.2.2.2 t.2.1 t.2.2.1 (fZ n nd w (D.take t.1)).1 (fZ n nd w (D.take t.1)).2) (λt=>nd-t.1)
  (0,qg n ⟨eH,0,0⟩,qg n ⟨eH,0,0⟩,pool) i4 ⟨i5,H1,⟨λ_ h=>h,NO pool a7 n,NO pool a7 n⟩⟩ ?_
 rintro⟨i,z,q,I⟩ h2 ⟨hi,H2,T2⟩;dsimp only at*;have b9:=acd n nd w (D.take i);have V:=T2.way.1;have O:=T2.more.1;refine ai (λe=>?_) (λe=>?_)
 ·have Y:i<nd:=i5
  have S:=hD _ (qh (show i<i0 D by omega));refine(Z.at [_,_,_,_] H2).dead.bC i i4 i5 _ i4 ?_;refine bY (λ_ h'=>∃a b,aa B h0 h' (RA a (aK nd)::RA b (aK w)::(Told s f p v r u o E d l (z.set D[i].toNat a) (q.set D[i].toNat b) I++As))) ?_ ?_
  ·exact Zt (K:=λ_ h'=>∃a b,aa B h0 h' (RA a (aK nd)::RA b (aK w)::(Told s f p v r u o E d l (z.set D[i].toNat a) (q.set D[i].toNat b) I++As))) s f p v r u o E d l z q I D[i] nd w H2 S.1 i5 i5 hp a5 ad hw λa b h' N=>⟨a,b,N⟩
  rintro-h3 ⟨a,b,H3⟩;refine⟨s,i4,d,(H3.box 2 i4).cell i4,?_⟩;refine(H3.seq 3 i4 λ_=>rfl).mS D[i].toNat i5 i9 ?_;rw[vd];refine H3.set ac 0 i4 (λ_=>rfl) i4 i i4 (by simp[aK];omega) 1 i4 i4 i4 λh4 H4=>?_;have H5:=(H4.freeze 0 i4 λ_=>rfl).pool 5 0 i6 i4 i4;have H6:=(H5.freeze 1 i4 λ_=>rfl).pool 5 1 i6 i4 i4;refine⟨(i+1,z.set D[i].toNat a,q.set D[i].toNat b,_),js,⟨i7,H6.aZ 6 [2,3,4,5],?_⟩,i7⟩;dsimp only;have e1:D.take (i+1)=D.take i++[D[i]]:=aG _ _;have e2:i0 (D.take i)=i:=i9
  rw[e1,Mn,e2];exact T2.step D[i].toNat a b (oI nd i) (aK w)
 have am:i=i0 D:=i5
 subst am;rw[qW]at T2 b9 V O;refine⟨s,i4,u,(H2.box 0 i4).cell i4,?_⟩;have cf:=(Z.at [_,_,_,_] H2).steps.len;refine aw (λt:Nat×List Sl×List Sl×List (Sl×Row)=>(t.1:Int)) (λt h'=>t.1<=i0 ST/\aa B h0 h' (Told s f p v r u o E d l t.2.1 t.2.2.1 t.2.2.2++As)/\mK pool t.2.2.2 t.2.1 t.2.2.1 ((ST.take t.1).foldl (ia R nd) (fZ n nd w D)).1 ((ST.take t.1).foldl (ia R nd) (fZ n nd w D)).2) (λt=>i0 ST-t.1)
  (0,z,q,I) i4 ⟨jj,H2,T2⟩ ?_
 clear V O T2 H2 hi e;rintro⟨i,z,q,I⟩ h3 ⟨hi,H3,T3⟩;dsimp only at*;obtain⟨dk,-⟩:=OG (nd:=nd) (w:=w) hD b5 D.length (qk _);rw[qW]at dk;have a8:=QK (l1:=ST.take i) (l2:=ST.drop i) (by rw[qK];exact hg);obtain⟨a9,-⟩:=KZ hR a8.1 dk;obtain⟨W,hW⟩:∃W,W=((ST.take i).foldl (ia R nd) (fZ n nd w D)).1:=⟨_,rfl⟩
 obtain⟨M,hM⟩:∃M,M=((ST.take i).foldl (ia R nd) (fZ n nd w D)).2:=⟨_,rfl⟩
 have ax:(ST.take i).foldl (ia R nd) (fZ n nd w D)=(W,M):=by rw[hW,hM]
 have G:WOk n nd w (λc=>c∈D∨∃j,(j,c)∈ST.take i) W M:=by rw[hW,hM];exact a9
 rw[<-hW,<-hM]at T3;clear a9 hW hM;have cr:=G.wl;have c0:=G.ml;have V:=T3.way.1;have O:=T3.more.1;refine ai (λe=>?_) (λe=>?_)
 ·have Y:i<i0 ST:=i5
  have ap:=a8.2;rw[qQ Y]at ap;obtain⟨row,bv,ar⟩:∃row bv,ST[i]=(row,bv):=⟨_,_,rfl⟩
  rw[ar]at ap;obtain⟨g1,g2,g3,g4,-⟩:=ap;have m:row.toNat<i0 R:=by have:=g1.2;rw[qA]at this;omega
  obtain⟨k,T⟩:∃k,k=R[row.toNat]:=⟨_,rfl⟩
  have er:R.getD row.toNat ([],[])=k:=by rw[qe,qd m,T];rfl
  have b1:(R.map qM).getD row.toNat []=k.1:=by rw[qe,qS,qd m,T];rfl
  rw[b1]at g3 g4;have J:=hR k (T▸qh m);have cp:=bq k (T▸qh m);have c1:=J.cS bv g3;have G3:=Z.at [_,_,_,_] H3;have hF:=G3.rest.2.1;refine G3.steps.eJ (g:=fL) i i4 Y ST[i] i4 ?_;rw[ar];refine H3.GK ac i4 λa50 h4 P4 H4=>?_;have H4:=H4.bw;refine H4.storeAll ac 0 i4 i4 (fL (row,bv)) i4 i4 i4 i4 λh5 H5=>?_;have b7:row.toNat<i0 rr:=by rw[hF];exact m
  obtain⟨y,hy⟩:∃y,y=rr[row.toNat]:=⟨_,rfl⟩
  have A:∀{h'},ol jL 2 qv h' r rr R->jL.p h' (λb=>b<h'.size) y k:=λhh=>by rw[hy,T];exact Fix.row hh m
  refine bY (λa' h'=>aa B h0 h' (ao a' 275 (qv y)::ao a50 332 (fL (row,bv))::(Told s f p v r u o E d l z q I++As))) ?_ ?_
  ·have a1:=H5.box 1 i4;have G5:=Z.at [_,_,_,_,_] H5;refine⟨s,i4,r,a1.cell i4,row,(H5.box 0 i4).cell0 i4,?_⟩;obtain⟨cd,ha,x,S,rfl⟩:=G5.rest.1.eJ (g:=qv) (i:=row) row.toNat i5 b7 y (by rw[hy]) (K:=λx=>x=y) rfl;refine⟨cd,ha,_,S,?_⟩;refine H5.GK ac i4 λQ h6 P6 H6=>⟨⟨pI S.1 P6,pI S.2.1 P6,pI ((H5.box 0 i4).cell0 i4) P6,pI (a1.cell i4) P6,trivial⟩,?_⟩
   have H6:=H6.bw;refine H6.storeAll ac 0 i4 i4 (qv x) i4 i4 i4 i4 λh7 H7=>⟨trivial,H7⟩
  intro Q h7 H7;refine bY (λt h'=>aa B h0 h' (RA t.1 (aK nd)::RA t.2 k.2::ao Q 275 (qv y)::ao a50 332 (fL (row,bv))::(Told s f p v r u o E d l z q I++As))) ?_ ?_
  ·have a2:=H7.box 0 i4;refine⟨y.2,a2.cell i4,?_⟩;exact UU (L:=[(Q.add 1,xj y.2.ptr y.2.len y.2.cap)]) (K:=λa b h'=>av.ok [] h'/\aa B h0 h' (RA a (aK nd)::RA b k.2::ao Q 275 (qv y)::ao a50 332 (fL (row,bv))::(Told s f p v r u o E d l z q I++As))) y.2 k.2 nd _ H7 (by rw[a5]) ad (by rw[J.len];exact hw) ⟨a2.cell i4,trivial⟩ (L2:=[]) trivial (St.mk' λh' N=>(A (Z.at [_,_,_,_,_,_] N).rest).2) λa b h' _ N=>⟨trivial,N⟩
  rintro⟨U,more⟩ h8 H8;dsimp only at H8;refine⟨y.1,(H8.box 2 i4).cell0 i4,?_⟩;have cn:=(A (Z.at [_,_,_,_,_,_,_,_] H8).rest).1.len;let F:Nat->az:=λj=>(k.1.take j).filter λc=>!decide (c=bv);refine aw (λj:Nat=>(j:Int)) (λj h'=>j<=i0 k.1/\aa B h0 h' (RA U (cP W (aK nd) (F j))::RA more (cP M k.2 (F j))::ao Q 275 (qv y)::ao a50 332 (fL (row,bv))::(Told s f p v r u o E d l z q I++As))) (λj=>i0 k.1-j) 0 i4 ⟨i5,by simpa[F,cP]using H8⟩ ?_;rintro j h9 ⟨hj,H9⟩;have told:∀c∈F j,i0 (aC W c.toNat)=nd/\(aC M c.toNat).length=w:=λc S=>by
   have a3:=qI.1 S;have hm:=zS a3.1;exact G.rw_ c (g4 c hm (by simpa using a3.2)) (J.cS c hm).1 (J.cS c hm).2
  have bk:i0 (cP W (aK nd) (F j))=nd:=kf k6 λc S=>(told c S).1;have ay:i0 (cP M k.2 (F j))=w:=kf J.len λc S=>(told c S).2;refine ai (λe2=>?_) (λe2=>?_)
  ·have P:j<i0 k.1:=i5
   have ah:=J.cS _ (qh P);refine(A (Z.at [_,_,_,_,_,_,_,_] H9).rest).1.bC j i4 P _ i4 ?_;refine⟨bv,(H9.box 3 i4).cell i4,?_⟩;refine bQ (λa0=>?_) (λb2=>?_)
   ·have tc:=G.rw_ k.1[j] (g4 _ (qh P) a0) ah.1 ah.2;refine(IJ s f 1 k.1[j] U more d l _ _ z q W M H9 (St.mk' λh' N=>?_) ah.1 i5 i5 (by rw[tc.1,bk]) (by rw[tc.2,ay]) i5 i5).mono ?_
    ·exact DT.of (N.box 2 i4) (Z.at [_,_,_,_,_,_] N).field (N.Fa 3 5 i4 i4 T3.way) (N.Fa 4 5 i4 i4 T3.more)
    rintro _ cc ⟨rfl,X⟩;have e3:F (j+1)=F j++[k.1[j]]:=by simp only[F];rw[jW _ _ P];simp[a0]
    exact⟨(),i4,j+1,j1,⟨i5,by rw[e3,uu,uu];exact X⟩,i5⟩
   ·have e3:F (j+1)=F j:=by simp only[F];rw[jW _ _ P];simp[b2]
    exact⟨j+1,j1,⟨i5,by rw[e3];exact H9⟩,i5⟩
  ·have b0:j=i0 k.1:=i5
   subst b0;have a4:=H9.box 3 i4;have a6:=H9.box 4 i4;refine⟨s,i4,d,a6.cell i4,bv,a4.cell i4,s,i4,l,a6.cell i4,bv,a4.cell i4,?_⟩;refine H9.set ac 5 i4 (λ_=>rfl) i4 bv.toNat i5 i5 U i4 i4 i4 λcc X=>⟨⟨(X.box 3 i4).cell i4,trivial⟩,?_⟩
   refine X.set ac 6 i4 (λ_=>rfl) i4 bv.toNat i5 i5 more i4 i4 i4 λcq b6=>⟨trivial,?_⟩
   have b4:=(b6.freeze 0 i4 λ_=>rfl).pool 7 0 i6 i4 i4;have bl:=(b4.freeze 1 i4 λ_=>rfl).pool 7 1 i6 i4 i4;refine⟨(i+1,z.set bv.toNat U,q.set bv.toNat more,_),js,⟨i7,bl.aZ 8 [4,5,6,7],?_⟩,i7⟩;dsimp only;rw[aG _ _ Y,wC,ax,ar];have e3:[(row,bv)].foldl (ia R nd) (W,M)=(W.set bv.toNat (cP W (aK nd) (F k.1.length)),M.set bv.toNat (cP M k.2 (F k.1.length))):=by simp only[zB,List.foldl_nil,ia,er,F,qW]
   rw[e3];exact T3.step bv.toNat U more _ _
 ·have am:i=i0 ST:=i5
  subst am;rw[qW]at ax;exact⟨i4,d,l,z,q,I,H3,by rw[ax];exact T3⟩
end
def kS(nd:Nat)(known:List Bool)(vals:aM)(s:aM×aM)(i:Nat):aM×aM:=
 (s.1.mapIdx λc r=>if c<i/\known.getD c eS=eR then aK nd else r,s.2.mapIdx λc r=>if c<i/\known.getD c eS=eR then aC vals c else r)
theorem Zv(nd:Nat)(known:List Bool)(vals:aM)(s:aM×aM):kS nd known vals s 0=s:=by unfold kS;refine y5 ?_ ?_<;>refine wv jj λi a b=>?_<;>simp
theorem ace(nd:Nat)(known:List Bool)(vals:aM)(s:aM×aM){n:Nat}(a:i0 s.1=n)(b:i0 s.2=n):kS nd known vals s n=iN nd known vals s:=by unfold kS iN;refine y5 ?_ ?_<;>refine wv jj λi a b=>?_<;>simp at a<;>simp[show i<n by omega]
theorem acf(nd:Nat)(known:List Bool)(vals:aM)(s:aM×aM){i:Nat}(d:known.getD i eS=eR):kS nd known vals s (i+1)=((kS nd known vals s i).1.set i (aK nd),(kS nd known vals s i).2.set i (aC vals i)):=by
 unfold kS;refine y5 ?_ ?_<;>refine wv jj λj e f=>?_<;>simp only[List.getElem_mapIdx,List.getElem_set]<;>by_cases c:i=j
 ·subst c;rw[f9 ⟨i5,d⟩,f9 rfl]
 ·rw[g0 c];congr 1;simp only[eq_iff_iff];constructor<;>rintro⟨a,b⟩<;>exact⟨i5,b⟩
 ·subst c;rw[f9 ⟨i5,d⟩,f9 rfl]
 ·rw[g0 c];congr 1;simp only[eq_iff_iff];constructor<;>rintro⟨a,b⟩<;>exact⟨i5,b⟩
theorem aex(nd:Nat)(known:List Bool)(vals:aM)(s:aM×aM){i:Nat}(e:known.getD i eS=eS):kS nd known vals s (i+1)=kS nd known vals s i:=by
 have d:∀j,(j<i+1/\known.getD j eS=eR)↔(j<i/\known.getD j eS=eR):=λj=>by
  constructor
  ·rintro⟨a,b⟩;by_cases c:j=i
   ·subst c;rw[e]at b;cases b
   ·exact⟨i5,b⟩
  ·rintro⟨a,b⟩;exact⟨i5,b⟩
 unfold kS;simp only[d]
section
variable {B:aB} {h0 h:f8} {As:List HP}
theorem acg(s f:fz)(p:Int×Int×Int)(v r L D O I G:Sl)(j d g:List Sl)(k:List (Sl×Row))(known:List Bool)(V W M:aM)(n nd:Nat)(H:aa B h0 h (Told s f p v r L D O I G d g k++HA v j::As))(hn:n<=64)(u:D.len=nd)(am:nd<=64)(Z:mK k k d g W M)(R:iv k id j V)(X:i0 V=n)(F:i0 W=n)(E:i0 M=n)
  (hk:∀(c:Nat) (hc:c<i0 j),j[c].ptr.isNone=!(known.getD c eS)):
  ab xt 219 #[xk (dB s)] h λU h'=>U=.tuple #[]/\∃d g b,aa B h0 h' (Told s f p v r L D O I G d g b++HA v j::As)/\mK k b d g (iN nd known V (W,M)).1 (iN nd known V (W,M)).2:=by
 refine CB (dB s) ?_;unfold rp;have Q:=R.1;have K:v.len=n:=by rw[(H.own 4 i4).len];omega
 refine⟨s,i4,v,(H.box 0 i4).cell i4,?_⟩;refine aw (λt:Nat×List Sl×List Sl×List (Sl×Row)=>(t.1:Int)) (λt h'=>t.1<=n/\aa B h0 h' (Told s f p v r L D O I G t.2.1 t.2.2.1 t.2.2.2++HA v j::As)/\mK k t.2.2.2 t.2.1 t.2.2.1 (kS nd known V (W,M) t.1).1 (kS nd known V (W,M) t.1).2) (λt=>n-t.1) (0,d,g,k) i4 ⟨i5,H,by rw[Zv];exact Z⟩ ?_;rintro⟨i,d,g,b⟩ Y ⟨hi,A,l⟩;dsimp only at*;have ap:(kS nd known V (W,M) i).1.length=n:=by simp[kS,F]
 have ad:(kS nd known V (W,M) i).2.length=n:=by simp[kS,E]
 have S:=l.way.1;have P:=l.more.1;refine ai (λe=>?_) (λe=>?_)
 ·have ah:i<n:=i5
  refine(A.seq 4 i4 λ_=>rfl).mS i i4 i5 ?_;have w:=hk i i5;refine bh (λz=>?_) (λz=>?_)
  ·have m:known.getD i eS=eR:=by rw[w]at z;simpa using z
   have q:=A.box 0 i4;refine⟨s,i4,I,q.cell i4,s,i4,G,q.cell i4,s,i4,D,show f7 Y (s.add 7)=_ from q.cell i4,?_⟩;refine A.LZ ac aD gz i6 0 i4 i4 nd nd (by rw[u]) (by rw[u]) (qk _) i5 λa h2 _ P2 J=>?_;have J:=J.bw;have o:=J.box 1 i4;refine⟨⟨show f7 h2 (s.add 7)=_ from o.cell i4,o.cell i4,o.cell i4,trivial⟩,?_⟩;refine J.set ac 2 i4 (λ_=>rfl) i4 i i4 i5 a i4 i4 i4 λh3 H3=>⟨trivial,?_⟩
   refine H3.set ac 3 i4 (λ_=>rfl) i4 i i4 i5 (j[i]'(by omega)) i4 i4 i4 λh4 T=>⟨trivial,?_⟩
   have H5:=(T.freeze 0 i4 λ_=>rfl).pool 4 0 i6 i4 i4;refine⟨(i+1,d.set i a,g.set i (j[i]'(by omega)),_),js,⟨i7,H5.aZ 5 [1,2,3,4],?_⟩,i7⟩;dsimp only;rw[acf nd known V (W,M) m];have hm:((j[i]'(by omega)),aC V i)∈k:=by have:=R.get (i:=i) i5;rw[mR i5];exact this
   exact⟨λx y=>qC _ (l.sub x y),(l.way.mono λx y=>qC _ y).set i k6,(l.more.mono λx y=>qC _ y).set i (qC _ (l.sub _ hm))⟩
  ·have m:known.getD i eS=eS:=by rw[w]at z;simpa using z
   exact⟨(i+1,d,g,b),js,⟨i7,A,by dsimp only;rw[aex nd known V (W,M) m];exact l⟩,i7⟩
 ·have N:i=n:=i5
  subst N;exact⟨i4,d,g,b,A,by rw[<-ace nd known V (W,M) F E];exact l⟩
def nP(nd:Nat)(known:List Bool)(vals W M D:aM)(i:Nat):aM:=vals.mapIdx λc r=>if c<i/\known.getD c eS=eS then gQ D (aC W c) (aC M c) nd else r
theorem ach(nd:Nat)(known:List Bool)(vals W M D:aM):nP nd known vals W M D 0=vals:=by unfold nP;refine wv jj λi a b=>?_;simp
theorem aey(nd:Nat)(known:List Bool)(vals W M D:aM){n:Nat}(a:i0 vals=n):nP nd known vals W M D n=An nd known vals W M D:=by
 unfold nP An;refine wv jj λi a b=>?_;simp at a;simp only[List.getElem_mapIdx];cases hk:known.getD i eS
 ·rw[f9 ⟨i5,i4⟩,g0 jj]
 ·rw[g0 jj,f9 rfl]
theorem aez(nd:Nat)(known:List Bool)(vals W M D:aM){i:Nat}(e:known.getD i eS=eR):nP nd known vals W M D (i+1)=nP nd known vals W M D i:=by
 have d:∀j,(j<i+1/\known.getD j eS=eS)↔(j<i/\known.getD j eS=eS):=λj=>by
  constructor
  ·rintro⟨a,b⟩;by_cases c:j=i
   ·subst c;rw[e]at b;cases b
   ·exact⟨i5,b⟩
  ·rintro⟨a,b⟩;exact⟨i5,b⟩
 unfold nP;simp only[d]
theorem agN(nd:Nat)(known:List Bool)(vals W M D:aM){i:Nat}(d:known.getD i eS=eS):nP nd known vals W M D (i+1)=(nP nd known vals W M D i).set i (gQ D (aC W i) (aC M i) nd):=by
 unfold nP;refine wv jj λj e f=>?_;simp only[List.getElem_mapIdx,List.getElem_set];by_cases c:i=j
 ·subst c;rw[f9 ⟨i5,d⟩,f9 rfl]
 ·rw[g0 c];congr 1;simp only[eq_iff_iff];constructor<;>rintro⟨a,b⟩<;>exact⟨i5,b⟩
theorem aci(s f:fz)(p:Int×Int×Int)(v r Y T lf J F dead:Sl)(g E z dr:List Sl)(A:List (Sl×Row))(known:List Bool)(V W M D:aM)(n nd w:Nat)(H:aa B h0 h (Told s f p v r Y T lf J F E z A++HA v g::As))(hS:St B h0 As λh=>fI h f/\iH h (λb=>b<h.size) dead 1 aD D dr)(hn:n<=64)(hw:w<=2^20)(bd:nd<=64)(X:mK A A E z W M)(hV:iv A id g V)(I:i0 V=n)(bb:i0 W=n)(bk:i0 M=n)
  (Q:∀c,c<n->i0 (aC W c)=nd/\(aC M c).length=w) (bl:i0 D=nd) (L:aV w D) (hk:∀(c:Nat) (l:c<i0 g),g[c].ptr.isNone=!(known.getD c eS)):
  ab xt 222 #[xk (dB s),dead] h λv' h'=>v'=.tuple #[]/\∃N a,aa B h0 h' (Told s f p v r Y T lf J F E z a++HA v N::As)/\iv a id N (An nd known V W M D):=by
 refine Dw (dB s) dead ?_;unfold sf;have a5:=hV.1;have ar:v.len=n:=by rw[(H.own 4 i4).len];omega
 have a6:=X.way.1;have a3:=X.more.1;refine⟨s,i4,v,(H.box 0 i4).cell i4,?_⟩;refine aw (λt:Nat×List Sl×List (Sl×Row)=>(t.1:Int)) (λt h'=>t.1<=n/\aa B h0 h' (Told s f p v r Y T lf J F E z t.2.2++HA v t.2.1::As)/\iv t.2.2 id t.2.1 (nP nd known V W M D t.1)/\(∀x∈A,x∈t.2.2)/\∀(c:Nat) (l:c<i0 t.2.1),t.1<=c->t.2.1[c].ptr.isNone=!(known.getD c eS)) (λt=>n-t.1) (0,g,A) i4 ⟨i5,H,by rw[ach];exact hV,λ_ h=>h,λc l _=>hk c l⟩ ?_;rintro⟨i,g,a⟩ h1 ⟨hi,u,U,d,q⟩;dsimp only at*;have a7:i0 (nP nd known V W M D i)=n:=by simp[nP,I]
 have a4:=U.1;refine ai (λe=>?_) (λe=>?_)
 ·have ap:i<n:=i5
  have K:=u.box 0 i4;refine⟨s,i4,v,K.cell i4,?_⟩;refine(u.seq 4 i4 λ_=>rfl).mS i i4 i5 ?_;have P:=q i i5 (qk _);refine bh (λO=>?_) (λO=>?_)
  ·have y:known.getD i eS=eR:=by rw[P]at O;simpa using O
   exact⟨(i+1,g,a),js,⟨i7,u,by dsimp only;rw[aez nd known V W M D y];exact U,d,λc l h=>q c l (by dsimp only at h;omega)⟩,i7⟩
  have y:known.getD i eS=eS:=by rw[P]at O;simpa using O
  have a2:=Q i ap;have a1:((z[i]'(by omega)),aC M i)∈a:=by have:=(X.more.mono d).get (i:=i) i5;rw[mR i5];exact this
  have G:((E[i]'(by omega)),aC W i)∈a:=by have:=(X.way.mono d).get (i:=i) i5;rw[mR i5];exact this
  refine⟨s,i4,F,K.cell i4,?_⟩;refine(u.seq 2 i4 λ_=>rfl).mS i i4 i5 ?_;refine(fC _ (aC M i) h1 (u.NK 3 i4 a1) i5).mono ?_;rintro _ h2 ⟨b,rfl,R2⟩;have Z:=u.ca R2;have ay:=Z.box 1 i4;refine⟨b,i4,s,i4,J,ay.cell i4,?_⟩;refine(Z.seq 2 i4 λ_=>rfl).mS i i4 i5 ?_;have ah:=(Z.NK 4 i4 G).len;refine aw (λj:Nat=>(j:Int)) (λj h'=>j<=nd/\aa B h0 h' (RA b (gQ D (aC W i) (aC M i) j)::(Told s f p v r Y T lf J F E z a++HA v g::As))) (λj=>nd-j) 0 i4 ⟨i5,Z⟩ ?_;rintro j h3 ⟨hj,R⟩;refine ai (λe3=>?_) (λe3=>?_)
  ·have a9:j<nd:=i5
   have o:j<i0 (aC W i):=i5
   refine(R.NK 4 i4 G).bC j i4 o _ i4 ?_;obtain⟨S1,S2⟩:=hS.at [_,_,_,_,_,_] R;have a8:=S2.len;refine S2.top.mS j i4 i5 ?_;have ax:i0 (D[j]'(by omega))=w:=L _ (qh _);have S:(aC W i)[j]'o=aN (aC W i) j:=by rw[aN,qe,qd o];rfl
   have am:i0 (gQ D (aC W i) (aC M i) j)=w:=mw _ a2.2 λk hk=>cx L;rw[S];refine II s f (aN (aC W i) j) (dr[j]'(by omega)) b (D[j]'(by omega)) _ R (St.mk' λh' H'=>?_) (by rw[ax,am]) i5 λh4 H4=>?_
   ·obtain⟨q1,q2⟩:=hS.at [_,_,_,_,_] H';exact⟨(H'.box 0 i4).cell0 i4,q1,q2.row _ _ _ (qd _) (qd _)⟩
   ·refine⟨j+1,j1,⟨i5,?_⟩,i5⟩;rw[gQ,mR (m:=D) (i:=j) i5];exact H4
  ·have a0:j=nd:=i5
   subst a0;refine⟨s,i4,v,(R.box 1 i4).cell i4,?_⟩;refine R.set ac 5 i4 (λ_=>rfl) i4 i i4 i5 b i4 i4 i4 λh4 H4=>?_;have H5:=(H4.freeze 0 i4 λ_=>rfl).pool 4 0 i6 i4 i4;refine⟨(i+1,g.set i b,_),js,⟨i7,H5.aZ 6 [1,2,3,4,5],?_,λx hx=>qC _ (d x hx),λc l h=>?_⟩,i7⟩
   ·dsimp only;rw[agN j known V W M D y];exact(U.mono λx hx=>qC _ hx).set i jj
   ·dsimp only at l h⊢;rw[List.getElem_set_ne i5];exact q c (by simpa using l) i5
 ·have ad:i=n:=i5
  subst ad;exact⟨i4,g,a,u,by rw[<-aey nd known V W M D I];exact U⟩
end
section
variable {B:aB} {h0 h:f8} {As:List HP}
abbrev MA(s:Sl)(m:aM):HP:=fQ 34 s 1 aD m
abbrev UV:jz Sl Row:=ahm (cu 1 aD) λr _=>r.len<=r.cap
abbrev CA(s:Sl)(m:aM):HP:=cm 34 s 1 bs UV m
theorem aa.acj{e:Nat}{s:Sl}{l:Row}(H:aa B h0 h As)(i:Nat)(c:As[i]?=dB (al e s 1 aD l)):aa B h0 h (As.set i (EA UV s l)):=
 H.gg i c λ_ ⟨a,b⟩=>⟨a.seq (λ_=>rfl) b,a.cap⟩
theorem Zw(s f:fz)(p:Int×Int×Int)(v r S J Q I G:Sl)(F m:List Sl)(O:List (Sl×Row))(rr:List (Sl×Sl))(R:List fu)(ST:List (Int×Int))(D L:az)(W M:aM)(n nd w:Nat)(H:aa B h0 h (Told s f p v r S J Q I G F m O++As))(hS:St B h0 As λh=>Zs h f r S J Q rr R ST D L)
  (hn:n=p.1.toNat+p.2.1.toNat) (hp:p.2.2=w) (hw:w<=2^20) (ay:bB p=eR) (b0:i0 D=nd) (a7:nd<=64) (hR:∀e∈R,jf n w e) (bk:∀e∈R,i0 e.1<=2^20) (hL:∀i∈L,0<=i/\i<(i0 R:Int)) (cl:i0 L<=2^20) (hT:mK O O F m W M) (cd:i0 W=n) (cn:i0 M=n)
  (u:∀c,c<n->i0 (aC W c)=nd/\(aC M c).length=w):
  ab xt 220 #[xk (dB s)] h λv' h'=>∃a b:Sl,v'=.tuple #[a,b]/\aa B h0 h' (MA a (dH n nd R W L (bz p.1.toNat p.2.1.toNat))::CA b (fH n w R M L (bz p.1.toNat p.2.1.toNat))::(Told s f p v r S J Q I G F m O++As)):=by
 refine Bp (dB s) ?_;unfold pE;have hb:=H.box 0 i4;have X:J.len=nd:=by rw[(hS.at [_,_,_,_] H).dead.len,b0]
 have cf:=(bZ p).1 ay;have b6:=hT.way.1;have b4:=hT.more.1;refine⟨s,i4,J,show f7 h (s.add 7)=_ from hb.cell i4,s,i4,Q,show f7 h (s.add 8)=_ from hb.cell i4,?_⟩;have b7:=(hS.at [_,_,_,_] H).left.len;have ax:∀{h':f8} {Cs:List HP},aa B h0 h' (Cs++(Told s f p v r S J Q I G F m O++As))->aa B h0 h' (Told s f p v r S J Q I G F m O++As):=λ{h' Cs} T=>T.take Cs.length λi A hi=>by
  rw[qj i5,Nat.add_sub_cancel_left];exact hi
 have SR:∀{h':f8},aa B h0 h' (Told s f p v r S J Q I G F m O++As)->DT h' s f I G F m W M:=λT=>DT.of (T.box 0 i4) (hS.at [_,_,_,_] T).field (T.Fa 1 3 i4 i4 hT.way) (T.Fa 2 3 i4 i4 hT.more);let rA:Int->Row:=λi=>cP W (aK nd) (R.getD i.toNat ([],[])).1;let rB:Int->Row:=λi=>cP M (R.getD i.toNat ([],[])).2 (R.getD i.toNat ([],[])).1;have H0:aa B h0 h (MA ⟨eH,0,0⟩ []::CA ⟨eH,0,0⟩ []::(Told s f p v r S J Q I G F m O++As)):=((H.KL 34 1 bs UV).bw.LX 34 1 aD).bw;refine aw (λt:Nat×Sl×Sl=>(t.2.1,t.2.2,(t.1:Int))) (λt h'=>t.1<=i0 L/\aa B h0 h' (MA t.2.1 ((L.take t.1).map rA)::CA t.2.2 ((L.take t.1).map rB)::(Told s f p v r S J Q I G F m O++As))) (λt=>i0 L-t.1) (0,⟨eH,0,0⟩,⟨eH,0,0⟩) i4 ⟨jj,H0⟩ ?_;rintro⟨i,a,b⟩ h1 ⟨hi,H1⟩;dsimp only at*;refine ai (λe=>?_) (λe=>?_)
 ·have o:i<i0 L:=i5
  have G1:=hS.at [_,_,_,_,_,_] H1;refine G1.left.bC i i4 o _ i4 ?_;have hx:=hL _ (qh o);generalize b1:L[i]=x at hx⊢;have E:x.toNat<i0 R:=i5
  obtain⟨d,ar⟩:∃d,d=R[x.toNat]:=⟨_,rfl⟩
  have er:R.getD x.toNat ([],[])=d:=by rw[qe,qd E,ar];rfl
  have ap:=hR d (ar▸qh E);have cc:=bk d (ar▸qh E);have hF:=G1.rest.2.1;have a9:x.toNat<i0 rr:=by rw[hF];exact E
  obtain⟨y,hy⟩:∃y,y=rr[x.toNat]:=⟨_,rfl⟩
  have N:∀{h'},ol jL 2 qv h' r rr R->jL.p h' (λb=>b<h'.size) y d:=λhh=>by rw[hy,ar];exact Fix.row hh E
  refine bY (λt h'=>aa B h0 h' (RA t.1 (aK nd)::RA t.2 d.2::MA a ((L.take i).map rA)::CA b ((L.take i).map rB)::(Told s f p v r S J Q I G F m O++As))) ?_ ?_
  ·have am:=H1.box 2 i4;refine⟨s,i4,r,am.cell i4,?_⟩;obtain⟨bb,ha,z,hc,rfl⟩:=G1.rest.1.eJ (g:=qv) (i:=x) x.toNat i5 a9 y (by rw[hy]) (K:=λz=>z=y) rfl;refine⟨bb,ha,z.2,hc.2.1,?_⟩;have a6:av.ok [(s.add 5,xj r.ptr r.len r.cap)] h1:=⟨am.cell i4,trivial⟩
   exact UU (L:=[((bb.add (x.toNat*2)).add 1,xj z.2.ptr z.2.len z.2.cap),(s.add 5,xj r.ptr r.len r.cap)]) (L2:=[(s.add 5,xj r.ptr r.len r.cap)]) (K:=λa' b' h'=>av.ok [(s.add 5,xj r.ptr r.len r.cap)] h'/\aa B h0 h' (RA a' (aK nd)::RA b' d.2::MA a ((L.take i).map rA)::CA b ((L.take i).map rB)::(Told s f p v r S J Q I G F m O++As)))
    z.2 d.2 nd _ H1 (by rw[X]) a7 (by rw[ap.len];exact hw) ⟨hc.2.1,a6⟩ a6 (St.mk' λh' T=>(N (hS.at [_,_,_,_,_,_] T).rest).2) λa b h' P T=>⟨lX P a6,T⟩
  rintro⟨ad,more⟩ h2 H2;dsimp only at H2;have G2:=hS.at [_,_,_,_,_,_,_,_] H2;refine⟨s,i4,r,(H2.box 4 i4).cell i4,?_⟩;obtain⟨br,ha,z,hc,rfl⟩:=G2.rest.1.eJ (g:=qv) (i:=x) x.toNat i5 a9 y (by rw[hy]) (K:=λz=>z=y) rfl;refine⟨br,ha,z.1,hc.1,?_⟩;have bq:=(N G2.rest).1.len;refine aw (λj:Nat=>(j:Int)) (λj h'=>j<=i0 d.1/\aa B h0 h' (RA ad (cP W (aK nd) (d.1.take j))::RA more (cP M d.2 (d.1.take j))::MA a ((L.take i).map rA)::CA b ((L.take i).map rB)::(Told s f p v r S J Q I G F m O++As))) (λj=>i0 d.1-j) 0 i4 ⟨i5,by simpa[cP]using H2⟩ ?_;rintro j h3 ⟨hj,H3⟩;have told:∀c∈d.1.take j,i0 (aC W c.toNat)=nd/\(aC M c.toNat).length=w:=λc hc=>by
   have b9:=ap.cS c (zS hc);exact u c.toNat i5
  have Z:i0 (cP W (aK nd) (d.1.take j))=nd:=kf k6 λc hc=>(told c hc).1;have V:i0 (cP M d.2 (d.1.take j))=w:=kf ap.len λc hc=>(told c hc).2;refine ai (λe2=>?_) (λe2=>?_)
  ·have Y:j<i0 d.1:=i5
   have bl:=ap.cS _ (qh Y);refine(N (hS.at [_,_,_,_,_,_,_,_] H3).rest).1.bC j i4 Y _ i4 ?_;have tc:=u d.1[j].toNat i5;refine(IJ s f 1 d.1[j] ad more I G _ _ F m W M H3 (St.mk' λh' T=>SR (ax (Cs:=[_,_]) T)) bl.1 i5 i5 (by rw[tc.1,Z]) (by rw[tc.2,V]) i5 i5).mono ?_;rintro _ h4 ⟨rfl,U⟩;exact⟨(),i4,j+1,j1,⟨i5,by rw[aG _ _ Y,uu,uu];exact U⟩,i5⟩
  ·have a0:j=i0 d.1:=i5
   subst a0;rw[qW]at H3;have U:=aa.acj (H3.freeze 0 i4 λ_=>rfl) 1 i4;refine U.xN ac 2 0 i6 i4 i4 fx i9 λa' h5 H5=>?_;refine H5.wd ac 3 1 i6 i4 i4 fx i4 i6 (λ_=>rfl) kb i4 i6 i9 λb' h6 H6=>?_;refine⟨(i+1,a',b'),js,⟨i7,?_⟩,i7⟩;dsimp only;rw[aG _ _ o,qU,qU,b1];have e3:[x].map rA=[cP W (aK nd) d.1]:=by simp only[w7,vF,rA,er]
   have e4:[x].map rB=[cP M d.2 d.1]:=by simp only[w7,vF,rB,er]
   rw[e3,e4];exact H6.aZ 8 [2,3,4,5,6,7]
 have a1:i=i0 L:=i5
 subst a1;rw[qW]at H1;have am:=H1.box 2 i4;refine⟨s,i4,p,am.cells 1 _ i4,(uG p h1).mono ?_⟩;rintro _ h2 ⟨q,rfl,R2⟩;rw[ay,f9 rfl]at R2;obtain⟨l,a4⟩:∃l,l=bz p.1.toNat p.2.1.toNat:=⟨_,rfl⟩
 have b5:i0 l=p.2.1.toNat:=by rw[a4];simp[bz]
 have a8:∀x∈l,i0 x=n:=λx hx=>by rw[hn];exact Mk _ _ x (a4▸hx)
 rw[<-a4]at R2⊢;have H2:=(H1.ca R2).RX 0 i4;obtain⟨qr,H2⟩:=H2.SC 0 rfl λ_=>rfl;have cp:=(H2.fR 0 i4).1.len;have cq:=(H2.fR 0 i4).2.1;refine⟨q,i4,?_⟩;let a3:Row->Row:=λx=>gQ W x (aK nd) n;let a5:Row->Row:=λx=>gQ M x (aK w) n;refine aw (λt:Nat×Sl×Sl=>(t.2.1,t.2.2,(t.1:Int))) (λt h'=>t.1<=i0 l/\aa B h0 h' (cW (cu 1 aD) 1 bs q qr l::MA t.2.1 (L.map rA++(l.take t.1).map a3)::CA t.2.2 (L.map rB++(l.take t.1).map a5)::(Told s f p v r S J Q I G F m O++As))) (λt=>i0 l-t.1) (0,a,b) i4 ⟨jj,by simpa using H2⟩ ?_;rintro⟨i,a,b⟩ h3 ⟨hi,H3⟩;dsimp only at*;refine ai (λe=>?_) (λe=>?_)
 ·have o:i<i0 l:=i5
  have b3:=a8 _ (qh o);have F3:=H3.fR 0 i4;refine F3.1.mS i i4 i5 ?_;have bq:(qr[i]'(by omega)).len=n:=by rw[(Fix.row F3 o).len,b3]
  refine bY (λt h'=>aa B h0 h' (RA t.1 (aK nd)::RA t.2 (aK w)::cW (cu 1 aD) 1 bs q qr l::MA a (L.map rA++(l.take i).map a3)::CA b (L.map rB++(l.take i).map a5)::(Told s f p v r S J Q I G F m O++As))) ?_ ?_
  ·have b2:=H3.box 3 i4;refine⟨s,i4,p.2.2,show f7 h3 (s.add 3)=_ from b2.cell i4,?_,?_⟩
   ·refine H3.make ac aD gz i6 0 i4 i4 nd nd (by rw[X]) (by rw[X]) (qk _) i5 λx h4 _ _ U=>?_;have U:=U.bw;refine⟨⟨show f7 h4 (s.add 3)=_ from(U.box 4 i4).cell i4,trivial⟩,?_⟩;refine U.make ac aD gz i6 0 i4 i4 w w hp hp (qk _) i5 λy h5 _ _ H5=>⟨trivial,H5.bw.oh⟩
   ·refine H3.make ac aD gz i6 0 i4 i4 w w hp hp (qk _) i5 λy h4 _ _ U=>⟨trivial,?_⟩
    refine U.bw.make ac aD gz i6 0 i4 i4 nd nd (by rw[X]) (by rw[X]) (qk _) i5 λx h5 _ _ H5=>⟨trivial,H5.bw⟩
  rintro⟨ad,more⟩ h4 U;dsimp only at U⊢;refine aw (λj:Nat=>(j:Int)) (λj h'=>j<=n/\aa B h0 h' (RA ad (gQ W l[i] (aK nd) j)::RA more (gQ M l[i] (aK w) j)::cW (cu 1 aD) 1 bs q qr l::MA a (L.map rA++(l.take i).map a3)::CA b (L.map rB++(l.take i).map a5)::(Told s f p v r S J Q I G F m O++As))) (λj=>n-j) 0 i4 ⟨i5,U⟩ ?_;rintro j h5 ⟨hj,H5⟩;have Z:i0 (gQ W l[i] (aK nd) j)=nd:=mw _ k6 λk hk=>(u k i5).1;have V:i0 (gQ M l[i] (aK w) j)=w:=mw _ k6 λk hk=>(u k i5).2;refine ai (λe2=>?_) (λe2=>?_)
  ·have Y:j<n:=i5
   have a2:j<l[i].length:=i5
   refine(Fix.row (H5.fR 2 i4) o).bC j i4 a2 _ i4 ?_;have bd:l[i][j]'a2=aN l[i] j:=by rw[aN,qe,qd a2];rfl
   rw[bd];have tc:=u j Y;refine(IJ s f (aN l[i] j) (j:Int) ad more I G _ _ F m W M H5 (St.mk' λh' T=>SR (ax (Cs:=[_,_,_]) T)) i5 i5 i5 (by rw[qm,tc.1,Z]) (by rw[qm,tc.2,V]) i5 i5).mono ?_;rintro _ h6 ⟨rfl,H6⟩;rw[qm]at H6;exact⟨(),i4,j+1,j1,⟨i5,H6⟩,i5⟩
  ·have a0:j=n:=i5
   subst a0;have H6:=aa.acj (H5.freeze 0 i4 λ_=>rfl) 1 i4;refine H6.xN ac 3 0 i6 i4 i4 fx i9 λa' h7 H7=>?_;refine H7.wd ac 4 1 i6 i4 i4 fx i4 i6 (λ_=>rfl) kb i4 i6 i9 λb' h8 H8=>?_;refine⟨(i+1,a',b'),js,⟨i7,?_⟩,i7⟩;dsimp only;rw[aG _ _ o,qU,qU,<-qq,<-qq];exact H8.aZ 9 [2,3,4,5,6,7,8]
 ·have a1:i=i0 l:=i5
  subst a1;rw[qW]at H3;exact⟨a,b,i4,H3.rest⟩
end
section
variable {B:aB} {h0 h:f8} {As:List HP}
theorem IL{α:Type}{g:α->Bool}{l:List α}{i:Nat}(h:i<i0 l)(a:∀j (b:j<i0 l),j<i->g l[j]=eS)(c:g l[i]=eR):l.findIdx g=i:=by rw[List.findIdx_eq h];exact⟨c,λj b=>a j i5 b⟩
theorem Wv(s:Sl)(l:az)(b:FuncId)(a:Array Value)(g:Int->Bool)(Q:f8->Prop)(u:C.fns[b]?=dB eR)(z:St B h0 As Q)(r:∀x h',Q h'->ab xt b ([Value.int .i64 x]++a.toList).toArray h' λv p=>v=xm (g x)/\Sp h' p [])(H:aa B h0 h (al 3 s 1 aq l::As))(D:i0 l<=2^20):
  ab xt 189 #[s,.func (.func b) #[] a] h λv h'=>v=xi xo (if l.findIdx g<i0 l then(l.findIdx g:Int)else-1)/\aa B h0 h' (al 3 s 1 aq l::As):=by
 refine iS s (b,#[],a) ?_;unfold gA;have A:=(H.own 0 i4).len;refine aw (λi:Nat=>(i:Int)) (λi h'=>aa B h0 h' (al 3 s 1 aq l::As)/\i<=i0 l/\∀j (f:j<i0 l),j<i->g l[j]=eS) (λi=>i0 l-i) 0 i4 ⟨H,i5,λj _ f=>i5⟩ ?_;rintro i w ⟨k,F,d⟩;refine ai (λe=>?_) (λe=>?_)
 ·have c:i<i0 l:=i5
  refine(k.seq 0 i4 λ_=>rfl).bC i i4 c _ i4 ?_;refine fe u ?_;refine(r l[i] w (z.at [_] k)).mono ?_;rintro _ E ⟨rfl,t⟩;refine⟨_,i4,bD (λq=>?_) λq=>?_⟩
  ·rw[IL c d q,f9 c];exact⟨i4,k.up t.ag⟩
  ·refine⟨i+1,j1,⟨k.up t.ag,i5,λj f o=>?_⟩,i5⟩;rcases zo.1 o with h3|rfl
   ·exact d j f h3
   ·exact q
 ·have n:¬l.findIdx g<i0 l:=by rw[wK];rintro⟨x,y,m⟩;obtain⟨j,f,rfl⟩:=qJ y;rw[d j f i5]at m;cases m
  rw[g0 n];exact⟨i4,k⟩
theorem Zx{α:Type}{g:α->Bool}{l:List α}{j:Nat}(h:j<l.findIdx g)(a:j<i0 l):g l[j]=eS:=by simpa using List.not_of_lt_findIdx h
structure mX {α:Type} (g:α->Bool) (l l':List α) (i j:Nat):Prop where
 len:i0 l'=i0 l
 le:i<=j
 pre:l'.take i=(l.take j).filter λx=>!g x
 post:l'.drop j=l.drop j
theorem mX.start{α:Type}{g:α->Bool}{l:List α}{i:Nat}(h:i<i0 l)(b:l.findIdx g=i):mX g l l i (i+1):=by
 refine⟨i4,i5,?_,i4⟩;have a:g l[i]=eR:=by have:=List.findIdx_getElem (xs:=l) (p:=g) (w:=by rw[b];exact h);simpa[b]using this
 rw[aG _ _ h,zl,zr,a];have:(l.take i).filter (λx=>!g x)=l.take i:=zU.2 λx d=>by
  obtain⟨j,c,rfl⟩:=qJ d;simp only[zb]at c;rw[yd,Zx (g:=g) (l:=l) (j:=j) i5 i5];rfl
 rw[this];simp
theorem mX.at_{α:Type}{g:α->Bool}{l l':List α}{i j:Nat}(x:mX g l l' i j)(a:j<i0 l):l'[j]'(by rw[x.len];exact a)=l[j]:=by have h:=congrArg (λm=>m[0]?) x.post;simp only[wH,Nat.add_zero]at h;rw[qd a,qd (by rw[x.len];exact a)]at h;exact zT.inj h
theorem mX.keep{α:Type}{g:α->Bool}{l l':List α}{i j:Nat}(x:mX g l l' i j)(a:j<i0 l)(d:g l[j]=eS):mX g l (l'.set i l[j]) (i+1) (j+1):=by
 have c:=x.len;have e:=x.le;refine⟨mn,i5,?_,?_⟩
 ·rw[aG _ _ i9,vd,List.take_set_of_le (qk _),x.pre,aG _ _ a,zl,zr,d];rfl
 ·rw[List.drop_set_of_lt i5];have b:=congrArg (xh 1) x.post;simpa[zN]using b
theorem mX.skip{α:Type}{g:α->Bool}{l l':List α}{i j:Nat}(x:mX g l l' i j)(a:j<i0 l)(d:g l[j]=eR):mX g l l' i (j+1):=by
 have c:=x.len;have e:=x.le;refine⟨c,i5,?_,?_⟩
 ·rw[x.pre,aG _ _ a,zl,zr,d];simp
 ·have b:=congrArg (xh 1) x.post;simpa[zN]using b
theorem filter_all{α:Type}{g:α->Bool}{l:List α}(h:¬l.findIdx g<i0 l):l.filter (λx=>!g x)=l:=zU.2 λx a=>by
 have:g x=eS:=by
  cases hh:g x with
  |false=>rfl
  |true=>exact absurd (wK.2 ⟨x,a,hh⟩) h
 rw[this];rfl
theorem UW(s:Sl)(l:az)(b:FuncId)(a:Array Value)(g:Int->Bool)(Q:f8->Prop)(w:C.fns[b]?=dB eR)(y:St B h0 As Q)(f:∀x h',Q h'->ab xt b ([Value.int .i64 x]++a.toList).toArray h' λv p=>v=xm (g x)/\Sp h' p [])(H:aa B h0 h (al 3 s 1 aq l::As))(D:i0 l<=2^20):
  ab xt 270 #[s,.func (.func b) #[] a] h λv h'=>∃r:Sl,v=r/\aa B h0 h' (al 3 r 1 aq (l.filter λx=>!g x)::As):=by
 refine rP s (b,#[],a) ?_;unfold mb;refine(Wv s l b a g Q w y f H D).mono ?_;rintro _ N ⟨rfl,z⟩;have I:=(H.own 0 i4).len;have F:=(H.own 0 i4).cap;refine⟨_,i4,de (λe=>?_) λe=>?_⟩
 ·have u:¬l.findIdx g<i0 l:=λn=>by rw[f9 n]at e;omega
  exact⟨s,i4,by rw[filter_all u];exact z⟩
 ·have c:l.findIdx g<i0 l:=by
   by_cases n:l.findIdx g<i0 l
   ·exact n
   ·rw[g0 n]at e;exact absurd i4 e
  rw[f9 c];refine aw (λt:Nat×Nat×az=>((t.1:Int),(t.2.1:Int))) (λt h'=>mX g l t.2.2 t.1 t.2.1/\t.2.1<=i0 l/\aa B h0 h' (al 3 s 1 aq t.2.2::As)) (λt=>i0 l-t.2.1) (l.findIdx g,l.findIdx g+1,l) j1 ⟨mX.start c i4,i7,z⟩ ?_;rintro⟨i,j,l'⟩ J ⟨M2,M,m⟩;dsimp only at*;have L:=M2.len;have K:=M2.le;refine ai (λG=>?_) (λG=>?_)
  ·have d:j<i0 l:=i5
   refine(m.seq 0 i4 λ_=>rfl).bC j i4 i5 _ i4 ?_;rw[M2.at_ d];refine fe w ?_;refine(f l[j] J (y.at [_] m)).mono ?_;rintro _ h3 ⟨rfl,E⟩;have k:=m.up E.ag;refine⟨_,i4,bh (λo=>?_) λo=>?_⟩
   ·refine k.set ac 0 i4 (λ_=>rfl) i4 i i4 i5 l[j] i4 i4 i4 λO A=>?_;exact⟨(i+1,j+1,l'.set i l[j]),by dsimp only;rw[ak _,ak _];rfl,⟨M2.keep d n0,i7,A⟩,i7⟩
   ·exact⟨(i,j+1,l'),js,⟨M2.skip d n0,i7,k⟩,i7⟩
  ·have q:j=i0 l:=i5
   subst q;refine⟨⟨i5,i5⟩,?_⟩;rw[qm];refine m.tO ac 0 i4 gm (λ_=>rfl) i4 i6 i i5 λh3 k=>⟨⟨i5,i5⟩,⟨s.ptr,i,s.cap⟩,i4,?_⟩
   have:=M2.pre;rw[qW]at this;rw[<-this];exact k
end
section
variable {B:aB} {h0 h:f8} {As:List HP}
abbrev ait:cj C.toCU 277 332 2 [xi xo 0,xi xo 0] 16:=⟨_,_,i4,i4,i4,i4,i4,i4⟩
theorem Ww(s:Sl)(l:List (Int×Int))(b:FuncId)(a:Array Value)(g:Int×Int->Bool)(Q:f8->Prop)(u:C.fns[b]?=dB eR)(z:St B h0 As Q)(r:∀x h',Q h'->ab xt b ([Value.agg #[xi xo x.1,xi xo x.2]]++a.toList).toArray h' λv p=>v=xm (g x)/\Sp h' p [])(H:aa B h0 h (al 332 s 2 fL l::As))(D:i0 l<=2^20):
  ab xt 311 #[s,.func (.func b) #[] a] h λv h'=>v=xi xo (if l.findIdx g<i0 l then(l.findIdx g:Int)else-1)/\aa B h0 h' (al 332 s 2 fL l::As):=by
 refine mT s (b,#[],a) ?_;unfold jg;have A:=(H.own 0 i4).len;refine aw (λi:Nat=>(i:Int)) (λi h'=>aa B h0 h' (al 332 s 2 fL l::As)/\i<=i0 l/\∀j (f:j<i0 l),j<i->g l[j]=eS) (λi=>i0 l-i) 0 i4 ⟨H,i5,λj _ f=>i5⟩ ?_;rintro i w ⟨k,F,d⟩;refine ai (λe=>?_) (λe=>?_)
 ·have c:i<i0 l:=i5
  refine(k.seq 0 i4 λ_=>rfl).eJ (g:=fL) i i4 c l[i] i4 ?_;refine fe u ?_;refine(r l[i] w (z.at [_] k)).mono ?_;rintro _ E ⟨rfl,t⟩;refine⟨_,i4,bD (λq=>?_) λq=>?_⟩
  ·rw[IL c d q,f9 c];exact⟨i4,k.up t.ag⟩
  ·refine⟨i+1,j1,⟨k.up t.ag,i5,λj f o=>?_⟩,i5⟩;rcases zo.1 o with h3|rfl
   ·exact d j f h3
   ·exact q
 ·have n:¬l.findIdx g<i0 l:=by rw[wK];rintro⟨x,y,m⟩;obtain⟨j,f,rfl⟩:=qJ y;rw[d j f i5]at m;cases m
  rw[g0 n];exact⟨i4,k⟩
theorem UX(s:Sl)(l:List (Int×Int))(b:FuncId)(a:Array Value)(g:Int×Int->Bool)(Q:f8->Prop)(y:C.fns[b]?=dB eR)(z:St B h0 As Q)(m:∀x h',Q h'->ab xt b ([Value.agg #[xi xo x.1,xi xo x.2]]++a.toList).toArray h' λv p=>v=xm (g x)/\Sp h' p [])(H:aa B h0 h (al 332 s 2 fL l::As))(F:i0 l<=2^20):
  ab xt 268 #[s,.func (.func b) #[] a] h λv h'=>∃r:Sl,v=r/\aa B h0 h' (al 332 r 2 fL (l.filter λx=>!g x)::As):=by
 refine mI s (b,#[],a) ?_;unfold iX;refine(Ww s l b a g Q y z m H F).mono ?_;rintro _ O ⟨rfl,D⟩;have J:=(H.own 0 i4).len;have G:=(H.own 0 i4).cap;refine⟨_,i4,de (λe=>?_) λe=>?_⟩
 ·have w:¬l.findIdx g<i0 l:=λn=>by rw[f9 n]at e;omega
  exact⟨s,i4,by rw[filter_all w];exact D⟩
 ·have c:l.findIdx g<i0 l:=by
   by_cases n:l.findIdx g<i0 l
   ·exact n
   ·rw[g0 n]at e;exact absurd i4 e
  rw[f9 c];refine aw (λt:Nat×Nat×List (Int×Int)=>((t.1:Int),(t.2.1:Int))) (λt h'=>mX g l t.2.2 t.1 t.2.1/\t.2.1<=i0 l/\aa B h0 h' (al 332 s 2 fL t.2.2::As)) (λt=>i0 l-t.2.1) (l.findIdx g,l.findIdx g+1,l) j1 ⟨mX.start c i4,i7,D⟩ ?_;rintro⟨i,j,l'⟩ P ⟨M2,N,u⟩;dsimp only at*;have L:=M2.len;have K:=M2.le;refine ai (λI=>?_) (λI=>?_)
  ·have f:j<i0 l:=i5
   refine(u.seq 0 i4 λ_=>rfl).eJ (g:=fL) j i4 i5 l[j] (by rw[M2.at_ f]) ?_;refine u.alloc ac i4 λa5 h3 d=>?_;have d:=d.bw;refine d.storeAll ac 0 i4 i4 (fL l[j]) i4 i4 i4 i4 λE k=>?_;refine⟨l[j],(k.box 0 i4).aS _ i4,?_⟩;refine fe y ?_;refine(m l[j] E (z.at [_,_] k)).mono ?_;rintro _ R ⟨rfl,M⟩;have A:=k.up M.ag;have d:=A.oF;refine⟨_,i4,bh (λo=>?_) λo=>?_⟩
   ·refine⟨l[j],(A.box 0 i4).aS _ i4,?_⟩;refine d.set ac 0 i4 (λ_=>rfl) i4 i i4 i5 l[j] i4 i4 i4 λE k=>?_;exact⟨(i+1,j+1,l'.set i l[j]),by dsimp only;rw[ak _,ak _];rfl,⟨M2.keep f n0,i7,k⟩,i7⟩
   ·exact⟨(i,j+1,l'),js,⟨M2.skip f n0,i7,d⟩,i7⟩
  ·have q:j=i0 l:=i5
   subst q;refine⟨⟨i5,i5⟩,?_⟩;rw[qm];refine u.tO ac 0 i4 ait (λ_=>rfl) i4 i6 i i5 λh3 d=>⟨⟨i5,i5⟩,⟨s.ptr,i,s.cap⟩,i4,?_⟩
   have:=M2.pre;rw[qW]at this;rw[<-this];exact d
end
section
variable {B:aB} {h0 h:f8} {As:List HP}
def xI(pool:List (Sl×az)):HP:=⟨λh q=>∀x∈pool,Seq h q x.1 1 aq x.2,λa c x b=>(a x b).ag c,λa d x b=>(a x b).mono d⟩
theorem aa.ack(H:aa B h0 h As):aa B h0 h (As++[xI []]):=H.comp (.one (aY.refl _ _) λx a=>sz)
theorem aa.afO(H:aa B h0 h As)(i j:Nat)(b:i≠j){pool:List (Sl×az)}{r:Sl}{l:az}(f:As[i]?=dB (xI pool))(d:As[j]?=dB (ux r 1 aq l)):aa B h0 h ((As.set i (xI (pool++[(r,l)]))).set j emp):=
 H.merge i j b f d λg k _ e c x a=>by
  rcases qD.1 a with a|a
  ·exact(e x a).mono λ_ h=>.inl h
  ·rw[qx]at a;subst a;exact Seq.mono c λ_ h=>.inr h
abbrev aiu:cj C.toCU 51 22 1 [xj eH 0 0] 24:=⟨_,_,i4,i4,i4,i4,i4,i4⟩
theorem Wx(s c:fz)(r:Sl)(x:Int×Int)(h':f8)(e:f7 h' c=dB (xk (dB s))/\f7 h' (s.add 5)=dB (xj r.ptr r.len r.cap)):
  ab xt 269 ([Value.agg #[xi xo x.1,xi xo x.2]]++(#[Value.pointer (dB c)]:Array Value).toList).toArray h' λv d=>v=xm (decide (x.1>=(r.len:Int)))/\Sp h' d []:=by
 refine xB x c ?_;unfold nV;refine(Sp.refl h').boxed λa f b=>?_;exact⟨x.1,(b.box 0 i4).cell0 i4,dB s,pI e.1 b.ag,s,i4,r,pI e.2 b.ag,i4,.zip b.ag⟩
theorem Wy(s b:fz)(r:Sl)(x:Int)(h':f8)(c:f7 h' b=dB (xk (dB s))/\f7 h' (s.add 5)=dB (xj r.ptr r.len r.cap)):
  ab xt 271 ([Value.int .i64 x]++(#[Value.pointer (dB b)]:Array Value).toList).toArray h' λv a=>v=xm (decide (x>=(r.len:Int)))/\Sp h' a []:=by
 refine xC x b ?_;unfold nW;exact⟨dB s,c.1,s,i4,r,c.2,i4,Sp.refl _⟩
theorem Wz(s f:fz)(p:Int×Int×Int)(v r m d j G F kn:Sl)(E:List (Sl×Sl))(R:List fu)(known:List Bool)(n:Nat)(H:aa B h0 h (SA s (gC f p v r m d j G F)::As))(hS:St B h0 As λh=>ol jL 2 qv h r E R/\Rd h kn 1 fi known)(ax:i0 known=n)(hn:n<=64)(a4:i0 R<=2^19)(ar:∀e∈R,i0 e.1<=2^20)
  (D:ka (n:Int) (rowsOf R known n)=eR) (ad:(dM n (rowsOf R known n)).steps.length<=2^20/\(fG (dM n (rowsOf R known n)).used (rowsOf R known n).length).length<=2^20):
  ab xt 217 #[xk (dB s),kn] h λv' h'=>v'=.tuple #[]/\∃J z K:Sl,aa B h0 h' (SA s (gC f p v r J z K G F)::al 332 J 2 fL ((dM n (rowsOf R known n)).steps.filter λx=>decide (x.1<i0 R))::al 3 z 1 aq (dM n (rowsOf R known n)).dead::al 3 K 1 aq ((fG (dM n (rowsOf R known n)).used (rowsOf R known n).length).filter λx=>decide (x<i0 R))::As):=by
 refine Bn (dB s) kn ?_;unfold pC;refine H.boxed λq I T=>?_;have T:=T.bw;refine⟨dB s,(T.box 0 i4).cell0 i4,s,i4,r,(T.box 1 i4).cell i4,?_⟩;have G1:=hS.at [_,_] T;have ah:=G1.1.1.len;have Q:=G1.1.2.1;have V:=G1.2.len;let pre:List HP:=[ao q 276 [xk (dB s)],SA s (gC f p v r m d j G F)]
 have H2:aa B h0 I (al 22 ⟨eH,0,0⟩ 1 bs []::xI []::ao q 276 [xk (dB s)]::SA s (gC f p v r m d j G F)::As):=((aa.ack T).bw.nil 22 1 bs).bw;refine aw (λt:Nat×Sl=>(t.2,(t.1:Int))) (λt h'=>t.1<=i0 R/\aa B h0 h' (al 22 t.2 1 bs ((E.take t.1).map qM)::xI []::ao q 276 [xk (dB s)]::SA s (gC f p v r m d j G F)::As)) (λt=>i0 R-t.1) (0,⟨eH,0,0⟩) i4 ⟨jj,by simpa using H2⟩ ?_;rintro⟨i,o⟩ h3 ⟨hi,H3⟩;dsimp only at*;refine ai (λe=>?_) (λe=>?_)
 ·have ay:i<i0 R:=i5
  have G3:=hS.at [_,_,_,_] H3;refine G3.1.1.eJ (g:=qv) i i4 i5 (E[i]'(by omega)) i4 ?_;refine H3.alloc ac i4 λa8 h4 y=>?_;have y:=y.bw;refine y.storeAll ac 0 i4 i4 (qv (E[i]'(by omega))) i4 i4 i4 i4 λh5 L=>?_;refine⟨(E[i]'(by omega)).1,(L.box 0 i4).cell0 i4,?_⟩;refine L.oF.push ac 0 i4 aiu i4 i6 (λ_=>rfl) kb (E[i]'(by omega)).1 i4 i6 i9 λo' h6 X=>?_;refine⟨(i+1,o'),js,⟨i7,?_⟩,i7⟩;dsimp only;rw[aG E i,qU];exact X
 have O:i=i0 R:=i5
 subst O;rw[qi i5]at H3;refine aw (λt:Nat×Sl×List Sl=>(t.2.1,(t.1:Int))) (λt h'=>t.1<=n/\t.2.2.length=i0 (iD known t.1)/\aa B h0 h' (al 22 t.2.1 1 bs (E.map qM++t.2.2)::xI (t.2.2.zip (iD known t.1))::ao q 276 [xk (dB s)]::SA s (gC f p v r m d j G F)::As)) (λt=>n-t.1) (0,o,[]) i4 ⟨i5,i4,by simpa using H3⟩ ?_;rintro⟨i,o,Z⟩ h4 ⟨hi,A,y⟩;dsimp only at*;have a7:=Fy known i;refine ai (λe=>?_) (λe=>?_)
 ·have ay:i<n:=i5
  have G4:=hS.at [_,_,_,_] y;refine G4.2.bC i i4 i5 _ i4 ?_;have a2:known.getD i eS=known[i]'(by omega):=by rw[qe,qd i5];rfl
  have N:=OI known i;rw[a2]at N;refine bD (λY=>?_) (λY=>?_)
  ·rw[Y,f9 rfl]at N;refine y.lit ac aq gm i4 [(i:Int)] i4 (show 1*1<=2^20 by decide) i4 λb h5 L=>?_;have L:=L.bw.freeze 0 i4 λ_=>rfl;have X:=aa.afO L 2 0 i6 i4 i4;refine X.push ac 1 i4 aiu i4 i6 (λ_=>rfl) kb b i4 i6 i9 λo' h7 H7=>?_;refine⟨(i+1,o',Z++[b]),js,⟨i7,by dsimp only;rw[N];simp[A],?_⟩,i7⟩;dsimp only;rw[N,List.zip_append A,<-qq];exact H7.oF
  ·rw[Y,g0 jj,qN]at N;exact⟨(i+1,o,Z),js,⟨i7,by dsimp only;rw[N];exact A,by dsimp only;rw[N];exact y⟩,i7⟩
 have O:i=n:=i5
 subst O;have G4:=hS.at [_,_,_,_] y;have P:i0 (rowsOf R known i)=i0 R+i0 Z:=by rw[rowsOf,qy,qA,A]
 have U:iH h4 (λb=>b<h4.size) o 1 aq (rowsOf R known i) (E.map qM++Z):=by
  refine⟨y.seq 0 i4 λ_=>rfl,by rw[P];simp;omega,λk a l I S=>?_⟩;by_cases hk:k<i0 R
  ·rw[qo i9,qS,qd i5]at I;rw[rowsOf,qo i9,qS,qd hk]at S;simp only[Option.map_some,zT.injEq]at I S;subst I;subst S;exact(Fix.row G4.1 hk).1
  ·rw[qj i9]at I;rw[rowsOf,qj i9]at S;simp only[qA,Q]at I S;have hm:(a,l)∈Z.zip (iD known i):=by refine yH.2 ⟨k-i0 R,?_⟩;rw[List.getElem?_zip_eq_some];exact⟨I,S⟩
   exact(y.at 1 i4) _ hm
 rw[V,ax];refine(acb (i:Int) o (rowsOf R known i) _ h4 U i5 ?_).mono ?_
 ·intro x hx;rcases qD.1 hx with hx|hx
  ·obtain⟨e,he,rfl⟩:=qt.1 hx;have:=ar e he;omega
  ·obtain⟨c,hc,rfl⟩:=qt.1 hx;simp
 rintro _ h5 ⟨J,z,K,rfl,R5⟩;have ap:Fb (i:Int) (rowsOf R known i)=((dM i (rowsOf R known i)).steps,(dM i (rowsOf R known i)).dead,fG (dM i (rowsOf R known i)).used (rowsOf R known i).length):=by unfold Fb;rw[f9 D,qm]
 rw[ap]at R5;dsimp only at R5;have L:=((y.oF).oF).comp R5;refine⟨((J,z,K),_),i4,?_⟩;have X:aa B h0 h5 (al 332 J 2 fL (dM i (rowsOf R known i)).steps::al 3 z 1 aq (dM i (rowsOf R known i)).dead::al 3 K 1 aq (fG (dM i (rowsOf R known i)).used (rowsOf R known i).length)::ao q 276 [xk (dB s)]::SA s (gC f p v r m d j G F)::As):=aa.front (As:=ao q 276 [xk (dB s)]::SA s (gC f p v r m d j G F)::As) (Bs:=[_,_,_]) L;refine X.alloc ac i4 λbb h7 H7=>?_;have H7:=H7.bw;refine H7.storeAll ac 0 i4 i4 [J,z,K] i4 i4 i4 i4 λh8 H8=>?_;refine⟨J,(H8.box 0 i4).cell0 i4,?_⟩;refine(UX J _ 269 #[xk (dB q)] (λx=>decide (x.1>=(r.len:Int))) (λh'=>f7 h' q=dB (xk (dB s))/\f7 h' (s.add 5)=dB (xj r.ptr r.len r.cap)) i4 (St.mk' λh' H'=>⟨(H'.box 3 i4).cell0 i4,(H'.box 4 i4).cell i4⟩) (λx h' hq=>Wx s q r x h' hq) H8.oh ad.1).mono ?_;rintro _ h9 ⟨u,rfl,H9⟩;refine⟨u,i4,?_⟩;refine H9.lE ac 1 i4 i4 [u] i4 i4 i4 jj λbd W=>?_;refine⟨K,(W.box 1 i4).cell i4,?_⟩;have a3:=W.aZ 6 [3,0,1,2,4,5];refine(UW K _ 271 #[xk (dB q)] (λx=>decide (x>=(r.len:Int))) (λh'=>f7 h' q=dB (xk (dB s))/\f7 h' (s.add 5)=dB (xj r.ptr r.len r.cap)) i4 (St.mk' λh' H'=>⟨(H'.box 3 i4).cell0 i4,(H'.box 4 i4).cell i4⟩) (λx h' hq=>Wy s q r x h' hq) a3 ad.2).mono ?_;rintro _ a6 ⟨w,rfl,a0⟩;refine⟨w,i4,?_⟩;refine a0.store ac 2 i4 i4 2 [w] i4 i4 i4 jj λa5 M=>?_;refine⟨dB s,(M.box 4 i4).cell0 i4,(u,z,w),(M.box 2 i4).aS _ i4,s,i4,?_⟩;refine M.store ac 5 i4 i4 6 [u,z,w] i4 i4 i4 m9 λa9 am=>⟨i4,u,z,w,?_⟩
 have e1:(λx:Int×Int=>!decide (x.1>=(r.len:Int)))=λx=>decide (x.1<(i0 R:Int)):=by
  funext x;rw[ah,Q];by_cases h:x.1<(i0 R:Int)
  ·rw[g9 h,hZ i5];rfl
  ·rw[hZ h,g9 i5];rfl
 have Y:(λx:Int=>!decide (x>=(r.len:Int)))=λx=>decide (x<(i0 R:Int)):=by
  funext x;rw[ah,Q];by_cases h:x<(i0 R:Int)
  ·rw[g9 h,hZ i5];rfl
  ·rw[hZ h,g9 i5];rfl
 rw[e1,Y]at am;exact am.aZ 6 [5,1,3,0]
end
theorem QL{l:Row}:¬fm l<i0 l↔l=aK l.length:=by
 rw[fm,wK];constructor
 ·intro h;refine vf.2 ⟨i4,λx b=>?_⟩;by_cases a:x=0
  ·exact a
  ·exact absurd ⟨x,b,j9⟩ h
 ·rintro h ⟨x,b,a⟩;have:=(vf.1 h).2 x b;subst this;simp at a
theorem WA(f:fz)(a b:Sl)(A B:aM)(m n w:Nat)(h:f8)(hf:fI h f)(ha:fO h a 1 aD A)(hb:fO h b 1 aD B)(hl:i0 A=m)(bk:i0 B=m)(u:aV n A)(hB:aV w B)(b3:1<=n)(hn:n+w<=64)(hm:m<=2^20)(hr:cb A=n):
  ab xt 175 #[xk (dB f),a,b] h λv h'=>(lB n A B/\∃r:Sl,v=.tuple #[r,xi xo 0]/\Sp h h' [fQ 34 r 1 aD (gh n A B)])∨(¬lB n A B/\v=.tuple #[xj eH 0 0,xi xo 10]/\Sp h h' []):=by
 have b1:n<=m:=by have:=pU A u;omega
 have d:i0 B=i0 A:=i5
 have ap:=ha.len;have W:=hb.len;refine FR (dB f) a b ?_;unfold Cz;refine bj ?_;refine(nu a A n h ha u).mono ?_;rintro v O ⟨rfl,rfl⟩;refine⟨_,i4,bh (λe=>j3) λ_=>?_⟩;refine(nu b B w O hb hB).mono ?_;rintro v Q ⟨rfl,rfl⟩;refine⟨_,i4,bh (λe=>j3) λ_=>?_⟩;refine bQ (λe=>absurd (by rw[ap,W,d]) e) λ_=>?_;refine de (λe=>i5) λ_=>?_;refine(sO a A Q ha).mono ?_;rintro v h3 ⟨rfl,rfl⟩;have a0:eN A=n:=by
  cases A with
  |nil=>simp at hl;omega
  |cons x t=>rw[eN,bx jj];exact u _ jj
 refine⟨_,i4,?_⟩;rw[a0];refine(AL a A n h3 ha u).mono ?_;rintro v h4 ⟨r,rs,rfl,a9,R4⟩;refine⟨r,i4,?_⟩;have a8:=(R4.own 0 i4).len;refine aw (λt:Nat×List Sl=>(t.1:Int)) (λt h'=>t.1<=m/\t.2.length=m/\Sp h3 h' (oa r t.2 (pJ A B t.1))) (λt=>m-t.1) (0,rs) i4 ⟨jj,i7,by simpa[pJ,fc]using R4⟩ ?_;rintro⟨k,rs⟩ h5 ⟨hk,bq,Y⟩;dsimp only at*;have K:i0 rs=i0 (pJ A B k):=ns
 refine ai (λe=>?_) (λe=>?_)
 ·have J:k<m:=i5
  have V:k<i0 A:=i5
  have F:=pH (a:=r) K k ns;have eg:(pJ A B k)[k]'(by rw[uo d];omega)=A[k]:=by have:=abq d V;rw[qd ns]at this;exact zT.inj this
  rw[eg]at F;have l1:A[k].length=n:=u _ (qh _);have l2:i0 (B[k]'(by omega))=w:=hB _ (qh _);refine(Y.seq 0 i4 λ_=>rfl).nX k i4 i5 λa1 I L=>?_;refine(hb.up Y.ag).get k i4 i5 λrb ah=>?_;refine Y.append ac (k+1) F gz Un i4 i6 (λ_=>rfl) ah gV i5 λs6 h6 H6=>⟨trivial,?_⟩
  refine H6.set ac 0 i4 (λ_=>rfl) i4 k i4 i5 s6 i4 i4 i4 λh7 H7=>⟨trivial,?_⟩
  refine⟨(k+1,rs.set k s6),js,⟨i7,l9,?_⟩,i7⟩;dsimp only;rw[<-abr d V];show Sp h3 h7 (al 34 r 1 bs (rs.set k s6)::bG 5 1 aD (rs.set k s6) ((pJ A B k).set k _));rw[<-kW K];exact H7
 ·have a2:k=i0 A:=i5
  subst a2;rw[abs d]at Y;refine(uF f h5).mono ?_;rintro v h6 ⟨rfl,rfl⟩;refine⟨dB f,i4,?_⟩;have ad:=ni d.symm u hB;have br:=mN d.symm;refine(CI (m:=fc A B) (n:=n+w) hf hf.lt i5 ad i5 i5 i5 Y).mono ?_;rintro v h7 ⟨l,rfl,a7,q⟩;rw[KS d.symm u,hr];refine⟨_,i4,?_⟩;dsimp only;have X:=(q.own 0 i4).cap;have b2:=(q.own 0 i4).len;have Q:=gU ad n;refine ai (λe=>absurd (show(n:Int)<(n:Int)from e) i5) λ_=>?_;refine⟨⟨zX _,yS.2 (show n<=r.len by omega)⟩,?_⟩;obtain⟨M,H⟩:∃M,M=(bH (fc A B) n).2:=⟨_,rfl⟩
  have b0:i0 M=i0 A:=by have:=Q.2;rw[<-H]at this;omega
  have G:aV (n+w) M:=by rw[H];exact Q.1
  rw[<-H]at q;have Z:i0 l=i0 M:=i5
  have p:lB n A B↔∀i (N:i<i0 M),n<=i->M[i]=aK M[i].length:=by
   unfold lB;rw[<-H];constructor
   ·intro T i N hn;refine T _ (yH.2 ⟨i-n,?_⟩);rw[wH,show n+(i-n)=i by omega,qd N]
   ·intro T x hx;obtain⟨i,N,rfl⟩:=qJ hx;simp only[ze]at N;rw[wh];exact T _ i5 i5
  refine aw (λi:Nat=>(i:Int)) (λi h'=>h'=h7/\n+i<=i0 M/\∀j (hj:j<i0 M),n<=j->j<n+i->M[j]=aK M[j].length) (λi=>i0 M-(n+i)) 0 i4 ⟨i4,i5,λj _ _ _=>i5⟩ ?_;rintro i h8 ⟨rfl,N,o⟩;rw[qm];refine ai (λe=>?_) (λe=>?_)
  ·have g:n+i<i0 M:=i5
   have F:=pH (a:=r) Z (n+i) i5;have ar:i0 (M[n+i]'g)=n+w:=G _ (qh _);have y:=q.seq (n+i+1) F λ_=>rfl;have E:=(q.seq 0 i4 λ_=>rfl).drop n X;have ay:(l.drop n)[i]'(by simp;omega)=l[n+i]'(by omega):=wh;refine E.nX i i4 i9 λa1 I L=>?_;rw[ay];refine(ID _ _ h8 y).mono ?_;rintro _ h9 ⟨rfl,rfl⟩;refine⟨_,i4,ai (λP=>?_) λP=>?_⟩
   ·right;have z:fm (M[n+i]'g)<i0 (M[n+i]'g):=by
     by_cases hh:fm (M[n+i]'g)<i0 (M[n+i]'g)
     ·exact hh
     ·rw[g0 hh]at P;exact absurd P i6
    refine⟨λT=>?_,i4,.zip q.ag⟩;have:=p.1 T (n+i) g i5;exact absurd z (QL.2 this)
   ·have z:¬fm (M[n+i]'g)<i0 (M[n+i]'g):=λhh=>by
     rw[f9 hh]at P;exact P (zX _)
    refine⟨i+1,j1,⟨i4,i5,λj hj O Q=>?_⟩,i5⟩;by_cases a3:j=n+i
    ·subst a3;exact QL.1 z
    ·exact o j hj O i5
  refine⟨⟨zX _,yS.2 (show n<=r.cap by omega)⟩,?_⟩;have D:lB n A B:=p.2 λj hj O=>o j hj O i5;have e1:gh n A B=(M.take n).map (xh n):=by rw[gh,<-H]
  have S:∀k (hk:k<n),(gh n A B).take (k+1)=(gh n A B).take k++[(M[k]'(by omega)).drop n]:=λk hk=>by
   rw[e1,aG _ _ i9,List.getElem_map,yd]
  have bb:i0 (gh n A B)=n:=(xQ d.symm u hB hr).1;refine aw (λt:Sl×Nat=>(t.1,(t.2:Int))) (λt h'=>t.2<=n/\Sp h8 h' [fQ 34 t.1 1 aD ((gh n A B).take t.2)]) (λt=>n-t.2) (⟨eH,0,0⟩,0) i4 ⟨jj,(Sp.refl h8).LX 34 1 aD⟩ ?_;rintro⟨s,k⟩ h9 ⟨bd,H9⟩;dsimp only at*;have HH:=q.comp H9;refine ai (λe=>?_) (λe=>?_)
  ·have J:k<n:=i5
   have F:=pH (a:=r) Z k i5;have R:(oa r l M++[fQ 34 s 1 aD ((gh n A B).take k)])[k+1]?=dB (al 5 (l[k]'(by omega)) 1 aD (M[k]'(by omega))):=by rw[qo (by simp[bG];omega)];exact F
   have ar:i0 (M[k]'(by omega))=n+w:=G _ (qh _);have U:=HH.own (k+1) R;have y:=HH.seq (k+1) R λ_=>rfl;have a6:=U.len;have E:=(HH.seq 0 i4 λ_=>rfl).take n i5;have ax:(l.take n)[k]'(by simp;omega)=l[k]'(by omega):=yd;refine E.nX k i4 i9 λa1 I L=>?_;rw[ax];refine⟨⟨zX _,yS.2 i5⟩,?_⟩;refine(fC _ _ h9 (y.drop n U.cap) i9).mono ?_;rintro v b4 ⟨c,rfl,a5⟩;have am:=(H9.comp a5).freeze 1 i4 λ_=>rfl;refine⟨c,i4,?_⟩;refine am.xN ac 0 1 i6 i4 i4 fx i9 λs' bl a4=>?_;refine⟨(s',k+1),js,⟨i7,?_⟩,i7⟩;dsimp only;rw[S k J];exact a4.del 1
  ·rw[qi i5]at H9;refine .inl ⟨D,s,i4,?_⟩;have:=(Sp.zip q.ag).comp H9;exact this
section
variable {B:aB} {h0 h:f8} {As:List HP}
theorem UY:∀{l:az},l.Pairwise (·<·)->fJ l=eR
 |[],_=>rfl
 |[_],_=>rfl
 |a::b::r,h=>by
  rw[List.pairwise_cons]at h;rw[fJ,UY h.2,g9 (h.1 b jj)];rfl
theorem Zy{l:az}(h:l.Pairwise (·<·)):Pv l:=λi a=>List.pairwise_iff_getElem.1 h i (i+1) i5 a i5
theorem Zz{n:Nat}{R:List fu}{known:List Bool}(h:n<=64)(b:∀e∈R,(∀c∈e.1,0<=c/\c<(n:Int))/\e.1.Pairwise (·<·)):ka (n:Int) (rowsOf R known n)=eR:=by
 unfold ka;rw[qz];refine⟨i9,qL.2 λr a=>?_⟩;unfold fK;rw[qz];rcases qD.1 a with a|a
 ·obtain⟨e,f,rfl⟩:=qt.1 a;exact⟨qL.2 λc g=>by simpa using(b e f).1 c g,UY (b e f).2⟩
 ·obtain⟨d,rfl,i,_⟩:=BM a;exact⟨i9,i4⟩
theorem aa.aiv{e:Nat}{v:Sl}{vs:aM}(H:aa B h0 h As)(i:Nat)(s:As[i]?=dB (cm e v 1 bs (uy 1 aD) vs)):
  ∃f:List Sl,aa B h0 h (As.set i (al e v 1 bs f)++[lC (f.zip vs)])/\f.length=i0 vs/\∀(c:Nat) (m:c<i0 f) (o:c<i0 vs),f[c].ptr.isNone=vs[c].isEmpty:=by
 have g:i<i0 As:=(qn.1 s).1;have A:aa B h0 h (As.set i (HP.ex λf:List Sl=>((al e v 1 bs f).sep (lC (f.zip vs))).and (i0 f=i0 vs/\∀(c:Nat) (m:c<i0 f) (o:c<i0 vs),f[c].ptr.isNone=vs[c].isEmpty))):=
  H.gg i s λq ⟨rs,D,a,b,c,d,e⟩=>⟨rs,⟨λb=>v.on b,D,λx j=>(b x j).2,λx j=>(b x j).1,c,⟨a,λx j=>j⟩,λx j=>by
   obtain⟨k,w,l⟩:=qJ j;simp only[List.length_zip]at w;rw[List.getElem_zip]at l;subst l;exact(e k _ _ (qd i5) (qd i5)).1⟩,d,λk m o=>by
   obtain⟨x,y⟩:=e k _ _ (qd m) (qd o);cases hv:vs[k]with
   |nil=>rw[y hv];rfl
   |cons z t=>
    have:=x.isSome (by rw[hv];simp);rw[this];rfl⟩
 obtain⟨f,n⟩:=A.XU i (zp g);rw[yO]at n;have u:=n.fact i (zp g);have p:=n.afg i (zp g);rw[yO]at p;have r:=p.split i (zp g);rw[yO]at r;exact⟨f,r,u⟩
def yv(x:Int×Sl):bc:=[xi xo x.1,x.2]
def ajm:jz (Int×Sl) (Int×Row):=⟨λh q a b=>a.1=b.1/\Seq h q a.2 1 aD b.2,λa c=>⟨a.1,a.2.ag c⟩,λa d=>⟨a.1,a.2.mono d⟩⟩
abbrev Jx:jz Sl (List (Int×Row)):=bL ajm 2 yv
end
end Go.Qw
