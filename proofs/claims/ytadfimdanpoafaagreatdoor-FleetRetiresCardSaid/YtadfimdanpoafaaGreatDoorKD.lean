/- Lemmas. -/
import Derived.Test.YtadfimdanpoafaaGreatDoorKC
set_option linter.unusedVariables false
set_option linter.unusedSimpArgs false
open Go.Proofs.Tryz renaming prog -> xx
open List renaming all_eq_true -> qN, any_eq_false -> wc, append_nil -> qS, countP_le_length -> vH, filter_eq_self -> z6, find?_eq_none -> zO, flatMap_cons -> zl, flatMap_nil -> z8, getD_eq_getElem?_getD -> qe, getElem?_eq_getElem -> qd, getElem?_set -> qX, getElem_mem -> qh, length_append -> qx, length_cons -> q9, length_filter_le -> qP, length_map -> qu, length_set -> zA, length_take -> zd, map_append -> qT, map_cons -> zV, mem_append -> qA, mem_append_left -> yc, mem_cons -> q8, mem_cons_of_mem -> qR, mem_cons_self -> qW, mem_filter -> qB, mem_flatMap -> zm, mem_map -> qq, mem_range -> qD, mem_singleton -> qG, nodup_range -> yS, pairwise_map -> wz, range -> qE, replicate -> qg, take_length -> qQ, take_of_length_le -> qi, take_succ_eq_append_getElem -> zn
open Go.Value renaming agg -> xr, bool -> xq, int -> xl, pointer -> xo, slice -> xn, string -> xp
open Go.IntKind renaming i64 -> xt, u32 -> xv, wrap -> qc
open Int renaming emod_lt_of_pos -> wE, emod_nonneg -> yp, mul_le_mul -> wF, mul_pos -> vY, natCast_nonneg -> zX, tdiv -> wI, toNat_natCast -> qo, toNat_of_nonneg -> w5
open Nat renaming add_zero -> yu, le_trans -> q7, mul_le_mul_right -> zu, mul_one -> zT, succ_mul -> zJ
open Prod renaming snd -> zt
open Option renaming map_some -> qL
set_option maxRecDepth 100000
namespace Wl
open Go Go.Qw Go.Vc
end Wl
namespace Go.Vc
open Go
end Go.Vc
namespace Go.Qw
open Go Go.Vc Go.Proofs Wl
section
variable {B:aB} {h0 h:Heap} {As:List HP} {a pw:Addr} {offs:Int} {da:List aO} {w:Pow} {ds:aT} {m:aG} {s:Sl}
end
section
variable {B B':aB} {h0 h0' h h':Heap} {As As':List HP} {a b pw pw2:Addr} {d:bB}
end
section
variable {B:aB} {h0 h:Heap} {As:List HP} {a a2 pw pw2:Addr} {mc:aW} {offs:Int} {da da2:List aO} {w:Pow} {ds:aT}
end
section
variable {B:aB} {h0 h:Heap} {As:List HP} {a pw b:Addr} {x:bD} {offs:Int} {da:List aO} {w:Pow} {ds:aT} {d:bB}
end
end Go.Qw
namespace Go.Vc
open Go Wl Go.Qw
def rG(l:aC)(k:Nat):Int:=l.getD k 0
def iH(l:aC):Pm:=CC (rG l 0) (rG l 1) (rG l 2)
def xY(l:aC):Nat:=(2+rG l 4%4).toNat
def Hd(l:aC):aC:=(qE (xY l)).map fun i=>8+rG l (5+i)%50
def WZ(l:aC):Int:=rG l 3%7
theorem adO(l:aC):2<=xY l/\xY l<=5:=by unfold xY;omega
theorem abG(l:aC):(Hd l).length=xY l:=by simp[Hd]
end Go.Vc
namespace Go.Qw
open Go Go.Vc Go.Proofs Wl
section
variable {B:aB} {h0 h:Heap} {As:List HP} {a pw:Addr} {offs:Int} {da:List aO} {w:Pow} {ds:aT}
theorem rH(s:Sl)(l:aC)(k:Nat)(h:Heap)(a:Rd h s 1 aD l):ac xx 45 #[s,xl xt k] h fun v h'=>v=xl xt (rG l k)/\h'=h:=by
 refine Bf s k ?_;unfold pd rG;have c:=a.len;refine al (fun e=>?_) (fun e=>⟨?_,rfl⟩)
 ·have b:k<l.length:=by omega
  refine a.bx k rfl b (l.getD k 0) (by rw[getD_lt b];rfl) ⟨rfl,rfl⟩
 ·rw[qe,List.getElem?_eq_none (by omega)];rfl
theorem TZ(s:Sl)(l:aC)(h:Heap)(w:Rd h s 1 aD l):ac xx 6 #[s] h fun v h'=>∃r:Sl,v=.tuple #[kh (iH l),xl xt (WZ l),r]/\Sp h h' [ar 3 r 1 aD (Hd l)]:=by
 refine ud s ?_;unfold mV;refine(Sp.refl h).alloc ae rfl fun u M q=>?_;have b:=w.up q.ai;refine(rH s l 0 M b).mono ?_;rintro _ _ ⟨rfl,rfl⟩;refine⟨_,rfl,(rH s l 1 _ b).mono ?_⟩;rintro _ _ ⟨rfl,rfl⟩;refine⟨_,rfl,(rH s l 2 _ b).mono ?_⟩;rintro _ A ⟨rfl,rfl⟩;refine⟨_,rfl,(Wu _ _ _ A).mono ?_⟩;rintro _ O ⟨rfl,x⟩;have I:=q.up x.ai;refine⟨iH l,rfl,?_⟩;refine I.alloc ae rfl fun c Q F=>?_;refine F.storeAll ae 1 rfl rfl [xl xt (iH l).1,xl xt (iH l).2.1,xl xt (iH l).2.2] rfl rfl rfl rfl fun G k=>?_;have k:Sp h G [ar 3 ⟨none,0,0⟩ 1 aD ((Hd l).take 0),aq c 24 [xl xt (iH l).1,xl xt (iH l).2.1,xl xt (iH l).2.2],aq u 24 [xl xt 0,xl xt 0,xl xt 0]]:=(k.nil 3 1 aD).bK [2,1,0];have N:=adO l;have K:=abG l;refine aw (fun t:Sl×Nat=>(t.1,(t.2:Int))) (fun t h'=>t.2<=xY l/\Sp h h' [ar 3 t.1 1 aD ((Hd l).take t.2),aq c 24 [xl xt (iH l).1,xl xt (iH l).2.1,xl xt (iH l).2.2],aq u 24 [xl xt 0,xl xt 0,xl xt 0]]) (fun t=>xY l-t.2) (⟨none,0,0⟩,0) rfl ⟨by simp,k⟩ ?_;rintro⟨o,i⟩ h8 ⟨P,d⟩;dsimp only at*;have a:=w.up d.ai;refine(rH s l 4 h8 a).mono ?_;rintro _ _ ⟨rfl,rfl⟩;refine⟨_,rfl,(bQ _ 4 _ (by decide) (by decide)).mono ?_⟩;rintro _ h8 ⟨rfl,rfl⟩;refine⟨_,rfl,?_⟩;have g:=d.box 1 rfl;dsimp only;rw[ak (2+rG l 4%4)];have j:2+rG l 4%4=(xY l:Int):=by unfold xY;omega
 rw[j];refine al (fun e=>?_) (fun e=>?_)
 ·have D:i<xY l:=by omega
  rw[ak ((5:Int)+i)];have H:(5:Int)+i=((5+i:Nat):Int):=by omega
  rw[H];refine(rH s l (5+i) h8 a).mono ?_;rintro _ _ ⟨rfl,rfl⟩;refine⟨_,rfl,(bQ _ 50 _ (by decide) (by decide)).mono ?_⟩;rintro _ y ⟨rfl,rfl⟩;refine⟨_,rfl,?_⟩;dsimp only;rw[ak (8+rG l (5+i)%50)];refine d.push ae 0 rfl lL rfl (by decide) (fun _=>rfl) jf (8+rG l (5+i)%50) rfl (by decide) (by simp;omega) fun E J m=>?_;refine⟨(E,i+1),by dsimp only;rw[ak _];rfl,⟨by dsimp only;omega,?_⟩,by dsimp only;omega⟩;dsimp only;rw[aI _ _ (show i<(Hd l).length by omega)];have L:(Hd l)[i]'(by omega)=8+rG l (5+i)%50:=by simp[Hd]
  rw[L];exact m
 ·have n:i=xY l:=by omega
  subst n;rw[qi (by omega)]at d;have p:av.ok [(c,(xl xt (iH l).1)),(c.add 1,(xl xt (iH l).2.1)),(c.add 2,(xl xt (iH l).2.2))] h8:=⟨g.cell0 rfl,g.cell rfl,g.cell rfl,trivial⟩
  refine⟨iH l,g.aL _ rfl,(rH s l 3 h8 a).mono ?_⟩;rintro _ _ ⟨rfl,rfl⟩;refine⟨_,rfl,p,(bQ _ 7 _ (by decide) (by decide)).mono ?_⟩;rintro _ z ⟨rfl,rfl⟩;refine⟨_,rfl,p,?_⟩;refine d.storeAll ae 2 rfl rfl [xl xt (iH l).1,xl xt (iH l).2.1,xl xt (iH l).2.2] rfl rfl rfl rfl fun B f=>⟨trivial,?_⟩
  exact⟨iH l,(f.box 2 rfl).aL _ rfl,o,rfl,f.bK [0]⟩
theorem abH:(eN (1,1,1) 0 Pow.new [5]).1=0:=by decide+kernel
end
end Go.Qw
namespace Wl
structure Mv where
 kind:Int
 name:ByteArray
 data:aX
 slot:Int
 n:Int
 m:Int
 mask:Int
 keeps:aC
 torns:aC
def EF:List ByteArray:=[⟨#[97]⟩,⟨#[98]⟩,⟨#[99,97,116,45,55]⟩,⟨#[100]⟩,⟨#[101,49,50,51,52,53,54,55,56,57,48,49]⟩]
def tl(p:Int×Int×Int)(b:Mv):Prop:=
 (b.kind=1/\b.name∈EF/\(b.data.length:Int)<=3*(p.1*p.2.2)+1)∨((b.kind=2∨b.kind=3∨b.kind=5)/\b.name∈EF)∨b.kind=4∨
 (b.kind=6/\(0<=b.slot/\b.slot<9)/\6<=b.n/\b.n<66)∨(b.kind=7/\0<=b.slot/\b.slot<8)∨(b.kind=8/\(0<=b.slot/\b.slot<8)/\6<=b.n/\b.n<66)∨(b.kind=9/\0<=b.slot/\b.slot<8)∨
 (b.kind=10/\(-1<=b.n/\b.n<=7)/\-1<=b.m/\b.m<=68)∨(b.kind=11/\(0<=b.slot/\b.slot<7)/\(0<=b.n/\b.n<40)/\(0<=b.m/\b.m<61)/\0<=b.mask/\b.mask<4294967296)
end Wl
namespace Go.Vc
open Go Wl
abbrev rI(s:ByteArray):aW:=[xp s]
abbrev OD:=Int×ByteArray×Sl×Int×Int×Int×Int×Sl×Sl
abbrev nE(x:OD):aW:=[xl xt x.1,xp x.2.1,x.2.2.1,xl xt x.2.2.2.1,xl xt x.2.2.2.2.1,xl xt x.2.2.2.2.2.1,xl xv x.2.2.2.2.2.2.1,x.2.2.2.2.2.2.2.1,x.2.2.2.2.2.2.2.2]
abbrev mvV(x:OD):Value:=xr #[xl xt x.1,xp x.2.1,x.2.2.1,xl xt x.2.2.2.1,xl xt x.2.2.2.2.1,xl xt x.2.2.2.2.2.1,xl xv x.2.2.2.2.2.2.1,x.2.2.2.2.2.2.2.1,x.2.2.2.2.2.2.2.2]
def lT:iJ OD Mv:=⟨fun h q a b=>(a.1=b.kind/\a.2.1=b.name/\a.2.2.2.1=b.slot/\a.2.2.2.2.1=b.n/\a.2.2.2.2.2.1=b.m/\a.2.2.2.2.2.2.1=b.mask/\a.2.2.1.len<=a.2.2.1.cap)/\Seq h q a.2.2.1 1 aE b.data/\Seq h q a.2.2.2.2.2.2.2.1 1 aD b.keeps/\Seq h q a.2.2.2.2.2.2.2.2 1 aD b.torns,
 fun a c=>⟨a.1,a.2.1.ai c,a.2.2.1.ai c,a.2.2.2.ai c⟩,fun a d=>⟨a.1,a.2.1.mono d,a.2.2.1.mono d,a.2.2.2.mono d⟩⟩
theorem adP:∀x,∀c∈rI x,c.oneCell'=true:=by intro x c a;simp[rI]at a;subst a;rfl
theorem afl:∀x,∀c∈nE x,c.oneCell'=true:=by intro x c a;simp[nE]at a;rcases a with rfl|rfl|rfl|rfl|rfl|rfl|rfl|rfl|rfl<;>rfl
end Go.Vc
namespace Go.Qw
open Go Go.Vc Go.Proofs Wl
abbrev afm:bW C.toBE 41 9 1 [xp ⟨#[]⟩] 16:=⟨_,_,rfl,rfl,rfl,rfl,rfl,rfl⟩
abbrev zMv:aW:=[xl xt 0,xp ⟨#[]⟩,xn none 0 0,xl xt 0,xl xt 0,xl xt 0,xl xv 0,xn none 0 0,xn none 0 0]
abbrev eMv:bW C.toBE 33 38 9 zMv 128:=⟨_,_,rfl,rfl,rfl,rfl,rfl,rfl⟩
theorem uu(n:Int)(h:Heap):ac xx 120 #[xl xt n] h fun v h'=>∃s∈EF,v=xp s/\Sp h h' []:=by
 refine zY n ?_;unfold og;refine(Sp.refl h).lit ae rI afm rfl EF rfl (by decide) (by kernel_rfl) fun f b a=>?_;refine(bQ n 5 b (by decide) (by decide)).mono ?_;rintro _ d ⟨rfl,rfl⟩;have g:=yp n (show(5:Int)≠0 by decide);have e:=wE n (show(0:Int)<5 by decide);have c:EF.length=5:=rfl;refine⟨_,rfl,(a.seq 0 rfl fun _=>rfl).bx (n%5).toNat (by omega) (by omega) (EF[(n%5).toNat]'(by omega)) rfl ⟨_,qh _,rfl,.zip a.ai⟩⟩
theorem ZE(p:Pm)(k a b:Int)(h:Heap)(X:bL p=true):ac xx 53 #[kh p,xl xt k,xl xt a,xl xt b] h fun v h'=>∃(x:OD) (m:Mv),v=mvV x/\tl p m/\Sp h h' [EA lT x m]:=by
 refine xZ p k a b ?_;unfold oc;obtain⟨⟨p1,V⟩,_,Z,M⟩:=(bM p).1 X;have O:1<=p.1*p.2.2/\p.1*p.2.2<=16*24:=⟨wF p1 Z (by omega) (by omega),wF V M (by omega) (by omega)⟩
 refine(Sp.refl h).boxed fun J h1 Y=>Y.alloc ae rfl fun a2 H f=>?_;have f:Sp h H [aq J 24 [xl xt p.1,xl xt p.2.1,xl xt p.2.2],aq a2 38 zMv]:=f;have fin:∀(e d n m c:Int) (name:ByteArray) {h':Heap},Sp h h' [aq J 24 [xl xt p.1,xl xt p.2.1,xl xt p.2.2],aq a2 38 zMv]->tl p ⟨e,name,[],d,n,m,c,[],[]⟩->
   ag xx (Instr.storeAt 38 (xo (some a2)) (xr #[xl xt e,xp name,xn none 0 0,xl xt d,xl xt n,xl xt m,xl xv c,xn none 0 0,xn none 0 0])) h' fun _ i=>
    ∃r:OD,aj i a2 0 (nE r)/\∃(x:OD) (m:Mv),mvV r=mvV x/\tl p m/\Sp h i [EA lT x m]:=by
  intro e d n m c name h' U D;refine U.storeAll ae 1 rfl rfl (nE (e,name,⟨none,0,0⟩,d,n,m,c,⟨none,0,0⟩,⟨none,0,0⟩)) rfl rfl rfl rfl fun i A=>?_;refine⟨(e,name,⟨none,0,0⟩,d,n,m,c,⟨none,0,0⟩,⟨none,0,0⟩),(A.box 1 rfl).aL _ rfl,_,_,rfl,D,?_⟩;have P:Sp h i []:=.zip A.ai;exact P.comp (.one (aU.refl _ _) ⟨⟨rfl,rfl,rfl,rfl,rfl,rfl,Nat.le_refl _⟩,Seq.nil _ _ _ _ _ _,Seq.nil _ _ _ _ _ _,Seq.nil _ _ _ _ _ _⟩)
 refine(bQ k 26 H (by decide) (by decide)).mono ?_;rintro _ h3 ⟨rfl,rfl⟩;have k0:=yp k (show(26:Int)≠0 by decide);have k1:=wE k (show(0:Int)<26 by decide);have W:∀(x n:Int),0<n->0<=x%n/\x%n<n:=fun x n L=>⟨yp x (by omega),wE x L⟩
 refine⟨_,rfl,al (fun _=>?_) fun _=>?_⟩
 ·refine⟨by decide,p.1,(f.box 0 rfl).cell0 rfl,p.2.2,(f.box 0 rfl).cell rfl,(uu a h3).mono ?_⟩;rintro _ g ⟨s,t,rfl,j⟩;have u:=f.up j.ai;have T:qc xt ((qc xt ((qc xt ((3:Int)*p.1))*p.2.2))+(2:Int))=3*(p.1*p.2.2)+2:=by
   rw[ak (3*p.1),Int.mul_assoc,ak (3*(p.1*p.2.2)),ak _]
  refine⟨s,rfl,⟨(u.box 0 rfl).cell rfl,(u.box 0 rfl).cell0 rfl,trivial⟩,?_⟩;rw[T];refine(bQ _ (3*(p.1*p.2.2)+2) g (by omega) (by omega)).mono ?_;rintro _ o ⟨rfl,rfl⟩;obtain⟨q,B⟩:∃q,q=qc xt (wI a 5)%(3*(p.1*p.2.2)+2):=⟨_,rfl⟩
  have G:=W (qc xt (wI a 5)) (3*(p.1*p.2.2)+2) (by omega);rw[<-B]at G⊢;obtain⟨N,Q⟩:∃N:Nat,q=N:=⟨q.toNat,by omega⟩
  subst Q;refine⟨_,rfl,⟨(u.box 0 rfl).cell rfl,(u.box 0 rfl).cell0 rfl,trivial⟩,(Wi N b o (by omega)).mono ?_⟩;rintro _ h6 ⟨r,l,rfl,hl,K⟩;have E:=u.comp K;have y:=(K.own 0 rfl).cap;refine⟨r,rfl,⟨(E.box 0 rfl).cell rfl,(E.box 0 rfl).cell0 rfl,trivial⟩,?_⟩;refine E.storeAll ae 1 rfl rfl (nE (1,s,r,0,0,0,0,⟨none,0,0⟩,⟨none,0,0⟩)) rfl rfl rfl rfl fun h7 I=>?_;refine⟨trivial,(1,s,r,0,0,0,0,⟨none,0,0⟩,⟨none,0,0⟩),(I.box 1 rfl).aL _ rfl,_,(⟨1,s,l,0,0,0,0,[],[]⟩:Mv),rfl,.inl ⟨rfl,t,by dsimp only;omega⟩,?_⟩;have S:=I.bK [2];exact S.fO 0 rfl fun q B=>⟨⟨rfl,rfl,rfl,rfl,rfl,rfl,y⟩,B.1.seq (fun _=>rfl) B.2,Seq.nil _ _ _ _ _ _,Seq.nil _ _ _ _ _ _⟩
 refine al (fun _=>(uu a h3).mono ?_) fun _=>al (fun _=>(uu a h3).mono ?_) fun _=>cI (fun _=>?_) fun _=>cI (fun _=>(uu a h3).mono ?_) fun _=>cI (fun _=>?_) fun _=>cI (fun _=>?_) fun _=>cI (fun _=>?_) fun _=>cI (fun _=>?_) fun _=>al (fun _=>?_) fun _=>cI (fun _=>?_) fun _=>?_
 ·rintro _ g ⟨s,t,rfl,j⟩;exact⟨s,rfl,fin 2 0 0 0 0 s (f.up j.ai) (.inr (.inl ⟨.inl rfl,t⟩))⟩
 ·rintro _ g ⟨s,t,rfl,j⟩;exact⟨s,rfl,fin 3 0 0 0 0 s (f.up j.ai) (.inr (.inl ⟨.inr (.inl rfl),t⟩))⟩
 ·exact fin 4 0 0 0 0 _ f (.inr (.inr (.inl rfl)))
 ·rintro _ g ⟨s,t,rfl,j⟩;exact⟨s,rfl,fin 5 0 0 0 0 s (f.up j.ai) (.inr (.inl ⟨.inr (.inr rfl),t⟩))⟩
 ·refine(bQ a 9 h3 (by decide) (by decide)).mono ?_;rintro _ g ⟨rfl,rfl⟩;refine⟨_,rfl,(bQ b 60 g (by decide) (by decide)).mono ?_⟩;rintro _ o ⟨rfl,rfl⟩;have w:=W a 9 (by decide);have F:=W b 60 (by decide);refine⟨_,rfl,?_⟩;dsimp only;rw[ak (6+b%60)];exact fin 6 _ _ 0 0 _ f (.inr (.inr (.inr (.inl ⟨rfl,w,by dsimp only;omega,by dsimp only;omega⟩))))
 ·refine(bQ a 8 h3 (by decide) (by decide)).mono ?_;rintro _ _ ⟨rfl,rfl⟩;exact⟨_,rfl,fin 7 _ 0 0 0 _ f (.inr (.inr (.inr (.inr (.inl ⟨rfl,W a 8 (by decide)⟩)))))⟩
 ·refine(bQ a 8 h3 (by decide) (by decide)).mono ?_;rintro _ g ⟨rfl,rfl⟩;refine⟨_,rfl,(bQ b 60 g (by decide) (by decide)).mono ?_⟩;rintro _ o ⟨rfl,rfl⟩;have w:=W a 8 (by decide);have F:=W b 60 (by decide);refine⟨_,rfl,?_⟩;dsimp only;rw[ak (6+b%60)];exact fin 8 _ _ 0 0 _ f (.inr (.inr (.inr (.inr (.inr (.inl ⟨rfl,w,by dsimp only;omega,by dsimp only;omega⟩))))))
 ·refine(bQ a 8 h3 (by decide) (by decide)).mono ?_;rintro _ _ ⟨rfl,rfl⟩;exact⟨_,rfl,fin 9 _ 0 0 0 _ f (.inr (.inr (.inr (.inr (.inr (.inr (.inl ⟨rfl,W a 8 (by decide)⟩)))))))⟩
 ·refine(bQ a 3 h3 (by decide) (by decide)).mono ?_;rintro _ g ⟨rfl,rfl⟩;refine⟨_,rfl,(bQ b 20 g (by decide) (by decide)).mono ?_⟩;rintro _ o ⟨rfl,rfl⟩;have w:=W a 3 (by decide);have F:=W b 20 (by decide);exact⟨_,rfl,fin 10 0 _ _ 0 _ f (.inr (.inr (.inr (.inr (.inr (.inr (.inr (.inl ⟨rfl,by dsimp only;omega,by dsimp only;omega,by dsimp only;omega⟩))))))))⟩
 ·refine(bQ a 9 h3 (by decide) (by decide)).mono ?_;rintro _ g ⟨rfl,rfl⟩;refine⟨_,rfl,(bQ b 70 g (by decide) (by decide)).mono ?_⟩;rintro _ o ⟨rfl,rfl⟩;have w:=W a 9 (by decide);have F:=W b 70 (by decide);refine⟨_,rfl,?_⟩;dsimp only;rw[ak (a%9-1),ak (b%70-1)];exact fin 10 0 _ _ 0 _ f (.inr (.inr (.inr (.inr (.inr (.inr (.inr (.inl ⟨rfl,by dsimp only;omega,by dsimp only;omega,by dsimp only;omega⟩))))))))
 ·refine(bQ a 7 h3 (by decide) (by decide)).mono ?_;rintro _ g ⟨rfl,rfl⟩;refine⟨_,rfl,by decide,(bQ _ 40 g (by decide) (by decide)).mono ?_⟩;rintro _ o ⟨rfl,rfl⟩;refine⟨_,rfl,(bQ b 61 o (by decide) (by decide)).mono ?_⟩;rintro _ h6 ⟨rfl,rfl⟩;have R:∀z:Int,0<=qc xv z/\qc xv z<4294967296:=fun z=>by rw[NC];have:=(BitVec.ofInt 32 z).isLt;omega
  exact⟨_,rfl,fin 11 _ _ _ _ _ f (.inr (.inr (.inr (.inr (.inr (.inr (.inr (.inr ⟨rfl,W a 7 (by decide),W _ 40 (by decide),W b 61 (by decide),R _⟩))))))))⟩
theorem Xa(p:Pm)(s:Sl)(l:aC)(a:Nat)(h:Heap)(P:bL p=true)(g:Rd h s 1 aD l)(Z:a<=100):
  ac xx 9 #[kh p,s,xl xt a,xq false] h fun v h'=>∃(r:Sl) (L:List Mv),v=r/\(∀m∈L,tl p m)/\L.length<=a/\Sp h h' [cx 38 r 9 nE lT L]:=by
 refine uZ p s a false ?_;unfold nt;have R:=g.len;refine(Sp.refl h).boxed fun z S w=>?_;have w:Sp h S [aq z 24 [xl xt p.1,xl xt p.2.1,xl xt p.2.2]]:=w;have fin:∀{h':Heap} (r:Sl) (L:List Mv),(∀m∈L,tl p m)->L.length<=a->Sp h h' [aq z 24 [xl xt p.1,xl xt p.2.1,xl xt p.2.2],cx 38 r 9 nE lT L]->∃(n:Sl) (L:List Mv),(Value.slice r.ptr r.len r.cap)=xn n.ptr n.len n.cap/\(∀m∈L,tl p m)/\L.length<=a/\Sp h h' [cx 38 n 9 nE lT L]:=fun r L q J O=>⟨r,L,rfl,q,J,O.bK [1]⟩
 refine be ?_;refine aw (fun t:Sl×List Mv=>(t.1,((3*t.2.length:Nat):Int))) (fun t h'=>(∀m∈t.2,tl p m)/\t.2.length<=a/\Sp h h' [aq z 24 [xl xt p.1,xl xt p.2.1,xl xt p.2.2],cx 38 t.1 9 nE lT t.2]) (fun t=>a-t.2.length) (⟨none,0,0⟩,[]) rfl ⟨by simp,by simp,w.My 38 9 nE lT⟩ ?_;rintro⟨o,L⟩ I ⟨c,F,f⟩;dsimp only at c F f⊢;obtain⟨k,D⟩:∃k,k=L.length:=⟨_,rfl⟩
 rw[<-D]at F⊢;obtain⟨X,Y⟩:=f.aeg 1 rfl;refine be ?_;rw[ak (((3*k:Nat):Int)+2)];refine al (fun T=>?_) fun _=>fin o L c (by omega) f;refine al (fun V=>?_) fun _=>fin o L c (by omega) f;have Q:3*k+2<l.length:=by omega
 have N:k<a:=by omega
 refine be (be (bw (fun e=>by cases e) fun _=>bw (fun e=>by cases e) fun _=>?_));have d:=g.up f.ai;obtain⟨G,H,q,_,_⟩:=g.elem (3*k) l[3*k] (qd (by omega));have b:∀{h':Heap},Rd h' s 1 aD l->cellOf h' ((⟨G,H,none⟩:Addr).add (((3*k:Nat):Int).toNat*1))=some (xl xt l[3*k]):=fun{h'} hr=>by
  obtain⟨U,B,i,_,u3⟩:=hr.elem (3*k) l[3*k] (qd (by omega));rw[q]at i;injection i with i
  injection i with i u2
  subst i;subst u2;rw[qo,add_eq];have A:=u3.1;rw[add_eq,yu]at A;exact A
 refine⟨p,(f.box 0 rfl).aL _ rfl,⟨G,H,none⟩,⟨q,by omega,by omega⟩,l[3*k],b d,by decide,?_⟩;rw[ak (((3*k:Nat):Int)+1)];refine d.bx (3*k+1) (by omega) (by omega) l[3*k+1] rfl ?_;refine d.bx (3*k+2) (by omega) (by omega) l[3*k+2] rfl ?_;refine(ZE p _ _ _ I P).mono ?_;rintro _ h3 ⟨x,m,rfl,u,K⟩;have j:=f.comp K;refine⟨x,rfl,⟨b (g.up j.ai),trivial⟩,?_⟩;refine j.nV ae nE eMv rfl [x] rfl (show 1*9<=2^20 by decide) (by kernel_rfl) ⟨b (g.up j.ai),trivial⟩ ?_;refine j.CR ae 1 2 (by decide) rfl rfl eMv rfl (by decide) (fun _=>rfl) afl (by kernel_rfl) (by decide) (by omega) fun B W E=>?_;refine⟨⟨b (g.up E.ai),trivial⟩,(B,L++[m]),?_,⟨fun M y=>?_,by dsimp only;simp;omega,E.bK [0,1]⟩,by dsimp only;simp;omega⟩
 ·dsimp only;rw[ak (((3*k:Nat):Int)+3),qx,<-D];rfl
 ·rcases qA.1 y with h|h
  ·exact c M h
  ·rw[qG.1 h];exact u
theorem tl.put{p:Pm}{b:Mv}(h:tl p b)(a:b.kind=1):b.name∈EF/\(b.data.length:Int)<=3*(p.1*p.2.2)+1:=by
 unfold tl at h;rw[a]at h;rcases h with h|h|h|h|h|h|h|h|h
 ·exact h.2
 ·exact absurd h.1 (by decide)
 ·exact absurd h (by decide)
 all_goals exact absurd h.1 (by decide)
theorem abI:∀s∈EF,s.size<=12:=by decide+kernel
theorem UM:∀s∈EF,jv s=true:=by decide+kernel
theorem adQ{p:Pm}{extra:Int}{l:aC}(j:bL p=true)(f:0<=extra/\extra<=16)(g:1<=l.length/\l.length<=24)(h:∀x∈l,1<=x/\x<=512):
  xS p extra l=0/\bm l l.length=(qE l.length).map fun i:Nat=>(i:Int):=by
 have d:∀i (a:i<l.length),1<=l.getD i 0/\l.getD i 0<=512:=fun i a=>by rw[fQ 0 a];exact h _ (qh a)
 have h0:bm l l.length=(qE l.length).map fun i:Nat=>(i:Int):=by
  unfold bm;refine z6.2 fun y b=>?_;obtain⟨i,a,rfl⟩:=qq.1 b;have a:=qD.1 a;have:=d i a;rw[qo];exact decide_eq_true (by omega)
 refine⟨?_,h0⟩;have k:(fc l).2=true:=by
  have c:l.all (fd · 0 512)=true:=qN.2 fun y b=>(lE _ _ _).2 ⟨by have:=h y b;omega,(h y b).2⟩;unfold fc;rw[if_pos c,h0];simp;omega
 have e:fd extra 0 16=true:=(lE _ _ _).2 f;have h3:((bm l l.length).any fun i=>decide (l.getD i.toNat 0<((aY (ck p extra l)).length:Int)))=false:=by
  refine wc.2 fun y b=>?_;rw[h0]at b;obtain⟨i,a,rfl⟩:=qq.1 b;have a:=qD.1 a;have m:=Ph p extra l g.2;have:=d i a;rw[qo,decide_eq_true_eq];omega
 unfold xS;rw[k,j,e,h3];rfl
theorem ZF{p:Pm}{extra:Int}{l:aC}{D:aT}{m:aG}(j:m=ck p extra l)(v:xS p extra l=0)(w:l.length<=64)(n:D.length=64)
  (u:∀s,bp D s=if s∈bm l l.length then some ⟨(l.getD s.toNat 0).toNat,aY m,0,[],false,false⟩else none) (C:Int->aX):fw m C D/\Full m C D/\sP m D:=by
 have b:bO m=true:=by rw[j];exact RJ w v
 have i:m.drives=bm l l.length:=by rw[j];rfl
 have o:m.objs=[]:=by rw[j];rfl
 have f:∀k d,bp D k=some d->∀c∈d.l,c∈aY m:=fun k d a c f=>by
  rw[u]at a;split at a
  ·injection a with a;subst a;exact f
  ·cases a
 refine⟨⟨b,n,fun k d a c h=>CF C b (f k d a c h),fun e g=>by rw[o]at g;cases g⟩,⟨fun k t=>?_,fun e g=>by rw[o]at g;cases g⟩,fun k d a c h r q=>?_⟩
 ·rw[i]at t;refine⟨_,by rw[u,if_pos t],rfl,?_⟩;unfold mC;rw[b,Bool.true_and];exact qN.2 fun c f=>decide_eq_true f
 ·rw[fb (f k d a c h)]at q;cases q
structure Inv (m:aG) (C:Int->aX) (ds:aT) (N:Nat):Prop where
 sto:fw m C ds
 full:Full m C ds
 low:sP m ds
 nm:∀e∈m.objs,e.name∈EF
 dr:m.drives≠[]
 seq:m.seq<=1+N
 nx:m.next<=N
theorem JP{m:aG}{C:Int->aX}{ds:aT}{N:Nat}(I:Inv m C ds N):m.objs.length<=5:=by
 have h:(m.objs.map Wl.bV.name).Nodup:=by
  have a:=((bZ m).1 I.sto.may).2.2.2.2.2.1;exact wz.2 (a.imp fun h=>AR h)
 have:=rF h (m:=EF) fun x c=>by
  obtain⟨e,b,rfl⟩:=qq.1 c;exact I.nm e b
 rw[qu]at this;exact this
theorem Inv.step{m:aG}{C:Int->aX}{ds:aT}{N:Nat}(I:Inv m C ds N):Inv m C ds (N+1):=⟨I.sto,I.full,I.low,I.nm,I.dr,by have:=I.seq;omega,by have:=I.nx;omega⟩
theorem Inv.get{m:aG}{C:Int->aX}{ds:aT}{N:Nat}(I:Inv m C ds N){e:Wl.bV}(a:e∈m.objs):nf m 0 Pow.new ds e.name=(C e.object,0):=by
 rw[(I.sto.get rfl e.name).1 e a rfl,if_pos (I.full.can I.sto I.dr a)]
theorem Nq{a:Nat}:∀{l:cD},(∀x∈l,x.length=a)->l.flatten.length=l.length*a
 |[],_=>by simp
 |x::l,h=>by
  rw[List.flatten_cons,qx,h x qW,Nq fun y b=>h y (qR _ b),q9,zJ];omega
theorem Xb(p:Pm)(l:Sl)(c:cD)(n:Int)(h:Heap)(N:gx h l 1 aE c)(hn:n<=2^20)(ab:c.length<=2^10):
  ac xx 70 #[kh p,l,xl xt n] h fun v h'=>∃(r:Sl) (b:Bool),v=.tuple #[r,xq b]/\Sp h h' [EA (gr 1 aE) r (mT p c n)]:=by
 refine MK p l n ?_;unfold FM;have s:=N.len;refine(Sp.refl h).boxed fun I R E=>?_;have E:Sp h R [aq I 24 [xl xt p.1,xl xt p.2.1,xl xt p.2.2]]:=E;have g:∀{h':Heap},Sp h h' [aq I 24 [xl xt p.1,xl xt p.2.1,xl xt p.2.2]]->mT p c n=[]->∃(r:Sl) (b:Bool),(.tuple #[xn none 0 0,xq false]:Value)=.tuple #[r,xq b]/\Sp h h' [EA (gr 1 aE) r (mT p c n)]:=fun H' he=>by
  rw[he];exact⟨⟨none,0,0⟩,false,rfl,(((H'.nil 5 1 aE).bK [1]).Vk 0 rfl fun _=>rfl)⟩
 refine be ⟨p,(E.box 0 rfl).aL _ rfl,(ey p R).mono ?_⟩;rintro _ U ⟨rfl,R2⟩;have A:=E.up R2.ai;refine⟨_,rfl,bh (fun e=>g A (by unfold mT;rw[if_neg (by rintro⟨h,_⟩;rw[e]at h;cases h)])) fun Z=>al (fun e=>g A (by unfold mT;rw[if_neg (by rintro⟨_,h,_⟩;omega)])) fun e2=>?_⟩;have D:bL p=true:=by simpa using Z
 refine⟨p,(A.box 0 rfl).aL _ rfl,(uk p n U).mono ?_⟩;rintro _ h3 ⟨rfl,V⟩;have L:=A.up V.ai;refine⟨_,rfl,ca (fun e=>g L (by unfold mT;rw[if_neg (by rintro⟨_,_,h,_⟩;rw[s]at e;exact e h)])) fun O=>?_⟩;have G:(c.length:Int)=countP p n:=by rw[s]at O;exact O
 obtain⟨s1,s2,s3⟩:=kG D;refine aw (fun t:Sl×Nat=>(t.1,(t.2:Int))) (fun t h'=>t.2<=c.length/\(∀x∈c.take t.2,x.length=dH p)/\Sp h h' [aq I 24 [xl xt p.1,xl xt p.2.1,xl xt p.2.2],ar 5 t.1 1 aE (c.take t.2).flatten]) (fun t=>c.length-t.2) (⟨none,0,0⟩,0) rfl ⟨by simp,by simp,L.nil 5 1 aE⟩ ?_;rintro⟨o,i⟩ T ⟨Q,a,u⟩;dsimp only at Q a u⊢;refine al (fun e=>?_) fun e=>?_
 ·have f:i<c.length:=by
   have Y:(i:Int)<(l.len:Int):=e;omega
  refine(N.up u.ai).get i rfl f fun r M=>⟨p,(u.box 0 rfl).aL _ rfl,(GA p T D).mono ?_⟩
  rintro _ h5 ⟨rfl,K⟩;have B:=u.up K.ai;have y:=M.len;refine⟨_,rfl,ca (fun z=>?_) fun z=>?_⟩
  ·refine g (B.bK [0]) ?_;unfold mT;rw[if_neg];rintro⟨_,_,_,h⟩;have:=of_decide_eq_true (qN.1 h _ (qh f));exact z (by rw[y,this])
  ·have J:c[i].length=dH p:=by rw[y]at z;exact Int.ofNat_inj.1 z
   have w:=Nq a;rw[List.length_take_of_le Q]at w;have hb:i*dH p<=2^10*2^10:=Nat.mul_le_mul (by omega) (by omega);refine B.append ae 1 rfl ga ⟨_,_,rfl,rfl⟩ rfl (by decide) (fun _=>rfl) (Seq.up M K.ai) gw (by omega) fun W h6 X=>?_;refine⟨(W,i+1),by dsimp only;rw[ak _];rfl,⟨by dsimp only;omega,?_,?_⟩,by dsimp only;omega⟩
   ·dsimp only;intro x j;rw[aI _ _ f]at j;rcases qA.1 j with j|j
    ·exact a x j
    ·rw[qG.1 j];exact J
   ·dsimp only;rw[aI _ _ f,List.flatten_append];simpa using X
 ·rw[qi (by have Y:¬(i:Int)<(l.len:Int):=e;omega)]at a u;have w:=Nq a;have m:=u.own 1 rfl;have F:=m.len;obtain⟨k,hk⟩:∃k:Nat,n=k:=⟨n.toNat,by omega⟩
  subst hk;have d:=II D k;have H:(countP p (k:Int)).toNat=c.length:=by omega
  rw[H,<-w,<-F]at d;have S:mT p c (k:Int)=c.flatten.take k:=by
   unfold mT;rw[if_pos ⟨D,by omega,G,qN.2 fun x j=>decide_eq_true (a x j)⟩,qo]
  refine VH ae ga k rfl rfl (q7 d m.cap) ?_;refine⟨⟨o.ptr,k,k⟩,true,rfl,?_⟩;rw[S];have B:=(u.bK [1]).Vk 0 rfl fun _=>rfl;refine B.fO 0 rfl fun q hq=>?_;have P:=Seq.take hq k (by omega);exact⟨P.1,P.2⟩
section
variable {B:aB} {h0 h:Heap} {As:List HP} {a pw:Addr} {offs:Int} {da:List aO} {w:Pow} {ds:aT} {m:aG}
theorem Ua(x:bD)(u:bO m=true)(H:aa B h0 h (aV bj a pw (aP x) offs da w ds::bU x m::As)):
  ac xx 66 #[xo (some a)] h fun v h'=>v=xq (rE m ds)/\Sp h h' []:=by
 refine BV (some a) ?_;unfold pQ;have E:=uG u;have o:=kM u;refine(Sp.refl h).boxed fun j N e=>?_;have e:Sp h N [aq j 27 [xo (some a)]]:=e;have t:=H.up e.ai;refine⟨some a,(e.box 0 rfl).cell0 rfl,(ez x m (t.at 1 rfl) E t).mono ?_⟩;rintro _ J ⟨D,rfl,y⟩;have f:=e.comp y;have L:(bc ds m.drives).length<=64:=q7 (qP _ _) o;refine⟨D,rfl,(GG 140 #[] #[xo (some j)] (LY m ds) D (bc ds m.drives) J (by rfl) (y.seq 0 rfl fun _=>rfl) (by omega) ?_).mono ?_⟩
 ·intro k K h3 i;have g:=t.up (y.up i.ai).ai;have l:bX h3 j 27 [xo (some a)]:=(f.up i.ai).box 0 rfl;obtain⟨ok,F⟩:=aa.cB g;obtain⟨r,d,q,_⟩:=mE K;have I:=im u k r;refine Ac k j ?_;unfold om;obtain⟨n,rfl⟩:∃n:Nat,k=n:=⟨k.toNat,by omega⟩
  have A:n<da.length:=by rw[ok.la];omega
  have M:cellOf h3 ((a.add 10).add ((n:Int).toNat*1))=some (.pointer da[n]):=by
   rw[qo,zT];refine F.tK 10 n ?_;rw[oy ok.l8,qd A];rfl
  have p:iR da (n:Int)=da[n]:=by unfold iR;rw[if_pos (by omega),qo,qd A];rfl
  obtain⟨b,s,P,c,_⟩:=pE q g;refine⟨some a,l.cell0 rfl,a,rfl,⟨by omega,by omega⟩,da[n],M,some a,l.cell0 rfl,a,rfl,x,F.aL _ rfl,?_⟩;rw[<-p,c];refine(RU x m q c (g.at 1 rfl) E g).mono ?_;rintro _ O ⟨rfl,z⟩;have G:=(l.ai z.ai l.lt).cell0 rfl;refine⟨_,rfl,⟨G,G,trivial⟩,?_,z⟩;unfold LY;rw[q]
 ·rintro _ h3 ⟨rfl,i⟩;exact⟨_,rfl,rfl,.zip (f.up i.ai).ai⟩
theorem UN{name:ByteArray}{l:List Wl.bV}{i:Int}(h:VX (dP name) l i):(i<0/\l.find? (dP name)=none)∨∃(n:Nat) (a:n<l.length),i=n/\l.find? (dP name)=some l[n]:=by
 rcases h with⟨rfl,h⟩|⟨n,a,rfl,h1,h2⟩
 ·exact .inl ⟨by decide,zO.2 fun e b=>wc.1 h e b⟩
 ·refine .inr ⟨n,a,rfl,List.find?_eq_some_iff_append.2 ⟨h1,l.take n,l.drop (n+1),?_,fun e b=>?_⟩⟩
  ·rw[<-List.drop_eq_getElem_cons a,List.take_append_drop]
  ·have:=wc.1 h2 e b;simpa using this
theorem abJ(x:bD)(name:ByteArray)(P:bO m=true)(J:∀k d,bp ds k=some d->d.l.length<=512)(H:aa B h0 h (aV bj a pw (aP x) offs da w ds::bU x m::As)):
  ac xx 12 #[xo (some a),xp name] h fun v h'=>∃r:Sl,v=.tuple #[r,xl xt (nf m offs w ds name).2]/\Sp h h' [EA (gr 1 aE) r (nf m offs w ds name).1]:=by
 refine EH (some a) name ?_;unfold tu;have hz:=uG P;have a2:=kM P;have ay:(bc ds m.drives).length<=64:=q7 (qP _ _) a2;have f:∀{h':Heap} (e:Int),Sp h h' []->nf m offs w ds name=([],e)->∃r:Sl,(.tuple #[xn none 0 0,xl xt e]:Value)=.tuple #[r,xl xt (nf m offs w ds name).2]/\Sp h h' [EA (gr 1 aE) r (nf m offs w ds name).1]:=fun e R he=>by
  rw[he];exact⟨⟨none,0,0⟩,rfl,(R.nil 5 1 aE).Vk 0 rfl fun _=>rfl⟩
 refine(sH H).mono ?_;rintro _ M ⟨rfl,rfl⟩;refine⟨_,rfl,bw (fun e=>f 14 (Sp.refl _) (by unfold nf;rw[if_pos e])) fun e1=>?_⟩;refine(find_spec x m name (H.at 1 rfl) hz H).mono ?_;rintro _ h2 ⟨⟨i,rfl,hi⟩,R2⟩;have H2:=H.up R2.ai;refine⟨i,rfl,?_⟩;rcases UN hi with⟨hneg,hf⟩|⟨n,hn,rfl,hf⟩
 ·exact al (fun _=>f 5 R2 (by unfold nf;rw[if_neg (by rw[e1];decide),hf])) fun e=>absurd hneg e
 refine al (fun e=>absurd e (Int.not_lt.2 (zX n))) fun _=>?_;obtain⟨E,hE⟩:∃E,E=m.objs[n]:=⟨_,rfl⟩
 have a0:E∈m.objs:=by rw[hE];exact qh hn
 have ep:nf m offs w ds name=Bz m ds E:=by unfold nf;rw[if_neg (by rw[e1];decide),hf,hE]
 rw[ep]at f⊢;refine(Ua x P H2).mono ?_;rintro _ h3 ⟨rfl,R3⟩;have H3:=H2.up R3.ai;have I:Sp M h3 []:=R2.up R3.ai;refine⟨_,rfl,bh (fun e=>f 11 I (by unfold Bz;rw[if_pos e])) fun e3=>?_⟩;have e3:rE m ds=true:=by simpa using e3
 have W:=(gC m E).1 (((bZ m).1 P).2.2.2.2.1 E a0);have a5:E.tries.length<=8:=by have:=mP W.2.2.1.2;omega
 have ah:=((dM m).1 ((bZ m).1 P).1).2.2.1;have ap:=(aa.cB H3).2;have a1:dK M x m:=H.at 1 rfl;obtain⟨ys,F⟩:=cF.fix a1.objs;have a6:=F.2.1;have s:=Fix.row F hn;obtain⟨xe,U⟩:∃xe,xe=ys[n]'(by omega):=⟨_,rfl⟩
 rw[<-hE,<-U]at s;refine⟨a,rfl,x.2.2.2.2.2.2.2,ap.cell rfl,(Seq.up F.1 I.ai).dt (g:=bI) n rfl (by omega) xe (by rw[U]) ?_⟩;refine(Sp.refl h3).alloc ae rfl fun a8 h4 Q4=>?_;refine Q4.storeAll ae 0 rfl rfl (bI xe) rfl rfl rfl rfl fun h5 Q5=>?_;have Q5:Sp h3 h5 [aq a8 105 (bI xe)]:=Q5;have R5:Sp M h5 [aq a8 105 (bI xe)]:=I.comp Q5;have S:Rd M xe.2.2.2 1 aD E.tries:=s.2;have a4:=S.len;have eo:xe.2.1=E.object:=s.1.2.1;have el:xe.2.2.1=E.length:=s.1.2.2;have R5:=R5.Fk 35 5 1 aE;refine⟨xe.2.2.2,(Q5.box 0 rfl).cell rfl,?_⟩;refine aw (fun t:Sl×Nat=>(t.1,(t.2:Int))) (fun t h'=>t.2<=E.tries.length/\(∀j,j<t.2->(jr m ds E.object E.tries j).2=0)/\Sp M h' [eE t.1 ((qE t.2).map fun j=>(jr m ds E.object E.tries j).1),aq a8 105 (bI xe)]) (fun t=>E.tries.length-t.2) (⟨none,0,0⟩,0) rfl ⟨by simp,fun j u=>absurd u (Nat.not_lt_zero _),R5⟩ ?_;rintro⟨o,k⟩ h6 ⟨hk,K,y⟩;dsimp only at hk K y⊢;have H6:=H.up y.ai;have T:=(aa.cB H6).2;have X:dK h6 x m:=H6.at 1 rfl;have cp:∀{h':Heap},bX h' a 95 (dh (aP x) pw offs da)->aj h' (a.add 2) 0 [xl xt m.p.1,xl xt m.p.2.1,xl xt m.p.2.2]:=fun{h'} hb=>by
  rw[<-X.p];exact⟨by rw[addr_add];exact hb.cell rfl,by rw[addr_add];exact hb.cell rfl,by rw[addr_add];exact hb.cell rfl,trivial⟩
 refine al (fun e=>?_) fun e=>?_
 ·have G:k<E.tries.length:=by
   have e':(k:Int)<(xe.2.2.2.len:Int):=e;omega
  refine(Seq.up S y.ai).bx k rfl G E.tries[k] rfl ?_;refine be ⟨a,rfl,x,T.aL _ rfl,xe.2.1,(y.box 1 rfl).cell rfl,(ez x m X hz H6).mono ?_⟩;rintro _ h7 ⟨lv,rfl,R7⟩;have H7:=H6.up R7.ai;have q:=(aa.cB H7).2;have Y:=y.up R7.ai;refine⟨lv,rfl,⟨(Y.box 1 rfl).cell rfl,q.cell0 rfl,q.cell rfl,q.cell rfl,q.cell rfl,q.cell rfl,q.cell rfl,q.cell rfl,q.cell rfl,trivial⟩,?_⟩;rw[eo];refine(RI x m lv (bc ds m.drives) E.object k (H7.at 1 rfl) hz (R7.seq 0 rfl fun _=>rfl) (by omega) (fun j u=>by obtain⟨_,d,hd,_⟩:=mE u;exact⟨d,hd⟩) H7).mono ?_;rintro _ h8 ⟨r,ss,rfl,R8⟩;have H8:=H7.up R8.ai;have N:=(aa.cB H8).2;have D:=Y.up R8.ai;refine⟨r,rfl,trivial,be ⟨a,rfl,m.p,cp N,xe.2.1,(D.box 1 rfl).cell rfl,(ul xe.2.1 k E.tries[k] h8).mono ?_⟩⟩;rintro _ Z ⟨rfl,rfl⟩;obtain⟨c1,c2,c3,_⟩:=cp N;have L:Fix dX 2 piv Z (fun b=>b<Z.size) r ss (iu m ds (bc ds m.drives) E.object k):=R8.at 0 rfl;have a3:fx LW Z r (iu m ds (bc ds m.drives) E.object k):=⟨ss,L.1,L.2.1,L.2.2⟩
  have bd:(iu m ds (bc ds m.drives) E.object k).length<=64*512:=by
   unfold iu;refine q7 (CB (c:=512) fun j u=>?_) (zu _ ay);obtain⟨_,d,hd,_⟩:=mE u;unfold sK;rw[hd];have M:=Wk m E.object k d.l;have h2:=J j d hd;show(xR m E.object k d.l).length<=512;omega
  rw[eo];refine⟨_,rfl,⟨c1,c2,c3,trivial⟩,(WS m.p (cN E.object k E.tries[k]) r _ Z a3 (by omega)).mono ?_⟩;rintro _ a9 ⟨ab,rfl,A⟩;have eb:mG m.p (cN E.object k E.tries[k]) (iu m ds (bc ds m.drives) E.object k)=jr m ds E.object E.tries k:=by
   unfold jr;rw[fQ 0 G]
  rw[eb]at A⊢;have V:=D.up A.ai;refine⟨(ab,(jr m ds E.object E.tries k).2),rfl,trivial,ca (fun e4=>f 11 (.zip V.ai) ?_) fun e4=>?_⟩
  ·unfold Bz;rw[if_neg (by rw[e3];decide),if_neg];intro Q;exact e4 (of_decide_eq_true (qN.1 Q k (qD.2 G)))
  ·have ad:=(D.comp A).bi 3 [0,2,1];refine aa.Hu ae ad fG (by simp;omega) fun o' a7 ax=>?_;refine⟨(o',k+1),by dsimp only;rw[ak _];rfl,⟨by dsimp only;omega,fun j u=>?_,?_⟩,by dsimp only;omega⟩
   ·rcases Nat.lt_succ_iff_lt_or_eq.1 u with u|rfl
    ·exact K j u
    ·simpa using e4
   ·dsimp only;rw[List.range_succ,qT];exact ax
 ·have am:k=E.tries.length:=by
   have e':¬(k:Int)<(xe.2.2.2.len:Int):=e;omega
  subst am;refine⟨a,rfl,m.p,cp T,xe.2.2.1,(y.box 1 rfl).cell rfl,?_⟩;rw[el];have z:E.length<=2^20:=by
   obtain⟨⟨k1,k2⟩,_,z1,z2⟩:=(bM m.p).1 ah;have:m.p.1*m.p.2.2<=16*24:=wF k2 z2 (by omega) (by omega);have:=W.2.2.1.2;omega
  refine(Xb m.p o _ E.length h6 (y.NB fun _=>rfl) z (by simp;omega)).mono ?_;rintro _ bb ⟨O,b,rfl,ao⟩;have eg:Bz m ds E=(mT m.p ((qE E.tries.length).map fun k=>(jr m ds E.object E.tries k).1) E.length,0):=by
   unfold Bz;rw[if_neg (by rw[e3];decide),if_pos (qN.2 fun j u=>decide_eq_true (K j (qD.1 u)))]
  rw[eg];exact⟨(O,b),rfl,trivial,O,rfl,((y.comp ao).bK [2])⟩
end
def JQ(m:aG)(ds:aT)(o k:Int):Nat:=match bp ds k with|some d=>(cZ m d.l).countP (fun r=>decide (r.object=o))|none=>0
def lj(m:aG)(ds:aT)(live:aC)(o:Int):Nat:=(live.map (JQ m ds o)).sum
def lU(m:aG)(offs:Int)(w:Pow)(ds:aT)(name:ByteArray):(Int×Int×Int)×Int:=
 if dC w offs=true then((0,0,0),14)else match m.objs.find? (dP name)with
 |none=>((0,0,0),5)
 |some e=>((e.length,(e.tries.length:Int),(lj m ds (bc ds m.drives) e.object:Int)),0)
section
variable {B:aB} {h0 h:Heap} {As:List HP} {a pw:Addr} {offs:Int} {da:List aO} {w:Pow} {ds:aT} {m:aG}
abbrev ng(s:Int×Int×Int)(t:Sl):aW:=[xl xt s.1,xl xt s.2.1,xl xt s.2.2,t]
theorem adR(m:aG)(ds:aT)(o k:Int)(a:∀k d,bp ds k=some d->d.l.length<=512):JQ m ds o k<=512:=by
 unfold JQ;cases hd:bp ds k with
 |none=>exact Nat.zero_le _
 |some d=>exact q7 vH (q7 (mz m d.l) (a k d hd))
theorem UO(m:aG)(ds:aT)(o:Int)(a:∀k d,bp ds k=some d->d.l.length<=512):∀l:aC,lj m ds l o<=l.length*512
 |[]=>by simp[lj]
 |k::l=>by
  have:=UO m ds o a l;have:=adR m ds o k a;unfold lj at*;rw[zV,List.sum_cons,q9,zJ];omega
theorem ZG(m:aG)(ds:aT)(o:Int)(l:aC)(i:Nat)(a:i<l.length):lj m ds (l.take (i+1)) o=lj m ds (l.take i) o+JQ m ds o l[i]:=by
 unfold lj;rw[zn a,qT,List.sum_append];simp
theorem ZH(x:bD)(name:ByteArray)(hm:bO m=true)(I:∀k d,bp ds k=some d->d.l.length<=512)(H:aa B h0 h (aV bj a pw (aP x) offs da w ds::bU x m::As)):
  ac xx 17 #[xo (some a),xp name] h fun v h'=>∃t:Sl,v=.tuple #[xr #[xl xt (lU m offs w ds name).1.1,xl xt (lU m offs w ds name).1.2.1,xl xt (lU m offs w ds name).1.2.2,t],xl xt (lU m offs w ds name).2]/\Sp h h' []:=by
 refine Dl (some a) name ?_;unfold si;have hz:=uG hm;have cp:=kM hm;have b2:(bc ds m.drives).length<=64:=q7 (qP _ _) cp;refine(Sp.refl h).alloc ae rfl fun O h1 R1=>?_;have M:=H.up R1.ai;refine(sH M).mono ?_;rintro _ h2 ⟨rfl,rfl⟩;refine⟨_,rfl,bw (fun e=>?_) fun e1=>?_⟩
 ·refine R1.storeAll ae 0 rfl rfl (ng (0,0,0) ⟨none,0,0⟩) rfl rfl rfl rfl fun h3 K=>?_;have K:Sp h h3 [aq O 51 (ng (0,0,0) ⟨none,0,0⟩)]:=K;refine⟨(0,0,0,⟨none,0,0⟩),(K.box 0 rfl).aL _ rfl,⟨none,0,0⟩,?_,K.bK []⟩;unfold lU;rw[if_pos e]
 refine(find_spec x m name (M.at 1 rfl) hz M).mono ?_;rintro _ h4 ⟨⟨i,rfl,hi⟩,R4⟩;have J:=R1.up R4.ai;have H4:=M.up R4.ai;refine⟨i,rfl,?_⟩;rcases UN hi with⟨hneg,hf⟩|⟨n,hn,rfl,hf⟩
 ·refine al (fun _=>?_) fun e=>absurd hneg e;refine J.storeAll ae 0 rfl rfl (ng (0,0,0) ⟨none,0,0⟩) rfl rfl rfl rfl fun h3 K=>?_;have K:Sp h h3 [aq O 51 (ng (0,0,0) ⟨none,0,0⟩)]:=K;refine⟨(0,0,0,⟨none,0,0⟩),(K.box 0 rfl).aL _ rfl,⟨none,0,0⟩,?_,K.bK []⟩;unfold lU;rw[if_neg (by rw[e1];decide),hf]
 refine al (fun e=>absurd e (Int.not_lt.2 (zX n))) fun _=>?_;obtain⟨E,hE⟩:∃E,E=m.objs[n]:=⟨_,rfl⟩
 have b3:E∈m.objs:=by rw[hE];exact qh hn
 have ep:lU m offs w ds name=((E.length,(E.tries.length:Int),(lj m ds (bc ds m.drives) E.object:Int)),0):=by unfold lU;rw[if_neg (by rw[e1];decide),hf,hE]
 rw[ep];have b5:=(gC m E).1 (((bZ m).1 hm).2.2.2.2.1 E b3);have c5:E.tries.length<=8:=by have:=mP b5.2.2.1.2;omega
 have a8:=(aa.cB H4).2;have cr:dK h4 x m:=H4.at 1 rfl;obtain⟨ys,F⟩:=cF.fix cr.objs;have c9:=F.2.1;have p:=Fix.row F hn;obtain⟨xe,ay⟩:∃xe,xe=ys[n]'(by omega):=⟨_,rfl⟩
 rw[<-hE,<-ay]at p;refine⟨a,rfl,x.2.2.2.2.2.2.2,a8.cell rfl,F.1.dt (g:=bI) n rfl (by omega) xe (by rw[ay]) ?_⟩;refine(Sp.refl h4).alloc ae rfl fun f h6 Q6=>?_;refine Q6.storeAll ae 0 rfl rfl (bI xe) rfl rfl rfl rfl fun h7 Q7=>?_;have Q7:Sp h4 h7 [aq f 105 (bI xe)]:=Q7;obtain⟨Q,R7⟩:∃Q,Sp h h7 [aq O 51 Q,aq f 105 (bI xe)]/\Q.length=4:=⟨_,J.comp Q7,rfl⟩
 obtain⟨R7,z4⟩:=R7;have U:Rd h4 xe.2.2.2 1 aD E.tries:=p.2;have R:=U.len;have eo:xe.2.1=E.object:=p.1.2.1;have el:xe.2.2.1=E.length:=p.1.2.2;have a7:=Q7.ai;refine cl (fun(s:Addr) h'=>∃t:Sl,Sp h h' [aq O 51 Q,aq f 105 (bI xe),aq s 51 (ng (E.length,(E.tries.length:Int),0) t)]) ?_ ?_
 ·have y:=R7.box 1 rfl;refine⟨xe.2.2.1,y.cell rfl,xe.2.2.2,y.cell rfl,xe.2.2.2,y.cell rfl,?_,?_⟩
  ·refine(jg xe.2.2.2 E.tries h7 (U.up a7) (by omega)).mono ?_;rintro _ h8 ⟨t,rfl,R8⟩;have b1:=R7.up R8.ai;refine⟨t,rfl,jL R8.ai ⟨y.cell rfl,y.cell rfl,trivial⟩,b1.alloc ae rfl fun d0 h9 R9=>?_⟩;have a0:=R9.box 1 rfl;refine⟨⟨a0.cell rfl,a0.cell rfl,trivial⟩,R9.storeAll ae 2 rfl rfl (ng (E.length,(E.tries.length:Int),0) t) (by rw[el,R];rfl) rfl rfl rfl fun ce S=>⟨trivial,t,S⟩⟩
  ·refine(Sp.refl h7).alloc ae rfl fun dr b9 a3=>?_;have ah:=R7.comp a3;have c:=ah.box 1 rfl;refine⟨⟨c.cell rfl,c.cell rfl,c.cell rfl,trivial⟩,?_⟩;refine(jg xe.2.2.2 E.tries b9 ((U.up a7).up a3.ai) (by omega)).mono ?_;rintro _ dy ⟨t,rfl,ao⟩;have ax:=ah.up ao.ai;refine⟨t,rfl,jL ao.ai ⟨c.cell rfl,c.cell rfl,trivial⟩,ax.storeAll ae 2 rfl rfl (ng (E.length,(E.tries.length:Int),0) t) (by rw[el,R];rfl) rfl rfl rfl fun ce S=>⟨trivial,t,S⟩⟩
 rintro z c6 ⟨t,J⟩;have a6:=H.up J.ai;refine(ez x m (a6.at 1 rfl) hz a6).mono ?_;rintro _ bq ⟨Z,rfl,D⟩;obtain⟨live,G⟩:∃live,live=bc ds m.drives:=⟨_,rfl⟩
 have a9:∀k∈live,k∈m.drives/\∃d,bp ds k=some d/\d.lost=false:=fun k hk=>mE (by rw[<-G];exact hk);rw[<-G]at D b2⊢;have D:Sp h bq [aq O 51 Q,aq f 105 (bI xe),aq z 51 (ng (E.length,(E.tries.length:Int),(lj m ds (live.take 0) E.object:Int)) t),ar 3 Z 1 aD live]:=J.comp D;have dk:=(D.own 3 rfl).len;refine⟨Z,rfl,?_⟩;refine aw (fun i:Nat=>(i:Int)) (fun i h'=>i<=live.length/\Sp h h' [aq O 51 Q,aq f 105 (bI xe),aq z 51 (ng (E.length,(E.tries.length:Int),(lj m ds (live.take i) E.object:Int)) t),ar 3 Z 1 aD live]) (fun i=>live.length-i) 0 rfl ⟨by omega,D⟩ ?_;rintro i am ⟨hi,q⟩;dsimp only;refine al (fun e=>?_) fun e=>?_
 ·have Y:i<live.length:=by omega
  refine(q.seq 3 rfl fun _=>rfl).bx i rfl Y live[i] rfl ?_;have X:=H.up q.ai;obtain⟨cf,d,hd,_⟩:=a9 live[i] (qh Y);have c4:=im hm _ cf;obtain⟨ok,hb⟩:=aa.cB X;obtain⟨k,hk⟩:∃k:Nat,live[i]=k:=⟨live[i].toNat,by omega⟩
  have ad:k<da.length:=by rw[ok.la];omega
  have T:=ZG m ds E.object live i Y;rw[hk]at hd T⊢;have cd:cellOf am ((a.add 10).add ((k:Int).toNat*1))=some (.pointer da[k]):=by
   rw[qo,zT];refine hb.tK 10 k ?_;rw[oy ok.l8,qd ad];rfl
  have b0:iR da (k:Int)=da[k]:=by unfold iR;rw[if_pos (by omega),qo,qd ad];rfl
  obtain⟨b,sd,bl,b6,cs,bb,br⟩:=pE hd X;refine⟨a,rfl,⟨by omega,by omega⟩,da[k],cd,a,rfl,x,hb.aL _ rfl,?_⟩;rw[<-b0,b6];refine(pz b pw d sd bl x m am cs bb br (X.at 1 rfl) hz).mono ?_;rintro _ c7 ⟨r7,W,rfl,a5⟩;have cq:=q7 (mz m d.l) (I _ d hd);have a2:JQ m ds E.object k=(cZ m d.l).countP (fun r=>decide (r.object=E.object)):=by unfold JQ;rw[hd]
  obtain⟨cE,V⟩:∃cE,cE=cZ m d.l:=⟨_,rfl⟩
  rw[<-V]at a5 cq a2;have A:=q.comp a5;have F4:=A.dV 4 rfl;have du:=F4.2.1;have dx:=F4.1.len;refine⟨r7,rfl,trivial,?_⟩;have ab:=UO m ds E.object I (live.take i);rw[zd,Nat.min_eq_left hi]at ab;obtain⟨N,bk⟩:∃N,N=lj m ds (live.take i) E.object:=⟨_,rfl⟩
  rw[<-bk]at A ab T;have c2:i*512<=64*512:=zu _ (by omega);refine aw (fun j:Nat=>(j:Int)) (fun j h'=>j<=cE.length/\Sp h h' [aq O 51 Q,aq f 105 (bI xe),aq z 51 (ng (E.length,(E.tries.length:Int),((N+(cE.take j).countP (fun r=>decide (r.object=E.object)):Nat):Int)) t),ar 3 Z 1 aD live,cu dg 8 bn r7 W cE]) (fun j=>cE.length-j) 0 rfl ⟨by omega,A⟩ ?_;rintro j dz ⟨hj,P⟩;dsimp only;refine al (fun e2=>?_) fun e2=>?_
  ·have ap:j<cE.length:=by omega
   have F5:=P.dV 4 rfl;obtain⟨⟨g1,_⟩,_⟩:=Fix.row F5 ap;have bd:j<W.length:=by omega
   refine F5.1.dt (g:=bn) j rfl bd W[j] rfl ?_;refine P.alloc ae rfl fun b7 c8 cm=>?_;refine cm.storeAll ae 5 rfl rfl (bn W[j]) rfl rfl rfl rfl fun cc o=>?_;have o:Sp h cc [aq O 51 Q,aq f 105 (bI xe),aq z 51 (ng (E.length,(E.tries.length:Int),((N+(cE.take j).countP (fun r=>decide (r.object=E.object)):Nat):Int)) t),ar 3 Z 1 aD live,cu dg 8 bn r7 W cE,aq b7 139 (bn W[j])]:=o;have c1:(cE.take j).countP (fun r=>decide (r.object=E.object))<=512:=q7 vH (by rw[zd];omega);have L:(cE.take (j+1)).countP (fun r=>decide (r.object=E.object))=(cE.take j).countP (fun r=>decide (r.object=E.object))+(if cE[j].object=E.object then 1 else 0):=by
    rw[zn ap,List.countP_append,List.countP_singleton];simp
   refine⟨W[j].1,(o.box 5 rfl).cell0 rfl,xe.2.1,(o.box 1 rfl).cell rfl,cI (fun e3=>?_) fun e3=>?_⟩
   ·have e4:cE[j].object=E.object:=by rw[<-g1,e3,eo]
    rw[if_pos e4]at L;refine⟨((N+(cE.take j).countP (fun r=>decide (r.object=E.object)):Nat):Int),(o.box 2 rfl).cell rfl,o.storeAt ae 2 rfl rfl (off:=2) rfl rfl rfl (by simp) fun dd a4=>?_⟩;have ew:qc xt (((N+(cE.take j).countP (fun r=>decide (r.object=E.object)):Nat):Int)+1)=((N+(cE.take j).countP (fun r=>decide (r.object=E.object)):Nat):Int)+1:=ak _;refine⟨j+1,by rw[ak _];rfl,⟨by omega,?_⟩,by omega⟩;rw[L];rw[ew]at a4;have u:=a4.bK [0,1,2,3,4];have e5:((N+((cE.take j).countP (fun r=>decide (r.object=E.object))+1):Nat):Int)=((N+(cE.take j).countP (fun r=>decide (r.object=E.object)):Nat):Int)+1:=by omega
    rw[e5];exact u
   ·have e4:¬cE[j].object=E.object:=fun h=>e3 (by rw[g1,h,eo]);rw[if_neg e4,yu]at L;exact⟨j+1,by rw[ak _];rfl,⟨by omega,by rw[L];exact o.bK [0,1,2,3,4]⟩,by omega⟩
  have cn:j=cE.length:=by omega
  subst cn;rw[qQ,<-a2,<-T]at P;exact⟨i+1,by rw[ak _];rfl,⟨by omega,P.bK [0,1,2,3]⟩,by omega⟩
 have b4:i=live.length:=by omega
 subst b4;rw[qQ]at q;refine⟨(E.length,(E.tries.length:Int),(lj m ds live E.object:Int),t),(q.box 2 rfl).aL _ rfl,?_⟩;refine q.storeAll ae 0 rfl rfl (ng (E.length,(E.tries.length:Int),(lj m ds live E.object:Int)) t) rfl rfl rfl (by rw[z4];rfl) fun ch u=>?_;have u:Sp h ch [aq O 51 (ng (E.length,(E.tries.length:Int),(lj m ds live E.object:Int)) t),aq f 105 (bI xe),aq z 51 (ng (E.length,(E.tries.length:Int),(lj m ds live E.object:Int)) t),ar 3 Z 1 aD live]:=u;exact⟨(E.length,(E.tries.length:Int),(lj m ds live E.object:Int),t),(u.box 0 rfl).aL _ rfl,t,rfl,u.bK []⟩
theorem abK(name:ByteArray)(f:bO m=true)(H:aa B h0 h (ig a pw da offs w ds m::As)):
  ac xx 17 #[xo (some a),xp name] h fun v h'=>∃t:Sl,v=.tuple #[xr #[xl xt (lU m offs w ds name).1.1,xl xt (lU m offs w ds name).1.2.1,xl xt (lU m offs w ds name).1.2.2,t],xl xt (lU m offs w ds name).2]/\Sp h h' []:=by
 have b:=(YW H).2;obtain⟨x,e⟩:=mR H;exact ZH x name f (fun k d c=>q7 (b k d c).1 (b k d c).2.1) e
end
section
variable {m:aG} {C:Int->aX} {ds:aT} {offs:Int} {w:Pow}
def BB(m:aG)(ds:aT):Prop:=∀k d,bp ds k=some d->∀b e,bp ds b=some e->∀c∈d.l,∀f∈e.l,∀r a,dp c=some r->dp f=some a->cX m r=true->cX m a=true->jz r=jz a->k=b
theorem Xc{n:aG}(e:∀k d,bp ds k=some d->∀c∈d.l,c∈aY n):BB m ds:=fun k d f _ _ _ c a _ _ r _ b _ _ _ _=>by
 rw[fb (e k d f c a)]at b;cases b
theorem ZI{o:Int}{a:aC}{b:cD}{live:aC}{k:Int}{n:Nat}{r:cC}(h:r∈gn m o a b live k n):
  ∃(i id:Nat),r=jF m o i (cN o i (a.getD i 0)) (b.getD i []) id/\i<n/\id<(m.p.1+m.extra).toNat/\kQ (dG o i live) id=k:=by
 unfold gn at h;obtain⟨i,f,c⟩:=zm.1 h;unfold oD at c;obtain⟨id,e,rfl⟩:=qq.1 c;obtain⟨h3,d⟩:=qB.1 e;exact⟨i,id,rfl,qD.1 f,qD.1 h3,of_decide_eq_true d⟩
theorem OE(S:fw m C ds){name:ByteArray}{b:aX}{t:aC}(B:cK m (dC w offs) ds name b.length=0)(D:cG m.p m.next (bo m.p b).length=some t)
  {k:Int} {f:bB} (h0:bp ds k=some f) {c:aX} (g:c∈(kq m ds t b (db m ⟨name,m.next,b.length,t⟩) k f).l) {r:cC} (a:dp c=some r) (u:cX (db m ⟨name,m.next,b.length,t⟩) r=true):
  (c∈f.l/\cX m r=true/\r.object<m.next)∨∃(i id:Nat),r.object=m.next/\r.block=i/\r.id=id/\kQ (dG m.next i (bc ds m.drives)) id=k:=by
 obtain⟨J,I,z3,z4,z5⟩:=jq B;have o:m.next<=16777215:=by have:¬16777215<m.next:=fun h=>z5 (.inr (.inl h));omega
 have h8:=uF S.BA (fun h=>z4 (.inl h));have e:c∈f.l->c∈f.l/\cX m r=true/\r.object<m.next:=fun j=>by
  have v:=(S.cells k f h0 c j).old r a;obtain⟨G,A,x,q,c3,E⟩:=dZ.1 u;rcases mD.1 q with q|rfl
  ·exact⟨j,dZ.2 ⟨G,A,x,q,c3,E⟩,v⟩
  ·have:m.next=r.object:=c3;omega
 by_cases z:k∈bc ds m.drives
 ·obtain⟨_,_,N,H⟩:=lI (m:=m) (t:=t) (b:=b) (n:=db m ⟨name,m.next,b.length,t⟩) (d:=f) z;rw[H]at g;rcases qA.1 g with h|h
  ·rcases xX h with h|h
   ·exact .inl (e h)
   ·rw[fb h]at a;cases a
  ·rcases qA.1 h with h|h
   ·obtain⟨K,s,rfl⟩:=qq.1 h;obtain⟨i,id,rfl,F,hid,y⟩:=ZI s;rw[md (HM S.may o h8 D F hid) (jd _ _ _)]at a;injection a with a
    subst a;exact .inr ⟨i,id,rfl,rfl,rfl,y⟩
   ·rw[fb h]at a;cases a
 ·unfold kq at g;rw[if_neg z]at g;exact .inl (e g)
theorem BB.put(O:BB m ds)(S:fw m C ds){name:ByteArray}{b:aX}{t:aC}{ds':aT}(n:cK m (dC w offs) ds name b.length=0)(o:cG m.p m.next (bo m.p b).length=some t)
  (a:∀k,bp ds' k=(bp ds k).map (kq m ds t b (db m ⟨name,m.next,b.length,t⟩) k)):BB (db m ⟨name,m.next,b.length,t⟩) ds':=by
 intro k d z v F f c y B h r E u l h3 x s;obtain⟨A,q,rfl⟩:=nR a z;obtain⟨j,e,rfl⟩:=nR a f;unfold jz at s;injection s with e1 e2
 injection e2 with e2 e3
 rcases OE S n o q y u h3 with⟨a1,a2,a3⟩|⟨i,id,b1,b2,b3,b4⟩<;>rcases OE S n o e h l x with⟨a1',a2',a3'⟩|⟨i',id',b1',b2',b3',b4'⟩
 ·exact O k A q v j e c a1 B a1' r E u l a2 a2' (by unfold jz;rw[e1,e2,e3])
 ·omega
 ·omega
 ·have D:i=i':=by omega
  have g:id=id':=by omega
  subst D g;rw[<-b4,<-b4']
def DQ(m:aG)(ds:aT)(o k:Int):List cC:=match bp ds k with|some d=>(cZ m d.l).filter (fun r=>decide (r.object=o))|none=>[]
theorem ZJ(m:aG)(ds:aT)(o:Int)(l:aC):lj m ds l o=(l.flatMap fun k=>(DQ m ds o k).map jz).length:=by
 rw[List.length_flatMap];unfold lj;congr 1;refine List.map_congr_left fun k _=>?_;rw[qu];unfold JQ DQ;cases bp ds k with
 |none=>rfl
 |some d=>exact List.countP_eq_length_filter ..
theorem He{o k:Int}{r:cC}(h:r∈DQ m ds o k):∃d,bp ds k=some d/\r∈cZ m d.l/\r.object=o:=by
 unfold DQ at h;cases hd:bp ds k with
 |none=>rw[hd]at h;cases h
 |some d=>rw[hd]at h;exact⟨d,rfl,(qB.1 h).1,of_decide_eq_true (qB.1 h).2⟩
theorem Xd(O:BB m ds)(F:Full m C ds)(L:sP m ds)(S:fw m C ds){e:Wl.bV}(w:e∈m.objs):lj m ds m.drives e.object=e.tries.length*(m.p.1+m.extra).toNat:=by
 rw[ZJ];have H:m.drives.Nodup:=oX S.may;have n1:(m.drives.flatMap fun k=>(DQ m ds e.object k).map jz).Nodup:=by
  refine List.pairwise_flatMap.2 ⟨fun k _=>wz.2 ?_,H.imp fun{k k'} hne=>fun x f y E n=>?_⟩
  ·unfold DQ;cases o:bp ds k with
   |none=>exact List.Pairwise.nil
   |some d=>
    refine((rS m d.l).sublist List.filter_sublist).imp fun h e=>?_;unfold jz at e;injection e with e1 e2
    injection e2 with e2 e3
    rw[(go _ _).2 ⟨e1,e2,e3⟩]at h;cases h
  ·obtain⟨r,q,rfl⟩:=qq.1 f;obtain⟨Z,D,rfl⟩:=qq.1 E;obtain⟨d,o,M,_⟩:=He q;obtain⟨Y,B,I,_⟩:=He D;obtain⟨K,N,c3⟩:=fe M;obtain⟨G,J,z⟩:=fe I;exact hne (O k d o k' Y B _ K _ G r Z N J c3 z n)
 have n2:(Ha [e] (m.p.1+m.extra).toNat).Nodup:=by
  unfold Ha;rw[zl,z8,qS];refine List.pairwise_flatMap.2 ⟨fun i _=>wz.2 (yS.imp fun{a b} hne h=>?_),yS.imp fun{a b} hne=>fun x f y E n=>?_⟩
  ·injection h with _ h;injection h with _ h;omega
  ·obtain⟨u,_,rfl⟩:=qq.1 f;obtain⟨u',_,rfl⟩:=qq.1 E;injection n with _ h;injection h with h _;omega
 have V:(Ha [e] (m.p.1+m.extra).toNat).length=e.tries.length*(m.p.1+m.extra).toNat:=by
  unfold Ha;rw[zl,z8,qS,Np (c:=(m.p.1+m.extra).toNat) fun i _=>by simp,List.length_range]
 rw[<-V];refine Nat.le_antisymm (rF n1 fun x f=>?_) (rF n2 fun x f=>?_)
 ·obtain⟨k,R,f⟩:=zm.1 f;obtain⟨r,q,rfl⟩:=qq.1 f;obtain⟨d,o,M,P⟩:=He q;obtain⟨q3,T,Q⟩:=fe M;obtain⟨K,N,v,j,X,o2,_⟩:=dZ.1 Q;have g:v=e:=JL S.may j w (X.trans P);subst g;obtain⟨r1,W,r3,_⟩:=(ge r).1 K;have:=L k d o _ q3 r T Q;refine zm.2 ⟨v,List.mem_singleton_self _,zm.2 ⟨r.block.toNat,qD.2 (by omega),qq.2 ⟨r.id.toNat,qD.2 (by omega),?_⟩⟩⟩;unfold jz;rw[P,w5 W.1,w5 r3.1]
 ·obtain⟨v,j,s⟩:=zm.1 f;have g:v=e:=qG.1 j;rw[g]at s;clear j g f;obtain⟨i,t,A⟩:=zm.1 s;obtain⟨id,hid,rfl⟩:=qq.1 A;have t:=qD.1 t;have hid:=qD.1 hid;obtain⟨k,R,d,o,U⟩:=F.all e w i t id hid;have q:=DO S.may (S.cells k d o) U (md (S.Hb w t (S.JO hid)) (jd _ _ _)) (S.counts w t (S.JO hid));refine zm.2 ⟨k,R,qq.2 ⟨jF m e.object i (cN e.object i (e.tries.getD i 0)) (ft m C e.object i) id,?_,rfl⟩⟩;unfold DQ;rw[o];exact qB.2 ⟨q,decide_eq_true rfl⟩
end
section
variable {m:aG} {C:Int->aX} {ds:aT} {offs:Int} {w:Pow}
theorem Sn{l:cD}(a:∀r∈cZ m l,r.id<m.p.1+m.extra){x:Int×Int×Int}(d:x∈(cZ m l).map jz):x∈Ha m.objs (m.p.1+m.extra).toNat:=by
 obtain⟨r,b,rfl⟩:=qq.1 d;obtain⟨_,_,j⟩:=fe b;obtain⟨i,n,e,c,h,o,_⟩:=dZ.1 j;obtain⟨k,g,f,_⟩:=(ge r).1 i;have:=a r b;refine zm.2 ⟨e,c,zm.2 ⟨r.block.toNat,qD.2 (by omega),qq.2 ⟨r.id.toNat,qD.2 (by omega),?_⟩⟩⟩;unfold jz;rw[h,w5 g.1,w5 f.1]
theorem Mc(m:aG)(l:cD):((cZ m l).map jz).Nodup:=by
 refine wz.2 ((rS m l).imp fun h e=>?_);unfold jz at e;injection e with e1 e2
 injection e2 with e2 e3
 rw[(go _ _).2 ⟨e1,e2,e3⟩]at h;cases h
theorem abL(O:BB m ds)(L:sP m ds){k f:Int}{d b:bB}(v:bp ds k=some d)(a:bp ds f=some b)(t:k≠f){c n:Nat}(B:∀e∈m.objs,e.tries.length<=c)(w:m.objs.length<=n):
  (cZ m d.l).length+(cZ m b.l).length<=n*(c*(m.p.1+m.extra).toNat):=by
 have G:((cZ m d.l).map jz++(cZ m b.l).map jz).Nodup:=by
  refine List.nodup_append.2 ⟨Mc m _,Mc m _,fun x j y D i=>?_⟩;obtain⟨r,A,rfl⟩:=qq.1 j;obtain⟨F,o,rfl⟩:=qq.1 D;obtain⟨E,z,c3⟩:=fe A;obtain⟨q,s,g⟩:=fe o;exact t (O k d v f b a _ E _ q r F z s c3 g i)
 have u:=rF G (m:=Ha m.objs (m.p.1+m.extra).toNat) fun x j=>by
  rcases qA.1 j with h|h
  ·exact Sn (L.cE v) h
  ·exact Sn (L.cE a) h
 rw[qx,qu,qu]at u;exact q7 u (Sm B w)
theorem abM{g:aC}{k:Nat}{v:Int}(h:g.length=64):(g.set k v).length=64:=by rw[zA];exact h
theorem So{g:aC}(h:g.length=64){k s:Int}(b:0<=k/\k<64)(c:0<=s/\s<64)(v:Int):(g.set k.toNat v).getD s.toNat 0=if s=k then v else g.getD s.toNat 0:=by
 rw[qe,qe,qX];by_cases a:s=k
 ·rw[if_pos (by omega),if_pos (by omega),if_pos a];rfl
 ·rw[if_neg (by omega),if_neg a]
theorem Sq{pages:Nat}{others:aC}(w:others≠[])(t:others.Nodup)(a:∀k∈others,0<=k/\k<64){T:Nat}(d:∀k∈others,∀x:Int,0<=x->x<=T->fk m ds k ((pages:Int)+x)=true):
  ∀(rs:List cC) (g:aC) (l:List (Int×aX)),g.length=64->(∀k∈others,0<=g.getD k.toNat 0/\g.getD k.toNat 0+rs.length<=T)->(∀r∈rs,ia r=true)->
   ∃y P,kI m ds pages others rs g l=some (y,l++P)/\P.map zt=rs.map cy/\(∀x∈P,x.1∈others)/\∀k∈others,y.getD k.toNat 0=g.getD k.toNat 0+(dY P k).length
 |[],g,l,_,_,_=>⟨g,[],by simp[kI],rfl,fun x j=>(by cases j),fun k _=>by simp[dY]⟩
 |r::rs,g,l,h64,hg,hm=>by
  obtain⟨H,I,A,_⟩:=(ge r).1 (hm r qW);have p:=(Mb (o:=r.object) (b:=r.block) (live:=others) H (by omega) t a).2;have q:dG r.object r.block others≠[]:=fun h=>by rw[h]at p;exact w (List.nil_perm.1 p)
  obtain⟨k,E,u⟩:∃k,jJ m ds pages others g r=some k/\k∈others:=by
   cases i:jJ m ds pages others g r with
   |some k=>exact⟨k,rfl,(JH A.1 (List.mem_of_find?_eq_some i)).1⟩
   |none=>
    have h0:=zO.1 i;have v:0<(dG r.object r.block others).length:=List.length_pos_iff.2 q;have e:kQ (dG r.object r.block others) (r.id+(0:Nat))∈pG others r:=qq.2 ⟨0,qD.2 v,rfl⟩;have c:=(JH A.1 e).1;have z:=hg _ c;rw[q9]at z;refine absurd ?_ (h0 _ e);rw[Int.add_assoc];exact d _ c _ (by omega) (by omega)
  have f:=a k u;obtain⟨y,P,D,F,B,G⟩:=Sq w t a d rs (g.set k.toNat (g.getD k.toNat 0+1)) (l++[(k,cy r)]) (abM h64) (fun s i=>by
   have z:=hg s i;rw[q9]at z;rw[So h64 f (a s i)];by_cases n:s=k
   ·subst n;rw[if_pos rfl];omega
   ·rw[if_neg n];omega) (fun x j=>hm x (qR _ j))
  refine⟨y,(k,cy r)::P,?_,by rw[zV,zV,F],fun x j=>?_,fun s i=>?_⟩
  ·rw[TH,E];show kI _ _ _ _ _ _ _=_;rw[D,List.append_assoc];rfl
  ·rcases q8.1 j with rfl|j
   ·exact u
   ·exact B x j
  ·rw[G s i,So h64 f (a s i)];by_cases n:s=k
   ·subst n;rw[if_pos rfl];have:dY ((s,cy r)::P) s=cy r::dY P s:=by unfold dY;rw[List.filter_cons_of_pos (by simp)];rfl
    rw[this,q9];omega
   ·rw[if_neg n];have:dY ((k,cy r)::P) s=dY P s:=by unfold dY;rw[List.filter_cons_of_neg (by simpa using fun h:k=s=>n h.symm)]
    rw[this]
theorem abN{D:aT}(c:D.length=64){g:Int}(d:0<=g/\g<64)(s:Int):bp (D.set g.toNat none) s=if s=g then none else bp D s:=by
 unfold bp;by_cases a:0<=s/\s<64
 ·rw[if_pos a,qX];by_cases b:s=g
  ·subst b;rw[if_pos rfl,if_pos (by omega),if_pos rfl];rfl
  ·rw[if_neg (by omega),if_neg b,if_pos a]
 ·rw[if_neg a,if_neg a];split<;>rfl
theorem Sr{P:List (Int×aX)}{k:Int}{c:aX}:c∈dY P k↔(k,c)∈P:=by
 unfold dY;refine⟨fun h=>?_,fun h=>qq.2 ⟨(k,c),qB.2 ⟨h,by simp⟩,rfl⟩⟩;obtain⟨⟨a,b⟩,e,rfl⟩:=qq.1 h;obtain⟨f,d⟩:=qB.1 e;have d:a=k:=of_decide_eq_true d;rw[<-d];exact f
theorem Ss:∀{P:List (Int×aX)},(P.map zt).Nodup->∀{a b:Int} {c:aX},(a,c)∈P->(b,c)∈P->a=b
 |[],_,_,_,_,h,_=>by cases h
 |x::P,hn,a,b,c,h1,h2=>by
  rw[zV]at hn;obtain⟨n1,n2⟩:=List.nodup_cons.1 hn;rcases q8.1 h1 with g1|g1<;>rcases q8.1 h2 with g2|g2
  ·rw[<-g1]at g2;injection g2 with g2 _;exact g2.symm
  ·exact absurd (show x.2∈P.map zt from by rw[<-g1];exact qq.2 ⟨(b,c),g2,rfl⟩) n1
  ·exact absurd (show x.2∈P.map zt from by rw[<-g2];exact qq.2 ⟨(a,c),g1,rfl⟩) n1
  ·exact Ss n2 g1 g2
theorem sS{k:Int}{d:bB}(b:bp ds k=some d)(a:d.lost=false):lA m ds k=cZ m d.l:=by
 unfold lA;rw[b];dsimp only;rw[if_neg (by rw[a];decide)]
theorem Xe(hw:w.calm)(S:fw m C ds)(F:Full m C ds)(L:sP m ds)(O:BB m ds)(cc:dC w offs=false){b:Int}(hs:b∈m.drives){others:aC}(ho:others=m.drives.filter fun k=>!decide (k=b))(bk:others≠[])
  (c8:m.seq<=2147483646) {c n R:Nat} (hc:∀e∈m.objs,e.tries.length<=c) (hn:m.objs.length<=n) (b1:∀k∈m.drives,∃d,bp ds k=some d/\d.room=R) (hR:27+n*(c*(m.p.1+m.extra).toNat)<=R):
  ∃ds',dE m offs w ds b=(0,mQ m others,w,ds')/\fw (mQ m others) C ds'/\Full (mQ m others) C ds'/\sP (mQ m others) ds'/\BB (mQ m others) ds'/\bp ds' b=none:=by
 have dk:=F.bc;have bd:=im S.may;have du:=oX S.may;have J:∀k,k∈others↔k∈m.drives/\k≠b:=fun k=>by rw[ho,qB];simp
 have cd:∀k∈others,0<=k/\k<64:=fun k o=>bd k ((J k).1 o).1;have a7:others.Nodup:=by rw[ho];exact du.filter _
 have a4:∀k∈m.drives,∃d,bp ds k=some d/\d.lost=false/\d.room=R:=fun k o=>by
  obtain⟨d,u,I,_⟩:=F.live k o;obtain⟨E,v,h3⟩:=b1 k o;rw[u]at v;injection v with v;subst v
  exact⟨d,u,I,h3⟩
 obtain⟨W,t,ax,d9⟩:=a4 b hs;obtain⟨N,hN⟩:∃N,N=mQ m others:=⟨_,rfl⟩
 have ao:N.objs=m.objs:=by rw[hN];rfl
 have M:N.p=m.p:=by rw[hN];rfl
 have cr:N.extra=m.extra:=by rw[hN];rfl
 have b0:N.drives=others:=by rw[hN];rfl
 have bq:bO N=true:=by
  rw[hN];refine TL S.may c8 ?_ cd;rw[ho];exact((bZ m).1 S.may).2.1.filter _
 have d6:=GS bq;have d4:=GS S.may;obtain⟨A,hA⟩:∃A,A=xU m ds b others:=⟨_,rfl⟩
 have ay:∀r∈A,r∈cZ m W.l:=fun r z=>by
  rw[hA]at z;have:=(qB.1 z).1;rw[sS t ax]at this;exact this
 have d7:A.length<=(cZ m W.l).length:=by
  rw[hA];unfold xU;rw[sS t ax];exact qP _ _
 have b6:∀r∈A,ia r=true:=fun r z=>(dZ.1 (fe (ay r z)).2.2).1;have Z:∀k∈others,∀x:Int,0<=x->x<=A.length->fk m ds k (((aY N).length:Int)+x)=true:=fun k o x ea d8=>by
  obtain⟨dr,ap⟩:=(J k).1 o;obtain⟨d,u,I,h3⟩:=a4 k dr;have ht:=abL O L u t ap hc hn;unfold fk;rw[u];show jT m d _=true;unfold jT;rw[I];have:fp d (ir m d.l).length (((aY N).length:Int)+x)=true:=by
   unfold fp ir nD;rw[qx,qu];exact decide_eq_true (by rw[h3];omega)
  rw[this,Bool.or_true];rfl
 have hz:∀k:Int,(qg 64 (0:Int)).getD k.toNat 0=0:=fun k=>by rw[qe,List.getElem?_replicate];split<;>rfl
 obtain⟨g,P,t1,t2,t3,t4⟩:=Sq (m:=m) (ds:=ds) bk a7 cd Z A (qg 64 0) [] (by simp) (fun k _=>by rw[hz];omega) b6;rw[List.nil_append]at t1;have b2:pH m ds (aY N).length others b=some (g,P):=by
  unfold pH;have cp:(others.any fun k=>!fk m ds k ((aY N).length:Int))=false:=wc.2 fun k o=>by
   have:=Z k o 0 (by omega) (by omega);rw[Int.add_zero]at this;simp[this]
  rw[if_neg (by rw[cp];decide),<-hA];exact t1
 have cq:∀k∈others,g.getD k.toNat 0=((dY P k).length:Int):=fun k o=>by rw[t4 k o,hz];omega
 have b9:∀k c',(k,c')∈P->∃r∈A,c'=cy r:=fun k c' h=>by
  have:c'∈P.map zt:=qq.2 ⟨_,h,rfl⟩;rw[t2]at this;obtain⟨r,z,e⟩:=qq.1 this;exact⟨r,z,e.symm⟩
 have c9:∀k,(dY P k).length<=A.length:=fun k=>by
  have u:(dY P k).length<=P.length:=by unfold dY;rw[qu];exact qP _ _
  have I:P.length=A.length:=by have:=congrArg List.length t2;rwa [qu,qu]at this
  omega
 have ce:cH m ds others (fun k=>((aY N).length:Int)+g.getD k.toNat 0)=true:=qN.2 fun k o=>by
  have:=c9 k;show fk m ds k (((aY N).length:Int)+g.getD k.toNat 0)=true;rw[cq k o];exact Z k o _ (by omega) (by omega)
 obtain⟨d1,m1,m2,m3⟩:=uq hw (N:=fun k=>((aY N).length:Int)+g.getD k.toNat 0) a7 S.len ce;have am:∀k∈others,∃d,bp ds k=some d/\d.lost=false/\∃E,bp d1 k=some E/\E=dI m d (((aY N).length:Int)+g.getD k.toNat 0)/\E.lost=false/\E.room=d.room/\(E.l.length:Int)+(aY N).length+(dY P k).length<=E.room:=fun k o=>by
  obtain⟨d,u,I,h3⟩:=a4 k ((J k).1 o).1;obtain⟨E,v,c0⟩:=rR (qN.1 ce k o);rw[u]at v;injection v with v;subst v
  obtain⟨r1,r2,r3⟩:=DJ c0;refine⟨d,u,I,_,by rw[m3 k,u,qL,if_pos o],rfl,r1,r2,?_⟩;dsimp only at r2 r3;rw[r2];have:=cq k o;omega
 have b3:∀x∈P,x.2.length=64:=fun x B=>by
  obtain⟨r,z,e⟩:=b9 x.1 x.2 B;rw[e];exact CW (b6 r z)
 obtain⟨d2,l1,l2,l3⟩:=GP hw (ds:=d1) (P:=P) m2 fun x B=>by
  obtain⟨_,_,_,E,K,_,X,_,q5⟩:=am x.1 (t3 x B);exact⟨b3 x B,E,K,X,by omega⟩
 have a9:∀k,bp d2 k=(bp ds k).map fun d=>dq (dY P k) (if k∈others then dI m d (((aY N).length:Int)+g.getD k.toNat 0)else d):=fun k=>by rw[l3,m3,Option.map_map];rfl
 have dz:∀k,k∉others->dY P k=[]:=fun k o=>JE fun x B he=>o (he▸t3 x B);have br:∀{k:Int} {d:bB},bp d2 k=some d->∃D,bp ds k=some D/\d.lost=D.lost/\d.room=D.room/\∀c∈d.l,c∈D.l∨c∈aY m∨(k,c)∈P:=fun{k d} s=>by
  rw[a9]at s;cases h0:bp ds k with
  |none=>rw[h0]at s;cases s
  |some D=>
   rw[h0,qL]at s;injection s with s
   subst s;refine⟨D,rfl,?_,?_,fun c j=>?_⟩
   ·rw[(iB _ _).1];split
    ·exact(sQ _ _ _).1
    ·rfl
   ·rw[(iB _ _).2];split
    ·exact(sQ _ _ _).2
    ·rfl
   ·rw[mF]at j;rcases qA.1 j with h|h
    ·split at h
     ·rcases xX h with h|h
      ·exact .inl h
      ·exact .inr (.inl h)
     ·exact .inl h
    ·exact .inr (.inr (Sr.1 h))
 have G:∀{k:Int} {c:aX},(k,c)∈P->∃r∈A,c=cy r/\dp c=some r/\c∈W.l/\cX m r=true:=fun{k c} h=>by
  obtain⟨r,z,e⟩:=b9 k c h;obtain⟨K,q2,X⟩:=fe (ay r z);exact⟨r,z,e,by rw[e];exact q2,by rw[e];exact K,X⟩
 have S2:fw m C d2:=⟨S.may,l2,fun k d s c j=>by
  obtain⟨D,h0,_,_,ad⟩:=br s;rcases ad c j with h|h|h
  ·exact S.cells k D h0 c h
  ·exact CF C S.may h
  ·obtain⟨_,_,_,_,q,_⟩:=G h;exact S.cells b W t c q,S.ents⟩
 have L2:sP m d2:=fun k d s c j r z H=>by
  obtain⟨D,h0,_,_,ad⟩:=br s;rcases ad c j with h|h|h
  ·exact L k D h0 c h r z H
  ·rw[fb h]at z;cases z
  ·obtain⟨_,_,_,_,q,_⟩:=G h;exact L b W t c q r z H
 have Y:bc d2 N.drives=others:=by
  rw[b0];refine z6.2 fun k o=>?_;obtain⟨_,_,_,E,K,_,X,_,_⟩:=am k o;unfold isLive;rw[l3,K,qL];show(!(dq (dY P k) E).lost)=true;rw[(iB _ _).1,X];rfl
 have bl:cH m d2 others (fun _=>((aY N).length:Int))=true:=WC fun k o=>by
  obtain⟨_,_,_,E,K,_,X,_,q5⟩:=am k o;refine⟨dq (dY P k) E,by rw[l3,K,qL],by rw[(iB _ _).1];exact X,by omega,?_⟩;rw[mF,(iB _ _).2,qx];omega
 rcases WU (offs:=offs) hw S2 cc bq (by rw[hN];rfl) M (by rw[hN];exact Int.le_refl _) (fun x B=>by rw[ao]at B;exact B)with⟨u,_⟩|⟨_,d3,c1,S3,c3⟩
 ·rw[Y]at u;rcases u with h|h
  ·exact absurd h bk
  ·rw[bl]at h;cases h
 have dx:=bd b hs;have U:=abN S3.len dx;have e:dE m offs w ds b=(0,N,w,d3.set b.toNat none):=by
  unfold dE;rw[if_neg (by rw[cc];decide),if_neg (fun hh=>hh hs)];dsimp only;rw[dk,<-ho,<-hN,if_neg (by rintro(h|h);exact bk h;omega),b2];dsimp only;rw[m1];rw[if_neg (by simp)];dsimp only;rw[l1];rw[if_neg (by simp)];dsimp only;rw[c1];rw[if_neg (by simp)]
 rw[<-hN];have T:∀{k:Int} {d:bB},bp (d3.set b.toNat none) k=some d->k≠b/\bp d3 k=some d:=fun{k d} s=>by
  rw[U]at s;by_cases he:k=b
  ·rw[if_pos he]at s;cases s
  ·rw[if_neg he]at s;exact⟨he,s⟩
 have L3:=L2.afj (n:=N) (ds':=d3) M cr (fun x B=>by rw[ao]at B;exact B) c3;have bb:∀{k:Int} {d:bB} {c:aX} {r:cC},k≠b->bp d3 k=some d->c∈d.l->dp c=some r->(∃D,bp ds k=some D/\c∈D.l)∨(k,c)∈P:=fun{k d c r} o s j z=>by
  obtain⟨dy,g1,rfl⟩:=nR (f:=fun k d=>if k∈Wl.bc d2 N.drives then dq (aY N) (dI m d (aY N).length)else d) c3 s;obtain⟨D,h0,_,_,ad⟩:=br g1;have fin:c∈dy.l->(∃D,bp ds k=some D/\c∈D.l)∨(k,c)∈P:=fun h=>by
   rcases ad c h with h|h|h
   ·exact .inl ⟨D,h0,h⟩
   ·rw[fb h]at z;cases z
   ·exact .inr h
  split at j
  ·rw[mF]at j;rcases qA.1 j with h|h
   ·rcases xX h with h|h
    ·exact fin h
    ·rw[fb h]at z;cases z
   ·rw[fb h]at z;cases z
  ·exact fin j
 have a5:(P.map zt).Nodup:=by
  rw[t2];refine wz.2 (((rS m W.l).sublist (?_:A.Sublist (cZ m W.l))).imp_of_mem fun{x y} B hy h he=>?_)
  ·rw[hA];unfold xU;rw[sS t ax];exact List.filter_sublist
  ·have u:=(fe (ay x B)).2.1;have I:=(fe (ay y hy)).2.1;rw[he,I]at u;injection u with u
   subst u;rw[(go _ _).2 ⟨rfl,rfl,rfl⟩]at h;cases h
 refine⟨d3.set b.toNat none,e,⟨S3.may,by rw[zA];exact S3.len,fun k d s=>S3.cells k d (T s).2,S3.ents⟩,⟨fun k o=>?_,fun x B i hi id hid=>?_⟩,fun k d s=>L3 k d (T s).2,?_,by rw[U,if_pos rfl]⟩
 ·rw[b0]at o;obtain⟨_,_,_,E,K,_,X,_,_⟩:=am k o;refine⟨dq (aY N) (dI m (dq (dY P k) E) (aY N).length),?_,by rw[(iB _ _).1,(sQ _ _ _).1,(iB _ _).1];exact X,?_⟩
  ·rw[U,if_neg ((J k).1 o).2,c3,l3,K,qL,qL,Y,if_pos o]
  ·rw[mF];exact OC bq fun c hc=>hc
 ·rw[ao]at B;rw[M,cr]at hid;have er:jF N x.object i (cN x.object i (x.tries.getD i 0)) (ft N C x.object i) id=jF m x.object i (cN x.object i (x.tries.getD i 0)) (ft m C x.object i) id:=by
   unfold jF;rw[DP M rfl,M]
  have cf:=S.Hb B hi (S.JO hid);have H:=S.counts B hi (S.JO hid);have ab:=md cf (jd x.object i (x.tries.getD i 0));obtain⟨r,z⟩:∃r,r=jF m x.object i (cN x.object i (x.tries.getD i 0)) (ft m C x.object i) id:=⟨_,rfl⟩
  rw[er];rw[<-z]at cf H ab⊢;have fin:∀{k:Int},k∈others->(∃d,bp d2 k=some d/\cy r∈d.l)->∃k∈N.drives,∃d,bp (d3.set b.toNat none) k=some d/\cy r∈d.l:=fun{k} o ⟨d,s,j⟩=>by
   refine⟨k,by rw[b0];exact o,dq (aY N) (dI m d (aY N).length),?_,?_⟩
   ·rw[U,if_neg ((J k).1 o).2,c3,s,qL,Y,if_pos o]
   ·rw[mF];exact yc _ (JN S2.may (S2.cells k d s) j ab H)
  have a6:∀{k:Int} {d:bB},k∈others->bp ds k=some d->cy r∈d.l->∃d,bp d2 k=some d/\cy r∈d.l:=fun{k d} o s j=>by
   refine⟨_,by rw[a9,s,qL,if_pos o],?_⟩;rw[mF];exact yc _ (JN S.may (S.cells k d s) j ab H)
  obtain⟨k,o,d,s,j⟩:=F.all x B i hi id hid;rw[<-z]at j;by_cases ap:k=b
  ·subst ap;rw[t]at s;injection s with s;subst s
   have dd:=DO S.may (S.cells k W t) j ab H;by_cases ah:kH r∈sN m ds others
   ·unfold sN at ah;obtain⟨k',V,h⟩:=zm.1 ah;obtain⟨r',b4,b5⟩:=qq.1 h;obtain⟨E,v,c2,_⟩:=a4 k' ((J k').1 V).1;rw[sS v c2]at b4;obtain⟨K,q2,X⟩:=fe b4;have Q:mH r' r=true:=(go _ _).2 (by unfold kH at b5;injection b5 with a1 a2;injection a2 with a2 a3;exact⟨a1,a2,a3⟩);have:r'=r:=JM S.may H X ((S.cells k W t _ j).tru r ab H) ((S.cells k' E v _ K).tru r' q2 X) Q;rw[this]at K;exact fin V (a6 V v K)
   ·have da:r∈A:=by
     rw[hA];unfold xU;rw[sS t ax];exact qB.2 ⟨dd,by rw[decide_eq_false ah];rfl⟩
    have:cy r∈P.map zt:=by rw[t2];exact qq.2 ⟨r,da,rfl⟩
    obtain⟨⟨k',c'⟩,hp,e'⟩:=qq.1 this;have e':c'=cy r:=e';subst e';have V:=t3 _ hp;obtain⟨D,u,I,E,K,_⟩:=am k' V;exact fin V ⟨dq (dY P k') E,by rw[l3,K,qL],by rw[mF];exact List.mem_append_right _ (Sr.2 hp)⟩
  ·exact fin ((J k).2 ⟨o,ap⟩) (a6 ((J k).2 ⟨o,ap⟩) s j)
 ·intro k d s k' E c4 c j c' cm r r' u I h3 h4 h5;obtain⟨k1,k2⟩:=T s;obtain⟨cn,c6⟩:=T c4;have h3:=ut M (fun x B=>by rw[ao]at B;exact B) h3;have h4:=ut M (fun x B=>by rw[ao]at B;exact B) h4;rcases bb k1 k2 j u with⟨D,a1,a2⟩|a<;>rcases bb cn c6 cm I with⟨d0',a1',a2'⟩|a'
  ·exact O k D a1 k' d0' a1' c a2 c' a2' r r' u I h3 h4 h5
  ·obtain⟨r0,cs,e0,t0,q0,a0⟩:=G a';exact absurd (O k D a1 b W t c a2 c' q0 r r' u I h3 h4 h5) k1
  ·obtain⟨r0,cs,e0,t0,q0,a0⟩:=G a;exact absurd (O b W t k' d0' a1' c q0 c' a2' r r' u I h3 h4 h5) (Ne.symm cn)
  ·obtain⟨r0,cs,e0,t0,q0,a0⟩:=G a;obtain⟨ch,d5,c5,b7,c7,a8⟩:=G a';rw[t0]at u;injection u with u;subst u
   rw[b7]at I;injection I with I;subst I
   have Q:mH r0 ch=true:=(go _ _).2 (by unfold jz at h5;injection h5 with a1 a2;injection a2 with a2 a3;exact⟨a1,a2,a3⟩);have:r0=ch:=JM S.may a8 a0 ((S.cells b W t _ c7).tru _ b7 a8) ((S.cells b W t _ q0).tru _ t0 a0) Q;subst this;rw[e0]at a;rw[c5]at a';exact Ss a5 a a'
end
section
variable {m:aG} {C:Int->aX} {ds:aT} {N:Nat} {name:ByteArray} {b:aX}
structure tm (m:aG) (C:Int->aX) (ds:aT) (N:Nat):Prop where
 inv:Inv m C ds N
 once:BB m ds
 room:∀k∈m.drives,∃d,bp ds k=some d/\d.lost=false/\d.room=400
 four:∀e∈m.objs,e.tries.length<=4
 ids:(m.p.1+m.extra).toNat<=12
theorem tm.step(I:tm m C ds N):tm m C ds (N+1):=⟨I.inv.step,I.once,I.room,I.four,I.ids⟩
theorem afo{p:Pm}(b:bL p=true){n:Int}(d:n<=3*(p.1*p.2.2)+1):countP p n<=4:=by
 have c:=(bM p).1 b;have a:0<p.1*p.2.2:=vY (by omega) (by omega);unfold countP;split
 ·have:(n-1)/(p.1*p.2.2)<4:=Int.ediv_lt_of_lt_mul a (by rw[Int.mul_comm 4];omega);omega
 ·decide
theorem tm.fits(I:tm m C ds N){F:Int->Int}(a:∀k,F k<=151):cH m ds m.drives F=true:=by
 refine I.inv.low.fits I.inv.sto (R:=400) (c:=4) (n:=5) I.four (JP I.inv) fun k e=>?_;obtain⟨d,f,b,h3⟩:=I.room k e;refine⟨d,f,b,h3,?_⟩;have:=I.ids;have:=a k;omega
theorem ZK:m.objs.any (dP name)=true↔∃e∈m.objs,e.name=name:=by
 rw[List.any_eq_true];refine⟨fun⟨e,he,h⟩=>⟨e,he,lh (by unfold dP at h;simpa using h)⟩,fun⟨e,he,h⟩=>⟨e,he,by unfold dP;rw[h];simp⟩⟩
theorem Md{t:aC}{n:aG}{k:Int}{d:bB}:(kq m ds t b n k d).lost=d.lost/\(kq m ds t b n k d).room=d.room:=by
 by_cases a:k∈bc ds m.drives
 ·obtain⟨e,c,_⟩:=lI (m:=m) (t:=t) (b:=b) (n:=n) (d:=d) a;exact⟨e,c⟩
 ·unfold kq;rw[if_neg a];exact⟨rfl,rfl⟩
theorem tm.put(I:tm m C ds N)(n:name∈EF)(s:(b.length:Int)<=3*(m.p.1*m.p.2.2)+1)(i:∀e∈m.objs,e.name≠name)(B:N<=1000):
  gf m 0 Pow.new ds name b=(8,m,Pow.new,ds)∨∃t ds',gf m 0 Pow.new ds name b=(0,db m ⟨name,m.next,b.length,t⟩,Pow.new,ds')/\tm (db m ⟨name,m.next,b.length,t⟩) (kf C m.next b) ds' (N+1):=by
 have S:=I.inv.sto;have x:=(bM m.p).1 S.BA;have y:0<m.p.1*m.p.2.2:=vY (by omega) (by omega);have g:bc ds m.drives=m.drives:=I.inv.full.bc;have v:=I.inv.seq;have r:=I.inv.nx;have A:=JP I.inv;have a:cK m (dC Pow.new 0) ds name b.length=0:=Wv (UM _ n) i (by omega) (by omega) (by rw[g];exact I.inv.dr) (by omega) (by omega);have j:(bo m.p b).length<=4:=by
  have:=xT S.BA b;have:=afo S.BA s;omega
 rcases adM (offs:=0) (name:=name) (b:=b) DI S with⟨⟨e,hne,hq⟩,hcode⟩|⟨_,t,ds',ht,hq,S',hds⟩
 ·rw[hq]at hcode;dsimp only at hcode;rcases hcode with h|⟨_,⟨h,_⟩|⟨_,t,ht,hf⟩⟩
  ·exact absurd (h.trans a) hne
  ·subst h;exact .inl hq
  ·obtain⟨_,o⟩:=Oo (m:=m) (offs:=0) (w:=Pow.new) (ds:=ds) (name:=name) (b:=b) DI S.len S.may;obtain⟨l,_,_⟩:=(o a).2 t ht;rw[g,I.fits fun k=>?_]at hf
   ·cases hf
   ·have:=(adN (m:=m) (t:=t) (b:=b) (live:=m.drives) l k (c:=4) j).2;have:=I.ids;omega
 ·refine .inr ⟨t,ds',hq,⟨⟨S',I.inv.full.put S a ht S' hds,I.inv.low.put S a ht hds,fun e f=>?_,I.inv.dr,by show m.seq+1<=_;omega,by show m.next+1<=_;omega⟩,I.once.put S a ht hds,fun k u=>?_,fun e f=>?_,I.ids⟩⟩
  ·rcases mD.1 f with f|rfl
   ·exact I.inv.nm e f
   ·exact n
  ·obtain⟨d,z,q,h3⟩:=I.room k u;refine⟨_,by rw[hds,z,qL],by rw[Md.1,q],by rw[Md.2,h3]⟩
  ·rcases mD.1 f with f|rfl
   ·exact I.four e f
   ·show t.length<=4;rw[iq ht];exact j
theorem ZL(h:∃e∈m.objs,e.name=name)(c:jv name=true):gf m 0 Pow.new ds name b=(4,m,Pow.new,ds):=by
 have a:cK m (dC Pow.new 0) ds name b.length=4:=by
  unfold cK;rw[if_neg (by decide),if_neg (by rw[c];decide),if_pos (ZK.2 h)]
 unfold gf;rw[a,if_pos (by decide)]
theorem NK(h:¬∃e∈m.objs,e.name=name):m.objs.find? (dP name)=none:=zO.2 fun e b a=>h ⟨e,b,lh (by unfold dP at a;simpa using a)⟩
structure agb (m:aG) (C:Int->aX) (rs:List OD) (M:List Mv) (kvs:List (ByteArray×Sl)):Prop where
 nd:(kvs.map Prod.fst).Nodup
 len:kvs.length=m.objs.length
 mem:∀q∈kvs,∃e∈m.objs,e.name=q.1/\∃(j:Nat) (h1:j<rs.length) (h2:j<M.length),q.2=rs[j].2.2.1/\C e.object=M[j].data
 all:∀e∈m.objs,aca e.name kvs≠none
variable {rs:List OD} {M:List Mv} {kvs:List (ByteArray×Sl)}
end
end Go.Qw
