/- Lemmas for the proof of the law; no condition. -/
import Derived.Test.YtnjommcknbionaaGreatDoorKB
set_option linter.unusedVariables false
set_option linter.unusedSimpArgs false
open Go.Proofs.Tryz renaming prog -> vV
open Go.Value renaming bool -> vP, int -> vL, pointer -> vN, slice -> vM, string -> vO
open Go.IntKind renaming bits -> qf, i64 -> vR, u32 -> vT, wrap -> qc
open Bool renaming true_and -> zK
open Int renaming fdiv -> qD, toNat_natCast -> qo
open List renaming all_eq_true -> qT, any_eq_false -> wA, append_assoc -> qm, cons_append -> zk, drop_drop -> zo, filter_eq_self -> wy, foldl_append -> zT, foldl_cons -> zw, foldl_nil -> wj, getD_eq_getElem?_getD -> qg, getElem?_append_left -> ql, getElem?_eq_getElem -> qd, getElem?_eq_none -> qX, getElem?_set_ne -> zG, getElem?_set_self -> zH, getElem_set_self -> yA, length_map -> qC, length_replicate -> yd, length_set -> qZ, mem_map -> qH, mem_range -> qF, range -> qz, replicate -> qi, take_append_drop -> qy, take_append_of_le_length -> zE, take_of_length_le -> qj
open Option renaming map_some -> qK
open BitVec renaming eq_of_toNat_eq -> z7, getLsbD_and -> vA, ofNat -> zC, toNat -> vK, toNat_ofNat -> wo, toNat_ushiftRight -> ym, xor_assoc -> z6, xor_self -> yh, xor_zero -> vt, zero_xor -> vu
open Nat renaming lt_of_lt_of_le -> qG, mod_eq_of_lt -> zP, mul_one -> zN, shiftRight_eq_div_pow -> ye
open UInt8 renaming toNat_inj -> wI
set_option maxRecDepth 100000
namespace Go.Qw
open Go Go.Vc Go.Proofs Wl
theorem FM{m:aC}(h:bN m=true):dB m:=by
 obtain⟨o,f,h3,g,d,j,q⟩:=(dp m).1 h;have p:=nh h;refine⟨by omega,by omega,fun e b=>?_⟩;obtain⟨a,l,c,i,k⟩:=(jB m e).1 (d e b);have:=uj c.2;have n:e.name.size<=12:=by unfold gH at a;simp at a;omega
 omega
section
variable {B:ap} {h0 h:Heap} {As:List HP} {a pw:Addr} {offs:Int} {da:List aK} {w:Pow} {ds:aR}
end
end Go.Qw
namespace Go.Vc
open Go Wl
section
variable {k:Kit} {B:ap} {h0 h:Heap} {As:List HP} {a pw b:Addr} {mc:aM} {offs:Int} {da:List aK} {w:Pow} {ds:aR} {d:bj} {n:Nat}
end
end Go.Vc
namespace Go.Qw
open Go Go.Vc Go.Proofs Wl
section
variable {B:ap} {h0 h:Heap} {As:List HP} {a pw b:Addr} {mc:aM} {offs:Int} {da:List aK} {w:Pow} {ds:aR} {d:bj}
def gB(a cells:Int):Bool:=decide ((0<=a/\a<64)/\1<=cells/\cells<=512)
end
end Go.Qw
namespace Go.Vc
open Go Wl
section
variable {k:Kit} {B:ap} {h0 h:Heap} {As:List HP} {a pw b:Addr} {mc:aM} {offs:Int} {da:List aK} {w:Pow} {ds:aR} {d:bj} {n:Nat}
end
end Go.Vc
namespace Go.Qw
open Go Go.Vc Go.Proofs Wl
section
variable {B:ap} {h0 h:Heap} {As:List HP} {a pw b:Addr} {offs:Int} {da:List aK} {w:Pow} {ds:aR} {d:bj}
end
section
variable {B:ap} {h0 h:Heap} {As:List HP} {a pw:Addr} {offs:Int} {da:List aK} {w:Pow} {ds:aR} {mc:aM}
theorem EO{k:Int}{d:bj}(e:bF ds k=some d)(H:aa B h0 h (bi bz a pw mc offs da w ds::As)):∃(b:Addr) (s bl:Sl),gl da k=some b/\bV h b 74 (eC pw d s bl)/\fC h s 1 av d.l/\dA d:=by
 obtain⟨ok,_⟩:=aa.cK H;rcases mI ok k with⟨h1,_⟩|⟨n,d',b,rfl,hn,h1,h2,h3,h4⟩
 ·rw[h1]at e;cases e
 ·rw[h2]at e;injection e with e
  subst e;obtain⟨j,c,i⟩:=Go.Vc.aa.jI H h1;rw[h3]at c;injection c with c
  injection c with c
  subst c;obtain⟨f,s,bl,g⟩:=aa.om i;exact⟨b,s,bl,h4,g.box 0 rfl,(g.bh 2 [1,0]).Ow fun _=>rfl,f⟩
theorem Ki{k:Int}(H:aa B h0 h (bi bz a pw mc offs da w ds::As)):ab vV 28 #[vN (some a),vL vR k] h fun v b=>v=.pointer (gl da k)/\b=h:=by
 obtain⟨ok,c⟩:=aa.cK H;exact kF k ok c
end
theorem Sn(e:Wl.ca):([]++[e]).mergeSort lB=[e]:=by simp
theorem Ly{m:aC}{e:Wl.ca}{o i:Int}{d:Row}{id:Int}{k:Nat}(c:eX (km m o i (cY o i (e.tries.getD k 0)) d id)=true)(g:m.aF=[])(b:e.object=o)(f:i=k)(h:k<e.tries.length):di (fy m e) (km m o i (cY o i (e.tries.getD k 0)) d id)=true:=by
 unfold di;rw[c,zK];have a:(fy m e).aF=[e]:=by unfold fy;dsimp only;rw[g];exact Sn e
 rw[a];unfold km fy;dsimp only;rw[decide_eq_true rfl,zK,List.any_cons,List.any_nil,Bool.or_false,decide_eq_true b,decide_eq_true (show i<(e.tries.length:Int)by omega),f,qo,decide_eq_true rfl];rfl
def Ap(a b c:Int):Int×Int×Int:=(1+a%6,1+b%3,1+c%9)
theorem NL(a b c:Int)(h:Heap):ab vV 15 #[vL vR a,vL vR b,vL vR c] h fun v g=>v=jH (Ap a b c)/\Sp h g []:=by
 refine oV a b c ?_;unfold kA;refine(Sp.refl h).alloc af rfl fun x i f=>?_;refine(cU a 6 i (by decide) (by decide)).mono ?_;rintro v e ⟨rfl,rfl⟩;refine⟨_,rfl,(cU b 3 e (by decide) (by decide)).mono ?_⟩;rintro v h3 ⟨rfl,rfl⟩;refine⟨_,rfl,(cU c 9 h3 (by decide) (by decide)).mono ?_⟩;rintro v j ⟨rfl,rfl⟩;refine⟨_,rfl,?_⟩;dsimp only;rw[ak _,ak _,ak _];refine f.storeAll af 0 rfl rfl [vL vR (1+a%6),vL vR (1+b%3),vL vR (1+c%9)] rfl rfl rfl rfl fun k d=>?_;exact⟨Ap a b c,(d.box 0 rfl).aI _ rfl,rfl,.zip d.ag⟩
theorem NM{m:aC}{ds:aR}{name:ByteArray}{n:Nat}(d:gH name=true)(a:∀e∈m.aF,e.name≠name)(h3:(n:Int)<=m.p.1*m.p.2.2*8)(g:m.aF.length<=11)(f:bB ds m.drives≠[])(i:m.next<=16777215)(j:m.seq<=2147483646):du m false ds name n=0:=by
 have c:m.aF.any (dQ name)=false:=wA.2 fun e b h=>a e b (ov (by unfold dQ at h;simpa using h));unfold du;rw[if_neg (by decide),if_neg (by simp[d]),if_neg (by simp[c]),if_neg (by omega),if_neg (by rintro(h|h|h);exact f h;omega;omega)]
def cI(a pw:Addr)(b:List aK)(offs:Int)(w:Pow)(ds:aR)(m:aC):HP:=HP.ex fun x:bZ=>(bi bz a pw (aY x) offs b w ds).sep (fa x m)
section
variable {B:ap} {h0 h:Heap} {As:List HP} {a pw:Addr} {offs:Int} {da:List aK} {w:Pow} {ds:aR} {m:aC}
theorem jn(H:aa B h0 h (cI a pw da offs w ds m::As)):∃x,aa B h0 h (bi bz a pw (aY x) offs da w ds::fa x m::As):=by
 obtain⟨x,H⟩:=H.ta;exact⟨x,H.xf.Ov⟩
theorem CQ{x:bZ}(H:aa B h0 h (bi bz a pw (aY x) offs da w ds::fa x m::As)):aa B h0 h (cI a pw da offs w ds m::As):=
 aa.Dl (F:=fun x:bZ=>(bi bz a pw (aY x) offs da w ds).sep (fa x m)) x H.Ov.nY
end
section
variable {B:ap} {h0 h:Heap} {As:List HP} {a pw:Addr} {offs:Int} {da:List aK} {w:Pow} {ds:aR} {m:aC}
theorem VV(H:aa B h0 h (cI a pw da offs w ds m::As)):ds.length=64/\∀k d,bF ds k=some d->d.l.length<=d.room/\d.room<=512/\dA d:=by
 obtain⟨x,H⟩:=jn H;obtain⟨ok,_⟩:=aa.cK H;refine⟨ok.ls,fun k d e=>?_⟩;obtain⟨b,s,bl,_,_,_,c⟩:=EO e H;exact⟨c.len,c.room,c⟩
theorem UE(name:ByteArray)(s:Sl)(b:aQ)(g:St B h0 As fun h=>Rd h s 1 av b)(e:s.len<=s.cap)(l:name.size<=2^40)(c:bN m=true)(d:b.length<=2^20)(H:aa B h0 h (cI a pw da offs w ds m::As)):
  ab vV 42 #[vN (some a),vO name,s] h fun v f=>v=vL vR (cF m offs w ds name b).1/\
   aa B h0 f (cI a pw da offs (cF m offs w ds name b).2.2.1 (cF m offs w ds name b).2.2.2 (cF m offs w ds name b).2.1::As):=by
 obtain⟨x,H⟩:=jn H;obtain⟨n,o,i,k⟩:=(gW m).1 ((dp m).1 c).1;refine(Se x m name s b g e l (FM c) i k (mT c) (nh c) (by omega) (by omega) d H).mono ?_;rintro _ f ⟨rfl,y,j⟩;exact⟨rfl,CQ j⟩
theorem So(c:bN m=true)(H:aa B h0 h (cI a pw da offs w ds m::As)):
  ab vV 58 #[vN (some a)] h fun v b=>∃r:Sl,v=r/\Sp h b [ao 3 r 1 aG (bB ds m.drives)]:=by
 obtain⟨x,H⟩:=jn H;exact fI x m (H.at 1 rfl) (FM c) H
theorem Qm(k:Int)(H:aa B h0 h (cI a pw da offs w ds m::As)):ab vV 28 #[vN (some a),vL vR k] h fun v b=>v=.pointer (gl da k)/\b=h:=by
 obtain⟨x,H⟩:=jn H;exact Ki H
theorem Mk{k:Int}{d:bj}(c:bF ds k=some d)(H:aa B h0 h (cI a pw da offs w ds m::As)):∃b,gl da k=some b:=by
 obtain⟨x,H⟩:=jn H;obtain⟨b,_,_,e,_⟩:=EO c H;exact⟨b,e⟩
theorem Kj{k:Int}{d:bj}{b:Addr}(e:bF ds k=some d)(g:gl da k=some b)(H:aa B h0 h (cI a pw da offs w ds m::As)):∃s bl:Sl,bV h b 74 (eC pw d s bl)/\fC h s 1 av d.l/\dA d:=by
 obtain⟨x,H⟩:=jn H;obtain⟨n,s,bl,c,j,f,i⟩:=EO e H;rw[g]at c;injection c with c
 subst c;exact⟨s,bl,j,f,i⟩
theorem Sq(H:aa B h0 h (cI a pw da offs w ds m::As)):ab vV 46 #[vN (some a)] h fun v b=>v=vP (fm w offs)/\b=h:=by
 obtain⟨x,H⟩:=jn H;exact jY H
end
end Go.Qw
namespace Wl
open Go Go.Qw Go.Vc
def mY(a:Int)(k:Nat):UInt8:=b8 (qD a (2^(8*k)))
def dc(c:aQ)(at_:Nat)(a:Int):Nat->aQ
 |0=>c
 |k+1=>(dc c at_ a k).set (at_+k) ((dc c at_ a k).getD (at_+k) 0^^^mY a k)
def iW(c:aQ)(at_:Int)(a:Int):aQ:=dc c at_.toNat a 4
theorem nI(c:aQ)(a:Nat)(b:Int):∀k,(dc c a b k).length=c.length
 |0=>rfl
 |k+1=>by unfold dc;rw[qZ];exact nI c a b k
theorem Qn(c:aQ)(a b:Int):(iW c a b).length=c.length:=nI _ _ _ _
def nJ(d:bj)(i at_ a:Int):Bool:=decide ((0<=i/\i<(d.l.length:Int))/\(0<=at_/\at_<=60)/\a≠0)
def bj.dC(d:bj)(i at_ a:Int):bj:=if nJ d i at_ a then{d with l:=d.l.set i.toNat (iW (d.l.getD i.toNat []) at_ a)}else d
end Wl
namespace Go.Vc
theorem Kk{α:Type}{e k:Nat}{f:α->aM}{rs:List Sl}{b:List (List α)}(h:rs.length=b.length)(n:Nat)(d:n<b.length)(x:List α):bv e k f rs (b.set n x)=(bv e k f rs b).set n (ao e (rs[n]'(by omega)) k f x):=by
 apply List.ext_getElem?;intro j;by_cases c:j<b.length
 ·rw[fb (by rw[qZ];exact h) j (by rw[qZ];exact c)];by_cases a:n=j
  ·subst a;rw[zH (by rw[jh h];exact d),yA]
  ·rw[zG a,fb h j c,List.getElem_set_ne a]
 ·rw[qX (by rw[jh (by rw[qZ];exact h),qZ];omega),qX (by rw[qZ,jh h];omega)]
end Go.Vc
namespace Go.Qw
open Go Go.Vc Go.Proofs Wl
section
variable {B:ap} {h0 h:Heap} {As:List HP} {a pw:Addr} {d:bj}
theorem NN(i at_ f:Int)(hm:0<=f/\f<2^32)(H:aa B h0 h (iC pw a d::As)):
  ab vV 68 #[vN (some a),vL vR i,vL vR at_,vL vT f] h fun v M=>v=vP (nJ d i at_ f)/\aa B h0 M (iC pw a (d.dC i at_ f)::As):=by
 refine se (some a) i at_ f ?_;unfold me;obtain⟨ok,s,bl,L⟩:=aa.om H;have W:=(aa.tc (L.bh 2 [1,0])).1;have X:=L.box 0 rfl;have t:nJ d i at_ f=false->(Value.bool false=vP (nJ d i at_ f)/\aa B h0 h (iC pw a (d.dC i at_ f)::As)):=fun e=>by
  unfold bj.dC;rw[e];exact⟨rfl,H⟩
 have g:¬((0<=i/\i<(d.l.length:Int))/\(0<=at_/\at_<=60)/\f≠0)->nJ d i at_ f=false:=fun h=>decide_eq_false h;refine aP (bn (fun e=>by cases e) fun _=>aj (fun e=>t (g (by omega))) fun e1=>⟨a,rfl,s,X.cell rfl,aj (fun e=>t (g (by omega))) fun e2=>aj (fun e=>t (g (by omega))) fun e3=>aj (fun e=>t (g (by omega))) fun e4=>bt (fun e=>t (g (by omega))) fun V=>?_⟩);have hi:0<=i/\i<(d.l.length:Int):=by omega
 have o:nJ d i at_ f=true:=decide_eq_true ⟨hi,⟨by omega,by omega⟩,V⟩;obtain⟨n,rfl⟩:∃n:Nat,i=n:=⟨i.toNat,by omega⟩
 obtain⟨p,rfl⟩:∃p:Nat,at_=p:=⟨at_.toNat,by omega⟩
 have T:n<d.l.length:=by omega
 have A:d.l[n].length=64:=ok.cell _ (List.getElem_mem T);obtain⟨c,I⟩:∃c,c=d.l[n]:=⟨_,rfl⟩
 have U:aa B h0 h (io 31 s 5 1 av (d.l.set n (dc c p f 0))::ai a 74 (eC pw d s bl)::dJ bl d.laid::As):=by
  have e:d.l.set n (dc c p f 0)=d.l:=by
   show d.l.set n c=d.l;rw[I];exact List.set_getElem_self _
  rw[e];exact L.bh 3 [1,0,2]
 refine aA (fun k:Nat=>(k:Int)) (fun k M=>k<=4/\aa B h0 M (io 31 s 5 1 av (d.l.set n (dc c p f k))::ai a 74 (eC pw d s bl)::dJ bl d.laid::As)) (fun k=>4-k) 0 rfl ⟨by omega,U⟩ ?_;rintro k h3 ⟨hk,F⟩;dsimp only;refine aj (fun e=>?_) fun e=>?_
 ·have y:k<4:=by omega
  have N:=F.box 1 rfl;obtain⟨rs,j,G⟩:=F.AI;have R:=(F.tc).1;have Z:(d.l.set n (dc c p f k)).length=d.l.length:=qZ;have m:n<(d.l.set n (dc c p f k)).length:=by omega
  have u:(bv 5 1 av rs (d.l.set n (dc c p f k)))[n]?=some (ao 5 (rs[n]'(by omega)) 1 av (dc c p f k)):=by
   rw[fb j n m,yA]
  have r:((ao 31 s 1 cx rs::bv 5 1 av rs (d.l.set n (dc c p f k)))++(ai a 74 (eC pw d s bl)::dJ bl d.laid::As))[n+1]?=some (ao 5 (rs[n]'(by omega)) 1 av (dc c p f k)):=by
   rw[zk,List.getElem?_cons_succ,ql (by rw[jh j];exact m)];exact u
  have Y:(dc c p f k).length=64:=by rw[nI,I];exact A
  have Q:=G.own (n+1) r;refine⟨a,rfl,s,N.cell rfl,?_⟩;have J:=G.seq 0 rfl fun _=>rfl;refine J.QZ n rfl (by omega) ?_;obtain⟨z,P⟩:∃z,z=(dc c p f k)[p+k]'(by omega):=⟨_,rfl⟩
  have K:qc vR ((p:Int)+(k:Int))=((p+k:Nat):Int):=by rw[ak _];omega
  rw[K];have D:Vc.Seq h3 (fun b=>b<h3.size) (rs[n]'(by omega)) 1 av (dc c p f k):=G.seq (n+1) r fun _=>rfl;refine D.cA (p+k) rfl (by omega) (z.toNat:Int) (by rw[P];rfl) ?_;refine⟨by rw[ak _];omega,?_⟩;have w:min (qc vR ((8:Int)*(k:Int))).toNat (qf vT)=8*k:=by
   rw[ak _];show min ((8:Int)*k).toNat 32=8*k;omega
  rw[w,bX (qD f (2^(8*k)))];have O:=pk z (b8 (qD f (2^(8*k))));rw[O];refine G.set af (n+1) r (fun _=>rfl) rfl (p+k) rfl (by omega) (z^^^mY f k) rfl rfl rfl fun h5 S=>⟨trivial,?_⟩
  refine⟨k+1,by rw[ak _];rfl,⟨by omega,?_⟩,by omega⟩;have q:dc c p f (k+1)=(dc c p f k).set (p+k) (z^^^mY f k):=by
   show(dc c p f k).set (p+k) ((dc c p f k).getD (p+k) 0^^^mY f k)=_;rw[gV 0,P]
  refine aa.Dm (rs:=rs) (by rw[qZ];omega) ?_;have e:bv 5 1 av rs (d.l.set n (dc c p f (k+1)))=(bv 5 1 av rs (d.l.set n (dc c p f k))).set n (ao 5 (rs[n]'(by omega)) 1 av (dc c p f (k+1))):=by
   rw[<-Kk j n m,List.set_set]
  rw[e,q];rw[zk,List.set_cons_succ,List.set_append_left _ _ (by rw[jh j];exact m)]at S;exact S
 ·have y:k=4:=by omega
  subst y;have E:d.dC (n:Int) (p:Int) f={d with l:=d.l.set n (dc c p f 4)}:=by
   unfold bj.dC;rw[o,if_pos rfl,qo,gV [] T,<-I];rfl
  refine⟨by rw[o],?_⟩;rw[E];refine aa.sE (s:=s) (b:=bl) ⟨by show d.wait<=_;rw[qZ];exact ok.wait,by show(d.l.set n _).length<=_;rw[qZ];exact ok.len,ok.room,fun x O=>?_,ok.laid,ok.cellL⟩ (F.bh 3 [1,0,2]);rcases List.mem_or_eq_of_mem_set O with h|rfl
  ·exact ok.cell x h
  ·rw[nI,I];exact A
end
def Aq(f:Addr)(n:Nat)(a:Sl):aM:=[vN (some f),vL vR n,a]
def HU(b f:Addr)(n:Nat)(M:aT):HP:=.ex fun a:Sl=>(ai b 360 (Aq f n a)).sep (lq 31 a 1 cx (xd 1 av) M)
theorem HU.open{B:ap}{c h:Heap}{As:List HP}{b f:Addr}{n:Nat}{M:aT}(H:aa B c h (HU b f n M::As)):
  ∃a:Sl,aa B c h (lq 31 a 1 cx (xd 1 av) M::ai b 360 (Aq f n a)::As):=by
 obtain⟨a,d⟩:=H.ta;exact⟨a,d.xf⟩
theorem HU.rd{B:ap}{o h:Heap}{As:List HP}{m f:Addr}{n:Nat}{M:aT}(H:aa B o h As)(i:Nat)(s:As[i]?=some (HU m f n M)):∃g:Sl,bV h m 360 (Aq f n g)/\js (cP (xd 1 av) 1 cx) h g M:=by
 obtain⟨g,z,w,u,v,k,q,rs,y,a,b,c,d,e⟩:=H.at i s;exact⟨g,q.1,rs,a.seq (fun _=>rfl) fun x j=>k x (b x j).1,d,fun i r l t p=>(xd 1 av).mono (e i r l t p) fun x j=>k x (c x j)⟩
def rowsOf(p:Pm)(seed:Int)(a:aB):aT:=if bC p then(a.filter bD).map (lr (ck p).toNat seed)else[]
end Go.Qw
namespace Wl
open Go Go.Qw Go.Vc
end Wl
namespace Go.Qw
open Go Go.Vc Go.Proofs Wl
section
variable {B:ap} {h0 h:Heap} {As:List HP} {a pw:Addr} {offs:Int} {da:List aK} {w:Pow} {ds:aR} {m:aC}
end
theorem NO{m:aC}{ds:aR}{live:aB}{N:Int->Int}(h:∀k∈live,∃d,bF ds k=some d/\d.lost=false/\0<=N k/\(d.l.length:Int)+N k<=d.room):eO m ds live N=true:=(roomy (w:=Pow.new) h).1
theorem Lz{m:aC}{d:bj}{n:Int}(h:(d.l.length:Int)+max n 0<=d.room):iU m d n=d:=by
 unfold iU;rw[if_pos (by unfold eN;exact decide_eq_true (by omega))]
theorem NP{o b:Int}{live:aB}(g:0<=o/\o<=16777215)(i:0<=b/\b<8)(c:live.Nodup)(d:∀k∈live,0<=k/\k<64):(eP o b live).Nodup/\(eP o b live).Perm live:=by
 have e:eP o b live=nF ((8*o+b)%64).toNat live:=by unfold eP;rw[if_pos (by omega)]
 rw[e];have f:=Sb ((8*o+b)%64).toNat live;refine⟨f,(List.perm_ext_iff_of_nodup f c).2 fun a=>?_⟩;rw[GU];exact⟨fun h=>h.1,fun h=>⟨h,d a h⟩⟩
theorem xo{l:aB}(h:l.Pairwise (·<·)):iq l=l:=by
 have f:(iq l).Perm l:=List.mergeSort_perm _ _;have g:(iq l).Pairwise (fun a b=>decide (a<=b)=true):=List.pairwise_mergeSort (fun a b c e d=>by simp at*;omega) (fun a b=>by simp;omega) l;refine f.eq_of_pairwise (le:=fun a b:Int=>decide (a<=b)=true) ?_ g (h.imp fun h=>by simp;omega);intro a b _ _ e d;simp at e d;omega
theorem rk(c:Nat)(x:Int)(d:0<x:=by omega):aX (qi c x) (qi c x).length=(qz c).map fun i:Nat=>(i:Int):=by
 rw[yd];unfold aX;refine wy.2 fun y b=>?_;obtain⟨i,a,rfl⟩:=qH.1 b;have a:=qF.1 a;simp[qg,a];omega
theorem Qp{p:Pm}{extra:Int}(f:bC p=true)(k:0<=extra/\extra<=16)(c:Nat)(x:Int)(m:1<=c/\c<=24)(h:1<=x/\x<=512):pz p extra (qi c x)=0:=by
 have j:(dD (qi c x)).2=true:=by
  have a:(qi c x).all (dE · 0 512)=true:=qT.2 fun y b=>by
   rw[List.eq_of_mem_replicate b];exact(jl _ _ _).2 ⟨by omega,by omega⟩
  unfold dD;rw[if_pos a,rk c x,yd];simp;omega
 have e:dE extra 0 16=true:=(jl _ _ _).2 k;have h3:((aX (qi c x) (qi c x).length).any fun i=>decide ((qi c x).getD i.toNat 0<((bc (bY p extra (qi c x))).length:Int)))=false:=by
  refine wA.2 fun y b=>?_;rw[rk c x]at b;obtain⟨i,d,rfl⟩:=qH.1 b;have d:=qF.1 d;have l:=uS p extra (qi c x) (by simp;omega);have g:(qi c x).getD ((i:Int)).toNat 0=x:=by rw[qo];simp[qg,d]
  rw[g];simp;omega
 unfold pz;rw[j,f,e,h3];rfl
structure Ba (p:Pm) (extra:Int) (c:Nat) (x:Int) (m:aC) (D:aR):Prop where
 m_eq:m=bY p extra (qi c x)
 len:D.length=64
 may:bN m=true
 dr:m.drives=(qz c).map fun i:Nat=>(i:Int)
 at_:∀s,bF D s=if s∈m.drives then some ⟨x.toNat,bc m,0,[],false,false⟩else none
theorem Sr{p:Pm}{extra:Int}{c:Nat}{x:Int}(g:bC p=true)(e:0<=extra/\extra<=16)(k:1<=c/\c<=24)(a:1<=x/\x<=512){D:aR}(d:D.length=64)
  (f:∀s,bF D s=if s∈aX (qi c x) (qi c x).length then some ⟨((qi c x).getD s.toNat 0).toNat,bc (bY p extra (qi c x)),0,[],false,false⟩else none):Ba p extra c x (bY p extra (qi c x)) D:=by
 have j:=Qp g e c x k a;refine⟨rfl,d,JY (by simp;omega) j,rk c x,fun s=>?_⟩;rw[f s];show(if s∈aX _ _ then _ else none)=(if s∈aX _ _ then _ else none)
 by_cases h:s∈aX (qi c x) (qi c x).length
 ·rw[if_pos h,if_pos h];rw[rk c x]at h;obtain⟨i,b,rfl⟩:=qH.1 h;have b:=qF.1 b;rw[qo,gV 0 (by simpa using b),List.getElem_replicate]
 ·rw[if_neg h,if_neg h]
theorem Ba.live{p:Pm}{extra:Int}{c:Nat}{x:Int}{m:aC}{D:aR}(F:Ba p extra c x m D):bB D m.drives=m.drives:=wy.2 fun k a=>by
 unfold isLive;rw[F.at_ k,if_pos a];rfl
theorem Ba.aF{p:Pm}{extra:Int}{c:Nat}{x:Int}{m:aC}{D:aR}(F:Ba p extra c x m D):m.aF=[]/\m.seq=1/\m.next=0/\m.p=p/\m.extra=extra:=by rw[F.m_eq];exact⟨rfl,rfl,rfl,rfl,rfl⟩
theorem Qq{M:aC}{D2:aR}{b:aQ}{name:ByteArray}(J:bN M=true)(i:D2.length=64)(r:M.aF=[])(N:M.seq<=100)(O:M.next<=100)(h:bB D2 M.drives≠[])(I:gH name=true)(F:(b.length:Int)<=M.p.1*M.p.2.2*8)
  (s:∀j∈bB D2 M.drives,∃d,bF D2 j=some d/\d.lost=false/\(d.l.length:Int)+9+(splitB M.p b).length*(M.p.1+M.extra).toNat<=d.room):
  (cy M.p M.next (splitB M.p b).length=none->cF M 0 Pow.new D2 name b=(8,M,Pow.new,D2))/\∀t,cy M.p M.next (splitB M.p b).length=some t->
   bN (fy M ⟨name,M.next,b.length,t⟩)=true/\∃f,cF M 0 Pow.new D2 name b=(0,fy M ⟨name,M.next,b.length,t⟩,Pow.new,f)/\f.length=64/\
    ∀k,bF f k=(bF D2 k).map fun d=>if k∈bB D2 M.drives then eE ((dj M M.next t (splitB M.p b) (bB D2 M.drives) k (splitB M.p b).length).map cB++bc (fy M ⟨name,M.next,b.length,t⟩)) d else d:=by
 have n:du M (fm Pow.new 0) D2 name b.length=0:=NM I (fun e o=>by rw[r]at o;cases o) F (by rw[r];decide) h (by omega) (by omega);obtain⟨_,A⟩:=Qj (m:=M) (offs:=0) (w:=Pow.new) (ds:=D2) (name:=name) (b:=b) JX i J;obtain⟨z,y⟩:=A n;refine⟨z,fun t v=>?_⟩;obtain⟨c,_,B⟩:=y t v;refine⟨c,?_⟩;have K:=EN c;have q:∀j,iu (bc (fy M ⟨name,M.next,b.length,t⟩)).length (cW M M.next t (splitB M.p b) (bB D2 M.drives) (splitB M.p b).length) j<=9+(splitB M.p b).length*(M.p.1+M.extra).toNat/\0<=iu (bc (fy M ⟨name,M.next,b.length,t⟩)).length (cW M M.next t (splitB M.p b) (bB D2 M.drives) (splitB M.p b).length) j:=fun j=>by
  rw[Ao,Kg,qC];have:=BS M M.next t (splitB M.p b) (bB D2 M.drives) j (splitB M.p b).length;have e:(((splitB M.p b).length*(M.p.1+M.extra).toNat:Nat):Int)=((splitB M.p b).length:Int)*((M.p.1+M.extra).toNat:Int):=Int.natCast_mul _ _;omega
 obtain⟨f,H,E,G⟩:=B (NO fun j x=>by
  obtain⟨d,a,u,D⟩:=s j x;have:=q j;exact⟨d,a,u,this.2,by omega⟩)
 refine⟨f,H,E,fun k=>?_⟩;rw[G k];cases hd:bF D2 k with
 |none=>rfl
 |some d=>
  rw[qK,qK];by_cases g:k∈bB D2 M.drives
  ·obtain⟨L,a,u,D⟩:=s k g;rw[hd]at a;injection a with a
   subst a;have:=q k;rw[if_pos g,if_pos g,Lz (by omega)]
  ·rw[if_neg g,if_neg g]
section
variable {B:ap} {h0 h:Heap} {As:List HP} {a pw:Addr} {offs:Int} {da:List aK} {w:Pow} {ds:aR} {m:aC}
theorem Qr{k:Int}{d:bj}{b:Addr}(i at_ c:Int)(j:0<=c/\c<2^32)(f:bF ds k=some d)(l:gl da k=some b)(H:aa B h0 h (cI a pw da offs w ds m::As)):
  ab vV 68 #[vN (some b),vL vR i,vL vR at_,vL vT c] h fun v q=>v=vP (nJ d i at_ c)/\aa B h0 q (cI a pw da offs w (eV ds k (d.dC i at_ c)) m::As):=by
 obtain⟨x,H⟩:=jn H;obtain⟨ok,_⟩:=aa.cK H;obtain⟨n,rfl,z⟩:=gZ f;have y:ds[n]?=some (some d):=by
  unfold bF at f;rw[if_pos (by omega),qo]at f;cases hX:ds[n]? with
  |none=>rw[hX]at f;cases f
  |some o=>rw[hX]at f;exact congrArg some f
 obtain⟨u,g,t⟩:=Go.Vc.aa.jI H y;have p:u=b:=by
  unfold gl at l;rw[if_pos (by omega),qo,g]at l;injection l
 subst p;refine(NN i at_ c j t).mono ?_;rintro _ q ⟨rfl,r⟩;have s:=Go.Vc.aa.ua (k:=bz) (n:=n) g r;refine⟨rfl,?_⟩;have e:eV ds (n:Int) (d.dC i at_ c)=ds.set n (some (d.dC i at_ c)):=by simp only[eV,qo]
 rw[e];exact CQ s
theorem Qs{a:Int}(h:a%2=1):mY a 0≠0:=by
 intro e;have b:((mY a 0).toNat:Int)=0:=by rw[e];rfl
 unfold mY at b;rw[kv]at b;simp at b;omega
theorem Ss{c:aQ}{a b:Int}(m:c.length=64)(l:0<=a/\a<=60)(i:b%2=1):iW c a b≠c:=by
 intro e;obtain⟨p,rfl⟩:∃p:Nat,a=p:=⟨a.toNat,by omega⟩
 have f:∀k,1<=k->k<=4->(dc c p b k)[p]?=some (c.getD p 0^^^mY b 0):=by
  intro k g j
  induction k with
  |zero=>omega
  |succ k ih=>
   by_cases h:k=0
   ·subst h;show(c.set (p+0) (c.getD (p+0) 0^^^mY b 0))[p]?=_;rw[Nat.add_zero,zH (by omega)]
   ·show((dc c p b k).set (p+k) _)[p]?=_;rw[zG (by omega)];exact ih (by omega) (by omega)
 have g:=f 4 (by decide) (by decide);have d:(iW c (p:Int) b)[p]?=c[p]?:=by rw[e]
 unfold iW at d;rw[qo,g,qd (by omega)]at d;injection d with d
 rw[gV 0]at d;have h3:mY b 0=0:=by
  have:=congrArg (fun z=>c[p]'(by omega)^^^z) d;simp only[<-UInt8.xor_assoc,UInt8.xor_self,UInt8.zero_xor]at this;exact this
 exact Qs i h3
end
end Go.Qw
namespace Wl
open Go
theorem Ar(a:ga):a&&&1#32=0#32∨a&&&1#32=1#32:=by
 have h:((a&&&1#32).toNat)=a.toNat%2:=by rw[BitVec.toNat_and];exact Nat.and_one_is_mod _
 rcases Nat.mod_two_eq_zero_or_one a.toNat with e|e
 ·left;apply z7;rw[h,e];rfl
 ·right;apply z7;rw[h,e];rfl
theorem gw{a:ga}(h:a&&&1#32=0#32):fD a=a>>>1:=by unfold fD;rw[if_neg (by rw[h];decide)]
theorem iX{a:ga}(h:a&&&1#32=1#32):fD a=(a>>>1)^^^3988292384#32:=by unfold fD;rw[if_pos h]
theorem Kl(a b c:ga):a^^^b^^^c=a^^^c^^^b:=by rw[z6,BitVec.xor_comm b c,<-z6]
theorem NQ(a b:ga):fD (a^^^b)=fD a^^^fD b:=by
 have e:(a^^^b)&&&1#32=(a&&&1#32)^^^(b&&&1#32):=by
  apply BitVec.eq_of_getLsbD_eq;intro i _;rw[vA,BitVec.getLsbD_xor,BitVec.getLsbD_xor,vA,vA,Bool.and_xor_distrib_right]
 have s:(a^^^b)>>>1=(a>>>1)^^^(b>>>1):=BitVec.ushiftRight_xor_distrib a b 1;rcases Ar a with ha|ha<;>rcases Ar b with hb|hb
 ·rw[gw ha,gw hb,gw (by rw[e,ha,hb];decide),s]
 ·rw[gw ha,iX hb,iX (by rw[e,ha,hb];decide),s,z6]
 ·rw[iX ha,gw hb,iX (by rw[e,ha,hb];decide),s,Kl]
 ·rw[iX ha,iX hb,gw (by rw[e,ha,hb];decide),s,<-z6,Kl _ 3988292384#32,z6 _ 3988292384#32 3988292384#32,yh,vt]
theorem LA{a:ga}(h:fD a=0#32):a=0#32:=by
 rcases Ar a with ha|ha
 ·rw[gw ha]at h;apply z7;have c:=congrArg vK h;have b:=congrArg vK ha;rw[ym,ye]at c;have h3:(a&&&1#32).toNat=a.toNat%2:=by rw[BitVec.toNat_and];exact Nat.and_one_is_mod _
  rw[h3]at b;simp at c b⊢;omega
 ·rw[iX ha]at h;exfalso;have c:a>>>1=3988292384#32:=by
   have:=congrArg (fun z=>z^^^3988292384#32) h;simp only[z6,yh,vt,vu]at this;exact this
  have b:=congrArg vK c;rw[ym,ye]at b;have:=a.isLt;simp at b;omega
theorem kG:∀(n:Nat) (a b:ga),cG n (a^^^b)=cG n a^^^cG n b
 |0,_,_=>rfl
 |n+1,a,b=>by unfold cG;rw[kG n,NQ]
theorem Au:∀(n:Nat) {a:ga},cG n a=0#32->a=0#32
 |0,_,h=>h
 |n+1,_,h=>Au n (LA h)
theorem Su{a b:ga}(h:a^^^b=0#32):a=b:=by
 have:=congrArg (fun z=>z^^^b) h;simp only[z6,yh,vt,vu]at this;exact this
theorem BU{n:Nat}{a b:ga}(h:cG n a=cG n b):a=b:=
 Su (Au n (by rw[kG,h,yh]))
theorem mZ:∀(m n:Nat) (a:ga),cG (m+n) a=cG m (cG n a)
 |0,n,a=>by rw[Nat.zero_add];rfl
 |m+1,n,a=>by rw[show m+1+n=(m+n)+1 by omega];show fD (cG (m+n) a)=fD (cG m (cG n a));rw[mZ m n a]
theorem EP:∀(n x:Nat),x<2^(32-n)->n<=32->cG n (zC 32 (x*2^n))=zC 32 x
 |0,x,_,_=>by rw[Nat.pow_zero,zN];rfl
 |n+1,x,h,hn=>by
  have b:x*2<2^(32-n):=by
   have:2^(32-n)=2^(32-(n+1))*2:=by rw[<-Nat.pow_succ];congr 1;omega
   omega
  show fD (cG n (zC 32 (x*2^(n+1))))=_;rw[show x*2^(n+1)=x*2*2^n by rw[Nat.pow_succ,Nat.mul_assoc,Nat.mul_comm 2],EP n (x*2) b (by omega)];have a:x*2<2^32:=qG b (Nat.pow_le_pow_right (by decide) (by omega));rw[gw]
  ·apply z7;rw[ym,wo,wo,zP a,zP (by omega),ye];omega
  ·apply z7;rw[BitVec.toNat_and,wo,zP a];show(x*2)&&&1=0;rw[Nat.and_one_is_mod];omega
def Km(a b c d:UInt8):ga:=zC 32 (a.toNat*2^0)^^^zC 32 (b.toNat*2^8)^^^zC 32 (c.toNat*2^16)^^^zC 32 (d.toNat*2^24)
theorem Sv(s:ga)(a b c d:UInt8):ji (ji (ji (ji s a) b) c) d=cG 32 (s^^^Km a b c d):=by
 have g:=a.toNat_lt;have k:=b.toNat_lt;have j:=c.toNat_lt;have i:=d.toNat_lt;have e:∀(n:Nat) (x:UInt8),n<=24->zC 32 x.toNat=cG n (zC 32 (x.toNat*2^n)):=fun n x h=>by
  have f:=x.toNat_lt;refine(EP n x.toNat ?_ (by omega)).symm;exact qG (show x.toNat<2^8 from f) (Nat.pow_le_pow_right (by decide) (by omega))
 unfold ji Km;rw[e 8 b (by decide),<-kG,<-mZ,e 16 c (by decide),<-kG,<-mZ,e 24 d (by decide),<-kG,<-mZ];simp only[Nat.pow_zero,zN,z6]
theorem FN(a b c d:UInt8):(Km a b c d).toNat=a.toNat+b.toNat*256+c.toNat*65536+d.toNat*16777216:=by
 have l:=a.toNat_lt;have o:=b.toNat_lt;have n:=c.toNat_lt;have m:=d.toNat_lt;have e:∀(k x y:Nat),x<2^k->x^^^(y*2^k)=x+y*2^k:=fun k x y g=>by
  rw[Nat.mul_comm y];have j:=Nat.two_pow_add_eq_or_of_lt g y;have h:x^^^(2^k*y)=(2^k*y)|||x:=by
   apply Nat.eq_of_testBit_eq;intro i;rw[Nat.testBit_xor,Nat.testBit_or,Nat.testBit_two_pow_mul];by_cases f:k<=i
   ·have:x.testBit i=false:=Nat.testBit_lt_two_pow (qG g (Nat.pow_le_pow_right (by decide) f));simp[this]
   ·simp[f]
  rw[h,<-j];omega
 unfold Km;rw[BitVec.toNat_xor,BitVec.toNat_xor,BitVec.toNat_xor,wo,wo,wo,wo];rw[zP (by omega),zP (by omega),zP (by omega),zP (by omega)];rw[Nat.pow_zero,zN,e 8 _ _ (by omega),e 16 _ _ (by omega),e 24 _ _ (by omega)]
theorem UF{a b c d i f g e:UInt8}(h:Km a b c d=Km i f g e):a=i/\b=f/\c=g/\d=e:=by
 have j:=congrArg vK h;rw[FN,FN]at j;have:=a.toNat_lt;have:=b.toNat_lt;have:=c.toNat_lt;have:=d.toNat_lt;have:=i.toNat_lt;have:=f.toNat_lt;have:=g.toNat_lt;have:=e.toNat_lt;refine⟨wI.1 ?_,wI.1 ?_,wI.1 ?_,wI.1 ?_⟩<;>omega
theorem Kn:∀{q:aQ} {s t:ga},q.foldl ji s=q.foldl ji t->s=t
 |[],_,_,h=>h
 |x::q,s,t,h=>by
  have:=BU (Kn (q:=q) h);have:=congrArg (fun z=>z^^^zC 32 x.toNat) this;simp only[z6,yh,vt]at this;exact this
theorem Qt{p q:aQ}{a b c d i f g e:UInt8}(h:fK (p++([a,b,c,d]++q))=fK (p++([i,f,g,e]++q))):[a,b,c,d]=[i,f,g,e]:=by
 unfold fK at h;rw[zT,zT,zT,zT]at h;have h:=Kn h;simp only[zw,wj]at h;rw[Sv,Sv]at h;have h:=BU h;have h:=congrArg (fun z=>List.foldl ji 4294967295#32 p^^^z) h;simp only[<-z6,yh,vu]at h;obtain⟨rfl,rfl,rfl,rfl⟩:=UF h;rfl
theorem UG(s:ga):∃a b c d,hJ s=[a,b,c,d]/\Km a b c d=s:=by
 refine⟨_,_,_,_,rfl,?_⟩;apply z7;rw[FN];have m:=s.isLt;have e:∀n:Int,((b8 n).toNat:Int)=n%256:=fun n=>by have:=kv n;omega
 have f:∀k:Nat,qD (s.toNat:Int) (2^(8*k))=((s.toNat/2^(8*k):Nat):Int):=fun k=>by
  rw[Int.fdiv_eq_ediv_of_nonneg _ (by exact_mod_cast Nat.zero_le _)];norm_cast
 have g:∀k:Nat,(b8 (qD (s.toNat:Int) (2^(8*k)))).toNat=s.toNat/2^(8*k)%256:=fun k=>by
  have:=e (qD (s.toNat:Int) (2^(8*k)));rw[f k]at this;rw[f k];omega
 have j:=g 0;have i:=g 1;have h:=g 2;have l:=g 3;simp only[Nat.mul_zero,zN,Nat.pow_zero,Nat.div_one,Nat.reduceMul,Nat.reducePow]at j i h l;simp only[Nat.mul_zero,zN,Nat.reduceMul];rw[j,i,h,l];omega
theorem UH(x:aQ):fK (x++hJ (gT x))=cG 32 4294967295#32:=by
 obtain⟨a,b,c,d,f,e⟩:=UG (gT x);rw[f];unfold fK;rw[zT];simp only[zw,wj];rw[Sv,e];unfold gT fK;congr 1;rw[BitVec.xor_comm 4294967295#32,<-z6,yh,vu]
theorem GX{c:aQ}{k:Int}{x:aQ}(h:bQ c=some (k,x)):c.length=64/\c=c.take 59++(hJ (gT (c.take 59))++[165]):=by
 unfold bQ at h;split at h
 ·rename_i e;obtain⟨b,a⟩:=e;refine⟨b,?_⟩;unfold cb at a;split at a
  ·rename_i f;have g:=lu (kind:=((c.getD 3 0).toNat:Int)) f.2.2;have d:c.take 59=ci ((c.getD 3 0).toNat:Int) ((c.drop 4).take 55):=by
    conv=>lhs;rw[<-a]
    rw[qm,zE (by omega),qj (by omega)]
   rw[d];rw[<-qm];exact a.symm
  ·rw[<-a]at b;simp at b
 ·cases h
theorem Qu{l:aQ}{p:Nat}(h:p+4<=l.length)(a:Int):∃u v,u.length=4/\v.length=4/\l=l.take p++(u++l.drop (p+4))/\dc l p a 4=l.take p++(v++l.drop (p+4)):=by
 have b:∀k,k<=4->(dc l p a k).take p=l.take p/\(dc l p a k).drop (p+4)=l.drop (p+4):=by
  intro k
  induction k with
  |zero=>exact fun _=>⟨rfl,rfl⟩
  |succ k ih=>
   intro n;obtain⟨g,e⟩:=ih (by omega);unfold dc;rw[List.take_set_of_le (by omega),List.drop_set_of_lt (by omega)];exact⟨g,e⟩
 have c:∀m:aQ,m.length=l.length->m=m.take p++((m.drop p).take 4++m.drop (p+4)):=fun m j=>by
  rw[<-zo,qy,qy]
 obtain⟨f,i⟩:=b 4 (Nat.le_refl _);have d:=nI l p a 4;refine⟨(l.drop p).take 4,((dc l p a 4).drop p).take 4,by simp;omega,by simp[d];omega,c l rfl,?_⟩;rw[<-f,<-i];exact c _ d
theorem Qv{c:aQ}{k:Int}{x:aQ}(h:bQ c=some (k,x)){a b:Int}(F:0<=a/\a<=60)(H:b%2=1):bQ (iW c a b)=none:=by
 obtain⟨s,o⟩:=GX h;have d:=Go.Qw.Ss s F H;cases hb:bQ (iW c a b)with
 |none=>rfl
 |some y=>
  exfalso;obtain⟨f,e⟩:=GX (k:=y.1) (x:=y.2) hb;obtain⟨m,q⟩:∃m,m=iW c a b:=⟨_,rfl⟩
  rw[<-q]at f e d;by_cases j:m.take 59=c.take 59
  ·apply d;rw[o,e,j,<-o]
  ·obtain⟨p,rfl⟩:∃p:Nat,a=p:=⟨a.toNat,by omega⟩
   obtain⟨u,v,E,t,B,g⟩:=Qu (l:=c) (p:=p) (by omega) b;have g:m=c.take p++(v++c.drop (p+4)):=by rw[q];unfold iW;rw[qo];exact g
   have I:p<=59:=by
    refine Decidable.byContradiction fun J=>j ?_;rw[g,zE (by simp;omega),List.take_take,Nat.min_eq_left (by omega)]
   have r:∀z:aQ,z=z.take 59++(hJ (gT (z.take 59))++[165])->z.length=64->fK (z.take 63)=cG 32 4294967295#32:=fun z n G=>by
    have:z.take 63=z.take 59++hJ (gT (z.take 59)):=by
     conv=>lhs;rw[n]
     rw[<-qm,zE (by simp[tf];omega),qj (by simp[tf];omega)]
    rw[this,UH]
   have w:∀z:aQ,z.length=4->(c.take p++(z++c.drop (p+4))).take 63=c.take p++(z++(c.drop (p+4)).take (59-p)):=fun z n=>by
    have i:(c.take p).length=p:=by simp;omega
    generalize c.take p=P at i⊢;rw[List.take_append,qj (by omega),List.take_append,qj (by omega),i,n];congr 3;omega
   have D:=r c o s;have A:=r m e f;rw[g,w v t]at A;rw[B,w u E]at D
   match u,v,E,t with
   |[u0,u1,u2,u3],[v0,v1,v2,v3],_,_=>
    have:=Qt (D.trans A.symm);apply d;rw[g,<-this,<-B]
structure Pg where
 seq:Int
 num:Int
 many:Int
 bears:aQ
 cell:aQ
def VW(x c:aQ):Pg:=⟨bO (x.take 4),((x.getD 4 0).toNat:Int),((x.getD 5 0).toNat:Int),(x.drop 7).take (x.getD 6 0).toNat,c⟩
def Av(c:aQ):Option Pg:=
 match bQ c with
 |some (k,x)=>if k=2/\(x.getD 6 0).toNat<=48/\(x.drop (7+(x.getD 6 0).toNat)).all (fun b=>decide (b=0))=true then some (VW x c)else none
 |none=>none
theorem NR{seq c a:Int}{b:aQ}(h:0<=seq/\seq<4294967296)(q:0<=c/\c<256)(h3:0<=a/\a<256)(r:b.length<=48):Av (gP seq c a b)=some ⟨seq,c,a,b,gP seq c a b⟩:=by
 have n:(bm seq 4++([b8 c,b8 a,b8 b.length]++b)).length=7+b.length:=by simp[bq];omega
 obtain⟨x,e⟩:∃x,x=bm seq 4++([b8 c,b8 a,b8 b.length]++b)++qi (55-(bm seq 4++([b8 c,b8 a,b8 b.length]++b)).length) 0:=⟨_,rfl⟩
 have p:bQ (gP seq c a b)=some (2,x):=by
  unfold gP;rw[xk,e]
 have d:=Ds seq;have f:x.getD 6 0=b8 b.length:=by rw[e,d];rfl
 have k:x.getD 5 0=b8 a:=by rw[e,d];rfl
 have o:x.getD 4 0=b8 c:=by rw[e,d];rfl
 have m:x.take 4=bm seq 4:=by rw[e,d];rfl
 have i:x.drop 7=b++qi (55-(7+b.length)) 0:=by rw[e,n,d];rfl
 have g:((b8 (b.length:Int)).toNat)=b.length:=by have:=kv (b.length:Int);omega
 unfold Av;rw[p];dsimp only;have j:(b8 (b.length:Int)).toNat<=48:=by omega
 rw[if_pos ⟨rfl,by rw[f];exact j,by
  rw[f,g,<-zo,i,List.drop_left];exact qT.2 fun y l=>decide_eq_true (List.eq_of_mem_replicate l)⟩]
 unfold VW;rw[m,o,k,f,i,Gh h.1 h.2,g,List.take_left];have:=kv c;have:=kv a;congr 2<;>omega
def VX(m:aC)(i:Nat):Pg:=⟨m.seq,i,fx (eT m),((eT m).drop (48*i)).take 48,gP m.seq i (fx (eT m)) (((eT m).drop (48*i)).take 48)⟩
theorem Qx(m:aC):bc m=(qz (fx (eT m))).map fun i=>(VX m i).cell:=rfl
theorem UI{m:aC}(a:bN m=true):fx (eT m)<=9:=by
 have:=Go.Qw.EN a;unfold bc at this
 rwa [qC,List.length_range]at this
theorem NS{m:aC}(a:bN m=true){i:Nat}(d:i<fx (eT m)):Av (VX m i).cell=some (VX m i):=by
 have c:=UI a;have b:=((gW m).1 ((dp m).1 a).1).1;exact NR ⟨by omega,by omega⟩ ⟨by omega,by omega⟩ ⟨by omega,by omega⟩ (by simp;omega)
end Wl
namespace Go.Qw
open Go Go.Vc Go.Proofs Wl
def qv(x:Sl×Sl):aM:=[x.1,x.2]
def Sw:ja (Sl×Sl) ij:=⟨fun h q a e=>Seq h q a.1 1 aG e.1/\Seq h q a.2 1 av e.2,fun a c=>⟨a.1.ag c,a.2.ag c⟩,fun a b=>⟨a.1.mono b,a.2.mono b⟩⟩
abbrev NT:ja Sl (List ij):=cP Sw 2 qv
abbrev Ws:ja Sl aT:=cP (WC 1 av) 1 cx
abbrev eQ:bP C.torQ 267 269 2 [vM none 0 0,vM none 0 0] 48:=⟨_,_,rfl,rfl,rfl,rfl,rfl,rfl⟩
theorem NT.get{h:Heap}{q:ap}{s:Sl}{L:List ij}(x:NT.p h q s L){i:Int}(n:Nat)(b:i=n)(d:n<L.length){K:Sl×Sl->Prop}(e:∀r,Sw.p h q r L[n]->K r):
  ∃a:Addr,(s.ptr=some a/\0<=i/\i<((s.len:Nat):Int))/\∃x:Sl×Sl,ah h (a.add (i.toNat*2)) 0 [x.1,x.2]/\K x:=by
 obtain⟨rs,c,f,h3⟩:=cP.Dk x;exact c.fF (g:=qv) n b (by omega) (rs[n]'(by omega)) rfl (e _ (h3 n (by omega) d))
structure Ko (h:Heap) (p:Addr) (l k v:Sl) (L:List ij) (kn:List Bool) (vs:aT):Prop where
 box:bV h p 335 [l,k,v]
 eqs:js NT h l L
 known:Rd h k 1 Mw kn
 aU:js Ws h v vs
theorem Ko.up{h c:Heap}{p:Addr}{l k v:Sl}{L:List ij}{kn:List Bool}{vs:aT}(x:Ko h p l k v L kn vs)(a:aH (fun b=>b<h.size) h c):Ko c p l k v L kn vs:=
 ⟨x.box.ag a x.box.lt,js.up x.eqs a,Seq.up x.known a,js.up x.aU a⟩
def TH(pool:List (Sl×Row)):HP:=⟨fun h q=>∀x∈pool,Seq h q x.1 1 av x.2,fun a d x b=>(a x b).ag d,fun a c x b=>(a x b).mono c⟩
theorem _root_.Go.Vc.aa.pool{B:ap}{c h:Heap}{As:List HP}(H:aa B c h As)(i j:Nat)(a:i≠j){pool:List (Sl×Row)}{r:Sl}{l:Row}(f:As[i]?=some (TH pool))(d:As[j]?=some (oG r 1 av l)):aa B c h ((As.set i (TH ((r,l)::pool))).set j emp):=
 H.merge i j a f d fun m k _ e g x b=>by
  rcases List.mem_cons.1 b with rfl|b
  ·exact Seq.mono g fun _ h=>.inr h
  ·exact(e x b).mono fun _ h=>.inl h
def gF(pool:List (Sl×Row))(g:Row->Row)(rs:List Sl)(m:aT):Prop:=rs.length=m.length/\∀(i:Nat) r l,rs[i]?=some r->m[i]?=some l->(r,g l)∈pool
theorem gF.get{pool:List (Sl×Row)}{g:Row->Row}{rs:List Sl}{m:aT}(h:gF pool g rs m){i:Nat}(a:i<m.length):(rs[i]'(by rw[h.1];exact a),g m[i])∈pool:=
 h.2 i _ _ (qd _) (qd _)
theorem gF.mono{pool a:List (Sl×Row)}{g:Row->Row}{rs:List Sl}{m:aT}(h:gF pool g rs m)(c:∀x∈pool,x∈a):gF a g rs m:=⟨h.1,fun i r l d b=>c _ (h.2 i r l d b)⟩
theorem gF.set{pool:List (Sl×Row)}{g:Row->Row}{rs:List Sl}{m:aT}(h:gF pool g rs m)(i:Nat){r:Sl}{l:Row}(e:(r,g l)∈pool):gF pool g (rs.set i r) (m.set i l):=by
 refine⟨by simp[h.1],fun k j f a b=>?_⟩;rw[List.getElem?_set]at a b;by_cases c:i=k
 ·subst c;rw[if_pos rfl]at a b;split at a
  ·rename_i d;rw[if_pos (by rw[<-h.1];exact d)]at b;cases a;cases b;exact e
  ·cases a
 ·rw[if_neg c]at a b;exact h.2 k j f a b
theorem gF.snoc{pool:List (Sl×Row)}{g:Row->Row}{rs:List Sl}{m:aT}(h:gF pool g rs m){r:Sl}{l:Row}(d:(r,g l)∈pool):gF pool g (rs++[r]) (m++[l]):=by
 refine⟨by simp[h.1],fun k f e b a=>?_⟩;by_cases c:k<rs.length
 ·rw[ql c]at b;rw[ql (by rw[<-h.1];exact c)]at a;exact h.2 k f e b a
 ·have:k=rs.length:=by
   have:=(List.getElem?_eq_some_iff.1 b).1;simp at this;omega
  subst this;simp at b;rw[h.1]at a;simp at a;subst b;subst a;exact d
theorem gF.nil(pool:List (Sl×Row))(g:Row->Row):gF pool g [] []:=⟨rfl,fun i r l h=>by simp at h⟩
def Wt(f:Addr)(p:Int×Int×Int)(v r c d a b e:Sl):aM:=[vN (some f),vL vR p.1,vL vR p.2.1,vL vR p.2.2,v,r,c,d,a,b,e]
structure Qy (h:Heap) (s f:Addr) (wa mo:Sl) (wr mr:List Sl) (W M:aT):Prop where
 fld:cellOf h s=some (vN (some f))
 way:cellOf h (s.add 9)=some (vM wa.ptr wa.len wa.cap)
 more:cellOf h (s.add 10)=some (vM mo.ptr mo.len mo.cap)
 field:gc h f
 rW:gN h (fun b=>b<h.size) wa 1 av W wr
 rM:gN h (fun b=>b<h.size) mo 1 av M mr
theorem Qy.of{h:Heap}{s f:Addr}{p:Int×Int×Int}{v r k l i c a:Sl}{g e:List Sl}{W M:aT}(d:bV h s 275 (Wt f p v r k l i c a))(n:gc h f)(m:gN h (fun b=>b<h.size) c 1 av W g)(j:gN h (fun b=>b<h.size) a 1 av M e):Qy h s f c a g e W M:=
 ⟨d.cell0 rfl,d.cell rfl,d.cell rfl,n,m,j⟩
structure NU (h:Heap) (p:ap) (a:Addr) (l o u:Sl) (rows:Fc) (rs:List Sl) (op us:List Bool):Prop where
 c0:cellOf h a=some (vM l.ptr l.len l.cap)
 c1:cellOf h (a.add 1)=some (vM o.ptr o.len o.cap)
 c2:cellOf h (a.add 2)=some (vM u.ptr u.len u.cap)
 eu:p a.block
 sRows:gN h p l 1 aG rows rs
 sOp:Seq h p o 1 Mw op
 sUs:Seq h p u 1 Mw us
 ulen:us.length=rows.length
 eZ:∀r∈rows,∀c∈r,0<=c/\c<op.length
 short:∀r∈rows,r.length<=64
theorem NU.ag{h d:Heap}{p:ap}{a:Addr}{l o u:Sl}{rows:Fc}{rs:List Sl}{f e:List Bool}(c:NU h p a l o u rows rs f e)(k:aH p h d):NU d p a l o u rows rs f e:=by
 have b:∀n,(a.add n).block=a.block:=fun n=>by unfold Addr.add;split<;>rfl
 exact⟨k.cell c.eu c.c0,k.cell (by rw[b];exact c.eu) c.c1,k.cell (by rw[b];exact c.eu) c.c2,c.eu,c.sRows.ag k,c.sOp.ag k,c.sUs.ag k,c.ulen,c.eZ,c.short⟩
def Wu(p:Int×Int):aM:=[vL vR p.1,vL vR p.2]
structure WP (h:Heap) (f:Addr) (r st dd lf:Sl) (rr:List (Sl×Sl)) (R:List ij) (ST:List (Int×Int)) (D L:aB):Prop where
 field:gc h f
 rest:mb Sw 2 qv h r rr R
 steps:Rd h st 2 Wu ST
 dead:Rd h dd 1 aG D
 left:Rd h lf 1 aG L
section
variable {B:ap} {h0 h:Heap} {As:List HP}
end
section
variable {B:ap} {h0 h:Heap} {As:List HP}
end
section
variable {B:ap} {h0 h:Heap} {As:List HP}
structure Kp (pool pl:List (Sl×Row)) (wr mr:List Sl) (W M:aT):Prop where
 sub:∀x∈pool,x∈pl
 way:gF pl id wr W
 more:gF pl id mr M
theorem Kp.step{pool pl:List (Sl×Row)}{f e:List Sl}{W M:aT}(x:Kp pool pl f e W M)(c:Nat)(a b:Sl)(l m:Row):Kp pool ((b,m)::(a,l)::pl) (f.set c a) (e.set c b) (W.set c l) (M.set c m):=
 ⟨fun y d=>by simp[x.sub y d],(x.way.mono fun y d=>by simp[d]).set c (by simp),(x.more.mono fun y d=>by simp[d]).set c (by simp)⟩
end
section
variable {B:ap} {h0 h:Heap} {As:List HP}
end
end Go.Qw
