/- Lemmas for the proof of the law; no condition. -/
import Derived.Test.YtcaonbjibhlkcaaGreatDoorKB
set_option linter.unusedVariables false
set_option maxHeartbeats 4000000
set_option linter.unusedSimpArgs false
open Go.Proofs.Tryz renaming prog -> xv
open Go.Value renaming agg -> xp, bool -> xo, int -> xk, pointer -> xm, slice -> xl, string -> xn
open Nat renaming and_one_is_mod -> vz, le_of_ble_eq_true -> zF, le_refl -> ql, le_trans -> zk, lt_of_lt_of_le -> qL, lt_succ_iff_lt_or_eq -> zb, mod_eq_of_lt -> zV, mod_lt -> wJ, mul_one -> wc, pow_le_pow_right -> yo, shiftRight_eq_div_pow -> yH, sub_self -> zd
open List renaming all_append -> yL, all_eq_true -> qN, any_append -> y7, append_assoc -> qo, append_nil -> qU, cons_append -> zA, drop_drop -> zB, drop_eq_getElem_cons -> qS, drop_of_length_le -> zh, ext_getElem -> wi, filter_append -> zg, foldl_append -> zI, foldl_cons -> zD, foldl_nil -> wx, getD_eq_getElem?_getD -> qe, getElem?_append_left -> qm, getElem?_eq_getElem -> qd, getElem?_replicate -> zT, getElem_append_right -> wo, getElem_mem -> qh, getElem_of_mem -> qE, length_drop -> qZ, length_filter_le -> zc, length_map -> qD, length_take -> qM, map_append -> qW, map_cons -> wj, map_nil -> vj, mem_cons -> q8, mem_cons_of_mem -> qY, mem_filter -> qJ, mem_of_mem_take -> zP, not_mem_nil -> vL, range -> qy, replicate -> qg, set_append_right -> q7, set_cons_zero -> zu, take_append_drop -> qx, take_append_of_le_length -> zS, take_length -> qX, take_of_length_le -> qi, zipWith -> zm
open Go.IntKind renaming bits -> qk, i64 -> xq, u8 -> xr, wrap -> qc
open Int renaming fdiv -> qQ, toNat_natCast -> qp
open BitVec renaming eq_of_toNat_eq -> wD, getLsbD_and -> xb, ofInt -> qu, ofNat -> wG, toNat -> xh, toNat_and -> vM, toNat_ofNat -> wN, toNat_ushiftRight -> yR, toNat_xor -> vN, xor_assoc -> wA, xor_self -> yM, xor_zero -> vU, zero_xor -> vV
open UInt8 renaming toNat_inj -> wg
open Bool renaming and_eq_false_iff -> vd, and_eq_true -> qA, eq_iff_iff -> y9, false_eq_true -> zf
open Go.Instr renaming makeSlice -> qB, storeAt -> qf
open Option renaming some -> zO
open Prod renaming ext -> yD, fst -> qK
set_option maxRecDepth 100000
namespace Go.Qw
open Go Go.Vc Go.Proofs Wl
section
variable {B:aA} {h0 h:Heap} {As:List HP} {a pw b:Addr} {mc:aV} {offs:Int} {da:List aP} {w:Pow} {ds:aX} {d:bv}
def jf(a cells:Int):Bool:=decide ((0<=a/\a<64)/\1<=cells/\cells<=512)
end
end Go.Qw
namespace Go.Vc
open Go Wl
section
variable {k:Kit} {B:aA} {h0 h:Heap} {As:List HP} {a pw b:Addr} {mc:aV} {offs:Int} {da:List aP} {w:Pow} {ds:aX} {d:bv} {n:Nat}
end
end Go.Vc
namespace Go.Qw
open Go Go.Vc Go.Proofs Wl
section
variable {B:aA} {h0 h:Heap} {As:List HP} {a pw b:Addr} {offs:Int} {da:List aP} {w:Pow} {ds:aX} {d:bv}
end
section
variable {B:aA} {h0 h:Heap} {As:List HP} {a pw:Addr} {offs:Int} {da:List aP} {w:Pow} {ds:aX} {mc:aV}
theorem RH{k:Int}{d:bv}(e:bR ds k=some d)(H:aa B h0 h (bx bS a pw mc offs da w ds::As)):∃(b:Addr) (s g:Sl),nR da k=some b/\bZ h b 208 (gB pw d s g)/\fo h s 1 az d.l/\eM d:=by
 obtain⟨ok,_⟩:=aa.dj H;rcases nS ok k with⟨h1,_⟩|⟨n,d',b,rfl,hn,h1,h2,h3,h4⟩
 ·rw[h1]at e;cases e
 ·rw[h2]at e;injection e with e
  subst e;obtain⟨m,c,j⟩:=Go.Vc.aa.mh H h1;rw[h3]at c;injection c with c
  injection c with c
  subst c;obtain⟨f,s,g,i⟩:=aa.uc j;exact⟨b,s,g,h4,i.box 0 rfl,(i.bo 2 [1,0]).MU fun _=>rfl,f⟩
theorem RI{k:Int}{d:bv}{b:Addr}(x:cy)(m:aD)(o:bR ds k=some d)(e:nR da k=some b)(g:gn h x m)(n:dM m)(H:aa B h0 h (bx bS a pw mc offs da w ds::As)):
  ab xv 235 #[xm (some b),gm x] h fun v h'=>v=xo (mv m d.l)/\Sp h h' []:=by
 obtain⟨q,s,f,c,p,i,j⟩:=RH o H;rw[e]at c;injection c with c
 subst c;exact Wx b pw d s f x m h p i j g n
end
theorem aff{a:aB}(b:a≠[])(id:Nat):sB a id=a[id%a.length]'(wJ _ (by cases a with|nil=>exact absurd rfl b|cons=>simp)):=by
 have d:0<a.length:=by cases a with|nil=>exact absurd rfl b|cons=>simp
 have c:=wJ id d;unfold sB Pb;rw[if_neg (by rintro(h|h);exact b h;omega)];have e:((id:Int)%(a.length:Int)).toNat=id%a.length:=by omega
 rw[e,qe,qd c];rfl
def jW(a pw:Addr)(b:List aP)(offs:Int)(w:Pow)(ds:aX)(m:aD):HP:=HP.ex fun x:cy=>(bx bS a pw (bh x) offs b w ds).sep (fS x m)
section
variable {B:aA} {h0 h:Heap} {As:List HP} {a pw:Addr} {offs:Int} {da:List aP} {w:Pow} {ds:aX} {m:aD}
theorem Mt(H:aa B h0 h (jW a pw da offs w ds m::As)):∃x,aa B h0 h (bx bS a pw (bh x) offs da w ds::fS x m::As):=by
 obtain⟨x,H⟩:=H.CC;exact⟨x,H.ET.uC⟩
theorem RJ{x:cy}(H:aa B h0 h (bx bS a pw (bh x) offs da w ds::fS x m::As)):aa B h0 h (jW a pw da offs w ds m::As):=
 aa.JE (F:=fun x:cy=>(bx bS a pw (bh x) offs da w ds).sep (fS x m)) x H.uC.oO
end
section
variable {B:aA} {h0 h:Heap} {As:List HP} {a pw:Addr} {offs:Int} {da:List aP} {w:Pow} {ds:aX} {m:aD}
theorem afg(H:aa B h0 h (jW a pw da offs w ds m::As)):ds.length=64/\∀k d,bR ds k=some d->d.l.length<=d.room/\d.room<=512/\eM d:=by
 obtain⟨x,H⟩:=Mt H;obtain⟨ok,_⟩:=aa.dj H;refine⟨ok.ls,fun k d e=>?_⟩;obtain⟨b,s,f,_,_,_,c⟩:=RH e H;exact⟨c.len,c.room,c⟩
theorem adI(name:ByteArray)(s:Sl)(b:aU)(g:St B h0 As fun h=>Rd h s 1 az b)(d:s.len<=s.cap)(j:name.size<=2^40)(c:bQ m=true)(e:b.length<=2^20)(H:aa B h0 h (jW a pw da offs w ds m::As)):
  ab xv 86 #[xm (some a),xn name,s] h fun v h'=>v=xk xq (cK m offs w ds name b).1/\
   aa B h0 h' (jW a pw da offs (cK m offs w ds name b).2.2.1 (cK m offs w ds name b).2.2.2 (cK m offs w ds name b).2.1::As):=by
 obtain⟨x,H⟩:=Mt H;obtain⟨n,l,f,k⟩:=(dW m).1 ((cD m).1 c).1;refine(abo x m name s b g d j (Ms c) f k (ne c) (rU c) (by omega) (by omega) e H).mono ?_;rintro _ h' ⟨rfl,y,i⟩;exact⟨rfl,RJ i⟩
end
end Go.Qw
namespace Wl
open Go Go.Qw Go.Vc
def Dx(a:Int)(k:Nat):UInt8:=b8 (qQ a (2^(8*k)))
def nG(c:aU)(at_:Nat)(a:Int):Nat->aU
 |0=>c
 |k+1=>(nG c at_ a k).set (at_+k) ((nG c at_ a k).getD (at_+k) 0^^^Dx a k)
def jI(c:aU)(at_:Int)(a:Int):aU:=nG c at_.toNat a 4
theorem GA(c:aU)(a:Nat)(b:Int):∀k,(nG c a b k).length=c.length
 |0=>rfl
 |k+1=>by unfold nG;rw[List.length_set];exact GA c a b k
theorem Zk(c:aU)(a b:Int):(jI c a b).length=c.length:=GA _ _ _ _
def Zl(d:bv)(i at_ a:Int):Bool:=decide ((0<=i/\i<(d.l.length:Int))/\(0<=at_/\at_<=60)/\a≠0)
def bv.nH(d:bv)(i at_ a:Int):bv:=if Zl d i at_ a then{d with l:=d.l.set i.toNat (jI (d.l.getD i.toNat []) at_ a)}else d
end Wl
namespace Go.Vc
end Go.Vc
namespace Go.Qw
open Go Go.Vc Go.Proofs Wl
section
variable {B:aA} {h0 h:Heap} {As:List HP} {a pw:Addr} {d:bv}
end
theorem adJ(h:Heap)(x:UInt8):ab xv 75 #[xk xr x.toNat] h fun v h'=>v=xo (x !=0)/\h'=h:=by
 refine LS _ ?_;unfold FG;refine⟨?_,rfl⟩;congr 1;by_cases a:x=0
 ·subst a;rfl
 ·have:((x.toNat:Nat):Int)≠0:=fun b=>a (xw.1 b);rw[bne_iff_ne.2 a];exact bne_iff_ne.2 this
theorem Zm(a:Sl)(l:Row)(h:Heap)(p:Rd h a 1 az l)(s:l.length<=2^30):ab xv 40 #[a] h fun v h'=>v=xk xq (if lI l<l.length then(lI l:Int)else-1)/\h'=h:=by
 refine Qz a ?_;unfold JY;refine(pi a (75,#[],#[]) (R:=fun v h'=>v=xk xq (if lI l<l.length then(lI l:Int)else-1)/\h'=h) ?_).mono ?_
 ·unfold ko;have r:=p.len;refine au (fun i:Nat=>(i:Int)) (fun i h'=>h'=h/\i<=l.length/\∀j (b:j<l.length),j<i->l[j]=0) (fun i=>l.length-i) 0 rfl ⟨rfl,by omega,fun j _ b=>by omega⟩ ?_;rintro i o ⟨rfl,t,c⟩;refine ai (fun e=>?_) (fun e=>?_)
  ·have d:i<l.length:=by omega
   refine p.bt i rfl d _ rfl ?_;refine eS (by rfl) ?_;refine(adJ o l[i]).mono ?_;rintro v u ⟨rfl,rfl⟩;refine⟨_,rfl,bF (fun k=>?_) (fun k=>?_)⟩
   ·have m:lI l=i:=by
     rw[lI,List.findIdx_eq d];exact⟨k,fun j b=>by simp[c j (by omega) b]⟩
    rw[m,if_pos d];exact⟨rfl,rfl⟩
   ·refine⟨i+1,by rw[aj _];rfl,⟨rfl,by omega,fun j b n=>?_⟩,by omega⟩;rcases zb.1 n with h3|rfl
    ·exact c j b h3
    ·simpa using k
  ·have f:¬lI l<l.length:=by
    rw[lI,List.findIdx_lt_length];rintro⟨x,q,g⟩;obtain⟨j,b,rfl⟩:=qE q;rw[c j b (by omega)]at g;simp at g
   rw[if_neg f];exact⟨rfl,rfl⟩
 ·rintro v o ⟨rfl,rfl⟩;exact⟨_,rfl,rfl,rfl⟩
def GB(f:Addr)(n:Nat)(a:Sl):aV:=[xm (some f),xk xq n,a]
def Pc(b f:Addr)(n:Nat)(M:aQ):HP:=.ex fun a:Sl=>(ar b 392 (GB f n a)).sep (dK 23 a 1 bD (ft 1 az) M)
theorem Pc.open{B:aA}{c h:Heap}{As:List HP}{b f:Addr}{n:Nat}{M:aQ}(H:aa B c h (Pc b f n M::As)):
  ∃a:Sl,aa B c h (dK 23 a 1 bD (ft 1 az) M::ar b 392 (GB f n a)::As):=by
 obtain⟨a,d⟩:=H.CC;exact⟨a,d.ET⟩
theorem Pc.rd{B:aA}{q h:Heap}{As:List HP}{m f:Addr}{n:Nat}{M:aQ}(H:aa B q h As)(i:Nat)(p:As[i]?=some (Pc m f n M)):∃g:Sl,bZ h m 392 (GB f n g)/\fg (cg (ft 1 az) 1 bD) h g M:=by
 obtain⟨g,z,u,y,v,k,o,rs,w,a,b,c,d,e⟩:=H.at i p;exact⟨g,o.1,rs,a.seq (fun _=>rfl) fun x j=>k x (b x j).1,d,fun i r l s t=>(ft 1 az).mono (e i r l s t) fun x j=>k x (c x j)⟩
end Go.Qw
namespace Wl
open Go Go.Qw Go.Vc
end Wl
namespace Go.Qw
open Go Go.Vc Go.Proofs Wl
section
variable {B:aA} {h0 h:Heap} {As:List HP} {a pw:Addr} {offs:Int} {da:List aP} {w:Pow} {ds:aX} {m:aD}
end
theorem RK{m:aD}{offs:Int}{w:Pow}{ds:aX}{n:aD}(r:w.calm)(l:ds.length=64)(H:fO w offs=false)(s:bQ n=true)(D:n.seq=m.seq+1):
  let live:=bg ds n.drives;let N:Int->Int:=fun _=>((bf n).length:Int)
  (live=[]∨cU m ds live N=false->oJ m offs w ds n=(7,m,w,ds))/\(live≠[]->cU m ds live N=true->∃c,oJ m offs w ds n=(0,n,w,c)/\c.length=64/\
   ∀k,bR c k=(bR ds k).map fun d=>if k∈live then eE (bf n) (dS m d (bf n).length)else d):=by
 intro live N;have b:live.Nodup:=Gy (CQ s);have e:oJ m offs w ds n=(if live=[]∨cU m ds live N=false then(7,m,w,ds)else
   if(makes m N live w ds).1≠0 then((makes m N live w ds).1,m,(makes m N live w ds).2)else
   ((layAll (bE n live) (makes m N live w ds).2.1 (makes m N live w ds).2.2).1,if(layAll (bE n live) (makes m N live w ds).2.1 (makes m N live w ds).2.2).1=0 then n else m,(layAll (bE n live) (makes m N live w ds).2.1 (makes m N live w ds).2.2).2)):=by
  unfold oJ;rw[if_neg (by rw[H];decide),if_neg (by rw[s,decide_eq_false (by simpa using D)];decide)]
 refine⟨fun h=>by rw[e,if_pos h],fun j o=>?_⟩;rw[e,if_neg (by rintro(h|h);exact j h;rw[o]at h;cases h)];obtain⟨v,y,G,q⟩:=Dw r (N:=N) b l o;rw[y];dsimp only;rw[if_neg (by simp)];obtain⟨F,t,E,I⟩:=KV r (ds:=v) (P:=bE n live) G fun x B=>by
  obtain⟨a,g⟩:=jT B;obtain⟨A,i,p⟩:=Bh (qN.1 o x.1 a);obtain⟨z,u,J⟩:=KU p;refine⟨g,dS m A (N x.1),?_,z,?_⟩
  ·rw[q,i,Option.map_some,if_pos a]
  ·rw[oI b,if_pos a,u];have:N x.1=((bf n).length:Int):=rfl;omega
 rw[t];refine⟨F,rfl,E,fun k=>?_⟩;rw[I,q,Option.map_map];congr 1;funext d;show eE (jV (bE n live) k) (if k∈live then dS m d (N k)else d)=_;rw[oI b];by_cases f:k∈live
 ·rw[if_pos f,if_pos f,if_pos f]
 ·rw[if_neg f,if_neg f,if_neg f];rfl
theorem WE{o b:Int}{live:aB}(i:0<=o/\o<=16777215)(g:0<=b/\b<8)(d:live.Nodup)(c:∀k∈live,0<=k/\k<64):(gH o b live).Nodup/\(gH o b live).Perm live:=by
 have e:gH o b live=sA ((8*o+b)%64).toNat live:=by unfold gH;rw[if_pos (by omega)]
 rw[e];have f:=abn ((8*o+b)%64).toNat live;refine⟨f,(List.perm_ext_iff_of_nodup f d).2 fun a=>?_⟩;rw[NQ];exact⟨fun h=>h.1,fun h=>⟨h,c a h⟩⟩
theorem Fe{l:aB}(h:l.Pairwise (·<·)):jl l=l:=by
 have g:(jl l).Perm l:=List.mergeSort_perm _ _;have f:(jl l).Pairwise (fun a b=>decide (a<=b)=true):=List.pairwise_mergeSort (fun a b c e d=>by simp at*;omega) (fun a b=>by simp;omega) l;refine g.eq_of_pairwise (le:=fun a b:Int=>decide (a<=b)=true) ?_ f (h.imp fun h=>by simp;omega);intro a b _ _ e d;simp at e d;omega
structure Pd (p:Pm) (extra:Int) (c:Nat) (x:Int) (m:aD) (D:aX):Prop where
 m_eq:m=de p extra (qg c x)
 len:D.length=64
 may:bQ m=true
 dr:m.drives=(qy c).map fun i:Nat=>(i:Int)
 at_:∀s,bR D s=if s∈m.drives then some ⟨x.toNat,bf m,0,[],false,false⟩else none
theorem Pd.live{p:Pm}{extra:Int}{c:Nat}{x:Int}{m:aD}{D:aX}(F:Pd p extra c x m D):bg D m.drives=m.drives:=List.filter_eq_self.2 fun k a=>by
 unfold isLive;rw[F.at_ k,if_pos a];rfl
theorem Pd.aL{p:Pm}{extra:Int}{c:Nat}{x:Int}{m:aD}{D:aX}(F:Pd p extra c x m D):m.aL=[]/\m.seq=1/\m.next=0/\m.p=p/\m.extra=extra:=by rw[F.m_eq];exact⟨rfl,rfl,rfl,rfl,rfl⟩
section
variable {B:aA} {h0 h:Heap} {As:List HP} {a pw:Addr} {offs:Int} {da:List aP} {w:Pow} {ds:aX} {m:aD}
theorem Zn{a:Int}(h:a%2=1):Dx a 0≠0:=by
 intro e;have b:((Dx a 0).toNat:Int)=0:=by rw[e];rfl
 unfold Dx at b;rw[nc]at b;simp at b;omega
theorem aby{c:aU}{a b:Int}(l:c.length=64)(m:0<=a/\a<=60)(i:b%2=1):jI c a b≠c:=by
 intro e;obtain⟨p,rfl⟩:∃p:Nat,a=p:=⟨a.toNat,by omega⟩
 have f:∀k,1<=k->k<=4->(nG c p b k)[p]?=some (c.getD p 0^^^Dx b 0):=by
  intro k g j
  induction k with
  |zero=>omega
  |succ k ih=>
   by_cases h:k=0
   ·subst h;show(c.set (p+0) (c.getD (p+0) 0^^^Dx b 0))[p]?=_;rw[Nat.add_zero,List.getElem?_set_self (by omega)]
   ·show((nG c p b k).set (p+k) _)[p]?=_;rw[List.getElem?_set_ne (by omega)];exact ih (by omega) (by omega)
 have g:=f 4 (by decide) (by decide);have d:(jI c (p:Int) b)[p]?=c[p]?:=by rw[e]
 unfold jI at d;rw[qp,g,qd (by omega)]at d;injection d with d
 rw[kl 0]at d;have h3:Dx b 0=0:=by
  have:=congrArg (fun z=>c[p]'(by omega)^^^z) d;simp only[<-UInt8.xor_assoc,UInt8.xor_self,UInt8.zero_xor]at this;exact this
 exact Zn i h3
end
end Go.Qw
namespace Wl
open Go
theorem GC(a:iP):a&&&1#32=0#32∨a&&&1#32=1#32:=by
 have h:((a&&&1#32).toNat)=a.toNat%2:=by rw[vM];exact vz _
 rcases Nat.mod_two_eq_zero_or_one a.toNat with e|e
 ·left;apply wD;rw[h,e];rfl
 ·right;apply wD;rw[h,e];rfl
theorem iW{a:iP}(h:a&&&1#32=0#32):jc a=a>>>1:=by unfold jc;rw[if_neg (by rw[h];decide)]
theorem kW{a:iP}(h:a&&&1#32=1#32):jc a=(a>>>1)^^^3988292384#32:=by unfold jc;rw[if_pos h]
theorem RL(a b c:iP):a^^^b^^^c=a^^^c^^^b:=by rw[wA,BitVec.xor_comm b c,<-wA]
theorem WF(a b:iP):jc (a^^^b)=jc a^^^jc b:=by
 have e:(a^^^b)&&&1#32=(a&&&1#32)^^^(b&&&1#32):=by
  apply BitVec.eq_of_getLsbD_eq;intro i _;rw[xb,BitVec.getLsbD_xor,BitVec.getLsbD_xor,xb,xb,Bool.and_xor_distrib_right]
 have s:(a^^^b)>>>1=(a>>>1)^^^(b>>>1):=BitVec.ushiftRight_xor_distrib a b 1;rcases GC a with ha|ha<;>rcases GC b with hb|hb
 ·rw[iW ha,iW hb,iW (by rw[e,ha,hb];decide),s]
 ·rw[iW ha,kW hb,kW (by rw[e,ha,hb];decide),s,wA]
 ·rw[kW ha,iW hb,kW (by rw[e,ha,hb];decide),s,RL]
 ·rw[kW ha,kW hb,iW (by rw[e,ha,hb];decide),s,<-wA,RL _ 3988292384#32,wA _ 3988292384#32 3988292384#32,yM,vU]
theorem TK{a:iP}(h:jc a=0#32):a=0#32:=by
 rcases GC a with ha|ha
 ·rw[iW ha]at h;apply wD;have c:=congrArg xh h;have b:=congrArg xh ha;rw[yR,yH]at c;have h3:(a&&&1#32).toNat=a.toNat%2:=by rw[vM];exact vz _
  rw[h3]at b;simp at c b⊢;omega
 ·rw[kW ha]at h;exfalso;have c:a>>>1=3988292384#32:=by
   have:=congrArg (fun z=>z^^^3988292384#32) h;simp only[wA,yM,vU,vV]at this;exact this
  have b:=congrArg xh c;rw[yR,yH]at b;have:=a.isLt;simp at b;omega
theorem nA:∀(n:Nat) (a b:iP),dG n (a^^^b)=dG n a^^^dG n b
 |0,_,_=>rfl
 |n+1,a,b=>by unfold dG;rw[nA n,WF]
theorem GD:∀(n:Nat) {a:iP},dG n a=0#32->a=0#32
 |0,_,h=>h
 |n+1,_,h=>GD n (TK h)
theorem abz{a b:iP}(h:a^^^b=0#32):a=b:=by
 have:=congrArg (fun z=>z^^^b) h;simp only[wA,yM,vU,vV]at this;exact this
theorem Ij{n:Nat}{a b:iP}(h:dG n a=dG n b):a=b:=
 abz (GD n (by rw[nA,h,yM]))
theorem rF:∀(m n:Nat) (a:iP),dG (m+n) a=dG m (dG n a)
 |0,n,a=>by rw[Nat.zero_add];rfl
 |m+1,n,a=>by rw[show m+1+n=(m+n)+1 by omega];show jc (dG (m+n) a)=jc (dG m (dG n a));rw[rF m n a]
theorem KX:∀(n x:Nat),x<2^(32-n)->n<=32->dG n (wG 32 (x*2^n))=wG 32 x
 |0,x,_,_=>by rw[Nat.pow_zero,wc];rfl
 |n+1,x,h,hn=>by
  have b:x*2<2^(32-n):=by
   have:2^(32-n)=2^(32-(n+1))*2:=by rw[<-Nat.pow_succ];congr 1;omega
   omega
  show jc (dG n (wG 32 (x*2^(n+1))))=_;rw[show x*2^(n+1)=x*2*2^n by rw[Nat.pow_succ,Nat.mul_assoc,Nat.mul_comm 2],KX n (x*2) b (by omega)];have a:x*2<2^32:=qL b (yo (by decide) (by omega));rw[iW]
  ·apply wD;rw[yR,wN,wN,zV a,zV (by omega),yH];omega
  ·apply wD;rw[vM,wN,zV a];show(x*2)&&&1=0;rw[vz];omega
def RM(a b c d:UInt8):iP:=wG 32 (a.toNat*2^0)^^^wG 32 (b.toNat*2^8)^^^wG 32 (c.toNat*2^16)^^^wG 32 (d.toNat*2^24)
theorem abA(s:iP)(a b c d:UInt8):lq (lq (lq (lq s a) b) c) d=dG 32 (s^^^RM a b c d):=by
 have k:=a.toNat_lt;have h:=b.toNat_lt;have i:=c.toNat_lt;have j:=d.toNat_lt;have e:∀(n:Nat) (x:UInt8),n<=24->wG 32 x.toNat=dG n (wG 32 (x.toNat*2^n)):=fun n x g=>by
  have f:=x.toNat_lt;refine(KX n x.toNat ?_ (by omega)).symm;exact qL (show x.toNat<2^8 from f) (yo (by decide) (by omega))
 unfold lq RM;rw[e 8 b (by decide),<-nA,<-rF,e 16 c (by decide),<-nA,<-rF,e 24 d (by decide),<-nA,<-rF];simp only[Nat.pow_zero,wc,wA]
theorem Mu(a b c d:UInt8):(RM a b c d).toNat=a.toNat+b.toNat*256+c.toNat*65536+d.toNat*16777216:=by
 have o:=a.toNat_lt;have l:=b.toNat_lt;have m:=c.toNat_lt;have n:=d.toNat_lt;have e:∀(k x y:Nat),x<2^k->x^^^(y*2^k)=x+y*2^k:=fun k x y f=>by
  rw[Nat.mul_comm y];have j:=Nat.two_pow_add_eq_or_of_lt f y;have h:x^^^(2^k*y)=(2^k*y)|||x:=by
   apply Nat.eq_of_testBit_eq;intro i;rw[Nat.testBit_xor,Nat.testBit_or,Nat.testBit_two_pow_mul];by_cases g:k<=i
   ·have:x.testBit i=false:=Nat.testBit_lt_two_pow (qL f (yo (by decide) g));simp[this]
   ·simp[g]
  rw[h,<-j];omega
 unfold RM;rw[vN,vN,vN,wN,wN,wN,wN];rw[zV (by omega),zV (by omega),zV (by omega),zV (by omega)];rw[Nat.pow_zero,wc,e 8 _ _ (by omega),e 16 _ _ (by omega),e 24 _ _ (by omega)]
theorem adK{a b c d e g i f:UInt8}(h:RM a b c d=RM e g i f):a=e/\b=g/\c=i/\d=f:=by
 have j:=congrArg xh h;rw[Mu,Mu]at j;have:=a.toNat_lt;have:=b.toNat_lt;have:=c.toNat_lt;have:=d.toNat_lt;have:=e.toNat_lt;have:=g.toNat_lt;have:=i.toNat_lt;have:=f.toNat_lt;refine⟨wg.1 ?_,wg.1 ?_,wg.1 ?_,wg.1 ?_⟩<;>omega
theorem RN:∀{q:aU} {s t:iP},q.foldl lq s=q.foldl lq t->s=t
 |[],_,_,h=>h
 |x::q,s,t,h=>by
  have:=Ij (RN (q:=q) h);have:=congrArg (fun z=>z^^^wG 32 x.toNat) this;simp only[wA,yM,vU]at this;exact this
theorem Zo{p q:aU}{a b c d e g i f:UInt8}(h:ka (p++([a,b,c,d]++q))=ka (p++([e,g,i,f]++q))):[a,b,c,d]=[e,g,i,f]:=by
 unfold ka at h;rw[zI,zI,zI,zI]at h;have h:=RN h;simp only[zD,wx]at h;rw[abA,abA]at h;have h:=Ij h;have h:=congrArg (fun z=>List.foldl lq 4294967295#32 p^^^z) h;simp only[<-wA,yM,vV]at h;obtain⟨rfl,rfl,rfl,rfl⟩:=adK h;rfl
theorem adL(s:iP):∃a b c d,ki s=[a,b,c,d]/\RM a b c d=s:=by
 refine⟨_,_,_,_,rfl,?_⟩;apply wD;rw[Mu];have m:=s.isLt;have e:∀n:Int,((b8 n).toNat:Int)=n%256:=fun n=>by have:=nc n;omega
 have f:∀k:Nat,qQ (s.toNat:Int) (2^(8*k))=((s.toNat/2^(8*k):Nat):Int):=fun k=>by
  rw[Int.fdiv_eq_ediv_of_nonneg _ (by exact_mod_cast Nat.zero_le _)];norm_cast
 have g:∀k:Nat,(b8 (qQ (s.toNat:Int) (2^(8*k)))).toNat=s.toNat/2^(8*k)%256:=fun k=>by
  have:=e (qQ (s.toNat:Int) (2^(8*k)));rw[f k]at this;rw[f k];omega
 have j:=g 0;have l:=g 1;have h:=g 2;have i:=g 3;simp only[Nat.mul_zero,wc,Nat.pow_zero,Nat.div_one,Nat.reduceMul,Nat.reducePow]at j l h i;simp only[Nat.mul_zero,wc,Nat.reduceMul];rw[j,l,h,i];omega
theorem adM(x:aU):ka (x++ki (kZ x))=dG 32 4294967295#32:=by
 obtain⟨a,b,c,d,f,e⟩:=adL (kZ x);rw[f];unfold ka;rw[zI];simp only[zD,wx];rw[abA,e];unfold kZ ka;congr 1;rw[BitVec.xor_comm 4294967295#32,<-wA,yM,vV]
theorem GF{c:aU}{k:Int}{x:aU}(h:eU c=some (k,x)):c.length=64/\c=c.take 59++(ki (kZ (c.take 59))++[165]):=by
 unfold eU at h;split at h
 ·rename_i d;obtain⟨b,a⟩:=d;refine⟨b,?_⟩;unfold dO at a;split at a
  ·rename_i e;have g:=uG (kind:=((c.getD 3 0).toNat:Int)) e.2.2;have f:c.take 59=dt ((c.getD 3 0).toNat:Int) ((c.drop 4).take 55):=by
    conv=>lhs;rw[<-a]
    rw[qo,zS (by omega),qi (by omega)]
   rw[f];rw[<-qo];exact a.symm
  ·rw[<-a]at b;simp at b
 ·cases h
theorem Zp{l:aU}{p:Nat}(h:p+4<=l.length)(a:Int):∃u v,u.length=4/\v.length=4/\l=l.take p++(u++l.drop (p+4))/\nG l p a 4=l.take p++(v++l.drop (p+4)):=by
 have b:∀k,k<=4->(nG l p a k).take p=l.take p/\(nG l p a k).drop (p+4)=l.drop (p+4):=by
  intro k
  induction k with
  |zero=>exact fun _=>⟨rfl,rfl⟩
  |succ k ih=>
   intro j;obtain⟨i,g⟩:=ih (by omega);unfold nG;rw[List.take_set_of_le (by omega),List.drop_set_of_lt (by omega)];exact⟨i,g⟩
 have d:∀m:aU,m.length=l.length->m=m.take p++((m.drop p).take 4++m.drop (p+4)):=fun m n=>by
  rw[<-zB,qx,qx]
 obtain⟨e,f⟩:=b 4 (ql _);have c:=GA l p a 4;refine⟨(l.drop p).take 4,((nG l p a 4).drop p).take 4,by simp;omega,by simp[c];omega,d l rfl,?_⟩;rw[<-e,<-f];exact d _ c
theorem WG{c:aU}{k:Int}{x:aU}(h:eU c=some (k,x)){a b:Int}(H:0<=a/\a<=60)(d:jI c a b≠c):eU (jI c a b)=none:=by
 obtain⟨F,n⟩:=GF h;cases hb:eU (jI c a b)with
 |none=>rfl
 |some y=>
  exfalso;obtain⟨f,e⟩:=GF (k:=y.1) (x:=y.2) hb;obtain⟨i,s⟩:∃i,i=jI c a b:=⟨_,rfl⟩
  rw[<-s]at f e d;by_cases j:i.take 59=c.take 59
  ·apply d;rw[n,e,j,<-n]
  ·obtain⟨p,rfl⟩:∃p:Nat,a=p:=⟨a.toNat,by omega⟩
   obtain⟨u,v,B,q,A,g⟩:=Zp (l:=c) (p:=p) (by omega) b;have g:i=c.take p++(v++c.drop (p+4)):=by rw[s];unfold jI;rw[qp];exact g
   have I:p<=59:=by
    refine Decidable.byContradiction fun G=>j ?_;rw[g,zS (by simp;omega),List.take_take,Nat.min_eq_left (by omega)]
   have r:∀z:aU,z=z.take 59++(ki (kZ (z.take 59))++[165])->z.length=64->ka (z.take 63)=dG 32 4294967295#32:=fun z o E=>by
    have:z.take 63=z.take 59++ki (kZ (z.take 59)):=by
     conv=>lhs;rw[o]
     rw[<-qo,zS (by simp[CG];omega),qi (by simp[CG];omega)]
    rw[this,adM]
   have w:∀z:aU,z.length=4->(c.take p++(z++c.drop (p+4))).take 63=c.take p++(z++(c.drop (p+4)).take (59-p)):=fun z o=>by
    have m:(c.take p).length=p:=by simp;omega
    generalize c.take p=P at m⊢;rw[List.take_append,qi (by omega),List.take_append,qi (by omega),m,o];congr 3;omega
   have D:=r c n F;have t:=r i e f;rw[g,w v q]at t;rw[A,w u B]at D
   match u,v,B,q with
   |[u0,u1,u2,u3],[v0,v1,v2,v3],_,_=>
    have:=Zo (D.trans t.symm);apply d;rw[g,<-this,<-A]
theorem Zq{c:aU}{k:Int}{x:aU}(h:eU c=some (k,x)){a b:Int}(d:0<=a/\a<=60)(e:b%2=1):eU (jI c a b)=none:=WG h d (Go.Qw.aby (GF h).1 d e)
structure Pg where
 seq:Int
 num:Int
 many:Int
 bears:aU
 cell:aU
def afh(x c:aU):Pg:=⟨cO (x.take 4),((x.getD 4 0).toNat:Int),((x.getD 5 0).toNat:Int),(x.drop 7).take (x.getD 6 0).toNat,c⟩
def Ck(c:aU):Option Pg:=
 match eU c with
 |some (k,x)=>if k=2/\(x.getD 6 0).toNat<=48/\(x.drop (7+(x.getD 6 0).toNat)).all (fun b=>decide (b=0))=true then some (afh x c)else none
 |none=>none
theorem WH{seq c a:Int}{b:aU}(h:0<=seq/\seq<4294967296)(q:0<=c/\c<256)(h3:0<=a/\a<256)(r:b.length<=48):Ck (ju seq c a b)=some ⟨seq,c,a,b,ju seq c a b⟩:=by
 have j:(bL seq 4++([b8 c,b8 a,b8 b.length]++b)).length=7+b.length:=by simp[ci];omega
 obtain⟨x,e⟩:∃x,x=bL seq 4++([b8 c,b8 a,b8 b.length]++b)++qg (55-(bL seq 4++([b8 c,b8 a,b8 b.length]++b)).length) 0:=⟨_,rfl⟩
 have p:eU (ju seq c a b)=some (2,x):=by
  unfold ju;rw[Ah,e]
 have d:=JI seq;have f:x.getD 6 0=b8 b.length:=by rw[e,d];rfl
 have m:x.getD 5 0=b8 a:=by rw[e,d];rfl
 have l:x.getD 4 0=b8 c:=by rw[e,d];rfl
 have k:x.take 4=bL seq 4:=by rw[e,d];rfl
 have g:x.drop 7=b++qg (55-(7+b.length)) 0:=by rw[e,j,d];rfl
 have i:((b8 (b.length:Int)).toNat)=b.length:=by have:=nc (b.length:Int);omega
 unfold Ck;rw[p];dsimp only;have n:(b8 (b.length:Int)).toNat<=48:=by omega
 rw[if_pos ⟨rfl,by rw[f];exact n,by
  rw[f,i,<-zB,g,List.drop_left];exact qN.2 fun y o=>decide_eq_true (List.eq_of_mem_replicate o)⟩]
 unfold afh;rw[k,l,m,f,g,Nb h.1 h.2,i,List.take_left];have:=nc c;have:=nc a;congr 2<;>omega
def pgN(m:aD)(i:Nat):Pg:=⟨m.seq,i,gV (gC m),((gC m).drop (48*i)).take 48,ju m.seq i (gV (gC m)) (((gC m).drop (48*i)).take 48)⟩
theorem NT(m:aD):bf m=(qy (gV (gC m))).map fun i=>(pgN m i).cell:=rfl
theorem adN{m:aD}(a:bQ m=true):gV (gC m)<=9:=by
 have:=Go.Qw.Zj a;unfold bf at this
 rwa [qD,List.length_range]at this
theorem WI{m:aD}(a:bQ m=true){i:Nat}(c:i<gV (gC m)):Ck (pgN m i).cell=some (pgN m i):=by
 have b:=adN a;have d:=((dW m).1 ((cD m).1 a).1).1;exact WH ⟨by omega,by omega⟩ ⟨by omega,by omega⟩ ⟨by omega,by omega⟩ (by simp;omega)
end Wl
namespace Go.Qw
open Go Go.Vc Go.Proofs Wl
theorem Mw(s:Sl)(l:Row)(c:UInt8)(h:Heap)(p:Rd h s 1 az l)(y:s.len<=s.cap)(u:l.length<=2^30):
  ab xv 204 #[s,xk xr c.toNat] h fun v h'=>∃k:Nat,v=xl s.ptr k s.cap/\k<=l.length/\(∀j (f:j<l.length),k<=j->l[j]=c)/\(∀(d:k-1<l.length),0<k->l[k-1]≠c)/\h'=h:=by
 refine xY s _ ?_;unfold oC;have n:=p.len;refine aT ?_;refine au (fun k:Nat=>(⟨s.ptr,k,s.cap⟩:Sl)) (fun k h'=>h'=h/\k<=l.length/\∀j (f:j<l.length),k<=j->l[j]=c) (fun k=>k) l.length (by rw[<-n]) ⟨rfl,ql _,fun j f d=>by omega⟩ ?_;rintro k w ⟨rfl,d,b⟩;dsimp only;refine aT (ai (fun e=>?_) (fun e=>?_))
 ·have q:0<k:=by omega
  rw[aj _];refine(p.take k d).bt (g:=fun x:UInt8=>Value.int .u8 x.toNat) (k-1) (by omega) (by simp;omega) (l[k-1]'(by omega)) (by simp[az]) ?_|>fun⟨a,ha,x,hx,hK⟩=>⟨a,ha,x.toNat,hx,hK⟩
  refine cz (fun i=>?_) (fun i=>?_)
  ·have o:l[k-1]'(by omega)=c:=by
    have:(l[k-1]'(by omega)).toNat=c.toNat:=by exact_mod_cast i
    exact wg.1 this
   refine⟨⟨by omega,by omega⟩,k-1,by congr 1;omega,⟨rfl,by omega,fun j f t=>?_⟩,by omega⟩;by_cases m:j=k-1
   ·subst m;exact o
   ·exact b j f (by omega)
  ·refine⟨k,rfl,d,b,fun _ _ r=>i (by rw[r]),rfl⟩
 ·exact⟨k,rfl,d,b,fun _ h0=>by omega,rfl⟩
theorem OM(s:Sl)(l:Row)(c:UInt8)(h:Heap)(p:Rd h s 1 az l)(z:s.len<=s.cap)(D:l.length<=2^30):
  ab xv 203 #[s,xk xr c.toNat] h fun v h'=>(∃r:Sl,v=r/\(r.len=0↔∀x∈l,x=c))/\h'=h:=by
 refine AV s _ ?_;unfold pm;have A:=p.len;refine bO (fun r h'=>h'=h/\(r.len=0↔∀x∈l,x=c)) ?_ ?_
 ·refine au (fun t:Sl×Nat=>t.1) (fun t h'=>h'=h/\t.2<=l.length/\(∀j (d:j<l.length),j<t.2->l[j]=c)/\Rd h t.1 1 az (l.drop t.2)/\t.1.len<=t.1.cap) (fun t=>l.length-t.2) (s,0) rfl ⟨rfl,by simp,fun j _ d=>by omega,by simpa using p,z⟩ ?_;rintro⟨r,k⟩ u ⟨rfl,E,a,b,m⟩;dsimp only at*;have n:=b.len;rw[qZ]at n;refine aT (ai (fun e=>?_) (fun e=>?_))
  ·have g:k<l.length:=by omega
   refine b.bt 0 rfl (by rw[qZ];omega) _ rfl ?_;have B:(l.drop k)[0]'(by rw[qZ];omega)=l[k]:=by simp
   rw[B];refine cz (fun f=>?_) (fun f=>?_)
   ·have o:l[k]=c:=by
     have:(l[k]).toNat=c.toNat:=by exact_mod_cast f
     exact wg.1 this
    refine⟨⟨by omega,by omega⟩,(⟨if r.cap=1 then r.ptr else r.ptr.map (·.add (1*1)),r.len-1,r.cap-1⟩,k+1),rfl,⟨rfl,by omega,fun j d i=>?_,?_,by dsimp only;omega⟩,by dsimp only;omega⟩
    ·rcases zb.1 i with h2|rfl
     ·exact a j d h2
     ·exact o
    ·have:=b.drop 1 m;rw[zB]at this;exact this
   ·refine⟨rfl,⟨fun h0=>by omega,fun y=>absurd ?_ f⟩⟩;rw[y _ (qh g)]
  ·have q:k=l.length:=by omega
   refine⟨rfl,⟨fun _ x w=>?_,fun _=>by show r.len=0;omega⟩⟩;obtain⟨j,d,rfl⟩:=qE w;exact a j d (by omega)
 ·rintro r u ⟨rfl,b⟩;refine cz (fun e=>?_) (fun e=>?_)
  ·exact⟨⟨⟨none,0,0⟩,rfl,by rw[<-b];exact⟨fun _=>by omega,fun _=>rfl⟩⟩,rfl⟩
  ·exact⟨⟨r,rfl,b⟩,rfl⟩
theorem NU(s:Sl)(l:Row)(cut:ByteArray)(b:cut=⟨#[0]⟩)(h:Heap)(d:Rd h s 1 az l)(n:s.len<=s.cap)(f:l.length<=2^30):
  ab xv 127 #[s,xn cut] h fun v h'=>(∃r:Sl,v=r/\(r.len=0↔∀x∈l,x=0))/\h'=h:=by
 subst b;refine LW s _ ?_;unfold FK;have p:=d.len;refine cz (fun e=>?_) (fun e=>?_)
 ·refine⟨⟨⟨none,0,0⟩,rfl,⟨fun _ x a=>?_,fun _=>rfl⟩⟩,rfl⟩;have:l=[]:=List.eq_nil_of_length_eq_zero (by omega);subst this;cases a
 ·refine AL (by decide+kernel) (aT (Iu (by decide+kernel) ?_));refine⟨0,⟨by decide,rfl⟩,Iu (by decide) ?_⟩;refine⟨0,⟨by decide,rfl⟩,0,⟨by decide,rfl⟩,?_⟩;refine(Mw s l 0 h d n f).mono ?_;rintro v i ⟨k,rfl,q,m,h3,rfl⟩;refine⟨⟨s.ptr,k,s.cap⟩,rfl,trivial,?_⟩;refine(OM ⟨s.ptr,k,s.cap⟩ (l.take k) 0 i (d.take k q) (by show k<=s.cap;omega) (by simp;omega)).mono ?_;rintro v u ⟨⟨r,rfl,t⟩,rfl⟩;refine⟨r,rfl,trivial,⟨r,rfl,t.trans ⟨fun c x a=>?_,fun c x a=>c x (zP a)⟩⟩,rfl⟩;obtain⟨j,g,rfl⟩:=qE a;by_cases o:j<k
  ·exact c _ (by rw[List.mem_take_iff_getElem];exact⟨j,by omega,rfl⟩)
  ·exact m j g (by omega)
def qv(x:Sl×Sl):aV:=[x.1,x.2]
theorem Zr:∀x,∀c∈qv x,c.oneCell'=true:=fun x c a=>by
 simp only[qv,q8,vL,or_false]at a;rcases a with rfl|rfl<;>rfl
def iK:iO (Sl×Sl) eI:=⟨fun h q a e=>Seq h q a.1 1 aC e.1/\Seq h q a.2 1 az e.2,fun a b=>⟨a.1.ag b,a.2.ag b⟩,fun a c=>⟨a.1.mono c,a.2.mono c⟩⟩
abbrev pE:iO Sl (List eI):=cg iK 2 qv
abbrev afK:iO Sl aQ:=cg (sK 1 az) 1 bD
abbrev eQ:bN C.toBq 181 183 2 [xl none 0 0,xl none 0 0] 48:=⟨_,_,rfl,rfl,rfl,rfl,rfl,rfl⟩
abbrev Zs:bN C.toBq 49 23 1 [xl none 0 0] 24:=⟨_,_,rfl,rfl,rfl,rfl,rfl,rfl⟩
abbrev acN:bN C.toBq 190 4 1 [xo false] 1:=⟨_,_,rfl,rfl,rfl,rfl,rfl,rfl⟩
theorem pE.get{h:Heap}{q:aA}{s:Sl}{L:List eI}(x:pE.p h q s L){i:Int}(n:Nat)(c:i=n)(b:n<L.length){K:Sl×Sl->Prop}(d:∀r,iK.p h q r L[n]->K r):
  ∃a:Addr,(s.ptr=some a/\0<=i/\i<((s.len:Nat):Int))/\∃x:Sl×Sl,al h (a.add (i.toNat*2)) 0 [x.1,x.2]/\K x:=by
 obtain⟨rs,e,f,h3⟩:=cg.nC x;exact e.ea (g:=qv) n c (by omega) (rs[n]'(by omega)) rfl (d _ (h3 n (by omega) b))
structure xI (h:Heap) (p:Addr) (l k v:Sl) (L:List eI) (kn:List Bool) (vs:aQ):Prop where
 box:bZ h p 262 [l,k,v]
 eqs:fg pE h l L
 known:Rd h k 1 ee kn
 vals:fg afK h v vs
theorem xI.up{h h':Heap}{p:Addr}{l k v:Sl}{L:List eI}{kn:List Bool}{vs:aQ}(x:xI h p l k v L kn vs)(a:aR (fun b=>b<h.size) h h'):xI h' p l k v L kn vs:=
 ⟨x.box.ag a x.box.lt,fg.up x.eqs a,Seq.up x.known a,fg.up x.vals a⟩
theorem RO{kn:List Bool}{c:Int}(b:0<=c)(a:c.toNat<kn.length):Wl.kn kn c=kn[c.toNat]:=by
 unfold Wl.kn;rw[qe,qd a];rfl
theorem lB{m:aQ}{i:Nat}(h:i<m.length):av m i=m[i]:=bj h
theorem iX{α:Type}(f:α->Bool)(l:List α){k:Nat}(a:k<l.length):(l.take (k+1)).filter f=(l.take k).filter f++if f l[k]then[l[k]]else[]:=by
 rw[aH _ _ a,zg,List.filter_cons];cases f l[k]<;>rfl
theorem sF(V:aQ)(a:Row)(l:aB)(c:Int):cx V a (l++[c])=ck 1 (av V c.toNat) (cx V a l):=by
 unfold cx;rw[zI];rfl
theorem UE(a t:Row):ck 1 a t=zm (fun x y=>y^^^x) a t:=by
 unfold ck;congr 1;funext x y;rw[Gf.one_mul]
theorem GG{a t:Row}(d:a.length=t.length){k:Nat}(b:k<t.length:=by omega):(zm (fun x y=>y^^^x) (a.take k) (t.take k)++t.drop k).set k (t[k]^^^(a[k]'(by omega)))=zm (fun x y=>y^^^x) (a.take (k+1)) (t.take (k+1))++t.drop (k+1):=by
 have c:(zm (fun x y=>y^^^x) (a.take k) (t.take k)).length=k:=by simp;omega
 rw[q7 _ _ (by omega),c,zd,qS b,zu,aH _ _ b,aH _ _ (show k<a.length by omega),List.zipWith_append (by simp;omega)];simp
theorem RP(p:Addr)(l k v:Sl)(L:List eI)(kn:List Bool)(vs:aQ)(n:Nat)(h:Heap)(u:xI h p l k v L kn vs)(Q:kn.length=n)(O:∀e∈L,∀c∈e.1,0<=c/\c<(n:Int))(R:L.length<=2^30)(D:∀e∈L,e.1.length<=2^30):
  ab xv 271 #[xm (some p)] h fun v h'=>(∃i:Int,v=xk xq i/\(0<=i->∃(J:i.toNat<L.length),((L[i.toNat]).1.filter fun c=>!Wl.kn kn c).length=1))/\Sp h h' []:=by
 refine Dl (some p) ?_;unfold so;have N:=cg.len u.eqs;refine⟨p,rfl,l,u.box.cell0 rfl,?_⟩;refine au (fun i:Nat=>(i:Int)) (fun i h'=>i<=L.length/\Sp h h' []) (fun i=>L.length-i) 0 rfl ⟨by omega,Sp.refl h⟩ ?_;rintro i K ⟨J,A⟩;refine ai (fun e=>?_) (fun e=>⟨⟨-1,rfl,fun T=>by omega⟩,A⟩);have g:i<L.length:=by omega
 refine pE.get (fg.up u.eqs A.ag) i rfl g fun x M=>?_;refine(Sp.refl K).alloc ac rfl fun a U P=>?_;refine P.storeAll ac 0 rfl rfl (qv x) rfl rfl rfl rfl fun h3 t=>?_;have y:=up A.ag t.ag;have q:=u.up y;have s:=iK.mono (iK.loc M t.ag) fun b F=>qL F t.ag.1;have B:=t.box 0 rfl;refine⟨x.1,B.cell0 rfl,?_⟩;have I:=s.1.len;have E:=D _ (qh g);let d:Nat->Nat:=fun j=>(((L[i]).1.take j).filter fun c=>!Wl.kn kn c).length;refine au (fun j:Nat=>(((d j:Nat):Int),(j:Int))) (fun j h'=>h'=h3/\j<=(L[i]).1.length) (fun j=>(L[i]).1.length-j) 0 (by simp[d]) ⟨rfl,by omega⟩ ?_;rintro j V ⟨rfl,S⟩;dsimp only;have H:d j<=j:=zk (zc _ _) (by simp;omega);refine ai (fun G=>?_) (fun G=>?_)
 ·have f:j<(L[i]).1.length:=by omega
  have z:=O _ (qh g) _ (qh f);refine s.1.bt j rfl f _ rfl ?_;refine⟨p,rfl,k,q.box.cell rfl,?_⟩;refine q.known.bt (L[i]).1[j].toNat (by omega) (by omega) _ rfl ?_;rw[aj ((j:Int)+1),aj _];have o:=RO (kn:=kn) z.1 (by omega);refine be (fun m=>?_) (fun m=>?_)
  ·refine⟨j+1,?_,⟨rfl,by omega⟩,by omega⟩;have:d (j+1)=d j+1:=by simp only[d];rw[iX _ _ f,o,m];simp
   rw[this];rfl
  ·refine⟨j+1,?_,⟨rfl,by omega⟩,by omega⟩;have:d (j+1)=d j:=by simp only[d];rw[iX _ _ f,o,m];simp
   rw[this];rfl
 ·have w:j=(L[i]).1.length:=by omega
  subst w;have r:d (L[i]).1.length=((L[i]).1.filter fun c=>!Wl.kn kn c).length:=by simp only[d];rw[qX]
  rw[r];refine cz (fun m=>⟨⟨i,rfl,fun _=>⟨by omega,by exact_mod_cast m⟩⟩,.zip y⟩) (fun m=>?_);exact⟨i+1,by rw[aj _];rfl,⟨by omega,.zip y⟩,by omega⟩
theorem NV(p:Addr)(l k v:Sl)(L:List eI)(kn:List Bool)(vs:aQ)(n w:Nat)(x:Sl×Sl)(e:eI)(h:Heap)(hP:xI h p l k v L kn vs)(K:jh n w L kn vs)(U:fg iK h x e)(F:ib n w e)(hw:w<=2^20)(ap:e.1.length<=2^20):
  ab xv 196 #[xm (some p),xp #[x.1,x.2]] h fun r h'=>∃a b:Sl,r=xp #[a,b]/\Sp h h' [an 3 a 1 aC (eK kn vs e).1,an 5 b 1 az (eK kn vs e).2]:=by
 refine Dh (some p) x ?_;unfold sj;refine(Sp.refl h).boxed fun X h1 H1=>?_;refine H1.alloc ac rfl fun V h2 Q=>?_;have P2:=Q.ag;refine⟨x.2,(Q.box 0 rfl).cell rfl,(fm x.2 e.2 h2 (Seq.up U.2 P2) (by have:=F.len;omega)).mono ?_⟩;rintro vv h3 ⟨d,rfl,R3⟩;have H3:=Q.comp R3;refine⟨d,rfl,H3.alloc ac rfl fun a5 h4 H4=>?_⟩;refine H4.storeAll ac 3 rfl rfl (qv (⟨none,0,0⟩,d)) rfl rfl rfl rfl fun h5 H5=>?_;have H6:Sp h h5 [ar X 183 (qv x),ar V 183 [xl none 0 0,xl none 0 0],an 5 d 1 az e.2,ar a5 183 (qv (⟨none,0,0⟩,d)),an 3 ⟨none,0,0⟩ 1 aC []]:=H5.nil 3 1 aC;refine⟨x.1,(H6.box 0 rfl).cell0 rfl,?_⟩;have ax:=U.1.len;have ay:=K.klen;have a0:=K.vlen;refine au (fun t:Nat×Sl=>(t.1:Int)) (fun t h'=>t.1<=e.1.length/\Sp h h' [ar X 183 (qv x),ar V 183 [xl none 0 0,xl none 0 0],an 5 d 1 az (cx vs e.2 ((e.1.take t.1).filter fun c=>Wl.kn kn c)),ar a5 183 (qv (t.2,d)),an 3 t.2 1 aC ((e.1.take t.1).filter fun c=>!Wl.kn kn c)]) (fun t=>e.1.length-t.1) (0,⟨none,0,0⟩) rfl ⟨by simp,by simpa[cx]using H6⟩ ?_;rintro⟨j,o⟩ h7 ⟨hj,q⟩;dsimp only at*;have u:(cx vs e.2 ((e.1.take j).filter fun c=>Wl.kn kn c)).length=w:=jg F.len fun c hc=>by
  have E:=qJ.1 hc;have J:=zP E.1;exact K.Fp (F.cC c J).1 (F.cC c J).2 E.2
 have ad:((e.1.take j).filter fun c=>!Wl.kn kn c).length<=j:=zk (zc _ _) (by simp;omega);refine ai (fun e2=>?_) (fun e2=>?_)
 ·have f:j<e.1.length:=by omega
  have s:=F.cC _ (qh f);have z:=hP.up q.ag;refine(Seq.up U.1 q.ag).bt j rfl f _ rfl ?_;refine⟨p,rfl,k,z.box.cell rfl,?_⟩;refine z.known.bt (e.1[j]).toNat (by omega) (by omega) _ rfl ?_;have G:=RO (kn:=kn) s.1 (by omega);refine be (fun B=>?_) (fun B=>?_)
  ·rw[<-G]at B;refine⟨o,(q.box 3 rfl).cell0 rfl,?_⟩;refine q.push ac 4 rfl lE rfl (by decide) (fun _=>rfl) gJ e.1[j] rfl (by decide) (by omega) fun o' h8 i=>?_;refine i.ja ac 3 rfl rfl [o'] rfl rfl rfl (by simp[qv]) fun h9 N=>?_;refine⟨(j+1,o'),by dsimp only;rw[aj _];rfl,⟨by dsimp only;omega,?_⟩,by dsimp only;omega⟩;dsimp only;rw[iX _ _ f,iX _ _ f,B];simp only[Bool.not_false,if_true,zf,if_false,qU];exact N
  ·rw[<-G]at B;have H:=K.Fp s.1 s.2 B;rw[lB (by omega)]at H;refine⟨p,rfl,v,z.box.cell rfl,?_⟩;obtain⟨vr,T,am,O⟩:=cg.nC hP.vals;have g:(e.1[j]).toNat<vs.length:=by omega
   refine(Seq.up T q.ag).nM (e.1[j]).toNat (by omega) (by omega) ?_;have M:=(O (e.1[j]).toNat (by omega) g).1;have I:=M.len;generalize vr[(e.1[j]).toNat]'(by omega)=y at M I⊢;obtain⟨A,Z⟩:∃A,A=vs[(e.1[j]).toNat]'g:=⟨_,rfl⟩
   obtain⟨D,Y⟩:∃D,D=cx vs e.2 ((e.1.take j).filter fun c=>Wl.kn kn c):=⟨_,rfl⟩
   rw[<-Z]at H M I;rw[<-Y]at q u;refine au (fun m:Nat=>(m:Int)) (fun m h'=>m<=w/\Sp h h' [ar X 183 (qv x),ar V 183 [xl none 0 0,xl none 0 0],an 5 d 1 az (zm (fun x y=>y^^^x) (A.take m) (D.take m)++D.drop m),ar a5 183 (qv (o,d)),an 3 o 1 aC ((e.1.take j).filter fun c=>!Wl.kn kn c)]) (fun m=>w-m) 0 rfl ⟨by omega,by simpa using q⟩ ?_;rintro m h8 ⟨hm,i⟩;have R:(zm (fun x y=>y^^^x) (A.take m) (D.take m)).length=m:=by simp;omega
   refine ai (fun e4=>?_) (fun e4=>?_)
   ·have ah:m<w:=by omega
    refine(Seq.up M i.ag).bt m rfl (by omega) _ rfl ?_;refine⟨d,(i.box 3 rfl).cell rfl,?_⟩;refine(i.seq 2 rfl (fun _=>rfl)).bt m rfl (by simp;omega) _ rfl ?_;have S:((zm (fun x y=>y^^^x) (A.take m) (D.take m)++D.drop m)[m]'(by simp;omega))=D[m]'(by omega):=by
     rw[wo (by omega)];simp[R]
    rw[S,ny];refine i.set ac 2 rfl (fun _=>rfl) rfl m rfl (by simp;omega) (D[m]'(by omega)^^^A[m]'(by omega)) rfl rfl rfl fun h9 N=>?_;rw[GG (by omega)]at N;exact⟨m+1,by rw[aj _];rfl,⟨by omega,N⟩,by omega⟩
   ·have W:m=w:=by omega
    subst W;refine⟨(j+1,o),by dsimp only;rw[aj _];rfl,⟨by dsimp only;omega,?_⟩,by dsimp only;omega⟩;dsimp only;rw[iX _ _ f,iX _ _ f,B];simp only[Bool.not_true,if_true,zf,if_false,qU];rw[sF,lB g,<-Z,<-Y,UE];rw[qi (by omega),qi (by omega),zh (by omega),qU]at i;exact i
 ·have P:j=e.1.length:=by omega
  subst P;rw[qX]at q;refine⟨(o,d),(q.box 3 rfl).aF _ rfl,?_⟩;refine q.storeAll ac 1 rfl rfl (qv (o,d)) rfl rfl rfl rfl fun h8 i=>?_;refine⟨(o,d),(i.box 1 rfl).aF _ rfl,o,d,rfl,?_⟩;exact i.cj [4,2]
theorem aa.aga{B:aA}{c h:Heap}{As:List HP}{e k:Nat}{α:Type}{f:α->aV}{s:Sl}{l:List α}(H:aa B c h As)(i:Nat)(j:As[i]?=some (an e s k f l))(g:∀x,(f x).length=k)(d:l≠[]):aa B c h (As.set i (EA (sK k f) s l)):=
 H.ga i j fun q ⟨a,b⟩=>⟨a.seq g b,fun m=>absurd m d⟩
theorem count_set{l:List Bool}:∀{i:Nat} (h:i<l.length),l[i]=false->((l.set i true).count false)+1=l.count false:=by
 induction l with
 |nil=>intro i h;simp at h
 |cons a l ih=>
  intro i h b;cases i with
  |zero=>simp at b;subst b;simp
  |succ i=>
   have:=ih (i:=i) (by simpa using h) (by simpa using b);rw[List.set_cons_succ,List.count_cons,List.count_cons];omega
theorem Zt(p:Addr)(l k v:Sl)(L:List eI)(n w:Nat)(s h:Heap)(hE:fg pE s l L)(D:∀e∈L,ib n w e)(hn:n<=64)(Z:L.length<=2^20)(R:1<=w/\w<=2^20)(o:∀e∈L,e.1.length<=2^20)
  (H:Sp s h [ar p 262 [l,k,v],an 4 k 1 ee (qg n false),dK 23 v 1 bD (sK 1 az) (qg n [])]):
  ab xv 195 #[xm (some p)] h fun r h'=>r=.tuple #[]/\∃kn vs,jh n w L kn vs/\Sp s h' [ar p 262 [l,k,v],an 4 k 1 ee kn,dK 23 v 1 bD (sK 1 az) vs]:=by
 refine EB (some p) ?_;unfold tt;refine au (fun _:List Bool×aQ=>()) (fun t h'=>jh n w L t.1 t.2/\Sp s h' [ar p 262 [l,k,v],an 4 k 1 ee t.1,dK 23 v 1 bD (sK 1 az) t.2]) (fun t=>t.1.count false) (qg n false,qg n []) rfl ⟨VB n w L,H⟩ ?_;rintro⟨kn,vs⟩ J ⟨j,O⟩;dsimp only at*;have G:=j.klen;have Y:=j.vlen;have mk:∀{u},Sp s u [ar p 262 [l,k,v],an 4 k 1 ee kn,dK 23 v 1 bD (sK 1 az) vs]->xI u p l k v L kn vs:=fun f=>
  ⟨f.box 0 rfl,fg.up hE f.ag,f.seq 1 rfl fun _=>rfl,f.MS 2 rfl fun _=>rfl⟩
 refine(RP p l k v L kn vs n J (mk O) G (fun e K=>(D e K).cC) (by omega) (fun e K=>by have:=o e K;omega)).mono ?_;rintro _ u ⟨⟨i,rfl,V⟩,U⟩;refine⟨i,rfl,?_⟩;have f:=O.up U.ag;refine ai (fun e=>⟨rfl,kn,vs,j,f⟩) (fun e=>?_);have N:0<=i:=Int.not_lt.1 e;obtain⟨A,q⟩:=V N;have m:=mk f;refine⟨p,rfl,l,m.box.cell0 rfl,?_⟩;refine pE.get m.eqs i.toNat (by omega) A fun x W=>?_;have d:=qh A;refine(NV p l k v L kn vs n w x L[i.toNat] u m j W (D _ d) R.2 (o _ d)).mono ?_;rintro _ h3 ⟨a,b,rfl,R3⟩;refine⟨(a,b),rfl,?_⟩;obtain⟨c,E⟩:∃c,(eK kn vs L[i.toNat]).1=[c]:=by
  have J:(eK kn vs L[i.toNat]).1.length=1:=q
  match u:(eK kn vs L[i.toNat]).1,J with
  |[c],_=>exact⟨c,rfl⟩
 have z:=j.Bx (D _ d);have I:=z.cC c (by rw[E];simp);have B:Wl.kn kn c=false:=Fq j L[i.toNat] c (by rw[E];simp);rw[RO I.1 (by omega)]at B;have P:=f.comp R3;rw[E]at P;refine P.alloc ac rfl fun a8 h4 S=>?_;refine S.storeAll ac 5 rfl rfl (qv (a,b)) rfl rfl rfl rfl fun h5 g=>?_;refine⟨p,rfl,k,(g.box 0 rfl).cell rfl,a,(g.box 5 rfl).cell0 rfl,?_⟩;have y:=g.seq 3 rfl fun _=>rfl;refine y.bt 0 rfl (by simp) c rfl ?_;refine⟨p,rfl,v,(g.box 0 rfl).cell rfl,a,(g.box 5 rfl).cell0 rfl,?_⟩;refine y.bt 0 rfl (by simp) c rfl ?_;refine⟨b,(g.box 5 rfl).cell rfl,?_⟩;refine g.set ac 1 rfl (fun _=>rfl) rfl c.toNat (by omega) (by omega) true rfl rfl rfl fun h6 F=>?_;refine⟨⟨(F.box 5 rfl).cell rfl,(F.box 5 rfl).cell0 rfl,trivial⟩,?_⟩;have M:(eK kn vs L[i.toNat]).2≠[]:=fun X=>by have:=z.len;rw[X]at this;simp at this;omega
 have Q:=aa.aga F 4 rfl (fun _=>rfl) M;refine Q.afS ac 2 4 (by decide) rfl rfl (fun _=>rfl) rfl c.toNat (by omega) (by omega) rfl rfl rfl fun h8 T=>⟨trivial,?_⟩
 refine⟨(kn.set c.toNat true,vs.set c.toNat (eK kn vs L[i.toNat]).2),rfl,⟨XX j D d E,T.cj [0,1,2]⟩,?_⟩;have:=count_set (l:=kn) (i:=c.toNat) (by omega) B;dsimp only;omega
theorem TL(s:Sl)(l:Row)(h:Heap)(b:Rd h s 1 az l)(c:s.len<=s.cap)(a:l.length<=2^30):
  ab xv 197 #[s] h fun v h'=>v=xo (!(l.any (· !=0)))/\h'=h:=by
 refine Kr s ?_;unfold Ed;refine(NU s l _ rfl h b c a).mono ?_;rintro _ e ⟨⟨r,rfl,d⟩,rfl⟩;refine⟨r,rfl,?_,rfl⟩;congr 1;rw[y9];simp only[beq_iff_eq,Bool.not_eq_true',List.any_eq_false,bne_iff_ne,ne_eq,Decidable.not_not];rw[<-d];omega
def Mx(l:aB):Prop:=∀i (h:i+1<l.length),l[i]<l[i+1]
theorem ON(n:Nat)(l:Sl)(L:List eI)(w:Nat)(h:Heap)(A:fg pE h l L)(B:∀e∈L,ib n w e/\Mx e.1)(hn:n<=64)(V:L.length<=2^20)(z:∀e∈L,e.1.length<=2^20):
  ab xv 194 #[xk xq n,l] h fun v h'=>v=xo true/\Sp h h' []:=by
 refine LZ _ l ?_;unfold FP;have T:=cg.len A;refine aT (ai (fun e=>by omega) fun _=>ai (fun e=>by omega) fun _=>?_);refine au (fun i:Nat=>(i:Int)) (fun i h'=>i<=L.length/\Sp h h' []) (fun i=>L.length-i) 0 rfl ⟨by omega,Sp.refl h⟩ ?_;rintro i R ⟨hi,u⟩;refine ai (fun e=>?_) (fun e=>⟨rfl,u⟩);have f:i<L.length:=by omega
 refine pE.get (fg.up A u.ag) i rfl f fun x S=>?_;refine(Sp.refl R).alloc ac rfl fun a h2 Z=>?_;refine Z.storeAll ac 0 rfl rfl (qv x) rfl rfl rfl rfl fun h3 p=>?_;have E:=up u.ag p.ag;have c:=iK.mono (iK.loc S p.ag) fun b I=>qL I p.ag.1;have d:=p.box 0 rfl;refine⟨x.1,d.cell0 rfl,?_⟩;have N:=c.1.len;have F:=z _ (qh f);obtain⟨m,s⟩:=B _ (qh f);refine au (fun j:Nat=>(j:Int)) (fun j h'=>h'=h3/\j<=(L[i]).1.length) (fun j=>(L[i]).1.length-j) 0 rfl ⟨rfl,by omega⟩ ?_;rintro j H ⟨rfl,hj⟩;refine ai (fun J=>?_) (fun J=>?_)
 ·have k:j<(L[i]).1.length:=by omega
  have O:=m.cC _ (qh k);refine c.1.bt j rfl k _ rfl ?_;refine ai (fun e=>by omega) fun _=>ai (fun e=>by omega) fun _=>?_;have D:∃t:Nat,qc xq ((j:Int)+1)=(t:Int)/\(H=H/\t<=(L[i]).1.length)/\(L[i]).1.length-t<(L[i]).1.length-j:=⟨j+1,by rw[aj _];rfl,⟨rfl,by omega⟩,by omega⟩
  refine ai (fun P=>?_) (fun P=>D);refine⟨x.1,d.cell0 rfl,?_⟩;rw[aj ((j:Int)-1)];refine c.1.bt (j-1) (by omega) (by omega) _ rfl ?_;have G:=s (j-1) (by omega);have M:(L[i]).1[j-1+1]'(by omega)=(L[i]).1[j]:=by congr 1;omega
  rw[M]at G;exact ai (fun e=>absurd G (by omega)) fun _=>D
 ·refine⟨x.2,d.cell rfl,?_⟩;obtain⟨rs,Y,h8,W⟩:=cg.nC (fg.up A E);have q:=(W 0 (by omega) (by omega)).2.len;obtain⟨r,U,y,Q,X⟩:=Y.ea (g:=qv) (i:=(0:Int)) 0 rfl (by omega) (rs[0]'(by omega)) rfl (K:=fun y=>y.2.len=w) (by rw[q];exact(B _ (qh (show 0<L.length by omega))).1.len);refine⟨r,U,y.2,?_,?_⟩
  ·exact Q.2.1
  have o:=c.2.len;rw[m.len]at o;refine bV (fun e=>absurd (by rw[o,X]) e) fun _=>?_;exact⟨i+1,by rw[aj _];rfl,⟨by omega,.zip E⟩,by omega⟩
theorem aa.Zu{B:aA}{m h:Heap}{As:List HP}{e k:Nat}{α β:Type}{E:iO α β}{f:α->aV}{s:Sl}{n:Nat}{a:α}{b:β}(H:aa B m h As)(i:Nat)(t:As[i]?=some (an e s k f (qg n a)))(v:∀h,E.p h (fun _=>False) a b):aa B m h (As.set i (dK e s k f E (qg n b))):=
 H.ga i t fun q ⟨x,y⟩=>⟨_,fun _=>False,x,fun c u=>⟨y c u,fun h=>h⟩,fun _ h=>h.elim,by simp,fun j r l d g=>by
  rw[zT]at d g;split at d
  ·rename_i o;rw[if_pos o]at g;cases d;cases g;exact v h
  ·cases d⟩
theorem aa.agb{B:aA}{f h:Heap}{As:List HP}{e m:Nat}{a b:Sl}{l:aB}{r:Row}(H:aa B f h As)(i j:Nat)(c:i≠j)(o:As[i]?=some (an e a 1 aC l))(n:As[j]?=some (an m b 1 az r)):aa B f h ((As.set i (EA iK (a,b) (l,r))).set j emp):=
 H.merge i j c o n fun q p _ k g=>⟨k.1.seq (fun _=>rfl) fun x d=>.inl (k.2 x d),g.1.seq (fun _=>rfl) fun x d=>.inr (g.2 x d)⟩
theorem Zv(kn:List Bool)(vs:aQ)(L:List eI){i:Nat}(a:i<L.length):aZ kn vs (L.take (i+1))=if(eK kn vs L[i]).1.isEmpty then aZ kn vs (L.take i)else aZ kn vs (L.take i)++[eK kn vs L[i]]:=by
 unfold aZ;rw[aH _ _ a,qW,zg];cases h:(eK kn vs L[i]).1.isEmpty<;>simp[h]
theorem WJ(kn:List Bool)(vs:aQ)(L:List eI){i:Nat}(a:i<L.length):jC kn vs (L.take (i+1))=(jC kn vs (L.take i)||((eK kn vs L[i]).1.isEmpty&&(eK kn vs L[i]).2.any (· !=0))):=by
 unfold jC;rw[aH _ _ a,qW,y7];simp
theorem WK{kn:List Bool}{vs:aQ}{L:List eI}{i:Nat}(h:jC kn vs (L.take i)=true):jC kn vs L=true:=by
 rw[<-qx i L];unfold jC at*;rw[qW,y7,h];rfl
theorem Zw(l:Sl)(L:List eI)(n w:Nat)(h:Heap)(I:fg pE h l L)(hL:∀e∈L,ib n w e/\Mx e.1)(hn:n<=64)(F:L.length<=2^20)(hw:1<=w/\w<=2^20)(z:∀e∈L,e.1.length<=2^20):
  ab xv 122 #[xk xq n,l] h fun r h'=>∃kn vs,jh n w L kn vs/\((jC kn vs L=true/\r=.tuple #[xl none 0 0,xl none 0 0,xl none 0 0,xk xq 10]/\Sp h h' [])∨
   (jC kn vs L=false/\∃k v s:Sl,r=.tuple #[k,v,s,xk xq 0]/\Sp h h' [an 4 k 1 ee kn,dK 23 v 1 bD (sK 1 az) vs,dK 183 s 2 qv iK (aZ kn vs L)])):=by
 refine Ow _ l ?_;unfold HT;have ah:=cg.len I;refine(ON n l L w h I hL hn F z).mono ?_;rintro _ h1 ⟨rfl,R1⟩;refine⟨true,rfl,be (fun e=>by cases e) fun _=>?_⟩;refine bO (fun s h'=>∃(p:Addr) (k v:Sl),s=some p/\Sp h h' [ar p 262 [l,k,v],an 4 k 1 ee (qg n false),dK 23 v 1 bD (sK 1 az) (qg n [])]) ⟨?_,?_⟩ ?_
 ·refine R1.make ac ee acN (by decide) false rfl rfl n n rfl rfl (ql _) (by omega) fun k h2 X R P=>⟨trivial,?_⟩
  refine P.make ac bD Zs (by decide) ⟨none,0,0⟩ rfl rfl n n rfl rfl (ql _) (by omega) fun v h3 Y U S=>⟨trivial,?_⟩
  refine S.boxed fun p K D=>⟨trivial,p,k,v,rfl,?_⟩
  exact(aa.Zu (E:=sK 1 az) (b:=[]) D 1 rfl fun h=>⟨Seq.nil _ _ _ _ _ _,fun _=>rfl⟩).cj [2,0,1]
 ·refine R1.make ac bD Zs (by decide) ⟨none,0,0⟩ rfl rfl n n rfl rfl (ql _) (by omega) fun v h3 Y U S=>⟨trivial,?_⟩
  refine S.make ac ee acN (by decide) false rfl rfl n n rfl rfl (ql _) (by omega) fun k h2 X R P=>⟨trivial,?_⟩
  refine P.boxed fun p K D=>⟨trivial,p,k,v,rfl,?_⟩
  exact(aa.Zu (E:=sK 1 az) (b:=[]) D 0 rfl fun h=>⟨Seq.nil _ _ _ _ _ _,fun _=>rfl⟩).cj [2,1,0]
 rintro s K ⟨p,k,v,rfl,D⟩;refine(Zt p l k v L n w h K I (fun e he=>(hL e he).1) hn F hw z D).mono ?_;rintro _ h5 ⟨rfl,kn,vs,J,H5⟩;refine⟨(),rfl,?_⟩;refine au (fun t:Nat×Sl=>(t.2,(t.1:Int))) (fun t h'=>t.1<=L.length/\jC kn vs (L.take t.1)=false/\Sp h h' [ar p 262 [l,k,v],an 4 k 1 ee kn,dK 23 v 1 bD (sK 1 az) vs,dK 183 t.2 2 qv iK (aZ kn vs (L.take t.1))]) (fun t=>L.length-t.1) (0,⟨none,0,0⟩) rfl ⟨by simp,rfl,H5.Vd 183 2 qv iK⟩ ?_;rintro⟨i,o⟩ h6 ⟨hi,q,B⟩;dsimp only at*;refine ai (fun e=>?_) (fun e=>?_)
 ·have m:i<L.length:=by omega
  obtain⟨rs,q1,q2,q3⟩:=cg.nC I;have hx:=q3 i (by omega) m;refine(Seq.up q1 B.ag).ea (g:=qv) i rfl (by omega) (rs[i]'(by omega)) rfl ?_;generalize rs[i]'(by omega)=x at hx⊢;refine B.alloc ac rfl fun a h7 H7=>?_;refine H7.storeAll ac 4 rfl rfl (qv x) rfl rfl rfl rfl fun h8 A=>?_;refine⟨x,(A.box 4 rfl).aF _ rfl,?_⟩;have ad:xI h8 p l k v L kn vs:=⟨A.box 0 rfl,fg.up I A.ag,A.seq 1 rfl fun _=>rfl,A.MS 2 rfl fun _=>rfl⟩
  obtain⟨H,-⟩:=hL _ (qh m);have O:fg iK h8 x L[i]:=fg.up hx A.ag;refine(NV p l k v L kn vs n w x L[i] h8 ad J O H hw.2 (z _ (qh m))).mono ?_;rintro _ h9 ⟨c,d,rfl,R9⟩;refine⟨(c,d),rfl,?_⟩;have H9:=A.comp R9;refine H9.alloc ac rfl fun a2 am W=>?_;refine W.storeAll ac 7 rfl rfl (qv (c,d)) rfl rfl rfl rfl fun Z f=>?_;refine⟨c,(f.box 7 rfl).cell0 rfl,?_⟩;have u:=(f.own 5 rfl).len;have ay:(aZ kn vs (L.take i)).length<=L.length:=by
   unfold aZ;refine zk (zc _ _) ?_;simp;omega
  have y:=Zv kn vs L m;have j:=WJ kn vs L m;refine ai (fun e2=>?_) (fun e2=>?_)
  ·have Q:(eK kn vs L[i]).1.isEmpty=false:=by
    cases hh:(eK kn vs L[i]).1 with
    |nil=>rw[hh]at u;simp at u;omega
    |cons a l=>rfl
   rw[Q]at y j;refine⟨(c,d),(f.box 7 rfl).aF _ rfl,?_⟩;have N:=aa.agb f 5 6 (by decide) rfl rfl;refine N.JC ac 3 5 (by decide) rfl rfl eQ rfl (by decide) (fun _=>rfl) Zr rfl (by decide) (by omega) fun o' ap T=>?_;refine⟨(i+1,o'),by dsimp only;rw[aj _];rfl,⟨by dsimp only;omega,by dsimp only;rw[j,q];rfl,?_⟩,by dsimp only;omega⟩;dsimp only;rw[y];exact T.cj [0,1,2,3]
  ·have V:(eK kn vs L[i]).1.isEmpty=true:=by
    cases hh:(eK kn vs L[i]).1 with
    |nil=>rfl
    |cons a l=>rw[hh]at u;simp at u;omega
   rw[V]at y j;refine⟨d,(f.box 7 rfl).cell rfl,?_⟩;refine(TL d _ Z (f.seq 6 rfl fun _=>rfl) (f.own 6 rfl).cap (by have:=(J.Bx H).len;omega)).mono ?_;rintro _ ax ⟨rfl,rfl⟩;refine⟨_,rfl,be (fun G=>?_) (fun G=>?_)⟩
   ·refine⟨kn,vs,J,.inl ⟨WK (i:=i+1) ?_,rfl,f.cj []⟩⟩;rw[j];simp at G;simp[G]
   ·refine⟨(i+1,o),by dsimp only;rw[aj _];rfl,⟨by dsimp only;omega,?_,?_⟩,by dsimp only;omega⟩
    ·dsimp only;rw[j,q];simp at G;simp;exact G
    ·dsimp only;rw[y];exact f.cj [0,1,2,3]
 ·have M:i=L.length:=by omega
  subst M;rw[qX]at B q;refine⟨p,rfl,k,(B.box 0 rfl).cell rfl,p,rfl,v,(B.box 0 rfl).cell rfl,kn,vs,J,.inr ⟨q,k,v,o,rfl,B.cj [1,2,3]⟩⟩
def ke(pool:List (Sl×Row)):HP:=⟨fun h q=>∀x∈pool,Seq h q x.1 1 az x.2,fun a c x b=>(a x b).ag c,fun a d x b=>(a x b).mono d⟩
theorem _root_.Go.Vc.aa.pool{B:aA}{c h:Heap}{As:List HP}(H:aa B c h As)(i j:Nat)(a:i≠j){pool:List (Sl×Row)}{r:Sl}{l:Row}(e:As[i]?=some (ke pool))(d:As[j]?=some (nL r 1 az l)):aa B c h ((As.set i (ke ((r,l)::pool))).set j emp):=
 H.merge i j a e d fun m k _ g f x b=>by
  rcases q8.1 b with rfl|b
  ·exact Seq.mono f fun _ h=>.inr h
  ·exact(g x b).mono fun _ h=>.inl h
theorem _root_.Go.Vc.aa.KY{B:aA}{c h:Heap}{As:List HP}(H:aa B c h As)(i:Nat){pool:List (Sl×Row)}(b:As[i]?=some (ke pool)){r:Sl}{l:Row}(a:(r,l)∈pool):Rd h r 1 az l:=(H.at i b) _ a
theorem _root_.Go.Vc.aa.abB{B:aA}{f h:Heap}{As:List HP}(H:aa B f h As)(i j:Nat)(c:i≠j){pool:List (Sl×Row)}{s:Sl}{rs:List Sl}{a:aQ}(n:As[i]?=some (an 23 s 1 bD rs))(m:As[j]?=some (ke pool))
  (g:rs.length=a.length) (t:∀(k:Nat) r l,rs[k]?=some r->a[k]?=some l->(r,l)∈pool):aa B f h ((As.set i (dJ 23 s 1 az a)).set j emp):=
 H.merge i j c n m fun w p v d u=>⟨rs,p,d.1,fun b e=>⟨.inl (d.2 b e),v b (d.2 b e)⟩,fun _ h=>.inr h,g,fun k r l o q=>u _ (t k r l o q)⟩
def fb(pool:List (Sl×Row))(g:Row->Row)(rs:List Sl)(m:aQ):Prop:=rs.length=m.length/\∀(i:Nat) r l,rs[i]?=some r->m[i]?=some l->(r,g l)∈pool
theorem fb.get{pool:List (Sl×Row)}{g:Row->Row}{rs:List Sl}{m:aQ}(h:fb pool g rs m){i:Nat}(a:i<m.length):(rs[i]'(by rw[h.1];exact a),g m[i])∈pool:=
 h.2 i _ _ (qd _) (qd _)
theorem fb.mono{pool a:List (Sl×Row)}{g:Row->Row}{rs:List Sl}{m:aQ}(h:fb pool g rs m)(c:∀x∈pool,x∈a):fb a g rs m:=⟨h.1,fun i r l d b=>c _ (h.2 i r l d b)⟩
theorem fb.set{pool:List (Sl×Row)}{g:Row->Row}{rs:List Sl}{m:aQ}(h:fb pool g rs m)(i:Nat){r:Sl}{l:Row}(j:(r,g l)∈pool):fb pool g (rs.set i r) (m.set i l):=by
 refine⟨by simp[h.1],fun k f e a b=>?_⟩;rw[List.getElem?_set]at a b;by_cases c:i=k
 ·subst c;rw[if_pos rfl]at a b;split at a
  ·rename_i d;rw[if_pos (by rw[<-h.1];exact d)]at b;cases a;cases b;exact j
  ·cases a
 ·rw[if_neg c]at a b;exact h.2 k f e a b
theorem fb.snoc{pool:List (Sl×Row)}{g:Row->Row}{rs:List Sl}{m:aQ}(h:fb pool g rs m){r:Sl}{l:Row}(f:(r,g l)∈pool):fb pool g (rs++[r]) (m++[l]):=by
 refine⟨by simp[h.1],fun k e d b a=>?_⟩;by_cases c:k<rs.length
 ·rw[qm c]at b;rw[qm (by rw[<-h.1];exact c)]at a;exact h.2 k e d b a
 ·have:k=rs.length:=by
   have:=(List.getElem?_eq_some_iff.1 b).1;simp at this;omega
  subst this;simp at b;rw[h.1]at a;simp at a;subst b;subst a;exact f
theorem fb.nil(pool:List (Sl×Row))(g:Row->Row):fb pool g [] []:=⟨rfl,fun i r l h=>by simp at h⟩
theorem _root_.Go.Vc.aa.Dy{B:aA}{g h:Heap}{As:List HP}(H:aa B g h As)(i j:Nat){pool:List (Sl×Row)}{e:Nat}{s:Sl}{rs:List Sl}{a:aQ}(f:As[i]?=some (an e s 1 bD rs))(d:As[j]?=some (ke pool))
  (c:fb pool id rs a):gc h (fun b=>b<h.size) s 1 az a rs:=⟨H.seq i f fun _=>rfl,c.1,fun k r l m n=>H.KY j d (c.2 k r l m n)⟩
theorem GH{B:aA}{r h:Heap}{As:List HP}(s f:Addr)(t:UInt8)(g a:Sl)(b c:Row)(H:aa B r h (an 5 a 1 az c::As))(G:St B r As fun h=>cellOf h s=some (xm (some f))/\gp h f/\Rd h g 1 az b)
  (J:b.length=c.length) (T:b.length<=2^30) {K:Heap->Prop} (S:∀h',aa B r h' (an 5 a 1 az (ck t b c)::As)->K h'):
  aG (σ:=Int) (fun d Q i=>
 Br (decide (d<((g.len:Nat):Int)))
 (∃E:Addr,(g.ptr=some E/\0<=d/\d<((g.len:Nat):Int))/\
 ∃I:Int,cellOf i (E.add (d.toNat*1))=some (xk xr I)/\
 ∃D:Addr,(a.ptr=some D/\0<=d/\d<((a.len:Nat):Int))/\
 ∃u:Int,cellOf i (D.add (d.toNat*1))=some (xk xr u)/\
 ∃l:Addr,(some s=some l)/\
 ∃q:aP,cellOf i l=some (.pointer q)/\
 af xv 141 #[(.pointer q),(xk xr (t.toNat:Int)),(xk xr I)] (.one (.sc (.int .u8))) i fun A z=>
 (aq.ok [(D.add (d.toNat*1),(xk xr u))] z)/\
 ∃n:Addr,(a.ptr=some n/\0<=d/\d<((a.len:Nat):Int))/\
 ae xv (qf 5 (xm (some (n.add (d.toNat*1)))) (xk xr (qc xr ((qu (qk xr) u^^^(qu (qk xr) A)).toNat:Nat)))) z fun _ h3=>
 (aq.ok [] h3)/\
 Q (qc xq (d+(1:Int))) h3) (K i)) (0:Int) h:=by
 have R:g.len=b.length:=(G.at [an 5 a 1 az c] H).2.2.len;refine au (fun k:Nat=>(k:Int)) (fun k h'=>k<=b.length/\aa B r h' (an 5 a 1 az (zm (fun x y=>y^^^Gf.mul t x) (b.take k) (c.take k)++c.drop k)::As)) (fun k=>b.length-k) 0 rfl ⟨by omega,by simpa using H⟩ ?_;rintro k i ⟨M,m⟩;obtain⟨N,L,P⟩:=G.at [_] m;refine ai (fun e=>?_) (fun e=>?_)
 ·have w:k<b.length:=by omega
  have j:(zm (fun x y=>y^^^Gf.mul t x) (b.take k) (c.take k)).length=k:=by simp;omega
  have O:(zm (fun x y=>y^^^Gf.mul t x) (b.take k) (c.take k)++c.drop k).length=c.length:=by rw[List.length_append,j,qZ];omega
  refine P.bt k rfl w _ rfl ?_;have p:(zm (fun x y=>y^^^Gf.mul t x) (b.take k) (c.take k)++c.drop k)[k]'(by omega)=c[k]:=by
   rw[wo (by omega)];simp[j]
  refine(m.seq 0 rfl fun _=>rfl).JB k rfl (by omega) _ rfl fun ax o=>?_;rw[p]at o⊢;refine⟨s,rfl,some f,N,(Jk f t b[k] i L).mono ?_⟩;rintro v z ⟨rfl,rfl⟩;refine⟨_,rfl,⟨o,trivial⟩,?_⟩;rw[ny];refine m.set ac 0 rfl (fun _=>rfl) rfl k rfl (by omega) _ rfl rfl rfl fun h3 F=>⟨trivial,?_⟩
  rw[zu,xy J (by omega)]at F;exact⟨k+1,by rw[aj _];rfl,⟨by omega,F⟩,by omega⟩
 ·have:k=b.length:=by omega
  subst this;rw[qi (ql _),qi (by omega),zh (by omega),qU]at m;exact S i m
def fP(f:Addr)(p:Int×Int×Int)(v r d c e b a:Sl):aV:=[xm (some f),xk xq p.1,xk xq p.2.1,xk xq p.2.2,v,r,d,c,e,b,a]
structure Cl (h:Heap) (s f:Addr) (wa mo:Sl) (wr mr:List Sl) (W M:aQ):Prop where
 fld:cellOf h s=some (xm (some f))
 way:cellOf h (s.add 9)=some (xl wa.ptr wa.len wa.cap)
 more:cellOf h (s.add 10)=some (xl mo.ptr mo.len mo.cap)
 field:gp h f
 rW:gc h (fun b=>b<h.size) wa 1 az W wr
 rM:gc h (fun b=>b<h.size) mo 1 az M mr
theorem Cl.of{h:Heap}{s f:Addr}{p:Int×Int×Int}{v r n i l a d:Sl}{e g:List Sl}{W M:aQ}(c:bZ h s 189 (fP f p v r n i l a d))(m:gp h f)(j:gc h (fun b=>b<h.size) a 1 az W e)(k:gc h (fun b=>b<h.size) d 1 az M g):Cl h s f a d e g W M:=
 ⟨c.cell0 rfl,c.cell rfl,c.cell rfl,m,j,k⟩
theorem GI{B:aA}{j h:Heap}{As:List HP}(s f:Addr)(t:UInt8)(c:Int)(b a l u:Sl)(w0 e:Row)(n p:List Sl)(W M:aQ)(H:aa B j h (an 5 b 1 az w0::an 5 a 1 az e::As))(i:St B j As fun h=>Cl h s f l u n p W M)
  (E:0<=c) (r:c.toNat<W.length) (o:c.toNat<M.length) (m:(av W c.toNat).length=w0.length) (y:(av M c.toNat).length=e.length) (D:w0.length<=2^30) (F:e.length<=2^30):
  ab xv 202 #[xm (some s),xk xr t.toNat,xk xq c,b,a] h fun v h'=>v=.tuple #[]/\aa B j h' (an 5 b 1 az (ck t (av W c.toNat) w0)::an 5 a 1 az (ck t (av M c.toNat) e)::As):=by
 refine BQ (some s) _ c b a ?_;unfold pP;have S:=i.at [_,_] H;refine⟨s,rfl,l,S.way,?_⟩;rw[lB r]at m⊢;rw[lB o]at y⊢;have q:=S.rW;have A:=q.len;refine q.top.nM c.toNat (by omega) (by omega) ?_;refine GH s f t (n[c.toNat]'(by omega)) b (W[c.toNat]) w0 H (St.mk' fun h' k=>?_) m (by omega) fun h3 g=>?_
 ·have d:=i.at [_] k;exact⟨d.fld,d.field,d.rW.row _ _ _ (qd _) (qd r)⟩
 have x:=i.at [_,_] g;refine⟨s,rfl,u,x.more,?_⟩;have w:=x.rM;have z:=w.len;refine w.top.nM c.toNat (by omega) (by omega) ?_;refine GH s f t (p[c.toNat]'(by omega)) a (M[c.toNat]) e g.uC (St.mk' fun h' k=>?_) y (by omega) fun h3 g=>⟨rfl,g.uC⟩
 ·have d:=i.at [_] k;exact⟨d.fld,d.field,d.rM.row _ _ _ (qd _) (qd o)⟩
def fc:aB->Bool
 |[]=>true
 |[_]=>true
 |a::b::r=>decide (a<b)&&fc (b::r)
theorem KZ:∀(l:aB) (a b:Int),fc (l++[a,b])=(fc (l++[a])&&decide (a<b))
 |[],a,b=>by simp[fc]
 |[c],a,b=>by simp[fc]
 |c::d::r,a,b=>by
  have:=KZ (d::r) a b;simp only[zA]at this⊢;simp only[fc,this,Bool.and_assoc]
theorem Zx{l r:aB}(h:fc l=false):fc (l++r)=false:=by
 induction l with
 |nil=>simp[fc]at h
 |cons a t ih=>
  cases t with
  |nil=>simp[fc]at h
  |cons b t=>
   simp only[fc,vd]at h;simp only[zA,fc,vd];rcases h with h|h
   ·exact .inl h
   ·exact .inr (ih h)
theorem abC(l:aB)(k:Nat)(h:k+1<l.length):l.take (k+2)=l.take k++[l[k],l[k+1]]:=by
 have b:l.take (k+2)=l.take (k+1)++[l[k+1]]:=aH l (k+1) h;have a:=aH l k;rw[b,a,qo];rfl
def fd(n:Int)(r:aB):Bool:=r.all (fun c=>decide (0<=c/\c<n))&&fc r
theorem Zy{n:Int}{l r:aB}(h:fd n l=false):fd n (l++r)=false:=by
 simp only[fd,vd]at*;rcases h with h|h
 ·left;rw[yL,h];rfl
 ·right;exact Zx h
theorem WL{n:Int}{r:aB}(h:0<r.length):fd n (r.take 1)=decide (0<=r[0]/\r[0]<n):=by
 cases r with
 |nil=>simp at h
 |cons a t=>simp[fd,fc]
theorem WM{n:Int}{r:aB}{k:Nat}(h:k+1<r.length):fd n (r.take (k+2))=(fd n (r.take (k+1))&&decide (0<=r[k+1]/\r[k+1]<n)&&decide (r[k]<r[k+1])):=by
 have b:r.take (k+2)=r.take (k+1)++[r[k+1]]:=aH r (k+1) h;have a:fc (r.take (k+2))=(fc (r.take (k+1))&&decide (r[k]<r[k+1])):=by
  rw[abC r k h,KZ,aH r k]
 simp only[fd,a];rw[b,yL];simp only[List.all_cons,List.all_nil,Bool.and_true]
 cases(r.take (k+1)).all fun c=>decide (0<=c/\c<n)<;>cases fc (r.take (k+1))<;>cases decide (0<=r[k+1]/\r[k+1]<n)<;>simp
theorem xJ{n:Int}{r:aB}{k:Nat}(h:fd n (r.take k)=false):fd n r=false:=by
 rw[<-qx k r];exact Zy h
theorem WN{n:Int}{r:aB}{k:Nat}(c:k<r.length)(h:fd n (r.take k)=true):
  (r[k]<0->fd n r=false)/\(n<=r[k]->fd n r=false)/\(∀(h0:0<k),r[k]<=r[k-1]->fd n r=false)/\
  (0<=r[k]->r[k]<n->(∀h0:0<k,r[k-1]<r[k])->fd n (r.take (k+1))=true):=by
 cases k with
 |zero=>
  have e:=WL (n:=n) c;refine⟨fun a=>xJ (k:=1) ?_,fun a=>xJ (k:=1) ?_,fun h0=>by omega,fun a b _=>?_⟩
  ·rw[e,decide_eq_false (by omega)]
  ·rw[e,decide_eq_false (by omega)]
  ·rw[e,decide_eq_true ⟨a,b⟩]
 |succ k=>
  have e:=WM (n:=n) c;refine⟨fun a=>xJ (k:=k+2) ?_,fun a=>xJ (k:=k+2) ?_,fun h0 a=>xJ (k:=k+2) ?_,fun a b h3=>?_⟩
  ·rw[e,decide_eq_false (p:=0<=r[k+1]/\r[k+1]<n) (by omega)];simp
  ·rw[e,decide_eq_false (p:=0<=r[k+1]/\r[k+1]<n) (by omega)];simp
  ·rw[e,decide_eq_false (p:=r[k]<r[k+1]) (by simpa using a)];simp
  ·have d:r[k]<r[k+1]:=by simpa using h3 (by omega)
   rw[e,h,decide_eq_true (p:=0<=r[k+1]/\r[k+1]<n) ⟨a,b⟩,decide_eq_true d];rfl
def iZ(n:Int)(a:dq):Bool:=decide (0<=n/\n<=64)&&a.all (fd n)
theorem abD{α:Type}{f:α->Bool}{l:List α}{k:Nat}(a:k<l.length)(h:(l.take k).all f=true):(l.take (k+1)).all f=f l[k]:=by
 rw[aH _ _ a,yL,h];simp
theorem afj{α:Type}{f:α->Bool}{l:List α}{k:Nat}(a:k<l.length)(h:f l[k]=false):l.all f=false:=by
 rw[List.all_eq_false];exact⟨l[k],qh a,by simp[h]⟩
theorem My{p:aA}(n:Int)(a:Sl)(b:dq)(rs:List Sl)(h:Heap)(z:gc h p a 1 aC b rs)(I:b.length<=2^40)(q:∀l∈b,l.length<=2^40):
  ab xv 272 #[xk xq n,a] h fun v h'=>v=xo (iZ n b)/\h'=h:=by
 refine Kz n a ?_;unfold Ek;have E:=z.Pv;refine bO (fun _ h'=>h'=h/\0<=n/\n<=64) ?_ ?_
 ·refine ai (fun j=>⟨?_,rfl⟩) (fun j=>ai (fun f=>⟨?_,rfl⟩) (fun f=>⟨rfl,by omega,by omega⟩))
  ·rw[iZ,decide_eq_false (by omega)];rfl
  ·rw[iZ,decide_eq_false (by omega)];rfl
 ·rintro _ h' ⟨rfl,m,w⟩;have x:iZ n b=b.all (fd n):=by rw[iZ,decide_eq_true ⟨m,w⟩];rfl
  refine au (fun k:Nat=>(k:Int)) (fun k h0=>h0=h'/\k<=b.length/\(b.take k).all (fd n)=true) (fun k=>b.length-k) 0 rfl ⟨rfl,by omega,by simp⟩ ?_;rintro i h0 ⟨rfl,H,c⟩;refine ai (fun o=>?_) (fun t=>?_)
  ·have e:i<b.length:=by omega
   refine z.get i rfl e fun r u _=>?_;have G:=u.len;have F:=q _ (qh e);have d:fd n b[i]=false->iZ n b=false:=fun B=>by rw[x];exact afj e B
   refine au (fun k:Nat=>(k:Int)) (fun k f=>f=h0/\k<=b[i].length/\fd n (b[i].take k)=true) (fun k=>b[i].length-k) 0 rfl ⟨rfl,by omega,by simp[fd,fc]⟩ ?_;rintro k f ⟨rfl,J,s⟩;refine ai (fun o=>?_) (fun t=>?_)
   ·have g:k<b[i].length:=by omega
    obtain⟨n1,n2,D,y⟩:=WN g s;refine u.bt k rfl g _ rfl ?_;refine ai (fun j=>⟨by rw[d (n1 j)],rfl⟩) (fun j=>?_);refine ai (fun f=>⟨by rw[d (n2 f)],rfl⟩) (fun f=>?_);rw[aj (k+1),aj (k-1)];refine ai (fun h3=>?_) (fun h3=>?_)
    ·refine u.bt (k-1) (by omega) (by omega) _ rfl ?_;refine ai (fun A=>⟨by rw[d (D (by omega) A)],rfl⟩) (fun A=>?_);exact⟨k+1,by simp,⟨rfl,by omega,y (by omega) (by omega) (fun _=>by omega)⟩,by omega⟩
    ·exact⟨k+1,by simp,⟨rfl,by omega,y (by omega) (by omega) (fun _=>by omega)⟩,by omega⟩
   ·rw[qi (by omega)]at s;rw[aj (i+1)];exact⟨i+1,by simp,⟨rfl,by omega,by rw[abD e c,s]⟩,by omega⟩
  ·rw[qi (by omega)]at c;exact⟨by rw[x,c],rfl⟩
theorem La{p:aA}(a:Sl)(b:List Bool)(x:Bool)(h:Heap)(i:Seq h p a 1 ee b)(n:b.length<=2^40):
  ab xv 314 #[a,xo x] h fun v h'=>∃r:Int,v=xk xq r/\(0<=r↔x∈b)/\h'=h:=by
 refine sV a x ?_;unfold mf;have l:=i.len;refine au (fun k:Nat=>(k:Int)) (fun k h'=>h'=h/\k<=b.length/\x∉b.take k) (fun k=>b.length-k) 0 rfl ⟨rfl,by omega,by simp⟩ ?_;rintro k h' ⟨rfl,o,g⟩;refine ai (fun j=>?_) (fun m=>?_)
 ·have c:k<b.length:=by omega
  refine i.bt k rfl c _ rfl ?_;refine bF (fun f=>⟨_,rfl,⟨fun _=>?_,fun _=>by omega⟩,rfl⟩) (fun d=>?_)
  ·rw[eq_of_beq f];exact qh c
  ·rw[aj _];refine⟨k+1,by simp,⟨rfl,by omega,?_⟩,by omega⟩;rw[aH _ _ c];simp only[List.mem_append,List.mem_singleton,not_or];exact⟨g,fun e=>by rw[e]at d;simp at d⟩
 ·rw[qi (by omega)]at g;exact⟨_,rfl,⟨fun h=>by omega,fun h=>absurd h g⟩,rfl⟩
theorem GJ{p:aA}(a:Sl)(b:List Bool)(x:Bool)(h:Heap)(e:Seq h p a 1 ee b)(c:b.length<=2^40):
  ab xv 273 #[a,xo x] h fun v h'=>v=xo (decide (x∈b))/\h'=h:=by
 refine pI a x ?_;unfold kF;refine(La a b x h e c).mono ?_;rintro v h' ⟨r,rfl,d,rfl⟩;refine⟨r,rfl,?_,rfl⟩;exact congrArg Value.bool (decide_eq_decide.2 d)
theorem TM{α:Type}{f:α->Bool}{l:List α}{k:Nat}(a:k<l.length):(l.take (k+1)).filter f=if f l[k]then(l.take k).filter f++[l[k]]else(l.take k).filter f:=by
 rw[aH _ _ a,zg];by_cases h:f l[k]=true<;>simp[h]
theorem Lb{p q:aA}(i:Addr)(o r:Sl)(op:List Bool)(row:aB)(h:Heap)(u:cellOf h (i.add 1)=some (xl o.ptr o.len o.cap))(n:Seq h p o 1 ee op)(m:Seq h q r 1 aC row)
  (j:∀c∈row,0<=c/\c<op.length) (y:row.length<=2^40):
  ab xv 315 #[xm (some i),r] h fun v h'=>
   v=.tuple #[xk xq ((cH op row).getLast?.getD 0),xo ((cH op row).length==1)]/\h'=h:=by
 refine wd (some i) r ?_;unfold nu;have x:=m.len;refine au (fun k:Nat=>((cH op (row.take k)).getLast?.getD 0,((cH op (row.take k)).length:Int),(k:Int))) (fun k h'=>h'=h/\k<=row.length) (fun k=>row.length-k) 0 rfl ⟨rfl,by omega⟩ ?_;rintro k h' ⟨rfl,A⟩;dsimp only;refine ai (fun s=>?_) (fun w=>?_)
 ·have d:k<row.length:=by omega
  have z:=j _ (qh d);refine m.bt k rfl d _ rfl ?_;refine⟨i,rfl,o,u,?_⟩;have b:row[k].toNat<op.length:=by omega
  refine n.bt row[k].toNat (by omega) b _ rfl ?_;have a:jp op row[k]=op[row[k].toNat]:=by simp[jp,qe,qd b]
  have g:=TM (f:=jp op) d;have t:(cH op (row.take k)).length<=row.length:=zk (zc _ _) (by rw[qM];omega);rw[aj (k+1),aj _];refine bF (fun l=>?_) (fun l=>?_)
  ·refine⟨k+1,?_,⟨rfl,by omega⟩,by omega⟩;have e:cH op (row.take (k+1))=cH op (row.take k)++[row[k]]:=by rw[cH,g,a,l];rfl
   simp[e]
  ·refine⟨k+1,?_,⟨rfl,by omega⟩,by omega⟩;have e:cH op (row.take (k+1))=cH op (row.take k):=by rw[cH,g,a,l];rfl
   simp[e]
 ·have e:row.take k=row:=qi (by omega);refine⟨?_,rfl⟩;simp only[e];congr 4;congr 1;rw[y9];simp;omega
structure AF (h:Heap) (p:aA) (a:Addr) (l o u:Sl) (rows:dq) (rs:List Sl) (op us:List Bool):Prop where
 c0:cellOf h a=some (xl l.ptr l.len l.cap)
 c1:cellOf h (a.add 1)=some (xl o.ptr o.len o.cap)
 c2:cellOf h (a.add 2)=some (xl u.ptr u.len u.cap)
 fp:p a.block
 sRows:gc h p l 1 aC rows rs
 sOp:Seq h p o 1 ee op
 sUs:Seq h p u 1 ee us
 ulen:us.length=rows.length
 cC:∀r∈rows,∀c∈r,0<=c/\c<op.length
 short:∀r∈rows,r.length<=64
theorem AF.ag{h h':Heap}{p:aA}{a:Addr}{l o u:Sl}{rows:dq}{rs:List Sl}{op us:List Bool}(c:AF h p a l o u rows rs op us)(k:aR p h h'):AF h' p a l o u rows rs op us:=by
 have b:∀n,(a.add n).block=a.block:=fun n=>by unfold Addr.add;split<;>rfl
 exact⟨k.cell c.fp c.c0,k.cell (by rw[b];exact c.fp) c.c1,k.cell (by rw[b];exact c.fp) c.c2,c.fp,c.sRows.ag k,c.sOp.ag k,c.sUs.ag k,c.ulen,c.cC,c.short⟩
theorem OO{p:aA}(a:Addr)(l o u:Sl)(rows:dq)(rs:List Sl)(op us:List Bool)(h:Heap)(y:AF h p a l o u rows rs op us)(N:rows.length<=2^40):
  ab xv 274 #[xm (some a)] h fun v h'=>aR (fun _=>True) h h'/\
   v=match lK rows op us with
    |some i=>.tuple #[xp #[xk xq i,xk xq (ey rows op i)],xo true]
    |none=>.tuple #[xp #[xk xq 0,xk xq 0],xo false]:=by
 refine AZ (some a) ?_;unfold px;refine Ac ac rfl fun b F M s e K=>?_;have f:=y.ag (e.mono fun _ _ _=>trivial);refine⟨a,rfl,l,f.c0,?_⟩;have H:=y.sRows.Pv;refine au (fun k:Nat=>(k:Int)) (fun k h'=>h'=F/\k<=rows.length/\∀j,j<k->lJ rows op us j=false) (fun k=>rows.length-k) 0 rfl ⟨rfl,by omega,fun j n=>by omega⟩ ?_;rintro k h' ⟨rfl,P,B⟩;refine ai (fun G=>?_) (fun J=>?_)
 ·have d:k<rows.length:=by omega
  refine f.sRows.get k rfl d fun r L _=>?_;refine⟨a,rfl,u,f.c2,?_⟩;refine f.sUs.bt k rfl (by rw[y.ulen];exact d) _ rfl ?_;have E:us.getD k false=us[k]'(by rw[y.ulen];exact d):=by rw[qe,qd];rfl
  have q:rows.getD k []=rows[k]:=by rw[qe,qd d];rfl
  rw[aj _];refine bF (fun w=>?_) (fun w=>?_)
  ·refine⟨k+1,by simp,⟨rfl,by omega,fun j n=>?_⟩,by omega⟩;rcases zb.1 n with n|rfl
   ·exact B j n
   ·simp only[lJ,E,w];rfl
  ·refine(Lb a o r op rows[k] h' f.c1 f.sOp L (y.cC _ (qh d)) (zk (y.short _ (qh d)) (by omega))).mono ?_;rintro v O ⟨rfl,rfl⟩;refine⟨(_,_),rfl,?_⟩;have g:lJ rows op us k=((cH op rows[k]).length==1):=by simp only[lJ,E,w,q];rfl
   refine bF (fun x=>?_) (fun x=>?_)
   ·have m:lJ rows op us k=true:=g.trans x;refine tz ac s rfl _ rfl rfl rfl (ql _) fun h3 c t z=>?_;refine⟨(_,_),c.aF _ rfl,e.then t (fun I D _=>by omega),?_⟩;have A:ey rows op k=(cH op rows[k]).getLast?.getD 0:=by unfold ey;rw[q]
    rw[lK,XZ d B m];show _=Value.tuple #[xp #[xk xq k,xk xq (ey rows op k)],xo true];rw[A];rfl
   ·have m:lJ rows op us k=false:=g.trans x;refine⟨k+1,by simp,⟨rfl,by omega,fun j n=>?_⟩,by omega⟩;rcases zb.1 n with n|rfl
    ·exact B j n
    ·exact m
 ·refine tz ac s rfl _ rfl rfl rfl (ql _) fun h3 c t z=>?_;refine⟨(_,_),c.aF _ rfl,e.then t (fun I D _=>by omega),?_⟩;rw[lK,XY (fun j n=>B j (by omega))]
theorem Jl{l:List Bool}{i:Nat}(h:i<l.length):l.getD i false=l[i]:=by rw[qe,qd h];rfl
theorem UF(op:List Bool)(a:aB):∀k,-1<=gW op a k/\gW op a k<k
 |0=>by simp[gW]
 |k+1=>by
  have:=UF op a k;unfold gW;split<;>omega
theorem OP{p:aA}(a:Addr)(l o u:Sl)(rows:dq)(rs:List Sl)(op us:List Bool)(h:Heap)(n:AF h p a l o u rows rs op us)(hs:rows.length<=2^30)(bb:op.length<=2^30):
  ab xv 275 #[xm (some a)] h fun v h'=>aR (fun _=>True) h h'/\v=xk xq (gg rows op us):=by
 refine Ba (some a) ?_;unfold py;refine⟨a,rfl,o,n.c1,?_⟩;have a6:=n.sOp.len;refine Go.Vc.run_make (f:=aC) ac ⟨_,_,rfl,rfl,rfl,rfl,rfl,rfl⟩ (by decide) 0 rfl rfl op.length op.length (by omega) (by omega) (ql _) (by omega) fun s h1 L am a8 t a9=>?_;have X:=n.ag (t.mono fun _ _ _=>trivial);refine⟨a,rfl,l,X.c0,?_⟩;have a7:=n.sRows.Pv;have A:∀b,s.on b->b=h.size:=by rintro b ⟨o',O⟩;rw[am]at O;cases O;rfl
 have ay:∀k,((fun _ r=>r:Nat->aB->aB) k (rows.getD k [])).length<=64:=fun k=>by
  show(rows.getD k []).length<=64;by_cases hk:k<rows.length
  ·rw[qe,qd hk];exact n.short _ (qh hk)
  ·rw[qe,List.getElem?_eq_none (by omega)];simp
 let d:=km (fun _ r=>r) rows us (qg op.length 0);have K:∀k,(d k).length=op.length:=fun k=>by rw[CS];simp
 have ax:∀k,∀x∈d k,0<=x/\x<=64*k:=fun k x hx=>Qi (fun _ r=>r) ay k x hx;refine au (fun k:Nat=>(k:Int)) (fun k h'=>aR (fun b=>b<h.size) h h'/\k<=rows.length/\Own h' 3 s 1 aC (d k)) (fun k=>rows.length-k) 0 rfl ⟨t.mono fun _ _ _=>trivial,by omega,L⟩ ?_;rintro i W ⟨D,hi,q⟩;have y:AF W p a l o u rows rs op us:=n.ag (D.mono fun b e _=>e);refine ai (fun M=>?_) (fun P=>?_)
 ·have g:i<rows.length:=by omega
  have N:rows.getD i []=rows[i]:=by rw[qe,qd g];rfl
  have hu:us.getD i false=us[i]'(by rw[n.ulen];exact g):=Jl _;refine y.sRows.get i rfl g fun r hr T=>?_;have a5:=hr.len;have Q:=n.short _ (qh g);refine au (fun k:Nat=>(k:Int)) (fun k h'=>aR (fun b=>b<h.size) h h'/\k<=rows[i].length/\Own h' 3 s 1 aC (if us.getD i false then d i else jD (d i) (rows[i].take k))) (fun k=>rows[i].length-k) 0 rfl
   ⟨D,by omega,by simpa[jD]using q⟩ ?_
  rintro j h3 ⟨z,hj,c⟩;have w:AF h3 p a l o u rows rs op us:=n.ag (z.mono fun b e _=>e);refine ai (fun M=>?_) (fun P=>?_)
  ·have F:j<rows[i].length:=by omega
   have ad:=w.sRows.row i r _ T (qd g);have hc:=n.cC _ (qh g) _ (qh F);refine ad.bt j rfl F _ rfl ?_;refine⟨a,rfl,u,w.c2,?_⟩;refine w.sUs.bt i rfl (by rw[n.ulen];exact g) _ rfl ?_;rw[aj (j+1)];refine be (fun e=>?_) (fun e=>?_)
   ·rw[hu,e]at c;simp only[zf,if_false]at c;have G:(jD (d i) (rows[i].take j)).length=op.length:=by rw[DN,K]
    have m:rows[i][j].toNat<(jD (d i) (rows[i].take j)).length:=by rw[G];omega
    have a4:=Fs (r:=rows[i].take j) (ax i) _ (qh m);have a3:(rows[i].take j).length<=64:=by rw[qM];omega
    have ap:Seq h3 (fun _=>True) s 1 aC (jD (d i) (rows[i].take j)):=c.seq (fun _=>rfl) (fun _ _=>trivial);refine ap.bt rows[i][j].toNat (by omega) m _ rfl ?_;rw[aj _];refine c.set ac (fun _=>rfl) rfl rows[i][j].toNat (by omega) m _ rfl rfl rfl fun h4 E V a0=>?_;refine⟨j+1,by simp,⟨z.then V (fun b e _=>fun ah=>by have:=A b ah;omega),by omega,?_⟩,by omega⟩;rw[hu,e];simp only[zf,if_false];rw[aH _ _ F,SJ,getD_lt m];exact E
   ·refine⟨j+1,by simp,⟨z,by omega,?_⟩,by omega⟩;rw[hu,e]at c⊢;exact c
  ·rw[aj (i+1)];rw[qi (by omega)]at c;refine⟨i+1,by simp,⟨z,by omega,?_⟩,by omega⟩;have:d (i+1)=if us.getD i false then d i else jD (d i) rows[i]:=by
    show km _ _ _ _ (i+1)=_;rw[km];simp only[N];rfl
   rw[this];exact c
 ·have R:i=rows.length:=by omega
  subst R;refine⟨a,rfl,o,y.c1,?_⟩;have H:Seq W (fun _=>True) s 1 aC (d rows.length):=q.seq (fun _=>rfl) (fun _ _=>trivial);have a1:=K rows.length;refine au (fun k:Nat=>(gW op (d rows.length) k,(k:Int))) (fun k h'=>h'=W/\k<=op.length) (fun k=>op.length-k) 0 rfl ⟨rfl,by omega⟩ ?_;rintro k h3 ⟨rfl,hk⟩;dsimp only;have a2:=UF op (d rows.length) k;refine ai (fun M=>?_) (fun P=>?_)
  ·have J:k<op.length:=by omega
   refine y.sOp.bt k rfl J _ rfl ?_;rw[aj (k+1)];have B:op.getD k false=op[k]:=Jl J;refine bF (fun e=>?_) (fun e=>?_)
   ·refine ai (fun I=>?_) (fun Z=>?_)
    ·refine⟨k+1,?_,⟨rfl,by omega⟩,by omega⟩;rw[gW,if_pos (by rw[B,e,decide_eq_true I];rfl)];rfl
    ·refine H.bt k rfl (by omega) _ rfl ?_;refine H.bt (gW op (d rows.length) k).toNat (by omega) (by omega) _ rfl ?_;have e1:(d rows.length).getD k 0=(d rows.length)[k]:=getD_lt;have e2:(d rows.length).getD (gW op (d rows.length) k).toNat 0=(d rows.length)[(gW op (d rows.length) k).toNat]:=getD_lt;refine ai (fun U=>?_) (fun Y=>?_)
     ·refine⟨k+1,?_,⟨rfl,by omega⟩,by omega⟩;rw[gW,if_pos (by rw[B,e,e1,e2,decide_eq_true U];simp)];rfl
     ·refine⟨k+1,?_,⟨rfl,by omega⟩,by omega⟩;rw[gW,if_neg (by rw[B,e,e1,e2,decide_eq_false Y,decide_eq_false Z];simp)];rfl
   ·refine⟨k+1,?_,⟨rfl,by omega⟩,by omega⟩;rw[gW,if_neg (by rw[B,e];simp)];rfl
  ·have S:k=op.length:=by omega
   subst S;exact⟨D.mono fun b e _=>e,rfl⟩
def fe(p:Int×Int):aV:=[xk xq p.1,xk xq p.2]
theorem abE:∀x,∀c∈fe x,c.oneCell'=true:=by
 intro x c a;simp only[fe,q8,vL,or_false]at a;rcases a with rfl|rfl<;>rfl
def Dz(n:Int)(rows:dq):List (Int×Int)×aB×aB:=
 if iZ n rows then((dg n.toNat rows).steps,(dg n.toNat rows).dead,eW (dg n.toNat rows).used rows.length)else([],[],[])
def afk(e h:Heap)(v:Value)(ok:Bool)(c:List (Int×Int))(b a:aB):Prop:=
 ∃s d f:Sl,v=.tuple #[xp #[s,d,f],xo ok]/\
  Sp e h [an 269 s 2 fe c,an 3 d 1 aC b,an 3 f 1 aC a]
theorem adO{α β γ:Type}{r h:Heap}{c:Nat->Nat}{t j q s v o:Nat}{l:α->aV}{m:β->aV}{w:γ->aV}{u p n:Sl}{l1:List α}{l2:List β}{k:List γ}(g:kI r h c)(f:cW h c 6 t u s l l1)(e:cW h c 7 j p v m l2)(a3:cW h c 8 q n o w k):
  Sp r h [an t u s l l1,an j p v m l2,an q n o w k]:=by
 refine⟨fun _ h=>h,g.ag,fun b=>c b-5,fun b a=>?_,fun i A d=>?_⟩
 ·have:=g.ba b a;dsimp only;omega
 ·match i,d with
  |0,d=>simp at d;subst d;exact⟨f.own,fun b a=>⟨f.own.lt a,by have:=f.ba b a;dsimp only;omega⟩⟩
  |1,d=>simp at d;subst d;exact⟨e.own,fun b a=>⟨e.own.lt a,by have:=e.ba b a;dsimp only;omega⟩⟩
  |2,d=>simp at d;subst d;exact⟨a3.own,fun b a=>⟨a3.own.lt a,by have:=a3.ba b a;dsimp only;omega⟩⟩
  |i+3,d=>simp at d
theorem adP{n:Int}{rows:dq}(h:iZ n rows=true):0<=n/\n<=64/\∀r∈rows,fd n r=true:=by
 simp only[iZ,qA,decide_eq_true_eq,qN]at h;exact⟨h.1.1,h.1.2,h.2⟩
theorem Jm{n:Int}{r:aB}(h:fd n r=true):∀c∈r,0<=c/\c<n:=by
 simp only[fd,qA,qN,decide_eq_true_eq]at h;exact h.1
theorem NW:∀{r:aB} {a n:Int},fc r=true->(∀c∈r,a<=c/\c<n)->(r.length:Int)<=max 0 (n-a)
 |[],a,n,_,_=>by simp;omega
 |[x],a,n,_,h=>by have:=h x (by simp);simp;omega
 |x::y::t,a,n,hr,h=>by
  simp only[fc,qA,decide_eq_true_eq]at hr;have f:=h x (by simp);have g:=h y (by simp);have e:∀(l:aB) (z:Int),fc (z::l)=true->∀c∈l,z<c:=by
   intro l
   induction l with
   |nil=>intro z _ c b;simp at b
   |cons w t ih=>
    intro z d c b;simp only[fc,qA,decide_eq_true_eq]at d;rcases q8.1 b with rfl|b
    ·exact d.1
    ·have:=ih w d.2 c b;omega
  have:=NW (r:=y::t) (a:=x+1) (n:=n) hr.2 fun c b=>⟨by
   rcases q8.1 b with rfl|b
   ·omega
   ·have:=e t y hr.2 c b;omega,(h c (by simp only[q8]at b⊢;exact .inr b)).2⟩
  simp only[List.length_cons]at this⊢;omega
theorem Zz{n:Int}{r:aB}(h:fd n r=true)(c:n<=64):r.length<=64:=by
 have b:=Jm h;simp only[fd,qA]at h;have:=NW (a:=0) h.2 b;omega
theorem abF(n k:Nat)(h:k<n):(qg k true++qg (n-k) false).set k true=qg (k+1) true++qg (n-(k+1)) false:=by
 have e:n-k=(n-(k+1))+1:=by omega
 rw[q7 _ _ (by simp),e,List.replicate_succ];simp only[List.length_replicate,zd,zu];rw[List.replicate_succ' (n:=k)];simp
theorem RQ{h g:Heap}{c:Nat->Nat}{a:Addr}{l o u:Sl}{rows:dq}{rs:List Sl}{op us:List Bool}(p:gc g (fun b=>b<g.size) l 1 aC rows rs)(j:kI g h c)(e:jM h c 2 a 332 [l,o,u])
  (m:cW h c 3 4 o 1 ee op) (q:cW h c 4 4 u 1 ee us) (i:us.length=rows.length) (n:op.length<=64) (k:∀r∈rows,fd op.length r=true):AF h (fun b=>b<h.size) a l o u rows rs op us:=
 ⟨e.box.cell0 rfl,e.box.cell rfl,e.box.cell rfl,e.box.lt,(p.ag j.ag).mono fun b f=>qL f j.ag.1,m.UZ fun _=>rfl,q.UZ fun _=>rfl,i,fun r d=>Jm (k r d),fun r d=>Zz (k r d) (by omega)⟩
theorem ZA(n:Int)(l:Sl)(rows:dq)(rs:List Sl)(h:Heap)(hl:gc h (fun b=>b<h.size) l 1 aC rows rs)(hs:rows.length<=2^30)(d5:∀r∈rows,r.length<=2^40):
  ab xv 198 #[xk xq n,l] h fun v h'=>afk h h' v (iZ n rows) (Dz n rows).1 (Dz n rows).2.1 (Dz n rows).2.2:=by
 refine Ma n l ?_;unfold FQ;have e2:=hl.Pv;refine tC ac (kI.refl h) 1 rfl fun a1 h1 b1 du=>?_;have E:=(kI.refl h).keep (m:=1) du (by decide);refine(My n l rows rs h1 (hl.ag E.ag) (by omega) d5).mono ?_;rintro v h2 ⟨rfl,rfl⟩;refine⟨_,rfl,?_⟩;refine be (fun hr=>?_) (fun hr=>?_)
 ·refine b1.ja ac rfl _ rfl rfl rfl (ql _) fun h3 a6 B=>?_;refine⟨(⟨none,0,0⟩,⟨none,0,0⟩,⟨none,0,0⟩),a6.box.aF _ rfl,?_⟩;refine⟨⟨none,0,0⟩,⟨none,0,0⟩,⟨none,0,0⟩,by rw[hr],?_⟩;simp only[Dz,hr,zf,if_false];exact(((Sp.zip (E.keep (m:=1) B (by decide)).ag).nil 269 2 fe).nil 3 1 aC).nil 3 1 aC
 ·obtain⟨er,ew,cn⟩:=adP hr;obtain⟨N,rfl⟩:∃N:Nat,n=N:=⟨n.toNat,by omega⟩
  have hN:N<=64:=by omega
  refine bO (fun s h'=>∃c a o u,s=some a/\kI h h' c/\jM h' c 1 a1 187 [xl none 0 0,xl none 0 0,xl none 0 0]/\jM h' c 2 a 332 [l,xl o.ptr o.len o.cap,xl u.ptr u.len u.cap]/\
   cW h' c 3 4 o 1 ee (qg N false)/\cW h' c 4 4 u 1 ee (qg rows.length false)) ⟨?_,?_⟩ ?_
  ·refine Ad ac E 3 ee ⟨_,_,rfl,rfl,rfl,rfl,rfl,rfl⟩ (by decide) false rfl rfl N rfl rfl (by omega) fun o h3 ho B=>?_;refine⟨trivial,?_⟩;refine Ad ac (E.keep (m:=3) B (by decide)) 4 ee ⟨_,_,rfl,rfl,rfl,rfl,rfl,rfl⟩ (by decide) false rfl rfl rows.length (by omega) (by omega) (by omega) fun u h4 hu G=>?_;refine⟨trivial,?_⟩;refine Pz _ ((E.keep (m:=3) B (by decide)).keep (m:=4) G (by decide)) 2 fun a h5 ha A=>?_;exact⟨trivial,_,a,o,u,rfl,((E.keep B (by decide)).keep G (by decide)).keep A (by decide),((b1.keep B (by decide)).keep G (by decide)).keep A (by decide),ha,(ho.keep G (by decide)).keep A (by decide),hu.keep A (by decide)⟩
  ·refine Ad ac E 4 ee ⟨_,_,rfl,rfl,rfl,rfl,rfl,rfl⟩ (by decide) false rfl rfl rows.length (by omega) (by omega) (by omega) fun u h3 hu B=>?_;refine⟨trivial,?_⟩;refine Ad ac (E.keep (m:=4) B (by decide)) 3 ee ⟨_,_,rfl,rfl,rfl,rfl,rfl,rfl⟩ (by decide) false rfl rfl N rfl rfl (by omega) fun o h4 ho G=>?_;refine⟨trivial,?_⟩;refine Pz _ ((E.keep (m:=4) B (by decide)).keep (m:=3) G (by decide)) 2 fun a h5 ha A=>?_;exact⟨trivial,_,a,o,u,rfl,((E.keep B (by decide)).keep G (by decide)).keep A (by decide),((b1.keep B (by decide)).keep G (by decide)).keep A (by decide),ha,ho.keep A (by decide),(hu.keep G (by decide)).keep A (by decide)⟩
  ·rintro s h3 ⟨c,a,o,u,rfl,c1,br,a6,a4,c0⟩;refine⟨a,rfl,o,a6.box.cell rfl,?_⟩;have e1:o.len=N:=by rw[a4.own.len];simp
   refine au (fun t:Nat×(Nat->Nat)=>(t.1:Int)) (fun t h'=>t.1<=N/\kI h h' t.2/\jM h' t.2 1 a1 187 [xl none 0 0,xl none 0 0,xl none 0 0]/\jM h' t.2 2 a 332 [l,o,u]/\
    cW h' t.2 3 4 o 1 ee (qg t.1 true++qg (N-t.1) false)/\cW h' t.2 4 4 u 1 ee (qg rows.length false)) (fun t=>N-t.1) (0,c) rfl ⟨by simp,c1,br,a6,by simpa using a4,c0⟩ ?_
   rintro⟨k,c⟩ h4 ⟨hk,b0,b9,bs,bl,cc⟩;dsimp only at*;refine ai (fun eb=>?_) (fun ek=>?_)
   ·have d4:k<N:=by omega
    refine⟨a,rfl,o,bs.box.cell rfl,?_⟩;refine bl.set ac (fun _=>rfl) rfl k rfl (by simp;omega) true rfl rfl rfl fun h5 bk A=>?_;rw[aj _];rw[abF _ _ d4]at bk;exact⟨(k+1,_),by simp,⟨by simp;omega,b0.keep A (by decide),b9.keep A (by decide),bs.keep A (by decide),bk,cc.keep A (by decide)⟩,by simp;omega⟩
   ·have d0:k=N:=by omega
    subst d0;simp only[zd,List.replicate_zero,qU]at bl;refine tC ac b0 5 rfl fun ap h5 d8 A=>?_;have ec:=b0.keep (m:=5) A (by decide);have da:=b9.keep (m:=5) A (by decide);have d3:=bs.keep (m:=5) A (by decide);have bk:=bl.keep (m:=5) A (by decide);have eh:=cc.keep (m:=5) A (by decide);clear b0 b9 bs bl cc c1 br a6 a4 c0;generalize grow c h4.size 5=c5 at*;refine au (τ:=Nat×List Bool×List Bool×(List (Int×Int))×aB×(Nat->Nat)×Sl×Sl) (fun _=>())
     (fun⟨f,op,us,st,dd,c,ss,ds⟩ h'=>op.length=k/\us.length=rows.length/\op.count true<=f/\f<=k/\st.length<=k-f/\dd.length<=k-f/\
      (∃r,ce rows f op us=r/\dg k rows=⟨st++r.steps,dd++r.dead,r.used⟩)/\kI h h' c/\
      jM h' c 1 a1 187 [xl none 0 0,xl none 0 0,xl none 0 0]/\jM h' c 2 a 332 [l,o,u]/\
      cW h' c 3 4 o 1 ee op/\cW h' c 4 4 u 1 ee us/\
      jM h' c 5 ap 187 [ss,ds,xl none 0 0]/\cW h' c 6 269 ss 2 fe st/\cW h' c 7 3 ds 1 aC dd)
     (fun t=>t.1) (k,qg k true,qg rows.length false,[],[],c5,⟨none,0,0⟩,⟨none,0,0⟩) rfl
     ⟨by simp,by simp,by simp,by simp,by simp,by simp,⟨_,rfl,by simp[dg]⟩,ec,da,d3,bk,eh,d8,cW.nil _ _ _ _ _ _,cW.nil _ _ _ _ _ _⟩ ?_
    rintro⟨f,op,us,st,dd,c,ss,ds⟩ h6 ⟨a7,I,en,e0,el,eo,⟨r,ah,bd⟩,M,a2,O,ad,P,L,J,K⟩;dsimp only at*;have H:∀r∈rows,fd op.length r=true:=by rw[a7];exact cn
    have a5:=RQ hl M O ad P I (by omega) H;refine⟨a,rfl,o,O.box.cell rfl,?_⟩;refine(GJ o op true h6 (ad.UZ fun _=>rfl) (by omega)).mono ?_;rintro v h7 ⟨rfl,rfl⟩;refine⟨_,rfl,?_⟩;refine be (fun hc=>?_) (fun hc=>?_)
    ·have Z:op.contains true=false:=by simpa using hc
     have br:r=⟨[],[],us⟩:=by rw[<-ah];exact Am Z f
     subst br;simp only[qU]at bd;refine⟨a,rfl,u,O.box.cell rfl,?_⟩;have et:u.len=rows.length:=by rw[P.own.len,I]
     refine au (fun t:Nat×(Nat->Nat)×Sl=>(t.1:Int)) (fun⟨j,c,fs⟩ h'=>j<=rows.length/\kI h h' c/\
      jM h' c 1 a1 187 [xl none 0 0,xl none 0 0,xl none 0 0]/\cW h' c 4 4 u 1 ee us/\
      jM h' c 5 ap 187 [ss,ds,fs]/\cW h' c 6 269 ss 2 fe st/\cW h' c 7 3 ds 1 aC dd/\cW h' c 8 3 fs 1 aC (eW us j)) (fun t=>rows.length-t.1) (0,c,⟨none,0,0⟩) rfl
      ⟨by simp,M,a2,P,L,J,K,cW.nil _ _ _ _ _ _⟩ ?_
     rintro⟨j,c,fs⟩ h8 ⟨hj,bq,b2,cp,U,am,a8,bb⟩;dsimp only at*;refine ai (fun eb=>?_) (fun ek=>?_)
     ·have e3:j<rows.length:=by omega
      have eq:(eW us j).length<=j:=Hl us j;refine(cp.UZ fun _=>rfl).bt j rfl (by omega) _ rfl ?_;have c4:us.getD j false=us[j]:=Jl (by omega);rw[aj _];refine be (fun hb=>?_) (fun hb=>?_)
      ·refine⟨fs,U.box.cell rfl,?_⟩;refine Iv ac bq 9 aC ⟨_,_,rfl,rfl,rfl,rfl,rfl,rfl⟩ rfl [(j:Int)] rfl (zF rfl) rfl fun v h9 ef p=>?_;refine(bb.keep (m:=9) p (by decide)).append ac ⟨_,_,rfl,rfl,rfl,rfl,rfl,rfl⟩ ⟨_,_,rfl,rfl⟩ rfl (by decide) (fun _=>rfl) (ef.seq fun _=>rfl) gJ (by simp;omega) fun d9 cd b5 g=>?_;refine((U.keep (m:=9) p (by decide)).keep (m:=8) g (by decide)).store ac rfl 2 _ rfl rfl rfl (zF rfl) fun c2 b7 d=>?_;refine⟨(j+1,_,d9),by simp,⟨by simp;omega,((bq.keep p (by decide)).keep g (by decide)).keep d (by decide),((b2.keep p (by decide)).keep g (by decide)).keep d (by decide),((cp.keep p (by decide)).keep g (by decide)).keep d (by decide),b7,
        ((am.keep p (by decide)).keep g (by decide)).keep d (by decide),((a8.keep p (by decide)).keep g (by decide)).keep d (by decide),?_⟩,by simp;omega⟩
       have e:eW us (j+1)=eW us j++[(j:Int)]:=by rw[eW,c4,hb];rfl
       rw[e];exact b5.keep d (by decide)
      ·have e:eW us (j+1)=eW us j:=by rw[eW,c4,hb];rfl
       exact⟨(j+1,c,fs),by simp,⟨by simp;omega,bq,b2,cp,U,am,a8,by rw[e];exact bb⟩,by simp;omega⟩
     ·have dk:j=rows.length:=by omega
      subst dk;refine⟨(ss,ds,fs),U.box.aF _ rfl,?_⟩;refine b2.ja ac rfl _ rfl rfl rfl (ql _) fun h9 dl p=>?_;refine⟨(ss,ds,fs),dl.box.aF _ rfl,?_⟩;refine⟨ss,ds,fs,by rw[hr],?_⟩;simp only[Dz,hr,if_true,qp,bd];exact adO (bq.keep (m:=1) p (by decide)) (am.keep (m:=1) p (by decide)) (a8.keep (m:=1) p (by decide)) (bb.keep (m:=1) p (by decide))
    ·have Z:op.contains true=true:=by simpa using hc
     obtain⟨f',rfl⟩:∃f',f=f'+1:=by
      obtain⟨j,hj,e⟩:=Ft Z;have:=jQ e;exact⟨f-1,by omega⟩
     refine aT ?_;refine(OO a l o u rows rs op us h7 a5 (by omega)).mono ?_;rintro v h8 ⟨z,rfl⟩;have z:=z.ba c 9;cases hst:lK rows op us with
     |some i=>
      obtain⟨hi,d7⟩:=tJ hst;obtain⟨es,dx,a4⟩:=CT d7;have c3:rows.getD i []=rows[i]:=by rw[qe,qd hi];rfl
      have ep:=Jm (H _ (qh hi)) _ (c3▸dx);refine⟨((i,ey rows op i),true),rfl,?_⟩;dsimp only;refine tC ac (M.keep (m:=9) z (by decide)) 9 rfl fun ax h9 has p=>?_;refine has.ja ac rfl _ rfl rfl rfl (ql _) fun cd Q g=>?_;refine Iu rfl ?_;have F:=((M.keep (m:=9) z (by decide)).keep (m:=9) p (by decide)).keep (m:=9) g (by decide);have a9:=((a2.keep (m:=9) z (by decide)).keep (m:=9) p (by decide)).keep (m:=9) g (by decide);have X:=((O.keep (m:=9) z (by decide)).keep (m:=9) p (by decide)).keep (m:=9) g (by decide);have Y:=((ad.keep (m:=9) z (by decide)).keep (m:=9) p (by decide)).keep (m:=9) g (by decide);have V:=((P.keep (m:=9) z (by decide)).keep (m:=9) p (by decide)).keep (m:=9) g (by decide);have D:=((L.keep (m:=9) z (by decide)).keep (m:=9) p (by decide)).keep (m:=9) g (by decide);have S:=((J.keep (m:=9) z (by decide)).keep (m:=9) p (by decide)).keep (m:=9) g (by decide);have R:=((K.keep (m:=9) z (by decide)).keep (m:=9) p (by decide)).keep (m:=9) g (by decide);clear M a2 O ad P L J K z p has a5;generalize grow (grow (grow c h7.size 9) h8.size 9) h9.size 9=c10 at*;refine⟨ss,D.box.cell0 rfl,(_,_),Q.box.aF _ rfl,?_⟩;dsimp only;refine Iv ac F 10 fe ⟨_,_,rfl,rfl,rfl,rfl,rfl,rfl⟩ rfl [((i:Int),ey rows op i)] rfl (zF rfl) rfl fun v c2 cq d=>?_;refine(S.keep (m:=10) d (by decide)).append ac ⟨_,_,rfl,rfl,rfl,rfl,rfl,rfl⟩ ⟨_,_,rfl,rfl⟩ rfl (by decide) (fun _=>rfl) (cq.seq fun _=>rfl) abE (by simp;omega) fun ed ei cf q=>?_;refine((D.keep (m:=10) d (by decide)).keep (m:=6) q (by decide)).ja ac rfl _ rfl rfl rfl (zF rfl) fun eg b3 y=>?_;have T:=((Q.keep (m:=10) d (by decide)).keep (m:=6) q (by decide)).keep (m:=5) y (by decide);have ay:=((X.keep (m:=10) d (by decide)).keep (m:=6) q (by decide)).keep (m:=5) y (by decide);have c7:=((V.keep (m:=10) d (by decide)).keep (m:=6) q (by decide)).keep (m:=5) y (by decide);have c6:=((Y.keep (m:=10) d (by decide)).keep (m:=6) q (by decide)).keep (m:=5) y (by decide);refine⟨a,rfl,u,ay.box.cell rfl,(i:Int),T.box.cell0 rfl,a,rfl,o,ay.box.cell rfl,ey rows op i,T.box.cell rfl,?_⟩;refine c7.set ac (fun _=>rfl) rfl i rfl (by omega) true rfl rfl rfl fun d6 cs x=>?_;have a3:=T.keep (m:=4) x (by decide);have W:=ay.keep (m:=4) x (by decide);refine⟨⟨a3.box.cell rfl,trivial⟩,?_⟩;refine(c6.keep (m:=4) x (by decide)).set ac (fun _=>rfl) rfl (ey rows op i).toNat (by omega) (by omega) false rfl rfl rfl fun ej a0 w=>?_;have d1:=a3.keep (m:=3) w (by decide);have c9:=W.keep (m:=3) w (by decide);refine⟨trivial,?_⟩;have d2:=jQ (op:=op) (j:=(ey rows op i).toNat) a4;rw[od Z hst]at ah;refine⟨(f',op.set (ey rows op i).toNat false,us.set i true,st++[((i:Int),ey rows op i)],dd,_,ed,ds),rfl,⟨by simp[a7],by simp[I],by dsimp only;omega,by dsimp only;omega,by simp;omega,by dsimp only;omega,⟨_,rfl,?_⟩,
       ((((F.keep d (by decide)).keep q (by decide)).keep y (by decide)).keep x (by decide)).keep w (by decide),
       ((((a9.keep d (by decide)).keep q (by decide)).keep y (by decide)).keep x (by decide)).keep w (by decide),
       c9,a0,cs.keep w (by decide),(b3.keep x (by decide)).keep w (by decide),((cf.keep y (by decide)).keep x (by decide)).keep w (by decide),
       ((((R.keep d (by decide)).keep q (by decide)).keep y (by decide)).keep x (by decide)).keep w (by decide)⟩,by dsimp only;omega⟩
      rw[bd,<-ah];simp
     |none=>
      have dy:=rV (rows:=rows) (us:=us) Z;refine⟨((0,0),false),rfl,?_⟩;dsimp only;refine tC ac (M.keep (m:=9) z (by decide)) 9 rfl fun ax h9 has p=>?_;refine has.ja ac rfl _ rfl rfl rfl (ql _) fun cd Q g=>?_;refine AL rfl ?_;have F:=((M.keep (m:=9) z (by decide)).keep (m:=9) p (by decide)).keep (m:=9) g (by decide);have a9:=((a2.keep (m:=9) z (by decide)).keep (m:=9) p (by decide)).keep (m:=9) g (by decide);have X:=((O.keep (m:=9) z (by decide)).keep (m:=9) p (by decide)).keep (m:=9) g (by decide);have Y:=((ad.keep (m:=9) z (by decide)).keep (m:=9) p (by decide)).keep (m:=9) g (by decide);have V:=((P.keep (m:=9) z (by decide)).keep (m:=9) p (by decide)).keep (m:=9) g (by decide);have D:=((L.keep (m:=9) z (by decide)).keep (m:=9) p (by decide)).keep (m:=9) g (by decide);have S:=((J.keep (m:=9) z (by decide)).keep (m:=9) p (by decide)).keep (m:=9) g (by decide);have R:=((K.keep (m:=9) z (by decide)).keep (m:=9) p (by decide)).keep (m:=9) g (by decide);clear M a2 O ad P L J K z p has a5;generalize grow (grow (grow c h7.size 9) h8.size 9) h9.size 9=c10 at*;have a5:=RQ hl F X Y V I (by omega) H;refine(OP a l o u rows rs op us cd a5 (by omega) (by omega)).mono ?_;rintro v c2 ⟨d,rfl⟩;have d:=d.ba c10 9;refine⟨_,rfl,?_⟩;refine⟨ds,(D.keep (m:=9) d (by decide)).box.cell rfl,?_⟩;refine Iv ac (F.keep (m:=9) d (by decide)) 10 aC ⟨_,_,rfl,rfl,rfl,rfl,rfl,rfl⟩ rfl [gg rows op us] rfl (zF rfl) rfl fun v ei c8 q=>?_;refine((R.keep (m:=9) d (by decide)).keep (m:=10) q (by decide)).append ac ⟨_,_,rfl,rfl,rfl,rfl,rfl,rfl⟩ ⟨_,_,rfl,rfl⟩ rfl (by decide) (fun _=>rfl) (c8.seq fun _=>rfl) gJ (by simp;omega) fun dr eg b6 y=>?_;refine(((D.keep (m:=9) d (by decide)).keep (m:=10) q (by decide)).keep (m:=7) y (by decide)).store ac rfl 1 _ rfl rfl rfl (zF rfl) fun d6 b4 x=>?_;have W:=(((X.keep (m:=9) d (by decide)).keep (m:=10) q (by decide)).keep (m:=7) y (by decide)).keep (m:=5) x (by decide);have cr:=(((Y.keep (m:=9) d (by decide)).keep (m:=10) q (by decide)).keep (m:=7) y (by decide)).keep (m:=5) x (by decide);refine⟨a,rfl,o,W.box.cell rfl,?_⟩;refine cr.set ac (fun _=>rfl) rfl (gg rows op us).toNat (by omega) (by omega) false rfl rfl rfl fun ej a0 w=>?_;have d2:=jQ (op:=op) (j:=(gg rows op us).toNat) dy.2.2;rw[oe Z hst]at ah;refine⟨(f',op.set (gg rows op us).toNat false,us,st,dd++[gg rows op us],_,ss,dr),rfl,⟨by simp[a7],I,by dsimp only;omega,by dsimp only;omega,by dsimp only;omega,by simp;omega,⟨_,rfl,?_⟩,
       ((((F.keep d (by decide)).keep q (by decide)).keep y (by decide)).keep x (by decide)).keep w (by decide),
       ((((a9.keep d (by decide)).keep q (by decide)).keep y (by decide)).keep x (by decide)).keep w (by decide),
       W.keep w (by decide),a0,((((V.keep d (by decide)).keep q (by decide)).keep y (by decide)).keep x (by decide)).keep w (by decide),b4.keep w (by decide),
       ((((S.keep d (by decide)).keep q (by decide)).keep y (by decide)).keep x (by decide)).keep w (by decide),
       (b6.keep x (by decide)).keep w (by decide)⟩,by dsimp only;omega⟩
      rw[bd,<-ah];simp
theorem Lc(pool:List (Sl×Row))(d:(⟨none,0,0⟩,[])∈pool)(n:Nat):fb pool id (qg n ⟨none,0,0⟩) (qg n []):=
 ⟨by simp,fun i r l a b=>by
  rw[zT]at a b;split at a
  ·rename_i c;rw[if_pos c]at b;cases a;cases b;exact d
  ·cases a⟩
theorem aa.adQ{B:aA}{b h:Heap}{As:List HP}(H:aa B b h As)(i:Nat){pool:List (Sl×Row)}(c:As[i]?=some (ke pool)):aa B b h (As.set i (ke ((⟨none,0,0⟩,[])::pool))):=
 H.ga i c fun q d x a=>by
  rcases q8.1 a with rfl|a
  ·exact Seq.nil _ _ _ _ _ _
  ·exact d x a
structure WO (h:Heap) (f:Addr) (r st dd lf:Sl) (rr:List (Sl×Sl)) (R:List eI) (ST:List (Int×Int)) (D L:aB):Prop where
 field:gp h f
 rest:mY iK 2 qv h r rr R
 steps:Rd h st 2 fe ST
 dead:Rd h dd 1 aC D
 left:Rd h lf 1 aC L
abbrev SA(s:Addr)(a:aV):HP:=ar s 189 a
abbrev HA(s:Sl)(rs:List Sl):HP:=an 23 s 1 bD rs
abbrev RA(s:Sl)(l:Row):HP:=an 5 s 1 az l
theorem NX{R:dq}:∀{l1 l2:List (Int×Int)} {D:Int->Prop},rY R D (l1++l2)->rY R D l1/\rY R (fun x=>D x∨∃i,(i,x)∈l1) l2
 |[],l2,D,h=>⟨trivial,by
  have:(fun x=>D x∨∃i,(i,x)∈([]:List (Int×Int)))=D:=by funext x;simp
  rw[this];exact h⟩
 |(i,c)::l1,l2,D,h=>by
  obtain⟨a,b,k,d,e⟩:=h;obtain⟨g,f⟩:=NX e;refine⟨⟨a,b,k,d,g⟩,?_⟩;have:(fun x=>D x∨∃j,(j,x)∈(i,c)::l1)=fun x=>(D x∨x=c)∨∃j,(j,x)∈l1:=by
   funext x;simp only[q8,Prod.mk.injEq,eq_iff_iff];constructor
   ·rintro(h|⟨j,⟨_,h⟩|h⟩)
    ·exact .inl (.inl h)
    ·exact .inl (.inr h)
    ·exact .inr ⟨j,h⟩
   ·rintro((h|h)|⟨j,h⟩)
    ·exact .inl h
    ·exact .inr ⟨i,.inl ⟨rfl,h⟩⟩
    ·exact .inr ⟨j,.inr h⟩
  rw[this];exact f
section
variable {B:aA} {h0 h:Heap} {As:List HP}
theorem TN(s f:Addr)(p:Int×Int×Int)(v r Y V X R P:Sl)(n:Nat)(pool:List (Sl×Row))(H:aa B h0 h (SA s (fP f p v r Y V X R P)::ke pool::As))(l:v.len=n)(hn:n<=64){K:Unit->Heap->Prop}
  (Q:∀e d h',e.len=n->d.len=n->aa B h0 h' (SA s (fP f p v r Y V X e d)::HA e (qg n ⟨none,0,0⟩)::HA d (qg n ⟨none,0,0⟩)::ke pool::As)->K () h'):(fun(c:aP) (O:Unit->Heap->Prop)=>
 ∃a3:Addr,(c=some a3)/\
 ∃b:Sl,cellOf h (a3.add 4)=some (xl b.ptr b.len b.cap)/\
 ∃a5:Addr,(c=some a5)/\
 ∃a:Sl,cellOf h (a5.add 4)=some (xl a.ptr a.len a.cap)/\
 (aw xv (qB 49 (xk xq ((b.len:Nat):Int)) (xk xq ((b.len:Nat):Int))) (.one (.sc .slc)) h fun y G=>
 (aq.ok [(a5.add 4,(xl a.ptr a.len a.cap)),(a3.add 4,(xl b.ptr b.len b.cap))] G)/\
 ∃S:Addr,(c=some S)/\
 (aw xv (qB 49 (xk xq ((a.len:Nat):Int)) (xk xq ((a.len:Nat):Int))) (.one (.sc .slc)) G fun v9 I=>
 (aq.ok [(a5.add 4,(xl a.ptr a.len a.cap)),(a3.add 4,(xl b.ptr b.len b.cap))] I)/\
 ae xv (qf 49 (xm (some (S.add 9))) (xl y.ptr y.len y.cap)) I fun _ h3=>
 (aq.ok [] h3)/\
 ∃A:Addr,(c=some A)/\
 ae xv (qf 49 (xm (some (A.add 10))) (xl v9.ptr v9.len v9.cap)) h3 fun _ q=>
 (aq.ok [] q)/\
 O () q)/\(ae xv (qf 49 (xm (some (S.add 9))) (xl y.ptr y.len y.cap)) G fun _ W=>
 (aq.ok [] W)/\
 aw xv (qB 49 (xk xq ((a.len:Nat):Int)) (xk xq ((a.len:Nat):Int))) (.one (.sc .slc)) W fun t U=>
 (aq.ok [] U)/\
 ∃F:Addr,(c=some F)/\
 ae xv (qf 49 (xm (some (F.add 10))) (xl t.ptr t.len t.cap)) U fun _ h7=>
 (aq.ok [] h7)/\
 O () h7))/\(aw xv (qB 49 (xk xq ((a.len:Nat):Int)) (xk xq ((a.len:Nat):Int))) (.one (.sc .slc)) h fun u h8=>
 (aq.ok [(a5.add 4,(xl a.ptr a.len a.cap)),(a3.add 4,(xl b.ptr b.len b.cap))] h8)/\
 aw xv (qB 49 (xk xq ((b.len:Nat):Int)) (xk xq ((b.len:Nat):Int))) (.one (.sc .slc)) h8 fun x Z=>
 (aq.ok [(a5.add 4,(xl a.ptr a.len a.cap)),(a3.add 4,(xl b.ptr b.len b.cap))] Z)/\
 ∃M:Addr,(c=some M)/\
 ae xv (qf 49 (xm (some (M.add 9))) (xl x.ptr x.len x.cap)) Z fun _ z=>
 (aq.ok [] z)/\
 ∃E:Addr,(c=some E)/\
 ae xv (qf 49 (xm (some (E.add 10))) (xl u.ptr u.len u.cap)) z fun _ J=>
 (aq.ok [] J)/\
 O () J)) (some s) K:=by
 have T:=H.box 0 rfl;refine⟨s,rfl,v,T.cell rfl,s,rfl,v,T.cell rfl,?_,?_⟩
 ·refine H.make ac bD fa (by decide) ⟨none,0,0⟩ rfl rfl n n (by rw[l]) (by rw[l]) (ql _) (by omega) fun e G o N m=>?_;have m:=m.bH;have i:=m.box 1 rfl;refine⟨⟨i.cell rfl,i.cell rfl,trivial⟩,s,rfl,?_,?_⟩
  ·refine m.make ac bD fa (by decide) ⟨none,0,0⟩ rfl rfl n n (by rw[l]) (by rw[l]) (ql _) (by omega) fun d I g L k=>?_;have k:=k.bH;have j:=k.box 2 rfl;refine⟨⟨j.cell rfl,j.cell rfl,trivial⟩,?_⟩;refine k.store ac 2 rfl rfl 9 [e] rfl rfl rfl (by simp[fP]) fun h3 w=>⟨trivial,s,rfl,?_⟩
   refine w.store ac 2 rfl rfl 10 [d] rfl rfl rfl (by simp[fP]) fun q D=>⟨trivial,?_⟩
   exact Q e d q o g (D.bo 4 [2,1,0,3])
  ·refine m.store ac 1 rfl rfl 9 [e] rfl rfl rfl (by simp[fP]) fun I k=>⟨trivial,?_⟩
   refine k.make ac bD fa (by decide) ⟨none,0,0⟩ rfl rfl n n (by rw[l]) (by rw[l]) (ql _) (by omega) fun d h3 g L w=>⟨trivial,s,rfl,?_⟩
   have w:=w.bH;refine w.store ac 2 rfl rfl 10 [d] rfl rfl rfl (by simp[fP]) fun q D=>⟨trivial,?_⟩
   exact Q e d q o g (D.bo 4 [2,1,0,3])
 ·refine H.make ac bD fa (by decide) ⟨none,0,0⟩ rfl rfl n n (by rw[l]) (by rw[l]) (ql _) (by omega) fun d G o N m=>?_;have m:=m.bH;have i:=m.box 1 rfl;refine⟨⟨i.cell rfl,i.cell rfl,trivial⟩,?_⟩;refine m.make ac bD fa (by decide) ⟨none,0,0⟩ rfl rfl n n (by rw[l]) (by rw[l]) (ql _) (by omega) fun e I g L k=>?_;have k:=k.bH;have j:=k.box 2 rfl;refine⟨⟨j.cell rfl,j.cell rfl,trivial⟩,s,rfl,?_⟩;refine k.store ac 2 rfl rfl 9 [e] rfl rfl rfl (by simp[fP]) fun h3 w=>⟨trivial,s,rfl,?_⟩
  refine w.store ac 2 rfl rfl 10 [d] rfl rfl rfl (by simp[fP]) fun q D=>⟨trivial,?_⟩
  exact Q e d q g o (D.bo 4 [2,0,1,3])
end
section
variable {B:aA} {h0 h:Heap} {As:List HP}
theorem ZB(n nd w:Nat)(d:aB):(fx n nd w d).1.length=n/\(fx n nd w d).2.length=n:=by
 unfold fx;have:∀(l:List (Int×Nat)) (s:aQ×aQ),(l.foldl (fun s p=>(s.1.set p.1.toNat (nE nd p.2),s.2.set p.1.toNat (aM w))) s).1.length=s.1.length/\(l.foldl (fun s p=>(s.1.set p.1.toNat (nE nd p.2),s.2.set p.1.toNat (aM w))) s).2.length=s.2.length:=by
  intro l
  induction l with
  |nil=>intro s;exact⟨rfl,rfl⟩
  |cons a l ih=>intro s;rw[zD];have:=ih (s.1.set a.1.toNat (nE nd a.2),s.2.set a.1.toNat (aM w));simpa using this
 have:=this d.zipIdx (qg n [],qg n []);simpa using this
abbrev Told(s f:Addr)(p:Int×Int×Int)(v r d c h b a:Sl)(e g:List Sl)(pl:List (Sl×Row)):List HP:=[SA s (fP f p v r d c h b a),HA b e,HA a g,ke pl]
theorem WP(s f:Addr)(p:Int×Int×Int)(v r st O lf wa U:Sl)(I mr:List Sl)(pl:List (Sl×Row))(c:Int)(nd w:Nat)(H:aa B h0 h (Told s f p v r st O lf wa U I mr pl++As))(a1:0<=c)(hw:c.toNat<I.length)(hm:c.toNat<mr.length)(Y:p.2.2=w)(hd:O.len=nd)(a0:nd<=64)(J:w<=2^20){K:Unit->Heap->Prop}
  (hk:∀a b h',aa B h0 h' (RA a (aM nd)::RA b (aM w)::(Told s f p v r st O lf wa U (I.set c.toNat a) (mr.set c.toNat b) pl++As))->K () h'):(fun(V:aP) (K3:Unit->Heap->Prop)=>
 ∃l:Addr,(V=some l)/\
 ∃g:Sl,cellOf h (l.add 9)=some (xl g.ptr g.len g.cap)/\
 ∃a25:Addr,(V=some a25)/\
 ∃d:Sl,cellOf h (a25.add 10)=some (xl d.ptr d.len d.cap)/\
 ∃P:Addr,(V=some P)/\
 ∃j:Int,cellOf h ((P.add 1).add 2)=some (xk xq j)/\
 (aw xv (qB 23 (xk xq ((O.len:Nat):Int)) (xk xq ((O.len:Nat):Int))) (.one (.sc .slc)) h fun n R=>
 (aq.ok [((P.add 1).add 2,(xk xq j)),(a25.add 10,(xl d.ptr d.len d.cap)),(l.add 9,(xl g.ptr g.len g.cap))] R)/\
 ∃N:Addr,(g.ptr=some N/\0<=c/\c<((g.len:Nat):Int))/\
 (aw xv (qB 23 (xk xq j) (xk xq j)) (.one (.sc .slc)) R fun W ay=>
 (aq.ok [(a25.add 10,(xl d.ptr d.len d.cap)),(l.add 9,(xl g.ptr g.len g.cap))] ay)/\
 ae xv (qf 23 (xm (some (N.add (c.toNat*1)))) (xl n.ptr n.len n.cap)) ay fun _ F=>
 (aq.ok [] F)/\
 ∃A:Addr,(d.ptr=some A/\0<=c/\c<((d.len:Nat):Int))/\
 ae xv (qf 23 (xm (some (A.add (c.toNat*1)))) (xl W.ptr W.len W.cap)) F fun _ u=>
 (aq.ok [] u)/\
 K3 () u)/\(ae xv (qf 23 (xm (some (N.add (c.toNat*1)))) (xl n.ptr n.len n.cap)) R fun _ q=>
 (aq.ok [] q)/\
 aw xv (qB 23 (xk xq j) (xk xq j)) (.one (.sc .slc)) q fun k z=>
 (aq.ok [] z)/\
 ∃y:Addr,(d.ptr=some y/\0<=c/\c<((d.len:Nat):Int))/\
 ae xv (qf 23 (xm (some (y.add (c.toNat*1)))) (xl k.ptr k.len k.cap)) z fun _ E=>
 (aq.ok [] E)/\
 K3 () E))/\(aw xv (qB 23 (xk xq j) (xk xq j)) (.one (.sc .slc)) h fun L am=>
 (aq.ok [(a25.add 10,(xl d.ptr d.len d.cap)),(l.add 9,(xl g.ptr g.len g.cap))] am)/\
 aw xv (qB 23 (xk xq ((O.len:Nat):Int)) (xk xq ((O.len:Nat):Int))) (.one (.sc .slc)) am fun S ad=>
 (aq.ok [(a25.add 10,(xl d.ptr d.len d.cap)),(l.add 9,(xl g.ptr g.len g.cap))] ad)/\
 ∃ah:Addr,(g.ptr=some ah/\0<=c/\c<((g.len:Nat):Int))/\
 ae xv (qf 23 (xm (some (ah.add (c.toNat*1)))) (xl S.ptr S.len S.cap)) ad fun _ ax=>
 (aq.ok [] ax)/\
 ∃ap:Addr,(d.ptr=some ap/\0<=c/\c<((d.len:Nat):Int))/\
 ae xv (qf 23 (xm (some (ap.add (c.toNat*1)))) (xl L.ptr L.len L.cap)) ax fun _ Z=>
 (aq.ok [] Z)/\
 K3 () Z)) (some s) K:=by
 have hb:=H.box 0 rfl;have mk:∀{X:Heap} {Cs:List HP} (m:Nat) (hm:m<=2^20) {z1 z2:Int},z1=(m:Int)->z2=(m:Int)->aa B h0 X Cs->∀{K:Sl->Heap->Prop},(∀a h',aa B h0 h' (RA a (aM m)::Cs)->K a h')->
   aw xv (qB 23 (xk xq z1) (xk xq z2)) (.one (.sc .slc)) X K:=by
  intro X Cs m hm z1 z2 e1 e2 G K hK;subst e1;subst e2;exact G.make ac az fi (by decide) 0 rfl rfl m m rfl rfl (ql _) (by omega) fun a h' _ _ H'=>hK a h' H'.bH
 refine⟨s,rfl,wa,hb.cell rfl,s,rfl,U,hb.cell rfl,s,rfl,p.2.2,show cellOf h (s.add 3)=_ from hb.cell rfl,?_,?_⟩
 ·refine mk nd (by omega) (by rw[hd]) (by rw[hd]) H fun a X G=>?_;have o:=G.box 1 rfl;refine⟨⟨show cellOf X (s.add 3)=_ from o.cell rfl,o.cell rfl,o.cell rfl,trivial⟩,?_⟩;have t:∀{h2:Heap} {Cs:List HP} {I:List Sl} (i:Nat) (a:Sl) {s':Sl},aa B h0 h2 Cs->Cs[i]?=some (HA s' I)->c.toNat<I.length->∀{K:Heap->Prop},(∀h',aa B h0 h' (Cs.set i (HA s' (I.set c.toNat a)))->K h')->∃x:Addr,(s'.ptr=some x/\0<=c/\c<((s'.len:Nat):Int))/\ae xv (qf 23 (xm (some (x.add (c.toNat*1)))) (xl a.ptr a.len a.cap)) h2 fun _ h'=>K h':=by
   intro h2 Cs I i a s' M hi hl K hK;exact M.set ac i hi (fun _=>rfl) rfl c.toNat (by omega) hl a rfl rfl rfl fun h3 Q=>hK h3 Q
  obtain⟨x,hx,-⟩:=t (K:=fun _=>True) 2 a G rfl hw fun _ _=>trivial;refine⟨x,hx,?_,?_⟩
  ·refine mk w J Y Y G fun b h2 M=>?_;have D:=M.box 2 rfl;refine⟨⟨D.cell rfl,D.cell rfl,trivial⟩,?_⟩;obtain⟨x',T,hr⟩:=t (K:=fun F=>aq.ok [] F/\∃A:Addr,(U.ptr=some A/\0<=c/\c<((U.len:Nat):Int))/\
 ae xv (qf 23 (xm (some (A.add (c.toNat*1)))) (xl b.ptr b.len b.cap)) F fun _ u=>(aq.ok [] u)/\K () u) 3 a M rfl hw fun h3 Q=>⟨trivial,t 4 b Q rfl hm fun h4 H4=>⟨trivial,hk a b h4 (H4.bo 6 [1,0,2,3,4,5])⟩⟩
   have e:x=x':=zO.inj (hx.1.symm.trans T.1);subst e;exact hr
  ·obtain⟨x',T,hr⟩:=t (K:=fun q=>aq.ok [] q/\aw xv (qB 23 (xk xq p.2.2) (xk xq p.2.2)) (.one (.sc .slc)) q fun k z=>
 (aq.ok [] z)/\
 ∃y:Addr,(U.ptr=some y/\0<=c/\c<((U.len:Nat):Int))/\
 ae xv (qf 23 (xm (some (y.add (c.toNat*1)))) (xl k.ptr k.len k.cap)) z fun _ E=>
 (aq.ok [] E)/\K () E) 2 a G rfl hw fun h3 Q=>⟨trivial,mk w J Y Y Q fun b h4 H4=>⟨trivial,t 4 b H4 rfl hm fun h5 H5=>⟨trivial,hk a b h5 (H5.bo 6 [1,0,2,3,4,5])⟩⟩⟩
   have e:x=x':=zO.inj (hx.1.symm.trans T.1);subst e;exact hr
 ·refine mk w J Y Y H fun b X G=>?_;have o:=G.box 1 rfl;refine⟨⟨o.cell rfl,o.cell rfl,trivial⟩,?_⟩;refine mk nd (by omega) (by rw[hd]) (by rw[hd]) G fun a h2 M=>?_;have D:=M.box 2 rfl;refine⟨⟨D.cell rfl,D.cell rfl,trivial⟩,?_⟩;refine M.set ac 3 rfl (fun _=>rfl) rfl c.toNat (by omega) hw a rfl rfl rfl fun h3 Q=>⟨trivial,?_⟩
  refine Q.set ac 4 rfl (fun _=>rfl) rfl c.toNat (by omega) hm b rfl rfl rfl fun h4 H4=>⟨trivial,hk a b h4 (H4.bo 6 [0,1,2,3,4,5])⟩
end
section
variable {B:aA} {h0 h:Heap} {As:List HP}
theorem RR{h:Heap}{Cs:List HP}(x:Sl)(m:Row)(nd:Nat)(z:Int)(H:aa B h0 h Cs)(A:z=nd)(w:nd<=64)(E:m.length<=2^20){L L2:aq}(v:L.ok h)(j:L2.ok h)(t:St B h0 Cs fun h=>Rd h x 1 az m){K:Sl->Sl->Heap->Prop}
  (u:∀a b h',aR (fun b=>b<h.size) h h'->aa B h0 h' (RA a (aM nd)::RA b m::Cs)->K a b h'):
  (aw xv (qB 23 (xk xq z) (xk xq z)) (.one (.sc .slc)) h fun p d=>
 (aq.ok L d)/\
 af xv 29 #[(xl x.ptr x.len x.cap)] (.one (.sc .slc)) d fun g f=>K p g f)/\(af xv 29 #[(xl x.ptr x.len x.cap)] (.one (.sc .slc)) h fun i e=>
 (aq.ok L2 e)/\
 aw xv (qB 23 (xk xq z) (xk xq z)) (.one (.sc .slc)) e fun n l=>K n i l):=by
 subst A;constructor
 ·refine H.OW ac az fi (by decide) 0 rfl rfl nd nd rfl rfl (ql _) (by omega) fun a s _ q c=>⟨nY q v,?_⟩
  have c:=c.bH;refine(fm x m s (t.at [_] c)).mono ?_;rintro _ k ⟨b,rfl,r⟩;exact⟨b,rfl,u a b k (up q r.ag) ((c.cX r).uC)⟩
 ·refine(fm x m h (t.at [] H)).mono ?_;rintro _ s ⟨b,rfl,o⟩;have c:=H.cX o;refine⟨b,rfl,nY o.ag j,?_⟩;refine c.OW ac az fi (by decide) 0 rfl rfl nd nd rfl rfl (ql _) (by omega) fun a k _ y D=>?_;exact u a b k (up o.ag y) D.bH
structure lm (pool pl:List (Sl×Row)) (wr mr:List Sl) (W M:aQ):Prop where
 sub:∀x∈pool,x∈pl
 way:fb pl id wr W
 more:fb pl id mr M
theorem lm.step{pool pl:List (Sl×Row)}{e f:List Sl}{W M:aQ}(x:lm pool pl e f W M)(c:Nat)(a b:Sl)(l m:Row):lm pool ((b,m)::(a,l)::pl) (e.set c a) (f.set c b) (W.set c l) (M.set c m):=
 ⟨fun y d=>by simp[x.sub y d],(x.way.mono fun y d=>by simp[d]).set c (by simp),(x.more.mono fun y d=>by simp[d]).set c (by simp)⟩
theorem WQ(s f:Addr)(p:Int×Int×Int)(v r A o G a5 bk:Sl)(rr:List (Sl×Sl))(R:List eI)(ST:List (Int×Int))(D L:aB)(n nd w:Nat)(pool:List (Sl×Row))(H:aa B h0 h (SA s (fP f p v r A o G a5 bk)::ke pool::As))(X:St B h0 As fun h=>WO h f r A o G rr R ST D L)
  (hv:v.len=n) (hn:n<=64) (hp:p.2.2=w) (hw:w<=2^20) (b2:D.length=nd) (ad:nd<=64) (hR:∀e∈R,ib n w e) (hD:∀c∈D,0<=c/\c<(n:Int)) (b0:D.Nodup) (hg:rY (R.map qK) (·∈D) ST) (cf:ST.length<=2^20) (b7:∀e∈R,e.1.length<=2^20) (bl:(⟨none,0,0⟩,[])∈pool):
  ab xv 124 #[xm (some s)] h fun v' h'=>v'=.tuple #[]/\∃k l z u pl,aa B h0 h' (Told s f p v r A o G k l z u pl++As)/\lm pool pl z u (ST.foldl (gh R nd) (fx n nd w D)).1 (ST.foldl (gh R nd) (fx n nd w D)).2:=by
 refine xR (some s) ?_;unfold ov;have hb:=H.box 0 rfl;have a7:o.len=nd:=by rw[(X.at [_,_] H).dead.len,b2]
 refine⟨s,rfl,o,show cellOf h (s.add 7)=_ from hb.cell rfl,?_⟩;refine bO (fun _ h'=>∃k l,k.len=n/\l.len=n/\aa B h0 h' (Told s f p v r A o G k l (qg n ⟨none,0,0⟩) (qg n ⟨none,0,0⟩) pool++As)) ?_ ?_
 ·exact TN (K:=fun _ h'=>∃k l,k.len=n/\l.len=n/\aa B h0 h' (Told s f p v r A o G k l (qg n ⟨none,0,0⟩) (qg n ⟨none,0,0⟩) pool++As)) s f p v r A o G a5 bk n pool H hv hn fun k l h' h1 h2 N=>⟨k,l,h1,h2,N⟩
 rintro-h1 ⟨k,l,c0,cr,H1⟩;have b5:=H1.box 0 rfl;refine⟨s,rfl,o,show cellOf h1 (s.add 7)=_ from b5.cell rfl,?_⟩;refine au (fun t:Nat×List Sl×List Sl×List (Sl×Row)=>(t.1:Int)) (fun t h'=>t.1<=nd/\aa B h0 h' (Told s f p v r A o G k l t.2.1 t.2.2.1 t.2.2.2++As)/\lm pool t.2.2.2 t.2.1 t.2.2.1 (fx n nd w (D.take t.1)).1 (fx n nd w (D.take t.1)).2) (fun t=>nd-t.1)
  (0,qg n ⟨none,0,0⟩,qg n ⟨none,0,0⟩,pool) rfl ⟨by omega,H1,⟨fun _ h=>h,Lc pool bl n,Lc pool bl n⟩⟩ ?_
 rintro⟨i,z,u,pl⟩ h2 ⟨hi,H2,T2⟩;dsimp only at*;have bs:=ZB n nd w (D.take i);have Q:=T2.way.1;have O:=T2.more.1;refine ai (fun e=>?_) (fun e=>?_)
 ·have Z:i<nd:=by omega
  have V:=hD _ (qh (show i<D.length by omega));refine(X.at [_,_,_,_] H2).dead.bt i rfl (by omega) _ rfl ?_;refine bO (fun _ h'=>∃a b,aa B h0 h' (RA a (aM nd)::RA b (aM w)::(Told s f p v r A o G k l (z.set D[i].toNat a) (u.set D[i].toNat b) pl++As))) ?_ ?_
  ·exact WP (K:=fun _ h'=>∃a b,aa B h0 h' (RA a (aM nd)::RA b (aM w)::(Told s f p v r A o G k l (z.set D[i].toNat a) (u.set D[i].toNat b) pl++As))) s f p v r A o G k l z u pl D[i] nd w H2 V.1 (by omega) (by omega) hp a7 ad hw fun a b h' N=>⟨a,b,N⟩
  rintro-h3 ⟨a,b,H3⟩;refine⟨s,rfl,k,(H3.box 2 rfl).cell rfl,?_⟩;refine(H3.seq 3 rfl fun _=>rfl).nM D[i].toNat (by omega) (by simp;omega) ?_;rw[List.getElem_set_self];refine H3.set ac 0 rfl (fun _=>rfl) rfl i rfl (by simp[aM];omega) 1 rfl rfl rfl fun h4 H4=>?_;have H5:=(H4.freeze 0 rfl fun _=>rfl).pool 5 0 (by decide) rfl rfl;have H6:=(H5.freeze 1 rfl fun _=>rfl).pool 5 1 (by decide) rfl rfl;refine⟨(i+1,z.set D[i].toNat a,u.set D[i].toNat b,_),by dsimp only;rw[aj _];rfl,⟨by dsimp only;omega,H6.bo 6 [2,3,4,5],?_⟩,by dsimp only;omega⟩;dsimp only;have e1:D.take (i+1)=D.take i++[D[i]]:=aH _ _;have e2:(D.take i).length=i:=by simp;omega
  rw[e1,JP,e2];exact T2.step D[i].toNat a b (nE nd i) (aM w)
 have ah:i=D.length:=by omega
 subst ah;rw[qX]at T2 bs Q O;refine⟨s,rfl,A,(H2.box 0 rfl).cell rfl,?_⟩;have cn:=(X.at [_,_,_,_] H2).steps.len;refine au (fun t:Nat×List Sl×List Sl×List (Sl×Row)=>(t.1:Int)) (fun t h'=>t.1<=ST.length/\aa B h0 h' (Told s f p v r A o G k l t.2.1 t.2.2.1 t.2.2.2++As)/\lm pool t.2.2.2 t.2.1 t.2.2.1 ((ST.take t.1).foldl (gh R nd) (fx n nd w D)).1 ((ST.take t.1).foldl (gh R nd) (fx n nd w D)).2) (fun t=>ST.length-t.1)
  (0,z,u,pl) rfl ⟨by simp,H2,T2⟩ ?_
 clear Q O T2 H2 hi e;rintro⟨i,z,u,pl⟩ h3 ⟨hi,H3,T3⟩;dsimp only at*;obtain⟨dk,-⟩:=LJ (nd:=nd) (w:=w) hD b0 D.length (ql _);rw[qX]at dk;have a1:=NX (l1:=ST.take i) (l2:=ST.drop i) (by rw[qx];exact hg);obtain⟨bd,-⟩:=IK hR a1.1 dk;obtain⟨W,hW⟩:∃W,W=((ST.take i).foldl (gh R nd) (fx n nd w D)).1:=⟨_,rfl⟩
 obtain⟨M,hM⟩:∃M,M=((ST.take i).foldl (gh R nd) (fx n nd w D)).2:=⟨_,rfl⟩
 have am:(ST.take i).foldl (gh R nd) (fx n nd w D)=(W,M):=by rw[hW,hM]
 have I:Yc n nd w (fun c=>c∈D∨∃j,(j,c)∈ST.take i) W M:=by rw[hW,hM];exact bd
 rw[<-hW,<-hM]at T3;clear bd hW hM;have cp:=I.wl;have c3:=I.ml;have Q:=T3.way.1;have O:=T3.more.1;refine ai (fun e=>?_) (fun e=>?_)
 ·have Z:i<ST.length:=by omega
  have ap:=a1.2;rw[qS Z]at ap;obtain⟨row,ba,ax⟩:∃row ba,ST[i]=(row,ba):=⟨_,_,rfl⟩
  rw[ax]at ap;obtain⟨g1,g2,g3,g4,-⟩:=ap;have m:row.toNat<R.length:=by have:=g1.2;rw[qD]at this;omega
  obtain⟨d,T⟩:∃d,d=R[row.toNat]:=⟨_,rfl⟩
  have er:R.getD row.toNat ([],[])=d:=by rw[qe,qd m,T];rfl
  have cc:(R.map qK).getD row.toNat []=d.1:=by rw[qe,List.getElem?_map,qd m,T];rfl
  rw[cc]at g3 g4;have J:=hR d (T▸qh m);have cs:=b7 d (T▸qh m);have cq:=J.cC ba g3;have G3:=X.at [_,_,_,_] H3;have hF:=G3.rest.2.1;refine G3.steps.ea (g:=fe) i rfl Z ST[i] rfl ?_;rw[ax];refine H3.EV ac rfl fun a50 h4 P4 H4=>?_;have H4:=H4.bH;refine H4.storeAll ac 0 rfl rfl (fe (row,ba)) rfl rfl rfl rfl fun h5 H5=>?_;have b1:row.toNat<rr.length:=by rw[hF];exact m
  obtain⟨y,hy⟩:∃y,y=rr[row.toNat]:=⟨_,rfl⟩
  have E:∀{h'},mY iK 2 qv h' r rr R->iK.p h' (fun b=>b<h'.size) y d:=fun hh=>by rw[hy,T];exact Fix.row hh m
  refine bO (fun a' h'=>aa B h0 h' (ar a' 183 (qv y)::ar a50 269 (fe (row,ba))::(Told s f p v r A o G k l z u pl++As))) ?_ ?_
  ·have bb:=H5.box 1 rfl;have G5:=X.at [_,_,_,_,_] H5;refine⟨s,rfl,r,bb.cell rfl,row,(H5.box 0 rfl).cell0 rfl,?_⟩;obtain⟨b4,ha,x,V,rfl⟩:=G5.rest.1.ea (g:=qv) (i:=row) row.toNat (by omega) b1 y (by rw[hy]) (K:=fun x=>x=y) rfl;refine⟨b4,ha,_,V,?_⟩;refine H5.EV ac rfl fun P h6 P6 H6=>⟨⟨mH V.1 P6,mH V.2.1 P6,mH ((H5.box 0 rfl).cell0 rfl) P6,mH (bb.cell rfl) P6,trivial⟩,?_⟩
   have H6:=H6.bH;refine H6.storeAll ac 0 rfl rfl (qv x) rfl rfl rfl rfl fun h7 H7=>⟨trivial,H7⟩
  intro P h7 H7;refine bO (fun t h'=>aa B h0 h' (RA t.1 (aM nd)::RA t.2 d.2::ar P 183 (qv y)::ar a50 269 (fe (row,ba))::(Told s f p v r A o G k l z u pl++As))) ?_ ?_
  ·have a9:=H7.box 0 rfl;refine⟨y.2,a9.cell rfl,?_⟩;exact RR (L:=[(P.add 1,xl y.2.ptr y.2.len y.2.cap)]) (K:=fun a b h'=>aq.ok [] h'/\aa B h0 h' (RA a (aM nd)::RA b d.2::ar P 183 (qv y)::ar a50 269 (fe (row,ba))::(Told s f p v r A o G k l z u pl++As))) y.2 d.2 nd _ H7 (by rw[a7]) ad (by rw[J.len];exact hw) ⟨a9.cell rfl,trivial⟩ (L2:=[]) trivial (St.mk' fun h' N=>(E (X.at [_,_,_,_,_,_] N).rest).2) fun a b h' _ N=>⟨trivial,N⟩
  rintro⟨S,q⟩ h8 H8;dsimp only at H8;refine⟨y.1,(H8.box 2 rfl).cell0 rfl,?_⟩;have c1:=(E (X.at [_,_,_,_,_,_,_,_] H8).rest).1.len;let F:Nat->aB:=fun j=>(d.1.take j).filter fun c=>!decide (c=ba);refine au (fun j:Nat=>(j:Int)) (fun j h'=>j<=d.1.length/\aa B h0 h' (RA S (cx W (aM nd) (F j))::RA q (cx M d.2 (F j))::ar P 183 (qv y)::ar a50 269 (fe (row,ba))::(Told s f p v r A o G k l z u pl++As))) (fun j=>d.1.length-j) 0 rfl ⟨by omega,by simpa[F,cx]using H8⟩ ?_;rintro j h9 ⟨hj,H9⟩;have told:∀c∈F j,(av W c.toNat).length=nd/\(av M c.toNat).length=w:=fun c V=>by
   have a0:=qJ.1 V;have hm:=zP a0.1;exact I.rw_ c (g4 c hm (by simpa using a0.2)) (J.cC c hm).1 (J.cC c hm).2
  have a2:(cx W (aM nd) (F j)).length=nd:=jg (by simp[aM]) fun c V=>(told c V).1;have a4:(cx M d.2 (F j)).length=w:=jg J.len fun c V=>(told c V).2;refine ai (fun e2=>?_) (fun e2=>?_)
  ·have U:j<d.1.length:=by omega
   have ay:=J.cC _ (qh U);refine(E (X.at [_,_,_,_,_,_,_,_] H9).rest).1.bt j rfl U _ rfl ?_;refine⟨ba,(H9.box 3 rfl).cell rfl,?_⟩;refine bV (fun a3=>?_) (fun cd=>?_)
   ·have tc:=I.rw_ d.1[j] (g4 _ (qh U) a3) ay.1 ay.2;refine(GI s f 1 d.1[j] S q k l _ _ z u W M H9 (St.mk' fun h' N=>?_) ay.1 (by omega) (by omega) (by rw[tc.1,a2]) (by rw[tc.2,a4]) (by omega) (by omega)).mono ?_
    ·exact Cl.of (N.box 2 rfl) (X.at [_,_,_,_,_,_] N).field (N.Dy 3 5 rfl rfl T3.way) (N.Dy 4 5 rfl rfl T3.more)
    rintro _ b9 ⟨rfl,Y⟩;have e3:F (j+1)=F j++[d.1[j]]:=by
     simp only[F];rw[iX _ _ U];simp[a3]
    exact⟨(),rfl,j+1,by rw[aj _];rfl,⟨by omega,by rw[e3,sF,sF];exact Y⟩,by omega⟩
   ·have e3:F (j+1)=F j:=by
     simp only[F];rw[iX _ _ U];simp[cd]
    exact⟨j+1,by rw[aj _];rfl,⟨by omega,by rw[e3];exact H9⟩,by omega⟩
  ·have bq:j=d.1.length:=by omega
   subst bq;have a6:=H9.box 3 rfl;have a8:=H9.box 4 rfl;refine⟨s,rfl,k,a8.cell rfl,ba,a6.cell rfl,s,rfl,l,a8.cell rfl,ba,a6.cell rfl,?_⟩;refine H9.set ac 5 rfl (fun _=>rfl) rfl ba.toNat (by omega) (by omega) S rfl rfl rfl fun b9 Y=>⟨⟨(Y.box 3 rfl).cell rfl,trivial⟩,?_⟩
   refine Y.set ac 6 rfl (fun _=>rfl) rfl ba.toNat (by omega) (by omega) q rfl rfl rfl fun c2 b6=>⟨trivial,?_⟩
   have br:=(b6.freeze 0 rfl fun _=>rfl).pool 7 0 (by decide) rfl rfl;have b3:=(br.freeze 1 rfl fun _=>rfl).pool 7 1 (by decide) rfl rfl;refine⟨(i+1,z.set ba.toNat S,u.set ba.toNat q,_),by dsimp only;rw[aj _];rfl,⟨by dsimp only;omega,b3.bo 8 [4,5,6,7],?_⟩,by dsimp only;omega⟩;dsimp only;rw[aH _ _ Z,zI,am,ax];have e3:[(row,ba)].foldl (gh R nd) (W,M)=(W.set ba.toNat (cx W (aM nd) (F d.1.length)),M.set ba.toNat (cx M d.2 (F d.1.length))):=by
    simp only[zD,wx,gh,er,F,qX]
   rw[e3];exact T3.step ba.toNat S q _ _
 ·have ah:i=ST.length:=by omega
  subst ah;rw[qX]at am;exact⟨rfl,k,l,z,u,pl,H3,by rw[am];exact T3⟩
end
def jJ(nd:Nat)(known:List Bool)(vals:aQ)(s:aQ×aQ)(i:Nat):aQ×aQ:=
 (s.1.mapIdx fun c r=>if c<i/\known.getD c false=true then aM nd else r,s.2.mapIdx fun c r=>if c<i/\known.getD c false=true then av vals c else r)
theorem WR(nd:Nat)(known:List Bool)(vals:aQ)(s:aQ×aQ):jJ nd known vals s 0=s:=by
 unfold jJ;refine yD ?_ ?_<;>refine wi (by simp) fun i b a=>?_<;>simp
theorem ZC(nd:Nat)(known:List Bool)(vals:aQ)(s:aQ×aQ){n:Nat}(a:s.1.length=n)(b:s.2.length=n):jJ nd known vals s n=gD nd known vals s:=by
 unfold jJ gD;refine yD ?_ ?_<;>refine wi (by simp) fun i a b=>?_<;>simp at a<;>simp[show i<n by omega]
theorem ZD(nd:Nat)(known:List Bool)(vals:aQ)(s:aQ×aQ){i:Nat}(d:known.getD i false=true):jJ nd known vals s (i+1)=((jJ nd known vals s i).1.set i (aM nd),(jJ nd known vals s i).2.set i (av vals i)):=by
 unfold jJ;refine yD ?_ ?_<;>refine wi (by simp) fun j f e=>?_<;>simp only[List.getElem_mapIdx,List.getElem_set]<;>by_cases c:i=j
 ·subst c;rw[if_pos ⟨by omega,d⟩,if_pos rfl]
 ·rw[if_neg c];congr 1;simp only[eq_iff_iff];constructor<;>rintro⟨a,b⟩<;>exact⟨by omega,b⟩
 ·subst c;rw[if_pos ⟨by omega,d⟩,if_pos rfl]
 ·rw[if_neg c];congr 1;simp only[eq_iff_iff];constructor<;>rintro⟨a,b⟩<;>exact⟨by omega,b⟩
theorem abG(nd:Nat)(known:List Bool)(vals:aQ)(s:aQ×aQ){i:Nat}(e:known.getD i false=false):jJ nd known vals s (i+1)=jJ nd known vals s i:=by
 have d:∀j,(j<i+1/\known.getD j false=true)↔(j<i/\known.getD j false=true):=fun j=>by
  constructor
  ·rintro⟨a,b⟩;by_cases c:j=i
   ·subst c;rw[e]at b;cases b
   ·exact⟨by omega,b⟩
  ·rintro⟨a,b⟩;exact⟨by omega,b⟩
 unfold jJ;simp only[d]
section
variable {B:aA} {h0 h:Heap} {As:List HP}
theorem ZE(s f:Addr)(p:Int×Int×Int)(v r N w L F G:Sl)(j d g:List Sl)(pl:List (Sl×Row))(known:List Bool)(V W M:aQ)(n nd:Nat)(H:aa B h0 h (Told s f p v r N w L F G d g pl++HA v j::As))(hn:n<=64)(u:w.len=nd)(Y:nd<=64)(hT:lm pl pl d g W M)(P:fb pl id j V)(ad:V.length=n)(y:W.length=n)(D:M.length=n)
  (hk:∀(c:Nat) (hc:c<j.length),j[c].ptr.isNone=!(known.getD c false)):
  ab xv 125 #[xm (some s)] h fun v' h'=>v'=.tuple #[]/\∃d g b,aa B h0 h' (Told s f p v r N w L F G d g b++HA v j::As)/\lm pl b d g (gD nd known V (W,M)).1 (gD nd known V (W,M)).2:=by
 refine AS (some s) ?_;unfold pj;have R:=P.1;have K:v.len=n:=by rw[(H.own 4 rfl).len];omega
 refine⟨s,rfl,v,(H.box 0 rfl).cell rfl,?_⟩;refine au (fun t:Nat×List Sl×List Sl×List (Sl×Row)=>(t.1:Int)) (fun t h'=>t.1<=n/\aa B h0 h' (Told s f p v r N w L F G t.2.1 t.2.2.1 t.2.2.2++HA v j::As)/\lm pl t.2.2.2 t.2.1 t.2.2.1 (jJ nd known V (W,M) t.1).1 (jJ nd known V (W,M) t.1).2) (fun t=>n-t.1) (0,d,g,pl) rfl ⟨by omega,H,by rw[WR];exact hT⟩ ?_;rintro⟨i,d,g,b⟩ h1 ⟨hi,z,k⟩;dsimp only at*;have S:(jJ nd known V (W,M) i).1.length=n:=by simp[jJ,y]
 have T:(jJ nd known V (W,M) i).2.length=n:=by simp[jJ,D]
 have Q:=k.way.1;have O:=k.more.1;refine ai (fun e=>?_) (fun e=>?_)
 ·have U:i<n:=by omega
  refine(z.seq 4 rfl fun _=>rfl).nM i rfl (by omega) ?_;have E:=hk i (by omega);refine be (fun q=>?_) (fun q=>?_)
  ·have o:known.getD i false=true:=by rw[E]at q;simpa using q
   have l:=z.box 0 rfl;refine⟨s,rfl,F,l.cell rfl,s,rfl,G,l.cell rfl,s,rfl,w,show cellOf h1 (s.add 7)=_ from l.cell rfl,?_⟩;refine z.OW ac az fi (by decide) 0 rfl rfl nd nd (by rw[u]) (by rw[u]) (ql _) (by omega) fun a h2 _ P2 I=>?_;have I:=I.bH;have m:=I.box 1 rfl;refine⟨⟨show cellOf h2 (s.add 7)=_ from m.cell rfl,m.cell rfl,m.cell rfl,trivial⟩,?_⟩;refine I.set ac 2 rfl (fun _=>rfl) rfl i rfl (by omega) a rfl rfl rfl fun h3 Z=>⟨trivial,?_⟩
   refine Z.set ac 3 rfl (fun _=>rfl) rfl i rfl (by omega) (j[i]'(by omega)) rfl rfl rfl fun h4 X=>⟨trivial,?_⟩
   have H5:=(X.freeze 0 rfl fun _=>rfl).pool 4 0 (by decide) rfl rfl;refine⟨(i+1,d.set i a,g.set i (j[i]'(by omega)),_),by dsimp only;rw[aj _];rfl,⟨by dsimp only;omega,H5.bo 5 [1,2,3,4],?_⟩,by dsimp only;omega⟩;dsimp only;rw[ZD nd known V (W,M) o];have hm:((j[i]'(by omega)),av V i)∈pl:=by
    have:=P.get (i:=i) (by omega);rw[lB (by omega)];exact this
   exact⟨fun x A=>qY _ (k.sub x A),(k.way.mono fun x A=>qY _ A).set i (by simp[aM]),(k.more.mono fun x A=>qY _ A).set i (qY _ (k.sub _ hm))⟩
  ·have o:known.getD i false=false:=by rw[E]at q;simpa using q
   exact⟨(i+1,d,g,b),by dsimp only;rw[aj _];rfl,⟨by dsimp only;omega,z,by dsimp only;rw[abG nd known V (W,M) o];exact k⟩,by dsimp only;omega⟩
 ·have J:i=n:=by omega
  subst J;exact⟨rfl,d,g,b,z,by rw[<-ZC nd known V (W,M) y D];exact k⟩
def mJ(nd:Nat)(known:List Bool)(vals W M D:aQ)(i:Nat):aQ:=vals.mapIdx fun c r=>if c<i/\known.getD c false=false then gb D (av W c) (av M c) nd else r
theorem ZF(nd:Nat)(known:List Bool)(vals W M D:aQ):mJ nd known vals W M D 0=vals:=by
 unfold mJ;refine wi (by simp) fun i b a=>?_;simp
theorem abH(nd:Nat)(known:List Bool)(vals W M D:aQ){n:Nat}(a:vals.length=n):mJ nd known vals W M D n=uN nd known vals W M D:=by
 unfold mJ uN;refine wi (by simp) fun i a b=>?_;simp at a;simp only[List.getElem_mapIdx];cases hk:known.getD i false
 ·rw[if_pos ⟨by omega,rfl⟩,if_neg (by simp)]
 ·rw[if_neg (by simp),if_pos rfl]
theorem abI(nd:Nat)(known:List Bool)(vals W M D:aQ){i:Nat}(e:known.getD i false=true):mJ nd known vals W M D (i+1)=mJ nd known vals W M D i:=by
 have d:∀j,(j<i+1/\known.getD j false=false)↔(j<i/\known.getD j false=false):=fun j=>by
  constructor
  ·rintro⟨a,b⟩;by_cases c:j=i
   ·subst c;rw[e]at b;cases b
   ·exact⟨by omega,b⟩
  ·rintro⟨a,b⟩;exact⟨by omega,b⟩
 unfold mJ;simp only[d]
theorem adR(nd:Nat)(known:List Bool)(vals W M D:aQ){i:Nat}(d:known.getD i false=false):mJ nd known vals W M D (i+1)=(mJ nd known vals W M D i).set i (gb D (av W i) (av M i) nd):=by
 unfold mJ;refine wi (by simp) fun j f e=>?_;simp only[List.getElem_mapIdx,List.getElem_set];by_cases c:i=j
 ·subst c;rw[if_pos ⟨by omega,d⟩,if_pos rfl]
 ·rw[if_neg c];congr 1;simp only[eq_iff_iff];constructor<;>rintro⟨a,b⟩<;>exact⟨by omega,b⟩
theorem ZG(s f:Addr)(p:Int×Int×Int)(v r Z T Y G K dead:Sl)(g A z dr:List Sl)(pl:List (Sl×Row))(known:List Bool)(V W M D:aQ)(n nd w:Nat)(H:aa B h0 h (Told s f p v r Z T Y G K A z pl++HA v g::As))(hS:St B h0 As fun h=>gp h f/\gc h (fun b=>b<h.size) dead 1 az D dr)(hn:n<=64)(hw:w<=2^20)(a9:nd<=64)(X:lm pl pl A z W M)(hV:fb pl id g V)(N:V.length=n)(a8:W.length=n)(bk:M.length=n)
  (F:∀c,c<n->(av W c).length=nd/\(av M c).length=w) (bl:D.length=nd) (I:aY w D) (hk:∀(c:Nat) (l:c<g.length),g[c].ptr.isNone=!(known.getD c false)):
  ab xv 128 #[xm (some s),dead] h fun v' h'=>v'=.tuple #[]/\∃E a,aa B h0 h' (Told s f p v r Z T Y G K A z a++HA v E::As)/\fb a id E (uN nd known V W M D):=by
 refine BI (some s) dead ?_;unfold pL;have a7:=hV.1;have a1:v.len=n:=by rw[(H.own 4 rfl).len];omega
 have a5:=X.way.1;have a4:=X.more.1;refine⟨s,rfl,v,(H.box 0 rfl).cell rfl,?_⟩;refine au (fun t:Nat×List Sl×List (Sl×Row)=>(t.1:Int)) (fun t h'=>t.1<=n/\aa B h0 h' (Told s f p v r Z T Y G K A z t.2.2++HA v t.2.1::As)/\fb t.2.2 id t.2.1 (mJ nd known V W M D t.1)/\(∀x∈pl,x∈t.2.2)/\∀(c:Nat) (l:c<t.2.1.length),t.1<=c->t.2.1[c].ptr.isNone=!(known.getD c false)) (fun t=>n-t.1) (0,g,pl) rfl ⟨by omega,H,by rw[ZF];exact hV,fun _ h=>h,fun c l _=>hk c l⟩ ?_;rintro⟨i,g,a⟩ h1 ⟨hi,o,U,d,q⟩;dsimp only at*;have bq:(mJ nd known V W M D i).length=n:=by simp[mJ,N]
 have a6:=U.1;refine ai (fun e=>?_) (fun e=>?_)
 ·have a2:i<n:=by omega
  have L:=o.box 0 rfl;refine⟨s,rfl,v,L.cell rfl,?_⟩;refine(o.seq 4 rfl fun _=>rfl).nM i rfl (by omega) ?_;have R:=q i (by omega) (ql _);refine be (fun P=>?_) (fun P=>?_)
  ·have u:known.getD i false=true:=by rw[R]at P;simpa using P
   exact⟨(i+1,g,a),by dsimp only;rw[aj _];rfl,⟨by dsimp only;omega,o,by dsimp only;rw[abI nd known V W M D u];exact U,d,fun c l h=>q c l (by dsimp only at h;omega)⟩,by dsimp only;omega⟩
  have u:known.getD i false=false:=by rw[R]at P;simpa using P
  have ax:=F i a2;have ay:((z[i]'(by omega)),av M i)∈a:=by
   have:=(X.more.mono d).get (i:=i) (by omega);rw[lB (by omega)];exact this
  have O:((A[i]'(by omega)),av W i)∈a:=by
   have:=(X.way.mono d).get (i:=i) (by omega);rw[lB (by omega)];exact this
  refine⟨s,rfl,K,L.cell rfl,?_⟩;refine(o.seq 2 rfl fun _=>rfl).nM i rfl (by omega) ?_;refine(fm _ (av M i) h1 (o.KY 3 rfl ay)).mono ?_;rintro _ h2 ⟨b,rfl,R2⟩;have S:=o.cX R2;have a3:=S.box 1 rfl;refine⟨b,rfl,s,rfl,G,a3.cell rfl,?_⟩;refine(S.seq 2 rfl fun _=>rfl).nM i rfl (by omega) ?_;have a0:=(S.KY 4 rfl O).len;refine au (fun j:Nat=>(j:Int)) (fun j h'=>j<=nd/\aa B h0 h' (RA b (gb D (av W i) (av M i) j)::(Told s f p v r Z T Y G K A z a++HA v g::As))) (fun j=>nd-j) 0 rfl ⟨by omega,S⟩ ?_;rintro j h3 ⟨hj,J⟩;refine ai (fun e3=>?_) (fun e3=>?_)
  ·have bd:j<nd:=by omega
   have y:j<(av W i).length:=by omega
   refine(J.KY 4 rfl O).bt j rfl y _ rfl ?_;obtain⟨S1,S2⟩:=hS.at [_,_,_,_,_,_] J;have bb:=S2.len;refine S2.top.nM j rfl (by omega) ?_;have ap:(D[j]'(by omega)).length=w:=I _ (qh _);have Q:(av W i)[j]'y=aE (av W i) j:=by rw[aE,qe,qd y];rfl
   have ah:(gb D (av W i) (av M i) j).length=w:=kO _ ax.2 fun k hk=>bP I;rw[Q];refine GH s f (aE (av W i) j) (dr[j]'(by omega)) b (D[j]'(by omega)) _ J (St.mk' fun h' H'=>?_) (by rw[ap,ah]) (by omega) fun h4 H4=>?_
   ·obtain⟨q1,q2⟩:=hS.at [_,_,_,_,_] H';exact⟨(H'.box 0 rfl).cell0 rfl,q1,q2.row _ _ _ (qd _) (qd _)⟩
   ·refine⟨j+1,by rw[aj _];rfl,⟨by omega,?_⟩,by omega⟩;rw[gb,lB (m:=D) (i:=j) (by omega)];exact H4
  ·have am:j=nd:=by omega
   subst am;refine⟨s,rfl,v,(J.box 1 rfl).cell rfl,?_⟩;refine J.set ac 5 rfl (fun _=>rfl) rfl i rfl (by omega) b rfl rfl rfl fun h4 H4=>?_;have H5:=(H4.freeze 0 rfl fun _=>rfl).pool 4 0 (by decide) rfl rfl;refine⟨(i+1,g.set i b,_),by dsimp only;rw[aj _];rfl,⟨by dsimp only;omega,H5.bo 6 [1,2,3,4,5],?_,fun x hx=>qY _ (d x hx),fun c l h=>?_⟩,by dsimp only;omega⟩
   ·dsimp only;rw[adR j known V W M D u];exact(U.mono fun x hx=>qY _ hx).set i (by simp)
   ·dsimp only at l h⊢;rw[List.getElem_set_ne (by omega)];exact q c (by simpa using l) (by omega)
 ·have ad:i=n:=by omega
  subst ad;exact⟨rfl,g,a,o,by rw[<-abH nd known V W M D N];exact U⟩
end
section
variable {B:aA} {h0 h:Heap} {As:List HP}
abbrev MA(s:Sl)(m:aQ):HP:=dJ 23 s 1 az m
abbrev RS:iO Sl Row:=aeg (ft 1 az) fun r _=>r.len<=r.cap
abbrev CA(s:Sl)(m:aQ):HP:=dK 23 s 1 bD RS m
theorem aa.ZH{e:Nat}{s:Sl}{l:Row}(H:aa B h0 h As)(i:Nat)(c:As[i]?=some (an e s 1 az l)):aa B h0 h (As.set i (EA RS s l)):=
 H.ga i c fun _ ⟨a,b⟩=>⟨a.seq (fun _=>rfl) b,a.cap⟩
theorem WS(s f:Addr)(p:Int×Int×Int)(v r T J Q I N:Sl)(G m:List Sl)(pl:List (Sl×Row))(rr:List (Sl×Sl))(R:List eI)(ST:List (Int×Int))(D L:aB)(W M:aQ)(n nd w:Nat)(H:aa B h0 h (Told s f p v r T J Q I N G m pl++As))(hS:St B h0 As fun h=>WO h f r T J Q rr R ST D L)
  (hn:n=p.1.toNat+p.2.1.toNat) (hp:p.2.2=w) (hw:w<=2^20) (a0:bA p=true) (bq:D.length=nd) (bd:nd<=64) (hR:∀e∈R,ib n w e) (b2:∀e∈R,e.1.length<=2^20) (hL:∀i∈L,0<=i/\i<(R.length:Int)) (cn:L.length<=2^20) (hT:lm pl pl G m W M) (cd:W.length=n) (cs:M.length=n)
  (o:∀c,c<n->(av W c).length=nd/\(av M c).length=w):
  ab xv 126 #[xm (some s)] h fun v' h'=>∃a b:Sl,v'=.tuple #[a,b]/\aa B h0 h' (MA a (cZ n nd R W L (bc p.1.toNat p.2.1.toNat))::CA b (eZ n w R M L (bc p.1.toNat p.2.1.toNat))::(Told s f p v r T J Q I N G m pl++As)):=by
 refine xS (some s) ?_;unfold ow;have hb:=H.box 0 rfl;have Z:J.len=nd:=by rw[(hS.at [_,_,_,_] H).dead.len,bq]
 have cr:=(bC p).1 a0;have b6:=hT.way.1;have b5:=hT.more.1;refine⟨s,rfl,J,show cellOf h (s.add 7)=_ from hb.cell rfl,s,rfl,Q,show cellOf h (s.add 8)=_ from hb.cell rfl,?_⟩;have cq:=(hS.at [_,_,_,_] H).left.len;have a1:∀{h':Heap} {Cs:List HP},aa B h0 h' (Cs++(Told s f p v r T J Q I N G m pl++As))->aa B h0 h' (Told s f p v r T J Q I N G m pl++As):=fun{h' Cs} S=>S.take Cs.length fun i A hi=>by
  rw[List.getElem?_append_right (by omega),Nat.add_sub_cancel_left];exact hi
 have SR:∀{h':Heap},aa B h0 h' (Told s f p v r T J Q I N G m pl++As)->Cl h' s f I N G m W M:=fun S=>Cl.of (S.box 0 rfl) (hS.at [_,_,_,_] S).field (S.Dy 1 3 rfl rfl hT.way) (S.Dy 2 3 rfl rfl hT.more);let rA:Int->Row:=fun i=>cx W (aM nd) (R.getD i.toNat ([],[])).1;let rB:Int->Row:=fun i=>cx M (R.getD i.toNat ([],[])).2 (R.getD i.toNat ([],[])).1;have H0:aa B h0 h (MA ⟨none,0,0⟩ []::CA ⟨none,0,0⟩ []::(Told s f p v r T J Q I N G m pl++As)):=((H.Vd 23 1 bD RS).bH.CB 23 1 az).bH;refine au (fun t:Nat×Sl×Sl=>(t.2.1,t.2.2,(t.1:Int))) (fun t h'=>t.1<=L.length/\aa B h0 h' (MA t.2.1 ((L.take t.1).map rA)::CA t.2.2 ((L.take t.1).map rB)::(Told s f p v r T J Q I N G m pl++As))) (fun t=>L.length-t.1) (0,⟨none,0,0⟩,⟨none,0,0⟩) rfl ⟨by simp,H0⟩ ?_;rintro⟨i,a,b⟩ h1 ⟨hi,H1⟩;dsimp only at*;refine ai (fun e=>?_) (fun e=>?_)
 ·have E:i<L.length:=by omega
  have G1:=hS.at [_,_,_,_,_,_] H1;refine G1.left.bt i rfl E _ rfl ?_;have hx:=hL _ (qh E);generalize b3:L[i]=x at hx⊢;have F:x.toNat<R.length:=by omega
  obtain⟨d,ap⟩:∃d,d=R[x.toNat]:=⟨_,rfl⟩
  have er:R.getD x.toNat ([],[])=d:=by rw[qe,qd F,ap];rfl
  have ay:=hR d (ap▸qh F);have cf:=b2 d (ap▸qh F);have hF:=G1.rest.2.1;have bb:x.toNat<rr.length:=by rw[hF];exact F
  obtain⟨y,hy⟩:∃y,y=rr[x.toNat]:=⟨_,rfl⟩
  have O:∀{h'},mY iK 2 qv h' r rr R->iK.p h' (fun b=>b<h'.size) y d:=fun hh=>by rw[hy,ap];exact Fix.row hh F
  refine bO (fun t h'=>aa B h0 h' (RA t.1 (aM nd)::RA t.2 d.2::MA a ((L.take i).map rA)::CA b ((L.take i).map rB)::(Told s f p v r T J Q I N G m pl++As))) ?_ ?_
  ·have ax:=H1.box 2 rfl;refine⟨s,rfl,r,ax.cell rfl,?_⟩;obtain⟨bk,ha,z,hc,rfl⟩:=G1.rest.1.ea (g:=qv) (i:=x) x.toNat (by omega) bb y (by rw[hy]) (K:=fun z=>z=y) rfl;refine⟨bk,ha,z.2,hc.2.1,?_⟩;have a2:aq.ok [(s.add 5,xl r.ptr r.len r.cap)] h1:=⟨ax.cell rfl,trivial⟩
   exact RR (L:=[((bk.add (x.toNat*2)).add 1,xl z.2.ptr z.2.len z.2.cap),(s.add 5,xl r.ptr r.len r.cap)]) (L2:=[(s.add 5,xl r.ptr r.len r.cap)]) (K:=fun a' b' h'=>aq.ok [(s.add 5,xl r.ptr r.len r.cap)] h'/\aa B h0 h' (RA a' (aM nd)::RA b' d.2::MA a ((L.take i).map rA)::CA b ((L.take i).map rB)::(Told s f p v r T J Q I N G m pl++As)))
    z.2 d.2 nd _ H1 (by rw[Z]) bd (by rw[ay.len];exact hw) ⟨hc.2.1,a2⟩ a2 (St.mk' fun h' S=>(O (hS.at [_,_,_,_,_,_] S).rest).2) fun a b h' P S=>⟨nY P a2,S⟩
  rintro⟨ad,u⟩ h2 H2;dsimp only at H2;have G2:=hS.at [_,_,_,_,_,_,_,_] H2;refine⟨s,rfl,r,(H2.box 4 rfl).cell rfl,?_⟩;obtain⟨b1,ha,z,hc,rfl⟩:=G2.rest.1.ea (g:=qv) (i:=x) x.toNat (by omega) bb y (by rw[hy]) (K:=fun z=>z=y) rfl;refine⟨b1,ha,z.1,hc.1,?_⟩;have br:=(O G2.rest).1.len;refine au (fun j:Nat=>(j:Int)) (fun j h'=>j<=d.1.length/\aa B h0 h' (RA ad (cx W (aM nd) (d.1.take j))::RA u (cx M d.2 (d.1.take j))::MA a ((L.take i).map rA)::CA b ((L.take i).map rB)::(Told s f p v r T J Q I N G m pl++As))) (fun j=>d.1.length-j) 0 rfl ⟨by omega,by simpa[cx]using H2⟩ ?_;rintro j h3 ⟨hj,X⟩;have told:∀c∈d.1.take j,(av W c.toNat).length=nd/\(av M c.toNat).length=w:=fun c hc=>by
   have cc:=ay.cC c (zP hc);exact o c.toNat (by omega)
  have V:(cx W (aM nd) (d.1.take j)).length=nd:=jg (by simp[aM]) fun c hc=>(told c hc).1;have Y:(cx M d.2 (d.1.take j)).length=w:=jg ay.len fun c hc=>(told c hc).2;refine ai (fun e2=>?_) (fun e2=>?_)
  ·have am:j<d.1.length:=by omega
   have b4:=ay.cC _ (qh am);refine(O (hS.at [_,_,_,_,_,_,_,_] X).rest).1.bt j rfl am _ rfl ?_;have tc:=o d.1[j].toNat (by omega);refine(GI s f 1 d.1[j] ad u I N _ _ G m W M X (St.mk' fun h' S=>SR (a1 (Cs:=[_,_]) S)) b4.1 (by omega) (by omega) (by rw[tc.1,V]) (by rw[tc.2,Y]) (by omega) (by omega)).mono ?_;rintro _ h4 ⟨rfl,U⟩;exact⟨(),rfl,j+1,by rw[aj _];rfl,⟨by omega,by rw[aH _ _ am,sF,sF];exact U⟩,by omega⟩
  ·have a4:j=d.1.length:=by omega
   subst a4;rw[qX]at X;have U:=aa.ZH (X.freeze 0 rfl fun _=>rfl) 1 rfl;refine U.nX ac 2 0 (by decide) rfl rfl fa (by simp;omega) fun a' h5 H5=>?_;refine H5.JC ac 3 1 (by decide) rfl rfl fa rfl (by decide) (fun _=>rfl) kY rfl (by decide) (by simp;omega) fun b' h6 H6=>?_;refine⟨(i+1,a',b'),by dsimp only;rw[aj _];rfl,⟨by dsimp only;omega,?_⟩,by dsimp only;omega⟩;dsimp only;rw[aH _ _ E,qW,qW,b3];have e3:[x].map rA=[cx W (aM nd) d.1]:=by simp only[wj,vj,rA,er]
   have e4:[x].map rB=[cx M d.2 d.1]:=by simp only[wj,vj,rB,er]
   rw[e3,e4];exact H6.bo 8 [2,3,4,5,6,7]
 have a3:i=L.length:=by omega
 subst a3;rw[qX]at H1;have ax:=H1.box 2 rfl;refine⟨s,rfl,p,ax.cells 1 _ rfl,(Ep p h1).mono ?_⟩;rintro _ h2 ⟨q,rfl,R2⟩;rw[a0,if_pos rfl]at R2;obtain⟨l,a8⟩:∃l,l=bc p.1.toNat p.2.1.toNat:=⟨_,rfl⟩
 have b7:l.length=p.2.1.toNat:=by rw[a8];simp[bc]
 have a9:∀x∈l,x.length=n:=fun x hx=>by rw[hn];exact CL _ _ x (a8▸hx)
 rw[<-a8]at R2⊢;have H2:=(H1.cX R2).Vf 0 rfl;obtain⟨qr,H2⟩:=H2.PG 0 rfl fun _=>rfl;have b9:=(H2.fF 0 rfl).1.len;have cp:=(H2.fF 0 rfl).2.1;refine⟨q,rfl,?_⟩;let a5:Row->Row:=fun x=>gb W x (aM nd) n;let a6:Row->Row:=fun x=>gb M x (aM w) n;refine au (fun t:Nat×Sl×Sl=>(t.2.1,t.2.2,(t.1:Int))) (fun t h'=>t.1<=l.length/\aa B h0 h' (cS (ft 1 az) 1 bD q qr l::MA t.2.1 (L.map rA++(l.take t.1).map a5)::CA t.2.2 (L.map rB++(l.take t.1).map a6)::(Told s f p v r T J Q I N G m pl++As))) (fun t=>l.length-t.1) (0,a,b) rfl ⟨by simp,by simpa using H2⟩ ?_;rintro⟨i,a,b⟩ h3 ⟨hi,X⟩;dsimp only at*;refine ai (fun e=>?_) (fun e=>?_)
 ·have E:i<l.length:=by omega
  have bs:=a9 _ (qh E);have F3:=X.fF 0 rfl;refine F3.1.nM i rfl (by omega) ?_;have br:(qr[i]'(by omega)).len=n:=by rw[(Fix.row F3 E).len,bs]
  refine bO (fun t h'=>aa B h0 h' (RA t.1 (aM nd)::RA t.2 (aM w)::cS (ft 1 az) 1 bD q qr l::MA a (L.map rA++(l.take i).map a5)::CA b (L.map rB++(l.take i).map a6)::(Told s f p v r T J Q I N G m pl++As))) ?_ ?_
  ·have b0:=X.box 3 rfl;refine⟨s,rfl,p.2.2,show cellOf h3 (s.add 3)=_ from b0.cell rfl,?_,?_⟩
   ·refine X.make ac az fi (by decide) 0 rfl rfl nd nd (by rw[Z]) (by rw[Z]) (ql _) (by omega) fun x h4 _ _ U=>?_;have U:=U.bH;refine⟨⟨show cellOf h4 (s.add 3)=_ from(U.box 4 rfl).cell rfl,trivial⟩,?_⟩;refine U.make ac az fi (by decide) 0 rfl rfl w w hp hp (ql _) (by omega) fun y h5 _ _ H5=>⟨trivial,H5.bH.uC⟩
   ·refine X.make ac az fi (by decide) 0 rfl rfl w w hp hp (ql _) (by omega) fun y h4 _ _ U=>⟨trivial,?_⟩
    refine U.bH.make ac az fi (by decide) 0 rfl rfl nd nd (by rw[Z]) (by rw[Z]) (ql _) (by omega) fun x h5 _ _ H5=>⟨trivial,H5.bH⟩
  rintro⟨ad,u⟩ h4 U;dsimp only at U⊢;refine au (fun j:Nat=>(j:Int)) (fun j h'=>j<=n/\aa B h0 h' (RA ad (gb W l[i] (aM nd) j)::RA u (gb M l[i] (aM w) j)::cS (ft 1 az) 1 bD q qr l::MA a (L.map rA++(l.take i).map a5)::CA b (L.map rB++(l.take i).map a6)::(Told s f p v r T J Q I N G m pl++As))) (fun j=>n-j) 0 rfl ⟨by omega,U⟩ ?_;rintro j h5 ⟨hj,H5⟩;have V:(gb W l[i] (aM nd) j).length=nd:=kO _ (by simp[aM]) fun k hk=>(o k (by omega)).1;have Y:(gb M l[i] (aM w) j).length=w:=kO _ (by simp[aM]) fun k hk=>(o k (by omega)).2;refine ai (fun e2=>?_) (fun e2=>?_)
  ·have am:j<n:=by omega
   have a7:j<l[i].length:=by omega
   refine(Fix.row (H5.fF 2 rfl) E).bt j rfl a7 _ rfl ?_;have bl:l[i][j]'a7=aE l[i] j:=by rw[aE,qe,qd a7];rfl
   rw[bl];have tc:=o j am;refine(GI s f (aE l[i] j) (j:Int) ad u I N _ _ G m W M H5 (St.mk' fun h' S=>SR (a1 (Cs:=[_,_,_]) S)) (by omega) (by omega) (by omega) (by rw[qp,tc.1,V]) (by rw[qp,tc.2,Y]) (by omega) (by omega)).mono ?_;rintro _ h6 ⟨rfl,H6⟩;rw[qp]at H6;exact⟨(),rfl,j+1,by rw[aj _];rfl,⟨by omega,H6⟩,by omega⟩
  ·have a4:j=n:=by omega
   subst a4;have H6:=aa.ZH (H5.freeze 0 rfl fun _=>rfl) 1 rfl;refine H6.nX ac 3 0 (by decide) rfl rfl fa (by simp;omega) fun a' h7 H7=>?_;refine H7.JC ac 4 1 (by decide) rfl rfl fa rfl (by decide) (fun _=>rfl) kY rfl (by decide) (by simp;omega) fun b' h8 H8=>?_;refine⟨(i+1,a',b'),by dsimp only;rw[aj _];rfl,⟨by dsimp only;omega,?_⟩,by dsimp only;omega⟩;dsimp only;rw[aH _ _ E,qW,qW,<-qo,<-qo];exact H8.bo 9 [2,3,4,5,6,7,8]
 ·have a3:i=l.length:=by omega
  subst a3;rw[qX]at X;exact⟨a,b,rfl,X.rest⟩
end
end Go.Qw
