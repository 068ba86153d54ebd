/- Lemmas for the proof of the law; no condition. -/
import Derived.Test.YtnjommcknbionaaGreatDoorPlB
set_option linter.unusedVariables false
set_option linter.unusedSimpArgs false
open Go.IntKind renaming bits -> qf, i64 -> vR, signed -> wS, u32 -> vT, u64 -> vU, u8 -> vS, wrap -> qc
open Int renaming emod_lt_of_pos -> wK, emod_nonneg -> yg, fdiv -> qD, fdiv_eq_ediv_of_nonneg -> w9, tmod -> zQ
open List renaming append_assoc -> qm, drop_drop -> zo, drop_of_length_le -> q9, ext_getElem? -> zq, filter_append -> zf, filter_cons -> zu, filter_cons_of_pos -> yp, filter_eq_nil_iff -> w4, find?_eq_none -> w8, flatMap_append -> q7, foldl_cons -> zw, foldl_nil -> wj, getD_eq_getElem?_getD -> qg, getElem?_cons_succ -> qw, getElem?_cons_zero -> wU, getElem?_eq_getElem -> qd, getElem?_mapIdx -> yG, getElem?_toArray -> zB, getElem_mem -> qn, length_append -> qp, length_drop -> qR, length_take -> qO, mem_append -> qE, mem_cons -> zl, mem_cons_self -> qV, mem_filter -> q6, mem_flatMap -> zZ, mem_map -> qH, mem_or_eq_of_mem_set -> wv, mem_range -> qF, nil_append -> zO, pairwise_append -> wk, pairwise_cons -> zL, range -> qz, range_succ -> zx, replicate -> qi, take_append_drop -> qy, take_left -> vy, take_of_length_le -> qj
open BitVec renaming ofInt -> qq, ofInt_natCast -> wi, ofNat_toNat -> yV, setWidth_eq -> yW
open Nat renaming le_refl -> qt, min_eq_left -> wu, zero_add -> zU
open Option renaming map_some -> qK
open Go.Builtin renaming append_ -> qx, copy_ -> wq, firstCells -> wg
open UInt8 renaming ofNat -> w6
open Array renaming getElem?_modify -> wB
open Bool renaming and_eq_true -> qA, false_eq_true -> q0
open Go.Value renaming int -> vL
namespace Wl
def bC(p:Int×Int×Int):Bool:=decide (p.1>=1)&&(decide (p.1<=16)&&(decide (p.2.1>=1)&&(decide (p.2.1<=4)&&(decide (p.2.2>=1)&&decide (p.2.2<=24)))))
theorem bS(p:Int×Int×Int):bC p=true↔(1<=p.1/\p.1<=16)/\(1<=p.2.1/\p.2.1<=4)/\1<=p.2.2/\p.2.2<=24:=by
 simp[bC,and_assoc]
def ck(p:Int×Int×Int):Int:=if bC p then p.1+p.2.1 else 0
open Go
def Gb(s:Int):Int:=qc vU (qc vU (s*(6364136223846793005:Int))+(1442695040888963407:Int))
def told(s:Int):Int:=qc vT (qD (Gb s) (2^min (32:Int).toNat (qf vU)))
def jb(s n:Int):Int:=qc vR (zQ (qc vU (told s)) (qc vU n))
theorem wrap_u64(x:Int):qc vU x=x%18446744073709551616:=rfl
theorem oL(s n:Int)(e:0<n:=by omega)(f:n<=2^62:=by omega):0<=jb s n/\jb s n<n:=by
 unfold jb;have c:qc vU n=n:=by rw[wrap_u64];omega
 rw[c];have d:0<=qc vU (told s):=by rw[wrap_u64];omega
 have b:=Int.tmod_lt_of_pos (qc vU (told s)) e;have a:0<=zQ (qc vU (told s)) n:=Int.tmod_nonneg n d;rw[Go.Vc.ak _];exact⟨a,b⟩
def iy(l:aB)(i:Nat):Int:=l.getD i 0
def mQ(l:aB)(i j:Nat):aB:=(l.set i (iy l j)).set j (iy l i)
theorem Iz(l:aB)(i j:Nat):(mQ l i j).length=l.length:=by simp[mQ]
def eW(n:Nat)(s:Int)(l:aB):Nat->Int×aB
 |0=>(s,l)
 |k+1=>(Gb (eW n s l k).1,mQ (eW n s l k).2 k (k+(jb (eW n s l k).1 ((n-k:Nat):Int)).toNat))
theorem oM(n:Nat)(s:Int)(l:aB):∀k,(eW n s l k).2.length=l.length
 |0=>rfl
 |k+1=>by rw[eW,Iz,oM n s l k]
theorem Ch{l:aB}{i:Nat}(h:i<l.length):iy l i∈l:=by
 rw[iy,qg,qd h];exact qn h
theorem Rf{l:aB}{i j:Nat}(b:i<l.length)(a:j<l.length){x:Int}(c:x∈mQ l i j):x∈l:=by
 rcases wv c with h|h
 ·rcases wv h with h|h
  ·exact h
  ·rw[h];exact Ch a
 ·rw[h];exact Ch b
def upto(n:Nat):aB:=(qz n).map fun i:Nat=>(i:Int)
theorem fd(n:Nat):(upto n).length=n:=by simp[upto]
theorem Ci(n:Nat)(s:Int):∀k,k<=n->∀x∈(eW n s (upto n) k).2,0<=x/\x<n
 |0,_,x,hx=>by
  simp only[eW,upto,qH,qF]at hx;obtain⟨i,l,rfl⟩:=hx;omega
 |k+1,hk,x,hx=>by
  have d:k<n->n-k<=2^62->k+(jb (eW n s (upto n) k).1 ((n-k:Nat):Int)).toNat<n:=fun m j=>by
   have:=oL (eW n s (upto n) k).1 ((n-k:Nat):Int);omega
  have e:=oM n s (upto n) k;rw[fd]at e;by_cases b:n-k<=2^62
  ·refine Ci n s k (by omega) x (Rf (by omega) ?_ hx);have:=d (by omega) b;omega
  ·--beyond any size:what is set is 0 or a member
   have c:∀y∈mQ (eW n s (upto n) k).2 k (k+(jb (eW n s (upto n) k).1 ((n-k:Nat):Int)).toNat),y∈(eW n s (upto n) k).2∨y=0:=by
    intro y f;have g:∀i,iy (eW n s (upto n) k).2 i∈(eW n s (upto n) k).2∨iy (eW n s (upto n) k).2 i=0:=fun i=>by
     by_cases h:i<(eW n s (upto n) k).2.length
     ·exact .inl (Ch h)
     ·right;simp only[iy,qg];rw[List.getElem?_eq_none (by omega)];rfl
    rcases wv f with h|h
    ·rcases wv h with h|h
     ·exact .inl h
     ·rw[h];exact g _
    ·rw[h];exact g _
   rcases c x hx with h|h
   ·exact Ci n s k (by omega) x h
   ·subst h;omega
def iq(l:aB):aB:=l.mergeSort fun x y=>decide (x<=y)
theorem Gc(l:aB):(iq l).length=l.length:=List.length_mergeSort l
theorem Gd(l:aB)(x:Int):x∈iq l↔x∈l:=List.mem_mergeSort
def AJ(s:Int)(n k:Nat):aB:=iq ((eW n s (upto n) k).2.take k)
theorem Rg{s:Int}{n k:Nat}(a:k<=n){x:Int}(b:x∈AJ s n k):0<=x/\x<n:=
 Ci n s k a x (List.mem_of_mem_take ((Gd _ _).1 b))
theorem Rh(s:Int)(n k:Nat)(a:k<=n):(AJ s n k).length=k:=by
 rw[AJ,Gc,qO,oM,fd];omega
def dI(l:Nat):Nat:=if l<=1 then l else if l<=4 then 2 else if l<=9 then 3 else if l<=16 then 4 else 5
def AK(r:Nat):Nat:=if r=0 then 0 else if r=1 then 1 else if r<=3 then 2 else 3
def my(l k:Nat):Nat:=
 (if k>1 then 1048576/(k*(k-1))else 1048576/l)+
  (if k<l/dI l then 1048576*dI l/(l*k)else if k=l/dI l then 1048576*dI l*AK (dI l)/l else 0)
def jy(l:Nat):Nat->Nat
 |0=>0
 |k+1=>jy l k+my l (k+1)
def gy(l:Nat):aB:=(qz l).map fun k=>((jy l (k+1):Nat):Int)
theorem iK(l:Nat):(gy l).length=l:=by simp[gy]
def MD(t:aB)(x:Int):Nat:=(t.findIdx fun y=>decide (y>x))+1
theorem Dp:∀l,l<=20->∀k,k<=20->my l k<=2^30:=by decide+kernel
theorem AL(l:Nat)(a:l<=20):∀k,k<=20->jy l k<=k*2^30
 |0,_=>by simp[jy]
 |k+1,hk=>by
  have:=AL l a k (by omega);have:=Dp l a (k+1) hk;rw[jy];omega
theorem IA:∀l,l<=20->1<=l->0<jy l l:=by decide+kernel
theorem Dq(l:Nat)(h:1<=l):(gy l).getLast?=some ((jy l l:Nat):Int):=by
 obtain⟨k,rfl⟩:∃k,l=k+1:=⟨l-1,by omega⟩
 simp[gy,zx]
def OB(seed id:Int):Int:=qc vU (qc vT ((qq (qf vT) seed^^^(qq (qf vT) (qc vT ((qc vT id)*(2654435761:Int))))).toNat:Nat))
def HN(s:Int)(n:Nat):Nat:=MD (gy n) (jb s (jy n n))
theorem oN(s:Int)(n:Nat)(b:1<=n)(a:n<=20):HN s n<=n:=by
 unfold HN MD;have e:=IA n a b;have c:=AL n a n a;have d:=oL s (jy n n);have:=List.findIdx_lt_length_of_exists (p:=fun y=>decide (y>jb s (jy n n))) (xs:=gy n) ⟨_,List.mem_of_getLast? (Dq n b),by simpa using d.2⟩;rw[iK]at this;omega
def bD(id:Int):Bool:=decide (0<=id)&&decide (id<=65535)
def dM(n:Nat)(seed id:Int):aB:=AJ (Gb (Gb (OB seed id))) n (HN (Gb (OB seed id)) n)
theorem pO{n:Nat}(b:1<=n)(a:n<=20){seed id x:Int}(c:x∈dM n seed id):0<=x/\x<n:=Rg (oN _ n b a) c
theorem Ge{n:Nat}(b:1<=n)(a:n<=20)(seed id:Int):(dM n seed id).length<=n:=by
 rw[dM,Rh _ _ _ (oN _ n b a)];exact oN _ n b a
def eS(n:Nat)(l:aB):aQ:=l.foldl (fun r i=>r.set i.toNat 1) (qi n 0)
theorem mz(n:Nat)(l:aB):(eS n l).length=n:=by
 have:∀(l:aB) (r:aQ),(l.foldl (fun r i=>r.set i.toNat 1) r).length=r.length:=by
  intro l
  induction l with
  |nil=>intro r;rfl
  |cons a t ih=>intro r;rw[zw,ih];simp
 rw[eS,this];simp
def lr(n:Nat)(seed id:Int):aQ:=eS n (dM n seed id)
theorem Ri(n:Nat)(seed id:Int):(lr n seed id).length=n:=mz _ _
def iL(K H h:Nat):aQ:=(qz K).map (fun j=>Gf.pw ((h+1)*(j+1)%255))++(qz H).map fun i=>if i=h then 1 else 0
def bK(K H:Nat):cu:=(qz H).map (iL K H)
theorem IB(K H h:Nat):(iL K H h).length=K+H:=by simp[iL]
def dY(p:Int×Int×Int)(seed:Int)(a:aB):cu:=
 if bC p then bK p.1.toNat p.2.1.toNat++(a.filter bD).map (lr (ck p).toNat seed)else[]
theorem oO{α:Type}{f:α->Bool}{l:List α}{k:Nat}(a:k<l.length):(l.take (k+1)).filter f=if f l[k]then(l.take k).filter f++[l[k]]else(l.take k).filter f:=by
 rw[List.take_succ_eq_append_getElem a,zf];by_cases h:f l[k]=true<;>simp[h]
abbrev Row:=aQ
abbrev aT:=List Row
def scaleB(c:UInt8)(l:Row):Row:=l.map (Gf.mul c)
def cV(c:UInt8)(a to:Row):Row:=List.zipWith (fun x y=>y^^^Gf.mul c x) a to
def aJ(r:Row)(bp:Nat):UInt8:=r.getD bp 0
def az(m:aT)(i:Nat):Row:=m.getD i []
def fS(m:aT)(a bp:Nat):Option Nat:=(qz m.length).find? fun i=>decide (a<=i)&&(aJ (az m i) bp !=0)
def ge(m:aT)(i j:Nat):aT:=(m.set i (az m j)).set j (az m i)
def dn(a bp:Nat)(m:aT)(k:Nat):aT:=m.mapIdx fun i r=>if i<k/\i≠a then cV (aJ r bp) (az m a) r else r
def gG(a bp:Nat)(m:aT):aT:=m.set a (scaleB (Gf.inv (aJ (az m a) bp)) (az m a))
def gf(s:Nat×aT)(bp:Nat):Nat×aT:=
 match fS s.2 s.1 bp with
 |none=>s
 |some i=>(s.1+1,dn s.1 bp (gG s.1 bp (ge s.2 s.1 i)) s.2.length)
def bu(m:aT):Nat->Nat×aT
 |0=>(0,m)
 |c+1=>gf (bu m c) c
def fe(m:aT):Nat:=(az m 0).length
def cR(m:aT):Nat:=(bu m (fe m)).1
def aW(n:Nat)(m:aT):Prop:=∀r∈m,r.length=n
theorem pP(c:UInt8)(l:Row):(scaleB c l).length=l.length:=by simp[scaleB]
theorem bG{c:UInt8}{a t:Row}(h:a.length=t.length:=by omega):(cV c a t).length=t.length:=by simp[cV,h]
theorem bE{m:aT}{i:Nat}(h:i<m.length):az m i=m[i]:=by rw[az,qg,qd h];rfl
theorem bW{n:Nat}{m:aT}(h:aW n m){i:Nat}(a:i<m.length:=by omega):(az m i).length=n:=by rw[bE a];exact h _ (qn a)
theorem Cj{n:Nat}{m:aT}(h:aW n m){i:Nat}{r:Row}(a:r.length=n):aW n (m.set i r):=fun x b=>by
 rcases wv b with h1|h1
 ·exact h x h1
 ·rw[h1];exact a
theorem ME{P:Nat->Bool}{n:Nat}(h:∀j,j<n->P j=false):(qz n).find? P=none:=by
 rw[w8];intro x a;rw[qF]at a;simp[h x a]
theorem MF{P:Nat->Bool}{n k:Nat}(f:k<n)(h:∀j,j<k->P j=false)(d:P k=true):(qz n).find? P=some k:=by
 rw[List.find?_eq_some_iff_append];refine⟨d,qz k,List.range' (k+1) (n-k-1),?_,fun a b=>?_⟩
 ·rw[List.range_eq_range',List.range_eq_range'];have e:n=k+(n-k):=by omega
  have c:n-k=(n-k-1)+1:=by omega
  conv=>lhs;rw[e,<-List.range'_append_1 (s:=0) (m:=k) (n:=n-k)]
  rw[zU]
  conv=>lhs;rw[c,List.range'_succ]
 ·rw[qF]at b;simp[h a b]
theorem mR{m:aT}{a bp i:Nat}(h:fS m a bp=some i):a<=i/\i<m.length/\aJ (az m i) bp≠0:=by
 have b:=List.find?_some h;have c:=List.mem_of_find?_eq_some h;simp at b c;exact⟨b.1,c,b.2⟩
theorem KC{m:aT}{a bp:Nat}(h:fS m a bp=none):∀i,a<=i->i<m.length->aJ (az m i) bp=0:=fun i c b=>by
 have:=w8.1 h i (qF.2 b);simpa[c]using this
theorem iE(m:aT)(i j:Nat):(ge m i j).length=m.length:=by simp[ge]
theorem xi{n:Nat}{m:aT}(h:aW n m){i j:Nat}(b:i<m.length)(a:j<m.length):aW n (ge m i j):=Cj (Cj h (bW h a)) (bW h b)
theorem kL(t c:Nat)(m:aT):(gG t c m).length=m.length:=by simp[gG]
theorem pQ{n:Nat}{m:aT}(h:aW n m){t c:Nat}(a:t<m.length):aW n (gG t c m):=Cj h (by rw[pP];exact bW h a)
theorem kM(t c:Nat)(m:aT)(k:Nat):(dn t c m k).length=m.length:=by simp[dn]
theorem pR{n:Nat}{m:aT}(h:aW n m){t c k:Nat}(b:t<m.length):aW n (dn t c m k):=fun x e=>by
 obtain⟨i,d,rfl⟩:=List.mem_mapIdx.1 e;have a:=h _ (qn d);split
 ·rw[bG (by rw[bW h b,a])];exact a
 ·exact a
theorem OC(t c:Nat)(m:aT):dn t c m 0=m:=by
 apply zq;intro i;simp[dn,yG]
theorem mA{t c k:Nat}{m:aT}{i:Nat}(a:i<m.length):az (dn t c m k) i=if i<k/\i≠t then cV (aJ (az m i) c) (az m t) (az m i)else az m i:=by
 rw[bE (by rw[kM];exact a),bE a];simp[dn]
theorem OD{t c k:Nat}{m:aT}(d:k<m.length)(b:k≠t):dn t c m (k+1)=(dn t c m k).set k (cV (aJ (az m k) c) (az m t) (az m k)):=by
 apply zq;intro i;simp only[dn,List.getElem?_set,yG,List.length_mapIdx];by_cases a:k=i
 ·subst a;simp only[if_true,d,qd d,qK];rw[if_pos ⟨by omega,b⟩,bE d]
 ·rw[if_neg a];congr 1;funext r;by_cases h:i<k/\i≠t
  ·rw[if_pos h,if_pos ⟨by omega,h.2⟩]
  ·rw[if_neg h,if_neg (fun e=>h ⟨by omega,e.2⟩)]
theorem OE{t c:Nat}{m:aT}:dn t c m (t+1)=dn t c m t:=by
 apply zq;intro i;simp only[dn,yG];congr 1;funext r;by_cases h:i<t/\i≠t
 ·rw[if_pos h,if_pos ⟨by omega,h.2⟩]
 ·rw[if_neg h,if_neg (fun a=>h ⟨by omega,a.2⟩)]
theorem OF{n:Nat}{s:Nat×aT}(h:aW n s.2)(bp:Nat):aW n (gf s bp).2/\(gf s bp).2.length=s.2.length:=by
 unfold gf;cases hb:fS s.2 s.1 bp with
 |none=>exact⟨h,rfl⟩
 |some i=>
  have a:=mR hb;dsimp only;refine⟨pR (pQ (xi h (by omega) a.2.1) (by rw[iE];omega)) (by rw[kL,iE];omega),by rw[kM,kL,iE]⟩
theorem gp{n:Nat}{m:aT}(h:aW n m):∀c,aW n (bu m c).2/\(bu m c).2.length=m.length
 |0=>⟨h,rfl⟩
 |c+1=>by
  have:=gp h c;have a:=OF this.1 c;rw[bu];exact⟨a.1,by rw[a.2,this.2]⟩
theorem Rj{s:Nat×aT}(h:s.1<=s.2.length)(bp:Nat):(gf s bp).1<=(gf s bp).2.length:=by
 unfold gf;cases hb:fS s.2 s.1 bp with
 |none=>exact h
 |some i=>
  have a:=mR hb;dsimp only;rw[kM,kL,iE];omega
theorem te(m:aT):∀c,(bu m c).1<=(bu m c).2.length
 |0=>by simp[bu]
 |c+1=>Rj (te m c) c
end Wl
namespace Go.Vc
open Go
section
variable {C:Ctx} {t t2 ty e k:Nat} {z:aM} {by_:Nat} {α:Type} {h h0:Heap} {p B:ap} {s v:Sl} {f:α->aM} {l l2:List α} {As:List HP}
theorem Own.IC(Q:C.Ok)(O:bP C.torQ t e k z by_)(F:∀x,(f x).length=k)(o:Own h e s k f l)(R:Seq h p v k f l2)(u:∀x,∀c∈f x,c.oneCell'=true)(j:Nat)(T:j<=l.length){B:aK}{H U:Nat}(i:B=if s.cap=j then s.ptr else s.ptr.map (·.add (j*k)))(A:H=s.len-j){K:Int->Heap->Prop}
  (E:∀n M,Own M e s k f (l.take j++(l2.take (l.length-j)++l.drop (j+l2.length)))->aH (fun b=>¬s.on b) h M->K n M):
  aw C.P (wq #[t,t2] ty #[.slice B H U,.slice v.ptr v.len v.cap]) (.one (.sc (.int .i64))) h K:=by
 unfold aw wq;simp only[zB,wU,qw];refine ae.bind (ae.always (aE (O.under Q)) ?_);refine ae.bind (ae.pure' ?_);refine ae.bind (ae.always (O.size Q) ?_);have g:=o.len;have w:=R.len;have S:=o.cap;obtain⟨m,D⟩:∃m,m=Nat.min v.len H:=⟨_,rfl⟩
 rw[<-D];have J:m<=l2.length:=by rw[D,<-w];exact Nat.min_le_left _ _
 have q:m<=l.length-j:=by rw[D,<-g,A];exact Nat.min_le_right _ _
 have W:m=min l2.length (l.length-j):=by rw[D,A,g,w]
 have G:=R.take m J;have V:l2.take (l.length-j)++l.drop (j+l2.length)=l2.take m++l.drop (j+m):=by
  rcases Nat.le_total l2.length (l.length-j)with hh|hh
  ·rw[qj hh,show m=l2.length by omega,List.take_length]
  ·rw[show m=l.length-j by omega,q9 (show l.length<=j+l2.length by omega),q9 (by omega)]
 rw[V]at E;have N:wg k m (.slice v.ptr v.len v.cap)=wg k m (.slice v.ptr m v.cap):=by cases v.ptr<;>rfl
 rw[N];refine ae.bind (eJ (v:=⟨v.ptr,m,v.cap⟩) F G ?_);have d:m=0->l.take j++(l2.take m++l.drop (j+m))=l:=fun e=>by rw[e];simp
 rcases o.head with⟨h1,h2,h3⟩|⟨b,rest,h1,h2,h3,h4⟩
 ·have a:B=none:=by rw[i,h1];split<;>rfl
  rw[a];subst h3;have:m=0:=by simp at q;exact q
  refine ae.pure' ⟨_,rfl,E _ h ?_ (aH.refl _ _)⟩;rw[d this];exact o
 ·by_cases y:s.cap=j
  ·have a:B=some ⟨b,0,none⟩:=by rw[i,if_pos y,h1]
   rw[a];have r:m=0:=by omega
   refine ae.bind ?_;rw[r];simp only[List.take_zero,List.flatMap_nil];exact ae.pure' (ae.pure' ⟨_,rfl,E _ h (by rw[d r];exact o) (aH.refl _ _)⟩)
  ·have a:B=some ⟨b,0+j*k,none⟩:=by rw[i,if_neg y,h1];simp only[qK];rw[add_eq]
   rw[a];refine ae.bind ?_;have L:l.flatMap f++rest=(l.take j).flatMap f++((l.drop j).take m).flatMap f++((l.drop (j+m)).flatMap f++rest):=by
    rw[<-qm,<-q7,<-q7,<-zo,qm (List.take j l),qy,qy]
   rw[L]at h2;refine cN (e:=e) (pre:=(l.take j).flatMap f) (old:=((l.drop j).take m).flatMap f) (post:=(l.drop (j+m)).flatMap f++rest) h2 (by rw[cD F,cD F,qO,qO,qR];congr 1;omega) (by rw[cD F,qO];rw[wu T];omega) ?_ ?_
   ·intro c Y;obtain⟨x,_,I⟩:=zZ.1 Y;exact u x c I
   ·refine ae.pure' ⟨_,rfl,E _ _ ⟨by rw[g,qp,qp,qO,qO,qR];omega,.inr ⟨b,rest,h1,?_,h3,h4⟩⟩ (aH.fG h2 (fun X=>X ⟨0,h1⟩))⟩;rw[eG h2,if_pos rfl,q7,q7];simp[qm]
theorem aa.IC(w:C.Ok)(H:aa B h0 h As)(i:Nat)(o:As[i]?=some (ao e s k f l))(r:bP C.torQ t e k z by_)(F:∀x,(f x).length=k)(D:Seq h p v k f l2)(a:∀x,∀c∈f x,c.oneCell'=true)(j:Nat)(u:j<=l.length){q:aK}{m A:Nat}(g:q=if s.cap=j then s.ptr else s.ptr.map (·.add (j*k)))(d:m=s.len-j){K:Int->Heap->Prop}
  (E:∀n b,aa B h0 b (As.set i (ao e s k f (l.take j++(l2.take (l.length-j)++l.drop (j+l2.length)))))->K n b):
  aw C.P (wq #[t,t2] ty #[.slice q m A,.slice v.ptr v.len v.cap]) (.one (.sc (.int .i64))) h K:=
 (H.own i o).IC w r F D a j u g d fun n b x y=>E n b (H.jg i o y x)
end
end Go.Vc
namespace Wl
open Go
def b8(n:Int):UInt8:=w6 (n%256).toNat
theorem bX(n:Int):qc vS n=((b8 n).toNat:Int):=by
 have h0:=yg n (show(256:Int)≠0 by decide);have a:=wK n (show(0:Int)<256 by decide);have e:((b8 n).toNat:Int)=n%256:=by
  unfold b8;rw[UInt8.toNat_ofNat'];omega
 rw[e];unfold qc;simp[qf,wS]
abbrev ga:=BitVec 32
def fD(s:ga):ga:=if s&&&1#32=1#32 then(s>>>1)^^^3988292384#32 else s>>>1
def cG:Nat->ga->ga
 |0,s=>s
 |n+1,s=>fD (cG n s)
def ji(s:ga)(x:UInt8):ga:=cG 8 (s^^^BitVec.ofNat 32 x.toNat)
def fK(l:aQ):ga:=l.foldl ji 4294967295#32
def gT(l:aQ):ga:=4294967295#32^^^fK l
theorem Dr(l:aQ)(x:UInt8):fK (l++[x])=ji (fK l) x:=by unfold fK;rw[List.foldl_append];rfl
theorem ID(s:ga):qc vT ((s.toNat:Nat):Int)=(s.toNat:Int):=by
 have:=s.isLt;unfold qc;simp[qf,wS];omega
theorem AM(a b:ga):qc vT ((qq (qf vT) (a.toNat:Int)^^^qq (qf vT) (b.toNat:Int)).toNat:Nat)=((a^^^b).toNat:Int):=by
 show qc vT (((qq 32 (a.toNat:Int)^^^qq 32 (b.toNat:Int):BitVec 32).toNat:Nat):Int)=_;rw[wi,wi,yV,yV,yW,yW,ID]
theorem SP(a b:ga):qc vT ((qq (qf vT) (a.toNat:Int)&&&qq (qf vT) (b.toNat:Int)).toNat:Nat)=((a&&&b).toNat:Int):=by
 show qc vT (((qq 32 (a.toNat:Int)&&&qq 32 (b.toNat:Int):BitVec 32).toNat:Nat):Int)=_;rw[wi,wi,yV,yV,yW,yW,ID]
theorem Gg(n:Int):qc vT n=((qq 32 n).toNat:Int):=by
 unfold qc;simp[qf,wS,BitVec.toNat_ofInt];omega
theorem LO(s:ga):qD (s.toNat:Int) (2^min (1:Int).toNat (qf vT))=((s>>>1).toNat:Int):=by
 rw[show min (1:Int).toNat (qf vT)=1 from rfl,w9 _ (by decide),BitVec.toNat_ushiftRight,Nat.shiftRight_eq_div_pow];simp
theorem AN(s:ga):((s&&&1#32).toNat:Int)=1↔s&&&1#32=1#32:=by
 constructor
 ·intro h;apply BitVec.eq_of_toNat_eq;have:(1#32:ga).toNat=1:=rfl;omega
 ·intro h;rw[h];rfl
def hJ(s:ga):aQ:=(qz 4).map fun i=>b8 (qD (s.toNat:Int) (2^(8*i)))
theorem tf(s:ga):(hJ s).length=4:=by simp[hJ]
def ci(kind:Int)(a:aQ):aQ:=[87,115,1,b8 kind]++a++qi (55-a.length) 0
def cb(kind:Int)(a:aQ):aQ:=
 if 1<=kind/\kind<=255/\a.length<=55 then ci kind a++hJ (gT (ci kind a))++[165]else[]
theorem lu{kind:Int}{a:aQ}(h:a.length<=55):(ci kind a).length=59:=by simp[ci];omega
theorem jk{kind:Int}{a:aQ}(c:1<=kind)(b:kind<=255)(h3:a.length<=55):(cb kind a).length=64:=by
 unfold cb;rw[if_pos ⟨c,b,h3⟩];simp[lu h3,tf]
end Wl
namespace Go.Vc
open Go
def fW(s:ByteArray):aQ:=s.data.toList
theorem tg(s:ByteArray):(fW s).length=s.size:=rfl
def WG(n:Nat):Obj->Obj
 | .cells c elem (lo,hi)=>.cells c elem (if lo==hi then(n,n+1)else(min lo n,max hi (n+1)))
 |o=>o
theorem ae.OG{P:Program}{h:Heap}{b n:Nat}{c:Array Value}{e:TypeId}{K:Unit->Heap->Prop}(i:h[b]?=some (.cells c e (0,0)))(l:n=c.size)(j:∀a,(∀x,x≠b->a[x]?=h[x]?)->a.size=h.size->(∃f,a[b]?=some (.cells c e f))->K () a):
  ae P (freeze {block:=b,off:=n} 1) h K:=fun w g=>by
 refine⟨(),w.freeze {block:=b,off:=n} 1,run_freeze P w _ _,⟨rfl,rfl,rfl,qt _⟩,?_⟩;subst g;have d:(w.freeze {block:=b,off:=n} 1).heap=w.heap.modify b (WG n):=rfl;refine j _ (fun x k=>?_) ?_ ?_
 ·rw[d,wB,if_neg (fun e=>k e.symm)]
 ·rw[d];simp
 ·rw[d,wB,if_pos rfl,i];exact⟨_,rfl⟩
section
variable {C:Ctx} {B:ap} {h h0:Heap} {As:List HP} {t e ts:Nat}
theorem TX(j:C.Ok)(F:∃i,C.T.get ts=some i/\i.cj=.str)(u:∃i,C.T.get t=some i/\i.cj=.slice e)(q:∃i,C.T.get e=some i/\i.cj=.int .u8)(s:ByteArray){K:Sl->Heap->Prop}(G:∀r l,Sp h l [oG r 1 av (fW s)]->K r l):
  aw C.P (convert ts t (.string s)) (.one (.sc .slc)) h K:=by
 obtain⟨L,E,B⟩:=F;obtain⟨N,w,A⟩:=u;obtain⟨i3,a3,H⟩:=q;have y:C.P.underlying ts=some .string:=by have:=j.cj E;rw[B]at this;exact ow this
 have v:C.P.underlying t=some (.slice e):=by have:=j.cj w;rw[A]at this;exact gS this
 have u3:C.P.underlying e=some (.int .u8):=by have:=j.cj a3;rw[H]at this;exact AB this
 unfold aw convert;refine ae.bind (ae.always (aE y) ?_);refine ae.bind (ae.always (aE v) ?_);refine ae.bind (ae.always (aE u3) ?_);unfold Conv.stringToBytes;refine ae.bind (ae.EY ⟨fun J=>(by cases J),fun _ D=>?_⟩);generalize g:Question.cut (Question.appendCap s.size 0 e) D=cc;have o:s.size<=cc:=by rw[<-g];simp only[Question.cut];omega
 unfold newRow;refine ae.bind (ae.bind (ae.ms (ae.pure' ?_)));unfold markStringish;obtain⟨d,a⟩:∃d:Array Value,d=s.data.map (fun b=>Value.int .u8 b.toNat)++Array.replicate (cc-s.size) (Value.int .u8 0):=⟨_,rfl⟩
 rw[<-a];refine ae.bind (ae.bind (ae.UQ ?_));have k:shapeOf (h.push (.cells d e)) h.size=some (e,d.size):=by unfold shapeOf;simp
 dsimp only;rw[k];refine ae.OG (c:=d) (e:=e) (by simp) rfl fun l z n m=>?_;refine ae.pure' ⟨⟨some ⟨h.size,0,none⟩,s.size,cc⟩,rfl,G _ _ ?_⟩;obtain⟨f,m⟩:=m;refine .one ⟨by rw[n];simp,fun b M _=>by rw[z b (by omega),Array.getElem?_push,if_neg (by omega)]⟩ ?_;refine⟨by rw[tg],fun i x p=>⟨h.size,0,rfl,⟨qt _,by rw[n];simp⟩,?_,trivial⟩⟩;rw[add_zero];have I:i<s.data.size:=by have:=(List.getElem?_eq_some_iff.1 p).1;simpa[fW]using this
 unfold cellOf;simp only[m,Nat.mul_one,zU,Option.isSome_none,q0,if_false];rw[a,Array.getElem?_append_left (by simpa using I),Array.getElem?_map];have:s.data[i]?=some x:=by rw[<-p];simp[fW]
 rw[this];rfl
end
section
variable {C:Ctx} {t t2 e k:Nat} {z:aM} {by_:Nat} {h h0:Heap} {B:ap} {As:List HP} {s:Sl} {l:aQ}
theorem Ha(r:C.Ok)(B:bP C.torQ t e 1 z by_)(V:∃i,C.T.get t2=some i/\i.cj=.str)(R:z.length=1)(G:0<by_/\by_<=128)
  (u:Own h e s 1 av l) (x:ByteArray) (ad:l.length+x.size<=2^32) {ty:Nat} {K:Sl->Heap->Prop}
  (L:∀J M,Own M e J 1 av (l++fW x)->aH (fun b=>¬s.on b) h M->(∀b,J.on b->s.on b∨h.size<=b)->K J M):
  aw C.P (qx #[t,t2] ty #[.slice s.ptr s.len s.cap,.string x]) (.one (.sc .slc)) h K:=by
 obtain⟨i2,Q,g2⟩:=V;have I:C.P.underlying t2=some .string:=by have:=r.cj Q;rw[g2]at this;exact ow this
 obtain⟨E,v,x2,x3,zv,X,Y⟩:=B.info r;have p:∀y∈(fW x).flatMap av,y.oneCell'=true:=fun y hy=>by
  obtain⟨b,_,hb⟩:=zZ.1 hy;exact dN b y hb
 have g:((x.extract 0 x.size).data.map fun b=>Value.int .u8 (b.toNat:Int))=((fW x).flatMap av).toArray:=by
  have Z:x.extract 0 x.size=x:=by
   apply ByteArray.ext;simp[ByteArray.data_extract]
  rw[Z];apply Array.ext';simp only[Array.toList_map,fW];exact List.map_eq_flatMap
 unfold aw qx;simp only[zB,wU,qw];refine ae.bind (ae.always (aE (B.under r)) ?_);refine ae.bind (ae.always (B.size r) ?_);refine ae.bind (ae.always (aE I) ?_);refine ae.bind (ae.pure' ?_);simp only[q0,if_false,Bool.not_false,if_true];refine ae.bind (ae.pure' ?_);have k:=u.len;have w:∀y,(av y).length=1:=fun _=>rfl;have j:=cD w l;have a:=cD w (fW x);have S:=tg x;have m:∀{h:Heap} {K:Array Value->Heap->Prop},K ((fW x).flatMap av).toArray h->ae C.P (wg 1 x.size (.string x)) h K:=fun{h K} hK=>by
  unfold wg;dsimp only;rw[g];exact ae.pure' hK
 by_cases d:s.len+x.size<=s.cap
 ·rw[if_pos d];refine ae.bind (m ?_);rcases u.head with⟨p1,p2,p3⟩|⟨b,rest,p1,p2,p3,p4⟩
  ·rw[p1];have H:fW x=[]:=List.eq_nil_of_length_eq_zero (by omega);refine ae.pure' ⟨⟨none,s.len+x.size,s.cap⟩,rfl,L _ _ ⟨?_,.inl ⟨rfl,p2,by simp[p3,H]⟩⟩ (aH.refl _ _) ?_⟩
   ·simp;omega
   ·rintro N ⟨o,f⟩;cases f
  ·rw[p1];refine ae.bind ?_;rw[add_eq,zU];have A:((fW x).flatMap av).length<=rest.length:=by
    rw[a,p3];omega
   refine cN (e:=e) (pre:=l.flatMap av) (old:=rest.take ((fW x).flatMap av).length) (post:=rest.drop ((fW x).flatMap av).length) ?_ ?_ ?_ ?_ ?_
   ·rw[qm,qy];exact p2
   ·rw[qO];exact wu A
   ·rw[j,k];omega
   ·intro c hc;exact p c (by simpa using hc)
   ·refine ae.pure' ⟨⟨some ⟨b,0,none⟩,s.len+x.size,s.cap⟩,rfl,L _ _ ⟨?_,.inr ⟨b,rest.drop ((fW x).flatMap av).length,rfl,?_,?_,d⟩⟩ ?_ ?_⟩
    ·simp;omega
    ·rw[eG p2,if_pos rfl];simp
    ·rw[qR,p3,a];show(s.cap-s.len)*1-(fW x).length*1=(s.cap-(s.len+x.size))*1;omega
    ·exact aH.fG p2 (fun hn=>hn ⟨0,p1⟩)
    ·rintro N ⟨o,f⟩;cases f;exact .inl ⟨0,p1⟩
 ·rw[if_neg d];have n:Seq h (fun _=>True) s 1 av l:=u.seq w (fun _ _=>trivial);have O:=u.cap;refine ae.bind (ae.always (cw v) ?_);rw[if_neg (fun W=>by rcases W.2 with h|h<;>first|exact h|(rw[x3]at h;omega))];refine ae.bind (ae.always (cw v) ?_);have U:=LK (s.len+x.size) s.cap;rw[if_neg (by
   have:Builtin.nextslicecap (s.len+x.size) s.cap*E.bytes<=(16*2^32+16*768)*128:=Nat.mul_le_mul (by omega) (by rw[x3];exact G.2);omega)]
  refine ae.bind (ae.EY ⟨fun hf=>(by cases hf),fun _ nn=>?_⟩);refine ae.bind (ae.always (cw v) ?_);refine ae.bind (ae.BW ?_);refine ae.bind (eJ w n ?_);refine ae.bind (m ?_);have F:au C.P (zeroValue e) zv:=(cw v).bind (by rw[X];exact .pure);refine ae.bind (ae.always F ?_);rw[Y,ww];unfold newRow;refine ae.bind (ae.bind (ae.ms (ae.pure' (ae.pure' ?_))));generalize D:Question.cut (Question.appendCap (s.len+x.size) s.cap e) nn=cc;have q:s.len+x.size<=cc:=by rw[<-D];simp only[Question.cut];omega
  refine⟨⟨some ⟨h.size,0,none⟩,s.len+x.size,cc⟩,rfl,L _ _ ⟨?_,.inr ⟨h.size,fU z (cc-(s.len+x.size)),rfl,?_,?_,q⟩⟩ (aH.push _ _ _) ?_⟩
  ·simp;omega
  ·simp
  ·rw[kK,R]
  ·rintro N ⟨o,f⟩;cases f;exact .inr (qt _)
theorem aa.OH(r:C.Ok)(H:aa B h0 h As)(i:Nat)(F:As[i]?=some (ao e s 1 av l))(q:bP C.torQ t e 1 z by_)(v:∃i,C.T.get t2=some i/\i.cj=.str)(u:z.length=1)(k:0<by_/\by_<=128)
  (x:ByteArray) (n:l.length+x.size<=2^32) {ty:Nat} {K:Sl->Heap->Prop} (w:∀f g,aa B h0 g (As.set i (ao e f 1 av (l++fW x)))->K f g):
  aw C.P (qx #[t,t2] ty #[.slice s.ptr s.len s.cap,.string x]) (.one (.sc .slc)) h K:=by
 obtain⟨y,A,c,D,a⟩:=H;have j:=a i _ F;refine Ha r q v u k j.1 x n fun f g d p m=>w f g ?_;refine aa.AG y A D a (p.mono fun b o E G=>E (j.2 b G)) ⟨d,fun b o=>⟨d.lt o,?_⟩⟩;rcases m b o with h1|h1
 ·exact .inl (j.2 b h1)
 ·exact .inr h1
end
end Go.Vc
namespace Wl
open Go
structure ca where
 name:ByteArray
 object:Int
 length:Int
 tries:aB
structure aC where
 seq:Int
 next:Int
 p:Int×Int×Int
 extra:Int
 drives:aB
 aF:List ca
def Wi:ca:=⟨⟨#[]⟩,0,0,[]⟩
def lx(l:List ca)(i:Nat):ca:=l.getD i Wi
theorem kN{l:List ca}{i:Nat}(h:i<l.length:=by omega):lx l i=l[i]:=by unfold lx;rw[qg,qd h];rfl
def dE(n a b:Int):Bool:=decide (a<=n)&&decide (n<=b)
def jz(c:UInt8):Bool:=(decide (97<=c.toNat)&&decide (c.toNat<=122))||(decide (48<=c.toNat)&&decide (c.toNat<=57))||decide (c.toNat=45)
def gH(s:ByteArray):Bool:=s.data.toList.all jz&&(decide (1<=s.size)&&decide (s.size<=12))
def dw(a b:ByteArray):Bool:=Op.bytesLess a.toList b.toList
def gz(l:aB)(a:Int)(i:Nat):Bool:=dE (l.getD i 0) 0 a&&(decide (i=0)||decide (l.getD (i-1) 0<l.getD i 0))
def ly(l:aB)(a:Int):Bool:=(qz l.length).all (gz l a)
def countP(p:Int×Int×Int)(n:Int):Int:=if bC p&&decide (0<n)then(n-1)/(p.1*p.2.2)+1 else 0
def fE(m:aC)(x:ca):Bool:=
 gH x.name&&(dE x.object 0 (m.next-1)&&(dE x.length 0 (m.p.1*m.p.2.2*8)&&(x.tries.all (dE · 0 15)&&decide ((x.tries.length:Int)=countP m.p x.length))))
def lz(m:aC)(i:Nat):Bool:=
 fE m (lx m.aF i)&&((decide (i=0)||dw (lx m.aF (i-1)).name (lx m.aF i).name)&&!(m.aF.take i).any fun y=>decide (y.object=(lx m.aF i).object))
def ir(m:aC):Bool:=dE m.seq 1 2147483647&&(dE m.next 0 16777216&&(bC m.p&&dE m.extra 0 16))
def bN(m:aC):Bool:=ir m&&(ly m.drives 63&&(decide (m.aF.length<=12)&&(qz m.aF.length).all (lz m)))
theorem xj{p:Nat->Bool}{n i:Nat}(a:i<n)(h:p i=false):(qz n).all p=false:=List.all_eq_false.2 ⟨i,qF.2 a,by rw[h];simp⟩
theorem nL{p:Nat->Bool}{n:Nat}(h:∀i,i<n->p i=true):(qz n).all p=true:=List.all_eq_true.2 fun i a=>h i (qF.1 a)
def bm(n:Int)(k:Nat):aQ:=(qz k).map fun i=>b8 (qD n (2^(8*(k-1-i))))
theorem bq(n:Int)(k:Nat):(bm n k).length=k:=by simp[bm]
def gg(x:ca):aQ:=b8 x.name.size::(x.name.data.toList++(bm x.object 3++(bm x.length 2++x.tries.map b8)))
def eT(m:aC):aQ:=
 if bN m then bm m.seq 4++(bm m.next 4++([b8 m.p.1,b8 m.p.2.1,b8 m.p.2.2,b8 m.extra,b8 m.drives.length]++(m.drives.map b8++(b8 m.aF.length::m.aF.flatMap gg))))else[]
def gP(seq a c:Int)(b:aQ):aQ:=cb 2 (bm seq 4++([b8 a,b8 c,b8 b.length]++b))
def fx(b:aQ):Nat:=(b.length+47)/48
def bc(m:aC):cu:=(qz (fx (eT m))).map fun i:Nat=>gP m.seq i (fx (eT m)) (((eT m).drop (48*i)).take 48)
theorem OI{m:aC}(h:bN m=true):ir m=true:=by unfold bN at h;simp at h;exact h.1
theorem IE{m:aC}(h:ir m=true):(1<=m.seq/\m.seq<=2147483647)/\(0<=m.next/\m.next<=16777216)/\bC m.p=true/\0<=m.extra/\m.extra<=16:=by
 unfold ir dE at h;simpa[and_assoc]using h
theorem lA{m:aC}{c:aQ}(h:c∈bc m):c.length=64:=by
 unfold bc at h;obtain⟨i,_,rfl⟩:=qH.1 h;exact jk (by decide) (by decide) (by simp[bq];omega)
structure cJ where
 object:Int
 block:Int
 id:Int
 p:Int×Int×Int
 seed:Int
 data:aQ
theorem kv(n:Int):((b8 n).toNat:Int)=n%256:=by
 have h0:=yg n (show(256:Int)≠0 by decide);have a:=wK n (show(0:Int)<256 by decide);unfold b8;rw[UInt8.toNat_ofNat'];omega
def eX(r:cJ):Bool:=(dE r.object 0 16777215&&(dE r.block 0 7&&bD r.id))&&(bC r.p&&decide ((r.data.length:Int)=r.p.2.2))
def eU(r:cJ):aQ:=bm r.object 3++(bm r.block 1++(bm r.id 2++([b8 r.p.1,b8 r.p.2.1,b8 r.p.2.2]++(bm r.seed 4++r.data))))
def cB(r:cJ):aQ:=if eX r then cb 1 (eU r)else[]
def bO(l:aQ):Int:=l.foldl (fun n x=>n*256+x.toNat) 0
def bQ(c:aQ):Option (Int×aQ):=
 if c.length=64/\cb ((c.getD 3 0).toNat:Int) ((c.drop 4).take 55)=c then some (((c.getD 3 0).toNat:Int),(c.drop 4).take 55)else none
def mS(x:aQ):cJ:=
 ⟨bO (x.take 3),bO ((x.drop 3).take 1),bO ((x.drop 4).take 2),(bO ((x.drop 6).take 1),bO ((x.drop 7).take 1),bO ((x.drop 8).take 1)),bO ((x.drop 9).take 4),(x.drop 13).take (bO ((x.drop 8).take 1)).toNat⟩
def bR(c:aQ):Option cJ:=
 match bQ c with
 |some (k,x)=>if k=1/\bC (mS x).p=true/\cB (mS x)=c then some (mS x)else none
 |none=>none
theorem OJ(n:Int):bm n 1=[b8 n]:=by simp[bm]
theorem OK(n:Int):bm n 2=[b8 (qD n (2^8)),b8 n]:=by simp[bm,zx]
theorem KD(n:Int):bm n 3=[b8 (qD n (2^16)),b8 (qD n (2^8)),b8 n]:=by simp[bm,zx]
theorem Ds(n:Int):bm n 4=[b8 (qD n (2^24)),b8 (qD n (2^16)),b8 (qD n (2^8)),b8 n]:=by simp[bm,zx]
theorem th{n:Int}(b:0<=n:=by omega)(a:n<256:=by omega):bO [b8 n]=n:=by
 simp only[bO,zw,wj,kv];omega
theorem fdiv_pow(n:Int)(k:Nat):qD n (2^k)=n/(2^k):=w9 _ (Int.pow_nonneg (by decide))
theorem Rk{n:Int}(b:0<=n)(a:n<65536):bO (bm n 2)=n:=by
 rw[OK,fdiv_pow];simp only[bO,zw,wj,kv];omega
theorem MG{n:Int}(b:0<=n)(a:n<16777216):bO (bm n 3)=n:=by
 rw[KD,fdiv_pow,fdiv_pow];simp only[bO,zw,wj,kv];omega
theorem Gh{n:Int}(b:0<=n)(a:n<4294967296):bO (bm n 4)=n:=by
 rw[Ds,fdiv_pow,fdiv_pow,fdiv_pow];simp only[bO,zw,wj,kv];omega
theorem fX(r:cJ):eX r=true↔(0<=r.object/\r.object<=16777215)/\(0<=r.block/\r.block<=7)/\(0<=r.id/\r.id<=65535)/\bC r.p=true/\(r.data.length:Int)=r.p.2.2:=by
 unfold eX dE bD;simp[and_assoc]
theorem kS{r:cJ}(h:eX r=true):(eU r).length=13+r.data.length/\r.data.length<=24:=by
 obtain⟨_,_,_,a,b⟩:=(fX r).1 h;have:=(bS r.p).1 a;refine⟨by unfold eU;simp[bq];omega,by omega⟩
theorem Ck{r:cJ}(h:eX r=true):(cB r).length=64:=by
 have:=kS h;unfold cB;rw[if_pos h];exact jk (by decide) (by decide) (by omega)
theorem xk{k:Int}{a:aQ}(c:1<=k:=by decide)(b:k<=255:=by decide)(h3:a.length<=55:=by omega):bQ (cb k a)=some (k,a++qi (55-a.length) 0):=by
 obtain⟨x,d⟩:∃x,x=a++qi (55-a.length) 0:=⟨_,rfl⟩
 have e:x.length=55:=by rw[d];simp;omega
 have f:cb k a=[87,115,1,b8 k]++(x++(hJ (gT (ci k a))++[165])):=by
  unfold cb;rw[if_pos ⟨c,b,h3⟩];unfold ci;rw[d];simp[qm]
 have i:((cb k a).getD 3 0)=b8 k:=by rw[f];rfl
 have h:((cb k a).drop 4).take 55=x:=by
  rw[f];have:([87,115,1,b8 k]++(x++(hJ (gT (ci k a))++[165]))).drop 4=x++(hJ (gT (ci k a))++[165]):=rfl;rw[this,List.take_append_of_le_length (by omega),qj (by omega)]
 have g:((b8 k).toNat:Int)=k:=by rw[kv];omega
 have j:ci k x=ci k a:=by
  unfold ci;rw[e,d];simp[qm]
 have l:cb k x=cb k a:=by
  unfold cb;rw[if_pos ⟨c,b,by omega⟩,if_pos ⟨c,b,h3⟩,j]
 unfold bQ;rw[i,h,g,if_pos ⟨jk c b h3,l⟩,d]
theorem MH{r:cJ}(h:eX r=true)(A:0<=r.seed/\r.seed<4294967296)(z:aQ):mS (eU r++z)=r:=by
 obtain⟨B,w,h3,t,y⟩:=(fX r).1 h;have x:=(bS r.p).1 t;have l:=bq r.object 3;have l2:=bq r.id 2;have q:=bq r.seed 4;have e:eU r++z=bm r.object 3++([b8 r.block]++(bm r.id 2++([b8 r.p.1]++([b8 r.p.2.1]++([b8 r.p.2.2]++(bm r.seed 4++(r.data++z))))))):=by
  unfold eU;rw[OJ];simp[qm]
 have c:∀(u v:aQ) (n:Nat),u.length=n->∀m,(u++v).drop (n+m)=v.drop m:=fun u v n d m=>by
  rw[<-zo,<-d,List.drop_left]
 have a:∀(u v:aQ) (n:Nat),u.length=n->(u++v).take n=u:=fun u v n d=>by rw[<-d,vy]
 have o:(eU r++z).drop 3=[b8 r.block]++(bm r.id 2++([b8 r.p.1]++([b8 r.p.2.1]++([b8 r.p.2.2]++(bm r.seed 4++(r.data++z)))))):=by rw[e];exact c _ _ 3 l 0
 have g:(eU r++z).drop 4=bm r.id 2++([b8 r.p.1]++([b8 r.p.2.1]++([b8 r.p.2.2]++(bm r.seed 4++(r.data++z))))):=by
  rw[show 4=3+1 from rfl,<-zo,o];rfl
 have i:(eU r++z).drop 6=[b8 r.p.1]++([b8 r.p.2.1]++([b8 r.p.2.2]++(bm r.seed 4++(r.data++z)))):=by
  rw[show 6=4+2 from rfl,<-zo,g];exact c _ _ 2 l2 0
 have f:(eU r++z).drop 7=[b8 r.p.2.1]++([b8 r.p.2.2]++(bm r.seed 4++(r.data++z))):=by
  rw[show 7=6+1 from rfl,<-zo,i];rfl
 have k:(eU r++z).drop 8=[b8 r.p.2.2]++(bm r.seed 4++(r.data++z)):=by
  rw[show 8=7+1 from rfl,<-zo,f];rfl
 have j:(eU r++z).drop 9=bm r.seed 4++(r.data++z):=by
  rw[show 9=8+1 from rfl,<-zo,k];rfl
 have b:(eU r++z).drop 13=r.data++z:=by
  rw[show 13=9+4 from rfl,<-zo,j];exact c _ _ 4 q 0
 have s:bO (((eU r++z).drop 8).take 1)=r.p.2.2:=by rw[k,a _ _ 1 rfl,th]
 unfold mS;rw[s,o,g,i,f,j,b];rw[a [b8 r.block] _ 1 rfl,a _ _ 2 l2,a [b8 r.p.1] _ 1 rfl,a [b8 r.p.2.1] _ 1 rfl,a _ _ 4 q];have t0:(eU r++z).take 3=bm r.object 3:=by rw[e];exact a _ _ 3 l
 rw[t0,MG (by omega) (by omega),th,Rk (by omega) (by omega),th,th,Gh (by omega) (by omega)];have:r.p.2.2.toNat=r.data.length:=by omega
 rw[this,vy]
theorem xl{r:cJ}(h:eX r=true)(b:0<=r.seed/\r.seed<4294967296):bR (cB r)=some r:=by
 have c:=kS h;have a:=((fX r).1 h).2.2.2.1;have e:cB r=cb 1 (eU r):=by unfold cB;rw[if_pos h]
 unfold bR;rw[e,xk];dsimp only;rw[MH h b,if_pos ⟨rfl,a,e⟩]
theorem MI{c:aQ}{r:cJ}(h:bR c=some r):cB r=c/\eX r=true/\bC r.p=true:=by
 unfold bR at h;cases hc:bQ c with
 |none=>rw[hc]at h;cases h
 |some kx=>
  rw[hc]at h;dsimp only at h;by_cases a:kx.1=1/\bC (mS kx.2).p=true/\cB (mS kx.2)=c
  ·rw[if_pos a]at h;injection h with h
   subst h;refine⟨a.2.2,?_,a.2.1⟩;by_cases d:eX (mS kx.2)=true
   ·exact d
   ·exfalso;have b:=a.2.2;unfold cB at b;rw[if_neg d]at b;unfold bQ at hc;rw[<-b]at hc;simp at hc
  ·rw[if_neg a]at h;cases h
end Wl
namespace Go.Vc
open Go
section
variable {C:Ctx} {h:Heap} {t e ts:Nat}
theorem Bn:∀(l:aQ) (b:ByteArray),l.foldl ByteArray.push b=⟨(b.data.toList++l).toArray⟩
 |[],b=>by simp
 |x::l,b=>by
  rw[zw,Bn l (b.push x)];simp[ByteArray.push]
theorem LP(q:C.Ok)(D:∃i,C.T.get t=some i/\i.cj=.slice e)(J:∃i,C.T.get ts=some i/\i.cj=.str)(B:∃i,C.T.get e=some i/\i.cj=.int .u8){s:Sl}{l:aQ}{p:ap}(y:Seq h p s 1 av l){K:ByteArray->Heap->Prop}(z:K ⟨l.toArray⟩ h):
  aw C.P (convert t ts (.slice s.ptr s.len s.cap)) (.one (.sc .str)) h K:=by
 obtain⟨Q,L,I⟩:=J;obtain⟨R,E,G⟩:=D;obtain⟨i3,a3,M⟩:=B;have F:C.P.underlying ts=some .string:=by have:=q.cj L;rw[I]at this;exact ow this
 have O:C.P.underlying t=some (.slice e):=by have:=q.cj E;rw[G]at this;exact gS this
 have u3:C.P.underlying e=some (.int .u8):=by have:=q.cj a3;rw[M]at this;exact AB this
 unfold aw convert;refine ae.bind (ae.always (aE O) ?_);refine ae.bind (ae.always (aE F) ?_);refine ae.bind (ae.always (aE u3) ?_);unfold Conv.bytesToString;have d:=eJ (P:=C.P) (f:=av) (k:=1) (K:=fun u w=>u=(l.flatMap av).toArray/\w=h) (fun _=>rfl) y ⟨rfl,rfl⟩;cases hp:s.ptr with
 |none=>
  have:l=[]:=by
   cases l with
   |nil=>rfl
   |cons x r=>obtain⟨b,o,A,_⟩:=y.elem 0 x (by simp);rw[hp]at A;cases A
  subst this;exact ae.pure' ⟨⟨#[]⟩,rfl,z⟩
 |some a=>
  rw[hp]at d;dsimp only;have g:ae C.P (loadCells a s.len) h fun u w=>u=(l.flatMap av).toArray/\w=h:=by
   have:wg 1 s.len (.slice (some a) s.len s.cap)=loadCells a s.len:=by
    unfold wg;simp
   rw[<-this];exact d
  refine ae.bind (g.mono ?_);rintro _ _ ⟨rfl,rfl⟩;have j:∀(l:aQ) (b:ByteArray),au C.P (forIn (m:=Sem) (l.flatMap av) b fun c r=>match c with
    |vL vS n=>do pure (ForInStep.yield (r.push (w6 n.toNat)))
    |_=>do let r<-stuck "bytesToString: byte expected";pure r) (l.foldl ByteArray.push b):=fun l=>by
   induction l with
   |nil=>intro b;exact .pure
   |cons x l ih=>
    intro b;have N:(x::l).flatMap av=Value.int .u8 x.toNat::l.flatMap av:=rfl;rw[N,List.forIn_cons];have H:b.push (w6 ((x.toNat:Int)).toNat)=b.push x:=by
     rw[Int.toNat_natCast];congr 1;apply UInt8.toNat_inj.1;simp
    refine au.bind (v:=ForInStep.yield (b.push x)) (by dsimp only;rw[H];exact .pure) ?_;exact ih _
  refine ae.bind (ae.always (v:=l.foldl ByteArray.push ByteArray.empty) ?_ ?_)
  ·rw[List.forIn_toArray];exact j l _
  ·refine ae.pure' ⟨_,rfl,?_⟩;rw[Bn];exact z
end
end Go.Vc
namespace Wl
section
variable {α:Type} (le:α->α->Bool)
def fN(a b:α):Bool:=le a b&&le b a
def bJ(l a:List α):Prop:=∀x,l.filter (fN le x)=a.filter (fN le x)
def Sd(l:List α):Prop:=l.Pairwise fun a b=>le a b=true
structure Ord:Prop where
 trans:∀a b c,le a b=true->le b c=true->le a c=true
 total:∀a b,(le a b||le b a)=true
variable {le}
theorem Ord.xm(o:Ord le){a b:α}(h:¬le a b=true):le b a=true:=by
 have:=o.total a b;cases h1:le a b with
 |true=>exact absurd h1 h
 |false=>rw[h1]at this;simpa using this
theorem Ord.refl(o:Ord le)(a:α):le a a=true:=by have:=o.total a a;simpa using this
theorem bJ.refl(l:List α):bJ le l l:=fun _=>rfl
theorem bJ.trans{c a b:List α}(h:bJ le c a)(k:bJ le a b):bJ le c b:=fun x=>(h x).trans (k x)
theorem bJ.symm{a b:List α}(h:bJ le a b):bJ le b a:=fun x=>(h x).symm
theorem bJ.app{a b c d:List α}(h:bJ le a b)(k:bJ le c d):bJ le (a++c) (b++d):=fun x=>by
 rw[zf,zf,h x,k x]
theorem bJ.mem(o:Ord le){l a:List α}(h:bJ le l a){y:α}(c:y∈a):y∈l:=by
 have b:y∈a.filter (fN le y):=q6.2 ⟨c,by unfold fN;rw[o.refl];rfl⟩;rw[<-h y]at b;exact(q6.1 b).1
theorem bJ.OL(o:Ord le){u v:List α}(h:∀x∈u,∀y∈v,¬le x y=true):bJ le (u++v) (v++u):=fun z=>by
 rw[zf,zf];by_cases f:u.filter (fN le z)=[]
 ·rw[f];simp
 ·by_cases e:v.filter (fN le z)=[]
  ·rw[e];simp
  ·exfalso;obtain⟨x,i⟩:=List.exists_mem_of_ne_nil _ f;obtain⟨y,g⟩:=List.exists_mem_of_ne_nil _ e;obtain⟨d,b⟩:=q6.1 i;obtain⟨c,a⟩:=q6.1 g;unfold fN at b a;simp only[qA]at b a;exact h x d y c (o.trans _ _ _ b.2 a.1)
theorem bJ.IF(o:Ord le){l:List α}(h:bJ le [] l):l=[]:=by
 cases l with
 |nil=>rfl
 |cons a l=>exact absurd (bJ.mem o h (qV ..)) (by simp)
theorem Gi(o:Ord le):∀(l c:List α),Sd le l->Sd le c->bJ le l c->l=c
 |[],c,_,_,h=>(bJ.IF o h).symm
 |a::l,[],_,_,h=>absurd (bJ.IF o h.symm) (by simp)
 |a::l,b::c,s,s',h=>by
  have d:a=b:=by
   have j:le a b=true:=by
    have:=bJ.mem o h (y:=b) (qV ..);rcases zl.1 this with e|e
    ·rw[e];exact o.refl _
    ·exact(zL.1 s).1 _ e
   have f:le b a=true:=by
    have:=bJ.mem o h.symm (y:=a) (qV ..);rcases zl.1 this with e|e
    ·rw[e];exact o.refl _
    ·exact(zL.1 s').1 _ e
   have h3:=h a;have i:fN le a a=true:=by unfold fN;rw[o.refl];rfl
   have g:fN le a b=true:=by unfold fN;rw[j,f];rfl
   rw[yp i,yp g]at h3;injection h3
  subst d;rw[Gi o l c (zL.1 s).2 (zL.1 s').2 fun x=>by
   have h3:=h x;rw[zu,zu]at h3;split at h3
   ·injection h3
   ·exact h3]
theorem xn(o:Ord le)(l:List α):Sd le (l.mergeSort le)/\bJ le l (l.mergeSort le):=by
 refine⟨List.pairwise_mergeSort o.trans o.total l,fun x=>?_⟩;have f:(l.filter (fN le x)).Pairwise fun a b=>le a b=true:=by
  rw[List.pairwise_filter];refine List.Pairwise.imp ?_ (List.pairwise_of_forall (l:=l) (R:=fun _ _=>True) fun _ _=>trivial);intro a b _ d e;unfold fN at d e;simp only[qA]at d e;exact o.trans _ _ _ d.2 e.1
 have g:=List.sublist_mergeSort o.trans o.total f List.filter_sublist;have c:=g.filter (fN le x);rw[List.filter_filter]at c;simp only[Bool.and_self]at c;exact c.eq_of_length ((List.mergeSort_perm l le).symm.filter _).length_eq
theorem MJ(o:Ord le){l a:List α}(s:Sd le a)(h:bJ le l a):a=l.mergeSort le:=by
 obtain⟨c,b⟩:=xn o l;exact Gi o _ _ s c (h.symm.trans b)
theorem Sd.app(o:Ord le){u v:List α}(b:Sd le u)(a:Sd le v)(h:∀x∈u,∀y∈v,le x y=true):Sd le (u++v):=wk.2 ⟨b,a,h⟩
theorem Sd.left{u v:List α}(h:Sd le (u++v)):Sd le u:=(wk.1 h).1
theorem Sd.right{u v:List α}(h:Sd le (u++v)):Sd le v:=(wk.1 h).2.1
theorem Sd.AO{u v:List α}(h:Sd le (u++v)):∀x∈u,∀y∈v,le x y=true:=(wk.1 h).2.2
theorem Sd.at_(o:Ord le){l:List α}(h:Sd le l){i j:Nat}(b:i<=j)(a:j<l.length):le (l[i]'(by omega)) l[j]=true:=by
 by_cases e:i=j
 ·subst e;exact o.refl _
 ·exact List.pairwise_iff_getElem.1 h i j (by omega) a (by omega)
theorem OM(o:Ord le){b d a c h i:List α}(p:Sd le (b++d))(q:Sd le (a++c))(j:∀x∈b,∀y∈c,le x y=true)(g:∀x∈d,∀y∈a,¬le x y=true)
  (l:bJ le (b++a) h) (m:Sd le h) (k:bJ le (d++c) i) (n:Sd le i):Sd le (h++i)/\bJ le ((b++d)++(a++c)) (h++i):=by
 constructor
 ·refine Sd.app o m n fun x f y e=>?_;rcases qE.1 (bJ.mem o l f)with f|f<;>rcases qE.1 (bJ.mem o k e)with e|e
  ·exact p.AO x f y e
  ·exact j x f y e
  ·exact o.xm (g y e x f)
  ·exact q.AO x f y e
 ·have r:bJ le ((b++d)++(a++c)) ((b++a)++(d++c)):=by
   rw[show(b++d)++(a++c)=b++((d++a)++c)by simp,show(b++a)++(d++c)=b++((a++d)++c)by simp];exact(bJ.refl _).app ((bJ.OL o g).app (bJ.refl _))
  exact r.trans (l.app k)
end
section
variable {α:Type} {le:α->α->Bool}
theorem ox(o:Ord le):∀{l j:List α},bJ le l j->l.length=j.length
 |[],j,h=>by rw[bJ.IF o h]
 |a::l,j,h=>by
  have w:=bJ.mem o h.symm (y:=a) (qV ..);obtain⟨u,v,q⟩:=List.append_of_mem w;have r:∃(u:List α) (b:α) (v:List α),j=u++b::v/\(∀x∈u,fN le a x=false)/\fN le a b=true:=by
   have m:j.filter (fN le a)≠[]:=fun D=>by
    have:a∈j.filter (fN le a):=q6.2 ⟨w,by unfold fN;rw[o.refl];rfl⟩;rw[D]at this;cases this
   clear q u v w h
   induction j with
   |nil=>exact absurd rfl m
   |cons c j ih=>
    by_cases z:fN le a c=true
    ·exact⟨[],c,j,rfl,by simp,z⟩
    ·rw[List.filter_cons_of_neg z]at m;obtain⟨u,b,v,e,f,g⟩:=ih m;refine⟨c::u,b,v,by rw[e];rfl,fun x i=>?_,g⟩;rcases zl.1 i with rfl|i
     ·simpa using z
     ·exact f x i
  obtain⟨u,b,v,rfl,A,E⟩:=r;have F:fN le a a=true:=by unfold fN;rw[o.refl];rfl
  have n:=h a;have s:u.filter (fN le a)=[]:=w4.2 fun x i=>by rw[A x i];simp
  rw[yp F,zf,s,zO,yp E]at n;have p:a=b:=by injection n
  subst p;have B:bJ le l (u++v):=fun x=>by
   have i:=h x;rw[zu,zf,zu]at i;rw[zf];by_cases d:fN le x a=true
   ·rw[if_pos d,if_pos d]at i;have t:u.filter (fN le x)=[]:=w4.2 fun y G k=>by
     have:=A y G;unfold fN at this d k;simp only[qA]at d k;rw[o.trans _ _ _ d.2 k.1,o.trans _ _ _ k.2 d.1]at this;cases this
    rw[t,zO]at i⊢;injection i
   ·rw[if_neg d,if_neg d]at i;exact i
  rw[List.length_cons,ox o B];simp;omega
end
end Wl
