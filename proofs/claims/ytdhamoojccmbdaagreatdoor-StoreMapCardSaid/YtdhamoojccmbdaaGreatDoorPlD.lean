/- Part of the proofs that the laws of this seat answer true whatever the input reads, and leave it as it was; no condition. -/
import Derived.Test.YtdhamoojccmbdaaGreatDoorPlA
import Derived.Test.YtdhamoojccmbdaaGreatDoorPlB
set_option linter.unusedVariables false
set_option linter.unusedSimpArgs false
open Go.IntKind renaming bits -> qk, i64 -> xh, signed -> yO, u32 -> xj, u64 -> xk, u8 -> xi, wrap -> qc
open Int renaming emod_lt_of_pos -> wC, emod_nonneg -> yk, fdiv -> qT, fdiv_eq_ediv_of_nonneg -> y8, tmod -> zX, tmod_lt_of_pos -> vn, toNat_natCast -> qo
open List renaming all_eq_false -> yh, all_eq_true -> qM, append_assoc -> qp, drop_drop -> zy, drop_of_length_le -> zg, eq_nil_of_length_eq_zero -> qX, exists_mem_of_ne_nil -> vf, ext_getElem? -> zK, filter_append -> zk, filter_cons -> zp, filter_cons_of_pos -> yP, filter_eq_nil_iff -> wF, find?_eq_none -> z8, find?_eq_some_iff_append -> wL, find?_some -> vK, findIdx_lt_length_of_exists -> yH, flatMap_append -> zc, flatMap_nil -> wj, foldl_append -> wM, foldl_cons -> zD, foldl_nil -> wQ, getD_eq_getElem?_getD -> qe, getElem?_cons_succ -> qy, getElem?_cons_zero -> wy, getElem?_eq_getElem -> qd, getElem?_eq_none -> zf, getElem?_eq_some_iff -> qm, getElem?_mapIdx -> y7, getElem?_set -> q8, getElem?_toArray -> zG, getElem_mem -> qg, length_append -> qw, length_cons -> zb, length_drop -> q7, length_mergeSort -> wx, length_take -> qZ, mem_append -> qB, mem_cons -> za, mem_cons_self -> qU, mem_filter -> qI, mem_flatMap -> zo, mem_map -> qu, mem_mergeSort -> yw, mem_of_find?_eq_some -> yB, mem_of_mem_take -> zM, mem_or_eq_of_mem_set -> wG, mem_range -> qF, mergeSort_perm -> yn, nil_append -> zW, pairwise_append -> wV, pairwise_cons -> zN, pairwise_iff_getElem -> zd, pairwise_mergeSort -> yQ, range -> qC, range_eq_range' -> yF, range_succ -> zI, replicate -> qh, take_append_drop -> qE, take_append_of_le_length -> yd, take_left -> vx, take_length -> qR, take_of_length_le -> qi, take_succ_eq_append_getElem -> zu, take_zero -> vO, zipWith -> zm
open BitVec renaming ofInt -> qA, ofInt_natCast -> wU, ofNat -> vN, ofNat_toNat -> vp, setWidth_eq -> vq
open Nat renaming le_refl -> ql, min_eq_left -> w6, mul_le_mul -> we, mul_one -> wJ, zero_add -> zR
open Option renaming map_some -> qN
open Go.Builtin renaming append_ -> qt, copy_ -> wX, firstCells -> wA, nextslicecap -> y5
open UInt8 renaming ofNat -> yq, toNat_inj -> yl
open Array renaming ext' -> yj, getElem?_modify -> wv, replicate -> vm, toList_map -> vE
open Bool renaming and_eq_true -> qz, and_self -> vS, false_eq_true -> ze, not_false -> wY
open Go.Value renaming int -> vX
namespace Wl
def bJ(p:Int×Int×Int):Bool:=decide (p.1>=1)&&(decide (p.1<=16)&&(decide (p.2.1>=1)&&(decide (p.2.1<=4)&&(decide (p.2.2>=1)&&decide (p.2.2<=24)))))
theorem bK(p:Int×Int×Int):bJ p=true↔(1<=p.1/\p.1<=16)/\(1<=p.2.1/\p.2.1<=4)/\1<=p.2.2/\p.2.2<=24:=by
 simp[bJ,and_assoc]
def bZ(p:Int×Int×Int):Int:=if bJ p then p.1+p.2.1 else 0
open Go
def EW(s:Int):Int:=qc xk (qc xk (s*(6364136223846793005:Int))+(1442695040888963407:Int))
def told(s:Int):Int:=qc xj (qT (EW s) (2^min (32:Int).toNat (qk xk)))
def lH(s n:Int):Int:=qc xh (zX (qc xk (told s)) (qc xk n))
theorem wrap_u64(x:Int):qc xk x=x%18446744073709551616:=rfl
theorem xA(s n:Int)(d:0<n)(f:n<=2^62):0<=lH s n/\lH s n<n:=by
 unfold lH;have e:qc xk n=n:=by rw[wrap_u64];omega
 rw[e];have b:0<=qc xk (told s):=by rw[wrap_u64];omega
 have a:=vn (qc xk (told s)) d;have c:0<=zX (qc xk (told s)) n:=Int.tmod_nonneg n b;rw[Go.Vc.wrap_small _ (by omega) (by omega)];exact⟨c,a⟩
def kL(l:List Int)(i:Nat):Int:=l.getD i 0
def sI(l:List Int)(i j:Nat):List Int:=(l.set i (kL l j)).set j (kL l i)
theorem SH(l:List Int)(i j:Nat):(sI l i j).length=l.length:=by simp[sI]
def fZ(n:Nat)(s:Int)(l:List Int):Nat->Int×List Int
 |0=>(s,l)
 |k+1=>(EW (fZ n s l k).1,sI (fZ n s l k).2 k (k+(lH (fZ n s l k).1 ((n-k:Nat):Int)).toNat))
theorem xB(n:Nat)(s:Int)(l:List Int):∀k,(fZ n s l k).2.length=l.length
 |0=>rfl
 |k+1=>by rw[fZ,SH,xB n s l k]
theorem Kl{l:List Int}{i:Nat}(h:i<l.length):kL l i∈l:=by
 rw[kL,qe,qd h];exact qg h
theorem acY{l:List Int}{i j:Nat}(a:i<l.length)(b:j<l.length){x:Int}(c:x∈sI l i j):x∈l:=by
 rcases wG c with h|h
 ·rcases wG h with h|h
  ·exact h
  ·rw[h];exact Kl b
 ·rw[h];exact Kl a
def upto(n:Nat):List Int:=(qC n).map fun i:Nat=>(i:Int)
theorem gu(n:Nat):(upto n).length=n:=by simp[upto]
theorem Km(n:Nat)(s:Int):∀k,k<=n->∀x∈(fZ n s (upto n) k).2,0<=x/\x<n
 |0,_,x,hx=>by
  simp only[fZ,upto,qu,qF]at hx;obtain⟨i,j,rfl⟩:=hx;omega
 |k+1,hk,x,hx=>by
  have e:k<n->n-k<=2^62->k+(lH (fZ n s (upto n) k).1 ((n-k:Nat):Int)).toNat<n:=fun m l=>by
   have:=xA (fZ n s (upto n) k).1 ((n-k:Nat):Int) (by omega) (by omega);omega
  have f:=xB n s (upto n) k;rw[gu]at f;by_cases b:n-k<=2^62
  ·refine Km n s k (by omega) x (acY (by omega) ?_ hx);have:=e (by omega) b;omega
  ·--beyond any size:what is set is 0 or a member
   have c:∀y∈sI (fZ n s (upto n) k).2 k (k+(lH (fZ n s (upto n) k).1 ((n-k:Nat):Int)).toNat),y∈(fZ n s (upto n) k).2∨y=0:=by
    intro y d;have g:∀i,kL (fZ n s (upto n) k).2 i∈(fZ n s (upto n) k).2∨kL (fZ n s (upto n) k).2 i=0:=fun i=>by
     by_cases h:i<(fZ n s (upto n) k).2.length
     ·exact .inl (Kl h)
     ·right;simp only[kL,qe];rw[zf (by omega)];rfl
    rcases wG d with h|h
    ·rcases wG h with h|h
     ·exact .inl h
     ·rw[h];exact g _
    ·rw[h];exact g _
   rcases c x hx with h|h
   ·exact Km n s k (by omega) x h
   ·subst h;omega
def ni(l:List Int):List Int:=l.mergeSort fun x y=>decide (x<=y)
theorem PI(l:List Int):(ni l).length=l.length:=wx l
theorem PJ(l:List Int)(x:Int):x∈ni l↔x∈l:=yw
def IL(s:Int)(n k:Nat):List Int:=ni ((fZ n s (upto n) k).2.take k)
theorem acZ{s:Int}{n k:Nat}(a:k<=n){x:Int}(b:x∈IL s n k):0<=x/\x<n:=
 Km n s k a x (zM ((PJ _ _).1 b))
theorem ada(s:Int)(n k:Nat)(a:k<=n):(IL s n k).length=k:=by
 rw[IL,PI,qZ,xB,gu];omega
def fb(l:Nat):Nat:=if l<=1 then l else if l<=4 then 2 else if l<=9 then 3 else if l<=16 then 4 else 5
def IM(r:Nat):Nat:=if r=0 then 0 else if r=1 then 1 else if r<=3 then 2 else 3
def rV(l k:Nat):Nat:=
 (if k>1 then 1048576/(k*(k-1))else 1048576/l)+
  (if k<l/fb l then 1048576*fb l/(l*k)else if k=l/fb l then 1048576*fb l*IM (fb l)/l else 0)
def mF(l:Nat):Nat->Nat
 |0=>0
 |k+1=>mF l k+rV l (k+1)
def jv(l:Nat):List Int:=(qC l).map fun k=>((mF l (k+1):Nat):Int)
theorem lp(l:Nat):(jv l).length=l:=by simp[jv]
def Yc(t:List Int)(x:Int):Nat:=(t.findIdx fun y=>decide (y>x))+1
theorem LD:∀l,l<=20->∀k,k<=20->rV l k<=2^30:=by decide+kernel
theorem IN(l:Nat)(a:l<=20):∀k,k<=20->mF l k<=k*2^30
 |0,_=>by simp[mF]
 |k+1,hk=>by
  have:=IN l a k (by omega);have:=LD l a (k+1) hk;rw[mF];omega
theorem SI:∀l,l<=20->1<=l->0<mF l l:=by decide+kernel
theorem LF(l:Nat)(h:1<=l):(jv l).getLast?=some ((mF l l:Nat):Int):=by
 obtain⟨k,rfl⟩:∃k,l=k+1:=⟨l-1,by omega⟩
 simp[jv,zI]
def Gz(seed id:Int):Int:=qc xk (qc xj ((qA (qk xj) seed^^^(qA (qk xj) (qc xj ((qc xj id)*(2654435761:Int))))).toNat:Nat))
def IP(s:Int)(n:Nat):Nat:=Yc (jv n) (lH s (mF n n))
theorem xC(s:Int)(n:Nat)(b:1<=n)(a:n<=20):IP s n<=n:=by
 unfold IP Yc;have e:=SI n a b;have d:=IN n a n a;have c:=xA s (mF n n) (by omega) (by omega);have:=yH (p:=fun y=>decide (y>lH s (mF n n))) (xs:=jv n) ⟨_,List.mem_of_getLast? (LF n b),by simpa using c.2⟩;rw[lp]at this;omega
def bU(id:Int):Bool:=decide (0<=id)&&decide (id<=65535)
def de(n:Nat)(seed id:Int):List Int:=IL (EW (EW (Gz seed id))) n (IP (EW (Gz seed id)) n)
theorem mG{n:Nat}(c:1<=n)(b:n<=20){seed id x:Int}(a:x∈de n seed id):0<=x/\x<n:=acZ (xC _ n c b) a
theorem AV{n:Nat}(b:1<=n)(a:n<=20)(seed id:Int):(de n seed id).length<=n:=by
 rw[de,ada _ _ _ (xC _ n b a)];exact xC _ n b a
def fH(n:Nat)(l:List Int):List UInt8:=l.foldl (fun r i=>r.set i.toNat 1) (qh n 0)
theorem rX(n:Nat)(l:List Int):(fH n l).length=n:=by
 have:∀(l:List Int) (r:List UInt8),(l.foldl (fun r i=>r.set i.toNat 1) r).length=r.length:=by
  intro l
  induction l with
  |nil=>intro r;rfl
  |cons a t ih=>intro r;rw[zD,ih];simp
 rw[fH,this];simp
def rY(n:Nat)(seed id:Int):List UInt8:=fH n (de n seed id)
theorem adb(n:Nat)(seed id:Int):(rY n seed id).length=n:=rX _ _
def lq(K H h:Nat):List UInt8:=(qC K).map (fun j=>Gf.pw ((h+1)*(j+1)%255))++(qC H).map fun i=>if i=h then 1 else 0
def bw(K H:Nat):List (List UInt8):=(qC H).map (lq K H)
theorem GA(K H h:Nat):(lq K H h).length=K+H:=by simp[lq]
def dM(p:Int×Int×Int)(seed:Int)(ids:List Int):List (List UInt8):=
 if bJ p then bw p.1.toNat p.2.1.toNat++(ids.filter bU).map (rY (bZ p).toNat seed)else[]
theorem xD{α:Type}{f:α->Bool}{l:List α}{k:Nat}(a:k<l.length):(l.take (k+1)).filter f=if f l[k]then(l.take k).filter f++[l[k]]else(l.take k).filter f:=by
 rw[zu a,zk];by_cases h:f l[k]=true<;>simp[h]
abbrev Row:=List UInt8
abbrev aS:=List Row
def scaleB(c:UInt8)(l:Row):Row:=l.map (Gf.mul c)
def df(c:UInt8)(a to:Row):Row:=zm (fun x y=>y^^^Gf.mul c x) a to
def aN(r:Row)(bp:Nat):UInt8:=r.getD bp 0
def az(m:aS)(i:Nat):Row:=m.getD i []
def iz(m:aS)(a bp:Nat):Option Nat:=(qC m.length).find? fun i=>decide (a<=i)&&(aN (az m i) bp !=0)
def iR(m:aS)(i j:Nat):aS:=(m.set i (az m j)).set j (az m i)
def ez(a bp:Nat)(m:aS)(k:Nat):aS:=m.mapIdx fun i r=>if i<k/\i≠a then df (aN r bp) (az m a) r else r
def jF(a bp:Nat)(m:aS):aS:=m.set a (scaleB (Gf.inv (aN (az m a) bp)) (az m a))
def iS(s:Nat×aS)(bp:Nat):Nat×aS:=
 match iz s.2 s.1 bp with
 |none=>s
 |some i=>(s.1+1,ez s.1 bp (jF s.1 bp (iR s.2 s.1 i)) s.2.length)
def bF(m:aS):Nat->Nat×aS
 |0=>(0,m)
 |c+1=>iS (bF m c) c
def fM(m:aS):Nat:=(az m 0).length
def cL(m:aS):Nat:=(bF m (fM m)).1
def bh(n:Nat)(m:aS):Prop:=∀r∈m,r.length=n
theorem AW(c:UInt8)(l:Row):(scaleB c l).length=l.length:=by simp[scaleB]
theorem ca{c:UInt8}{a t:Row}(h:a.length=t.length):(df c a t).length=t.length:=by simp[df,h]
theorem bu{m:aS}{i:Nat}(h:i<m.length):az m i=m[i]:=by rw[az,qe,qd h];rfl
theorem cb{n:Nat}{m:aS}(h:bh n m){i:Nat}(a:i<m.length):(az m i).length=n:=by rw[bu a];exact h _ (qg a)
theorem Kn{n:Nat}{m:aS}(h:bh n m){i:Nat}{r:Row}(b:r.length=n):bh n (m.set i r):=fun x a=>by
 rcases wG a with h1|h1
 ·exact h x h1
 ·rw[h1];exact b
theorem Yd{P:Nat->Bool}{n:Nat}(h:∀j,j<n->P j=false):(qC n).find? P=none:=by
 rw[z8];intro x a;rw[qF]at a;simp[h x a]
theorem Ye{P:Nat->Bool}{n k:Nat}(f:k<n)(h:∀j,j<k->P j=false)(d:P k=true):(qC n).find? P=some k:=by
 rw[wL];refine⟨d,qC k,List.range' (k+1) (n-k-1),?_,fun a b=>?_⟩
 ·rw[yF,yF];have e:n=k+(n-k):=by omega
  have c:n-k=(n-k-1)+1:=by omega
  conv=>lhs;rw[e,<-List.range'_append_1 (s:=0) (m:=k) (n:=n-k)]
  rw[zR]
  conv=>lhs;rw[c,List.range'_succ]
 ·rw[qF]at b;simp[h a b]
theorem sJ{m:aS}{a bp i:Nat}(h:iz m a bp=some i):a<=i/\i<m.length/\aN (az m i) bp≠0:=by
 have b:=vK h;have c:=yB h;simp at b c;exact⟨b.1,c,b.2⟩
theorem Vm{m:aS}{a bp:Nat}(h:iz m a bp=none):∀i,a<=i->i<m.length->aN (az m i) bp=0:=fun i c b=>by
 have:=z8.1 h i (qF.2 b);simpa[c]using this
theorem kX(m:aS)(i j:Nat):(iR m i j).length=m.length:=by simp[iR]
theorem GB{n:Nat}{m:aS}(h:bh n m){i j:Nat}(a:i<m.length)(b:j<m.length):bh n (iR m i j):=Kn (Kn h (cb h b)) (cb h a)
theorem oy(t c:Nat)(m:aS):(jF t c m).length=m.length:=by simp[jF]
theorem AX{n:Nat}{m:aS}(h:bh n m){t c:Nat}(a:t<m.length):bh n (jF t c m):=Kn h (by rw[AW];exact cb h a)
theorem oz(t c:Nat)(m:aS)(k:Nat):(ez t c m k).length=m.length:=by simp[ez]
theorem AY{n:Nat}{m:aS}(h:bh n m){t c k:Nat}(d:t<m.length):bh n (ez t c m k):=fun x e=>by
 obtain⟨i,b,rfl⟩:=List.mem_mapIdx.1 e;have a:=h _ (qg b);split
 ·rw[ca (by rw[cb h d,a])];exact a
 ·exact a
theorem aam(t c:Nat)(m:aS):ez t c m 0=m:=by
 apply zK;intro i;simp[ez,y7]
theorem rZ{t c k:Nat}{m:aS}{i:Nat}(a:i<m.length):az (ez t c m k) i=if i<k/\i≠t then df (aN (az m i) c) (az m t) (az m i)else az m i:=by
 rw[bu (by rw[oz];exact a),bu a];simp[ez]
theorem aan{t c k:Nat}{m:aS}(d:k<m.length)(b:k≠t):ez t c m (k+1)=(ez t c m k).set k (df (aN (az m k) c) (az m t) (az m k)):=by
 apply zK;intro i;simp only[ez,q8,y7,List.length_mapIdx];by_cases a:k=i
 ·subst a;simp only[if_true,d,qd d,qN];rw[if_pos ⟨by omega,b⟩,bu d]
 ·rw[if_neg a];congr 1;funext r;by_cases h:i<k/\i≠t
  ·rw[if_pos h,if_pos ⟨by omega,h.2⟩]
  ·rw[if_neg h,if_neg (fun e=>h ⟨by omega,e.2⟩)]
theorem aao{t c:Nat}{m:aS}:ez t c m (t+1)=ez t c m t:=by
 apply zK;intro i;simp only[ez,y7];congr 1;funext r;by_cases h:i<t/\i≠t
 ·rw[if_pos h,if_pos ⟨by omega,h.2⟩]
 ·rw[if_neg h,if_neg (fun a=>h ⟨by omega,a.2⟩)]
theorem aap{n:Nat}{s:Nat×aS}(h:bh n s.2)(bp:Nat):bh n (iS s bp).2/\(iS s bp).2.length=s.2.length:=by
 unfold iS;cases hb:iz s.2 s.1 bp with
 |none=>exact⟨h,rfl⟩
 |some i=>
  have a:=sJ hb;dsimp only;refine⟨AY (AX (GB h (by omega) a.2.1) (by rw[kX];omega)) (by rw[oy,kX];omega),by rw[oz,oy,kX]⟩
theorem ik{n:Nat}{m:aS}(h:bh n m):∀c,bh n (bF m c).2/\(bF m c).2.length=m.length
 |0=>⟨h,rfl⟩
 |c+1=>by
  have:=ik h c;have a:=aap this.1 c;rw[bF];exact⟨a.1,by rw[a.2,this.2]⟩
theorem adc{s:Nat×aS}(h:s.1<=s.2.length)(bp:Nat):(iS s bp).1<=(iS s bp).2.length:=by
 unfold iS;cases hb:iz s.2 s.1 bp with
 |none=>exact h
 |some i=>
  have a:=sJ hb;dsimp only;rw[oz,oy,kX];omega
theorem DU(m:aS):∀c,(bF m c).1<=(bF m c).2.length
 |0=>by simp[bF]
 |c+1=>adc (DU m c) c
end Wl
namespace Go.Vc
open Go
section
variable {C:Ctx} {t t2 ty e k:Nat} {z:List Value} {by_:Nat} {α:Type} {h h0:Heap} {p B:aA} {s v:Sl} {f:α->List Value} {l l2:List α} {As:List HP}
theorem Own.SJ(Q:C.Ok)(O:bN C.toCB t e k z by_)(F:∀x,(f x).length=k)(w:Own h e s k f l)(R:Seq h p v k f l2)(r:∀x,∀c∈f x,c.oneCell'=true)(j:Nat)(W:j<=l.length){u:Option Addr}{L V:Nat}(i:u=if s.cap=j then s.ptr else s.ptr.map (·.add (j*k)))(B:L=s.len-j){K:Int->Heap->Prop}
  (D:∀n h',Own h' e s k f (l.take j++(l2.take (l.length-j)++l.drop (j+l2.length)))->aU (fun b=>¬s.on b) h h'->K n h'):
  av C.P (wX #[t,t2] ty #[.slice u L V,.slice v.ptr v.len v.cap]) (.one (.sc (.int .i64))) h K:=by
 unfold av wX;simp only[zG,wy,qy];refine ac.bind (ac.always (aG (O.under Q)) ?_);refine ac.bind (ac.pure' ?_);refine ac.bind (ac.always (O.size Q) ?_);have g:=w.len;have o:=R.len;have N:=w.cap;obtain⟨m,E⟩:∃m,m=Nat.min v.len L:=⟨_,rfl⟩
 rw[<-E];have J:m<=l2.length:=by rw[E,<-o];exact Nat.min_le_left _ _
 have q:m<=l.length-j:=by rw[E,<-g,B];exact Nat.min_le_right _ _
 have S:m=min l2.length (l.length-j):=by rw[E,B,g,o]
 have H:=R.take m J;have U:l2.take (l.length-j)++l.drop (j+l2.length)=l2.take m++l.drop (j+m):=by
  rcases Nat.le_total l2.length (l.length-j)with hh|hh
  ·rw[qi hh,show m=l2.length by omega,qR]
  ·rw[show m=l.length-j by omega,zg (show l.length<=j+l2.length by omega),zg (by omega)]
 rw[U]at D;have M:wA k m (.slice v.ptr v.len v.cap)=wA k m (.slice v.ptr m v.cap):=by cases v.ptr<;>rfl
 rw[M];refine ac.bind (gb (v:=⟨v.ptr,m,v.cap⟩) F H ?_);have d:m=0->l.take j++(l2.take m++l.drop (j+m))=l:=fun e=>by rw[e];simp
 rcases w.head with⟨h1,h2,h3⟩|⟨b,rest,h1,h2,h3,h4⟩
 ·have a:u=none:=by rw[i,h1];split<;>rfl
  rw[a];subst h3;have:m=0:=by simp at q;exact q
  refine ac.pure' ⟨_,rfl,D _ h ?_ (aU.refl _ _)⟩;rw[d this];exact w
 ·by_cases y:s.cap=j
  ·have a:u=some ⟨b,0,none⟩:=by rw[i,if_pos y,h1]
   rw[a];have A:m=0:=by omega
   refine ac.bind ?_;rw[A];simp only[vO,wj];exact ac.pure' (ac.pure' ⟨_,rfl,D _ h (by rw[d A];exact w) (aU.refl _ _)⟩)
  ·have a:u=some ⟨b,0+j*k,none⟩:=by rw[i,if_neg y,h1];simp only[qN];rw[add_eq]
   rw[a];refine ac.bind ?_;have G:l.flatMap f++rest=(l.take j).flatMap f++((l.drop j).take m).flatMap f++((l.drop (j+m)).flatMap f++rest):=by
    rw[<-qp,<-zc,<-zc,<-zy,qp (List.take j l),qE,qE]
   rw[G]at h2;refine eP (e:=e) (pre:=(l.take j).flatMap f) (old:=((l.drop j).take m).flatMap f) (post:=(l.drop (j+m)).flatMap f++rest) h2 (by rw[dg F,dg F,qZ,qZ,q7];congr 1;omega) (by rw[dg F,qZ];rw[w6 W];omega) ?_ ?_
   ·intro c T;obtain⟨x,_,I⟩:=zo.1 T;exact r x c I
   ·refine ac.pure' ⟨_,rfl,D _ _ ⟨by rw[g,qw,qw,qZ,qZ,q7];omega,.inr ⟨b,rest,h1,?_,h3,h4⟩⟩ (aU.iG h2 (fun X=>X ⟨0,h1⟩))⟩;rw[hJ h2,if_pos rfl,zc,zc];simp[qp]
theorem aa.SJ(D:C.Ok)(H:aa B h0 h As)(i:Nat)(g:As[i]?=some (an e s k f l))(r:bN C.toCB t e k z by_)(u:∀x,(f x).length=k)(E:Seq h p v k f l2)(a:∀x,∀c∈f x,c.oneCell'=true)(j:Nat)(A:j<=l.length){m:Option Addr}{o w:Nat}(b:m=if s.cap=j then s.ptr else s.ptr.map (·.add (j*k)))(d:o=s.len-j){K:Int->Heap->Prop}
  (q:∀n h',aa B h0 h' (As.set i (an e s k f (l.take j++(l2.take (l.length-j)++l.drop (j+l2.length)))))->K n h'):
  av C.P (wX #[t,t2] ty #[.slice m o w,.slice v.ptr v.len v.cap]) (.one (.sc (.int .i64))) h K:=
 (H.own i g).SJ D r u E a j A b d fun n h' x y=>q n h' (H.oI i g y x)
end
end Go.Vc
namespace Wl
open Go
def b8(n:Int):UInt8:=yq (n%256).toNat
theorem dQ(n:Int):qc xi n=((b8 n).toNat:Int):=by
 have h0:=yk n (show(256:Int)≠0 by decide);have a:=wC n (show(0:Int)<256 by decide);have e:((b8 n).toNat:Int)=n%256:=by
  unfold b8;rw[UInt8.toNat_ofNat'];omega
 rw[e];unfold qc;simp[qk,yO]
abbrev sV:=BitVec 32
def LG(s:sV):sV:=if s&&&1#32=1#32 then(s>>>1)^^^3988292384#32 else s>>>1
def CG:Nat->sV->sV
 |0,s=>s
 |n+1,s=>LG (CG n s)
def Xg(s:sV)(x:UInt8):sV:=CG 8 (s^^^vN 32 x.toNat)
def uD(l:List UInt8):sV:=l.foldl Xg 4294967295#32
def CH(l:List UInt8):sV:=4294967295#32^^^uD l
theorem Yf(l:List UInt8)(x:UInt8):uD (l++[x])=Xg (uD l) x:=by unfold uD;rw[wM];rfl
theorem SK(s:sV):qc xj ((s.toNat:Nat):Int)=(s.toNat:Int):=by
 have:=s.isLt;unfold qc;simp[qk,yO];omega
theorem Yg(a b:sV):qc xj ((qA (qk xj) (a.toNat:Int)^^^qA (qk xj) (b.toNat:Int)).toNat:Nat)=((a^^^b).toNat:Int):=by
 show qc xj (((qA 32 (a.toNat:Int)^^^qA 32 (b.toNat:Int):BitVec 32).toNat:Nat):Int)=_;rw[wU,wU,vp,vp,vq,vq,SK]
theorem ahI(a b:sV):qc xj ((qA (qk xj) (a.toNat:Int)&&&qA (qk xj) (b.toNat:Int)).toNat:Nat)=((a&&&b).toNat:Int):=by
 show qc xj (((qA 32 (a.toNat:Int)&&&qA 32 (b.toNat:Int):BitVec 32).toNat:Nat):Int)=_;rw[wU,wU,vp,vp,vq,vq,SK]
theorem PK(n:Int):qc xj n=((qA 32 n).toNat:Int):=by
 unfold qc;simp[qk,yO,BitVec.toNat_ofInt];omega
theorem afq(s:sV):qT (s.toNat:Int) (2^min (1:Int).toNat (qk xj))=((s>>>1).toNat:Int):=by
 rw[show min (1:Int).toNat (qk xj)=1 from rfl,y8 _ (by decide),BitVec.toNat_ushiftRight,Nat.shiftRight_eq_div_pow];simp
theorem Xh(s:sV):((s&&&1#32).toNat:Int)=1↔s&&&1#32=1#32:=by
 constructor
 ·intro h;apply BitVec.eq_of_toNat_eq;have:(1#32:sV).toNat=1:=rfl;omega
 ·intro h;rw[h];rfl
def oA(s:sV):List UInt8:=(qC 4).map fun i=>b8 (qT (s.toNat:Int) (2^(8*i)))
theorem SL(s:sV):(oA s).length=4:=by simp[oA]
def dJ(b:Int)(a:List UInt8):List UInt8:=[87,115,1,b8 b]++a++qh (55-a.length) 0
def eu(a:Int)(b:List UInt8):List UInt8:=
 if 1<=a/\a<=255/\b.length<=55 then dJ a b++oA (CH (dJ a b))++[165]else[]
theorem GC{b:Int}{a:List UInt8}(h:a.length<=55):(dJ b a).length=59:=by simp[dJ];omega
theorem nY{a:Int}{b:List UInt8}(d:1<=a)(c:a<=255)(h3:b.length<=55):(eu a b).length=64:=by
 unfold eu;rw[if_pos ⟨d,c,h3⟩];simp[GC h3,SL]
end Wl
namespace Go.Vc
open Go
def iH(s:ByteArray):List UInt8:=s.data.toList
theorem DV(s:ByteArray):(iH s).length=s.size:=rfl
def aia(n:Nat):Obj->Obj
 | .cells c elem (lo,hi)=>.cells c elem (if lo==hi then(n,n+1)else(min lo n,max hi (n+1)))
 |o=>o
theorem ac.aaq{P:Program}{h:Heap}{b n:Nat}{c:Array Value}{e:TypeId}{K:Unit->Heap->Prop}(i:h[b]?=some (.cells c e (0,0)))(k:n=c.size)(j:∀h',(∀x,x≠b->h'[x]?=h[x]?)->h'.size=h.size->(∃f,h'[b]?=some (.cells c e f))->K () h'):
  ac P (freeze {block:=b,off:=n} 1) h K:=fun w d=>by
 refine⟨(),w.freeze {block:=b,off:=n} 1,run_freeze P w _ _,⟨rfl,rfl,rfl,ql _⟩,?_⟩;subst d;have a:(w.freeze {block:=b,off:=n} 1).heap=w.heap.modify b (aia n):=rfl;refine j _ (fun x g=>?_) ?_ ?_
 ·rw[a,wv,if_neg (fun e=>g e.symm)]
 ·rw[a];simp
 ·rw[a,wv,if_pos rfl,i];exact⟨_,rfl⟩
section
variable {C:Ctx} {B:aA} {h h0:Heap} {As:List HP} {t e ts:Nat}
theorem afr(k:C.Ok)(I:∃i,C.T.get ts=some i/\i.cG=.str)(u:∃i,C.T.get t=some i/\i.cG=.slice e)(D:∃i,C.T.get e=some i/\i.cG=.int .u8)(s:ByteArray){K:Sl->Heap->Prop}(w:∀r h',Sp h h' [tW r 1 aB (iH s)]->K r h'):
  av C.P (convert ts t (.string s)) (.one (.sc .slc)) h K:=by
 obtain⟨M,F,A⟩:=I;obtain⟨J,v,G⟩:=u;obtain⟨i3,a3,y⟩:=D;have B:C.P.underlying ts=some .string:=by have:=k.cG F;rw[A]at this;exact wf this
 have z:C.P.underlying t=some (.slice e):=by have:=k.cG v;rw[G]at this;exact jd this
 have u3:C.P.underlying e=some (.int .u8):=by have:=k.cG a3;rw[y]at this;exact ID this
 unfold av convert;refine ac.bind (ac.always (aG B) ?_);refine ac.bind (ac.always (aG z) ?_);refine ac.bind (ac.always (aG u3) ?_);unfold Conv.stringToBytes;refine ac.bind (ac.NR ⟨fun p=>(by cases p),fun _ H=>?_⟩);generalize l:Question.cut (Question.appendCap s.size 0 e) H=cc;have m:s.size<=cc:=by rw[<-l];simp only[Question.cut];omega
 unfold newRow;refine ac.bind (ac.bind (ac.oG (ac.pure' ?_)));unfold markStringish;obtain⟨a,d⟩:∃a:Array Value,a=s.data.map (fun b=>Value.int .u8 b.toNat)++vm (cc-s.size) (Value.int .u8 0):=⟨_,rfl⟩
 rw[<-d];refine ac.bind (ac.bind (ac.agq ?_));have g:shapeOf (h.push (.cells a e)) h.size=some (e,a.size):=by unfold shapeOf;simp
 dsimp only;rw[g];refine ac.aaq (c:=a) (e:=e) (by simp) rfl fun h' E n j=>?_;refine ac.pure' ⟨⟨some ⟨h.size,0,none⟩,s.size,cc⟩,rfl,w _ _ ?_⟩;obtain⟨f,j⟩:=j;refine .one ⟨by rw[n];simp,fun b L _=>by rw[E b (by omega),Array.getElem?_push,if_neg (by omega)]⟩ ?_;refine⟨by rw[DV],fun i x o=>⟨h.size,0,rfl,⟨ql _,by rw[n];simp⟩,?_,trivial⟩⟩;rw[add_zero];have q:i<s.data.size:=by have:=(qm.1 o).1;simpa[iH]using this
 unfold cellOf;simp only[j,wJ,zR,Option.isSome_none,ze,if_false];rw[d,Array.getElem?_append_left (by simpa using q),Array.getElem?_map];have:s.data[i]?=some x:=by rw[<-o];simp[iH]
 rw[this];rfl
end
section
variable {C:Ctx} {t t2 e k:Nat} {z:List Value} {by_:Nat} {h h0:Heap} {B:aA} {As:List HP} {s:Sl} {l:List UInt8}
theorem QN(w:C.Ok)(I:bN C.toCB t e 1 z by_)(U:∃i,C.T.get t2=some i/\i.cG=.str)(hz:z.length=1)(E:0<by_/\by_<=128)
  (r:Own h e s 1 aB l) (x:ByteArray) (ab:l.length+x.size<=2^32) {ty:Nat} {K:Sl->Heap->Prop}
  (A:∀J h',Own h' e J 1 aB (l++iH x)->aU (fun b=>¬s.on b) h h'->(∀b,J.on b->s.on b∨h.size<=b)->K J h'):
  av C.P (qt #[t,t2] ty #[.slice s.ptr s.len s.cap,.string x]) (.one (.sc .slc)) h K:=by
 obtain⟨i2,S,W⟩:=U;have F:C.P.underlying t2=some .string:=by have:=w.cG S;rw[W]at this;exact wf this
 obtain⟨G,u,x2,x3,Q,x4,X⟩:=I.info w;have k:∀y∈(iH x).flatMap aB,y.oneCell'=true:=fun y Z=>by
  obtain⟨b,_,hb⟩:=zo.1 Z;exact gp b y hb
 have g:((x.extract 0 x.size).data.map fun b=>Value.int .u8 (b.toNat:Int))=((iH x).flatMap aB).toArray:=by
  have Y:x.extract 0 x.size=x:=by
   apply ByteArray.ext;simp[ByteArray.data_extract]
  rw[Y];apply yj;simp only[vE,iH];exact List.map_eq_flatMap
 unfold av qt;simp only[zG,wy,qy];refine ac.bind (ac.always (aG (I.under w)) ?_);refine ac.bind (ac.always (I.size w) ?_);refine ac.bind (ac.always (aG F) ?_);refine ac.bind (ac.pure' ?_);simp only[ze,if_false,wY,if_true];refine ac.bind (ac.pure' ?_);have p:=r.len;have v:∀y,(aB y).length=1:=fun _=>rfl;have j:=dg v l;have a:=dg v (iH x);have ad:=DV x;have n:∀{h:Heap} {K:Array Value->Heap->Prop},K ((iH x).flatMap aB).toArray h->ac C.P (wA 1 x.size (.string x)) h K:=fun{h K} hK=>by
  unfold wA;dsimp only;rw[g];exact ac.pure' hK
 by_cases f:s.len+x.size<=s.cap
 ·rw[if_pos f];refine ac.bind (n ?_);rcases r.head with⟨p1,p2,p3⟩|⟨b,rest,p1,p2,p3,p4⟩
  ·rw[p1];have B:iH x=[]:=qX (by omega);refine ac.pure' ⟨⟨none,s.len+x.size,s.cap⟩,rfl,A _ _ ⟨?_,.inl ⟨rfl,p2,by simp[p3,B]⟩⟩ (aU.refl _ _) ?_⟩
   ·simp;omega
   ·rintro N ⟨o,d⟩;cases d
  ·rw[p1];refine ac.bind ?_;rw[add_eq,zR];have H:((iH x).flatMap aB).length<=rest.length:=by
    rw[a,p3];omega
   refine eP (e:=e) (pre:=l.flatMap aB) (old:=rest.take ((iH x).flatMap aB).length) (post:=rest.drop ((iH x).flatMap aB).length) ?_ ?_ ?_ ?_ ?_
   ·rw[qp,qE];exact p2
   ·rw[qZ];exact w6 H
   ·rw[j,p];omega
   ·intro c V;exact k c (by simpa using V)
   ·refine ac.pure' ⟨⟨some ⟨b,0,none⟩,s.len+x.size,s.cap⟩,rfl,A _ _ ⟨?_,.inr ⟨b,rest.drop ((iH x).flatMap aB).length,rfl,?_,?_,f⟩⟩ ?_ ?_⟩
    ·simp;omega
    ·rw[hJ p2,if_pos rfl];simp
    ·rw[q7,p3,a];show(s.cap-s.len)*1-(iH x).length*1=(s.cap-(s.len+x.size))*1;omega
    ·exact aU.iG p2 (fun hn=>hn ⟨0,p1⟩)
    ·rintro N ⟨o,d⟩;cases d;exact .inl ⟨0,p1⟩
 ·rw[if_neg f];have m:Seq h (fun _=>True) s 1 aB l:=r.seq v (fun _ _=>trivial);have M:=r.cap;refine ac.bind (ac.always (cK u) ?_);rw[if_neg (fun hh=>by rcases hh.2 with h|h<;>first|exact h|(rw[x3]at h;omega))];refine ac.bind (ac.always (cK u) ?_);have O:=Xc (s.len+x.size) s.cap (by omega);rw[if_neg (by
   have:y5 (s.len+x.size) s.cap*G.bytes<=(16*2^32+16*768)*128:=we (by omega) (by rw[x3];exact E.2);omega)]
  refine ac.bind (ac.NR ⟨fun R=>(by cases R),fun _ nn=>?_⟩);refine ac.bind (ac.always (cK u) ?_);refine ac.bind (ac.Kd ?_);refine ac.bind (gb v m ?_);refine ac.bind (n ?_);have D:aI C.P (zeroValue e) Q:=(cK u).bind (by rw[x4];exact .pure);refine ac.bind (ac.always D ?_);rw[X,Gr];unfold newRow;refine ac.bind (ac.bind (ac.oG (ac.pure' (ac.pure' ?_))));generalize L:Question.cut (Question.appendCap (s.len+x.size) s.cap e) nn=cc;have q:s.len+x.size<=cc:=by rw[<-L];simp only[Question.cut];omega
  refine⟨⟨some ⟨h.size,0,none⟩,s.len+x.size,cc⟩,rfl,A _ _ ⟨?_,.inr ⟨h.size,ir z (cc-(s.len+x.size)),rfl,?_,?_,q⟩⟩ (aU.push _ _ _) ?_⟩
  ·simp;omega
  ·simp
  ·rw[ow,hz]
  ·rintro N ⟨o,d⟩;cases d;exact .inr (ql _)
theorem aa.aar(E:C.Ok)(H:aa B h0 h As)(i:Nat)(p:As[i]?=some (an e s 1 aB l))(A:bN C.toCB t e 1 z by_)(u:∃i,C.T.get t2=some i/\i.cG=.str)(D:z.length=1)(g:0<by_/\by_<=128)
  (x:ByteArray) (m:l.length+x.size<=2^32) {ty:Nat} {K:Sl->Heap->Prop} (q:∀f h',aa B h0 h' (As.set i (an e f 1 aB (l++iH x)))->K f h'):
  av C.P (qt #[t,t2] ty #[.slice s.ptr s.len s.cap,.string x]) (.one (.sc .slc)) h K:=by
 obtain⟨w,r,c,y,a⟩:=H;have j:=a i _ p;refine QN E A u D g j.1 x m fun f h' d k n=>q f h' ?_;refine aa.DR w r y a (k.mono fun b o F v=>F (j.2 b v)) ⟨d,fun b o=>⟨d.lt o,?_⟩⟩;rcases n b o with h1|h1
 ·exact .inl (j.2 b h1)
 ·exact .inr h1
end
end Go.Vc
namespace Wl
open Go
structure bY where
 name:ByteArray
 object:Int
 length:Int
 tries:List Int
structure aE where
 seq:Int
 next:Int
 p:Int×Int×Int
 extra:Int
 drives:List Int
 objs:List bY
def ahJ:bY:=⟨⟨#[]⟩,0,0,[]⟩
def pB(l:List bY)(i:Nat):bY:=l.getD i ahJ
theorem oB{l:List bY}{i:Nat}(h:i<l.length):pB l i=l[i]:=by unfold pB;rw[qe,qd h];rfl
def eV(n a b:Int):Bool:=decide (a<=n)&&decide (n<=b)
def mH(c:UInt8):Bool:=(decide (97<=c.toNat)&&decide (c.toNat<=122))||(decide (48<=c.toNat)&&decide (c.toNat<=57))||decide (c.toNat=45)
def jG(s:ByteArray):Bool:=s.data.toList.all mH&&(decide (1<=s.size)&&decide (s.size<=12))
def eG(a b:ByteArray):Bool:=Op.bytesLess a.toList b.toList
def jw(l:List Int)(a:Int)(i:Nat):Bool:=eV (l.getD i 0) 0 a&&(decide (i=0)||decide (l.getD (i-1) 0<l.getD i 0))
def pC(l:List Int)(a:Int):Bool:=(qC l.length).all (jw l a)
def countP(p:Int×Int×Int)(n:Int):Int:=if bJ p&&decide (0<n)then(n-1)/(p.1*p.2.2)+1 else 0
def gv(m:aE)(x:bY):Bool:=
 jG x.name&&(eV x.object 0 (m.next-1)&&(eV x.length 0 (m.p.1*m.p.2.2*8)&&(x.tries.all (eV · 0 15)&&decide ((x.tries.length:Int)=countP m.p x.length))))
def pD(m:aE)(i:Nat):Bool:=
 gv m (pB m.objs i)&&((decide (i=0)||eG (pB m.objs (i-1)).name (pB m.objs i).name)&&!(m.objs.take i).any fun y=>decide (y.object=(pB m.objs i).object))
def kD(m:aE):Bool:=eV m.seq 1 2147483647&&(eV m.next 0 16777216&&(bJ m.p&&eV m.extra 0 16))
def bP(m:aE):Bool:=kD m&&(pC m.drives 63&&(decide (m.objs.length<=12)&&(qC m.objs.length).all (pD m)))
theorem GD{p:Nat->Bool}{n i:Nat}(a:i<n)(h:p i=false):(qC n).all p=false:=yh.2 ⟨i,qF.2 a,by rw[h];simp⟩
theorem ub{p:Nat->Bool}{n:Nat}(h:∀i,i<n->p i=true):(qC n).all p=true:=qM.2 fun i a=>h i (qF.1 a)
def bL(n:Int)(k:Nat):List UInt8:=(qC k).map fun i=>b8 (qT n (2^(8*(k-1-i))))
theorem ck(n:Int)(k:Nat):(bL n k).length=k:=by simp[bL]
def iT(x:bY):List UInt8:=b8 x.name.size::(x.name.data.toList++(bL x.object 3++(bL x.length 2++x.tries.map b8)))
def gj(m:aE):List UInt8:=
 if bP m then bL m.seq 4++(bL m.next 4++([b8 m.p.1,b8 m.p.2.1,b8 m.p.2.2,b8 m.extra,b8 m.drives.length]++(m.drives.map b8++(b8 m.objs.length::m.objs.flatMap iT))))else[]
def jQ(seq a c:Int)(b:List UInt8):List UInt8:=eu 2 (bL seq 4++([b8 a,b8 c,b8 b.length]++b))
def gT(b:List UInt8):Nat:=(b.length+47)/48
def be(m:aE):List (List UInt8):=(qC (gT (gj m))).map fun i:Nat=>jQ m.seq i (gT (gj m)) (((gj m).drop (48*i)).take 48)
theorem aas{m:aE}(h:bP m=true):kD m=true:=by unfold bP at h;simp at h;exact h.1
theorem SM{m:aE}(h:kD m=true):(1<=m.seq/\m.seq<=2147483647)/\(0<=m.next/\m.next<=16777216)/\bJ m.p=true/\0<=m.extra/\m.extra<=16:=by
 unfold kD eV at h;simpa[and_assoc]using h
theorem DW{m:aE}{c:List UInt8}(h:c∈be m):c.length=64:=by
 unfold be at h;obtain⟨i,_,rfl⟩:=qu.1 h;exact nY (by decide) (by decide) (by simp[ck];omega)
structure cT where
 object:Int
 block:Int
 id:Int
 p:Int×Int×Int
 seed:Int
 data:List UInt8
theorem sW(n:Int):((b8 n).toNat:Int)=n%256:=by
 have h0:=yk n (show(256:Int)≠0 by decide);have a:=wC n (show(0:Int)<256 by decide);unfold b8;rw[UInt8.toNat_ofNat'];omega
def iU(r:cT):Bool:=(eV r.object 0 16777215&&(eV r.block 0 7&&bU r.id))&&(bJ r.p&&decide ((r.data.length:Int)=r.p.2.2))
def iA(r:cT):List UInt8:=bL r.object 3++(bL r.block 1++(bL r.id 2++([b8 r.p.1,b8 r.p.2.1,b8 r.p.2.2]++(bL r.seed 4++r.data))))
def dN(r:cT):List UInt8:=if iU r then eu 1 (iA r)else[]
def cW(l:List UInt8):Int:=l.foldl (fun n x=>n*256+x.toNat) 0
def jT(c:List UInt8):Option (Int×List UInt8):=
 if c.length=64/\eu ((c.getD 3 0).toNat:Int) ((c.drop 4).take 55)=c then some (((c.getD 3 0).toNat:Int),(c.drop 4).take 55)else none
def uE(x:List UInt8):cT:=
 ⟨cW (x.take 3),cW ((x.drop 3).take 1),cW ((x.drop 4).take 2),(cW ((x.drop 6).take 1),cW ((x.drop 7).take 1),cW ((x.drop 8).take 1)),cW ((x.drop 9).take 4),(x.drop 13).take (cW ((x.drop 8).take 1)).toNat⟩
def dm(c:List UInt8):Option cT:=
 match jT c with
 |some (k,x)=>if k=1/\bJ (uE x).p=true/\dN (uE x)=c then some (uE x)else none
 |none=>none
theorem aat(n:Int):bL n 1=[b8 n]:=by simp[bL]
theorem aau(n:Int):bL n 2=[b8 (qT n (2^8)),b8 n]:=by simp[bL,zI]
theorem Vn(n:Int):bL n 3=[b8 (qT n (2^16)),b8 (qT n (2^8)),b8 n]:=by simp[bL,zI]
theorem LH(n:Int):bL n 4=[b8 (qT n (2^24)),b8 (qT n (2^16)),b8 (qT n (2^8)),b8 n]:=by simp[bL,zI]
theorem DX{n:Int}(a:0<=n)(b:n<256):cW [b8 n]=n:=by
 simp only[cW,zD,wQ,sW];omega
theorem fdiv_pow(n:Int)(k:Nat):qT n (2^k)=n/(2^k):=y8 _ (Int.pow_nonneg (by decide))
theorem ade{n:Int}(a:0<=n)(b:n<65536):cW (bL n 2)=n:=by
 rw[aau,fdiv_pow];simp only[cW,zD,wQ,sW];omega
theorem Yh{n:Int}(a:0<=n)(b:n<16777216):cW (bL n 3)=n:=by
 rw[Vn,fdiv_pow,fdiv_pow];simp only[cW,zD,wQ,sW];omega
theorem PL{n:Int}(a:0<=n)(b:n<4294967296):cW (bL n 4)=n:=by
 rw[LH,fdiv_pow,fdiv_pow,fdiv_pow];simp only[cW,zD,wQ,sW];omega
theorem iI(r:cT):iU r=true↔(0<=r.object/\r.object<=16777215)/\(0<=r.block/\r.block<=7)/\(0<=r.id/\r.id<=65535)/\bJ r.p=true/\(r.data.length:Int)=r.p.2.2:=by
 unfold iU eV bU;simp[and_assoc]
theorem oJ{r:cT}(h:iU r=true):(iA r).length=13+r.data.length/\r.data.length<=24:=by
 obtain⟨_,_,_,a,b⟩:=(iI r).1 h;have:=(bK r.p).1 a;refine⟨by unfold iA;simp[ck];omega,by omega⟩
theorem SN{r:cT}(h:iU r=true):(dN r).length=64:=by
 have:=oJ h;unfold dN;rw[if_pos h];exact nY (by decide) (by decide) (by omega)
theorem AZ{k:Int}{a:List UInt8}(d:1<=k)(c:k<=255)(h3:a.length<=55):jT (eu k a)=some (k,a++qh (55-a.length) 0):=by
 obtain⟨x,b⟩:∃x,x=a++qh (55-a.length) 0:=⟨_,rfl⟩
 have e:x.length=55:=by rw[b];simp;omega
 have f:eu k a=[87,115,1,b8 k]++(x++(oA (CH (dJ k a))++[165])):=by
  unfold eu;rw[if_pos ⟨d,c,h3⟩];unfold dJ;rw[b];simp[qp]
 have l:((eu k a).getD 3 0)=b8 k:=by rw[f];rfl
 have h:((eu k a).drop 4).take 55=x:=by
  rw[f];have:([87,115,1,b8 k]++(x++(oA (CH (dJ k a))++[165]))).drop 4=x++(oA (CH (dJ k a))++[165]):=rfl;rw[this,yd (by omega),qi (by omega)]
 have i:((b8 k).toNat:Int)=k:=by rw[sW];omega
 have j:dJ k x=dJ k a:=by
  unfold dJ;rw[e,b];simp[qp]
 have g:eu k x=eu k a:=by
  unfold eu;rw[if_pos ⟨d,c,by omega⟩,if_pos ⟨d,c,h3⟩,j]
 unfold jT;rw[l,h,i,if_pos ⟨nY d c h3,g⟩,b]
theorem Yi{r:cT}(h:iU r=true)(A:0<=r.seed/\r.seed<4294967296)(z:List UInt8):uE (iA r++z)=r:=by
 obtain⟨w,t,h3,q,x⟩:=(iI r).1 h;have y:=(bK r.p).1 q;have l1:=ck r.object 3;have l2:=ck r.id 2;have k:=ck r.seed 4;have e:iA r++z=bL r.object 3++([b8 r.block]++(bL r.id 2++([b8 r.p.1]++([b8 r.p.2.1]++([b8 r.p.2.2]++(bL r.seed 4++(r.data++z))))))):=by
  unfold iA;rw[aat];simp[qp]
 have b:∀(u v:List UInt8) (n:Nat),u.length=n->∀m,(u++v).drop (n+m)=v.drop m:=fun u v n d m=>by
  rw[<-zy,<-d,List.drop_left]
 have a:∀(u v:List UInt8) (n:Nat),u.length=n->(u++v).take n=u:=fun u v n d=>by rw[<-d,vx]
 have g:(iA r++z).drop 3=[b8 r.block]++(bL r.id 2++([b8 r.p.1]++([b8 r.p.2.1]++([b8 r.p.2.2]++(bL r.seed 4++(r.data++z)))))):=by rw[e];exact b _ _ 3 l1 0
 have o:(iA r++z).drop 4=bL r.id 2++([b8 r.p.1]++([b8 r.p.2.1]++([b8 r.p.2.2]++(bL r.seed 4++(r.data++z))))):=by
  rw[show 4=3+1 from rfl,<-zy,g];rfl
 have l:(iA r++z).drop 6=[b8 r.p.1]++([b8 r.p.2.1]++([b8 r.p.2.2]++(bL r.seed 4++(r.data++z)))):=by
  rw[show 6=4+2 from rfl,<-zy,o];exact b _ _ 2 l2 0
 have f:(iA r++z).drop 7=[b8 r.p.2.1]++([b8 r.p.2.2]++(bL r.seed 4++(r.data++z))):=by
  rw[show 7=6+1 from rfl,<-zy,l];rfl
 have i:(iA r++z).drop 8=[b8 r.p.2.2]++(bL r.seed 4++(r.data++z)):=by
  rw[show 8=7+1 from rfl,<-zy,f];rfl
 have j:(iA r++z).drop 9=bL r.seed 4++(r.data++z):=by
  rw[show 9=8+1 from rfl,<-zy,i];rfl
 have c:(iA r++z).drop 13=r.data++z:=by
  rw[show 13=9+4 from rfl,<-zy,j];exact b _ _ 4 k 0
 have s:cW (((iA r++z).drop 8).take 1)=r.p.2.2:=by rw[i,a _ _ 1 rfl,DX (by omega) (by omega)]
 unfold uE;rw[s,g,o,l,f,j,c];rw[a [b8 r.block] _ 1 rfl,a _ _ 2 l2,a [b8 r.p.1] _ 1 rfl,a [b8 r.p.2.1] _ 1 rfl,a _ _ 4 k];have t0:(iA r++z).take 3=bL r.object 3:=by rw[e];exact a _ _ 3 l1
 rw[t0,Yh (by omega) (by omega),DX (by omega) (by omega),ade (by omega) (by omega),DX (by omega) (by omega),DX (by omega) (by omega),PL (by omega) (by omega)];have:r.p.2.2.toNat=r.data.length:=by omega
 rw[this,vx]
theorem mI{r:cT}(h:iU r=true)(a:0<=r.seed/\r.seed<4294967296):dm (dN r)=some r:=by
 have c:=oJ h;have b:=((iI r).1 h).2.2.2.1;have e:dN r=eu 1 (iA r):=by unfold dN;rw[if_pos h]
 unfold dm;rw[e,AZ (by decide) (by decide) (by omega)];dsimp only;rw[Yi h a,if_pos ⟨rfl,b,e⟩]
theorem Yj{c:List UInt8}{r:cT}(h:dm c=some r):dN r=c/\iU r=true/\bJ r.p=true:=by
 unfold dm at h;cases hc:jT c with
 |none=>rw[hc]at h;cases h
 |some kx=>
  rw[hc]at h;dsimp only at h;by_cases a:kx.1=1/\bJ (uE kx.2).p=true/\dN (uE kx.2)=c
  ·rw[if_pos a]at h;injection h with h
   subst h;refine⟨a.2.2,?_,a.2.1⟩;by_cases d:iU (uE kx.2)=true
   ·exact d
   ·exfalso;have b:=a.2.2;unfold dN at b;rw[if_neg d]at b;unfold jT at hc;rw[<-b]at hc;simp at hc
  ·rw[if_neg a]at h;cases h
end Wl
namespace Go.Vc
open Go
section
variable {C:Ctx} {h:Heap} {t e ts:Nat}
theorem JA:∀(l:List UInt8) (b:ByteArray),l.foldl ByteArray.push b=⟨(b.data.toList++l).toArray⟩
 |[],b=>by simp
 |x::l,b=>by
  rw[zD,JA l (b.push x)];simp[ByteArray.push]
theorem Xi(u:C.Ok)(A:∃i,C.T.get t=some i/\i.cG=.slice e)(N:∃i,C.T.get ts=some i/\i.cG=.str)(I:∃i,C.T.get e=some i/\i.cG=.int .u8){s:Sl}{l:List UInt8}{p:aA}(z:Seq h p s 1 aB l){K:ByteArray->Heap->Prop}(w:K ⟨l.toArray⟩ h):
  av C.P (convert t ts (.slice s.ptr s.len s.cap)) (.one (.sc .str)) h K:=by
 obtain⟨Q,L,G⟩:=N;obtain⟨O,B,M⟩:=A;obtain⟨i3,a3,D⟩:=I;have H:C.P.underlying ts=some .string:=by have:=u.cG L;rw[G]at this;exact wf this
 have E:C.P.underlying t=some (.slice e):=by have:=u.cG B;rw[M]at this;exact jd this
 have u3:C.P.underlying e=some (.int .u8):=by have:=u.cG a3;rw[D]at this;exact ID this
 unfold av convert;refine ac.bind (ac.always (aG E) ?_);refine ac.bind (ac.always (aG H) ?_);refine ac.bind (ac.always (aG u3) ?_);unfold Conv.bytesToString;have g:=gb (P:=C.P) (f:=aB) (k:=1) (K:=fun q h'=>q=(l.flatMap aB).toArray/\h'=h) (fun _=>rfl) z ⟨rfl,rfl⟩;cases hp:s.ptr with
 |none=>
  have:l=[]:=by
   cases l with
   |nil=>rfl
   |cons x r=>obtain⟨b,o,y,_⟩:=z.elem 0 x (by simp);rw[hp]at y;cases y
  subst this;exact ac.pure' ⟨⟨#[]⟩,rfl,w⟩
 |some a=>
  rw[hp]at g;dsimp only;have d:ac C.P (loadCells a s.len) h fun q h'=>q=(l.flatMap aB).toArray/\h'=h:=by
   have:wA 1 s.len (.slice (some a) s.len s.cap)=loadCells a s.len:=by
    unfold wA;simp
   rw[<-this];exact g
  refine ac.bind (d.mono ?_);rintro _ _ ⟨rfl,rfl⟩;have j:∀(l:List UInt8) (b:ByteArray),aI C.P (forIn (m:=Sem) (l.flatMap aB) b fun c r=>match c with
    |vX xi n=>do pure (ForInStep.yield (r.push (yq n.toNat)))
    |_=>do let r<-stuck "bytesToString: byte expected";pure r) (l.foldl ByteArray.push b):=fun l=>by
   induction l with
   |nil=>intro b;exact .pure
   |cons x l ih=>
    intro b;have J:(x::l).flatMap aB=Value.int .u8 x.toNat::l.flatMap aB:=rfl;rw[J,List.forIn_cons];have F:b.push (yq ((x.toNat:Int)).toNat)=b.push x:=by
     rw[qo];congr 1;apply yl.1;simp
    refine aI.bind (v:=ForInStep.yield (b.push x)) (by dsimp only;rw[F];exact .pure) ?_;exact ih _
  refine ac.bind (ac.always (v:=l.foldl ByteArray.push ByteArray.empty) ?_ ?_)
  ·rw[List.forIn_toArray];exact j l _
  ·refine ac.pure' ⟨_,rfl,?_⟩;rw[JA];exact w
end
end Go.Vc
namespace Wl
section
variable {α:Type} (le:α->α->Bool)
def it(a b:α):Bool:=le a b&&le b a
def cl(l a:List α):Prop:=∀x,l.filter (it le x)=a.filter (it le x)
def Sd(l:List α):Prop:=l.Pairwise fun a b=>le a b=true
structure Ord:Prop where
 trans:∀a b c,le a b=true->le b c=true->le a c=true
 total:∀a b,(le a b||le b a)=true
variable {le}
theorem Ord.GF(o:Ord le){a b:α}(h:¬le a b=true):le b a=true:=by
 have:=o.total a b;cases h1:le a b with
 |true=>exact absurd h1 h
 |false=>rw[h1]at this;simpa using this
theorem Ord.refl(o:Ord le)(a:α):le a a=true:=by have:=o.total a a;simpa using this
theorem cl.refl(l:List α):cl le l l:=fun _=>rfl
theorem cl.trans{l1 l2 a:List α}(h:cl le l1 l2)(k:cl le l2 a):cl le l1 a:=fun x=>(h x).trans (k x)
theorem cl.symm{l1 l2:List α}(h:cl le l1 l2):cl le l2 l1:=fun x=>(h x).symm
theorem cl.app{a b c d:List α}(h:cl le a b)(k:cl le c d):cl le (a++c) (b++d):=fun x=>by
 rw[zk,zk,h x,k x]
theorem cl.mem(o:Ord le){l a:List α}(h:cl le l a){y:α}(c:y∈a):y∈l:=by
 have b:y∈a.filter (it le y):=qI.2 ⟨c,by unfold it;rw[o.refl];rfl⟩;rw[<-h y]at b;exact(qI.1 b).1
theorem cl.rot(o:Ord le){u v:List α}(h:∀x∈u,∀y∈v,¬le x y=true):cl le (u++v) (v++u):=fun z=>by
 rw[zk,zk];by_cases e:u.filter (it le z)=[]
 ·rw[e];simp
 ·by_cases f:v.filter (it le z)=[]
  ·rw[f];simp
  ·exfalso;obtain⟨x,i⟩:=vf _ e;obtain⟨y,g⟩:=vf _ f;obtain⟨d,a⟩:=qI.1 i;obtain⟨c,b⟩:=qI.1 g;unfold it at a b;simp only[qz]at a b;exact h x d y c (o.trans _ _ _ a.2 b.1)
theorem cl.SO(o:Ord le){l:List α}(h:cl le [] l):l=[]:=by
 cases l with
 |nil=>rfl
 |cons a l=>exact absurd (cl.mem o h (qU ..)) (by simp)
theorem PM(o:Ord le):∀(l c:List α),Sd le l->Sd le c->cl le l c->l=c
 |[],c,_,_,h=>(cl.SO o h).symm
 |a::l,[],_,_,h=>absurd (cl.SO o h.symm) (by simp)
 |a::l,b::c,s,s',h=>by
  have d:a=b:=by
   have i:le a b=true:=by
    have:=cl.mem o h (y:=b) (qU ..);rcases za.1 this with e|e
    ·rw[e];exact o.refl _
    ·exact(zN.1 s).1 _ e
   have g:le b a=true:=by
    have:=cl.mem o h.symm (y:=a) (qU ..);rcases za.1 this with e|e
    ·rw[e];exact o.refl _
    ·exact(zN.1 s').1 _ e
   have h3:=h a;have j:it le a a=true:=by unfold it;rw[o.refl];rfl
   have f:it le a b=true:=by unfold it;rw[i,g];rfl
   rw[yP j,yP f]at h3;injection h3
  subst d;rw[PM o l c (zN.1 s).2 (zN.1 s').2 fun x=>by
   have h3:=h x;rw[zp,zp]at h3;split at h3
   ·injection h3
   ·exact h3]
theorem GG(o:Ord le)(l:List α):Sd le (l.mergeSort le)/\cl le l (l.mergeSort le):=by
 refine⟨yQ o.trans o.total l,fun x=>?_⟩;have f:(l.filter (it le x)).Pairwise fun a b=>le a b=true:=by
  rw[List.pairwise_filter];refine List.Pairwise.imp ?_ (List.pairwise_of_forall (l:=l) (R:=fun _ _=>True) fun _ _=>trivial);intro a b _ d e;unfold it at d e;simp only[qz]at d e;exact o.trans _ _ _ d.2 e.1
 have g:=List.sublist_mergeSort o.trans o.total f List.filter_sublist;have c:=g.filter (it le x);rw[List.filter_filter]at c;simp only[vS]at c;exact c.eq_of_length ((yn l le).symm.filter _).length_eq
theorem aeP(o:Ord le){l a:List α}(s:Sd le a)(h:cl le l a):a=l.mergeSort le:=by
 obtain⟨c,b⟩:=GG o l;exact PM o _ _ s c (h.symm.trans b)
theorem Sd.app(o:Ord le){u v:List α}(a:Sd le u)(b:Sd le v)(h:∀x∈u,∀y∈v,le x y=true):Sd le (u++v):=wV.2 ⟨a,b,h⟩
theorem Sd.left{u v:List α}(h:Sd le (u++v)):Sd le u:=(wV.1 h).1
theorem Sd.right{u v:List α}(h:Sd le (u++v)):Sd le v:=(wV.1 h).2.1
theorem Sd.IQ{u v:List α}(h:Sd le (u++v)):∀x∈u,∀y∈v,le x y=true:=(wV.1 h).2.2
theorem Sd.at_(o:Ord le){l:List α}(h:Sd le l){i j:Nat}(b:i<=j)(a:j<l.length):le (l[i]'(by omega)) l[j]=true:=by
 by_cases e:i=j
 ·subst e;exact o.refl _
 ·exact zd.1 h i j (by omega) a (by omega)
theorem aaw(o:Ord le){l1 l2 a b f g:List α}(p:Sd le (l1++l2))(m:Sd le (a++b))(h:∀x∈l1,∀y∈b,le x y=true)(e:∀x∈l2,∀y∈a,¬le x y=true)
  (j:cl le (l1++a) f) (n:Sd le f) (i:cl le (l2++b) g) (l:Sd le g):Sd le (f++g)/\cl le ((l1++l2)++(a++b)) (f++g):=by
 constructor
 ·refine Sd.app o n l fun x d y c=>?_;rcases qB.1 (cl.mem o j d)with d|d<;>rcases qB.1 (cl.mem o i c)with c|c
  ·exact p.IQ x d y c
  ·exact h x d y c
  ·exact o.GF (e y c x d)
  ·exact m.IQ x d y c
 ·have k:cl le ((l1++l2)++(a++b)) ((l1++a)++(l2++b)):=by
   rw[show(l1++l2)++(a++b)=l1++((l2++a)++b)by simp,show(l1++a)++(l2++b)=l1++((a++l2)++b)by simp];exact(cl.refl _).app ((cl.rot o e).app (cl.refl _))
  exact k.trans (j.app i)
end
section
variable {α:Type} {le:α->α->Bool}
theorem ws(o:Ord le):∀{l j:List α},cl le l j->l.length=j.length
 |[],j,h=>by rw[cl.SO o h]
 |a::l,j,h=>by
  have z:=cl.mem o h.symm (y:=a) (qU ..);obtain⟨u,v,r⟩:=List.append_of_mem z;have q:∃(u:List α) (b:α) (v:List α),j=u++b::v/\(∀x∈u,it le a x=false)/\it le a b=true:=by
   have m:j.filter (it le a)≠[]:=fun F=>by
    have:a∈j.filter (it le a):=qI.2 ⟨z,by unfold it;rw[o.refl];rfl⟩;rw[F]at this;cases this
   clear r u v z h
   induction j with
   |nil=>exact absurd rfl m
   |cons c j ih=>
    by_cases s:it le a c=true
    ·exact⟨[],c,j,rfl,by simp,s⟩
    ·rw[List.filter_cons_of_neg s]at m;obtain⟨u,b,v,e,f,g⟩:=ih m;refine⟨c::u,b,v,by rw[e];rfl,fun x i=>?_,g⟩;rcases za.1 i with rfl|i
     ·simpa using s
     ·exact f x i
  obtain⟨u,b,v,rfl,A,G⟩:=q;have D:it le a a=true:=by unfold it;rw[o.refl];rfl
  have n:=h a;have t:u.filter (it le a)=[]:=wF.2 fun x i=>by rw[A x i];simp
  rw[yP D,zk,t,zW,yP G]at n;have w:a=b:=by injection n
  subst w;have B:cl le l (u++v):=fun x=>by
   have i:=h x;rw[zp,zk,zp]at i;rw[zk];by_cases d:it le x a=true
   ·rw[if_pos d,if_pos d]at i;have p:u.filter (it le x)=[]:=wF.2 fun y E k=>by
     have:=A y E;unfold it at this d k;simp only[qz]at d k;rw[o.trans _ _ _ d.2 k.1,o.trans _ _ _ k.2 d.1]at this;cases this
    rw[p,zW]at i⊢;injection i
   ·rw[if_neg d,if_neg d]at i;exact i
  rw[zb,ws o B];simp;omega
end
end Wl
