/- Lemmas for the proof of the law; no condition. -/
import Derived.Test.YtbhpnfilcomonaaGreatDoorPlB
set_option linter.unusedVariables false
set_option linter.unusedSimpArgs false
open Go.IntKind renaming bits -> qj, i64 -> vW, signed -> yp, u32 -> vY, u64 -> vZ, u8 -> vX, wrap -> qc
open Int renaming emod_lt_of_pos -> yb, emod_nonneg -> yD, fdiv -> qL, fdiv_eq_ediv_of_nonneg -> wK, tmod -> zY
open List renaming append_assoc -> qm, drop_drop -> zq, drop_of_length_le -> zd, ext_getElem? -> zr, filter_append -> zn, filter_cons -> zx, filter_cons_of_pos -> yq, filter_eq_nil_iff -> w6, find?_eq_none -> yB, flatMap_append -> qY, foldl_cons -> zA, foldl_nil -> wD, getD_eq_getElem?_getD -> qf, getElem?_cons_succ -> qo, getElem?_cons_zero -> zX, getElem?_eq_getElem -> qd, getElem?_mapIdx -> yO, getElem?_toArray -> zp, getElem_mem -> qn, length_append -> qw, length_drop -> qV, length_take -> qR, mem_append -> qH, mem_cons -> zj, mem_cons_self -> qT, mem_filter -> zh, mem_flatMap -> zL, mem_map -> qE, mem_or_eq_of_mem_set -> wb, mem_range -> qF, nil_append -> zW, pairwise_append -> wI, pairwise_cons -> zF, range -> qD, range_succ -> zE, replicate -> qh, take_append_drop -> qA, take_left -> vF, take_of_length_le -> qi
open BitVec renaming ofInt -> qy, ofInt_natCast -> wH, ofNat_toNat -> y9, setWidth_eq -> va
open Nat renaming le_refl -> qp, min_eq_left -> wv, zero_add -> zG
open Option renaming map_some -> qJ
open Go.Builtin renaming append_ -> qu, copy_ -> zK, firstCells -> wk
open UInt8 renaming ofNat -> w8
open Array renaming getElem?_modify -> wB
open Bool renaming and_eq_true -> qz, false_eq_true -> zl
open Go.Value renaming int -> vQ
namespace Wl
def bV(p:Int×Int×Int):Bool:=decide (p.1>=1)&&(decide (p.1<=16)&&(decide (p.2.1>=1)&&(decide (p.2.1<=4)&&(decide (p.2.2>=1)&&decide (p.2.2<=24)))))
theorem cb(p:Int×Int×Int):bV p=true↔(1<=p.1/\p.1<=16)/\(1<=p.2.1/\p.2.1<=4)/\1<=p.2.2/\p.2.2<=24:=by
 simp[bV,and_assoc]
def cG(p:Int×Int×Int):Int:=if bV p then p.1+p.2.1 else 0
open Go
def Hv(s:Int):Int:=qc vZ (qc vZ (s*(6364136223846793005:Int))+(1442695040888963407:Int))
def told(s:Int):Int:=qc vY (qL (Hv s) (2^min (32:Int).toNat (qj vZ)))
def jH(s n:Int):Int:=qc vW (zY (qc vZ (told s)) (qc vZ n))
theorem wrap_u64(x:Int):qc vZ x=x%18446744073709551616:=rfl
theorem px(s n:Int)(c:0<n:=by omega)(f:n<=2^62:=by omega):0<=jH s n/\jH s n<n:=by
 unfold jH;have a:qc vZ n=n:=by rw[wrap_u64];omega
 rw[a];have b:0<=qc vZ (told s):=by rw[wrap_u64];omega
 have e:=Int.tmod_lt_of_pos (qc vZ (told s)) c;have d:0<=zY (qc vZ (told s)) n:=Int.tmod_nonneg n b;rw[Go.Vc.an _];exact⟨d,e⟩
def iW(l:aD)(i:Nat):Int:=l.getD i 0
def nC(l:aD)(i j:Nat):aD:=(l.set i (iW l j)).set j (iW l i)
theorem Kc(l:aD)(i j:Nat):(nC l i j).length=l.length:=by simp[nC]
def fo(n:Nat)(s:Int)(l:aD):Nat->Int×aD
 |0=>(s,l)
 |k+1=>(Hv (fo n s l k).1,nC (fo n s l k).2 k (k+(jH (fo n s l k).1 ((n-k:Nat):Int)).toNat))
theorem py(n:Nat)(s:Int)(l:aD):∀k,(fo n s l k).2.length=l.length
 |0=>rfl
 |k+1=>by rw[fo,Kc,py n s l k]
theorem Dl{l:aD}{i:Nat}(h:i<l.length):iW l i∈l:=by
 rw[iW,qf,qd h];exact qn h
theorem To{l:aD}{i j:Nat}(b:i<l.length)(a:j<l.length){x:Int}(c:x∈nC l i j):x∈l:=by
 rcases wb c with h|h
 ·rcases wb h with h|h
  ·exact h
  ·rw[h];exact Dl a
 ·rw[h];exact Dl b
def upto(n:Nat):aD:=(qD n).map fun i:Nat=>(i:Int)
theorem fw(n:Nat):(upto n).length=n:=by simp[upto]
theorem Dm(n:Nat)(s:Int):∀k,k<=n->∀x∈(fo n s (upto n) k).2,0<=x/\x<n
 |0,_,x,hx=>by
  simp only[fo,upto,qE,qF]at hx;obtain⟨i,l,rfl⟩:=hx;omega
 |k+1,hk,x,hx=>by
  have f:k<n->n-k<=2^62->k+(jH (fo n s (upto n) k).1 ((n-k:Nat):Int)).toNat<n:=fun m j=>by
   have:=px (fo n s (upto n) k).1 ((n-k:Nat):Int);omega
  have e:=py n s (upto n) k;rw[fw]at e;by_cases b:n-k<=2^62
  ·refine Dm n s k (by omega) x (To (by omega) ?_ hx);have:=f (by omega) b;omega
  ·--beyond any size:what is set is 0 or a member
   have c:∀y∈nC (fo n s (upto n) k).2 k (k+(jH (fo n s (upto n) k).1 ((n-k:Nat):Int)).toNat),y∈(fo n s (upto n) k).2∨y=0:=by
    intro y d;have g:∀i,iW (fo n s (upto n) k).2 i∈(fo n s (upto n) k).2∨iW (fo n s (upto n) k).2 i=0:=fun i=>by
     by_cases h:i<(fo n s (upto n) k).2.length
     ·exact .inl (Dl h)
     ·right;simp only[iW,qf];rw[List.getElem?_eq_none (by omega)];rfl
    rcases wb d with h|h
    ·rcases wb h with h|h
     ·exact .inl h
     ·rw[h];exact g _
    ·rw[h];exact g _
   rcases c x hx with h|h
   ·exact Dm n s k (by omega) x h
   ·subst h;omega
def iP(l:aD):aD:=l.mergeSort fun x y=>decide (x<=y)
theorem Hw(l:aD):(iP l).length=l.length:=List.length_mergeSort l
theorem Hx(l:aD)(x:Int):x∈iP l↔x∈l:=List.mem_mergeSort
def BJ(s:Int)(n k:Nat):aD:=iP ((fo n s (upto n) k).2.take k)
theorem Tp{s:Int}{n k:Nat}(a:k<=n){x:Int}(b:x∈BJ s n k):0<=x/\x<n:=
 Dm n s k a x (List.mem_of_mem_take ((Hx _ _).1 b))
theorem Tq(s:Int)(n k:Nat)(a:k<=n):(BJ s n k).length=k:=by
 rw[BJ,Hw,qR,py,fw];omega
def dI(l:Nat):Nat:=if l<=1 then l else if l<=4 then 2 else if l<=9 then 3 else if l<=16 then 4 else 5
def BL(r:Nat):Nat:=if r=0 then 0 else if r=1 then 1 else if r<=3 then 2 else 3
def mZ(l k:Nat):Nat:=
 (if k>1 then 1048576/(k*(k-1))else 1048576/l)+
  (if k<l/dI l then 1048576*dI l/(l*k)else if k=l/dI l then 1048576*dI l*BL (dI l)/l else 0)
def kd(l:Nat):Nat->Nat
 |0=>0
 |k+1=>kd l k+mZ l (k+1)
def gY(l:Nat):aD:=(qD l).map fun k=>((kd l (k+1):Nat):Int)
theorem jp(l:Nat):(gY l).length=l:=by simp[gY]
def OC(t:aD)(x:Int):Nat:=(t.findIdx fun y=>decide (y>x))+1
theorem Es:∀l,l<=20->∀k,k<=20->mZ l k<=2^30:=by decide+kernel
theorem BM(l:Nat)(a:l<=20):∀k,k<=20->kd l k<=k*2^30
 |0,_=>by simp[kd]
 |k+1,hk=>by
  have:=BM l a k (by omega);have:=Es l a (k+1) hk;rw[kd];omega
theorem Kd:∀l,l<=20->1<=l->0<kd l l:=by decide+kernel
theorem Et(l:Nat)(h:1<=l):(gY l).getLast?=some ((kd l l:Nat):Int):=by
 obtain⟨k,rfl⟩:∃k,l=k+1:=⟨l-1,by omega⟩
 simp[gY,zE]
def QE(seed id:Int):Int:=qc vZ (qc vY ((qy (qj vY) seed^^^(qy (qj vY) (qc vY ((qc vY id)*(2654435761:Int))))).toNat:Nat))
def Jr(s:Int)(n:Nat):Nat:=OC (gY n) (jH s (kd n n))
theorem pz(s:Int)(n:Nat)(b:1<=n)(a:n<=20):Jr s n<=n:=by
 unfold Jr OC;have e:=Kd n a b;have c:=BM n a n a;have d:=px s (kd n n);have:=List.findIdx_lt_length_of_exists (p:=fun y=>decide (y>jH s (kd n n))) (xs:=gY n) ⟨_,List.mem_of_getLast? (Et n b),by simpa using d.2⟩;rw[jp]at this;omega
def cg(id:Int):Bool:=decide (0<=id)&&decide (id<=65535)
def eO(n:Nat)(seed id:Int):aD:=BJ (Hv (Hv (QE seed id))) n (Jr (Hv (QE seed id)) n)
theorem rv{n:Nat}(c:1<=n)(a:n<=20){seed id x:Int}(b:x∈eO n seed id):0<=x/\x<n:=Tp (pz _ n c a) b
theorem Hy{n:Nat}(b:1<=n)(a:n<=20)(seed id:Int):(eO n seed id).length<=n:=by
 rw[eO,Tq _ _ _ (pz _ n b a)];exact pz _ n b a
def fl(n:Nat)(l:aD):aL:=l.foldl (fun r i=>r.set i.toNat 1) (qh n 0)
theorem na(n:Nat)(l:aD):(fl n l).length=n:=by
 have:∀(l:aD) (r:aL),(l.foldl (fun r i=>r.set i.toNat 1) r).length=r.length:=by
  intro l
  induction l with
  |nil=>intro r;rfl
  |cons a t ih=>intro r;rw[zA,ih];simp
 rw[fl,this];simp
def nc(n:Nat)(seed id:Int):aL:=fl n (eO n seed id)
theorem Tr(n:Nat)(seed id:Int):(nc n seed id).length=n:=na _ _
def jq(K H h:Nat):aL:=(qD K).map (fun j=>Gf.pw ((h+1)*(j+1)%255))++(qD H).map fun i=>if i=h then 1 else 0
def bT(K H:Nat):bR:=(qD H).map (jq K H)
theorem Ke(K H h:Nat):(jq K H h).length=K+H:=by simp[jq]
def eI(p:Int×Int×Int)(seed:Int)(a:aD):bR:=
 if bV p then bT p.1.toNat p.2.1.toNat++(a.filter cg).map (nc (cG p).toNat seed)else[]
theorem pA{α:Type}{f:α->Bool}{l:List α}{k:Nat}(a:k<l.length):(l.take (k+1)).filter f=if f l[k]then(l.take k).filter f++[l[k]]else(l.take k).filter f:=by
 rw[List.take_succ_eq_append_getElem a,zn];by_cases h:f l[k]=true<;>simp[h]
abbrev Row:=aL
abbrev aX:=List Row
def scaleB(c:UInt8)(l:Row):Row:=l.map (Gf.mul c)
def cX(c:UInt8)(a to:Row):Row:=List.zipWith (fun x y=>y^^^Gf.mul c x) a to
def aJ(r:Row)(bu:Nat):UInt8:=r.getD bu 0
def aC(m:aX)(i:Nat):Row:=m.getD i []
def ge(m:aX)(a bu:Nat):Option Nat:=(qD m.length).find? fun i=>decide (a<=i)&&(aJ (aC m i) bu !=0)
def gA(m:aX)(i j:Nat):aX:=(m.set i (aC m j)).set j (aC m i)
def dv(a bu:Nat)(m:aX)(k:Nat):aX:=m.mapIdx fun i r=>if i<k/\i≠a then cX (aJ r bu) (aC m a) r else r
def ig(a bu:Nat)(m:aX):aX:=m.set a (scaleB (Gf.inv (aJ (aC m a) bu)) (aC m a))
def gB(s:Nat×aX)(bu:Nat):Nat×aX:=
 match ge s.2 s.1 bu with
 |none=>s
 |some i=>(s.1+1,dv s.1 bu (ig s.1 bu (gA s.2 s.1 i)) s.2.length)
def bz(m:aX):Nat->Nat×aX
 |0=>(0,m)
 |c+1=>gB (bz m c) c
def fx(m:aX):Nat:=(aC m 0).length
def cU(m:aX):Nat:=(bz m (fx m)).1
def aZ(n:Nat)(m:aX):Prop:=∀r∈m,r.length=n
theorem rx(c:UInt8)(l:Row):(scaleB c l).length=l.length:=by simp[scaleB]
theorem bO{c:UInt8}{a t:Row}(h:a.length=t.length:=by omega):(cX c a t).length=t.length:=by simp[cX,h]
theorem bI{m:aX}{i:Nat}(h:i<m.length):aC m i=m[i]:=by rw[aC,qf,qd h];rfl
theorem cj{n:Nat}{m:aX}(h:aZ n m){i:Nat}(a:i<m.length:=by omega):(aC m i).length=n:=by rw[bI a];exact h _ (qn a)
theorem Dn{n:Nat}{m:aX}(h:aZ n m){i:Nat}{r:Row}(a:r.length=n):aZ n (m.set i r):=fun x b=>by
 rcases wb b with h1|h1
 ·exact h x h1
 ·rw[h1];exact a
theorem OF{P:Nat->Bool}{n:Nat}(h:∀j,j<n->P j=false):(qD n).find? P=none:=by
 rw[yB];intro x a;rw[qF]at a;simp[h x a]
theorem OG{P:Nat->Bool}{n k:Nat}(f:k<n)(h:∀j,j<k->P j=false)(d:P k=true):(qD n).find? P=some k:=by
 rw[List.find?_eq_some_iff_append];refine⟨d,qD k,List.range' (k+1) (n-k-1),?_,fun a b=>?_⟩
 ·rw[List.range_eq_range',List.range_eq_range'];have c:n=k+(n-k):=by omega
  have e:n-k=(n-k-1)+1:=by omega
  conv=>lhs;rw[c,<-List.range'_append_1 (s:=0) (m:=k) (n:=n-k)]
  rw[zG]
  conv=>lhs;rw[e,List.range'_succ]
 ·rw[qF]at b;simp[h a b]
theorem nD{m:aX}{a bu i:Nat}(h:ge m a bu=some i):a<=i/\i<m.length/\aJ (aC m i) bu≠0:=by
 have b:=List.find?_some h;have c:=List.mem_of_find?_eq_some h;simp at b c;exact⟨b.1,c,b.2⟩
theorem Ms{m:aX}{a bu:Nat}(h:ge m a bu=none):∀i,a<=i->i<m.length->aJ (aC m i) bu=0:=fun i c b=>by
 have:=yB.1 h i (qF.2 b);simpa[c]using this
theorem jg(m:aX)(i j:Nat):(gA m i j).length=m.length:=by simp[gA]
theorem zS{n:Nat}{m:aX}(h:aZ n m){i j:Nat}(b:i<m.length)(a:j<m.length):aZ n (gA m i j):=Dn (Dn h (cj h a)) (cj h b)
theorem lB(t c:Nat)(m:aX):(ig t c m).length=m.length:=by simp[ig]
theorem ry{n:Nat}{m:aX}(h:aZ n m){t c:Nat}(a:t<m.length):aZ n (ig t c m):=Dn h (by rw[rx];exact cj h a)
theorem lC(t c:Nat)(m:aX)(k:Nat):(dv t c m k).length=m.length:=by simp[dv]
theorem rz{n:Nat}{m:aX}(h:aZ n m){t c k:Nat}(b:t<m.length):aZ n (dv t c m k):=fun x e=>by
 obtain⟨i,d,rfl⟩:=List.mem_mapIdx.1 e;have a:=h _ (qn d);split
 ·rw[bO (by rw[cj h b,a])];exact a
 ·exact a
theorem QF(t c:Nat)(m:aX):dv t c m 0=m:=by
 apply zr;intro i;simp[dv,yO]
theorem ne{t c k:Nat}{m:aX}{i:Nat}(a:i<m.length):aC (dv t c m k) i=if i<k/\i≠t then cX (aJ (aC m i) c) (aC m t) (aC m i)else aC m i:=by
 rw[bI (by rw[lC];exact a),bI a];simp[dv]
theorem QG{t c k:Nat}{m:aX}(b:k<m.length)(d:k≠t):dv t c m (k+1)=(dv t c m k).set k (cX (aJ (aC m k) c) (aC m t) (aC m k)):=by
 apply zr;intro i;simp only[dv,List.getElem?_set,yO,List.length_mapIdx];by_cases a:k=i
 ·subst a;simp only[if_true,b,qd b,qJ];rw[if_pos ⟨by omega,d⟩,bI b]
 ·rw[if_neg a];congr 1;funext r;by_cases h:i<k/\i≠t
  ·rw[if_pos h,if_pos ⟨by omega,h.2⟩]
  ·rw[if_neg h,if_neg (fun e=>h ⟨by omega,e.2⟩)]
theorem QH{t c:Nat}{m:aX}:dv t c m (t+1)=dv t c m t:=by
 apply zr;intro i;simp only[dv,yO];congr 1;funext r;by_cases h:i<t/\i≠t
 ·rw[if_pos h,if_pos ⟨by omega,h.2⟩]
 ·rw[if_neg h,if_neg (fun a=>h ⟨by omega,a.2⟩)]
theorem QI{n:Nat}{s:Nat×aX}(h:aZ n s.2)(bu:Nat):aZ n (gB s bu).2/\(gB s bu).2.length=s.2.length:=by
 unfold gB;cases hb:ge s.2 s.1 bu with
 |none=>exact⟨h,rfl⟩
 |some i=>
  have a:=nD hb;dsimp only;refine⟨rz (ry (zS h (by omega) a.2.1) (by rw[jg];omega)) (by rw[lB,jg];omega),by rw[lC,lB,jg]⟩
theorem gP{n:Nat}{m:aX}(h:aZ n m):∀c,aZ n (bz m c).2/\(bz m c).2.length=m.length
 |0=>⟨h,rfl⟩
 |c+1=>by
  have:=gP h c;have a:=QI this.1 c;rw[bz];exact⟨a.1,by rw[a.2,this.2]⟩
theorem Ts{s:Nat×aX}(h:s.1<=s.2.length)(bu:Nat):(gB s bu).1<=(gB s bu).2.length:=by
 unfold gB;cases hb:ge s.2 s.1 bu with
 |none=>exact h
 |some i=>
  have a:=nD hb;dsimp only;rw[lC,lB,jg];omega
theorem un(m:aX):∀c,(bz m c).1<=(bz m c).2.length
 |0=>by simp[bz]
 |c+1=>Ts (un m c) c
end Wl
namespace Go.Vc
open Go
section
variable {C:Ctx} {t t2 ty e k:Nat} {z:aQ} {by_:Nat} {α:Type} {h h0:Heap} {p B:ap} {s v:Sl} {f:α->aQ} {l l2:List α} {As:List HP}
theorem Own.Kf(O:C.Ok)(R:bN C.tosH t e k z by_)(D:∀x,(f x).length=k)(q:Own h e s k f l)(S:Seq h p v k f l2)(o:∀x,∀c∈f x,c.oneCell'=true)(j:Nat)(X:j<=l.length){A:aM}{I W:Nat}(i:A=if s.cap=j then s.ptr else s.ptr.map (·.add (j*k)))(r:I=s.len-j){K:Int->Heap->Prop}
  (E:∀n H,Own H e s k f (l.take j++(l2.take (l.length-j)++l.drop (j+l2.length)))->aG (fun b=>¬s.on b) h H->K n H):
  av C.P (zK #[t,t2] ty #[.slice A I W,.slice v.ptr v.len v.cap]) (.one (.sc (.int .i64))) h K:=by
 unfold av zK;simp only[zp,zX,qo];refine ab.bind (ab.always (au (R.under O)) ?_);refine ab.bind (ab.pure' ?_);refine ab.bind (ab.always (R.size O) ?_);have g:=q.len;have B:=S.len;have Q:=q.cap;obtain⟨m,F⟩:∃m,m=Nat.min v.len I:=⟨_,rfl⟩
 rw[<-F];have N:m<=l2.length:=by rw[F,<-B];exact Nat.min_le_left _ _
 have u:m<=l.length-j:=by rw[F,<-g,r];exact Nat.min_le_right _ _
 have T:m=min l2.length (l.length-j):=by rw[F,r,g,B]
 have M:=S.take m N;have U:l2.take (l.length-j)++l.drop (j+l2.length)=l2.take m++l.drop (j+m):=by
  rcases Nat.le_total l2.length (l.length-j)with hh|hh
  ·rw[qi hh,show m=l2.length by omega,List.take_length]
  ·rw[show m=l.length-j by omega,zd (show l.length<=j+l2.length by omega),zd (by omega)]
 rw[U]at E;have L:wk k m (.slice v.ptr v.len v.cap)=wk k m (.slice v.ptr m v.cap):=by cases v.ptr<;>rfl
 rw[L];refine ab.bind (dV (v:=⟨v.ptr,m,v.cap⟩) D M ?_);have d:m=0->l.take j++(l2.take m++l.drop (j+m))=l:=fun e=>by rw[e];simp
 rcases q.head with⟨h1,h2,h3⟩|⟨b,rest,h1,h2,h3,h4⟩
 ·have a:A=none:=by rw[i,h1];split<;>rfl
  rw[a];subst h3;have:m=0:=by simp at u;exact u
  refine ab.pure' ⟨_,rfl,E _ h ?_ (aG.refl _ _)⟩;rw[d this];exact q
 ·by_cases y:s.cap=j
  ·have a:A=some ⟨b,0,none⟩:=by rw[i,if_pos y,h1]
   rw[a];have w:m=0:=by omega
   refine ab.bind ?_;rw[w];simp only[List.take_zero,List.flatMap_nil];exact ab.pure' (ab.pure' ⟨_,rfl,E _ h (by rw[d w];exact q) (aG.refl _ _)⟩)
  ·have a:A=some ⟨b,0+j*k,none⟩:=by rw[i,if_neg y,h1];simp only[qJ];rw[add_eq]
   rw[a];refine ab.bind ?_;have J:l.flatMap f++rest=(l.take j).flatMap f++((l.drop j).take m).flatMap f++((l.drop (j+m)).flatMap f++rest):=by
    rw[<-qm,<-qY,<-qY,<-zq,qm (List.take j l),qA,qA]
   rw[J]at h2;refine cL (e:=e) (pre:=(l.take j).flatMap f) (old:=((l.drop j).take m).flatMap f) (post:=(l.drop (j+m)).flatMap f++rest) h2 (by rw[cw D,cw D,qR,qR,qV];congr 1;omega) (by rw[cw D,qR];rw[wv X];omega) ?_ ?_
   ·intro c Y;obtain⟨x,_,G⟩:=zL.1 Y;exact o x c G
   ·refine ab.pure' ⟨_,rfl,E _ _ ⟨by rw[g,qw,qw,qR,qR,qV];omega,.inr ⟨b,rest,h1,?_,h3,h4⟩⟩ (aG.fc h2 (fun V=>V ⟨0,h1⟩))⟩;rw[eF h2,if_pos rfl,qY,qY];simp[qm]
theorem aa.Kf(r:C.Ok)(H:aa B h0 h As)(i:Nat)(q:As[i]?=some (aj e s k f l))(w:bN C.tosH t e k z by_)(u:∀x,(f x).length=k)(A:Seq h p v k f l2)(a:∀x,∀c∈f x,c.oneCell'=true)(j:Nat)(F:j<=l.length){o:aM}{m D:Nat}(g:o=if s.cap=j then s.ptr else s.ptr.map (·.add (j*k)))(d:m=s.len-j){K:Int->Heap->Prop}
  (E:∀n b,aa B h0 b (As.set i (aj e s k f (l.take j++(l2.take (l.length-j)++l.drop (j+l2.length)))))->K n b):
  av C.P (zK #[t,t2] ty #[.slice o m D,.slice v.ptr v.len v.cap]) (.one (.sc (.int .i64))) h K:=
 (H.own i q).Kf r w u A a j F g d fun n b x y=>E n b (H.jN i q y x)
end
end Go.Vc
namespace Wl
open Go
def b8(n:Int):UInt8:=w8 (n%256).toNat
theorem df(n:Int):qc vX n=((b8 n).toNat:Int):=by
 have h0:=yD n (show(256:Int)≠0 by decide);have a:=yb n (show(0:Int)<256 by decide);have e:((b8 n).toNat:Int)=n%256:=by
  unfold b8;rw[UInt8.toNat_ofNat'];omega
 rw[e];unfold qc;simp[qj,yp]
abbrev nP:=BitVec 32
def Eu(s:nP):nP:=if s&&&1#32=1#32 then(s>>>1)^^^3988292384#32 else s>>>1
def sM:Nat->nP->nP
 |0,s=>s
 |n+1,s=>Eu (sM n s)
def NK(s:nP)(x:UInt8):nP:=sM 8 (s^^^BitVec.ofNat 32 x.toNat)
def oG(l:aL):nP:=l.foldl NK 4294967295#32
def sN(l:aL):nP:=4294967295#32^^^oG l
theorem OH(l:aL)(x:UInt8):oG (l++[x])=NK (oG l) x:=by unfold oG;rw[List.foldl_append];rfl
theorem Kg(s:nP):qc vY ((s.toNat:Nat):Int)=(s.toNat:Int):=by
 have:=s.isLt;unfold qc;simp[qj,yp];omega
theorem OI(a b:nP):qc vY ((qy (qj vY) (a.toNat:Int)^^^qy (qj vY) (b.toNat:Int)).toNat:Nat)=((a^^^b).toNat:Int):=by
 show qc vY (((qy 32 (a.toNat:Int)^^^qy 32 (b.toNat:Int):BitVec 32).toNat:Nat):Int)=_;rw[wH,wH,y9,y9,va,va,Kg]
theorem Yi(a b:nP):qc vY ((qy (qj vY) (a.toNat:Int)&&&qy (qj vY) (b.toNat:Int)).toNat:Nat)=((a&&&b).toNat:Int):=by
 show qc vY (((qy 32 (a.toNat:Int)&&&qy 32 (b.toNat:Int):BitVec 32).toNat:Nat):Int)=_;rw[wH,wH,y9,y9,va,va,Kg]
theorem QJ(n:Int):qc vY n=((qy 32 n).toNat:Int):=by
 unfold qc;simp[qj,yp,BitVec.toNat_ofInt];omega
theorem VQ(s:nP):qL (s.toNat:Int) (2^min (1:Int).toNat (qj vY))=((s>>>1).toNat:Int):=by
 rw[show min (1:Int).toNat (qj vY)=1 from rfl,wK _ (by decide),BitVec.toNat_ushiftRight,Nat.shiftRight_eq_div_pow];simp
theorem NL(s:nP):((s&&&1#32).toNat:Int)=1↔s&&&1#32=1#32:=by
 constructor
 ·intro h;apply BitVec.eq_of_toNat_eq;have:(1#32:nP).toNat=1:=rfl;omega
 ·intro h;rw[h];rfl
def lD(s:nP):aL:=(qD 4).map fun i=>b8 (qL (s.toNat:Int) (2^(8*i)))
theorem Kh(s:nP):(lD s).length=4:=by simp[lD]
def cY(b:Int)(a:aL):aL:=[87,115,1,b8 b]++a++qh (55-a.length) 0
def dt(a:Int)(b:aL):aL:=
 if 1<=a/\a<=255/\b.length<=55 then cY a b++lD (sN (cY a b))++[165]else[]
theorem Aa{b:Int}{a:aL}(h:a.length<=55):(cY b a).length=59:=by simp[cY];omega
theorem kX{a:Int}{b:aL}(d:1<=a)(c:a<=255)(h3:b.length<=55):(dt a b).length=64:=by
 unfold dt;rw[if_pos ⟨d,c,h3⟩];simp[Aa h3,Kh]
end Wl
namespace Go.Vc
open Go
def go(s:ByteArray):aL:=s.data.toList
theorem uo(s:ByteArray):(go s).length=s.size:=rfl
def YD(n:Nat):Obj->Obj
 | .cells c elem (lo,hi)=>.cells c elem (if lo==hi then(n,n+1)else(min lo n,max hi (n+1)))
 |o=>o
theorem ab.QK{P:Program}{h:Heap}{b n:Nat}{c:Array Value}{e:TypeId}{K:Unit->Heap->Prop}(k:h[b]?=some (.cells c e (0,0)))(l:n=c.size)(g:∀a,(∀x,x≠b->a[x]?=h[x]?)->a.size=h.size->(∃f,a[b]?=some (.cells c e f))->K () a):
  ab P (freeze {block:=b,off:=n} 1) h K:=fun w j=>by
 refine⟨(),w.freeze {block:=b,off:=n} 1,run_freeze P w _ _,⟨rfl,rfl,rfl,qp _⟩,?_⟩;subst j;have d:(w.freeze {block:=b,off:=n} 1).heap=w.heap.modify b (YD n):=rfl;refine g _ (fun x i=>?_) ?_ ?_
 ·rw[d,wB,if_neg (fun e=>i e.symm)]
 ·rw[d];simp
 ·rw[d,wB,if_pos rfl,k];exact⟨_,rfl⟩
section
variable {C:Ctx} {B:ap} {h h0:Heap} {As:List HP} {t e ts:Nat}
theorem VR(g:C.Ok)(J:∃i,C.T.get ts=some i/\i.cr=.str)(B:∃i,C.T.get t=some i/\i.cr=.slice e)(E:∃i,C.T.get e=some i/\i.cr=.int .u8)(s:ByteArray){K:Sl->Heap->Prop}(G:∀r j,Sp h j [jo r 1 aw (go s)]->K r j):
  av C.P (convert ts t (.string s)) (.one (.sc .slc)) h K:=by
 obtain⟨M,H,A⟩:=J;obtain⟨L,z,D⟩:=B;obtain⟨i3,a3,F⟩:=E;have w:C.P.underlying ts=some .string:=by have:=g.cr H;rw[A]at this;exact oX this
 have y:C.P.underlying t=some (.slice e):=by have:=g.cr z;rw[D]at this;exact iu this
 have u3:C.P.underlying e=some (.int .u8):=by have:=g.cr a3;rw[F]at this;exact BC this
 unfold av convert;refine ab.bind (ab.always (au w) ?_);refine ab.bind (ab.always (au y) ?_);refine ab.bind (ab.always (au u3) ?_);unfold Conv.stringToBytes;refine ab.bind (ab.Gh ⟨fun u=>(by cases u),fun _ v=>?_⟩);generalize l:Question.cut (Question.appendCap s.size 0 e) v=cc;have o:s.size<=cc:=by rw[<-l];simp only[Question.cut];omega
 unfold newRow;refine ab.bind (ab.bind (ab.lJ (ab.pure' ?_)));unfold markStringish;obtain⟨d,a⟩:∃d:Array Value,d=s.data.map (fun b=>Value.int .u8 b.toNat)++Array.replicate (cc-s.size) (Value.int .u8 0):=⟨_,rfl⟩
 rw[<-a];refine ab.bind (ab.bind (ab.WP ?_));have k:shapeOf (h.push (.cells d e)) h.size=some (e,d.size):=by unfold shapeOf;simp
 dsimp only;rw[k];refine ab.QK (c:=d) (e:=e) (by simp) rfl fun j q p m=>?_;refine ab.pure' ⟨⟨some ⟨h.size,0,none⟩,s.size,cc⟩,rfl,G _ _ ?_⟩;obtain⟨f,m⟩:=m;refine .one ⟨by rw[p];simp,fun b N _=>by rw[q b (by omega),Array.getElem?_push,if_neg (by omega)]⟩ ?_;refine⟨by rw[uo],fun i x n=>⟨h.size,0,rfl,⟨qp _,by rw[p];simp⟩,?_,trivial⟩⟩;rw[add_zero];have I:i<s.data.size:=by have:=(List.getElem?_eq_some_iff.1 n).1;simpa[go]using this
 unfold cellOf;simp only[m,Nat.mul_one,zG,Option.isSome_none,zl,if_false];rw[a,Array.getElem?_append_left (by simpa using I),Array.getElem?_map];have:s.data[i]?=some x:=by rw[<-n];simp[go]
 rw[this];rfl
end
section
variable {C:Ctx} {t t2 e k:Nat} {z:aQ} {by_:Nat} {h h0:Heap} {B:ap} {As:List HP} {s:Sl} {l:aL}
theorem IB(r:C.Ok)(G:bN C.tosH t e 1 z by_)(Z:∃i,C.T.get t2=some i/\i.cr=.str)(hz:z.length=1)(D:0<by_/\by_<=128)
  (v:Own h e s 1 aw l) (x:ByteArray) (X:l.length+x.size<=2^32) {ty:Nat} {K:Sl->Heap->Prop}
  (I:∀F B,Own B e F 1 aw (l++go x)->aG (fun b=>¬s.on b) h B->(∀b,F.on b->s.on b∨h.size<=b)->K F B):
  av C.P (qu #[t,t2] ty #[.slice s.ptr s.len s.cap,.string x]) (.one (.sc .slc)) h K:=by
 obtain⟨i2,g1,g2⟩:=Z;have H:C.P.underlying t2=some .string:=by have:=r.cr g1;rw[g2]at this;exact oX this
 obtain⟨L,w,x2,x3,zv,V,R⟩:=G.info r;have k:∀y∈(go x).flatMap aw,y.oneCell'=true:=fun y hy=>by
  obtain⟨b,_,hb⟩:=zL.1 hy;exact fX b y hb
 have g:((x.extract 0 x.size).data.map fun b=>Value.int .u8 (b.toNat:Int))=((go x).flatMap aw).toArray:=by
  have e0:x.extract 0 x.size=x:=by
   apply ByteArray.ext;simp[ByteArray.data_extract]
  rw[e0];apply Array.ext';simp only[Array.toList_map,go];exact List.map_eq_flatMap
 unfold av qu;simp only[zp,zX,qo];refine ab.bind (ab.always (au (G.under r)) ?_);refine ab.bind (ab.always (G.size r) ?_);refine ab.bind (ab.always (au H) ?_);refine ab.bind (ab.pure' ?_);simp only[zl,if_false,Bool.not_false,if_true];refine ab.bind (ab.pure' ?_);have q:=v.len;have u:∀y,(aw y).length=1:=fun _=>rfl;have j:=cw u l;have a:=cw u (go x);have W:=uo x;have n:∀{h:Heap} {K:Array Value->Heap->Prop},K ((go x).flatMap aw).toArray h->ab C.P (wk 1 x.size (.string x)) h K:=fun{h K} hK=>by
  unfold wk;dsimp only;rw[g];exact ab.pure' hK
 by_cases f:s.len+x.size<=s.cap
 ·rw[if_pos f];refine ab.bind (n ?_);rcases v.head with⟨p1,p2,p3⟩|⟨b,rest,p1,p2,p3,p4⟩
  ·rw[p1];have M:go x=[]:=List.eq_nil_of_length_eq_zero (by omega);refine ab.pure' ⟨⟨none,s.len+x.size,s.cap⟩,rfl,I _ _ ⟨?_,.inl ⟨rfl,p2,by simp[p3,M]⟩⟩ (aG.refl _ _) ?_⟩
   ·simp;omega
   ·rintro O ⟨o,d⟩;cases d
  ·rw[p1];refine ab.bind ?_;rw[add_eq,zG];have E:((go x).flatMap aw).length<=rest.length:=by
    rw[a,p3];omega
   refine cL (e:=e) (pre:=l.flatMap aw) (old:=rest.take ((go x).flatMap aw).length) (post:=rest.drop ((go x).flatMap aw).length) ?_ ?_ ?_ ?_ ?_
   ·rw[qm,qA];exact p2
   ·rw[qR];exact wv E
   ·rw[j,q];omega
   ·intro c hc;exact k c (by simpa using hc)
   ·refine ab.pure' ⟨⟨some ⟨b,0,none⟩,s.len+x.size,s.cap⟩,rfl,I _ _ ⟨?_,.inr ⟨b,rest.drop ((go x).flatMap aw).length,rfl,?_,?_,f⟩⟩ ?_ ?_⟩
    ·simp;omega
    ·rw[eF p2,if_pos rfl];simp
    ·rw[qV,p3,a];show(s.cap-s.len)*1-(go x).length*1=(s.cap-(s.len+x.size))*1;omega
    ·exact aG.fc p2 (fun hn=>hn ⟨0,p1⟩)
    ·rintro O ⟨o,d⟩;cases d;exact .inl ⟨0,p1⟩
 ·rw[if_neg f];have p:Seq h (fun _=>True) s 1 aw l:=v.seq u (fun _ _=>trivial);have N:=v.cap;refine ab.bind (ab.always (co w) ?_);rw[if_neg (fun U=>by rcases U.2 with h|h<;>first|exact h|(rw[x3]at h;omega))];refine ab.bind (ab.always (co w) ?_);have Y:=NG (s.len+x.size) s.cap;rw[if_neg (by
   have:Builtin.nextslicecap (s.len+x.size) s.cap*L.bytes<=(16*2^32+16*768)*128:=Nat.mul_le_mul (by omega) (by rw[x3];exact D.2);omega)]
  refine ab.bind (ab.Gh ⟨fun Q=>(by cases Q),fun _ S=>?_⟩);refine ab.bind (ab.always (co w) ?_);refine ab.bind (ab.Dc ?_);refine ab.bind (dV u p ?_);refine ab.bind (n ?_);have A:aA C.P (zeroValue e) zv:=(co w).bind (by rw[V];exact .pure);refine ab.bind (ab.always A ?_);rw[R,xV];unfold newRow;refine ab.bind (ab.bind (ab.lJ (ab.pure' (ab.pure' ?_))));generalize J:Question.cut (Question.appendCap (s.len+x.size) s.cap e) S=cc;have m:s.len+x.size<=cc:=by rw[<-J];simp only[Question.cut];omega
  refine⟨⟨some ⟨h.size,0,none⟩,s.len+x.size,cc⟩,rfl,I _ _ ⟨?_,.inr ⟨h.size,gl z (cc-(s.len+x.size)),rfl,?_,?_,m⟩⟩ (aG.push _ _ _) ?_⟩
  ·simp;omega
  ·simp
  ·rw[lz,hz]
  ·rintro O ⟨o,d⟩;cases d;exact .inr (qp _)
theorem aa.QL(q:C.Ok)(H:aa B h0 h As)(i:Nat)(E:As[i]?=some (aj e s 1 aw l))(w:bN C.tosH t e 1 z by_)(v:∃i,C.T.get t2=some i/\i.cr=.str)(A:z.length=1)(k:0<by_/\by_<=128)
  (x:ByteArray) (p:l.length+x.size<=2^32) {ty:Nat} {K:Sl->Heap->Prop} (y:∀g f,aa B h0 f (As.set i (aj e g 1 aw (l++go x)))->K g f):
  av C.P (qu #[t,t2] ty #[.slice s.ptr s.len s.cap,.string x]) (.one (.sc .slc)) h K:=by
 obtain⟨r,u,c,F,a⟩:=H;have o:=a i _ E;refine IB q w v A k o.1 x p fun g f d m j=>y g f ?_;refine aa.BH r u F a (m.mono fun b n G D=>G (o.2 b D)) ⟨d,fun b n=>⟨d.lt n,?_⟩⟩;rcases j b n with h1|h1
 ·exact .inl (o.2 b h1)
 ·exact .inr h1
end
end Go.Vc
namespace Wl
open Go
structure cE where
 name:ByteArray
 object:Int
 length:Int
 tries:aD
structure ar where
 seq:Int
 next:Int
 p:Int×Int×Int
 extra:Int
 drives:aD
 aH:List cE
def Yj:cE:=⟨⟨#[]⟩,0,0,[]⟩
def mb(l:List cE)(i:Nat):cE:=l.getD i Yj
theorem lE{l:List cE}{i:Nat}(h:i<l.length:=by omega):mb l i=l[i]:=by unfold mb;rw[qf,qd h];rfl
def dC(n a b:Int):Bool:=decide (a<=n)&&decide (n<=b)
def ke(c:UInt8):Bool:=(decide (97<=c.toNat)&&decide (c.toNat<=122))||(decide (48<=c.toNat)&&decide (c.toNat<=57))||decide (c.toNat=45)
def gC(s:ByteArray):Bool:=s.data.toList.all ke&&(decide (1<=s.size)&&decide (s.size<=12))
def dz(a b:ByteArray):Bool:=Op.bytesLess a.toList b.toList
def gZ(l:aD)(a:Int)(i:Nat):Bool:=dC (l.getD i 0) 0 a&&(decide (i=0)||decide (l.getD (i-1) 0<l.getD i 0))
def md(l:aD)(a:Int):Bool:=(qD l.length).all (gZ l a)
def countP(p:Int×Int×Int)(n:Int):Int:=if bV p&&decide (0<n)then(n-1)/(p.1*p.2.2)+1 else 0
def fe(m:ar)(x:cE):Bool:=
 gC x.name&&(dC x.object 0 (m.next-1)&&(dC x.length 0 (m.p.1*m.p.2.2*8)&&(x.tries.all (dC · 0 15)&&decide ((x.tries.length:Int)=countP m.p x.length))))
def me(m:ar)(i:Nat):Bool:=
 fe m (mb m.aH i)&&((decide (i=0)||dz (mb m.aH (i-1)).name (mb m.aH i).name)&&!(m.aH.take i).any fun y=>decide (y.object=(mb m.aH i).object))
def iQ(m:ar):Bool:=dC m.seq 1 2147483647&&(dC m.next 0 16777216&&(bV m.p&&dC m.extra 0 16))
def bB(m:ar):Bool:=iQ m&&(md m.drives 63&&(decide (m.aH.length<=12)&&(qD m.aH.length).all (me m)))
theorem Ab{p:Nat->Bool}{n i:Nat}(a:i<n)(h:p i=false):(qD n).all p=false:=List.all_eq_false.2 ⟨i,qF.2 a,by rw[h];simp⟩
theorem oq{p:Nat->Bool}{n:Nat}(h:∀i,i<n->p i=true):(qD n).all p=true:=List.all_eq_true.2 fun i a=>h i (qF.1 a)
def bg(n:Int)(k:Nat):aL:=(qD k).map fun i=>b8 (qL n (2^(8*(k-1-i))))
theorem bM(n:Int)(k:Nat):(bg n k).length=k:=by simp[bg]
def dW(x:cE):aL:=b8 x.name.size::(x.name.data.toList++(bg x.object 3++(bg x.length 2++x.tries.map b8)))
def bo(m:ar):aL:=
 if bB m then bg m.seq 4++(bg m.next 4++([b8 m.p.1,b8 m.p.2.1,b8 m.p.2.2,b8 m.extra,b8 m.drives.length]++(m.drives.map b8++(b8 m.aH.length::m.aH.flatMap dW))))else[]
def iq(seq a c:Int)(b:aL):aL:=dt 2 (bg seq 4++([b8 a,b8 c,b8 b.length]++b))
def cD(b:aL):Nat:=(b.length+47)/48
def aP(m:ar):bR:=(qD (cD (bo m))).map fun i:Nat=>iq m.seq i (cD (bo m)) (((bo m).drop (48*i)).take 48)
theorem QM{m:ar}(h:bB m=true):iQ m=true:=by unfold bB at h;simp at h;exact h.1
theorem Ki{m:ar}(h:iQ m=true):(1<=m.seq/\m.seq<=2147483647)/\(0<=m.next/\m.next<=16777216)/\bV m.p=true/\0<=m.extra/\m.extra<=16:=by
 unfold iQ dC at h;simpa[and_assoc]using h
theorem uq{m:ar}{c:aL}(h:c∈aP m):c.length=64:=by
 unfold aP at h;obtain⟨i,_,rfl⟩:=qE.1 h;exact kX (by decide) (by decide) (by simp[bM];omega)
structure di where
 object:Int
 block:Int
 id:Int
 p:Int×Int×Int
 seed:Int
 data:aL
theorem mf(n:Int):((b8 n).toNat:Int)=n%256:=by
 have h0:=yD n (show(256:Int)≠0 by decide);have a:=yb n (show(0:Int)<256 by decide);unfold b8;rw[UInt8.toNat_ofNat'];omega
def hF(r:di):Bool:=(dC r.object 0 16777215&&(dC r.block 0 7&&cg r.id))&&(bV r.p&&decide ((r.data.length:Int)=r.p.2.2))
def gf(r:di):aL:=bg r.object 3++(bg r.block 1++(bg r.id 2++([b8 r.p.1,b8 r.p.2.1,b8 r.p.2.2]++(bg r.seed 4++r.data))))
def dp(r:di):aL:=if hF r then dt 1 (gf r)else[]
def cy(l:aL):Int:=l.foldl (fun n x=>n*256+x.toNat) 0
def gD(c:aL):Option (Int×aL):=
 if c.length=64/\dt ((c.getD 3 0).toNat:Int) ((c.drop 4).take 55)=c then some (((c.getD 3 0).toNat:Int),(c.drop 4).take 55)else none
def oH(x:aL):di:=
 ⟨cy (x.take 3),cy ((x.drop 3).take 1),cy ((x.drop 4).take 2),(cy ((x.drop 6).take 1),cy ((x.drop 7).take 1),cy ((x.drop 8).take 1)),cy ((x.drop 9).take 4),(x.drop 13).take (cy ((x.drop 8).take 1)).toNat⟩
def dJ(c:aL):Option di:=
 match gD c with
 |some (k,x)=>if k=1/\bV (oH x).p=true/\dp (oH x)=c then some (oH x)else none
 |none=>none
theorem QN(n:Int):bg n 1=[b8 n]:=by simp[bg]
theorem QO(n:Int):bg n 2=[b8 (qL n (2^8)),b8 n]:=by simp[bg,zE]
theorem Mt(n:Int):bg n 3=[b8 (qL n (2^16)),b8 (qL n (2^8)),b8 n]:=by simp[bg,zE]
theorem Ev(n:Int):bg n 4=[b8 (qL n (2^24)),b8 (qL n (2^16)),b8 (qL n (2^8)),b8 n]:=by simp[bg,zE]
theorem ur{n:Int}(b:0<=n:=by omega)(a:n<256:=by omega):cy [b8 n]=n:=by
 simp only[cy,zA,wD,mf];omega
theorem fdiv_pow(n:Int)(k:Nat):qL n (2^k)=n/(2^k):=wK _ (Int.pow_nonneg (by decide))
theorem Tt{n:Int}(b:0<=n)(a:n<65536):cy (bg n 2)=n:=by
 rw[QO,fdiv_pow];simp only[cy,zA,wD,mf];omega
theorem OJ{n:Int}(b:0<=n)(a:n<16777216):cy (bg n 3)=n:=by
 rw[Mt,fdiv_pow,fdiv_pow];simp only[cy,zA,wD,mf];omega
theorem Hz{n:Int}(b:0<=n)(a:n<4294967296):cy (bg n 4)=n:=by
 rw[Ev,fdiv_pow,fdiv_pow,fdiv_pow];simp only[cy,zA,wD,mf];omega
theorem jr(r:di):hF r=true↔(0<=r.object/\r.object<=16777215)/\(0<=r.block/\r.block<=7)/\(0<=r.id/\r.id<=65535)/\bV r.p=true/\(r.data.length:Int)=r.p.2.2:=by
 unfold hF dC cg;simp[and_assoc]
theorem lM{r:di}(h:hF r=true):(gf r).length=13+r.data.length/\r.data.length<=24:=by
 obtain⟨_,_,_,a,b⟩:=(jr r).1 h;have:=(cb r.p).1 a;refine⟨by unfold gf;simp[bM];omega,by omega⟩
theorem Kj{r:di}(h:hF r=true):(dp r).length=64:=by
 have:=lM h;unfold dp;rw[if_pos h];exact kX (by decide) (by decide) (by omega)
theorem rA{k:Int}{a:aL}(d:1<=k:=by decide)(b:k<=255:=by decide)(h3:a.length<=55:=by omega):gD (dt k a)=some (k,a++qh (55-a.length) 0):=by
 obtain⟨x,c⟩:∃x,x=a++qh (55-a.length) 0:=⟨_,rfl⟩
 have e:x.length=55:=by rw[c];simp;omega
 have f:dt k a=[87,115,1,b8 k]++(x++(lD (sN (cY k a))++[165])):=by
  unfold dt;rw[if_pos ⟨d,b,h3⟩];unfold cY;rw[c];simp[qm]
 have g:((dt k a).getD 3 0)=b8 k:=by rw[f];rfl
 have l:((dt k a).drop 4).take 55=x:=by
  rw[f];have:([87,115,1,b8 k]++(x++(lD (sN (cY k a))++[165]))).drop 4=x++(lD (sN (cY k a))++[165]):=rfl;rw[this,List.take_append_of_le_length (by omega),qi (by omega)]
 have j:((b8 k).toNat:Int)=k:=by rw[mf];omega
 have h:cY k x=cY k a:=by
  unfold cY;rw[e,c];simp[qm]
 have i:dt k x=dt k a:=by
  unfold dt;rw[if_pos ⟨d,b,by omega⟩,if_pos ⟨d,b,h3⟩,h]
 unfold gD;rw[g,l,j,if_pos ⟨kX d b h3,i⟩,c]
theorem OK{r:di}(h:hF r=true)(A:0<=r.seed/\r.seed<4294967296)(z:aL):oH (gf r++z)=r:=by
 obtain⟨y,w,h3,t,B⟩:=(jr r).1 h;have x:=(cb r.p).1 t;have o:=bM r.object 3;have l2:=bM r.id 2;have f:=bM r.seed 4;have e:gf r++z=bg r.object 3++([b8 r.block]++(bg r.id 2++([b8 r.p.1]++([b8 r.p.2.1]++([b8 r.p.2.2]++(bg r.seed 4++(r.data++z))))))):=by
  unfold gf;rw[QN];simp[qm]
 have c:∀(u v:aL) (n:Nat),u.length=n->∀m,(u++v).drop (n+m)=v.drop m:=fun u v n d m=>by
  rw[<-zq,<-d,List.drop_left]
 have a:∀(u v:aL) (n:Nat),u.length=n->(u++v).take n=u:=fun u v n d=>by rw[<-d,vF]
 have k:(gf r++z).drop 3=[b8 r.block]++(bg r.id 2++([b8 r.p.1]++([b8 r.p.2.1]++([b8 r.p.2.2]++(bg r.seed 4++(r.data++z)))))):=by rw[e];exact c _ _ 3 o 0
 have j:(gf r++z).drop 4=bg r.id 2++([b8 r.p.1]++([b8 r.p.2.1]++([b8 r.p.2.2]++(bg r.seed 4++(r.data++z))))):=by
  rw[show 4=3+1 from rfl,<-zq,k];rfl
 have l:(gf r++z).drop 6=[b8 r.p.1]++([b8 r.p.2.1]++([b8 r.p.2.2]++(bg r.seed 4++(r.data++z)))):=by
  rw[show 6=4+2 from rfl,<-zq,j];exact c _ _ 2 l2 0
 have i:(gf r++z).drop 7=[b8 r.p.2.1]++([b8 r.p.2.2]++(bg r.seed 4++(r.data++z))):=by
  rw[show 7=6+1 from rfl,<-zq,l];rfl
 have g:(gf r++z).drop 8=[b8 r.p.2.2]++(bg r.seed 4++(r.data++z)):=by
  rw[show 8=7+1 from rfl,<-zq,i];rfl
 have q:(gf r++z).drop 9=bg r.seed 4++(r.data++z):=by
  rw[show 9=8+1 from rfl,<-zq,g];rfl
 have b:(gf r++z).drop 13=r.data++z:=by
  rw[show 13=9+4 from rfl,<-zq,q];exact c _ _ 4 f 0
 have s:cy (((gf r++z).drop 8).take 1)=r.p.2.2:=by rw[g,a _ _ 1 rfl,ur]
 unfold oH;rw[s,k,j,l,i,q,b];rw[a [b8 r.block] _ 1 rfl,a _ _ 2 l2,a [b8 r.p.1] _ 1 rfl,a [b8 r.p.2.1] _ 1 rfl,a _ _ 4 f];have t0:(gf r++z).take 3=bg r.object 3:=by rw[e];exact a _ _ 3 o
 rw[t0,OJ (by omega) (by omega),ur,Tt (by omega) (by omega),ur,ur,Hz (by omega) (by omega)];have:r.p.2.2.toNat=r.data.length:=by omega
 rw[this,vF]
theorem QP{r:di}(h:hF r=true)(a:0<=r.seed/\r.seed<4294967296):dJ (dp r)=some r:=by
 have c:=lM h;have b:=((jr r).1 h).2.2.2.1;have e:dp r=dt 1 (gf r):=by unfold dp;rw[if_pos h]
 unfold dJ;rw[e,rA];dsimp only;rw[OK h a,if_pos ⟨rfl,b,e⟩]
theorem OL{c:aL}{r:di}(h:dJ c=some r):dp r=c/\hF r=true/\bV r.p=true:=by
 unfold dJ at h;cases hc:gD c with
 |none=>rw[hc]at h;cases h
 |some kx=>
  rw[hc]at h;dsimp only at h;by_cases a:kx.1=1/\bV (oH kx.2).p=true/\dp (oH kx.2)=c
  ·rw[if_pos a]at h;injection h with h
   subst h;refine⟨a.2.2,?_,a.2.1⟩;by_cases d:hF (oH kx.2)=true
   ·exact d
   ·exfalso;have b:=a.2.2;unfold dp at b;rw[if_neg d]at b;unfold gD at hc;rw[<-b]at hc;simp at hc
  ·rw[if_neg a]at h;cases h
end Wl
namespace Go.Vc
open Go
section
variable {C:Ctx} {h:Heap} {t e ts:Nat}
theorem Cr:∀(l:aL) (b:ByteArray),l.foldl ByteArray.push b=⟨(b.data.toList++l).toArray⟩
 |[],b=>by simp
 |x::l,b=>by
  rw[zA,Cr l (b.push x)];simp[ByteArray.push]
theorem BN(j:C.Ok)(H:∃i,C.T.get t=some i/\i.cr=.slice e)(N:∃i,C.T.get ts=some i/\i.cr=.str)(J:∃i,C.T.get e=some i/\i.cr=.int .u8){s:Sl}{l:aL}{p:ap}(y:Seq h p s 1 aw l){K:ByteArray->Heap->Prop}(A:K ⟨l.toArray⟩ h):
  av C.P (convert t ts (.slice s.ptr s.len s.cap)) (.one (.sc .str)) h K:=by
 obtain⟨R,M,F⟩:=N;obtain⟨Q,E,I⟩:=H;obtain⟨i3,a3,L⟩:=J;have B:C.P.underlying ts=some .string:=by have:=j.cr M;rw[F]at this;exact oX this
 have D:C.P.underlying t=some (.slice e):=by have:=j.cr E;rw[I]at this;exact iu this
 have u3:C.P.underlying e=some (.int .u8):=by have:=j.cr a3;rw[L]at this;exact BC this
 unfold av convert;refine ab.bind (ab.always (au D) ?_);refine ab.bind (ab.always (au B) ?_);refine ab.bind (ab.always (au u3) ?_);unfold Conv.bytesToString;have g:=dV (P:=C.P) (f:=aw) (k:=1) (K:=fun q u=>q=(l.flatMap aw).toArray/\u=h) (fun _=>rfl) y ⟨rfl,rfl⟩;cases hp:s.ptr with
 |none=>
  have:l=[]:=by
   cases l with
   |nil=>rfl
   |cons x r=>obtain⟨b,o,z,_⟩:=y.elem 0 x (by simp);rw[hp]at z;cases z
  subst this;exact ab.pure' ⟨⟨#[]⟩,rfl,A⟩
 |some a=>
  rw[hp]at g;dsimp only;have d:ab C.P (loadCells a s.len) h fun q u=>q=(l.flatMap aw).toArray/\u=h:=by
   have:wk 1 s.len (.slice (some a) s.len s.cap)=loadCells a s.len:=by
    unfold wk;simp
   rw[<-this];exact g
  refine ab.bind (d.mono ?_);rintro _ _ ⟨rfl,rfl⟩;have w:∀(l:aL) (b:ByteArray),aA C.P (forIn (m:=Sem) (l.flatMap aw) b fun c r=>match c with
    |vQ vX n=>do pure (ForInStep.yield (r.push (w8 n.toNat)))
    |_=>do let r<-stuck "bytesToString: byte expected";pure r) (l.foldl ByteArray.push b):=fun l=>by
   induction l with
   |nil=>intro b;exact .pure
   |cons x l ih=>
    intro b;have G:(x::l).flatMap aw=Value.int .u8 x.toNat::l.flatMap aw:=rfl;rw[G,List.forIn_cons];have O:b.push (w8 ((x.toNat:Int)).toNat)=b.push x:=by
     rw[Int.toNat_natCast];congr 1;apply UInt8.toNat_inj.1;simp
    refine aA.bind (v:=ForInStep.yield (b.push x)) (by dsimp only;rw[O];exact .pure) ?_;exact ih _
  refine ab.bind (ab.always (v:=l.foldl ByteArray.push ByteArray.empty) ?_ ?_)
  ·rw[List.forIn_toArray];exact w l _
  ·refine ab.pure' ⟨_,rfl,?_⟩;rw[Cr];exact A
end
end Go.Vc
namespace Wl
section
variable {α:Type} (le:α->α->Bool)
def fY(a b:α):Bool:=le a b&&le b a
def bG(l a:List α):Prop:=∀x,l.filter (fY le x)=a.filter (fY le x)
def Sd(l:List α):Prop:=l.Pairwise fun a b=>le a b=true
structure Ord:Prop where
 trans:∀a b c,le a b=true->le b c=true->le a c=true
 total:∀a b,(le a b||le b a)=true
variable {le}
theorem Ord.sO(o:Ord le){a b:α}(h:¬le a b=true):le b a=true:=by
 have:=o.total a b;cases h1:le a b with
 |true=>exact absurd h1 h
 |false=>rw[h1]at this;simpa using this
theorem Ord.refl(o:Ord le)(a:α):le a a=true:=by have:=o.total a a;simpa using this
theorem bG.refl(l:List α):bG le l l:=fun _=>rfl
theorem bG.trans{b c a:List α}(h:bG le b c)(k:bG le c a):bG le b a:=fun x=>(h x).trans (k x)
theorem bG.symm{b a:List α}(h:bG le b a):bG le a b:=fun x=>(h x).symm
theorem bG.app{a b c d:List α}(h:bG le a b)(k:bG le c d):bG le (a++c) (b++d):=fun x=>by
 rw[zn,zn,h x,k x]
theorem bG.mem(o:Ord le){l a:List α}(h:bG le l a){y:α}(c:y∈a):y∈l:=by
 have b:y∈a.filter (fY le y):=zh.2 ⟨c,by unfold fY;rw[o.refl];rfl⟩;rw[<-h y]at b;exact(zh.1 b).1
theorem bG.NM(o:Ord le){u v:List α}(h:∀x∈u,∀y∈v,¬le x y=true):bG le (u++v) (v++u):=fun z=>by
 rw[zn,zn];by_cases f:u.filter (fY le z)=[]
 ·rw[f];simp
 ·by_cases e:v.filter (fY le z)=[]
  ·rw[e];simp
  ·exfalso;obtain⟨x,i⟩:=List.exists_mem_of_ne_nil _ f;obtain⟨y,g⟩:=List.exists_mem_of_ne_nil _ e;obtain⟨c,b⟩:=zh.1 i;obtain⟨d,a⟩:=zh.1 g;unfold fY at b a;simp only[qz]at b a;exact h x c y d (o.trans _ _ _ b.2 a.1)
theorem bG.Kk(o:Ord le){l:List α}(h:bG le [] l):l=[]:=by
 cases l with
 |nil=>rfl
 |cons a l=>exact absurd (bG.mem o h (qT ..)) (by simp)
theorem HA(o:Ord le):∀(l c:List α),Sd le l->Sd le c->bG le l c->l=c
 |[],c,_,_,h=>(bG.Kk o h).symm
 |a::l,[],_,_,h=>absurd (bG.Kk o h.symm) (by simp)
 |a::l,b::c,s,s',h=>by
  have d:a=b:=by
   have i:le a b=true:=by
    have:=bG.mem o h (y:=b) (qT ..);rcases zj.1 this with e|e
    ·rw[e];exact o.refl _
    ·exact(zF.1 s).1 _ e
   have f:le b a=true:=by
    have:=bG.mem o h.symm (y:=a) (qT ..);rcases zj.1 this with e|e
    ·rw[e];exact o.refl _
    ·exact(zF.1 s').1 _ e
   have h3:=h a;have g:fY le a a=true:=by unfold fY;rw[o.refl];rfl
   have j:fY le a b=true:=by unfold fY;rw[i,f];rfl
   rw[yq g,yq j]at h3;injection h3
  subst d;rw[HA o l c (zF.1 s).2 (zF.1 s').2 fun x=>by
   have h3:=h x;rw[zx,zx]at h3;split at h3
   ·injection h3
   ·exact h3]
theorem Ac(o:Ord le)(l:List α):Sd le (l.mergeSort le)/\bG le l (l.mergeSort le):=by
 refine⟨List.pairwise_mergeSort o.trans o.total l,fun x=>?_⟩;have f:(l.filter (fY le x)).Pairwise fun a b=>le a b=true:=by
  rw[List.pairwise_filter];refine List.Pairwise.imp ?_ (List.pairwise_of_forall (l:=l) (R:=fun _ _=>True) fun _ _=>trivial);intro a b _ d e;unfold fY at d e;simp only[qz]at d e;exact o.trans _ _ _ d.2 e.1
 have g:=List.sublist_mergeSort o.trans o.total f List.filter_sublist;have c:=g.filter (fY le x);rw[List.filter_filter]at c;simp only[Bool.and_self]at c;exact c.eq_of_length ((List.mergeSort_perm l le).symm.filter _).length_eq
theorem OM(o:Ord le){l a:List α}(s:Sd le a)(h:bG le l a):a=l.mergeSort le:=by
 obtain⟨c,b⟩:=Ac o l;exact HA o _ _ s c (h.symm.trans b)
theorem Sd.app(o:Ord le){u v:List α}(b:Sd le u)(a:Sd le v)(h:∀x∈u,∀y∈v,le x y=true):Sd le (u++v):=wI.2 ⟨b,a,h⟩
theorem Sd.left{u v:List α}(h:Sd le (u++v)):Sd le u:=(wI.1 h).1
theorem Sd.right{u v:List α}(h:Sd le (u++v)):Sd le v:=(wI.1 h).2.1
theorem Sd.rB{u v:List α}(h:Sd le (u++v)):∀x∈u,∀y∈v,le x y=true:=(wI.1 h).2.2
theorem Sd.at_(o:Ord le){l:List α}(h:Sd le l){i j:Nat}(b:i<=j)(a:j<l.length):le (l[i]'(by omega)) l[j]=true:=by
 by_cases e:i=j
 ·subst e;exact o.refl _
 ·exact List.pairwise_iff_getElem.1 h i j (by omega) a (by omega)
theorem QQ(o:Ord le){d b a c i h:List α}(q:Sd le (d++b))(p:Sd le (a++c))(j:∀x∈d,∀y∈c,le x y=true)(g:∀x∈b,∀y∈a,¬le x y=true)
  (k:bG le (d++a) i) (m:Sd le i) (l:bG le (b++c) h) (n:Sd le h):Sd le (i++h)/\bG le ((d++b)++(a++c)) (i++h):=by
 constructor
 ·refine Sd.app o m n fun x e y f=>?_;rcases qH.1 (bG.mem o k e)with e|e<;>rcases qH.1 (bG.mem o l f)with f|f
  ·exact q.rB x e y f
  ·exact j x e y f
  ·exact o.sO (g y f x e)
  ·exact p.rB x e y f
 ·have r:bG le ((d++b)++(a++c)) ((d++a)++(b++c)):=by
   rw[show(d++b)++(a++c)=d++((b++a)++c)by simp,show(d++a)++(b++c)=d++((a++b)++c)by simp];exact(bG.refl _).app ((bG.NM o g).app (bG.refl _))
  exact r.trans (k.app l)
end
section
variable {α:Type} {le:α->α->Bool}
theorem oZ(o:Ord le):∀{l j:List α},bG le l j->l.length=j.length
 |[],j,h=>by rw[bG.Kk o h]
 |a::l,j,h=>by
  have z:=bG.mem o h.symm (y:=a) (qT ..);obtain⟨u,v,t⟩:=List.append_of_mem z;have r:∃(u:List α) (b:α) (v:List α),j=u++b::v/\(∀x∈u,fY le a x=false)/\fY le a b=true:=by
   have m:j.filter (fY le a)≠[]:=fun B=>by
    have:a∈j.filter (fY le a):=zh.2 ⟨z,by unfold fY;rw[o.refl];rfl⟩;rw[B]at this;cases this
   clear t u v z h
   induction j with
   |nil=>exact absurd rfl m
   |cons c j ih=>
    by_cases s:fY le a c=true
    ·exact⟨[],c,j,rfl,by simp,s⟩
    ·rw[List.filter_cons_of_neg s]at m;obtain⟨u,b,v,e,f,g⟩:=ih m;refine⟨c::u,b,v,by rw[e];rfl,fun x i=>?_,g⟩;rcases zj.1 i with rfl|i
     ·simpa using s
     ·exact f x i
  obtain⟨u,b,v,rfl,A,G⟩:=r;have F:fY le a a=true:=by unfold fY;rw[o.refl];rfl
  have n:=h a;have q:u.filter (fY le a)=[]:=w6.2 fun x i=>by rw[A x i];simp
  rw[yq F,zn,q,zW,yq G]at n;have p:a=b:=by injection n
  subst p;have D:bG le l (u++v):=fun x=>by
   have i:=h x;rw[zx,zn,zx]at i;rw[zn];by_cases d:fY le x a=true
   ·rw[if_pos d,if_pos d]at i;have w:u.filter (fY le x)=[]:=w6.2 fun y E k=>by
     have:=A y E;unfold fY at this d k;simp only[qz]at d k;rw[o.trans _ _ _ d.2 k.1,o.trans _ _ _ k.2 d.1]at this;cases this
    rw[w,zW]at i⊢;injection i
   ·rw[if_neg d,if_neg d]at i;exact i
  rw[List.length_cons,oZ o D];simp;omega
end
end Wl
