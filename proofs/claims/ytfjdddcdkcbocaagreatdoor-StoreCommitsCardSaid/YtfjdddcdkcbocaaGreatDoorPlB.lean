/- Lemmas for the proof of the law; no condition. -/
import Derived.Test.YtfjdddcdkcbocaaGreatDoorPlA
import Derived.ProofKit
import Derived.Deep.Matrix
import Derived.Carry
import Derived.Lib.SmallJoins
import Derived.Handed
import Derived.HandedShaped
import Derived.ChangeMaps5
import Derived.SevenTiedAt
set_option linter.unusedVariables false
set_option linter.unusedSimpArgs false
open List renaming getElem_append_left -> vI, nodup_cons -> vi, nodup_range -> xo, range -> qz, range' -> xI, replicate -> qi
open Nat renaming lt_succ_self -> xl
open UInt8 renaming ofNat -> zO
open Prod renaming fst -> qF, snd -> zk
open Go.Builtin renaming append_ -> zb
open Go.Value renaming int -> xP
open Go.IntKind renaming i64 -> xV, u8 -> xW
open Go.Instr renaming sliceBounds -> we
set_option maxRecDepth 100000
open Option renaming some -> cO
open Bool renaming true -> eH, false -> eL
open Go renaming Value -> eX
open List renaming length -> n1
namespace Go.Qw
theorem Oh(b:ByteArray):∀n i r,b.size-i=n->ByteArray.toList.loop b i r=r.reverse++b.data.toList.drop i:=by
 have c:n1 b.data.toList=b.size:=rfl;intro n
 induction n with
 |zero=>
  intro i r h;rw[ByteArray.toList.loop,m6 n3,List.drop_eq_nil_of_le (by rw[c];omega),qR]
 |succ n ih=>
  intro i r h;have a:i<b.size:=n3
  rw[ByteArray.toList.loop,l0 a,ih (i+1) _ n3];have d:b.data.toList.drop i=b.get! i::b.data.toList.drop (i+1):=by rw[List.drop_eq_getElem_cons (by rw[c];exact a)];congr 1;show _=b.data[i]!;rw[getElem!_pos b.data i a,Array.getElem_toList]
  rw[d,List.reverse_cons,qo];rfl
theorem toList_eq(x:ByteArray):x.toList=x.data.toList:=by unfold ByteArray.toList;rw[Oh x _ 0 [] rfl];rfl
theorem RO{a b:ByteArray}(h:a.toList=b.toList):a=b:=by rw[toList_eq,toList_eq]at h;cases a;cases b;congr;exact Array.toList_inj.1 h
theorem Qe(s:Nat×aO)(aZ:Nat):(fN s aZ).1<=s.1+1:=by
 unfold fN;cases fw s.2 s.1 aZ with
 |none=>exact Nat.le_succ _
 |some i=>exact qk _
theorem Jz(m:aO):∀c,(bc m c).1<=c
 |0=>qk _
 |c+1=>by
  have a:=Qe (bc m c) c;have b:=Jz m c;rw[bc];omega
theorem GH(m:aO)(c:Nat):∀d,(bc m (c+d)).1<=(bc m c).1+d
 |0=>qk _
 |d+1=>by
  have b:=Qe (bc m (c+d)) (c+d);have a:=GH m c d;rw[show c+(d+1)=(c+d)+1 by omega,bc];omega
theorem Mh{m:aO}{n:Nat}(h:(bc m n).1=n){c:Nat}(b:c<=n):(bc m c).1=c:=by have d:=Jz m c;have a:=GH m c (n-c);rw[show c+(n-c)=n by omega,h]at a;omega
theorem JA{m:aO}{n:Nat}(h:(bc m n).1=n){c:Nat}(d:c<n):∃i,fw (bc m c).2 c c=cO i/\(bc m (c+1)).2=bO c c (fW c c (fM (bc m c).2 c i)) (bc m c).2.length:=by
 have b:=Mh h (show c<=n by omega);have a:=Mh h (show c+1<=n by omega);rw[bc,fN,b]at a;cases hb:fw (bc m c).2 c c with
 |none=>rw[hb]at a;dsimp only at a;omega
 |some i=>
  refine⟨i,n2,?_⟩;rw[bc,fN,b,hb]
theorem CR{m:aO}{a aZ i:Nat}(h:fw m a aZ=cO i){j:Nat}(c:a<=j)(b:j<i):aM (aB m j) aZ=0:=by rw[fw,List.find?_range_eq_some]at h;have:=h.2.2 j b;simp at this;exact this.resolve_left n3
theorem GI(n:Nat)(c:UInt8)(r:Row):(scaleB c r).drop n=scaleB c (r.drop n):=by simp[scaleB,List.map_drop]
theorem Mi(n:Nat)(c:UInt8)(a t:Row):(cL c a t).drop n=cL c (a.drop n) (t.drop n):=by simp[cL,List.drop_zipWith]
def Zi:Nat->Nat->Nat->List (List Nat)
 |0,_,_=>[[]]
 |t+1,a,n=>(xI a (n-t-a)).flatMap λi=>(Zi t (i+1) n).map (i::·)
def RP(n:Nat):List Nat->Option (List Nat)
 |[]=>none
 |x::l=>match RP n l with
  |some l'=>cO (x::l')
  |none=>if x+n1 l+1<n then cO (xI (x+1) (n1 l+1))else none
inductive Xr (n:Nat):List Nat->List (List Nat)->Prop
 |last {l:List Nat}:RP n l=none->Xr n l [l]
 |more {l l':List Nat} {L:List (List Nat)}:RP n l=cO l'->Xr n l' L->Xr n l (l::L)
def ch:Nat->Nat->Nat
 |_,0=>1
 |0,_+1=>0
 |n+1,k+1=>ch n k+ch n (k+1)
def abP(n t:Int):Int:=if 0<=n/\n<=64/\0<=t/\t<=n then(min (ch n.toNat t.toNat) 4097:Nat)else 0
section
open Classical
def gY(r:Row):Nat:=r.findIdx (λx=>x !=0)
section
variable {n:Nat} {m M A:aO}
structure aey (n:Nat) (M A:aO):Prop where
 even:aW n M
 evenA:aW n A
 span:∀v,Span n M v↔Span n A v
 len:n1 M=cx A
 lead:∀x∈M,gY x<n
theorem Xs(a:aW n m):Way n m n (cx m) (bc m (ez m)).2:=by
 have h:=Ej a n (qk _);cases m with
 |nil=>rw[kw]at h;exact h
 |cons x t=>
  have b:ez (x::t)=n:=by rw[ez,bh n9];exact a _ n9
  rw[cx,b];exact h
end
def RQ(r:aS×Bool)(n:Int):aS×(aS×Bool):=if n<=n1 r.1 then(r.1.take n.toNat,(r.1.drop n.toNat,r.2))else([],(r.1,eH))
def adQ(l:aS):Int:=l.foldl (λn x=>n*256+(x.toNat:Int)) 0
def oQ(r:aS×Bool)(k:Int):Int×(aS×Bool):=(adQ (RQ r k).1,(RQ r k).2)
def Lc:Nat->aS×Bool->aD×(aS×Bool)
 |0,r=>([],r)
 |n+1,r=>if r.2 then([],r)else((oQ r 1).1::(Lc n (oQ r 1).2).1,(Lc n (oQ r 1).2).2)
def Xt(p:Int×Int×Int)(r:aS×Bool):cS×(aS×Bool):=
 let a:=oQ r 1;let b:=RQ a.2 a.1;let c:=oQ b.2 3;let d:=oQ c.2 2;let e:=Lc (countP p d.1).toNat d.2
 (⟨⟨b.1.toArray⟩,c.1,d.1,e.1⟩,e.2)
def RR(p:Int×Int×Int):Nat->aS×Bool->List cS×(aS×Bool)
 |0,r=>([],r)
 |n+1,r=>if r.2 then([],r)else((Xt p r).1::(RR p n (Xt p r).2).1,(RR p n (Xt p r).2).2)
def RS(b:aS):aA×(aS×Bool):=
 let a:=oQ (b,eL) 4;let c:=oQ a.2 4;let k:=oQ c.2 1;let h:=oQ k.2 1;let z:=oQ h.2 1;let x:=oQ z.2 1;let n:=oQ x.2 1;let d:=Lc n.1.toNat n.2;let o:=oQ d.2 1;let e:=RR (k.1,h.1,z.1) o.1.toNat o.2
 (⟨a.1,c.1,(k.1,h.1,z.1),x.1,d.1,e.1⟩,e.2)
def abQ(b:aS):Option aA:=if(RS b).2.2||(decide (n1 b=0)||!decide (b=gC (RS b).1))then none else cO (RS b).1
abbrev fm:=aD×Row
def df(x:Int->UInt8):aD->UInt8
 |[]=>0
 |c::l=>x c^^^df x l
theorem ky{x y:Int->UInt8}:∀{l:aD},(∀c∈l,x c=y c)->df x l=df y l
 |[],_=>rfl
 |c::l,h=>by rw[df,df,h c n9,ky λd a=>h d oo]
theorem EK(x:Int->UInt8)(p:Int->Bool):∀l,df x l=df x (l.filter p)^^^df x (l.filter λc=>!p c)
 |[]=>by simp[df]
 |c::l=>by
  rw[df,EK x p l];cases h:p c<;>simp only[zE,h,wL,if_true,zg,if_false,df]<;>ac_rfl
theorem uG(x:Int->UInt8){c:Int}:∀{l:aD},l.Nodup->c∈l->df x l=x c^^^df x (l.filter λd=>!decide (d=c))
 |[],_,h=>t7
 |d::l,hd,h=>by
  rw[vi]at hd;rcases qQ.1 h with rfl|h
  .have:l.filter (λd=>!decide (d=c))=l:=yX.2 λe a=>oo
   rw[zE];simp only[decide_true,Bool.not_true,zg,if_false];rw[this,df]
  .rw[zE,l0 oo,df,uG x hd.2 h];ac_rfl
theorem Mj(x y:Int->UInt8):∀l,df (λc=>x c^^^y c) l=df x l^^^df y l
 |[]=>by simp[df]
 |c::l=>by rw[df,df,df,Mj x y l];ac_rfl
theorem CS:∀{x:Int->UInt8} {l:aD},(∀c∈l,x c=0)->df x l=0
 |_,[],_=>rfl
 |x,c::l,h=>by rw[df,h c n9,CS λd a=>h d oo];rfl
def cW(V:aO)(a:Row)(l:aD):Row:=l.foldl (λa c=>cL 1 (aB V c.toNat) a) a
theorem jO{V:aO}{m:Nat}:∀{l:aD} {a:Row},n1 a=m->(∀c∈l,(aB V c.toNat).length=m)->(cW V a l).length=m
 |[],a,h,_=>h
 |c::l,a,h,hv=>by
  exact jO (l:=l) (by rw[cm oo];exact h) λd b=>hv d oo
theorem FF{V:aO}{m:Nat}(j:Nat):∀{l:aD} {a:Row},n1 a=m->(∀c∈l,(aB V c.toNat).length=m)->aM (cW V a l) j=aM a j^^^df (λc=>aM (aB V c.toNat) j) l
 |[],a,_,_=>by simp[cW,df]
 |c::l,a,h,hv=>by
  have b:(aB V c.toNat).length=n1 a:=oo
  rw[cW,zS];have:=FF (V:=V) j (l:=l) (a:=cL 1 (aB V c.toNat) a) (by rw[cm b];exact h) λd e=>hv d oo;rw[cW]at this;rw[this,cX b,Gf.one_mul,];ac_rfl
def Sat(t:UInt8)(k:Nat)(x:Int->UInt8)(e:fm):Prop:=df x e.1=Gf.mul t (aM e.2 k)
structure iW (n w:Nat) (e:fm):Prop where
 de:∀c∈e.1,0<=c/\c<(n:Int)
 nodup:e.1.Nodup
 len:n1 e.2=w
def kn(known:List Bool)(c:Int):Bool:=known.getD c.toNat eL
def fu(known:List Bool)(vals:aO)(e:fm):fm:=(e.1.filter λc=>!kn known c,cW vals e.2 (e.1.filter λc=>kn known c))
structure jP (n w:Nat) (l:List fm) (known:List Bool) (vals:aO):Prop where
 klen:n1 known=n
 vlen:n1 vals=n
 row:∀c:Nat,c<n->(aB vals c).length=if known.getD c eL then w else 0
 sound:∀t k x,k<w->(∀e∈l,Sat t k x e)->∀c:Int,0<=c->c<(n:Int)->kn known c=eH->x c=Gf.mul t (aM (aB vals c.toNat) k)
section
variable {n w:Nat} {l:List fm} {known:List Bool} {vals:aO}
theorem RT(n w:Nat)(l:List fm):jP n w l (qi n eL) (qi n []):=by
 refine⟨n9,n9,λc d=>?_,λt k x f b c h0 e a=>?_⟩
 .rw[bh oo];grind
 .rw[kn,]at a
  grind
theorem jP.CT(h:jP n w l known vals){c:Int}(d:0<=c)(b:c<(n:Int))(a:kn known c=eH):(aB vals c.toNat).length=w:=by
 have:=h.row c.toNat n3;rw[kn]at a
 grind
theorem jP.Au(h:jP n w l known vals){e:fm}(b:iW n w e):iW n w (fu known vals e):=
 ⟨λc d=>b.de c (qN.1 d).1,b.nodup.filter _,jO b.len λc d=>by
  have a:=qN.1 d;exact h.CT (b.de c a.1).1 (b.de c a.1).2 a.2⟩
theorem jP.Em(h:jP n w l known vals){e:fm}(g:iW n w e){t:UInt8}{k:Nat}{x:Int->UInt8}(j:∀c:Int,0<=c->c<(n:Int)->kn known c=eH->x c=Gf.mul t (aM (aB vals c.toNat) k)):
  Sat t k x (fu known vals e)↔Sat t k x e:=by
 have d:∀c∈e.1.filter λc=>kn known c,(aB vals c.toNat).length=w:=λc f=>by
  have b:=qN.1 f;exact h.CT (g.de c b.1).1 (g.de c b.1).2 b.2
 have o:df x (e.1.filter λc=>kn known c)=Gf.mul t (df (λc=>aM (aB vals c.toNat) k) (e.1.filter λc=>kn known c)):=by
  rw[ky (y:=λc=>Gf.mul t (aM (aB vals c.toNat) k)) λc f=>j c (g.de c (qN.1 f).1).1 (g.de c (qN.1 f).1).2 (qN.1 f).2];generalize e.1.filter (λc=>kn known c)=m
  induction m with
  |nil=>simp[df,Gf.mul_zero]
  |cons a m ih=>rw[df,df,Gf.jD,ih]
 unfold Sat fu;rw[FF k g.len d,Gf.jD,<-o,EK x (λc=>kn known c) e.1];constructor
 .intro i;rw[i];rw[vX,Aq]
 .intro i;rw[<-i];rw[vX (df x (e.1.filter λc=>kn known c)),Aq]
theorem abR{known:List Bool}{c d:Int}(e:0<=c)(a:0<=d)(b:c<(n1 known:Int)):kn (known.set c.toNat eH) d=(decide (d=c)||kn known d):=by
 unfold kn
 grind
theorem Ut(h:jP n w l known vals)(m:∀e∈l,iW n w e){e:fm}(f:e∈l){c:Int}(s:(fu known vals e).1=[c]):jP n w l (known.set c.toNat eH) (vals.set c.toNat (fu known vals e).2):=by
 have b:=h.Au (m e f);have i:=b.de c oo;have u:=h.vlen;have q:=h.klen;refine⟨oo,oo,λd o=>?_,λt k x j g d h0 p r=>?_⟩
 .rw[lp,qg,List.getElem?_set];by_cases a:c.toNat=d
  .subst a;simp[show c.toNat<n1 known by omega,b.len]
  .rw[m6 a,m6 a,h.row d o,qg]
 .rw[abR i.1 h0 n3]at r;rw[lp];by_cases a:d=c
  .subst a;have:=(h.Em (m e f) (h.sound t k x j g)).2 (g e f);unfold Sat at this;rw[s]at this;simpa[df]using this
  .rw[m6 n3];exact h.sound t k x j g d h0 p oo
theorem CV(h:jP n w l known vals)(e:fm):∀c∈(fu known vals e).1,kn known c=eL:=λc a=>by
 have:=(qN.1 a).2;grind
def ba(known:List Bool)(vals:aO)(l:List fm):List fm:=(l.map (fu known vals)).filter λe=>!e.1.isEmpty
def kz(known:List Bool)(vals:aO)(l:List fm):Bool:=(l.map (fu known vals)).any λe=>e.1.isEmpty&&e.2.any (· !=0)
theorem Mk(h:jP n w l known vals)(f:∀e∈l,iW n w e)(d:kz known vals l=eL){t:UInt8}{k:Nat}{x:Int->UInt8}(j:k<w):
  (∀e∈l,Sat t k x e)↔(∀c:Int,0<=c->c<(n:Int)->kn known c=eH->x c=Gf.mul t (aM (aB vals c.toNat) k))/\∀e∈ba known vals l,Sat t k x e:=by
 constructor
 .intro g;refine⟨h.sound t k x j g,λe a=>?_⟩;obtain⟨m,b,rfl⟩:=qI.1 (qN.1 a).1;exact(h.Em (f m b) (h.sound t k x j g)).2 (g m b)
 .rintro⟨o,r⟩ e a;refine(h.Em (f e a) o).1 ?_;by_cases i:(fu known vals e).1=[]
  .unfold Sat;rw[i,df];have p:((fu known vals e).1.isEmpty&&(fu known vals e).2.any (· !=0))=eL:=by
    have:=wu.1 d _ (List.mem_map_of_mem a)
    grind
   rw[]at p;have q:∀y∈(fu known vals e).2,y=0:=oo
   have h3:=(h.Au (f e a)).len;have:aM (fu known vals e).2 k=0:=by rw[aM,qg,qd n3];exact q _ (qf _)
   rw[this,Gf.mul_zero]
  .refine r _ (qN.2 ⟨List.mem_map_of_mem a,?_⟩)
   grind
theorem RU(h:jP n w l known vals)(i:∀e∈l,iW n w e)(c:kz known vals l=eH):∃k,k<w/\∀x:Int->UInt8,¬∀e∈l,Sat 1 k x e:=by
 obtain⟨y,p,d⟩:=zW.1 c;obtain⟨e,f,rfl⟩:=qI.1 p;rw[qC]at d;obtain⟨z,m,a⟩:=zW.1 d.2;obtain⟨k,o,rfl⟩:=qE m;have h3:=(h.Au (i e f)).len;refine⟨k,n3,λx j=>?_⟩;have b:=(h.Em (i e f) (h.sound 1 k x n3 j)).2 (j e f);unfold Sat at b;have g:(fu known vals e).1=[]:=by simpa using d.1
 rw[g,df,Gf.one_mul,aM,qg,qd o]at b;simp at a;exact a b.symm
end
def kb(op:List Bool)(c:Int):Bool:=op.getD c.toNat eL
def di(op:List Bool)(r:aD):aD:=r.filter (kb op)
def kW(rows:cR)(op us:List Bool)(i:Nat):Bool:=!(us.getD i eL)&&(di op (rows.getD i [])).length==1
def lK(rows:cR)(op us:List Bool):Option Nat:=(qz rows.length).find? (kW rows op us)
def eT(rows:cR)(op:List Bool)(i:Nat):Int:=(di op (rows.getD i [])).getLast?.getD 0
def kA(a:aD)(r:aD):aD:=r.foldl (λa c=>a.set c.toNat (a.getD c.toNat 0+1)) a
def lr(g:Nat->aD->aD)(rows:cR)(us:List Bool)(a:aD):Nat->aD
 |0=>a
 |k+1=>if us.getD k eL then lr g rows us a k else kA (lr g rows us a k) (g k (rows.getD k []))
def iS(op:List Bool)(a:aD):Nat->Int
 |0=>-1
 |k+1=>if op.getD k eL&&(decide (iS op a k<0)||decide (a.getD k 0>a.getD (iS op a k).toNat 0))then(k:Int)else iS op a k
def iC(rows:cR)(op us:List Bool):Int:=iS op (lr (λ_ r=>r) rows us (qi op.length 0) rows.length) op.length
structure Pl where
 steps:List (Int×Int)
 dead:aD
 used:List Bool
def cA(rows:cR):Nat->List Bool->List Bool->Pl
 |0,_,us=>⟨[],[],us⟩
 |k+1,op,us=>
  if op.contains eH then
   match lK rows op us with
   |some i=>let r:=cA rows k (op.set (eT rows op i).toNat eL) (us.set i eH);⟨((i:Int),eT rows op i)::r.steps,r.dead,r.used⟩
   |none=>let r:=cA rows k (op.set (iC rows op us).toNat eL) us;⟨r.steps,iC rows op us::r.dead,r.used⟩
  else⟨[],[],us⟩
def fO(us:List Bool):Nat->aD
 |0=>[]
 |k+1=>if us.getD k eL then fO us k else fO us k++[(k:Int)]
def eN(n:Nat)(rows:cR):Pl:=cA rows n (qi n eH) (qi rows.length eL)
theorem Uu{P:Nat->Bool}{n:Nat}(h:∀j,j<n->P j=eL):(qz n).find? P=none:=oo
theorem Uv{P:Nat->Bool}{n k:Nat}(f:k<n)(h:∀j,j<k->P j=eL)(d:P k=eH):(qz n).find? P=cO k:=by
 rw[List.find?_eq_some_iff_append];refine⟨d,qz k,xI (k+1) (n-k-1),?_,λa e=>?_⟩
 .rw[yN,yN];have b:n=k+(n-k):=n3
  have c:n-k=(n-k-1)+1:=n3
  conv=>lhs;rw[b,<-List.range'_append_1 (s:=0) (m:=k) (n:=n-k)]
  rw[yg]
  conv=>lhs;rw[c,List.range'_succ]
 grind
theorem Oi(a r:aD)(c:Int):kA a (r++[c])=(kA a r).set c.toNat ((kA a r).getD c.toNat 0+1):=by simp[kA]
theorem BR(b r:aD):(kA b r).length=n1 b:=by
 induction r generalizing b with
 |nil=>rfl
 |cons a t ih=>simp only[kA,]at*;grind
theorem Bf(g:Nat->aD->aD)(rows:cR)(us:List Bool)(a:aD):∀k,(lr g rows us a k).length=n1 a
 |0=>rfl
 |k+1=>by
  unfold lr;split
  .exact Bf g rows us a k
  .rw[BR,Bf g rows us a k]
theorem CW{m:Int}:∀{r b:aD},(∀x∈b,0<=x/\x<=m)->∀x∈kA b r,0<=x/\x<=m+n1 r
 |[],b,h,x,hx=>by have:=h x hx;grind
 |a::t,b,h,x,hx=>by
  have d:∀y∈b.set a.toNat (b.getD a.toNat 0+1),0<=y/\y<=m+1:=by
   intro y c;rcases List.mem_or_eq_of_mem_set c with c|c
   .grind
   .subst c;cases hc:b[a.toNat]? with
    |none=>
     rw[List.getElem?_eq_none_iff]at hc;rw[List.set_eq_of_length_le hc]at c
     grind
    |some z=>have:=h z (List.mem_of_getElem? hc);grind
  have:=CW (r:=t) d x hx
  grind
theorem Ml(g:Nat->aD->aD){rows:cR}{us:List Bool}{n:Nat}(a:∀k,(g k (rows.getD k [])).length<=64):∀k,∀x∈lr g rows us (qi n 0) k,0<=x/\x<=64*k
 |0,x,hx=>by
  have:=List.eq_of_mem_replicate hx
  grind
 |k+1,x,hx=>by
  unfold lr at hx;split at hx
  .have:=Ml g a k x hx;omega
  .have:=CW (Ml g a k) x hx
   grind
theorem JB(op:List Bool)(a:aD):∀k,(iS op a k=-1/\∀j,j<k->op.getD j eL=eL)∨(0<=iS op a k/\iS op a k<k/\op.getD (iS op a k).toNat eL=eH)
 |0=>.inl ⟨n2,λj b=>n3⟩
 |k+1=>by
  unfold iS;split
  .grind
  .rcases JB op a k with⟨e,h⟩|⟨h1,h2,h3⟩
   .grind
   grind
theorem CX{op:List Bool}(h:op.contains eH=eH):∃j,j<n1 op/\op.getD j eL=eH:=by simp only[List.contains_iff_mem]at h;obtain⟨j,a,e⟩:=qE h;exact⟨j,a,oo⟩
theorem rG{rows:cR}{op us:List Bool}(h:op.contains eH=eH):0<=iC rows op us/\iC rows op us<n1 op/\op.getD (iC rows op us).toNat eL=eH:=by
 obtain⟨j,a,e⟩:=CX h;rcases JB op (lr (λ_ r=>r) rows us (qi op.length 0) rows.length) op.length with⟨_,h2⟩|h2
 .grind
 .exact h2
theorem oR{rows:cR}{op us:List Bool}{i:Nat}(h:lK rows op us=cO i):i<n1 rows/\kW rows op us i=eH:=by
 have b:=List.mem_of_find?_eq_some h;have a:=List.find?_some h
 grind
theorem tQ{rows:cR}{op us:List Bool}{i:Nat}(a:kW rows op us i=eH):di op (rows.getD i [])=[eT rows op i]/\eT rows op i∈rows.getD i []/\kb op (eT rows op i)=eH:=by
 simp only[kW,qC,beq_iff_eq]at a;obtain⟨c,d⟩:=List.length_eq_one_iff.1 a.2;have e:eT rows op i=c:=by unfold eT;grind
 have b:c∈di op (rows.getD i []):=oo
 rw[di,]at b
 grind
theorem jz{op:List Bool}{j:Nat}(h:op.getD j eL=eH):(op.set j eL).count eH+1=op.count eH:=oo
theorem uH{rows:cR}{op us:List Bool}(h:op.contains eH=eL):∀k,cA rows k op us=⟨[],[],us⟩
 |0=>rfl
 |k+1=>by unfold cA;grind
theorem mE{rows:cR}{op us:List Bool}{i k:Nat}(h:op.contains eH=eH)(a:lK rows op us=cO i):
  cA rows (k+1) op us=⟨((i:Int),eT rows op i)::(cA rows k (op.set (eT rows op i).toNat eL) (us.set i eH)).steps,(cA rows k (op.set (eT rows op i).toNat eL) (us.set i eH)).dead,(cA rows k (op.set (eT rows op i).toNat eL) (us.set i eH)).used⟩:=by
 rw[cA,h,a];rfl
theorem ot{rows:cR}{op us:List Bool}{k:Nat}(h:op.contains eH=eH)(a:lK rows op us=none):
  cA rows (k+1) op us=⟨(cA rows k (op.set (iC rows op us).toNat eL) us).steps,iC rows op us::(cA rows k (op.set (iC rows op us).toNat eL) us).dead,(cA rows k (op.set (iC rows op us).toNat eL) us).used⟩:=by
 rw[cA,h,a];rfl
theorem se(rows:cR):∀k op us,(cA rows k op us).used.length=n1 us
 |0,_,_=>rfl
 |k+1,op,us=>by
  unfold cA;split
  .split
   .rw[se];simp
   .rw[se]
  .rfl
theorem En(us:List Bool):∀k,(fO us k).length<=k
 |0=>by simp[fO]
 |k+1=>by
  have:=En us k;unfold fO
  grind
theorem ni{op:List Bool}{f:Nat}(h:op.count eH=f+1):op.contains eH=eH:=by
 have:0<op.count eH:=n3
 rw[List.count_pos_iff]at this;simpa using this
theorem EL{P:Nat->Bool}{n j:Nat}(a:j<n)(h:P j=eH):∃i,(qz n).find? P=cO i:=by
 cases hf:(qz n).find? P with
 |some i=>simp
 |none=>
  grind
theorem mF(l:List Bool)(i j:Nat)(x:Bool):(l.set i x).getD j eL=if i=j/\j<n1 l then x else l.getD j eL:=oo
def nT(rows:cR)(op us:List Bool):Prop:=∀i,us.getD i eL=eH->di op (rows.getD i [])=[]
theorem mV{op:List Bool}{c d:Int}(h:kb (op.set d.toNat eL) c=eH):kb op c=eH/\c.toNat≠d.toNat:=by
 unfold kb at*
 grind
theorem JC{rows:cR}{op us:List Bool}{i:Nat}(h:nT rows op us)(f:kW rows op us i=eH):nT rows (op.set (eT rows op i).toNat eL) (us.set i eH):=by
 obtain⟨n,l,h3⟩:=tQ f;intro j a;rw[mF]at a;rw[di,ve];intro c m b;obtain⟨b,d⟩:=mV b;have g:c∈di op (rows.getD j []):=by rw[di,];grind
 by_cases e:i=j
 .grind
 .rw[m6 λk=>e k.1]at a;rw[h j a]at g
  grind
theorem Xu{rows:cR}{n:Nat}(ex:∀op us,n1 op=n->n1 us=n1 rows->nT rows op us->op.contains eH=eH->∃j,j<n1 rows/\kW rows op us j=eH):
  ∀k op us,n1 op=n->n1 us=n1 rows->nT rows op us->op.count eH=k->
   (cA rows k op us).dead=[]/\(cA rows k op us).steps.length=k/\(cA rows k op us).used.count eH=us.count eH+k
 |0,_,_,_,_,_,_=>⟨n2,n2,n2⟩
 |k+1,op,us,hl,hul,hu,hc=>by
  have f:=ni hc;obtain⟨j,p,g⟩:=ex op us hl hul hu f;obtain⟨i,h⟩:∃i,lK rows op us=cO i:=EL p g;obtain⟨o,d⟩:=oR h;have e:=(tQ d).2.2;have m:=jz (op:=op) (j:=(eT rows op i).toNat) e;have l:us[i]'n3=eL:=by
   simp only[kW,]at d
   grind
  obtain⟨a,b,c⟩:=Xu ex k (op.set (eT rows op i).toNat eL) (us.set i eH) E1 (by simp[hul]) (JC hu d) n3;rw[mE f h]
  grind
theorem CY(n j:Nat):(qi n eL).getD j eL=eL:=oo
theorem abS{rows:cR}{r:aD}(h:r∈rows):∃j,j<n1 rows/\rows.getD j []=r:=by obtain⟨j,a,e⟩:=qE h;exact⟨j,a,oo⟩
def other(m i:Nat):Nat:=if i<m then i else i+1
def rH(rows:cR):(Int->Prop)->(Int->Prop)->List (Int×Int)->Prop
 |_,_,[]=>True
 |D,U,(i,c)::t=>(0<=i/\i<n1 rows)/\¬U i/\¬D c/\c∈rows.getD i.toNat []/\(∀a∈rows.getD i.toNat [],a≠c->D a)/\rH rows (λx=>D x∨x=c) (λx=>U x∨x=i) t
def adR(op:List Bool)(c:Int):Prop:=0<=c/\kb op c=eH
theorem abT{op:List Bool}{c:Int}(h:kb op c=eH):c.toNat<n1 op:=by
 by_cases a:c.toNat<n1 op
 .exact a
 .unfold kb at h;grind
theorem Qf{op:List Bool}{c d:Int}(b:0<=c)(e:0<=d):kb op c=eH->c≠d->kb (op.set d.toNat eL) c=eH:=by intro h a;unfold kb;rw[mF,m6 λf=>a n3];exact h
theorem sD{op:List Bool}{d:Int}(h:kb op d=eH):kb (op.set d.toNat eL) d=eL:=by
 unfold kb
 grind
structure adn (rows:cR) (op us:List Bool) (r:Pl):Prop where
 de:n1 r.steps+n1 r.dead=op.count eH
 used:r.used.count eH=us.count eH+n1 r.steps
 keepU:∀i,us.getD i eL=eH->r.used.getD i eL=eH
 dead:∀c∈r.dead,adR op c
 deadN:r.dead.Nodup
 good:∀D U:Int->Prop,(∀c:Int,0<=c->c<n1 op->(D c↔kb op c=eL∨c∈r.dead))->(∀i:Nat,i<n1 rows->(U i↔us.getD i eL=eH∨r.used.getD i eL=eL))->rH rows D U r.steps
theorem Xv{us:List Bool}{i:Nat}(h:us.getD i eL=eL)(a:i<n1 us):(us.set i eH).count eH=us.count eH+1:=oo
theorem Mm{rows:cR}{n:Nat}(b:∀r∈rows,∀c∈r,0<=c/\c<n):∀k op us,n1 op=n->n1 us=n1 rows->op.count eH=k->adn rows op us (cA rows k op us)
 |0,op,us,hl,hul,hc=>⟨by simp[cA,hc],by simp[cA],λi h=>h,λc h=>by simp[cA]at h,by simp[cA],λ_ _ _ _=>trivial⟩
 |k+1,op,us,hl,hul,hc=>by
  have s:=ni hc;cases hst:lK rows op us with
  |some i=>
   obtain⟨l,q⟩:=oR hst;obtain⟨L,K,h3⟩:=tQ q;have f:rows.getD i []=rows[i]:=by rw[qg,qd l];rfl
   have x:=b _ (qf l) _ (f▸K);have E:=jz (op:=op) (j:=(eT rows op i).toNat) h3;have w:us.getD i eL=eL:=by simp only[kW,qC,Bool.not_eq_true']at q;exact q.1
   have N:=Xv w n3;have a:=Mm b k (op.set (eT rows op i).toNat eL) (us.set i eH) E1 (by simp[hul]) n3;rw[mE s hst];generalize cA rows k (op.set (eT rows op i).toNat eL) (us.set i eH)=r at a;generalize J:eT rows op i=c at*;have A:r.used.getD i eL=eH:=a.keepU i (by rw[mF,l0 ⟨n2,n3⟩]);have t:c∉r.dead:=λh=>by
    have:=(a.dead c h).2;rw[sD h3]at this;cases this
   refine⟨by simp only[zc];have:=a.de;omega,by simp only[zc];have:=a.used;omega,λj F=>a.keepU j (by rw[mF];split;rfl;exact F),λd p=>⟨(a.dead d p).1,(mV (a.dead d p).2).1⟩,a.deadN,λD U v y=>?_⟩;have o:rows.getD ((i:Int)).toNat []=rows.getD i []:=by rw[qj]
   refine⟨n3,?_,?_,by rw[o];exact K,?_,?_⟩
   .rw[y i l,w,A];simp
   .rw[v c x.1 n3,h3];simp[t]
   .intro G u z;rw[o]at u;have B:=b _ (qf l) _ (f▸u);refine(v G B.1 n3).2 (.inl ?_);cases ho:kb op G with
    |false=>rfl
    |true=>
     have:G∈di op (rows.getD i []):=by rw[di,qN];exact⟨u,ho⟩
     rw[L]at this;simp at this;exact absurd this z
   .refine a.good _ _ (λd g m=>?_) (λj F=>?_)
    .simp only[qK]at m;rw[v d g m];by_cases e:d=c
     .subst e;simp[sD h3]
     .cases ho:kb op d with
      |true=>rw[Qf g x.1 ho e];simp[e]
      |false=>
       have:kb (op.set c.toNat eL) d=eL:=by
        cases hh:kb (op.set c.toNat eL) d with
        |false=>rfl
        |true=>rw[(mV hh).1]at ho;cases ho
       rw[this];simp
    .rw[y j F,mF];by_cases e:i=j
     .subst e;simp[hul,l]
     .have M:¬((j:Int)=(i:Int)):=λh=>e n3;simp[e,M]
  |none=>
   obtain⟨H,m2,I⟩:=rG (rows:=rows) (us:=us) s;have E:=jz (op:=op) (j:=(iC rows op us).toNat) I;have a:=Mm b k (op.set (iC rows op us).toNat eL) us E1 hul n3;rw[ot s hst];generalize cA rows k (op.set (iC rows op us).toNat eL) us=r at a;generalize iC rows op us=c at*;have h3:kb op c=eH:=I;have t:c∉r.dead:=λh=>by
    have:=(a.dead c h).2;rw[sD h3]at this;cases this
   refine⟨by simp only[zc];have:=a.de;omega,a.used,a.keepU,λd p=>?_,by simp only[vi];exact⟨t,a.deadN⟩,λD U v y=>?_⟩
   .rcases qQ.1 p with rfl|p
    .exact⟨H,h3⟩
    .exact⟨(a.dead d p).1,(mV (a.dead d p).2).1⟩
   .refine a.good D U (λd g m=>?_) y;simp only[qK]at m;rw[v d g m];by_cases e:d=c
    .subst e;simp[sD h3]
    .have:kb (op.set c.toNat eL) d=kb op d:=by
      cases ho:kb op d with
      |true=>exact Qf g H ho e
      |false=>
       cases hh:kb (op.set c.toNat eL) d with
       |false=>rfl
       |true=>rw[(mV hh).1]at ho;cases ho
     rw[this];simp[e]
theorem Bg(us:List Bool):∀k (c:Int),c∈fO us k↔∃j:Nat,c=j/\j<k/\us.getD j eL=eL
 |0,c=>by simp[fO]
 |k+1,c=>by
  have e:=Bg us k c;unfold fO;cases h:us.getD k eL with
  |true=>
   simp only[if_true];rw[e];constructor
   .rintro⟨j,a,b,d⟩;exact⟨j,a,n3,d⟩
   .rintro⟨j,a,b,d⟩;refine⟨j,a,?_,d⟩;rcases zd.1 b with b|rfl
    .exact b
    .rw[h]at d;cases d
  |false=>
   simp only[zg,if_false,qu,qA];rw[e];constructor
   .rintro(⟨j,a,b,d⟩|rfl)
    .exact⟨j,a,n3,d⟩
    .exact⟨k,n2,n3,h⟩
   .rintro⟨j,a,b,d⟩;rcases zd.1 b with b|rfl
    .exact .inl ⟨j,a,b,d⟩
    .exact .inr a
theorem Mn(us:List Bool):∀k,k<=n1 us->(fO us k).length+(us.take k).count eH=k
 |0,_=>by simp[fO]
 |k+1,hk=>by
  have a:=Mn us k n3;have e:us.getD k eL=us[k]:=by rw[qg,qd n3];rfl
  unfold fO;rw[zC n3,List.count_append,e];cases us[k]<;>simp<;>omega
theorem tR{rows:cR}{n:Nat}(a:∀r∈rows,∀c∈r,0<=c/\c<n):
  (eN n rows).steps.length+(eN n rows).dead.length=n/\(eN n rows).steps.length+(fO (eN n rows).used rows.length).length=n1 rows/\(∀c∈(eN n rows).dead,0<=c/\c<n)/\(eN n rows).dead.Nodup/\
  (∀c∈fO (eN n rows).used rows.length,0<=c/\c<n1 rows)/\rH rows (·∈(eN n rows).dead) (·∈fO (eN n rows).used rows.length) (eN n rows).steps:=by
 have h:=Mm a n (qi n eH) (qi rows.length eL) n9 n9 n9;have p:(eN n rows).used.length=n1 rows:=by unfold eN;rw[se];simp
 have d:=Mn (eN n rows).used rows.length n3;rw[List.take_of_length_le n3]at d;refine⟨by have:=h.de;simpa[eN]using this,?_,λc e=>?_,h.deadN,λc e=>?_,?_⟩
 .have:=h.used;have k:(qi rows.length eL).count eH=0:=by simp[List.count_replicate]
  rw[k]at this;unfold eN at*;omega
 .obtain⟨h0,g⟩:=h.dead c e;have:=abT g;simp at this;omega
 .obtain⟨j,rfl,o,_⟩:=(Bg _ _ _).1 e;omega
 .refine h.good _ _ (λc l b=>?_) (λi m=>?_)
  .have:kb (qi n eH) c=eH:=by simp at b;unfold kb;rw[qg,qd n7];simp
   rw[this];simp[eN]
  .rw[CY,Bg];constructor
   .rintro⟨j,o,_,f⟩;have:j=i:=n3
    subst this;exact .inr f
   .rintro(hh|hh)
    .cases hh
    .exact⟨i,n2,m,hh⟩
theorem CZ{rows:cR}:∀k op us i,(cA rows k op us).used.getD i eL=eH->us.getD i eL=eH∨∃c,((i:Int),c)∈(cA rows k op us).steps
 |0,_,_,_,h=>.inl h
 |k+1,op,us,i,h=>by
  by_cases a:op.contains eH=eH
  .cases hst:lK rows op us with
   |some j=>
    rw[mE a hst]at h⊢;rcases CZ k _ _ i h with h1|⟨c,hc⟩
    .grind
    grind
   |none=>
    rw[ot a hst]at h⊢;exact CZ k _ _ i h
  .have a:op.contains eH=eL:=oo
   rw[uH a]at h⊢;grind
theorem Da{rows:cR}{n:Nat}(a:∀r∈rows,∀c∈r,0<=c/\c<(n)):∀k op us,n1 op=n->op.count eH=k->∀c:Nat,op.getD c eL=eH->
  (c:Int)∈(cA rows k op us).dead∨∃i,(i,(c:Int))∈(cA rows k op us).steps
 |0,op,us,hl,hc,c,h=>oo
 |k+1,op,us,hl,hc,c,h=>by
  have d:=ni hc;cases hst:lK rows op us with
  |some j=>
   rw[mE d hst];obtain⟨m,f⟩:=oR hst;obtain⟨s,p,h3⟩:=tQ f;have b:rows.getD j []=rows[j]:=oo
   have q:=a _ (qf m) _ (b▸p);have l:=jz (op:=op) (j:=(eT rows op j).toNat) h3;by_cases e:(eT rows op j).toNat=c
   .exact .inr ⟨j,by rw[show((c))=eT rows op j by omega];simp⟩
   .rcases Da a k (op.set (eT rows op j).toNat eL) (us.set j eH) E1 n3 c (by rw[mF,m6 λg=>e g.1];exact h)with h5|⟨i,h5⟩
    .exact .inl h5
    .exact .inr ⟨i,qt _ h5⟩
  |none=>
   rw[ot d hst];obtain⟨t,m2,o⟩:=rG (rows:=rows) (us:=us) d;have l:=jz (op:=op) (j:=(iC rows op us).toNat) o;by_cases e:(iC rows op us).toNat=c
   .grind
   .rcases Da a k (op.set (iC rows op us).toNat eL) us E1 n3 c (by rw[mF,m6 λg=>e g.1];exact h)with h5|⟨i,h5⟩
    .exact .inl (qt _ h5)
    .exact .inr ⟨i,h5⟩
theorem RV{rows:cR}{op us:List Bool}{c:Int}(h:nT rows op us):nT rows (op.set c.toNat eL) us:=λi e=>by
 have:=h i e;rw[di,ve]at this⊢;exactλd b a=>this d b (mV a).1
theorem Bh{rows:cR}{c:Int}(m:[c]∈rows):∀k op us,nT rows op us->(∀d:Int,d<0->d∉(cA rows k op us).dead)->0<=c->c∉(cA rows k op us).dead
 |0,_,_,_,_,_=>by simp[cA]
 |k+1,op,us,hu,_,h0=>by
  by_cases a:op.contains eH=eH
  .cases hst:lK rows op us with
   |some j=>
    rw[mE a hst];dsimp only;obtain⟨_,l⟩:=oR hst;exact Bh m k _ _ (JC hu l) (λd q b=>by
     have g:∀k op us,∀d∈(cA rows k op us).dead,0<=d:=plan_dead0;have:=g _ _ _ d b;omega) h0
   |none=>
    rw[ot a hst];obtain⟨t,m2,r⟩:=rG (rows:=rows) (us:=us) a;dsimp only;intro b;rcases qQ.1 b with e|b
    .obtain⟨j,s,f⟩:=abS m;have o:di op [c]=[c]:=by rw[di,zE,l0 (show kb op c=eH by rw[e];exact r)];rfl
     have p:kW rows op us j=eH:=by
      unfold kW;rw[f,o];cases hus:us.getD j eL with
      |false=>rfl
      |true=>have:=hu j hus;rw[f,o]at this;cases this
     obtain⟨i,n⟩:∃i,lK rows op us=cO i:=EL s p;rw[hst]at n;cases n
    .exact Bh m k _ _ (RV hu) (λd q b=>by have:=plan_dead0 (rows:=rows) _ _ _ d b;omega) h0 b
  .have a:op.contains eH=eL:=B4
   rw[uH a];simp
where
 plan_dead0 {rows:cR}:∀k op us,∀d∈(cA rows k op us).dead,0<=d
  |0,_,_,d,h=>by simp[cA]at h
  |k+1,op,us,d,h=>by
   by_cases a:op.contains eH=eH
   .cases hst:lK rows op us with
    |some j=>rw[mE a hst]at h;exact plan_dead0 k _ _ d h
    |none=>
     rw[ot a hst]at h;rcases qQ.1 h with rfl|h
     .exact(rG a).1
     .exact plan_dead0 k _ _ d h
   .have a:op.contains eH=eL:=B4
    rw[uH a]at h;simp at h
def rI(R:cR):(Int->Prop)->List (Int×Int)->Prop
 |_,[]=>True
 |D,(i,c)::t=>(0<=i/\i<n1 R)/\¬D c/\c∈R.getD i.toNat []/\(∀a∈R.getD i.toNat [],a≠c->D a)/\rI R (λx=>D x∨x=c) t
theorem vZ{R S:cR}{K:Int->Prop}(j:∀r∈R,∀c∈r,¬K c)(q:∀r∈S,∀c∈r,K c):∀{a:List (Int×Int)} {D D' U:Int->Prop},rH (R++S) D U a->(∀c,¬K c->(D c↔D' c))->
  rI R D' (a.filter λp=>decide (p.1<n1 R))
 |[],_,_,_,_,_=>trivial
 |(i,c)::t,D,D',U,h,hD=>by
  obtain⟨v,z,h3,f,w,x⟩:=h;rw[zE];by_cases s:i<n1 R
  .have e:(R++S).getD i.toNat []=R.getD i.toNat []:=by rw[qg,List.getElem?_append_left n3,qg]
   have k:R.getD i.toNat []∈R:=by rw[qg,qd n3];exact qf _
   rw[e]at f w;have l:=j _ k c f;rw[l0 D6];refine⟨⟨v.1,s⟩,λo=>h3 ((hD c l).2 o),f,λu b n=>(hD u (j _ k u b)).1 (w u b n),vZ j q x λd g=>?_⟩;rw[hD d g]
  .rw[m6 D6];have k:(R++S).getD i.toNat []∈S:=by have m:=v.2;rw[qq]at m;rw[qg,ql n3,qd n3];exact qf _
   have l:=q _ k c f;refine vZ j q x λd g=>?_;rw[<-hD d g];exact⟨λo=>o.elim id λy=>absurd (y▸l) g,.inl⟩
def ev(t:UInt8)(k nd:Nat)(W M:aO)(y:Nat->UInt8)(c:Int):UInt8:=bX (λi=>aM (aB W c.toNat) i) y nd^^^Gf.mul t (aM (aB M c.toNat) k)
theorem FG{a b:Row}(h:n1 a=n1 b)(c:UInt8)(y:Nat->UInt8)(n:Nat):bX (λj=>aM (cL c a b) j) y n=bX (λj=>aM b j) y n^^^Gf.mul c (bX (λj=>aM a j) y n):=by rw[gE n (λj _=>cX h j) λ_ _=>rfl];exact Ei _ _ _ _ _
theorem Mo{V:aO}{m:Nat}(y:Nat->UInt8)(n:Nat):∀{l:aD} {a:Row},n1 a=m->(∀c∈l,(aB V c.toNat).length=m)->bX (λj=>aM (cW V a l) j) y n=bX (λj=>aM a j) y n^^^df (λc=>bX (λj=>aM (aB V c.toNat) j) y n) l
 |[],a,_,_=>by simp[cW,df]
 |c::l,a,h,hv=>by
  have b:(aB V c.toNat).length=n1 a:=by rw[hv c n9,h]
  have:=Mo (V:=V) y n (l:=l) (a:=cL 1 (aB V c.toNat) a) (by rw[cm b];exact h) λd e=>hv d C3;rw[cW,zS];rw[cW]at this;rw[this,FG b,Gf.one_mul,df];ac_rfl
theorem Mp(t:UInt8)(x:Int->UInt8):∀l,df (λc=>Gf.mul t (x c)) l=Gf.mul t (df x l)
 |[]=>by simp[df,Gf.mul_zero]
 |c::l=>by rw[df,df,Gf.jD,Mp t x l]
theorem ID{W M:aO}{nd w:Nat}{l:aD}{a m:Row}(d:n1 a=nd)(b:n1 m=w)(e:∀c∈l,(aB W c.toNat).length=nd)(f:∀c∈l,(aB M c.toNat).length=w)(t:UInt8)(k:Nat)(y:Nat->UInt8):
  bX (λj=>aM (cW W a l) j) y nd^^^Gf.mul t (aM (cW M m l) k)=(bX (λj=>aM a j) y nd^^^Gf.mul t (aM m k))^^^df (ev t k nd W M y) l:=by
 rw[Mo y nd d e,FF k b f,Gf.jD];have:df (ev t k nd W M y) l=df (λc=>bX (λj=>aM (aB W c.toNat) j) y nd) l^^^Gf.mul t (df (λc=>aM (aB M c.toNat) k) l):=by rw[<-Mp,<-Mj];rfl
 rw[this];ac_rfl
def gZ(rest:List fm)(nd:Nat)(s:aO×aO)(p:Int×Int):aO×aO:=
 let r:=rest.getD p.1.toNat ([],[])
 (s.1.set p.2.toNat (cW s.1 (aN nd) (r.1.filter λc=>!decide (c=p.2))),s.2.set p.2.toNat (cW s.2 r.2 (r.1.filter λc=>!decide (c=p.2))))
structure Uw (n nd w:Nat) (D:Int->Prop) (W M:aO):Prop where
 wl:n1 W=n
 ml:n1 M=n
 rw_:∀c:Int,D c->0<=c->c<(n:Int)->(aB W c.toNat).length=nd/\(aB M c.toNat).length=w
theorem Bi{W M b a:aO}{t:UInt8}{k nd:Nat}{y:Nat->UInt8}{c:Int}(e:aB b c.toNat=aB W c.toNat)(d:aB a c.toNat=aB M c.toNat):ev t k nd b a y c=ev t k nd W M y c:=by unfold ev;rw[e,d]
theorem FH{n nd w:Nat}{rest:List fm}(z:∀e∈rest,iW n w e):∀{a:List (Int×Int)} {D:Int->Prop} {W M:aO},rI (rest.map qF) D a->Uw n nd w D W M->
  Uw n nd w (λc=>D c∨∃i,(i,c)∈a) (a.foldl (gZ rest nd) (W,M)).1 (a.foldl (gZ rest nd) (W,M)).2/\
  (∀c:Int,D c->0<=c->aB (a.foldl (gZ rest nd) (W,M)).1 c.toNat=aB W c.toNat/\aB (a.foldl (gZ rest nd) (W,M)).2 c.toNat=aB M c.toNat)/\
  (∀p∈a,∀t k y,k<w->Sat t k (ev t k nd (a.foldl (gZ rest nd) (W,M)).1 (a.foldl (gZ rest nd) (W,M)).2 y) (rest.getD p.1.toNat ([],[])))/\
  (∀t k x y,k<w->(∀c:Int,D c->0<=c->c<(n:Int)->x c=ev t k nd W M y c)->(∀p∈a,Sat t k x (rest.getD p.1.toNat ([],[])))->∀c:Int,(D c∨∃i,(i,c)∈a)->0<=c->c<(n:Int)->x c=ev t k nd (a.foldl (gZ rest nd) (W,M)).1 (a.foldl (gZ rest nd) (W,M)).2 y c)
 |[],D,W,M,_,hw=>⟨⟨hw.wl,hw.ml,λc U=>hw.rw_ c (U.elim id λ⟨i,h⟩=>t7)⟩,λ_ _ _=>⟨n2,n2⟩,λp r=>by(cases r),λt k x y J I _ c U h0 o=>I c (U.elim id λ⟨i,h⟩=>t7) h0 o⟩
 |(i,c)::st,D,W,M,hg,hw=>by
  obtain⟨g1,g2,K,g4,g5⟩:=hg;have u:i.toNat<n1 rest:=by have:=g1.2;rw[qp]at this;omega
  obtain⟨e,Q⟩:=I3 (rest[i.toNat])
  have Z:rest.getD i.toNat ([],[])=e:=by rw[qg,qd u,Q];rfl
  have Y:(rest.map qF).getD i.toNat []=e.1:=by rw[qg,List.getElem?_map,qd u,Q];rfl
  rw[Y]at K g4;have l:=z e (Q▸qf u);have ab:=l.de c K;obtain⟨F,H⟩:=I3 (e.1.filter (λd=>!decide (d=c)))
  have q:∀d∈F,d∈e.1/\d≠c:=λd b=>by rw[H,qN]at b;exact⟨b.1,by simpa using b.2⟩
  have f:∀d∈F,D d/\0<=d/\d<(n:Int):=λd b=>⟨g4 d (q d b).1 (q d b).2,l.de d (q d b).1⟩
  have l1:∀d∈F,(aB W d.toNat).length=nd:=λd b=>(hw.rw_ d (f d b).1 (f d b).2.1 (f d b).2.2).1;have l2:∀d∈F,(aB M d.toNat).length=w:=λd b=>(hw.rw_ d (f d b).1 (f d b).2.1 (f d b).2.2).2;have lz:(aN nd).length=nd:=s8
  have X:gZ rest nd (W,M) (i,c)=(W.set c.toNat (cW W (aN nd) F),M.set c.toNat (cW M e.2 F)):=by unfold gZ;dsimp only;rw[Z,<-H]
  have V:=hw.wl;have R:=hw.ml;have A:∀d:Nat,aB (W.set c.toNat (cW W (aN nd) F)) d=if c.toNat=d then cW W (aN nd) F else aB W d:=λd=>lp
  have G:∀d:Nat,aB (M.set c.toNat (cW M e.2 F)) d=if c.toNat=d then cW M e.2 F else aB M d:=λd=>lp
  have S:Uw n nd w (λx=>D x∨x=c) (W.set c.toNat (cW W (aN nd) F)) (M.set c.toNat (cW M e.2 F)):=by
   refine⟨by simp[V],by simp[R],λd b h0 o=>?_⟩;rw[A,G];by_cases g:c.toNat=d.toNat
   .rw[l0 g,l0 g];exact⟨jO lz l1,jO l.len l2⟩
   .rw[m6 g,m6 g];exact hw.rw_ d (b.elim id λL=>absurd (by rw[L]) g) h0 o
  obtain⟨O,r2,r3,r4⟩:=FH z g5 S;rw[zS,X];generalize st.foldl (gZ rest nd) (W.set c.toNat (cW W (aN nd) F),M.set c.toNat (cW M e.2 F))=s at O r2 r3 r4;have v:∀d:Int,D d->0<=d->c.toNat≠d.toNat:=λd b h0 L=>g2 (by rw[show c=d by omega];exact b);have keep:∀d:Int,D d->0<=d->aB s.1 d.toNat=aB W d.toNat/\aB s.2 d.toNat=aB M d.toNat:=λd b h0=>by
   have:=r2 d (.inl b) h0;rw[A,G,m6 (v d b h0),m6 (v d b h0)]at this;exact this
  have P:∀t k y,ev t k nd s.1 s.2 y c=Gf.mul t (aM e.2 k)^^^df (ev t k nd W M y) F:=λt k y=>by
   have T:=r2 c (.inr n2) ab.1;rw[A,G,l0 rfl,l0 rfl]at T;unfold ev;rw[T.1,T.2,ID lz l.len l1 l2 t k y,gh _ _ nd λj _=>cJ _ _,wy];rfl
  have B:∀t k y,df (ev t k nd s.1 s.2 y) F=df (ev t k nd W M y) F:=λt k y=>ky λd b=>Bi (keep d (f d b).1 (f d b).2.1).1 (keep d (f d b).1 (f d b).2.1).2;refine⟨⟨O.wl,O.ml,λd b h0 o=>O.rw_ d ?_ h0 o⟩,keep,λp r t k y J=>?_,λt k x y J I hs d b h0 o=>?_⟩
  .rcases b with b|⟨j,hj⟩
   .exact .inl (.inl b)
   .rcases qQ.1 hj with hj|hj
    .injection hj with _ hj;exact .inl (.inr hj)
    .exact .inr ⟨j,hj⟩
  .rcases qQ.1 r with rfl|r
   .dsimp only;rw[Z];unfold Sat;rw[uG _ l.nodup K,<-H,P,B,Aq]
   .exact r3 p r t k y J
  .refine r4 t k x y J (λd b h0 o=>?_) (λp r=>hs p (qt _ r)) d ?_ h0 o
   .by_cases g:d=c
    .subst g;have E:=hs (i,d) n9;dsimp only at E;rw[Z]at E;unfold Sat at E;rw[uG _ l.nodup K,<-H,ky (y:=ev t k nd W M y) λN m=>I N (f N m).1 (f N m).2.1 (f N m).2.2]at E;have h6:ev t k nd (W.set d.toNat (cW W (aN nd) F)) (M.set d.toNat (cW M e.2 F)) y d=Gf.mul t (aM e.2 k)^^^df (ev t k nd W M y) F:=by unfold ev;rw[A,G,l0 n2,l0 n2,ID lz l.len l1 l2 t k y,gh _ _ nd λj _=>cJ _ _,wy];rfl
     rw[h6,<-E,Aq]
    .have m:D d:=b.elim id λL=>absurd L g;rw[I d m h0 o];refine(Bi ?_ ?_).symm
     .rw[A,m6 n3]
     .rw[G,m6 n3]
   .rcases b with b|⟨j,hj⟩
    .exact .inl (.inl b)
    .rcases qQ.1 hj with hj|hj
     .injection hj with _ hj;exact .inl (.inr hj)
     .exact .inr ⟨j,hj⟩
theorem JD:∀{l m:List Nat},l.Nodup->(∀x∈l,x∈m)->n1 l<=n1 m
 |[],_,_,_=>n9
 |x::l,m,hd,h=>by
  rw[vi]at hd;have b:=h x n9;have c:=JD (l:=l) (m:=m.erase x) hd.2 λy a=>(List.mem_erase_of_ne λd:y=x=>hd.1 (by rw[<-d];exact a)).2 (h y E7);rw[List.length_erase_of_mem b]at c;have:=List.length_pos_of_mem b;simp;omega
def nI(nd i:Nat):Row:=(aN nd).set i 1
theorem Xw(nd i:Nat):(nI nd i).length=nd:=by simp[nI,aN]
theorem Xx{nd i:Nat}(a:i<nd)(j:Nat):aM (nI nd i) j=if j=i then 1 else 0:=by rw[nI,Qb (by simpa[aN]using a),cJ]
theorem Xy{nd i:Nat}(a:i<nd)(y:Nat->UInt8):bX (λj=>aM (nI nd i) j) y nd=y i:=
 Eh _ _ i nd a λj _=>by
  rw[Xx a]
  grind
def fZ(n nd w:Nat)(dead:aD):aO×aO:=
 (dead.zipIdx).foldl (λs p=>(s.1.set p.1.toNat (nI nd p.2),s.2.set p.1.toNat (aN w))) (qi n [],qi n [])
theorem GJ(n nd w:Nat)(d:aD)(c:Int):fZ n nd w (d++[c])=((fZ n nd w d).1.set c.toNat (nI nd d.length),(fZ n nd w d).2.set c.toNat (aN w)):=by
 unfold fZ
 grind
theorem IE{n nd w:Nat}{dead:aD}(f:∀c∈dead,0<=c/\c<(n))(j:dead.Nodup):∀k,k<=n1 dead->
  Uw n nd w (·∈dead.take k) (fZ n nd w (dead.take k)).1 (fZ n nd w (dead.take k)).2/\∀i,(m:i<k)->(s:i<n1 dead)->aB (fZ n nd w (dead.take k)).1 dead[i].toNat=nI nd i/\aB (fZ n nd w (dead.take k)).2 dead[i].toNat=aN w
 |0,_=>⟨⟨by simp[fZ],by simp[fZ],λc l=>by simp at l⟩,λi m=>n3⟩
 |k+1,hk=>by
  obtain⟨g,s⟩:=IE (nd:=nd) (w:=w) f j k n3;have d:k<n1 dead:=n3
  have q:=f _ (qf d);have e:dead.take (k+1)=dead.take k++[dead[k]]:=zC d;have p:(dead.take k).length=k:=n7
  rw[e,GJ,p];have u:=g.wl;have t:=g.ml;refine⟨⟨by simp[u],E2,λc l h0 h3=>?_⟩,λi m h=>?_⟩
  .rw[lp,lp];by_cases a:dead[k].toNat=c.toNat
   .rw[l0 a,l0 a];exact⟨Xw _ _,s8⟩
   .rw[m6 a,m6 a];refine g.rw_ c ?_ h0 h3
    grind
  .rw[lp,lp];by_cases b:i=k
   .subst b;simp
   .have o:dead[k]≠dead[i]:=λr=>b ((List.getElem_inj j).1 r).symm;have:=f _ (qf h)
    grind
def iD(nd:Nat)(known:List Bool)(vals:aO)(s:aO×aO):aO×aO:=
 (s.1.mapIdx λc r=>if known.getD c eL then aN nd else r,s.2.mapIdx λc r=>if known.getD c eL then aB vals c else r)
theorem Bj{m:aO}{f:Nat->Row->Row}{c:Nat}(h:c<n1 m):aB (m.mapIdx f) c=f c (aB m c):=by rw[bh oo,bh h];simp
def gQ(V:aO)(r:Row)(a:Row):Nat->Row
 |0=>a
 |c+1=>cL (aM r c) (aB V c) (gQ V r a c)
theorem lL{V:aO}{m:Nat}(r:Row){a:Row}(b:n1 a=m):∀{c:Nat},(∀i,i<c->(aB V i).length=m)->(gQ V r a c).length=m
 |0,_=>b
 |c+1,h=>by
  have:=lL r b (c:=c) λi d=>h i n3;rw[gQ,cm oo];grind
theorem FI{V:aO}{m:Nat}(r:Row){a:Row}(b:n1 a=m)(j:Nat):∀{c:Nat},(∀i,i<c->(aB V i).length=m)->aM (gQ V r a c) j=aM a j^^^bX (λi=>aM r i) (λi=>aM (aB V i) j) c
 |0,_=>by simp[gQ,bX]
 |c+1,h=>by
  have e:=lL r b (c:=c) λi d=>h i n3;rw[gQ,cX oo,FI r b j (c:=c) λi d=>h i n3,bX];ac_rfl
theorem Mq{V:aO}{m:Nat}(r:Row){a:Row}(b:n1 a=m)(y:Nat->UInt8)(n:Nat):∀{c:Nat},(∀i,i<c->(aB V i).length=m)->bX (λj=>aM (gQ V r a c) j) y n=bX (λj=>aM a j) y n^^^bX (λi=>aM r i) (λi=>bX (λj=>aM (aB V i) j) y n) c
 |0,_=>by simp[gQ,bX]
 |c+1,h=>by
  have e:=lL r b (c:=c) λi d=>h i n3;rw[gQ,FG oo,Mq r b y n (c:=c) λi d=>h i n3,bX];ac_rfl
theorem Mr(f g a:Nat->UInt8):∀k,bX f (λi=>g i^^^a i) k=bX f g k^^^bX f a k
 |0=>by simp[bX]
 |k+1=>by rw[bX,bX,bX,Mr f g a k,Gf.jD];ac_rfl
theorem Ms(t:UInt8)(f g:Nat->UInt8):∀k,bX f (λi=>Gf.mul t (g i)) k=Gf.mul t (bX f g k)
 |0=>by simp[bX,Gf.mul_zero]
 |k+1=>by
  rw[bX,bX,Ms t f g k,Gf.jD];rw[<-Gf.mul_assoc,<-Gf.mul_assoc,Gf.mul_comm (f k) t]
theorem Bl{n:Nat}(g:Nat->UInt8):∀{l:aD},(∀x∈l,0<=x/\x<(n:Int))->l.Nodup->bX (λj=>aM (gV n l) j) g n=df (λc=>g c.toNat) l
 |[],_,_=>by
  rw[df];refine gh _ _ n λj _=>?_;rw[FE [] (λx a=>E3) j];simp
 |c::l,h,hd=>by
  rw[vi]at hd;have k:=h c n9;have d:=Bl g (l:=l) (λx a=>h x E7) hd.2;have b:bX (λj=>aM (gV n (c::l)) j) g n=bX (λj=>if(j:Int)∈c::l then 1 else 0) g n:=gE n (λj _=>FE _ h j) λ_ _=>rfl;have e:bX (λj=>aM (gV n l) j) g n=bX (λj=>if(j:Int)∈l then 1 else 0) g n:=gE n (λj _=>FE _ (λx a=>h x E7) j) λ_ _=>rfl;rw[b,df,<-d,e];rw[Md (f:=λj=>if(j:Int)∈l then 1 else 0) (f':=λj=>if(j:Int)∈c::l then 1 else 0) (c:=c.toNat) (by rw[m6];rw[show((c.toNat:Nat):Int)=c by omega];exact hd.1) (λi=>oo),l0 n3]
  ac_rfl
theorem kernel{nd:Nat}{a:aO}(Z:aW nd a)(P:cx a<nd):∃y:Nat->UInt8,(∃i,i<nd/\y i≠0)/\∀r∈a,bX (λj=>aM r j) y nd=0:=by
 have w:=Xs Z;obtain⟨L,S,ab,R,U,⟨p,W,X,p3,V⟩,J⟩:=w;generalize hT:cx a=T at*;generalize (bc a (ez a)).2=rows at*;have u:∃j,j<nd/\∀i,i<T->p i≠j:=by
  have s:∀T nd:Nat,T<nd->∀p:Nat->Nat,(∀i,i<T->p i<nd)->∃j,j<nd/\∀i,i<T->p i≠j:=by
   intro T nd ad p Y;by_cases f:∀j,j<nd->∃i,i<T/\p i=j
   .exfalso;have G:∀j∈qz nd,j∈(qz T).map p:=λj A=>by
     obtain⟨i,l,rfl⟩:=f j (q8.1 A);exact qI.2 ⟨i,q8.2 l,n2⟩
    have:=JD xo G;simp at this;omega
   .simp only[Classical.not_forall,not_exists,not_and]at f;obtain⟨j,A,h⟩:=f;exact⟨j,A,h⟩
  exact s T nd P p W
 obtain⟨j,A,F⟩:=u;have H:∀i e,i<T->e<T->p i=p e->i=e:=λi e n o h3=>by
  rcases Nat.lt_trichotomy i e with h|h|h
  .have:=V i e h o;omega
  .exact h
  .have:=V e i h n;omega
 let y:Nat->UInt8:=λc=>if c=j then 1 else df (λi=>if p i.toNat=c then aM (aB rows i.toNat) j else 0) ((qz T).map λi:Nat=>(i:Int))
 have hy:∀i,i<T->y (p i)=aM (aB rows i) j:=λi l=>by
  show(if p i=j then 1 else _)=_;rw[m6 (F i l)];have O:((qz T).map λi:Nat=>(i:Int)).Nodup:=by exact List.Pairwise.map _ (λa b h v=>h (Int.ofNat_inj.1 v)) xo
  rw[uG _ O (c:=(i:Int)) (qI.2 ⟨i,q8.2 l,n2⟩),CS,wh]
  .simp
  .intro c q;rw[qN]at q;obtain⟨e,t,rfl⟩:=qI.1 q.1;have E:e≠i:=λv=>by subst v;simp at q
   rw[qj,m6 λv=>E (H e i (q8.1 t) l v)]
 have K:∀c,c≠j->(∀i,i<T->p i≠c)->y c=0:=λc q Y=>by
  show(if c=j then 1 else _)=_;rw[m6 q,CS];intro d hd;obtain⟨e,t,rfl⟩:=qI.1 hd;rw[qj,m6 (Y e (q8.1 t))]
 have I:y j=1:=by show(if j=j then 1 else _)=_;rw[l0 rfl]
 refine⟨y,⟨j,A,by rw[I];decide⟩,λr Q=>?_⟩;refine Span.Zg L (λr=>bX (λc=>aM r c) y nd) (gh _ _ nd λc _=>cJ _ _) (λc x z n o=>FG n3 c y nd) (λr P=>?_) ((R r).2 (Span.row Z Q));obtain⟨k,M,rfl⟩:=fX P;by_cases g:k<T
 .--the row's own beginning,and j
  have hf:∀c,c<nd->aM (aB rows k) c=0∨y c=0∨c=p k∨c=j:=λc q=>by
   by_cases n:c=j
   .exact .inr (.inr (.inr n))
   .by_cases o:∃i,i<T/\p i=c
    .obtain⟨i,l,rfl⟩:=o;by_cases D:k=i
     .subst D;exact .inr (.inr (.inl n2))
     .refine .inl ?_;rw[X i l k M,m6 D]
    .exact .inr (.inl (K c n λi l v=>o ⟨i,l,v⟩))
  have N:=W k g;have B:aM (aB rows k) (p k)=1:=by rw[X k g k M,l0 rfl]
  have E:p k≠j:=F k g;have s:∀m,m<=nd->bX (λc=>aM (aB rows k) c) y m=(if p k<m then aM (aB rows k) j else 0)^^^(if j<m then aM (aB rows k) j else 0):=by
   intro m
   induction m with
   |zero=>intro _;simp[bX]
   |succ m ih=>
    intro hm;rw[bX,ih n3];by_cases n:m=p k
    .have ah:m≠j:=n3
     rw[n,B,Gf.one_mul,hy k g];rw[m6 (Nat.lt_irrefl _),l0 (xl _)];by_cases h3:j<p k
     .rw[l0 h3,l0 n3];ac_rfl
     .rw[m6 h3,m6 n3];ac_rfl
    .by_cases o:m=j
     .rw[o,I,Gf.mul_one];rw[m6 (Nat.lt_irrefl j),l0 (xl j),wh];by_cases h3:p k<j
      .rw[l0 h3,l0 n3]
      .rw[m6 h3,m6 n3]
     .have hz:Gf.mul (aM (aB rows k) m) (y m)=0:=by
       rcases hf m n3 with h|h|h|h
       .rw[h,Gf.zero_mul]
       .rw[h,Gf.mul_zero]
       .exact absurd h n
       .exact absurd h o
      rw[hz,wh];have a1:(p k<m+1)↔(p k<m):=n3
      have a2:(j<m+1)↔(j<m):=n3
      simp only[a1,a2]
  rw[s nd (qk _),l0 N,l0 A,mC]
 .exact gh _ _ nd λc q=>J k n3 M c q
def dI(n nd:Nat)(rest:List fm)(W:aO)(left:aD)(ahead:aO):aO:=(left.map λi=>cW W (aN nd) (rest.getD i.toNat ([],[])).1)++ahead.map λr=>gQ W r (aN nd) n
def fF(n w:Nat)(rest:List fm)(M:aO)(left:aD)(ahead:aO):aO:=(left.map λi=>cW M (rest.getD i.toNat ([],[])).2 (rest.getD i.toNat ([],[])).1)++ahead.map λr=>gQ M r (aN w) n
def tU(nd:Nat)(known:List Bool)(vals:aO)(W M D:aO):aO:=vals.mapIdx λc r=>if known.getD c eL then r else gQ D (aB W c) (aB M c) nd
def dK(n:Nat)(l:List fm)(ahead:aO):aO:=ahead++l.map λe=>gV n e.1
def iz(w:Nat)(l:List fm)(ahead:aO):aO:=qi ahead.length (aN w)++l.map zk
def at_(X:aO)(k:Nat)(c:Int):UInt8:=aM (aB X c.toNat) k
section
variable {n w:Nat} {l:List fm} {ahead:aO}
theorem uI(b:aW n ahead):aW n (dK n l ahead):=λr a=>by
 rcases qu.1 a with a|a
 .exact b r a
 .obtain⟨e,_,rfl⟩:=qI.1 a;exact pE _ _
theorem uJ(c:∀e∈l,iW n w e):aW w (iz w l ahead):=λr a=>by
 rcases qu.1 a with a|a
 .rw[(yq.1 a).2];simp[aN]
 .obtain⟨e,b,rfl⟩:=qI.1 a;exact(c e b).len
theorem sU:(dK n l ahead).length=(iz w l ahead).length:=by simp[dK,iz]
theorem Bn(p:∀e∈l,iW n w e){X:aO}:jh n w (dK n l ahead) (iz w l ahead) X↔X.length=n/\aW w X/\∀k,k<w->(∀e∈l,Sat 1 k (at_ X k) e)/\∀r∈ahead,bX (λj=>aM r j) (λc=>aM (aB X c) k) n=0:=by
 refine⟨λ⟨h1,h2,h3⟩=>⟨h1,h2,λk s=>⟨λe f=>?_,λr t=>?_⟩⟩,λ⟨h1,h2,h3⟩=>⟨h1,h2,λi g=>?_⟩⟩
 .obtain⟨i,g,rfl⟩:=qE f;have:=h3 (n1 ahead+i) x7;have a:aB (dK n l ahead) (n1 ahead+i)=gV n l[i].1:=by rw[bh x7];simp[dK]
  have b:aB (iz w l ahead) (n1 ahead+i)=l[i].2:=by rw[bh C7];simp[iz]
  rw[a,b]at this;have m:=congrArg (λr=>aM r k) this;rw[kP h2 h1 _ k n (qk _),Bl _ (p _ f).de (p _ f).nodup]at m;unfold Sat;rw[Gf.one_mul];exact m
 .obtain⟨i,g,rfl⟩:=qE t;have:=h3 i x7;have a:aB (dK n l ahead) i=ahead[i]:=by rw[bh x7];simp[dK,vI g]
  have b:aB (iz w l ahead) i=aN w:=by rw[bh C7];simp[iz,g]
  rw[a,b]at this;have m:=congrArg (λr=>aM r k) this;rw[kP h2 h1 _ k n (qk _),cJ]at m;exact m
 .have h:(aB (iz w l ahead) i).length=w:=bZ (uJ p) (by rw[<-sU (n:=n)];exact g);refine gw (n:=w) (nR h2 h1 _ n (qk _)) h λk s=>?_;rw[kP h2 h1 _ k n (qk _)];simp only[dK,qq,qp]at g;by_cases o:i<n1 ahead
  .have a:aB (dK n l ahead) i=ahead[i]:=by rw[bh x7];simp[dK,vI o]
   have b:aB (iz w l ahead) i=aN w:=by rw[bh C7];simp[iz,o]
   rw[a,b,cJ]
   grind
  .obtain⟨d,rfl⟩:∃d,i=n1 ahead+d:=⟨i-n1 ahead,n3⟩
   have q:d<n1 l:=n3
   have a:aB (dK n l ahead) (n1 ahead+d)=gV n l[d].1:=by rw[bh x7];simp[dK]
   have b:aB (iz w l ahead) (n1 ahead+d)=l[d].2:=by rw[bh C7];simp[iz]
   have f:=p _ (qf q);rw[a,b,Bl _ f.de f.nodup];have:=(h3 k s).1 _ (qf q);unfold Sat at this;rw[Gf.one_mul]at this;exact this
end
structure gN (n w:Nat) (l:List fm) (ahead:aO) (known:List Bool) (vals:aO) (dead left:aD) (W M:aO):Prop where
 eqs:∀e∈l,iW n w e
 ahd:aW n ahead
 pinv:jP n w l known vals
 calm:kz known vals l=eL
 deadR:∀c∈dead,0<=c/\c<(n:Int)
 deadN:dead.Nodup
 deadK:∀c∈dead,kn known c=eL
 lens:n1 W=n/\M.length=n/\∀c:Nat,c<n->(aB W c).length=n1 dead/\(aB M c).length=w
 evKnown:∀t k y,∀c:Int,0<=c->c<(n:Int)->kn known c=eH->ev t k dead.length W M y c=Gf.mul t (aM (aB vals c.toNat) k)
 evDead:∀t k y,∀i,(h:i<n1 dead)->ev t k dead.length W M y dead[i]=y i
 evRest:∀t k y,k<w->(∀i∈left,Sat t k (ev t k dead.length W M y) ((ba known vals l).getD i.toNat ([],[])))->∀e∈ba known vals l,Sat t k (ev t k dead.length W M y) e
 leftR:∀i∈left,0<=i/\i<((ba known vals l).length:Int)
 evAll:∀t k x,k<w->(∀c:Int,0<=c->c<(n:Int)->kn known c=eH->x c=Gf.mul t (aM (aB vals c.toNat) k))->(∀e∈ba known vals l,Sat t k x e)->∀c:Int,0<=c->c<(n:Int)->x c=ev t k dead.length W M (λi=>x (dead.getD i 0)) c
section
variable {n w:Nat} {l:List fm} {ahead:aO} {known:List Bool} {vals:aO} {dead left:aD} {W M:aO}
theorem ou(h:jP n w l known vals)(d:∀e∈l,iW n w e):∀e∈ba known vals l,iW n w e:=λe b=>by
 obtain⟨c,a,rfl⟩:=qI.1 (qN.1 b).1;exact h.Au (d c a)
theorem wc{a b:UInt8}:a^^^b=0↔a=b:=oM
theorem gN.Mu(S:gN n w l ahead known vals dead left W M){i:Int}(p:i∈left)(t:UInt8)(k:Nat)(y:Nat->UInt8):
  bX (λj=>aM (cW W (aN dead.length) ((ba known vals l).getD i.toNat ([],[])).1) j) y dead.length=Gf.mul t (aM (cW M ((ba known vals l).getD i.toNat ([],[])).2 ((ba known vals l).getD i.toNat ([],[])).1) k)↔Sat t k (ev t k dead.length W M y) ((ba known vals l).getD i.toNat ([],[])):=by
 have g:=S.leftR i p;have d:i.toNat<(ba known vals l).length:=n3
 have m:(ba known vals l).getD i.toNat ([],[])=(ba known vals l)[i.toNat]:=oo
 have a:=ou S.pinv S.eqs _ (qf d);rw[m];generalize (ba known vals l)[i.toNat]=e at*;have h:(aN dead.length).length=n1 dead:=s8
 have o:∀c∈e.1,(aB W c.toNat).length=n1 dead:=λc b=>((S.lens.2.2 c.toNat) (by have:=a.de c b;omega)).1;have f:∀c∈e.1,(aB M c.toNat).length=w:=λc b=>((S.lens.2.2 c.toNat) (by have:=a.de c b;omega)).2;have:=ID h a.len o f t k y;rw[gh _ _ dead.length λj _=>cJ _ _,wy]at this;rw[<-wc,this];rw[wc];exact eq_comm
theorem gN.JE(S:gN n w l ahead known vals dead left W M)(r:Row)(t:UInt8)(k:Nat)(y:Nat->UInt8):
  bX (λj=>aM (gQ W r (aN dead.length) n) j) y dead.length=Gf.mul t (aM (gQ M r (aN w) n) k)↔bX (λj=>aM r j) (λc=>ev t k dead.length W M y (c:Int)) n=0:=by
 have e:=Mq (V:=W) (m:=n1 dead) r (a:=aN dead.length) s8 y dead.length (c:=n) λi b=>(S.lens.2.2 i b).1;have d:=FI (V:=M) (m:=w) r (a:=aN w) s8 k (c:=n) λi b=>(S.lens.2.2 i b).2;rw[e,d,gh _ _ dead.length λj _=>cJ _ _,cJ,wy,wy,<-wc,<-Ms,<-Mr];rfl
theorem gN.up(S:gN n w l ahead known vals dead left W M){t:UInt8}{k:Nat}{y:Nat->UInt8}(g:k<w)
  (f:∀i,i<(dI n dead.length (ba known vals l) W left ahead).length->bX (λj=>aM (aB (dI n dead.length (ba known vals l) W left ahead) i) j) y dead.length=Gf.mul t (aM (aB (fF n w (ba known vals l) M left ahead) i) k)):
  (∀e∈l,Sat t k (ev t k dead.length W M y) e)/\∀r∈ahead,bX (λj=>aM r j) (λc=>ev t k dead.length W M y (c:Int)) n=0:=by
 refine⟨(Mk S.pinv S.eqs S.calm g).2 ⟨λc h0 m o=>S.evKnown t k y c h0 m o,S.evRest t k y g λi h=>?_⟩,λr p=>?_⟩
 .obtain⟨j,d,rfl⟩:=qE h;have:=f j A0;have a:aB (dI n dead.length (ba known vals l) W left ahead) j=cW W (aN dead.length) ((ba known vals l).getD left[j].toNat ([],[])).1:=by rw[bh A0];simp[dI,d]
  have b:aB (fF n w (ba known vals l) M left ahead) j=cW M ((ba known vals l).getD left[j].toNat ([],[])).2 ((ba known vals l).getD left[j].toNat ([],[])).1:=by rw[bh C8];simp[fF,d]
  rw[a,b]at this;exact(S.Mu h t k y).1 this
 .obtain⟨j,d,rfl⟩:=qE p;have:=f (n1 left+j) A0;have a:aB (dI n dead.length (ba known vals l) W left ahead) (n1 left+j)=gQ W ahead[j] (aN dead.length) n:=by rw[bh A0];simp[dI]
  have b:aB (fF n w (ba known vals l) M left ahead) (n1 left+j)=gQ M ahead[j] (aN w) n:=by rw[bh C8];simp[fF]
  rw[a,b]at this;exact(S.JE _ t k y).1 this
theorem gN.down(S:gN n w l ahead known vals dead left W M){t:UInt8}{k:Nat}{x:Int->UInt8}(p:k<w)(z:∀e∈l,Sat t k x e)(D:∀r∈ahead,bX (λj=>aM r j) (λc=>x (c:Int)) n=0):
  (∀c:Int,0<=c->c<(n:Int)->x c=ev t k dead.length W M (λi=>x (dead.getD i 0)) c)/\
  ∀i,i<(dI n dead.length (ba known vals l) W left ahead).length->bX (λj=>aM (aB (dI n dead.length (ba known vals l) W left ahead) i) j) (λi=>x (dead.getD i 0)) dead.length=Gf.mul t (aM (aB (fF n w (ba known vals l) M left ahead) i) k):=by
 obtain⟨y,s⟩:=(Mk S.pinv S.eqs S.calm p).1 z;have g:=S.evAll t k x p y s;refine⟨g,λi A=>?_⟩;simp only[dI,qq,qp]at A;by_cases a:i<n1 left
 .have m:aB (dI n dead.length (ba known vals l) W left ahead) i=cW W (aN dead.length) ((ba known vals l).getD left[i].toNat ([],[])).1:=by rw[bh A0];simp[dI,a]
  have o:aB (fF n w (ba known vals l) M left ahead) i=cW M ((ba known vals l).getD left[i].toNat ([],[])).2 ((ba known vals l).getD left[i].toNat ([],[])).1:=by rw[bh C8];simp[fF,a]
  rw[m,o];refine(S.Mu (qf a) t k _).2 ?_;have v:=S.leftR _ (qf a);have b:left[i].toNat<(ba known vals l).length:=n3
  have B:(ba known vals l).getD left[i].toNat ([],[])=(ba known vals l)[left[i].toNat]:=oo
  rw[B];have q:=s _ (qf b);have f:=ou S.pinv S.eqs _ (qf b);unfold Sat at q⊢;rw[<-q];exact ky λc h=>(g c (f.de c h).1 (f.de c h).2).symm
 .obtain⟨d,rfl⟩:∃d,i=n1 left+d:=⟨i-n1 left,n3⟩
  have u:d<n1 ahead:=n3
  have m:aB (dI n dead.length (ba known vals l) W left ahead) (n1 left+d)=gQ W ahead[d] (aN dead.length) n:=by rw[bh A0];simp[dI]
  have o:aB (fF n w (ba known vals l) M left ahead) (n1 left+d)=gQ M ahead[d] (aN w) n:=by rw[bh C8];simp[fF]
  rw[m,o];refine(S.JE _ t k _).2 ?_;rw[<-D _ (qf u)];exact gE n (λ_ _=>rfl) λc h=>(g (c:Int) n3 n3).symm
theorem oS(S:gN n w l ahead known vals dead left W M):aW dead.length (dI n dead.length (ba known vals l) W left ahead)/\aW w (fF n w (ba known vals l) M left ahead):=by
 have d:∀i∈left,iW n w ((ba known vals l).getD i.toNat ([],[])):=λi b=>by
  have h:=S.leftR i b;have e:i.toNat<(ba known vals l).length:=n3
  rw[qg,qd e];exact ou S.pinv S.eqs _ (qf e)
 constructor
 .intro r a;rcases qu.1 a with a|a
  .obtain⟨i,b,rfl⟩:=qI.1 a;exact jO s8 λc f=>((S.lens.2.2 c.toNat) (by have:=(d i b).de c f;omega)).1
  .obtain⟨x,g,rfl⟩:=qI.1 a;exact lL x s8 λi b=>(S.lens.2.2 i b).1
 .intro r a;rcases qu.1 a with a|a
  .obtain⟨i,b,rfl⟩:=qI.1 a;exact jO (d i b).len λc f=>((S.lens.2.2 c.toNat) (by have:=(d i b).de c f;omega)).2
  .obtain⟨x,g,rfl⟩:=qI.1 a;exact lL x s8 λi b=>(S.lens.2.2 i b).2
theorem uK:(dI n dead.length (ba known vals l) W left ahead).length=(fF n w (ba known vals l) M left ahead).length:=by simp[dI,fF]
theorem gN.IC(S:gN n w l ahead known vals dead left W M)(V:1<=w)(f:cx (dK n l ahead)=n):cx (dI n dead.length (ba known vals l) W left ahead)=n1 dead:=by
 obtain⟨G,Y⟩:=oS S;have O:=CL G;by_cases z:cx (dI n dead.length (ba known vals l) W left ahead)<n1 dead
 .exfalso;obtain⟨y,⟨i,b,P⟩,I⟩:=kernel G z;have o:=S.up (t:=0) (k:=0) (y:=y) V λi b=>by rw[I _ (mem_row b),Gf.zero_mul]
  have H:=uI (l:=l) S.ahd;have u:aW 1 (qi (dK n l ahead).length (aN 1)):=λr f=>by rw[(yq.1 f).2];simp[aN]
  have d:(dK n l ahead).length=(qi (dK n l ahead).length (aN 1)).length:=n9
  have N:jh n 1 (dK n l ahead) (qi (dK n l ahead).length (aN 1)) (qi n (aN 1)):=by
   have a:aW 1 (qi n (aN 1)):=λr f=>by rw[(yq.1 f).2];simp[aN]
   refine⟨n9,a,λi b=>?_⟩;refine gw (n:=1) (nR a n9 _ n (qk _)) (bZ u v8) λk J=>?_;rw[kP a n9 _ k n (qk _)];have A:aB (qi (dK n l ahead).length (aN 1)) i=aN 1:=by rw[bh v8];simp
   rw[A,cJ];have:∀g,g<=n->bX (λj=>aM (aB (dK n l ahead) i) j) (λc=>aM (aB (qi n (aN 1)) c) k) g=0:=by
    intro g
    induction g with
    |zero=>intro _;rfl
    |succ g ih=>
     intro U;have R:aB (qi n (aN 1)) g=aN 1:=by rw[bh n7];simp
     rw[bX,ih n3,R,cJ,Gf.mul_zero];rfl
   exact this n (qk _)
  have Q:jh n 1 (dK n l ahead) (qi (dK n l ahead).length (aN 1)) ((qz n).map λc:Nat=>[ev 0 0 dead.length W M y (c:Int)]):=by
   have a:aW 1 ((qz n).map λc:Nat=>[ev 0 0 dead.length W M y (c:Int)]):=λr f=>by obtain⟨c,_,rfl⟩:=qI.1 f;rfl
   have h:∀c:Nat,c<n->aB ((qz n).map λc:Nat=>[ev 0 0 dead.length W M y (c:Int)]) c=[ev 0 0 dead.length W M y (c:Int)]:=λc p=>by rw[bh (by simpa using p)];simp
   refine⟨n9,a,λi b=>?_⟩;refine gw (n:=1) (nR a n9 _ n (qk _)) (bZ u v8) λk J=>?_;have F:k=0:=n3
   subst F;rw[kP a n9 _ 0 n (qk _)];have A:aB (qi (dK n l ahead).length (aN 1)) i=aN 1:=by rw[bh v8];simp
   rw[A,cJ];have T:bX (λj=>aM (aB (dK n l ahead) i) j) (λc=>aM (aB ((qz n).map λc:Nat=>[ev 0 0 dead.length W M y (c:Int)]) c) 0) n=bX (λj=>aM (aB (dK n l ahead) i) j) (λc=>ev 0 0 dead.length W M y (c:Int)) n:=
    gE n (λ_ _=>rfl) λc p=>by rw[h c p];rfl
   rw[T];have v:aB (dK n l ahead) i∈ahead++l.map λe=>gV n e.1:=mem_row b;obtain E|E:=qu.1 v
   .exact o.2 _ E
   .obtain⟨e,s,D⟩:=qI.1 E;rw[<-D,Bl _ (S.eqs e s).de (S.eqs e s).nodup];have B:=o.1 e s;unfold Sat at B;rw[Gf.zero_mul]at B;refine Eq.trans (ky λc p=>?_) B;have:=(S.eqs e s).de c p;rw[show((c.toNat:Nat):Int)=c by omega]
  have X:=(sA d H u f N).1;have K:=(sA d H u f Q).1;have x:=K.trans X.symm;have L:=S.deadR _ (qf b);have q:=congrArg (λm=>aM (aB m dead[i].toNat) 0) x;rw[bh n7,bh n7]at q;simp only[List.getElem_map,List.getElem_range,List.getElem_replicate,cJ]at q;rw[show((dead[i].toNat:Nat):Int)=dead[i]by omega]at q;have h8:aM [ev 0 0 dead.length W M y dead[i]] 0=ev 0 0 dead.length W M y dead[i]:=rfl;rw[h8,S.evDead 0 0 y i b]at q;exact P q
 .omega
theorem IF(S:gN n w l ahead known vals dead left W M){D:aO}(g:n1 D=n1 dead)(f:aW w D){c:Nat}(d:c<n):
  (aB (tU dead.length known vals W M D) c).length=w/\∀k,aM (aB (tU dead.length known vals W M D) c) k=ev 1 k dead.length W M (λi=>aM (aB D i) k) (c:Int):=by
 have h:=S.pinv.vlen;have a:aB (tU dead.length known vals W M D) c=if known.getD c eL then aB vals c else gQ D (aB W c) (aB M c) dead.length:=by unfold tU;rw[Bj n3]
 have e:=S.lens.2.2 c d;rw[a];cases hkn:known.getD c eL with
 |true=>
  rw[l0 rfl];refine⟨by have:=S.pinv.row c d;rw[hkn]at this;simpa using this,λk=>?_⟩;have:=S.evKnown 1 k (λi=>aM (aB D i) k) (c:Int) n3 n3 (by unfold kn;rw[qj];exact hkn);rw[this,qj,Gf.one_mul]
 |false=>
  rw[m6 n9];have b:∀i,i<n1 dead->(aB D i).length=w:=λi j=>bZ f;refine⟨lL _ e.2 b,λk=>?_⟩;rw[FI _ e.2 k b];unfold ev;rw[qj,Gf.one_mul,vX]
theorem aai(h:n1 vals=n){D:aO}:(tU dead.length known vals W M D).length=n:=by simp[tU,h]
theorem gN.RW(S:gN n w l ahead known vals dead left W M){D:aO}(p:jh dead.length w (dI n dead.length (ba known vals l) W left ahead) (fF n w (ba known vals l) M left ahead) D):jh n w (dK n l ahead) (iz w l ahead) (tU dead.length known vals W M D):=by
 obtain⟨a,d,g⟩:=p;obtain⟨u,v⟩:=oS S;have f:=aai (dead:=dead) (known:=known) (W:=W) (M:=M) S.pinv.vlen (D:=D);refine(Bn S.eqs).2 ⟨f,λr h=>?_,λk o=>?_⟩
 .obtain⟨c,b,rfl⟩:=fX h;exact(IF S a d n3).1
 .have m:=S.up (t:=1) (k:=k) (y:=λi=>aM (aB D i) k) o λi q=>by
   have:=congrArg (λr=>aM r k) (g i q);rw[kP d a _ k dead.length (qk _)]at this;rw[this,Gf.one_mul]
  refine⟨λe j=>?_,λr h=>?_⟩
  .have h3:=m.1 e j;unfold Sat at h3⊢;rw[<-h3];refine ky λc b=>?_;have s:=(S.eqs e j).de c b;unfold at_;rw[(IF S a d (show c.toNat<n by omega)).2 k,show((c.toNat:Nat):Int)=c by omega]
  .rw[<-m.2 r h];exact gE n (λ_ _=>rfl) λc b=>(IF S a d b).2 k
theorem gN.Oj(S:gN n w l ahead known vals dead left W M){X:aO}(p:jh n w (dK n l ahead) (iz w l ahead) X):jh dead.length w (dI n dead.length (ba known vals l) W left ahead) (fF n w (ba known vals l) M left ahead) (dead.map λc=>aB X c.toNat):=by
 obtain⟨u,o,f⟩:=(Bn S.eqs).1 p;obtain⟨s,q⟩:=oS S;have e:aW w (dead.map λc=>aB X c.toNat):=λr d=>by
  obtain⟨c,g,rfl⟩:=qI.1 d;have:=S.deadR c g;exact bZ o
 have b:(dead.map λc=>aB X c.toNat).length=n1 dead:=n9
 refine⟨b,e,λi h=>gw (n:=w) (nR e b _ _ (qk _)) (bZ q (by rw[<-uK (n:=n) (w:=w)];exact h)) λk a=>?_⟩;rw[kP e b _ k dead.length (qk _)];have h3:=(S.down (t:=1) (x:=at_ X k) a (f k a).1 (λr d=>by
  have:=(f k a).2 r d;rw[<-this];exact gE n (λ_ _=>rfl) λc g=>by unfold at_;rw[qj])).2 i h
 rw[Gf.one_mul]at h3;rw[<-h3];refine gE _ (λ_ _=>rfl) λj m=>?_;unfold at_;rw[bh D2,qg,qd m];simp
end
def iw(known:List Bool)(i:Nat):cR:=((qz i).filter λc=>known.getD c eL).map λc:Nat=>[(c:Int)]
theorem IG(known:List Bool)(i:Nat):iw known (i+1)=iw known i++if known.getD i eL then[[(i:Int)]]else[]:=by
 unfold iw;rw[List.range_succ,]
 grind
theorem BS(known:List Bool)(i:Nat):(iw known i).length<=i:=by
 unfold iw
 grind
def rowsOf(R:List fm)(known:List Bool)(n:Nat):cR:=R.map qF++iw known n
def gK(R:List fm)(known:List Bool)(n:Nat):Pl:=eN n (rowsOf R known n)
def mW(R:List fm)(known:List Bool)(n:Nat):List (Int×Int):=(gK R known n).steps.filter λx=>decide (x.1<n1 R)
def leftOf(R:List fm)(known:List Bool)(n:Nat):aD:=(fO (gK R known n).used (rowsOf R known n).length).filter λx=>decide (x<n1 R)
theorem uL{known:List Bool}{n:Nat}{r:aD}(h:r∈iw known n):∃c:Nat,r=[(c:Int)]/\c<n/\known.getD c eL=eH:=by
 obtain⟨c,a,rfl⟩:=qI.1 h
 grind
theorem Db{rows:cR}:∀{a:List (Int×Int)} {D U:Int->Prop},rH rows D U a->∀i c,(i,c)∈a->(0<=i/\i<n1 rows)/\c∈rows.getD i.toNat []
 |[],_,_,_,_,_,h=>t7
 |(i',c')::t,D,U,hg,i,c,h=>by
  obtain⟨e,_,_,d,_,b⟩:=hg;rcases qQ.1 h with h|h
  .grind
  .exact Db b i c h
section
variable {n w:Nat} {l:List fm} {ahead:aO} {known:List Bool} {vals:aO}
theorem sV(g:∀e∈ba known vals l,iW n w e):∀r∈rowsOf (ba known vals l) known n,∀c∈r,0<=c/\c<(n:Int):=λr a c b=>by
 rcases qu.1 a with a|a
 .obtain⟨e,f,rfl⟩:=qI.1 a;exact(g e f).de c b
 .obtain⟨d,rfl,h,_⟩:=uL a
  grind
theorem JF(j:∀e∈l,iW n w e)(f:jP n w l known vals):rI ((ba known vals l).map qF) (·∈(gK (ba known vals l) known n).dead) (mW (ba known vals l) known n):=by
 have k:=ou f j;obtain⟨_,_,_,_,_,g⟩:=tR (sV k);have:=vZ (R:=(ba known vals l).map qF) (S:=iw known n) (K:=λc=>kn known c=eH) (λr a c b=>?_) (λr a c b=>?_) g (D':=(·∈(gK (ba known vals l) known n).dead)) λc _=>Iff.rfl
 .rw[qp]at this;exact this
 .obtain⟨e,h,rfl⟩:=qI.1 a;obtain⟨i,m,rfl⟩:=qI.1 (qN.1 h).1;rw[CV f i c b];simp
 .obtain⟨d,rfl,_,o⟩:=uL a;unfold kn;grind
theorem GK(j:∀e∈l,iW n w e)(k:jP n w l known vals):
  (∀c∈(gK (ba known vals l) known n).dead,0<=c/\c<(n:Int))/\(gK (ba known vals l) known n).dead.Nodup/\(∀c∈(gK (ba known vals l) known n).dead,kn known c=eL)/\
  (∀i∈leftOf (ba known vals l) known n,0<=i/\i<((ba known vals l).length:Int))/\(gK (ba known vals l) known n).dead.length<=n:=by
 have m:=ou k j;obtain⟨q,p,a3,a4,a5,g⟩:=tR (sV m);refine⟨a3,a4,λc h=>?_,λi a=>?_,by unfold gK;omega⟩
 .have f:=a3 c h;cases hk:kn known c with
  |false=>rfl
  |true=>
   exfalso;have b:[c]∈rowsOf (ba known vals l) known n:=qu.2 (.inr (qI.2 ⟨c.toNat,qN.2 ⟨q8.2 n3,hk⟩,oo⟩));exact Bh b n (qi n eH) (qi _ eL) (λi a=>by rw[CY]at a;cases a) (λd o b=>by have:=a3 d b;omega) f.1 h
 .unfold leftOf at a;rw[qN]at a;have:=a5 i a.1
  grind
theorem Xz(m:∀e∈l,iW n w e)(o:jP n w l known vals){c:Int}(u:0<=c)(t:c<(n:Int))(b:kn known c=eL):c∈(gK (ba known vals l) known n).dead∨∃i,(i,c)∈mW (ba known vals l) known n:=by
 have j:=ou o m;obtain⟨_,_,_,_,_,g⟩:=tR (sV j);have a:=Da (sV j) n (qi n eH) (qi (rowsOf (ba known vals l) known n).length eL) n9 n9 c.toNat oo;rw[show((c.toNat))=c by omega]at a;rcases a with a|⟨i,a⟩
 .exact .inl a
 .refine .inr ⟨i,qN.2 ⟨a,?_⟩⟩;obtain⟨s,h⟩:=Db g i c a;by_cases p:i<((ba known vals l).length)
  .simpa using p
  .have q:=s.2;rw[rowsOf,]at q;have r:(rowsOf (ba known vals l) known n).getD i.toNat []∈iw known n:=by rw[rowsOf,qg,ql B5,qd oo];simp
   obtain⟨d,k,_,f⟩:=uL r;rw[k,qA]at h;subst h;unfold kn at b;rw[qj,f]at b;cases b
def Ld(n w:Nat)(known:List Bool)(vals:aO)(R:List fm):aO×aO:=
 iD (gK R known n).dead.length known vals ((mW R known n).foldl (gZ R (gK R known n).dead.length) (fZ n (gK R known n).dead.length w (gK R known n).dead))
theorem XA{nd:Nat}{s:aO×aO}{c:Int}(d:0<=c)(b:c.toNat<n1 s.1)(a:c.toNat<n1 s.2):
  aB (iD nd known vals s).1 c.toNat=(if kn known c then aN nd else aB s.1 c.toNat)/\aB (iD nd known vals s).2 c.toNat=if kn known c then aB vals c.toNat else aB s.2 c.toNat:=by
 unfold iD kn;exact⟨Bj b,Bj a⟩
theorem XB(F:∀e∈l,iW n w e)(hA:aW n ahead)(A:jP n w l known vals)(S:kz known vals l=eL):
  gN n w l ahead known vals (gK (ba known vals l) known n).dead (leftOf (ba known vals l) known n) (Ld n w known vals (ba known vals l)).1 (Ld n w known vals (ba known vals l)).2:=by
 have J:=ou A F;have U:=JF F A;have a:=λc h0 f o=>Xz (c:=c) F A h0 f o;obtain⟨I,N,M,f4,f5⟩:=GK F A;have b:∀j:Nat,j<(ba known vals l).length->(∃c,((j:Int),c)∈mW (ba known vals l) known n)∨(j:Int)∈leftOf (ba known vals l) known n:=λj X=>by
  cases hu:(gK (ba known vals l) known n).used.getD j eL with
  |true=>
   rcases CZ n (qi n eH) (qi _ eL) j hu with h|⟨c,h⟩
   .rw[CY]at h;cases h
   .exact .inl ⟨c,qN.2 ⟨h,n7⟩⟩
  |false=>exact .inr (qN.2 ⟨(Bg _ _ _).2 ⟨j,n2,by rw[rowsOf,qq,qp];omega,hu⟩,n7⟩)
 have s:∀e∈ba known vals l,∀c∈e.1,kn known c=eL:=λe z c O=>by
  obtain⟨e0,ad,rfl⟩:=qI.1 (qN.1 z).1;exact CV A e0 c O
 unfold Ld;obtain⟨R,m⟩:=I3 (ba known vals l)
 rw[<-m]at J U I N M f4 f5 b a s⊢;obtain⟨D,Q⟩:=I3 ((gK R known n).dead)
 obtain⟨ST,q⟩:=I3 (mW R known n)
 rw[<-Q,<-q]at U a;rw[<-q]at b;rw[<-Q]at I N M f5;rw[<-Q,<-q];obtain⟨dk,Y⟩:=IE (nd:=n1 D) (w:=w) I N D.length (qk _);rw[List.take_length]at dk Y;obtain⟨v,keep,T,E⟩:=FH J U dk;generalize ab:ST.foldl (gZ R D.length) (fZ n D.length w D)=S0 at*;have W:=v.wl;have V:=v.ml;have fr:∀c:Int,0<=c->c<(n:Int)->aB (iD D.length known vals S0).1 c.toNat=(if kn known c then aN D.length else aB S0.1 c.toNat)/\aB (iD D.length known vals S0).2 c.toNat=if kn known c then aB vals c.toNat else aB S0.2 c.toNat:=λc h0 f=>XA h0 n3 n3
 have u:∀t k y (c:Int),0<=c->c<(n:Int)->kn known c=eL->ev t k D.length (iD D.length known vals S0).1 (iD D.length known vals S0).2 y c=ev t k D.length S0.1 S0.2 y c:=λt k y c h0 f o=>by
  have:=fr c h0 f;rw[o]at this;exact Bi this.1 this.2
 have G:∀t k y (c:Int),0<=c->c<(n:Int)->kn known c=eH->ev t k D.length (iD D.length known vals S0).1 (iD D.length known vals S0).2 y c=Gf.mul t (aM (aB vals c.toNat) k):=λt k y c h0 f o=>by
  have:=fr c h0 f;rw[o,l0 rfl,l0 rfl]at this;unfold ev;rw[this.1,this.2,gh _ _ D.length λj _=>cJ _ _,wy]
 have K:∀t k y i,(h:i<n1 D)->ev t k D.length (fZ n D.length w D).1 (fZ n D.length w D).2 y D[i]=y i:=λt k y i h=>by
  have:=Y i h h;unfold ev;rw[this.1,this.2,Xy h,cJ,Gf.mul_zero,wh]
 have L:∀i:Int,0<=i->i<(n1 R:Int)->R.getD i.toNat ([],[])∈R:=λi h0 f=>by
  rw[qg,qd n3];exact qf _
 refine⟨F,hA,A,S,I,N,M,⟨by simp[iD,W],by simp[iD,V],λc O=>?_⟩,G,λt k y i h=>?_,λt k y o H e z=>?_,by rw[<-m];exact f4,λt k x o hx H c h0 f=>?_⟩
 .have h:=fr (c:Int) n3 n3;rw[qj]at h;rw[h.1,h.2];cases o:kn known (c:Int)with
  |true=>
   rw[l0 n2,l0 rfl];refine⟨s8,?_⟩;have:=A.CT (c:=(c:Int)) n3 n3 o
   rwa [qj]at this
  |false=>
   rw[m6 n9,m6 n9];have:=v.rw_ (c:Int) (a _ n3 n3 o) n3 n3
   rwa [qj]at this
 .have P:=I _ (qf h);rw[u t k y _ P.1 P.2 (M _ (qf h)),<-K t k y i h];exact Bi (keep _ (qf h) P.1).1 (keep _ (qf h) P.1).2
 .rw[<-m]at z H;obtain⟨j,X,rfl⟩:=qE z;have ej:R.getD ((j:Int)).toNat ([],[])=R[j]:=by rw[qj,qg,qd X];rfl
  rcases b j X with⟨c,O⟩|hlf
  .have:=T _ O t k y o;dsimp only at this;rw[ej]at this;unfold Sat at this⊢;rw[<-this];exact ky λd B=>u t k y d ((J _ z).de d B).1 ((J _ z).de d B).2 (s _ z d B)
  .have:=H _ hlf
   rwa [ej]at this
 .rw[<-m]at H;cases hkc:kn known c with
  |true=>rw[hx c h0 f hkc,G _ _ _ c h0 f hkc]
  |false=>
   rw[u _ _ _ c h0 f hkc];refine E t k x _ o (λd B Z h3=>?_) (λp hp=>?_) c (a c h0 f hkc) h0 f
   .obtain⟨i,hi,rfl⟩:=qE B;rw[K t k _ i hi,qg,qd hi];rfl
   .have r:p∈mW R known n:=q▸hp;unfold mW at r;rw[qN]at r;have Z:p.1<(n1 R:Int):=by simpa using r.2
    have h3:0<=p.1:=by obtain⟨_,_,_,_,_,g⟩:=tR (rows:=rowsOf R known n) (n:=n) (by rw[m];exact sV (m▸J));exact(Db g p.1 p.2 r.1).1.1
    exact H _ (L _ h3 Z)
end
def sE(n:Nat)(seed:Int)(l:List (Int×Row)):List fm:=l.map λx=>(ey n seed x.1,x.2)
def mG(p:Int×Int×Int)(l:List (Int×Row)):aO:=qi p.2.1.toNat (aN p.2.2.toNat)++l.map zk
structure Eo (p:Int×Int×Int) (x:Int×Row):Prop where
 id:bQ x.1=eH
 len:n1 x.2=p.2.2.toNat
theorem aaj{n:Nat}(d:1<=n)(c:n<=20)(seed id:Int):(ey n seed id).Pairwise (·<·):=by have a:=Oe n seed id;have b:=GG d c seed id;exact(a.and b).imp λ⟨d,c⟩=>n3
section
variable {p:Int×Int×Int} {seed:Int} {l:List (Int×Row)} {n w:Nat}
theorem abU(b:1<=n)(a:n<=20)(h:∀x∈l,Eo p x)(i:p.2.2.toNat=w):∀e∈sE n seed l,iW n w e/\e.1.Pairwise (·<·):=λe g=>by
 obtain⟨x,d,rfl⟩:=qI.1 g;exact⟨⟨λc f=>kq b a f,GG b a seed x.1,by rw[<-i];exact(h x d).len⟩,aaj b a seed x.1⟩
theorem RX(c:bJ p=eH)(d:(bE p).toNat=n)(b:∀x∈l,Eo p x):dK n (sE n seed l) (bz p.1.toNat p.2.1.toNat)=eG p seed (l.map qF):=by
 unfold dK eG sE;rw[l0 c,d];have:(l.map qF).filter bQ=l.map qF:=yX.2 λi e=>by
  obtain⟨x,a,rfl⟩:=qI.1 e;exact(b x a).id
 rw[this,vf,vf];rfl
theorem RY(a:p.2.2.toNat=w):iz w (sE n seed l) (bz p.1.toNat p.2.1.toNat)=mG p l:=by unfold iz mG sE;rw[a,];simp[bz]
end
section
variable {n w:Nat} {l:List fm} {ahead:aO} {known:List Bool} {vals:aO} {dead left:aD} {W M:aO}
theorem Ux(a:∀e∈l,iW n w e)(g:aW n ahead)(i:jP n w l known vals)(b:kz known vals l=eH)(j:cx (dK n l ahead)=n):¬jc n (dK n l ahead) (iz w l ahead):=λf=>by
 obtain⟨k,h,c⟩:=RU i a b;have d:=sB sU (uI g) (uJ a) j f;exact c _ (((Bn a).1 d).2.2 k h).1
theorem gN.Qg(S:gN n w l ahead known vals dead left W M)(b:cx (dK n l ahead)=n){D:aO}(a:jh dead.length w (dI n dead.length (ba known vals l) W left ahead) (fF n w (ba known vals l) M left ahead) D):
  jc n (dK n l ahead) (iz w l ahead)/\tU dead.length known vals W M D=eS n (dK n l ahead) (iz w l ahead):=by
 have h:=sA sU (uI S.ahd) (uJ S.eqs) b (S.RW a)
 grind
theorem gN.Qh(S:gN n w l ahead known vals dead left W M)(b:cx (dK n l ahead)=n)(a:jc n (dK n l ahead) (iz w l ahead)):jh dead.length w (dI n dead.length (ba known vals l) W left ahead) (fF n w (ba known vals l) M left ahead) (dead.map λc=>aB (eS n (dK n l ahead) (iz w l ahead)) c.toNat):=
 S.Oj (sB sU (uI S.ahd) (uJ S.eqs) b a)
theorem gN.RZ(S:gN n w l ahead known vals dead left W M)(f:1<=w)(c:cx (dK n l ahead)=n):jc dead.length (dI n dead.length (ba known vals l) W left ahead) (fF n w (ba known vals l) M left ahead)↔jc n (dK n l ahead) (iz w l ahead):=by obtain⟨d,e⟩:=oS S;have a:=S.IC f c;exact⟨λb=>(S.Qg c (sB uK d e a b)).1,λb=>(sA uK d e a (S.Qh c b)).2⟩
theorem GL{a b:aO}(h:n1 a=n1 b):jh 0 w a b []↔∀r∈b,r=aN w:=by
 constructor
 .rintro⟨_,_,h3⟩ r c;obtain⟨i,e,rfl⟩:=fX c;exact(h3 i n3).symm
 .intro d;refine⟨n2,λr c=>(by cases c),λi e=>?_⟩;have:aB b i∈b:=mem_row;rw[d _ this];rfl
theorem aak(d:∀e∈l,e.1.Pairwise (·<·)):∀e∈ba known vals l,e.1.Pairwise (·<·):=λe b=>by
 obtain⟨c,a,rfl⟩:=qI.1 (qN.1 b).1;exact(d c a).filter _
theorem Uy:(ba known vals l).length<=n1 l:=by
 unfold ba
 grind
theorem Uz{m:Nat}(d:∀e∈l,n1 e.1<=m):∀e∈ba known vals l,n1 e.1<=m:=λe b=>by
 obtain⟨c,a,rfl⟩:=qI.1 (qN.1 b).1;exact Nat.le_trans (List.length_filter_le _ _) (d c a)
end
end
variable {t t2 e k:Nat} {z:aR} {by_:Nat} {α:Type} {h h0:Heap} {p q B:au} {s v:Sl} {f:α->aR} {l l2:List α} {As:List HP}
section
variable {C:Ctx}
theorem Ol(d:C.Ok)(n:bS C.toAk t e k z by_)(U:∃i u,C.T.get t2=cO i/\i.co=.slice u)(H:n1 z=k)(o:0<by_/\by_<=128)(F:∀x,(f x).length=k)
  (a:Seq h q s k f l) (D:s.len<=s.cap) (c:¬s.len+v.len<=s.cap) (E:Seq h p v k f l2) (V:s.cap+n1 l2<=2^32) {ty:Nat} {K:Sl->Heap->Prop}
  (I:∀w h',Own h' e w k f (l++l2)->aP (λ_=>True) h h'->w.ptr=cO ⟨h.size,0,none⟩->K w h'):
  bC C.P (zb #[t,t2] ty #[.slice s.ptr s.len s.cap,.slice v.ptr v.len v.cap]) (.one (.sc .slc)) h K:=by
 obtain⟨W,u,L,R⟩:=U;have A:C.P.underlying t2=cO (.slice u):=by have:=d.co L;rw[R]at this;exact iv this
 obtain⟨j,g,x2,x3,N,O,S⟩:=n.info d;unfold bC zb;simp only[z6,wH,qX];refine av.bind (av.always (aK (n.under d)) ?_);refine av.bind (av.always (n.size d) ?_);refine av.bind (av.always (aK A) ?_);refine av.bind (av.pure' ?_);simp only[zg,if_false,wL,if_true];refine av.bind (av.pure' ?_);have B:=a.len;have m:=E.len;rw[m6 c];refine av.bind (av.always (cC g) ?_);rw[m6 λM=>by rcases M.2 with h|h<;>first|exact h|(rw[x3]at h;omega)];refine av.bind (av.always (cC g) ?_);have G:=Is (s.len+v.len) s.cap;rw[m6 (by
  have:Builtin.nextslicecap (s.len+v.len) s.cap*j.bytes<=(16*2^32+16*768)*128:=zu n3 (by rw[x3];exact o.2);omega)]
 refine av.bind (av.DS ⟨λQ=>(by cases Q),λ_ J=>?_⟩);refine av.bind (av.always (cC g) ?_);refine av.bind (av.AM ?_);refine av.bind (eW F a ?_);refine av.bind (eW F E ?_);have r:aL C.P (zeroValue e) N:=(cC g).bind (by rw[O];exact .pure);refine av.bind (av.always r ?_);rw[S,tu];unfold newRow;refine av.bind (av.bind (av.nX (av.pure' (av.pure' ?_))));generalize y:Question.cut (Question.appendCap (s.len+v.len) s.cap e) J=cc;have b:s.len+v.len<=cc:=by rw[<-y];simp only[Question.cut];omega
 refine⟨⟨cO ⟨h.size,0,none⟩,s.len+v.len,cc⟩,n2,I _ _ ⟨?_,.inr ⟨h.size,iI z (cc-(s.len+v.len)),n2,?_,?_,b⟩⟩ (aP.push _ _ _) n2⟩
 .simp;omega
 .simp
 .rw[mw,H]
theorem aa.Ep(o:C.Ok)(H:aa B h0 h As)(r:bS C.toAk t e k z by_)(w:∃i y,C.T.get t2=cO i/\i.co=.slice y)(m:n1 z=k)(g:0<by_/\by_<=128)(F:∀x,(f x).length=k)
  (b:Seq h q s k f l) (c:s.len<=s.cap) (a:¬s.len+v.len<=s.cap) (E:Seq h p v k f l2) (j:s.cap+n1 l2<=2^32) {ty:Nat} {K:Sl->Heap->Prop}
  (n:∀d h',aa B h0 h' (As++[ai e d k f (l++l2)])->K d h'):
  bC C.P (zb #[t,t2] ty #[.slice s.ptr s.len s.cap,.slice v.ptr v.len v.cap]) (.one (.sc .slc)) h K:=
 Ol o r w m g F b c a E j λd h' D A u=>n d h' (H.comp (Eb n2 D u A))
end
section
variable {C:Ctx}
theorem hJ(b:C.Ok)(c:bS C.toAk t e k z by_)(n:Nat){x y:Int}(g:x=n)(f:y=n)(j:n<=s.cap){K:Sl->Heap->Prop}(d:K ⟨s.ptr,n,n⟩ h):
  bC C.P (Instr.sliceAt t (.slice s.ptr s.len s.cap) none (cO (xP xV x)) (cO (xP xV y))) (.one (.sc .slc)) h K:=by
 subst g;subst f;have i:aL C.P (we eH s.len s.cap none (cO (xP xV (n))) (cO (xP xV (n)))) (0,n,n):=λw=>by
  have x3:(n)<=(s.cap):=n3
  simp[we,Instr.sliceBound,asIntOf,x3,]
 refine av.bind (av.always (aK (c.under b)) ?_);refine av.bind (av.always (aK (c.under b)) ?_);refine av.bind (av.always i ?_);refine av.bind (av.always (c.size b) ?_);have l:(if n=0 then s.ptr else s.ptr.map (·.add (0*k)))=s.ptr:=by
  split
  .rfl
  .cases s.ptr with
   |none=>rfl
   |some a=>simp[Addr.add]
 refine av.pure' ⟨⟨s.ptr,n,n⟩,?_,d⟩
 grind
end
namespace Gf
def pl(a b:Nat):Nat->Nat
 |0=>0
 |i+1=>if b/2^i%2=1 then pl a b i^^^(a*2^i)else pl a b i
def rd(p:Nat):Nat->Nat
 |0=>p
 |i+1=>if rd p i/2^(15-i)%2=1 then rd p i^^^(283*2^(7-i))else rd p i
theorem Qi(p q i:Nat):(p^^^q)/2^i%2=(p/2^i%2+q/2^i%2)%2:=by
 have h:=Nat.testBit_xor p q i
 grind
theorem XC(x y k i:Nat):(if(x^^^y)/2^i%2=1 then(x^^^y)^^^k else x^^^y)=(if x/2^i%2=1 then x^^^k else x)^^^(if y/2^i%2=1 then y^^^k else y):=by
 rw[Qi];rcases(show x/2^i%2=0∨x/2^i%2=1 by omega)with h|h<;>rcases(show y/2^i%2=0∨y/2^i%2=1 by omega)with h'|h'<;>rw[h,h']<;>simp
 .ac_rfl
 .ac_rfl
 grind
theorem UA(p q:Nat):∀i,rd (p^^^q) i=rd p i^^^rd q i
 |0=>rfl
 |i+1=>by simp only[rd,UA p q i];exact XC _ _ _ _
theorem UB(a b c:Nat):∀i,pl a (b^^^c) i=pl a b i^^^pl a c i
 |0=>by simp[pl]
 |i+1=>by
  simp only[pl,UB a b c i,Qi];rcases(show b/2^i%2=0∨b/2^i%2=1 by omega)with h|h<;>rcases(show c/2^i%2=0∨c/2^i%2=1 by omega)with h'|h'<;>rw[h,h']<;>simp
  .ac_rfl
  .ac_rfl
  grind
def mX(a b:Nat):Nat:=rd (pl a b 8) 8%256
theorem Om(a b c:Nat):mX a (b^^^c)=mX a b^^^mX a c:=by unfold mX;rw[UB,UA,show 256=2^8 from n2,Nat.xor_mod_two_pow]
theorem mul_two:∀a:UInt8,mul a 2=x2 a:=LF o1
def itx(a:UInt8):Nat->UInt8
 |0=>a
 |k+1=>x2 (itx a k)
theorem pow_two:∀k,k<7->zO (2^(k+1))=mul (zO (2^k)) 2:=o1
theorem mul_pow(a:UInt8):∀k,k<8->mul a (zO (2^k))=itx a k
 |0,_=>mul_one a
 |k+1,h=>by rw[pow_two k n3,<-mul_assoc,mul_pow a k n3,mul_two];rfl
theorem XD:∀n,n<256->∀k,k<8->mX n (2^k)=(itx (zO n) k).toNat:=o1
theorem UC:∀k,k<8->∀b,b<256->b<2^(k+1)->2^k<=b->b=(b-2^k)^^^2^k/\zO b=zO (b-2^k)^^^zO (2^k):=o1
theorem FJ(a:UInt8):∀k,k<=8->∀b,b<2^k->mX a.toNat b=(mul a (zO b)).toNat
 |0,_,b,hb=>by
  have:b=0:=by simpa using hb
  subst this;have h0:∀n,n<256->mX n 0=0:=o1
  rw[h0 _ (zV a)];show 0=(mul a 0).toNat;rw[mul_zero];rfl
 |k+1,h,b,hb=>by
  have h8:2^(k+1)<=2^8:=Nat.pow_le_pow_right n4 h;by_cases d:b<2^k
  .exact FJ a k n3 b d
  .have c:=UC k n3 b n3 hb n3;rw[c.2,jD]
   conv=>lhs;rw[c.1]
   rw[Om,FJ a k n3 (b-2^k) n3,XD _ (zV a) k n3,wR,mul_pow a k n3];rfl
theorem Sa(a b:UInt8):mX a.toNat b.toNat=(mul a b).toNat:=by
 have:=FJ a 8 (qk _) b.toNat (zV b)
 rwa [wR]at this
theorem Sb(a b:Nat)(d:a<256):∀i,i<=8->pl a b i<2^16
 |0,_=>by simp[pl]
 |i+1,h=>by
  have c:=Sb a b d i n3;have e:a*2^i<2^16:=by have:2^i<=2^7:=Nat.pow_le_pow_right n4 n3;have:=zu (Nat.le_of_lt_succ (show a<255+1 by omega)) this;omega
  rw[pl];split
  .exact Nat.xor_lt_two_pow c e
  .exact c
theorem Zj(p:Nat)(b:p<2^16):∀i,i<=8->rd p i<2^16
 |0,_=>b
 |i+1,h=>by
  have a:=Zj p b i n3;have c:283*2^(7-i)<2^16:=by have:2^(7-i)<=2^7:=Nat.pow_le_pow_right n4 n3;have:=zu (qk 283) this;omega
  rw[rd];split
  .exact Nat.xor_lt_two_pow a c
  .exact a
theorem UD:∀a:UInt8,mul a 3=x3 a:=LF o1
theorem Se{a b:UInt8}(h:mul a b=1):b=inv a:=by
 have c:a≠0:=λe=>by rw[e,zero_mul]at h;cases h
 have:=congrArg (mul (inv a)) h;rw[<-mul_assoc,mul_comm (inv a) a,Ao c,one_mul,mul_one]at this;exact this
end Gf
variable {B:au} {α:Type} {h0 h:Heap} {As:List HP} {e t t2 k by_:Nat} {s:Sl} {f:α->aR} {d:List α} {z:aR}
section
variable {C:Ctx}
theorem Own.IH(r:C.Ok)(D:bS C.toAk t e k z by_)(M:∃i u,C.T.get t2=cO i/\i.co=.slice u)(m:∀x,(f x).length=k)
  (n:Own h e s k f d) (g:∀x,∀c∈f x,c.oneCell'=eH) (i:Nat) (O:i<n1 d) {ty:Nat} {K:Sl->Heap->Prop}
  (G:∀h',Own h' e s k f ((d.take i++d.drop (i+1))++d.drop (n1 d-1))->aP (λb=>¬s.on b) h h'->K ⟨s.ptr,n1 d-1,s.cap⟩ h'):
  bC C.P (zb #[t,t2] ty #[.slice s.ptr i s.cap,.slice (if s.cap=i+1 then s.ptr else s.ptr.map (·.add ((i+1)*k))) (s.len-(i+1)) (s.cap-(i+1))]) (.one (.sc .slc)) h K:=by
 obtain⟨Q,u,I,L⟩:=M;have A:C.P.underlying t2=cO (.slice u):=by have:=r.co I;rw[L]at this;exact iv this
 have B:=n.len;have l:=n.cap;have E:Seq h (λ_=>True) ⟨if s.cap=i+1 then s.ptr else s.ptr.map (·.add ((i+1)*k)),s.len-(i+1),s.cap-(i+1)⟩ k f (d.drop (i+1)):=Seq.drop (n.seq m λ_ _=>trivial) (i+1) l;obtain⟨v,a⟩:∃v:Sl,v=⟨if s.cap=i+1 then s.ptr else s.ptr.map (·.add ((i+1)*k)),s.len-(i+1),s.cap-(i+1)⟩:=⟨_,rfl⟩
 rw[<-a]at E;have J:(Value.slice (if s.cap=i+1 then s.ptr else s.ptr.map (·.add ((i+1)*k))) (s.len-(i+1)) (s.cap-(i+1)))=.slice v.ptr v.len v.cap:=by rw[a]
 have H:v.len=s.len-(i+1):=by rw[a]
 rw[J];unfold bC zb;simp only[z6,wH,qX];refine av.bind (av.always (aK (D.under r)) ?_);refine av.bind (av.always (D.size r) ?_);refine av.bind (av.always (aK A) ?_);refine av.bind (av.pure' ?_);simp only[zg,if_false,wL,if_true];refine av.bind (av.pure' ?_);have j:i+v.len<=s.cap:=n3
 rw[l0 j];refine av.bind (eW m E ?_);rcases n.head with⟨p1,p2,p3⟩|⟨b,rest,p1,p2,p3,p4⟩
 .subst p3;simp at O
 .rw[p1];refine av.bind ?_;rw[add_eq,yg];have p:d=d.take i++((d.drop i).take (n1 d-1-i)++d.drop (n1 d-1)):=by
   have F:(d.drop i).drop (n1 d-1-i)=d.drop (n1 d-1):=by rw[List.drop_drop];congr 1;omega
   rw[<-F,qD,qD]
  have q:((d.drop i).take (n1 d-1-i)).length=n1 d-1-i:=n7
  have y:(d.drop (i+1)).length=n1 d-1-i:=n7
  refine fv (e:=e) (pre:=(d.take i).flatMap f) (old:=((d.drop i).take (n1 d-1-i)).flatMap f) (post:=(d.drop (n1 d-1)).flatMap f++rest) ?_ ?_ ?_ ?_ ?_
  .have:(d.take i).flatMap f++((d.drop i).take (n1 d-1-i)).flatMap f++((d.drop (n1 d-1)).flatMap f++rest)=d.flatMap f++rest:=by
    conv=>rhs;rw[p]
    simp only[ze,qo]
   rw[this];exact p2
  .rw[dO m,dO m,q,y]
  .rw[dO m,List.length_take,Nat.min_eq_left n3];omega
  .intro c N;obtain⟨x,_,w⟩:=List.mem_flatMap.1 N;exact g x c w
  .have o:i+v.len=n1 d-1:=n3
   rw[o];refine av.pure' ⟨⟨cO ⟨b,0,none⟩,n1 d-1,s.cap⟩,n2,?_⟩;rw[<-p1];refine G _ ⟨?_,.inr ⟨b,rest,p1,?_,p3,p4⟩⟩ ?_
   .simp;omega
   .rw[iH p2,l0 rfl];simp[ze]
   .exact aP.jJ p2 (λo=>o ⟨0,p1⟩)
theorem aa.IH(p:C.Ok)(H:aa B h0 h As)(j:Nat)(n:As[j]?=cO (ai e s k f d))(r:bS C.toAk t e k z by_)(u:∃i v,C.T.get t2=cO i/\i.co=.slice v)(A:∀x,(f x).length=k)
  (a:∀x,∀c∈f x,c.oneCell'=eH) (i:Nat) (w:i<n1 d) {ty:Nat} {K:Sl->Heap->Prop}
  (o:∀h',aa B h0 h' (As.set j (ai e s k f ((d.take i++d.drop (i+1))++d.drop (n1 d-1))))->K ⟨s.ptr,n1 d-1,s.cap⟩ h'):
  bC C.P (zb #[t,t2] ty #[.slice s.ptr i s.cap,.slice (if s.cap=i+1 then s.ptr else s.ptr.map (·.add ((i+1)*k))) (s.len-(i+1)) (s.cap-(i+1))]) (.one (.sc .slc)) h K:=
 (H.own j n).IH p r u A a i w λh' x y=>o h' (H.step j n λq m _=>⟨y.mono λb _ g l=>g (m.2 b l),x,λb g=>⟨x.lt g,.inl (m.2 b g)⟩⟩)
end
variable {P:Program}
structure aez (P:Program) (t it:TypeId):Prop where
 u:∃f0 f1 f2:Field,P.underlying t=cO (.struct #[f0,f1,f2])/\f0.name≠ "_" /\f1.name≠ "_" /\f2.name≠ "_" /\f0.type=it/\f1.type=it/\f2.type=it/\f0.offset=0/\f1.offset=1/\f2.offset=2
 st:P.stoodInHeld t=eL
 i:P.underlying it=cO (.int .i64)
 a:aL P (isAgg it) eL
abbrev k3v(x:Int×Int×Int):eX:=.agg #[xP xV x.1,xP xV x.2.1,xP xV x.2.2]
structure aeA (h:Heap) (r:Nat) (ks:List (Int×Int×Int)):Prop where
 ex:∃es clock,h[r]?=cO (.map es clock)/\es.toList.map (λe=>(e.key,e.val))=ks.map (λk=>(k3v k,Value.bool eH))
section
def Zk(x:ByteArray):List (ByteArray×α)->Option α
 |[]=>none
 |(k,u)::t=>if k=x then cO u else Zk x t
structure aeB (h:Heap) (r:Nat) (g:α->eX) (kvs:List (ByteArray×α)):Prop where
 ex:∃es clock,h[r]?=cO (.map es clock)/\es.toList.map (λe=>(e.key,e.val))=kvs.map (λp=>(Value.string p.1,g p.2))/\∀e∈es.toList,e.born<clock
variable {P:Program} {h h':Heap} {r:Nat} {g:α->eX} {kvs:List (ByteArray×α)}
end
variable {h':Heap} {r:Nat} {g:α->eX} {kvs:List (ByteArray×α)}
section
open Go.RowKit Go.ChangeShapes Go.WideShapes Go.Joins Go.Deep
section
variable {H:Type} {enc:TypeId×eX->H} {P:Program} {W W':World}
theorem XE{w c:World}(a:dn w c)(d:aP (λb=>b<w.heap.size) w.heap c.heap):Below w.heap.size w c:=
 ⟨a.os,a.tape,a.output,d.1,λk e=>d.2 k e e⟩
theorem BU(g:laidOutB P=eH)(f:Below W.heap.size W W'):∀{ts:List TypeId} {vs:aR} {c:List (DataW H)} {ps:List MemPlace},
  (∀t∈ts,P.readableRec t=eH/\t<P.types.size)->DataW.TrodAll enc P W 0 (λ_=>eH) eH ts vs c ps->(∀x∈ps,x.block<W.heap.size)->DataW.TrodAll enc P W' 0 (λb=>decide (b<W.heap.size)) eH ts vs c ps
 |[],[],[],ps,_,h,_=>h
 |t::ts,v::vs,d::c,ps,hr,⟨p,q,h1,h2,e⟩,hlt=>by
  subst e;exact⟨p,q,Below.trod g (hr t n9).1 (hr t n9).2 h1 f λx a=>hlt x E7,BU g f (λu i=>hr u (by simp[i])) h2 λx a=>hlt x E7,n2⟩
 |[],_::_,_,_,_,h,_=>h.elim
 |[],[],_::_,_,_,h,_=>h.elim
 |_::_,[],_,_,_,h,_=>h.elim
 |_::_,_::_,[],_,_,h,_=>h.elim
theorem XF{f:Func}{s:ChangeSpec}{args:Array eX}{d:List (DataW H)}{a:List MemPlace}{rt:TypeId}(j:s.vars=[])(e:DataW.Whole enc P f.params.toList s.vars eL W args.toList d [] a)
  (b:s.fn H (d++[])={results:=[.lit (.bool eH)],args:=d}) (n:laidOutB P=eH) (l:Below W.heap.size W W') (o:∀t∈f.params.toList,P.readableRec t=eH/\t<P.types.size)
  (c:f.resultTypes=#[rt]) (i:P.underlying rt=cO .bool):s.post enc P f eL eH eL eL W args (.bool eH) W':=by
 obtain⟨p,q,m,k,h3,u,v⟩:=id e;have g:=e.lt;rw[j]at k;have r:q=[]:=k;subst r;simp only[qR]at h3;subst h3;refine⟨d,[],a,[],a,[],e,?_,?_,?_,l.frame _,λh=>t7⟩
 .rw[b,c];exact trodAll_mk1 (shut_bool i eH)
 .rw[b];exact BU n l o m g
 .rw[b,j];rfl
theorem rh(w:World)(a:Addr):w.cell? a=cellOf w.heap a:=rfl
theorem JG{h:Heap}{a:Addr}{v:eX}(c:cellOf h a=cO v):a=⟨a.block,a.off,none⟩:=by
 obtain⟨b,o,s⟩:=a;cases s with
 |none=>rfl
 |some s=>
  unfold cellOf at c;cases hb:h[b]? with
  |none=>rw[hb]at c;cases c
  |some x=>rw[hb]at c;cases x<;>simp at c
theorem Mw{α:Type}{f:α->eX}{h:Heap}{a:Addr}{len cap:Nat}{l:List α}(k:n1 l=len)(c:∀i (g:i<n1 l),cellOf h (a.add i)=cO (f l[i])):Seq h (λb=>b<h.size) ⟨cO a,len,cap⟩ 1 (λx=>[f x]) l:=by refine⟨k.symm,λi x j=>?_⟩;obtain⟨g,e⟩:=List.getElem?_eq_some_iff.1 j;have h0:=c 0 n3;rw[add_zero]at h0;have d:=JG h0;refine⟨a.block,a.off,by rw[<-d],cZ h0,?_,I4⟩;have:=c i g;rw[d,add_eq]at this;rw[Nat.mul_one,add_eq,Nat.add_zero,this,e]
theorem FK{t e:TypeId}{v:eX}{d:DataW H}{ps:List MemPlace}(j:P.underlying t=cO (.slice e))(k:P.underlying e=cO (.int .i64))(o:P.cellsOf e=1)
  (r:∃p n c,v=.slice p n c) (h:DataW.Trod enc P W 0 (λ_=>eH) eH t v d ps):∃(s:Sl) (l:aD),v=.slice s.ptr s.len s.cap/\Seq W.heap (λb=>b<W.heap.size) s 1 aq l:=by
 obtain⟨g,m⟩:=h;obtain⟨p,n,c,rfl⟩:=r;rcases open_ints j k o m with⟨h1,_⟩|⟨a,len,cap,zs,h1,_,hle,_,hz,_,hcell,_⟩
 .simp[Value.cells]at h1;obtain⟨rfl,rfl,rfl⟩:=h1;exact⟨⟨none,0,0⟩,[],n2,Seq.nil _ _ _ _ _ _⟩
 .simp[Value.cells]at h1;obtain⟨rfl,rfl,rfl⟩:=h1;simp only[if_true]at hz;refine⟨⟨cO a,n,c⟩,zs.take n,n2,Mw (f:=λx=>xP xV x) n7 λi q=>?_⟩;simp at q;rw[<-rh,hcell i n3];simp[qg,qd (show i<n1 zs by omega)]
theorem sf{r:_root_.Go.Reach}{a:Nat}{t e:TypeId}{v:eX}(b:P.underlying t=cO (.slice e))(h:Value.okWide P W r a t v):∃p n c,v=.slice p n c:=by simp only[Value.okWide,b,Cell.okWide]at h;cases v<;>simp_all [Cell.ok]
theorem adG{t e:TypeId}{v:eX}{d:DataW H}{ps:List MemPlace}(j:P.underlying t=cO (.slice e))(k:P.underlying e=cO (.int .u8))(o:P.cellsOf e=1)
  (r:∃p n c,v=.slice p n c) (h:DataW.Trod enc P W 0 (λ_=>eH) eH t v d ps):∃(s:Sl) (l:aS),v=.slice s.ptr s.len s.cap/\Seq W.heap (λb=>b<W.heap.size) s 1 ar l/\s.len<=s.cap:=by
 obtain⟨g,m⟩:=h;obtain⟨p,n,c,rfl⟩:=r;rcases open_ints j k o m with⟨h1,_⟩|⟨a,len,cap,zs,h1,_,hle,_,hz,_,hcell,hwf⟩
 .simp[Value.cells]at h1;obtain⟨rfl,rfl,rfl⟩:=h1;exact⟨⟨none,0,0⟩,[],n2,Seq.nil _ _ _ _ _ _,n4⟩
 .simp[Value.cells]at h1;obtain⟨rfl,rfl,rfl⟩:=h1;simp only[if_true]at hz;refine⟨⟨cO a,n,c⟩,(zs.take n).map λz=>zO z.toNat,n2,Mw (f:=λx:UInt8=>xP xW x.toNat) n7 λi q=>?_,hle⟩;simp at q;rw[<-rh,hcell i n3];have u:=hwf zs[i] (qf _);have w:0<=zs[i]/\zs[i]<256:=by simp[Lit.wf]at u;have y:IntKind.u8.min=0:=rfl;have A:IntKind.u8.max=255:=rfl;omega
  simp[qg,qd (show i<n1 zs by omega)];omega
theorem UE{t e:TypeId}{v:eX}{d:DataW H}{ps:List MemPlace}(j:P.underlying t=cO (.slice e))(k:P.underlying e=cO (.int .i64))(o:P.cellsOf e=1)
  (r:∃p n c,v=.slice p n c) (h:DataW.Trod enc P W 0 (λ_=>eH) eH t v d ps):∃(s:Sl) (l:aD),v=.slice s.ptr s.len s.cap/\Seq W.heap (λb=>b<W.heap.size) s 1 aq l/\s.len<=s.cap:=by
 obtain⟨g,m⟩:=h;obtain⟨p,n,c,rfl⟩:=r;rcases open_ints j k o m with⟨h1,_⟩|⟨a,len,cap,zs,h1,_,hle,_,hz,_,hcell,_⟩
 .simp[Value.cells]at h1;obtain⟨rfl,rfl,rfl⟩:=h1;exact⟨⟨none,0,0⟩,[],n2,Seq.nil _ _ _ _ _ _,n4⟩
 .simp[Value.cells]at h1;obtain⟨rfl,rfl,rfl⟩:=h1;simp only[if_true]at hz;refine⟨⟨cO a,n,c⟩,zs.take n,n2,Mw (f:=λx=>xP xV x) n7 λi q=>?_,hle⟩;simp at q;rw[<-rh,hcell i n3];simp[qg,qd (show i<n1 zs by omega)]
theorem Kw{w:World}{base:Nat}{a:Nat->Bool}{held:Bool}{t0 B J t3 t4 t5 E:TypeId}{args:Array eX}{t:List (DataW H)}{ps:List MemPlace}(h:DataW.TrodAll enc P w base a held [t0,B,J,t3,t4,t5,E] args.toList t ps):
  ∃v0 O A v3 v4 v5 u x M I s z K G L F y r v N D,args=#[v0,O,A,v3,v4,v5,u]/\t=[x,M,I,s,z,K,G]/\ps=L++F++y++r++v++N++D/\DataW.Trod enc P w base a held t0 v0 x L/\DataW.Trod enc P w base a held B O M F/\DataW.Trod enc P w base a held J A I y/\DataW.Trod enc P w base a held t3 v3 s r/\DataW.Trod enc P w base a held t4 v4 z v/\DataW.Trod enc P w base a held t5 v5 K N/\DataW.Trod enc P w base a held E u G D:=by
 obtain⟨w0,ap,e0,R,x0,q0,k,rfl,rfl,c,n⟩:=trodAll_cons h;obtain⟨w1,U,e1,W,V,q1,rfl,rfl,rfl,b,q⟩:=trodAll_cons n;obtain⟨w2,S,e2,ad,x2,q2,rfl,rfl,rfl,j,e⟩:=trodAll_cons q;obtain⟨w3,ax,e3,ab,x3,q3,rfl,rfl,rfl,l,p⟩:=trodAll_cons e;obtain⟨w4,ah,Y,X,x4,q4,rfl,rfl,rfl,o,d⟩:=trodAll_cons p;obtain⟨Q,ay,T,am,x5,q5,rfl,rfl,rfl,g,f⟩:=trodAll_cons d;obtain⟨w6,al,e6,ao,Z,q6,rfl,rfl,rfl,i,m⟩:=trodAll_cons f;obtain⟨rfl,rfl,rfl⟩:=trodAll_nil m;exact⟨w0,w1,w2,w3,w4,Q,w6,e0,e1,e2,e3,Y,T,e6,x0,V,x2,x3,x4,x5,Z,by cases args;simp_all,n2,n9,c,b,j,l,o,g,i⟩
end
end
variable {H:Type}
section
variable {enc:TypeId×eX->H}
end
theorem UF{P:Program}(h:P.funcs.any Func.goes=eL)(f:FuncId):P.goes f=eL:=by
 have a:∀g:FuncId,(P.funcs[g]?).any Func.goes=eL:=λg=>by
  cases hg:P.funcs[g]? with
  |none=>rfl
  |some x=>
   show Func.goes x=eL;obtain⟨b,e⟩:=Array.getElem?_eq_some_iff.1 hg;cases hx:Func.goes x with
   |false=>rfl
   |true=>
    have:P.funcs.any Func.goes=eH:=Array.any_eq_true.2 ⟨g,b,by rw[e];exact hx⟩;rw[h]at this;cases this
 unfold Program.goes;rw[h,Bool.and_false,Bool.or_false];simp only[a];simp
theorem On{P:Program}{c:OpenClaim}(h:P.funcs.any Func.goes=eL):c.goesBy P=eL:=by
 have a:∀f,P.goes f=eL:=UF h;unfold OpenClaim.goesBy Program.goesAt Program.goesFrom;have b:(P.funcNamed c.func).any P.goes=eL:=by
  cases P.funcNamed c.func with
  |none=>rfl
  |some f=>exact a f
 have h3:P.inits.toList.any P.goes=eL:=wu.2 λf _=>by rw[a f];exact Bool.false_ne_true
 rw[b,h3];cases c.start<;>rfl
end Go.Qw
