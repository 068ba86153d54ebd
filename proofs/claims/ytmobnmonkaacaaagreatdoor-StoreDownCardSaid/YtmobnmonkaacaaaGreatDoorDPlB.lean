/- Lemmas for the proof of the law; no condition. -/
import Derived.Test.YtmobnmonkaacaaaGreatDoorDPlA
import Derived.ProofKit
import Derived.Deep.Matrix
import Derived.Carry
import Derived.Lib.SmallJoins
import Derived.Handed
import Derived.HandedShaped
import Derived.ChangeMaps5
import Derived.SevenTiedAt
set_option linter.unusedVariables false
set_option linter.unusedSimpArgs false
open List renaming getElem_append_left -> vA, nodup_cons -> y9, nodup_range -> xg, range -> qy, range' -> xC, replicate -> qf
open Nat renaming lt_succ_self -> xd
open UInt8 renaming ofNat -> zI
open Prod renaming fst -> qC, snd -> zg
open Go.Builtin renaming append_ -> q6
open Go.Value renaming int -> xJ
open Go.IntKind renaming i64 -> xP, u8 -> xQ
open Go.Instr renaming sliceBounds -> zY
set_option maxRecDepth 100000
open Option renaming some -> dB
open Bool renaming true -> eL, false -> eR
open Go renaming Value -> eX
open List renaming length -> m8
namespace Go.Qw
theorem OB(b:ByteArray):∀n i r,b.size-i=n->ByteArray.toList.loop b i r=r.reverse++b.data.toList.drop i:=by
 have c:m8 b.data.toList=b.size:=rfl;intro n
 induction n with
 |zero=>
  intro i r h;rw[ByteArray.toList.loop,k4 nb,List.drop_eq_nil_of_le (by rw[c];omega),qL]
 |succ n ih=>
  intro i r h;have a:i<b.size:=nb
  rw[ByteArray.toList.loop,hZ a,ih (i+1) _ nb];have d:b.data.toList.drop i=b.get! i::b.data.toList.drop (i+1):=by rw[List.drop_eq_getElem_cons (by rw[c];exact a)];congr 1;show _=b.data[i]!;rw[getElem!_pos b.data i a,Array.getElem_toList]
  rw[d,List.reverse_cons,ql];rfl
theorem toList_eq(x:ByteArray):x.toList=x.data.toList:=by unfold ByteArray.toList;rw[OB x _ 0 [] rfl];rfl
theorem Sm{a b:ByteArray}(h:a.toList=b.toList):a=b:=by rw[toList_eq,toList_eq]at h;cases a;cases b;congr;exact Array.toList_inj.1 h
theorem Qz(s:Nat×aO)(aV:Nat):(fR s aV).1<=s.1+1:=by
 unfold fR;cases fB s.2 s.1 aV with
 |none=>exact Nat.le_succ _
 |some i=>exact qj _
theorem JH(m:aO):∀c,(aY m c).1<=c
 |0=>qj _
 |c+1=>by
  have b:=Qz (aY m c) c;have a:=JH m c;rw[aY];omega
theorem GX(m:aO)(c:Nat):∀d,(aY m (c+d)).1<=(aY m c).1+d
 |0=>qj _
 |d+1=>by
  have b:=Qz (aY m (c+d)) (c+d);have a:=GX m c d;rw[show c+(d+1)=(c+d)+1 by omega,aY];omega
theorem Mn{m:aO}{n:Nat}(h:(aY m n).1=n){c:Nat}(b:c<=n):(aY m c).1=c:=by have d:=JH m c;have a:=GX m c (n-c);rw[show c+(n-c)=n by omega,h]at a;omega
theorem JI{m:aO}{n:Nat}(h:(aY m n).1=n){c:Nat}(d:c<n):∃i,fB (aY m c).2 c c=dB i/\(aY m (c+1)).2=bN c c (ga c c (fQ (aY m c).2 c i)) (aY m c).2.length:=by
 have b:=Mn h (show c<=n by omega);have a:=Mn h (show c+1<=n by omega);rw[aY,fR,b]at a;cases hb:fB (aY m c).2 c c with
 |none=>rw[hb]at a;dsimp only at a;omega
 |some i=>
  refine⟨i,m9,?_⟩;rw[aY,fR,b,hb]
theorem Dh{m:aO}{a aV i:Nat}(h:fB m a aV=dB i){j:Nat}(c:a<=j)(b:j<i):aM (az m j) aV=0:=by rw[fB,List.find?_range_eq_some]at h;have:=h.2.2 j b;simp at this;exact this.resolve_left nb
theorem GY(n:Nat)(c:UInt8)(r:Row):(scaleB c r).drop n=scaleB c (r.drop n):=by simp[scaleB,List.map_drop]
theorem Mo(n:Nat)(c:UInt8)(a t:Row):(cN c a t).drop n=cN c (a.drop n) (t.drop n):=by simp[cN,List.drop_zipWith]
def ZN:Nat->Nat->Nat->List (List Nat)
 |0,_,_=>[[]]
 |t+1,a,n=>(xC a (n-t-a)).flatMap λi=>(ZN t (i+1) n).map (i::·)
def Sn(n:Nat):List Nat->Option (List Nat)
 |[]=>none
 |x::l=>match Sn n l with
  |some l'=>dB (x::l')
  |none=>if x+m8 l+1<n then dB (xC (x+1) (m8 l+1))else none
inductive XR (n:Nat):List Nat->List (List Nat)->Prop
 |last {l:List Nat}:Sn n l=none->XR n l [l]
 |more {l l':List Nat} {L:List (List Nat)}:Sn n l=dB l'->XR n l' L->XR n l (l::L)
def ch:Nat->Nat->Nat
 |_,0=>1
 |0,_+1=>0
 |n+1,k+1=>ch n k+ch n (k+1)
def acv(n t:Int):Int:=if 0<=n/\n<=64/\0<=t/\t<=n then(min (ch n.toNat t.toNat) 4097:Nat)else 0
section
open Classical
def ic(r:Row):Nat:=r.findIdx (λx=>x !=0)
section
variable {n:Nat} {m M A:aO}
structure afa (n:Nat) (M A:aO):Prop where
 even:aU n M
 evenA:aU n A
 span:∀v,Span n M v↔Span n A v
 len:m8 M=cz A
 lead:∀x∈M,ic x<n
theorem XS(a:aU n m):Way n m n (cz m) (aY m (eI m)).2:=by
 have h:=Ew a n (qj _);cases m with
 |nil=>rw[kC]at h;exact h
 |cons x t=>
  have b:eI (x::t)=n:=by rw[eI,be n4];exact a _ n4
  rw[cz,b];exact h
end
def So(r:aT×Bool)(n:Int):aT×(aT×Bool):=if n<=m8 r.1 then(r.1.take n.toNat,(r.1.drop n.toNat,r.2))else([],(r.1,eL))
def aet(l:aT):Int:=l.foldl (λn x=>n*256+(x.toNat:Int)) 0
def oX(r:aT×Bool)(k:Int):Int×(aT×Bool):=(aet (So r k).1,(So r k).2)
def Li:Nat->aT×Bool->aC×(aT×Bool)
 |0,r=>([],r)
 |n+1,r=>if r.2 then([],r)else((oX r 1).1::(Li n (oX r 1).2).1,(Li n (oX r 1).2).2)
def XT(p:Int×Int×Int)(r:aT×Bool):cZ×(aT×Bool):=
 let a:=oX r 1;let b:=So a.2 a.1;let c:=oX b.2 3;let d:=oX c.2 2;let e:=Li (countP p d.1).toNat d.2
 (⟨⟨b.1.toArray⟩,c.1,d.1,e.1⟩,e.2)
def Sq(p:Int×Int×Int):Nat->aT×Bool->List cZ×(aT×Bool)
 |0,r=>([],r)
 |n+1,r=>if r.2 then([],r)else((XT p r).1::(Sq p n (XT p r).2).1,(Sq p n (XT p r).2).2)
def Sr(b:aT):aB×(aT×Bool):=
 let a:=oX (b,eR) 4;let c:=oX a.2 4;let k:=oX c.2 1;let h:=oX k.2 1;let z:=oX h.2 1;let x:=oX z.2 1;let n:=oX x.2 1;let d:=Li n.1.toNat n.2;let o:=oX d.2 1;let e:=Sq (k.1,h.1,z.1) o.1.toNat o.2
 (⟨a.1,c.1,(k.1,h.1,z.1),x.1,d.1,e.1⟩,e.2)
def acw(b:aT):Option aB:=if(Sr b).2.2||(decide (m8 b=0)||!decide (b=gG (Sr b).1))then none else dB (Sr b).1
abbrev fp:=aC×Row
def dg(x:Int->UInt8):aC->UInt8
 |[]=>0
 |c::l=>x c^^^dg x l
theorem kD{x y:Int->UInt8}:∀{l:aC},(∀c∈l,x c=y c)->dg x l=dg y l
 |[],_=>rfl
 |c::l,h=>by rw[dg,dg,h c n4,kD λd a=>h d n8]
theorem EX(x:Int->UInt8)(p:Int->Bool):∀l,dg x l=dg x (l.filter p)^^^dg x (l.filter λc=>!p c)
 |[]=>by simp[dg]
 |c::l=>by
  rw[dg,EX x p l];cases h:p c<;>simp only[zA,h,wG,if_true,zc,if_false,dg]<;>ac_rfl
theorem uV(x:Int->UInt8){c:Int}:∀{l:aC},l.Nodup->c∈l->dg x l=x c^^^dg x (l.filter λd=>!decide (d=c))
 |[],_,h=>p9
 |d::l,hd,h=>by
  rw[y9]at hd;rcases qN.1 h with rfl|h
  .have:l.filter (λd=>!decide (d=c))=l:=yR.2 λe a=>n8
   rw[zA];simp only[decide_true,Bool.not_true,zc,if_false];rw[this,dg]
  .rw[zA,hZ n8,dg,uV x hd.2 h];ac_rfl
theorem Mp(x y:Int->UInt8):∀l,dg (λc=>x c^^^y c) l=dg x l^^^dg y l
 |[]=>by simp[dg]
 |c::l=>by rw[dg,dg,dg,Mp x y l];ac_rfl
theorem Di:∀{x:Int->UInt8} {l:aC},(∀c∈l,x c=0)->dg x l=0
 |_,[],_=>rfl
 |x,c::l,h=>by rw[dg,h c n4,Di λd a=>h d n8];rfl
def cY(V:aO)(a:Row)(l:aC):Row:=l.foldl (λa c=>cN 1 (az V c.toNat) a) a
theorem jU{V:aO}{m:Nat}:∀{l:aC} {a:Row},m8 a=m->(∀c∈l,(az V c.toNat).length=m)->(cY V a l).length=m
 |[],a,h,_=>h
 |c::l,a,h,hv=>by
  exact jU (l:=l) (by rw[cl n8];exact h) λd b=>hv d n8
theorem FR{V:aO}{m:Nat}(j:Nat):∀{l:aC} {a:Row},m8 a=m->(∀c∈l,(az V c.toNat).length=m)->aM (cY V a l) j=aM a j^^^dg (λc=>aM (az V c.toNat) j) l
 |[],a,_,_=>by simp[cY,dg]
 |c::l,a,h,hv=>by
  have b:(az V c.toNat).length=m8 a:=n8
  rw[cY,zO];have:=FR (V:=V) j (l:=l) (a:=cN 1 (az V c.toNat) a) (by rw[cl b];exact h) λd e=>hv d n8;rw[cY]at this;rw[this,db b,Gf.one_mul,];ac_rfl
def Sat(t:UInt8)(k:Nat)(x:Int->UInt8)(e:fp):Prop:=dg x e.1=Gf.mul t (aM e.2 k)
structure jd (n w:Nat) (e:fp):Prop where
 df:∀c∈e.1,0<=c/\c<(n:Int)
 nodup:e.1.Nodup
 len:m8 e.2=w
def kn(known:List Bool)(c:Int):Bool:=known.getD c.toNat eR
def fA(known:List Bool)(vals:aO)(e:fp):fp:=(e.1.filter λc=>!kn known c,cY vals e.2 (e.1.filter λc=>kn known c))
structure jV (n w:Nat) (l:List fp) (known:List Bool) (vals:aO):Prop where
 klen:m8 known=n
 vlen:m8 vals=n
 row:∀c:Nat,c<n->(az vals c).length=if known.getD c eR then w else 0
 sound:∀t k x,k<w->(∀e∈l,Sat t k x e)->∀c:Int,0<=c->c<(n:Int)->kn known c=eL->x c=Gf.mul t (aM (az vals c.toNat) k)
section
variable {n w:Nat} {l:List fp} {known:List Bool} {vals:aO}
theorem Ss(n w:Nat)(l:List fp):jV n w l (qf n eR) (qf n []):=by
 refine⟨n4,n4,λc d=>?_,λt k x f b c h0 e a=>?_⟩
 .rw[be n8];grind
 .rw[kn,]at a
  grind
theorem jV.Dj(h:jV n w l known vals){c:Int}(b:0<=c)(d:c<(n:Int))(a:kn known c=eL):(az vals c.toNat).length=w:=by
 have:=h.row c.toNat nb;rw[kn]at a
 grind
theorem jV.AH(h:jV n w l known vals){e:fp}(b:jd n w e):jd n w (fA known vals e):=
 ⟨λc d=>b.df c (qJ.1 d).1,b.nodup.filter _,jU b.len λc d=>by
  have a:=qJ.1 d;exact h.Dj (b.df c a.1).1 (b.df c a.1).2 a.2⟩
theorem jV.Ez(h:jV n w l known vals){e:fp}(d:jd n w e){t:UInt8}{k:Nat}{x:Int->UInt8}(o:∀c:Int,0<=c->c<(n:Int)->kn known c=eL->x c=Gf.mul t (aM (az vals c.toNat) k)):
  Sat t k x (fA known vals e)↔Sat t k x e:=by
 have f:∀c∈e.1.filter λc=>kn known c,(az vals c.toNat).length=w:=λc g=>by
  have b:=qJ.1 g;exact h.Dj (d.df c b.1).1 (d.df c b.1).2 b.2
 have j:dg x (e.1.filter λc=>kn known c)=Gf.mul t (dg (λc=>aM (az vals c.toNat) k) (e.1.filter λc=>kn known c)):=by
  rw[kD (y:=λc=>Gf.mul t (aM (az vals c.toNat) k)) λc g=>o c (d.df c (qJ.1 g).1).1 (d.df c (qJ.1 g).1).2 (qJ.1 g).2];generalize e.1.filter (λc=>kn known c)=m
  induction m with
  |nil=>simp[dg,Gf.mul_zero]
  |cons a m ih=>rw[dg,dg,Gf.jL,ih]
 unfold Sat fA;rw[FR k d.len f,Gf.jL,<-j,EX x (λc=>kn known c) e.1];constructor
 .intro i;rw[i];rw[vQ,AF]
 .intro i;rw[<-i];rw[vQ (dg x (e.1.filter λc=>kn known c)),AF]
theorem acx{known:List Bool}{c d:Int}(b:0<=c)(a:0<=d)(e:c<(m8 known:Int)):kn (known.set c.toNat eL) d=(decide (d=c)||kn known d):=by
 unfold kn
 grind
theorem UO(h:jV n w l known vals)(j:∀e∈l,jd n w e){e:fp}(f:e∈l){c:Int}(r:(fA known vals e).1=[c]):jV n w l (known.set c.toNat eL) (vals.set c.toNat (fA known vals e).2):=by
 have b:=h.AH (j e f);have g:=b.df c n8;have u:=h.vlen;have s:=h.klen;refine⟨n8,n8,λd o=>?_,λt k x m i d h0 p q=>?_⟩
 .rw[lD,qg,List.getElem?_set];by_cases a:c.toNat=d
  .subst a;simp[show c.toNat<m8 known by omega,b.len]
  .rw[k4 a,k4 a,h.row d o,qg]
 .rw[acx g.1 h0 nb]at q;rw[lD];by_cases a:d=c
  .subst a;have:=(h.Ez (j e f) (h.sound t k x m i)).2 (i e f);unfold Sat at this;rw[r]at this;simpa[dg]using this
  .rw[k4 nb];exact h.sound t k x m i d h0 p n8
theorem Dk(h:jV n w l known vals)(e:fp):∀c∈(fA known vals e).1,kn known c=eR:=λc a=>by
 have:=(qJ.1 a).2;grind
def aX(known:List Bool)(vals:aO)(l:List fp):List fp:=(l.map (fA known vals)).filter λe=>!e.1.isEmpty
def kE(known:List Bool)(vals:aO)(l:List fp):Bool:=(l.map (fA known vals)).any λe=>e.1.isEmpty&&e.2.any (· !=0)
theorem Mq(h:jV n w l known vals)(d:∀e∈l,jd n w e)(f:kE known vals l=eR){t:UInt8}{k:Nat}{x:Int->UInt8}(j:k<w):
  (∀e∈l,Sat t k x e)↔(∀c:Int,0<=c->c<(n:Int)->kn known c=eL->x c=Gf.mul t (aM (az vals c.toNat) k))/\∀e∈aX known vals l,Sat t k x e:=by
 constructor
 .intro g;refine⟨h.sound t k x j g,λe a=>?_⟩;obtain⟨m,b,rfl⟩:=qI.1 (qJ.1 a).1;exact(h.Ez (d m b) (h.sound t k x j g)).2 (g m b)
 .rintro⟨o,q⟩ e a;refine(h.Ez (d e a) o).1 ?_;by_cases i:(fA known vals e).1=[]
  .unfold Sat;rw[i,dg];have p:((fA known vals e).1.isEmpty&&(fA known vals e).2.any (· !=0))=eR:=by
    have:=wh.1 f _ (List.mem_map_of_mem a)
    grind
   rw[]at p;have r:∀y∈(fA known vals e).2,y=0:=n8
   have h3:=(h.AH (d e a)).len;have:aM (fA known vals e).2 k=0:=by rw[aM,qg,qc nb];exact r _ (qe _)
   rw[this,Gf.mul_zero]
  .refine q _ (qJ.2 ⟨List.mem_map_of_mem a,?_⟩)
   grind
theorem Su(h:jV n w l known vals)(i:∀e∈l,jd n w e)(c:kE known vals l=eL):∃k,k<w/\∀x:Int->UInt8,¬∀e∈l,Sat 1 k x e:=by
 obtain⟨y,p,d⟩:=zR.1 c;obtain⟨e,b,rfl⟩:=qI.1 p;rw[qz]at d;obtain⟨z,m,a⟩:=zR.1 d.2;obtain⟨k,o,rfl⟩:=qD m;have h3:=(h.AH (i e b)).len;refine⟨k,nb,λx j=>?_⟩;have g:=(h.Ez (i e b) (h.sound 1 k x nb j)).2 (j e b);unfold Sat at g;have f:(fA known vals e).1=[]:=by simpa using d.1
 rw[f,dg,Gf.one_mul,aM,qg,qc o]at g;simp at a;exact a g.symm
end
def ke(op:List Bool)(c:Int):Bool:=op.getD c.toNat eR
def dh(op:List Bool)(r:aC):aC:=r.filter (ke op)
def lj(rows:cV)(op us:List Bool)(i:Nat):Bool:=!(us.getD i eR)&&(dh op (rows.getD i [])).length==1
def lR(rows:cV)(op us:List Bool):Option Nat:=(qy rows.length).find? (lj rows op us)
def eV(rows:cV)(op:List Bool)(i:Nat):Int:=(dh op (rows.getD i [])).getLast?.getD 0
def kF(a:aC)(r:aC):aC:=r.foldl (λa c=>a.set c.toNat (a.getD c.toNat 0+1)) a
def lF(g:Nat->aC->aC)(rows:cV)(us:List Bool)(a:aC):Nat->aC
 |0=>a
 |k+1=>if us.getD k eR then lF g rows us a k else kF (lF g rows us a k) (g k (rows.getD k []))
def iZ(op:List Bool)(a:aC):Nat->Int
 |0=>-1
 |k+1=>if op.getD k eR&&(decide (iZ op a k<0)||decide (a.getD k 0>a.getD (iZ op a k).toNat 0))then(k:Int)else iZ op a k
def iJ(rows:cV)(op us:List Bool):Int:=iZ op (lF (λ_ r=>r) rows us (qf op.length 0) rows.length) op.length
structure Pl where
 steps:List (Int×Int)
 dead:aC
 used:List Bool
def cE(rows:cV):Nat->List Bool->List Bool->Pl
 |0,_,us=>⟨[],[],us⟩
 |k+1,op,us=>
  if op.contains eL then
   match lR rows op us with
   |some i=>let r:=cE rows k (op.set (eV rows op i).toNat eR) (us.set i eL);⟨((i:Int),eV rows op i)::r.steps,r.dead,r.used⟩
   |none=>let r:=cE rows k (op.set (iJ rows op us).toNat eR) us;⟨r.steps,iJ rows op us::r.dead,r.used⟩
  else⟨[],[],us⟩
def fS(us:List Bool):Nat->aC
 |0=>[]
 |k+1=>if us.getD k eR then fS us k else fS us k++[(k:Int)]
def eP(n:Nat)(rows:cV):Pl:=cE rows n (qf n eL) (qf rows.length eR)
theorem UP{P:Nat->Bool}{n:Nat}(h:∀j,j<n->P j=eR):(qy n).find? P=none:=n8
theorem UQ{P:Nat->Bool}{n k:Nat}(f:k<n)(h:∀j,j<k->P j=eR)(d:P k=eL):(qy n).find? P=dB k:=by
 rw[List.find?_eq_some_iff_append];refine⟨d,qy k,xC (k+1) (n-k-1),?_,λa e=>?_⟩
 .rw[yJ,yJ];have c:n=k+(n-k):=nb
  have b:n-k=(n-k-1)+1:=nb
  conv=>lhs;rw[c,<-List.range'_append_1 (s:=0) (m:=k) (n:=n-k)]
  rw[w9]
  conv=>lhs;rw[b,List.range'_succ]
 grind
theorem OC(a r:aC)(c:Int):kF a (r++[c])=(kF a r).set c.toNat ((kF a r).getD c.toNat 0+1):=by simp[kF]
theorem Cl(b r:aC):(kF b r).length=m8 b:=by
 induction r generalizing b with
 |nil=>rfl
 |cons a t ih=>simp only[kF,]at*;grind
theorem By(g:Nat->aC->aC)(rows:cV)(us:List Bool)(a:aC):∀k,(lF g rows us a k).length=m8 a
 |0=>rfl
 |k+1=>by
  unfold lF;split
  .exact By g rows us a k
  .rw[Cl,By g rows us a k]
theorem Dl{m:Int}:∀{r b:aC},(∀x∈b,0<=x/\x<=m)->∀x∈kF b r,0<=x/\x<=m+m8 r
 |[],b,h,x,hx=>by have:=h x hx;grind
 |a::t,b,h,x,hx=>by
  have d:∀y∈b.set a.toNat (b.getD a.toNat 0+1),0<=y/\y<=m+1:=by
   intro y c;rcases List.mem_or_eq_of_mem_set c with c|c
   .grind
   .subst c;cases hc:b[a.toNat]? with
    |none=>
     rw[List.getElem?_eq_none_iff]at hc;rw[List.set_eq_of_length_le hc]at c
     grind
    |some z=>have:=h z (List.mem_of_getElem? hc);grind
  have:=Dl (r:=t) d x hx
  grind
theorem Mr(g:Nat->aC->aC){rows:cV}{us:List Bool}{n:Nat}(a:∀k,(g k (rows.getD k [])).length<=64):∀k,∀x∈lF g rows us (qf n 0) k,0<=x/\x<=64*k
 |0,x,hx=>by
  have:=List.eq_of_mem_replicate hx
  grind
 |k+1,x,hx=>by
  unfold lF at hx;split at hx
  .have:=Mr g a k x hx;omega
  .have:=Dl (Mr g a k) x hx
   grind
theorem JJ(op:List Bool)(a:aC):∀k,(iZ op a k=-1/\∀j,j<k->op.getD j eR=eR)∨(0<=iZ op a k/\iZ op a k<k/\op.getD (iZ op a k).toNat eR=eL)
 |0=>.inl ⟨m9,λj b=>nb⟩
 |k+1=>by
  unfold iZ;split
  .grind
  .rcases JJ op a k with⟨e,h⟩|⟨h1,h2,h3⟩
   .grind
   grind
theorem Dm{op:List Bool}(h:op.contains eL=eL):∃j,j<m8 op/\op.getD j eR=eL:=by simp only[List.contains_iff_mem]at h;obtain⟨j,a,e⟩:=qD h;exact⟨j,a,n8⟩
theorem rR{rows:cV}{op us:List Bool}(h:op.contains eL=eL):0<=iJ rows op us/\iJ rows op us<m8 op/\op.getD (iJ rows op us).toNat eR=eL:=by
 obtain⟨j,a,e⟩:=Dm h;rcases JJ op (lF (λ_ r=>r) rows us (qf op.length 0) rows.length) op.length with⟨_,h2⟩|h2
 .grind
 .exact h2
theorem oY{rows:cV}{op us:List Bool}{i:Nat}(h:lR rows op us=dB i):i<m8 rows/\lj rows op us i=eL:=by
 have b:=List.mem_of_find?_eq_some h;have a:=List.find?_some h
 grind
theorem ui{rows:cV}{op us:List Bool}{i:Nat}(a:lj rows op us i=eL):dh op (rows.getD i [])=[eV rows op i]/\eV rows op i∈rows.getD i []/\ke op (eV rows op i)=eL:=by
 simp only[lj,qz,beq_iff_eq]at a;obtain⟨c,d⟩:=List.length_eq_one_iff.1 a.2;have e:eV rows op i=c:=by unfold eV;grind
 have b:c∈dh op (rows.getD i []):=n8
 rw[dh,]at b
 grind
theorem jH{op:List Bool}{j:Nat}(h:op.getD j eR=eL):(op.set j eR).count eL+1=op.count eL:=n8
theorem uW{rows:cV}{op us:List Bool}(h:op.contains eL=eR):∀k,cE rows k op us=⟨[],[],us⟩
 |0=>rfl
 |k+1=>by unfold cE;grind
theorem mO{rows:cV}{op us:List Bool}{i k:Nat}(h:op.contains eL=eL)(a:lR rows op us=dB i):
  cE rows (k+1) op us=⟨((i:Int),eV rows op i)::(cE rows k (op.set (eV rows op i).toNat eR) (us.set i eL)).steps,(cE rows k (op.set (eV rows op i).toNat eR) (us.set i eL)).dead,(cE rows k (op.set (eV rows op i).toNat eR) (us.set i eL)).used⟩:=by
 rw[cE,h,a];rfl
theorem oA{rows:cV}{op us:List Bool}{k:Nat}(h:op.contains eL=eL)(a:lR rows op us=none):
  cE rows (k+1) op us=⟨(cE rows k (op.set (iJ rows op us).toNat eR) us).steps,iJ rows op us::(cE rows k (op.set (iJ rows op us).toNat eR) us).dead,(cE rows k (op.set (iJ rows op us).toNat eR) us).used⟩:=by
 rw[cE,h,a];rfl
theorem sv(rows:cV):∀k op us,(cE rows k op us).used.length=m8 us
 |0,_,_=>rfl
 |k+1,op,us=>by
  unfold cE;split
  .split
   .rw[sv];simp
   .rw[sv]
  .rfl
theorem EB(us:List Bool):∀k,(fS us k).length<=k
 |0=>by simp[fS]
 |k+1=>by
  have:=EB us k;unfold fS
  grind
theorem nz{op:List Bool}{f:Nat}(h:op.count eL=f+1):op.contains eL=eL:=by
 have:0<op.count eL:=nb
 rw[List.count_pos_iff]at this;simpa using this
theorem EY{P:Nat->Bool}{n j:Nat}(a:j<n)(h:P j=eL):∃i,(qy n).find? P=dB i:=by
 cases hf:(qy n).find? P with
 |some i=>simp
 |none=>
  grind
theorem mP(l:List Bool)(i j:Nat)(x:Bool):(l.set i x).getD j eR=if i=j/\j<m8 l then x else l.getD j eR:=n8
def oe(rows:cV)(op us:List Bool):Prop:=∀i,us.getD i eR=eL->dh op (rows.getD i [])=[]
theorem ni{op:List Bool}{c d:Int}(h:ke (op.set d.toNat eR) c=eL):ke op c=eL/\c.toNat≠d.toNat:=by
 unfold ke at*
 grind
theorem JK{rows:cV}{op us:List Bool}{i:Nat}(k:oe rows op us)(d:lj rows op us i=eL):oe rows (op.set (eV rows op i).toNat eR) (us.set i eL):=by
 obtain⟨n,l,h3⟩:=ui d;intro j a;rw[mP]at a;rw[dh,yZ];intro c m b;obtain⟨b,h⟩:=ni b;have f:c∈dh op (rows.getD j []):=by rw[dh,];grind
 by_cases e:i=j
 .grind
 .rw[k4 λg=>e g.1]at a;rw[k j a]at f
  grind
theorem XU{rows:cV}{n:Nat}(ex:∀op us,m8 op=n->m8 us=m8 rows->oe rows op us->op.contains eL=eL->∃j,j<m8 rows/\lj rows op us j=eL):
  ∀k op us,m8 op=n->m8 us=m8 rows->oe rows op us->op.count eL=k->
   (cE rows k op us).dead=[]/\(cE rows k op us).steps.length=k/\(cE rows k op us).used.count eL=us.count eL+k
 |0,_,_,_,_,_,_=>⟨m9,m9,m9⟩
 |k+1,op,us,hl,hul,hu,hc=>by
  have f:=nz hc;obtain⟨j,p,g⟩:=ex op us hl hul hu f;obtain⟨i,h⟩:∃i,lR rows op us=dB i:=EY p g;obtain⟨o,d⟩:=oY h;have e:=(ui d).2.2;have m:=jH (op:=op) (j:=(eV rows op i).toNat) e;have l:us[i]'nb=eR:=by
   simp only[lj,]at d
   grind
  obtain⟨a,b,c⟩:=XU ex k (op.set (eV rows op i).toNat eR) (us.set i eL) D6 (by simp[hul]) (JK hu d) nb;rw[mO f h]
  grind
theorem Dn(n j:Nat):(qf n eR).getD j eR=eR:=n8
theorem acy{rows:cV}{r:aC}(h:r∈rows):∃j,j<m8 rows/\rows.getD j []=r:=by obtain⟨j,a,e⟩:=qD h;exact⟨j,a,n8⟩
def other(m i:Nat):Nat:=if i<m then i else i+1
def rS(rows:cV):(Int->Prop)->(Int->Prop)->List (Int×Int)->Prop
 |_,_,[]=>True
 |D,U,(i,c)::t=>(0<=i/\i<m8 rows)/\¬U i/\¬D c/\c∈rows.getD i.toNat []/\(∀a∈rows.getD i.toNat [],a≠c->D a)/\rS rows (λx=>D x∨x=c) (λx=>U x∨x=i) t
def aeu(op:List Bool)(c:Int):Prop:=0<=c/\ke op c=eL
theorem acz{op:List Bool}{c:Int}(h:ke op c=eL):c.toNat<m8 op:=by
 by_cases a:c.toNat<m8 op
 .exact a
 .unfold ke at h;grind
theorem QA{op:List Bool}{c d:Int}(e:0<=c)(f:0<=d):ke op c=eL->c≠d->ke (op.set d.toNat eR) c=eL:=by intro h a;unfold ke;rw[mP,k4 λb=>a nb];exact h
theorem sQ{op:List Bool}{d:Int}(h:ke op d=eL):ke (op.set d.toNat eR) d=eR:=by
 unfold ke
 grind
structure adU (rows:cV) (op us:List Bool) (r:Pl):Prop where
 df:m8 r.steps+m8 r.dead=op.count eL
 used:r.used.count eL=us.count eL+m8 r.steps
 keepU:∀i,us.getD i eR=eL->r.used.getD i eR=eL
 dead:∀c∈r.dead,aeu op c
 deadN:r.dead.Nodup
 good:∀D U:Int->Prop,(∀c:Int,0<=c->c<m8 op->(D c↔ke op c=eR∨c∈r.dead))->(∀i:Nat,i<m8 rows->(U i↔us.getD i eR=eL∨r.used.getD i eR=eR))->rS rows D U r.steps
theorem XV{us:List Bool}{i:Nat}(h:us.getD i eR=eR)(a:i<m8 us):(us.set i eL).count eL=us.count eL+1:=n8
theorem Ms{rows:cV}{n:Nat}(b:∀r∈rows,∀c∈r,0<=c/\c<n):∀k op us,m8 op=n->m8 us=m8 rows->op.count eL=k->adU rows op us (cE rows k op us)
 |0,op,us,hl,hul,hc=>⟨by simp[cE,hc],by simp[cE],λi h=>h,λc h=>by simp[cE]at h,by simp[cE],λ_ _ _ _=>trivial⟩
 |k+1,op,us,hl,hul,hc=>by
  have s:=nz hc;cases hst:lR rows op us with
  |some i=>
   obtain⟨g,q⟩:=oY hst;obtain⟨M,K,h3⟩:=ui q;have l:rows.getD i []=rows[i]:=by rw[qg,qc g];rfl
   have x:=b _ (qe g) _ (l▸K);have B:=jH (op:=op) (j:=(eV rows op i).toNat) h3;have v:us.getD i eR=eR:=by simp only[lj,qz,Bool.not_eq_true']at q;exact q.1
   have L:=XV v nb;have a:=Ms b k (op.set (eV rows op i).toNat eR) (us.set i eL) D6 (by simp[hul]) nb;rw[mO s hst];generalize cE rows k (op.set (eV rows op i).toNat eR) (us.set i eL)=r at a;generalize I:eV rows op i=c at*;have z:r.used.getD i eR=eL:=a.keepU i (by rw[mP,hZ ⟨m9,nb⟩]);have u:c∉r.dead:=λh=>by
    have:=(a.dead c h).2;rw[sQ h3]at this;cases this
   refine⟨by simp only[q7];have:=a.df;omega,by simp only[q7];have:=a.used;omega,λj G=>a.keepU j (by rw[mP];split;rfl;exact G),λd p=>⟨(a.dead d p).1,(ni (a.dead d p).2).1⟩,a.deadN,λD U w y=>?_⟩;have o:rows.getD ((i:Int)).toNat []=rows.getD i []:=by rw[qi]
   refine⟨nb,?_,?_,by rw[o];exact K,?_,?_⟩
   .rw[y i g,v,z];simp
   .rw[w c x.1 nb,h3];simp[u]
   .intro F t E;rw[o]at t;have A:=b _ (qe g) _ (l▸t);refine(w F A.1 nb).2 (.inl ?_);cases ho:ke op F with
    |false=>rfl
    |true=>
     have:F∈dh op (rows.getD i []):=by rw[dh,qJ];exact⟨t,ho⟩
     rw[M]at this;simp at this;exact absurd this E
   .refine a.good _ _ (λd f m=>?_) (λj G=>?_)
    .simp only[qP]at m;rw[w d f m];by_cases e:d=c
     .subst e;simp[sQ h3]
     .cases ho:ke op d with
      |true=>rw[QA f x.1 ho e];simp[e]
      |false=>
       have:ke (op.set c.toNat eR) d=eR:=by
        cases hh:ke (op.set c.toNat eR) d with
        |false=>rfl
        |true=>rw[(ni hh).1]at ho;cases ho
       rw[this];simp
    .rw[y j G,mP];by_cases e:i=j
     .subst e;simp[hul,g]
     .have N:¬((j:Int)=(i:Int)):=λh=>e nb;simp[e,N]
  |none=>
   obtain⟨J,m2,H⟩:=rR (rows:=rows) (us:=us) s;have B:=jH (op:=op) (j:=(iJ rows op us).toNat) H;have a:=Ms b k (op.set (iJ rows op us).toNat eR) us D6 hul nb;rw[oA s hst];generalize cE rows k (op.set (iJ rows op us).toNat eR) us=r at a;generalize iJ rows op us=c at*;have h3:ke op c=eL:=H;have u:c∉r.dead:=λh=>by
    have:=(a.dead c h).2;rw[sQ h3]at this;cases this
   refine⟨by simp only[q7];have:=a.df;omega,a.used,a.keepU,λd p=>?_,by simp only[y9];exact⟨u,a.deadN⟩,λD U w y=>?_⟩
   .rcases qN.1 p with rfl|p
    .exact⟨J,h3⟩
    .exact⟨(a.dead d p).1,(ni (a.dead d p).2).1⟩
   .refine a.good D U (λd f m=>?_) y;simp only[qP]at m;rw[w d f m];by_cases e:d=c
    .subst e;simp[sQ h3]
    .have:ke (op.set c.toNat eR) d=ke op d:=by
      cases ho:ke op d with
      |true=>exact QA f J ho e
      |false=>
       cases hh:ke (op.set c.toNat eR) d with
       |false=>rfl
       |true=>rw[(ni hh).1]at ho;cases ho
     rw[this];simp[e]
theorem Bz(us:List Bool):∀k (c:Int),c∈fS us k↔∃j:Nat,c=j/\j<k/\us.getD j eR=eR
 |0,c=>by simp[fS]
 |k+1,c=>by
  have e:=Bz us k c;unfold fS;cases h:us.getD k eR with
  |true=>
   simp only[if_true];rw[e];constructor
   .rintro⟨j,a,b,d⟩;exact⟨j,a,nb,d⟩
   .rintro⟨j,a,b,d⟩;refine⟨j,a,?_,d⟩;rcases q8.1 b with b|rfl
    .exact b
    .rw[h]at d;cases d
  |false=>
   simp only[zc,if_false,qw,qB];rw[e];constructor
   .rintro(⟨j,a,b,d⟩|rfl)
    .exact⟨j,a,nb,d⟩
    .exact⟨k,m9,nb,h⟩
   .rintro⟨j,a,b,d⟩;rcases q8.1 b with b|rfl
    .exact .inl ⟨j,a,b,d⟩
    .exact .inr a
theorem Mt(us:List Bool):∀k,k<=m8 us->(fS us k).length+(us.take k).count eL=k
 |0,_=>by simp[fS]
 |k+1,hk=>by
  have a:=Mt us k nb;have e:us.getD k eR=us[k]:=by rw[qg,qc nb];rfl
  unfold fS;rw[zx nb,List.count_append,e];cases us[k]<;>simp<;>omega
theorem uj{rows:cV}{n:Nat}(a:∀r∈rows,∀c∈r,0<=c/\c<n):
  (eP n rows).steps.length+(eP n rows).dead.length=n/\(eP n rows).steps.length+(fS (eP n rows).used rows.length).length=m8 rows/\(∀c∈(eP n rows).dead,0<=c/\c<n)/\(eP n rows).dead.Nodup/\
  (∀c∈fS (eP n rows).used rows.length,0<=c/\c<m8 rows)/\rS rows (·∈(eP n rows).dead) (·∈fS (eP n rows).used rows.length) (eP n rows).steps:=by
 have h:=Ms a n (qf n eL) (qf rows.length eR) n4 n4 n4;have p:(eP n rows).used.length=m8 rows:=by unfold eP;rw[sv];simp
 have b:=Mt (eP n rows).used rows.length nb;rw[List.take_of_length_le nb]at b;refine⟨by have:=h.df;simpa[eP]using this,?_,λc e=>?_,h.deadN,λc e=>?_,?_⟩
 .have:=h.used;have k:(qf rows.length eR).count eL=0:=by simp[List.count_replicate]
  rw[k]at this;unfold eP at*;omega
 .obtain⟨h0,g⟩:=h.dead c e;have:=acz g;simp at this;omega
 .obtain⟨j,rfl,l,_⟩:=(Bz _ _ _).1 e;omega
 .refine h.good _ _ (λc m d=>?_) (λi o=>?_)
  .have:ke (qf n eL) c=eL:=by simp at d;unfold ke;rw[qg,qc n2];simp
   rw[this];simp[eP]
  .rw[Dn,Bz];constructor
   .rintro⟨j,l,_,f⟩;have:j=i:=nb
    subst this;exact .inr f
   .rintro(hh|hh)
    .cases hh
    .exact⟨i,m9,o,hh⟩
theorem Do{rows:cV}:∀k op us i,(cE rows k op us).used.getD i eR=eL->us.getD i eR=eL∨∃c,((i:Int),c)∈(cE rows k op us).steps
 |0,_,_,_,h=>.inl h
 |k+1,op,us,i,h=>by
  by_cases a:op.contains eL=eL
  .cases hst:lR rows op us with
   |some j=>
    rw[mO a hst]at h⊢;rcases Do k _ _ i h with h1|⟨c,hc⟩
    .grind
    grind
   |none=>
    rw[oA a hst]at h⊢;exact Do k _ _ i h
  .have a:op.contains eL=eR:=n8
   rw[uW a]at h⊢;grind
theorem Dp{rows:cV}{n:Nat}(a:∀r∈rows,∀c∈r,0<=c/\c<(n)):∀k op us,m8 op=n->op.count eL=k->∀c:Nat,op.getD c eR=eL->
  (c:Int)∈(cE rows k op us).dead∨∃i,(i,(c:Int))∈(cE rows k op us).steps
 |0,op,us,hl,hc,c,h=>n8
 |k+1,op,us,hl,hc,c,h=>by
  have b:=nz hc;cases hst:lR rows op us with
  |some j=>
   rw[mO b hst];obtain⟨l,g⟩:=oY hst;obtain⟨t,p,h3⟩:=ui g;have d:rows.getD j []=rows[j]:=n8
   have q:=a _ (qe l) _ (d▸p);have f:=jH (op:=op) (j:=(eV rows op j).toNat) h3;by_cases e:(eV rows op j).toNat=c
   .exact .inr ⟨j,by rw[show((c))=eV rows op j by omega];simp⟩
   .rcases Dp a k (op.set (eV rows op j).toNat eR) (us.set j eL) D6 nb c (by rw[mP,k4 λm=>e m.1];exact h)with h5|⟨i,h5⟩
    .exact .inl h5
    .exact .inr ⟨i,qp _ h5⟩
  |none=>
   rw[oA b hst];obtain⟨s,m2,o⟩:=rR (rows:=rows) (us:=us) b;have f:=jH (op:=op) (j:=(iJ rows op us).toNat) o;by_cases e:(iJ rows op us).toNat=c
   .grind
   .rcases Dp a k (op.set (iJ rows op us).toNat eR) us D6 nb c (by rw[mP,k4 λm=>e m.1];exact h)with h5|⟨i,h5⟩
    .exact .inl (qp _ h5)
    .exact .inr ⟨i,h5⟩
theorem Sv{rows:cV}{op us:List Bool}{c:Int}(h:oe rows op us):oe rows (op.set c.toNat eR) us:=λi b=>by
 have:=h i b;rw[dh,yZ]at this⊢;exactλd e a=>this d e (ni a).1
theorem BA{rows:cV}{c:Int}(m:[c]∈rows):∀k op us,oe rows op us->(∀d:Int,d<0->d∉(cE rows k op us).dead)->0<=c->c∉(cE rows k op us).dead
 |0,_,_,_,_,_=>by simp[cE]
 |k+1,op,us,hu,_,h0=>by
  by_cases a:op.contains eL=eL
  .cases hst:lR rows op us with
   |some j=>
    rw[mO a hst];dsimp only;obtain⟨_,l⟩:=oY hst;exact BA m k _ _ (JK hu l) (λd q b=>by
     have g:∀k op us,∀d∈(cE rows k op us).dead,0<=d:=plan_dead0;have:=g _ _ _ d b;omega) h0
   |none=>
    rw[oA a hst];obtain⟨t,m2,p⟩:=rR (rows:=rows) (us:=us) a;dsimp only;intro b;rcases qN.1 b with e|b
    .obtain⟨j,s,f⟩:=acy m;have n:dh op [c]=[c]:=by rw[dh,zA,hZ (show ke op c=eL by rw[e];exact p)];rfl
     have r:lj rows op us j=eL:=by
      unfold lj;rw[f,n];cases hus:us.getD j eR with
      |false=>rfl
      |true=>have:=hu j hus;rw[f,n]at this;cases this
     obtain⟨i,o⟩:∃i,lR rows op us=dB i:=EY s r;rw[hst]at o;cases o
    .exact BA m k _ _ (Sv hu) (λd q b=>by have:=plan_dead0 (rows:=rows) _ _ _ d b;omega) h0 b
  .have a:op.contains eL=eR:=A8
   rw[uW a];simp
where
 plan_dead0 {rows:cV}:∀k op us,∀d∈(cE rows k op us).dead,0<=d
  |0,_,_,d,h=>by simp[cE]at h
  |k+1,op,us,d,h=>by
   by_cases a:op.contains eL=eL
   .cases hst:lR rows op us with
    |some j=>rw[mO a hst]at h;exact plan_dead0 k _ _ d h
    |none=>
     rw[oA a hst]at h;rcases qN.1 h with rfl|h
     .exact(rR a).1
     .exact plan_dead0 k _ _ d h
   .have a:op.contains eL=eR:=A8
    rw[uW a]at h;simp at h
def rT(R:cV):(Int->Prop)->List (Int×Int)->Prop
 |_,[]=>True
 |D,(i,c)::t=>(0<=i/\i<m8 R)/\¬D c/\c∈R.getD i.toNat []/\(∀a∈R.getD i.toNat [],a≠c->D a)/\rT R (λx=>D x∨x=c) t
theorem Ag{R S:cV}{K:Int->Prop}(f:∀r∈R,∀c∈r,¬K c)(u:∀r∈S,∀c∈r,K c):∀{a:List (Int×Int)} {D D' U:Int->Prop},rS (R++S) D U a->(∀c,¬K c->(D c↔D' c))->
  rT R D' (a.filter λp=>decide (p.1<m8 R))
 |[],_,_,_,_,_=>trivial
 |(i,c)::t,D,D',U,h,hD=>by
  obtain⟨w,z,h3,k,v,x⟩:=h;rw[zA];by_cases s:i<m8 R
  .have e:(R++S).getD i.toNat []=R.getD i.toNat []:=by rw[qg,List.getElem?_append_left nb,qg]
   have j:R.getD i.toNat []∈R:=by rw[qg,qc nb];exact qe _
   rw[e]at k v;have l:=f _ j c k;rw[hZ (by simpa using s)];refine⟨⟨w.1,s⟩,λn=>h3 ((hD c l).2 n),k,λo b m=>(hD o (f _ j o b)).1 (v o b m),Ag f u x λd g=>?_⟩;rw[hD d g]
  .rw[k4 (by simpa using s)];have j:(R++S).getD i.toNat []∈S:=by have q:=w.2;rw[qo]at q;rw[qg,qk nb,qc nb];exact qe _
   have l:=u _ j c k;refine Ag f u x λd g=>?_;rw[<-hD d g];exact⟨λn=>n.elim id λy=>absurd (y▸l) g,.inl⟩
def ev(t:UInt8)(k nd:Nat)(W M:aO)(y:Nat->UInt8)(c:Int):UInt8:=bW (λi=>aM (az W c.toNat) i) y nd^^^Gf.mul t (aM (az M c.toNat) k)
theorem FS{a b:Row}(h:m8 a=m8 b)(c:UInt8)(y:Nat->UInt8)(n:Nat):bW (λj=>aM (cN c a b) j) y n=bW (λj=>aM b j) y n^^^Gf.mul c (bW (λj=>aM a j) y n):=by rw[gI n (λj _=>db h j) λ_ _=>rfl];exact Eu _ _ _ _ _
theorem Mu{V:aO}{m:Nat}(y:Nat->UInt8)(n:Nat):∀{l:aC} {a:Row},m8 a=m->(∀c∈l,(az V c.toNat).length=m)->bW (λj=>aM (cY V a l) j) y n=bW (λj=>aM a j) y n^^^dg (λc=>bW (λj=>aM (az V c.toNat) j) y n) l
 |[],a,_,_=>by simp[cY,dg]
 |c::l,a,h,hv=>by
  have b:(az V c.toNat).length=m8 a:=by rw[hv c n4,h]
  have:=Mu (V:=V) y n (l:=l) (a:=cN 1 (az V c.toNat) a) (by rw[cl b];exact h) λd e=>hv d B9;rw[cY,zO];rw[cY]at this;rw[this,FS b,Gf.one_mul,dg];ac_rfl
theorem Mw(t:UInt8)(x:Int->UInt8):∀l,dg (λc=>Gf.mul t (x c)) l=Gf.mul t (dg x l)
 |[]=>by simp[dg,Gf.mul_zero]
 |c::l=>by rw[dg,dg,Gf.jL,Mw t x l]
theorem IM{W M:aO}{nd w:Nat}{l:aC}{a m:Row}(f:m8 a=nd)(b:m8 m=w)(d:∀c∈l,(az W c.toNat).length=nd)(e:∀c∈l,(az M c.toNat).length=w)(t:UInt8)(k:Nat)(y:Nat->UInt8):
  bW (λj=>aM (cY W a l) j) y nd^^^Gf.mul t (aM (cY M m l) k)=(bW (λj=>aM a j) y nd^^^Gf.mul t (aM m k))^^^dg (ev t k nd W M y) l:=by
 rw[Mu y nd f d,FR k b e,Gf.jL];have:dg (ev t k nd W M y) l=dg (λc=>bW (λj=>aM (az W c.toNat) j) y nd) l^^^Gf.mul t (dg (λc=>aM (az M c.toNat) k) l):=by rw[<-Mw,<-Mp];rfl
 rw[this];ac_rfl
def ie(rest:List fp)(nd:Nat)(s:aO×aO)(p:Int×Int):aO×aO:=
 let r:=rest.getD p.1.toNat ([],[])
 (s.1.set p.2.toNat (cY s.1 (aN nd) (r.1.filter λc=>!decide (c=p.2))),s.2.set p.2.toNat (cY s.2 r.2 (r.1.filter λc=>!decide (c=p.2))))
structure UR (n nd w:Nat) (D:Int->Prop) (W M:aO):Prop where
 wl:m8 W=n
 ml:m8 M=n
 rw_:∀c:Int,D c->0<=c->c<(n:Int)->(az W c.toNat).length=nd/\(az M c.toNat).length=w
theorem BB{W M a b:aO}{t:UInt8}{k nd:Nat}{y:Nat->UInt8}{c:Int}(e:az a c.toNat=az W c.toNat)(d:az b c.toNat=az M c.toNat):ev t k nd a b y c=ev t k nd W M y c:=by unfold ev;rw[e,d]
theorem FT{n nd w:Nat}{rest:List fp}(A:∀e∈rest,jd n w e):∀{a:List (Int×Int)} {D:Int->Prop} {W M:aO},rT (rest.map qC) D a->UR n nd w D W M->
  UR n nd w (λc=>D c∨∃i,(i,c)∈a) (a.foldl (ie rest nd) (W,M)).1 (a.foldl (ie rest nd) (W,M)).2/\
  (∀c:Int,D c->0<=c->az (a.foldl (ie rest nd) (W,M)).1 c.toNat=az W c.toNat/\az (a.foldl (ie rest nd) (W,M)).2 c.toNat=az M c.toNat)/\
  (∀p∈a,∀t k y,k<w->Sat t k (ev t k nd (a.foldl (ie rest nd) (W,M)).1 (a.foldl (ie rest nd) (W,M)).2 y) (rest.getD p.1.toNat ([],[])))/\
  (∀t k x y,k<w->(∀c:Int,D c->0<=c->c<(n:Int)->x c=ev t k nd W M y c)->(∀p∈a,Sat t k x (rest.getD p.1.toNat ([],[])))->∀c:Int,(D c∨∃i,(i,c)∈a)->0<=c->c<(n:Int)->x c=ev t k nd (a.foldl (ie rest nd) (W,M)).1 (a.foldl (ie rest nd) (W,M)).2 y c)
 |[],D,W,M,_,hw=>⟨⟨hw.wl,hw.ml,λc X=>hw.rw_ c (X.elim id λ⟨i,h⟩=>p9)⟩,λ_ _ _=>⟨m9,m9⟩,λp q=>by(cases q),λt k x y J H _ c X h0 o=>H c (X.elim id λ⟨i,h⟩=>p9) h0 o⟩
 |(i,c)::st,D,W,M,hg,hw=>by
  obtain⟨g1,g2,O,g4,g5⟩:=hg;have r:i.toNat<m8 rest:=by have:=g1.2;rw[qn]at this;omega
  obtain⟨e,P⟩:=HF (rest[i.toNat])
  have S:rest.getD i.toNat ([],[])=e:=by rw[qg,qc r,P];rfl
  have ab:(rest.map qC).getD i.toNat []=e.1:=by rw[qg,List.getElem?_map,qc r,P];rfl
  rw[ab]at O g4;have l:=A e (P▸qe r);have ad:=l.df c O;obtain⟨F,L⟩:=HF (e.1.filter (λd=>!decide (d=c)))
  have u:∀d∈F,d∈e.1/\d≠c:=λd b=>by rw[L,qJ]at b;exact⟨b.1,by simpa using b.2⟩
  have f:∀d∈F,D d/\0<=d/\d<(n:Int):=λd b=>⟨g4 d (u d b).1 (u d b).2,l.df d (u d b).1⟩
  have l1:∀d∈F,(az W d.toNat).length=nd:=λd b=>(hw.rw_ d (f d b).1 (f d b).2.1 (f d b).2.2).1;have l2:∀d∈F,(az M d.toNat).length=w:=λd b=>(hw.rw_ d (f d b).1 (f d b).2.1 (f d b).2.2).2;have lz:(aN nd).length=nd:=pt
  have Z:ie rest nd (W,M) (i,c)=(W.set c.toNat (cY W (aN nd) F),M.set c.toNat (cY M e.2 F)):=by unfold ie;dsimp only;rw[S,<-L]
  have Q:=hw.wl;have V:=hw.ml;have G:∀d:Nat,az (W.set c.toNat (cY W (aN nd) F)) d=if c.toNat=d then cY W (aN nd) F else az W d:=λd=>lD
  have E:∀d:Nat,az (M.set c.toNat (cY M e.2 F)) d=if c.toNat=d then cY M e.2 F else az M d:=λd=>lD
  have Y:UR n nd w (λx=>D x∨x=c) (W.set c.toNat (cY W (aN nd) F)) (M.set c.toNat (cY M e.2 F)):=by
   refine⟨by simp[Q],by simp[V],λd b h0 o=>?_⟩;rw[G,E];by_cases g:c.toNat=d.toNat
   .rw[hZ g,hZ g];exact⟨jU lz l1,jU l.len l2⟩
   .rw[k4 g,k4 g];exact hw.rw_ d (b.elim id λK=>absurd (by rw[K]) g) h0 o
  obtain⟨I,R,r3,r4⟩:=FT A g5 Y;rw[zO,Z];generalize st.foldl (ie rest nd) (W.set c.toNat (cY W (aN nd) F),M.set c.toNat (cY M e.2 F))=s at I R r3 r4;have v:∀d:Int,D d->0<=d->c.toNat≠d.toNat:=λd b h0 K=>g2 (by rw[show c=d by omega];exact b);have keep:∀d:Int,D d->0<=d->az s.1 d.toNat=az W d.toNat/\az s.2 d.toNat=az M d.toNat:=λd b h0=>by
   have:=R d (.inl b) h0;rw[G,E,k4 (v d b h0),k4 (v d b h0)]at this;exact this
  have T:∀t k y,ev t k nd s.1 s.2 y c=Gf.mul t (aM e.2 k)^^^dg (ev t k nd W M y) F:=λt k y=>by
   have U:=R c (.inr m9) ad.1;rw[G,E,hZ rfl,hZ rfl]at U;unfold ev;rw[U.1,U.2,IM lz l.len l1 l2 t k y,go _ _ nd λj _=>cL _ _,wv];rfl
  have B:∀t k y,dg (ev t k nd s.1 s.2 y) F=dg (ev t k nd W M y) F:=λt k y=>kD λd b=>BB (keep d (f d b).1 (f d b).2.1).1 (keep d (f d b).1 (f d b).2.1).2;refine⟨⟨I.wl,I.ml,λd b h0 o=>I.rw_ d ?_ h0 o⟩,keep,λp q t k y J=>?_,λt k x y J H hs d b h0 o=>?_⟩
  .rcases b with b|⟨j,hj⟩
   .exact .inl (.inl b)
   .rcases qN.1 hj with hj|hj
    .injection hj with _ hj;exact .inl (.inr hj)
    .exact .inr ⟨j,hj⟩
  .rcases qN.1 q with rfl|q
   .dsimp only;rw[S];unfold Sat;rw[uV _ l.nodup O,<-L,T,B,AF]
   .exact r3 p q t k y J
  .refine r4 t k x y J (λd b h0 o=>?_) (λp q=>hs p (qp _ q)) d ?_ h0 o
   .by_cases g:d=c
    .subst g;have z:=hs (i,d) n4;dsimp only at z;rw[S]at z;unfold Sat at z;rw[uV _ l.nodup O,<-L,kD (y:=ev t k nd W M y) λN m=>H N (f N m).1 (f N m).2.1 (f N m).2.2]at z;have h6:ev t k nd (W.set d.toNat (cY W (aN nd) F)) (M.set d.toNat (cY M e.2 F)) y d=Gf.mul t (aM e.2 k)^^^dg (ev t k nd W M y) F:=by unfold ev;rw[G,E,hZ m9,hZ m9,IM lz l.len l1 l2 t k y,go _ _ nd λj _=>cL _ _,wv];rfl
     rw[h6,<-z,AF]
    .have m:D d:=b.elim id λK=>absurd K g;rw[H d m h0 o];refine(BB ?_ ?_).symm
     .rw[G,k4 nb]
     .rw[E,k4 nb]
   .rcases b with b|⟨j,hj⟩
    .exact .inl (.inl b)
    .rcases qN.1 hj with hj|hj
     .injection hj with _ hj;exact .inl (.inr hj)
     .exact .inr ⟨j,hj⟩
theorem JL:∀{l m:List Nat},l.Nodup->(∀x∈l,x∈m)->m8 l<=m8 m
 |[],_,_,_=>n4
 |x::l,m,hd,h=>by
  rw[y9]at hd;have b:=h x n4;have c:=JL (l:=l) (m:=m.erase x) hd.2 λy a=>(List.mem_erase_of_ne λd:y=x=>hd.1 (by rw[<-d];exact a)).2 (h y E1);rw[List.length_erase_of_mem b]at c;have:=List.length_pos_of_mem b;simp;omega
def nS(nd i:Nat):Row:=(aN nd).set i 1
theorem XW(nd i:Nat):(nS nd i).length=nd:=by simp[nS,aN]
theorem XX{nd i:Nat}(a:i<nd)(j:Nat):aM (nS nd i) j=if j=i then 1 else 0:=by rw[nS,Qv (by simpa[aN]using a),cL]
theorem XY{nd i:Nat}(a:i<nd)(y:Nat->UInt8):bW (λj=>aM (nS nd i) j) y nd=y i:=
 Et _ _ i nd a λj _=>by
  rw[XX a]
  grind
def gc(n nd w:Nat)(dead:aC):aO×aO:=
 (dead.zipIdx).foldl (λs p=>(s.1.set p.1.toNat (nS nd p.2),s.2.set p.1.toNat (aN w))) (qf n [],qf n [])
theorem GZ(n nd w:Nat)(d:aC)(c:Int):gc n nd w (d++[c])=((gc n nd w d).1.set c.toNat (nS nd d.length),(gc n nd w d).2.set c.toNat (aN w)):=by
 unfold gc
 grind
theorem IN{n nd w:Nat}{dead:aC}(f:∀c∈dead,0<=c/\c<(n))(j:dead.Nodup):∀k,k<=m8 dead->
  UR n nd w (·∈dead.take k) (gc n nd w (dead.take k)).1 (gc n nd w (dead.take k)).2/\∀i,(m:i<k)->(r:i<m8 dead)->az (gc n nd w (dead.take k)).1 dead[i].toNat=nS nd i/\az (gc n nd w (dead.take k)).2 dead[i].toNat=aN w
 |0,_=>⟨⟨by simp[gc],by simp[gc],λc l=>by simp at l⟩,λi m=>nb⟩
 |k+1,hk=>by
  obtain⟨h,r⟩:=IN (nd:=nd) (w:=w) f j k nb;have d:k<m8 dead:=nb
  have u:=f _ (qe d);have e:dead.take (k+1)=dead.take k++[dead[k]]:=zx d;have o:(dead.take k).length=k:=n2
  rw[e,GZ,o];have t:=h.wl;have p:=h.ml;refine⟨⟨D8,D4,λc l h0 h3=>?_⟩,λi m g=>?_⟩
  .rw[lD,lD];by_cases a:dead[k].toNat=c.toNat
   .rw[hZ a,hZ a];exact⟨XW _ _,pt⟩
   .rw[k4 a,k4 a];refine h.rw_ c ?_ h0 h3
    grind
  .rw[lD,lD];by_cases b:i=k
   .subst b;simp
   .have q:dead[k]≠dead[i]:=λs=>b ((List.getElem_inj j).1 s).symm;have:=f _ (qe g)
    grind
def iK(nd:Nat)(known:List Bool)(vals:aO)(s:aO×aO):aO×aO:=
 (s.1.mapIdx λc r=>if known.getD c eR then aN nd else r,s.2.mapIdx λc r=>if known.getD c eR then az vals c else r)
theorem BC{m:aO}{f:Nat->Row->Row}{c:Nat}(h:c<m8 m):az (m.mapIdx f) c=f c (az m c):=by rw[be n8,be h];simp
def gX(V:aO)(r:Row)(a:Row):Nat->Row
 |0=>a
 |c+1=>cN (aM r c) (az V c) (gX V r a c)
theorem lS{V:aO}{m:Nat}(r:Row){a:Row}(b:m8 a=m):∀{c:Nat},(∀i,i<c->(az V i).length=m)->(gX V r a c).length=m
 |0,_=>b
 |c+1,h=>by
  have:=lS r b (c:=c) λi d=>h i nb;rw[gX,cl n8];grind
theorem FU{V:aO}{m:Nat}(r:Row){a:Row}(b:m8 a=m)(j:Nat):∀{c:Nat},(∀i,i<c->(az V i).length=m)->aM (gX V r a c) j=aM a j^^^bW (λi=>aM r i) (λi=>aM (az V i) j) c
 |0,_=>by simp[gX,bW]
 |c+1,h=>by
  have e:=lS r b (c:=c) λi d=>h i nb;rw[gX,db n8,FU r b j (c:=c) λi d=>h i nb,bW];ac_rfl
theorem Mx{V:aO}{m:Nat}(r:Row){a:Row}(b:m8 a=m)(y:Nat->UInt8)(n:Nat):∀{c:Nat},(∀i,i<c->(az V i).length=m)->bW (λj=>aM (gX V r a c) j) y n=bW (λj=>aM a j) y n^^^bW (λi=>aM r i) (λi=>bW (λj=>aM (az V i) j) y n) c
 |0,_=>by simp[gX,bW]
 |c+1,h=>by
  have e:=lS r b (c:=c) λi d=>h i nb;rw[gX,FS n8,Mx r b y n (c:=c) λi d=>h i nb,bW];ac_rfl
theorem My(f g a:Nat->UInt8):∀k,bW f (λi=>g i^^^a i) k=bW f g k^^^bW f a k
 |0=>by simp[bW]
 |k+1=>by rw[bW,bW,bW,My f g a k,Gf.jL];ac_rfl
theorem Mz(t:UInt8)(f g:Nat->UInt8):∀k,bW f (λi=>Gf.mul t (g i)) k=Gf.mul t (bW f g k)
 |0=>by simp[bW,Gf.mul_zero]
 |k+1=>by
  rw[bW,bW,Mz t f g k,Gf.jL];rw[<-Gf.mul_assoc,<-Gf.mul_assoc,Gf.mul_comm (f k) t]
theorem BD{n:Nat}(g:Nat->UInt8):∀{l:aC},(∀x∈l,0<=x/\x<(n:Int))->l.Nodup->bW (λj=>aM (ia n l) j) g n=dg (λc=>g c.toNat) l
 |[],_,_=>by
  rw[dg];refine go _ _ n λj _=>?_;rw[FQ [] (λx a=>C2) j];simp
 |c::l,h,hd=>by
  rw[y9]at hd;have k:=h c n4;have d:=BD g (l:=l) (λx a=>h x E1) hd.2;have e:bW (λj=>aM (ia n (c::l)) j) g n=bW (λj=>if(j:Int)∈c::l then 1 else 0) g n:=gI n (λj _=>FQ _ h j) λ_ _=>rfl;have b:bW (λj=>aM (ia n l) j) g n=bW (λj=>if(j:Int)∈l then 1 else 0) g n:=gI n (λj _=>FQ _ (λx a=>h x E1) j) λ_ _=>rfl;rw[e,dg,<-d,b];rw[Mk (f:=λj=>if(j:Int)∈l then 1 else 0) (f':=λj=>if(j:Int)∈c::l then 1 else 0) (c:=c.toNat) (by rw[k4];rw[show((c.toNat:Nat):Int)=c by omega];exact hd.1) (λi=>n8),hZ nb]
  ac_rfl
theorem kernel{nd:Nat}{a:aO}(Y:aU nd a)(Q:cz a<nd):∃y:Nat->UInt8,(∃i,i<nd/\y i≠0)/\∀r∈a,bW (λj=>aM r j) y nd=0:=by
 have w:=XS Y;obtain⟨R,V,ah,L,X,⟨p,U,Z,p3,S⟩,H⟩:=w;generalize hT:cz a=T at*;generalize (aY a (eI a)).2=rows at*;have t:∃j,j<nd/\∀i,i<T->p i≠j:=by
  have v:∀T nd:Nat,T<nd->∀p:Nat->Nat,(∀i,i<T->p i<nd)->∃j,j<nd/\∀i,i<T->p i≠j:=by
   intro T nd ad p W;by_cases f:∀j,j<nd->∃i,i<T/\p i=j
   .exfalso;have G:∀j∈qy nd,j∈(qy T).map p:=λj A=>by
     obtain⟨i,l,rfl⟩:=f j (qY.1 A);exact qI.2 ⟨i,qY.2 l,m9⟩
    have:=JL xg G;simp at this;omega
   .simp only[Classical.not_forall,not_exists,not_and]at f;obtain⟨j,A,h⟩:=f;exact⟨j,A,h⟩
  exact v T nd Q p U
 obtain⟨j,A,I⟩:=t;have J:∀i e,i<T->e<T->p i=p e->i=e:=λi e n o h3=>by
  rcases Nat.lt_trichotomy i e with h|h|h
  .have:=S i e h o;omega
  .exact h
  .have:=S e i h n;omega
 let y:Nat->UInt8:=λc=>if c=j then 1 else dg (λi=>if p i.toNat=c then aM (az rows i.toNat) j else 0) ((qy T).map λi:Nat=>(i:Int))
 have hy:∀i,i<T->y (p i)=aM (az rows i) j:=λi l=>by
  show(if p i=j then 1 else _)=_;rw[k4 (I i l)];have P:((qy T).map λi:Nat=>(i:Int)).Nodup:=by exact List.Pairwise.map _ (λa b h u=>h (Int.ofNat_inj.1 u)) xg
  rw[uV _ P (c:=(i:Int)) (qI.2 ⟨i,qY.2 l,m9⟩),Di,z6]
  .simp
  .intro c q;rw[qJ]at q;obtain⟨e,s,rfl⟩:=qI.1 q.1;have F:e≠i:=λu=>by subst u;simp at q
   rw[qi,k4 λu=>F (J e i (qY.1 s) l u)]
 have O:∀c,c≠j->(∀i,i<T->p i≠c)->y c=0:=λc q W=>by
  show(if c=j then 1 else _)=_;rw[k4 q,Di];intro d hd;obtain⟨e,s,rfl⟩:=qI.1 hd;rw[qi,k4 (W e (qY.1 s))]
 have B:y j=1:=by show(if j=j then 1 else _)=_;rw[hZ rfl]
 refine⟨y,⟨j,A,by rw[B];decide⟩,λr K=>?_⟩;refine Span.ZL R (λr=>bW (λc=>aM r c) y nd) (go _ _ nd λc _=>cL _ _) (λc x z n o=>FS nb c y nd) (λr Q=>?_) ((L r).2 (Span.row Y K));obtain⟨k,M,rfl⟩:=gb Q;by_cases g:k<T
 .--the row's own beginning,and j
  have hf:∀c,c<nd->aM (az rows k) c=0∨y c=0∨c=p k∨c=j:=λc q=>by
   by_cases n:c=j
   .exact .inr (.inr (.inr n))
   .by_cases o:∃i,i<T/\p i=c
    .obtain⟨i,l,rfl⟩:=o;by_cases D:k=i
     .subst D;exact .inr (.inr (.inl m9))
     .refine .inl ?_;rw[Z i l k M,k4 D]
    .exact .inr (.inl (O c n λi l u=>o ⟨i,l,u⟩))
  have N:=U k g;have E:aM (az rows k) (p k)=1:=by rw[Z k g k M,hZ rfl]
  have F:p k≠j:=I k g;have v:∀m,m<=nd->bW (λc=>aM (az rows k) c) y m=(if p k<m then aM (az rows k) j else 0)^^^(if j<m then aM (az rows k) j else 0):=by
   intro m
   induction m with
   |zero=>intro _;simp[bW]
   |succ m ih=>
    intro hm;rw[bW,ih nb];by_cases n:m=p k
    .have ab:m≠j:=nb
     rw[n,E,Gf.one_mul,hy k g];rw[k4 (Nat.lt_irrefl _),hZ (xd _)];by_cases h3:j<p k
     .rw[hZ h3,hZ nb];ac_rfl
     .rw[k4 h3,k4 nb];ac_rfl
    .by_cases o:m=j
     .rw[o,B,Gf.mul_one];rw[k4 (Nat.lt_irrefl j),hZ (xd j),z6];by_cases h3:p k<j
      .rw[hZ h3,hZ nb]
      .rw[k4 h3,k4 nb]
     .have hz:Gf.mul (aM (az rows k) m) (y m)=0:=by
       rcases hf m nb with h|h|h|h
       .rw[h,Gf.zero_mul]
       .rw[h,Gf.mul_zero]
       .exact absurd h n
       .exact absurd h o
      rw[hz,z6];have a1:(p k<m+1)↔(p k<m):=nb
      have a2:(j<m+1)↔(j<m):=nb
      simp only[a1,a2]
  rw[v nd (qj _),hZ N,hZ A,mM]
 .exact go _ _ nd λc q=>H k nb M c q
def dJ(n nd:Nat)(rest:List fp)(W:aO)(left:aC)(ahead:aO):aO:=(left.map λi=>cY W (aN nd) (rest.getD i.toNat ([],[])).1)++ahead.map λr=>gX W r (aN nd) n
def fJ(n w:Nat)(rest:List fp)(M:aO)(left:aC)(ahead:aO):aO:=(left.map λi=>cY M (rest.getD i.toNat ([],[])).2 (rest.getD i.toNat ([],[])).1)++ahead.map λr=>gX M r (aN w) n
def uk(nd:Nat)(known:List Bool)(vals:aO)(W M D:aO):aO:=vals.mapIdx λc r=>if known.getD c eR then r else gX D (az W c) (az M c) nd
def dL(n:Nat)(l:List fp)(ahead:aO):aO:=ahead++l.map λe=>ia n e.1
def iG(w:Nat)(l:List fp)(ahead:aO):aO:=qf ahead.length (aN w)++l.map zg
def at_(X:aO)(k:Nat)(c:Int):UInt8:=aM (az X c.toNat) k
section
variable {n w:Nat} {l:List fp} {ahead:aO}
theorem uX(b:aU n ahead):aU n (dL n l ahead):=λr a=>by
 rcases qw.1 a with a|a
 .exact b r a
 .obtain⟨e,_,rfl⟩:=qI.1 a;exact pN _ _
theorem uY(b:∀e∈l,jd n w e):aU w (iG w l ahead):=λr a=>by
 rcases qw.1 a with a|a
 .rw[(yk.1 a).2];simp[aN]
 .obtain⟨e,c,rfl⟩:=qI.1 a;exact(b e c).len
theorem tu:(dL n l ahead).length=(iG w l ahead).length:=by simp[dL,iG]
theorem BE(p:∀e∈l,jd n w e){X:aO}:jr n w (dL n l ahead) (iG w l ahead) X↔X.length=n/\aU w X/\∀k,k<w->(∀e∈l,Sat 1 k (at_ X k) e)/\∀r∈ahead,bW (λj=>aM r j) (λc=>aM (az X c) k) n=0:=by
 refine⟨λ⟨h1,h2,h3⟩=>⟨h1,h2,λk s=>⟨λe f=>?_,λr t=>?_⟩⟩,λ⟨h1,h2,h3⟩=>⟨h1,h2,λi g=>?_⟩⟩
 .obtain⟨i,g,rfl⟩:=qD f;have:=h3 (m8 ahead+i) u7;have b:az (dL n l ahead) (m8 ahead+i)=ia n l[i].1:=by rw[be u7];simp[dL]
  have a:az (iG w l ahead) (m8 ahead+i)=l[i].2:=by rw[be C0];simp[iG]
  rw[b,a]at this;have o:=congrArg (λr=>aM r k) this;rw[kU h2 h1 _ k n (qj _),BD _ (p _ f).df (p _ f).nodup]at o;unfold Sat;rw[Gf.one_mul];exact o
 .obtain⟨i,g,rfl⟩:=qD t;have:=h3 i u7;have b:az (dL n l ahead) i=ahead[i]:=by rw[be u7];simp[dL,vA g]
  have a:az (iG w l ahead) i=aN w:=by rw[be C0];simp[iG,g]
  rw[b,a]at this;have o:=congrArg (λr=>aM r k) this;rw[kU h2 h1 _ k n (qj _),cL]at o;exact o
 .have h:(az (iG w l ahead) i).length=w:=bY (uY p) (by rw[<-tu (n:=n)];exact g);refine gB (n:=w) (oc h2 h1 _ n (qj _)) h λk s=>?_;rw[kU h2 h1 _ k n (qj _)];simp only[dL,qo,qn]at g;by_cases m:i<m8 ahead
  .have b:az (dL n l ahead) i=ahead[i]:=by rw[be u7];simp[dL,vA m]
   have a:az (iG w l ahead) i=aN w:=by rw[be C0];simp[iG,m]
   rw[b,a,cL]
   grind
  .obtain⟨d,rfl⟩:∃d,i=m8 ahead+d:=⟨i-m8 ahead,nb⟩
   have q:d<m8 l:=nb
   have b:az (dL n l ahead) (m8 ahead+d)=ia n l[d].1:=by rw[be u7];simp[dL]
   have a:az (iG w l ahead) (m8 ahead+d)=l[d].2:=by rw[be C0];simp[iG]
   have f:=p _ (qe q);rw[b,a,BD _ f.df f.nodup];have:=(h3 k s).1 _ (qe q);unfold Sat at this;rw[Gf.one_mul]at this;exact this
end
structure gV (n w:Nat) (l:List fp) (ahead:aO) (known:List Bool) (vals:aO) (dead left:aC) (W M:aO):Prop where
 eqs:∀e∈l,jd n w e
 ahd:aU n ahead
 pinv:jV n w l known vals
 calm:kE known vals l=eR
 deadR:∀c∈dead,0<=c/\c<(n:Int)
 deadN:dead.Nodup
 deadK:∀c∈dead,kn known c=eR
 lens:m8 W=n/\M.length=n/\∀c:Nat,c<n->(az W c).length=m8 dead/\(az M c).length=w
 evKnown:∀t k y,∀c:Int,0<=c->c<(n:Int)->kn known c=eL->ev t k dead.length W M y c=Gf.mul t (aM (az vals c.toNat) k)
 evDead:∀t k y,∀i,(h:i<m8 dead)->ev t k dead.length W M y dead[i]=y i
 evRest:∀t k y,k<w->(∀i∈left,Sat t k (ev t k dead.length W M y) ((aX known vals l).getD i.toNat ([],[])))->∀e∈aX known vals l,Sat t k (ev t k dead.length W M y) e
 leftR:∀i∈left,0<=i/\i<((aX known vals l).length:Int)
 evAll:∀t k x,k<w->(∀c:Int,0<=c->c<(n:Int)->kn known c=eL->x c=Gf.mul t (aM (az vals c.toNat) k))->(∀e∈aX known vals l,Sat t k x e)->∀c:Int,0<=c->c<(n:Int)->x c=ev t k dead.length W M (λi=>x (dead.getD i 0)) c
section
variable {n w:Nat} {l:List fp} {ahead:aO} {known:List Bool} {vals:aO} {dead left:aC} {W M:aO}
theorem oB(h:jV n w l known vals)(b:∀e∈l,jd n w e):∀e∈aX known vals l,jd n w e:=λe d=>by
 obtain⟨c,a,rfl⟩:=qI.1 (qJ.1 d).1;exact h.AH (b c a)
theorem Ah{a b:UInt8}:a^^^b=0↔a=b:=oT
theorem gV.MB(S:gV n w l ahead known vals dead left W M){i:Int}(o:i∈left)(t:UInt8)(k:Nat)(y:Nat->UInt8):
  bW (λj=>aM (cY W (aN dead.length) ((aX known vals l).getD i.toNat ([],[])).1) j) y dead.length=Gf.mul t (aM (cY M ((aX known vals l).getD i.toNat ([],[])).2 ((aX known vals l).getD i.toNat ([],[])).1) k)↔Sat t k (ev t k dead.length W M y) ((aX known vals l).getD i.toNat ([],[])):=by
 have h:=S.leftR i o;have b:i.toNat<(aX known vals l).length:=nb
 have f:(aX known vals l).getD i.toNat ([],[])=(aX known vals l)[i.toNat]:=n8
 have a:=oB S.pinv S.eqs _ (qe b);rw[f];generalize (aX known vals l)[i.toNat]=e at*;have m:(aN dead.length).length=m8 dead:=pt
 have p:∀c∈e.1,(az W c.toNat).length=m8 dead:=λc d=>((S.lens.2.2 c.toNat) (by have:=a.df c d;omega)).1;have g:∀c∈e.1,(az M c.toNat).length=w:=λc d=>((S.lens.2.2 c.toNat) (by have:=a.df c d;omega)).2;have:=IM m a.len p g t k y;rw[go _ _ dead.length λj _=>cL _ _,wv]at this;rw[<-Ah,this];rw[Ah];exact eq_comm
theorem gV.JM(S:gV n w l ahead known vals dead left W M)(r:Row)(t:UInt8)(k:Nat)(y:Nat->UInt8):
  bW (λj=>aM (gX W r (aN dead.length) n) j) y dead.length=Gf.mul t (aM (gX M r (aN w) n) k)↔bW (λj=>aM r j) (λc=>ev t k dead.length W M y (c:Int)) n=0:=by
 have e:=Mx (V:=W) (m:=m8 dead) r (a:=aN dead.length) pt y dead.length (c:=n) λi b=>(S.lens.2.2 i b).1;have d:=FU (V:=M) (m:=w) r (a:=aN w) pt k (c:=n) λi b=>(S.lens.2.2 i b).2;rw[e,d,go _ _ dead.length λj _=>cL _ _,cL,wv,wv,<-Ah,<-Mz,<-My];rfl
theorem gV.up(S:gV n w l ahead known vals dead left W M){t:UInt8}{k:Nat}{y:Nat->UInt8}(g:k<w)
  (f:∀i,i<(dJ n dead.length (aX known vals l) W left ahead).length->bW (λj=>aM (az (dJ n dead.length (aX known vals l) W left ahead) i) j) y dead.length=Gf.mul t (aM (az (fJ n w (aX known vals l) M left ahead) i) k)):
  (∀e∈l,Sat t k (ev t k dead.length W M y) e)/\∀r∈ahead,bW (λj=>aM r j) (λc=>ev t k dead.length W M y (c:Int)) n=0:=by
 refine⟨(Mq S.pinv S.eqs S.calm g).2 ⟨λc h0 m p=>S.evKnown t k y c h0 m p,S.evRest t k y g λi h=>?_⟩,λr o=>?_⟩
 .obtain⟨j,b,rfl⟩:=qD h;have:=f j u9;have d:az (dJ n dead.length (aX known vals l) W left ahead) j=cY W (aN dead.length) ((aX known vals l).getD left[j].toNat ([],[])).1:=by rw[be u9];simp[dJ,b]
  have a:az (fJ n w (aX known vals l) M left ahead) j=cY M ((aX known vals l).getD left[j].toNat ([],[])).2 ((aX known vals l).getD left[j].toNat ([],[])).1:=by rw[be C1];simp[fJ,b]
  rw[d,a]at this;exact(S.MB h t k y).1 this
 .obtain⟨j,b,rfl⟩:=qD o;have:=f (m8 left+j) u9;have d:az (dJ n dead.length (aX known vals l) W left ahead) (m8 left+j)=gX W ahead[j] (aN dead.length) n:=by rw[be u9];simp[dJ]
  have a:az (fJ n w (aX known vals l) M left ahead) (m8 left+j)=gX M ahead[j] (aN w) n:=by rw[be C1];simp[fJ]
  rw[d,a]at this;exact(S.JM _ t k y).1 this
theorem gV.down(S:gV n w l ahead known vals dead left W M){t:UInt8}{k:Nat}{x:Int->UInt8}(q:k<w)(B:∀e∈l,Sat t k x e)(A:∀r∈ahead,bW (λj=>aM r j) (λc=>x (c:Int)) n=0):
  (∀c:Int,0<=c->c<(n:Int)->x c=ev t k dead.length W M (λi=>x (dead.getD i 0)) c)/\
  ∀i,i<(dJ n dead.length (aX known vals l) W left ahead).length->bW (λj=>aM (az (dJ n dead.length (aX known vals l) W left ahead) i) j) (λi=>x (dead.getD i 0)) dead.length=Gf.mul t (aM (az (fJ n w (aX known vals l) M left ahead) i) k):=by
 obtain⟨u,s⟩:=(Mq S.pinv S.eqs S.calm q).1 B;have g:=S.evAll t k x q u s;refine⟨g,λi D=>?_⟩;simp only[dJ,qo,qn]at D;by_cases a:i<m8 left
 .have o:az (dJ n dead.length (aX known vals l) W left ahead) i=cY W (aN dead.length) ((aX known vals l).getD left[i].toNat ([],[])).1:=by rw[be u9];simp[dJ,a]
  have h:az (fJ n w (aX known vals l) M left ahead) i=cY M ((aX known vals l).getD left[i].toNat ([],[])).2 ((aX known vals l).getD left[i].toNat ([],[])).1:=by rw[be C1];simp[fJ,a]
  rw[o,h];refine(S.MB (qe a) t k _).2 ?_;have y:=S.leftR _ (qe a);have f:left[i].toNat<(aX known vals l).length:=nb
  have z:(aX known vals l).getD left[i].toNat ([],[])=(aX known vals l)[left[i].toNat]:=n8
  rw[z];have p:=s _ (qe f);have b:=oB S.pinv S.eqs _ (qe f);unfold Sat at p⊢;rw[<-p];exact kD λc m=>(g c (b.df c m).1 (b.df c m).2).symm
 .obtain⟨d,rfl⟩:∃d,i=m8 left+d:=⟨i-m8 left,nb⟩
  have v:d<m8 ahead:=nb
  have o:az (dJ n dead.length (aX known vals l) W left ahead) (m8 left+d)=gX W ahead[d] (aN dead.length) n:=by rw[be u9];simp[dJ]
  have h:az (fJ n w (aX known vals l) M left ahead) (m8 left+d)=gX M ahead[d] (aN w) n:=by rw[be C1];simp[fJ]
  rw[o,h];refine(S.JM _ t k _).2 ?_;rw[<-A _ (qe v)];exact gI n (λ_ _=>rfl) λc m=>(g (c:Int) nb nb).symm
theorem oZ(S:gV n w l ahead known vals dead left W M):aU dead.length (dJ n dead.length (aX known vals l) W left ahead)/\aU w (fJ n w (aX known vals l) M left ahead):=by
 have d:∀i∈left,jd n w ((aX known vals l).getD i.toNat ([],[])):=λi b=>by
  have g:=S.leftR i b;have e:i.toNat<(aX known vals l).length:=nb
  rw[qg,qc e];exact oB S.pinv S.eqs _ (qe e)
 constructor
 .intro r a;rcases qw.1 a with a|a
  .obtain⟨i,b,rfl⟩:=qI.1 a;exact jU pt λc f=>((S.lens.2.2 c.toNat) (by have:=(d i b).df c f;omega)).1
  .obtain⟨x,h,rfl⟩:=qI.1 a;exact lS x pt λi b=>(S.lens.2.2 i b).1
 .intro r a;rcases qw.1 a with a|a
  .obtain⟨i,b,rfl⟩:=qI.1 a;exact jU (d i b).len λc f=>((S.lens.2.2 c.toNat) (by have:=(d i b).df c f;omega)).2
  .obtain⟨x,h,rfl⟩:=qI.1 a;exact lS x pt λi b=>(S.lens.2.2 i b).2
theorem uZ:(dJ n dead.length (aX known vals l) W left ahead).length=(fJ n w (aX known vals l) M left ahead).length:=by simp[dJ,fJ]
theorem gV.IL(S:gV n w l ahead known vals dead left W M)(I:1<=w)(f:cz (dL n l ahead)=n):cz (dJ n dead.length (aX known vals l) W left ahead)=m8 dead:=by
 obtain⟨G,Y⟩:=oZ S;have K:=Dc G;by_cases E:cz (dJ n dead.length (aX known vals l) W left ahead)<m8 dead
 .exfalso;obtain⟨y,⟨i,b,U⟩,J⟩:=kernel G E;have q:=S.up (t:=0) (k:=0) (y:=y) I λi b=>by rw[J _ (mem_row b),Gf.zero_mul]
  have H:=uX (l:=l) S.ahd;have u:aU 1 (qf (dL n l ahead).length (aN 1)):=λr f=>by rw[(yk.1 f).2];simp[aN]
  have d:(dL n l ahead).length=(qf (dL n l ahead).length (aN 1)).length:=n4
  have V:jr n 1 (dL n l ahead) (qf (dL n l ahead).length (aN 1)) (qf n (aN 1)):=by
   have a:aU 1 (qf n (aN 1)):=λr f=>by rw[(yk.1 f).2];simp[aN]
   refine⟨n4,a,λi b=>?_⟩;refine gB (n:=1) (oc a n4 _ n (qj _)) (bY u u6) λk N=>?_;rw[kU a n4 _ k n (qj _)];have B:az (qf (dL n l ahead).length (aN 1)) i=aN 1:=by rw[be u6];simp
   rw[B,cL];have:∀g,g<=n->bW (λj=>aM (az (dL n l ahead) i) j) (λc=>aM (az (qf n (aN 1)) c) k) g=0:=by
    intro g
    induction g with
    |zero=>intro _;rfl
    |succ g ih=>
     intro T;have P:az (qf n (aN 1)) g=aN 1:=by rw[be n2];simp
     rw[bW,ih nb,P,cL,Gf.mul_zero];rfl
   exact this n (qj _)
  have L:jr n 1 (dL n l ahead) (qf (dL n l ahead).length (aN 1)) ((qy n).map λc:Nat=>[ev 0 0 dead.length W M y (c:Int)]):=by
   have a:aU 1 ((qy n).map λc:Nat=>[ev 0 0 dead.length W M y (c:Int)]):=λr f=>by obtain⟨c,_,rfl⟩:=qI.1 f;rfl
   have h:∀c:Nat,c<n->az ((qy n).map λc:Nat=>[ev 0 0 dead.length W M y (c:Int)]) c=[ev 0 0 dead.length W M y (c:Int)]:=λc p=>by rw[be (by simpa using p)];simp
   refine⟨n4,a,λi b=>?_⟩;refine gB (n:=1) (oc a n4 _ n (qj _)) (bY u u6) λk N=>?_;have A:k=0:=nb
   subst A;rw[kU a n4 _ 0 n (qj _)];have B:az (qf (dL n l ahead).length (aN 1)) i=aN 1:=by rw[be u6];simp
   rw[B,cL];have X:bW (λj=>aM (az (dL n l ahead) i) j) (λc=>aM (az ((qy n).map λc:Nat=>[ev 0 0 dead.length W M y (c:Int)]) c) 0) n=bW (λj=>aM (az (dL n l ahead) i) j) (λc=>ev 0 0 dead.length W M y (c:Int)) n:=
    gI n (λ_ _=>rfl) λc p=>by rw[h c p];rfl
   rw[X];have F:az (dL n l ahead) i∈ahead++l.map λe=>ia n e.1:=mem_row b;obtain x|x:=qw.1 F
   .exact q.2 _ x
   .obtain⟨e,s,v⟩:=qI.1 x;rw[<-v,BD _ (S.eqs e s).df (S.eqs e s).nodup];have D:=q.1 e s;unfold Sat at D;rw[Gf.zero_mul]at D;refine Eq.trans (kD λc p=>?_) D;have:=(S.eqs e s).df c p;rw[show((c.toNat:Nat):Int)=c by omega]
  have O:=(sN d H u f V).1;have Q:=(sN d H u f L).1;have z:=Q.trans O.symm;have R:=S.deadR _ (qe b);have o:=congrArg (λm=>aM (az m dead[i].toNat) 0) z;rw[be n2,be n2]at o;simp only[List.getElem_map,List.getElem_range,List.getElem_replicate,cL]at o;rw[show((dead[i].toNat:Nat):Int)=dead[i]by omega]at o;have h8:aM [ev 0 0 dead.length W M y dead[i]] 0=ev 0 0 dead.length W M y dead[i]:=rfl;rw[h8,S.evDead 0 0 y i b]at o;exact U o
 .omega
theorem IP(S:gV n w l ahead known vals dead left W M){D:aO}(j:m8 D=m8 dead)(f:aU w D){c:Nat}(e:c<n):
  (az (uk dead.length known vals W M D) c).length=w/\∀k,aM (az (uk dead.length known vals W M D) c) k=ev 1 k dead.length W M (λi=>aM (az D i) k) (c:Int):=by
 have g:=S.pinv.vlen;have a:az (uk dead.length known vals W M D) c=if known.getD c eR then az vals c else gX D (az W c) (az M c) dead.length:=by unfold uk;rw[BC nb]
 have d:=S.lens.2.2 c e;rw[a];cases hkn:known.getD c eR with
 |true=>
  rw[hZ rfl];refine⟨by have:=S.pinv.row c e;rw[hkn]at this;simpa using this,λk=>?_⟩;have:=S.evKnown 1 k (λi=>aM (az D i) k) (c:Int) nb nb (by unfold kn;rw[qi];exact hkn);rw[this,qi,Gf.one_mul]
 |false=>
  rw[k4 n4];have b:∀i,i<m8 dead->(az D i).length=w:=λi h=>bY f;refine⟨lS _ d.2 b,λk=>?_⟩;rw[FU _ d.2 k b];unfold ev;rw[qi,Gf.one_mul,vQ]
theorem aaL(h:m8 vals=n){D:aO}:(uk dead.length known vals W M D).length=n:=by simp[uk,h]
theorem gV.Sw(S:gV n w l ahead known vals dead left W M){D:aO}(q:jr dead.length w (dJ n dead.length (aX known vals l) W left ahead) (fJ n w (aX known vals l) M left ahead) D):jr n w (dL n l ahead) (iG w l ahead) (uk dead.length known vals W M D):=by
 obtain⟨d,a,f⟩:=q;obtain⟨v,u⟩:=oZ S;have h:=aaL (dead:=dead) (known:=known) (W:=W) (M:=M) S.pinv.vlen (D:=D);refine(BE S.eqs).2 ⟨h,λr g=>?_,λk o=>?_⟩
 .obtain⟨c,b,rfl⟩:=gb g;exact(IP S d a nb).1
 .have m:=S.up (t:=1) (k:=k) (y:=λi=>aM (az D i) k) o λi s=>by
   have:=congrArg (λr=>aM r k) (f i s);rw[kU a d _ k dead.length (qj _)]at this;rw[this,Gf.one_mul]
  refine⟨λe j=>?_,λr g=>?_⟩
  .have h3:=m.1 e j;unfold Sat at h3⊢;rw[<-h3];refine kD λc b=>?_;have p:=(S.eqs e j).df c b;unfold at_;rw[(IP S d a (show c.toNat<n by omega)).2 k,show((c.toNat:Nat):Int)=c by omega]
  .rw[<-m.2 r g];exact gI n (λ_ _=>rfl) λc b=>(IP S d a b).2 k
theorem gV.OD(S:gV n w l ahead known vals dead left W M){X:aO}(q:jr n w (dL n l ahead) (iG w l ahead) X):jr dead.length w (dJ n dead.length (aX known vals l) W left ahead) (fJ n w (aX known vals l) M left ahead) (dead.map λc=>az X c.toNat):=by
 obtain⟨s,o,f⟩:=(BE S.eqs).1 q;obtain⟨u,p⟩:=oZ S;have e:aU w (dead.map λc=>az X c.toNat):=λr d=>by
  obtain⟨c,g,rfl⟩:=qI.1 d;have:=S.deadR c g;exact bY o
 have a:(dead.map λc=>az X c.toNat).length=m8 dead:=n4
 refine⟨a,e,λi m=>gB (n:=w) (oc e a _ _ (qj _)) (bY p (by rw[<-uZ (n:=n) (w:=w)];exact m)) λk b=>?_⟩;rw[kU e a _ k dead.length (qj _)];have h3:=(S.down (t:=1) (x:=at_ X k) b (f k b).1 (λr d=>by
  have:=(f k b).2 r d;rw[<-this];exact gI n (λ_ _=>rfl) λc g=>by unfold at_;rw[qi])).2 i m
 rw[Gf.one_mul]at h3;rw[<-h3];refine gI _ (λ_ _=>rfl) λj h=>?_;unfold at_;rw[be p5,qg,qc h];simp
end
def iE(known:List Bool)(i:Nat):cV:=((qy i).filter λc=>known.getD c eR).map λc:Nat=>[(c:Int)]
theorem IQ(known:List Bool)(i:Nat):iE known (i+1)=iE known i++if known.getD i eR then[[(i:Int)]]else[]:=by
 unfold iE;rw[List.range_succ,]
 grind
theorem Cm(known:List Bool)(i:Nat):(iE known i).length<=i:=by
 unfold iE
 grind
def rowsOf(R:List fp)(known:List Bool)(n:Nat):cV:=R.map qC++iE known n
def gQ(R:List fp)(known:List Bool)(n:Nat):Pl:=eP n (rowsOf R known n)
def nj(R:List fp)(known:List Bool)(n:Nat):List (Int×Int):=(gQ R known n).steps.filter λx=>decide (x.1<m8 R)
def leftOf(R:List fp)(known:List Bool)(n:Nat):aC:=(fS (gQ R known n).used (rowsOf R known n).length).filter λx=>decide (x<m8 R)
theorem vi{known:List Bool}{n:Nat}{r:aC}(h:r∈iE known n):∃c:Nat,r=[(c:Int)]/\c<n/\known.getD c eR=eL:=by
 obtain⟨c,a,rfl⟩:=qI.1 h
 grind
theorem Dq{rows:cV}:∀{a:List (Int×Int)} {D U:Int->Prop},rS rows D U a->∀i c,(i,c)∈a->(0<=i/\i<m8 rows)/\c∈rows.getD i.toNat []
 |[],_,_,_,_,_,h=>p9
 |(i',c')::t,D,U,hg,i,c,h=>by
  obtain⟨e,_,_,d,_,b⟩:=hg;rcases qN.1 h with h|h
  .grind
  .exact Dq b i c h
section
variable {n w:Nat} {l:List fp} {ahead:aO} {known:List Bool} {vals:aO}
theorem tv(g:∀e∈aX known vals l,jd n w e):∀r∈rowsOf (aX known vals l) known n,∀c∈r,0<=c/\c<(n:Int):=λr a c f=>by
 rcases qw.1 a with a|a
 .obtain⟨e,b,rfl⟩:=qI.1 a;exact(g e b).df c f
 .obtain⟨d,rfl,h,_⟩:=vi a
  grind
theorem JN(h:∀e∈l,jd n w e)(f:jV n w l known vals):rT ((aX known vals l).map qC) (·∈(gQ (aX known vals l) known n).dead) (nj (aX known vals l) known n):=by
 have m:=oB f h;obtain⟨_,_,_,_,_,g⟩:=uj (tv m);have:=Ag (R:=(aX known vals l).map qC) (S:=iE known n) (K:=λc=>kn known c=eL) (λr a c b=>?_) (λr a c b=>?_) g (D':=(·∈(gQ (aX known vals l) known n).dead)) λc _=>Iff.rfl
 .rw[qn]at this;exact this
 .obtain⟨e,j,rfl⟩:=qI.1 a;obtain⟨i,k,rfl⟩:=qI.1 (qJ.1 j).1;rw[Dk f i c b];simp
 .obtain⟨d,rfl,_,o⟩:=vi a;unfold kn;grind
theorem Ha(j:∀e∈l,jd n w e)(m:jV n w l known vals):
  (∀c∈(gQ (aX known vals l) known n).dead,0<=c/\c<(n:Int))/\(gQ (aX known vals l) known n).dead.Nodup/\(∀c∈(gQ (aX known vals l) known n).dead,kn known c=eR)/\
  (∀i∈leftOf (aX known vals l) known n,0<=i/\i<((aX known vals l).length:Int))/\(gQ (aX known vals l) known n).dead.length<=n:=by
 have k:=oB m j;obtain⟨q,p,a3,a4,a5,g⟩:=uj (tv k);refine⟨a3,a4,λc h=>?_,λi a=>?_,by unfold gQ;omega⟩
 .have f:=a3 c h;cases hk:kn known c with
  |false=>rfl
  |true=>
   exfalso;have b:[c]∈rowsOf (aX known vals l) known n:=qw.2 (.inr (qI.2 ⟨c.toNat,qJ.2 ⟨qY.2 nb,hk⟩,n8⟩));exact BA b n (qf n eL) (qf _ eR) (λi a=>by rw[Dn]at a;cases a) (λd o b=>by have:=a3 d b;omega) f.1 h
 .unfold leftOf at a;rw[qJ]at a;have:=a5 i a.1
  grind
theorem XZ(k:∀e∈l,jd n w e)(s:jV n w l known vals){c:Int}(t:0<=c)(u:c<(n:Int))(b:kn known c=eR):c∈(gQ (aX known vals l) known n).dead∨∃i,(i,c)∈nj (aX known vals l) known n:=by
 have h:=oB s k;obtain⟨_,_,_,_,_,g⟩:=uj (tv h);have a:=Dp (tv h) n (qf n eL) (qf (rowsOf (aX known vals l) known n).length eR) n4 n4 c.toNat n8;rw[show((c.toNat))=c by omega]at a;rcases a with a|⟨i,a⟩
 .exact .inl a
 .refine .inr ⟨i,qJ.2 ⟨a,?_⟩⟩;obtain⟨m,j⟩:=Dq g i c a;by_cases r:i<((aX known vals l).length)
  .simpa using r
  .have q:=m.2;rw[rowsOf,]at q;have p:(rowsOf (aX known vals l) known n).getD i.toNat []∈iE known n:=by rw[rowsOf,qg,qk A9,qc n8];simp
   obtain⟨d,o,_,f⟩:=vi p;rw[o,qB]at j;subst j;unfold kn at b;rw[qi,f]at b;cases b
def Lj(n w:Nat)(known:List Bool)(vals:aO)(R:List fp):aO×aO:=
 iK (gQ R known n).dead.length known vals ((nj R known n).foldl (ie R (gQ R known n).dead.length) (gc n (gQ R known n).dead.length w (gQ R known n).dead))
theorem Ya{nd:Nat}{s:aO×aO}{c:Int}(d:0<=c)(b:c.toNat<m8 s.1)(a:c.toNat<m8 s.2):
  az (iK nd known vals s).1 c.toNat=(if kn known c then aN nd else az s.1 c.toNat)/\az (iK nd known vals s).2 c.toNat=if kn known c then az vals c.toNat else az s.2 c.toNat:=by
 unfold iK kn;exact⟨BC b,BC a⟩
theorem Yb(B:∀e∈l,jd n w e)(hA:aU n ahead)(A:jV n w l known vals)(Q:kE known vals l=eR):
  gV n w l ahead known vals (gQ (aX known vals l) known n).dead (leftOf (aX known vals l) known n) (Lj n w known vals (aX known vals l)).1 (Lj n w known vals (aX known vals l)).2:=by
 have F:=oB A B;have U:=JN B A;have a:=λc h0 m o=>XZ (c:=c) B A h0 m o;obtain⟨H,M,P,Z,Y⟩:=Ha B A;have b:∀j:Nat,j<(aX known vals l).length->(∃c,((j:Int),c)∈nj (aX known vals l) known n)∨(j:Int)∈leftOf (aX known vals l) known n:=λj X=>by
  cases hu:(gQ (aX known vals l) known n).used.getD j eR with
  |true=>
   rcases Do n (qf n eL) (qf _ eR) j hu with h|⟨c,h⟩
   .rw[Dn]at h;cases h
   .exact .inl ⟨c,qJ.2 ⟨h,n2⟩⟩
  |false=>exact .inr (qJ.2 ⟨(Bz _ _ _).2 ⟨j,m9,by rw[rowsOf,qo,qn];omega,hu⟩,n2⟩)
 have s:∀e∈aX known vals l,∀c∈e.1,kn known c=eR:=λe u c O=>by
  obtain⟨e0,ad,rfl⟩:=qI.1 (qJ.1 u).1;exact Dk A e0 c O
 unfold Lj;obtain⟨R,f⟩:=HF (aX known vals l)
 rw[<-f]at F U H M P Z Y b a s⊢;obtain⟨D,W⟩:=HF ((gQ R known n).dead)
 obtain⟨ST,r⟩:=HF (nj R known n)
 rw[<-W,<-r]at U a;rw[<-r]at b;rw[<-W]at H M P Y;rw[<-W,<-r];obtain⟨dk,du⟩:=IN (nd:=m8 D) (w:=w) H M D.length (qj _);rw[List.take_length]at dk du;obtain⟨z,keep,T,K⟩:=FT F U dk;generalize ab:ST.foldl (ie R D.length) (gc n D.length w D)=S0 at*;have S:=z.wl;have V:=z.ml;have fr:∀c:Int,0<=c->c<(n:Int)->az (iK D.length known vals S0).1 c.toNat=(if kn known c then aN D.length else az S0.1 c.toNat)/\az (iK D.length known vals S0).2 c.toNat=if kn known c then az vals c.toNat else az S0.2 c.toNat:=λc h0 m=>Ya h0 nb nb
 have v:∀t k y (c:Int),0<=c->c<(n:Int)->kn known c=eR->ev t k D.length (iK D.length known vals S0).1 (iK D.length known vals S0).2 y c=ev t k D.length S0.1 S0.2 y c:=λt k y c h0 m o=>by
  have:=fr c h0 m;rw[o]at this;exact BB this.1 this.2
 have I:∀t k y (c:Int),0<=c->c<(n:Int)->kn known c=eL->ev t k D.length (iK D.length known vals S0).1 (iK D.length known vals S0).2 y c=Gf.mul t (aM (az vals c.toNat) k):=λt k y c h0 m o=>by
  have:=fr c h0 m;rw[o,hZ rfl,hZ rfl]at this;unfold ev;rw[this.1,this.2,go _ _ D.length λj _=>cL _ _,wv]
 have J:∀t k y i,(h:i<m8 D)->ev t k D.length (gc n D.length w D).1 (gc n D.length w D).2 y D[i]=y i:=λt k y i h=>by
  have:=du i h h;unfold ev;rw[this.1,this.2,XY h,cL,Gf.mul_zero,z6]
 have E:∀i:Int,0<=i->i<(m8 R:Int)->R.getD i.toNat ([],[])∈R:=λi h0 m=>by
  rw[qg,qc nb];exact qe _
 refine⟨B,hA,A,Q,H,M,P,⟨by simp[iK,S],by simp[iK,V],λc O=>?_⟩,I,λt k y i h=>?_,λt k y o L e u=>?_,by rw[<-f];exact Z,λt k x o hx L c h0 m=>?_⟩
 .have h:=fr (c:Int) nb nb;rw[qi]at h;rw[h.1,h.2];cases o:kn known (c:Int)with
  |true=>
   rw[hZ m9,hZ rfl];refine⟨pt,?_⟩;have:=A.Dj (c:=(c:Int)) nb nb o
   rwa [qi]at this
  |false=>
   rw[k4 n4,k4 n4];have:=z.rw_ (c:Int) (a _ nb nb o) nb nb
   rwa [qi]at this
 .have N:=H _ (qe h);rw[v t k y _ N.1 N.2 (P _ (qe h)),<-J t k y i h];exact BB (keep _ (qe h) N.1).1 (keep _ (qe h) N.1).2
 .rw[<-f]at u L;obtain⟨j,X,rfl⟩:=qD u;have ej:R.getD ((j:Int)).toNat ([],[])=R[j]:=by rw[qi,qg,qc X];rfl
  rcases b j X with⟨c,O⟩|hlf
  .have:=T _ O t k y o;dsimp only at this;rw[ej]at this;unfold Sat at this⊢;rw[<-this];exact kD λd G=>v t k y d ((F _ u).df d G).1 ((F _ u).df d G).2 (s _ u d G)
  .have:=L _ hlf
   rwa [ej]at this
 .rw[<-f]at L;cases hkc:kn known c with
  |true=>rw[hx c h0 m hkc,I _ _ _ c h0 m hkc]
  |false=>
   rw[v _ _ _ c h0 m hkc];refine K t k x _ o (λd G h2 h3=>?_) (λp hp=>?_) c (a c h0 m hkc) h0 m
   .obtain⟨i,hi,rfl⟩:=qD G;rw[J t k _ i hi,qg,qc hi];rfl
   .have q:p∈nj R known n:=r▸hp;unfold nj at q;rw[qJ]at q;have h2:p.1<(m8 R:Int):=by simpa using q.2
    have h3:0<=p.1:=by obtain⟨_,_,_,_,_,g⟩:=uj (rows:=rowsOf R known n) (n:=n) (by rw[f];exact tv (f▸F));exact(Dq g p.1 p.2 q.1).1.1
    exact L _ (E _ h3 h2)
end
def sS(n:Nat)(seed:Int)(l:List (Int×Row)):List fp:=l.map λx=>(eG n seed x.1,x.2)
def mQ(p:Int×Int×Int)(l:List (Int×Row)):aO:=qf p.2.1.toNat (aN p.2.2.toNat)++l.map zg
structure EC (p:Int×Int×Int) (x:Int×Row):Prop where
 id:bR x.1=eL
 len:m8 x.2=p.2.2.toNat
theorem aaM{n:Nat}(d:1<=n)(c:n<=20)(seed id:Int):(eG n seed id).Pairwise (·<·):=by have a:=Oy n seed id;have b:=GW d c seed id;exact(a.and b).imp λ⟨d,c⟩=>nb
section
variable {p:Int×Int×Int} {seed:Int} {l:List (Int×Row)} {n w:Nat}
theorem acA(b:1<=n)(a:n<=20)(d:∀x∈l,EC p x)(f:p.2.2.toNat=w):∀e∈sS n seed l,jd n w e/\e.1.Pairwise (·<·):=λe g=>by
 obtain⟨x,h,rfl⟩:=qI.1 g;exact⟨⟨λc i=>kw b a i,GW b a seed x.1,by rw[<-f];exact(d x h).len⟩,aaM b a seed x.1⟩
theorem Sx(b:bH p=eL)(e:(bD p).toNat=n)(a:∀x∈l,EC p x):dL n (sS n seed l) (bA p.1.toNat p.2.1.toNat)=eM p seed (l.map qC):=by
 unfold dL eM sS;rw[hZ b,e];have:(l.map qC).filter bR=l.map qC:=yR.2 λi d=>by
  obtain⟨x,c,rfl⟩:=qI.1 d;exact(a x c).id
 rw[this,y0,y0];rfl
theorem Sy(a:p.2.2.toNat=w):iG w (sS n seed l) (bA p.1.toNat p.2.1.toNat)=mQ p l:=by unfold iG mQ sS;rw[a,];simp[bA]
end
section
variable {n w:Nat} {l:List fp} {ahead:aO} {known:List Bool} {vals:aO} {dead left:aC} {W M:aO}
theorem US(a:∀e∈l,jd n w e)(g:aU n ahead)(h:jV n w l known vals)(c:kE known vals l=eL)(j:cz (dL n l ahead)=n):¬jk n (dL n l ahead) (iG w l ahead):=λf=>by
 obtain⟨k,i,b⟩:=Su h a c;have d:=sO tu (uX g) (uY a) j f;exact b _ (((BE a).1 d).2.2 k i).1
theorem gV.QB(S:gV n w l ahead known vals dead left W M)(b:cz (dL n l ahead)=n){D:aO}(a:jr dead.length w (dJ n dead.length (aX known vals l) W left ahead) (fJ n w (aX known vals l) M left ahead) D):
  jk n (dL n l ahead) (iG w l ahead)/\uk dead.length known vals W M D=eU n (dL n l ahead) (iG w l ahead):=by
 have h:=sN tu (uX S.ahd) (uY S.eqs) b (S.Sw a)
 grind
theorem gV.QC(S:gV n w l ahead known vals dead left W M)(b:cz (dL n l ahead)=n)(a:jk n (dL n l ahead) (iG w l ahead)):jr dead.length w (dJ n dead.length (aX known vals l) W left ahead) (fJ n w (aX known vals l) M left ahead) (dead.map λc=>az (eU n (dL n l ahead) (iG w l ahead)) c.toNat):=
 S.OD (sO tu (uX S.ahd) (uY S.eqs) b a)
theorem gV.Sz(S:gV n w l ahead known vals dead left W M)(f:1<=w)(c:cz (dL n l ahead)=n):jk dead.length (dJ n dead.length (aX known vals l) W left ahead) (fJ n w (aX known vals l) M left ahead)↔jk n (dL n l ahead) (iG w l ahead):=by obtain⟨e,d⟩:=oZ S;have a:=S.IL f c;exact⟨λb=>(S.QB c (sO uZ e d a b)).1,λb=>(sN uZ e d a (S.QC c b)).2⟩
theorem Hb{a b:aO}(h:m8 a=m8 b):jr 0 w a b []↔∀r∈b,r=aN w:=by
 constructor
 .rintro⟨_,_,h3⟩ r c;obtain⟨i,e,rfl⟩:=gb c;exact(h3 i nb).symm
 .intro d;refine⟨m9,λr c=>(by cases c),λi e=>?_⟩;have:az b i∈b:=mem_row;rw[d _ this];rfl
theorem aaN(b:∀e∈l,e.1.Pairwise (·<·)):∀e∈aX known vals l,e.1.Pairwise (·<·):=λe d=>by
 obtain⟨c,a,rfl⟩:=qI.1 (qJ.1 d).1;exact(b c a).filter _
theorem UT:(aX known vals l).length<=m8 l:=by
 unfold aX
 grind
theorem UU{m:Nat}(b:∀e∈l,m8 e.1<=m):∀e∈aX known vals l,m8 e.1<=m:=λe d=>by
 obtain⟨c,a,rfl⟩:=qI.1 (qJ.1 d).1;exact Nat.le_trans (List.length_filter_le _ _) (b c a)
end
end
variable {t t2 e k:Nat} {z:aR} {by_:Nat} {α:Type} {h h0:Heap} {p q B:ar} {s v:Sl} {f:α->aR} {l l2:List α} {As:List HP}
section
variable {C:Ctx}
theorem OE(d:C.Ok)(j:bO C.toAA t e k z by_)(Q:∃i y,C.T.get t2=dB i/\i.co=.slice y)(H:m8 z=k)(r:0<by_/\by_<=128)(B:∀x,(f x).length=k)
  (a:Seq h q s k f l) (E:s.len<=s.cap) (c:¬s.len+v.len<=s.cap) (D:Seq h p v k f l2) (V:s.cap+m8 l2<=2^32) {ty:Nat} {K:Sl->Heap->Prop}
  (I:∀w h',Own h' e w k f (l++l2)->aQ (λ_=>True) h h'->w.ptr=dB ⟨h.size,0,none⟩->K w h'):
  bC C.P (q6 #[t,t2] ty #[.slice s.ptr s.len s.cap,.slice v.ptr v.len v.cap]) (.one (.sc .slc)) h K:=by
 obtain⟨W,y,O,S⟩:=Q;have n:C.P.underlying t2=dB (.slice y):=by have:=d.co O;rw[S]at this;exact iB this
 obtain⟨A,g,x2,x3,U,N,L⟩:=j.info d;unfold bC q6;simp only[zN,wc,qO];refine au.bind (au.always (aK (j.under d)) ?_);refine au.bind (au.always (j.size d) ?_);refine au.bind (au.always (aK n) ?_);refine au.bind (au.pure' ?_);simp only[zc,if_false,wG,if_true];refine au.bind (au.pure' ?_);have F:=a.len;have m:=D.len;rw[k4 c];refine au.bind (au.always (cG g) ?_);rw[k4 λR=>by rcases R.2 with h|h<;>first|exact h|(rw[x3]at h;omega)];refine au.bind (au.always (cG g) ?_);have G:=IC (s.len+v.len) s.cap;rw[k4 (by
  have:Builtin.nextslicecap (s.len+v.len) s.cap*A.bytes<=(16*2^32+16*768)*128:=zq nb (by rw[x3];exact r.2);omega)]
 refine au.bind (au.Ed ⟨λM=>(by cases M),λ_ J=>?_⟩);refine au.bind (au.always (cG g) ?_);refine au.bind (au.Bb ?_);refine au.bind (eC B a ?_);refine au.bind (eC B D ?_);have u:aL C.P (zeroValue e) U:=(cG g).bind (by rw[N];exact .pure);refine au.bind (au.always u ?_);rw[L,tU];unfold newRow;refine au.bind (au.bind (au.oh (au.pure' (au.pure' ?_))));generalize o:Question.cut (Question.appendCap (s.len+v.len) s.cap e) J=cc;have b:s.len+v.len<=cc:=by rw[<-o];simp only[Question.cut];omega
 refine⟨⟨dB ⟨h.size,0,none⟩,s.len+v.len,cc⟩,m9,I _ _ ⟨?_,.inr ⟨h.size,iQ z (cc-(s.len+v.len)),m9,?_,?_,b⟩⟩ (aQ.push _ _ _) m9⟩
 .simp;omega
 .simp
 .rw[mI,H]
theorem aa.ED(y:C.Ok)(H:aa B h0 h As)(n:bO C.toAA t e k z by_)(D:∃i A,C.T.get t2=dB i/\i.co=.slice A)(o:m8 z=k)(g:0<by_/\by_<=128)(m:∀x,(f x).length=k)
  (c:Seq h q s k f l) (a:s.len<=s.cap) (b:¬s.len+v.len<=s.cap) (r:Seq h p v k f l2) (j:s.cap+m8 l2<=2^32) {ty:Nat} {K:Sl->Heap->Prop}
  (u:∀d h',aa B h0 h' (As++[ai e d k f (l++l2)])->K d h'):
  bC C.P (q6 #[t,t2] ty #[.slice s.ptr s.len s.cap,.slice v.ptr v.len v.cap]) (.one (.sc .slc)) h K:=
 OE y n D o g m c a b r j λd h' E w F=>u d h' (H.comp (El m9 E F w))
end
section
variable {C:Ctx}
theorem ig(b:C.Ok)(c:bO C.toAA t e k z by_)(n:Nat){x y:Int}(f:x=n)(d:y=n)(i:n<=s.cap){K:Sl->Heap->Prop}(j:K ⟨s.ptr,n,n⟩ h):
  bC C.P (Instr.sliceAt t (.slice s.ptr s.len s.cap) none (dB (xJ xP x)) (dB (xJ xP y))) (.one (.sc .slc)) h K:=by
 subst f;subst d;have g:aL C.P (zY eL s.len s.cap none (dB (xJ xP (n))) (dB (xJ xP (n)))) (0,n,n):=λw=>by
  have x3:(n)<=(s.cap):=nb
  simp[zY,Instr.sliceBound,asIntOf,x3,]
 refine au.bind (au.always (aK (c.under b)) ?_);refine au.bind (au.always (aK (c.under b)) ?_);refine au.bind (au.always g ?_);refine au.bind (au.always (c.size b) ?_);have l:(if n=0 then s.ptr else s.ptr.map (·.add (0*k)))=s.ptr:=by
  split
  .rfl
  .cases s.ptr with
   |none=>rfl
   |some a=>simp[Addr.add]
 refine au.pure' ⟨⟨s.ptr,n,n⟩,?_,j⟩
 grind
end
namespace Gf
def pl(a b:Nat):Nat->Nat
 |0=>0
 |i+1=>if b/2^i%2=1 then pl a b i^^^(a*2^i)else pl a b i
def rd(p:Nat):Nat->Nat
 |0=>p
 |i+1=>if rd p i/2^(15-i)%2=1 then rd p i^^^(283*2^(7-i))else rd p i
theorem QD(p q i:Nat):(p^^^q)/2^i%2=(p/2^i%2+q/2^i%2)%2:=by
 have h:=Nat.testBit_xor p q i
 grind
theorem Yc(x y k i:Nat):(if(x^^^y)/2^i%2=1 then(x^^^y)^^^k else x^^^y)=(if x/2^i%2=1 then x^^^k else x)^^^(if y/2^i%2=1 then y^^^k else y):=by
 rw[QD];rcases(show x/2^i%2=0∨x/2^i%2=1 by omega)with h|h<;>rcases(show y/2^i%2=0∨y/2^i%2=1 by omega)with h'|h'<;>rw[h,h']<;>simp
 .ac_rfl
 .ac_rfl
 grind
theorem UV(p q:Nat):∀i,rd (p^^^q) i=rd p i^^^rd q i
 |0=>rfl
 |i+1=>by simp only[rd,UV p q i];exact Yc _ _ _ _
theorem UW(a b c:Nat):∀i,pl a (b^^^c) i=pl a b i^^^pl a c i
 |0=>by simp[pl]
 |i+1=>by
  simp only[pl,UW a b c i,QD];rcases(show b/2^i%2=0∨b/2^i%2=1 by omega)with h|h<;>rcases(show c/2^i%2=0∨c/2^i%2=1 by omega)with h'|h'<;>rw[h,h']<;>simp
  .ac_rfl
  .ac_rfl
  grind
def nk(a b:Nat):Nat:=rd (pl a b 8) 8%256
theorem OF(a b c:Nat):nk a (b^^^c)=nk a b^^^nk a c:=by unfold nk;rw[UW,UV,show 256=2^8 from m9,Nat.xor_mod_two_pow]
theorem mul_two:∀a:UInt8,mul a 2=x2 a:=LK oi
def itx(a:UInt8):Nat->UInt8
 |0=>a
 |k+1=>x2 (itx a k)
theorem pow_two:∀k,k<7->zI (2^(k+1))=mul (zI (2^k)) 2:=oi
theorem mul_pow(a:UInt8):∀k,k<8->mul a (zI (2^k))=itx a k
 |0,_=>mul_one a
 |k+1,h=>by rw[pow_two k nb,<-mul_assoc,mul_pow a k nb,mul_two];rfl
theorem Yd:∀n,n<256->∀k,k<8->nk n (2^k)=(itx (zI n) k).toNat:=oi
theorem UX:∀k,k<8->∀b,b<256->b<2^(k+1)->2^k<=b->b=(b-2^k)^^^2^k/\zI b=zI (b-2^k)^^^zI (2^k):=oi
theorem FV(a:UInt8):∀k,k<=8->∀b,b<2^k->nk a.toNat b=(mul a (zI b)).toNat
 |0,_,b,hb=>by
  have:b=0:=by simpa using hb
  subst this;have h0:∀n,n<256->nk n 0=0:=oi
  rw[h0 _ (zQ a)];show 0=(mul a 0).toNat;rw[mul_zero];rfl
 |k+1,h,b,hb=>by
  have h8:2^(k+1)<=2^8:=Nat.pow_le_pow_right nq h;by_cases d:b<2^k
  .exact FV a k nb b d
  .have c:=UX k nb b nb hb nb;rw[c.2,jL]
   conv=>lhs;rw[c.1]
   rw[OF,FV a k nb (b-2^k) nb,Yd _ (zQ a) k nb,wN,mul_pow a k nb];rfl
theorem SB(a b:UInt8):nk a.toNat b.toNat=(mul a b).toNat:=by
 have:=FV a 8 (qj _) b.toNat (zQ b)
 rwa [wN]at this
theorem SC(a b:Nat)(e:a<256):∀i,i<=8->pl a b i<2^16
 |0,_=>by simp[pl]
 |i+1,h=>by
  have c:=SC a b e i nb;have d:a*2^i<2^16:=by have:2^i<=2^7:=Nat.pow_le_pow_right nq nb;have:=zq (Nat.le_of_lt_succ (show a<255+1 by omega)) this;omega
  rw[pl];split
  .exact Nat.xor_lt_two_pow c d
  .exact c
theorem ZO(p:Nat)(b:p<2^16):∀i,i<=8->rd p i<2^16
 |0,_=>b
 |i+1,h=>by
  have a:=ZO p b i nb;have c:283*2^(7-i)<2^16:=by have:2^(7-i)<=2^7:=Nat.pow_le_pow_right nq nb;have:=zq (qj 283) this;omega
  rw[rd];split
  .exact Nat.xor_lt_two_pow a c
  .exact a
theorem UY:∀a:UInt8,mul a 3=x3 a:=LK oi
theorem SD{a b:UInt8}(h:mul a b=1):b=inv a:=by
 have c:a≠0:=λe=>by rw[e,zero_mul]at h;cases h
 have:=congrArg (mul (inv a)) h;rw[<-mul_assoc,mul_comm (inv a) a,AD c,one_mul,mul_one]at this;exact this
end Gf
variable {B:ar} {α:Type} {h0 h:Heap} {As:List HP} {e t t2 k by_:Nat} {s:Sl} {f:α->aR} {d:List α} {z:aR}
section
variable {C:Ctx}
theorem Own.IR(y:C.Ok)(B:bO C.toAA t e k z by_)(L:∃i w,C.T.get t2=dB i/\i.co=.slice w)(g:∀x,(f x).length=k)
  (n:Own h e s k f d) (j:∀x,∀c∈f x,c.oneCell'=eL) (i:Nat) (N:i<m8 d) {ty:Nat} {K:Sl->Heap->Prop}
  (F:∀h',Own h' e s k f ((d.take i++d.drop (i+1))++d.drop (m8 d-1))->aQ (λb=>¬s.on b) h h'->K ⟨s.ptr,m8 d-1,s.cap⟩ h'):
  bC C.P (q6 #[t,t2] ty #[.slice s.ptr i s.cap,.slice (if s.cap=i+1 then s.ptr else s.ptr.map (·.add ((i+1)*k))) (s.len-(i+1)) (s.cap-(i+1))]) (.one (.sc .slc)) h K:=by
 obtain⟨Q,w,I,O⟩:=L;have q:C.P.underlying t2=dB (.slice w):=by have:=y.co I;rw[O]at this;exact iB this
 have E:=n.len;have l:=n.cap;have D:Seq h (λ_=>True) ⟨if s.cap=i+1 then s.ptr else s.ptr.map (·.add ((i+1)*k)),s.len-(i+1),s.cap-(i+1)⟩ k f (d.drop (i+1)):=Seq.drop (n.seq g λ_ _=>trivial) (i+1) l;obtain⟨v,a⟩:∃v:Sl,v=⟨if s.cap=i+1 then s.ptr else s.ptr.map (·.add ((i+1)*k)),s.len-(i+1),s.cap-(i+1)⟩:=⟨_,rfl⟩
 rw[<-a]at D;have J:(Value.slice (if s.cap=i+1 then s.ptr else s.ptr.map (·.add ((i+1)*k))) (s.len-(i+1)) (s.cap-(i+1)))=.slice v.ptr v.len v.cap:=by rw[a]
 have G:v.len=s.len-(i+1):=by rw[a]
 rw[J];unfold bC q6;simp only[zN,wc,qO];refine au.bind (au.always (aK (B.under y)) ?_);refine au.bind (au.always (B.size y) ?_);refine au.bind (au.always (aK q) ?_);refine au.bind (au.pure' ?_);simp only[zc,if_false,wG,if_true];refine au.bind (au.pure' ?_);have m:i+v.len<=s.cap:=nb
 rw[hZ m];refine au.bind (eC g D ?_);rcases n.head with⟨p1,p2,p3⟩|⟨b,rest,p1,p2,p3,p4⟩
 .subst p3;simp at N
 .rw[p1];refine au.bind ?_;rw[add_eq,w9];have A:d=d.take i++((d.drop i).take (m8 d-1-i)++d.drop (m8 d-1)):=by
   have H:(d.drop i).drop (m8 d-1-i)=d.drop (m8 d-1):=by rw[List.drop_drop];congr 1;omega
   rw[<-H,qA,qA]
  have u:((d.drop i).take (m8 d-1-i)).length=m8 d-1-i:=n2
  have o:(d.drop (i+1)).length=m8 d-1-i:=n2
  refine fc (e:=e) (pre:=(d.take i).flatMap f) (old:=((d.drop i).take (m8 d-1-i)).flatMap f) (post:=(d.drop (m8 d-1)).flatMap f++rest) ?_ ?_ ?_ ?_ ?_
  .have:(d.take i).flatMap f++((d.drop i).take (m8 d-1-i)).flatMap f++((d.drop (m8 d-1)).flatMap f++rest)=d.flatMap f++rest:=by
    conv=>rhs;rw[A]
    simp only[za,ql]
   rw[this];exact p2
  .rw[dz g,dz g,u,o]
  .rw[dz g,List.length_take,Nat.min_eq_left nb];omega
  .intro c M;obtain⟨x,_,p⟩:=List.mem_flatMap.1 M;exact j x c p
  .have r:i+v.len=m8 d-1:=nb
   rw[r];refine au.pure' ⟨⟨dB ⟨b,0,none⟩,m8 d-1,s.cap⟩,m9,?_⟩;rw[<-p1];refine F _ ⟨?_,.inr ⟨b,rest,p1,?_,p3,p4⟩⟩ ?_
   .simp;omega
   .rw[hJ p2,hZ rfl];simp[za]
   .exact aQ.ju p2 (λr=>r ⟨0,p1⟩)
theorem aa.IR(u:C.Ok)(H:aa B h0 h As)(j:Nat)(n:As[j]?=dB (ai e s k f d))(p:bO C.toAA t e k z by_)(w:∃i v,C.T.get t2=dB i/\i.co=.slice v)(o:∀x,(f x).length=k)
  (a:∀x,∀c∈f x,c.oneCell'=eL) (i:Nat) (A:i<m8 d) {ty:Nat} {K:Sl->Heap->Prop}
  (r:∀h',aa B h0 h' (As.set j (ai e s k f ((d.take i++d.drop (i+1))++d.drop (m8 d-1))))->K ⟨s.ptr,m8 d-1,s.cap⟩ h'):
  bC C.P (q6 #[t,t2] ty #[.slice s.ptr i s.cap,.slice (if s.cap=i+1 then s.ptr else s.ptr.map (·.add ((i+1)*k))) (s.len-(i+1)) (s.cap-(i+1))]) (.one (.sc .slc)) h K:=
 (H.own j n).IR u p w o a i A λh' x y=>r h' (H.step j n λq m _=>⟨y.mono λb _ g l=>g (m.2 b l),x,λb g=>⟨x.lt g,.inl (m.2 b g)⟩⟩)
end
variable {P:Program}
structure afb (P:Program) (t it:TypeId):Prop where
 u:∃f0 f1 f2:Field,P.underlying t=dB (.struct #[f0,f1,f2])/\f0.name≠ "_" /\f1.name≠ "_" /\f2.name≠ "_" /\f0.type=it/\f1.type=it/\f2.type=it/\f0.offset=0/\f1.offset=1/\f2.offset=2
 st:P.stoodInHeld t=eR
 i:P.underlying it=dB (.int .i64)
 a:aL P (isAgg it) eR
abbrev k3v(x:Int×Int×Int):eX:=.agg #[xJ xP x.1,xJ xP x.2.1,xJ xP x.2.2]
structure afc (h:Heap) (r:Nat) (ks:List (Int×Int×Int)):Prop where
 ex:∃es clock,h[r]?=dB (.map es clock)/\es.toList.map (λe=>(e.key,e.val))=ks.map (λk=>(k3v k,Value.bool eL))
section
def ZP(x:ByteArray):List (ByteArray×α)->Option α
 |[]=>none
 |(k,u)::t=>if k=x then dB u else ZP x t
structure afd (h:Heap) (r:Nat) (g:α->eX) (kvs:List (ByteArray×α)):Prop where
 ex:∃es clock,h[r]?=dB (.map es clock)/\es.toList.map (λe=>(e.key,e.val))=kvs.map (λp=>(Value.string p.1,g p.2))/\∀e∈es.toList,e.born<clock
variable {P:Program} {h h':Heap} {r:Nat} {g:α->eX} {kvs:List (ByteArray×α)}
end
variable {h':Heap} {r:Nat} {g:α->eX} {kvs:List (ByteArray×α)}
theorem UZ(a:Addr):aL P (sameAddr a a) eL:=λw=>by
 simp[sameAddr]
theorem eq_self{t e:TypeId}{i:TypeInfo}(b:P.underlying t=dB (.pointer e))(c:P.info? e=dB i)(d:Nat)(a:bx):aL P (Op.equalIn (d+1) t (.pointer a) (.pointer a)) eL:=λw=>by
 cases a with
 |none=>simp[Op.equalIn,underlying,b]
 |some a=>
  simp[Op.equalIn,underlying,b,sizeOf,typeInfo,c];exactλ_=>UZ a w
theorem Ye{t e:TypeId}{i:TypeInfo}{x y:Operand}(c:P.underlying t=dB (.pointer e))(b:P.info? e=dB i)(a:bx):iN P .neq t x y (.pointer a) (.pointer a) (.bool eR):=by
 unfold iN;have d:aL P (eqGuard .neq t x y (.pointer a) (.pointer a)) ():=by intro w;simp only[eqGuard];rfl
 refine d.bind ?_;simp only[binOp,Bd];exact(eq_self c b _ a).bind .pure
section
open Go.RowKit Go.ChangeShapes Go.WideShapes Go.Joins Go.Deep
section
variable {H:Type} {enc:TypeId×eX->H} {P:Program} {W W':World}
theorem Yf{w c:World}(a:dm w c)(d:aQ (λb=>b<w.heap.size) w.heap c.heap):Below w.heap.size w c:=
 ⟨a.os,a.tape,a.output,d.1,λk e=>d.2 k e e⟩
theorem Cn(f:laidOutB P=eL)(g:Below W.heap.size W W'):∀{ts:List TypeId} {vs:aR} {c:List (DataW H)} {ps:List MemPlace},
  (∀t∈ts,P.readableRec t=eL/\t<P.types.size)->DataW.TrodAll enc P W 0 (λ_=>eL) eL ts vs c ps->(∀x∈ps,x.block<W.heap.size)->DataW.TrodAll enc P W' 0 (λb=>decide (b<W.heap.size)) eL ts vs c ps
 |[],[],[],ps,_,h,_=>h
 |t::ts,v::vs,d::c,ps,hr,⟨p,q,h1,h2,e⟩,hlt=>by
  subst e;exact⟨p,q,Below.trod f (hr t n4).1 (hr t n4).2 h1 g λx a=>hlt x E1,Cn f g (λu i=>hr u (by simp[i])) h2 λx a=>hlt x E1,m9⟩
 |[],_::_,_,_,_,h,_=>h.elim
 |[],[],_::_,_,_,h,_=>h.elim
 |_::_,[],_,_,_,h,_=>h.elim
 |_::_,_::_,[],_,_,h,_=>h.elim
theorem Yg{f:Func}{s:ChangeSpec}{args:Array eX}{d:List (DataW H)}{a:List MemPlace}{rt:TypeId}(l:s.vars=[])(e:DataW.Whole enc P f.params.toList s.vars eR W args.toList d [] a)
  (b:s.fn H (d++[])={results:=[.lit (.bool eL)],args:=d}) (m:laidOutB P=eL) (j:Below W.heap.size W W') (o:∀t∈f.params.toList,P.readableRec t=eL/\t<P.types.size)
  (c:f.resultTypes=#[rt]) (g:P.underlying rt=dB .bool):s.post enc P f eR eL eR eR W args (.bool eL) W':=by
 obtain⟨p,q,n,k,h3,v,u⟩:=id e;have i:=e.lt;rw[l]at k;have r:q=[]:=k;subst r;simp only[qL]at h3;subst h3;refine⟨d,[],a,[],a,[],e,?_,?_,?_,j.frame _,λh=>p9⟩
 .rw[b,c];exact trodAll_mk1 (shut_bool g eL)
 .rw[b];exact Cn m j o n i
 .rw[b,l];rfl
theorem Ai(w:World)(a:Addr):w.cell? a=cellOf w.heap a:=rfl
theorem Va{h:Heap}{a:Addr}{v:eX}(c:cellOf h a=dB v):a=⟨a.block,a.off,none⟩:=by
 obtain⟨b,o,s⟩:=a;cases s with
 |none=>rfl
 |some s=>
  unfold cellOf at c;cases hb:h[b]? with
  |none=>rw[hb]at c;cases c
  |some x=>rw[hb]at c;cases x<;>simp at c
theorem MC{α:Type}{f:α->eX}{h:Heap}{a:Addr}{len cap:Nat}{l:List α}(j:m8 l=len)(d:∀i (c:i<m8 l),cellOf h (a.add i)=dB (f l[i])):Seq h (λb=>b<h.size) ⟨dB a,len,cap⟩ 1 (λx=>[f x]) l:=by refine⟨j.symm,λi x k=>?_⟩;obtain⟨c,e⟩:=List.getElem?_eq_some_iff.1 k;have h0:=d 0 nb;rw[add_zero]at h0;have g:=Va h0;refine⟨a.block,a.off,by rw[<-g],di h0,?_,I0⟩;have:=d i c;rw[g,add_eq]at this;rw[Nat.mul_one,add_eq,Nat.add_zero,this,e]
theorem MD{t e:TypeId}{v:eX}{d:DataW H}{ps:List MemPlace}(o:P.underlying t=dB (.slice e))(j:P.underlying e=dB (.int .i64))(q:P.cellsOf e=1)
  (k:∃p n c,v=.slice p n c) (h:DataW.Trod enc P W 0 (λ_=>eL) eL t v d ps):∃(s:Sl) (l:aC),v=.slice s.ptr s.len s.cap/\Seq W.heap (λb=>b<W.heap.size) s 1 av l:=by
 obtain⟨g,m⟩:=h;obtain⟨p,n,c,rfl⟩:=k;rcases open_ints o j q m with⟨h1,_⟩|⟨a,len,cap,zs,h1,_,hle,_,hz,_,hcell,_⟩
 .simp[Value.cells]at h1;obtain⟨rfl,rfl,rfl⟩:=h1;exact⟨⟨none,0,0⟩,[],m9,Seq.nil _ _ _ _ _ _⟩
 .simp[Value.cells]at h1;obtain⟨rfl,rfl,rfl⟩:=h1;simp only[if_true]at hz;refine⟨⟨dB a,n,c⟩,zs.take n,m9,MC (f:=λx=>xJ xP x) n2 λi r=>?_⟩;simp at r;rw[<-Ai,hcell i nb];simp[qg,qc (show i<m8 zs by omega)]
theorem Co{r:_root_.Go.Reach}{b:Nat}{t e:TypeId}{v:eX}(a:P.underlying t=dB (.slice e))(h:Value.okWide P W r b t v):∃p n c,v=.slice p n c:=by simp only[Value.okWide,a,Cell.okWide]at h;cases v<;>simp_all [Cell.ok]
theorem Vb{t e:TypeId}{v:eX}{d:DataW H}{ps:List MemPlace}(q:P.underlying t=dB (.slice e))(k:P.underlying e=dB (.int .u8))(r:P.cellsOf e=1)
  (m:∃p n c,v=.slice p n c) (h:DataW.Trod enc P W 0 (λ_=>eL) eL t v d ps):∃(s:Sl) (l:aT),v=.slice s.ptr s.len s.cap/\Seq W.heap (λb=>b<W.heap.size) s 1 aq l/\s.len<=s.cap:=by
 obtain⟨g,o⟩:=h;obtain⟨p,n,c,rfl⟩:=m;rcases open_ints q k r o with⟨h1,_⟩|⟨a,len,cap,zs,h1,_,hle,_,hz,_,hcell,hwf⟩
 .simp[Value.cells]at h1;obtain⟨rfl,rfl,rfl⟩:=h1;exact⟨⟨none,0,0⟩,[],m9,Seq.nil _ _ _ _ _ _,nq⟩
 .simp[Value.cells]at h1;obtain⟨rfl,rfl,rfl⟩:=h1;simp only[if_true]at hz;refine⟨⟨dB a,n,c⟩,(zs.take n).map λz=>zI z.toNat,m9,MC (f:=λx:UInt8=>xJ xQ x.toNat) n2 λi u=>?_,hle⟩;simp at u;rw[<-Ai,hcell i nb];have j:=hwf zs[i] (qe _);have w:0<=zs[i]/\zs[i]<256:=by simp[Lit.wf]at j;have A:IntKind.u8.min=0:=rfl;have y:IntKind.u8.max=255:=rfl;omega
  simp[qg,qc (show i<m8 zs by omega)];omega
theorem Vd{t e:TypeId}{v:eX}{d:DataW H}{ps:List MemPlace}(o:P.underlying t=dB (.slice e))(j:P.underlying e=dB (.int .i64))(q:P.cellsOf e=1)
  (k:∃p n c,v=.slice p n c) (h:DataW.Trod enc P W 0 (λ_=>eL) eL t v d ps):∃(s:Sl) (l:aC),v=.slice s.ptr s.len s.cap/\Seq W.heap (λb=>b<W.heap.size) s 1 av l/\s.len<=s.cap:=by
 obtain⟨g,m⟩:=h;obtain⟨p,n,c,rfl⟩:=k;rcases open_ints o j q m with⟨h1,_⟩|⟨a,len,cap,zs,h1,_,hle,_,hz,_,hcell,_⟩
 .simp[Value.cells]at h1;obtain⟨rfl,rfl,rfl⟩:=h1;exact⟨⟨none,0,0⟩,[],m9,Seq.nil _ _ _ _ _ _,nq⟩
 .simp[Value.cells]at h1;obtain⟨rfl,rfl,rfl⟩:=h1;simp only[if_true]at hz;refine⟨⟨dB a,n,c⟩,zs.take n,m9,MC (f:=λx=>xJ xP x) n2 λi r=>?_,hle⟩;simp at r;rw[<-Ai,hcell i nb];simp[qg,qc (show i<m8 zs by omega)]
end
end
variable {H:Type}
section
variable {enc:TypeId×eX->H}
end
theorem Ve{P:Program}(h:P.funcs.any Func.goes=eR)(f:FuncId):P.goes f=eR:=by
 have b:∀g:FuncId,(P.funcs[g]?).any Func.goes=eR:=λg=>by
  cases hg:P.funcs[g]? with
  |none=>rfl
  |some x=>
   show Func.goes x=eR;obtain⟨a,e⟩:=Array.getElem?_eq_some_iff.1 hg;cases hx:Func.goes x with
   |false=>rfl
   |true=>
    have:P.funcs.any Func.goes=eL:=Array.any_eq_true.2 ⟨g,a,by rw[e];exact hx⟩;rw[h]at this;cases this
 unfold Program.goes;rw[h,Bool.and_false,Bool.or_false];simp only[b];simp
theorem OG{P:Program}{c:OpenClaim}(h:P.funcs.any Func.goes=eR):c.goesBy P=eR:=by
 have a:∀f,P.goes f=eR:=Ve h;unfold OpenClaim.goesBy Program.goesAt Program.goesFrom;have b:(P.funcNamed c.func).any P.goes=eR:=by
  cases P.funcNamed c.func with
  |none=>rfl
  |some f=>exact a f
 have h3:P.inits.toList.any P.goes=eR:=wh.2 λf _=>by rw[a f];exact Bool.false_ne_true
 rw[b,h3];cases c.start<;>rfl
end Go.Qw
