/- Lemmas for the proof of the law; no condition. -/
import Derived.Test.YtmobnmonkaacaaaGreatDoorPlA
import Derived.ProofKit
import Derived.Deep.Matrix
import Derived.Carry
import Derived.Lib.SmallJoins
import Derived.Handed
import Derived.HandedShaped
import Derived.ChangeMaps5
import Derived.SevenTiedAt
set_option linter.unusedVariables false
set_option linter.unusedSimpArgs false
open List renaming getElem_append_left -> vz, nodup_cons -> y8, nodup_range -> xd, range -> qy, range' -> xA, replicate -> qh
open Nat renaming lt_succ_self -> vY
open UInt8 renaming ofNat -> zI
open Prod renaming fst -> qA, snd -> zh
open Go.Builtin renaming append_ -> q6
open Go.Value renaming int -> xH
open Go.IntKind renaming i64 -> xN, u8 -> xO
open Go.Instr renaming sliceBounds -> zZ
set_option maxRecDepth 100000
open Option renaming some -> dB
open Bool renaming true -> eX, false -> eY
open Go renaming Value -> fY
open List renaming length -> n4
namespace Go.Qw
theorem NX(b:ByteArray):∀n i r,b.size-i=n->ByteArray.toList.loop b i r=r.reverse++b.data.toList.drop i:=by
 have c:n4 b.data.toList=b.size:=rfl;intro n
 induction n with
 |zero=>
  intro i r h;rw[ByteArray.toList.loop,nq n7,List.drop_eq_nil_of_le (by rw[c];omega),qL]
 |succ n ih=>
  intro i r h;have a:i<b.size:=n7
  rw[ByteArray.toList.loop,m6 a,ih (i+1) _ n7];have d:b.data.toList.drop i=b.get! i::b.data.toList.drop (i+1):=by rw[List.drop_eq_getElem_cons (by rw[c];exact a)];congr 1;show _=b.data[i]!;rw[getElem!_pos b.data i a,Array.getElem_toList]
  rw[d,List.reverse_cons,ql];rfl
theorem toList_eq(x:ByteArray):x.toList=x.data.toList:=by unfold ByteArray.toList;rw[NX x _ 0 [] rfl];rfl
theorem Rx{a b:ByteArray}(h:a.toList=b.toList):a=b:=by rw[toList_eq,toList_eq]at h;cases a;cases b;congr;exact Array.toList_inj.1 h
theorem PT(s:Nat×aO)(aW:Nat):(fI s aW).1<=s.1+1:=by
 unfold fI;cases fp s.2 s.1 aW with
 |none=>exact Nat.le_succ _
 |some i=>exact qj _
theorem Jn(m:aO):∀c,(ba m c).1<=c
 |0=>qj _
 |c+1=>by
  have a:=PT (ba m c) c;have b:=Jn m c;rw[ba];omega
theorem GF(m:aO)(c:Nat):∀d,(ba m (c+d)).1<=(ba m c).1+d
 |0=>qj _
 |d+1=>by
  have a:=PT (ba m (c+d)) (c+d);have b:=GF m c d;rw[show c+(d+1)=(c+d)+1 by omega,ba];omega
theorem LV{m:aO}{n:Nat}(h:(ba m n).1=n){c:Nat}(b:c<=n):(ba m c).1=c:=by have d:=Jn m c;have a:=GF m c (n-c);rw[show c+(n-c)=n by omega,h]at a;omega
theorem Jo{m:aO}{n:Nat}(h:(ba m n).1=n){c:Nat}(d:c<n):∃i,fp (ba m c).2 c c=dB i/\(ba m (c+1)).2=bO c c (fS c c (fH (ba m c).2 c i)) (ba m c).2.length:=by
 have b:=LV h (show c<=n by omega);have a:=LV h (show c+1<=n by omega);rw[ba,fI,b]at a;cases hb:fp (ba m c).2 c c with
 |none=>rw[hb]at a;dsimp only at a;omega
 |some i=>
  refine⟨i,n5,?_⟩;rw[ba,fI,b,hb]
theorem CG{m:aO}{a aW i:Nat}(h:fp m a aW=dB i){j:Nat}(c:a<=j)(b:j<i):aM (aA m j) aW=0:=by rw[fp,List.find?_range_eq_some]at h;have:=h.2.2 j b;simp at this;exact this.resolve_left n7
theorem GG(n:Nat)(c:UInt8)(r:Row):(scaleB c r).drop n=scaleB c (r.drop n):=by simp[scaleB,List.map_drop]
theorem LW(n:Nat)(c:UInt8)(a t:Row):(cH c a t).drop n=cH c (a.drop n) (t.drop n):=by simp[cH,List.drop_zipWith]
def YW:Nat->Nat->Nat->List (List Nat)
 |0,_,_=>[[]]
 |t+1,a,n=>(xA a (n-t-a)).flatMap λi=>(YW t (i+1) n).map (i::·)
def Ry(n:Nat):List Nat->Option (List Nat)
 |[]=>none
 |x::l=>match Ry n l with
  |some l'=>dB (x::l')
  |none=>if x+n4 l+1<n then dB (xA (x+1) (n4 l+1))else none
inductive Xf (n:Nat):List Nat->List (List Nat)->Prop
 |last {l:List Nat}:Ry n l=none->Xf n l [l]
 |more {l l':List Nat} {L:List (List Nat)}:Ry n l=dB l'->Xf n l' L->Xf n l (l::L)
def ch:Nat->Nat->Nat
 |_,0=>1
 |0,_+1=>0
 |n+1,k+1=>ch n k+ch n (k+1)
def abA(n t:Int):Int:=if 0<=n/\n<=64/\0<=t/\t<=n then(min (ch n.toNat t.toNat) 4097:Nat)else 0
section
open Classical
def gV(r:Row):Nat:=r.findIdx (λx=>x !=0)
section
variable {n:Nat} {m M A:aO}
structure adY (n:Nat) (M A:aO):Prop where
 even:aU n M
 evenA:aU n A
 span:∀v,Span n M v↔Span n A v
 len:n4 M=cv A
 lead:∀x∈M,gV x<n
theorem Xg(a:aU n m):Way n m n (cv m) (ba m (ee m)).2:=by
 have h:=DZ a n (qj _);cases m with
 |nil=>rw[kt]at h;exact h
 |cons x t=>
  have b:ee (x::t)=n:=by rw[ee,bf oo];exact a _ oo
  rw[cv,b];exact h
end
def RB(r:aR×Bool)(n:Int):aR×(aR×Bool):=if n<=n4 r.1 then(r.1.take n.toNat,(r.1.drop n.toNat,r.2))else([],(r.1,eX))
def adt(l:aR):Int:=l.foldl (λn x=>n*256+(x.toNat:Int)) 0
def oH(r:aR×Bool)(k:Int):Int×(aR×Bool):=(adt (RB r k).1,(RB r k).2)
def KS:Nat->aR×Bool->aC×(aR×Bool)
 |0,r=>([],r)
 |n+1,r=>if r.2 then([],r)else((oH r 1).1::(KS n (oH r 1).2).1,(KS n (oH r 1).2).2)
def Xh(p:Int×Int×Int)(r:aR×Bool):cT×(aR×Bool):=
 let a:=oH r 1;let b:=RB a.2 a.1;let c:=oH b.2 3;let d:=oH c.2 2;let e:=KS (countP p d.1).toNat d.2
 (⟨⟨b.1.toArray⟩,c.1,d.1,e.1⟩,e.2)
def RC(p:Int×Int×Int):Nat->aR×Bool->List cT×(aR×Bool)
 |0,r=>([],r)
 |n+1,r=>if r.2 then([],r)else((Xh p r).1::(RC p n (Xh p r).2).1,(RC p n (Xh p r).2).2)
def RD(b:aR):aB×(aR×Bool):=
 let a:=oH (b,eY) 4;let c:=oH a.2 4;let k:=oH c.2 1;let h:=oH k.2 1;let z:=oH h.2 1;let x:=oH z.2 1;let n:=oH x.2 1;let d:=KS n.1.toNat n.2;let o:=oH d.2 1;let e:=RC (k.1,h.1,z.1) o.1.toNat o.2
 (⟨a.1,c.1,(k.1,h.1,z.1),x.1,d.1,e.1⟩,e.2)
def abB(b:aR):Option aB:=if(RD b).2.2||(decide (n4 b=0)||!decide (b=gy (RD b).1))then none else dB (RD b).1
abbrev fi:=aC×Row
def cY(x:Int->UInt8):aC->UInt8
 |[]=>0
 |c::l=>x c^^^cY x l
theorem ku{x y:Int->UInt8}:∀{l:aC},(∀c∈l,x c=y c)->cY x l=cY y l
 |[],_=>rfl
 |c::l,h=>by rw[cY,cY,h c oo,ku λd a=>h d o4]
theorem EH(x:Int->UInt8)(p:Int->Bool):∀l,cY x l=cY x (l.filter p)^^^cY x (l.filter λc=>!p c)
 |[]=>by simp[cY]
 |c::l=>by
  rw[cY,EH x p l];cases h:p c<;>simp only[zx,h,wG,if_true,zc,if_false,cY]<;>ac_rfl
theorem uI(x:Int->UInt8){c:Int}:∀{l:aC},l.Nodup->c∈l->cY x l=x c^^^cY x (l.filter λd=>!decide (d=c))
 |[],_,h=>t7
 |d::l,hd,h=>by
  rw[y8]at hd;rcases qN.1 h with rfl|h
  .have:l.filter (λd=>!decide (d=c))=l:=yQ.2 λe a=>o4
   rw[zx];simp only[decide_true,Bool.not_true,zc,if_false];rw[this,cY]
  .rw[zx,m6 o4,cY,uI x hd.2 h];ac_rfl
theorem LX(x y:Int->UInt8):∀l,cY (λc=>x c^^^y c) l=cY x l^^^cY y l
 |[]=>by simp[cY]
 |c::l=>by rw[cY,cY,cY,LX x y l];ac_rfl
theorem CH:∀{x:Int->UInt8} {l:aC},(∀c∈l,x c=0)->cY x l=0
 |_,[],_=>rfl
 |x,c::l,h=>by rw[cY,h c oo,CH λd a=>h d o4];rfl
def cS(V:aO)(a:Row)(l:aC):Row:=l.foldl (λa c=>cH 1 (aA V c.toNat) a) a
theorem jO{V:aO}{m:Nat}:∀{l:aC} {a:Row},n4 a=m->(∀c∈l,n4 (aA V c.toNat)=m)->n4 (cS V a l)=m
 |[],a,h,_=>h
 |c::l,a,h,hv=>by
  exact jO (l:=l) (by rw[cl o4];exact h) λd b=>hv d o4
theorem FD{V:aO}{m:Nat}(j:Nat):∀{l:aC} {a:Row},n4 a=m->(∀c∈l,n4 (aA V c.toNat)=m)->aM (cS V a l) j=aM a j^^^cY (λc=>aM (aA V c.toNat) j) l
 |[],a,_,_=>by simp[cS,cY]
 |c::l,a,h,hv=>by
  have b:n4 (aA V c.toNat)=n4 a:=o4
  rw[cS,zN];have:=FD (V:=V) j (l:=l) (a:=cH 1 (aA V c.toNat) a) (by rw[cl b];exact h) λd e=>hv d o4;rw[cS]at this;rw[this,cU b,Gf.one_mul,];ac_rfl
def Sat(t:UInt8)(k:Nat)(x:Int->UInt8)(e:fi):Prop:=cY x e.1=Gf.mul t (aM e.2 k)
structure iU (n w:Nat) (e:fi):Prop where
 cX:∀c∈e.1,0<=c/\c<(n:Int)
 nodup:e.1.Nodup
 len:n4 e.2=w
def kn(known:List Bool)(c:Int):Bool:=known.getD c.toNat eY
def fm(known:List Bool)(vals:aO)(e:fi):fi:=(e.1.filter λc=>!kn known c,cS vals e.2 (e.1.filter λc=>kn known c))
structure jP (n w:Nat) (l:List fi) (known:List Bool) (vals:aO):Prop where
 klen:n4 known=n
 vlen:n4 vals=n
 row:∀c:Nat,c<n->n4 (aA vals c)=if known.getD c eY then w else 0
 sound:∀t k x,k<w->(∀e∈l,Sat t k x e)->∀c:Int,0<=c->c<(n:Int)->kn known c=eX->x c=Gf.mul t (aM (aA vals c.toNat) k)
section
variable {n w:Nat} {l:List fi} {known:List Bool} {vals:aO}
theorem RE(n w:Nat)(l:List fi):jP n w l (qh n eY) (qh n []):=by
 refine⟨oo,oo,λc b=>?_,λt k x d f c h0 e a=>?_⟩
 .rw[bf o4];grind
 .rw[kn,]at a
  grind
theorem jP.CI(h:jP n w l known vals){c:Int}(d:0<=c)(b:c<(n:Int))(a:kn known c=eX):n4 (aA vals c.toNat)=w:=by
 have:=h.row c.toNat n7;rw[kn]at a
 grind
theorem jP.Ao(h:jP n w l known vals){e:fi}(b:iU n w e):iU n w (fm known vals e):=
 ⟨λc d=>b.cX c (qK.1 d).1,b.nodup.filter _,jO b.len λc d=>by
  have a:=qK.1 d;exact h.CI (b.cX c a.1).1 (b.cX c a.1).2 a.2⟩
theorem jP.Ec(h:jP n w l known vals){e:fi}(f:iU n w e){t:UInt8}{k:Nat}{x:Int->UInt8}(j:∀c:Int,0<=c->c<(n:Int)->kn known c=eX->x c=Gf.mul t (aM (aA vals c.toNat) k)):
  Sat t k x (fm known vals e)↔Sat t k x e:=by
 have g:∀c∈e.1.filter λc=>kn known c,n4 (aA vals c.toNat)=w:=λc d=>by
  have b:=qK.1 d;exact h.CI (f.cX c b.1).1 (f.cX c b.1).2 b.2
 have o:cY x (e.1.filter λc=>kn known c)=Gf.mul t (cY (λc=>aM (aA vals c.toNat) k) (e.1.filter λc=>kn known c)):=by
  rw[ku (y:=λc=>Gf.mul t (aM (aA vals c.toNat) k)) λc d=>j c (f.cX c (qK.1 d).1).1 (f.cX c (qK.1 d).1).2 (qK.1 d).2];generalize e.1.filter (λc=>kn known c)=m
  induction m with
  |nil=>simp[cY,Gf.mul_zero]
  |cons a m ih=>rw[cY,cY,Gf.jC,ih]
 unfold Sat fm;rw[FD k f.len g,Gf.jC,<-o,EH x (λc=>kn known c) e.1];constructor
 .intro i;rw[i];rw[vO,Am]
 .intro i;rw[<-i];rw[vO (cY x (e.1.filter λc=>kn known c)),Am]
theorem abC{known:List Bool}{c d:Int}(e:0<=c)(a:0<=d)(b:c<(n4 known:Int)):kn (known.set c.toNat eX) d=(decide (d=c)||kn known d):=by
 unfold kn
 grind
theorem Uh(h:jP n w l known vals)(m:∀e∈l,iU n w e){e:fi}(i:e∈l){c:Int}(o:(fm known vals e).1=[c]):jP n w l (known.set c.toNat eX) (vals.set c.toNat (fm known vals e).2):=by
 have b:=h.Ao (m e i);have f:=b.cX c o4;have u:=h.vlen;have q:=h.klen;refine⟨o4,o4,λd r=>?_,λt k x j g d h0 s p=>?_⟩
 .rw[kY,qg,List.getElem?_set];by_cases a:c.toNat=d
  .subst a;simp[show c.toNat<n4 known by omega,b.len]
  .rw[nq a,nq a,h.row d r,qg]
 .rw[abC f.1 h0 n7]at p;rw[kY];by_cases a:d=c
  .subst a;have:=(h.Ec (m e i) (h.sound t k x j g)).2 (g e i);unfold Sat at this;rw[o]at this;simpa[cY]using this
  .rw[nq n7];exact h.sound t k x j g d h0 s o4
theorem CJ(h:jP n w l known vals)(e:fi):∀c∈(fm known vals e).1,kn known c=eY:=λc a=>by
 have:=(qK.1 a).2;grind
def aX(known:List Bool)(vals:aO)(l:List fi):List fi:=(l.map (fm known vals)).filter λe=>!e.1.isEmpty
def kv(known:List Bool)(vals:aO)(l:List fi):Bool:=(l.map (fm known vals)).any λe=>e.1.isEmpty&&e.2.any (· !=0)
theorem LY(h:jP n w l known vals)(f:∀e∈l,iU n w e)(d:kv known vals l=eY){t:UInt8}{k:Nat}{x:Int->UInt8}(j:k<w):
  (∀e∈l,Sat t k x e)↔(∀c:Int,0<=c->c<(n:Int)->kn known c=eX->x c=Gf.mul t (aM (aA vals c.toNat) k))/\∀e∈aX known vals l,Sat t k x e:=by
 constructor
 .intro g;refine⟨h.sound t k x j g,λe a=>?_⟩;obtain⟨m,b,rfl⟩:=qI.1 (qK.1 a).1;exact(h.Ec (f m b) (h.sound t k x j g)).2 (g m b)
 .rintro⟨o,q⟩ e a;refine(h.Ec (f e a) o).1 ?_;by_cases i:(fm known vals e).1=[]
  .unfold Sat;rw[i,cY];have r:((fm known vals e).1.isEmpty&&(fm known vals e).2.any (· !=0))=eY:=by
    have:=wg.1 d _ (List.mem_map_of_mem a)
    grind
   rw[]at r;have p:∀y∈(fm known vals e).2,y=0:=o4
   have h3:=(h.Ao (f e a)).len;have:aM (fm known vals e).2 k=0:=by rw[aM,qg,qd n7];exact p _ (qe _)
   rw[this,Gf.mul_zero]
  .refine q _ (qK.2 ⟨List.mem_map_of_mem a,?_⟩)
   grind
theorem RF(h:jP n w l known vals)(i:∀e∈l,iU n w e)(c:kv known vals l=eX):∃k,k<w/\∀x:Int->UInt8,¬∀e∈l,Sat 1 k x e:=by
 obtain⟨y,o,g⟩:=zQ.1 c;obtain⟨e,f,rfl⟩:=qI.1 o;rw[qC]at g;obtain⟨z,p,a⟩:=zQ.1 g.2;obtain⟨k,m,rfl⟩:=qE p;have h3:=(h.Ao (i e f)).len;refine⟨k,n7,λx j=>?_⟩;have b:=(h.Ec (i e f) (h.sound 1 k x n7 j)).2 (j e f);unfold Sat at b;have d:(fm known vals e).1=[]:=by simpa using g.1
 rw[d,cY,Gf.one_mul,aM,qg,qd m]at b;simp at a;exact a b.symm
end
def jY(op:List Bool)(c:Int):Bool:=op.getD c.toNat eY
def dc(op:List Bool)(r:aC):aC:=r.filter (jY op)
def kR(rows:cO)(op us:List Bool)(i:Nat):Bool:=!(us.getD i eY)&&n4 (dc op (rows.getD i []))==1
def lG(rows:cO)(op us:List Bool):Option Nat:=(qy rows.length).find? (kR rows op us)
def eO(rows:cO)(op:List Bool)(i:Nat):Int:=(dc op (rows.getD i [])).getLast?.getD 0
def kw(a:aC)(r:aC):aC:=r.foldl (λa c=>a.set c.toNat (a.getD c.toNat 0+1)) a
def lh(g:Nat->aC->aC)(rows:cO)(us:List Bool)(a:aC):Nat->aC
 |0=>a
 |k+1=>if us.getD k eY then lh g rows us a k else kw (lh g rows us a k) (g k (rows.getD k []))
def iP(op:List Bool)(a:aC):Nat->Int
 |0=>-1
 |k+1=>if op.getD k eY&&(decide (iP op a k<0)||decide (a.getD k 0>a.getD (iP op a k).toNat 0))then(k:Int)else iP op a k
def iw(rows:cO)(op us:List Bool):Int:=iP op (lh (λ_ r=>r) rows us (qh op.length 0) rows.length) op.length
structure Pl where
 steps:List (Int×Int)
 dead:aC
 used:List Bool
def cz(rows:cO):Nat->List Bool->List Bool->Pl
 |0,_,us=>⟨[],[],us⟩
 |k+1,op,us=>
  if op.contains eX then
   match lG rows op us with
   |some i=>let r:=cz rows k (op.set (eO rows op i).toNat eY) (us.set i eX);⟨((i:Int),eO rows op i)::r.steps,r.dead,r.used⟩
   |none=>let r:=cz rows k (op.set (iw rows op us).toNat eY) us;⟨r.steps,iw rows op us::r.dead,r.used⟩
  else⟨[],[],us⟩
def fJ(us:List Bool):Nat->aC
 |0=>[]
 |k+1=>if us.getD k eY then fJ us k else fJ us k++[(k:Int)]
def eI(n:Nat)(rows:cO):Pl:=cz rows n (qh n eX) (qh rows.length eY)
theorem Ui{P:Nat->Bool}{n:Nat}(h:∀j,j<n->P j=eY):(qy n).find? P=none:=o4
theorem Uj{P:Nat->Bool}{n k:Nat}(e:k<n)(h:∀j,j<k->P j=eY)(d:P k=eX):(qy n).find? P=dB k:=by
 rw[List.find?_eq_some_iff_append];refine⟨d,qy k,xA (k+1) (n-k-1),?_,λa f=>?_⟩
 .rw[yH,yH];have c:n=k+(n-k):=n7
  have b:n-k=(n-k-1)+1:=n7
  conv=>lhs;rw[c,<-List.range'_append_1 (s:=0) (m:=k) (n:=n-k)]
  rw[w8]
  conv=>lhs;rw[b,List.range'_succ]
 grind
theorem NY(a r:aC)(c:Int):kw a (r++[c])=(kw a r).set c.toNat ((kw a r).getD c.toNat 0+1):=by simp[kw]
theorem BL(b r:aC):n4 (kw b r)=n4 b:=by
 induction r generalizing b with
 |nil=>rfl
 |cons a t ih=>simp only[kw,]at*;grind
theorem Bb(g:Nat->aC->aC)(rows:cO)(us:List Bool)(a:aC):∀k,n4 (lh g rows us a k)=n4 a
 |0=>rfl
 |k+1=>by
  unfold lh;split
  .exact Bb g rows us a k
  .rw[BL,Bb g rows us a k]
theorem CK{m:Int}:∀{r b:aC},(∀x∈b,0<=x/\x<=m)->∀x∈kw b r,0<=x/\x<=m+n4 r
 |[],b,h,x,hx=>by have:=h x hx;grind
 |a::t,b,h,x,hx=>by
  have d:∀y∈b.set a.toNat (b.getD a.toNat 0+1),0<=y/\y<=m+1:=by
   intro y c;rcases List.mem_or_eq_of_mem_set c with c|c
   .grind
   .subst c;cases hc:b[a.toNat]? with
    |none=>
     rw[List.getElem?_eq_none_iff]at hc;rw[List.set_eq_of_length_le hc]at c
     grind
    |some z=>have:=h z (List.mem_of_getElem? hc);grind
  have:=CK (r:=t) d x hx
  grind
theorem LZ(g:Nat->aC->aC){rows:cO}{us:List Bool}{n:Nat}(a:∀k,n4 (g k (rows.getD k []))<=64):∀k,∀x∈lh g rows us (qh n 0) k,0<=x/\x<=64*k
 |0,x,hx=>by
  have:=List.eq_of_mem_replicate hx
  grind
 |k+1,x,hx=>by
  unfold lh at hx;split at hx
  .have:=LZ g a k x hx;omega
  .have:=CK (LZ g a k) x hx
   grind
theorem Jp(op:List Bool)(a:aC):∀k,(iP op a k=-1/\∀j,j<k->op.getD j eY=eY)∨(0<=iP op a k/\iP op a k<k/\op.getD (iP op a k).toNat eY=eX)
 |0=>.inl ⟨n5,λj b=>n7⟩
 |k+1=>by
  unfold iP;split
  .grind
  .rcases Jp op a k with⟨e,h⟩|⟨h1,h2,h3⟩
   .grind
   grind
theorem CL{op:List Bool}(h:op.contains eX=eX):∃j,j<n4 op/\op.getD j eY=eX:=by simp only[List.contains_iff_mem]at h;obtain⟨j,a,e⟩:=qE h;exact⟨j,a,o4⟩
theorem rD{rows:cO}{op us:List Bool}(h:op.contains eX=eX):0<=iw rows op us/\iw rows op us<n4 op/\op.getD (iw rows op us).toNat eY=eX:=by
 obtain⟨j,a,e⟩:=CL h;rcases Jp op (lh (λ_ r=>r) rows us (qh op.length 0) rows.length) op.length with⟨_,h2⟩|h2
 .grind
 .exact h2
theorem oI{rows:cO}{op us:List Bool}{i:Nat}(h:lG rows op us=dB i):i<n4 rows/\kR rows op us i=eX:=by
 have a:=List.mem_of_find?_eq_some h;have b:=List.find?_some h
 grind
theorem tO{rows:cO}{op us:List Bool}{i:Nat}(a:kR rows op us i=eX):dc op (rows.getD i [])=[eO rows op i]/\eO rows op i∈rows.getD i []/\jY op (eO rows op i)=eX:=by
 simp only[kR,qC,beq_iff_eq]at a;obtain⟨c,d⟩:=List.length_eq_one_iff.1 a.2;have e:eO rows op i=c:=by unfold eO;grind
 have b:c∈dc op (rows.getD i []):=o4
 rw[dc,]at b
 grind
theorem jy{op:List Bool}{j:Nat}(h:op.getD j eY=eX):(op.set j eY).count eX+1=op.count eX:=o4
theorem uJ{rows:cO}{op us:List Bool}(h:op.contains eX=eY):∀k,cz rows k op us=⟨[],[],us⟩
 |0=>rfl
 |k+1=>by unfold cz;grind
theorem mB{rows:cO}{op us:List Bool}{i k:Nat}(h:op.contains eX=eX)(a:lG rows op us=dB i):
  cz rows (k+1) op us=⟨((i:Int),eO rows op i)::(cz rows k (op.set (eO rows op i).toNat eY) (us.set i eX)).steps,(cz rows k (op.set (eO rows op i).toNat eY) (us.set i eX)).dead,(cz rows k (op.set (eO rows op i).toNat eY) (us.set i eX)).used⟩:=by
 rw[cz,h,a];rfl
theorem oc{rows:cO}{op us:List Bool}{k:Nat}(h:op.contains eX=eX)(a:lG rows op us=none):
  cz rows (k+1) op us=⟨(cz rows k (op.set (iw rows op us).toNat eY) us).steps,iw rows op us::(cz rows k (op.set (iw rows op us).toNat eY) us).dead,(cz rows k (op.set (iw rows op us).toNat eY) us).used⟩:=by
 rw[cz,h,a];rfl
theorem sa(rows:cO):∀k op us,(cz rows k op us).used.length=n4 us
 |0,_,_=>rfl
 |k+1,op,us=>by
  unfold cz;split
  .split
   .rw[sa];simp
   .rw[sa]
  .rfl
theorem Ed(us:List Bool):∀k,n4 (fJ us k)<=k
 |0=>by simp[fJ]
 |k+1=>by
  have:=Ed us k;unfold fJ
  grind
theorem na{op:List Bool}{f:Nat}(h:op.count eX=f+1):op.contains eX=eX:=by
 have:0<op.count eX:=n7
 rw[List.count_pos_iff]at this;simpa using this
theorem EI{P:Nat->Bool}{n j:Nat}(a:j<n)(h:P j=eX):∃i,(qy n).find? P=dB i:=by
 cases hf:(qy n).find? P with
 |some i=>simp
 |none=>
  grind
theorem mC(l:List Bool)(i j:Nat)(x:Bool):(l.set i x).getD j eY=if i=j/\j<n4 l then x else l.getD j eY:=o4
def nN(rows:cO)(op us:List Bool):Prop:=∀i,us.getD i eY=eX->dc op (rows.getD i [])=[]
theorem mQ{op:List Bool}{c d:Int}(h:jY (op.set d.toNat eY) c=eX):jY op c=eX/\c.toNat≠d.toNat:=by
 unfold jY at*
 grind
theorem Jq{rows:cO}{op us:List Bool}{i:Nat}(k:nN rows op us)(g:kR rows op us i=eX):nN rows (op.set (eO rows op i).toNat eY) (us.set i eX):=by
 obtain⟨m,n,h3⟩:=tO g;intro j a;rw[mC]at a;rw[dc,yZ];intro c l b;obtain⟨b,d⟩:=mQ b;have h:c∈dc op (rows.getD j []):=by rw[dc,];grind
 by_cases e:i=j
 .grind
 .rw[nq λf=>e f.1]at a;rw[k j a]at h
  grind
theorem Xi{rows:cO}{n:Nat}(ex:∀op us,n4 op=n->n4 us=n4 rows->nN rows op us->op.contains eX=eX->∃j,j<n4 rows/\kR rows op us j=eX):
  ∀k op us,n4 op=n->n4 us=n4 rows->nN rows op us->op.count eX=k->
   (cz rows k op us).dead=[]/\(cz rows k op us).steps.length=k/\(cz rows k op us).used.count eX=us.count eX+k
 |0,_,_,_,_,_,_=>⟨n5,n5,n5⟩
 |k+1,op,us,hl,hul,hu,hc=>by
  have e:=na hc;obtain⟨j,p,g⟩:=ex op us hl hul hu e;obtain⟨i,h⟩:∃i,lG rows op us=dB i:=EI p g;obtain⟨m,d⟩:=oI h;have f:=(tO d).2.2;have l:=jy (op:=op) (j:=(eO rows op i).toNat) f;have o:us[i]'n7=eY:=by
   simp only[kR,]at d
   grind
  obtain⟨a,b,c⟩:=Xi ex k (op.set (eO rows op i).toNat eY) (us.set i eX) E4 (by simp[hul]) (Jq hu d) n7;rw[mB e h]
  grind
theorem CM(n j:Nat):(qh n eY).getD j eY=eY:=o4
theorem abD{rows:cO}{r:aC}(h:r∈rows):∃j,j<n4 rows/\rows.getD j []=r:=by obtain⟨j,a,e⟩:=qE h;exact⟨j,a,o4⟩
def other(m i:Nat):Nat:=if i<m then i else i+1
def rE(rows:cO):(Int->Prop)->(Int->Prop)->List (Int×Int)->Prop
 |_,_,[]=>True
 |D,U,(i,c)::t=>(0<=i/\i<n4 rows)/\¬U i/\¬D c/\c∈rows.getD i.toNat []/\(∀a∈rows.getD i.toNat [],a≠c->D a)/\rE rows (λx=>D x∨x=c) (λx=>U x∨x=i) t
def adu(op:List Bool)(c:Int):Prop:=0<=c/\jY op c=eX
theorem abE{op:List Bool}{c:Int}(h:jY op c=eX):c.toNat<n4 op:=by
 by_cases a:c.toNat<n4 op
 .exact a
 .unfold jY at h;grind
theorem PU{op:List Bool}{c d:Int}(b:0<=c)(f:0<=d):jY op c=eX->c≠d->jY (op.set d.toNat eY) c=eX:=by intro h a;unfold jY;rw[mC,nq λe=>a n7];exact h
theorem sB{op:List Bool}{d:Int}(h:jY op d=eX):jY (op.set d.toNat eY) d=eY:=by
 unfold jY
 grind
structure acT (rows:cO) (op us:List Bool) (r:Pl):Prop where
 cX:n4 r.steps+n4 r.dead=op.count eX
 used:r.used.count eX=us.count eX+n4 r.steps
 keepU:∀i,us.getD i eY=eX->r.used.getD i eY=eX
 dead:∀c∈r.dead,adu op c
 deadN:r.dead.Nodup
 good:∀D U:Int->Prop,(∀c:Int,0<=c->c<n4 op->(D c↔jY op c=eY∨c∈r.dead))->(∀i:Nat,i<n4 rows->(U i↔us.getD i eY=eX∨r.used.getD i eY=eY))->rE rows D U r.steps
theorem Xj{us:List Bool}{i:Nat}(h:us.getD i eY=eY)(a:i<n4 us):(us.set i eX).count eX=us.count eX+1:=o4
theorem Ma{rows:cO}{n:Nat}(b:∀r∈rows,∀c∈r,0<=c/\c<n):∀k op us,n4 op=n->n4 us=n4 rows->op.count eX=k->acT rows op us (cz rows k op us)
 |0,op,us,hl,hul,hc=>⟨by simp[cz,hc],by simp[cz],λi h=>h,λc h=>by simp[cz]at h,by simp[cz],λ_ _ _ _=>trivial⟩
 |k+1,op,us,hl,hul,hc=>by
  have t:=na hc;cases hst:lG rows op us with
  |some i=>
   obtain⟨f,s⟩:=oI hst;obtain⟨N,H,h3⟩:=tO s;have g:rows.getD i []=rows[i]:=by rw[qg,qd f];rfl
   have v:=b _ (qe f) _ (g▸H);have z:=jy (op:=op) (j:=(eO rows op i).toNat) h3;have w:us.getD i eY=eY:=by simp only[kR,qC,Bool.not_eq_true']at s;exact s.1
   have L:=Xj w n7;have a:=Ma b k (op.set (eO rows op i).toNat eY) (us.set i eX) E4 (by simp[hul]) n7;rw[mB t hst];generalize cz rows k (op.set (eO rows op i).toNat eY) (us.set i eX)=r at a;generalize J:eO rows op i=c at*;have B:r.used.getD i eY=eX:=a.keepU i (by rw[mC,m6 ⟨n5,n7⟩]);have u:c∉r.dead:=λh=>by
    have:=(a.dead c h).2;rw[sB h3]at this;cases this
   refine⟨by simp only[q7];have:=a.cX;omega,by simp only[q7];have:=a.used;omega,λj E=>a.keepU j (by rw[mC];split;rfl;exact E),λd q=>⟨(a.dead d q).1,(mQ (a.dead d q).2).1⟩,a.deadN,λD U x y=>?_⟩;have o:rows.getD ((i:Int)).toNat []=rows.getD i []:=by rw[qi]
   refine⟨n7,?_,?_,by rw[o];exact H,?_,?_⟩
   .rw[y i f,w,B];simp
   .rw[x c v.1 n7,h3];simp[u]
   .intro G p F;rw[o]at p;have A:=b _ (qe f) _ (g▸p);refine(x G A.1 n7).2 (.inl ?_);cases ho:jY op G with
    |false=>rfl
    |true=>
     have:G∈dc op (rows.getD i []):=by rw[dc,qK];exact⟨p,ho⟩
     rw[N]at this;simp at this;exact absurd this F
   .refine a.good _ _ (λd l m=>?_) (λj E=>?_)
    .simp only[qO]at m;rw[x d l m];by_cases e:d=c
     .subst e;simp[sB h3]
     .cases ho:jY op d with
      |true=>rw[PU l v.1 ho e];simp[e]
      |false=>
       have:jY (op.set c.toNat eY) d=eY:=by
        cases hh:jY (op.set c.toNat eY) d with
        |false=>rfl
        |true=>rw[(mQ hh).1]at ho;cases ho
       rw[this];simp
    .rw[y j E,mC];by_cases e:i=j
     .subst e;simp[hul,f]
     .have M:¬((j:Int)=(i:Int)):=λh=>e n7;simp[e,M]
  |none=>
   obtain⟨K,m2,I⟩:=rD (rows:=rows) (us:=us) t;have z:=jy (op:=op) (j:=(iw rows op us).toNat) I;have a:=Ma b k (op.set (iw rows op us).toNat eY) us E4 hul n7;rw[oc t hst];generalize cz rows k (op.set (iw rows op us).toNat eY) us=r at a;generalize iw rows op us=c at*;have h3:jY op c=eX:=I;have u:c∉r.dead:=λh=>by
    have:=(a.dead c h).2;rw[sB h3]at this;cases this
   refine⟨by simp only[q7];have:=a.cX;omega,a.used,a.keepU,λd q=>?_,by simp only[y8];exact⟨u,a.deadN⟩,λD U x y=>?_⟩
   .rcases qN.1 q with rfl|q
    .exact⟨K,h3⟩
    .exact⟨(a.dead d q).1,(mQ (a.dead d q).2).1⟩
   .refine a.good D U (λd l m=>?_) y;simp only[qO]at m;rw[x d l m];by_cases e:d=c
    .subst e;simp[sB h3]
    .have:jY (op.set c.toNat eY) d=jY op d:=by
      cases ho:jY op d with
      |true=>exact PU l K ho e
      |false=>
       cases hh:jY (op.set c.toNat eY) d with
       |false=>rfl
       |true=>rw[(mQ hh).1]at ho;cases ho
     rw[this];simp[e]
theorem Bc(us:List Bool):∀k (c:Int),c∈fJ us k↔∃j:Nat,c=j/\j<k/\us.getD j eY=eY
 |0,c=>by simp[fJ]
 |k+1,c=>by
  have e:=Bc us k c;unfold fJ;cases h:us.getD k eY with
  |true=>
   simp only[if_true];rw[e];constructor
   .rintro⟨j,a,b,d⟩;exact⟨j,a,n7,d⟩
   .rintro⟨j,a,b,d⟩;refine⟨j,a,?_,d⟩;rcases q8.1 b with b|rfl
    .exact b
    .rw[h]at d;cases d
  |false=>
   simp only[zc,if_false,qx,qB];rw[e];constructor
   .rintro(⟨j,a,b,d⟩|rfl)
    .exact⟨j,a,n7,d⟩
    .exact⟨k,n5,n7,h⟩
   .rintro⟨j,a,b,d⟩;rcases q8.1 b with b|rfl
    .exact .inl ⟨j,a,b,d⟩
    .exact .inr a
theorem Mb(us:List Bool):∀k,k<=n4 us->n4 (fJ us k)+(us.take k).count eX=k
 |0,_=>by simp[fJ]
 |k+1,hk=>by
  have a:=Mb us k n7;have e:us.getD k eY=us[k]:=by rw[qg,qd n7];rfl
  unfold fJ;rw[zy n7,List.count_append,e];cases us[k]<;>simp<;>omega
theorem tQ{rows:cO}{n:Nat}(a:∀r∈rows,∀c∈r,0<=c/\c<n):
  (eI n rows).steps.length+(eI n rows).dead.length=n/\(eI n rows).steps.length+n4 (fJ (eI n rows).used rows.length)=n4 rows/\(∀c∈(eI n rows).dead,0<=c/\c<n)/\(eI n rows).dead.Nodup/\
  (∀c∈fJ (eI n rows).used rows.length,0<=c/\c<n4 rows)/\rE rows (·∈(eI n rows).dead) (·∈fJ (eI n rows).used rows.length) (eI n rows).steps:=by
 have h:=Ma a n (qh n eX) (qh rows.length eY) oo oo oo;have p:(eI n rows).used.length=n4 rows:=by unfold eI;rw[sa];simp
 have d:=Mb (eI n rows).used rows.length n7;rw[List.take_of_length_le n7]at d;refine⟨by have:=h.cX;simpa[eI]using this,?_,λc b=>?_,h.deadN,λc b=>?_,?_⟩
 .have:=h.used;have m:(qh rows.length eY).count eX=0:=by simp[List.count_replicate]
  rw[m]at this;unfold eI at*;omega
 .obtain⟨h0,o⟩:=h.dead c b;have:=abE o;simp at this;omega
 .obtain⟨j,rfl,l,_⟩:=(Bc _ _ _).1 b;omega
 .refine h.good _ _ (λc k e=>?_) (λi f=>?_)
  .have:jY (qh n eX) c=eX:=by simp at e;unfold jY;rw[qg,qd oi];simp
   rw[this];simp[eI]
  .rw[CM,Bc];constructor
   .rintro⟨j,l,_,g⟩;have:j=i:=n7
    subst this;exact .inr g
   .rintro(hh|hh)
    .cases hh
    .exact⟨i,n5,f,hh⟩
theorem CN{rows:cO}:∀k op us i,(cz rows k op us).used.getD i eY=eX->us.getD i eY=eX∨∃c,((i:Int),c)∈(cz rows k op us).steps
 |0,_,_,_,h=>.inl h
 |k+1,op,us,i,h=>by
  by_cases a:op.contains eX=eX
  .cases hst:lG rows op us with
   |some j=>
    rw[mB a hst]at h⊢;rcases CN k _ _ i h with h1|⟨c,hc⟩
    .grind
    grind
   |none=>
    rw[oc a hst]at h⊢;exact CN k _ _ i h
  .have a:op.contains eX=eY:=o4
   rw[uJ a]at h⊢;grind
theorem CO{rows:cO}{n:Nat}(a:∀r∈rows,∀c∈r,0<=c/\c<(n)):∀k op us,n4 op=n->op.count eX=k->∀c:Nat,op.getD c eY=eX->
  (c:Int)∈(cz rows k op us).dead∨∃i,(i,(c:Int))∈(cz rows k op us).steps
 |0,op,us,hl,hc,c,h=>o4
 |k+1,op,us,hl,hc,c,h=>by
  have e:=na hc;cases hst:lG rows op us with
  |some j=>
   rw[mB e hst];obtain⟨g,l⟩:=oI hst;obtain⟨s,o,h3⟩:=tO l;have b:rows.getD j []=rows[j]:=o4
   have q:=a _ (qe g) _ (b▸o);have f:=jy (op:=op) (j:=(eO rows op j).toNat) h3;by_cases d:(eO rows op j).toNat=c
   .exact .inr ⟨j,by rw[show((c))=eO rows op j by omega];simp⟩
   .rcases CO a k (op.set (eO rows op j).toNat eY) (us.set j eX) E4 n7 c (by rw[mC,nq λm=>d m.1];exact h)with h5|⟨i,h5⟩
    .exact .inl h5
    .exact .inr ⟨i,qp _ h5⟩
  |none=>
   rw[oc e hst];obtain⟨t,m2,p⟩:=rD (rows:=rows) (us:=us) e;have f:=jy (op:=op) (j:=(iw rows op us).toNat) p;by_cases d:(iw rows op us).toNat=c
   .grind
   .rcases CO a k (op.set (iw rows op us).toNat eY) us E4 n7 c (by rw[mC,nq λm=>d m.1];exact h)with h5|⟨i,h5⟩
    .exact .inl (qp _ h5)
    .exact .inr ⟨i,h5⟩
theorem RG{rows:cO}{op us:List Bool}{c:Int}(h:nN rows op us):nN rows (op.set c.toNat eY) us:=λi b=>by
 have:=h i b;rw[dc,yZ]at this⊢;exactλd e a=>this d e (mQ a).1
theorem Bd{rows:cO}{c:Int}(l:[c]∈rows):∀k op us,nN rows op us->(∀d:Int,d<0->d∉(cz rows k op us).dead)->0<=c->c∉(cz rows k op us).dead
 |0,_,_,_,_,_=>by simp[cz]
 |k+1,op,us,hu,_,h0=>by
  by_cases a:op.contains eX=eX
  .cases hst:lG rows op us with
   |some j=>
    rw[mB a hst];dsimp only;obtain⟨_,m⟩:=oI hst;exact Bd l k _ _ (Jq hu m) (λd q b=>by
     have f:∀k op us,∀d∈(cz rows k op us).dead,0<=d:=plan_dead0;have:=f _ _ _ d b;omega) h0
   |none=>
    rw[oc a hst];obtain⟨t,m2,p⟩:=rD (rows:=rows) (us:=us) a;dsimp only;intro b;rcases qN.1 b with e|b
    .obtain⟨j,r,g⟩:=abD l;have o:dc op [c]=[c]:=by rw[dc,zx,m6 (show jY op c=eX by rw[e];exact p)];rfl
     have s:kR rows op us j=eX:=by
      unfold kR;rw[g,o];cases hus:us.getD j eY with
      |false=>rfl
      |true=>have:=hu j hus;rw[g,o]at this;cases this
     obtain⟨i,n⟩:∃i,lG rows op us=dB i:=EI r s;rw[hst]at n;cases n
    .exact Bd l k _ _ (RG hu) (λd q b=>by have:=plan_dead0 (rows:=rows) _ _ _ d b;omega) h0 b
  .have a:op.contains eX=eY:=B5
   rw[uJ a];simp
where
 plan_dead0 {rows:cO}:∀k op us,∀d∈(cz rows k op us).dead,0<=d
  |0,_,_,d,h=>by simp[cz]at h
  |k+1,op,us,d,h=>by
   by_cases a:op.contains eX=eX
   .cases hst:lG rows op us with
    |some j=>rw[mB a hst]at h;exact plan_dead0 k _ _ d h
    |none=>
     rw[oc a hst]at h;rcases qN.1 h with rfl|h
     .exact(rD a).1
     .exact plan_dead0 k _ _ d h
   .have a:op.contains eX=eY:=B5
    rw[uJ a]at h;simp at h
def rF(R:cO):(Int->Prop)->List (Int×Int)->Prop
 |_,[]=>True
 |D,(i,c)::t=>(0<=i/\i<n4 R)/\¬D c/\c∈R.getD i.toNat []/\(∀a∈R.getD i.toNat [],a≠c->D a)/\rF R (λx=>D x∨x=c) t
theorem ws{R S:cO}{K:Int->Prop}(j:∀r∈R,∀c∈r,¬K c)(n:∀r∈S,∀c∈r,K c):∀{a:List (Int×Int)} {D D' U:Int->Prop},rE (R++S) D U a->(∀c,¬K c->(D c↔D' c))->
  rF R D' (a.filter λp=>decide (p.1<n4 R))
 |[],_,_,_,_,_=>trivial
 |(i,c)::t,D,D',U,h,hD=>by
  obtain⟨w,z,h3,f,v,x⟩:=h;rw[zx];by_cases m:i<n4 R
  .have e:(R++S).getD i.toNat []=R.getD i.toNat []:=by rw[qg,List.getElem?_append_left n7,qg]
   have k:R.getD i.toNat []∈R:=by rw[qg,qd n7];exact qe _
   rw[e]at f v;have l:=j _ k c f;rw[m6 x7];refine⟨⟨w.1,m⟩,λo=>h3 ((hD c l).2 o),f,λu b s=>(hD u (j _ k u b)).1 (v u b s),ws j n x λd g=>?_⟩;rw[hD d g]
  .rw[nq x7];have k:(R++S).getD i.toNat []∈S:=by have q:=w.2;rw[qo]at q;rw[qg,qk n7,qd n7];exact qe _
   have l:=n _ k c f;refine ws j n x λd g=>?_;rw[<-hD d g];exact⟨λo=>o.elim id λy=>absurd (y▸l) g,.inl⟩
def ev(t:UInt8)(k nd:Nat)(W M:aO)(y:Nat->UInt8)(c:Int):UInt8:=bW (λi=>aM (aA W c.toNat) i) y nd^^^Gf.mul t (aM (aA M c.toNat) k)
theorem FE{a b:Row}(h:n4 a=n4 b)(c:UInt8)(y:Nat->UInt8)(n:Nat):bW (λj=>aM (cH c a b) j) y n=bW (λj=>aM b j) y n^^^Gf.mul c (bW (λj=>aM a j) y n):=by rw[gB n (λj _=>cU h j) λ_ _=>rfl];exact DY _ _ _ _ _
theorem Mc{V:aO}{m:Nat}(y:Nat->UInt8)(n:Nat):∀{l:aC} {a:Row},n4 a=m->(∀c∈l,n4 (aA V c.toNat)=m)->bW (λj=>aM (cS V a l) j) y n=bW (λj=>aM a j) y n^^^cY (λc=>bW (λj=>aM (aA V c.toNat) j) y n) l
 |[],a,_,_=>by simp[cS,cY]
 |c::l,a,h,hv=>by
  have b:n4 (aA V c.toNat)=n4 a:=by rw[hv c oo,h]
  have:=Mc (V:=V) y n (l:=l) (a:=cH 1 (aA V c.toNat) a) (by rw[cl b];exact h) λd e=>hv d C8;rw[cS,zN];rw[cS]at this;rw[this,FE b,Gf.one_mul,cY];ac_rfl
theorem Md(t:UInt8)(x:Int->UInt8):∀l,cY (λc=>Gf.mul t (x c)) l=Gf.mul t (cY x l)
 |[]=>by simp[cY,Gf.mul_zero]
 |c::l=>by rw[cY,cY,Gf.jC,Md t x l]
theorem Ir{W M:aO}{nd w:Nat}{l:aC}{a m:Row}(d:n4 a=nd)(e:n4 m=w)(b:∀c∈l,n4 (aA W c.toNat)=nd)(f:∀c∈l,n4 (aA M c.toNat)=w)(t:UInt8)(k:Nat)(y:Nat->UInt8):
  bW (λj=>aM (cS W a l) j) y nd^^^Gf.mul t (aM (cS M m l) k)=(bW (λj=>aM a j) y nd^^^Gf.mul t (aM m k))^^^cY (ev t k nd W M y) l:=by
 rw[Mc y nd d b,FD k e f,Gf.jC];have:cY (ev t k nd W M y) l=cY (λc=>bW (λj=>aM (aA W c.toNat) j) y nd) l^^^Gf.mul t (cY (λc=>aM (aA M c.toNat) k) l):=by rw[<-Md,<-LX];rfl
 rw[this];ac_rfl
def gW(rest:List fi)(nd:Nat)(s:aO×aO)(p:Int×Int):aO×aO:=
 let r:=rest.getD p.1.toNat ([],[])
 (s.1.set p.2.toNat (cS s.1 (aN nd) (r.1.filter λc=>!decide (c=p.2))),s.2.set p.2.toNat (cS s.2 r.2 (r.1.filter λc=>!decide (c=p.2))))
structure Uk (n nd w:Nat) (D:Int->Prop) (W M:aO):Prop where
 wl:n4 W=n
 ml:n4 M=n
 rw_:∀c:Int,D c->0<=c->c<(n:Int)->n4 (aA W c.toNat)=nd/\(aA M c.toNat).length=w
theorem Be{W M b a:aO}{t:UInt8}{k nd:Nat}{y:Nat->UInt8}{c:Int}(d:aA b c.toNat=aA W c.toNat)(e:aA a c.toNat=aA M c.toNat):ev t k nd b a y c=ev t k nd W M y c:=by unfold ev;rw[d,e]
theorem FF{n nd w:Nat}{rest:List fi}(A:∀e∈rest,iU n w e):∀{a:List (Int×Int)} {D:Int->Prop} {W M:aO},rF (rest.map qA) D a->Uk n nd w D W M->
  Uk n nd w (λc=>D c∨∃i,(i,c)∈a) (a.foldl (gW rest nd) (W,M)).1 (a.foldl (gW rest nd) (W,M)).2/\
  (∀c:Int,D c->0<=c->aA (a.foldl (gW rest nd) (W,M)).1 c.toNat=aA W c.toNat/\aA (a.foldl (gW rest nd) (W,M)).2 c.toNat=aA M c.toNat)/\
  (∀p∈a,∀t k y,k<w->Sat t k (ev t k nd (a.foldl (gW rest nd) (W,M)).1 (a.foldl (gW rest nd) (W,M)).2 y) (rest.getD p.1.toNat ([],[])))/\
  (∀t k x y,k<w->(∀c:Int,D c->0<=c->c<(n:Int)->x c=ev t k nd W M y c)->(∀p∈a,Sat t k x (rest.getD p.1.toNat ([],[])))->∀c:Int,(D c∨∃i,(i,c)∈a)->0<=c->c<(n:Int)->x c=ev t k nd (a.foldl (gW rest nd) (W,M)).1 (a.foldl (gW rest nd) (W,M)).2 y c)
 |[],D,W,M,_,hw=>⟨⟨hw.wl,hw.ml,λc P=>hw.rw_ c (P.elim id λ⟨i,h⟩=>t7)⟩,λ_ _ _=>⟨n5,n5⟩,λp u=>by(cases u),λt k x y K H _ c P h0 o=>H c (P.elim id λ⟨i,h⟩=>t7) h0 o⟩
 |(i,c)::st,D,W,M,hg,hw=>by
  obtain⟨g1,g2,I,g4,g5⟩:=hg;have q:i.toNat<n4 rest:=by have:=g1.2;rw[qm]at this;omega
  obtain⟨e,he⟩:=I5 (rest[i.toNat])
  have T:rest.getD i.toNat ([],[])=e:=by rw[qg,qd q,he];rfl
  have ad:(rest.map qA).getD i.toNat []=e.1:=by rw[qg,List.getElem?_map,qd q,he];rfl
  rw[ad]at I g4;have l:=A e (he▸qe q);have Y:=l.cX c I;obtain⟨F,O⟩:=I5 (e.1.filter (λd=>!decide (d=c)))
  have r:∀d∈F,d∈e.1/\d≠c:=λd b=>by rw[O,qK]at b;exact⟨b.1,by simpa using b.2⟩
  have f:∀d∈F,D d/\0<=d/\d<(n:Int):=λd b=>⟨g4 d (r d b).1 (r d b).2,l.cX d (r d b).1⟩
  have l1:∀d∈F,n4 (aA W d.toNat)=nd:=λd b=>(hw.rw_ d (f d b).1 (f d b).2.1 (f d b).2.2).1;have l2:∀d∈F,n4 (aA M d.toNat)=w:=λd b=>(hw.rw_ d (f d b).1 (f d b).2.1 (f d b).2.2).2;have X:n4 (aN nd)=nd:=sL
  have S:gW rest nd (W,M) (i,c)=(W.set c.toNat (cS W (aN nd) F),M.set c.toNat (cS M e.2 F)):=by unfold gW;dsimp only;rw[T,<-O]
  have U:=hw.wl;have Q:=hw.ml;have E:∀d:Nat,aA (W.set c.toNat (cS W (aN nd) F)) d=if c.toNat=d then cS W (aN nd) F else aA W d:=λd=>kY
  have v:∀d:Nat,aA (M.set c.toNat (cS M e.2 F)) d=if c.toNat=d then cS M e.2 F else aA M d:=λd=>kY
  have Z:Uk n nd w (λx=>D x∨x=c) (W.set c.toNat (cS W (aN nd) F)) (M.set c.toNat (cS M e.2 F)):=by
   refine⟨by simp[U],by simp[Q],λd b h0 o=>?_⟩;rw[E,v];by_cases g:c.toNat=d.toNat
   .rw[m6 g,m6 g];exact⟨jO X l1,jO l.len l2⟩
   .rw[nq g,nq g];exact hw.rw_ d (b.elim id λN=>absurd (by rw[N]) g) h0 o
  obtain⟨J,R,r3,r4⟩:=FF A g5 Z;rw[zN,S];generalize st.foldl (gW rest nd) (W.set c.toNat (cS W (aN nd) F),M.set c.toNat (cS M e.2 F))=s at J R r3 r4;have G:∀d:Int,D d->0<=d->c.toNat≠d.toNat:=λd b h0 N=>g2 (by rw[show c=d by omega];exact b);have keep:∀d:Int,D d->0<=d->aA s.1 d.toNat=aA W d.toNat/\aA s.2 d.toNat=aA M d.toNat:=λd b h0=>by
   have:=R d (.inl b) h0;rw[E,v,nq (G d b h0),nq (G d b h0)]at this;exact this
  have ab:∀t k y,ev t k nd s.1 s.2 y c=Gf.mul t (aM e.2 k)^^^cY (ev t k nd W M y) F:=λt k y=>by
   have V:=R c (.inr n5) Y.1;rw[E,v,m6 rfl,m6 rfl]at V;unfold ev;rw[V.1,V.2,Ir X l.len l1 l2 t k y,ge _ _ nd λj _=>cF _ _,wo];rfl
  have z:∀t k y,cY (ev t k nd s.1 s.2 y) F=cY (ev t k nd W M y) F:=λt k y=>ku λd b=>Be (keep d (f d b).1 (f d b).2.1).1 (keep d (f d b).1 (f d b).2.1).2;refine⟨⟨J.wl,J.ml,λd b h0 o=>J.rw_ d ?_ h0 o⟩,keep,λp u t k y K=>?_,λt k x y K H hs d b h0 o=>?_⟩
  .rcases b with b|⟨j,hj⟩
   .exact .inl (.inl b)
   .rcases qN.1 hj with hj|hj
    .injection hj with _ hj;exact .inl (.inr hj)
    .exact .inr ⟨j,hj⟩
  .rcases qN.1 u with rfl|u
   .dsimp only;rw[T];unfold Sat;rw[uI _ l.nodup I,<-O,ab,z,Am]
   .exact r3 p u t k y K
  .refine r4 t k x y K (λd b h0 o=>?_) (λp u=>hs p (qp _ u)) d ?_ h0 o
   .by_cases g:d=c
    .subst g;have B:=hs (i,d) oo;dsimp only at B;rw[T]at B;unfold Sat at B;rw[uI _ l.nodup I,<-O,ku (y:=ev t k nd W M y) λL m=>H L (f L m).1 (f L m).2.1 (f L m).2.2]at B;have h6:ev t k nd (W.set d.toNat (cS W (aN nd) F)) (M.set d.toNat (cS M e.2 F)) y d=Gf.mul t (aM e.2 k)^^^cY (ev t k nd W M y) F:=by unfold ev;rw[E,v,m6 n5,m6 n5,Ir X l.len l1 l2 t k y,ge _ _ nd λj _=>cF _ _,wo];rfl
     rw[h6,<-B,Am]
    .have m:D d:=b.elim id λN=>absurd N g;rw[H d m h0 o];refine(Be ?_ ?_).symm
     .rw[E,nq n7]
     .rw[v,nq n7]
   .rcases b with b|⟨j,hj⟩
    .exact .inl (.inl b)
    .rcases qN.1 hj with hj|hj
     .injection hj with _ hj;exact .inl (.inr hj)
     .exact .inr ⟨j,hj⟩
theorem Jr:∀{l m:List Nat},l.Nodup->(∀x∈l,x∈m)->n4 l<=n4 m
 |[],_,_,_=>oo
 |x::l,m,hd,h=>by
  rw[y8]at hd;have a:=h x oo;have d:=Jr (l:=l) (m:=m.erase x) hd.2 λy b=>(List.mem_erase_of_ne λc:y=x=>hd.1 (by rw[<-c];exact b)).2 (h y (by simp[b]));rw[List.length_erase_of_mem a]at d;have:=List.length_pos_of_mem a;simp;omega
def nD(nd i:Nat):Row:=(aN nd).set i 1
theorem Xk(nd i:Nat):n4 (nD nd i)=nd:=by simp[nD,aN]
theorem Xl{nd i:Nat}(a:i<nd)(j:Nat):aM (nD nd i) j=if j=i then 1 else 0:=by rw[nD,PQ (by simpa[aN]using a),cF]
theorem Xm{nd i:Nat}(a:i<nd)(y:Nat->UInt8):bW (λj=>aM (nD nd i) j) y nd=y i:=
 DX _ _ i nd a λj _=>by
  rw[Xl a]
  grind
def fU(n nd w:Nat)(dead:aC):aO×aO:=
 (dead.zipIdx).foldl (λs p=>(s.1.set p.1.toNat (nD nd p.2),s.2.set p.1.toNat (aN w))) (qh n [],qh n [])
theorem GH(n nd w:Nat)(d:aC)(c:Int):fU n nd w (d++[c])=((fU n nd w d).1.set c.toNat (nD nd d.length),(fU n nd w d).2.set c.toNat (aN w)):=by
 unfold fU
 grind
theorem Is{n nd w:Nat}{dead:aC}(g:∀c∈dead,0<=c/\c<(n))(l:dead.Nodup):∀k,k<=n4 dead->
  Uk n nd w (·∈dead.take k) (fU n nd w (dead.take k)).1 (fU n nd w (dead.take k)).2/\∀i,(m:i<k)->(o:i<n4 dead)->aA (fU n nd w (dead.take k)).1 dead[i].toNat=nD nd i/\aA (fU n nd w (dead.take k)).2 dead[i].toNat=aN w
 |0,_=>⟨⟨by simp[fU],by simp[fU],λc j=>B2⟩,λi m=>n7⟩
 |k+1,hk=>by
  obtain⟨h,o⟩:=Is (nd:=nd) (w:=w) g l k n7;have b:k<n4 dead:=n7
  have q:=g _ (qe b);have e:dead.take (k+1)=dead.take k++[dead[k]]:=zy b;have p:n4 (dead.take k)=k:=oi
  rw[e,GH,p];have s:=h.wl;have u:=h.ml;refine⟨⟨by simp[s],by simp[u],λc j h0 h3=>?_⟩,λi m f=>?_⟩
  .rw[kY,kY];by_cases a:dead[k].toNat=c.toNat
   .rw[m6 a,m6 a];exact⟨Xk _ _,sL⟩
   .rw[nq a,nq a];refine h.rw_ c ?_ h0 h3
    grind
  .rw[kY,kY];by_cases d:i=k
   .subst d;simp
   .have t:dead[k]≠dead[i]:=λr=>d ((List.getElem_inj l).1 r).symm;have:=g _ (qe f)
    grind
def iy(nd:Nat)(known:List Bool)(vals:aO)(s:aO×aO):aO×aO:=
 (s.1.mapIdx λc r=>if known.getD c eY then aN nd else r,s.2.mapIdx λc r=>if known.getD c eY then aA vals c else r)
theorem Bf{m:aO}{f:Nat->Row->Row}{c:Nat}(h:c<n4 m):aA (m.mapIdx f) c=f c (aA m c):=by rw[bf o4,bf h];simp
def gO(V:aO)(r:Row)(a:Row):Nat->Row
 |0=>a
 |c+1=>cH (aM r c) (aA V c) (gO V r a c)
theorem lH{V:aO}{m:Nat}(r:Row){a:Row}(b:n4 a=m):∀{c:Nat},(∀i,i<c->n4 (aA V i)=m)->n4 (gO V r a c)=m
 |0,_=>b
 |c+1,h=>by
  have:=lH r b (c:=c) λi d=>h i n7;rw[gO,cl o4];grind
theorem FG{V:aO}{m:Nat}(r:Row){a:Row}(b:n4 a=m)(j:Nat):∀{c:Nat},(∀i,i<c->n4 (aA V i)=m)->aM (gO V r a c) j=aM a j^^^bW (λi=>aM r i) (λi=>aM (aA V i) j) c
 |0,_=>by simp[gO,bW]
 |c+1,h=>by
  have e:=lH r b (c:=c) λi d=>h i n7;rw[gO,cU o4,FG r b j (c:=c) λi d=>h i n7,bW];ac_rfl
theorem Mf{V:aO}{m:Nat}(r:Row){a:Row}(b:n4 a=m)(y:Nat->UInt8)(n:Nat):∀{c:Nat},(∀i,i<c->n4 (aA V i)=m)->bW (λj=>aM (gO V r a c) j) y n=bW (λj=>aM a j) y n^^^bW (λi=>aM r i) (λi=>bW (λj=>aM (aA V i) j) y n) c
 |0,_=>by simp[gO,bW]
 |c+1,h=>by
  have e:=lH r b (c:=c) λi d=>h i n7;rw[gO,FE o4,Mf r b y n (c:=c) λi d=>h i n7,bW];ac_rfl
theorem Mg(f g a:Nat->UInt8):∀k,bW f (λi=>g i^^^a i) k=bW f g k^^^bW f a k
 |0=>by simp[bW]
 |k+1=>by rw[bW,bW,bW,Mg f g a k,Gf.jC];ac_rfl
theorem Mh(t:UInt8)(f g:Nat->UInt8):∀k,bW f (λi=>Gf.mul t (g i)) k=Gf.mul t (bW f g k)
 |0=>by simp[bW,Gf.mul_zero]
 |k+1=>by
  rw[bW,bW,Mh t f g k,Gf.jC];rw[<-Gf.mul_assoc,<-Gf.mul_assoc,Gf.mul_comm (f k) t]
theorem Bg{n:Nat}(g:Nat->UInt8):∀{l:aC},(∀x∈l,0<=x/\x<(n:Int))->l.Nodup->bW (λj=>aM (gT n l) j) g n=cY (λc=>g c.toNat) l
 |[],_,_=>by
  rw[cY];refine ge _ _ n λj _=>?_;rw[FC [] (λx a=>E6) j];simp
 |c::l,h,hd=>by
  rw[y8]at hd;have k:=h c oo;have e:=Bg g (l:=l) (λx a=>h x (by simp[a])) hd.2;have d:bW (λj=>aM (gT n (c::l)) j) g n=bW (λj=>if(j:Int)∈c::l then 1 else 0) g n:=gB n (λj _=>FC _ h j) λ_ _=>rfl;have b:bW (λj=>aM (gT n l) j) g n=bW (λj=>if(j:Int)∈l then 1 else 0) g n:=gB n (λj _=>FC _ (λx a=>h x (by simp[a])) j) λ_ _=>rfl;rw[d,cY,<-e,b];rw[LR (f:=λj=>if(j:Int)∈l then 1 else 0) (f':=λj=>if(j:Int)∈c::l then 1 else 0) (c:=c.toNat) (by rw[nq];rw[show((c.toNat:Nat):Int)=c by omega];exact hd.1) (λi=>o4),m6 n7]
  ac_rfl
theorem kernel{nd:Nat}{a:aO}(V:aU nd a)(P:cv a<nd):∃y:Nat->UInt8,(∃i,i<nd/\y i≠0)/\∀r∈a,bW (λj=>aM r j) y nd=0:=by
 have w:=Xg V;obtain⟨R,W,ab,N,X,⟨p,U,Y,p3,S⟩,G⟩:=w;generalize hT:cv a=T at*;generalize (ba a (ee a)).2=rows at*;have v:∃j,j<nd/\∀i,i<T->p i≠j:=by
  have t:∀T nd:Nat,T<nd->∀p:Nat->Nat,(∀i,i<T->p i<nd)->∃j,j<nd/\∀i,i<T->p i≠j:=by
   intro T nd ad p Z;by_cases f:∀j,j<nd->∃i,i<T/\p i=j
   .exfalso;have F:∀j∈qy nd,j∈(qy T).map p:=λj A=>by
     obtain⟨i,l,rfl⟩:=f j (qY.1 A);exact qI.2 ⟨i,qY.2 l,n5⟩
    have:=Jr xd F;simp at this;omega
   .simp only[Classical.not_forall,not_exists,not_and]at f;obtain⟨j,A,h⟩:=f;exact⟨j,A,h⟩
  exact t T nd P p U
 obtain⟨j,A,D⟩:=v;have I:∀i e,i<T->e<T->p i=p e->i=e:=λi e q o h3=>by
  rcases Nat.lt_trichotomy i e with h|h|h
  .have:=S i e h o;omega
  .exact h
  .have:=S e i h q;omega
 let y:Nat->UInt8:=λc=>if c=j then 1 else cY (λi=>if p i.toNat=c then aM (aA rows i.toNat) j else 0) ((qy T).map λi:Nat=>(i:Int))
 have hy:∀i,i<T->y (p i)=aM (aA rows i) j:=λi l=>by
  show(if p i=j then 1 else _)=_;rw[nq (D i l)];have O:((qy T).map λi:Nat=>(i:Int)).Nodup:=by exact List.Pairwise.map _ (λa b h u=>h (Int.ofNat_inj.1 u)) xd
  rw[uI _ O (c:=(i:Int)) (qI.2 ⟨i,qY.2 l,n5⟩),CH,z7]
  .simp
  .intro c n;rw[qK]at n;obtain⟨e,s,rfl⟩:=qI.1 n.1;have H:e≠i:=λu=>by subst u;simp at n
   rw[qi,nq λu=>H (I e i (qY.1 s) l u)]
 have K:∀c,c≠j->(∀i,i<T->p i≠c)->y c=0:=λc n Z=>by
  show(if c=j then 1 else _)=_;rw[nq n,CH];intro d hd;obtain⟨e,s,rfl⟩:=qI.1 hd;rw[qi,nq (Z e (qY.1 s))]
 have B:y j=1:=by show(if j=j then 1 else _)=_;rw[m6 rfl]
 refine⟨y,⟨j,A,by rw[B];decide⟩,λr Q=>?_⟩;refine Span.YU R (λr=>bW (λc=>aM r c) y nd) (ge _ _ nd λc _=>cF _ _) (λc x z q o=>FE n7 c y nd) (λr P=>?_) ((N r).2 (Span.row V Q));obtain⟨k,M,rfl⟩:=fT P;by_cases g:k<T
 .--the row's own beginning,and j
  have hf:∀c,c<nd->aM (aA rows k) c=0∨y c=0∨c=p k∨c=j:=λc n=>by
   by_cases q:c=j
   .exact .inr (.inr (.inr q))
   .by_cases o:∃i,i<T/\p i=c
    .obtain⟨i,l,rfl⟩:=o;by_cases J:k=i
     .subst J;exact .inr (.inr (.inl n5))
     .refine .inl ?_;rw[Y i l k M,nq J]
    .exact .inr (.inl (K c q λi l u=>o ⟨i,l,u⟩))
  have L:=U k g;have E:aM (aA rows k) (p k)=1:=by rw[Y k g k M,m6 rfl]
  have H:p k≠j:=D k g;have t:∀m,m<=nd->bW (λc=>aM (aA rows k) c) y m=(if p k<m then aM (aA rows k) j else 0)^^^(if j<m then aM (aA rows k) j else 0):=by
   intro m
   induction m with
   |zero=>intro _;simp[bW]
   |succ m ih=>
    intro hm;rw[bW,ih n7];by_cases q:m=p k
    .have ah:m≠j:=n7
     rw[q,E,Gf.one_mul,hy k g];rw[nq (Nat.lt_irrefl _),m6 (vY _)];by_cases h3:j<p k
     .rw[m6 h3,m6 n7];ac_rfl
     .rw[nq h3,nq n7];ac_rfl
    .by_cases o:m=j
     .rw[o,B,Gf.mul_one];rw[nq (Nat.lt_irrefl j),m6 (vY j),z7];by_cases h3:p k<j
      .rw[m6 h3,m6 n7]
      .rw[nq h3,nq n7]
     .have hz:Gf.mul (aM (aA rows k) m) (y m)=0:=by
       rcases hf m n7 with h|h|h|h
       .rw[h,Gf.zero_mul]
       .rw[h,Gf.mul_zero]
       .exact absurd h q
       .exact absurd h o
      rw[hz,z7];have a1:(p k<m+1)↔(p k<m):=n7
      have a2:(j<m+1)↔(j<m):=n7
      simp only[a1,a2]
  rw[t nd (qj _),m6 L,m6 A,mz]
 .exact ge _ _ nd λc n=>G k n7 M c n
def dE(n nd:Nat)(rest:List fi)(W:aO)(left:aC)(ahead:aO):aO:=(left.map λi=>cS W (aN nd) (rest.getD i.toNat ([],[])).1)++ahead.map λr=>gO W r (aN nd) n
def fA(n w:Nat)(rest:List fi)(M:aO)(left:aC)(ahead:aO):aO:=(left.map λi=>cS M (rest.getD i.toNat ([],[])).2 (rest.getD i.toNat ([],[])).1)++ahead.map λr=>gO M r (aN w) n
def tR(nd:Nat)(known:List Bool)(vals:aO)(W M D:aO):aO:=vals.mapIdx λc r=>if known.getD c eY then r else gO D (aA W c) (aA M c) nd
def dG(n:Nat)(l:List fi)(ahead:aO):aO:=ahead++l.map λe=>gT n e.1
def iu(w:Nat)(l:List fi)(ahead:aO):aO:=qh ahead.length (aN w)++l.map zh
def at_(X:aO)(k:Nat)(c:Int):UInt8:=aM (aA X c.toNat) k
section
variable {n w:Nat} {l:List fi} {ahead:aO}
theorem uK(b:aU n ahead):aU n (dG n l ahead):=λr a=>by
 rcases qx.1 a with a|a
 .exact b r a
 .obtain⟨e,_,rfl⟩:=qI.1 a;exact pu _ _
theorem uL(c:∀e∈l,iU n w e):aU w (iu w l ahead):=λr a=>by
 rcases qx.1 a with a|a
 .rw[(yj.1 a).2];simp[aN]
 .obtain⟨e,b,rfl⟩:=qI.1 a;exact(c e b).len
theorem sU:n4 (dG n l ahead)=n4 (iu w l ahead):=by simp[dG,iu]
theorem Bh(p:∀e∈l,iU n w e){X:aO}:jf n w (dG n l ahead) (iu w l ahead) X↔X.length=n/\aU w X/\∀k,k<w->(∀e∈l,Sat 1 k (at_ X k) e)/\∀r∈ahead,bW (λj=>aM r j) (λc=>aM (aA X c) k) n=0:=by
 refine⟨λ⟨h1,h2,h3⟩=>⟨h1,h2,λk q=>⟨λe g=>?_,λr t=>?_⟩⟩,λ⟨h1,h2,h3⟩=>⟨h1,h2,λi f=>?_⟩⟩
 .obtain⟨i,f,rfl⟩:=qE g;have:=h3 (n4 ahead+i) A0;have b:aA (dG n l ahead) (n4 ahead+i)=gT n l[i].1:=by rw[bf A0];simp[dG]
  have a:aA (iu w l ahead) (n4 ahead+i)=l[i].2:=by rw[bf D0];simp[iu]
  rw[b,a]at this;have h:=congrArg (λr=>aM r k) this;rw[kM h2 h1 _ k n (qj _),Bg _ (p _ g).cX (p _ g).nodup]at h;unfold Sat;rw[Gf.one_mul];exact h
 .obtain⟨i,f,rfl⟩:=qE t;have:=h3 i A0;have b:aA (dG n l ahead) i=ahead[i]:=by rw[bf A0];simp[dG,vz f]
  have a:aA (iu w l ahead) i=aN w:=by rw[bf D0];simp[iu,f]
  rw[b,a]at this;have h:=congrArg (λr=>aM r k) this;rw[kM h2 h1 _ k n (qj _),cF]at h;exact h
 .have o:n4 (aA (iu w l ahead) i)=w:=bX (uL p) (by rw[<-sU (n:=n)];exact f);refine gr (n:=w) (nL h2 h1 _ n (qj _)) o λk q=>?_;rw[kM h2 h1 _ k n (qj _)];simp only[dG,qo,qm]at f;by_cases m:i<n4 ahead
  .have b:aA (dG n l ahead) i=ahead[i]:=by rw[bf A0];simp[dG,vz m]
   have a:aA (iu w l ahead) i=aN w:=by rw[bf D0];simp[iu,m]
   rw[b,a,cF]
   grind
  .obtain⟨d,rfl⟩:∃d,i=n4 ahead+d:=⟨i-n4 ahead,n7⟩
   have s:d<n4 l:=n7
   have b:aA (dG n l ahead) (n4 ahead+d)=gT n l[d].1:=by rw[bf A0];simp[dG]
   have a:aA (iu w l ahead) (n4 ahead+d)=l[d].2:=by rw[bf D0];simp[iu]
   have g:=p _ (qe s);rw[b,a,Bg _ g.cX g.nodup];have:=(h3 k q).1 _ (qe s);unfold Sat at this;rw[Gf.one_mul]at this;exact this
end
structure gM (n w:Nat) (l:List fi) (ahead:aO) (known:List Bool) (vals:aO) (dead left:aC) (W M:aO):Prop where
 eqs:∀e∈l,iU n w e
 ahd:aU n ahead
 pinv:jP n w l known vals
 calm:kv known vals l=eY
 deadR:∀c∈dead,0<=c/\c<(n:Int)
 deadN:dead.Nodup
 deadK:∀c∈dead,kn known c=eY
 lens:n4 W=n/\M.length=n/\∀c:Nat,c<n->n4 (aA W c)=n4 dead/\(aA M c).length=w
 evKnown:∀t k y,∀c:Int,0<=c->c<(n:Int)->kn known c=eX->ev t k dead.length W M y c=Gf.mul t (aM (aA vals c.toNat) k)
 evDead:∀t k y,∀i,(h:i<n4 dead)->ev t k dead.length W M y dead[i]=y i
 evRest:∀t k y,k<w->(∀i∈left,Sat t k (ev t k dead.length W M y) ((aX known vals l).getD i.toNat ([],[])))->∀e∈aX known vals l,Sat t k (ev t k dead.length W M y) e
 leftR:∀i∈left,0<=i/\i<(n4 (aX known vals l):Int)
 evAll:∀t k x,k<w->(∀c:Int,0<=c->c<(n:Int)->kn known c=eX->x c=Gf.mul t (aM (aA vals c.toNat) k))->(∀e∈aX known vals l,Sat t k x e)->∀c:Int,0<=c->c<(n:Int)->x c=ev t k dead.length W M (λi=>x (dead.getD i 0)) c
section
variable {n w:Nat} {l:List fi} {ahead:aO} {known:List Bool} {vals:aO} {dead left:aC} {W M:aO}
theorem od(h:jP n w l known vals)(d:∀e∈l,iU n w e):∀e∈aX known vals l,iU n w e:=λe c=>by
 obtain⟨b,a,rfl⟩:=qI.1 (qK.1 c).1;exact h.Ao (d b a)
theorem ww{a b:UInt8}:a^^^b=0↔a=b:=oD
theorem gM.Mi(S:gM n w l ahead known vals dead left W M){i:Int}(o:i∈left)(t:UInt8)(k:Nat)(y:Nat->UInt8):
  bW (λj=>aM (cS W (aN dead.length) ((aX known vals l).getD i.toNat ([],[])).1) j) y dead.length=Gf.mul t (aM (cS M ((aX known vals l).getD i.toNat ([],[])).2 ((aX known vals l).getD i.toNat ([],[])).1) k)↔Sat t k (ev t k dead.length W M y) ((aX known vals l).getD i.toNat ([],[])):=by
 have g:=S.leftR i o;have d:i.toNat<n4 (aX known vals l):=n7
 have m:(aX known vals l).getD i.toNat ([],[])=(aX known vals l)[i.toNat]:=o4
 have a:=od S.pinv S.eqs _ (qe d);rw[m];generalize (aX known vals l)[i.toNat]=e at*;have h:n4 (aN dead.length)=n4 dead:=sL
 have f:∀c∈e.1,n4 (aA W c.toNat)=n4 dead:=λc b=>((S.lens.2.2 c.toNat) (by have:=a.cX c b;omega)).1;have p:∀c∈e.1,n4 (aA M c.toNat)=w:=λc b=>((S.lens.2.2 c.toNat) (by have:=a.cX c b;omega)).2;have:=Ir h a.len f p t k y;rw[ge _ _ dead.length λj _=>cF _ _,wo]at this;rw[<-ww,this];rw[ww];exact eq_comm
theorem gM.Js(S:gM n w l ahead known vals dead left W M)(r:Row)(t:UInt8)(k:Nat)(y:Nat->UInt8):
  bW (λj=>aM (gO W r (aN dead.length) n) j) y dead.length=Gf.mul t (aM (gO M r (aN w) n) k)↔bW (λj=>aM r j) (λc=>ev t k dead.length W M y (c:Int)) n=0:=by
 have d:=Mf (V:=W) (m:=n4 dead) r (a:=aN dead.length) sL y dead.length (c:=n) λi b=>(S.lens.2.2 i b).1;have e:=FG (V:=M) (m:=w) r (a:=aN w) sL k (c:=n) λi b=>(S.lens.2.2 i b).2;rw[d,e,ge _ _ dead.length λj _=>cF _ _,cF,wo,wo,<-ww,<-Mh,<-Mg];rfl
theorem gM.up(S:gM n w l ahead known vals dead left W M){t:UInt8}{k:Nat}{y:Nat->UInt8}(f:k<w)
  (h:∀i,i<n4 (dE n dead.length (aX known vals l) W left ahead)->bW (λj=>aM (aA (dE n dead.length (aX known vals l) W left ahead) i) j) y dead.length=Gf.mul t (aM (aA (fA n w (aX known vals l) M left ahead) i) k)):
  (∀e∈l,Sat t k (ev t k dead.length W M y) e)/\∀r∈ahead,bW (λj=>aM r j) (λc=>ev t k dead.length W M y (c:Int)) n=0:=by
 refine⟨(LY S.pinv S.eqs S.calm f).2 ⟨λc h0 p m=>S.evKnown t k y c h0 p m,S.evRest t k y f λi g=>?_⟩,λr o=>?_⟩
 .obtain⟨j,d,rfl⟩:=qE g;have:=h j A1;have b:aA (dE n dead.length (aX known vals l) W left ahead) j=cS W (aN dead.length) ((aX known vals l).getD left[j].toNat ([],[])).1:=by rw[bf A1];simp[dE,d]
  have a:aA (fA n w (aX known vals l) M left ahead) j=cS M ((aX known vals l).getD left[j].toNat ([],[])).2 ((aX known vals l).getD left[j].toNat ([],[])).1:=by rw[bf D1];simp[fA,d]
  rw[b,a]at this;exact(S.Mi g t k y).1 this
 .obtain⟨j,d,rfl⟩:=qE o;have:=h (n4 left+j) A1;have b:aA (dE n dead.length (aX known vals l) W left ahead) (n4 left+j)=gO W ahead[j] (aN dead.length) n:=by rw[bf A1];simp[dE]
  have a:aA (fA n w (aX known vals l) M left ahead) (n4 left+j)=gO M ahead[j] (aN w) n:=by rw[bf D1];simp[fA]
  rw[b,a]at this;exact(S.Js _ t k y).1 this
theorem gM.down(S:gM n w l ahead known vals dead left W M){t:UInt8}{k:Nat}{x:Int->UInt8}(p:k<w)(z:∀e∈l,Sat t k x e)(D:∀r∈ahead,bW (λj=>aM r j) (λc=>x (c:Int)) n=0):
  (∀c:Int,0<=c->c<(n:Int)->x c=ev t k dead.length W M (λi=>x (dead.getD i 0)) c)/\
  ∀i,i<n4 (dE n dead.length (aX known vals l) W left ahead)->bW (λj=>aM (aA (dE n dead.length (aX known vals l) W left ahead) i) j) (λi=>x (dead.getD i 0)) dead.length=Gf.mul t (aM (aA (fA n w (aX known vals l) M left ahead) i) k):=by
 obtain⟨y,s⟩:=(LY S.pinv S.eqs S.calm p).1 z;have h:=S.evAll t k x p y s;refine⟨h,λi A=>?_⟩;simp only[dE,qo,qm]at A;by_cases a:i<n4 left
 .have o:aA (dE n dead.length (aX known vals l) W left ahead) i=cS W (aN dead.length) ((aX known vals l).getD left[i].toNat ([],[])).1:=by rw[bf A1];simp[dE,a]
  have m:aA (fA n w (aX known vals l) M left ahead) i=cS M ((aX known vals l).getD left[i].toNat ([],[])).2 ((aX known vals l).getD left[i].toNat ([],[])).1:=by rw[bf D1];simp[fA,a]
  rw[o,m];refine(S.Mi (qe a) t k _).2 ?_;have u:=S.leftR _ (qe a);have f:left[i].toNat<n4 (aX known vals l):=n7
  have v:(aX known vals l).getD left[i].toNat ([],[])=(aX known vals l)[left[i].toNat]:=o4
  rw[v];have q:=s _ (qe f);have b:=od S.pinv S.eqs _ (qe f);unfold Sat at q⊢;rw[<-q];exact ku λc g=>(h c (b.cX c g).1 (b.cX c g).2).symm
 .obtain⟨d,rfl⟩:∃d,i=n4 left+d:=⟨i-n4 left,n7⟩
  have B:d<n4 ahead:=n7
  have o:aA (dE n dead.length (aX known vals l) W left ahead) (n4 left+d)=gO W ahead[d] (aN dead.length) n:=by rw[bf A1];simp[dE]
  have m:aA (fA n w (aX known vals l) M left ahead) (n4 left+d)=gO M ahead[d] (aN w) n:=by rw[bf D1];simp[fA]
  rw[o,m];refine(S.Js _ t k _).2 ?_;rw[<-D _ (qe B)];exact gB n (λ_ _=>rfl) λc g=>(h (c:Int) n7 n7).symm
theorem oJ(S:gM n w l ahead known vals dead left W M):aU dead.length (dE n dead.length (aX known vals l) W left ahead)/\aU w (fA n w (aX known vals l) M left ahead):=by
 have d:∀i∈left,iU n w ((aX known vals l).getD i.toNat ([],[])):=λi b=>by
  have h:=S.leftR i b;have e:i.toNat<n4 (aX known vals l):=n7
  rw[qg,qd e];exact od S.pinv S.eqs _ (qe e)
 constructor
 .intro r a;rcases qx.1 a with a|a
  .obtain⟨i,b,rfl⟩:=qI.1 a;exact jO sL λc f=>((S.lens.2.2 c.toNat) (by have:=(d i b).cX c f;omega)).1
  .obtain⟨x,g,rfl⟩:=qI.1 a;exact lH x sL λi b=>(S.lens.2.2 i b).1
 .intro r a;rcases qx.1 a with a|a
  .obtain⟨i,b,rfl⟩:=qI.1 a;exact jO (d i b).len λc f=>((S.lens.2.2 c.toNat) (by have:=(d i b).cX c f;omega)).2
  .obtain⟨x,g,rfl⟩:=qI.1 a;exact lH x sL λi b=>(S.lens.2.2 i b).2
theorem uM:n4 (dE n dead.length (aX known vals l) W left ahead)=n4 (fA n w (aX known vals l) M left ahead):=by simp[dE,fA]
theorem gM.Iq(S:gM n w l ahead known vals dead left W M)(I:1<=w)(f:cv (dG n l ahead)=n):cv (dE n dead.length (aX known vals l) W left ahead)=n4 dead:=by
 obtain⟨H,Y⟩:=oJ S;have P:=CB H;by_cases B:cv (dE n dead.length (aX known vals l) W left ahead)<n4 dead
 .exfalso;obtain⟨y,⟨i,b,O⟩,X⟩:=kernel H B;have o:=S.up (t:=0) (k:=0) (y:=y) I λi b=>by rw[X _ (mem_row b),Gf.zero_mul]
  have G:=uK (l:=l) S.ahd;have s:aU 1 (qh (dG n l ahead).length (aN 1)):=λr f=>by rw[(yj.1 f).2];simp[aN]
  have d:n4 (dG n l ahead)=n4 (qh (dG n l ahead).length (aN 1)):=oo
  have U:jf n 1 (dG n l ahead) (qh (dG n l ahead).length (aN 1)) (qh n (aN 1)):=by
   have a:aU 1 (qh n (aN 1)):=λr f=>by rw[(yj.1 f).2];simp[aN]
   refine⟨oo,a,λi b=>?_⟩;refine gr (n:=1) (nL a oo _ n (qj _)) (bX s x0) λk N=>?_;rw[kM a oo _ k n (qj _)];have v:aA (qh (dG n l ahead).length (aN 1)) i=aN 1:=by rw[bf x0];simp
   rw[v,cF];have:∀g,g<=n->bW (λj=>aM (aA (dG n l ahead) i) j) (λc=>aM (aA (qh n (aN 1)) c) k) g=0:=by
    intro g
    induction g with
    |zero=>intro _;rfl
    |succ g ih=>
     intro J;have K:aA (qh n (aN 1)) g=aN 1:=by rw[bf oi];simp
     rw[bW,ih n7,K,cF,Gf.mul_zero];rfl
   exact this n (qj _)
  have Q:jf n 1 (dG n l ahead) (qh (dG n l ahead).length (aN 1)) ((qy n).map λc:Nat=>[ev 0 0 dead.length W M y (c:Int)]):=by
   have a:aU 1 ((qy n).map λc:Nat=>[ev 0 0 dead.length W M y (c:Int)]):=λr f=>by obtain⟨c,_,rfl⟩:=qI.1 f;rfl
   have p:∀c:Nat,c<n->aA ((qy n).map λc:Nat=>[ev 0 0 dead.length W M y (c:Int)]) c=[ev 0 0 dead.length W M y (c:Int)]:=λc h=>by rw[bf sR];simp
   refine⟨oo,a,λi b=>?_⟩;refine gr (n:=1) (nL a oo _ n (qj _)) (bX s x0) λk N=>?_;have D:k=0:=n7
   subst D;rw[kM a oo _ 0 n (qj _)];have v:aA (qh (dG n l ahead).length (aN 1)) i=aN 1:=by rw[bf x0];simp
   rw[v,cF];have L:bW (λj=>aM (aA (dG n l ahead) i) j) (λc=>aM (aA ((qy n).map λc:Nat=>[ev 0 0 dead.length W M y (c:Int)]) c) 0) n=bW (λj=>aM (aA (dG n l ahead) i) j) (λc=>ev 0 0 dead.length W M y (c:Int)) n:=
    gB n (λ_ _=>rfl) λc h=>by rw[p c h];rfl
   rw[L];have z:aA (dG n l ahead) i∈ahead++l.map λe=>gT n e.1:=mem_row b;obtain E|E:=qx.1 z
   .exact o.2 _ E
   .obtain⟨e,u,x⟩:=qI.1 E;rw[<-x,Bg _ (S.eqs e u).cX (S.eqs e u).nodup];have F:=o.1 e u;unfold Sat at F;rw[Gf.zero_mul]at F;refine Eq.trans (ku λc h=>?_) F;have:=(S.eqs e u).cX c h;rw[show((c.toNat:Nat):Int)=c by omega]
  have R:=(sv d G s f U).1;have V:=(sv d G s f Q).1;have A:=V.trans R.symm;have T:=S.deadR _ (qe b);have q:=congrArg (λm=>aM (aA m dead[i].toNat) 0) A;rw[bf oi,bf oi]at q;simp only[List.getElem_map,List.getElem_range,List.getElem_replicate,cF]at q;rw[show((dead[i].toNat:Nat):Int)=dead[i]by omega]at q;have h8:aM [ev 0 0 dead.length W M y dead[i]] 0=ev 0 0 dead.length W M y dead[i]:=rfl;rw[h8,S.evDead 0 0 y i b]at q;exact O q
 .omega
theorem It(S:gM n w l ahead known vals dead left W M){D:aO}(g:n4 D=n4 dead)(f:aU w D){c:Nat}(d:c<n):
  (aA (tR dead.length known vals W M D) c).length=w/\∀k,aM (aA (tR dead.length known vals W M D) c) k=ev 1 k dead.length W M (λi=>aM (aA D i) k) (c:Int):=by
 have h:=S.pinv.vlen;have b:aA (tR dead.length known vals W M D) c=if known.getD c eY then aA vals c else gO D (aA W c) (aA M c) dead.length:=by unfold tR;rw[Bf n7]
 have e:=S.lens.2.2 c d;rw[b];cases hkn:known.getD c eY with
 |true=>
  rw[m6 rfl];refine⟨by have:=S.pinv.row c d;rw[hkn]at this;simpa using this,λk=>?_⟩;have:=S.evKnown 1 k (λi=>aM (aA D i) k) (c:Int) n7 n7 (by unfold kn;rw[qi];exact hkn);rw[this,qi,Gf.one_mul]
 |false=>
  rw[nq oo];have a:∀i,i<n4 dead->n4 (aA D i)=w:=λi j=>bX f;refine⟨lH _ e.2 a,λk=>?_⟩;rw[FG _ e.2 k a];unfold ev;rw[qi,Gf.one_mul,vO]
theorem ZV(h:n4 vals=n){D:aO}:n4 (tR dead.length known vals W M D)=n:=by simp[tR,h]
theorem gM.RH(S:gM n w l ahead known vals dead left W M){D:aO}(q:jf dead.length w (dE n dead.length (aX known vals l) W left ahead) (fA n w (aX known vals l) M left ahead) D):jf n w (dG n l ahead) (iu w l ahead) (tR dead.length known vals W M D):=by
 obtain⟨d,b,h⟩:=q;obtain⟨v,u⟩:=oJ S;have g:=ZV (dead:=dead) (known:=known) (W:=W) (M:=M) S.pinv.vlen (D:=D);refine(Bh S.eqs).2 ⟨g,λr f=>?_,λk p=>?_⟩
 .obtain⟨c,a,rfl⟩:=fT f;exact(It S d b n7).1
 .have m:=S.up (t:=1) (k:=k) (y:=λi=>aM (aA D i) k) p λi s=>by
   have:=congrArg (λr=>aM r k) (h i s);rw[kM b d _ k dead.length (qj _)]at this;rw[this,Gf.one_mul]
  refine⟨λe j=>?_,λr f=>?_⟩
  .have h3:=m.1 e j;unfold Sat at h3⊢;rw[<-h3];refine ku λc a=>?_;have o:=(S.eqs e j).cX c a;unfold at_;rw[(It S d b (show c.toNat<n by omega)).2 k,show((c.toNat:Nat):Int)=c by omega]
  .rw[<-m.2 r f];exact gB n (λ_ _=>rfl) λc a=>(It S d b a).2 k
theorem gM.NZ(S:gM n w l ahead known vals dead left W M){X:aO}(p:jf n w (dG n l ahead) (iu w l ahead) X):jf dead.length w (dE n dead.length (aX known vals l) W left ahead) (fA n w (aX known vals l) M left ahead) (dead.map λc=>aA X c.toNat):=by
 obtain⟨s,o,g⟩:=(Bh S.eqs).1 p;obtain⟨u,q⟩:=oJ S;have d:aU w (dead.map λc=>aA X c.toNat):=λr e=>by
  obtain⟨c,f,rfl⟩:=qI.1 e;have:=S.deadR c f;exact bX o
 have b:n4 (dead.map λc=>aA X c.toNat)=n4 dead:=oo
 refine⟨b,d,λi h=>gr (n:=w) (nL d b _ _ (qj _)) (bX q (by rw[<-uM (n:=n) (w:=w)];exact h)) λk a=>?_⟩;rw[kM d b _ k dead.length (qj _)];have h3:=(S.down (t:=1) (x:=at_ X k) a (g k a).1 (λr e=>by
  have:=(g k a).2 r e;rw[<-this];exact gB n (λ_ _=>rfl) λc f=>by unfold at_;rw[qi])).2 i h
 rw[Gf.one_mul]at h3;rw[<-h3];refine gB _ (λ_ _=>rfl) λj m=>?_;unfold at_;rw[bf x7,qg,qd m];simp
end
def io(known:List Bool)(i:Nat):cO:=((qy i).filter λc=>known.getD c eY).map λc:Nat=>[(c:Int)]
theorem Iu(known:List Bool)(i:Nat):io known (i+1)=io known i++if known.getD i eY then[[(i:Int)]]else[]:=by
 unfold io;rw[List.range_succ,]
 grind
theorem BM(known:List Bool)(i:Nat):n4 (io known i)<=i:=by
 unfold io
 grind
def rowsOf(R:List fi)(known:List Bool)(n:Nat):cO:=R.map qA++io known n
def gG(R:List fi)(known:List Bool)(n:Nat):Pl:=eI n (rowsOf R known n)
def mR(R:List fi)(known:List Bool)(n:Nat):List (Int×Int):=(gG R known n).steps.filter λx=>decide (x.1<n4 R)
def leftOf(R:List fi)(known:List Bool)(n:Nat):aC:=(fJ (gG R known n).used (rowsOf R known n).length).filter λx=>decide (x<n4 R)
theorem uN{known:List Bool}{n:Nat}{r:aC}(h:r∈io known n):∃c:Nat,r=[(c:Int)]/\c<n/\known.getD c eY=eX:=by
 obtain⟨c,a,rfl⟩:=qI.1 h
 grind
theorem CQ{rows:cO}:∀{a:List (Int×Int)} {D U:Int->Prop},rE rows D U a->∀i c,(i,c)∈a->(0<=i/\i<n4 rows)/\c∈rows.getD i.toNat []
 |[],_,_,_,_,_,h=>t7
 |(i',c')::t,D,U,hg,i,c,h=>by
  obtain⟨e,_,_,d,_,b⟩:=hg;rcases qN.1 h with h|h
  .grind
  .exact CQ b i c h
section
variable {n w:Nat} {l:List fi} {ahead:aO} {known:List Bool} {vals:aO}
theorem sV(g:∀e∈aX known vals l,iU n w e):∀r∈rowsOf (aX known vals l) known n,∀c∈r,0<=c/\c<(n:Int):=λr a c b=>by
 rcases qx.1 a with a|a
 .obtain⟨e,f,rfl⟩:=qI.1 a;exact(g e f).cX c b
 .obtain⟨d,rfl,h,_⟩:=uN a
  grind
theorem Jt(k:∀e∈l,iU n w e)(f:jP n w l known vals):rF ((aX known vals l).map qA) (·∈(gG (aX known vals l) known n).dead) (mR (aX known vals l) known n):=by
 have m:=od f k;obtain⟨_,_,_,_,_,g⟩:=tQ (sV m);have:=ws (R:=(aX known vals l).map qA) (S:=io known n) (K:=λc=>kn known c=eX) (λr a c b=>?_) (λr a c b=>?_) g (D':=(·∈(gG (aX known vals l) known n).dead)) λc _=>Iff.rfl
 .rw[qm]at this;exact this
 .obtain⟨e,j,rfl⟩:=qI.1 a;obtain⟨i,h,rfl⟩:=qI.1 (qK.1 j).1;rw[CJ f i c b];simp
 .obtain⟨d,rfl,_,o⟩:=uN a;unfold kn;grind
theorem GI(j:∀e∈l,iU n w e)(m:jP n w l known vals):
  (∀c∈(gG (aX known vals l) known n).dead,0<=c/\c<(n:Int))/\(gG (aX known vals l) known n).dead.Nodup/\(∀c∈(gG (aX known vals l) known n).dead,kn known c=eY)/\
  (∀i∈leftOf (aX known vals l) known n,0<=i/\i<(n4 (aX known vals l):Int))/\(gG (aX known vals l) known n).dead.length<=n:=by
 have k:=od m j;obtain⟨o,q,a3,a4,a5,g⟩:=tQ (sV k);refine⟨a3,a4,λc h=>?_,λi a=>?_,by unfold gG;omega⟩
 .have b:=a3 c h;cases hk:kn known c with
  |false=>rfl
  |true=>
   exfalso;have f:[c]∈rowsOf (aX known vals l) known n:=qx.2 (.inr (qI.2 ⟨c.toNat,qK.2 ⟨qY.2 n7,hk⟩,o4⟩));exact Bd f n (qh n eX) (qh _ eY) (λi a=>by rw[CM]at a;cases a) (λd p f=>by have:=a3 d f;omega) b.1 h
 .unfold leftOf at a;rw[qK]at a;have:=a5 i a.1
  grind
theorem Xn(m:∀e∈l,iU n w e)(q:jP n w l known vals){c:Int}(t:0<=c)(u:c<(n:Int))(b:kn known c=eY):c∈(gG (aX known vals l) known n).dead∨∃i,(i,c)∈mR (aX known vals l) known n:=by
 have j:=od q m;obtain⟨_,_,_,_,_,g⟩:=tQ (sV j);have a:=CO (sV j) n (qh n eX) (qh (rowsOf (aX known vals l) known n).length eY) oo oo c.toNat o4;rw[show((c.toNat))=c by omega]at a;rcases a with a|⟨i,a⟩
 .exact .inl a
 .refine .inr ⟨i,qK.2 ⟨a,?_⟩⟩;obtain⟨k,h⟩:=CQ g i c a;by_cases o:i<(n4 (aX known vals l))
  .simpa using o
  .have r:=k.2;rw[rowsOf,]at r;have s:(rowsOf (aX known vals l) known n).getD i.toNat []∈io known n:=by rw[rowsOf,qg,qk B6,qd o4];simp
   obtain⟨d,p,_,f⟩:=uN s;rw[p,qB]at h;subst h;unfold kn at b;rw[qi,f]at b;cases b
def KT(n w:Nat)(known:List Bool)(vals:aO)(R:List fi):aO×aO:=
 iy (gG R known n).dead.length known vals ((mR R known n).foldl (gW R (gG R known n).dead.length) (fU n (gG R known n).dead.length w (gG R known n).dead))
theorem Xo{nd:Nat}{s:aO×aO}{c:Int}(d:0<=c)(a:c.toNat<n4 s.1)(b:c.toNat<n4 s.2):
  aA (iy nd known vals s).1 c.toNat=(if kn known c then aN nd else aA s.1 c.toNat)/\aA (iy nd known vals s).2 c.toNat=if kn known c then aA vals c.toNat else aA s.2 c.toNat:=by
 unfold iy kn;exact⟨Bf a,Bf b⟩
theorem Xp(G:∀e∈l,iU n w e)(hA:aU n ahead)(z:jP n w l known vals)(T:kv known vals l=eY):
  gM n w l ahead known vals (gG (aX known vals l) known n).dead (leftOf (aX known vals l) known n) (KT n w known vals (aX known vals l)).1 (KT n w known vals (aX known vals l)).2:=by
 have K:=od z G;have X:=Jt G z;have a:=λc h0 m o=>Xn (c:=c) G z h0 m o;obtain⟨F,N,O,Z,f5⟩:=GI G z;have b:∀j:Nat,j<n4 (aX known vals l)->(∃c,((j:Int),c)∈mR (aX known vals l) known n)∨(j:Int)∈leftOf (aX known vals l) known n:=λj V=>by
  cases hu:(gG (aX known vals l) known n).used.getD j eY with
  |true=>
   rcases CN n (qh n eX) (qh _ eY) j hu with h|⟨c,h⟩
   .rw[CM]at h;cases h
   .exact .inl ⟨c,qK.2 ⟨h,oi⟩⟩
  |false=>exact .inr (qK.2 ⟨(Bc _ _ _).2 ⟨j,n5,by rw[rowsOf,qo,qm];omega,hu⟩,oi⟩)
 have s:∀e∈aX known vals l,∀c∈e.1,kn known c=eY:=λe v c M=>by
  obtain⟨e0,ab,rfl⟩:=qI.1 (qK.1 v).1;exact CJ z e0 c M
 unfold KT;obtain⟨R,f⟩:=I5 (aX known vals l)
 rw[<-f]at K X F N O Z f5 b a s⊢;obtain⟨D,W⟩:=I5 ((gG R known n).dead)
 obtain⟨ST,r⟩:=I5 (mR R known n)
 rw[<-W,<-r]at X a;rw[<-r]at b;rw[<-W]at F N O f5;rw[<-W,<-r];obtain⟨dk,du⟩:=Is (nd:=n4 D) (w:=w) F N D.length (qj _);rw[List.take_length]at dk du;obtain⟨u,keep,U,E⟩:=FF K X dk;generalize ad:ST.foldl (gW R D.length) (fU n D.length w D)=S0 at*;have S:=u.wl;have Q:=u.ml;have fr:∀c:Int,0<=c->c<(n:Int)->aA (iy D.length known vals S0).1 c.toNat=(if kn known c then aN D.length else aA S0.1 c.toNat)/\aA (iy D.length known vals S0).2 c.toNat=if kn known c then aA vals c.toNat else aA S0.2 c.toNat:=λc h0 m=>Xo h0 n7 n7
 have A:∀t k y (c:Int),0<=c->c<(n:Int)->kn known c=eY->ev t k D.length (iy D.length known vals S0).1 (iy D.length known vals S0).2 y c=ev t k D.length S0.1 S0.2 y c:=λt k y c h0 m o=>by
  have:=fr c h0 m;rw[o]at this;exact Be this.1 this.2
 have B:∀t k y (c:Int),0<=c->c<(n:Int)->kn known c=eX->ev t k D.length (iy D.length known vals S0).1 (iy D.length known vals S0).2 y c=Gf.mul t (aM (aA vals c.toNat) k):=λt k y c h0 m o=>by
  have:=fr c h0 m;rw[o,m6 rfl,m6 rfl]at this;unfold ev;rw[this.1,this.2,ge _ _ D.length λj _=>cF _ _,wo]
 have L:∀t k y i,(h:i<n4 D)->ev t k D.length (fU n D.length w D).1 (fU n D.length w D).2 y D[i]=y i:=λt k y i h=>by
  have:=du i h h;unfold ev;rw[this.1,this.2,Xm h,cF,Gf.mul_zero,z7]
 have H:∀i:Int,0<=i->i<(n4 R:Int)->R.getD i.toNat ([],[])∈R:=λi h0 m=>by
  rw[qg,qd n7];exact qe _
 refine⟨G,hA,z,T,F,N,O,⟨by simp[iy,S],by simp[iy,Q],λc M=>?_⟩,B,λt k y i h=>?_,λt k y o I e v=>?_,by rw[<-f];exact Z,λt k x o hx I c h0 m=>?_⟩
 .have h:=fr (c:Int) n7 n7;rw[qi]at h;rw[h.1,h.2];cases o:kn known (c:Int)with
  |true=>
   rw[m6 n5,m6 rfl];refine⟨sL,?_⟩;have:=z.CI (c:=(c:Int)) n7 n7 o
   rwa [qi]at this
  |false=>
   rw[nq oo,nq oo];have:=u.rw_ (c:Int) (a _ n7 n7 o) n7 n7
   rwa [qi]at this
 .have P:=F _ (qe h);rw[A t k y _ P.1 P.2 (O _ (qe h)),<-L t k y i h];exact Be (keep _ (qe h) P.1).1 (keep _ (qe h) P.1).2
 .rw[<-f]at v I;obtain⟨j,V,rfl⟩:=qE v;have ej:R.getD ((j:Int)).toNat ([],[])=R[j]:=by rw[qi,qg,qd V];rfl
  rcases b j V with⟨c,M⟩|hlf
  .have:=U _ M t k y o;dsimp only at this;rw[ej]at this;unfold Sat at this⊢;rw[<-this];exact ku λd J=>A t k y d ((K _ v).cX d J).1 ((K _ v).cX d J).2 (s _ v d J)
  .have:=I _ hlf
   rwa [ej]at this
 .rw[<-f]at I;cases hkc:kn known c with
  |true=>rw[hx c h0 m hkc,B _ _ _ c h0 m hkc]
  |false=>
   rw[A _ _ _ c h0 m hkc];refine E t k x _ o (λd J Y h3=>?_) (λp hp=>?_) c (a c h0 m hkc) h0 m
   .obtain⟨i,hi,rfl⟩:=qE J;rw[L t k _ i hi,qg,qd hi];rfl
   .have q:p∈mR R known n:=r▸hp;unfold mR at q;rw[qK]at q;have Y:p.1<(n4 R:Int):=by simpa using q.2
    have h3:0<=p.1:=by obtain⟨_,_,_,_,_,g⟩:=tQ (rows:=rowsOf R known n) (n:=n) (by rw[f];exact sV (f▸K));exact(CQ g p.1 p.2 q.1).1.1
    exact I _ (H _ h3 Y)
end
def sC(n:Nat)(seed:Int)(l:List (Int×Row)):List fi:=l.map λx=>(dZ n seed x.1,x.2)
def mD(p:Int×Int×Int)(l:List (Int×Row)):aO:=qh p.2.1.toNat (aN p.2.2.toNat)++l.map zh
structure Ee (p:Int×Int×Int) (x:Int×Row):Prop where
 id:bP x.1=eX
 len:n4 x.2=p.2.2.toNat
theorem ZW{n:Nat}(c:1<=n)(d:n<=20)(seed id:Int):(dZ n seed id).Pairwise (·<·):=by have a:=NU n seed id;have b:=GD c d seed id;exact(a.and b).imp λ⟨c,d⟩=>n7
section
variable {p:Int×Int×Int} {seed:Int} {l:List (Int×Row)} {n w:Nat}
theorem abF(a:1<=n)(b:n<=20)(i:∀x∈l,Ee p x)(g:p.2.2.toNat=w):∀e∈sC n seed l,iU n w e/\e.1.Pairwise (·<·):=λe h=>by
 obtain⟨x,f,rfl⟩:=qI.1 h;exact⟨⟨λc d=>km a b d,GD a b seed x.1,by rw[<-g];exact(i x f).len⟩,ZW a b seed x.1⟩
theorem RI(c:bH p=eX)(e:(bD p).toNat=n)(b:∀x∈l,Ee p x):dG n (sC n seed l) (bA p.1.toNat p.2.1.toNat)=ez p seed (l.map qA):=by
 unfold dG ez sC;rw[m6 c,e];have:(l.map qA).filter bP=l.map qA:=yQ.2 λi d=>by
  obtain⟨x,a,rfl⟩:=qI.1 d;exact(b x a).id
 rw[this,y0,y0];rfl
theorem RJ(a:p.2.2.toNat=w):iu w (sC n seed l) (bA p.1.toNat p.2.1.toNat)=mD p l:=by unfold iu mD sC;rw[a,];simp[bA]
end
section
variable {n w:Nat} {l:List fi} {ahead:aO} {known:List Bool} {vals:aO} {dead left:aC} {W M:aO}
theorem Ul(a:∀e∈l,iU n w e)(g:aU n ahead)(j:jP n w l known vals)(b:kv known vals l=eX)(i:cv (dG n l ahead)=n):¬jb n (dG n l ahead) (iu w l ahead):=λd=>by
 obtain⟨k,f,c⟩:=RF j a b;have h:=sw sU (uK g) (uL a) i d;exact c _ (((Bh a).1 h).2.2 k f).1
theorem gM.PW(S:gM n w l ahead known vals dead left W M)(b:cv (dG n l ahead)=n){D:aO}(a:jf dead.length w (dE n dead.length (aX known vals l) W left ahead) (fA n w (aX known vals l) M left ahead) D):
  jb n (dG n l ahead) (iu w l ahead)/\tR dead.length known vals W M D=eM n (dG n l ahead) (iu w l ahead):=by
 have h:=sv sU (uK S.ahd) (uL S.eqs) b (S.RH a)
 grind
theorem gM.PX(S:gM n w l ahead known vals dead left W M)(b:cv (dG n l ahead)=n)(a:jb n (dG n l ahead) (iu w l ahead)):jf dead.length w (dE n dead.length (aX known vals l) W left ahead) (fA n w (aX known vals l) M left ahead) (dead.map λc=>aA (eM n (dG n l ahead) (iu w l ahead)) c.toNat):=
 S.NZ (sw sU (uK S.ahd) (uL S.eqs) b a)
theorem gM.RK(S:gM n w l ahead known vals dead left W M)(f:1<=w)(c:cv (dG n l ahead)=n):jb dead.length (dE n dead.length (aX known vals l) W left ahead) (fA n w (aX known vals l) M left ahead)↔jb n (dG n l ahead) (iu w l ahead):=by obtain⟨e,d⟩:=oJ S;have a:=S.Iq f c;exact⟨λb=>(S.PW c (sw uM e d a b)).1,λb=>(sv uM e d a (S.PX c b)).2⟩
theorem GJ{a b:aO}(h:n4 a=n4 b):jf 0 w a b []↔∀r∈b,r=aN w:=by
 constructor
 .rintro⟨_,_,h3⟩ r c;obtain⟨i,e,rfl⟩:=fT c;exact(h3 i n7).symm
 .intro d;refine⟨n5,λr c=>(by cases c),λi e=>?_⟩;have:aA b i∈b:=mem_row;rw[d _ this];rfl
theorem ZX(d:∀e∈l,e.1.Pairwise (·<·)):∀e∈aX known vals l,e.1.Pairwise (·<·):=λe c=>by
 obtain⟨b,a,rfl⟩:=qI.1 (qK.1 c).1;exact(d b a).filter _
theorem Um:n4 (aX known vals l)<=n4 l:=by
 unfold aX
 grind
theorem Un{m:Nat}(d:∀e∈l,n4 e.1<=m):∀e∈aX known vals l,n4 e.1<=m:=λe c=>by
 obtain⟨b,a,rfl⟩:=qI.1 (qK.1 c).1;exact Nat.le_trans (List.length_filter_le _ _) (d b a)
end
end
variable {t t2 e k:Nat} {z:aS} {by_:Nat} {α:Type} {h h0:Heap} {p q B:au} {s v:Sl} {f:α->aS} {l l2:List α} {As:List HP}
section
variable {C:Ctx}
theorem Oa(d:C.Ok)(u:bS C.toAg t e k z by_)(H:∃i r,C.T.get t2=dB i/\i.cm=.slice r)(U:n4 z=k)(A:0<by_/\by_<=128)(B:∀x,n4 (f x)=k)
  (a:Seq h q s k f l) (D:s.len<=s.cap) (b:¬s.len+v.len<=s.cap) (F:Seq h p v k f l2) (L:s.cap+n4 l2<=2^32) {ty:Nat} {K:Sl->Heap->Prop}
  (I:∀n h',Own h' e n k f (l++l2)->aQ (λ_=>True) h h'->n.ptr=dB ⟨h.size,0,none⟩->K n h'):
  bF C.P (q6 #[t,t2] ty #[.slice s.ptr s.len s.cap,.slice v.ptr v.len v.cap]) (.one (.sc .slc)) h K:=by
 obtain⟨W,r,N,Q⟩:=H;have m:C.P.underlying t2=dB (.slice r):=by have:=d.cm N;rw[Q]at this;exact il this
 obtain⟨o,g,x2,x3,S,R,G⟩:=u.info d;unfold bF q6;simp only[zT,wB,qU];refine av.bind (av.always (aK (u.under d)) ?_);refine av.bind (av.always (u.size d) ?_);refine av.bind (av.always (aK m) ?_);refine av.bind (av.pure' ?_);simp only[zc,if_false,wG,if_true];refine av.bind (av.pure' ?_);have E:=a.len;have w:=F.len;rw[nq b];refine av.bind (av.always (cA g) ?_);rw[nq λO=>by rcases O.2 with h|h<;>first|exact h|(rw[x3]at h;omega)];refine av.bind (av.always (cA g) ?_);have J:=If (s.len+v.len) s.cap;rw[nq (by
  have:Builtin.nextslicecap (s.len+v.len) s.cap*o.bytes<=(16*2^32+16*768)*128:=zr n7 (by rw[x3];exact A.2);omega)]
 refine av.bind (av.DI ⟨λM=>(by cases M),λ_ V=>?_⟩);refine av.bind (av.always (cA g) ?_);refine av.bind (av.AJ ?_);refine av.bind (eT B a ?_);refine av.bind (eT B F ?_);have y:aL C.P (zeroValue e) S:=(cA g).bind (by rw[R];exact .pure);refine av.bind (av.always y ?_);rw[G,tu];unfold newRow;refine av.bind (av.bind (av.nP (av.pure' (av.pure' ?_))));generalize j:Question.cut (Question.appendCap (s.len+v.len) s.cap e) V=cc;have c:s.len+v.len<=cc:=by rw[<-j];simp only[Question.cut];omega
 refine⟨⟨dB ⟨h.size,0,none⟩,s.len+v.len,cc⟩,n5,I _ _ ⟨?_,.inr ⟨h.size,iF z (cc-(s.len+v.len)),n5,?_,?_,c⟩⟩ (aQ.push _ _ _) n5⟩
 .simp;omega
 .simp
 .rw[mu,U]
theorem aa.Ef(n:C.Ok)(H:aa B h0 h As)(A:bS C.toAg t e k z by_)(o:∃i w,C.T.get t2=dB i/\i.cm=.slice w)(E:n4 z=k)(j:0<by_/\by_<=128)(m:∀x,n4 (f x)=k)
  (a:Seq h q s k f l) (b:s.len<=s.cap) (c:¬s.len+v.len<=s.cap) (y:Seq h p v k f l2) (g:s.cap+n4 l2<=2^32) {ty:Nat} {K:Sl->Heap->Prop}
  (r:∀d h',aa B h0 h' (As++[ai e d k f (l++l2)])->K d h'):
  bF C.P (q6 #[t,t2] ty #[.slice s.ptr s.len s.cap,.slice v.ptr v.len v.cap]) (.one (.sc .slc)) h K:=
 Oa n A o E j m a b c y g λd h' D F u=>r d h' (H.comp (DR n5 D u F))
end
section
variable {C:Ctx}
theorem gX(c:C.Ok)(b:bS C.toAg t e k z by_)(n:Nat){x y:Int}(f:x=n)(g:y=n)(i:n<=s.cap){K:Sl->Heap->Prop}(d:K ⟨s.ptr,n,n⟩ h):
  bF C.P (Instr.sliceAt t (.slice s.ptr s.len s.cap) none (dB (xH xN x)) (dB (xH xN y))) (.one (.sc .slc)) h K:=by
 subst f;subst g;have j:aL C.P (zZ eX s.len s.cap none (dB (xH xN (n))) (dB (xH xN (n)))) (0,n,n):=λw=>by
  have x3:(n)<=(s.cap):=n7
  simp[zZ,Instr.sliceBound,asIntOf,x3,]
 refine av.bind (av.always (aK (b.under c)) ?_);refine av.bind (av.always (aK (b.under c)) ?_);refine av.bind (av.always j ?_);refine av.bind (av.always (b.size c) ?_);have l:(if n=0 then s.ptr else s.ptr.map (·.add (0*k)))=s.ptr:=by
  split
  .rfl
  .cases s.ptr with
   |none=>rfl
   |some a=>simp[Addr.add]
 refine av.pure' ⟨⟨s.ptr,n,n⟩,?_,d⟩
 grind
end
namespace Gf
def pl(a b:Nat):Nat->Nat
 |0=>0
 |i+1=>if b/2^i%2=1 then pl a b i^^^(a*2^i)else pl a b i
def rd(p:Nat):Nat->Nat
 |0=>p
 |i+1=>if rd p i/2^(15-i)%2=1 then rd p i^^^(283*2^(7-i))else rd p i
theorem PY(p q i:Nat):(p^^^q)/2^i%2=(p/2^i%2+q/2^i%2)%2:=by
 have h:=Nat.testBit_xor p q i
 grind
theorem Xq(x y k i:Nat):(if(x^^^y)/2^i%2=1 then(x^^^y)^^^k else x^^^y)=(if x/2^i%2=1 then x^^^k else x)^^^(if y/2^i%2=1 then y^^^k else y):=by
 rw[PY];rcases(show x/2^i%2=0∨x/2^i%2=1 by omega)with h|h<;>rcases(show y/2^i%2=0∨y/2^i%2=1 by omega)with h'|h'<;>rw[h,h']<;>simp
 .ac_rfl
 .ac_rfl
 grind
theorem Uo(p q:Nat):∀i,rd (p^^^q) i=rd p i^^^rd q i
 |0=>rfl
 |i+1=>by simp only[rd,Uo p q i];exact Xq _ _ _ _
theorem Up(a b c:Nat):∀i,pl a (b^^^c) i=pl a b i^^^pl a c i
 |0=>by simp[pl]
 |i+1=>by
  simp only[pl,Up a b c i,PY];rcases(show b/2^i%2=0∨b/2^i%2=1 by omega)with h|h<;>rcases(show c/2^i%2=0∨c/2^i%2=1 by omega)with h'|h'<;>rw[h,h']<;>simp
  .ac_rfl
  .ac_rfl
  grind
def mS(a b:Nat):Nat:=rd (pl a b 8) 8%256
theorem Ob(a b c:Nat):mS a (b^^^c)=mS a b^^^mS a c:=by unfold mS;rw[Up,Uo,show 256=2^8 from n5,Nat.xor_mod_two_pow]
theorem mul_two:∀a:UInt8,mul a 2=x2 a:=Lt o6
def itx(a:UInt8):Nat->UInt8
 |0=>a
 |k+1=>x2 (itx a k)
theorem pow_two:∀k,k<7->zI (2^(k+1))=mul (zI (2^k)) 2:=o6
theorem mul_pow(a:UInt8):∀k,k<8->mul a (zI (2^k))=itx a k
 |0,_=>mul_one a
 |k+1,h=>by rw[pow_two k n7,<-mul_assoc,mul_pow a k n7,mul_two];rfl
theorem Xr:∀n,n<256->∀k,k<8->mS n (2^k)=(itx (zI n) k).toNat:=o6
theorem Uq:∀k,k<8->∀b,b<256->b<2^(k+1)->2^k<=b->b=(b-2^k)^^^2^k/\zI b=zI (b-2^k)^^^zI (2^k):=o6
theorem FH(a:UInt8):∀k,k<=8->∀b,b<2^k->mS a.toNat b=(mul a (zI b)).toNat
 |0,_,b,hb=>by
  have:b=0:=by simpa using hb
  subst this;have h0:∀n,n<256->mS n 0=0:=o6
  rw[h0 _ (zP a)];show 0=(mul a 0).toNat;rw[mul_zero];rfl
 |k+1,h,b,hb=>by
  have h8:2^(k+1)<=2^8:=Nat.pow_le_pow_right n8 h;by_cases d:b<2^k
  .exact FH a k n7 b d
  .have c:=Uq k n7 b n7 hb n7;rw[c.2,jC]
   conv=>lhs;rw[c.1]
   rw[Ob,FH a k n7 (b-2^k) n7,Xr _ (zP a) k n7,wN,mul_pow a k n7];rfl
theorem RL(a b:UInt8):mS a.toNat b.toNat=(mul a b).toNat:=by
 have:=FH a 8 (qj _) b.toNat (zP b)
 rwa [wN]at this
theorem RM(a b:Nat)(e:a<256):∀i,i<=8->pl a b i<2^16
 |0,_=>by simp[pl]
 |i+1,h=>by
  have c:=RM a b e i n7;have d:a*2^i<2^16:=by have:2^i<=2^7:=Nat.pow_le_pow_right n8 n7;have:=zr (Nat.le_of_lt_succ (show a<255+1 by omega)) this;omega
  rw[pl];split
  .exact Nat.xor_lt_two_pow c d
  .exact c
theorem YX(p:Nat)(a:p<2^16):∀i,i<=8->rd p i<2^16
 |0,_=>a
 |i+1,h=>by
  have b:=YX p a i n7;have c:283*2^(7-i)<2^16:=by have:2^(7-i)<=2^7:=Nat.pow_le_pow_right n8 n7;have:=zr (qj 283) this;omega
  rw[rd];split
  .exact Nat.xor_lt_two_pow b c
  .exact b
theorem Ur:∀a:UInt8,mul a 3=x3 a:=Lt o6
theorem RN{a b:UInt8}(h:mul a b=1):b=inv a:=by
 have c:a≠0:=λe=>by rw[e,zero_mul]at h;cases h
 have:=congrArg (mul (inv a)) h;rw[<-mul_assoc,mul_comm (inv a) a,Aj c,one_mul,mul_one]at this;exact this
end Gf
variable {B:au} {α:Type} {h0 h:Heap} {As:List HP} {e t t2 k by_:Nat} {s:Sl} {f:α->aS} {d:List α} {z:aS}
section
variable {C:Ctx}
theorem Own.Iv(q:C.Ok)(E:bS C.toAg t e k z by_)(G:∃i w,C.T.get t2=dB i/\i.cm=.slice w)(g:∀x,n4 (f x)=k)
  (n:Own h e s k f d) (m:∀x,∀c∈f x,c.oneCell'=eX) (i:Nat) (I:i<n4 d) {ty:Nat} {K:Sl->Heap->Prop}
  (H:∀h',Own h' e s k f ((d.take i++d.drop (i+1))++d.drop (n4 d-1))->aQ (λb=>¬s.on b) h h'->K ⟨s.ptr,n4 d-1,s.cap⟩ h'):
  bF C.P (q6 #[t,t2] ty #[.slice s.ptr i s.cap,.slice (if s.cap=i+1 then s.ptr else s.ptr.map (·.add ((i+1)*k))) (s.len-(i+1)) (s.cap-(i+1))]) (.one (.sc .slc)) h K:=by
 obtain⟨Q,w,J,M⟩:=G;have r:C.P.underlying t2=dB (.slice w):=by have:=q.cm J;rw[M]at this;exact il this
 have B:=n.len;have j:=n.cap;have D:Seq h (λ_=>True) ⟨if s.cap=i+1 then s.ptr else s.ptr.map (·.add ((i+1)*k)),s.len-(i+1),s.cap-(i+1)⟩ k f (d.drop (i+1)):=Seq.drop (n.seq g λ_ _=>trivial) (i+1) j;obtain⟨v,a⟩:∃v:Sl,v=⟨if s.cap=i+1 then s.ptr else s.ptr.map (·.add ((i+1)*k)),s.len-(i+1),s.cap-(i+1)⟩:=⟨_,rfl⟩
 rw[<-a]at D;have N:(Value.slice (if s.cap=i+1 then s.ptr else s.ptr.map (·.add ((i+1)*k))) (s.len-(i+1)) (s.cap-(i+1)))=.slice v.ptr v.len v.cap:=by rw[a]
 have L:v.len=s.len-(i+1):=by rw[a]
 rw[N];unfold bF q6;simp only[zT,wB,qU];refine av.bind (av.always (aK (E.under q)) ?_);refine av.bind (av.always (E.size q) ?_);refine av.bind (av.always (aK r) ?_);refine av.bind (av.pure' ?_);simp only[zc,if_false,wG,if_true];refine av.bind (av.pure' ?_);have l:i+v.len<=s.cap:=n7
 rw[m6 l];refine av.bind (eT g D ?_);rcases n.head with⟨p1,p2,p3⟩|⟨b,rest,p1,p2,p3,p4⟩
 .subst p3;simp at I
 .rw[p1];refine av.bind ?_;rw[add_eq,w8];have o:d=d.take i++((d.drop i).take (n4 d-1-i)++d.drop (n4 d-1)):=by
   have O:(d.drop i).drop (n4 d-1-i)=d.drop (n4 d-1):=by rw[List.drop_drop];congr 1;omega
   rw[<-O,qz,qz]
  have y:((d.drop i).take (n4 d-1-i)).length=n4 d-1-i:=oi
  have A:n4 (d.drop (i+1))=n4 d-1-i:=oi
  refine fo (e:=e) (pre:=(d.take i).flatMap f) (old:=((d.drop i).take (n4 d-1-i)).flatMap f) (post:=(d.drop (n4 d-1)).flatMap f++rest) ?_ ?_ ?_ ?_ ?_
  .have:(d.take i).flatMap f++((d.drop i).take (n4 d-1-i)).flatMap f++((d.drop (n4 d-1)).flatMap f++rest)=d.flatMap f++rest:=by
    conv=>rhs;rw[o]
    simp only[za,ql]
   rw[this];exact p2
  .rw[dL g,dL g,y,A]
  .rw[dL g,List.length_take,Nat.min_eq_left n7];omega
  .intro c F;obtain⟨x,_,p⟩:=List.mem_flatMap.1 F;exact m x c p
  .have u:i+v.len=n4 d-1:=n7
   rw[u];refine av.pure' ⟨⟨dB ⟨b,0,none⟩,n4 d-1,s.cap⟩,n5,?_⟩;rw[<-p1];refine H _ ⟨?_,.inr ⟨b,rest,p1,?_,p3,p4⟩⟩ ?_
   .simp;omega
   .rw[iE p2,m6 rfl];simp[za]
   .exact aQ.jJ p2 (λu=>u ⟨0,p1⟩)
theorem aa.Iv(p:C.Ok)(H:aa B h0 h As)(j:Nat)(n:As[j]?=dB (ai e s k f d))(A:bS C.toAg t e k z by_)(r:∃i w,C.T.get t2=dB i/\i.cm=.slice w)(o:∀x,n4 (f x)=k)
  (a:∀x,∀c∈f x,c.oneCell'=eX) (i:Nat) (v:i<n4 d) {ty:Nat} {K:Sl->Heap->Prop}
  (u:∀h',aa B h0 h' (As.set j (ai e s k f ((d.take i++d.drop (i+1))++d.drop (n4 d-1))))->K ⟨s.ptr,n4 d-1,s.cap⟩ h'):
  bF C.P (q6 #[t,t2] ty #[.slice s.ptr i s.cap,.slice (if s.cap=i+1 then s.ptr else s.ptr.map (·.add ((i+1)*k))) (s.len-(i+1)) (s.cap-(i+1))]) (.one (.sc .slc)) h K:=
 (H.own j n).Iv p A r o a i v λh' x y=>u h' (H.step j n λq m _=>⟨y.mono λb _ g l=>g (m.2 b l),x,λb g=>⟨x.lt g,.inl (m.2 b g)⟩⟩)
end
variable {P:Program}
structure adZ (P:Program) (t it:TypeId):Prop where
 u:∃f0 f1 f2:Field,P.underlying t=dB (.struct #[f0,f1,f2])/\f0.name≠ "_" /\f1.name≠ "_" /\f2.name≠ "_" /\f0.type=it/\f1.type=it/\f2.type=it/\f0.offset=0/\f1.offset=1/\f2.offset=2
 st:P.stoodInHeld t=eY
 i:P.underlying it=dB (.int .i64)
 a:aL P (isAgg it) eY
abbrev k3v(x:Int×Int×Int):fY:=.agg #[xH xN x.1,xH xN x.2.1,xH xN x.2.2]
structure aea (h:Heap) (r:Nat) (ks:List (Int×Int×Int)):Prop where
 ex:∃es clock,h[r]?=dB (.map es clock)/\es.toList.map (λe=>(e.key,e.val))=ks.map (λk=>(k3v k,Value.bool eX))
section
def YY(x:ByteArray):List (ByteArray×α)->Option α
 |[]=>none
 |(k,u)::t=>if k=x then dB u else YY x t
structure aeb (h:Heap) (r:Nat) (g:α->fY) (kvs:List (ByteArray×α)):Prop where
 ex:∃es clock,h[r]?=dB (.map es clock)/\es.toList.map (λe=>(e.key,e.val))=kvs.map (λp=>(Value.string p.1,g p.2))/\∀e∈es.toList,e.born<clock
variable {P:Program} {h h':Heap} {r:Nat} {g:α->fY} {kvs:List (ByteArray×α)}
end
variable {h':Heap} {r:Nat} {g:α->fY} {kvs:List (ByteArray×α)}
theorem CR(a:Addr):aL P (sameAddr a a) eX:=λw=>by
 simp[sameAddr]
section
open Go.RowKit Go.ChangeShapes Go.WideShapes Go.Joins Go.Deep
section
variable {H:Type} {enc:TypeId×fY->H} {P:Program} {W W':World}
theorem Xs{w c:World}(a:dj w c)(e:aQ (λb=>b<w.heap.size) w.heap c.heap):Below w.heap.size w c:=
 ⟨a.os,a.tape,a.output,e.1,λk d=>e.2 k d d⟩
theorem BN(g:laidOutB P=eX)(i:Below W.heap.size W W'):∀{ts:List TypeId} {vs:aS} {f:List (DataW H)} {a:List MemPlace},
  (∀t∈ts,P.readableRec t=eX/\t<P.types.size)->DataW.TrodAll enc P W 0 (λ_=>eX) eX ts vs f a->(∀x∈a,x.block<W.heap.size)->DataW.TrodAll enc P W' 0 (λb=>decide (b<W.heap.size)) eX ts vs f a
 |[],[],[],a,_,h,_=>h
 |t::ts,v::vs,d::f,a,hr,⟨p,q,h1,h2,e⟩,hlt=>by
  subst e;exact⟨p,q,Below.trod g (hr t oo).1 (hr t oo).2 h1 i λx c=>hlt x B9,BN g i (λu j=>hr u (by simp[j])) h2 λx c=>hlt x B9,n5⟩
 |[],_::_,_,_,_,h,_=>h.elim
 |[],[],_::_,_,_,h,_=>h.elim
 |_::_,[],_,_,_,h,_=>h.elim
 |_::_,_::_,[],_,_,h,_=>h.elim
theorem Xt{f:Func}{s:ChangeSpec}{args:Array fY}{d:List (DataW H)}{a:List MemPlace}{rt:TypeId}(k:s.vars=[])(i:DataW.Whole enc P f.params.toList s.vars eY W args.toList d [] a)
  (b:s.fn H (d++[])={results:=[.lit (.bool eX)],args:=d}) (m:laidOutB P=eX) (l:Below W.heap.size W W') (n:∀t∈f.params.toList,P.readableRec t=eX/\t<P.types.size)
  (c:f.resultTypes=#[rt]) (e:P.underlying rt=dB .bool):s.post enc P f eY eX eY eY W args (.bool eX) W':=by
 obtain⟨p,q,r,j,h3,u,v⟩:=id i;have g:=i.lt;rw[k]at j;have o:q=[]:=j;subst o;simp only[qL]at h3;subst h3;refine⟨d,[],a,[],a,[],i,?_,?_,?_,l.frame _,λh=>t7⟩
 .rw[b,c];exact trodAll_mk1 (shut_bool e eX)
 .rw[b];exact BN m l n r g
 .rw[b,k];rfl
theorem EJ(w:World)(a:Addr):w.cell? a=cellOf w.heap a:=rfl
theorem Us{h:Heap}{a:Addr}{v:fY}(c:cellOf h a=dB v):a=⟨a.block,a.off,none⟩:=by
 obtain⟨b,o,s⟩:=a;cases s with
 |none=>rfl
 |some s=>
  unfold cellOf at c;cases hb:h[b]? with
  |none=>rw[hb]at c;cases c
  |some x=>rw[hb]at c;cases x<;>simp at c
theorem Ut{α:Type}{f:α->fY}{h:Heap}{a:Addr}{len cap:Nat}{l:List α}(k:n4 l=len)(c:∀i (g:i<n4 l),cellOf h (a.add i)=dB (f l[i])):Seq h (λb=>b<h.size) ⟨dB a,len,cap⟩ 1 (λx=>[f x]) l:=by refine⟨k.symm,λi x j=>?_⟩;obtain⟨g,e⟩:=List.getElem?_eq_some_iff.1 j;have h0:=c 0 n7;rw[add_zero]at h0;have d:=Us h0;refine⟨a.block,a.off,by rw[<-d],df h0,?_,I6⟩;have:=c i g;rw[d,add_eq]at this;rw[Nat.mul_one,add_eq,Nat.add_zero,this,e]
theorem Mj{t e:TypeId}{v:fY}{d:DataW H}{u:List MemPlace}(r:P.underlying t=dB (.slice e))(q:P.underlying e=dB (.int .i64))(j:P.cellsOf e=1)
  (m:∃p n c,v=.slice p n c) (h:DataW.Trod enc P W 0 (λ_=>eX) eX t v d u):∃(s:Sl) (l:aC),v=.slice s.ptr s.len s.cap/\Seq W.heap (λb=>b<W.heap.size) s 1 ar l:=by
 obtain⟨g,o⟩:=h;obtain⟨p,n,c,rfl⟩:=m;rcases open_ints r q j o with⟨h1,_⟩|⟨a,len,cap,zs,h1,_,hle,_,hz,_,hcell,_⟩
 .simp[Value.cells]at h1;obtain⟨rfl,rfl,rfl⟩:=h1;exact⟨⟨none,0,0⟩,[],n5,Seq.nil _ _ _ _ _ _⟩
 .simp[Value.cells]at h1;obtain⟨rfl,rfl,rfl⟩:=h1;simp only[if_true]at hz;refine⟨⟨dB a,n,c⟩,zs.take n,n5,Ut (f:=λx=>xH xN x) oi λi k=>?_⟩;simp at k;rw[<-EJ,hcell i n7];simp[qg,qd (show i<n4 zs by omega)]
theorem se{r:_root_.Go.Reach}{b:Nat}{t e:TypeId}{v:fY}(a:P.underlying t=dB (.slice e))(h:Value.okWide P W r b t v):∃p n c,v=.slice p n c:=by simp only[Value.okWide,a,Cell.okWide]at h;cases v<;>simp_all [Cell.ok]
theorem Oc{w:World}{base:Nat}{a:Nat->Bool}{held:Bool}{t0 I M t3 t4 t5:TypeId}{args:Array fY}{K:List (DataW H)}{N:List MemPlace}(h:DataW.TrodAll enc P w base a held [t0,I,M,t3,t4,t5] args.toList K N):
  ∃v0 G l v3 v4 v5 J E s j m o L F t n k r,args=#[v0,G,l,v3,v4,v5]/\K=[J,E,s,j,m,o]/\N=L++F++t++n++k++r/\DataW.Trod enc P w base a held t0 v0 J L/\DataW.Trod enc P w base a held I G E F/\DataW.Trod enc P w base a held M l s t/\DataW.Trod enc P w base a held t3 v3 j n/\DataW.Trod enc P w base a held t4 v4 m k/\DataW.Trod enc P w base a held t5 v5 o r:=by
 obtain⟨v,vs,d,T,p,q,y,rfl,rfl,U,i⟩:=trodAll_cons h;obtain⟨R,V,S,D,p',q',rfl,rfl,rfl,B,e⟩:=trodAll_cons i;obtain⟨l,ab,s,O,t,q2,rfl,rfl,rfl,z,f⟩:=trodAll_cons e;obtain⟨v3,X,j,ad,n,q3,rfl,rfl,rfl,A,b⟩:=trodAll_cons f;obtain⟨v4,Z,m,Q,k,q4,rfl,rfl,rfl,x,c⟩:=trodAll_cons b;obtain⟨v5,Y,o,W,r,q5,rfl,rfl,rfl,u,g⟩:=trodAll_cons c;obtain⟨rfl,rfl,rfl⟩:=trodAll_nil g;exact⟨v,R,l,v3,v4,v5,d,S,s,j,m,o,p,p',t,n,k,r,by cases args;simp_all,n5,oo,U,B,z,A,x,u⟩
theorem Uu{t e:TypeId}{v:fY}{d:DataW H}{w:List MemPlace}(u:P.underlying t=dB (.slice e))(r:P.underlying e=dB (.int .u8))(j:P.cellsOf e=1)
  (o:∃p n c,v=.slice p n c) (h:DataW.Trod enc P W 0 (λ_=>eX) eX t v d w):∃(s:Sl) (l:aR),v=.slice s.ptr s.len s.cap/\Seq W.heap (λb=>b<W.heap.size) s 1 aq l/\s.len<=s.cap:=by
 obtain⟨g,q⟩:=h;obtain⟨p,n,c,rfl⟩:=o;rcases open_ints u r j q with⟨h1,_⟩|⟨a,len,cap,zs,h1,_,hle,_,hz,_,hcell,hwf⟩
 .simp[Value.cells]at h1;obtain⟨rfl,rfl,rfl⟩:=h1;exact⟨⟨none,0,0⟩,[],n5,Seq.nil _ _ _ _ _ _,n8⟩
 .simp[Value.cells]at h1;obtain⟨rfl,rfl,rfl⟩:=h1;simp only[if_true]at hz;refine⟨⟨dB a,n,c⟩,(zs.take n).map λz=>zI z.toNat,n5,Ut (f:=λx:UInt8=>xH xO x.toNat) oi λi m=>?_,hle⟩;simp at m;rw[<-EJ,hcell i n7];have k:=hwf zs[i] (qe _);have B:0<=zs[i]/\zs[i]<256:=by simp[Lit.wf]at k;have A:IntKind.u8.min=0:=rfl;have y:IntKind.u8.max=255:=rfl;omega
  simp[qg,qd (show i<n4 zs by omega)];omega
end
end
variable {H:Type}
section
variable {enc:TypeId×fY->H}
end
theorem Uv{P:Program}(h:P.funcs.any Func.goes=eY)(f:FuncId):P.goes f=eY:=by
 have b:∀g:FuncId,(P.funcs[g]?).any Func.goes=eY:=λg=>by
  cases hg:P.funcs[g]? with
  |none=>rfl
  |some x=>
   show Func.goes x=eY;obtain⟨a,e⟩:=Array.getElem?_eq_some_iff.1 hg;cases hx:Func.goes x with
   |false=>rfl
   |true=>
    have:P.funcs.any Func.goes=eX:=Array.any_eq_true.2 ⟨g,a,by rw[e];exact hx⟩;rw[h]at this;cases this
 unfold Program.goes;rw[h,Bool.and_false,Bool.or_false];simp only[b];simp
theorem Od{P:Program}{c:OpenClaim}(h:P.funcs.any Func.goes=eY):c.goesBy P=eY:=by
 have a:∀f,P.goes f=eY:=Uv h;unfold OpenClaim.goesBy Program.goesAt Program.goesFrom;have b:(P.funcNamed c.func).any P.goes=eY:=by
  cases P.funcNamed c.func with
  |none=>rfl
  |some f=>exact a f
 have h3:P.inits.toList.any P.goes=eY:=wg.2 λf _=>by rw[a f];exact Bool.false_ne_true
 rw[b,h3];cases c.start<;>rfl
end Go.Qw
