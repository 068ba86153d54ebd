/- Lemmas for the proof of the law; no condition. -/
import Derived.Test.YtodpiocopjpjpaaGreatDoorPlA
import Derived.ProofKit
import Derived.Deep.Matrix
import Derived.Carry
import Derived.Lib.SmallJoins
import Derived.Handed
import Derived.HandedShaped
import Derived.ChangeMaps5
import Derived.SevenTiedAt
set_option linter.unusedVariables false
set_option linter.unusedSimpArgs false
open List renaming length -> vw, nodup_range -> xo, range -> qn, range' -> zJ, range'_succ -> y7, replicate -> qf
open Nat renaming lt_succ_self -> xl
open UInt8 renaming ofNat -> zL
open Prod renaming fst -> qD, snd -> zw
open Go.Builtin renaming append_ -> zo, delete_ -> vK, len_ -> vV
open Go.Value renaming int -> xU
open Go.IntKind renaming i64 -> ka
open Go.Instr renaming checkKey -> vX, findAsking -> yL, findKey -> vI, findNow -> xv, lookup -> xD, makeMap -> vF, mapUpdate -> yj, sameBits -> xJ, sliceBounds -> z7
open Array renaming getElem?_setIfInBounds -> zZ, getElem?_toList -> yO, toList_modify -> xA
set_option maxRecDepth 100000
open Option renaming some -> dB, none -> eH
open Bool renaming true -> eS, false -> eX
open Go renaming Value -> fz
open Go.Qw renaming Heap -> f9
open List renaming length -> i4
namespace Go.Qw
theorem RM(b:ByteArray):∀n i r,b.size-i=n->ByteArray.toList.loop b i r=r.reverse++b.data.toList.drop i:=by
 have c:i4 b.data.toList=b.size:=rfl;intro n
 induction n with
 |zero=>
  intro i r h;rw[ByteArray.toList.loop,g9 i6,List.drop_eq_nil_of_le (by rw[c];omega),qI]
 |succ n ih=>
  intro i r h;have a:i<b.size:=i6
  rw[ByteArray.toList.loop,g0 a,ih (i+1) _ i6];have d:b.data.toList.drop i=b.get! i::b.data.toList.drop (i+1):=by rw[List.drop_eq_getElem_cons (by rw[c];exact a)];congr 1;show _=b.data[i]!;rw[getElem!_pos b.data i a,Array.getElem_toList]
  rw[d,List.reverse_cons,qm];rfl
theorem toList_eq(x:ByteArray):x.toList=x.data.toList:=by unfold ByteArray.toList;rw[RM x _ 0 [] rfl];rfl
theorem nW{a b:ByteArray}(h:a.toList=b.toList):a=b:=by rw[toList_eq,toList_eq]at h;cases a;cases b;congr;exact Array.toList_inj.1 h
def kZ:Nat->Nat->Nat->List (List Nat)
 |0,_,_=>[[]]
 |t+1,a,n=>(zJ a (n-t-a)).flatMap λi=>(kZ t (i+1) n).map (i::·)
def kK(n:Nat):List Nat->Option (List Nat)
 |[]=>eH
 |x::l=>match kK n l with
  |some l'=>dB (x::l')
  |none=>if x+i4 l+1<n then dB (zJ (x+1) (i4 l+1))else eH
inductive pY (n:Nat):List Nat->List (List Nat)->Prop
 |last {l:List Nat}:kK n l=eH->pY n l [l]
 |more {l l':List Nat} {L:List (List Nat)}:kK n l=dB l'->pY n l' L->pY n l (l::L)
theorem EK{n:Nat}:∀{l l':List Nat},kK n l=dB l'->i4 l'=i4 l
 |[],_,h=>j8
 |x::l,l',h=>by
  unfold kK at h;cases hs:kK n l with
  |some m=>rw[hs]at h;injection h with h;subst h;simp[EK hs]
  |none=>
   grind
theorem pY.cons{n x t:Nat}{l:List Nat}{L R:List (List Nat)}(h:pY n l L)(b:i4 l=t)(c:x+t+1<n)(a:pY n (zJ (x+1) (t+1)) R):pY n (x::l) (L.map (x::·)++R):=by
 induction h with
 |last hs=>exact .more (by unfold kK;grind) a
 |more hs _ ih=>exact .more (by unfold kK;rw[hs]) (ih (by rw[EK hs,b]))
theorem pY.aiR{n x t:Nat}{l:List Nat}{L:List (List Nat)}(h:pY n l L)(a:i4 l=t)(b:¬x+t+1<n):pY n (x::l) (L.map (x::·)):=by
 induction h with
 |last hs=>exact .last (by unfold kK;grind)
 |more hs _ ih=>exact .more (by unfold kK;rw[hs]) (ih (by rw[EK hs,a]))
theorem EL(n:Nat):∀t a,a+t<=n->pY n (zJ a t) (kZ t a n)
 |0,a,_=>.last i5
 |t+1,a,h=>by
  have b:∀m a,a+(t+1)<=n->m+1=n-t-a->pY n (zJ a (t+1)) ((zJ a (m+1)).flatMap λi=>(kZ t (i+1) n).map (i::·)):=by
   intro m
   induction m with
   |zero=>
    intro a h c;have:=(EL n t (a+1) i6).aiR (x:=a) (t:=t) js i6;simpa[y7]using this
   |succ m ih=>
    intro a h c;have:=(EL n t (a+1) i6).cons (x:=a) (t:=t) js i6 (ih (a+1) i6 i6);exact this
  have:=b (n-t-a-1) a h i6;rw[show n-t-a-1+1=n-t-a by omega]at this;exact this
theorem Pc{n:Nat}:∀(i:Nat) (l m:List Nat),i<=i4 l->kK n (l.drop i)=dB m->kK n l=dB (l.take i++m)
 |0,l,m,_,h=>j1
 |i+1,[],m,h,_=>j1
 |i+1,x::l,m,h,hs=>by
  have:=Pc i l m j1 (by simpa using hs);unfold kK;grind
theorem CX{n:Nat}:∀{t a:Nat} {s:List Nat},s∈kZ t a n->i4 s=t/\(∀x∈s,a<=x/\x<n)/\s.Pairwise (·<·)
 |0,a,s,h=>by simp[kZ]at h;subst h;simp
 |t+1,a,s,h=>by
  simp only[kZ,zM,qo,]at h;obtain⟨i,f,l,d,rfl⟩:=h;obtain⟨e,c,h3⟩:=CX d;refine⟨j1,?_,zu.2 ⟨λx b=>(c x b).1,h3⟩⟩
  grind
theorem Pd{n:Nat}:∀{t a:Nat} {s:List Nat},i4 s=t->(∀x∈s,a<=x/\x<n)->s.Pairwise (·<·)->s∈kZ t a n
 |0,a,s,h,_,_=>by simp[kZ];grind
 |t+1,a,[],h,_,_=>j1
 |t+1,a,x::l,h,hb,b=>by
  rw[zu]at b;have f:i4 l=t:=j1
  simp only[kZ,zM,qo,List.mem_range'_1];have e:=hb x js;refine⟨x,⟨e.1,?_⟩,l,Pd f (λy c=>⟨b.1 y c,(hb y j1).2⟩) b.2,i5⟩;have d:∀(l:List Nat) (x:Nat),(x::l).Pairwise (·<·)->(∀y∈x::l,y<n)->x+i4 l<n:=by
   intro l
   induction l with
   |nil=>simp
   |cons y l ih=>
    intro x b c;rw[zu]at b;have g:=b.1 y js
    grind
  have:=d l x (zu.2 b) λy c=>(hb y c).2;omega
def ch:Nat->Nat->Nat
 |_,0=>1
 |0,_+1=>0
 |n+1,k+1=>ch n k+ch n (k+1)
theorem nX(n:Nat):ch n 0=1:=by cases n<;>rfl
theorem Gw:∀(n k:Nat),n<k->ch n k=0
 |_,0,h=>i6
 |0,k+1,_=>rfl
 |n+1,k+1,h=>by rw[ch,Gw n k i6,Gw n (k+1) i6]
theorem KX:∀n,ch n n=1
 |0=>rfl
 |n+1=>by rw[ch,KX n,Gw n (n+1) i6]
theorem EM:∀(n k:Nat),(k+1)*ch (n+1) (k+1)=(n+1)*ch n k
 |0,0=>rfl
 |0,k+1=>by rw[Gw 0 (k+1) i6,Gw (0+1) (k+1+1) i6];simp
 |n+1,0=>by
  have:=EM n 0;rw[nX]at this⊢;rw[ch,nX,Nat.mul_add,this];omega
 |n+1,k+1=>by
  have a:=EM n k;have b:=EM n (k+1);rw[ch];have e:(k+1+1)*(ch (n+1) (k+1)+ch (n+1) (k+1+1))=((k+1)*ch (n+1) (k+1)+ch (n+1) (k+1))+(k+1+1)*ch (n+1) (k+1+1):=by rw[Nat.mul_add,zW (k+1)]
  rw[e,a,b];have c:ch (n+1) (k+1)=ch n k+ch n (k+1):=rfl;rw[c,zW (n+1),Nat.mul_add (n+1)];omega
theorem TW{n k:Nat}(h:k<=n):ch n (k+1)*(k+1)=ch n k*(n-k):=by
 cases n with
 |zero=>
  have:k=0:=i6
  subst this;rfl
 |succ n=>
  have a:=EM n k;have b:(n+1)*ch n k=(n+1-k)*ch (n+1) k:=by
   cases k with
   |zero=>rw[nX,nX];simp
   |succ k=>
    have h3:=EM n k;have c:ch (n+1) (k+1)=ch n k+ch n (k+1):=rfl;have e:(n+1)*ch (n+1) (k+1)=(n+1)*ch n k+(n+1)*ch n (k+1):=by rw[c,Nat.mul_add]
    have e2:(n+1-(k+1))*ch (n+1) (k+1)=(n+1)*ch (n+1) (k+1)-(k+1)*ch (n+1) (k+1):=Nat.sub_mul _ _ _;rw[e2,h3,e];omega
  rw[Nat.mul_comm,a,b,Nat.mul_comm]
theorem aiS{n k:Nat}(h:2*(k+1)<=n+1):ch n k<=ch n (k+1):=by
 have a:=TW (n:=n) (k:=k) i6;by_cases h0:ch n k=0
 .omega
 .have b:ch n k*(k+1)<=ch n (k+1)*(k+1):=by rw[a];exact Nat.mul_le_mul_left _ i6
  exact Nat.le_of_mul_le_mul_right b i6
theorem Pe:∀(n k:Nat),k<=n->ch n k=ch n (n-k)
 |0,0,_=>rfl
 |n+1,0,_=>by rw[nX,Nat.sub_zero,KX]
 |n+1,k+1,h=>by
  by_cases c:k=n
  .subst c;rw[KX,Nat.sub_self,nX]
  .have a:=Pe n k i6;have b:=Pe n (k+1) i6;rw[show n+1-(k+1)=(n-(k+1))+1 by omega,ch,ch,a,b,show n-k=n-(k+1)+1 by omega];omega
theorem HV(n:Nat):∀t a,a<=n->i4 (kZ t a n)=ch (n-a) t
 |0,a,_=>by rw[nX];rfl
 |t+1,a,h=>by
  have b:∀m a,m=n-t-a->a<=n->i4 ((zJ a m).flatMap λi=>(kZ t (i+1) n).map (i::·))=ch (n-a) (t+1):=by
   intro m
   induction m with
   |zero=>intro a c d;rw[Gw _ _ i6];rfl
   |succ m ih=>
    intro a c d;rw[y7,List.flatMap_cons,qu,qp,HV n t (a+1) i6,ih (a+1) i6 i6];rw[show n-a=n-(a+1)+1 by omega];rfl
  exact b _ a i5 h
def jP(n t:Int):Int:=if 0<=n/\n<=64/\0<=t/\t<=n then(min (ch n.toNat t.toNat) 4097:Nat)else 0
section
open Classical
def fF(r:Row):Nat:=r.findIdx (λx=>x !=0)
def fG(M:aO)(r:Row):Row:=M.foldl (λout x=>cB (aM out (fF x)) x out) r
def nu(m:aO):aO:=(bD m (dF m)).2.take (bP m)
def Pf(M:aO)(r:Row):aO:=if fF (fG M r)<i4 (fG M r) then nu (M++[fG M r])else M
theorem KY{r:Row}{c:Nat}(h:c<i4 r):aM r c=r[c]:=by rw[aM,qg,qc h];rfl
theorem afs{r:Row}{j:Nat}(h:aM r j≠0):fF r<i4 r:=by have a:j<i4 r:=Nat.lt_of_not_le λb=>h (by simp[aM,List.getElem?_eq_none b]);rw[fF,wq];exact⟨r[j],qe a,by rw[<-KY a];grind⟩
theorem Yo{r:Row}(h:¬fF r<i4 r):r=aN r.length:=by
 rw[fF,wq]at h;refine fc i5 lb λj a=>?_;rw[cu,KY a];have c:¬((r[j] !=0)=eS):=λb=>h ⟨r[j],qe a,b⟩
 grind
section
variable {n:Nat} {m M A:aO}
theorem HW(b:aU n M){r:Row}(a:i4 r=n):i4 (fG M r)=n:=by
 induction M generalizing r with
 |nil=>exact a
 |cons x M ih=>
  exact ih (λy c=>b y (qC _ c)) (by rw[bR (by rw[b x js,a])];exact a)
theorem Yp{c:UInt8}{a t:Row}(h:i4 a=i4 t):cB c a (cB c a t)=t:=
 fc (n:=i4 t) (by rw[bR (by rw[bR h];exact h),bR h]) i5 λj _=>by
  rw[cM (by rw[bR h];exact h),cM h,uU]
theorem Mi(b:aU n m)(d:∀x∈M,Span n m x){r:Row}(c:i4 r=n):Span n m (fG M r)↔Span n m r:=by
 unfold fG
 induction M generalizing r with
 |nil=>rfl
 |cons x M ih=>
  have a:=d x js;have e:i4 x=i4 r:=by rw[a.len b,c]
  rw[zA,ih (λy f=>d y (qC _ f)) (by rw[bR e];exact c)];refine⟨λh=>?_,λh=>a.comb b h _⟩;have:=a.comb b h (aM r (fF x));rw[Yp e]at this;grind
structure CY (n:Nat) (M A:aO):Prop where
 even:aU n M
 evenA:aU n A
 span:∀v,Span n M v↔Span n A v
 len:i4 M=bP A
 lead:∀x∈M,fF x<n
theorem ahi(n:Nat):CY n [] []:=⟨λ_ h=>j8,λ_ h=>j8,λ_=>Iff.rfl,i5,λ_ h=>j8⟩
theorem Mj(a:aU n m)(b:aU n A)(h:∀v,Span n m v↔Span n A v):bP m=bP A:=by rw[mq a,mq b];congr 1;grind
theorem Ph(a:aU n m):Way n m n (bP m) (bD m (dF m)).2:=by
 have h:=Gs a n (qi _);cases m with
 |nil=>rw[kX]at h;exact h
 |cons x t=>
  have b:dF (x::t)=n:=by rw[dF,bv js];exact a _ js
  rw[bP,b];exact h
theorem ahj(t:aU n m):aU n (nu m)/\(∀v,Span n (nu m) v↔Span n m v)/\(nu m).length=bP m/\∀x∈nu m,fF x<n:=by
 have w:=Ph t;obtain⟨b,s,y,h,l,⟨p,D,A,F,E⟩,q⟩:=w;have a:aU n (nu m):=λx g=>b x (zn g);refine⟨a,λv=>?_,by rw[nu,qH];omega,λx g=>?_⟩
 .rw[<-h v];refine⟨Span.mono λr d=>zn d,Span.sub a λr d=>?_⟩;obtain⟨k,f,rfl⟩:=fD d;by_cases u:k<bP m
  .refine Span.row a ?_;have:aC (bD m (dF m)).2 k=aC (nu m) k:=by rw[bv f,bv (by rw[nu,qH];omega)];simp[nu]
   rw[this];exact mem_row (by rw[nu,qH];omega)
  .have:aC (bD m (dF m)).2 k=aN n:=fc (b _ d) lb λj B=>by rw[cu];grind
   rw[this];exact .zero
 .obtain⟨k,f,rfl⟩:=fD g;have i:k<bP m:=by rw[nu,qH]at f;omega
  have c:k<(bD m (dF m)).2.length:=i6
  have e:aC (nu m) k=aC (bD m (dF m)).2 k:=by rw[bv c,bv f];simp[nu]
  have z:=A k i k c;rw[]at z;have o:=afs (r:=aC (nu m) k) (j:=p k) j1;rw[a _ g]at o;exact o
theorem abS(h:∀v,Span n M v↔Span n A v)(e:aU n M)(d:aU n A){r:Row}(k:i4 r=n){rest:Row}(l:i4 rest=n)
  (f:∀m,aU n m->(∀x∈M,Span n m x)->(Span n m rest↔Span n m r)):∀v,Span n (M++[rest]) v↔Span n (A++[r]) v:=λv=>by
 have b:=np e l;have e2:=np d k;have i:∀x∈M,Span n (M++[rest]) x:=λx c=>Span.row b (zm _ c);have g:∀x∈M,Span n (A++[r]) x:=λx c=>Span.mono (λy a=>zm _ a) ((h x).1 (Span.row e c));constructor
 .refine Span.sub e2 λy a=>?_;rcases qt.1 a with a|a
  .exact g y a
  .rw[qw]at a;subst a;exact(f _ e2 g).2 (Span.row e2 js)
 .refine Span.sub b λy a=>?_;rcases qt.1 a with a|a
  .exact Span.mono (λz j=>zm _ j) ((h y).2 (Span.row d a))
  .rw[qw]at a;subst a;exact(f _ b i).1 (Span.row b js)
theorem Yq(h:CY n M A){r:Row}(c:i4 r=n):CY n (Pf M r) (A++[r]):=by
 have d:=HW h.even c;have i:=abS h.span h.even h.evenA c d λm j k=>Mi j k c;have e2:=np h.evenA c;unfold Pf;split
 .have t:=ahj (np h.even d);refine⟨t.1,e2,λv=>(t.2.1 v).trans (i v),?_,t.2.2.2⟩;rw[t.2.2.1];exact Mj (np h.even d) e2 i
 .rename_i g;have g:=Yo g;have e:Span n M r:=(Mi h.even (λx f=>Span.row h.even f) c).1 (by rw[g,d];exact .zero);have b:∀v,Span n M v↔Span n (A++[r]) v:=λv=>by
   rw[h.span v];refine⟨Span.mono λx f=>zm _ f,Span.sub h.evenA λy a=>?_⟩;rcases qt.1 a with a|a
   .exact Span.row h.evenA a
   .rw[qw]at a;subst a;exact(h.span _).1 e
  refine⟨h.even,e2,b,?_,h.lead⟩;rw[h.len];exact Mj h.evenA e2 λv=>(h.span v).symm.trans (b v)
end
abbrev fP:=av×Row
def di(x:Int->UInt8):av->UInt8
 |[]=>0
 |c::l=>x c^^^di x l
theorem lc{x y:Int->UInt8}:∀{l:av},(∀c∈l,x c=y c)->di x l=di y l
 |[],_=>rfl
 |c::l,h=>by rw[di,di,h c js,lc λd a=>h d j1]
theorem GY(x:Int->UInt8)(p:Int->Bool):∀l,di x l=di x (l.filter p)^^^di x (l.filter λc=>!p c)
 |[]=>by simp[di]
 |c::l=>by
  rw[di,GY x p l];cases h:p c<;>simp only[zN,h,yb,if_true,zh,if_false,di]<;>ac_rfl
theorem AW(x:Int->UInt8){c:Int}:∀{l:av},l.Nodup->c∈l->di x l=x c^^^di x (l.filter λd=>!decide (d=c))
 |[],_,h=>j8
 |d::l,hd,h=>by
  rw[wN]at hd;rcases qX.1 h with rfl|h
  .have:l.filter (λd=>!decide (d=c))=l:=wA.2 λe a=>j1
   rw[zN];simp only[decide_true,Bool.not_true,zh,if_false];rw[this,di]
  .rw[zN,g0 j1,di,AW x hd.2 h];ac_rfl
theorem Pj(x y:Int->UInt8):∀l,di (λc=>x c^^^y c) l=di x l^^^di y l
 |[]=>by simp[di]
 |c::l=>by rw[di,di,di,Pj x y l];ac_rfl
theorem EN:∀{x:Int->UInt8} {l:av},(∀c∈l,x c=0)->di x l=0
 |_,[],_=>rfl
 |x,c::l,h=>by rw[di,h c js,EN λd a=>h d j1];rfl
def dc(V:aO)(a:Row)(l:av):Row:=l.foldl (λa c=>cB 1 (aC V c.toNat) a) a
theorem kD{V:aO}{m:Nat}:∀{l:av} {a:Row},i4 a=m->(∀c∈l,i4 (aC V c.toNat)=m)->i4 (dc V a l)=m
 |[],a,h,_=>h
 |c::l,a,h,hv=>by
  exact kD (l:=l) (by rw[bR j1];exact h) λd b=>hv d j1
theorem HX{V:aO}{m:Nat}(j:Nat):∀{l:av} {a:Row},i4 a=m->(∀c∈l,i4 (aC V c.toNat)=m)->aM (dc V a l) j=aM a j^^^di (λc=>aM (aC V c.toNat) j) l
 |[],a,_,_=>by simp[dc,di]
 |c::l,a,h,hv=>by
  have b:i4 (aC V c.toNat)=i4 a:=j1
  rw[dc,zA];have:=HX (V:=V) j (l:=l) (a:=cB 1 (aC V c.toNat) a) (by rw[bR b];exact h) λd e=>hv d j1;rw[dc]at this;rw[this,cM b,Gf.one_mul,];ac_rfl
def Sat(t:UInt8)(k:Nat)(x:Int->UInt8)(e:fP):Prop:=di x e.1=Gf.mul t (aM e.2 k)
structure jt (n w:Nat) (e:fP):Prop where
 dh:∀c∈e.1,0<=c/\c<(n:Int)
 nodup:e.1.Nodup
 len:i4 e.2=w
def kn(known:List Bool)(c:Int):Bool:=known.getD c.toNat eX
def fU(known:List Bool)(vals:aO)(e:fP):fP:=(e.1.filter λc=>!kn known c,dc vals e.2 (e.1.filter λc=>kn known c))
structure kE (n w:Nat) (l:List fP) (known:List Bool) (vals:aO):Prop where
 klen:i4 known=n
 vlen:i4 vals=n
 row:∀c:Nat,c<n->i4 (aC vals c)=if known.getD c eX then w else 0
 sound:∀t k x,k<w->(∀e∈l,Sat t k x e)->∀c:Int,0<=c->c<(n:Int)->kn known c=eS->x c=Gf.mul t (aM (aC vals c.toNat) k)
section
variable {n w:Nat} {l:List fP} {known:List Bool} {vals:aO}
theorem VB(n w:Nat)(l:List fP):kE n w l (qf n eX) (qf n []):=by
 refine⟨js,js,λc d=>?_,λt k x f e c h0 b a=>?_⟩
 .rw[bv j1];grind
 .rw[kn,]at a
  grind
theorem kE.EO(h:kE n w l known vals){c:Int}(h0:0<=c)(b:c<(n:Int))(a:kn known c=eS):i4 (aC vals c.toNat)=w:=by
 have:=h.row c.toNat i6;rw[kn]at a
 grind
theorem kE.Ce(h:kE n w l known vals){e:fP}(b:jt n w e):jt n w (fU known vals e):=
 ⟨λc d=>b.dh c (qB.1 d).1,b.nodup.filter _,kD b.len λc d=>by
  have a:=qB.1 d;exact h.EO (b.dh c a.1).1 (b.dh c a.1).2 a.2⟩
theorem kE.Gx(h:kE n w l known vals){e:fP}(g:jt n w e){t:UInt8}{k:Nat}{x:Int->UInt8}(j:∀c:Int,0<=c->c<(n:Int)->kn known c=eS->x c=Gf.mul t (aM (aC vals c.toNat) k)):
  Sat t k x (fU known vals e)↔Sat t k x e:=by
 have d:∀c∈e.1.filter λc=>kn known c,i4 (aC vals c.toNat)=w:=λc f=>by
  have b:=qB.1 f;exact h.EO (g.dh c b.1).1 (g.dh c b.1).2 b.2
 have o:di x (e.1.filter λc=>kn known c)=Gf.mul t (di (λc=>aM (aC vals c.toNat) k) (e.1.filter λc=>kn known c)):=by
  rw[lc (y:=λc=>Gf.mul t (aM (aC vals c.toNat) k)) λc f=>j c (g.dh c (qB.1 f).1).1 (g.dh c (qB.1 f).1).2 (qB.1 f).2];generalize e.1.filter (λc=>kn known c)=m
  induction m with
  |nil=>simp[di,Gf.mul_zero]
  |cons a m ih=>rw[di,di,Gf.kr,ih]
 unfold Sat fU;rw[HX k g.len d,Gf.kr,<-o,GY x (λc=>kn known c) e.1];constructor
 .intro i;rw[i];rw[vu,uU]
 .intro i;rw[<-i];rw[vu (di x (e.1.filter λc=>kn known c)),uU]
theorem ahk{known:List Bool}{c d:Int}(h0:0<=c)(a:0<=d)(b:c<(i4 known:Int)):kn (known.set c.toNat eS) d=(decide (d=c)||kn known d):=by
 unfold kn
 grind
theorem Yr(h:kE n w l known vals)(m:∀e∈l,jt n w e){e:fP}(g:e∈l){c:Int}(r:(fU known vals e).1=[c]):kE n w l (known.set c.toNat eS) (vals.set c.toNat (fU known vals e).2):=by
 have b:=h.Ce (m e g);have i:=b.dh c j1;have u:=h.vlen;have p:=h.klen;refine⟨j1,j1,λd q=>?_,λt k x j f d h0 s o=>?_⟩
 .rw[lO,qg,List.getElem?_set];by_cases a:c.toNat=d
  .subst a;simp[show c.toNat<i4 known by omega,b.len]
  .rw[g9 a,g9 a,h.row d q,qg]
 .rw[ahk i.1 h0 i6]at o;rw[lO];by_cases a:d=c
  .subst a;have:=(h.Gx (m e g) (h.sound t k x j f)).2 (f e g);unfold Sat at this;rw[r]at this;simpa[di]using this
  .rw[g9 i6];exact h.sound t k x j f d h0 s j1
theorem EP(h:kE n w l known vals)(e:fP):∀c∈(fU known vals e).1,kn known c=eX:=λc a=>by
 have:=(qB.1 a).2;grind
def bf(known:List Bool)(vals:aO)(l:List fP):List fP:=(l.map (fU known vals)).filter λe=>!e.1.isEmpty
def lh(known:List Bool)(vals:aO)(l:List fP):Bool:=(l.map (fU known vals)).any λe=>e.1.isEmpty&&e.2.any (· !=0)
theorem Pk(h:kE n w l known vals)(i:∀e∈l,jt n w e)(f:lh known vals l=eX){t:UInt8}{k:Nat}{x:Int->UInt8}(j:k<w):
  (∀e∈l,Sat t k x e)↔(∀c:Int,0<=c->c<(n:Int)->kn known c=eS->x c=Gf.mul t (aM (aC vals c.toNat) k))/\∀e∈bf known vals l,Sat t k x e:=by
 constructor
 .intro g;refine⟨h.sound t k x j g,λe a=>?_⟩;obtain⟨m,b,rfl⟩:=qo.1 (qB.1 a).1;exact(h.Gx (i m b) (h.sound t k x j g)).2 (g m b)
 .rintro⟨r,p⟩ e a;refine(h.Gx (i e a) r).1 ?_;by_cases d:(fU known vals e).1=[]
  .unfold Sat;rw[d,di];have q:((fU known vals e).1.isEmpty&&(fU known vals e).2.any (· !=0))=eX:=by
    have:=wi.1 f _ (List.mem_map_of_mem a)
    grind
   rw[]at q;have o:∀y∈(fU known vals e).2,y=0:=j1
   have h3:=(h.Ce (i e a)).len;have:aM (fU known vals e).2 k=0:=by rw[aM,qg,qc i6];exact o _ (qe _)
   rw[this,Gf.mul_zero]
  .refine p _ (qB.2 ⟨List.mem_map_of_mem a,?_⟩)
   grind
theorem VC(h:kE n w l known vals)(j:∀e∈l,jt n w e)(d:lh known vals l=eS):∃k,k<w/\∀x:Int->UInt8,¬∀e∈l,Sat 1 k x e:=by
 obtain⟨y,m,f⟩:=zT.1 d;obtain⟨e,g,rfl⟩:=qo.1 m;rw[qx]at f;obtain⟨z,o,a⟩:=zT.1 f.2;obtain⟨k,p,rfl⟩:=qA o;have h3:=(h.Ce (j e g)).len;refine⟨k,i6,λx i=>?_⟩;have b:=(h.Gx (j e g) (h.sound 1 k x i6 i)).2 (i e g);unfold Sat at b;have c:(fU known vals e).1=[]:=by simpa using f.1
 rw[c,di,Gf.one_mul,aM,qg,qc p]at b;simp at a;exact a b.symm
end
def kN(op:List Bool)(c:Int):Bool:=op.getD c.toNat eX
def dq(op:List Bool)(r:av):av:=r.filter (kN op)
def mY(rows:bX)(op us:List Bool)(i:Nat):Bool:=!(us.getD i eX)&&i4 (dq op (rows.getD i []))==1
def mZ(rows:bX)(op us:List Bool):Option Nat:=(qn rows.length).find? (mY rows op us)
def fH(rows:bX)(op:List Bool)(i:Nat):Int:=(dq op (rows.getD i [])).getLast?.getD 0
def li(a:av)(r:av):av:=r.foldl (λa c=>a.set c.toNat (a.getD c.toNat 0+1)) a
def lQ(g:Nat->av->av)(rows:bX)(us:List Bool)(a:av):Nat->av
 |0=>a
 |k+1=>if us.getD k eX then lQ g rows us a k else li (lQ g rows us a k) (g k (rows.getD k []))
def jf(op:List Bool)(a:av):Nat->Int
 |0=>-1
 |k+1=>if op.getD k eX&&(decide (jf op a k<0)||decide (a.getD k 0>a.getD (jf op a k).toNat 0))then(k:Int)else jf op a k
def iU(rows:bX)(op us:List Bool):Int:=jf op (lQ (λ_ r=>r) rows us (qf op.length 0) rows.length) op.length
structure Pl where
 steps:List (Int×Int)
 dead:av
 used:List Bool
def cP(rows:bX):Nat->List Bool->List Bool->Pl
 |0,_,us=>⟨[],[],us⟩
 |k+1,op,us=>
  if op.contains eS then
   match mZ rows op us with
   |some i=>let r:=cP rows k (op.set (fH rows op i).toNat eX) (us.set i eS);⟨((i:Int),fH rows op i)::r.steps,r.dead,r.used⟩
   |none=>let r:=cP rows k (op.set (iU rows op us).toNat eX) us;⟨r.steps,iU rows op us::r.dead,r.used⟩
  else⟨[],[],us⟩
def gr(us:List Bool):Nat->av
 |0=>[]
 |k+1=>if us.getD k eX then gr us k else gr us k++[(k:Int)]
def fd(n:Nat)(rows:bX):Pl:=cP rows n (qf n eS) (qf rows.length eX)
theorem Ys{P:Nat->Bool}{n:Nat}(h:∀j,j<n->P j=eX):(qn n).find? P=eH:=j1
theorem Yt{P:Nat->Bool}{n k:Nat}(e:k<n)(h:∀j,j<k->P j=eX)(b:P k=eS):(qn n).find? P=dB k:=by
 rw[List.find?_eq_some_iff_append];refine⟨b,qn k,zJ (k+1) (n-k-1),?_,λa d=>?_⟩
 .rw[yS,yS];have c:n=k+(n-k):=i6
  have e2:n-k=(n-k-1)+1:=i6
  conv=>lhs;rw[c,<-List.range'_append_1 (s:=0) (m:=k) (n:=n-k)]
  rw[wo]
  conv=>lhs;rw[e2,y7]
 grind
theorem RN(a r:av)(c:Int):li a (r++[c])=(li a r).set c.toNat ((li a r).getD c.toNat 0+1):=by simp[li]
theorem DO(b r:av):i4 (li b r)=i4 b:=by
 induction r generalizing b with
 |nil=>rfl
 |cons a t ih=>simp only[li,]at*;grind
theorem CZ(g:Nat->av->av)(rows:bX)(us:List Bool)(a:av):∀k,i4 (lQ g rows us a k)=i4 a
 |0=>rfl
 |k+1=>by
  unfold lQ;split
  .exact CZ g rows us a k
  .rw[DO,CZ g rows us a k]
theorem EQ{m:Int}:∀{r b:av},(∀x∈b,0<=x/\x<=m)->∀x∈li b r,0<=x/\x<=m+i4 r
 |[],b,h,x,hx=>by have:=h x hx;grind
 |a::t,b,h,x,hx=>by
  have d:∀y∈b.set a.toNat (b.getD a.toNat 0+1),0<=y/\y<=m+1:=by
   intro y c;rcases List.mem_or_eq_of_mem_set c with c|c
   .grind
   .subst c;cases hc:b[a.toNat]? with
    |none=>
     rw[List.getElem?_eq_none_iff]at hc;rw[List.set_eq_of_length_le hc]at c
     grind
    |some z=>have:=h z (List.mem_of_getElem? hc);grind
  have:=EQ (r:=t) d x hx
  grind
theorem Pn(g:Nat->av->av){rows:bX}{us:List Bool}{n:Nat}(a:∀k,i4 (g k (rows.getD k []))<=64):∀k,∀x∈lQ g rows us (qf n 0) k,0<=x/\x<=64*k
 |0,x,hx=>by
  have:=List.eq_of_mem_replicate hx
  grind
 |k+1,x,hx=>by
  unfold lQ at hx;split at hx
  .have:=Pn g a k x hx;omega
  .have:=EQ (Pn g a k) x hx
   grind
theorem Mk(op:List Bool)(a:av):∀k,(jf op a k=-1/\∀j,j<k->op.getD j eX=eX)∨(0<=jf op a k/\jf op a k<k/\op.getD (jf op a k).toNat eX=eS)
 |0=>.inl ⟨i5,λj b=>i6⟩
 |k+1=>by
  unfold jf;split
  .grind
  .rcases Mk op a k with⟨e,h⟩|⟨h1,h2,h3⟩
   .grind
   grind
theorem ER{op:List Bool}(h:op.contains eS=eS):∃j,j<i4 op/\op.getD j eX=eS:=by simp only[List.contains_iff_mem]at h;obtain⟨j,a,e⟩:=qA h;exact⟨j,a,j1⟩
theorem tj{rows:bX}{op us:List Bool}(h:op.contains eS=eS):0<=iU rows op us/\iU rows op us<i4 op/\op.getD (iU rows op us).toNat eX=eS:=by
 obtain⟨j,a,e⟩:=ER h;rcases Mk op (lQ (λ_ r=>r) rows us (qf op.length 0) rows.length) op.length with⟨_,h2⟩|h2
 .grind
 .exact h2
theorem uz{rows:bX}{op us:List Bool}{i:Nat}(h:mZ rows op us=dB i):i<i4 rows/\mY rows op us i=eS:=by
 have a:=List.mem_of_find?_eq_some h;have b:=List.find?_some h
 grind
theorem Da{rows:bX}{op us:List Bool}{i:Nat}(a:mY rows op us i=eS):dq op (rows.getD i [])=[fH rows op i]/\fH rows op i∈rows.getD i []/\kN op (fH rows op i)=eS:=by
 simp only[mY,qx,beq_iff_eq]at a;obtain⟨c,d⟩:=List.length_eq_one_iff.1 a.2;have e:fH rows op i=c:=by unfold fH;grind
 have b:c∈dq op (rows.getD i []):=j1
 rw[dq,]at b
 grind
theorem lB{op:List Bool}{j:Nat}(h:op.getD j eX=eS):(op.set j eX).count eS+1=op.count eS:=j1
theorem ahl{op:List Bool}(h:op.count eS=0):op.contains eS=eX:=j1
theorem AX{rows:bX}{op us:List Bool}(h:op.contains eS=eX):∀k,cP rows k op us=⟨[],[],us⟩
 |0=>rfl
 |k+1=>by unfold cP;grind
theorem pq{rows:bX}{op us:List Bool}{i k:Nat}(h:op.contains eS=eS)(a:mZ rows op us=dB i):
  cP rows (k+1) op us=⟨((i:Int),fH rows op i)::(cP rows k (op.set (fH rows op i).toNat eX) (us.set i eS)).steps,(cP rows k (op.set (fH rows op i).toNat eX) (us.set i eS)).dead,(cP rows k (op.set (fH rows op i).toNat eX) (us.set i eS)).used⟩:=by
 rw[cP,h,a];rfl
theorem pr{rows:bX}{op us:List Bool}{k:Nat}(h:op.contains eS=eS)(a:mZ rows op us=eH):
  cP rows (k+1) op us=⟨(cP rows k (op.set (iU rows op us).toNat eX) us).steps,iU rows op us::(cP rows k (op.set (iU rows op us).toNat eX) us).dead,(cP rows k (op.set (iU rows op us).toNat eX) us).used⟩:=by
 rw[cP,h,a];rfl
theorem tW(rows:bX):∀k op us,(cP rows k op us).used.length=i4 us
 |0,_,_=>rfl
 |k+1,op,us=>by
  unfold cP;split
  .split
   .rw[tW];simp
   .rw[tW]
  .rfl
theorem Gy(us:List Bool):∀k,i4 (gr us k)<=k
 |0=>by simp[gr]
 |k+1=>by
  have:=Gy us k;unfold gr
  grind
theorem uk{op:List Bool}{f:Nat}(h:op.count eS=f+1):op.contains eS=eS:=by
 have:0<op.count eS:=i6
 rw[List.count_pos_iff]at this;simpa using this
theorem RO{P:Nat->Bool}{n j:Nat}(a:j<n)(h:P j=eS):∃i,(qn n).find? P=dB i:=by
 cases hf:(qn n).find? P with
 |some i=>simp
 |none=>
  grind
theorem nv(l:List Bool)(i j:Nat)(x:Bool):(l.set i x).getD j eX=if i=j/\j<i4 l then x else l.getD j eX:=j1
def yY(rows:bX)(op us:List Bool):Prop:=∀i,us.getD i eX=eS->dq op (rows.getD i [])=[]
theorem nY{op:List Bool}{c d:Int}(h:kN (op.set d.toNat eX) c=eS):kN op c=eS/\c.toNat≠d.toNat:=by
 unfold kN at*
 grind
theorem Yu{rows:bX}{op us:List Bool}{i:Nat}(k:yY rows op us)(d:mY rows op us i=eS):yY rows (op.set (fH rows op i).toNat eX) (us.set i eS):=by
 obtain⟨l,m,h3⟩:=Da d;intro j a;rw[nv]at a;rw[dq,wT];intro c n b;obtain⟨b,g⟩:=nY b;have h:c∈dq op (rows.getD j []):=by rw[dq,];grind
 by_cases e:i=j
 .grind
 .rw[g9 λf=>e f.1]at a;rw[k j a]at h
  grind
theorem ES(n j:Nat):(qf n eX).getD j eX=eX:=j1
theorem ahm{rows:bX}{r:av}(h:r∈rows):∃j,j<i4 rows/\rows.getD j []=r:=by obtain⟨j,a,e⟩:=qA h;exact⟨j,a,j1⟩
def other(m i:Nat):Nat:=if i<m then i else i+1
def tk(rows:bX):(Int->Prop)->(Int->Prop)->List (Int×Int)->Prop
 |_,_,[]=>True
 |D,U,(i,c)::t=>(0<=i/\i<i4 rows)/\¬U i/\¬D c/\c∈rows.getD i.toNat []/\(∀c'∈rows.getD i.toNat [],c'≠c->D c')/\tk rows (λx=>D x∨x=c) (λx=>U x∨x=i) t
def ajw(op:List Bool)(c:Int):Prop:=0<=c/\kN op c=eS
theorem ahn{op:List Bool}{c:Int}(h:kN op c=eS):c.toNat<i4 op:=by
 by_cases a:c.toNat<i4 op
 .exact a
 .unfold kN at h;grind
theorem TX{op:List Bool}{c d:Int}(e:0<=c)(f:0<=d):kN op c=eS->c≠d->kN (op.set d.toNat eX) c=eS:=by intro h a;unfold kN;rw[nv,g9 λb=>a i6];exact h
theorem uA{op:List Bool}{d:Int}(h:kN op d=eS):kN (op.set d.toNat eX) d=eX:=by
 unfold kN
 grind
structure aiT (rows:bX) (op us:List Bool) (r:Pl):Prop where
 dh:i4 r.steps+i4 r.dead=op.count eS
 used:r.used.count eS=us.count eS+i4 r.steps
 keepU:∀i,us.getD i eX=eS->r.used.getD i eX=eS
 dead:∀c∈r.dead,ajw op c
 deadN:r.dead.Nodup
 good:∀D U:Int->Prop,(∀c:Int,0<=c->c<i4 op->(D c↔kN op c=eX∨c∈r.dead))->(∀i:Nat,i<i4 rows->(U i↔us.getD i eX=eS∨r.used.getD i eX=eX))->tk rows D U r.steps
theorem abT{us:List Bool}{i:Nat}(h:us.getD i eX=eX)(a:i<i4 us):(us.set i eS).count eS=us.count eS+1:=j1
theorem Po{rows:bX}{n:Nat}(b:∀r∈rows,∀c∈r,0<=c/\c<n):∀k op us,i4 op=n->i4 us=i4 rows->op.count eS=k->aiT rows op us (cP rows k op us)
 |0,op,us,hl,hul,hc=>⟨by simp[cP,hc],by simp[cP],λi h=>h,λc h=>by simp[cP]at h,by simp[cP],λ_ _ _ _=>trivial⟩
 |k+1,op,us,hl,hul,hc=>by
  have q:=uk hc;cases hst:mZ rows op us with
  |some i=>
   obtain⟨m,t⟩:=uz hst;obtain⟨L,G,h3⟩:=Da t;have l:rows.getD i []=rows[i]:=by rw[qg,qc m];rfl
   have x:=b _ (qe m) _ (l▸G);have F:=lB (op:=op) (j:=(fH rows op i).toNat) h3;have v:us.getD i eX=eX:=by simp only[mY,qx,Bool.not_eq_true']at t;exact t.1
   have K:=abT v i6;have a:=Po b k (op.set (fH rows op i).toNat eX) (us.set i eS) (by simp[hl]) (by simp[hul]) i6;rw[pq q hst];generalize cP rows k (op.set (fH rows op i).toNat eX) (us.set i eS)=r at a;generalize I:fH rows op i=c at*;have E:r.used.getD i eX=eS:=a.keepU i (by rw[nv,g0 ⟨i5,i6⟩]);have u:c∉r.dead:=λh=>by
    have:=(a.dead c h).2;rw[uA h3]at this;cases this
   refine⟨by simp only[q8];have:=a.dh;omega,by simp only[q8];have:=a.used;omega,λj A=>a.keepU j (by rw[nv];split;rfl;exact A),λd p=>⟨(a.dead d p).1,(nY (a.dead d p).2).1⟩,a.deadN,λD U w y=>?_⟩;have o:rows.getD ((i:Int)).toNat []=rows.getD i []:=by rw[qj]
   refine⟨i6,?_,?_,by rw[o];exact G,?_,?_⟩
   .rw[y i m,v,E];simp
   .rw[w c x.1 i6,h3];simp[u]
   .intro c' s z;rw[o]at s;have B:=b _ (qe m) _ (l▸s);refine(w c' B.1 i6).2 (.inl ?_);cases ho:kN op c' with
    |false=>rfl
    |true=>
     have:c'∈dq op (rows.getD i []):=by rw[dq,qB];exact⟨s,ho⟩
     rw[L]at this;simp at this;exact absurd this z
   .refine a.good _ _ (λd g f=>?_) (λj A=>?_)
    .simp only[zf]at f;rw[w d g f];by_cases e:d=c
     .subst e;simp[uA h3]
     .cases ho:kN op d with
      |true=>rw[TX g x.1 ho e];simp[e]
      |false=>
       have:kN (op.set c.toNat eX) d=eX:=by
        cases hh:kN (op.set c.toNat eX) d with
        |false=>rfl
        |true=>rw[(nY hh).1]at ho;cases ho
       rw[this];simp
    .rw[y j A,nv];by_cases e:i=j
     .subst e;simp[hul,m]
     .have e2:¬((j:Int)=(i:Int)):=λh=>e i6;simp[e,e2]
  |none=>
   obtain⟨H,M,J⟩:=tj (rows:=rows) (us:=us) q;have F:=lB (op:=op) (j:=(iU rows op us).toNat) J;have a:=Po b k (op.set (iU rows op us).toNat eX) us (by simp[hl]) hul i6;rw[pr q hst];generalize cP rows k (op.set (iU rows op us).toNat eX) us=r at a;generalize iU rows op us=c at*;have h3:kN op c=eS:=J;have u:c∉r.dead:=λh=>by
    have:=(a.dead c h).2;rw[uA h3]at this;cases this
   refine⟨by simp only[q8];have:=a.dh;omega,a.used,a.keepU,λd p=>?_,by simp only[wN];exact⟨u,a.deadN⟩,λD U w y=>?_⟩
   .rcases qX.1 p with rfl|p
    .exact⟨H,h3⟩
    .exact⟨(a.dead d p).1,(nY (a.dead d p).2).1⟩
   .refine a.good D U (λd g f=>?_) y;simp only[zf]at f;rw[w d g f];by_cases e:d=c
    .subst e;simp[uA h3]
    .have:kN (op.set c.toNat eX) d=kN op d:=by
      cases ho:kN op d with
      |true=>exact TX g H ho e
      |false=>
       cases hh:kN (op.set c.toNat eX) d with
       |false=>rfl
       |true=>rw[(nY hh).1]at ho;cases ho
     rw[this];simp[e]
theorem Db(us:List Bool):∀k (c:Int),c∈gr us k↔∃j:Nat,c=j/\j<k/\us.getD j eX=eX
 |0,c=>by simp[gr]
 |k+1,c=>by
  have e:=Db us k c;unfold gr;cases h:us.getD k eX with
  |true=>
   simp only[if_true];rw[e];constructor
   .rintro⟨j,a,b,d⟩;exact⟨j,a,i6,d⟩
   .rintro⟨j,a,b,d⟩;refine⟨j,a,?_,d⟩;rcases qZ.1 b with b|rfl
    .exact b
    .rw[h]at d;cases d
  |false=>
   simp only[zh,if_false,qt,qw];rw[e];constructor
   .rintro(⟨j,a,b,d⟩|rfl)
    .exact⟨j,a,i6,d⟩
    .exact⟨k,i5,i6,h⟩
   .rintro⟨j,a,b,d⟩;rcases qZ.1 b with b|rfl
    .exact .inl ⟨j,a,b,d⟩
    .exact .inr a
theorem Pp(us:List Bool):∀k,k<=i4 us->i4 (gr us k)+(us.take k).count eS=k
 |0,_=>by simp[gr]
 |k+1,hk=>by
  have a:=Pp us k i6;have e:us.getD k eX=us[k]:=by rw[qg,qc i6];rfl
  unfold gr;rw[zl i6,List.count_append,e];cases us[k]<;>simp<;>omega
theorem Aa{rows:bX}{n:Nat}(a:∀r∈rows,∀c∈r,0<=c/\c<n):
  (fd n rows).steps.length+(fd n rows).dead.length=n/\(fd n rows).steps.length+i4 (gr (fd n rows).used rows.length)=i4 rows/\(∀c∈(fd n rows).dead,0<=c/\c<n)/\(fd n rows).dead.Nodup/\
  (∀c∈gr (fd n rows).used rows.length,0<=c/\c<i4 rows)/\tk rows (·∈(fd n rows).dead) (·∈gr (fd n rows).used rows.length) (fd n rows).steps:=by
 have h:=Po a n (qf n eS) (qf rows.length eX) js js js;have p:(fd n rows).used.length=i4 rows:=by unfold fd;rw[tW];simp
 have b:=Pp (fd n rows).used rows.length i6;rw[List.take_of_length_le i6]at b;refine⟨by have:=h.dh;simpa[fd]using this,?_,λc d=>?_,h.deadN,λc d=>?_,?_⟩
 .have:=h.used;have m:(qf rows.length eX).count eS=0:=by simp[List.count_replicate]
  rw[m]at this;unfold fd at*;omega
 .obtain⟨h0,l⟩:=h.dead c d;have:=ahn l;simp at this;omega
 .obtain⟨j,rfl,g,_⟩:=(Db _ _ _).1 d;omega
 .refine h.good _ _ (λc k e=>?_) (λi o=>?_)
  .have:kN (qf n eS) c=eS:=by simp at e;unfold kN;rw[qg,qc jj];simp
   rw[this];simp[fd]
  .rw[ES,Db];constructor
   .rintro⟨j,g,_,f⟩;have:j=i:=i6
    subst this;exact .inr f
   .rintro(hh|hh)
    .cases hh
    .exact⟨i,i5,o,hh⟩
theorem ET{rows:bX}:∀k op us i,(cP rows k op us).used.getD i eX=eS->us.getD i eX=eS∨∃c,((i:Int),c)∈(cP rows k op us).steps
 |0,_,_,_,h=>.inl h
 |k+1,op,us,i,h=>by
  by_cases a:op.contains eS=eS
  .cases hst:mZ rows op us with
   |some j=>
    rw[pq a hst]at h⊢;rcases ET k _ _ i h with h1|⟨c,hc⟩
    .grind
    grind
   |none=>
    rw[pr a hst]at h⊢;exact ET k _ _ i h
  .have a:op.contains eS=eX:=j1
   rw[AX a]at h⊢;grind
theorem EU{rows:bX}{n:Nat}(a:∀r∈rows,∀c∈r,0<=c/\c<(n)):∀k op us,i4 op=n->op.count eS=k->∀c:Nat,op.getD c eX=eS->
  (c:Int)∈(cP rows k op us).dead∨∃i,(i,(c:Int))∈(cP rows k op us).steps
 |0,op,us,hl,hc,c,h=>j1
 |k+1,op,us,hl,hc,c,h=>by
  have b:=uk hc;cases hst:mZ rows op us with
  |some j=>
   rw[pq b hst];obtain⟨m,g⟩:=uz hst;obtain⟨t,o,h3⟩:=Da g;have e:rows.getD j []=rows[j]:=j1
   have q:=a _ (qe m) _ (e▸o);have l:=lB (op:=op) (j:=(fH rows op j).toNat) h3;by_cases d:(fH rows op j).toNat=c
   .exact .inr ⟨j,by rw[show((c))=fH rows op j by omega];simp⟩
   .rcases EU a k (op.set (fH rows op j).toNat eX) (us.set j eS) (by simp[hl]) i6 c (by rw[nv,g9 λf=>d f.1];exact h)with h5|⟨i,h5⟩
    .exact .inl h5
    .exact .inr ⟨i,qC _ h5⟩
  |none=>
   rw[pr b hst];obtain⟨s,u,p⟩:=tj (rows:=rows) (us:=us) b;have l:=lB (op:=op) (j:=(iU rows op us).toNat) p;by_cases d:(iU rows op us).toNat=c
   .grind
   .rcases EU a k (op.set (iU rows op us).toNat eX) us (by simp[hl]) i6 c (by rw[nv,g9 λf=>d f.1];exact h)with h5|⟨i,h5⟩
    .exact .inl (qC _ h5)
    .exact .inr ⟨i,h5⟩
theorem VD{rows:bX}{op us:List Bool}{c:Int}(h:yY rows op us):yY rows (op.set c.toNat eX) us:=λi e=>by
 have:=h i e;rw[dq,wT]at this⊢;exactλd b a=>this d b (nY a).1
theorem Dc{rows:bX}{c:Int}(l:[c]∈rows):∀k op us,yY rows op us->(∀d:Int,d<0->d∉(cP rows k op us).dead)->0<=c->c∉(cP rows k op us).dead
 |0,_,_,_,_,_=>by simp[cP]
 |k+1,op,us,hu,_,h0=>by
  by_cases a:op.contains eS=eS
  .cases hst:mZ rows op us with
   |some j=>
    rw[pq a hst];dsimp only;obtain⟨_,m⟩:=uz hst;exact Dc l k _ _ (Yu hu m) (λd p b=>by
     have f:∀k op us,∀d∈(cP rows k op us).dead,0<=d:=plan_dead0;have:=f _ _ _ d b;omega) h0
   |none=>
    rw[pr a hst];obtain⟨t,u,r⟩:=tj (rows:=rows) (us:=us) a;dsimp only;intro b;rcases qX.1 b with e|b
    .obtain⟨j,q,g⟩:=ahm l;have n:dq op [c]=[c]:=by rw[dq,zN,g0 (show kN op c=eS by rw[e];exact r)];rfl
     have s:mY rows op us j=eS:=by
      unfold mY;rw[g,n];cases hus:us.getD j eX with
      |false=>rfl
      |true=>have:=hu j hus;rw[g,n]at this;cases this
     obtain⟨i,o⟩:∃i,mZ rows op us=dB i:=RO q s;rw[hst]at o;cases o
    .exact Dc l k _ _ (VD hu) (λd p b=>by have:=plan_dead0 (rows:=rows) _ _ _ d b;omega) h0 b
  .have a:op.contains eS=eX:=l7
   rw[AX a];simp
where
 plan_dead0 {rows:bX}:∀k op us,∀d∈(cP rows k op us).dead,0<=d
  |0,_,_,d,h=>by simp[cP]at h
  |k+1,op,us,d,h=>by
   by_cases a:op.contains eS=eS
   .cases hst:mZ rows op us with
    |some j=>rw[pq a hst]at h;exact plan_dead0 k _ _ d h
    |none=>
     rw[pr a hst]at h;rcases qX.1 h with rfl|h
     .exact(tj a).1
     .exact plan_dead0 k _ _ d h
   .have a:op.contains eS=eX:=l7
    rw[AX a]at h;simp at h
def tm(R:bX):(Int->Prop)->List (Int×Int)->Prop
 |_,[]=>True
 |D,(i,c)::t=>(0<=i/\i<i4 R)/\¬D c/\c∈R.getD i.toNat []/\(∀c'∈R.getD i.toNat [],c'≠c->D c')/\tm R (λx=>D x∨x=c) t
theorem BB{R S:bX}{K:Int->Prop}(k:∀r∈R,∀c∈r,¬K c)(m:∀r∈S,∀c∈r,K c):∀{a:List (Int×Int)} {D D' U:Int->Prop},tk (R++S) D U a->(∀c,¬K c->(D c↔D' c))->
  tm R D' (a.filter λp=>decide (p.1<i4 R))
 |[],_,_,_,_,_=>trivial
 |(i,c)::t,D,D',U,h,hD=>by
  obtain⟨w,y,h3,f,u,v⟩:=h;rw[zN];by_cases s:i<i4 R
  .have e:(R++S).getD i.toNat []=R.getD i.toNat []:=by rw[qg,List.getElem?_append_left i6,qg]
   have g:R.getD i.toNat []∈R:=by rw[qg,qc i6];exact qe _
   rw[e]at f u;have n:=k _ g c f;rw[g0 (by simpa using s)];refine⟨⟨w.1,s⟩,λo=>h3 ((hD c n).2 o),f,λc' b l=>(hD c' (k _ g c' b)).1 (u c' b l),BB k m v λd j=>?_⟩;rw[hD d j]
  .rw[g9 (by simpa using s)];have g:(R++S).getD i.toNat []∈S:=by have q:=w.2;rw[qu]at q;rw[qg,qk i6,qc i6];exact qe _
   have n:=m _ g c f;refine BB k m v λd j=>?_;rw[<-hD d j];exact⟨λo=>o.elim id λx=>absurd (x▸n) j,.inl⟩
def ev(t:UInt8)(k nd:Nat)(W M:aO)(y:Nat->UInt8)(c:Int):UInt8:=bT (λi=>aM (aC W c.toNat) i) y nd^^^Gf.mul t (aM (aC M c.toNat) k)
theorem HY{a b:Row}(h:i4 a=i4 b)(c:UInt8)(y:Nat->UInt8)(n:Nat):bT (λj=>aM (cB c a b) j) y n=bT (λj=>aM b j) y n^^^Gf.mul c (bT (λj=>aM a j) y n):=by rw[gF n (λj _=>cM h j) λ_ _=>rfl];exact Gr _ _ _ _ _
theorem Pq{V:aO}{m:Nat}(y:Nat->UInt8)(n:Nat):∀{l:av} {a:Row},i4 a=m->(∀c∈l,i4 (aC V c.toNat)=m)->bT (λj=>aM (dc V a l) j) y n=bT (λj=>aM a j) y n^^^di (λc=>bT (λj=>aM (aC V c.toNat) j) y n) l
 |[],a,_,_=>by simp[dc,di]
 |c::l,a,h,hv=>by
  have b:i4 (aC V c.toNat)=i4 a:=by rw[hv c js,h]
  have:=Pq (V:=V) y n (l:=l) (a:=cB 1 (aC V c.toNat) a) (by rw[bR b];exact h) λd e=>hv d t6;rw[dc,zA];rw[dc]at this;rw[this,HY b,Gf.one_mul,di];ac_rfl
theorem Pr(t:UInt8)(x:Int->UInt8):∀l,di (λc=>Gf.mul t (x c)) l=Gf.mul t (di x l)
 |[]=>by simp[di,Gf.mul_zero]
 |c::l=>by rw[di,di,Gf.kr,Pr t x l]
theorem KZ{W M:aO}{nd w:Nat}{l:av}{a m:Row}(d:i4 a=nd)(b:i4 m=w)(e:∀c∈l,i4 (aC W c.toNat)=nd)(f:∀c∈l,i4 (aC M c.toNat)=w)(t:UInt8)(k:Nat)(y:Nat->UInt8):
  bT (λj=>aM (dc W a l) j) y nd^^^Gf.mul t (aM (dc M m l) k)=(bT (λj=>aM a j) y nd^^^Gf.mul t (aM m k))^^^di (ev t k nd W M y) l:=by
 rw[Pq y nd d e,HX k b f,Gf.kr];have:di (ev t k nd W M y) l=di (λc=>bT (λj=>aM (aC W c.toNat) j) y nd) l^^^Gf.mul t (di (λc=>aM (aC M c.toNat) k) l):=by rw[<-Pr,<-Pj];rfl
 rw[this];ac_rfl
def iz(rest:List fP)(nd:Nat)(s:aO×aO)(p:Int×Int):aO×aO:=
 let r:=rest.getD p.1.toNat ([],[])
 (s.1.set p.2.toNat (dc s.1 (aN nd) (r.1.filter λc=>!decide (c=p.2))),s.2.set p.2.toNat (dc s.2 r.2 (r.1.filter λc=>!decide (c=p.2))))
structure Yv (n nd w:Nat) (D:Int->Prop) (W M:aO):Prop where
 wl:i4 W=n
 ml:i4 M=n
 rw_:∀c:Int,D c->0<=c->c<(n:Int)->i4 (aC W c.toNat)=nd/\(aC M c.toNat).length=w
theorem Dd{W M a b:aO}{t:UInt8}{k nd:Nat}{y:Nat->UInt8}{c:Int}(d:aC a c.toNat=aC W c.toNat)(e:aC b c.toNat=aC M c.toNat):ev t k nd a b y c=ev t k nd W M y c:=by unfold ev;rw[d,e]
theorem HZ{n nd w:Nat}{rest:List fP}(B:∀e∈rest,jt n w e):∀{a:List (Int×Int)} {D:Int->Prop} {W M:aO},tm (rest.map qD) D a->Yv n nd w D W M->
  Yv n nd w (λc=>D c∨∃i,(i,c)∈a) (a.foldl (iz rest nd) (W,M)).1 (a.foldl (iz rest nd) (W,M)).2/\
  (∀c:Int,D c->0<=c->aC (a.foldl (iz rest nd) (W,M)).1 c.toNat=aC W c.toNat/\aC (a.foldl (iz rest nd) (W,M)).2 c.toNat=aC M c.toNat)/\
  (∀p∈a,∀t k y,k<w->Sat t k (ev t k nd (a.foldl (iz rest nd) (W,M)).1 (a.foldl (iz rest nd) (W,M)).2 y) (rest.getD p.1.toNat ([],[])))/\
  (∀t k x y,k<w->(∀c:Int,D c->0<=c->c<(n:Int)->x c=ev t k nd W M y c)->(∀p∈a,Sat t k x (rest.getD p.1.toNat ([],[])))->∀c:Int,(D c∨∃i,(i,c)∈a)->0<=c->c<(n:Int)->x c=ev t k nd (a.foldl (iz rest nd) (W,M)).1 (a.foldl (iz rest nd) (W,M)).2 y c)
 |[],D,W,M,_,hw=>⟨⟨hw.wl,hw.ml,λc U=>hw.rw_ c (U.elim id λ⟨i,h⟩=>j8)⟩,λ_ _ _=>⟨i5,i5⟩,λp q=>by(cases q),λt k x y I K _ c U h0 o=>K c (U.elim id λ⟨i,h⟩=>j8) h0 o⟩
 |(i,c)::st,D,W,M,hg,hw=>by
  obtain⟨g1,g2,H,g4,g5⟩:=hg;have r:i.toNat<i4 rest:=by have:=g1.2;rw[qp]at this;omega
  obtain⟨e,Y⟩:=z6 (rest[i.toNat])
  have V:rest.getD i.toNat ([],[])=e:=by rw[qg,qc r,Y];rfl
  have P:(rest.map qD).getD i.toNat []=e.1:=by rw[qg,qR,qc r,Y];rfl
  rw[P]at H g4;have l:=B e (Y▸qe r);have Z:=l.dh c H;obtain⟨F,O⟩:=z6 (e.1.filter (λd=>!decide (d=c)))
  have u:∀d∈F,d∈e.1/\d≠c:=λd b=>by rw[O,qB]at b;exact⟨b.1,by simpa using b.2⟩
  have f:∀d∈F,D d/\0<=d/\d<(n:Int):=λd b=>⟨g4 d (u d b).1 (u d b).2,l.dh d (u d b).1⟩
  have l1:∀d∈F,i4 (aC W d.toNat)=nd:=λd b=>(hw.rw_ d (f d b).1 (f d b).2.1 (f d b).2.2).1;have l2:∀d∈F,i4 (aC M d.toNat)=w:=λd b=>(hw.rw_ d (f d b).1 (f d b).2.1 (f d b).2.2).2;have lz:i4 (aN nd)=nd:=lb
  have R:iz rest nd (W,M) (i,c)=(W.set c.toNat (dc W (aN nd) F),M.set c.toNat (dc M e.2 F)):=by unfold iz;dsimp only;rw[V,<-O]
  have X:=hw.wl;have ab:=hw.ml;have A:∀d:Nat,aC (W.set c.toNat (dc W (aN nd) F)) d=if c.toNat=d then dc W (aN nd) F else aC W d:=λd=>lO
  have G:∀d:Nat,aC (M.set c.toNat (dc M e.2 F)) d=if c.toNat=d then dc M e.2 F else aC M d:=λd=>lO
  have S:Yv n nd w (λx=>D x∨x=c) (W.set c.toNat (dc W (aN nd) F)) (M.set c.toNat (dc M e.2 F)):=by
   refine⟨by simp[X],by simp[ab],λd b h0 o=>?_⟩;rw[A,G];by_cases g:c.toNat=d.toNat
   .rw[g0 g,g0 g];exact⟨kD lz l1,kD l.len l2⟩
   .rw[g9 g,g9 g];exact hw.rw_ d (b.elim id λJ=>absurd (by rw[J]) g) h0 o
  obtain⟨L,T,r3,r4⟩:=HZ B g5 S;rw[zA,R];generalize st.foldl (iz rest nd) (W.set c.toNat (dc W (aN nd) F),M.set c.toNat (dc M e.2 F))=s at L T r3 r4;have v:∀d:Int,D d->0<=d->c.toNat≠d.toNat:=λd b h0 J=>g2 (by rw[show c=d by omega];exact b);have keep:∀d:Int,D d->0<=d->aC s.1 d.toNat=aC W d.toNat/\aC s.2 d.toNat=aC M d.toNat:=λd b h0=>by
   have:=T d (.inl b) h0;rw[A,G,g9 (v d b h0),g9 (v d b h0)]at this;exact this
  have ad:∀t k y,ev t k nd s.1 s.2 y c=Gf.mul t (aM e.2 k)^^^di (ev t k nd W M y) F:=λt k y=>by
   have Q:=T c (.inr i5) Z.1;rw[A,G,g0 rfl,g0 rfl]at Q;unfold ev;rw[Q.1,Q.2,KZ lz l.len l1 l2 t k y,gw _ _ nd λj _=>cu _ _,wv];rfl
  have E:∀t k y,di (ev t k nd s.1 s.2 y) F=di (ev t k nd W M y) F:=λt k y=>lc λd b=>Dd (keep d (f d b).1 (f d b).2.1).1 (keep d (f d b).1 (f d b).2.1).2;refine⟨⟨L.wl,L.ml,λd b h0 o=>L.rw_ d ?_ h0 o⟩,keep,λp q t k y I=>?_,λt k x y I K hs d b h0 o=>?_⟩
  .rcases b with b|⟨j,hj⟩
   .exact .inl (.inl b)
   .rcases qX.1 hj with hj|hj
    .injection hj with _ hj;exact .inl (.inr hj)
    .exact .inr ⟨j,hj⟩
  .rcases qX.1 q with rfl|q
   .dsimp only;rw[V];unfold Sat;rw[AW _ l.nodup H,<-O,ad,E,uU]
   .exact r3 p q t k y I
  .refine r4 t k x y I (λd b h0 o=>?_) (λp q=>hs p (qC _ q)) d ?_ h0 o
   .by_cases g:d=c
    .subst g;have z:=hs (i,d) js;dsimp only at z;rw[V]at z;unfold Sat at z;rw[AW _ l.nodup H,<-O,lc (y:=ev t k nd W M y) λN m=>K N (f N m).1 (f N m).2.1 (f N m).2.2]at z;have h6:ev t k nd (W.set d.toNat (dc W (aN nd) F)) (M.set d.toNat (dc M e.2 F)) y d=Gf.mul t (aM e.2 k)^^^di (ev t k nd W M y) F:=by unfold ev;rw[A,G,g0 i5,g0 i5,KZ lz l.len l1 l2 t k y,gw _ _ nd λj _=>cu _ _,wv];rfl
     rw[h6,<-z,uU]
    .have m:D d:=b.elim id λJ=>absurd J g;rw[K d m h0 o];refine(Dd ?_ ?_).symm
     .rw[A,g9 i6]
     .rw[G,g9 i6]
   .rcases b with b|⟨j,hj⟩
    .exact .inl (.inl b)
    .rcases qX.1 hj with hj|hj
     .injection hj with _ hj;exact .inl (.inr hj)
     .exact .inr ⟨j,hj⟩
theorem Ml:∀{l m:List Nat},l.Nodup->(∀x∈l,x∈m)->i4 l<=i4 m
 |[],_,_,_=>js
 |x::l,m,hd,h=>by
  rw[wN]at hd;have b:=h x js;have d:=Ml (l:=l) (m:=m.erase x) hd.2 λy a=>(List.mem_erase_of_ne λc:y=x=>hd.1 (by rw[<-c];exact a)).2 (h y u7);rw[List.length_erase_of_mem b]at d;have:=List.length_pos_of_mem b;simp;omega
def oL(nd i:Nat):Row:=(aN nd).set i 1
theorem abU(nd i:Nat):i4 (oL nd i)=nd:=by simp[oL,aN]
theorem abV{nd i:Nat}(a:i<nd)(j:Nat):aM (oL nd i) j=if j=i then 1 else 0:=by rw[oL,KV (by simpa[aN]using a),cu]
theorem abW{nd i:Nat}(a:i<nd)(y:Nat->UInt8):bT (λj=>aM (oL nd i) j) y nd=y i:=
 Gq _ _ i nd a λj _=>by
  rw[abV a]
  grind
def gG(n nd w:Nat)(dead:av):aO×aO:=
 (dead.zipIdx).foldl (λs p=>(s.1.set p.1.toNat (oL nd p.2),s.2.set p.1.toNat (aN w))) (qf n [],qf n [])
theorem Jl(n nd w:Nat)(d:av)(c:Int):gG n nd w (d++[c])=((gG n nd w d).1.set c.toNat (oL nd d.length),(gG n nd w d).2.set c.toNat (aN w)):=by
 unfold gG
 grind
theorem La{n nd w:Nat}{dead:av}(f:∀c∈dead,0<=c/\c<(n))(j:dead.Nodup):∀k,k<=i4 dead->
  Yv n nd w (·∈dead.take k) (gG n nd w (dead.take k)).1 (gG n nd w (dead.take k)).2/\∀i,(m:i<k)->(o:i<i4 dead)->aC (gG n nd w (dead.take k)).1 dead[i].toNat=oL nd i/\aC (gG n nd w (dead.take k)).2 dead[i].toNat=aN w
 |0,_=>⟨⟨by simp[gG],by simp[gG],λc l=>by simp at l⟩,λi m=>i6⟩
 |k+1,hk=>by
  obtain⟨g,o⟩:=La (nd:=nd) (w:=w) f j k i6;have b:k<i4 dead:=i6
  have s:=f _ (qe b);have e:dead.take (k+1)=dead.take k++[dead[k]]:=zl b;have u:i4 (dead.take k)=k:=jj
  rw[e,Jl,u];have t:=g.wl;have q:=g.ml;refine⟨⟨by simp[t],by simp[q],λc l h0 h3=>?_⟩,λi m h=>?_⟩
  .rw[lO,lO];by_cases a:dead[k].toNat=c.toNat
   .rw[g0 a,g0 a];exact⟨abU _ _,lb⟩
   .rw[g9 a,g9 a];refine g.rw_ c ?_ h0 h3
    grind
  .rw[lO,lO];by_cases d:i=k
   .subst d;simp
   .have p:dead[k]≠dead[i]:=λr=>d ((List.getElem_inj j).1 r).symm;have:=f _ (qe h)
    grind
def iV(nd:Nat)(known:List Bool)(vals:aO)(s:aO×aO):aO×aO:=
 (s.1.mapIdx λc r=>if known.getD c eX then aN nd else r,s.2.mapIdx λc r=>if known.getD c eX then aC vals c else r)
theorem De{m:aO}{f:Nat->Row->Row}{c:Nat}(h:c<i4 m):aC (m.mapIdx f) c=f c (aC m c):=by rw[bv j1,bv h];simp
def iq(V:aO)(r:Row)(a:Row):Nat->Row
 |0=>a
 |c+1=>cB (aM r c) (aC V c) (iq V r a c)
theorem mw{V:aO}{m:Nat}(r:Row){a:Row}(b:i4 a=m):∀{c:Nat},(∀i,i<c->i4 (aC V i)=m)->i4 (iq V r a c)=m
 |0,_=>b
 |c+1,h=>by
  have:=mw r b (c:=c) λi d=>h i i6;rw[iq,bR j1];grind
theorem Ia{V:aO}{m:Nat}(r:Row){a:Row}(b:i4 a=m)(j:Nat):∀{c:Nat},(∀i,i<c->i4 (aC V i)=m)->aM (iq V r a c) j=aM a j^^^bT (λi=>aM r i) (λi=>aM (aC V i) j) c
 |0,_=>by simp[iq,bT]
 |c+1,h=>by
  have e:=mw r b (c:=c) λi d=>h i i6;rw[iq,cM j1,Ia r b j (c:=c) λi d=>h i i6,bT];ac_rfl
theorem Ps{V:aO}{m:Nat}(r:Row){a:Row}(b:i4 a=m)(y:Nat->UInt8)(n:Nat):∀{c:Nat},(∀i,i<c->i4 (aC V i)=m)->bT (λj=>aM (iq V r a c) j) y n=bT (λj=>aM a j) y n^^^bT (λi=>aM r i) (λi=>bT (λj=>aM (aC V i) j) y n) c
 |0,_=>by simp[iq,bT]
 |c+1,h=>by
  have e:=mw r b (c:=c) λi d=>h i i6;rw[iq,HY j1,Ps r b y n (c:=c) λi d=>h i i6,bT];ac_rfl
theorem Pt(f g g':Nat->UInt8):∀k,bT f (λi=>g i^^^g' i) k=bT f g k^^^bT f g' k
 |0=>by simp[bT]
 |k+1=>by rw[bT,bT,bT,Pt f g g' k,Gf.kr];ac_rfl
theorem Pu(t:UInt8)(f g:Nat->UInt8):∀k,bT f (λi=>Gf.mul t (g i)) k=Gf.mul t (bT f g k)
 |0=>by simp[bT,Gf.mul_zero]
 |k+1=>by
  rw[bT,bT,Pu t f g k,Gf.kr];rw[<-Gf.mul_assoc,<-Gf.mul_assoc,Gf.mul_comm (f k) t]
theorem Df{n:Nat}(g:Nat->UInt8):∀{l:av},(∀x∈l,0<=x/\x<(n:Int))->l.Nodup->bT (λj=>aM (fT n l) j) g n=di (λc=>g c.toNat) l
 |[],_,_=>by
  rw[di];refine gw _ _ n λj _=>?_;rw[CV [] (λx a=>u5) j];simp
 |c::l,h,hd=>by
  rw[wN]at hd;have e:=h c js;have b:=Df g (l:=l) (λx a=>h x u7) hd.2;have d:bT (λj=>aM (fT n (c::l)) j) g n=bT (λj=>if(j:Int)∈c::l then 1 else 0) g n:=gF n (λj _=>CV _ h j) λ_ _=>rfl;have e2:bT (λj=>aM (fT n l) j) g n=bT (λj=>if(j:Int)∈l then 1 else 0) g n:=gF n (λj _=>CV _ (λx a=>h x u7) j) λ_ _=>rfl;rw[d,di,<-b,e2];rw[HT (f:=λj=>if(j:Int)∈l then 1 else 0) (f':=λj=>if(j:Int)∈c::l then 1 else 0) (c:=c.toNat) (by rw[g9];rw[show((c.toNat:Nat):Int)=c by omega];exact hd.1) (λi=>j1),g0 i6]
  ac_rfl
theorem kernel{nd:Nat}{a:aO}(V:aU nd a)(N:bP a<nd):∃y:Nat->UInt8,(∃i,i<nd/\y i≠0)/\∀r∈a,bT (λj=>aM r j) y nd=0:=by
 have w:=Ph V;obtain⟨K,X,ab,O,S,⟨p,U,Z,p3,W⟩,G⟩:=w;generalize hT:bP a=T at*;generalize (bD a (dF a)).2=rows at*;have s:∃j,j<nd/\∀i,i<T->p i≠j:=by
  have t:∀T nd:Nat,T<nd->∀p:Nat->Nat,(∀i,i<T->p i<nd)->∃j,j<nd/\∀i,i<T->p i≠j:=by
   intro T nd ad p Y;by_cases f:∀j,j<nd->∃i,i<T/\p i=j
   .exfalso;have F:∀j∈qn nd,j∈(qn T).map p:=λj A=>by
     obtain⟨i,l,rfl⟩:=f j (qK.1 A);exact qo.2 ⟨i,qK.2 l,i5⟩
    have:=Ml xo F;simp at this;omega
   .simp only[Classical.not_forall,not_exists,not_and]at f;obtain⟨j,A,h⟩:=f;exact⟨j,A,h⟩
  exact t T nd N p U
 obtain⟨j,A,B⟩:=s;have D:∀i e,i<T->e<T->p i=p e->i=e:=λi e q n h3=>by
  rcases Nat.lt_trichotomy i e with h|h|h
  .have:=W i e h n;omega
  .exact h
  .have:=W e i h q;omega
 let y:Nat->UInt8:=λc=>if c=j then 1 else di (λi=>if p i.toNat=c then aM (aC rows i.toNat) j else 0) ((qn T).map λi:Nat=>(i:Int))
 have hy:∀i,i<T->y (p i)=aM (aC rows i) j:=λi l=>by
  show(if p i=j then 1 else _)=_;rw[g9 (B i l)];have L:((qn T).map λi:Nat=>(i:Int)).Nodup:=by exact List.Pairwise.map _ (λa b h u=>h (Int.ofNat_inj.1 u)) xo
  rw[AW _ L (c:=(i:Int)) (qo.2 ⟨i,qK.2 l,i5⟩),EN,zV]
  .simp
  .intro c o;rw[qB]at o;obtain⟨e,v,rfl⟩:=qo.1 o.1;have E:e≠i:=λu=>by subst u;simp at o
   rw[qj,g9 λu=>E (D e i (qK.1 v) l u)]
 have Q:∀c,c≠j->(∀i,i<T->p i≠c)->y c=0:=λc o Y=>by
  show(if c=j then 1 else _)=_;rw[g9 o,EN];intro d hd;obtain⟨e,v,rfl⟩:=qo.1 hd;rw[qj,g9 (Y e (qK.1 v))]
 have H:y j=1:=by show(if j=j then 1 else _)=_;rw[g0 rfl]
 refine⟨y,⟨j,A,by rw[H];decide⟩,λr R=>?_⟩;refine Span.lin K (λr=>bT (λc=>aM r c) y nd) (gw _ _ nd λc _=>cu _ _) (λc x z q n=>HY i6 c y nd) (λr N=>?_) ((O r).2 (Span.row V R));obtain⟨k,P,rfl⟩:=fD N;by_cases g:k<T
 .--the row's own beginning,and j
  have hf:∀c,c<nd->aM (aC rows k) c=0∨y c=0∨c=p k∨c=j:=λc o=>by
   by_cases q:c=j
   .exact .inr (.inr (.inr q))
   .by_cases n:∃i,i<T/\p i=c
    .obtain⟨i,l,rfl⟩:=n;by_cases J:k=i
     .subst J;exact .inr (.inr (.inl i5))
     .refine .inl ?_;rw[Z i l k P,g9 J]
    .exact .inr (.inl (Q c q λi l u=>n ⟨i,l,u⟩))
  have M:=U k g;have I:aM (aC rows k) (p k)=1:=by rw[Z k g k P,g0 rfl]
  have E:p k≠j:=B k g;have t:∀m,m<=nd->bT (λc=>aM (aC rows k) c) y m=(if p k<m then aM (aC rows k) j else 0)^^^(if j<m then aM (aC rows k) j else 0):=by
   intro m
   induction m with
   |zero=>intro _;simp[bT]
   |succ m ih=>
    intro hm;rw[bT,ih i6];by_cases q:m=p k
    .have ah:m≠j:=i6
     rw[q,I,Gf.one_mul,hy k g];rw[g9 (Nat.lt_irrefl _),g0 (xl _)];by_cases h3:j<p k
     .rw[g0 h3,g0 i6];ac_rfl
     .rw[g9 h3,g9 i6];ac_rfl
    .by_cases n:m=j
     .rw[n,H,Gf.mul_one];rw[g9 (Nat.lt_irrefl j),g0 (xl j),zV];by_cases h3:p k<j
      .rw[g0 h3,g0 i6]
      .rw[g9 h3,g9 i6]
     .have hz:Gf.mul (aM (aC rows k) m) (y m)=0:=by
       rcases hf m i6 with h|h|h|h
       .rw[h,Gf.zero_mul]
       .rw[h,Gf.mul_zero]
       .exact absurd h q
       .exact absurd h n
      rw[hz,zV];have a1:(p k<m+1)↔(p k<m):=i6
      have a2:(j<m+1)↔(j<m):=i6
      simp only[a1,a2]
  rw[t nd (qi _),g0 M,g0 A,nl]
 .exact gw _ _ nd λc o=>G k i6 P c o
def dT(n nd:Nat)(rest:List fP)(W:aO)(left:av)(ahead:aO):aO:=(left.map λi=>dc W (aN nd) (rest.getD i.toNat ([],[])).1)++ahead.map λr=>iq W r (aN nd) n
def gj(n w:Nat)(rest:List fP)(M:aO)(left:av)(ahead:aO):aO:=(left.map λi=>dc M (rest.getD i.toNat ([],[])).2 (rest.getD i.toNat ([],[])).1)++ahead.map λr=>iq M r (aN w) n
def Ac(nd:Nat)(known:List Bool)(vals:aO)(W M D:aO):aO:=vals.mapIdx λc r=>if known.getD c eX then r else iq D (aC W c) (aC M c) nd
def dV(n:Nat)(l:List fP)(ahead:aO):aO:=ahead++l.map λe=>fT n e.1
def iR(w:Nat)(l:List fP)(ahead:aO):aO:=qf ahead.length (aN w)++l.map zw
def at_(X:aO)(k:Nat)(c:Int):UInt8:=aM (aC X c.toNat) k
section
variable {n w:Nat} {l:List fP} {ahead:aO}
theorem AY(b:aU n ahead):aU n (dV n l ahead):=λr a=>by
 rcases qt.1 a with a|a
 .exact b r a
 .obtain⟨e,_,rfl⟩:=qo.1 a;exact oT _ _
theorem AZ(b:∀e∈l,jt n w e):aU w (iR w l ahead):=λr a=>by
 rcases qt.1 a with a|a
 .rw[(w5.1 a).2];simp[aN]
 .obtain⟨e,c,rfl⟩:=qo.1 a;exact(b e c).len
theorem uX:i4 (dV n l ahead)=i4 (iR w l ahead):=by simp[dV,iR]
theorem Dg(o:∀e∈l,jt n w e){X:aO}:gM n w (dV n l ahead) (iR w l ahead) X↔X.length=n/\aU w X/\∀k,k<w->(∀e∈l,Sat 1 k (at_ X k) e)/\∀r∈ahead,bT (λj=>aM r j) (λc=>aM (aC X c) k) n=0:=by
 refine⟨λ⟨h1,h2,h3⟩=>⟨h1,h2,λk q=>⟨λe b=>?_,λr s=>?_⟩⟩,λ⟨h1,h2,h3⟩=>⟨h1,h2,λi f=>?_⟩⟩
 .obtain⟨i,f,rfl⟩:=qA b;have:=h3 (i4 ahead+i) n4;have a:aC (dV n l ahead) (i4 ahead+i)=fT n l[i].1:=by rw[bv n4];simp[dV]
  have e2:aC (iR w l ahead) (i4 ahead+i)=l[i].2:=by rw[bv p9];simp[iR]
  rw[a,e2]at this;have g:=congrArg (λr=>aM r k) this;rw[iw h2 h1 _ k n (qi _),Df _ (o _ b).dh (o _ b).nodup]at g;unfold Sat;rw[Gf.one_mul];exact g
 .obtain⟨i,f,rfl⟩:=qA s;have:=h3 i n4;have a:aC (dV n l ahead) i=ahead[i]:=by rw[bv n4];simp[dV,wY f]
  have e2:aC (iR w l ahead) i=aN w:=by rw[bv p9];simp[iR,f]
  rw[a,e2]at this;have g:=congrArg (λr=>aM r k) this;rw[iw h2 h1 _ k n (qi _),cu]at g;exact g
 .have m:i4 (aC (iR w l ahead) i)=w:=ci (AZ o) (by rw[<-uX (n:=n)];exact f);refine fc (n:=w) (iY h2 h1 _ n (qi _)) m λk q=>?_;rw[iw h2 h1 _ k n (qi _)];simp only[dV,qu,qp]at f;by_cases h:i<i4 ahead
  .have a:aC (dV n l ahead) i=ahead[i]:=by rw[bv n4];simp[dV,wY h]
   have e2:aC (iR w l ahead) i=aN w:=by rw[bv p9];simp[iR,h]
   rw[a,e2,cu]
   grind
  .obtain⟨d,rfl⟩:∃d,i=i4 ahead+d:=⟨i-i4 ahead,i6⟩
   have p:d<i4 l:=i6
   have a:aC (dV n l ahead) (i4 ahead+d)=fT n l[d].1:=by rw[bv n4];simp[dV]
   have e2:aC (iR w l ahead) (i4 ahead+d)=l[d].2:=by rw[bv p9];simp[iR]
   have b:=o _ (qe p);rw[a,e2,Df _ b.dh b.nodup];have:=(h3 k q).1 _ (qe p);unfold Sat at this;rw[Gf.one_mul]at this;exact this
end
structure im (n w:Nat) (l:List fP) (ahead:aO) (known:List Bool) (vals:aO) (dead left:av) (W M:aO):Prop where
 eqs:∀e∈l,jt n w e
 ahd:aU n ahead
 pinv:kE n w l known vals
 calm:lh known vals l=eX
 deadR:∀c∈dead,0<=c/\c<(n:Int)
 deadN:dead.Nodup
 deadK:∀c∈dead,kn known c=eX
 lens:i4 W=n/\M.length=n/\∀c:Nat,c<n->i4 (aC W c)=i4 dead/\(aC M c).length=w
 evKnown:∀t k y,∀c:Int,0<=c->c<(n:Int)->kn known c=eS->ev t k dead.length W M y c=Gf.mul t (aM (aC vals c.toNat) k)
 evDead:∀t k y,∀i,(h:i<i4 dead)->ev t k dead.length W M y dead[i]=y i
 evRest:∀t k y,k<w->(∀i∈left,Sat t k (ev t k dead.length W M y) ((bf known vals l).getD i.toNat ([],[])))->∀e∈bf known vals l,Sat t k (ev t k dead.length W M y) e
 leftR:∀i∈left,0<=i/\i<(i4 (bf known vals l):Int)
 evAll:∀t k x,k<w->(∀c:Int,0<=c->c<(n:Int)->kn known c=eS->x c=Gf.mul t (aM (aC vals c.toNat) k))->(∀e∈bf known vals l,Sat t k x e)->∀c:Int,0<=c->c<(n:Int)->x c=ev t k dead.length W M (λi=>x (dead.getD i 0)) c
section
variable {n w:Nat} {l:List fP} {ahead:aO} {known:List Bool} {vals:aO} {dead left:av} {W M:aO}
theorem pu(h:kE n w l known vals)(c:∀e∈l,jt n w e):∀e∈bf known vals l,jt n w e:=λe d=>by
 obtain⟨b,a,rfl⟩:=qo.1 (qB.1 d).1;exact h.Ce (c b a)
theorem BC{a b:UInt8}:a^^^b=0↔a=b:=pT
theorem im.Pv(S:im n w l ahead known vals dead left W M){i:Int}(o:i∈left)(t:UInt8)(k:Nat)(y:Nat->UInt8):
  bT (λj=>aM (dc W (aN dead.length) ((bf known vals l).getD i.toNat ([],[])).1) j) y dead.length=Gf.mul t (aM (dc M ((bf known vals l).getD i.toNat ([],[])).2 ((bf known vals l).getD i.toNat ([],[])).1) k)↔Sat t k (ev t k dead.length W M y) ((bf known vals l).getD i.toNat ([],[])):=by
 have p:=S.leftR i o;have b:i.toNat<i4 (bf known vals l):=i6
 have f:(bf known vals l).getD i.toNat ([],[])=(bf known vals l)[i.toNat]:=j1
 have a:=pu S.pinv S.eqs _ (qe b);rw[f];generalize (bf known vals l)[i.toNat]=e at*;have h:i4 (aN dead.length)=i4 dead:=lb
 have g:∀c∈e.1,i4 (aC W c.toNat)=i4 dead:=λc d=>((S.lens.2.2 c.toNat) (by have:=a.dh c d;omega)).1;have m:∀c∈e.1,i4 (aC M c.toNat)=w:=λc d=>((S.lens.2.2 c.toNat) (by have:=a.dh c d;omega)).2;have:=KZ h a.len g m t k y;rw[gw _ _ dead.length λj _=>cu _ _,wv]at this;rw[<-BC,this];rw[BC];exact eq_comm
theorem im.Mm(S:im n w l ahead known vals dead left W M)(r:Row)(t:UInt8)(k:Nat)(y:Nat->UInt8):
  bT (λj=>aM (iq W r (aN dead.length) n) j) y dead.length=Gf.mul t (aM (iq M r (aN w) n) k)↔bT (λj=>aM r j) (λc=>ev t k dead.length W M y (c:Int)) n=0:=by
 have d:=Ps (V:=W) (m:=i4 dead) r (a:=aN dead.length) lb y dead.length (c:=n) λi b=>(S.lens.2.2 i b).1;have e:=Ia (V:=M) (m:=w) r (a:=aN w) lb k (c:=n) λi b=>(S.lens.2.2 i b).2;rw[d,e,gw _ _ dead.length λj _=>cu _ _,cu,wv,wv,<-BC,<-Pu,<-Pt];rfl
theorem im.up(S:im n w l ahead known vals dead left W M){t:UInt8}{k:Nat}{y:Nat->UInt8}(f:k<w)
  (d:∀i,i<i4 (dT n dead.length (bf known vals l) W left ahead)->bT (λj=>aM (aC (dT n dead.length (bf known vals l) W left ahead) i) j) y dead.length=Gf.mul t (aM (aC (gj n w (bf known vals l) M left ahead) i) k)):
  (∀e∈l,Sat t k (ev t k dead.length W M y) e)/\∀r∈ahead,bT (λj=>aM r j) (λc=>ev t k dead.length W M y (c:Int)) n=0:=by
 refine⟨(Pk S.pinv S.eqs S.calm f).2 ⟨λc h0 o h=>S.evKnown t k y c h0 o h,S.evRest t k y f λi g=>?_⟩,λr m=>?_⟩
 .obtain⟨j,a,rfl⟩:=qA g;have:=d j n5;have b:aC (dT n dead.length (bf known vals l) W left ahead) j=dc W (aN dead.length) ((bf known vals l).getD left[j].toNat ([],[])).1:=by rw[bv n5];simp[dT,a]
  have e2:aC (gj n w (bf known vals l) M left ahead) j=dc M ((bf known vals l).getD left[j].toNat ([],[])).2 ((bf known vals l).getD left[j].toNat ([],[])).1:=by rw[bv qa];simp[gj,a]
  rw[b,e2]at this;exact(S.Pv g t k y).1 this
 .obtain⟨j,a,rfl⟩:=qA m;have:=d (i4 left+j) n5;have b:aC (dT n dead.length (bf known vals l) W left ahead) (i4 left+j)=iq W ahead[j] (aN dead.length) n:=by rw[bv n5];simp[dT]
  have e2:aC (gj n w (bf known vals l) M left ahead) (i4 left+j)=iq M ahead[j] (aN w) n:=by rw[bv qa];simp[gj]
  rw[b,e2]at this;exact(S.Mm _ t k y).1 this
theorem im.down(S:im n w l ahead known vals dead left W M){t:UInt8}{k:Nat}{x:Int->UInt8}(p:k<w)(z:∀e∈l,Sat t k x e)(A:∀r∈ahead,bT (λj=>aM r j) (λc=>x (c:Int)) n=0):
  (∀c:Int,0<=c->c<(n:Int)->x c=ev t k dead.length W M (λi=>x (dead.getD i 0)) c)/\
  ∀i,i<i4 (dT n dead.length (bf known vals l) W left ahead)->bT (λj=>aM (aC (dT n dead.length (bf known vals l) W left ahead) i) j) (λi=>x (dead.getD i 0)) dead.length=Gf.mul t (aM (aC (gj n w (bf known vals l) M left ahead) i) k):=by
 obtain⟨y,q⟩:=(Pk S.pinv S.eqs S.calm p).1 z;have h:=S.evAll t k x p y q;refine⟨h,λi B=>?_⟩;simp only[dT,qu,qp]at B;by_cases a:i<i4 left
 .have m:aC (dT n dead.length (bf known vals l) W left ahead) i=dc W (aN dead.length) ((bf known vals l).getD left[i].toNat ([],[])).1:=by rw[bv n5];simp[dT,a]
  have e2:aC (gj n w (bf known vals l) M left ahead) i=dc M ((bf known vals l).getD left[i].toNat ([],[])).2 ((bf known vals l).getD left[i].toNat ([],[])).1:=by rw[bv qa];simp[gj,a]
  rw[m,e2];refine(S.Pv (qe a) t k _).2 ?_;have u:=S.leftR _ (qe a);have f:left[i].toNat<i4 (bf known vals l):=i6
  have v:(bf known vals l).getD left[i].toNat ([],[])=(bf known vals l)[left[i].toNat]:=j1
  rw[v];have o:=q _ (qe f);have b:=pu S.pinv S.eqs _ (qe f);unfold Sat at o⊢;rw[<-o];exact lc λc g=>(h c (b.dh c g).1 (b.dh c g).2).symm
 .obtain⟨d,rfl⟩:∃d,i=i4 left+d:=⟨i-i4 left,i6⟩
  have s:d<i4 ahead:=i6
  have m:aC (dT n dead.length (bf known vals l) W left ahead) (i4 left+d)=iq W ahead[d] (aN dead.length) n:=by rw[bv n5];simp[dT]
  have e2:aC (gj n w (bf known vals l) M left ahead) (i4 left+d)=iq M ahead[d] (aN w) n:=by rw[bv qa];simp[gj]
  rw[m,e2];refine(S.Mm _ t k _).2 ?_;rw[<-A _ (qe s)];exact gF n (λ_ _=>rfl) λc g=>(h (c:Int) i6 i6).symm
theorem pZ(S:im n w l ahead known vals dead left W M):aU dead.length (dT n dead.length (bf known vals l) W left ahead)/\aU w (gj n w (bf known vals l) M left ahead):=by
 have d:∀i∈left,jt n w ((bf known vals l).getD i.toNat ([],[])):=λi b=>by
  have h:=S.leftR i b;have e:i.toNat<i4 (bf known vals l):=i6
  rw[qg,qc e];exact pu S.pinv S.eqs _ (qe e)
 constructor
 .intro r a;rcases qt.1 a with a|a
  .obtain⟨i,b,rfl⟩:=qo.1 a;exact kD lb λc f=>((S.lens.2.2 c.toNat) (by have:=(d i b).dh c f;omega)).1
  .obtain⟨x,g,rfl⟩:=qo.1 a;exact mw x lb λi b=>(S.lens.2.2 i b).1
 .intro r a;rcases qt.1 a with a|a
  .obtain⟨i,b,rfl⟩:=qo.1 a;exact kD (d i b).len λc f=>((S.lens.2.2 c.toNat) (by have:=(d i b).dh c f;omega)).2
  .obtain⟨x,g,rfl⟩:=qo.1 a;exact mw x lb λi b=>(S.lens.2.2 i b).2
theorem Ba:i4 (dT n dead.length (bf known vals l) W left ahead)=i4 (gj n w (bf known vals l) M left ahead):=by simp[dT,gj]
theorem im.KW(S:im n w l ahead known vals dead left W M)(N:1<=w)(d:bP (dV n l ahead)=n):bP (dT n dead.length (bf known vals l) W left ahead)=i4 dead:=by
 obtain⟨H,e2⟩:=pZ S;have V:=lP H;by_cases F:bP (dT n dead.length (bf known vals l) W left ahead)<i4 dead
 .exfalso;obtain⟨y,⟨i,b,J⟩,L⟩:=kernel H F;have o:=S.up (t:=0) (k:=0) (y:=y) N λi b=>by rw[L _ (mem_row b),Gf.zero_mul]
  have G:=AY (l:=l) S.ahd;have s:aU 1 (qf (dV n l ahead).length (aN 1)):=λr d=>by rw[(w5.1 d).2];simp[aN]
  have f:i4 (dV n l ahead)=i4 (qf (dV n l ahead).length (aN 1)):=js
  have I:gM n 1 (dV n l ahead) (qf (dV n l ahead).length (aN 1)) (qf n (aN 1)):=by
   have a:aU 1 (qf n (aN 1)):=λr d=>by rw[(w5.1 d).2];simp[aN]
   refine⟨js,a,λi b=>?_⟩;refine fc (n:=1) (iY a js _ n (qi _)) (ci s m6) λk O=>?_;rw[iw a js _ k n (qi _)];have E:aC (qf (dV n l ahead).length (aN 1)) i=aN 1:=by rw[bv m6];simp
   rw[E,cu];have:∀g,g<=n->bT (λj=>aM (aC (dV n l ahead) i) j) (λc=>aM (aC (qf n (aN 1)) c) k) g=0:=by
    intro g
    induction g with
    |zero=>intro _;rfl
    |succ g ih=>
     intro U;have P:aC (qf n (aN 1)) g=aN 1:=by rw[bv jj];simp
     rw[bT,ih i6,P,cu,Gf.mul_zero];rfl
   exact this n (qi _)
  have Q:gM n 1 (dV n l ahead) (qf (dV n l ahead).length (aN 1)) ((qn n).map λc:Nat=>[ev 0 0 dead.length W M y (c:Int)]):=by
   have a:aU 1 ((qn n).map λc:Nat=>[ev 0 0 dead.length W M y (c:Int)]):=λr d=>by obtain⟨c,_,rfl⟩:=qo.1 d;rfl
   have p:∀c:Nat,c<n->aC ((qn n).map λc:Nat=>[ev 0 0 dead.length W M y (c:Int)]) c=[ev 0 0 dead.length W M y (c:Int)]:=λc h=>by rw[bv l0];simp
   refine⟨js,a,λi b=>?_⟩;refine fc (n:=1) (iY a js _ n (qi _)) (ci s m6) λk O=>?_;have D:k=0:=i6
   subst D;rw[iw a js _ 0 n (qi _)];have E:aC (qf (dV n l ahead).length (aN 1)) i=aN 1:=by rw[bv m6];simp
   rw[E,cu];have T:bT (λj=>aM (aC (dV n l ahead) i) j) (λc=>aM (aC ((qn n).map λc:Nat=>[ev 0 0 dead.length W M y (c:Int)]) c) 0) n=bT (λj=>aM (aC (dV n l ahead) i) j) (λc=>ev 0 0 dead.length W M y (c:Int)) n:=
    gF n (λ_ _=>rfl) λc h=>by rw[p c h];rfl
   rw[T];have B:aC (dV n l ahead) i∈ahead++l.map λe=>fT n e.1:=mem_row b;obtain z|z:=qt.1 B
   .exact o.2 _ z
   .obtain⟨e,u,A⟩:=qo.1 z;rw[<-A,Df _ (S.eqs e u).dh (S.eqs e u).nodup];have x:=o.1 e u;unfold Sat at x;rw[Gf.zero_mul]at x;refine Eq.trans (lc λc h=>?_) x;have:=(S.eqs e u).dh c h;rw[show((c.toNat:Nat):Int)=c by omega]
  have u0:=(ms f G s d I).1;have R:=(ms f G s d Q).1;have v:=R.trans u0.symm;have K:=S.deadR _ (qe b);have q:=congrArg (λm=>aM (aC m dead[i].toNat) 0) v;rw[bv jj,bv jj]at q;simp only[List.getElem_map,List.getElem_range,List.getElem_replicate,cu]at q;rw[show((dead[i].toNat:Nat):Int)=dead[i]by omega]at q;have h8:aM [ev 0 0 dead.length W M y dead[i]] 0=ev 0 0 dead.length W M y dead[i]:=rfl;rw[h8,S.evDead 0 0 y i b]at q;exact J q
 .omega
theorem Lb(S:im n w l ahead known vals dead left W M){D:aO}(g:i4 D=i4 dead)(f:aU w D){c:Nat}(d:c<n):
  (aC (Ac dead.length known vals W M D) c).length=w/\∀k,aM (aC (Ac dead.length known vals W M D) c) k=ev 1 k dead.length W M (λi=>aM (aC D i) k) (c:Int):=by
 have j:=S.pinv.vlen;have b:aC (Ac dead.length known vals W M D) c=if known.getD c eX then aC vals c else iq D (aC W c) (aC M c) dead.length:=by unfold Ac;rw[De i6]
 have e:=S.lens.2.2 c d;rw[b];cases hkn:known.getD c eX with
 |true=>
  rw[g0 rfl];refine⟨by have:=S.pinv.row c d;rw[hkn]at this;simpa using this,λk=>?_⟩;have:=S.evKnown 1 k (λi=>aM (aC D i) k) (c:Int) i6 i6 (by unfold kn;rw[qj];exact hkn);rw[this,qj,Gf.one_mul]
 |false=>
  rw[g9 js];have a:∀i,i<i4 dead->i4 (aC D i)=w:=λi h=>ci f;refine⟨mw _ e.2 a,λk=>?_⟩;rw[Ia _ e.2 k a];unfold ev;rw[qj,Gf.one_mul,vu]
theorem aft(h:i4 vals=n){D:aO}:i4 (Ac dead.length known vals W M D)=n:=by simp[Ac,h]
theorem im.VE(S:im n w l ahead known vals dead left W M){D:aO}(p:gM dead.length w (dT n dead.length (bf known vals l) W left ahead) (gj n w (bf known vals l) M left ahead) D):gM n w (dV n l ahead) (iR w l ahead) (Ac dead.length known vals W M D):=by
 obtain⟨b,a,f⟩:=p;obtain⟨u,e2⟩:=pZ S;have h:=aft (dead:=dead) (known:=known) (W:=W) (M:=M) S.pinv.vlen (D:=D);refine(Dg S.eqs).2 ⟨h,λr g=>?_,λk o=>?_⟩
 .obtain⟨c,d,rfl⟩:=fD g;exact(Lb S b a i6).1
 .have m:=S.up (t:=1) (k:=k) (y:=λi=>aM (aC D i) k) o λi s=>by
   have:=congrArg (λr=>aM r k) (f i s);rw[iw a b _ k dead.length (qi _)]at this;rw[this,Gf.one_mul]
  refine⟨λe j=>?_,λr g=>?_⟩
  .have h3:=m.1 e j;unfold Sat at h3⊢;rw[<-h3];refine lc λc d=>?_;have q:=(S.eqs e j).dh c d;unfold at_;rw[(Lb S b a (show c.toNat<n by omega)).2 k,show((c.toNat:Nat):Int)=c by omega]
  .rw[<-m.2 r g];exact gF n (λ_ _=>rfl) λc d=>(Lb S b a d).2 k
theorem im.RP(S:im n w l ahead known vals dead left W M){X:aO}(p:gM n w (dV n l ahead) (iR w l ahead) X):gM dead.length w (dT n dead.length (bf known vals l) W left ahead) (gj n w (bf known vals l) M left ahead) (dead.map λc=>aC X c.toNat):=by
 obtain⟨q,o,h⟩:=(Dg S.eqs).1 p;obtain⟨s,e2⟩:=pZ S;have d:aU w (dead.map λc=>aC X c.toNat):=λr e=>by
  obtain⟨c,g,rfl⟩:=qo.1 e;have:=S.deadR c g;exact ci o
 have a:i4 (dead.map λc=>aC X c.toNat)=i4 dead:=js
 refine⟨a,d,λi m=>fc (n:=w) (iY d a _ _ (qi _)) (ci e2 (by rw[<-Ba (n:=n) (w:=w)];exact m)) λk b=>?_⟩;rw[iw d a _ k dead.length (qi _)];have h3:=(S.down (t:=1) (x:=at_ X k) b (h k b).1 (λr e=>by
  have:=(h k b).2 r e;rw[<-this];exact gF n (λ_ _=>rfl) λc g=>by unfold at_;rw[qj])).2 i m
 rw[Gf.one_mul]at h3;rw[<-h3];refine gF _ (λ_ _=>rfl) λj f=>?_;unfold at_;rw[bv t7,qg,qc f];simp
end
def iL(known:List Bool)(i:Nat):bX:=((qn i).filter λc=>known.getD c eX).map λc:Nat=>[(c:Int)]
theorem Lc(known:List Bool)(i:Nat):iL known (i+1)=iL known i++if known.getD i eX then[[(i:Int)]]else[]:=by
 unfold iL;rw[List.range_succ,]
 grind
theorem DP(known:List Bool)(i:Nat):i4 (iL known i)<=i:=by
 unfold iL
 grind
def rowsOf(R:List fP)(known:List Bool)(n:Nat):bX:=R.map qD++iL known n
def ie(R:List fP)(known:List Bool)(n:Nat):Pl:=fd n (rowsOf R known n)
def nZ(R:List fP)(known:List Bool)(n:Nat):List (Int×Int):=(ie R known n).steps.filter λx=>decide (x.1<i4 R)
def leftOf(R:List fP)(known:List Bool)(n:Nat):av:=(gr (ie R known n).used (rowsOf R known n).length).filter λx=>decide (x<i4 R)
theorem Bb{known:List Bool}{n:Nat}{r:av}(h:r∈iL known n):∃c:Nat,r=[(c:Int)]/\c<n/\known.getD c eX=eS:=by
 obtain⟨c,a,rfl⟩:=qo.1 h
 grind
theorem EV{rows:bX}:∀{a:List (Int×Int)} {D U:Int->Prop},tk rows D U a->∀i c,(i,c)∈a->(0<=i/\i<i4 rows)/\c∈rows.getD i.toNat []
 |[],_,_,_,_,_,h=>j8
 |(i',c')::t,D,U,hg,i,c,h=>by
  obtain⟨d,_,_,e,_,b⟩:=hg;rcases qX.1 h with h|h
  .grind
  .exact EV b i c h
section
variable {n w:Nat} {l:List fP} {ahead:aO} {known:List Bool} {vals:aO}
theorem uY(b:∀e∈bf known vals l,jt n w e):∀r∈rowsOf (bf known vals l) known n,∀c∈r,0<=c/\c<(n:Int):=λr a c f=>by
 rcases qt.1 a with a|a
 .obtain⟨e,g,rfl⟩:=qo.1 a;exact(b e g).dh c f
 .obtain⟨d,rfl,h,_⟩:=Bb a
  grind
theorem Mn(k:∀e∈l,jt n w e)(b:kE n w l known vals):tm ((bf known vals l).map qD) (·∈(ie (bf known vals l) known n).dead) (nZ (bf known vals l) known n):=by
 have j:=pu b k;obtain⟨_,_,_,_,_,g⟩:=Aa (uY j);have:=BB (R:=(bf known vals l).map qD) (S:=iL known n) (K:=λc=>kn known c=eS) (λr a c f=>?_) (λr a c f=>?_) g (D':=(·∈(ie (bf known vals l) known n).dead)) λc _=>Iff.rfl
 .rw[qp]at this;exact this
 .obtain⟨e,m,rfl⟩:=qo.1 a;obtain⟨h,i,rfl⟩:=qo.1 (qB.1 m).1;rw[EP b h c f];simp
 .obtain⟨d,rfl,_,o⟩:=Bb a;unfold kn;grind
theorem Jm(m:∀e∈l,jt n w e)(j:kE n w l known vals):
  (∀c∈(ie (bf known vals l) known n).dead,0<=c/\c<(n:Int))/\(ie (bf known vals l) known n).dead.Nodup/\(∀c∈(ie (bf known vals l) known n).dead,kn known c=eX)/\
  (∀i∈leftOf (bf known vals l) known n,0<=i/\i<(i4 (bf known vals l):Int))/\(ie (bf known vals l) known n).dead.length<=n:=by
 have k:=pu j m;obtain⟨o,q,a3,a4,a5,g⟩:=Aa (uY k);refine⟨a3,a4,λc h=>?_,λi a=>?_,by unfold ie;omega⟩
 .have f:=a3 c h;cases hk:kn known c with
  |false=>rfl
  |true=>
   exfalso;have b:[c]∈rowsOf (bf known vals l) known n:=qt.2 (.inr (qo.2 ⟨c.toNat,qB.2 ⟨qK.2 i6,hk⟩,j1⟩));exact Dc b n (qf n eS) (qf _ eX) (λi a=>by rw[ES]at a;cases a) (λd p b=>by have:=a3 d b;omega) f.1 h
 .unfold leftOf at a;rw[qB]at a;have:=a5 i a.1
  grind
theorem abX(q:∀e∈l,jt n w e)(p:kE n w l known vals){c:Int}(h0:0<=c)(t:c<(n:Int))(b:kn known c=eX):c∈(ie (bf known vals l) known n).dead∨∃i,(i,c)∈nZ (bf known vals l) known n:=by
 have j:=pu p q;obtain⟨_,_,_,_,_,g⟩:=Aa (uY j);have a:=EU (uY j) n (qf n eS) (qf (rowsOf (bf known vals l) known n).length eX) js js c.toNat j1;rw[show((c.toNat))=c by omega]at a;rcases a with a|⟨i,a⟩
 .exact .inl a
 .refine .inr ⟨i,qB.2 ⟨a,?_⟩⟩;obtain⟨s,h⟩:=EV g i c a;by_cases r:i<(i4 (bf known vals l))
  .simpa using r
  .have o:=s.2;rw[rowsOf,]at o;have k:(rowsOf (bf known vals l) known n).getD i.toNat []∈iL known n:=by rw[rowsOf,qg,qk nq,qc j1];simp
   obtain⟨d,m,_,f⟩:=Bb k;rw[m,qw]at h;subst h;unfold kn at b;rw[qj,f]at b;cases b
def NX(n w:Nat)(known:List Bool)(vals:aO)(R:List fP):aO×aO:=
 iV (ie R known n).dead.length known vals ((nZ R known n).foldl (iz R (ie R known n).dead.length) (gG n (ie R known n).dead.length w (ie R known n).dead))
theorem abY{nd:Nat}{s:aO×aO}{c:Int}(h0:0<=c)(a:c.toNat<i4 s.1)(b:c.toNat<i4 s.2):
  aC (iV nd known vals s).1 c.toNat=(if kn known c then aN nd else aC s.1 c.toNat)/\aC (iV nd known vals s).2 c.toNat=if kn known c then aC vals c.toNat else aC s.2 c.toNat:=by
 unfold iV kn;exact⟨De a,De b⟩
theorem abZ(L:∀e∈l,jt n w e)(hA:aU n ahead)(u:kE n w l known vals)(S:lh known vals l=eX):
  im n w l ahead known vals (ie (bf known vals l) known n).dead (leftOf (bf known vals l) known n) (NX n w known vals (bf known vals l)).1 (NX n w known vals (bf known vals l)).2:=by
 have K:=pu u L;have Q:=Mn L u;have a:=λc h0 f o=>abX (c:=c) L u h0 f o;obtain⟨H,M,P,f4,Y⟩:=Jm L u;have b:∀j:Nat,j<i4 (bf known vals l)->(∃c,((j:Int),c)∈nZ (bf known vals l) known n)∨(j:Int)∈leftOf (bf known vals l) known n:=λj U=>by
  cases hu:(ie (bf known vals l) known n).used.getD j eX with
  |true=>
   rcases ET n (qf n eS) (qf _ eX) j hu with h|⟨c,h⟩
   .rw[ES]at h;cases h
   .exact .inl ⟨c,qB.2 ⟨h,jj⟩⟩
  |false=>exact .inr (qB.2 ⟨(Db _ _ _).2 ⟨j,i5,by rw[rowsOf,qu,qp];omega,hu⟩,jj⟩)
 have s:∀e∈bf known vals l,∀c∈e.1,kn known c=eX:=λe A c O=>by
  obtain⟨e0,ad,rfl⟩:=qo.1 (qB.1 A).1;exact EP u e0 c O
 unfold NX;obtain⟨R,m⟩:=z6 (bf known vals l)
 rw[<-m]at K Q H M P f4 Y b a s⊢;obtain⟨D,T⟩:=z6 ((ie R known n).dead)
 obtain⟨ST,r⟩:=z6 (nZ R known n)
 rw[<-T,<-r]at Q a;rw[<-r]at b;rw[<-T]at H M P Y;rw[<-T,<-r];obtain⟨dk,du⟩:=La (nd:=i4 D) (w:=w) H M D.length (qi _);rw[List.take_length]at dk du;obtain⟨v,keep,W,I⟩:=HZ K Q dk;generalize ab:ST.foldl (iz R D.length) (gG n D.length w D)=S0 at*;have V:=v.wl;have X:=v.ml;have fr:∀c:Int,0<=c->c<(n:Int)->aC (iV D.length known vals S0).1 c.toNat=(if kn known c then aN D.length else aC S0.1 c.toNat)/\aC (iV D.length known vals S0).2 c.toNat=if kn known c then aC vals c.toNat else aC S0.2 c.toNat:=λc h0 f=>abY h0 i6 i6
 have z:∀t k y (c:Int),0<=c->c<(n:Int)->kn known c=eX->ev t k D.length (iV D.length known vals S0).1 (iV D.length known vals S0).2 y c=ev t k D.length S0.1 S0.2 y c:=λt k y c h0 f o=>by
  have:=fr c h0 f;rw[o]at this;exact Dd this.1 this.2
 have J:∀t k y (c:Int),0<=c->c<(n:Int)->kn known c=eS->ev t k D.length (iV D.length known vals S0).1 (iV D.length known vals S0).2 y c=Gf.mul t (aM (aC vals c.toNat) k):=λt k y c h0 f o=>by
  have:=fr c h0 f;rw[o,g0 rfl,g0 rfl]at this;unfold ev;rw[this.1,this.2,gw _ _ D.length λj _=>cu _ _,wv]
 have F:∀t k y i,(h:i<i4 D)->ev t k D.length (gG n D.length w D).1 (gG n D.length w D).2 y D[i]=y i:=λt k y i h=>by
  have:=du i h h;unfold ev;rw[this.1,this.2,abW h,cu,Gf.mul_zero,zV]
 have E:∀i:Int,0<=i->i<(i4 R:Int)->R.getD i.toNat ([],[])∈R:=λi h0 f=>by
  rw[qg,qc i6];exact qe _
 refine⟨L,hA,u,S,H,M,P,⟨by simp[iV,V],by simp[iV,X],λc O=>?_⟩,J,λt k y i h=>?_,λt k y o G e A=>?_,by rw[<-m];exact f4,λt k x o hx G c h0 f=>?_⟩
 .have h:=fr (c:Int) i6 i6;rw[qj]at h;rw[h.1,h.2];cases o:kn known (c:Int)with
  |true=>
   rw[g0 i5,g0 rfl];refine⟨lb,?_⟩;have:=u.EO (c:=(c:Int)) i6 i6 o
   rwa [qj]at this
  |false=>
   rw[g9 js,g9 js];have:=v.rw_ (c:Int) (a _ i6 i6 o) i6 i6
   rwa [qj]at this
 .have N:=H _ (qe h);rw[z t k y _ N.1 N.2 (P _ (qe h)),<-F t k y i h];exact Dd (keep _ (qe h) N.1).1 (keep _ (qe h) N.1).2
 .rw[<-m]at A G;obtain⟨j,U,rfl⟩:=qA A;have ej:R.getD ((j:Int)).toNat ([],[])=R[j]:=by rw[qj,qg,qc U];rfl
  rcases b j U with⟨c,O⟩|hlf
  .have:=W _ O t k y o;dsimp only at this;rw[ej]at this;unfold Sat at this⊢;rw[<-this];exact lc λd B=>z t k y d ((K _ A).dh d B).1 ((K _ A).dh d B).2 (s _ A d B)
  .have:=G _ hlf
   rwa [ej]at this
 .rw[<-m]at G;cases hkc:kn known c with
  |true=>rw[hx c h0 f hkc,J _ _ _ c h0 f hkc]
  |false=>
   rw[z _ _ _ c h0 f hkc];refine I t k x _ o (λd B Z h3=>?_) (λp hp=>?_) c (a c h0 f hkc) h0 f
   .obtain⟨i,hi,rfl⟩:=qA B;rw[F t k _ i hi,qg,qc hi];rfl
   .have q:p∈nZ R known n:=r▸hp;unfold nZ at q;rw[qB]at q;have Z:p.1<(i4 R:Int):=by simpa using q.2
    have h3:0<=p.1:=by obtain⟨_,_,_,_,_,g⟩:=Aa (rows:=rowsOf R known n) (n:=n) (by rw[m];exact uY (m▸K));exact(EV g p.1 p.2 q.1).1.1
    exact G _ (E _ h3 Z)
end
def uB(n:Nat)(seed:Int)(l:List (Int×Row)):List fP:=l.map λx=>(df n seed x.1,x.2)
def rZ(p:Int×Int×Int)(l:List (Int×Row)):aO:=qf p.2.1.toNat (aN p.2.2.toNat)++l.map zw
structure Bc (p:Int×Int×Int) (x:Int×Row):Prop where
 id:bE x.1=eS
 len:i4 x.2=p.2.2.toNat
theorem afu{n:Nat}(c:1<=n)(d:n<=20)(seed id:Int):(df n seed id).Pairwise (·<·):=by have a:=RJ n seed id;have b:=CT c d seed id;exact(a.and b).imp λ⟨c,d⟩=>i6
section
variable {p:Int×Int×Int} {seed:Int} {l:List (Int×Row)} {n w:Nat}
theorem aho(a:1<=n)(b:n<=20)(h:∀x∈l,Bc p x)(f:p.2.2.toNat=w):∀e∈uB n seed l,jt n w e/\e.1.Pairwise (·<·):=λe i=>by
 obtain⟨x,d,rfl⟩:=qo.1 i;exact⟨⟨λc g=>mf a b g,CT a b seed x.1,by rw[<-f];exact(h x d).len⟩,afu a b seed x.1⟩
theorem VF(b:bB p=eS)(e:(bp p).toNat=n)(c:∀x∈l,Bc p x):dV n (uB n seed l) (bj p.1.toNat p.2.1.toNat)=db p seed (l.map qD):=by
 unfold dV db uB;rw[g0 b,e];have:(l.map qD).filter bE=l.map qD:=wA.2 λi d=>by
  obtain⟨x,a,rfl⟩:=qo.1 d;exact(c x a).id
 rw[this,yf,yf];rfl
theorem VG(a:p.2.2.toNat=w):iR w (uB n seed l) (bj p.1.toNat p.2.1.toNat)=rZ p l:=by unfold iR rZ uB;rw[a,];simp[bj]
end
section
variable {n w:Nat} {l:List fP} {ahead:aO} {known:List Bool} {vals:aO} {dead left:av} {W M:aO}
theorem Yw(b:∀e∈l,jt n w e)(f:aU n ahead)(d:kE n w l known vals)(a:lh known vals l=eS)(g:bP (dV n l ahead)=n):¬lI n (dV n l ahead) (iR w l ahead):=λh=>by
 obtain⟨k,j,c⟩:=VC d b a;have i:=pU uX (AY f) (AZ b) g h;exact c _ (((Dg b).1 i).2.2 k j).1
theorem im.TY(S:im n w l ahead known vals dead left W M)(a:bP (dV n l ahead)=n){D:aO}(b:gM dead.length w (dT n dead.length (bf known vals l) W left ahead) (gj n w (bf known vals l) M left ahead) D):
  lI n (dV n l ahead) (iR w l ahead)/\Ac dead.length known vals W M D=gQ n (dV n l ahead) (iR w l ahead):=by
 have h:=ms uX (AY S.ahd) (AZ S.eqs) a (S.VE b)
 grind
theorem im.TZ(S:im n w l ahead known vals dead left W M)(b:bP (dV n l ahead)=n)(a:lI n (dV n l ahead) (iR w l ahead)):gM dead.length w (dT n dead.length (bf known vals l) W left ahead) (gj n w (bf known vals l) M left ahead) (dead.map λc=>aC (gQ n (dV n l ahead) (iR w l ahead)) c.toNat):=
 S.RP (pU uX (AY S.ahd) (AZ S.eqs) b a)
theorem im.VH(S:im n w l ahead known vals dead left W M)(e:1<=w)(b:bP (dV n l ahead)=n):lI dead.length (dT n dead.length (bf known vals l) W left ahead) (gj n w (bf known vals l) M left ahead)↔lI n (dV n l ahead) (iR w l ahead):=by obtain⟨d,e2⟩:=pZ S;have a:=S.KW e b;exact⟨λc=>(S.TY b (pU Ba d e2 a c)).1,λc=>(ms Ba d e2 a (S.TZ b c)).2⟩
theorem Jn{a b:aO}(h:i4 a=i4 b):gM 0 w a b []↔∀r∈b,r=aN w:=by
 constructor
 .rintro⟨_,_,h3⟩ r c;obtain⟨i,e,rfl⟩:=fD c;exact(h3 i i6).symm
 .intro d;refine⟨i5,λr c=>(by cases c),λi e=>?_⟩;have:aC b i∈b:=mem_row;rw[d _ this];rfl
theorem afv(c:∀e∈l,e.1.Pairwise (·<·)):∀e∈bf known vals l,e.1.Pairwise (·<·):=λe d=>by
 obtain⟨b,a,rfl⟩:=qo.1 (qB.1 d).1;exact(c b a).filter _
theorem Yx:i4 (bf known vals l)<=i4 l:=by
 unfold bf
 grind
theorem Yy{m:Nat}(c:∀e∈l,i4 e.1<=m):∀e∈bf known vals l,i4 e.1<=m:=λe d=>by
 obtain⟨b,a,rfl⟩:=qo.1 (qB.1 d).1;exact Nat.le_trans (List.length_filter_le _ _) (c b a)
end
def VI(r:aL×Bool)(n:Int):aL×(aL×Bool):=if n<=i4 r.1 then(r.1.take n.toNat,(r.1.drop n.toNat,r.2))else([],(r.1,eS))
def ajx(l:aL):Int:=l.foldl (λn x=>n*256+(x.toNat:Int)) 0
def rf(r:aL×Bool)(k:Int):Int×(aL×Bool):=(ajx (VI r k).1,(VI r k).2)
def NY:Nat->aL×Bool->av×(aL×Bool)
 |0,r=>([],r)
 |n+1,r=>if r.2 then([],r)else((rf r 1).1::(NY n (rf r 1).2).1,(NY n (rf r 1).2).2)
def aca(p:Int×Int×Int)(r:aL×Bool):bU×(aL×Bool):=
 let a:=rf r 1;let b:=VI a.2 a.1;let c:=rf b.2 3;let d:=rf c.2 2;let e:=NY (countP p d.1).toNat d.2
 (⟨⟨b.1.toArray⟩,c.1,d.1,e.1⟩,e.2)
def VJ(p:Int×Int×Int):Nat->aL×Bool->List bU×(aL×Bool)
 |0,r=>([],r)
 |n+1,r=>if r.2 then([],r)else((aca p r).1::(VJ p n (aca p r).2).1,(VJ p n (aca p r).2).2)
def VK(b:aL):au×(aL×Bool):=
 let a:=rf (b,eX) 4;let c:=rf a.2 4;let k:=rf c.2 1;let h:=rf k.2 1;let z:=rf h.2 1;let x:=rf z.2 1;let n:=rf x.2 1;let d:=NY n.1.toNat n.2;let o:=rf d.2 1;let e:=VJ (k.1,h.1,z.1) o.1.toNat o.2
 (⟨a.1,c.1,(k.1,h.1,z.1),x.1,d.1,e.1⟩,e.2)
def ahp(b:aL):Option au:=if(VK b).2.2||(decide (i4 b=0)||!decide (b=gE (VK b).1))then eH else dB (VK b).1
end
variable {B:aw} {α:Type} {h0 h:f9} {As:List HP} {e t t2 k by_:Nat} {s:Sl} {f:α->aW} {d:List α} {z:aW}
section
variable {C:Ctx}
theorem Own.Ld(q:C.Ok)(B:bV C.toBX t e k z by_)(G:∃i e2,C.T.get t2=dB i/\i.cv=.slice e2)(j:∀x,i4 (f x)=k)
  (n:Own h e s k f d) (l:∀x,∀c∈f x,c.oneCell'=eS) (i:Nat) (N:i<i4 d) {ty:Nat} {K:Sl->f9->Prop}
  (I:∀h',Own h' e s k f ((d.take i++d.drop (i+1))++d.drop (i4 d-1))->aS (λb=>¬s.on b) h h'->K ⟨s.ptr,i4 d-1,s.cap⟩ h'):
  bI C.P (zo #[t,t2] ty #[.slice s.ptr i s.cap,.slice (if s.cap=i+1 then s.ptr else s.ptr.map (·.add ((i+1)*k))) (s.len-(i+1)) (s.cap-(i+1))]) (.one (.sc .slc)) h K:=by
 obtain⟨O,e2,L,E⟩:=G;have w:C.P.underlying t2=dB (.slice e2):=by have:=q.cv L;rw[E]at this;exact ji this
 have D:=n.len;have g:=n.cap;have A:Seq h (λ_=>True) ⟨if s.cap=i+1 then s.ptr else s.ptr.map (·.add ((i+1)*k)),s.len-(i+1),s.cap-(i+1)⟩ k f (d.drop (i+1)):=Seq.drop (n.seq j λ_ _=>trivial) (i+1) g;obtain⟨v,a⟩:∃v:Sl,v=⟨if s.cap=i+1 then s.ptr else s.ptr.map (·.add ((i+1)*k)),s.len-(i+1),s.cap-(i+1)⟩:=⟨_,rfl⟩
 rw[<-a]at A;have M:(Value.slice (if s.cap=i+1 then s.ptr else s.ptr.map (·.add ((i+1)*k))) (s.len-(i+1)) (s.cap-(i+1)))=.slice v.ptr v.len v.cap:=by rw[a]
 have F:v.len=s.len-(i+1):=by rw[a]
 rw[M];unfold bI zo;simp only[wb,w7,qO];refine aj.bind (aj.always (aF (B.under q)) ?_);refine aj.bind (aj.always (B.size q) ?_);refine aj.bind (aj.always (aF w) ?_);refine aj.bind (aj.pure' ?_);simp only[zh,if_false,yb,if_true];refine aj.bind (aj.pure' ?_);have m:i+v.len<=s.cap:=i6
 rw[g0 m];refine aj.bind (ia j A ?_);rcases n.head with⟨p1,p2,p3⟩|⟨b,rest,p1,p2,p3,p4⟩
 .subst p3;simp at N
 .rw[p1];refine aj.bind ?_;rw[add_eq,wo];have p:d=d.take i++((d.drop i).take (i4 d-1-i)++d.drop (i4 d-1)):=by
   have J:(d.drop i).drop (i4 d-1-i)=d.drop (i4 d-1):=by rw[List.drop_drop];congr 1;omega
   rw[<-J,qy,qy]
  have y:((d.drop i).take (i4 d-1-i)).length=i4 d-1-i:=jj
  have o:i4 (d.drop (i+1))=i4 d-1-i:=jj
  refine fY (e:=e) (pre:=(d.take i).flatMap f) (old:=((d.drop i).take (i4 d-1-i)).flatMap f) (post:=(d.drop (i4 d-1)).flatMap f++rest) ?_ ?_ ?_ ?_ ?_
  .have:(d.take i).flatMap f++((d.drop i).take (i4 d-1-i)).flatMap f++((d.drop (i4 d-1)).flatMap f++rest)=d.flatMap f++rest:=by
    conv=>rhs;rw[p]
    simp only[zb,qm]
   rw[this];exact p2
  .rw[dX j,dX j,y,o]
  .rw[dX j,qH,Nat.min_eq_left i6];omega
  .intro c H;obtain⟨x,_,u⟩:=zM.1 H;exact l x c u
  .have r:i+v.len=i4 d-1:=i6
   rw[r];refine aj.pure' ⟨⟨dB ⟨b,0,eH⟩,i4 d-1,s.cap⟩,i5,?_⟩;rw[<-p1];refine I _ ⟨?_,.inr ⟨b,rest,p1,?_,p3,p4⟩⟩ ?_
   .simp;omega
   .rw[iX p2,g0 rfl];simp[zb]
   .exact aS.jk p2 (λr=>r ⟨0,p1⟩)
theorem aa.Ld(p:C.Ok)(H:aa B h0 h As)(j:Nat)(m:As[j]?=dB (aq e s k f d))(v:bV C.toBX t e k z by_)(o:∃i e2,C.T.get t2=dB i/\i.cv=.slice e2)(r:∀x,i4 (f x)=k)
  (a:∀x,∀c∈f x,c.oneCell'=eS) (i:Nat) (w:i<i4 d) {ty:Nat} {K:Sl->f9->Prop}
  (u:∀h',aa B h0 h' (As.set j (aq e s k f ((d.take i++d.drop (i+1))++d.drop (i4 d-1))))->K ⟨s.ptr,i4 d-1,s.cap⟩ h'):
  bI C.P (zo #[t,t2] ty #[.slice s.ptr i s.cap,.slice (if s.cap=i+1 then s.ptr else s.ptr.map (·.add ((i+1)*k))) (s.len-(i+1)) (s.cap-(i+1))]) (.one (.sc .slc)) h K:=
 (H.own j m).Ld p v o r a i w λh' x y=>u h' (H.step j m λq n _=>⟨y.mono λb _ g l=>g (n.2 b l),x,λb g=>⟨x.lt g,.inl (n.2 b g)⟩⟩)
end
variable {P:Program}
theorem eq_int{t:TypeId}{k:IntKind}(c:P.underlying t=dB (.int k))(d:Nat)(a b:Int):aH P (Op.equalIn (d+1) t (xU ka a) (xU ka b)) (a==b):=λw=>by
 simp[Op.equalIn,underlying,c]
theorem uZ{t:TypeId}(c:aH P (isAgg t) eX){a:Array fz}{off:Nat}{v:fz}(b:a[off]?=dB v):aH P (part t a off) v:=by refine c.bind ?_;simp only[b];exact .pure
structure tZ (P:Program) (t it:TypeId):Prop where
 u:∃f0 f1 f2:Field,P.underlying t=dB (.struct #[f0,f1,f2])/\f0.name≠ "_" /\f1.name≠ "_" /\f2.name≠ "_" /\f0.type=it/\f1.type=it/\f2.type=it/\f0.offset=0/\f1.offset=1/\f2.offset=2
 st:P.stoodInHeld t=eX
 i:P.underlying it=dB (.int .i64)
 a:aH P (isAgg it) eX
abbrev ou(x:Int×Int×Int):fz:=.agg #[xU ka x.1,xU ka x.2.1,xU ka x.2.2]
theorem tZ.eq{t c:TypeId}(K:tZ P t c)(d:Nat)(x y:Int×Int×Int):aH P (Op.equalIn (d+2) t (ou x) (ou y)) (decide (x=y)):=by
 obtain⟨M,Q,H,S,L,n1,n2,t0,R,t2,q,G,s⟩:=K.u;have m:∀z:Int×Int×Int,aH P (part c #[xU ka z.1,xU ka z.2.1,xU ka z.2.2] 0) (xU ka z.1):=λz=>uZ K.a i5;have n:∀z:Int×Int×Int,aH P (part c #[xU ka z.1,xU ka z.2.1,xU ka z.2.2] 1) (xU ka z.2.1):=λz=>uZ K.a i5;have o:∀z:Int×Int×Int,aH P (part c #[xU ka z.1,xU ka z.2.1,xU ka z.2.2] 2) (xU ka z.2.2):=λz=>uZ K.a i5;refine(aF S).bind ?_;refine aH.bind (v:=P) (λw=>k8) ?_;rw[g9 (by rw[K.st];decide)];have B:∀(f:Field) (off:Nat) (a b:Int),f.name≠ "_" ->f.type=c->f.offset=off->aH P (part c #[Value.int .i64 x.1,xU ka x.2.1,xU ka x.2.2] off) (xU ka a)->aH P (part c #[Value.int .i64 y.1,xU ka y.2.1,xU ka y.2.2] off) (xU ka b)->
   aH P (do
    if f.name≠ "_" then
     let u<-part f.type #[Value.int .i64 x.1,xU ka x.2.1,xU ka x.2.2] f.offset;let v<-part f.type #[Value.int .i64 y.1,xU ka y.2.1,xU ka y.2.2] f.offset;let r<-Op.equalIn (d+1) f.type u v
     if(!r)=eS then pure (ForInStep.done (dB eX,()))else pure (ForInStep.yield ((eH),()))
    else pure (ForInStep.yield (eH,()))) (if a=b then ForInStep.yield (eH,())else ForInStep.done (dB eX,())):=λf off a b E J A N O=>by
  rw[g0 E,J,A];refine N.bind (O.bind ((eq_int K.i d a b).bind ?_));by_cases h:a=b
  .subst h;simp only[beq_self_eq_true,];exact .pure
  .have:(a==b)=eX:=j1
   rw[this,g9 h];exact .pure
 have e:=B M 0 _ _ L t0 q (m x) (m y);have g:=B Q 1 _ _ n1 R G (n x) (n y);have j:=B H 2 _ _ n2 t2 s (o x) (o y);obtain⟨F,D,x2⟩:=x;obtain⟨p,I,T⟩:=y;by_cases h0:F=p
 .rw[g0 h0]at e;by_cases l:D=I
  .rw[g0 l]at g;by_cases k:x2=T
   .rw[g0 k]at j;rw[hU j1];exact aH.bind (e.bind (g.bind (j.bind .pure))) .pure
   .rw[g9 k]at j;rw[ii (by simp[k])];exact aH.bind (e.bind (g.bind (j.bind .pure))) .pure
  .rw[g9 l]at g;rw[ii (by simp[l])];exact aH.bind (e.bind (g.bind .pure)) .pure
 .rw[g9 h0]at e;rw[ii (by simp[h0])];exact aH.bind (e.bind .pure) .pure
theorem tZ.check{t c:TypeId}(K:tZ P t c)(b:Bool)(n:Nat)(x:Int×Int×Int):aH P (vX b (n+2) t (ou x)) ():=by
 obtain⟨q,s,l,w,p,n1,n2,t0,v,t2,e,k,g⟩:=K.u;refine(aF w).bind ?_;have B:∀(f:Field) (off:Nat) (a:Int),f.name≠ "_" ->f.type=c->f.offset=off->aH P (part c #[Value.int .i64 x.1,xU ka x.2.1,xU ka x.2.2] off) (xU ka a)->
   aH P (do
    if f.name≠ "_" then
     let u<-part f.type #[Value.int .i64 x.1,xU ka x.2.1,xU ka x.2.2] f.offset
     vX b (n+1) f.type u
     pure (ForInStep.yield PUnit.unit)
    else pure (ForInStep.yield PUnit.unit)) (ForInStep.yield PUnit.unit):=λf off a j o h r=>by
  rw[g0 j,o,h];exact r.bind ((OF K.i n).bind .pure)
 have m:=B q 0 _ p t0 e (uZ K.a i5);have y:=B s 1 _ n1 v k (uZ K.a i5);have d:=B l 2 _ n2 t2 g (uZ K.a i5);exact aH.bind (m.bind (y.bind (d.bind .pure))) .pure
theorem tZ.ask{t m:TypeId}(K:tZ P t m)(x:Int×Int×Int):∀(L:List MapEntry) (a:List (Int×Int×Int)) (i:Nat),L.map (λe=>(e.key,e.val))=a.map (λk=>(ou k,Value.bool eS))->
  (x∉a->aH P (yL t (ou x) L i) eH)/\(x∈a->∃j,a[j]?=dB x/\aH P (yL t (ou x) L i) (dB (i+j,.bool eS)))
 |[],[],i,_=>⟨λ_=>.pure,λh=>j8⟩
 |[],_::_,_,h=>p5
 |_::_,[],_,h=>p5
 |e::L,k::a,i,h=>by
  simp only[zS,List.cons.injEq,Prod.mk.injEq]at h;obtain⟨⟨n,f⟩,h3⟩:=h;obtain⟨l,r⟩:=tZ.ask K x L a (i+1) h3;have c:aH P (Op.equal t (ou x) e.key) (decide (x=k)):=by rw[n];exact K.eq 9998 x k
  by_cases b:x=k
  .rw[hU b]at c;refine⟨λd=>absurd (by rw[b];exact List.mem_cons_self) d,λ_=>⟨0,by rw[b];rfl,?_⟩⟩;unfold yL;refine c.bind ?_;rw[g0 i5,f];exact .pure
  .rw[ii b]at c;refine⟨λd=>?_,λg=>?_⟩
   .unfold yL;refine c.bind ?_;rw[g9 i7];exact l λo=>d (qC _ o)
   .obtain⟨j,q,p⟩:=r (by rcases qX.1 g with h|h;exact absurd h b;exact h);refine⟨j+1,by rw[qO];exact q,?_⟩;unfold yL;refine c.bind ?_;rw[g9 i7,show i+(j+1)=i+1+j by omega];exact p
theorem tZ.find{t n:TypeId}(K:tZ P t n)(x:Int×Int×Int)(L:List MapEntry)(c:List (Int×Int×Int))(h:L.map (λe=>(e.key,e.val))=c.map λk=>(ou k,Value.bool eS)):
  (x∉c->aH P (vI t (ou x) L) eH)/\(x∈c->∃j,c[j]?=dB x/\aH P (vI t (ou x) L) (dB (j,.bool eS))):=by
 obtain⟨s,w,r,q,_⟩:=K.u;obtain⟨l,o⟩:=K.ask x L c 0 h;have a:∀v,aH P (yL t (ou x) L 0) v->aH P (vI t (ou x) L) v:=λv d=>by
  unfold vI;refine(aF q).bind ?_;cases L with
  |nil=>
   have:v=eH:=by
    have b:=d (default:World);unfold yL at b;have g:(pure eH:Sem (Option (Nat×fz))).run P (default:World)=.ok eH default:=rfl;rw[g]at b;injection b with b
    exact b.symm
   rw[this];exact .pure
  |cons e L=>exact d
 refine⟨λm=>a _ (l m),λi=>?_⟩;obtain⟨j,p,f⟩:=o i;rw[wo]at f;exact⟨j,p,a _ f⟩
structure rh (h:f9) (r:Nat) (ks:List (Int×Int×Int)):Prop where
 ex:∃es clock,h[r]?=dB (.map es clock)/\es.toList.map (λe=>(e.key,e.val))=ks.map (λk=>(ou k,Value.bool eS))
theorem rh.ac{h h':f9}{r:Nat}{b:List (Int×Int×Int)}{p:aw}(g:rh h r b)(i:aS p h h')(f:p r):rh h' r b:=by obtain⟨c,a,d,e⟩:=g.ex;exact⟨c,a,i.block f d,e⟩
theorem rh.lt{h:f9}{r:Nat}{c:List (Int×Int×Int)}(d:rh h r c):r<h.size:=by obtain⟨e,a,b,f⟩:=d.ex;exact lt_of_block b
theorem Pw{t:Nat}{h:f9}{K:Option Nat->f9->Prop}(a:∀r h',r=h.size->rh h' r []->aS (λ_=>True) h h'->K (dB r) h'):
  bI P (vF t eH) (.one (.sc .mp)) h K:=by
 unfold bI vF;refine aj.bind (aj.nO (aj.pure' ⟨dB h.size,i5,a _ _ i5 ⟨#[],0,js,i5⟩ (aS.push _ _ _)⟩))
theorem rh.lookup{h:f9}{r:Nat}{c:List (Int×Int×Int)}{t f e m:Nat}{x:Int×Int×Int}(i:rh h r c)(n:P.underlying t=dB (.map f e))(K:tZ P f m)(l:aH P (zeroValue e) (.bool eX))
  {C:Bool->f9->Prop} (a:C (decide (x∈c)) h):bI P (xD t (.map (dB r)) (ou x) eX) (.one (.sc .bool)) h C:=by
 obtain⟨s,d,o,g⟩:=i.ex;unfold bI xD;refine aj.bind (aj.always (aF n) ?_);refine aj.bind (aj.uP o (λ_ _ _ h=>j8) ?_);refine aj.bind (aj.pure' ?_);refine aj.bind (aj.always (K.check _ 9998 x) ?_);obtain⟨q,k⟩:=K.find x s.toList c g;by_cases b:x∈c
 .obtain⟨j,u,p⟩:=k b;refine aj.bind (aj.always p ?_);refine aj.bind (aj.pure' (aj.pure' ?_));rw[hU b]at a;exact⟨eS,i5,a⟩
 .refine aj.bind (aj.always (q b) ?_);refine aj.bind (aj.always l ?_);refine aj.bind (aj.pure' (aj.pure' ?_));rw[ii b]at a;exact⟨eX,i5,a⟩
theorem rh.update{h:f9}{r:Nat}{c:List (Int×Int×Int)}{t u y A:Nat}{x:Int×Int×Int}(w:rh h r c)(B:P.underlying t=dB (.map u y))(K:tZ P u A)
  {C:Unit->f9->Prop} (s:∀h',rh h' r (if x∈c then c else c++[x])->aS (·≠r) h h'->h'.size=h.size->C () h'):
  aj P (yj t (.map (dB r)) (ou x) (.bool eS)) h C:=by
 obtain⟨a,n,g,d⟩:=w.ex;have q:=lt_of_block g;unfold yj;refine aj.bind (aj.always (aF B) ?_);refine aj.bind (aj.uP g (λ_ _ _ h=>j8) ?_);refine aj.bind (aj.always (K.check _ 9998 x) ?_);have ac:∀o,aS (·≠r) h (h.setIfInBounds r o):=λo=>aS.jk g λD=>D i5;obtain⟨H,z⟩:=K.find x a.toList c d;by_cases m:x∈c
 .obtain⟨j,v,G⟩:=z m;refine aj.bind (aj.always G ?_);have I:i4 a.toList=i4 c:=by have:=congrArg vw d;simpa using this
  have k:j<i4 a.toList:=by rw[I];exact(ql.1 v).1
  have b:(a.toList[j]).key=ou x/\(a.toList[j]).val=.bool eS:=by
   have h3:=congrArg (λl=>l[j]?) d;simp only[qR,v,qc k,qW]at h3;injection h3 with h3
   injection h3 with h4 h5
   exact⟨h4,h5⟩
  have F:a[j]?=dB a.toList[j]:=by rw[<-yO,qc k]
  dsimp only;rw[F];simp only[qW,xp,b.1];refine aj.bind ?_;unfold Instr.keyThatStays;have E:xJ 10000 (ou x) (ou x)=eS:=by simp[xJ]
  rw[E,g0 rfl];refine aj.pure' ?_;refine aj.uQ g (λ_ _ _ h=>j8) ?_;refine s _ ⟨_,_,by rw[zZ,g0 i5,g0 q],?_⟩ (ac _) js;rw[g0 m,<-d,xA];apply List.ext_getElem?;intro i;rw[qR,qR];by_cases f:j=i
  .subst f;have p:(a.toList.modify j λe=>⟨ou x,.bool eS,e.born⟩)[j]?=dB ⟨ou x,.bool eS,a.toList[j].born⟩:=by rw[List.getElem?_modify,qc k];simp
   show Option.map _ (List.modify a.toList j λe=>⟨ou x,.bool eS,e.born⟩)[j]?=_;rw[p,qc k];simp only[qW,b.1,b.2]
  .rw[List.getElem?_modify];simp[f]
 .refine aj.bind (aj.always (H m) ?_);refine aj.uQ g (λ_ _ _ h=>j8) ?_;refine s _ ⟨_,_,by rw[zZ,g0 i5,g0 q],?_⟩ (ac _) js;rw[g9 m];simp[d]
def Ib(r:Nat)(a:List (Int×Int×Int)):HP:=⟨λh q=>rh h r a/\q r,λx b=>⟨x.1.ac b x.2,x.2⟩,λx c=>⟨x.1,c _ x.2⟩⟩
variable {p q:aw} {v:Sl} {l l2:List α}
section
variable {C:Ctx}
end
section
variable {C:Ctx}
theorem VL(b:C.Ok)(c:bV C.toBX t e k z by_)(n:Nat){x y:Int}(f:x=n)(d:y=n)(g:n<=s.cap){K:Sl->f9->Prop}(j:K ⟨s.ptr,n,n⟩ h):
  bI C.P (Instr.sliceAt t (.slice s.ptr s.len s.cap) eH (dB (xU ka x)) (dB (xU ka y))) (.one (.sc .slc)) h K:=by
 subst f;subst d;have i:aH C.P (z7 eS s.len s.cap eH (dB (xU ka (n))) (dB (xU ka (n)))) (0,n,n):=λw=>by
  have x3:(n)<=(s.cap):=i6
  simp[z7,Instr.sliceBound,asIntOf,x3,]
 refine aj.bind (aj.always (aF (c.under b)) ?_);refine aj.bind (aj.always (aF (c.under b)) ?_);refine aj.bind (aj.always i ?_);refine aj.bind (aj.always (c.size b) ?_);have l:(if n=0 then s.ptr else s.ptr.map (·.add (0*k)))=s.ptr:=by
  split
  .rfl
  .cases s.ptr with
   |none=>rfl
   |some a=>simp[Addr.add]
 refine aj.pure' ⟨⟨s.ptr,n,n⟩,?_,j⟩
 grind
end
theorem Yz(a b:ByteArray):(a==b)=decide (a=b):=by
 cases a with
 |mk a=>
  cases b with
  |mk b=>
   have h:((ByteArray.mk a)==(ByteArray.mk b))=(a==b):=rfl
   grind
theorem Ua(a:ByteArray):(a==a)=eS:=by rw[Yz,hU rfl]
theorem aef{a b:ByteArray}(h:a≠b):(a==b)=eX:=by rw[Yz,ii h]
section
def sN(x:ByteArray)(v:α):List (ByteArray×α)->List (ByteArray×α)
 |[]=>[(x,v)]
 |(k,u)::t=>if k=x then(k,v)::t else(k,u)::sN x v t
def cS(x:ByteArray):List (ByteArray×α)->Option α
 |[]=>eH
 |(k,u)::t=>if k=x then dB u else cS x t
def jD(x:ByteArray):List (ByteArray×α)->List (ByteArray×α)
 |[]=>[]
 |(k,u)::t=>if k=x then t else(k,u)::jD x t
theorem Mo{x:ByteArray}{v:α}:∀{l:List (ByteArray×α)},cS x l=dB v->(x,v)∈l
 |[],h=>j8
 |(k,u)::t,h=>by
  unfold cS at h;split at h
  .grind
  .exact qC _ (Mo h)
theorem Jo{x:ByteArray}:∀{l:List (ByteArray×α)},cS x l=eH↔∀p∈l,p.1≠x
 |[]=>by simp[cS]
 |(k,u)::t=>by
  unfold cS;have a:=Jo (x:=x) (l:=t);by_cases h:k=x
  .simp[h]
  grind
theorem EW{x:ByteArray}(v:α):∀{l:List (ByteArray×α)},cS x l=eH->sN x v l=l++[(x,v)]
 |[],_=>rfl
 |(k,u)::t,h=>by
  unfold cS at h;split at h
  .cases h
  .rename_i a;unfold sN;rw[g9 a,EW v h];rfl
theorem Jp{x:ByteArray}:∀{l:List (ByteArray×α)},cS x l=eH->jD x l=l
 |[],_=>rfl
 |(k,u)::t,h=>by
  unfold cS at h;split at h
  .cases h
  .rename_i a;unfold jD;rw[g9 a,Jp h]
structure mV (h:f9) (r:Nat) (g:α->fz) (kvs:List (ByteArray×α)):Prop where
 ex:∃es clock,h[r]?=dB (.map es clock)/\es.toList.map (λe=>(e.key,e.val))=kvs.map (λp=>(Value.string p.1,g p.2))/\∀e∈es.toList,e.born<clock
variable {P:Program} {h h':f9} {r:Nat} {g:α->fz} {kvs:List (ByteArray×α)}
theorem mV.ac{p:aw}(f:mV h r g kvs)(i:aS p h h')(e:p r):mV h' r g kvs:=by obtain⟨b,a,c,d,h3⟩:=f.ex;exact⟨b,a,i.block e c,d,h3⟩
theorem mV.lt(b:mV h r g kvs):r<h.size:=by
 obtain⟨c,a,d,e,h3⟩:=b.ex
 grind
theorem uC{x:ByteArray}:∀{L:List MapEntry} {kvs:List (ByteArray×α)} {n:Nat},L.map (λe=>(e.key,e.val))=kvs.map (λp=>(Value.string p.1,g p.2))->cS x kvs=eH->
  xv .string (.string x) L n=dB eH
 |[],_,_,_,_=>rfl
 |e::L,[],_,h,_=>j1
 |e::L,(k,u)::t,n,h,hg=>by
  simp only[zS,List.cons.injEq,Prod.mk.injEq]at h;obtain⟨⟨b,c⟩,h3⟩:=h;unfold cS at hg;split at hg
  .cases hg
  .rename_i a;have:(x==k)=eX:=aef λe=>a e.symm;simp only[xv,Instr.sameNow,b,this];exact uC h3 hg
theorem uD{x:ByteArray}{u:α}:∀{L:List MapEntry} {kvs:List (ByteArray×α)} {n:Nat},L.map (λe=>(e.key,e.val))=kvs.map (λp=>(Value.string p.1,g p.2))->cS x kvs=dB u->
  ∃j e,xv .string (.string x) L n=dB (dB (n+j,g u))/\L[j]?=dB e/\e.key=.string x/\
   (∀(v:α) (f:MapEntry->MapEntry),(∀e,e.key=Value.string x->((f e).key,(f e).val)=(Value.string x,g v))->(L.modify j f).map (λe=>(e.key,e.val))=(sN x v kvs).map λp=>(Value.string p.1,g p.2))/\
   (L.eraseIdx j).map (λe=>(e.key,e.val))=(jD x kvs).map (λp=>(Value.string p.1,g p.2))
 |[],[],_,_,hg=>by cases hg
 |e::L,[],_,h,_=>j1
 |[],_::_,_,h,_=>j1
 |e::L,(k,w)::t,n,h,hg=>by
  simp only[zS,List.cons.injEq,Prod.mk.injEq]at h;obtain⟨⟨b,c⟩,h3⟩:=h;unfold cS at hg;by_cases a:k=x
  .subst a;rw[g0 rfl]at hg;cases hg;refine⟨0,e,?_,i5,b,λv f d=>?_,?_⟩
   .simp only[xv,Instr.sameNow,b,Ua,c,yc]
   .simp only[sN,if_true,List.modify_zero_cons,zS,h3,d e b]
   .simp only[jD,if_true,List.eraseIdx_cons_zero,h3]
  .rw[g9 a]at hg;obtain⟨j,q,r,i,m,o,l⟩:=uD (n:=n+1) h3 hg;refine⟨j+1,q,?_,i,m,λv f d=>?_,?_⟩
   .have:(x==k)=eX:=aef λe=>a e.symm;simp only[xv,Instr.sameNow,]
    grind
   .simp only[sN,a,if_false,List.modify_succ_cons,zS,o v f d,b,c]
   .simp only[jD,a,if_false,List.eraseIdx_cons_succ,zS,l,b,c]
theorem Ad{a:TypeId}{x:ByteArray}{b:Bool}(c:P.underlying a=dB .string)(n:Nat):aH P (vX b (n+1) a (.string x)) ():=by exact(aF c).bind .pure
theorem Px{t:Nat}{K:Option Nat->f9->Prop}(g:α->fz)(a:∀r h',r=h.size->mV h' r g []->aS (λ_=>True) h h'->K (dB r) h'):
  bI P (vF t eH) (.one (.sc .mp)) h K:=by
 refine aj.bind (aj.nO (aj.pure' ⟨dB h.size,i5,a _ _ i5 ⟨#[],0,js,i5,js⟩ (aS.push _ _ _)⟩))
theorem mV.Py{t k i:Nat}{u0:α}{x:ByteArray}(l:mV h r g kvs)(o:P.underlying t=dB (.map k i))(a:P.underlying k=dB .string)(m:aH P (zeroValue i) (g u0))
  {rt:Rt} {K:rt.den->f9->Prop} (b:∃d:rt.den,Value.tuple #[g ((cS x kvs).getD u0),.bool (cS x kvs).isSome]=rt.enc d/\K d h):
  bI P (xD t (.map (dB r)) (.string x) eS) rt h K:=by
 obtain⟨s,c,p,f,h3⟩:=l.ex;refine aj.bind (aj.always (aF o) ?_);refine aj.bind (aj.uP p (λ_ _ _ h=>j8) ?_);refine aj.bind (aj.pure' ?_);refine aj.bind (aj.always (Ad a 9999) ?_);refine aj.bind (aj.bind (aj.always (aF a) ?_));cases hg:cS x kvs with
 |none=>
  rw[uC f hg];refine aj.pure' ?_;refine aj.bind (aj.always m ?_);refine aj.bind (aj.pure' (aj.pure' ?_));rw[hg]at b;exact b
 |some u=>
  obtain⟨j,e,q,_⟩:=uD (x:=x) (n:=0) f hg;rw[q];refine aj.pure' ?_;refine aj.bind (aj.pure' (aj.pure' ?_));rw[hg]at b;exact b
theorem mV.update{t q A:Nat}{x:ByteArray}(v:α)(w:mV h r g kvs)(D:P.underlying t=dB (.map q A))(a:P.underlying q=dB .string)
  {K:Unit->f9->Prop} (p:∀h',mV h' r g (sN x v kvs)->aS (·≠r) h h'->h'.size=h.size->K () h'):
  aj P (yj t (.map (dB r)) (.string x) (g v)) h K:=by
 obtain⟨l,f,c,i,h3⟩:=w.ex;have m:=lt_of_block c;unfold yj;refine aj.bind (aj.always (aF D) ?_);refine aj.bind (aj.uP c (λ_ _ _ h=>j8) ?_);refine aj.bind (aj.always (Ad a 9999) ?_);unfold vI;refine aj.bind (aj.bind (aj.always (aF a) ?_));have ac:∀o,aS (·≠r) h (h.setIfInBounds r o):=λo=>aS.jk c λE=>E i5;cases hg:cS x kvs with
 |none=>
  rw[uC i hg];refine aj.pure' ?_;refine aj.uQ c (λ_ _ _ h=>j8) ?_;refine p _ ⟨_,_,by rw[zZ,g0 i5,g0 m],?_,?_⟩ (ac _) js
  .rw[EW v hg];simp[i]
  .intro e d;rcases Array.mem_push.1 (Array.mem_toList_iff.1 d)with d|rfl
   .exact Nat.lt_succ_of_lt (h3 e (Array.mem_toList_iff.2 d))
   .exact xl _
 |some u=>
  obtain⟨j,e,G,s,z,B,_⟩:=uD (x:=x) (n:=0) i hg;rw[G];refine aj.pure' ?_;have d:l[0+j]?=dB e:=by rw[wo,<-yO];exact s
  dsimp only;rw[d];simp only[qW,xp,z];refine aj.bind ?_;unfold Instr.keyThatStays;have F:xJ 10000 (.string x) (.string x)=eS:=by simp only[xJ,Ua]
  rw[F,g0 rfl];refine aj.pure' ?_;refine aj.uQ c (λ_ _ _ h=>j8) ?_;refine p _ ⟨_,_,by rw[zZ,g0 i5,g0 m],?_,?_⟩ (ac _) js
  .rw[xA,wo];exact B v _ λ_ _=>rfl
  .intro H b;rw[xA]at b;obtain⟨n,y,rfl⟩:=List.mem_iff_getElem.1 b;rw[List.getElem_modify];have k:n<i4 l.toList:=o6
   have:=h3 l.toList[n] (qe k);split<;>exact this
theorem mV.delete{t m s ty:Nat}{ts:Array TypeId}{x:ByteArray}(p:mV h r g kvs)(i:ts[0]?=dB t)(w:P.underlying t=dB (.map m s))(a:P.underlying m=dB .string)
  {K:tJ} (l:∀h',mV h' r g (jD x kvs)->aS (·≠r) h h'->h'.size=h.size->K (.tuple #[]) h'):
  aj P (vK ts ty #[.map (dB r),.string x]) h K:=by
 obtain⟨D,d,c,f,h3⟩:=p.ex;have k:=lt_of_block c;unfold vK;rw[i];simp only[wb,w7,qO];refine aj.bind (aj.always (aF w) ?_);refine aj.bind ?_;refine aj.uP c (λ_ _ _ h=>j8) ?_;dsimp only;refine aj.bind (aj.always (Ad a 9999) ?_);unfold vI;refine aj.bind (aj.bind (aj.always (aF a) ?_));have ac:∀o,aS (·≠r) h (h.setIfInBounds r o):=λo=>aS.jk c λy=>y i5;cases hg:cS x kvs with
 |none=>
  rw[uC f hg];refine aj.pure' ?_;refine aj.bind (aj.uQ c (λ_ _ _ h=>j8) ?_);refine aj.pure' (l _ ⟨_,_,by rw[zZ,g0 i5,g0 k],?_,h3⟩ (ac _) js);rw[f,Jp hg]
 |some u=>
  obtain⟨j,e,z,A,B,_,q⟩:=uD (x:=x) (n:=0) f hg;rw[z];refine aj.pure' ?_;refine aj.bind (aj.uQ c (λ_ _ _ h=>j8) ?_);refine aj.pure' (l _ ⟨_,_,by rw[zZ,g0 i5,g0 k],?_,?_⟩ (ac _) js)
  .rw[wo,Array.toList_eraseIdxIfInBounds];exact q
  .intro v b;rw[Array.toList_eraseIdxIfInBounds]at b;exact h3 v (List.mem_of_mem_eraseIdx b)
end
def ov{α:Type}(r:Nat)(g:α->fz)(a:List (ByteArray×α)):HP:=
 ⟨λh q=>mV h r g a/\q r,λx b=>⟨x.1.ac b x.2,x.2⟩,λx c=>⟨x.1,c _ x.2⟩⟩
variable {h':f9} {r:Nat} {g:α->fz} {kvs:List (ByteArray×α)}
theorem mV.len{t m f ty:Nat}{ts:Array TypeId}(j:mV h r g kvs)(b:ts[0]?=dB t)(c:P.underlying t=dB (.map m f))
  {K:Int->f9->Prop} (l:K (i4 kvs:Int) h):bI P (vV ts ty #[.map (dB r)]) (.one (.sc (.int .i64))) h K:=by
 obtain⟨d,a,e,i,_⟩:=j.ex;unfold bI vV;rw[b];refine aj.bind (aj.always (aF c) ?_);refine aj.bind (aj.uP e (λ_ _ _ h=>j8) ?_);have k:d.size=i4 kvs:=by have:=congrArg vw i;grind
 refine aj.pure' ⟨(i4 kvs),?_,l⟩;rw[k];rfl
theorem aa.ahq{t:Nat}(H:aa B h0 h As)(g:α->fz){K:Option Nat->f9->Prop}(c:∀r h',aa B h0 h' (As++[ov r g []])->K (dB r) h'):bI P (vF t eH) (.one (.sc .mp)) h K:=
 Px g λr h' d a b=>c r h' (H.comp (.one (any b) ⟨a,i6,a.lt⟩))
theorem aa.map(H:aa B h0 h As)(i:Nat)(a:As[i]?=dB (ov r g kvs)):mV h r g kvs:=(H.at i a).1
theorem aa.ahr{t d k:Nat}{x:ByteArray}(v:α)(H:aa B h0 h As)(i:Nat)(j:As[i]?=dB (ov r g kvs))(m:P.underlying t=dB (.map d k))(a:P.underlying d=dB .string)
  {K:Unit->f9->Prop} (l:∀h',aa B h0 h' (As.set i (ov r g (sN x v kvs)))->K () h'):aj P (yj t (.map (dB r)) (.string x) (g v)) h K:=
 (H.map i j).update v m a λh' c p s=>l h' (H.step i j λq f o=>⟨p.mono λb _ n e=>n (e▸f.2),c,c.lt,.inl f.2⟩)
theorem aa.ahs{t f l ty:Nat}{ts:Array TypeId}{x:ByteArray}(H:aa B h0 h As)(i:Nat)(k:As[i]?=dB (ov r g kvs))(c:ts[0]?=dB t)(n:P.underlying t=dB (.map f l))(a:P.underlying f=dB .string)
  {K:tJ} (m:∀h',aa B h0 h' (As.set i (ov r g (jD x kvs)))->K (.tuple #[]) h'):aj P (vK ts ty #[.map (dB r),.string x]) h K:=
 (H.map i k).delete c n a λh' d s u=>m h' (H.step i k λq j p=>⟨s.mono λb _ o e=>o (e▸j.2),d,d.lt,.inl j.2⟩)
theorem EX{x:ByteArray}{p:ByteArray×α}:∀{l:List (ByteArray×α)},p∈jD x l->p∈l
 |[],h=>j8
 |(k,u)::t,h=>by
  unfold jD at h;split at h
  .grind
  .rcases qX.1 h with h|h
   .grind
   .exact qC _ (EX h)
theorem Jq{x:ByteArray}:∀{l:List (ByteArray×α)},(l.map qD).Nodup->((jD x l).map qD).Nodup/\∀p∈jD x l,p.1≠x
 |[],_=>⟨List.Pairwise.nil,λp h=>j8⟩
 |(k,u)::t,h=>by
  obtain⟨b,d⟩:=wN.1 h;unfold jD;split
  .grind
  .obtain⟨f,g⟩:=Jq (x:=x) d;refine⟨wN.2 ⟨λe=>b ?_,f⟩,λp a=>?_⟩
   .obtain⟨p,a,c⟩:=qo.1 e;exact qo.2 ⟨p,EX a,c⟩
   grind
theorem Mp{x:ByteArray}:∀{l:List (ByteArray×α)},cS x l≠eH->i4 (jD x l)+1=i4 l
 |[],h=>absurd i5 h
 |(k,u)::t,h=>by
  unfold jD;unfold cS at h;split
  .rfl
  .rename_i e;rw[g9 e]at h;rw[q8,q8,Mp h]
theorem Jr{x y:ByteArray}(a:y≠x):∀{l:List (ByteArray×α)},cS y (jD x l)=cS y l
 |[]=>rfl
 |(k,u)::t=>by
  unfold jD;split
  .show cS y t=if k=y then dB u else cS y t
   grind
  .show(if k=y then dB u else cS y (jD x t))=if k=y then dB u else cS y t
   rw[Jr a]
theorem Mq{x y:ByteArray}{v:α}:∀{l:List (ByteArray×α)},cS y (l++[(x,v)])=(cS y l).or (if x=y then dB v else eH)
 |[]=>rfl
 |(k,u)::t=>by
  show(if k=y then dB u else cS y (t++[(x,v)]))=(if k=y then dB u else cS y t).or _;split
  .rfl
  .exact Mq
namespace Gf
def pl(a b:Nat):Nat->Nat
 |0=>0
 |i+1=>if b/2^i%2=1 then pl a b i^^^(a*2^i)else pl a b i
def rd(p:Nat):Nat->Nat
 |0=>p
 |i+1=>if rd p i/2^(15-i)%2=1 then rd p i^^^(283*2^(7-i))else rd p i
theorem Ub(p q i:Nat):(p^^^q)/2^i%2=(p/2^i%2+q/2^i%2)%2:=by
 have h:=Nat.testBit_xor p q i
 grind
theorem nx4(a b c d:Nat):(a^^^b)^^^(c^^^d)=(a^^^c)^^^(b^^^d):=by ac_rfl
theorem acb(x y k i:Nat):(if(x^^^y)/2^i%2=1 then(x^^^y)^^^k else x^^^y)=(if x/2^i%2=1 then x^^^k else x)^^^(if y/2^i%2=1 then y^^^k else y):=by
 rw[Ub];rcases(show x/2^i%2=0∨x/2^i%2=1 by omega)with h|h<;>rcases(show y/2^i%2=0∨y/2^i%2=1 by omega)with h'|h'<;>rw[h,h']<;>simp
 .ac_rfl
 .ac_rfl
 grind
theorem YA(p q:Nat):∀i,rd (p^^^q) i=rd p i^^^rd q i
 |0=>rfl
 |i+1=>by simp only[rd,YA p q i];exact acb _ _ _ _
theorem YB(a b c:Nat):∀i,pl a (b^^^c) i=pl a b i^^^pl a c i
 |0=>by simp[pl]
 |i+1=>by
  simp only[pl,YB a b c i,Ub];rcases(show b/2^i%2=0∨b/2^i%2=1 by omega)with h|h<;>rcases(show c/2^i%2=0∨c/2^i%2=1 by omega)with h'|h'<;>rw[h,h']<;>simp
  .ac_rfl
  .ac_rfl
  grind
def oa(a b:Nat):Nat:=rd (pl a b 8) 8%256
theorem RQ(a b c:Nat):oa a (b^^^c)=oa a b^^^oa a c:=by unfold oa;rw[YB,YA,show 256=2^8 from i5,Nat.xor_mod_two_pow]
theorem mul_two:∀a:UInt8,mul a 2=x2 a:=OK j5
def itx(a:UInt8):Nat->UInt8
 |0=>a
 |k+1=>x2 (itx a k)
theorem pow_two:∀k,k<7->zL (2^(k+1))=mul (zL (2^k)) 2:=j5
theorem mul_pow(a:UInt8):∀k,k<8->mul a (zL (2^k))=itx a k
 |0,_=>mul_one a
 |k+1,h=>by rw[pow_two k i6,<-mul_assoc,mul_pow a k i6,mul_two];rfl
theorem acd:∀n,n<256->∀k,k<8->oa n (2^k)=(itx (zL n) k).toNat:=j5
theorem YC:∀k,k<8->∀b,b<256->b<2^(k+1)->2^k<=b->b=(b-2^k)^^^2^k/\zL b=zL (b-2^k)^^^zL (2^k):=j5
theorem Ic(a:UInt8):∀k,k<=8->∀b,b<2^k->oa a.toNat b=(mul a (zL b)).toNat
 |0,_,b,hb=>by
  have:b=0:=by simpa using hb
  subst this;have h0:∀n,n<256->oa n 0=0:=j5
  rw[h0 _ (zR a)];show 0=(mul a 0).toNat;rw[mul_zero];rfl
 |k+1,h,b,hb=>by
  have h8:2^(k+1)<=2^8:=yA i7 h;by_cases d:b<2^k
  .exact Ic a k i6 b d
  .have c:=YC k i6 b i6 hb i6;rw[c.2,kr]
   conv=>lhs;rw[c.1]
   rw[RQ,Ic a k i6 (b-2^k) i6,acd _ (zR a) k i6,wV,mul_pow a k i6];rfl
theorem VM(a b:UInt8):oa a.toNat b.toNat=(mul a b).toNat:=by
 have:=Ic a 8 (qi _) b.toNat (zR b)
 rwa [wV]at this
theorem VN(a b:Nat)(e:a<256):∀i,i<=8->pl a b i<2^16
 |0,_=>by simp[pl]
 |i+1,h=>by
  have c:=VN a b e i i6;have d:a*2^i<2^16:=by have:2^i<=2^7:=yA i7 i6;have:=zK (Nat.le_of_lt_succ (show a<255+1 by omega)) this;omega
  rw[pl];split
  .exact Nat.xor_lt_two_pow c d
  .exact c
theorem aeg(p:Nat)(b:p<2^16):∀i,i<=8->rd p i<2^16
 |0,_=>b
 |i+1,h=>by
  have a:=aeg p b i i6;have c:283*2^(7-i)<2^16:=by have:2^(7-i)<=2^7:=yA i7 i6;have:=zK (qi 283) this;omega
  rw[rd];split
  .exact Nat.xor_lt_two_pow a c
  .exact a
theorem YD:∀a:UInt8,mul a 3=x3 a:=OK j5
theorem VO{a b:UInt8}(h:mul a b=1):b=inv a:=by
 have c:a≠0:=λe=>by rw[e,zero_mul]at h;cases h
 have:=congrArg (mul (inv a)) h;rw[<-mul_assoc,mul_comm (inv a) a,Cd c,one_mul,mul_one]at this;exact this
end Gf
abbrev oY:=Int×Sl×Sl×Int×Int×Int×Sl×Int
abbrev fI(y:oY):aW:=[xU ka y.1,.slice y.2.1.ptr y.2.1.len y.2.1.cap,.slice y.2.2.1.ptr y.2.2.1.len y.2.2.1.cap,xU ka y.2.2.2.1,xU ka y.2.2.2.2.1,xU ka y.2.2.2.2.2.1,.slice y.2.2.2.2.2.2.1.ptr y.2.2.2.2.2.2.1.len y.2.2.2.2.2.2.1.cap,xU ka y.2.2.2.2.2.2.2]
abbrev nw(y:oY):fz:=.agg (fI y).toArray
abbrev cZ:Sl:=⟨eH,0,0⟩
abbrev de(e:Int):oY:=(e,cZ,cZ,0,0,0,cZ,0)
variable {P:Program}
variable {α:Type} {B:aw} {h0 h h':f9} {As:List HP} {r m:Nat} {g:α->fz} {kvs:List (ByteArray×α)} {n:Nat} {st:Bool}
structure ajY (h:f9) (r m:Nat) (g:α->fz) (kvs:List (ByteArray×α)) (n:Nat) (st:Bool):Prop where
 ex:∃es clock seen,h[m]?=dB (.map es clock)/\es.toList.map (λe=>(e.key,e.val))=kvs.map (λp=>(Value.string p.1,g p.2))/\(∀e∈es.toList,e.born<clock)/\h[r]?=dB (.mapIter (dB m) clock seen clock)/\(es.filter λe=>!seen.contains e.born).size=n/\(st=eS->∃e∈es.toList,seen.back?=dB e.born)
variable {t e e2:Nat}
section
variable {C:Ctx}
theorem aa.b2b(n:C.Ok)(H:aa B h0 h As)(i:Nat){s:Sl}{x:UInt8}{l:aL}(v:As[i]?=dB (aq e s 1 aB (x::l)))(F:∃i,C.T.get t=dB i/\i.cv=.slice e2)(L:∃i,C.T.get e2=dB i/\i.cv=.int .u8)
  {K:Sl->f9->Prop} (E:∀h',aa B h0 h' (As.set i (tO s 1 aB (x::l)))->K s h'):bI C.P (convert t t (.slice s.ptr s.len s.cap)) (.one (.sc .slc)) h K:=by
 obtain⟨S,I,w⟩:=F;obtain⟨i3,a3,J⟩:=L;have u:C.P.underlying t=dB (.slice e2):=by have:=n.cv I;rw[w]at this;exact ji this
 have u3:C.P.underlying e2=dB (.int .u8):=by have:=n.cv a3;rw[J]at this;exact BZ this
 have z:Own h e s 1 aB (x::l):=H.own i v;rcases z.head with⟨_,_,h1⟩|⟨b,rest,hp,hb,_,_⟩
 .cases h1
 refine aj.bind (aj.always (aF u) ?_);refine aj.bind (aj.always (aF u) ?_);have o:∀N:Sl,N.ptr=dB ⟨b,0,eH⟩->(.slice s.ptr s.len s.cap:fz)=.slice (dB ⟨b,0,eH⟩) s.len s.cap:=λ_ _=>by rw[hp]
 rw[o s hp];refine aj.bind (aj.always (aF u3) ?_);rw[beq_self_eq_true];obtain⟨a,d⟩:=z6 (((x::l).flatMap aB++rest).toArray)
 rw[<-d]at hb;have g:shapeOf h b=dB (e,a.size):=by unfold shapeOf;rw[hb]
 refine aj.bind (aj.bind (aj.XC ?_));rw[g];refine aj.LY (c:=a) (e:=e) hb i5 λh' G R r=>?_;refine aj.pure' ⟨s,(o s hp).symm,E _ (H.step i v λq p M=>?_)⟩;have m:q b:=p.2 b ⟨0,hp⟩;obtain⟨f,r⟩:=r;refine⟨⟨j1,λc _ A=>G c λe=>A j1⟩,p.1.len,λj y D=>⟨b,0,hp,⟨j1,.inl m⟩,?_⟩⟩;obtain⟨pre,post,Q,O⟩:=CH (f:=aB) (k:=1) (λ_=>rfl) (x::l) j y D;refine sH (e:=e) (fr:=f) (pre:=pre) (post:=post++rest) ?_ i6
 grind
end
section
open Go.RowKit Go.ChangeShapes Go.WideShapes Go.Joins Go.Deep
section
variable {H:Type} {enc:TypeId×fz->H} {P:Program} {W W':World}
theorem ace{w w':World}(a:dC w w')(c:aS (λb=>b<w.heap.size) w.heap w'.heap):Below w.heap.size w w':=
 ⟨a.os,a.tape,a.output,c.1,λk d=>c.2 k d d⟩
theorem DQ(f:laidOutB P=eS)(g:Below W.heap.size W W'):∀{ts:List TypeId} {vs:aW} {ds:List (DataW H)} {a:List MemPlace},
  (∀t∈ts,P.readableRec t=eS/\t<P.types.size)->DataW.TrodAll enc P W 0 (λ_=>eS) eS ts vs ds a->(∀x∈a,x.block<W.heap.size)->DataW.TrodAll enc P W' 0 (λb=>decide (b<W.heap.size)) eS ts vs ds a
 |[],[],[],a,_,h,_=>h
 |t::ts,v::vs,d::ds,a,hr,⟨p,q,h1,h2,e⟩,hlt=>by
  subst e;exact⟨p,q,Below.trod f (hr t js).1 (hr t js).2 h1 g λx c=>hlt x p0,DQ f g (λu i=>hr u (by simp[i])) h2 λx c=>hlt x p0,i5⟩
 |[],_::_,_,_,_,h,_=>h.elim
 |[],[],_::_,_,_,h,_=>h.elim
 |_::_,[],_,_,_,h,_=>h.elim
 |_::_,_::_,[],_,_,h,_=>h.elim
theorem acf{f:Func}{s:ChangeSpec}{args:Array fz}{ds:List (DataW H)}{a:List MemPlace}{rt:TypeId}(j:s.vars=[])(d:DataW.Whole enc P f.params.toList s.vars eX W args.toList ds [] a)
  (b:s.fn H (ds++[])={results:=[.lit (.bool eS)],args:=ds}) (o:laidOutB P=eS) (k:Below W.heap.size W W') (l:∀t∈f.params.toList,P.readableRec t=eS/\t<P.types.size)
  (c:f.resultTypes=#[rt]) (e:P.underlying rt=dB .bool):s.post enc P f eX eS eX eX W args (.bool eS) W':=by
 obtain⟨p,q,m,i,h3,u,r⟩:=id d;have g:=d.lt;rw[j]at i;have n:q=[]:=i;subst n;simp only[qI]at h3;subst h3;refine⟨ds,[],a,[],a,[],d,?_,?_,?_,k.frame _,λh=>j8⟩
 .rw[b,c];exact trodAll_mk1 (shut_bool e eS)
 .rw[b];exact DQ o k l m g
 .rw[b,j];rfl
theorem RR(w:World)(a:Addr):w.cell? a=cellOf w.heap a:=rfl
theorem YE{h:f9}{a:Addr}{v:fz}(c:cellOf h a=dB v):a=⟨a.block,a.off,eH⟩:=by
 obtain⟨b,o,s⟩:=a;cases s with
 |none=>rfl
 |some s=>
  unfold cellOf at c;cases hb:h[b]? with
  |none=>rw[hb]at c;cases c
  |some x=>rw[hb]at c;cases x<;>simp at c
theorem ahu{α:Type}{f:α->fz}{h:f9}{a:Addr}{len cap:Nat}{l:List α}(k:i4 l=len)(c:∀i (g:i<i4 l),cellOf h (a.add i)=dB (f l[i])):Seq h (λb=>b<h.size) ⟨dB a,len,cap⟩ 1 (λx=>[f x]) l:=by refine⟨k.symm,λi x j=>?_⟩;obtain⟨g,e⟩:=ql.1 j;have h0:=c 0 i6;rw[add_zero]at h0;have d:=YE h0;refine⟨a.block,a.off,by rw[<-d],uo h0,?_,A0⟩;have:=c i g;rw[d,add_eq]at this;rw[Nat.mul_one,add_eq,yc,this,e]
theorem Pz{t e:TypeId}{v:fz}{d:DataW H}{r:List MemPlace}(m:P.underlying t=dB (.slice e))(q:P.underlying e=dB (.int .i64))(j:P.cellsOf e=1)
  (k:∃p n c,v=.slice p n c) (h:DataW.Trod enc P W 0 (λ_=>eS) eS t v d r):∃(s:Sl) (l:av),v=.slice s.ptr s.len s.cap/\Seq W.heap (λb=>b<W.heap.size) s 1 az l:=by
 obtain⟨g,o⟩:=h;obtain⟨p,n,c,rfl⟩:=k;rcases open_ints m q j o with⟨h1,_⟩|⟨a,len,cap,zs,h1,_,hle,_,hz,_,hcell,_⟩
 .simp[Value.cells]at h1;obtain⟨rfl,rfl,rfl⟩:=h1;exact⟨⟨eH,0,0⟩,[],i5,Seq.nil _ _ _ _ _ _⟩
 .simp[Value.cells]at h1;obtain⟨rfl,rfl,rfl⟩:=h1;simp only[if_true]at hz;refine⟨⟨dB a,n,c⟩,zs.take n,i5,ahu (f:=λx=>xU ka x) jj λi u=>?_⟩;simp at u;rw[<-RR,hcell i i6];simp[qg,qc (show i<i4 zs by omega)]
theorem DR{r:_root_.Go.Reach}{b:Nat}{t e:TypeId}{v:fz}(a:P.underlying t=dB (.slice e))(h:Value.okWide P W r b t v):∃p n c,v=.slice p n c:=by simp only[Value.okWide,a,Cell.okWide]at h;cases v<;>simp_all [Cell.ok]
end
end
variable {H:Type}
section
variable {enc:TypeId×fz->H}
end
theorem YF{P:Program}(h:P.funcs.any Func.goes=eX)(f:FuncId):P.goes f=eX:=by
 have a:∀g:FuncId,(P.funcs[g]?).any Func.goes=eX:=λg=>by
  cases hg:P.funcs[g]? with
  |none=>rfl
  |some x=>
   show Func.goes x=eX;obtain⟨b,e⟩:=Array.getElem?_eq_some_iff.1 hg;cases hx:Func.goes x with
   |false=>rfl
   |true=>
    have:P.funcs.any Func.goes=eS:=Array.any_eq_true.2 ⟨g,b,by rw[e];exact hx⟩;rw[h]at this;cases this
 unfold Program.goes;rw[h,Bool.and_false,Bool.or_false];simp only[a];simp
theorem RS{P:Program}{c:OpenClaim}(h:P.funcs.any Func.goes=eX):c.goesBy P=eX:=by
 have a:∀f,P.goes f=eX:=YF h;unfold OpenClaim.goesBy Program.goesAt Program.goesFrom;have b:(P.funcNamed c.func).any P.goes=eX:=by
  cases P.funcNamed c.func with
  |none=>rfl
  |some f=>exact a f
 have h3:P.inits.toList.any P.goes=eX:=wi.2 λf _=>by rw[a f];exact Bool.false_ne_true
 rw[b,h3];cases c.start<;>rfl
end Go.Qw
