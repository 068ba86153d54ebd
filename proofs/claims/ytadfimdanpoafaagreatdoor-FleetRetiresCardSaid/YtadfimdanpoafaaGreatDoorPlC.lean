/- Lemmas. -/
import Derived.Test.YtadfimdanpoafaaGreatDoorPlA
set_option linter.unusedVariables false
set_option linter.unusedSimpArgs false
open Nat renaming add_sub_cancel_left -> zq, lt_of_lt_of_le -> qY, min_eq_left -> yo, mod_lt -> yL, sub_self -> zi, zero_add -> wy
open Go.IntKind renaming bits -> qk, i64 -> xt, u32 -> xv, u64 -> xw, wrap -> qc
open Int renaming tmod -> z7
open List renaming append_assoc -> qp, cons_append -> zB, ext_getElem? -> zD, find?_eq_none -> zO, flatMap_append -> zh, flatMap_cons -> zl, getD_eq_getElem?_getD -> qe, getElem?_append_left -> qm, getElem?_append_right -> qj, getElem?_cons_succ -> qy, getElem?_eq_getElem -> qd, getElem?_eq_none -> zg, getElem?_eq_some_iff -> qn, getElem?_map -> qO, getElem?_mapIdx -> ve, getElem?_set -> qX, getElem?_set_ne -> zN, getElem?_set_self -> zy, getElem_mem -> qh, length_append -> qx, length_set -> zA, length_take -> zd, mem_map -> qq, mem_or_eq_of_mem_set -> we, mem_range -> qD, range -> qE, range_eq_range' -> yI, replicate -> qg, set_comm -> vo, set_set -> vi, size_toArray -> wY, take_append_drop -> qI
open BitVec renaming ofInt -> qC
open Option renaming map_some -> qL, some -> zM
open Go.Instr renaming buildSlice -> qt, fill -> wo, storeAt -> qf
open Go.Builtin renaming append_ -> qw, clear_ -> yz, zeroCells -> yf
set_option maxRecDepth 100000
namespace Gf
theorem ZZ{p:UInt8->Prop}(h:∀n,n<256->p (UInt8.ofNat n))(a:UInt8):p a:=by
 have:=h a.toNat (UInt8.toNat_lt a)
 rwa [UInt8.ofNat_toNat]at this
def x2(a:UInt8):UInt8:=(a<<<1)^^^(if a&&&0x80=0 then 0 else 0x1b)
def x3(a:UInt8):UInt8:=x2 a^^^a
def pw:Nat->UInt8
 |0=>1
 |n+1=>x3 (pw n)
theorem acS(a b c:UInt8):(a^^^b)&&&c=(a&&&c)^^^(b&&&c):=by
 apply UInt8.toBitVec_inj.1;simp[UInt8.toBitVec_xor,UInt8.toBitVec_and];ext i hi;simp[Bool.and_xor_distrib_right]
theorem acT(a b:UInt8):(a^^^b)<<<1=(a<<<1)^^^(b<<<1):=by
 apply UInt8.toBitVec_inj.1;simp[UInt8.toBitVec_xor,UInt8.toBitVec_shiftLeft,BitVec.shiftLeft_xor_distrib]
theorem PY:∀a:UInt8,a&&&0x80=0∨a&&&0x80=0x80:=ZZ (by decide+kernel)
theorem aaa(a b c d:UInt8):(a^^^b)^^^(c^^^d)=(a^^^c)^^^(b^^^d):=by ac_rfl
theorem aea(a b:UInt8):x2 (a^^^b)=x2 a^^^x2 b:=by
 unfold x2;rw[acS,acT];rcases PY a with ha|ha<;>rcases PY b with hb|hb<;>rw[ha,hb]
 ·simp
 ·simp[UInt8.xor_assoc]
 ·rw[aaa];simp
 ·rw[aaa];simp
theorem aeb(a b:UInt8):x3 (a^^^b)=x3 a^^^x3 b:=by unfold x3;rw[aea,aaa]
def uM:Nat->UInt8->UInt8
 |0,a=>a
 |n+1,a=>x3 (uM n a)
theorem Uh(a b:UInt8):∀n,uM n (a^^^b)=uM n a^^^uM n b
 |0=>rfl
 |n+1=>by simp only[uM,Uh a b n,aeb]
theorem Mw(a:UInt8)(m:Nat):∀n,uM (n+m) a=uM n (uM m a)
 |0=>by simp[uM]
 |n+1=>by rw[Nat.add_right_comm];simp only[uM,Mw a m n]
theorem PZ:∀n,uM n 0=0
 |0=>rfl
 |n+1=>by rw[uM,PZ n];rfl
theorem BH:∀n,pw n=uM n 1
 |0=>rfl
 |n+1=>by rw[pw,uM,BH n]
def afL:Nat:=939374623831894136699086600277250597547650664638770418422125146541797353646788332867483593573384618611044815625336497665827114626705134492515730415652478061620339993830966980270842846318821775850471098591710629241171812800746666233448222972174585295916389942636813666312872914849454985560152530477328703759683306625234997237483834721220409437442253146756845415190424543171129629468776480674528486868811725071010351012234056630775688111116293610821126543142160426617079940511630006820862697466582575257349116925728488930366609138264019883664906661504235885380294353134295748489096855100647154935187045898006656778240
def lg(a:UInt8):Nat:=(afL>>>(8*a.toNat))%256
theorem Kd:∀a:UInt8,lg a<255:=ZZ (by decide+kernel)
theorem Vd:∀a:UInt8,a≠0->pw (lg a)=a:=ZZ (by decide+kernel)
theorem Ve:∀n,n<255->lg (pw n)=n:=by decide+kernel
theorem aec:pw 255=1:=by decide+kernel
theorem Vf:∀n,n<255->pw n≠0:=by decide+kernel
theorem Xn(n:Nat):pw (n+255)=pw n:=by
 rw[BH,Mw,<-BH 255,aec,<-BH]
theorem Xo(n:Nat):pw (n%255)=pw n:=by
 have:∀k m,pw (m+255*k)=pw m:=by
  intro k
  induction k with
  |zero=>intro m;rfl
  |succ k ih=>intro m;rw[Nat.mul_succ,<-Nat.add_assoc,Xn,ih]
 have h:=this (n/255) (n%255);rw[Nat.mod_add_div]at h;exact h.symm
def mul(a b:UInt8):UInt8:=if a=0∨b=0 then 0 else pw ((lg a+lg b)%255)
def inv(a:UInt8):UInt8:=if a=0 then 0 else pw ((255-lg a)%255)
theorem mul_zero(a:UInt8):mul a 0=0:=by simp[mul]
theorem zero_mul(a:UInt8):mul 0 a=0:=by simp[mul]
theorem mul_comm(a b:UInt8):mul a b=mul b a:=by
 unfold mul;rw[Nat.add_comm];by_cases h:a=0∨b=0
 ·rw[if_pos h,if_pos h.symm]
 ·rw[if_neg h,if_neg fun x=>h x.symm]
theorem Qa(a b:UInt8)(d:a≠0):mul a b=uM (lg a) b:=by
 by_cases c:b=0
 ·subst c;rw[mul_zero,PZ]
 ·rw[mul,if_neg (by simp[d,c]),Xo,BH,Mw,<-BH,Vd b c]
theorem jG(a b c:UInt8):mul a (b^^^c)=mul a b^^^mul a c:=by
 by_cases d:a=0
 ·subst d;simp[zero_mul]
 ·rw[Qa _ _ d,Qa _ _ d,Qa _ _ d,Uh]
theorem Ui(a b c:UInt8):mul (a^^^b) c=mul a c^^^mul b c:=by rw[mul_comm,jG,mul_comm c a,mul_comm c b]
theorem Xp{a b:UInt8}(c:a≠0)(d:b≠0):mul a b≠0:=by
 rw[mul,if_neg (by simp[c,d])];exact Vf _ (yL _ (by decide))
theorem Xq{a b:UInt8}(c:a≠0)(d:b≠0):lg (mul a b)=(lg a+lg b)%255:=by
 rw[mul,if_neg (by simp[c,d]),Ve _ (yL _ (by decide))]
theorem mul_assoc(a b c:UInt8):mul (mul a b) c=mul a (mul b c):=by
 by_cases e:a=0
 ·subst e;simp[zero_mul]
 by_cases d:b=0
 ·subst d;simp[zero_mul,mul_zero]
 by_cases f:c=0
 ·subst f;simp[mul_zero]
 rw[mul,if_neg (by simp[Xp e d,f]),Xq e d,mul,if_neg (by simp[e,Xp d f]),Xq d f];congr 1;omega
theorem aed:lg 1=0:=by decide+kernel
theorem one_mul(a:UInt8):mul 1 a=a:=by
 by_cases b:a=0
 ·subst b;rfl
 ·rw[mul,if_neg (by simp[b]),aed,wy,Xo,Vd a b]
theorem mul_one(a:UInt8):mul a 1=a:=by rw[mul_comm,one_mul]
theorem aee{a:UInt8}(b:a≠0):inv a≠0:=by
 rw[inv,if_neg b];exact Vf _ (yL _ (by decide))
theorem Mx{a:UInt8}(b:a≠0):mul a (inv a)=1:=by
 have c:=Kd a;rw[mul,if_neg (by simp[b,aee b]),inv,if_neg b,Ve _ (yL _ (by decide))];have:(lg a+(255-lg a)%255)%255=0:=by omega
 rw[this];rfl
end Gf
namespace Wl
def bL(p:Int×Int×Int):Bool:=decide (p.1>=1)&&(decide (p.1<=16)&&(decide (p.2.1>=1)&&(decide (p.2.1<=4)&&(decide (p.2.2>=1)&&decide (p.2.2<=24)))))
theorem bM(p:Int×Int×Int):bL p=true↔(1<=p.1/\p.1<=16)/\(1<=p.2.1/\p.2.1<=4)/\1<=p.2.2/\p.2.2<=24:=by
 simp[bL,and_assoc]
def cg(p:Int×Int×Int):Int:=if bL p then p.1+p.2.1 else 0
open Go
def DS(s:Int):Int:=qc xw (qc xw (s*(6364136223846793005:Int))+(1442695040888963407:Int))
def told(s:Int):Int:=qc xv (Int.fdiv (DS s) (2^min (32:Int).toNat (qk xw)))
def lp(s n:Int):Int:=qc xt (z7 (qc xw (told s)) (qc xw n))
theorem wrap_u64(x:Int):qc xw x=x%18446744073709551616:=rfl
theorem uN(s n:Int)(d:0<n:=by omega)(e:n<=2^62:=by omega):0<=lp s n/\lp s n<n:=by
 unfold lp;have c:qc xw n=n:=by rw[wrap_u64];omega
 rw[c];have b:0<=qc xw (told s):=by rw[wrap_u64];omega
 have e2:=Int.tmod_lt_of_pos (qc xw (told s)) d;have a:0<=z7 (qc xw (told s)) n:=Int.tmod_nonneg n b;rw[Go.Vc.ak _];exact⟨a,e2⟩
def kw(l:aC)(i:Nat):Int:=l.getD i 0
def rL(l:aC)(i j:Nat):aC:=(l.set i (kw l j)).set j (kw l i)
theorem Qb(l:aC)(i j:Nat):(rL l i j).length=l.length:=by simp[rL]
def gd(n:Nat)(s:Int)(l:aC):Nat->Int×aC
 |0=>(s,l)
 |k+1=>(DS (gd n s l k).1,rL (gd n s l k).2 k (k+(lp (gd n s l k).1 ((n-k:Nat):Int)).toNat))
theorem uO(n:Nat)(s:Int)(l:aC):∀k,(gd n s l k).2.length=l.length
 |0=>rfl
 |k+1=>by rw[gd,Qb,uO n s l k]
theorem IR{l:aC}{i:Nat}(h:i<l.length):kw l i∈l:=by
 rw[kw,qe,qd h];exact qh h
theorem aab{l:aC}{i j:Nat}(b:i<l.length)(c:j<l.length){x:Int}(a:x∈rL l i j):x∈l:=by
 rcases we a with h|h
 ·rcases we h with h|h
  ·exact h
  ·rw[h];exact IR c
 ·rw[h];exact IR b
def upto(n:Nat):aC:=(qE n).map fun i:Nat=>(i:Int)
theorem gy(n:Nat):(upto n).length=n:=by simp[upto]
theorem IS(n:Nat)(s:Int):∀k,k<=n->∀x∈(gd n s (upto n) k).2,0<=x/\x<n
 |0,_,x,hx=>by
  simp only[gd,upto,qq,qD]at hx;obtain⟨i,l,rfl⟩:=hx;omega
 |k+1,hk,x,hx=>by
  have f:k<n->n-k<=2^62->k+(lp (gd n s (upto n) k).1 ((n-k:Nat):Int)).toNat<n:=fun m j=>by
   have:=uN (gd n s (upto n) k).1 ((n-k:Nat):Int);omega
  have d:=uO n s (upto n) k;rw[gy]at d;by_cases b:n-k<=2^62
  ·refine IS n s k (by omega) x (aab (by omega) ?_ hx);have:=f (by omega) b;omega
  ·--beyond any size:what is set is 0 or a member
   have c:∀y∈rL (gd n s (upto n) k).2 k (k+(lp (gd n s (upto n) k).1 ((n-k:Nat):Int)).toNat),y∈(gd n s (upto n) k).2∨y=0:=by
    intro y e;have g:∀i,kw (gd n s (upto n) k).2 i∈(gd n s (upto n) k).2∨kw (gd n s (upto n) k).2 i=0:=fun i=>by
     by_cases h:i<(gd n s (upto n) k).2.length
     ·exact .inl (IR h)
     ·right;simp only[kw,qe];rw[zg (by omega)];rfl
    rcases we e with h|h
    ·rcases we h with h|h
     ·exact .inl h
     ·rw[h];exact g _
    ·rw[h];exact g _
   rcases c x hx with h|h
   ·exact IS n s k (by omega) x h
   ·subst h;omega
def jt(l:aC):aC:=l.mergeSort fun x y=>decide (x<=y)
theorem Ny(l:aC):(jt l).length=l.length:=List.length_mergeSort l
theorem Nz(l:aC)(x:Int):x∈jt l↔x∈l:=List.mem_mergeSort
def Hn(s:Int)(n k:Nat):aC:=jt ((gd n s (upto n) k).2.take k)
theorem aac{s:Int}{n k:Nat}(a:k<=n){x:Int}(b:x∈Hn s n k):0<=x/\x<n:=
 IS n s k a x (List.mem_of_mem_take ((Nz _ _).1 b))
theorem aad(s:Int)(n k:Nat)(a:k<=n):(Hn s n k).length=k:=by
 rw[Hn,Ny,zd,uO,gy];omega
def fg(l:Nat):Nat:=if l<=1 then l else if l<=4 then 2 else if l<=9 then 3 else if l<=16 then 4 else 5
def Ho(r:Nat):Nat:=if r=0 then 0 else if r=1 then 1 else if r<=3 then 2 else 3
def rc(l k:Nat):Nat:=
 (if k>1 then 1048576/(k*(k-1))else 1048576/l)+
  (if k<l/fg l then 1048576*fg l/(l*k)else if k=l/fg l then 1048576*fg l*Ho (fg l)/l else 0)
def lZ(l:Nat):Nat->Nat
 |0=>0
 |k+1=>lZ l k+rc l (k+1)
def jk(l:Nat):aC:=(qE l).map fun k=>((lZ l (k+1):Nat):Int)
theorem kR(l:Nat):(jk l).length=l:=by simp[jk]
def Vg(t:aC)(x:Int):Nat:=(t.findIdx fun y=>decide (y>x))+1
theorem Ke:∀l,l<=20->∀k,k<=20->rc l k<=2^30:=by decide+kernel
theorem Hp(l:Nat)(a:l<=20):∀k,k<=20->lZ l k<=k*2^30
 |0,_=>by simp[lZ]
 |k+1,hk=>by
  have:=Hp l a k (by omega);have:=Ke l a (k+1) hk;rw[lZ];omega
theorem Qc:∀l,l<=20->1<=l->0<lZ l l:=by decide+kernel
theorem Kf(l:Nat)(h:1<=l):(jk l).getLast?=some ((lZ l l:Nat):Int):=by
 obtain⟨k,rfl⟩:∃k,l=k+1:=⟨l-1,by omega⟩
 simp[jk,List.range_succ]
def Fe(seed id:Int):Int:=qc xw (qc xv ((qC (qk xv) seed^^^(qC (qk xv) (qc xv ((qc xv id)*(2654435761:Int))))).toNat:Nat))
def Hq(s:Int)(n:Nat):Nat:=Vg (jk n) (lp s (lZ n n))
theorem uP(s:Int)(n:Nat)(b:1<=n)(a:n<=20):Hq s n<=n:=by
 unfold Hq Vg;have e:=Qc n a b;have d:=Hp n a n a;have c:=uN s (lZ n n);have:=List.findIdx_lt_length_of_exists (p:=fun y=>decide (y>lp s (lZ n n))) (xs:=jk n) ⟨_,List.mem_of_getLast? (Kf n b),by simpa using c.2⟩;rw[kR]at this;omega
def bS(id:Int):Bool:=decide (0<=id)&&decide (id<=65535)
def dj(n:Nat)(seed id:Int):aC:=Hn (DS (DS (Fe seed id))) n (Hq (DS (Fe seed id)) n)
theorem ma{n:Nat}(c:1<=n)(a:n<=20){seed id x:Int}(b:x∈dj n seed id):0<=x/\x<n:=aac (uP _ n c a) b
theorem Ao{n:Nat}(b:1<=n)(a:n<=20)(seed id:Int):(dj n seed id).length<=n:=by
 rw[dj,aad _ _ _ (uP _ n b a)];exact uP _ n b a
def fL(n:Nat)(l:aC):aX:=l.foldl (fun r i=>r.set i.toNat 1) (qg n 0)
theorem re(n:Nat)(l:aC):(fL n l).length=n:=by
 have:∀(l:aC) (r:aX),(l.foldl (fun r i=>r.set i.toNat 1) r).length=r.length:=by
  intro l
  induction l with
  |nil=>intro r;rfl
  |cons a t ih=>intro r;rw[List.foldl_cons,ih];simp
 rw[fL,this];simp
def rf(n:Nat)(seed id:Int):aX:=fL n (dj n seed id)
theorem aae(n:Nat)(seed id:Int):(rf n seed id).length=n:=re _ _
def kS(K H h:Nat):aX:=(qE K).map (fun j=>Gf.pw ((h+1)*(j+1)%255))++(qE H).map fun i=>if i=h then 1 else 0
def bz(K H:Nat):cD:=(qE H).map (kS K H)
theorem Ff(K H h:Nat):(kS K H h).length=K+H:=by simp[kS]
def dW(p:Int×Int×Int)(seed:Int)(ids:aC):cD:=
 if bL p then bz p.1.toNat p.2.1.toNat++(ids.filter bS).map (rf (cg p).toNat seed)else[]
theorem uQ{α:Type}{f:α->Bool}{l:List α}{k:Nat}(a:k<l.length):(l.take (k+1)).filter f=if f l[k]then(l.take k).filter f++[l[k]]else(l.take k).filter f:=by
 rw[List.take_succ_eq_append_getElem a,List.filter_append];by_cases h:f l[k]=true<;>simp[h]
abbrev Row:=aX
abbrev aS:=List Row
def scaleB(c:UInt8)(l:Row):Row:=l.map (Gf.mul c)
def dl(c:UInt8)(a to:Row):Row:=List.zipWith (fun x y=>y^^^Gf.mul c x) a to
def aQ(r:Row)(bs:Nat):UInt8:=r.getD bs 0
def aA(m:aS)(i:Nat):Row:=m.getD i []
def iC(m:aS)(a bs:Nat):Option Nat:=(qE m.length).find? fun i=>decide (a<=i)&&(aQ (aA m i) bs !=0)
def iN(m:aS)(i j:Nat):aS:=(m.set i (aA m j)).set j (aA m i)
def eP(a bs:Nat)(m:aS)(k:Nat):aS:=m.mapIdx fun i r=>if i<k/\i≠a then dl (aQ r bs) (aA m a) r else r
def ju(a bs:Nat)(m:aS):aS:=m.set a (scaleB (Gf.inv (aQ (aA m a) bs)) (aA m a))
def iO(s:Nat×aS)(bs:Nat):Nat×aS:=
 match iC s.2 s.1 bs with
 |none=>s
 |some i=>(s.1+1,eP s.1 bs (ju s.1 bs (iN s.2 s.1 i)) s.2.length)
def bG(m:aS):Nat->Nat×aS
 |0=>(0,m)
 |c+1=>iO (bG m c) c
def fP(m:aS):Nat:=(aA m 0).length
def cR(m:aS):Nat:=(bG m (fP m)).1
def bg(n:Nat)(m:aS):Prop:=∀r∈m,r.length=n
theorem Ap(c:UInt8)(l:Row):(scaleB c l).length=l.length:=by simp[scaleB]
theorem ci{c:UInt8}{a t:Row}(h:a.length=t.length:=by omega):(dl c a t).length=t.length:=by simp[dl,h]
theorem bv{m:aS}{i:Nat}(h:i<m.length):aA m i=m[i]:=by rw[aA,qe,qd h];rfl
theorem cj{n:Nat}{m:aS}(h:bg n m){i:Nat}(a:i<m.length:=by omega):(aA m i).length=n:=by rw[bv a];exact h _ (qh a)
theorem IT{n:Nat}{m:aS}(h:bg n m){i:Nat}{r:Row}(a:r.length=n):bg n (m.set i r):=fun x b=>by
 rcases we b with h1|h1
 ·exact h x h1
 ·rw[h1];exact a
theorem Vh{P:Nat->Bool}{n:Nat}(h:∀j,j<n->P j=false):(qE n).find? P=none:=by
 rw[zO];intro x a;rw[qD]at a;simp[h x a]
theorem Vi{P:Nat->Bool}{n k:Nat}(e:k<n)(h:∀j,j<k->P j=false)(c:P k=true):(qE n).find? P=some k:=by
 rw[List.find?_eq_some_iff_append];refine⟨c,qE k,List.range' (k+1) (n-k-1),?_,fun a b=>?_⟩
 ·rw[yI,yI];have d:n=k+(n-k):=by omega
  have e2:n-k=(n-k-1)+1:=by omega
  conv=>lhs;rw[d,<-List.range'_append_1 (s:=0) (m:=k) (n:=n-k)]
  rw[wy]
  conv=>lhs;rw[e2,List.range'_succ]
 ·rw[qD]at b;simp[h a b]
theorem rN{m:aS}{a bs i:Nat}(h:iC m a bs=some i):a<=i/\i<m.length/\aQ (aA m i) bs≠0:=by
 have b:=List.find?_some h;have c:=List.mem_of_find?_eq_some h;simp at b c;exact⟨b.1,c,b.2⟩
theorem Sy{m:aS}{a bs:Nat}(h:iC m a bs=none):∀i,a<=i->i<m.length->aQ (aA m i) bs=0:=fun i c b=>by
 have:=zO.1 h i (qD.2 b);simpa[c]using this
theorem kK(m:aS)(i j:Nat):(iN m i j).length=m.length:=by simp[iN]
theorem Fg{n:Nat}{m:aS}(h:bg n m){i j:Nat}(a:i<m.length)(b:j<m.length):bg n (iN m i j):=IT (IT h (cj h b)) (cj h a)
theorem nJ(t c:Nat)(m:aS):(ju t c m).length=m.length:=by simp[ju]
theorem Aq{n:Nat}{m:aS}(h:bg n m){t c:Nat}(a:t<m.length):bg n (ju t c m):=IT h (by rw[Ap];exact cj h a)
theorem nK(t c:Nat)(m:aS)(k:Nat):(eP t c m k).length=m.length:=by simp[eP]
theorem Ar{n:Nat}{m:aS}(h:bg n m){t c k:Nat}(b:t<m.length):bg n (eP t c m k):=fun x e=>by
 obtain⟨i,d,rfl⟩:=List.mem_mapIdx.1 e;have a:=h _ (qh d);split
 ·rw[ci (by rw[cj h b,a])];exact a
 ·exact a
theorem Xr(t c:Nat)(m:aS):eP t c m 0=m:=by
 apply zD;intro i;simp[eP,ve]
theorem rg{t c k:Nat}{m:aS}{i:Nat}(a:i<m.length):aA (eP t c m k) i=if i<k/\i≠t then dl (aQ (aA m i) c) (aA m t) (aA m i)else aA m i:=by
 rw[bv (by rw[nK];exact a),bv a];simp[eP]
theorem Xs{t c k:Nat}{m:aS}(b:k<m.length)(d:k≠t):eP t c m (k+1)=(eP t c m k).set k (dl (aQ (aA m k) c) (aA m t) (aA m k)):=by
 apply zD;intro i;simp only[eP,qX,ve,List.length_mapIdx];by_cases a:k=i
 ·subst a;simp only[if_true,b,qd b,qL];rw[if_pos ⟨by omega,d⟩,bv b]
 ·rw[if_neg a];congr 1;funext r;by_cases h:i<k/\i≠t
  ·rw[if_pos h,if_pos ⟨by omega,h.2⟩]
  ·rw[if_neg h,if_neg (fun e=>h ⟨by omega,e.2⟩)]
theorem Xt{t c:Nat}{m:aS}:eP t c m (t+1)=eP t c m t:=by
 apply zD;intro i;simp only[eP,ve];congr 1;funext r;by_cases h:i<t/\i≠t
 ·rw[if_pos h,if_pos ⟨by omega,h.2⟩]
 ·rw[if_neg h,if_neg (fun a=>h ⟨by omega,a.2⟩)]
theorem Xu{n:Nat}{s:Nat×aS}(h:bg n s.2)(bs:Nat):bg n (iO s bs).2/\(iO s bs).2.length=s.2.length:=by
 unfold iO;cases hb:iC s.2 s.1 bs with
 |none=>exact⟨h,rfl⟩
 |some i=>
  have a:=rN hb;dsimp only;refine⟨Ar (Aq (Fg h (by omega) a.2.1) (by rw[kK];omega)) (by rw[nJ,kK];omega),by rw[nK,nJ,kK]⟩
theorem il{n:Nat}{m:aS}(h:bg n m):∀c,bg n (bG m c).2/\(bG m c).2.length=m.length
 |0=>⟨h,rfl⟩
 |c+1=>by
  have:=il h c;have a:=Xu this.1 c;rw[bG];exact⟨a.1,by rw[a.2,this.2]⟩
theorem aaf{s:Nat×aS}(h:s.1<=s.2.length)(bs:Nat):(iO s bs).1<=(iO s bs).2.length:=by
 unfold iO;cases hb:iC s.2 s.1 bs with
 |none=>exact h
 |some i=>
  have a:=rN hb;dsimp only;rw[nK,nJ,kK];omega
theorem CQ(m:aS):∀c,(bG m c).1<=(bG m c).2.length
 |0=>by simp[bG]
 |c+1=>aaf (CQ m c) c
end Wl
namespace Go.Vc
open Go
def HP.sep(A D:HP):HP:=
 ⟨fun h q=>∃g f:aB,(∀b,g b->¬f b)/\(∀b,g b->q b)/\(∀b,f b->q b)/\A.p h g/\D.p h f,
  fun⟨g,f,a,b,c,d,e⟩ hp=>⟨g,f,a,b,c,A.loc d (hp.mono fun x _ i=>b x i),D.loc e (hp.mono fun x _ i=>c x i)⟩,
  fun⟨g,f,a,b,c,d,e⟩ hq=>⟨g,f,a,fun x i=>hq x (b x i),fun x i=>hq x (c x i),d,e⟩⟩
def HP.ex{ι:Type}(F:ι->HP):HP:=⟨fun h q=>∃i,(F i).p h q,fun⟨i,a⟩ hp=>⟨i,(F i).loc a hp⟩,fun⟨i,a⟩ hq=>⟨i,(F i).mono a hq⟩⟩
def HP.and(A:HP)(P:Prop):HP:=⟨fun h q=>A.p h q/\P,fun a b=>⟨A.loc a.1 b,a.2⟩,fun a c=>⟨A.mono a.1 c,a.2⟩⟩
section
variable {B:aB} {h0 h h':Heap} {As Bs:List HP} {A D E:HP} {i j:Nat}
theorem aa.split(H:aa B h0 h As)(i:Nat)(o:As[i]?=some (A.sep D)):aa B h0 h (As.set i A++[D]):=by
 classical
 obtain⟨t,p,c,z,a⟩:=H;obtain⟨x,q,r,n,l,s,v⟩:=a i _ o;have u:=(qn.1 o).1;refine⟨t,p,fun b=>if q b then As.length+1 else c b,fun b e=>?_,fun j X d=>?_⟩
 ·have w:=z b e;dsimp only;rw[if_neg];exact w;intro g;have:=(l b g).2;omega
 ·by_cases k:j<As.length
  ·rw[qm (by simpa using k),qX]at d;split at d
   ·rename_i f;subst f
    first|rw[if_pos k]at d|skip
    injection d with d
    subst d;refine A.mono s fun b e=>⟨(n b e).1,?_⟩
    dsimp only;rw[if_neg (r b e)];exact(n b e).2
   ·rename_i f;refine X.mono (a j X d) fun b e=>⟨e.1,?_⟩
    dsimp only;rw[if_neg];exact e.2;intro g;have:=(l b g).2;omega
  ·rw[qj (by simpa using k)]at d;rw[zA]at d;have m:j=As.length:=by
    have:=(qn.1 d).1;simp at this;omega
   subst m;simp at d;subst d;refine D.mono v fun b e=>⟨(l b e).1,?_⟩
   dsimp only;rw[if_pos e]
theorem aa.join(H:aa B h0 h As)(i j:Nat)(a:i≠j)(k:As[i]?=some A)(f:As[j]?=some D):aa B h0 h ((As.set i (A.sep D)).set j emp):=
 H.merge i j a k f fun g d l c e=>⟨g,d,l,fun _ b=>.inl b,fun _ b=>.inr b,c,e⟩
theorem aa.Vj{ι:Type}{F:ι->HP}(H:aa B h0 h As)(i:Nat)(e:As[i]?=some (HP.ex F)):∃x,aa B h0 h (As.set i (F x)):=by
 obtain⟨g,p,c,z,a⟩:=H;obtain⟨x,f⟩:=a i _ e;refine⟨x,g,p,c,z,fun j X b=>?_⟩;rw[qX]at b;split at b
 ·rename_i d;subst d;split at b
  ·injection b with b;subst b;exact f
  ·cases b
 ·exact a j X b
theorem aa.close'{ι:Type}{F:ι->HP}(H:aa B h0 h As)(i:Nat)(x:ι)(b:As[i]?=some (F x)):aa B h0 h (As.set i (HP.ex F)):=H.fO i b fun _ a=>⟨x,a⟩
theorem aa.fact{P:Prop}(H:aa B h0 h As)(i:Nat)(a:As[i]?=some (A.and P)):P:=(H.at i a).2
theorem aa.abV{P:Prop}(H:aa B h0 h As)(i:Nat)(b:As[i]?=some (A.and P)):aa B h0 h (As.set i A):=H.fO i b fun _ a=>a.1
theorem aa.afr{P:Prop}(H:aa B h0 h As)(i:Nat)(c:As[i]?=some A)(a:P):aa B h0 h (As.set i (A.and P)):=H.fO i c fun _ b=>⟨b,a⟩
theorem aa.cons(H:aa B h0 h As)(i:Nat)(g:As[i]?=some A):aa B h0 h (A::As.set i emp):=by
 obtain⟨l,p,c,z,a⟩:=H;have k:=(qn.1 g).1;refine⟨l,p,fun b=>if c b=i+1 then 1 else if c b=0 then 0 else c b+1,fun b e=>?_,fun j X d=>?_⟩
 ·have:=z b e;dsimp only;rw[if_neg (by omega),if_pos this]
 ·cases j with
  |zero=>
   simp at d;subst d;refine A.mono (a i A g) fun b e=>⟨e.1,by dsimp only;rw[if_pos e.2]⟩
  |succ j=>
   rw[qy,qX]at d;split at d
   ·rename_i f;injection d with d;subst d;trivial
   ·rename_i f;refine X.mono (a j X d) fun b e=>⟨e.1,by dsimp only;rw[if_neg (by omega),if_neg (by omega)];omega⟩
theorem aa.rest(H:aa B h0 h (A::As)):aa B h0 h As:=H.pick (fun j=>j+1) (fun a b h=>by omega) fun j X c=>by simpa using c
end
structure iJ (α β:Type) where
 p:Heap->aB->α->β->Prop
 loc:∀{h h':Heap} {q:aB} {a:α} {b:β},p h q a b->aU q h h'->p h' q a b
 mono:∀{h:Heap} {q q':aB} {a:α} {b:β},p h q a b->(∀x,q x->q' x)->p h q' a b
def gr{α:Type}(k:Nat)(f:α->aW):iJ Sl (List α):=⟨fun h q s l=>Seq h q s k f l,fun a b=>a.ai b,fun a c=>a.mono c⟩
def sW{α:Type}(k:Nat)(f:α->aW):iJ Sl (List α):=⟨fun h q s l=>Seq h q s k f l/\(l=[]->s.ptr=none),fun a b=>⟨a.1.ai b,a.2⟩,fun a c=>⟨a.1.mono c,a.2⟩⟩
def cF{α β:Type}(E:iJ α β)(k:Nat)(f:α->aW):iJ Sl (List β):=
 ⟨fun h q s ll=>∃rs:List α,Seq h q s k f rs/\rs.length=ll.length/\∀(i:Nat) r l,rs[i]?=some r->ll[i]?=some l->E.p h q r l,
  fun⟨rs,a,b,c⟩ hp=>⟨rs,a.ai hp,b,fun i r l e d=>E.loc (c i r l e d) hp⟩,fun⟨rs,a,b,c⟩ hq=>⟨rs,a.mono hq,b,fun i r l e d=>E.mono (c i r l e d) hq⟩⟩
def aef{α β:Type}(E:iJ α β)(P:α->β->Prop):iJ α β:=⟨fun h q a b=>E.p h q a b/\P a b,fun a c=>⟨E.loc a.1 c,a.2⟩,fun a d=>⟨E.mono a.1 d,a.2⟩⟩
def EA{α β:Type}(E:iJ α β)(a:α)(b:β):HP:=⟨fun h q=>E.p h q a b,fun x c=>E.loc x c,fun x d=>E.mono x d⟩
abbrev fx{α β:Type}(E:iJ α β)(h:Heap)(a:α)(b:β):Prop:=E.p h (fun b=>b<h.size) a b
def cx{α β:Type}(e:TypeId)(s:Sl)(k:Nat)(f:α->aW)(E:iJ α β)(m:List β):HP:=
 ⟨fun h q=>∃(rs:List α) (j:aB),Own h e s k f rs/\(∀b,s.on b->q b/\¬j b)/\(∀b,j b->q b)/\rs.length=m.length/\∀(i:Nat) r l,rs[i]?=some r->m[i]?=some l->E.p h j r l,
  fun⟨rs,j,a,b,c,d,e⟩ hp=>⟨rs,j,a.ai hp fun x g=>(b x g).1,b,c,d,fun i r l o n=>E.loc (e i r l o n) (hp.mono fun x _ g=>c x g)⟩,
  fun⟨rs,j,a,b,c,d,e⟩ hq=>⟨rs,j,a,fun x g=>⟨hq x (b x g).1,(b x g).2⟩,fun x g=>hq x (c x g),d,e⟩⟩
section
variable {α β:Type} {E:iJ α β} {k:Nat} {f:α->aW} {h h':Heap} {q:aB} {s:Sl} {ll:List β} {a:α} {b:β}
theorem fx.up(x:fx E h a b)(c:aU (fun b=>b<h.size) h h'):fx E h' a b:=E.mono (E.loc x c) fun _ d=>qY d c.1
theorem cF.oK(x:(cF E k f).p h q s ll):∃rs:List α,Seq h q s k f rs/\rs.length=ll.length/\∀(i:Nat) (e:i<rs.length) (d:i<ll.length),E.p h q rs[i] ll[i]:=by
 obtain⟨rs,a,b,c⟩:=x;exact⟨rs,a,b,fun i e d=>c i _ _ (qd e) (qd d)⟩
theorem cF.len(x:(cF E k f).p h q s ll):s.len=ll.length:=by obtain⟨rs,a,b,c⟩:=x;rw[a.len,b]
theorem cF.nil(h:Heap)(q:aB)(a:aO)(c:Nat):(cF E k f).p h q ⟨a,0,c⟩ []:=⟨[],Seq.nil h q c a k f,rfl,fun i r l b=>by simp at b⟩
theorem cF.take(x:(cF E k f).p h q s ll)(n:Nat)(j:n<=ll.length):(cF E k f).p h q ⟨s.ptr,n,s.cap⟩ (ll.take n):=by
 obtain⟨rs,a,b,c⟩:=x;refine⟨rs.take n,a.take n (by omega),by simp[b],fun i r l d e=>?_⟩;rw[List.getElem?_take]at d e;split at d
 ·rename_i g;rw[if_pos g]at e;exact c i r l d e
 ·cases d
theorem cF.get{X:Type}{g:X->Value}(x:(cF E 1 f).p h q s ll){i:Int}(n:Nat)(e:i=n)(b:n<ll.length)(u:α->X)(d:∀r,f r=[g (u r)]){K:X->Prop}(c:∀r,E.p h q r ll[n]->K (u r)):
  ∃a:Addr,(s.ptr=some a/\0<=i/\i<((s.len:Nat):Int))/\∃x:X,cellOf h (a.add (i.toNat*1))=some (g x)/\K x:=by
 obtain⟨rs,j,k,h3⟩:=cF.oK x;exact j.bx n e (by omega) (u (rs[n]'(by omega))) (d _) (c _ (h3 n (by omega) b))
theorem cF.oJ{E:iJ Sl β}(x:(cF E 1 bJ).p h q s ll){i:Int}(n:Nat)(d:i=n)(b:n<ll.length){K:Sl->Prop}(c:∀r,E.p h q r ll[n]->K r):
  ∃a:Addr,(s.ptr=some a/\0<=i/\i<((s.len:Nat):Int))/\∃x:Sl,cellOf h (a.add (i.toNat*1))=some (.slice x.ptr x.len x.cap)/\K x:=
 cF.get (g:=fun r:Sl=>Value.slice r.ptr r.len r.cap) x n d b id (fun _=>rfl) c
theorem cF.togx{γ:Type}{d:Nat}{g:γ->aW}{l:List (List γ)}(x:fx (cF (gr d g) 1 bJ) h s l):gx h s d g l:=by
 obtain⟨rs,a,b,c⟩:=x;exact⟨rs,a,b,c⟩
theorem cF.impl{α':Type}{e:Type}{E':iJ α e}(u:β->e)(g:∀{h q a b},E.p h q a b->E'.p h q a (u b))(x:(cF E k f).p h q s ll):(cF E' k f).p h q s (ll.map u):=by
 obtain⟨rs,a,b,c⟩:=x;refine⟨rs,a,by simp[b],fun i r l j d=>?_⟩;rw[qO]at d;cases h3:ll[i]? with
 |none=>rw[h3]at d;cases d
 |some y=>rw[h3]at d;simp at d;subst d;exact g (c i r y j h3)
end
section
variable {α β:Type} {E:iJ α β} {C:Ctx} {k e t:Nat} {f:α->aW} {B:aB} {h0 h h':Heap} {As:List HP} {s:Sl} {ll:List β} {z:aW} {by_:Nat}
theorem aa.My(H:aa B h0 h As)(e k:Nat)(f:α->aW)(E:iJ α β):aa B h0 h (As++[cx e ⟨none,0,0⟩ k f E []]):=
 H.comp (.one (aU.refl _ _) ⟨[],fun _=>False,Own.nil h e k f,fun b a=>(by obtain⟨o,a⟩:=a;cases a),fun _ a=>a.elim,rfl,fun i r l h=>by simp at h⟩)
theorem aa.eRd(H:aa B h0 h As)(i:Nat)(j:As[i]?=some (cx e s k f E ll))(n:∀x,(f x).length=k):fx (cF E k f) h s ll:=by
 obtain⟨rs,p,a,b,c,d,e⟩:=H.at i j;exact⟨rs,a.seq n fun x m=>(b x m).1,d,fun i r l o g=>E.mono (e i r l o g) c⟩
theorem aa.eAt{a:α}{b:β}(H:aa B h0 h As)(i:Nat)(c:As[i]?=some (EA E a b)):fx E h a b:=H.at i c
theorem aa.aeg(H:aa B h0 h As)(i:Nat)(g:As[i]?=some (cx e s k f E ll)):s.len=ll.length/\s.len<=s.cap:=by
 obtain⟨rs,j,a,b,c,d,e⟩:=H.at i g;exact⟨by rw[a.len,d],a.cap⟩
theorem aa.CR(hC:C.Ok)(H:aa B h0 h As)(i j:Nat)(G:i≠j){a:α}{b:β}(hi:As[i]?=some (cx e s k f E ll))(hj:As[j]?=some (EA E a b))(he:bW C.toBE t e k z by_)(hz:z.length=k)(V:0<by_/\by_<=128)(hw:∀x,(f x).length=k)
  (Q:∀x,∀c∈f x,c.oneCell'=true) {parts:Array (Nat×Value)} (L:wo (fun i=>some (i*k,k)) (iv z 1).toArray parts.toList=some ([a].flatMap f).toArray) (W:1*k<=2^20)
  (ab:ll.length+1<=2^32) {ty:Nat} {K:Sl->Heap->Prop} (hk:∀T h',aa B h0 h' ((As.set j emp).set i (cx e T k f E (ll++[b])))->K T h'):
  az C.P (qt t 1 parts) (.one (.sc .slc)) h fun v u=>az C.P (qw #[t,t] ty #[.slice s.ptr s.len s.cap,.slice v.ptr v.len v.cap]) (.one (.sc .slc)) u K:=by
 have H2:=H.merge i j G hi hj (D:=⟨fun h q=>∃(rs:List α) (g:aB),Own h e s k f rs/\(∀b,s.on b->q b/\¬g b)/\(∀b,g b->q b)/\rs.length=ll.length/\(∀(i:Nat) r l,rs[i]?=some r->ll[i]?=some l->E.p h g r l)/\E.p h g a b,
  fun⟨rs,g,a,b,c,d,e,f⟩ hp=>⟨rs,g,a.ai hp fun x n=>(b x n).1,b,c,d,fun i r l u F=>E.loc (e i r l u F) (hp.mono fun x _ n=>c x n),E.loc f (hp.mono fun x _ n=>c x n)⟩,
  fun⟨rs,g,a,b,c,d,e,f⟩ hq=>⟨rs,g,a,fun x n=>⟨hq x (b x n).1,(b x n).2⟩,fun x n=>hq x (c x n),d,e,f⟩⟩)
  (fun g q2 hd hA hB=>by
   obtain⟨rs,q3,a,b,c,d,e'⟩:=hA;refine⟨rs,fun b=>q3 b∨q2 b,a,fun x n=>⟨.inl (b x n).1,fun N=>N.elim (b x n).2 (hd x (b x n).1)⟩,fun x n=>n.elim (fun h=>.inl (c x h)) .inr,d,fun i r l u F=>E.mono (e' i r l u F) fun _ h=>.inl h,E.mono hB fun _ h=>.inr h⟩)
 have w:i<As.length:=(qn.1 hi).1;obtain⟨lo,pp,c,zz,ax⟩:=H2;have ha:=ax i _ (by rw[zN (Ne.symm G),zy w]);obtain⟨rs,g,a1,a2,a3,a4,a5,a6⟩:=ha;let Z:Nat->Nat:=fun b=> @ite _ (g b) (Classical.propDecidable _) (As.length+2) (c b);have J:∀b,g b->b<h.size/\c b=i+1:=a3;have ho:dF h Z (i+1) e s k f rs:=⟨a1,fun b m=>by
  have:=a2 b m;show @ite _ (g b) (Classical.propDecidable _) _ _=_;rw[if_neg this.2];exact this.1.2⟩
 refine ho.push hC he hz V hw Q a L W (by omega) fun T h' I M=>hk T h' ?_;rw[vo _ _ (Ne.symm G)];rw[<-vi (l:=As) (i:=i),vo _ _ G];have R:∀b,g b->Z b≠i+1:=fun b m=>by
  show @ite _ (g b) (Classical.propDecidable _) _ _≠_;rw[if_pos m];omega
 refine aa.CP lo pp zz ax (M.mono fun b m hn hc=>hn ⟨m,?_⟩) ⟨rs++[a],fun b=>g b/\b<h.size,I.own,fun b m=>?_,fun b m=>⟨qY m.2 M.1,.inl ⟨m.2,(J b m.1).2⟩⟩,by simp[a4],fun U r' l' u F=>?_⟩
 ·by_cases A:g b
  ·exact(J b A).2
  ·have o:@ite _ (g b) (Classical.propDecidable _) (As.length+2) (c b)=i+1:=hc;rw[if_neg A]at o;exact o
 ·have y:=I.bs b m;by_cases w:b<h.size
  ·rw[gc w]at y;have O:¬g b:=fun A=>R b A y;have o:@ite _ (g b) (Classical.propDecidable _) (As.length+2) (c b)=i+1:=y;rw[if_neg O]at o;exact⟨⟨I.own.lt m,.inl ⟨w,o⟩⟩,fun N=>O N.1⟩
  ·exact⟨⟨I.own.lt m,.inr (by omega)⟩,fun N=>w N.2⟩
 ·have S:∀{Y:α} {l:β},E.p h g Y l->E.p h' (fun b=>g b/\b<h.size) Y l:=fun hs=>
   E.loc (E.mono hs (q':=fun b=>g b/\b<h.size) fun b m=>⟨m,(J b m).1⟩) (M.mono fun b _ m=>R b m.1)
  by_cases X:U<rs.length
  ·rw[qm X]at u;rw[qm (by omega)]at F;exact S (a5 U r' l' u F)
  ·have:U=rs.length:=by
    have:=(qn.1 u).1;simp at this;omega
   subst this;simp at u;rw[a4]at F;simp at F;subst u;subst F;exact S a6
theorem aa.afM{N:TI}(hC:C.Ok)(H:aa B h0 h As)(i j:Nat)(y:i≠j){a:α}{b:β}(Q:As[i]?=some (cx e s k f E ll))(hj:As[j]?=some (EA E a b))(V:∀x,(f x).length=k)(Z:C.T.get t=some N){x:Int}(n:Nat)(g:x=n)(hn:n<ll.length){J:Value}(hv:J.cells=(f a).toArray)(M:N.size=k)
  (G:(f a).all (·.oneCell')=true) {K:Heap->Prop} (hk:∀h',aa B h0 h' ((As.set j emp).set i (cx e s k f E (ll.set n b)))->K h'):
  ∃a:Addr,(s.ptr=some a/\0<=x/\x<((s.len:Nat):Int))/\ag C.P (qf t (.pointer (some (a.add (x.toNat*k)))) J) h fun _ h'=>K h':=by
 have H2:=H.merge i j y Q hj (D:=⟨fun h q=>∃(rs:List α) (m:aB),Own h e s k f rs/\(∀b,s.on b->q b/\¬m b)/\(∀b,m b->q b)/\rs.length=ll.length/\(∀(i:Nat) r l,rs[i]?=some r->ll[i]?=some l->E.p h m r l)/\E.p h m a b,
  fun⟨rs,m,a,b,c,d,e,f⟩ hp=>⟨rs,m,a.ai hp fun x g=>(b x g).1,b,c,d,fun i r l o u=>E.loc (e i r l o u) (hp.mono fun x _ g=>c x g),E.loc f (hp.mono fun x _ g=>c x g)⟩,
  fun⟨rs,m,a,b,c,d,e,f⟩ hq=>⟨rs,m,a,fun x g=>⟨hq x (b x g).1,(b x g).2⟩,fun x g=>hq x (c x g),d,e,f⟩⟩)
  (fun m U W hA hB=>by
   obtain⟨rs,q3,a,b,c,d,X⟩:=hA;refine⟨rs,fun b=>q3 b∨U b,a,fun x g=>⟨.inl (b x g).1,fun hh=>hh.elim (b x g).2 (W x (b x g).1)⟩,fun x g=>g.elim (fun h=>.inl (c x h)) .inr,d,fun i r l o u=>E.mono (X i r l o u) fun _ h=>.inl h,E.mono hB fun _ h=>.inr h⟩)
 have L:i<As.length:=(qn.1 Q).1;obtain⟨lo,pp,c,zz,ax⟩:=H2;have Y:=ax i _ (by rw[zN (Ne.symm y),zy L]);obtain⟨rs,m,a1,I,a3,a4,a5,S⟩:=Y;refine a1.set hC V Z n g (by omega) a hv M G fun h' z w _=>hk h' ?_;rw[vo _ _ (Ne.symm y)];rw[<-vi (l:=As) (i:=i),vo _ _ y];have keep:∀{O:α} {l:β},E.p h m O l->E.p h' m O l:=fun hs=>E.loc hs (w.mono fun b _ v F=>(I b F).2 v);refine aa.CP lo pp zz ax (w.mono fun b _ v F=>v (I b F).1) ⟨rs.set n a,m,z,fun b v=>⟨⟨qY (I b v).1.1 w.1,.inl (I b v).1⟩,(I b v).2⟩,fun b v=>⟨qY (a3 b v).1 w.1,.inl (a3 b v)⟩,by simp[a4],fun i' r' R o u=>?_⟩;rw[qX]at o u;split at o
 ·rename_i A;rw[if_pos A]at u;split at o
  ·injection o with o;subst o
   have e:R=b:=by
    rw[if_pos (by omega)]at u;exact(zM.inj u).symm
   subst e;exact keep S
  ·cases o
 ·rename_i A;rw[if_neg A]at u;exact keep (a5 i' r' R o u)
end
section
variable {α β:Type} {E:iJ α β} {k e:Nat} {f:α->aW} {B:aB} {h0 h:Heap} {As:List HP} {s:Sl}
theorem aa.Vk{α:Type}{f:α->aW}{l:List α}(H:aa B h0 h As)(i:Nat)(c:As[i]?=some (ar e s k f l))(b:∀x,(f x).length=k):aa B h0 h (As.set i (EA (gr k f) s l)):=H.fO i c fun _ a=>a.1.seq b a.2
end
section
variable {α:Type} {B:aB} {h0 h:Heap} {As:List HP} {e e2 k:Nat} {s:Sl} {f:α->aW} {rs:List Sl} {ll:List (List α)}
theorem aa.Vl{s:Sl}{a:List (List α)}(H:aa B h0 h As)(i:Nat)(c:As[i]?=some (fS e s k f a)):aa B h0 h (As.set i (cx e s 1 bJ (gr k f) a)):=H.fO i c fun _ b=>b
end
theorem NA{h h':Heap}{p:aB}(a:aU p h h'):∀{L:av},L.ok h->(∀x∈L,p x.1.block)->L.ok h'
 |[],_,_=>trivial
 |x::L,hk,hq=>⟨a.cell (hq x (by simp)) hk.1,NA a hk.2 fun y b=>hq y (by simp[b])⟩
theorem jL{h h':Heap}(d:aU (fun b=>b<h.size) h h'){L:av}(c:L.ok h):L.ok h':=NA d c (by
 clear d
 induction L with
 |nil=>intro x a;cases a
 |cons y L ih=>
  intro x a;rcases List.mem_cons.1 a with rfl|a
  ·exact tO c.1
  ·exact ih c.2 x a)
theorem az.both{P:Program}{s:Sem Value}{h:Heap}{K:Sl->Heap->Prop}{Q:Heap->Prop}(i:az P s (.one (.sc .slc)) h fun _ h'=>Q h')(d:az P s (.one (.sc .slc)) h K):az P s (.one (.sc .slc)) h fun x h'=>Q h'/\K x h':=by
 intro w a;obtain⟨m,l,b,e,k,a3,a4⟩:=i w a;obtain⟨o,n,c,j,x2,f,g⟩:=d w a;rw[b]at c;cases c;exact⟨_,_,b,e,x2,f,a4,g⟩
theorem aa.nV{α:Type}{B:aB}{C:Ctx}{h0 h:Heap}{As:List HP}{e t k b:Nat}{z:aW}{K:Sl->Heap->Prop}(q:C.Ok)(H:aa B h0 h As)(f:α->aW)(p:bW C.toBE t e k z b)(c:z.length=k){n:Nat}{parts:Array (Nat×Value)}(l:List α)(g:l.length=n)(d:n*k<=2^20)
  (a:wo (fun i=>some (i*k,k)) (iv z n).toArray parts.toList=some (l.flatMap f).toArray) {L:av} (o:L.ok h) (j:az C.P (qt t n parts) (.one (.sc .slc)) h K):
  az C.P (qt t n parts) (.one (.sc .slc)) h fun x h'=>L.ok h'/\K x h':=
 az.both ((Sp.refl h).lit q f p c l g d a fun _ _ m=>jL m.ai o) j
section
variable {B:aB} {h0 h h':Heap} {As Bs:List HP} {A D E:HP} {i j:Nat}
theorem aa.front(H:aa B h0 h (As++Bs)):aa B h0 h (Bs++As):=
 H.pick (fun j=>if j<Bs.length then As.length+j else if j<Bs.length+As.length then j-Bs.length else j)
  (fun a b c=>by(try dsimp only at c);split at c<;>split at c<;>(try split at c)<;>(try split at c)<;>omega) fun j X e=>by
  try dsimp only
  split
  ·rename_i d;rw[qm d]at e;rw[qj (by omega),zq];exact e
  ·rename_i d;rw[qj (by omega)]at e;have:=(qn.1 e).1;rw[if_pos (by omega),qm this];exact e
theorem aa.bC(H:aa B h0 h (As++[A])):aa B h0 h (A::As):=H.front
theorem aa.cS(H:aa B h0 h As)(R:Sp h h' [A]):aa B h0 h' (A::As):=(H.comp R).bC
theorem aa.Hr(H:aa B h0 h (A::As)):aa B h0 h As:=H.rest
theorem aa.Hs(H:aa B h0 h (A::D::As)):aa B h0 h (A::As):=H.del 1
theorem aa.Ht{ι:Type}{F:ι->HP}(H:aa B h0 h (HP.ex F::As)):∃x,aa B h0 h (F x::As):=H.Vj 0 rfl
theorem aa.Kg{ι:Type}{F:ι->HP}(x:ι)(H:aa B h0 h (F x::As)):aa B h0 h (HP.ex F::As):=H.close' 0 x rfl
theorem aa.Kh(H:aa B h0 h (A.sep D::As)):aa B h0 h (D::A::As):=(H.split 0 rfl).bC
theorem aa.oL(H:aa B h0 h (D::A::As)):aa B h0 h (A.sep D::As):=by
 have a:aa B h0 h (emp::A.sep D::As):=H.join 1 0 (by decide) rfl rfl;exact a.rest
theorem aa.uR(H:aa B h0 h (A::D::As)):aa B h0 h (D::A::As):=H.abU 0 1 rfl rfl
end
theorem Seq.nL{h:Heap}{p:aB}{s:Sl}{rs:List Sl}(d:Seq h p s 1 bJ rs){i:Int}(n:Nat)(e:i=n)(b:n<rs.length){K:Sl->Prop}(c:K rs[n]):
  ∃a:Addr,(s.ptr=some a/\0<=i/\i<((s.len:Nat):Int))/\∃x:Sl,cellOf h (a.add (i.toNat*1))=some (.slice x.ptr x.len x.cap)/\K x:=
 d.bx (g:=fun r:Sl=>Value.slice r.ptr r.len r.cap) n e b rs[n] rfl c
def St(B:aB)(h0:Heap)(As:List HP)(Q:Heap->Prop):Prop:=∀(Bs:List HP) (h':Heap),aa B h0 h' (Bs++As)->Q h'
section
variable {B:aB} {h0 h h':Heap} {As Bs:List HP} {A:HP} {Q:Heap->Prop}
theorem St.at(x:St B h0 As Q)(Bs:List HP)(H:aa B h0 h (Bs++As)):Q h:=x Bs h H
theorem St.dU(j:Nat)(c:As[j]?=some A)(a:∀h',A.p h' (fun b=>b<h'.size)->Q h'):St B h0 As Q:=fun Bs h' H=>a _ (H.at (Bs.length+j) (by rw[qj (by omega),zq];exact c))
theorem St.cons(x:St B h0 As Q):St B h0 (A::As) Q:=fun Bs h' H=>x (Bs++[A]) h' (by rw[qp];exact H)
end
section
variable {β:Type} {E:iJ Sl β} {h:Heap} {q:aB} {s:Sl} {ll:List β}
end
theorem Fh{α:Type}{l:List α}(f:l.Nodup){a b:Nat}(d:a<l.length)(c:b<l.length)(h:l[a]=l[b]):a=b:=by
 have e:=List.pairwise_iff_getElem.1 f;rcases Nat.lt_trichotomy a b with hlt|he|hgt
 ·exact absurd h (e a b d c hlt)
 ·exact he
 ·exact absurd h.symm (e b a c d hgt)
theorem aa.bK{B:aB}{h0 h:Heap}{As:List HP}(H:aa B h0 h As)(L:List Nat)(g:∀j∈L,j<As.length:=by simp)(k:L.Nodup:=by decide):aa B h0 h (L.map fun j=>As.getD j emp):=by
 refine H.pick (fun i=>if h:i<L.length then L[i]else As.length+i) (fun a b c=>?_) fun i A2 e=>?_
 ·try dsimp only at c
  split at c<;>split at c
  ·exact Fh k _ _ c
  ·have:=g _ (qh (l:=L) (n:=a) (by assumption));omega
  ·have:=g _ (qh (l:=L) (n:=b) (by assumption));omega
  ·omega
 ·try dsimp only
  rw[qO]at e;split
  ·rename_i d;rw[qd d]at e;have f:=g _ (qh d);simp only[qL,zM.injEq]at e;rw[<-e,qe,qd f];rfl
  ·rename_i d;rw[zg (by omega)]at e;simp at e
theorem St.mk'{B:aB}{h0:Heap}{As:List HP}{Q:Heap->Prop}(x:∀h',aa B h0 h' As->Q h'):St B h0 As Q:=fun Bs h' H=>x h' (H.take Bs.length fun i A a=>by
 rw[qj (by omega),zq];exact a)
theorem St.and{B:aB}{h0:Heap}{As:List HP}{Q a:Heap->Prop}(x:St B h0 As Q)(y:St B h0 As a):St B h0 As fun h=>Q h/\a h:=fun Bs h' H=>⟨x Bs h' H,y Bs h' H⟩
theorem aa.bi{B:aB}{h0 h:Heap}{As:List HP}(H:aa B h0 h As)(k:Nat)(L:List Nat)(o:k<=As.length:=by simp)(f:∀j∈L,j<k:=by simp)(m:L.Nodup:=by decide):aa B h0 h (L.map (fun j=>As.getD j emp)++As.drop k):=by
 refine H.pick (fun i=>if h:i<L.length then L[i]else k+(i-L.length)) (fun a b d=>?_) fun i A2 e=>?_
 ·try dsimp only at d
  split at d<;>split at d
  ·exact Fh m _ _ d
  ·have:=f _ (qh (l:=L) (n:=a) (by assumption));omega
  ·have:=f _ (qh (l:=L) (n:=b) (by assumption));omega
  ·omega
 ·try dsimp only
  by_cases c:i<L.length
  ·rw[dif_pos c];rw[qm (by simpa using c),qO,qd c]at e;have g:=f _ (qh c);simp only[qL,zM.injEq]at e;rw[<-e,qe,qd (by omega)];rfl
  ·rw[dif_neg c];rw[qj (by simpa using c),List.length_map,List.getElem?_drop]at e;exact e
section
variable {α β:Type} {E:iJ α β} {C:Ctx} {k e t by_:Nat} {f:α->aW} {B:aB} {h0 h h':Heap} {As:List HP} {q:aB} {s:Sl} {rs:List α} {ll:List β} {ti:TI} {z:aW}
def Fix(E:iJ α β)(k:Nat)(f:α->aW)(h:Heap)(q:aB)(s:Sl)(rs:List α)(a:List β):Prop:=Seq h q s k f rs/\rs.length=a.length/\∀(i:Nat) r l,rs[i]?=some r->a[i]?=some l->E.p h q r l
theorem Fix.ai(x:Fix E k f h q s rs ll)(a:aU q h h'):Fix E k f h' q s rs ll:=⟨x.1.ai a,x.2.1,fun i r l c b=>E.loc (x.2.2 i r l c b) a⟩
theorem Fix.mono{q':aB}(x:Fix E k f h q s rs ll)(a:∀b,q b->q' b):Fix E k f h q' s rs ll:=⟨x.1.mono a,x.2.1,fun i r l d c=>E.mono (x.2.2 i r l d c) a⟩
abbrev nk(E:iJ α β)(k:Nat)(f:α->aW)(h:Heap)(s:Sl)(rs:List α)(a:List β):Prop:=Fix E k f h (fun b=>b<h.size) s rs a
theorem nk.up(x:nk E k f h s rs ll)(a:aU (fun b=>b<h.size) h h'):nk E k f h' s rs ll:=(Fix.ai x a).mono fun _ c=>qY c a.1
theorem Fix.row(x:Fix E k f h q s rs ll){i:Nat}(a:i<ll.length):E.p h q (rs[i]'(by rw[x.2.1];exact a)) ll[i]:=x.2.2 i _ _ (qd _) (qd _)
theorem cF.fix(x:(cF E k f).p h q s ll):∃rs,Fix E k f h q s rs ll:=x
theorem Fix.elt(x:Fix E k f h q s rs ll):(cF E k f).p h q s ll:=⟨rs,x⟩
def cu(E:iJ α β)(k:Nat)(f:α->aW)(s:Sl)(rs:List α)(c:List β):HP:=⟨fun h q=>Fix E k f h q s rs c,fun x a=>x.ai a,fun x b=>x.mono b⟩
theorem aa.IU(H:aa B h0 h As)(i:Nat)(m:As[i]?=some (cx e s k f E ll))(p:∀x,(f x).length=k):∃rs,aa B h0 h (As.set i (cu E k f s rs ll)):=by
 have g:i<As.length:=(qn.1 m).1;have t:aa B h0 h (As.set i (HP.ex fun rs=>cu E k f s rs ll)):=H.fO i m fun q ⟨rs,v,a,b,c,d,e⟩=>⟨rs,a.seq p fun x o=>(b x o).1,d,fun i r l u n=>E.mono (e i r l u n) c⟩
 obtain⟨rs,j⟩:=t.Vj i (zy g);exact⟨rs,by rw[vi]at j;exact j⟩
theorem aa.dV(H:aa B h0 h As)(i:Nat)(a:As[i]?=some (cu E k f s rs ll)):nk E k f h s rs ll:=H.at i a
theorem aa.Fi(d:C.Ok)(H:aa B h0 h As)(e:C.T.get t=some ti){K:Addr->Heap->Prop}(f:∀a h',aU (fun b=>b<h.size) h h'->aa B h0 h' (As++[aq a t ti.zero])->K a h'):
  aK C.P (Instr.alloc t true (.tuple #[])) h K:=
 Am d e fun a h' x y c _=>f a h' (c.mono fun _ _ _=>trivial) (H.comp (Mt x y c))
theorem aa.Ki(E:C.Ok)(H:aa B h0 h As)(f:α->aW)(D:bW C.toBE t e k z by_)(l:0<by_/\by_<=128)(d:α)(s:f d=z)(g:z.length=k){u A:IntKind}{n o:Int}(m c:Nat)(q:n=m)(r:o=c)(j:m<=c)(i:c<=2^32)
  {K:Sl->Heap->Prop} (v:∀a h',a.len=m->aU (fun b=>b<h.size) h h'->aa B h0 h' (As++[ar e a k f (qg m d)])->K a h'):
  az C.P (Instr.makeSlice t (.int u n) (.int A o)) (.one (.sc .slc)) h K:=
 run_make E D l d s g m c q r j i fun a h' x y w p _=>v a h' (by rw[x.len];simp) (p.mono fun _ _ _=>trivial) (H.comp (Ms rfl x y p))
end
section
variable {B:aB} {α:Type} {C:Ctx} {h0 h:Heap} {As:List HP} {e t k by_:Nat} {s:Sl} {f:α->aW} {l:List α} {z:aW}
theorem DT(z:aW)(n:Nat):(yf z.toArray n).toList.length=n*z.length:=by
 simp[yf]
theorem OF{z:aW}(d:∀v∈z,v.oneCell'=true)(n:Nat):∀v∈(yf z.toArray n).toList,v.oneCell'=true:=by
 intro v c;simp only[yf,Array.toList_map,qq,Array.mem_toList_iff,Array.mem_range]at c;obtain⟨i,b,rfl⟩:=c;simp only[wY]at b⊢;have h0:0<z.length:=by
  rcases Nat.eq_zero_or_pos z.length with h|h
  ·rw[h]at b;simp at b
  ·exact h
 have a:=yL i h0;rw[getElem!_pos z.toArray _ (by simpa using a)];exact d _ (by simp)
theorem Own.nW(B:C.Ok)(g:Own h e s k f l)(A:bW C.toBE t e k z by_)(i:∀x,(f x).length=k)(w:z.length=k)(d:∀v∈z,v.oneCell'=true)(j:Nat)(y:j<=l.length){ty:Nat}{K:Heap->Prop}
  (p:∀h',Own h' e ⟨s.ptr,j,s.cap⟩ k f (l.take j)->aU (fun b=>¬s.on b) h h'->K h'):
  ag C.P (yz #[t] ty #[.slice (if s.cap=j then s.ptr else s.ptr.map (·.add (j*k))) (s.len-j) (s.cap-j)]) h fun _ h'=>K h':=by
 have O:=g.len;have c:=g.cut i j y;unfold yz;refine ag.bind (ag.always (aM (A.under B)) ?_);by_cases o:j=l.length
 ·have E:s.len-j=0:=by omega
  rw[E];generalize (if s.cap=j then s.ptr else s.ptr.map (·.add (j*k)))=q;cases q with
  |none=>exact ag.pure' (p h c (aU.refl _ _))
  |some a=>exact ag.pure' (p h c (aU.refl _ _))
 ·rcases g.head with⟨h1,h2,h3⟩|⟨b,rest,h1,h2,h3,h4⟩
  ·subst h3;simp at y o;omega
  ·have u:s.cap≠j:=by omega
   rw[if_neg u,h1];obtain⟨m,M⟩:∃m,s.len-j=m+1:=⟨s.len-j-1,by omega⟩
   rw[M];obtain⟨R,T,U,N,F,Q,J,S⟩:=A.ex;obtain⟨G,L,D⟩:=rJ B.toOk F;refine ag.bind (ag.always L ?_);have r:G.cells=z.toArray:=by apply Array.ext';rw[D,J]
   rw[r];refine ag.bind ?_;have H:((⟨b,0,none⟩:Addr).add (j*k))=⟨b,j*k,none⟩:=by simp[add_eq]
   show ag C.P (storeCells ((⟨b,0,none⟩:Addr).add (j*k)) (yf z.toArray (m+1)).toList) h _;rw[H];have n:(l.drop j).length=m+1:=by simp;omega
   refine fA (e:=e) (pre:=(l.take j).flatMap f) (old:=(l.drop j).flatMap f) (post:=rest) ?_ ?_ ?_ (OF d _) ?_
   ·rw[<-zh,qI];exact h2
   ·rw[dR i,n,DT,w]
   ·rw[dR i,zd,yo (by omega)];omega
   ·refine ag.pure' (p _ ⟨by simp;omega,.inr ⟨b,(yf z.toArray (m+1)).toList++rest,h1,?_,?_,by dsimp only;omega⟩⟩ ?_)
    ·rw[iF h2,if_pos rfl];simp
    ·rw[qx,DT,w,h3,<-Nat.add_mul];dsimp only;congr 1;omega
    ·exact aU.ji h2 fun I=>I ⟨0,h1⟩
theorem aa.nW(w:C.Ok)(H:aa B h0 h As)(i:Nat)(g:As[i]?=some (ar e s k f l))(u:bW C.toBE t e k z by_)(o:∀x,(f x).length=k)(n:z.length=k)(a:∀v∈z,v.oneCell'=true)(j:Nat)(r:j<=l.length){ty:Nat}{K:Heap->Prop}
  (p:∀h',aa B h0 h' (As.set i (ar e ⟨s.ptr,j,s.cap⟩ k f (l.take j)))->K h'):
  ag C.P (yz #[t] ty #[.slice (if s.cap=j then s.ptr else s.ptr.map (·.add (j*k))) (s.len-j) (s.cap-j)]) h fun _ h'=>K h':=
 (H.own i g).nW w u o n a j r fun h' x y=>p h' (H.step i g fun q m _=>⟨y.mono fun b _ c d=>c (m.2 b d),x,fun b c=>⟨x.lt c,.inl (m.2 b c)⟩⟩)
end
section
variable {α:Type} {C:Ctx} {B:aB} {h0 h:Heap} {As:List HP} {e t k:Nat} {s:Sl} {f:α->aW} {l:List α} {i:TI}
theorem Own.aag(L:C.Ok)(u:Own h e s k f l)(w:∀x,(f x).length=k)(J:C.T.get t=some i){x:Int}(n:Nat)(D:x=n)(r:n<l.length)(j:Nat)(vs:aW)(M:j+vs.length<=k){p:Value}(y:α)(I:p.cells=vs.toArray)(v:i.size=vs.length)
  (m:vs.all (·.oneCell')=true) (F:f y=(f l[n]).take j++vs++(f l[n]).drop (j+vs.length)) {K:Heap->Prop} (G:∀h',Own h' e s k f (l.set n y)->aU (fun b=>¬s.on b) h h'->K h'):
  ∃a:Addr,(s.ptr=some a/\0<=x/\x<((s.len:Nat):Int))/\ag C.P (qf t (.pointer (some ((a.add (x.toNat*k)).add j))) p) h fun _ h'=>K h':=by
 subst D;rcases u.head with⟨_,_,h3⟩|⟨b,rest,h1,h2,h3,h4⟩
 ·subst h3;simp at r
 ·refine⟨_,⟨h1,by omega,by rw[u.len];omega⟩,?_⟩;unfold qf;refine ag.bind (ag.pure' ?_);unfold storeVar;refine ag.bind (ag.always (dQ L.toOk J) ?_);rw[I,v];simp only[wY,ne_eq,not_true,if_false];rw[add_eq,add_eq,wy,Int.toNat_natCast];have g:l=l.take n++l[n]::l.drop (n+1):=by rw[<-List.drop_eq_getElem_cons r,qI]
  have q:l.set n y=l.take n++y::l.drop (n+1):=List.set_eq_take_append_cons_drop.trans (if_pos r);have o:((l.take n).flatMap f).length=n*k:=by rw[dR w,zd,yo (by omega)]
  have E:=w l[n];have d:f l[n]=(f l[n]).take j++((f l[n]).drop j).take vs.length++(f l[n]).drop (j+vs.length):=by
   rw[qp,<-List.drop_drop,qI,qI]
  refine fA (e:=e) (pre:=(l.take n).flatMap f++(f l[n]).take j) (old:=((f l[n]).drop j).take vs.length) (post:=(f l[n]).drop (j+vs.length)++((l.drop (n+1)).flatMap f++rest)) ?_ ?_ ?_ ?_ ?_
  ·have:l.flatMap f++rest=(l.take n).flatMap f++(f l[n]).take j++((f l[n]).drop j).take vs.length++((f l[n]).drop (j+vs.length)++((l.drop (n+1)).flatMap f++rest)):=by
    have A:=congrArg (List.flatMap f) g;rw[zh,zl]at A;rw[A];generalize f l[n]=z at d;rw[qp]at d;simp only[qp];congr 1
    conv=>lhs;rw[d]
    simp only[qp]
   rw[<-this];exact h2
  ·simp;omega
  ·rw[qx,o,zd];omega
  ·intro c B;exact List.all_eq_true.1 m c B
  ·refine G _ ⟨by rw[zA];exact u.len,.inr ⟨b,rest,h1,?_,h3,h4⟩⟩ (aU.ji h2 (fun H=>H ⟨0,h1⟩));rw[iF h2,if_pos rfl,q,zh,zl,F];simp[qp]
theorem aa.aag(E:C.Ok)(H:aa B h0 h As)(g:Nat)(c:As[g]?=some (ar e s k f l))(q:∀x,(f x).length=k)(A:C.T.get t=some i){x:Int}(n:Nat)(p:x=n)(o:n<l.length)(j:Nat)(vs:aW)(D:j+vs.length<=k){d:Value}(y:α)(v:d.cells=vs.toArray)(m:i.size=vs.length)
  (b:vs.all (·.oneCell')=true) (r:f y=(f l[n]).take j++vs++(f l[n]).drop (j+vs.length)) {K:Heap->Prop} (u:∀h',aa B h0 h' (As.set g (ar e s k f (l.set n y)))->K h'):
  ∃a:Addr,(s.ptr=some a/\0<=x/\x<((s.len:Nat):Int))/\ag C.P (qf t (.pointer (some ((a.add (x.toNat*k)).add j))) d) h fun _ h'=>K h':=
 (H.own g c).aag E q A n p o j vs D y v m b r fun h' z w=>u h' (H.nU g c w z)
end
def HP.all:List HP->HP
 |[]=>emp
 |A::L=>A.sep (HP.all L)
section
variable {B:aB} {h0 h h':Heap} {As L:List HP} {A D E:HP}
theorem aa.BI:∀{L:List HP} {As:List HP},aa B h0 h (HP.all L::As)->aa B h0 h (L++As)
 |[],_,H=>H.rest
 |A::L,As,H=>by
  have f:aa B h0 h (HP.all L::A::As):=H.Kh;have g:=aa.BI f;exact g.pick (fun i=>if i=0 then L.length else if i<=L.length then i-1 else i) (fun a b c=>by(try dsimp only at c);split at c<;>split at c<;>(try split at c)<;>(try split at c)<;>omega) fun i X d=>by
   try dsimp only
   rw[zB]at d;cases i with
   |zero=>simp at d;subst d;rw[if_pos rfl,qj (Nat.le_refl _),zi];rfl
   |succ i=>
    rw[qy]at d;rw[if_neg (by omega)];by_cases e:i<L.length
    ·rw[qm e]at d;rw[if_pos (by omega),qm (by omega)];simpa using d
    ·rw[qj (by omega)]at d;rw[if_neg (by omega),qj (by omega)];rw[show i+1-L.length=(i-L.length)+1 by omega,qy];exact d
theorem aa.closeAll:∀(L:List HP) {As:List HP},aa B h0 h (L++As)->aa B h0 h (HP.all L::As)
 |[],As,H=>((H.comp (.one (A:=emp) (aU.refl _ _) trivial)).bC:aa B h0 h (emp::As))
 |A::L,As,H=>by
  have g:aa B h0 h (L++(A::As)):=H.pick (fun i=>if i<L.length then i+1 else if i=L.length then 0 else i) (fun a b c=>by(try dsimp only at c);split at c<;>split at c<;>(try split at c)<;>(try split at c)<;>omega) fun i X d=>by
   try dsimp only
   by_cases e:i<L.length
   ·rw[qm e]at d;rw[if_pos e,zB,qy,qm e];exact d
   ·rw[qj (by omega)]at d;by_cases f:i=L.length
    ·subst f;rw[zi]at d;rw[if_neg (by omega),if_pos rfl];simpa using d
    ·rw[if_neg e,if_neg f,zB];obtain⟨j,rfl⟩:∃j,i=L.length+(j+1):=⟨i-L.length-1,by omega⟩
     rw[zq,qy]at d;rw[show L.length+(j+1)=(L.length+j)+1 by omega,qy,qj (by omega),zq];exact d
  exact(aa.closeAll L g).oL
theorem aa.IV{P:Prop}(H:aa B h0 h (A.and P::As)):aa B h0 h (A::As)/\P:=⟨H.abV 0 rfl,H.fact 0 rfl⟩
theorem aa.toIV{P:Prop}(H:aa B h0 h (A::As))(p:P):aa B h0 h (A.and P::As):=H.afr 0 rfl p
end
def lN{α:Type}(e:TypeId)(s:Sl)(b:TypeId)(k:Nat)(f:α->aW)(a:List (List α)):HP:=
 HP.ex fun rs:List Sl=>(HP.all (ar e s 1 bJ rs::bR b k f rs a)).and (rs.length=a.length)
section
variable {α:Type} {C:Ctx} {B:aB} {h0 h h':Heap} {As:List HP} {e e2 k t by_:Nat} {s:Sl} {f:α->aW} {ll:List (List α)}
theorem aa.Kj(H:aa B h0 h (lN e s e2 k f ll::As)):∃rs:List Sl,rs.length=ll.length/\aa B h0 h ((ar e s 1 bJ rs::bR e2 k f rs ll)++As):=by
 obtain⟨rs,H⟩:=H.Ht;obtain⟨H,a⟩:=H.IV;exact⟨rs,a,H.BI⟩
theorem aa.Qd{rs:List Sl}(a:rs.length=ll.length)(H:aa B h0 h ((ar e s 1 bJ rs::bR e2 k f rs ll)++As)):aa B h0 h (lN e s e2 k f ll::As):=
 ((aa.closeAll _ H).toIV a).Kg (F:=fun rs:List Sl=>(HP.all (ar e s 1 bJ rs::bR e2 k f rs ll)).and (rs.length=ll.length)) rs
theorem aa.Fk(H:aa B h0 h As)(e a k:Nat)(f:α->aW):aa B h0 h (lN e ⟨none,0,0⟩ a k f []::As):=
 aa.Qd (rs:=[]) rfl ((H.nil e 1 bJ).bC)
theorem aa.aah{Bs:List HP}(H:aa B h0 h (As++Bs)):aa B h0 h As:=H.pick id (fun _ _ h=>h) fun i A a=>by
 rw[id,qm (qn.1 a).1];exact a
theorem aa.NB(H:aa B h0 h (lN e s e2 k f ll::As))(b:∀x,(f x).length=k):gx h s k f ll:=by
 obtain⟨rs,a,H⟩:=H.Kj;exact aa.PU (aa.aah H) a b
theorem aa.AZ(H:aa B h0 h (lN e s e2 k f ll::As)):s.len=ll.length/\s.len<=s.cap:=by
 obtain⟨rs,a,H⟩:=H.Kj;exact⟨by rw[(H.own 0 rfl).len,a],(H.own 0 rfl).cap⟩
theorem aa.Hu(l:C.Ok){r:Sl}{x:List α}(H:aa B h0 h (lN e s e2 k f ll::ar e2 r k f x::As))(i:bW C.toBE t e 1 [.slice none 0 0] 24)(j:ll.length+1<=2^32){ty:Nat}{K:Sl->Heap->Prop}
  (g:∀a h',aa B h0 h' (lN e a e2 k f (ll++[x])::As)->K a h'):
  az C.P (qt t 1 #[(0,.slice r.ptr r.len r.cap)]) (.one (.sc .slc)) h fun v m=>az C.P (qw #[t,t] ty #[.slice s.ptr s.len s.cap,.slice v.ptr v.len v.cap]) (.one (.sc .slc)) m K:=by
 obtain⟨rs,c,H⟩:=H.Kj;refine H.push l 0 rfl i rfl (by decide) (fun _=>rfl) lY r rfl (by decide) (by omega) fun a h' b=>g a h' ?_;refine aa.Qd (rs:=rs++[r]) (by simp[c]) ?_;rw[uL c];have b:aa B h0 h' (ar e a 1 bJ (rs++[r])::(bR e2 k f rs ll++ar e2 r k f x::As)):=b;have d:ar e a 1 bJ (rs++[r])::(bR e2 k f rs ll++[ar e2 r k f x])++As=ar e a 1 bJ (rs++[r])::(bR e2 k f rs ll++ar e2 r k f x::As):=by simp
 rw[d];exact b
end
end Go.Vc
