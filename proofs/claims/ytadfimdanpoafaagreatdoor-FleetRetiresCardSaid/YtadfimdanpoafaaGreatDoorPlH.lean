/- Lemmas. -/
import Derived.Test.YtadfimdanpoafaaGreatDoorPlE
set_option linter.unusedVariables false
set_option linter.unusedSimpArgs false
open List renaming ext_getElem -> wk, foldl_append -> wN, foldl_nil -> wQ, getD_eq_getElem?_getD -> qe, getElem?_append_left -> qm, getElem?_append_right -> qj, getElem?_eq_getElem -> qd, getElem?_eq_none -> zg, getElem?_map -> qO, getElem?_set -> qX, getElem?_take -> vw, getElem_drop -> wb, getElem_mem -> qh, getElem_of_mem -> qH, length_append -> qx, length_drop -> za, length_map -> qu, length_range -> zx, mem_append -> qA, mem_map -> qq, mem_of_mem_take -> wD, mem_singleton -> qG, range -> qE, replicate -> qg, take_of_length_le -> qi, take_succ_eq_append_getElem -> zn, take_zero -> vU
open Bool renaming or_eq_true -> wg
open UInt8 renaming lt_iff_toNat_lt -> zQ, xor_zero -> zU, zero_xor -> wi
open Nat renaming le_refl -> ql, lt_succ_iff_lt_or_eq -> zk, sub_self -> zi
open Int renaming toNat_natCast -> qo
namespace Wl
open Go
def cN(o b t:Int):Int:=(128*o+16*b+t)%4294967296
def cX(m:aG)(r:cC):Bool:=ia r&&(decide (r.p=m.p)&&m.objs.any fun x=>decide (x.object=r.object)&&(decide (r.block<(x.tries.length:Int))&&decide (r.seed=cN r.object r.block (x.tries.getD r.block.toNat 0))))
def pM(a b:cC):Bool:=decide (a.object<b.object∨(a.object=b.object/\(a.block<b.block∨(a.block=b.block/\a.id<=b.id))))
def mH(a b:cC):Bool:=decide (a.object=b.object/\a.block=b.block/\a.id=b.id)
def Kn:cC:=⟨0,0,0,(0,0,0),0,[]⟩
def oP(l:List cC)(k:Nat):Bool:=decide (k=0)||!mH (l.getD k Kn) (l.getD (k-1) Kn)
def rh(l:List cC):List cC:=((qE l.length).filter (oP l)).map fun i=>l.getD i Kn
def jw(m:aG)(c:aX):Option cC:=match dp c with|some r=>if cX m r then some r else none|none=>none
def cZ(m:aG)(l:cD):List cC:=rh ((l.filterMap (jw m)).mergeSort pM)
theorem aeh:Ord pM:=⟨fun a b c e d=>by
 unfold pM at*;rw[decide_eq_true_eq]at*;omega,fun a b=>by
 unfold pM;rw[wg,decide_eq_true_eq,decide_eq_true_eq];omega⟩
theorem Vs(m:aG)(l:cD)(i:Nat)(a:i<l.length):(l.take (i+1)).filterMap (jw m)=(l.take i).filterMap (jw m)++(jw m l[i]).toList:=by
 have:l.take (i+1)=l.take i++[l[i]]:=by rw[List.take_add_one,qd a];rfl
 rw[this,List.filterMap_append];cases hg:jw m l[i]with
 |none=>simp[hg]
 |some r=>simp[hg]
theorem Pt:∀x y:aX,(Op.bytesLess x y||x==y)=!Op.bytesLess y x
 |[],[]=>rfl
 |[],_::_=>rfl
 |_::_,[]=>by simp[Op.bytesLess]
 |a::x,b::y=>by
  have f:=Pt x y;have d:a<b∨a=b∨b<a:=by
   rcases Nat.lt_trichotomy a.toNat b.toNat with h|h|h
   ·exact .inl (zQ.2 h)
   ·exact .inr (.inl (UInt8.toNat_inj.1 h))
   ·exact .inr (.inr (zQ.2 h))
  rcases d with h|rfl|h
  ·have c:¬b<a:=fun h'=>by have:=zQ.1 h;have:=zQ.1 h';omega
   have e:b≠a:=fun h'=>by subst h';exact c h
   simp[Op.bytesLess,h,c,e]
  ·have c:¬a<a:=fun h'=>by have:=zQ.1 h';omega
   simp only[Op.bytesLess,c,decide_false,Bool.false_or,beq_self_eq_true,Bool.true_and];rw[<-f];congr 1;simp
  ·have c:¬a<b:=fun h'=>by have:=zQ.1 h;have:=zQ.1 h';omega
   have e:a≠b:=fun h'=>by subst h';exact c h
   simp[Op.bytesLess,h,c,e]
theorem Hw:∀x y z:aX,Op.bytesLess x y=true->Op.bytesLess y z=true->Op.bytesLess x z=true
 |x,[],_,h1,_=>by cases x<;>simp[Op.bytesLess]at h1
 |_,b::y,[],_,h2=>by simp[Op.bytesLess]at h2
 |[],_::_,_::_,_,_=>rfl
 |a::x,b::y,c::z,h1,h2=>by
  simp only[Op.bytesLess,wg,decide_eq_true_eq,Bool.and_eq_true,beq_iff_eq]at h1 h2⊢;rcases h1 with h1|⟨rfl,h1⟩
  ·rcases h2 with h2|⟨rfl,h2⟩
   ·exact .inl (zQ.2 (by have:=zQ.1 h1;have:=zQ.1 h2;omega))
   ·exact .inl h1
  ·rcases h2 with h2|⟨rfl,h2⟩
   ·exact .inl h2
   ·exact .inr ⟨rfl,Hw x y z h1 h2⟩
theorem XC(x:aX):Op.bytesLess x x=false:=by
 have:=Pt x x;cases h:Op.bytesLess x x with
 |false=>rfl
 |true=>rw[h]at this;simp at this
def jm(a b:ByteArray):Bool:=!eU b a
theorem Ko(a b:ByteArray):jm a b=true↔eU a b=true∨a.toList=b.toList:=by
 unfold jm eU;rw[<-Pt,wg,beq_iff_eq]
theorem Fq(a b c:ByteArray)(e:jm a b=true)(d:jm b c=true):jm a c=true:=by
 rw[Ko]at e d⊢;unfold eU at*;rcases e with e|e
 ·rcases d with d|d
  ·exact .inl (Hw _ _ _ e d)
  ·rw[<-d];exact .inl e
 ·rw[e];exact d
theorem Fs(a b:ByteArray):(jm a b||jm b a)=true:=by
 unfold jm;cases h:eU b a with
 |false=>rfl
 |true=>
  have:eU a b=false:=by
   cases h2:eU a b with
   |false=>rfl
   |true=>
    have:=Hw _ _ _ h h2;rw[XC]at this;cases this
  rw[this];rfl
def tW(a b:bV):Bool:=jm a.name b.name
def db(m:aG)(x:bV):aG:={m with seq:=m.seq+1,next:=m.next+1,objs:=(m.objs++[x]).mergeSort tW}
open Classical
theorem kL(a:UInt8):a^^^a=0:=UInt8.xor_self
theorem uy(a b:UInt8):(a^^^b)^^^b=a:=by rw[UInt8.xor_assoc,kL,zU]
theorem cQ{c:UInt8}{a t:Row}(h:a.length=t.length)(j:Nat):aQ (dl c a t) j=aQ t j^^^Gf.mul c (aQ a j):=by
 simp only[aQ,dl,qe,List.getElem?_zipWith];by_cases b:j<a.length
 ·rw[qd b,qd (by omega)];rfl
 ·rw[zg (by omega),zg (by omega)];simp[Gf.mul_zero]
theorem Av(c:UInt8)(a:Row)(j:Nat):aQ (scaleB c a) j=Gf.mul c (aQ a j):=by
 simp only[aQ,scaleB,qe,qO];cases a[j]? with
 |none=>simp[Gf.mul_zero]
 |some x=>rfl
def aN(n:Nat):Row:=qg n 0
theorem cz(n j:Nat):aQ (aN n) j=0:=by
 simp only[aQ,aN,qe,List.getElem?_replicate];split<;>rfl
theorem fB{n:Nat}{a b:Row}(f:a.length=n)(e:b.length=n)(h:∀j,j<n->aQ a j=aQ b j):a=b:=by
 apply wk (by omega);intro j d c;have:=h j (by omega);simpa[aQ,qe,qd d,qd c]using this
inductive Span (n:Nat) (m:aS):Row->Prop
 |zero:Span n m (aN n)
 |add (c:UInt8) (r v:Row):r∈m->Span n m v->Span n m (dl c r v)
section
variable {n:Nat} {m m':aS}
theorem Span.len(a:bg n m){v:Row}(h:Span n m v):v.length=n:=by
 induction h with
 |zero=>simp[aN]
 |add c r v hr _ ih=>rw[ci (by rw[a r hr,ih])];exact ih
theorem Span.comb(a:bg n m){u v:Row}(e:Span n m u)(b:Span n m v)(c:UInt8):Span n m (dl c u v):=by
 induction e with
 |zero=>
  have:dl c (aN n) v=v:=fB (n:=n) (by rw[ci (by simp[aN,b.len a])];exact b.len a) (b.len a) fun j _=>by
   rw[cQ (by simp[aN,b.len a]),cz,Gf.mul_zero,zU]
  rw[this];exact b
 |add d r w hr hw ih=>
  have l1:=b.len a;have l2:=hw.len a;have f:=a r hr;have:dl c (dl d r w) v=dl (Gf.mul c d) r (dl c w v):=fB (n:=n) (by rw[ci (by rw[ci];omega)];exact l1) (by rw[ci (by rw[ci];omega),ci];exact l1) fun j _=>by
   rw[cQ (by rw[ci];omega),cQ (by omega),cQ (by rw[ci];omega),cQ (by omega),Gf.jG,Gf.mul_assoc]
   ac_rfl
  rw[this];exact .add _ _ _ hr ih
theorem Span.row(b:bg n m){r:Row}(a:r∈m):Span n m r:=by
 have:=Span.add 1 r _ a (.zero (n:=n) (m:=m));have e:dl 1 r (aN n)=r:=fB (n:=n) (by rw[ci (by simp[aN,b r a])];simp[aN]) (b r a) fun j _=>by
  rw[cQ (by simp[aN,b r a]),cz,Gf.one_mul,wi]
 rwa [e]at this
theorem Span.sub(a:bg n m)(h:∀r∈m',Span n m r){v:Row}(b:Span n m' v):Span n m v:=by
 induction b with
 |zero=>exact .zero
 |add c r v hr _ ih=>exact(h r hr).comb a ih c
theorem Span.mono(h:∀r∈m',r∈m){v:Row}(a:Span n m' v):Span n m v:=by
 induction a with
 |zero=>exact .zero
 |add c r v hr _ ih=>exact .add c r v (h r hr) ih
theorem Span.lin(d:bg n m)(φ:Row->UInt8)(h0:φ (aN n)=0)(e:∀c a t,a.length=n->t.length=n->φ (dl c a t)=φ t^^^Gf.mul c (φ a))(f:∀r∈m,φ r=0){v:Row}(b:Span n m v):φ v=0:=by
 induction b with
 |zero=>exact h0
 |add c r v hr' b ih=>rw[e c r v (d r hr') (b.len d),ih,f r hr',Gf.mul_zero,zU]
end
def Ba(S:Row->Prop)(j:Nat):Prop:=∃v,S v/\(∀i,i<j->aQ v i=0)/\aQ v j≠0
noncomputable def leads(S:Row->Prop)(n:Nat):Nat:=(qE n).countP fun j=>decide (Ba S j)
structure Way (n:Nat) (m:aS) (c top:Nat) (rows:aS):Prop where
 even:bg n rows
 len:rows.length=m.length
 tle:top<=rows.length
 span:∀v,Span n rows v↔Span n m v
 cnt:top=leads (Span n m) c
 piv:∃p:Nat->Nat,(∀i,i<top->p i<c)/\(∀i,i<top->∀k,k<rows.length->aQ (aA rows k) (p i)=if k=i then 1 else 0)/\(∀i,i<top->∀j,j<p i->aQ (aA rows i) j=0)/\(∀i j,i<j->j<top->p i<p j)
 low:∀k,top<=k->k<rows.length->∀j,j<c->aQ (aA rows k) j=0
theorem mem_row{m:aS}{i:Nat}(h:i<m.length:=by omega):aA m i∈m:=by rw[bv h];exact qh h
theorem fC{m:aS}{r:Row}(h:r∈m):∃i,i<m.length/\r=aA m i:=by
 obtain⟨i,a,rfl⟩:=qH h;exact⟨i,a,(bv a).symm⟩
theorem kz{m:aS}{i j:Nat}{r:Row}(a:i<m.length:=by omega):aA (m.set i r) j=if i=j then r else aA m j:=by
 simp only[aA,qe,qX];by_cases h:i=j
 ·subst h;simp[a]
 ·simp[h]
theorem uU{m:aS}{i j k:Nat}(c:i<m.length)(d:j<m.length):aA (iN m i j) k=if k=j then aA m i else if k=i then aA m j else aA m k:=by
 rw[iN,kz (by simpa using d),kz c];by_cases b:j=k
 ·rw[if_pos b,if_pos b.symm]
 ·rw[if_neg b,if_neg (show¬k=j from fun h=>b h.symm)];by_cases a:i=k
  ·rw[if_pos a,if_pos a.symm]
  ·rw[if_neg a,if_neg (show¬k=i from fun h=>a h.symm)]
theorem CX{m:aS}{t c k:Nat}(a:t<m.length):aA (ju t c m) k=if t=k then scaleB (Gf.inv (aQ (aA m t) c)) (aA m t)else aA m k:=by
 rw[ju,kz a]
section
variable {n:Nat} {m:aS}
theorem XD(l:bg n m){i j:Nat}(a:i<m.length)(b:j<m.length)(v:Row):Span n (iN m i j) v↔Span n m v:=by
 refine⟨Span.mono fun r d=>?_,Span.mono fun r d=>?_⟩
 ·obtain⟨k,c,rfl⟩:=fC d;rw[kK]at c;rw[uU a b];split
  ·exact mem_row a
  ·split
   ·exact mem_row b
   ·exact mem_row c
 ·obtain⟨k,c,rfl⟩:=fC d;have e:∀x,x<m.length->aA (iN m i j) x∈iN m i j:=fun x h=>mem_row (by rw[kK];exact h);by_cases f:k=i
  ·subst f;have:=e j b;rw[uU a b,if_pos rfl]at this;exact this
  ·by_cases g:k=j
   ·subst g;have:=e i a;rw[uU a b]at this;by_cases h3:i=k
    ·exact absurd h3.symm f
    ·rw[if_neg h3,if_pos rfl]at this;exact this
   ·have:=e k c;rw[uU a b,if_neg g,if_neg f]at this;exact this
theorem XE(h:bg n m){t c:Nat}(d:t<m.length)(i:aQ (aA m t) c≠0)(v:Row):Span n (ju t c m) v↔Span n m v:=by
 have b:=Aq h (c:=c) d;have f:=cj h d;have q:∀(x:UInt8) (r:Row),r.length=n->scaleB x r=dl x r (aN n):=fun x r a=>fB (n:=n) (by rw[Ap,a]) (by rw[ci (by simp[aN,a])];simp[aN]) fun j _=>by
  rw[Av,cQ (by simp[aN,a]),cz,wi]
 refine⟨Span.sub h fun r a=>?_,Span.sub b fun r a=>?_⟩
 ·obtain⟨k,g,rfl⟩:=fC a;rw[nJ]at g;rw[CX d];split
  ·rw[q _ _ f];exact .add _ _ _ (mem_row d) .zero
  ·exact Span.row h (mem_row g)
 ·obtain⟨k,g,rfl⟩:=fC a;have e:∀x,x<m.length->Span n (ju t c m) (aA (ju t c m) x):=fun x p=>Span.row b (mem_row (by rw[nJ];exact p));by_cases o:t=k
  ·subst o;have:=e t d;rw[CX d,if_pos rfl]at this;have l:=this.comb b .zero (aQ (aA m t) c);have s:dl (aQ (aA m t) c) (scaleB (Gf.inv (aQ (aA m t) c)) (aA m t)) (aN n)=aA m t:=fB (n:=n) (by rw[ci (by simp[aN,Ap,f])];simp[aN]) f fun j _=>by
    rw[cQ (by simp[aN,Ap,f]),cz,wi,Av,<-Gf.mul_assoc,Gf.Mx i,Gf.one_mul]
   rw[s]at l;exact l
  ·have:=e k g;rw[CX d,if_neg o]at this;exact this
theorem XF(d:bg n m){t c:Nat}(g:t<m.length)(v:Row):Span n (eP t c m m.length) v↔Span n m v:=by
 have b:=Ar d (c:=c) (k:=m.length) g;have s:=cj d g;refine⟨Span.sub d fun r h=>?_,Span.sub b fun r h=>?_⟩
 ·obtain⟨k,a,rfl⟩:=fC h;rw[nK]at a;rw[rg a];split
  ·exact .add _ _ _ (mem_row g) (Span.row d (mem_row a))
  ·exact Span.row d (mem_row a)
 ·obtain⟨k,a,rfl⟩:=fC h;have e:∀x,x<m.length->Span n (eP t c m m.length) (aA (eP t c m m.length) x):=fun x p=>Span.row b (mem_row (by rw[nK];exact p));have i:=e t g;rw[rg g,if_neg (by simp)]at i;by_cases o:k=t
  ·subst o;exact i
  ·have l:=e k a;rw[rg a,if_pos ⟨a,o⟩]at l;have h3:=i.comb b l (aQ (aA m k) c);have f:=cj d a;have q:dl (aQ (aA m k) c) (aA m t) (dl (aQ (aA m k) c) (aA m t) (aA m k))=aA m k:=fB (n:=n) (by rw[ci (by rw[ci];omega),ci];exact f) f fun j _=>by
    rw[cQ (by rw[ci];omega),cQ (by omega),uy]
   rw[q]at h3;exact h3
def bF(f g:Nat->UInt8):Nat->UInt8
 |0=>0
 |k+1=>bF f g k^^^Gf.mul (f k) (g k)
theorem fv(f g:Nat->UInt8):∀k,(∀i,i<k->f i=0)->bF f g k=0
 |0,_=>rfl
 |k+1,h=>by rw[bF,fv f g k fun i a=>h i (by omega),h k (by omega),Gf.zero_mul];rfl
theorem Hx(f g:Nat->UInt8)(x:Nat):∀k,x<k->(∀i,i<k->f i=if x=i then 1 else 0)->bF f g k=g x
 |0,hx,_=>by omega
 |k+1,hx,h=>by
  rw[bF];by_cases a:x=k
  ·subst a;rw[fv f g x fun i b=>by rw[h i (by omega),if_neg (by omega)],h x (by omega),if_pos rfl,Gf.one_mul,wi]
  ·rw[Hx f g x k (by omega) fun i b=>h i (by omega),h k (by omega),if_neg a,Gf.zero_mul,zU]
theorem Hy(b a g:Nat->UInt8)(c:UInt8):∀k,bF (fun i=>b i^^^Gf.mul c (a i)) g k=bF b g k^^^Gf.mul c (bF a g k)
 |0=>by simp[bF,Gf.mul_zero]
 |k+1=>by
  rw[bF,bF,bF,Hy b a g c k,Gf.jG,Gf.Ui,Gf.mul_assoc]
  ac_rfl
theorem Kp(S:Row->Prop)(c:Nat):leads S (c+1)=leads S c+if Ba S c then 1 else 0:=by
 simp only[leads,List.range_succ,List.countP_append,List.countP_cons,List.countP_nil];by_cases h:Ba S c<;>simp[h]
theorem XG(b:bg n m):Way n m 0 0 m:=⟨b,rfl,by omega,fun _=>Iff.rfl,by simp[leads],⟨fun _=>0,fun i a=>by omega,fun i a=>by omega,fun i a=>by omega,fun i j _ c=>by omega⟩,fun k _ _ j c=>by omega⟩
theorem aaj(hm:bg n m){c b:Nat}{rows:aS}(w:Way n m c b rows)(hc:c<n):Way n m (c+1) (iO (b,rows) c).1 (iO (b,rows) c).2:=by
 obtain⟨G,T,ad,X,L,⟨p,Q,p2,p3,p4⟩,g⟩:=w;have hS:∀v,Span n rows v↔Span n m v:=X;have U:Span n rows=Span n m:=funext fun v=>propext (hS v);unfold iO;dsimp only;cases hb:iC rows b c with
 |none=>
  have W:=Sy hb;dsimp only;have ah:¬Ba (Span n m) c:=by
   rw[<-U];rintro⟨v,hv,hz,am⟩;apply am;have hφ:=Span.lin G (fun v=>aQ v c^^^bF (fun i=>aQ v (p i)) (fun i=>aQ (aA rows i) c) b) (by
     simp only[cz];rw[fv _ _ _ fun i _=>rfl];rfl) (fun x a t ha ht=>by
     simp only[cQ (show a.length=t.length by omega)];rw[Hy,Gf.jG];ac_rfl) (fun r hr=>by
     obtain⟨k,I,rfl⟩:=fC hr;by_cases R:k<b
     ·rw[Hx _ _ k b R fun i F=>by rw[p2 i F k I]];exact kL _
     ·rw[W k (by omega) I,fv _ _ _ fun i F=>by rw[p2 i F k I,if_neg (by omega)]];rfl) hv
   rw[fv _ _ _ fun i F=>hz _ (Q i F),zU]at hφ;exact hφ
  refine⟨G,T,ad,X,by rw[Kp,if_neg ah,L];rfl,⟨p,fun i F=>by have:=Q i F;omega,p2,p3,p4⟩,fun k B D j f=>?_⟩;rcases zk.1 f with h|rfl
  ·exact g k B D j h
  ·exact W k B D
 |some at_=>
  have hh:=rN hb;obtain⟨h1,S,h3⟩:=hh;dsimp only;have s:b<rows.length:=by omega
  obtain⟨l,y⟩:∃l,l=iN rows b at_:=⟨_,rfl⟩
  have l1:l.length=rows.length:=by rw[y,kK]
  have Z:bg n l:=by rw[y];exact Fg G s S
  have q1:∀k,aA l k=if k=at_ then aA rows b else if k=b then aA rows at_ else aA rows k:=fun k=>by rw[y,uU s S]
  have ab:aA l b=aA rows at_:=by
   rw[q1];by_cases h:b=at_
   ·rw[if_pos h,h]
   ·rw[if_neg h,if_pos rfl]
  have M:aQ (aA l b) c≠0:=by rw[ab];exact h3
  obtain⟨u,z⟩:∃u,u=ju b c l:=⟨_,rfl⟩
  have l2:u.length=rows.length:=by rw[z,nJ,l1]
  have E:bg n u:=by rw[z];exact Aq Z (by omega)
  have q2:∀k,aA u k=if b=k then scaleB (Gf.inv (aQ (aA l b) c)) (aA l b)else aA l k:=fun k=>by rw[z,CX (by omega)]
  have ap:∀j,aQ (aA l b) j=0->aQ (aA u b) j=0:=fun j f=>by rw[q2,if_pos rfl,Av,f,Gf.mul_zero]
  have o:aQ (aA u b) c=1:=by rw[q2,if_pos rfl,Av,Gf.mul_comm,Gf.Mx M]
  obtain⟨N,q⟩:∃N,N=eP b c u rows.length:=⟨_,rfl⟩
  have l3:N.length=rows.length:=by rw[q,nK,l2]
  have q3:∀k,k<rows.length->∀j,aQ (aA N k) j=if k=b then aQ (aA u b) j else aQ (aA l k) j^^^Gf.mul (aQ (aA l k) c) (aQ (aA u b) j):=fun k I j=>by
   rw[q,rg (by omega)];by_cases h:k=b
   ·rw[if_neg (by omega),if_pos h,h]
   ·have e:=q2 k;rw[if_neg (fun hh=>h hh.symm)]at e;rw[if_pos ⟨I,h⟩,if_neg h,cQ (by rw[cj E,cj E]),e]
  have V:∀j,j<c->aQ (aA u b) j=0:=fun j f=>ap j (by rw[ab];exact g at_ h1 S j f);have keep:∀k,k<rows.length->∀j,j<c->aQ (aA N k) j=if k=b then 0 else aQ (aA l k) j:=fun k I j f=>by
   rw[q3 k I,V j f,Gf.mul_zero,zU]
  have J:∀k,k<b->aA l k=aA rows k:=fun k I=>by rw[q1,if_neg (by omega),if_neg (by omega)]
  have K:∀k,b<=k->k<rows.length->∀j,j<c->aQ (aA l k) j=0:=fun k B D j f=>by
   rw[q1];split
   ·exact g b (ql _) s j f
   ·split
    ·exact g at_ h1 S j f
    ·exact g k B D j f
  have A:∀v,Span n N v↔Span n m v:=fun v=>by
   rw[q,show rows.length=u.length by omega,XF E (by omega),z,XE Z (by omega) M,y,XD G s S,hS]
  have O:Ba (Span n m) c:=⟨aA N b,(A _).1 (Span.row (by rw[q];exact Ar E (by omega)) (mem_row)),fun j f=>by rw[keep b s j f,if_pos rfl],by rw[q3 b s,if_pos rfl,o];decide⟩
  have Y:eP b c (ju b c (iN rows b at_)) rows.length=N:=by rw[q,z,y]
  rw[Y];refine⟨by rw[q];exact Ar E (by omega),by omega,by omega,A,by rw[Kp,if_pos O,L],⟨fun i=>if i<b then p i else c,fun i F=>?_,fun i F k I=>?_,fun i F j f=>?_,fun i j ao f=>?_⟩,fun k B D j f=>?_⟩
  ·dsimp only;split
   ·have:=Q i (by assumption);omega
   ·omega
  ·dsimp only;by_cases d:i<b
   ·rw[if_pos d,keep k (by omega) _ (Q i d)];by_cases R:k<b
    ·rw[if_neg (by omega),J k R];exact p2 i d k (by omega)
    ·rw[if_neg (show¬k=i by omega)];split
     ·rfl
     ·exact K k (by omega) (by omega) _ (Q i d)
   ·have P:i=b:=by omega
    subst P;rw[if_neg d,q3 k (by omega)];by_cases H:k=i
    ·rw[if_pos H,if_pos H];exact o
    ·rw[if_neg H,if_neg H,o,Gf.mul_one];exact kL _
  ·dsimp only at f;by_cases d:i<b
   ·rw[if_pos d]at f;have:=Q i d;rw[keep i (by omega) j (by omega),if_neg (by omega),J i d];exact p3 i d j f
   ·have P:i=b:=by omega
    subst P;rw[if_neg d]at f;rw[keep i (by omega) j f,if_pos rfl]
  ·dsimp only;rw[if_pos (show i<b by omega)];split
   ·exact p4 i j ao (by assumption)
   ·exact Q i (by omega)
  ·rcases zk.1 f with h|rfl
   ·rw[keep k (by omega) j h,if_neg (by omega)];exact K k (by omega) (by omega) j h
   ·rw[q3 k (by omega),if_neg (by omega),o,Gf.mul_one];exact kL _
theorem Hz(a:bg n m):∀c,c<=n->Way n m c (bG m c).1 (bG m c).2
 |0,_=>XG a
 |c+1,h=>by rw[bG];exact aaj a (Hz a c (by omega)) (by omega)
theorem kT:∀c,bG [] c=(0,[])
 |0=>rfl
 |c+1=>by rw[bG,kT c];rfl
theorem oQ(a:bg n m):cR m=leads (Span n m) n:=by
 rw[<-(Hz a n (ql _)).cnt,cR];cases m with
 |nil=>rw[kT,kT]
 |cons x t=>rw[fP,bv (by simp)];rw[show((x::t)[0]).length=n from a _ (by simp)]
end
section
variable {n:Nat} {m m':aS}
theorem Vt{S a:Row->Prop}(h:∀v,S v->a v)(n:Nat):leads S n<=leads a n:=by
 refine List.countP_mono_left fun j _ b=>?_;simp only[decide_eq_true_eq]at b⊢;obtain⟨v,d,c⟩:=b;exact⟨v,h v d,c⟩
theorem Ft(a:bg n m):cR m<=n:=by
 rw[oQ a];have:=List.countP_le_length (p:=fun j=>decide (Ba (Span n m) j)) (l:=qE n);simpa[leads]using this
theorem XH(b:bg n m)(a:bg n m')(h:∀r∈m,r∈m'):cR m<=cR m':=by
 rw[oQ b,oQ a];exact Vt (fun v=>Span.mono h) n
theorem XI{P Q:Nat->Bool}(l:List Nat)(d:l.Nodup)(i:∀a∈l,P a=true->Q a=true)(e:∀a∈l,∀b∈l,Q a=true->P a=false->Q b=true->P b=false->a=b):l.countP Q<=l.countP P+1:=by
 induction l with
 |nil=>simp
 |cons x t ih=>
  rw[List.nodup_cons]at d;have h:=ih d.2 (fun a c=>i a (by simp[c])) (fun a c b f=>e a (by simp[c]) b (by simp[f]));simp only[List.countP_cons];cases hQ:Q x with
  |false=>
   have:(if P x=true then 1 else 0)>=0:=by omega
   simp;omega
  |true=>
   cases hP:P x with
   |true=>simp;omega
   |false=>
    have:t.countP Q<=t.countP P:=by
     refine List.countP_mono_left fun a c g=>?_;cases hpa:P a with
     |true=>rfl
     |false=>
      have:=e x (by simp) a (by simp[c]) hQ hP g hpa;subst this;exact absurd c d.1
    simp;omega
theorem NF(b:bg n m){r:Row}(f:r.length=n){v:Row}(o:Span n (m++[r]) v):∃(c:UInt8) (u:Row),Span n m u/\v=dl c r u:=by
 have k:bg n (m++[r]):=fun x i=>by
  rcases qA.1 i with h|h
  ·exact b x h
  ·rw[qG.1 h];exact f
 induction o with
 |zero=>exact⟨0,aN n,.zero,(fB (n:=n) (by rw[ci (by simp[aN,f])];simp[aN]) (by simp[aN]) fun j _=>by rw[cQ (by simp[aN,f]),cz,Gf.zero_mul];rfl).symm⟩
 |add d x w i hw ih=>
  obtain⟨c,u,e,rfl⟩:=ih;have a:=e.len b;rcases qA.1 i with h|h
  ·have l:=b x h;refine⟨c,dl d x u,.add d x u h e,fB (n:=n) (by rw[ci (by rw[ci];omega),ci];exact a) (by rw[ci (by rw[ci];omega),ci];exact a) fun j _=>?_⟩;rw[cQ (by rw[ci];omega),cQ (by omega),cQ (by rw[ci];omega),cQ (by omega)]
   ac_rfl
  ·have g:=qG.1 h;subst g;refine⟨c^^^d,u,e,fB (n:=n) (by rw[ci (by rw[ci];omega),ci];exact a) (by rw[ci];exact a) fun j _=>?_⟩;rw[cQ (by rw[ci];omega),cQ (by omega),cQ (by omega),Gf.Ui]
   ac_rfl
theorem XJ(a:bg n m){r:Row}(b:r.length=n):bg n (m++[r]):=fun x c=>by
 rcases qA.1 c with h|h
 ·exact a x h
 ·rw[qG.1 h];exact b
theorem XK(f:bg n m){r:Row}(A:r.length=n):cR m<=cR (m++[r])/\cR (m++[r])<=cR m+1:=by
 have o:=XJ f A;refine⟨XH f o fun x B=>by simp[B],?_⟩;rw[oQ f,oQ o];refine XI _ List.nodup_range (fun a _ J=>?_) (fun a _ b _ E l D p=>?_)
 ·simp only[decide_eq_true_eq]at J⊢;obtain⟨v,K,I⟩:=J;exact⟨v,Span.mono (fun x B=>by simp[B]) K,I⟩
 ·simp only[decide_eq_true_eq,decide_eq_false_iff_not]at E l D p;have k:∀a b,Ba (Span n (m++[r])) a->¬Ba (Span n m) a->Ba (Span n (m++[r])) b->¬Ba (Span n m) b->¬a<b:=by
   rintro a b ⟨v,O,L,G⟩ l ⟨w,M,h,q⟩ p t;obtain⟨c,u,H,rfl⟩:=NF f A O;obtain⟨d,s,g,rfl⟩:=NF f A M;have l1:=H.len f;have l2:=g.len f;have N:d≠0:=by
    rintro rfl;apply p;refine⟨s,g,fun i F=>?_,?_⟩
    ·have:=h i F;rw[cQ (by omega),Gf.zero_mul,zU]at this;exact this
    ·rw[cQ (by omega),Gf.zero_mul,zU]at q;exact q
   apply l;refine⟨dl (Gf.mul c (Gf.inv d)) s u,g.comb f H _,?_⟩;have e:∀j,aQ (dl (Gf.mul c (Gf.inv d)) s u) j=aQ (dl c r u) j^^^Gf.mul (Gf.mul c (Gf.inv d)) (aQ (dl d r s) j):=fun j=>by
    rw[cQ (by omega),cQ (by omega),cQ (by omega),Gf.jG,<-Gf.mul_assoc (Gf.mul c (Gf.inv d)) d,Gf.mul_assoc c (Gf.inv d) d,Gf.mul_comm (Gf.inv d) d,Gf.Mx N,Gf.mul_one];have:∀x y z:UInt8,x^^^y=x^^^z^^^(y^^^z):=fun x y z=>by
     have:x^^^z^^^(y^^^z)=x^^^y^^^(z^^^z):=by ac_rfl
     rw[this,kL,zU]
    exact this _ _ _
   refine⟨fun i F=>?_,?_⟩
   ·rw[e,L i F,h i (by omega),Gf.mul_zero];rfl
   ·rw[e,h a t,Gf.mul_zero,zU];exact G
  have K:=k a b E l D p;have I:=k b a D p E l;omega
theorem oR(m:aS)(h:bg n m):cR m<=m.length:=by
 have a:∀k,k<=m.length->cR (m.take k)<=k:=by
  intro k
  induction k with
  |zero=>intro _;simp[cR,fP,aA,bG]
  |succ k ih=>
   intro d;have b:bg n (m.take k):=fun x c=>h x (wD c);have f:=ih (by omega);rw[zn (by omega)];have e:=(XK b (h _ (qh (show k<m.length by omega)))).2;omega
 have:=a m.length (ql _)
 rwa [qi (ql _)]at this
end
def Kq(p:Int×Int×Int)(seed:Int)(ids:aC):Nat:=cR (dW p seed ids)
def fT(p:Int×Int×Int)(seed:Int)(ids:aC):Bool:=bL p&&((Kq p seed ids:Int)==cg p)
def eV(p:Int×Int×Int):aC:=upto (max 0 (min p.1 16)).toNat
theorem ri{p:Int×Int×Int}(h:bL p=true):cg p=p.1+p.2.1:=by rw[cg,if_pos h]
theorem me(p:Int×Int×Int)(seed:Int)(ids:aC):bg (cg p).toNat (dW p seed ids):=by
 intro r a;unfold dW at a;split at a
 ·rename_i b;have:=(bM p).1 b;rcases qA.1 a with h|h
  ·obtain⟨x,_,rfl⟩:=qq.1 h;rw[Ff,ri b];omega
  ·obtain⟨x,_,rfl⟩:=qq.1 h;exact aae _ _ _
 ·cases a
theorem aak(p:Int×Int×Int)(seed:Int)(ids:aC):(dW p seed ids).length<=4+ids.length:=by
 unfold dW;split
 ·rename_i a;have:=(bM p).1 a;have b:=List.length_filter_le bS ids;simp only[qx,bz,qu,zx];omega
 ·simp
theorem Kr(K H:Nat):bg (K+H) (bz K H):=fun r a=>by
 obtain⟨x,_,rfl⟩:=qq.1 a;exact Ff _ _ _
def eI(a b:aS):aS:=List.zipWith (·++·) a b
def jY(n:Nat)(m:aS):aS:=m.map (List.take n)
theorem IW{r:Row}{n j:Nat}(h:j<n):aQ (r.take n) j=aQ r j:=by
 simp only[aQ,qe,vw];rw[if_pos h]
theorem Qk(r:Row)(n j:Nat):aQ (r.drop n) j=aQ r (n+j):=by
 simp only[aQ,qe,List.getElem?_drop]
theorem uz(n:Nat)(m:aS)(i:Nat):aA (jY n m) i=(aA m i).take n:=by
 simp only[aA,jY,qe,qO];cases m[i]? with
 |none=>simp
 |some r=>rfl
theorem Mz(n:Nat)(m:aS):(jY n m).length=m.length:=by simp[jY]
theorem Vu{n a bs:Nat}(m:aS)(h:bs<n):iC (jY n m) a bs=iC m a bs:=by
 unfold iC;rw[Mz];congr 1;funext i;rw[uz,IW h]
theorem MB(n:Nat)(m:aS)(i:Nat)(r:Row):jY n (m.set i r)=(jY n m).set i (r.take n):=by simp[jY,List.map_set]
theorem aal(n:Nat)(m:aS)(i j:Nat):jY n (iN m i j)=iN (jY n m) i j:=by
 rw[iN,MB,MB,iN,uz,uz]
theorem XL(n:Nat)(c:UInt8)(r:Row):(scaleB c r).take n=scaleB c (r.take n):=by simp[scaleB,List.map_take]
theorem acW(n:Nat)(c:UInt8)(a t:Row):(dl c a t).take n=dl c (a.take n) (t.take n):=by simp[dl,List.take_zipWith]
theorem aam{n bs:Nat}(h:bs<n)(t:Nat)(m:aS):jY n (ju t bs m)=ju t bs (jY n m):=by
 rw[ju,MB,XL,ju,uz,IW h]
theorem aan{n bs:Nat}(h:bs<n)(t k:Nat)(m:aS):jY n (eP t bs m k)=eP t bs (jY n m) k:=by
 apply List.ext_getElem?;intro i;simp only[jY,eP,qO,List.getElem?_mapIdx];cases m[i]? with
 |none=>rfl
 |some r=>
  simp only[Option.map_some];congr 1;have:=uz n m t;rw[jY]at this;rw[this,IW h];split
  ·exact acW _ _ _ _
  ·rfl
theorem aao{n bs:Nat}(h:bs<n)(s:Nat×aS):((iO s bs).1,jY n (iO s bs).2)=iO (s.1,jY n s.2) bs:=by
 unfold iO;dsimp only;rw[Vu _ h];cases iC s.2 s.1 bs with
 |none=>rfl
 |some i=>dsimp only;rw[aan h,aam h,aal,Mz]
theorem Ks(n:Nat)(m:aS):∀c,c<=n->((bG m c).1,jY n (bG m c).2)=bG (jY n m) c
 |0,_=>rfl
 |c+1,h=>by
  have a:=Ks n m c (by omega);rw[bG,bG,aao (show c<n by omega),a]
theorem lD{a b:aS}(h:a.length=b.length):(eI a b).length=a.length:=by simp[eI,h]
theorem HB{a b:aS}(h:a.length=b.length){i:Nat}(c:i<a.length):aA (eI a b) i=aA a i++aA b i:=by
 rw[bv (by rw[lD h];exact c),bv c,bv (by omega)];simp[eI]
theorem mf{n w:Nat}{a b:aS}(h:a.length=b.length)(e:bg n a)(d:bg w b):bg (n+w) (eI a b):=fun r f=>by
 obtain⟨i,c,rfl⟩:=fC f;rw[lD h]at c;rw[HB h c,qx,cj e c,cj d]
theorem acX{n:Nat}{a b:aS}(h:a.length=b.length)(d:bg n a):jY n (eI a b)=a:=by
 apply wk (by rw[Mz,lD h]);intro i e c;have:=uz n (eI a b) i;rw[bv e,HB h c,List.take_left' (cj d c),bv c]at this;exact this
theorem aap{n:Nat}{a:aS}(b:bg n a):(bG a n).1=cR a:=by
 rw[cR];cases a with
 |nil=>rw[kT,kT]
 |cons x t=>rw[fP,bv (by simp)];rw[show((x::t)[0]).length=n from b _ (by simp)]
theorem IX{n:Nat}{a b:aS}(h:a.length=b.length)(c:bg n a):(bG (eI a b) n).1=cR a:=by
 have:=congrArg Prod.fst (Ks n (eI a b) n (ql _));rw[acX h c]at this;rw[<-aap c];exact this
def rj(w:Nat)(r:Row)(X:aS):Nat->Row
 |0=>aN w
 |k+1=>dl (aQ r k) (aA X k) (rj w r X k)
theorem ib{n w:Nat}{X:aS}(a:bg w X)(c:X.length=n)(r:Row):∀k,k<=n->(rj w r X k).length=w
 |0,_=>by simp[rj,aN]
 |k+1,h=>by
  have b:=ib a c r k (by omega);rw[rj,ci (by rw[cj a,b])];exact b
theorem gA{n w:Nat}{X:aS}(a:bg w X)(b:X.length=n)(r:Row)(j:Nat):∀k,k<=n->aQ (rj w r X k) j=bF (fun i=>aQ r i) (fun i=>aQ (aA X i) j) k
 |0,_=>by rw[rj,cz];rfl
 |k+1,h=>by
  have c:=gA a b r j k (by omega);rw[rj,cQ (by rw[cj a,ib a b r k (by omega)]),c];rfl
def fh(n w:Nat)(a b X:aS):Prop:=X.length=n/\bg w X/\∀i,i<a.length->rj w (aA a i) X n=aA b i
theorem aaq{m a:aS}(c:m.length=a.length)(h:∀i,i<m.length->aA m i=aA a i):m=a:=by
 apply wk c;intro i b d;have:=h i b
 rwa [bv b,bv d]at this
def uV(n:Nat)(X:aS)(k:Nat)(v:Row):UInt8:=aQ v (n+k)^^^bF (fun i=>aQ v i) (fun i=>aQ (aA X i) k) n
theorem fD{f f' g a:Nat->UInt8}:∀k,(∀i,i<k->f i=f' i)->(∀i,i<k->g i=a i)->bF f g k=bF f' a k
 |0,_,_=>rfl
 |k+1,h1,h2=>by rw[bF,bF,fD k (fun i b=>h1 i (by omega)) (fun i b=>h2 i (by omega)),h1 k (by omega),h2 k (by omega)]
theorem Um(n:Nat)(X:aS)(k:Nat)(c:UInt8)(a t:Row)(h:a.length=t.length:=by omega):uV n X k (dl c a t)=uV n X k t^^^Gf.mul c (uV n X k a):=by
 unfold uV;rw[cQ h];have:bF (fun i=>aQ (dl c a t) i) (fun i=>aQ (aA X i) k) n=bF (fun i=>aQ t i^^^Gf.mul c (aQ a i)) (fun i=>aQ (aA X i) k) n:=fD n (fun i _=>cQ h i) fun _ _=>rfl;rw[this,Hy,Gf.jG];ac_rfl
theorem Un{a b:Row}{n:Nat}(c:a.length=n)(k:Nat):aQ (a++b) (n+k)=aQ b k:=by
 simp only[aQ,qe];rw[qj (by omega),c,Nat.add_sub_cancel_left]
theorem Ql{a b:Row}{n j:Nat}(c:a.length=n)(d:j<n):aQ (a++b) j=aQ a j:=by
 simp only[aQ,qe];rw[qm (by omega)]
theorem oS{a b:UInt8}:a^^^b=0↔a=b:=by
 constructor
 ·intro h;have:=congrArg (·^^^b) h;simp only[wi]at this
  rwa [uy]at this
 ·rintro rfl;exact kL _
theorem Kt{n w:Nat}{a b X:aS}(h:a.length=b.length)(f:bg n a)(o:bg w b)(g:X.length=n)(l:bg w X):fh n w a b X↔∀k,k<w->∀v,Span (n+w) (eI a b) v->uV n X k v=0:=by
 have e:=mf h f o;constructor
 ·intro x k p v s;refine Span.lin e (uV n X k) ?_ (fun c a t z y=>Um n X k c a t) (fun r q=>?_) s
  ·unfold uV;rw[cz,fv _ _ n fun i _=>cz _ _];rfl
  ·obtain⟨i,d,rfl⟩:=fC q;rw[lD h]at d;rw[HB h d];unfold uV;rw[Un (cj f d),<-x.2.2 i d,gA l g _ k n (ql _),oS];exact fD n (fun j m=>(Ql (cj f d) m).symm) fun _ _=>rfl
 ·intro u;refine⟨g,l,fun i d=>fB (n:=w) (ib l g _ n (ql _)) (cj o) fun k p=>?_⟩;have:=u k p _ (Span.row e (mem_row (show i<(eI a b).length by rw[lD h];exact d)));rw[HB h d]at this;unfold uV at this;rw[Un (cj f d),oS]at this;rw[this,gA l g _ k n (ql _)];exact fD n (fun j m=>(Ql (cj f d) m).symm) fun _ _=>rfl
theorem aei{n:Nat}{p:Nat->Nat}(c:∀i,i<n->p i<n)(b:∀i j,i<j->j<n->p i<p j):∀i,i<n->p i=i:=by
 have d:∀i,i<n->i<=p i:=by
  intro i
  induction i with
  |zero=>intro _;omega
  |succ i ih=>intro a;have:=ih (by omega);have:=b i (i+1) (by omega) a;omega
 have up:∀k i,i+k+1=n->p i<=i:=by
  intro k
  induction k with
  |zero=>intro i a;have:=c i (by omega);omega
  |succ k ih=>intro i a;have:=ih (i+1) (by omega);have:=b i (i+1) (by omega) (by omega);omega
 intro i a;have:=d i a;have:=up (n-1-i) i (by omega);omega
def fI(n:Nat)(a b:aS):aS:=(((bG (eI a b) n).2).take n).map (List.drop n)
def km(n:Nat)(a b:aS):Prop:=∀r∈((bG (eI a b) n).2).drop n,r=aN r.length
section
variable {n w:Nat} {a b:aS}
theorem uA(h:a.length=b.length)(e:bg n a)(g:bg w b)(j:cR a=n):(fI n a b).length=n/\bg w (fI n a b):=by
 have c:=mf h e g;have f:=il c n;have h3:=oR a e;refine⟨by rw[fI,qu,List.length_take,f.2,lD h];omega,fun r d=>?_⟩;obtain⟨x,i,rfl⟩:=qq.1 d;rw[za,f.1 x (wD i)];omega
theorem Uo(h:a.length=b.length)(d:bg n a)(e:cR a=n){i:Nat}(c:i<n):aA (fI n a b) i=(aA (bG (eI a b) n).2 i).drop n:=by
 simp only[aA,fI,qe,qO,vw];rw[if_pos c]
 cases(bG (eI a b) n).2[i]? with
 |none=>simp
 |some r=>rfl
theorem Qm(h:a.length=b.length)(e:bg n a)(q:bg w b)(l:cR a=n):
  (∀v,Span (n+w) (bG (eI a b) n).2 v↔Span (n+w) (eI a b) v)/\(bG (eI a b) n).2.length=a.length/\(∀i,i<n->∀k,k<a.length->aQ (aA (bG (eI a b) n).2 k) i=if k=i then 1 else 0):=by
 have c:=mf h e q;have W:=Hz c n (by omega);have r:(bG (eI a b) n).1=n:=by rw[IX h e,l]
 obtain⟨p,j,f,m,d⟩:=W.piv;rw[r]at j f m d;have hid:=aei j d;have o:(bG (eI a b) n).2.length=a.length:=by rw[W.len,lD h]
 refine⟨W.span,o,fun i g k s=>?_⟩;have:=f i g k (by omega)
 rwa [hid i g]at this
theorem Qn{X:aS}{r:Row}{i k:Nat}(b:i<n)(a:∀j,j<n->aQ r j=if i=j then 1 else 0):uV n X k r=aQ r (n+k)^^^aQ (aA X i) k:=by
 unfold uV;rw[Hx _ _ i n b fun j c=>a j c]
theorem Up{X:aS}{r:Row}{k:Nat}(a:∀j,j<n->aQ r j=0):uV n X k r=aQ r (n+k):=by
 unfold uV;rw[fv _ _ n a,zU]
theorem kU(h:a.length=b.length)(l:bg n a)(o:bg w b)(s:cR a=n){X:aS}(g:fh n w a b X):X=fI n a b/\km n a b:=by
 have v:=mf h l o;have q:=il v n;obtain⟨m,D,t⟩:=Qm h l o s;have A:=oR a l;have y:=(Kt h l o g.1 g.2.1).1 g;obtain⟨z,s2⟩:=uA h l o s;constructor
 ·refine aaq (by rw[g.1,z]) fun i d=>fB (n:=w) (cj g.2.1 d) (cj s2 (by rw[z];rw[g.1]at d;exact d)) fun k B=>?_;rw[g.1]at d;have h3:=y k B _ ((m _).1 (Span.row q.1 (mem_row (show i<(bG (eI a b) n).2.length by omega))));rw[Qn d fun j p=>t j p i (by omega)]at h3;rw[Uo h l s d,Qk];exact(oS.1 h3).symm
 ·intro r u;obtain⟨i,d,rfl⟩:=qH u;rw[za]at d;rw[wb];have f:n+i<(bG (eI a b) n).2.length:=by omega
  have e:=bv f;have c:=cj q.1 f;rw[<-e,c];refine fB (n:=n+w) c (by simp[aN]) fun j p=>?_;rw[cz];by_cases x:j<n
  ·rw[t j x (n+i) (by omega),if_neg (by omega)]
  ·obtain⟨k,rfl⟩:∃k,j=n+k:=⟨j-n,by omega⟩
   have h3:=y k (by omega) _ ((m _).1 (Span.row q.1 (mem_row f)))
   rwa [Up fun j p=>by rw[t j p (n+i) (by omega),if_neg (by omega)]]at h3
theorem oT(h:a.length=b.length)(e:bg n a)(g:bg w b)(l:cR a=n)(y:km n a b):fh n w a b (fI n a b):=by
 have o:=mf h e g;have s:=il o n;obtain⟨p,E,u⟩:=Qm h e g l;have A:=oR a e;obtain⟨z,s2⟩:=uA h e g l;refine(Kt h e g z s2).2 fun k F v B=>?_;refine Span.lin s.1 (uV n (fI n a b) k) ?_ (fun c x t G s=>Um n _ k c x t) (fun r m=>?_) ((p v).2 B)
 ·unfold uV;rw[cz,fv _ _ n fun i _=>cz _ _];rfl
 ·obtain⟨i,D,rfl⟩:=fC m;by_cases f:i<n
  ·rw[Qn f fun j q=>u j q i (by omega),Uo h e l f,Qk];exact kL _
  ·rw[Up fun j q=>by rw[u j q i (by omega),if_neg (by omega)]];have:aA (bG (eI a b) n).2 i∈(bG (eI a b) n).2.drop n:=by
    rw[bv D];obtain⟨d,rfl⟩:∃d,i=n+d:=⟨i-n,by omega⟩
    rw[<-wb (h:=by rw[za];omega)];exact qh _
   rw[y _ this,cz]
theorem SB(h:a.length=b.length)(f:bg n a)(e:bg w b)(i:a.length=n):km n a b:=by
 have c:=mf h f e;have g:=il c n;intro r d;rw[List.drop_of_length_le (by rw[g.2,lD h];omega)]at d;cases d
end
def Qp(l:aC):Prop:=∀a b,a<l.length->b<l.length->kw l a=kw l b->a=b
theorem HC{l:aC}{i:Nat}(h:i<l.length):kw l i=l[i]:=by rw[kw,qe,qd h];rfl
theorem aar{l:aC}{i j k:Nat}(c:i<l.length)(d:j<l.length):kw (rL l i j) k=if k=j then kw l i else if k=i then kw l j else kw l k:=by
 simp only[kw,rL,qe,qX,List.length_set];by_cases a:j=k
 ·subst a;simp[d]
 ·by_cases b:i=k
  ·subst b;simp[a,c];omega
  ·simp[a,b];omega
theorem swap_inj{l:aC}{i j:Nat}(n:i<l.length)(o:j<l.length)(h:Qp l):Qp (rL l i j):=by
 intro a b m g p;rw[Qb]at m g;have c:∀k,k<l.length->∃σ,σ<l.length/\kw (rL l i j) k=kw l σ/\(σ=if k=j then i else if k=i then j else k):=fun k u=>by
  rw[aar n o];by_cases f:k=j
  ·rw[if_pos f,if_pos f];exact⟨i,n,rfl,rfl⟩
  ·rw[if_neg f,if_neg f];by_cases e:k=i
   ·rw[if_pos e,if_pos e];exact⟨j,o,rfl,rfl⟩
   ·rw[if_neg e,if_neg e];exact⟨k,u,rfl,rfl⟩
 obtain⟨s,w,r,v⟩:=c a m;obtain⟨t,q,e2,d⟩:=c b g;rw[r,e2]at p;have:=h s t w q p;subst this;rw[v]at d;split at d<;>split at d<;>(try split at d)<;>(try split at d)<;>omega
theorem XM{l:aC}(h:Qp l):l.Nodup:=by
 rw[List.nodup_iff_pairwise_ne,List.pairwise_iff_getElem];intro i j a b c d;have:=h i j a b (by rw[HC a,HC b];exact d);omega
theorem aas(n:Nat):Qp (upto n):=by
 intro a b e c d;rw[gy]at e c;rw[HC (by rw[gy];exact e),HC (by rw[gy];exact c)]at d;simp[upto]at d;omega
theorem Qq(n:Nat)(s:Int):∀k,k<=n->n<=64->Qp (gd n s (upto n) k).2
 |0,_,_=>aas n
 |k+1,hk,hn=>by
  have a:=uO n s (upto n) k;rw[gy]at a;have:=uN (gd n s (upto n) k).1 ((n-k:Nat):Int);exact swap_inj (by omega) (by omega) (Qq n s k (by omega) hn)
theorem Vv(s:Int)(n k:Nat)(b:k<=n)(a:n<=64):(Hn s n k).Nodup:=by
 have h:=(XM (Qq n s k b a)).sublist (List.take_sublist k _);exact(List.mergeSort_perm _ _).nodup_iff.2 h
theorem CY{n:Nat}(b:1<=n)(a:n<=20)(seed id:Int):(dj n seed id).Nodup:=Vv _ _ _ (uP _ n b a) (by omega)
theorem SC(n:Nat)(seed id:Int):(dj n seed id).Pairwise (·<=·):=by
 have:=List.pairwise_mergeSort (le:=fun x y:Int=>decide (x<=y)) (by intro a b c;simp;omega) (by intro a b;simp;omega) ((gd n (DS (DS (Fe seed id))) (upto n) (Hq (DS (Fe seed id)) n)).2.take (Hq (DS (Fe seed id)) n));exact this.imp (by simp)
theorem MC{r:Row}{i j:Nat}{x:UInt8}(a:i<r.length):aQ (r.set i x) j=if j=i then x else aQ r j:=by
 simp only[aQ,qe,qX];by_cases h:i=j
 ·subst h;simp[a]
 ·simp[h];intro e;exact absurd e.symm h
theorem NG(n:Nat)(l:aC)(c:Int):fL n (l++[c])=(fL n l).set c.toNat 1:=by rw[fL,wN];rfl
theorem CZ{n:Nat}:∀(l:aC) (_:∀x∈l,0<=x/\x<(n:Int)) (j:Nat),aQ (fL n l) j=if(j:Int)∈l then 1 else 0:=by
 intro l;have d:∀k,k<=l.length->(∀x∈l,0<=x/\x<(n:Int))->∀j:Nat,aQ (fL n (l.take k)) j=if(j:Int)∈l.take k then 1 else 0:=by
  intro k
  induction k with
  |zero=>intro _ _ j;simp[fL];exact cz n j
  |succ k ih=>
   intro g b j;have f:=b _ (qh (show k<l.length by omega));rw[zn (by omega),NG,MC (by rw[re];omega),ih (by omega) b];have a:(j:Int)∈l.take k++[l[k]]↔(j:Int)∈l.take k∨(j:Int)=l[k]:=by rw[qA,qG]
   by_cases h:j=l[k].toNat
   ·rw[if_pos h,if_pos (a.2 (.inr (by omega)))]
   ·rw[if_neg h];by_cases c:(j:Int)∈l.take k
    ·rw[if_pos c,if_pos (a.2 (.inl c))]
    ·rw[if_neg c,if_neg (fun e=>(a.1 e).elim c fun h3=>h (by omega))]
 intro b j;have:=d l.length (ql _) b j
 rwa [qi (ql _)]at this
theorem IY{f f' g:Nat->UInt8}{c:Nat}(h0:f c=0)(b:∀i,f' i=if i=c then 1 else f i):∀k,bF f' g k=bF f g k^^^if c<k then g c else 0
 |0=>by simp[bF]
 |k+1=>by
  rw[bF,bF,IY h0 b k,b k];by_cases a:k=c
  ·subst a;rw[if_pos rfl,if_neg (by omega),if_pos (by omega),Gf.one_mul,h0,Gf.zero_mul]
  ·rw[if_neg a];by_cases h:c<k
   ·rw[if_pos h,if_pos (by omega)];ac_rfl
   ·rw[if_neg h,if_neg (by omega)];simp
def fE(w:Nat)(X:aS)(l:aC):Row:=l.foldl (fun s c=>dl 1 (aA X c.toNat) s) (aN w)
theorem Da(w:Nat)(X:aS)(l:aC)(c:Int):fE w X (l++[c])=dl 1 (aA X c.toNat) (fE w X l):=by rw[fE,wN];rfl
theorem oU{n w:Nat}{X:aS}(b:bg w X)(c:X.length=n){l:aC}(a:∀x∈l,0<=x/\x<(n:Int)):∀k,k<=l.length->(fE w X (l.take k)).length=w:=by
 intro k
 induction k with
 |zero=>intro _;simp[fE,aN]
 |succ k ih=>
  intro e;have d:=a _ (qh (show k<l.length by omega));rw[zn (by omega),Da,ci (by rw[cj b,ih (by omega)])];exact ih (by omega)
theorem Uq{n w:Nat}{X:aS}(c:bg w X)(b:X.length=n){l:aC}(a:∀x∈l,0<=x/\x<(n:Int)):(fE w X l).length=w:=by
 have:=oU c b a l.length (ql _)
 rwa [qi (ql _)]at this
theorem acY{n w:Nat}{X:aS}(a:bg w X)(b:X.length=n){l:aC}(d:∀x∈l,0<=x/\x<(n:Int))(p:l.Nodup):fE w X l=rj w (fL n l) X n:=by
 have h:∀k,k<=l.length->fE w X (l.take k)=rj w (fL n (l.take k)) X n:=by
  intro k
  induction k with
  |zero=>
   intro _;refine fB (n:=w) (by simp[fE,aN]) (ib a b _ n (ql _)) fun j _=>?_;rw[gA a b _ j n (ql _),fv _ _ n fun i _=>by simp only[vU,fL,wQ];exact cz n i];simp only[vU,fE,wQ];exact cz w j
  |succ k ih=>
   intro r;have o:=d _ (qh (show k<l.length by omega));have q:=oU a b d k (by omega);rw[zn (by omega),Da,NG,ih (by omega)];refine fB (n:=w) ?_ (ib a b _ n (ql _)) fun j _=>?_
   ·rw[ci (by rw[cj a,ib a b _ n (ql _)])];exact ib a b _ n (ql _)
   ·rw[cQ (by rw[cj a,ib a b _ n (ql _)]),gA a b _ j n (ql _),gA a b _ j n (ql _)];have g:l[k]∉l.take k:=fun m=>by
     have e:l=l.take k++l[k]::l.drop (k+1):=by rw[<-List.drop_eq_getElem_cons (by omega),List.take_append_drop]
     rw[e,List.nodup_append]at p;exact p.2.2 _ m _ List.mem_cons_self rfl
    have h0:aQ (fL n (l.take k)) l[k].toNat=0:=by
     rw[CZ _ (fun x o=>d x (wD o)),if_neg];intro m;apply g;have:((l[k].toNat:Nat):Int)=l[k]:=by omega
     rwa [this]at m
    rw[IY (f:=fun i=>aQ (fL n (l.take k)) i) (c:=l[k].toNat) h0 (fun i=>MC (by rw[re];omega)) n,if_pos (by omega),Gf.one_mul]
 have:=h l.length (ql _)
 rwa [qi (ql _)]at this
open Go Go.Vc
def gh(K H w:Nat)(d:Row):aS:=qg H (aN w)++(qE K).map (Fc d w)
def eW(p:Int×Int×Int)(seed:Int)(d:Row):aS:=fI (cg p).toNat (dW p seed (eV p)) (gh p.1.toNat p.2.1.toNat p.2.2.toNat d)
structure bT (p:Int×Int×Int) (seed:Int) (d:Row) (K H w n:Nat):Prop where
 may:bL p=true
 full:fT p seed (eV p)=true
 k:p.1=K
 h:p.2.1=H
 s:p.2.2=w
 n:n=K+H
 k1:1<=K
 k2:K<=16
 h1:1<=H
 h2:H<=4
 w1:1<=w
 w2:w<=24
 len:d.length=K*w
theorem abZ{p:Int×Int×Int}{seed:Int}{d:Row}(a:bL p=true)(c:fT p seed (eV p)=true)(b:(d.length:Int)=p.1*p.2.2):∃K H w n,bT p seed d K H w n:=by
 have:=(bM p).1 a;refine⟨p.1.toNat,p.2.1.toNat,p.2.2.toNat,p.1.toNat+p.2.1.toNat,a,c,by omega,by omega,by omega,rfl,by omega,by omega,by omega,by omega,by omega,by omega,?_⟩;have e:p.1=(p.1.toNat:Int):=by omega
 have e2:p.2.2=(p.2.2.toNat:Int):=by omega
 rw[e,e2,<-Int.natCast_mul]at b;exact Int.ofNat.inj b
section
variable {p:Int×Int×Int} {seed:Int} {d:Row} {K H w n:Nat}
theorem bT.cP(B:bT p seed d K H w n):cg p=n:=by rw[ri B.may,B.k,B.h,B.n];rfl
theorem bT.oV(B:bT p seed d K H w n):(cg p).toNat=n:=by rw[B.cP];rfl
theorem Vw(a:p.1=(K:Int))(h:K<=16):eV p=upto K:=by
 rw[eV];congr 1;omega
theorem SD(h:K<=16):(upto K).filter bS=upto K:=by
 rw[List.filter_eq_self];intro x b;simp[upto]at b;obtain⟨a,c,rfl⟩:=b;simp[bS];omega
theorem bT.PU(B:bT p seed d K H w n):dW p seed (eV p)=bz K H++(qE K).map fun i:Nat=>rf n seed (i:Int):=by
 rw[dW,if_pos B.may,Vw B.k B.k2,SD B.k2,B.k,B.h,B.oV,qo,qo,upto,List.map_map];rfl
theorem bT.Fu(B:bT p seed d K H w n):(dW p seed (eV p)).length=n:=by
 rw[B.PU,qx,qu,zx,bz,qu,zx,B.n];omega
theorem bT.HD(B:bT p seed d K H w n):bg n (dW p seed (eV p)):=by
 have:=me p seed (eV p)
 rwa [B.oV]at this
theorem bT.MD(B:bT p seed d K H w n):cR (dW p seed (eV p))=n:=by
 have h:=B.full;rw[fT,B.may,B.cP,Kq]at h;simp at h;exact Int.ofNat.inj h
theorem Fv(K H w:Nat)(d:Row):(gh K H w d).length=K+H:=by simp[gh];omega
theorem tZ(b:d.length=K*w):bg w (gh K H w d):=fun r c=>by
 rcases qA.1 c with h|h
 ·rw[(List.mem_replicate.1 h).2];simp[aN]
 ·obtain⟨i,a,rfl⟩:=qq.1 h;rw[List.mem_range]at a;exact acR (by rw[b];exact Nat.mul_le_mul_right w a)
theorem XN{i:Nat}(a:i<H):aA (gh K H w d) i=aN w:=by
 rw[aA,gh,qe,qm (by simpa using a)];simp[a]
theorem Vx{i:Nat}(a:i<K):aA (gh K H w d) (H+i)=Fc d w i:=by
 rw[aA,gh,qe,qj (by simp)];simp[a]
theorem bT.DU(B:bT p seed d K H w n):eW p seed d=fI n (dW p seed (eV p)) (gh K H w d):=by
 rw[eW,B.oV,B.k,B.h,B.s];rfl
theorem bT.lens(B:bT p seed d K H w n):(dW p seed (eV p)).length=(gh K H w d).length:=by rw[B.Fu,Fv,B.n]
theorem bT.rZ(B:bT p seed d K H w n):(eW p seed d).length=n/\bg w (eW p seed d):=by
 rw[B.DU];exact uA B.lens B.HD (tZ B.len) B.MD
theorem bT.fh(B:bT p seed d K H w n):fh n w (dW p seed (eV p)) (gh K H w d) (eW p seed d):=by
 rw[B.DU];exact oT B.lens B.HD (tZ B.len) B.MD (SB B.lens B.HD (tZ B.len) B.Fu)
theorem bT.aej(B:bT p seed d K H w n){i:Nat}(a:i<H):aA (dW p seed (eV p)) i=kS K H i:=by
 rw[B.PU,aA,qe,qm (by simpa[bz]using a)];simp[bz,a]
theorem bT.acZ(B:bT p seed d K H w n){i:Nat}(a:i<K):aA (dW p seed (eV p)) (H+i)=rf n seed (i:Int):=by
 rw[B.PU,aA,qe,qj (by simp[bz])];simp[bz,a]
theorem bT.low(B:bT p seed d K H w n){i:Nat}(a:i<H):rj w (kS K H i) (eW p seed d) n=aN w:=by
 have:=B.fh.2.2 i (by rw[B.Fu,B.n];omega)
 rwa [B.aej a,XN a]at this
theorem bT.high(B:bT p seed d K H w n){i:Nat}(a:i<K):rj w (rf n seed (i:Int)) (eW p seed d) n=Fc d w i:=by
 have:=B.fh.2.2 (H+i) (by rw[B.Fu,B.n];omega)
 rwa [B.acZ a,Vx a]at this
theorem bT.n1(B:bT p seed d K H w n):1<=n:=by have:=B.n;have:=B.k1;omega
theorem bT.n2(B:bT p seed d K H w n):n<=20:=by have:=B.n;have:=B.k2;have:=B.h2;omega
theorem bT.sym(B:bT p seed d K H w n)(id:Int):fE w (eW p seed d) (dj n seed id)=rj w (rf n seed id) (eW p seed d) n:=
 acY B.rZ.2 B.rZ.1 (fun _ a=>ma B.n1 B.n2 a) (CY B.n1 B.n2 seed id)
theorem bT.aat(B:bT p seed d K H w n){i:Nat}(a:i<K):fE w (eW p seed d) (dj n seed (i:Int))=Fc d w i:=by rw[B.sym,B.high a]
theorem bT.XO(B:bT p seed d K H w n)(id:Int):(fE w (eW p seed d) (dj n seed id)).length=w:=
 Uq B.rZ.2 B.rZ.1 fun _ a=>ma B.n1 B.n2 a
end
end Wl
namespace Go.Vc
open Go
theorem SE{α:Type}{c k:Nat}{f:α->aW}:∀{rs:List Sl} {ll:List (List α)} (b:List Sl) (a:List (List α)),rs.length=ll.length->bR c k f (rs++b) (ll++a)=bR c k f rs ll++bR c k f b a:=by
 intro rs ll b a h;unfold bR;exact List.zipWith_append h
theorem aa.aau{B:aB}{h0 h:Heap}{X:HP}:∀{L M:List HP},aa B h0 h (L++X::M)->aa B h0 h (L++M):=fun{L M} H=>by
 have:=H.del L.length
 rwa [List.eraseIdx_append_of_length_le (ql _),zi,List.eraseIdx_cons_zero]at this
section
variable {α:Type} {C:Ctx} {B:aB} {h0 h h':Heap} {As:List HP} {e e2 k t t2 by_:Nat} {s s2:Sl} {f:α->aW} {ll l2:List (List α)}
theorem aa.ada(G:C.Ok)(H:aa B h0 h (lN e s e2 k f ll::lN e s2 e2 k f l2::As))(E:bW C.toBE t e 1 [.slice none 0 0] 24)(v:∃i e2,C.T.get t2=some i/\i.cU=.slice e2)(F:ll.length+l2.length<=2^32){ty:Nat}{K:Sl->Heap->Prop}
  (y:∀d h',aa B h0 h' (lN e d e2 k f (ll++l2)::As)->K d h'):
  az C.P (Builtin.append_ #[t,t2] ty #[.slice s.ptr s.len s.cap,.slice s2.ptr s2.len s2.cap]) (.one (.sc .slc)) h K:=by
 obtain⟨rs,p,r⟩:=H.Kj;obtain⟨c,g⟩:∃c,c=bR e2 k f rs ll:=⟨_,rfl⟩
 rw[<-g]at r;have z:aa B h0 h (lN e s2 e2 k f l2::(As++(ar e s 1 bJ rs::c))):=r.front;obtain⟨a,l,n⟩:=z.Kj;obtain⟨L2,j⟩:∃L2,L2=bR e2 k f a l2:=⟨_,rfl⟩
 rw[<-j]at n;have o:=n.front;rw[List.append_assoc]at o;have D:=o.front;have q:aa B h0 h (ar e s 1 bJ rs::(c++(ar e s2 1 bJ a::(L2++As)))):=by
  have u:(ar e s 1 bJ rs::c++(ar e s2 1 bJ a::L2))++As=ar e s 1 bJ rs::(c++(ar e s2 1 bJ a::(L2++As))):=by simp
  rw[<-u];exact D
 have A:Seq h (fun b=>b<h.size) s2 1 bJ a:=q.seq (c.length+1) (by rw[List.getElem?_cons_succ,qj (ql _),zi];rfl) fun _=>rfl;refine q.append G 0 rfl E v rfl (by decide) (fun _=>rfl) A lY (by omega) fun d h' m=>y d h' ?_;have m:aa B h0 h' ((ar e d 1 bJ (rs++a)::c)++(ar e s2 1 bJ a::(L2++As))):=m;have w:=aa.aau m;refine aa.Qd (rs:=rs++a) (by simp[p,l]) ?_;rw[SE a l2 p,<-g,<-j];have x:(ar e d 1 bJ (rs++a)::(c++L2))++As=(ar e d 1 bJ (rs++a)::c)++(L2++As):=by simp
 rw[x];exact w
end
abbrev gB:=FloatKind.format .f64
theorem Fw{P:Program}{a b c:Nat}(h:gB.add a b=some c):aF P (Op.Complex.arith .add .f64 a b) c:=fun w=>by
 have h':(FloatKind.format .f64).add a b=some c:=h;unfold Op.Complex.arith Op.floatArith;simp only[h'];rfl
theorem Fx{P:Program}{a b c:Nat}(h:gB.sub a b=some c):aF P (Op.Complex.arith .sub .f64 a b) c:=fun w=>by
 have h':(FloatKind.format .f64).sub a b=some c:=h;unfold Op.Complex.arith Op.floatArith;simp only[h'];rfl
theorem Aw{P:Program}{a b c:Nat}(h:gB.mul a b=some c):aF P (Op.Complex.arith .mul .f64 a b) c:=fun w=>by
 have h':(FloatKind.format .f64).mul a b=some c:=h;unfold Op.Complex.arith Op.floatArith;simp only[h'];rfl
theorem Bb{P:Program}{op:BinOp}(h:op=.add∨op=.sub∨op=.mul)(t:TypeId)(x y:Operand)(a b:Value):aF P (eqGuard op t x y a b) ():=fun w=>by
 rcases h with rfl|rfl|rfl<;>rfl
theorem adb{P:Program}{t:TypeId}{x y:Operand}{a b c d e f:Nat}(h:gB.add a c=some e)(g:gB.add b d=some f):kr P .add t x y (.complex .f64 a b) (.complex .f64 c d) (.complex .f64 e f):=
 (Bb (.inl rfl) t x y _ _).bind (show aF P (Op.complexOp .add .f64 a b c d) _ from(Fw h).bind ((Fw g).bind fun _=>rfl))
theorem adc{P:Program}{t:TypeId}{x y:Operand}{a b c d e f:Nat}(h:gB.sub a c=some e)(g:gB.sub b d=some f):kr P .sub t x y (.complex .f64 a b) (.complex .f64 c d) (.complex .f64 e f):=
 (Bb (.inr (.inl rfl)) t x y _ _).bind (show aF P (Op.complexOp .sub .f64 a b c d) _ from(Fx h).bind ((Fx g).bind fun _=>rfl))
theorem ade{P:Program}{t:TypeId}{x y:Operand}{a b c d e f i k j h:Nat}(q:gB.mul a c=some i)(m:gB.mul b d=some k)(h3:gB.sub i k=some e)(l:gB.mul a d=some j)(n:gB.mul b c=some h)(p:gB.add j h=some f):
  kr P .mul t x y (.complex .f64 a b) (.complex .f64 c d) (.complex .f64 e f):=by
 refine(Bb (.inr (.inr rfl)) t x y _ _).bind ?_;have o:aF P (Op.Complex.product a b c d) (e,f):=
  (Aw q).bind ((Aw m).bind ((Fx h3).bind ((Aw l).bind ((Aw n).bind ((Fw p).bind fun _=>rfl)))))
 show aF P (Op.complexOp .mul .f64 a b c d) _;have g:∀x,aF P (Op.Complex.conv .f64 x .f64) x:=fun x w=>by unfold Op.Complex.conv;rw[if_pos rfl];rfl
 unfold Op.complexOp;refine(g a).bind ((g b).bind ((g c).bind ((g d).bind ?_)));refine aF.bind (v:=(e,f)) ?_ ?_
 ·exact o
 ·exact(g e).bind ((g f).bind fun _=>rfl)
end Go.Vc
