/- Lemmas for the proof of the law; no condition. -/
import Derived.Test.YtodpiocopjpjpaaGreatDoorKC
set_option maxHeartbeats 2000000
set_option linter.unusedVariables false
set_option maxHeartbeats 4000000
set_option linter.unusedSimpArgs false
open Go.Proofs.Tryz renaming prog -> kg
open Prod renaming fst -> qD, snd -> zw
open List renaming eq_of_mem_replicate -> vH, filter_congr -> vl, getElem_range -> yM, mem_flatten -> vB, mem_of_find?_eq_some -> wU, range -> qn, replicate -> qf
open Nat renaming add_comm -> xE, not_lt_zero -> xz
open Go.Value renaming agg -> xZ, bool -> xY, int -> xU, pointer -> xW, slice -> xV, string -> xX
open Go.IntKind renaming bits -> qz, i64 -> ka, u32 -> ke, wrap -> qd
open Int renaming add_zero -> xH, emod_nonneg -> yQ, fdiv -> zr, tdiv -> yp
open Go.Instr renaming slice -> xR, sliceAt -> ya, sliceBounds -> z7, storeAt -> qF
open BitVec renaming eq_of_toNat_eq -> yo, ofNat -> wE, toNat -> xQ, toNat_ushiftRight -> vG, toNat_xor -> xq, xor_assoc -> vb, xor_self -> vO
set_option maxRecDepth 100000
open Option renaming some -> dB, none -> eH
open Bool renaming true -> eS, false -> eX
open Go renaming Addr -> f7
open Go.Qw renaming Heap -> f9
open List renaming length -> i4
open Go.Qw.cO renaming two -> u9, n -> v6, inn -> v7, loop -> ws, join -> xa, tn -> xc, lp -> x0, jn -> x6
namespace Go.Qw
open Go.Proofs
variable {p:Int×Int×Int} {seed:Int} {d:Row} {K H w n:Nat}
def mD(p:Int×Int×Int)(seed:Int)(X:aO)(ids:av):List (Int×Row):=ids.map λi=>(i,gx p.2.2.toNat X (df (bp p).toNat seed i))
theorem co.size(B:co p seed d K H w n):p.2.2.toNat=w:=by have:=B.s;omega
theorem Ix(X:aO)(ids:av):(mD p seed X ids).map qD=ids:=by simp[mD,yf,Function.comp_def]
theorem co.QF(B:co p seed d K H w n){ids:av}(hid:∀i∈ids,bE i=eS):(mD p seed (dP p seed d) ids).all (na p)=eS:=qS.2 λx a=>by
 obtain⟨i,b,rfl⟩:=qo.1 a;refine(QE B.may).2 ⟨hid i b,?_⟩
 try dsimp only
 rw[B.size,B.pW];exact B.Yj i
theorem Kd{α β:Type}{f g:α->List β}:∀(l:List α),(∀x∈l,f x=g x)->l.flatMap f=l.flatMap g
 |[],_=>rfl
 |a::l,h=>by rw[zg,zg,h a js,Kd l λx b=>h x qb]
theorem MY(d:Row)(w:Nat):∀i,i*w<=i4 d->(qn i).flatMap (Qw.En d w)=d.take (i*w)
 |0,_=>js
 |i+1,h=>by
  have e:(i+1)*w=i*w+w:=zW i w;rw[zt,zb,MY d w i i6,e,List.take_add];simp[Qw.En]
theorem co.out(B:co p seed d K H w n):uh p seed (dP p seed d) p.1.toNat=d:=by
 have b:p.1.toNat=K:=by have:=B.k;omega
 unfold uh;rw[b,B.size,B.pW];have:(qn K).flatMap (λj:Nat=>gx w (dP p seed d) (df n seed (j:Int)))=(qn K).flatMap (Qw.En d w):=by exact Kd _ λj a=>B.abQ (qK.1 a)
 rw[this,MY d w K (by rw[B.len];exact qi _),qh (by rw[B.len];exact qi _)]
theorem co.aae(B:co p seed d K H w n){ids:av}(hid:∀i∈ids,bE i=eS):Qw.gM n w (db p seed ids) (rZ p (mD p seed (dP p seed d) ids)) (dP p seed d):=by
 have m:ids.filter bE=ids:=wA.2 hid;have l:db p seed ids=bj K H++ids.map (ly n seed):=by
  unfold db;rw[B.may,g0 i5,m,B.pW];have j:p.1.toNat=K:=by have:=B.k;omega
  have c:p.2.1.toNat=H:=by have:=B.h;omega
  rw[j,c]
 have o:rZ p (mD p seed (dP p seed d) ids)=qf H (aN w)++ids.map λi=>gx w (dP p seed d) (df n seed i):=by
  unfold rZ mD;have c:p.2.1.toNat=H:=by have:=B.h;omega
  rw[c,B.size,B.pW,yf];rfl
 refine⟨B.oB.1,B.oB.2,λi g=>?_⟩;rw[l]at g⊢;rw[o];have b:i4 (bj K H)=H:=by simp[bj]
 simp only[qu,qp,b]at g;by_cases a:i<H
 .have f:aC (bj K H++ids.map (ly n seed)) i=jH K H i:=by rw[bv jj,wY i6];simp[bj]
  have e:aC (qf H (aN w)++ids.map λi=>gx w (dP p seed d) (df n seed i)) i=aN w:=by rw[bv jj,wY l7];simp
  rw[f,e];exact B.low a
 .have f:aC (bj K H++ids.map (ly n seed)) i=ly n seed (ids[i-H]'i6):=by rw[bv jj,zY i6];simp[b]
  have e:aC (qf H (aN w)++ids.map λi=>gx w (dP p seed d) (df n seed i)) i=gx w (dP p seed d) (df n seed (ids[i-H]'i6)):=by rw[bv jj,zY l7];simp
  rw[f,e,B.sym]
theorem aaf{l:List (Int×Row)}(c:∀x∈l,Bc p x):aU p.2.2.toNat (rZ p l):=λx a=>by
 rcases qt.1 a with a|a
 .rw[(w5.1 a).2];simp[aN]
 .obtain⟨y,b,rfl⟩:=qo.1 a;exact(c y b).len
theorem SV(a:bB p=eS){l:List (Int×Row)}(b:∀x∈l,Bc p x):i4 (db p seed (l.map qD))=i4 (rZ p l):=by rw[<-VF (n:=(bp p).toNat) (seed:=seed) a i5 b,<-VG (n:=(bp p).toNat) (seed:=seed) (p:=p) (l:=l) rfl];exact uX
theorem FO(a:bB p=eS){ids:av}:eK p seed ids=eS↔bP (db p seed ids)=(bp p).toNat:=by have:=oW a;have:=(bK p).1 a;unfold eK nV;rw[a,wP];simp;omega
theorem co.dec(B:co p seed d K H w n){ids:av}(hid:∀i∈ids,bE i=eS)(e:eK p seed ids=eS):ma p seed (mD p seed (dP p seed d) ids)=(d,0):=by have a:∀x∈mD p seed (dP p seed d) ids,Bc p x:=λx f=>(QE B.may).1 (qS.1 (B.QF hid) x f);have h:=B.aae hid;have c:=SV (seed:=seed) B.may a;rw[Ix]at c;have g:=(FO B.may).1 e;have b:=ms c (jr p seed ids) (aaf a) g (by rw[B.pW,B.size];exact h);unfold ma;rw[B.may,B.QF hid,Ix,e];simp only[Bool.and_self,if_true];rw[g0 b.2,<-b.1,B.out]
theorem acX(a:bB p=eS){l:List (Int×Row)}(c:l.all (na p)=eS)(b:eK p seed (l.map qD)=eX):ma p seed l=([],9):=by unfold ma;rw[a,c,b];rfl
theorem SX(l:Sl)(r:av)(c:f7)(x:Int)(h:f9)(b:bN h c 3 [xU ka x])(d:Rd h l 1 az r)(a:i4 r<=2^30):
  ai kg 314 #[l,xW (dB c)] h λv h'=>v=xY (decide (x∈r))/\h'=h:=by
 refine ts Tryz.func314 ?_ (args:=[l,c]);refine⟨x,b.cell0 i5,(ug l r x h d a).x7 ?_⟩;exact⟨_,i5,i5,i5⟩
theorem SY(s:Sl)(W:bX)(c:f7)(x:Int)(h:f9)(o:bN h c 3 [xU ka x])(g:fm h s 1 az W)(q:i4 W<=2^20)(k:∀l∈W,i4 l<=2^20):
  ai kg 313 #[s,.func (.func 314) #[] #[xW (dB c)]] h λv h'=>v=xY (mB W x)/\h'=h:=by
 refine ts Tryz.func313 ?_ (args:=[s,(.func (.func 314) #[] #[xW (dB c)])]);refine(pE s (314,#[],#[xW (dB c)]) (R:=λv h'=>(∃i:Int,v=xU ka i/\(decide (i>=0)=mB W x))/\h'=h) ?_).mono ?_
 .skip
  have p:=g.len;refine an (λi:Nat=>(i:Int)) (λi h'=>i<=i4 W/\mB (W.take i) x=eX/\h'=h) (λi=>i4 W-i) 0 i5 ⟨i6,by simp[mB],i5⟩ ?_;rintro i n ⟨j,a,rfl⟩;refine ae (λe=>?_) λe=>?_
  .have b:i<i4 W:=by have m:(i:Int)<(s.len:Int):=e;omega
   refine g.get i i5 b λr d=>eJ k8 ?_;refine(SX r W[i] c x n o d (by have:=k _ (qe b);omega)).x7 ⟨_,i5,ae (λf=>⟨⟨i,i5,?_⟩,i5⟩) λf=>?_⟩
   .rw[hU (show(i:Int)>=0 by omega)]
    symm
    unfold mB;rw[zT];exact⟨_,qe b,hU f⟩
   .refine⟨i+1,j4,⟨i6,?_,i5⟩,i6⟩;unfold mB at a⊢;rw[aG _ _ b,List.any_append,a,List.any_cons,List.any_nil,ii f];rfl
  .have m:¬(i:Int)<(s.len:Int):=e;rw[qh i6]at a;exact⟨⟨-1,i5,sp⟩,i5⟩
 .rintro _ _ ⟨⟨i,rfl,j⟩,rfl⟩;exact⟨i,i5,by rw[j],i5⟩
abbrev mb(x:jR)(a:bL)(wS gS:Sl):aW:=[xU ka x.o,xU ka x.b,xU ke x.seed,.pointer a,wS,gS]
theorem SZ(b:f7)(x:jR)(p:bL)(wS gS:Sl)(h:f9)(k:bN h b 192 (mb x p wS gS))(o:fm h wS 1 az x.W)(t:i4 x.W<=2^20)(r:∀l∈x.W,i4 l<=2^20)(y:BN x.W<=2^40):
  ai kg 253 #[xW (dB b)] h λv h'=>v=xU ka (fk x.W)/\Sp h h' []:=by
 refine ts Tryz.func253 ?_ (xc (xc (u9 (v7 (ws [] [(4,12)] v6)) v6)));refine(Sp.refl h).alloc ag i5 λc z m=>?_;refine m.storeAll ag 0 i5 i5 [xU ka 0] i5 i5 i5 i5 λw s=>?_;refine an (λ_:Nat=>()) (λi h'=>i<=BN x.W+1/\(∀j,j<i->mB x.W (j:Int)=eS)/\Sp h h' [ak c 3 [xU ka i]]) (λi=>BN x.W+1-i) 0 i5 ⟨i6,λj q=>i6,s⟩ ?_;rintro i h3 ⟨A,a,d⟩;refine⟨b,i5,wS,(k.ac d.ac k.lt).cell i5,(SY wS x.W c i h3 (d.box 0 i5) (o.up d.ac) t r).x7 ?_⟩;refine⟨_,i5,aP (λe=>?_) λe=>?_⟩
 .have:=Lr e;refine⟨i,(d.box 0 i5).cell0 i5,d.storeAll ag 0 i5 i5 [xU ka (qd ka ((i:Int)+1))] i5 i5 i5 i5 λu f=>?_⟩;refine⟨i+1,i5,⟨i6,λj q=>?_,?_⟩,i6⟩
  .by_cases g:j=i
   .rw[g];exact e
   .exact a j i6
  .have f:=f;rw[af _]at f;exact f
 .refine⟨i,(d.box 0 i5).cell0 i5,?_,.zip d.ac⟩;rw[Wy e a]
variable {B:aw} {h0 h:f9} {As:List HP} {a:f7} {offs:Int} {da:List bL} {ds:aD} {m:au}
section
variable {pw:f7} {w:Pow}
theorem acY{k:Int}{d:be}{b:f7}(y:bw)(n:Int)(f:aT ds k=dB d)(o:gc da k=dB b)(i:cN h y m)(j:cw m)(H:aa B h0 h (bo a pw da offs w ds m::As)):
  ai kg 121 #[xW (dB b),eO y,xU ka n] h λv h'=>v=xY (io m d n)/\Sp h h' []:=by
 obtain⟨s,l,e,c,g⟩:=Is f o H;exact Bi s l y m n e c c.len g i j
theorem MZ{k:Int}{d:be}{b:f7}(c:aT ds k=dB d)(i:gc da k=dB b)(H:aa B h0 h (bo a pw da offs w ds m::As)):
  ∃l A2:HP,aa B h0 h (jJ pw b d::dM 126 pw w::l::A2::As)/\
   ∀h' w' g,aa B h0 h' (jJ pw b g::dM 126 pw w'::l::A2::As)->aa B h0 h' (bo a pw da offs w' (ck ds k g) m::As):=by
 obtain⟨y,H⟩:=fg H;obtain⟨n,rfl,u⟩:=kl c;have p:ds[n]?=dB (dB d):=by
  unfold aT at c;rw[g0 i6,qj]at c;cases hX:ds[n]? with
  |none=>rw[hX]at c;cases c
  |some o=>rw[hX]at c;exact congrArg dB c
 obtain⟨r,f,q⟩:=Qw.aa.iM H p;have j:r=b:=by unfold gc at i;rw[g0 i6,qj,f]at i;injection i
 subst j;refine⟨_,_,q,λh' w' g t=>?_⟩;have s:=Qw.aa.nz (k:=bi) (n:=n) f t;have e:ck ds (n:Int) g=ds.set n (dB g):=by simp only[ck,qj]
 rw[e];exact jb s
theorem acZ{k:Int}{d:be}{b:f7}(y:bw)(n:Int)(e:St B h0 As λh=>cN h y m)(i:cw m)(g:aT ds k=dB d)(l:gc da k=dB b)(H:aa B h0 h (bo a pw da offs w ds m::As)):
  ai kg 59 #[xW (dB b),eO y,xU ka n] h λv h'=>v=xU ka (ft m w d n).1/\aa B h0 h' (bo a pw da offs (ft m w d n).2.1 (ck ds k (ft m w d n).2.2) m::As):=by
 obtain⟨o,A2,f,c⟩:=MZ g l H;refine(Fq y m n e.cons.cons i f).mono ?_;rintro _ h' ⟨rfl,j⟩;exact⟨i5,c _ _ _ j⟩
theorem WN{k:Int}{d:be}{b:f7}(x:Sl)(row:aL)(l:Rd h x 1 aB row)(g:i4 row<=2^20)(f:aT ds k=dB d)(j:gc da k=dB b)(H:aa B h0 h (bo a pw da offs w ds m::As)):
  ai kg 126 #[xW (dB b),x] h λv h'=>v=xU ka (d.append w row).1/\aa B h0 h' (bo a pw da offs (d.append w row).2.1 (ck ds k (d.append w row).2.2) m::As):=by
 obtain⟨n,A2,e,c⟩:=MZ f j H;refine(GZ x row e l g).mono ?_;rintro _ h' ⟨rfl,i⟩;exact⟨i5,c _ _ _ i⟩
theorem ada(s:Sl)(l:av)(c:St B h0 As λh=>Rd h s 1 az l)(e:i4 l<=2^30)(b:∀x∈l,0<=x/\x<64)(H:aa B h0 h (bo a pw da offs w ds m::As)):
  ai kg 127 #[.func (.func 29) #[xW (dB a)] #[],s] h λv h'=>v=xU ka (fp (cL l) w ds).1/\aa B h0 h' (bo a pw da offs (fp (cL l) w ds).2.1 (fp (cL l) w ds).2.2 m::As):=by
 obtain⟨y,H⟩:=fg H;refine(Jx s l c.cons e b H).mono ?_;rintro _ h' ⟨rfl,d⟩;exact⟨i5,jb d⟩
theorem Ta(y:bw)(s:Sl)(c:av)(o b:Int)(f:cN h y m)(g:cw m)(j:Rd h s 1 az c)(l:i4 c<=2^10)(e:∀k∈c,∃d,aT ds k=dB d)(H:aa B h0 h (bo a pw da offs w ds m::As)):
  ai kg 83 #[.func (.func 29) #[xW (dB a)] #[],s,eO y,xU ka o,xU ka b] h λv h'=>∃(r:Sl) (i:List (Int×Sl)),v=r/\Sp h h' [dn iC 2 piv r i (ff m ds c o b)]:=by
 obtain⟨x,H⟩:=fg H;exact Ay y m s c o b f g j l e H
end
theorem uM(ds:aD)(k:Int)(d e:be):ck (ck ds k d) k e=ck ds k e:=by unfold ck;rw[yx]
theorem adb{live:av}{s i:Int}(d:0<=i↔s∈live)(k:0<=i->live[i.toNat]?=dB s/\∀j,j<i.toNat->live[j]?≠dB s)(h3:-1<=i):gO live s=i:=by
 unfold gO;by_cases c:0<=i
 .obtain⟨a,b⟩:=k c;have e:live.idxOf? s=dB i.toNat:=by unfold List.idxOf?;rw[List.findIdx?_eq_some_iff_getElem];obtain⟨l,m⟩:=ql.1 a;refine⟨l,by rw[m];simp,λj g=>?_⟩;have:=b j g;rw[qc i6]at this;simpa using λh=>this (by rw[h])
  rw[e]
  try dsimp only
  omega
 .have e:live.idxOf? s=eH:=by unfold List.idxOf?;rw[List.findIdx?_eq_none_iff];intro z f;have:s∉live:=λh=>c (d.2 h);simp only[beq_eq_false_iff_ne];rintro rfl;exact this f
  rw[e]
  try dsimp only
  omega
theorem Tb(k:Int)(b:aL):i4 (eI k b)<=64:=by
 by_cases h:1<=k/\k<=255/\b.length<=55
 .rw[mO h.1 h.2.1 h.2.2];exact qi _
 .unfold eI;rw[g9 h];exact zj _
theorem Lv{o:av}{i:Int}(a:o≠[])(e:0<=i:=by omega):fu o i∈o:=by unfold fu;rw[g9 λh=>h.elim a λh=>i6];have d:0<i4 o:=List.length_pos_iff.2 a;have b:=yQ i (show(i4 o:Int)≠0 by omega);have c:=wL i (show(0:Int)<i4 o by omega);unfold JL;rw[qg,qc i6];exact qe _
theorem Dw{o b s:Int}{l:av}(h:s∈cX o b l):s∈l:=by
 unfold cX at h;split at h
 .exact((Bn _ _ _).1 h).1
 .cases h
theorem adc(l:av):i4 (iE l)<=i4 l:=by
 have:=Qb l l.length
 rwa [qh (qi _)]at this
theorem WO(o b:Int)(l:av):i4 (cX o b l)<=i4 l:=by
 unfold cX;split
 .rw[(Dm _ _).length_eq];exact adc l
 .simp
structure nJ (m:au) (live:av) (x:jR):Prop where
 seed:0<=x.seed/\x.seed<4294967296
 ev:aU m.p.2.2.toNat x.M
 ml:i4 x.M=(bp m.p).toNat
 wl:i4 x.W=i4 live
 rl:∀l∈x.W,i4 l<=2^12+i4 x.got
 top:BN x.W<=2^20+i4 x.got
 gl:i4 x.got<=64
 gi:∀s∈x.got,s∈live
theorem Seq.afU{h:f9}{p:aw}{s:Sl}{rs:List Sl}(e:Qw.Seq h p s 1 bx rs){n:Nat}(i:n<i4 rs){a:f7}(f:s.ptr=dB a):cellOf h (a.add (n*1))=dB (.slice rs[n].ptr rs[n].len rs[n].cap):=by
 obtain⟨b,o,c,j,g⟩:=e.elem n rs[n] (qc i);rw[f]at c;injection c with c
 subst c;have d:=g.1;rw[add_eq,yc]at d;rw[add_eq];exact d
def Iy(s:Sl)(W:bX)(k:Nat)(rs:List Sl):HP:=HP.all (aq 22 s 1 bx rs::(bu 3 1 az rs W).set k emp)
variable {s:Sl} {W:bX} {k:Nat}
theorem QG(H:aa B h0 h As):aa B h0 h (emp::As):=(H.comp (.one (A:=emp) (aS.refl _ _) A0)).aZ
theorem aig(i:k<i4 W)(H:aa B h0 h (fC 22 s 3 1 az W::As)):
  ∃(rs:List Sl) (p:f7) (a:i4 rs=i4 W),s.ptr=dB p/\s.len=i4 W/\aa B h0 h (aq 3 (rs[k]'i6) 1 az W[k]::Iy s W k rs::As):=by
 obtain⟨rs,a,b⟩:=H.CL;have j:=(b.own 0 i5).len;obtain⟨p,o,d,_⟩:=(b.seq 0 rfl λ_=>rfl).elem k (rs[k]'i6) (qc i6);have f:=(QG b).aI 2 [1,0];have e:=(aa.Uh k (fo a k i) f).aI 3 [0,2];have g:aa B h0 h ([aq 3 (rs[k]'i6) 1 az W[k]]++((aq 22 s 1 bx rs::(bu 3 1 az rs W).set k emp)++As)):=e;have c:=g.front;rw[qm]at c;exact⟨rs,_,a,d,i6,(aa.closeAll _ c).aZ⟩
theorem afV{rs:List Sl}{p:f7}(i:Nat){Bs:List HP}(d:i4 rs=i4 W)(e:k<i4 W)(a:s.ptr=dB p)(c:Bs[i]?=dB (Iy s W k rs))(H:aa B h0 h Bs):cellOf h (p.add (k*1))=dB (.slice (rs[k]'i6).ptr (rs[k]'i6).len (rs[k]'i6).cap):=by have b:=(H.cons i c).pk;exact(b.seq 0 i5 λ_=>rfl).afU i6 a
theorem aih{rs:List Sl}{v:Sl}{l:av}{x:Int}(f:i4 rs=i4 W)(n:k<i4 W)(m:x=k)(H:aa B h0 h (aq 3 v 1 az l::Iy s W k rs::As)){K:f9->Prop}
  (j:∀h',aa B h0 h' (fC 22 s 3 1 az (W.set k l)::As)->K h'):
  ∃a:f7,(s.ptr=dB a/\0<=x/\x<((s.len:Nat):Int))/\aj kg (qF 22 (xW (dB (a.add (x.toNat*1)))) (xV v.ptr v.len v.cap)) h λ_ h'=>K h':=by
 have g:=H.oy.pk;refine g.set ag 0 i5 (λ_=>rfl) i5 k m i6 v i5 i5 i5 λh' i=>j h' ?_;have b:i4 (bu 3 1 az rs W)=i4 W:=by simp[bu];omega
 have d:=i.cons (i4 W+1) (A:=aq 3 v 1 az l) (by
  show((aq 22 s 1 bx (rs.set k v)::((bu 3 1 az rs W).set k emp++aq 3 v 1 az l::As)))[i4 W+1]?=_;rw[qO,qk qb];simp[b])
 have e:((aq 22 s 1 bx (rs.set k v)::((bu 3 1 az rs W).set k emp++aq 3 v 1 az l::As))).set (i4 W+1) emp=aq 22 s 1 bx (rs.set k v)::((bu 3 1 az rs W).set k emp++emp::As):=by rw[zO,qN _ _ qb];simp[b]
 have d:aa B h0 h' (aq 3 v 1 az l::aq 22 s 1 bx (rs.set k v)::((bu 3 1 az rs W).set k emp++emp::As)):=by rw[<-e];exact d
 have c:=(aa.GB k i6 ((QG d).aI 3 [1,0,2])).aI 2 [0];have c:aa B h0 h' (aq 22 s 1 bx (rs.set k v)::((bu 3 1 az rs W).set k (aq 3 v 1 az l)++emp::As)):=c;rw[je f]at c;exact(aa.Et (by simp[f]) c).aI 2 [0]
def sw(b a:f7)(x:jR):HP:=HP.ex λp:Sl×Sl=>(ak b 192 (mb x (dB a) p.1 p.2)).sep ((fC 22 p.1 3 1 az x.W).sep (aq 3 p.2 1 az x.got))
variable {b cd:f7} {x:jR}
theorem GI(H:aa B h0 h (sw b cd x::As)):∃wS gS:Sl,aa B h0 h (aq 3 gS 1 az x.got::fC 22 wS 3 1 az x.W::ak b 192 (mb x (dB cd) wS gS)::As):=by obtain⟨⟨wS,gS⟩,H⟩:=H.sI;exact⟨wS,gS,H.sZ.sZ⟩
theorem AE{wS gS:Sl}(H:aa B h0 h (aq 3 gS 1 az x.got::fC 22 wS 3 1 az x.W::ak b 192 (mb x (dB cd) wS gS)::As)):aa B h0 h (sw b cd x::As):=
 aa.wn (F:=λp:Sl×Sl=>(ak b 192 (mb x (dB cd) p.1 p.2)).sep ((fC 22 p.1 3 1 az x.W).sep (aq 3 p.2 1 az x.got))) (wS,gS) H.mh.mh
section
variable {pw:f7} {w:Pow}
theorem aag{c b J:f7}(y:bw)(L g:Sl)(live set:av)(t most k:Int)(x:jR)(hm:bh m=eS)(hp:bB m.p=eS)(hl:i4 live<=64)(a6:∀k∈live,∃d,aT ds k=dB d)(hk:0<=k/\k<=2^40)(F:nJ m live x)(en:i4 set<=2^20)
  (hS:St B h0 As λh=>cN h y m/\Rd h L 1 az live/\Rd h g 1 az set/\Aq h J m.p x.seed x.M)
  (H:aa B h0 h (bo a pw da offs w ds m::ak c 118 (fK a y L t most k)::sw b J x::As)):
  ai kg 198 #[xW (dB c),xW (dB b),g] h λv h'=>v=xU ka (fV m live set w ds x).1/\
   aa B h0 h' (bo a pw da offs (fV m live set w ds x).2.1 (fV m live set w ds x).2.2.1 m::ak c 118 (fK a y L t most (if(fV m live set w ds x).1=0 then k+1 else k))::sw b J (fV m live set w ds x).2.2.2::As):=by
 refine ts Tryz.func198 ?_ (xc (xc (xc (u9 (xc (v7 (ws [(33,aR)] [(6,7),(9,16),(33,140)] (xc (xc (u9 (v7 (xc (xc (xc (xc (x6 [] [(53,65)] (xc (x6 [(14,(.sc .adr))] [(14,15),(74,99)] (xc (x6 [] [(106,132)] v6)))))))))) v6)))))) v6)))) [(13,(.y [0,1,2,3,4,5,6,7,8,9,10,11,12,13,14,15,16,17,18,19,20,21,22] (.l [23,24,25,26]) (.l [25,23,24,26]))),(17,(.y [0,1,2,3,4,5,6,7,8,9,10,11,12,13,16,17,18,19,20] (.y [14] (.l [15,21,22,23,24,25,26,27]) (.l [21,15,22,23,24,25,26,27])) (.l [21,14,15,22,23,24,25,26,27])))];obtain⟨wS,gS,H1⟩:=GI (H.aI 3 [2,0,1]);have ah:=H1.box 2 i5;have bq:=H1.box 4 i5;have d0:fm h wS 1 az x.W:=aa.Cb (H1.aI 2 [1,0]) λ_=>rfl;have d5:=F.gl;have b5:∀l∈x.W,i4 l<=2^13:=λl hl=>by have:=F.rl l hl;omega
 obtain⟨id,hid⟩:=z6 (fk x.W)
 have d3:id<=2^21:=by have:=Qu x.W;have:=F.top;omega
 refine(SZ b x (dB J) wS gS h ah d0 (by rw[F.wl];omega) (λl hl=>by have:=b5 l hl;omega) (by have:=F.top;omega)).x8 λh1 R1=>?_;rw[<-hid];have H1:=H1.up R1.ac;have cn:=(hS.cons.cons.cons.cons.cons).here H1;obtain⟨ef,a9,eh,ep⟩:=cn;have ah:=H1.box 2 i5;have bq:=H1.box 4 i5;refine⟨(id:Int),i5,b,i5,x.o,ah.cell0 i5,b,i5,x.b,ah.cell i5,c,i5,L,bq.cell i5,(BJ x.o x.b L live h1 a9).y0 λr8 h2 R2=>?_⟩;obtain⟨o,ho⟩:=z6 (cX x.o x.b live)
 rw[<-ho]at R2;have ei:i4 o<=64:=by rw[ho];exact qM (WO _ _ _) hl
 have H2:=H1.bS R2;have d9:=(H2.own 0 i5).len;refine⟨r8,i5,A0,?_⟩;obtain⟨cell,N⟩:=z6 (cD (x.JW m id))
 have e0:fV m live set w ds x=(let r:=gX m live set o cell id w ds (qn o.length);(r.1.1,r.1.2.1,r.1.2.2,if r.1.1=0 then x.BP id r.2.1 r.2.2 else x)):=by rw[ho,N,hid];rfl
 rw[e0];refine an (λi:Nat=>(i:Int)) (λi h'=>i<=i4 o/\gX m live set o cell id w ds (qn o.length)=gX m live set o cell id w ds ((qn o.length).drop i)/\aa B h0 h' (aq 3 r8 1 az o::aq 3 gS 1 az x.got::fC 22 wS 3 1 az x.W::ak b 192 (mb x (dB J) wS gS)::bo a pw da offs w ds m::ak c 118 (fK a y L t most k)::As)) (λi=>i4 o-i) 0 i5 ⟨i6,i5,H2⟩ ?_;rintro i h3 ⟨hi,bl,T⟩;refine ae (λe=>?_) λe=>?_
 rotate_left
 .have eb:i=i4 o:=i6
  have hd:(qn o.length).drop i=[]:=List.drop_eq_nil_of_le jj;rw[bl,hd];refine⟨i5,?_⟩;have T:=T.rest;exact((AE (T.aI 5 [0,1,2,3,4])).aI 3 [1,2,0])
 have b9:i<i4 o:=i6
 have hd:(qn o.length).drop i=i::(qn o.length).drop (i+1):=by rw[qJ jj,yM]
 rw[af ((id:Int)+(i:Int))];refine(Lm r8 o ((id:Int)+i) h3 (T.seq 0 i5 λ_=>rfl)).x7 ?_;obtain⟨s,hs⟩:=z6 (fu o ((id:Int)+i))
 rw[<-hs];have cm:s∈o:=by rw[hs];exact Lv (by intro h;rw[h]at b9;simp at b9)
 have ay:=Dw (by rw[<-ho];exact cm);obtain⟨d,Z⟩:=a6 s ay;have O:gX m live set o cell id w ds (qn o.length)=(if gO live s∈set∨io m d 1=eX then gX m live set o cell id w ds ((qn o.length).drop (i+1))else(jQ m cell w ds s d,gO live s,s)):=by rw[bl,hd,gX,<-hs,Z]
 obtain⟨c8,cf,dx,d8⟩:=(hS.cons.cons.cons.cons.cons.cons).here T;have V:=T.box 5 i5;refine⟨_,i5,c,i5,L,V.cell i5,(index_spec L live s _ cf i6).mono ?_⟩;rintro _ _ ⟨⟨G,rfl,q1,q2,q3,q4⟩,rfl⟩;have a4:=adb q1 q2 q4;have c5:=q1.2 ay;refine⟨G,i5,c,i5,dB a,V.cell0 i5,(Bq s (T.aI 5 [4])).x7 ?_⟩;obtain⟨dp,ab⟩:=GG Z (T.aI 5 [4]);rw[ab];refine⟨_,i5,?_⟩;refine bF (λ(_:Unit) h'=>¬(gO live s∈set∨io m d 1=eX)/\aa B h0 h' (aq 3 r8 1 az o::aq 3 gS 1 az x.got::fC 22 wS 3 1 az x.W::ak b 192 (mb x (dB J) wS gS)::bo a pw da offs w ds m::ak c 118 (fK a y L t most k)::As)) ?_ ?_
 .refine(ug g set G _ dx i6).x7 ⟨_,i5,ae (λe1=>?_) λe1=>?_⟩
  .refine⟨i+1,j4,⟨i6,?_,T⟩,i6⟩;rw[O,g0 (.inl (by rw[a4];exact e1))]
  .refine⟨c,i5,y,V.cells 1 _ i5,(acY y 1 Z ab c8 (gI hm) (T.aI 5 [4])).x8 λh4 R4=>?_⟩;refine⟨_,i5,aX (λe2=>?_) λe2=>?_⟩
   .refine⟨i+1,j4,⟨i6,?_,T.up R4.ac⟩,i6⟩;rw[O,g0 (.inr e2)]
   .exact⟨λh=>h.elim (λh=>e1 (by rw[<-a4];exact h)) (λh=>by rw[h]at e2;cases e2),T.up R4.ac⟩
 rintro _ h5 ⟨c1,H5⟩;rw[O,g9 c1]
 try dsimp only
 have bb:=H5.box 5 i5;have H5:=H5.aI 6 [4,1,2,3,5];refine⟨c,i5,y,bb.cells 1 _ i5,(acZ y 1 (hS.cons.cons.cons.cons.mono λ_ q=>q.1) (gI hm) Z ab H5).x8 λh6 H6=>?_⟩;obtain⟨mk,a3⟩:=z6 (ft m w d 1)
 rw[<-a3]at H6⊢;refine⟨_,i5,bH (λe3=>?_) λe3=>?_⟩
 .have ea:jQ m cell w ds s d=(mk.1,mk.2.1,ck ds s mk.2.2):=by
   unfold jQ;rw[<-a3]
   try dsimp only
   rw[g0 e3]
  rw[ea]
  try dsimp only
  rw[g9 e3,g9 e3];refine⟨i5,?_⟩;exact(AE (H6.aI 5 [1,2,3,0,4])).aI 3 [1,2,0]
 have bk:aT (ck ds s mk.2.2) s=dB mk.2.2:=by rw[jK (lY H).1 Z,g0 rfl]
 obtain⟨S,cc⟩:=z6 (mk.2.2.append mk.2.1 cell)
 have ea:jQ m cell w ds s d=(S.1,S.2.1,ck (ck ds s mk.2.2) s S.2.2):=by
  unfold jQ;rw[<-a3]
  try dsimp only
  rw[g9 λh=>h e3,<-cc,uM]
 rw[ea]
 try dsimp only
 obtain⟨c4,d2,ed,cq⟩:=(hS.cons.cons.cons.cons.cons).here H6;have P:=H6.box 3 i5;have br:=H6.box 4 i5;have b1:∀{h':f9},bN h' c 118 (fK a y L t most k)->cN h' y m->bt h' ((c.add 1).add 2) 0 [xU ka m.p.1,xU ka m.p.2.1,xU ka m.p.2.2]:=λ{h'} hb hy=>by
  have dr:y.2.2.1=m.p.1:=congrArg (·.1) hy.p;have cs:y.2.2.2.1=m.p.2.1:=congrArg (·.2.1) hy.p;have cr:y.2.2.2.2.1=m.p.2.2:=congrArg (·.2.2) hy.p;rw[addr_add,<-dr,<-cs,<-cr];exact hb.cells 3 _ i5
 refine bF (λ(z:f7) h'=>∃u:Sl,aa B h0 h' (ak z 166 (bZ (x.o,x.b,(id:Int),m.p.1,m.p.2.1,m.p.2.2,x.seed,u))::aq 5 u 1 aB (x.JW m id).data::bo a pw da offs mk.2.1 (ck ds s mk.2.2) m::aq 3 gS 1 az x.got::fC 22 wS 3 1 az x.W::ak b 192 (mb x (dB J) wS gS)::ak c 118 (fK a y L t most k)::As)) ?_ ?_
 .have dk:=b1 br c4;have K:∀{h':f9},bN h' b 192 (mb x (dB J) wS gS)->bN h' c 118 (fK a y L t most k)->cN h' y m->bQ.ok [(b.add 2,xU ke x.seed),((c.add 1).add 2,xU ka m.p.1),(((c.add 1).add 2).add 1,xU ka m.p.2.1),(((c.add 1).add 2).add 2,xU ka m.p.2.2),(b.add 1,xU ka x.b),(b,xU ka x.o)] h':=λ{h'} hb hc hy=>by
   have q:=b1 hc hy;exact⟨hb.cell i5,q.1,q.2.1,q.2.2.1,hb.cell i5,hb.cell0 i5,A0⟩
  refine⟨b,i5,x.o,P.cell0 i5,b,i5,x.b,P.cell i5,c,i5,m.p,dk,b,i5,x.seed,P.cell i5,b,i5,dB J,P.cell i5,?_,?_⟩
  .refine(BI J m.p x.seed id x.M (bp m.p).toNat m.p.2.2.toNat h6 cq hp (by have:=(bK m.p).1 hp;omega) i5 F.ev F.ml).y0 λu h7 R7=>?_;have H7:=H6.bS R7;refine⟨u,i5,K (H7.box 4 i5) (H7.box 5 i5) ((hS.cons.cons.cons.cons.cons.cons).here H7).1,H7.alloc ag i5 λcl h8 R=>?_⟩;have R:=R.aZ;refine⟨K (R.box 5 i5) (R.box 6 i5) ((hS.cons.cons.cons.cons.cons.cons.cons).here R).1,?_⟩;refine R.storeAll ag 0 i5 i5 (bZ (x.o,x.b,(id:Int),m.p.1,m.p.2.1,m.p.2.2,x.seed,u)) i5 i5 i5 i5 λh9 H9=>⟨A0,u,H9⟩
  .refine H6.alloc ag i5 λcl h8 R=>?_;have R:=R.aZ;obtain⟨dd,_,_,c7⟩:=(hS.cons.cons.cons.cons.cons.cons).here R;refine⟨⟨(R.box 4 i5).cell i5,K (R.box 4 i5) (R.box 5 i5) dd⟩,?_⟩;refine(BI J m.p x.seed id x.M (bp m.p).toNat m.p.2.2.toNat h8 c7 hp (by have:=(bK m.p).1 hp;omega) i5 F.ev F.ml).y0 λu h7 R7=>?_;have H7:=R.bS R7;refine⟨u,i5,K (H7.box 5 i5) (H7.box 6 i5) ((hS.cons.cons.cons.cons.cons.cons.cons).here H7).1,?_⟩;refine H7.storeAll ag 1 i5 i5 (bZ (x.o,x.b,(id:Int),m.p.1,m.p.2.1,m.p.2.2,x.seed,u)) i5 i5 i5 i5 λh9 H9=>⟨A0,u,H9.oy⟩
 rintro z dy ⟨u,a5⟩;have bs:=a5.box 0 i5;refine⟨(x.o,x.b,(id:Int),m.p.1,m.p.2.1,m.p.2.2,x.seed,u),bs.aE _ i5,?_⟩;have a0:=a5.seq 1 i5 λ_=>rfl;refine(oE (x.o,x.b,(id:Int),m.p.1,m.p.2.1,m.p.2.2,x.seed,u) (x.JW m id) dy ⟨⟨i5,i5,i5,i5,i5,F.seed⟩,a0⟩).y0 λb6 et b7=>?_;rw[<-N]at b7;have am:=a5.bS b7;have c9:i4 cell<=2^20:=by
  rw[N];unfold cD;split
  .exact qM (Tb _ _) i7
  .simp
 have am:=am.aI 8 [3,0,4,5,6,7];refine⟨b6,i5,(WN b6 cell (am.seq 1 i5 λ_=>rfl) c9 bk ab am).x8 λel U=>?_⟩;rw[<-cc]at U⊢;have U:=U.aI 6 [2,3,4,0,5];refine⟨_,i5,bH (λe4=>?_) λe4=>?_⟩
 .rw[g9 e4,g9 e4];refine⟨i5,?_⟩;exact(AE U).aI 3 [1,2,0]
 rw[e4,g0 i5,g0 rfl];obtain⟨A,ax⟩:∃A:Nat,G=(A:Int):=⟨G.toNat,i6⟩
 have E:A<i4 x.W:=by rw[F.wl];omega
 have a1:x.BP id (gO live s) s={x with W:=x.W.set A (x.W[A]++[(id:Int)]),got:=x.got++[s]}:=by unfold jR.BP;rw[a4,ax,qj,qg,qc E];rfl
 rw[a1];refine bF (λ(_:Unit) h'=>aa B h0 h' (bo a pw da offs S.2.1 (ck (ck ds s mk.2.2) s S.2.2) m::ak c 118 (fK a y L t most k)::sw b J {x with W:=x.W.set A (x.W[A]++[(id:Int)]),got:=x.got++[s]}::As)) ?_ ?_
 .obtain⟨rs,pp,b3,b0,du,ad⟩:=aig E (U.aI 2 [1,0]);have d1:=b5 _ (qe E);have I:∀{h':f9} {r r':HP} {Cs:List HP},aa B h0 h' (r::Iy wS x.W A rs::r'::ak b 192 (mb x (dB J) wS gS)::Cs)->bN h' b 192 (mb x (dB J) wS gS)/\cellOf h' (pp.add (G.toNat*1))=dB (.slice (rs[A]'i6).ptr (rs[A]'i6).len (rs[A]'i6).cap):=λ{h' r r' Cs} Q=>
   ⟨Q.box 3 i5,by rw[ax,qj];exact afV 1 b3 E b0 i5 Q⟩
  have X:=ad.box 3 i5;have fin:∀{h':f9} {v v':Sl} {Cs:List HP},aa B h0 h' (aq 3 v 1 az (x.W[A]++[(id:Int)])::Iy wS x.W A rs::aq 3 v' 1 az (x.got++[s])::ak b 192 (mb x (dB J) wS gS)::bo a pw da offs S.2.1 (ck (ck ds s mk.2.2) s S.2.2) m::ak c 118 (fK a y L t most k)::As)->
    bQ.ok [(b.add 4,xV wS.ptr wS.len wS.cap),(b.add 4,xV wS.ptr wS.len wS.cap)] h'/\∃a55:f7,(wS.ptr=dB a55/\0<=G/\G<(wS.len:Int))/\aj kg (qF 22 (xW (dB (a55.add (G.toNat*1)))) (xV v.ptr v.len v.cap)) h' λ_ a2=>
     bQ.ok [] a2/\∃bd:f7,(dB b=dB bd)/\aj kg (qF 22 (xW (dB (bd.add 5))) (xV v'.ptr v'.len v'.cap)) a2 λ_ a7=>bQ.ok [] a7/\
      aa B h0 a7 (bo a pw da offs S.2.1 (ck (ck ds s mk.2.2) s S.2.2) m::ak c 118 (fK a y L t most k)::sw b J {x with W:=x.W.set A (x.W[A]++[(id:Int)]),got:=x.got++[s]}::As):=λ{h' v v' Cs} Q=>by
   have b4:=(I Q).1;refine⟨⟨b4.cell i5,b4.cell i5,A0⟩,aih b3 E ax Q λa2 c6=>⟨A0,b,i5,c6.storeAt ag 2 i5 i5 i5 i5 i5 (show 5<6 by decide) λa7 c2=>⟨A0,?_⟩⟩⟩;exact(AE (x:={x with W:=x.W.set A (x.W[A]++[(id:Int)]),got:=x.got++[s]}) (wS:=wS) (gS:=v') (c2.aI 5 [1,0,2,3,4])).aI 3 [1,2,0]
  have ao:∀{h':f9} {r r':HP} {Cs:List HP},aa B h0 h' (r::Iy wS x.W A rs::r'::ak b 192 (mb x (dB J) wS gS)::Cs)->
    bQ.ok [(b.add 5,xV gS.ptr gS.len gS.cap),(b.add 4,xV wS.ptr wS.len wS.cap),(b.add 4,xV wS.ptr wS.len wS.cap)] h':=λQ=>⟨(I Q).1.cell i5,(I Q).1.cell i5,(I Q).1.cell i5,A0⟩
  have ar:∀{h':f9} {r r':HP} {Cs:List HP},aa B h0 h' (r::Iy wS x.W A rs::r'::ak b 192 (mb x (dB J) wS gS)::Cs)->
    bQ.ok [(b.add 5,xV gS.ptr gS.len gS.cap),(pp.add (G.toNat*1),.slice (rs[A]'i6).ptr (rs[A]'i6).len (rs[A]'i6).cap),(b.add 4,xV wS.ptr wS.len wS.cap),(b.add 4,xV wS.ptr wS.len wS.cap)] h':=λQ=>⟨(I Q).1.cell i5,(I Q).2,(I Q).1.cell i5,(I Q).1.cell i5,A0⟩
  refine⟨b,i5,wS,X.cell i5,b,i5,wS,X.cell i5,pp,⟨b0,c5,(by rw[ax,du];exact Int.ofNat_lt.2 E)⟩,rs[A]'i6,(I ad).2,b,i5,gS,X.cell i5,?_,?_⟩
  .refine ad.lit ag az gz i5 [(id:Int)] i5 (show 1*1<=2^20 by decide) i5 λv51 c0 D=>?_;have D:=D.aZ;refine⟨ar D.rest,?_,?_⟩
   .refine D.append ag 1 i5 gz ⟨_,_,i5,i5⟩ i5 i7 (λ_=>rfl) (D.seq 0 i5 λ_=>rfl) eZ jj λd6 ce f=>⟨ao f.rest,?_⟩
    refine f.lit ag az gz i5 [s] i5 (show 1*1<=2^20 by decide) i5 λv53 a8 j=>?_;have j:=(j.aZ).aI 3 [0,2];refine⟨ao j.rest,?_⟩;refine j.append ag 3 i5 gz ⟨_,_,i5,i5⟩ i5 i7 (λ_=>rfl) (j.seq 0 i5 λ_=>rfl) eZ jj λej ca Y=>?_;exact fin (Cs:=[]) Y.rest
   .refine D.lit ag az gz i5 [s] i5 (show 1*1<=2^20 by decide) i5 λeo ce f=>?_;have f:=f.aZ;refine⟨ar f.rest.rest,?_⟩;refine f.append ag 2 i5 gz ⟨_,_,i5,i5⟩ i5 i7 (λ_=>rfl) (f.seq 1 i5 λ_=>rfl) eZ jj λec a8 j=>⟨ao j.rest.rest,?_⟩
    refine j.append ag 4 i5 gz ⟨_,_,i5,i5⟩ i5 i7 (λ_=>rfl) (j.seq 0 i5 λ_=>rfl) eZ jj λd4 ca Y=>?_;exact fin (Cs:=[]) Y.rest.rest
  .refine ad.lit ag az gz i5 [s] i5 (show 1*1<=2^20 by decide) i5 λes c0 D=>?_;have D:=D.aZ;refine⟨ar D.rest,?_⟩;refine D.lit ag az gz i5 [(id:Int)] i5 (show 1*1<=2^20 by decide) i5 λek ce f=>?_;have f:=f.aZ;refine⟨ar f.rest.rest,?_⟩;refine f.append ag 2 i5 gz ⟨_,_,i5,i5⟩ i5 i7 (λ_=>rfl) (f.seq 0 i5 λ_=>rfl) eZ jj λer a8 j=>⟨ao j.rest.rest,?_⟩
   refine j.append ag 4 i5 gz ⟨_,_,i5,i5⟩ i5 i7 (λ_=>rfl) (j.seq 1 i5 λ_=>rfl) eZ jj λeg ca Y=>?_;exact fin (Cs:=[]) Y.rest.rest
 rintro _ d7 b2;refine⟨c,i5,k,(b2.box 1 i5).cell i5,c,i5,b2.storeAt ag 1 i5 i5 i5 i5 i5 (show 12<13 by decide) λcp al=>⟨i5,?_⟩⟩;have al:aa B h0 cp (bo a pw da offs S.2.1 (ck (ck ds s mk.2.2) s S.2.2) m::ak c 118 (fK a y L t most (qd ka (k+1)))::sw b J {x with W:=x.W.set A (x.W[A]++[(id:Int)]),got:=x.got++[s]}::As):=al;rw[af _]at al;exact al
end
theorem Iz{m:au}{live set order:av}{c:aL}{id:Nat}{w:Pow}{ds:aD}:∀{l:List Nat},(gX m live set order c id w ds l).1.1=0->
  ∃i∈l,∃d,aT ds (fu order ((id:Int)+i))=dB d/\gO live (fu order ((id:Int)+i))∉set/\io m d 1=eS/\gX m live set order c id w ds l=(jQ m c w ds (fu order ((id:Int)+i)) d,gO live (fu order ((id:Int)+i)),fu order ((id:Int)+i))
 |[],h=>j8
 |i::l,h=>by
  unfold gX at h⊢;dsimp only at h⊢;cases hd:aT ds (fu order ((id:Int)+i))with
  |none=>
   rw[hd]at h;obtain⟨j,b,r⟩:=Iz h;exact⟨j,qC _ b,r⟩
  |some d=>
   rw[hd]at h;dsimp only at h⊢;by_cases a:gO live (fu order ((id:Int)+i))∈set∨io m d 1=eX
   .rw[g0 a]at h⊢;obtain⟨j,b,r⟩:=Iz h;exact⟨j,qC _ b,r⟩
   .rw[g9 a];exact⟨i,qQ,d,hd,λh=>a (.inl h),by cases hf:io m d 1 with|true=>rfl|false=>exact absurd (.inr hf) a,rfl⟩
theorem aah{m:au}{c:aL}{w:Pow}{ds:aD}{s:Int}{d:be}:∃a,(jQ m c w ds s d).2.2=ck ds s a:=by
 unfold jQ
 try dsimp only
 split
 .exact⟨_,i5⟩
 .exact⟨_,uM _ _ _ _⟩
theorem IA{m:au}{live set order:av}{c:aL}{id:Nat}{w:Pow}{ds:aD}(a:i4 ds=64){P:Int->Prop}(b:∀k,P k->∃d,aT ds k=dB d):∀{l:List Nat},∀k,P k->∃d,aT (gX m live set order c id w ds l).1.2.2 k=dB d
 |[],k,hk=>b k hk
 |i::l,k,hk=>by
  unfold gX
  try dsimp only
  cases hd:aT ds (fu order ((id:Int)+i))with
  |none=>exact IA a b k hk
  |some d=>
   try dsimp only
   split
   .exact IA a b k hk
   .obtain⟨f,e⟩:=aah (m:=m) (c:=c) (w:=w) (ds:=ds) (s:=fu order ((id:Int)+i)) (d:=d)
    try dsimp only
    rw[e,jK a hd];split
    .exact⟨_,i5⟩
    .exact b k hk
theorem QH{W:bX}{n:Nat}(h:∀l∈W,∀x∈l,x.toNat<=n):BN W<=n:=by
 have b:∀l:av,(∀x∈l,x.toNat<=n)->l.foldr (λx a=>max a x.toNat) 0<=n:=by
  intro l
  induction l with
  |nil=>intro _;exact zj _
  |cons x l ih=>
   intro h;rw[List.foldr_cons];have f:=ih λy d=>h y (qC _ d);have g:=h x qQ;omega
 exact b _ λx c=>by
  obtain⟨l,e,c⟩:=vB.1 c;exact h l e x c
theorem IB{m:au}{live set:av}{w:Pow}{ds:aD}{x:jR}(F:nJ m live x)(D:i4 x.got<64):nJ m live (fV m live set w ds x).2.2.2/\((fV m live set w ds x).1=0->∃s,s∈live/\(fV m live set w ds x).2.2.2=x.BP (fk x.W) (gO live s) s)/\((fV m live set w ds x).1≠0->(fV m live set w ds x).2.2.2=x):=by
 unfold fV
 try dsimp only
 obtain⟨r,q⟩:=z6 (gX m live set (cX x.o x.b live) (cD (x.JW m (fk x.W))) (fk x.W) w ds (qn (cX x.o x.b live).length))
 rw[<-q];by_cases h:r.1.1=0
 .rw[g0 h];obtain⟨i,n,d,G,B,h3,p⟩:=Iz (by rw[<-q];exact h);rw[<-q]at p;have n:=qK.1 n;have y:fu (cX x.o x.b live) ((fk x.W:Int)+i)∈live:=Dw (Lv (by intro h;rw[h]at n;simp at n));have A:r.2.1=gO live (fu (cX x.o x.b live) ((fk x.W:Int)+i)):=by rw[p]
  have u:r.2.2=fu (cX x.o x.b live) ((fk x.W:Int)+i):=by rw[p]
  refine⟨?_,λ_=>⟨_,y,by rw[A,u]⟩,λt=>absurd h t⟩;have g:(x.BP (fk x.W) r.2.1 r.2.2).got.length=i4 x.got+1:=by simp[jR.BP]
  have c:∀l∈(x.BP (fk x.W) r.2.1 r.2.2).W,l∈x.W∨l=x.W.getD r.2.1.toNat []++[(fk x.W:Int)]:=λl j=>zQ j;have e:∀k,x.W.getD k []∈x.W∨x.W.getD k []=[]:=λk=>by
   by_cases v:k<i4 x.W
   .rw[gh [] v];exact .inl (qe v)
   .exact .inr (by rw[qg,zd i6];rfl)
  have H:=Qu x.W;have E:=F.top;refine⟨F.seed,F.ev,F.ml,by show(x.W.set _ _).length=_;rw[zf];exact F.wl,λl j=>?_,?_,i6,λs f=>?_⟩
  .rw[g];rcases c l j with h|rfl
   .have:=F.rl l h;omega
   .rw[qu,List.length_singleton];rcases e r.2.1.toNat with h|h
    .have:=F.rl _ h;omega
    .rw[h,yk];omega
  .rw[g];refine QH λl j z a=>?_;rcases c l j with h|rfl
   .have:=Lq (vB.2 ⟨l,h,a⟩);omega
   .rcases qt.1 a with a|a
    .rcases e r.2.1.toNat with h|h
     .have:=Lq (vB.2 ⟨_,h,a⟩);omega
     .rw[h]at a;cases a
    .rw[qw.1 a];omega
  .have f:s∈x.got++[r.2.2]:=f;rcases qt.1 f with h|h
   .exact F.gi s h
   .rw[qw.1 h,u];exact y
 .rw[g9 h];exact⟨F,λt=>absurd t h,λ_=>rfl⟩
theorem aai(p:Pm)(seed:Int)(W:bX)(t:Int):(jG p seed W t).1.length<=64:=by
 unfold jG;split
 .split
  .split
   .exact zj _
   .rename_i h _;split
    .rename_i g b;obtain⟨y,a,rfl⟩:=qo.1 (wU b)
     try dsimp only
     rw[lE,(CX a).1];omega
    .exact zj _
  .exact zj _
 .exact zj _
section
variable {pw:f7} {w:Pow}
theorem WP{c b Y:f7}(y:bw)(J:Sl)(live:av)(t most k:Int)(x:jR)(hm:bh m=eS)(hp:bB m.p=eS)(hl:i4 live<=64)(L:∀k∈live,∃d,aT ds k=dB d)(hk:0<=k/\k<=2^39)(F:nJ m live x)(E:x.got=[])(D:0<=most/\most<=64)
  (hS:St B h0 As λh=>cN h y m/\Rd h J 1 az live/\Aq h Y m.p x.seed x.M)
  (H:aa B h0 h (bo a pw da offs w ds m::ak c 118 (fK a y J t most k)::sw b Y x::As)):
  ai kg 131 #[xW (dB c),xW (dB b)] h λv h'=>v=xU ka (dQ m live t most 65 w ds x).1/\
   aa B h0 h' (bo a pw da offs (dQ m live t most 65 w ds x).2.1 (dQ m live t most 65 w ds x).2.2.1 m::ak c 118 (fK a y J t most (k+(dQ m live t most 65 w ds x).2.2.2.got.length))::sw b Y (dQ m live t most 65 w ds x).2.2.2::As):=by
 refine ts Tryz.func131 ?_ (xc (v7 (ws [] [(4,56)] v6)));obtain⟨G,hG⟩:=z6 (dQ m live t most 65 w ds x)
 rw[<-hG];refine an (λ_:Nat×Pow×aD×jR=>()) (λz h'=>z.1+i4 z.2.2.2.got=65/\(i4 z.2.2.2.got:Int)<=most/\G=dQ m live t most z.1 z.2.1 z.2.2.1 z.2.2.2/\nJ m live z.2.2.2/\z.2.2.2.seed=x.seed/\z.2.2.2.M=x.M/\(∀k∈live,∃d,aT z.2.2.1 k=dB d)/\
  aa B h0 h' (bo a pw da offs z.2.1 z.2.2.1 m::ak c 118 (fK a y J t most (k+i4 z.2.2.2.got))::sw b Y z.2.2.2::As)) (λz=>z.1) (65,w,ds,x) i5 ⟨by rw[E];rfl,by rw[E];exact D.1,hG,F,i5,i5,L,by rw[E];show aa B h0 h (_::ak c _ (fK a y J t most (k+0))::_);rw[xH];exact H⟩ ?_
 rintro⟨f,w1,K,j⟩ h1 ⟨hf,ad,g,O,es,eM,i,N⟩;dsimp only at hf ad g O es eM i N⊢;obtain⟨f',rfl⟩:∃f',f=f'+1:=⟨f-1,i6⟩
 have U:=N.box 1 i5;obtain⟨wS,gS,H2⟩:=GI (N.aI 3 [2,0,1]);have V:=H2.box 2 i5;have a0:fm h1 wS 1 az j.W:=aa.Cb (H2.aI 2 [1,0]) λ_=>rfl;have ax:eF (bM (cG 1 az) 1 bx) h1 wS j.W:=by obtain⟨rs,q1,q2,q3⟩:=a0;exact⟨rs,q1,q2,q3⟩
 obtain⟨hy,a1,hM⟩:=(hS.cons.cons.cons).here N;have ap:y.2.2.1=m.p.1:=congrArg (·.1) hy.p;have al:y.2.2.2.1=m.p.2.1:=congrArg (·.2.1) hy.p;have ah:y.2.2.2.2.1=m.p.2.2:=congrArg (·.2.2) hy.p;have ao:bt h1 ((c.add 1).add 2) 0 [xU ka m.p.1,xU ka m.p.2.1,xU ka m.p.2.2]:=by rw[addr_add,<-ap,<-al,<-ah];exact U.cells 3 _ i5
 refine⟨c,i5,m.p,ao,b,i5,j.seed,V.cell i5,b,i5,wS,V.cell i5,c,i5,t,U.cell i5,?_⟩;refine(JV m.p j.seed wS j.W t h1 ax (by rw[O.wl];omega) (λl hl=>by have:=O.rl l hl;have:=O.gl;omega) (vq _)).y0 λr h2 R2=>?_;obtain⟨q,hq⟩:=z6 (jG m.p j.seed j.W t)
 rw[<-hq]at R2⊢;rw[dQ]at g;dsimp only at g;rw[<-hq]at g;have T:=N.up R2.ac;refine⟨(r,q.2.1,q.2.2),i5,A0,?_⟩
 try dsimp only
 refine bH (λe=>?_) λe=>?_
 .rw[g0 e]at g;rw[g];exact⟨i5,T⟩
 rw[g9 λh=>h e]at g;refine aX (λe1=>?_) λe1=>?_
 .rw[g0 e1]at g;rw[g];exact⟨i5,T⟩
 rw[g9 k9]at g;obtain⟨a2,am,H4⟩:=GI (T.aI 3 [2,0,1]);have ab:=H4.box 2 i5;have u:=(H4.own 0 i5).len;have R:=T.box 1 i5;refine⟨b,i5,am,ab.cell i5,c,i5,most,R.cell i5,ae (λS=>?_) λS=>?_⟩
 .rw[u]at S;rw[g0 S]at g;rw[g];exact⟨i5,T⟩
 rw[u]at S;rw[g9 S]at g;have H5:=(N.bS R2).aI 4 [1,2,3,0];have ay:i4 q.1<=2^20:=by have:=aai m.p j.seed j.W t;rw[hq];omega
 have ar:St B h0 (EA (cG 1 az) r q.1::As) λh=>cN h y m/\Rd h J 1 az live/\Rd h r 1 az q.1/\Aq h Y m.p j.seed j.M:=λBs h' H'=>by
  obtain⟨z1,z2,z3⟩:=hS.cons Bs h' H';rw[es,eM];exact⟨z1,z2,(St.cR (A:=EA (cG 1 az) r q.1) (Q:=λh=>Rd h r 1 az q.1) 0 i5 λh' hq=>hq) Bs h' H',z3⟩
 refine(aag y J r live q.1 t most (k+i4 j.got) j hm hp hl i (by have:=O.gl;omega) O ay ar H5).x8 λh6 o=>?_;obtain⟨g1,g2,g3⟩:=IB (set:=q.1) (w:=w1) (ds:=K) O i6;have Z:∀k∈live,∃d,aT (fV m live q.1 w1 K j).2.2.1 k=dB d:=λk hk=>IA (P:=λk=>k∈live) (lY N).1 i k hk;obtain⟨Q,hQ⟩:=z6 (fV m live q.1 w1 K j)
 rw[<-hQ]at o g1 g2 g3 Z g⊢;have o:=o.aI 4 [0,1,2];refine⟨_,i5,bH (λI=>?_) λI=>?_⟩
 .rw[g0 I]at g;rw[g];refine⟨i5,?_⟩;rw[g9 I]at o;rw[g3 I]at o⊢;exact o
 .rw[g9 λh=>h I]at g;rw[g0 I]at o;obtain⟨s,hs,eg⟩:=g2 I;have X:i4 Q.2.2.2.got=i4 j.got+1:=by rw[eg];simp[jR.BP]
  refine⟨(f',Q.2.1,Q.2.2.1,Q.2.2.2),i5,⟨?_,?_,g,g1,?_,?_,Z,?_⟩,i9⟩
  ·(try dsimp only);omega
  ·(try dsimp only);omega
  ·(try dsimp only);rw[eg];exact es
  ·(try dsimp only);rw[eg];exact eM
  .try dsimp only
   rw[X,Int.natCast_add,<-Int.add_assoc];exact o
end
theorem QI{m:au}{offs:Int}{w:Pow}{ds:aD}{n:au}(l:w.calm)(j:i4 ds=64)(F:cF w offs=eX)(s:bh n=eS)(H:n.seq=m.seq+1):
  let live:=aK ds n.drives;let N:Int->Int:=λ_=>(i4 (ba n):Int)
  (live=[]∨dL m ds live N=eX->cQ m offs w ds n=(7,m,w,ds))/\(live≠[]->dL m ds live N=eS->∃ds',cQ m offs w ds n=(0,n,w,ds')/\ds'.length=64/\
   ∀k,aT ds' k=(aT ds k).map λd=>if k∈live then fJ (ba n) (cY m d (ba n).length)else d):=by
 intro live N;have a:live.Nodup:=nG (mu s);have e:cQ m offs w ds n=(if live=[]∨dL m ds live N=eX then(7,m,w,ds)else
   if(makes m N live w ds).1≠0 then((makes m N live w ds).1,m,(makes m N live w ds).2)else
   ((layAll (bA n live) (makes m N live w ds).2.1 (makes m N live w ds).2.2).1,if(layAll (bA n live) (makes m N live w ds).2.1 (makes m N live w ds).2.2).1=0 then n else m,(layAll (bA n live) (makes m N live w ds).2.1 (makes m N live w ds).2.2).2)):=by
  unfold cQ
  grind
 refine⟨λh=>by rw[e,g0 h],λq p=>?_⟩;rw[e,g9 j1];obtain⟨v,t,y,o⟩:=uJ l (N:=N) a j p;rw[t];obtain⟨r,u,D,E⟩:=Cq l (ds:=v) (P:=bA n live) y λx z=>by
  obtain⟨c,f⟩:=jg z;obtain⟨B,g,i⟩:=sS (qS.1 p x.1 c);obtain⟨A,G,I⟩:=uK i;refine⟨f,cY m B (N x.1),?_,A,?_⟩
  .rw[o,g,qW,g0 c]
  .rw[nF a,]
   grind
 rw[u];refine⟨r,i5,D,λk=>?_⟩;rw[E,o,Option.map_map];congr 1;funext d;show fJ (gV (bA n live) k) (if k∈live then cY m d (N k)else d)=_;rw[nF a];by_cases b:k∈live
 .rw[g0 b,g0 b,g0 b]
 .rw[g9 b,g9 b,g9 b];rfl
theorem Tc{m:au}{l:av}(e:bh m=eS)(o:m.seq<=2147483646)(h:l.Pairwise (·<·))(a:∀k∈l,0<=k/\k<64):bh {m with seq:=m.seq+1,drives:=l}=eS:=by
 obtain⟨g,j,h3,c,b,d,i⟩:=(bG m).1 e;obtain⟨n,a2,a3,a4⟩:=(dl m).1 g;refine(bG _).2 ⟨(dl _).2 ⟨⟨?_,?_⟩,a2,a3,a4⟩,h,λk f=>?_,c,b,d,i⟩
 .show 1<=m.seq+1;omega
 .show m.seq+1<=_;omega
 .have:=a k f;exact⟨this.1,i6⟩
structure Pg where
 seq:Int
 num:Int
 many:Int
 bears:aL
 cell:aL
def aii(x c:aL):Pg:=⟨dI (x.take 4),((x.getD 4 0).toNat:Int),((x.getD 5 0).toNat:Int),(x.drop 7).take (x.getD 6 0).toNat,c⟩
def mL(c:aL):Option Pg:=
 match gg c with
 |some (k,x)=>if k=2/\(x.getD 6 0).toNat<=48/\(x.drop (7+(x.getD 6 0).toNat)).all (λb=>decide (b=0))=eS then dB (aii x c)else eH
 |none=>eH
def afW(f:Pg)(i:Int)(x:Pg):Bool:=decide (x.seq=f.seq/\x.many=f.many/\x.num=i)
def Up(l:List Pg)(f:Pg):Nat->Option (List Pg)
 |0=>dB [f]
 |n+1=>match Up l f n with
  |none=>eH
  |some out=>match l.find? (afW f ((n+1:Nat):Int))with
   |none=>eH
   |some x=>dB (out++[x])
def afX(l:List Pg)(f:Pg):Option (List Pg):=if f.many<=0 then eH else Up l f (f.many.toNat-1)
def aij(s:List Pg):Option au:=
 match ahp (s.flatMap Pg.bears)with
 |none=>eH
 |some m=>if ba m=s.map Pg.cell then dB m else eH
def ade(pages:List Pg)(out:List au)(x:Pg):List au:=
 if x.num≠0 then out else match afX pages x with
 |none=>out
 |some s=>match aij s with
  |none=>out
  |some m=>if out.any (λy=>decide (gE y=gE m))then out else out++[m]
def aik(pages:List Pg)(xs:List Pg):List au:=xs.foldl (ade pages) []
def aja(a b:au):Bool:=decide (b.seq<=a.seq)
def ajb(l:ct):List au:=(aik (l.filterMap mL) (l.filterMap mL)).mergeSort aja
theorem WQ{seq c a:Int}{b:aL}(e:0<=seq/\seq<4294967296)(o:0<=c/\c<256)(h3:0<=a/\a<256)(n:i4 b<=48):mL (kQ seq c a b)=dB ⟨seq,c,a,b,kQ seq c a b⟩:=by
 have j:i4 (cb seq 4++([b8 c,b8 a,b8 b.length]++b))=7+i4 b:=m9
 obtain⟨x,d⟩:=z6 (cb seq 4++([b8 c,b8 a,b8 b.length]++b)++qf (55-i4 (cb seq 4++([b8 c,b8 a,b8 b.length]++b))) 0)
 have g:gg (kQ seq c a b)=dB (2,x):=by unfold kQ;rw[AU,d]
 have l:x.getD 6 0=b8 b.length:=by rw[d,];rfl
 have i:x.getD 5 0=b8 a:=by rw[d,];rfl
 have m:x.getD 4 0=b8 c:=by rw[d,];rfl
 have f:x.take 4=cb seq 4:=by rw[d,];rfl
 have h:x.drop 7=b++qf (55-(7+i4 b)) 0:=by rw[d,j,];rfl
 have k:((b8 (i4 b)).toNat)=i4 b:=by have:=pR (i4 b);omega
 unfold mL;rw[g]
 try dsimp only
 rw[g0 ⟨i5,j1,j1⟩];unfold aii;rw[f,m,i,l,h,LZ e.1 e.2,k,vY];have:=pR c;have:=pR a;congr 2<;>omega
def pgN(m:au)(i:Nat):Pg:=⟨m.seq,i,iT (gE m),((gE m).drop (48*i)).take 48,kQ m.seq i (iT (gE m)) (((gE m).drop (48*i)).take 48)⟩
theorem Na(m:au):ba m=(qn (iT (gE m))).map λi=>(pgN m i).cell:=rfl
theorem afY{m:au}(a:bh m=eS):iT (gE m)<=9:=by
 have:=Qw.ZA a;unfold ba at this
 rwa [qp,zq]at this
theorem WR{m:au}(a:bh m=eS){i:Nat}(c:i<iT (gE m)):mL (pgN m i).cell=dB (pgN m i):=by have d:=afY a;have b:=((dl m).1 ((bG m).1 a).1).1;exact WQ ⟨i6,i6⟩ ⟨i6,i6⟩ ⟨i6,i6⟩ jj
theorem Td{n:Nat}{A:aO}(l:aU n A)(e:bP A=n){y:Nat->UInt8}(p:∀r∈A,bT (λj=>aM r j) y n=0):∀i,i<n->y i=0:=by
 intro i v;have o:aU 1 (qf A.length (aN 1)):=λr e=>by rw[(w5.1 e).2];rfl
 have a:i4 A=i4 (qf A.length (aN 1)):=js
 have d:∀j,j<i4 A->aC (qf A.length (aN 1)) j=aN 1:=λj g=>by rw[bv j1];simp
 have f:∀z:Nat->UInt8,(∀r∈A,bT (λj=>aM r j) z n=0)->gM n 1 A (qf A.length (aN 1)) ((qn n).map λc=>[z c]):=λz q=>by
  have b:aU 1 ((qn n).map λc=>[z c]):=λr e=>j1
  refine⟨js,b,λj g=>?_⟩;rw[d j g];refine fc (n:=1) (iY b js _ n (qi _)) i5 λk u=>?_;obtain rfl:k=0:=i6
  rw[iw b js _ 0 n (qi _),cu,<-q _ (mem_row g)];refine gF n (λ_ _=>rfl) λc t=>?_;rw[bv j1];simp[aM]
 have u0:=(ms a l o e (f (λ_=>0) λr _=>dot_zero' r n)).1;have s:=(ms a l o e (f y p)).1;have h:aM (aC ((qn n).map λc=>[y c]) i) 0=aM (aC ((qn n).map λ_=>[(0)]) i) 0:=congrArg (λm=>aM (aC m i) 0) (s.trans u0.symm);rw[bv j1]at h
 grind
where
 dot_zero' (r:Row):∀n,bT (λj=>aM r j) (λ_=>(0)) n=0
  |0=>rfl
  |n+1=>by rw[bT,dot_zero' r n,Gf.mul_zero];rfl
theorem afZ{ids c:av}(h:∀i∈ids,i∈c):∀r∈db p seed ids,r∈db p seed c:=λr a=>by
 unfold db at*;cases hm:bB p
 .rw[hm]at a;simp at a
 .rw[hm,g0 rfl,qt]at a;rw[g0 i5,qt];rcases a with a|a
  .exact .inl a
  .obtain⟨i,b,rfl⟩:=qo.1 a;rw[qB]at b;exact .inr (qo.2 ⟨i,qB.2 ⟨h i b.1,b.2⟩,i5⟩)
theorem Nb(d:bB p=eS){ids a:av}(h:∀i∈ids,i∈a)(j:eK p seed ids=eS):eK p seed a=eS:=by
 have c:=(FO d).1 j;refine(FO d).2 ?_;have g:=lP (jr p seed a);by_cases b:bP (db p seed a)<(bp p).toNat
 .exfalso;obtain⟨y,⟨i,k,e⟩,f⟩:=kernel (jr p seed a) b;exact e (Td (jr p seed ids) c (λr c=>f r (afZ h r c)) i k)
 .omega
theorem mg(a b:cH):nU a b=eS↔a.object=b.object/\a.block=b.block/\a.id=b.id:=by unfold nU;simp
theorem Uq{l:List cH}{i:Nat}(a:i<i4 l)(b:ux l i=eS):l[i]∈tU l:=by exact qo.2 ⟨i,qB.2 ⟨qK.2 a,b⟩,gh _ a⟩
theorem adf{l:List cH}{r:cH}(h:r∈l):∃a∈tU l,nU a r=eS:=by
 have c:∀i (b:i<i4 l),∃a∈tU l,nU a l[i]=eS:=by
  intro i
  induction i with
  |zero=>intro b;exact⟨l[0],Uq b (i5),(mg _ _).2 ⟨i5,i5,i5⟩⟩
  |succ i ih=>
   intro b;cases hk:ux l (i+1)with
   |true=>exact⟨_,Uq b hk,(mg _ _).2 ⟨i5,i5,i5⟩⟩
   |false=>
    obtain⟨a,d,e⟩:=ih i6;unfold ux at hk;rw[Bool.or_eq_false_iff,Bool.not_eq_false']at hk;have f:=hk.2;rw[mg]at e f;exact⟨a,d,(mg _ _).2 ⟨j1,j1,j1⟩⟩
 obtain⟨i,b,rfl⟩:=qA h
 grind
theorem gY{m:au}{r:cH}:eu m r=eS↔iQ r=eS/\r.p=m.p/\∃x∈m.aA,x.object=r.object/\r.block<(x.tries.length:Int)/\r.seed=cg r.object r.block (x.tries.getD r.block.toNat 0):=by unfold eu;simp
theorem QJ{m:au}(c:bh m=eS){x y:Qw.bU}(b:x∈m.aA)(a:y∈m.aA)(h:x.object=y.object:=by omega):x=y:=by
 have e:=q7.1 ((bG m).1 c).2.2.2.2.2.2;obtain⟨i,f,rfl⟩:=qA b;obtain⟨j,d,rfl⟩:=qA a
 grind
theorem FP{m:au}(f:bh m=eS){x y:Qw.bU}(e:x∈m.aA)(d:y∈m.aA)(h:x.name=y.name):x=y:=by
 have b:=q7.1 ((bG m).1 f).2.2.2.2.2.1;obtain⟨i,c,rfl⟩:=qA e;obtain⟨j,a,rfl⟩:=qA d;rcases Nat.lt_trichotomy i j with hl|rfl|hl
 .exact absurd h (nE (b i j c a hl))
 .rfl
 .exact absurd h.symm (nE (b j i a c hl))
def gq(m:au)(C:Int->aL)(o b:Int):aL:=(splitB m.p (C o)).getD b.toNat []
def FQ(m:au)(C:Int->aL)(r:cH):Prop:=r.data=ue m.p r.seed (gq m C r.object r.block) r.id
theorem adg{m:au}{C:Int->aL}{r a:cH}(f:bh m=eS)(h:eu m r=eS)(e:eu m a=eS)(j:FQ m C r)(d:FQ m C a)(i:nU a r=eS):a=r:=by
 obtain⟨_,o,g,b,l,_,n⟩:=gY.1 h;obtain⟨_,s,x2,c,k,_,p⟩:=gY.1 e;rw[mg]at i;have q:g=x2:=QJ f b c;unfold FQ at j d;cases r;cases a
 grind
structure dR (m:au) (C:Int->aL) (c:aL):Prop where
 old:∀r,dS c=dB r->r.object<m.next
 tru:∀r,dS c=dB r->eu m r=eS->FQ m C r
 page:∀g,mL c=dB g->g.seq<=m.seq/\(g.seq=m.seq->c∈ba m)
theorem sA{m:au}{C:Int->aL}{l:ct}(o:bh m=eS)(j:∀c∈l,dR m C c){c:aL}(i:c∈l){r:cH}(k:dS c=dB r)(h:eu m r=eS):r∈dJ m l:=by have b:r∈(l.filterMap (kJ m)).mergeSort rK:=List.mem_mergeSort.2 (List.mem_filterMap.2 ⟨c,i,by unfold kJ;grind⟩);obtain⟨f,g,n⟩:=adf b;obtain⟨c',e,d,a⟩:=rC (m:=m) (l:=l) (r:=f) g;have:=adg o h a ((j c i).tru r k h) ((j c' e).tru f d a) n;rw[<-this];exact g
theorem kp{m:au}{l:ct}{r:cH}(h:r∈dJ m l):cD r∈l/\dS (cD r)=dB r/\eu m r=eS:=by
 obtain⟨c,d,a,b⟩:=rC h;rw[(Vq a).1]
 grind
theorem vm{n:au}(C:Int->aL){c:aL}(e:bh n=eS)(h:c∈ba n):dR n C c:=by
 have h0:=oC h;refine⟨λr b=>j1,λr b _=>j1,λg a=>?_⟩;rw[Na]at h;obtain⟨i,d,rfl⟩:=qo.1 h;rw[WR e (qK.1 d)]at a;injection a with a
 subst a;exact⟨vq _,λ_=>by rw[Na];omega⟩
theorem Lw{m:au}{C:Int->aL}{l:ct}(b:bh m=eS)(e:∀c∈l,dR m C c):∀c∈cz m l,dR m C c:=λc d=>by
 rcases qt.1 d with h|h
 .exact vm C b h
 .obtain⟨r,a,rfl⟩:=qo.1 h;exact e _ (kp a).1
theorem Lx{m:au}{C:Int->aL}{d:be}{N:Int}(b:bh m=eS)(e:∀c∈d.l,dR m C c):∀c∈(cY m d N).l,dR m C c:=λc a=>by
 unfold cY at a;split at a
 .grind
 .exact Lw b e c a
theorem adh{m:au}{C:Int->aL}{d:be}{N:Int}(f:bh m=eS)(g:∀c∈d.l,dR m C c){r:cH}(a:cD r∈d.l)(b:dS (cD r)=dB r)(e:eu m r=eS):cD r∈(cY m d N).l:=by
 unfold cY;split
 .exact a
 .exact wC _ (qo.2 ⟨r,sA f g a b e,i5⟩)
theorem Ke{r:cH}(h:iQ r=eS):mL (cD r)=eH:=by have a:=pm h;unfold mL cD;rw[g0 h,AU];rfl
theorem Kf{m n:au}{C D:Int->aL}{o b:Int}(a:n.p=m.p)(h:D o=C o):gq n D o b=gq m C o b:=by unfold gq;grind
theorem FQ.congr{m n:au}{C D:Int->aL}{r:cH}(a:n.p=m.p)(b:D r.object=C r.object)(h:FQ m C r):FQ n D r:=by unfold FQ at h⊢;rw[Kf a b,a];exact h
theorem WS{m n:au}{r:cH}(e:n.p=m.p)(a:∀x∈n.aA,x∈m.aA)(h:eu n r=eS):eu m r=eS:=by obtain⟨b,d,x,c,h3⟩:=gY.1 h;exact gY.2 ⟨b,j1,x,a x c,h3⟩
theorem dR.next{m n:au}{C:Int->aL}{c:aL}(h:dR m C c)(d:n.p=m.p)(i:m.next<=n.next)(j:m.seq<n.seq)(a:∀x∈n.aA,x∈m.aA):dR n C c:=
 ⟨λr b=>by have:=h.old r b;omega,λr b e=>(h.tru r b (WS d a e)).congr d i5,λg f=>by have:=(h.page g f).1;omega⟩
def jv(C:Int->aL)(o:Int)(b:aL):Int->aL:=λk=>if k=o then b else C k
theorem dR.with{m:au}{C:Int->aL}{e:Qw.bU}{b c:aL}(h:dR m C c)(o:e.object=m.next):dR (dK m e) (jv C m.next b) c:=by
 refine⟨λr a=>?_,λr a k=>?_,λg j=>?_⟩
 .have:=h.old r a;show r.object<m.next+1;omega
 .have n:=h.old r a;obtain⟨l,i,x,d,h3,f⟩:=gY.1 k;rcases kG.1 d with d|rfl
  .refine(h.tru r a (gY.2 ⟨l,i,x,d,h3,f⟩)).congr (m:=m) i5 ?_;unfold jv
   grind
  .omega
 .have:=(h.page g j).1;show g.seq<=m.seq+1/\(g.seq=m.seq+1->_)
  omega
theorem aim{m:au}{C:Int->aL}{e:Qw.bU}{b:aL}{seed:Int}{i id:Nat}(f:0<=seed/\seed<4294967296)(c:iQ (lW m m.next i seed ((splitB m.p b).getD i []) id)=eS):
  dR (dK m e) (jv C m.next b) (cD (lW m m.next i seed ((splitB m.p b).getD i []) id)):=by
 have a:=po c f;refine⟨λr h=>?_,λr h j=>?_,λg h=>?_⟩
 .rw[a]at h;injection h with h;subst h
  show m.next<m.next+1;omega
 .rw[a]at h;injection h with h;subst h
  have d:gq (dK m e) (jv C m.next b) m.next (i)=(splitB m.p b).getD i []:=by unfold gq jv;rw[g0 i5,];rfl
  show ue m.p seed ((splitB m.p b).getD i []) id=ue (dK m e).p seed (gq (dK m e) (jv C m.next b) m.next (i)) id;rw[d];rfl
 .rw[Ke c]at h;cases h
structure eU (m:au) (C:Int->aL) (ds:aD):Prop where
 may:bh m=eS
 len:ds.length=64
 cells:∀k d,aT ds k=dB d->∀c∈d.l,dR m C c
 ents:∀e∈m.aA,((C e.object).length:Int)=e.length/\cW m.p e.object (splitB m.p (C e.object)).length=dB e.tries
theorem eU.old{m:au}{C:Int->aL}{ds:aD}(S:eU m C ds){e:Qw.bU}(a:e∈m.aA):e.object<m.next:=((gb m e).1 (((bG m).1 S.may).2.2.2.2.1 e a)).2.1.2
theorem mE{ds ds':aD}{f:Int->be->be}(h:∀k,aT ds' k=(aT ds k).map (f k)){k:Int}{d:be}(b:aT ds' k=dB d):∃a,aT ds k=dB a/\d=f k a:=by
 cases h0:aT ds k with
 |none=>grind
 |some a=>grind
theorem GJ{n:au}{C:Int->aL}{a:ct}{d:be}(e:∀c∈d.l,dR n C c)(f:∀c∈a,dR n C c):∀c∈(fJ a d).l,dR n C c:=λc b=>by
 rw[Qm]at b
 grind
def rG(m:au)(ds:aD)(t:av)(b:aL)(n:au)(k:Int)(d:be):be:=
 if k∈aK ds m.drives then fJ ((ku m m.next t (splitB m.p b) (aK ds m.drives) k (splitB m.p b).length).map cD++ba n) (cY m d (kh (ba n).length (eW m m.next t (splitB m.p b) (aK ds m.drives) (splitB m.p b).length) k))else d
theorem Ly{m:au}{offs:Int}{w:Pow}{ds:aD}{C:Int->aL}{name:ByteArray}{b:aL}(z:w.calm)(S:eU m C ds):
  ((∃e,e≠0/\dv m offs w ds name b=(e,m,w,ds))/\((dv m offs w ds name b).1=cT m (cF w offs) ds name b.length∨(cT m (cF w offs) ds name b.length=0/\((dv m offs w ds name b).1=8/\cW m.p m.next (splitB m.p b).length=eH∨(dv m offs w ds name b).1=7/\∃t,cW m.p m.next (splitB m.p b).length=dB t/\dL m ds (aK ds m.drives) (kh (ba (dK m ⟨name,m.next,b.length,t⟩)).length (eW m m.next t (splitB m.p b) (aK ds m.drives) (splitB m.p b).length))=eX))))∨
  (cT m (cF w offs) ds name b.length=0/\∃t ds',cW m.p m.next (splitB m.p b).length=dB t/\dv m offs w ds name b=(0,dK m ⟨name,m.next,b.length,t⟩,w,ds')/\eU (dK m ⟨name,m.next,b.length,t⟩) (jv C m.next b) ds'/\
   ∀k,aT ds' k=(aT ds k).map (rG m ds t b (dK m ⟨name,m.next,b.length,t⟩) k)):=by
 obtain⟨u,A⟩:=MK (offs:=offs) (name:=name) (b:=b) z S.len S.may;by_cases a:cT m (cF w offs) ds name b.length=0
 .obtain⟨x,y⟩:=A a;cases ht:cW m.p m.next (splitB m.p b).length with
  |none=>rw[x ht];grind
  |some t=>
   obtain⟨j,s,H⟩:=y t ht;cases hf:dL m ds (aK ds m.drives) (kh (ba (dK m ⟨name,m.next,b.length,t⟩)).length (eW m m.next t (splitB m.p b) (aK ds m.drives) (splitB m.p b).length))with
   |false=>rw[s hf];exact .inl ⟨⟨7,i7,i5⟩,.inr ⟨a,.inr ⟨i5,t,i5,hf⟩⟩⟩
   |true=>
    obtain⟨ds',F,E,B⟩:=H hf;have f:∀k,aT ds' k=(aT ds k).map (rG m ds t b (dK m ⟨name,m.next,b.length,t⟩) k):=B;refine .inr ⟨a,t,ds',i5,F,⟨j,E,λk d v=>?_,λe l=>?_⟩,f⟩
    .obtain⟨q,h0,rfl⟩:=mE f v;unfold rG;split
     .refine GJ (λc g=>(Lx S.may (S.cells k q h0) c g).with i5) λc g=>?_;rcases qt.1 g with h|h
      .obtain⟨r,o,rfl⟩:=qo.1 h;obtain⟨i,id,rfl,G,hid⟩:=JP o;obtain⟨I,J,z3,z4,z5⟩:=lX a;have n:=((dl m).1 ((bG m).1 S.may).1)
       have h8:=Cp n.2.2.1 λh=>z4 (.inl h);exact aim (km _ _ _) (Ln S.may i6 h8 ht G hid)
      .exact vm _ j h
     .exactλc g=>(S.cells k q h0 c g).with i5
    .rcases kG.1 l with l|rfl
     .have D:=S.old l;have:jv C m.next b e.object=C e.object:=by unfold jv;rw[g9 i6]
      rw[this];exact S.ents e l
     .have:jv C m.next b m.next=b:=by unfold jv;simp
      rw[this];exact⟨i5,ht⟩
 .rw[u a];exact .inl ⟨⟨_,a,i5⟩,.inl i5⟩
theorem WT{m n:au}{offs:Int}{w:Pow}{ds:aD}{C:Int->aL}(y:w.calm)(S:eU m C ds)(v:cF w offs=eX)(i:bh n=eS)(B:n.seq=m.seq+1)(l:n.p=m.p)(s:m.next<=n.next)(a:∀x∈n.aA,x∈m.aA):
  ((aK ds n.drives=[]∨dL m ds (aK ds n.drives) (λ_=>(i4 (ba n):Int))=eX)/\cQ m offs w ds n=(7,m,w,ds))∨
  ((aK ds n.drives≠[]/\dL m ds (aK ds n.drives) (λ_=>(i4 (ba n):Int))=eS)/\∃ds',cQ m offs w ds n=(0,n,w,ds')/\eU n C ds'/\
   ∀k,aT ds' k=(aT ds k).map λd=>if k∈aK ds n.drives then fJ (ba n) (cY m d (ba n).length)else d):=by
 obtain⟨u,z⟩:=QI (m:=m) (n:=n) (offs:=offs) (w:=w) (ds:=ds) y S.len v i B;by_cases g:aK ds n.drives=[]∨dL m ds (aK ds n.drives) (λ_=>(i4 (ba n):Int))=eX
 .exact .inl ⟨g,u g⟩
 .have t:aK ds n.drives≠[]:=λh=>g (.inl h);have q:dL m ds (aK ds n.drives) (λ_=>(i4 (ba n):Int))=eS:=by
   cases h:dL m ds (aK ds n.drives) (λ_=>(i4 (ba n):Int))with
   |false=>exact absurd (.inr h) g
   |true=>rfl
  obtain⟨ds',E,D,r⟩:=z t q;refine .inr ⟨⟨t,q⟩,ds',E,⟨i,D,λk d j=>?_,λe A=>?_⟩,r⟩
  .obtain⟨o,h0,rfl⟩:=mE (f:=λk d=>if k∈aK ds n.drives then fJ (ba n) (cY m d (ba n).length)else d) r j;split
   .exact GJ (λc b=>(Lx S.may (S.cells k o h0) c b).next l s i6 a) λc b=>vm C i b
   .exactλc b=>(S.cells k o h0 c b).next l s i6 a
  .have:=S.ents e (a e A);rw[l];exact this
def om(p:Int×Int×Int)(a:ct)(n:Int):aL:=if bB p=eS/\0<=n/\(i4 a:Int)=countP p n/\(a.all λx=>decide (i4 x=fe p))=eS then a.flatten.take n.toNat else[]
noncomputable def jw(m:au)(ds:aD)(o:Int)(tries:av)(k:Nat):aL×Int:=ma m.p (cg o k (tries.getD k 0)) (ff m ds (aK ds m.drives) o k)
def mM(m:au)(ds:aD)(k:Int):Bool:=match aT ds k with|some d=>ju m d.l|none=>eX
def jc(m:au)(ds:aD):Bool:=(aK ds m.drives).any (mM m ds)
noncomputable def BQ(m:au)(ds:aD)(e:bU):aL×Int:=
 if jc m ds=eX then([],11)else if((qn e.tries.length).all λk=>decide ((jw m ds e.object e.tries k).2=0))=eS then(om m.p ((qn e.tries.length).map λk=>(jw m ds e.object e.tries k).1) e.length,0)else([],11)
noncomputable def iI(m:au)(offs:Int)(w:Pow)(ds:aD)(name:ByteArray):aL×Int:=
 if cF w offs then([],14)else match m.aA.find? (cJ name)with
 |none=>([],5)
 |some e=>BQ m ds e
def kw(m:au)(ds:aD)(o b:Int):av:=(ff m ds (aK ds m.drives) o b).map qD
def nK(m:au)(ds:aD)(e:bU):Bool:=jc m ds&&(qn e.tries.length).all λk=>eK m.p (cg e.object k (e.tries.getD k 0)) (kw m ds e.object k)
theorem Kg(a:Nat)(b:aL):∀n,((qn n).map (uH a b)).flatten=b.take (n*a)++qf (n*a-i4 b) 0
 |0=>js
 |n+1=>by
  rw[zt,qP,List.flatten_append,Kg a b n,zW];simp only[zS,vA,List.flatten_cons,List.flatten_nil,qI];unfold uH;by_cases h:n*a<=i4 b
  .have c:n*a-i4 b=0:=i6
   rw[c,List.replicate_zero,qI,<-qm,<-List.take_add,]
   grind
  .have d:b.drop (n*a)=[]:=qY i6;rw[d,List.take_nil,List.nil_append,yk,List.drop_zero,qh i6,qh i6,qm,List.replicate_append_replicate]
   grind
theorem Ho{p:Int×Int×Int}(a:bB p=eS)(n:Nat):n<=(countP p n).toNat*fe p:=by
 obtain⟨g,h,d⟩:=lU a;unfold countP;rw[a,wP];by_cases h0:0<(n:Int)
 .rw[hU h0,g0 i5,<-d];have f:=wL ((n)-1) (show(0:Int)<(fe p)by omega);have c:=Int.mul_ediv_add_emod ((n)-1) (fe p);have h3:0<=((n)-1)/(fe p:Int):=Int.ediv_nonneg i6 i6;obtain⟨q,b⟩:=Int.eq_ofNat_of_zero_le h3;rw[b]at c⊢;have e:((q:Int)+1).toNat=q+1:=rfl;rw[e,]
  grind
 .omega
theorem WU{p:Int×Int×Int}(a:bB p=eS)(b:aL):om p (splitB p b) b.length=b:=by
 unfold om;rw[g0 ⟨a,i6,FC a b,qS.2 λx c=>by
  obtain⟨i,_,rfl⟩:=qo.1 c;exact hU (Fg _ _ _)⟩]
 have:=Ho a b.length;unfold splitB;rw[Kg,qh this,qj,wm (qi _),qL]
section
variable {C:Int->aL} {w:Pow}
theorem Dx{o b k:Int}{x:Int×aL}(h:x∈ik m ds o b k):∃d r,aT ds k=dB d/\r∈dJ m d.l/\r.object=o/\r.block=b/\x=(r.id,r.data):=by
 unfold ik at h;cases hd:aT ds k with
 |none=>grind
 |some d=>
  unfold Ax at h
  grind
theorem eU.entry(S:eU m C ds){e:Qw.bU}(a:e∈m.aA):iv m e=eS:=((bG m).1 S.may).2.2.2.2.1 e a
theorem eU.Dy(S:eU m C ds):bB m.p=eS:=((dl m).1 ((bG m).1 S.may).1).2.2.1
theorem eU.blocks(S:eU m C ds){e:Qw.bU}(a:e∈m.aA):(splitB m.p (C e.object)).length=e.tries.length:=(jY (S.ents e a).2).symm
theorem eU.fy(S:eU m C ds){e:Qw.bU}(a:e∈m.aA){k:Nat}(b:k<e.tries.length):∃K H w n,co m.p (cg e.object k (e.tries.getD k 0)) (gq m C e.object k) K H w n:=by
 have h:=Ul S.Dy (S.ents e a).2 (i:=k) (by rw[S.blocks a];exact b);unfold gq
 grind
theorem eU.sym(S:eU m C ds){e:Qw.bU}(n:e∈m.aA){k:Nat}(z:k<e.tries.length){s:Int}{x:Int×aL}(h:x∈ik m ds e.object k s):
  bE x.1=eS/\x.2=gx m.p.2.2.toNat (dP m.p (cg e.object k (e.tries.getD k 0)) (gq m C e.object k)) (df (bp m.p).toNat (cg e.object k (e.tries.getD k 0)) x.1):=by
 obtain⟨d,r,f,i,A,t,rfl⟩:=Dx h;obtain⟨c,j,a⟩:=kp i;obtain⟨q,u,y,g,v,_,w⟩:=gY.1 a;have o:y=e:=QJ S.may g n;have hid:=((jI r).1 q).2.2.1;have b:bE r.id=eS:=by unfold bE;grind
 have l:=(S.cells s d f _ c).tru r j a;rw[l,];unfold ue
 grind
theorem Kh{α β:Type}{f:α->β}:∀{l:List (α×β)},(∀x∈l,x.2=f x.1)->l=(l.map qD).map λi=>(i,f i)
 |[],_=>rfl
 |x::l,h=>by
  have b:=Kh (l:=l) λy a=>h y (qC _ a)
  grind
theorem eU.syms(S:eU m C ds){e:Qw.bU}(f:e∈m.aA){k:Nat}(d:k<e.tries.length)(a:av):
  ff m ds a e.object k=mD m.p (cg e.object k (e.tries.getD k 0)) (dP m.p (cg e.object k (e.tries.getD k 0)) (gq m C e.object k)) ((ff m ds a e.object k).map qD)/\∀i∈(ff m ds a e.object k).map qD,bE i=eS:=by
 have c:∀x∈ff m ds a e.object k,bE x.1=eS/\x.2=gx m.p.2.2.toNat (dP m.p (cg e.object k (e.tries.getD k 0)) (gq m C e.object k)) (df (bp m.p).toNat (cg e.object k (e.tries.getD k 0)) x.1):=λx b=>by
  obtain⟨s,_,b⟩:=zM.1 b;exact S.sym f d b
 refine⟨Kh λx b=>(c x b).2,λi g=>?_⟩
 grind
theorem eU.jw(S:eU m C ds){e:Qw.bU}(d:e∈m.aA){k:Nat}(c:k<e.tries.length):
  Qw.jw m ds e.object e.tries k=if eK m.p (cg e.object k (e.tries.getD k 0)) (kw m ds e.object k)=eS then(gq m C e.object k,0)else([],9):=by
 obtain⟨K,H,w,n,B⟩:=S.fy d c;obtain⟨f,b⟩:=S.syms d c (aK ds m.drives);unfold Qw.jw;rw[f];by_cases a:eK m.p (cg e.object k (e.tries.getD k 0)) (kw m ds e.object k)=eS
 .rw[g0 a];exact B.dec b a
 .rw[g9 a];refine acX B.may (B.QF b) ?_;rw[Ix];exact eq_false_of_ne_true a
theorem eU.BQ(S:eU m C ds){e:Qw.bU}(b:e∈m.aA):Qw.BQ m ds e=if nK m ds e=eS then(C e.object,0)else([],11):=by
 have a:((qn e.tries.length).all λk=>decide ((Qw.jw m ds e.object e.tries k).2=0))=(qn e.tries.length).all λk=>eK m.p (cg e.object k (e.tries.getD k 0)) (kw m ds e.object k):=by
  rw[Bool.eq_iff_iff,qS,qS];refine forall_congr' λk=>forall_congr' λf=>?_;rw[S.jw b (qK.1 f)]
  grind
 unfold Qw.BQ nK;rw[a];cases hw:jc m ds with
 |false=>rfl
 |true=>
  rw[g9 i7,wP];cases hf:(qn e.tries.length).all λk=>eK m.p (cg e.object k (e.tries.getD k 0)) (kw m ds e.object k)with
  |false=>rfl
  |true=>
   have g:((qn e.tries.length).map λk=>(Qw.jw m ds e.object e.tries k).1)=splitB m.p (C e.object):=by
    apply List.ext_getElem
    .simp[S.blocks b]
    .intro k c d;rw[zU,yM];simp only[qp,zq]at c;rw[S.jw b c,g0 (qS.1 hf k (qK.2 c))];unfold gq;rw[qj,gh _ d]
   rw[g,<-(S.ents e b).1,WU S.Dy]
theorem eU.get(S:eU m C ds)(f:cF w offs=eX)(name:ByteArray):
  (∀e∈m.aA,e.name=name->iI m offs w ds name=if nK m ds e=eS then(C e.object,0)else([],11))/\((∀e∈m.aA,e.name≠name)->iI m offs w ds name=([],5)):=by
 refine⟨λe b g=>?_,λc=>?_⟩
 .have a:m.aA.find? (cJ name)=dB e:=by
   cases a:m.aA.find? (cJ name)with
   |none=>
    have:=w4.1 a e b;exact absurd (by unfold cJ;rw[g];simp) this
   |some y=>
    have d:=List.find?_some a;have i:=wU a;rw[FP S.may i b (by rw[g];exact nW (by unfold cJ at d;simpa using d))]
  unfold iI;rw[f,g9 i7,a];exact S.BQ b
 .have a:m.aA.find? (cJ name)=eH:=w4.2 λe b h=>c e b (nW (by unfold cJ at h;simpa using h));unfold iI;rw[f,g9 i7,a]
end
section
variable {pw:f7} {w:Pow}
end
noncomputable def fL(m:au)(live:av)(ds:aD)(o:Int)(tries:av)(i:Nat):Int×jR:=
 let seed:=cg o i (tries.getD i 0);let r:=ma m.p seed (ff m ds live o i)
 if r.2≠0 then(11,⟨o,i,seed,[],[],[]⟩)else if ja m.p seed r.1.length≠0 then(11,⟨o,i,seed,[],[],[]⟩)else(0,⟨o,i,seed,dP m.p seed r.1,dz m ds o i (aK ds m.drives),[]⟩)
theorem aaj{p:Pm}{seed:Int}{l:Nat}(h:ja p seed l=0):bB p=eS/\eK p seed (fj p)=eS/\(l:Int)=p.1*p.2.2:=by
 unfold ja at h;split at h
 .rename_i a;rw[qx,decide_eq_true_eq]at a;split at h
  .rename_i b;exact⟨a.1,b,a.2⟩
  .cases h
 .cases h
theorem Dz{m:au}{ds:aD}{o b k:Int}(a:∀k d,aT ds k=dB d->i4 d.l<=512):i4 (ik m ds o b k)<=512:=by
 unfold ik;cases hd:aT ds k with
 |none=>exact zj _
 |some d=>exact qM (Dp m o b d.l) (a k d hd)
theorem aak{m:au}{ds:aD}{o b:Int}{live:av}(e:i4 live<=64)(a:∀k d,aT ds k=dB d->i4 d.l<=512):i4 (ff m ds live o b)<=64*512:=by unfold ff;exact qM (Cr (c:=512) λj _=>Dz a) (zi _ e)
theorem aal{m:au}{ds:aD}{o b k:Int}{x:Int×aL}(h:x∈ik m ds o b k):0<=x.1/\x.1<=65535:=by obtain⟨d,r,_,c,_,_,rfl⟩:=Dx h;obtain⟨_,_,_,e⟩:=rC c;have a:=(gY.1 e).1;unfold iQ at a;rw[qx,qx,qx]at a;have:=a.1.2.2;unfold bE at this;rw[qx,decide_eq_true_eq,decide_eq_true_eq]at this;exact this
theorem FR{m:au}{ds:aD}{o b:Int}{live l:av}(h:l∈dz m ds o b live):∃k∈live,l=(ik m ds o b k).map qD:=by unfold dz at h;obtain⟨k,a,rfl⟩:=qo.1 h;refine⟨k,a,?_⟩;unfold ff;rw[zg,wg,qI]
theorem IC{m:au}{live:av}{ds:aD}{o:Int}{tries:av}{i:Nat}(e:∀k d,aT ds k=dB d->i4 d.l<=512)(D:i4 (aK ds m.drives)=i4 live)(h:(fL m live ds o tries i).1=0):nJ m live (fL m live ds o tries i).2/\(fL m live ds o tries i).2.got=[]:=by
 unfold fL at h⊢;dsimp only at h⊢;obtain⟨r,v⟩:=z6 (ma m.p (cg o i (tries.getD i 0)) (ff m ds live o i))
 rw[<-v]at h⊢;by_cases j:r.2≠0
 .rw[g0 j]at h;cases h
 rw[g9 j]at h⊢;by_cases g:ja m.p (cg o i (tries.getD i 0)) r.1.length≠0
 .rw[g0 g]at h;cases h
 rw[g9 g]at h⊢;obtain⟨a,b,c⟩:=aaj tg;obtain⟨K,H,w,n,B⟩:=Vw a b c;have u:m.p.2.2.toNat=w:=B.size;have q:(bp m.p).toNat=n:=by have:=B.k;have:=B.h;have:=B.n;rw[bp,g0 a];omega
 refine⟨⟨km _ _ _,by rw[u];exact B.oB.2,by rw[q];exact B.oB.1,by show(dz _ _ _ _ _).length=_;unfold dz;rw[qp];exact D,λl f=>?_,?_,zj _,λs y=>by cases y⟩,i5⟩
 .obtain⟨k,_,rfl⟩:=FR f;rw[qp];have:=Dz (m:=m) (ds:=ds) (o:=o) (b:=i) (k:=k) e;omega
 .refine qM (QH (n:=65535) λl f x A=>?_) (by show(65535:Nat)<=2^20+0;decide);obtain⟨k,_,rfl⟩:=FR f;obtain⟨z,t,rfl⟩:=qo.1 A;have:=aal t;omega
def BR(a:f7)(p:Pm)(seed:Int)(M:aO):HP:=HP.ex λm:Sl=>(ak a 262 (Fv p seed m)).sep (fB 34 m 1 aB M)
section
variable {pw:f7} {w:Pow}
theorem ajc{a:f7}{p:Pm}{seed:Int}{M:aO}:St B h0 (BR a p seed M::As) λh=>Aq h a p seed M:=λBs h' e=>by
 have c:=e.cons Bs.length (A:=BR a p seed M) (by rw[qk (qi _),Nat.sub_self];rfl);obtain⟨q,d⟩:=c.sI;have b:=d.sZ;exact⟨q,b.box 1 i5,b.DJ 0 i5⟩
theorem WV{c:f7}(y:bw)(f:Sl)(live:av)(t most k:Int)(x:eE)(e:Qw.bU)(i:Nat)(hm:bh m=eS)(hl:live.length<=64)(N:∀k∈live,∃d,aT ds k=dB d)(hi:i<e.tries.length)(bs:e.tries.length<=2^20)
  (hS:St B h0 As λh=>cN h y m/\Rd h f 1 az live/\eF kF h x e)
  (H:aa B h0 h (bo a pw da offs w ds m::ak c 118 (fK a y f t most k)::As)):
  ai kg 130 #[xW (dB c),xZ (bW x).toArray,xU ka i] h λv h'=>
   ((fL m live ds e.object e.tries i).1≠0->v=.tuple #[xW eH,xU ka (fL m live ds e.object e.tries i).1]/\aa B h0 h' (bo a pw da offs w ds m::ak c 118 (fK a y f t most k)::As))/\
   ((fL m live ds e.object e.tries i).1=0->∃b cd:f7,v=.tuple #[xW (dB b),xU ka 0]/\aa B h0 h' (bo a pw da offs w ds m::ak c 118 (fK a y f t most k)::sw b cd (fL m live ds e.object e.tries i).2::BR cd m.p (fL m live ds e.object e.tries i).2.seed (fL m live ds e.object e.tries i).2.M::As)):=by
 have hz:=gI hm;have ar:=(lY H).2;have L:∀k d,aT ds k=dB d->d.l.length<=512:=λk d hd=>by have:=ar k d hd;omega
 obtain⟨seed,V⟩:=z6 (cg e.object i (e.tries.getD i 0))
 obtain⟨r,hr⟩:=z6 (ma m.p seed (ff m ds live e.object i))
 have eP:fL m live ds e.object e.tries i=(if r.2≠0 then(11,⟨e.object,i,seed,[],[],[]⟩)else if ja m.p seed r.1.length≠0 then(11,⟨e.object,i,seed,[],[],[]⟩)else(0,⟨e.object,i,seed,dP m.p seed r.1,dz m ds e.object i (aK ds m.drives),[]⟩)):=by rw[hr,V];rfl
 refine ts Tryz.func130 ?_ (xc (x6 [(8,Mw)] [(8,9),(11,25)] (x6 [(9,cE),(10,aR)] [(9,11),(25,55)] (xc (u9 (xa [] [(6,8),(10,11),(57,76)] (x6 [(10,aR)] [(10,11),(57,74)] v6)) (x6 [] [(76,87)] v6)))))) (args:=[(dB c),x,(i:Int)]);refine H.boxed λj h1 X=>?_;have X:aa B h0 h1 (ak j 51 (bW x)::bo a pw da offs w ds m::ak c 118 (fK a y f t most k)::As):=X.aZ;obtain⟨hy,bd,hx⟩:=(hS.cons.cons.cons).here X;have g:=X.box 0 i5;obtain⟨⟨x1,x2,x3⟩,x4⟩:=id hx;have bq:=x4.len;have no:∀{h':f9} {Cs:List HP},aa B h0 h' (ak j 51 (bW x)::bo a pw da offs w ds m::ak c 118 (fK a y f t most k)::As)->(fL m live ds e.object e.tries i).1=11->
   ((fL m live ds e.object e.tries i).1≠0->Value.tuple #[xW eH,xU ka 11]=.tuple #[xW eH,xU ka (fL m live ds e.object e.tries i).1]/\aa B h0 h' (bo a pw da offs w ds m::ak c 118 (fK a y f t most k)::As))/\
   ((fL m live ds e.object e.tries i).1=0->∃b cd:f7,Value.tuple #[xW eH,xU ka 11]=.tuple #[xW (dB b),xU ka 0]/\aa B h0 h' (bo a pw da offs w ds m::ak c 118 (fK a y f t most k)::sw b cd (fL m live ds e.object e.tries i).2::BR cd m.p (fL m live ds e.object e.tries i).2.seed (fL m live ds e.object e.tries i).2.M::As)):=λ{h' Cs} H' he=>by
  rw[he];exact⟨λ_=>⟨i5,H'.rest⟩,λh=>absurd h i7⟩
 have R:∀{h':f9},cN h' y m->bN h' c 118 (fK a y f t most k)->bt h' ((c.add 1).add 2) 0 [xU ka m.p.1,xU ka m.p.2.1,xU ka m.p.2.2]:=λ{h'} hy hc=>by
  have a3:y.2.2.1=m.p.1:=congrArg (·.1) hy.p;have ao:y.2.2.2.1=m.p.2.1:=congrArg (·.2.1) hy.p;have ad:y.2.2.2.2.1=m.p.2.2:=congrArg (·.2.2) hy.p;rw[addr_add,<-a3,<-ao,<-ad];exact hc.cells 3 _ i5
 obtain⟨A,u⟩:∃A:jR,A=⟨e.object,i,seed,[],[],[]⟩:=⟨_,rfl⟩
 refine bF (λ(z:bL) h'=>∃b:f7,z=dB b/\aa B h0 h' (ak b 192 (mb A eH ⟨eH,0,0⟩ ⟨eH,0,0⟩)::ak j 51 (bW x)::bo a pw da offs w ds m::ak c 118 (fK a y f t most k)::As)) ?_ ?_
 .refine⟨x.2.1,g.cell i5,x.2.1,g.cell i5,x.2.2.2,g.cell i5,?_⟩;refine x4.bm i i5 hi e.tries[i] i5 ?_;refine(rp x.2.1 i e.tries[i] h1).x7 ⟨_,i5,⟨g.cell i5,g.cell i5,A0⟩,?_⟩;refine X.boxed λa8 h3 S=>?_;have S:=S.aZ;refine⟨⟨(S.box 1 i5).cell i5,(S.box 1 i5).cell i5,A0⟩,a8,i5,?_⟩;have es:cg x.2.1 i e.tries[i]=seed:=by rw[V,x2,gh 0 hi]
  rw[es,x2]at S;rw[u];exact S
 rintro _ h4 ⟨b,rfl,T⟩;have ay:=T.box 0 i5;have E:=T.box 3 i5;have ah:=T.box 1 i5;obtain⟨Z,U,br⟩:=(hS.cons.cons.cons.cons).here T;have K:A.seed=seed:=by rw[u]
 have a9:A.o=e.object:=by rw[u]
 refine bF (λ(z:Sl×Int) h'=>z.2=r.2/\aa B h0 h' (aq 5 z.1 1 aB r.1::ak b 192 (mb A eH ⟨eH,0,0⟩ ⟨eH,0,0⟩)::ak j 51 (bW x)::bo a pw da offs w ds m::ak c 118 (fK a y f t most k)::As)) ?_ ?_
 .refine⟨c,i5,m.p,R Z E,b,i5,seed,by rw[<-K];exact ay.cell i5,c,i5,dB a,E.cell0 i5,c,i5,f,E.cell i5,c,i5,y,E.cells 1 _ i5,x.2.1,ah.cell i5,?_⟩;rw[x2];refine(Ta y f live e.object i Z hz U i6 N (T.aI 3 [2])).mono ?_;rintro _ h5 ⟨D,ss,rfl,R5⟩;have Y:=T.up R5.ac;have O:Fix iC 2 piv h5 (λb=>b<h5.size) D ss (ff m ds live e.object i):=R5.at 0 i5;have a5:eF GH h5 D (ff m ds live e.object i):=⟨ss,O.1,O.2.1,O.2.2⟩
  have bl:=aak (m:=m) (o:=e.object) (b:=i) hl L;obtain⟨a2,_,_⟩:=(hS.cons.cons.cons.cons).here Y;have q5:=R a2 (Y.box 3 i5);refine⟨D,i5,⟨(Y.box 3 i5).cell0 i5,by rw[<-K];exact(Y.box 0 i5).cell i5,q5.1,q5.2.1,q5.2.2.1,A0⟩,?_⟩;refine(Kc m.p seed D _ h5 a5).y0 λa7 h6 R6=>?_;rw[<-hr]at R6⊢;have H6:=Y.bS R6;refine⟨(a7,r.2),i5,⟨(H6.box 4 i5).cell0 i5,A0⟩,i5,?_⟩;exact H6
 rintro⟨z,_⟩ h7 ⟨rfl,I⟩;dsimp only at I⊢;refine bH (λe1=>?_) λe1=>?_
 .exact no (Cs:=[]) I.rest.rest (by rw[eP,g0 e1])
 have a4:=I.own 0 i5;refine bF (λ(_:Unit) h'=>ja m.p seed r.1.length=0/\∃cd:f7,aa B h0 h' (ak b 192 (mb A (dB cd) ⟨eH,0,0⟩ ⟨eH,0,0⟩)::BR cd m.p seed (dP m.p seed r.1)::ak j 51 (bW x)::bo a pw da offs w ds m::ak c 118 (fK a y f t most k)::As)) ?_ ?_
 .refine bF (λ(z:Int) h'=>(z≠0->ja m.p seed r.1.length≠0/\aa B h0 h' (ak j 51 (bW x)::bo a pw da offs w ds m::ak c 118 (fK a y f t most k)::As))/\(z=0->ja m.p seed r.1.length=0/\∃cd:f7,aa B h0 h' (ak b 192 (mb A (dB cd) ⟨eH,0,0⟩ ⟨eH,0,0⟩)::BR cd m.p seed (dP m.p seed r.1)::ak j 51 (bW x)::bo a pw da offs w ds m::ak c 118 (fK a y f t most k)::As))) ?_ ?_
  .obtain⟨ap,_,_⟩:=(hS.cons.cons.cons.cons.cons).here I;refine⟨c,i5,m.p,R ap (I.box 4 i5),b,i5,seed,by rw[<-K];exact(I.box 1 i5).cell i5,?_⟩;refine(PU m.p seed z r.1 h7 (I.seq 0 i5 λ_=>rfl) a4.cap).mono ?_;rintro _ h8 ⟨n1,n2⟩;by_cases s:ja m.p seed r.1.length=0
   .obtain⟨cd,mm,rfl,R8⟩:=n1 s;have H8:=(I.comp R8).front;refine⟨(dB cd,0),i5,A0,b,i5,?_⟩;refine H8.storeAt ag 3 i5 i5 i5 i5 i5 (show 3<6 by decide) λh9 W=>⟨A0,?_⟩
    have ax:aa B h0 h9 (BR cd m.p seed (dP m.p seed r.1)::aq 5 z 1 aB r.1::ak b 192 (mb A (dB cd) ⟨eH,0,0⟩ ⟨eH,0,0⟩)::ak j 51 (bW x)::bo a pw da offs w ds m::ak c 118 (fK a y f t most k)::As):=
     aa.wn (F:=λq:Sl=>(ak cd 262 (Fv m.p seed q)).sep (fB 34 q 1 aB (dP m.p seed r.1))) mm W.mh
    exact⟨λh=>absurd i5 h,λ_=>⟨s,cd,ax.aI 3 [2,0]⟩⟩
   .obtain⟨rfl,R8⟩:=n2 s;have H8:=I.up R8.ac;refine⟨(eH,ja m.p seed r.1.length),i5,A0,b,i5,?_⟩;refine H8.storeAt ag 1 i5 i5 i5 i5 i5 (show 3<6 by decide) λh9 W=>⟨A0,?_⟩
    exact⟨λ_=>⟨s,W.rest.rest⟩,λh=>absurd h s⟩
  .rintro z h9 ⟨n1,n2⟩;refine bH (λe2=>?_) λe2=>n2 e2;obtain⟨s,W⟩:=n1 e2;exact no (Cs:=[]) W (by rw[eP,g9 λh=>h e1,g0 s])
 rintro _ b0 ⟨s,cd,J⟩;have a6:fL m live ds e.object e.tries i=(0,⟨e.object,i,seed,dP m.p seed r.1,dz m ds e.object i (aK ds m.drives),[]⟩):=by rw[eP,g9 λh=>h e1,g9 λh=>h s]
 rw[a6]
 try dsimp only
 refine bF (λ(_:Unit) h'=>aa B h0 h' (bo a pw da offs w ds m::ak c 118 (fK a y f t most k)::sw b cd ⟨e.object,i,seed,dP m.p seed r.1,dz m ds e.object i (aK ds m.drives),[]⟩::BR cd m.p seed (dP m.p seed r.1)::As)) ?_ ?_
 .refine⟨c,i5,dB a,(J.box 4 i5).cell0 i5,x.2.1,(J.box 2 i5).cell i5,?_⟩;rw[x2];refine(MO e.object i hm (J.aI 4 [3])).y0 λQ bk a0=>?_;have ab:=J.bS a0;refine⟨Q,i5,A0,b,i5,?_⟩;refine ab.storeAt ag 1 i5 i5 i5 i5 i5 (show 4<6 by decide) λam G=>⟨A0,?_⟩
  have G:aa B h0 am (fC 22 Q 3 1 az (dz m ds e.object i (aK ds m.drives))::ak b 192 (mb ⟨e.object,i,seed,dP m.p seed r.1,dz m ds e.object i (aK ds m.drives),[]⟩ (dB cd) Q ⟨eH,0,0⟩)::BR cd m.p seed (dP m.p seed r.1)::ak j 51 (bW x)::bo a pw da offs w ds m::ak c 118 (fK a y f t most k)::As):=by rw[u]at G;exact G
  have P:=(G.nil 3 1 az).aZ;have al:=AE (x:=⟨e.object,i,seed,dP m.p seed r.1,dz m ds e.object i (aK ds m.drives),[]⟩) P;exact al.aI 5 [3,4,0,1]
 .rintro _ bb P;exact⟨λh=>absurd i5 h,λ_=>⟨b,cd,i5,P⟩⟩
end
theorem Te(w:Pow)(d:be)(b:aL):(d.append w b).2.2.lost=d.lost:=by unfold be.append;(repeat' split)<;>rfl
theorem FS(w:Pow)(d:be)(l:ct):(d.rewrite w l).2.2.lost=d.lost:=by unfold be.rewrite;(repeat' split)<;>rfl
theorem aam(w:Pow)(d:be):(d.sync w).2.2.lost=d.lost:=by unfold be.sync;(repeat' split)<;>rfl
theorem Ki(m:au)(w:Pow)(d:be)(n:Int):(ft m w d n).2.2.lost=d.lost:=by
 unfold ft;split
 .rfl
 .split
  .rfl
  .split
   .rfl
   .exact FS _ _ _
structure iW (ds ds':aD):Prop where
 len:i4 ds'=i4 ds
 at_:∀k,(aT ds' k).map be.lost=(aT ds k).map be.lost
theorem iW.refl(ds:aD):iW ds ds:=⟨i5,λ_=>rfl⟩
theorem iW.trans{a b c:aD}(d:iW a b)(e:iW b c):iW a c:=⟨e.len.trans d.len,λk=>(e.at_ k).trans (d.at_ k)⟩
theorem iW.set{ds:aD}{k:Int}{d e:be}(a:i4 ds=64)(b:aT ds k=dB d)(c:e.lost=d.lost):iW ds (ck ds k e):=⟨Az _ _ _,λs=>by
 rw[jK a b];split
 .rename_i h;subst h;rw[b];simp[c]
 .rfl⟩
theorem iW.live{ds ds':aD}(h:iW ds ds')(l:av):aK ds' l=aK ds l:=by unfold aK;refine vl λx _=>?_;unfold isLive;have:=h.at_ x;cases h1:aT ds' x<;>cases h2:aT ds x<;>rw[h1,h2]at this<;>first|rfl|cases this|(injection this with this;simp only[this])
theorem Tf{m:au}{c:aL}{w:Pow}{ds:aD}{s:Int}{d:be}(a:i4 ds=64)(b:aT ds s=dB d):iW ds (jQ m c w ds s d).2.2:=by
 unfold jQ
 try dsimp only
 split
 .exact .set a b (Ki _ _ _ _)
 .rw[uM];exact .set a b ((Te _ _ _).trans (Ki _ _ _ _))
theorem DA{m:au}{live set order:av}{c:aL}{id:Nat}{w:Pow}{ds:aD}(a:i4 ds=64):∀{l:List Nat},iW ds (gX m live set order c id w ds l).1.2.2
 |[]=>.refl _
 |i::l=>by
  unfold gX
  try dsimp only
  cases hd:aT ds (fu order ((id:Int)+i))with
  |none=>exact DA a
  |some d=>
   try dsimp only
   split
   .exact DA a
   .exact Tf a hd
theorem aan{m:au}{live set:av}{w:Pow}{ds:aD}{x:jR}(a:i4 ds=64):iW ds (fV m live set w ds x).2.2.1:=DA a
theorem Kj{m:au}{live:av}{t most:Int}:∀{f:Nat} {w:Pow} {ds:aD} {x:jR},i4 ds=64->iW ds (dQ m live t most f w ds x).2.2.1
 |0,_,_,_,_=>.refl _
 |f+1,w,ds,x,h64=>by
  unfold dQ
  try dsimp only
  split
  .exact .refl _
  .split
   .exact .refl _
   .split
    .exact .refl _
    .have a:=aan (m:=m) (live:=live) (set:=(jG m.p x.seed x.W t).1) (w:=w) (x:=x) h64;split
     .exact a
     .exact a.trans (Kj (a.len.trans h64))
theorem FT{m:au}{live:av}{t most:Int}(j:most<=64):∀{f:Nat} {w:Pow} {ds:aD} {x:jR},nJ m live x->nJ m live (dQ m live t most f w ds x).2.2.2/\(dQ m live t most f w ds x).2.2.2.seed=x.seed/\(dQ m live t most f w ds x).2.2.2.M=x.M
 |0,_,_,_,F=>⟨F,i5,i5⟩
 |f+1,w,ds,x,F=>by
  unfold dQ
  try dsimp only
  split
  .exact⟨F,i5,i5⟩
  .split
   .exact⟨F,i5,i5⟩
   .split
    .exact⟨F,i5,i5⟩
    .rename_i k;obtain⟨g,i,h3⟩:=IB F i6;have d:(fV m live (jG m.p x.seed x.W t).1 w ds x).2.2.2.seed=x.seed/\(fV m live (jG m.p x.seed x.W t).1 w ds x).2.2.2.M=x.M:=by
      by_cases h:(fV m live (jG m.p x.seed x.W t).1 w ds x).1=0
      .obtain⟨s,_,e⟩:=i h;rw[e];exact⟨i5,i5⟩
      .rw[h3 h];exact⟨i5,i5⟩
     split
     .exact⟨g,d⟩
     .obtain⟨a,b,c⟩:=FT j g;exact⟨a,b.trans d.1,c.trans d.2⟩
theorem Kk:∀{l:av} {w:Pow} {ds:aD},i4 ds=64->iW ds (fp l w ds).2.2
 |[],_,_,_=>.refl _
 |x::l,w,ds,h64=>by
  have a:iW ds (ic w ds x).2.2:=by
   unfold ic;cases hd:aT ds x with
   |none=>exact .refl _
   |some d=>exact .set h64 hd (aam _ _)
  rw[ut];split
  .exact a.trans (Kk (a.len.trans h64))
  .exact a
theorem uN{m:au}:∀{l:av} {w:Pow} {ds:aD},i4 ds=64->iW ds (dU m l w ds).2.2
 |[],_,_,_=>.refl _
 |k::l,w,ds,h64=>by
  unfold dU;cases hd:aT ds k with
  |none=>exact uN h64
  |some d=>
   try dsimp only
   split
   .exact uN h64
   .have a:iW ds (ck ds k (d.rewrite w (cz m d.l)).2.2):=.set h64 hd (FS _ _ _);split
    .exact a.trans (uN (a.len.trans h64))
    .exact a
noncomputable def dW(m:au)(live:av)(t most:Int)(w:Pow)(ds:aD)(e:bU)(i:Nat):Int×Pow×aD×Nat:=
 let p:=fL m live ds e.object e.tries i
 if p.1≠0 then(p.1,w,ds,0)else
  let q:=dQ m live t most 65 w ds p.2
  if q.1=14 then(14,q.2.1,q.2.2.1,q.2.2.2.got.length)else
   let z:=fp (cL q.2.2.2.got) q.2.1 q.2.2.1
   (if z.1≠0 then z.1 else q.1,z.2.1,z.2.2,q.2.2.2.got.length)
theorem Tg{m:au}{live:av}{t most:Int}{w:Pow}{ds:aD}{e:bU}{i:Nat}(a:ds.length=64):iW ds (dW m live t most w ds e i).2.2.1:=by
 unfold dW
 try dsimp only
 split
 .exact .refl _
 .have b:=Kj (m:=m) (live:=live) (t:=t) (most:=most) (f:=65) (w:=w) (x:=(fL m live ds e.object e.tries i).2) a;split
  .exact b
  .exact b.trans (Kk (b.len.trans a))
theorem WW{m:au}{live:av}{t most:Int}{w:Pow}{ds:aD}{e:bU}{i:Nat}(b:most<=64)(a:∀k d,aT ds k=dB d->i4 d.l<=512)(c:i4 (aK ds m.drives)=i4 live):(dW m live t most w ds e i).2.2.2<=64:=by
 unfold dW
 try dsimp only
 split
 .exact zj _
 .rename_i h;have F:=(IC a c l0).1;have:=(FT (t:=t) b (f:=65) (w:=w) (ds:=ds) F).1.gl;split<;>exact this
noncomputable def hO(m:au)(live:av)(t most:Int)(e:bU):List Nat->Pow->aD->Nat->Int×Pow×aD×Nat
 |[],w,ds,k=>(0,w,ds,k)
 |i::l,w,ds,k=>
  let q:=dW m live t most w ds e i
  if q.1≠0 then(q.1,q.2.1,q.2.2.1,k+q.2.2.2)else hO m live t most e l q.2.1 q.2.2.1 (k+q.2.2.2)
noncomputable def lr(m:au)(live:av)(t most:Int):List bU->Pow->aD->Nat->Int×Pow×aD×Nat
 |[],w,ds,k=>(0,w,ds,k)
 |e::l,w,ds,k=>
  let q:=hO m live t most e (qn e.tries.length) w ds k
  if q.1≠0 then q else lr m live t most l q.2.1 q.2.2.1 q.2.2.2
noncomputable def fR(m:au)(offs:Int)(w:Pow)(ds:aD)(t most:Int):Nat×Int×Pow×aD:=
 if cF w offs then(0,14,w,ds)else if t<0∨t>=(i4 (aK ds m.drives):Int)∨most<0∨most>64 then(0,1,w,ds)else if jP (i4 (aK ds m.drives):Int) t>4096 then(0,13,w,ds)else
 let c:=dU m (aK ds m.drives) w ds
 if c.1≠0 then(0,c.1,c.2.1,c.2.2)else
  let q:=lr m (aK ds m.drives) t most m.aA c.2.1 c.2.2 0
  (q.2.2.2,q.1,q.2.1,q.2.2.1)
section
variable {pw:f7} {w:Pow}
theorem Th{c:f7}(y:bw)(D:Sl)(live:av)(t most:Int)(k:Nat)(x:eE)(e:Qw.bU)(i:Nat)(G:bh m=eS)(o:live=aK ds m.drives)(Y:k<=2^30)(j:0<=most/\most<=64)(hi:i<e.tries.length)(V:e.tries.length<=2^20)
  (X:St B h0 As λh=>cN h y m/\Rd h D 1 az live/\eF kF h x e)
  (H:aa B h0 h (bo a pw da offs w ds m::ak c 118 (fK a y D t most k)::As)):
  ai kg 65 #[xW (dB c),xZ (bW x).toArray,xU ka i] h λv h'=>v=xU ka (dW m live t most w ds e i).1/\
   aa B h0 h' (bo a pw da offs (dW m live t most w ds e i).2.1 (dW m live t most w ds e i).2.2.1 m::ak c 118 (fK a y D t most ((k+(dW m live t most w ds e i).2.2.2:Nat):Int))::As):=by
 refine ts Tryz.func65 ?_ (args:=[(dB c),x,(i:Int)]);have hp:bB m.p=eS:=((dl m).1 ((bG m).1 G).1).2.2.1;have U:=gy G;have hl:live.length<=64:=by rw[o];exact qM (qE _ _) U
 have g:∀k∈live,∃d,aT ds k=dB d:=λk Y=>by obtain⟨_,d,N,_⟩:=ge (show k∈aK ds m.drives by rw[<-o];exact Y);exact⟨d,N⟩
 have Q:=(lY H).2;have ad:=(lY H).1;have r:∀k d,aT ds k=dB d->d.l.length<=512:=λk d N=>by have:=Q k d N;omega
 obtain⟨p,n⟩:=z6 (fL m live ds e.object e.tries i)
 refine H.boxed λa1 h1 I=>?_;have I:=I.aZ.aI 3 [1,2,0];refine⟨x,(I.box 2 i5).aE _ i5,(WV y D live t most k x e i G hl g hi V X.cons I).mono ?_⟩;rw[<-n];rintro _ h2 ⟨n1,n2⟩;by_cases u:p.1=0
 rotate_left
 .obtain⟨rfl,S⟩:=n1 u;have K:dW m live t most w ds e i=(p.1,w,ds,0):=by unfold dW;(try dsimp only);rw[<-n,g0 u]
  rw[K];exact⟨(eH,p.1),i5,bH (λ_=>⟨i5,S.aI 3 [0,1]⟩) λh=>absurd h u⟩
 obtain⟨b,cd,rfl,S⟩:=n2 u;have F:=IC (m:=m) (live:=live) (ds:=ds) r (by rw[o]) (by rw[<-n];exact u);rw[<-n]at F;obtain⟨q,z⟩:=z6 (dQ m live t most 65 w ds p.2)
 have K:dW m live t most w ds e i=(if q.1=14 then(14,q.2.1,q.2.2.1,q.2.2.2.got.length)else
   (if(fp (cL q.2.2.2.got) q.2.1 q.2.2.1).1≠0 then(fp (cL q.2.2.2.got) q.2.1 q.2.2.1).1 else q.1,(fp (cL q.2.2.2.got) q.2.1 q.2.2.1).2.1,(fp (cL q.2.2.2.got) q.2.1 q.2.2.1).2.2,q.2.2.2.got.length)):=by
  unfold dW;(try dsimp only);rw[<-n,g9 λh=>h u,<-z]
 refine⟨(dB b,0),i5,bH (λh=>absurd i5 h) λ_=>?_⟩;have R:St B h0 (BR cd m.p p.2.seed p.2.M::ak a1 51 (bW x)::As) λh=>cN h y m/\Rd h D 1 az live/\Aq h cd m.p p.2.seed p.2.M:=λBs h' H'=>by
  obtain⟨z1,z2,_⟩:=X.cons.cons Bs h' H';exact⟨z1,z2,ajc Bs h' H'⟩
 refine(WP y D live t most k p.2 G hp hl g i6 F.1 F.2 j R S).mono ?_;rw[<-z];rintro _ h3 ⟨rfl,Z⟩;refine⟨_,i5,aY (λL=>?_) λL=>?_⟩
 .rw[K,g0 L];exact⟨by rw[L],Z.aI 5 [0,1]⟩
 rw[K,g9 L];have T:=(FT (m:=m) (live:=live) (t:=t) (most:=most) j.2 (f:=65) (w:=w) (ds:=ds) F.1).1;rw[<-z]at T;obtain⟨wS,gS,E⟩:=GI (Z.aI 3 [2,0,1]);have ab:=E.box 4 i5;have E:=E.aI 5 [3,4,0,2];have P:∀s∈q.2.2.2.got,0<=s/\s<64:=λs J=>by
  have J:=T.gi s J;rw[o]at J;exact gB G s (ge J).1
 refine⟨c,i5,dB a,(E.box 1 i5).cell0 i5,b,i5,gS,(E.box 3 i5).cell i5,?_⟩;refine(ada gS q.2.2.2.got (St.cR (A:=aq 3 gS 1 az q.2.2.2.got) 1 i5 λh' z=>z.1.seq (λ_=>rfl) z.2) (by have:=T.gl;omega) P E).x8 λh5 O=>⟨_,i5,⟨(O.box 1 i5).cell0 i5,A0⟩,bH (λW=>?_) λW=>?_⟩
 .rw[g0 W];exact⟨i5,O.aI 6 [0,1]⟩
 .rw[g9 λh=>h W];exact⟨i5,O.aI 6 [0,1]⟩
def Lz(y:bw)(m:au)(i:Nat)(e:Qw.bU)(x:eE):HP:=
 ⟨λh q=>(bJ y m).p h q/\kF.p h q x e/\∃d,Qw.Seq h q y.2.2.2.2.2.2.2 4 bW d/\d[i]?=dB x,
  λa f=>⟨(bJ y m).loc a.1 f,kF.loc a.2.1 f,by obtain⟨d,b,c⟩:=a.2.2;exact⟨d,b.ac f,c⟩⟩,
  λa g=>⟨(bJ y m).mono a.1 g,kF.mono a.2.1 g,by obtain⟨d,b,c⟩:=a.2.2;exact⟨d,b.mono g,c⟩⟩⟩
theorem ain{y:bw}{i:Nat}(e:i<i4 m.aA)(H:aa B h0 h (bJ y m::As)):∃x,aa B h0 h (Lz y m i m.aA[i] x::As):=
 aa.sI (H.fN 0 i5 λq c=>by
  have a:=c;obtain⟨b,d,g,f⟩:=bM.kI a.aA;exact⟨b[i]'i6,c,f i i6 e,b,d,qc i6⟩)
theorem ajd{y:bw}{i:Nat}{e:Qw.bU}{x:eE}(H:aa B h0 h (Lz y m i e x::As)):aa B h0 h (bJ y m::As):=H.fN 0 i5 λq a=>a.1
theorem WX(t most:Int)(M:bh m=eS)(ht:-(2^62)<=t/\t<=2^62)(H:aa B h0 h (bo a pw da offs w ds m::As)):
  ai kg 22 #[xW (dB a),xU ka t,xU ka most] h λv h'=>v=.tuple #[xU ka ((fR m offs w ds t most).1:Nat),xU ka (fR m offs w ds t most).2.1]/\aa B h0 h' (bo a pw da offs (fR m offs w ds t most).2.2.1 (fR m offs w ds t most).2.2.2 m::As):=by
 refine ts Tryz.func22 ?_ (xc (x6 [] [(6,8),(14,20)] (xc (u9 (xa [] [(6,8),(29,58)] (v7 (x6 [(29,lj)] [(29,49)] v6))) (xc (u9 (xc (v7 (ws [(69,aR)] [(6,8),(11,14),(69,92)] (xc (xc (u9 (v7 (xc (xc (v7 (ws [(76,aR)] [(6,8),(12,14),(76,91)] v6))))) v6)))))) v6))))));have a2:=gy M;have al:=(lY H).1;obtain⟨live,f⟩:=z6 (aK ds m.drives)
 have a3:live.length<=64:=by rw[f];exact qM (qE _ _) a2
 obtain⟨G,l⟩:=z6 (fR m offs w ds t most)
 rw[<-l];unfold fR at l;rw[<-f]at l;refine aJ (aP (λe=>j3) λ_=>(It H).mono ?_);rintro _ h1 ⟨rfl,rfl⟩;refine⟨_,i5,aP (λe=>?_) λe1=>?_⟩
 .rw[g0 e]at l;rw[l];exact⟨i5,H⟩
 rw[g9 k9]at l;refine(Ir M H).y0 λy h2 R2=>?_;have H2:=H.bS R2;refine⟨y,i5,(Iq M (H2.aI 2 [1,0])).y0 λc h3 R3=>?_⟩;rw[<-f]at R3;have H3:=H2.bS R3;refine⟨c,i5,H3.boxed λa5 h5 U=>?_⟩;have U:=(U.aZ).aI 4 [3,0,1,2];have ab:=(U.own 2 i5).len;have ah:=U.box 1 i5;refine aJ (bF (λ(b:Bool) h'=>b=decide (t<0∨t>=(live.length:Int)∨most<0∨most>64)/\h'=h5) ?_ ?_)
 .refine ae (λe=>⟨by rw[hU (.inl e)],i5⟩) λea=>⟨a5,i5,c,ah.cell i5,ae (λe=>⟨by rw[hU (.inr (.inl i6))],i5⟩) λeb=>ae (λe=>⟨by rw[hU (.inr (.inr (.inl e)))],i5⟩) λec=>⟨?_,i5⟩⟩
  rw[decide_eq_decide];omega
 rintro b h6 ⟨rfl,rfl⟩;refine ae (λe=>by rw[g0 e]at l;rw[l];exact⟨i5,U.aI 4 [0]⟩) λe2=>?_;rw[g9 e2]at l;have s:0<=most/\most<=64:=i6
 refine⟨a5,i5,c,ah.cell i5,(Cv ((c.len:Nat):Int) t h6 i6 ht).x7 ?_⟩;rw[ab];refine⟨_,i5,ae (λe=>by rw[g0 e]at l;rw[l];exact⟨i5,U.aI 4 [0]⟩) λe3=>?_⟩;rw[g9 e3]at l;dsimp only at l;have hS:St B h0 (ak a5 118 (fK a y c t most 0)::aq 3 c 1 az live::bJ y m::As) λh=>bN h a5 118 (fK a y c t most 0)/\cN h y m/\Rd h c 1 az live:=λBs h' J=>
  ⟨(St.cR (A:=ak a5 118 (fK a y c t most 0)) 0 i5 λ_ q=>q.1) Bs h' J,(St.cR (A:=bJ y m) 2 i5 λ_ q=>q) Bs h' J,(St.cR (A:=aq 3 c 1 az live) (Q:=λh=>Rd h c 1 az live) 1 i5 λh' q=>q.1.seq (λ_=>rfl) q.2) Bs h' J⟩
 refine(Ww y c live t most 0 M a3 (λk hk=>by obtain⟨_,d,hd,_⟩:=ge (show k∈aK ds m.drives by rw[<-f];exact hk);exact⟨d,hd⟩) hS U).x8 λh8 H8=>?_;obtain⟨P,ad⟩:=z6 (dU m live w ds)
 have N:iW ds P.2.2:=by rw[ad];exact uN al
 rw[<-ad]at H8 l⊢;refine⟨_,i5,bH (λe=>by rw[g0 e]at l;rw[l];exact⟨i5,H8.aI 4 [0]⟩) λe4=>?_⟩;rw[g9 λh=>h e4]at l;have a4:=H8.box 1 i5;have a7:cN h8 y m:=H8.at 3 i5;refine⟨a5,i5,y.2.2.2.2.2.2.2,by rw[addr_add];exact a4.cell i5,?_⟩;have bd:m.aA.length<=12:=((bG m).1 M).2.2.2.1;have a6:∀e∈m.aA,e.tries.length<=8:=λe he=>by
  have h1:=(gb m e).1 (((bG m).1 M).2.2.2.2.1 e he);have h2:=mA h1.2.2.1.2;omega
 have b2:=bM.len a7.aA;have b3:St B h0 (aq 3 c 1 az live::bJ y m::As) λh=>cN h y m/\Rd h c 1 az live:=λBs h' J=>
  ⟨(St.cR (A:=bJ y m) 1 i5 λ_ q=>q) Bs h' J,(St.cR (A:=aq 3 c 1 az live) (Q:=λh=>Rd h c 1 az live) 0 i5 λh' q=>q.1.seq (λ_=>rfl) q.2) Bs h' J⟩
 refine an (λz:Nat×Pow×aD×Nat=>(z.1:Int)) (λz h'=>z.1<=m.aA.length/\z.2.2.2<=z.1*512/\iW ds z.2.2.1/\lr m live t most m.aA P.2.1 P.2.2 0=lr m live t most (m.aA.drop z.1) z.2.1 z.2.2.1 z.2.2.2/\
  aa B h0 h' (bo a pw da offs z.2.1 z.2.2.1 m::ak a5 118 (fK a y c t most (z.2.2.2:Nat))::aq 3 c 1 az live::bJ y m::As)) (λz=>m.aA.length-z.1) (0,P.2.1,P.2.2,0) i5 ⟨zj _,zj _,N,i5,H8⟩ ?_
 rintro⟨i,w1,X,k⟩ h9 ⟨hi,hk,W,K,H9⟩;dsimp only at hi hk W K H9⊢;refine ae (λe5=>?_) λe5=>?_
 rotate_left
 .have ax:i=m.aA.length:=i6
  rw[ax,List.drop_length]at K;rw[K]at l;rw[l];exact⟨a5,i5,(k:Int),(H9.box 1 i5).cell i5,i5,H9.aI 4 [0]⟩
 have R:i<m.aA.length:=by have bs:(i:Int)<(y.2.2.2.2.2.2.2.len:Int):=e5;omega
 obtain⟨x,O⟩:=ain R (H9.aI 4 [3,0,1,2]);obtain⟨E,S⟩:=z6 (m.aA[i])
 rw[<-S]at O;obtain⟨bq,bk,ys,ao,bb⟩:=O.at 0 rfl;obtain⟨a8,a0⟩:=ql.1 bb;have br:E.tries.length<=8:=a6 E (by rw[S];exact qe R);refine ao.dO (g:=bW) i i5 a8 x (by rw[a0]) ?_;refine O.alloc ag i5 λV b6 T=>?_;have T:=T.aZ;refine T.storeAll ag 0 i5 i5 (bW x) i5 i5 i5 i5 λb4 r=>?_;have r:=r.aI 5 [2,3,0,1,4];have b5:=(r.at 3 i5).2.1.2.len;refine⟨x.2.2.2,(r.box 2 i5).cell i5,?_⟩;have a1:St B h0 (ak V 51 (bW x)::Lz y m i E x::aq 3 c 1 az live::As) λh=>cN h y m/\Rd h c 1 az live/\eF kF h x E:=λBs h' J=>by
  obtain⟨z1,z2,_⟩:=(St.cR (A:=Lz y m i E x) (Q:=λh=>(Lz y m i E x).p h λb=>b<h.size) 1 rfl λ_ q=>q) Bs h' J;exact⟨z1,(St.cR (A:=aq 3 c 1 az live) (Q:=λh=>Rd h c 1 az live) 2 i5 λh' q=>q.1.seq (λ_=>rfl) q.2) Bs h' J,z2⟩
 have e0:m.aA.drop i=E::m.aA.drop (i+1):=by rw[S];exact qJ R
 rw[e0,lr]at K;obtain⟨Q,hQ⟩:=z6 (hO m live t most E (qn E.tries.length) w1 X k)
 rw[<-hQ]at K;refine an (λz:Nat×Pow×aD×Nat=>(z.1:Int)) (λz h'=>z.1<=E.tries.length/\z.2.2.2<=k+z.1*64/\iW ds z.2.2.1/\Q=hO m live t most E ((qn E.tries.length).drop z.1) z.2.1 z.2.2.1 z.2.2.2/\
  aa B h0 h' (bo a pw da offs z.2.1 z.2.2.1 m::ak a5 118 (fK a y c t most (z.2.2.2:Nat))::ak V 51 (bW x)::Lz y m i E x::aq 3 c 1 az live::As)) (λz=>E.tries.length-z.1) (0,w1,X,k) i5 ⟨zj _,qi _,W,hQ,r⟩ ?_
 rintro⟨j,w2,D,k2⟩ b0 ⟨hj,a9,F,o,u⟩;dsimp only at hj a9 F o u⊢;have bl:i<=12:=i6
 refine ae (λe6=>?_) λe6=>?_
 .have am:j<E.tries.length:=by have ar:(j:Int)<(x.2.2.2.len:Int):=e6;omega
  have hd:(qn E.tries.length).drop j=j::(qn E.tries.length).drop (j+1):=by rw[qJ jj,yM]
  rw[hd,hO]at o;have L:live=aK D m.drives:=by rw[F.live];exact f
  refine⟨x,(u.box 2 i5).aE _ i5,(Th y c live t most k2 x E j M L i6 s am i6 a1 u).x8 λb1 I=>?_⟩;have Y:=WW (m:=m) (live:=live) (t:=t) (most:=most) (w:=w2) (ds:=D) (e:=E) (i:=j) s.2 (λk d hd=>by have:=(lY u).2 k d hd;omega) (by rw[<-L]);have Z:=Tg (m:=m) (live:=live) (t:=t) (most:=most) (w:=w2) (ds:=D) (e:=E) (i:=j) (F.len.trans al);obtain⟨b,hb⟩:=z6 (dW m live t most w2 D E j)
  rw[<-hb]at I o Y Z⊢;refine⟨_,i5,bH (λe7=>?_) λe7=>?_⟩
  .rw[g0 e7]at o;rw[o,g0 e7]at K;rw[K]at l;rw[l];exact⟨a5,i5,((k2+b.2.2.2:Nat):Int),(I.box 1 i5).cell i5,i5,I.aI 5 [0]⟩
  .rw[g9 λh=>h e7]at o;refine⟨(j+1,b.2.1,b.2.2.1,k2+b.2.2.2),j0,⟨i9,i9,F.trans Z,o,I⟩,i9⟩
 .have ay:j=E.tries.length:=by have ar:¬(j:Int)<(x.2.2.2.len:Int):=e6;omega
  rw[ay,qY js,hO]at o;rw[o,g9 λh=>h rfl]at K;have ap:=(ajd (u.aI 4 [3,0,1])).aI 3 [1,2,0];refine⟨(i+1,w2,D,k2),j0,⟨i9,i9,F,K,?_⟩,i9⟩;exact ap.aI 4 [0,1,3,2]
end
theorem WY{o b:Int}{live:av}(g:0<=o/\o<=16777215)(i:0<=b/\b<8)(d:live.Nodup)(c:∀k∈live,0<=k/\k<64):(cX o b live).Nodup/\(cX o b live).Perm live:=by
 have e:cX o b live=tu ((8*o+b)%64).toNat live:=by unfold cX;rw[g0 i6]
 rw[e];have f:=Qc ((8*o+b)%64).toNat live;refine⟨f,(List.perm_ext_iff_of_nodup f d).2 λa=>?_⟩;rw[Bn];exact⟨λh=>h.1,λh=>⟨h,c a h⟩⟩
theorem adi{a b:cH}(d:rK a b=eS)(c:rK b a=eS):nU a b=eS:=by unfold rK at d c;rw[decide_eq_true_eq]at d c;rw[mg];omega
theorem adj{a b c:cH}(h:rK a b=eS)(d:nU a c=eS):rK c b=eS:=by
 rw[mg]at d;unfold rK at h⊢
 grind
theorem WZ{l:List cH}(h:l.Pairwise λa b=>rK a b=eS):(tU l).Pairwise λa b=>nU a b=eX:=by
 unfold tU;rw[List.pairwise_map];have f:((qn l.length).filter (ux l)).Pairwise (·<·):=(List.pairwise_lt_range (n:=i4 l)).filter _;refine f.imp_of_mem λ{i j} hi hj hlt=>?_;have c:=qK.1 (qB.1 hj).1;have o:=(qB.1 hj).2;rw[gh _ (show i<i4 l by omega),gh _ c];refine eq_false_of_ne_true λm=>?_;unfold ux at o;have k:=q7.1 h;have d:rK l[i] l[j-1]=eS:=by
  by_cases e:i=j-1
  .subst e;unfold rK;simp
  grind
 have g:rK l[j-1] l[j]=eS:=k (j-1) j i6 c i6;have:=adi (adj d m) g
 grind
theorem Ti(m:au)(l:ct):(dJ m l).Pairwise λa b=>nU a b=eX:=WZ (wF aha.1 aha.2 _)
theorem pc{α:Type}[DecidableEq α]:∀{l m:List α},l.Nodup->(∀x∈l,x∈m)->i4 l<=i4 m
 |[],m,_,_=>zj _
 |x::l,m,h,hs=>by
  obtain⟨c,a⟩:=List.nodup_cons.1 h;have:=pc (l:=l) (m:=m.erase x) a λy b=>j1
  grind
def aeU(r:cH):Int×Int×Int:=(r.object,r.block,r.id)
section
variable {C:Int->aL} {w:Pow}
def Low(m:au)(ds:aD):Prop:=∀k d,aT ds k=dB d->∀c∈d.l,∀r,dS c=dB r->eu m r=eS->r.id<m.p.1+m.extra
structure Full (m:au) (C:Int->aL) (ds:aD):Prop where
 live:∀k∈m.drives,∃d,aT ds k=dB d/\d.lost=eX/\ju m d.l=eS
 all:∀e∈m.aA,∀i:Nat,i<e.tries.length->∀id:Nat,id<(m.p.1+m.extra).toNat->∃k∈m.drives,∃d,aT ds k=dB d/\cD (lW m e.object i (cg e.object i (e.tries.getD i 0)) (gq m C e.object i) id)∈d.l
theorem Full.aK(F:Full m C ds):Qw.aK ds m.drives=m.drives:=wA.2 λk a=>by
 obtain⟨d,b,c,_⟩:=F.live k a;unfold isLive;grind
theorem eU.aio(S:eU m C ds){e:Qw.bU}(a:e∈m.aA):e.tries.length<=8:=by obtain⟨_,_,h3,_,b⟩:=(gb m e).1 (S.entry a);have:=mA h3.2;omega
theorem eU.FU(S:eU m C ds){e:Qw.bU}(a:e∈m.aA){i:Nat}(c:i<e.tries.length){id:Nat}(hid:id<=65535):iQ (lW m e.object i (cg e.object i (e.tries.getD i 0)) (gq m C e.object i) id)=eS:=by obtain⟨K,H,w,n,B⟩:=S.fy a c;have h8:=S.aio a;have d:=((gb m e).1 (S.entry a)).2.1;have b:=((dl m).1 ((bG m).1 S.may).1).2.1;exact Qf B ⟨d.1,i6⟩ ⟨i6,i6⟩ ⟨i6,i6⟩
theorem eU.counts(S:eU m C ds){e:Qw.bU}(a:e∈m.aA){i:Nat}(b:i<e.tries.length){id:Nat}(hid:id<=65535):eu m (lW m e.object i (cg e.object i (e.tries.getD i 0)) (gq m C e.object i) id)=eS:=
 gY.2 ⟨S.FU a b hid,i5,e,a,i5,by show(i:Int)<_;omega,i5⟩
theorem eU.adk(S:eU m C ds){id:Nat}(h:id<(m.p.1+m.extra).toNat):id<=65535:=by obtain⟨_,_,a,b⟩:=(dl m).1 ((bG m).1 S.may).1;have:=(bK m.p).1 a;omega
theorem eU.aje(S:eU m C ds){e:Qw.bU}(b:e∈m.aA){i:Nat}(c:i<e.tries.length){id:Nat}(hid:id<=65535){k:Int}(h:k∈aK ds m.drives){d:be}(a:aT ds k=dB d)
  (g:cD (lW m e.object i (cg e.object i (e.tries.getD i 0)) (gq m C e.object i) id)∈d.l):(id:Int)∈kw m ds e.object i:=by
 have f:=sA S.may (S.cells k d a) g (po (S.FU b c hid) (km _ _ _)) (S.counts b c hid);refine qo.2 ⟨((id),(lW m e.object i (cg e.object i (e.tries.getD i 0)) (gq m C e.object i) id).data),zM.2 ⟨k,h,?_⟩,i5⟩;unfold ik;rw[a];exact qo.2 ⟨_,qB.2 ⟨f,by simp[lW]⟩,i5⟩
theorem aap{p:Pm}(a:bB p=eS){i:Int}(h:i∈fj p):∃id:Nat,i=id/\(id:Int)<p.1:=by
 unfold fj upto at h
 grind
theorem Full.can(F:Full m C ds)(S:eU m C ds)(f:m.drives≠[]){e:Qw.bU}(g:e∈m.aA):nK m ds e=eS:=by
 unfold nK;rw[qx];constructor
 .unfold jc;rw[F.aK];obtain⟨k,c⟩:=List.exists_mem_of_ne_nil _ f;obtain⟨d,q,_,h3⟩:=F.live k c;exact zT.2 ⟨k,c,by unfold mM;grind⟩
 .refine qS.2 λi b=>?_;have b:=qK.1 b;obtain⟨K,H,w,n,B⟩:=S.fy g b;refine Nb B.may (ids:=fj m.p) (λj l=>?_) B.full;obtain⟨id,rfl,hid⟩:=aap S.Dy l;have r:=((dl m).1 ((bG m).1 S.may).1).2.2.2;have a:id<(m.p.1+m.extra).toNat:=i6
  obtain⟨k,c,d,h,o⟩:=F.all e g i b id a;exact S.aje g b (S.adk a) (by rw[F.aK];exact c) h o
theorem Nc(m:au)(d:be)(N:Int):(cY m d N).lost=d.lost/\(cY m d N).room=d.room:=by unfold cY;grind
theorem sU{t:av}{b:aL}{n:au}{k:Int}{d:be}(a:k∈aK ds m.drives):
  (rG m ds t b n k d).lost=d.lost/\(rG m ds t b n k d).room=d.room/\∃N,(rG m ds t b n k d).l=(cY m d N).l++((ku m m.next t (splitB m.p b) (aK ds m.drives) k (splitB m.p b).length).map cD++ba n):=by
 unfold rG;rw[g0 a];refine⟨by rw[(Bo _ _).1,(Nc _ _ _).1],by rw[(Bo _ _).2,(Nc _ _ _).2],_,Qm _ _⟩
theorem aaq{n:au}(a:bh n=eS){l1 l2:ct}(h:∀c∈ba n,c∈l2):ju n (l1++l2)=eS:=by
 unfold ju
 grind
theorem Full.put(F:Full m C ds)(S:eU m C ds){name:ByteArray}{b:aL}{t:av}{ds':aD}(I:cT m (cF w offs) ds name b.length=0)(L:cW m.p m.next (splitB m.p b).length=dB t)
  (H:eU (dK m ⟨name,m.next,b.length,t⟩) (jv C m.next b) ds') (g:∀k,aT ds' k=(aT ds k).map (rG m ds t b (dK m ⟨name,m.next,b.length,t⟩) k)):Full (dK m ⟨name,m.next,b.length,t⟩) (jv C m.next b) ds':=by
 have a:=F.aK;obtain⟨P,Q,z3,z4,z5⟩:=lX I;have s:m.drives≠[]:=by rw[<-a];exactλh=>z5 (.inl h)
 have v:m.next<=16777215:=by have:¬16777215<m.next:=λh=>z5 (.inr (.inl h));omega
 refine⟨λk j=>?_,λe l i r id hid=>?_⟩
 .have j:k∈m.drives:=j;obtain⟨d,y,D,h3⟩:=F.live k j;obtain⟨A,G,N,q⟩:=sU (m:=m) (t:=t) (b:=b) (n:=dK m ⟨name,m.next,b.length,t⟩) (d:=d) (show k∈Qw.aK ds m.drives by rw[a];exact j);refine⟨_,by rw[g,y,qW],by rw[A];exact D,?_⟩;rw[q];exact aaq H.may λc x=>wC _ x
 .have hid:id<(m.p.1+m.extra).toNat:=hid;rcases kG.1 l with l|rfl
  .have M:=S.old l;obtain⟨k,j,d,E,x⟩:=F.all e l i r id hid;obtain⟨A,G,N,q⟩:=sU (m:=m) (t:=t) (b:=b) (n:=dK m ⟨name,m.next,b.length,t⟩) (d:=d) (show k∈Qw.aK ds m.drives by rw[a];exact j);refine⟨k,j,_,by rw[g,E,qW],?_⟩;rw[q];have B:gq (dK m ⟨name,m.next,b.length,t⟩) (jv C m.next b) e.object i=gq m C e.object i:=Kf i5 (by unfold jv;rw[g9 i6]);rw[B];exact zm _ (adh S.may (S.cells k d E) x (po (S.FU l r (S.adk hid)) (km _ _ _)) (S.counts l r (S.adk hid)))
  .have r:i<t.length:=r;have K:=jY L;have h8:=Cp S.Dy λh=>z4 (.inl h);have z:=((dl m).1 ((bG m).1 S.may).1).2.1.1;have O:(0:Int)<=(i:Int)/\(i:Int)<8:=⟨i6,i6⟩
   have J:=WY (o:=m.next) (b:=(i:Int)) (live:=m.drives) ⟨z,v⟩ O (mu S.may) (gB S.may);obtain⟨R,u⟩:=J;have one:cX m.next i m.drives≠[]:=λh=>by rw[h]at u;exact s (List.nil_perm.1 u)
   have f:fu (cX m.next i m.drives) id∈m.drives:=by rw[ahZ one];exact u.mem_iff.1 (qe _)
   obtain⟨d,y,D,h3⟩:=F.live _ f;obtain⟨A,G,N,q⟩:=sU (m:=m) (t:=t) (b:=b) (n:=dK m ⟨name,m.next,b.length,t⟩) (d:=d) (show fu (cX m.next i m.drives) id∈Qw.aK ds m.drives by rw[a];exact f);refine⟨_,f,_,by rw[g,y,qW],?_⟩;rw[q];refine wC _ (zm _ (qo.2 ⟨_,?_,i5⟩));have B:gq (dK m ⟨name,m.next,b.length,t⟩) (jv C m.next b) m.next i=(splitB m.p b).getD i []:=by unfold gq jv;rw[g0 i5,qj];rfl
   show lW m m.next i (cg m.next i (t.getD i 0)) (gq (dK m ⟨name,m.next,b.length,t⟩) (jv C m.next b) m.next i) id∈_;rw[B,a];unfold ku;refine zM.2 ⟨i,qK.2 i6,?_⟩;unfold su;exact qo.2 ⟨id,qB.2 ⟨qK.2 hid,hU i5⟩,i5⟩
theorem QK{d:be}{N:Int}{c:aL}(h:c∈(cY m d N).l):c∈d.l∨c∈ba m:=by
 unfold cY at h;split at h
 .grind
 .rcases qt.1 h with h|h
  .grind
  .obtain⟨r,a,rfl⟩:=qo.1 h;exact .inl (kp a).1
theorem Low.put(L:Low m ds)(S:eU m C ds){name:ByteArray}{b:aL}{t:av}{ds':aD}(A:cT m (cF w offs) ds name b.length=0)(D:cW m.p m.next (splitB m.p b).length=dB t)
  (j:∀k,aT ds' k=(aT ds k).map (rG m ds t b (dK m ⟨name,m.next,i4 b,t⟩) k)):Low (dK m ⟨name,m.next,i4 b,t⟩) ds':=by
 obtain⟨I,J,z3,z4,z5⟩:=lX A;have o:m.next<=16777215:=i6
 have h8:=Cp S.Dy λh=>z4 (.inl h);have u:∀k e,aT ds k=dB e->∀c∈e.l,∀r,dS c=dB r->eu (dK m ⟨name,m.next,i4 b,t⟩) r=eS->r.id<m.p.1+m.extra:=λk e h0 c f r a g=>by
  have E:=(S.cells k e h0 c f).old r a;obtain⟨G,y,x,s,c3,v⟩:=gY.1 g;rcases kG.1 s with s|rfl
  .exact L k e h0 c f r a (gY.2 ⟨G,y,x,s,c3,v⟩)
  grind
 intro k d z c f r a g;show r.id<m.p.1+m.extra;obtain⟨e,h0,rfl⟩:=mE j z;by_cases B:k∈aK ds m.drives
 .obtain⟨_,_,N,F⟩:=sU (m:=m) (t:=t) (b:=b) (n:=dK m ⟨name,m.next,i4 b,t⟩) (d:=e) B;rw[F]at f;rcases qt.1 f with h|h
  .rcases QK h with h|h
   .grind
   .rw[oC h]at a;cases a
  .rcases qt.1 h with h|h
   .obtain⟨K,q,rfl⟩:=qo.1 h;obtain⟨i,id,rfl,H,hid⟩:=JP q;rw[po (Ln S.may o h8 D H hid) (km _ _ _)]at a;injection a with a
    subst a;show(id:Int)<_;omega
   .rw[oC h]at a;cases a
 .unfold rG at f
  grind
theorem aar{t:av}{b:aL}{live:av}{k:Int}{nb:Nat}:i4 (gV (eW m m.next t (splitB m.p b) live nb) k)<=nb*(m.p.1+m.extra).toNat:=by rw[Qk,qp];exact Sz m m.next t (splitB m.p b) live k nb
theorem aga{t:av}{b:aL}{live:av}{n:au}(d:bh n=eS)(k:Int){nb c:Nat}(a:nb<=c):0<=kh (ba n).length (eW m m.next t (splitB m.p b) live nb) k/\kh (ba n).length (eW m m.next t (splitB m.p b) live nb) k<=((9+c*(m.p.1+m.extra).toNat:Nat):Int):=by have e:=aar (m:=m) (t:=t) (b:=b) (live:=live) (k:=k) (nb:=nb);have f:=ZA d;have h3:=zi (m.p.1+m.extra).toNat a;rw[FD];omega
end
def AF(m:au)(i:Nat):au:={m with seq:=m.seq+1,aA:=m.aA.take i++m.aA.drop (i+1)}
def dw(m:au)(offs:Int)(w:Pow)(ds:aD)(name:ByteArray):Int×au×Pow×aD:=
 if cF w offs then(14,m,w,ds)else if m.aA.any (cJ name)=eX then(5,m,w,ds)else if m.seq>=2147483647 then(7,m,w,ds)else
 cQ m offs w ds (AF m (m.aA.findIdx (cJ name)))
theorem QL{C:Ctx}{t e k:Nat}{z:aW}{b:Nat}{h:f9}{s:Sl}(a:C.Ok)(c:bV C.toBX t e k z b){x y u:Int}(i j n:Nat)(H:x=i)(m:y=j)(I:u=n)(A:i<=j)(f:j<=n)(h3:n<=s.cap){K:Sl->f9->Prop}(p:∀v,K v h):
  bI C.P (ya t (xV s.ptr s.len s.cap) (dB (xU ka x)) (dB (xU ka y)) (dB (xU ka u))) (.one (.sc .slc)) h K:=by
 subst H;subst m;subst I;have B:aH C.P (z7 eS s.len s.cap (dB (xU ka (i:Int))) (dB (xU ka (j:Int))) (dB (xU ka (n:Int)))) (i,j,n):=λw=>by
  have g:¬((n:Int)<0):=i6
  have x2:¬((s.cap:Int)<(n:Int)):=i6
  have x3:(n:Int)<=(s.cap:Int):=i6
  have J:(0:Int)<=(n:Int):=i6
  have d:(0:Int)<=(j:Int):=i6
  have q:(0:Int)<=(i:Int):=i6
  have D:(j:Int)<=(n:Int):=i6
  have G:(i:Int)<=(j:Int):=i6
  have E:¬((j:Int)<0):=i6
  have r:¬((i:Int)<0):=i6
  have L:¬((n:Int)<(j:Int)):=i6
  have l:¬((j:Int)<(i:Int)):=i6
  have o:¬(n<j):=i6
  have M:¬(j<i):=i6
  have F:¬(s.cap<n):=i6
  simp[z7,Instr.sliceBound,asIntOf,g,x2,x3,J,d,q,D,G,E,r,L,l,o,M,F,A,f,h3]
 unfold bI ya;refine aj.bind (aj.always (aF (c.under a)) ?_);show aj C.P (xR t (xV s.ptr s.len s.cap) (dB (xU ka (i:Int))) (dB (xU ka (j:Int))) (dB (xU ka (n:Int)))) h _;unfold xR;refine aj.bind (aj.always (aF (c.under a)) ?_);refine aj.bind (aj.always B ?_);refine aj.bind (aj.always (c.size a) ?_);exact aj.pure' ⟨⟨_,_,_⟩,i5,p _⟩
section
variable {pw:f7} {w:Pow}
theorem Tj(d:List eE)(i:Nat)(m:i<i4 d)(o:i4 d<=2^30)(H:aa B h0 h (aq 51 s 4 bW d::As)):
  ai kg 105 #[s,xU ka i,xU ka (i+1)] h λv h'=>∃r:Sl,v=r/\aa B h0 h' (aq 51 r 4 bW (d.take i++d.drop (i+1))::As):=by
 refine ts Tryz.func105 ?_;have b:=H.own 0 i5;have q:=b.len;have k:=b.cap;refine QL ag Lh i (i+1) s.len i5 i5 i5 i6 i6 k λ_=>?_;refine aY (λe=>absurd e i6) λ_=>⟨⟨i6,i6⟩,⟨i6,i6⟩,?_⟩
 have l:((i:Int)+1).toNat=i+1:=i6
 rw[l,qj];refine H.Ld ag 0 i5 Lh ⟨_,_,i5,i5⟩ (λ_=>rfl) Lg i m λp g=>⟨A0,⟨i6,i9,i9⟩,?_⟩
 have a:i4 (d.take i++d.drop (i+1))=i4 d-1:=jj
 try dsimp only
 rw[qj,qj];refine g.nk ag 0 i5 Lh (λ_=>rfl) i5 (by intro v c;simp at c;rcases c with rfl|rfl|rfl<;>rfl) (i4 d-1) jj λn f=>?_;have j:((d.take i++d.drop (i+1))++d.drop (i4 d-1)).take (i4 d-1)=d.take i++d.drop (i+1):=by rw[<-a,vY]
 rw[j]at f;exact⟨⟨s.ptr,i4 d-1,s.cap⟩,i5,f⟩
theorem QM(name:ByteArray)(x:bw)(m:au)(D:bh m=eS)(H:aa B h0 h (bc bi a pw (aV x) offs da w ds::bJ x m::As)):
  ai kg 41 #[xW (dB a),xX name] h λv h'=>v=xU ka (dw m offs w ds name).1/\
   ∃y,aa B h0 h' (bc bi a pw (aV y) offs da (dw m offs w ds name).2.2.1 (dw m offs w ds name).2.2.2::bJ y (dw m offs w ds name).2.1::As):=by
 refine ts Tryz.func41 ?_;have q:=gI D;have T:=gy D;obtain⟨g1,g2,g3,g4⟩:=(dl m).1 ((bG m).1 D).1;have ad:=((bG m).1 D).2.2.2.1;refine(py H).x7 ⟨_,i5,aP (λe=>?_) λQ=>?_⟩
 .have l:dw m offs w ds name=(14,m,w,ds):=by unfold dw;rw[g0 e]
  rw[l];exact⟨i5,x,H⟩
 refine(find_spec x m name (H.at 1 i5) q H).mono ?_;rintro _ R ⟨⟨i,rfl,hi⟩,R2⟩;have u:=H.up R2.ac;refine⟨i,i5,?_⟩;rcases hi with⟨rfl,hno⟩|⟨n,hn,rfl,d,hbef⟩
 .refine ae (λ_=>?_) λe=>absurd i7 e;have l:dw m offs w ds name=(5,m,w,ds):=by unfold dw;rw[g9 (by rw[Q];decide),g0 hno]
  rw[l];exact⟨i5,x,u⟩
 have f:m.aA.any (cJ name)=eS:=zT.2 ⟨_,qe hn,d⟩;have A:m.aA.findIdx (cJ name)=n:=by rw[List.findIdx_eq hn];refine⟨d,λj hj=>?_⟩;have:=wi.1 hbef (m.aA[j]'i6) (List.mem_take_iff_getElem.2 ⟨j,i6,i5⟩);simpa using this
 have s:=(aa.cj u).2;have z:cN R x m:=u.at 1 i5;refine ae (λe=>absurd e (Int.not_lt.2 (Int.natCast_nonneg n))) λ_=>⟨a,i5,x.1,s.cell0 i5,?_⟩
 rw[z.seq];refine ae (λK=>?_) λK=>?_
 .have l:dw m offs w ds name=(7,m,w,ds):=by unfold dw;rw[g9 (by rw[Q];decide),g9 (by rw[f];decide),g0 K]
  rw[l];exact⟨i5,x,u⟩
 refine⟨a,i5,x,s.aE _ i5,(oc x m R z q).mono ?_⟩;rintro _ h3 ⟨y,L,pool,rfl,G,t,W,X⟩;have Z:=(u.comp X).front;refine⟨y,i5,Z.alloc ag i5 λa3 h4 P=>?_⟩;have P:=P.aZ;refine P.storeAll ag 0 i5 i5 (aV y) i5 i5 i5 i5 λh5 S=>?_;refine⟨y.1,(S.box 0 i5).cell0 i5,?_⟩
 try dsimp only
 rw[G.1,af (m.seq+1)];refine S.fM ag 0 i5 i5 [xU ka (m.seq+1)] i5 i5 i5 k7 λh6 E=>?_;refine⟨_,(E.box 0 i5).cell i5,?_⟩;have ab:i4 L=i4 m.aA:=by rw[<-t,qp]
 have E:=E.aI 6 [3,0,1,2,4,5];rw[af ((n:Int)+1)];refine(Tj (L.map qD) n nq nq E).y0 λo h7 I=>?_;have I:=I.aI 6 [1,2,3,0,4,5];refine⟨o,i5,I.store ag 0 i5 i5 7 [o] i5 i5 i5 k7 λh8 F=>?_⟩;obtain⟨b,c⟩:∃b:bw,b=(m.seq+1,y.2.1,y.2.2.1,y.2.2.2.1,y.2.2.2.2.1,y.2.2.2.2.2.1,y.2.2.2.2.2.2.1,o):=⟨_,rfl⟩
 have ed:b.2.2.2.2.2.2.1=y.2.2.2.2.2.2.1:=by rw[c]
 have Y:b.2.2.2.2.2.2.2=o:=by rw[c]
 obtain⟨L2,g⟩:=z6 (L.take n++L.drop (n+1))
 have O:L2.map qD=(L.map qD).take n++(L.map qD).drop (n+1):=by rw[g,qP,List.map_take,List.map_drop]
 have F:aa B h0 h8 (ak a3 48 (aV b)::jE 1 az pool::aq 3 b.2.2.2.2.2.2.1 1 az m.drives::aq 51 b.2.2.2.2.2.2.2 4 bW (L2.map qD)::bc bi a pw (aV x) offs da w ds::bJ x m::As):=by rw[ed,Y,O,c];exact F
 refine⟨b,(F.box 0 i5).aE _ i5,?_⟩;obtain⟨M,r⟩:=z6 (AF m n)
 have V:aa B h0 h8 (bJ b M::bc bi a pw (aV x) offs da w ds::bJ x m::As):=aa.Aj (m:=M) (L:=L2) (pool:=pool) (by rw[r,c];exact⟨i5,G.2.1,G.2.2.1,G.2.2.2⟩)
  (by rw[r,g,qP,List.map_take,List.map_drop,t];rfl) (λp d=>W p (by
   rw[g]at d;rcases qt.1 d with d|d
   .exact zn d
   .exact List.mem_of_mem_drop d)) (by rw[r];exact F.aI 6 [1,2,3,4,5])
 have J:cw M:=by
  rw[r];have sub:∀e,e∈m.aA.take n++m.aA.drop (n+1)->e∈m.aA:=λe k=>by
   rcases qt.1 k with k|k
   .exact zn k
   .exact List.mem_of_mem_drop k
  refine⟨q.dr,?_,?_⟩
  .have:=q.ob;show(m.aA.take n++m.aA.drop (n+1)).length<=_;simp;omega
  .exactλe k=>q.nm e (sub e k)
 refine(BM x m b M (As:=bJ b M::As) (St.cR 0 i5 λ_ hq=>hq) q J i6 (V.aI 3 [1,2,0])).x8 λU ⟨y3,N⟩=>?_;have l:dw m offs w ds name=cQ m offs w ds M:=by unfold dw;rw[g9 (by rw[Q];decide),g9 (by rw[f];decide),g9 K,A,r]
 rw[l];exact⟨_,i5,i5,y3,N.aI 3 [0,1]⟩
theorem Xa(name:ByteArray)(b:bh m=eS)(H:aa B h0 h (bo a pw da offs w ds m::As)):
  ai kg 41 #[xW (dB a),xX name] h λv h'=>v=xU ka (dw m offs w ds name).1/\
   aa B h0 h' (bo a pw da offs (dw m offs w ds name).2.2.1 (dw m offs w ds name).2.2.2 (dw m offs w ds name).2.1::As):=by
 obtain⟨x,H⟩:=fg H;refine(QM name x m b H).mono ?_;rintro _ h' ⟨rfl,y,c⟩;exact⟨i5,jb c⟩
end
variable {B':aw} {h0' h':f9} {As':List HP} {pw2:f7}
section
variable {pw:f7} {d:be}
end
variable {a2:f7} {mc:aW} {da2:List bL}
section
variable {pw:f7} {w:Pow}
end
section
variable {pw:f7} {x:bw} {w:Pow} {d:be}
end
def sB(l:av)(k:Nat):Int:=l.getD k 0
def kH(l:av):Pm:=Ct (sB l 0) (sB l 1) (sB l 2)
def AG(l:av):Nat:=(2+sB l 4%4).toNat
def DB(l:av):av:=(qn (AG l)).map λi=>8+sB l (5+i)%50
def FV(l:av):Int:=sB l 3%7
theorem Ur(l:av):2<=AG l/\AG l<=5:=by unfold AG;omega
theorem QN(l:av):i4 (DB l)=AG l:=by simp[DB]
section
variable {pw:f7} {w:Pow}
theorem sC(s:Sl)(l:av)(k:Nat)(h:f9)(a:Rd h s 1 az l):ai kg 34 #[s,xU ka k] h λv h'=>v=xU ka (sB l k)/\h'=h:=by
 refine ts Tryz.func34 ?_;unfold sB;have c:=a.len;refine ae (λe=>?_) (λe=>⟨?_,i5⟩)
 .have b:k<i4 l:=i6
  refine a.bm k i5 b (l.getD k 0) (by rw[getD_lt b];rfl) ⟨i5,i5⟩
 .rw[qg,zd i6];rfl
theorem Tk(s:Sl)(l:av)(h:f9)(u:Rd h s 1 az l):ai kg 13 #[s] h λv h'=>∃r:Sl,v=.tuple #[ir (kH l),xU ka (FV l),r]/\Sp h h' [aq 3 r 1 az (DB l)]:=by
 refine uE s ?_;refine(Sp.refl h).alloc ag i5 λz E p=>?_;have a:=u.up p.ac;refine(sC s l 0 E a).x7 ⟨_,i5,(sC s l 1 _ a).x7 ?_⟩;refine⟨_,i5,(sC s l 2 _ a).mono ?_⟩;rintro _ w ⟨rfl,rfl⟩;refine⟨_,i5,(Wv _ _ _ w).x8 λM F=>?_⟩;have A:=p.up F.ac;refine⟨kH l,i5,?_⟩;refine A.alloc ag i5 λf N B=>?_;refine B.storeAll ag 1 i5 i5 [xU ka (kH l).1,xU ka (kH l).2.1,xU ka (kH l).2.2] i5 i5 i5 i5 λQ j=>?_;have j:=(j.nil 3 1 az).bO [2,1,0];have O:=Ur l;have D:=QN l;refine an (λt:Sl×Nat=>(t.1,(t.2:Int))) (λt h'=>t.2<=AG l/\Sp h h' [aq 3 t.1 1 az ((DB l).take t.2),ak f 25 [xU ka (kH l).1,xU ka (kH l).2.1,xU ka (kH l).2.2],ak z 25 [xU ka 0,xU ka 0,xU ka 0]]) (λt=>AG l-t.2) (⟨eH,0,0⟩,0) i5 ⟨js,j⟩ ?_;rintro⟨o,i⟩ h8 ⟨P,d⟩;dsimp only at*;have b:=u.up d.ac;refine(sC s l 4 h8 b).x7 ⟨_,i5,(cI _ 4 _).mono ?_⟩;rintro _ h8 ⟨rfl,rfl⟩;refine⟨_,i5,?_⟩;have g:=d.box 1 i5
 try dsimp only
 rw[af (2+sB l 4%4)];have n:2+sB l 4%4=(AG l:Int):=by unfold AG;omega
 rw[n];refine ae (λe=>?_) (λe=>?_)
 .have H:i<AG l:=i6
  rw[af ((5:Int)+i)];have G:(5:Int)+i=((5+i:Nat):Int):=i6
  rw[G];refine(sC s l (5+i) h8 b).x7 ⟨_,i5,(cI _ 50 _).x7 ?_⟩;refine⟨_,i5,?_⟩
  try dsimp only
  rw[af (8+sB l (5+i)%50)];refine d.push ag 0 i5 gz i5 i7 (λ_=>rfl) eZ (8+sB l (5+i)%50) i5 i7 jj λx I m=>?_;refine⟨(x,i+1),j0,⟨i9,?_⟩,i9⟩
  try dsimp only
  rw[aG _ _ (show i<i4 (DB l) by omega)];have L:(DB l)[i]'i6=8+sB l (5+i)%50:=by simp[DB]
  rw[L];exact m
 .have k:i=AG l:=i6
  subst k;rw[qh i6]at d;have q:bQ.ok [(f,(xU ka (kH l).1)),(f.add 1,(xU ka (kH l).2.1)),(f.add 2,(xU ka (kH l).2.2))] h8:=⟨g.cell0 i5,g.cell i5,g.cell i5,A0⟩
  refine⟨kH l,g.aE _ i5,(sC s l 3 h8 b).x7 ?_⟩;refine⟨_,i5,q,(cI _ 7 _).x7 ?_⟩;refine⟨_,i5,q,?_⟩;refine d.storeAll ag 2 i5 i5 [xU ka (kH l).1,xU ka (kH l).2.1,xU ka (kH l).2.2] i5 i5 i5 i5 λK c=>⟨A0,?_⟩
  exact⟨kH l,(c.box 2 i5).aE _ i5,o,i5,c.bO [0]⟩
end
structure Mv where
 kind:Int
 name:ByteArray
 data:aL
 slot:Int
 n:Int
 m:Int
 mask:Int
 keeps:av
 torns:av
def oH:List ByteArray:=[⟨#[97]⟩,⟨#[98]⟩,⟨#[99,97,116,45,55]⟩,⟨#[100]⟩,⟨#[101,49,50,51,52,53,54,55,56,57,48,49]⟩]
def pd(p:Int×Int×Int)(b:Mv):Prop:=
 (b.kind=1/\b.name∈oH/\(i4 b.data:Int)<=3*(p.1*p.2.2)+1)∨((b.kind=2∨b.kind=3∨b.kind=5)/\b.name∈oH)∨b.kind=4∨
 (b.kind=6/\(0<=b.slot/\b.slot<9)/\6<=b.n/\b.n<66)∨(b.kind=7/\0<=b.slot/\b.slot<8)∨(b.kind=8/\(0<=b.slot/\b.slot<8)/\6<=b.n/\b.n<66)∨(b.kind=9/\0<=b.slot/\b.slot<8)∨
 (b.kind=10/\(-1<=b.n/\b.n<=7)/\-1<=b.m/\b.m<=68)∨(b.kind=11/\(0<=b.slot/\b.slot<7)/\(0<=b.n/\b.n<40)/\(0<=b.m/\b.m<61)/\0<=b.mask/\b.mask<4294967296)
def QO(b:Mv):Prop:=b=⟨b.kind,if b.kind=1∨b.kind=2∨b.kind=3∨b.kind=5 then b.name else⟨#[]⟩,if b.kind=1 then b.data else[],if b.kind=6∨b.kind=7∨b.kind=8∨b.kind=9∨b.kind=11 then b.slot else 0,
 if b.kind=6∨b.kind=8∨b.kind=10∨b.kind=11 then b.n else 0,if b.kind=10∨b.kind=11 then b.m else 0,if b.kind=11 then b.mask else 0,[],[]⟩
abbrev ui(s:ByteArray):aW:=[xX s]
abbrev DZ:=Int×ByteArray×Sl×Int×Int×Int×Int×Sl×Sl
abbrev md(x:DZ):aW:=[xU ka x.1,xX x.2.1,x.2.2.1,xU ka x.2.2.2.1,xU ka x.2.2.2.2.1,xU ka x.2.2.2.2.2.1,xU ke x.2.2.2.2.2.2.1,x.2.2.2.2.2.2.2.1,x.2.2.2.2.2.2.2.2]
abbrev mvV(x:DZ):Value:=xZ #[xU ka x.1,xX x.2.1,x.2.2.1,xU ka x.2.2.2.1,xU ka x.2.2.2.2.1,xU ka x.2.2.2.2.2.1,xU ke x.2.2.2.2.2.2.1,x.2.2.2.2.2.2.2.1,x.2.2.2.2.2.2.2.2]
def ki:jm DZ Mv:=⟨λh q a b=>(a.1=b.kind/\a.2.1=b.name/\a.2.2.2.1=b.slot/\a.2.2.2.2.1=b.n/\a.2.2.2.2.2.1=b.m/\a.2.2.2.2.2.2.1=b.mask/\a.2.2.1.len<=a.2.2.1.cap)/\Seq h q a.2.2.1 1 aB b.data/\Seq h q a.2.2.2.2.2.2.2.1 1 az b.keeps/\Seq h q a.2.2.2.2.2.2.2.2 1 az b.torns,
 λa c=>⟨a.1,a.2.1.ac c,a.2.2.1.ac c,a.2.2.2.ac c⟩,λa d=>⟨a.1,a.2.1.mono d,a.2.2.1.mono d,a.2.2.2.mono d⟩⟩
theorem agb:∀x,∀c∈ui x,c.oneCell'=eS:=by intro x c a;simp[ui]at a;subst a;rfl
theorem aip:∀x,∀c∈md x,c.oneCell'=eS:=by intro x c a;simp[md]at a;rcases a with rfl|rfl|rfl|rfl|rfl|rfl|rfl|rfl|rfl<;>rfl
abbrev aiq:bV C.toBX 40 9 1 [xX ⟨#[]⟩] 16:=⟨_,_,i5,i5,i5,i5,i5,i5⟩
abbrev zMv:aW:=[xU ka 0,xX ⟨#[]⟩,xV eH 0 0,xU ka 0,xU ka 0,xU ka 0,xU ke 0,xV eH 0 0,xV eH 0 0]
abbrev eMv:bV C.toBX 32 37 9 zMv 128:=⟨_,_,i5,i5,i5,i5,i5,i5⟩
theorem uO(n:Int)(h:f9):ai kg 37 #[xU ka n] h λv h'=>∃s∈oH,v=xX s/\Sp h h' []:=by refine ts Tryz.func37 ?_;refine(Sp.refl h).lit ag ui aiq i5 oH i5 i7 j6 λf b a=>?_;refine(cI n 5 b).x7 ?_;have c:=yQ n (show(5:Int)≠0 by decide);have d:=wL n (show(0:Int)<5 by decide);have g:i4 oH=5:=rfl;refine⟨_,i5,(a.seq 0 i5 λ_=>rfl).bm (n%5).toNat i6 i6 (oH[(n%5).toNat]'i6) i5 ⟨_,qe _,i5,.zip a.ac⟩⟩
theorem Xb(p:Pm)(k a b:Int)(h:f9)(Z:bB p=eS):ai kg 16 #[ir p,xU ka k,xU ka a,xU ka b] h λv h'=>∃(x:DZ) (m:Mv),v=mvV x/\pd p m/\QO m/\Sp h h' [EA ki x m]:=by
 refine AI p k a b ?_;obtain⟨⟨U,Y⟩,_,L,O⟩:=(bK p).1 Z;have T:1<=p.1*p.2.2/\p.1*p.2.2<=16*24:=⟨yh U L i6 i6,yh Y O i6 i6⟩
 refine(Sp.refl h).boxed λK h1 J=>J.alloc ag i5 λa2 I e=>?_;have fin:∀(kind slot n m c:Int) (name:ByteArray) {h':f9},Sp h h' [ak K 25 [xU ka p.1,xU ka p.2.1,xU ka p.2.2],ak a2 37 zMv]->pd p ⟨kind,name,[],slot,n,m,c,[],[]⟩->QO ⟨kind,name,[],slot,n,m,c,[],[]⟩->
   aj kg (qF 37 (xW (dB a2)) (xZ #[xU ka kind,xX name,xV eH 0 0,xU ka slot,xU ka n,xU ka m,xU ke c,xV eH 0 0,xV eH 0 0])) h' λ_ f=>
    ∃r:DZ,bt f a2 0 (md r)/\∃(x:DZ) (m:Mv),mvV r=mvV x/\pd p m/\QO m/\Sp h f [EA ki x m]:=by
  intro kind slot n m c name h' H' D P;refine H'.storeAll ag 1 i5 i5 (md (kind,name,⟨eH,0,0⟩,slot,n,m,c,⟨eH,0,0⟩,⟨eH,0,0⟩)) i5 i5 i5 i5 λf t=>?_;refine⟨(kind,name,⟨eH,0,0⟩,slot,n,m,c,⟨eH,0,0⟩,⟨eH,0,0⟩),(t.box 1 i5).aE _ i5,_,_,i5,D,P,?_⟩;have R:Sp h f []:=.zip t.ac;exact R.comp (.one (aS.refl _ _) ⟨⟨i5,i5,i5,i5,i5,i5,qi _⟩,Seq.nil _ _ _ _ _ _,Seq.nil _ _ _ _ _ _,Seq.nil _ _ _ _ _ _⟩)
 refine(cI k 26 I).mono ?_;rintro _ h3 ⟨rfl,rfl⟩;have k0:=yQ k (show(26:Int)≠0 by decide);have k1:=wL k (show(0:Int)<26 by decide);have W:∀(x n:Int),0<n->0<=x%n/\x%n<n:=λx n M=>⟨yQ x i6,wL x M⟩
 refine⟨_,i5,ae (λ_=>?_) λ_=>?_⟩
 .refine⟨i7,p.1,(e.box 0 i5).cell0 i5,p.2.2,(e.box 0 i5).cell i5,(uO a h3).mono ?_⟩;rintro _ d ⟨s,j,rfl,i⟩;have w:=e.up i.ac;have X:qd ka ((qd ka ((qd ka ((3:Int)*p.1))*p.2.2))+(2:Int))=3*(p.1*p.2.2)+2:=by rw[af (3*p.1),Int.mul_assoc,af (3*(p.1*p.2.2)),af _]
  refine⟨s,i5,⟨(w.box 0 i5).cell i5,(w.box 0 i5).cell0 i5,A0⟩,?_⟩;rw[X];refine(cI _ (3*(p.1*p.2.2)+2) d i6 i6).mono ?_;rintro _ g ⟨rfl,rfl⟩;obtain⟨q,y⟩:=z6 (qd ka (yp a 5)%(3*(p.1*p.2.2)+2))
  have E:=W (qd ka (yp a 5)) (3*(p.1*p.2.2)+2) i6;rw[<-y]at E⊢;obtain⟨N,S⟩:∃N:Nat,q=N:=⟨q.toNat,i6⟩
  subst S;refine⟨_,i5,⟨(w.box 0 i5).cell i5,(w.box 0 i5).cell0 i5,A0⟩,(Wi N b g i6).mono ?_⟩;rintro _ H ⟨r,l,rfl,hl,G⟩;have B:=w.comp G;have o:=(G.own 0 i5).cap;refine⟨r,i5,⟨(B.box 0 i5).cell i5,(B.box 0 i5).cell0 i5,A0⟩,?_⟩;refine B.storeAll ag 1 i5 i5 (md (1,s,r,0,0,0,0,⟨eH,0,0⟩,⟨eH,0,0⟩)) i5 i5 i5 i5 λh7 F=>?_;refine⟨A0,(1,s,r,0,0,0,0,⟨eH,0,0⟩,⟨eH,0,0⟩),(F.box 1 i5).aE _ i5,_,(⟨1,s,l,0,0,0,0,[],[]⟩:Mv),i5,.inl ⟨i5,j,i9⟩,i5,?_⟩;have V:=F.bO [2];exact V.fN 0 i5 λq y=>⟨⟨i5,i5,i5,i5,i5,i5,o⟩,y.1.seq (λ_=>rfl) y.2,Seq.nil _ _ _ _ _ _,Seq.nil _ _ _ _ _ _⟩
 refine ae (λ_=>(uO a h3).mono ?_) λ_=>ae (λ_=>(uO a h3).mono ?_) λ_=>aY (λ_=>?_) λ_=>aY (λ_=>(uO a h3).mono ?_) λ_=>aY (λ_=>?_) λ_=>aY (λ_=>?_) λ_=>aY (λ_=>?_) λ_=>aY (λ_=>?_) λ_=>ae (λ_=>?_) λ_=>aY (λ_=>?_) λ_=>?_
 .rintro _ d ⟨s,j,rfl,i⟩;exact⟨s,i5,fin 2 0 0 0 0 s (e.up i.ac) (.inr (.inl ⟨.inl i5,j⟩)) i5⟩
 .rintro _ d ⟨s,j,rfl,i⟩;exact⟨s,i5,fin 3 0 0 0 0 s (e.up i.ac) (.inr (.inl ⟨.inr (.inl i5),j⟩)) i5⟩
 .exact fin 4 0 0 0 0 _ e (.inr (.inr (.inl i5))) i5
 .rintro _ d ⟨s,j,rfl,i⟩;exact⟨s,i5,fin 5 0 0 0 0 s (e.up i.ac) (.inr (.inl ⟨.inr (.inr i5),j⟩)) i5⟩
 .refine(cI a 9 h3).mono ?_;rintro _ d ⟨rfl,rfl⟩;refine⟨_,i5,(cI b 60 d).mono ?_⟩;rintro _ g ⟨rfl,rfl⟩;have u:=W a 9 i7;have A:=W b 60 i7;refine⟨_,i5,?_⟩
  try dsimp only
  rw[af (6+b%60)];exact fin 6 _ _ 0 0 _ e (.inr (.inr (.inr (.inl ⟨i5,u,i9,i9⟩)))) i5
 .refine(cI a 8 h3).x7 ⟨_,i5,fin 7 _ 0 0 0 _ e (.inr (.inr (.inr (.inr (.inl ⟨i5,W a 8 i7⟩))))) i5⟩
 .refine(cI a 8 h3).mono ?_;rintro _ d ⟨rfl,rfl⟩;refine⟨_,i5,(cI b 60 d).mono ?_⟩;rintro _ g ⟨rfl,rfl⟩;have u:=W a 8 i7;have A:=W b 60 i7;refine⟨_,i5,?_⟩
  try dsimp only
  rw[af (6+b%60)];exact fin 8 _ _ 0 0 _ e (.inr (.inr (.inr (.inr (.inr (.inl ⟨i5,u,i9,i9⟩)))))) i5
 .refine(cI a 8 h3).x7 ⟨_,i5,fin 9 _ 0 0 0 _ e (.inr (.inr (.inr (.inr (.inr (.inr (.inl ⟨i5,W a 8 i7⟩))))))) i5⟩
 .refine(cI a 3 h3).mono ?_;rintro _ d ⟨rfl,rfl⟩;refine⟨_,i5,(cI b 20 d).mono ?_⟩;rintro _ g ⟨rfl,rfl⟩;have u:=W a 3 i7;have A:=W b 20 i7;exact⟨_,i5,fin 10 0 _ _ 0 _ e (.inr (.inr (.inr (.inr (.inr (.inr (.inr (.inl ⟨i5,i9,i9,i9⟩)))))))) i5⟩
 .refine(cI a 9 h3).mono ?_;rintro _ d ⟨rfl,rfl⟩;refine⟨_,i5,(cI b 70 d).mono ?_⟩;rintro _ g ⟨rfl,rfl⟩;have u:=W a 9 i7;have A:=W b 70 i7;refine⟨_,i5,?_⟩
  try dsimp only
  rw[af (a%9-1),af (b%70-1)];exact fin 10 0 _ _ 0 _ e (.inr (.inr (.inr (.inr (.inr (.inr (.inr (.inl ⟨i5,i9,i9,i9⟩)))))))) i5
 .refine(cI a 7 h3).mono ?_;rintro _ d ⟨rfl,rfl⟩;refine⟨_,i5,i7,(cI _ 40 d).mono ?_⟩;rintro _ g ⟨rfl,rfl⟩;refine⟨_,i5,(cI b 61 g).x7 ?_⟩;have Q:∀z:Int,0<=qd ke z/\qd ke z<4294967296:=λz=>by rw[LX];have:=(BitVec.ofInt 32 z).isLt;omega
  exact⟨_,i5,fin 11 _ _ _ _ _ e (.inr (.inr (.inr (.inr (.inr (.inr (.inr (.inr ⟨i5,W a 7 i7,W _ 40 i7,W b 61 i7,Q _⟩)))))))) i5⟩
theorem aas(p:Pm)(k a b:Int)(h:f9)(c:bB p=eS):ai kg 16 #[ir p,xU ka k,xU ka a,xU ka b] h λv h'=>∃(x:DZ) (m:Mv),v=mvV x/\pd p m/\Sp h h' [EA ki x m]:=
 (Xb p k a b h c).mono λ_ _ ⟨x,m,e,o,_,H⟩=>⟨x,m,e,o,H⟩
theorem Xc(p:Pm)(s:Sl)(l:av)(most:Nat)(h:f9)(P:bB p=eS)(g:Rd h s 1 az l)(S:most<=100):
  ai kg 7 #[ir p,s,xU ka most,xY eX] h λv h'=>∃(r:Sl) (L:List Mv),v=r/\(∀m∈L,pd p m)/\L.length<=most/\Sp h h' [bY 37 r 9 md ki L]:=by
 refine Af p s most eX ?_;have O:=g.len;refine(Sp.refl h).boxed λA W K=>?_;have fin:∀{h':f9} (r:Sl) (L:List Mv),(∀m∈L,pd p m)->i4 L<=most->Sp h h' [ak A 25 [xU ka p.1,xU ka p.2.1,xU ka p.2.2],bY 37 r 9 md ki L]->∃(n:Sl) (L:List Mv),(Value.slice r.ptr r.len r.cap)=xV n.ptr n.len n.cap/\(∀m∈L,pd p m)/\L.length<=most/\Sp h h' [bY 37 n 9 md ki L]:=λr L i M Q=>⟨r,L,i5,i,M,Q.bO [1]⟩
 refine aJ ?_;refine an (λt:Sl×List Mv=>(t.1,((3*i4 t.2:Nat):Int))) (λt h'=>(∀m∈t.2,pd p m)/\t.2.length<=most/\Sp h h' [ak A 25 [xU ka p.1,xU ka p.2.1,xU ka p.2.2],bY 37 t.1 9 md ki t.2]) (λt=>most-i4 t.2) (⟨eH,0,0⟩,[]) i5 ⟨js,js,K.CK 37 9 md ki⟩ ?_;rintro⟨o,L⟩ H ⟨b,z,c⟩;dsimp only at b z c⊢;obtain⟨k,D⟩:=z6 (i4 L)
 rw[<-D]at z⊢;obtain⟨V,U⟩:=c.Vg 1 rfl;refine aJ ?_;rw[af (((3*k:Nat):Int)+2)];refine ae (λY=>?_) λ_=>fin o L b i6 c;refine ae (λX=>?_) λ_=>fin o L b i6 c;have G:3*k+2<i4 l:=i6
 have N:k<most:=i6
 refine aJ (aJ (aP (λe=>j3) λ_=>aP (λe=>j3) λ_=>?_));have d:=g.up c.ac;obtain⟨F,E,i,_,_⟩:=g.elem (3*k) l[3*k] (qc i6);have a:∀{h':f9},Rd h' s 1 az l->cellOf h' ((⟨F,E,eH⟩:f7).add (((3*k:Nat):Int).toNat*1))=dB (xU ka l[3*k]):=λ{h'} hr=>by
  obtain⟨T,y,f,_,u3⟩:=hr.elem (3*k) l[3*k] (qc i6);rw[i]at f;injection f with f
  injection f with f u2
  subst f;subst u2;rw[qj,add_eq];have w:=u3.1;rw[add_eq,yc]at w;exact w
 refine⟨p,(c.box 0 i5).aE _ i5,⟨F,E,eH⟩,⟨i,i6,i6⟩,l[3*k],a d,i7,?_⟩;rw[af (((3*k:Nat):Int)+1)];refine d.bm (3*k+1) i6 i6 l[3*k+1] i5 ?_;refine d.bm (3*k+2) i6 i6 l[3*k+2] i5 ?_;refine(aas p _ _ _ H P).mono ?_;rintro _ h3 ⟨x,m,rfl,q,J⟩;have j:=c.comp J;refine⟨x,i5,⟨a (g.up j.ac),A0⟩,?_⟩;refine j.nS ag md eMv i5 [x] i5 (show 1*9<=2^20 by decide) j6 ⟨a (g.up j.ac),A0⟩ ?_;refine j.pK ag 1 2 i7 i5 i5 eMv i5 i7 (λ_=>rfl) aip j6 i7 i6 λy R B=>?_;refine⟨⟨a (g.up B.ac),A0⟩,(y,L++[m]),?_,⟨λI u=>?_,l5,B.bO [0,1]⟩,l5⟩
 .try dsimp only
  rw[af (((3*k:Nat):Int)+3),qu,<-D];rfl
 .rcases qt.1 u with h|h
  .exact b I h
  .rw[qw.1 h];exact q
theorem pd.put{p:Pm}{b:Mv}(h:pd p b)(a:b.kind=1):b.name∈oH/\(i4 b.data:Int)<=3*(p.1*p.2.2)+1:=by
 unfold pd at h;rw[a]at h;rcases h with h|h|h|h|h|h|h|h|h
 .exact h.2
 .exact absurd h.1 i7
 .exact absurd h i7
 all_goals exact absurd h.1 i7
theorem adl:∀s∈oH,s.size<=12:=j5
theorem agc:∀s∈oH,kW s=eS:=j5
theorem agd{p:Pm}{extra:Int}{l:av}(m:bB p=eS)(e:0<=extra/\extra<=16)(f:1<=i4 l/\l.length<=24)(h:∀x∈l,1<=x/\x<=512):
  sq p extra l=0/\bz l l.length=(qn l.length).map λi:Nat=>(i:Int):=by
 have d:∀i (a:i<i4 l),1<=l.getD i 0/\l.getD i 0<=512:=λi a=>by rw[gh 0 a];exact h _ (qe a)
 have h0:bz l l.length=(qn l.length).map λi:Nat=>(i:Int):=by
  refine wA.2 λy b=>?_
  grind
 have j:(fZ l).2=eS:=by
  have c:l.all (ga · 0 512)=eS:=qS.2 λy b=>(mQ _ _ _).2 ⟨by have:=h y b;omega,(h y b).2⟩;unfold fZ
  grind
 have g:ga extra 0 16=eS:=(mQ _ _ _).2 e;have h3:((bz l l.length).any λi=>decide (l.getD i.toNat 0<(i4 (ba (cV p extra l)))))=eX:=by refine wi.2 λy b=>?_;rw[h0]at b;obtain⟨i,a,rfl⟩:=qo.1 b;have a:=qK.1 a;have k:=Ny p extra l f.2;have:=d i a;rw[qj,decide_eq_true_eq];omega
 unfold sq
 grind
theorem Nd{p:Pm}{extra:Int}{l:av}{D:aD}{m:au}(g:m=cV p extra l)(u:sq p extra l=0)(v:i4 l<=64)(n:i4 D=64)
  (w:∀s,aT D s=if s∈bz l l.length then dB ⟨(l.getD s.toNat 0).toNat,ba m,0,[],eX,eX⟩else eH) (C:Int->aL):eU m C D/\Full m C D/\Low m D:=by
 have a:bh m=eS:=by rw[g];exact Qe v u
 have i:m.drives=bz l l.length:=by rw[g];rfl
 have o:m.aA=[]:=by rw[g];rfl
 have j:∀k d,aT D k=dB d->∀c∈d.l,c∈ba m:=λk d f c j=>j1
 refine⟨⟨a,n,λk d f c h=>vm C a (j k d f c h),λe b=>by rw[o]at b;cases b⟩,⟨λk t=>?_,λe b=>by rw[o]at b;cases b⟩,λk d f c h r q=>?_⟩
 .rw[i]at t;unfold ju
  grind
 .rw[oC (j k d f c h)]at q;cases q
theorem GK{m:au}{i:Nat}{e:Qw.bU}(h:e∈(AF m i).aA):e∈m.aA:=by
 have h:e∈m.aA.take i++m.aA.drop (i+1):=h;rcases qt.1 h with h|h
 .exact zn h
 .exact List.mem_of_mem_drop h
theorem aat(m:au)(i:Nat):(AF m i).aA=m.aA.eraseIdx i:=by show m.aA.take i++m.aA.drop (i+1)=_;rw[List.eraseIdx_eq_take_drop_succ]
theorem adm{m:au}(h:bh m=eS)(l:m.seq<=2147483646)(i:Nat):bh (AF m i)=eS:=by
 obtain⟨b,g,h3,c,d,f,k⟩:=(bG m).1 h;obtain⟨n,a2,a3,a4⟩:=(dl m).1 b;have a:(AF m i).aA.Sublist m.aA:=by rw[aat];exact List.eraseIdx_sublist ..
 refine(bG _).2 ⟨(dl _).2 ⟨⟨?_,?_⟩,a2,a3,a4⟩,g,h3,qM a.length_le c,λe j=>?_,f.sublist a,k.sublist a⟩
 .show 1<=m.seq+1;omega
 .show m.seq+1<=_;omega
 .exact(gb _ _).2 ((gb _ _).1 (d e (GK j)))
structure Inv (m:au) (C:Int->aL) (ds:aD) (N:Nat):Prop where
 sto:eU m C ds
 full:Full m C ds
 low:Low m ds
 nm:∀e∈m.aA,e.name∈oH
 dr:m.drives≠[]
 seq:m.seq<=1+N
 nx:m.next<=N
theorem Inv.put{m:au}{C:Int->aL}{ds:aD}{N:Nat}{name:ByteArray}{b:aL}(I:Inv m C ds N)(c:name∈oH):
  (∃e,e≠0/\dv m 0 Pow.new ds name b=(e,m,Pow.new,ds))∨(cT m eX ds name b.length=0/\∃t ds',cW m.p m.next (splitB m.p b).length=dB t/\dv m 0 Pow.new ds name b=(0,dK m ⟨name,m.next,i4 b,t⟩,Pow.new,ds')/\Inv (dK m ⟨name,m.next,i4 b,t⟩) (jv C m.next b) ds' (N+1)):=by
 rcases Ly (offs:=0) (name:=name) (b:=b) iF I.sto with⟨h,_⟩|⟨hr,t,ds',ht,a,S',hds⟩
 .exact .inl h
 .refine .inr ⟨hr,t,ds',ht,a,S',I.full.put I.sto hr ht S' hds,I.low.put I.sto hr ht hds,λe a=>?_,I.dr,?_,?_⟩
  .rcases kG.1 a with a|rfl
   .exact I.nm e a
   .exact c
  .have:=I.seq;show m.seq+1<=_;omega
  .have:=I.nx;show m.next+1<=_;omega
theorem adn{m:au}{name:ByteArray}(h:m.aA.any (cJ name)=eS):m.aA.findIdx (cJ name)<i4 m.aA/\∀b:m.aA.findIdx (cJ name)<i4 m.aA,(m.aA[m.aA.findIdx (cJ name)]).name=name:=by
 have c:m.aA.findIdx (cJ name)<i4 m.aA:=by obtain⟨e,f,d⟩:=zT.1 h;exact List.findIdx_lt_length_of_exists ⟨e,f,d⟩
 refine⟨c,λb=>?_⟩;have a:cJ name (m.aA[m.aA.findIdx (cJ name)])=eS:=List.findIdx_getElem (w:=b)
 revert a
 generalize m.aA[m.aA.findIdx (cJ name)]=e;intro a;unfold cJ at a;exact nW l7
theorem Inv.get{m:au}{C:Int->aL}{ds:aD}{N:Nat}(I:Inv m C ds N){e:Qw.bU}(a:e∈m.aA):iI m 0 Pow.new ds e.name=(C e.object,0):=by rw[(I.sto.get i5 e.name).1 e a i5,g0 (I.full.can I.sto I.dr a)]
structure ajV (p:Pm) (extra:Int) (c:Nat) (x:Int) (m:au) (D:aD):Prop where
 m_eq:m=cV p extra (qf c x)
 len:i4 D=64
 may:bh m=eS
 dr:m.drives=(qn c).map λi:Nat=>(i:Int)
 at_:∀s,aT D s=if s∈m.drives then dB ⟨x.toNat,ba m,0,[],eX,eX⟩else eH
theorem Tl(s:Sl)(l:List bC)(b:FuncId)(a:Array Value)(g:bC->Bool)(Q:f9->Prop)(w:C.fns[b]?=dB eS)(z:St B h0 As Q)(r:∀x h',Q h'->ai kg b ([recv x]++a.toList).toArray h' λv p=>v=xY (g x)/\Sp h' p [])(H:aa B h0 h (aq 166 s 8 bZ l::As))(F:i4 l<=2^20):
  ai kg 246 #[s,.func (.func b) #[] a] h λv h'=>v=xU ka (if l.findIdx g<i4 l then(l.findIdx g:Int)else-1)/\aa B h0 h' (aq 166 s 8 bZ l::As):=by
 refine ts Tryz.func246 ?_ (xc (x0 [(8,aR)] [(4,6),(8,19)])) (args:=[s,(.func (.func b) #[] a)]);have A:=(H.own 0 i5).len;refine an (λi:Nat=>(i:Int)) (λi h'=>aa B h0 h' (aq 166 s 8 bZ l::As)/\i<=i4 l/\∀j (m:j<i4 l),j<i->g l[j]=eX) (λi=>i4 l-i) 0 i5 ⟨H,i6,λj _ m=>i6⟩ ?_;rintro i y ⟨k,G,c⟩;refine ae (λe=>?_) (λe=>?_)
 .have d:i<i4 l:=i6
  refine(k.seq 0 i5 λ_=>rfl).dO (g:=bZ) i i5 d l[i] i5 ?_;refine eJ w ?_;refine(r l[i] y (z.at [_] k)).x8 λE u=>⟨_,i5,aP (λt=>?_) λt=>?_⟩
  .rw[AC d c t,g0 d];exact⟨i5,k.up u.ac⟩
  .refine⟨i+1,j4,⟨k.up u.ac,i6,λj m q=>?_⟩,i6⟩;rcases qZ.1 q with h3|rfl
   .exact c j m h3
   .exact t
 .have f:¬l.findIdx g<i4 l:=by rw[List.findIdx_lt_length];rintro⟨x,D,o⟩;obtain⟨j,m,rfl⟩:=qA D;rw[c j m i6]at o;cases o
  rw[g9 f];exact⟨i5,k⟩
theorem QP(s:Sl)(l:List bC)(b:FuncId)(a:Array Value)(g:bC->Bool)(Q:f9->Prop)(A:C.fns[b]?=dB eS)(F:St B h0 As Q)(k:∀x h',Q h'->ai kg b ([recv x]++a.toList).toArray h' λv p=>v=xY (g x)/\Sp h' p [])(H:aa B h0 h (aq 166 s 8 bZ l::As))(N:i4 l<=2^20):
  ai kg 189 #[s,.func (.func b) #[] a] h λv h'=>∃r:Sl,v=r/\aa B h0 h' (aq 166 r 8 bZ (l.filter λx=>!g x)::As):=by
 refine ts Tryz.func189 ?_ (xc (xc (xc (x0 [(5,aR),(6,aR)] [(5,8),(16,36)])))) (args:=[s,(.func (.func b) #[] a)]);refine(Tl s l b a g Q A F k H N).x8 λS D=>?_;have K:=(H.own 0 i5).len;have L:=(H.own 0 i5).cap;refine⟨_,i5,aY (λe=>?_) λe=>?_⟩
 .have q:¬l.findIdx g<i4 l:=λo=>by rw[g0 o]at e;omega
  exact⟨s,i5,by rw[filter_all q];exact D⟩
 .have d:l.findIdx g<i4 l:=by
   by_cases o:l.findIdx g<i4 l
   .exact o
   .rw[g9 o]at e;exact absurd i5 e
  rw[g0 d];refine an (λt:Nat×Nat×List bC=>((t.1:Int),(t.2.1:Int))) (λt h'=>lJ g l t.2.2 t.1 t.2.1/\t.2.1<=i4 l/\aa B h0 h' (aq 166 s 8 bZ t.2.2::As)) (λt=>i4 l-t.2.1) (l.findIdx g,l.findIdx g+1,l) j4 ⟨lJ.start d i5,i9,D⟩ ?_;rintro⟨i,j,l'⟩ P ⟨M2,R,w⟩;dsimp only at*;have J:=M2.len;have I:=M2.le;refine ae (λM=>?_) (λM=>?_)
  .have f:j<i4 l:=i6
   refine(w.seq 0 i5 λ_=>rfl).dO (g:=bZ) j i5 i6 l[j] (by rw[M2.at_ f]) ?_;refine w.alloc ag i5 λa5 h3 c=>?_;have c:=c.aZ;refine c.storeAll ag 0 i5 i5 (bZ l[j]) i5 i5 i5 i5 λz m=>?_;refine⟨l[j],(m.box 0 i5).aE _ i5,?_⟩;refine eJ A ?_;refine(k l[j] z (F.at [_,_] m)).x8 λO G=>?_;have E:=m.up G.ac;have c:=E.nT;refine⟨_,i5,aX (λy=>?_) λy=>?_⟩
   .refine⟨l[j],(E.box 0 i5).aE _ i5,?_⟩;refine c.set ag 0 i5 (λ_=>rfl) i5 i i5 i6 l[j] i5 i5 i5 λz m=>?_;exact⟨(i+1,j+1,l'.set i l[j]),by dsimp only;rw[af _,af _];rfl,⟨M2.keep f o6,i9,m⟩,i9⟩
   .exact⟨(i,j+1,l'),j0,⟨M2.skip f o6,i9,c⟩,i9⟩
  .have u:j=i4 l:=i6
   subst u;refine⟨⟨i6,i6⟩,?_⟩;rw[qj];refine w.nk ag 0 i5 ack (λ_=>rfl) i5 i7 i i6 λh3 c=>⟨⟨i6,i6⟩,⟨s.ptr,i,s.cap⟩,i5,?_⟩
   have:=M2.pre;rw[qL]at this;rw[<-this];exact c
def mW(r:cH):Int×Int×Int:=(r.object,r.block,r.id)
def nL(m:au)(ds:aD)(k:Int):List cH:=match aT ds k with|some d=>if d.lost then[]else dJ m d.l|none=>[]
def Cy(m:au)(ds:aD)(l:av):List (Int×Int×Int):=l.flatMap λk=>(nL m ds k).map mW
def Kl(m:au)(ds:aD)(slot:Int)(others:av):List cH:=(nL m ds slot).filter λr=>!decide (mW r∈Cy m ds others)
def tz(others:av)(r:cH):av:=(qn (cX r.object r.block others).length).map λi:Nat=>fu (cX r.object r.block others) (r.id+i)
def me(m:au)(ds:aD)(pages:Nat)(others:av)(g:av)(r:cH):Option Int:=(tz others r).find? λk=>ij m ds k ((pages:Int)+g.getD k.toNat 0+1)
def nM(m:au)(ds:aD)(pages:Nat)(others:av):List cH->av->List (Int×aL)->Option (av×List (Int×aL))
 |[],g,l=>dB (g,l)
 |r::rs,g,l=>match me m ds pages others g r with
  |none=>eH
  |some k=>nM m ds pages others rs (g.set k.toNat (g.getD k.toNat 0+1)) (l++[(k,cD r)])
abbrev Nf(x:Int):Value:=xU ka x
def dH(a:f7)(x y:bw)(oth:Sl)(pages:Int)(g:av)(sl:Sl):aW:=xW (dB a)::(aV x++(aV y++(xV oth.ptr oth.len oth.cap::xU ka pages::(g.map Nf++[xV sl.ptr sl.len sl.cap]))))
theorem LA{a:f7}{x y:bw}{oth:Sl}{pages:Int}{g:av}{sl:Sl}(b:i4 g=64){k:Nat}(c:k<64):(dH a x y oth pages g sl)[19+k]?=dB (Nf (g.getD k 0)):=by
 unfold dH;have e:∀(l:aW),(xW (dB a)::(aV x++(aV y++(xV oth.ptr oth.len oth.cap::xU ka pages::l))):aW)[19+k]?=l[k]?:=λl=>by
  rw[show 19+k=k+19 by omega];rfl
 rw[e,qq (by simp[b];omega),qR,qc i6,gh 0];rfl
theorem GL{a:f7}{x y:bw}{oth:Sl}{pages:Int}{g:av}{sl:Sl}(b:i4 g=64):(dH a x y oth pages g sl)[83]?=dB (xV sl.ptr sl.len sl.cap):=by unfold dH;have e:∀(l:aW),(xW (dB a)::(aV x++(aV y++(xV oth.ptr oth.len oth.cap::xU ka pages::l))):aW)[83]?=l[64]?:=λl=>rfl;rw[e,qk qb];simp[b]
theorem Xd{a:f7}{x y:bw}{oth:Sl}{pages:Int}{g:av}{sl:Sl}(b:i4 g=64){k:Nat}(c:k<64)(v:Int):(dH a x y oth pages g sl).set (19+k) (Nf v)=dH a x y oth pages (g.set k v) sl:=by
 unfold dH;have e:∀(l:aW),(xW (dB a)::(aV x++(aV y++(xV oth.ptr oth.len oth.cap::xU ka pages::l))):aW).set (19+k) (Nf v)=xW (dB a)::(aV x++(aV y++(xV oth.ptr oth.len oth.cap::xU ka pages::(l.set k (Nf v))))):=λl=>by
  rw[show 19+k=k+19 by omega];rfl
 rw[e,vy _ _ (by simp[b];omega),List.map_set]
theorem Xe{a:f7}{x y:bw}{oth:Sl}{pages:Int}{g:av}{sl:Sl}(c:i4 g=64)(b:Sl):(dH a x y oth pages g sl).set 83 (xV b.ptr b.len b.cap)=dH a x y oth pages g b:=by unfold dH;have e:∀(l:aW),(xW (dB a)::(aV x++(aV y++(xV oth.ptr oth.len oth.cap::xU ka pages::l))):aW).set 83 (xV b.ptr b.len b.cap)=xW (dB a)::(aV x++(aV y++(xV oth.ptr oth.len oth.cap::xU ka pages::(l.set 64 (xV b.ptr b.len b.cap))))):=λl=>rfl;rw[e,qN _ _ p0];simp[c]
theorem pB{a:f7}{x y:bw}{oth:Sl}{pages:Int}{g:av}{sl:Sl}(b:i4 g=64):i4 (dH a x y oth pages g sl)=84:=by simp[dH,b]
variable {v:f7}
section
variable {pw:f7} {w:Pow}
theorem QQ(y:bC)(h:f9):ai kg 188 #[recv y] h λv h'=>v=ou (y.1,y.2.1,y.2.2.1)/\Sp h h' []:=by refine ts Tryz.func188 ?_ (args:=[y]);refine(Sp.refl h).boxed λg e d=>d.alloc ag i5 λa2 f c=>?_;have a:=c.box 0 i5;refine⟨y.1,a.cell0 i5,y.2.1,a.cell i5,y.2.2.1,a.cell i5,?_⟩;refine c.storeAll ag 1 i5 i5 [xU ka y.1,xU ka y.2.1,xU ka y.2.2.1] i5 i5 i5 i5 λh3 b=>?_;exact⟨(y.1,y.2.1,y.2.2.1),(b.box 1 i5).aE _ i5,i5,.zip b.ac⟩
theorem Km{xm yn:bw}{m:au}{oth sl:Sl}{pages:Nat}{g:av}(slot c:Int)(A:0<=slot/\slot<64)(o:i4 g=64)(G:pages<=2^30)(F:∀x∈g,0<=x/\x<=2^30)(J:0<=c/\c<=2^30)(O:cN h xm m)(K:cw m)
  (f:bN h v 109 (dH a xm yn oth pages g sl)) (H:aa B h0 h (bc bi a pw mc offs da w ds::As)):
  ai kg 117 #[xW (dB v),xU ka slot,xU ka c] h λv h'=>v=xY (ij m ds slot ((pages:Int)+g.getD slot.toNat 0+c))/\Sp h h' []:=by
 refine ts Tryz.func117 ?_ v6 [(1,(.l [0,1,2,3,4,6,7,8,9,10,11,12,13,14,15,16,17,18,19,20,21,22,5,23,24]))];have L:slot.toNat<64:=i6
 have q:=LA (a:=a) (x:=xm) (y:=yn) (oth:=oth) (pages:=pages) (sl:=sl) o L;have N:0<=g.getD slot.toNat 0/\g.getD slot.toNat 0<=2^30:=by rw[gh 0];exact F _ (qe _)
 have r:cellOf h ((v.add 19).add (slot.toNat*1))=dB (Nf (g.getD slot.toNat 0)):=by rw[addr_add,zG];exact f.cell q
 have e:∀j,j<8->cellOf h ((v.add 1).add j)=(aV xm)[j]?:=λj t=>by
  rw[addr_add];have:(aV xm)[j]?=dB ((aV xm)[j]'(by simpa using t)):=qc _;rw[this];refine f.cell ?_;rw[xE,<-this];unfold dH;rw[qO,qq sz]
 refine⟨v,i5,dB a,f.cell0 i5,v,i5,xm,f.cells 1 _ i5,v,i5,pages,f.cell i5,v,i5,⟨A.1,A.2⟩,g.getD slot.toNat 0,r,?_⟩;have P:qd ka (qd ka ((pages:Int)+g.getD slot.toNat 0)+c)=(pages:Int)+g.getD slot.toNat 0+c:=by rw[af ((pages:Int)+g.getD slot.toNat 0),af _]
 try dsimp only
 rw[P];obtain⟨ok,p⟩:=aa.cj H;refine(lC slot ok p).mono ?_;rintro _ z ⟨rfl,rfl⟩;have held:∀{h':f9},Sp z h' []->bQ.ok [((v.add 19).add (slot.toNat*1),Nf (g.getD slot.toNat 0)),(v.add 18,xU ka pages)] h':=λ{h'} R=>jo R.ac ⟨r,f.cell i5,A0⟩;refine⟨_,i5,⟨r,f.cell i5,e 0 i6,e 1 i6,e 2 i6,e 3 i6,e 4 i6,e 5 i6,e 6 i6,e 7 i6,A0⟩,?_⟩;cases hd:aT ds slot with
 |none=>
  rw[ZC hd H];refine(Fp xm _ z).x8 λE i=>⟨_,i5,held i,by unfold ij;rw[hd],i⟩
 |some d=>
  obtain⟨b,s,M,k,D,u,I⟩:=nI hd H;rw[k];refine(Bi s M xm m _ D u u.len I O K).x8 λE i=>⟨_,i5,held i,by unfold ij;rw[hd],i⟩
theorem ID{o b k:Int}{l:av}(h:k∈cX o b l):k∈l/\0<=k/\k<64:=by
 unfold cX at h;split at h
 .exact(Bn _ _ _).1 h
 .cases h
theorem Us{o:av}(a:o≠[]){i:Int}(b:0<=i:=by omega):fu o i∈o:=by
 have:=Zr a i.toNat
 rwa [show((i.toNat:Nat):Int)=i by omega]at this
theorem QR{others:av}{r:cH}{k:Int}(b:0<=r.id)(h:k∈tz others r):k∈others/\0<=k/\k<64:=by unfold tz at h;obtain⟨i,a,rfl⟩:=qo.1 h;have a:=qK.1 a;exact ID (Us λh0=>by rw[h0]at a;exact xz _ a)
theorem aau{l:av}(h:l.Nodup):(gC l).Pairwise (·<·):=by have f:(gC l).Perm l:=we _ _;have g:(gC l).Pairwise (λa b=>decide (a<=b)=eS):=wF (λa b c d e=>by simp at*;omega) (λa b=>jj) l;have i:(gC l).Pairwise (λa b=>a≠b):=f.nodup_iff.2 h;exact(g.and i).imp λh=>by have d:=i0 h.1;have e:=h.2;omega
theorem aav{l:av}(h:l.Nodup)(c:∀k∈l,0<=k/\k<64):i4 l<=64:=by have d:(gC l).Perm l:=we _ _;have:=HU (a:=0) (b:=64) (aau h) (λk e=>c k (d.mem_iff.1 e)) i7;rw[d.length_eq]at this;omega
theorem Tm(o b:Int)(l:av):i4 (cX o b l)<=64:=by
 refine aav ?_ λk a=>(ID a).2;unfold cX;split
 .exact Qc _ _
 .exact List.nodup_nil
theorem Kn{α:Type}{p:α->Bool}:∀{l:List α} {i:Nat} (a:i<i4 l),(∀j (b:j<i),p (l[j]'i6)=eX)->p l[i]=eS->l.find? p=dB l[i]
 |[],i,a,_,_=>absurd a js
 |x::l,0,_,_,h=>List.find?_cons_of_pos h
 |x::l,i+1,a,hno,h=>by
  have h0:p x=eX:=hno 0 i6;rw[List.find?_cons_of_neg (by simp[h0])];exact Kn (l:=l) (i:=i) l7 (λj b=>hno (j+1) i6) h
theorem Xf{xm yn:bw}{m:au}{oth sl:Sl}{pages:Nat}{g others:av}{l:List (Int×aL)}(y:bC)(r:cH)(hr:0<=r.id/\r.id<=65535)(d:g.length=64)(Z:pages<=2^30)(hg:∀x∈g,0<=x/\x<=2^20)(hl:l.length<=2^20)(a0:others.length<=64)
  (V:St B h0 As λh=>cN h xm m/\Rd h oth 1 az others/\eF fx h y r) (T:cw m)
  (H:aa B h0 h (bc bi a pw mc offs da w ds::ak v 109 (dH a xm yn oth pages g sl)::bY 153 sl 2 piv iC l::As)):
  ai kg 120 #[xW (dB v),recv y] h λu h'=>(me m ds pages others g r=eH->u=xY eX/\aa B h0 h' (bc bi a pw mc offs da w ds::ak v 109 (dH a xm yn oth pages g sl)::bY 153 sl 2 piv iC l::As))/\
   (∀k,me m ds pages others g r=dB k->u=xY eS/\∃S,aa B h0 h' (bc bi a pw mc offs da w ds::ak v 109 (dH a xm yn oth pages (g.set k.toNat (g.getD k.toNat 0+1)) S)::bY 153 S 2 piv iC (l++[(k,cD r)])::As)):=by
 refine ts Tryz.func120 ?_ (xc (xc (x0 [(19,aR)] [(4,5),(6,8),(19,55)]))) (args:=[(dB v),y]);refine H.boxed λa1 h1 J=>?_;have J:=J.aZ;obtain⟨_,W,ah⟩:=V.at [_,_,_,_] J;obtain⟨e1,e2,e3,e4,e5,e6,e7⟩:=ah.1;have Q:=J.box 0 i5;have ao:=J.box 2 i5;refine⟨y.1,Q.cell0 i5,y.2.1,Q.cell i5,v,i5,oth,ao.cell i5,?_⟩;rw[e1,e2];refine(BJ r.object r.block oth others h1 W).y0 λs h2 R2=>?_;obtain⟨order,c⟩:=z6 (cX r.object r.block others)
 rw[<-c]at R2;have H2:=J.bS R2;have R:∀k∈order,k∈others/\0<=k/\k<64:=λk q=>by rw[c]at q;exact ID q
 have ar:order.length<=64:=by rw[c];exact Tm _ _ _
 have a3:(tz others r).length=order.length:=by unfold tz;rw[qp,zq,c]
 have o:∀j (A:j<(tz others r).length),(tz others r)[j]=fu order (r.id+(j:Int)):=λj A=>by simp[tz,c]
 refine⟨s,i5,A0,?_⟩;refine an (λi:Nat=>(i:Int)) (λi h'=>i<=order.length/\(∀j,j<i->ij m ds (fu order (r.id+(j:Int))) ((pages:Int)+g.getD (fu order (r.id+(j:Int))).toNat 0+1)=eX)/\aa B h0 h' (aq 3 s 1 az order::ak a1 166 (bZ y)::bc bi a pw mc offs da w ds::ak v 109 (dH a xm yn oth pages g sl)::bY 153 sl 2 piv iC l::As)) (λi=>order.length-i) 0 i5 ⟨i6,λj A=>i6,H2⟩ ?_;rintro i h3 ⟨hi,t,M⟩
 try dsimp only
 have am:=(M.own 0 i5).len;refine ae (λe=>?_) λe=>?_
 .have P:i<order.length:=i6
  refine⟨y.2.2.1,(M.box 1 i5).cell i5,?_⟩
  try dsimp only
  rw[e3,af (r.id+(i:Int))];refine(Lm s order (r.id+i) h3 (M.seq 0 i5 λ_=>rfl)).x7 ?_;obtain⟨k,q⟩:=z6 (fu order (r.id+(i:Int)))
  have al:k∈order:=by rw[q];exact Us (λh0=>by rw[h0]at P;exact xz _ P)
  obtain⟨ax,G,F⟩:=R k al;rw[<-q];have U:=M.aI 5 [2,3,4,0,1];obtain⟨ap,_,_⟩:=V.at [_,_,_,_,_] U;refine⟨k,i5,(Km k 1 ⟨G,F⟩ d Z (λx X=>by have:=hg x X;omega) i6 ap T (U.box 1 i5) U).x8 λh5 R5=>?_⟩;have H5:=U.up R5.ac;refine⟨_,i5,aP (λe8=>?_) λe8=>?_⟩
  .have p:me m ds pages others g r=dB k:=by unfold me;rw[Kn (i:=i) i6 (λj A=>by rw[o];exact t j A) (by rw[o,<-q];exact e8),o,<-q]
   have L:k.toNat<64:=i6
   have Y:=LA (a:=a) (x:=xm) (y:=yn) (oth:=oth) (pages:=pages) (sl:=sl) d L;have ay:0<=g.getD k.toNat 0/\g.getD k.toNat 0<=2^20:=by rw[gh 0];exact hg _ (qe _)
   refine⟨v,i5,⟨G,F⟩,g.getD k.toNat 0,by rw[addr_add,zG];exact(H5.box 1 i5).cell Y,v,i5,⟨G,F⟩,?_⟩;rw[addr_add,zG,af (g.getD k.toNat 0+1)];refine H5.storeAt ag 1 i5 i5 i5 i5 i5 (by rw[pB d];omega) λh6 K=>?_;rw[Xd d L]at K;obtain⟨g',E⟩:∃g',g'=g.set k.toNat (g.getD k.toNat 0+1):=⟨_,rfl⟩
   have b:g'.length=64:=by rw[E,zf];exact d
   rw[<-E]at K;obtain⟨_,_,ab⟩:=V.at [_,_,_,_,_] K;have ad:=K.box 1 i5;refine⟨A0,v,i5,sl,ad.cell (GL b),y,(K.box 4 i5).aE _ i5,(oE y r h6 ab).y0 λu h7 R7=>?_⟩;have H7:=(K.bS R7).fN 0 i5 (D:=EA iC (k,u) (k,cD r)) λz T=>⟨i5,T.1.seq (λ_=>rfl) T.2⟩
   have O:=H7.box 2 i5;refine⟨u,i5,⟨O.cell (GL b),A0⟩,?_⟩;refine H7.nS ag piv Fe i5 [(k,u)] i5 (show 1*2<=2^20 by decide) i5 ⟨O.cell (GL b),A0⟩ ?_;refine aa.pK ag H7 3 0 i7 (a:=(k,u)) i5 i5 Fe i5 i7 (λ_=>rfl) GC (parts:=#[(0,xZ #[xU ka k,u])]) j6 i7 i6 λo3 h9 H9=>⟨A0,v,i5,?_⟩
   refine H9.storeAt ag 2 i5 i5 i5 i5 i5 (by rw[pB b];omega) λa2 N=>?_;rw[Xe b]at N;refine⟨A0,λf=>by rw[p]at f;(cases f),λk' f=>?_⟩;rw[p]at f;injection f with f
   subst f;rw[<-E];exact⟨i5,o3,N.aI 6 [1,2,3]⟩
  .refine⟨i+1,j4,⟨i6,λj A=>?_,H5.aI 5 [3,4,0,1,2]⟩,i6⟩;rcases qZ.1 A with h|rfl
   .exact t j h
   .rw[<-q];exact e8
 .have I:me m ds pages others g r=eH:=by unfold me;refine w4.2 λx X=>?_;obtain⟨j,A,rfl⟩:=qA X;rw[o,t j i6];decide
  refine⟨λ_=>⟨i5,M.aI 5 [2,3,4]⟩,λk f=>by rw[I]at f;cases f⟩
end
theorem air:tZ kg 245 3:=
 ⟨⟨⟨"object",3,0,eX, "", "wellspring/fleet",0⟩,⟨"block",3,1,eX, "", "wellspring/fleet",8⟩,⟨"id",3,2,eX, "", "wellspring/fleet",16⟩,j6,i7,i7,i7,i5,i5,i5,i5,i5,i5⟩,j6,j6,λw=>Tryz.isAgg3 w⟩
theorem ais:Tryz.prog.underlying 243=dB (.map 245 4):=j6
theorem ajf:aH kg (zeroValue 4) (xY eX):=λw=>Tryz.zeroValue4 w
theorem Ko(x:bw)(h:f9):ai kg 107 #[xW eH,eO x] h λv h'=>∃r:Sl,v=r/\Sp h h' [cx r []]:=by
 refine ts Tryz.func107 ?_ (xc (.scope 0 [(6,cE),(7,aR)] [(4,5),(6,10),(12,40)] [v6,v6,v6] [(.two v6 (.two v6 (.two (.join [(6,cE)] [(6,7),(8,10),(18,36)] v6) v6)))] [(1,[v6])])) (args:=[(eH:bL),x]);refine(Sp.refl h).boxed λm g c=>?_;refine(rL eH (R:=λv h'=>v=xV eH 0 0/\h'=g) ?_).mono ?_
 .skip
  exact aP (λ_=>⟨i5,i5⟩) λe=>j3
 rintro _ l ⟨rfl,rfl⟩;refine⟨⟨eH,0,0⟩,i5,?_⟩;have f:=(c.nil 166 8 bZ).bO [1];refine an (λ_:Unit=>((⟨eH,0,0⟩:Sl),(-1:Int))) (λ_ h'=>Sp h h' [cx ⟨eH,0,0⟩ []]) (λ_=>0) () i5 f ?_;rintro _ h3 d
 try dsimp only
 rw[show qd ka ((-1:Int)+1)=0 from rfl];refine ae (λe=>?_) λe=>absurd (show(0:Int)>=((0:Nat):Int)by decide) e;refine(Be [] js d).x8 λk i=>⟨(),i5,(Ak _ js i).y0 λb j a=>?_⟩;refine⟨b,i5,b,i5,?_⟩;have:PH (([]:List bC).mergeSort cA)=[]:=by simp[PH,kM]
 rw[this]at a;exact a
section
variable {pw:f7} {w:Pow}
theorem DC{m:au}{d:be}(ok:iB d):i4 (dJ m d.l)<=512:=by have:=nC m d.l;have:=ok.len;have:=ok.room;omega
theorem Xg{xm yn:bw}{m:au}{oth sl:Sl}{pages:Int}{g others:av}(o:bL)(rs:List cH)(ho:(o=eH/\rs=[])∨∃k d b,o=dB b/\gc da k=dB b/\aT ds k=dB d/\rs=dJ m d.l)
  (S:∀k∈others,∃d,aT ds k=dB d/\d.lost=eX) (bs:i4 others<=64) (hS:St B h0 As λh=>cN h xm m/\Rd h oth 1 az others) (hz:cw m)
  (H:aa B h0 h (bc bi a pw mc offs da w ds::ak v 109 (dH a xm yn oth pages g sl)::As)):
  ai kg 119 #[xW (dB v),.pointer o] h λu h'=>∃(r:Sl) (T:List (bC×cH)),u=xV r.ptr r.len r.cap/\T.map zw=(rs.filter λr=>!decide (mW r∈Cy m ds others))/\Sp h h' [cx r (T.map qD),jX T]:=by
 refine ts Tryz.func119 ?_ (xc (xc (u9 (xc (v7 (ws [(16,aR)] [(7,8),(9,10),(16,41)] (xc (xc (u9 (v7 (xc (x6 [(30,cE),(31,aR),(32,aR)] [(20,33)] (v7 (ws [(32,aR)] [(9,10),(32,40)] v6))))) v6)))))) v6))) [(5,(.l [0,1,2,3,4,6,7,8,9,12,5,10,11]))];refine Pw λq h1 hq hs hp=>?_;have R1:Sp h h1 [Ib q []]:=.one (any hp) ⟨hs,i6,hs.lt⟩;refine R1.alloc ag i5 λa2 h2 R2=>?_;refine R2.storeAll ag 1 i5 i5 [.map (dB q)] i5 i5 i5 i5 λh3 R3=>?_;have H3:=H.up R3.ac;have ax:=H3.box 1 i5;have N:∀{h':f9},bN h' v 109 (dH a xm yn oth pages g sl)->∀j,j<8->cellOf h' ((v.add 1).add j)=(aV xm)[j]?:=λ{h'} V j hj=>by
  rw[addr_add];have:(aV xm)[j]?=dB ((aV xm)[j]'(by simpa using hj)):=qc _;rw[this];refine V.cell ?_;rw[xE,<-this];unfold dH;rw[qO,qq (by simpa using hj)]
 refine⟨v,i5,oth,ax.cell i5,?_⟩;have bk:=(hS.at [_,_] H3).2.len;refine an (λt:Nat×List (Int×Int×Int)=>(t.1:Int)) (λt h'=>t.1<=i4 others/\(∀x,x∈t.2↔x∈Cy m ds (others.take t.1))/\Sp h h' [Ib q t.2,ak a2 243 [.map (dB q)]]) (λt=>i4 others-t.1) (0,[]) i5 ⟨zj _,λx=>by simp[Cy],R3⟩ ?_;rintro⟨i,K⟩ h4 ⟨hi,L,R4⟩;dsimp only at hi L⊢;have H4:=H.up R4.ac;have f:=H4.box 1 i5;obtain⟨ao,a8⟩:=hS.at [_,_] H4;refine ae (λe=>?_) λe=>?_
 .have U:i<i4 others:=i6
  refine a8.bm i i5 U others[i] i5 ?_;obtain⟨d,hd,a0⟩:=S others[i] (qe U);obtain⟨b,s,bl,V,q1,q2,X⟩:=nI hd H4;refine aJ ⟨v,i5,dB a,f.cell0 i5,v,i5,xm,f.cells 1 _ i5,(rD H4).mono ?_⟩;rintro _ h5 ⟨rfl,rfl⟩;rw[V];refine⟨_,i5,⟨N f 0 i6,N f 1 i6,N f 2 i6,N f 3 i6,N f 4 i6,N f 5 i6,N f 6 i6,N f 7 i6,A0⟩,?_⟩;refine(rq b pw d s bl xm m h5 q1 q2 X ao hz).mono ?_;rintro _ h6 ⟨M,ys,rfl,F⟩;refine⟨M,i5,A0,?_⟩
  try dsimp only
  have Y:nL m ds others[i]=dJ m d.l:=by unfold nL;rw[hd];(try dsimp only);rw[g9 (by simp[a0])]
  have a4:=DC (m:=m) X;obtain⟨E,ab⟩:=z6 (dJ m d.l)
  rw[<-ab]at F Y a4;have F:=R4.comp F;have F6:=F.dZ 2 i5;have br:=F6.1.len;have b0:=F6.2.1;refine an (λt:Nat×List (Int×Int×Int)=>(t.1:Int)) (λt h'=>t.1<=i4 E/\(∀x,x∈t.2↔x∈Cy m ds (others.take i)∨x∈(E.take t.1).map mW)/\Sp h h' [Ib q t.2,ak a2 243 [.map (dB q)],dn fx 8 bZ M ys E]) (λt=>i4 E-t.1) (0,K) i5 ⟨zj _,λx=>by rw[L];simp,F⟩ ?_;rintro⟨j,c⟩ h7 ⟨hj,I,R7⟩;dsimp only at hj I⊢;have F7:=R7.dZ 2 i5;refine ae (λe2=>?_) λe2=>?_
  .have W:j<i4 E:=i6
   obtain⟨z,Q⟩:=Fix.row F7 W;obtain⟨y,hy⟩:=z6 (ys[j]'i6)
   rw[<-hy]at z Q;refine F7.1.dO (g:=bZ) j i5 i6 y (by rw[hy]) ?_;refine R7.alloc ag i5 λa3 h8 R8=>?_;refine R8.storeAll ag 3 i5 i5 (bZ y) i5 i5 i5 i5 λh9 R9=>?_;refine⟨dB q,(R9.box 1 i5).cell0 i5,y,(R9.box 3 i5).aE _ i5,(QQ y h9).x8 λa7 G=>?_⟩;have G:=R9.up G.ac;refine⟨(y.1,y.2.1,y.2.2.1),i5,⟨(G.box 1 i5).cell0 i5,A0⟩,?_⟩;have ad:rh a7 q c:=(G.at 0 i5).1;refine ad.update ais air λbd O am al=>?_;have Z:(y.1,y.2.1,y.2.2.1)=mW E[j]:=by unfold mW;rw[z.1,z.2.1,z.2.2.1]
   rw[Z]at O;have a6:Sp h bd [Ib q (if mW E[j]∈c then c else c++[mW E[j]]),ak a2 243 [.map (dB q)],dn fx 8 bZ M ys E,ak a3 166 (bZ y)]:=
    G.step 0 i5 (D:=Ib q (if mW E[j]∈c then c else c++[mW E[j]])) λq0 J a9=>⟨am.mono λb _ V a5=>V (by rw[a5];exact J.2),O,⟨by rw[al];exact a9 _ J.2,.inl J.2⟩⟩
   refine⟨A0,(j+1,if mW E[j]∈c then c else c++[mW E[j]]),j0,⟨i9,λx=>?_,a6.bO [0,1,2]⟩,i9⟩
   try dsimp only
   rw[aG _ _ W,qP,qt,zS,vA,qw,<-or_assoc,<-I];by_cases hm:mW E[j]∈c
   .rw[g0 hm];exact⟨λh=>.inl h,λh=>by rcases h with h|rfl;exact h;exact hm⟩
   .rw[g9 hm,qt,qw]
  .refine⟨(i+1,c),j0,⟨i9,λx=>?_,R7.bO [0,1]⟩,i9⟩
   try dsimp only
   have bq:¬(j:Int)<(M.len:Int):=e2;have bb:E.take j=E:=qh i6;rw[I,bb,aG _ _ U];unfold Cy;rw[zb,qt,zg,wg,qI,Y]
 .have ar:i=i4 others:=i6
  subst ar;rw[qL]at L;refine⟨v,i5,xm,f.cells 1 _ i5,?_⟩;have ap:ai kg 107 #[.pointer o,eO xm] h4 λu h'=>∃(r:Sl) (T:List (bC×cH)),u=xV r.ptr r.len r.cap/\T.map zw=rs/\T.length<=512/\Keyed T/\Sp h4 h' [cx r (T.map qD),jX T]:=by
   rcases ho with⟨rfl,rfl⟩|⟨k,d,b,rfl,V,hd,rfl⟩
   .refine(Ko xm h4).mono ?_;rintro _ h' ⟨r,rfl,R⟩;exact⟨r,[],i5,i5,js,(λt P=>by cases P),R.comp (.one (A:=jX []) (aS.refl _ _) λt P=>(by cases P))⟩
   .obtain⟨b',s,bl,p,q1,q2,X⟩:=nI hd H4;rw[V]at p;injection p with p
    subst p;refine(DT b pw d s bl xm m h4 q1 q2 X ao hz).mono ?_;rintro _ h' ⟨r,T,rfl,hT,hk,R⟩;exact⟨r,T,i5,hT,by have:=DC (m:=m) X;rw[<-hT,qp]at this;exact this,hk,R⟩
  refine ap.mono ?_;rintro _ h5 ⟨r,T,rfl,hT,b1,hK,R5⟩;have H5:=(R4.comp R5).bO [2,3,0,1];refine⟨r,i5,(QP r (T.map qD) 190 #[xW (dB a2)] (λy=>decide ((y.1,y.2.1,y.2.2.1)∈K)) (λh'=>rh h' q K/\bN h' a2 243 [.map (dB q)]) k8 (As:=[jX T,Ib q K,ak a2 243 [.map (dB q)]])
   ((St.cR (A:=Ib q K) 1 i5 λh' hq=>hq.1).and (St.cR (A:=ak a2 243 [.map (dB q)]) 2 i5 λh' hq=>hq.1)) ?_ H5 nq).mono ?_⟩
  .rintro y h' ⟨ah,p⟩;refine ts Tryz.func190 ?_ (args:=[y,a2]);refine(Sp.refl h').boxed λa1 h6 F=>?_;have ay:=p.ac F.ac p.lt;refine⟨dB q,ay.cell0 i5,y,(F.box 0 i5).aE _ i5,(QQ y h6).x8 λh7 R7=>?_⟩;have P7:=(F.up R7.ac).ac;refine⟨(y.1,y.2.1,y.2.2.1),i5,⟨(p.ac P7 p.lt).cell0 i5,A0⟩,?_⟩;refine(ah.ac P7 ah.lt).lookup ais air ajf ?_;exact⟨A0,i5,.zip P7⟩
  .rintro _ h6 ⟨r',rfl,F⟩;refine⟨r',i5,r',T.filter λt=>!decide (mW t.2∈K),i5,?_,?_⟩
   .rw[<-hT,List.filter_map];congr 1;refine vl λt P=>?_;simp only[Function.comp_apply,L]
   .have e:(T.map qD).filter (λy=>!decide ((y.1,y.2.1,y.2.2.1)∈K))=(T.filter λt=>!decide (mW t.2∈K)).map qD:=by
     rw[List.filter_map];congr 1;refine vl λt P=>?_;obtain⟨k1,k2,k3⟩:=hK t P;have ek:(t.1.1,t.1.2.1,t.1.2.2.1)=mW t.2:=by unfold mW;rw[k1,k2,k3]
     show(!decide ((t.1.1,t.1.2.1,t.1.2.2.1)∈K))=_;rw[ek]
    rw[e]at F;exact(F.fN 1 i5 (D:=jX (T.filter λt=>!decide (mW t.2∈K))) λq0 J t P=>J t (qB.1 P).1).bO [0,1]
end
def rH(m:au)(ds:aD)(pages:Nat)(others:av)(slot:Int):Option (av×List (Int×aL)):=
 if others.any λk=>!ij m ds k (pages:Int)then eH else nM m ds pages others (Kl m ds slot others) (qf 64 0) []
theorem To(m:au)(ds:aD)(pages:Nat)(others:av)(r:cH)(rs:List cH)(g:av)(l:List (Int×aL)):nM m ds pages others (r::rs) g l=match me m ds pages others g r with
  |none=>eH
  |some k=>nM m ds pages others rs (g.set k.toNat (g.getD k.toNat 0+1)) (l++[(k,cD r)]):=rfl
section
variable {pw:f7} {w:Pow}
theorem QS(h:f9):ai kg 118 #[xW eH] h λv h'=>v=xY eX/\h'=h:=by refine ts Tryz.func118 ?_;exact aP (λe=>j3) λ_=>⟨i5,i5⟩
theorem Xh{xm yn:bw}{m:au}{oth:Sl}{pages:Nat}{others:av}(slot:Int)(ab:pages<=2^30)(a0:∀k∈others,0<=k/\k<64)(N:∀k∈others,∃d,aT ds k=dB d/\d.lost=eX)(ah:i4 others<=64)
  (hS:St B h0 As λh=>cN h xm m/\Rd h oth 1 az others) (hz:cw m)
  (H:aa B h0 h (bc bi a pw mc offs da w ds::ak v 109 (dH a xm yn oth pages (qf 64 0) ⟨eH,0,0⟩)::As)):
  ai kg 58 #[xW (dB v),xU ka slot] h λu h'=>(rH m ds pages others slot=eH->u=xY eX/\∃mv,aa B h0 h' (bc bi a pw mc offs da w ds::ak v 109 mv::As))/\
   (∀z,rH m ds pages others slot=dB z->u=xY eS/\∃F,aa B h0 h' (bc bi a pw mc offs da w ds::ak v 109 (dH a xm yn oth pages z.1 F)::bY 153 F 2 piv iC z.2::As)/\z.1.length=64/\(∀x∈z.1,0<=x/\x<=512)/\z.2.length<=512/\∀y∈z.2,y.1∈others/\y.2.length<=64):=by
 refine ts Tryz.func58 ?_ (xc (xc (xc (x6 [(5,Mw)] [(5,6),(20,22)] (x0 [(26,aR)] [(4,5),(7,8),(26,35)])))));refine H.boxed λS V O=>?_;have O:=O.aZ;have a3:=O.box 0 i5;have a2:=O.box 2 i5;obtain⟨a7,am⟩:=hS.at [_,_,_] O;refine⟨dB v,a3.cell0 i5,v,i5,oth,a2.cell i5,?_⟩;have a4:∀k:Int,(qf 64 (0:Int)).getD k.toNat 0=0:=λk=>by
  rw[qg,List.getElem?_replicate];split<;>rfl
 refine(Fs 116 #[] #[xW (dB S)] (λk=>!ij m ds k (pages:Int)) oth others V k8 am i6 λk hk h' R'=>?_).mono ?_
 .refine ts Tryz.func116 ?_ (args:=[(k:Int),S]);have R:=O.up R'.ac;refine⟨dB v,(R.box 0 i5).cell0 i5,?_⟩;have P:=R.aI 3 [1,2,0];refine(Km k 0 (a0 k hk) js ab (λx f=>by rw[vH f];decide) i7 (hS.at [_,_,_] P).1 hz (P.box 1 i5) P).x8 λh2 R2=>⟨_,i5,?_,R2⟩;rw[a4,xH,xH]
 rintro _ h2 ⟨rfl,R2⟩;have H2:=O.up R2.ac;refine⟨_,i5,aP (λe=>?_) λe=>?_⟩
 .have hn:rH m ds pages others slot=eH:=by unfold rH;rw[g0 e]
  exact⟨λ_=>⟨i5,_,H2.aI 3 [1,2]⟩,λz q=>by rw[hn]at q;cases q⟩
 have ar:rH m ds pages others slot=nM m ds pages others (Kl m ds slot others) (qf 64 0) []:=by unfold rH;rw[g9 (by rw[e];decide)]
 rw[ar];refine⟨dB v,(H2.box 0 i5).cell0 i5,v,i5,dB a,(H2.box 2 i5).cell0 i5,?_⟩;have p:=H2.aI 3 [1,2,0];refine(rD p).mono ?_;rintro _ h3 ⟨rfl,rfl⟩;refine⟨_,i5,?_⟩;refine bF (λ(o:bL) h'=>h'=h3/\((o=eH/\nL m ds slot=[])∨∃k d b,o=dB b/\gc da k=dB b/\aT ds k=dB d/\nL m ds slot=dJ m d.l)) ?_ ?_
 .cases hd:aT ds slot with
  |none=>
   rw[ZC hd p];refine(QS h3).x7 ⟨eX,i5,aP (λe=>j3) λ_=>⟨i5,.inl ⟨i5,by unfold nL;rw[hd]⟩⟩⟩
  |some d=>
   obtain⟨b,s,bl,hb,q1,q2,q3⟩:=nI hd p;rw[hb];refine(Bd s bl q1).x7 ⟨_,i5,aP (λe=>⟨i5,.inl ⟨i5,by unfold nL;rw[hd];(try dsimp only);rw[g0 e]⟩⟩) λe=>⟨i5,.inr ⟨slot,d,b,i5,hb,hd,by unfold nL;rw[hd];(try dsimp only);rw[g9 (by rw[e];decide)]⟩⟩⟩
 rintro o h5 ⟨rfl,ho⟩;refine⟨dB v,(p.box 2 i5).cell0 i5,?_⟩;refine(Xg (As:=ak S 105 [xW (dB v)]::As) o (nL m ds slot) ho N ah hS.cons hz p).mono ?_;rintro _ h6 ⟨r,T,rfl,hT,R6⟩;obtain⟨rs,E⟩:=z6 (Kl m ds slot others)
 have hT:T.map zw=rs:=by rw[hT,E];rfl
 have a5:i4 rs<=512:=by
  rw[E];refine qM (qE _ _) ?_;rcases ho with⟨_,h⟩|⟨k,d,b,_,hb,hd,h⟩
  .rw[h];decide
  .rw[h];obtain⟨_,_,_,_,_,_,q3⟩:=nI hd p;exact DC q3
 have J:∀x∈rs,iQ x=eS:=λx f=>by
  rw[E]at f;have f:=(qB.1 f).1;rcases ho with⟨_,h⟩|⟨k,d,b,_,hb,hd,h⟩
  .rw[h]at f;cases f
  .rw[h]at f;obtain⟨_,_,_,hc⟩:=rC f;exact JQ hc
 rw[<-E];have U:=((p.comp R6).CK 153 2 piv iC).aZ;have U:=U.aI 4 [1,2,0,3];have fr:∀{h':f9} {X Y Z W:HP},aa B h0 h' (X::Y::Z::W::(As++[cx r (T.map qD),jX T]))->aa B h0 h' (X::Y::Z::W::cx r (T.map qD)::jX T::As):=λ{h' X Y Z W} R=>by
  have V:=aa.front (As:=X::Y::Z::W::As) (Bs:=[cx r (T.map qD),jX T]) R;exact aa.aI (As:=cx r (T.map qD)::jX T::X::Y::Z::W::As) V 6 [2,3,4,5,0,1]
 have U:=fr U;have ay:=(U.own 4 i5).len;rw[qp]at ay;have a8:i4 T=i4 rs:=by rw[<-hT,qp]
 refine⟨r,i5,?_⟩;refine an (λt:Nat×av×List (Int×aL)×Sl=>(t.1:Int))
  (λt h'=>t.1<=i4 rs/\nM m ds pages others rs (qf 64 0) []=nM m ds pages others (rs.drop t.1) t.2.1 t.2.2.1/\t.2.1.length=64/\(∀x∈t.2.1,0<=x/\x<=t.1)/\t.2.2.1.length<=t.1/\(∀y∈t.2.2.1,y.1∈others/\y.2.length<=64)/\
   aa B h0 h' (bc bi a pw mc offs da w ds::ak v 109 (dH a xm yn oth pages t.2.1 t.2.2.2)::bY 153 t.2.2.2 2 piv iC t.2.2.1::ak S 105 [xW (dB v)]::cx r (T.map qD)::jX T::As))
  (λt=>i4 rs-t.1) (0,qf 64 0,[],⟨eH,0,0⟩) i5 ⟨zj _,i5,js,λx f=>by rw[vH f];exact⟨vq _,vq _⟩,qi _,(λy I=>by cases I),U⟩ ?_
 rintro⟨j,g,l,sl⟩ h7 ⟨hj,i,G,hg,ax,K,H7⟩;dsimp only at hj i G hg ax K H7⊢;refine ae (λe2=>?_) λe2=>?_
 .have D:j<i4 rs:=i6
  have L:j<i4 T:=i6
  refine(H7.seq 4 i5 λ_=>rfl).dO (g:=bZ) j i5 (by rw[qp];exact L) T[j].1 (by rw[zU]) ?_;refine H7.alloc ag i5 λal h8 H8=>?_;have H8:=H8.aZ;refine H8.storeAll ag 0 i5 i5 (bZ T[j].1) i5 i5 i5 i5 λh9 H9=>?_;refine⟨dB v,(H9.box 4 i5).cell0 i5,T[j].1,(H9.box 0 i5).aE _ i5,?_⟩;have ap:T[j].2=rs[j]:=by
   have V:(T.map zw)[j]?=rs[j]?:=by rw[hT]
   rw[qR,qc L,qc D]at V;injection V
  have ad:=(jI _).1 (J rs[j] (qe D));refine(Xf (v:=v) (xm:=xm) (yn:=yn) (oth:=oth) (others:=others) (As:=ak S 105 [xW (dB v)]::cx r (T.map qD)::jX T::ak al 166 (bZ T[j].1)::As) T[j].1 rs[j] ad.2.2.1 G ab (λx f=>by have:=hg x f;omega) i6 ah
   (λBs h' R=>?_) hz (H9.aI 7 [1,2,3,4,5,6,0])).mono ?_
  .obtain⟨z1,z2⟩:=hS.cons.cons.cons.cons Bs h' R;refine⟨z1,z2,?_⟩;have z3:=(St.cR (B:=B) (h0:=h0) (As:=ak S 105 [xW (dB v)]::cx r (T.map qD)::jX T::ak al 166 (bZ T[j].1)::As) (A:=jX T) (Q:=λh=>eF fx h T[j].1 T[j].2) 2 i5 λh' hq=>hq T[j] (qe L)) Bs h' R;rw[ap]at z3;exact z3
  .rintro _ a9 ⟨Q0,Q1⟩;have c:nM m ds pages others (rs.drop j) g l=match me m ds pages others g rs[j]with
     |none=>eH
     |some k=>nM m ds pages others (rs.drop (j+1)) (g.set k.toNat (g.getD k.toNat 0+1)) (l++[(k,cD rs[j])]):=by
    rw[qJ D];rfl
   cases hf:me m ds pages others g rs[j]with
   |none=>
    obtain⟨rfl,M⟩:=Q0 hf;rw[hf]at c;refine⟨eX,i5,aX (λ_=>?_) λe=>j3⟩;exact⟨λ_=>⟨i5,_,M.aI 7 [0,1]⟩,λz q=>by rw[i,c]at q;cases q⟩
   |some k=>
    obtain⟨rfl,F,M⟩:=Q1 k hf;rw[hf]at c;dsimp only at c;obtain⟨ao,bd,bb⟩:=QR ad.2.2.1.1 (wU hf);refine⟨eS,i5,aX (λe=>j3) λ_=>?_⟩;refine⟨(j+1,g.set k.toNat (g.getD k.toNat 0+1),l++[(k,cD rs[j])],F),j0,⟨i9,by dsimp only;rw[i,c],by dsimp only;rw[zf];exact G,λx f=>?_,by dsimp only;rw[qu];simp;omega,λy I=>?_,M.aI 7 [0,1,2,3,4,5]⟩,i9⟩
    .dsimp only at f⊢;rcases zQ f with f|rfl
     .have:=hg x f;omega
     .have:=hg (g.getD k.toNat 0) (by rw[gh 0];exact qe _);omega
    .dsimp only at I;rcases qt.1 I with I|I
     .exact K y I
     .rw[qw.1 I];exact⟨ao,by rw[xy (J rs[j] (qe D))];exact qi _⟩
 .have a6:¬(j:Int)<(r.len:Int):=e2;rw[qY i6]at i;have i:nM m ds pages others rs (qf 64 0) []=dB (g,l):=i;refine⟨λq=>by rw[i]at q;(cases q),λz q=>?_⟩;rw[i]at q;injection q with q
  subst q;exact⟨i5,sl,H7.aI 6 [0,1,2],G,λx f=>by have:=hg x f;omega,i9,K⟩
end
def fl(m:au)(offs:Int)(w:Pow)(ds:aD)(slot:Int):Int×au×Pow×aD:=
 if cF w offs then(14,m,w,ds)else if slot∉m.drives then(5,m,w,ds)else
 let others:=(aK ds m.drives).filter λk=>!decide (k=slot);let n:=sv m (m.drives.filter λk=>!decide (k=slot));let pages:=i4 (ba n)
 if others=[]∨m.seq>=2147483647 then(7,m,w,ds)else
 match rH m ds pages others slot with
 |none=>(7,m,w,ds)
 |some gl=>
  let a:=makes m (λk=>(pages:Int)+gl.1.getD k.toNat 0) others w ds
  if a.1≠0 then(a.1,m,a.2)else
  let b:=layAll gl.2 a.2.1 a.2.2
  if b.1≠0 then(b.1,m,b.2)else
  let c:=cQ m offs b.2.1 b.2.2 n
  if c.1≠0 then c else(0,c.2.1,c.2.2.1,c.2.2.2.set slot.toNat eH)
theorem aaw(a:f7)(x y:bw):aH kg (Instr.build 109 #[(0,xW (dB a)),(1,eO x),(2,eO y)]) (xZ (dH a x y ⟨eH,0,0⟩ 0 (qf 64 0) ⟨eH,0,0⟩).toArray):=
 pI ag (i:=_) i5 i5 i5 (vs:=[(0,xW (dB a)),(1,eO x),(2,eO y)]) (cells:=(dH a x y ⟨eH,0,0⟩ 0 (qf 64 0) ⟨eH,0,0⟩).toArray) j6
section
variable {pw:f7} {w:Pow}
theorem Tp(x:bw)(m:au)(k n:Int)(s:0<=k/\k<64)(f:St B h0 As λh=>cN h x m)(p:cw m)(H:aa B h0 h (bc bi a pw mc offs da w ds::As)):
  ai kg 59 #[.pointer (gc da k),eO x,xU ka n] h λu h'=>u=xU ka (dY m w ds k n).1/\aa B h0 h' (bc bi a pw mc offs da (dY m w ds k n).2.1 (dY m w ds k n).2.2::As):=by
 obtain⟨ok,t⟩:=aa.cj H;obtain⟨j,rfl⟩:∃j:Nat,k=j:=⟨k.toNat,i6⟩
 rcases mz ok (j:Int)with⟨e1,e2⟩|⟨n',d,b,e0,e1,e2,e3,e4,e5⟩
 .rw[e2];have e:dY m w ds j n=(5,w,ds):=by unfold dY;rw[e1]
  refine(Ft x _ h).x8 λh3 g=>?_;rw[e];exact⟨i5,H.up g.ac⟩
 .rw[e5];have i:j=n':=i6
  subst i;obtain⟨r,c,l⟩:=Qw.aa.iM H e2;rw[e4]at c;injection c with c
  injection c with c
  subst c;have e:dY m w ds j n=((ft m w d n).1,(ft m w d n).2.1,ds.set j (dB (ft m w d n).2.2)):=by unfold dY;rw[e3];simp only[ck,qj]
  refine(Fq x m n (λBs h' q=>f (Bs++[_]) h' (by rw[qm];exact q)) p l).x8 λh3 o=>?_;rw[e];exact⟨i5,Qw.aa.nz (k:=bi) (n:=j) e4 o⟩
theorem aax{a:f7}{x y:bw}{oth:Sl}{pages:Int}{g:av}{sl:Sl}(b:Sl):(dH a x y oth pages g sl).set 17 (xV b.ptr b.len b.cap)=dH a x y b pages g sl:=rfl
theorem ado{a:f7}{x y:bw}{oth:Sl}{pages:Int}{g:av}{sl:Sl}(b:Int):(dH a x y oth pages g sl).set 18 (xU ka b)=dH a x y oth b g sl:=rfl
theorem aay{a:f7}{x y:bw}{oth:Sl}{pages:Int}{g:av}{sl:Sl}(b:Int):(dH a x y oth pages g sl).set 9 (xU ka b)=dH a x (b,y.2) oth pages g sl:=rfl
theorem adp{a:f7}{x y:bw}{oth:Sl}{pages:Int}{g:av}{sl:Sl}(b:Sl):(dH a x y oth pages g sl).set 15 (xV b.ptr b.len b.cap)=dH a x (y.1,y.2.1,y.2.2.1,y.2.2.2.1,y.2.2.2.2.1,y.2.2.2.2.2.1,b,y.2.2.2.2.2.2.2) oth pages g sl:=rfl
theorem aaz(n slot:Int)(a:f7)(h:f9)(b:bN h a 3 [xU ka slot]):ai kg 53 #[xU ka n,xW (dB a)] h λu h'=>u=xY (n !=slot)/\Sp h h' []:=by refine ts Tryz.func53 ?_ (args:=[(n:Int),a]);exact⟨slot,b.cell0 i5,i5,Sp.refl h⟩
theorem ait(n slot:Int):(!(n !=slot))=decide (n=slot):=by
 by_cases h:n=slot
 .subst h;simp
 .simp[h]
theorem Tq(slot:Int)(x:bw)(m:au)(hm:bh m=eS)(H:aa B h0 h (bc bi a pw (aV x) offs da w ds::bJ x m::As)):
  ai kg 19 #[xW (dB a),xU ka slot] h λv h'=>v=xU ka (fl m offs w ds slot).1/\
   ∃y I,aa B h0 h' (bc bi a pw (aV y) offs I (fl m offs w ds slot).2.2.1 (fl m offs w ds slot).2.2.2::bJ y (fl m offs w ds slot).2.1::As):=by
 refine ts Tryz.func19 ?_ (xc (xc (xc (xc (xc (x6 [(7,Mw)] [(7,8),(23,29)] (xc (x6 [] [(4,5),(36,47)] (xc (xc (xc (xc (u9 (xc (v7 (ws [(85,aR)] [(4,5),(9,11),(85,109)] (xc (xc (u9 (v7 (xc (x6 [(10,aR)] [(10,11),(89,105)] v6))) v6)))))) v6))))))))))))) [(19,(.l [0,1,3,4,5,6,7,8,9,10,11,12,13,14,2,15,16]))];have hz:=gI hm;have d2:=gy hm;have ar:=gB hm;obtain⟨g1,g2,g3,g4⟩:=(dl m).1 ((bG m).1 hm).1;refine H.boxed λg h1 H1=>?_;have H1:=(H1.aZ).aI 3 [1,2,0];refine(nH H1).x7 ⟨_,i5,aP (λe=>?_) λe1=>?_⟩
 .have ep:fl m offs w ds slot=(14,m,w,ds):=by unfold fl;rw[g0 e]
  rw[ep];exact⟨i5,x,da,H1.aI 3 [0,1]⟩
 refine(lT x m (H1.at 1 i5) hz H1).y0 λy h3 R3=>?_;have H3:=H1.bS R3;refine⟨y,i5,H3.alloc ag i5 λa4 h4 H4=>?_⟩;have H4:=H4.aZ;refine H4.storeAll ag 0 i5 i5 (aV y) i5 i5 i5 i5 λh5 H5=>?_;have H5:=H5.aI 5 [2,3,0,1,4];have a7:cN h5 y m:=H5.at 3 i5;refine⟨y.2.2.2.2.2.2.1,(H5.box 2 i5).cell i5,slot,(H5.box 4 i5).cell0 i5,(gJ _ m.drives slot h5 a7.drives).x7 ?_⟩;refine⟨_,i5,aX (λe2=>?_) λe2=>?_⟩
 .have ep:fl m offs w ds slot=(5,m,w,ds):=by unfold fl;rw[g9 k9,g0 (of_decide_eq_false e2)]
  rw[ep];exact⟨i5,x,da,H5.aI 5 [0,1]⟩
 have M:slot∈m.drives:=i0 e2;refine H5.alloc ag i5 λP h7 H7=>?_;have H7:=H7.aZ;refine H7.storeAll ag 0 i5 i5 [.func (.func 53) #[] #[xW (dB g)]] i5 i5 i5 i5 λh8 H8=>?_;have H8:=H8.aI 6 [1,2,0,5,3,4];refine aJ ⟨y,(H8.box 4 i5).aE _ i5,(Bp x m (H8.at 1 i5) hz H8).mono ?_⟩;rintro _ h9 ⟨O,L,pool,rfl,hf,du,hL,R9⟩;have H9:=(H8.comp R9).front;have cn:bN h9 a4 48 (aV y):=(H8.up R9.ac).box 4 i5;have J:∀{h':f9},bN h' a4 48 (aV y)->bQ.ok [(a4,xU ka y.1),(a4.add 1,xU ka y.2.1),(a4.add 2,xU ka y.2.2.1),(a4.add 3,xU ka y.2.2.2.1),(a4.add 4,xU ka y.2.2.2.2.1),(a4.add 5,xU ka y.2.2.2.2.2.1),(a4.add 6,xV y.2.2.2.2.2.2.1.ptr y.2.2.2.2.2.2.1.len y.2.2.2.2.2.2.1.cap),(a4.add 7,xV y.2.2.2.2.2.2.2.ptr y.2.2.2.2.2.2.2.len y.2.2.2.2.2.2.2.cap)] h':=λ{h'} F=>⟨F.cell0 i5,F.cell i5,F.cell i5,F.cell i5,F.cell i5,F.cell i5,F.cell i5,F.cell i5,A0⟩
 refine⟨O,i5,J cn,_,aaw a y O,H9.boxed λb b4 u=>⟨J ?_,?_⟩⟩
 .exact(show aa B h0 b4 _ from u).box 7 i5
 have u:=u.aZ;have u:aa B h0 b4 (bc bi a pw (aV x) offs da w ds::bJ x m::ak P 104 [.func (.func 53) #[] #[xW (dB g)]]::ak g 3 [xU ka slot]::ak b 109 (dH a y O ⟨eH,0,0⟩ 0 (qf 64 0) ⟨eH,0,0⟩)::aq 3 O.2.2.2.2.2.2.1 1 az m.drives::jE 1 az pool::aq 51 O.2.2.2.2.2.2.2 4 bW (L.map qD)::ak a4 48 (aV y)::bJ y m::As):=u.aI 10 [4,5,6,7,0,2,1,3,8,9];refine(dt x m (u.at 1 i5) hz u).y0 λlv ei c9=>?_;have cd:=u.bS c9;have ef:i4 (aK ds m.drives)<=i4 m.drives:=qE _ _;have b2:∀(ab:FuncId) (ax:ab=55∨ab=56) (n:Int) (h':f9),(bN h' P 104 [.func (.func 53) #[] #[xW (dB g)]]/\bN h' g 3 [xU ka slot])->ai kg ab ([Value.int .i64 n]++(#[Value.pointer (dB P)]:Array Value).toList).toArray h' λv b5=>v=xY (decide (n=slot))/\Sp h' b5 []:=λab ax n h' F=>by
  obtain⟨dy,dp⟩:=F;have ay:∃x1:Hz,cellOf h' P=dB (.func (.func x1.1) x1.2.1 x1.2.2)/\tI C x1.1 (x1.2.1.toList++[(xU ka n)]++x1.2.2.toList) (.one (.sc .bool)) h' λr2 h1=>(Value.bool (!r2)=xY (decide (n=slot))/\Sp h' h1 []):=by refine⟨(53,#[],#[xW (dB g)]),dy.cell0 i5,eJ k8 ((aaz n slot g h' dp).mono ?_)⟩;rintro _ b5 ⟨rfl,R⟩;exact⟨_,i5,by rw[ait],R⟩
  rcases ax with rfl|rfl
  .refine ts Tryz.func55 ?_ (args:=[(n:Int),P]);exact ay
  .refine ts Tryz.func56 ?_ (args:=[(n:Int),P]);exact ay
 refine⟨lv,i5,(AD lv (aK ds m.drives) 55 #[xW (dB P)] (λn=>decide (n=slot)) (λh'=>bN h' P 104 [.func (.func 53) #[] #[xW (dB g)]]/\bN h' g 3 [xU ka slot]) k8
  ((St.cR (A:=ak P 104 [.func (.func 53) #[] #[xW (dB g)]]) 2 i5 λh' p=>p.1).and (St.cR (A:=ak g 3 [xU ka slot]) 3 i5 λh' p=>p.1)) (λn h' F=>b2 _ (.inl i5) n h' F) cd i6).y0 λc d8 b0=>?_⟩;obtain⟨others,q⟩:=z6 ((aK ds m.drives).filter λk=>!decide (k=slot))
 rw[<-q]at b0;have cs:i4 others<=64:=by rw[q];exact qM (qE _ _) i6
 have Y:∀k∈others,0<=k/\k<64:=λk hk=>by rw[q]at hk;exact ar k (ge (qB.1 hk).1).1
 have ad:∀k∈others,∃d,aT ds k=dB d/\d.lost=eX:=λk hk=>by rw[q]at hk;exact(ge (qB.1 hk).1).2
 refine⟨c,i5,b,i5,?_⟩;refine b0.storeAt ag 5 i5 i5 i5 i5 i5 (by rw[pB js];omega) λea D=>?_;rw[aax c]at D;have ca:=(D.own 0 i5).len;have V:∀{h':f9} {w':Pow} {ds':aD} {Ds:List HP},aa B h0 h' (bc bi a pw (aV x) offs da w ds::bJ x m::As)->fl m offs w ds slot=(7,m,w,ds)->(Value.int .i64 7=xU ka (fl m offs w ds slot).1/\∃y I,aa B h0 h' (bc bi a pw (aV y) offs I (fl m offs w ds slot).2.2.1 (fl m offs w ds slot).2.2.2::bJ y (fl m offs w ds slot).2.1::As)):=λ{h' w' ds' Ds} H' ep=>by
  rw[ep];exact⟨i5,x,da,H'⟩
 have e7:(others=[]∨m.seq>=2147483647)->fl m offs w ds slot=(7,m,w,ds):=λhc=>by
  unfold fl;rw[g9 k9,g9 λhh=>hh M]
  try dsimp only
  rw[<-q,g0 hc]
 refine aJ ⟨b,i5,c,(D.box 5 i5).cell i5,aY (λe=>?_) λe3=>⟨y.1,(D.box 9 i5).cell0 i5,ae (λe=>?_) λe4=>?_⟩⟩
 .exact V (w':=w) (ds':=ds) (Ds:=[]) (D.aI 11 [1,2]) (e7 (.inl (List.length_eq_zero_iff.1 i6)))
 .rw[a7.seq]at e;exact V (w':=w) (ds':=ds) (Ds:=[]) (D.aI 11 [1,2]) (e7 (.inr e))
 rw[a7.seq]at e4;have b1:others≠[]:=λh=>e3 (by rw[ca,h];rfl);refine⟨b,i5,O.1,(D.box 5 i5).cell i5,b,i5,?_⟩;rw[hf.1,af (m.seq+1)];refine D.storeAt ag 5 i5 i5 i5 i5 i5 (by rw[pB js];omega) λd4 W=>?_;rw[aay (m.seq+1)]at W;have W:=W.aI 11 [6,0,1,2,3,4,5,7,8,9,10];refine⟨b,i5,O.2.2.2.2.2.2.1,by rw[addr_add];exact(W.box 6 i5).cell i5,?_⟩;refine(AD O.2.2.2.2.2.2.1 m.drives 56 #[xW (dB P)] (λn=>decide (n=slot)) (λh'=>bN h' P 104 [.func (.func 53) #[] #[xW (dB g)]]/\bN h' g 3 [xU ka slot]) k8
  ((St.cR (A:=ak P 104 [.func (.func 53) #[] #[xW (dB g)]]) 3 i5 λh' p=>p.1).and (St.cR (A:=ak g 3 [xU ka slot]) 4 i5 λh' p=>p.1)) (λn h' F=>b2 _ (.inr i5) n h' F) W i6).y0 λao ej b7=>?_;obtain⟨dr,a6⟩:=z6 (m.drives.filter λk=>!decide (k=slot))
 rw[<-a6]at b7;refine⟨ao,i5,b,i5,?_⟩;rw[addr_add];refine b7.storeAt ag 6 i5 i5 i5 i5 i5 (by rw[pB js];omega) λbb E=>?_;rw[show 9+6=15 from rfl,adp ao]at E;obtain⟨o,ap⟩:∃o:bw,o=(m.seq+1,O.2.1,O.2.2.1,O.2.2.2.1,O.2.2.2.2.1,O.2.2.2.2.2.1,ao,O.2.2.2.2.2.2.2):=⟨_,rfl⟩
 have ed:o.2.2.2.2.2.2.1=ao:=by rw[ap]
 have eo:o.2.2.2.2.2.2.2=O.2.2.2.2.2.2.2:=by rw[ap]
 obtain⟨N,hN⟩:=z6 (sv m dr)
 have E:aa B h0 bb (aq 3 o.2.2.2.2.2.2.1 1 az N.drives::aq 3 c 1 az others::bc bi a pw (aV x) offs da w ds::bJ x m::ak P 104 [.func (.func 53) #[] #[xW (dB g)]]::ak g 3 [xU ka slot]::ak b 109 (dH a y o c 0 (qf 64 0) ⟨eH,0,0⟩)::jE 1 az pool::aq 51 o.2.2.2.2.2.2.2 4 bW (L.map qD)::ak a4 48 (aV y)::bJ y m::As):=by rw[ed,eo,hN,ap];exact E
 have E:aa B h0 bb (bJ o N::aq 3 c 1 az others::bc bi a pw (aV x) offs da w ds::bJ x m::ak P 104 [.func (.func 53) #[] #[xW (dB g)]]::ak g 3 [xU ka slot]::ak b 109 (dH a y o c 0 (qf 64 0) ⟨eH,0,0⟩)::ak a4 48 (aV y)::bJ y m::As):=
  aa.Aj (m:=N) (L:=L) (pool:=pool) (by rw[hN,ap];exact⟨i5,hf.2.1,hf.2.2.1,hf.2.2.2⟩) (by rw[hN];exact du) hL (E.aI 11 [7,0,8,1,2,3,4,5,6,9,10])
 have a2:cw N:=by rw[hN];exact⟨by show dr.length<=_;rw[a6];exact qM (qE _ _) i6,hz.ob,hz.nm⟩
 refine⟨b,i5,o,(E.box 6 i5).cells 9 _ i5,(lm o N bb (E.at 0 i5) a2).y0 λpg eh b6=>?_⟩;have a0:=(aa.pM b6).1;have bs:=iN N a2;obtain⟨f,bq⟩:=z6 (i4 (ba N))
 rw[<-bq]at a0 bs;have c0:=E.up b6.ac;refine⟨pg,i5,b,i5,?_⟩;refine c0.storeAt ag 6 i5 i5 i5 i5 i5 (by rw[pB js];omega) λce S=>?_;rw[ado (pg.len:Int),a0]at S;have S:aa B h0 ce (bc bi a pw (aV x) offs da w ds::ak b 109 (dH a y o c f (qf 64 0) ⟨eH,0,0⟩)::aq 3 c 1 az others::bJ o N::ak g 3 [xU ka slot]::ak a4 48 (aV y)::bJ y m::bJ x m::As):=S.aI 9 [2,6,1,0,5,7,8,3];obtain⟨T,hT⟩:=z6 (aq 3 c 1 az others::bJ o N::ak g 3 [xU ka slot]::ak a4 48 (aV y)::bJ y m::bJ x m::As)
 have tL:St B h0 T λh=>Rd h c 1 az others:=by rw[hT];exact St.cR (A:=aq 3 c 1 az others) 0 i5 λ_ p=>p.1.seq (λ_=>rfl) p.2
 have tN:St B h0 T λh=>cN h o N:=by rw[hT];exact St.cR 1 i5 λ_ p=>p
 have tS:St B h0 T λh=>bN h g 3 [xU ka slot]:=by rw[hT];exact St.cR (A:=ak g 3 [xU ka slot]) 2 i5 λ_ p=>p.1
 have tB:St B h0 T λh=>bN h a4 48 (aV y):=by rw[hT];exact St.cR (A:=ak a4 48 (aV y)) 3 i5 λ_ p=>p.1
 have tY:St B h0 T λh=>cN h y m:=by rw[hT];exact St.cR 4 i5 λ_ p=>p
 have fin:∀{h':f9} {w':Pow} {ds':aD} {I:List bL} {X:HP},aa B h0 h' (bc bi a pw (aV x) offs I w' ds'::X::T)->aa B h0 h' (bc bi a pw (aV x) offs I w' ds'::bJ x m::As):=λ{h' w' ds' I X} H'=>by
  rw[hT]at H';exact H'.aI 8 [0,7]
 rw[<-hT]at S;refine⟨slot,(tS.at [_,_] S).cell0 i5,?_⟩;have cq:fl m offs w ds slot=match rH m ds f others slot with
   |none=>(7,m,w,ds)
   |some gl=>
    if(makes m (λk=>(f:Int)+gl.1.getD k.toNat 0) others w ds).1≠0 then((makes m (λk=>(f:Int)+gl.1.getD k.toNat 0) others w ds).1,m,(makes m (λk=>(f:Int)+gl.1.getD k.toNat 0) others w ds).2)else
    if(layAll gl.2 (makes m (λk=>(f:Int)+gl.1.getD k.toNat 0) others w ds).2.1 (makes m (λk=>(f:Int)+gl.1.getD k.toNat 0) others w ds).2.2).1≠0 then((layAll gl.2 (makes m (λk=>(f:Int)+gl.1.getD k.toNat 0) others w ds).2.1 (makes m (λk=>(f:Int)+gl.1.getD k.toNat 0) others w ds).2.2).1,m,(layAll gl.2 (makes m (λk=>(f:Int)+gl.1.getD k.toNat 0) others w ds).2.1 (makes m (λk=>(f:Int)+gl.1.getD k.toNat 0) others w ds).2.2).2)else
    let r3:=cQ m offs (layAll gl.2 (makes m (λk=>(f:Int)+gl.1.getD k.toNat 0) others w ds).2.1 (makes m (λk=>(f:Int)+gl.1.getD k.toNat 0) others w ds).2.2).2.1 (layAll gl.2 (makes m (λk=>(f:Int)+gl.1.getD k.toNat 0) others w ds).2.1 (makes m (λk=>(f:Int)+gl.1.getD k.toNat 0) others w ds).2.2).2.2 N
    if r3.1≠0 then r3 else(0,r3.2.1,r3.2.2.1,r3.2.2.2.set slot.toNat eH):=by
  unfold fl;rw[g9 k9,g9 λhh=>hh M]
  try dsimp only
  rw[<-q,<-a6,<-hN,<-bq,g9 (by rintro(h|h);exact b1 h;exact e4 h)]
 rw[cq];refine(Xh (v:=b) (xm:=y) (yn:=o) (oth:=c) (others:=others) slot i6 Y ad cs (tY.and tL) hz S).mono ?_;rintro _ d6 ⟨Q0,Q1⟩;cases hpl:rH m ds f others slot with
 |none=>
  obtain⟨rfl,mv,am⟩:=Q0 hpl;exact⟨eX,i5,aX (λ_=>⟨i5,x,da,fin am⟩) λe=>j3⟩
 |some gl=>
  obtain⟨rfl,r,am,b9,cc,d3,bd⟩:=Q1 gl hpl;refine⟨eS,i5,aX (λe=>j3) λ_=>?_⟩
  try dsimp only
  obtain⟨NN,bk⟩:∃NN:Int->Int,NN=λk=>(f:Int)+gl.1.getD k.toNat 0:=⟨_,rfl⟩
  rw[<-bk];obtain⟨Z,hZ⟩:=z6 (makes m NN others w ds)
  rw[<-hZ];refine⟨b,i5,c,(am.box 1 i5).cell i5,?_⟩;refine an (λt:Nat×Pow×aD=>(t.1:Int)) (λt h'=>t.1<=i4 others/\Z=makes m NN (others.drop t.1) t.2.1 t.2.2/\aa B h0 h' (bc bi a pw (aV x) offs da t.2.1 t.2.2::ak b 109 (dH a y o c f gl.1 r)::bY 153 r 2 piv iC gl.2::T)) (λt=>i4 others-t.1) (0,w,ds) i5 ⟨zj _,hZ,am⟩ ?_;rintro⟨i,w1,a3⟩ d7 ⟨hi,j,G⟩;dsimp only at hi j G⊢;have s:=G.box 1 i5;refine ae (λe=>?_) λe=>?_
  .have a9:i<i4 others:=i6
   rw[JG _ _ _ _ _ _ a9]at j;refine(tL.at [_,_,_] G).bm i i5 a9 others[i] i5 ?_;obtain⟨k,hk⟩:=z6 (others[i])
   have Q:=Y others[i] (qe a9);rw[<-hk]at j Q⊢;have cf:k.toNat<64:=i6
   have a5:∀{h':f9},bN h' b 109 (dH a y o c f gl.1 r)->cellOf h' ((b.add 19).add (k.toNat*1))=dB (Nf (gl.1.getD k.toNat 0)):=λ{h'} F=>by
    rw[addr_add,zG];exact F.cell (LA b9 cf)
   have eg:0<=gl.1.getD k.toNat 0/\gl.1.getD k.toNat 0<=512:=by rw[gh 0];exact cc _ (qe _)
   have br:=tB.at [_,_,_] G;refine aJ ⟨y,br.aE _ i5,b,i5,(f:Int),s.cell i5,b,i5,⟨Q.1,Q.2⟩,gl.1.getD k.toNat 0,a5 s,(rD G).x7 ?_⟩;obtain⟨c1,c2,c3,c4,c5,c6,c7,c8,_⟩:=J br;refine⟨_,i5,⟨a5 s,s.cell i5,c1,c2,c3,c4,c5,c6,c7,c8,A0⟩,?_⟩;rw[af ((f:Int)+gl.1.getD k.toNat 0)];refine(Tp y m k ((f:Int)+gl.1.getD k.toNat 0) Q (As:=ak b 109 (dH a y o c f gl.1 r)::bY 153 r 2 piv iC gl.2::T) tY.cons.cons hz G).mono ?_;have dx:NN k=(f:Int)+gl.1.getD k.toNat 0:=by rw[bk]
   rw[<-dx];obtain⟨U,bl⟩:=z6 (dY m w1 a3 k (NN k))
   rw[<-bl]at j⊢;rintro _ d9 ⟨rfl,ah⟩;refine⟨U.1,i5,⟨a5 (ah.box 1 i5),(ah.box 1 i5).cell i5,A0⟩,bH (λe5=>?_) λe5=>?_⟩
   .rw[g9 e5]at j;rw[j,g0 e5];exact⟨i5,x,da,fin (ah.aI 3 [0,1])⟩
   .rw[g0 e5]at j;exact⟨(i+1,U.2.1,U.2.2),j0,⟨i9,j,ah⟩,i9⟩
  .have cm:others.drop i=[]:=qY i6;rw[cm]at j;have j:Z=(0,w1,a3):=j;rw[j];rw[g9 js]
   try dsimp only
   refine⟨b,i5,r,s.cell (GL b9),?_⟩;obtain⟨ys,cp⟩:=G.HD 2 rfl λ_=>rfl;refine(tp r ys gl.2 (As:=ak b 109 (dH a y o c f gl.1 r)::dn iC 2 piv r ys gl.2::T) (St.cR 1 i5 λ_ p=>p) i6 (λz b3=>⟨Y _ (bd z b3).1,by have:=(bd z b3).2;omega⟩) cp).x8 λdd K=>?_;obtain⟨r2,dk⟩:=z6 (layAll gl.2 w1 a3)
   rw[<-dk]at K⊢;refine⟨_,i5,bH (λe5=>?_) λe5=>?_⟩
   .rw[g0 e5];exact⟨i5,x,da,fin (K.aI 3 [0,1])⟩
   rw[g9 (by simpa using e5)];refine⟨b,i5,o,(K.box 1 i5).cells 9 _ i5,?_⟩;have K:aa B h0 dd (bc bi a pw (aV x) offs da r2.2.1 r2.2.2::bJ x m::ak g 3 [xU ka slot]::bJ o N::As):=by rw[hT]at K;exact K.aI 9 [0,8,5,4]
   refine(BM x m o N (As:=ak g 3 [xU ka slot]::bJ o N::As) (St.cR 1 i5 λ_ p=>p) hz a2 i6 K).x8 λd5 ⟨y5,al⟩=>?_;obtain⟨r3,cl⟩:=z6 (cQ m offs r2.2.1 r2.2.2 N)
   rw[<-cl]at al⊢;refine⟨_,i5,bH (λe6=>?_) λe6=>?_⟩
   .rw[g0 e6];exact⟨i5,y5,da,al.aI 4 [0,1]⟩
   rw[g9 (by simpa using e6)];refine⟨slot,(al.box 2 i5).cell0 i5,?_⟩;have d1:=ar slot M;obtain⟨sn,cr⟩:∃sn:Nat,slot=sn:=⟨slot.toNat,i6⟩
   subst cr;refine(FE sn i6 y5 (al.aI 4 [0,1])).x8 λec d0=>⟨(),i5,i5,y5,_,d0⟩
end
def oq(m:au)(offs:Int)(w:Pow)(ds:aD)(slot:Int):Int×aD:=
 if cF w offs then(14,ds)else if slot∉aK ds m.drives then(5,ds)else
 match aT ds slot with
 |some d=>(0,ck ds slot d.Eu)
 |none=>(5,ds)
section
variable {pw:f7} {w:Pow}
theorem Xi(slot:Int)(c:bh m=eS)(H:aa B h0 h (bo a pw da offs w ds m::As)):
  ai kg 19 #[xW (dB a),xU ka slot] h λv h'=>v=xU ka (fl m offs w ds slot).1/\
   ∃b,aa B h0 h' (bo a pw b offs (fl m offs w ds slot).2.2.1 (fl m offs w ds slot).2.2.2 (fl m offs w ds slot).2.1::As):=by
 obtain⟨x,H⟩:=fg H;refine(Tq slot x m c H).mono ?_;rintro _ h' ⟨rfl,y,b,d⟩;exact⟨i5,b,jb d⟩
theorem adq(slot:Int)(j:bh m=eS)(H:aa B h0 h (bo a pw da offs w ds m::As)):
  ai kg 21 #[xW (dB a),xU ka slot] h λv h'=>v=xU ka (oq m offs w ds slot).1/\aa B h0 h' (bo a pw da offs w (oq m offs w ds slot).2 m::As):=by
 obtain⟨x,H⟩:=fg H;by_cases g:cF w offs=eS∨slot∉aK ds m.drives
 .refine(Qp slot x m (H.at 1 i5) (gI j) H g).mono ?_;rintro _ h' ⟨rfl,R⟩;by_cases c:cF w offs=eS
  .have e:oq m offs w ds slot=(14,ds):=by unfold oq;rw[g0 c]
   rw[e,g0 c];exact⟨i5,jb (H.up R.ac)⟩
  .have i:slot∉aK ds m.drives:=g.resolve_left c;have e:oq m offs w ds slot=(5,ds):=by unfold oq;rw[g9 c,g0 i]
   rw[e,g9 c];exact⟨i5,jb (H.up R.ac)⟩
 .have c:¬cF w offs=eS:=λh=>g (.inl h);have i:¬slot∉aK ds m.drives:=λh=>g (.inr h);have f:slot∈aK ds m.drives:=Decidable.not_not.1 i;obtain⟨q,d,b,h3⟩:=ge f;obtain⟨n,rfl,p⟩:=kl b;have k:ds[n]?=dB (dB d):=by
   unfold aT at b;rw[g0 i6,qj]at b;cases hX:ds[n]? with
   |none=>rw[hX]at b;cases b
   |some o=>rw[hX]at b;exact congrArg dB b
  refine(SC n x m (H.at 1 i5) (gI j) H rc f k).mono ?_;rintro _ h' ⟨rfl,l⟩;have e:oq m offs w ds (n:Int)=(0,ds.set n (dB d.Eu)):=by unfold oq;rw[g9 c,g9 i,b];simp only[ck,qj]
  rw[e];exact⟨i5,jb l⟩
end
def Ob(a:Int)(k:Nat):UInt8:=b8 (zr a (2^(8*k)))
def fW(c:aL)(at_:Nat)(a:Int):Nat->aL
 |0=>c
 |k+1=>(fW c at_ a k).set (at_+k) ((fW c at_ a k).getD (at_+k) 0^^^Ob a k)
def DD(c:aL)(at_:Int)(a:Int):aL:=fW c at_.toNat a 4
theorem Bv(c:aL)(a:Nat)(b:Int):∀k,i4 (fW c a b k)=i4 c
 |0=>rfl
 |k+1=>by unfold fW;rw[zf];exact Bv c a b k
def AH(d:be)(i at_ a:Int):Bool:=decide ((0<=i/\i<(i4 d.l:Int))/\(0<=at_/\at_<=60)/\a≠0)
def be.lK(d:be)(i at_ a:Int):be:=if AH d i at_ a then{d with l:=d.l.set i.toNat (DD (d.l.getD i.toNat []) at_ a)}else d
theorem QU{α:Type}{e k:Nat}{f:α->aW}{rs:List Sl}{b:List (List α)}(h:i4 rs=i4 b)(n:Nat)(d:n<i4 b)(x:List α):bu e k f rs (b.set n x)=(bu e k f rs b).set n (aq e (rs[n]'i6) k f x):=by
 apply List.ext_getElem?;intro j;by_cases c:j<i4 b
 .rw[fo (by rw[zf];exact h) j (by rw[zf];exact c)];by_cases a:n=j
  .subst a;rw[List.getElem?_set_self (by rw[jd h];exact d),yq]
  .rw[List.getElem?_set_ne a,fo h j c,List.getElem_set_ne a]
 .rw[zd (by rw[jd (by rw[zf];exact h),zf];omega),zd (by rw[zf,jd h];omega)]
section
variable {pw:f7} {d:be}
theorem Xj(i at_ f:Int)(hm:0<=f/\f<2^32)(H:aa B h0 h (jJ pw a d::As)):
  ai kg 68 #[xW (dB a),xU ka i,xU ka at_,xU ke f] h λv h'=>v=xY (AH d i at_ f)/\aa B h0 h' (jJ pw a (d.lK i at_ f)::As):=by
 refine ts Tryz.func68 ?_ (xc (x6 [] [(8,9),(10,37)] (x0 [(37,aR)] [(9,10),(37,60)])));obtain⟨ok,s,t,K⟩:=aa.rk H;have Z:=(aa.pM (K.aI 2 [1,0])).1;have X:=K.box 0 i5;have D:AH d i at_ f=eX->(Value.bool eX=xY (AH d i at_ f)/\aa B h0 h (jJ pw a (d.lK i at_ f)::As)):=λe=>by
  unfold be.lK;rw[e];exact⟨i5,H⟩
 have g:¬((0<=i/\i<(i4 d.l:Int))/\(0<=at_/\at_<=60)/\f≠0)->AH d i at_ f=eX:=λh=>ii h;refine aJ (aP (λe=>j3) λ_=>ae (λe=>D (g i6)) λe1=>⟨a,i5,s,X.cell i5,ae (λe=>D (g i6)) λe2=>ae (λe=>D (g i6)) λe3=>ae (λe=>D (g i6)) λe4=>aY (λe=>D (g i6)) λW=>?_⟩);have hi:0<=i/\i<(i4 d.l:Int):=i6
 have o:AH d i at_ f=eS:=hU ⟨hi,⟨i6,i6⟩,W⟩;obtain⟨n,rfl⟩:∃n:Nat,i=n:=⟨i.toNat,i6⟩
 obtain⟨p,rfl⟩:∃p:Nat,at_=p:=⟨at_.toNat,i6⟩
 have R:n<i4 d.l:=i6
 have A:d.l[n].length=64:=ok.cell _ (qe R);obtain⟨c,G⟩:=z6 (d.l[n])
 have V:aa B h0 h (fC 34 s 5 1 aB (d.l.set n (fW c p f 0))::ak a 168 (fQ pw d s t)::gu t d.laid::As):=by
  have e:d.l.set n (fW c p f 0)=d.l:=by show d.l.set n c=d.l;rw[G];exact List.set_getElem_self _
  rw[e];exact K.aI 3 [1,0,2]
 refine an (λk:Nat=>(k:Int)) (λk h'=>k<=4/\aa B h0 h' (fC 34 s 5 1 aB (d.l.set n (fW c p f k))::ak a 168 (fQ pw d s t)::gu t d.laid::As)) (λk=>4-k) 0 i5 ⟨i6,V⟩ ?_;rintro k h3 ⟨hk,I⟩
 try dsimp only
 refine ae (λe=>?_) λe=>?_
 .have u:k<4:=i6
  have N:=I.box 1 i5;obtain⟨rs,j,J⟩:=I.CL;have T:=(I.pM).1;have Y:i4 (d.l.set n (fW c p f k))=i4 d.l:=zf;have m:n<i4 (d.l.set n (fW c p f k)):=i6
  have F:(bu 5 1 aB rs (d.l.set n (fW c p f k)))[n]?=dB (aq 5 (rs[n]'i6) 1 aB (fW c p f k)):=by rw[fo j n m,yq]
  have q:((aq 34 s 1 bx rs::bu 5 1 aB rs (d.l.set n (fW c p f k)))++(ak a 168 (fQ pw d s t)::gu t d.laid::As))[n+1]?=dB (aq 5 (rs[n]'i6) 1 aB (fW c p f k)):=by rw[zB,qO,qq (by rw[jd j];exact m)];exact F
  have U:i4 (fW c p f k)=64:=by rw[Bv,G];exact A
  have P:=J.own (n+1) q;refine⟨a,i5,s,N.cell i5,?_⟩;have M:=J.seq 0 i5 λ_=>rfl;refine M.mi n i5 i6 ?_;obtain⟨z,S⟩:=z6 ((fW c p f k)[p+k]'i6)
  have L:qd ka ((p:Int)+(k:Int))=((p+k:Nat):Int):=j7
  rw[L];have y:Qw.Seq h3 (λb=>b<h3.size) (rs[n]'i6) 1 aB (fW c p f k):=J.seq (n+1) q λ_=>rfl;refine y.bm (p+k) i5 i6 (z.toNat:Int) (by rw[S];rfl) ?_;refine⟨j7,?_⟩;have w:min (qd ka ((8:Int)*(k:Int))).toNat (qz ke)=8*k:=by rw[af _];show min ((8:Int)*k).toNat 32=8*k;omega
  rw[w,fa (zr f (2^(8*k)))];have O:=mJ z (b8 (zr f (2^(8*k))));rw[O];refine J.set ag (n+1) q (λ_=>rfl) i5 (p+k) i5 i6 (z^^^Ob f k) i5 i5 i5 λh5 Q=>⟨A0,?_⟩
  refine⟨k+1,j4,⟨i6,?_⟩,i6⟩;have r:fW c p f (k+1)=(fW c p f k).set (p+k) (z^^^Ob f k):=by show(fW c p f k).set (p+k) ((fW c p f k).getD (p+k) 0^^^Ob f k)=_;rw[gh 0,S]
  refine aa.Et (rs:=rs) (by rw[zf];omega) ?_;have e:bu 5 1 aB rs (d.l.set n (fW c p f (k+1)))=(bu 5 1 aB rs (d.l.set n (fW c p f k))).set n (aq 5 (rs[n]'i6) 1 aB (fW c p f (k+1))):=by rw[<-QU j n m,yx]
  rw[e,r];rw[zB,zO,vy _ _ (by rw[jd j];exact m)]at Q;exact Q
 .have u:k=4:=i6
  subst u;have E:d.lK (n:Int) (p:Int) f={d with l:=d.l.set n (fW c p f 4)}:=by unfold be.lK;rw[o,g0 i5,qj,gh [] R,<-G];rfl
  refine⟨by rw[o],?_⟩;rw[E];refine aa.Ai (s:=s) (b:=t) ⟨by show d.wait<=_;rw[zf];exact ok.wait,by show(d.l.set n _).length<=_;rw[zf];exact ok.len,ok.room,λx O=>?_,ok.laid,ok.cellL⟩ (I.aI 3 [1,0,2]);rcases zQ O with h|rfl
  .exact ok.cell x h
  .rw[Bv,G];exact A
end
section
variable {pw:f7} {w:Pow}
theorem aaA{k:Int}{d:be}{b:f7}(i at_ c:Int)(j:0<=c/\c<2^32)(f:aT ds k=dB d)(l:gc da k=dB b)(H:aa B h0 h (bo a pw da offs w ds m::As)):
  ai kg 68 #[xW (dB b),xU ka i,xU ka at_,xU ke c] h λv h'=>v=xY (AH d i at_ c)/\aa B h0 h' (bo a pw da offs w (ck ds k (d.lK i at_ c)) m::As):=by
 obtain⟨x,H⟩:=fg H;obtain⟨ok,_⟩:=aa.cj H;obtain⟨n,rfl,y⟩:=kl f;have q:ds[n]?=dB (dB d):=by
  unfold aT at f;rw[g0 i6,qj]at f;cases hX:ds[n]? with
  |none=>rw[hX]at f;cases f
  |some o=>rw[hX]at f;exact congrArg dB f
 obtain⟨s,g,r⟩:=Qw.aa.iM H q;have p:s=b:=by unfold gc at l;rw[g0 i6,qj,g]at l;injection l
 subst p;refine(Xj i at_ c j r).mono ?_;rintro _ h' ⟨rfl,u⟩;have t:=Qw.aa.nz (k:=bi) (n:=n) g u;refine⟨i5,?_⟩;have e:ck ds (n:Int) (d.lK i at_ c)=ds.set n (dB (d.lK i at_ c)):=by simp only[ck,qj]
 rw[e];exact jb t
end
theorem FW(a:kz):a&&&1#32=0#32∨a&&&1#32=1#32:=j1
theorem kq{a:kz}(h:a&&&1#32=0#32):kA a=a>>>1:=by unfold kA;grind
theorem mF{a:kz}(h:a&&&1#32=1#32):kA a=(a>>>1)^^^3988292384#32:=by unfold kA;grind
theorem QV(a b c:kz):a^^^b^^^c=a^^^c^^^b:=j1
theorem Xk(a b:kz):kA (a^^^b)=kA a^^^kA b:=by
 have e:(a^^^b)&&&1#32=(a&&&1#32)^^^(b&&&1#32):=j1
 have s:(a^^^b)>>>1=(a>>>1)^^^(b>>>1):=BitVec.ushiftRight_xor_distrib a b 1;rcases FW a with ha|ha<;>rcases FW b with hb|hb
 .rw[kq ha,kq hb,kq j1,s]
 .rw[kq ha,mF hb,mF j1,s,vb]
 .rw[mF ha,kq hb,mF j1,s,QV]
 .rw[mF ha,mF hb,kq j1,s,<-vb,QV _ 3988292384#32,vb _ 3988292384#32 3988292384#32,vO,BitVec.xor_zero]
theorem Tr{a:kz}(h:kA a=0#32):a=0#32:=by
 rcases FW a with ha|ha
 .rw[kq ha]at h;apply yo;have b:=congrArg xQ h;have c:=congrArg xQ ha;rw[vG,Nat.shiftRight_eq_div_pow]at b
  grind
 .rw[mF ha]at h;have b:a>>>1=3988292384#32:=by
   have:=congrArg (λz=>z^^^3988292384#32) h
   grind
  have c:=congrArg xQ b;simp at c;omega
theorem oI:∀(n:Nat) (a b:kz),fb n (a^^^b)=fb n a^^^fb n b
 |0,_,_=>rfl
 |n+1,a,b=>by unfold fb;rw[oI n,Xk]
theorem FX:∀(n:Nat) {a:kz},fb n a=0#32->a=0#32
 |0,_,h=>h
 |n+1,_,h=>FX n (Tr h)
theorem ads{a b:kz}(h:a^^^b=0#32):a=b:=by
 have:=congrArg (λz=>z^^^b) h
 grind
theorem Hp{n:Nat}{a b:kz}(h:fb n a=fb n b):a=b:=
 ads (FX n (by rw[oI,h,vO]))
theorem sV:∀(m n:Nat) (a:kz),fb (m+n) a=fb m (fb n a)
 |0,n,a=>by rw[Nat.zero_add];rfl
 |m+1,n,a=>by rw[show m+1+n=(m+n)+1 by omega];show kA (fb (m+n) a)=kA (fb m (fb n a));rw[sV m n a]
theorem Kp:∀(n x:Nat),x<2^(32-n)->n<=32->fb n (wE 32 (x*2^n))=wE 32 x
 |0,x,_,_=>by rw[zG];rfl
 |n+1,x,h,hn=>by
  have a:x*2<2^(32-n):=by
   have:2^(32-n)=2^(32-(n+1))*2:=by rw[<-Nat.pow_succ];grind
   omega
  show kA (fb n (wE 32 (x*2^(n+1))))=_;rw[show x*2^(n+1)=x*2*2^n by grind,Kp n (x*2) a i6];have b:x*2<2^32:=qT a (yA i7 i6);rw[kq]
  .apply yo;rw[vG,w6,w6,];omega
  .apply yo;simp
def QW(a b c d:UInt8):kz:=wE 32 (a.toNat*2^0)^^^wE 32 (b.toNat*2^8)^^^wE 32 (c.toNat*2^16)^^^wE 32 (d.toNat*2^24)
theorem adt(s:kz)(a b c d:UInt8):mN (mN (mN (mN s a) b) c) d=fb 32 (s^^^QW a b c d):=by
 have e:∀(n:Nat) (x:UInt8),n<=24->wE 32 x.toNat=fb n (wE 32 (x.toNat*2^n)):=λn x g=>by
  have f:=x.toNat_lt;refine(Kp n x.toNat ?_ i6).symm;exact qT (f) (yA i7 i6)
 unfold mN QW;rw[e 8 b i7,<-oI,<-sV,e 16 c i7,<-oI,<-sV,e 24 d i7,<-oI,<-sV]
 grind
theorem LB(a b c d:UInt8):(QW a b c d).toNat=a.toNat+b.toNat*256+c.toNat*65536+d.toNat*16777216:=by
 have m:=a.toNat_lt;have n:=b.toNat_lt;have l:=c.toNat_lt;have o:=d.toNat_lt;have e:∀(k x y:Nat),x<2^k->x^^^(y*2^k)=x+y*2^k:=λk x y f=>by
  have h:=Nat.two_pow_add_eq_or_of_lt f y;have j:x^^^(2^k*y)=(2^k*y)|||x:=by
   apply Nat.eq_of_testBit_eq;intro i;by_cases g:k<=i
   .have:x.testBit i=eX:=Nat.testBit_lt_two_pow (qT f (yA i7 g))
    grind
   grind
  grind
 unfold QW;rw[xq,xq,xq,w6,w6,w6,w6];rw[wQ i6,wQ i6,wQ i6,wQ i6];rw[zG,e 8 _ _ i6,e 16 _ _ i6,e 24 _ _ i6]
theorem age{a b c d g e c' f:UInt8}(h:QW a b c d=QW g e c' f):a=g/\b=e/\c=c'/\d=f:=by have i:=congrArg xQ h;rw[LB,LB]at i;have:=a.toNat_lt;have:=b.toNat_lt;have:=c.toNat_lt;have:=d.toNat_lt;have:=g.toNat_lt;have:=e.toNat_lt;have:=c'.toNat_lt;have:=f.toNat_lt;refine⟨wO.1 ?_,wO.1 ?_,wO.1 ?_,wO.1 ?_⟩<;>omega
theorem QX:∀{q:aL} {s t:kz},q.foldl mN s=q.foldl mN t->s=t
 |[],_,_,h=>h
 |x::q,s,t,h=>by
  have:=Hp (QX (q:=q) h);have:=congrArg (λz=>z^^^wE 32 x.toNat) this;simp only[vb,vO,BitVec.xor_zero]at this;exact this
theorem aaB{p q:aL}{a b c d g e c' f:UInt8}(h:lG (p++([a,b,c,d]++q))=lG (p++([g,e,c',f]++q))):[a,b,c,d]=[g,e,c',f]:=by unfold lG at h;rw[zH,zH,zH,zH]at h;have h:=QX h;simp only[zA,wu]at h;rw[adt,adt]at h;have h:=Hp h;have h:=congrArg (λz=>List.foldl mN 4294967295#32 p^^^z) h;simp only[<-vb,vO,BitVec.zero_xor]at h;obtain⟨rfl,rfl,rfl,rfl⟩:=age h;rfl
theorem agf(s:kz):∃a b c d,mj s=[a,b,c,d]/\QW a b c d=s:=by
 refine⟨_,_,_,_,i5,?_⟩;apply yo;rw[LB];have m:=s.isLt;have e:∀n:Int,((b8 n).toNat:Int)=n%256:=λn=>by have:=pR n;omega
 have f:∀k:Nat,zr (s.toNat:Int) (2^(8*k))=((s.toNat/2^(8*k):Nat):Int):=λk=>by
  rw[Int.fdiv_eq_ediv_of_nonneg _ (by exact_mod_cast zj _)];norm_cast
 have g:∀k:Nat,(b8 (zr (s.toNat:Int) (2^(8*k)))).toNat=s.toNat/2^(8*k)%256:=λk=>by
  have:=e (zr (s.toNat:Int) (2^(8*k)));rw[f k]at this;rw[f k];omega
 have h:=g 0;have l:=g 1;have i:=g 2;have j:=g 3;simp only[Nat.mul_zero,zG,Nat.pow_zero,Nat.div_one,Nat.reduceMul,Nat.reducePow]at h l i j;simp only[Nat.mul_zero,zG,Nat.reduceMul];rw[h,l,i,j];omega
theorem agh(x:aL):lG (x++mj (mH x))=fb 32 4294967295#32:=by obtain⟨a,b,c,d,e,f⟩:=agf (mH x);rw[e];unfold lG;rw[zH];simp only[zA,wu];rw[adt,f];unfold mH lG;congr 1;rw[BitVec.xor_comm 4294967295#32,<-vb,vO,BitVec.zero_xor]
theorem Ng{c:aL}{k:Int}{x:aL}(h:gg c=dB (k,x)):i4 c=64/\c=c.take 59++(mj (mH (c.take 59))++[165]):=by
 unfold gg at h;split at h
 .rename_i e;obtain⟨b,a⟩:=e;refine⟨b,?_⟩;unfold eI at a;split at a
  .rename_i f;have g:=xu (kind:=((c.getD 3 0).toNat:Int)) f.2.2;have d:c.take 59=eG ((c.getD 3 0).toNat:Int) ((c.drop 4).take 55):=by
    conv=>lhs;rw[<-a]
    rw[qm,wm i6,qh i6]
   rw[d];rw[<-qm];exact a.symm
  .rw[<-a]at b;simp at b
 .cases h
theorem aaC{l:aL}{p:Nat}(h:p+4<=i4 l)(a:Int):∃u v,i4 u=4/\v.length=4/\l=l.take p++(u++l.drop (p+4))/\fW l p a 4=l.take p++(v++l.drop (p+4)):=by
 have b:∀k,k<=4->(fW l p a k).take p=l.take p/\(fW l p a k).drop (p+4)=l.drop (p+4):=by
  intro k
  induction k with
  |zero=>exactλ_=>⟨i5,i5⟩
  |succ k ih=>
   intro n;obtain⟨f,i⟩:=ih i6;unfold fW;rw[List.take_set_of_le i6,List.drop_set_of_lt i6];exact⟨f,i⟩
 have d:∀m:aL,i4 m=i4 l->m=m.take p++((m.drop p).take 4++m.drop (p+4)):=λm j=>by
  rw[<-List.drop_drop,qy,qy]
 obtain⟨e,g⟩:=b 4 (qi _);have c:=Bv l p a 4;refine⟨(l.drop p).take 4,((fW l p a 4).drop p).take 4,jj,by simp[c];omega,d l i5,?_⟩;rw[<-e,<-g];exact d _ c
theorem Xl{c:aL}{k:Int}{x:aL}(h:gg c=dB (k,x)){a b:Int}(G:0<=a/\a<=60)(d:DD c a b≠c):gg (DD c a b)=eH:=by
 obtain⟨E,n⟩:=Ng h;cases hb:gg (DD c a b)with
 |none=>rfl
 |some y=>
  exfalso;obtain⟨i,e⟩:=Ng (k:=y.1) (x:=y.2) hb;obtain⟨c',s⟩:∃c',c'=DD c a b:=⟨_,rfl⟩
  rw[<-s]at i e d;by_cases f:c'.take 59=c.take 59
  .apply d;rw[n,e,f,<-n]
  .obtain⟨p,rfl⟩:∃p:Nat,a=p:=⟨a.toNat,i6⟩
   obtain⟨u,v,A,q,B,j⟩:=aaC (l:=c) (p:=p) i6 b;have j:c'=c.take p++(v++c.drop (p+4)):=by rw[s];unfold DD;rw[qj];exact j
   have H:p<=59:=by refine Decidable.byContradiction λF=>f ?_;rw[j,wm jj,List.take_take,Nat.min_eq_left i6]
   have t:∀z:aL,z=z.take 59++(mj (mH (z.take 59))++[165])->i4 z=64->lG (z.take 63)=fb 32 4294967295#32:=λz m D=>by
    have:z.take 63=z.take 59++mj (mH (z.take 59)):=by
     conv=>lhs;rw[m]
     rw[<-qm,wm (by simp[CQ];omega),qh (by simp[CQ];omega)]
    rw[this,agh]
   have w:∀z:aL,i4 z=4->(c.take p++(z++c.drop (p+4))).take 63=c.take p++(z++(c.drop (p+4)).take (59-p)):=λz m=>by
    have g:i4 (c.take p)=p:=jj
    generalize c.take p=P at g⊢;rw[List.take_append,qh i6,List.take_append,qh i6,g,m];congr 3;omega
   have o:=t c n E;have r:=t c' e i;rw[j,w v q]at r;rw[B,w u A]at o
   match u,v,A,q with
   |[u0,u1,u2,u3],[v0,v1,v2,v3],_,_=>
    have:=aaB (o.trans r.symm);apply d;rw[j,<-this,<-B]
theorem adu{m:au}{C:Int->aL}{c:aL}(h:gg c=eH):dR m C c:=by
 have b:dS c=eH:=by unfold dS;rw[h]
 have d:mL c=eH:=by unfold mL;rw[h]
 exact⟨λr a=>j1,λr a _=>j1,λg e=>j1⟩
theorem eU.Xm{m:au}{C:Int->aL}{ds:aD}(S:eU m C ds){k:Int}{b d:be}(f:aT ds k=dB b)(g:∀c∈d.l,dR m C c):eU m C (ck ds k d):=
 ⟨S.may,by rw[Az];exact S.len,λj e a=>by
  rw[jK S.len f]at a;split at a
  .grind
  .exact S.cells j e a,S.ents⟩
theorem Ts{m:au}{C:Int->aL}{d:be}(i:∀c∈d.l,dR m C c){j:Nat}(f:j<i4 d.l)(n:gg d.l[j]≠eH){a b:Int}(g:0<=a/\a<=60):∀c∈(d.lK j a b).l,dR m C c:=λc h=>by
 unfold be.lK at h;split at h
 .rw[qj,gh [] f]at h;rcases zQ h with h|rfl
  .grind
  .by_cases e:DD d.l[j] a b=d.l[j]
   .grind
   .cases ht:gg d.l[j]with
    |none=>grind
    |some y=>exact adu (Xl (k:=y.1) (x:=y.2) ht g e)
 grind
structure Wn (p:Pm) (m:au) (C:Int->aL) (ds:aD):Prop where
 sto:eU m C ds
 live:aK ds m.drives≠[]
 dr:∀k∈m.drives,k<9
 pe:m.p=p
 wt:∀k d,aT ds k=dB d->d.wait=0
section
variable {p:Pm} {C:Int->aL}
theorem Ut{k:Int}{d e:be}(a:i4 ds=64)(c:aT ds k=dB d)(f:∀k d,aT ds k=dB d->d.wait=0)(g:e.wait=0):∀j x,aT (ck ds k e) j=dB x->x.wait=0:=λj x b=>by
 rw[jK a c]at b
 grind
theorem aaD{ds':aD}{f:Int->be->be}(h:∀k,aT ds' k=(aT ds k).map (f k))(b:∀k d,aT ds k=dB d->d.wait=0)(c:∀k d,d.wait=0->(f k d).wait=0):∀j x,aT ds' j=dB x->x.wait=0:=λj x a=>by
 cases hd:aT ds j with
 |none=>grind
 |some d=>
  grind
theorem GM{a:ct}{d:be}(h:d.wait=0):(fJ a d).wait=0:=by
 unfold fJ
 grind
theorem IE{d:be}{n:Int}(h:d.wait=0):(cY m d n).wait=0:=by
 unfold cY
 grind
theorem Xn{d:be}{j a b:Int}:(d.lK j a b).wait=d.wait:=by
 unfold be.lK
 grind
theorem Xo{l:av}(h:l.Pairwise (·<·)){s:Int}(f:s∉l):(gC (l++[s])).Pairwise (·<·):=by have g:(l++[s]).Nodup:=List.nodup_append.2 ⟨h.imp λh e=>i6,js,λa i b j e=>f j1⟩;have d:(gC (l++[s])).Perm (l++[s]):=we _ _;have c:(gC (l++[s])).Pairwise (λa b=>a≠b):=d.nodup_iff.2 g;exact(Qw.EC _).imp₂ (λa b=>i6) c
end
end Go.Qw
