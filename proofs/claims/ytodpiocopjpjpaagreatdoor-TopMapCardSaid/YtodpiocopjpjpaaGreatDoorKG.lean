/- Lemmas for the proof of the law; no condition. -/
import Derived.Test.YtodpiocopjpjpaaGreatDoorKF
set_option maxHeartbeats 2000000
set_option linter.unusedVariables false
set_option maxHeartbeats 4000000
set_option linter.unusedSimpArgs false
open Go.Proofs.Tryz renaming prog -> kg
open Go.Value renaming bool -> xY, int -> xU, pointer -> xW, slice -> xV
open Go.IntKind renaming i64 -> ka, wrap -> qd
set_option maxRecDepth 100000
open Option renaming some -> dB
open List renaming length -> i4
open Go.Qw.cO renaming two -> u9, n -> v6, inn -> v7, loop -> ws, join -> xa, tn -> xc, lp -> x0, jn -> x6
namespace Go.Qw
open Go.Proofs
theorem Gh:Tryz.prog.underlying 31=dB (.map 9 34):=j6
theorem Oc:Tryz.prog.underlying 9=dB .string:=j6
abbrev RB:ByteArray:=⟨#[97]⟩
theorem TG(h:Heap):ai kg 12 #[] h λv h'=>v=xY true/\aS (λb=>b<h.size) h h':=by
 refine ts Tryz.func12 ?_ (xc (xc (x6 [] [(0,1),(10,16)] v6)));refine(Sp.refl h).lit ag az gz i5 [20,20] i5 (show 2*1<=2^20 by decide) i5 λg F u=>?_;refine(Ge (1,1,4) 2 g [20,20] (As:=[aq 3 g 1 az [20,20]]) (St.cR 0 i5 λh' f=>f.1.seq (λ_=>rfl) f.2) i7 j5 u).mono ?_;rintro _ E ⟨b,a,pw,da,D,rfl,i,w,y⟩;obtain⟨m,ds',d,l,c⟩:=adH i w;refine⟨(dB b,0),i5,aJ (bH (λe=>absurd i5 e) λ_=>aP (λe=>j3) λ_=>?_)⟩;refine y.lit ag aB gm i5 [97,98,99] i5 (show 3*1<=2^20 by decide) i5 λq h3 p=>?_;have k:=(p.own 3 i5).cap;refine p.b2b ag 3 i5 ⟨_,i5,i5⟩ ⟨_,i5,i5⟩ λB z=>?_;have j:bh jM=true:=j5
 have P:=Kw (As:=[aq 3 g 1 az [20,20],tO q 1 aB [97,98,99]]) (1,RB,q,0,0,0,0,cZ,cZ) i5 [97,98,99] (St.cR 1 i5 λh' f=>f) k (show RB.size<=2^40 by decide) j i7 z;dsimp only at P;rw[show dv jM 0 Pow.new D RB [97,98,99]=(0,m,Pow.new,ds')from d]at P;refine P.mono ?_;rintro _ A ⟨rfl,o⟩;refine⟨de 0,i5,aY (λ_=>?_) λe=>absurd i5 e⟩;have G:=Kx (2,RB,cZ,0,0,0,0,cZ,cZ) i5 l o;dsimp only at G;rw[show iI m 0 Pow.new ds' RB=([97,98,99],0)from c]at G;refine G.mono ?_;rintro _ t ⟨r,rfl,s⟩;refine⟨((0,r,cZ,0,0,0,cZ,0):oY),i5,?_⟩;have x:Rd t r 1 aB [97,98,99]:=s.at 0 i5;refine KS ag ⟨_,i5,i5⟩ ⟨_,i5,i5⟩ ⟨_,i5,i5⟩ x ?_;exact⟨congrArg Value.bool (beq_self_eq_true YH.toList),(o.up s.ac).ac⟩
abbrev Gi(s:Sl):Value:=xV s.ptr s.len s.cap
def DH(l:av)(a:Int):av:=(DB l).map λx=>x+a
theorem RC(A:Sl)(l:av)(c:Int)(h:Heap)(hm:0<=c/\c<=200)(Z:Rd h A 1 az l):
  ai kg 4 #[A,xU ka c] h λv h'=>∃(b a pw:Addr) (da:List bL) (D:aD),v=.tuple #[xW (dB b),ir (kH l)]/\D.length=64/\
   (∀s,aT D s=if s∈bz (DH l c) (DH l c).length then dB ⟨((DH l c).getD s.toNat 0).toNat,ba (cV (kH l) (FV l) (DH l c)),0,[],false,false⟩else none)/\
   sq (kH l) (FV l) (DH l c)=0/\(DH l c).length<=5/\
   Sp h h' [bo a pw da 0 Pow.new D (cV (kH l) (FV l) (DH l c)),ak b 64 (dm (dB pw) (dB a))]:=by
 refine ts Tryz.func4 ?_ (xc (xc (x0 [(20,aR)] [(9,10),(20,33)])));refine(Sp.refl h).alloc ag i5 λJ Y I=>?_;refine(Tk A l Y (Z.up I.ac)).y0 λr h2 P=>?_;obtain⟨p,o⟩:=z6 (kH l)
 obtain⟨E,K⟩:=z6 (FV l)
 obtain⟨L,q⟩:=z6 (DB l)
 have hp:bB p=true:=by rw[o];exact MN _ _ _
 have ad:0<=E/\E<=6:=by rw[K];unfold FV;omega
 have ab:2<=i4 L/\L.length<=5:=by rw[q,QN];exact Ur l
 have j:∀x∈L,8<=x/\x<58:=λx g=>by
  rw[q]at g;obtain⟨i,_,rfl⟩:=qo.1 g;omega
 unfold DH;rw[<-o,<-K,<-q];rw[<-q]at P;have X:=I.comp P;refine⟨(p,E,r),i5,X.alloc ag i5 λa3 h3 V=>?_⟩;refine V.storeAll ag 2 i5 i5 [xU ka p.1,xU ka p.2.1,xU ka p.2.2] i5 i5 i5 i5 λh4 H4=>?_;obtain⟨M,t⟩:=z6 (L.map λx=>x+c)
 rw[<-t];have u:i4 M=i4 L:=by rw[t,qp]
 have z:∀x∈M,1<=x/\x<=512:=λx g=>by
  rw[t]at g;obtain⟨y,S,rfl⟩:=qo.1 g;have:=j y S;omega
 obtain⟨O,W⟩:=agd (extra:=E) hp i6 (show 1<=i4 M/\M.length<=24 by omega) z;refine an (λi:Nat=>(i:Int)) (λi h'=>i<=i4 L/\Sp h h' [ak J 25 [xU ka 0,xU ka 0,xU ka 0],aq 3 r 1 az (M.take i++L.drop i),ak a3 25 [xU ka p.1,xU ka p.2.1,xU ka p.2.2]]) (λi=>i4 L-i) 0 i5 ⟨zj _,H4⟩ ?_;rintro i h5 ⟨hi,f⟩
 try dsimp only
 have w:=(f.own 1 i5).len;have B:i4 (M.take i++L.drop i)=i4 L:=by rw[List.length_append,qH,List.length_drop];omega
 rw[B]at w;refine ae (λe=>?_) λe=>?_
 .have d:i<i4 L:=by have U:(i:Int)<(r.len:Int):=e;omega
  have R:(M.take i++L.drop i)[i]'i6=L[i]:=by rw[List.getElem_append_right ln];rw[List.getElem_drop];congr 1;rw[qH];omega
  refine(f.seq 1 i5 λ_=>rfl).bm i i5 i6 L[i] (by rw[R];rfl) ?_;have g:=j L[i] (qe d);rw[af _];refine f.set ag 1 i5 (λ_=>rfl) i5 i i5 i6 (L[i]+c) i5 i5 i5 λQ m=>?_;refine⟨i+1,j4,⟨d,?_⟩,i6⟩;have k:(M.take i++L.drop i).set i (L[i]+c)=M.take (i+1)++L.drop (i+1):=by
   have F:M[i]'i6=L[i]+c:=by simp[t]
   rw[List.set_append_right _ _ ln,aG _ _,F,List.drop_eq_getElem_cons d,qH];rw[show i-min i M.length=0 by omega,List.set_cons_zero,List.append_assoc];rfl
  rw[k]at m;exact m
 .have U:¬(i:Int)<(r.len:Int):=e;have G:i=i4 L:=i6
  rw[G,List.drop_length,List.append_nil,<-u,qL]at f;refine⟨p,(f.box 2 i5).aE _ i5,?_⟩;refine(Ge p E r M (As:=[ak J 25 [xU ka 0,xU ka 0,xU ka 0],aq 3 r 1 az M,ak a3 25 [xU ka p.1,xU ka p.2.1,xU ka p.2.2]]) (St.cR 1 i5 λh' N=>N.1.seq (λ_=>rfl) N.2) i6 O f).mono ?_;rintro _ Q ⟨b,a,pw,da,D,rfl,T,f3,m⟩;refine⟨(dB b,0),i5,bH (λe=>absurd i5 e) λ_=>?_⟩;refine⟨p,(m.box 4 i5).aE _ i5,?_⟩;refine m.storeAll ag 2 i5 i5 [xU ka p.1,xU ka p.2.1,xU ka p.2.2] i5 i5 i5 i5 λh7 H=>?_;refine⟨A0,p,(H.box 2 i5).aE _ i5,b,a,pw,da,D,i5,T,f3,O,i6,H.aI 5 [0,1]⟩
variable {p:Pm} {m:au} {ds:aD} {rs:List DZ} {M:List Mv} {kvs:List (ByteArray×Sl)}
section
variable {C:Int->aL}
def pf(p:Pm)(m:au):Prop:=∀e∈m.aA,e.name∈oH/\e.length<=3*(p.1*p.2.2)+1
theorem pf.Nm(N:pf p m)(b:bh m=true):i4 m.aA<=5:=by
 have h:(m.aA.map Qw.bU.name).Nodup:=by have c:=((bG m).1 b).2.2.2.2.2.1;exact List.pairwise_map.2 (c.imp λh=>nE h)
 have:=pc h (m:=oH) λx a=>by
  obtain⟨e,d,rfl⟩:=qo.1 a;exact(N e d).1
 rw[qp]at this;exact this
theorem Tn.ajI(W:Tn p m C ds)(N:pf p m){name:ByteArray}(o:name∈oH){b:aL}(s:(i4 b:Int)<=3*(p.1*p.2.2)+1):
  ((∃e∈m.aA,e.name=name)/\dv m 0 Pow.new ds name b=(4,m,Pow.new,ds))∨((∀e∈m.aA,e.name≠name)/\((∃e,(e=7∨e=8)/\dv m 0 Pow.new ds name b=(e,m,Pow.new,ds))∨
   ∃t ds',dv m 0 Pow.new ds name b=(0,dK m ⟨name,m.next,i4 b,t⟩,Pow.new,ds')/\Tn p (dK m ⟨name,m.next,i4 b,t⟩) (jv C m.next b) ds')):=by
 have f:=agc name o;by_cases a:∃e∈m.aA,e.name=name
 .exact .inl ⟨a,aaP a f⟩
 have i:∀e∈m.aA,e.name≠name:=λe r h=>a ⟨e,r,h⟩;refine .inr ⟨i,?_⟩;have g:=W.pe;have n:=(bK m.p).1 W.sto.Dy;have j:0<m.p.1*m.p.2.2:=Int.mul_pos i6 i6;have u:=N.Nm W.sto.may;have c:cT m (cF Pow.new 0) ds name b.length=0∨cT m (cF Pow.new 0) ds name b.length=7:=by
  have q:m.aA.any (cJ name)=false:=by cases hh:m.aA.any (cJ name)with|false=>rfl|true=>exact absurd (tC.1 hh) a
  unfold cT;rw[g9 i7,f,g9 i7,q,g9 i7,g9 (by rw[g]at j⊢;omega)];split
  .exact .inr i5
  .exact .inl i5
 rcases Ly (offs:=0) (w:=Pow.new) (name:=name) (b:=b) iF W.sto with⟨⟨e,h0,h⟩,hc⟩|⟨_,t,ds',_,h,S,hat⟩
 .refine .inl ⟨e,?_,h⟩;rw[h]at hc;dsimp only at hc;rcases hc with hc|⟨_,⟨hc,_⟩|⟨hc,_⟩⟩
  .rcases c with c|c
   .exact absurd (hc.trans c) h0
   .exact .inl (hc.trans c)
  .exact .inr hc
  .exact .inl hc
 .refine .inr ⟨t,ds',h,S,W.dr,W.pe,aaD hat W.wt λk d l=>?_⟩;unfold rG;split
  .exact GM (IE l)
  .exact l
theorem Tn.del(W:Tn p m C ds){name:ByteArray}(a:∃e∈m.aA,e.name=name):dw m 0 Pow.new ds name=(7,m,Pow.new,ds)∨
  ∃ds',dw m 0 Pow.new ds name=(0,AF m (m.aA.findIdx (cJ name)),Pow.new,ds')/\Tn p (AF m (m.aA.findIdx (cJ name))) C ds':=by
 unfold dw;rw[g9 i7,tC.2 a,g9 i7];split
 .exact .inl i5
 .rename_i c;rcases W.Rc (n:=AF m (m.aA.findIdx (cJ name))) (adm W.sto.may i6 _) rfl rfl (Int.le_refl _) (λx b=>GK b) W.dr with h|⟨ds',h,W'⟩
  .exact .inl h
  .exact .inr ⟨ds',h,W'⟩
theorem fX.aA{b:au}(H:fX m C rs M kvs)(a:b.aA=m.aA):fX b C rs M kvs:=
 ⟨H.nd,by rw[a];exact H.len,λq d=>by rw[a];exact H.mem q d,λe c=>by rw[a]at c;exact H.all e c⟩
theorem pf.aA{a:au}(N:pf p m)(c:a.aA=m.aA):pf p a:=λe b=>by rw[c]at b;exact N e b
theorem pf.put(N:pf p m){name:ByteArray}(c:name∈oH){L o:Int}(b:L<=3*(p.1*p.2.2)+1){t:av}:pf p (dK m ⟨name,o,L,t⟩):=λe a=>by
 rcases kG.1 a with a|rfl
 .exact N e a
 .exact⟨c,b⟩
theorem pf.cut(N:pf p m){i:Nat}:pf p (AF m i):=λe a=>N e (GK a)
def KB(m:au)(ds:aD)(a:ByteArray)(l:List Qw.bU):Int×Bool:=l.foldl (λs e=>if e.name=a then(11,nK m ds e)else s) (5,false)
theorem aaW{a:ByteArray}{l:List Qw.bU}{i:Nat}(b:i<i4 l):KB m ds a (l.take (i+1))=if l[i].name=a then(11,nK m ds l[i])else KB m ds a (l.take i):=by unfold KB;rw[aG _ _ b,List.foldl_append];rfl
theorem Nn{a:ByteArray}:∀(l:List Qw.bU) (s:Int×Bool),(∀e∈l,e.name≠a)->l.foldl (λs e=>if e.name=a then(11,nK m ds e)else s) s=s
 |[],_,_=>rfl
 |e::l,s,h=>by
  rw[zA,g9 (h e qQ)];exact Nn l s λx b=>h x (qC _ b)
theorem No{b:ByteArray}{e:Qw.bU}:∀(l:List Qw.bU) (s:Int×Bool),(∀x∈l,x.name=b->x=e)->(e∈l∨s=(11,nK m ds e))->e.name=b->l.foldl (λs e=>if e.name=b then(11,nK m ds e)else s) s=(11,nK m ds e)
 |[],s,_,h,_=>by rcases h with h|h;cases h;exact h
 |x::l,s,hu,h,hn=>by
  rw[zA];refine No l _ (λy c=>hu y (qC _ c)) ?_ hn;by_cases a:x.name=b
  .rw[g0 a,hu x qQ a];exact .inr i5
  .rw[g9 a];rcases h with h|h
   .rcases List.mem_cons.1 h with h|h
    .exact absurd (by rw[<-h];exact hn) a
    .exact .inl h
   .exact .inr h
def ajJ(k:Int)(name:ByteArray)(sl:Sl)(b:au)(c:Int->aL)(ds':aD)(rs:List DZ)(M:List Mv)(a:List (ByteArray×Sl))(Y:oY)(A:HP):Prop:=
 (k=1/\((Y.1=4/\(cS name a).isSome=true/\fX b c rs M a)∨((Y.1=7∨Y.1=8)/\(cS name a).isSome=false/\fX b c rs M a)∨(Y.1=0/\(cS name a).isSome=false/\fX b c rs M (sN name sl a))))∨
 (k=3/\((Y.1=5/\(cS name a).isSome=false/\fX b c rs M a)∨(Y.1=7/\(cS name a).isSome=true/\fX b c rs M a)∨(Y.1=0/\(cS name a).isSome=true/\fX b c rs M (jD name a))))∨
 (k=2/\fX b c rs M a/\Y.1=(iI b 0 Pow.new ds' name).2/\A=EA (cG 1 aB) Y.2.1 (iI b 0 Pow.new ds' name).1)∨
 (k≠1/\k≠3/\k≠2/\fX b c rs M a)
theorem fX.isSome(H:fX m C rs M kvs){name:ByteArray}(h:∃e∈m.aA,e.name=name):(cS name kvs).isSome=true:=by obtain⟨e,a,rfl⟩:=h;exact Option.isSome_iff_ne_none.2 (H.all e a)
theorem fX.isNone(H:fX m C rs M kvs){name:ByteArray}(h:∀e∈m.aA,e.name≠name):cS name kvs=Option.none:=by
 cases hg:cS name kvs with
 |none=>rfl
 |some s=>
  obtain⟨e,b,a,_⟩:=fX.some H hg;exact absurd a (h e b)
end
variable {B:aw} {h0 h:Heap} {As:List HP} {a b:Addr} {da:List bL} {q:bL}
section
variable {pw:Addr} {C:Int->aL}
theorem aaX{rs:List DZ}{s:List Mv}{M:List (ByteArray×Sl)}{i:Nat}(hi:i<i4 s)(T:i<i4 rs)(y:pD)(hy:y=rs[i])(I:Tn p m C ds)(N:pf p m)(g:fX m C rs s M)(W:pd p s[i])(ad:p.1*p.2.2<=54)
  (Z:y.1=s[i].kind) (k2:y.2.1=s[i].name) (k3:y.2.2.2.1=s[i].slot) (k4:y.2.2.2.2.1=s[i].n) (k5:y.2.2.2.2.2.1=s[i].m) (k6:y.2.2.2.2.2.2.1=s[i].mask) (kc:y.2.2.1.len<=y.2.2.1.cap) (hS:St B h0 As λh=>Rd h y.2.2.1 1 aB s[i].data)
  (H:aa B h0 h (bo a pw da 0 Pow.new ds m::ak b 64 (dm q (dB a))::As)):
  ai kg 8 #[xW (dB b),mX y] h λv h'=>∃(Y:oY) (l:List bL) (ds':aD) (G:au) (C':Int->aL) (A:HP),v=nw Y/\Tn p G C' ds'/\pf p G/\ajJ y.1 y.2.1 y.2.2.1 G C' ds' rs s M Y A/\
   aa B h0 h' (A::bo a pw l 0 Pow.new ds' G::ak b 64 (dm q (dB a))::As):=by
 have x:=I.sto.may;have L:=λk d K=>(lY H).2 k d K;have P:=W;unfold pd at P;rw[<-Z,<-k2,<-k3,<-k4,<-k5,<-k6]at P;have c:∀{h':Heap} {X:List HP},aa B h0 h' X->aa B h0 h' (emp::X):=λ{h' X} H'=>(H'.comp (Sp.one (h:=h') (h':=h') (A:=emp) (aS.refl _ _) A0)).aZ;by_cases u:y.1=1
 .obtain⟨n1,n2⟩:y.2.1∈oH/\(s[i].data.length:Int)<=3*(p.1*p.2.2)+1:=by rw[k2];exact pd.put W (Z.symm.trans u)
  refine(Kw y u s[i].data hS kc (by have:=adl _ n1;omega) x i6 H).x8 λE f=>?_;rcases I.ajI N n1 n2 with⟨o,D⟩|⟨hno,⟨e,Q,D⟩|⟨t,ds',D,z⟩⟩
  .rw[D]at f⊢;exact⟨de 4,da,ds,m,C,emp,i5,I,N,.inl ⟨u,.inl ⟨i5,g.isSome o,g⟩⟩,c f⟩
  .rw[D]at f⊢;exact⟨de e,da,ds,m,C,emp,i5,I,N,.inl ⟨u,.inr (.inl ⟨Q,by rw[g.isNone hno];rfl,g⟩)⟩,c f⟩
  .rw[D]at f⊢;refine⟨de 0,da,ds',_,_,emp,i5,z,N.put n1 n2,.inl ⟨u,.inr (.inr ⟨i5,by rw[g.isNone hno];rfl,?_⟩)⟩,c f⟩;subst hy;exact g.put I.sto (g.isNone hno) T hi i5
 by_cases w:y.1=3
 .refine(Xt y w x H).x8 λE f=>?_;by_cases o:∃e∈m.aA,e.name=y.2.1
  .have V:=g.isSome o;rcases I.del o with D|⟨ds',D,z⟩
   .rw[D]at f⊢;exact⟨de 7,da,ds,m,C,emp,i5,I,N,.inr (.inl ⟨w,.inr (.inl ⟨i5,V,g⟩)⟩),c f⟩
   .rw[D]at f⊢;exact⟨de 0,da,ds',_,C,emp,i5,z,N.cut,.inr (.inl ⟨w,.inr (.inr ⟨i5,V,g.del x (Option.isSome_iff_ne_none.1 V)⟩)⟩),c f⟩
  .rw[ady o]at f⊢;exact⟨de 5,da,ds,m,C,emp,i5,I,N,.inr (.inl ⟨w,.inl ⟨i5,by rw[g.isNone λe Q h=>o ⟨e,Q,h⟩];rfl,g⟩⟩),c f⟩
 by_cases F:y.1=2
 .refine(Kx y F x H).y0 λr E R=>⟨_,da,ds,m,C,_,i5,I,N,.inr (.inr (.inl ⟨F,g,i5,i5⟩)),(H.comp R).aZ⟩
 by_cases e4:y.1=4
 .refine(Gg y e4 x i7 H).y0 λr E R=>⟨_,da,ds,m,C,emp,i5,I,N,.inr (.inr (.inr ⟨u,w,F,g⟩)),c (H.up R.ac)⟩
 by_cases e5:y.1=5
 .refine(Tz y e5 x H).y0 λr E R=>⟨_,da,ds,m,C,emp,i5,I,N,.inr (.inr (.inr ⟨u,w,F,g⟩)),c (H.up R.ac)⟩
 by_cases e6:y.1=6
 .refine(Xu y e6 x H).x8 λE ⟨l,f⟩=>?_;obtain⟨e,G,ds',D,z,O⟩:=I.add (slot:=y.2.2.2.1) i6 y.2.2.2.2.1;rw[D]at f⊢;exact⟨de e,l,ds',G,C,emp,i5,z,N.aA O,.inr (.inr (.inr ⟨u,w,F,g.aA O⟩)),c f⟩
 by_cases e7:y.1=7
 .refine(NM y e7 I H).mono ?_;rintro _ E ⟨⟨Y,rfl⟩,l,ds',G,z,O,f⟩;exact⟨Y,l,ds',G,C,emp,i5,z,N.aA O,.inr (.inr (.inr ⟨u,w,F,g.aA O⟩)),c f⟩
 by_cases e8:y.1=8
 .have ab:=aix x I.dr (λe Q=>by rw[I.pe];exact N e Q);refine(Rn y e8 i6 i6 i6 I H).mono ?_;rintro _ E ⟨⟨Y,rfl⟩,l,ds',z,f⟩;exact⟨Y,l,ds',m,C,emp,i5,z,N,.inr (.inr (.inr ⟨u,w,F,g⟩)),c f⟩
 by_cases e9:y.1=9
 .refine(TB y e9 x H).x8 λE f=>⟨de _,da,_,m,C,emp,i5,I.Eu _,N,.inr (.inr (.inr ⟨u,w,F,g⟩)),c f⟩
 by_cases U:y.1=10
 .refine(Rl y U x i6 H).mono ?_;rintro _ E ⟨⟨Y,rfl⟩,f⟩;obtain⟨g1,z⟩:=I.ajg (λk d K=>⟨(L k d K).1,(L k d K).2.1⟩) y.2.2.2.2.1 y.2.2.2.2.2.1;rw[g1]at f;exact⟨Y,da,_,m,C,emp,i5,z,N,.inr (.inr (.inr ⟨u,w,F,g⟩)),c f⟩
 have S:y.1=11:=i6
 refine(NL y S x i5 i6 i6 i6 H).mono ?_;rintro _ E ⟨Y,ds',rfl,J,f⟩;refine⟨Y,da,ds',m,C,emp,i5,?_,N,.inr (.inr (.inr ⟨u,w,F,g⟩)),c f⟩;rcases J with rfl|⟨k,d,K,j,hj,a,mask,hg,ha0,ha6,rfl⟩
 .exact I
 .exact I.lK K hj hg ⟨ha0,ha6⟩
end
theorem aiF:aH kg (zeroValue 34) (xV none 0 0):=by
 have h:(Tryz.prog.info? 34).bind (·.zero)=dB (xV none 0 0):=j6
 cases hf:Tryz.prog.info? 34 with
 |none=>rw[hf]at h;cases h
 |some f=>
  rw[hf]at h;refine(dj hf).bind ?_;rw[show f.zero=dB (xV none 0 0)from h];exact .pure
theorem KC(c0:Sl)(l:av)(s1:Sl)(l1:av)(al:Int)(h:Heap)(hs:Rd h c0 1 az l)(ca:Rd h s1 1 az l1):
  ai kg 3 #[c0,s1,xU ka al] h λv h'=>v=xY true/\aS (λb=>b<h.size) h h':=by
 refine ts Tryz.func3 ?_ (xc (xc (x6 [] [(6,7),(32,39)] (xc (u9 (xc (v7 (ws [(44,aR)] [(6,7),(11,18),(19,25),(44,214)] (xc (xc (u9 (v7 (xc (xc (xc (xc (u9 (xa [] [(6,7),(16,18),(19,20),(60,175)] (xc (v7 (xc (u9 (x6 [] [(6,7),(64,89)] v6) (xc (u9 (x6 [] [(6,7),(99,119)] v6) (xc (u9 (xc (u9 (xc (v7 (ws [(16,aR),(17,lj),(131,aR)] [(16,18),(19,20),(131,144)] v6))) (x6 [(16,aR)] [(16,17),(144,145)] v6))) v6))))))))) (xc (xc (xc (v7 (ws [(186,aR)] [(6,7),(21,25),(186,213)] v6))))))))))) v6)))))) v6)))));refine(cI al 60 _).x8 λhh G=>?_;rw[G];obtain⟨n,hn⟩:=z6 (al%60)
 rw[<-hn];refine⟨n,i5,(RC c0 l n _ i6 hs).mono ?_⟩;obtain⟨p,ax⟩:=z6 (kH l)
 have hp:bB p=true:=by rw[ax];exact MN _ _ _
 have b5:p.1<=6/\p.2.2<=9:=by rw[ax];unfold kH Ct;(try dsimp only);omega
 have d5:=(bK p).1 hp;have d2:p.1*p.2.2<=6*9:=Int.mul_le_mul b5.1 b5.2 i6 i6;rintro _ h1 ⟨b,a,pw,da,D0,rfl,f2,f3,e0,c8,H1⟩;obtain⟨L,hL⟩:=z6 (DH l n)
 rw[<-hL,<-ax]at f3 e0 H1;rw[<-hL]at c8;rw[<-ax];refine⟨(dB b,p),i5,H1.alloc ag i5 λa2 h2 H2=>?_⟩;refine H2.storeAll ag 2 i5 i5 [xU ka p.1,xU ka p.2.1,xU ka p.2.2] i5 i5 i5 i5 λh3 H3=>?_;have I0:Tn p (cV p (FV l) L) (λ_=>[]) D0:=by
  obtain⟨S0,_,_⟩:=Nd (m:=cV p (FV l) L) rfl e0 i6 f2 f3 λ_=>[];refine⟨S0,λk hk=>?_,i5,λk d hd=>?_⟩
  .have hk:k∈bz L L.length:=hk;obtain⟨i,hi,rfl⟩:=qo.1 (List.mem_filter.1 (show k∈List.filter _ _ from hk)).1;have:=List.mem_range.1 hi;omega
  .rw[f3]at hd;split at hd
   .injection hd with hd;rw[<-hd]
   .cases hd
 refine aJ (aP (λe=>j3) λ_=>?_);refine(Hq (H3.box 1 i5)).x7 ⟨dB a,i5,aP (λe=>j3) λ_=>?_⟩;refine H3.ahq Gi λmp h5 H5=>?_;refine⟨p,(H5.box 2 i5).aE _ i5,?_⟩;refine(Xc p s1 l1 22 h5 hp (ca.up H5.ac) i7).mono ?_;rintro _ h6 ⟨r,D,rfl,hM,du,R6⟩;obtain⟨rs,R6⟩:=R6.HD 0 rfl λ_=>rfl;have H6:=H5.comp R6;have H6:=H6.bO [0,1,4,3];refine⟨r,i5,?_⟩;have b7:rs.length=D.length:=(H6.dZ 2 i5).2.1;have ei:r.len=D.length:=by rw[(H6.dZ 2 i5).1.len,b7]
 refine an (λi:Nat=>(i:Int)) (λi h'=>i<=D.length/\∃da ds m C kvs,Tn p m C ds/\pf p m/\fX m C rs D kvs/\Sp h h' [bo a pw da 0 Pow.new ds m,ak b 64 (dm (dB pw) (dB a)),dn ki 9 md r rs D,ov mp Gi kvs]) (λi=>D.length-i) 0 i5 ⟨i6,da,D0,_,_,[],I0,λe G=>(by cases G),⟨List.Pairwise.nil,i5,λq V=>(by cases V),λe G=>(by cases G)⟩,H6⟩ ?_;rintro i h7 ⟨hi,da,ds,m,C,kvs,I,N,HK,H7⟩
 try dsimp only
 refine ae (λe=>?_) λe=>?_
 rotate_left
 .refine(TG h7).x8 λed R=>⟨true,i5,i5,(H7.up R).ac⟩
 have ar:i<D.length:=i6
 have hF:=H7.dZ 2 i5;have b1:i<rs.length:=i6
 refine hF.1.dO i i5 b1 rs[i] i5 ?_;refine H7.alloc ag i5 λap h9 H9=>?_;refine H9.storeAll ag 4 i5 i5 (md rs[i]) i5 i5 i5 i5 λec S=>?_;have hb:=S.box 4 i5;obtain⟨⟨k1,k2,k3,k4,k5,k6,kc⟩,kd,_,_⟩:=Fix.row (S.dZ 2 rfl) ar;have hk:pd p D[i]:=hM _ (qe ar);obtain⟨y,hy⟩:=z6 (rs[i])
 rw[<-hy]at hb k1 k2 k3 k4 k5 k6 kc S;refine⟨y.2.1,hb.cell i5,(S.map 3 i5).Py Gh Oc (u0:=⟨none,0,0⟩) aiF ⟨((cS y.2.1 kvs).getD ⟨none,0,0⟩,(cS y.2.1 kvs).isSome),i5,?_⟩⟩;refine(Hq (S.box 1 i5)).x7 ⟨dB a,i5,y,hb.aE _ i5,?_⟩;refine(aaX (As:=[dn ki 9 md r rs D,ov mp Gi kvs,ak ap 37 (md y)]) ar b1 y hy I N HK hk i6 k1 k2 k3 k4 k5 k6 kc (St.cR (A:=dn ki 9 md r rs D) 0 i5 λh' V=>(by rw[hy];exact(Fix.row V ar).2.1)) S).mono ?_;rintro _ d8 ⟨Y,F,ds',f,C',A,rfl,I',N',hR,cs⟩;refine⟨Y,i5,cs.alloc ag i5 λT eh cd=>?_⟩;refine cd.storeAll ag 6 i5 i5 (fI Y) i5 i5 i5 i5 λa8 U=>?_;have O:=U.box 5 i5;have a9:=U.box 6 i5;have w:cellOf a8 T=dB (xU ka Y.1):=a9.cell0 i5;have H:=I'.sto.may;refine bF (λ_ h'=>∃B,fX f C' rs D B/\Sp h h' [bo a pw F 0 Pow.new ds' f,ak b 64 (dm (dB pw) (dB a)),dn ki 9 md r rs D,ov mp Gi B]) ?_ ?_
 .have fin:fX f C' rs D kvs->∃B,fX f C' rs D B/\Sp h a8 [bo a pw F 0 Pow.new ds' f,ak b 64 (dm (dB pw) (dB a)),dn ki 9 md r rs D,ov mp Gi B]:=λo=>⟨kvs,o,U.bO [1,2,3,4]⟩
  refine⟨y.1,O.cell0 i5,?_⟩;rcases hR with⟨e1,hR⟩|⟨e3,hR⟩|⟨e2,o,hY,hA⟩|⟨n1,n3,n2,o⟩
  .rw[e1];refine aP (λ_=>?_) λe=>j3
   rcases hR with⟨hY,P,o⟩|⟨hY,P,o⟩|⟨hY,P,o⟩
   .rw[hY]at w;refine aJ ⟨4,w,?_⟩;rw[P];exact aP (λe=>j3) λ_=>⟨4,w,aP (λ_=>⟨4,w,aP (λe=>j3) λ_=>⟨4,w,aP (λe=>j3) λ_=>fin o⟩⟩) λe=>j3⟩
   .refine aJ ⟨Y.1,w,?_⟩;rw[P];rcases hY with hY|hY
    .rw[hY]at w⊢;exact aP (λe=>j3) λ_=>⟨7,w,aP (λ_=>⟨7,w,aP (λ_=>⟨7,w,aP (λe=>j3) λ_=>⟨7,w,aP (λe=>j3) λ_=>fin o⟩⟩) λe=>j3⟩) λe=>j3⟩
    .rw[hY]at w⊢;exact aP (λe=>j3) λ_=>⟨8,w,aP (λ_=>⟨8,w,aP (λ_=>⟨8,w,aP (λ_=>⟨8,w,aP (λe=>j3) λ_=>⟨8,w,aP (λe=>j3) λ_=>fin o⟩⟩) λe=>j3⟩) λe=>j3⟩) λe=>j3⟩
   .rw[hY]at w;refine aJ ⟨0,w,?_⟩;rw[P];refine aP (λe=>j3) λ_=>⟨0,w,aP (λe=>j3) λ_=>⟨0,w,aP (λ_=>?_) λe=>j3⟩⟩
    refine⟨y.2.1,O.cell i5,y.2.2.1,O.cell i5,?_⟩;refine U.ahr y.2.2.1 4 i5 Gh Oc λeg c1=>?_;exact⟨_,o,c1.bO [1,2,3,4]⟩
  .rw[e3];refine aP (λe=>j3) λ_=>aP (λ_=>?_) λe=>j3
   rcases hR with⟨hY,P,o⟩|⟨hY,P,o⟩|⟨hY,P,o⟩
   .rw[hY]at w;rw[P];exact aJ (aP (λe=>j3) λ_=>aP (λ_=>⟨5,w,aP (λe=>j3) λ_=>⟨5,w,aP (λe=>j3) λ_=>fin o⟩⟩) λe=>j3)
   .rw[hY]at w;rw[P];exact aJ (aP (λ_=>⟨7,w,aP (λ_=>⟨7,w,aP (λe=>j3) λ_=>aP (λe=>j3) λ_=>⟨7,w,aP (λe=>j3) λ_=>fin o⟩⟩) λe=>j3⟩) λe=>j3)
   .rw[hY]at w;rw[P];refine aJ (aP (λ_=>⟨0,w,aP (λe=>j3) λ_=>aP (λe=>j3) λ_=>⟨0,w,aP (λ_=>?_) λe=>j3⟩⟩) λe=>j3);refine⟨y.2.1,O.cell i5,?_⟩;refine U.ahs 4 i5 i5 Gh Oc λd0 cq=>?_;exact⟨_,o,cq.bO [1,2,3,4]⟩
  .rw[e2];refine aP (λe=>j3) λ_=>aP (λe=>j3) λ_=>aP (λ_=>?_) λe=>j3
   have b2:=U.aI 7 [1,0,2,3,4,5,6];refine(Ir H b2).y0 λz dy c4=>?_;have cp:=b2.comp c4;refine⟨z,i5,?_⟩;obtain⟨W,hW⟩:∃W:Nat->Int×Bool,W=λj=>KB f ds' y.2.1 (f.aA.take j):=⟨_,rfl⟩
   refine an (λj:Nat=>((W j).1,(W j).2,(j:Int))) (λj h'=>j<=f.aA.length/\Sp h h' [bo a pw F 0 Pow.new ds' f,A,ak b 64 (dm (dB pw) (dB a)),dn ki 9 md r rs D,ov mp Gi kvs,ak ap 37 (md y),ak T 44 (fI Y),bJ z f]) (λj=>f.aA.length-j) 0 (by rw[hW];rfl) ⟨zj _,cp⟩ ?_;rintro j J ⟨hj,K⟩
   try dsimp only
   have hx:cN J z f:=K.at 7 i5;obtain⟨ys,q1,q2,q3⟩:=bM.kI hx.aA;have eb:=q1.len;have dx:f.aA.length<=12:=((bG f).1 H).2.2.2.1;refine ae (λe4=>?_) λe4=>?_
   .have ao:j<f.aA.length:=i6
    have b0:j<ys.length:=i6
    obtain⟨e,G⟩:=z6 (f.aA[j])
    have c6:e∈f.aA:=by rw[G];exact qe ao
    have a7:=q3 j b0 ao;rw[<-G]at a7;obtain⟨x,bb⟩:=z6 (ys[j])
    rw[<-bb]at a7;obtain⟨⟨x1,x2,x3⟩,x4⟩:=a7;have dr:e.tries.length<=8:=by have g1:=(gb f e).1 (((bG f).1 H).2.2.2.2.1 e c6);have g2:=mA g1.2.2.1.2;omega
    refine q1.dO (g:=bW) j i5 b0 x (by rw[bb]) ?_;refine(Sp.refl J).alloc ag i5 λd6 cl c2=>?_;refine c2.storeAll ag 0 i5 i5 (bW x) i5 i5 i5 i5 λd3 b4=>?_;have am:=K.comp b4;have ay:=am.box 8 i5;have a0:=am.box 5 i5;have next:∀{h':Heap} {br:List HP} {u:Int} {c:Bool},(u,c)=W (j+1)->Sp h h' (bo a pw F 0 Pow.new ds' f::A::ak b 64 (dm (dB pw) (dB a))::dn ki 9 md r rs D::ov mp Gi kvs::ak ap 37 (md y)::ak T 44 (fI Y)::bJ z f::br)->
      ∃t:Nat,(u,c,(qd ka ((j:Int)+1):Int))=((W t).1,(W t).2,(t:Int))/\(t<=f.aA.length/\Sp h h' [bo a pw F 0 Pow.new ds' f,A,ak b 64 (dm (dB pw) (dB a)),dn ki 9 md r rs D,ov mp Gi kvs,ak ap 37 (md y),ak T 44 (fI Y),bJ z f])/\f.aA.length-t<f.aA.length-j:=λ{h' br u c} hc H'=>
     ⟨j+1,by rw[af _,<-hc];rfl,⟨ao,aa.HG (As:=[_,_,_,_,_,_,_,_]) (H'.aI 8 [0,1,2,3,4,5,6,7])⟩,i6⟩
    have bd:W (j+1)=if e.name=y.2.1 then(11,nK f ds' e)else W j:=by rw[hW];(try dsimp only);rw[aaW ao,G]
    refine⟨x.1,ay.cell0 i5,y.2.1,a0.cell i5,?_⟩;rw[x1];refine aP (λV=>?_) λV=>?_
    .have V:e.name=y.2.1:=nW (by simpa using V);refine⟨x,ay.aE _ i5,(TF x e H x2 (Seq.up x4 b4.ac) dr am).x8 λef c7=>?_⟩;exact⟨_,i5,next (by rw[bd,g0 V]) (am.up c7.ac)⟩
    .have V:¬e.name=y.2.1:=λh=>by rw[h]at V;simp at V
     exact next (by rw[bd,g9 V]) am
   have ce:j=f.aA.length:=i6
   have Q:W j=KB f ds' y.2.1 f.aA:=by rw[hW,ce];(try dsimp only);rw[qL]
   have E:cellOf J T=dB (xU ka Y.1):=(K.box 6 i5).cell0 i5;have ad:cellOf J (T.add 1)=dB (xV Y.2.1.ptr Y.2.1.len Y.2.1.cap):=(K.box 6 i5).cell i5;have Z:∃B,fX f C' rs D B/\Sp h J [bo a pw F 0 Pow.new ds' f,ak b 64 (dm (dB pw) (dB a)),dn ki 9 md r rs D,ov mp Gi B]:=⟨kvs,o,K.bO [0,2,3,4]⟩
   have M:Rd J Y.2.1 1 aB (iI f 0 Pow.new ds' y.2.1).1:=by have:=K.at 1 i5;rw[hA]at this;exact this
   by_cases bs:∃e∈f.aA,e.name=y.2.1
   .obtain⟨e,G,X⟩:=bs;have P:(cS y.2.1 kvs).isSome=true:=o.isSome ⟨e,G,X⟩;have Q:W j=(11,nK f ds' e):=by rw[Q];exact No _ _ (λx hx c9=>FP H hx G (c9.trans X.symm)) (.inl G) X
    rw[Q];obtain⟨s,hs⟩:=Option.isSome_iff_exists.1 P;obtain⟨e',cf,bk,j',ea,cn,cc,bq⟩:=o.some hs;have b9:e'=e:=FP H cf G (bk.trans X.symm);rw[b9]at bq;have dd:Rd J s 1 aB (C' e.object):=by rw[cc,bq];exact(Fix.row (K.dZ 3 i5) cn).2.1
    have a4:iI f 0 Pow.new ds' y.2.1=if nK f ds' e=true then(C' e.object,0)else([],11):=by rw[<-X];exact(I'.sto.get i5 e.name).1 e G i5
    rw[a4]at hY M;have cr:(C' e.object).length<=2^40:=by have:=(I'.sto.ents _ G).1;have:=((gb f _).1 (I'.sto.entry G)).2.2.1;rw[I'.pe]at this;omega
    rw[hs]
    try dsimp only
    cases hc:nK f ds' e with
    |true=>
     rw[hc,g0 rfl]at hY M;rw[hY]at E;refine aJ (aP (λ_=>⟨0,E,aP (λe=>j3) λ_=>aP (λe=>j3) λ_=>aP (λ_=>⟨Y.2.1,ad,?_⟩) λe=>j3⟩) λe=>j3);refine(VR Y.2.1 s _ _ J M dd cr).x7 ⟨_,i5,aP (λe=>by simp at e) λ_=>aP (λe=>j3) λ_=>Z⟩
    |false=>
     rw[hc,g9 i7]at hY M;rw[hY]at E;refine aJ (aP (λe=>j3) λ_=>⟨11,E,aP (λe=>j3) λ_=>aP (λe=>j3) λ_=>aP (λe=>j3) λ_=>aP (λ_=>⟨Y.2.1,ad,?_⟩) λe=>j3⟩);exact ae (λe=>by have:=M.len;simp at this;omega) λ_=>Z
   .have a5:∀e∈f.aA,e.name≠y.2.1:=λe G h=>bs ⟨e,G,h⟩;have hN:=o.isNone a5;have Q:W j=(5,false):=by rw[Q];exact Nn _ _ a5
    rw[Q];have a4:iI f 0 Pow.new ds' y.2.1=([],5):=(I'.sto.get i5 y.2.1).2 a5;rw[a4]at hY M;rw[hY]at E;rw[hN]
    try dsimp only
    refine aJ (aP (λe=>j3) λ_=>⟨5,E,aP (λe=>j3) λ_=>aP (λe=>j3) λ_=>aP (λe=>j3) λ_=>aP (λ_=>⟨Y.2.1,ad,?_⟩) λe=>j3⟩);exact ae (λe=>by have:=M.len;simp at this;omega) λ_=>Z
  .exact aY (λe=>absurd e n1) λ_=>aY (λe=>absurd e n3) λ_=>aY (λe=>absurd e n2) λ_=>fin o
 rintro _ d9 ⟨ah,a6,b6⟩;refine(Gg (4,ri,cZ,0,0,0,0,cZ,cZ) i5 H i7 b6).y0 λnr d7 a1=>?_;have en:oK f 0 Pow.new=f.aA.map Qw.bU.name:=by unfold oK;rfl
 rw[en]at a1;have cm:nr.len=f.aA.length:=by rw[(a1.own 0 i5).len,qp]
 have bl:=b6.comp a1;have d4:=N'.Nm H;have dk:=((bG f).1 H).2.2.2.2.2.1;refine⟨((0,cZ,nr,0,0,0,cZ,0):oY),i5,?_⟩;refine(bl.map 3 i5).len i5 Gh (bH (λe3=>absurd (by show(nr.len:Int)=_;rw[cm,a6.len]) e3) λ_=>?_);refine an (λi:Nat=>(i:Int)) (λi h'=>i<=f.aA.length/\Sp h h' [bo a pw F 0 Pow.new ds' f,ak b 64 (dm (dB pw) (dB a)),dn ki 9 md r rs D,ov mp Gi ah,aq 9 nr 1 ui (f.aA.map Qw.bU.name)]) (λi=>f.aA.length-i) 0 i5 ⟨i6,bl⟩ ?_;rintro k c5 ⟨ej,ab⟩
 try dsimp only
 refine ae (λe2=>?_) λe2=>?_
 .have a3:k<f.aA.length:=i6
  refine(ab.seq 4 i5 λ_=>rfl).bm k i5 (by rw[qp];exact a3) (f.aA[k]).name (by rw[zU]) ?_;obtain⟨u,hu⟩:=Option.ne_none_iff_exists'.1 (a6.all _ (qe a3));refine(ab.map 3 i5).Py Gh Oc (u0:=⟨none,0,0⟩) aiF ⟨(u,true),by rw[hu];rfl,?_⟩;have K8:∃t':Nat,qd ka ((k:Int)+1)=(t':Int)/\(t'<=f.aA.length/\Sp h c5 [bo a pw F 0 Pow.new ds' f,ak b 64 (dm (dB pw) (dB a)),dn ki 9 md r rs D,ov mp Gi ah,aq 9 nr 1 ui (f.aA.map Qw.bU.name)])/\f.aA.length-t'<f.aA.length-k:=
   ⟨k+1,j4,⟨i6,ab⟩,i6⟩
  refine aP (λe=>by simp at e) λ_=>ae (λe3=>?_) λ_=>K8;have e3:(0:Int)<(k:Int):=e3;have ew:qd ka ((k:Int)-1)=((k-1:Nat):Int):=j7
  rw[ew];have b3:k-1<f.aA.length:=i6
  refine(ab.seq 4 i5 λ_=>rfl).bm (k-1) i5 (by rw[qp];exact b3) (f.aA[k-1]).name (by rw[zU]) ?_;have dp:Op.bytesLess (f.aA[k-1]).name.toList (f.aA[k]).name.toList=true:=List.pairwise_iff_getElem.1 dk _ _ b3 a3 i6;rw[dp];exact aP (λe=>by simp at e) λ_=>K8
 exact⟨i+1,j4,⟨i6,F,ds',f,C',ah,I',N',a6,ab.bO [0,1,2,3]⟩,i6⟩
end Go.Qw
