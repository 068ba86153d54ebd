/- Lemmas for the proof of the law; no condition. -/
import Derived.Test.YtodpiocopjpjpaaGreatDoorKB
set_option maxHeartbeats 2000000
set_option linter.unusedVariables false
set_option maxHeartbeats 4000000
set_option linter.unusedSimpArgs false
open Go.Proofs.Tryz renaming prog -> kg
open Go.Value renaming agg -> xZ, bool -> xY, int -> xU, pointer -> xW, slice -> xV, string -> xX
open Go.IntKind renaming bits -> qz, i64 -> ka, u32 -> ke, u8 -> kb, wrap -> qd
open Nat renaming le_of_ble_eq_true -> zC
open List renaming drop -> xS, drop_length -> yu, eq_replicate_iff -> xk, getElem?_zip_eq_some -> vE, length_eq_zero_iff -> va, map_set -> xd, mem_iff_getElem? -> yP, range -> qn, range' -> zJ, replicate -> qf, replicate_zero -> yJ, zipWith -> zc
open Option renaming some -> wj
open Bool renaming and_eq_false_iff -> vj, eq_iff_iff -> vM
open Go.Instr renaming makeSlice -> zx, storeAt -> qF
open BitVec renaming ofInt -> qG
open Prod renaming fst -> qD, snd -> zw
set_option maxRecDepth 100000
open Option renaming some -> dB, none -> eH
open Bool renaming true -> eS, false -> eX
open Go renaming Addr -> f7
open Go.Qw renaming cellOf -> f8, Heap -> f9
open List renaming length -> i4
open Go.Qw.cO renaming two -> u9, n -> v6, inn -> v7, loop -> ws, join -> xa, tn -> xc, lp -> x0, jn -> x6
namespace Go.Qw
open Go.Proofs
variable {B:aw} {h0 h:f9} {As:List HP} {a:f7} {offs:Int} {da:List bL} {w:Pow} {ds:aD} {mc:aW}
section
variable {pw:f7}
theorem nI{k:Int}{d:be}(e:aT ds k=dB d)(H:aa B h0 h (bc bi a pw mc offs da w ds::As)):∃(b:f7) (s g:Sl),gc da k=dB b/\bN h b 168 (fQ pw d s g)/\fm h s 1 aB d.l/\iB d:=by
 obtain⟨ok,_⟩:=aa.cj H;rcases mz ok k with⟨h1,_⟩|⟨n,d',b,rfl,hn,h1,h2,h3,h4⟩
 .rw[h1]at e;cases e
 .rw[h2]at e;injection e with e
  subst e;obtain⟨m,c,j⟩:=Qw.aa.iM H h1;rw[h3]at c;injection c with c
  injection c with c
  subst c;obtain⟨f,s,g,i⟩:=aa.rk j;exact⟨b,s,g,h4,i.box 0 i5,(i.aI 2 [1,0]).Cb λ_=>rfl,f⟩
theorem ZC{k:Int}(c:aT ds k=eH)(H:aa B h0 h (bc bi a pw mc offs da w ds::As)):gc da k=eH:=by
 obtain⟨ok,_⟩:=aa.cj H;rcases mz ok k with⟨_,h2⟩|⟨n,d',b,rfl,hn,h1,h2,h3,h4⟩
 .exact h2
 .rw[h2]at c;cases c
theorem rD{k:Int}(H:aa B h0 h (bc bi a pw mc offs da w ds::As)):ai kg 29 #[xW (dB a),xU ka k] h λv h'=>v=.pointer (gc da k)/\h'=h:=by obtain⟨ok,b⟩:=aa.cj H;exact lC k ok b
theorem FF{k:Int}{d:be}{b:f7}(x:bw)(m:au)(f:aT ds k=dB d)(o:gc da k=dB b)(p:cN h x m)(i:cw m)(H:aa B h0 h (bc bi a pw mc offs da w ds::As)):
  ai kg 28 #[xW (dB b),eO x] h λv h'=>v=xY (ju m d.l)/\Sp h h' []:=by
 obtain⟨q,s,n,c,e,j,g⟩:=nI f H;rw[o]at c;injection c with c
 subst c;exact Wo b pw d s n x m h e j g p i
end
theorem ahZ{order:av}(a:order≠[])(id:Nat):fu order id=order[id%i4 order]'(yW _ (by cases order with|nil=>exact absurd rfl a|cons=>simp)):=by
 have c:0<i4 order:=by cases order with|nil=>exact absurd rfl a|cons=>simp
 have b:=yW id c;unfold fu JL;rw[g9 (by rintro(h|h);exact a h;omega)];have e:((id:Int)%(i4 order:Int)).toNat=id%i4 order:=i6
 rw[e,qg,qc b];rfl
def Ct(a b c:Int):Int×Int×Int:=(1+a%6,1+b%3,1+c%9)
theorem Wv(a b c:Int)(h:f9):ai kg 33 #[xU ka a,xU ka b,xU ka c] h λv h'=>v=ir (Ct a b c)/\Sp h h' []:=by
 refine Ah a b c ?_;refine(Sp.refl h).alloc ag i5 λx e g=>?_;refine(cI a 6 e).mono ?_;rintro v f ⟨rfl,rfl⟩;refine⟨_,i5,(cI b 3 f).mono ?_⟩;rintro v h3 ⟨rfl,rfl⟩;refine⟨_,i5,(cI c 9 h3).x7 ?_⟩;refine⟨_,i5,?_⟩
 try dsimp only
 rw[af _,af _,af _];refine g.storeAll ag 0 i5 i5 [xU ka (1+a%6),xU ka (1+b%3),xU ka (1+c%9)] i5 i5 i5 i5 λi d=>?_;exact⟨Ct a b c,(d.box 0 i5).aE _ i5,i5,.zip d.ac⟩
theorem MN(a b c:Int):bB (Ct a b c)=eS:=by
 rw[bK];unfold Ct
 try dsimp only
 omega
def bo(a pw:f7)(b:List bL)(offs:Int)(w:Pow)(ds:aD)(m:au):HP:=HP.ex λx:bw=>(bc bi a pw (aV x) offs b w ds).sep (bJ x m)
variable {m:au}
section
variable {pw:f7}
theorem fg(H:aa B h0 h (bo a pw da offs w ds m::As)):∃x,aa B h0 h (bc bi a pw (aV x) offs da w ds::bJ x m::As):=by obtain⟨x,H⟩:=H.sI;exact⟨x,H.sZ.oy⟩
theorem jb{x:bw}(H:aa B h0 h (bc bi a pw (aV x) offs da w ds::bJ x m::As)):aa B h0 h (bo a pw da offs w ds m::As):=
 aa.wn (F:=λx:bw=>(bc bi a pw (aV x) offs da w ds).sep (bJ x m)) x H.oy.mh
theorem lY(H:aa B h0 h (bo a pw da offs w ds m::As)):i4 ds=64/\∀k d,aT ds k=dB d->i4 d.l<=d.room/\d.room<=512/\iB d:=by obtain⟨x,H⟩:=fg H;obtain⟨ok,_⟩:=aa.cj H;refine⟨ok.ls,λk d e=>?_⟩;obtain⟨b,s,f,_,_,_,c⟩:=nI e H;exact⟨c.len,c.room,c⟩
theorem afM(name:ByteArray)(s:Sl)(b:aL)(f:St B h0 As λh=>Rd h s 1 aB b)(e:s.len<=s.cap)(g:name.size<=2^40)(c:bh m=eS)(d:i4 b<=2^20)(H:aa B h0 h (bo a pw da offs w ds m::As)):
  ai kg 39 #[xW (dB a),xX name,s] h λv h'=>v=xU ka (dv m offs w ds name b).1/\
   aa B h0 h' (bo a pw da offs (dv m offs w ds name b).2.2.1 (dv m offs w ds name b).2.2.2 (dv m offs w ds name b).2.1::As):=by
 obtain⟨x,H⟩:=fg H;obtain⟨n,l,i,j⟩:=(dl m).1 ((bG m).1 c).1;refine(acB x m name s b f e g (gI c) i j (gB c) (gy c) i6 i6 d H).mono ?_;rintro _ h' ⟨rfl,y,k⟩;exact⟨i5,jb k⟩
theorem afN(slot cells:Int)(c:bh m=eS)(H:aa B h0 h (bo a pw da offs w ds m::As)):
  ai kg 18 #[xW (dB a),xU ka slot,xU ka cells] h λv h'=>v=xU ka (jL m offs w ds slot cells).1/\
   ∃b,aa B h0 h' (bo a pw b offs (jL m offs w ds slot cells).2.2.1 (jL m offs w ds slot cells).2.2.2 (jL m offs w ds slot cells).2.1::As):=by
 obtain⟨x,H⟩:=fg H;refine(ZB slot cells x m c H).mono ?_;rintro _ h' ⟨rfl,y,b,d⟩;exact⟨i5,b,jb d⟩
theorem Iq(b:bh m=eS)(H:aa B h0 h (bo a pw da offs w ds m::As)):
  ai kg 27 #[xW (dB a)] h λv h'=>∃r:Sl,v=r/\Sp h h' [aq 3 r 1 az (aK ds m.drives)]:=by
 obtain⟨x,H⟩:=fg H;exact dt x m (H.at 1 i5) (gI b) H
theorem Ir(b:bh m=eS)(H:aa B h0 h (bo a pw da offs w ds m::As)):
  ai kg 9 #[xW (dB a)] h λv h'=>∃y:bw,v=eO y/\Sp h h' [bJ y m]:=by
 obtain⟨x,H⟩:=fg H;exact lT x m (H.at 1 i5) (gI b) H
theorem Bq(k:Int)(H:aa B h0 h (bo a pw da offs w ds m::As)):ai kg 29 #[xW (dB a),xU ka k] h λv h'=>v=.pointer (gc da k)/\h'=h:=by obtain⟨x,H⟩:=fg H;exact rD H
theorem GG{k:Int}{d:be}(e:aT ds k=dB d)(H:aa B h0 h (bo a pw da offs w ds m::As)):∃b,gc da k=dB b:=by obtain⟨x,H⟩:=fg H;obtain⟨b,_,_,c,_⟩:=nI e H;exact⟨b,c⟩
theorem ZD{k:Int}{d:be}{b:f7}(z:bw)(n:au)(c:aT ds k=dB d)(f:gc da k=dB b)(g:cN h z n)(e:cw n)(H:aa B h0 h (bo a pw da offs w ds m::As)):
  ai kg 28 #[xW (dB b),eO z] h λv h'=>v=xY (ju n d.l)/\Sp h h' []:=by
 obtain⟨x,H⟩:=fg H;exact FF z n c f g e H
theorem Is{k:Int}{d:be}{b:f7}(g:aT ds k=dB d)(n:gc da k=dB b)(H:aa B h0 h (bo a pw da offs w ds m::As)):∃s e:Sl,bN h b 168 (fQ pw d s e)/\fm h s 1 aB d.l/\iB d:=by
 obtain⟨x,H⟩:=fg H;obtain⟨o,s,e,c,f,j,i⟩:=nI g H;rw[n]at c;injection c with c
 subst c;exact⟨s,e,f,j,i⟩
theorem MO(o b:Int)(e:bh m=eS)(H:aa B h0 h (bo a pw da offs w ds m::As)):
  ai kg 30 #[xW (dB a),xU ka o,xU ka b] h λv h'=>∃r:Sl,v=r/\Sp h h' [fC 22 r 3 1 az (dz m ds o b (aK ds m.drives))]:=by
 have c:=(lY H).2;obtain⟨x,H⟩:=fg H;exact Wk x m o b (H.at 1 i5) (gI e) (gy e) (λk d f=>by have:=c k d f;omega) H
theorem It(H:aa B h0 h (bo a pw da offs w ds m::As)):ai kg 43 #[xW (dB a)] h λv h'=>v=xY (cF w offs)/\h'=h:=by obtain⟨x,H⟩:=fg H;exact sg H
end
def dU(m:au):av->Pow->aD->Int×Pow×aD
 |[],w,ds=>(0,w,ds)
 |k::l,w,ds=>match aT ds k with
  |none=>dU m l w ds
  |some d=>if d.l=cz m d.l then dU m l w ds else
   if(d.rewrite w (cz m d.l)).1=0 then dU m l (d.rewrite w (cz m d.l)).2.1 (ck ds k (d.rewrite w (cz m d.l)).2.2)
   else((d.rewrite w (cz m d.l)).1,(d.rewrite w (cz m d.l)).2.1,ck ds k (d.rewrite w (cz m d.l)).2.2)
theorem SD(a b:Sl)(c f:ct)(h:f9)(p:fm h a 1 aB c)(q:fm h b 1 aB f)(y:i4 c<=2^30):
  ai kg 129 #[a,b,.func (.func 82) #[] #[]] h λv h'=>v=xY (decide (c=f))/\h'=h:=by
 refine ts Tryz.func129 ?_ (xc (xc (x0 [(17,aR)] [(6,10),(17,32)]))) (args:=[a,b,(.func (.func 82) #[] #[])]);have j:=p.len;have k:=q.len;refine bH (λe=>⟨?_,i5⟩) λe=>?_
 .rw[ii λh=>e (by rw[j,k,h])]
 have x:i4 c=i4 f:=i6
 refine an (λi:Nat=>(i:Int)) (λi h'=>i<=i4 c/\c.take i=f.take i/\h'=h) (λi=>i4 c-i) 0 i5 ⟨i6,js,i5⟩ ?_;rintro i w ⟨z,l,rfl⟩;refine ae (λo=>?_) (λo=>?_)
 .have d:i<i4 c:=by have t:(i:Int)<(a.len:Int):=o;omega
  refine p.get i i5 d λr s=>q.get i i5 i6 λu g=>eJ k8 ?_;refine(ro r u _ _ w s g).x7 ⟨_,i5,aX (λm=>⟨?_,i5⟩) λm=>?_⟩
  .rw[ii λh=>of_decide_eq_false m (by simp only[h])]
  .refine⟨i+1,j4,⟨i6,?_,i5⟩,i6⟩;rw[aG _ _ d,aG _ _ (show i<i4 f by omega),l,i0 m]
 .have t:¬(i:Int)<(a.len:Int):=o;rw[qh i6,qh i6]at l;exact⟨by rw[hU l],i5⟩
abbrev fK(a:f7)(y:bw)(b:Sl)(t most k:Int):aW:=xW (dB a)::(aV y++[xV b.ptr b.len b.cap,xU ka t,xU ka most,xU ka k])
section
variable {pw:f7}
theorem SE{k:Int}{d:be}{b:f7}(x:Sl)(l:ct)(r:St B h0 As λh=>fm h x 1 aB l)(A:i4 l<=2^20)(i:∀c∈l,i4 c<=2^20)(f:aT ds k=dB d)(j:gc da k=dB b)(H:aa B h0 h (bo a pw da offs w ds m::As)):
  ai kg 124 #[xW (dB b),x] h λv h'=>v=xU ka (d.rewrite w l).1/\aa B h0 h' (bo a pw da offs (d.rewrite w l).2.1 (ck ds k (d.rewrite w l).2.2) m::As):=by
 obtain⟨y,H⟩:=fg H;obtain⟨ok,_⟩:=aa.cj H;obtain⟨n,rfl,E⟩:=kl f;have q:ds[n]?=dB (dB d):=by
  unfold aT at f;rw[g0 i6,qj]at f;cases hX:ds[n]? with
  |none=>rw[hX]at f;cases f
  |some o=>rw[hX]at f;exact congrArg dB f
 obtain⟨t,g,s⟩:=Qw.aa.iM H q;have p:t=b:=by unfold gc at j;rw[g0 i6,qj,g]at j;injection j
 subst p;refine(Fm x l s (λBs h' D=>(r.cons.cons) Bs h' D) A i).mono ?_;rintro _ h' ⟨rfl,z⟩;have u:=Qw.aa.nz (k:=bi) (n:=n) g z;refine⟨i5,?_⟩;have e:ck ds (n:Int) (d.rewrite w l).2.2=ds.set n (dB (d.rewrite w l).2.2):=by simp only[ck,qj]
 rw[e];exact jb u
theorem NA{m:au}{l:ct}(b:cw m)(d:i4 l<=512):i4 (cz m l)<=4000/\∀c∈cz m l,i4 c<=64:=by
 refine⟨?_,λc a=>?_⟩
 .have:=iN m b;have:=uI m l;unfold cz;rw[qu];omega
 .unfold cz at a;rcases qt.1 a with a|a
  .exact Nat.le_of_eq (uv a)
  .exact Hj a
theorem Ww{c:f7}(y:bw)(M:Sl)(live:av)(t most k:Int)(hm:bh m=eS)(hl:i4 live<=64)(r:∀k∈live,∃d,aT ds k=dB d)
  (V:St B h0 As λh=>bN h c 118 (fK a y M t most k)/\cN h y m/\Rd h M 1 az live) (H:aa B h0 h (bo a pw da offs w ds m::As)):
  ai kg 64 #[xW (dB c)] h λv h'=>v=xU ka (dU m live w ds).1/\aa B h0 h' (bo a pw da offs (dU m live w ds).2.1 (dU m live w ds).2.2 m::As):=by
 refine ts Tryz.func64 ?_ (xc (x0 [(13,aR)] [(2,3),(4,8),(13,40)]));have hz:=gI hm;have z:=V.at [_] H;have Z:=z.2.2.len;refine⟨c,i5,M,z.1.cell i5,?_⟩;refine an (λt:Nat×Pow×aD=>(t.1:Int)) (λt h'=>t.1<=i4 live/\(∀k∈live,∃d,aT t.2.2 k=dB d)/\dU m live w ds=dU m (live.drop t.1) t.2.1 t.2.2/\aa B h0 h' (bo a pw da offs t.2.1 t.2.2 m::As)) (λt=>i4 live-t.1) (0,w,ds) i5 ⟨i6,r,i5,H⟩ ?_;rintro⟨i,q,o⟩ h1 ⟨hi,f,g,p⟩;dsimp only at hi f g p⊢;obtain⟨D,hy,U⟩:=V.at [_] p;refine ae (λe=>?_) λe=>?_
 .have u:i<i4 live:=i6
  obtain⟨d,x⟩:=f live[i] (qe u);obtain⟨b,R⟩:=GG x p;refine U.bm i i5 u live[i] i5 ⟨c,i5,dB a,D.cell0 i5,(Bq _ p).x7 ?_⟩;rw[R];obtain⟨s,W,K,q2,F⟩:=Is x R p;have Y:=F.len;have O:=F.room;obtain⟨k1,k2⟩:=NA hz (show d.l.length<=512 by omega);refine⟨_,i5,c,i5,y,D.cells 1 _ i5,(Fo s W y m K q2 F hy hz).y0 λj h3 J=>?_⟩;refine⟨j,i5,(Ii s W (K.ac J.ac K.lt) (q2.up J.ac) F).y0 λE h4 P=>?_⟩;have N:fm h4 j 1 aB (cz m d.l):=(J.Cb λ_=>rfl).up P.ac;refine⟨E,i5,(SD E j _ _ h4 (P.Cb λ_=>rfl) N i6).x7 ?_⟩;have Q:live.drop i=live[i]::live.drop (i+1):=qJ u;have X:=(p.bS J).up P.ac;refine⟨_,i5,ae (λG=>?_) λG=>?_⟩
  .refine⟨(i+1,q,o),j0,⟨i9,f,?_,X.aI 1 []⟩,i9⟩;rw[g,Q];show dU m (live[i]::live.drop (i+1)) q o=dU m (live.drop (i+1)) q o;rw[dU,x]
   try dsimp only
   rw[g0 G]
  .obtain⟨rs,T⟩:=X.VV λ_=>rfl;have T:=T.aI 2 [1,0];refine(SE j (cz m d.l) (St.cR (A:=dn (cG 1 aB) 1 bx j rs (cz m d.l)) 0 i5 λh' S=>⟨rs,S.1,S.2.1,S.2.2⟩) i6 (λc hc=>by have:=k2 c hc;omega) x R T).x8 λh6 I=>?_;have I:=I.aI 2 [0];refine⟨_,i5,bH (λL=>?_) λL=>?_⟩
   .have ec:dU m live w ds=((d.rewrite q (cz m d.l)).1,(d.rewrite q (cz m d.l)).2.1,ck o live[i] (d.rewrite q (cz m d.l)).2.2):=by
     rw[g,Q,dU,x]
     try dsimp only
     rw[g9 G,g9 L]
    rw[ec];exact⟨i5,I⟩
   .refine⟨(i+1,(d.rewrite q (cz m d.l)).2.1,ck o live[i] (d.rewrite q (cz m d.l)).2.2),j0,⟨i9,λk hk=>?_,?_,I⟩,i9⟩
    .try dsimp only
     rw[jK (lY p).1 x];split
     .exact⟨_,i5⟩
     .exact f k hk
    .try dsimp only
     rw[g,Q,dU,x]
     try dsimp only
     rw[g9 G,g0 (by simpa using L)]
 .have:i=i4 live:=i6
  subst this;rw[yu]at g;rw[g];exact⟨i5,p⟩
end
def ints(l:List Nat):av:=l.map λx:Nat=>(x:Int)
theorem lE(l:List Nat):i4 (ints l)=i4 l:=by simp[ints]
theorem Iu{l:List Nat}{k:Nat}(h:k<i4 l):(ints l)[k]'(by rw[lE];exact h)=(l[k]:Int):=by simp[ints]
theorem Um{n:Nat}:∀{j i:Nat},i<=j->2*j<=n->ch n i<=ch n j
 |0,i,h,_=>by
   have:i=0:=i6
   subst this;exact qi _
 |j+1,i,h,hj=>by
  by_cases a:i=j+1
  .subst a;exact qi _
  .exact qM (Um i6 i6) (aiS i6)
theorem Cu(n t:Int)(h:f9):ai kg 128 #[xU ka n,xU ka t] h λv h'=>v=xY (decide (0<=n/\n<=64/\0<=t/\t<=n))/\h'=h:=by
 refine ts Tryz.func128 ?_;refine ae (λa=>ae (λb=>ae (λh3=>⟨?_,i5⟩) λh3=>⟨?_,i5⟩) λb=>⟨?_,i5⟩) (λa=>⟨?_,i5⟩)
 .congr 1;exact decide_eq_decide.2 i6
 .rw[ii i6]
 .rw[ii i6]
 .rw[ii i6]
theorem Cv(n t:Int)(h:f9)(A:-(2^62)<=n/\n<=2^62)(B:-(2^62)<=t/\t<=2^62):ai kg 63 #[xU ka n,xU ka t] h λv h'=>v=xU ka (jP n t)/\h'=h:=by
 refine ts Tryz.func63 ?_ (xc (xc (xc (x0 [(5,aR),(16,aR)] [(4,7),(16,30)]))));refine(Cu n t h).mono ?_;rintro v q ⟨rfl,rfl⟩;refine⟨_,i5,aX (λe=>?_) λe=>?_⟩
 .have e:=of_decide_eq_false e;unfold jP;rw[g9 e];exact⟨i5,i5⟩
 .have e:=i0 e;obtain⟨N,rfl⟩:∃N:Nat,n=N:=⟨n.toNat,i6⟩
  obtain⟨T,rfl⟩:∃T:Nat,t=T:=⟨t.toNat,i6⟩
  have o:jP N T=((min (ch N T) 4097:Nat):Int):=by unfold jP;rw[g0 e];rfl
  rw[o];obtain⟨m,l⟩:=z6 (min T (N-T))
  have f:ch N m=ch N T:=by
   rw[l];rcases Nat.le_total T (N-T)with b|b
   .rw[Nat.min_eq_left b]
   .rw[Nat.min_eq_right b,<-Pe N T i6]
  have a:(if qd ka ((N:Int)-T)<(T:Int)then qd ka ((N:Int)-T)else(T:Int))=(m:Int):=by rw[af _];split<;>omega
  rw[a];refine an (λi:Nat=>(((ch N i:Nat):Int),(i:Int))) (λi h'=>h'=q/\i<=m/\ch N i<=4096) (λi=>m-i) 0 (by rw[nX];rfl) ⟨i5,i6,by rw[nX];omega⟩ ?_;rintro i b ⟨rfl,D,d⟩
  try dsimp only
  refine ae (λy=>?_) (λy=>?_)
  .have x:i<m:=i6
   have E:N<=64:=i6
   have c:=TW (n:=N) (k:=i) i6;have g:ch N i*(N-i)<=4096*64:=zK d i6;have w:qd ka ((N:Int)-i)=((N-i:Nat):Int):=j7
   have p:qd ka (((ch N i:Nat):Int)*((N-i:Nat):Int))=((ch N i*(N-i):Nat):Int):=by rw[<-Int.natCast_mul,af _]
   have s:qd ka ((i:Int)+1)=((i+1:Nat):Int):=j4
   have z:Int.tdiv ((ch N i*(N-i):Nat):Int) ((i+1:Nat):Int)=((ch N (i+1):Nat):Int):=by rw[<-c,<-Int.ofNat_tdiv,Nat.mul_div_cancel _ i6]
   have u:ch N (i+1)<=4096*64:=by have:ch N (i+1)*1<=ch N (i+1)*(i+1):=Nat.mul_le_mul_left _ i6;omega
   rw[w,p,s,z,af _];refine⟨i6,ae (λr=>?_) λr=>?_⟩
   .have:=Um (n:=N) (j:=m) (i:=i+1) i6 i6;refine⟨?_,i5⟩;rw[show min (ch N T) 4097=4097 by omega];rfl
   .exact⟨i+1,i5,⟨i5,i6,i6⟩,i6⟩
  .have:i=m:=i6
   subst this;refine⟨?_,i5⟩;rw[show min (ch N T) 4097=ch N i by omega]
theorem index_spec(s:Sl)(l:av)(x:Int)(h:f9)(g:Rd h s 1 az l)(n:i4 l<=2^30):ai kg 108 #[s,xU ka x] h λv h'=>(∃i:Int,v=xU ka i/\(0<=i↔x∈l)/\(0<=i->l[i.toNat]?=dB x/\∀j,j<i.toNat->l[j]?≠dB x)/\i<i4 l/\-1<=i)/\h'=h:=by
 refine ny s x ?_;have k:=g.len;refine an (λi:Nat=>(i:Int)) (λi h'=>h'=h/\i<=i4 l/\∀j,j<i->l[j]?≠dB x) (λi=>i4 l-i) 0 i5 ⟨i5,i6,λj c=>i6⟩ ?_;rintro i m ⟨rfl,o,b⟩;refine ae (λe=>?_) (λe=>?_)
 .have a:i<i4 l:=i6
  refine g.bm i i5 a _ i5 ?_;refine aY (λf=>?_) (λf=>?_)
  .refine⟨⟨i,i5,⟨λ_=>f▸qe a,λ_=>i6⟩,λ_=>⟨by rw[qj,qc a,f],λj c=>b j i6⟩,i6,i6⟩,i5⟩
  .refine⟨i+1,j4,⟨i5,i6,λj c=>?_⟩,i6⟩;rcases qZ.1 c with c|rfl
   .exact b j c
   .rw[qc a];intro d;exact f (wj.inj d).symm
 .refine⟨⟨-1,i5,⟨λd=>i6,λd=>?_⟩,λd=>i6,i6,i6⟩,i5⟩;obtain⟨j,c,rfl⟩:=qA d;exact absurd (qc c) (b j i6)
theorem ug(s:Sl)(l:av)(x:Int)(h:f9)(a:Rd h s 1 az l)(b:i4 l<=2^30):ai kg 47 #[s,xU ka x] h λv h'=>v=xY (decide (x∈l))/\h'=h:=by refine ts Tryz.func47 ?_;refine(index_spec s l x h a b).mono ?_;rintro v d ⟨⟨i,rfl,c,_⟩,rfl⟩;refine⟨i,i5,?_,i5⟩;congr 1;exact decide_eq_decide.2 c
theorem ZE(n:Nat)(s:Sl)(l:List Nat){B:aw}{h0 h:f9}{As:List HP}(H:aa B h0 h As)(i:Nat)(m:As[i]?=dB (aq 3 s 1 az (ints l)))(O:n<=64)(K:i4 l<=n)(I:∀x∈l,x<n):
  ai kg 306 #[s,xU ka n] h λv h'=>match kK n l with
   |some l'=>v=xY eS/\aa B h0 h' (As.set i (aq 3 s 1 az (ints l')))
   |none=>v=xY eX/\h'=h:=by
 refine ts Tryz.func306 ?_ (xc (u9 (xc (v7 (ws [(5,aR)] [(4,7),(10,48)] (xc (u9 (v7 (xc (u9 (xc (x0 [(6,aR)] [(6,7),(33,48)])) v6))) v6))))) v6));have f:=(H.own i m).len;rw[lE]at f;refine an (λk:Nat=>(k:Int)-1) (λk h'=>h'=h/\k<=i4 l/\kK n (l.drop k)=eH) (λk=>k) l.length (by rw[f,af _]) ⟨i5,qi _,by rw[yu];rfl⟩ ?_;rintro k R ⟨rfl,Q,c⟩;refine ae (λe=>?_) (λe=>?_)
 .obtain⟨k,rfl⟩:∃j,k=j+1:=⟨k-1,i6⟩
  have b:k<i4 l:=i6
  have z:=H.seq i m λ_=>rfl;have d:(((k+1:Nat):Int)-1)=(k:Int):=i6
  have F:=I _ (qe b);have o:kK n (l.drop k)=if l[k]+(i4 l-k-1)+1<n then dB (zJ (l[k]+1) (i4 l-k-1+1))else eH:=by rw[qJ b];unfold kK;rw[c];simp[Nat.sub_sub]
  refine z.bm k d (by rw[lE];exact b) _ i5 ?_;rw[Iu b,d,af ((n:Int)-((s.len:Nat):Int)),af _];refine ae (λL=>?_) (λL=>?_)
  .refine z.bm k i5 (by rw[lE];exact b) _ i5 ?_;rw[Iu b,af _];rw[g0 i6]at o;have J:=Pc k l _ i6 o;rw[J]
   try dsimp only
   refine H.set ag i m (λ_=>rfl) i5 k i5 (by rw[lE];exact b) ((l[k]:Int)+1) i5 i5 i5 λN A=>?_;let a:Nat->List Nat:=λj=>l.take k++zJ (l[k]+1) (j+1)++l.drop (k+1+j);have g:(ints l).set k ((l[k]:Int)+1)=ints (a 0):=by
    have:a 0=l.set k (l[k]+1):=by simp only[a];rw[List.set_eq_take_append_cons_drop,g0 b];simp[List.range'_succ]
    rw[this];simp[ints,xd]
   rw[g]at A;refine an (λj:Nat=>((k+1+j:Nat):Int)) (λj h'=>k+1+j<=i4 l/\aa B h0 h' (As.set i (aq 3 s 1 az (ints (a j))))) (λj=>i4 l-j) 0 j4 ⟨i6,A⟩ ?_;rintro j h3 ⟨P,r⟩;have D:i4 (a j)=i4 l:=by simp[a];omega
   have t:i<i4 As:=(ql.1 m).1;have y:(As.set i (aq 3 s 1 az (ints (a j))))[i]?=dB (aq 3 s 1 az (ints (a j))):=zy t;refine ae (λG=>?_) (λG=>?_)
   .have q:k+1+j<i4 l:=i6
    have p:(a j)[k+j]'i6=l[k]+1+j:=by simp only[a,qm];rw[zY jj,List.getElem_append_left jj];simp[List.getElem_range'];omega
    refine(r.seq i y λ_=>rfl).bm (k+j) j7 (by rw[lE];omega) _ i5 ?_;rw[Iu i6,p,af _];refine r.set ag i y (λ_=>rfl) i5 (k+1+j) i5 (by rw[lE];omega) (((l[k]+1+j:Nat):Int)+1) i5 i5 i5 λM u=>?_;refine⟨j+1,j7,⟨i6,?_⟩,i6⟩;rw[yx]at u;have:(ints (a j)).set (k+1+j) (((l[k]+1+j:Nat):Int)+1)=ints (a (j+1)):=by
     have E:(a j).set (k+1+j) (l[k]+1+j+1)=a (j+1):=by
      simp only[a];rw[qN _ _ jj];have:k+1+j-i4 (List.take k l++zJ (l[k]+1) (j+1))=0:=jj
      rw[this,qJ q,ze,List.range'_concat (n:=j+1)];simp[Nat.add_assoc]
     rw[<-E];simp[ints,xd]
    rw[this]at u;exact u
   .have w:k+1+j=i4 l:=i6
    refine⟨i5,?_⟩;have:l.take k++zJ (l[k]+1) (i4 l-k-1+1)=a j:=by simp only[a];rw[w,yu,qI,show l.length-k-1+1=j+1 by omega]
    rw[this];exact r
  .rw[g9 i6]at o;exact⟨k,by rw[af _],⟨i5,i6,o⟩,i6⟩
 .have:k=0:=i6
  subst this;rw[List.drop_zero]at c;rw[c];exact⟨i5,i5⟩
section
variable {pw:f7}
end
theorem afO(h:f9)(x:UInt8):ai kg 330 #[xU kb x.toNat] h λv h'=>v=xY (x !=0)/\h'=h:=by
 refine ts Tryz.func330 ?_;refine⟨?_,i5⟩;congr 1;by_cases a:x=0
 .subst a;rfl
 .have:((x.toNat:Nat):Int)≠0:=λb=>a (uc.1 b);rw[bne_iff_ne.2 a];exact bne_iff_ne.2 this
theorem FG(a:Sl)(l:Row)(h:f9)(p:Rd h a 1 aB l)(t:i4 l<=2^30:=by omega):ai kg 266 #[a] h λv h'=>v=xU ka (if fF l<i4 l then(fF l:Int)else-1)/\h'=h:=by
 refine ts Tryz.func266 ?_;refine(rj a (330,#[],#[]) (R:=λv h'=>v=xU ka (if fF l<i4 l then(fF l:Int)else-1)/\h'=h) ?_).mono ?_
 .skip
  have q:=p.len;refine an (λi:Nat=>(i:Int)) (λi h'=>h'=h/\i<=i4 l/\∀j (c:j<i4 l),j<i->l[j]=0) (λi=>i4 l-i) 0 i5 ⟨i5,i6,λj _ c=>i6⟩ ?_;rintro i o ⟨rfl,u,b⟩;refine ae (λe=>?_) (λe=>?_)
  .have d:i<i4 l:=i6
   refine p.bm i i5 d _ i5 ?_;refine eJ k8 ?_;refine(afO o l[i]).mono ?_;rintro v s ⟨rfl,rfl⟩;refine⟨_,i5,aP (λn=>?_) λn=>?_⟩
   .have m:fF l=i:=by rw[fF,List.findIdx_eq d];exact⟨n,λj c=>by simp[b j i6 c]⟩
    rw[m,g0 d];exact⟨i5,i5⟩
   .refine⟨i+1,j4,⟨i5,i6,λj c k=>?_⟩,i6⟩;rcases qZ.1 k with h3|rfl
    .exact b j c h3
    .simpa using n
  .have f:¬fF l<i4 l:=by rw[fF,wq];rintro⟨x,r,g⟩;obtain⟨j,c,rfl⟩:=qA r;rw[b j c i6]at g;simp at g
   rw[g9 f];exact⟨i5,i5⟩
 .rintro v o ⟨rfl,rfl⟩;exact⟨_,i5,i5,i5⟩
theorem acL(a b:Sl)(c d:Row)(h:f9)(j:Rd h a 1 aB c)(l:Rd h b 1 aB d)(B:i4 c=i4 d)(A:i4 c<=2^30):ai kg 378 #[a,b] h λv h'=>∃r:Sl,v=.tuple #[r,xY eS]/\Sp h h' [aq 5 r 1 aB (zc (·^^^·) c d)]:=by
 refine ts Tryz.func378 ?_ (xc (xc (xc (x0 [(18,aR)] [(7,8),(18,34)]))));have z:=j.len;have w:=l.len;refine bH (λe=>i6) λ_=>?_;refine(Sp.refl h).make ag aB gm i7 0 i5 i5 c.length c.length i6 i6 (qi _) i6 λs h3 p x o=>?_;refine an (λk:Nat=>(k:Int)) (λk h'=>k<=i4 c/\Sp h h' [aq 5 s 1 aB (zc (·^^^·) (c.take k) (d.take k)++qf (i4 c-k) 0)]) (λk=>i4 c-k) 0 i5 ⟨i6,by simpa using o⟩ ?_;rintro k u ⟨y,g⟩;refine ae (λe=>?_) (λe=>?_)
 .have f:k<i4 c:=i6
  refine(Seq.up j g.ac).bm k i5 f _ i5 ?_;refine(Seq.up l g.ac).bm k i5 i6 _ i5 ?_;rw[mJ];refine g.set ag 0 i5 (λ_=>rfl) i5 k i5 jj (c[k]^^^d[k]) i5 i5 i5 λt m=>⟨A0,?_⟩
  refine⟨k+1,j4,⟨i6,?_⟩,i6⟩;have i:i4 (zc (·^^^·) (c.take k) (d.take k))=k:=jj
  have q:(zc (·^^^·) (c.take k) (d.take k)++qf (i4 c-k) (0:UInt8)).set k (c[k]^^^d[k])=zc (·^^^·) (c.take (k+1)) (d.take (k+1))++qf (i4 c-(k+1)) 0:=by rw[qN _ _ i6,i,za,show c.length-k=i4 c-(k+1)+1 by omega,wz,ze,aG _ _ f,aG _ _ (show k<i4 d by omega),yZ jj,qm];rfl
  rw[<-q];exact m
 .have:k=i4 c:=i6
  subst this;refine⟨s,i5,?_⟩;rw[qh (qi _),qh i6,za,yJ,qI]at g;exact g
theorem afP(c:UInt8)(a b:Row):zc (·^^^·) (scaleB c a) b=cB c a b:=by unfold scaleB cB;rw[List.zipWith_map_left];congr 1;funext x y;exact UInt8.xor_comm _ _
theorem ZF(f:f7)(c:UInt8)(a b:Sl)(d e:Row)(h:f9)(m:gn h f)(n:Rd h a 1 aB d)(o:Rd h b 1 aB e)(q:i4 d=i4 e)(j:i4 d<=2^30):
  ai kg 357 #[xW (dB f),xU kb c.toNat,a,b] h λv h'=>∃r:Sl,v=.tuple #[r,xY eS]/\Sp h h' [aq 5 r 1 aB (cB c d e)]:=by
 refine ts Tryz.func357 ?_;refine(JD f c a d h m n j).mono ?_;rintro v l ⟨r,rfl,g⟩;refine⟨r,i5,(acL r b _ e l (g.seq 0 i5 λ_=>rfl) (Seq.up o g.ac) (by rw[nf];exact q) (by rw[nf];exact j)).y0 λw s p=>?_⟩;refine⟨(w,eS),i5,w,i5,?_⟩;rw[<-afP];exact(g.comp p).take 1 λi A k=>by cases i with|zero=>exact k|succ i=>simp at k
def iO(f:f7)(n:Nat)(a:Sl):aW:=[xW (dB f),xU ka n,a]
def jh(b f:f7)(n:Nat)(M:aO):HP:=.ex λa:Sl=>(ak b 371 (iO f n a)).sep (bY 34 a 1 bx (cG 1 aB) M)
theorem ZG(p f:f7)(n:Nat)(b r:Sl)(M:aO)(l:Row)(h:f9)(s:bN h p 371 (iO f n b))(H:gn h f)(E:eF (bM (cG 1 aB) 1 bx) h b M)(F:Rd h r 1 aB l)
  (T:i4 l=n) (V:n<=64) (d:aU n M) (z:∀x∈M,fF x<n) (K:i4 M<=2^30):
  ai kg 309 #[xW (dB p),r] h λv h'=>∃w:Sl,v=.tuple #[w,xY eS]/\Sp h h' [aq 5 w 1 aB (fG M l)]:=by
 refine ts Tryz.func309 ?_ (xc (x6 [] [(4,6),(10,21)] (xc (x0 [(6,cE),(28,aR)] [(6,7),(8,10),(28,51)]))));have N:=F.len;have S:=bM.len E;refine aJ ?_;refine aP (λe=>j3) λ_=>?_;refine⟨p,i5,n,s.cell i5,bH (λe=>i6) λ_=>?_⟩;refine(fq r l h F i6).mono ?_;rintro v X ⟨w,rfl,B⟩;refine⟨w,i5,p,i5,b,(s.ac B.ac s.lt).cell i5,?_⟩;refine an (λt:Sl×Nat=>(t.1,(t.2:Int))) (λt h'=>t.2<=i4 M/\Sp h h' [aq 5 t.1 1 aB (fG (M.take t.2) l)]) (λt=>i4 M-t.2) (w,0) i5 ⟨js,by simpa[fG]using B⟩ ?_;rintro⟨o,k⟩ L ⟨W,a⟩;dsimp only at*;refine ae (λe=>?_) (λe=>?_)
 .have c:k<i4 M:=i6
  have Q:M[k].length=n:=d _ (qe _);have G:=z _ (qe c);have q:aU n (M.take k):=λx y=>d x (zn y);have u:=HW q T;have R:=(a.own 0 i5).len;refine bM.jS (eF.up E a.ac) k i5 c λx y=>?_;refine(FG x _ L y).mono ?_;rintro v h3 ⟨rfl,rfl⟩;refine⟨_,i5,?_⟩
  try dsimp only
  rw[g0 i6];refine(a.seq 0 i5 λ_=>rfl).bm (fF M[k]) i5 i6 _ i5 ?_;have m:(fG (M.take k) l)[fF M[k]]'i6=aM (fG (M.take k) l) (fF M[k]):=(KY i6).symm;have g:fG (M.take (k+1)) l=cB (aM (fG (M.take k) l) (fF M[k])) M[k] (fG (M.take k) l):=by unfold fG;rw[aG _ _ c,zH];rfl
  rw[m];refine bH (λI=>?_) (λI=>?_)
  .refine⟨p,i5,dB f,(s.ac a.ac s.lt).cell0 i5,?_⟩;refine(ZF f (aM (fG (M.take k) l) (fF M[k])) x o M[k] _ h3 (H.ac a.ac H.lt) y (a.seq 0 i5 λ_=>rfl) i6 i6).y0 λD U P=>⟨(D,eS),i5,⟨(D,k+1),j0,⟨i9,?_⟩,i9⟩⟩
   try dsimp only
   rw[g];exact(a.comp P).take 1 λi A J=>by cases i with|zero=>exact J|succ i=>simp at J
  .refine⟨(o,k+1),j0,⟨i9,?_⟩,i9⟩;have O:aM (fG (M.take k) l) (fF M[k])=0:=uc.1 I;have:fG (M.take (k+1)) l=fG (M.take k) l:=by rw[g,O];refine fc (n:=n) (by rw[bR i6];exact u) u λj _=>?_;rw[cM i6,Gf.zero_mul,UInt8.xor_zero]
   try dsimp only
   rw[this];exact a
 .refine⟨o,i5,?_⟩;rw[qh i6]at a;exact a
theorem NB(f:f7)(n:Nat)(h:f9)(j:n<=64):ai kg 248 #[xW (dB f),xU ka n] h λv h'=>∃c:f7,v=xW (dB c)/\Sp h h' [jh c f n []]:=by refine ts Tryz.func248 ?_ (xc (x6 [] [(4,11)] (x6 [(0,Mw)] [(0,1),(11,14)] v6)));refine aJ ?_;refine ae (λe=>i6) λ_=>ae (λe=>i6) λ_=>?_;refine aJ ?_;refine aP (λe=>j3) λ_=>?_;refine(Sp.refl h).boxed λa i d=>?_;refine⟨a,i5,?_⟩;have g:=(d.CK 34 1 bx (cG 1 aB)).join 0 1 i7 i5 i5;exact(g.close' (F:=λb:Sl=>(ak a 371 (iO f n b)).sep (bY 34 b 1 bx (cG 1 aB) [])) 0 ⟨eH,0,0⟩ i5).del 1
theorem jh.open{B:aw}{h0 h:f9}{As:List HP}{b f:f7}{n:Nat}{M:aO}(H:aa B h0 h (jh b f n M::As)):
  ∃a:Sl,aa B h0 h (bY 34 a 1 bx (cG 1 aB) M::ak b 371 (iO f n a)::As):=by
 obtain⟨a,c⟩:=H.sI;exact⟨a,c.sZ⟩
theorem jh.close{B:aw}{h0 h:f9}{As:List HP}{b f:f7}{n:Nat}{M:aO}{a:Sl}(H:aa B h0 h (bY 34 a 1 bx (cG 1 aB) M::ak b 371 (iO f n a)::As)):
  aa B h0 h (jh b f n M::As):=H.mh.wn (F:=λa:Sl=>(ak b 371 (iO f n a)).sep (bY 34 a 1 bx (cG 1 aB) M)) a
theorem Cw(b f:f7)(n:Nat)(M:aO){B:aw}{h0 h:f9}{As:List HP}(H:aa B h0 h (jh b f n M::As)):ai kg 312 #[xW (dB b)] h λv h'=>v=xU ka M.length/\h'=h:=by refine ts Tryz.func312 ?_;obtain⟨a,c⟩:=jh.open H;refine aP (λe=>j3) λ_=>?_;exact⟨b,i5,a,(c.box 1 i5).cell i5,by rw[(c.Vg 0 i5).1],i5⟩
theorem DY(g f:f7)(n:Nat)(M:aO)(r:Sl)(l:Row){B:aw}{h0 h:f9}{As:List HP}(H:aa B h0 h (jh g f n M::As))(G:St B h0 As λh=>gn h f)(R:Rd h r 1 aB l)
  (J:i4 l=n) (E:n<=64) (k:aU n M) (z:∀x∈M,fF x<n) (N:i4 M<=64):
  ai kg 250 #[xW (dB g),r] h λv h'=>(∃b,v=xY b)/\aa B h0 h' (jh g f n (Pf M l)::As):=by
 refine ts Tryz.func250 ?_ (xc (xc (x6 [] [(4,5),(13,20)] v6)));obtain⟨m,p⟩:=jh.open H;have j:=HW k J;refine(ZG g f n m r M l h (p.box 1 i5) (G [_,_] h p) (p.LR 0 i5 λ_=>rfl) R J E k z i6).mono ?_;rintro v T ⟨w,rfl,A⟩;have F:=p.bS A;have Q:=A.seq 0 i5 λ_=>rfl;refine⟨(w,eS),i5,aJ ?_⟩;refine aX (λe=>j3) λ_=>?_;refine(FG w _ T Q).mono ?_;rintro v Y ⟨rfl,rfl⟩;refine⟨_,i5,?_⟩
 try dsimp only
 by_cases a:fF (fG M l)<i4 (fG M l)
 .rw[g0 a];refine tK (ii (xL.2 (zP _))) ?_;have u:=F.AP 0 i5 λ_=>rfl;have c:=u.box 2 i5;refine⟨g,i5,dB f,c.cell0 i5,g,i5,m,c.cell i5,?_⟩;have o:aU n (M++[fG M l]):=np k j;refine u.nS ag bx fh i5 [w] i5 (show 1*1<=2^20 by decide) i5 ⟨c.cell i5,c.cell0 i5,A0⟩ ?_;refine u.pK ag 1 0 i7 i5 i5 fh i5 i7 (λ_=>rfl) jN i5 i7 i6 λI t X=>?_;have d:=X.nT;have y:=d.box 1 i5;refine⟨⟨y.cell0 i5,A0⟩,?_⟩;refine(Hg f I _ n t (G [_,_] t d) (bM.tofm (d.LR 0 i5 λ_=>rfl)) o E jj).mono ?_;rintro v K ⟨q,rs,rfl,V,s,S,U⟩;have i:=(gA o (dF (M++[fG M l]))).2;have W:Sp t K [bY 34 ⟨q.ptr,bP (M++[fG M l]),q.cap⟩ 1 bx (cG 1 aB) (nu (M++[fG M l]))]:=by have:=aa.afe (As:=[]) U (by rw[i];exact s) (λ_=>rfl) (bP (M++[fG M l])) (by rw[i];omega);exact this
  have P:=d.bS W;refine⟨q,i5,A0,g,i5,?_⟩;refine P.storeAt ag 2 i5 i5 (off:=2) (v:=xV q.ptr q.len q.cap) i5 i5 i5 (by simp[iO]) λL D=>⟨A0,⟨_,i5⟩,?_⟩
  have O:aa B h0 L (bY 34 ⟨q.ptr,bP (M++[fG M l]),q.cap⟩ 1 bx (cG 1 aB) (nu (M++[fG M l]))::bY 34 I 1 bx (cG 1 aB) (M++[fG M l])::ak g 371 (iO f n ⟨q.ptr,bP (M++[fG M l]),q.cap⟩)::As):=by rw[show q.len=bP (M++[fG M l])from V]at D;exact D
  rw[Pf,g0 a];exact jh.close O.pL
 .rw[g9 a];refine CF (hU i7) ⟨⟨_,i5⟩,?_⟩;rw[Pf,g9 a];exact jh.close F.nT
theorem NC(i f:f7)(n:Nat)(M:aO)(a:Sl)(h:f9)(w:bN h i 371 (iO f n a))(d:eF (bM (cG 1 aB) 1 bx) h a M)(m:i4 M<=64)(j:aU n M)(D:n<=64):
  ai kg 358 #[xW (dB i)] h λv h'=>∃r:Sl,v=r/\Sp h h' [bY 34 r 1 bx (cG 1 aB) M]:=by
 refine ts Tryz.func358 ?_ (xc (xc (xc (x0 [(3,cE),(13,aR)] [(3,4),(5,6),(13,23)]))));refine aP (λe=>j3) λ_=>?_;have l:=bM.len d;refine⟨i,i5,a,w.cell i5,?_⟩;refine an (λt:Sl×Nat=>(t.1,(t.2:Int))) (λt h'=>t.2<=i4 M/\Sp h h' [bY 34 t.1 1 bx (cG 1 aB) (M.take t.2)]) (λt=>i4 M-t.2) (⟨eH,0,0⟩,0) i5 ⟨js,(Sp.refl h).CK 34 1 bx (cG 1 aB)⟩ ?_;rintro⟨s,k⟩ o ⟨E,g⟩;dsimp only at*;refine ae (λe=>?_) (λe=>?_)
 .have b:k<i4 M:=i6
  have q:=j _ (qe b);refine bM.jS (eF.up d g.ac) k i5 b λx y=>?_;refine(fq x M[k] o y i6).y0 λc h3 p=>?_;have u:=(g.bS p).AP 0 i5 λ_=>rfl;refine⟨c,i5,?_⟩;refine u.pK ag 1 0 i7 i5 i5 fh i5 i7 (λ_=>rfl) jN i5 i7 jj λz B A=>?_;refine⟨(z,k+1),j0,⟨i9,?_⟩,i9⟩
  try dsimp only
  rw[aG _ _ b];exact A.nT
 .rw[qh i6]at g;exact⟨s,i5,g⟩
theorem jh.rd{B:aw}{h0 h:f9}{As:List HP}{k f:f7}{n:Nat}{M:aO}(H:aa B h0 h As)(i:Nat)(s:As[i]?=dB (jh k f n M)):∃g:Sl,bN h k 371 (iO f n g)/\eF (bM (cG 1 aB) 1 bx) h g M:=by obtain⟨g,t,y,u,w,m,q,rs,v,a,b,c,d,e⟩:=H.at i s;exact⟨g,q.1,rs,a.seq (λ_=>rfl) λx j=>m x (b x j).1,d,λi r l p o=>(cG 1 aB).mono (e i r l p o) λx j=>m x (c x j)⟩
theorem Lo(c f:f7)(n:Nat)(M:aO)(b:Sl)(h:f9)(g:bN h c 371 (iO f n b))(k:eF (bM (cG 1 aB) 1 bx) h b M)(i:i4 M<=64)(l:aU n M)(q:n<=64):
  ai kg 311 #[xW (dB c)] h λv h'=>∃d:f7,v=xW (dB d)/\Sp h h' [jh d f n M]:=by
 refine ts Tryz.func311 ?_;refine aP (λe=>j3) λ_=>?_;refine⟨c,i5,dB f,g.cell0 i5,c,i5,n,g.cell i5,?_⟩;have o:bQ.ok [(c.add 1,(xU ka (n:Int))),(c,(xW (dB f)))] h:=⟨g.cell i5,g.cell0 i5,A0⟩
 refine(NC c f n M b h g k i l q).y0 λr u m=>?_;have j:=jo m.ac o;refine⟨r,i5,j,m.boxed λa t p=>?_⟩;have s:=p.aZ;refine⟨jo p.ac o,a,i5,?_⟩;exact jh.close s.oy
def dE(p:Pm)(seed:Int)(ids:av):aO:=if bB p then(ids.filter bE).map (ly (bp p).toNat seed)else[]
theorem Hm{p:Pm}{seed:Int}{ids:av}{k:Nat}(b:k<i4 ids):dE p seed (ids.take (k+1))=dE p seed (ids.take k)++(if(bB p&&bE ids[k])=eS then[ly (bp p).toNat seed ids[k]]else[]):=by
 unfold dE;by_cases a:bB p=eS
 .rw[g0 a,g0 a,oU b];by_cases h:bE ids[k]=eS
  .rw[g0 h,g0 (by rw[a,h];rfl),qP];rfl
  .rw[g9 h,g9 tr,qI]
 .rw[g9 a,g9 a,g9 u7];rfl
theorem SF(p:Pm)(seed:Int)(ids:av):aU (bp p).toNat (dE p seed ids):=λr a=>by
 unfold dE at a;split at a
 .obtain⟨i,_,rfl⟩:=qo.1 a;exact OQ _ _ _
 .cases a
theorem JU(p:Pm)(seed:Int)(ids:av):i4 (dE p seed ids)<=i4 ids:=by
 unfold dE;split
 .rw[qp];exact qE _ _
 .simp
abbrev FH:jm Sl aO:=bM (cG 1 aB) 1 bx
theorem ZH(p:Pm)(seed:Int)(w:Sl)(W:bX)(h:f9)(M:eF (bM (cG 1 az) 1 bx) h w W)(hl:i4 W<=2^20)(O:∀l∈W,i4 l<=2^20):
  ai kg 251 #[ir p,xU ke seed,w] h λv h'=>∃r:Sl,v=r/\Sp h h' [bY 111 r 1 bx FH (W.map (dE p seed))]:=by
 refine ts Tryz.func251 ?_ (xc (xc (u9 (xc (v7 (ws [(7,cE),(16,aR)] [(7,8),(9,11),(12,14),(16,42)] (xc (xc (u9 (v7 (xc (xc (x0 [(10,cE),(22,aR)] [(10,11),(12,14),(22,37)])))) v6)))))) v6))) (args:=[p,(xU ke (seed:Int)),w]);obtain⟨R,y,J,D⟩:=bM.kI M;have Q:=y.len;refine(Sp.refl h).boxed λa h1 L=>?_;refine an (λt:Sl×Nat=>(t.1,(t.2:Int))) (λt h'=>t.2<=i4 W/\Sp h h' [bY 111 t.1 1 bx FH ((W.take t.2).map (dE p seed)),ak a 25 [xU ka p.1,xU ka p.2.1,xU ka p.2.2]]) (λt=>i4 W-t.2) (⟨eH,0,0⟩,0) i5 ⟨js,(L.CK 111 1 bx FH).aZ⟩ ?_;rintro⟨o,k⟩ X ⟨Z,A⟩;dsimp only at*;refine ae (λe=>?_) (λe=>?_)
 .have m:k<i4 W:=i6
  have S:=O _ (qe m);have F:=D k i6 m;refine(Seq.up y A.ac).mi k i5 i6 ?_;generalize R[k]'i6=x at F;have K:=Seq.len F;refine an (λt:Sl×Nat=>(t.1,(t.2:Int))) (λt h'=>t.2<=W[k].length/\Sp h h' [bY 34 t.1 1 bx (cG 1 aB) (dE p seed (W[k].take t.2)),bY 111 o 1 bx FH ((W.take k).map (dE p seed)),ak a 25 [xU ka p.1,xU ka p.2.1,xU ka p.2.2]]) (λt=>W[k].length-t.2) (⟨eH,0,0⟩,0) i5 ⟨js,by
    have:=(A.CK 34 1 bx (cG 1 aB)).aZ;have T:dE p seed []=[]:=by unfold dE;split<;>rfl
    dsimp only;rw[List.take_zero,T];exact this⟩ ?_
  rintro⟨s,j⟩ h3 ⟨Y,u⟩;dsimp only at*;refine ae (λU=>?_) (λU=>?_)
  .have g:j<W[k].length:=i6
   refine(Seq.up F u.ac).bm j i5 g _ i5 ?_;refine⟨p,(u.box 2 i5).aE _ i5,(PN p seed W[k][j] h3).y0 λc V ⟨N,f⟩=>?_⟩;refine⟨c,i5,?_⟩;have z:=(u.bS N).AP 0 i5 λ_=>rfl;have i:=JU p seed (W[k].take j);rw[qH]at i;refine aX (λq=>?_) (λq=>?_)
   .rw[f]at q;have d:(bB p&&bE W[k][j])=eS:=p6
    rw[d,g0 rfl]at z;refine z.pK ag 1 0 i7 i5 i5 fh i5 i7 (λ_=>rfl) jN i5 i7 i6 λG I B=>?_;have H:=B.nT;refine⟨(G,j+1),j0,⟨i9,?_⟩,i9⟩;dsimp only;rw[Hm g,g0 d];exact H
   .rw[f]at q;have d:¬(bB p&&bE W[k][j])=eS:=λP=>by rw[P]at q;cases q
    refine⟨(s,j+1),j0,⟨i9,?_⟩,i9⟩;dsimp only;rw[Hm g,g9 d,qI];exact z.nT
  .rw[qh i6]at u;have z:=u.TN 0 i5 λ_=>rfl;refine z.pK ag 1 0 i7 (E:=FH) (a:=s) (b:=dE p seed W[k]) i5 i5 (⟨_,_,i5,i5,i5,i5,i5,i5⟩:bV C.toBX 314 111 1 [xV eH 0 0] 24) i5 i7 (λ_=>rfl) jN i5 i7 jj λG I B=>?_;refine⟨(G,k+1),j0,⟨i9,?_⟩,i9⟩
   try dsimp only
   rw[aG _ _ m,qP];exact B.nT
 .rw[qh i6]at A;exact⟨o,i5,A.pL⟩
def lZ(R:List aO)(a:av):Nat->aO
 |0=>[]
 |k+1=>lZ R a k++if(k:Int)∈a then[]else R.getD k []
theorem MP{n:Nat}{R:List aO}(c:∀m∈R,aU n m)(b:av):∀k,aU n (lZ R b k)
 |0=>λr a=>u5
 |k+1=>λr a=>by
  rcases qt.1 a with a|a
  .exact MP c b k r a
  .split at a
   .cases a
   .rw[qg]at a;cases hg:R[k]? with
    |none=>rw[hg]at a;cases a
    |some m=>rw[hg]at a;exact c m (List.mem_of_getElem? hg) r a
theorem Qq(R:List aO)(a:av):∀{j k:Nat},j<=k->∃X,lZ R a k=lZ R a j++X
 |j,0,h=>⟨[],by
   have:j=0:=i6
   subst this;simp⟩
 |j,k+1,h=>by
  by_cases b:j=k+1
  .subst b;exact⟨[],js⟩
  .obtain⟨X,c⟩:=Qq R a (j:=j) (k:=k) i6;exact⟨X++if(k:Int)∈a then[]else R.getD k [],by rw[lZ,c,qm]⟩
theorem acM{n:Nat}{m:aO}(c:aU n m)(h:bP m=n){b:aO}(a:aU n b)(d:∀r∈m,r∈b):bP b=n:=by have e:=lP a;have f:=EF c a d;omega
theorem SG(P f:f7)(n:Nat)(M A:aO)(z l g:Sl)(R:List aO)(a:av)(h:f9)(hb:bN h P 371 (iO f n z))(S:eF FH h z M)(K:gn h f)(hl:eF (bM FH 1 bx) h l R)(hg:Rd h g 1 az a)
  (U:n<=64) (i:CY n M A) (hR:∀m∈R,aU n m/\m.length<=2^20) (ad:i4 R<=2^20) (J:i4 a<=2^30):
  ai kg 252 #[xW (dB P),l,g,xU ka n] h λv h'=>v=xY (decide (bP (A++lZ R a R.length)=n))/\Sp h h' []:=by
 refine ts Tryz.func252 ?_ (xc (xc (u9 (xc (v7 (ws [(18,aR)] [(8,9),(10,12),(13,14),(18,41)] (xc (xc (u9 (v7 (xc (xc (xc (v7 (ws [(28,aR)] [(8,9),(13,14),(28,40)] v6)))))) v6)))))) v6)));obtain⟨ls,E,al,T⟩:=bM.kI hl;have ah:=E.len;have p:∀{q A':aO},CY n q A'->i4 q<=64:=λx=>by have:=x.len;have:=lP x.evenA;omega
 have N:St (λb=>b<h.size) h [] λh'=>gn h' f:=.base K λh' hp=>K.ac hp K.lt;have L:aU n (A++lZ R a R.length):=λr d=>(qt.1 d).elim (i.evenA r) (MP (λm hm=>(hR m hm).1) a _ r);refine(Lo P f n M z h hb S (p i) i.even U).mono ?_;rintro v h1 ⟨s,rfl,R1⟩;refine⟨dB s,i5,?_⟩;refine an (λk:Nat=>(k:Int)) (λk h'=>k<=i4 R/\∃q,CY n q (A++lZ R a k)/\Sp h h' [jh s f n q]) (λk=>i4 R-k) 0 i5 ⟨i6,M,by simpa[lZ]using i,R1⟩ ?_;rintro k h2 ⟨hk,M2,w,B⟩;refine ae (λe=>?_) (λe=>?_)
 .have u:k<i4 R:=i6
  have W:=T k i6 u;refine(Seq.up E B.ac).mi k i5 i6 ?_;generalize ls[k]'i6=x at W;have G:=hR _ (qe u);refine(ug g a k h2 (Seq.up hg B.ac) J).mono ?_;rintro v h3 ⟨rfl,rfl⟩;refine⟨_,i5,ae (λQ=>?_) λo=>?_⟩
  .refine⟨k+1,j4,⟨i6,M2,?_,B⟩,i6⟩;rw[lZ,g0 Q,qI];exact w
  .obtain⟨xs,H,ao,O⟩:=bM.kI W;have am:=H.len;have F:R.getD k []=R[k]:=by rw[qg,qc u];rfl
   refine an (λj:Nat=>(j:Int)) (λj h'=>j<=R[k].length/\∃q,CY n q ((A++lZ R a k)++R[k].take j)/\Sp h h' [jh s f n q]) (λj=>R[k].length-j) 0 i5 ⟨i6,M2,q6,B⟩ ?_;rintro j h4 ⟨hj,I,c,D⟩;refine ae (λe2=>?_) (λe2=>?_)
   .have t:j<R[k].length:=i6
    have Y:=O j i6 t;refine(Seq.up H D.ac).mi j i5 i6 ?_;generalize xs[j]'i6=y at Y;refine(Cw s f n I D).mono ?_;rintro v h5 ⟨rfl,rfl⟩;refine⟨_,i5,aY (λV=>?_) λV=>?_⟩
    .refine⟨?_,.zip D.ac⟩;have ab:((i4 I:Nat):Int)=(n:Int):=V;have Z:bP ((A++lZ R a k)++R[k].take j)=n:=by have:=c.len;omega
     have h7:bP (A++lZ R a R.length)=n:=by
      refine acM c.evenA Z L λr d=>?_;obtain⟨X,hX⟩:=Qq R a (j:=k+1) (k:=i4 R) i6;rw[hX,lZ,g9 o,F];simp only[qt]at d⊢;rcases d with(d|d)|d
      .exact .inl d
      .exact .inr (.inl (.inl d))
      .exact .inr (.inl (.inr (zn d)))
     rw[h7];simp
    .refine(DY s f n I y _ D N (Seq.up Y D.ac) (G.1 _ (qe _)) U c.even c.lead (p c)).mono ?_;rintro v Z ⟨⟨b,rfl⟩,H6⟩;refine⟨b,i5,⟨j+1,j4,⟨i6,_,?_,H6⟩,i6⟩⟩;have:=Yq c (G.1 _ (qe t));rw[aG _ _ t,<-qm];exact this
   .refine⟨k+1,j4,⟨i6,I,?_,D⟩,i6⟩;rw[qh i6]at c;rw[lZ,g9 o,F,<-qm];exact c
 .have:k=i4 R:=i6
  subst this;refine(Cw s f n M2 B).x7 ⟨_,i5,?_,.zip B.ac⟩;have:=w.len;congr 1;by_cases hh:bP (A++lZ R a R.length)=n
  .rw[hU hh];exact beq_iff_eq.2 (show((i4 M2:Nat):Int)=n by omega)
  .rw[ii hh];exact beq_eq_false_iff_ne.2 (show((i4 M2:Nat):Int)≠n by omega)
def uL(n t:Nat):bX:=(kZ t 0 n).map ints
def FI(n t:Int)(h:f9)(v:Value)(h':f9):Prop:=
 if 0<=n/\n<=64/\0<=t/\t<=n then
  if jP n t>4096 then v=.tuple #[xV eH 0 0,xU ka 13]/\h'=h
  else∃r:Sl,v=.tuple #[r,xU ka 0]/\Sp h h' [bY 22 r 1 bx (cG 1 az) (uL n.toNat t.toNat)]
 else v=.tuple #[xV eH 0 0,xU ka 1]/\h'=h
theorem Qr(n t:Int)(h:f9)(hn:0<=n/\n<=2^30)(ht:(0:Int)<=0):ai kg 247 #[xU ka n,xU ka t] h (FI n t h):=by
 refine ts Tryz.func247 ?_ (xc (xc (xc (u9 (xc (v7 (ws [(23,aR)] [(7,8),(23,31)] v6))) (xc (u9 (v7 (ws [(8,cE)] [(8,9),(34,42)] v6)) v6))))));refine(Cu n t h).mono ?_;rintro v J ⟨rfl,rfl⟩;refine⟨_,i5,aX (λe=>?_) λe=>?_⟩
 .show FI n t J _ J;unfold FI;rw[g9 (of_decide_eq_false e)];exact⟨i5,i5⟩
 .have e:=i0 e;refine(Cv n t J i6 i6).mono ?_;rintro v i ⟨rfl,rfl⟩;refine⟨_,i5,ae (λu=>?_) λu=>?_⟩
  .show FI n t i _ i;unfold FI;rw[g0 e,g0 u];exact⟨i5,i5⟩
  .refine(λH=>?_:(∀(v:Value) (h':f9),(∃r:Sl,v=.tuple #[r,xU ka 0]/\Sp i h' [bY 22 r 1 bx (cG 1 az) (uL n.toNat t.toNat)])->FI n t i v h')->_) (λv h' l=>by unfold FI;rw[g0 e,g9 u];exact l);obtain⟨N,rfl⟩:∃N:Nat,n=N:=⟨n.toNat,i6⟩
   obtain⟨T,rfl⟩:∃T:Nat,t=T:=⟨t.toNat,i6⟩
   have S:i4 (kZ T 0 N)<=4096:=by
    rw[HV N T 0 i6];have:jP (N:Int) T=((min (ch N T) 4097:Nat):Int):=by unfold jP;rw[g0 e];rfl
    rw[this]at u;have ah:¬(((min (ch N T) 4097:Nat):Int)>4096):=u;simp;omega
   refine(Sp.refl i).make ag az gz i7 0 i5 i5 T T i5 i5 (qi _) i6 λs h3 ao ap H3=>?_;refine an (λk:Nat=>(k:Int)) (λk h'=>k<=T/\Sp i h' [aq 3 s 1 az (ints (zJ 0 k++qf (T-k) 0))]) (λk=>T-k) 0 i5 ⟨i6,by
    have Q:ints (zJ 0 0++qf (T-0) 0)=qf T 0:=by simp[ints]
    rw[Q];exact H3⟩ ?_
   rintro k X ⟨hk,A⟩;refine ae (λe3=>?_) (λe3=>?_)
   .have am:k<T:=i6
    refine A.set ag 0 i5 (λ_=>rfl) i5 k i5 (by simp[ints];omega) (k:Int) i5 i5 i5 λW z=>?_;refine⟨k+1,j4,⟨i6,?_⟩,i6⟩;have Q:(ints (zJ 0 k++qf (T-k) 0)).set k (k:Int)=ints (zJ 0 (k+1)++qf (T-(k+1)) 0):=by
     have:(zJ 0 k++qf (T-k) 0).set k k=zJ 0 (k+1)++qf (T-(k+1)) 0:=by rw[qN _ _ js,List.length_range',za,show T-k=T-(k+1)+1 by omega,wz,ze,List.range'_concat];simp
     rw[<-this];simp[ints,xd]
    rw[Q]at z;exact z
   .have:k=T:=i6
    subst this;rw[za,yJ,qI]at A;refine(ig s _ X (A.seq 0 i5 λ_=>rfl) (by simp[ints];omega)).mono ?_;rintro v W ⟨c,rfl,R5⟩;have z:=(A.bS R5).AP 0 i5 λ_=>rfl;refine⟨c,i5,?_⟩;refine z.lit ag bx (⟨_,_,i5,i5,i5,i5,i5,i5⟩:bV C.toBX 79 22 1 [xV eH 0 0] 24) i5 [c] i5 (show 1*1<=2^20 by decide) i5 λo Y H6=>?_;have H7:Sp i Y (bY 22 o 1 bx (cG 1 az) [ints (zJ 0 k)]::aq 3 s 1 az (ints (zJ 0 k))::[]):=(H6.agT (E:=cG 1 az) (a:=c) (b:=ints (zJ 0 k)) 2 0 i7 i5 i5).aZ.pL;have D:=EL N k 0 i6;refine an (λx:Sl×List (List Nat)×List Nat×List (List Nat)=>x.1) (λx h'=>x.2.1++x.2.2.2=kZ k 0 N/\pY N x.2.2.1 x.2.2.2/\x.2.2.1.length=k/\(∀y∈x.2.2.1,y<N)/\Sp i h' [bY 22 x.1 1 bx (cG 1 az) ((x.2.1++[x.2.2.1]).map ints),aq 3 s 1 az (ints x.2.2.1)]) (λx=>i4 x.2.2.2) (o,[],zJ 0 k,kZ k 0 N) i5 ⟨i5,D,js,λy G=>by rw[List.mem_range'_1]at G;omega,by simpa using H7⟩ ?_;rintro⟨o,g,f,rest⟩ h8 ⟨q,m,ar,P,V⟩;dsimp only at*;refine(ZE N s f V 1 i5 i6 i6 P).mono ?_;intro v O l;cases hs:kK N f with
    |none=>
     rw[hs]at l;obtain⟨rfl,rfl⟩:=l;refine⟨eX,i5,?_⟩;refine tK i5 (H _ _ ⟨o,i5,?_⟩);rw[qj,qj];have:rest=[f]:=by
      cases m with
      |last _=>rfl
      |more h _=>rw[hs]at h;cases h
     rw[this]at q;unfold uL;rw[<-q];exact V.pL
    |some cur'=>
     rw[hs]at l;obtain⟨rfl,K⟩:=l;refine⟨eS,i5,CF i5 ?_⟩;obtain⟨L,B,d⟩:∃L,pY N cur' L/\rest=f::L:=by
      cases m with
      |last h=>rw[hs]at h;cases h
      |more h h'=>rw[hs]at h;injection h with h;subst h;exact⟨_,h',i5⟩
     have j:=K;have w:cur'∈kZ k 0 N:=by
      rw[<-q,d];have:cur'∈L:=by cases B<;>simp
      simp[this]
     have p:=CX w;have al:i4 g+2<=i4 (kZ k 0 N):=by
      rw[<-q,d];have:1<=i4 L:=by cases B<;>simp
      simp;omega
     refine(ig s _ O (j.seq 1 i5 λ_=>rfl) (by rw[lE];omega)).y0 λU ab R=>?_;have I:=(j.bS R).AP 0 i5 λ_=>rfl;refine⟨U,i5,?_⟩;refine I.pK ag 1 0 i7 (E:=cG 1 az) (a:=U) (b:=ints cur') i5 i5 (⟨_,_,i5,i5,i5,i5,i5,i5⟩:bV C.toBX 79 22 1 [xV eH 0 0] 24) i5 i7 (λ_=>rfl) jN i5 i7 jj λZ ad M=>?_;refine⟨(Z,g++[f],cur',L),i5,⟨by dsimp only;rw[<-q,d];simp,B,p.1,λy G=>(p.2.1 y G).2,?_⟩,by dsimp only;rw[d];simp⟩;have F:=M.nT
     try dsimp only
     rw[qP (l₁:=g++[f])];exact F
def oM(W:bX)(a:av):Nat->av
 |0=>[]
 |k+1=>oM W a k++if(k:Int)∈a then[]else W.getD k []
def oG(p:Pm)(seed:Int)(W:bX)(a:av):Nat:=nV p seed (oM W a W.length)
theorem Wx(p:Pm)(seed:Int)(a b:av):dE p seed (a++b)=dE p seed a++dE p seed b:=by unfold dE;split<;>simp
theorem MQ(p:Pm)(seed:Int)(W:bX)(a:av):∀k,lZ (W.map (dE p seed)) a k=dE p seed (oM W a k)
 |0=>by simp[lZ,oM,dE]
 |k+1=>by
  rw[lZ,oM,Wx,MQ p seed W a k];congr 1;by_cases h:(k:Int)∈a
  .rw[g0 h,g0 h];simp[dE]
  .rw[g9 h,g9 h,qg,qR,qg];cases W[k]? with
   |none=>simp[dE]
   |some l=>rfl
theorem ZI{p:Pm}(a:bB p=eS)(seed:Int)(ids:av):db p seed ids=bj p.1.toNat p.2.1.toNat++dE p seed ids:=by unfold db dE;rw[g0 a,g0 a]
def oh(p:Pm)(seed:Int)(W:bX)(t:Nat):Option (av):=(uL W.length t).find? λg=>decide ((oG p seed W g:Int)≠bp p)
def jG(p:Pm)(seed:Int)(W:bX)(t:Int):av×Bool×Int:=
 if bB p then
  if 0<=t/\t<=i4 W/\W.length<=64 then
   if jP W.length t>4096 then([],eX,13)
   else match oh p seed W t.toNat with
    |some g=>(g,eS,0)
    |none=>([],eX,0)
  else([],eX,1)
 else([],eX,1)
theorem Lp(K H:Nat):aU (K+H) (bj K H):=λr a=>by
 obtain⟨i,_,rfl⟩:=qo.1 a;exact xi _ _ _
theorem MR{α:Type}(f:α->Bool)(l:List α){k:Nat}(b:k<i4 l)(a:(l.take k).find? f=eH):(l.take (k+1)).find? f=if f l[k]then dB l[k]else eH:=by rw[aG _ _ b,List.find?_append,a,Option.none_or,List.find?_cons];cases f l[k]<;>rfl
theorem ZJ{α:Type}(f:α->Bool)(l:List α){k:Nat}{x:α}(h:(l.take k).find? f=dB x):l.find? f=dB x:=by have:l=l.take k++l.drop k:=(qy k l).symm;rw[this,List.find?_append,h];rfl
theorem JV(p:Pm)(seed:Int)(w:Sl)(W:bX)(t:Int)(h:f9)(hW:eF (bM (cG 1 az) 1 bx) h w W)(hl:i4 W<=2^20)(hr:∀l∈W,i4 l<=2^20)(ht:(0:Int)<=0):
  ai kg 197 #[ir p,xU ke seed,w,xU ka t] h λv h'=>∃r:Sl,v=.tuple #[r,xY (jG p seed W t).2.1,xU ka (jG p seed W t).2.2]/\Sp h h' [EA (cG 1 az) r (jG p seed W t).1]:=by
 refine ts Tryz.func197 ?_ (xc (xc (xc (xc (xc (xc (u9 (xc (v7 (ws [(40,aR)] [(15,16),(40,48)] v6))) (xc (x0 [(54,aR)] [(8,11),(18,19),(54,66)]))))))))) (args:=[p,(xU ke (seed:Int)),w,(t:Int)]);have ay:=bM.len hW;have j:∀{h1:f9},aS (λb=>b<h.size) h h1->Sp h h1 [EA (cG 1 az) ⟨eH,0,0⟩ []]:=λF=>.one F (Seq.nil _ _ _ _ _ _);refine(Sp.refl h).boxed λa h1 H1=>?_;refine⟨p,(H1.box 0 i5).aE _ i5,(eN p h1).mono ?_⟩;rintro v h2 ⟨rfl,R2⟩;have H2:=H1.comp R2;refine⟨_,i5,aX (λe=>?_) λe=>?_⟩
 .refine⟨⟨eH,0,0⟩,?_,?_⟩<;>(unfold jG;rw[g9 l9])
  exact j H2.ac
 .have F:bB p=eS:=e;refine(Qr (w.len:Int) t h2 i6 ht).mono ?_;intro v h3 H;unfold FI at H;rw[ay]at H;have P:(0<=((i4 W:Nat):Int)/\((i4 W:Nat):Int)<=64/\0<=t/\t<=((i4 W:Nat):Int))↔(0<=t/\t<=i4 W/\W.length<=64):=i6
  by_cases I:0<=t/\t<=i4 W/\W.length<=64
  .rw[g0 (P.2 I)]at H;by_cases K:jP W.length t>4096
   .rw[g0 K]at H;obtain⟨rfl,rfl⟩:=H;refine⟨(⟨eH,0,0⟩,13),i5,bH (λ_=>?_) λe=>j3⟩;refine⟨⟨eH,0,0⟩,?_,?_⟩<;>(unfold jG;rw[g0 F,g0 I,g0 K])
    exact j H2.ac
   .rw[g9 K]at H;obtain⟨r,rfl,R3⟩:=H;refine⟨(r,0),i5,bH (λe=>absurd i5 e) λ_=>?_⟩
    try dsimp only
    rw[qj]at R3;have wR:jG p seed W t=match oh p seed W t.toNat with|some g=>(g,eS,0)|none=>([],eX,0):=by unfold jG;rw[g0 F,g0 I,g9 K]
    obtain⟨L,Y⟩:=z6 (uL W.length t.toNat)
    rw[<-Y]at R3;have a7:i4 L<=4096:=by
     have h6:jP (i4 W:Int) t=((min (ch W.length t.toNat) 4097:Nat):Int):=by unfold jP;rw[g0 (P.2 I)];rfl
     rw[h6]at K;rw[Y,uL,qp,HV _ _ 0 i6,Nat.sub_zero];omega
    have H3:=H2.comp R3;have pp:=(bK p).1 F;have a4:bp p=p.1+p.2.1:=oW F;obtain⟨n,hn⟩:∃n:Nat,bp p=n:=⟨(bp p).toNat,i6⟩
    have z:n<=64:=i6
    refine⟨p,(H3.box 0 i5).aE _ i5,(kS p h3).mono ?_⟩;rintro v h4 ⟨rfl,R4⟩;have H4:=H3.up R4.ac;refine⟨_,i5,(rx h4).mono ?_⟩;rintro v h5 ⟨f,rfl,R5⟩;have H5:=H4.bS R5;rw[hn];refine⟨dB f,i5,(NB f n h5 z).mono ?_⟩;rintro v h6 ⟨T,rfl,R6⟩;have H6:=H5.bS R6;refine⟨dB T,i5,p,(H6.box 2 i5).aE _ i5,(ud p h6).mono ?_⟩;rintro v h7 ⟨ar,rfl,R7⟩;rw[g0 F]at R7;obtain⟨A,G⟩:=z6 (bj p.1.toNat p.2.1.toNat)
    rw[<-G]at R7;have U:aU n A:=by have:=Lp p.1.toNat p.2.1.toNat;rw[G,show n=p.1.toNat+p.2.1.toNat by omega];exact this
    have bb:i4 A<=4:=by rw[G];simp[bj];omega
    have H7:=(H6.comp R7).NV 4 i5;have S:∀{M' A':aO},CY n M' A'->i4 M'<=64:=λx=>by have:=x.len;have:=lP x.evenA;omega
    refine⟨ar,i5,?_⟩;refine an (λk:Nat=>(k:Int)) (λk h'=>k<=i4 A/\∃M,CY n M (A.take k)/\Sp h h' [jh T f n M,ak f 330 ee,ak a 25 [xU ka p.1,xU ka p.2.1,xU ka p.2.2],bY 22 r 1 bx (cG 1 az) L,bY 34 ar 1 bx (cG 1 aB) A]) (λk=>i4 A-k) 0 i5 ⟨i6,[],by simpa using ahi n,H7⟩ ?_;rintro k h8 ⟨hk,M,s,Q⟩;have a9:=(Q.Vg 4 i5).1;refine ae (λe2=>?_) (λe2=>?_)
    .have c:k<i4 A:=i6
     refine bM.jS (Q.LR 4 i5 λ_=>rfl) k i5 c λx hx=>?_;refine(DY T f n M x _ Q (St.cR 0 i5 λh' y=>y.1) hx (U _ (qe _)) z s.even s.lead (S s)).mono ?_;rintro v h9 ⟨⟨b,rfl⟩,Z⟩;refine⟨b,i5,⟨k+1,j4,⟨i6,_,?_,Z⟩,i6⟩⟩;rw[aG _ _ c];exact Yq s (U _ (qe c))
    .rw[qh i6]at s;refine⟨p,(Q.box 2 i5).aE _ i5,(ZH p seed w W h8 (eF.up hW Q.ac) hl hr).mono ?_⟩;rintro v h9 ⟨J,rfl,R9⟩;have Z:=Q.comp R9;refine⟨J,i5,?_⟩;have a5:∀m∈W.map (dE p seed),aU n m/\m.length<=2^20:=λm K=>by
      obtain⟨l,ax,rfl⟩:=qo.1 K;refine⟨?_,qM (JU p seed l) (hr l ax)⟩;have:=SF p seed l;rw[hn]at this;exact this
     let d:av->Bool:=λg=>decide ((oG p seed W g:Int)≠bp p);have wI:oh p seed W t.toNat=L.find? d:=by unfold oh;rw[<-Y]
     have a8:=(Z.Vg 3 i5).1;refine an (λk:Nat=>(k:Int)) (λk h'=>k<=i4 L/\(L.take k).find? d=eH/\Sp h h' [jh T f n M,ak f 330 ee,ak a 25 [xU ka p.1,xU ka p.2.1,xU ka p.2.2],bY 22 r 1 bx (cG 1 az) L,bY 34 ar 1 bx (cG 1 aB) A,bY 111 J 1 bx FH (W.map (dE p seed))]) (λk=>i4 L-k) 0 i5 ⟨i6,js,Z⟩ ?_;rintro k a3 ⟨a6,E,o⟩;refine ae (λe3=>?_) (λe3=>?_)
     .have c:k<i4 L:=i6
      refine bM.ajr (o.LR 3 i5 λ_=>rfl) k i5 c λad x ab O hx=>?_;obtain⟨ap,hb,a2⟩:=jh.rd o 0 rfl;have ah:L[k].length<=2^30:=by
       have am:L[k]∈uL W.length t.toNat:=by have h0:L[k]∈L:=qe c;generalize L[k]=y at h0;rw[Y]at h0;exact h0
       obtain⟨g,hg,ao⟩:=qo.1 am;have:=(CX hg).1;rw[<-ao,lE,this];have:=I.2.1;have:=I.2.2;omega
      refine(SG T f n M A ap J x (W.map (dE p seed)) L[k] a3 hb a2 (o.box 1 i5) (o.LR 5 i5 λ_=>rfl) hx z s a5 jj ah).x8 λbd V=>?_;have a0:(decide (bP (A++lZ (W.map (dE p seed)) L[k] (W.map (dE p seed)).length)=n))=!d L[k]:=by
       rw[MQ,qp,G,<-ZI F];show _=!decide ((oG p seed W L[k]:Int)≠bp p);rw[hn];unfold oG nV;by_cases hh:bP (db p seed (oM W L[k] W.length))=n
       .simp[hh]
       .rw[ii hh,hU i6];rfl
      rw[a0];have X:=o.up V.ac;refine⟨_,i5,aX (λe4=>?_) λe4=>?_⟩
      .have N:d L[k]=eS:=by simpa using e4
       have R:=MR d L c E;rw[g0 N]at R;have u:jG p seed W t=(L[k],eS,0):=by rw[wR,wI,ZJ d L R]
       refine⟨x,by rw[u],?_⟩;rw[u];have a1:=X.TN 3 i5 λ_=>rfl;have B:=mS O V.ac;have al:=a1.fN (D:=EA (cG 1 az) x L[k]) 3 i5 λq hq=>bM.pick hq k c ab B;exact al.take 3 λi A' hi=>by cases i with|zero=>exact hi|succ i=>simp at hi
      .have N:d L[k]=eX:=by simpa using e4
       have R:=MR d L c E;rw[N]at R;exact⟨k+1,j4,⟨i6,R,X⟩,i6⟩
     .rw[qh i6]at E;have u:jG p seed W t=([],eX,0):=by rw[wR,wI,E]
      refine⟨⟨eH,0,0⟩,by rw[u],?_⟩;rw[u];exact j o.ac
  .rw[g9 λhh=>I (P.1 hh)]at H;obtain⟨rfl,rfl⟩:=H;refine⟨(⟨eH,0,0⟩,1),i5,bH (λ_=>?_) λe=>j3⟩;refine⟨⟨eH,0,0⟩,?_,?_⟩<;>(unfold jG;rw[g0 F,g9 I])
   exact j H2.ac
def mB(W:bX)(id:Int):Bool:=W.any λl=>decide (id∈l)
def BN(W:bX):Nat:=W.flatten.foldr (λx a=>max a x.toNat) 0
theorem Qs{x:Int}:∀{l:av},x∈l->x.toNat<=l.foldr (λx a=>max a x.toNat) 0
 |[],h=>j8
 |y::l,h=>by
  rw[List.foldr_cons];rcases qX.1 h with rfl|h
  .omega
  .have:=Qs h;omega
theorem Lq{W:bX}{x:Int}(h:x∈W.flatten):x.toNat<=BN W:=Qs h
theorem Lr{W:bX}{i:Nat}(h:mB W (i:Int)=eS):i<=BN W:=by unfold mB at h;rw[List.any_eq_true]at h;obtain⟨l,a,b⟩:=h;have:=Lq (List.mem_flatten.2 ⟨l,a,i0 b⟩);omega
def rE(W:bX):Nat->Nat->Nat
 |0,i=>i
 |f+1,i=>if mB W (i:Int)then rE W f (i+1)else i
def fk(W:bX):Nat:=rE W (BN W+1) 0
theorem BO(W:bX):∀f i,BN W<f+i->mB W (rE W f i)=eX/\i<=rE W f i/\∀j,i<=j->j<rE W f i->mB W (j)=eS
 |0,i,h=>by
  refine⟨?_,qi _,λj g d=>absurd d (by unfold rE;omega)⟩;cases e:mB W ((rE W 0 i))with
  |false=>rfl
  |true=>have:=Lr e;unfold rE at this;omega
 |f+1,i,h=>by
  unfold rE;cases e:mB W (i)with
  |false=>grind
  |true=>
   obtain⟨a,b,c⟩:=BO W f (i+1) i6
   grind
theorem ZK(W:bX):mB W (fk W:Int)=eX:=(BO W _ 0 i6).1
theorem FJ{W:bX}{j:Nat}(h:j<fk W):mB W (j:Int)=eS:=(BO W _ 0 i6).2.2 j (Nat.zero_le _) h
theorem Wy{W:bX}{i:Nat}(b:mB W (i:Int)=eX)(a:∀j,j<i->mB W (j:Int)=eS):fk W=i:=by
 rcases Nat.lt_trichotomy (fk W) i with h|h|h
 .have:=a _ h;rw[ZK W]at this;grind
 .exact h
 .have:=FJ h;grind
theorem Qu(W:bX):fk W<=BN W+1:=by
 cases e:fk W with
 |zero=>omega
 |succ n=>have:=Lr (FJ (W:=W) (j:=n) i6);omega
def gO(live:av)(s:Int):Int:=match live.idxOf? s with|some k=>(k:Int)|none=>-1
def jQ(m:au)(c:aL)(w:Pow)(ds:aD)(s:Int)(d:be):Int×Pow×aD:=
 let r:=ft m w d 1
 if r.1≠0 then(r.1,r.2.1,ck ds s r.2.2)else
  let q:=r.2.2.append r.2.1 c
  (q.1,q.2.1,ck (ck ds s r.2.2) s q.2.2)
def gX(m:au)(live set:av)(order:av)(c:aL)(id:Nat)(w:Pow)(ds:aD):List Nat->(Int×Pow×aD)×Int×Int
 |[]=>((7,w,ds),0,0)
 |i::l=>
  let s:=fu order ((id:Int)+i)
  match aT ds s with
  |none=>gX m live set order c id w ds l
  |some d=>if gO live s∈set∨io m d 1=eX then gX m live set order c id w ds l
   else(jQ m c w ds s d,gO live s,s)
structure jR where
 o:Int
 b:Int
 seed:Int
 M:aO
 W:bX
 got:av
 deriving Inhabited
def jR.JW(x:jR)(m:au)(id:Nat):cH:=⟨x.o,x.b,id,m.p,x.seed,if bE id then gx m.p.2.2.toNat x.M (df (bp m.p).toNat x.seed id)else[]⟩
def jR.BP(x:jR)(id:Nat)(k s:Int):jR:={x with W:=x.W.set k.toNat (x.W.getD k.toNat []++[(id:Int)]),got:=x.got++[s]}
def fV(m:au)(live set:av)(w:Pow)(ds:aD)(x:jR):Int×Pow×aD×jR:=
 let id:=fk x.W;let o:=cX x.o x.b live;let r:=gX m live set o (cD (x.JW m id)) id w ds (qn o.length)
 (r.1.1,r.1.2.1,r.1.2.2,if r.1.1=0 then x.BP id r.2.1 r.2.2 else x)
def dQ(m:au)(live:av)(t most:Int):Nat->Pow->aD->jR->Int×Pow×aD×jR
 |0,w,ds,x=>(12,w,ds,x)
 |f+1,w,ds,x=>
  let r:=jG m.p x.seed x.W t
  if r.2.2≠0 then(r.2.2,w,ds,x)else if r.2.1=eX then(0,w,ds,x)else if(i4 x.got:Int)>=most then(12,w,ds,x)else
   let q:=fV m live r.1 w ds x
   if q.1≠0 then q else dQ m live t most f q.2.1 q.2.2.1 q.2.2.2
theorem Ls(s:Sl)(l:Row)(c:UInt8)(h:f9)(q:Rd h s 1 aB l)(w:s.len<=s.cap)(z:i4 l<=2^30):
  ai kg 293 #[s,xU kb c.toNat] h λv h'=>∃k:Nat,v=xV s.ptr k s.cap/\k<=i4 l/\(∀j (f:j<i4 l),k<=j->l[j]=c)/\(∀(d:k-1<i4 l),0<k->l[k-1]≠c)/\h'=h:=by
 refine ts Tryz.func293 ?_ (xc (u9 (xa [(0,cE)] [(0,1),(5,23)] (v7 (ws [(0,cE)] [(0,1),(5,23)] (x6 [] [(5,18)] v6)))) v6));have m:=q.len;refine aJ ?_;refine an (λk:Nat=>(⟨s.ptr,k,s.cap⟩:Sl)) (λk h'=>h'=h/\k<=i4 l/\∀j (f:j<i4 l),k<=j->l[j]=c) (λk=>k) l.length (by rw[<-m]) ⟨i5,qi _,λj f d=>i6⟩ ?_;rintro k y ⟨rfl,d,b⟩
 try dsimp only
 refine aJ (ae (λe=>?_) λe=>?_)
 .have u:0<k:=i6
  rw[af _];refine(q.take k d).bm (g:=λx:UInt8=>Value.int .u8 x.toNat) (k-1) i6 jj (l[k-1]'i6) (by simp[aB]) ?_|>λ⟨a,ha,x,hx,hK⟩=>⟨a,ha,x.toNat,hx,hK⟩
  refine aY (λo=>?_) (λo=>?_)
  .have i:l[k-1]'i6=c:=by
    have:(l[k-1]'i6).toNat=c.toNat:=by exact_mod_cast o
    exact wO.1 this
   refine⟨⟨i6,i6⟩,k-1,by congr 1;omega,⟨i5,i6,λj f r=>?_⟩,i6⟩;by_cases p:j=k-1
   .subst p;exact i
   .exact b j f i6
  .refine⟨k,i5,d,b,λ_ _ t=>o (by rw[t]),i5⟩
 .exact⟨k,i5,d,b,λ_ h0=>i6,i5⟩
theorem ND(s:Sl)(l:Row)(c:UInt8)(h:f9)(q:Rd h s 1 aB l)(y:s.len<=s.cap)(F:i4 l<=2^30):
  ai kg 292 #[s,xU kb c.toNat] h λv h'=>(∃r:Sl,v=r/\(r.len=0↔∀x∈l,x=c))/\h'=h:=by
 refine ts Tryz.func292 ?_ (xc (u9 (xa [(0,cE)] [(0,1),(5,17)] (v7 (ws [(0,cE)] [(0,1),(5,17)] (x6 [] [(5,15)] v6)))) v6));have B:=q.len;refine bF (λr h'=>h'=h/\(r.len=0↔∀x∈l,x=c)) ?_ ?_
 .refine an (λt:Sl×Nat=>t.1) (λt h'=>h'=h/\t.2<=i4 l/\(∀j (d:j<i4 l),j<t.2->l[j]=c)/\Rd h t.1 1 aB (l.drop t.2)/\t.1.len<=t.1.cap) (λt=>i4 l-t.2) (s,0) i5 ⟨i5,js,λj _ d=>i6,p6,y⟩ ?_;rintro⟨r,k⟩ z ⟨rfl,E,a,b,f⟩;dsimp only at*;have g:=b.len;rw[q9]at g;refine aJ (ae (λe=>?_) λe=>?_)
  .have m:k<i4 l:=i6
   refine b.bm 0 i5 mn _ i5 ?_;have w:(l.drop k)[0]'(by rw[q9];omega)=l[k]:=js
   rw[w];refine aY (λp=>?_) (λp=>?_)
   .have i:l[k]=c:=by
     have:(l[k]).toNat=c.toNat:=by exact_mod_cast p
     exact wO.1 this
    refine⟨⟨i6,i6⟩,(⟨if r.cap=1 then r.ptr else r.ptr.map (·.add (1*1)),r.len-1,r.cap-1⟩,k+1),i5,⟨i5,i6,λj d o=>?_,?_,i9⟩,i9⟩
    .rcases qZ.1 o with h2|rfl
     .exact a j d h2
     .exact i
    .have:=b.drop 1 f;rw[zD]at this;exact this
   .refine⟨i5,⟨λh0=>i6,λA=>absurd ?_ p⟩⟩;rw[A _ (qe m)]
  .have u:k=i4 l:=i6
   refine⟨i5,⟨λ_ x D=>?_,λ_=>by show r.len=0;omega⟩⟩;obtain⟨j,d,rfl⟩:=qA D;exact a j d i6
 .rintro r z ⟨rfl,b⟩;refine aY (λe=>?_) (λe=>?_)
  .exact⟨⟨⟨eH,0,0⟩,i5,by rw[<-b];exact⟨λ_=>i6,λ_=>rfl⟩⟩,i5⟩
  .exact⟨⟨r,i5,b⟩,i5⟩
theorem MS(s:Sl)(l:Row)(cut:ByteArray)(a:cut=⟨#[0]⟩)(h:f9)(d:Rd h s 1 aB l)(m:s.len<=s.cap)(u:i4 l<=2^30):
  ai kg 230 #[s,xX cut] h λv h'=>(∃r:Sl,v=r/\(r.len=0↔∀x∈l,x=0))/\h'=h:=by
 subst a;refine ts Tryz.func230 ?_ (xc (xc (xc (x6 [] [(4,5),(13,28)] v6)))) [(6,(.l [0,1,2,4,5,3,6,7]))];have q:=d.len;refine aY (λe=>?_) (λe=>?_)
 .refine⟨⟨⟨eH,0,0⟩,i5,⟨λ_ x b=>?_,λ_=>rfl⟩⟩,i5⟩;have:l=[]:=List.eq_nil_of_length_eq_zero i6;subst this;cases b
 .refine tK j5 (aJ (CF j5 ?_));refine⟨0,⟨i7,i5⟩,CF i7 ?_⟩;refine⟨0,⟨i7,i5⟩,0,⟨i7,i5⟩,?_⟩;refine(Ls s l 0 h d m u).mono ?_;rintro v p ⟨k,rfl,o,f,h3,rfl⟩;refine⟨⟨s.ptr,k,s.cap⟩,i5,A0,?_⟩;refine(ND ⟨s.ptr,k,s.cap⟩ (l.take k) 0 p (d.take k o) (by show k<=s.cap;omega) jj).mono ?_;rintro v w ⟨⟨r,rfl,i⟩,rfl⟩;refine⟨r,i5,A0,⟨r,i5,i.trans ⟨λc x b=>?_,λc x b=>c x (zn b)⟩⟩,i5⟩;obtain⟨j,g,rfl⟩:=qA b;by_cases t:j<k
  .exact c _ (by rw[List.mem_take_iff_getElem];exact⟨j,i6,i5⟩)
  .exact f j g i6
def qv(x:Sl×Sl):aW:=[x.1,x.2]
theorem ZL:∀x,∀c∈qv x,c.oneCell'=eS:=λx c a=>by
 simp only[qv,qX,List.not_mem_nil,or_false]at a;rcases a with rfl|rfl<;>rfl
def kP:jm (Sl×Sl) fP:=⟨λh q a e=>Seq h q a.1 1 az e.1/\Seq h q a.2 1 aB e.2,λa b=>⟨a.1.ac b,a.2.ac b⟩,λa c=>⟨a.1.mono c,a.2.mono c⟩⟩
abbrev rF:jm Sl (List fP):=bM kP 2 qv
abbrev aiZ:jm Sl aO:=bM (tQ 1 aB) 1 bx
abbrev eQ:bV C.toBX 277 279 2 [xV eH 0 0,xV eH 0 0] 48:=⟨_,_,i5,i5,i5,i5,i5,i5⟩
abbrev ZM:bV C.toBX 111 34 1 [xV eH 0 0] 24:=⟨_,_,i5,i5,i5,i5,i5,i5⟩
abbrev aeR:bV C.toBX 286 4 1 [xY eX] 1:=⟨_,_,i5,i5,i5,i5,i5,i5⟩
theorem rF.get{h:f9}{q:aw}{s:Sl}{L:List fP}(x:rF.p h q s L){i:Int}(n:Nat)(d:i=n)(e:n<i4 L){K:Sl×Sl->Prop}(c:∀r,kP.p h q r L[n]->K r):
  ∃a:f7,(s.ptr=dB a/\0<=i/\i<((s.len:Nat):Int))/\∃x:Sl×Sl,bt h (a.add (i.toNat*2)) 0 [x.1,x.2]/\K x:=by
 obtain⟨rs,b,f,h3⟩:=bM.kI x;exact b.dO (g:=qv) n d i6 (rs[n]'i6) i5 (c _ (h3 n i6 e))
structure AA (h:f9) (p:f7) (l k v:Sl) (L:List fP) (kn:List Bool) (vs:aO):Prop where
 box:bN h p 346 [l,k,v]
 eqs:eF rF h l L
 known:Rd h k 1 fS kn
 vals:eF aiZ h v vs
theorem AA.up{h h':f9}{p:f7}{l k v:Sl}{L:List fP}{kn:List Bool}{vs:aO}(x:AA h p l k v L kn vs)(a:aS (λb=>b<h.size) h h'):AA h' p l k v L kn vs:=
 ⟨x.box.ac a x.box.lt,eF.up x.eqs a,Seq.up x.known a,eF.up x.vals a⟩
theorem Qv{kn:List Bool}{c:Int}(h0:0<=c)(a:c.toNat<i4 kn):Qw.kn kn c=kn[c.toNat]:=by unfold Qw.kn;rw[qg,qc a];rfl
theorem mU{m:aO}{i:Nat}(h:i<i4 m):aC m i=m[i]:=bv h
theorem ko{α:Type}(f:α->Bool)(l:List α){k:Nat}(a:k<i4 l):(l.take (k+1)).filter f=(l.take k).filter f++if f l[k]then[l[k]]else[]:=by rw[aG _ _ a,zk,zN];cases f l[k]<;>rfl
theorem tw(V:aO)(a:Row)(l:av)(c:Int):dc V a (l++[c])=cB 1 (aC V c.toNat) (dc V a l):=by unfold dc;rw[zH];rfl
theorem Un(a t:Row):cB 1 a t=zc (λx y=>y^^^x) a t:=by unfold cB;congr 1;funext x y;rw[Gf.one_mul]
theorem FK{a t:Row}(c:i4 a=i4 t){k:Nat}(b:k<i4 t:=by omega):(zc (λx y=>y^^^x) (a.take k) (t.take k)++t.drop k).set k (t[k]^^^(a[k]'i6))=zc (λx y=>y^^^x) (a.take (k+1)) (t.take (k+1))++t.drop (k+1):=by
 have d:i4 (zc (λx y=>y^^^x) (a.take k) (t.take k))=k:=jj
 rw[qN _ _ i6,d,za,qJ b,ze,aG _ _ b,aG _ _ (show k<i4 a by omega),yZ jj];simp
theorem Qx(p:f7)(l k v:Sl)(L:List fP)(kn:List Bool)(vs:aO)(n:Nat)(h:f9)(t:AA h p l k v L kn vs)(M:i4 kn=n)(G:∀e∈L,∀c∈e.1,0<=c/\c<(n:Int))(S:i4 L<=2^30)(A:∀e∈L,i4 e.1<=2^30):
  ai kg 344 #[xW (dB p)] h λv h'=>(∃i:Int,v=xU ka i/\(0<=i->∃(Q:i.toNat<i4 L),i4 ((L[i.toNat]).1.filter λc=>!Qw.kn kn c)=1))/\Sp h h' []:=by
 refine ts Tryz.func344 ?_ (xc (u9 (xc (v7 (ws [(13,aR)] [(2,6),(7,8),(13,40)] (xc (xc (u9 (v7 (xc (xc (x0 [(5,aR),(21,aR)] [(5,6),(7,8),(21,36)])))) v6)))))) v6));have J:=bM.len t.eqs;refine⟨p,i5,l,t.box.cell0 i5,?_⟩;refine an (λi:Nat=>(i:Int)) (λi h'=>i<=i4 L/\Sp h h' []) (λi=>i4 L-i) 0 i5 ⟨i6,Sp.refl h⟩ ?_;rintro i I ⟨Q,w⟩;refine ae (λe=>?_) λe=>⟨⟨-1,i5,λV=>i6⟩,w⟩;have g:i<i4 L:=i6
 refine rF.get (eF.up t.eqs w.ac) i i5 g λx O=>?_;refine(Sp.refl I).alloc ag i5 λa T H=>?_;refine H.storeAll ag 0 i5 i5 (qv x) i5 i5 i5 i5 λh3 u=>?_;have z:=up w.ac u.ac;have q:=t.up z;have r:=kP.mono (kP.loc O u.ac) λb K=>qT K u.ac.1;have B:=u.box 0 i5;refine⟨x.1,B.cell0 i5,?_⟩;have F:=r.1.len;have E:=A _ (qe g);let d:Nat->Nat:=λj=>i4 (((L[i]).1.take j).filter λc=>!Qw.kn kn c);refine an (λj:Nat=>(((d j:Nat):Int),(j:Int))) (λj h'=>h'=h3/\j<=(L[i]).1.length) (λj=>(L[i]).1.length-j) 0 (by simp[d]) ⟨i5,i6⟩ ?_;rintro j R ⟨rfl,U⟩
 try dsimp only
 have N:d j<=j:=qM (qE _ _) jj;refine ae (λP=>?_) (λP=>?_)
 .have f:j<(L[i]).1.length:=i6
  have D:=G _ (qe g) _ (qe f);refine r.1.bm j i5 f _ i5 ?_;refine⟨p,i5,k,q.box.cell i5,?_⟩;refine q.known.bm (L[i]).1[j].toNat i6 i6 _ i5 ?_;rw[af ((j:Int)+1),af _];have s:=Qv (kn:=kn) D.1 i6;refine aX (λm=>?_) (λm=>?_)
  .refine⟨j+1,?_,⟨i5,i6⟩,i6⟩;have:d (j+1)=d j+1:=by simp only[d];rw[ko _ _ f,s,m];simp
   rw[this];rfl
  .refine⟨j+1,?_,⟨i5,i6⟩,i6⟩;have:d (j+1)=d j:=by simp only[d];rw[ko _ _ f,s,m];simp
   rw[this];rfl
 .have y:j=(L[i]).1.length:=i6
  subst y;have o:d (L[i]).1.length=i4 ((L[i]).1.filter λc=>!Qw.kn kn c):=by simp only[d];rw[qL]
  rw[o];refine aY (λm=>⟨⟨i,i5,λ_=>⟨i6,by exact_mod_cast m⟩⟩,.zip z⟩) λm=>?_;exact⟨i+1,j4,⟨i6,.zip z⟩,i6⟩
theorem MT(p:f7)(l k v:Sl)(L:List fP)(kn:List Bool)(vs:aO)(n w:Nat)(x:Sl×Sl)(e:fP)(h:f9)(hP:AA h p l k v L kn vs)(N:kE n w L kn vs)(Q:eF kP h x e)(G:jt n w e)(hw:w<=2^20)(ap:i4 e.1<=2^20):
  ai kg 285 #[xW (dB p),xZ #[x.1,x.2]] h λr h'=>∃a b:Sl,r=xZ #[a,b]/\Sp h h' [aq 3 a 1 az (fU kn vs e).1,aq 5 b 1 aB (fU kn vs e).2]:=by
 refine ts Tryz.func285 ?_ (xc (xc (u9 (xc (v7 (ws [(17,aR)] [(7,10),(17,58)] (xc (xc (u9 (v7 (xc (xc (xc (v7 (ws [(43,aR)] [(8,10),(43,57)] v6)))))) v6)))))) v6))) (args:=[(dB p),x]);refine(Sp.refl h).boxed λO h1 H1=>?_;refine H1.alloc ag i5 λX h2 U=>?_;have P2:=U.ac;refine⟨x.2,(U.box 0 i5).cell i5,(fq x.2 e.2 h2 (Seq.up Q.2 P2) (by have:=G.len;omega)).y0 λd h3 R3=>?_⟩;have H3:=U.comp R3;refine⟨d,i5,H3.alloc ag i5 λa5 h4 H4=>?_⟩;refine H4.storeAll ag 3 i5 i5 (qv (⟨eH,0,0⟩,d)) i5 i5 i5 i5 λh5 H5=>?_;have Z:Sp h h5 [ak O 279 (qv x),ak X 279 [xV eH 0 0,xV eH 0 0],aq 5 d 1 aB e.2,ak a5 279 (qv (⟨eH,0,0⟩,d)),aq 3 ⟨eH,0,0⟩ 1 az []]:=H5.nil 3 1 az;refine⟨x.1,(Z.box 0 i5).cell0 i5,?_⟩;have ao:=Q.1.len;have ab:=N.klen;have ah:=N.vlen;refine an (λt:Nat×Sl=>(t.1:Int)) (λt h'=>t.1<=i4 e.1/\Sp h h' [ak O 279 (qv x),ak X 279 [xV eH 0 0,xV eH 0 0],aq 5 d 1 aB (dc vs e.2 ((e.1.take t.1).filter λc=>Qw.kn kn c)),ak a5 279 (qv (t.2,d)),aq 3 t.2 1 az ((e.1.take t.1).filter λc=>!Qw.kn kn c)]) (λt=>i4 e.1-t.1) (0,⟨eH,0,0⟩) i5 ⟨js,by simpa[dc]using Z⟩ ?_;rintro⟨j,o⟩ h7 ⟨hj,q⟩;dsimp only at*;have s:i4 (dc vs e.2 ((e.1.take j).filter λc=>Qw.kn kn c))=w:=kD G.len λc hc=>by
  have E:=qB.1 hc;have F:=zn E.1;exact N.EO (G.dh c F).1 (G.dh c F).2 E.2
 have al:i4 ((e.1.take j).filter λc=>!Qw.kn kn c)<=j:=qM (qE _ _) jj;refine ae (λe2=>?_) (λe2=>?_)
 .have f:j<i4 e.1:=i6
  have z:=G.dh _ (qe f);have u:=hP.up q.ac;refine(Seq.up Q.1 q.ac).bm j i5 f _ i5 ?_;refine⟨p,i5,k,u.box.cell i5,?_⟩;refine u.known.bm (e.1[j]).toNat i6 i6 _ i5 ?_;have J:=Qv (kn:=kn) z.1 i6;refine aX (λB=>?_) (λB=>?_)
  .rw[<-J]at B;refine⟨o,(q.box 3 i5).cell0 i5,?_⟩;refine q.push ag 4 i5 gz i5 i7 (λ_=>rfl) eZ e.1[j] i5 i7 i6 λY h8 i=>?_;refine i.fM ag 3 i5 i5 [Y] i5 i5 i5 (by simp[qv]) λh9 M=>?_;refine⟨(j+1,Y),j0,⟨i9,?_⟩,i9⟩
   try dsimp only
   rw[ko _ _ f,ko _ _ f,B];simp only[Bool.not_false,if_true,zh,if_false,qI];exact M
  .rw[<-J]at B;have H:=N.EO z.1 z.2 B;rw[mU i6]at H;refine⟨p,i5,v,u.box.cell i5,?_⟩;obtain⟨vr,W,am,S⟩:=bM.kI hP.vals;have g:(e.1[j]).toNat<i4 vs:=i6
   refine(Seq.up W q.ac).mi (e.1[j]).toNat i6 i6 ?_;have K:=(S (e.1[j]).toNat i6 g).1;have I:=K.len;generalize vr[(e.1[j]).toNat]'i6=y at K I⊢;obtain⟨A,hA⟩:=z6 (vs[(e.1[j]).toNat]'g)
   obtain⟨D,hD⟩:=z6 (dc vs e.2 ((e.1.take j).filter λc=>Qw.kn kn c))
   rw[<-hA]at H K I;rw[<-hD]at q s;refine an (λm:Nat=>(m:Int)) (λm h'=>m<=w/\Sp h h' [ak O 279 (qv x),ak X 279 [xV eH 0 0,xV eH 0 0],aq 5 d 1 aB (zc (λx y=>y^^^x) (A.take m) (D.take m)++D.drop m),ak a5 279 (qv (o,d)),aq 3 o 1 az ((e.1.take j).filter λc=>!Qw.kn kn c)]) (λm=>w-m) 0 i5 ⟨i6,p6⟩ ?_;rintro m h8 ⟨hm,i⟩;have P:i4 (zc (λx y=>y^^^x) (A.take m) (D.take m))=m:=jj
   refine ae (λe4=>?_) (λe4=>?_)
   .have ad:m<w:=i6
    refine(Seq.up K i.ac).bm m i5 i6 _ i5 ?_;refine⟨d,(i.box 3 i5).cell i5,?_⟩;refine(i.seq 2 i5 λ_=>rfl).bm m i5 jj _ i5 ?_;have T:((zc (λx y=>y^^^x) (A.take m) (D.take m)++D.drop m)[m]'(by simp;omega))=D[m]'i6:=by rw[zY i6];simp[P]
    rw[T,mJ];refine i.set ag 2 i5 (λ_=>rfl) i5 m i5 jj (D[m]'i6^^^A[m]'i6) i5 i5 i5 λh9 M=>?_;rw[FK i6]at M;exact⟨m+1,j4,⟨i6,M⟩,i6⟩
   .have R:m=w:=i6
    subst R;refine⟨(j+1,o),j0,⟨i9,?_⟩,i9⟩
    try dsimp only
    rw[ko _ _ f,ko _ _ f,B];simp only[Bool.not_true,if_true,zh,if_false,qI];rw[tw,mU g,<-hA,<-hD,Un];rw[qh i6,qh i6,qY i6,qI]at i;exact i
 .have V:j=i4 e.1:=i6
  subst V;rw[qL]at q;refine⟨(o,d),(q.box 3 i5).aE _ i5,?_⟩;refine q.storeAll ag 1 i5 i5 (qv (o,d)) i5 i5 i5 i5 λh8 i=>?_;refine⟨(o,d),(i.box 1 i5).aE _ i5,o,d,i5,?_⟩;exact i.bO [4,2]
theorem aa.ajA{B:aw}{h0 h:f9}{As:List HP}{e k:Nat}{α:Type}{f:α->aW}{s:Sl}{l:List α}(H:aa B h0 h As)(i:Nat)(j:As[i]?=dB (aq e s k f l))(c:∀x,i4 (f x)=k)(g:l≠[]):aa B h0 h (As.set i (EA (tQ k f) s l)):=
 H.fN i j λq ⟨a,b⟩=>⟨a.seq c b,λd=>absurd d g⟩
theorem count_set{l:List Bool}:∀{i:Nat} (h:i<i4 l),l[i]=eX->((l.set i eS).count eX)+1=l.count eX:=by
 induction l with
 |nil=>intro i h;simp at h
 |cons a l ih=>
  intro i h b;cases i with
  |zero=>simp at b;subst b;simp
  |succ i=>
   have:=ih (i:=i) l0 m6;rw[List.set_cons_succ,List.count_cons,List.count_cons];omega
theorem ZN(p:f7)(l k v:Sl)(L:List fP)(n w:Nat)(h0 h:f9)(U:eF rF h0 l L)(B:∀e∈L,jt n w e)(hn:n<=64)(W:i4 L<=2^20)(S:1<=w/\w<=2^20)(s:∀e∈L,i4 e.1<=2^20)
  (H:Sp h0 h [ak p 346 [l,k,v],aq 4 k 1 fS (qf n eX),bY 34 v 1 bx (tQ 1 aB) (qf n [])]):
  ai kg 284 #[xW (dB p)] h λr h'=>r=.tuple #[]/\∃kn vs,kE n w L kn vs/\Sp h0 h' [ak p 346 [l,k,v],aq 4 k 1 fS kn,bY 34 v 1 bx (tQ 1 aB) vs]:=by
 refine ts Tryz.func284 ?_ (.scope 0 [] [(2,37)] [] [v6] []);refine an (λ_:List Bool×aO=>()) (λt h'=>kE n w L t.1 t.2/\Sp h0 h' [ak p 346 [l,k,v],aq 4 k 1 fS t.1,bY 34 v 1 bx (tQ 1 aB) t.2]) (λt=>t.1.count eX) (qf n eX,qf n []) i5 ⟨VB n w L,H⟩ ?_;rintro⟨kn,vs⟩ J ⟨m,N⟩;dsimp only at*;have G:=m.klen;have P:=m.vlen;have mk:∀{q},Sp h0 q [ak p 346 [l,k,v],aq 4 k 1 fS kn,bY 34 v 1 bx (tQ 1 aB) vs]->AA q p l k v L kn vs:=λf=>
  ⟨f.box 0 i5,eF.up U f.ac,f.seq 1 i5 λ_=>rfl,f.LR 2 i5 λ_=>rfl⟩
 refine(Qx p l k v L kn vs n J (mk N) G (λe K=>(B e K).dh) i6 λe K=>by have:=s e K;omega).mono ?_;rintro _ q ⟨⟨i,rfl,hi⟩,Y⟩;refine⟨i,i5,?_⟩;have f:=N.up Y.ac;refine ae (λe=>⟨i5,kn,vs,m,f⟩) λe=>?_;have E:0<=i:=xL.1 e;obtain⟨A,z⟩:=hi E;have j:=mk f;refine⟨p,i5,l,j.box.cell0 i5,?_⟩;refine rF.get j.eqs i.toNat i6 A λx X=>?_;have d:=qe A;refine(MT p l k v L kn vs n w x L[i.toNat] q j m X (B _ d) S.2 (s _ d)).mono ?_;rintro _ h3 ⟨a,b,rfl,Q⟩;refine⟨(a,b),i5,?_⟩;obtain⟨c,D⟩:∃c,(fU kn vs L[i.toNat]).1=[c]:=by
  have J:(fU kn vs L[i.toNat]).1.length=1:=z
  match q:(fU kn vs L[i.toNat]).1,J with
  |[c],_=>exact⟨c,i5⟩
 have u:=m.Ce (B _ d);have M:=u.dh c (by rw[D];simp);have y:Qw.kn kn c=eX:=EP m L[i.toNat] c (by rw[D];simp);rw[Qv M.1 i6]at y;have O:=f.comp Q;rw[D]at O;refine O.alloc ag i5 λa8 h4 Z=>?_;refine Z.storeAll ag 5 i5 i5 (qv (a,b)) i5 i5 i5 i5 λh5 g=>?_;refine⟨p,i5,k,(g.box 0 i5).cell i5,a,(g.box 5 i5).cell0 i5,?_⟩;have o:=g.seq 3 i5 λ_=>rfl;refine o.bm 0 i5 js c i5 ?_;refine⟨p,i5,v,(g.box 0 i5).cell i5,a,(g.box 5 i5).cell0 i5,?_⟩;refine o.bm 0 i5 js c i5 ?_;refine⟨b,(g.box 5 i5).cell i5,?_⟩;refine g.set ag 1 i5 (λ_=>rfl) i5 c.toNat i6 i6 eS i5 i5 i5 λh6 I=>?_;refine⟨⟨(I.box 5 i5).cell i5,(I.box 5 i5).cell0 i5,A0⟩,?_⟩;have F:(fU kn vs L[i.toNat]).2≠[]:=λT=>by have:=u.len;rw[T]at this;simp at this;omega
 have R:=aa.ajA I 4 i5 (λ_=>rfl) F;refine R.ajq ag 2 4 i7 i5 i5 (λ_=>rfl) i5 c.toNat i6 i6 i5 i5 i5 λh8 V=>⟨A0,?_⟩
 refine⟨(kn.set c.toNat eS,vs.set c.toNat (fU kn vs L[i.toNat]).2),i5,⟨Yr m B d D,V.bO [0,1,2]⟩,?_⟩;have:=count_set (l:=kn) (i:=c.toNat) i6 y;dsimp only;omega
theorem SH(s:Sl)(l:Row)(h:f9)(c:Rd h s 1 aB l)(b:s.len<=s.cap)(d:i4 l<=2^30):
  ai kg 286 #[s] h λv h'=>v=xY (!(l.any (· !=0)))/\h'=h:=by
 refine ts Tryz.func286 ?_;refine(MS s l _ i5 h c b d).mono ?_;rintro _ e ⟨⟨r,rfl,a⟩,rfl⟩;refine⟨r,i5,?_,i5⟩;congr 1;rw[vM];simp only[beq_iff_eq,Bool.not_eq_true',List.any_eq_false,bne_iff_ne,ne_eq,Decidable.not_not];rw[<-a];omega
def Lt(l:av):Prop:=∀i (h:i+1<i4 l),l[i]<l[i+1]
theorem NE(n:Nat)(l:Sl)(L:List fP)(w:Nat)(h:f9)(z:eF rF h l L)(E:∀e∈L,jt n w e/\Lt e.1)(hn:n<=64)(V:i4 L<=2^20)(t:∀e∈L,i4 e.1<=2^20):
  ai kg 283 #[xU ka n,l] h λv h'=>v=xY eS/\Sp h h' []:=by
 refine ts Tryz.func283 ?_ (xc (x6 [] [(4,5),(9,15)] (u9 (xc (v7 (ws [(17,aR)] [(4,5),(6,9),(17,61)] (xc (xc (u9 (v7 (xc (x0 [(24,aR)] [(4,5),(7,9),(24,51)]))) v6)))))) v6)));have S:=bM.len z;refine aJ (ae (λe=>i6) λ_=>ae (λe=>i6) λ_=>?_);refine an (λi:Nat=>(i:Int)) (λi h'=>i<=i4 L/\Sp h h' []) (λi=>i4 L-i) 0 i5 ⟨i6,Sp.refl h⟩ ?_;rintro i O ⟨hi,s⟩;refine ae (λe=>?_) λe=>⟨i5,s⟩;have f:i<i4 L:=i6
 refine rF.get (eF.up z s.ac) i i5 f λx X=>?_;refine(Sp.refl O).alloc ag i5 λa h2 N=>?_;refine N.storeAll ag 0 i5 i5 (qv x) i5 i5 i5 i5 λh3 p=>?_;have F:=up s.ac p.ac;have c:=kP.mono (kP.loc X p.ac) λb Q=>qT Q p.ac.1;have d:=p.box 0 i5;refine⟨x.1,d.cell0 i5,?_⟩;have J:=c.1.len;have H:=t _ (qe f);obtain⟨m,A⟩:=E _ (qe f);refine an (λj:Nat=>(j:Int)) (λj h'=>h'=h3/\j<=(L[i]).1.length) (λj=>(L[i]).1.length-j) 0 i5 ⟨i5,i6⟩ ?_;rintro j D ⟨rfl,hj⟩;refine ae (λY=>?_) (λY=>?_)
 .have k:j<(L[i]).1.length:=i6
  have W:=m.dh _ (qe k);refine c.1.bm j i5 k _ i5 ?_;refine ae (λe=>i6) λ_=>ae (λe=>i6) λ_=>?_;have G:∃u:Nat,qd ka ((j:Int)+1)=(u:Int)/\(D=D/\u<=(L[i]).1.length)/\(L[i]).1.length-u<(L[i]).1.length-j:=⟨j+1,j4,⟨i5,i6⟩,i6⟩
  refine ae (λT=>?_) λT=>G;refine⟨x.1,d.cell0 i5,?_⟩;rw[af ((j:Int)-1)];refine c.1.bm (j-1) i6 i6 _ i5 ?_;have B:=A (j-1) i6;have I:(L[i]).1[j-1+1]'i6=(L[i]).1[j]:=by congr 1;omega
  rw[I]at B;exact ae (λe=>absurd B i6) λ_=>G
 .refine⟨x.2,d.cell i5,?_⟩;obtain⟨rs,Z,h8,U⟩:=bM.kI (eF.up z F);have q:=(U 0 i6 i6).2.len;obtain⟨r,P,y,M,R⟩:=Z.dO (g:=qv) (i:=(0:Int)) 0 rfl i6 (rs[0]'i6) rfl (K:=λy=>y.2.len=w) (by rw[q];exact(E _ (qe (show 0<i4 L by omega))).1.len);refine⟨r,P,y.2,?_,?_⟩
  .exact M.2.1
  have o:=c.2.len;rw[m.len]at o;refine bH (λe=>absurd (by rw[o,R]) e) λ_=>?_;exact⟨i+1,j4,⟨i6,.zip F⟩,i6⟩
theorem aa.ZO{B:aw}{h0 h:f9}{As:List HP}{e k:Nat}{α β:Type}{E:jm α β}{f:α->aW}{s:Sl}{n:Nat}{a:α}{b:β}(H:aa B h0 h As)(i:Nat)(t:As[i]?=dB (aq e s k f (qf n a)))(u:∀h,E.p h (λ_=>False) a b):aa B h0 h (As.set i (bY e s k f E (qf n b))):=
 H.fN i t λq ⟨x,y⟩=>⟨_,λ_=>False,x,λc o=>⟨y c o,λh=>h⟩,λ_ h=>h.elim,js,λj r l d g=>by
  rw[zX]at d g;split at d
  .rename_i m;rw[g0 m]at g;cases d;cases g;exact u h
  .cases d⟩
theorem aa.aia{B:aw}{h0 h:f9}{As:List HP}{e m:Nat}{a b:Sl}{l:av}{r:Row}(H:aa B h0 h As)(i j:Nat)(c:i≠j)(n:As[i]?=dB (aq e a 1 az l))(k:As[j]?=dB (aq m b 1 aB r)):aa B h0 h ((As.set i (EA kP (a,b) (l,r))).set j emp):=
 H.merge i j c n k λo p _ f g=>⟨f.1.seq (λ_=>rfl) λx d=>.inl (f.2 x d),g.1.seq (λ_=>rfl) λx d=>.inr (g.2 x d)⟩
theorem ZP(kn:List Bool)(vs:aO)(L:List fP){i:Nat}(a:i<i4 L):bf kn vs (L.take (i+1))=if(fU kn vs L[i]).1.isEmpty then bf kn vs (L.take i)else bf kn vs (L.take i)++[fU kn vs L[i]]:=by unfold bf;rw[aG _ _ a,qP,zk];cases h:(fU kn vs L[i]).1.isEmpty<;>simp[h]
theorem Wz(kn:List Bool)(vs:aO)(L:List fP){i:Nat}(a:i<i4 L):lh kn vs (L.take (i+1))=(lh kn vs (L.take i)||((fU kn vs L[i]).1.isEmpty&&(fU kn vs L[i]).2.any (· !=0))):=by unfold lh;rw[aG _ _ a,qP,yI];simp
theorem WA{kn:List Bool}{vs:aO}{L:List fP}{i:Nat}(h:lh kn vs (L.take i)=eS):lh kn vs L=eS:=by rw[<-qy i L];unfold lh at*;rw[qP,yI,h];rfl
theorem ZQ(l:Sl)(L:List fP)(n w:Nat)(h:f9)(I:eF rF h l L)(O:∀e∈L,jt n w e/\Lt e.1)(hn:n<=64)(G:i4 L<=2^20)(hw:1<=w/\w<=2^20)(A:∀e∈L,i4 e.1<=2^20):
  ai kg 225 #[xU ka n,l] h λr h'=>∃kn vs,kE n w L kn vs/\((lh kn vs L=eS/\r=.tuple #[xV eH 0 0,xV eH 0 0,xV eH 0 0,xU ka 10]/\Sp h h' [])∨
   (lh kn vs L=eX/\∃k v s:Sl,r=.tuple #[k,v,s,xU ka 0]/\Sp h h' [aq 4 k 1 fS kn,bY 34 v 1 bx (tQ 1 aB) vs,bY 279 s 2 qv kP (bf kn vs L)])):=by
 refine ts Tryz.func225 ?_ (xc (xc (x6 [(8,Mw)] [(8,9),(16,23)] (xc (x0 [(6,cE),(27,aR)] [(4,8),(10,12),(27,47)]))))) [(3,(.y [0,1,3] (.l [2,4,5,6,7]) (.l [4,2,5,6,7])))];have al:=bM.len I;refine(NE n l L w h I O hn G A).x8 λh1 R1=>⟨eS,i5,aX (λe=>j3) λ_=>?_⟩;refine bF (λs h'=>∃(p:f7) (k v:Sl),s=dB p/\Sp h h' [ak p 346 [l,k,v],aq 4 k 1 fS (qf n eX),bY 34 v 1 bx (tQ 1 aB) (qf n [])]) ⟨?_,?_⟩ ?_
 .refine R1.make ag fS aeR i7 eX i5 i5 n n i5 i5 (qi _) i6 λk h2 P Q Y=>⟨A0,?_⟩
  refine Y.make ag bx ZM i7 ⟨eH,0,0⟩ i5 i5 n n i5 i5 (qi _) i6 λv h3 X W T=>⟨A0,?_⟩
  refine T.boxed λp h4 J=>⟨A0,p,k,v,i5,?_⟩
  exact(aa.ZO (E:=tQ 1 aB) (b:=[]) J 1 i5 λh=>⟨Seq.nil _ _ _ _ _ _,λ_=>rfl⟩).bO [2,0,1]
 .refine R1.make ag bx ZM i7 ⟨eH,0,0⟩ i5 i5 n n i5 i5 (qi _) i6 λv h3 X W T=>⟨A0,?_⟩
  refine T.make ag fS aeR i7 eX i5 i5 n n i5 i5 (qi _) i6 λk h2 P Q Y=>⟨A0,?_⟩
  refine Y.boxed λp h4 J=>⟨A0,p,k,v,i5,?_⟩
  exact(aa.ZO (E:=tQ 1 aB) (b:=[]) J 0 i5 λh=>⟨Seq.nil _ _ _ _ _ _,λ_=>rfl⟩).bO [2,1,0]
 rintro s h4 ⟨p,k,v,rfl,J⟩;refine(ZN p l k v L n w h h4 I (λe he=>(O e he).1) hn G hw A J).x8 λh5 ⟨kn,vs,K,H5⟩=>⟨(),i5,?_⟩;refine an (λt:Nat×Sl=>(t.2,(t.1:Int))) (λt h'=>t.1<=i4 L/\lh kn vs (L.take t.1)=eX/\Sp h h' [ak p 346 [l,k,v],aq 4 k 1 fS kn,bY 34 v 1 bx (tQ 1 aB) vs,bY 279 t.2 2 qv kP (bf kn vs (L.take t.1))]) (λt=>i4 L-t.1) (0,⟨eH,0,0⟩) i5 ⟨js,i5,H5.CK 279 2 qv kP⟩ ?_;rintro⟨i,o⟩ h6 ⟨hi,q,D⟩;dsimp only at*;refine ae (λe=>?_) (λe=>?_)
 .have m:i<i4 L:=i6
  obtain⟨rs,q1,q2,q3⟩:=bM.kI I;have hx:=q3 i i6 m;refine(Seq.up q1 D.ac).dO (g:=qv) i i5 i6 (rs[i]'i6) i5 ?_;generalize rs[i]'i6=x at hx⊢;refine D.alloc ag i5 λa h7 H7=>?_;refine H7.storeAll ag 4 i5 i5 (qv x) i5 i5 i5 i5 λh8 B=>?_;refine⟨x,(B.box 4 i5).aE _ i5,?_⟩;have R:AA h8 p l k v L kn vs:=⟨B.box 0 i5,eF.up I B.ac,B.seq 1 i5 λ_=>rfl,B.LR 2 i5 λ_=>rfl⟩
  obtain⟨H,-⟩:=O _ (qe m);have Z:eF kP h8 x L[i]:=eF.up hx B.ac;refine(MT p l k v L kn vs n w x L[i] h8 R K Z H hw.2 (A _ (qe m))).mono ?_;rintro _ h9 ⟨c,d,rfl,R9⟩;refine⟨(c,d),i5,?_⟩;have H9:=B.comp R9;refine H9.alloc ag i5 λa2 ao V=>?_;refine V.storeAll ag 7 i5 i5 (qv (c,d)) i5 i5 i5 i5 λad f=>?_;refine⟨c,(f.box 7 i5).cell0 i5,?_⟩;have z:=(f.own 5 i5).len;have ap:i4 (bf kn vs (L.take i))<=i4 L:=by unfold bf;refine qM (qE _ _) ?_;simp;omega
  have u:=ZP kn vs L m;have j:=Wz kn vs L m;refine ae (λe2=>?_) (λe2=>?_)
  .have S:(fU kn vs L[i]).1.isEmpty=eX:=by
    cases hh:(fU kn vs L[i]).1 with
    |nil=>rw[hh]at z;simp at z;omega
    |cons a l=>rfl
   rw[S]at u j;refine⟨(c,d),(f.box 7 i5).aE _ i5,?_⟩;have M:=aa.aia f 5 6 i7 i5 i5;refine M.pK ag 3 5 i7 i5 i5 eQ i5 i7 (λ_=>rfl) ZL i5 i7 i6 λo' ah U=>?_;refine⟨(i+1,o'),j0,⟨i9,by dsimp only;rw[j,q];rfl,?_⟩,i9⟩
   try dsimp only
   rw[u];exact U.bO [0,1,2,3]
  .have ab:(fU kn vs L[i]).1.isEmpty=eS:=by
    cases hh:(fU kn vs L[i]).1 with
    |nil=>rfl
    |cons a l=>rw[hh]at z;simp at z;omega
   rw[ab]at u j;refine⟨d,(f.box 7 i5).cell i5,?_⟩;refine(SH d _ ad (f.seq 6 i5 λ_=>rfl) (f.own 6 i5).cap (by have:=(K.Ce H).len;omega)).x7 ⟨_,i5,aX (λF=>?_) λF=>?_⟩
   .refine⟨kn,vs,K,.inl ⟨WA (i:=i+1) ?_,i5,f.bO []⟩⟩;rw[j];simp at F;simp[F]
   .refine⟨(i+1,o),j0,⟨i9,?_,?_⟩,i9⟩
    ·(try dsimp only);rw[j,q];simp at F;simp;exact F
    .try dsimp only
     rw[u];exact f.bO [0,1,2,3]
 .have N:i=i4 L:=i6
  subst N;rw[qL]at D q;refine⟨p,i5,k,(D.box 0 i5).cell i5,p,i5,v,(D.box 0 i5).cell i5,kn,vs,K,.inr ⟨q,k,v,o,i5,D.bO [1,2,3]⟩⟩
def mC(pool:List (Sl×Row)):HP:=⟨λh q=>∀x∈pool,Seq h q x.1 1 aB x.2,λa c x b=>(a x b).ac c,λa d x b=>(a x b).mono d⟩
theorem aa.pool{B:aw}{h0 h:f9}{As:List HP}(H:aa B h0 h As)(i j:Nat)(a:i≠j){pool:List (Sl×Row)}{r:Sl}{l:Row}(f:As[i]?=dB (mC pool))(d:As[j]?=dB (tO r 1 aB l)):aa B h0 h ((As.set i (mC ((r,l)::pool))).set j emp):=
 H.merge i j a f d λg k _ c e x b=>by
  rcases qX.1 b with rfl|b
  .exact Seq.mono e λ_ h=>.inr h
  .exact(c x b).mono λ_ h=>.inl h
theorem aa.JX{B:aw}{h0 h:f9}{As:List HP}(H:aa B h0 h As)(i:Nat){pool:List (Sl×Row)}(b:As[i]?=dB (mC pool)){r:Sl}{l:Row}(a:(r,l)∈pool):Rd h r 1 aB l:=(H.at i b) _ a
theorem aa.acN{B:aw}{h0 h:f9}{As:List HP}(H:aa B h0 h As)(i j:Nat)(d:i≠j){pool:List (Sl×Row)}{s:Sl}{rs:List Sl}{c:aO}(u:As[i]?=dB (aq 34 s 1 bx rs))(n:As[j]?=dB (mC pool))
  (t:i4 rs=i4 c) (g:∀(k:Nat) r l,rs[k]?=dB r->c[k]?=dB l->(r,l)∈pool):aa B h0 h ((As.set i (fB 34 s 1 aB c)).set j emp):=
 H.merge i j d u n λv o m a q=>⟨rs,o,a.1,λb e=>⟨.inl (a.2 b e),m b (a.2 b e)⟩,λ_ h=>.inr h,t,λk r l p f=>q _ (g k r l p f)⟩
def iG(pool:List (Sl×Row))(g:Row->Row)(rs:List Sl)(m:aO):Prop:=i4 rs=i4 m/\∀(i:Nat) r l,rs[i]?=dB r->m[i]?=dB l->(r,g l)∈pool
theorem iG.get{pool:List (Sl×Row)}{g:Row->Row}{rs:List Sl}{m:aO}(h:iG pool g rs m){i:Nat}(a:i<i4 m):(rs[i]'(by rw[h.1];exact a),g m[i])∈pool:=
 h.2 i _ _ (qc _) (qc _)
theorem iG.mono{pool a:List (Sl×Row)}{g:Row->Row}{rs:List Sl}{m:aO}(h:iG pool g rs m)(d:∀x∈pool,x∈a):iG a g rs m:=⟨h.1,λi r l b c=>d _ (h.2 i r l b c)⟩
theorem iG.set{pool:List (Sl×Row)}{g:Row->Row}{rs:List Sl}{m:aO}(h:iG pool g rs m)(i:Nat){r:Sl}{l:Row}(e:(r,g l)∈pool):iG pool g (rs.set i r) (m.set i l):=by
 refine⟨by simp[h.1],λk d l' a b=>?_⟩;rw[List.getElem?_set]at a b;by_cases c:i=k
 .grind
 .rw[g9 c]at a b;exact h.2 k d l' a b
theorem aa.Du{B:aw}{h0 h:f9}{As:List HP}(H:aa B h0 h As)(i j:Nat){pool:List (Sl×Row)}{e:Nat}{s:Sl}{rs:List Sl}{a:aO}(m:As[i]?=dB (aq e s 1 bx rs))(f:As[j]?=dB (mC pool))
  (c:iG pool id rs a):iP h (λb=>b<h.size) s 1 aB a rs:=⟨H.seq i m λ_=>rfl,c.1,λk r l g d=>H.JX j f (c.2 k r l g d)⟩
theorem FL{B:aw}{h0 h:f9}{As:List HP}(s f:f7)(t:UInt8)(g a:Sl)(b c:Row)(H:aa B h0 h (aq 5 a 1 aB c::As))(E:St B h0 As λh=>f8 h s=dB (xW (dB f))/\gn h f/\Rd h g 1 aB b)
  (R:i4 b=i4 c) (S:i4 b<=2^30) {K:f9->Prop} (L:∀h',aa B h0 h' (aq 5 a 1 aB (cB t b c)::As)->K h'):
  iu (σ:=Int) (λd M i=>
 Br (decide (d<((g.len:Nat):Int)))
 (∃D:f7,(g.ptr=dB D/\0<=d/\d<((g.len:Nat):Int))/\
 ∃G:Int,f8 i (D.add (d.toNat*1))=dB (xU kb G)/\
 ∃u:f7,(a.ptr=dB u/\0<=d/\d<((a.len:Nat):Int))/\
 ∃A:Int,f8 i (u.add (d.toNat*1))=dB (xU kb A)/\
 ∃j:f7,(dB s=dB j)/\
 ∃q:bL,f8 i j=dB (.pointer q)/\
 pH kg 299 #[(.pointer q),(xU kb (t.toNat:Int)),(xU kb G)] (.one (.sc (.int .u8))) i λw r=>
 (bQ.ok [(u.add (d.toNat*1),(xU kb A))] r)/\
 ∃o:f7,(a.ptr=dB o/\0<=d/\d<((a.len:Nat):Int))/\
 aj kg (qF 5 (xW (dB (o.add (d.toNat*1)))) (xU kb (qd kb ((qG (qz kb) A^^^(qG (qz kb) w)).toNat:Nat)))) r λ_ h3=>
 (bQ.ok [] h3)/\
 M (qd ka (d+(1:Int))) h3) (K i)) (0:Int) h:=by
 have P:g.len=i4 b:=(E.at [aq 5 a 1 aB c] H).2.2.len;refine an (λk:Nat=>(k:Int)) (λk h'=>k<=i4 b/\aa B h0 h' (aq 5 a 1 aB (zc (λx y=>y^^^Gf.mul t x) (b.take k) (c.take k)++c.drop k)::As)) (λk=>i4 b-k) 0 i5 ⟨i6,m5⟩ ?_;rintro k i ⟨N,l⟩;obtain⟨Q,I,J⟩:=E.at [_] l;refine ae (λe=>?_) (λe=>?_)
 .have z:k<i4 b:=i6
  have m:i4 (zc (λx y=>y^^^Gf.mul t x) (b.take k) (c.take k))=k:=jj
  have O:i4 (zc (λx y=>y^^^Gf.mul t x) (b.take k) (c.take k)++c.drop k)=i4 c:=by rw[qu,m,q9];omega
  refine J.bm k i5 z _ i5 ?_;have p:(zc (λx y=>y^^^Gf.mul t x) (b.take k) (c.take k)++c.drop k)[k]'i6=c[k]:=by rw[zY i6];simp[m]
  refine(l.seq 0 i5 λ_=>rfl).IZ k i5 i6 _ i5 λax n=>?_;rw[p]at n⊢;refine⟨s,i5,dB f,Q,(Im f t b[k] i I).x7 ?_⟩;refine⟨_,i5,⟨n,A0⟩,?_⟩;rw[mJ];refine l.set ag 0 i5 (λ_=>rfl) i5 k i5 i6 _ i5 i5 i5 λh3 F=>⟨A0,?_⟩
  rw[ze,Ap R i6]at F;exact⟨k+1,j4,⟨i6,F⟩,i6⟩
 .have:k=i4 b:=i6
  subst this;rw[qh (qi _),qh i6,qY i6,qI]at l;exact L i l
def iH(f:f7)(p:Int×Int×Int)(v r e c a d b:Sl):aW:=[xW (dB f),xU ka p.1,xU ka p.2.1,xU ka p.2.2,v,r,e,c,a,d,b]
structure Cx (h:f9) (s f:f7) (wa mo:Sl) (wr mr:List Sl) (W M:aO):Prop where
 fld:f8 h s=dB (xW (dB f))
 way:f8 h (s.add 9)=dB (xV wa.ptr wa.len wa.cap)
 more:f8 h (s.add 10)=dB (xV mo.ptr mo.len mo.cap)
 field:gn h f
 rW:iP h (λb=>b<h.size) wa 1 aB W wr
 rM:iP h (λb=>b<h.size) mo 1 aB M mr
theorem Cx.of{h:f9}{s f:f7}{p:Int×Int×Int}{v r k j n c a:Sl}{e g:List Sl}{W M:aO}(d:bN h s 285 (iH f p v r k j n c a))(m:gn h f)(l:iP h (λb=>b<h.size) c 1 aB W e)(i:iP h (λb=>b<h.size) a 1 aB M g):Cx h s f c a e g W M:=
 ⟨d.cell0 i5,d.cell i5,d.cell i5,m,l,i⟩
theorem FM{B:aw}{h0 h:f9}{As:List HP}(s f:f7)(t:UInt8)(c:Int)(b a w m:Sl)(w0 e:Row)(k y:List Sl)(W M:aO)(H:aa B h0 h (aq 5 b 1 aB w0::aq 5 a 1 aB e::As))(g:St B h0 As λh=>Cx h s f w m k y W M)
  (E:0<=c) (r:c.toNat<i4 W) (o:c.toNat<i4 M) (u:i4 (aC W c.toNat)=i4 w0) (p:i4 (aC M c.toNat)=i4 e) (F:i4 w0<=2^30) (D:i4 e<=2^30):
  ai kg 291 #[xW (dB s),xU kb t.toNat,xU ka c,b,a] h λv h'=>v=.tuple #[]/\aa B h0 h' (aq 5 b 1 aB (cB t (aC W c.toNat) w0)::aq 5 a 1 aB (cB t (aC M c.toNat) e)::As):=by
 refine ts Tryz.func291 ?_ (u9 (xc (v7 (ws [(22,aR)] [(10,12),(22,41)] v6))) (xc (v7 (ws [(49,aR)] [(12,14),(49,68)] v6))));have S:=g.at [_,_] H;refine⟨s,i5,w,S.way,?_⟩;rw[mU r]at u⊢;rw[mU o]at p⊢;have q:=S.rW;have A:=q.len;refine q.top.mi c.toNat i6 i6 ?_;refine FL s f t (k[c.toNat]'i6) b (W[c.toNat]) w0 H (St.mk' λh' j=>?_) u i6 λh3 i=>?_
 .have d:=g.at [_] j;exact⟨d.fld,d.field,d.rW.row _ _ _ (qc _) (qc r)⟩
 have l:=g.at [_,_] i;refine⟨s,i5,m,l.more,?_⟩;have x:=l.rM;have z:=x.len;refine x.top.mi c.toNat i6 i6 ?_;refine FL s f t (y[c.toNat]'i6) a (M[c.toNat]) e i.oy (St.mk' λh' j=>?_) p i6 λh3 i=>⟨i5,i.oy⟩
 .have d:=g.at [_] j;exact⟨d.fld,d.field,d.rM.row _ _ _ (qc _) (qc o)⟩
def go:av->Bool
 |[]=>eS
 |[_]=>eS
 |a::b::r=>decide (a<b)&&go (b::r)
theorem JY:∀(l:av) (a b:Int),go (l++[a,b])=(go (l++[a])&&decide (a<b))
 |[],a,b=>by simp[go]
 |[c],a,b=>by simp[go]
 |c::d::r,a,b=>by
  have:=JY (d::r) a b;simp only[zB]at this⊢;simp only[go,this,Bool.and_assoc]
theorem ZR{l r:av}(h:go l=eX):go (l++r)=eX:=by
 induction l with
 |nil=>simp[go]at h
 |cons a t ih=>
  cases t with
  |nil=>simp[go]at h
  |cons b t=>
   simp only[go,vj]at h;simp only[zB,go,vj];rcases h with h|h
   .exact .inl h
   .exact .inr (ih h)
theorem acO(l:av)(k:Nat)(h:k+1<i4 l):l.take (k+2)=l.take k++[l[k],l[k+1]]:=by have b:l.take (k+2)=l.take (k+1)++[l[k+1]]:=aG l (k+1) h;have a:=aG l k;rw[b,a,qm];rfl
def gp(n:Int)(r:av):Bool:=r.all (λc=>decide (0<=c/\c<n))&&go r
theorem ZS{n:Int}{l r:av}(h:gp n l=eX):gp n (l++r)=eX:=by
 simp only[gp,vj]at*;rcases h with h|h
 .left;rw[yH,h];rfl
 .right;exact ZR h
theorem WB{n:Int}{r:av}(h:0<i4 r):gp n (r.take 1)=decide (0<=r[0]/\r[0]<n):=by
 cases r with
 |nil=>simp at h
 |cons a t=>simp[gp,go]
theorem WC{n:Int}{r:av}{k:Nat}(h:k+1<i4 r):gp n (r.take (k+2))=(gp n (r.take (k+1))&&decide (0<=r[k+1]/\r[k+1]<n)&&decide (r[k]<r[k+1])):=by
 have a:r.take (k+2)=r.take (k+1)++[r[k+1]]:=aG r (k+1) h;have b:go (r.take (k+2))=(go (r.take (k+1))&&decide (r[k]<r[k+1])):=by rw[acO r k h,JY,aG r k]
 simp only[gp,b];rw[a,yH];simp only[List.all_cons,List.all_nil,Bool.and_true]
 cases(r.take (k+1)).all λc=>decide (0<=c/\c<n)<;>cases go (r.take (k+1))<;>cases decide (0<=r[k+1]/\r[k+1]<n)<;>simp
theorem AB{n:Int}{r:av}{k:Nat}(h:gp n (r.take k)=eX):gp n r=eX:=by rw[<-qy k r];exact ZS h
theorem WD{n:Int}{r:av}{k:Nat}(c:k<i4 r)(h:gp n (r.take k)=eS):
  (r[k]<0->gp n r=eX)/\(n<=r[k]->gp n r=eX)/\(∀(h0:0<k),r[k]<=r[k-1]->gp n r=eX)/\
  (0<=r[k]->r[k]<n->(∀h0:0<k,r[k-1]<r[k])->gp n (r.take (k+1))=eS):=by
 cases k with
 |zero=>
  have e:=WB (n:=n) c;refine⟨λa=>AB (k:=1) ?_,λa=>AB (k:=1) ?_,λh0=>i6,λa b _=>?_⟩
  .rw[e,ii i6]
  .rw[e,ii i6]
  .rw[e,hU ⟨a,b⟩]
 |succ k=>
  have e:=WC (n:=n) c;refine⟨λa=>AB (k:=k+2) ?_,λa=>AB (k:=k+2) ?_,λh0 a=>AB (k:=k+2) ?_,λa b h3=>?_⟩
  .rw[e,ii (p:=0<=r[k+1]/\r[k+1]<n) i6];simp
  .rw[e,ii (p:=0<=r[k+1]/\r[k+1]<n) i6];simp
  .rw[e,ii (p:=r[k]<r[k+1]) l7];simp
  .have d:r[k]<r[k+1]:=by simpa using h3 i6
   rw[e,h,hU (p:=0<=r[k+1]/\r[k+1]<n) ⟨a,b⟩,hU d];rfl
def kv(n:Int)(a:bX):Bool:=decide (0<=n/\n<=64)&&a.all (gp n)
theorem acP{α:Type}{f:α->Bool}{l:List α}{k:Nat}(a:k<i4 l)(h:(l.take k).all f=eS):(l.take (k+1)).all f=f l[k]:=by rw[aG _ _ a,yH,h];simp
theorem aib{α:Type}{f:α->Bool}{l:List α}{k:Nat}(a:k<i4 l)(h:f l[k]=eX):l.all f=eX:=by rw[yD];exact⟨l[k],qe a,tr⟩
theorem Lu{p:aw}(n:Int)(a:Sl)(b:bX)(rs:List Sl)(h:f9)(z:iP h p a 1 az b rs)(I:i4 b<=2^40)(q:∀l∈b,i4 l<=2^40):
  ai kg 345 #[xU ka n,a] h λv h'=>v=xY (kv n b)/\h'=h:=by
 refine ts Tryz.func345 ?_ (xc (x6 [] [(4,5),(9,15)] (u9 (xc (v7 (ws [(17,aR)] [(4,5),(6,9),(17,50)] (xc (xc (u9 (v7 (xc (xc (v7 (ws [(23,aR)] [(4,5),(7,9),(23,49)] v6))))) v6)))))) v6)));have F:=z.OB;refine bF (λ_ h'=>h'=h/\0<=n/\n<=64) ?_ ?_
 .refine ae (λj=>⟨?_,i5⟩) (λj=>ae (λf=>⟨?_,i5⟩) λf=>⟨i5,i6,i6⟩)
  .rw[kv,ii i6];rfl
  .rw[kv,ii i6];rfl
 .rintro _ h' ⟨rfl,t,u⟩;have A:kv n b=b.all (gp n):=by rw[kv,hU ⟨t,u⟩];rfl
  refine an (λk:Nat=>(k:Int)) (λk h0=>h0=h'/\k<=i4 b/\(b.take k).all (gp n)=eS) (λk=>i4 b-k) 0 i5 ⟨i5,i6,js⟩ ?_;rintro i h0 ⟨rfl,J,c⟩;refine ae (λw=>?_) (λo=>?_)
  .have e:i<i4 b:=i6
   refine z.get i i5 e λr m _=>?_;have B:=m.len;have D:=q _ (qe e);have d:gp n b[i]=eX->kv n b=eX:=λG=>by rw[A];exact aib e G
   refine an (λk:Nat=>(k:Int)) (λk f=>f=h0/\k<=b[i].length/\gp n (b[i].take k)=eS) (λk=>b[i].length-k) 0 i5 ⟨i5,i6,by simp[gp,go]⟩ ?_;rintro k f ⟨rfl,H,s⟩;refine ae (λw=>?_) (λo=>?_)
   .have g:k<b[i].length:=i6
    obtain⟨n1,n2,E,y⟩:=WD g s;refine m.bm k i5 g _ i5 ?_;refine ae (λj=>⟨by rw[d (n1 j)],i5⟩) λj=>?_;refine ae (λf=>⟨by rw[d (n2 f)],i5⟩) λf=>?_;rw[af (k+1),af (k-1)];refine ae (λh3=>?_) (λh3=>?_)
    .refine m.bm (k-1) i6 i6 _ i5 ?_;refine ae (λx=>⟨by rw[d (E i6 x)],i5⟩) λx=>?_;exact⟨k+1,js,⟨i5,i6,y i6 i6 λ_=>i6⟩,i6⟩
    .exact⟨k+1,js,⟨i5,i6,y i6 i6 λ_=>i6⟩,i6⟩
   .rw[qh i6]at s;rw[af (i+1)];exact⟨i+1,js,⟨i5,i6,by rw[acP e c,s]⟩,i6⟩
  .rw[qh i6]at c;exact⟨by rw[A,c],i5⟩
theorem JZ{p:aw}(a:Sl)(b:List Bool)(x:Bool)(h:f9)(i:Seq h p a 1 fS b)(q:i4 b<=2^40):
  ai kg 373 #[a,xY x] h λv h'=>∃r:Int,v=xU ka r/\(0<=r↔x∈b)/\h'=h:=by
 refine ts Tryz.func373 ?_ (xc (x0 [(8,aR)] [(4,6),(8,19)]));have l:=i.len;refine an (λk:Nat=>(k:Int)) (λk h'=>h'=h/\k<=i4 b/\x∉b.take k) (λk=>i4 b-k) 0 i5 ⟨i5,i6,js⟩ ?_;rintro k h' ⟨rfl,o,g⟩;refine ae (λm=>?_) (λj=>?_)
 .have c:k<i4 b:=i6
  refine i.bm k i5 c _ i5 ?_;refine aP (λf=>⟨_,i5,⟨λ_=>?_,λ_=>i6⟩,i5⟩) (λd=>?_)
  .rw[eq_of_beq f];exact qe c
  .rw[af _];refine⟨k+1,js,⟨i5,i6,?_⟩,i6⟩;rw[aG _ _ c];simp only[qt,qw,not_or];exact⟨g,λe=>by rw[e]at d;simp at d⟩
 .rw[qh i6]at g;exact⟨_,i5,⟨λh=>i6,λh=>absurd h g⟩,i5⟩
theorem FN{p:aw}(a:Sl)(b:List Bool)(x:Bool)(h:f9)(d:Seq h p a 1 fS b)(e:i4 b<=2^40):
  ai kg 346 #[a,xY x] h λv h'=>v=xY (decide (x∈b))/\h'=h:=by
 refine ts Tryz.func346 ?_;refine(JZ a b x h d e).mono ?_;rintro v h' ⟨r,rfl,c,rfl⟩;refine⟨r,i5,?_,i5⟩;exact congrArg Value.bool (decide_eq_decide.2 c)
theorem SI{α:Type}{f:α->Bool}{l:List α}{k:Nat}(a:k<i4 l):(l.take (k+1)).filter f=if f l[k]then(l.take k).filter f++[l[k]]else(l.take k).filter f:=by rw[aG _ _ a,zk];by_cases h:f l[k]=eS<;>simp[h]
theorem Ka{p q:aw}(i:f7)(o r:Sl)(op:List Bool)(row:av)(h:f9)(y:f8 h (i.add 1)=dB (xV o.ptr o.len o.cap))(t:Seq h p o 1 fS op)(m:Seq h q r 1 az row)
  (j:∀c∈row,0<=c/\c<i4 op) (B:i4 row<=2^40):
  ai kg 374 #[xW (dB i),r] h λv h'=>
   v=.tuple #[xU ka ((dq op row).getLast?.getD 0),xY (i4 (dq op row)==1)]/\h'=h:=by
 refine ts Tryz.func374 ?_ (xc (xc (x0 [(6,aR),(7,aR),(12,aR)] [(6,8),(9,10),(12,27)])));have s:=m.len;refine an (λk:Nat=>((dq op (row.take k)).getLast?.getD 0,(i4 (dq op (row.take k)):Int),(k:Int))) (λk h'=>h'=h/\k<=i4 row) (λk=>i4 row-k) 0 i5 ⟨i5,i6⟩ ?_;rintro k h' ⟨rfl,A⟩
 try dsimp only
 refine ae (λx=>?_) (λw=>?_)
 .have d:k<i4 row:=i6
  have z:=j _ (qe d);refine m.bm k i5 d _ i5 ?_;refine⟨i,i5,o,y,?_⟩;have b:row[k].toNat<i4 op:=i6
  refine t.bm row[k].toNat i6 b _ i5 ?_;have a:kN op row[k]=op[row[k].toNat]:=by simp[kN,qg,qc b]
  have g:=SI (f:=kN op) d;have u:i4 (dq op (row.take k))<=i4 row:=qM (qE _ _) ln;rw[af (k+1),af _];refine aP (λl=>?_) (λl=>?_)
  .refine⟨k+1,?_,⟨i5,i6⟩,i6⟩;have e:dq op (row.take (k+1))=dq op (row.take k)++[row[k]]:=by rw[dq,g,a,l];rfl
   simp[e]
  .refine⟨k+1,?_,⟨i5,i6⟩,i6⟩;have e:dq op (row.take (k+1))=dq op (row.take k):=by rw[dq,g,a,l];rfl
   simp[e]
 .have e:row.take k=row:=qh i6;refine⟨?_,i5⟩;simp only[e];congr 4;congr 1;rw[vM];simp;omega
structure Bt (h:f9) (p:aw) (a:f7) (l o u:Sl) (rows:bX) (rs:List Sl) (op us:List Bool):Prop where
 c0:f8 h a=dB (xV l.ptr l.len l.cap)
 c1:f8 h (a.add 1)=dB (xV o.ptr o.len o.cap)
 c2:f8 h (a.add 2)=dB (xV u.ptr u.len u.cap)
 fy:p a.block
 sRows:iP h p l 1 az rows rs
 sOp:Seq h p o 1 fS op
 sUs:Seq h p u 1 fS us
 ulen:i4 us=i4 rows
 dh:∀r∈rows,∀c∈r,0<=c/\c<i4 op
 short:∀r∈rows,i4 r<=64
theorem Bt.ac{h h':f9}{p:aw}{a:f7}{l o u:Sl}{rows:bX}{rs:List Sl}{op us:List Bool}(c:Bt h p a l o u rows rs op us)(k:aS p h h'):Bt h' p a l o u rows rs op us:=by
 have b:∀n,(a.add n).block=a.block:=λn=>by unfold Addr.add;split<;>rfl
 exact⟨k.cell c.fy c.c0,k.cell (by rw[b];exact c.fy) c.c1,k.cell (by rw[b];exact c.fy) c.c2,c.fy,c.sRows.ac k,c.sOp.ac k,c.sUs.ac k,c.ulen,c.dh,c.short⟩
theorem NF{p:aw}(a:f7)(l o u:Sl)(rows:bX)(rs:List Sl)(op us:List Bool)(h:f9)(z:Bt h p a l o u rows rs op us)(Q:i4 rows<=2^40):
  ai kg 347 #[xW (dB a)] h λv h'=>aS (λ_=>True) h h'/\
   v=match mZ rows op us with
    |some i=>.tuple #[xZ #[xU ka i,xU ka (fH rows op i)],xY eS]
    |none=>.tuple #[xZ #[xU ka 0,xU ka 0],xY eX]:=by
 refine ts Tryz.func347 ?_ (xc (x0 [(13,aR)] [(3,8),(13,36)]));refine AN ag i5 λb J P t c M=>?_;have f:=z.ac (c.mono λ_ _ _=>trivial);refine⟨a,i5,l,f.c0,?_⟩;have K:=z.sRows.OB;refine an (λk:Nat=>(k:Int)) (λk h'=>h'=J/\k<=i4 rows/\∀j,j<k->mY rows op us j=eX) (λk=>i4 rows-k) 0 i5 ⟨i5,i6,λj q=>i6⟩ ?_;rintro k h' ⟨rfl,O,D⟩;refine ae (λL=>?_) (λI=>?_)
 .have d:k<i4 rows:=i6
  refine f.sRows.get k i5 d λr H _=>?_;refine⟨a,i5,u,f.c2,?_⟩;refine f.sUs.bm k i5 (by rw[z.ulen];exact d) _ i5 ?_;have F:us.getD k eX=us[k]'(by rw[z.ulen];exact d):=by rw[qg,qc];rfl
  have s:rows.getD k []=rows[k]:=by rw[qg,qc d];rfl
  rw[af _];refine aP (λx=>?_) (λx=>?_)
  .refine⟨k+1,js,⟨i5,i6,λj q=>?_⟩,i6⟩;rcases qZ.1 q with q|rfl
   .exact D j q
   .simp only[mY,F,x];rfl
  .refine(Ka a o r op rows[k] h' f.c1 f.sOp H (z.dh _ (qe d)) (qM (z.short _ (qe d)) i6)).x7 ⟨(_,_),i5,?_⟩;have g:mY rows op us k=(i4 (dq op rows[k])==1):=by simp only[mY,F,x,s];rfl
   refine aP (λw=>?_) (λw=>?_)
   .have m:mY rows op us k=eS:=g.trans w;refine uq ag t i5 _ i5 i5 i5 (qi _) λh3 e y B=>?_;refine⟨(_,_),e.aE _ i5,c.then y (λG E _=>i6),?_⟩;have A:fH rows op k=(dq op rows[k]).getLast?.getD 0:=by unfold fH;rw[s]
    rw[mZ,Yt d D m];show _=Value.tuple #[xZ #[xU ka k,xU ka (fH rows op k)],xY eS];rw[A];rfl
   .have m:mY rows op us k=eX:=g.trans w;refine⟨k+1,js,⟨i5,i6,λj q=>?_⟩,i6⟩;rcases qZ.1 q with q|rfl
    .exact D j q
    .exact m
 .refine uq ag t i5 _ i5 i5 i5 (qi _) λh3 e y B=>?_;refine⟨(_,_),e.aE _ i5,c.then y (λG E _=>i6),?_⟩;rw[mZ,Ys λj q=>D j i6]
theorem Iv{l:List Bool}{i:Nat}(h:i<i4 l):l.getD i eX=l[i]:=by rw[qg,qc h];rfl
theorem Uo(op:List Bool)(a:av):∀k,-1<=jf op a k/\jf op a k<k
 |0=>by simp[jf]
 |k+1=>by
  have:=Uo op a k;unfold jf;split<;>omega
theorem NG{p:aw}(a:f7)(l o u:Sl)(rows:bX)(rs:List Sl)(op us:List Bool)(h:f9)(y:Bt h p a l o u rows rs op us)(hs:i4 rows<=2^30)(ay:i4 op<=2^30):
  ai kg 348 #[xW (dB a)] h λv h'=>aS (λ_=>True) h h'/\v=xU ka (iU rows op us):=by
 refine ts Tryz.func348 ?_ (xc (xc (u9 (xc (v7 (ws [(22,aR)] [(4,6),(7,8),(22,49)] (xc (xc (u9 (v7 (xc (xc (v7 (ws [(29,aR)] [(7,8),(29,48)] v6))))) v6)))))) (xc (x0 [(8,aR),(54,aR)] [(8,11),(54,77)])))));refine⟨a,i5,o,y.c1,?_⟩;have a2:=y.sOp.len;refine Qw.run_make (f:=az) ag ⟨_,_,i5,i5,i5,i5,i5,i5⟩ i7 0 i5 i5 op.length op.length i6 i6 (qi _) i6 λs h1 N Z a3 z a4=>?_;have ad:=y.ac (z.mono λ_ _ _=>trivial);refine⟨a,i5,l,ad.c0,?_⟩;have a1:=y.sRows.OB;have D:∀b,s.on b->b=h.size:=by rintro b ⟨o',I⟩;rw[Z]at I;cases I;rfl
 have S:∀k,i4 ((λ_ r=>r:Nat->av->av) k (rows.getD k []))<=64:=λk=>by
  show(rows.getD k []).length<=64;by_cases hk:k<i4 rows
  .rw[qg,qc hk];exact y.short _ (qe hk)
  .rw[qg,List.getElem?_eq_none i6];simp
 let d:=lQ (λ_ r=>r) rows us (qf op.length 0);have L:∀k,i4 (d k)=i4 op:=λk=>by rw[CZ];simp
 have ah:∀k,∀x∈d k,0<=x/\x<=64*k:=λk x hx=>Pn (λ_ r=>r) S k x hx;refine an (λk:Nat=>(k:Int)) (λk h'=>aS (λb=>b<h.size) h h'/\k<=i4 rows/\Own h' 3 s 1 az (d k)) (λk=>i4 rows-k) 0 i5 ⟨z.mono λ_ _ _=>trivial,i6,N⟩ ?_;rintro i Y ⟨G,hi,w⟩;have t:Bt Y p a l o u rows rs op us:=y.ac (G.mono λb e _=>e);refine ae (λP=>?_) (λO=>?_)
 .have g:i<i4 rows:=i6
  have M:rows.getD i []=rows[i]:=by rw[qg,qc g];rfl
  have hu:us.getD i eX=us[i]'(by rw[y.ulen];exact g):=Iv _;refine t.sRows.get i i5 g λr hr W=>?_;have a6:=hr.len;have R:=y.short _ (qe g);refine an (λk:Nat=>(k:Int)) (λk h'=>aS (λb=>b<h.size) h h'/\k<=rows[i].length/\Own h' 3 s 1 az (if us.getD i eX then d i else li (d i) (rows[i].take k))) (λk=>rows[i].length-k) 0 i5
   ⟨G,i6,by simpa[li]using w⟩ ?_
  rintro j h3 ⟨A,hj,c⟩;have q:Bt h3 p a l o u rows rs op us:=y.ac (A.mono λb e _=>e);refine ae (λP=>?_) (λO=>?_)
  .have E:j<rows[i].length:=i6
   have X:=q.sRows.row i r _ W (qc g);have hc:=y.dh _ (qe g) _ (qe E);refine X.bm j i5 E _ i5 ?_;refine⟨a,i5,u,q.c2,?_⟩;refine q.sUs.bm i i5 (by rw[y.ulen];exact g) _ i5 ?_;rw[af (j+1)];refine aX (λe=>?_) (λe=>?_)
   .rw[hu,e]at c;simp only[zh,if_false]at c;have K:i4 (li (d i) (rows[i].take j))=i4 op:=by rw[DO,L]
    have m:rows[i][j].toNat<i4 (li (d i) (rows[i].take j)):=by rw[K];omega
    have a7:=EQ (r:=rows[i].take j) (ah i) _ (qe m);have a0:i4 (rows[i].take j)<=64:=ln
    have V:Seq h3 (λ_=>True) s 1 az (li (d i) (rows[i].take j)):=c.seq (λ_=>rfl) λ_ _=>trivial;refine V.bm rows[i][j].toNat i6 m _ i5 ?_;rw[af _];refine c.set ag (λ_=>rfl) i5 rows[i][j].toNat i6 m _ i5 i5 i5 λh4 F al ar=>?_;refine⟨j+1,js,⟨A.then al (λb e _=>λab=>by have:=D b ab;omega),i6,?_⟩,i6⟩;rw[hu,e];simp only[zh,if_false];rw[aG _ _ E,RN,getD_lt m];exact F
   .refine⟨j+1,js,⟨A,i6,?_⟩,i6⟩;rw[hu,e]at c⊢;exact c
  .rw[af (i+1)];rw[qh i6]at c;refine⟨i+1,js,⟨A,i6,?_⟩,i6⟩;have:d (i+1)=if us.getD i eX then d i else li (d i) rows[i]:=by show lQ _ _ _ _ (i+1)=_;rw[lQ];simp only[M];rfl
   rw[this];exact c
 .have T:i=i4 rows:=i6
  subst T;refine⟨a,i5,o,t.c1,?_⟩;have Q:Seq Y (λ_=>True) s 1 az (d rows.length):=w.seq (λ_=>rfl) λ_ _=>trivial;have ax:=L rows.length;refine an (λk:Nat=>(jf op (d rows.length) k,(k:Int))) (λk h'=>h'=Y/\k<=i4 op) (λk=>i4 op-k) 0 i5 ⟨i5,i6⟩ ?_;rintro k h3 ⟨rfl,hk⟩
  try dsimp only
  have a5:=Uo op (d rows.length) k;refine ae (λP=>?_) (λO=>?_)
  .have J:k<i4 op:=i6
   refine t.sOp.bm k i5 J _ i5 ?_;rw[af (k+1)];have B:op.getD k eX=op[k]:=Iv J;refine aP (λe=>?_) (λe=>?_)
   .refine ae (λH=>?_) (λam=>?_)
    .refine⟨k+1,?_,⟨i5,i6⟩,i6⟩;rw[jf,g0 (by rw[B,e,hU H];rfl)];rfl
    .refine Q.bm k i5 i6 _ i5 ?_;refine Q.bm (jf op (d rows.length) k).toNat i6 i6 _ i5 ?_;have e1:(d rows.length).getD k 0=(d rows.length)[k]:=getD_lt;have e2:(d rows.length).getD (jf op (d rows.length) k).toNat 0=(d rows.length)[(jf op (d rows.length) k).toNat]:=getD_lt;refine ae (λap=>?_) (λao=>?_)
     .refine⟨k+1,?_,⟨i5,i6⟩,i6⟩;rw[jf,g0 (by rw[B,e,e1,e2,hU ap];simp)];rfl
     .refine⟨k+1,?_,⟨i5,i6⟩,i6⟩;rw[jf,g9 (by rw[B,e,e1,e2,ii ao,ii am];simp)];rfl
   .refine⟨k+1,?_,⟨i5,i6⟩,i6⟩;rw[jf,g9 (by rw[B,e];simp)];rfl
  .have U:k=i4 op:=i6
   subst U;exact⟨G.mono λb e _=>e,i5⟩
def gK(p:Int×Int):aW:=[xU ka p.1,xU ka p.2]
theorem acQ:∀x,∀c∈gK x,c.oneCell'=eS:=by intro x c a;simp only[gK,qX,List.not_mem_nil,or_false]at a;rcases a with rfl|rfl<;>rfl
def Dv(n:Int)(rows:bX):List (Int×Int)×av×av:=
 if kv n rows then((fd n.toNat rows).steps,(fd n.toNat rows).dead,gr (fd n.toNat rows).used rows.length)else([],[],[])
def aic(h0 h:f9)(v:Value)(ok:Bool)(c:List (Int×Int))(b a:av):Prop:=
 ∃s d f:Sl,v=.tuple #[xZ #[s,d,f],xY ok]/\
  Sp h0 h [aq 352 s 2 gK c,aq 3 d 1 az b,aq 3 f 1 az a]
theorem afQ{α β γ:Type}{h0 h:f9}{c:Nat->Nat}{v t n l r q:Nat}{o:α->aW}{g:β->aW}{s:γ->aW}{j p k:Sl}{l1:List α}{l2:List β}{u:List γ}(m:nc h0 h c)(e:ez h c 6 v j l o l1)(f:ez h c 7 t p r g l2)(a3:ez h c 8 n k q s u):
  Sp h0 h [aq v j l o l1,aq t p r g l2,aq n k q s u]:=by
 refine⟨λ_ h=>h,m.ac,λb=>c b-5,λb a=>?_,λi A d=>?_⟩
 .have:=m.bg b a;(try dsimp only);omega
 .match i,d with
  |0,d=>simp at d;subst d;exact⟨e.own,λb a=>⟨e.own.lt a,by have:=e.bg b a;(try dsimp only);omega⟩⟩
  |1,d=>simp at d;subst d;exact⟨f.own,λb a=>⟨f.own.lt a,by have:=f.bg b a;(try dsimp only);omega⟩⟩
  |2,d=>simp at d;subst d;exact⟨a3.own,λb a=>⟨a3.own.lt a,by have:=a3.bg b a;(try dsimp only);omega⟩⟩
  |i+3,d=>simp at d
theorem afR{n:Int}{rows:bX}(h:kv n rows=eS):0<=n/\n<=64/\∀r∈rows,gp n r=eS:=by simp only[kv,qx,decide_eq_true_eq,qS]at h;exact⟨h.1.1,h.1.2,h.2⟩
theorem Iw{n:Int}{r:av}(h:gp n r=eS):∀c∈r,0<=c/\c<n:=by simp only[gp,qx,qS,decide_eq_true_eq]at h;exact h.1
theorem MU:∀{r:av} {a n:Int},go r=eS->(∀c∈r,a<=c/\c<n)->(i4 r:Int)<=max 0 (n-a)
 |[],a,n,_,_=>jj
 |[x],a,n,_,h=>by have:=h x js;simp;omega
 |x::y::t,a,n,hr,h=>by
  simp only[go,qx,decide_eq_true_eq]at hr;have g:=h x js;have f:=h y js;have e:∀(l:av) (z:Int),go (z::l)=eS->∀c∈l,z<c:=by
   intro l
   induction l with
   |nil=>intro z _ c b;simp at b
   |cons w t ih=>
    intro z d c b;simp only[go,qx,decide_eq_true_eq]at d;rcases qX.1 b with rfl|b
    .exact d.1
    .have:=ih w d.2 c b;omega
  have:=MU (r:=y::t) (a:=x+1) (n:=n) hr.2 λc b=>⟨by
   rcases qX.1 b with rfl|b
   .omega
   .have:=e t y hr.2 c b;omega,(h c (by simp only[qX]at b⊢;exact .inr b)).2⟩
  simp only[List.length_cons]at this⊢;omega
theorem ZT{n:Int}{r:av}(h:gp n r=eS)(c:n<=64):i4 r<=64:=by have b:=Iw h;simp only[gp,qx]at h;have:=MU (a:=0) h.2 b;omega
theorem acR(n k:Nat)(h:k<n):(qf k eS++qf (n-k) eX).set k eS=qf (k+1) eS++qf (n-(k+1)) eX:=by
 have e:n-k=(n-(k+1))+1:=i6
 rw[qN _ _ js,e,wz];simp only[List.length_replicate,za,ze];rw[List.replicate_succ' (n:=k)];simp
theorem Qy{h h0:f9}{c:Nat->Nat}{a:f7}{l o u:Sl}{rows:bX}{rs:List Sl}{op us:List Bool}(m:iP h0 (λb=>b<h0.size) l 1 az rows rs)(j:nc h0 h c)(e:lx h c 2 a 409 [l,o,u])
  (k:ez h c 3 4 o 1 fS op) (p:ez h c 4 4 u 1 fS us) (g:i4 us=i4 rows) (n:i4 op<=64) (i:∀r∈rows,gp op.length r=eS):Bt h (λb=>b<h.size) a l o u rows rs op us:=
 ⟨e.box.cell0 i5,e.box.cell i5,e.box.cell i5,e.box.lt,(m.ac j.ac).mono λb f=>qT f j.ac.1,k.Vd λ_=>rfl,p.Vd λ_=>rfl,g,λr d=>Iw (i r d),λr d=>ZT (i r d) i6⟩
theorem ZU(n:Int)(l:Sl)(rows:bX)(rs:List Sl)(h:f9)(hl:iP h (λb=>b<h.size) l 1 az rows rs)(hs:i4 rows<=2^30)(d7:∀r∈rows,i4 r<=2^40):
  ai kg 287 #[xU ka n,l] h λv h'=>aic h h' v (kv n rows) (Dv n rows).1 (Dv n rows).2.1 (Dv n rows).2.2:=by
 refine ts Tryz.func287 ?_ (xc (.scope 1 [] [(5,6),(9,14),(42,108)] [v6,(.join [(6,Mw)] [(6,7),(19,27)] v6),(.two v6 (.inn (.loop [(32,aR)] [(7,8),(32,42)] v6))),v6] [(.two v6 (.two (.join [] [(9,12),(48,88)] v6) v6))] [(0,[(.two (.two v6 (.inn (.loop [(93,aR)] [(12,14),(93,107)] v6))) v6)])])) [(3,(.y [0,1,3,4] (.l [2,5,6,7,8]) (.l [5,2,6,7,8])))];have eo:=hl.OB;refine ur ag (nc.refl h) 1 i5 λa1 h1 bs dk=>?_;have F:=(nc.refl h).keep (m:=1) dk i7;refine(Lu n l rows rs h1 (hl.ac F.ac) i6 d7).mono ?_;rintro v h2 ⟨rfl,rfl⟩;refine⟨_,i5,?_⟩;refine aX (λhr=>?_) (λhr=>?_)
 .refine bs.fM ag i5 _ i5 i5 i5 (qi _) λh3 a0 D=>?_;refine⟨(⟨eH,0,0⟩,⟨eH,0,0⟩,⟨eH,0,0⟩),a0.box.aE _ i5,?_⟩;refine⟨⟨eH,0,0⟩,⟨eH,0,0⟩,⟨eH,0,0⟩,by rw[hr],?_⟩;simp only[Dv,hr,zh,if_false];exact(((Sp.zip (F.keep (m:=1) D i7).ac).nil 352 2 gK).nil 3 1 az).nil 3 1 az
 .obtain⟨ej,ek,b9⟩:=afR hr;obtain⟨N,rfl⟩:∃N:Nat,n=N:=⟨n.toNat,i6⟩
  have hN:N<=64:=i6
  refine bF (λs h'=>∃c a o u,s=dB a/\nc h h' c/\lx h' c 1 a1 283 [xV eH 0 0,xV eH 0 0,xV eH 0 0]/\lx h' c 2 a 409 [l,xV o.ptr o.len o.cap,xV u.ptr u.len u.cap]/\
   ez h' c 3 4 o 1 fS (qf N eX)/\ez h' c 4 4 u 1 fS (qf rows.length eX)) ⟨?_,?_⟩ ?_
  .refine AO ag F 3 fS ⟨_,_,i5,i5,i5,i5,i5,i5⟩ i7 eX i5 i5 N i5 i5 i6 λo h3 ho D=>?_;refine⟨A0,?_⟩;refine AO ag (F.keep (m:=3) D i7) 4 fS ⟨_,_,i5,i5,i5,i5,i5,i5⟩ i7 eX i5 i5 rows.length i6 i6 i6 λu h4 hu H=>?_;refine⟨A0,?_⟩;refine OE _ ((F.keep (m:=3) D i7).keep (m:=4) H i7) 2 λa h5 ha B=>?_;exact⟨A0,_,a,o,u,i5,((F.keep D i7).keep H i7).keep B i7,((bs.keep D i7).keep H i7).keep B i7,ha,(ho.keep H i7).keep B i7,hu.keep B i7⟩
  .refine AO ag F 4 fS ⟨_,_,i5,i5,i5,i5,i5,i5⟩ i7 eX i5 i5 rows.length i6 i6 i6 λu h3 hu D=>?_;refine⟨A0,?_⟩;refine AO ag (F.keep (m:=4) D i7) 3 fS ⟨_,_,i5,i5,i5,i5,i5,i5⟩ i7 eX i5 i5 N i5 i5 i6 λo h4 ho H=>?_;refine⟨A0,?_⟩;refine OE _ ((F.keep (m:=4) D i7).keep (m:=3) H i7) 2 λa h5 ha B=>?_;exact⟨A0,_,a,o,u,i5,((F.keep D i7).keep H i7).keep B i7,((bs.keep D i7).keep H i7).keep B i7,ha,ho.keep B i7,(hu.keep H i7).keep B i7⟩
  .rintro s h3 ⟨c,a,o,u,rfl,cp,bb,a0,a3,c0⟩;refine⟨a,i5,o,a0.box.cell i5,?_⟩;have ep:o.len=N:=by rw[a3.own.len];simp
   refine an (λt:Nat×(Nat->Nat)=>(t.1:Int)) (λt h'=>t.1<=N/\nc h h' t.2/\lx h' t.2 1 a1 283 [xV eH 0 0,xV eH 0 0,xV eH 0 0]/\lx h' t.2 2 a 409 [l,o,u]/\
    ez h' t.2 3 4 o 1 fS (qf t.1 eS++qf (N-t.1) eX)/\ez h' t.2 4 4 u 1 fS (qf rows.length eX)) (λt=>N-t.1) (0,c) i5 ⟨js,cp,bb,a0,by simpa using a3,c0⟩ ?_
   rintro⟨k,c⟩ h4 ⟨hk,a8,cc,a9,bq,b5⟩;dsimp only at*;refine ae (λea=>?_) (λd2=>?_)
   .have c4:k<N:=i6
    refine⟨a,i5,o,a9.box.cell i5,?_⟩;refine bq.set ag (λ_=>rfl) i5 k i5 jj eS i5 i5 i5 λh5 bd B=>?_;rw[af _];rw[acR _ _ c4]at bd;exact⟨(k+1,_),js,⟨jj,a8.keep B i7,cc.keep B i7,a9.keep B i7,bd,b5.keep B i7⟩,jj⟩
   .have c8:k=N:=i6
    subst c8;simp only[za,yJ,qI]at bq;refine ur ag a8 5 i5 λap h5 dy B=>?_;have da:=a8.keep (m:=5) B i7;have d8:=cc.keep (m:=5) B i7;have dr:=a9.keep (m:=5) B i7;have bd:=bq.keep (m:=5) B i7;have d6:=b5.keep (m:=5) B i7;clear a8 cc a9 bq b5 cp bb a0 a3 c0;generalize grow c h4.size 5=c5 at*;refine an (τ:=Nat×List Bool×List Bool×(List (Int×Int))×av×(Nat->Nat)×Sl×Sl) (λ_=>())
     (λ⟨f,op,us,st,dd,c,ss,ds⟩ h'=>i4 op=k/\us.length=i4 rows/\op.count eS<=f/\f<=k/\st.length<=k-f/\dd.length<=k-f/\
      (∃r,cP rows f op us=r/\fd k rows=⟨st++r.steps,dd++r.dead,r.used⟩)/\nc h h' c/\
      lx h' c 1 a1 283 [xV eH 0 0,xV eH 0 0,xV eH 0 0]/\lx h' c 2 a 409 [l,o,u]/\
      ez h' c 3 4 o 1 fS op/\ez h' c 4 4 u 1 fS us/\
      lx h' c 5 ap 283 [ss,ds,xV eH 0 0]/\ez h' c 6 352 ss 2 gK st/\ez h' c 7 3 ds 1 az dd)
     (λt=>t.1) (k,qf k eS,qf rows.length eX,[],[],c5,⟨eH,0,0⟩,⟨eH,0,0⟩) i5
     ⟨js,js,js,js,js,js,⟨_,i5,by simp[fd]⟩,da,d8,dr,bd,d6,dy,ez.nil _ _ _ _ _ _,ez.nil _ _ _ _ _ _⟩ ?_
    rintro⟨f,op,us,st,dd,c,ss,ds⟩ h6 ⟨ar,J,ec,er,ef,ed,⟨r,a6,bl⟩,M,ay,R,ad,P,K,O,L⟩;dsimp only at*;have I:∀r∈rows,gp op.length r=eS:=by rw[ar];exact b9
    have ah:=Qy hl M R ad P J i6 I;refine⟨a,i5,o,R.box.cell i5,?_⟩;refine(FN o op eS h6 (ad.Vd λ_=>rfl) i6).mono ?_;rintro v h7 ⟨rfl,rfl⟩;refine⟨_,i5,?_⟩;refine aX (λhc=>?_) (λhc=>?_)
    .have ab:op.contains eS=eX:=by simpa using hc
     have bb:r=⟨[],[],us⟩:=by rw[<-a6];exact AX ab f
     subst bb;simp only[qI]at bl;refine⟨a,i5,u,R.box.cell i5,?_⟩;have en:u.len=i4 rows:=by rw[P.own.len,J]
     refine an (λt:Nat×(Nat->Nat)×Sl=>(t.1:Int)) (λ⟨j,c,fs⟩ h'=>j<=i4 rows/\nc h h' c/\
      lx h' c 1 a1 283 [xV eH 0 0,xV eH 0 0,xV eH 0 0]/\ez h' c 4 4 u 1 fS us/\
      lx h' c 5 ap 283 [ss,ds,fs]/\ez h' c 6 352 ss 2 gK st/\ez h' c 7 3 ds 1 az dd/\ez h' c 8 3 fs 1 az (gr us j)) (λt=>i4 rows-t.1) (0,c,⟨eH,0,0⟩) i5
      ⟨js,M,ay,P,K,O,L,ez.nil _ _ _ _ _ _⟩ ?_
     rintro⟨j,c,fs⟩ h8 ⟨hj,bk,b2,b4,X,a4,ao,a2⟩;dsimp only at*;refine ae (λea=>?_) (λd2=>?_)
     .have eh:j<i4 rows:=i6
      have el:i4 (gr us j)<=j:=Gy us j;refine(b4.Vd λ_=>rfl).bm j i5 i6 _ i5 ?_;have cm:us.getD j eX=us[j]:=Iv i6;rw[af _];refine aX (λhb=>?_) (λhb=>?_)
      .refine⟨fs,X.box.cell i5,?_⟩;refine HB ag bk 9 az ⟨_,_,i5,i5,i5,i5,i5,i5⟩ i5 [(j:Int)] i5 (zC i5) i5 λv h9 c2 p=>?_;refine(a2.keep (m:=9) p i7).append ag ⟨_,_,i5,i5,i5,i5,i5,i5⟩ ⟨_,_,i5,i5⟩ i5 i7 (λ_=>rfl) (c2.seq λ_=>rfl) eZ jj λd9 b7 br g=>?_;refine((X.keep (m:=9) p i7).keep (m:=8) g i7).store ag i5 2 _ i5 i5 i5 (zC i5) λc1 b1 d=>?_;refine⟨(j+1,_,d9),js,⟨jj,((bk.keep p i7).keep g i7).keep d i7,((b2.keep p i7).keep g i7).keep d i7,((b4.keep p i7).keep g i7).keep d i7,b1,
        ((a4.keep p i7).keep g i7).keep d i7,((ao.keep p i7).keep g i7).keep d i7,?_⟩,jj⟩
       have e:gr us (j+1)=gr us j++[(j:Int)]:=by rw[gr,cm,hb];rfl
       rw[e];exact br.keep d i7
      .have e:gr us (j+1)=gr us j:=by rw[gr,cm,hb];rfl
       exact⟨(j+1,c,fs),js,⟨jj,bk,b2,b4,X,a4,ao,by rw[e];exact a2⟩,jj⟩
     .have d1:j=i4 rows:=i6
      subst d1;refine⟨(ss,ds,fs),X.box.aE _ i5,?_⟩;refine b2.fM ag i5 _ i5 i5 i5 (qi _) λh9 dx p=>?_;refine⟨(ss,ds,fs),dx.box.aE _ i5,?_⟩;refine⟨ss,ds,fs,by rw[hr],?_⟩;simp only[Dv,hr,if_true,qj,bl];exact afQ (bk.keep (m:=1) p i7) (a4.keep (m:=1) p i7) (ao.keep (m:=1) p i7) (a2.keep (m:=1) p i7)
    .have ab:op.contains eS=eS:=by simpa using hc
     obtain⟨f',rfl⟩:∃f',f=f'+1:=by obtain⟨j,hj,e⟩:=ER ab;have:=lB e;exact⟨f-1,i6⟩
     refine aJ ?_;refine(NF a l o u rows rs op us h7 ah i6).mono ?_;rintro v h8 ⟨A,rfl⟩;have A:=A.bg c 9;cases hst:mZ rows op us with
     |some i=>
      obtain⟨hi,d5⟩:=uz hst;obtain⟨ei,eb,a3⟩:=Da d5;have cq:rows.getD i []=rows[i]:=by rw[qg,qc hi];rfl
      have eg:=Iw (I _ (qe hi)) _ (cq▸eb);refine⟨((i,fH rows op i),eS),i5,?_⟩
      try dsimp only
      refine ur ag (M.keep (m:=9) A i7) 9 i5 λax h9 has p=>?_;refine has.fM ag i5 _ i5 i5 i5 (qi _) λb7 S g=>?_;refine CF i5 ?_;have G:=((M.keep (m:=9) A i7).keep (m:=9) p i7).keep (m:=9) g i7;have am:=((ay.keep (m:=9) A i7).keep (m:=9) p i7).keep (m:=9) g i7;have Z:=((R.keep (m:=9) A i7).keep (m:=9) p i7).keep (m:=9) g i7;have V:=((ad.keep (m:=9) A i7).keep (m:=9) p i7).keep (m:=9) g i7;have Y:=((P.keep (m:=9) A i7).keep (m:=9) p i7).keep (m:=9) g i7;have E:=((K.keep (m:=9) A i7).keep (m:=9) p i7).keep (m:=9) g i7;have T:=((O.keep (m:=9) A i7).keep (m:=9) p i7).keep (m:=9) g i7;have U:=((L.keep (m:=9) A i7).keep (m:=9) p i7).keep (m:=9) g i7;clear M ay R ad P K O L A p has ah;generalize grow (grow (grow c h7.size 9) h8.size 9) h9.size 9=c10 at*;refine⟨ss,E.box.cell0 i5,(_,_),S.box.aE _ i5,?_⟩
      try dsimp only
      refine HB ag G 10 gK ⟨_,_,i5,i5,i5,i5,i5,i5⟩ i5 [((i:Int),fH rows op i)] i5 (zC i5) i5 λv c1 cf d=>?_;refine(T.keep (m:=10) d i7).append ag ⟨_,_,i5,i5,i5,i5,i5,i5⟩ ⟨_,_,i5,i5⟩ i5 i7 (λ_=>rfl) (cf.seq λ_=>rfl) acQ jj λd4 dp b0 q=>?_;refine((E.keep (m:=10) d i7).keep (m:=6) q i7).fM ag i5 _ i5 i5 i5 (zC i5) λc6 b6 x=>?_;have Q:=((S.keep (m:=10) d i7).keep (m:=6) q i7).keep (m:=5) x i7;have a7:=((Z.keep (m:=10) d i7).keep (m:=6) q i7).keep (m:=5) x i7;have cr:=((Y.keep (m:=10) d i7).keep (m:=6) q i7).keep (m:=5) x i7;have cd:=((V.keep (m:=10) d i7).keep (m:=6) q i7).keep (m:=5) x i7;refine⟨a,i5,u,a7.box.cell i5,(i:Int),Q.box.cell0 i5,a,i5,o,a7.box.cell i5,fH rows op i,Q.box.cell i5,?_⟩;refine cr.set ag (λ_=>rfl) i5 i i5 i6 eS i5 i5 i5 λc7 ce w=>?_;have a5:=Q.keep (m:=4) w i7;have W:=a7.keep (m:=4) w i7;refine⟨⟨a5.box.cell i5,A0⟩,?_⟩;refine(cd.keep (m:=4) w i7).set ag (λ_=>rfl) i5 (fH rows op i).toNat i6 i6 eX i5 i5 i5 λd0 al z=>?_;have c9:=a5.keep (m:=3) z i7;have cn:=W.keep (m:=3) z i7;refine⟨A0,?_⟩;have du:=lB (op:=op) (j:=(fH rows op i).toNat) a3;rw[pq ab hst]at a6;refine⟨(f',op.set (fH rows op i).toNat eX,us.set i eS,st++[((i:Int),fH rows op i)],dd,_,d4,ds),i5,⟨by simp[ar],by simp[J],i9,i9,jj,i9,⟨_,i5,?_⟩,
       ((((G.keep d i7).keep q i7).keep x i7).keep w i7).keep z i7,
       ((((am.keep d i7).keep q i7).keep x i7).keep w i7).keep z i7,
       cn,al,ce.keep z i7,(b6.keep w i7).keep z i7,((b0.keep x i7).keep w i7).keep z i7,
       ((((U.keep d i7).keep q i7).keep x i7).keep w i7).keep z i7⟩,i9⟩
      rw[bl,<-a6];simp
     |none=>
      have d3:=tj (rows:=rows) (us:=us) ab;refine⟨((0,0),eX),i5,?_⟩
      try dsimp only
      refine ur ag (M.keep (m:=9) A i7) 9 i5 λax h9 has p=>?_;refine has.fM ag i5 _ i5 i5 i5 (qi _) λb7 S g=>?_;refine tK i5 ?_;have G:=((M.keep (m:=9) A i7).keep (m:=9) p i7).keep (m:=9) g i7;have am:=((ay.keep (m:=9) A i7).keep (m:=9) p i7).keep (m:=9) g i7;have Z:=((R.keep (m:=9) A i7).keep (m:=9) p i7).keep (m:=9) g i7;have V:=((ad.keep (m:=9) A i7).keep (m:=9) p i7).keep (m:=9) g i7;have Y:=((P.keep (m:=9) A i7).keep (m:=9) p i7).keep (m:=9) g i7;have E:=((K.keep (m:=9) A i7).keep (m:=9) p i7).keep (m:=9) g i7;have T:=((O.keep (m:=9) A i7).keep (m:=9) p i7).keep (m:=9) g i7;have U:=((L.keep (m:=9) A i7).keep (m:=9) p i7).keep (m:=9) g i7;clear M ay R ad P K O L A p has ah;generalize grow (grow (grow c h7.size 9) h8.size 9) h9.size 9=c10 at*;have ah:=Qy hl G Z V Y J i6 I;refine(NG a l o u rows rs op us b7 ah i6 i6).mono ?_;rintro v c1 ⟨d,rfl⟩;have d:=d.bg c10 9;refine⟨_,i5,?_⟩;refine⟨ds,(E.keep (m:=9) d i7).box.cell i5,?_⟩;refine HB ag (G.keep (m:=9) d i7) 10 az ⟨_,_,i5,i5,i5,i5,i5,i5⟩ i5 [iU rows op us] i5 (zC i5) i5 λv dp cs q=>?_;refine((U.keep (m:=9) d i7).keep (m:=10) q i7).append ag ⟨_,_,i5,i5,i5,i5,i5,i5⟩ ⟨_,_,i5,i5⟩ i5 i7 (λ_=>rfl) (cs.seq λ_=>rfl) eZ jj λds' c6 b3 x=>?_;refine(((E.keep (m:=9) d i7).keep (m:=10) q i7).keep (m:=7) x i7).store ag i5 1 _ i5 i5 i5 (zC i5) λc7 ca w=>?_;have W:=(((Z.keep (m:=9) d i7).keep (m:=10) q i7).keep (m:=7) x i7).keep (m:=5) w i7;have cl:=(((V.keep (m:=9) d i7).keep (m:=10) q i7).keep (m:=7) x i7).keep (m:=5) w i7;refine⟨a,i5,o,W.box.cell i5,?_⟩;refine cl.set ag (λ_=>rfl) i5 (iU rows op us).toNat i6 i6 eX i5 i5 i5 λd0 al z=>?_;have du:=lB (op:=op) (j:=(iU rows op us).toNat) d3.2.2;rw[pr ab hst]at a6;refine⟨(f',op.set (iU rows op us).toNat eX,us,st,dd++[iU rows op us],_,ss,ds'),i5,⟨by simp[ar],J,i9,i9,i9,jj,⟨_,i5,?_⟩,
       ((((G.keep d i7).keep q i7).keep x i7).keep w i7).keep z i7,
       ((((am.keep d i7).keep q i7).keep x i7).keep w i7).keep z i7,
       W.keep z i7,al,((((Y.keep d i7).keep q i7).keep x i7).keep w i7).keep z i7,ca.keep z i7,
       ((((T.keep d i7).keep q i7).keep x i7).keep w i7).keep z i7,
       (b3.keep w i7).keep z i7⟩,i9⟩
      rw[bl,<-a6];simp
theorem Kb(pool:List (Sl×Row))(d:(⟨eH,0,0⟩,[])∈pool)(n:Nat):iG pool id (qf n ⟨eH,0,0⟩) (qf n []):=
 ⟨js,λi r l a b=>by
  rw[zX]at a b;split at a
  .rename_i c;rw[g0 c]at b;cases a;cases b;exact d
  .cases a⟩
theorem aa.afS{B:aw}{h0 h:f9}{As:List HP}(H:aa B h0 h As)(i:Nat){pool:List (Sl×Row)}(b:As[i]?=dB (mC pool)):aa B h0 h (As.set i (mC ((⟨eH,0,0⟩,[])::pool))):=
 H.fN i b λq c x a=>by
  rcases qX.1 a with rfl|a
  .exact Seq.nil _ _ _ _ _ _
  .exact c x a
structure WE (h:f9) (f:f7) (r st dd lf:Sl) (rr:List (Sl×Sl)) (R:List fP) (ST:List (Int×Int)) (D L:av):Prop where
 field:gn h f
 rest:oz kP 2 qv h r rr R
 steps:Rd h st 2 gK ST
 dead:Rd h dd 1 az D
 left:Rd h lf 1 az L
abbrev SA(s:f7)(a:aW):HP:=ak s 285 a
abbrev HA(s:Sl)(rs:List Sl):HP:=aq 34 s 1 bx rs
abbrev RA(s:Sl)(l:Row):HP:=aq 5 s 1 aB l
theorem MV{R:bX}:∀{l1 l2:List (Int×Int)} {D:Int->Prop},tm R D (l1++l2)->tm R D l1/\tm R (λx=>D x∨∃i,(i,x)∈l1) l2
 |[],l2,D,h=>⟨A0,by
  have:(λx=>D x∨∃i,(i,x)∈([]:List (Int×Int)))=D:=by funext x;simp
  rw[this];exact h⟩
 |(i,c)::l1,l2,D,h=>by
  obtain⟨a,b,c',d,e⟩:=h;obtain⟨f,g⟩:=MV e;refine⟨⟨a,b,c',d,f⟩,?_⟩;have:(λx=>D x∨∃j,(j,x)∈(i,c)::l1)=λx=>(D x∨x=c)∨∃j,(j,x)∈l1:=by
   funext x;simp only[qX,Prod.mk.injEq,eq_iff_iff];constructor
   .rintro(h|⟨j,⟨_,h⟩|h⟩)
    .exact .inl (.inl h)
    .exact .inl (.inr h)
    .exact .inr ⟨j,h⟩
   .rintro((h|h)|⟨j,h⟩)
    .exact .inl h
    .exact .inr ⟨i,.inl ⟨i5,h⟩⟩
    .exact .inr ⟨j,.inr h⟩
  rw[this];exact g
theorem SJ(s f:f7)(p:Int×Int×Int)(v r W V Z P N:Sl)(n:Nat)(pool:List (Sl×Row))(H:aa B h0 h (SA s (iH f p v r W V Z P N)::mC pool::As))(m:v.len=n)(hn:n<=64){K:Unit->f9->Prop}
  (R:∀g d h',g.len=n->d.len=n->aa B h0 h' (SA s (iH f p v r W V Z g d)::HA g (qf n ⟨eH,0,0⟩)::HA d (qf n ⟨eH,0,0⟩)::mC pool::As)->K () h'):(λ(c:bL) (S:Unit->f9->Prop)=>
 ∃a3:f7,(c=dB a3)/\
 ∃b:Sl,f8 h (a3.add 4)=dB (xV b.ptr b.len b.cap)/\
 ∃a5:f7,(c=dB a5)/\
 ∃a:Sl,f8 h (a5.add 4)=dB (xV a.ptr a.len a.cap)/\
 (bI kg (zx 111 (xU ka ((b.len:Nat):Int)) (xU ka ((b.len:Nat):Int))) (.one (.sc .slc)) h λy E=>
 (bQ.ok [(a5.add 4,(xV a.ptr a.len a.cap)),(a3.add 4,(xV b.ptr b.len b.cap))] E)/\
 ∃O:f7,(c=dB O)/\
 (bI kg (zx 111 (xU ka ((a.len:Nat):Int)) (xU ka ((a.len:Nat):Int))) (.one (.sc .slc)) E λv9 A=>
 (bQ.ok [(a5.add 4,(xV a.ptr a.len a.cap)),(a3.add 4,(xV b.ptr b.len b.cap))] A)/\
 aj kg (qF 111 (xW (dB (O.add 9))) (xV y.ptr y.len y.cap)) A λ_ h3=>
 (bQ.ok [] h3)/\
 ∃D:f7,(c=dB D)/\
 aj kg (qF 111 (xW (dB (D.add 10))) (xV v9.ptr v9.len v9.cap)) h3 λ_ q=>
 (bQ.ok [] q)/\
 S () q)/\(aj kg (qF 111 (xW (dB (O.add 9))) (xV y.ptr y.len y.cap)) E λ_ T=>
 (bQ.ok [] T)/\
 bI kg (zx 111 (xU ka ((a.len:Nat):Int)) (xU ka ((a.len:Nat):Int))) (.one (.sc .slc)) T λw U=>
 (bQ.ok [] U)/\
 ∃G:f7,(c=dB G)/\
 aj kg (qF 111 (xW (dB (G.add 10))) (xV w.ptr w.len w.cap)) U λ_ h7=>
 (bQ.ok [] h7)/\
 S () h7))/\(bI kg (zx 111 (xU ka ((a.len:Nat):Int)) (xU ka ((a.len:Nat):Int))) (.one (.sc .slc)) h λt h8=>
 (bQ.ok [(a5.add 4,(xV a.ptr a.len a.cap)),(a3.add 4,(xV b.ptr b.len b.cap))] h8)/\
 bI kg (zx 111 (xU ka ((b.len:Nat):Int)) (xU ka ((b.len:Nat):Int))) (.one (.sc .slc)) h8 λx Y=>
 (bQ.ok [(a5.add 4,(xV a.ptr a.len a.cap)),(a3.add 4,(xV b.ptr b.len b.cap))] Y)/\
 ∃I:f7,(c=dB I)/\
 aj kg (qF 111 (xW (dB (I.add 9))) (xV x.ptr x.len x.cap)) Y λ_ z=>
 (bQ.ok [] z)/\
 ∃J:f7,(c=dB J)/\
 aj kg (qF 111 (xW (dB (J.add 10))) (xV t.ptr t.len t.cap)) z λ_ M=>
 (bQ.ok [] M)/\
 S () M)) (dB s) K:=by
 have X:=H.box 0 i5;refine⟨s,i5,v,X.cell i5,s,i5,v,X.cell i5,?_,?_⟩
 .refine H.make ag bx fh i7 ⟨eH,0,0⟩ i5 i5 n n o9 o9 (qi _) i6 λg E o Q l=>?_;have l:=l.aZ;have j:=l.box 1 i5;refine⟨⟨j.cell i5,j.cell i5,A0⟩,s,i5,?_,?_⟩
  .refine l.make ag bx fh i7 ⟨eH,0,0⟩ i5 i5 n n o9 o9 (qi _) i6 λd A k F i=>?_;have i:=i.aZ;have e:=i.box 2 i5;refine⟨⟨e.cell i5,e.cell i5,A0⟩,?_⟩;refine i.store ag 2 i5 i5 9 [g] i5 i5 i5 oj λh3 u=>⟨A0,s,i5,?_⟩
   refine u.store ag 2 i5 i5 10 [d] i5 i5 i5 oj λq L=>⟨A0,?_⟩
   exact R g d q o k (L.aI 4 [2,1,0,3])
  .refine l.store ag 1 i5 i5 9 [g] i5 i5 i5 oj λA i=>⟨A0,?_⟩
   refine i.make ag bx fh i7 ⟨eH,0,0⟩ i5 i5 n n o9 o9 (qi _) i6 λd h3 k F u=>⟨A0,s,i5,?_⟩
   have u:=u.aZ;refine u.store ag 2 i5 i5 10 [d] i5 i5 i5 oj λq L=>⟨A0,?_⟩
   exact R g d q o k (L.aI 4 [2,1,0,3])
 .refine H.make ag bx fh i7 ⟨eH,0,0⟩ i5 i5 n n o9 o9 (qi _) i6 λd E o Q l=>?_;have l:=l.aZ;have j:=l.box 1 i5;refine⟨⟨j.cell i5,j.cell i5,A0⟩,?_⟩;refine l.make ag bx fh i7 ⟨eH,0,0⟩ i5 i5 n n o9 o9 (qi _) i6 λg A k F i=>?_;have i:=i.aZ;have e:=i.box 2 i5;refine⟨⟨e.cell i5,e.cell i5,A0⟩,s,i5,?_⟩;refine i.store ag 2 i5 i5 9 [g] i5 i5 i5 oj λh3 u=>⟨A0,s,i5,?_⟩
  refine u.store ag 2 i5 i5 10 [d] i5 i5 i5 oj λq L=>⟨A0,?_⟩
  exact R g d q k o (L.aI 4 [2,0,1,3])
theorem ZV(n nd w:Nat)(d:av):(gG n nd w d).1.length=n/\(gG n nd w d).2.length=n:=by
 unfold gG;have:∀(l:List (Int×Nat)) (s:aO×aO),(l.foldl (λs p=>(s.1.set p.1.toNat (oL nd p.2),s.2.set p.1.toNat (aN w))) s).1.length=i4 s.1/\(l.foldl (λs p=>(s.1.set p.1.toNat (oL nd p.2),s.2.set p.1.toNat (aN w))) s).2.length=i4 s.2:=by
  intro l
  induction l with
  |nil=>intro s;exact⟨i5,i5⟩
  |cons a l ih=>intro s;rw[zA];have:=ih (s.1.set a.1.toNat (oL nd a.2),s.2.set a.1.toNat (aN w));simpa using this
 have:=this d.zipIdx (qf n [],qf n []);simpa using this
abbrev Told(s f:f7)(p:Int×Int×Int)(v r h g c b a:Sl)(e d:List Sl)(pl:List (Sl×Row)):List HP:=[SA s (iH f p v r h g c b a),HA b e,HA a d,mC pl]
theorem WF(s f:f7)(p:Int×Int×Int)(v r st T lf wa J:Sl)(I mr:List Sl)(pl:List (Sl×Row))(c:Int)(nd w:Nat)(H:aa B h0 h (Told s f p v r st T lf wa J I mr pl++As))(ar:0<=c)(hw:c.toNat<i4 I)(Z:c.toNat<i4 mr)(X:p.2.2=w)(hd:T.len=nd)(ax:nd<=64)(R:w<=2^20){K:Unit->f9->Prop}
  (hk:∀a b h',aa B h0 h' (RA a (aN nd)::RA b (aN w)::(Told s f p v r st T lf wa J (I.set c.toNat a) (mr.set c.toNat b) pl++As))->K () h'):(λ(O:bL) (K3:Unit->f9->Prop)=>
 ∃l:f7,(O=dB l)/\
 ∃g:Sl,f8 h (l.add 9)=dB (xV g.ptr g.len g.cap)/\
 ∃a25:f7,(O=dB a25)/\
 ∃d:Sl,f8 h (a25.add 10)=dB (xV d.ptr d.len d.cap)/\
 ∃W:f7,(O=dB W)/\
 ∃j:Int,f8 h ((W.add 1).add 2)=dB (xU ka j)/\
 (bI kg (zx 34 (xU ka ((T.len:Nat):Int)) (xU ka ((T.len:Nat):Int))) (.one (.sc .slc)) h λn L=>
 (bQ.ok [((W.add 1).add 2,(xU ka j)),(a25.add 10,(xV d.ptr d.len d.cap)),(l.add 9,(xV g.ptr g.len g.cap))] L)/\
 ∃Q:f7,(g.ptr=dB Q/\0<=c/\c<((g.len:Nat):Int))/\
 (bI kg (zx 34 (xU ka j) (xU ka j)) (.one (.sc .slc)) L λN ap=>
 (bQ.ok [(a25.add 10,(xV d.ptr d.len d.cap)),(l.add 9,(xV g.ptr g.len g.cap))] ap)/\
 aj kg (qF 34 (xW (dB (Q.add (c.toNat*1)))) (xV n.ptr n.len n.cap)) ap λ_ q=>
 (bQ.ok [] q)/\
 ∃E:f7,(d.ptr=dB E/\0<=c/\c<((d.len:Nat):Int))/\
 aj kg (qF 34 (xW (dB (E.add (c.toNat*1)))) (xV N.ptr N.len N.cap)) q λ_ z=>
 (bQ.ok [] z)/\
 K3 () z)/\(aj kg (qF 34 (xW (dB (Q.add (c.toNat*1)))) (xV n.ptr n.len n.cap)) L λ_ A=>
 (bQ.ok [] A)/\
 bI kg (zx 34 (xU ka j) (xU ka j)) (.one (.sc .slc)) A λk y=>
 (bQ.ok [] y)/\
 ∃F:f7,(d.ptr=dB F/\0<=c/\c<((d.len:Nat):Int))/\
 aj kg (qF 34 (xW (dB (F.add (c.toNat*1)))) (xV k.ptr k.len k.cap)) y λ_ t=>
 (bQ.ok [] t)/\
 K3 () t))/\(bI kg (zx 34 (xU ka j) (xU ka j)) (.one (.sc .slc)) h λU ab=>
 (bQ.ok [(a25.add 10,(xV d.ptr d.len d.cap)),(l.add 9,(xV g.ptr g.len g.cap))] ab)/\
 bI kg (zx 34 (xU ka ((T.len:Nat):Int)) (xU ka ((T.len:Nat):Int))) (.one (.sc .slc)) ab λS ad=>
 (bQ.ok [(a25.add 10,(xV d.ptr d.len d.cap)),(l.add 9,(xV g.ptr g.len g.cap))] ad)/\
 ∃ao:f7,(g.ptr=dB ao/\0<=c/\c<((g.len:Nat):Int))/\
 aj kg (qF 34 (xW (dB (ao.add (c.toNat*1)))) (xV S.ptr S.len S.cap)) ad λ_ al=>
 (bQ.ok [] al)/\
 ∃am:f7,(d.ptr=dB am/\0<=c/\c<((d.len:Nat):Int))/\
 aj kg (qF 34 (xW (dB (am.add (c.toNat*1)))) (xV U.ptr U.len U.cap)) al λ_ ah=>
 (bQ.ok [] ah)/\
 K3 () ah)) (dB s) K:=by
 have hb:=H.box 0 i5;have mk:∀{Y:f9} {Cs:List HP} (m:Nat) (Z:m<=2^20) {z1 z2:Int},z1=(m:Int)->z2=(m:Int)->aa B h0 Y Cs->∀{K:Sl->f9->Prop},(∀a h',aa B h0 h' (RA a (aN m)::Cs)->K a h')->
   bI kg (zx 34 (xU ka z1) (xU ka z2)) (.one (.sc .slc)) Y K:=by
  intro Y Cs m Z z1 z2 e1 e2 G K hK;subst e1;subst e2;exact G.make ag aB gm i7 0 i5 i5 m m i5 i5 (qi _) i6 λa h' _ _ H'=>hK a h' H'.aZ
 refine⟨s,i5,wa,hb.cell i5,s,i5,J,hb.cell i5,s,i5,p.2.2,show f8 h (s.add 3)=_ from hb.cell i5,?_,?_⟩
 .refine mk nd i6 (by rw[hd]) (by rw[hd]) H λa Y G=>?_;have o:=G.box 1 i5;refine⟨⟨show f8 Y (s.add 3)=_ from o.cell i5,o.cell i5,o.cell i5,A0⟩,?_⟩;have u:∀{h2:f9} {Cs:List HP} {I:List Sl} (i:Nat) (a:Sl) {s':Sl},aa B h0 h2 Cs->Cs[i]?=dB (HA s' I)->c.toNat<i4 I->∀{K:f9->Prop},(∀h',aa B h0 h' (Cs.set i (HA s' (I.set c.toNat a)))->K h')->∃x:f7,(s'.ptr=dB x/\0<=c/\c<((s'.len:Nat):Int))/\aj kg (qF 34 (xW (dB (x.add (c.toNat*1)))) (xV a.ptr a.len a.cap)) h2 λ_ h'=>K h':=by intro h2 Cs I i a s' P hi hl K hK;exact P.set ag i hi (λ_=>rfl) i5 c.toNat i6 hl a i5 i5 i5 λh3 M=>hK h3 M
  obtain⟨x,hx,-⟩:=u (K:=λ_=>True) 2 a G rfl hw λ_ _=>trivial;refine⟨x,hx,?_,?_⟩
  .refine mk w R X X G λb h2 P=>?_;have D:=P.box 2 i5;refine⟨⟨D.cell i5,D.cell i5,A0⟩,?_⟩;obtain⟨x',V,hr⟩:=u (K:=λq=>bQ.ok [] q/\∃E:f7,(J.ptr=dB E/\0<=c/\c<((J.len:Nat):Int))/\
 aj kg (qF 34 (xW (dB (E.add (c.toNat*1)))) (xV b.ptr b.len b.cap)) q λ_ z=>(bQ.ok [] z)/\K () z) 3 a P i5 hw λh3 M=>⟨A0,u 4 b M i5 Z λh4 H4=>⟨A0,hk a b h4 (H4.aI 6 [1,0,2,3,4,5])⟩⟩
   have e:x=x':=wj.inj (hx.1.symm.trans V.1);subst e;exact hr
  .obtain⟨x',V,hr⟩:=u (K:=λA=>bQ.ok [] A/\bI kg (zx 34 (xU ka p.2.2) (xU ka p.2.2)) (.one (.sc .slc)) A λk y=>
 (bQ.ok [] y)/\
 ∃F:f7,(J.ptr=dB F/\0<=c/\c<((J.len:Nat):Int))/\
 aj kg (qF 34 (xW (dB (F.add (c.toNat*1)))) (xV k.ptr k.len k.cap)) y λ_ t=>
 (bQ.ok [] t)/\K () t) 2 a G i5 hw λh3 M=>⟨A0,mk w R X X M λb h4 H4=>⟨A0,u 4 b H4 i5 Z λh5 H5=>⟨A0,hk a b h5 (H5.aI 6 [1,0,2,3,4,5])⟩⟩⟩
   have e:x=x':=wj.inj (hx.1.symm.trans V.1);subst e;exact hr
 .refine mk w R X X H λb Y G=>?_;have o:=G.box 1 i5;refine⟨⟨o.cell i5,o.cell i5,A0⟩,?_⟩;refine mk nd i6 (by rw[hd]) (by rw[hd]) G λa h2 P=>?_;have D:=P.box 2 i5;refine⟨⟨D.cell i5,D.cell i5,A0⟩,?_⟩;refine P.set ag 3 i5 (λ_=>rfl) i5 c.toNat i6 hw a i5 i5 i5 λh3 M=>⟨A0,?_⟩
  refine M.set ag 4 i5 (λ_=>rfl) i5 c.toNat i6 Z b i5 i5 i5 λh4 H4=>⟨A0,hk a b h4 (H4.aI 6 [0,1,2,3,4,5])⟩
theorem Qz{h:f9}{Cs:List HP}(x:Sl)(m:Row)(nd:Nat)(z:Int)(H:aa B h0 h Cs)(y:z=nd)(w:nd<=64)(E:i4 m<=2^20){L L2:bQ}(v:L.ok h)(l:L2.ok h)(u:St B h0 Cs λh=>Rd h x 1 aB m){K:Sl->Sl->f9->Prop}
  (r:∀a b h',aS (λb=>b<h.size) h h'->aa B h0 h' (RA a (aN nd)::RA b m::Cs)->K a b h'):
  (bI kg (zx 34 (xU ka z) (xU ka z)) (.one (.sc .slc)) h λf e=>
 (bQ.ok L e)/\
 pH kg 132 #[(xV x.ptr x.len x.cap)] (.one (.sc .slc)) e λn j=>K f n j)/\(pH kg 132 #[(xV x.ptr x.len x.cap)] (.one (.sc .slc)) h λp d=>
 (bQ.ok L2 d)/\
 bI kg (zx 34 (xU ka z) (xU ka z)) (.one (.sc .slc)) d λo k=>K o p k):=by
 subst y;constructor
 .refine H.Jb ag aB gm i7 0 i5 i5 nd nd i5 i5 (qi _) i6 λa s _ q c=>⟨jo q v,?_⟩
  have c:=c.aZ;refine(fq x m s (u.at [_] c) i6).y0 λb i t=>⟨b,i5,r a b i (up q t.ac) ((c.bS t).oy)⟩
 .refine(fq x m h (u.at [] H) i6).y0 λb s g=>?_;have c:=H.bS g;refine⟨b,i5,jo g.ac l,?_⟩;refine c.Jb ag aB gm i7 0 i5 i5 nd nd i5 i5 (qi _) i6 λa i _ D A=>?_;exact r a b i (up g.ac D) A.aZ
structure mK (pool pl:List (Sl×Row)) (wr mr:List Sl) (W M:aO):Prop where
 sub:∀x∈pool,x∈pl
 way:iG pl id wr W
 more:iG pl id mr M
theorem mK.step{pool pl:List (Sl×Row)}{f e:List Sl}{W M:aO}(x:mK pool pl f e W M)(c:Nat)(a b:Sl)(l m:Row):mK pool ((b,m)::(a,l)::pl) (f.set c a) (e.set c b) (W.set c l) (M.set c m):=
 ⟨λy d=>by simp[x.sub y d],(x.way.mono λy d=>by simp[d]).set c js,(x.more.mono λy d=>by simp[d]).set c js⟩
theorem WG(s f:f7)(p:Int×Int×Int)(v r z q I a4 a7:Sl)(rr:List (Sl×Sl))(R:List fP)(ST:List (Int×Int))(D L:av)(n nd w:Nat)(pool:List (Sl×Row))(H:aa B h0 h (SA s (iH f p v r z q I a4 a7)::mC pool::As))(Y:St B h0 As λh=>WE h f r z q I rr R ST D L)
  (hv:v.len=n) (hn:n<=64) (hp:p.2.2=w) (hw:w<=2^20) (br:i4 D=nd) (ad:nd<=64) (hR:∀e∈R,jt n w e) (hD:∀c∈D,0<=c/\c<(n:Int)) (bq:D.Nodup) (hg:tm (R.map qD) (·∈D) ST) (b9:i4 ST<=2^20) (bl:∀e∈R,i4 e.1<=2^20) (ay:(⟨eH,0,0⟩,[])∈pool):
  ai kg 227 #[xW (dB s)] h λv' h'=>v'=.tuple #[]/\∃d m E A pl,aa B h0 h' (Told s f p v r z q I d m E A pl++As)/\mK pool pl E A (ST.foldl (iz R nd) (gG n nd w D)).1 (ST.foldl (iz R nd) (gG n nd w D)).2:=by
 refine ts Tryz.func227 ?_ (xc (x6 [] [(18,36)] (u9 (xc (v7 (ws [(42,aR)] [(3,5),(42,77)] (xc (xc (u9 (v7 (xc (x6 [] [(47,67)] v6))) v6)))))) (xc (v7 (ws [(83,aR)] [(6,10),(11,12),(83,134)] (xc (xc (u9 (v7 (xc (x6 [(7,(.sc .adr))] [(7,8),(87,95)] (x6 [(8,cE),(9,cE)] [(8,10),(95,100)] (x0 [(103,aR)] [(11,12),(103,117)]))))) v6))))))))) [(1,(.y [0,1,2,3,4,5,6,8,9,10,11,12] (.y [7,14,15] (.l [13,16,17,18,19]) (.l [16,13,17,18,19])) (.l [13,7,14,15,16,17,18,19]))),(5,(.y [0,1,2,3,4,5,6,7,8,9,10,12,13,14,15,16] (.y [11,18] (.l [17,19,20,21]) (.l [19,17,20,21])) (.l [17,11,18,19,20,21]))),(12,(.y [0,2,3] (.l [1,4,5,6]) (.l [4,1,5,6])))];have hb:=H.box 0 i5;have a2:q.len=nd:=by rw[(Y.at [_,_] H).dead.len,br]
 refine⟨s,i5,q,show f8 h (s.add 7)=_ from hb.cell i5,?_⟩;refine bF (λ_ h'=>∃d m,d.len=n/\m.len=n/\aa B h0 h' (Told s f p v r z q I d m (qf n ⟨eH,0,0⟩) (qf n ⟨eH,0,0⟩) pool++As)) ?_ ?_
 .exact SJ (K:=λ_ h'=>∃d m,d.len=n/\m.len=n/\aa B h0 h' (Told s f p v r z q I d m (qf n ⟨eH,0,0⟩) (qf n ⟨eH,0,0⟩) pool++As)) s f p v r z q I a4 a7 n pool H hv hn λd m h' h1 h2 O=>⟨d,m,h1,h2,O⟩
 rintro-h1 ⟨d,m,cd,cm,H1⟩;have b7:=H1.box 0 i5;refine⟨s,i5,q,show f8 h1 (s.add 7)=_ from b7.cell i5,?_⟩;refine an (λt:Nat×List Sl×List Sl×List (Sl×Row)=>(t.1:Int)) (λt h'=>t.1<=nd/\aa B h0 h' (Told s f p v r z q I d m t.2.1 t.2.2.1 t.2.2.2++As)/\mK pool t.2.2.2 t.2.1 t.2.2.1 (gG n nd w (D.take t.1)).1 (gG n nd w (D.take t.1)).2) (λt=>nd-t.1)
  (0,qf n ⟨eH,0,0⟩,qf n ⟨eH,0,0⟩,pool) i5 ⟨i6,H1,⟨λ_ h=>h,Kb pool ay n,Kb pool ay n⟩⟩ ?_
 rintro⟨i,E,A,pl⟩ h2 ⟨hi,H2,T2⟩;dsimp only at*;have b1:=ZV n nd w (D.take i);have P:=T2.way.1;have X:=T2.more.1;refine ae (λe=>?_) (λe=>?_)
 .have ab:i<nd:=i6
  have V:=hD _ (qe (show i<i4 D by omega));refine(Y.at [_,_,_,_] H2).dead.bm i i5 i6 _ i5 ?_;refine bF (λ_ h'=>∃a b,aa B h0 h' (RA a (aN nd)::RA b (aN w)::(Told s f p v r z q I d m (E.set D[i].toNat a) (A.set D[i].toNat b) pl++As))) ?_ ?_
  .exact WF (K:=λ_ h'=>∃a b,aa B h0 h' (RA a (aN nd)::RA b (aN w)::(Told s f p v r z q I d m (E.set D[i].toNat a) (A.set D[i].toNat b) pl++As))) s f p v r z q I d m E A pl D[i] nd w H2 V.1 i6 i6 hp a2 ad hw λa b h' O=>⟨a,b,O⟩
  rintro-h3 ⟨a,b,H3⟩;refine⟨s,i5,d,(H3.box 2 i5).cell i5,?_⟩;refine(H3.seq 3 i5 λ_=>rfl).mi D[i].toNat i6 jj ?_;rw[yq];refine H3.set ag 0 i5 (λ_=>rfl) i5 i i5 (by simp[aN];omega) 1 i5 i5 i5 λh4 H4=>?_;have H5:=(H4.freeze 0 i5 λ_=>rfl).pool 5 0 i7 i5 i5;have H6:=(H5.freeze 1 i5 λ_=>rfl).pool 5 1 i7 i5 i5;refine⟨(i+1,E.set D[i].toNat a,A.set D[i].toNat b,_),j0,⟨i9,H6.aI 6 [2,3,4,5],?_⟩,i9⟩
  try dsimp only
  have e1:D.take (i+1)=D.take i++[D[i]]:=aG _ _;have e2:i4 (D.take i)=i:=jj
  rw[e1,Jl,e2];exact T2.step D[i].toNat a b (oL nd i) (aN w)
 have ah:i=i4 D:=i6
 subst ah;rw[qL]at T2 b1 P X;refine⟨s,i5,z,(H2.box 0 i5).cell i5,?_⟩;have ca:=(Y.at [_,_,_,_] H2).steps.len;refine an (λt:Nat×List Sl×List Sl×List (Sl×Row)=>(t.1:Int)) (λt h'=>t.1<=i4 ST/\aa B h0 h' (Told s f p v r z q I d m t.2.1 t.2.2.1 t.2.2.2++As)/\mK pool t.2.2.2 t.2.1 t.2.2.1 ((ST.take t.1).foldl (iz R nd) (gG n nd w D)).1 ((ST.take t.1).foldl (iz R nd) (gG n nd w D)).2) (λt=>i4 ST-t.1)
  (0,E,A,pl) i5 ⟨js,H2,T2⟩ ?_
 clear P X T2 H2 hi e;rintro⟨i,E,A,pl⟩ h3 ⟨hi,H3,T3⟩;dsimp only at*;obtain⟨dk,-⟩:=La (nd:=nd) (w:=w) hD bq D.length (qi _);rw[qL]at dk;have bb:=MV (l1:=ST.take i) (l2:=ST.drop i) (by rw[qy];exact hg);obtain⟨a9,-⟩:=HZ hR bb.1 dk;obtain⟨W,hW⟩:=z6 (((ST.take i).foldl (iz R nd) (gG n nd w D)).1)
 obtain⟨M,hM⟩:=z6 (((ST.take i).foldl (iz R nd) (gG n nd w D)).2)
 have ao:(ST.take i).foldl (iz R nd) (gG n nd w D)=(W,M):=by rw[hW,hM]
 have J:Yv n nd w (λc=>c∈D∨∃j,(j,c)∈ST.take i) W M:=by rw[hW,hM];exact a9
 rw[<-hW,<-hM]at T3;clear a9 hW hM;have cc:=J.wl;have cl:=J.ml;have P:=T3.way.1;have X:=T3.more.1;refine ae (λe=>?_) (λe=>?_)
 .have ab:i<i4 ST:=i6
  have am:=bb.2;rw[qJ ab]at am;obtain⟨row,bg,ap⟩:∃row bg,ST[i]=(row,bg):=⟨_,_,rfl⟩
  rw[ap]at am;obtain⟨g1,g2,g3,g4,-⟩:=am;have o:row.toNat<i4 R:=by have:=g1.2;rw[qp]at this;omega
  obtain⟨k,T⟩:=z6 (R[row.toNat])
  have er:R.getD row.toNat ([],[])=k:=by rw[qg,qc o,T];rfl
  have bk:(R.map qD).getD row.toNat []=k.1:=by rw[qg,qR,qc o,T];rfl
  rw[bk]at g3 g4;have N:=hR k (T▸qe o);have cp:=bl k (T▸qe o);have cn:=N.dh bg g3;have G3:=Y.at [_,_,_,_] H3;have hF:=G3.rest.2.1;refine G3.steps.dO (g:=gK) i i5 ab ST[i] i5 ?_;rw[ap];refine H3.Ep ag i5 λa50 h4 P4 H4=>?_;have H4:=H4.aZ;refine H4.storeAll ag 0 i5 i5 (gK (row,bg)) i5 i5 i5 i5 λh5 H5=>?_;have b3:row.toNat<i4 rr:=by rw[hF];exact o
  obtain⟨y,hy⟩:=z6 (rr[row.toNat])
  have G:∀{h'},oz kP 2 qv h' r rr R->kP.p h' (λb=>b<h'.size) y k:=λhh=>by rw[hy,T];exact Fix.row hh o
  refine bF (λa' h'=>aa B h0 h' (ak a' 279 (qv y)::ak a50 352 (gK (row,bg))::(Told s f p v r z q I d m E A pl++As))) ?_ ?_
  .have a6:=H5.box 1 i5;have G5:=Y.at [_,_,_,_,_] H5;refine⟨s,i5,r,a6.cell i5,row,(H5.box 0 i5).cell0 i5,?_⟩;obtain⟨b5,ha,x,V,rfl⟩:=G5.rest.1.dO (g:=qv) (i:=row) row.toNat i6 b3 y (by rw[hy]) (K:=λx=>x=y) rfl;refine⟨b5,ha,_,V,?_⟩;refine H5.Ep ag i5 λS h6 P6 H6=>⟨⟨mS V.1 P6,mS V.2.1 P6,mS ((H5.box 0 i5).cell0 i5) P6,mS (a6.cell i5) P6,A0⟩,?_⟩
   have H6:=H6.aZ;refine H6.storeAll ag 0 i5 i5 (qv x) i5 i5 i5 i5 λh7 H7=>⟨A0,H7⟩
  intro S h7 H7;refine bF (λt h'=>aa B h0 h' (RA t.1 (aN nd)::RA t.2 k.2::ak S 279 (qv y)::ak a50 352 (gK (row,bg))::(Told s f p v r z q I d m E A pl++As))) ?_ ?_
  .have a3:=H7.box 0 i5;refine⟨y.2,a3.cell i5,?_⟩;exact Qz (L:=[(S.add 1,xV y.2.ptr y.2.len y.2.cap)]) (K:=λa b h'=>bQ.ok [] h'/\aa B h0 h' (RA a (aN nd)::RA b k.2::ak S 279 (qv y)::ak a50 352 (gK (row,bg))::(Told s f p v r z q I d m E A pl++As))) y.2 k.2 nd _ H7 (by rw[a2]) ad (by rw[N.len];exact hw) ⟨a3.cell i5,A0⟩ (L2:=[]) A0 (St.mk' λh' O=>(G (Y.at [_,_,_,_,_,_] O).rest).2) λa b h' _ O=>⟨A0,O⟩
  rintro⟨U,u⟩ h8 H8;dsimp only at H8;refine⟨y.1,(H8.box 2 i5).cell0 i5,?_⟩;have cf:=(G (Y.at [_,_,_,_,_,_,_,_] H8).rest).1.len;let F:Nat->av:=λj=>(k.1.take j).filter λc=>!decide (c=bg);refine an (λj:Nat=>(j:Int)) (λj h'=>j<=i4 k.1/\aa B h0 h' (RA U (dc W (aN nd) (F j))::RA u (dc M k.2 (F j))::ak S 279 (qv y)::ak a50 352 (gK (row,bg))::(Told s f p v r z q I d m E A pl++As))) (λj=>i4 k.1-j) 0 i5 ⟨i6,by simpa[F,dc]using H8⟩ ?_;rintro j h9 ⟨hj,H9⟩;have told:∀c∈F j,i4 (aC W c.toNat)=nd/\(aC M c.toNat).length=w:=λc V=>by
   have ar:=qB.1 V;have hm:=zn ar.1;exact J.rw_ c (g4 c hm (by simpa using ar.2)) (N.dh c hm).1 (N.dh c hm).2
  have ax:i4 (dc W (aN nd) (F j))=nd:=kD lb λc V=>(told c V).1;have a0:i4 (dc M k.2 (F j))=w:=kD N.len λc V=>(told c V).2;refine ae (λe2=>?_) (λe2=>?_)
  .have Q:j<i4 k.1:=i6
   have al:=N.dh _ (qe Q);refine(G (Y.at [_,_,_,_,_,_,_,_] H9).rest).1.bm j i5 Q _ i5 ?_;refine⟨bg,(H9.box 3 i5).cell i5,?_⟩;refine bH (λa1=>?_) (λb0=>?_)
   .have tc:=J.rw_ k.1[j] (g4 _ (qe Q) a1) al.1 al.2;refine(FM s f 1 k.1[j] U u d m _ _ E A W M H9 (St.mk' λh' O=>?_) al.1 i6 i6 (by rw[tc.1,ax]) (by rw[tc.2,a0]) i6 i6).mono ?_
    .exact Cx.of (O.box 2 i5) (Y.at [_,_,_,_,_,_] O).field (O.Du 3 5 i5 i5 T3.way) (O.Du 4 5 i5 i5 T3.more)
    rintro _ b4 ⟨rfl,Z⟩;have e3:F (j+1)=F j++[k.1[j]]:=by simp only[F];rw[ko _ _ Q];simp[a1]
    exact⟨(),i5,j+1,j4,⟨i6,by rw[e3,tw,tw];exact Z⟩,i6⟩
   .have e3:F (j+1)=F j:=by simp only[F];rw[ko _ _ Q];simp[b0]
    exact⟨j+1,j4,⟨i6,by rw[e3];exact H9⟩,i6⟩
  .have b6:j=i4 k.1:=i6
   subst b6;have a8:=H9.box 3 i5;have a5:=H9.box 4 i5;refine⟨s,i5,d,a5.cell i5,bg,a8.cell i5,s,i5,m,a5.cell i5,bg,a8.cell i5,?_⟩;refine H9.set ag 5 i5 (λ_=>rfl) i5 bg.toNat i6 i6 U i5 i5 i5 λb4 Z=>⟨⟨(Z.box 3 i5).cell i5,A0⟩,?_⟩
   refine Z.set ag 6 i5 (λ_=>rfl) i5 bg.toNat i6 i6 u i5 i5 i5 λce b2=>⟨A0,?_⟩
   have bd:=(b2.freeze 0 i5 λ_=>rfl).pool 7 0 i7 i5 i5;have bs:=(bd.freeze 1 i5 λ_=>rfl).pool 7 1 i7 i5 i5;refine⟨(i+1,E.set bg.toNat U,A.set bg.toNat u,_),j0,⟨i9,bs.aI 8 [4,5,6,7],?_⟩,i9⟩
   try dsimp only
   rw[aG _ _ ab,zH,ao,ap];have e3:[(row,bg)].foldl (iz R nd) (W,M)=(W.set bg.toNat (dc W (aN nd) (F k.1.length)),M.set bg.toNat (dc M k.2 (F k.1.length))):=by simp only[zA,List.foldl_nil,iz,er,F,qL]
   rw[e3];exact T3.step bg.toNat U u _ _
 .have ah:i=i4 ST:=i6
  subst ah;rw[qL]at ao;exact⟨i5,d,m,E,A,pl,H3,by rw[ao];exact T3⟩
def lq(nd:Nat)(known:List Bool)(vals:aO)(s:aO×aO)(i:Nat):aO×aO:=
 (s.1.mapIdx λc r=>if c<i/\known.getD c eX=eS then aN nd else r,s.2.mapIdx λc r=>if c<i/\known.getD c eX=eS then aC vals c else r)
theorem WH(nd:Nat)(known:List Bool)(vals:aO)(s:aO×aO):lq nd known vals s 0=s:=by unfold lq;refine y9 ?_ ?_<;>refine wh js λi a b=>?_<;>simp
theorem ZW(nd:Nat)(known:List Bool)(vals:aO)(s:aO×aO){n:Nat}(a:i4 s.1=n)(b:i4 s.2=n):lq nd known vals s n=iV nd known vals s:=by unfold lq iV;refine y9 ?_ ?_<;>refine wh js λi a b=>?_<;>simp at a<;>simp[show i<n by omega]
theorem ZX(nd:Nat)(known:List Bool)(vals:aO)(s:aO×aO){i:Nat}(d:known.getD i eX=eS):lq nd known vals s (i+1)=((lq nd known vals s i).1.set i (aN nd),(lq nd known vals s i).2.set i (aC vals i)):=by
 unfold lq;refine y9 ?_ ?_<;>refine wh js λj e f=>?_<;>simp only[List.getElem_mapIdx,List.getElem_set]<;>by_cases c:i=j
 .subst c;rw[g0 ⟨i6,d⟩,g0 rfl]
 .rw[g9 c];congr 1;simp only[eq_iff_iff];constructor<;>rintro⟨a,b⟩<;>exact⟨i6,b⟩
 .subst c;rw[g0 ⟨i6,d⟩,g0 rfl]
 .rw[g9 c];congr 1;simp only[eq_iff_iff];constructor<;>rintro⟨a,b⟩<;>exact⟨i6,b⟩
theorem acS(nd:Nat)(known:List Bool)(vals:aO)(s:aO×aO){i:Nat}(e:known.getD i eX=eX):lq nd known vals s (i+1)=lq nd known vals s i:=by
 have c:∀j,(j<i+1/\known.getD j eX=eS)↔(j<i/\known.getD j eX=eS):=λj=>by
  constructor
  .rintro⟨a,b⟩;by_cases d:j=i
   .subst d;rw[e]at b;cases b
   .exact⟨i6,b⟩
  .rintro⟨a,b⟩;exact⟨i6,b⟩
 unfold lq;simp only[c]
theorem ZY(s f:f7)(p:Int×Int×Int)(v r L w N J G:Sl)(j d g:List Sl)(pl:List (Sl×Row))(known:List Bool)(V W M:aO)(n nd:Nat)(H:aa B h0 h (Told s f p v r L w N J G d g pl++HA v j::As))(hn:n<=64)(A:w.len=nd)(ab:nd<=64)(T:mK pl pl d g W M)(R:iG pl id j V)(X:i4 V=n)(z:i4 W=n)(u:i4 M=n)
  (hk:∀(c:Nat) (hc:c<i4 j),j[c].ptr.isNone=!(known.getD c eX)):
  ai kg 228 #[xW (dB s)] h λv' h'=>v'=.tuple #[]/\∃d g b,aa B h0 h' (Told s f p v r L w N J G d g b++HA v j::As)/\mK pl b d g (iV nd known V (W,M)).1 (iV nd known V (W,M)).2:=by
 refine ts Tryz.func228 ?_ (xc (v7 (ws [(9,aR)] [(2,4),(9,37)] v6))) [(4,(.l [0,1,2,3,4,5,6,7,8,9,10,11,12,13,14,15,17,16,18,19,20,21]))];have Q:=R.1;have O:v.len=n:=by rw[(H.own 4 i5).len];omega
 refine⟨s,i5,v,(H.box 0 i5).cell i5,?_⟩;refine an (λt:Nat×List Sl×List Sl×List (Sl×Row)=>(t.1:Int)) (λt h'=>t.1<=n/\aa B h0 h' (Told s f p v r L w N J G t.2.1 t.2.2.1 t.2.2.2++HA v j::As)/\mK pl t.2.2.2 t.2.1 t.2.2.1 (lq nd known V (W,M) t.1).1 (lq nd known V (W,M) t.1).2) (λt=>n-t.1) (0,d,g,pl) i5 ⟨i6,H,by rw[WH];exact T⟩ ?_;rintro⟨i,d,g,b⟩ h1 ⟨hi,y,k⟩;dsimp only at*;have ah:(lq nd known V (W,M) i).1.length=n:=by simp[lq,z]
 have U:(lq nd known V (W,M) i).2.length=n:=by simp[lq,u]
 have P:=k.way.1;have S:=k.more.1;refine ae (λe=>?_) (λe=>?_)
 .have ad:i<n:=i6
  refine(y.seq 4 i5 λ_=>rfl).mi i i5 i6 ?_;have D:=hk i i6;refine aX (λF=>?_) (λF=>?_)
  .have q:known.getD i eX=eS:=by rw[D]at F;simpa using F
   have o:=y.box 0 i5;refine⟨s,i5,J,o.cell i5,s,i5,G,o.cell i5,s,i5,w,show f8 h1 (s.add 7)=_ from o.cell i5,?_⟩;refine y.Jb ag aB gm i7 0 i5 i5 nd nd (by rw[A]) (by rw[A]) (qi _) i6 λa Y _ P2 I=>?_;have I:=I.aZ;have m:=I.box 1 i5;refine⟨⟨show f8 Y (s.add 7)=_ from m.cell i5,m.cell i5,m.cell i5,A0⟩,?_⟩;refine I.set ag 2 i5 (λ_=>rfl) i5 i i5 i6 a i5 i5 i5 λh3 H3=>⟨A0,?_⟩
   refine H3.set ag 3 i5 (λ_=>rfl) i5 i i5 i6 (j[i]'i6) i5 i5 i5 λh4 H4=>⟨A0,?_⟩
   have H5:=(H4.freeze 0 i5 λ_=>rfl).pool 4 0 i7 i5 i5;refine⟨(i+1,d.set i a,g.set i (j[i]'i6),_),j0,⟨i9,H5.aI 5 [1,2,3,4],?_⟩,i9⟩
   try dsimp only
   rw[ZX nd known V (W,M) q];have Z:((j[i]'i6),aC V i)∈pl:=by have:=R.get (i:=i) i6;rw[mU i6];exact this
   exact⟨λx E=>qC _ (k.sub x E),(k.way.mono λx E=>qC _ E).set i lb,(k.more.mono λx E=>qC _ E).set i (qC _ (k.sub _ Z))⟩
  .have q:known.getD i eX=eX:=by rw[D]at F;simpa using F
   exact⟨(i+1,d,g,b),j0,⟨i9,y,by dsimp only;rw[acS nd known V (W,M) q];exact k⟩,i9⟩
 .have K:i=n:=i6
  subst K;exact⟨i5,d,g,b,y,by rw[<-ZW nd known V (W,M) z u];exact k⟩
def ol(nd:Nat)(known:List Bool)(vals W M D:aO)(i:Nat):aO:=vals.mapIdx λc r=>if c<i/\known.getD c eX=eX then iq D (aC W c) (aC M c) nd else r
theorem ZZ(nd:Nat)(known:List Bool)(vals W M D:aO):ol nd known vals W M D 0=vals:=by unfold ol;refine wh js λi a b=>?_;simp
theorem acT(nd:Nat)(known:List Bool)(vals W M D:aO){n:Nat}(a:i4 vals=n):ol nd known vals W M D n=Ac nd known vals W M D:=by
 unfold ol Ac;refine wh js λi a b=>?_;simp at a;simp only[List.getElem_mapIdx];cases hk:known.getD i eX
 .rw[g0 ⟨i6,i5⟩,g9 js]
 .rw[g9 js,g0 rfl]
theorem acU(nd:Nat)(known:List Bool)(vals W M D:aO){i:Nat}(e:known.getD i eX=eS):ol nd known vals W M D (i+1)=ol nd known vals W M D i:=by
 have c:∀j,(j<i+1/\known.getD j eX=eX)↔(j<i/\known.getD j eX=eX):=λj=>by
  constructor
  .rintro⟨a,b⟩;by_cases d:j=i
   .subst d;rw[e]at b;cases b
   .exact⟨i6,b⟩
  .rintro⟨a,b⟩;exact⟨i6,b⟩
 unfold ol;simp only[c]
theorem afT(nd:Nat)(known:List Bool)(vals W M D:aO){i:Nat}(d:known.getD i eX=eX):ol nd known vals W M D (i+1)=(ol nd known vals W M D i).set i (iq D (aC W i) (aC M i) nd):=by
 unfold ol;refine wh js λj e f=>?_;simp only[List.getElem_mapIdx,List.getElem_set];by_cases c:i=j
 .subst c;rw[g0 ⟨i6,d⟩,g0 rfl]
 .rw[g9 c];congr 1;simp only[eq_iff_iff];constructor<;>rintro⟨a,b⟩<;>exact⟨i6,b⟩
theorem aaa(s f:f7)(p:Int×Int×Int)(v r S Y X G E dead:Sl)(g A z dr:List Sl)(pl:List (Sl×Row))(known:List Bool)(V W M D:aO)(n nd w:Nat)(H:aa B h0 h (Told s f p v r S Y X G E A z pl++HA v g::As))(hS:St B h0 As λh=>gn h f/\iP h (λb=>b<h.size) dead 1 aB D dr)(hn:n<=64)(hw:w<=2^20)(a6:nd<=64)(T:mK pl pl A z W M)(hV:iG pl id g V)(O:i4 V=n)(a5:i4 W=n)(bb:i4 M=n)
  (N:∀c,c<n->i4 (aC W c)=nd/\(aC M c).length=w) (a9:i4 D=nd) (P:aU w D) (hk:∀(c:Nat) (l:c<i4 g),g[c].ptr.isNone=!(known.getD c eX)):
  ai kg 231 #[xW (dB s),dead] h λv' h'=>v'=.tuple #[]/\∃F a,aa B h0 h' (Told s f p v r S Y X G E A z a++HA v F::As)/\iG a id F (Ac nd known V W M D):=by
 refine ts Tryz.func231 ?_ (xc (v7 (ws [(15,aR)] [(4,10),(15,80)] (xc (xc (u9 (v7 (xc (xc (xc (u9 (xc (v7 (ws [(42,aR)] [(6,10),(42,72)] (xc (xc (u9 (v7 (xc (xc (v7 (ws [(52,aR)] [(8,10),(52,71)] v6))))) v6)))))) v6))))) v6))))));have a2:=hV.1;have al:v.len=n:=by rw[(H.own 4 i5).len];omega
 have a0:=T.way.1;have a3:=T.more.1;refine⟨s,i5,v,(H.box 0 i5).cell i5,?_⟩;refine an (λt:Nat×List Sl×List (Sl×Row)=>(t.1:Int)) (λt h'=>t.1<=n/\aa B h0 h' (Told s f p v r S Y X G E A z t.2.2++HA v t.2.1::As)/\iG t.2.2 id t.2.1 (ol nd known V W M D t.1)/\(∀x∈pl,x∈t.2.2)/\∀(c:Nat) (l:c<i4 t.2.1),t.1<=c->t.2.1[c].ptr.isNone=!(known.getD c eX)) (λt=>n-t.1) (0,g,pl) i5 ⟨i6,H,by rw[ZZ];exact hV,λ_ h=>h,λc l _=>hk c l⟩ ?_;rintro⟨i,g,a⟩ h1 ⟨hi,u,Z,d,y⟩;dsimp only at*;have a8:i4 (ol nd known V W M D i)=n:=by simp[ol,O]
 have a1:=Z.1;refine ae (λe=>?_) (λe=>?_)
 .have ao:i<n:=i6
  have R:=u.box 0 i5;refine⟨s,i5,v,R.cell i5,?_⟩;refine(u.seq 4 i5 λ_=>rfl).mi i i5 i6 ?_;have L:=y i i6 (qi _);refine aX (λJ=>?_) (λJ=>?_)
  .have o:known.getD i eX=eS:=by rw[L]at J;simpa using J
   exact⟨(i+1,g,a),j0,⟨i9,u,by dsimp only;rw[acU nd known V W M D o];exact Z,d,λc l h=>y c l (by dsimp only at h;omega)⟩,i9⟩
  have o:known.getD i eX=eX:=by rw[L]at J;simpa using J
  have ay:=N i ao;have ah:((z[i]'i6),aC M i)∈a:=by have:=(T.more.mono d).get (i:=i) i6;rw[mU i6];exact this
  have I:((A[i]'i6),aC W i)∈a:=by have:=(T.way.mono d).get (i:=i) i6;rw[mU i6];exact this
  refine⟨s,i5,E,R.cell i5,?_⟩;refine(u.seq 2 i5 λ_=>rfl).mi i i5 i6 ?_;refine(fq _ (aC M i) h1 (u.JX 3 i5 ah) i6).y0 λb h2 R2=>?_;have U:=u.bS R2;have ap:=U.box 1 i5;refine⟨b,i5,s,i5,G,ap.cell i5,?_⟩;refine(U.seq 2 i5 λ_=>rfl).mi i i5 i6 ?_;have ar:=(U.JX 4 i5 I).len;refine an (λj:Nat=>(j:Int)) (λj h'=>j<=nd/\aa B h0 h' (RA b (iq D (aC W i) (aC M i) j)::(Told s f p v r S Y X G E A z a++HA v g::As))) (λj=>nd-j) 0 i5 ⟨i6,U⟩ ?_;rintro j h3 ⟨hj,K⟩;refine ae (λe3=>?_) (λe3=>?_)
  .have a4:j<nd:=i6
   have q:j<i4 (aC W i):=i6
   refine(K.JX 4 i5 I).bm j i5 q _ i5 ?_;obtain⟨S1,S2⟩:=hS.at [_,_,_,_,_,_] K;have a7:=S2.len;refine S2.top.mi j i5 i6 ?_;have am:i4 (D[j]'i6)=w:=P _ (qe _);have Q:(aC W i)[j]'q=aM (aC W i) j:=by rw[aM,qg,qc q];rfl
   have ax:i4 (iq D (aC W i) (aC M i) j)=w:=mw _ ay.2 λk hk=>ci P;rw[Q];refine FL s f (aM (aC W i) j) (dr[j]'i6) b (D[j]'i6) _ K (St.mk' λh' H'=>?_) (by rw[am,ax]) i6 λh4 H4=>?_
   .obtain⟨q1,q2⟩:=hS.at [_,_,_,_,_] H';exact⟨(H'.box 0 i5).cell0 i5,q1,q2.row _ _ _ (qc _) (qc _)⟩
   .refine⟨j+1,j4,⟨i6,?_⟩,i6⟩;rw[iq,mU (m:=D) (i:=j) i6];exact H4
  .have ab:j=nd:=i6
   subst ab;refine⟨s,i5,v,(K.box 1 i5).cell i5,?_⟩;refine K.set ag 5 i5 (λ_=>rfl) i5 i i5 i6 b i5 i5 i5 λh4 H4=>?_;have H5:=(H4.freeze 0 i5 λ_=>rfl).pool 4 0 i7 i5 i5;refine⟨(i+1,g.set i b,_),j0,⟨i9,H5.aI 6 [1,2,3,4,5],?_,λx hx=>qC _ (d x hx),λc l h=>?_⟩,i9⟩
   .try dsimp only
    rw[afT j known V W M D o];exact(Z.mono λx hx=>qC _ hx).set i js
   .dsimp only at l h⊢;rw[List.getElem_set_ne i6];exact y c qs i6
 .have ad:i=n:=i6
  subst ad;exact⟨i5,g,a,u,by rw[<-acT nd known V W M D O];exact Z⟩
abbrev MA(s:Sl)(m:aO):HP:=fB 34 s 1 aB m
abbrev QA:jm Sl Row:=agS (cG 1 aB) λr _=>r.len<=r.cap
abbrev CA(s:Sl)(m:aO):HP:=bY 34 s 1 bx QA m
theorem aa.aab{e:Nat}{s:Sl}{l:Row}(H:aa B h0 h As)(i:Nat)(c:As[i]?=dB (aq e s 1 aB l)):aa B h0 h (As.set i (EA QA s l)):=
 H.fN i c λ_ ⟨a,b⟩=>⟨a.seq (λ_=>rfl) b,a.cap⟩
theorem WI(s f:f7)(p:Int×Int×Int)(v r U Q S O J:Sl)(I G:List Sl)(pl:List (Sl×Row))(rr:List (Sl×Sl))(R:List fP)(ST:List (Int×Int))(D L:av)(W M:aO)(n nd w:Nat)(H:aa B h0 h (Told s f p v r U Q S O J I G pl++As))(hS:St B h0 As λh=>WE h f r U Q S rr R ST D L)
  (hn:n=p.1.toNat+p.2.1.toNat) (hp:p.2.2=w) (hw:w<=2^20) (ar:bB p=eS) (bl:i4 D=nd) (a5:nd<=64) (hR:∀e∈R,jt n w e) (bk:∀e∈R,i4 e.1<=2^20) (hL:∀i∈L,0<=i/\i<(i4 R:Int)) (b7:i4 L<=2^20) (hT:mK pl pl I G W M) (b5:i4 W=n) (ca:i4 M=n)
  (u:∀c,c<n->i4 (aC W c)=nd/\(aC M c).length=w):
  ai kg 229 #[xW (dB s)] h λv' h'=>∃a b:Sl,v'=.tuple #[a,b]/\aa B h0 h' (MA a (dT n nd R W L (bj p.1.toNat p.2.1.toNat))::CA b (gj n w R M L (bj p.1.toNat p.2.1.toNat))::(Told s f p v r U Q S O J I G pl++As)):=by
 refine ts Tryz.func229 ?_ (xc (xc (u9 (xc (v7 (ws [(2,cE),(3,cE),(29,aR)] [(2,4),(6,9),(10,11),(29,72)] (xc (xc (u9 (v7 (xc (x6 [(7,cE),(8,cE)] [(7,9),(33,44)] (x0 [(53,aR)] [(10,11),(53,63)])))) v6)))))) (u9 (xc (v7 (ws [(2,cE),(3,cE),(78,aR)] [(2,4),(12,17),(78,113)] (xc (xc (u9 (v7 (xc (x6 [(13,cE),(14,cE)] [(13,15),(82,90)] (x0 [(92,aR)] [(15,17),(92,104)])))) v6)))))) v6)))) [(5,(.y [0,2,3,4,5,6,7,8,9] (.l [1,10,11,12]) (.l [10,1,11,12]))),(16,(.y [0,2,3,4,5,6] (.l [1,8,7,9]) (.l [7,1,8,9])))];have hb:=H.box 0 i5;have ab:Q.len=nd:=by rw[(hS.at [_,_,_,_] H).dead.len,bl]
 have b4:=(bK p).1 ar;have b1:=hT.way.1;have b3:=hT.more.1;refine⟨s,i5,Q,show f8 h (s.add 7)=_ from hb.cell i5,s,i5,S,show f8 h (s.add 8)=_ from hb.cell i5,?_⟩;have b9:=(hS.at [_,_,_,_] H).left.len;have ap:∀{h':f9} {Cs:List HP},aa B h0 h' (Cs++(Told s f p v r U Q S O J I G pl++As))->aa B h0 h' (Told s f p v r U Q S O J I G pl++As):=λ{h' Cs} T=>T.take Cs.length λi A hi=>by
  rw[qk i6,Nat.add_sub_cancel_left];exact hi
 have SR:∀{h':f9},aa B h0 h' (Told s f p v r U Q S O J I G pl++As)->Cx h' s f O J I G W M:=λT=>Cx.of (T.box 0 i5) (hS.at [_,_,_,_] T).field (T.Du 1 3 i5 i5 hT.way) (T.Du 2 3 i5 i5 hT.more);let rA:Int->Row:=λi=>dc W (aN nd) (R.getD i.toNat ([],[])).1;let rB:Int->Row:=λi=>dc M (R.getD i.toNat ([],[])).2 (R.getD i.toNat ([],[])).1;have H0:=((H.CK 34 1 bx QA).aZ.CJ 34 1 aB).aZ;refine an (λt:Nat×Sl×Sl=>(t.2.1,t.2.2,(t.1:Int))) (λt h'=>t.1<=i4 L/\aa B h0 h' (MA t.2.1 ((L.take t.1).map rA)::CA t.2.2 ((L.take t.1).map rB)::(Told s f p v r U Q S O J I G pl++As))) (λt=>i4 L-t.1) (0,⟨eH,0,0⟩,⟨eH,0,0⟩) i5 ⟨js,H0⟩ ?_;rintro⟨i,a,b⟩ h1 ⟨hi,H1⟩;dsimp only at*;refine ae (λe=>?_) (λe=>?_)
 .have E:i<i4 L:=i6
  have G1:=hS.at [_,_,_,_,_,_] H1;refine G1.left.bm i i5 E _ i5 ?_;have hx:=hL _ (qe E);generalize bq:L[i]=x at hx⊢;have F:x.toNat<i4 R:=i6
  obtain⟨m,al⟩:=z6 (R[x.toNat])
  have er:R.getD x.toNat ([],[])=m:=by rw[qg,qc F,al];rfl
  have am:=hR m (al▸qe F);have ce:=bk m (al▸qe F);have hF:=G1.rest.2.1;have a6:x.toNat<i4 rr:=by rw[hF];exact F
  obtain⟨y,hy⟩:=z6 (rr[x.toNat])
  have N:∀{h'},oz kP 2 qv h' r rr R->kP.p h' (λb=>b<h'.size) y m:=λhh=>by rw[hy,al];exact Fix.row hh F
  refine bF (λt h'=>aa B h0 h' (RA t.1 (aN nd)::RA t.2 m.2::MA a ((L.take i).map rA)::CA b ((L.take i).map rB)::(Told s f p v r U Q S O J I G pl++As))) ?_ ?_
  .have ao:=H1.box 2 i5;refine⟨s,i5,r,ao.cell i5,?_⟩;obtain⟨a7,ha,z,hc,rfl⟩:=G1.rest.1.dO (g:=qv) (i:=x) x.toNat i6 a6 y (by rw[hy]) (K:=λz=>z=y) rfl;refine⟨a7,ha,z.2,hc.2.1,?_⟩;have a0:bQ.ok [(s.add 5,xV r.ptr r.len r.cap)] h1:=⟨ao.cell i5,A0⟩
   exact Qz (L:=[((a7.add (x.toNat*2)).add 1,xV z.2.ptr z.2.len z.2.cap),(s.add 5,xV r.ptr r.len r.cap)]) (L2:=[(s.add 5,xV r.ptr r.len r.cap)]) (K:=λa' b' h'=>bQ.ok [(s.add 5,xV r.ptr r.len r.cap)] h'/\aa B h0 h' (RA a' (aN nd)::RA b' m.2::MA a ((L.take i).map rA)::CA b ((L.take i).map rB)::(Told s f p v r U Q S O J I G pl++As)))
    z.2 m.2 nd _ H1 (by rw[ab]) a5 (by rw[am.len];exact hw) ⟨hc.2.1,a0⟩ a0 (St.mk' λh' T=>(N (hS.at [_,_,_,_,_,_] T).rest).2) λa b h' P T=>⟨jo P a0,T⟩
  rintro⟨ad,o⟩ h2 H2;dsimp only at H2;have G2:=hS.at [_,_,_,_,_,_,_,_] H2;refine⟨s,i5,r,(H2.box 4 i5).cell i5,?_⟩;obtain⟨bb,ha,z,hc,rfl⟩:=G2.rest.1.dO (g:=qv) (i:=x) x.toNat i6 a6 y (by rw[hy]) (K:=λz=>z=y) rfl;refine⟨bb,ha,z.1,hc.1,?_⟩;have bs:=(N G2.rest).1.len;refine an (λj:Nat=>(j:Int)) (λj h'=>j<=i4 m.1/\aa B h0 h' (RA ad (dc W (aN nd) (m.1.take j))::RA o (dc M m.2 (m.1.take j))::MA a ((L.take i).map rA)::CA b ((L.take i).map rB)::(Told s f p v r U Q S O J I G pl++As))) (λj=>i4 m.1-j) 0 i5 ⟨i6,by simpa[dc]using H2⟩ ?_;rintro j h3 ⟨hj,H3⟩;have told:∀c∈m.1.take j,i4 (aC W c.toNat)=nd/\(aC M c.toNat).length=w:=λc hc=>by
   have b6:=am.dh c (zn hc);exact u c.toNat i6
  have Y:i4 (dc W (aN nd) (m.1.take j))=nd:=kD lb λc hc=>(told c hc).1;have Z:i4 (dc M m.2 (m.1.take j))=w:=kD am.len λc hc=>(told c hc).2;refine ae (λe2=>?_) (λe2=>?_)
  .have X:j<i4 m.1:=i6
   have bd:=am.dh _ (qe X);refine(N (hS.at [_,_,_,_,_,_,_,_] H3).rest).1.bm j i5 X _ i5 ?_;have tc:=u m.1[j].toNat i6;refine(FM s f 1 m.1[j] ad o O J _ _ I G W M H3 (St.mk' λh' T=>SR (ap (Cs:=[_,_]) T)) bd.1 i6 i6 (by rw[tc.1,Y]) (by rw[tc.2,Z]) i6 i6).x8 λh4 V=>⟨(),i5,j+1,j4,⟨i6,by rw[aG _ _ X,tw,tw];exact V⟩,i6⟩
  .have a4:j=i4 m.1:=i6
   subst a4;rw[qL]at H3;have V:=aa.aab (H3.freeze 0 i5 λ_=>rfl) 1 i5;refine V.pj ag 2 0 i7 i5 i5 fh jj λa' h5 H5=>?_;refine H5.pK ag 3 1 i7 i5 i5 fh i5 i7 (λ_=>rfl) jN i5 i7 jj λb' h6 H6=>?_;refine⟨(i+1,a',b'),j0,⟨i9,?_⟩,i9⟩
   try dsimp only
   rw[aG _ _ E,qP,qP,bq];have e3:[x].map rA=[dc W (aN nd) m.1]:=by simp only[zS,vA,rA,er]
   have e4:[x].map rB=[dc M m.2 m.1]:=by simp only[zS,vA,rB,er]
   rw[e3,e4];exact H6.aI 8 [2,3,4,5,6,7]
 have ax:i=i4 L:=i6
 subst ax;rw[qL]at H1;have ao:=H1.box 2 i5;refine⟨s,i5,p,ao.cells 1 _ i5,(ud p h1).y0 λq h2 R2=>?_⟩;rw[ar,g0 rfl]at R2;obtain⟨d,a1⟩:=z6 (bj p.1.toNat p.2.1.toNat)
 have b2:i4 d=p.2.1.toNat:=by rw[a1];simp[bj]
 have a9:∀x∈d,i4 x=n:=λx hx=>by rw[hn];exact Ji _ _ x (a1▸hx)
 rw[<-a1]at R2⊢;have H2:=(H1.bS R2).NV 0 i5;obtain⟨qr,H2⟩:=H2.HD 0 rfl λ_=>rfl;have cc:=(H2.dZ 0 i5).1.len;have cd:=(H2.dZ 0 i5).2.1;refine⟨q,i5,?_⟩;let a2:Row->Row:=λx=>iq W x (aN nd) n;let ay:Row->Row:=λx=>iq M x (aN w) n;refine an (λt:Nat×Sl×Sl=>(t.2.1,t.2.2,(t.1:Int))) (λt h'=>t.1<=i4 d/\aa B h0 h' (dn (cG 1 aB) 1 bx q qr d::MA t.2.1 (L.map rA++(d.take t.1).map a2)::CA t.2.2 (L.map rB++(d.take t.1).map ay)::(Told s f p v r U Q S O J I G pl++As))) (λt=>i4 d-t.1) (0,a,b) i5 ⟨js,by simpa using H2⟩ ?_;rintro⟨i,a,b⟩ h3 ⟨hi,H3⟩;dsimp only at*;refine ae (λe=>?_) (λe=>?_)
 .have E:i<i4 d:=i6
  have b0:=a9 _ (qe E);have F3:=H3.dZ 0 i5;refine F3.1.mi i i5 i6 ?_;have bs:(qr[i]'i6).len=n:=by rw[(Fix.row F3 E).len,b0]
  refine bF (λt h'=>aa B h0 h' (RA t.1 (aN nd)::RA t.2 (aN w)::dn (cG 1 aB) 1 bx q qr d::MA a (L.map rA++(d.take i).map a2)::CA b (L.map rB++(d.take i).map ay)::(Told s f p v r U Q S O J I G pl++As))) ?_ ?_
  .have br:=H3.box 3 i5;refine⟨s,i5,p.2.2,show f8 h3 (s.add 3)=_ from br.cell i5,?_,?_⟩
   .refine H3.make ag aB gm i7 0 i5 i5 nd nd (by rw[ab]) (by rw[ab]) (qi _) i6 λx h4 _ _ V=>?_;have V:=V.aZ;refine⟨⟨show f8 h4 (s.add 3)=_ from(V.box 4 i5).cell i5,A0⟩,?_⟩;refine V.make ag aB gm i7 0 i5 i5 w w hp hp (qi _) i6 λy h5 _ _ H5=>⟨A0,H5.aZ.oy⟩
   .refine H3.make ag aB gm i7 0 i5 i5 w w hp hp (qi _) i6 λy h4 _ _ V=>⟨A0,?_⟩
    refine V.aZ.make ag aB gm i7 0 i5 i5 nd nd (by rw[ab]) (by rw[ab]) (qi _) i6 λx h5 _ _ H5=>⟨A0,H5.aZ⟩
  rintro⟨ad,o⟩ h4 V;dsimp only at V⊢;refine an (λj:Nat=>(j:Int)) (λj h'=>j<=n/\aa B h0 h' (RA ad (iq W d[i] (aN nd) j)::RA o (iq M d[i] (aN w) j)::dn (cG 1 aB) 1 bx q qr d::MA a (L.map rA++(d.take i).map a2)::CA b (L.map rB++(d.take i).map ay)::(Told s f p v r U Q S O J I G pl++As))) (λj=>n-j) 0 i5 ⟨i6,V⟩ ?_;rintro j h5 ⟨hj,H5⟩;have Y:i4 (iq W d[i] (aN nd) j)=nd:=mw _ lb λk hk=>(u k i6).1;have Z:i4 (iq M d[i] (aN w) j)=w:=mw _ lb λk hk=>(u k i6).2;refine ae (λe2=>?_) (λe2=>?_)
  .have X:j<n:=i6
   have a3:j<d[i].length:=i6
   refine(Fix.row (H5.dZ 2 i5) E).bm j i5 a3 _ i5 ?_;have a8:d[i][j]'a3=aM d[i] j:=by rw[aM,qg,qc a3];rfl
   rw[a8];have tc:=u j X;refine(FM s f (aM d[i] j) (j:Int) ad o O J _ _ I G W M H5 (St.mk' λh' T=>SR (ap (Cs:=[_,_,_]) T)) i6 i6 i6 (by rw[qj,tc.1,Y]) (by rw[qj,tc.2,Z]) i6 i6).x8 λh6 H6=>?_;rw[qj]at H6;exact⟨(),i5,j+1,j4,⟨i6,H6⟩,i6⟩
  .have a4:j=n:=i6
   subst a4;have H6:=aa.aab (H5.freeze 0 i5 λ_=>rfl) 1 i5;refine H6.pj ag 3 0 i7 i5 i5 fh jj λa' h7 H7=>?_;refine H7.pK ag 4 1 i7 i5 i5 fh i5 i7 (λ_=>rfl) jN i5 i7 jj λb' h8 H8=>?_;refine⟨(i+1,a',b'),j0,⟨i9,?_⟩,i9⟩
   try dsimp only
   rw[aG _ _ E,qP,qP,<-qm,<-qm];exact H8.aI 9 [2,3,4,5,6,7,8]
 .have ax:i=i4 d:=i6
  subst ax;rw[qL]at H3;exact⟨a,b,i5,H3.rest⟩
theorem AC{α:Type}{g:α->Bool}{l:List α}{i:Nat}(h:i<i4 l)(a:∀j (b:j<i4 l),j<i->g l[j]=eX)(c:g l[i]=eS):l.findIdx g=i:=by rw[List.findIdx_eq h];exact⟨c,λj b=>a j i6 b⟩
theorem SK(s:Sl)(l:av)(b:FuncId)(a:Array Value)(g:Int->Bool)(Q:f9->Prop)(u:C.fns[b]?=dB eS)(y:St B h0 As Q)(q:∀x h',Q h'->ai kg b ([Value.int .i64 x]++a.toList).toArray h' λv o=>v=xY (g x)/\Sp h' o [])(H:aa B h0 h (aq 3 s 1 az l::As))(E:i4 l<=2^20):
  ai kg 112 #[s,.func (.func b) #[] a] h λv h'=>v=xU ka (if l.findIdx g<i4 l then(l.findIdx g:Int)else-1)/\aa B h0 h' (aq 3 s 1 az l::As):=by
 refine iZ s (b,#[],a) ?_;have z:=(H.own 0 i5).len;refine an (λi:Nat=>(i:Int)) (λi h'=>aa B h0 h' (aq 3 s 1 az l::As)/\i<=i4 l/\∀j (m:j<i4 l),j<i->g l[j]=eX) (λi=>i4 l-i) 0 i5 ⟨H,i6,λj _ m=>i6⟩ ?_;rintro i w ⟨k,F,c⟩;refine ae (λe=>?_) (λe=>?_)
 .have d:i<i4 l:=i6
  refine(k.seq 0 i5 λ_=>rfl).bm i i5 d _ i5 ?_;refine eJ u ?_;refine(q l[i] w (y.at [_] k)).x8 λD t=>⟨_,i5,aP (λr=>?_) λr=>?_⟩
  .rw[AC d c r,g0 d];exact⟨i5,k.up t.ac⟩
  .refine⟨i+1,j4,⟨k.up t.ac,i6,λj m p=>?_⟩,i6⟩;rcases qZ.1 p with h3|rfl
   .exact c j m h3
   .exact r
 .have f:¬l.findIdx g<i4 l:=by rw[wq];rintro⟨x,A,n⟩;obtain⟨j,m,rfl⟩:=qA A;rw[c j m i6]at n;cases n
  rw[g9 f];exact⟨i5,k⟩
theorem WJ{α:Type}{g:α->Bool}{l:List α}{j:Nat}(h:j<l.findIdx g)(a:j<i4 l):g l[j]=eX:=by simpa using List.not_of_lt_findIdx h
structure lJ {α:Type} (g:α->Bool) (l l':List α) (i j:Nat):Prop where
 len:i4 l'=i4 l
 le:i<=j
 pre:l'.take i=(l.take j).filter λx=>!g x
 post:l'.drop j=l.drop j
theorem lJ.start{α:Type}{g:α->Bool}{l:List α}{i:Nat}(h:i<i4 l)(b:l.findIdx g=i):lJ g l l i (i+1):=by
 refine⟨i5,i6,?_,i5⟩;have a:g l[i]=eS:=by have:=List.findIdx_getElem (xs:=l) (p:=g) (w:=by rw[b];exact h);simpa[b]using this
 rw[aG _ _ h,zk,zN,a];have:(l.take i).filter (λx=>!g x)=l.take i:=wA.2 λx c=>by
  obtain⟨j,d,rfl⟩:=qA c;simp only[qH]at d;rw[yi,WJ (g:=g) (l:=l) (j:=j) i6 i6];rfl
 rw[this];simp
theorem lJ.at_{α:Type}{g:α->Bool}{l l':List α}{i j:Nat}(x:lJ g l l' i j)(a:j<i4 l):l'[j]'(by rw[x.len];exact a)=l[j]:=by have h:=congrArg (λm=>m[0]?) x.post;simp only[wZ,Nat.add_zero]at h;rw[qc a,qc (by rw[x.len];exact a)]at h;exact wj.inj h
theorem lJ.keep{α:Type}{g:α->Bool}{l l':List α}{i j:Nat}(x:lJ g l l' i j)(b:j<i4 l)(c:g l[j]=eX):lJ g l (l'.set i l[j]) (i+1) (j+1):=by
 have e:=x.len;have d:=x.le;refine⟨t6,i6,?_,?_⟩
 .rw[aG _ _ jj,yq,List.take_set_of_le (qi _),x.pre,aG _ _ b,zk,zN,c];rfl
 .rw[List.drop_set_of_lt i6];have a:=congrArg (xS 1) x.post;simpa[zD]using a
theorem lJ.skip{α:Type}{g:α->Bool}{l l':List α}{i j:Nat}(x:lJ g l l' i j)(b:j<i4 l)(c:g l[j]=eS):lJ g l l' i (j+1):=by
 have e:=x.len;have d:=x.le;refine⟨e,i6,?_,?_⟩
 .rw[x.pre,aG _ _ b,zk,zN,c];simp
 .have a:=congrArg (xS 1) x.post;simpa[zD]using a
theorem filter_all{α:Type}{g:α->Bool}{l:List α}(h:¬l.findIdx g<i4 l):l.filter (λx=>!g x)=l:=wA.2 λx a=>by
 have:g x=eX:=by
  cases hh:g x with
  |false=>rfl
  |true=>exact absurd (wq.2 ⟨x,a,hh⟩) h
 rw[this];rfl
theorem AD(s:Sl)(l:av)(b:FuncId)(a:Array Value)(g:Int->Bool)(Q:f9->Prop)(y:C.fns[b]?=dB eS)(A:St B h0 As Q)(f:∀x h',Q h'->ai kg b ([Value.int .i64 x]++a.toList).toArray h' λv p=>v=xY (g x)/\Sp h' p [])(H:aa B h0 h (aq 3 s 1 az l::As))(M:i4 l<=2^20):
  ai kg 54 #[s,.func (.func b) #[] a] h λv h'=>∃r:Sl,v=r/\aa B h0 h' (aq 3 r 1 az (l.filter λx=>!g x)::As):=by
 refine ts Tryz.func54 ?_ (xc (xc (xc (x0 [(5,aR),(6,aR)] [(5,8),(16,36)])))) (args:=[s,(.func (.func b) #[] a)]);refine(SK s l b a g Q y A f H M).x8 λP z=>?_;have I:=(H.own 0 i5).len;have J:=(H.own 0 i5).cap;refine⟨_,i5,aY (λe=>?_) λe=>?_⟩
 .have q:¬l.findIdx g<i4 l:=λo=>by rw[g0 o]at e;omega
  exact⟨s,i5,by rw[filter_all q];exact z⟩
 .have c:l.findIdx g<i4 l:=by
   by_cases o:l.findIdx g<i4 l
   .exact o
   .rw[g9 o]at e;exact absurd i5 e
  rw[g0 c];refine an (λt:Nat×Nat×av=>((t.1:Int),(t.2.1:Int))) (λt h'=>lJ g l t.2.2 t.1 t.2.1/\t.2.1<=i4 l/\aa B h0 h' (aq 3 s 1 az t.2.2::As)) (λt=>i4 l-t.2.1) (l.findIdx g,l.findIdx g+1,l) j4 ⟨lJ.start c i5,i9,z⟩ ?_;rintro⟨i,j,l'⟩ D ⟨M2,O,m⟩;dsimp only at*;have G:=M2.len;have F:=M2.le;refine ae (λK=>?_) (λK=>?_)
  .have d:j<i4 l:=i6
   refine(m.seq 0 i5 λ_=>rfl).bm j i5 i6 _ i5 ?_;rw[M2.at_ d];refine eJ y ?_;refine(f l[j] D (A.at [_] m)).x8 λh3 E=>?_;have k:=m.up E.ac;refine⟨_,i5,aX (λw=>?_) λw=>?_⟩
   .refine k.set ag 0 i5 (λ_=>rfl) i5 i i5 i6 l[j] i5 i5 i5 λN L=>?_;exact⟨(i+1,j+1,l'.set i l[j]),by dsimp only;rw[af _,af _];rfl,⟨M2.keep d q6,i9,L⟩,i9⟩
   .exact⟨(i,j+1,l'),j0,⟨M2.skip d q6,i9,k⟩,i9⟩
  .have u:j=i4 l:=i6
   subst u;refine⟨⟨i6,i6⟩,?_⟩;rw[qj];refine m.nk ag 0 i5 gz (λ_=>rfl) i5 i7 i i6 λh3 k=>⟨⟨i6,i6⟩,⟨s.ptr,i,s.cap⟩,i5,?_⟩
   have:=M2.pre;rw[qL]at this;rw[<-this];exact k
abbrev aid:bV C.toBX 281 352 2 [xU ka 0,xU ka 0] 16:=⟨_,_,i5,i5,i5,i5,i5,i5⟩
theorem SL(s:Sl)(l:List (Int×Int))(b:FuncId)(a:Array Value)(g:Int×Int->Bool)(Q:f9->Prop)(w:C.fns[b]?=dB eS)(z:St B h0 As Q)(r:∀x h',Q h'->ai kg b ([Value.agg #[xU ka x.1,xU ka x.2]]++a.toList).toArray h' λv p=>v=xY (g x)/\Sp h' p [])(H:aa B h0 h (aq 352 s 2 gK l::As))(F:i4 l<=2^20):
  ai kg 349 #[s,.func (.func b) #[] a] h λv h'=>v=xU ka (if l.findIdx g<i4 l then(l.findIdx g:Int)else-1)/\aa B h0 h' (aq 352 s 2 gK l::As):=by
 refine ts Tryz.func349 ?_ (xc (x0 [(8,aR)] [(4,6),(8,19)])) (args:=[s,(.func (.func b) #[] a)]);have A:=(H.own 0 i5).len;refine an (λi:Nat=>(i:Int)) (λi h'=>aa B h0 h' (aq 352 s 2 gK l::As)/\i<=i4 l/\∀j (m:j<i4 l),j<i->g l[j]=eX) (λi=>i4 l-i) 0 i5 ⟨H,i6,λj _ m=>i6⟩ ?_;rintro i y ⟨k,G,c⟩;refine ae (λe=>?_) (λe=>?_)
 .have d:i<i4 l:=i6
  refine(k.seq 0 i5 λ_=>rfl).dO (g:=gK) i i5 d l[i] i5 ?_;refine eJ w ?_;refine(r l[i] y (z.at [_] k)).x8 λE u=>⟨_,i5,aP (λt=>?_) λt=>?_⟩
  .rw[AC d c t,g0 d];exact⟨i5,k.up u.ac⟩
  .refine⟨i+1,j4,⟨k.up u.ac,i6,λj m q=>?_⟩,i6⟩;rcases qZ.1 q with h3|rfl
   .exact c j m h3
   .exact t
 .have f:¬l.findIdx g<i4 l:=by rw[wq];rintro⟨x,D,o⟩;obtain⟨j,m,rfl⟩:=qA D;rw[c j m i6]at o;cases o
  rw[g9 f];exact⟨i5,k⟩
theorem QB(s:Sl)(l:List (Int×Int))(b:FuncId)(a:Array Value)(g:Int×Int->Bool)(Q:f9->Prop)(A:C.fns[b]?=dB eS)(F:St B h0 As Q)(k:∀x h',Q h'->ai kg b ([Value.agg #[xU ka x.1,xU ka x.2]]++a.toList).toArray h' λv p=>v=xY (g x)/\Sp h' p [])(H:aa B h0 h (aq 352 s 2 gK l::As))(N:i4 l<=2^20):
  ai kg 288 #[s,.func (.func b) #[] a] h λv h'=>∃r:Sl,v=r/\aa B h0 h' (aq 352 r 2 gK (l.filter λx=>!g x)::As):=by
 refine ts Tryz.func288 ?_ (xc (xc (xc (x0 [(5,aR),(6,aR)] [(5,8),(16,36)])))) (args:=[s,(.func (.func b) #[] a)]);refine(SL s l b a g Q A F k H N).x8 λS D=>?_;have K:=(H.own 0 i5).len;have L:=(H.own 0 i5).cap;refine⟨_,i5,aY (λe=>?_) λe=>?_⟩
 .have q:¬l.findIdx g<i4 l:=λo=>by rw[g0 o]at e;omega
  exact⟨s,i5,by rw[filter_all q];exact D⟩
 .have d:l.findIdx g<i4 l:=by
   by_cases o:l.findIdx g<i4 l
   .exact o
   .rw[g9 o]at e;exact absurd i5 e
  rw[g0 d];refine an (λt:Nat×Nat×List (Int×Int)=>((t.1:Int),(t.2.1:Int))) (λt h'=>lJ g l t.2.2 t.1 t.2.1/\t.2.1<=i4 l/\aa B h0 h' (aq 352 s 2 gK t.2.2::As)) (λt=>i4 l-t.2.1) (l.findIdx g,l.findIdx g+1,l) j4 ⟨lJ.start d i5,i9,D⟩ ?_;rintro⟨i,j,l'⟩ P ⟨M2,R,w⟩;dsimp only at*;have J:=M2.len;have I:=M2.le;refine ae (λM=>?_) (λM=>?_)
  .have f:j<i4 l:=i6
   refine(w.seq 0 i5 λ_=>rfl).dO (g:=gK) j i5 i6 l[j] (by rw[M2.at_ f]) ?_;refine w.alloc ag i5 λa5 h3 c=>?_;have c:=c.aZ;refine c.storeAll ag 0 i5 i5 (gK l[j]) i5 i5 i5 i5 λz m=>?_;refine⟨l[j],(m.box 0 i5).aE _ i5,?_⟩;refine eJ A ?_;refine(k l[j] z (F.at [_,_] m)).x8 λO G=>?_;have E:=m.up G.ac;have c:=E.nT;refine⟨_,i5,aX (λy=>?_) λy=>?_⟩
   .refine⟨l[j],(E.box 0 i5).aE _ i5,?_⟩;refine c.set ag 0 i5 (λ_=>rfl) i5 i i5 i6 l[j] i5 i5 i5 λz m=>?_;exact⟨(i+1,j+1,l'.set i l[j]),by dsimp only;rw[af _,af _];rfl,⟨M2.keep f o6,i9,m⟩,i9⟩
   .exact⟨(i,j+1,l'),j0,⟨M2.skip f o6,i9,c⟩,i9⟩
  .have u:j=i4 l:=i6
   subst u;refine⟨⟨i6,i6⟩,?_⟩;rw[qj];refine w.nk ag 0 i5 aid (λ_=>rfl) i5 i7 i i6 λh3 c=>⟨⟨i6,i6⟩,⟨s.ptr,i,s.cap⟩,i5,?_⟩
   have:=M2.pre;rw[qL]at this;rw[<-this];exact c
def Bu(pool:List (Sl×av)):HP:=⟨λh q=>∀x∈pool,Seq h q x.1 1 az x.2,λa c x b=>(a x b).ac c,λa d x b=>(a x b).mono d⟩
theorem aa.aac(H:aa B h0 h As):aa B h0 h (As++[Bu []]):=H.comp (.one (aS.refl _ _) λx a=>u5)
theorem aa.aeS(H:aa B h0 h As)(i j:Nat)(b:i≠j){pool:List (Sl×av)}{r:Sl}{l:av}(f:As[i]?=dB (Bu pool))(d:As[j]?=dB (tO r 1 az l)):aa B h0 h ((As.set i (Bu (pool++[(r,l)]))).set j emp):=
 H.merge i j b f d λk g _ c e x a=>by
  rcases qt.1 a with a|a
  .exact(c x a).mono λ_ h=>.inl h
  .rw[qw]at a;subst a;exact Seq.mono e λ_ h=>.inr h
abbrev aie:bV C.toBX 79 22 1 [xV eH 0 0] 24:=⟨_,_,i5,i5,i5,i5,i5,i5⟩
theorem SM(s d:f7)(r:Sl)(x:Int×Int)(h':f9)(e:f8 h' d=dB (xW (dB s))/\f8 h' (s.add 5)=dB (xV r.ptr r.len r.cap)):
  ai kg 289 ([Value.agg #[xU ka x.1,xU ka x.2]]++(#[Value.pointer (dB d)]:Array Value).toList).toArray h' λv c=>v=xY (decide (x.1>=(r.len:Int)))/\Sp h' c []:=by
 refine ts Tryz.func289 ?_ (args:=[x,d]);refine(Sp.refl h').boxed λa f b=>?_;exact⟨x.1,(b.box 0 i5).cell0 i5,dB s,mS e.1 b.ac,s,i5,r,mS e.2 b.ac,i5,.zip b.ac⟩
theorem SN(s b:f7)(r:Sl)(x:Int)(h':f9)(c:f8 h' b=dB (xW (dB s))/\f8 h' (s.add 5)=dB (xV r.ptr r.len r.cap)):
  ai kg 290 ([Value.int .i64 x]++(#[Value.pointer (dB b)]:Array Value).toList).toArray h' λv a=>v=xY (decide (x>=(r.len:Int)))/\Sp h' a []:=by
 refine ts Tryz.func290 ?_ (args:=[(x:Int),b]);exact⟨dB s,c.1,s,i5,r,c.2,i5,Sp.refl _⟩
theorem SO(s f:f7)(p:Int×Int×Int)(v r d j m K J kn:Sl)(z:List (Sl×Sl))(R:List fP)(known:List Bool)(n:Nat)(H:aa B h0 h (SA s (iH f p v r d j m K J)::As))(hS:St B h0 As λh=>oz kP 2 qv h r z R/\Rd h kn 1 fS known)(al:i4 known=n)(hn:n<=64)(a0:i4 R<=2^19)(ax:∀e∈R,i4 e.1<=2^20)
  (A:kv (n:Int) (rowsOf R known n)=eS) (Z:(fd n (rowsOf R known n)).steps.length<=2^20/\(gr (fd n (rowsOf R known n)).used (rowsOf R known n).length).length<=2^20):
  ai kg 226 #[xW (dB s),kn] h λv' h'=>v'=.tuple #[]/\∃L F N:Sl,aa B h0 h' (SA s (iH f p v r L F N K J)::aq 352 L 2 gK ((fd n (rowsOf R known n)).steps.filter λx=>decide (x.1<i4 R))::aq 3 F 1 az (fd n (rowsOf R known n)).dead::aq 3 N 1 az ((gr (fd n (rowsOf R known n)).used (rowsOf R known n).length).filter λx=>decide (x<i4 R))::As):=by
 refine ts Tryz.func226 ?_ (xc (xc (u9 (xc (v7 (ws [(4,cE),(16,aR)] [(4,5),(6,7),(16,26)] v6))) (x0 [(4,cE),(28,aR)] [(4,5),(7,9),(28,40)]))));refine H.boxed λq E T=>?_;have T:=T.aZ;refine⟨dB s,(T.box 0 i5).cell0 i5,s,i5,r,(T.box 1 i5).cell i5,?_⟩;have G1:=hS.at [_,_] T;have ab:=G1.1.1.len;have O:=G1.1.2.1;have Y:=G1.2.len;let pre:List HP:=[ak q 280 [xW (dB s)],SA s (iH f p v r d j m K J)]
 have H2:aa B h0 E (aq 22 ⟨eH,0,0⟩ 1 bx []::Bu []::ak q 280 [xW (dB s)]::SA s (iH f p v r d j m K J)::As):=((aa.aac T).aZ.nil 22 1 bx).aZ;refine an (λt:Nat×Sl=>(t.2,(t.1:Int))) (λt h'=>t.1<=i4 R/\aa B h0 h' (aq 22 t.2 1 bx ((z.take t.1).map qD)::Bu []::ak q 280 [xW (dB s)]::SA s (iH f p v r d j m K J)::As)) (λt=>i4 R-t.1) (0,⟨eH,0,0⟩) i5 ⟨js,by simpa using H2⟩ ?_;rintro⟨i,o⟩ h3 ⟨hi,H3⟩;dsimp only at*;refine ae (λe=>?_) (λe=>?_)
 .have ap:i<i4 R:=i6
  have G3:=hS.at [_,_,_,_] H3;refine G3.1.1.dO (g:=qv) i i5 i6 (z[i]'i6) i5 ?_;refine H3.alloc ag i5 λa8 h4 y=>?_;have y:=y.aZ;refine y.storeAll ag 0 i5 i5 (qv (z[i]'i6)) i5 i5 i5 i5 λh5 G=>?_;refine⟨(z[i]'i6).1,(G.box 0 i5).cell0 i5,?_⟩;refine G.nT.push ag 0 i5 aie i5 i7 (λ_=>rfl) jN (z[i]'i6).1 i5 i7 jj λo' h6 H6=>?_;refine⟨(i+1,o'),j0,⟨i9,?_⟩,i9⟩
  try dsimp only
  rw[aG z i,qP];exact H6
 have I:i=i4 R:=i6
 subst I;rw[qh i6]at H3;refine an (λt:Nat×Sl×List Sl=>(t.2.1,(t.1:Int))) (λt h'=>t.1<=n/\t.2.2.length=i4 (iL known t.1)/\aa B h0 h' (aq 22 t.2.1 1 bx (z.map qD++t.2.2)::Bu (t.2.2.zip (iL known t.1))::ak q 280 [xW (dB s)]::SA s (iH f p v r d j m K J)::As)) (λt=>n-t.1) (0,o,[]) i5 ⟨i6,i5,by simpa using H3⟩ ?_;rintro⟨i,o,sr⟩ h4 ⟨hi,D,y⟩;dsimp only at*;have a6:=DP known i;refine ae (λe=>?_) (λe=>?_)
 .have ap:i<n:=i6
  have G4:=hS.at [_,_,_,_] y;refine G4.2.bm i i5 i6 _ i5 ?_;have ao:known.getD i eX=known[i]'i6:=by rw[qg,qc i6];rfl
  have Q:=Lc known i;rw[ao]at Q;refine aP (λW=>?_) (λW=>?_)
  .rw[W,g0 rfl]at Q;refine y.lit ag az gz i5 [(i:Int)] i5 (show 1*1<=2^20 by decide) i5 λb h5 G=>?_;have G:=G.aZ.freeze 0 i5 λ_=>rfl;have H6:=aa.aeS G 2 0 i7 i5 i5;refine H6.push ag 1 i5 aie i5 i7 (λ_=>rfl) jN b i5 i7 jj λo' h7 H7=>?_;refine⟨(i+1,o',sr++[b]),j0,⟨i9,by dsimp only;rw[Q];simp[D],?_⟩,i9⟩
   try dsimp only
   rw[Q,List.zip_append D,<-qm];exact H7.nT
  .rw[W,g9 js,qI]at Q;exact⟨(i+1,o,sr),j0,⟨i9,by dsimp only;rw[Q];exact D,by dsimp only;rw[Q];exact y⟩,i9⟩
 have I:i=n:=i6
 subst I;have G4:=hS.at [_,_,_,_] y;have P:i4 (rowsOf R known i)=i4 R+i4 sr:=by rw[rowsOf,qu,qp,D]
 have U:iP h4 (λb=>b<h4.size) o 1 az (rowsOf R known i) (z.map qD++sr):=by
  refine⟨y.seq 0 i5 λ_=>rfl,by rw[P];simp;omega,λk a l E S=>?_⟩;by_cases hk:k<i4 R
  .rw[qq jj,qR,qc i6]at E;rw[rowsOf,qq jj,qR,qc hk]at S;simp only[Option.map_some,wj.injEq]at E S;subst E;subst S;exact(Fix.row G4.1 hk).1
  .rw[qk jj]at E;rw[rowsOf,qk jj]at S;simp only[qp,O]at E S;have hm:(a,l)∈sr.zip (iL known i):=by refine yP.2 ⟨k-i4 R,?_⟩;rw[vE];exact⟨E,S⟩
   exact(y.at 1 i5) _ hm
 rw[Y,al];refine(ZU (i:Int) o (rowsOf R known i) _ h4 U i6 ?_).mono ?_
 .intro x V;rcases qt.1 V with V|V
  .obtain⟨e,he,rfl⟩:=qo.1 V;have:=ax e he;omega
  .obtain⟨c,hc,rfl⟩:=qo.1 V;simp
 rintro _ h5 ⟨L,F,N,rfl,R5⟩;have am:Dv (i:Int) (rowsOf R known i)=((fd i (rowsOf R known i)).steps,(fd i (rowsOf R known i)).dead,gr (fd i (rowsOf R known i)).used (rowsOf R known i).length):=by unfold Dv;rw[g0 A,qj]
 rw[am]at R5;dsimp only at R5;have G:=((y.nT).nT).comp R5;refine⟨((L,F,N),_),i5,?_⟩;have H6:=aa.front (As:=ak q 280 [xW (dB s)]::SA s (iH f p v r d j m K J)::As) (Bs:=[_,_,_]) G;refine H6.alloc ag i5 λay h7 H7=>?_;have H7:=H7.aZ;refine H7.storeAll ag 0 i5 i5 [L,F,N] i5 i5 i5 i5 λh8 H8=>?_;refine⟨L,(H8.box 0 i5).cell0 i5,?_⟩;refine(QB L _ 289 #[xW (dB q)] (λx=>decide (x.1>=(r.len:Int))) (λh'=>f8 h' q=dB (xW (dB s))/\f8 h' (s.add 5)=dB (xV r.ptr r.len r.cap)) i5 (St.mk' λh' H'=>⟨(H'.box 3 i5).cell0 i5,(H'.box 4 i5).cell i5⟩) (λx h' hq=>SM s q r x h' hq) H8.oy Z.1).y0 λw h9 H9=>⟨w,i5,?_⟩;refine H9.fM ag 1 i5 i5 [w] i5 i5 i5 js λa5 X=>?_;refine⟨N,(X.box 1 i5).cell i5,?_⟩;have ar:=X.aI 6 [3,0,1,2,4,5];refine(AD N _ 290 #[xW (dB q)] (λx=>decide (x>=(r.len:Int))) (λh'=>f8 h' q=dB (xW (dB s))/\f8 h' (s.add 5)=dB (xV r.ptr r.len r.cap)) i5 (St.mk' λh' H'=>⟨(H'.box 3 i5).cell0 i5,(H'.box 4 i5).cell i5⟩) (λx h' hq=>SN s q r x h' hq) ar Z.2).y0 λu a4 ah=>⟨u,i5,?_⟩;refine ah.store ag 2 i5 i5 2 [u] i5 i5 i5 js λa2 M=>?_;refine⟨dB s,(M.box 4 i5).cell0 i5,(w,F,u),(M.box 2 i5).aE _ i5,s,i5,?_⟩;refine M.store ag 5 i5 i5 6 [w,F,u] i5 i5 i5 oj λa3 ad=>⟨i5,w,F,u,?_⟩
 have e1:(λx:Int×Int=>!decide (x.1>=(r.len:Int)))=λx=>decide (x.1<(i4 R:Int)):=by
  funext x;rw[ab,O];by_cases h:x.1<(i4 R:Int)
  .rw[hU h,ii i6];rfl
  .rw[ii h,hU i6];rfl
 have W:(λx:Int=>!decide (x>=(r.len:Int)))=λx=>decide (x<(i4 R:Int)):=by
  funext x;rw[ab,O];by_cases h:x<(i4 R:Int)
  .rw[hU h,ii i6];rfl
  .rw[ii h,hU i6];rfl
 rw[e1,W]at ad;exact ad.aI 6 [5,1,3,0]
theorem MW{l:Row}:¬fF l<i4 l↔l=aN l.length:=by
 rw[fF,wq];constructor
 .intro h;refine xk.2 ⟨i5,λx b=>?_⟩;by_cases a:x=0
  .exact a
  .exact absurd ⟨x,b,l7⟩ h
 .rintro h ⟨x,b,a⟩;have:=(xk.1 h).2 x b;subst this;simp at a
theorem SP(f:f7)(a b:Sl)(A B:aO)(m n w:Nat)(h:f9)(hf:gn h f)(ha:fm h a 1 aB A)(hb:fm h b 1 aB B)(hl:i4 A=m)(bb:i4 B=m)(q:aU n A)(hB:aU w B)(a6:1<=n)(hn:n+w<=64)(hm:m<=2^20)(hr:bP A=n):
  ai kg 207 #[xW (dB f),a,b] h λv h'=>(lI n A B/\∃r:Sl,v=.tuple #[r,xU ka 0]/\Sp h h' [fB 34 r 1 aB (gQ n A B)])∨(¬lI n A B/\v=.tuple #[xV eH 0 0,xU ka 10]/\Sp h h' []):=by
 have a7:n<=m:=by have:=pS A q;omega
 have d:i4 B=i4 A:=i6
 have ap:=ha.len;have ab:=hb.len;refine ts Tryz.func207 ?_ (xc (x6 [] [(6,8),(17,37)] (xc (xc (u9 (xc (v7 (ws [(43,aR)] [(10,11),(43,59)] v6))) (xc (xc (u9 (xc (v7 (ws [(71,aR)] [(6,8),(13,14),(71,79)] v6))) (xc (x0 [(14,cE),(83,aR)] [(14,15),(16,17),(83,95)]))))))))));refine aJ ?_;refine(nB a A n h ha q).mono ?_;rintro v T ⟨rfl,rfl⟩;refine⟨_,i5,aX (λe=>j3) λ_=>?_⟩;refine(nB b B w T hb hB).mono ?_;rintro v N ⟨rfl,rfl⟩;refine⟨_,i5,aX (λe=>j3) λ_=>?_⟩;refine bH (λe=>absurd (by rw[ap,ab,d]) e) λ_=>?_;refine aY (λe=>i6) λ_=>?_;refine(sj a A N ha).mono ?_;rintro v h3 ⟨rfl,rfl⟩;have am:dF A=n:=by
  cases A with
  |nil=>simp at hl;omega
  |cons x t=>rw[dF,bv js];exact q _ js
 refine⟨_,i5,?_⟩;rw[am];refine(Ao a A n h3 ha q).mono ?_;rintro v h4 ⟨r,rs,rfl,a8,R4⟩;refine⟨r,i5,?_⟩;have a4:=(R4.own 0 i5).len;refine an (λt:Nat×List Sl=>(t.1:Int)) (λt h'=>t.1<=m/\t.2.length=m/\Sp h3 h' (lD r t.2 (pz A B t.1))) (λt=>m-t.1) (0,rs) i5 ⟨js,i9,by simpa[pz,fE]using R4⟩ ?_;rintro⟨k,rs⟩ h5 ⟨hk,bd,W⟩;dsimp only at*;have Z:i4 rs=i4 (pz A B k):=o1
 refine ae (λe=>?_) (λe=>?_)
 .have J:k<m:=i6
  have X:k<i4 A:=i6
  have F:=lV (a:=r) Z k o1;have eg:(pz A B k)[k]'(by rw[tq d];omega)=A[k]:=by have:=Zi d X;rw[qc o1]at this;exact wj.inj this
  rw[eg]at F;have l1:A[k].length=n:=q _ (qe _);have l2:i4 (B[k]'i6)=w:=hB _ (qe _);refine(W.seq 0 i5 λ_=>rfl).jS k i5 i6 λa1 G Y=>?_;refine(hb.up W.ac).get k i5 i6 λrb ay=>?_;refine W.append ag (k+1) F gm PT i5 i7 (λ_=>rfl) ay ib i6 λs6 h6 H6=>⟨A0,?_⟩
  refine H6.set ag 0 i5 (λ_=>rfl) i5 k i5 i6 s6 i5 i5 i5 λh7 H7=>⟨A0,?_⟩
  refine⟨(k+1,rs.set k s6),j0,⟨i9,l5,?_⟩,i9⟩
  try dsimp only
  rw[<-Zj d X];show Sp h3 h7 (aq 34 r 1 bx (rs.set k s6)::bu 5 1 aB (rs.set k s6) ((pz A B k).set k _));rw[<-je Z];exact H7
 .have ad:k=i4 A:=i6
  subst ad;rw[Zk d]at W;refine(ub f h5).mono ?_;rintro v h6 ⟨rfl,rfl⟩;refine⟨dB f,i5,?_⟩;have L:=nt d.symm q hB;have bs:=mP d.symm;refine(BF (m:=fE A B) (n:=n+w) hf hf.lt i6 L i6 i6 i6 W).mono ?_;rintro v h7 ⟨l,rfl,a5,u⟩;rw[HS d.symm q,hr];refine⟨_,i5,?_⟩
  try dsimp only
  have R:=(u.own 0 i5).cap;have a9:=(u.own 0 i5).len;have N:=gA L n;refine ae (λe=>absurd (show(n:Int)<(n:Int)from e) i6) λ_=>?_;refine⟨⟨zP _,yU.2 (show n<=r.len by omega)⟩,?_⟩;obtain⟨M,V⟩:=z6 ((bD (fE A B) n).2)
  have br:i4 M=i4 A:=by have:=N.2;rw[<-V]at this;omega
  have O:aU (n+w) M:=by rw[V];exact N.1
  rw[<-V]at u;have P:i4 l=i4 M:=i6
  have p:lI n A B↔∀i (Q:i<i4 M),n<=i->M[i]=aN M[i].length:=by
   unfold lI;rw[<-V];constructor
   .intro S i Q hn;refine S _ (yP.2 ⟨i-n,?_⟩);rw[wZ,show n+(i-n)=i by omega,qc Q]
   .intro S x hx;obtain⟨i,Q,rfl⟩:=qA hx;simp only[q9]at Q;rw[z8];exact S _ i6 i6
  refine an (λi:Nat=>(i:Int)) (λi h'=>h'=h7/\n+i<=i4 M/\∀j (hj:j<i4 M),n<=j->j<n+i->M[j]=aN M[j].length) (λi=>i4 M-(n+i)) 0 i5 ⟨i5,i6,λj _ _ _=>i6⟩ ?_;rintro i h8 ⟨rfl,Q,o⟩;rw[qj];refine ae (λe=>?_) (λe=>?_)
  .have g:n+i<i4 M:=i6
   have F:=lV (a:=r) P (n+i) i6;have a0:i4 (M[n+i]'g)=n+w:=O _ (qe _);have D:=u.seq (n+i+1) F λ_=>rfl;have y:=(u.seq 0 i5 λ_=>rfl).drop n R;have ax:(l.drop n)[i]'(by simp;omega)=l[n+i]'i6:=z8;refine y.jS i i5 jj λa1 G Y=>?_;rw[ax];refine(FG _ _ h8 D).mono ?_;rintro _ h9 ⟨rfl,rfl⟩;refine⟨_,i5,ae (λK=>?_) λK=>?_⟩
   .right;have E:fF (M[n+i]'g)<i4 (M[n+i]'g):=by
     by_cases hh:fF (M[n+i]'g)<i4 (M[n+i]'g)
     .exact hh
     .rw[g9 hh]at K;exact absurd K i7
    refine⟨λS=>?_,i5,.zip u.ac⟩;have:=p.1 S (n+i) g i6;exact absurd E (MW.2 this)
   .have E:¬fF (M[n+i]'g)<i4 (M[n+i]'g):=λhh=>by
     rw[g0 hh]at K;exact K (zP _)
    refine⟨i+1,j4,⟨i5,i6,λj hj T N=>?_⟩,i6⟩;by_cases ao:j=n+i
    .subst ao;exact MW.1 E
    .exact o j hj T i6
  refine⟨⟨zP _,yU.2 (show n<=r.cap by omega)⟩,?_⟩;have z:lI n A B:=p.2 λj hj T=>o j hj T i6;have e1:gQ n A B=(M.take n).map (xS n):=by rw[gQ,<-V]
  have I:∀k (hk:k<n),(gQ n A B).take (k+1)=(gQ n A B).take k++[(M[k]'i6).drop n]:=λk hk=>by
   rw[e1,aG _ _ jj,zU,yi]
  have bk:i4 (gQ n A B)=n:=(uW d.symm q hB hr).1;refine an (λt:Sl×Nat=>(t.1,(t.2:Int))) (λt h'=>t.2<=n/\Sp h8 h' [fB 34 t.1 1 aB ((gQ n A B).take t.2)]) (λt=>n-t.2) (⟨eH,0,0⟩,0) i5 ⟨js,(Sp.refl h8).CJ 34 1 aB⟩ ?_;rintro⟨s,k⟩ h9 ⟨bl,H9⟩;dsimp only at*;have HH:=u.comp H9;refine ae (λe=>?_) (λe=>?_)
  .have J:k<n:=i6
   have F:=lV (a:=r) P k i6;have U:(lD r l M++[fB 34 s 1 aB ((gQ n A B).take k)])[k+1]?=dB (aq 5 (l[k]'i6) 1 aB (M[k]'i6)):=by rw[qq (by simp[bu];omega)];exact F
   have a0:i4 (M[k]'i6)=n+w:=O _ (qe _);have H:=HH.own (k+1) U;have D:=HH.seq (k+1) U λ_=>rfl;have a3:=H.len;have y:=(HH.seq 0 i5 λ_=>rfl).take n i6;have al:(l.take n)[k]'(by simp;omega)=l[k]'i6:=yi;refine y.jS k i5 jj λa1 G Y=>?_;rw[al];refine⟨⟨zP _,yU.2 i6⟩,?_⟩;refine(fq _ _ h9 (D.drop n H.cap) jj).y0 λc bq ah=>?_;have ar:=(H9.comp ah).freeze 1 i5 λ_=>rfl;refine⟨c,i5,?_⟩;refine ar.pj ag 0 1 i7 i5 i5 fh jj λs' b0 a2=>?_;refine⟨(s',k+1),j0,⟨i9,?_⟩,i9⟩
   try dsimp only
   rw[I k J];exact a2.del 1
  .rw[qh i6]at H9;refine .inl ⟨z,s,i5,?_⟩;have:=(Sp.zip u.ac).comp H9;exact this
theorem QC:∀{l:av},l.Pairwise (·<·)->go l=eS
 |[],_=>rfl
 |[_],_=>rfl
 |a::b::r,h=>by
  rw[List.pairwise_cons]at h;rw[go,QC h.2,hU (h.1 b js)];rfl
theorem WK{l:av}(h:l.Pairwise (·<·)):Lt l:=λi a=>List.pairwise_iff_getElem.1 h i (i+1) i6 a i6
theorem WL{n:Nat}{R:List fP}{known:List Bool}(i:n<=64)(b:∀e∈R,(∀c∈e.1,0<=c/\c<(n:Int))/\e.1.Pairwise (·<·)):kv (n:Int) (rowsOf R known n)=eS:=by
 unfold kv;rw[qx];refine⟨jj,qS.2 λr a=>?_⟩;unfold gp;rw[qx];rcases qt.1 a with a|a
 .obtain⟨e,f,rfl⟩:=qo.1 a;exact⟨qS.2 λc g=>j1,QC (b e f).2⟩
 .obtain⟨d,rfl,h,_⟩:=Bb a;exact⟨j1,i5⟩
theorem aa.aif{e:Nat}{v:Sl}{vs:aO}(H:aa B h0 h As)(i:Nat)(r:As[i]?=dB (bY e v 1 bx (tQ 1 aB) vs)):
  ∃f:List Sl,aa B h0 h (As.set i (aq e v 1 bx f)++[mC (f.zip vs)])/\f.length=i4 vs/\∀(c:Nat) (o:c<i4 f) (m:c<i4 vs),f[c].ptr.isNone=vs[c].isEmpty:=by
 have g:i<i4 As:=(ql.1 r).1;have A:aa B h0 h (As.set i (HP.ex λf:List Sl=>((aq e v 1 bx f).sep (mC (f.zip vs))).and (i4 f=i4 vs/\∀(c:Nat) (o:c<i4 f) (m:c<i4 vs),f[c].ptr.isNone=vs[c].isEmpty))):=
  H.fN i r λq ⟨rs,s,a,b,c,d,e⟩=>⟨rs,⟨λb=>v.on b,s,λx j=>(b x j).2,λx j=>(b x j).1,c,⟨a,λx j=>j⟩,λx j=>by
   obtain⟨k,w,l⟩:=qA j;simp only[List.length_zip]at w;rw[y8]at l;subst l;exact(e k _ _ (qc i6) (qc i6)).1⟩,d,λk o m=>by
   obtain⟨x,y⟩:=e k _ _ (qc o) (qc m);cases hv:vs[k]with
   |nil=>grind
   |cons z t=>
    have:=x.isSome j1
    grind⟩
 obtain⟨f,n⟩:=A.Vf i (zy g);rw[yx]at n;have D:=n.fact i (zy g);have p:=n.aeb i (zy g);rw[yx]at p;have u:=p.split i (zy g);rw[yx]at u
 grind
def yv(x:Int×Sl):aW:=[xU ka x.1,x.2]
def ajB:jm (Int×Sl) (Int×Row):=⟨λh q a b=>a.1=b.1/\Seq h q a.2 1 aB b.2,λa c=>⟨a.1,a.2.ac c⟩,λa d=>⟨a.1,a.2.mono d⟩⟩
abbrev GH:jm Sl (List (Int×Row)):=bM ajB 2 yv
theorem WM{a:List Sl}{vs:aO}(h:i4 a=i4 vs)(pl:List (Sl×Row))(d:∀x∈a.zip vs,x∈pl):iG pl id a vs:=
 ⟨h,λi r l b c=>d _ (yP.2 ⟨i,by rw[vE];exact⟨b,c⟩⟩)⟩
theorem QD{α β:Type}:∀(a:List α) (x:α) (l:List β) (h:i4 a<i4 l),(a++[x]).zip l=a.zip l++[(x,l[i4 a])]
 |[],x,b::l,_=>js
 |c::a,x,b::l,h=>by
  have:=QD a x l l0;simp[this]
def aeT(h h':f9)(v:Value)(n:Nat)(A a:aO):Prop:=
 (lI n A a/\∃r:Sl,v=.tuple #[r,xU ka 0]/\Sp h h' [MA r (gQ n A a)])∨(¬lI n A a/\v=.tuple #[xV eH 0 0,xU ka 10]/\Sp h h' [])
theorem acV(p:Pm)(seed:Int)(l:Sl)(syms:List (Int×Row))(n w:Nat)(h:f9)(hl:eF GH h l syms)(y:bB p=eS)(bk:∀x∈syms,Bc p x)(hn:(bp p).toNat=n)(hw:p.2.2.toNat=w)(eo:i4 syms<=2^18)(hr:bP (db p seed (syms.map qD))=n):
  ai kg 167 #[ir p,xU ke seed,l] h λv h'=>aeT h h' v n (db p seed (syms.map qD)) (rZ p syms):=by
 refine ts Tryz.func167 ?_ (xc (.fwd (xc (u9 (xc (v7 (ws [(8,cE),(23,aR)] [(8,9),(10,11),(23,39)] v6))) (x6 [(11,Mw)] [(11,12),(39,43)] v6))) [(0,[v6]),(1,[(.two (.two v6 (.inn (.loop [(95,aR)] [(20,21),(95,104)] v6))) v6)]),(2,[v6])])) [(5,(.l [0,1,2,3,4,6,7,5,8,9,10,11])),(7,(.l [1,0,2,3,4]))] (args:=[p,(xU ke (seed:Int)),l]);have eh:=(bK p).1 y;have d1:bp p=n:=by rw[<-hn];have:=oW y;omega
 have ce:n=p.1.toNat+p.2.1.toNat:=by rw[<-hn,oW y];omega
 have cp:p.2.2=(w:Int):=i6
 have b3:1<=n:=i6
 have b9:n<=20:=i6
 obtain⟨T,du,ef,cc⟩:=bM.kI hl;have ek:=bM.len hl;let d:List fP:=uB n seed syms;have ec:i4 d=i4 syms:=by simp[d,uB]
 have J:=aho (seed:=seed) b3 b9 bk hw;let u:Nat->bX:=λi=>(syms.take i).map λx=>df n seed x.1;have ad:∀x:Int×Row,x∈syms->(bB p&&bE x.1)=eS:=λx hx=>by rw[y,(bk x hx).id];rfl
 refine(Sp.refl h).boxed λa1 O H1=>?_;have d7:=((aa.aac H1).nil 279 2 qv).bO [2,1,0];refine an (λt:Nat×Sl×List Sl=>(t.2.1,(t.1:Int))) (λt h'=>t.1<=i4 syms/\t.2.2.length=t.1/\Sp h h' [aq 279 t.2.1 2 qv (t.2.2.zip (T.map zw)),Bu (t.2.2.zip (u t.1)),ak a1 25 [xU ka p.1,xU ka p.2.1,xU ka p.2.2]]) (λt=>i4 syms-t.1) (0,⟨eH,0,0⟩,[]) i5 ⟨js,i5,d7⟩ ?_;rintro⟨i,o,cr⟩ h2 ⟨hi,bs,H2⟩;dsimp only at*;have b5:i4 (u i)=i:=by simp[u];omega
 refine ae (λe=>?_) (λe=>?_)
 .have U:i<i4 syms:=i6
  obtain⟨y1,y2⟩:=cc i i6 U;refine(Seq.up du H2.ac).dO (g:=yv) i i5 i6 (T[i]'i6) i5 ?_;refine H2.alloc ag i5 λa5 h3 H3=>?_;refine H3.storeAll ag 3 i5 i5 (yv (T[i]'i6)) i5 i5 i5 i5 λh4 P=>?_;refine⟨p,(P.box 2 i5).aE _ i5,(T[i]'i6).1,(P.box 3 i5).cell0 i5,(T[i]'i6).2,(P.box 3 i5).cell i5,?_⟩;refine(Bh p seed (T[i]'i6).1 h4).y0 λr h5 R5=>?_;rw[y1,ad _ (qe U),g0 rfl,hn]at R5;have H5:=(P.comp R5).freeze 4 i5 λ_=>rfl;refine⟨r,i5,⟨(H5.box 3 i5).cell i5,A0⟩,?_⟩;have H6:=aa.aeS H5 1 4 i7 i5 i5;have da:=H6.box 3 i5;refine H6.nS ag qv eQ i5 [(r,(T[i]'i6).2)] i5 (show 1*2<=2^20 by decide) i5 ⟨da.cell i5,A0⟩ ?_;refine H6.push ag 0 i5 eQ i5 i7 (λ_=>rfl) ZL (r,(T[i]'i6).2) i5 i7 jj λo' h7 H7=>?_;refine⟨⟨(H7.box 3 i5).cell i5,A0⟩,?_⟩;refine⟨(i+1,o',cr++[r]),j0,⟨i9,by simp[bs],?_⟩,i9⟩
  try dsimp only
  have e1:u (i+1)=u i++[df n seed syms[i].1]:=by simp only[u];rw[aG _ _ U,qP];rfl
  have e2:(cr++[r]).zip (T.map zw)=cr.zip (T.map zw)++[(r,(T[i]'i6).2)]:=by rw[QD cr r (T.map zw) jj,zU];simp only[bs]
  rw[e1,e2,List.zip_append (by rw[bs,b5])];exact H7.bO [0,1,2]
 have c0:i=i4 syms:=i6
 subst c0;have c7:u syms.length=syms.map λx=>df n seed x.1:=by simp only[u];rw[qL]
 rw[c7]at H2;have ds:∀{h':f9},(∀x∈cr.zip (syms.map λx=>df n seed x.1),Qw.Seq h' (λb=>b<h'.size) x.1 1 az x.2)->aS (λb=>b<h.size) h h'->Qw.Seq h' (λb=>b<h'.size) o 2 qv (cr.zip (T.map zw))->eF rF h' o d:=λ{h'} hp hpr hs=>by
  refine⟨_,hs,by simp[d,uB];omega,λk a b O h2=>?_⟩;have hk:k<i4 syms:=by have:=(ql.1 h2).1;omega
  rw[qc jj,y8,zU]at O;have e2:d[k]?=dB (df n seed syms[k].1,syms[k].2):=by simp[d,uB,hk]
  rw[e2]at h2;simp only[wj.injEq]at O h2;subst O;subst h2;refine⟨hp (cr[k]'i6,df n seed syms[k].1) (yP.2 ⟨k,?_⟩),Seq.up (cc k i6 hk).2 hpr⟩;rw[vE];exact⟨qc _,by simp[hk]⟩
 refine bF (λs h'=>∃(ar f:f7),s=dB ar/\Sp h h' [SA ar (iH f p ⟨eH,0,0⟩ ⟨eH,0,0⟩ ⟨eH,0,0⟩ ⟨eH,0,0⟩ ⟨eH,0,0⟩ ⟨eH,0,0⟩ ⟨eH,0,0⟩),aq 279 o 2 qv (cr.zip (T.map zw)),Bu (cr.zip (syms.map λx=>df n seed x.1)),ak a1 25 [xU ka p.1,xU ka p.2.1,xU ka p.2.2],ak f 330 ee]) ?_ ?_
 .refine⟨p,(H2.box 2 i5).aE _ i5,(rx h2).y0 λf h3 R3=>?_⟩;have H3:=H2.comp R3;refine⟨dB f,i5,⟨(H3.box 2 i5).cell0 i5,(H3.box 2 i5).cell i5,(H3.box 2 i5).cell i5,A0⟩,?_⟩;refine H3.boxed λar h4 P=>?_;exact⟨⟨(P.box 2 i5).cell0 i5,(P.box 2 i5).cell i5,(P.box 2 i5).cell i5,A0⟩,ar,f,i5,P.bO [4,0,1,2,3]⟩
 rintro _ h3 ⟨s,f,rfl,H3⟩;refine⟨p,(H3.box 3 i5).aE _ i5,(kS p h3).x8 λh4 R4=>?_⟩;have P:=H3.up R4.ac;refine⟨_,i5,?_⟩;rw[d1];have d2:eF rF h4 o d:=ds (P.at 2 i5) P.ac (P.seq 1 i5 λ_=>rfl);have cq:∀e∈d,i4 e.1<=2^20:=λe z=>by
  obtain⟨x,hx,rfl⟩:=qo.1 z;have:=td b3 b9 seed x.1;dsimp only;omega
 refine(ZQ o d n w h4 d2 (λe z=>⟨(J e z).1,WK (J e z).2⟩) i6 i6 ⟨i6,i6⟩ cq).mono ?_;have hA:aU n (bj p.1.toNat p.2.1.toNat):=by rw[ce];exact Ji _ _
 have eA:=VF (seed:=seed) y hn bk;have eB:=VG (seed:=seed) (n:=n) (p:=p) (l:=syms) hw;rw[<-eA]at hr⊢;rw[<-eB];rintro _ h5 ⟨known,vals,hI,⟨ad,rfl,R5⟩|⟨ad,k,v,rs,rfl,R5⟩⟩
 .refine⟨(⟨eH,0,0⟩,⟨eH,0,0⟩,⟨eH,0,0⟩,10),i5,bH (λ_=>?_) λe=>absurd e i7⟩;exact .inr ⟨Yw (λe z=>(J e z).1) hA hI ad hr,i5,(P.up R5.ac).bO []⟩
 refine⟨(k,v,rs,0),i5,bH (λe=>absurd i5 e) λ_=>?_⟩;have S:=abZ (λe z=>(J e z).1) hA hI ad;have F:=Mn (λe z=>(J e z).1) hI;obtain⟨f1,f2,f3,f4,f5⟩:=Jm (λe z=>(J e z).1) hI;have H:=pu hI λe z=>(J e z).1;have bb:=afv (known:=known) (vals:=vals) λe z=>(J e z).2;have c8:=Yx (l:=d) (known:=known) (vals:=vals);have am:=Yy (known:=known) (vals:=vals) cq;have ca:=hI.vlen;have c4:=hI.klen;unfold NX at S;obtain⟨R,ao⟩:=z6 (bf known vals d)
 change im n w d _ known vals _ _ _ _ at S;rw[<-ao]at S F f1 f2 f3 f4 f5 H bb c8 am R5;obtain⟨Y,H6,d9,b1⟩:=aa.aif (P.comp R5) 6 rfl;obtain⟨rr,H7⟩:=aa.HD H6 7 rfl λ_=>rfl;have H8:=aa.afS H7 8 i5;have H9:=aa.bO H8 [0,8,6,7,5,4];have bl:v.len=n:=by rw[(H9.own 2 i5).len];omega
 have hk:∀(c:Nat) (V:c<i4 Y),Y[c].ptr.isNone=!(known.getD c eX):=λc V=>by
  rw[b1 c V i6];have O:=hI.row c i6;rw[mU (show c<i4 vals by omega)]at O;cases hkn:known.getD c eX with
  |true=>
   rw[hkn,g0 rfl]at O;cases hv:vals[c]'i6 with
   |nil=>rw[hv]at O;simp at O;omega
   |cons x t=>rfl
  |false=>
   rw[hkn,g9 js]at O;rw[va.1 O];rfl
 refine⟨s,i5,H9.store ag 0 i5 i5 4 [v] i5 i5 i5 oj λh6 dp=>?_⟩;refine⟨s,i5,dp.store ag 0 i5 i5 5 [rs] i5 i5 i5 oj λh7 d6=>?_⟩;have cl:=WL (known:=known) (n:=n) i6 λe z=>⟨(H e z).dh,bb e z⟩
 have al:=Aa (rows:=rowsOf R known n) (n:=n) (by rw[ao];exact uY (ao▸H));have en:i4 (rowsOf R known n)<=i4 R+n:=by rw[rowsOf,qu,qp];have:=DP known n;omega
 refine(SO s f p v rs _ _ _ _ _ k rr R known n (As:=[mC ((⟨eH,0,0⟩,[])::Y.zip vals),HA v Y,dn kP 2 qv rs rr R,aq 4 k 1 fS known,ak f 330 ee]) d6 (St.mk' λh' H'=>⟨H'.dZ 2 i5,H'.seq 3 i5 λ_=>rfl⟩) c4 i6 i6 am cl ⟨by have:=al.1;omega,by have:=Gy (fd n (rowsOf R known n)).used (rowsOf R known n).length;omega⟩).x8 λh8 ⟨st,dd,lf,cs⟩=>⟨(),i5,?_⟩;obtain⟨D,hD⟩:=z6 ((ie R known n).dead)
 obtain⟨ST,bd⟩:=z6 (nZ R known n)
 obtain⟨L,hL⟩:=z6 (Qw.leftOf R known n)
 have dk:Sp h h8 (SA s (iH f p v rs st dd lf ⟨eH,0,0⟩ ⟨eH,0,0⟩)::mC ((⟨eH,0,0⟩,[])::Y.zip vals)::[HA v Y,aq 352 st 2 gK ST,aq 3 dd 1 az D,aq 3 lf 1 az L,dn kP 2 qv rs rr R,ak f 330 ee]):=by rw[hD,bd,hL];exact aa.bO cs [0,4,5,1,2,3,6,8]
 rw[<-hD]at S F f1 f2 f3 f5;rw[<-bd]at S F;rw[<-hL]at S f4;have b7:i4 ST<=2^20:=by rw[bd,nZ,ie];have:=qE (λx:Int×Int=>decide (x.1<i4 R)) (fd n (rowsOf R known n)).steps;have:=al.1;omega
 have ei:i4 L<=2^20-2^10:=by rw[hL,Qw.leftOf,ie];have:=qE (λx:Int=>decide (x<i4 R)) (gr (fd n (rowsOf R known n)).used (rowsOf R known n).length);have:=Gy (fd n (rowsOf R known n)).used (rowsOf R known n).length;omega
 have B:St (λb=>b<h.size) h [HA v Y,aq 352 st 2 gK ST,aq 3 dd 1 az D,aq 3 lf 1 az L,dn kP 2 qv rs rr R,ak f 330 ee] λh=>WE h f rs st dd lf rr R ST D L:=
  St.mk' λh' H'=>⟨H'.box 5 i5,H'.dZ 4 i5,H'.seq 1 i5 λ_=>rfl,H'.seq 2 i5 λ_=>rfl,H'.seq 3 i5 λ_=>rfl⟩
 refine(WG s f p v rs st dd lf _ _ rr R ST D L n D.length w _ dk B bl i6 cp i6 i5 i6 H f1 f2 F b7 am js).x8 λh9 ⟨wa,mo,wr,mr,pl,cd,ax⟩=>⟨(),i5,?_⟩;have eb:=(B.at [_,_,_,_] cd).dead.len;generalize ed:ST.foldl (iz R D.length) (gG n D.length w D)=S0 at ax S;have d0:i4 S0.1=n:=by have:=S.lens.1;simpa[iV]using this
 have ea:i4 S0.2=n:=by have:=S.lens.2.1;simpa[iV]using this
 have hV:iG pl id Y vals:=WM d9 pl λx hx=>ax.sub x (qC _ hx);refine(ZY s f p v rs st dd lf wa mo Y wr mr pl known vals S0.1 S0.2 n D.length cd i6 eb i6 ⟨λ_ h=>h,ax.way,ax.more⟩ hV ca d0 ea hk).x8 λep ⟨ap,a3,ab,c6,K⟩=>⟨(),i5,?_⟩;obtain⟨W,hW⟩:=z6 ((iV D.length known vals S0).1)
 obtain⟨M,hM⟩:=z6 ((iV D.length known vals S0).2)
 change mK pl ab ap a3 (iV D.length known vals S0).1 (iV D.length known vals S0).2 at K;rw[<-hW,<-hM]at K S;have m:=S.lens;refine(WI s f p v rs st dd lf wa mo ap a3 ab rr R ST D L W M n D.length w c6 B ce cp i6 y i5 i6 H am f4 i6 ⟨λ_ h=>h,K.way,K.more⟩ m.1 m.2.1 m.2.2).mono ?_;rintro _ a8 ⟨a,b,rfl,ay⟩;refine⟨(a,b),i5,s,i5,dd,show f8 a8 (s.add 7)=_ from(ay.box 2 i5).cell i5,?_⟩;have d8:iG ab id Y vals:=hV.mono K.sub;obtain⟨e1,e2⟩:=pZ S;have N:=Ba (n:=n) (w:=w) (ahead:=bj p.1.toNat p.2.1.toNat) (l:=d) (known:=known) (vals:=vals) (dead:=D) (left:=L) (W:=W) (M:=M);have a7:∀{X:aO},_->_:=λ{X} hs=>S.TY hr (D:=X) hs;have a6:=S.TZ hr;have a2:=S.VH i6 hr;have a0:=S.KW i6 hr;rw[<-ao]at e1 e2 N a7 a6 a2 a0;obtain⟨dA,b4⟩:=z6 (dT n D.length R W L (bj p.1.toNat p.2.1.toNat))
 obtain⟨G,d3⟩:=z6 (gj n w R M L (bj p.1.toNat p.2.1.toNat))
 rw[<-b4]at e1 N a7 a6 a2 a0 ay;rw[<-d3]at e2 N a7 a6 a2 ay;have c5:i4 dA=i4 L+p.2.1.toNat:=by rw[b4];simp[dT,bj]
 have a9:∀{h':f9} {pre:List HP} {dead:Sl} {dr:List Sl} {X:aO} {Q:HP},Sp h h' (Told s f p v rs st dd lf wa mo ap a3 ab++HA v Y::[aq 352 st 2 gK ST,aq 3 dd 1 az D,aq 3 lf 1 az L,dn kP 2 qv rs rr R,ak f 330 ee,Q])->(∀h',Q.p h' (λb=>b<h'.size)->iP h' (λb=>b<h'.size) dead 1 aB X dr)->gM D.length w dA G X->
   ai kg 231 #[xW (dB s),dead] h' λv' ah=>v'=.tuple #[]/\f8 ah (s.add 4)=dB (xV v.ptr v.len v.cap)/\aeT h ah (.tuple #[v,xU ka 0]) n (dV n d (bj p.1.toNat p.2.1.toNat)) (iR w d (bj p.1.toNat p.2.1.toNat)):=by
  intro h' pre dead dr X Q H' hQ hs;refine(aaa s f p v rs st dd lf wa mo dead Y ap a3 dr ab known vals W M X n D.length w H' (St.mk' λah Z=>⟨Z.box 4 i5,hQ ah (Z.at 5 i5)⟩) i6 i6 i6 ⟨λ_ h=>h,K.way,K.more⟩ d8 ca m.1 m.2.1 m.2.2 hs.1 hs.2.1 hk).x8 λah ⟨eg,el,Z,ip⟩=>⟨i5,(Z.box 0 i5).cell i5,?_⟩;obtain⟨c1,c2⟩:=a7 hs;refine .inl ⟨c1,v,i5,?_⟩;rw[<-c2];exact(Z.acN 4 3 i7 i5 i5 ip.1 λk r l O h2=>ip.2 k r l O h2).bO [4]
 have I:=ay;have cm:=I.LR 1 i5 λ_=>rfl;have cn:fm a8 b 1 aB G:=bM.tofm (by
  have:=bM.impl (α':=Sl) (E:=QA) (E':=cG 1 aB) id (λ{h q a b} (hx:QA.p h q a b)=>hx.1) cm
  rwa [List.map_id]at this)
 have dy:=cn.len;refine aY (λe0=>?_) (λe0=>?_)
 .have b6:i4 D=0:=i6
  obtain⟨br,q1,q2,q3⟩:=bM.kI cm;refine an (λi:Nat=>(i:Int)) (λi h'=>h'=a8/\i<=i4 G/\∀j (hj:j<i4 G),j<i->G[j]=aN w) (λi=>i4 G-i) 0 i5 ⟨i5,i6,λj _ hj=>i6⟩ ?_;rintro i a4 ⟨rfl,hi,hz⟩;have b0:gM D.length w dA G []↔∀r∈G,r=aN w:=by rw[b6];exact Jn N
  refine ae (λe=>?_) (λe=>?_)
  .have U:i<i4 G:=by have e':(i:Int)<(b.len:Int):=e;omega
   obtain⟨y1,y2⟩:=q3 i i6 U;have d4:G[i].length=w:=e2 _ (qe _);refine q1.mi i i5 i6 ?_;refine(MS (br[i]'i6) G[i] _ i5 a4 y1 y2 i6).mono ?_;rintro _ b2 ⟨⟨t,rfl,ht⟩,rfl⟩;refine⟨t,i5,ae (λe3=>?_) λe3=>?_⟩
   .refine .inr ⟨λV=>?_,i5,I.bO []⟩;have cf:=a6 V;have c9:D=[]:=va.1 b6;rw[c9]at cf;have:=(Jn N).1 cf _ (qe U);have h0:t.len=0:=ht.2 λx hx=>by rw[this]at hx;exact(w5.1 hx).2
    omega
   .have h0:t.len=0:=i6
    refine⟨i+1,j4,⟨i5,i6,λj hj ej=>?_⟩,i6⟩;by_cases hh:j=i
    .subst hh;exact xk.2 ⟨d4,ht.1 h0⟩
    .exact hz j hj i6
  .have hs:gM D.length w dA G []:=b0.2 λr hr=>by
    obtain⟨j,hj,rfl⟩:=qA hr;have e':¬(i:Int)<(b.len:Int):=e;exact hz j hj i6
   have bq:=aa.comp (I.bO [2,3,4,5,6,7,8,9,10,11]) (Sp.one (h:=a4) (h':=a4) (A:=emp) (aS.refl _ _) A0);refine(a9 (pre:=[]) (dead:=⟨eH,0,0⟩) (dr:=[]) (X:=[]) (Q:=emp) ?_ (λh' _=>⟨Seq.nil _ _ _ _ _ _,i5,λk r l O _=>by cases O⟩) hs).mono ?_
   .exact bq
   .rintro _ b2 ⟨rfl,V,hm⟩;exact⟨(),i5,s,i5,v,V,hm⟩
 .have d5:1<=i4 D:=i6
  refine⟨s,i5,dB f,(I.box 2 i5).cell0 i5,?_⟩;refine(SP f a b dA G dA.length D.length w a8 (I.box 11 i5) (I.DJ 0 i5) cn i5 N.symm e1 e2 d5 i6 i6 a0).mono ?_;rintro _ a4 (⟨V,r,rfl,R12⟩|⟨V,rfl,R12⟩)
  .refine⟨(r,0),i5,bH (λe=>absurd i5 e) λ_=>?_⟩;have bq:=(I.comp R12).NV 12 i5;obtain⟨dr,dx⟩:=aa.HD bq 12 rfl λ_=>rfl;have hs:=pU N e1 e2 a0 V;refine(a9 (pre:=[]) (dead:=r) (dr:=dr) (X:=gQ D.length dA G) (Q:=dn (cG 1 aB) 1 bx r dr (gQ D.length dA G)) (dx.bO [2,3,4,5,6,7,8,9,10,11,12]) (λh' x=>⟨x.1,x.2.1,x.2.2⟩) hs).x8 λb2 ⟨V,hm⟩=>⟨(),i5,s,i5,v,V,hm⟩
  .refine⟨(⟨eH,0,0⟩,10),i5,bH (λ_=>?_) λe=>absurd e i7⟩;exact .inr ⟨λhh=>V (a2.2 hh),i5,(I.up R12.ac).bO []⟩
def na(p:Int×Int×Int)(x:Int×Row):Bool:=bE x.1&&decide ((i4 x.2:Int)=p.2.2)
theorem QE{p:Int×Int×Int}{x:Int×Row}(c:bB p=eS):na p x=eS↔Bc p x:=by have:=(bK p).1 c;unfold na;rw[qx,decide_eq_true_iff];exact⟨λ⟨a,b⟩=>⟨a,i6⟩,λh=>⟨h.id,by have:=h.len;omega⟩⟩
def uh(p:Int×Int×Int)(seed:Int)(X:aO)(i:Nat):Row:=(qn i).flatMap λj:Nat=>gx p.2.2.toNat X (df (bp p).toNat seed (j:Int))
theorem MX(p:Int×Int×Int)(seed:Int)(X:aO)(i:Nat):uh p seed X (i+1)=uh p seed X i++gx p.2.2.toNat X (df (bp p).toNat seed (i:Int)):=by unfold uh;rw[List.range_succ,List.flatMap_append];simp
open Classical in
noncomputable def ma(p:Int×Int×Int)(seed:Int)(l:List (Int×Row)):Row×Int:=
 if bB p&&l.all (na p)then
  if eK p seed (l.map qD)then
   if lI (bp p).toNat (db p seed (l.map qD)) (rZ p l)then(uh p seed (gQ (bp p).toNat (db p seed (l.map qD)) (rZ p l)) p.1.toNat,0)else([],10)
  else([],9)
 else([],1)
theorem SQ(p:Pm)(x:Int×Sl)(l:Row)(h:f9)(d:Rd h x.2 1 aB l):ai kg 164 #[ir p,xZ #[xU ka x.1,x.2]] h λv h'=>v=xY (na p (x.1,l))/\Sp h h' []:=by
 refine ts Tryz.func164 ?_ (args:=[p,x]);refine(Sp.refl h).boxed λk g f=>?_;refine f.boxed λi j a=>?_;have e:=d.len;refine⟨x.1,(a.box 1 i5).cell0 i5,ae (λb=>?_) λb=>?_⟩
 .refine⟨x.1,(a.box 1 i5).cell0 i5,ae (λc=>?_) λc=>?_⟩
  .refine⟨x.2,(a.box 1 i5).cell i5,p.2.2,(a.box 0 i5).cell i5,?_,.zip a.ac⟩;congr 1;unfold na bE;rw[hU (show 0<=x.1 from b),hU (show x.1<=65535 from c),e];rw[vM];simp
  .refine⟨?_,.zip a.ac⟩;unfold na bE;rw[ii (show¬x.1<=65535 from c)];simp
 .refine⟨?_,.zip a.ac⟩;unfold na bE;rw[ii (show¬0<=x.1 from b)];simp
theorem SS(p:Pm)(b:f7)(x:Int×Sl)(l:Row)(h:f9)(c:bN h b 25 [xU ka p.1,xU ka p.2.1,xU ka p.2.2])(f:Rd h x.2 1 aB l):ai kg 163 #[xZ #[xU ka x.1,x.2],xW (dB b)] h λv h'=>v=xY (!na p (x.1,l))/\Sp h h' []:=by refine ts Tryz.func163 ?_ (args:=[x,b]);refine(Sp.refl h).boxed λg d a=>?_;refine⟨p,(c.ac a.ac c.lt).aE _ i5,x,(a.box 0 i5).aE _ i5,?_⟩;refine(SQ p x l d (Seq.up f a.ac)).x8 λi e=>⟨_,i5,i5,.zip (a.up e.ac).ac⟩
theorem SU(p:Pm)(d:f7)(l:Sl)(syms:List (Int×Row))(h:f9)(n:bN h d 25 [xU ka p.1,xU ka p.2.1,xU ka p.2.2])(q:eF GH h l syms)(B:i4 syms<=2^30):ai kg 162 #[l,.func (.func 163) #[] #[xW (dB d)]] h λv h'=>v=xY (!syms.all (na p))/\Sp h h' []:=by
 refine ts Tryz.func162 ?_ (args:=[l,(.func (.func 163) #[] #[xW (dB d)])]);refine(lR l (163,#[],#[xW (dB d)]) (R:=λv h'=>(∃i:Int,v=xU ka i/\(decide (i>=0)=!syms.all (na p)))/\Sp h h' []) ?_).mono ?_
 .skip
  obtain⟨f,t,A,u⟩:=bM.kI q;have x:=bM.len q;refine an (λi:Nat=>(i:Int)) (λi h'=>i<=i4 syms/\(syms.take i).all (na p)=eS/\Sp h h' []) (λi=>i4 syms-i) 0 i5 ⟨i6,js,Sp.refl h⟩ ?_;rintro i m ⟨r,a,c⟩;refine ae (λe=>?_) (λe=>?_)
  .have b:i<i4 syms:=i6
   obtain⟨w,y⟩:=u i i6 b;refine(Seq.up t c.ac).dO (g:=yv) i i5 i6 (f[i]'i6) i5 ?_;refine eJ k8 ?_;refine(SS p d (f[i]'i6) syms[i].2 m (n.ac c.ac n.lt) (Seq.up y c.ac)).x8 λz o=>?_;have j:((f[i]'i6).1,syms[i].2)=syms[i]:=by rw[w]
   rw[j];refine⟨_,i5,aX (λk=>?_) λk=>?_⟩
   .refine⟨⟨i,i5,?_⟩,c.up o.ac⟩;rw[hU (show(i:Int)>=0 by omega)];have:syms.all (na p)=eX:=yD.2 ⟨_,qe b,by simpa using k⟩;rw[this];rfl
   .refine⟨i+1,j4,⟨i6,?_,c.up o.ac⟩,i6⟩;rw[aG _ _ b,yH,a];simpa using k
  .refine⟨⟨-1,i5,?_⟩,c⟩;rw[qh i6]at a;rw[a];rfl
 .rintro _ m ⟨⟨i,rfl,r⟩,s⟩;exact⟨i,i5,by rw[r],s⟩
theorem aad(l:Sl)(syms:List (Int×Row))(h:f9)(k:eF GH h l syms)(B:i4 syms<=2^30):ai kg 166 #[l] h λv h'=>∃r:Sl,v=r/\Sp h h' [aq 3 r 1 az (syms.map qD)]:=by
 refine ts Tryz.func166 ?_ (xc (xc (x0 [(3,cE),(8,aR)] [(3,4),(5,6),(8,18)])));obtain⟨d,p,z,q⟩:=bM.kI k;have w:=bM.len k;refine an (λt:Nat×Sl=>(t.2,(t.1:Int))) (λt h'=>t.1<=i4 syms/\Sp h h' [aq 3 t.2 1 az ((syms.take t.1).map qD)]) (λt=>i4 syms-t.1) (0,⟨eH,0,0⟩) i5 ⟨js,(Sp.refl h).nil 3 1 az⟩ ?_;rintro⟨i,o⟩ A ⟨D,c⟩;dsimp only at*;refine ae (λe=>?_) (λe=>?_)
 .have b:i<i4 syms:=i6
  obtain⟨s,E⟩:=q i i6 b;refine(Seq.up p c.ac).dO (g:=yv) i i5 i6 (d[i]'i6) i5 ?_;refine c.alloc ag i5 λa y u=>?_;refine u.storeAll ag 1 i5 i5 (yv (d[i]'i6)) i5 i5 i5 i5 λh3 f=>?_;refine⟨(d[i]'i6).1,(f.box 1 i5).cell0 i5,?_⟩;refine f.push ag 0 i5 gz i5 i7 (λ_=>rfl) eZ (d[i]'i6).1 i5 i7 jj λm x j=>?_;refine⟨(i+1,m),j0,⟨i9,?_⟩,i9⟩
  try dsimp only
  rw[aG _ _ b,qP];rw[s]at j;exact j.bO [0]
 .have:i=i4 syms:=i6
  subst this;rw[qL]at c;exact⟨o,i5,c⟩
theorem acW{B:aw}{h0 h:f9}{As:List HP}(f b:Sl)(c d:Row)(H:aa B h0 h (aq 5 b 1 aB d::As))(s:St B h0 As λh=>Rd h f 1 aB c)
  (F:i4 c=i4 d) (G:i4 c<=2^30) {K:f9->Prop} (w:∀h',aa B h0 h' (aq 5 b 1 aB (cB 1 c d)::As)->K h'):
  iu (σ:=Int) (λa v g=>
 Br (decide (a<((f.len:Nat):Int)))
 (∃p:f7,(f.ptr=dB p/\0<=a/\a<((f.len:Nat):Int))/\
 ∃o:Int,f8 g (p.add (a.toNat*1))=dB (xU kb o)/\
 ∃i:f7,(b.ptr=dB i/\0<=a/\a<((b.len:Nat):Int))/\
 ∃j:Int,f8 g (i.add (a.toNat*1))=dB (xU kb j)/\
 ∃a28:f7,(b.ptr=dB a28/\0<=a/\a<((b.len:Nat):Int))/\
 aj kg (qF 5 (xW (dB (a28.add (a.toNat*1)))) (xU kb (qd kb ((qG (qz kb) j^^^(qG (qz kb) o)).toNat:Nat)))) g λ_ q=>
 v (qd ka (a+(1:Int))) q) (K g)) (0:Int) h:=by
 have E:f.len=i4 c:=(s.at [aq 5 b 1 aB d] H).len;refine an (λk:Nat=>(k:Int)) (λk h'=>k<=i4 c/\aa B h0 h' (aq 5 b 1 aB (zc (λx y=>y^^^x) (c.take k) (d.take k)++d.drop k)::As)) (λk=>i4 c-k) 0 i5 ⟨i6,m5⟩ ?_;rintro k A ⟨z,l⟩;have u:=s.at [_] l;refine ae (λe=>?_) (λe=>?_)
 .have r:k<i4 c:=i6
  have m:i4 (zc (λx y=>y^^^x) (c.take k) (d.take k))=k:=jj
  have D:i4 (zc (λx y=>y^^^x) (c.take k) (d.take k)++d.drop k)=i4 d:=by rw[qu,m,q9];omega
  refine u.bm k i5 r _ i5 ?_;have n:(zc (λx y=>y^^^x) (c.take k) (d.take k)++d.drop k)[k]'i6=d[k]:=by rw[zY i6];simp[m]
  refine(l.seq 0 i5 λ_=>rfl).bm k i5 i6 _ i5 ?_;rw[n,mJ];refine l.set ag 0 i5 (λ_=>rfl) i5 k i5 i6 _ i5 i5 i5 λh3 t=>?_;rw[ze,FK F]at t;exact⟨k+1,j4,⟨i6,t⟩,i6⟩
 .have:k=i4 c:=i6
  subst this;rw[qh (qi _),qh i6,qY i6,qI,<-Un]at l;exact w A l
theorem Kc(p:Pm)(seed:Int)(l:Sl)(syms:List (Int×Row))(h:f9)(hl:eF GH h l syms)(Y:i4 syms<=2^18:=by omega):
  ai kg 102 #[ir p,xU ke seed,l] h λv h'=>∃r:Sl,v=.tuple #[r,xU ka (ma p seed syms).2]/\Sp h h' [aq 5 r 1 aB (ma p seed syms).1]:=by
 refine ts Tryz.func102 ?_ (xc (x6 [] [(6,8),(17,25)] (x6 [] [(6,8),(25,31)] (xc (xc (xc (u9 (xc (v7 (ws [(10,cE),(43,aR)] [(10,13),(14,17),(43,81)] (xc (xc (u9 (v7 (xc (xc (u9 (xc (v7 (ws [(54,aR)] [(14,17),(54,77)] (xc (xc (u9 (v7 (xc (xc (v7 (ws [(63,aR)] [(15,17),(63,76)] v6))))) v6)))))) v6)))) v6)))))) v6))))))) (args:=[p,(xU ke (seed:Int)),l]);refine(Sp.refl h).boxed λJ h1 H1=>?_;have q:∀{h':f9} (e:Int),Sp h h' [ak J 25 [xU ka p.1,xU ka p.2.1,xU ka p.2.2]]->ma p seed syms=([],e)->∃r:Sl,(.tuple #[xV eH 0 0,xU ka e]:Value)=.tuple #[r,xU ka (ma p seed syms).2]/\Sp h h' [aq 5 r 1 aB (ma p seed syms).1]:=λe Z he=>by
  rw[he];exact⟨⟨eH,0,0⟩,i5,(Z.nil 5 1 aB).bO [1]⟩
 refine aJ ⟨p,(H1.box 0 i5).aE _ i5,?_⟩;refine(eN p h1).x8 λh2 R2=>?_;have R:=H1.up R2.ac;refine⟨_,i5,aX (λe=>?_) λa=>?_⟩
 .exact q 1 R (by unfold ma;rw[e];rfl)
 refine(SU p J l syms h2 (R.box 0 i5) (eF.up hl R.ac) i6).x8 λh3 R3=>?_;have O:=R.up R3.ac;refine⟨_,i5,aX (λe=>?_) λd=>?_⟩
 .exact q 1 O (by unfold ma;rw[a,e];rfl)
 refine aJ ⟨p,(O.box 0 i5).aE _ i5,?_⟩;refine(aad l syms h3 (eF.up hl O.ac) i6).y0 λr h4 R4=>?_;have H4:=O.comp R4;have A:=H4.box 0 i5;refine⟨r,i5,⟨A.cell0 i5,A.cell i5,A.cell i5,A0⟩,?_⟩;refine(MD p seed r (syms.map qD) h4 (H4.seq 1 i5 λ_=>rfl) jj).x8 λh5 R5=>?_;have L:=(H4.up R5.ac).bO [0];refine⟨_,i5,A0,aX (λe=>?_) λb=>?_⟩
 .exact q 9 L (by unfold ma;rw[a,d,e];rfl)
 have E:∀x∈syms,Bc p x:=λx g=>(QE a).1 (qS.1 d x g);have ah:=(bK p).1 a;have ao:=oW a;have hr:bP (db p seed (syms.map qD))=(bp p).toNat:=by have:=b;unfold eK nV at this;rw[a]at this;simp at this;omega
 refine⟨p,(L.box 0 i5).aE _ i5,?_⟩;refine(acV p seed l syms (bp p).toNat p.2.2.toNat h5 (eF.up hl L.ac) a E i5 i5 Y hr).mono ?_;rintro _ h6 (⟨hc,m,rfl,R6⟩|⟨hc,rfl,R6⟩)
 rotate_left
 .refine⟨(⟨eH,0,0⟩,10),i5,bH (λ_=>q 10 (L.up R6.ac) ?_) λe=>absurd e i7⟩;unfold ma;rw[a,d,b,g9 hc];rfl
 refine⟨(m,0),i5,bH (λe=>absurd i5 e) λ_=>?_⟩;obtain⟨X,hX⟩:=z6 (gQ (bp p).toNat (db p seed (syms.map qD)) (rZ p syms))
 have N:ma p seed syms=(uh p seed X p.1.toNat,0):=by unfold ma;rw[a,d,b,g0 hc,hX];rfl
 have U:aU p.2.2.toNat (rZ p syms):=λx g=>by
  rcases qt.1 g with g|g
  .rw[(w5.1 g).2];simp[aN]
  .obtain⟨y,hy,rfl⟩:=qo.1 g;exact(E y hy).len
 have V:i4 (db p seed (syms.map qD))=i4 (rZ p syms):=by rw[<-VF (n:=(bp p).toNat) (seed:=seed) a i5 E,<-VG (n:=(bp p).toNat) (seed:=seed) (p:=p) (l:=syms) rfl];exact uX
 obtain⟨G,k⟩:=uW V (jr p seed _) U hr;rw[<-hX]at R6 G k;have H6:=(L.comp R6).NV 1 i5;obtain⟨P,Q⟩:=aa.HD H6 1 rfl λ_=>rfl;have ax:=(Q.dZ 1 i5).1.len;have al:=(Q.dZ 1 i5).2.1;refine⟨p.1,(Q.box 0 i5).cell0 i5,?_⟩;rw[N];have M:Sp h h6 [aq 5 ⟨eH,0,0⟩ 1 aB [],ak J 25 [xU ka p.1,xU ka p.2.1,xU ka p.2.2],dn (cG 1 aB) 1 bx m P X]:=(Q.nil 5 1 aB).bO [2,0,1];have K:∀j:Nat,i4 (gx p.2.2.toNat X (df (bp p).toNat seed (j:Int)))=p.2.2.toNat:=λj=>TV k G λx g=>mf i6 i6 g;have H:∀i,i4 (uh p seed X i)=i*p.2.2.toNat:=λi=>by
  induction i with
  |zero=>simp[uh]
  |succ i ih=>rw[MX,qu,ih,K,Nat.succ_mul]
 refine an (λt:Nat×Sl=>(t.2,(t.1:Int))) (λt h'=>t.1<=p.1.toNat/\Sp h h' [aq 5 t.2 1 aB (uh p seed X t.1),ak J 25 [xU ka p.1,xU ka p.2.1,xU ka p.2.2],dn (cG 1 aB) 1 bx m P X]) (λt=>p.1.toNat-t.1) (0,⟨eH,0,0⟩) i5 ⟨i6,by simpa[uh]using M⟩ ?_;rintro⟨i,o⟩ h8 ⟨hi,M⟩;dsimp only at*;refine ae (λe=>?_) (λe=>?_)
 .have ap:i<p.1.toNat:=i6
  refine⟨p.2.2,(M.box 1 i5).cell i5,?_⟩;refine M.make ag aB gm i7 0 i5 i5 p.2.2.toNat p.2.2.toNat i6 i6 (qi _) i6 λsm h9 _ _ H9=>?_;refine⟨p,(H9.box 1 i5).aE _ i5,(Bh p seed (i:Int) h9).y0 λc a0 B=>?_⟩;have T:(bB p&&bE (i:Int))=eS:=by rw[a];unfold bE;simp;omega
  rw[T,g0 rfl]at B;have F:=(H9.comp B).bO [3,0,1,2,4];refine⟨c,i5,?_⟩;generalize D:df (bp p).toNat seed (i:Int)=cs at F B;have u:∀x∈cs,0<=x/\x<((bp p).toNat:Int):=λx g=>mf i6 i6 (D▸g);have am:i4 cs<=20:=by have:=td (n:=(bp p).toNat) i6 i6 seed (i:Int);rw[D]at this;omega
  have ay:=(F.own 4 i5).len;refine an (λj:Nat=>(j:Int)) (λj h'=>j<=i4 cs/\Sp h h' [aq 5 sm 1 aB (gx p.2.2.toNat X (cs.take j)),aq 5 o 1 aB (uh p seed X i),ak J 25 [xU ka p.1,xU ka p.2.1,xU ka p.2.2],dn (cG 1 aB) 1 bx m P X,aq 3 c 1 az cs]) (λj=>i4 cs-j) 0 i5 ⟨i6,F⟩ ?_;rintro j a2 ⟨hj,f⟩;have I:=pV k G u j hj;refine ae (λe2=>?_) (λe2=>?_)
  .have z:j<i4 cs:=i6
   have ar:=u _ (qe z);refine(f.seq 4 i5 λ_=>rfl).bm j i5 z _ i5 ?_;have s:cs[j].toNat<i4 X:=i6
   refine(f.dZ 3 i5).1.mi cs[j].toNat i6 i6 ?_;have ad:i4 (X[cs[j].toNat]'s)=p.2.2.toNat:=k _ (qe _);refine acW (P[cs[j].toNat]'i6) sm (X[cs[j].toNat]'s) _ f (St.mk' λh' Z=>Fix.row (Z.dZ 2 i5) s) (by rw[ad,I]) i6 λW w=>?_;refine⟨j+1,j4,⟨i6,?_⟩,i6⟩;rw[aG _ _ z,CW,mU s];exact w
  .have ab:j=i4 cs:=i6
   subst ab;rw[qL]at f I;refine f.append ag 1 i5 gm PT i5 i7 (λ_=>rfl) (f.seq 0 i5 λ_=>rfl) ib (by rw[H,I];have:i*p.2.2.toNat<=16*24:=zK i6 i6;omega) λo' W w=>?_;refine⟨(i+1,o'),j0,⟨i9,?_⟩,i9⟩
   try dsimp only
   rw[MX,D];exact w.bO [1,2,3]
 .have S:i=p.1.toNat:=i6
  subst S;exact⟨o,i5,M.bO [0]⟩
end Go.Qw
