/- Lemmas for the proof of the law; no condition. -/
import Derived.Test.YtodpiocopjpjpaaGreatDoorKA
import Derived.Test.YtodpiocopjpjpaaGreatDoorShelfB
import Derived.Test.YtodpiocopjpjpaaGreatDoorPlB
set_option maxHeartbeats 2000000
set_option linter.unusedVariables false
set_option maxHeartbeats 2000000
set_option linter.unusedSimpArgs false
open Go.Proofs.Tryz renaming prog -> kg
open List renaming all_cons -> vJ, any_cons -> xw, any_nil -> xF, length -> vw, range -> qn, replicate -> qf, zipWith -> zc
open Go.Value renaming agg -> xZ, bool -> xY, int -> xU, pointer -> xW, slice -> xV, string -> xX
open Go.IntKind renaming bits -> qz, i64 -> ka, signed -> vp, u32 -> ke, u64 -> kf, u8 -> kb, wrap -> qd
open Nat renaming le_of_eq -> xG
open Int renaming tmod -> xO
open Go.Instr renaming storeAt -> qF
open Option renaming some -> wj
open Prod renaming fst -> qD, snd -> zw
set_option maxRecDepth 100000
open Option renaming some -> dB, none -> eH
open Bool renaming true -> eS, false -> eX
open Go renaming Addr -> f7
open Go.Qw renaming cellOf -> f8, Heap -> f9
open List renaming length -> i4
open Go.Qw.cO renaming two -> u9, n -> v6, inn -> v7, loop -> ws, join -> xa, tn -> xc, lp -> x0, jn -> x6
namespace Go.Qw
open Go.Proofs
theorem JC(p:Pm)(h:f9):ai kg 210 #[ir p] h λv h'=>∃r:Sl,v=r/\Sp h h' [aq 3 r 1 az (upto (max 0 (min p.1 16)).toNat)]:=by
 refine ts Tryz.func210 ?_ (xc (xc (x0 [(3,cE),(9,aR)] [(3,5),(9,17)]))) (args:=[p]);refine(Sp.refl h).boxed λa q b=>?_;refine⟨p.1,(b.box 0 i5).cell0 i5,?_⟩;have em:(if(if(16:Int)<p.1 then(16:Int)else p.1)>(0:Int)then(if(16:Int)<p.1 then(16:Int)else p.1)else(0:Int))=((max 0 (min p.1 16)).toNat:Int):=by split<;>split<;>omega
 try dsimp only
 rw[em];generalize u:(max 0 (min p.1 16)).toNat=N;have c:N<=16:=i6
 refine an (λt:Sl×Nat=>(t.1,(t.2:Int))) (λt h'=>t.2<=N/\Sp h h' [emp,aq 3 t.1 1 az (upto t.2)]) (λt=>N-t.2) (⟨eH,0,0⟩,0) i5 ⟨js,(b.fN 0 i5 λ_ _=>trivial).nil 3 1 az⟩ ?_;rintro⟨s,k⟩ m ⟨o,d⟩;dsimp only at*;refine ae (λe=>?_) (λe=>?_)
 .refine d.push ag 1 i5 gz i5 i7 (λ_=>rfl) eZ (k:Int) i5 i7 pt λj h3 g=>?_;refine⟨(j,k+1),j0,⟨i9,?_⟩,i9⟩;have l:upto (k+1)=upto k++[(k:Int)]:=by simp[upto,zt]
  dsimp only;rw[l];exact g
 .have:k=N:=i6
  subst this;exact⟨s,i5,d.take 1 λi A f=>by cases i with|zero=>exact f|succ i=>simp at f⟩
theorem He(p:Pm)(seed:Int)(ids:Sl)(l:av)(h:f9)(D:Rd h ids 1 az l)(L:i4 l<=2^30):ai kg 209 #[ir p,xU ke seed,ids] h λv h'=>∃r:Sl,v=r/\Sp h h' [fB 34 r 1 aB (db p seed l)]:=by
 refine ts Tryz.func209 ?_ (xc (xc (x0 [(7,cE),(15,aR)] [(7,8),(9,11),(15,30)]))) (args:=[p,(xU ke (seed:Int)),ids]);refine(Sp.refl h).boxed λa z x=>?_;refine⟨p,(x.box 0 i5).aE _ i5,(ud p z).mono ?_⟩;rintro v F ⟨r,rfl,J⟩;have y:=x.comp J;refine⟨r,i5,?_⟩;have B:=D.len;let at_:Nat->ct:=λk=>db p seed (l.take k);have h0:(if bB p then bj p.1.toNat p.2.1.toNat else[])=at_ 0:=by simp[at_,db]
 rw[h0]at y;refine an (λt:Sl×Nat=>(t.1,(t.2:Int))) (λt h'=>t.2<=i4 l/\Sp h h' [ak a 25 [xU ka p.1,xU ka p.2.1,xU ka p.2.2],fB 34 t.1 1 aB (at_ t.2)]) (λt=>i4 l-t.2) (r,0) i5 ⟨js,y⟩ ?_;rintro⟨s,k⟩ h3 ⟨O,j⟩;dsimp only at*;refine ae (λe=>?_) (λe=>?_)
 .have d:k<i4 l:=i6
  refine(Seq.up D j.ac).bm k i5 d _ i5 ?_;refine⟨p,(j.box 0 i5).aE _ i5,(PN p seed l[k] h3).y0 λw N ⟨H,c⟩=>?_⟩;have u:=(j.comp H).freeze 2 i5 λ_=>rfl;refine⟨w,i5,?_⟩;have o:i4 (at_ k)<=4+k∨at_ k=[]:=by
   by_cases q:bB p
   .left;have:=(bK p).1 q;have z:=qE bE (l.take k);have F:=List.length_take_le k l;simp only[at_,db,q,if_true,qu,qp,bj,zq];omega
   .right;simp[at_,db,q]
  have g:i4 (at_ k)+1<=2^32:=by
   rcases o with h|h
   .omega
   .rw[h];simp
  try dsimp only
  refine aX (λf=>?_) (λf=>?_)
  .rw[c]at f;have b:(bB p&&bE l[k])=eS:=t7
   rw[b,g0 rfl]at u;refine u.pj ag 1 2 i7 i5 i5 fh g λK M G=>?_;refine⟨(K,k+1),j0,⟨i9,?_⟩,i9⟩;rw[qx]at b;have m:at_ (k+1)=at_ k++[ly (bp p).toNat seed l[k]]:=by simp only[at_,db,b.1,if_true];rw[oU d,g0 b.2,qP,qm];rfl
   try dsimp only
   rw[m];exact G.del 2
  .rw[c]at f;have b:(bB p&&bE l[k])=eX:=by
    cases hh:(bB p&&bE l[k])with
    |false=>rfl
    |true=>rw[hh]at f;cases f
   refine⟨(s,k+1),j0,⟨i9,?_⟩,i9⟩;have m:at_ (k+1)=at_ k:=by
    simp only[at_,db];rw[Bool.and_eq_false_iff]at b;rcases b with h|h
    .simp[h]
    .have I:(l.take (k+1)).filter bE=(l.take k).filter bE:=by rw[oU d,g9 tr]
     rw[I]
   try dsimp only
   rw[m];exact u.del 2
 .refine⟨s,i5,?_⟩;have m:at_ k=db p seed l:=by simp only[at_];rw[qh i6]
  rw[m]at j;exact j.take 1 (λi A E=>by cases i with|zero=>exact E|succ i=>simp at E)
theorem nB(a:Sl)(m:aO)(n:Nat)(h:f9)(d:fm h a 1 aB m)(g:aU n m)(l:n<=64:=by omega)(q:i4 m<=2^30:=by omega):ai kg 261 #[a] h λv h'=>v=xY eS/\h'=h:=by
 refine ts Tryz.func261 ?_ (xc (x0 [(7,aR)] [(2,3),(4,5),(7,24)]));have s:=d.len;refine an (λk:Nat=>(k:Int)) (λk h'=>h'=h/\k<=i4 m) (λk=>i4 m-k) 0 i5 ⟨i5,i6⟩ ?_;rintro k h' ⟨rfl,o⟩;refine ae (λe=>?_) λe=>⟨i5,i5⟩;have c:k<i4 m:=i6
 refine d.get k i5 c λr i=>?_;refine d.get 0 i5 i6 λp b=>?_;have j:=i.len;have f:=b.len;rw[g _ (qe _)]at j f;refine bH (λe=>i6) λ_=>ae (λe=>i6) λ_=>?_;exact⟨k+1,j4,⟨i5,i6⟩,i6⟩
theorem Ao(a:Sl)(m:aO)(n:Nat)(h:f9)(d:fm h a 1 aB m)(i:aU n m)(z:n<=64:=by omega)(E:i4 m<=2^30:=by omega):ai kg 263 #[a] h λv h'=>∃(r:Sl) (rs:List Sl),v=r/\rs.length=i4 m/\Sp h h' (aq 34 r 1 bx rs::bu 5 1 aB rs m):=by
 refine ts Tryz.func263 ?_ (xc (xc (x0 [(3,cE),(11,aR)] [(3,4),(5,6),(11,21)])));have F:=d.len;refine(Sp.refl h).make ag bx fh i7 ⟨eH,0,0⟩ i5 i5 0 m.length i5 i6 i6 i6 λs D p A k=>?_;refine an (λt:Sl×List Sl=>(t.1,(i4 t.2:Int))) (λt h'=>i4 t.2<=i4 m/\Sp h h' (aq 34 t.1 1 bx t.2::bu 5 1 aB t.2 (m.take t.2.length))) (λt=>i4 m-i4 t.2) (s,[]) i5 ⟨js,by simpa[bu]using k⟩ ?_;rintro⟨s,rs⟩ f ⟨B,c⟩;dsimp only at*;refine ae (λe=>?_) (λe=>?_)
 .have b:i4 rs<i4 m:=i6
  refine(d.up c.ac).get rs.length i5 b λr l=>?_;have g:m[i4 rs].length=n:=i _ (qe _);refine(fq r _ f l i6).y0 λw h3 j=>?_;have o:=c.comp j;refine⟨w,i5,?_⟩;refine o.push ag 0 i5 fh i5 i7 (λ_=>rfl) jN w i5 i7 i6 λq y u=>?_;refine⟨(q,rs++[w]),by dsimp only;rw[af _];simp,⟨jj,?_⟩,jj⟩
  try dsimp only
  rw[show(rs++[w]).length=i4 rs+1 by simp,aG _ _ b,pJ (by rw[List.length_take];omega)];exact u
 .have x:m.take rs.length=m:=qh i6;rw[x]at c;exact⟨s,rs,i5,i6,c⟩
theorem sj(a:Sl)(m:aO)(h:f9)(b:fm h a 1 aB m):ai kg 262 #[a] h λv h'=>v=xU ka (dF m)/\h'=h:=by
 refine ts Tryz.func262 ?_;have d:=b.len;refine aY (λe=>?_) (λe=>?_)
 .have:m=[]:=qU i6;subst this;exact⟨i5,i5⟩
 .refine b.get 0 i5 i6 λr c=>⟨?_,i5⟩
  rw[c.len,dF,bv i6]
theorem Cm{r:Row}{c:Nat}(h:c<i4 r:=by omega):aM r c=r[c]:=by rw[aM,qg,qc h];rfl
theorem Sn(a:Sl)(m:aO)(n b bg:Nat)(h:f9)(q:fm h a 1 aB m)(s:aU n m)(x:bg<n)(y:i4 m<=2^30):
  ai kg 325 #[a,xU ka b,xU ka bg] h λv h'=>v=xU ka (match iJ m b bg with|some i=>(i:Int)|none=>-1)/\h'=h:=by
 refine ts Tryz.func325 ?_ (xc (.scope 0 [(7,aR)] [(6,8),(9,24)] [v6] [v6] [(1,[v6])]));have z:=q.len;refine an (λk:Nat=>(k:Int)) (λk h'=>h'=h/\b<=k/\k<=max b m.length/\∀j,j<k->(decide (b<=j)&&(aM (aC m j) bg !=0))=eX) (λk=>i4 m-k) b i5 ⟨i5,i6,i6,λj g=>by rw[ii i6];rfl⟩ ?_;rintro k h' ⟨rfl,o,w,g⟩;refine ae (λe=>?_) (λe=>?_)
 .rw[iJ,Jd λj f=>g j i6];exact⟨i5,i5⟩
 .have d:k<i4 m:=i6
  have t:m[k].length=n:=s _ (qe _);refine q.get k i5 d λr u=>?_;refine u.bm bg i5 i6 _ i5 ?_;have c:aM (aC m k) bg=m[k][bg]'i6:=by rw[bv d,Cm]
  refine bH (λp=>?_) (λp=>?_)
  .have l:(decide (b<=k)&&(aM (aC m k) bg !=0))=eS:=by rw[hU o,c];simp;exactλh0=>p (by rw[h0];rfl)
   rw[iJ,Vk d g l];exact⟨i5,i5⟩
  .refine⟨k+1,j4,⟨i5,i6,i6,λj f=>?_⟩,i6⟩;rcases Nat.lt_succ_iff_lt_or_eq.1 f with h1|rfl
   .exact g j h1
   .rw[c,uc.1 p];simp
theorem JD(f:f7)(c:UInt8)(a:Sl)(l:Row)(h:f9)(m:gn h f)(j:Rd h a 1 aB l)(A:i4 l<=2^30):ai kg 326 #[xW (dB f),xU kb c.toNat,a] h λv h'=>∃r:Sl,v=r/\Sp h h' [aq 5 r 1 aB (scaleB c l)]:=by
 refine ts Tryz.func326 ?_ (xc (xc (xc (x0 [(17,aR)] [(8,10),(17,30)]))));have B:=j.len;refine(Nt f h).mono ?_;rintro v i ⟨rfl,rfl⟩;refine⟨dB f,i5,?_⟩;refine(Sp.refl i).make ag aB gm i7 0 i5 i5 l.length l.length i6 i6 (qi _) i6 λs x q y p=>?_;refine an (λk:Nat=>(k:Int)) (λk h'=>k<=i4 l/\Sp i h' [aq 5 s 1 aB ((l.take k).map (Gf.mul c)++qf (i4 l-k) 0)]) (λk=>i4 l-k) 0 i5 ⟨i6,by simpa using p⟩ ?_;rintro k h3 ⟨z,b⟩;refine ae (λe=>?_) (λe=>?_)
 .have d:k<i4 l:=i6
  refine(Seq.up j b.ac).bm k i5 d _ i5 ?_;refine(Im f c l[k] h3 (m.ac b.ac m.lt)).x7 ⟨_,i5,?_⟩;refine b.set ag 0 i5 (λ_=>rfl) i5 k i5 jj _ i5 i5 i5 λu o=>?_;refine⟨k+1,j4,⟨i6,?_⟩,i6⟩;have g:i4 ((l.take k).map (Gf.mul c))=k:=jj
  have t:((l.take k).map (Gf.mul c)++qf (i4 l-k) 0).set k (Gf.mul c l[k])=(l.take (k+1)).map (Gf.mul c)++qf (i4 l-(k+1)) 0:=by rw[qN _ _ i6,g,za,show l.length-k=i4 l-(k+1)+1 by omega,List.replicate_succ,ze,aG _ _ d,qP,qm];rfl
  rw[<-t];exact o
 .have:k=i4 l:=i6
  subst this;refine⟨s,i5,?_⟩;rw[qh (qi _),za,List.replicate_zero,qI]at b;exact b
theorem Ap{c:UInt8}{a t:Row}(d:i4 a=i4 t){k:Nat}(b:k<i4 t):(zc (λx y=>y^^^Gf.mul c x) (a.take k) (t.take k)++t.drop k).set k (t[k]^^^Gf.mul c (a[k]'i6))=zc (λx y=>y^^^Gf.mul c x) (a.take (k+1)) (t.take (k+1))++t.drop (k+1):=by
 have e:i4 (zc (λx y=>y^^^Gf.mul c x) (a.take k) (t.take k))=k:=jj
 rw[qN _ _ i6,e,za,qJ b,ze,aG _ _ b,aG _ _ (show k<i4 a by omega),yZ jj];simp
theorem acs(f:f7)(c:UInt8)(a l:Sl)(d lt:Row)(h:f9)(I:gn h f)(z:¬l.on f.block)(D:Seq h (λb=>¬l.on b) a 1 aB d)(t:Own h 5 l 1 aB lt)(r:i4 d=i4 lt)(K:i4 d<=2^30):
  ai kg 328 #[xW (dB f),xU kb c.toNat,a,l] h λv h'=>v=.tuple #[]/\Own h' 5 l 1 aB (cB c d lt)/\aS (λb=>¬l.on b) h h':=by
 refine ts Tryz.func328 ?_ (xc (xc (v7 (ws [(14,aR)] [(8,10),(14,30)] v6))));have L:=D.len;have G:=t.len;refine aY (λe=>?_) (λ_=>?_)
 .have F:c=0:=uc.1 e;subst F;have:cB 0 d lt=lt:=by apply List.ext_getElem (by rw[bR r]);intro i B E;simp[cB,Gf.zero_mul]
  exact⟨i5,by rw[this];exact t,aS.refl _ _⟩
 .refine an (λk:Nat=>(k:Int)) (λk h'=>k<=i4 d/\Own h' 5 l 1 aB (zc (λx y=>y^^^Gf.mul c x) (d.take k) (lt.take k)++lt.drop k)/\aS (λb=>¬l.on b) h h') (λk=>i4 d-k) 0 i5 ⟨i6,sz,aS.refl _ _⟩ ?_;rintro k B ⟨J,g,j⟩;refine ae (λe=>?_) (λe=>?_)
  .have w:k<i4 d:=i6
   have s:k<i4 lt:=i6
   have m:i4 (zc (λx y=>y^^^Gf.mul c x) (d.take k) (lt.take k))=k:=jj
   have H:i4 (zc (λx y=>y^^^Gf.mul c x) (d.take k) (lt.take k)++lt.drop k)=i4 lt:=by rw[qu,m,List.length_drop];omega
   refine(D.ac j).bm k i5 w _ i5 ?_;have q:(zc (λx y=>y^^^Gf.mul c x) (d.take k) (lt.take k)++lt.drop k)[k]'i6=lt[k]:=by rw[List.getElem_append_right i6];simp[m]
   refine(g.seq (p:=λ_=>True) (λ_=>rfl) λ_ _=>trivial).IZ k i5 i6 _ i5 λax o=>?_;rw[q]at o⊢;refine(Im f c d[k] B (I.ac j z)).x7 ⟨_,i5,⟨o,A0⟩,?_⟩
   try dsimp only
   rw[mJ];refine g.set ag (λ_=>rfl) i5 k i5 i6 _ i5 i5 i5 λh3 A u _=>⟨A0,?_⟩
   refine⟨k+1,j4,⟨i6,?_,j.trans u⟩,i6⟩;rw[<-Ap r s];exact A
  .have:k=i4 d:=i6
   subst this;rw[qh (qi _),qh i6,qY i6,qI]at g;exact⟨i5,g,j⟩
abbrev lD(a:Sl)(rs:List Sl)(m:aO):List HP:=aq 34 a 1 bx rs::bu 5 1 aB rs m
theorem lV{a:Sl}{rs:List Sl}{m:aO}(b:i4 rs=i4 m)(i:Nat)(c:i<i4 m):(lD a rs m)[i+1]?=dB (aq 5 (rs[i]'i6) 1 aB m[i]):=by rw[qO];exact fo b i c
theorem mS{h h':f9}{a:f7}{v:Value}(c:f8 h a=dB v)(d:aS (λb=>b<h.size) h h'):f8 h' a=dB v:=d.cell (uo c) c
theorem Zd{B:aw}{h0:f9}{f:f7}(J:gn h0 f)(F:B f.block){a:Sl}{n c bg:Nat}{rs:List Sl}{m:aO}(hl:i4 rs=i4 m)(T:aU n m)(hc:bg<n)(hn:n<=64)(W:c<i4 m)(hs:i4 m<=2^30)
  {h:f9} (H:aa B h0 h (lD a rs m)) {K:f9->Prop} (hk:∀h',aa B h0 h' (lD a rs (dD c bg m m.length))->K h'):
 iu (σ:=Int) (λd U i=>
 Br (decide (d<((a.len:Nat):Int)))
 (Br (d !=(c:Int))
 (∃x:f7,(a.ptr=dB x/\0<=d/\d<((a.len:Nat):Int))/\
 ∃g:Sl,f8 i (x.add (d.toNat*1))=dB (xV g.ptr g.len g.cap)/\
 ∃E:f7,(g.ptr=dB E/\0<=(bg:Int)/\(bg:Int)<((g.len:Nat):Int))/\
 ∃D:Int,f8 i (E.add ((bg:Int).toNat*1))=dB (xU kb D)/\
 ∃a25:f7,(a.ptr=dB a25/\0<=(c:Int)/\(c:Int)<((a.len:Nat):Int))/\
 ∃j:Sl,f8 i (a25.add ((c:Int).toNat*1))=dB (xV j.ptr j.len j.cap)/\
 ∃G:f7,(a.ptr=dB G/\0<=d/\d<((a.len:Nat):Int))/\
 ∃l:Sl,f8 i (G.add (d.toNat*1))=dB (xV l.ptr l.len l.cap)/\
 pH kg 328 #[(xW (dB f)),(xU kb D),(xV j.ptr j.len j.cap),(xV l.ptr l.len l.cap)] (.many []) i λ_ I=>
 (bQ.ok [(x.add (d.toNat*1),(xV g.ptr g.len g.cap))] I)/\
 U (qd ka (d+(1:Int))) I)
 (U (qd ka (d+(1:Int))) i))
 (K i)) (0:Int) h:=by
 have ab:a.len=i4 m:=by rw[(H.own 0 i5).len,hl]
 refine an (λk:Nat=>(k:Int)) (λk h'=>k<=i4 m/\aa B h0 h' (lD a rs (dD c bg m k))) (λk=>i4 m-k) 0 i5 ⟨i6,by rw[LV];exact H⟩ ?_;rintro k X ⟨ad,o⟩;have R:=nh c bg m k;have w:i4 rs=i4 (dD c bg m k):=by rw[R];exact hl
 refine ae (λe=>?_) (λe=>?_)
 .have u:k<i4 m:=i6
  refine bH (λZ=>?_) (λZ=>?_)
  .have r:k≠c:=λhh=>Z (by rw[hh]);have O:aC (dD c bg m k) k=aC m k:=by rw[ni u,g9 i6]
   have P:aC (dD c bg m k) c=aC m c:=by rw[ni W,g9 i6]
   have e4:(dD c bg m k)[k]'i6=aC m k:=by rw[<-O,bv]
   have e5:(dD c bg m k)[c]'i6=aC m c:=by rw[<-P,bv]
   have t:=lV (a:=a) w k i6;have Y:=lV (a:=a) w c i6;rw[e4]at t;rw[e5]at Y;have lk:=ci T u;have lt:=ci T W;have q:=o.off (k+1) 0 i6 t i5;have s:=q.1.seq (λ_=>rfl) q.2;refine s.jS k i5 i6 λa1 M N=>?_;have S:=o.seq (k+1) t λ_=>rfl;refine S.bm bg i5 i6 _ i5 ?_;refine s.jS c i5 i6 λ_ _ _=>?_;refine s.jS k i5 i6 λ_ _ _=>?_;have A:(tO (rs[c]'i6) 1 aB (aC m c)).p X (λb=>¬(rs[k]'i6).on b):=by have:=o.off (k+1) (c+1) i6 t Y;exact(this.1.seq (λ_=>rfl) this.2).mono λb hb=>hb.2
   refine(acs f _ _ _ (aC m c) (aC m k) X (J.ac o.ac F) (o.base (k+1) t F) A (o.own (k+1) t) i6 i6).x8 λh2 ⟨Q,y⟩=>?_;have V:=o.nQ (k+1) t y Q;have L:=y.cell N.2 M;refine⟨(),i5,⟨L,A0⟩,?_⟩;refine⟨k+1,j4,⟨i6,?_⟩,i6⟩;rw[Ex u r];show aa B h0 h2 (aq 34 a 1 bx rs::bu 5 1 aB rs ((dD c bg m k).set k _));rw[<-OJ w k i6];have z:(aC m k)[bg]'i6=aM (aC m k) bg:=(Cm).symm;rw[z]at V;exact V
  .have r:k=c:=i6
   subst r;exact⟨k+1,j4,⟨i6,by rw[LW];exact o⟩,i6⟩
 .have:k=i4 m:=i6
  subst this;exact hk _ o
theorem Fl{rs:List Sl}{m:aO}(a:i4 rs=i4 m)(i j:Nat)(c:i<i4 m)(b:j<i4 m):
  ((bu 5 1 aB rs m).set i (aq 5 (rs[j]'i6) 1 aB m[j])).set j (aq 5 (rs[i]'i6) 1 aB m[i])=bu 5 1 aB ((rs.set i (rs[j]'i6)).set j (rs[i]'i6)) (gW m i j):=by
 rw[je a,je l7,gW,bv c,bv b]
theorem BF{B:aw}{h0:f9}{f:f7}(Q:gn h0 f)(P:B f.block){a:Sl}{n dh:Nat}{rs:List Sl}{m:aO}(hl:i4 rs=i4 m)(hm:aU n m)(hc:dh<=n)(hn:n<=64)(hs:i4 m<=2^30)
  {h:f9} (H:aa B h0 h (lD a rs m)):ai kg 264 #[xW (dB f),a,xU ka dh] h λv h'=>
   ∃O:List Sl,v=xU ka (bD m dh).1/\O.length=i4 m/\aa B h0 h' (lD a O (bD m dh).2):=by
 have ao:a.len=i4 m:=by rw[(H.own 0 i5).len,hl]
 refine ts Tryz.func264 ?_ (xc (xc (u9 (xc (v7 (ws [(7,aR),(12,aR)] [(7,11),(12,82)] (xc (xc (u9 (v7 (xc (xc (xc (x6 [] [(21,35)] (x6 [] [(35,53)] (x0 [(55,aR)] [(10,11),(55,79)]))))))) v6)))))) v6))) [(8,(.l [0,1,2,3,4,5,6,7,8,9,10,12,13,14,15,11,16,17,18]))];refine an (λt:List Sl×Nat=>(((bD m t.2).1:Int),(t.2:Int))) (λt h'=>t.2<=dh/\t.1.length=i4 m/\aa B h0 h' (lD a t.1 (bD m t.2).2)) (λt=>dh-t.2) (rs,0) i5 ⟨js,hl,H⟩ ?_;rintro⟨c,bg⟩ h1 ⟨hk,U,K⟩;dsimp only at*;have w:=gA hm bg;have z:=pO m bg;obtain⟨st,y⟩:=z6 (bD m bg)
 rw[<-y]at w z K⊢;obtain⟨b,o⟩:=st;dsimp only at w z K⊢;have u:i4 c=i4 o:=i6
 have g:bD m (bg+1)=il (b,o) bg:=by rw[bD,<-y]
 refine ae (λe=>?_) (λe=>?_)
 .have S:bg<n:=i6
  have N:fm h1 a 1 aB o:=K.IY u λ_=>rfl;refine(Sn a o n b bg h1 N w.1 S i6).mono ?_;rintro v h2 ⟨rfl,rfl⟩;refine⟨_,i5,?_⟩
  try dsimp only
  cases hb:iJ o b bg with
  |none=>
   refine ae (λ_=>?_) λY=>absurd i7 Y;refine⟨(c,bg+1),?_,⟨i9,U,?_⟩,i9⟩
   ·(try dsimp only);rw[g,il,hb,af _];rfl
   ·(try dsimp only);rw[g,il,hb];exact K
  |some i=>
   have hh:=oA hb;refine ae (λY=>absurd (show((i:Nat):Int)<0 from Y) i6) (λ_=>?_)
   try dsimp only
   have J:b<i4 o:=i6
   have hi:=hh.2.1;have L:=K.seq 0 i5 λ_=>rfl;refine aJ ?_;refine L.jS i i5 i6 λ_ _ _=>?_;refine L.jS b i5 i6 λ_ _ _=>?_;refine K.set ag 0 i5 (λ_=>rfl) i5 b i5 i6 (c[i]'i6) i5 i5 i5 λh3 H3=>⟨A0,?_⟩
   refine H3.set ag 0 i5 (λ_=>rfl) i5 i i5 jj (c[b]'i6) i5 i5 i5 λW H4=>⟨A0,?_⟩
   have p:aa B h0 W (lD a ((c.set b (c[i]'i6)).set i (c[b]'i6)) (gW o b i)):=by have:=H4.Ve (b+1) (i+1) (A:=aq 5 (c[b]'i6) 1 aB o[b]) (A2:=aq 5 (c[i]'i6) 1 aB o[i]) (fo u b J) (fo u i hi);show aa B h0 W (aq 34 a 1 bx _::bu 5 1 aB _ _);rw[<-Fl u b i J hi];exact this
   obtain⟨k,E⟩:=z6 ((c.set b (c[i]'i6)).set i (c[b]'i6))
   rw[<-E]at p;have ah:i4 k=i4 o:=by rw[E];simp;omega
   obtain⟨d,x⟩:=z6 (gW o b i)
   have G:aU n d:=by rw[x];exact AS w.1 J hi
   have R:i4 d=i4 o:=by rw[x];exact kV _ _ _
   rw[<-x]at p;have s:i4 k=i4 d:=i6
   have j:b<i4 d:=i6
   refine aJ ?_;have gt:=lV (a:=a) s b j;have lt:d[b].length=n:=G _ (qe _);have V:=p.seq 0 i5 λ_=>rfl;refine V.jS b i5 i6 λam D _=>?_;have F:=p.seq (b+1) gt λ_=>rfl;refine F.bm bg i5 i6 _ i5 ?_;refine V.jS b i5 i6 λal M _=>?_;have T:gn W f:=Q.ac p.ac P;refine(acp f _ W T).mono ?_;rintro v h5 ⟨rfl,rfl⟩;refine⟨_,i5,⟨M,D,A0⟩,?_⟩;refine(JD f _ _ _ h5 T F i6).y0 λr h6 R6=>⟨r,i5,⟨mS D R6.ac,A0⟩,?_⟩;have H6:=p.comp R6
   try dsimp only
   refine H6.set ag 0 i5 (λ_=>rfl) i5 b i5 i6 r i5 i5 i5 λZ H7=>⟨A0,?_⟩
   have X:d[b]=aC d b:=(bv j).symm;have ab:(d[b])[bg]'i6=aM (aC d b) bg:=by rw[Cm (by rw[bv j];omega)];simp only[bv j]
   have ad:aa B h0 Z (lD a (k.set b r) (jA b bg d)):=by have h8:aa B h0 Z ((aq 34 a 1 bx (k.set b r)::bu 5 1 aB k d)++[aq 5 r 1 aB (scaleB (Gf.inv ((d[b])[bg]'i6)) d[b])]):=H7;have h9:=h8.OI (b+1) (by simp[jd s];omega);rw[ab,X]at h9;show aa B h0 Z (aq 34 a 1 bx _::bu 5 1 aB _ (d.set b _));rw[<-je s];exact h9
   have I:i4 (jA b bg d)=i4 d:=ng _ _ _;refine Zd Q P jj (te G j) S hn i6 i6 ad λh8 H8=>?_;have q:il (b,o) bg=(b+1,dD b bg (jA b bg d) o.length):=by rw[il];(try dsimp only);rw[hb,x]
   refine⟨(k.set b r,bg+1),?_,⟨i9,jj,?_⟩,i9⟩
   ·(try dsimp only);rw[g,q,af _,af _];rfl
   ·(try dsimp only);rw[g,q];rw[I,R]at H8;exact H8
 .have:bg=dh:=i6
  subst this;exact⟨c,by rw[<-y],U,by rw[<-y];exact K⟩
theorem Hg(f:f7)(a:Sl)(m:aO)(n:Nat)(h:f9)(w:gn h f)(u:fm h a 1 aB m)(g:aU n m)(j:n<=64)(q:i4 m<=2^30):
  ai kg 310 #[xW (dB f),a] h λv h'=>∃(r:Sl) (rs:List Sl),v=r/\r.len=bP m/\rs.length=i4 m/\r.len<=i4 m/\Sp h h' (lD ⟨r.ptr,i4 m,r.cap⟩ rs (bD m (dF m)).2):=by
 refine ts Tryz.func310 ?_;refine(nB a m n h u g j q).mono ?_;rintro v D ⟨rfl,rfl⟩;refine⟨_,i5,aX (λe=>j3) λ_=>?_⟩;refine(Ao a m n D u g j q).mono ?_;rintro v A ⟨r,rs,rfl,z,y⟩;refine⟨r,i5,(ub f A).mono ?_⟩;rintro v h3 ⟨rfl,rfl⟩;refine⟨dB f,i5,(sj r m h3 (y.IY z λ_=>rfl)).mono ?_⟩;rintro v F ⟨rfl,rfl⟩;have B:dF m<=n:=by
  cases m with
  |nil=>simp[dF,aC]
  |cons x t=>rw[dF,bv js];exact xG (g _ js)
 refine⟨_,i5,(BF w w.lt z g B j q y).y0 λk E ⟨i,o⟩=>?_⟩;have d:=pO m (dF m);rw[(gA g _).2]at d;have s:=(o.own 0 i5).cap;have b:=(o.own 0 i5).len;refine⟨_,i5,⟨zP _,yU.2 (show(bD m (dF m)).1<=r.cap by omega)⟩,⟨r.ptr,(bD m (dF m)).1,r.cap⟩,k,js,i5,i,d,?_⟩;have:r=⟨r.ptr,i4 m,r.cap⟩:=by obtain⟨p,l,c⟩:=r;simp only at b⊢;rw[<-i,<-b]
 rw[<-this];exact o
theorem Ze(f:f7)(a:Sl)(m:aO)(n:Nat)(h:f9)(i:gn h f)(g:fm h a 1 aB m)(c:aU n m)(d:n<=64)(j:i4 m<=2^30):
  ai kg 282 #[xW (dB f),a] h λv h'=>v=xU ka (bP m)/\Sp h h' []:=by
 refine ts Tryz.func282 ?_;refine(Hg f a m n h i g c d j).mono ?_;rintro v k ⟨r,rs,rfl,e,_,_,b⟩;exact⟨r,i5,by rw[e],.zip b.ac⟩
theorem Io(p:Pm)(seed:Int)(ids:Sl)(l:av)(h:f9)(t:Rd h ids 1 az l)(u:i4 l<=2^29):ai kg 223 #[ir p,xU ke seed,ids] h λv h'=>v=xU ka (nV p seed l)/\Sp h h' []:=by
 refine ts Tryz.func223 ?_ v6 [(1,(.l [1,2,3,0,4,5,6]))] (args:=[p,(xU ke (seed:Int)),ids]);refine(Sp.refl h).boxed λa m g=>?_;refine⟨p,(g.box 0 i5).aE _ i5,(rx m).mono ?_⟩;rintro v i ⟨f,rfl,o⟩;have c:=g.comp o;have e:=c.box 0 i5;refine⟨dB f,i5,⟨e.cell0 i5,e.cell i5,e.cell i5,A0⟩,?_⟩;refine(He p seed ids l i (Seq.up t c.ac) i6).mono ?_;rintro v h3 ⟨r,rfl,j⟩;have b:=c.comp j;refine⟨r,i5,A0,?_⟩;have q:=HQ p seed l;have d:(bp p).toNat<=64:=by
  unfold bp;split
  .rename_i s;have:=(bK p).1 s;omega
  .omega
 refine(Ze f r _ _ h3 (b.box 1 i5) (b.DJ 2 i5) (jr p seed l) d i6).x8 λw k=>⟨_,i5,A0,i5,.zip (b.comp k).ac⟩
theorem MD(p:Pm)(seed:Int)(ids:Sl)(l:av)(h:f9)(r:Rd h ids 1 az l)(d:i4 l<=2^29):ai kg 165 #[ir p,xU ke seed,ids] h λv h'=>v=xY (eK p seed l)/\Sp h h' []:=by refine ts Tryz.func165 ?_ v6 [(1,(.l [0,1,2,3,4,5,7,6,8,9,10,11]))] (args:=[p,(xU ke (seed:Int)),ids]);refine(Sp.refl h).boxed λa o f=>?_;refine⟨p,(f.box 0 i5).aE _ i5,(eN p o).mono ?_⟩;rintro v j ⟨rfl,q⟩;have c:=f.comp q;refine⟨_,i5,A0,aP (λe=>?_) λe=>⟨A0,A0,u6,.zip c.ac⟩⟩;have i:=c.box 0 i5;refine⟨p,i.aE _ i5,p,i.aE _ i5,(Io p seed ids l j (Seq.up r c.ac) d).mono ?_⟩;rintro v h3 ⟨rfl,k⟩;have g:=c.comp k;have b:=g.box 0 i5;refine⟨_,i5,⟨b.cell0 i5,b.cell i5,b.cell i5,A0⟩,(kS p h3).x8 λs m=>?_⟩;exact⟨_,i5,A0,u6,.zip (g.comp m).ac⟩
theorem JE(p:Pm)(seed:Int)(h:f9):ai kg 206 #[ir p,xU ke seed] h λv h'=>v=xY (eK p seed (fj p))/\Sp h h' []:=by refine ts Tryz.func206 ?_ (args:=[p,(xU ke (seed:Int))]);refine(Sp.refl h).boxed λa f d=>?_;have e:=d.box 0 i5;refine⟨p,e.aE _ i5,p,e.aE _ i5,(JC p f).mono ?_⟩;rintro v i ⟨r,rfl,g⟩;have c:=d.comp g;have b:=c.box 0 i5;refine⟨r,i5,⟨b.cell0 i5,b.cell i5,b.cell i5,A0⟩,(MD p seed r _ i (c.seq 1 i5 λ_=>rfl) pt).x8 λh3 j=>?_⟩;exact⟨_,i5,A0,i5,.zip (c.comp j).ac⟩
theorem act(p:Pm)(o b:Int)(h:f9):ai kg 147 #[ir p,xU ka o,xU ka b] h λv h'=>
  v=.tuple #[xU ka (((nA p o b).getD 0:Nat):Int),xY (nA p o b).isSome]/\Sp h h' []:=by
 refine ts Tryz.func147 ?_ (xc (x0 [(9,aR)] [(6,20)])) (args:=[p,(o:Int),(b:Int)]);refine(Sp.refl h).boxed λy E x=>?_;refine an (λi:Nat=>(i:Int)) (λi h'=>i<=16/\(∀k,k<i->Dk p o b k=eX)/\Sp h h' [ak y 25 [xU ka p.1,xU ka p.2.1,xU ka p.2.2]]) (λi=>16-i) 0 i5 ⟨i6,λk f=>absurd f (Nat.not_lt_zero k),x⟩ ?_;rintro i w ⟨F,c,q⟩;refine ae (λe=>?_) λe=>?_
 .have B:i<16:=i6
  have a:=q.box 0 i5;refine⟨p,a.aE _ i5,(rp _ _ _ w).mono ?_⟩;rintro _ h3 ⟨rfl,rfl⟩;refine⟨_,i5,⟨a.cell0 i5,a.cell i5,a.cell i5,A0⟩,(JE p _ h3).x8 λD A=>?_⟩;have u:=q.up A.ac;refine⟨_,i5,A0,aP (λg=>?_) λg=>?_⟩
  .have r:nA p o b=dB i:=by
    unfold nA;refine List.find?_eq_some_iff_append.2 ⟨g,qn i,(qn (15-i)).map (·+(i+1)),?_,λk f=>?_⟩
    .apply zp;intro j;by_cases t:j<i
     .rw[qq sz,zI i6,zI t]
     .rw[qk jj,zq];by_cases m:j=i
      .subst m;rw[za,zI i6];rfl
      .obtain⟨d,z⟩:∃d,j=i+(d+1):=⟨j-i-1,i6⟩
       subst z;rw[wG,qO,qR];by_cases l:d<15-i
       .rw[zI l,zI i6];simp;omega
       .rw[zd jj,zd jj];rfl
    .rw[c k (qK.1 f)];rfl
   rw[r];exact⟨i5,.zip u.ac⟩
  .refine⟨i+1,j4,⟨i6,λk f=>?_,u⟩,i6⟩;by_cases s:k<i
   .exact c k s
   .have:k=i:=i6
    subst this;exact g
 .have r:nA p o b=eH:=by unfold nA;rw[List.find?_eq_none];intro k f;rw[c k (by have:=qK.1 f;omega)];simp
  rw[r];exact⟨i5,.zip q.ac⟩
theorem Wa(p:Pm)(o:Int)(n:Nat)(h:f9)(F:n<=2^30):ai kg 91 #[ir p,xU ka o,xU ka n] h λv h'=>
  (cW p o n=eH->v=.tuple #[xV eH 0 0,xY eX]/\Sp h h' [])/\
  (∀l,cW p o n=dB l->∃r:Sl,v=.tuple #[r,xY eS]/\Sp h h' [aq 3 r 1 az l]):=by
 refine ts Tryz.func91 ?_ (xc (xc (x0 [(8,cE),(13,aR)] [(6,12),(13,30)]))) (args:=[p,(o:Int),(n:Int)]);refine(Sp.refl h).boxed λz H d=>?_;have d:=(d.nil 3 1 az).bO [1,0];refine an (λt:Sl×Nat×av=>(t.1,(t.2.1:Int))) (λt h'=>t.2.1<=n/\cW p o t.2.1=dB t.2.2/\Sp h h' [aq 3 t.1 1 az t.2.2,ak z 25 [xU ka p.1,xU ka p.2.1,xU ka p.2.2]]) (λt=>n-t.2.1) (⟨eH,0,0⟩,0,[]) i5 ⟨js,i5,d⟩ ?_;rintro⟨s,i,l⟩ w ⟨I,c,k⟩;dsimp only at*;have A:=jY c;have b:∀j,nA p o i=eH->j<=n-(i+1)->cW p o (i+1+j)=eH:=λj f=>by
  induction j with
  |zero=>intro _;show cW p o (i+1)=eH;unfold cW;rw[c,f];rfl
  |succ j ih=>intro G;show cW p o ((i+1+j)+1)=eH;unfold cW;rw[ih i6];rfl
 refine ae (λe=>?_) λe=>?_
 .have B:i<n:=i6
  refine⟨p,(k.box 1 i5).aE _ i5,(act p o i w).x8 λh3 x=>?_⟩;have q:=k.up x.ac;refine⟨(_,_),i5,aX (λg=>?_) λg=>?_⟩
  .have a:cW p o n=eH:=by have:=b (n-(i+1)) (Option.isSome_eq_false_iff.1 g|>Option.isNone_iff_eq_none.1) (qi _);rw[show i+1+(n-(i+1))=n by omega]at this;exact this
   rw[a];exact⟨λ_=>⟨i5,.zip q.ac⟩,λl h=>j8⟩
  .obtain⟨t,u⟩:∃t,nA p o i=dB t:=Option.isSome_iff_exists.1 g;rw[u];refine q.push ag 0 i5 gz i5 i7 (λ_=>rfl) eZ (t:Int) i5 i7 i6 λD E y=>?_;refine⟨(D,i+1,l++[(t:Int)]),j0,⟨i9,?_,y⟩,i9⟩;show cW p o (i+1)=_;unfold cW;rw[c,u];rfl
 .have m:i=n:=i6
  subst m;rw[c];exact⟨λh=>j8,λl' h=>(by injection h with h;subst h;exact⟨s,i5,k.bO [0]⟩)⟩
def ry(m:au)(l:ct):ct:=(dJ m l).map cD
def cz(m:au)(l:ct):ct:=ba m++ry m l
def iK(d:be)(a:Nat)(n:Int):Bool:=decide (max n 0<=(d.room:Int)-a)
def io(m:au)(d:be)(n:Int):Bool:=!d.lost&&(iK d d.l.length n||iK d (cz m d.l).length n)
def ft(m:au)(w:Pow)(d:be)(n:Int):Int×Pow×be:=
 if d.lost then(5,w,d)else if !io m d n then(7,w,d)else if iK d d.l.length n then(0,w,d)else d.rewrite w (cz m d.l)
theorem acu(l:List cH):i4 (tU l)<=i4 l:=by unfold tU;rw[qp];exact qM (qE _ _) js
theorem nC(m:au)(l:ct):i4 (dJ m l)<=i4 l:=by unfold dJ;refine qM (acu _) ?_;rw[wD];exact List.length_filterMap_le _ _
theorem uI(m:au)(l:ct):i4 (ry m l)<=i4 l:=by unfold ry;rw[qp];exact nC m l
variable {B:aw} {h0 h:f9} {As:List HP} {a:f7} {d:be} {w:Pow}
section
variable {pw:f7}
theorem Fm(x:Sl)(l:ct)(H:aa B h0 h (jJ pw a d::dM 126 pw w::As))(O:St B h0 As λh=>fm h x 1 aB l)(Q:i4 l<=2^20)(u:∀c∈l,i4 c<=2^20):
  ai kg 124 #[xW (dB a),x] h λv h'=>v=xU ka (d.rewrite w l).1/\aa B h0 h' (jJ pw a (d.rewrite w l).2.2::dM 126 pw (d.rewrite w l).2.1::As):=by
 refine ts Tryz.func124 ?_ (xc (u9 (xc (v7 (ws [(9,aR)] [(4,5),(6,7),(9,17)] v6))) (u9 (xa [] [(4,5),(17,41)] (v7 (x6 [(17,lj)] [(17,26)] v6))) v6)));have P:=O.at [_,_] H;have U:=P.len;have o:=iB.rewrite (w:=w) (l:=l) (And.left (id H).rk);have j:∀(e:Int),d.rewrite w l=(e,w,d)->(Value.int .i64 e=xU ka (d.rewrite w l).1/\aa B h0 h (jJ pw a (d.rewrite w l).2.2::dM 126 pw (d.rewrite w l).2.1::As)):=λe X=>by
  rw[X];exact⟨i5,H⟩
 refine an (λi:Nat=>(i:Int)) (λi h'=>i<=i4 l/\(∀c∈l.take i,i4 c=64)/\h'=h) (λi=>i4 l-i) 0 i5 ⟨i6,js,i5⟩ ?_;rintro i h1 ⟨hi,f,rfl⟩;refine ae (λe=>?_) λe=>?_
 .have q:i<i4 l:=i6
  refine P.get i i5 q λr W=>?_;have V:=W.len;refine bH (λZ=>j 1 ?_) λZ=>?_
  .unfold be.rewrite;rw[g0];rw[yB,yD];exact⟨l[i],qe q,jj⟩
  .refine⟨i+1,j4,⟨i6,λc k=>?_,i5⟩,i6⟩;rw[aG _ _ q]at k;rcases qt.1 k with k|k
   .exact f c k
   .rw[qw.1 k];omega
 have f:∀c∈l,i4 c=64:=by rw[qh i6]at f;exact f
 have m:(!l.all λb=>decide (i4 b=64))=eX:=by rw[Bool.not_eq_false',qS];exactλc k=>hU (f c k)
 have A:d.rewrite w l=(if d.lost then(5,w,d)else if d.room<i4 l then(7,w,d)else if w.off then(14,w,d)else if w.step.1 then(0,w.step.2,{d with l:=l,wait:=0,laid:=[],has:=eX})else(14,w.step.2,{d with laid:=l,has:=eS})):=by unfold be.rewrite;rw[m];rfl
 obtain⟨ok,s,b,G⟩:=H.rk;have D:=G.box 0 i5;refine aJ (aJ (aP (λe=>j3) λ_=>⟨a,i5,d.lost,D.cell i5,aP (λe=>j 5 (by rw[A,g0 e])) λg=>?_⟩));refine⟨a,i5,(d.room:Int),D.cell i5,ae (λe=>j 7 (by rw[A,g9 pa,g0 i6])) λE=>?_⟩;obtain⟨Y,T,K⟩:=(G.aI 4 [3,0,1,2]).Ch;refine⟨a,i5,dB pw,D.cell0 i5,(Gz Y (K.box 0 i5)).x7 ?_⟩;refine⟨_,i5,aX (λe=>j 14 ?_) λy=>?_⟩
 .rw[A,g9 pa,g9 i6,g0 l9]
 have p:w.off=eX:=o6
 have t:d.rewrite w l=(if w.step.1 then(0,w.step.2,{d with l:=l,wait:=0,laid:=[],has:=eX})else(14,w.step.2,{d with laid:=l,has:=eS})):=by rw[A,g9 pa,g9 i6,g9 (by simp[p])]
 refine⟨a,i5,dB pw,D.cell0 i5,(EY (G.aI 4 [3,0,1,2])).x8 λN I=>?_⟩;have z:=O.at [_,_,_,_] I;refine⟨_,i5,aX (λe=>?_) λe=>?_⟩
 .rw[t,g9 t6]at o⊢;refine(Ih x l N z Q u).y0 λr S M=>?_;have J:=(I.bS M).aI 5 [2,3,0,1];refine⟨r,i5,a,i5,J.store ag 0 i5 i5 4 [r] i5 i5 i5 l4 λh7 F=>?_⟩;refine⟨a,i5,F.store ag 0 i5 i5 5 [xY eS] i5 i5 i5 l4 λh8 L=>⟨i5,?_⟩⟩;exact aa.Ai (s:=s) (b:=r) o L
 .rw[t,g0 e]at o⊢;refine(Ih x l N z Q u).y0 λr S M=>?_;have J:=(I.bS M).aI 5 [2,0,4,1];refine⟨r,i5,a,i5,J.store ag 0 i5 i5 2 [r] i5 i5 i5 l4 λh7 F=>?_⟩;refine⟨a,i5,F.store ag 0 i5 i5 3 [xU ka 0] i5 i5 i5 l4 λh8 L=>?_⟩;refine(Fa (d:={d with l:=l,wait:=0}) r b _ L ⟨zj _,i9,ok.room,f,ok.laid,ok.cellL⟩ i5).x8 λh9 R=>⟨0,i5,i5,R⟩
theorem BG(s b:Sl)(c:Nat)(n:Int)(e:bN h a 168 (fQ pw d s b))(g:d.room<=512)(f:c<=2^40:=by omega):ai kg 122 #[xW (dB a),xU ka c,xU ka n] h λv h'=>v=xY (iK d c n)/\h'=h:=by refine ts Tryz.func122 ?_;refine(YK s b e).x7 ⟨_,i5,?_,i5⟩;rw[af ((d.room:Int)-c)];unfold iK;congr 1;rw[decide_eq_decide];split<;>omega
theorem Wb(s b:Sl)(x:bw)(m:au)(E:bN h a 168 (fQ pw d s b))(T:fm h s 1 aB d.l)(ok:iB d)(R:cN h x m)(J:cw m):
  ai kg 194 #[xW (dB a),eO x] h λv h'=>∃r:Sl,v=r/\Sp h h' [gu r (ry m d.l)]:=by
 refine ts Tryz.func194 ?_ (xc (xc (x0 [(5,cE),(12,aR)] [(5,6),(7,8),(12,22)]))) (args:=[(dB a),x]);have F:=ok.len;have k:=ok.room;refine(Sp.refl h).boxed λY M c=>?_;refine⟨x,(c.box 0 i5).aE _ i5,(rq a pw d s b x m M (E.ac c.ac E.lt) (T.up c.ac) ok (R.up c.ac) J).mono ?_⟩;rintro _ W ⟨r,j,rfl,P⟩;have w:=(c.bS P).ww 34 5 1 aB;refine⟨r,i5,?_⟩;have p:=nC m d.l;obtain⟨L,B⟩:=z6 (dJ m d.l)
 have y:(ry m d.l)=L.map cD:=by unfold ry;rw[B]
 rw[<-B]at w p;rw[y];have D:=w.dZ 1 i5;have Q:=D.2.1;have A:=D.1.len;refine an (λt:Sl×Nat=>(t.1,(t.2:Int))) (λt h'=>t.2<=i4 L/\Sp h h' [gu t.1 ((L.map cD).take t.2),dn fx 8 bZ r j L]) (λt=>i4 L-t.2) (⟨eH,0,0⟩,0) i5 ⟨js,w.bO [0,1]⟩ ?_;rintro⟨o,i⟩ h3 ⟨Z,f⟩;dsimp only at*;have K:=f.dZ 1 i5;refine ae (λe=>?_) (λe=>?_)
 .have z:i<i4 L:=i6
  refine K.1.dO (g:=bZ) i i5 i6 (j[i]'i6) i5 ?_;refine f.alloc ag i5 λX U S=>?_;refine S.storeAll ag 2 i5 i5 (bZ (j[i]'i6)) i5 i5 i5 i5 λG q=>?_;refine⟨j[i]'i6,(q.box 2 i5).aE _ i5,(oE _ L[i] G (Fix.row (q.dZ 1 i5) z)).y0 λu V O=>?_⟩;have I:=(q.bS O).aI 3 [1,0,2];refine⟨u,i5,I.CM ag fh jj λH h8 N=>?_⟩;refine⟨(H,i+1),j0,⟨i9,?_⟩,i9⟩
  try dsimp only
  rw[aG _ _ (show i<i4 (L.map cD) by simp;omega),zU];exact N.bO [0,1]
 .rw[qh jj]at f;exact⟨o,i5,f.bO [0]⟩
theorem Hj{m:au}{l:ct}{c:aL}(h:c∈ry m l):i4 c<=64:=by
 unfold ry at h;obtain⟨r,_,rfl⟩:=qo.1 h;unfold cD;split
 .rename_i a;refine xG (mO i7 i7 ?_);have:=pm a;omega
 .simp
theorem Fo(s b:Sl)(x:bw)(m:au)(j:bN h a 168 (fQ pw d s b))(D:fm h s 1 aB d.l)(ok:iB d)(o:cN h x m)(i:cw m):
  ai kg 125 #[xW (dB a),eO x] h λv h'=>∃r:Sl,v=r/\Sp h h' [gu r (cz m d.l)]:=by
 refine ts Tryz.func125 ?_ v6 [(1,(.l [0,2,3,1,4,5,6]))] (args:=[(dB a),x]);have k:=ok.len;have g:=ok.room;refine(Sp.refl h).boxed λG w f=>?_;refine⟨x,(f.box 0 i5).aE _ i5,x,(f.box 0 i5).aE _ i5,(lm x m w (o.up f.ac) i).y0 λr F z=>?_⟩;have e:=f.bS z;have c:=e.box 1 i5;refine⟨r,i5,⟨c.cell0 i5,c.cell i5,c.cell i5,c.cell i5,c.cell i5,c.cell i5,c.cell i5,c.cell i5,A0⟩,(Wb s b x m (j.ac e.ac j.lt) (D.up e.ac) ok (o.up e.ac) i).y0 λu h3 p=>?_⟩;have t:=(e.bS p).aI 2 [1,0];have y:=iN m i;have q:=uI m d.l;refine⟨u,i5,A0,t.afn ag fh ⟨_,_,i5,i5⟩ i6 λA E B=>?_⟩;exact⟨A0,A,i5,B.bO [0]⟩
theorem Bi(s b:Sl)(x:bw)(m:au)(n:Int)(t:bN h a 168 (fQ pw d s b))(A:fm h s 1 aB d.l)(j:s.len=i4 d.l)(ok:iB d)(z:cN h x m)(p:cw m):
  ai kg 121 #[xW (dB a),eO x,xU ka n] h λv h'=>v=xY (io m d n)/\Sp h h' []:=by
 refine ts Tryz.func121 ?_ (xc (x6 [] [(6,13)] v6)) (args:=[(dB a),x,(n:Int)]);have u:=ok.len;have g:=ok.room;refine(Sp.refl h).boxed λD E f=>?_;have c:=t.ac f.ac t.lt;refine aJ (aP (λe=>j3) λ_=>(Bd s b c).mono ?_);rintro _ _ ⟨rfl,rfl⟩;refine⟨_,i5,aP (λe=>⟨by unfold io;rw[e];rfl,.zip f.ac⟩) λe=>?_⟩;have q:io m d n=(iK d d.l.length n||iK d (cz m d.l).length n):=by unfold io;rw[e];rfl
 refine(My s b c j).x7 ⟨_,i5,(BG s b d.l.length n c ok.room).x7 ?_⟩;refine⟨_,i5,aP (λo=>⟨by rw[q,o];rfl,.zip f.ac⟩) λo=>?_⟩;refine⟨x,(f.box 0 i5).aE _ i5,(Fo s b x m c (A.up f.ac) ok (z.up f.ac) p).y0 λr B k=>?_⟩;have i:=(aa.pM k).1;have w:i4 (cz m d.l)<=4000:=by have:=iN m p;have:=uI m d.l;unfold cz;rw[qu];omega
 have y:=f.bS k;refine⟨r,i5,(BG s b r.len n (c.ac k.ac c.lt) ok.room).x7 ?_⟩;exact⟨_,i5,by rw[q,o,xx,i],.zip y.ac⟩
theorem Fp(x:bw)(n:Int)(h:f9):ai kg 121 #[xW eH,eO x,xU ka n] h λv h'=>v=xY eX/\Sp h h' []:=by refine ts Tryz.func121 ?_ (xc (x6 [] [(6,13)] v6)) (args:=[(eH:bL),x,(n:Int)]);refine(Sp.refl h).boxed λc b a=>?_;exact aJ (aP (λ_=>⟨i5,.zip a.ac⟩) λe=>j3)
theorem Fq(x:bw)(m:au)(n:Int)(J:St B h0 As λh=>cN h x m)(y:cw m)(H:aa B h0 h (jJ pw a d::dM 126 pw w::As)):
  ai kg 59 #[xW (dB a),eO x,xU ka n] h λv h'=>v=xU ka (ft m w d n).1/\aa B h0 h' (jJ pw a (ft m w d n).2.2::dM 126 pw (ft m w d n).2.1::As):=by
 refine ts Tryz.func59 ?_ (xc (u9 (xa [] [(6,26)] (v7 (x6 [(7,lj)] [(7,14)] v6))) v6)) (args:=[(dB a),x,(n:Int)]);refine(Sp.refl h).boxed λU D L=>?_;have k:=(H.bS L).aI 3 [1,2,0];have f:∀(e:Int) {h':f9},aS (λb=>b<D.size) D h'->ft m w d n=(e,w,d)->(Value.int .i64 e=xU ka (ft m w d n).1/\aa B h0 h' (jJ pw a (ft m w d n).2.2::dM 126 pw (ft m w d n).2.1::As)):=λe {h'} P O=>by
  rw[O];exact⟨i5,((k.up P).aI 3 [0,1])⟩
 obtain⟨ok,s,b,g⟩:=(id k).rk;have q:=g.box 0 i5;have R:fm D s 1 aB d.l:=(g.aI 2 [1]).Cb λ_=>rfl;have o:=(aa.pM (g.aI 2 [1])).1;have K:=ok.len;have u:=ok.room;refine aJ (aJ (aP (λe=>j3) λ_=>(Bd s b q).mono ?_));rintro _ _ ⟨rfl,rfl⟩;refine⟨_,i5,aP (λe=>f 5 (aS.refl _ _) (by unfold ft;rw[g0 e])) λe=>?_⟩;refine⟨x,(k.box 2 i5).aE _ i5,(Bi s b x m n q R o ok (J.at [_,_,_] k) y).x8 λT p=>?_⟩;have I:=g.up p.ac;have j:=q.ac p.ac q.lt;have A:=k.up p.ac;refine⟨_,i5,aX (λt=>f 7 p.ac (by unfold ft;rw[g9 t6,g0 (by simp[t])])) λt=>?_⟩;refine(My s b j o).x7 ⟨_,i5,(BG s b d.l.length n j ok.room).x7 ?_⟩;refine⟨_,i5,aP (λF=>f 0 p.ac (by unfold ft;rw[g9 t6,g9 (by simp[t]),g0 F])) λF=>?_⟩;have em:ft m w d n=d.rewrite w (cz m d.l):=by unfold ft;rw[g9 t6,g9 (by simp[t]),g9 (by simp[F])]
 rw[em];have M:i4 (cz m d.l)<=4000:=by have:=iN m y;have:=uI m d.l;unfold cz;rw[qu];omega
 have E:∀c∈cz m d.l,i4 c<=64:=λc i=>by
  unfold cz at i;rcases qt.1 i with i|i
  .exact xG (uv i)
  .exact Hj i
 refine⟨x,(A.box 2 i5).aE _ i5,(Fo s b x m j ((I.aI 2 [1]).Cb λ_=>rfl) ok (J.at [_,_,_] A) y).y0 λr h3 N=>?_⟩;obtain⟨rs,z⟩:=(A.bS N).VV λ_=>rfl;have z:=z.aI 4 [1,2,0];refine⟨r,i5,(Fm r (cz m d.l) z (St.cR 0 i5 λh' G=>?_) i6 λc i=>qM (E c i) i7).mono ?_⟩
 .exact⟨rs,G.1,G.2.1,G.2.2⟩
 rintro _ S ⟨rfl,Q⟩;exact⟨_,i5,i5,Q.aI 3 [0,1]⟩
end
variable {b:f7} {x:bw} {offs:Int} {da:List bL} {ds:aD}
section
variable {pw:f7}
theorem aa.acv(n:Nat)(j:n<64)(f:ds[n]?=dB eH)(H:aa B h0 h (bc bi a pw (aV x) offs da w ds::jJ pw b d::As)){K:Unit->f9->Prop}
  (e:∀h',aa B h0 h' (bc bi a pw (aV x) offs (da.set n (dB b)) w (ds.set n (dB d))::As)->K () h'):
  aj kg (qF 61 (xW (dB ((a.add 10).add n))) (xW (dB b))) h K:=by
 obtain⟨ok,g⟩:=Qw.aa.oZ H;have i:(a.add 10).add n=a.add (10+n):=by unfold Addr.add;simp[wX]
 rw[i];refine g.storeAt ag 0 i5 i5 i5 i5 i5 (by simp[ok.la];omega) λh' c=>e h' ?_;rw[ze,MC ok.l8]at c;exact aa.afD ok j f c
end
theorem Cn(ds:aD)(n:Nat)(d:be)(s:Int)(b:n<64)(a:i4 ds=64):aT (ck ds (n:Int) d) s=if s=(n:Int)then dB d else aT ds s:=by
 unfold aT ck
 grind
theorem kl{ds:aD}{s:Int}{d:be}(h:aT ds s=dB d):∃n:Nat,s=(n:Int)/\n<64:=by
 unfold aT at h
 grind
structure Fit (ds:aD) (S Q:av):Prop where
 len:i4 ds=64
 at_:∀s∈S,∃d,aT ds s=dB d/\d.lost=eX/\d.l.length+Q.count s<=d.room
theorem So{d:be}{n:Nat}(w:Pow)(b:aL)(a:d.lost=eX)(c:i4 d.l+(n+1)<=d.room)(e:i4 b=64):
  ((d.append w b).1=0∨(d.append w b).1=14)/\(d.append w b).2.2.lost=eX/\(d.append w b).2.2.l.length+n<=(d.append w b).2.2.room:=by
 unfold be.append
 grind
theorem Zf{d:be}(w:Pow)(a:d.lost=eX):((d.sync w).1=0∨(d.sync w).1=14)/\(d.sync w).2.2.lost=eX/\(d.sync w).2.2.l=d.l/\(d.sync w).2.2.room=d.room:=by
 unfold be.sync
 grind
theorem Nv{ds:aD}{S Q:av}{x:Int}(w:Pow)(b:aL)(F:Fit ds S (x::Q))(l:x∈S)(j:i4 b=64):
  ((gv w ds x b).1=0∨(gv w ds x b).1=14)/\Fit (gv w ds x b).2.2 S Q:=by
 obtain⟨d,a,h,c⟩:=F.at_ x l;rw[List.count_cons_self]at c;obtain⟨n,rfl,f⟩:=kl a;have A:=So w b h (n:=Q.count (n:Int)) i6 j;have e:gv w ds (n) b=((d.append w b).1,(d.append w b).2.1,ck ds (n) (d.append w b).2.2):=by unfold gv;rw[a]
 rw[e];refine⟨A.1,by unfold ck;rw[zf];exact F.len,λs i=>?_⟩;rw[Cn _ _ _ _ f F.len];by_cases k:s=(n)
 .grind
 .obtain⟨p,g,o,m⟩:=F.at_ s i
  grind
theorem Sq{ds:aD}{S:av}{x:Int}(w:Pow)(F:Fit ds S [])(i:x∈S):((ic w ds x).1=0∨(ic w ds x).1=14)/\Fit (ic w ds x).2.2 S []:=by
 obtain⟨d,b,g,j⟩:=F.at_ x i;obtain⟨n,rfl,c⟩:=kl b;obtain⟨f,A2,k,l⟩:=Zf w g;have e:ic w ds (n)=((d.sync w).1,(d.sync w).2.1,ck ds (n) (d.sync w).2.2):=by unfold ic;rw[b]
 rw[e];refine⟨f,by unfold ck;rw[zf];exact F.len,λs h=>?_⟩;rw[Cn _ _ _ _ c F.len];by_cases a:s=(n)
 .grind
 .rw[g9 a];exact F.at_ s h
theorem Ll(l:av)(k:Nat):(bz l k).Nodup:=by refine List.Pairwise.filter _ (yE.2 ?_);exact(List.nodup_range (n:=k)).imp λh=>i6
theorem Wc{l:av}(h:(fZ l).2=eS):(fZ l).1=bz l l.length/\l.length<=64/\∀n:Nat,l.getD n 0<=512:=by
 unfold fZ at h⊢;by_cases a:l.all (ga · 0 512)=eS
 .rw[g0 a]at h⊢;refine⟨i5,by simp at h;exact h.1,λn=>?_⟩;rw[qg];by_cases b:n<i4 l
  .rw[qc b];have:=qS.1 a _ (qe b);unfold ga at this;simp at this⊢;omega
  .rw[zd i6];simp
 .rw[g9 a]at h;cases h
theorem PO(l:av)(i n:Nat)(f:i<i4 (bz l l.length))(g:(bz l l.length)[i]=(n:Int))(c:n<64):(jF l i)[n]?=dB eH:=by unfold jF;rw[qR,zI c,qW,g9];intro e;obtain⟨j,h,d⟩:=List.mem_take_iff_getElem.1 e;have:=Eo (Ll l l.length) (a:=j) (b:=i) i6 f (by rw[d,g]);omega
theorem sP(m:au):∀S:av,i4 (bA m S)=i4 S*i4 (ba m)
 |[]=>by simp[bA]
 |n::S=>by
  have e:bA m (n::S)=(ba m).map (λc=>(n,c))++bA m S:=by unfold bA;rw[zg]
  rw[e,qu,qp,sP m S,q8,zW,Nat.add_comm]
theorem Wd(p:Pm)(extra:Int)(l:av)(a:i4 l<=64):cw (cV p extra l):=⟨by have:=rv l l.length;simp[cV];omega,by simp[cV],by simp[cV]⟩
section
variable {pw:f7}
theorem Sr(p:Pm)(extra:Int)(s:Sl)(l:av)(hS:St B h0 As λh=>Rd h s 1 az l)(hl:i4 l<=2^20)(H:aa B h0 h (dM 126 pw w::As)):
  ai kg 36 #[ir p,xU ka extra,xW (dB pw),s] h λv h'=>
   ((ey p extra w l).1≠0->v=.tuple #[xW eH,xU ka (ey p extra w l).1]/\aa B h0 h' As)/\
   ((ey p extra w l).1=0->∃(a:f7) (x:bw) (da:List bL),v=.tuple #[xW (dB a),xU ka 0]/\aa B h0 h' (bc bi a pw (aV x) w.offs da (ey p extra w l).2.1 (ey p extra w l).2.2::bJ x (cV p extra l)::As)):=by
 refine ts Tryz.func36 ?_ (xc (xc (x6 [] [(8,10),(23,42)] (x6 [(12,Mw)] [(12,13),(42,51)] (u9 (xc (v7 (ws [(53,aR)] [(8,10),(14,15),(53,69)] v6))) (x0 [(71,aR)] [(16,17),(71,87)])))))) [(14,(.l [0,1,2,3,4,5,6,8,9,7,10,11]))] (args:=[p,(extra:Int),(dB pw),s]);refine H.boxed λa1 h1 H1=>?_;have H1:=H1.aZ;refine(Se s l h1 (hS.at [_,_] H1) hl).y0 λr h2 R2=>?_;have H2:=H1.bS R2;refine⟨(r,(fZ l).2),i5,?_⟩;have j:∀{h':f9},aa B h0 h' As->((fZ l).2&&(bB p&&ga extra 0 16))=eX->
   ((ey p extra w l).1≠0->Value.tuple #[xW eH,xU ka 1]=.tuple #[xW eH,xU ka (ey p extra w l).1]/\aa B h0 h' As)/\
   ((ey p extra w l).1=0->∃(a:f7) (x:bw) (da:List bL),Value.tuple #[xW eH,xU ka 1]=.tuple #[xW (dB a),xU ka 0]/\aa B h0 h' (bc bi a pw (aV x) w.offs da (ey p extra w l).2.1 (ey p extra w l).2.2::bJ x (cV p extra l)::As)):=λ{h'} H' hc=>by
  have e:ey p extra w l=(1,w,[]):=by unfold ey;rw[hc];rfl
  rw[e];exact⟨λ_=>⟨i5,H'⟩,λh=>absurd h (show¬(1:Int)=0 by decide)⟩
 refine aJ (aX (λe=>j H2.rest.rest.rest m7) λe=>?_);have ep:(fZ l).2=eS:=l9
 obtain⟨ao,A,J⟩:=Wc ep;refine⟨p,(H2.box 1 i5).aE _ i5,(eN p h2).x8 λh3 R3=>?_⟩;have z:aa B h0 h3 (aq 3 r 1 az (fZ l).1::ak a1 25 [xU ka p.1,xU ka p.2.1,xU ka p.2.2]::dM 126 pw w::As):=by have:=H2.comp R3;rw[qI]at this;exact this
 refine⟨_,i5,aX (λe2=>j z.rest.rest.rest (by rw[e2];simp)) λe2=>?_⟩;have em:bB p=eS:=oo
 refine ae (λe3=>j z.rest.rest.rest o7) λe3=>ae (λe4=>j z.rest.rest.rest o7) λe4=>aP (λe5=>by cases e5) λ_=>?_;rw[ao]at z;refine aJ ⟨p,(z.box 1 i5).aE _ i5,?_⟩;obtain⟨lw,a8,a2⟩:=(z.aI 3 [2,1,0]).Ch;refine(Mx lw (a2.box 0 i5)).x7 ?_;have K:=z.box 1 i5;refine⟨_,i5,⟨K.cell0 i5,K.cell i5,K.cell i5,A0⟩,?_⟩;obtain⟨m,M⟩:=z6 (cV p extra l)
 refine⟨_,YX (1,0,p.1,p.2.1,p.2.2,extra,r,⟨eH,0,0⟩) pw w.offs,?_⟩;refine z.boxed λa9 h6 f=>?_;obtain⟨x,hx⟩:∃x:bw,x=(1,0,p.1,p.2.1,p.2.2,extra,r,⟨eH,0,0⟩):=⟨_,rfl⟩
 rw[<-hx]at f;have G:(Value.agg (cU (aV x) pw w.offs (qf 64 eH)).toArray).cells.toList=cU (aV x) pw w.offs (qf 64 eH):=k7
 rw[G]at f;have f:=f.aZ;have I:=f.box 2 i5;refine⟨⟨I.cell0 i5,I.cell i5,I.cell i5,A0⟩,?_⟩;have f:=f.aI 4 [0,3,1];have f:=aa.YW (k:=bi) (h8:=by simp) f;obtain⟨P,o⟩:=z6 (bz l l.length)
 rw[<-o]at f;have hz:cw m:=M▸Wd p extra l A;have a4:i4 P<=64:=by rw[o];exact qM (rv _ _) A
 have Z:∀{h':f9} {Bs:List HP} {X:HP},aa B h0 h' (X::aq 3 r 1 az P::Bs)->cN h' x m:=λ{h' Bs X} H'=>by
  have hs:=H'.seq 1 i5 λ_=>rfl;have hc:=(H'.own 1 i5).cap;subst hx;subst M;exact⟨i5,i5,i5,i5,by show Seq _ _ r 1 az (bz l l.length);rw[<-o];exact hs,bM.nil _ _ _ _,hc,qi _⟩
 have W:((fZ l).2&&(bB p&&ga extra 0 16))=eS:=by rw[ep,em];unfold ga;simp;omega
 have T:(P.any λi=>decide (l.getD i.toNat 0<(i4 (ba m):Int)))=eS->ey p extra w l=(7,w,[]):=λhh=>by
  unfold ey;rw[g0 W,<-o,<-M,g0 hh]
 have R:(P.any λi=>decide (l.getD i.toNat 0<(i4 (ba m):Int)))=eX->ey p extra w l=layAll (bA m P) w (jF l P.length):=λhh=>by
  unfold ey;rw[g0 W,<-o,<-M,hh,g9 i7]
 have L:∀i (O:i<i4 P),∃n:Nat,n<i4 l/\P[i]=(n:Int)/\0<l.getD n 0:=by subst o;exactλi O=>Sg l l.length i O
 refine an (λi:Nat=>(i:Int)) (λi h'=>i<=i4 P/\((P.take i).any λi=>decide (l.getD i.toNat 0<(i4 (ba m):Int)))=eX/\aa B h0 h' (bc bi a9 pw (aV x) w.offs (qf 64 eH) w (qf 64 eH)::aq 3 r 1 az P::As)) (λi=>i4 P-i) 0 i5 ⟨i6,js,f⟩ ?_;rintro i h7 ⟨O,g,D⟩;dsimp only at*;obtain⟨br,ax⟩:=aa.cj D;have bl:r.len=i4 P:=(D.own 1 i5).len;refine ae (λe5=>?_) (λe5=>?_)
 .have c:i<i4 P:=i6
  obtain⟨n,N,E,Y⟩:=L i c;refine(D.seq 1 i5 λ_=>rfl).bm i i5 c (n:Int) (by rw[E];rfl) ?_;refine(hS.at [_,_] D).IZ n i5 N (l.getD n 0) (by rw[getD_lt N];rfl) λbk ah=>?_;refine⟨a9,i5,x,ax.aE _ k8,(lm x m h7 (Z D) hz).y0 λu h9 R9=>?_⟩;have H9:=D.bS R9;have bd:=(aa.pM H9).1;refine⟨u,i5,jo R9.ac ⟨ah,A0⟩,?_⟩;refine ae (λe6=>?_) (λe6=>?_)
  .rw[T (zT.2 ⟨P[i],qe c,by rw[E,qj];exact hU i6⟩)];exact⟨λ_=>⟨i5,H9.rest.rest.rest⟩,λh=>absurd h (show¬(7:Int)=0 by decide)⟩
  .refine⟨i+1,j4,⟨i6,?_,H9.rest⟩,i6⟩;rw[aG _ _ c,yI,g,xx,xw,xF,Bool.or_false,E,qj];exact ii i6
 .have F:i=i4 P:=i6
  subst F;rw[qL]at g;have ay:=R g;rw[<-PL l]at D;refine an (λt:Nat×List bL=>(t.1:Int)) (λt h'=>t.1<=i4 P/\aa B h0 h' (bc bi a9 pw (aV x) w.offs t.2 w (jF l t.1)::aq 3 r 1 az P::As)) (λt=>i4 P-t.1) (0,qf 64 eH) i5 ⟨js,D⟩ ?_;rintro⟨i,da⟩ ad ⟨O,d⟩;dsimp only at*;obtain⟨bs,U⟩:=aa.cj d;refine ae (λe6=>?_) (λe6=>?_)
  .have c:i<i4 P:=i6
   obtain⟨n,N,E,Y⟩:=L i c;have a6:=J n;refine(d.seq 1 i5 λ_=>rfl).bm i i5 c (n:Int) (by rw[E];rfl) ?_;refine(hS.at [_,_] d).bm n i5 N (l.getD n 0) (by rw[getD_lt N];rfl) ?_;refine⟨a9,i5,(Dh (l.getD n 0) pw ad).mono ?_⟩;rintro _ b0 ⟨Q1,_⟩;obtain⟨b,rfl,a3⟩:=Q1 i6;have a5:=(d.bS a3).aI 2 [1,0];refine⟨_,i5,A0,⟨i6,i6⟩,?_⟩;rw[qj,zG];have Q:i<i4 (bz l l.length):=by rw[<-o];exact c
   have V:(bz l l.length)[i]=(n:Int):=by rw[<-E];simp only[o]
   refine Qw.aa.acv n i6 (PO l i n Q V i6) a5 λbq al=>?_;refine⟨A0,(i+1,da.set n (dB b)),j0,⟨i9,?_⟩,i9⟩
   try dsimp only
   rw[<-PM l i n Q V i6];exact al
  .have F:i=i4 P:=i6
   subst F;refine⟨a9,i5,x,U.aE _ k8,(BD x m r P ad (Z d) hz (d.seq 1 i5 λ_=>rfl) i6).mono ?_⟩;rintro _ a7 ⟨u,ys,rfl,a0⟩;have ap:=(d.bS a0).aI 2 [1,0];refine⟨u,i5,?_⟩;have S:=iN m hz;refine(tp u ys (bA m P) (St.cR 0 i5 λ_ hq=>hq) ?_ ?_ ap).mono ?_
   .rw[sP];have:=zK a4 S;omega
   .intro y hy;obtain⟨ar,am⟩:=jg hy;obtain⟨i,O,e⟩:=qA ar;obtain⟨n,N,E,_⟩:=L i O;rw[<-e,E,am];exact⟨⟨i6,i6⟩,i7⟩
   rintro _ bb ⟨rfl,ab⟩;rw[ay];refine⟨_,i5,bH (λe7=>⟨λ_=>⟨i5,ab.rest.rest.rest⟩,λh=>absurd h e7⟩) λe7=>⟨λh=>absurd e7 h,λ_=>⟨a9,x,da,i5,?_⟩⟩⟩;rw[<-M];exact ab.pL.fN 1 i5 λq hq=>by
    subst hx;subst M;exact⟨i5,i5,i5,i5,by show Seq _ _ r 1 az (bz l l.length);rw[<-o];exact hq.1.seq (λ_=>rfl) hq.2,bM.nil _ _ _ _,hq.1.cap,qi _⟩
end
def ij(m:au)(ds:aD)(k n:Int):Bool:=match aT ds k with|some d=>io m d n|none=>eX
def dL(m:au)(ds:aD)(l:av)(N:Int->Int):Bool:=l.all λk=>ij m ds k (N k)
def dY(m:au)(w:Pow)(ds:aD)(k n:Int):Int×Pow×aD:=
 match aT ds k with
 |none=>(5,w,ds)
 |some d=>((ft m w d n).1,(ft m w d n).2.1,ck ds k (ft m w d n).2.2)
def makes(m:au)(N:Int->Int):av->Pow->aD->Int×Pow×aD
 |[],w,ds=>(0,w,ds)
 |k::l,w,ds=>if(dY m w ds k (N k)).1=0 then makes m N l (dY m w ds k (N k)).2.1 (dY m w ds k (N k)).2.2 else dY m w ds k (N k)
theorem Fs(f:FuncId)(pre post:Array Value)(P:Int->Bool)(s:Sl)(l:av)(h:f9)(t:C.fns[f]?=dB eS)(n:Rd h s 1 az l)(y:i4 l<=2^30)
  (r:∀k∈l,∀h',Sp h h' []->ai kg f (pre.toList++[Value.int .i64 k]++post.toList).toArray h' λv d=>v=xY (P k)/\Sp h' d []):
  ai kg 115 #[s,.func (.func f) pre post] h λv h'=>v=xY (l.any P)/\Sp h h' []:=by
 refine ts Tryz.func115 ?_ (args:=[s,(.func (.func f) pre post)]);refine(iZ s (f,pre,post) (R:=λv h'=>(∃i:Int,v=xU ka i/\decide (i>=0)=l.any P)/\Sp h h' []) ?_).mono ?_
 .skip
  have u:=n.len;refine an (λi:Nat=>(i:Int)) (λi h'=>i<=i4 l/\(l.take i).any P=eX/\Sp h h' []) (λi=>i4 l-i) 0 i5 ⟨i6,js,Sp.refl h⟩ ?_;rintro i m ⟨o,a,c⟩;refine ae (λg=>?_) (λg=>?_)
  .have b:i<i4 l:=by have q:(i:Int)<(s.len:Int):=g;omega
   refine(Seq.up n c.ac).bm i i5 b l[i] i5 (eJ t ?_);refine(r l[i] (qe b) m c).x8 λx w=>?_;have j:=c.up w.ac;refine⟨_,i5,aP (λe=>⟨⟨i,i5,?_⟩,j⟩) λe=>?_⟩
   .rw[zT.2 ⟨_,qe b,e⟩];exact hU i6
   .refine⟨i+1,j4,⟨i6,?_,j⟩,i6⟩;rw[aG _ _ b,yI,a,xw,xF,e];rfl
  .have q:¬(i:Int)<(s.len:Int):=g;rw[qh i6]at a;exact⟨⟨-1,i5,sp⟩,c⟩
 .rintro _ m ⟨⟨i,rfl,o⟩,p⟩;exact⟨i,i5,by rw[o],p⟩
section
variable {pw:f7}
def Oa(f:FuncId)(pre post:Array Value)(N:Int->Int)(l:av)(h:f9):Prop:=∀k∈l,ai kg f (pre.toList++[Value.int .i64 k]++post.toList).toArray h λv h'=>v=xU ka (N k)/\Sp h h' []
theorem JF(f:FuncId)(pre post:Array Value)(N:Int->Int)(x:bw)(m:au)(s:Sl)(l:av)(hf:C.fns[f]?=dB eS)(P:St B h0 As λh=>cN h x m/\Oa f pre post N l h)(Y:cw m)(hs:Rd h s 1 az l)(hl:i4 l<=2^30)(J:∀k∈l,0<=k/\k<64)(H:aa B h0 h (bc bi a pw (aV x) offs da w ds::As)):
  ai kg 96 #[xW (dB a),s,.func (.func f) pre post] h λv h'=>v=xY (dL m ds l N)/\Sp h h' []:=by
 refine ts Tryz.func96 ?_ (args:=[(dB a),s,(.func (.func f) pre post)]);refine(Sp.refl h).boxed λp h1 V=>V.boxed λR M t=>?_;have H2:=H.up t.ac;have g:bN M p 29 [xW (dB a)]:=t.box 0 i5;have L:=t.box 1 i5;refine(Fs 158 #[] #[xW (dB p),xW (dB R)] (λk=>!ij m ds k (N k)) s l M k8 (hs.up t.ac) hl ?_).mono ?_
 .intro k Q h3 i;have I:=H2.up i.ac;have T:=(g.ac i.ac g.lt).cell0 i5;have W:=(L.ac i.ac L.lt).cell0 i5;obtain⟨ok,u⟩:=aa.cj I;have S:=J k Q;refine ts Tryz.func158 ?_ (args:=[(k:Int),p,R]);obtain⟨n,rfl⟩:∃n:Nat,k=n:=⟨k.toNat,i6⟩
  have E:n<i4 da:=o8
  have cd:f8 h3 ((a.add 10).add ((n:Int).toNat*1))=dB (.pointer da[n]):=by rw[qj,zG];refine u.um 10 n ?_;rw[px ok.l8,qc E];rfl
  obtain⟨ab,z⟩:=P.at [_] I;refine⟨dB a,T,a,i5,⟨i6,i6⟩,da[n],cd,dB a,T,a,i5,x,u.aE _ i5,(f,pre,post),W,eJ hf ?_⟩;refine(z n Q).x8 λy r=>?_;have U:=I.up r.ac;have q:=((g.ac i.ac g.lt).ac r.ac (g.ac i.ac g.lt).lt).cell0 i5;have c:=u.ac r.ac u.lt;have F:f8 y ((a.add 10).add ((n:Int).toNat*1))=dB (.pointer da[n]):=by rw[qj,zG];refine c.um 10 n ?_;rw[px ok.l8,qc E];rfl
  refine⟨_,i5,⟨c.cell0 i5,c.cell i5,c.cell i5,c.cell i5,c.cell i5,c.cell i5,c.cell i5,c.cell i5,q,F,q,A0⟩,?_⟩;have D:gc da (n:Int)=da[n]:=by unfold gc;rw[g0 i6,qj,qc E];rfl
  rw[<-D];have fin:∀{K:Bool} {j:f9},K=ij m ds n (N n)->Sp y j []->bQ.ok [(p,xW (dB a)),(p,xW (dB a))] j/\(Value.bool (!K)=xY (!ij m ds n (N n))/\Sp h3 j []):=λ{K j} he o=>by
   have O:=(g.ac i.ac g.lt).ac r.ac (g.ac i.ac g.lt).lt;have:=(O.ac o.ac O.lt).cell0 i5;exact⟨⟨this,this,A0⟩,by rw[he],.zip (aa.up r o.ac).ac⟩
  rcases mz ok (n:Int)with⟨e1,e2⟩|⟨n',d,b,e0,e1,e2,e3,e4,e5⟩
  .rw[e2];refine(Fp x _ y).x8 λj o=>⟨_,i5,fin (by unfold ij;rw[e1]) o⟩
  .rw[e5];obtain⟨b',e,X⟩:=Qw.aa.iM U e2;rw[e4]at e;injection e with e
   injection e with e
   subst e;obtain⟨G,Z,bd,A⟩:=aa.rk X;refine(Bi Z bd x m (N n) (A.box 0 i5) ((A.aI 2 [1]).Cb λ_=>rfl) (aa.pM (A.aI 2 [1])).1 G (P.at [_] U).1 Y).x8 λj o=>⟨_,i5,fin (by unfold ij;rw[e3]) o⟩
 .rintro _ h3 ⟨rfl,i⟩;refine⟨_,i5,?_,.zip (aa.up t i.ac).ac⟩;unfold dL;rw[List.not_any_eq_all_not];simp
theorem Ft(x:bw)(n:Int)(h:f9):ai kg 59 #[xW eH,eO x,xU ka n] h λv h'=>v=xU ka 5/\Sp h h' []:=by refine ts Tryz.func59 ?_ (xc (u9 (xa [] [(6,26)] (v7 (x6 [(7,lj)] [(7,14)] v6))) v6)) (args:=[(eH:bL),x,(n:Int)]);refine(Sp.refl h).boxed λc b a=>?_;exact aJ (aJ (aP (λ_=>aP (λ_=>⟨i5,.zip a.ac⟩) λe=>j3) λe=>j3))
theorem JG(m:au)(N:Int->Int)(l:av)(w:Pow)(ds:aD)(i:Nat)(a:i<i4 l):makes m N (l.drop i) w ds=if(dY m w ds l[i] (N l[i])).1=0 then makes m N (l.drop (i+1)) (dY m w ds l[i] (N l[i])).2.1 (dY m w ds l[i] (N l[i])).2.2 else dY m w ds l[i] (N l[i]):=by rw[qJ a];rfl
theorem JH(f:FuncId)(pre post:Array Value)(N:Int->Int)(x:bw)(m:au)(s:Sl)(l:av)(hf:C.fns[f]?=dB eS)(I:St B h0 As λh=>cN h x m/\Oa f pre post N l h/\Rd h s 1 az l)(hz:cw m)(hl:i4 l<=2^30)(M:∀k∈l,0<=k/\k<64)(H:aa B h0 h (bc bi a pw (aV x) offs da w ds::As)):
  ai kg 97 #[xW (dB a),s,.func (.func f) pre post] h λv h'=>v=xU ka (makes m N l w ds).1/\aa B h0 h' (bc bi a pw (aV x) offs da (makes m N l w ds).2.1 (makes m N l w ds).2.2::As):=by
 refine ts Tryz.func97 ?_ (xc (u9 (xc (v7 (ws [(12,aR)] [(6,7),(8,10),(12,34)] (xc (xc (u9 (v7 (xc (x6 [(9,aR)] [(9,10),(16,30)] v6))) v6)))))) v6)) (args:=[(dB a),s,(.func (.func f) pre post)]);have ab:=(I.at [_] H).2.2.len;obtain⟨Z,T⟩:=z6 (makes m N l w ds)
 rw[<-T];refine an (λt:Nat×Pow×aD=>(t.1:Int)) (λt h'=>t.1<=i4 l/\Z=makes m N (l.drop t.1) t.2.1 t.2.2/\aa B h0 h' (bc bi a pw (aV x) offs da t.2.1 t.2.2::As)) (λt=>i4 l-t.1) (0,w,ds) i5 ⟨js,T,H⟩ ?_;rintro⟨i,D,u⟩ h1 ⟨hi,p,F⟩;dsimp only at*;refine ae (λe=>?_) λe=>?_
 .have q:i<i4 l:=i6
  rw[JG _ _ _ _ _ _ q]at p;obtain⟨V,K,J⟩:=I.at [_] F;refine J.bm i i5 q l[i] i5 (aJ ?_);have A:=M l[i] (qe q);obtain⟨k,L⟩:=z6 (l[i])
  have O:k∈l:=by rw[L];exact qe q
  rw[<-L]at p A;rw[<-L];obtain⟨n,rfl⟩:∃n:Nat,k=n:=⟨k.toNat,i6⟩
  obtain⟨ok,z⟩:=aa.cj F;have P:n<i4 da:=o8
  have Q:∀{h':f9},bN h' a 75 (cU (aV x) pw offs da)->f8 h' ((a.add 10).add ((n:Int).toNat*1))=dB (.pointer da[n]):=λ{h'} z=>by
   rw[qj,zG];refine z.um 10 n ?_;rw[px ok.l8,qc P];rfl
  refine⟨a,i5,⟨i6,i6⟩,da[n],Q z,a,i5,x,z.aE _ i5,eJ hf ?_⟩;refine(K n O).x8 λU S=>?_;have R:=F.up S.ac;have g:=z.ac S.ac z.lt;refine⟨_,i5,⟨g.cell0 i5,g.cell i5,g.cell i5,g.cell i5,g.cell i5,g.cell i5,g.cell i5,g.cell i5,Q g,A0⟩,?_⟩;have G:gc da (n:Int)=da[n]:=by unfold gc;rw[g0 i6,qj,qc P];rfl
  rw[<-G];obtain⟨c,o⟩:=z6 (dY m D u n (N n))
  rw[<-o]at p;have fin:∀{h3:f9},aa B h0 h3 (bc bi a pw (aV x) offs da c.2.1 c.2.2::As)->bQ.ok [] h3/\Br (c.1 !=(0:Int)) (Value.int .i64 c.1=xU ka Z.1/\aa B h0 h3 (bc bi a pw (aV x) offs da Z.2.1 Z.2.2::As))
    (∃r:Nat×Pow×aD,qd ka ((i:Int)+1)=(r.1:Int)/\(r.1<=i4 l/\Z=makes m N (l.drop r.1) r.2.1 r.2.2/\aa B h0 h3 (bc bi a pw (aV x) offs da r.2.1 r.2.2::As))/\l.length-r.1<i4 l-i):=λ{h3} H3=>by
   refine⟨A0,bH (λy=>?_) λy=>?_⟩
   .rw[g9 y]at p;rw[p];exact⟨i5,H3⟩
   .rw[g0 y]at p;exact⟨(i+1,c.2.1,c.2.2),j0,⟨i9,p,H3⟩,i9⟩
  rcases mz ok (n:Int)with⟨e1,y⟩|⟨n',d,b,e0,e1,y,e3,e4,e5⟩
  .rw[y];have E:c=(5,D,u):=by rw[o];unfold dY;rw[e1]
   refine(Ft x _ U).x8 λh3 W=>⟨c.1,by rw[E],fin (h3:=h3) (by rw[E];exact R.up W.ac)⟩
  .rw[e5];have X:n=n':=i6
   subst X;obtain⟨b',j,Y⟩:=Qw.aa.iM R y;rw[e4]at j;injection j with j
   injection j with j
   subst j;have E:c=((ft m D d (N n)).1,(ft m D d (N n)).2.1,u.set n (dB (ft m D d (N n)).2.2)):=by rw[o];unfold dY;rw[e3];simp only[ck,qj]
   refine(Fq x m (N n) (λBs h' hh=>(I (Bs++[_]) h' (by rw[qm];exact hh)).1) hz Y).x8 λh3 H6=>?_;have H7:=Qw.aa.nz (k:=bi) (n:=n) e4 H6;exact⟨c.1,by rw[E],fin (h3:=h3) (by rw[E];exact H7)⟩
 .rw[qY i6]at p;rw[p];exact⟨i5,F⟩
end
def acw(a b:eE):Int:=if fO a.1 b.1 then-1 else if kC a.1 b.1 then 0 else 1
def lp(a b:eE):Bool:=kC a.1 b.1
theorem PP(a b:eE):acw a b<0↔¬lp b a=eS:=by unfold acw lp kC;cases h:fO a.1 b.1<;>simp;split<;>omega
theorem Fu:Ord lp:=⟨λa b c=>ED a.1 b.1 c.1,λa b=>EE a.1 b.1⟩
abbrev PQ(x:eE):Value:=xZ #[xX x.1,xU ka x.2.1,xU ka x.2.2.1,x.2.2.2]
theorem Nw(x y:ByteArray)(h:f9):ai kg 157 #[xX x,xX y] h λv h'=>v=xU ka (if fO x y then-1 else if kC x y then 0 else 1)/\h'=h:=by
 refine ts Tryz.func157 ?_;have a:∀z:ByteArray,ai kg 221 #[xX z] h λv h'=>v=xY eX/\h'=h:=λz=>by
  refine ts Tryz.func221 ?_;exact⟨js,i5⟩
 refine(a x).x7 ⟨_,i5,(a y).x7 ?_⟩;refine⟨_,i5,aP (λe=>j3) λ_=>aP (λe=>j3) λ_=>?_⟩;have c:Op.bytesLess x.toList y.toList=fO x y:=rfl;rw[NW,c];have d:(!Op.bytesLess y.toList x.toList)=kC x y:=rfl;rw[d];refine aP (λe=>⟨m7,i5⟩) λe=>aX (λb=>⟨by rw[e,b];rfl,i5⟩) λb=>⟨by rw[e,b];rfl,i5⟩
theorem We(a b:eE)(h:f9):ai kg 156 #[PQ a,PQ b] h λv h'=>v=xU ka (acw a b)/\Sp h h' []:=by refine ts Tryz.func156 ?_ (args:=[a,b]);refine(Sp.refl h).boxed λi f e=>e.boxed λg d c=>?_;refine⟨a.1,(c.box 0 i5).cell0 i5,b.1,(c.box 1 i5).cell0 i5,(Nw a.1 b.1 d).x7 ?_⟩;exact⟨_,i5,i5,.zip c.ac⟩
abbrev BH(s:Sl)(d:List eE):HP:=aq 51 s 4 bW d
variable {h':f9} {s:Sl}
section
variable {d:List eE}
theorem Ss{b c:List eE}{y:eE}(d:Sd lp (b++c))(f:∀z∈b,lp z y=eS)(g:∀z∈c,¬lp z y=eS):Sd lp (b++y::c):=
 Sd.app Fu d.left (zu.2 ⟨λz a=>Fu.Ez (g z a),d.right⟩) λx e z a=>by
  rcases qX.1 a with rfl|a
  .exact f x e
  .exact d.Gn x e z a
theorem JI(X M Y:List eE)(a b:Int)(ha:a=(i4 X:Int))(hb:b=(i4 X+i4 M:Nat))(al:i4 X+i4 M+i4 Y<=2^40)(H:aa B h0 h (BH s (X++(M++Y))::As)):
  ai kg 274 #[s,xU ka a,xU ka b,.func (.func 156) #[] #[]] h λv h'=>v=.tuple #[]/\∃M',Sd lp M'/\cC lp M M'/\aa B h0 h' (BH s (X++(M'++Y))::As):=by
 refine ts Tryz.func274 ?_ (xc (v7 (ws [(8,aR)] [(8,10),(12,53)] (xc (u9 (v7 (xc (v7 (ws [(9,aR)] [(9,10),(18,53)] (x6 [] [(18,35)] v6))))) v6))))) (args:=[s,(a:Int),(b:Int),(.func (.func 156) #[] #[])]);subst ha;subst hb;rw[af ((i4 X:Int)+1)];refine an (λt:Nat×List eE=>((i4 X+1+t.1:Nat):Int)) (λt h'=>(t.1+1<=i4 M∨t.1=0)/\Sd lp t.2/\cC lp (M.take (t.1+1)) t.2/\t.2.length=i4 (M.take (t.1+1))/\aa B h0 h' (BH s (X++(t.2++(M.drop (t.1+1)++Y)))::As)) (λt=>i4 M-t.1) (0,M.take 1) i5 ?_ ?_
 .refine⟨.inr i5,?_,cC.refl _,i5,?_⟩
  .cases M with
   |nil=>exact List.Pairwise.nil
   |cons x M=>exact zu.2 ⟨λ_ h=>p5,js⟩
  .rw[<-qm (M.take (0+1)),List.take_append_drop];exact H
 rintro⟨t,P⟩ h1 ⟨ht,r,E,ad,R⟩;dsimp only at*;refine ae (λe=>?_) (λe=>?_)
 .have J:t+1<i4 M:=i6
  obtain⟨y,hy⟩:=z6 (M[t+1])
  have I:i4 P=t+1:=by rw[ad];simp;omega
  have eD:M.drop (t+1)=y::M.drop (t+1+1):=by rw[qJ J,hy]
  rw[eD]at R;refine an (λu:List eE×List eE=>((i4 X+i4 u.1:Nat):Int)) (λu h'=>u.1++u.2=P/\(∀z∈u.2,¬lp z y=eS)/\aa B h0 h' (BH s (X++(u.1++(y::(u.2++(M.drop (t+1+1)++Y)))))::As)) (λu=>i4 u.1) (P,[]) (by dsimp only;rw[I];congr 1;omega) ⟨js,js,by simpa using R⟩ ?_;rintro⟨c,d⟩ h2 ⟨L,f,N⟩;dsimp only at*;have ah:i4 c+i4 d=t+1:=by rw[<-I,<-L,qu]
  have l:∀{h':f9},(∀z∈c,lp z y=eS)->aa B h0 h' (BH s (X++(c++(y::(d++(M.drop (t+1+1)++Y)))))::As)->
    ∃k:Nat×List eE,qd ka (((i4 X+1+t:Nat):Int)+1)=((i4 X+1+k.1:Nat):Int)/\((k.1+1<=i4 M∨k.1=0)/\Sd lp k.2/\cC lp (M.take (k.1+1)) k.2/\k.2.length=i4 (M.take (k.1+1))/\aa B h0 h' (BH s (X++(k.2++(M.drop (k.1+1)++Y)))::As))/\M.length-k.1<i4 M-t:=λ{h'} hle H'=>by
   refine⟨(t+1,c++y::d),by dsimp only;rw[af _];omega,⟨.inl i9,?_,?_,?_,?_⟩,i9⟩
   .exact Ss q0 hle f
   .try dsimp only
    rw[aG M (t+1) J,<-hy];have h1:cC lp (M.take (t+1)++[y]) (P++[y]):=E.app (cC.refl _);refine h1.trans ?_;rw[<-L,qm];have h2:cC lp (d++[y]) ([y]++d):=cC.XX Fu λx hx z V=>by rw[qw.1 V];exact f x hx
    exact(cC.refl _).app h2
   ·(try dsimp only);simp;omega
   .try dsimp only
    have:X++((c++y::d)++(M.drop (t+1+1)++Y))=X++(c++(y::(d++(M.drop (t+1+1)++Y)))):=js
    rw[this];exact H'
  obtain⟨D,S⟩:=z6 (X++(c++(y::(d++(M.drop (t+1+1)++Y)))))
  refine bF (λ_ h'=>∃(Q:List eE) (z:eE),c=Q++[z]/\¬lp z y=eS/\aa B h0 h' (BH s D::As)) ?_ ?_
  .rw[<-S]at N l;refine ae (λO=>?_) (λO=>⟨A0,l (λz V=>?_) N⟩)
   .have K:c≠[]:=λh=>by rw[h]at O;simp at O
    obtain⟨Q,z,o⟩:∃(Q:List eE) (z:eE),c=Q++[z]:=⟨c.dropLast,c.getLast K,(List.dropLast_concat_getLast K).symm⟩
    have ab:i4 c=i4 Q+1:=by rw[o];simp
    have g1:D[i4 X+i4 c]?=dB y:=by rw[S,qk i6,show X.length+i4 c-i4 X=i4 c by omega,qk i6,za];rfl
    have g2:D[i4 X+i4 c-1]?=dB z:=by rw[S,qk i6,show X.length+i4 c-1-i4 X=i4 Q by omega,o,qm,qk (qi _),za];rfl
    obtain⟨T,F⟩:=ql.1 g1;obtain⟨U,q⟩:=ql.1 g2;refine(N.seq 0 i5 λ_=>rfl).dO (g:=bW) _ i5 T y (by rw[F]) ?_;have W:qd ka (((i4 X+i4 c:Nat):Int)-1)=((i4 X+i4 c-1:Nat):Int):=j7
    rw[W];refine(N.seq 0 i5 λ_=>rfl).dO (g:=bW) _ i5 U z (by rw[q]) (eJ k8 ?_);refine(We y z h2).x8 λh3 R3=>?_;have G:=N.up R3.ac;refine⟨_,i5,A0,ae (λZ=>⟨Q,z,o,(PP y z).1 Z,G⟩) λZ=>l (λw m=>?_) G⟩;have p:lp z y=eS:=by
     by_cases hc:lp z y=eS
     .exact hc
     .exact absurd ((PP y z).2 hc) Z
    rw[o]at m;rcases qt.1 m with m|m
    .refine Fu.trans _ _ _ ?_ p;have:Sd lp (Q++[z]):=by rw[<-o];exact Sd.left (v:=d) q0
     exact this.Gn w m z js
    .rw[qw.1 m];exact p
   .have:c=[]:=by
     cases c with
     |nil=>rfl
     |cons x P=>exfalso;simp only[q8]at O;omega
    rw[this]at V;cases V
  .rintro _ h3 ⟨Q,z,o,p,G⟩;have ab:i4 c=i4 Q+1:=by rw[o];simp
   have A:D=(X++Q)++z::([]++y::(d++(M.drop (t+1+1)++Y))):=by rw[S,o];simp
   obtain⟨q1,q2,q3,q4⟩:=PC (X++Q) [] (d++(M.drop (t+1+1)++Y)) z y (i:=i4 X+i4 c-1) (j:=i4 X+i4 c) jj jj;rw[<-A]at q1 q2 q3 q4;obtain⟨U,q⟩:=ql.1 q1;obtain⟨T,F⟩:=ql.1 q2;have W:qd ka (((i4 X+i4 c:Nat):Int)-1)=((i4 X+i4 c-1:Nat):Int):=j7
   rw[W];refine(G.seq 0 i5 λ_=>rfl).dO (g:=bW) _ i5 U z (by rw[q]) ?_;refine(G.seq 0 i5 λ_=>rfl).dO (g:=bW) _ i5 T y (by rw[F]) ?_;refine G.set ag 0 i5 (λ_=>rfl) i5 (i4 X+i4 c) i5 T z i5 i5 i5 λh4 H4=>⟨A0,?_⟩
   refine H4.set ag 0 i5 (λ_=>rfl) i5 (i4 X+i4 c-1) i5 (by simpa using U) y i5 i5 i5 λh5 H5=>⟨A0,?_⟩
   refine⟨(Q,z::d),by dsimp only;congr 1;omega,⟨by dsimp only;rw[<-L,o];simp,?_,?_⟩,i9⟩
   .try dsimp only
    intro w m;rcases qX.1 m with rfl|m
    .exact p
    .exact f w m
   .try dsimp only
    have:X++(Q++(y::(z::d++(M.drop (t+1+1)++Y))))=(X++Q)++y::([]++z::(d++(M.drop (t+1+1)++Y))):=js
    rw[this,<-q4];exact H5
 .refine⟨i5,P,r,?_,?_⟩
  .rw[qh i6]at E;exact E
  .rw[qY i6]at R;simpa using R
theorem PR(r:Nat)(h:f9)(b:r<=2^32):ai kg 110 #[xU kf r] h λv h'=>(∃k:Int,v=xU ka k)/\h'=h:=by intro w a;refine(Tryz.bits_Len (r:Int) w i6 i6).mono ?_;rintro e w' ⟨rfl,rfl⟩;exact⟨_,i5,dC.refl _,⟨_,i5⟩,a⟩
theorem Wf(d:List eE)(m:i4 d<=12)(H:aa B h0 h (BH s d::As)):
  ai kg 155 #[s,.func (.func 156) #[] #[]] h λv h'=>v=.tuple #[]/\aa B h0 h' (BH s (d.mergeSort lp)::As):=by
 refine ts Tryz.func155 ?_ (args:=[s,(.func (.func 156) #[] #[])]);have l:=(H.own 0 i5).len;have a:∀k:Int,ai kg 220 #[s,xU ka 0,xU ka (s.len:Nat),xU ka k,.func (.func 156) #[] #[]] h λv h'=>v=.tuple #[]/\aa B h0 h' (BH s (d.mergeSort lp)::As):=λk=>by
  refine ts Tryz.func220 ?_ (xc (xc (v7 (ws [(1,aR),(2,aR),(3,aR),(10,lj),(11,lj)] [(1,4),(10,148)] (v7 (xc (xc (xc (x6 [(3,aR)] [(3,4),(38,47)] (xc (x6 [(13,aR),(14,aR)] [(13,15),(55,68)] (x6 [] [(68,81)] (u9 (xa [(1,aR)] [(1,2),(15,16),(81,105)] (x6 [(97,lj)] [(81,98)] v6)) v6))))))))))))) (args:=[s,(0:Int),((s.len:Nat):Int),(k:Int),(.func (.func 156) #[] #[])]);refine an (λ_:Unit=>((0:Int),((s.len:Nat):Int),k,eS,eS)) (λ_ h'=>h'=h) (λ_=>0) () i5 i5 ?_;rintro _ g rfl;refine ae (λ_=>?_) λe=>absurd (show qd ka (((s.len:Nat):Int)-0)<=12 by rw[af _];omega) e;refine(JI [] d [] 0 (s.len:Nat) i5 (by simp[l]) jj m5).mono ?_;rintro _ c ⟨rfl,M,i,j,b⟩;refine⟨(),i5,i5,?_⟩;rw[<-aed Fu i j];simpa using b
 have f:qd kf ((s.len:Nat):Int)=((s.len:Nat):Int):=by unfold qd;simp[qz,vp];omega
 rw[f];refine(PR s.len h i6).mono ?_;rintro _ g ⟨⟨k,rfl⟩,rfl⟩;refine⟨k,i5,(a k).x8 λc b=>?_⟩;exact⟨(),i5,i5,b⟩
end
def ahP:bw:=(0,0,0,0,0,0,⟨eH,0,0⟩,⟨eH,0,0⟩)
theorem Su{m:au}{e:Qw.bU}{xe:eE}{L:List (eE×Qw.bU)}{pool:List (Sl×av)}(j:L.map zw=m.aA)(i:∀p∈L,Di pool p)(h:Di pool (xe,e)):
  ∃g:List (eE×Qw.bU),g.map qD=(L.map qD++[xe]).mergeSort lp/\g.map zw=(m.aA++[e]).mergeSort sM/\∀p∈g,Di pool p:=by
 have c:∀p∈L++[(xe,e)],Di pool p:=λp d=>by
  rcases qt.1 d with d|d
  .exact i p d
  .rw[qw.1 d];exact h
 refine⟨(L++[(xe,e)]).mergeSort λa b=>lp a.1 b.1,?_,?_,λp d=>c p ((we _ _).mem_iff.1 d)⟩
 .rw[vS (r:=λa b=>lp a.1 b.1) (s:=lp) (f:=qD) λa _ b _=>rfl,qP];rfl
 .rw[vS (r:=λa b=>lp a.1 b.1) (s:=sM) (f:=zw) (λa k b l=>by unfold lp sM;rw[(c a k).1.1,(c b l).1.1]),qP,j];rfl
theorem Zg(x:bw)(m:au)(xe:eE)(e:Qw.bU)(Q:cN h x m)(F:cw m)(hs:0<=m.seq/\m.seq<=2^40)(hn:0<=m.next/\m.next<=2^40)(ho:m.aA.length<=11)(K:xe.1=e.name/\xe.2.1=e.object/\xe.2.2.1=e.length)(H:aa B h0 h (tO xe.2.2.2 1 az e.tries::As)):
  ai kg 94 #[eO x,PQ xe] h λv h'=>∃y:bw,v=eO y/\aa B h0 h' (bJ y (dK m e)::As):=by
 refine ts Tryz.func94 ?_ (args:=[x,xe]);refine(Sp.refl h).boxed λZ h1 D=>D.boxed λJ Y I=>I.alloc ag i5 λa3 h3 k=>?_;refine⟨x,(k.box 0 i5).aE _ i5,(oc x m h3 (Q.up k.ac) F).mono ?_⟩;rintro _ W ⟨y,L,pool,rfl,i,s,r,G⟩;have T:=((k.bO [1,2]).comp G).front;refine⟨y,i5,T.alloc ag i5 λA V j=>?_⟩;have j:=j.aZ;refine j.storeAll ag 0 i5 i5 (aV y) i5 i5 i5 i5 λX u=>?_;refine⟨y.1,(u.box 0 i5).cell0 i5,?_⟩;have P:qd ka (y.1+1)=m.seq+1:=by rw[i.1,af _]
 have U:qd ka (y.2.1+1)=m.next+1:=by rw[i.2.1,af _]
 try dsimp only
 rw[P];refine u.fM ag 0 i5 i5 [xU ka (m.seq+1)] i5 i5 i5 k7 λh7 t=>?_;refine⟨y.2.1,(t.box 0 i5).cell i5,?_⟩
 try dsimp only
 rw[U];refine t.store ag 0 i5 i5 1 [xU ka (m.next+1)] i5 i5 i5 k7 λh8 q=>?_;have M:L.length=m.aA.length:=by rw[<-s,qp]
 refine⟨y.2.2.2.2.2.2.2,(q.box 0 i5).cell i5,xe,(q.box 4 i5).aE _ i5,?_⟩;refine q.push ag 3 i5 Lh i5 i7 (λ_=>rfl) Lg xe i5 i7 jj λo z n=>?_;refine n.store ag 0 i5 i5 7 [o] i5 i5 i5 k7 λl b=>?_;obtain⟨c,a⟩:∃c:bw,c=(m.seq+1,m.next+1,y.2.2.1,y.2.2.2.1,y.2.2.2.2.1,y.2.2.2.2.2.1,y.2.2.2.2.2.2.1,o):=⟨_,rfl⟩
 have R:c.2.2.2.2.2.2.1=y.2.2.2.2.2.2.1:=by rw[a]
 have E:c.2.2.2.2.2.2.2=o:=by rw[a]
 have b:Sp h l [ak A 48 (aV c),jE 1 az pool,aq 3 c.2.2.2.2.2.2.1 1 az m.drives,aq 51 c.2.2.2.2.2.2.2 4 bW (L.map qD++[xe]),ak J 51 (bW xe),ak a3 48 (aV ahP)]:=by rw[R,E,a];exact b
 refine⟨c.2.2.2.2.2.2.2,(b.box 0 i5).cell i5,?_⟩;have b:=b.aI 6 [3,0,1,2,4,5];refine(Wf (L.map qD++[xe]) jj b).x8 λO d=>⟨(),i5,c,(d.box 1 i5).aE _ i5,?_⟩;refine d.storeAll ag 5 i5 i5 (aV c) i5 i5 i5 i5 λN f=>?_;refine⟨c,(f.box 5 i5).aE _ i5,c,i5,?_⟩;obtain⟨L',l1,l2,S⟩:=Su (pool:=(xe.2.2.2,e.tries)::pool) (m:=m) (e:=e) (xe:=xe) s (λp w=>⟨(r p w).1,qC _ (r p w).2⟩) ⟨K,qQ⟩;have g:=((H.comp (f.bO [2,3,0])).front).aI 4 [0,3,1,2];have g:=aa.Ug g;rw[<-l1]at g;refine aa.Aj (m:=dK m e) ⟨sp,sp,by rw[a];exact i.2.2.1,by rw[a];exact i.2.2.2⟩ l2 S g
section
variable {pw:f7}
theorem aa.Zh{x y:bw}(H:aa B h0 h (bc bi a pw (aV x) offs da w ds::As)){K:Unit->f9->Prop}(b:∀h',aa B h0 h' (bc bi a pw (aV y) offs da w ds::As)->K () h'):
  aj kg (qF 48 (xW (dB a)) (eO y)) h K:=by
 obtain⟨ok,c⟩:=Qw.aa.oZ H;refine c.fM ag 0 i5 i5 (aV y) i5 i5 i5 js λh' d=>b h' ?_;exact aa.pv (k:=bi) ⟨i5,ok.la,ok.ls,ok.same⟩ d
theorem JJ(x z:bw)(b:au)(s:Sl)(l:av)(g:St B h0 As λh=>cN h z b/\Rd h s 1 az l)(j:cw b)(t:i4 l<=2^10)(m:∀k∈l,0<=k/\k<64)(H:aa B h0 h (bc bi a pw (aV x) offs da w ds::As)):
  ai kg 98 #[xW (dB a),eO z,s] h λv h'=>v=xU ka (layAll (bA b l) w ds).1/\
   ((layAll (bA b l) w ds).1≠0->aa B h0 h' (bc bi a pw (aV x) offs da (layAll (bA b l) w ds).2.1 (layAll (bA b l) w ds).2.2::As))/\
   ((layAll (bA b l) w ds).1=0->∃y,aa B h0 h' (bc bi a pw (aV y) offs da (layAll (bA b l) w ds).2.1 (layAll (bA b l) w ds).2.2::bJ y b::As)):=by
 refine ts Tryz.func98 ?_ (args:=[(dB a),z,s]);refine H.boxed λN E c=>?_;have c:=c.aZ;refine⟨z,(c.box 0 i5).aE _ i5,(BD z b s l E (g.at [_,_] c).1 j (g.at [_,_] c).2 t).mono ?_⟩;rintro _ M ⟨r,F,rfl,G⟩;have D:=(c.bS G).aI 3 [2,0,1];have d:=iN b j;have p:=zK t d;refine⟨r,i5,(tp r F (bA b l) (St.cR 0 i5 λ_ n=>n) (by rw[sP];omega) (λq n=>?_) D).mono ?_⟩
 .obtain⟨o,i⟩:=jg n;rw[i];exact⟨m _ o,i7⟩
 rintro _ h3 ⟨rfl,f⟩;obtain⟨R,I⟩:=z6 (layAll (bA b l) w ds)
 rw[<-I]at f⊢;refine⟨_,i5,bH (λe=>⟨i5,λ_=>f.aI 3 [0],λh=>absurd h e⟩) λe=>?_⟩;refine⟨z,(f.box 2 i5).aE _ i5,(Ju z b h3 (g.at [_,_,_] f).1 j).y0 λy L A=>?_⟩;have J:=(f.bS A).aI 4 [1,0];refine⟨y,i5,a,i5,aa.Zh J λK u=>?_⟩;exact⟨by rw[e],λh=>absurd e h,λ_=>⟨y,u⟩⟩
def cJ(name:ByteArray)(e:Qw.bU):Bool:=e.name.toList==name.toList
theorem find_spec(x:bw)(m:au)(name:ByteArray)(r:cN h x m)(q:cw m)(H:aa B h0 h (bc bi a pw (aV x) offs da w ds::As)):
  ai kg 100 #[xW (dB a),xX name] h λv h'=>(∃i:Int,v=xU ka i/\VX (cJ name) m.aA i)/\Sp h h' []:=by
 refine ts Tryz.func100 ?_;refine(Sp.refl h).boxed λd k b=>?_;have o:bN k d 9 [xX name]:=b.box 0 i5;obtain⟨ok,l⟩:=aa.cj H;have e:=l.ac b.ac l.lt;have g:=q.ob;refine⟨a,i5,x.2.2.2.2.2.2.2,e.cell i5,?_⟩;refine(Hb 160 #[] #[xW (dB d)] (cJ name) x.2.2.2.2.2.2.2 m.aA k k8 (r.up b.ac).aA g ?_).mono ?_
 .intro u E j f s y;refine ts Tryz.func160 ?_ (args:=[u,d]);refine(Sp.refl j).boxed λz h3 c=>?_;have n:=(o.ac f.ac o.lt)
  have p:=n.ac c.ac n.lt;refine⟨u.1,(c.box 0 i5).cell0 i5,name,p.cell0 i5,?_,.zip c.ac⟩;unfold cJ;rw[s.1.1]
 .rintro _ j ⟨⟨i,rfl,t⟩,f⟩;exact⟨i,i5,⟨i,i5,t⟩,.zip (aa.up b f.ac).ac⟩
theorem py{b:aW}(H:aa B h0 h (bc bi a pw b offs da w ds::As)):ai kg 99 #[xW (dB a)] h λv h'=>v=xY (cF w offs)/\h'=h:=by refine ts Tryz.func99 ?_;refine aP (λe=>j3) λ_=>(sg H).x7 ⟨_,i5,i5,i5⟩
def cT(m:au)(down:Bool)(ds:aD)(name:ByteArray)(n:Nat):Int:=
 if down then 14 else if !kW name then 3 else if m.aA.any (cJ name)then 4
 else if m.p.1*m.p.2.2*8<(n:Int)∨12<=i4 m.aA then 6
 else if aK ds m.drives=[]∨16777215<m.next∨2147483647<=m.seq then 7 else 0
theorem PS(x:bw)(m:au)(name:ByteArray)(s:Sl)(n:Nat)(Z:s.len=n)(y:name.size<=2^40)(V:cN h x m)(I:cw m)(W:bB m.p=eS)(H:aa B h0 h (bc bi a pw (aV x) offs da w ds::As)):
  ai kg 90 #[xW (dB a),xX name,s] h λv h'=>v=xU ka (cT m (cF w offs) ds name n)/\Sp h h' []:=by
 refine ts Tryz.func90 ?_ (xc (u9 (v7 (xc (xc (xc (xc (xc (xc (x6 [(19,lj)] [(19,46)] v6)))))))) v6));have M:=(bK m.p).1 W;refine(py H).mono ?_;rintro _ D ⟨rfl,rfl⟩;refine⟨_,i5,aP (λe=>⟨by unfold cT;rw[e];rfl,Sp.refl _⟩) λo=>?_⟩;refine(Mz name D y).x8 λY l=>⟨_,i5,aX (λe=>⟨by unfold cT;rw[o,e];rfl,l⟩) λG=>?_⟩;have K:=H.up l.ac;have j:=V.up l.ac;refine(find_spec x m name j I K).mono ?_;rintro _ h3 ⟨⟨i,rfl,X⟩,u⟩;have A:Sp D h3 []:=.zip (aa.up l u.ac).ac;have d:=PJ X;refine⟨i,i5,aP (λe=>⟨by unfold cT;rw[o,G,<-d,e];rfl,A⟩) λT=>?_⟩;rw[T]at d;have J:=K.up u.ac;have b:=j.up u.ac;obtain⟨ok,g⟩:=aa.cj J;have U:=bM.len b.aA;have F:x.2.2.1=m.p.1:=congrArg (·.1) b.p;have E:x.2.2.2.2.1=m.p.2.2:=congrArg (·.2.2) b.p;have hk:m.p.1*m.p.2.2<=16*24:=Int.mul_le_mul i6 i6 i6 i6;have S:0<=m.p.1*m.p.2.2:=v8 i6 i6;refine bF (λ(t:Bool) h'=>t=decide (m.p.1*m.p.2.2*8<(n:Int)∨12<=i4 m.aA)/\h'=h3) ?_ ?_
 .refine⟨a,i5,x.2.2.1,g.cell i5,a,i5,x.2.2.2.2.1,by rw[addr_add];exact g.cell i5,?_⟩
  try dsimp only
  rw[F,E,af (m.p.1*m.p.2.2),af (m.p.1*m.p.2.2*8)];refine ae (λe=>⟨(hU (.inl i6)).symm,i5⟩) λe=>?_;refine⟨a,i5,x.2.2.2.2.2.2.2,g.cell i5,?_,i5⟩;rw[decide_eq_decide];omega
 rintro t _ ⟨rfl,rfl⟩;refine ae (λe=>⟨by unfold cT;rw[o,G,<-d,g0 e];rfl,A⟩) λO=>?_;have Q:cT m (cF w offs) ds name n=if aK ds m.drives=[]∨16777215<m.next∨2147483647<=m.seq then 7 else 0:=by unfold cT;rw[o,G,<-d,g9 O];rfl
 rw[Q];refine(dt x m b I J).y0 λr L z=>?_;have f:=(z.own 0 i5).len;have c:Sp D L []:=.zip (aa.up A z.ac).ac;have k:=g.ac z.ac g.lt;refine⟨r,i5,aY (λe=>⟨by rw[g0 (.inl (qU i6))],c⟩) λe=>?_⟩;have q:aK ds m.drives≠[]:=λR=>by rw[R]at f;simp at f;omega
 refine⟨a,i5,x.2.1,k.cell i5,ae (λe=>⟨by rw[g0 (.inr (.inl (by rw[<-b.next];omega)))],c⟩) λe6=>?_⟩;have N:=b.next;have P:=b.seq;refine⟨a,i5,x.1,k.cell0 i5,ae (λe=>⟨by rw[g0 (.inr (.inr i6))],c⟩) λe7=>⟨?_,c⟩⟩;rw[g9];rintro(h|h|h)
 .exact q h
 .omega
 .omega
end
theorem PT:∃i a,C.T.get 34=dB i/\i.cv=.slice a:=⟨_,_,i5,i5⟩
def pz(A B:aO)(k:Nat):aO:=fE (A.take k) (B.take k)++A.drop k
theorem tq{A B:aO}(h:i4 B=i4 A)(k:Nat):i4 (pz A B k)=i4 A:=by simp[pz,fE,h];omega
theorem Zi{A B:aO}(h:i4 B=i4 A){k:Nat}(a:k<i4 A):(pz A B k)[k]?=dB A[k]:=by
 have:i4 (fE (A.take k) (B.take k))=k:=by simp[fE];omega
 rw[pz,qk i6,this,za,wZ,yc,qc a]
theorem Zj{A B:aO}(h:i4 B=i4 A){k:Nat}(a:k<i4 A):(pz A B k).set k (A[k]++B[k]'i6)=pz A B (k+1):=by
 have b:i4 (fE (A.take k) (B.take k))=k:=by simp[fE];omega
 rw[pz,qN _ _ i6,b,za,qJ a,ze,pz,aG _ _ a,aG _ _ (show k<i4 B by omega),fE,fE,yZ jj,qm];rfl
theorem Zk{A B:aO}(h:i4 B=i4 A):pz A B A.length=fE A B:=by rw[pz,qL,<-h,qL,h,List.drop_length,qI]
theorem Wg(f:f7)(a b:Sl)(A B:aO)(n w:Nat)(h:f9)(hf:gn h f)(J:fm h a 1 aB A)(hb:fm h b 1 aB B)(hl:i4 A=n)(ay:i4 B=n)(i:aU n A)(K:aU w B)(ap:1<=n)(hn:n+w<=64)(hr:bP A=n):
  ai kg 207 #[xW (dB f),a,b] h λv h'=>∃r:Sl,v=.tuple #[r,xU ka 0]/\Sp h h' [fB 34 r 1 aB (gQ n A B)]:=by
 have d:i4 B=i4 A:=i6
 have T:=J.len;have F:=hb.len;refine ts Tryz.func207 ?_ (xc (x6 [] [(6,8),(17,37)] (xc (xc (u9 (xc (v7 (ws [(43,aR)] [(10,11),(43,59)] v6))) (xc (xc (u9 (xc (v7 (ws [(71,aR)] [(6,8),(13,14),(71,79)] v6))) (xc (x0 [(14,cE),(83,aR)] [(14,15),(16,17),(83,95)]))))))))));refine aJ ?_;refine(nB a A n h J i).mono ?_;rintro v h1 ⟨rfl,rfl⟩;refine⟨_,i5,aX (λe=>j3) λ_=>?_⟩;refine(nB b B w h1 hb K).mono ?_;rintro v H ⟨rfl,rfl⟩;refine⟨_,i5,aX (λe=>j3) λ_=>?_⟩;refine bH (λe=>absurd (by rw[T,F,d]) e) λ_=>?_;refine aY (λe=>i6) λ_=>?_;refine(sj a A H J).mono ?_;rintro v h3 ⟨rfl,rfl⟩;have S:dF A=n:=by
  cases A with
  |nil=>simp at hl;omega
  |cons x t=>rw[dF,bv js];exact i _ js
 refine⟨_,i5,?_⟩;rw[S];refine(Ao a A n h3 J i).mono ?_;rintro v h4 ⟨r,rs,rfl,ar,R4⟩;refine⟨r,i5,?_⟩;have al:=(R4.own 0 i5).len;refine an (λt:Nat×List Sl=>(t.1:Int)) (λt h'=>t.1<=n/\t.2.length=n/\Sp h3 h' (lD r t.2 (pz A B t.1))) (λt=>n-t.1) (0,rs) i5 ⟨js,i9,by simpa[pz,fE]using R4⟩ ?_;rintro⟨k,rs⟩ h5 ⟨hk,a0,z⟩;dsimp only at*;have E:i4 rs=i4 (pz A B k):=o1
 refine ae (λe=>?_) (λe=>?_)
 .have p:k<n:=i6
  have D:k<i4 A:=i6
  have I:=lV (a:=r) E k o1;have eg:(pz A B k)[k]'(by rw[tq d];omega)=A[k]:=by have:=Zi d D;rw[qc o1]at this;exact wj.inj this
  rw[eg]at I;have l1:A[k].length=n:=i _ (qe _);have l2:i4 (B[k]'i6)=w:=K _ (qe _);refine(z.seq 0 i5 λ_=>rfl).jS k i5 i6 λa1 O ab=>?_;refine(hb.up z.ac).get k i5 i6 λrb Y=>?_;refine z.append ag (k+1) I gm PT i5 i7 (λ_=>rfl) Y ib i6 λG h6 H6=>⟨A0,?_⟩
  refine H6.set ag 0 i5 (λ_=>rfl) i5 k i5 i6 G i5 i5 i5 λR H7=>⟨A0,?_⟩
  refine⟨(k+1,rs.set k G),j0,⟨i9,l5,?_⟩,i9⟩
  try dsimp only
  rw[<-Zj d D];show Sp h3 R (aq 34 r 1 bx (rs.set k G)::bu 5 1 aB (rs.set k G) ((pz A B k).set k _));rw[<-je E];exact H7
 .have P:k=i4 A:=i6
  subst P;rw[Zk d]at z;refine(ub f h5).mono ?_;rintro v h6 ⟨rfl,rfl⟩;refine⟨dB f,i5,?_⟩;have q:=nt d.symm i K;have a7:=mP d.symm;refine(BF (m:=fE A B) (n:=n+w) hf hf.lt i6 q i6 i6 i6 z).mono ?_;rintro v R ⟨g,rfl,ao,u⟩;rw[HS d.symm i,hr];refine⟨_,i5,?_⟩
  try dsimp only
  have am:=(u.own 0 i5).cap;have ax:=(u.own 0 i5).len;have H:=gA q n;refine ae (λe=>absurd (show(n:Int)<(n:Int)from e) i6) λ_=>?_;refine⟨⟨zP _,yU.2 (show n<=r.len by omega)⟩,?_⟩;refine an (λ_:Unit=>(0:Int)) (λ_ h'=>h'=R) (λ_=>0) () i5 i5 ?_;rintro _ h8 rfl;rw[qj];refine ae (λe=>i6) λ_=>?_;refine⟨⟨zP _,yU.2 (show n<=r.cap by omega)⟩,?_⟩;obtain⟨M,N⟩:=z6 ((bD (fE A B) n).2)
  have a6:i4 M=n:=by have:=H.2;rw[<-N]at this;omega
  have U:aU (n+w) M:=by rw[N];exact H.1
  have l:∀k (hk:k<n),(gQ n A B).take (k+1)=(gQ n A B).take k++[(M[k]'i6).drop n]:=λk hk=>by
   have e1:gQ n A B=M.map (List.drop n):=by rw[gQ,<-N,qh i6]
   rw[e1,aG _ _ jj,zU]
  have a2:i4 (gQ n A B)=n:=(uW d.symm i K hr).1;rw[<-N]at u;refine an (λt:Sl×Nat=>(t.1,(t.2:Int))) (λt h'=>t.2<=n/\Sp h8 h' [fB 34 t.1 1 aB ((gQ n A B).take t.2)]) (λt=>n-t.2) (⟨eH,0,0⟩,0) i5 ⟨js,(Sp.refl h8).CJ 34 1 aB⟩ ?_;rintro⟨s,k⟩ h9 ⟨a4,L⟩;dsimp only at*;have X:=u.comp L;have W:i4 g=i4 M:=i6
  refine ae (λe=>?_) (λe=>?_)
  .have p:k<n:=i6
   have I:=lV (a:=r) W k i6;have y:(lD r g M++[fB 34 s 1 aB ((gQ n A B).take k)])[k+1]?=dB (aq 5 (g[k]'i6) 1 aB (M[k]'i6)):=by rw[qq (by simp[bu];omega)];exact I
   have a3:i4 (M[k]'i6)=n+w:=U _ (qe _);have j:=X.own (k+1) y;have ad:=X.seq (k+1) y λ_=>rfl;have ah:=j.len;have o:=(X.seq 0 i5 λ_=>rfl).take n i6;rw[qh i6]at o;refine o.jS k i5 i6 λa1 O ab=>?_;refine⟨⟨zP _,yU.2 i6⟩,?_⟩;refine(fq _ _ h9 (ad.drop n j.cap) jj).y0 λc a5 Q=>?_;have V:=(L.comp Q).freeze 1 i5 λ_=>rfl;refine⟨c,i5,?_⟩;refine V.pj ag 0 1 i7 i5 i5 fh jj λs' a8 Z=>?_;refine⟨(s',k+1),j0,⟨i9,?_⟩,i9⟩
   try dsimp only
   rw[l k p];exact Z.del 1
  .rw[qh i6]at L;refine⟨s,i5,?_⟩;have:=(Sp.zip u.ac).comp L;exact this
def ja(p:Pm)(seed:Int)(l:Nat):Int:=if bB p&&decide ((l:Int)=p.1*p.2.2)then(if eK p seed (fj p)then 0 else 8)else 1
abbrev Fv(p:Pm)(seed:Int)(m:Sl):aW:=[xU ka p.1,xU ka p.2.1,xU ka p.2.2,xU ke seed,m]
theorem PU(p:Pm)(seed:Int)(data:Sl)(d:Row)(h:f9)(hd:Rd h data 1 aB d)(hc:data.len<=data.cap):
  ai kg 150 #[ir p,xU ke seed,data] h λv h'=>
   (ja p seed d.length=0->∃(b:f7) (m:Sl),v=.tuple #[xW (dB b),xU ka 0]/\Sp h h' [fB 34 m 1 aB (dP p seed d),ak b 262 (Fv p seed m)])/\
   (ja p seed d.length≠0->v=.tuple #[xW eH,xU ka (ja p seed d.length)]/\Sp h h' []):=by
 have Z:=hd.len;refine ts Tryz.func150 ?_ (xc (x6 [] [(6,8),(12,25)] (xc (xc (u9 (xc (v7 (ws [(8,cE),(31,aR)] [(8,9),(31,40)] v6))) (u9 (xc (v7 (ws [(8,cE),(42,aR)] [(8,10),(42,60)] v6))) (x6 [(10,cE),(11,aR)] [(10,12),(60,71)] v6))))))) [(15,(.l [1,2,3,6,0,4,5,7,8,9,10,11,12]))] (args:=[p,(xU ke (seed:Int)),data]);refine(Sp.refl h).boxed λa h1 H1=>?_;refine aJ ?_;refine⟨p,(H1.box 0 i5).aE _ i5,(eN p h1).mono ?_⟩;rintro v h2 ⟨rfl,R2⟩;have N:=H1.comp R2;have X:∀{h3:f9} (x:Int),x≠0->ja p seed d.length=x->Sp h h3 [ak a 25 [xU ka p.1,xU ka p.2.1,xU ka p.2.2]]->
   (ja p seed d.length=0->∃(b:f7) (m:Sl),Value.tuple #[xW eH,xU ka x]=.tuple #[xW (dB b),xU ka 0]/\Sp h h3 [fB 34 m 1 aB (dP p seed d),ak b 262 (Fv p seed m)])/\
   (ja p seed d.length≠0->Value.tuple #[xW eH,xU ka x]=.tuple #[xW eH,xU ka (ja p seed d.length)]/\Sp h h3 []):=λx hx P H=>by
  refine⟨λe=>absurd (P.symm.trans e) hx,λ_=>⟨by rw[P],.zip H.ac⟩⟩
 refine⟨_,i5,aX (λe=>X 1 i7 (by rw[ja,e];rfl) N) λT=>?_⟩;have am:=(bK p).1 T;obtain⟨K,hK⟩:∃K:Nat,p.1=K:=⟨p.1.toNat,i6⟩
 obtain⟨y,hH⟩:∃H:Nat,p.2.1=H:=⟨p.2.1.toNat,i6⟩
 obtain⟨w,O⟩:∃w:Nat,p.2.2=w:=⟨p.2.2.toNat,i6⟩
 have ao:K*w<=16*24:=zK i6 i6;have J:p.1*p.2.2=((K*w:Nat):Int):=by rw[hK,O,wy]
 refine⟨p.1,(N.box 0 i5).cell0 i5,p.2.2,(N.box 0 i5).cell i5,?_⟩
 try dsimp only
 rw[J,af _];refine bH (λe=>X 1 i7 (by rw[ja,T,ii (by rw[J];intro W;exact e (by rw[Z];exact W))];rfl) N) λel=>?_;have G:i4 d=K*w:=i6
 refine⟨p,(N.box 0 i5).aE _ i5,(JE p seed h2).mono ?_⟩;rintro v h3 ⟨rfl,R3⟩;have Y:=N.comp R3;have D:ja p seed d.length=if eK p seed (fj p)then 0 else 8:=by rw[ja,T,hU (by rw[J,G])];rfl
 refine⟨_,i5,aX (λe=>X 8 i7 (by rw[D,e];rfl) Y) λhf=>?_⟩;rw[hf,g0 rfl]at D;have B:co p seed d K y w (K+y):=⟨T,hf,hK,hH,O,i5,i6,i6,i6,i6,i6,i6,G⟩
 refine⟨p.2.1,(Y.box 0 i5).cell i5,?_⟩;refine an (λt:Sl×List Sl=>(t.1,(i4 t.2:Int))) (λt h'=>i4 t.2<=y/\Sp h h' (ak a 25 [xU ka p.1,xU ka p.2.1,xU ka p.2.2]::lD t.1 t.2 (qf t.2.length (aN w)))) (λt=>y-i4 t.2) (⟨eH,0,0⟩,[]) i5 ⟨js,Y.nil 34 1 bx⟩ ?_;rintro⟨s,rs⟩ h4 ⟨hk,R⟩;dsimp only at*;refine ae (λe=>?_) (λe=>?_)
 .refine⟨p.2.2,(R.box 0 i5).cell i5,?_⟩;refine R.make ag aB gm i7 0 i5 i5 w w O O (qi _) i6 λz h5 ah ap E=>?_;refine E.push ag 1 i5 fh i5 i7 (λ_=>rfl) jN z i5 i7 i6 λs' h6 H6=>?_;refine⟨(s',rs++[z]),by dsimp only;rw[af _];simp,⟨jj,?_⟩,jj⟩
  try dsimp only
  have e7:lD s' (rs++[z]) (qf rs.length (aN w)++[aN w])=aq 34 s' 1 bx (rs++[z])::(bu 5 1 aB rs (qf rs.length (aN w))++[aq 5 z 1 aB (aN w)]):=congrArg _ (pJ js z (aN w));rw[show(rs++[z]).length=i4 rs+1 by simp,List.replicate_succ',e7];exact H6
 .have L:i4 rs=y:=i6
  rw[L]at R;refine⟨p.1,(R.box 0 i5).cell0 i5,?_⟩;let own:=bu 5 1 aB rs (qf y (aN w));refine an (λt:Sl×Nat=>(t.1,(t.2:Int))) (λt h'=>t.2<=K/\Sp h h' (ak a 25 [xU ka p.1,xU ka p.2.1,xU ka p.2.2]::aq 34 t.1 1 bx (rs++(qn t.2).map (KP data w))::own)) (λt=>K-t.2) (s,0) i5 ⟨js,by simpa using R⟩ ?_;rintro⟨t,k⟩ h5 ⟨al,E⟩;dsimp only at*;refine ae (λW=>?_) (λW=>?_)
  .have U:k<K:=i6
   have m1:(k+1)*w<=K*w:=zi w U;have m2:k*w<=(k+1)*w:=zi w i6;refine⟨p.2.2,(E.box 0 i5).cell i5,p.2.2,(E.box 0 i5).cell i5,?_⟩;rw[af ((k:Int)+1)];have e5:(k:Int)*p.2.2=((k*w:Nat):Int):=by rw[O,wy]
   have e6:((k:Int)+1)*p.2.2=(((k+1)*w:Nat):Int):=by rw[O,wy];rfl
   try dsimp only
   rw[e5,e6,nR _,nR _,qj,qj];refine⟨⟨zP _,yU.2 m2,yU.2 i6⟩,?_⟩;refine E.push ag 1 i5 fh i5 i7 (λ_=>rfl) jN (KP data w k) i5 i7 jj λt' h6 H6=>?_;refine⟨(t',k+1),i5,⟨i9,?_⟩,i9⟩
   try dsimp only
   rw[zt,qP,<-qm];exact H6
  .have ad:k=K:=i6
   subst ad;refine aJ ?_;have F:fm h5 t 1 aB (kY k y w d):=by
    refine⟨rs++(qn k).map (KP data w),E.seq 1 i5 λ_=>rfl,by rw[EH];simp;omega,λi r l o u=>?_⟩;by_cases I:i<y
    .rw[qq i6,qc i6]at o;rw[kY,qq (by simpa using I)]at u;have hz:l=aN w:=by simp[I]at u;exact u.symm
     have hr:rs[i]'i6=r:=wj.inj o;have g:(ak a 25 [xU ka p.1,xU ka p.2.1,xU ka p.2.2]::aq 34 t 1 bx (rs++(qn k).map (KP data w))::own)[i+2]?=dB (aq 5 (rs[i]'i6) 1 aB ((qf y (aN w))[i]'(by simpa using I))):=fo (by simpa using L) i (by simpa using I);have:=E.seq (i+2) g λ_=>rfl;rw[List.getElem_replicate,hr]at this;rw[hz];exact this
    .obtain⟨j,rfl⟩:∃j,i=y+j:=⟨i-y,i6⟩
     rw[qk i6,L,wG]at o;rw[kY,qk js,List.length_replicate,wG]at u;have hj:j<k:=by have:=(ql.1 o).1;simpa using this
     simp[hj]at o u;have m1:(j+1)*w<=k*w:=zi w hj;rw[<-o,<-u];exact(Seq.up hd E.ac).piece hc w j i6
   have c:=E.box 0 i5;refine⟨p,c.aE _ i5,p,c.aE _ i5,(rx h5).mono ?_⟩;rintro v h6 ⟨f,rfl,R6⟩;have q:=c.ac R6.ac c.lt;refine⟨dB f,i5,⟨q.cell0 i5,q.cell i5,q.cell i5,q.cell0 i5,q.cell i5,q.cell i5,A0⟩,(JC p h6).mono ?_⟩;rintro v h7 ⟨r7,rfl,R7⟩;have Q7:=R6.comp R7;have M:=c.ac Q7.ac c.lt;refine⟨r7,i5,⟨M.cell0 i5,M.cell i5,M.cell i5,A0⟩,?_⟩;refine(He p seed r7 (fj p) h7 (Q7.seq 1 i5 λ_=>rfl) (by rw[fj,gP];omega)).mono ?_;rintro v h8 ⟨r8,rfl,R8⟩;have S:=Q7.comp R8;refine⟨r8,i5,A0,?_⟩;refine(Wg f r8 t _ _ (k+y) w h8 (S.box 0 i5) (S.DJ 2 i5) (F.up S.ac) B.EG (by rw[EH]) B.Gv (uy B.len) i6 i6 B.KW).y0 λr9 h9 R9=>?_;have Q9:=S.comp R9;refine⟨(r9,0),i5,A0,?_⟩;refine bH (λe=>absurd i5 e) λ_=>?_;have ab:=c.ac Q9.ac c.lt;refine⟨p,ab.aE _ i5,?_⟩;refine Q9.boxed (t:=262) λb ar V=>?_;refine⟨λ_=>⟨b,r9,i5,?_⟩,λe=>absurd D e⟩;have Q:=(Sp.zip E.ac).comp V;rw[<-B.DM]at Q;exact Q.take 3 (λi A I=>by
    cases i with
    |zero=>exact I
    |succ i=>cases i with
     |zero=>exact I
     |succ i=>simp at I)
def Aq(h:f9)(b:f7)(p:Pm)(seed:Int)(M:aO):Prop:=∃m:Sl,bN h b 262 (Fv p seed m)/\fm h m 1 aB M
theorem Aq.up{h h':f9}{b:f7}{p:Pm}{seed:Int}{M:aO}(e:Aq h b p seed M)(c:aS (λb=>b<h.size) h h'):Aq h' b p seed M:=by obtain⟨m,a,d⟩:=e;exact⟨m,a.ac c a.lt,d.up c⟩
theorem Sv{a t:Row}(b:i4 a=i4 t){k:Nat}(d:k<i4 t):(zc (λx y=>y^^^Gf.mul 1 x) (a.take k) (t.take k)++t.drop k).set k (t[k]^^^(a[k]'i6))=zc (λx y=>y^^^Gf.mul 1 x) (a.take (k+1)) (t.take (k+1))++t.drop (k+1):=by have:=Ap (c:=1) b d;rw[Gf.one_mul]at this;exact this
theorem ahQ{a t:Row}(b:i4 a=i4 t){k:Nat}(c:k<i4 t):(zc (λx y=>y^^^Gf.mul 1 x) (a.take k) (t.take k)++t.drop k)[k]?=dB t[k]:=by
 have d:i4 (zc (λx y=>y^^^Gf.mul 1 x) (a.take k) (t.take k))=k:=jj
 rw[qk i6,d,za,wZ,yc,qc c]
theorem BI(b:f7)(p:Pm)(seed id:Int)(M:aO)(n w:Nat)(h:f9)(hb:Aq h b p seed M)(I:bB p=eS)(Y:p.2.2=w)(hn:(bp p).toNat=n)(X:aU w M)(hl:i4 M=n):
  ai kg 152 #[xW (dB b),xU ka id] h λv h'=>∃r:Sl,v=r/\Sp h h' [aq 5 r 1 aB (if bE id then gx w M (df n seed id)else[])]:=by
 obtain⟨m,g,O⟩:=hb;have ax:=O.len;have ar:=(bK p).1 I;have hc:bp p=p.1+p.2.1:=by rw[bp,g0 I]
 refine ts Tryz.func152 ?_ (xc (x6 [] [(4,5),(10,20)] (xc (u9 (xc (v7 (ws [(37,aR)] [(7,10),(37,63)] (xc (xc (u9 (v7 (xc (xc (v7 (ws [(49,aR)] [(8,10),(49,62)] v6))))) v6)))))) v6)))) [(4,(.l [0,1,2,3,4,5,6,7,8,11,9,10]))];have R:bE id=eX->∃r:Sl,Value.slice eH 0 0=xV r.ptr r.len r.cap/\Sp h h [aq 5 r 1 aB (if bE id then gx w M (df n seed id)else[])]:=λe=>by
  rw[e];exact⟨⟨eH,0,0⟩,i5,(Sp.refl h).nil 5 1 aB⟩
 refine aJ (aP (λe=>j3) λ_=>ae (λe=>R l6) λe1=>ae (λe=>R l6) λQ=>?_);have hid:bE id=eS:=l6
 refine⟨b,i5,p.2.2,g.cell i5,?_⟩;refine(Sp.refl h).make ag aB gm i7 0 i5 i5 w w Y Y (qi _) i6 λo h1 al ap W=>?_;have D:=g.ac W.ac g.lt;refine⟨b,i5,p,D.aE _ i5,b,i5,seed,D.cell i5,(Bh p seed id h1).y0 λc h2 U=>?_⟩;rw[I,hid,Bool.and_self,g0 rfl,hn]at U;rw[hid,g0 rfl];have K:=W.comp U;obtain⟨d,j⟩:=z6 (df n seed id)
 have z:∀x∈d,0<=x/\x<(n:Int):=λx P=>mf i6 i6 (by rw[<-j];exact P);have V:i4 d<=n:=by rw[j];exact td i6 i6 _ _
 rw[<-j]at K⊢;have ao:=(K.seq 1 i5 λ_=>rfl).len;refine⟨c,i5,A0,?_⟩;refine an (λi:Nat=>(i:Int)) (λi h'=>i<=i4 d/\Sp h h' [aq 5 o 1 aB (gx w M (d.take i)),aq 3 c 1 az d]) (λi=>i4 d-i) 0 i5 ⟨i6,K⟩ ?_;rintro i h3 ⟨F,q⟩;refine ae (λe=>?_) (λe=>?_)
 .have s:i<i4 d:=i6
  have P:=z _ (qe s);refine(q.seq 1 i5 λ_=>rfl).bm i i5 s _ i5 ?_;have L:=g.ac q.ac g.lt;refine⟨b,i5,m,L.cell i5,?_⟩;obtain⟨a0,Z⟩:=O;refine(Z.ac q.ac).get d[i].toNat i6 i6 λr T J=>?_;have B:=Z.row _ r _ J (qc (show d[i].toNat<i4 M by omega));obtain⟨row,f⟩:=z6 (M[d[i].toNat]'i6)
  have am:i4 row=w:=by rw[f];exact X _ (qe _)
  rw[<-f]at T B;obtain⟨S,G⟩:=z6 (gx w M (d.take i))
  have ah:i4 S=w:=by rw[G];exact pV X hl z i F
  have ay:=T.len;have Q:gx w M (d.take (i+1))=cB 1 row S:=by rw[aG _ _ s,CW,G,f,bv i6]
  rw[<-G]at q;refine an (λk:Nat=>(k:Int)) (λk h'=>k<=w/\Sp h h' [aq 5 o 1 aB (zc (λx y=>y^^^Gf.mul 1 x) (row.take k) (S.take k)++S.drop k),aq 3 c 1 az d]) (λk=>w-k) 0 i5 ⟨i6,p6⟩ ?_;rintro k h4 ⟨hk,E⟩;have N:=B.ac E.ac;have ab:i4 (zc (λx y=>y^^^Gf.mul 1 x) (row.take k) (S.take k)++S.drop k)=w:=jj
  refine ae (λe3=>?_) (λe3=>?_)
  .have ad:k<w:=i6
   have u:(zc (λx y=>y^^^Gf.mul 1 x) (row.take k) (S.take k)++S.drop k)[k]'i6=S[k]'i6:=by have:=ahQ (a:=row) (t:=S) i6 (show k<i4 S by omega);rw[qc i6]at this;exact wj.inj this
   refine N.bm k i5 i6 _ i5 ?_;refine(E.seq 0 i5 λ_=>rfl).bm k i5 i6 _ i5 ?_;rw[u,mJ];refine E.set ag 0 i5 (λ_=>rfl) i5 k i5 i6 _ i5 i5 i5 λh5 H5=>?_;refine⟨k+1,j4,⟨i6,?_⟩,i6⟩;rw[<-Sv i6 (show k<i4 S by omega)];exact H5
  .have H:k=w:=i6
   subst H;rw[qh i6,qh i6,qY i6,qI]at E;refine⟨i+1,j4,⟨i6,?_⟩,i6⟩;rw[Q];exact E
 .rw[qh i6]at q;exact⟨o,i5,q.take 0 λi A F=>by cases i with|zero=>exact F|succ i=>simp at F⟩
theorem co.ja{p:Pm}{seed:Int}{d:Row}{K H w n:Nat}(B:co p seed d K H w n):ja p seed d.length=0:=by rw[Qw.ja,B.may,B.full,B.len,B.k,B.s,hU (by rw[wy])];rfl
theorem ahR{p:Pm}{seed:Int}{d:Row}{K H w n:Nat}(B:co p seed d K H w n)(data:Sl)(h:f9)(e:Rd h data 1 aB d)(c:data.len<=data.cap):
  ai kg 150 #[ir p,xU ke seed,data] h λv h'=>
   ∃(b:f7) (m:Sl),v=.tuple #[xW (dB b),xU ka 0]/\Sp h h' [fB 34 m 1 aB (dP p seed d),ak b 262 (Fv p seed m)]:=
 (PU p seed data d h e c).mono λ_ _ a=>a.1 B.ja
theorem co.symbol{p:Pm}{seed:Int}{d:Row}{K H w n:Nat}(B:co p seed d K H w n)(b:f7)(id:Int)(h:f9)(a:Aq h b p seed (dP p seed d)):
  ai kg 152 #[xW (dB b),xU ka id] h λv h'=>∃r:Sl,v=r/\Sp h h' [aq 5 r 1 aB (if bE id then gx w (dP p seed d) (df n seed id)else[])]:=
 BI b p seed id _ n w h a B.may B.s B.pW B.oB.2 B.oB.1
def Co(s:DN):aW:=[.complex .f64 s.ax s.ay,.complex .f64 s.sx s.sy,xU ka s.left,xU ka s.leg,xY s.second]
theorem pA{o:Option Nat}(h:o.isSome=eS):o=dB (o.getD 0):=by
 cases o with
 |none=>cases h
 |some x=>rfl
theorem Wh(h:f9):ai kg 270 #[] h λv h'=>∃a:f7,v=xW (dB a)/\Sp h h' [ak a 334 (Co fs0)]:=by refine ts Tryz.func270 ?_;refine(Sp.refl h).boxed (t:=334) λa c b=>?_;exact⟨a,i5,b⟩
theorem Zl(a b:Nat)(h:f9)(c:(iy.mul a 0).isSome=eS)(j:(iy.mul b pX).isSome=eS)(h3:(iy.sub (tV a 0) (tV b pX)).isSome=eS)(f:(iy.mul a pX).isSome=eS)(g:(iy.mul b 0).isSome=eS)(i:(iy.add (tV a pX) (tV b 0)).isSome=eS):
  ai kg 332 #[.complex .f64 a b,xU ka 1] h λv h'=>v=.complex .f64 (tx a b) (ty a b)/\h'=h:=by
 refine ts Tryz.func332 ?_ (xc (x0 [(0,(.sc (.cpx .f64))),(9,aR)] [(0,1),(9,14)])) (args:=[(.complex .f64 (a,b).1 (a,b).2),(1:Int)]);refine⟨i7,i7,?_⟩;refine an (λk:Nat=>(if k=0 then(a,b)else(tx a b,ty a b),(k:Int))) (λk h'=>k<=1/\h'=h) (λk=>1-k) 0 i5 ⟨i6,i5⟩ ?_;rintro k h' ⟨l,rfl⟩;have d:xO (qd ka (xO 1 4+4)) 4=1:=i7
 try dsimp only
 rw[d];refine ae (λe=>?_) (λe=>?_)
 .have:k=0:=i6
  subst this;refine⟨(tx a b,ty a b),afq (pA c) (pA j) (pA h3) (pA f) (pA g) (pA i),?_⟩;exact⟨1,i5,⟨i6,i5⟩,i6⟩
 .have:k=1:=i6
  subst this;exact⟨i5,i5⟩
theorem acx(a:f7)(s:DN)(h:f9)(f:bN h a 334 (Co s))(c:s.ok=eS):ai kg 271 #[xW (dB a)] h λv h'=>v=.tuple #[]/\bN h' a 334 (Co s.on)/\aS (λb=>b≠a.block) h h':=by
 simp only[DN.ok,qx,decide_eq_true_eq]at c;obtain⟨⟨⟨⟨⟨⟨⟨⟨⟨⟨⟨A,K⟩,G⟩,y⟩,x⟩,E⟩,D⟩,B⟩,Q⟩,L⟩,I⟩,J⟩:=c;refine ts Tryz.func271 ?_ (xc (xc (xc (xc (x6 [] [(33,44)] v6)))));have z:aa (λb=>b<h.size/\¬b=a.block) h h [ak a 334 (Co s)]:=.OG (λb=>b=a.block) (λb l=>by rw[l];exact f.lt) ⟨f,i5⟩;have fin:∀{h':f9},aa (λb=>b<h.size/\¬b=a.block) h h' [ak a 334 (Co s.on)]->Value.tuple #[]=.tuple #[]/\bN h' a 334 (Co s.on)/\aS (λb=>b≠a.block) h h':=λH=>
  ⟨i5,H.box 0 i5,H.ac.1,λk t i=>H.ac.2 k t ⟨t,i⟩⟩
 refine⟨a,i5,(s.ax,s.ay),f.cell0 i5,a,i5,(s.sx,s.sy),f.cell i5,(oX s.ax s.sx,oX s.ay s.sy),afo (pA A) (pA K),a,i5,?_⟩;refine z.fM ag 0 i5 i5 [.complex .f64 (oX s.ax s.sx) (oX s.ay s.sy)] i5 i5 i5 (by simp[Co]) λP q=>⟨A0,?_⟩
 refine⟨a,i5,s.left,(q.box 0 i5).cell (j:=2) i5,a,i5,?_⟩;rw[af (s.left-1)];refine q.storeAt ag 0 i5 i5 (off:=2) i5 i5 i5 (by simp[Co]) λu d=>?_;refine⟨a,i5,s.left-1,(d.box 0 i5).cell (j:=2) i5,?_⟩;refine ae (λe=>?_) (λe=>?_)
 .have m:Co s.on=[.complex .f64 (oX s.ax s.sx) (oX s.ay s.sy),.complex .f64 s.sx s.sy,xU ka (s.left-1),xU ka s.leg,xY s.second]:=by rw[DN.on,g0 e];rfl
  refine fin ?_;rw[m];exact d
 .refine⟨a,i5,(s.sx,s.sy),(d.box 0 i5).cell (j:=1) i5,(Zl s.sx s.sy u G y x E D B).x7 ?_⟩;refine⟨(tx s.sx s.sy,ty s.sx s.sy),i5,a,i5,?_⟩;refine d.storeAt ag 0 i5 i5 (off:=1) i5 i5 i5 (by simp[Co]) λN g=>?_;refine bF (λ_ h'=>aa (λb=>b<h.size/\¬b=a.block) h h' [ak a 334 [.complex .f64 (oX s.ax s.sx) (oX s.ay s.sy),.complex .f64 (tx s.sx s.sy) (ty s.sx s.sy),xU ka (s.left-1),xU ka (if s.second then s.leg+1 else s.leg),xY s.second]]) ?_ ?_
  .refine⟨a,i5,s.second,(g.box 0 i5).cell (j:=4) i5,aP (λo=>?_) λo=>?_⟩
   .refine⟨a,i5,s.leg,(g.box 0 i5).cell (j:=3) i5,a,i5,?_⟩;rw[af (s.leg+1)];refine g.storeAt ag 0 i5 i5 (off:=3) i5 i5 i5 (by simp[Co]) λM w=>?_;rw[g0 o];exact w
   .rw[g9 (by rw[o];decide)];exact g
  .rintro _ O r;refine⟨a,i5,s.second,(r.box 0 i5).cell (j:=4) i5,a,i5,?_⟩;refine r.storeAt ag 0 i5 i5 (off:=4) i5 i5 i5 js λR p=>?_;refine⟨a,i5,_,(p.box 0 i5).cell (j:=3) i5,a,i5,?_⟩;refine p.storeAt ag 0 i5 i5 (off:=2) i5 i5 i5 js λh8 F=>?_;have m:Co s.on=[.complex .f64 (oX s.ax s.sx) (oX s.ay s.sy),.complex .f64 (tx s.sx s.sy) (ty s.sx s.sy),xU ka (if s.second then s.leg+1 else s.leg),xU ka (if s.second then s.leg+1 else s.leg),xY (!s.second)]:=by rw[DN.on,g9 e];rfl
   refine fin ?_;rw[m];exact F
theorem Ui(n:Nat)(h:f9)(i:n<64):ai kg 211 #[xU ka n] h λv h'=>v=.complex .f64 (kj n).ax (kj n).ay/\Sp h h' []:=by
 refine ts Tryz.func211 ?_ (xc (.scope 0 [(4,aR)] [(2,3),(4,5),(12,23)] [v6,v6,v6] [v6] []));refine ae (λe=>i6) λ_=>ae (λe=>i6) λ_=>?_;refine(Wh h).mono ?_;rintro v l ⟨a,rfl,f⟩;refine⟨dB a,i5,?_⟩;refine an (λk:Nat=>(k:Int)) (λk h'=>k<=n/\Sp h h' [ak a 334 (Co (kj k))]) (λk=>n-k) 0 i5 ⟨i6,f⟩ ?_;rintro k g ⟨j,b⟩;refine aY (λe=>?_) (λe=>?_)
 .have:k=n:=i6
  subst this;exact⟨a,i5,((kj k).ax,(kj k).ay),(b.box 0 i5).cell0 i5,i5,.zip b.ac⟩
 .refine(acx a (kj k) g (b.box 0 i5) (aiQ k i6)).x8 λh3 ⟨d,c⟩=>⟨(),i5,k+1,j4,⟨i6,b.pi 0 i5 c d⟩,i6⟩
theorem ME{a b:Int}(c:-4<=a:=by omega)(e:a<=4:=by omega)(h3:-4<=b:=by omega)(d:b<=4:=by omega):iy.sub (dg a) (dg b)=dB (dg (a-b)):=by have:=ahf (a+4).toNat i6 (b+4).toNat i6;rw[show((a+4).toNat:Int)-4=a by omega,show((b+4).toNat:Int)-4=b by omega,show((a+4).toNat:Int)-((b+4).toNat:Int)=a-b by omega]at this;exact this
theorem MF{a:Int}(c:-8<=a:=by omega)(b:a<=8:=by omega):iy.mul (dg a) (dg a)=dB (dg (a*a)):=by have:=ahg (a+8).toNat i6;rw[show((a+8).toNat:Int)-8=a by omega]at this;exact this
theorem PW(a:Int):((a.natAbs:Nat):Int)*(a.natAbs:Nat)=a*a:=Int.natAbs_mul_self
theorem Zm{a b:Int}(c:-8<=a)(e:a<=8)(h3:-8<=b)(d:b<=8):iy.add (dg (a*a)) (dg (b*b))=dB (dg (a*a+b*b)):=by have:=ahh a.natAbs i6 b.natAbs i6;rw[PW,PW]at this;exact this
def Fw(i j:Nat):Int:=((gT i).x-(gT j).x)*((gT i).x-(gT j).x)+((gT i).y-(gT j).y)*((gT i).y-(gT j).y)
theorem aeO{a:Int}(c:-8<=a)(b:a<=8):0<=a*a/\a*a<=64:=by rw[<-PW,<-wy];have:a.natAbs*a.natAbs<=8*8:=zK i6 i6;omega
theorem Bj{n:Nat}(h:n<64):(kj n).ax=dg (gT n).x/\(kj n).ay=dg (gT n).y/\-4<=(gT n).x/\(gT n).x<=4/\-4<=(gT n).y/\(gT n).y<=4:=by have:=ahe n h;simp only[qx,decide_eq_true_eq,beq_iff_eq]at this;obtain⟨⟨⟨⟨⟨a,b⟩,c⟩,d⟩,e⟩,f⟩:=this;exact⟨a,b,c,d,e,f⟩
theorem Zn{i j:Nat}(d:i<64)(c:j<64):0<=Fw i j/\Fw i j<=128:=by have a:=Bj d;have b:=Bj c;have e:=aeO (a:=(gT i).x-(gT j).x) i6 i6;have f:=aeO (a:=(gT i).y-(gT j).y) i6 i6;unfold Fw;omega
theorem acy(i j:Nat)(h:f9)(f:i<64)(e:j<64):ai kg 212 #[.complex .f64 (kj i).ax (kj i).ay,.complex .f64 (kj j).ax (kj j).ay] h λv h'=>v=.float .f64 (dg (Fw i j))/\h'=h:=by
 have a:=Bj f;have b:=Bj e;refine ts Tryz.func212 ?_ (args:=[(.complex .f64 ((kj i).ax,(kj i).ay).1 ((kj i).ax,(kj i).ay).2),(.complex .f64 ((kj j).ax,(kj j).ay).1 ((kj j).ax,(kj j).ay).2)]);have d:iy.sub (kj i).ax (kj j).ax=dB (dg ((gT i).x-(gT j).x)):=by rw[a.1,b.1];exact ME
 have c:iy.sub (kj i).ay (kj j).ay=dB (dg ((gT i).y-(gT j).y)):=by rw[a.2.1,b.2.1];exact ME
 refine⟨(dg ((gT i).x-(gT j).x),dg ((gT i).y-(gT j).y)),afp d c,_,MF,_,MF,_,Zm i6 i6 i6 i6,i5,i5⟩
abbrev aeP:bV C.toBX 22 3 1 [xU ka 0] 8:=⟨_,_,i5,i5,i5,i5,i5,i5⟩
def nD(a b:Int):Int:=if a<b then-1 else if a>b then 1 else 0
theorem PX(m:Nat)(h:f9)(a:m<129):ai kg 273 #[.float .f64 (dg (m:Nat))] h λv h'=>v=xY eX/\h'=h:=by refine ts Tryz.func273 ?_;have:=Ym m a m a;rw[show(FloatKind.format .f64).order (dg (m:Nat)) (dg (m:Nat))=dB (compare m m)from this,Nat.compare_eq_eq.2 rfl];exact⟨i5,i5⟩
theorem Zo(m n:Nat)(h:f9)(b:m<129)(c:n<129):ai kg 216 #[.float .f64 (dg (m:Nat)),.float .f64 (dg (n:Nat))] h λv h'=>v=xU ka (nD m n)/\h'=h:=by
 refine ts Tryz.func216 ?_;refine(PX m h b).mono ?_;rintro v a ⟨rfl,rfl⟩;refine⟨_,i5,(PX n a c).x7 ?_⟩;refine⟨_,i5,aP (λe=>j3) λ_=>aP (λe=>j3) λ_=>?_⟩;have d:(FloatKind.format .f64).order (dg (m:Nat)) (dg (n:Nat))=dB (compare m n):=Ym m b n c;rw[d];rcases Nat.lt_trichotomy m n with a|a|a
 .rw[Nat.compare_eq_lt.2 a];refine aP (λ_=>⟨by rw[nD,g0 i6],i5⟩) (λe=>j3)
 .subst a;rw[Nat.compare_eq_eq.2 rfl];refine aP (λe=>j3) λ_=>aP (λe=>j3) λ_=>⟨by rw[nD,g9 i6,g9 i6],i5⟩
 .rw[Nat.compare_eq_gt.2 a];refine aP (λe=>j3) λ_=>aP (λ_=>⟨by rw[nD,g9 i6,g0 i6],i5⟩) (λe=>j3)
theorem MG(m:Int)(h:f9):ai kg 245 #[xU ka m] h λv h'=>v=xY eX/\h'=h:=by refine ts Tryz.func245 ?_;exact⟨js,i5⟩
theorem Zp(m n:Int)(h:f9):ai kg 217 #[xU ka m,xU ka n] h λv h'=>v=xU ka (nD m n)/\h'=h:=by refine ts Tryz.func217 ?_;refine(MG m h).mono ?_;rintro v b ⟨rfl,rfl⟩;refine⟨_,i5,(MG n b).x7 ?_⟩;refine⟨_,i5,aP (λe=>j3) λ_=>aP (λe=>j3) λ_=>?_⟩;refine ae (λe=>⟨by rw[nD,g0 e],i5⟩) λe=>ae (λa=>⟨by rw[nD,g9 e,g0 a],i5⟩) λa=>⟨by rw[nD,g9 e,g9 a],i5⟩
def Uj(a b:Int):Int:=if a≠0 then a else b
theorem afE(s:Sl)(a b:Int)(h:f9)(f:Rd h s 1 az [a,b]):ai kg 215 #[s] h λv h'=>v=xU ka (Uj a b)/\h'=h:=by
 refine Cg s ?_;have m:s.len=2:=f.len;refine an (λk:Nat=>(k:Int)) (λk h'=>h'=h/\k<=2/\(1<=k->a=0)/\(2<=k->b=0)) (λk=>2-k) 0 i5 ⟨i5,i6,i6,i6⟩ ?_;rintro k h' ⟨rfl,l,g,j⟩;refine ae (λe=>?_) (λe=>?_)
 .rcases(show k=0∨k=1 by omega)with rfl|rfl
  .refine f.bm 0 i5 js a i5 ?_;refine bH (λc=>⟨by rw[Uj,g0 c],i5⟩) λc=>?_;exact⟨1,i5,⟨i5,i6,λ_=>c,i6⟩,i6⟩
  .refine f.bm 1 i5 js b i5 ?_;have d:=g i6;refine bH (λc=>⟨by rw[Uj,g9 (by simp[d])],i5⟩) λc=>?_;exact⟨2,i5,⟨i5,i6,λ_=>d,λ_=>c⟩,i6⟩
 .have d:=g i6;have i:=j i6;exact⟨by rw[Uj,g9 (by simp[d]),i],i5⟩
abbrev Fr:=Int×Fin 129
def Ar(x:Fr):aW:=[xU ka x.1,.float .f64 (dg ((x.2:Nat):Int))]
def Au(x y:Fr):Int:=Uj (nD (x.2:Nat) (y.2:Nat)) (nD x.1 y.1)
theorem PY(x y:Fr)(h:f9):ai kg 214 #[xZ (Ar x).toArray,xZ (Ar y).toArray] h λv h'=>v=xU ka (Au x y)/\aS (λb=>b<h.size) h h':=by
 refine ts Tryz.func214 ?_ v6 [(1,(.l [0,1,2,3,5,6,7,8,4,9,10,11,12]))] (args:=[(xZ #[(x.1,dg ((x.2:Nat):Int)).1,(.float .f64 (x.1,dg ((x.2:Nat):Int)).2)]),(xZ #[(y.1,dg ((y.2:Nat):Int)).1,(.float .f64 (y.1,dg ((y.2:Nat):Int)).2)])]);refine(Sp.refl h).boxed (t:=270) λa m g=>?_;refine g.boxed (t:=270) λb f c=>?_;refine⟨_,(c.box 0 i5).cell (j:=1) i5,_,(c.box 1 i5).cell (j:=1) i5,_,(c.box 0 i5).cell0 i5,_,(c.box 1 i5).cell0 i5,?_⟩;refine(Zo x.2 y.2 f x.2.isLt y.2.isLt).mono ?_;rintro v h3 ⟨rfl,rfl⟩;refine⟨_,i5,⟨(c.box 1 i5).cell0 i5,(c.box 0 i5).cell0 i5,A0⟩,(Zp _ _ h3).mono ?_⟩;rintro v i ⟨rfl,rfl⟩;refine⟨_,i5,A0,?_⟩;refine c.lit ag az aeP i5 [nD (x.2:Nat) (y.2:Nat),nD x.1 y.1] i5 (show 2*1<=2^20 by decide) i5 λs e d=>⟨A0,?_⟩
 refine(afE s _ _ e (d.seq 2 i5 λ_=>rfl)).x7 ⟨_,i5,A0,i5,d.ac⟩
theorem Uk{a b:Int}:nD a b<0↔a<b:=by unfold nD;split<;>(try split)<;>omega
theorem MH{a b:Int}:nD a b=0↔a=b:=by unfold nD;split<;>(try split)<;>omega
theorem aeQ{x y:Fr}:ltOf Au x y=eS↔((x.2:Nat):Int)<(y.2:Nat)∨(((x.2:Nat):Int)=(y.2:Nat)/\x.1<y.1):=by
 have h0:ltOf Au x y=eS↔Au x y<0:=by simp[ltOf]
 rw[h0,Au,Uj];by_cases h:nD (x.2:Nat) (y.2:Nat)=0
 .rw[g9 tr,Uk];have:=MH.1 h;constructor
  .exactλa=>.inr ⟨this,a⟩
  .rintro(a|a)
   .omega
   .exact a.2
 .rw[g0 h,Uk];have b:((x.2:Nat):Int)≠(y.2:Nat):=λe=>h (MH.2 e);constructor
  .exact .inl
  .rintro(a|a)
   .exact a
   .exact absurd a.1 b
theorem Fx{x y:Fr}:ltOf Au x y=eX↔¬(((x.2:Nat):Int)<(y.2:Nat)∨(((x.2:Nat):Int)=(y.2:Nat)/\x.1<y.1)):=by rw[<-aeQ];simp
theorem ahS:Sort.SWO (ltOf Au) where
 irrefl x:=Fx.2 i6
 trans x y z h1 h2:=by rw[aeQ]at*;omega
 ntrans x y z h1 h2:=by rw[Fx]at*;omega
theorem ahT(x y:Fr)(b:ltOf Au x y=eX)(a:ltOf Au y x=eX):x=y:=by rw[Fx]at b a;refine Prod.ext i6 (Fin.ext i6)
theorem PZ{e:TypeId}{s:Sl}{l:List Fr}{h:f9}(f:Own h e s 2 Ar l)(a:i4 l<2^40):
  ai kg 213 #[s,.func (.func 214) #[] #[]] h λv h'=>v=.tuple #[]/\Own h' e s 2 Ar (l.mergeSort λx y=>!(ltOf Au) y x)/\aS (λb=>¬s.on b) h h':=by
 have m:∀x:Fr,i4 (Ar x)=2:=λ_=>rfl;refine Nr (P:=kg) (id_:=213) (g:=214) (enc:=Ar) (k:=2) (cf:=Au) m ?_ ?_ (λx y h=>PY x y h) f a
 .intro fy cap l w j d n i;have:=AnyQ.slices_SortFunc_total Tryz.Ud 2 Tryz.ahv Tryz.afx Ar (λ_=>rfl) (λx v c=>by simp[Ar]at c;rcases c with rfl|rfl<;>rfl) Au ahS 214 #[] fy 0 cap l.toArray w (enters_of Tryz.afy j6 i5) (by simpa using j) d n (by simpa using i) ahT;simp at this;exact this
 .intro p cap w;exact AnyF.slices_SortFunc_none Tryz.Ud p cap _ w
def Av(a:av)(n:Int):av:=if 0<=n/\n<64/\a.contains n=eX then a++[n]else a
def iE(l:av):av:=l.foldl Av []
theorem Bl(l:av){k:Nat}(a:k<i4 l:=by omega):iE (l.take (k+1))=Av (iE (l.take k)) l[k]:=by rw[iE,aG _ _ a,List.foldl_append];rfl
theorem Qa(l:av):∀k,k<=i4 l->∀x,x∈iE (l.take k)↔x∈l.take k/\0<=x/\x<64
 |0,_,x=>by simp[iE]
 |k+1,hk,x=>by
  have c:=Qa l k i6;rw[Bl l,aG _ _ (show k<i4 l by omega),Av];by_cases h:0<=l[k]/\l[k]<64/\(iE (l.take k)).contains l[k]=eX
  .rw[g0 h,qt,qt,qw,c x];constructor
   .rintro(a|rfl)
    .exact⟨.inl a.1,a.2⟩
    .exact⟨.inr i5,h.1,h.2.1⟩
   .rintro⟨a|a,b⟩
    .exact .inl ⟨a,b⟩
    .exact .inr a
  .rw[g9 h,qt,qw,c x];constructor
   .rintro a;exact⟨.inl a.1,a.2⟩
   .rintro⟨a|rfl,b⟩
    .exact⟨a,b⟩
    .have:(iE (l.take k)).contains l[k]=eS:=by
      cases hc:(iE (l.take k)).contains l[k]with
      |true=>rfl
      |false=>exact absurd ⟨b.1,b.2,hc⟩ h
     exact(c _).1 (by simpa using this)
theorem JK(l:av):∀k,k<=i4 l->(iE (l.take k)).Nodup
 |0,_=>by simp[iE]
 |k+1,hk=>by
  have c:=JK l k i6;rw[Bl l,Av];split
  .rename_i h;rw[List.nodup_append];refine⟨c,js,λa d b e=>?_⟩;rw[qw.1 e];rintro rfl;have:=h.2.2;rw[List.contains_eq_mem]at this;simp[d]at this
  .exact c
theorem Qb(l:av)(k:Nat):i4 (iE (l.take k))<=k:=by
 induction k with
 |zero=>simp[iE]
 |succ k ih=>
  by_cases a:k<i4 l
  .rw[Bl l a,Av];split
   .simp;omega
   .omega
  .rw[qh i6]at ih⊢;omega
def Dl(c:Nat)(n:Int):Fr:=(n,Fin.ofNat 129 (Fw n.toNat c).toNat)
theorem ahU{c:Nat}{n:Int}(a:c<64)(b:0<=n)(d:n<64):(((Dl c n).2:Nat):Int)=Fw n.toNat c:=by have:=Zn (i:=n.toNat) (j:=c) i6 a;show(((Fw n.toNat c).toNat%129:Nat):Int)=_;omega
def tu(c:Nat)(l:av):av:=(((iE l).map (Dl c)).mergeSort λx y=>!(ltOf Au) y x).map (·.1)
def cX(a block:Int)(l:av):av:=if 0<=a/\a<=16777215/\0<=block/\block<8 then tu ((8*a+block)%64).toNat l else[]
def sQ(a:av):aW:=(qn 64).map λi:Nat=>xY (a.contains (i:Int))
theorem afF(a:av){n:Int}(c:0<=n)(b:n<64):(sQ a)[n.toNat]?=dB (xY (a.contains n)):=by rw[sQ,qR,zI i6,qW,show((n.toNat:Nat):Int)=n by omega]
theorem acz(a:av){n:Int}(c:0<=n)(d:n<64):(sQ a).set n.toNat (xY eS)=sQ (a++[n]):=by
 apply zp;intro i;rw[qV,sQ,sQ,qR,qR,qp,zq];by_cases b:i<64
 .rw[zI b,qW,qW];by_cases h:n.toNat=i
  .rw[g0 h,g0 i6,show((i:Nat):Int)=n by omega];simp
  .rw[g9 h];have:(a++[n]).contains (i:Int)=a.contains (i:Int):=by rw[List.contains_eq_mem,List.contains_eq_mem];simp;omega
   rw[this]
 .rw[g9 i6,zd jj];rfl
abbrev eFr:bV C.toBX 265 270 2 [xU ka 0,.float .f64 0] 16:=⟨_,_,i5,i5,i5,i5,i5,i5⟩
theorem ahV:∀x,∀c∈Ar x,c.oneCell'=eS:=by intro x c a;simp[Ar]at a;rcases a with rfl|rfl<;>rfl
theorem BJ(b block:Int)(live:Sl)(l:av)(h:f9)(V:Rd h live 1 az l)(ad:i4 l<=2^30:=by omega):
  ai kg 151 #[xU ka b,xU ka block,live] h λv h'=>∃r:Sl,v=r/\Sp h h' [aq 3 r 1 az (cX b block l)]:=by
 have ab:=V.len;refine ts Tryz.func151 ?_ (xc (x6 [] [(6,7),(15,29)] (xc (xc (xc (u9 (xc (v7 (ws [(8,cE),(37,aR)] [(8,9),(11,12),(37,65)] (xc (xc (u9 (v7 (xc (x6 [(52,lj)] [(41,53)] v6))) v6)))))) (xc (xc (x0 [(12,cE),(69,aR)] [(12,13),(14,15),(69,79)])))))))));have F:¬(0<=b/\b<=16777215/\0<=block/\block<8)->∃r:Sl,Value.slice eH 0 0=xV r.ptr r.len r.cap/\Sp h h [aq 3 r 1 az (cX b block l)]:=λJ=>by
  rw[cX,g9 J];exact⟨⟨eH,0,0⟩,i5,(Sp.refl h).nil 3 1 az⟩
 refine aJ (ae (λe=>F i6) λe1=>ae (λe=>F i6) λe2=>ae (λe=>F i6) λe3=>ae (λe=>F i6) λe4=>?_);have Q:0<=b/\b<=16777215/\0<=block/\block<8:=i6
 rw[cX,g0 Q];rw[af (8*b),af (8*b+block),yN i6];obtain⟨c,hc⟩:∃c:Nat,(8*b+block)%64=c:=⟨((8*b+block)%64).toNat,i6⟩
 have g:c<64:=i6
 rw[hc,qj];refine⟨i7,(Ui c h g).mono ?_⟩;rintro v h2 ⟨rfl,R2⟩;refine⟨((kj c).ax,(kj c).ay),i5,?_⟩;refine R2.alloc ag i5 λa h3 Z=>?_;have P:Sp h h3 [ak a 266 (sQ []),aq 270 ⟨eH,0,0⟩ 2 Ar []]:=Z.nil 270 2 Ar;refine an (λt:Sl×Nat=>(t.1,(t.2:Int))) (λt h'=>t.2<=i4 l/\Sp h h' [ak a 266 (sQ (iE (l.take t.2))),aq 270 t.1 2 Ar ((iE (l.take t.2)).map (Dl c))]) (λt=>i4 l-t.2) (⟨eH,0,0⟩,0) i5 ⟨js,P⟩ ?_;rintro⟨s,k⟩ h4 ⟨hk,q⟩;dsimp only at*;have z:=Qb l k;refine ae (λe=>?_) (λe=>?_)
 .have w:k<i4 l:=i6
  have G:=Bl l w;obtain⟨f,E⟩:=z6 (iE (l.take k))
  rw[<-E]at q z G;refine(Seq.up V q.ac).bm k i5 w _ i5 ?_;obtain⟨x,X⟩:=z6 (l[k])
  rw[<-X]at G⊢;refine bF (λt h'=>(t=eS↔0<=x/\x<64/\f.contains x=eX)/\h'=h4) ?_ ?_
  .refine ae (λp=>ae (λm=>?_) λm=>⟨⟨λe=>j3,λB=>absurd B.2.1 m⟩,i5⟩) λp=>⟨⟨λe=>j3,λB=>absurd B.1 p⟩,i5⟩;refine⟨⟨p,m⟩,f.contains x,?_,?_,i5⟩
   .rw[zG];exact(q.box 0 i5).cell (afF f p m)
   .cases f.contains x<;>simp<;>omega
  .rintro t h5 ⟨U,rfl⟩;refine aP (λe=>?_) (λe=>?_)
   .obtain⟨p,m,x2⟩:=U.1 e;refine⟨⟨p,m⟩,?_⟩;rw[zG];refine q.storeAt ag 0 i5 i5 i5 i5 i5 (by simp[sQ];omega) λO u=>?_;have S:Sp h O [ak a 266 (sQ (f++[x])),aq 270 s 2 Ar (f.map (Dl c))]:=by rw[<-acz f p m];exact u
    obtain⟨n,J⟩:∃n:Nat,x=n:=⟨x.toNat,i6⟩
    subst J;refine(Ui n O i6).mono ?_;rintro v T ⟨rfl,R7⟩;refine⟨((kj n).ax,(kj n).ay),i5,(acy n c T i6 g).mono ?_⟩;rintro v h8 ⟨rfl,rfl⟩;have H:=S.up R7.ac;have ev:dg (Fw n c)=dg (((Dl c (n:Int)).2:Nat):Int):=by rw[ahU g i6 i6,qj]
    refine⟨_,i5,?_⟩;rw[ev];refine H.push ag 1 i5 eFr i5 i7 (λ_=>rfl) ahV (Dl c (n:Int)) i5 i7 jj λs' h9 N=>?_;refine⟨(s',k+1),j0,⟨i9,?_⟩,i9⟩
    try dsimp only
    rw[G,Av,g0 ⟨p,m,x2⟩,qP];exact N
   .refine⟨(s,k+1),j0,⟨i9,?_⟩,i9⟩
    try dsimp only
    rw[G,Av,g9 λB=>by rw[U.2 B]at e;cases e];exact q
 have I:k=i4 l:=i6
 subst I;rw[qL]at q z;refine(PZ (q.own 1 i5) jj).x8 λh5 ⟨L,K⟩=>?_;have R:=q.nQ 1 i5 K L;obtain⟨d,j⟩:=z6 (((iE l).map (Dl c)).mergeSort λx y=>!(ltOf Au) y x)
 have al:i4 d=i4 (iE l):=by rw[j,wD,qp]
 have Y:tu c l=d.map (·.1):=by rw[tu,<-j]
 rw[<-j]at R;have ah:=(R.own 1 i5).len;rw[Y];refine⟨(),i5,?_⟩;refine an (λt:Sl×Nat=>(t.1,(t.2:Int))) (λt h'=>t.2<=i4 d/\Sp h h' [aq 270 s 2 Ar d,aq 3 t.1 1 az ((d.take t.2).map (·.1))]) (λt=>i4 d-t.2) (⟨eH,0,0⟩,0) i5 ⟨js,(R.del 0).nil 3 1 az⟩ ?_;rintro⟨o,i⟩ O ⟨M,u⟩;dsimp only at*;refine ae (λe=>?_) (λe=>?_)
 .have D:i<i4 d:=i6
  refine(u.seq 0 i5 λ_=>rfl).dO i i5 D (d[i].1,dg ((d[i].2:Nat):Int)) i5 ?_;refine u.alloc ag i5 λy T H7=>?_;refine H7.storeAll ag 2 i5 i5 [xU ka d[i].1,.float .f64 (dg ((d[i].2:Nat):Int))] i5 i5 i5 i5 λh8 H=>?_;refine⟨d[i].1,(H.box 2 i5).cell0 i5,?_⟩;refine H.push ag 1 i5 aeP i5 i7 (λ_=>rfl) eZ d[i].1 i5 i7 jj λW h9 N=>?_;refine⟨(W,i+1),j0,⟨i9,?_⟩,i9⟩
  try dsimp only
  rw[aG _ _ D,qP];exact N.del 2
 .rw[qh i6]at u;exact⟨o,i5,u.take 1 λi A M=>by cases i with|zero=>exact M|succ i=>simp at M⟩
theorem acA(l:av)(x:Int):x∈iE l↔x∈l/\0<=x/\x<64:=by
 have:=Qa l l.length (qi _) x
 rwa [qL]at this
theorem afG(l:av):(iE l).Nodup:=by
 have:=JK l l.length (qi _)
 rwa [qL]at this
theorem Dm(c:Nat)(l:av):(tu c l).Perm (iE l):=by have h:=(we ((iE l).map (Dl c)) λx y=>!(ltOf Au) y x).map (·.1);rw[yf]at h;have e:((λx:Fr=>x.1)∘Dl c)=id:=rfl;rw[e,List.map_id]at h;exact h
theorem Bn(c:Nat)(l:av)(x:Int):x∈tu c l↔x∈l/\0<=x/\x<64:=by rw[(Dm c l).mem_iff,acA]
theorem Qc(c:Nat)(l:av):(tu c l).Nodup:=(Dm c l).nodup_iff.2 (afG l)
def JL(l:av)(i:Nat):Int:=l.getD i 0
def fu(o:av)(id:Int):Int:=if o=[]∨id<0 then-1 else JL o (id%(i4 o:Int)).toNat
theorem Lm(s:Sl)(o:av)(id:Int)(h:f9)(f:Rd h s 1 az o):ai kg 153 #[s,xU ka id] h λv h'=>v=xU ka (fu o id)/\h'=h:=by
 have g:=f.len;refine ts Tryz.func153 ?_ (xc (x6 [] [(4,12)] v6));refine aJ (aY (λe=>⟨by rw[fu,g0 (.inl (qU i6))],i5⟩) λe=>ae (λc=>⟨by rw[fu,g0 (.inr c)],i5⟩) λc=>?_);refine⟨e,?_⟩;have b:¬(o=[]∨id<0):=by
  rintro(rfl|h2)
  .simp at g;omega
  .exact c h2
 have d:xO id ((s.len:Nat):Int)=((id%(i4 o:Int)).toNat:Int):=by rw[yN i6,g];have:=Int.emod_nonneg id (show(i4 o:Int)≠0 by omega);omega
 have a:(id%(i4 o:Int)).toNat<i4 o:=by have:=wL id (show(0:Int)<i4 o by omega);omega
 rw[d];refine f.bm _ i5 a _ i5 ⟨?_,i5⟩;rw[fu,g9 b,JL,qg,qc a];rfl
def ue(p:Pm)(seed:Int)(d:Row)(id:Int):aL:=if bE id then gx p.2.2.toNat (dP p seed d) (df (bp p).toNat seed id)else[]
def lW(m:au)(o b seed:Int)(d:Row)(id:Int):cH:=⟨o,b,id,m.p,seed,ue m.p seed d id⟩
def JM(m:au)(o b seed:Int)(d:Row)(order:av)(id:Int):Int×aL:=(fu order id,cD (lW m o b seed d id))
def oF(m:au)(o:Int)(tries:av)(a:ct)(live:av)(i:Nat):List (Int×aL):=
 (qn (m.p.1+m.extra).toNat).map λid:Nat=>JM m o i (cg o i (tries.getD i 0)) (a.getD i []) (cX o i live) id
def eW(m:au)(o:Int)(tries:av)(a:ct)(live:av)(n:Nat):List (Int×aL):=(qn n).flatMap (oF m o tries a live)
theorem uf(m:au)(o:Int)(tries:av)(a:ct)(live:av)(n:Nat):eW m o tries a live (n+1)=eW m o tries a live n++oF m o tries a live n:=by unfold eW;rw[zt,zb,zg,wg,qI]
theorem Dn(m:au)(o:Int)(tries:av)(a:ct)(live:av)(i:Nat):i4 (oF m o tries a live i)=(m.p.1+m.extra).toNat:=by simp[oF]
theorem Aw(m:au)(o:Int)(tries:av)(a:ct)(live:av):∀n,i4 (eW m o tries a live n)=n*(m.p.1+m.extra).toNat
 |0=>by simp[eW]
 |n+1=>by rw[uf,qu,Aw m o tries a live n,Dn,zW]
theorem km(o b t:Int):0<=cg o b t/\cg o b t<4294967296:=by unfold cg;omega
section
variable {pw:f7}
theorem Nx(x:bw)(m:au)(xe:eE)(e:Qw.bU)(s:Sl)(b:aL)(hS:St B h0 As λh=>cN h x m/\eF kF h xe e/\Rd h s 1 aB b)(b1:s.len<=s.cap)(hz:cw m)(R:bB m.p=eS)(cq:0<=m.extra/\m.extra<=16)(c7:b.length<=2^20)
  (ht:cW m.p e.object (splitB m.p b).length=dB e.tries) (H:aa B h0 h (bc bi a pw (aV x) offs da w ds::As)):
  ai kg 93 #[xW (dB a),PQ xe,s] h λv h'=>∃(r:Sl) (ys:List (Int×Sl)),v=.tuple #[r,xY eS]/\
   aa B h0 h' (bc bi a pw (aV x) offs da w ds::dn iC 2 piv r ys (eW m e.object e.tries (splitB m.p b) (aK ds m.drives) (splitB m.p b).length)::As):=by
 refine ts Tryz.func93 ?_ (xc (xc (xc (u9 (xc (v7 (ws [(9,cE),(28,aR)] [(6,8),(9,18),(28,100)] (xc (xc (u9 (v7 (xc (xc (xc (xc (xc (xc (v7 (ws [(9,cE),(72,aR)] [(9,10),(16,18),(72,99)] (xc (xc (u9 (v7 (xc (x6 [(17,(.sc .adr))] [(17,18),(75,89)] v6))) v6)))))))))))) v6)))))) v6)))) [(14,(.y [0,1,2,3,4,5,6,7,8,9,10,11] (.l [12,13,14,15]) (.l [14,12,13,15]))),(15,(.l [0,1,2,4,3,5,6,7,8,9]))] (args:=[(dB a),xe,s]);refine H.boxed λa1 h1 H1=>?_;have H1:=H1.aZ;have H1:=H1.aI 2 [1,0];refine(dt x m (hS.at [_,_] H1).1 hz H1).y0 λlv h2 R2=>?_;have H2:=(H1.bS R2).aI 3 [1,0,2];obtain⟨ok,ap⟩:=aa.cj H2;obtain⟨cd,c9,cf⟩:=hS.at [_,_,_] H2;have Y:(x.2.2.1,x.2.2.2.1,x.2.2.2.2.1)=m.p:=cd.p;have cn:=(bK m.p).1 R;obtain⟨s1,s2,s3⟩:=lU R;obtain⟨c1,c2,c3⟩:=mI R b.length;have br:(aK ds m.drives).length<=m.drives.length:=qE _ _;have c0:=hz.dr;obtain⟨live,ad⟩:=z6 (aK ds m.drives)
 rw[<-ad]at H2 br⊢;obtain⟨c,E⟩:=z6 (splitB m.p b)
 have b3:c.length<=2^20:=by rw[E];unfold splitB;simp;omega
 have Z:∀r∈c,r.length=fe m.p:=by rw[E];intro r hr;unfold splitB at hr;obtain⟨i,_,rfl⟩:=qo.1 hr;exact Fg _ _ _
 refine⟨lv,i5,a,i5,(x.2.2.1,x.2.2.2.1,x.2.2.2.2.1),⟨by rw[addr_add];exact ap.cell i5,by rw[addr_add];exact ap.cell i5,by rw[addr_add];exact ap.cell i5,A0⟩,?_⟩;rw[Y];refine(Sh m.p s b h2 R cf b1 i6).y0 λq h3 R3=>?_;rw[<-E]at R3 ht⊢;obtain⟨rs,W⟩:=Qw.aa.aeN (H2.bS R3) λ_=>rfl;have W:=(W.CK 153 2 piv iC).aZ;have W:=W.aI 5 [2,0,1,3,4];have dp:=(W.dZ 2 i5).1.len;have c8:=(W.dZ 2 i5).2.1;have du:=jY ht;refine⟨q,i5,?_⟩;obtain⟨j,I⟩:∃j:Nat,j=(m.p.1+m.extra).toNat:=⟨_,rfl⟩
 have N:j<=32:=i6
 refine an (λt:Sl×Nat=>(t.1,(t.2:Int))) (λt h'=>t.2<=c.length/\aa B h0 h' (bc bi a pw (aV x) offs da w ds::bY 153 t.1 2 piv iC (eW m e.object e.tries c live t.2)::dn (Bf 1 aB) 1 bx q rs c::aq 3 lv 1 az live::ak a1 51 (bW xe)::As)) (λt=>c.length-t.2) (⟨eH,0,0⟩,0) i5 ⟨js,W⟩ ?_;rintro⟨o,i⟩ h4 ⟨hi,H4⟩;dsimp only at*;refine ae (λe1=>?_) (λe1=>?_)
 .have am:i<c.length:=i6
  have F4:=H4.dZ 2 i5;have V:=H4.box 4 i5;obtain⟨cc,a2,dx⟩:=hS.at [_,_,_,_,_] H4;obtain⟨_,b2⟩:=aa.cj H4;obtain⟨t,a6,bb⟩:=Bg ht i i6;have cl:e.tries.getD i 0=(t:Int):=by rw[qg,qc i6];exact a6
  have bs:c.getD i []=c[i]:=by rw[qg,qc am];rfl
  have O:∀{h':f9},bN h' a1 51 (bW xe)->f8 h' (a1.add 1)=dB (xU ka e.object):=λ{h'} hb=>by rw[<-a2.1.2.1];exact hb.cell i5
  have cp:∀{h':f9},bN h' a 75 (cU (aV x) pw offs da)->bt h' (a.add 2) 0 [xU ka m.p.1,xU ka m.p.2.1,xU ka m.p.2.2]:=λ{h'} hb=>by
   rw[<-Y];exact⟨kt,kt,kt,A0⟩
  have a0:=Fix.row F4 am;refine F4.1.bm i i5 i6 (rs[i]'i6) i5 ?_;refine⟨e.object,O V,xe.2.2.2,V.cell i5,?_⟩;refine Seq.bm (f:=az) a2.2 i i5 i6 (t:Int) (by rw[a6];rfl) ?_;refine(rp _ _ _ h4).x7 ⟨_,i5,⟨V.cell i5,A0⟩,a,i5,m.p,cp b2,?_⟩;obtain⟨seed,k⟩:=z6 (cg e.object i t)
  have hg:=(Fh bb).2.1;have ay:eK m.p seed (fj m.p)=eS:=by rw[k];exact hg
  obtain⟨K,Hh,w',n,BK⟩:=Vw (seed:=seed) (d:=c[i]) R ay (by rw[Z _ (qe am),s3]);rw[<-k];refine(ahR BK (rs[i]'i6) _ a0.1 a0.2).mono ?_;rintro _ h6 ⟨bk,mm,rfl,R6⟩;have H6:=(H4.comp R6).front;have H6:=H6.aI 7 [2,3,4,5,6,0,1];refine⟨(dB bk,0),i5,bH (λe2=>absurd i5 e2) λ_=>?_⟩;have bd:=H6.box 4 i5;refine⟨e.object,O bd,(BJ e.object i lv live h6 (H6.seq 3 i5 λ_=>rfl)).y0 λM h7 R7=>?_⟩;have H7:=(H6.bS R7).aI 8 [1,2,3,4,5,6,7,0];obtain⟨order,A⟩:=z6 (cX e.object i live)
  rw[<-A]at H7;have a7:=(aa.cj H7).2;have b5:x.2.2.1=m.p.1:=congrArg (·.1) Y;refine⟨M,i5,a,i5,x.2.2.1,a7.cell i5,a,i5,x.2.2.2.2.2.1,a7.cell i5,?_⟩;have en:qd ka (x.2.2.1+x.2.2.2.2.2.1)=(j:Int):=by rw[b5,cc.extra,af _];omega
  try dsimp only
  rw[en];have S:oF m e.object e.tries c live i=(qn j).map λid:Nat=>JM m e.object i seed c[i] order id:=by unfold oF;rw[cl,bs,<-k,<-A,<-I]
  have a9:(oF m e.object e.tries c live i).length=j:=by rw[Dn,<-I]
  obtain⟨G,J⟩:=z6 (eW m e.object e.tries c live i)
  have c4:G.length<=2^26:=by rw[J,Aw,<-I];have:=zK (show i<=2^20 by omega) N;omega
  obtain⟨Q,hQ⟩:=z6 (oF m e.object e.tries c live i)
  rw[<-hQ]at S a9;rw[<-J]at H7;refine an (λt:Sl×Nat=>(t.1,(t.2:Int))) (λt h'=>t.2<=j/\aa B h0 h' (bc bi a pw (aV x) offs da w ds::bY 153 t.1 2 piv iC (G++Q.take t.2)::dn (Bf 1 aB) 1 bx q rs c::aq 3 lv 1 az live::ak a1 51 (bW xe)::fB 34 mm 1 aB (dP m.p seed c[i])::ak bk 262 (Fv m.p seed mm)::aq 3 M 1 az order::As)) (λt=>j-t.2) (o,0) i5 ⟨js,by simpa using H7⟩ ?_;rintro⟨o2,id⟩ h8 ⟨hid,T⟩;dsimp only at*;refine ae (λe3=>?_) λe3=>?_
  .have cm:id<j:=i6
   have ab:=T.box 4 i5;have ar:=(aa.cj T).2;have F:Aq h8 bk m.p seed (dP m.p seed c[i]):=⟨mm,T.box 6 i5,T.DJ 5 i5⟩
   have P:ue m.p seed c[i] id=if bE id then gx w' (dP m.p seed c[i]) (df n seed id)else[]:=by unfold ue;rw[BK.pW,show m.p.2.2.toNat=w' by have:=BK.s;omega]
   have held:∀{h':f9},aS (λb=>b<h8.size) h8 h'->bQ.ok [((a.add 2),xU ka m.p.1),((a.add 2).add 1,xU ka m.p.2.1),((a.add 2).add 2,xU ka m.p.2.2),(a1.add 1,xU ka e.object)] h':=λ{h'} R=>by
    obtain⟨q1,q2,q3,_⟩:=cp (ar.ac R ar.lt);exact⟨q1,q2,q3,O (ab.ac R ab.lt),A0⟩
   refine bF (λ(a4:f7) h'=>∃r:Sl,aa B h0 h' (ak a4 166 (bZ (e.object,(i:Int),(id:Int),m.p.1,m.p.2.1,m.p.2.2,seed,r))::aq 5 r 1 aB (ue m.p seed c[i] id)::bc bi a pw (aV x) offs da w ds::bY 153 o2 2 piv iC (G++Q.take id)::dn (Bf 1 aB) 1 bx q rs c::aq 3 lv 1 az live::ak a1 51 (bW xe)::fB 34 mm 1 aB (dP m.p seed c[i])::ak bk 262 (Fv m.p seed mm)::aq 3 M 1 az order::As)) ?_ ?_
   .refine⟨e.object,O ab,a,i5,m.p,cp ar,?_,?_⟩
    .refine(BK.symbol bk id h8 F).y0 λr h9 R9=>?_;rw[<-P]at R9;have H9:=T.bS R9;refine⟨r,i5,held R9.ac,H9.Ep ag i5 λa28 dk ce X=>⟨held (aa.up R9 ce).ac,?_⟩⟩;have X:=X.aZ;refine X.storeAll ag 0 i5 i5 (bZ (e.object,(i:Int),(id:Int),m.p.1,m.p.2.1,m.p.2.2,seed,r)) i5 i5 i5 i5 λdy b9=>⟨A0,r,b9⟩
    .refine T.Ep ag i5 λc5 b7 ao U=>⟨held ao,?_⟩
     have U:=U.aZ;refine(BK.symbol bk id b7 (F.up ao)).y0 λr cr al=>?_;rw[<-P]at al;have bq:=(U.bS al).aI 2 [1,0];refine⟨r,i5,held (aa.up (Sp.zip ao) al.ac).ac,?_⟩;refine bq.storeAll ag 0 i5 i5 (bZ (e.object,(i:Int),(id:Int),m.p.1,m.p.2.1,m.p.2.2,seed,r)) i5 i5 i5 i5 λcs b4=>⟨A0,r,b4⟩
   .rintro a4 ca ⟨r,L⟩;have g:=L.box 0 i5;have ax:=km e.object i t;rw[<-k]at ax;refine⟨(e.object,(i:Int),(id:Int),m.p.1,m.p.2.1,m.p.2.2,seed,r),g.aE _ i5,(Lm M order id ca (L.seq 9 i5 λ_=>rfl)).mono ?_⟩;rintro _ a8 ⟨rfl,rfl⟩;refine⟨_,i5,⟨g.cell0 i5,g.cell i5,g.cell i5,g.cell i5,g.cell i5,g.cell i5,g.cell i5,g.cell i5,A0⟩,?_⟩;refine(oE (e.object,(i:Int),(id:Int),m.p.1,m.p.2.1,m.p.2.2,seed,r) (lW m e.object i seed c[i] id) a8 ⟨⟨i5,i5,i5,i5,i5,ax.1,ax.2⟩,L.seq 1 i5 λ_=>rfl⟩).y0 λu dd b6=>?_;have a5:=(L.bS b6).fN 0 i5 (D:=EA iC (fu order id,u) (JM m e.object i seed c[i] order id)) λz hz=>⟨i5,hz.1.seq (λ_=>rfl) hz.2⟩
    have a3:Q[id]'i6=JM m e.object i seed c[i] order id:=by simp[S]
    refine⟨u,i5,A0,?_⟩;refine a5.nS ag piv Fe i5 [(fu order id,u)] i5 (show 1*2<=2^20 by decide) i5 A0 ?_;refine aa.pK ag a5 4 0 i7 (a:=(fu order id,u)) i5 i5 Fe i5 i7 (λ_=>rfl) GC (parts:=#[(0,xZ #[xU ka (fu order id),u])]) j6 i7 jj λo3 c6 b0=>⟨A0,?_⟩
    refine⟨(o3,id+1),j0,⟨i9,?_⟩,i9⟩
    try dsimp only
    rw[aG Q id,a3,<-qm];exact b0.rest.rest.rest
  .have ah:id=j:=i6
   subst ah;rw[qh i6]at T;refine⟨(o2,i+1),j0,⟨i9,?_⟩,i9⟩
   try dsimp only
   rw[uf,<-J,<-hQ];exact T.aI 8 [0,1,2,3,4]
 .have ah:i=c.length:=i6
  subst ah;obtain⟨ys,H5⟩:=H4.HD 1 rfl λ_=>rfl;exact⟨o,ys,i5,H5.aI 5 [0,1]⟩
end
def kh(pages:Nat)(l:List (Int×aL))(k:Int):Int:=(pages:Int)+i4 (l.filter λy=>decide (y.1=k))
theorem Zq(k:Int)(b c:f7)(pages:Nat)(r:Sl)(t:List (Int×Sl))(l:List (Int×aL))(h:f9)(z:pages<=2^30)(G:i4 l<=2^30)(s:bN h b 3 [xU ka pages])(p:bN h c 107 [r])(u:oz iC 2 piv h r t l):
  ai kg 95 #[xU ka k,xW (dB b),xW (dB c)] h λv h'=>v=xU ka (kh pages l k)/\Sp h h' []:=by
 refine ts Tryz.func95 ?_ (xc (xc (x0 [(5,aR),(11,aR)] [(5,6),(7,8),(11,22)]))) (args:=[(k:Int),b,c]);have x:=u.1.len;have B:=u.2.1;refine⟨(pages:Int),s.cell0 i5,r,p.cell0 i5,?_⟩;refine an (λi:Nat=>(kh pages (l.take i) k,(i:Int))) (λi h'=>i<=i4 l/\Sp h h' []) (λi=>i4 l-i) 0 (by simp[kh]) ⟨i6,Sp.refl h⟩ ?_;rintro i F ⟨H,m⟩
 try dsimp only
 have w:(i4 ((l.take i).filter λy=>decide (y.1=k)):Int)<=i:=by have:=qE (λy:Int×aL=>decide (y.1=k)) (l.take i);simp at this;omega
 refine ae (λe=>?_) λe=>?_
 .have f:i<i4 l:=i6
  have d:=oz.up u m.ac;refine d.1.dO (g:=piv) i i5 i6 (t[i]'i6) i5 ?_;refine m.alloc ag i5 λD E A=>?_;refine A.storeAll ag 0 i5 i5 (piv (t[i]'i6)) i5 i5 i5 i5 λh3 q=>?_;have j:=Fix.row d f;have a:kh pages (l.take (i+1)) k=kh pages (l.take i) k+(if l[i].1=k then 1 else 0):=by
   unfold kh;rw[aG _ _ f,zk,qu,zN,vN];split
   .rename_i o;rw[g0 (i0 o)];simp;omega
   .rename_i o;rw[g9 (by simpa using o)];simp
  refine⟨l[i].1,by rw[<-j.1];exact(q.box 0 i5).cell0 i5,aY (λg=>?_) λg=>?_⟩
  .refine⟨i+1,?_,⟨i6,.zip q.ac⟩,i6⟩;rw[a,g0 g,af (kh pages (l.take i) k+1) (by unfold kh;omega) (by unfold kh;omega),af _];rfl
  .refine⟨i+1,?_,⟨i6,.zip q.ac⟩,i6⟩;rw[a,g9 g,Int.add_zero,af _];rfl
 .rw[qh i6];exact⟨i5,m⟩
def dv(m:au)(offs:Int)(w:Pow)(ds:aD)(name:ByteArray)(b:aL):Int×au×Pow×aD:=
 if cT m (cF w offs) ds name b.length≠0 then(cT m (cF w offs) ds name b.length,m,w,ds)else
 match cW m.p m.next (splitB m.p b).length with
 |none=>(8,m,w,ds)
 |some t=>
  let live:=aK ds m.drives;let l:=eW m m.next t (splitB m.p b) live (splitB m.p b).length;let n:=dK m ⟨name,m.next,i4 b,t⟩;let N:=kh (ba n).length l
  if dL m ds live N=eX then(7,m,w,ds)else
  if(makes m N live w ds).1≠0 then((makes m N live w ds).1,m,(makes m N live w ds).2)else
  let a:=layAll l (makes m N live w ds).2.1 (makes m N live w ds).2.2
  if a.1≠0 then(a.1,m,a.2)else
  ((layAll (bA n live) a.2.1 a.2.2).1,if(layAll (bA n live) a.2.1 a.2.2).1=0 then n else m,(layAll (bA n live) a.2.1 a.2.2).2)
theorem lX{m:au}{d:Bool}{ds:aD}{name:ByteArray}{n:Nat}(h:cT m d ds name n=0):
  d=eX/\kW name=eS/\m.aA.any (cJ name)=eX/\¬(m.p.1*m.p.2.2*8<(n:Int)∨12<=i4 m.aA)/\¬(aK ds m.drives=[]∨16777215<m.next∨2147483647<=m.seq):=by
 unfold cT at h
 grind
theorem Cp{m:au}{b:aL}(a:bB m.p=eS)(h:¬m.p.1*m.p.2.2*8<(i4 b:Int)):i4 (splitB m.p b)<=8:=by obtain⟨g,e,f⟩:=lU a;obtain⟨c,d,c3⟩:=mI a b.length;unfold splitB;rw[qp,zq];refine Nat.le_of_not_lt λh8=>?_;have:=c3 8 i6;omega
theorem Zr{o:av}(c:o≠[])(id:Nat):fu o id∈o:=by
 unfold fu JL;have b:0<i4 o:=j1
 have a:((id)%(i4 o:Int)).toNat<i4 o:=by have:=wL (id) (show(0:Int)<i4 o by omega);omega
 grind
theorem Qd{m:au}{o:Int}{tries:av}{j:ct}{live:av}(p:0<=o/\o<=16777215)(r:live≠[])(f:∀k∈live,0<=k/\k<64){n:Nat}(q:n<=8){y:Int×aL}(e:y∈eW m o tries j live n):y.1∈live/\y.2.length<=64:=by
 obtain⟨i,s,e⟩:=zM.1 e;obtain⟨id,_,rfl⟩:=qo.1 e;refine⟨?_,?_⟩
 .have c:cX o i live=tu ((8*o+i)%64).toNat live:=by unfold cX;grind
  have b:∀a,a∈cX o i live↔a∈live/\0<=a/\a<64:=λa=>by rw[c];exact Bn _ _ _
  have d:cX o i live≠[]:=λh=>by
   cases live with
   |nil=>grind
   |cons a l=>
    have:=(b a).2 ⟨qQ,f a qQ⟩
    grind
  exact((b _).1 (Zr d id)).1
 .show(cD _).length<=64;unfold cD;split
  .rename_i g;refine xG (mO i7 i7 ?_);have:=pm g;omega
  .simp
theorem afH{m:au}{e:Qw.bU}(b:cw m)(g:m.aA.length<=11)(d:e.name.size<=2^30)(c:e.tries.length<=2^30):cw (dK m e):=by
 refine⟨b.dr,?_,λf a=>?_⟩
 .show((m.aA++[e]).mergeSort sM).length<=2^30;rw[wD];simp;omega
 .have a:f∈(m.aA++[e]).mergeSort sM:=a;rcases qt.1 ((we _ _).mem_iff.1 a)with h|h
  .exact b.nm f h
  .rw[qw.1 h];exact⟨d,c⟩
section
variable {pw:f7}
theorem acB(x:bw)(m:au)(name:ByteArray)(s:Sl)(b:aL)(hS:St B h0 As λh=>Rd h s 1 aB b)(b6:s.len<=s.cap)(hn:name.size<=2^40)(Y:cw m)(hp:bB m.p=eS)(b0:0<=m.extra/\m.extra<=16)(cq:∀k∈m.drives,0<=k/\k<64)(b3:m.drives.length<=64)(bs:0<=m.seq)(bb:0<=m.next)(ce:b.length<=2^20)
  (H:aa B h0 h (bc bi a pw (aV x) offs da w ds::bJ x m::As)):
  ai kg 39 #[xW (dB a),xX name,s] h λv h'=>v=xU ka (dv m offs w ds name b).1/\
   ∃y,aa B h0 h' (bc bi a pw (aV y) offs da (dv m offs w ds name b).2.2.1 (dv m offs w ds name b).2.2.2::bJ y (dv m offs w ds name b).2.1::As):=by
 refine ts Tryz.func39 ?_ (xc (xc (xc (x6 [(9,cE),(10,lj)] [(9,11),(34,53)] (xc (xc (xc (xc (x6 [(12,(.sc .adr)),(13,cE)] [(12,14),(66,74)] v6))))))))) [(12,(.y [0,1,2,3,4,6] (.y [5] (.l [7,8,9,10]) (.l [8,7,9,10])) (.l [8,5,7,9,10])))];have ao:=(hS.at [_,_] H).len;refine(PS x m name s b.length ao hn (H.at 1 i5) Y hp H).x8 λh1 R1=>?_;have H1:=H.up R1.ac;refine⟨_,i5,bH (λe=>?_) λe1=>?_⟩
 .have ep:dv m offs w ds name b=(cT m (cF w offs) ds name b.length,m,w,ds):=by unfold dv;rw[g0 e]
  rw[ep];exact⟨i5,x,H1⟩
 obtain⟨z1,z2,z3,z4,z5⟩:=lX e1;have cf:¬m.p.1*m.p.2.2*8<(b.length:Int):=λh=>z4 (.inl h);have bd:m.aA.length<=11:=by have:¬12<=m.aA.length:=λh=>z4 (.inr h);omega
 have c6:aK ds m.drives≠[]:=λh=>z5 (.inl h);have cm:m.next<=16777215:=by have:¬16777215<m.next:=λh=>z5 (.inr (.inl h));omega
 have d9:m.seq<=2147483646:=by have:¬2147483647<=m.seq:=λh=>z5 (.inr (.inr h));omega
 have h8:=Cp hp cf;have eg:name.size<=12:=by unfold kW at z2;simp at z2;omega
 have b1:=(aa.cj H1).2;have a1:cN h1 x m:=H1.at 1 i5;refine⟨a,i5,x.2.1,b1.cell i5,H1.alloc ag i5 λa4 h2 H2=>?_⟩;have H2:=H2.aZ;refine H2.storeAll ag 0 i5 i5 (bW (name,x.2.1,(s.len:Int),⟨eH,0,0⟩)) i5 i5 i5 i5 λh3 H3=>?_;have H3:aa B h0 h3 (ak a4 51 (bW (name,m.next,(b.length:Int),⟨eH,0,0⟩))::bc bi a pw (aV x) offs da w ds::bJ x m::As):=by rw[<-a1.next,<-ao];exact H3
 have cp:∀{h':f9},bN h' a 75 (cU (aV x) pw offs da)->bt h' (a.add 2) 0 [xU ka m.p.1,xU ka m.p.2.1,xU ka m.p.2.2]:=λ{h'} hb=>by
  rw[<-a1.p];exact⟨kt,kt,kt,A0⟩
 obtain⟨nb,M⟩:=z6 ((splitB m.p b).length)
 have ar:countP m.p (s.len:Nat)=(nb:Int):=by have:=(mI hp b.length).1;rw[M,ao];unfold splitB;rw[qp,zq];omega
 refine bF (λ(t:Sl×Bool) h'=>(cW m.p m.next nb=eH->t.2=eX/\aa B h0 h' (bc bi a pw (aV x) offs da w ds::bJ x m::As))/\(∀l,cW m.p m.next nb=dB l->t.2=eS/\aa B h0 h' (aq 3 t.1 1 az l::ak a4 51 (bW (name,m.next,(b.length:Int),⟨eH,0,0⟩))::bc bi a pw (aV x) offs da w ds::bJ x m::As))) ?_ ?_
 .have cr:=H3.box 0 i5;have R:=(aa.cj (H3.aI 3 [1,0,2])).2;refine⟨a,i5,m.p,cp R,m.next,cr.cell i5,a,i5,m.p,cp R,(uG m.p s.len h3).x8 λh4 R4=>?_⟩;have H4:=H3.up R4.ac;have b9:=R.ac R4.ac R.lt;obtain⟨q1,q2,q3,_⟩:=cp b9;refine⟨_,i5,⟨(H4.box 0 i5).cell i5,q1,q2,q3,A0⟩,?_⟩;rw[ar];refine(Wa m.p m.next nb h4 i6).mono ?_;rintro _ h5 ⟨T0,T1⟩;cases ht:cW m.p m.next nb with
  |none=>
   obtain⟨rfl,R5⟩:=T0 ht;exact⟨(⟨eH,0,0⟩,eX),i5,A0,λ_=>⟨i5,(H4.up R5.ac).aI 3 [1,2]⟩,λl h=>j8⟩
  |some l=>
   obtain⟨r,rfl,R5⟩:=T1 l ht;exact⟨(r,eS),i5,A0,λh=>j8,λl' h=>(by injection h with h;subst h;exact⟨i5,H4.bS R5⟩)⟩
 rintro⟨u,tb⟩ h6 ⟨T0,T1⟩;dsimp only at T0 T1⊢;cases ht:cW m.p m.next nb with
 |none=>
  obtain⟨rfl,H6⟩:=T0 ht;have ep:dv m offs w ds name b=(8,m,w,ds):=by unfold dv;rw[g9 k9,<-M,ht]
  rw[ep];exact aX (λ_=>⟨i5,x,H6⟩) λe=>j3
 |some t=>
  obtain⟨rfl,H6⟩:=T1 t ht;refine aX (λe=>j3) λ_=>?_;have eh:=jY ht;refine H6.store ag 1 i5 i5 3 [u] i5 i5 i5 js λh7 H7=>?_;obtain⟨e,he⟩:∃e:Qw.bU,e=⟨name,m.next,b.length,t⟩:=⟨_,rfl⟩
  have H7:aa B h0 h7 (aq 3 u 1 az e.tries::ak a4 51 (bW (name,m.next,(b.length:Int),u))::bc bi a pw (aV x) offs da w ds::bJ x m::As):=by rw[he];exact H7
  have H7:=H7.aI 4 [2,3,0,1];have c4:St B h0 (bJ x m::aq 3 u 1 az e.tries::ak a4 51 (bW (name,m.next,(b.length:Int),u))::As) λh=>cN h x m/\eF kF h (name,m.next,(b.length:Int),u) e/\Rd h s 1 aB b:=λBs h' f=>
   ⟨(St.cR 0 i5 λ_ j=>j) Bs h' f,(St.cR (A:=aq 3 u 1 az e.tries) (Q:=λh=>eF kF h (name,m.next,(b.length:Int),u) e) 1 i5 λh' j=>⟨by rw[he];exact⟨i5,i5,i5⟩,j.1.seq (λ_=>rfl) j.2⟩) Bs h' f,(hS.cons.cons.cons) Bs h' f⟩
  refine⟨(name,m.next,(b.length:Int),u),(H7.box 3 i5).aE _ i5,?_⟩;refine(Nx x m (name,m.next,(b.length:Int),u) e s b c4 b6 Y hp b0 ce (by rw[he,<-M];exact ht) H7).mono ?_;rintro _ d0 ⟨r,ys,rfl,H8⟩;obtain⟨live,c⟩:=z6 (aK ds m.drives)
  obtain⟨l,hl⟩:=z6 (eW m m.next t (splitB m.p b) live nb)
  have b4:eW m e.object e.tries (splitB m.p b) (aK ds m.drives) (splitB m.p b).length=l:=by rw[hl,he,<-c,<-M]
  rw[b4]at H8;refine⟨(r,eS),i5,H8.alloc ag i5 λi h9 H9=>?_⟩;have H9:=H9.aZ;refine H9.storeAll ag 0 i5 i5 [r] i5 i5 i5 i5 λcs E=>?_;refine aX (λe=>j3) λ_=>?_;obtain⟨n,V⟩:=z6 (dK m e)
  have E:=(E.freeze 4 i5 λ_=>rfl).aI 6 [4,1,3,2,0,5];have cc:((name,m.next,(b.length:Int),u):eE).1=e.name/\((name,m.next,(b.length:Int),u):eE).2.1=e.object/\((name,m.next,(b.length:Int),u):eE).2.2.1=e.length:=by rw[he];exact⟨i5,i5,i5⟩
  have J:∀{h':f9} {Cs:List HP},aa B h0 h' (tO u 1 az e.tries::Cs)->cN h' x m->ai kg 94 #[eO x,PQ (name,m.next,(b.length:Int),u)] h' λv c0=>∃y:bw,v=eO y/\aa B h0 c0 (bJ y n::Cs):=λ{h' Cs} f hx'=>by
   rw[V];exact Zg x m _ e hx' Y ⟨bs,i6⟩ ⟨bb,i6⟩ bd cc f
  have K:=(aa.cj (E.aI 2 [1,0])).2;have L:=E.box 5 i5;have a2:cN cs x m:=E.at 2 i5;refine bF (λ(t:f7×Sl) h'=>∃y,aa B h0 h' (bc bi a pw (aV x) offs da w ds::bJ x m::dn iC 2 piv r ys l::ak i 107 [r]::ak t.1 48 (aV y)::bJ y n::aq 3 t.2 1 az live::As)) ?_ ?_
  .refine⟨a,i5,x,K.aE _ i5,(name,m.next,(b.length:Int),u),L.aE _ i5,?_,?_⟩
   .refine(J E a2).y0 λy ei I=>?_;have I:=I.aI 6 [1,2,3,4,0];refine⟨y,i5,A0,?_,?_⟩
    .refine(dt x m (I.at 1 i5) Y I).y0 λG ea a8=>?_;rw[<-c]at a8;have bq:=I.bS a8;refine⟨G,i5,A0,bq.alloc ag i5 λdx du ah=>⟨A0,?_⟩⟩;have ah:=ah.aZ;refine ah.storeAll ag 0 i5 i5 (aV y) i5 i5 i5 i5 λd2 cn=>⟨A0,y,?_⟩
     exact cn.aI 7 [2,3,4,5,0,6,1]
    .refine I.alloc ag i5 λa22 ef U=>⟨A0,?_⟩
     have U:=U.aZ;have ab:=U.aI 6 [1,2,3,4,5,0];refine(dt x m (ab.at 1 i5) Y ab).y0 λG dd a3=>?_;rw[<-c]at a3;have cl:=(U.bS a3).aI 2 [1,0];refine⟨G,i5,A0,cl.storeAll ag 0 i5 i5 (aV y) i5 i5 i5 i5 λeb c5=>⟨A0,y,?_⟩⟩;exact c5.aI 7 [2,3,4,5,0,6,1]
   .refine E.Ep ag i5 λec ed ax X=>?_;have d:=K.ac ax K.lt;have F:=L.ac ax L.lt;refine⟨⟨F.cell0 i5,F.cell i5,F.cell i5,F.cell i5,d.cell0 i5,d.cell i5,d.cell i5,d.cell i5,d.cell i5,d.cell i5,d.cell i5,d.cell i5,A0⟩,?_⟩;have X:=(X.aZ).aI 7 [1,0,2,3,4,5];refine(J X (X.at 3 i5)).y0 λy d7 b5=>?_;have O:=b5.aI 6 [2,3,4,5,0,1];refine⟨y,i5,A0,(dt x m (O.at 1 i5) Y O).y0 λG dr a6=>?_⟩;rw[<-c]at a6;have cd:=(O.bS a6).aI 7 [6,0,1,2,3,4,5];refine⟨G,i5,A0,cd.storeAll ag 0 i5 i5 (aV y) i5 i5 i5 i5 λdp ca=>⟨A0,y,?_⟩⟩;exact ca.aI 7 [2,3,4,5,0,6,1]
  rintro⟨am,G⟩ b2 ⟨y,S⟩;dsimp only at S⊢;have ap:cw n:=by rw[V];exact afH Y bd (by rw[he];show name.size<=2^30;omega) (by rw[he];show t.length<=2^30;omega)
  have c9:n.drives=m.drives:=by rw[V];rfl
  have d5:live.length<=64:=by rw[c];exact qM (qE _ _) b3
  have q:∀k∈live,0<=k/\k<64:=λk hk=>by rw[c]at hk;exact cq k (qB.1 hk).1
  have a9:(m.p.1+m.extra).toNat<=32:=by have:=(bK m.p).1 hp;omega
  have d6:l.length<=256:=by rw[hl,Aw];exact zK (show nb<=8 by omega) a9
  have c7:∀z∈l,(0<=z.1/\z.1<64)/\z.2.length<=2^20:=λz bk=>by
   rw[hl]at bk;obtain⟨p1,p2⟩:=Qd (m:=m) ⟨bb,cm⟩ (by rw[c];exact c6) q (show nb<=8 by omega) bk;exact⟨q _ p1,qM p2 i7⟩
  refine⟨y,(S.box 4 i5).aE _ i5,(lm y n b2 (S.at 5 i5) ap).y0 λpg d3 bl=>?_⟩;have ad:=(aa.pM bl).1;have a0:=iN n ap;obtain⟨pn,ay⟩:=z6 ((ba n).length)
  rw[<-ay]at ad a0;have br:=S.up bl.ac;refine⟨pg,i5,br.alloc ag i5 λo dy al=>?_⟩;have al:=al.aZ;refine al.storeAll ag 0 i5 i5 [xU ka (pg.len:Int)] i5 i5 i5 i5 λc1 D=>?_;rw[ad]at D;have D:aa B h0 c1 (bc bi a pw (aV x) offs da w ds::bJ x m::dn iC 2 piv r ys l::ak i 107 [r]::ak am 48 (aV y)::bJ y n::aq 3 G 1 az live::ak o 3 [xU ka (pn:Int)]::As):=D.aI 8 [1,2,3,4,5,6,7,0];obtain⟨N,hN⟩:=z6 (kh pn l)
  obtain⟨T,P⟩:=z6 (bJ x m::dn iC 2 piv r ys l::ak i 107 [r]::ak am 48 (aV y)::bJ y n::aq 3 G 1 az live::ak o 3 [xU ka (pn:Int)]::As)
  have tX:St B h0 T λh=>cN h x m:=by rw[P];exact St.cR 0 i5 λ_ j=>j
  have tF:St B h0 T λh=>oz iC 2 piv h r ys l:=by rw[P];exact St.cR 1 i5 λ_ j=>j
  have tB:St B h0 T λh=>bN h i 107 [r]:=by rw[P];exact St.cR (A:=ak i 107 [r]) 2 i5 λ_ j=>j.1
  have tM:St B h0 T λh=>bN h am 48 (aV y):=by rw[P];exact St.cR (A:=ak am 48 (aV y)) 3 i5 λ_ j=>j.1
  have tY:St B h0 T λh=>cN h y n:=by rw[P];exact St.cR 4 i5 λ_ j=>j
  have tL:St B h0 T λh=>Rd h G 1 az live:=by rw[P];exact St.cR (A:=aq 3 G 1 az live) 5 i5 λ_ j=>j.1.seq (λ_=>rfl) j.2
  have tN:St B h0 T λh=>bN h o 3 [xU ka (pn:Int)]:=by rw[P];exact St.cR (A:=ak o 3 [xU ka (pn:Int)]) 6 i5 λ_ j=>j.1
  have tT:St B h0 T λh=>Oa 95 #[] #[xW (dB o),xW (dB i)] N live h:=λBs h' f k hk=>by
   rw[hN];exact Zq k o i pn r ys l h' i6 i6 (tN Bs h' f) (tB Bs h' f) (tF Bs h' f)
  have fin:∀{h':f9} {z:bw} {w':Pow} {ds':aD},aa B h0 h' (bc bi a pw (aV x) offs da w' ds'::T)->aa B h0 h' (bc bi a pw (aV x) offs da w' ds'::bJ x m::As):=λ{h' z w' ds'} f=>by
   rw[P]at f;exact f.aI 8 [0,1]
  rw[<-P]at D;have ep:dv m offs w ds name b=(if dL m ds live N=eX then(7,m,w,ds)else if(makes m N live w ds).1≠0 then((makes m N live w ds).1,m,(makes m N live w ds).2)else
    if(layAll l (makes m N live w ds).2.1 (makes m N live w ds).2.2).1≠0 then((layAll l (makes m N live w ds).2.1 (makes m N live w ds).2.2).1,m,(layAll l (makes m N live w ds).2.1 (makes m N live w ds).2.2).2)else
    ((layAll (bA n live) (layAll l (makes m N live w ds).2.1 (makes m N live w ds).2.2).2.1 (layAll l (makes m N live w ds).2.1 (makes m N live w ds).2.2).2.2).1,if(layAll (bA n live) (layAll l (makes m N live w ds).2.1 (makes m N live w ds).2.2).2.1 (layAll l (makes m N live w ds).2.1 (makes m N live w ds).2.2).2.2).1=0 then n else m,(layAll (bA n live) (layAll l (makes m N live w ds).2.1 (makes m N live w ds).2.2).2.1 (layAll l (makes m N live w ds).2.1 (makes m N live w ds).2.2).2.2).2)):=by
   rw[hN,ay,hl,V,he,c];unfold dv;rw[g9 k9,<-M,ht]
  rw[ep];refine(JF 95 #[] #[xW (dB o),xW (dB i)] N x m G live k8 (λBs h' f=>⟨tX Bs h' f,tT Bs h' f⟩) Y (tL.at [_] D) i6 q D).x8 λd8 c8=>?_;have a5:=D.up c8.ac;refine⟨_,i5,aX (λg=>?_) λg=>?_⟩
  .rw[g0 g];exact⟨i5,x,fin (z:=x) a5⟩
  rw[g9 (by rw[g];decide)];refine(JH 95 #[] #[xW (dB o),xW (dB i)] N x m G live k8 (λBs h' f=>⟨tX Bs h' f,tT Bs h' f,tL Bs h' f⟩) Y i6 q a5).x8 λdk W=>?_;obtain⟨m1,b7⟩:=z6 (makes m N live w ds)
  rw[<-b7]at W⊢;refine⟨_,i5,bH (λg2=>?_) λg2=>?_⟩
  .rw[g0 g2];exact⟨i5,x,fin (z:=x) W⟩
  rw[g9 (by simpa using g2)];refine⟨r,(tB.at [_] W).cell0 i5,(tp r ys l tF i6 c7 W).x8 λd4 Z=>?_⟩;obtain⟨r2,c2⟩:=z6 (layAll l m1.2.1 m1.2.2)
  rw[<-c2]at Z⊢;refine⟨_,i5,bH (λg3=>?_) λg3=>?_⟩
  .rw[g0 g3];exact⟨i5,x,fin (z:=x) Z⟩
  rw[g9 (by simpa using g3)];refine⟨y,(tM.at [_] Z).aE _ i5,(JJ x y n G live (λBs h' f=>⟨tY Bs h' f,tL Bs h' f⟩) ap i6 q Z).x8 λd1 ⟨Q1,Q0⟩=>?_⟩;refine⟨_,i5,i5,?_⟩;by_cases g4:(layAll (bA n live) r2.2.1 r2.2.2).1=0
  .obtain⟨y2,a7⟩:=Q0 g4;rw[g0 g4];rw[P]at a7;exact⟨y2,a7.aI 9 [0,1]⟩
  .rw[g9 g4];exact⟨x,fin (z:=x) (Q1 g4)⟩
end
theorem Wi(n:Nat)(x:Int)(h:f9)(k:n<=2^30):ai kg 38 #[xU ka n,xU ka x] h λv h'=>∃(r:Sl) (l:aL),v=r/\l.length=n/\Sp h h' [aq 5 r 1 aB l]:=by
 refine ts Tryz.func38 ?_ (xc (xc (x0 [(5,cE),(6,aR)] [(5,25)])));refine an (λt:Sl×Nat×aL=>(t.1,(t.2.1:Int))) (λt h'=>t.2.1<=n/\t.2.2.length=t.2.1/\Sp h h' [aq 5 t.1 1 aB t.2.2]) (λt=>n-t.2.1) (⟨eH,0,0⟩,0,[]) i5 ⟨js,i5,(Sp.refl h).nil 5 1 aB⟩ ?_;rintro⟨o,i,l⟩ m ⟨p,g,a⟩;dsimp only at*;refine ae (λe=>?_) λe=>?_
 .have f:i<n:=i6
  refine⟨i7,Int.tmod_nonneg _ i6,?_⟩;rw[fa];generalize b8 (qd ka _)=c;refine a.push ag 0 i5 gm i5 i7 (λ_=>rfl) ib c i5 i7 i6 λb j d=>?_;refine⟨(b,i+1,l++[c]),j0,⟨i9,?_,d⟩,i9⟩;simp[g]
 .exact⟨o,l,i5,i6,a⟩
variable {α:Type} {k:Nat} {f:α->aW} {L M:List (Sl×List α)}
theorem aa.acC(H:aa B h0 h (jE k f L::jE k f M::As)):aa B h0 h (jE k f (L++M)::As):=by
 have g:=H.mh;refine g.fN 0 i5 λq ⟨j,i,_,b,c,d,e⟩ y a=>?_;rcases qt.1 a with a|a
 .exact(e y a).mono c
 .exact(d y a).mono b
def Do(o b:Int)(a:List cH):List (Int×aL):=(a.filter λr=>decide (r.object=o)&&decide (r.block=b)).map λr=>(r.id,r.data)
def Ax(m:au)(o b:Int)(l:ct):List (Int×aL):=((dJ m l).filter λr=>decide (r.object=o)&&decide (r.block=b)).map λr=>(r.id,r.data)
def ik(m:au)(ds:aD)(o b:Int)(k:Int):List (Int×aL):=match aT ds k with|some d=>Ax m o b d.l|none=>[]
def ff(m:au)(ds:aD)(a:av)(o b:Int):List (Int×aL):=a.flatMap (ik m ds o b)
abbrev ajz:bV C.toBX 137 140 2 [xU ka 0,xV eH 0 0] 32:=⟨_,_,i5,i5,i5,i5,i5,i5⟩
def Wj(pool:List (Sl×aL))(p:(Int×Sl)×(Int×aL)):Prop:=p.1.1=p.2.1/\(p.1.2,p.2.2)∈pool
variable {mc:aW}
section
variable {pw:f7}
theorem Ay(x:bw)(m:au)(s:Sl)(f:av)(o b:Int)(hx:cN h x m)(hz:cw m)(hs:Rd h s 1 az f)(hl:f.length<=2^10)(hd:∀k∈f,∃d,aT ds k=dB d)(H:aa B h0 h (bc bi a pw mc offs da w ds::As)):
  ai kg 83 #[.func (.func 29) #[xW (dB a)] #[],s,eO x,xU ka o,xU ka b] h λv h'=>∃(r:Sl) (ys:List (Int×Sl)),v=r/\Sp h h' [dn iC 2 piv r ys (ff m ds f o b)]:=by
 refine ts Tryz.func83 ?_ (xc (xc (u9 (xc (v7 (ws [(11,cE),(18,aR)] [(11,12),(13,14),(15,16),(18,52)] (xc (xc (u9 (v7 (xc (x6 [(26,cE),(27,aR),(28,aR)] [(22,29)] (v7 (ws [(11,cE),(28,aR)] [(11,12),(15,16),(28,51)] v6))))) v6)))))) v6))) [(5,(.l [0,1,3,6,2,4,5]))] (args:=[(.func (.func 29) #[xW (dB a)] #[]),s,x,(o:Int),(b:Int)]);have a7:=hs.len;refine(Sp.refl h).boxed λa1 Y H1=>?_;have H1:=((H1.Uf 1 aB).nil 140 2 piv).bO [2,0,1];refine an (λt:Sl×Nat×List ((Int×Sl)×(Int×aL))×List (Sl×aL)=>(t.1,(t.2.1:Int))) (λt h'=>t.2.1<=f.length/\t.2.2.1.length<=t.2.1*512/\t.2.2.1.map zw=ff m ds (f.take t.2.1) o b/\(∀p∈t.2.2.1,Wj t.2.2.2 p)/\Sp h h' [aq 140 t.1 2 piv (t.2.2.1.map qD),jE 1 aB t.2.2.2,ak a1 48 (aV x)]) (λt=>f.length-t.2.1) (⟨eH,0,0⟩,0,[],[]) i5 ⟨js,js,by simp[ff],js,H1⟩ ?_;rintro⟨u,i,L,P⟩ h2 ⟨hi,a3,J,T,X⟩;dsimp only at*;refine ae (λe=>?_) λe=>?_
 .have U:i<f.length:=i6
  refine(Seq.up hs X.ac).bm i i5 U f[i] i5 (aJ ?_);obtain⟨d,F⟩:=hd f[i] (qe U);have Hc:=H.up X.ac;obtain⟨ok,hb⟩:=aa.cj Hc;have A:=X.box 2 i5;refine⟨x,A.aE _ i5,eJ k8 ?_⟩;refine(lC f[i] ok hb).mono ?_;rintro _ h3 ⟨rfl,rfl⟩;refine⟨_,i5,⟨A.cell0 i5,A.cell i5,A.cell i5,A.cell i5,A.cell i5,A.cell i5,A.cell i5,A.cell i5,A0⟩,?_⟩;rcases mz ok f[i]with⟨c1,c2⟩|⟨n,d',bb,c0,c1,c2,c3,c4,c5⟩
  .rw[F]at c1;cases c1
  have ah:d=d':=by rw[c3]at F;injection F with F;exact F.symm
  subst ah;rw[c5];obtain⟨a6,E,H3⟩:=Qw.aa.iM Hc c2;rw[c4]at E;injection E with E
  injection E with E
  subst E;obtain⟨W,sd,bd,ad⟩:=aa.rk H3;have a0:=W.len;have ao:=W.room;refine(rq bb pw d sd bd x m h3 (ad.box 0 i5) ((ad.aI 2 [1]).Cb λ_=>rfl) W (hx.up X.ac) hz).mono ?_;rintro _ h4 ⟨r7,K,rfl,R4⟩;have ar:=nC m d.l;obtain⟨c,G⟩:=z6 (dJ m d.l)
  rw[<-G]at R4 ar;have H4:=(X.bS R4).aI 4 [1,2,0,3];have F4:=H4.dZ 2 i5;have a8:=F4.2.1;have a4:=F4.1.len;refine⟨r7,i5,A0,?_⟩;have ab:ik m ds o b f[i]=Do o b c:=by unfold ik;rw[F];show Ax m o b d.l=_;unfold Ax Do;rw[G]
  have V:ff m ds (f.take (i+1)) o b=ff m ds (f.take i) o b++Do o b c:=by unfold ff;rw[aG _ _ U,zb,zg,wg,qI,ab]
  obtain⟨Q,hQ⟩:∃Q:List (Sl×aL),Q=(K.zip c).map λz=>(z.1.2.2.2.2.2.2.2,z.2.data):=⟨_,rfl⟩
  refine an (λt:Sl×Nat×List ((Int×Sl)×(Int×aL))=>(t.1,(t.2.1:Int))) (λt h'=>t.2.1<=c.length/\t.2.2.length<=L.length+t.2.1/\t.2.2.map zw=ff m ds (f.take i) o b++Do o b (c.take t.2.1)/\(∀p∈t.2.2,Wj (P++Q) p)/\Sp h h' [aq 140 t.1 2 piv (t.2.2.map qD),jE 1 aB P,dn fx 8 bZ r7 K c,ak a1 48 (aV x)]) (λt=>c.length-t.2.1) (u,0,L) i5 ⟨js,js,by simp[Do,J],λp R=>⟨(T p R).1,List.mem_append_left _ (T p R).2⟩,H4⟩ ?_;rintro⟨u2,j,L2⟩ h5 ⟨hj,bk,N,S,H5⟩;dsimp only at*;have F5:=H5.dZ 2 i5;refine ae (λe2=>?_) λe2=>?_
  .have Z:j<c.length:=i6
   have al:=Fix.row F5 Z;obtain⟨⟨g1,g2,g3,g4,g5,g6,g7⟩,g8⟩:=al;refine F5.1.dO (g:=bZ) j i5 i6 (K[j]'i6) i5 ?_;refine H5.alloc ag i5 λa5 h6 H6=>?_;refine H6.storeAll ag 4 i5 i5 (bZ (K[j]'i6)) i5 i5 i5 i5 λh7 H7=>?_;have M:=H7.box 4 i5;have O:Do o b (c.take (j+1))=Do o b (c.take j)++(if(decide (c[j].object=o)&&decide (c[j].block=b))=eS then[(c[j].id,c[j].data)]else[]):=by unfold Do;rw[aG _ _ Z,zk,qP,zN,vN];split<;>rfl
   have skip:(decide (c[j].object=o)&&decide (c[j].block=b))=eX->∃I:Sl×Nat×List ((Int×Sl)×(Int×aL)),((⟨u2.ptr,u2.len,u2.cap⟩:Sl),qd ka ((j:Int)+1))=(I.1,(I.2.1:Int))/\(I.2.1<=c.length/\I.2.2.length<=L.length+I.2.1/\I.2.2.map zw=ff m ds (f.take i) o b++Do o b (c.take I.2.1)/\(∀p∈I.2.2,Wj (P++Q) p)/\Sp h h7 [aq 140 I.1 2 piv (I.2.2.map qD),jE 1 aB P,dn fx 8 bZ r7 K c,ak a1 48 (aV x)])/\c.length-I.2.1<c.length-j:=λhc=>
    ⟨(u2,j+1,L2),j0,⟨i9,i9,by dsimp only;rw[O,hc];simpa using N,S,H7.bO [0,1,2,3]⟩,i9⟩
   refine⟨c[j].object,by rw[<-g1];exact M.cell0 i5,aY (λq1=>?_) λq1=>skip (by rw[ii q1];rfl)⟩;refine⟨c[j].block,by rw[<-g2];exact M.cell i5,aY (λq2=>?_) λq2=>skip (by rw[ii q2,Bool.and_false])⟩;refine⟨c[j].id,by rw[<-g3];exact M.cell i5,(K[j]'i6).2.2.2.2.2.2.2,M.cell i5,?_⟩;refine H7.push ag 0 i5 ajz i5 i7 (λ_=>rfl) GC (c[j].id,(K[j]'i6).2.2.2.2.2.2.2) j6 i7 jj λu3 a9 ap=>?_;refine⟨(u3,j+1,L2++[((c[j].id,(K[j]'i6).2.2.2.2.2.2.2),(c[j].id,c[j].data))]),j0,⟨i9,jj,?_,λp R=>?_,?_⟩,i9⟩
   .try dsimp only
    rw[qP,N,O,g0 (by rw[hU q1,hU q2];rfl),qm];rfl
   .rcases qt.1 R with R|R
    .exact S p R
    .rw[qw.1 R];refine⟨i5,List.mem_append_right _ ?_⟩;rw[hQ];refine qo.2 ⟨(K[j]'i6,c[j]),?_,i5⟩;rw[<-y8 (h:=by simp;omega)];exact qe _
   .try dsimp only
    rw[qP];exact ap.bO [0,1,2,3]
  .have ax:j=c.length:=i6
   subst ax;rw[qL,<-V]at N;have a2:=F5.2.1;have H6:=(H5.fN 2 i5 (D:=jE 1 aB Q) λq hq y hy=>by
    rw[hQ]at hy;obtain⟨z,am,rfl⟩:=qo.1 hy;obtain⟨k,hk,rfl⟩:=qA am;have ay:k<c.length:=by simp at hk;omega
    have:=(Fix.row hq ay).2;rw[y8];exact this).bO [1,2,0,3]
   have H7:=aa.acC H6;refine⟨(u2,i+1,L2,P++Q),j0,⟨i9,i9,N,S,H7.bO [1,0,2]⟩,i9⟩
 .rw[qh i6]at J;refine⟨u,L.map qD,i5,?_⟩;have H3:=((X.freeze 0 i5 λ_=>rfl).bO [1,0]).mh;refine H3.fN 0 i5 λq ⟨q1,q2,_,bq,cq,z1,z2⟩=>?_;refine⟨z1.mono bq,by rw[<-J];simp,λj r e Y h2=>?_⟩;rw[<-J]at h2;rw[qR]at Y h2;cases hj:L[j]? with
  |none=>rw[hj]at Y;cases Y
  |some p=>
   rw[hj]at Y h2;have e1:=wj.inj (show dB p.1=dB r from Y);have e2:=wj.inj (show dB p.2=dB e from h2);subst e1;subst e2;obtain⟨k1,k2⟩:=T p (List.mem_of_getElem? hj);exact⟨k1,(z2 _ k2).mono cq⟩
end
def dz(m:au)(ds:aD)(o b:Int)(live:av):bX:=live.map λk=>(ff m ds [k] o b).map qD
abbrev ahW:bV C.toBX 79 22 1 [xV eH 0 0] 24:=⟨_,_,i5,i5,i5,i5,i5,i5⟩
section
variable {pw:f7}
theorem afI{k:Int}{l:av}(h:k∈aK ds l):∃d,aT ds k=dB d/\d.lost=eX:=by
 have h:=(qB.1 h).2;unfold isLive at h;cases hd:aT ds k with
 |none=>rw[hd]at h;cases h
 |some d=>rw[hd]at h;exact⟨d,i5,l0⟩
theorem Dp(m:au)(o b:Int)(l:ct):i4 (Ax m o b l)<=i4 l:=by unfold Ax;rw[qp];exact qM (qE _ _) (nC m l)
theorem Wk(x:bw)(m:au)(o b:Int)(X:cN h x m)(T:cw m)(al:i4 m.drives<=64)(f:∀k d,aT ds k=dB d->i4 d.l<=512)(H:aa B h0 h (bc bi a pw (aV x) offs da w ds::As)):
  ai kg 30 #[xW (dB a),xU ka o,xU ka b] h λv h'=>∃r:Sl,v=r/\Sp h h' [fC 22 r 3 1 az (dz m ds o b (aK ds m.drives))]:=by
 refine ts Tryz.func30 ?_ (xc (xc (u9 (xc (v7 (ws [(7,cE),(16,aR)] [(7,8),(9,11),(12,13),(16,47)] (xc (xc (u9 (v7 (xc (xc (x0 [(10,cE),(32,aR)] [(10,11),(12,13),(32,42)])))) v6)))))) v6)));refine(dt x m X T H).y0 λO h1 G=>?_;have N:i4 (aK ds m.drives)<=i4 m.drives:=qE _ _;have s:∀k∈aK ds m.drives,∃d,aT ds k=dB d:=λk K=>by obtain⟨d,h,_⟩:=afI K;exact⟨d,h⟩
 obtain⟨live,c⟩:=z6 (aK ds m.drives)
 rw[<-c]at G N s⊢;have ad:=(G.own 0 i5).len;refine⟨O,i5,?_⟩;have am:i4 (dz m ds o b live)=i4 live:=by simp[dz]
 have H1:=G.ww 22 3 1 az;refine an (λt:Sl×Nat=>(t.1,(t.2:Int))) (λt h'=>t.2<=i4 live/\Sp h h' [fC 22 t.1 3 1 az ((dz m ds o b live).take t.2),aq 3 O 1 az live]) (λt=>i4 live-t.2) (⟨eH,0,0⟩,0) i5 ⟨js,H1⟩ ?_;rintro⟨u,i⟩ h2 ⟨hi,E⟩;dsimp only at*;refine ae (λe=>?_) λe=>?_
 .have y:i<i4 live:=i6
  refine(E.seq 1 i5 λ_=>rfl).bm i i5 y live[i] i5 ?_;refine E.lit ag az gz i5 [live[i]] i5 (show 1*1<=2^20 by decide) i5 λq h3 D=>?_;have V:=H.up D.ac;have L:=(aa.cj V).2;refine⟨a,i5,x,L.aE _ i5,?_⟩;obtain⟨d,J⟩:=s live[i] (qe y);refine(Ay x m q [live[i]] o b (X.up D.ac) T (D.seq 2 i5 λ_=>rfl) js (λk K=>by rw[qw.1 K];exact⟨d,J⟩) V).mono ?_;rintro _ h4 ⟨R,M,rfl,U⟩;obtain⟨S,p⟩:=z6 (ff m ds [live[i]] o b)
  have ar:i4 S<=512:=by rw[p];unfold ff ik;rw[zg,wg,qI,J];exact qM (Dp _ _ _ _) (f _ _ J)
  rw[<-p]at U;have F:=(D.bS U).aI 4 [1,2,0];have Y:=F.dZ 2 i5;have ap:=Y.2.1;have ab:=Y.1.len;refine⟨R,i5,?_⟩;have F:=(F.nil 3 1 az).bO [3,0,1,2];refine an (λt:Sl×Nat=>(t.1,(t.2:Int))) (λt h'=>t.2<=i4 S/\Sp h h' [aq 3 t.1 1 az ((S.map qD).take t.2),fC 22 u 3 1 az ((dz m ds o b live).take i),aq 3 O 1 az live,dn iC 2 piv R M S]) (λt=>i4 S-t.2) (⟨eH,0,0⟩,0) i5 ⟨js,F⟩ ?_;rintro⟨u2,j⟩ h5 ⟨hj,A⟩;dsimp only at*;have W:=A.dZ 3 i5;refine ae (λe2=>?_) λe2=>?_
  .have I:j<i4 S:=i6
   have z:=Fix.row W I;refine W.1.dO (g:=piv) j i5 i6 (M[j]'i6) i5 ?_;refine A.alloc ag i5 λao h6 H6=>?_;refine H6.storeAll ag 4 i5 i5 (piv (M[j]'i6)) i5 i5 i5 i5 λh7 Q=>?_;refine⟨S[j].1,by rw[<-z.1];exact(Q.box 4 i5).cell0 i5,?_⟩;refine Q.push ag 0 i5 gz i5 i7 (λ_=>rfl) eZ S[j].1 i5 i7 jj λu3 h9 Z=>?_;refine⟨(u3,j+1),j0,⟨i9,?_⟩,i9⟩
   try dsimp only
   rw[aG _ _ (show j<i4 (S.map qD) by simp;omega),zU];exact Z.bO [0,1,2,3]
  .rw[qh jj]at A;refine(A.aI 2 [1,0]).CM ag ahW jj λu3 ah P=>?_;refine⟨(u3,i+1),j0,⟨i9,?_⟩,i9⟩
   try dsimp only
   rw[aG _ _ (show i<i4 (dz m ds o b live) by omega)];have ew:(dz m ds o b live)[i]'i6=S.map qD:=by simp[dz,p]
   rw[ew];exact P.bO [0,1]
 .rw[qh i6]at E;exact⟨u,i5,E.bO [0]⟩
end
def Pow.calm(w:Pow):Prop:=w.off=eX/\w.fuse=eH
theorem iF:Pow.new.calm:=⟨i5,i5⟩
theorem tv{w:Pow}(h:w.calm):w.step=(eS,w):=by unfold Pow.step;rw[g9 (by simp[h.1]),h.2]
theorem Hk{w:Pow}(h:w.calm)(ds:aD)(x:Int)(b:aL):(gv w ds x b).2.1=w:=by
 unfold gv;cases aT ds x with
 |none=>rfl
 |some d=>
  try dsimp only
  unfold be.append;split
  .rfl
  .split
   .rfl
   .split
    .rfl
    .split
     .rfl
     .rw[tv h];rfl
theorem MI{w:Pow}(h:w.calm)(ds:aD)(x:Int):(ic w ds x).2.1=w:=by
 unfold ic;cases aT ds x with
 |none=>rfl
 |some d=>
  try dsimp only
  unfold be.sync;split
  .rfl
  .rw[tv h];rfl
theorem rz{w:Pow}(h:w.calm):∀(l:List (Int×aL)) (ds:aD),(lM l w ds).2.1=w
 |[],_=>rfl
 |x::l,ds=>by
  rw[xg,Hk h];split
  .exact rz h l _
  .exact Hk h _ _ _
theorem Dq{w:Pow}(h:w.calm):∀(l:av) (ds:aD),(fp l w ds).2.1=w
 |[],_=>rfl
 |x::l,ds=>by
  rw[ut,MI h];split
  .exact Dq h l _
  .exact MI h _ _
theorem acD{w:Pow}(h:w.calm)(l:List (Int×aL))(ds:aD):(layAll l w ds).2.1=w:=by
 unfold layAll
 try dsimp only
 rw[rz h];split
 .exact Dq h _ _
 .exact rz h _ _
theorem Hl{w:Pow}{d:be}{n:Nat}{b:aL}(h:w.calm)(a:d.lost=eX)(c:i4 d.l+(n+1)<=d.room)(e:i4 b=64):d.append w b=(0,w,{d with l:=d.l++[b],wait:=d.wait+1,laid:=[],has:=eX}):=by unfold be.append;rw[g9 i6,g9 j1,g9 i6,g9 (by simp[h.1]),tv h];rfl
theorem Zs{w:Pow}{d:be}(h:w.calm)(a:d.lost=eX):d.sync w=(0,w,{d with wait:=0,laid:=[],has:=eX}):=by unfold be.sync;rw[g9 j1,tv h];rfl
theorem ahX{ds:aD}{s:Int}{d:be}(h:aT ds s=dB d):0<=s/\s<64:=by obtain⟨n,rfl,a⟩:=kl h;omega
def JN(ds:aD)(P:List (Int×aL))(s:Int):Option be:=
 (aT ds s).map λd=>{d with l:=d.l++(P.filter λx=>decide (x.1=s)).map zw,wait:=d.wait+i4 (P.filter λx=>decide (x.1=s)),laid:=if(P.filter λx=>decide (x.1=s)).isEmpty then d.laid else[],has:=if(P.filter λx=>decide (x.1=s)).isEmpty then d.has else eX}
theorem Fy{w:Pow}(h:w.calm){S:av}:∀(P:List (Int×aL)) (ds:aD),Fit ds S (P.map qD)->(∀x∈P,x.1∈S/\x.2.length=64)->
  (lM P w ds).1=0/\Fit (lM P w ds).2.2 S []/\∀s,aT (lM P w ds).2.2 s=JN ds P s
 |[],ds,F,_=>⟨i5,F,λs=>by unfold JN;show aT ds s=_;simp⟩
 |x::P,ds,F,hP=>by
  obtain⟨d,i,m,f⟩:=F.at_ x.1 (hP x (qQ ..)).1;rw[zS,List.count_cons_self]at f;have c:=(hP x (qQ ..)).2;obtain⟨n,j,a⟩:=kl i;have p:=Hl (n:=(P.map qD).count x.1) h m i6 c;have e:gv w ds x.1 x.2=(0,w,ck ds x.1 {d with l:=d.l++[x.2],wait:=d.wait+1,laid:=[],has:=eX}):=by unfold gv;grind
  obtain⟨_,b⟩:=Nv w x.2 (x:=x.1) (Q:=P.map qD) F (hP x (qQ ..)).1 c;rw[xg,e];rw[e]at b;rw[g0 rfl];obtain⟨g,o,a3⟩:=Fy h P _ b λy k=>hP y (qC _ k);refine⟨g,o,λs=>?_⟩;rw[a3 s];unfold JN;rw[j,Cn _ _ _ _ a F.len,]
  grind
theorem Dr{w:Pow}(h:w.calm){S:av}:∀(l:av) (ds:aD),Fit ds S []->(∀x∈l,x∈S)->
  (fp l w ds).1=0/\Fit (fp l w ds).2.2 S []/\∀s,aT (fp l w ds).2.2 s=(aT ds s).map λd=>if s∈l then{d with wait:=0,laid:=[],has:=eX}else d
 |[],ds,F,_=>⟨i5,F,λs=>by show aT ds s=_;simp⟩
 |x::l,ds,F,hl=>by
  obtain⟨d,b,j,m⟩:=F.at_ x (hl x (qQ ..));obtain⟨n,c,a⟩:=kl b;have e:ic w ds x=(0,w,ck ds x {d with wait:=0,laid:=[],has:=eX}):=by unfold ic;rw[b];(try dsimp only);rw[Zs h j]
  obtain⟨_,f⟩:=Sq w F (hl x (qQ ..));rw[ut,e];rw[e]at f;rw[g0 rfl];obtain⟨g,k,a3⟩:=Dr h l _ f λy i=>hl y (qC _ i);refine⟨g,k,λs=>?_⟩;rw[a3 s,c,Cn _ _ _ _ a F.len,<-c]
  grind
section
variable {pw:f7}
end
theorem mT(p:Pm)(h:f9):ai kg 84 #[ir p] h λv h'=>v=xY (bB p)/\Sp h h' []:=by refine ts Tryz.func84 ?_ (args:=[p]);refine(Sp.refl h).boxed λa d i=>?_;have e:=i.box 0 i5;have c:Sp h d []:=.zip i.ac;have j:f8 d a=dB (xU ka p.1):=e.cell0 i5;have f:f8 d (a.add 1)=dB (xU ka p.2.1):=e.cell i5;have g:f8 d (a.add 2)=dB (xU ka p.2.2):=e.cell i5;unfold bB;refine⟨_,j,ae (λb=>?_) λb=>⟨m4,c⟩⟩;rw[hU b];refine⟨_,j,ae (λb=>?_) λb=>⟨m4,c⟩⟩;rw[hU b];refine⟨_,f,ae (λb=>?_) λb=>⟨m4,c⟩⟩;rw[hU b];refine⟨_,f,ae (λb=>?_) λb=>⟨m4,c⟩⟩;rw[hU b];refine⟨_,g,ae (λb=>?_) λb=>⟨m4,c⟩⟩;rw[hU b];exact⟨_,g,i5,c⟩
section
variable {pw:f7}
end
def sq(p:Pm)(extra:Int)(l:av):Int:=
 if(fZ l).2&&(bB p&&ga extra 0 16)then
  if(bz l l.length).any λi=>decide (l.getD i.toNat 0<(i4 (ba (cV p extra l)):Int))then 7 else 0
 else 1
theorem Wm(p:Pm)(extra:Int)(w:Pow)(l:av):ey p extra w l=if sq p extra l=0 then layAll (bA (cV p extra l) (bz l l.length)) w (jF l (bz l l.length).length)else(sq p extra l,w,[]):=by
 unfold ey sq;by_cases h:((fZ l).2&&(bB p&&ga extra 0 16))=eS
 .rw[g0 h,g0 h];by_cases a:((bz l l.length).any λi=>decide (l.getD i.toNat 0<(i4 (ba (cV p extra l)):Int)))=eS
  .rw[g0 a,g0 a];rfl
  .rw[g9 a,g9 a];rfl
 .rw[g9 h,g9 h];rfl
theorem JO{p:Pm}{extra:Int}{l:av}(h:sq p extra l=0):bB p=eS/\0<=extra/\extra<=16/\(fZ l).2=eS/\((bz l l.length).any λi=>decide (l.getD i.toNat 0<(i4 (ba (cV p extra l)):Int)))=eX:=by
 unfold sq at h;by_cases a:((fZ l).2&&(bB p&&ga extra 0 16))=eS
 .rw[g0 a]at h;by_cases b:((bz l l.length).any λi=>decide (l.getD i.toNat 0<(i4 (ba (cV p extra l)):Int)))=eS
  .rw[g0 b]at h;cases h
  .unfold ga at a;simp only[qx,decide_eq_true_eq]at a;exact⟨a.2.1,a.2.2.1,a.2.2.2,a.1,m6⟩
 .rw[g9 a]at h;cases h
def ju(m:au)(l:ct):Bool:=bh m&&(ba m).all λp=>decide (p∈l)
theorem Zt(a:f7)(e:Sl)(p:aL)(l:Sl)(b:Cells)(h:f9)(t:bN h a 34 [e])(u:Rd h e 1 aB p)(m:fm h l 1 aB b)(w:i4 b<=2^30):
  ai kg 80 #[l,.func (.func 81) #[] #[xW (dB a)]] h λv h'=>v=xY (decide (p∈b))/\h'=h:=by
 refine ts Tryz.func80 ?_ (args:=[l,(.func (.func 81) #[] #[xW (dB a)])]);refine(oD l (81,#[],#[xW (dB a)]) (R:=λv h'=>(∃i:Int,v=xU ka i/\(decide (i>=0)=decide (p∈b)))/\h'=h) ?_).mono ?_
 .skip
  have s:=m.len;refine an (λi:Nat=>(i:Int)) (λi h'=>i<=i4 b/\p∉b.take i/\h'=h) (λi=>i4 b-i) 0 i5 ⟨i6,js,i5⟩ ?_;rintro i g ⟨n,c,rfl⟩;refine ae (λk=>?_) (λk=>?_)
  .have d:i<i4 b:=by have q:(i:Int)<(l.len:Int):=k;omega
   refine m.get i i5 d λr o=>eJ k8 ?_;refine(Ie r a (R:=λv h'=>v=xY (decide (b[i]=p))/\h'=g) ?_).mono ?_
   .skip
    refine⟨e,t.cell0 i5,(ro r e b[i] p g o u).x7 ?_⟩;exact⟨_,i5,i5,i5⟩
   .rintro _ _ ⟨rfl,rfl⟩;refine⟨_,i5,ae (λj=>⟨⟨i,i5,?_⟩,i5⟩) λj=>?_⟩
    .rw[hU (show(i:Int)>=0 by omega),hU (by rw[<-j];exact qe d)]
    .refine⟨i+1,j4,⟨i6,λf=>?_,i5⟩,i6⟩;rw[aG _ _ d]at f;rcases qt.1 f with f|f
     .exact c f
     .exact j (qw.1 f).symm
  .have q:¬(i:Int)<(l.len:Int):=k;rw[qh i6]at c;exact⟨⟨-1,i5,by rw[ii c];rfl⟩,i5⟩
 .rintro _ g ⟨⟨i,rfl,n⟩,rfl⟩;exact⟨i,i5,by rw[n],i5⟩
theorem Wo(a pw:f7)(d:be)(s b:Sl)(x:bw)(m:au)(h:f9)(K:bN h a 168 (fQ pw d s b))(W:fm h s 1 aB d.l)(ok:iB d)(M:cN h x m)(E:cw m):
  ai kg 28 #[xW (dB a),eO x] h λv h'=>v=xY (ju m d.l)/\Sp h h' []:=by
 refine ts Tryz.func28 ?_ (xc (xc (xc (x0 [(16,aR)] [(4,5),(7,8),(16,25)])))) (args:=[(dB a),x]);have L:=ok.len;have B:=ok.room;refine(Sp.refl h).boxed λa1 U D=>?_;refine⟨x,(D.box 0 i5).aE _ i5,(Ij x m U (M.up D.ac) E).x8 λh2 V=>?_⟩;have y:=D.up V.ac;refine⟨_,i5,aX (λg=>⟨by unfold ju;rw[g];rfl,.zip y.ac⟩) λg=>?_⟩;refine(Ii s b (K.ac y.ac K.lt) (W.up y.ac) ok).y0 λH h3 Q=>?_;have F:=y.comp Q;refine⟨H,i5,x,(F.box 0 i5).aE _ i5,(lm x m h3 (M.up F.ac) E).y0 λw Y S=>?_⟩;have q:=F.comp S;have I:=iN m E;obtain⟨f,j⟩:=z6 (ba m)
 rw[<-j]at q I;have P:=(aa.pM (q.aI 3 [2])).1;refine⟨w,i5,?_⟩;obtain⟨rs,q⟩:=(q.bO [2,1]).VV λ_=>rfl;refine an (λi:Nat=>(i:Int)) (λi h'=>i<=i4 f/\((f.take i).all λp=>decide (p∈d.l))=eS/\Sp h h' [dn (cG 1 aB) 1 bx w rs f,gu H d.l]) (λi=>i4 f-i) 0 i5 ⟨i6,js,q⟩ ?_;rintro i X ⟨hi,c,u⟩;have O:=(u.dZ 0 i5).2.1;refine ae (λe=>?_) (λe=>?_)
 .have k:i<i4 f:=by have T:(i:Int)<(w.len:Int):=e;omega
  refine(u.dZ 0 i5).1.mi i i5 i6 ?_;obtain⟨r,J⟩:=z6 (rs[i]'i6)
  rw[<-J];refine u.alloc ag i5 λA Z R=>?_;refine R.storeAll ag 2 i5 i5 [r] i5 i5 i5 i5 λN o=>?_;have t:Rd N r 1 aB f[i]:=by rw[J];exact Fix.row (o.dZ 0 i5) k
  have G:=aa.Cb (o.aI 2 [1]) λ_=>rfl;refine(Zt A r f[i] H d.l N (o.box 2 i5) t G i6).x7 ⟨_,i5,aX (λz=>⟨?_,.zip o.ac⟩) λz=>?_⟩
  .have:ju m d.l=eX:=by unfold ju;rw[g,wP,<-j];exact yD.2 ⟨f[i],qe k,by rw[z];simp⟩
   rw[this]
  .refine⟨i+1,j4,⟨i6,?_,o.bO [0,1]⟩,i6⟩;rw[aG _ _ k,List.all_append,c,vJ,List.all_nil,z];rfl
 .have:i=i4 f:=by have T:¬(i:Int)<(w.len:Int):=e;omega
  subst this;rw[qL]at c;exact⟨by unfold ju;rw[g,<-j,c];rfl,.zip u.ac⟩
theorem acE{w:Pow}(h:w.calm){S:av}(P:List (Int×aL))(ds:aD)(F:Fit ds S (P.map qD))(c:∀x∈P,x.1∈S/\x.2.length=64):
  (layAll P w ds).1=0/\Fit (layAll P w ds).2.2 S []/\∀s,aT (layAll P w ds).2.2 s=(JN ds P s).map λd=>if s∈cL (P.map qD)then{d with wait:=0,laid:=[],has:=eX}else d:=by
 obtain⟨g,a,a3⟩:=Fy h P ds F c;have f:=rz h P ds;unfold layAll;obtain⟨j,e,i⟩:=Dr h (S:=S) (cL (P.map qD)) (lM P w ds).2.2 a λx b=>by
  unfold cL at b
  grind
 grind
theorem DW(l:av)(k:Nat):(bz l k).Pairwise (·<·):=by refine List.Pairwise.filter _ (yE.2 ?_);exact(List.pairwise_lt_range (n:=k)).imp λh=>i6
theorem afJ{l:av}{most:Int}(c:l.Pairwise (·<·))(d:∀x∈l,0<=x/\x<=most):sK l most=eS:=by
 refine tR λi b=>?_;unfold kB ga;have e:l.getD i 0=l[i]:=j1
 have:=d l[i] (qe b);rw[e,hU this.1,hU this.2,wP,wP];by_cases h0:i=0
 .grind
 .have a:l.getD (i-1) 0=l[i-1]:=j1
  rw[a,hU (List.pairwise_iff_getElem.1 c (i-1) i i6 b i6),Bool.or_true]
theorem Qe{p:Pm}{extra:Int}{l:av}(g:i4 l<=64)(a:sq p extra l=0):bh (cV p extra l)=eS:=by
 obtain⟨e,f,h3,_⟩:=JO a;have b:lH (cV p extra l)=eS:=by
  unfold lH ga cV
  grind
 have d:sK (cV p extra l).drives 63=eS:=afJ (DW l l.length) λx c=>by
  obtain⟨n,h,rfl,_⟩:=(Am l l.length x).1 c;omega
 unfold bh;rw[b,d];rfl
theorem Ny(p:Pm)(extra:Int)(l:av)(b:i4 l<=24):i4 (ba (cV p extra l))<=1:=by
 unfold ba iT;rw[qp,zq];have a:=rv l l.length;have:i4 (gE (cV p extra l))<=19+24:=by
  unfold gE;split
  .simp only[qu,cK,q8,yk,qp,cV,wg];omega
  .simp
 omega
theorem MJ{ds:aD}{k:Int}{d:be}(h:aT ds k=dB d):ck ds k d=ds:=by
 unfold aT at h;split at h
 .unfold ck;cases hx:ds[k.toNat]? with
  |none=>grind
  |some o=>
   rw[hx]at h;subst h;obtain⟨b,a⟩:=ql.1 hx;rw[<-a,List.set_getElem_self]
 grind
theorem roomy{m:au}{w:Pow}{N:Int->Int}:∀{live:av} {ds:aD},(∀k∈live,∃d,aT ds k=dB d/\d.lost=eX/\0<=N k/\(i4 d.l)+N k<=d.room)->dL m ds live N=eS/\makes m N live w ds=(0,w,ds)
 |[],ds,_=>⟨i5,i5⟩
 |k::live,ds,h=>by
  obtain⟨d,a,g,h3,e⟩:=h k qQ;obtain⟨b,f⟩:=roomy (m:=m) (w:=w) (N:=N) (live:=live) (ds:=ds) λk c=>h k (qC _ c);have j:iK d d.l.length (N k)=eS:=hU i6;have n:io m d (N k)=eS:=by unfold io;grind
  have i:dY m w ds k (N k)=(0,w,ds):=by
   unfold dY;rw[a];have:ft m w d (N k)=(0,w,d):=by unfold ft;grind
   try dsimp only
   rw[this];rw[MJ a]
  refine⟨?_,?_⟩
  .unfold dL at b⊢;rw[vJ,b,];unfold ij;grind
  .show(if(dY m w ds k (N k)).1=0 then makes m N live (dY m w ds k (N k)).2.1 (dY m w ds k (N k)).2.2 else dY m w ds k (N k))=_
   grind
theorem Zu(l:List (Int×aL))(k:Int):(l.map qD).count k=i4 (l.filter λy=>decide (y.1=k)):=by
 induction l with
 |nil=>rfl
 |cons y l ih=>
  rw[zS,List.count_cons,ih,zN];by_cases h:y.1=k
  .rw[g0 (hU h),g0 l0];rfl
  .rw[g9 l0,g9 l0];rfl
theorem Fz(n:au)(k:Int):∀{live:av},live.Nodup->k∈live->((bA n live).filter λy=>decide (y.1=k)).map zw=ba n
 |[],_,hk=>by cases hk
 |x::live,hnd,hk=>by
  have e:bA n (x::live)=(ba n).map (λc=>(x,c))++bA n live:=by unfold bA;rw[zg]
  obtain⟨i,d⟩:=wN.1 hnd;rw[e,zk,qP];by_cases a:x=k
  .subst a;have f:((ba n).map λc=>(x,c)).filter (λy=>decide (y.1=x))=(ba n).map (λc=>(x,c)):=List.filter_eq_self.2 λy b=>by
    obtain⟨c,_,rfl⟩:=qo.1 b;exact hU i5
   have j:(bA n live).filter (λy=>decide (y.1=x))=[]:=wT.2 λy b=>by
    have:=(jg b).1;have g:y.1≠x:=λh=>i (h▸this);simpa using g
   rw[f,j,vA,qI,yf];exact List.map_id _
  .have f:((ba n).map λc=>(x,c)).filter (λy=>decide (y.1=k))=[]:=wT.2 λy b=>by
    obtain⟨c,_,rfl⟩:=qo.1 b;simpa using a
   rw[f,vA,List.nil_append];rcases qX.1 hk with h|h
   .exact absurd h.symm a
   .exact Fz n k d h
theorem afK{p:Pm}{seed:Int}{d:Row}{K H w n:Nat}(B:co p seed d K H w n)(id:Int):ue p seed d id=if bE id then gx w (dP p seed d) (df n seed id)else[]:=by unfold ue;rw[B.pW,show p.2.2.toNat=w by have:=B.s;omega]
theorem Qf{m:au}{o i seed:Int}{d:Row}{id:Int}{K H w n:Nat}(B:co m.p seed d K H w n)(a:0<=o/\o<=16777215)(c:0<=i/\i<=7)(hid:0<=id/\id<=65535):iQ (lW m o i seed d id)=eS:=by
 rw[jI];refine⟨a,c,hid,B.may,?_⟩;have b:bE id=eS:=by unfold bE;rw[hU hid.1,hU hid.2];rfl
 show(i4 (ue m.p seed d id):Int)=m.p.2.2;rw[afK B id,g0 b,B.Yj id,B.s]
def su(m:au)(o:Int)(tries:av)(a:ct)(live:av)(k:Int)(i:Nat):List cH:=
 ((qn (m.p.1+m.extra).toNat).filter λid=>decide (fu (cX o i live) (id:Nat)=k)).map λid:Nat=>lW m o i (cg o i (tries.getD i 0)) (a.getD i []) id
def ku(m:au)(o:Int)(tries:av)(a:ct)(live:av)(k:Int)(n:Nat):List cH:=(qn n).flatMap (su m o tries a live k)
theorem Qg(m:au)(o:Int)(tries:av)(a:ct)(live:av)(k:Int)(n:Nat):ku m o tries a live k (n+1)=ku m o tries a live k n++su m o tries a live k n:=by unfold ku;rw[zt,zb,zg,wg,qI]
theorem FA(m:au)(o:Int)(tries:av)(a:ct)(live:av)(k:Int)(i:Nat):((oF m o tries a live i).filter λy=>decide (y.1=k)).map zw=(su m o tries a live k i).map cD:=by unfold oF su;rw[List.filter_map,yf,yf];rfl
theorem DX(m:au)(o:Int)(tries:av)(a:ct)(live:av)(k:Int):∀n,((eW m o tries a live n).filter λy=>decide (y.1=k)).map zw=(ku m o tries a live k n).map cD
 |0=>rfl
 |n+1=>by rw[uf,Qg,zk,qP,qP,DX m o tries a live k n,FA]
theorem Wq{m:au}{o:Int}{tries:av}{a:ct}{live:av}{k:Int}{i:Nat}{r:cH}(h:r∈su m o tries a live k i):∃id:Nat,r=lW m o i (cg o i (tries.getD i 0)) (a.getD i []) id/\id<(m.p.1+m.extra).toNat:=by
 unfold su at h
 grind
theorem JP{m:au}{o:Int}{tries:av}{a:ct}{live:av}{k:Int}{n:Nat}{r:cH}(h:r∈ku m o tries a live k n):∃(i id:Nat),r=lW m o i (cg o i (tries.getD i 0)) (a.getD i []) id/\i<n/\id<(m.p.1+m.extra).toNat:=by
 obtain⟨i,d,b⟩:=zM.1 h;obtain⟨id,c,h3⟩:=Wq b
 grind
def cY(m:au)(d:be)(n:Int):be:=if iK d d.l.length n then d else{d with l:=cz m d.l,wait:=0,laid:=[],has:=eX}
theorem JQ{m:au}{r:cH}(h:eu m r=eS):iQ r=eS:=by unfold eu at h;grind
theorem acF{l:List cH}{r:cH}(h:r∈tU l):r∈l:=by
 unfold tU at h
 grind
theorem Wr{m:au}{c:aL}{r:cH}(h:kJ m c=dB r):dS c=dB r/\eu m r=eS:=by
 unfold kJ at h
 grind
theorem rC{m:au}{l:ct}{r:cH}(h:r∈dJ m l):∃c∈l,dS c=dB r/\eu m r=eS:=by have h:=List.mem_mergeSort.1 (acF h);obtain⟨c,a,b⟩:=List.mem_filterMap.1 h;exact⟨c,a,Wr b⟩
theorem Dt(m:au)(l:ct):∀c∈cz m l,i4 c=64:=λc d=>by
 rcases qt.1 d with h|h
 .exact uv h
 .obtain⟨r,a,rfl⟩:=qo.1 h;obtain⟨_,_,_,b⟩:=rC a;exact xy (JQ b)
theorem FB{w:Pow}(a:w.calm){d:be}{l:ct}(f:∀c∈l,i4 c=64)(b:d.lost=eX)(e:i4 l<=d.room):d.rewrite w l=(0,w,{d with l:=l,wait:=0,laid:=[],has:=eX}):=by unfold be.rewrite;rw[g9 j1,g9 j1,g9 i6,g9 (by simp[a.1]),tv a];rfl
theorem JR{w:Pow}(c:w.calm){m:au}{d:be}{n:Int}(h:io m d n=eS):ft m w d n=(0,w,cY m d n):=by
 have h0:=h;unfold io at h;rw[qx,yB]at h;obtain⟨b,e⟩:=h;unfold ft cY;rw[g9 j1,g9 j1];by_cases a:iK d d.l.length n=eS
 .grind
 .rw[g9 a,g9 a];have h3:iK d (cz m d.l).length n=eS:=j1
  unfold iK at h3;rw[decide_eq_true_eq]at h3;exact FB c (Dt m d.l) b i6
theorem Qh(m:au)(ds:aD)(k:Int)(l:av)(N:Int->Int):dL m ds (k::l) N=(ij m ds k (N k)&&dL m ds l N):=vJ
theorem sS{m:au}{ds:aD}{k n:Int}(h:ij m ds k n=eS):∃d,aT ds k=dB d/\io m d n=eS:=by
 unfold ij at h
 grind
theorem Az(ds:aD)(k:Int)(d:be):i4 (ck ds k d)=i4 ds:=by unfold ck;simp
theorem jK{ds:aD}{k:Int}{c d:be}(a:i4 ds=64)(b:aT ds k=dB c)(s:Int):aT (ck ds k d) s=if s=k then dB d else aT ds s:=by obtain⟨n,rfl,e⟩:=kl b;exact Cn ds n d s e a
theorem Nz{m:au}{ds ds':aD}{l:av}{N:Int->Int}(h:∀k∈l,aT ds k=aT ds' k):dL m ds l N=dL m ds' l N:=by
 unfold dL;unfold ij
 grind
theorem uJ{w:Pow}(g:w.calm){m:au}{N:Int->Int}:∀{live:av} {ds:aD},live.Nodup->i4 ds=64->dL m ds live N=eS->
  ∃ds',makes m N live w ds=(0,w,ds')/\ds'.length=64/\∀k,aT ds' k=(aT ds k).map λd=>if k∈live then cY m d (N k)else d
 |[],ds,_,h64,_=>⟨ds,i5,h64,λk=>js⟩
 |k::live,ds,hnd,h64,hf=>by
  rw[Qh,qx]at hf;obtain⟨i,a⟩:=wN.1 hnd;obtain⟨d,f,c⟩:=sS hf.1;have e:dY m w ds k (N k)=(0,w,ck ds k (cY m d (N k))):=by unfold dY;rw[f];(try dsimp only);rw[JR g c]
  have j:=jK (d:=cY m d (N k)) h64 f;have b:dL m (ck ds k (cY m d (N k))) live N=eS:=by
   rw[<-Nz (ds:=ds) λs n=>?_]
   .grind
   grind
  obtain⟨ds',l,h,h3⟩:=uJ g a (by rw[Az];exact h64) b;refine⟨ds',?_,h,λs=>?_⟩
  .show(if(dY m w ds k (N k)).1=0 then makes m N live (dY m w ds k (N k)).2.1 (dY m w ds k (N k)).2.2 else dY m w ds k (N k))=_
   grind
  grind
theorem uK{m:au}{d:be}{n:Int}(h:io m d n=eS):(cY m d n).lost=eX/\(cY m d n).room=d.room/\((cY m d n).l.length:Int)+max n 0<=d.room:=by
 unfold io at h;unfold cY;by_cases a:iK d d.l.length n=eS
 .rw[g0 a];unfold iK at a
  grind
 .have h3:iK d (cz m d.l).length n=eS:=j1
  unfold iK at h3
  grind
theorem Sw(a:ByteArray):fO a a=eX:=XZ _
theorem Zv{a b:ByteArray}(h:kC a b=eS)(c:a≠b):fO a b=eS:=by
 rcases(Jg a b).1 h with h|h
 .exact h
 .exact absurd (nW h) c
theorem nE{a b:ByteArray}(h:fO a b=eS):a≠b:=λe=>by subst e;rw[Sw]at h;cases h
theorem ahY:Ord sM:=⟨λa b c d e=>ED _ _ _ d e,λa b=>EE _ _⟩
theorem kG{m:au}{x e:bU}:e∈(dK m x).aA↔e∈m.aA∨e=x:=by show e∈(m.aA++[x]).mergeSort sM↔_;simp
theorem Zw{name:ByteArray}{l:List Qw.bU}(h:l.any (cJ name)=eX):∀e∈l,e.name≠name:=λe a b=>by
 have:=wi.1 h e a;unfold cJ at this
 grind
theorem Zx{m:au}{x:Qw.bU}(w:bh m=eS)(f:kW x.name=eS)(o:∀e∈m.aA,e.name≠x.name)(n:x.object=m.next)(K:m.aA.length<=11)(N:m.next<=16777215)(M:m.seq<=2147483646)
  (i:0<=x.length/\x.length<=m.p.1*m.p.2.2*8) (z:∀t∈x.tries,0<=t/\t<=15) (y:(x.tries.length:Int)=countP m.p x.length):bh (dK m x)=eS:=by
 obtain⟨A,u,h3,I,l,s,H⟩:=(bG m).1 w;obtain⟨J,L,a3,a4⟩:=(dl m).1 A;have c:(dK m x).aA.Perm (m.aA++[x]):=we _ _;have q:∀e∈m.aA,e.object<m.next:=λe g=>((gb m e).1 (l e g)).2.1.2;refine(bG _).2 ⟨(dl _).2 ⟨⟨?_,?_⟩,⟨?_,?_⟩,a3,a4⟩,u,h3,?_,λe g=>?_,?_,?_⟩
 .show 1<=m.seq+1;omega
 .show m.seq+1<=_;omega
 .show 0<=m.next+1;omega
 .show m.next+1<=_;omega
 .rw[c.length_eq];simp;omega
 .rcases kG.1 g with g|rfl
  .obtain⟨G,r,E,v,F⟩:=(gb m e).1 (l e g);exact(gb _ e).2 ⟨G,⟨r.1,by show _<m.next+1;omega⟩,E,v,F⟩
  .exact(gb _ _).2 ⟨f,⟨i6,by show _<m.next+1;omega⟩,i,z,y⟩
 .have d:(m.aA++[x]).Pairwise (λa b:Qw.bU=>a.name≠b.name):=wK.2 ⟨s.imp λh=>nE h,List.pairwise_singleton _ _,λa B b D=>j1⟩;have j:=(c.pairwise_iff (R:=λa b:Qw.bU=>a.name≠b.name) λ{a b} h=>Ne.symm h).2 d;have k:(dK m x).aA.Pairwise (λa b=>sM a b=eS):=(EB ahY (m.aA++[x])).1;exact(k.and j).imp λh=>Zv h.1 h.2
 .have d:(m.aA++[x]).Pairwise (λa b:Qw.bU=>a.object≠b.object):=wK.2 ⟨H,List.pairwise_singleton _ _,λa B b D=>j1⟩;exact(c.pairwise_iff (R:=λa b:Qw.bU=>a.object≠b.object) λ{a b} h=>Ne.symm h).2 d
theorem Sx{p:Pm}{o:Int}{n:Nat}{t:av}(h:cW p o n=dB t):∀x∈t,0<=x/\x<=15:=λx b=>by
 obtain⟨i,d,rfl⟩:=qA b;obtain⟨k,c,a⟩:=Bg h i d;have:=(Fh a).1;rw[c];omega
theorem FC{p:Pm}(a:bB p=eS)(b:aL):(i4 (splitB p b):Int)=countP p b.length:=by have:=(mI a b.length).1;unfold splitB;rw[qp,zq];omega
theorem acG{m:au}{d:Bool}{ds:aD}{name:ByteArray}{b:aL}{t:av}(f:bh m=eS)(k:cT m d ds name b.length=0)(g:cW m.p m.next (splitB m.p b).length=dB t):bh (dK m ⟨name,m.next,i4 b,t⟩)=eS:=by
 obtain⟨n,j,z3,z4,z5⟩:=lX k;have i:¬m.p.1*m.p.2.2*8<(i4 b:Int):=λh=>z4 (.inl h);have e:i4 m.aA<=11:=by have:¬12<=i4 m.aA:=λh=>z4 (.inr h);omega
 have a:m.next<=16777215:=by have:¬16777215<m.next:=λh=>z5 (.inr (.inl h));omega
 have c:m.seq<=2147483646:=by have:¬2147483647<=m.seq:=λh=>z5 (.inr (.inr h));omega
 have l:=((dl m).1 ((bG m).1 f).1).2.2.1;refine Zx f j (Zw z3) i5 e a c ⟨by show 0<=(i4 b:Int);omega,by show(i4 b:Int)<=_;omega⟩ (Sx g) ?_;show(i4 t:Int)=countP m.p b.length;rw[jY g,FC l]
def fJ(a:ct)(d:be):be:=if a.isEmpty then d else{d with l:=d.l++a,wait:=0,laid:=[],has:=eX}
def gV(P:List (Int×aL))(s:Int):ct:=(P.filter λx=>decide (x.1=s)).map zw
theorem Qi{P:List (Int×aL)}{s:Int}(h:∀x∈P,x.1≠s):gV P s=[]:=by unfold gV;rw[wT.2 λx a=>j1];rfl
theorem Qj(P:List (Int×aL))(s:Int):i4 (gV P s)=(P.map qD).count s:=by unfold gV;rw[qp];exact(Qw.Zu P s).symm
theorem BL{l:av}{s:Int}(h:0<=s/\s<64):s∈cL l↔s∈l:=by unfold cL;rw[qB,decide_eq_true_eq];refine⟨λh=>h.2,λh'=>⟨?_,h'⟩⟩;exact qo.2 ⟨s.toNat,qK.2 i6,i6⟩
theorem Cq{w:Pow}(i:w.calm){ds:aD}{P:List (Int×aL)}(f:i4 ds=64)
  (a:∀x∈P,i4 x.2=64/\∃d,aT ds x.1=dB d/\d.lost=eX/\d.l.length+i4 (gV P x.1)<=d.room):
  ∃ds',layAll P w ds=(0,w,ds')/\ds'.length=64/\∀s,aT ds' s=(aT ds s).map (fJ (gV P s)):=by
 have F:Fit ds (P.map qD) (P.map qD):=⟨f,λk o=>by
  obtain⟨x,e,rfl⟩:=qo.1 o;obtain⟨_,d,j,m,h3⟩:=a x e;rw[Qj]at h3
  grind⟩
 obtain⟨r,p,a3⟩:=Qw.acE i P ds F λx e=>⟨qo.2 ⟨x,e,rfl⟩,(a x e).1⟩
 refine⟨(layAll P w ds).2.2,?_,p.len,λs=>?_⟩
 .have m:=acD i P ds
  grind
 .rw[a3 s];unfold JN;cases hd:aT ds s with
  |none=>rfl
  |some d=>
   obtain⟨c,b⟩:=ahX hd;rw[qW,qW];congr 1;unfold fJ;have n:s∈P.map qD↔(gV P s).isEmpty=eX:=by
    rw[<-List.count_pos_iff,<-Qj]
    grind
   by_cases g:(gV P s).isEmpty=eS
   .have h0:gV P s=[]:=List.isEmpty_iff.1 g;have j:(P.filter λx=>decide (x.1=s))=[]:=List.map_eq_nil_iff.1 h0;rw[g9 (λh=>by rw[BL ⟨c,b⟩,]at h;grind),g0 g,j];simp
   .have q:(gV P s).isEmpty=eX:=j1
    rw[g0 ((BL ⟨c,b⟩).2 (n.2 q)),g9 g];rfl
theorem nF{n:au}{live:av}(a:live.Nodup)(s:Int):gV (bA n live) s=if s∈live then ba n else[]:=by
 by_cases h:s∈live
 .rw[g0 h];exact Fz n s a h
 .rw[g9 h];exact Qi λx b c=>h (c▸(jg b).1)
theorem Qk(m:au)(o:Int)(tries:av)(a:ct)(live:av)(k:Int)(n:Nat):gV (eW m o tries a live n) k=(ku m o tries a live k n).map cD:=DX m o tries a live k n
theorem Ql{m:au}(h:bh m=eS):ba m≠[]:=by
 unfold ba iT gE;intro e;have:=congrArg vw e
 grind
theorem nG{ds:aD}{l:av}(h:l.Nodup):(aK ds l).Nodup:=h.filter _
theorem ge{ds:aD}{l:av}{k:Int}(h:k∈aK ds l):k∈l/\∃d,aT ds k=dB d/\d.lost=eX:=by
 obtain⟨b,a⟩:=qB.1 h;unfold isLive at a
 grind
theorem Ip{ds:aD}{l:av}{k:Int}:k∈aK ds l↔k∈l/\∃d,aT ds k=dB d/\d.lost=eX:=by refine⟨ge,λ⟨h1,d,h2,h3⟩=>qB.2 ⟨h1,?_⟩⟩;unfold isLive;grind
theorem Qm(a:ct)(d:be):(fJ a d).l=d.l++a:=by
 unfold fJ
 grind
theorem Bo(a:ct)(d:be):(fJ a d).lost=d.lost/\(fJ a d).room=d.room:=by unfold fJ;grind
theorem acH{a b:ct}(h:b≠[])(d:be):fJ b (fJ a d)=fJ (a++b) d:=by
 have e:∀c:ct,c≠[]->∀d,fJ c d={d with l:=d.l++c,wait:=0,laid:=[],has:=eX}:=λc g d=>by
  unfold fJ;grind
 by_cases f:a=[]
 .subst f;rfl
 .rw[e a f,e b h,e (a++b) tr];simp
theorem FD(pages:Nat)(l:List (Int×aL))(k:Int):kh pages l k=pages+i4 (gV l k):=by unfold kh gV;simp
theorem Ul{p:Pm}{o:Int}{b:aL}{t:av}(d:bB p=eS)(c:cW p o (splitB p b).length=dB t){i:Nat}(j:i<i4 (splitB p b)):∃K H w n,co p (cg o i (t.getD i 0)) ((splitB p b).getD i []) K H w n:=by
 have q:=jY c;obtain⟨k,l,a⟩:=Bg c i i6;have g:Dk p o i k=eS:=(Fh a).2.1;have e:t.getD i 0=(k):=j1
 rw[e];refine Vw d g ?_;have f:=(bK p).1 d;have m:0<=p.1*p.2.2:=v8 i6 i6;have h:(splitB p b)[i]=uH (fe p) b i:=by simp[splitB]
 rw[gh [] j,h,Fg];unfold fe;omega
theorem Ln{m:au}{b:aL}{t:av}(f:bh m=eS)(d:m.next<=16777215)(h8:i4 (splitB m.p b)<=8)(c:cW m.p m.next (splitB m.p b).length=dB t){i id:Nat}(g:i<i4 (splitB m.p b))(hid:id<(m.p.1+m.extra).toNat):
  iQ (lW m m.next i (cg m.next i (t.getD i 0)) ((splitB m.p b).getD i []) id)=eS:=by
 have a:=((dl m).1 ((bG m).1 f).1)
 have e:=(bK m.p).1 a.2.2.1;obtain⟨K,H,w,n,B⟩:=Ul a.2.2.1 c g;exact Qf B ⟨a.2.1.1,d⟩ i6 i6
theorem MK{m:au}{offs:Int}{w:Pow}{ds:aD}{name:ByteArray}{b:aL}(I:w.calm)(O:i4 ds=64)(q:bh m=eS):
  (cT m (cF w offs) ds name b.length≠0->dv m offs w ds name b=(cT m (cF w offs) ds name b.length,m,w,ds))/\
  (cT m (cF w offs) ds name b.length=0->(cW m.p m.next (splitB m.p b).length=eH->dv m offs w ds name b=(8,m,w,ds))/\∀t,cW m.p m.next (splitB m.p b).length=dB t->
   let live:=aK ds m.drives;let l:=eW m m.next t (splitB m.p b) live (splitB m.p b).length;let n:=dK m ⟨name,m.next,i4 b,t⟩;let N:=kh (ba n).length l
   bh n=eS/\(dL m ds live N=eX->dv m offs w ds name b=(7,m,w,ds))/\(dL m ds live N=eS->∃ds',dv m offs w ds name b=(0,n,w,ds')/\ds'.length=64/\
    ∀k,aT ds' k=(aT ds k).map λd=>if k∈live then fJ ((ku m m.next t (splitB m.p b) live k (splitB m.p b).length).map cD++ba n) (cY m d (N k))else d)):=by
 refine⟨λh=>by unfold dv;rw[g0 h],λh=>⟨λu=>by unfold dv;rw[g9 l0,u],λt u=>?_⟩⟩;intro live l n N;have D:bh n=eS:=acG q h u;obtain⟨z1,z2,z3,z4,z5⟩:=lX h;have j:=((dl m).1 ((bG m).1 q).1)
 have F:¬m.p.1*m.p.2.2*8<(i4 b:Int):=λh=>z4 (.inl h);have h8:=Cp j.2.2.1 F;have E:live≠[]:=λh=>z5 (.inl h);have s:0<=m.next/\m.next<=16777215:=⟨j.2.1.1,by have:¬16777215<m.next:=λh=>z5 (.inr (.inl h));omega⟩
 have f:live.Nodup:=nG (mu q);have K:∀k∈live,0<=k/\k<64:=λk a=>gB q k (ge a).1;have e:dv m offs w ds name b=(if dL m ds live N=eX then(7,m,w,ds)else if(makes m N live w ds).1≠0 then((makes m N live w ds).1,m,(makes m N live w ds).2)else
   if(layAll l (makes m N live w ds).2.1 (makes m N live w ds).2.2).1≠0 then((layAll l (makes m N live w ds).2.1 (makes m N live w ds).2.2).1,m,(layAll l (makes m N live w ds).2.1 (makes m N live w ds).2.2).2)else
   ((layAll (bA n live) (layAll l (makes m N live w ds).2.1 (makes m N live w ds).2.2).2.1 (layAll l (makes m N live w ds).2.1 (makes m N live w ds).2.2).2.2).1,if(layAll (bA n live) (layAll l (makes m N live w ds).2.1 (makes m N live w ds).2.2).2.1 (layAll l (makes m N live w ds).2.1 (makes m N live w ds).2.2).2.2).1=0 then n else m,(layAll (bA n live) (layAll l (makes m N live w ds).2.1 (makes m N live w ds).2.2).2.1 (layAll l (makes m N live w ds).2.1 (makes m N live w ds).2.2).2.2).2)):=by
  unfold dv;rw[g9 l0,u]
 refine⟨D,λz=>by rw[e,g0 z],λz=>?_⟩;rw[e,g9 sL];obtain⟨S,V,m2,R⟩:=uJ I (N:=N) f O z;rw[V]
 try dsimp only
 rw[g9 js];have v:∀y∈l,y.1∈live:=λy r=>(Qd s E K h8 r).1;have A:∀y∈l,i4 y.2=64:=λy r=>by
  obtain⟨i,hi,r⟩:=zM.1 r;obtain⟨id,hid,rfl⟩:=qo.1 r;exact xy (Ln q s.2 h8 u (qK.1 hi) (qK.1 hid))
 have c:∀k∈live,∃d,aT S k=dB d/\d.lost=eX/\(i4 d.l:Int)+max (N k) 0<=d.room:=λk a=>by
  obtain⟨_,d,hd,Y⟩:=ge a;have Q:=qS.1 z k a;obtain⟨d',G,J⟩:=sS Q;obtain⟨r1,X,r3⟩:=uK J;refine⟨cY m d' (N k),?_,r1,by rw[X];exact r3⟩;rw[R k,G,qW,g0 a]
 obtain⟨W,l1,l2,T⟩:=Cq I (ds:=S) (P:=l) m2 λx g=>by
  obtain⟨d,L,H,f3⟩:=c x.1 (v x g);refine⟨A x g,d,L,H,?_⟩;have:N x.1=_:=FD _ _ _;omega
 rw[l1]
 try dsimp only
 rw[g9 js];obtain⟨U,Z,p2,p3⟩:=Cq I (ds:=W) (P:=bA n live) l2 λx g=>by
  obtain⟨o,B⟩:=jg g;obtain⟨d,L,H,f3⟩:=c x.1 o;refine⟨B,fJ (gV l x.1) d,by rw[T,L,qW],by rw[(Bo _ _).1];exact H,?_⟩;have:N x.1=_:=FD _ _ _;rw[(Bo _ _).2,Qm,nF f,g0 o,qu];omega
 rw[Z];refine⟨U,i5,p2,λk=>?_⟩;rw[p3 k,T k,R k,Option.map_map,Option.map_map];congr 1;funext d;show fJ (gV (bA n live) k) (fJ (gV l k) (if k∈live then cY m d (N k)else d))=_;rw[nF f];by_cases a:k∈live
 .rw[g0 a,g0 a,g0 a];have M:gV l k=(ku m m.next t (splitB m.p b) live k (splitB m.p b).length).map cD:=Qk _ _ _ _ _ _ _;rw[M,acH (Ql D)]
 .rw[g9 a,g9 a,g9 a,Qi (P:=l) λx g (he:x.1=k)=>a (he▸v x g)];rfl
theorem JS(l:av)(b:i4 l<=64)(s:Int):aT (jF l (bz l l.length).length) s=if s∈bz l l.length then dB (be.new (l.getD s.toNat 0).toNat)else eH:=by
 by_cases a:0<=s/\s<64
 .unfold aT jF;rw[qR,]
  grind
 .rw[g9 λh=>?_]
  .unfold aT;grind
  .obtain⟨n,c,rfl,_⟩:=(Am l l.length s).1 h;omega
theorem Zy{p:Pm}{extra:Int}{l:av}(g:i4 l<=64)(f:sq p extra l=0):
  ∃D,ey p extra Pow.new l=(0,Pow.new,D)/\D.length=64/\∀s,aT D s=if s∈bz l l.length then dB ⟨(l.getD s.toNat 0).toNat,ba (cV p extra l),0,[],eX,eX⟩else eH:=by
 have j:=Qe g f;have b:(bz l l.length).Nodup:=(DW l l.length).imp λh e=>i6
 have c:=(JO f).2.2.2.2;rw[Wm,g0 f];obtain⟨D,k,i,h3⟩:=Cq iF (ds:=jF l (bz l l.length).length) (P:=bA (cV p extra l) (bz l l.length)) (Sf _ _) λx m=>by
  obtain⟨a,d⟩:=jg m;refine⟨d,be.new (l.getD x.1.toNat 0).toNat,by rw[JS l g,g0 a],i5,?_⟩;rw[nF b,g0 a];have:=wi.1 c x.1 a;simp only[decide_eq_true_eq]at this;show 0+_<=(l.getD x.1.toNat 0).toNat;omega
 refine⟨D,k,i,λs=>?_⟩;rw[h3,JS l g,nF b];by_cases h:s∈bz l l.length
 .rw[g0 h,g0 h,g0 h,qW];unfold fJ;rw[g9 (by simpa using Ql j)];rfl
 grind
theorem JT(m:au):i4 (ba m)=(i4 (gE m)+47)/48:=by unfold ba iT;simp
theorem Zz(x:Qw.bU):(jB x).length=6+x.name.size+x.tries.length:=by unfold jB;simp[cK];omega
theorem ML{m:au}(h:bh m=eS):i4 (gE m)=14+i4 m.drives+i4 (m.aA.flatMap jB):=by unfold gE;rw[g0 h];simp only[qu,cK,q8,yk,qp];omega
theorem mA{p:Pm}{n:Int}(h:n<=p.1*p.2.2*8):countP p n<=8:=by
 unfold countP;split
 .rename_i a;rw[qx,]at a;have:=(bK p).1 a.1;have b:0<p.1*p.2.2:=Int.mul_pos i6 i6;have:(n-1)/(p.1*p.2.2)<8:=Int.ediv_lt_of_lt_mul b j1;omega
 simp
theorem afL{m:au}{x:Qw.bU}(h:iv m x=eS):i4 (jB x)<=26:=by
 obtain⟨a,d,h3,c,b⟩:=(gb m x).1 h;have:=mA h3.2;have e:x.name.size<=12:=by unfold kW at a;grind
 rw[Zz];omega
theorem Cr{α β:Type}{f:α->List β}{c:Nat}:∀{l:List α},(∀x∈l,i4 (f x)<=c)->i4 (l.flatMap f)<=i4 l*c
 |[],_=>js
 |x::l,h=>by
  have b:=h x qQ;have d:=Cr (l:=l) λy a=>h y (qC _ a);rw[zg,qu,q8,zW];omega
theorem acI{m:au}(h:bh m=eS):i4 (ba m)*48<=61+i4 m.drives+i4 m.aA*26:=by have:=Cr (f:=jB) (l:=m.aA) λx a=>afL (((bG m).1 h).2.2.2.2.1 x a);have b:=ML h;rw[JT];omega
theorem ZA{m:au}(h:bh m=eS):i4 (ba m)<=9:=by have a:=acI h;have b:=gy h;have h3:=((bG m).1 h).2.2.2.1;omega
theorem Sy{α β:Type}(f:α->List β)(c:Nat)(n:Nat)(l:List α)(h:∀x∈l,i4 (f x)<=c)(a:i4 l<=n):i4 (l.flatMap f)<=n*c:=qM (Cr h) (zi c a)
theorem Sz(m:au)(o:Int)(tries:av)(a:ct)(live:av)(k:Int)(n:Nat):i4 (ku m o tries a live k n)<=n*(m.p.1+m.extra).toNat:=by unfold ku;refine Sy _ _ n _ (λi _=>?_) js;have:=congrArg vw (FA m o tries a live k i);rw[qp,qp]at this;rw[<-this];refine qM (qE _ _) ?_;rw[Dn];exact qi _
def cQ(m:au)(offs:Int)(w:Pow)(ds:aD)(n:au):Int×au×Pow×aD:=
 if cF w offs then(14,m,w,ds)else if !bh n||decide (n.seq≠m.seq+1)then(1,m,w,ds)else
 let live:=aK ds n.drives;let N:Int->Int:=λ_=>(i4 (ba n):Int)
 if live=[]∨dL m ds live N=eX then(7,m,w,ds)else
 if(makes m N live w ds).1≠0 then((makes m N live w ds).1,m,(makes m N live w ds).2)else
 let a:=layAll (bA n live) (makes m N live w ds).2.1 (makes m N live w ds).2.2
 (a.1,if a.1=0 then n else m,a.2)
theorem gI{m:au}(h:bh m=eS):cw m:=by
 obtain⟨g,l,h3,i,b,j,q⟩:=(bG m).1 h;have o:=gy h;refine⟨i6,i6,λe c=>?_⟩;obtain⟨a,f,d,n,k⟩:=(gb m e).1 (b e c);have:=mA d.2;have p:e.name.size<=12:=by unfold kW at a;simp at a;omega
 omega
section
variable {pw:f7}
theorem BM(x:bw)(m:au)(z:bw)(n:au)(R:St B h0 As λh=>cN h z n)(hz:cw m)(i:cw n)(ah:-1<=m.seq/\m.seq<=2^40)
  (H:aa B h0 h (bc bi a pw (aV x) offs da w ds::bJ x m::As)):
  ai kg 52 #[xW (dB a),eO z] h λv h'=>v=xU ka (cQ m offs w ds n).1/\
   ∃y,aa B h0 h' (bc bi a pw (aV y) offs da (cQ m offs w ds n).2.2.1 (cQ m offs w ds n).2.2.2::bJ y (cQ m offs w ds n).2.1::As):=by
 refine ts Tryz.func52 ?_ (xc (xc (x6 [] [(4,5),(11,25)] (xc (xc (xc (x6 [] [(4,5),(34,44)] v6))))))) (args:=[(dB a),z]);refine H.boxed λF P q=>(py q).mono ?_;have q:=q.aZ;rintro _ P ⟨rfl,rfl⟩;have u:cN P z n:=R.at [_,_,_] q;have X:cN P x m:=q.at 2 i5;refine⟨_,i5,aP (λe=>?_) λe1=>?_⟩
 .have I:cQ m offs w ds n=(14,m,w,ds):=by unfold cQ;rw[g0 e]
  rw[I];exact⟨i5,x,q.aI 3 [1,2]⟩
 refine aJ ?_;refine⟨z,(q.box 0 i5).aE _ i5,(Ij z n P u i).x8 λh3 R3=>?_⟩;have D:=q.up R3.ac;have ad:=u.up R3.ac;have no:∀{h':f9},aa B h0 h' (ak F 48 (aV z)::bc bi a pw (aV x) offs da w ds::bJ x m::As)->(bh n=eX∨n.seq≠m.seq+1)->(Value.int .i64 1=xU ka (cQ m offs w ds n).1/\∃y,aa B h0 h' (bc bi a pw (aV y) offs da (cQ m offs w ds n).2.2.1 (cQ m offs w ds n).2.2.2::bJ y (cQ m offs w ds n).2.1::As)):=λ{h'} d hc=>by
  have I:cQ m offs w ds n=(1,m,w,ds):=by
   unfold cQ;rw[g9 k9,g0];rcases hc with hc|hc
   .rw[hc];rfl
   .rw[hU hc,Bool.or_true]
  rw[I];exact⟨i5,x,d.aI 3 [1,2]⟩
 refine⟨_,i5,A0,aX (λe=>no D (.inl e)) λU=>?_⟩;have L:=D.box 0 i5;have S:=(aa.cj (D.aI 2 [1,0])).2;refine⟨z.1,L.cell0 i5,a,i5,x.1,S.cell0 i5,?_⟩
 try dsimp only
 rw[u.seq,X.seq,af (m.seq+1)];refine bH (λe=>no D (.inr e)) λe3=>?_;refine⟨_,L.cell i5,?_⟩;have Y:=gy U;have ab:∀k∈n.drives,0<=k/\k<64:=gB U;refine(Jw z.2.2.2.2.2.2.1 n.drives ad.drives i6 (D.aI 2 [1,0])).y0 λo h5 R5=>?_;obtain⟨live,b⟩:=z6 (aK ds n.drives)
 rw[<-b]at R5;have al:i4 live<=64:=by rw[b];exact qM (qE _ _) Y
 have f:∀k∈live,0<=k/\k<64:=λk hk=>by rw[b]at hk;exact ab k (qB.1 hk).1
 have H5:=(D.bS R5).aI 4 [2,3,0,1];refine⟨o,i5,z,(H5.box 3 i5).aE _ i5,(lm z n h5 (R.at [_,_,_,_] H5) i).y0 λpg h6 R6=>?_⟩;have r:=(aa.pM R6).1;have J:=iN n i;obtain⟨s,G⟩:=z6 (i4 (ba n))
 rw[<-G]at r J;have H6:=H5.up R6.ac;refine⟨pg,i5,H6.alloc ag i5 λc h7 H7=>?_⟩;have H7:=H7.aZ;refine H7.storeAll ag 0 i5 i5 [xU ka (pg.len:Int)] i5 i5 i5 i5 λh8 l=>?_;rw[r]at l;have l:aa B h0 h8 (bc bi a pw (aV x) offs da w ds::bJ x m::ak c 3 [xU ka (s:Int)]::aq 3 o 1 az live::ak F 48 (aV z)::As):=l.aI 5 [1,2,0,3,4];obtain⟨T,p⟩:=z6 (bJ x m::ak c 3 [xU ka (s:Int)]::aq 3 o 1 az live::ak F 48 (aV z)::As)
 have tX:St B h0 T λh=>cN h x m:=by rw[p];exact St.cR 0 i5 λ_ t=>t
 have tN:St B h0 T λh=>bN h c 3 [xU ka (s:Int)]:=by rw[p];exact St.cR (A:=ak c 3 [xU ka (s:Int)]) 1 i5 λ_ t=>t.1
 have O:St B h0 T λh=>Rd h o 1 az live:=by rw[p];exact St.cR (A:=aq 3 o 1 az live) 2 i5 λ_ t=>t.1.seq (λ_=>rfl) t.2
 have tM:St B h0 T λh=>bN h F 48 (aV z):=by rw[p];exact St.cR (A:=ak F 48 (aV z)) 3 i5 λ_ t=>t.1
 have tY:St B h0 T λh=>cN h z n:=by rw[p];exact R.cons.cons.cons.cons
 obtain⟨N,hN⟩:∃N:Int->Int,N=λ_=>(s:Int):=⟨_,rfl⟩
 have tT:St B h0 T λh=>Oa 111 #[] #[xW (dB c)] N live h:=λBs h' d k hk=>by
  refine ts Tryz.func111 ?_ (args:=[(k:Int),c]);exact⟨(s:Int),(tN Bs h' d).cell0 i5,by rw[hN],Sp.refl h'⟩
 have fin:∀{h':f9} {w':Pow} {ds':aD},aa B h0 h' (bc bi a pw (aV x) offs da w' ds'::T)->aa B h0 h' (bc bi a pw (aV x) offs da w' ds'::bJ x m::As):=λ{h' w' ds'} d=>by
  rw[p]at d;exact d.aI 5 [0,1]
 rw[<-p]at l;have I:cQ m offs w ds n=(if live=[]∨dL m ds live N=eX then(7,m,w,ds)else
   if(makes m N live w ds).1≠0 then((makes m N live w ds).1,m,(makes m N live w ds).2)else
   ((layAll (bA n live) (makes m N live w ds).2.1 (makes m N live w ds).2.2).1,if(layAll (bA n live) (makes m N live w ds).2.1 (makes m N live w ds).2.2).1=0 then n else m,(layAll (bA n live) (makes m N live w ds).2.1 (makes m N live w ds).2.2).2)):=by
  rw[hN,G,b];unfold cQ;rw[g9 k9,g9 (by rw[U,ii (by simpa using e3)];decide)]
 rw[I];have K:=(O.at [_] l).len;refine aJ (aY (λe=>?_) λe4=>?_)
 .have:live=[]:=List.length_eq_zero_iff.1 i6;rw[g0 (.inl this)];exact⟨i5,x,fin l⟩
 have W:live≠[]:=λh=>e4 (by rw[K,h];rfl);refine(JF 111 #[] #[xW (dB c)] N x m o live k8 (λBs h' d=>⟨tX Bs h' d,tT Bs h' d⟩) hz (O.at [_] l) i6 f l).x8 λh9 R9=>?_;have H9:=l.up R9.ac;refine⟨_,i5,aX (λg=>?_) λg=>?_⟩
 .rw[g0 (.inr g)];exact⟨i5,x,fin H9⟩
 rw[g9 (by rintro(h|h);exact W h;rw[g]at h;cases h)];refine(JH 111 #[] #[xW (dB c)] N x m o live k8 (λBs h' d=>⟨tX Bs h' d,tT Bs h' d,O Bs h' d⟩) hz i6 f H9).x8 λao j=>?_;obtain⟨Q,Z⟩:=z6 (makes m N live w ds)
 rw[<-Z]at j⊢;refine⟨_,i5,bH (λV=>?_) λV=>?_⟩
 .rw[g0 V];exact⟨i5,x,fin j⟩
 rw[g9 (by simpa using V)];refine⟨z,(tM.at [_] j).aE _ i5,(JJ x z n o live (λBs h' d=>⟨tY Bs h' d,O Bs h' d⟩) i i6 f j).x8 λam ⟨Q1,Q0⟩=>?_⟩;refine⟨_,i5,i5,?_⟩;by_cases M:(layAll (bA n live) Q.2.1 Q.2.2).1=0
 .obtain⟨y2,E⟩:=Q0 M;rw[g0 M];rw[p]at E;exact⟨y2,E.aI 6 [0,1]⟩
 .rw[g9 M];exact⟨x,fin (Q1 M)⟩
end
variable {n:Nat}
section
variable {k:Kit} {pw:f7}
theorem aa.acJ(ok:gN mc da ds)(E:n<64)(H:aa B h0 h (ak a k.tS (cU mc pw offs (da.set n (dB b)))::dM k.tP pw w::(gH k pw da ds++(iS k.tD (k.f pw) b d::As)))):aa B h0 h (bc k a pw mc offs (da.set n (dB b)) w (ds.set n (dB d))::As):=by
 have m:=ok.la;have o:=ok.ls;have r:gN mc (da.set n (dB b)) (ds.set n (dB d)):=⟨ok.l8,by simp[m],by simp[o],λi=>by
  by_cases x:n=i
  .grind
  .have:=ok.same i
   grind⟩
 have p:=Dj (k:=k) (pw:=pw) ok;have c:gH k pw (da.set n (dB b)) (ds.set n (dB d))=(gH k pw da ds).set n (iS k.tD (k.f pw) b d):=by
  apply zp;intro j;simp only[gH,qV,wc,y6];by_cases l:n=j
  .subst l;rw[g0 i5,g0 i6,g0 i5,g0 i6,g0 i5,g0 i6];rfl
  .simp[l]
 refine aa.pv r ?_;rw[c];obtain⟨L,q⟩:=z6 (gH k pw da ds)
 rw[<-q]at H p⊢;have g:n<i4 L:=i6
 have H:=H.fN (n+2) (A:=L[n]) (D:=emp) j1 λ_ _=>trivial;have y:(ak a k.tS (cU mc pw offs (da.set n (dB b)))::dM k.tP pw w::(L++(iS k.tD (k.f pw) b d::As))).set (n+2) emp=ak a k.tS (cU mc pw offs (da.set n (dB b)))::dM k.tP pw w::(L.set n emp++(iS k.tD (k.f pw) b d::As)):=by rw[zO,zO,vy _ _ g]
 rw[y]at H;have s:=H.cons (i4 L+2) (A:=iS k.tD (k.f pw) b d) js;have e:(ak a k.tS (cU mc pw offs (da.set n (dB b)))::dM k.tP pw w::(L.set n emp++(iS k.tD (k.f pw) b d::As))).set (i4 L+2) emp=ak a k.tS (cU mc pw offs (da.set n (dB b)))::dM k.tP pw w::(L.set n emp++(emp::As)):=js
 rw[e]at s;have v:=s.aI 3 [0,2,1];have u:aa B h0 h (iS k.tD (k.f pw) b d::dM k.tP pw w::ak a k.tS (cU mc pw offs (da.set n (dB b)))::(L.set n emp++(emp::As))):=v;have z:=aa.GB n g u;have t:=aa.closeAll (ak a k.tS (cU mc pw offs (da.set n (dB b)))::dM k.tP pw w::L.set n (iS k.tD (k.f pw) b d)) z;exact aa.pk (L:=ak a k.tS (cU mc pw offs (da.set n (dB b)))::dM k.tP pw w::L.set n (iS k.tD (k.f pw) b d)) t.pL
end
section
variable {pw:f7}
theorem gJ{p:aw}(s:Sl)(l:av)(x:Int)(h:f9)(f:Seq h p s 1 az l)(n:i4 l<=2^40:=by omega):ai kg 47 #[s,xU ka x] h λv h'=>v=xY (decide (x∈l))/\h'=h:=by
 refine ts Tryz.func47 ?_;refine(ny s x (R:=λv h'=>(∃i:Int,v=xU ka i/\(decide (i>=0)=decide (x∈l)))/\h'=h) ?_).mono ?_
 .skip
  have m:=f.len;refine an (λi:Nat=>(i:Int)) (λi h'=>i<=i4 l/\x∉l.take i/\h'=h) (λi=>i4 l-i) 0 i5 ⟨i6,js,i5⟩ ?_;rintro i k ⟨g,a,rfl⟩;refine ae (λe=>?_) (λe=>?_)
  .have b:i<i4 l:=by have j:(i:Int)<(s.len:Int):=e;omega
   refine f.bm i i5 b l[i] i5 ?_;refine aY (λd=>⟨⟨i,i5,?_⟩,i5⟩) (λd=>?_)
   .rw[hU (show(i:Int)>=0 by omega),hU (by rw[d];exact qe b)]
   .refine⟨i+1,j4,⟨i6,λc=>?_,i5⟩,i6⟩;rw[aG _ _ b]at c;rcases qt.1 c with c|c
    .exact a c
    .exact d (qw.1 c)
  .have j:¬(i:Int)<(s.len:Int):=e;rw[qh i6]at a;exact⟨⟨-1,i5,by rw[ii a];rfl⟩,i5⟩
 .rintro _ k ⟨⟨i,rfl,g⟩,rfl⟩;exact⟨i,i5,by rw[g],i5⟩
theorem nH(H:aa B h0 h (bc bi a pw mc offs da w ds::As)):ai kg 45 #[xW (dB a)] h λv h'=>v=xY (cF w offs)/\h'=h:=by refine ts Tryz.func45 ?_;refine aP (λe=>j3) λ_=>(sg H).x7 ⟨_,i5,i5,i5⟩
def og(slot cells:Int):Bool:=decide ((0<=slot/\slot<64)/\1<=cells/\cells<=512)
theorem sT(slot cells:Int)(h:f9):ai kg 46 #[xU ka slot,xU ka cells] h λv h'=>v=xY (og slot cells)/\h'=h:=by
 refine ts Tryz.func46 ?_;unfold og;refine ae (λb=>ae (λa=>ae (λc=>⟨?_,i5⟩) λc=>⟨?_,i5⟩) λa=>⟨?_,i5⟩) λb=>⟨?_,i5⟩
 .congr 1;rw[decide_eq_decide];omega
 all_goals (rw[ii i6])
theorem aiH(slot cells:Int)(x:bw)(m:au)(q:cN h x m)(g:cw m)(H:aa B h0 h (bc bi a pw (aV x) offs da w ds::As))(b:cF w offs=eS∨og slot cells=eX∨slot∈m.drives):
  ai kg 18 #[xW (dB a),xU ka slot,xU ka cells] h λv h'=>v=xU ka (if cF w offs then 14 else if og slot cells then 4 else 1)/\Sp h h' []:=by
 refine ts Tryz.func18 ?_ (xc (xc (xc (xc (xc (xc (xc (xc (xc (x6 [] [(50,55)] v6))))))))));have o:=g.dr;refine(nH H).x7 ⟨_,i5,aP (λe=>⟨m7,Sp.refl _⟩) λe=>?_⟩;refine(lT x m q g H).y0 λy s p=>⟨y,i5,p.alloc ag i5 λa3 h3 l=>?_⟩;refine l.storeAll ag 1 i5 i5 (aV y) i5 i5 i5 i5 λj c=>?_;refine(sT slot cells j).mono ?_;rintro _ f ⟨rfl,rfl⟩;refine⟨_,i5,aX (λd=>⟨by rw[e,d];rfl,.zip c.ac⟩) λd=>?_⟩;have k:cN f y m:=c.at 0 i5;refine⟨y.2.2.2.2.2.2.1,(c.box 1 i5).cell i5,(gJ _ m.drives slot f k.drives).x7 ?_⟩;refine⟨_,i5,aP (λi=>⟨by rw[e,d];rfl,.zip c.ac⟩) λi=>?_⟩;rcases b with b|b|b
 .rw[e]at b;cases b
 .rw[d]at b;cases b
 .exact absurd b (of_decide_eq_false i)
theorem Qn(slot cells:Int)(x:bw)(m:au)(l:cN h x m)(g:cw m)(H:aa B h0 h (bc bi a pw (aV x) offs da w ds::As))(b:cF w offs=eS∨og slot cells=eX∨slot∉m.drives∨slot∈aK ds m.drives):
  ai kg 20 #[xW (dB a),xU ka slot,xU ka cells] h λv h'=>v=xU ka (if cF w offs then 14 else if og slot cells=eX then 1 else if slot∉m.drives then 5 else 4)/\Sp h h' []:=by
 refine ts Tryz.func20 ?_;have q:=g.dr;refine(nH H).x7 ⟨_,i5,aP (λe=>⟨m7,Sp.refl _⟩) λe=>?_⟩;refine(lT x m l g H).y0 λy D u=>⟨y,i5,u.alloc ag i5 λa3 h3 p=>?_⟩;refine p.storeAll ag 1 i5 i5 (aV y) i5 i5 i5 i5 λn c=>?_;refine(sT slot cells n).mono ?_;rintro _ i ⟨rfl,rfl⟩;refine⟨_,i5,aX (λd=>⟨by rw[e,d];rfl,.zip c.ac⟩) λd=>?_⟩;have o:cN i y m:=c.at 0 i5;refine⟨y.2.2.2.2.2.2.1,(c.box 1 i5).cell i5,(gJ _ m.drives slot i o.drives).x7 ?_⟩;refine⟨_,i5,aX (λf=>⟨by rw[e,d,g9 js,g9 js,g0 (of_decide_eq_false f)],.zip c.ac⟩) λf=>?_⟩;refine(dt x m (l.up c.ac) g (H.up c.ac)).y0 λr z j=>?_;have t:i4 (aK ds m.drives)<=i4 m.drives:=qE _ _;refine⟨r,i5,(gJ r _ slot z (j.seq 0 i5 λ_=>rfl)).x7 ?_⟩;refine⟨_,i5,aP (λk=>⟨by rw[e,d,g9 js,g9 js,g9 λs=>s (i0 f)],.zip (c.comp j).ac⟩) λk=>?_⟩;rcases b with b|b|b|b
 .rw[e]at b;cases b
 .rw[d]at b;cases b
 .exact absurd (i0 f) b
 .exact absurd b (of_decide_eq_false k)
theorem MM(n:Nat)(j:n<64)(x:bw)(H:aa B h0 h (jJ pw b d::bc bi a pw (aV x) offs da w ds::As)):
  ai kg 48 #[xW (dB a),xU ka n,xW (dB b)] h λv h'=>v=.tuple #[]/\aa B h0 h' (bc bi a pw (aV x) offs (da.set n (dB b)) w (ds.set n (dB d))::As):=by
 refine ts Tryz.func48 ?_;refine aP (λ_=>?_) λe=>j3
 refine ae (λ_=>ae (λ_=>?_) λe=>absurd (show(n:Int)<64 by omega) e) λe=>absurd (show(n:Int)>=0 by omega) e;refine⟨a,i5,⟨i6,i6⟩,?_⟩;rw[qj,zG];have f:=H.aI 2 [1,0];obtain⟨ok,i⟩:=Qw.aa.oZ f;have g:(a.add 10).add n=a.add (10+n):=by unfold Addr.add;simp[wX]
 rw[g];refine i.storeAt ag 0 i5 i5 i5 i5 i5 (by simp[ok.la];omega) λh' c=>?_;rw[ze,MC ok.l8]at c;exact⟨i5,aa.acJ ok j c⟩
theorem SB(n:Nat)(V:n<64)(cells:Int)(x:bw)(m:au)(d:cw m)(H:aa B h0 h (bc bi a pw (aV x) offs da w ds::bJ x m::As))(U:cF w offs=eX)(N:og n cells=eS)(t:(n:Int)∈m.drives)(hl:(n:Int)∉aK ds m.drives)(hp:(i4 (ba m):Int)<=cells):
  ai kg 20 #[xW (dB a),xU ka n,xU ka cells] h λv h'=>v=xU ka (layAll (bA m [(n:Int)]) w (ds.set n (dB (be.new cells.toNat)))).1/\
   ∃b,aa B h0 h' (bc bi a pw (aV x) offs (da.set n (dB b)) (layAll (bA m [(n:Int)]) w (ds.set n (dB (be.new cells.toNat)))).2.1 (layAll (bA m [(n:Int)]) w (ds.set n (dB (be.new cells.toNat)))).2.2::bJ x m::As):=by
 refine ts Tryz.func20 ?_;have ad:=d.dr;have K:=iN m d;refine(nH H).x7 ⟨_,i5,aP (λe=>by rw[U]at e;cases e) λe=>?_⟩;refine(lT x m (H.at 1 i5) d H).y0 λy h2 R2=>?_;have Z:=H.bS R2;refine⟨y,i5,Z.alloc ag i5 λa3 h3 s=>?_⟩;have s:=s.aZ;refine s.storeAll ag 0 i5 i5 (aV y) i5 i5 i5 i5 λQ i=>?_;refine(sT n cells Q).mono ?_;rintro _ L ⟨rfl,rfl⟩;refine⟨_,i5,aX (λI=>by rw[N]at I;cases I) λI=>?_⟩;have X:cN L y m:=i.at 1 i5;refine⟨y.2.2.2.2.2.2.1,(i.box 0 i5).cell i5,(gJ _ m.drives n L X.drives).x7 ?_⟩;refine⟨_,i5,aX (λP=>absurd t (of_decide_eq_false P)) λP=>?_⟩;refine(dt x m (i.at 3 i5) d (i.aI 4 [2,0,1,3])).y0 λr h7 M=>?_;have ah:i4 (aK ds m.drives)<=i4 m.drives:=qE _ _;have l:=i.up M.ac;refine⟨r,i5,(gJ r _ n h7 (M.seq 0 i5 λ_=>rfl)).mono ?_⟩;rintro _ h8 ⟨rfl,rfl⟩;refine⟨_,i5,aP (λO=>absurd (i0 O) hl) λO=>?_⟩;refine⟨y,(l.box 0 i5).aE _ i5,(lm y m h8 (l.at 1 i5) d).y0 λu h9 W=>?_⟩;have f:=l.bS W;have Y:=(aa.pM f).1;refine⟨u,i5,ae (λe5=>absurd hp i6) λe5=>?_⟩;have f:=f.rest;refine(DV (f.aI 3 [2,0,1])).mono ?_;rintro _ k ⟨rfl,rfl⟩;refine⟨_,i5,(Dh cells pw k).mono ?_⟩;have j:=i0 N;rintro _ ab ⟨R,_⟩;obtain⟨b,rfl,A⟩:=R ⟨j.2.1,j.2.2⟩;have J:=(f.bS A).aI 4 [0,3,1,2];refine⟨_,i5,(MM n V x J).x8 λal g=>?_⟩;refine⟨(),i5,y,(g.box 1 i5).aE _ i5,?_⟩;refine g.lit ag az gz i5 [(n:Int)] i5 (show 1*1<=2^20 by decide) i5 λq F c=>?_;have c:=c.aZ;refine(BD y m q [(n:Int)] F (c.at 3 i5) d (c.seq 0 i5 λ_=>rfl) js).mono ?_;rintro _ S ⟨u,ys,rfl,G⟩;have p:=(c.bS G).aI 3 [2,0];refine⟨u,i5,?_⟩;refine(tp u ys (bA m [(n:Int)]) (St.cR 0 i5 λ_ hq=>hq) ?_ ?_ p).mono ?_
 .rw[sP];simp;omega
 .intro z d;obtain⟨E,o⟩:=jg d;rw[qw.1 E,o];exact⟨⟨i6,i6⟩,i7⟩
 rintro _ T ⟨rfl,D⟩;exact⟨_,i5,i5,b,D.aI 5 [0,4]⟩
theorem Qp(slot:Int)(x:bw)(m:au)(k:cN h x m)(c:cw m)(H:aa B h0 h (bc bi a pw (aV x) offs da w ds::As))(b:cF w offs=eS∨slot∉aK ds m.drives):
  ai kg 21 #[xW (dB a),xU ka slot] h λv h'=>v=xU ka (if cF w offs then 14 else 5)/\Sp h h' []:=by
 refine ts Tryz.func21 ?_;have i:=c.dr;refine(nH H).x7 ⟨_,i5,aP (λe=>⟨m7,Sp.refl _⟩) λe=>?_⟩;refine(dt x m k c H).y0 λr g f=>?_;have j:i4 (aK ds m.drives)<=i4 m.drives:=qE _ _;refine⟨r,i5,(gJ r _ slot g (f.seq 0 i5 λ_=>rfl)).x7 ?_⟩;refine⟨_,i5,aX (λd=>⟨m7,.zip f.ac⟩) λd=>?_⟩;rcases b with b|b
 .rw[e]at b;cases b
 .exact absurd (i0 d) b
theorem Ws(H:aa B h0 h (jJ pw b d::As)):ai kg 62 #[xW (dB b)] h λv h'=>v=.tuple #[]/\aa B h0 h' (jJ pw b d.Eu::As):=by
 refine ts Tryz.func62 ?_;obtain⟨ok,s,o,a⟩:=H.rk;refine aP (λ_=>?_) λe=>j3
 refine⟨b,i5,a.store ag 0 i5 i5 6 [xY eS] i5 i5 i5 l4 λn i=>?_⟩;refine⟨b,i5,i.store ag 0 i5 i5 2 [xV eH 0 0] i5 i5 i5 l4 λh3 g=>?_⟩;refine⟨b,i5,g.store ag 0 i5 i5 3 [xU ka 0] i5 i5 i5 l4 λl j=>?_⟩;refine⟨b,i5,j.store ag 0 i5 i5 4 [xV eH 0 0] i5 i5 i5 l4 λk c=>?_⟩;refine⟨b,i5,c.store ag 0 i5 i5 5 [xY eX] i5 i5 i5 l4 λm f=>⟨i5,?_⟩⟩;refine aa.Ai (s:=⟨eH,0,0⟩) (b:=⟨eH,0,0⟩) ⟨qi _,zj _,ok.room,by simp[be.Eu],zj _,by simp[be.Eu]⟩ ?_;exact((f.ww 34 5 1 aB).ww 34 5 1 aB).aI 5 [2,0,1]
theorem SC(n:Nat)(x:bw)(m:au)(A:cN h x m)(f:cw m)(H:aa B h0 h (bc bi a pw (aV x) offs da w ds::As))(q:cF w offs=eX)(E:(n:Int)∈aK ds m.drives)(t:ds[n]?=dB (dB d)):
  ai kg 21 #[xW (dB a),xU ka n] h λv h'=>v=xU ka 0/\aa B h0 h' (bc bi a pw (aV x) offs da w (ds.set n (dB d.Eu))::As):=by
 refine ts Tryz.func21 ?_;have u:=f.dr;refine(nH H).x7 ⟨_,i5,aP (λe=>by rw[q]at e;cases e) λe=>?_⟩;refine(dt x m A f H).y0 λr o j=>?_;have y:i4 (aK ds m.drives)<=i4 m.drives:=qE _ _;refine⟨r,i5,(gJ r _ (n:Int) o (j.seq 0 i5 λ_=>rfl)).x7 ?_⟩;refine⟨_,i5,aX (λi=>absurd E (of_decide_eq_false i)) λi=>?_⟩;have g:=H.up j.ac;obtain⟨ok,z⟩:=aa.cj g;refine(lC (n:Int) ok z).x7 ?_;obtain⟨b,c,p⟩:=Qw.aa.iM g t;have l:n<64:=by have:=(ql.1 c).1;rw[ok.la]at this;exact this
 have D:gc da (n:Int)=dB b:=by unfold gc;rw[g0 i6,qj,c];rfl
 rw[D];refine⟨_,i5,(Ws p).x8 λG s=>?_⟩;exact⟨(),i5,i5,Qw.aa.nz (k:=bi) (n:=n) c s⟩
end
section
variable {k:Kit} {pw:f7}
theorem Wu(h8:i4 mc=8):(cU mc pw offs da).set (10+n) (xW eH)=cU mc pw offs (da.set n eH):=by unfold cU;rw[qN _ _ i6,h8,show 10+n-8=n+1+1 by omega,zO,zO,List.map_set]
theorem aa.acK(ok:gN mc da ds)(q:n<64)(H:aa B h0 h (ak a k.tS (cU mc pw offs (da.set n eH))::dM k.tP pw w::(gH k pw da ds++As))):aa B h0 h (bc k a pw mc offs (da.set n eH) w (ds.set n eH)::As):=by
 have g:=ok.la;have m:=ok.ls;have f:gN mc (da.set n eH) (ds.set n eH):=⟨ok.l8,pa,by simp[m],λi=>by
  by_cases b:n=i
  .subst b;rw[qg,qg,zy i6,zy i6];rfl
  .have:=ok.same i;rw[qg,qg]at this⊢;rw[wk b,wk b];exact this⟩
 have l:=Dj (k:=k) (pw:=pw) ok;have d:gH k pw (da.set n eH) (ds.set n eH)=(gH k pw da ds).set n emp:=by
  apply zp;intro j;simp only[gH,qV,wc,y6];by_cases e:n=j
  .subst e;rw[g0 i5,g0 i6,g0 i5,g0 i6,g0 i5,g0 i6];rfl
  .simp[e]
 refine aa.pv f ?_;rw[d];obtain⟨L,o⟩:=z6 (gH k pw da ds)
 rw[<-o]at H l⊢;have c:n<i4 L:=i6
 have H:=H.fN (n+2) (A:=L[n]) (D:=emp) (by rw[qO,qO,qq c,qc c]) λ_ _=>trivial;have p:(ak a k.tS (cU mc pw offs (da.set n eH))::dM k.tP pw w::(L++As)).set (n+2) emp=ak a k.tS (cU mc pw offs (da.set n eH))::dM k.tP pw w::(L.set n emp++As):=by rw[zO,zO,vy _ _ c]
 rw[p]at H;exact H
end
def sv(m:au)(l:av):au:={m with seq:=m.seq+1,drives:=l}
def jL(m:au)(offs:Int)(w:Pow)(ds:aD)(slot cells:Int):Int×au×Pow×aD:=
 if cF w offs then(14,m,w,ds)else if og slot cells=eX then(1,m,w,ds)else if slot∈m.drives then(4,m,w,ds)else if m.seq>=2147483647 then(7,m,w,ds)else
 let r:=cQ m offs w (ds.set slot.toNat (dB (be.new cells.toNat))) (sv m (gC (m.drives++[slot])))
 (r.1,r.2.1,r.2.2.1,if r.1=7 then r.2.2.2.set slot.toNat eH else r.2.2.2)
section
variable {pw:f7}
theorem FE(n:Nat)(f:n<64)(x:bw)(H:aa B h0 h (bc bi a pw (aV x) offs da w ds::As)):
  ai kg 48 #[xW (dB a),xU ka n,xW eH] h λv h'=>v=.tuple #[]/\aa B h0 h' (bc bi a pw (aV x) offs (da.set n eH) w (ds.set n eH)::As):=by
 refine ts Tryz.func48 ?_;refine aP (λ_=>?_) λe=>j3
 refine ae (λ_=>ae (λ_=>?_) λe=>absurd (show(n:Int)<64 by omega) e) λe=>absurd (show(n:Int)>=0 by omega) e;refine⟨a,i5,⟨i6,i6⟩,?_⟩;rw[qj,zG];obtain⟨ok,d⟩:=Qw.aa.oZ H;have c:(a.add 10).add n=a.add (10+n):=by unfold Addr.add;simp[wX]
 rw[c];refine d.storeAt ag 0 i5 i5 i5 i5 i5 (by simp[ok.la];omega) λh' b=>?_;rw[ze,Wu ok.l8]at b;exact⟨i5,aa.acK ok f b⟩
theorem Bp(x:bw)(m:au)(q:cN h x m)(j:cw m)(H:aa B h0 h (bc bi a pw (aV x) offs da w ds::As)):
  ai kg 9 #[xW (dB a)] h λv h'=>∃(y:bw) (L:List (eE×Qw.bU)) (pool:List (Sl×av)),v=eO y/\(y.1=m.seq/\y.2.1=m.next/\(y.2.2.1,y.2.2.2.1,y.2.2.2.2.1)=m.p/\y.2.2.2.2.2.1=m.extra)/\L.map zw=m.aA/\(∀p∈L,Di pool p)/\
   Sp h h' [jE 1 az pool,aq 3 y.2.2.2.2.2.2.1 1 az m.drives,aq 51 y.2.2.2.2.2.2.2 4 bW (L.map qD)]:=by
 refine ts Tryz.func9 ?_;obtain⟨ok,f⟩:=aa.cj H;refine(Sp.refl h).alloc ag i5 λs l b=>?_;have c:=f.ac b.ac f.lt;refine aP (λe=>j3) λ_=>⟨a,i5,x,c.aE _ i5,(oc x m l (q.up b.ac) j).mono ?_⟩;rintro _ r ⟨y,L,pool,rfl,n,i,g,o⟩;have k:=b.comp o;refine⟨y,i5,?_⟩;refine k.store ag 0 i5 i5 0 (aV y) i5 i5 i5 k7 λh3 d=>?_;exact⟨y,(d.box 0 i5).aE _ i5,y,L,pool,i5,n,i,g,d.bO [1,2,3]⟩
theorem ZB(slot cells:Int)(x:bw)(m:au)(O:bh m=eS)(H:aa B h0 h (bc bi a pw (aV x) offs da w ds::bJ x m::As)):
  ai kg 18 #[xW (dB a),xU ka slot,xU ka cells] h λv h'=>v=xU ka (jL m offs w ds slot cells).1/\
   ∃y P,aa B h0 h' (bc bi a pw (aV y) offs P (jL m offs w ds slot cells).2.2.1 (jL m offs w ds slot cells).2.2.2::bJ y (jL m offs w ds slot cells).2.1::As):=by
 refine ts Tryz.func18 ?_ (xc (xc (xc (xc (xc (xc (xc (xc (xc (x6 [] [(50,55)] v6))))))))));have K:=gI O;have ab:=gy O;obtain⟨g1,g2,g3,g4⟩:=(dl m).1 ((bG m).1 O).1;refine(nH H).x7 ⟨_,i5,aP (λe=>?_) λJ=>?_⟩
 .have i:jL m offs w ds slot cells=(14,m,w,ds):=by unfold jL;rw[g0 e]
  rw[i];exact⟨i5,x,da,H⟩
 refine(Bp x m (H.at 1 i5) K H).mono ?_;rintro _ h2 ⟨y,L,pool,rfl,u,Z,hL,R2⟩;have H2:=(H.comp R2).front;refine⟨y,i5,H2.alloc ag i5 λa3 h3 T=>?_⟩;have T:=T.aZ;refine T.storeAll ag 0 i5 i5 (aV y) i5 i5 i5 i5 λh4 t=>?_;refine(sT slot cells h4).mono ?_;rintro _ h5 ⟨rfl,rfl⟩;refine⟨_,i5,aX (λz=>?_) λz=>?_⟩
 .have i:jL m offs w ds slot cells=(1,m,w,ds):=by unfold jL;rw[g9 s8,g0 z]
  rw[i];exact⟨i5,x,da,t.aI 6 [4,5]⟩
 refine⟨y.2.2.2.2.2.2.1,(t.box 0 i5).cell i5,(gJ _ m.drives slot h5 (t.seq 2 i5 λ_=>rfl)).x7 ?_⟩;refine⟨_,i5,aP (λR=>?_) λR=>?_⟩
 .have i:jL m offs w ds slot cells=(4,m,w,ds):=by unfold jL;rw[g9 s8,g9 sL,g0 (i0 R)]
  rw[i];exact⟨i5,x,da,t.aI 6 [4,5]⟩
 have j:slot∉m.drives:=of_decide_eq_false R;refine⟨y.1,(t.box 0 i5).cell0 i5,ae (λI=>?_) λI=>?_⟩
 .rw[u.1]at I;have i:jL m offs w ds slot cells=(7,m,w,ds):=by unfold jL;rw[g9 s8,g9 sL,g9 j,g0 I]
  rw[i];exact⟨i5,x,da,t.aI 6 [4,5]⟩
 rw[u.1]at I;have F:=i0 z;obtain⟨n,hn⟩:∃n:Nat,slot=n:=⟨slot.toNat,i6⟩
 have k:n<64:=i6
 have H5:=t.aI 6 [4,0,1,2,3,5];refine(DV H5).mono ?_;rintro _ h7 ⟨rfl,rfl⟩;refine⟨_,i5,(Dh cells pw h7).mono ?_⟩;rintro _ h8 ⟨Q1,_⟩;obtain⟨b,rfl,R8⟩:=Q1 ⟨F.2.1,F.2.2⟩;have H8:=H5.bS R8;subst hn;refine⟨_,i5,(MM n k x H8).x8 λh9 E=>?_⟩;obtain⟨c,l⟩:=z6 (ds.set n (dB (be.new cells.toNat)))
 rw[<-l]at E;have E:=E.aI 6 [1,3,2,4,0,5];refine⟨(),i5,y.1,(E.box 0 i5).cell0 i5,?_⟩
 try dsimp only
 rw[u.1,af (m.seq+1)];refine E.fM ag 0 i5 i5 [xU ka (m.seq+1)] i5 i5 i5 k7 λam D=>?_;refine⟨_,(D.box 0 i5).cell i5,?_⟩;refine D.push ag 1 i5 gz i5 i7 (λ_=>rfl) eZ (n:Int) i5 i7 i6 λo ah N=>?_;refine N.store ag 0 i5 i5 6 [o] i5 i5 i5 k7 λA f=>?_;obtain⟨d,g⟩:∃d:bw,d=(m.seq+1,y.2.1,y.2.2.1,y.2.2.2.1,y.2.2.2.2.1,y.2.2.2.2.2.1,o,y.2.2.2.2.2.2.2):=⟨_,rfl⟩
 have ed:d.2.2.2.2.2.2.1=o:=by rw[g]
 have eo:d.2.2.2.2.2.2.2=y.2.2.2.2.2.2.2:=by rw[g]
 have f:aa B h0 A (ak a3 48 (aV d)::aq 3 d.2.2.2.2.2.2.1 1 az (m.drives++[(n:Int)])::jE 1 az pool::aq 51 d.2.2.2.2.2.2.2 4 bW (L.map qD)::bc bi a pw (aV x) offs (da.set n (dB b)) w c::bJ x m::As):=by rw[ed,eo,g];exact f
 refine⟨_,(f.box 0 i5).cell i5,(EZ d.2.2.2.2.2.2.1 (m.drives++[(n:Int)]) A (f.own 1 i5) jj).x8 λS ⟨U,V⟩=>?_⟩;have s:=f.nQ 1 i5 V U;obtain⟨dr,p⟩:=z6 (gC (m.drives++[(n:Int)]))
 rw[<-p]at s;refine⟨(),i5,d,(s.box 0 i5).aE _ i5,?_⟩;obtain⟨M,G⟩:=z6 (sv m dr)
 have Q:aa B h0 S (bJ d M::bc bi a pw (aV x) offs (da.set n (dB b)) w c::bJ x m::As):=aa.Aj (m:=M) (L:=L) (pool:=pool) (by rw[G,g];exact⟨i5,u.2.1,u.2.2.1,u.2.2.2⟩) (by rw[G];exact Z) hL (by rw[G];exact s.aI 6 [2,1,3,4,5]);have W:cw M:=by rw[G];exact⟨by show dr.length<=_;rw[p,Ew];simp;omega,K.ob,K.nm⟩
 refine(BM x m d M (As:=bJ d M::As) (St.cR 0 i5 λ_ hq=>hq) K W i6 (Q.aI 3 [1,2,0])).x8 λad ⟨X,q⟩=>?_;have i:jL m offs w ds n cells=((cQ m offs w c M).1,(cQ m offs w c M).2.1,(cQ m offs w c M).2.2.1,if(cQ m offs w c M).1=7 then(cQ m offs w c M).2.2.2.set n eH else(cQ m offs w c M).2.2.2):=by unfold jL;rw[g9 s8,g9 sL,g9 j,g9 I,G,p,l];rfl
 rw[i];obtain⟨r,hr⟩:=z6 (cQ m offs w c M)
 rw[<-hr]at q⊢;refine⟨_,i5,aJ (aY (λe7=>?_) λe7=>?_)⟩
 .refine(FE n k X (q.aI 3 [0,1])).x8 λal Y=>⟨(),i5,i5,X,_,by rw[g0 e7];exact Y⟩
 .exact⟨i5,X,_,by rw[g9 e7];exact q.aI 3 [0,1]⟩
end
end Go.Qw
