/- Lemmas for the proof of the law; no condition. -/
import Derived.Test.YtcjnjifdphcijaaGreatDoorKC
set_option maxHeartbeats 2000000
set_option linter.unusedVariables false
set_option maxHeartbeats 4000000
set_option linter.unusedSimpArgs false
open Go.Proofs.Tryz renaming prog -> xT
open List renaming countP_le_length -> vq, drop -> xI, eq_replicate_iff -> xd, getElem?_zip_eq_some -> vK, getElem_set_self -> vt, length_eq_zero_iff -> vg, mem_iff_getElem? -> yY, range -> qx, replicate -> qg, take_add -> xA, zipWith -> zg
open Bool renaming and_eq_false_iff -> vu
open Go.Value renaming agg -> xO, bool -> xN, int -> xJ, pointer -> xL, slice -> xK, string -> xM
open Go.IntKind renaming bits -> qI, i64 -> xP, u32 -> xR, u8 -> xQ, wrap -> qe
open Nat renaming le_of_ble_eq_true -> zK
open Go.Instr renaming makeSlice -> zD, storeAt -> qH
open Option renaming some -> zX
open Prod renaming fst -> qE, snd -> zi
open BitVec renaming ofInt -> qP
set_option maxRecDepth 100000
open Option renaming some -> dB, none -> et
open Bool renaming true -> ez, false -> eH
open Go renaming Addr -> eS
open Go.Qw renaming cellOf -> eX, Heap -> f7
open List renaming length -> hY
open Go.Qw.cN renaming two -> u7, n -> u9, inn -> v1, loop -> v2, tn -> v7, lp -> wj, jn -> ws
namespace Go.Qw
open Go.Proofs
def fZ:az->Bool
 |[]=>ez
 |[_]=>ez
 |a::b::r=>decide (a<b)&&fZ (b::r)
theorem JR:∀(l:az) (a b:Int),fZ (l++[a,b])=(fZ (l++[a])&&decide (a<b))
 |[],a,b=>by simp[fZ]
 |[c],a,b=>by simp[fZ]
 |c::d::r,a,b=>by
  have:=JR (d::r) a b;simp only[zu]at this⊢;simp only[fZ,this,Bool.and_assoc]
theorem ZB{l r:az}(h:fZ l=eH):fZ (l++r)=eH:=by
 induction l with
 |nil=>simp[fZ]at h
 |cons a t ih=>
  cases t with
  |nil=>simp[fZ]at h
  |cons b t=>
   simp only[fZ,vu]at h;simp only[zu,fZ,vu];rcases h with h|h
   .exact .inl h
   .exact .inr (ih h)
theorem acK(l:az)(k:Nat)(h:k+1<hY l):l.take (k+2)=l.take k++[l[k],l[k+1]]:=by have b:l.take (k+2)=l.take (k+1)++[l[k+1]]:=aE l (k+1) h;have a:=aE l k;rw[b,a,qn];rfl
def ga(n:Int)(r:az):Bool:=r.all (λc=>decide (0<=c/\c<n))&&fZ r
theorem ZC{n:Int}{l r:az}(h:ga n l=eH):ga n (l++r)=eH:=by
 simp only[ga,vu]at*;rcases h with h|h
 .left;rw[y0,h];rfl
 .right;exact ZB h
theorem Wj{n:Int}{r:az}(h:0<hY r):ga n (r.take 1)=decide (0<=r[0]/\r[0]<n):=by
 cases r with
 |nil=>simp at h
 |cons a t=>simp[ga,fZ]
theorem Wk{n:Int}{r:az}{k:Nat}(h:k+1<hY r):ga n (r.take (k+2))=(ga n (r.take (k+1))&&decide (0<=r[k+1]/\r[k+1]<n)&&decide (r[k]<r[k+1])):=by
 have b:r.take (k+2)=r.take (k+1)++[r[k+1]]:=aE r (k+1) h;have a:fZ (r.take (k+2))=(fZ (r.take (k+1))&&decide (r[k]<r[k+1])):=by rw[acK r k h,JR,aE r k]
 simp only[ga,a];rw[b,y0];simp only[List.all_cons,List.all_nil,Bool.and_true]
 cases(r.take (k+1)).all λc=>decide (0<=c/\c<n)<;>cases fZ (r.take (k+1))<;>cases decide (0<=r[k+1]/\r[k+1]<n)<;>simp
theorem Ac{n:Int}{r:az}{k:Nat}(h:ga n (r.take k)=eH):ga n r=eH:=by rw[<-qC k r];exact ZC h
theorem Wm{n:Int}{r:az}{k:Nat}(c:k<hY r)(h:ga n (r.take k)=ez):
  (r[k]<0->ga n r=eH)/\(n<=r[k]->ga n r=eH)/\(∀(h0:0<k),r[k]<=r[k-1]->ga n r=eH)/\
  (0<=r[k]->r[k]<n->(∀h0:0<k,r[k-1]<r[k])->ga n (r.take (k+1))=ez):=by
 cases k with
 |zero=>
  have e:=Wj (n:=n) c;refine⟨λa=>Ac (k:=1) ?_,λa=>Ac (k:=1) ?_,λh0=>ii,λa b _=>?_⟩
  .rw[e,g9 ii]
  .rw[e,g9 ii]
  .rw[e,g0 ⟨a,b⟩]
 |succ k=>
  have e:=Wk (n:=n) c;refine⟨λa=>Ac (k:=k+2) ?_,λa=>Ac (k:=k+2) ?_,λh0 a=>Ac (k:=k+2) ?_,λa b h3=>?_⟩
  .rw[e,g9 (p:=0<=r[k+1]/\r[k+1]<n) ii];simp
  .rw[e,g9 (p:=0<=r[k+1]/\r[k+1]<n) ii];simp
  .rw[e,g9 (p:=r[k]<r[k+1]) j5];simp
  .have d:r[k]<r[k+1]:=by simpa using h3 ii
   rw[e,h,g0 (p:=0<=r[k+1]/\r[k+1]<n) ⟨a,b⟩,g0 d];rfl
def ki(n:Int)(a:cg):Bool:=decide (0<=n/\n<=64)&&a.all (ga n)
theorem acL{α:Type}{f:α->Bool}{l:List α}{k:Nat}(a:k<hY l)(h:(l.take k).all f=ez):(l.take (k+1)).all f=f l[k]:=by rw[aE _ _ a,y0,h];simp
theorem ahV{α:Type}{f:α->Bool}{l:List α}{k:Nat}(a:k<hY l)(h:f l[k]=eH):l.all f=eH:=by rw[yF];exact⟨l[k],qf a,u6⟩
theorem Li{p:av}(n:Int)(a:Sl)(b:cg)(rs:List Sl)(h:f7)(y:fT h p a 1 aw b rs)(I:hY b<=2^40)(m:∀l∈b,hY l<=2^40):
  ai xT 325 #[xJ xP n,a] h λv h'=>v=xN (ki n b)/\h'=h:=by
 refine ts Tryz.func325 ?_ (v7 (ws [] [(4,5),(9,15)] (u7 (v7 (v1 (v2 [(17,aU)] [(4,5),(6,9),(17,50)] (v7 (v7 (u7 (v1 (v7 (v7 (v1 (v2 [(23,aU)] [(4,5),(7,9),(23,49)] u9))))) u9)))))) u9)));have G:=y.Ho;refine bB (λ_ h'=>h'=h/\0<=n/\n<=64) ?_ ?_
 .refine af (λj=>⟨?_,hZ⟩) (λj=>af (λf=>⟨?_,hZ⟩) λf=>⟨hZ,ii,ii⟩)
  .rw[ki,g9 ii];rfl
  .rw[ki,g9 ii];rfl
 .rintro _ h' ⟨rfl,u,q⟩;have z:ki n b=b.all (ga n):=by rw[ki,g0 ⟨u,q⟩];rfl
  refine aq (λk:Nat=>(k:Int)) (λk h0=>h0=h'/\k<=hY b/\(b.take k).all (ga n)=ez) (λk=>hY b-k) 0 hZ ⟨hZ,ii,i6⟩ ?_;rintro i h0 ⟨rfl,H,c⟩;refine af (λw=>?_) (λt=>?_)
  .have e:i<hY b:=ii
   refine y.get i hZ e λr o _=>?_;have B:=o.len;have E:=m _ (qf e);have d:ga n b[i]=eH->ki n b=eH:=λF=>by rw[z];exact ahV e F
   refine aq (λk:Nat=>(k:Int)) (λk f=>f=h0/\k<=b[i].length/\ga n (b[i].take k)=ez) (λk=>b[i].length-k) 0 hZ ⟨hZ,ii,by simp[ga,fZ]⟩ ?_;rintro k f ⟨rfl,J,s⟩;refine af (λw=>?_) (λt=>?_)
   .have g:k<b[i].length:=ii
    obtain⟨n1,n2,D,x⟩:=Wm g s;refine o.bo k hZ g _ hZ ?_;refine af (λj=>⟨by rw[d (n1 j)],hZ⟩) λj=>?_;refine af (λf=>⟨by rw[d (n2 f)],hZ⟩) λf=>?_;rw[ag (k+1),ag (k-1)];refine af (λh3=>?_) (λh3=>?_)
    .refine o.bo (k-1) ii ii _ hZ ?_;refine af (λA=>⟨by rw[d (D ii A)],hZ⟩) λA=>?_;exact⟨k+1,i6,⟨hZ,ii,x ii ii λ_=>ii⟩,ii⟩
    .exact⟨k+1,i6,⟨hZ,ii,x ii ii λ_=>ii⟩,ii⟩
   .rw[qh ii]at s;rw[ag (i+1)];exact⟨i+1,i6,⟨hZ,ii,by rw[acL e c,s]⟩,ii⟩
  .rw[qh ii]at c;exact⟨by rw[z,c],hZ⟩
theorem JS{p:av}(a:Sl)(c:List Bool)(x:Bool)(h:f7)(i:Seq h p a 1 fN c)(o:hY c<=2^40):
  ai xT 351 #[a,xN x] h λv h'=>∃r:Int,v=xJ xP r/\(0<=r↔x∈c)/\h'=h:=by
 refine ts Tryz.func351 ?_ (v7 (wj [(8,aU)] [(4,6),(8,19)]));have m:=i.len;refine aq (λk:Nat=>(k:Int)) (λk h'=>h'=h/\k<=hY c/\x∉c.take k) (λk=>hY c-k) 0 hZ ⟨hZ,ii,i6⟩ ?_;rintro k h' ⟨rfl,q,g⟩;refine af (λl=>?_) (λj=>?_)
 .have b:k<hY c:=ii
  refine i.bo k hZ b _ hZ ?_;refine aY (λf=>⟨_,hZ,⟨λ_=>?_,λ_=>ii⟩,hZ⟩) (λd=>?_)
  .rw[eq_of_beq f];exact qf b
  .rw[ag _];refine⟨k+1,i6,⟨hZ,ii,?_⟩,ii⟩;rw[aE _ _ b];simp only[qt,qp,not_or];exact⟨g,λe=>by rw[e]at d;simp at d⟩
 .rw[qh ii]at g;exact⟨_,hZ,⟨λh=>ii,λh=>absurd h g⟩,hZ⟩
theorem Fx{p:av}(a:Sl)(b:List Bool)(x:Bool)(h:f7)(d:Seq h p a 1 fN b)(e:hY b<=2^40):
  ai xT 326 #[a,xN x] h λv h'=>v=xN (decide (x∈b))/\h'=h:=by
 refine ts Tryz.func326 ?_;refine(JS a b x h d e).mono ?_;rintro v h' ⟨r,rfl,c,rfl⟩;refine⟨r,hZ,?_,hZ⟩;exact congrArg Value.bool (decide_eq_decide.2 c)
theorem Sq{α:Type}{f:α->Bool}{l:List α}{k:Nat}(a:k<hY l):(l.take (k+1)).filter f=if f l[k]then(l.take k).filter f++[l[k]]else(l.take k).filter f:=by rw[aE _ _ a,zm];by_cases h:f l[k]=ez<;>simp[h]
theorem JT{p q:av}(l:eS)(o r:Sl)(op:List Bool)(row:az)(h:f7)(u:eX h (l.add 1)=dB (xK o.ptr o.len o.cap))(x:Seq h p o 1 fN op)(m:Seq h q r 1 aw row)
  (i:∀c∈row,0<=c/\c<hY op) (A:hY row<=2^40):
  ai xT 352 #[xL (dB l),r] h λv h'=>
   v=.tuple #[xJ xP ((df op row).getLast?.getD 0),xN (hY (df op row)==1)]/\h'=h:=by
 refine ts Tryz.func352 ?_ (v7 (v7 (wj [(6,aU),(7,aU),(12,aU)] [(6,8),(9,10),(12,27)])));have t:=m.len;refine aq (λk:Nat=>((df op (row.take k)).getLast?.getD 0,(hY (df op (row.take k)):Int),(k:Int))) (λk h'=>h'=h/\k<=hY row) (λk=>hY row-k) 0 hZ ⟨hZ,ii⟩ ?_;rintro k h' ⟨rfl,B⟩
 try dsimp only
 refine af (λw=>?_) (λs=>?_)
 .have d:k<hY row:=ii
  have z:=i _ (qf d);refine m.bo k hZ d _ hZ ?_;refine⟨l,hZ,o,u,?_⟩;have a:row[k].toNat<hY op:=ii
  refine x.bo row[k].toNat ii a _ hZ ?_;have b:kD op row[k]=op[row[k].toNat]:=by simp[kD,qd,qc a]
  have g:=Sq (f:=kD op) d;have y:hY (df op (row.take k))<=hY row:=qQ (qU _ _) o0;rw[ag (k+1),ag _];refine aY (λj=>?_) (λj=>?_)
  .refine⟨k+1,?_,⟨hZ,ii⟩,ii⟩;have e:df op (row.take (k+1))=df op (row.take k)++[row[k]]:=by rw[df,g,b,j];rfl
   simp[e]
  .refine⟨k+1,?_,⟨hZ,ii⟩,ii⟩;have e:df op (row.take (k+1))=df op (row.take k):=by rw[df,g,b,j];rfl
   simp[e]
 .have e:row.take k=row:=qh ii;refine⟨?_,hZ⟩;simp only[e];congr 4;congr 1;rw[yK];simp;omega
structure AT (h:f7) (p:av) (a:eS) (l o u:Sl) (rows:cg) (rs:List Sl) (op us:List Bool):Prop where
 c0:eX h a=dB (xK l.ptr l.len l.cap)
 c1:eX h (a.add 1)=dB (xK o.ptr o.len o.cap)
 c2:eX h (a.add 2)=dB (xK u.ptr u.len u.cap)
 fm:p a.block
 sRows:fT h p l 1 aw rows rs
 sOp:Seq h p o 1 fN op
 sUs:Seq h p u 1 fN us
 ulen:hY us=hY rows
 cZ:∀r∈rows,∀c∈r,0<=c/\c<hY op
 short:∀r∈rows,hY r<=64
theorem AT.ac{h h':f7}{p:av}{a:eS}{l o u:Sl}{rows:cg}{rs:List Sl}{op us:List Bool}(c:AT h p a l o u rows rs op us)(k:aS p h h'):AT h' p a l o u rows rs op us:=by
 have b:∀n,(a.add n).block=a.block:=λn=>by unfold Addr.add;split<;>rfl
 exact⟨k.cell c.fm c.c0,k.cell (by rw[b];exact c.fm) c.c1,k.cell (by rw[b];exact c.fm) c.c2,c.fm,c.sRows.ac k,c.sOp.ac k,c.sUs.ac k,c.ulen,c.cZ,c.short⟩
theorem Ns{p:av}(a:eS)(l o u:Sl)(rows:cg)(rs:List Sl)(op us:List Bool)(h:f7)(z:AT h p a l o u rows rs op us)(P:hY rows<=2^40):
  ai xT 327 #[xL (dB a)] h λv h'=>aS (λ_=>True) h h'/\
   v=match mW rows op us with
    |some i=>.tuple #[xO #[xJ xP i,xJ xP (fE rows op i)],xN ez]
    |none=>.tuple #[xO #[xJ xP 0,xJ xP 0],xN eH]:=by
 refine ts Tryz.func327 ?_ (v7 (wj [(13,aU)] [(3,8),(13,36)]));refine Ao ae hZ λb G O s d L=>?_;have f:=z.ac (d.mono λ_ _ _=>trivial);refine⟨a,hZ,l,f.c0,?_⟩;have I:=z.sRows.Ho;refine aq (λk:Nat=>(k:Int)) (λk h'=>h'=G/\k<=hY rows/\∀j,j<k->mV rows op us j=eH) (λk=>hY rows-k) 0 hZ ⟨hZ,ii,λj q=>ii⟩ ?_;rintro k h' ⟨rfl,Q,D⟩;refine af (λM=>?_) (λJ=>?_)
 .have e:k<hY rows:=ii
  refine f.sRows.get k hZ e λr H _=>?_;refine⟨a,hZ,u,f.c2,?_⟩;refine f.sUs.bo k hZ (by rw[z.ulen];exact e) _ hZ ?_;have F:us.getD k eH=us[k]'(by rw[z.ulen];exact e):=by rw[qd,qc];rfl
  have t:rows.getD k []=rows[k]:=by rw[qd,qc e];rfl
  rw[ag _];refine aY (λw=>?_) (λw=>?_)
  .refine⟨k+1,i6,⟨hZ,ii,λj q=>?_⟩,ii⟩;rcases zf.1 q with q|rfl
   .exact D j q
   .simp only[mV,F,w];rfl
  .refine(JT a o r op rows[k] h' f.c1 f.sOp H (z.cZ _ (qf e)) (qQ (z.short _ (qf e)) ii)).xa ⟨(_,_),hZ,?_⟩;have g:mV rows op us k=(hY (df op rows[k])==1):=by simp only[mV,F,w,t];rfl
   refine aY (λy=>?_) (λy=>?_)
   .have m:mV rows op us k=ez:=g.trans y;refine Cn ae s hZ _ hZ hZ hZ (qm _) λh3 c x B=>?_;refine⟨(_,_),c.aA _ hZ,d.then x (λK E _=>ii),?_⟩;have A:fE rows op k=(df op rows[k]).getLast?.getD 0:=by unfold fE;rw[t]
    rw[mW,Yl e D m];show _=Value.tuple #[xO #[xJ xP k,xJ xP (fE rows op k)],xN ez];rw[A];rfl
   .have m:mV rows op us k=eH:=g.trans y;refine⟨k+1,i6,⟨hZ,ii,λj q=>?_⟩,ii⟩;rcases zf.1 q with q|rfl
    .exact D j q
    .exact m
 .refine Cn ae s hZ _ hZ hZ hZ (qm _) λh3 c x B=>?_;refine⟨(_,_),c.aA _ hZ,d.then x (λK E _=>ii),?_⟩;rw[mW,Yk λj q=>D j ii]
theorem HZ{l:List Bool}{i:Nat}(h:i<hY l):l.getD i eH=l[i]:=by rw[qd,qc h];rfl
theorem Ue(op:List Bool)(a:az):∀k,-1<=je op a k/\je op a k<k
 |0=>by simp[je]
 |k+1=>by
  have:=Ue op a k;unfold je;split<;>omega
theorem Nt{p:av}(a:eS)(l o u:Sl)(rows:cg)(rs:List Sl)(op us:List Bool)(h:f7)(z:AT h p a l o u rows rs op us)(hs:hY rows<=2^30)(ay:hY op<=2^30):
  ai xT 328 #[xL (dB a)] h λv h'=>aS (λ_=>True) h h'/\v=xJ xP (iF rows op us):=by
 refine ts Tryz.func328 ?_ (v7 (v7 (u7 (v7 (v1 (v2 [(22,aU)] [(4,6),(7,8),(22,49)] (v7 (v7 (u7 (v1 (v7 (v7 (v1 (v2 [(29,aU)] [(7,8),(29,48)] u9))))) u9)))))) (v7 (wj [(8,aU),(54,aU)] [(8,11),(54,77)])))));refine⟨a,hZ,o,z.c1,?_⟩;have a5:=z.sOp.len;refine Qw.run_make (f:=aw) ae ⟨_,_,hZ,hZ,hZ,hZ,hZ,hZ⟩ i0 0 hZ hZ op.length op.length ii ii (qm _) ii λs h1 O ah a2 t a0=>?_;have al:=z.ac (t.mono λ_ _ _=>trivial);refine⟨a,hZ,l,al.c0,?_⟩;have a1:=z.sRows.Ho;have D:∀b,s.on b->b=h.size:=by rintro b ⟨o',L⟩;rw[ah]at L;cases L;rfl
 have U:∀k,hY ((λ_ r=>r:Nat->az->az) k (rows.getD k []))<=64:=λk=>by
  show(rows.getD k []).length<=64;by_cases hk:k<hY rows
  .rw[qd,qc hk];exact z.short _ (qf hk)
  .rw[qd,List.getElem?_eq_none ii];simp
 let d:=lO (λ_ r=>r) rows us (qg op.length 0);have I:∀k,hY (d k)=hY op:=λk=>by rw[CF];simp
 have am:∀k,∀x∈d k,0<=x/\x<=64*k:=λk x hx=>OZ (λ_ r=>r) U k x hx;refine aq (λk:Nat=>(k:Int)) (λk h'=>aS (λb=>b<h.size) h h'/\k<=hY rows/\Own h' 3 s 1 aw (d k)) (λk=>hY rows-k) 0 hZ ⟨t.mono λ_ _ _=>trivial,ii,O⟩ ?_;rintro i X ⟨E,hi,w⟩;have y:AT X p a l o u rows rs op us:=z.ac (E.mono λb e _=>e);refine af (λJ=>?_) (λK=>?_)
 .have g:i<hY rows:=ii
  have H:rows.getD i []=rows[i]:=by rw[qd,qc g];rfl
  have hu:us.getD i eH=us[i]'(by rw[z.ulen];exact g):=HZ _;refine y.sRows.get i hZ g λr hr T=>?_;have a7:=hr.len;have R:=z.short _ (qf g);refine aq (λk:Nat=>(k:Int)) (λk h'=>aS (λb=>b<h.size) h h'/\k<=rows[i].length/\Own h' 3 s 1 aw (if us.getD i eH then d i else kU (d i) (rows[i].take k))) (λk=>rows[i].length-k) 0 hZ
   ⟨E,ii,by simpa[kU]using w⟩ ?_
  rintro j h3 ⟨B,hj,c⟩;have q:AT h3 p a l o u rows rs op us:=z.ac (B.mono λb e _=>e);refine af (λJ=>?_) (λK=>?_)
  .have F:j<rows[i].length:=ii
   have Z:=q.sRows.row i r _ T (qc g);have hc:=z.cZ _ (qf g) _ (qf F);refine Z.bo j hZ F _ hZ ?_;refine⟨a,hZ,u,q.c2,?_⟩;refine q.sUs.bo i hZ (by rw[z.ulen];exact g) _ hZ ?_;rw[ag (j+1)];refine aW (λe=>?_) (λe=>?_)
   .rw[hu,e]at c;simp only[zh,if_false]at c;have N:hY (kU (d i) (rows[i].take j))=hY op:=by rw[DC,I]
    have m:rows[i][j].toNat<hY (kU (d i) (rows[i].take j)):=by rw[N];omega
    have a4:=ED (r:=rows[i].take j) (am i) _ (qf m);have a3:hY (rows[i].take j)<=64:=o0
    have W:Seq h3 (λ_=>True) s 1 aw (kU (d i) (rows[i].take j)):=c.seq (λ_=>rfl) λ_ _=>trivial;refine W.bo rows[i][j].toNat ii m _ hZ ?_;rw[ag _];refine c.set ae (λ_=>rfl) hZ rows[i][j].toNat ii m _ hZ hZ hZ λh4 G ab ar=>?_;refine⟨j+1,i6,⟨B.then ab (λb e _=>λS=>by have:=D b S;omega),ii,?_⟩,ii⟩;rw[hu,e];simp only[zh,if_false];rw[aE _ _ F,RD,getD_lt m];exact G
   .refine⟨j+1,i6,⟨B,ii,?_⟩,ii⟩;rw[hu,e]at c⊢;exact c
  .rw[ag (i+1)];rw[qh ii]at c;refine⟨i+1,i6,⟨B,ii,?_⟩,ii⟩;have:d (i+1)=if us.getD i eH then d i else kU (d i) rows[i]:=by show lO _ _ _ _ (i+1)=_;rw[lO];simp only[H];rfl
   rw[this];exact c
 .have ao:i=hY rows:=ii
  subst ao;refine⟨a,hZ,o,y.c1,?_⟩;have Q:Seq X (λ_=>True) s 1 aw (d rows.length):=w.seq (λ_=>rfl) λ_ _=>trivial;have ax:=I rows.length;refine aq (λk:Nat=>(je op (d rows.length) k,(k:Int))) (λk h'=>h'=X/\k<=hY op) (λk=>hY op-k) 0 hZ ⟨hZ,ii⟩ ?_;rintro k h3 ⟨rfl,hk⟩
  try dsimp only
  have a6:=Ue op (d rows.length) k;refine af (λJ=>?_) (λK=>?_)
  .have P:k<hY op:=ii
   refine y.sOp.bo k hZ P _ hZ ?_;rw[ag (k+1)];have A:op.getD k eH=op[k]:=HZ P;refine aY (λe=>?_) (λe=>?_)
   .refine af (λM=>?_) (λad=>?_)
    .refine⟨k+1,?_,⟨hZ,ii⟩,ii⟩;rw[je,f8 (by rw[A,e,g0 M];rfl)];rfl
    .refine Q.bo k hZ ii _ hZ ?_;refine Q.bo (je op (d rows.length) k).toNat ii ii _ hZ ?_;have e1:(d rows.length).getD k 0=(d rows.length)[k]:=getD_lt;have e2:(d rows.length).getD (je op (d rows.length) k).toNat 0=(d rows.length)[(je op (d rows.length) k).toNat]:=getD_lt;refine af (λap=>?_) (λV=>?_)
     .refine⟨k+1,?_,⟨hZ,ii⟩,ii⟩;rw[je,f8 (by rw[A,e,e1,e2,g0 ap];simp)];rfl
     .refine⟨k+1,?_,⟨hZ,ii⟩,ii⟩;rw[je,f9 (by rw[A,e,e1,e2,g9 V,g9 ad];simp)];rfl
   .refine⟨k+1,?_,⟨hZ,ii⟩,ii⟩;rw[je,f9 (by rw[A,e];simp)];rfl
  .have Y:k=hY op:=ii
   subst Y;exact⟨E.mono λb e _=>e,hZ⟩
def gB(p:Int×Int):aT:=[xJ xP p.1,xJ xP p.2]
theorem acM:∀x,∀c∈gB x,c.oneCell'=ez:=by intro x c a;simp only[gB,qT,List.not_mem_nil,or_false]at a;rcases a with rfl|rfl<;>rfl
def Dj(n:Int)(rows:cg):List (Int×Int)×az×az:=
 if ki n rows then((eV n.toNat rows).steps,(eV n.toNat rows).dead,gf (eV n.toNat rows).used rows.length)else([],[],[])
def ahW(a h:f7)(v:Value)(ok:Bool)(st:List (Int×Int))(c b:az):Prop:=
 ∃s d f:Sl,v=.tuple #[xO #[s,d,f],xN ok]/\
  Sp a h [an 349 s 2 gB st,an 3 d 1 aw c,an 3 f 1 aw b]
theorem afN{α β γ:Type}{s h:f7}{c:Nat->Nat}{o q v k l p:Nat}{g:α->aT}{m:β->aT}{j:γ->aT}{t n w:Sl}{l1:List α}{l2:List β}{r:List γ}(u:na s h c)(e:dT h c 6 o t k g l1)(f:dT h c 7 q n l m l2)(a3:dT h c 8 v w p j r):
  Sp s h [an o t k g l1,an q n l m l2,an v w p j r]:=by
 refine⟨λ_ h=>h,u.ac,λb=>c b-5,λb a=>?_,λi A d=>?_⟩
 .have:=u.bp b a;(try dsimp only);omega
 .match i,d with
  |0,d=>simp at d;subst d;exact⟨e.own,λb a=>⟨e.own.lt a,by have:=e.bp b a;(try dsimp only);omega⟩⟩
  |1,d=>simp at d;subst d;exact⟨f.own,λb a=>⟨f.own.lt a,by have:=f.bp b a;(try dsimp only);omega⟩⟩
  |2,d=>simp at d;subst d;exact⟨a3.own,λb a=>⟨a3.own.lt a,by have:=a3.bp b a;(try dsimp only);omega⟩⟩
  |i+3,d=>simp at d
theorem afO{n:Int}{rows:cg}(h:ki n rows=ez):0<=n/\n<=64/\∀r∈rows,ga n r=ez:=by simp only[ki,qy,decide_eq_true_eq,qK]at h;exact⟨h.1.1,h.1.2,h.2⟩
theorem Ia{n:Int}{r:az}(h:ga n r=ez):∀c∈r,0<=c/\c<n:=by simp only[ga,qy,qK,decide_eq_true_eq]at h;exact h.1
theorem MD:∀{r:az} {a n:Int},fZ r=ez->(∀c∈r,a<=c/\c<n)->(hY r:Int)<=max 0 (n-a)
 |[],a,n,_,_=>i5
 |[x],a,n,_,h=>by have:=h x i6;simp;omega
 |x::y::t,a,n,hr,h=>by
  simp only[fZ,qy,decide_eq_true_eq]at hr;have f:=h x i6;have g:=h y i6;have e:∀(l:az) (z:Int),fZ (z::l)=ez->∀c∈l,z<c:=by
   intro l
   induction l with
   |nil=>intro z _ c b;simp at b
   |cons w t ih=>
    intro z d c b;simp only[fZ,qy,decide_eq_true_eq]at d;rcases qT.1 b with rfl|b
    .exact d.1
    .have:=ih w d.2 c b;omega
  have:=MD (r:=y::t) (a:=x+1) (n:=n) hr.2 λc b=>⟨by
   rcases qT.1 b with rfl|b
   .omega
   .have:=e t y hr.2 c b;omega,(h c (by simp only[qT]at b⊢;exact .inr b)).2⟩
  simp only[za]at this⊢;omega
theorem ZD{n:Int}{r:az}(h:ga n r=ez)(c:n<=64):hY r<=64:=by have b:=Ia h;simp only[ga,qy]at h;have:=MD (a:=0) h.2 b;omega
theorem acN(n k:Nat)(h:k<n):(qg k ez++qg (n-k) eH).set k ez=qg (k+1) ez++qg (n-(k+1)) eH:=by
 have e:n-k=(n-(k+1))+1:=ii
 rw[List.set_append_right _ _ i6,e,List.replicate_succ];simp only[List.length_replicate,qX,zn];rw[List.replicate_succ' (n:=k)];simp
theorem Qs{h i:f7}{c:Nat->Nat}{a:eS}{l o u:Sl}{rows:cg}{rs:List Sl}{op us:List Bool}(n:fT i (λb=>b<i.size) l 1 aw rows rs)(k:na i h c)(e:lm h c 2 a 403 [l,o,u])
  (p:dT h c 3 4 o 1 fN op) (q:dT h c 4 4 u 1 fN us) (f:hY us=hY rows) (m:hY op<=64) (j:∀r∈rows,ga op.length r=ez):AT h (λb=>b<h.size) a l o u rows rs op us:=
 ⟨e.box.cell0 hZ,e.box.cell hZ,e.box.cell hZ,e.box.lt,(n.ac k.ac).mono λb g=>Nat.lt_of_lt_of_le g k.ac.1,p.US λ_=>rfl,q.US λ_=>rfl,f,λr d=>Ia (j r d),λr d=>ZD (j r d) ii⟩
theorem ZE(n:Int)(l:Sl)(rows:cg)(rs:List Sl)(h:f7)(hl:fT h (λb=>b<h.size) l 1 aw rows rs)(hs:hY rows<=2^30)(c6:∀r∈rows,hY r<=2^40):
  ai xT 272 #[xJ xP n,l] h λv h'=>ahW h h' v (ki n rows) (Dj n rows).1 (Dj n rows).2.1 (Dj n rows).2.2:=by
 refine ts Tryz.func272 ?_ (v7 (.scope 1 [] [(5,6),(9,14),(42,108)] [u9,(.join [(6,TR)] [(6,7),(19,27)] u9),(.two u9 (.inn (.loop [(32,aU)] [(7,8),(32,42)] u9))),u9] [(.two u9 (.two (.join [] [(9,12),(48,88)] u9) u9))] [(0,[(.two (.two u9 (.inn (.loop [(93,aU)] [(12,14),(93,107)] u9))) u9)])])) [(3,(.y [0,1,3,4] (.l [2,5,6,7,8]) (.l [5,2,6,7,8])))];have ej:=hl.Ho;refine tO ae (na.refl h) 1 hZ λa1 h1 b6 d6=>?_;have F:=(na.refl h).keep (m:=1) d6 i0;refine(Li n l rows rs h1 (hl.ac F.ac) ii c6).mono ?_;rintro v h2 ⟨rfl,rfl⟩;refine⟨_,hZ,?_⟩;refine aW (λhr=>?_) (λhr=>?_)
 .refine b6.fv ae hZ _ hZ hZ hZ (qm _) λh3 a7 E=>?_;refine⟨(⟨et,0,0⟩,⟨et,0,0⟩,⟨et,0,0⟩),a7.box.aA _ hZ,?_⟩;refine⟨⟨et,0,0⟩,⟨et,0,0⟩,⟨et,0,0⟩,by rw[hr],?_⟩;simp only[Dj,hr,zh,if_false];exact(((Sp.zip (F.keep (m:=1) E i0).ac).nil 349 2 gB).nil 3 1 aw).nil 3 1 aw
 .obtain⟨ep,ek,b7⟩:=afO hr;obtain⟨N,rfl⟩:∃N:Nat,n=N:=⟨n.toNat,ii⟩
  have hN:N<=64:=ii
  refine bB (λs h'=>∃c a o u,s=dB a/\na h h' c/\lm h' c 1 a1 280 [xK et 0 0,xK et 0 0,xK et 0 0]/\lm h' c 2 a 403 [l,xK o.ptr o.len o.cap,xK u.ptr u.len u.cap]/\
   dT h' c 3 4 o 1 fN (qg N eH)/\dT h' c 4 4 u 1 fN (qg rows.length eH)) ⟨?_,?_⟩ ?_
  .refine Ap ae F 3 fN ⟨_,_,hZ,hZ,hZ,hZ,hZ,hZ⟩ i0 eH hZ hZ N hZ hZ ii λo h3 ho E=>?_;refine⟨x7,?_⟩;refine Ap ae (F.keep (m:=3) E i0) 4 fN ⟨_,_,hZ,hZ,hZ,hZ,hZ,hZ⟩ i0 eH hZ hZ rows.length ii ii ii λu h4 hu I=>?_;refine⟨x7,?_⟩;refine Oi _ ((F.keep (m:=3) E i0).keep (m:=4) I i0) 2 λa h5 ha B=>?_;exact⟨x7,_,a,o,u,hZ,((F.keep E i0).keep I i0).keep B i0,((b6.keep E i0).keep I i0).keep B i0,ha,(ho.keep I i0).keep B i0,hu.keep B i0⟩
  .refine Ap ae F 4 fN ⟨_,_,hZ,hZ,hZ,hZ,hZ,hZ⟩ i0 eH hZ hZ rows.length ii ii ii λu h3 hu E=>?_;refine⟨x7,?_⟩;refine Ap ae (F.keep (m:=4) E i0) 3 fN ⟨_,_,hZ,hZ,hZ,hZ,hZ,hZ⟩ i0 eH hZ hZ N hZ hZ ii λo h4 ho I=>?_;refine⟨x7,?_⟩;refine Oi _ ((F.keep (m:=4) E i0).keep (m:=3) I i0) 2 λa h5 ha B=>?_;exact⟨x7,_,a,o,u,hZ,((F.keep E i0).keep I i0).keep B i0,((b6.keep E i0).keep I i0).keep B i0,ha,ho.keep B i0,(hu.keep I i0).keep B i0⟩
  .rintro s h3 ⟨c,a,o,u,rfl,c4,bk,a7,ah,c2⟩;refine⟨a,hZ,o,a7.box.cell hZ,?_⟩;have eq:o.len=N:=by rw[ah.own.len];simp
   refine aq (λt:Nat×(Nat->Nat)=>(t.1:Int)) (λt h'=>t.1<=N/\na h h' t.2/\lm h' t.2 1 a1 280 [xK et 0 0,xK et 0 0,xK et 0 0]/\lm h' t.2 2 a 403 [l,o,u]/\
    dT h' t.2 3 4 o 1 fN (qg t.1 ez++qg (N-t.1) eH)/\dT h' t.2 4 4 u 1 fN (qg rows.length eH)) (λt=>N-t.1) (0,c) hZ ⟨i6,c4,bk,a7,by simpa using ah,c2⟩ ?_
   rintro⟨k,c⟩ h4 ⟨hk,a8,b0,bd,bq,b4⟩;dsimp only at*;refine af (λdj=>?_) (λdp=>?_)
   .have d4:k<N:=ii
    refine⟨a,hZ,o,bd.box.cell hZ,?_⟩;refine bq.set ae (λ_=>rfl) hZ k hZ i5 ez hZ hZ hZ λh5 bl B=>?_;rw[ag _];rw[acN _ _ d4]at bl;exact⟨(k+1,_),i6,⟨i5,a8.keep B i0,b0.keep B i0,bd.keep B i0,bl,b4.keep B i0⟩,i5⟩
   .have d7:k=N:=ii
    subst d7;simp only[qX,va,qG]at bq;refine tO ae a8 5 hZ λap h5 dx B=>?_;have c9:=a8.keep (m:=5) B i0;have d9:=b0.keep (m:=5) B i0;have d5:=bd.keep (m:=5) B i0;have bl:=bq.keep (m:=5) B i0;have c8:=b4.keep (m:=5) B i0;clear a8 b0 bd bq b4 c4 bk a7 ah c2;generalize grow c h4.size 5=c5 at*;refine aq (τ:=Nat×List Bool×List Bool×(List (Int×Int))×az×(Nat->Nat)×Sl×Sl) (λ_=>())
     (λ⟨f,op,us,st,dd,c,ss,ds⟩ h'=>hY op=k/\us.length=hY rows/\op.count ez<=f/\f<=k/\st.length<=k-f/\dd.length<=k-f/\
      (∃r,cJ rows f op us=r/\eV k rows=⟨st++r.steps,dd++r.dead,r.used⟩)/\na h h' c/\
      lm h' c 1 a1 280 [xK et 0 0,xK et 0 0,xK et 0 0]/\lm h' c 2 a 403 [l,o,u]/\
      dT h' c 3 4 o 1 fN op/\dT h' c 4 4 u 1 fN us/\
      lm h' c 5 ap 280 [ss,ds,xK et 0 0]/\dT h' c 6 349 ss 2 gB st/\dT h' c 7 3 ds 1 aw dd)
     (λt=>t.1) (k,qg k ez,qg rows.length eH,[],[],c5,⟨et,0,0⟩,⟨et,0,0⟩) hZ
     ⟨i6,i6,i6,i6,i6,i6,⟨_,hZ,by simp[eV]⟩,c9,d9,d5,bl,c8,dx,dT.nil _ _ _ _ _ _,dT.nil _ _ _ _ _ _⟩ ?_
    rintro⟨f,op,us,st,dd,c,ss,ds⟩ h6 ⟨al,O,eg,en,ee,ef,⟨r,ay,a9⟩,K,ao,R,ad,Q,L,J,M⟩;dsimp only at*;have H:∀r∈rows,ga op.length r=ez:=by rw[al];exact b7
    have a0:=Qs hl K R ad Q O ii H;refine⟨a,hZ,o,R.box.cell hZ,?_⟩;refine(Fx o op ez h6 (ad.US λ_=>rfl) ii).mono ?_;rintro v h7 ⟨rfl,rfl⟩;refine⟨_,hZ,?_⟩;refine aW (λhc=>?_) (λhc=>?_)
    .have ab:op.contains ez=eH:=by simpa using hc
     have bk:r=⟨[],[],us⟩:=by rw[<-ay];exact AE ab f
     subst bk;simp only[qG]at a9;refine⟨a,hZ,u,R.box.cell hZ,?_⟩;have ei:u.len=hY rows:=by rw[Q.own.len,O]
     refine aq (λt:Nat×(Nat->Nat)×Sl=>(t.1:Int)) (λ⟨j,c,fs⟩ h'=>j<=hY rows/\na h h' c/\
      lm h' c 1 a1 280 [xK et 0 0,xK et 0 0,xK et 0 0]/\dT h' c 4 4 u 1 fN us/\
      lm h' c 5 ap 280 [ss,ds,fs]/\dT h' c 6 349 ss 2 gB st/\dT h' c 7 3 ds 1 aw dd/\dT h' c 8 3 fs 1 aw (gf us j)) (λt=>hY rows-t.1) (0,c,⟨et,0,0⟩) hZ
      ⟨i6,K,ao,Q,L,J,M,dT.nil _ _ _ _ _ _⟩ ?_
     rintro⟨j,c,fs⟩ h8 ⟨hj,bb,b2,b3,W,a2,a4,a6⟩;dsimp only at*;refine af (λdj=>?_) (λdp=>?_)
     .have el:j<hY rows:=ii
      have eo:hY (gf us j)<=j:=Gh us j;refine(b3.US λ_=>rfl).bo j hZ ii _ hZ ?_;have c1:us.getD j eH=us[j]:=HZ ii;rw[ag _];refine aW (λhb=>?_) (λhb=>?_)
      .refine⟨fs,W.box.cell hZ,?_⟩;refine Hq ae bb 9 aw ⟨_,_,hZ,hZ,hZ,hZ,hZ,hZ⟩ hZ [(j:Int)] hZ (zK hZ) hZ λv h9 ec p=>?_;refine(a6.keep (m:=9) p i0).append ae ⟨_,_,hZ,hZ,hZ,hZ,hZ,hZ⟩ ⟨_,_,hZ,hZ⟩ hZ i0 (λ_=>rfl) (ec.seq λ_=>rfl) fd i5 λdk ca b1 g=>?_;refine((W.keep (m:=9) p i0).keep (m:=8) g i0).store ae hZ 2 _ hZ hZ hZ (zK hZ) λcq b5 d=>?_;refine⟨(j+1,_,dk),i6,⟨i5,((bb.keep p i0).keep g i0).keep d i0,((b2.keep p i0).keep g i0).keep d i0,((b3.keep p i0).keep g i0).keep d i0,b5,
        ((a2.keep p i0).keep g i0).keep d i0,((a4.keep p i0).keep g i0).keep d i0,?_⟩,i5⟩
       have e:gf us (j+1)=gf us j++[(j:Int)]:=by rw[gf,c1,hb];rfl
       rw[e];exact b1.keep d i0
      .have e:gf us (j+1)=gf us j:=by rw[gf,c1,hb];rfl
       exact⟨(j+1,c,fs),i6,⟨i5,bb,b2,b3,W,a2,a4,by rw[e];exact a6⟩,i5⟩
     .have ea:j=hY rows:=ii
      subst ea;refine⟨(ss,ds,fs),W.box.aA _ hZ,?_⟩;refine b2.fv ae hZ _ hZ hZ hZ (qm _) λh9 da p=>?_;refine⟨(ss,ds,fs),da.box.aA _ hZ,?_⟩;refine⟨ss,ds,fs,by rw[hr],?_⟩;simp only[Dj,hr,if_true,qj,a9];exact afN (bb.keep (m:=1) p i0) (a2.keep (m:=1) p i0) (a4.keep (m:=1) p i0) (a6.keep (m:=1) p i0)
    .have ab:op.contains ez=ez:=by simpa using hc
     obtain⟨f',rfl⟩:∃f',f=f'+1:=by obtain⟨j,hj,e⟩:=EE ab;have:=lu e;exact⟨f-1,ii⟩
     refine aG ?_;refine(Ns a l o u rows rs op us h7 a0 ii).mono ?_;rintro v h8 ⟨A,rfl⟩;have A:=A.bp c 9;cases hst:mW rows op us with
     |some i=>
      obtain⟨hi,d3⟩:=ua hst;obtain⟨eh,d2,ah⟩:=CG d3;have cl:rows.getD i []=rows[i]:=by rw[qd,qc hi];rfl
      have ed:=Ia (H _ (qf hi)) _ (cl▸d2);refine⟨((i,fE rows op i),ez),hZ,?_⟩
      try dsimp only
      refine tO ae (K.keep (m:=9) A i0) 9 hZ λax h9 has p=>?_;refine has.fv ae hZ _ hZ hZ hZ (qm _) λca U g=>?_;refine DX hZ ?_;have G:=((K.keep (m:=9) A i0).keep (m:=9) p i0).keep (m:=9) g i0;have ar:=((ao.keep (m:=9) A i0).keep (m:=9) p i0).keep (m:=9) g i0;have Z:=((R.keep (m:=9) A i0).keep (m:=9) p i0).keep (m:=9) g i0;have V:=((ad.keep (m:=9) A i0).keep (m:=9) p i0).keep (m:=9) g i0;have Y:=((Q.keep (m:=9) A i0).keep (m:=9) p i0).keep (m:=9) g i0;have D:=((L.keep (m:=9) A i0).keep (m:=9) p i0).keep (m:=9) g i0;have P:=((J.keep (m:=9) A i0).keep (m:=9) p i0).keep (m:=9) g i0;have S:=((M.keep (m:=9) A i0).keep (m:=9) p i0).keep (m:=9) g i0;clear K ao R ad Q L J M A p has a0;generalize grow (grow (grow c h7.size 9) h8.size 9) h9.size 9=c10 at*;refine⟨ss,D.box.cell0 hZ,(_,_),U.box.aA _ hZ,?_⟩
      try dsimp only
      refine Hq ae G 10 gB ⟨_,_,hZ,hZ,hZ,hZ,hZ,hZ⟩ hZ [((i:Int),fE rows op i)] hZ (zK hZ) hZ λv cq c0 d=>?_;refine(P.keep (m:=10) d i0).append ae ⟨_,_,hZ,hZ,hZ,hZ,hZ,hZ⟩ ⟨_,_,hZ,hZ⟩ hZ i0 (λ_=>rfl) (c0.seq λ_=>rfl) acM i5 λc7 eb br q=>?_;refine((D.keep (m:=10) d i0).keep (m:=6) q i0).fv ae hZ _ hZ hZ hZ (zK hZ) λd1 b9 z=>?_;have T:=((U.keep (m:=10) d i0).keep (m:=6) q i0).keep (m:=5) z i0;have am:=((Z.keep (m:=10) d i0).keep (m:=6) q i0).keep (m:=5) z i0;have cd:=((Y.keep (m:=10) d i0).keep (m:=6) q i0).keep (m:=5) z i0;have cn:=((V.keep (m:=10) d i0).keep (m:=6) q i0).keep (m:=5) z i0;refine⟨a,hZ,u,am.box.cell hZ,(i:Int),T.box.cell0 hZ,a,hZ,o,am.box.cell hZ,fE rows op i,T.box.cell hZ,?_⟩;refine cd.set ae (λ_=>rfl) hZ i hZ ii ez hZ hZ hZ λdy cf x=>?_;have a3:=T.keep (m:=4) x i0;have X:=am.keep (m:=4) x i0;refine⟨⟨a3.box.cell hZ,x7⟩,?_⟩;refine(cn.keep (m:=4) x i0).set ae (λ_=>rfl) hZ (fE rows op i).toNat ii ii eH hZ hZ hZ λd8 a5 w=>?_;have d0:=a3.keep (m:=3) w i0;have cp:=X.keep (m:=3) w i0;refine⟨x7,?_⟩;have dr:=lu (op:=op) (j:=(fE rows op i).toNat) ah;rw[pd ab hst]at ay;refine⟨(f',op.set (fE rows op i).toNat eH,us.set i ez,st++[((i:Int),fE rows op i)],dd,_,c7,ds),hZ,⟨by simp[al],by simp[O],i4,i4,i5,i4,⟨_,hZ,?_⟩,
       ((((G.keep d i0).keep q i0).keep z i0).keep x i0).keep w i0,
       ((((ar.keep d i0).keep q i0).keep z i0).keep x i0).keep w i0,
       cp,a5,cf.keep w i0,(b9.keep x i0).keep w i0,((br.keep z i0).keep x i0).keep w i0,
       ((((S.keep d i0).keep q i0).keep z i0).keep x i0).keep w i0⟩,i4⟩
      rw[a9,<-ay];simp
     |none=>
      have du:=sP (rows:=rows) (us:=us) ab;refine⟨((0,0),eH),hZ,?_⟩
      try dsimp only
      refine tO ae (K.keep (m:=9) A i0) 9 hZ λax h9 has p=>?_;refine has.fv ae hZ _ hZ hZ hZ (qm _) λca U g=>?_;refine uC hZ ?_;have G:=((K.keep (m:=9) A i0).keep (m:=9) p i0).keep (m:=9) g i0;have ar:=((ao.keep (m:=9) A i0).keep (m:=9) p i0).keep (m:=9) g i0;have Z:=((R.keep (m:=9) A i0).keep (m:=9) p i0).keep (m:=9) g i0;have V:=((ad.keep (m:=9) A i0).keep (m:=9) p i0).keep (m:=9) g i0;have Y:=((Q.keep (m:=9) A i0).keep (m:=9) p i0).keep (m:=9) g i0;have D:=((L.keep (m:=9) A i0).keep (m:=9) p i0).keep (m:=9) g i0;have P:=((J.keep (m:=9) A i0).keep (m:=9) p i0).keep (m:=9) g i0;have S:=((M.keep (m:=9) A i0).keep (m:=9) p i0).keep (m:=9) g i0;clear K ao R ad Q L J M A p has a0;generalize grow (grow (grow c h7.size 9) h8.size 9) h9.size 9=c10 at*;have a0:=Qs hl G Z V Y O ii H;refine(Nt a l o u rows rs op us ca a0 ii ii).mono ?_;rintro v cq ⟨d,rfl⟩;have d:=d.bp c10 9;refine⟨_,hZ,?_⟩;refine⟨ds,(D.keep (m:=9) d i0).box.cell hZ,?_⟩;refine Hq ae (G.keep (m:=9) d i0) 10 aw ⟨_,_,hZ,hZ,hZ,hZ,hZ,hZ⟩ hZ [iF rows op us] hZ (zK hZ) hZ λv eb cs q=>?_;refine((S.keep (m:=9) d i0).keep (m:=10) q i0).append ae ⟨_,_,hZ,hZ,hZ,hZ,hZ,hZ⟩ ⟨_,_,hZ,hZ⟩ hZ i0 (λ_=>rfl) (cs.seq λ_=>rfl) fd i5 λds' d1 bs z=>?_;refine(((D.keep (m:=9) d i0).keep (m:=10) q i0).keep (m:=7) z i0).store ae hZ 1 _ hZ hZ hZ (zK hZ) λdy cc x=>?_;have X:=(((Z.keep (m:=9) d i0).keep (m:=10) q i0).keep (m:=7) z i0).keep (m:=5) x i0;have cr:=(((V.keep (m:=9) d i0).keep (m:=10) q i0).keep (m:=7) z i0).keep (m:=5) x i0;refine⟨a,hZ,o,X.box.cell hZ,?_⟩;refine cr.set ae (λ_=>rfl) hZ (iF rows op us).toNat ii ii eH hZ hZ hZ λd8 a5 w=>?_;have dr:=lu (op:=op) (j:=(iF rows op us).toNat) du.2.2;rw[pf ab hst]at ay;refine⟨(f',op.set (iF rows op us).toNat eH,us,st,dd++[iF rows op us],_,ss,ds'),hZ,⟨by simp[al],O,i4,i4,i4,i5,⟨_,hZ,?_⟩,
       ((((G.keep d i0).keep q i0).keep z i0).keep x i0).keep w i0,
       ((((ar.keep d i0).keep q i0).keep z i0).keep x i0).keep w i0,
       X.keep w i0,a5,((((Y.keep d i0).keep q i0).keep z i0).keep x i0).keep w i0,cc.keep w i0,
       ((((P.keep d i0).keep q i0).keep z i0).keep x i0).keep w i0,
       (bs.keep x i0).keep w i0⟩,i4⟩
      rw[a9,<-ay];simp
theorem JU(pool:List (Sl×Row))(d:(⟨et,0,0⟩,[])∈pool)(n:Nat):iM pool id (qg n ⟨et,0,0⟩) (qg n []):=
 ⟨i6,λi r l a b=>by
  rw[List.getElem?_replicate]at a b;split at a
  .rename_i c;rw[f8 c]at b;cases a;cases b;exact d
  .cases a⟩
theorem aa.afP{B:av}{b h:f7}{As:List HP}(H:aa B b h As)(i:Nat){pool:List (Sl×Row)}(d:As[i]?=dB (mw pool)):aa B b h (As.set i (mw ((⟨et,0,0⟩,[])::pool))):=
 H.eW i d λq c x a=>by
  rcases qT.1 a with rfl|a
  .exact Seq.nil _ _ _ _ _ _
  .exact c x a
structure Wo (h:f7) (f:eS) (r st dd lf:Sl) (rr:List (Sl×Sl)) (R:List fL) (ST:List (Int×Int)) (D L:az):Prop where
 field:fY h f
 rest:oh kE 2 qv h r rr R
 steps:Rd h st 2 gB ST
 dead:Rd h dd 1 aw D
 left:Rd h lf 1 aw L
abbrev SA(s:eS)(a:aT):HP:=aj s 282 a
abbrev HA(s:Sl)(rs:List Sl):HP:=an 34 s 1 bn rs
abbrev RA(s:Sl)(l:Row):HP:=an 5 s 1 aB l
theorem ME{R:cg}:∀{l1 l2:List (Int×Int)} {D:Int->Prop},sS R D (l1++l2)->sS R D l1/\sS R (λx=>D x∨∃i,(i,x)∈l1) l2
 |[],l2,D,h=>⟨x7,by
  have:(λx=>D x∨∃i,(i,x)∈([]:List (Int×Int)))=D:=by funext x;simp
  rw[this];exact h⟩
 |(i,c)::l1,l2,D,h=>by
  obtain⟨a,b,g,d,e⟩:=h;obtain⟨k,f⟩:=ME e;refine⟨⟨a,b,g,d,k⟩,?_⟩;have:(λx=>D x∨∃j,(j,x)∈(i,c)::l1)=λx=>(D x∨x=c)∨∃j,(j,x)∈l1:=by
   funext x;simp only[qT,Prod.mk.injEq,eq_iff_iff];constructor
   .rintro(h|⟨j,⟨_,h⟩|h⟩)
    .exact .inl (.inl h)
    .exact .inl (.inr h)
    .exact .inr ⟨j,h⟩
   .rintro((h|h)|⟨j,h⟩)
    .exact .inl h
    .exact .inr ⟨i,.inl ⟨hZ,h⟩⟩
    .exact .inr ⟨j,.inr h⟩
  rw[this];exact f
variable {B:av} {h0 h:f7} {As:List HP}
theorem Sr(s f:eS)(p:Int×Int×Int)(v r st V W P N:Sl)(n:Nat)(pool:List (Sl×Row))(H:aa B h0 h (SA s (iN f p v r st V W P N)::mw pool::As))(m:v.len=n)(Z:n<=64){K:Unit->f7->Prop}
  (Q:∀i d h',i.len=n->d.len=n->aa B h0 h' (SA s (iN f p v r st V W i d)::HA i (qg n ⟨et,0,0⟩)::HA d (qg n ⟨et,0,0⟩)::mw pool::As)->K () h'):(λ(c:bD) (K1:Unit->f7->Prop)=>
 ∃a3:eS,(c=dB a3)/\
 ∃b:Sl,eX h (a3.add 4)=dB (xK b.ptr b.len b.cap)/\
 ∃a5:eS,(c=dB a5)/\
 ∃a:Sl,eX h (a5.add 4)=dB (xK a.ptr a.len a.cap)/\
 (bx xT (zD 53 (xJ xP ((b.len:Nat):Int)) (xJ xP ((b.len:Nat):Int))) (.one (.sc .slc)) h λy z=>
 (bR.ok [(a5.add 4,(xK a.ptr a.len a.cap)),(a3.add 4,(xK b.ptr b.len b.cap))] z)/\
 ∃O:eS,(c=dB O)/\
 (bx xT (zD 53 (xJ xP ((a.len:Nat):Int)) (xJ xP ((a.len:Nat):Int))) (.one (.sc .slc)) z λv9 D=>
 (bR.ok [(a5.add 4,(xK a.ptr a.len a.cap)),(a3.add 4,(xK b.ptr b.len b.cap))] D)/\
 au xT (qH 53 (xL (dB (O.add 9))) (xK y.ptr y.len y.cap)) D λ_ h3=>
 (bR.ok [] h3)/\
 ∃J:eS,(c=dB J)/\
 au xT (qH 53 (xL (dB (J.add 10))) (xK v9.ptr v9.len v9.cap)) h3 λ_ q=>
 (bR.ok [] q)/\
 K1 () q)/\(au xT (qH 53 (xL (dB (O.add 9))) (xK y.ptr y.len y.cap)) z λ_ S=>
 (bR.ok [] S)/\
 bx xT (zD 53 (xJ xP ((a.len:Nat):Int)) (xJ xP ((a.len:Nat):Int))) (.one (.sc .slc)) S λt T=>
 (bR.ok [] T)/\
 ∃L:eS,(c=dB L)/\
 au xT (qH 53 (xL (dB (L.add 10))) (xK t.ptr t.len t.cap)) T λ_ U=>
 (bR.ok [] U)/\
 K1 () U))/\(bx xT (zD 53 (xJ xP ((a.len:Nat):Int)) (xJ xP ((a.len:Nat):Int))) (.one (.sc .slc)) h λw h8=>
 (bR.ok [(a5.add 4,(xK a.ptr a.len a.cap)),(a3.add 4,(xK b.ptr b.len b.cap))] h8)/\
 bx xT (zD 53 (xJ xP ((b.len:Nat):Int)) (xJ xP ((b.len:Nat):Int))) (.one (.sc .slc)) h8 λx Y=>
 (bR.ok [(a5.add 4,(xK a.ptr a.len a.cap)),(a3.add 4,(xK b.ptr b.len b.cap))] Y)/\
 ∃M:eS,(c=dB M)/\
 au xT (qH 53 (xL (dB (M.add 9))) (xK x.ptr x.len x.cap)) Y λ_ I=>
 (bR.ok [] I)/\
 ∃G:eS,(c=dB G)/\
 au xT (qH 53 (xL (dB (G.add 10))) (xK w.ptr w.len w.cap)) I λ_ A=>
 (bR.ok [] A)/\
 K1 () A)) (dB s) K:=by
 have X:=H.box 0 hZ;refine⟨s,hZ,v,X.cell hZ,s,hZ,v,X.cell hZ,?_,?_⟩
 .refine H.make ae bn fF i0 ⟨et,0,0⟩ hZ hZ n n o5 o5 (qm _) ii λi z o R l=>?_;have l:=l.aZ;have g:=l.box 1 hZ;refine⟨⟨g.cell hZ,g.cell hZ,x7⟩,s,hZ,?_,?_⟩
  .refine l.make ae bn fF i0 ⟨et,0,0⟩ hZ hZ n n o5 o5 (qm _) ii λd D e E j=>?_;have j:=j.aZ;have k:=j.box 2 hZ;refine⟨⟨k.cell hZ,k.cell hZ,x7⟩,?_⟩;refine j.store ae 2 hZ hZ 9 [i] hZ hZ hZ n3 λh3 u=>⟨x7,s,hZ,?_⟩
   refine u.store ae 2 hZ hZ 10 [d] hZ hZ hZ n3 λq F=>⟨x7,?_⟩
   exact Q i d q o e (F.aJ 4 [2,1,0,3])
  .refine l.store ae 1 hZ hZ 9 [i] hZ hZ hZ n3 λD j=>⟨x7,?_⟩
   refine j.make ae bn fF i0 ⟨et,0,0⟩ hZ hZ n n o5 o5 (qm _) ii λd h3 e E u=>⟨x7,s,hZ,?_⟩
   have u:=u.aZ;refine u.store ae 2 hZ hZ 10 [d] hZ hZ hZ n3 λq F=>⟨x7,?_⟩
   exact Q i d q o e (F.aJ 4 [2,1,0,3])
 .refine H.make ae bn fF i0 ⟨et,0,0⟩ hZ hZ n n o5 o5 (qm _) ii λd z o R l=>?_;have l:=l.aZ;have g:=l.box 1 hZ;refine⟨⟨g.cell hZ,g.cell hZ,x7⟩,?_⟩;refine l.make ae bn fF i0 ⟨et,0,0⟩ hZ hZ n n o5 o5 (qm _) ii λi D e E j=>?_;have j:=j.aZ;have k:=j.box 2 hZ;refine⟨⟨k.cell hZ,k.cell hZ,x7⟩,s,hZ,?_⟩;refine j.store ae 2 hZ hZ 9 [i] hZ hZ hZ n3 λh3 u=>⟨x7,s,hZ,?_⟩
  refine u.store ae 2 hZ hZ 10 [d] hZ hZ hZ n3 λq F=>⟨x7,?_⟩
  exact Q i d q e o (F.aJ 4 [2,0,1,3])
theorem ZF(n nd w:Nat)(d:az):(gz n nd w d).1.length=n/\(gz n nd w d).2.length=n:=by
 unfold gz;have:∀(l:List (Int×Nat)) (s:aN×aN),(l.foldl (λs p=>(s.1.set p.1.toNat (oB nd p.2),s.2.set p.1.toNat (aK w))) s).1.length=hY s.1/\(l.foldl (λs p=>(s.1.set p.1.toNat (oB nd p.2),s.2.set p.1.toNat (aK w))) s).2.length=hY s.2:=by
  intro l
  induction l with
  |nil=>intro s;exact⟨hZ,hZ⟩
  |cons a l ih=>intro s;rw[zB];have:=ih (s.1.set a.1.toNat (oB nd a.2),s.2.set a.1.toNat (aK w));simpa using this
 have:=this d.zipIdx (qg n [],qg n []);simpa using this
abbrev Told(s f:eS)(p:Int×Int×Int)(v r st e d a b:Sl)(g c:List Sl)(pl:List (Sl×Row)):List HP:=[SA s (iN f p v r st e d a b),HA a g,HA b c,mw pl]
theorem Wp(s f:eS)(p:Int×Int×Int)(v r st N lf wa T:Sl)(I mr:List Sl)(pl:List (Sl×Row))(c:Int)(nd w:Nat)(H:aa B h0 h (Told s f p v r st N lf wa T I mr pl++As))(ap:0<=c)(hw:c.toNat<hY I)(hm:c.toNat<hY mr)(Y:p.2.2=w)(hd:N.len=nd)(ar:nd<=64)(S:w<=2^20){K:Unit->f7->Prop}
  (hk:∀a b h',aa B h0 h' (RA a (aK nd)::RA b (aK w)::(Told s f p v r st N lf wa T (I.set c.toNat a) (mr.set c.toNat b) pl++As))->K () h'):(λ(J:bD) (K3:Unit->f7->Prop)=>
 ∃n:eS,(J=dB n)/\
 ∃g:Sl,eX h (n.add 9)=dB (xK g.ptr g.len g.cap)/\
 ∃a25:eS,(J=dB a25)/\
 ∃d:Sl,eX h (a25.add 10)=dB (xK d.ptr d.len d.cap)/\
 ∃R:eS,(J=dB R)/\
 ∃j:Int,eX h ((R.add 1).add 2)=dB (xJ xP j)/\
 (bx xT (zD 34 (xJ xP ((N.len:Nat):Int)) (xJ xP ((N.len:Nat):Int))) (.one (.sc .slc)) h λl O=>
 (bR.ok [((R.add 1).add 2,(xJ xP j)),(a25.add 10,(xK d.ptr d.len d.cap)),(n.add 9,(xK g.ptr g.len g.cap))] O)/\
 ∃M:eS,(g.ptr=dB M/\0<=c/\c<((g.len:Nat):Int))/\
 (bx xT (zD 34 (xJ xP j) (xJ xP j)) (.one (.sc .slc)) O λW am=>
 (bR.ok [(a25.add 10,(xK d.ptr d.len d.cap)),(n.add 9,(xK g.ptr g.len g.cap))] am)/\
 au xT (qH 34 (xL (dB (M.add (c.toNat*1)))) (xK l.ptr l.len l.cap)) am λ_ y=>
 (bR.ok [] y)/\
 ∃E:eS,(d.ptr=dB E/\0<=c/\c<((d.len:Nat):Int))/\
 au xT (qH 34 (xL (dB (E.add (c.toNat*1)))) (xK W.ptr W.len W.cap)) y λ_ z=>
 (bR.ok [] z)/\
 K3 () z)/\(au xT (qH 34 (xL (dB (M.add (c.toNat*1)))) (xK l.ptr l.len l.cap)) O λ_ t=>
 (bR.ok [] t)/\
 bx xT (zD 34 (xJ xP j) (xJ xP j)) (.one (.sc .slc)) t λk u=>
 (bR.ok [] u)/\
 ∃A:eS,(d.ptr=dB A/\0<=c/\c<((d.len:Nat):Int))/\
 au xT (qH 34 (xL (dB (A.add (c.toNat*1)))) (xK k.ptr k.len k.cap)) u λ_ F=>
 (bR.ok [] F)/\
 K3 () F))/\(bx xT (zD 34 (xJ xP j) (xJ xP j)) (.one (.sc .slc)) h λL ab=>
 (bR.ok [(a25.add 10,(xK d.ptr d.len d.cap)),(n.add 9,(xK g.ptr g.len g.cap))] ab)/\
 bx xT (zD 34 (xJ xP ((N.len:Nat):Int)) (xJ xP ((N.len:Nat):Int))) (.one (.sc .slc)) ab λV ao=>
 (bR.ok [(a25.add 10,(xK d.ptr d.len d.cap)),(n.add 9,(xK g.ptr g.len g.cap))] ao)/\
 ∃al:eS,(g.ptr=dB al/\0<=c/\c<((g.len:Nat):Int))/\
 au xT (qH 34 (xL (dB (al.add (c.toNat*1)))) (xK V.ptr V.len V.cap)) ao λ_ Z=>
 (bR.ok [] Z)/\
 ∃ah:eS,(d.ptr=dB ah/\0<=c/\c<((d.len:Nat):Int))/\
 au xT (qH 34 (xL (dB (ah.add (c.toNat*1)))) (xK L.ptr L.len L.cap)) Z λ_ ad=>
 (bR.ok [] ad)/\
 K3 () ad)) (dB s) K:=by
 have hb:=H.box 0 hZ;have mk:∀{X:f7} {Cs:List HP} (m:Nat) (hm:m<=2^20) {z1 z2:Int},z1=(m:Int)->z2=(m:Int)->aa B h0 X Cs->∀{K:Sl->f7->Prop},(∀a h',aa B h0 h' (RA a (aK m)::Cs)->K a h')->
   bx xT (zD 34 (xJ xP z1) (xJ xP z2)) (.one (.sc .slc)) X K:=by
  intro X Cs m hm z1 z2 e1 e2 G K hK;subst e1;subst e2;exact G.make ae aB gN i0 0 hZ hZ m m hZ hZ (qm _) ii λa h' _ _ H'=>hK a h' H'.aZ
 refine⟨s,hZ,wa,hb.cell hZ,s,hZ,T,hb.cell hZ,s,hZ,p.2.2,show eX h (s.add 3)=_ from hb.cell hZ,?_,?_⟩
 .refine mk nd ii (by rw[hd]) (by rw[hd]) H λa X G=>?_;have o:=G.box 1 hZ;refine⟨⟨show eX X (s.add 3)=_ from o.cell hZ,o.cell hZ,o.cell hZ,x7⟩,?_⟩;have q:∀{h2:f7} {Cs:List HP} {I:List Sl} (i:Nat) (a:Sl) {s':Sl},aa B h0 h2 Cs->Cs[i]?=dB (HA s' I)->c.toNat<hY I->∀{K:f7->Prop},(∀h',aa B h0 h' (Cs.set i (HA s' (I.set c.toNat a)))->K h')->∃x:eS,(s'.ptr=dB x/\0<=c/\c<((s'.len:Nat):Int))/\au xT (qH 34 (xL (dB (x.add (c.toNat*1)))) (xK a.ptr a.len a.cap)) h2 λ_ h'=>K h':=by intro h2 Cs I i a s' U hi hl K hK;exact U.set ae i hi (λ_=>rfl) hZ c.toNat ii hl a hZ hZ hZ λh3 Q=>hK h3 Q
  obtain⟨x,hx,-⟩:=q (K:=λ_=>True) 2 a G rfl hw λ_ _=>trivial;refine⟨x,hx,?_,?_⟩
  .refine mk w S Y Y G λb h2 U=>?_;have D:=U.box 2 hZ;refine⟨⟨D.cell hZ,D.cell hZ,x7⟩,?_⟩;obtain⟨x',P,hr⟩:=q (K:=λy=>bR.ok [] y/\∃E:eS,(T.ptr=dB E/\0<=c/\c<((T.len:Nat):Int))/\
 au xT (qH 34 (xL (dB (E.add (c.toNat*1)))) (xK b.ptr b.len b.cap)) y λ_ z=>(bR.ok [] z)/\K () z) 3 a U hZ hw λh3 Q=>⟨x7,q 4 b Q hZ hm λh4 H4=>⟨x7,hk a b h4 (H4.aJ 6 [1,0,2,3,4,5])⟩⟩
   have e:x=x':=zX.inj (hx.1.symm.trans P.1);subst e;exact hr
  .obtain⟨x',P,hr⟩:=q (K:=λt=>bR.ok [] t/\bx xT (zD 34 (xJ xP p.2.2) (xJ xP p.2.2)) (.one (.sc .slc)) t λk u=>
 (bR.ok [] u)/\
 ∃A:eS,(T.ptr=dB A/\0<=c/\c<((T.len:Nat):Int))/\
 au xT (qH 34 (xL (dB (A.add (c.toNat*1)))) (xK k.ptr k.len k.cap)) u λ_ F=>
 (bR.ok [] F)/\K () F) 2 a G hZ hw λh3 Q=>⟨x7,mk w S Y Y Q λb h4 H4=>⟨x7,q 4 b H4 hZ hm λh5 H5=>⟨x7,hk a b h5 (H5.aJ 6 [1,0,2,3,4,5])⟩⟩⟩
   have e:x=x':=zX.inj (hx.1.symm.trans P.1);subst e;exact hr
 .refine mk w S Y Y H λb X G=>?_;have o:=G.box 1 hZ;refine⟨⟨o.cell hZ,o.cell hZ,x7⟩,?_⟩;refine mk nd ii (by rw[hd]) (by rw[hd]) G λa h2 U=>?_;have D:=U.box 2 hZ;refine⟨⟨D.cell hZ,D.cell hZ,x7⟩,?_⟩;refine U.set ae 3 hZ (λ_=>rfl) hZ c.toNat ii hw a hZ hZ hZ λh3 Q=>⟨x7,?_⟩
  refine Q.set ae 4 hZ (λ_=>rfl) hZ c.toNat ii hm b hZ hZ hZ λh4 H4=>⟨x7,hk a b h4 (H4.aJ 6 [0,1,2,3,4,5])⟩
theorem Qu{h:f7}{Cs:List HP}(x:Sl)(m:Row)(nd:Nat)(z:Int)(H:aa B h0 h Cs)(D:z=nd)(v:nd<=64)(E:hY m<=2^20){L L2:bR}(A:L.ok h)(p:L2.ok h)(s:St B h0 Cs λh=>Rd h x 1 aB m){K:Sl->Sl->f7->Prop}
  (u:∀a b h',aS (λb=>b<h.size) h h'->aa B h0 h' (RA a (aK nd)::RA b m::Cs)->K a b h'):
  (bx xT (zD 34 (xJ xP z) (xJ xP z)) (.one (.sc .slc)) h λk d=>
 (bR.ok L d)/\
 oy xT 124 #[(xK x.ptr x.len x.cap)] (.one (.sc .slc)) d λj f=>K k j f)/\(oy xT 124 #[(xK x.ptr x.len x.cap)] (.one (.sc .slc)) h λo e=>
 (bR.ok L2 e)/\
 bx xT (zD 34 (xJ xP z) (xJ xP z)) (.one (.sc .slc)) e λl i=>K l o i):=by
 subst D;constructor
 .refine H.IN ae aB gN i0 0 hZ hZ nd nd hZ hZ (qm _) ii λa q _ r c=>⟨jW r A,?_⟩
  have c:=c.aZ;refine(fP x m q (s.at [_] c) ii).x0 λb g t=>⟨b,hZ,u a b g (up r t.ac) ((c.ci t).ie)⟩
 .refine(fP x m h (s.at [] H) ii).x0 λb q n=>?_;have c:=H.ci n;refine⟨b,hZ,jW n.ac p,?_⟩;refine c.IN ae aB gN i0 0 hZ hZ nd nd hZ hZ (qm _) ii λa g _ w y=>?_;exact u a b g (up n.ac w) y.aZ
structure mH (pool pl:List (Sl×Row)) (wr mr:List Sl) (W M:aN):Prop where
 sub:∀x∈pool,x∈pl
 way:iM pl id wr W
 more:iM pl id mr M
theorem mH.step{pool pl:List (Sl×Row)}{f e:List Sl}{W M:aN}(x:mH pool pl f e W M)(c:Nat)(a b:Sl)(l m:Row):mH pool ((b,m)::(a,l)::pl) (f.set c a) (e.set c b) (W.set c l) (M.set c m):=
 ⟨λy d=>by simp[x.sub y d],(x.way.mono λy d=>p8).set c i6,(x.more.mono λy d=>p8).set c i6⟩
theorem Wq(s f:eS)(p:Int×Int×Int)(v r st q E ax a5:Sl)(rr:List (Sl×Sl))(R:List fL)(ST:List (Int×Int))(D L:az)(n nd w:Nat)(pool:List (Sl×Row))(H:aa B h0 h (SA s (iN f p v r st q E ax a5)::mw pool::As))(V:St B h0 As λh=>Wo h f r st q E rr R ST D L)
  (hv:v.len=n) (hn:n<=64) (hp:p.2.2=w) (hw:w<=2^20) (b2:hY D=nd) (Z:nd<=64) (hR:∀e∈R,jl n w e) (hD:∀c∈D,0<=c/\c<(n:Int)) (bq:D.Nodup) (hg:sS (R.map qE) (·∈D) ST) (b7:hY ST<=2^20) (b5:∀e∈R,hY e.1<=2^20) (a1:(⟨et,0,0⟩,[])∈pool):
  ai xT 216 #[xL (dB s)] h λv' h'=>v'=.tuple #[]/\∃k m u z pl,aa B h0 h' (Told s f p v r st q E k m u z pl++As)/\mH pool pl u z (ST.foldl (iG R nd) (gz n nd w D)).1 (ST.foldl (iG R nd) (gz n nd w D)).2:=by
 refine ts Tryz.func216 ?_ (v7 (ws [] [(18,36)] (u7 (v7 (v1 (v2 [(42,aU)] [(3,5),(42,77)] (v7 (v7 (u7 (v1 (v7 (ws [] [(47,67)] u9))) u9)))))) (v7 (v1 (v2 [(83,aU)] [(6,10),(11,12),(83,134)] (v7 (v7 (u7 (v1 (v7 (ws [(7,(.sc .adr))] [(7,8),(87,95)] (ws [(8,cM),(9,cM)] [(8,10),(95,100)] (wj [(103,aU)] [(11,12),(103,117)]))))) u9))))))))) [(1,(.y [0,1,2,3,4,5,6,8,9,10,11,12] (.y [7,14,15] (.l [13,16,17,18,19]) (.l [16,13,17,18,19])) (.l [13,7,14,15,16,17,18,19]))),(5,(.y [0,1,2,3,4,5,6,7,8,9,10,12,13,14,15,16] (.y [11,18] (.l [17,19,20,21]) (.l [19,17,20,21])) (.l [17,11,18,19,20,21]))),(12,(.y [0,2,3] (.l [1,4,5,6]) (.l [4,1,5,6])))];have hb:=H.box 0 hZ;have a7:q.len=nd:=by rw[(V.at [_,_] H).dead.len,b2]
 refine⟨s,hZ,q,show eX h (s.add 7)=_ from hb.cell hZ,?_⟩;refine bB (λ_ h'=>∃k m,k.len=n/\m.len=n/\aa B h0 h' (Told s f p v r st q E k m (qg n ⟨et,0,0⟩) (qg n ⟨et,0,0⟩) pool++As)) ?_ ?_
 .exact Sr (K:=λ_ h'=>∃k m,k.len=n/\m.len=n/\aa B h0 h' (Told s f p v r st q E k m (qg n ⟨et,0,0⟩) (qg n ⟨et,0,0⟩) pool++As)) s f p v r st q E ax a5 n pool H hv hn λk m h' h1 h2 J=>⟨k,m,h1,h2,J⟩
 rintro-h1 ⟨k,m,cp,cc,H1⟩;have b1:=H1.box 0 hZ;refine⟨s,hZ,q,show eX h1 (s.add 7)=_ from b1.cell hZ,?_⟩;refine aq (λt:Nat×List Sl×List Sl×List (Sl×Row)=>(t.1:Int)) (λt h'=>t.1<=nd/\aa B h0 h' (Told s f p v r st q E k m t.2.1 t.2.2.1 t.2.2.2++As)/\mH pool t.2.2.2 t.2.1 t.2.2.1 (gz n nd w (D.take t.1)).1 (gz n nd w (D.take t.1)).2) (λt=>nd-t.1)
  (0,qg n ⟨et,0,0⟩,qg n ⟨et,0,0⟩,pool) hZ ⟨ii,H1,⟨λ_ h=>h,JU pool a1 n,JU pool a1 n⟩⟩ ?_
 rintro⟨i,u,z,pl⟩ h2 ⟨hi,H2,T2⟩;dsimp only at*;have br:=ZF n nd w (D.take i);have U:=T2.way.1;have N:=T2.more.1;refine af (λe=>?_) (λe=>?_)
 .have X:i<nd:=ii
  have O:=hD _ (qf (show i<hY D by omega));refine(V.at [_,_,_,_] H2).dead.bo i hZ ii _ hZ ?_;refine bB (λ_ h'=>∃a b,aa B h0 h' (RA a (aK nd)::RA b (aK w)::(Told s f p v r st q E k m (u.set D[i].toNat a) (z.set D[i].toNat b) pl++As))) ?_ ?_
  .exact Wp (K:=λ_ h'=>∃a b,aa B h0 h' (RA a (aK nd)::RA b (aK w)::(Told s f p v r st q E k m (u.set D[i].toNat a) (z.set D[i].toNat b) pl++As))) s f p v r st q E k m u z pl D[i] nd w H2 O.1 ii ii hp a7 Z hw λa b h' J=>⟨a,b,J⟩
  rintro-h3 ⟨a,b,H3⟩;refine⟨s,hZ,k,(H3.box 2 hZ).cell hZ,?_⟩;refine(H3.seq 3 hZ λ_=>rfl).mQ D[i].toNat ii i5 ?_;rw[vt];refine H3.set ae 0 hZ (λ_=>rfl) hZ i hZ (by simp[aK];omega) 1 hZ hZ hZ λh4 H4=>?_;have H5:=(H4.freeze 0 hZ λ_=>rfl).pool 5 0 i0 hZ hZ;have H6:=(H5.freeze 1 hZ λ_=>rfl).pool 5 1 i0 hZ hZ;refine⟨(i+1,u.set D[i].toNat a,z.set D[i].toNat b,_),i7,⟨i4,H6.aJ 6 [2,3,4,5],?_⟩,i4⟩
  try dsimp only
  have e1:D.take (i+1)=D.take i++[D[i]]:=aE _ _;have e2:hY (D.take i)=i:=i5
  rw[e1,Jb,e2];exact T2.step D[i].toNat a b (oB nd i) (aK w)
 have am:i=hY D:=ii
 subst am;rw[qM]at T2 br U N;refine⟨s,hZ,st,(H2.box 0 hZ).cell hZ,?_⟩;have b6:=(V.at [_,_,_,_] H2).steps.len;refine aq (λt:Nat×List Sl×List Sl×List (Sl×Row)=>(t.1:Int)) (λt h'=>t.1<=hY ST/\aa B h0 h' (Told s f p v r st q E k m t.2.1 t.2.2.1 t.2.2.2++As)/\mH pool t.2.2.2 t.2.1 t.2.2.1 ((ST.take t.1).foldl (iG R nd) (gz n nd w D)).1 ((ST.take t.1).foldl (iG R nd) (gz n nd w D)).2) (λt=>hY ST-t.1)
  (0,u,z,pl) hZ ⟨i6,H2,T2⟩ ?_
 clear U N T2 H2 hi e;rintro⟨i,u,z,pl⟩ h3 ⟨hi,H3,T3⟩;dsimp only at*;obtain⟨dk,-⟩:=KP (nd:=nd) (w:=w) hD bq D.length (qm _);rw[qM]at dk;have a6:=ME (l1:=ST.take i) (l2:=ST.drop i) (by rw[qC];exact hg);obtain⟨ar,-⟩:=HJ hR a6.1 dk;obtain⟨W,hW⟩:=x6 (((ST.take i).foldl (iG R nd) (gz n nd w D)).1)
 obtain⟨M,hM⟩:=x6 (((ST.take i).foldl (iG R nd) (gz n nd w D)).2)
 have al:(ST.take i).foldl (iG R nd) (gz n nd w D)=(W,M):=by rw[hW,hM]
 have G:Yo n nd w (λc=>c∈D∨∃j,(j,c)∈ST.take i) W M:=by rw[hW,hM];exact ar
 rw[<-hW,<-hM]at T3;clear ar hW hM;have cl:=G.wl;have cn:=G.ml;have U:=T3.way.1;have N:=T3.more.1;refine af (λe=>?_) (λe=>?_)
 .have X:i<hY ST:=ii
  have ab:=a6.2;rw[qL X]at ab;obtain⟨row,bp,ad⟩:∃row bp,ST[i]=(row,bp):=⟨_,_,rfl⟩
  rw[ad]at ab;obtain⟨g1,g2,g3,g4,-⟩:=ab;have o:row.toNat<hY R:=by have:=g1.2;rw[qu]at this;omega
  obtain⟨d,Q⟩:=x6 (R[row.toNat])
  have er:R.getD row.toNat ([],[])=d:=by rw[qd,qc o,Q];rfl
  have bk:(R.map qE).getD row.toNat []=d.1:=by rw[qd,qO,qc o,Q];rfl
  rw[bk]at g3 g4;have I:=hR d (Q▸qf o);have cd:=b5 d (Q▸qf o);have cf:=I.cZ bp g3;have G3:=V.at [_,_,_,_] H3;have hF:=G3.rest.2.1;refine G3.steps.de (g:=gB) i hZ X ST[i] hZ ?_;rw[ad];refine H3.Ed ae hZ λa50 h4 P4 H4=>?_;have H4:=H4.aZ;refine H4.storeAll ae 0 hZ hZ (gB (row,bp)) hZ hZ hZ hZ λh5 H5=>?_;have a9:row.toNat<hY rr:=by rw[hF];exact o
  obtain⟨y,hy⟩:=x6 (rr[row.toNat])
  have A:∀{h'},oh kE 2 qv h' r rr R->kE.p h' (λb=>b<h'.size) y d:=λhh=>by rw[hy,Q];exact Fix.row hh o
  refine bB (λa' h'=>aa B h0 h' (aj a' 276 (qv y)::aj a50 349 (gB (row,bp))::(Told s f p v r st q E k m u z pl++As))) ?_ ?_
  .have ao:=H5.box 1 hZ;have G5:=V.at [_,_,_,_,_] H5;refine⟨s,hZ,r,ao.cell hZ,row,(H5.box 0 hZ).cell0 hZ,?_⟩;obtain⟨bd,ha,x,O,rfl⟩:=G5.rest.1.de (g:=qv) (i:=row) row.toNat ii a9 y (by rw[hy]) (K:=λx=>x=y) rfl;refine⟨bd,ha,_,O,?_⟩;refine H5.Ed ae hZ λT h6 P6 H6=>⟨⟨pm O.1 P6,pm O.2.1 P6,pm ((H5.box 0 hZ).cell0 hZ) P6,pm (ao.cell hZ) P6,x7⟩,?_⟩
   have H6:=H6.aZ;refine H6.storeAll ae 0 hZ hZ (qv x) hZ hZ hZ hZ λh7 H7=>⟨x7,H7⟩
  intro T h7 H7;refine bB (λt h'=>aa B h0 h' (RA t.1 (aK nd)::RA t.2 d.2::aj T 276 (qv y)::aj a50 349 (gB (row,bp))::(Told s f p v r st q E k m u z pl++As))) ?_ ?_
  .have ap:=H7.box 0 hZ;refine⟨y.2,ap.cell hZ,?_⟩;exact Qu (L:=[(T.add 1,xK y.2.ptr y.2.len y.2.cap)]) (K:=λa b h'=>bR.ok [] h'/\aa B h0 h' (RA a (aK nd)::RA b d.2::aj T 276 (qv y)::aj a50 349 (gB (row,bp))::(Told s f p v r st q E k m u z pl++As))) y.2 d.2 nd _ H7 (by rw[a7]) Z (by rw[I.len];exact hw) ⟨ap.cell hZ,x7⟩ (L2:=[]) x7 (St.mk' λh' J=>(A (V.at [_,_,_,_,_,_] J).rest).2) λa b h' _ J=>⟨x7,J⟩
  rintro⟨P,more⟩ h8 H8;dsimp only at H8;refine⟨y.1,(H8.box 2 hZ).cell0 hZ,?_⟩;have b9:=(A (V.at [_,_,_,_,_,_,_,_] H8).rest).1.len;let F:Nat->az:=λj=>(d.1.take j).filter λc=>!decide (c=bp);refine aq (λj:Nat=>(j:Int)) (λj h'=>j<=hY d.1/\aa B h0 h' (RA P (cT W (aK nd) (F j))::RA more (cT M d.2 (F j))::aj T 276 (qv y)::aj a50 349 (gB (row,bp))::(Told s f p v r st q E k m u z pl++As))) (λj=>hY d.1-j) 0 hZ ⟨ii,by simpa[F,cT]using H8⟩ ?_;rintro j h9 ⟨hj,H9⟩;have told:∀c∈F j,hY (aC W c.toNat)=nd/\(aC M c.toNat).length=w:=λc O=>by
   have ay:=qD.1 O;have hm:=zw ay.1;exact G.rw_ c (g4 c hm (by simpa using ay.2)) (I.cZ c hm).1 (I.cZ c hm).2
  have a4:hY (cT W (aK nd) (F j))=nd:=kq k8 λc O=>(told c O).1;have a8:hY (cT M d.2 (F j))=w:=kq I.len λc O=>(told c O).2;refine af (λe2=>?_) (λe2=>?_)
  .have S:j<hY d.1:=ii
   have ah:=I.cZ _ (qf S);refine(A (V.at [_,_,_,_,_,_,_,_] H9).rest).1.bo j hZ S _ hZ ?_;refine⟨bp,(H9.box 3 hZ).cell hZ,?_⟩;refine bA (λa2=>?_) (λbb=>?_)
   .have tc:=G.rw_ d.1[j] (g4 _ (qf S) a2) ah.1 ah.2;refine(Fw s f 1 d.1[j] P more k m _ _ u z W M H9 (St.mk' λh' J=>?_) ah.1 ii ii (by rw[tc.1,a4]) (by rw[tc.2,a8]) ii ii).mono ?_
    .exact Cf.of (J.box 2 hZ) (V.at [_,_,_,_,_,_] J).field (J.Di 3 5 hZ hZ T3.way) (J.Di 4 5 hZ hZ T3.more)
    rintro _ b3 ⟨rfl,Y⟩;have e3:F (j+1)=F j++[d.1[j]]:=by simp only[F];rw[kf _ _ S];simp[a2]
    exact⟨(),hZ,j+1,i9,⟨ii,by rw[e3,sW,sW];exact Y⟩,ii⟩
   .have e3:F (j+1)=F j:=by simp only[F];rw[kf _ _ S];simp[bb]
    exact⟨j+1,i9,⟨ii,by rw[e3];exact H9⟩,ii⟩
  .have b4:j=hY d.1:=ii
   subst b4;have a0:=H9.box 3 hZ;have a3:=H9.box 4 hZ;refine⟨s,hZ,k,a3.cell hZ,bp,a0.cell hZ,s,hZ,m,a3.cell hZ,bp,a0.cell hZ,?_⟩;refine H9.set ae 5 hZ (λ_=>rfl) hZ bp.toNat ii ii P hZ hZ hZ λb3 Y=>⟨⟨(Y.box 3 hZ).cell hZ,x7⟩,?_⟩
   refine Y.set ae 6 hZ (λ_=>rfl) hZ bp.toNat ii ii more hZ hZ hZ λca bs=>⟨x7,?_⟩
   have bl:=(bs.freeze 0 hZ λ_=>rfl).pool 7 0 i0 hZ hZ;have b0:=(bl.freeze 1 hZ λ_=>rfl).pool 7 1 i0 hZ hZ;refine⟨(i+1,u.set bp.toNat P,z.set bp.toNat more,_),i7,⟨i4,b0.aJ 8 [4,5,6,7],?_⟩,i4⟩
   try dsimp only
   rw[aE _ _ X,List.foldl_append,al,ad];have e3:[(row,bp)].foldl (iG R nd) (W,M)=(W.set bp.toNat (cT W (aK nd) (F d.1.length)),M.set bp.toNat (cT M d.2 (F d.1.length))):=by simp only[zB,List.foldl_nil,iG,er,F,qM]
   rw[e3];exact T3.step bp.toNat P more _ _
 .have am:i=hY ST:=ii
  subst am;rw[qM]at al;exact⟨hZ,k,m,u,z,pl,H3,by rw[al];exact T3⟩
def kZ(nd:Nat)(known:List Bool)(vals:aN)(s:aN×aN)(i:Nat):aN×aN:=
 (s.1.mapIdx λc r=>if c<i/\known.getD c eH=ez then aK nd else r,s.2.mapIdx λc r=>if c<i/\known.getD c eH=ez then aC vals c else r)
theorem Wr(nd:Nat)(known:List Bool)(vals:aN)(s:aN×aN):kZ nd known vals s 0=s:=by unfold kZ;refine vf ?_ ?_<;>refine wk i6 λi a b=>?_<;>simp
theorem ZG(nd:Nat)(known:List Bool)(vals:aN)(s:aN×aN){n:Nat}(a:hY s.1=n)(b:hY s.2=n):kZ nd known vals s n=iU nd known vals s:=by unfold kZ iU;refine vf ?_ ?_<;>refine wk i6 λi a b=>?_<;>simp at a<;>simp[show i<n by omega]
theorem ZH(nd:Nat)(known:List Bool)(vals:aN)(s:aN×aN){i:Nat}(d:known.getD i eH=ez):kZ nd known vals s (i+1)=((kZ nd known vals s i).1.set i (aK nd),(kZ nd known vals s i).2.set i (aC vals i)):=by
 unfold kZ;refine vf ?_ ?_<;>refine wk i6 λj e f=>?_<;>simp only[List.getElem_mapIdx,List.getElem_set]<;>by_cases c:i=j
 .subst c;rw[f8 ⟨ii,d⟩,f8 rfl]
 .rw[f9 c];congr 1;simp only[eq_iff_iff];constructor<;>rintro⟨a,b⟩<;>exact⟨ii,b⟩
 .subst c;rw[f8 ⟨ii,d⟩,f8 rfl]
 .rw[f9 c];congr 1;simp only[eq_iff_iff];constructor<;>rintro⟨a,b⟩<;>exact⟨ii,b⟩
theorem acO(nd:Nat)(known:List Bool)(vals:aN)(s:aN×aN){i:Nat}(e:known.getD i eH=eH):kZ nd known vals s (i+1)=kZ nd known vals s i:=by
 have d:∀j,(j<i+1/\known.getD j eH=ez)↔(j<i/\known.getD j eH=ez):=λj=>by
  constructor
  .rintro⟨a,b⟩;by_cases c:j=i
   .subst c;rw[e]at b;cases b
   .exact⟨ii,b⟩
  .rintro⟨a,b⟩;exact⟨ii,b⟩
 unfold kZ;simp only[d]
theorem ZI(s f:eS)(p:Int×Int×Int)(v r st A L G I:Sl)(j d g:List Sl)(pl:List (Sl×Row))(known:List Bool)(V W M:aN)(n nd:Nat)(H:aa B h0 h (Told s f p v r st A L G I d g pl++HA v j::As))(hn:n<=64)(D:A.len=nd)(T:nd<=64)(Z:mH pl pl d g W M)(Q:iM pl id j V)(ab:hY V=n)(E:hY W=n)(w:hY M=n)
  (hk:∀(c:Nat) (hc:c<hY j),j[c].ptr.isNone=!(known.getD c eH)):
  ai xT 217 #[xL (dB s)] h λv' h'=>v'=.tuple #[]/\∃d g b,aa B h0 h' (Told s f p v r st A L G I d g b++HA v j::As)/\mH pl b d g (iU nd known V (W,M)).1 (iU nd known V (W,M)).2:=by
 refine ts Tryz.func217 ?_ (v7 (v1 (v2 [(9,aU)] [(2,4),(9,37)] u9))) [(4,(.l [0,1,2,3,4,5,6,7,8,9,10,11,12,13,14,15,17,16,18,19,20,21]))];have P:=Q.1;have N:v.len=n:=by rw[(H.own 4 hZ).len];omega
 refine⟨s,hZ,v,(H.box 0 hZ).cell hZ,?_⟩;refine aq (λt:Nat×List Sl×List Sl×List (Sl×Row)=>(t.1:Int)) (λt h'=>t.1<=n/\aa B h0 h' (Told s f p v r st A L G I t.2.1 t.2.2.1 t.2.2.2++HA v j::As)/\mH pl t.2.2.2 t.2.1 t.2.2.1 (kZ nd known V (W,M) t.1).1 (kZ nd known V (W,M) t.1).2) (λt=>n-t.1) (0,d,g,pl) hZ ⟨ii,H,by rw[Wr];exact Z⟩ ?_;rintro⟨i,d,g,b⟩ S ⟨hi,z,k⟩;dsimp only at*;have ah:(kZ nd known V (W,M) i).1.length=n:=by simp[kZ,E]
 have ad:(kZ nd known V (W,M) i).2.length=n:=by simp[kZ,w]
 have R:=k.way.1;have O:=k.more.1;refine af (λe=>?_) (λe=>?_)
 .have U:i<n:=ii
  refine(z.seq 4 hZ λ_=>rfl).mQ i hZ ii ?_;have F:=hk i ii;refine aW (λy=>?_) (λy=>?_)
  .have m:known.getD i eH=ez:=by rw[F]at y;simpa using y
   have o:=z.box 0 hZ;refine⟨s,hZ,G,o.cell hZ,s,hZ,I,o.cell hZ,s,hZ,A,show eX S (s.add 7)=_ from o.cell hZ,?_⟩;refine z.IN ae aB gN i0 0 hZ hZ nd nd (by rw[D]) (by rw[D]) (qm _) ii λa X _ P2 J=>?_;have J:=J.aZ;have q:=J.box 1 hZ;refine⟨⟨show eX X (s.add 7)=_ from q.cell hZ,q.cell hZ,q.cell hZ,x7⟩,?_⟩;refine J.set ae 2 hZ (λ_=>rfl) hZ i hZ ii a hZ hZ hZ λh3 Y=>⟨x7,?_⟩
   refine Y.set ae 3 hZ (λ_=>rfl) hZ i hZ ii (j[i]'ii) hZ hZ hZ λh4 H4=>⟨x7,?_⟩
   have H5:=(H4.freeze 0 hZ λ_=>rfl).pool 4 0 i0 hZ hZ;refine⟨(i+1,d.set i a,g.set i (j[i]'ii),_),i7,⟨i4,H5.aJ 5 [1,2,3,4],?_⟩,i4⟩
   try dsimp only
   rw[ZH nd known V (W,M) m];have hm:((j[i]'ii),aC V i)∈pl:=by have:=Q.get (i:=i) ii;rw[mO ii];exact this
   exact⟨λx u=>qA _ (k.sub x u),(k.way.mono λx u=>qA _ u).set i k8,(k.more.mono λx u=>qA _ u).set i (qA _ (k.sub _ hm))⟩
  .have m:known.getD i eH=eH:=by rw[F]at y;simpa using y
   exact⟨(i+1,d,g,b),i7,⟨i4,z,by dsimp only;rw[acO nd known V (W,M) m];exact k⟩,i4⟩
 .have K:i=n:=ii
  subst K;exact⟨hZ,d,g,b,z,by rw[<-ZG nd known V (W,M) E w];exact k⟩
def nR(nd:Nat)(known:List Bool)(vals W M D:aN)(i:Nat):aN:=vals.mapIdx λc r=>if c<i/\known.getD c eH=eH then iu D (aC W c) (aC M c) nd else r
theorem ZJ(nd:Nat)(known:List Bool)(vals W M D:aN):nR nd known vals W M D 0=vals:=by unfold nR;refine wk i6 λi a b=>?_;simp
theorem acP(nd:Nat)(known:List Bool)(vals W M D:aN){n:Nat}(a:hY vals=n):nR nd known vals W M D n=uS nd known vals W M D:=by
 unfold nR uS;refine wk i6 λi a b=>?_;simp at a;simp only[List.getElem_mapIdx];cases hk:known.getD i eH
 .rw[f8 ⟨ii,hZ⟩,f9 i6]
 .rw[f9 i6,f8 rfl]
theorem acQ(nd:Nat)(known:List Bool)(vals W M D:aN){i:Nat}(e:known.getD i eH=ez):nR nd known vals W M D (i+1)=nR nd known vals W M D i:=by
 have d:∀j,(j<i+1/\known.getD j eH=eH)↔(j<i/\known.getD j eH=eH):=λj=>by
  constructor
  .rintro⟨a,b⟩;by_cases c:j=i
   .subst c;rw[e]at b;cases b
   .exact⟨ii,b⟩
  .rintro⟨a,b⟩;exact⟨ii,b⟩
 unfold nR;simp only[d]
theorem afQ(nd:Nat)(known:List Bool)(vals W M D:aN){i:Nat}(d:known.getD i eH=eH):nR nd known vals W M D (i+1)=(nR nd known vals W M D i).set i (iu D (aC W i) (aC M i) nd):=by
 unfold nR;refine wk i6 λj e f=>?_;simp only[List.getElem_mapIdx,List.getElem_set];by_cases c:i=j
 .subst c;rw[f8 ⟨ii,d⟩,f8 rfl]
 .rw[f9 c];congr 1;simp only[eq_iff_iff];constructor<;>rintro⟨a,b⟩<;>exact⟨ii,b⟩
theorem ZK(s f:eS)(p:Int×Int×Int)(v r st T Y K P dead:Sl)(g z A dr:List Sl)(pl:List (Sl×Row))(known:List Bool)(V W M D:aN)(n nd w:Nat)(H:aa B h0 h (Told s f p v r st T Y K P z A pl++HA v g::As))(hS:St B h0 As λh=>fY h f/\fT h (λb=>b<h.size) dead 1 aB D dr)(hn:n<=64)(hw:w<=2^20)(a8:nd<=64)(U:mH pl pl z A W M)(hV:iM pl id g V)(E:hY V=n)(a7:hY W=n)(a9:hY M=n)
  (J:∀c,c<n->hY (aC W c)=nd/\(aC M c).length=w) (a4:hY D=nd) (I:aV w D) (hk:∀(c:Nat) (l:c<hY g),g[c].ptr.isNone=!(known.getD c eH)):
  ai xT 220 #[xL (dB s),dead] h λv' h'=>v'=.tuple #[]/\∃Q a,aa B h0 h' (Told s f p v r st T Y K P z A a++HA v Q::As)/\iM a id Q (uS nd known V W M D):=by
 refine ts Tryz.func220 ?_ (v7 (v1 (v2 [(15,aU)] [(4,10),(15,80)] (v7 (v7 (u7 (v1 (v7 (v7 (v7 (u7 (v7 (v1 (v2 [(42,aU)] [(6,10),(42,72)] (v7 (v7 (u7 (v1 (v7 (v7 (v1 (v2 [(52,aU)] [(8,10),(52,71)] u9))))) u9)))))) u9))))) u9))))));have a2:=hV.1;have ao:v.len=n:=by rw[(H.own 4 hZ).len];omega
 have a0:=U.way.1;have ay:=U.more.1;refine⟨s,hZ,v,(H.box 0 hZ).cell hZ,?_⟩;refine aq (λt:Nat×List Sl×List (Sl×Row)=>(t.1:Int)) (λt h'=>t.1<=n/\aa B h0 h' (Told s f p v r st T Y K P z A t.2.2++HA v t.2.1::As)/\iM t.2.2 id t.2.1 (nR nd known V W M D t.1)/\(∀x∈pl,x∈t.2.2)/\∀(c:Nat) (l:c<hY t.2.1),t.1<=c->t.2.1[c].ptr.isNone=!(known.getD c eH)) (λt=>n-t.1) (0,g,pl) hZ ⟨ii,H,by rw[ZJ];exact hV,λ_ h=>h,λc l _=>hk c l⟩ ?_;rintro⟨i,g,a⟩ h1 ⟨hi,y,S,d,o⟩;dsimp only at*;have a6:hY (nR nd known V W M D i)=n:=by simp[nR,E]
 have a1:=S.1;refine af (λe=>?_) (λe=>?_)
 .have ah:i<n:=ii
  have O:=y.box 0 hZ;refine⟨s,hZ,v,O.cell hZ,?_⟩;refine(y.seq 4 hZ λ_=>rfl).mQ i hZ ii ?_;have G:=o i ii (qm _);refine aW (λR=>?_) (λR=>?_)
  .have u:known.getD i eH=ez:=by rw[G]at R;simpa using R
   exact⟨(i+1,g,a),i7,⟨i4,y,by dsimp only;rw[acQ nd known V W M D u];exact S,d,λc l h=>o c l (by dsimp only at h;omega)⟩,i4⟩
  have u:known.getD i eH=eH:=by rw[G]at R;simpa using R
  have ax:=J i ah;have ab:((A[i]'ii),aC M i)∈a:=by have:=(U.more.mono d).get (i:=i) ii;rw[mO ii];exact this
  have N:((z[i]'ii),aC W i)∈a:=by have:=(U.way.mono d).get (i:=i) ii;rw[mO ii];exact this
  refine⟨s,hZ,P,O.cell hZ,?_⟩;refine(y.seq 2 hZ λ_=>rfl).mQ i hZ ii ?_;refine(fP _ (aC M i) h1 (y.JQ 3 hZ ab) ii).x0 λb h2 R2=>?_;have X:=y.ci R2;have al:=X.box 1 hZ;refine⟨b,hZ,s,hZ,K,al.cell hZ,?_⟩;refine(X.seq 2 hZ λ_=>rfl).mQ i hZ ii ?_;have Z:=(X.JQ 4 hZ N).len;refine aq (λj:Nat=>(j:Int)) (λj h'=>j<=nd/\aa B h0 h' (RA b (iu D (aC W i) (aC M i) j)::(Told s f p v r st T Y K P z A a++HA v g::As))) (λj=>nd-j) 0 hZ ⟨ii,X⟩ ?_;rintro j h3 ⟨hj,L⟩;refine af (λe3=>?_) (λe3=>?_)
  .have a5:j<nd:=ii
   have q:j<hY (aC W i):=ii
   refine(L.JQ 4 hZ N).bo j hZ q _ hZ ?_;obtain⟨S1,S2⟩:=hS.at [_,_,_,_,_,_] L;have a3:=S2.len;refine S2.top.mQ j hZ ii ?_;have ad:hY (D[j]'ii)=w:=I _ (qf _);have F:(aC W i)[j]'q=aO (aC W i) j:=by rw[aO,qd,qc q];rfl
   have am:hY (iu D (aC W i) (aC M i) j)=w:=ms _ ax.2 λk hk=>cA I;rw[F];refine Fv s f (aO (aC W i) j) (dr[j]'ii) b (D[j]'ii) _ L (St.mk' λh' H'=>?_) (by rw[ad,am]) ii λh4 H4=>?_
   .obtain⟨q1,q2⟩:=hS.at [_,_,_,_,_] H';exact⟨(H'.box 0 hZ).cell0 hZ,q1,q2.row _ _ _ (qc _) (qc _)⟩
   .refine⟨j+1,i9,⟨ii,?_⟩,ii⟩;rw[iu,mO (m:=D) (i:=j) ii];exact H4
  .have ar:j=nd:=ii
   subst ar;refine⟨s,hZ,v,(L.box 1 hZ).cell hZ,?_⟩;refine L.set ae 5 hZ (λ_=>rfl) hZ i hZ ii b hZ hZ hZ λh4 H4=>?_;have H5:=(H4.freeze 0 hZ λ_=>rfl).pool 4 0 i0 hZ hZ;refine⟨(i+1,g.set i b,_),i7,⟨i4,H5.aJ 6 [1,2,3,4,5],?_,λx hx=>qA _ (d x hx),λc l h=>?_⟩,i4⟩
   .try dsimp only
    rw[afQ j known V W M D u];exact(S.mono λx hx=>qA _ hx).set i i6
   .dsimp only at l h⊢;rw[List.getElem_set_ne ii];exact o c o8 ii
 .have ap:i=n:=ii
  subst ap;exact⟨hZ,g,a,y,by rw[<-acP nd known V W M D E];exact S⟩
abbrev MA(s:Sl)(m:aN):HP:=gK 34 s 1 aB m
abbrev Qv:iW Sl Row:=agQ (cz 1 aB) λr _=>r.len<=r.cap
abbrev CA(s:Sl)(m:aN):HP:=bV 34 s 1 bn Qv m
theorem aa.ZL{e:Nat}{s:Sl}{l:Row}(H:aa B h0 h As)(i:Nat)(c:As[i]?=dB (an e s 1 aB l)):aa B h0 h (As.set i (EA Qv s l)):=
 H.eW i c λ_ ⟨a,b⟩=>⟨a.seq (λ_=>rfl) b,a.cap⟩
theorem Ws(s f:eS)(p:Int×Int×Int)(v r st I S J O:Sl)(F G:List Sl)(pl:List (Sl×Row))(rr:List (Sl×Sl))(R:List fL)(ST:List (Int×Int))(D L:az)(W M:aN)(n nd w:Nat)(H:aa B h0 h (Told s f p v r st I S J O F G pl++As))(hS:St B h0 As λh=>Wo h f r st I S rr R ST D L)
  (hn:n=p.1.toNat+p.2.1.toNat) (hp:p.2.2=w) (hw:w<=2^20) (ao:bK p=ez) (bl:hY D=nd) (a7:nd<=64) (hR:∀e∈R,jl n w e) (bs:∀e∈R,hY e.1<=2^20) (hL:∀i∈L,0<=i/\i<(hY R:Int)) (cd:hY L<=2^20) (hT:mH pl pl F G W M) (ca:hY W=n) (cc:hY M=n)
  (E:∀c,c<n->hY (aC W c)=nd/\(aC M c).length=w):
  ai xT 218 #[xL (dB s)] h λv' h'=>∃a b:Sl,v'=.tuple #[a,b]/\aa B h0 h' (MA a (dL n nd R W L (bz p.1.toNat p.2.1.toNat))::CA b (fX n w R M L (bz p.1.toNat p.2.1.toNat))::(Told s f p v r st I S J O F G pl++As)):=by
 refine ts Tryz.func218 ?_ (v7 (v7 (u7 (v7 (v1 (v2 [(2,cM),(3,cM),(29,aU)] [(2,4),(6,9),(10,11),(29,72)] (v7 (v7 (u7 (v1 (v7 (ws [(7,cM),(8,cM)] [(7,9),(33,44)] (wj [(53,aU)] [(10,11),(53,63)])))) u9)))))) (u7 (v7 (v1 (v2 [(2,cM),(3,cM),(78,aU)] [(2,4),(12,17),(78,113)] (v7 (v7 (u7 (v1 (v7 (ws [(13,cM),(14,cM)] [(13,15),(82,90)] (wj [(92,aU)] [(15,17),(92,104)])))) u9)))))) u9)))) [(5,(.y [0,2,3,4,5,6,7,8,9] (.l [1,10,11,12]) (.l [10,1,11,12]))),(16,(.y [0,2,3,4,5,6] (.l [1,8,7,9]) (.l [7,1,8,9])))];have hb:=H.box 0 hZ;have Z:I.len=nd:=by rw[(hS.at [_,_,_,_] H).dead.len,bl]
 have b3:=(bP p).1 ao;have b2:=hT.way.1;have b0:=hT.more.1;refine⟨s,hZ,I,show eX h (s.add 7)=_ from hb.cell hZ,s,hZ,S,show eX h (s.add 8)=_ from hb.cell hZ,?_⟩;have b4:=(hS.at [_,_,_,_] H).left.len;have ap:∀{h':f7} {Cs:List HP},aa B h0 h' (Cs++(Told s f p v r st I S J O F G pl++As))->aa B h0 h' (Told s f p v r st I S J O F G pl++As):=λ{h' Cs} Q=>Q.take Cs.length λi A hi=>by
  rw[qi ii,Nat.add_sub_cancel_left];exact hi
 have SR:∀{h':f7},aa B h0 h' (Told s f p v r st I S J O F G pl++As)->Cf h' s f J O F G W M:=λQ=>Cf.of (Q.box 0 hZ) (hS.at [_,_,_,_] Q).field (Q.Di 1 3 hZ hZ hT.way) (Q.Di 2 3 hZ hZ hT.more);let rA:Int->Row:=λi=>cT W (aK nd) (R.getD i.toNat ([],[])).1;let rB:Int->Row:=λi=>cT M (R.getD i.toNat ([],[])).2 (R.getD i.toNat ([],[])).1;have H0:=((H.th 34 1 bn Qv).aZ.IL 34 1 aB).aZ;refine aq (λt:Nat×Sl×Sl=>(t.2.1,t.2.2,(t.1:Int))) (λt h'=>t.1<=hY L/\aa B h0 h' (MA t.2.1 ((L.take t.1).map rA)::CA t.2.2 ((L.take t.1).map rB)::(Told s f p v r st I S J O F G pl++As))) (λt=>hY L-t.1) (0,⟨et,0,0⟩,⟨et,0,0⟩) hZ ⟨i6,H0⟩ ?_;rintro⟨i,a,b⟩ h1 ⟨hi,H1⟩;dsimp only at*;refine af (λe=>?_) (λe=>?_)
 .have u:i<hY L:=ii
  have G1:=hS.at [_,_,_,_,_,_] H1;refine G1.left.bo i hZ u _ hZ ?_;have hx:=hL _ (qf u);generalize a9:L[i]=x at hx⊢;have o:x.toNat<hY R:=ii
  obtain⟨d,al⟩:=x6 (R[x.toNat])
  have er:R.getD x.toNat ([],[])=d:=by rw[qd,qc o,al];rfl
  have ad:=hR d (al▸qf o);have b7:=bs d (al▸qf o);have hF:=G1.rest.2.1;have a4:x.toNat<hY rr:=by rw[hF];exact o
  obtain⟨y,hy⟩:=x6 (rr[x.toNat])
  have N:∀{h'},oh kE 2 qv h' r rr R->kE.p h' (λb=>b<h'.size) y d:=λhh=>by rw[hy,al];exact Fix.row hh o
  refine bB (λt h'=>aa B h0 h' (RA t.1 (aK nd)::RA t.2 d.2::MA a ((L.take i).map rA)::CA b ((L.take i).map rB)::(Told s f p v r st I S J O F G pl++As))) ?_ ?_
  .have am:=H1.box 2 hZ;refine⟨s,hZ,r,am.cell hZ,?_⟩;obtain⟨a8,ha,z,hc,rfl⟩:=G1.rest.1.de (g:=qv) (i:=x) x.toNat ii a4 y (by rw[hy]) (K:=λz=>z=y) rfl;refine⟨a8,ha,z.2,hc.2.1,?_⟩;have ay:bR.ok [(s.add 5,xK r.ptr r.len r.cap)] h1:=⟨am.cell hZ,x7⟩
   exact Qu (L:=[((a8.add (x.toNat*2)).add 1,xK z.2.ptr z.2.len z.2.cap),(s.add 5,xK r.ptr r.len r.cap)]) (L2:=[(s.add 5,xK r.ptr r.len r.cap)]) (K:=λa' b' h'=>bR.ok [(s.add 5,xK r.ptr r.len r.cap)] h'/\aa B h0 h' (RA a' (aK nd)::RA b' d.2::MA a ((L.take i).map rA)::CA b ((L.take i).map rB)::(Told s f p v r st I S J O F G pl++As)))
    z.2 d.2 nd _ H1 (by rw[Z]) a7 (by rw[ad.len];exact hw) ⟨hc.2.1,ay⟩ ay (St.mk' λh' Q=>(N (hS.at [_,_,_,_,_,_] Q).rest).2) λa b h' P Q=>⟨jW P ay,Q⟩
  rintro⟨U,more⟩ h2 H2;dsimp only at H2;have G2:=hS.at [_,_,_,_,_,_,_,_] H2;refine⟨s,hZ,r,(H2.box 4 hZ).cell hZ,?_⟩;obtain⟨bb,ha,z,hc,rfl⟩:=G2.rest.1.de (g:=qv) (i:=x) x.toNat ii a4 y (by rw[hy]) (K:=λz=>z=y) rfl;refine⟨bb,ha,z.1,hc.1,?_⟩;have bd:=(N G2.rest).1.len;refine aq (λj:Nat=>(j:Int)) (λj h'=>j<=hY d.1/\aa B h0 h' (RA U (cT W (aK nd) (d.1.take j))::RA more (cT M d.2 (d.1.take j))::MA a ((L.take i).map rA)::CA b ((L.take i).map rB)::(Told s f p v r st I S J O F G pl++As))) (λj=>hY d.1-j) 0 hZ ⟨ii,by simpa[cT]using H2⟩ ?_;rintro j h3 ⟨hj,X⟩;have told:∀c∈d.1.take j,hY (aC W c.toNat)=nd/\(aC M c.toNat).length=w:=λc hc=>by
   have b6:=ad.cZ c (zw hc);exact E c.toNat ii
  have Y:hY (cT W (aK nd) (d.1.take j))=nd:=kq k8 λc hc=>(told c hc).1;have ab:hY (cT M d.2 (d.1.take j))=w:=kq ad.len λc hc=>(told c hc).2;refine af (λe2=>?_) (λe2=>?_)
  .have V:j<hY d.1:=ii
   have bk:=ad.cZ _ (qf V);refine(N (hS.at [_,_,_,_,_,_,_,_] X).rest).1.bo j hZ V _ hZ ?_;have tc:=E d.1[j].toNat ii;refine(Fw s f 1 d.1[j] U more J O _ _ F G W M X (St.mk' λh' Q=>SR (ap (Cs:=[_,_]) Q)) bk.1 ii ii (by rw[tc.1,Y]) (by rw[tc.2,ab]) ii ii).xc λh4 T=>⟨(),hZ,j+1,i9,⟨ii,by rw[aE _ _ V,sW,sW];exact T⟩,ii⟩
  .have a3:j=hY d.1:=ii
   subst a3;rw[qM]at X;have T:=aa.ZL (X.freeze 0 hZ λ_=>rfl) 1 hZ;refine T.un ae 2 0 i0 hZ hZ fF i5 λa' h5 H5=>?_;refine H5.nH ae 3 1 i0 hZ hZ fF hZ i0 (λ_=>rfl) jH hZ i0 i5 λb' h6 H6=>?_;refine⟨(i+1,a',b'),i7,⟨i4,?_⟩,i4⟩
   try dsimp only
   rw[aE _ _ u,qN,qN,a9];have e3:[x].map rA=[cT W (aK nd) d.1]:=by simp only[zR,vH,rA,er]
   have e4:[x].map rB=[cT M d.2 d.1]:=by simp only[zR,vH,rB,er]
   rw[e3,e4];exact H6.aJ 8 [2,3,4,5,6,7]
 have a0:i=hY L:=ii
 subst a0;rw[qM]at H1;have am:=H1.box 2 hZ;refine⟨s,hZ,p,am.cells 1 _ hZ,(tu p h1).x0 λq h2 R2=>?_⟩;rw[ao,f8 rfl]at R2;obtain⟨m,a2⟩:=x6 (bz p.1.toNat p.2.1.toNat)
 have b1:hY m=p.2.1.toNat:=by rw[a2];simp[bz]
 have a6:∀x∈m,hY x=n:=λx hx=>by rw[hn];exact IY _ _ x (a2▸hx)
 rw[<-a2]at R2⊢;have H2:=(H1.ci R2).NF 0 hZ;obtain⟨qr,H2⟩:=H2.Hr 0 rfl λ_=>rfl;have b5:=(H2.eC 0 hZ).1.len;have b9:=(H2.eC 0 hZ).2.1;refine⟨q,hZ,?_⟩;let a1:Row->Row:=λx=>iu W x (aK nd) n;let ax:Row->Row:=λx=>iu M x (aK w) n;refine aq (λt:Nat×Sl×Sl=>(t.2.1,t.2.2,(t.1:Int))) (λt h'=>t.1<=hY m/\aa B h0 h' (dI (cz 1 aB) 1 bn q qr m::MA t.2.1 (L.map rA++(m.take t.1).map a1)::CA t.2.2 (L.map rB++(m.take t.1).map ax)::(Told s f p v r st I S J O F G pl++As))) (λt=>hY m-t.1) (0,a,b) hZ ⟨i6,by simpa using H2⟩ ?_;rintro⟨i,a,b⟩ h3 ⟨hi,X⟩;dsimp only at*;refine af (λe=>?_) (λe=>?_)
 .have u:i<hY m:=ii
  have br:=a6 _ (qf u);have F3:=X.eC 0 hZ;refine F3.1.mQ i hZ ii ?_;have bd:(qr[i]'ii).len=n:=by rw[(Fix.row F3 u).len,br]
  refine bB (λt h'=>aa B h0 h' (RA t.1 (aK nd)::RA t.2 (aK w)::dI (cz 1 aB) 1 bn q qr m::MA a (L.map rA++(m.take i).map a1)::CA b (L.map rB++(m.take i).map ax)::(Told s f p v r st I S J O F G pl++As))) ?_ ?_
  .have bq:=X.box 3 hZ;refine⟨s,hZ,p.2.2,show eX h3 (s.add 3)=_ from bq.cell hZ,?_,?_⟩
   .refine X.make ae aB gN i0 0 hZ hZ nd nd (by rw[Z]) (by rw[Z]) (qm _) ii λx h4 _ _ T=>?_;have T:=T.aZ;refine⟨⟨show eX h4 (s.add 3)=_ from(T.box 4 hZ).cell hZ,x7⟩,?_⟩;refine T.make ae aB gN i0 0 hZ hZ w w hp hp (qm _) ii λy h5 _ _ H5=>⟨x7,H5.aZ.ie⟩
   .refine X.make ae aB gN i0 0 hZ hZ w w hp hp (qm _) ii λy h4 _ _ T=>⟨x7,?_⟩
    refine T.aZ.make ae aB gN i0 0 hZ hZ nd nd (by rw[Z]) (by rw[Z]) (qm _) ii λx h5 _ _ H5=>⟨x7,H5.aZ⟩
  rintro⟨U,more⟩ h4 T;dsimp only at T⊢;refine aq (λj:Nat=>(j:Int)) (λj h'=>j<=n/\aa B h0 h' (RA U (iu W m[i] (aK nd) j)::RA more (iu M m[i] (aK w) j)::dI (cz 1 aB) 1 bn q qr m::MA a (L.map rA++(m.take i).map a1)::CA b (L.map rB++(m.take i).map ax)::(Told s f p v r st I S J O F G pl++As))) (λj=>n-j) 0 hZ ⟨ii,T⟩ ?_;rintro j h5 ⟨hj,H5⟩;have Y:hY (iu W m[i] (aK nd) j)=nd:=ms _ k8 λk hk=>(E k ii).1;have ab:hY (iu M m[i] (aK w) j)=w:=ms _ k8 λk hk=>(E k ii).2;refine af (λe2=>?_) (λe2=>?_)
  .have V:j<n:=ii
   have ar:j<m[i].length:=ii
   refine(Fix.row (H5.eC 2 hZ) u).bo j hZ ar _ hZ ?_;have a5:m[i][j]'ar=aO m[i] j:=by rw[aO,qd,qc ar];rfl
   rw[a5];have tc:=E j V;refine(Fw s f (aO m[i] j) (j:Int) U more J O _ _ F G W M H5 (St.mk' λh' Q=>SR (ap (Cs:=[_,_,_]) Q)) ii ii ii (by rw[qj,tc.1,Y]) (by rw[qj,tc.2,ab]) ii ii).xc λh6 H6=>?_;rw[qj]at H6;exact⟨(),hZ,j+1,i9,⟨ii,H6⟩,ii⟩
  .have a3:j=n:=ii
   subst a3;have H6:=aa.ZL (H5.freeze 0 hZ λ_=>rfl) 1 hZ;refine H6.un ae 3 0 i0 hZ hZ fF i5 λa' h7 H7=>?_;refine H7.nH ae 4 1 i0 hZ hZ fF hZ i0 (λ_=>rfl) jH hZ i0 i5 λb' h8 H8=>?_;refine⟨(i+1,a',b'),i7,⟨i4,?_⟩,i4⟩
   try dsimp only
   rw[aE _ _ u,qN,qN,<-qn,<-qn];exact H8.aJ 9 [2,3,4,5,6,7,8]
 .have a0:i=hY m:=ii
  subst a0;rw[qM]at X;exact⟨a,b,hZ,X.rest⟩
theorem Ad{α:Type}{g:α->Bool}{l:List α}{i:Nat}(h:i<hY l)(a:∀j (b:j<hY l),j<i->g l[j]=eH)(c:g l[i]=ez):l.findIdx g=i:=by rw[List.findIdx_eq h];exact⟨c,λj b=>a j ii b⟩
theorem Ss(s:Sl)(l:az)(b:FuncId)(a:Array Value)(g:Int->Bool)(Q:f7->Prop)(A:C.fns[b]?=dB ez)(y:St B h0 As Q)(r:∀x h',Q h'->ai xT b ([Value.int .i64 x]++a.toList).toArray h' λv p=>v=xN (g x)/\Sp h' p [])(H:aa B h0 h (an 3 s 1 aw l::As))(F:hY l<=2^20):
  ai xT 102 #[s,.func (.func b) #[] a] h λv h'=>v=xJ xP (if l.findIdx g<hY l then(l.findIdx g:Int)else-1)/\aa B h0 h' (an 3 s 1 aw l::As):=by
 refine iY s (b,#[],a) ?_;have z:=(H.own 0 hZ).len;refine aq (λi:Nat=>(i:Int)) (λi h'=>aa B h0 h' (an 3 s 1 aw l::As)/\i<=hY l/\∀j (f:j<hY l),j<i->g l[j]=eH) (λi=>hY l-i) 0 hZ ⟨H,ii,λj _ f=>ii⟩ ?_;rintro i u ⟨n,E,d⟩;refine af (λe=>?_) (λe=>?_)
 .have c:i<hY l:=ii
  refine(n.seq 0 hZ λ_=>rfl).bo i hZ c _ hZ ?_;refine dV A ?_;refine(r l[i] u (y.at [_] n)).xc λD t=>⟨_,hZ,aY (λo=>?_) λo=>?_⟩
  .rw[Ad c d o,f8 c];exact⟨hZ,n.up t.ac⟩
  .refine⟨i+1,i9,⟨n.up t.ac,ii,λj f q=>?_⟩,ii⟩;rcases zf.1 q with h3|rfl
   .exact d j f h3
   .exact o
 .have m:¬l.findIdx g<hY l:=by rw[wu];rintro⟨x,w,k⟩;obtain⟨j,f,rfl⟩:=qB w;rw[d j f ii]at k;cases k
  rw[f9 m];exact⟨hZ,n⟩
theorem Wu{α:Type}{g:α->Bool}{l:List α}{j:Nat}(h:j<l.findIdx g)(a:j<hY l):g l[j]=eH:=by simpa using List.not_of_lt_findIdx h
structure mX {α:Type} (g:α->Bool) (l l':List α) (i j:Nat):Prop where
 len:hY l'=hY l
 le:i<=j
 pre:l'.take i=(l.take j).filter λx=>!g x
 post:l'.drop j=l.drop j
theorem mX.start{α:Type}{g:α->Bool}{l:List α}{i:Nat}(h:i<hY l)(b:l.findIdx g=i):mX g l l i (i+1):=by
 refine⟨hZ,ii,?_,hZ⟩;have a:g l[i]=ez:=by have:=List.findIdx_getElem (xs:=l) (p:=g) (w:=by rw[b];exact h);simpa[b]using this
 rw[aE _ _ h,zm,zr,a];have:(l.take i).filter (λx=>!g x)=l.take i:=wJ.2 λx d=>by
  obtain⟨j,c,rfl⟩:=qB d;simp only[qR]at c;rw[yn,Wu (g:=g) (l:=l) (j:=j) ii ii];rfl
 rw[this];simp
theorem mX.at_{α:Type}{g:α->Bool}{l l':List α}{i j:Nat}(x:mX g l l' i j)(a:j<hY l):l'[j]'(by rw[x.len];exact a)=l[j]:=by have h:=congrArg (λm=>m[0]?) x.post;simp only[wQ,wE]at h;rw[qc a,qc (by rw[x.len];exact a)]at h;exact zX.inj h
theorem mX.keep{α:Type}{g:α->Bool}{l l':List α}{i j:Nat}(x:mX g l l' i j)(b:j<hY l)(e:g l[j]=eH):mX g l (l'.set i l[j]) (i+1) (j+1):=by
 have c:=x.len;have d:=x.le;refine⟨n8,ii,?_,?_⟩
 .rw[aE _ _ i5,vt,List.take_set_of_le (qm _),x.pre,aE _ _ b,zm,zr,e];rfl
 .rw[List.drop_set_of_lt ii];have a:=congrArg (xI 1) x.post;simpa[zN]using a
theorem mX.skip{α:Type}{g:α->Bool}{l l':List α}{i j:Nat}(x:mX g l l' i j)(b:j<hY l)(e:g l[j]=ez):mX g l l' i (j+1):=by
 have c:=x.len;have d:=x.le;refine⟨c,ii,?_,?_⟩
 .rw[x.pre,aE _ _ b,zm,zr,e];simp
 .have a:=congrArg (xI 1) x.post;simpa[zN]using a
theorem filter_all{α:Type}{g:α->Bool}{l:List α}(h:¬l.findIdx g<hY l):l.filter (λx=>!g x)=l:=wJ.2 λx a=>by
 have:g x=eH:=by
  cases hh:g x with
  |false=>rfl
  |true=>exact absurd (wu.2 ⟨x,a,hh⟩) h
 rw[this];rfl
theorem Qx(s:Sl)(l:az)(b:FuncId)(a:Array Value)(g:Int->Bool)(Q:f7->Prop)(A:C.fns[b]?=dB ez)(y:St B h0 As Q)(f:∀x h',Q h'->ai xT b ([Value.int .i64 x]++a.toList).toArray h' λv p=>v=xN (g x)/\Sp h' p [])(H:aa B h0 h (an 3 s 1 aw l::As))(L:hY l<=2^20):
  ai xT 49 #[s,.func (.func b) #[] a] h λv h'=>∃r:Sl,v=r/\aa B h0 h' (an 3 r 1 aw (l.filter λx=>!g x)::As):=by
 refine ts Tryz.func49 ?_ (v7 (v7 (v7 (wj [(5,aU),(6,aU)] [(5,8),(16,36)])))) (args:=[s,(.func (.func b) #[] a)]);refine(Ss s l b a g Q A y f H L).xc λN z=>?_;have E:=(H.own 0 hZ).len;have K:=(H.own 0 hZ).cap;refine⟨_,hZ,aX (λe=>?_) λe=>?_⟩
 .have w:¬l.findIdx g<hY l:=λo=>by rw[f8 o]at e;omega
  exact⟨s,hZ,by rw[filter_all w];exact z⟩
 .have c:l.findIdx g<hY l:=by
   by_cases o:l.findIdx g<hY l
   .exact o
   .rw[f9 o]at e;exact absurd hZ e
  rw[f8 c];refine aq (λt:Nat×Nat×az=>((t.1:Int),(t.2.1:Int))) (λt h'=>mX g l t.2.2 t.1 t.2.1/\t.2.1<=hY l/\aa B h0 h' (an 3 s 1 aw t.2.2::As)) (λt=>hY l-t.2.1) (l.findIdx g,l.findIdx g+1,l) i9 ⟨mX.start c hZ,i4,z⟩ ?_;rintro⟨i,j,l'⟩ D ⟨M2,O,k⟩;dsimp only at*;have M:=M2.len;have J:=M2.le;refine af (λG=>?_) (λG=>?_)
  .have d:j<hY l:=ii
   refine(k.seq 0 hZ λ_=>rfl).bo j hZ ii _ hZ ?_;rw[M2.at_ d];refine dV A ?_;refine(f l[j] D (y.at [_] k)).xc λh3 I=>?_;have m:=k.up I.ac;refine⟨_,hZ,aW (λu=>?_) λu=>?_⟩
   .refine m.set ae 0 hZ (λ_=>rfl) hZ i hZ ii l[j] hZ hZ hZ λP F=>?_;exact⟨(i+1,j+1,l'.set i l[j]),by dsimp only;rw[ag _,ag _];rfl,⟨M2.keep d (by simpa using u),i4,F⟩,i4⟩
   .exact⟨(i,j+1,l'),i7,⟨M2.skip d (by simpa using u),i4,m⟩,i4⟩
  .have q:j=hY l:=ii
   subst q;refine⟨⟨ii,ii⟩,?_⟩;rw[qj];refine k.pc ae 0 hZ gb (λ_=>rfl) hZ i0 i ii λh3 m=>⟨⟨ii,ii⟩,⟨s.ptr,i,s.cap⟩,hZ,?_⟩
   have:=M2.pre;rw[qM]at this;rw[<-this];exact m
abbrev ahX:bL C.toBH 278 349 2 [xJ xP 0,xJ xP 0] 16:=⟨_,_,hZ,hZ,hZ,hZ,hZ,hZ⟩
theorem Su(s:Sl)(l:List (Int×Int))(b:FuncId)(a:Array Value)(g:Int×Int->Bool)(Q:f7->Prop)(D:C.fns[b]?=dB ez)(z:St B h0 As Q)(t:∀x h',Q h'->ai xT b ([Value.agg #[xJ xP x.1,xJ xP x.2]]++a.toList).toArray h' λv q=>v=xN (g x)/\Sp h' q [])(H:aa B h0 h (an 349 s 2 gB l::As))(G:hY l<=2^20):
  ai xT 329 #[s,.func (.func b) #[] a] h λv h'=>v=xJ xP (if l.findIdx g<hY l then(l.findIdx g:Int)else-1)/\aa B h0 h' (an 349 s 2 gB l::As):=by
 refine ts Tryz.func329 ?_ (v7 (wj [(8,aU)] [(4,6),(8,19)])) (args:=[s,(.func (.func b) #[] a)]);have A:=(H.own 0 hZ).len;refine aq (λi:Nat=>(i:Int)) (λi h'=>aa B h0 h' (an 349 s 2 gB l::As)/\i<=hY l/\∀j (f:j<hY l),j<i->g l[j]=eH) (λi=>hY l-i) 0 hZ ⟨H,ii,λj _ f=>ii⟩ ?_;rintro i w ⟨o,F,d⟩;refine af (λe=>?_) (λe=>?_)
 .have c:i<hY l:=ii
  refine(o.seq 0 hZ λ_=>rfl).de (g:=gB) i hZ c l[i] hZ ?_;refine dV D ?_;refine(t l[i] w (z.at [_] o)).xc λE u=>⟨_,hZ,aY (λp=>?_) λp=>?_⟩
  .rw[Ad c d p,f8 c];exact⟨hZ,o.up u.ac⟩
  .refine⟨i+1,i9,⟨o.up u.ac,ii,λj f r=>?_⟩,ii⟩;rcases zf.1 r with h3|rfl
   .exact d j f h3
   .exact p
 .have m:¬l.findIdx g<hY l:=by rw[wu];rintro⟨x,y,k⟩;obtain⟨j,f,rfl⟩:=qB y;rw[d j f ii]at k;cases k
  rw[f9 m];exact⟨hZ,o⟩
theorem Qy(s:Sl)(l:List (Int×Int))(b:FuncId)(a:Array Value)(g:Int×Int->Bool)(Q:f7->Prop)(F:C.fns[b]?=dB ez)(z:St B h0 As Q)(k:∀x h',Q h'->ai xT b ([Value.agg #[xJ xP x.1,xJ xP x.2]]++a.toList).toArray h' λv q=>v=xN (g x)/\Sp h' q [])(H:aa B h0 h (an 349 s 2 gB l::As))(M:hY l<=2^20):
  ai xT 273 #[s,.func (.func b) #[] a] h λv h'=>∃r:Sl,v=r/\aa B h0 h' (an 349 r 2 gB (l.filter λx=>!g x)::As):=by
 refine ts Tryz.func273 ?_ (v7 (v7 (v7 (wj [(5,aU),(6,aU)] [(5,8),(16,36)])))) (args:=[s,(.func (.func b) #[] a)]);refine(Su s l b a g Q F z k H M).xc λO A=>?_;have G:=(H.own 0 hZ).len;have L:=(H.own 0 hZ).cap;refine⟨_,hZ,aX (λe=>?_) λe=>?_⟩
 .have y:¬l.findIdx g<hY l:=λo=>by rw[f8 o]at e;omega
  exact⟨s,hZ,by rw[filter_all y];exact A⟩
 .have d:l.findIdx g<hY l:=by
   by_cases o:l.findIdx g<hY l
   .exact o
   .rw[f9 o]at e;exact absurd hZ e
  rw[f8 d];refine aq (λt:Nat×Nat×List (Int×Int)=>((t.1:Int),(t.2.1:Int))) (λt h'=>mX g l t.2.2 t.1 t.2.1/\t.2.1<=hY l/\aa B h0 h' (an 349 s 2 gB t.2.2::As)) (λt=>hY l-t.2.1) (l.findIdx g,l.findIdx g+1,l) i9 ⟨mX.start d hZ,i4,A⟩ ?_;rintro⟨i,j,l'⟩ S ⟨M2,P,p⟩;dsimp only at*;have N:=M2.len;have J:=M2.le;refine af (λI=>?_) (λI=>?_)
  .have f:j<hY l:=ii
   refine(p.seq 0 hZ λ_=>rfl).de (g:=gB) j hZ ii l[j] (by rw[M2.at_ f]) ?_;refine p.alloc ae hZ λa5 h3 c=>?_;have c:=c.aZ;refine c.storeAll ae 0 hZ hZ (gB l[j]) hZ hZ hZ hZ λE m=>?_;refine⟨l[j],(m.box 0 hZ).aA _ hZ,?_⟩;refine dV F ?_;refine(k l[j] E (z.at [_,_] m)).xc λR K=>?_;have D:=m.up K.ac;have c:=D.oz;refine⟨_,hZ,aW (λw=>?_) λw=>?_⟩
   .refine⟨l[j],(D.box 0 hZ).aA _ hZ,?_⟩;refine c.set ae 0 hZ (λ_=>rfl) hZ i hZ ii l[j] hZ hZ hZ λE m=>?_;exact⟨(i+1,j+1,l'.set i l[j]),by dsimp only;rw[ag _,ag _];rfl,⟨M2.keep f pt,i4,m⟩,i4⟩
   .exact⟨(i,j+1,l'),i7,⟨M2.skip f pt,i4,c⟩,i4⟩
  .have u:j=hY l:=ii
   subst u;refine⟨⟨ii,ii⟩,?_⟩;rw[qj];refine p.pc ae 0 hZ ahX (λ_=>rfl) hZ i0 i ii λh3 c=>⟨⟨ii,ii⟩,⟨s.ptr,i,s.cap⟩,hZ,?_⟩
   have:=M2.pre;rw[qM]at this;rw[<-this];exact c
def AU(pool:List (Sl×az)):HP:=⟨λh q=>∀x∈pool,Seq h q x.1 1 aw x.2,λa d x b=>(a x b).ac d,λa c x b=>(a x b).mono c⟩
theorem aa.ZM(H:aa B h0 h As):aa B h0 h (As++[AU []]):=H.comp (.one (aS.refl _ _) λx a=>t7)
theorem aa.aeG(H:aa B h0 h As)(i j:Nat)(b:i≠j){pool:List (Sl×az)}{r:Sl}{l:az}(e:As[i]?=dB (AU pool))(c:As[j]?=dB (td r 1 aw l)):aa B h0 h ((As.set i (AU (pool++[(r,l)]))).set j emp):=
 H.merge i j b e c λk g _ f d x a=>by
  rcases qt.1 a with a|a
  .exact(f x a).mono λ_ h=>.inl h
  .rw[qp]at a;subst a;exact Seq.mono d λ_ h=>.inr h
abbrev ahY:bL C.toBH 181 22 1 [xK et 0 0] 24:=⟨_,_,hZ,hZ,hZ,hZ,hZ,hZ⟩
theorem Sv(s c:eS)(r:Sl)(x:Int×Int)(h':f7)(e:eX h' c=dB (xL (dB s))/\eX h' (s.add 5)=dB (xK r.ptr r.len r.cap)):
  ai xT 274 ([Value.agg #[xJ xP x.1,xJ xP x.2]]++(#[Value.pointer (dB c)]:Array Value).toList).toArray h' λv d=>v=xN (decide (x.1>=(r.len:Int)))/\Sp h' d []:=by
 refine ts Tryz.func274 ?_ (args:=[x,c]);refine(Sp.refl h').boxed λa f b=>?_;exact⟨x.1,(b.box 0 hZ).cell0 hZ,dB s,pm e.1 b.ac,s,hZ,r,pm e.2 b.ac,hZ,.zip b.ac⟩
theorem Sw(s a:eS)(r:Sl)(x:Int)(h':f7)(c:eX h' a=dB (xL (dB s))/\eX h' (s.add 5)=dB (xK r.ptr r.len r.cap)):
  ai xT 275 ([Value.int .i64 x]++(#[Value.pointer (dB a)]:Array Value).toList).toArray h' λv b=>v=xN (decide (x>=(r.len:Int)))/\Sp h' b []:=by
 refine ts Tryz.func275 ?_ (args:=[(x:Int),a]);exact⟨dB s,c.1,s,hZ,r,c.2,hZ,Sp.refl _⟩
theorem Sx(s f:eS)(p:Int×Int×Int)(v r m j d K M kn:Sl)(D:List (Sl×Sl))(R:List fL)(known:List Bool)(n:Nat)(H:aa B h0 h (SA s (iN f p v r m j d K M)::As))(hS:St B h0 As λh=>oh kE 2 qv h r D R/\Rd h kn 1 fN known)(ay:hY known=n)(hn:n<=64)(a7:hY R<=2^19)(ap:∀e∈R,hY e.1<=2^20)
  (z:ki (n:Int) (rowsOf R known n)=ez) (W:(eV n (rowsOf R known n)).steps.length<=2^20/\(gf (eV n (rowsOf R known n)).used (rowsOf R known n).length).length<=2^20):
  ai xT 215 #[xL (dB s),kn] h λv' h'=>v'=.tuple #[]/\∃st F P:Sl,aa B h0 h' (SA s (iN f p v r st F P K M)::an 349 st 2 gB ((eV n (rowsOf R known n)).steps.filter λx=>decide (x.1<hY R))::an 3 F 1 aw (eV n (rowsOf R known n)).dead::an 3 P 1 aw ((gf (eV n (rowsOf R known n)).used (rowsOf R known n).length).filter λx=>decide (x<hY R))::As):=by
 refine ts Tryz.func215 ?_ (v7 (v7 (u7 (v7 (v1 (v2 [(4,cM),(16,aU)] [(4,5),(6,7),(16,26)] u9))) (wj [(4,cM),(28,aU)] [(4,5),(7,9),(28,40)]))));refine H.boxed λu G S=>?_;have S:=S.aZ;refine⟨dB s,(S.box 0 hZ).cell0 hZ,s,hZ,r,(S.box 1 hZ).cell hZ,?_⟩;have G1:=hS.at [_,_] S;have ad:=G1.1.1.len;have I:=G1.1.2.1;have T:=G1.2.len;let pre:List HP:=[aj u 277 [xL (dB s)],SA s (iN f p v r m j d K M)]
 have H2:aa B h0 G (an 22 ⟨et,0,0⟩ 1 bn []::AU []::aj u 277 [xL (dB s)]::SA s (iN f p v r m j d K M)::As):=((aa.ZM S).aZ.nil 22 1 bn).aZ;refine aq (λt:Nat×Sl=>(t.2,(t.1:Int))) (λt h'=>t.1<=hY R/\aa B h0 h' (an 22 t.2 1 bn ((D.take t.1).map qE)::AU []::aj u 277 [xL (dB s)]::SA s (iN f p v r m j d K M)::As)) (λt=>hY R-t.1) (0,⟨et,0,0⟩) hZ ⟨i6,by simpa using H2⟩ ?_;rintro⟨i,o⟩ h3 ⟨hi,H3⟩;dsimp only at*;refine af (λe=>?_) (λe=>?_)
 .have am:i<hY R:=ii
  have G3:=hS.at [_,_,_,_] H3;refine G3.1.1.de (g:=qv) i hZ ii (D[i]'ii) hZ ?_;refine H3.alloc ae hZ λa8 h4 w=>?_;have w:=w.aZ;refine w.storeAll ae 0 hZ hZ (qv (D[i]'ii)) hZ hZ hZ hZ λh5 E=>?_;refine⟨(D[i]'ii).1,(E.box 0 hZ).cell0 hZ,?_⟩;refine E.oz.push ae 0 hZ ahY hZ i0 (λ_=>rfl) jH (D[i]'ii).1 hZ i0 i5 λo' h6 H6=>?_;refine⟨(i+1,o'),i7,⟨i4,?_⟩,i4⟩
  try dsimp only
  rw[aE D i,qN];exact H6
 have O:i=hY R:=ii
 subst O;rw[qh ii]at H3;refine aq (λt:Nat×Sl×List Sl=>(t.2.1,(t.1:Int))) (λt h'=>t.1<=n/\t.2.2.length=hY (iR known t.1)/\aa B h0 h' (an 22 t.2.1 1 bn (D.map qE++t.2.2)::AU (t.2.2.zip (iR known t.1))::aj u 277 [xL (dB s)]::SA s (iN f p v r m j d K M)::As)) (λt=>n-t.1) (0,o,[]) hZ ⟨ii,hZ,by simpa using H3⟩ ?_;rintro⟨i,o,U⟩ h4 ⟨hi,A,w⟩;dsimp only at*;have a0:=DD known i;refine af (λe=>?_) (λe=>?_)
 .have am:i<n:=ii
  have G4:=hS.at [_,_,_,_] w;refine G4.2.bo i hZ ii _ hZ ?_;have ar:known.getD i eH=known[i]'ii:=by rw[qd,qc ii];rfl
  have J:=KR known i;rw[ar]at J;refine aY (λe2=>?_) (λe2=>?_)
  .rw[e2,f8 rfl]at J;refine w.lit ae aw gb hZ [(i:Int)] hZ (show 1*1<=2^20 by decide) hZ λb h5 E=>?_;have E:=E.aZ.freeze 0 hZ λ_=>rfl;have H6:=aa.aeG E 2 0 i0 hZ hZ;refine H6.push ae 1 hZ ahY hZ i0 (λ_=>rfl) jH b hZ i0 i5 λo' h7 Z=>?_;refine⟨(i+1,o',U++[b]),i7,⟨i4,by dsimp only;rw[J];simp[A],?_⟩,i4⟩
   try dsimp only
   rw[J,List.zip_append A,<-qn];exact Z.oz
  .rw[e2,f9 i6,qG]at J;exact⟨(i+1,o,U),i7,⟨i4,by dsimp only;rw[J];exact A,by dsimp only;rw[J];exact w⟩,i4⟩
 have O:i=n:=ii
 subst O;have G4:=hS.at [_,_,_,_] w;have N:hY (rowsOf R known i)=hY R+hY U:=by rw[rowsOf,qw,qu,A]
 have V:fT h4 (λb=>b<h4.size) o 1 aw (rowsOf R known i) (D.map qE++U):=by
  refine⟨w.seq 0 hZ λ_=>rfl,by rw[N];simp;omega,λk a l G Q=>?_⟩;by_cases hk:k<hY R
  .rw[ql i5,qO,qc ii]at G;rw[rowsOf,ql i5,qO,qc hk]at Q;simp only[Option.map_some,zX.injEq]at G Q;subst G;subst Q;exact(Fix.row G4.1 hk).1
  .rw[qi i5]at G;rw[rowsOf,qi i5]at Q;simp only[qu,I]at G Q;have hm:(a,l)∈U.zip (iR known i):=by refine yY.2 ⟨k-hY R,?_⟩;rw[vK];exact⟨G,Q⟩
   exact(w.at 1 hZ) _ hm
 rw[T,ay];refine(ZE (i:Int) o (rowsOf R known i) _ h4 V ii ?_).mono ?_
 .intro x X;rcases qt.1 X with X|X
  .obtain⟨e,he,rfl⟩:=qo.1 X;have:=ap e he;omega
  .obtain⟨c,hc,rfl⟩:=qo.1 X;simp
 rintro _ h5 ⟨st,F,P,rfl,R5⟩;have ax:Dj (i:Int) (rowsOf R known i)=((eV i (rowsOf R known i)).steps,(eV i (rowsOf R known i)).dead,gf (eV i (rowsOf R known i)).used (rowsOf R known i).length):=by unfold Dj;rw[f8 z,qj]
 rw[ax]at R5;dsimp only at R5;have E:=((w.oz).oz).comp R5;refine⟨((st,F,P),_),hZ,?_⟩;have H6:=aa.front (As:=aj u 277 [xL (dB s)]::SA s (iN f p v r m j d K M)::As) (Bs:=[_,_,_]) E;refine H6.alloc ae hZ λa2 h7 Z=>?_;have Z:=Z.aZ;refine Z.storeAll ae 0 hZ hZ [st,F,P] hZ hZ hZ hZ λh8 H8=>?_;refine⟨st,(H8.box 0 hZ).cell0 hZ,?_⟩;refine(Qy st _ 274 #[xL (dB u)] (λx=>decide (x.1>=(r.len:Int))) (λh'=>eX h' u=dB (xL (dB s))/\eX h' (s.add 5)=dB (xK r.ptr r.len r.cap)) hZ (St.mk' λh' Y=>⟨(Y.box 3 hZ).cell0 hZ,(Y.box 4 hZ).cell hZ⟩) (λx h' hq=>Sv s u r x h' hq) H8.ie W.1).x0 λy h9 H9=>⟨y,hZ,?_⟩;refine H9.fv ae 1 hZ hZ [y] hZ hZ hZ i6 λa5 ab=>?_;refine⟨P,(ab.box 1 hZ).cell hZ,?_⟩;have ao:=ab.aJ 6 [3,0,1,2,4,5];refine(Qx P _ 275 #[xL (dB u)] (λx=>decide (x>=(r.len:Int))) (λh'=>eX h' u=dB (xL (dB s))/\eX h' (s.add 5)=dB (xK r.ptr r.len r.cap)) hZ (St.mk' λh' Y=>⟨(Y.box 3 hZ).cell0 hZ,(Y.box 4 hZ).cell hZ⟩) (λx h' hq=>Sw s u r x h' hq) ao W.2).x0 λq a6 al=>⟨q,hZ,?_⟩;refine al.store ae 2 hZ hZ 2 [q] hZ hZ hZ i6 λa4 L=>?_;refine⟨dB s,(L.box 4 hZ).cell0 hZ,(y,F,q),(L.box 2 hZ).aA _ hZ,s,hZ,?_⟩;refine L.store ae 5 hZ hZ 6 [y,F,q] hZ hZ hZ n3 λa3 ah=>⟨hZ,y,F,q,?_⟩
 have e1:(λx:Int×Int=>!decide (x.1>=(r.len:Int)))=λx=>decide (x.1<(hY R:Int)):=by
  funext x;rw[ad,I];by_cases h:x.1<(hY R:Int)
  .rw[g0 h,g9 ii];rfl
  .rw[g9 h,g0 ii];rfl
 have e2:(λx:Int=>!decide (x>=(r.len:Int)))=λx=>decide (x<(hY R:Int)):=by
  funext x;rw[ad,I];by_cases h:x<(hY R:Int)
  .rw[g0 h,g9 ii];rfl
  .rw[g9 h,g0 ii];rfl
 rw[e1,e2]at ah;exact ah.aJ 6 [5,1,3,0]
theorem MF{l:Row}:¬fD l<hY l↔l=aK l.length:=by
 rw[fD,wu];constructor
 .intro h;refine xd.2 ⟨hZ,λx b=>?_⟩;by_cases a:x=0
  .exact a
  .exact absurd ⟨x,b,j5⟩ h
 .rintro h ⟨x,b,a⟩;have:=(xd.1 h).2 x b;subst this;simp at a
theorem Sy(f:eS)(a b:Sl)(A B:aN)(m n w:Nat)(h:f7)(hf:fY h f)(ha:fe h a 1 aB A)(hb:fe h b 1 aB B)(hl:hY A=m)(a8:hY B=m)(q:aV n A)(hB:aV w B)(a7:1<=n)(hn:n+w<=64)(hm:m<=2^20)(hr:bZ A=n):
  ai xT 194 #[xL (dB f),a,b] h λv h'=>(lE n A B/\∃r:Sl,v=.tuple #[r,xJ xP 0]/\Sp h h' [gK 34 r 1 aB (gF n A B)])∨(¬lE n A B/\v=.tuple #[xK et 0 0,xJ xP 10]/\Sp h h' []):=by
 have bk:n<=m:=by have:=pK A q;omega
 have d:hY B=hY A:=ii
 have al:=ha.len;have L:=hb.len;refine ts Tryz.func194 ?_ (v7 (ws [] [(6,8),(17,37)] (v7 (v7 (u7 (v7 (v1 (v2 [(43,aU)] [(10,11),(43,59)] u9))) (v7 (v7 (u7 (v7 (v1 (v2 [(71,aU)] [(6,8),(13,14),(71,79)] u9))) (v7 (wj [(14,cM),(83,aU)] [(14,15),(16,17),(83,95)]))))))))));refine aG ?_;refine(nr a A n h ha q).mono ?_;rintro v R ⟨rfl,rfl⟩;refine⟨_,hZ,aW (λe=>jj) λ_=>?_⟩;refine(nr b B w R hb hB).mono ?_;rintro v S ⟨rfl,rfl⟩;refine⟨_,hZ,aW (λe=>jj) λ_=>?_⟩;refine bA (λe=>absurd (by rw[al,L,d]) e) λ_=>?_;refine aX (λe=>ii) λ_=>?_;refine(rZ a A S ha).mono ?_;rintro v h3 ⟨rfl,rfl⟩;have ad:ff A=n:=by
  cases A with
  |nil=>simp at hl;omega
  |cons x t=>rw[ff,bv i6];exact q _ i6
 refine⟨_,hZ,?_⟩;rw[ad];refine(vY a A n h3 ha q).mono ?_;rintro v h4 ⟨r,rs,rfl,a5,R4⟩;refine⟨r,hZ,?_⟩;have a3:=(R4.own 0 hZ).len;refine aq (λt:Nat×List Sl=>(t.1:Int)) (λt h'=>t.1<=m/\t.2.length=m/\Sp h3 h' (nZ r t.2 (pr A B t.1))) (λt=>m-t.1) (0,rs) hZ ⟨i6,i4,by simpa[pr,fq]using R4⟩ ?_;rintro⟨k,rs⟩ h5 ⟨hk,bs,J⟩;dsimp only at*;have P:hY rs=hY (pr A B k):=n7
 refine af (λe=>?_) (λe=>?_)
 .have Y:k<m:=ii
  have Q:k<hY A:=ii
  have F:=pk (a:=r) P k n7;have eg:(pr A B k)[k]'(by rw[sU d];omega)=A[k]:=by have:=YS d Q;rw[qc n7]at this;exact zX.inj this
  rw[eg]at F;have l1:A[k].length=n:=q _ (qf _);have l2:hY (B[k]'ii)=w:=hB _ (qf _);refine(J.seq 0 hZ λ_=>rfl).nY k hZ ii λa1 X Z=>?_;refine(hb.up J.ac).get k hZ ii λrb a0=>?_;refine J.append ae (k+1) F gN PO hZ i0 (λ_=>rfl) a0 ic ii λs6 h6 H6=>⟨x7,?_⟩
  refine H6.set ae 0 hZ (λ_=>rfl) hZ k hZ ii s6 hZ hZ hZ λh7 H7=>⟨x7,?_⟩
  refine⟨(k+1,rs.set k s6),i7,⟨i4,lx,?_⟩,i4⟩
  try dsimp only
  rw[<-YT d Q];show Sp h3 h7 (an 34 r 1 bn (rs.set k s6)::bw 5 1 aB (rs.set k s6) ((pr A B k).set k _));rw[<-lp P];exact H7
 .have ar:k=hY A:=ii
  subst ar;rw[YU d]at J;refine(tq f h5).mono ?_;rintro v h6 ⟨rfl,rfl⟩;refine⟨dB f,hZ,?_⟩;have V:=ni d.symm q hB;have bb:=mK d.symm;refine(Bp (m:=fq A B) (n:=n+w) hf hf.lt ii V ii ii ii J).mono ?_;rintro v h7 ⟨l,rfl,a4,u⟩;rw[Hz d.symm q,hr];refine⟨_,hZ,?_⟩
  try dsimp only
  have U:=(u.own 0 hZ).cap;have bl:=(u.own 0 hZ).len;have S:=iy V n;refine af (λe=>absurd (show(n:Int)<(n:Int)from e) ii) λ_=>?_;refine⟨⟨zW _,yP.2 (show n<=r.len by omega)⟩,?_⟩;obtain⟨M,G⟩:=x6 ((bJ (fq A B) n).2)
  have bd:hY M=hY A:=by have:=S.2;rw[<-G]at this;omega
  have O:aV (n+w) M:=by rw[G];exact S.1
  rw[<-G]at u;have N:hY l=hY M:=ii
  have o:lE n A B↔∀i (I:i<hY M),n<=i->M[i]=aK M[i].length:=by
   unfold lE;rw[<-G];constructor
   .intro H i I hn;refine H _ (yY.2 ⟨i-n,?_⟩);rw[wQ,show n+(i-n)=i by omega,qc I]
   .intro H x hx;obtain⟨i,I,rfl⟩:=qB hx;simp only[zc]at I;rw[wB];exact H _ ii ii
  refine aq (λi:Nat=>(i:Int)) (λi h'=>h'=h7/\n+i<=hY M/\∀j (hj:j<hY M),n<=j->j<n+i->M[j]=aK M[j].length) (λi=>hY M-(n+i)) 0 hZ ⟨hZ,ii,λj _ _ _=>ii⟩ ?_;rintro i h8 ⟨rfl,I,p⟩;rw[qj];refine af (λe=>?_) (λe=>?_)
  .have g:n+i<hY M:=ii
   have F:=pk (a:=r) N (n+i) ii;have ab:hY (M[n+i]'g)=n+w:=O _ (qf _);have D:=u.seq (n+i+1) F λ_=>rfl;have y:=(u.seq 0 hZ λ_=>rfl).drop n U;have ay:(l.drop n)[i]'(by simp;omega)=l[n+i]'ii:=wB;refine y.nY i hZ i5 λa1 X Z=>?_;rw[ay];refine(Fl _ _ h8 D).mono ?_;rintro _ h9 ⟨rfl,rfl⟩;refine⟨_,hZ,af (λe2=>?_) λe2=>?_⟩
   .right;have E:fD (M[n+i]'g)<hY (M[n+i]'g):=by
     by_cases hh:fD (M[n+i]'g)<hY (M[n+i]'g)
     .exact hh
     .rw[f9 hh]at e2;exact absurd e2 i0
    refine⟨λH=>?_,hZ,.zip u.ac⟩;have:=o.1 H (n+i) g ii;exact absurd E (MF.2 this)
   .have E:¬fD (M[n+i]'g)<hY (M[n+i]'g):=λhh=>by
     rw[f8 hh]at e2;exact e2 (zW _)
    refine⟨i+1,i9,⟨hZ,ii,λj hj R S=>?_⟩,ii⟩;by_cases ap:j=n+i
    .subst ap;exact MF.1 E
    .exact p j hj R ii
  refine⟨⟨zW _,yP.2 (show n<=r.cap by omega)⟩,?_⟩;have z:lE n A B:=o.2 λj hj R=>p j hj R ii;have e1:gF n A B=(M.take n).map (xI n):=by rw[gF,<-G]
  have K:∀k (hk:k<n),(gF n A B).take (k+1)=(gF n A B).take k++[(M[k]'ii).drop n]:=λk hk=>by
   rw[e1,aE _ _ i5,z8,yn]
  have bq:hY (gF n A B)=n:=(ur d.symm q hB hr).1;refine aq (λt:Sl×Nat=>(t.1,(t.2:Int))) (λt h'=>t.2<=n/\Sp h8 h' [gK 34 t.1 1 aB ((gF n A B).take t.2)]) (λt=>n-t.2) (⟨et,0,0⟩,0) hZ ⟨i6,(Sp.refl h8).IL 34 1 aB⟩ ?_;rintro⟨s,k⟩ h9 ⟨a9,H9⟩;dsimp only at*;have HH:=u.comp H9;refine af (λe=>?_) (λe=>?_)
  .have Y:k<n:=ii
   have F:=pk (a:=r) N k ii;have W:(nZ r l M++[gK 34 s 1 aB ((gF n A B).take k)])[k+1]?=dB (an 5 (l[k]'ii) 1 aB (M[k]'ii)):=by rw[ql (by simp[bw];omega)];exact F
   have ab:hY (M[k]'ii)=n+w:=O _ (qf _);have T:=HH.own (k+1) W;have D:=HH.seq (k+1) W λ_=>rfl;have a2:=T.len;have y:=(HH.seq 0 hZ λ_=>rfl).take n ii;have ao:(l.take n)[k]'(by simp;omega)=l[k]'ii:=yn;refine y.nY k hZ i5 λa1 X Z=>?_;rw[ao];refine⟨⟨zW _,yP.2 ii⟩,?_⟩;refine(fP _ _ h9 (D.drop n T.cap) i5).x0 λc br ah=>?_;have ax:=(H9.comp ah).freeze 1 hZ λ_=>rfl;refine⟨c,hZ,?_⟩;refine ax.un ae 0 1 i0 hZ hZ fF i5 λs' a6 am=>?_;refine⟨(s',k+1),i7,⟨i4,?_⟩,i4⟩
   try dsimp only
   rw[K k Y];exact am.del 1
  .rw[qh ii]at H9;refine .inl ⟨z,s,hZ,?_⟩;have:=(Sp.zip u.ac).comp H9;exact this
theorem Qz:∀{l:az},l.Pairwise (·<·)->fZ l=ez
 |[],_=>rfl
 |[_],_=>rfl
 |a::b::r,h=>by
  rw[List.pairwise_cons]at h;rw[fZ,Qz h.2,g0 (h.1 b i6)];rfl
theorem Wv{l:az}(h:l.Pairwise (·<·)):Lh l:=λi a=>zq.1 h i (i+1) ii a ii
theorem Ww{n:Nat}{R:List fL}{known:List Bool}(i:n<=64)(f:∀e∈R,(∀c∈e.1,0<=c/\c<(n:Int))/\e.1.Pairwise (·<·)):ki (n:Int) (rowsOf R known n)=ez:=by
 unfold ki;rw[qy];refine⟨i5,qK.2 λr a=>?_⟩;unfold ga;rw[qy];rcases qt.1 a with a|a
 .obtain⟨e,b,rfl⟩:=qo.1 a;exact⟨qK.2 λc g=>by simpa using(f e b).1 c g,Qz (f e b).2⟩
 .obtain⟨d,rfl,h,_⟩:=AI a;exact⟨i5,hZ⟩
theorem aa.ahZ{e:Nat}{v:Sl}{vs:aN}(H:aa B h0 h As)(i:Nat)(p:As[i]?=dB (bV e v 1 bn (te 1 aB) vs)):
  ∃f:List Sl,aa B h0 h (As.set i (an e v 1 bn f)++[mw (f.zip vs)])/\f.length=hY vs/\∀(c:Nat) (m:c<hY f) (n:c<hY vs),f[c].ptr.isNone=vs[c].isEmpty:=by
 have g:i<hY As:=(qk.1 p).1;have w:aa B h0 h (As.set i (HP.ex λf:List Sl=>((an e v 1 bn f).sep (mw (f.zip vs))).and (hY f=hY vs/\∀(c:Nat) (m:c<hY f) (n:c<hY vs),f[c].ptr.isNone=vs[c].isEmpty))):=
  H.eW i p λq ⟨rs,A,a,b,c,d,e⟩=>⟨rs,⟨λb=>v.on b,A,λx j=>(b x j).2,λx j=>(b x j).1,c,⟨a,λx j=>j⟩,λx j=>by
   obtain⟨k,D,l⟩:=qB j;simp only[List.length_zip]at D;rw[yS]at l;subst l;exact(e k _ _ (qc ii) (qc ii)).1⟩,d,λk m n=>by
   obtain⟨x,y⟩:=e k _ _ (qc m) (qc n);cases hv:vs[k]with
   |nil=>rw[y hv];rfl
   |cons z t=>
    have:=x.isSome (by rw[hv];simp);rw[this];rfl⟩
 obtain⟨f,o⟩:=w.UU i (zj g);rw[yz]at o;have u:=o.fact i (zj g);have r:=o.adR i (zj g);rw[yz]at r;have s:=r.split i (zj g);rw[yz]at s;exact⟨f,s,u⟩
def yv(x:Int×Sl):aT:=[xJ xP x.1,x.2]
def ajo:iW (Int×Sl) (Int×Row):=⟨λh q a b=>a.1=b.1/\Seq h q a.2 1 aB b.2,λa d=>⟨a.1,a.2.ac d⟩,λa c=>⟨a.1,a.2.mono c⟩⟩
abbrev Gs:iW Sl (List (Int×Row)):=bN ajo 2 yv
theorem Wx{a:List Sl}{vs:aN}(h:hY a=hY vs)(pl:List (Sl×Row))(c:∀x∈a.zip vs,x∈pl):iM pl id a vs:=
 ⟨h,λi r l b d=>c _ (yY.2 ⟨i,by rw[vK];exact⟨b,d⟩⟩)⟩
theorem QA{α β:Type}:∀(a:List α) (x:α) (l:List β) (h:hY a<hY l),(a++[x]).zip l=a.zip l++[(x,l[hY a])]
 |[],x,b::l,_=>i6
 |c::a,x,b::l,h=>by
  have:=QA a x l j4;simp[this]
def aeH(h h':f7)(v:Value)(n:Nat)(A a:aN):Prop:=
 (lE n A a/\∃r:Sl,v=.tuple #[r,xJ xP 0]/\Sp h h' [MA r (gF n A a)])∨(¬lE n A a/\v=.tuple #[xK et 0 0,xJ xP 10]/\Sp h h' [])
theorem acR(p:Pm)(seed:Int)(l:Sl)(syms:List (Int×Row))(n w:Nat)(h:f7)(hl:eu Gs h l syms)(y:bK p=ez)(bk:∀x∈syms,AJ p x)(hn:(bG p).toNat=n)(hw:p.2.2.toNat=w)(ep:hY syms<=2^18)(hr:bZ (dU p seed (syms.map qE))=n):
  ai xT 151 #[kb p,xJ xR seed,l] h λv h'=>aeH h h' v n (dU p seed (syms.map qE)) (rO p syms):=by
 refine ts Tryz.func151 ?_ (v7 (.fwd (v7 (u7 (v7 (v1 (v2 [(8,cM),(23,aU)] [(8,9),(10,11),(23,39)] u9))) (ws [(11,TR)] [(11,12),(39,43)] u9))) [(0,[u9]),(1,[(.two (.two u9 (.inn (.loop [(95,aU)] [(20,21),(95,104)] u9))) u9)]),(2,[u9])])) [(5,(.l [0,1,2,3,4,6,7,5,8,9,10,11])),(7,(.l [1,0,2,3,4]))] (args:=[p,(xJ xR (seed:Int)),l]);have ef:=(bP p).1 y;have d2:bG p=n:=by rw[<-hn];have:=oP y;omega
 have b9:n=p.1.toNat+p.2.1.toNat:=by rw[<-hn,oP y];omega
 have cq:p.2.2=(w:Int):=ii
 have ca:1<=n:=ii
 have cp:n<=20:=ii
 obtain⟨T,ds,eg,b5⟩:=bN.kN hl;have eh:=bN.len hl;let d:List fL:=uc n seed syms;have ee:hY d=hY syms:=by simp[d,uc]
 have I:=ahj (seed:=seed) ca cp bk hw;let u:Nat->cg:=λi=>(syms.take i).map λx=>dz n seed x.1;have ab:∀x:Int×Row,x∈syms->(bK p&&bW x.1)=ez:=λx hx=>by rw[y,(bk x hx).id];rfl
 refine(Sp.refl h).boxed λa1 O H1=>?_;have c6:=((aa.ZM H1).nil 276 2 qv).bt [2,1,0];refine aq (λt:Nat×Sl×List Sl=>(t.2.1,(t.1:Int))) (λt h'=>t.1<=hY syms/\t.2.2.length=t.1/\Sp h h' [an 276 t.2.1 2 qv (t.2.2.zip (T.map zi)),AU (t.2.2.zip (u t.1)),aj a1 25 [xJ xP p.1,xJ xP p.2.1,xJ xP p.2.2]]) (λt=>hY syms-t.1) (0,⟨et,0,0⟩,[]) hZ ⟨i6,hZ,c6⟩ ?_;rintro⟨i,o,cr⟩ h2 ⟨hi,b0,H2⟩;dsimp only at*;have b6:hY (u i)=i:=by simp[u];omega
 refine af (λe=>?_) (λe=>?_)
 .have U:i<hY syms:=ii
  obtain⟨y1,y2⟩:=b5 i ii U;refine(Seq.up ds H2.ac).de (g:=yv) i hZ ii (T[i]'ii) hZ ?_;refine H2.alloc ae hZ λa5 h3 H3=>?_;refine H3.storeAll ae 3 hZ hZ (yv (T[i]'ii)) hZ hZ hZ hZ λh4 N=>?_;refine⟨p,(N.box 2 hZ).aA _ hZ,(T[i]'ii).1,(N.box 3 hZ).cell0 hZ,(T[i]'ii).2,(N.box 3 hZ).cell hZ,?_⟩;refine(AN p seed (T[i]'ii).1 h4).x0 λr h5 R5=>?_;rw[y1,ab _ (qf U),f8 rfl,hn]at R5;have H5:=(N.comp R5).freeze 4 hZ λ_=>rfl;refine⟨r,hZ,⟨(H5.box 3 hZ).cell hZ,x7⟩,?_⟩;have H6:=aa.aeG H5 1 4 i0 hZ hZ;have da:=H6.box 3 hZ;refine H6.oX ae qv eQ hZ [(r,(T[i]'ii).2)] hZ (show 1*2<=2^20 by decide) hZ ⟨da.cell hZ,x7⟩ ?_;refine H6.push ae 0 hZ eQ hZ i0 (λ_=>rfl) Zv (r,(T[i]'ii).2) hZ i0 i5 λo' h7 H7=>?_;refine⟨⟨(H7.box 3 hZ).cell hZ,x7⟩,?_⟩;refine⟨(i+1,o',cr++[r]),i7,⟨i4,by simp[b0],?_⟩,i4⟩
  try dsimp only
  have e1:u (i+1)=u i++[dz n seed syms[i].1]:=by simp only[u];rw[aE _ _ U,qN];rfl
  have e2:(cr++[r]).zip (T.map zi)=cr.zip (T.map zi)++[(r,(T[i]'ii).2)]:=by rw[QA cr r (T.map zi) i5,z8];simp only[b0]
  rw[e1,e2,List.zip_append (by rw[b0,b6])];exact H7.bt [0,1,2]
 have d8:i=hY syms:=ii
 subst d8;have dj:u syms.length=syms.map λx=>dz n seed x.1:=by simp only[u];rw[qM]
 rw[dj]at H2;have dx:∀{h':f7},(∀x∈cr.zip (syms.map λx=>dz n seed x.1),Qw.Seq h' (λb=>b<h'.size) x.1 1 aw x.2)->aS (λb=>b<h.size) h h'->Qw.Seq h' (λb=>b<h'.size) o 2 qv (cr.zip (T.map zi))->eu ri h' o d:=λ{h'} hp hpr Z=>by
  refine⟨_,Z,by simp[d,uc];omega,λk a b O h2=>?_⟩;have hk:k<hY syms:=by have:=(qk.1 h2).1;omega
  rw[qc i5,yS,z8]at O;have e2:d[k]?=dB (dz n seed syms[k].1,syms[k].2):=by simp[d,uc,hk]
  rw[e2]at h2;simp only[zX.injEq]at O h2;subst O;subst h2;refine⟨hp (cr[k]'ii,dz n seed syms[k].1) (yY.2 ⟨k,?_⟩),Seq.up (b5 k ii hk).2 hpr⟩;rw[vK];exact⟨qc _,by simp[hk]⟩
 refine bB (λs h'=>∃(a6 f:eS),s=dB a6/\Sp h h' [SA a6 (iN f p ⟨et,0,0⟩ ⟨et,0,0⟩ ⟨et,0,0⟩ ⟨et,0,0⟩ ⟨et,0,0⟩ ⟨et,0,0⟩ ⟨et,0,0⟩),an 276 o 2 qv (cr.zip (T.map zi)),AU (cr.zip (syms.map λx=>dz n seed x.1)),aj a1 25 [xJ xP p.1,xJ xP p.2.1,xJ xP p.2.2],aj f 325 dR]) ?_ ?_
 .refine⟨p,(H2.box 2 hZ).aA _ hZ,(pZ h2).x0 λf h3 R3=>?_⟩;have H3:=H2.comp R3;refine⟨dB f,hZ,⟨(H3.box 2 hZ).cell0 hZ,(H3.box 2 hZ).cell hZ,(H3.box 2 hZ).cell hZ,x7⟩,?_⟩;refine H3.boxed λa6 h4 N=>?_;exact⟨⟨(N.box 2 hZ).cell0 hZ,(N.box 2 hZ).cell hZ,(N.box 2 hZ).cell hZ,x7⟩,a6,f,hZ,N.bt [4,0,1,2,3]⟩
 rintro _ h3 ⟨s,f,rfl,H3⟩;refine⟨p,(H3.box 3 hZ).aA _ hZ,(kJ p h3).xc λh4 R4=>?_⟩;have N:=H3.up R4.ac;refine⟨_,hZ,?_⟩;rw[d2];have du:eu ri h4 o d:=dx (N.at 2 hZ) N.ac (N.seq 1 hZ λ_=>rfl);have cf:∀e∈d,hY e.1<=2^20:=λe F=>by
  obtain⟨x,hx,rfl⟩:=qo.1 F;have:=Av ca cp seed x.1;dsimp only;omega
 refine(ZA o d n w h4 du (λe F=>⟨(I e F).1,Wv (I e F).2⟩) ii ii ⟨ii,ii⟩ cf).mono ?_;have hA:aV n (bz p.1.toNat p.2.1.toNat):=by rw[b9];exact IY _ _
 have eA:=Vx (seed:=seed) y hn bk;have eB:=Vy (seed:=seed) (n:=n) (p:=p) (l:=syms) hw;rw[<-eA]at hr⊢;rw[<-eB];rintro _ h5 ⟨known,vals,hI,⟨ab,rfl,R5⟩|⟨ab,k,v,rs,rfl,R5⟩⟩
 .refine⟨(⟨et,0,0⟩,⟨et,0,0⟩,⟨et,0,0⟩,10),hZ,bA (λ_=>?_) λe=>absurd e i0⟩;exact .inr ⟨Yp (λe F=>(I e F).1) hA hI ab hr,hZ,(N.up R5.ac).bt []⟩
 refine⟨(k,v,rs,0),hZ,bA (λe=>absurd hZ e) λ_=>?_⟩;have S:=abU (λe F=>(I e F).1) hA hI ab;have z:=LZ (λe F=>(I e F).1) hI;obtain⟨f1,f2,f3,f4,f5⟩:=Jc (λe F=>(I e F).1) hI;have H:=ph hI λe F=>(I e F).1;have bb:=afq (known:=known) (vals:=vals) λe F=>(I e F).2;have ed:=Yq (l:=d) (known:=known) (vals:=vals);have a3:=Yr (known:=known) (vals:=vals) cf;have b2:=hI.vlen;have d3:=hI.klen;unfold NH at S;obtain⟨R,ax⟩:=x6 (be known vals d)
 change iq n w d _ known vals _ _ _ _ at S;rw[<-ax]at S z f1 f2 f3 f4 f5 H bb ed a3 R5;obtain⟨V,H6,c5,c4⟩:=aa.ahZ (N.comp R5) 6 rfl;obtain⟨rr,H7⟩:=aa.Hr H6 7 rfl λ_=>rfl;have H8:=aa.afP H7 8 hZ;have H9:=aa.bt H8 [0,8,6,7,5,4];have b1:v.len=n:=by rw[(H9.own 2 hZ).len];omega
 have hk:∀(c:Nat) (Y:c<hY V),V[c].ptr.isNone=!(known.getD c eH):=λc Y=>by
  rw[c4 c Y ii];have O:=hI.row c ii;rw[mO (show c<hY vals by omega)]at O;cases hkn:known.getD c eH with
  |true=>
   rw[hkn,f8 rfl]at O;cases hv:vals[c]'ii with
   |nil=>rw[hv]at O;simp at O;omega
   |cons x t=>rfl
  |false=>
   rw[hkn,f9 i6]at O;rw[vg.1 O];rfl
 refine⟨s,hZ,H9.store ae 0 hZ hZ 4 [v] hZ hZ hZ n3 λh6 dy=>?_⟩;refine⟨s,hZ,dy.store ae 0 hZ hZ 5 [rs] hZ hZ hZ n3 λh7 dk=>?_⟩;have b3:=Ww (known:=known) (n:=n) ii λe F=>⟨(H e F).cZ,bb e F⟩
 have am:=uR (rows:=rowsOf R known n) (n:=n) (by rw[ax];exact uu (ax▸H));have en:hY (rowsOf R known n)<=hY R+n:=by rw[rowsOf,qw,qu];have:=DD known n;omega
 refine(Sx s f p v rs _ _ _ _ _ k rr R known n (As:=[mw ((⟨et,0,0⟩,[])::V.zip vals),HA v V,dI kE 2 qv rs rr R,an 4 k 1 fN known,aj f 325 dR]) dk (St.mk' λh' H'=>⟨H'.eC 2 hZ,H'.seq 3 hZ λ_=>rfl⟩) d3 ii ii a3 b3 ⟨by have:=am.1;omega,by have:=Gh (eV n (rowsOf R known n)).used (rowsOf R known n).length;omega⟩).xc λh8 ⟨st,dd,lf,c7⟩=>⟨(),hZ,?_⟩;obtain⟨D,hD⟩:=x6 ((ig R known n).dead)
 obtain⟨ST,bs⟩:=x6 (nL R known n)
 obtain⟨L,hL⟩:=x6 (Qw.leftOf R known n)
 have d1:Sp h h8 (SA s (iN f p v rs st dd lf ⟨et,0,0⟩ ⟨et,0,0⟩)::mw ((⟨et,0,0⟩,[])::V.zip vals)::[HA v V,an 349 st 2 gB ST,an 3 dd 1 aw D,an 3 lf 1 aw L,dI kE 2 qv rs rr R,aj f 325 dR]):=by rw[hD,bs,hL];exact aa.bt c7 [0,4,5,1,2,3,6,8]
 rw[<-hD]at S z f1 f2 f3 f5;rw[<-bs]at S z;rw[<-hL]at S f4;have cc:hY ST<=2^20:=by rw[bs,nL,ig];have:=qU (λx:Int×Int=>decide (x.1<hY R)) (eV n (rowsOf R known n)).steps;have:=am.1;omega
 have eo:hY L<=2^20-2^10:=by rw[hL,Qw.leftOf,ig];have:=qU (λx:Int=>decide (x<hY R)) (gf (eV n (rowsOf R known n)).used (rowsOf R known n).length);have:=Gh (eV n (rowsOf R known n)).used (rowsOf R known n).length;omega
 have B:St (λb=>b<h.size) h [HA v V,an 349 st 2 gB ST,an 3 dd 1 aw D,an 3 lf 1 aw L,dI kE 2 qv rs rr R,aj f 325 dR] λh=>Wo h f rs st dd lf rr R ST D L:=
  St.mk' λh' H'=>⟨H'.box 5 hZ,H'.eC 4 hZ,H'.seq 1 hZ λ_=>rfl,H'.seq 2 hZ λ_=>rfl,H'.seq 3 hZ λ_=>rfl⟩
 refine(Wq s f p v rs st dd lf _ _ rr R ST D L n D.length w _ d1 B b1 ii cq ii hZ ii H f1 f2 z cc a3 i6).xc λh9 ⟨wa,mo,wr,mr,pl,c0,a0⟩=>⟨(),hZ,?_⟩;have d0:=(B.at [_,_,_,_] c0).dead.len;generalize ek:ST.foldl (iG R D.length) (gz n D.length w D)=S0 at a0 S;have d7:hY S0.1=n:=by have:=S.lens.1;simpa[iU]using this
 have eb:hY S0.2=n:=by have:=S.lens.2.1;simpa[iU]using this
 have hV:iM pl id V vals:=Wx c5 pl λx hx=>a0.sub x (qA _ hx);refine(ZI s f p v rs st dd lf wa mo V wr mr pl known vals S0.1 S0.2 n D.length c0 ii d0 ii ⟨λ_ h=>h,a0.way,a0.more⟩ hV b2 d7 eb hk).xc λeq ⟨ar,a4,ah,d5,K⟩=>⟨(),hZ,?_⟩;obtain⟨W,hW⟩:=x6 ((iU D.length known vals S0).1)
 obtain⟨M,hM⟩:=x6 ((iU D.length known vals S0).2)
 change mH pl ah ar a4 (iU D.length known vals S0).1 (iU D.length known vals S0).2 at K;rw[<-hW,<-hM]at K S;have m:=S.lens;refine(Ws s f p v rs st dd lf wa mo ar a4 ah rr R ST D L W M n D.length w d5 B b9 cq ii y hZ ii H a3 f4 ii ⟨λ_ h=>h,K.way,K.more⟩ m.1 m.2.1 m.2.2).mono ?_;rintro _ ap ⟨a,b,rfl,ay⟩;refine⟨(a,b),hZ,s,hZ,dd,show eX ap (s.add 7)=_ from(ay.box 2 hZ).cell hZ,?_⟩;have d6:iM ah id V vals:=hV.mono K.sub;obtain⟨e1,e2⟩:=pR S;have P:=AH (n:=n) (w:=w) (ahead:=bz p.1.toNat p.2.1.toNat) (l:=d) (known:=known) (vals:=vals) (dead:=D) (left:=L) (W:=W) (M:=M);have a2:∀{X:aN},_->_:=λ{X} Z=>S.TM hr (D:=X) Z;have a7:=S.TN hr;have ao:=S.Vz ii hr;have a8:=S.KL ii hr;rw[<-ax]at e1 e2 P a2 a7 ao a8;obtain⟨dA,b7⟩:=x6 (dL n D.length R W L (bz p.1.toNat p.2.1.toNat))
 obtain⟨J,ec⟩:=x6 (fX n w R M L (bz p.1.toNat p.2.1.toNat))
 rw[<-b7]at e1 P a2 a7 ao a8 ay;rw[<-ec]at e2 P a2 a7 ao ay;have c9:hY dA=hY L+p.2.1.toNat:=by rw[b7];simp[dL,bz]
 have bd:∀{h':f7} {pre:List HP} {dead:Sl} {dr:List Sl} {X:aN} {Q:HP},Sp h h' (Told s f p v rs st dd lf wa mo ar a4 ah++HA v V::[an 349 st 2 gB ST,an 3 dd 1 aw D,an 3 lf 1 aw L,dI kE 2 qv rs rr R,aj f 325 dR,Q])->(∀h',Q.p h' (λb=>b<h'.size)->fT h' (λb=>b<h'.size) dead 1 aB X dr)->fW D.length w dA J X->
   ai xT 220 #[xL (dB s),dead] h' λv' ad=>v'=.tuple #[]/\eX ad (s.add 4)=dB (xK v.ptr v.len v.cap)/\aeH h ad (.tuple #[v,xJ xP 0]) n (dO n d (bz p.1.toNat p.2.1.toNat)) (iT w d (bz p.1.toNat p.2.1.toNat)):=by
  intro h' pre dead dr X Q H' hQ Z;refine(ZK s f p v rs st dd lf wa mo dead V ar a4 dr ah known vals W M X n D.length w H' (St.mk' λad al=>⟨al.box 4 hZ,hQ ad (al.at 5 hZ)⟩) ii ii ii ⟨λ_ h=>h,K.way,K.more⟩ d6 b2 m.1 m.2.1 m.2.2 Z.1 Z.2.1 hk).xc λad ⟨el,ej,al,ip⟩=>⟨hZ,(al.box 0 hZ).cell hZ,?_⟩;obtain⟨c1,c2⟩:=a2 Z;refine .inl ⟨c1,v,hZ,?_⟩;rw[<-c2];exact(al.acJ 4 3 i0 hZ hZ ip.1 λk r l O h2=>ip.2 k r l O h2).bt [4]
 have G:=ay;have cd:=G.LH 1 hZ λ_=>rfl;have cn:fe ap b 1 aB J:=bN.tofe (by
  have:=bN.impl (α':=Sl) (E:=Qv) (E':=cz 1 aB) id (λ{h q a b} (hx:Qv.p h q a b)=>hx.1) cd
  rwa [List.map_id]at this)
 have d9:=cn.len;refine aX (λe0=>?_) (λe0=>?_)
 .have cs:hY D=0:=ii
  obtain⟨br,q1,q2,q3⟩:=bN.kN cd;refine aq (λi:Nat=>(i:Int)) (λi h'=>h'=ap/\i<=hY J/\∀j (hj:j<hY J),j<i->J[j]=aK w) (λi=>hY J-i) 0 hZ ⟨hZ,ii,λj _ hj=>ii⟩ ?_;rintro i a9 ⟨rfl,hi,hz⟩;have bq:fW D.length w dA J []↔∀r∈J,r=aK w:=by rw[cs];exact Jd P
  refine af (λe=>?_) (λe=>?_)
  .have U:i<hY J:=by have e':(i:Int)<(b.len:Int):=e;omega
   obtain⟨y1,y2⟩:=q3 i ii U;have d4:J[i].length=w:=e2 _ (qf _);refine q1.mQ i hZ ii ?_;refine(Ft (br[i]'ii) J[i] _ hZ a9 y1 y2 ii).mono ?_;rintro _ cl ⟨⟨t,rfl,ht⟩,rfl⟩;refine⟨t,hZ,af (λe3=>?_) λe3=>?_⟩
   .refine .inr ⟨λY=>?_,hZ,G.bt []⟩;have b4:=a7 Y;have c8:D=[]:=vg.1 cs;rw[c8]at b4;have:=(Jd P).1 b4 _ (qf U);have h0:t.len=0:=ht.2 λx hx=>by rw[this]at hx;exact(yb.1 hx).2
    omega
   .have h0:t.len=0:=ii
    refine⟨i+1,i9,⟨hZ,ii,λj hj ei=>?_⟩,ii⟩;by_cases hh:j=i
    .subst hh;exact xd.2 ⟨d4,ht.1 h0⟩
    .exact hz j hj ii
  .have Z:fW D.length w dA J []:=bq.2 λr hr=>by
    obtain⟨j,hj,rfl⟩:=qB hr;have e':¬(i:Int)<(b.len:Int):=e;exact hz j hj ii
   have bl:=aa.comp (G.bt [2,3,4,5,6,7,8,9,10,11]) (Sp.one (h:=a9) (h':=a9) (A:=emp) (aS.refl _ _) x7);refine(bd (pre:=[]) (dead:=⟨et,0,0⟩) (dr:=[]) (X:=[]) (Q:=emp) ?_ (λh' _=>⟨Seq.nil _ _ _ _ _ _,hZ,λk r l O _=>by cases O⟩) Z).mono ?_
   .exact bl
   .rintro _ cl ⟨rfl,Y,hm⟩;exact⟨(),hZ,s,hZ,v,Y,hm⟩
 .have dp:1<=hY D:=ii
  refine⟨s,hZ,dB f,(G.box 2 hZ).cell0 hZ,?_⟩;refine(Sy f a b dA J dA.length D.length w ap (G.box 11 hZ) (G.Ea 0 hZ) cn hZ P.symm e1 e2 dp ii ii a8).mono ?_;rintro _ a9 (⟨Y,r,rfl,R12⟩|⟨Y,rfl,R12⟩)
  .refine⟨(r,0),hZ,bA (λe=>absurd hZ e) λ_=>?_⟩;have bl:=(G.comp R12).NF 12 hZ;obtain⟨dr,ea⟩:=aa.Hr bl 12 rfl λ_=>rfl;have Z:=pM P e1 e2 a8 Y;refine(bd (pre:=[]) (dead:=r) (dr:=dr) (X:=gF D.length dA J) (Q:=dI (cz 1 aB) 1 bn r dr (gF D.length dA J)) (ea.bt [2,3,4,5,6,7,8,9,10,11,12]) (λh' x=>⟨x.1,x.2.1,x.2.2⟩) Z).xc λcl ⟨Y,hm⟩=>⟨(),hZ,s,hZ,v,Y,hm⟩
  .refine⟨(⟨et,0,0⟩,10),hZ,bA (λ_=>?_) λe=>absurd e i0⟩;exact .inr ⟨λhh=>Y (ao.2 hh),hZ,(G.up R12.ac).bt []⟩
def mY(p:Int×Int×Int)(x:Int×Row):Bool:=bW x.1&&decide ((hY x.2:Int)=p.2.2)
theorem QB{p:Int×Int×Int}{x:Int×Row}(c:bK p=ez):mY p x=ez↔AJ p x:=by have:=(bP p).1 c;unfold mY;rw[qy,decide_eq_true_iff];exact⟨λ⟨a,b⟩=>⟨a,ii⟩,λh=>⟨h.id,by have:=h.len;omega⟩⟩
def tE(p:Int×Int×Int)(seed:Int)(X:aN)(i:Nat):Row:=(qx i).flatMap λj:Nat=>gq p.2.2.toNat X (dz (bG p).toNat seed (j:Int))
theorem MG(p:Int×Int×Int)(seed:Int)(X:aN)(i:Nat):tE p seed X (i+1)=tE p seed X i++gq p.2.2.toNat X (dz (bG p).toNat seed (i:Int)):=by unfold tE;rw[zJ,q9];simp
open Classical in
noncomputable def lV(p:Int×Int×Int)(seed:Int)(l:List (Int×Row)):Row×Int:=
 if bK p&&l.all (mY p)then
  if fV p seed (l.map qE)then
   if lE (bG p).toNat (dU p seed (l.map qE)) (rO p l)then(tE p seed (gF (bG p).toNat (dU p seed (l.map qE)) (rO p l)) p.1.toNat,0)else([],10)
  else([],9)
 else([],1)
theorem Sz(p:Pm)(x:Int×Sl)(l:Row)(h:f7)(e:Rd h x.2 1 aB l):ai xT 148 #[kb p,xO #[xJ xP x.1,x.2]] h λv h'=>v=xN (mY p (x.1,l))/\Sp h h' []:=by
 refine ts Tryz.func148 ?_ (args:=[p,x]);refine(Sp.refl h).boxed λj g d=>?_;refine d.boxed λk i a=>?_;have f:=e.len;refine⟨x.1,(a.box 1 hZ).cell0 hZ,af (λc=>?_) λc=>?_⟩
 .refine⟨x.1,(a.box 1 hZ).cell0 hZ,af (λb=>?_) λb=>?_⟩
  .refine⟨x.2,(a.box 1 hZ).cell hZ,p.2.2,(a.box 0 hZ).cell hZ,?_,.zip a.ac⟩;congr 1;unfold mY bW;rw[g0 (show 0<=x.1 from c),g0 (show x.1<=65535 from b),f];rw[yK];simp
  .refine⟨?_,.zip a.ac⟩;unfold mY bW;rw[g9 (show¬x.1<=65535 from b)];simp
 .refine⟨?_,.zip a.ac⟩;unfold mY bW;rw[g9 (show¬0<=x.1 from c)];simp
theorem SB(p:Pm)(b:eS)(x:Int×Sl)(l:Row)(h:f7)(c:bQ h b 25 [xJ xP p.1,xJ xP p.2.1,xJ xP p.2.2])(e:Rd h x.2 1 aB l):ai xT 147 #[xO #[xJ xP x.1,x.2],xL (dB b)] h λv h'=>v=xN (!mY p (x.1,l))/\Sp h h' []:=by refine ts Tryz.func147 ?_ (args:=[x,b]);refine(Sp.refl h).boxed λi d a=>?_;refine⟨p,(c.ac a.ac c.lt).aA _ hZ,x,(a.box 0 hZ).aA _ hZ,?_⟩;refine(Sz p x l d (Seq.up e a.ac)).xc λg f=>⟨_,hZ,hZ,.zip (a.up f.ac).ac⟩
theorem SC(p:Pm)(d:eS)(l:Sl)(syms:List (Int×Row))(h:f7)(q:bQ h d 25 [xJ xP p.1,xJ xP p.2.1,xJ xP p.2.2])(r:eu Gs h l syms)(B:hY syms<=2^30):ai xT 146 #[l,.func (.func 147) #[] #[xL (dB d)]] h λv h'=>v=xN (!syms.all (mY p))/\Sp h h' []:=by
 refine ts Tryz.func146 ?_ (args:=[l,(.func (.func 147) #[] #[xL (dB d)])]);refine(lP l (147,#[],#[xL (dB d)]) (R:=λv h'=>(∃i:Int,v=xJ xP i/\(decide (i>=0)=!syms.all (mY p)))/\Sp h h' []) ?_).mono ?_
 .skip
  obtain⟨j,t,A,x⟩:=bN.kN r;have s:=bN.len r;refine aq (λi:Nat=>(i:Int)) (λi h'=>i<=hY syms/\(syms.take i).all (mY p)=ez/\Sp h h' []) (λi=>hY syms-i) 0 hZ ⟨ii,i6,Sp.refl h⟩ ?_;rintro i m ⟨o,a,c⟩;refine af (λe=>?_) (λe=>?_)
  .have b:i<hY syms:=ii
   obtain⟨y,u⟩:=x i ii b;refine(Seq.up t c.ac).de (g:=yv) i hZ ii (j[i]'ii) hZ ?_;refine dV kt ?_;refine(SB p d (j[i]'ii) syms[i].2 m (q.ac c.ac q.lt) (Seq.up u c.ac)).xc λz n=>?_;have k:((j[i]'ii).1,syms[i].2)=syms[i]:=by rw[y]
   rw[k];refine⟨_,hZ,aW (λf=>?_) λf=>?_⟩
   .refine⟨⟨i,hZ,?_⟩,c.up n.ac⟩;rw[g0 (show(i:Int)>=0 by omega)];have:syms.all (mY p)=eH:=yF.2 ⟨_,qf b,m6⟩;rw[this];rfl
   .refine⟨i+1,i9,⟨ii,?_,c.up n.ac⟩,ii⟩;rw[aE _ _ b,y0,a];simpa using f
  .refine⟨⟨-1,hZ,?_⟩,c⟩;rw[qh ii]at a;rw[a];rfl
 .rintro _ m ⟨⟨i,rfl,o⟩,w⟩;exact⟨i,hZ,by rw[o],w⟩
theorem ZN(l:Sl)(syms:List (Int×Row))(h:f7)(k:eu Gs h l syms)(D:hY syms<=2^30):ai xT 150 #[l] h λv h'=>∃r:Sl,v=r/\Sp h h' [an 3 r 1 aw (syms.map qE)]:=by
 refine ts Tryz.func150 ?_ (v7 (v7 (wj [(3,cM),(8,aU)] [(3,4),(5,6),(8,18)])));obtain⟨d,q,z,s⟩:=bN.kN k;have p:=bN.len k;refine aq (λt:Nat×Sl=>(t.2,(t.1:Int))) (λt h'=>t.1<=hY syms/\Sp h h' [an 3 t.2 1 aw ((syms.take t.1).map qE)]) (λt=>hY syms-t.1) (0,⟨et,0,0⟩) hZ ⟨i6,(Sp.refl h).nil 3 1 aw⟩ ?_;rintro⟨i,o⟩ x ⟨A,c⟩;dsimp only at*;refine af (λe=>?_) (λe=>?_)
 .have b:i<hY syms:=ii
  obtain⟨w,B⟩:=s i ii b;refine(Seq.up q c.ac).de (g:=yv) i hZ ii (d[i]'ii) hZ ?_;refine c.alloc ae hZ λa y m=>?_;refine m.storeAll ae 1 hZ hZ (yv (d[i]'ii)) hZ hZ hZ hZ λh3 f=>?_;refine⟨(d[i]'ii).1,(f.box 1 hZ).cell0 hZ,?_⟩;refine f.push ae 0 hZ gb hZ i0 (λ_=>rfl) fd (d[i]'ii).1 hZ i0 i5 λu E j=>?_;refine⟨(i+1,u),i7,⟨i4,?_⟩,i4⟩
  try dsimp only
  rw[aE _ _ b,qN];rw[w]at j;exact j.bt [0]
 .have:i=hY syms:=ii
  subst this;rw[qM]at c;exact⟨o,hZ,c⟩
theorem acS{B:av}{q h:f7}{As:List HP}(f b:Sl)(d c:Row)(H:aa B q h (an 5 b 1 aB c::As))(u:St B q As λh=>Rd h f 1 aB d)
  (G:hY d=hY c) (I:hY d<=2^30) {K:f7->Prop} (F:∀h',aa B q h' (an 5 b 1 aB (cW 1 d c)::As)->K h'):
  gX (σ:=Int) (λa w g=>
 Br (decide (a<((f.len:Nat):Int)))
 (∃p:eS,(f.ptr=dB p/\0<=a/\a<((f.len:Nat):Int))/\
 ∃j:Int,eX g (p.add (a.toNat*1))=dB (xJ xQ j)/\
 ∃m:eS,(b.ptr=dB m/\0<=a/\a<((b.len:Nat):Int))/\
 ∃n:Int,eX g (m.add (a.toNat*1))=dB (xJ xQ n)/\
 ∃a28:eS,(b.ptr=dB a28/\0<=a/\a<((b.len:Nat):Int))/\
 au xT (qH 5 (xL (dB (a28.add (a.toNat*1)))) (xJ xQ (qe xQ ((qP (qI xQ) n^^^(qP (qI xQ) j)).toNat:Nat)))) g λ_ r=>
 w (qe xP (a+(1:Int))) r) (K g)) (0:Int) h:=by
 have D:f.len=hY d:=(u.at [an 5 b 1 aB c] H).len;refine aq (λk:Nat=>(k:Int)) (λk h'=>k<=hY d/\aa B q h' (an 5 b 1 aB (zg (λx y=>y^^^x) (d.take k) (c.take k)++c.drop k)::As)) (λk=>hY d-k) 0 hZ ⟨ii,l4⟩ ?_;rintro k v ⟨A,o⟩;have E:=u.at [_] o;refine af (λe=>?_) (λe=>?_)
 .have s:k<hY d:=ii
  have i:hY (zg (λx y=>y^^^x) (d.take k) (c.take k))=k:=i5
  have z:hY (zg (λx y=>y^^^x) (d.take k) (c.take k)++c.drop k)=hY c:=by rw[qw,i,zc];omega
  refine E.bo k hZ s _ hZ ?_;have l:(zg (λx y=>y^^^x) (d.take k) (c.take k)++c.drop k)[k]'ii=c[k]:=by rw[wD ii];simp[i]
  refine(o.seq 0 hZ λ_=>rfl).bo k hZ ii _ hZ ?_;rw[l,ou];refine o.set ae 0 hZ (λ_=>rfl) hZ k hZ ii _ hZ hZ hZ λh3 t=>?_;rw[zn,Fu G]at t;exact⟨k+1,i9,⟨ii,t⟩,ii⟩
 .have:k=hY d:=ii
  subst this;rw[qh (qm _),qh ii,zd ii,qG,<-Ud]at o;exact F v o
theorem JV(p:Pm)(seed:Int)(l:Sl)(syms:List (Int×Row))(h:f7)(W:eu Gs h l syms)(ab:hY syms<=2^18:=by omega):
  ai xT 88 #[kb p,xJ xR seed,l] h λv h'=>∃r:Sl,v=.tuple #[r,xJ xP (lV p seed syms).2]/\Sp h h' [an 5 r 1 aB (lV p seed syms).1]:=by
 refine ts Tryz.func88 ?_ (v7 (ws [] [(6,8),(17,25)] (ws [] [(6,8),(25,31)] (v7 (v7 (v7 (u7 (v7 (v1 (v2 [(10,cM),(43,aU)] [(10,13),(14,17),(43,81)] (v7 (v7 (u7 (v1 (v7 (v7 (u7 (v7 (v1 (v2 [(54,aU)] [(14,17),(54,77)] (v7 (v7 (u7 (v1 (v7 (v7 (v1 (v2 [(63,aU)] [(15,17),(63,76)] u9))))) u9)))))) u9)))) u9)))))) u9))))))) (args:=[p,(xJ xR (seed:Int)),l]);refine(Sp.refl h).boxed λL h1 H1=>?_;have s:∀{h':f7} (e:Int),Sp h h' [aj L 25 [xJ xP p.1,xJ xP p.2.1,xJ xP p.2.2]]->lV p seed syms=([],e)->∃r:Sl,(.tuple #[xK et 0 0,xJ xP e]:Value)=.tuple #[r,xJ xP (lV p seed syms).2]/\Sp h h' [an 5 r 1 aB (lV p seed syms).1]:=λe V he=>by
  rw[he];exact⟨⟨et,0,0⟩,hZ,(V.nil 5 1 aB).bt [1]⟩
 refine aG ⟨p,(H1.box 0 hZ).aA _ hZ,?_⟩;refine(eE p h1).xc λh2 R2=>?_;have R:=H1.up R2.ac;refine⟨_,hZ,aW (λe=>?_) λa=>?_⟩
 .exact s 1 R (by unfold lV;rw[e];rfl)
 refine(SC p L l syms h2 (R.box 0 hZ) (eu.up W R.ac) ii).xc λh3 R3=>?_;have Q:=R.up R3.ac;refine⟨_,hZ,aW (λe=>?_) λd=>?_⟩
 .exact s 1 Q (by unfold lV;rw[a,e];rfl)
 refine aG ⟨p,(Q.box 0 hZ).aA _ hZ,?_⟩;refine(ZN l syms h3 (eu.up W Q.ac) ii).x0 λr h4 R4=>?_;have T:=Q.comp R4;have z:=T.box 0 hZ;refine⟨r,hZ,⟨z.cell0 hZ,z.cell hZ,z.cell hZ,x7⟩,?_⟩;refine(Mh p seed r (syms.map qE) h4 (T.seq 1 hZ λ_=>rfl) i5).xc λh5 R5=>?_;have K:=(T.up R5.ac).bt [0];refine⟨_,hZ,x7,aW (λe=>?_) λb=>?_⟩
 .exact s 9 K (by unfold lV;rw[a,d,e];rfl)
 have w:∀x∈syms,AJ p x:=λx g=>(QB a).1 (qK.1 d x g);have am:=(bP p).1 a;have a2:=oP a;have hr:bZ (dU p seed (syms.map qE))=(bG p).toNat:=by have:=b;unfold fV oA at this;rw[a]at this;simp at this;omega
 refine⟨p,(K.box 0 hZ).aA _ hZ,?_⟩;refine(acR p seed l syms (bG p).toNat p.2.2.toNat h5 (eu.up W K.ac) a w hZ hZ ab hr).mono ?_;rintro _ h6 (⟨hc,m,rfl,R6⟩|⟨hc,rfl,R6⟩)
 rotate_left
 .refine⟨(⟨et,0,0⟩,10),hZ,bA (λ_=>s 10 (K.up R6.ac) ?_) λe=>absurd e i0⟩;unfold lV;rw[a,d,b,f9 hc];rfl
 refine⟨(m,0),hZ,bA (λe=>absurd hZ e) λ_=>?_⟩;obtain⟨X,hX⟩:=x6 (gF (bG p).toNat (dU p seed (syms.map qE)) (rO p syms))
 have M:lV p seed syms=(tE p seed X p.1.toNat,0):=by unfold lV;rw[a,d,b,f8 hc,hX];rfl
 have Y:aV p.2.2.toNat (rO p syms):=λx g=>by
  rcases qt.1 g with g|g
  .rw[(yb.1 g).2];simp[aK]
  .obtain⟨y,hy,rfl⟩:=qo.1 g;exact(w y hy).len
 have U:hY (dU p seed (syms.map qE))=hY (rO p syms):=by rw[<-Vx (n:=(bG p).toNat) (seed:=seed) a hZ w,<-Vy (n:=(bG p).toNat) (seed:=seed) (p:=p) (l:=syms) rfl];exact ut
 obtain⟨E,k⟩:=ur U (jX p seed _) Y hr;rw[<-hX]at R6 E k;have H6:=(K.comp R6).NF 1 hZ;obtain⟨O,P⟩:=aa.Hr H6 1 rfl λ_=>rfl;have ao:=(P.eC 1 hZ).1.len;have a0:=(P.eC 1 hZ).2.1;refine⟨p.1,(P.box 0 hZ).cell0 hZ,?_⟩;rw[M];have N:Sp h h6 [an 5 ⟨et,0,0⟩ 1 aB [],aj L 25 [xJ xP p.1,xJ xP p.2.1,xJ xP p.2.2],dI (cz 1 aB) 1 bn m O X]:=(P.nil 5 1 aB).bt [2,0,1];have J:∀j:Nat,hY (gq p.2.2.toNat X (dz (bG p).toNat seed (j:Int)))=p.2.2.toNat:=λj=>TJ k E λx g=>nf ii ii g;have F:∀i,hY (tE p seed X i)=i*p.2.2.toNat:=λi=>by
  induction i with
  |zero=>simp[tE]
  |succ i ih=>rw[MG,qw,ih,J,zM]
 refine aq (λt:Nat×Sl=>(t.2,(t.1:Int))) (λt h'=>t.1<=p.1.toNat/\Sp h h' [an 5 t.2 1 aB (tE p seed X t.1),aj L 25 [xJ xP p.1,xJ xP p.2.1,xJ xP p.2.2],dI (cz 1 aB) 1 bn m O X]) (λt=>p.1.toNat-t.1) (0,⟨et,0,0⟩) hZ ⟨ii,by simpa[tE]using N⟩ ?_;rintro⟨i,o⟩ h8 ⟨hi,N⟩;dsimp only at*;refine af (λe=>?_) (λe=>?_)
 .have ax:i<p.1.toNat:=ii
  refine⟨p.2.2,(N.box 1 hZ).cell hZ,?_⟩;refine N.make ae aB gN i0 0 hZ hZ p.2.2.toNat p.2.2.toNat ii ii (qm _) ii λsm h9 _ _ H9=>?_;refine⟨p,(H9.box 1 hZ).aA _ hZ,(AN p seed (i:Int) h9).x0 λc a4 B=>?_⟩;have Z:(bK p&&bW (i:Int))=ez:=by rw[a];unfold bW;simp;omega
  rw[Z,f8 rfl]at B;have G:=(H9.comp B).bt [3,0,1,2,4];refine⟨c,hZ,?_⟩;generalize I:dz (bG p).toNat seed (i:Int)=cs at G B;have u:∀x∈cs,0<=x/\x<((bG p).toNat:Int):=λx g=>nf ii ii (I▸g);have ap:hY cs<=20:=by have:=Av (n:=(bG p).toNat) ii ii seed (i:Int);rw[I]at this;omega
  have a3:=(G.own 4 hZ).len;refine aq (λj:Nat=>(j:Int)) (λj h'=>j<=hY cs/\Sp h h' [an 5 sm 1 aB (gq p.2.2.toNat X (cs.take j)),an 5 o 1 aB (tE p seed X i),aj L 25 [xJ xP p.1,xJ xP p.2.1,xJ xP p.2.2],dI (cz 1 aB) 1 bn m O X,an 3 c 1 aw cs]) (λj=>hY cs-j) 0 hZ ⟨ii,G⟩ ?_;rintro j ar ⟨hj,f⟩;have H:=pN k E u j hj;refine af (λe2=>?_) (λe2=>?_)
  .have D:j<hY cs:=ii
   have ay:=u _ (qf D);refine(f.seq 4 hZ λ_=>rfl).bo j hZ D _ hZ ?_;have q:cs[j].toNat<hY X:=ii
   refine(f.eC 3 hZ).1.mQ cs[j].toNat ii ii ?_;have S:hY (X[cs[j].toNat]'q)=p.2.2.toNat:=k _ (qf _);refine acS (O[cs[j].toNat]'ii) sm (X[cs[j].toNat]'q) _ f (St.mk' λh' V=>Fix.row (V.eC 2 hZ) q) (by rw[S,H]) ii λal A=>?_;refine⟨j+1,i9,⟨ii,?_⟩,ii⟩;rw[aE _ _ D,Cx,mO q];exact A
  .have ah:j=hY cs:=ii
   subst ah;rw[qM]at f H;refine f.append ae 1 hZ gN PO hZ i0 (λ_=>rfl) (f.seq 0 hZ λ_=>rfl) ic (by rw[F,H];have:i*p.2.2.toNat<=16*24:=wA ii ii;omega) λo' al A=>?_;refine⟨(i+1,o'),i7,⟨i4,?_⟩,i4⟩
   try dsimp only
   rw[MG,I];exact A.bt [1,2,3]
 .have ad:i=p.1.toNat:=ii
  subst ad;exact⟨o,hZ,N.bt [0]⟩
variable {p:Int×Int×Int} {seed:Int} {d:Row} {K H w n:Nat}
def my(p:Int×Int×Int)(seed:Int)(X:aN)(ids:az):List (Int×Row):=ids.map λi=>(i,gq p.2.2.toNat X (dz (bG p).toNat seed i))
theorem co.size(B:co p seed d K H w n):p.2.2.toNat=w:=by have:=B.s;omega
theorem Ib(X:aN)(ids:az):(my p seed X ids).map qE=ids:=by simp[my,wN,Function.comp_def]
theorem co.QC(B:co p seed d K H w n){ids:az}(hid:∀i∈ids,bW i=ez):(my p seed (dG p seed d) ids).all (mY p)=ez:=qK.2 λx a=>by
 obtain⟨i,b,rfl⟩:=qo.1 a;refine(QB B.may).2 ⟨hid i b,?_⟩
 try dsimp only
 rw[B.size,B.pO];exact B.Ya i
theorem JW{α β:Type}{f g:α->List β}:∀(l:List α),(∀x∈l,f x=g x)->l.flatMap f=l.flatMap g
 |[],_=>rfl
 |a::l,h=>by rw[zb,zb,h a i6,JW l λx b=>h x mn]
theorem MH(d:Row)(w:Nat):∀i,i*w<=hY d->(qx i).flatMap (Qw.Eb d w)=d.take (i*w)
 |0,_=>i6
 |i+1,h=>by
  have e:(i+1)*w=i*w+w:=zM i w;rw[zJ,q9,MH d w i ii,e,xA];simp[Qw.Eb]
theorem co.out(B:co p seed d K H w n):tE p seed (dG p seed d) p.1.toNat=d:=by
 have a:p.1.toNat=K:=by have:=B.k;omega
 unfold tE;rw[a,B.size,B.pO];have:(qx K).flatMap (λj:Nat=>gq w (dG p seed d) (dz n seed (j:Int)))=(qx K).flatMap (Qw.Eb d w):=by exact JW _ λj b=>B.abK (qz.1 b)
 rw[this,MH d w K (by rw[B.len];exact qm _),qh (by rw[B.len];exact qm _)]
theorem co.ZO(B:co p seed d K H w n){ids:az}(hid:∀i∈ids,bW i=ez):Qw.fW n w (dU p seed ids) (rO p (my p seed (dG p seed d) ids)) (dG p seed d):=by
 have l:ids.filter bW=ids:=wJ.2 hid;have o:dU p seed ids=bz K H++ids.map (oJ n seed):=by
  unfold dU;rw[B.may,f8 hZ,l,B.pO];have j:p.1.toNat=K:=by have:=B.k;omega
  have c:p.2.1.toNat=H:=by have:=B.h;omega
  rw[j,c]
 have m:rO p (my p seed (dG p seed d) ids)=qg H (aK w)++ids.map λi=>gq w (dG p seed d) (dz n seed i):=by
  unfold rO my;have c:p.2.1.toNat=H:=by have:=B.h;omega
  rw[c,B.size,B.pO,wN];rfl
 refine⟨B.om.1,B.om.2,λi g=>?_⟩;rw[o]at g⊢;rw[m];have b:hY (bz K H)=H:=by simp[bz]
 simp only[qw,qu,b]at g;by_cases a:i<H
 .have f:aC (bz K H++ids.map (oJ n seed)) i=mh K H i:=by rw[bv i5,w8 ii];simp[bz]
  have e:aC (qg H (aK w)++ids.map λi=>gq w (dG p seed d) (dz n seed i)) i=aK w:=by rw[bv i5,w8 j5];simp
  rw[f,e];exact B.low a
 .have f:aC (bz K H++ids.map (oJ n seed)) i=oJ n seed (ids[i-H]'ii):=by rw[bv i5,wD ii];simp[b]
  have e:aC (qg H (aK w)++ids.map λi=>gq w (dG p seed d) (dz n seed i)) i=gq w (dG p seed d) (dz n seed (ids[i-H]'ii)):=by rw[bv i5,wD j5];simp
  rw[f,e,B.sym]
theorem ZP{l:List (Int×Row)}(c:∀x∈l,AJ p x):aV p.2.2.toNat (rO p l):=λx a=>by
 rcases qt.1 a with a|a
 .rw[(yb.1 a).2];simp[aK]
 .obtain⟨y,b,rfl⟩:=qo.1 a;exact(c y b).len
theorem SD(a:bK p=ez){l:List (Int×Row)}(b:∀x∈l,AJ p x):hY (dU p seed (l.map qE))=hY (rO p l):=by rw[<-Vx (n:=(bG p).toNat) (seed:=seed) a hZ b,<-Vy (n:=(bG p).toNat) (seed:=seed) (p:=p) (l:=l) rfl];exact ut
theorem Fy(a:bK p=ez){ids:az}:fV p seed ids=ez↔bZ (dU p seed ids)=(bG p).toNat:=by have:=oP a;have:=(bP p).1 a;unfold fV oA;rw[a,zS];simp;omega
theorem co.dec(B:co p seed d K H w n){ids:az}(hid:∀i∈ids,bW i=ez)(b:fV p seed ids=ez):lV p seed (my p seed (dG p seed d) ids)=(d,0):=by have a:∀x∈my p seed (dG p seed d) ids,AJ p x:=λx g=>(QB B.may).1 (qK.1 (B.QC hid) x g);have h:=B.ZO hid;have c:=SD (seed:=seed) B.may a;rw[Ib]at c;have f:=(Fy B.may).1 b;have e:=mj c (jX p seed ids) (ZP a) f (by rw[B.pO,B.size];exact h);unfold lV;rw[B.may,B.QC hid,Ib,b];simp only[Bool.and_self,if_true];rw[f8 e.2,<-e.1,B.out]
theorem acT(b:bK p=ez){l:List (Int×Row)}(c:l.all (mY p)=ez)(a:fV p seed (l.map qE)=eH):lV p seed l=([],9):=by unfold lV;rw[b,c,a];rfl
theorem SE{n:Nat}{A:aN}(p:aV n A)(d:bZ A=n){y:Nat->UInt8}(s:∀r∈A,bT (λj=>aO r j) y n=0):∀i,i<n->y i=0:=by
 intro i l;let Y:aN:=(qx n).map λc=>[y c]
 have o:aV 1 (qg A.length (aK 1)):=λr d=>by rw[(yb.1 d).2];rfl
 have a:hY A=hY (qg A.length (aK 1)):=i6
 have e:∀j,j<hY A->aC (qg A.length (aK 1)) j=aK 1:=λj g=>by rw[bv m0];simp
 have f:∀z:Nat->UInt8,(∀r∈A,bT (λj=>aO r j) z n=0)->fW n 1 A (qg A.length (aK 1)) ((qx n).map λc=>[z c]):=λz t=>by
  have b:aV 1 ((qx n).map λc=>[z c]):=λr d=>by obtain⟨c,_,rfl⟩:=qo.1 d;rfl
  refine⟨i6,b,λj g=>?_⟩;rw[e j g];refine fh (n:=1) (iX b i6 _ n (qm _)) hZ λk v=>?_;obtain rfl:k=0:=ii
  rw[iD b i6 _ 0 n (qm _),cB,<-t _ (mem_row g)];refine gx n (λ_ _=>rfl) λc q=>?_;rw[bv o4];simp[aO]
 have u0:=(mj a p o d (f (λ_=>0) λr _=>dot_zero' r n)).1;have u:=(mj a p o d (f y s)).1;have h:aO (aC ((qx n).map λc=>[y c]) i) 0=aO (aC ((qx n).map λ_=>[(0:UInt8)]) i) 0:=congrArg (λm=>aO (aC m i) 0) (u.trans u0.symm);rw[bv o8,bv o8]at h;simpa[aO]using h
where
 dot_zero' (r:Row):∀n,bT (λj=>aO r j) (λ_=>(0:UInt8)) n=0
  |0=>rfl
  |n+1=>by rw[bT,dot_zero' r n,Gf.mul_zero];rfl
theorem afR{ids c:az}(h:∀i∈ids,i∈c):∀r∈dU p seed ids,r∈dU p seed c:=λr a=>by
 unfold dU at*;cases hm:bK p
 .rw[hm]at a;simp at a
 .rw[hm,f8 rfl,qt]at a;rw[f8 hZ,qt];rcases a with a|a
  .exact .inl a
  .obtain⟨i,b,rfl⟩:=qo.1 a;rw[qD]at b;exact .inr (qo.2 ⟨i,qD.2 ⟨h i b.1,b.2⟩,hZ⟩)
theorem MI(d:bK p=ez){ids a:az}(h:∀i∈ids,i∈a)(e:fV p seed ids=ez):fV p seed a=ez:=by
 have b:=(Fy d).1 e;refine(Fy d).2 ?_;have k:=lM (jX p seed a);by_cases c:bZ (dU p seed a)<(bG p).toNat
 .exfalso;obtain⟨y,⟨i,j,f⟩,g⟩:=kernel (jX p seed a) c;exact f (SE (jX p seed ids) b (λr b=>g r (afR h r b)) i j)
 .omega
theorem me(a b:cU):nI a b=ez↔a.object=b.object/\a.block=b.block/\a.id=b.id:=by unfold nI;rw[decide_eq_true_eq]
theorem Uf{l:List cU}{i:Nat}(a:i<hY l)(b:sC l i=ez):l[i]∈rK l:=by unfold rK;exact qo.2 ⟨i,qD.2 ⟨qz.2 a,b⟩,gT _ a⟩
theorem acU{l:List cU}{r:cU}(h:r∈l):∃b∈rK l,nI b r=ez:=by
 have e:∀i (a:i<hY l),∃b∈rK l,nI b l[i]=ez:=by
  intro i
  induction i with
  |zero=>intro a;exact⟨l[0],Uf a (by unfold sC;simp),(me _ _).2 ⟨hZ,hZ,hZ⟩⟩
  |succ i ih=>
   intro a;cases hk:sC l (i+1)with
   |true=>exact⟨_,Uf a hk,(me _ _).2 ⟨hZ,hZ,hZ⟩⟩
   |false=>
    obtain⟨b,f,d⟩:=ih ii;unfold sC at hk;rw[Bool.or_eq_false_iff,Bool.not_eq_false']at hk;have c:=hk.2;rw[Nat.add_sub_cancel,gT _ a,gT _ (show i<hY l by omega)]at c;rw[me]at d c;exact⟨b,f,(me _ _).2 ⟨by rw[d.1,c.1],by rw[d.2.1,c.2.1],by rw[d.2.2,c.2.2]⟩⟩
 obtain⟨i,a,rfl⟩:=qB h;exact e i a
theorem jT{m:ak}{r:cU}:eU m r=ez↔ji r=ez/\r.p=m.p/\∃x∈m.objs,x.object=r.object/\r.block<(x.tries.length:Int)/\r.seed=cv r.object r.block (x.tries.getD r.block.toNat 0):=by unfold eU;rw[qy,qy,decide_eq_true_eq,List.any_eq_true];simp only[qy,decide_eq_true_eq]
theorem QD{m:ak}(d:bc m=ez){x y:Qw.cb}(e:x∈m.objs)(f:y∈m.objs)(h:x.object=y.object):x=y:=by
 have b:=zq.1 ((bU m).1 d).2.2.2.2.2.2;obtain⟨i,c,rfl⟩:=qB e;obtain⟨j,a,rfl⟩:=qB f;rcases yj i j with hl|rfl|hl
 .exact absurd h (b i j c a hl)
 .rfl
 .exact absurd h.symm (b j i a c hl)
theorem ZQ{m:ak}(d:bc m=ez){x y:Qw.cb}(e:x∈m.objs)(f:y∈m.objs)(h:x.name=y.name):x=y:=by
 have b:=zq.1 ((bU m).1 d).2.2.2.2.2.1;obtain⟨i,c,rfl⟩:=qB e;obtain⟨j,a,rfl⟩:=qB f;rcases yj i j with hl|rfl|hl
 .exact absurd h (AR (b i j c a hl))
 .rfl
 .exact absurd h.symm (AR (b j i a c hl))
def fH(m:ak)(C:Int->aL)(o b:Int):aL:=(splitB m.p (C o)).getD b.toNat []
def Dk(m:ak)(C:Int->aL)(r:cU):Prop:=r.data=tv m.p r.seed (fH m C r.object r.block) r.id
theorem acV{m:ak}{C:Int->aL}{r a:cU}(u:bc m=ez)(j:eU m r=ez)(o:eU m a=ez)(e:Dk m C r)(h:Dk m C a)(g:nI a r=ez):a=r:=by
 obtain⟨_,s,k,c,v,_,q⟩:=jT.1 j;obtain⟨_,i,x2,d,w,_,n⟩:=jT.1 o;rw[me]at g;obtain⟨b,f,t⟩:=g;have l:k=x2:=QD u c d (by rw[v,w,b]);subst l;have p:a.seed=r.seed:=by rw[q,n,b,f]
 unfold Dk at e h;cases r;cases a;simp only at*;subst b f t p;rw[s,i,e,h]
structure dN (m:ak) (C:Int->aL) (c:aL):Prop where
 old:∀r,dJ c=dB r->r.object<m.next
 tru:∀r,dJ c=dB r->eU m r=ez->Dk m C r
 page:∀g,cH c=dB g->g.seq<=m.seq/\(g.seq=m.seq->c∈aP m)
theorem nA{m:ak}{C:Int->aL}{l:bH}(o:bc m=ez)(k:∀c∈l,dN m C c){c:aL}(h:c∈l){r:cU}(i:dJ c=dB r)(e:eU m r=ez):r∈dQ m l:=by have b:r∈(l.filterMap (jd m)).mergeSort ro:=List.mem_mergeSort.2 (List.mem_filterMap.2 ⟨c,h,by unfold jd;rw[i];(try dsimp only);rw[f8 e]⟩);obtain⟨j,g,p⟩:=acU b;obtain⟨n,f,d,a⟩:=ug (m:=m) (l:=l) (r:=j) g;have:=acV o e a ((k c h).tru r i e) ((k n f).tru j d a) p;rw[<-this];exact g
theorem lh{m:ak}{l:bH}{r:cU}(h:r∈dQ m l):cF r∈l/\dJ (cF r)=dB r/\eU m r=ez:=by obtain⟨c,b,a,d⟩:=ug h;rw[(Vg a).1];exact⟨b,a,d⟩
theorem Gt{n:ak}(C:Int->aL){c:aL}(e:bc n=ez)(h:c∈aP n):dN n C c:=by
 have h0:=oq h;refine⟨λr a=>(by rw[h0]at a;cases a),λr a _=>(by rw[h0]at a;cases a),λg b=>?_⟩;rw[jo]at h;obtain⟨i,d,rfl⟩:=qo.1 h;rw[jg e (qz.1 d)]at b;injection b with b
 subst b;exact⟨Int.le_refl _,λ_=>by rw[jo];exact qo.2 ⟨i,d,hZ⟩⟩
theorem Gu{m:ak}{C:Int->aL}{l:bH}(d:bc m=ez)(e:∀c∈l,dN m C c):∀c∈bC m l,dN m C c:=λc a=>by
 rcases qt.1 a with h|h
 .exact Gt C d h
 .obtain⟨r,b,rfl⟩:=qo.1 h;exact e _ (lh b).1
theorem Lj{m:ak}{C:Int->aL}{d:ba}{N:Int}(e:bc m=ez)(b:∀c∈d.l,dN m C c):∀c∈(ct m d N).l,dN m C c:=λc a=>by
 unfold ct at a;split at a
 .exact b c a
 .exact Gu e b c a
theorem QE{m:ak}{C:Int->aL}{d:ba}{N:Int}(e:bc m=ez)(g:∀c∈d.l,dN m C c){r:cU}(a:cF r∈d.l)(b:dJ (cF r)=dB r)(f:eU m r=ez):cF r∈(ct m d N).l:=by
 unfold ct;split
 .exact a
 .exact List.mem_append_right _ (qo.2 ⟨r,nA e g a b f,hZ⟩)
theorem Dl{r:cU}(h:ji r=ez):cH (cF r)=et:=by
 have a:=oZ h;unfold cH cF;rw[f8 h,Ay]
 try dsimp only
 rw[f9 (by rintro⟨h,_⟩;exact absurd h i0)]
theorem Dm{m n:ak}{C D:Int->aL}{o b:Int}(a:n.p=m.p)(h:D o=C o):fH n D o b=fH m C o b:=by unfold fH;rw[a,h]
theorem Dk.congr{m n:ak}{C D:Int->aL}{r:cU}(a:n.p=m.p)(b:D r.object=C r.object)(h:Dk m C r):Dk n D r:=by unfold Dk at h⊢;rw[Dm a b,a];exact h
theorem Wy{m n:ak}{r:cU}(c:n.p=m.p)(a:∀x∈n.objs,x∈m.objs)(h:eU n r=ez):eU m r=ez:=by obtain⟨b,e,x,d,h3⟩:=jT.1 h;exact jT.2 ⟨b,by rw[e,c],x,a x d,h3⟩
theorem dN.next{m n:ak}{C:Int->aL}{c:aL}(h:dN m C c)(d:n.p=m.p)(j:m.next<=n.next)(k:m.seq<n.seq)(a:∀x∈n.objs,x∈m.objs):dN n C c:=
 ⟨λr b=>by have:=h.old r b;omega,λr b f=>(h.tru r b (Wy d a f)).congr d hZ,λg i=>by have:=(h.page g i).1;exact⟨ii,λe=>ii⟩⟩
def lW(C:Int->aL)(o:Int)(b:aL):Int->aL:=λk=>if k=o then b else C k
theorem dN.with{m:ak}{C:Int->aL}{e:Qw.cb}{b c:aL}(h:dN m C c)(o:e.object=m.next):dN (fB m e) (lW C m.next b) c:=by
 refine⟨λr a=>?_,λr a j=>?_,λg n=>?_⟩
 .have:=h.old r a;show r.object<m.next+1;omega
 .have l:=h.old r a;obtain⟨f,i,x,d,h3,k⟩:=jT.1 j;rcases xX.1 d with d|rfl
  .refine(h.tru r a (jT.2 ⟨f,i,x,d,h3,k⟩)).congr (m:=m) hZ ?_;unfold lW;rw[f9 ii]
  .omega
 .have:=(h.page g n).1;show g.seq<=m.seq+1/\(g.seq=m.seq+1->_)
  exact⟨ii,λe=>ii⟩
theorem aia{m:ak}{C:Int->aL}{e:Qw.cb}{b:aL}{seed:Int}{i id:Nat}(d:0<=seed/\seed<4294967296)(c:ji (kw m m.next i seed ((splitB m.p b).getD i []) id)=ez):
  dN (fB m e) (lW C m.next b) (cF (kw m m.next i seed ((splitB m.p b).getD i []) id)):=by
 have a:=lZ c d;refine⟨λr h=>?_,λr h j=>?_,λg h=>?_⟩
 .rw[a]at h;injection h with h;subst h
  show m.next<m.next+1;omega
 .rw[a]at h;injection h with h;subst h
  have f:fH (fB m e) (lW C m.next b) m.next (i:Int)=(splitB m.p b).getD i []:=by unfold fH lW;rw[f8 hZ,qj];rfl
  show tv m.p seed ((splitB m.p b).getD i []) id=tv (fB m e).p seed (fH (fB m e) (lW C m.next b) m.next (i:Int)) id;rw[f];rfl
 .rw[Dl c]at h;cases h
structure eJ (m:ak) (C:Int->aL) (ds:aD):Prop where
 may:bc m=ez
 len:ds.length=64
 cells:∀k d,aH ds k=dB d->∀c∈d.l,dN m C c
 ents:∀e∈m.objs,((C e.object).length:Int)=e.length/\cV m.p e.object (splitB m.p (C e.object)).length=dB e.tries
theorem eJ.old{m:ak}{C:Int->aL}{ds:aD}(S:eJ m C ds){e:Qw.cb}(a:e∈m.objs):e.object<m.next:=((gr m e).1 (((bU m).1 S.may).2.2.2.2.1 e a)).2.1.2
theorem sg{ds ds':aD}{f:Int->ba->ba}(h:∀k,aH ds' k=(aH ds k).map (f k)){k:Int}{d:ba}(a:aH ds' k=dB d):∃b,aH ds k=dB b/\d=f k b:=by
 rw[h]at a;cases h0:aH ds k with
 |none=>rw[h0]at a;cases a
 |some b=>rw[h0]at a;injection a with a;exact⟨b,hZ,a.symm⟩
theorem Ug{n:ak}{C:Int->aL}{b:bH}{d:ba}(e:∀c∈d.l,dN n C c)(f:∀c∈b,dN n C c):∀c∈(dD b d).l,dN n C c:=λc a=>by
 rw[xZ]at a;rcases qt.1 a with h|h
 .exact e c h
 .exact f c h
def uh(m:ak)(ds:aD)(t:az)(b:aL)(n:ak)(k:Int)(d:ba):ba:=
 if k∈aR ds m.drives then dD ((kg m m.next t (splitB m.p b) (aR ds m.drives) k (splitB m.p b).length).map cF++aP n) (ct m d (kY (aP n).length (fj m m.next t (splitB m.p b) (aR ds m.drives) (splitB m.p b).length) k))else d
theorem Uh{m:ak}{offs:Int}{w:Pow}{ds:aD}{C:Int->aL}{name:ByteArray}{b:aL}(A:w.calm)(S:eJ m C ds):
  ((∃e,e≠0/\di m offs w ds name b=(e,m,w,ds))/\((di m offs w ds name b).1=dY m (dE w offs) ds name b.length∨(dY m (dE w offs) ds name b.length=0/\((di m offs w ds name b).1=8/\cV m.p m.next (splitB m.p b).length=et∨(di m offs w ds name b).1=7/\∃t,cV m.p m.next (splitB m.p b).length=dB t/\dS m ds (aR ds m.drives) (kY (aP (fB m ⟨name,m.next,b.length,t⟩)).length (fj m m.next t (splitB m.p b) (aR ds m.drives) (splitB m.p b).length))=eH))))∨
  (dY m (dE w offs) ds name b.length=0/\∃t ds',cV m.p m.next (splitB m.p b).length=dB t/\di m offs w ds name b=(0,fB m ⟨name,m.next,b.length,t⟩,w,ds')/\eJ (fB m ⟨name,m.next,b.length,t⟩) (lW C m.next b) ds'/\
   ∀k,aH ds' k=(aH ds k).map (uh m ds t b (fB m ⟨name,m.next,b.length,t⟩) k)):=by
 obtain⟨u,x⟩:=Mq (offs:=offs) (name:=name) (b:=b) A S.len S.may;by_cases a:dY m (dE w offs) ds name b.length=0
 .obtain⟨G,s⟩:=x a;cases ht:cV m.p m.next (splitB m.p b).length with
  |none=>rw[G ht];exact .inl ⟨⟨8,i0,hZ⟩,.inr ⟨a,.inl ⟨hZ,hZ⟩⟩⟩
  |some t=>
   obtain⟨j,H,v⟩:=s t ht;cases hf:dS m ds (aR ds m.drives) (kY (aP (fB m ⟨name,m.next,b.length,t⟩)).length (fj m m.next t (splitB m.p b) (aR ds m.drives) (splitB m.p b).length))with
   |false=>rw[H hf];exact .inl ⟨⟨7,i0,hZ⟩,.inr ⟨a,.inr ⟨hZ,t,hZ,hf⟩⟩⟩
   |true=>
    obtain⟨ds',y,B,E⟩:=v hf;have g:∀k,aH ds' k=(aH ds k).map (uh m ds t b (fB m ⟨name,m.next,b.length,t⟩) k):=E;refine .inr ⟨a,t,ds',hZ,y,⟨j,B,λk d F=>?_,λe l=>?_⟩,g⟩
    .obtain⟨q,h0,rfl⟩:=sg g F;unfold uh;split
     .refine Ug (λc f=>(Lj S.may (S.cells k q h0) c f).with hZ) λc f=>?_;rcases qt.1 f with h|h
      .obtain⟨r,o,rfl⟩:=qo.1 h;obtain⟨i,id,rfl,z,hid⟩:=VZ o;obtain⟨I,J,z3,z4,z5⟩:=nv a;have n:=((dn m).1 ((bU m).1 S.may).1)
       have h8:=Gp n.2.2.1 λh=>z4 (.inl h);exact aia (iz _ _ _) (Ua S.may (by have:¬16777215<m.next:=λh=>z5 (.inr (.inl h));omega) h8 ht z hid)
      .exact Gt _ j h
     .exactλc f=>(S.cells k q h0 c f).with hZ
    .rcases xX.1 l with l|rfl
     .have D:=S.old l;have:lW C m.next b e.object=C e.object:=by unfold lW;rw[f9 ii]
      rw[this];exact S.ents e l
     .have:lW C m.next b m.next=b:=by unfold lW;rw[f8 rfl]
      show((lW C m.next b m.next).length:Int)=(b.length:Int)/\cV m.p m.next (splitB m.p (lW C m.next b m.next)).length=dB t;rw[this];exact⟨hZ,ht⟩
 .rw[u a];exact .inl ⟨⟨_,a,hZ⟩,.inl hZ⟩
theorem Wz{m n:ak}{offs:Int}{w:Pow}{ds:aD}{C:Int->aL}(z:w.calm)(S:eJ m C ds)(E:dE w offs=eH)(i:bc n=ez)(B:n.seq=m.seq+1)(l:n.p=m.p)(r:m.next<=n.next)(a:∀x∈n.objs,x∈m.objs):
  ((aR ds n.drives=[]∨dS m ds (aR ds n.drives) (λ_=>(hY (aP n):Int))=eH)/\cj m offs w ds n=(7,m,w,ds))∨
  ((aR ds n.drives≠[]/\dS m ds (aR ds n.drives) (λ_=>(hY (aP n):Int))=ez)/\∃ds',cj m offs w ds n=(0,n,w,ds')/\eJ n C ds'/\
   ∀k,aH ds' k=(aH ds k).map λd=>if k∈aR ds n.drives then dD (aP n) (ct m d (aP n).length)else d):=by
 obtain⟨u,v⟩:=yX (m:=m) (n:=n) (offs:=offs) (w:=w) (ds:=ds) z S.len E i B;by_cases g:aR ds n.drives=[]∨dS m ds (aR ds n.drives) (λ_=>(hY (aP n):Int))=eH
 .exact .inl ⟨g,u g⟩
 .have t:aR ds n.drives≠[]:=λh=>g (.inl h);have o:dS m ds (aR ds n.drives) (λ_=>(hY (aP n):Int))=ez:=by
   cases h:dS m ds (aR ds n.drives) (λ_=>(hY (aP n):Int))with
   |false=>exact absurd (.inr h) g
   |true=>rfl
  obtain⟨ds',y,A,s⟩:=v t o;refine .inr ⟨⟨t,o⟩,ds',y,⟨i,A,λk d j=>?_,λe D=>?_⟩,s⟩
  .obtain⟨q,h0,rfl⟩:=sg (f:=λk d=>if k∈aR ds n.drives then dD (aP n) (ct m d (aP n).length)else d) s j;split
   .exact Ug (λc b=>(Lj S.may (S.cells k q h0) c b).next l r ii a) λc b=>Gt C i b
   .exactλc b=>(S.cells k q h0 c b).next l r ii a
  .have:=S.ents e (a e D);rw[l];exact this
def nS(p:Int×Int×Int)(a:bH)(n:Int):aL:=if bK p=ez/\0<=n/\(hY a:Int)=countP p n/\(a.all λx=>decide (hY x=dX p))=ez then a.flatten.take n.toNat else[]
noncomputable def jq(m:ak)(ds:aD)(o:Int)(tries:az)(k:Nat):aL×Int:=lV m.p (cv o k (tries.getD k 0)) (eG m ds (aR ds m.drives) o k)
def JX(m:ak)(ds:aD)(k:Int):Bool:=match aH ds k with|some d=>fx m d.l|none=>eH
def sh(m:ak)(ds:aD):Bool:=(aR ds m.drives).any (JX m ds)
noncomputable def By(m:ak)(ds:aD)(e:cb):aL×Int:=
 if sh m ds=eH then([],11)else if((qx e.tries.length).all λk=>decide ((jq m ds e.object e.tries k).2=0))=ez then(nS m.p ((qx e.tries.length).map λk=>(jq m ds e.object e.tries k).1) e.length,0)else([],11)
noncomputable def jb(m:ak)(offs:Int)(w:Pow)(ds:aD)(name:ByteArray):aL×Int:=
 if dE w offs then([],14)else match m.objs.find? (gu name)with
 |none=>([],5)
 |some e=>By m ds e
def mP(m:ak)(ds:aD)(o b:Int):az:=(eG m ds (aR ds m.drives) o b).map qE
def QF(m:ak)(ds:aD)(e:cb):Bool:=sh m ds&&(qx e.tries.length).all λk=>fV m.p (cv e.object k (e.tries.getD k 0)) (mP m ds e.object k)
theorem JY(a:Nat)(b:aL):∀n,((qx n).map (ue a b)).flatten=b.take (n*a)++qg (n*a-hY b) 0
 |0=>i6
 |n+1=>by
  rw[zJ,qN,List.flatten_append,JY a b n,zM];simp only[zR,vH,List.flatten_cons,List.flatten_nil,qG];unfold ue;by_cases h:n*a<=hY b
  .have d:n*a-hY b=0:=ii
   rw[d,va,qG,<-qn,<-xA,List.drop_replicate,zc];congr 2;omega
  .have c:b.drop (n*a)=[]:=zd ii;rw[c,List.take_nil,List.nil_append,List.length_nil,List.drop_zero,qh ii,qh ii,qn,List.replicate_append_replicate];congr 2;omega
theorem GZ{p:Int×Int×Int}(a:bK p=ez)(n:Nat):n<=(countP p n).toNat*dX p:=by
 obtain⟨g,h,b⟩:=lS a;unfold countP;rw[a,zS];by_cases h0:0<(n:Int)
 .rw[g0 h0,f8 hZ,<-b];have f:=Int.emod_lt_of_pos ((n:Int)-1) (show(0:Int)<(dX p:Int)by omega);have d:=Int.mul_ediv_add_emod ((n:Int)-1) (dX p:Int);have h3:0<=((n:Int)-1)/(dX p:Int):=Int.ediv_nonneg ii ii;obtain⟨q,c⟩:=Int.eq_ofNat_of_zero_le h3;rw[c]at d⊢;have e:((q:Int)+1).toNat=q+1:=ii
  rw[e,zM];have:(dX p:Int)*(q:Int)=((q*dX p:Nat):Int):=by rw[Int.natCast_mul,Int.mul_comm]
  omega
 .omega
theorem WA{p:Int×Int×Int}(a:bK p=ez)(b:aL):nS p (splitB p b) b.length=b:=by
 unfold nS;rw[f8 ⟨a,ii,Fj a b,qK.2 λx c=>by
  unfold splitB at c;obtain⟨i,_,rfl⟩:=qo.1 c;exact g0 (EV _ _ _)⟩]
 have:=GZ a b.length;unfold splitB;rw[JY,qh this,qj,List.take_append_of_le_length (qm _),qM]
variable {m:ak} {ds:aD} {offs:Int}
section
variable {C:Int->aL} {w:Pow}
theorem Dn{o b k:Int}{x:Int×aL}(h:x∈il m ds o b k):∃d r,aH ds k=dB d/\r∈dQ m d.l/\r.object=o/\r.block=b/\x=(r.id,r.data):=by
 unfold il at h;cases hd:aH ds k with
 |none=>rw[hd]at h;cases h
 |some d=>
  rw[hd]at h;unfold xU at h;obtain⟨r,e,rfl⟩:=qo.1 h;obtain⟨c,a⟩:=qD.1 e;rw[qy,decide_eq_true_eq,decide_eq_true_eq]at a;exact⟨d,r,hZ,c,a.1,a.2,hZ⟩
theorem eJ.entry(S:eJ m C ds){e:Qw.cb}(a:e∈m.objs):gQ m e=ez:=((bU m).1 S.may).2.2.2.2.1 e a
theorem eJ.Ic(S:eJ m C ds):bK m.p=ez:=((dn m).1 ((bU m).1 S.may).1).2.2.1
theorem eJ.blocks(S:eJ m C ds){e:Qw.cb}(a:e∈m.objs):(splitB m.p (C e.object)).length=e.tries.length:=(jR (S.ents e a).2).symm
theorem eJ.fm(S:eJ m C ds){e:Qw.cb}(a:e∈m.objs){k:Nat}(b:k<e.tries.length):∃K H w n,co m.p (cv e.object k (e.tries.getD k 0)) (fH m C e.object k) K H w n:=by have h:=TZ S.Ic (S.ents e a).2 (i:=k) (by rw[S.blocks a];exact b);unfold fH;rw[qj];exact h
theorem eJ.sym(S:eJ m C ds){e:Qw.cb}(t:e∈m.objs){k:Nat}(A:k<e.tries.length){s:Int}{x:Int×aL}(h:x∈il m ds e.object k s):
  bW x.1=ez/\x.2=gq m.p.2.2.toNat (dG m.p (cv e.object k (e.tries.getD k 0)) (fH m C e.object k)) (dz (bG m.p).toNat (cv e.object k (e.tries.getD k 0)) x.1):=by
 obtain⟨d,r,u,l,b,g,rfl⟩:=Dn h;obtain⟨n,o,j⟩:=lh l;obtain⟨w,z,y,q,v,_,i⟩:=jT.1 j;have f:y=e:=QD S.may q t (by rw[v,b]);subst f;have hid:=((lq r).1 w).2.2.1;have a:bW r.id=ez:=by unfold bW;simp;omega
 have c:=(S.cells s d u _ n).tru r o j;unfold Dk at c;rw[b,g]at c;rw[b,g,qj]at i;refine⟨a,?_⟩;show r.data=_;rw[c,i];unfold tv;rw[f8 a]
theorem JZ{α β:Type}{f:α->β}:∀{l:List (α×β)},(∀x∈l,x.2=f x.1)->l=(l.map qE).map λi=>(i,f i)
 |[],_=>rfl
 |x::l,h=>by
  have a:=h x qF;have c:=JZ (l:=l) λy b=>h y (qA _ b);rw[zR,zR,<-c,<-a]
theorem eJ.syms(S:eJ m C ds){e:Qw.cb}(d:e∈m.objs){k:Nat}(f:k<e.tries.length)(a:az):
  eG m ds a e.object k=my m.p (cv e.object k (e.tries.getD k 0)) (dG m.p (cv e.object k (e.tries.getD k 0)) (fH m C e.object k)) ((eG m ds a e.object k).map qE)/\∀i∈(eG m ds a e.object k).map qE,bW i=ez:=by
 have c:∀x∈eG m ds a e.object k,bW x.1=ez/\x.2=gq m.p.2.2.toNat (dG m.p (cv e.object k (e.tries.getD k 0)) (fH m C e.object k)) (dz (bG m.p).toNat (cv e.object k (e.tries.getD k 0)) x.1):=λx b=>by
  unfold eG at b;obtain⟨s,_,b⟩:=List.mem_flatMap.1 b;exact S.sym d f b
 refine⟨JZ λx b=>(c x b).2,λi g=>?_⟩;obtain⟨x,b,rfl⟩:=qo.1 g;exact(c x b).1
theorem eJ.jq(S:eJ m C ds){e:Qw.cb}(b:e∈m.objs){k:Nat}(c:k<e.tries.length):
  Qw.jq m ds e.object e.tries k=if fV m.p (cv e.object k (e.tries.getD k 0)) (mP m ds e.object k)=ez then(fH m C e.object k,0)else([],9):=by
 obtain⟨K,H,w,n,B⟩:=S.fm b c;obtain⟨f,d⟩:=S.syms b c (aR ds m.drives);unfold Qw.jq;rw[f];by_cases a:fV m.p (cv e.object k (e.tries.getD k 0)) (mP m ds e.object k)=ez
 .rw[f8 a];exact B.dec d a
 .rw[f9 a];refine acT B.may (B.QC d) ?_;rw[Ib];exact eq_false_of_ne_true a
theorem eJ.By(S:eJ m C ds){e:Qw.cb}(b:e∈m.objs):Qw.By m ds e=if QF m ds e=ez then(C e.object,0)else([],11):=by
 have a:((qx e.tries.length).all λk=>decide ((Qw.jq m ds e.object e.tries k).2=0))=(qx e.tries.length).all λk=>fV m.p (cv e.object k (e.tries.getD k 0)) (mP m ds e.object k):=by
  rw[yK,qK,qK];refine forall_congr' λk=>forall_congr' λd=>?_;rw[S.jq b (qz.1 d)];cases fV m.p (cv e.object k (e.tries.getD k 0)) (mP m ds e.object k)with
  |true=>simp
  |false=>simp
 unfold Qw.By QF;rw[a];cases hw:sh m ds with
 |false=>rw[f8 hZ,Bool.false_and,f9 i0]
 |true=>
  rw[f9 i0,zS];cases hf:(qx e.tries.length).all λk=>fV m.p (cv e.object k (e.tries.getD k 0)) (mP m ds e.object k)with
  |false=>rw[f9 i0,f9 i0]
  |true=>
   rw[f8 hZ,f8 rfl];have f:((qx e.tries.length).map λk=>(Qw.jq m ds e.object e.tries k).1)=splitB m.p (C e.object):=by
    apply wk
    .simp[S.blocks b]
    .intro k c g;rw[z8,List.getElem_range];simp only[qu,List.length_range]at c;rw[S.jq b c,f8 (qK.1 hf k (qz.2 c))];unfold fH;rw[qj,gT _ g]
   rw[f,<-(S.ents e b).1,WA S.Ic]
theorem eJ.get(S:eJ m C ds)(f:dE w offs=eH)(name:ByteArray):
  (∀e∈m.objs,e.name=name->jb m offs w ds name=if QF m ds e=ez then(C e.object,0)else([],11))/\((∀e∈m.objs,e.name≠name)->jb m offs w ds name=([],5)):=by
 refine⟨λe b g=>?_,λc=>?_⟩
 .have a:m.objs.find? (gu name)=dB e:=by
   cases a:m.objs.find? (gu name)with
   |none=>
    have:=wg.1 a e b;exact absurd (by unfold gu;rw[g];simp) this
   |some y=>
    have d:=List.find?_some a;have i:=List.mem_of_find?_eq_some a;rw[ZQ S.may i b (by rw[g];exact Cy (by unfold gu at d;simpa using d))]
  unfold jb;rw[f,f9 i0,a];exact S.By b
 .have a:m.objs.find? (gu name)=et:=wg.2 λe b h=>c e b (Cy (by unfold gu at h;simpa using h));unfold jb;rw[f,f9 i0,a]
end
theorem Lk{a:Nat}:∀{l:bH},(∀x∈l,hY x=a)->hY l.flatten=hY l*a
 |[],_=>i6
 |x::l,h=>by
  rw[List.flatten_cons,qw,h x qF,Lk λy b=>h y (qA _ b),za,zM];omega
theorem WB(p:Pm)(l:Sl)(c:bH)(n:Int)(h:f7)(Q:fe h l 1 aB c)(hn:n<=2^20)(V:hY c<=2^10):
  ai xT 90 #[kb p,l,xJ xP n] h λv h'=>∃(r:Sl) (b:Bool),v=.tuple #[r,xN b]/\Sp h h' [EA (cz 1 aB) r (nS p c n)]:=by
 refine ts Tryz.func90 ?_ (v7 (ws [] [(6,8),(11,26)] (v7 (wj [(8,cM),(28,aU)] [(6,9),(10,11),(28,41)])))) (args:=[p,l,(n:Int)]);have s:=Q.len;refine(Sp.refl h).boxed λL R N=>?_;have g:∀{h':f7},Sp h h' [aj L 25 [xJ xP p.1,xJ xP p.2.1,xJ xP p.2.2]]->nS p c n=[]->∃(r:Sl) (b:Bool),(.tuple #[xK et 0 0,xN eH]:Value)=.tuple #[r,xN b]/\Sp h h' [EA (cz 1 aB) r (nS p c n)]:=λH' he=>by
  rw[he];exact⟨⟨et,0,0⟩,eH,hZ,(((H'.nil 5 1 aB).bt [1]).Aq 0 hZ λ_=>rfl)⟩
 refine aG ⟨p,(N.box 0 hZ).aA _ hZ,(eE p R).xc λU Y=>?_⟩;have z:=N.up Y.ac;refine⟨_,hZ,aW (λe=>g z (by unfold nS;rw[f9 (by rintro⟨h,_⟩;rw[e]at h;cases h)])) λX=>af (λe=>g z (by unfold nS;rw[f9 (by rintro⟨_,h,_⟩;omega)])) λe2=>?_⟩;have B:bK p=ez:=by simpa using X
 refine⟨p,(z.box 0 hZ).aA _ hZ,(pU p n U).xc λh3 R3=>?_⟩;have J:=z.up R3.ac;refine⟨_,hZ,bA (λe=>g J (by unfold nS;rw[f9 (by rintro⟨_,_,h,_⟩;rw[s]at e;exact e h)])) λP=>?_⟩;have F:(hY c:Int)=countP p n:=by rw[s]at P;exact P
 obtain⟨s1,s2,s3⟩:=lS B;refine aq (λt:Sl×Nat=>(t.1,(t.2:Int))) (λt h'=>t.2<=hY c/\(∀x∈c.take t.2,hY x=dX p)/\Sp h h' [aj L 25 [xJ xP p.1,xJ xP p.2.1,xJ xP p.2.2],an 5 t.1 1 aB (c.take t.2).flatten]) (λt=>hY c-t.2) (⟨et,0,0⟩,0) hZ ⟨i6,i6,J.nil 5 1 aB⟩ ?_;rintro⟨o,i⟩ W ⟨M,a,u⟩;dsimp only at M a u⊢;refine af (λe=>?_) λe=>?_
 .have f:i<hY c:=by have e':(i:Int)<(l.len:Int):=e;omega
  refine(Q.up u.ac).get i hZ f λr I=>⟨p,(u.box 0 hZ).aA _ hZ,(EX p W B).xc λh5 O=>?_⟩;have D:=u.up O.ac;have y:=I.len;refine⟨_,hZ,bA (λA=>?_) λA=>?_⟩
  .refine g (D.bt [0]) ?_;unfold nS;rw[f9];rintro⟨_,_,_,h⟩;have:=hU (qK.1 h _ (qf f));exact A (by rw[y,this])
  .have H:c[i].length=dX p:=by rw[y]at A;exact Int.ofNat_inj.1 A
   have w:=Lk a;rw[List.length_take_of_le M]at w;have hb:i*dX p<=2^10*2^10:=wA ii ii;refine D.append ae 1 hZ gN ⟨_,_,hZ,hZ⟩ hZ i0 (λ_=>rfl) (Seq.up I O.ac) ic ii λo' h6 Z=>?_;refine⟨(o',i+1),i7,⟨i4,?_,?_⟩,i4⟩
   .try dsimp only
    intro x m;rw[aE _ _ f]at m;rcases qt.1 m with m|m
    .exact a x m
    .rw[qp.1 m];exact H
   .try dsimp only
    rw[aE _ _ f,List.flatten_append];simpa using Z
 .rw[qh (by have e':¬(i:Int)<(l.len:Int):=e;omega)]at a u;have w:=Lk a;have j:=u.own 1 hZ;have E:=j.len;obtain⟨k,hk⟩:∃k:Nat,n=k:=⟨n.toNat,ii⟩
  subst hk;have d:=GZ B k;have G:(countP p (k:Int)).toNat=hY c:=ii
  rw[G,<-w,<-E]at d;have S:nS p c (k:Int)=c.flatten.take k:=by unfold nS;rw[f8 ⟨B,ii,F,qK.2 λx m=>g0 (a x m)⟩,qj]
  refine VA ae gN k hZ hZ (qQ d j.cap) ?_;refine⟨⟨o.ptr,k,k⟩,ez,hZ,?_⟩;rw[S];have D:=(u.bt [1]).Aq 0 hZ λ_=>rfl;refine D.eW 0 hZ λq T=>?_;have K:=Seq.take T k ii;exact⟨K.1,K.2⟩
variable {a:eS} {da:List bD}
section
variable {pw:eS} {w:Pow}
theorem SF(x:bh)(t:bc m=ez)(H:aa B h0 h (bf bi a pw (aM x) offs da w ds::bI x m::As)):
  ai xT 86 #[xL (dB a)] h λv h'=>v=xN (sh m ds)/\Sp h h' []:=by
 refine ts Tryz.func86 ?_;have G:=im t;have y:=gM t;refine(Sp.refl h).boxed λl N r=>?_;have p:=H.up r.ac;refine⟨dB a,(r.box 0 hZ).cell0 hZ,(fi x m (p.at 1 hZ) G p).x0 λI J o=>?_⟩;have c:=r.comp o;have K:hY (aR ds m.drives)<=64:=qQ (qU _ _) y;refine⟨I,hZ,(Mj 144 #[] #[xL (dB l)] (JX m ds) I (aR ds m.drives) J kt (o.seq 0 hZ λ_=>rfl) ii ?_).mono ?_⟩
 .intro k M h3 i;have g:=p.up (o.up i.ac).ac;have f:bQ h3 l 28 [xL (dB a)]:=(c.up i.ac).box 0 hZ;obtain⟨ok,F⟩:=aa.cE g;obtain⟨j,d,u,_⟩:=jF M;have A:=gv t k j;refine ts Tryz.func144 ?_ (args:=[(k:Int),l]);obtain⟨n,rfl⟩:∃n:Nat,k=n:=⟨k.toNat,ii⟩
  have z:n<hY da:=o9
  have L:eX h3 ((a.add 10).add ((n:Int).toNat*1))=dB (.pointer da[n]):=by rw[qj,wx];refine F.tI 10 n ?_;rw[pj ok.l8,qc z];rfl
  have q:gH da (n:Int)=da[n]:=by unfold gH;rw[f8 ii,qj,qc z];rfl
  obtain⟨b,s,O,e,_⟩:=BZ u g;refine⟨dB a,f.cell0 hZ,a,hZ,⟨ii,ii⟩,da[n],L,dB a,f.cell0 hZ,a,hZ,x,F.aA _ hZ,?_⟩;rw[<-q,e];refine(Qh x m u e (g.at 1 hZ) G g).xc λP E=>?_;have D:=(f.ac E.ac f.lt).cell0 hZ;refine⟨_,hZ,⟨D,D,x7⟩,?_,E⟩;unfold JX;rw[u]
 .rintro _ h3 ⟨rfl,i⟩;exact⟨_,hZ,hZ,.zip (c.up i.ac).ac⟩
theorem Ui{name:ByteArray}{l:List Qw.cb}{i:Int}(h:VI (gu name) l i):(i<0/\l.find? (gu name)=et)∨∃(n:Nat) (b:n<hY l),i=n/\l.find? (gu name)=dB l[n]:=by
 rcases h with⟨rfl,h⟩|⟨n,b,rfl,h1,h2⟩
 .exact .inl ⟨i0,wg.2 λe a=>wq.1 h e a⟩
 .refine .inr ⟨n,b,hZ,List.find?_eq_some_iff_append.2 ⟨h1,l.take n,l.drop (n+1),?_,λe a=>?_⟩⟩
  .rw[<-qL b,qC]
  .have:=wq.1 h2 e a;simpa using this
theorem acW(x:bh)(name:ByteArray)(N:bc m=ez)(L:∀k d,aH ds k=dB d->d.l.length<=512)(H:aa B h0 h (bf bi a pw (aM x) offs da w ds::bI x m::As)):
  ai xT 34 #[xL (dB a),xM name] h λv h'=>∃r:Sl,v=.tuple #[r,xJ xP (jb m offs w ds name).2]/\Sp h h' [EA (cz 1 aB) r (jb m offs w ds name).1]:=by
 refine ts Tryz.func34 ?_ (v7 (v7 (v7 (v7 (v7 (v7 (v7 (u7 (v7 (v1 (v2 [(8,cM),(37,aU)] [(4,6),(8,14),(37,76)] (v7 (v7 (u7 (v1 (v7 (ws [(11,cM)] [(11,12),(42,54)] (ws [(12,cM),(13,aU)] [(12,14),(54,69)] u9)))) u9)))))) u9)))))))) [(13,(.l [0,1,2,4,5,6,7,8,9,10,3,11,12])),(14,(.l [0,1,2,3,4,5,6,7,8,10,9,11,12,13,14,15,16]))];have hz:=im N;have a1:=gM N;have ah:(aR ds m.drives).length<=64:=qQ (qU _ _) a1;have f:∀{h':f7} (e:Int),Sp h h' []->jb m offs w ds name=([],e)->∃r:Sl,(.tuple #[xK et 0 0,xJ xP e]:Value)=.tuple #[r,xJ xP (jb m offs w ds name).2]/\Sp h h' [EA (cz 1 aB) r (jb m offs w ds name).1]:=λe R he=>by
  rw[he];exact⟨⟨et,0,0⟩,hZ,(R.nil 5 1 aB).Aq 0 hZ λ_=>rfl⟩
 refine(pq H).mono ?_;rintro _ h1 ⟨rfl,rfl⟩;refine⟨_,hZ,aY (λe=>f 14 (Sp.refl _) (by unfold jb;rw[f8 e])) λe1=>?_⟩;refine(find_spec x m name (H.at 1 hZ) hz H).mono ?_;rintro _ h2 ⟨⟨i,rfl,hi⟩,R2⟩;have H2:=H.up R2.ac;refine⟨i,hZ,?_⟩;rcases Ui hi with⟨hneg,hf⟩|⟨n,hn,rfl,hf⟩
 .exact af (λ_=>f 5 R2 (by unfold jb;rw[f9 ln,hf])) λe=>absurd hneg e
 refine af (λe=>absurd e (xH.2 (zW n))) λ_=>?_;obtain⟨E,hE⟩:=x6 (m.objs[n])
 have ax:E∈m.objs:=by rw[hE];exact qf hn
 have ep:jb m offs w ds name=By m ds E:=by unfold jb;rw[f9 ln,hf,hE]
 rw[ep]at f⊢;refine(SF x N H2).xc λh3 R3=>?_;have H3:=H2.up R3.ac;have J:=R2.up R3.ac;refine⟨_,hZ,aW (λe=>f 11 J (by unfold By;rw[f8 e])) λZ=>?_⟩;have Z:sh m ds=ez:=by simpa using Z
 have V:=(gr m E).1 (((bU m).1 N).2.2.2.2.1 E ax);have a5:E.tries.length<=8:=by have:=nP V.2.2.1.2;omega
 have ar:=((dn m).1 ((bU m).1 N).1).2.2.1;have a0:=(aa.cE H3).2;have ao:cR h1 x m:=H.at 1 hZ;obtain⟨ys,F⟩:=bN.fix ao.objs;have a3:=F.2.1;have s:=Fix.row F hn;obtain⟨xe,M⟩:=x6 (ys[n]'ii)
 rw[<-hE,<-M]at s;refine⟨a,hZ,x.2.2.2.2.2.2.2,a0.cell hZ,(Seq.up F.1 J.ac).de (g:=bY) n hZ ii xe (by rw[M]) ?_⟩;refine(Sp.refl h3).alloc ae hZ λa8 h4 Q4=>?_;refine Q4.storeAll ae 0 hZ hZ (bY xe) hZ hZ hZ hZ λh5 Q5=>?_;have R5:=J.comp Q5;have Q:Rd h1 xe.2.2.2 1 aw E.tries:=s.2;have a2:=Q.len;have eo:xe.2.1=E.object:=s.1.2.1;have el:xe.2.2.1=E.length:=s.1.2.2;have R5:=R5.Bf 34 5 1 aB;refine⟨xe.2.2.2,(Q5.box 0 hZ).cell hZ,?_⟩;refine aq (λt:Sl×Nat=>(t.1,(t.2:Int))) (λt h'=>t.2<=E.tries.length/\(∀j,j<t.2->(jq m ds E.object E.tries j).2=0)/\Sp h1 h' [gg t.1 ((qx t.2).map λj=>(jq m ds E.object E.tries j).1),aj a8 111 (bY xe)]) (λt=>E.tries.length-t.2) (⟨et,0,0⟩,0) hZ ⟨i6,λj u=>absurd u (Nat.not_lt_zero _),R5⟩ ?_;rintro⟨o,k⟩ h6 ⟨hk,z,y⟩;dsimp only at hk z y⊢;have H6:=H.up y.ac;have O:=(aa.cE H6).2;have T:cR h6 x m:=H6.at 1 hZ;have cp:∀{h':f7},bQ h' a 127 (bS (aM x) pw offs da)->bj h' (a.add 2) 0 [xJ xP m.p.1,xJ xP m.p.2.1,xJ xP m.p.2.2]:=λ{h'} hb=>by
  rw[<-T.p];exact⟨j6,j6,j6,x7⟩
 refine af (λe=>?_) λe=>?_
 .have K:k<E.tries.length:=by have e':(k:Int)<(xe.2.2.2.len:Int):=e;omega
  refine(Seq.up Q y.ac).bo k hZ K E.tries[k] hZ ?_;refine aG ⟨a,hZ,x,O.aA _ hZ,xe.2.1,(y.box 1 hZ).cell hZ,(fi x m T hz H6).x0 λlv h7 R7=>?_⟩;have H7:=H6.up R7.ac;have q:=(aa.cE H7).2;have W:=y.up R7.ac;refine⟨lv,hZ,⟨(W.box 1 hZ).cell hZ,q.cell0 hZ,q.cell hZ,q.cell hZ,q.cell hZ,q.cell hZ,q.cell hZ,q.cell hZ,q.cell hZ,x7⟩,?_⟩;rw[eo];refine(xV x m lv (aR ds m.drives) E.object k (H7.at 1 rfl) hz (R7.seq 0 rfl λ_=>rfl) ii (λj u=>by obtain⟨_,d,hd,_⟩:=jF u;exact⟨d,hd⟩) H7).mono ?_;rintro _ h8 ⟨r,ss,rfl,R8⟩;have H8:=H7.up R8.ac;have S:=(aa.cE H8).2;have A:=W.up R8.ac;refine⟨r,hZ,x7,aG ⟨a,hZ,m.p,cp S,xe.2.1,(A.box 1 hZ).cell hZ,(pW xe.2.1 k E.tries[k] h8).mono ?_⟩⟩;rintro _ Y ⟨rfl,rfl⟩;obtain⟨c1,c2,c3,_⟩:=cp S;have G:Fix mS 2 piv Y (λb=>b<Y.size) r ss (eG m ds (aR ds m.drives) E.object k):=R8.at 0 hZ;have ab:eu Gs Y r (eG m ds (aR ds m.drives) E.object k):=⟨ss,G.1,G.2.1,G.2.2⟩
  have a6:(eG m ds (aR ds m.drives) E.object k).length<=64*512:=by unfold eG;refine qQ (Gq (c:=512) λj u=>?_) (zF _ ah);obtain⟨_,d,hd,_⟩:=jF u;unfold il;rw[hd];have h1:=Dc m E.object k d.l;have h2:=L j d hd;show(xU m E.object k d.l).length<=512;omega
  rw[eo];refine⟨_,hZ,⟨c1,c2,c3,x7⟩,(JV m.p (cv E.object k E.tries[k]) r _ Y ab).x0 λam a7 I=>?_⟩;have eb:lV m.p (cv E.object k E.tries[k]) (eG m ds (aR ds m.drives) E.object k)=jq m ds E.object E.tries k:=by unfold jq;rw[gT 0 K]
  rw[eb]at I⊢;have U:=A.up I.ac;refine⟨(am,(jq m ds E.object E.tries k).2),hZ,x7,bA (λe4=>f 11 (.zip U.ac) ?_) λe4=>?_⟩
  .unfold By;rw[f9 (by rw[Z];decide),f9];intro P;exact e4 (hU (qK.1 P k (qz.2 K)))
  .have ad:=(A.comp I).aJ 3 [0,2,1];refine aa.Cp ae ad fF i5 λo' a4 al=>?_;refine⟨(o',k+1),i7,⟨i4,λj u=>?_,?_⟩,i4⟩
   .rcases zf.1 u with u|rfl
    .exact z j u
    .simpa using e4
   .try dsimp only
    rw[zJ,qN];exact al
 .have ay:k=E.tries.length:=by have e':¬(k:Int)<(xe.2.2.2.len:Int):=e;omega
  subst ay;refine⟨a,hZ,m.p,cp O,xe.2.2.1,(y.box 1 hZ).cell hZ,?_⟩;rw[el];have D:E.length<=2^20:=by obtain⟨⟨k1,k2⟩,_,z1,z2⟩:=(bP m.p).1 ar;have:m.p.1*m.p.2.2<=16*24:=Int.mul_le_mul k2 z2 ii ii;have:=V.2.2.1.2;omega
  refine(WB m.p o _ E.length h6 (y.uG λ_=>rfl) D i5).mono ?_;rintro _ a9 ⟨X,b,rfl,ap⟩;have eg:By m ds E=(nS m.p ((qx E.tries.length).map λk=>(jq m ds E.object E.tries k).1) E.length,0):=by unfold By;rw[f9 (by rw[Z];decide),f8 (qK.2 λj u=>g0 (z j (qz.1 u)))]
  rw[eg];exact⟨(X,b),hZ,x7,X,hZ,((y.comp ap).bt [2])⟩
end
def Ll(m:ak)(ds:aD)(o k:Int):Nat:=match aH ds k with|some d=>(dQ m d.l).countP (λr=>decide (r.object=o))|none=>0
def si(m:ak)(ds:aD)(live:az)(o:Int):Nat:=(live.map (Ll m ds o)).sum
def hJ(m:ak)(offs:Int)(w:Pow)(ds:aD)(name:ByteArray):(Int×Int×Int)×Int:=
 if dE w offs=ez then((0,0,0),14)else match m.objs.find? (gu name)with
 |none=>((0,0,0),5)
 |some e=>((e.length,(e.tries.length:Int),(si m ds (aR ds m.drives) e.object:Int)),0)
section
variable {pw:eS} {w:Pow}
abbrev Fz(s:Int×Int×Int)(t:Sl):aT:=[xJ xP s.1,xJ xP s.2.1,xJ xP s.2.2,t]
theorem afS(m:ak)(ds:aD)(o k:Int)(a:∀k d,aH ds k=dB d->hY d.l<=512):Ll m ds o k<=512:=by
 unfold Ll;cases hd:aH ds k with
 |none=>exact Nat.zero_le _
 |some d=>exact qQ vq (qQ (po m d.l) (a k d hd))
theorem Uj(m:ak)(ds:aD)(o:Int)(a:∀k d,aH ds k=dB d->hY d.l<=512):∀l:az,si m ds l o<=hY l*512
 |[]=>by simp[si]
 |k::l=>by
  have:=Uj m ds o a l;have:=afS m ds o k a;unfold si at*;rw[zR,List.sum_cons,za,zM];omega
theorem ZR(m:ak)(ds:aD)(o:Int)(l:az)(i:Nat)(a:i<hY l):si m ds (l.take (i+1)) o=si m ds (l.take i) o+Ll m ds o l[i]:=by unfold si;rw[zo a,qN,List.sum_append];simp
theorem ZS(x:bh)(name:ByteArray)(hm:bc m=ez)(G:∀k d,aH ds k=dB d->d.l.length<=512)(H:aa B h0 h (bf bi a pw (aM x) offs da w ds::bI x m::As)):
  ai xT 38 #[xL (dB a),xM name] h λv h'=>∃t:Sl,v=.tuple #[xO #[xJ xP (hJ m offs w ds name).1.1,xJ xP (hJ m offs w ds name).1.2.1,xJ xP (hJ m offs w ds name).1.2.2,t],xJ xP (hJ m offs w ds name).2]/\Sp h h' []:=by
 refine ts Tryz.func38 ?_ (v7 (v7 (v7 (v7 (v7 (ws [(8,(.sc .adr))] [(8,9),(30,39)] (u7 (v7 (v1 (v2 [(42,aU)] [(10,11),(12,13),(42,73)] (v7 (v7 (u7 (v1 (v7 (v7 (v1 (v2 [(58,aU)] [(12,13),(58,72)] u9))))) u9)))))) u9))))))) [(7,(.y [0,1,2,3,4,5,6] (.l [7,8,9,10]) (.l [9,7,8,10]))),(11,(.l [0,1,2,3,4,5,6,7,8,9,12,10,11]))];have hz:=im hm;have ca:=gM hm;have a8:(aR ds m.drives).length<=64:=qQ (qU _ _) ca;refine(Sp.refl h).alloc ae hZ λa1 h1 R1=>?_;have M:=H.up R1.ac;refine(pq M).xa ⟨_,hZ,aY (λe=>?_) λe1=>?_⟩
 .refine R1.storeAll ae 0 hZ hZ (Fz (0,0,0) ⟨et,0,0⟩) hZ hZ hZ hZ λh3 R3=>?_;refine⟨(0,0,0,⟨et,0,0⟩),(R3.box 0 hZ).aA _ hZ,⟨et,0,0⟩,?_,R3.bt []⟩;unfold hJ;rw[f8 e]
 refine(find_spec x m name (M.at 1 hZ) hz M).mono ?_;rintro _ h4 ⟨⟨i,rfl,hi⟩,R4⟩;have z:=R1.up R4.ac;have H4:=M.up R4.ac;refine⟨i,hZ,?_⟩;rcases Ui hi with⟨hneg,hf⟩|⟨n,hn,rfl,hf⟩
 .refine af (λ_=>?_) λe=>absurd hneg e;refine z.storeAll ae 0 hZ hZ (Fz (0,0,0) ⟨et,0,0⟩) hZ hZ hZ hZ λh3 R3=>?_;refine⟨(0,0,0,⟨et,0,0⟩),(R3.box 0 hZ).aA _ hZ,⟨et,0,0⟩,?_,R3.bt []⟩;unfold hJ;rw[f9 ln,hf]
 refine af (λe=>absurd e (xH.2 (zW n))) λ_=>?_;obtain⟨E,hE⟩:=x6 (m.objs[n])
 have b1:E∈m.objs:=by rw[hE];exact qf hn
 have ep:hJ m offs w ds name=((E.length,(E.tries.length:Int),(si m ds (aR ds m.drives) E.object:Int)),0):=by unfold hJ;rw[f9 ln,hf,hE]
 rw[ep];have bs:=(gr m E).1 (((bU m).1 hm).2.2.2.2.1 E b1);have c6:E.tries.length<=8:=by have:=nP bs.2.2.1.2;omega
 have a4:=(aa.cE H4).2;have a6:cR h4 x m:=H4.at 1 hZ;obtain⟨ys,F⟩:=bN.fix a6.objs;have cp:=F.2.1;have o:=Fix.row F hn;obtain⟨xe,X⟩:=x6 (ys[n]'ii)
 rw[<-hE,<-X]at o;refine⟨a,hZ,x.2.2.2.2.2.2.2,a4.cell hZ,F.1.de (g:=bY) n hZ ii xe (by rw[X]) ?_⟩;refine(Sp.refl h4).alloc ae hZ λK h6 Q6=>?_;refine Q6.storeAll ae 0 hZ hZ (bY xe) hZ hZ hZ hZ λh7 Q7=>?_;obtain⟨W,R7⟩:∃W,Sp h h7 [aj a1 41 W,aj K 111 (bY xe)]/\W.length=4:=⟨_,z.comp Q7,rfl⟩
 obtain⟨R7,z4⟩:=R7;have T:Rd h4 xe.2.2.2 1 aw E.tries:=o.2;have O:=T.len;have eo:xe.2.1=E.object:=o.1.2.1;have el:xe.2.2.1=E.length:=o.1.2.2;have a0:=Q7.ac;refine bB (λ(s:eS) h'=>∃t:Sl,Sp h h' [aj a1 41 W,aj K 111 (bY xe),aj s 41 (Fz (E.length,(E.tries.length:Int),0) t)]) ?_ ?_
 .have D:=R7.box 1 hZ;refine⟨xe.2.2.1,D.cell hZ,xe.2.2.2,D.cell hZ,xe.2.2.2,D.cell hZ,?_,?_⟩
  .refine(ij xe.2.2.2 E.tries h7 (T.up a0) ii).x0 λt h8 R8=>?_;have b7:=R7.up R8.ac;refine⟨t,hZ,jW R8.ac ⟨D.cell hZ,D.cell hZ,x7⟩,b7.alloc ae hZ λcs h9 R9=>?_⟩;have ax:=R9.box 1 hZ;refine⟨⟨ax.cell hZ,ax.cell hZ,x7⟩,R9.storeAll ae 2 hZ hZ (Fz (E.length,(E.tries.length:Int),0) t) (by rw[el,O];rfl) hZ hZ hZ λb5 R=>⟨x7,t,R⟩⟩
  .refine(Sp.refl h7).alloc ae hZ λdd a7 a2=>?_;have Z:=R7.comp a2;have f:=Z.box 1 hZ;refine⟨⟨f.cell hZ,f.cell hZ,f.cell hZ,x7⟩,?_⟩;refine(ij xe.2.2.2 E.tries a7 ((T.up a0).up a2.ac) ii).x0 λt dp ar=>?_;have ab:=Z.up ar.ac;refine⟨t,hZ,jW ar.ac ⟨f.cell hZ,f.cell hZ,x7⟩,ab.storeAll ae 2 hZ hZ (Fz (E.length,(E.tries.length:Int),0) t) (by rw[el,O];rfl) hZ hZ hZ λb5 R=>⟨x7,t,R⟩⟩
 rintro Y cr ⟨t,z⟩;have a3:=H.up z.ac;refine(fi x m (a3.at 1 hZ) hz a3).x0 λlv c8 q=>?_;obtain⟨live,A⟩:=x6 (aR ds m.drives)
 have bq:∀k∈live,k∈m.drives/\∃d,aH ds k=dB d/\d.lost=eH:=λk hk=>jF (by rw[<-A];exact hk);rw[<-A]at q a8⊢;have q:=z.comp q;have dk:=(q.own 3 hZ).len;refine⟨lv,hZ,?_⟩;refine aq (λi:Nat=>(i:Int)) (λi h'=>i<=live.length/\Sp h h' [aj a1 41 W,aj K 111 (bY xe),aj Y 41 (Fz (E.length,(E.tries.length:Int),(si m ds (live.take i) E.object:Int)) t),an 3 lv 1 aw live]) (λi=>live.length-i) 0 hZ ⟨ii,q⟩ ?_;rintro i ap ⟨hi,p⟩
 try dsimp only
 refine af (λe=>?_) λe=>?_
 .have S:i<live.length:=ii
  refine(p.seq 3 hZ λ_=>rfl).bo i hZ S live[i] hZ ?_;have U:=H.up p.ac;obtain⟨a9,d,hd,_⟩:=bq live[i] (qf S);have cl:=gv hm _ a9;obtain⟨ok,hb⟩:=aa.cE U;obtain⟨k,hk⟩:∃k:Nat,live[i]=k:=⟨live[i].toNat,ii⟩
  have ao:k<da.length:=o9
  have V:=ZR m ds E.object live i S;rw[hk]at hd V⊢;have cd:eX ap ((a.add 10).add ((k:Int).toNat*1))=dB (.pointer da[k]):=by rw[qj,wx];refine hb.tI 10 k ?_;rw[pj ok.l8,qc ao];rfl
  have bb:gH da (k:Int)=da[k]:=by unfold gH;rw[f8 ii,qj,qc ao];rfl
  obtain⟨b,sd,bl,bk,bd,b2,b0⟩:=BZ hd U;refine⟨a,hZ,⟨ii,ii⟩,da[k],cd,a,hZ,x,hb.aA _ hZ,?_⟩;rw[<-bb,bk];refine(uZ b pw d sd bl x m ap bd b2 b0 (U.at 1 hZ) hz).mono ?_;rintro _ c4 ⟨r7,yr,rfl,ad⟩;have b3:=qQ (po m d.l) (G _ d hd);have am:Ll m ds E.object k=(dQ m d.l).countP (λr=>decide (r.object=E.object)):=by unfold Ll;rw[hd]
  obtain⟨c,Q⟩:=x6 (dQ m d.l)
  rw[<-Q]at ad b3 am;have I:=p.comp ad;have F4:=I.eC 4 hZ;have c5:=F4.2.1;have cn:=F4.1.len;refine⟨r7,hZ,x7,?_⟩;have ay:=Uj m ds E.object G (live.take i);rw[qR,Nat.min_eq_left hi]at ay;obtain⟨P,br⟩:=x6 (si m ds (live.take i) E.object)
  rw[<-br]at I ay V;have cc:i*512<=64*512:=zF _ ii;refine aq (λj:Nat=>(j:Int)) (λj h'=>j<=c.length/\Sp h h' [aj a1 41 W,aj K 111 (bY xe),aj Y 41 (Fz (E.length,(E.tries.length:Int),((P+(c.take j).countP (λr=>decide (r.object=E.object)):Nat):Int)) t),an 3 lv 1 aw live,dI gD 8 cX r7 yr c]) (λj=>c.length-j) 0 hZ ⟨ii,I⟩ ?_;rintro j c1 ⟨hj,N⟩
  try dsimp only
  refine af (λe2=>?_) λe2=>?_
  .have ah:j<c.length:=ii
   have F5:=N.eC 4 hZ;obtain⟨⟨g1,_⟩,_⟩:=Fix.row F5 ah;have b6:j<yr.length:=ii
   refine F5.1.de (g:=cX) j hZ b6 yr[j] hZ ?_;refine N.alloc ae hZ λc7 c2 a5=>?_;refine a5.storeAll ae 5 hZ hZ (cX yr[j]) hZ hZ hZ hZ λc9 u=>?_;have cf:(c.take j).countP (λr=>decide (r.object=E.object))<=512:=qQ vq o0;have L:(c.take (j+1)).countP (λr=>decide (r.object=E.object))=(c.take j).countP (λr=>decide (r.object=E.object))+(if c[j].object=E.object then 1 else 0):=by rw[zo ah,List.countP_append,List.countP_singleton];simp
   refine⟨yr[j].1,(u.box 5 hZ).cell0 hZ,xe.2.1,(u.box 1 hZ).cell hZ,aX (λe3=>?_) λe3=>?_⟩
   .have e4:c[j].object=E.object:=by rw[<-g1,e3,eo]
    rw[f8 e4]at L;refine⟨((P+(c.take j).countP (λr=>decide (r.object=E.object)):Nat):Int),(u.box 2 hZ).cell hZ,u.storeAt ae 2 hZ hZ (off:=2) hZ hZ hZ i6 λcq al=>?_⟩;have ew:qe xP (((P+(c.take j).countP (λr=>decide (r.object=E.object)):Nat):Int)+1)=((P+(c.take j).countP (λr=>decide (r.object=E.object)):Nat):Int)+1:=ag _;refine⟨j+1,i9,⟨ii,?_⟩,ii⟩;rw[L];rw[ew]at al;have J:=al.bt [0,1,2,3,4];have e5:((P+((c.take j).countP (λr=>decide (r.object=E.object))+1):Nat):Int)=((P+(c.take j).countP (λr=>decide (r.object=E.object)):Nat):Int)+1:=ii
    rw[e5];exact J
   .have e4:¬c[j].object=E.object:=λh=>e3 (by rw[g1,h,eo]);rw[f9 e4,wE]at L;exact⟨j+1,i9,⟨ii,by rw[L];exact u.bt [0,1,2,3,4]⟩,ii⟩
  have b9:j=c.length:=ii
  subst b9;rw[qM,<-am,<-V]at N;exact⟨i+1,i9,⟨ii,N.bt [0,1,2,3]⟩,ii⟩
 have b4:i=live.length:=ii
 subst b4;rw[qM]at p;refine⟨(E.length,(E.tries.length:Int),(si m ds live E.object:Int),t),(p.box 2 hZ).aA _ hZ,?_⟩;refine p.storeAll ae 0 hZ hZ (Fz (E.length,(E.tries.length:Int),(si m ds live E.object:Int)) t) hZ hZ hZ (by rw[z4];rfl) λdj J=>?_;exact⟨(E.length,(E.tries.length:Int),(si m ds live E.object:Int),t),(J.box 0 hZ).aA _ hZ,t,hZ,J.bt []⟩
theorem acX(name:ByteArray)(f:bc m=ez)(H:aa B h0 h (bu a pw da offs w ds m::As)):
  ai xT 38 #[xL (dB a),xM name] h λv h'=>∃t:Sl,v=.tuple #[xO #[xJ xP (hJ m offs w ds name).1.1,xJ xP (hJ m offs w ds name).1.2.1,xJ xP (hJ m offs w ds name).1.2.2,t],xJ xP (hJ m offs w ds name).2]/\Sp h h' []:=by
 have b:=(jJ H).2;obtain⟨x,e⟩:=gc H;exact ZS x name f (λk d c=>qQ (b k d c).1 (b k d c).2.1) e
end
structure ajG (m:ak) (o:Int) (d:ba) (bad:Nat->Prop):Prop where
 lost:d.lost=eH
 pos:0<d.l.length
 len:d.l.length<=60
 cell:∀c∈d.l,c.length=64
 bad:∀j (hj:j<d.l.length),jz d.l[j]=et↔bad j
 cnt:∀c∈d.l,∀r,dJ c=dB r->eU m r=ez/\r.object=o
 apart:(d.l.filterMap (jd m)).Pairwise λa b=>nI a b=eH
end Go.Qw
