/- Lemmas for the proof of the law; no condition. -/
import Derived.Test.YtcjnjifdphcijaaGreatDoorKB
set_option maxHeartbeats 2000000
set_option linter.unusedVariables false
set_option linter.unusedSimpArgs false
open Go.Proofs.Tryz renaming prog -> xT
open Go.Value renaming agg -> xO, bool -> xN, int -> xJ, pointer -> xL, slice -> xK, string -> xM
open Go.IntKind renaming bits -> qI, i64 -> xP, u32 -> xR, u8 -> xQ, wrap -> qe
open List renaming all_cons -> xB, map_set -> vG, mem_filterMap -> yy, mem_of_find?_eq_some -> wW, range -> qx, range' -> zT, replicate -> qg, set_append_left -> vB, zipWith -> zg
open Prod renaming fst -> qE, snd -> zi
open BitVec renaming ofInt -> qP
set_option maxRecDepth 100000
open Option renaming some -> dB, none -> et
open Bool renaming true -> ez, false -> eH
open Go renaming Addr -> eS
open Go.Qw renaming Heap -> f7
open List renaming length -> hY
open Go.Qw.cN renaming two -> u7, n -> u9, inn -> v1, loop -> v2, join -> v6, tn -> v7, lp -> wj, jn -> ws
namespace Go.Qw
open Go.Proofs
def tz(p:Pm)(extra:Int)(l:az):Int:=
 if(fQ l).2&&(bK p&&fR extra 0 16)then
  if(bm l l.length).any λi=>decide (l.getD i.toNat 0<(hY (aP (cx p extra l)):Int))then 7 else 0
 else 1
theorem VW(p:Pm)(extra:Int)(w:Pow)(l:az):dH p extra w l=if tz p extra l=0 then layAll (bM (cx p extra l) (bm l l.length)) w (iP l (bm l l.length).length)else(tz p extra l,w,[]):=by
 unfold dH tz;by_cases h:((fQ l).2&&(bK p&&fR extra 0 16))=ez
 .rw[f8 h,f8 h];by_cases a:((bm l l.length).any λi=>decide (l.getD i.toNat 0<(hY (aP (cx p extra l)):Int)))=ez
  .rw[f8 a,f8 a];rfl
  .rw[f9 a,f9 a];rfl
 .rw[f9 h,f9 h];rfl
theorem JF{p:Pm}{extra:Int}{l:az}(h:tz p extra l=0):bK p=ez/\0<=extra/\extra<=16/\(fQ l).2=ez/\((bm l l.length).any λi=>decide (l.getD i.toNat 0<(hY (aP (cx p extra l)):Int)))=eH:=by
 unfold tz at h;by_cases a:((fQ l).2&&(bK p&&fR extra 0 16))=ez
 .rw[f8 a]at h;by_cases b:((bm l l.length).any λi=>decide (l.getD i.toNat 0<(hY (aP (cx p extra l)):Int)))=ez
  .rw[f8 b]at h;cases h
  .unfold fR at a;simp only[qy,decide_eq_true_eq]at a;exact⟨a.2.1,a.2.2.1,a.2.2.2,a.1,j9⟩
 .rw[f9 a]at h;cases h
def fx(m:ak)(l:bH):Bool:=bc m&&(aP m).all λp=>decide (p∈l)
theorem Zc(a:eS)(e:Sl)(p:aL)(l:Sl)(b:Cells)(h:f7)(t:bQ h a 34 [e])(u:Rd h e 1 aB p)(n:fe h l 1 aB b)(w:hY b<=2^30):
  ai xT 209 #[l,.func (.func 210) #[] #[xL (dB a)]] h λv h'=>v=xN (decide (p∈b))/\h'=h:=by
 refine ts Tryz.func209 ?_ (args:=[l,(.func (.func 210) #[] #[xL (dB a)])]);refine(ot l (210,#[],#[xL (dB a)]) (R:=λv h'=>(∃i:Int,v=xJ xP i/\(decide (i>=0)=decide (p∈b)))/\h'=h) ?_).mono ?_
 .skip
  have q:=n.len;refine aq (λi:Nat=>(i:Int)) (λi h'=>i<=hY b/\p∉b.take i/\h'=h) (λi=>hY b-i) 0 hZ ⟨ii,i6,hZ⟩ ?_;rintro i g ⟨m,d,rfl⟩;refine af (λj=>?_) (λj=>?_)
  .have c:i<hY b:=by have s:(i:Int)<(l.len:Int):=j;omega
   refine n.get i hZ c λr o=>dV kt ?_;refine(HM r a (R:=λv h'=>v=xN (decide (b[i]=p))/\h'=g) ?_).mono ?_
   .skip
    refine⟨e,t.cell0 hZ,(ku r e b[i] p g o u).xa ?_⟩;exact⟨_,hZ,hZ,hZ⟩
   .rintro _ _ ⟨rfl,rfl⟩;refine⟨_,hZ,af (λk=>⟨⟨i,hZ,?_⟩,hZ⟩) λk=>?_⟩
    .rw[g0 (show(i:Int)>=0 by omega),g0 (by rw[<-k];exact qf c)]
    .refine⟨i+1,i9,⟨ii,λf=>?_,hZ⟩,ii⟩;rw[aE _ _ c]at f;rcases qt.1 f with f|f
     .exact d f
     .exact k (qp.1 f).symm
  .have s:¬(i:Int)<(l.len:Int):=j;rw[qh ii]at d;exact⟨⟨-1,hZ,by rw[g9 d];rfl⟩,hZ⟩
 .rintro _ g ⟨⟨i,rfl,m⟩,rfl⟩;exact⟨i,hZ,o5,hZ⟩
theorem VX(a pw:eS)(d:ba)(s b:Sl)(x:bh)(m:ak)(h:f7)(M:bQ h a 155 (ft pw d s b))(W:fe h s 1 aB d.l)(ok:gO d)(K:cR h x m)(G:cC m):
  ai xT 145 #[xL (dB a),dK x] h λv h'=>v=xN (fx m d.l)/\Sp h h' []:=by
 refine ts Tryz.func145 ?_ (v7 (v7 (v7 (wj [(16,aU)] [(4,5),(7,8),(16,25)])))) (args:=[(dB a),x]);have N:=ok.len;have H:=ok.room;refine(Sp.refl h).boxed λa1 O D=>?_;refine⟨x,(D.box 0 hZ).aA _ hZ,(CS x m O (K.up D.ac) G).xc λY Q=>?_⟩;have u:=D.up Q.ac;refine⟨_,hZ,aW (λg=>⟨by unfold fx;rw[g];rfl,.zip u.ac⟩) λg=>?_⟩;refine(uW s b (M.ac u.ac M.lt) (W.up u.ac) ok).x0 λB h3 U=>?_;have z:=u.comp U;refine⟨B,hZ,x,(z.box 0 hZ).aA _ hZ,(mu x m h3 (K.up z.ac) G).x0 λw Z T=>?_⟩;have q:=z.comp T;have A:=ke m G;obtain⟨c,k⟩:=x6 (aP m)
 rw[<-k]at q A;have P:=(aa.tj (q.aJ 3 [2])).1;refine⟨w,hZ,?_⟩;obtain⟨rs,q⟩:=(q.bt [2,1]).Pw λ_=>rfl;refine aq (λi:Nat=>(i:Int)) (λi h'=>i<=hY c/\((c.take i).all λp=>decide (p∈d.l))=ez/\Sp h h' [dI (cz 1 aB) 1 bn w rs c,gg B d.l]) (λi=>hY c-i) 0 hZ ⟨ii,i6,q⟩ ?_;rintro i X ⟨hi,f,y⟩;have V:=(y.eC 0 hZ).2.1;refine af (λe=>?_) (λe=>?_)
 .have j:i<hY c:=by have S:(i:Int)<(w.len:Int):=e;omega
  refine(y.eC 0 hZ).1.mQ i hZ ii ?_;obtain⟨r,J⟩:=x6 (rs[i]'ii)
  rw[<-J];refine y.alloc ae hZ λI h6 R=>?_;refine R.storeAll ae 2 hZ hZ [r] hZ hZ hZ hZ λL o=>?_;have t:Rd L r 1 aB c[i]:=by rw[J];exact Fix.row (o.eC 0 hZ) j
  have F:=aa.uG (o.aJ 2 [1]) λ_=>rfl;refine(Zc I r c[i] B d.l L (o.box 2 hZ) t F ii).xa ⟨_,hZ,aW (λE=>⟨?_,.zip o.ac⟩) λE=>?_⟩
  .have:fx m d.l=eH:=by unfold fx;rw[g,zS,<-k];exact List.all_eq_false.2 ⟨c[i],qf j,by rw[E];simp⟩
   rw[this]
  .refine⟨i+1,i9,⟨ii,?_,o.bt [0,1]⟩,ii⟩;rw[aE _ _ j,List.all_append,f,xB,List.all_nil,E];rfl
 .have:i=hY c:=by have S:¬(i:Int)<(w.len:Int):=e;omega
  subst this;rw[qM]at f;exact⟨by unfold fx;rw[g,<-k,f];rfl,.zip y.ac⟩
theorem acw{w:Pow}(h:w.calm){S:az}(P:List (Int×aL))(ds:aD)(F:Fit ds S (P.map qE))(c:∀x∈P,x.1∈S/\x.2.length=64):
  (layAll P w ds).1=0/\Fit (layAll P w ds).2.2 S []/\∀s,aH (layAll P w ds).2.2 s=(JE ds P s).map λd=>if s∈cI (P.map qE)then{d with wait:=0,laid:=[],has:=eH}else d:=by
 obtain⟨f,g,a3⟩:=Fh h P ds F c;have j:=rc h P ds;unfold layAll
 try dsimp only
 rw[f8 f,j];obtain⟨e,l,k⟩:=De h (S:=S) (cI (P.map qE)) (lJ P w ds).2.2 g λx b=>by
  unfold cI at b;have a:=(qD.1 b).2;obtain⟨y,i,rfl⟩:=qo.1 (hU a);exact(c y i).1
 exact⟨e,l,λs=>by rw[k s,a3 s]⟩
theorem DH(l:az)(k:Nat):(bm l k).Pairwise (·<·):=by unfold bm;refine List.Pairwise.filter _ (List.pairwise_map.2 ?_);exact(List.pairwise_lt_range (n:=k)).imp λh=>ii
theorem afF{l:az}{most:Int}(c:l.Pairwise (·<·))(d:∀x∈l,0<=x/\x<=most):pH l most=ez:=by
 unfold pH;refine tk λi b=>?_;unfold ko fR;have e:l.getD i 0=l[i]:=by rw[qd,qc b];rfl
 have:=d l[i] (qf b);rw[e,g0 this.1,g0 this.2,zS,zS];by_cases h0:i=0
 .rw[g0 h0];rfl
 .have a:l.getD (i-1) 0=l[i-1]:=by rw[qd,qc ii];rfl
  rw[a,g0 (List.pairwise_iff_getElem.1 c (i-1) i ii b ii),Bool.or_true]
theorem HV{p:Pm}{extra:Int}{l:az}(h:hY l<=64)(f:tz p extra l=0):bc (cx p extra l)=ez:=by
 obtain⟨a,e,h3,_⟩:=JF f;have b:lD (cx p extra l)=ez:=by unfold lD fR cx;simp[a,e,h3]
 have c:pH (cx p extra l).drives 63=ez:=afF (DH l l.length) λx d=>by
  obtain⟨n,g,rfl,_⟩:=(vz l l.length x).1 d;omega
 unfold bc;rw[b,c];rfl
theorem DI(p:Pm)(extra:Int)(l:az)(a:hY l<=24):hY (aP (cx p extra l))<=1:=by
 unfold aP dC;rw[qu,zC];have b:=pX l l.length;have:hY (bO (cx p extra l))<=19+24:=by
  unfold bO;split
  .simp only[qw,cw,za,yp,qu,cx,z6];omega
  .simp
 omega
theorem Zd{ds:aD}{k:Int}{d:ba}(h:aH ds k=dB d):cu ds k d=ds:=by
 unfold aH at h;split at h
 .rename_i c;unfold cu;cases hx:ds[k.toNat]? with
  |none=>rw[hx]at h;cases h
  |some o=>
   rw[hx]at h;have h:o=dB d:=h;subst h;obtain⟨b,a⟩:=qk.1 hx;rw[<-a,List.set_getElem_self]
 .cases h
theorem Ze(l:List (Int×aL))(k:Int):(l.map qE).count k=hY (l.filter λy=>decide (y.1=k)):=by
 induction l with
 |nil=>rfl
 |cons y l ih=>
  rw[List.map_cons,List.count_cons,ih,zr];by_cases h:y.1=k
  .rw[f8 (g0 h),f8 j4];rfl
  .rw[f9 j4,f9 j4];rfl
theorem Fi(n:ak)(k:Int):∀{live:az},live.Nodup->k∈live->((bM n live).filter λy=>decide (y.1=k)).map zi=aP n
 |[],_,hk=>by cases hk
 |x::live,hnd,hk=>by
  have e:bM n (x::live)=(aP n).map (λc=>(x,c))++bM n live:=by unfold bM;rw[zb]
  obtain⟨i,d⟩:=ya.1 hnd;rw[e,zm,qN];by_cases a:x=k
  .subst a;have f:((aP n).map λc=>(x,c)).filter (λy=>decide (y.1=x))=(aP n).map (λc=>(x,c)):=List.filter_eq_self.2 λy b=>by
    obtain⟨c,_,rfl⟩:=qo.1 b;exact g0 hZ
   have j:(bM n live).filter (λy=>decide (y.1=x))=[]:=wV.2 λy b=>by
    have:=(ly b).1;have g:y.1≠x:=λh=>i (h▸this);simpa using g
   rw[f,j,vH,qG,wN];exact List.map_id _
  .have f:((aP n).map λc=>(x,c)).filter (λy=>decide (y.1=k))=[]:=wV.2 λy b=>by
    obtain⟨c,_,rfl⟩:=qo.1 b;simpa using a
   rw[f,vH,List.nil_append];rcases qT.1 hk with h|h
   .exact absurd h.symm a
   .exact Fi n k d h
theorem afG{p:Pm}{seed:Int}{d:Row}{K H w n:Nat}(B:co p seed d K H w n)(id:Int):tv p seed d id=if bW id then gq w (dG p seed d) (dz n seed id)else[]:=by unfold tv;rw[B.pO,show p.2.2.toNat=w by have:=B.s;omega]
theorem PY{m:ak}{o i seed:Int}{d:Row}{id:Int}{K H w n:Nat}(B:co m.p seed d K H w n)(a:0<=o/\o<=16777215)(c:0<=i/\i<=7)(hid:0<=id/\id<=65535):ji (kw m o i seed d id)=ez:=by
 rw[lq];refine⟨a,c,hid,B.may,?_⟩;have b:bW id=ez:=by unfold bW;rw[g0 hid.1,g0 hid.2];rfl
 show(hY (tv m.p seed d id):Int)=m.p.2.2;rw[afG B id,f8 b,B.Ya id,B.s]
def sa(m:ak)(o:Int)(tries:az)(a:bH)(live:az)(k:Int)(i:Nat):List cU:=
 ((qx (m.p.1+m.extra).toNat).filter λid=>decide (fS (dM o i live) (id:Nat)=k)).map λid:Nat=>kw m o i (cv o i (tries.getD i 0)) (a.getD i []) id
def kg(m:ak)(o:Int)(tries:az)(a:bH)(live:az)(k:Int)(n:Nat):List cU:=(qx n).flatMap (sa m o tries a live k)
theorem PZ(m:ak)(o:Int)(tries:az)(a:bH)(live:az)(k:Int)(n:Nat):kg m o tries a live k (n+1)=kg m o tries a live k n++sa m o tries a live k n:=by unfold kg;rw[zJ,q9,zb,z6,qG]
theorem Qa(m:ak)(o:Int)(tries:az)(a:bH)(live:az)(k:Int)(i:Nat):((nu m o tries a live i).filter λy=>decide (y.1=k)).map zi=(sa m o tries a live k i).map cF:=by unfold nu sa;rw[List.filter_map,wN,wN];rfl
theorem DJ(m:ak)(o:Int)(tries:az)(a:bH)(live:az)(k:Int):∀n,((fj m o tries a live n).filter λy=>decide (y.1=k)).map zi=(kg m o tries a live k n).map cF
 |0=>by simp[fj,kg]
 |n+1=>by rw[tw,PZ,zm,qN,qN,DJ m o tries a live k n,Qa]
theorem VY{m:ak}{o:Int}{tries:az}{a:bH}{live:az}{k:Int}{i:Nat}{r:cU}(h:r∈sa m o tries a live k i):∃id:Nat,r=kw m o i (cv o i (tries.getD i 0)) (a.getD i []) id/\id<(m.p.1+m.extra).toNat:=by unfold sa at h;obtain⟨id,b,rfl⟩:=qo.1 h;exact⟨id,hZ,qz.1 (qD.1 b).1⟩
theorem VZ{m:ak}{o:Int}{tries:az}{a:bH}{live:az}{k:Int}{n:Nat}{r:cU}(h:r∈kg m o tries a live k n):∃(i id:Nat),r=kw m o i (cv o i (tries.getD i 0)) (a.getD i []) id/\i<n/\id<(m.p.1+m.extra).toNat:=by unfold kg at h;obtain⟨i,d,b⟩:=zI.1 h;obtain⟨id,c,h3⟩:=VY b;exact⟨i,id,c,qz.1 d,h3⟩
def ct(m:ak)(d:ba)(n:Int):ba:=if ik d d.l.length n then d else{d with l:=bC m d.l,wait:=0,laid:=[],has:=eH}
theorem Wa{m:ak}{r:cU}(h:eU m r=ez):ji r=ez:=by unfold eU at h;simp only[qy]at h;exact h.1
theorem acx{l:List cU}{r:cU}(h:r∈rK l):r∈l:=by unfold rK at h;obtain⟨i,a,rfl⟩:=qo.1 h;have a:=qz.1 (qD.1 a).1;rw[qd,qc a];exact qf a
theorem JG{m:ak}{c:aL}{r:cU}(h:jd m c=dB r):dJ c=dB r/\eU m r=ez:=by
 unfold jd at h;cases hc:dJ c with
 |none=>rw[hc]at h;cases h
 |some x=>
  rw[hc]at h;dsimp only at h;by_cases a:eU m x=ez
  .rw[f8 a]at h;injection h with h;subst h;exact⟨hZ,a⟩
  .rw[f9 a]at h;cases h
theorem ug{m:ak}{l:bH}{r:cU}(h:r∈dQ m l):∃c∈l,dJ c=dB r/\eU m r=ez:=by have h:=wF.1 (acx h);obtain⟨c,a,b⟩:=yy.1 h;exact⟨c,a,JG b⟩
theorem rf(m:ak)(l:bH):∀c∈bC m l,hY c=64:=λc a=>by
 rcases qt.1 a with h|h
 .exact tU h
 .obtain⟨r,b,rfl⟩:=qo.1 h;obtain⟨_,_,_,d⟩:=ug b;exact Hx (Wa d)
theorem xW{w:Pow}(a:w.calm){d:ba}{l:bH}(g:∀c∈l,hY c=64)(f:d.lost=eH)(h:hY l<=d.room):d.rewrite w l=(0,w,{d with l:=l,wait:=0,laid:=[],has:=eH}):=by unfold ba.rewrite;have:l.all (λb=>decide (hY b=64))=ez:=qK.2 λc e=>g0 (g c e);rw[f9 (by simp[this]),f9 qa,f9 ii,f9 (by simp[a.1]),md a];rfl
theorem JH{w:Pow}(e:w.calm){m:ak}{d:ba}{n:Int}(h:ir m d n=ez):fG m w d n=(0,w,ct m d n):=by
 have h0:=h;unfold ir at h;rw[qy,wb,wM]at h;obtain⟨c,b⟩:=h;unfold fG ct;rw[f9 n8,f9 (by simp[h0])];by_cases a:ik d d.l.length n=ez
 .rw[f8 a,f8 a]
 .rw[f9 a,f9 a];have h3:ik d (bC m d.l).length n=ez:=by
   rcases b with b|b
   .exact absurd b a
   .exact b
  unfold ik at h3;rw[decide_eq_true_eq]at h3;exact xW e (rf m d.l) c ii
theorem Qb(m:ak)(ds:aD)(k:Int)(l:az)(N:Int->Int):dS m ds (k::l) N=(ov m ds k (N k)&&dS m ds l N):=xB
theorem sH{m:ak}{ds:aD}{k n:Int}(h:ov m ds k n=ez):∃d,aH ds k=dB d/\ir m d n=ez:=by
 unfold ov at h;cases hd:aH ds k with
 |none=>rw[hd]at h;cases h
 |some d=>rw[hd]at h;exact⟨d,hZ,h⟩
theorem oT(ds:aD)(k:Int)(d:ba):hY (cu ds k d)=hY ds:=by unfold cu;simp
theorem ib{ds:aD}{k:Int}{b d:ba}(a:hY ds=64)(c:aH ds k=dB b)(s:Int):aH (cu ds k d) s=if s=k then dB d else aH ds s:=by obtain⟨n,rfl,e⟩:=mb c;exact BX ds n d s e a
theorem Nm{m:ak}{ds ds':aD}{l:az}{N:Int->Int}(h:∀k∈l,aH ds k=aH ds' k):dS m ds l N=dS m ds' l N:=by unfold dS;rw[yK,qK,qK];refine forall_congr' λk=>forall_congr' λa=>?_;unfold ov;rw[h k a]
theorem Df{w:Pow}(j:w.calm){m:ak}{N:Int->Int}:∀{live:az} {ds:aD},live.Nodup->hY ds=64->dS m ds live N=ez->
  ∃ds',makes m N live w ds=(0,w,ds')/\ds'.length=64/\∀k,aH ds' k=(aH ds k).map λd=>if k∈live then ct m d (N k)else d
 |[],ds,_,h64,_=>⟨ds,hZ,h64,λk=>by cases aH ds k<;>simp⟩
 |k::live,ds,hnd,h64,hf=>by
  rw[Qb,qy]at hf;obtain⟨f,b⟩:=ya.1 hnd;obtain⟨d,i,g⟩:=sH hf.1;have e:jm m w ds k (N k)=(0,w,cu ds k (ct m d (N k))):=by unfold jm;rw[i];(try dsimp only);rw[JH j g]
  have a:=ib (d:=ct m d (N k)) h64 i;have h:dS m (cu ds k (ct m d (N k))) live N=ez:=by
   rw[<-Nm (ds:=ds) λs c=>?_]
   .exact hf.2
   .rw[a,f9 λo:s=k=>f (o▸c)]
  obtain⟨ds',l,n,h3⟩:=Df j b (by rw[oT];exact h64) h;refine⟨ds',?_,n,λs=>?_⟩
  .show(if(jm m w ds k (N k)).1=0 then makes m N live (jm m w ds k (N k)).2.1 (jm m w ds k (N k)).2.2 else jm m w ds k (N k))=_;rw[e];exact l
  .rw[h3 s,a];by_cases c:s=k
   .subst c;rw[f8 hZ,i];simp[f]
   .rw[f9 c];simp[c]
theorem Dg{m:ak}{d:ba}{n:Int}(h:ir m d n=ez):(ct m d n).lost=eH/\(ct m d n).room=d.room/\((ct m d n).l.length:Int)+max n 0<=d.room:=by
 unfold ir at h;rw[qy,wb,wM]at h;obtain⟨c,b⟩:=h;unfold ct;by_cases a:ik d d.l.length n=ez
 .rw[f8 a];unfold ik at a;rw[decide_eq_true_eq]at a;exact⟨c,hZ,ii⟩
 .rw[f9 a];have h3:ik d (bC m d.l).length n=ez:=by
   rcases b with b|b
   .exact absurd b a
   .exact b
  unfold ik at h3;rw[decide_eq_true_eq]at h3;exact⟨c,hZ,i4⟩
theorem Si(a:ByteArray):fK a a=eH:=XQ _
theorem Zf{a b:ByteArray}(h:kp a b=ez)(c:a≠b):fK a b=ez:=by
 rcases(IW a b).1 h with h|h
 .exact h
 .exact absurd (Cy h) c
theorem AR{a b:ByteArray}(h:fK a b=ez):a≠b:=λe=>by subst e;rw[Si]at h;cases h
theorem ahS:Ord tW:=⟨λa b c d e=>Em _ _ _ d e,λa b=>En _ _⟩
theorem xX{m:ak}{x e:cb}:e∈(fB m x).objs↔e∈m.objs∨e=x:=by show e∈(m.objs++[x]).mergeSort tW↔_;rw[wF];simp
theorem Zg{name:ByteArray}{l:List Qw.cb}(h:l.any (gu name)=eH):∀e∈l,e.name≠name:=λe a b=>by
 have:=wq.1 h e a;unfold gu at this;rw[b]at this;simp at this
theorem Zh{m:ak}{x:Qw.cb}(G:bc m=ez)(f:lC x.name=ez)(k:∀e∈m.objs,e.name≠x.name)(i:x.object=m.next)(N:m.objs.length<=11)(I:m.next<=16777215)(M:m.seq<=2147483646)
  (n:0<=x.length/\x.length<=m.p.1*m.p.2.2*8) (z:∀t∈x.tries,0<=t/\t<=15) (y:(x.tries.length:Int)=countP m.p x.length):bc (fB m x)=ez:=by
 obtain⟨u,w,h3,J,s,D,E⟩:=(bU m).1 G;obtain⟨K,L,a3,a4⟩:=(dn m).1 u;have c:(fB m x).objs.Perm (m.objs++[x]):=List.mergeSort_perm _ _;have j:∀e∈m.objs,e.object<m.next:=λe l=>((gr m e).1 (s e l)).2.1.2;refine(bU _).2 ⟨(dn _).2 ⟨⟨?_,?_⟩,⟨?_,?_⟩,a3,a4⟩,w,h3,?_,λe l=>?_,?_,?_⟩
 .show 1<=m.seq+1;omega
 .show m.seq+1<=_;omega
 .show 0<=m.next+1;omega
 .show m.next+1<=_;omega
 .rw[c.length_eq];simp;omega
 .rcases xX.1 l with l|rfl
  .obtain⟨v,H,F,B,A⟩:=(gr m e).1 (s e l);exact(gr _ e).2 ⟨v,⟨H.1,by show _<m.next+1;omega⟩,F,B,A⟩
  .exact(gr _ _).2 ⟨f,⟨ii,by show _<m.next+1;omega⟩,n,z,y⟩
 .have d:(m.objs++[x]).Pairwise (λa b:Qw.cb=>a.name≠b.name):=ye.2 ⟨D.imp λh=>AR h,List.pairwise_singleton _ _,λa q b r=>by rw[qp.1 r];exact k a q⟩;have g:=(c.pairwise_iff (R:=λa b:Qw.cb=>a.name≠b.name) λ{a b} h=>Ne.symm h).2 d;have o:(fB m x).objs.Pairwise (λa b=>tW a b=ez):=(Ek ahS (m.objs++[x])).1;exact(o.and g).imp λh=>Zf h.1 h.2
 .have d:(m.objs++[x]).Pairwise (λa b:Qw.cb=>a.object≠b.object):=ye.2 ⟨E,List.pairwise_singleton _ _,λa q b r=>by rw[qp.1 r,i];have:=j a q;omega⟩;exact(c.pairwise_iff (R:=λa b:Qw.cb=>a.object≠b.object) λ{a b} h=>Ne.symm h).2 d
theorem Sj{p:Pm}{o:Int}{n:Nat}{t:az}(h:cV p o n=dB t):∀x∈t,0<=x/\x<=15:=λx c=>by
 obtain⟨i,d,rfl⟩:=qB c;obtain⟨k,b,a⟩:=AM h i d;have:=(EW a).1;rw[b];omega
theorem Fj{p:Pm}(a:bK p=ez)(b:aL):(hY (splitB p b):Int)=countP p b.length:=by have:=(mF a b.length).1;unfold splitB;rw[qu,zC];omega
theorem acy{m:ak}{d:Bool}{ds:aD}{name:ByteArray}{b:aL}{t:az}(g:bc m=ez)(i:dY m d ds name b.length=0)(f:cV m.p m.next (splitB m.p b).length=dB t):bc (fB m ⟨name,m.next,hY b,t⟩)=ez:=by
 obtain⟨n,l,z3,z4,z5⟩:=nv i;have k:¬m.p.1*m.p.2.2*8<(hY b:Int):=λh=>z4 (.inl h);have c:hY m.objs<=11:=by have:¬12<=hY m.objs:=λh=>z4 (.inr h);omega
 have a:m.next<=16777215:=by have:¬16777215<m.next:=λh=>z5 (.inr (.inl h));omega
 have e:m.seq<=2147483646:=by have:¬2147483647<=m.seq:=λh=>z5 (.inr (.inr h));omega
 have j:=((dn m).1 ((bU m).1 g).1).2.2.1;refine Zh g l (Zg z3) hZ c a e ⟨by show 0<=(hY b:Int);omega,by show(hY b:Int)<=_;omega⟩ (Sj f) ?_;show(hY t:Int)=countP m.p b.length;rw[jR f,Fj j]
def dD(a:bH)(d:ba):ba:=if a.isEmpty then d else{d with l:=d.l++a,wait:=0,laid:=[],has:=eH}
def lT(P:List (Int×aL))(s:Int):bH:=(P.filter λx=>decide (x.1=s)).map zi
theorem Qc{P:List (Int×aL)}{s:Int}(h:∀x∈P,x.1≠s):lT P s=[]:=by unfold lT;rw[wV.2 λx a=>by simpa using h x a];rfl
theorem Qd(P:List (Int×aL))(s:Int):hY (lT P s)=(P.map qE).count s:=by unfold lT;rw[qu];exact(Qw.Ze P s).symm
theorem Bw{l:az}{s:Int}(h:0<=s/\s<64):s∈cI l↔s∈l:=by unfold cI;rw[qD,decide_eq_true_eq];refine⟨λh=>h.2,λh'=>⟨?_,h'⟩⟩;exact qo.2 ⟨s.toNat,qz.2 ii,ii⟩
theorem JI{w:Pow}(m:w.calm){ds:aD}{P:List (Int×aL)}(j:hY ds=64)
  (a:∀x∈P,hY x.2=64/\∃d,aH ds x.1=dB d/\d.lost=eH/\d.l.length+hY (lT P x.1)<=d.room):
  ∃ds',layAll P w ds=(0,w,ds')/\ds'.length=64/\∀s,aH ds' s=(aH ds s).map (dD (lT P s)):=by
 have F:Fit ds (P.map qE) (P.map qE):=⟨j,λk r=>by
  obtain⟨x,f,rfl⟩:=qo.1 r;obtain⟨_,d,g,i,h3⟩:=a x f;rw[Qd]at h3;exact⟨d,g,i,h3⟩⟩
 obtain⟨p,q,a3⟩:=Qw.acw m P ds F λx f=>⟨qo.2 ⟨x,f,rfl⟩,(a x f).1⟩
 refine⟨(layAll P w ds).2.2,?_,q.len,λs=>?_⟩
 .have i:=acv m P ds;exact vf p (vf i hZ)
 .rw[a3 s];unfold JE;cases hd:aH ds s with
  |none=>rfl
  |some d=>
   obtain⟨c,e⟩:=ahR hd;rw[qS,qS,qS];congr 1;unfold dD;have n:s∈P.map qE↔(lT P s).isEmpty=eH:=by rw[<-List.count_pos_iff,<-Qd];cases hc:lT P s<;>simp
   by_cases b:(lT P s).isEmpty=ez
   .have h0:lT P s=[]:=List.isEmpty_iff.1 b;have g:(P.filter λx=>decide (x.1=s))=[]:=List.map_eq_nil_iff.1 h0;rw[f9 (λh=>by rw[Bw ⟨c,e⟩,n]at h;rw[h]at b;cases b),f8 b,g];simp
   .have o:(lT P s).isEmpty=eH:=j9
    rw[f8 ((Bw ⟨c,e⟩).2 (n.2 o)),f9 b];rfl
theorem pv{n:ak}{live:az}(a:live.Nodup)(s:Int):lT (bM n live) s=if s∈live then aP n else[]:=by
 by_cases h:s∈live
 .rw[f8 h];exact Fi n s a h
 .rw[f9 h];exact Qc λx c b=>h (b▸(ly c).1)
theorem acz(m:ak)(o:Int)(tries:az)(a:bH)(live:az)(k:Int)(n:Nat):lT (fj m o tries a live n) k=(kg m o tries a live k n).map cF:=DJ m o tries a live k n
theorem HW{m:ak}(h:bc m=ez):aP m≠[]:=by unfold aP dC bO;rw[f8 h];intro e;have:=congrArg List.length e;simp[cw]at this;omega
theorem xY{ds:aD}{l:az}(h:l.Nodup):(aR ds l).Nodup:=h.filter _
theorem jF{ds:aD}{l:az}{k:Int}(h:k∈aR ds l):k∈l/\∃d,aH ds k=dB d/\d.lost=eH:=by
 obtain⟨b,a⟩:=qD.1 h;unfold isLive at a;cases hd:aH ds k with
 |none=>rw[hd]at a;cases a
 |some d=>rw[hd]at a;exact⟨b,d,hZ,j5⟩
theorem se{ds:aD}{l:az}{k:Int}:k∈aR ds l↔k∈l/\∃d,aH ds k=dB d/\d.lost=eH:=by refine⟨jF,λ⟨h1,d,h2,h3⟩=>qD.2 ⟨h1,?_⟩⟩;unfold isLive;rw[h2];simp[h3]
theorem xZ(a:bH)(d:ba):(dD a d).l=d.l++a:=by
 unfold dD;by_cases h:a.isEmpty=ez
 .rw[f8 h,List.isEmpty_iff.1 h,qG]
 .rw[f9 h]
theorem nw(a:bH)(d:ba):(dD a d).lost=d.lost/\(dD a d).room=d.room:=by unfold dD;split<;>exact⟨hZ,hZ⟩
theorem acA{a b:bH}(h:b≠[])(d:ba):dD b (dD a d)=dD (a++b) d:=by
 have e:∀c:bH,c≠[]->∀d,dD c d={d with l:=d.l++c,wait:=0,laid:=[],has:=eH}:=λc g d=>by
  unfold dD;rw[f9 m0]
 by_cases f:a=[]
 .subst f;rfl
 .rw[e a f,e b h,e (a++b) u6];simp
theorem Mp(a:Nat)(l:List (Int×aL))(k:Int):kY a l k=a+hY (lT l k):=by unfold kY lT;rw[qu]
theorem TZ{p:Pm}{o:Int}{b:aL}{t:az}(d:bK p=ez)(c:cV p o (splitB p b).length=dB t){i:Nat}(g:i<hY (splitB p b)):∃K H w n,co p (cv o i (t.getD i 0)) ((splitB p b).getD i []) K H w n:=by
 have q:=jR c;obtain⟨k,j,a⟩:=AM c i ii;have l:Jq p o i k=ez:=(EW a).2.1;have e:t.getD i 0=(k:Int):=by rw[gT 0];exact j
 rw[e];refine Vn d l ?_;have f:=(bP p).1 d;have m:0<=p.1*p.2.2:=Int.mul_nonneg ii ii;have h:(splitB p b)[i]=ue (dX p) b i:=by simp[splitB]
 rw[gT [] g,h,EV];unfold dX;omega
theorem Ua{m:ak}{b:aL}{t:az}(d:bc m=ez)(f:m.next<=16777215)(h8:hY (splitB m.p b)<=8)(c:cV m.p m.next (splitB m.p b).length=dB t){i id:Nat}(g:i<hY (splitB m.p b))(hid:id<(m.p.1+m.extra).toNat):
  ji (kw m m.next i (cv m.next i (t.getD i 0)) ((splitB m.p b).getD i []) id)=ez:=by
 have a:=((dn m).1 ((bU m).1 d).1)
 have e:=(bP m.p).1 a.2.2.1;obtain⟨K,H,w,n,B⟩:=TZ a.2.2.1 c g;exact PY B ⟨a.2.1.1,f⟩ ii ii
theorem Mq{m:ak}{offs:Int}{w:Pow}{ds:aD}{name:ByteArray}{b:aL}(K:w.calm)(L:hY ds=64)(B:bc m=ez):
  (dY m (dE w offs) ds name b.length≠0->di m offs w ds name b=(dY m (dE w offs) ds name b.length,m,w,ds))/\
  (dY m (dE w offs) ds name b.length=0->(cV m.p m.next (splitB m.p b).length=et->di m offs w ds name b=(8,m,w,ds))/\∀t,cV m.p m.next (splitB m.p b).length=dB t->
   let live:=aR ds m.drives;let l:=fj m m.next t (splitB m.p b) live (splitB m.p b).length;let n:=fB m ⟨name,m.next,hY b,t⟩;let N:=kY (aP n).length l
   bc n=ez/\(dS m ds live N=eH->di m offs w ds name b=(7,m,w,ds))/\(dS m ds live N=ez->∃ds',di m offs w ds name b=(0,n,w,ds')/\ds'.length=64/\
    ∀k,aH ds' k=(aH ds k).map λd=>if k∈live then dD ((kg m m.next t (splitB m.p b) live k (splitB m.p b).length).map cF++aP n) (ct m d (N k))else d)):=by
 refine⟨λh=>by unfold di;rw[f8 h],λh=>⟨λs=>by unfold di;rw[f9 j4,s],λt s=>?_⟩⟩;intro live l n N;have D:bc n=ez:=acy B h s;obtain⟨z1,z2,z3,z4,z5⟩:=nv h;have q:=((dn m).1 ((bU m).1 B).1)
 have M:¬m.p.1*m.p.2.2*8<(hY b:Int):=λh=>z4 (.inl h);have h8:=Gp q.2.2.1 M;have Q:live≠[]:=λh=>z5 (.inl h);have r:0<=m.next/\m.next<=16777215:=⟨q.2.1.1,by have:¬16777215<m.next:=λh=>z5 (.inr (.inl h));omega⟩
 have f:live.Nodup:=xY (mq B);have F:∀k∈live,0<=k/\k<64:=λk a=>gv B k (jF a).1;have e:di m offs w ds name b=(if dS m ds live N=eH then(7,m,w,ds)else if(makes m N live w ds).1≠0 then((makes m N live w ds).1,m,(makes m N live w ds).2)else
   if(layAll l (makes m N live w ds).2.1 (makes m N live w ds).2.2).1≠0 then((layAll l (makes m N live w ds).2.1 (makes m N live w ds).2.2).1,m,(layAll l (makes m N live w ds).2.1 (makes m N live w ds).2.2).2)else
   ((layAll (bM n live) (layAll l (makes m N live w ds).2.1 (makes m N live w ds).2.2).2.1 (layAll l (makes m N live w ds).2.1 (makes m N live w ds).2.2).2.2).1,if(layAll (bM n live) (layAll l (makes m N live w ds).2.1 (makes m N live w ds).2.2).2.1 (layAll l (makes m N live w ds).2.1 (makes m N live w ds).2.2).2.2).1=0 then n else m,(layAll (bM n live) (layAll l (makes m N live w ds).2.1 (makes m N live w ds).2.2).2.1 (layAll l (makes m N live w ds).2.1 (makes m N live w ds).2.2).2.2).2)):=by
  unfold di;rw[f9 j4,s]
 refine⟨D,λo=>by rw[e,f8 o],λo=>?_⟩;rw[e,f9 (by rw[o];decide)];obtain⟨S,Z,m2,T⟩:=Df K (N:=N) f L o;rw[Z]
 try dsimp only
 rw[f9 i6];have z:∀y∈l,y.1∈live:=λy v=>(PX r Q F h8 v).1;have u:∀y∈l,hY y.2=64:=λy v=>by
  obtain⟨i,hi,v⟩:=zI.1 v;obtain⟨id,hid,rfl⟩:=qo.1 v;exact Hx (Ua B r.2 h8 s (qz.1 hi) (qz.1 hid))
 have c:∀k∈live,∃d,aH S k=dB d/\d.lost=eH/\(hY d.l:Int)+max (N k) 0<=d.room:=λk a=>by
  obtain⟨_,d,hd,ab⟩:=jF a;have I:=qK.1 o k a;obtain⟨d',J,G⟩:=sH I;obtain⟨Y,r2,r3⟩:=Dg G;refine⟨ct m d' (N k),?_,Y,by rw[r2];exact r3⟩;rw[T k,J,qS,f8 a]
 obtain⟨W,l1,l2,R⟩:=JI K (ds:=S) (P:=l) m2 λx g=>by
  obtain⟨d,E,H,U⟩:=c x.1 (z x g);refine⟨u x g,d,E,H,?_⟩;have:N x.1=_:=Mp _ _ _;omega
 rw[l1]
 try dsimp only
 rw[f9 i6];obtain⟨d3,p1,V,X⟩:=JI K (ds:=W) (P:=bM n live) l2 λx g=>by
  obtain⟨A,j⟩:=ly g;obtain⟨d,E,H,U⟩:=c x.1 A;refine⟨j,dD (lT l x.1) d,by rw[R,E,qS],by rw[(nw _ _).1];exact H,?_⟩;have:N x.1=_:=Mp _ _ _;rw[(nw _ _).2,xZ,pv f,f8 A,qw];omega
 rw[p1];refine⟨d3,hZ,V,λk=>?_⟩;rw[X k,R k,T k,Option.map_map,Option.map_map];congr 1;funext d;show dD (lT (bM n live) k) (dD (lT l k) (if k∈live then ct m d (N k)else d))=_;rw[pv f];by_cases a:k∈live
 .rw[f8 a,f8 a,f8 a];have O:lT l k=(kg m m.next t (splitB m.p b) live k (splitB m.p b).length).map cF:=acz _ _ _ _ _ _ _;rw[O,acA (HW D)]
 .rw[f9 a,f9 a,f9 a,Qc (P:=l) λx g (he:x.1=k)=>a (he▸z x g)];rfl
theorem JJ(l:az)(c:hY l<=64)(s:Int):aH (iP l (bm l l.length).length) s=if s∈bm l l.length then dB (ba.new (l.getD s.toNat 0).toNat)else et:=by
 by_cases a:0<=s/\s<64
 .unfold aH iP;rw[f8 a,qO,List.getElem?_range ii,qS,qh (qm _)];have e:((s.toNat:Nat):Int)=s:=ii
  rw[e];by_cases h:s∈bm l l.length
  .rw[f8 h];rfl
  .rw[f9 h];rfl
 .rw[f9 λh=>?_]
  .unfold aH;rw[f9 a]
  .obtain⟨n,b,rfl,_⟩:=(vz l l.length s).1 h;omega
theorem Zi{p:Pm}{extra:Int}{l:az}(f:hY l<=64)(d:tz p extra l=0):
  ∃D,dH p extra Pow.new l=(0,Pow.new,D)/\D.length=64/\∀s,aH D s=if s∈bm l l.length then dB ⟨(l.getD s.toNat 0).toNat,aP (cx p extra l),0,[],eH,eH⟩else et:=by
 have m:=HV f d;have c:(bm l l.length).Nodup:=(DH l l.length).imp λh e=>ii
 have b:=(JF d).2.2.2.2;rw[VW,f8 d];obtain⟨D,i,k,h3⟩:=JI gI (ds:=iP l (bm l l.length).length) (P:=bM (cx p extra l) (bm l l.length)) (RS _ _) λx j=>by
  obtain⟨a,g⟩:=ly j;refine⟨g,ba.new (l.getD x.1.toNat 0).toNat,by rw[JJ l f,f8 a],hZ,?_⟩;rw[pv c,f8 a];have:=wq.1 b x.1 a;simp only[decide_eq_true_eq]at this;show 0+_<=(l.getD x.1.toNat 0).toNat;omega
 refine⟨D,i,k,λs=>?_⟩;rw[h3,JJ l f,pv c];by_cases h:s∈bm l l.length
 .rw[f8 h,f8 h,f8 h,qS];unfold dD;rw[f9 (by simpa using HW m)];rfl
 .rw[f9 h,f9 h,f9 h];rfl
theorem JK(m:ak):hY (aP m)=(hY (bO m)+47)/48:=by unfold aP dC;rw[qu,zC]
theorem Zj(x:Qw.cb):(ge x).length=6+x.name.size+x.tries.length:=by unfold ge;simp[cw];omega
theorem Mr{m:ak}(h:bc m=ez):hY (bO m)=14+hY m.drives+hY (m.objs.flatMap ge):=by unfold bO;rw[f8 h];simp only[qw,cw,za,yp,qu];omega
theorem nP{p:Pm}{n:Int}(h:n<=p.1*p.2.2*8):countP p n<=8:=by
 unfold countP;split
 .rename_i a;rw[qy,decide_eq_true_eq]at a;have:=(bP p).1 a.1;have b:0<p.1*p.2.2:=Int.mul_pos ii ii;have:(n-1)/(p.1*p.2.2)<8:=Int.ediv_lt_of_lt_mul b (by rw[Int.mul_comm 8];omega);omega
 .decide
theorem afH{m:ak}{x:Qw.cb}(h:gQ m x=ez):hY (ge x)<=26:=by
 obtain⟨a,e,h3,b,c⟩:=(gr m x).1 h;have:=nP h3.2;have d:x.name.size<=12:=by unfold lC at a;simp at a;omega
 rw[Zj];omega
theorem Gq{α β:Type}{f:α->List β}{c:Nat}:∀{l:List α},(∀x∈l,hY (f x)<=c)->hY (l.flatMap f)<=hY l*c
 |[],_=>i6
 |x::l,h=>by
  have b:=h x qF;have d:=Gq (l:=l) λy a=>h y (qA _ a);rw[zb,qw,za,Nat.succ_mul];omega
theorem acB{m:ak}(h:bc m=ez):hY (aP m)*48<=61+hY m.drives+hY m.objs*26:=by have:=Gq (f:=ge) (l:=m.objs) λx a=>afH (((bU m).1 h).2.2.2.2.1 x a);have b:=Mr h;rw[JK];omega
theorem ahT{m:ak}(h:bc m=ez):hY (aP m)<=9:=by have a:=acB h;have b:=gM h;have h3:=((bU m).1 h).2.2.2.1;omega
def cj(m:ak)(offs:Int)(w:Pow)(ds:aD)(n:ak):Int×ak×Pow×aD:=
 if dE w offs then(14,m,w,ds)else if !bc n||decide (n.seq≠m.seq+1)then(1,m,w,ds)else
 let live:=aR ds n.drives;let N:Int->Int:=λ_=>(hY (aP n):Int)
 if live=[]∨dS m ds live N=eH then(7,m,w,ds)else
 if(makes m N live w ds).1≠0 then((makes m N live w ds).1,m,(makes m N live w ds).2)else
 let a:=layAll (bM n live) (makes m N live w ds).2.1 (makes m N live w ds).2.2
 (a.1,if a.1=0 then n else m,a.2)
theorem im{m:ak}(h:bc m=ez):cC m:=by
 obtain⟨f,p,h3,g,d,o,q⟩:=(bU m).1 h;have l:=gM h;refine⟨ii,ii,λe c=>?_⟩;obtain⟨a,j,b,k,i⟩:=(gr m e).1 (d e c);have:=nP b.2;have n:e.name.size<=12:=by unfold lC at a;simp at a;omega
 omega
variable {B:av} {h0 h:f7} {As:List HP} {a:eS} {offs:Int} {da:List bD} {w:Pow} {ds:aD}
section
variable {pw:eS}
theorem GS(x:bh)(m:ak)(z:bh)(n:ak)(U:St B h0 As λh=>cR h z n)(hz:cC m)(j:cC n)(am:-1<=m.seq/\m.seq<=2^40)
  (H:aa B h0 h (bf bi a pw (aM x) offs da w ds::bI x m::As)):
  ai xT 47 #[xL (dB a),dK z] h λv h'=>v=xJ xP (cj m offs w ds n).1/\
   ∃y,aa B h0 h' (bf bi a pw (aM y) offs da (cj m offs w ds n).2.2.1 (cj m offs w ds n).2.2.2::bI y (cj m offs w ds n).2.1::As):=by
 refine ts Tryz.func47 ?_ (v7 (v7 (ws [] [(4,5),(11,25)] (v7 (v7 (v7 (ws [] [(4,5),(34,44)] u9))))))) (args:=[(dB a),z]);refine H.boxed λF P t=>(pq t).mono ?_;have t:=t.aZ;rintro _ P ⟨rfl,rfl⟩;have u:cR P z n:=U.at [_,_,_] t;have Y:cR P x m:=t.at 2 hZ;refine⟨_,hZ,aY (λe=>?_) λe1=>?_⟩
 .have L:cj m offs w ds n=(14,m,w,ds):=by unfold cj;rw[f8 e]
  rw[L];exact⟨hZ,x,t.aJ 3 [1,2]⟩
 refine aG ?_;refine⟨z,(t.box 0 hZ).aA _ hZ,(CS z n P u j).xc λh3 R3=>?_⟩;have D:=t.up R3.ac;have ad:=u.up R3.ac;have no:∀{h':f7},aa B h0 h' (aj F 85 (aM z)::bf bi a pw (aM x) offs da w ds::bI x m::As)->(bc n=eH∨n.seq≠m.seq+1)->(Value.int .i64 1=xJ xP (cj m offs w ds n).1/\∃y,aa B h0 h' (bf bi a pw (aM y) offs da (cj m offs w ds n).2.2.1 (cj m offs w ds n).2.2.2::bI y (cj m offs w ds n).2.1::As)):=λ{h'} d hc=>by
  have L:cj m offs w ds n=(1,m,w,ds):=by
   unfold cj;rw[f9 ln,f8];rcases hc with hc|hc
   .rw[hc];rfl
   .rw[g0 hc,Bool.or_true]
  rw[L];exact⟨hZ,x,d.aJ 3 [1,2]⟩
 refine⟨_,hZ,x7,aW (λe=>no D (.inl e)) λe2=>?_⟩;have K:=D.box 0 hZ;have ah:=(aa.cE (D.aJ 2 [1,0])).2;refine⟨z.1,K.cell0 hZ,a,hZ,x.1,ah.cell0 hZ,?_⟩
 try dsimp only
 rw[u.seq,Y.seq,ag (m.seq+1)];refine bA (λe=>no D (.inr e)) λe3=>?_;refine⟨_,K.cell hZ,?_⟩;have al:=gM e2;have W:∀k∈n.drives,0<=k/\k<64:=gv e2;refine(Jk z.2.2.2.2.2.2.1 n.drives ad.drives ii (D.aJ 2 [1,0])).x0 λo h5 R5=>?_;obtain⟨live,b⟩:=x6 (aR ds n.drives)
 rw[<-b]at R5;have ap:hY live<=64:=by rw[b];exact qQ (qU _ _) al
 have f:∀k∈live,0<=k/\k<64:=λk hk=>by rw[b]at hk;exact W k (qD.1 hk).1
 have S:=(D.ci R5).aJ 4 [2,3,0,1];refine⟨o,hZ,z,(S.box 3 hZ).aA _ hZ,(mu z n h5 (U.at [_,_,_,_] S) j).x0 λpg h6 R6=>?_⟩;have q:=(aa.tj R6).1;have G:=ke n j;obtain⟨p,I⟩:=x6 (hY (aP n))
 rw[<-I]at q G;have H6:=S.up R6.ac;refine⟨pg,hZ,H6.alloc ae hZ λc h7 X=>?_⟩;have X:=X.aZ;refine X.storeAll ae 0 hZ hZ [xJ xP (pg.len:Int)] hZ hZ hZ hZ λh8 l=>?_;rw[q]at l;have l:aa B h0 h8 (bf bi a pw (aM x) offs da w ds::bI x m::aj c 3 [xJ xP (p:Int)]::an 3 o 1 aw live::aj F 85 (aM z)::As):=l.aJ 5 [1,2,0,3,4];obtain⟨T,s⟩:=x6 (bI x m::aj c 3 [xJ xP (p:Int)]::an 3 o 1 aw live::aj F 85 (aM z)::As)
 have tX:St B h0 T λh=>cR h x m:=by rw[s];exact St.ey 0 hZ λ_ r=>r
 have tN:St B h0 T λh=>bQ h c 3 [xJ xP (p:Int)]:=by rw[s];exact St.ey (A:=aj c 3 [xJ xP (p:Int)]) 1 hZ λ_ r=>r.1
 have M:St B h0 T λh=>Rd h o 1 aw live:=by rw[s];exact St.ey (A:=an 3 o 1 aw live) 2 hZ λ_ r=>r.1.seq (λ_=>rfl) r.2
 have tM:St B h0 T λh=>bQ h F 85 (aM z):=by rw[s];exact St.ey (A:=aj F 85 (aM z)) 3 hZ λ_ r=>r.1
 have tY:St B h0 T λh=>cR h z n:=by rw[s];exact U.cons.cons.cons.cons
 obtain⟨N,hN⟩:∃N:Int->Int,N=λ_=>(p:Int):=⟨_,rfl⟩
 have tT:St B h0 T λh=>NK 101 #[] #[xL (dB c)] N live h:=λBs h' d k hk=>by
  refine ts Tryz.func101 ?_ (args:=[(k:Int),c]);exact⟨(p:Int),(tN Bs h' d).cell0 hZ,by rw[hN],Sp.refl h'⟩
 have fin:∀{h':f7} {Z:Pow} {ds':aD},aa B h0 h' (bf bi a pw (aM x) offs da Z ds'::T)->aa B h0 h' (bf bi a pw (aM x) offs da Z ds'::bI x m::As):=λ{h' Z ds'} d=>by
  rw[s]at d;exact d.aJ 5 [0,1]
 rw[<-s]at l;have L:cj m offs w ds n=(if live=[]∨dS m ds live N=eH then(7,m,w,ds)else
   if(makes m N live w ds).1≠0 then((makes m N live w ds).1,m,(makes m N live w ds).2)else
   ((layAll (bM n live) (makes m N live w ds).2.1 (makes m N live w ds).2.2).1,if(layAll (bM n live) (makes m N live w ds).2.1 (makes m N live w ds).2.2).1=0 then n else m,(layAll (bM n live) (makes m N live w ds).2.1 (makes m N live w ds).2.2).2)):=by
  rw[hN,I,b];unfold cj;rw[f9 ln,f9 (by rw[e2,g9 (by simpa using e3)];decide)]
 rw[L];have J:=(M.at [_] l).len;refine aG (aX (λe=>?_) λe4=>?_)
 .have:live=[]:=List.length_eq_zero_iff.1 ii;rw[f8 (.inl this)];exact⟨hZ,x,fin l⟩
 have ab:live≠[]:=λh=>e4 (by rw[J,h];rfl);refine(Jw 101 #[] #[xL (dB c)] N x m o live kt (λBs h' d=>⟨tX Bs h' d,tT Bs h' d⟩) hz (M.at [_] l) ii f l).xc λh9 R9=>?_;have H9:=l.up R9.ac;refine⟨_,hZ,aW (λg=>?_) λg=>?_⟩
 .rw[f8 (.inr g)];exact⟨hZ,x,fin H9⟩
 rw[f9 (by rintro(h|h);exact ab h;rw[g]at h;cases h)];refine(Jx 101 #[] #[xL (dB c)] N x m o live kt (λBs h' d=>⟨tX Bs h' d,tT Bs h' d,M Bs h' d⟩) hz ii f H9).xc λao i=>?_;obtain⟨O,R⟩:=x6 (makes m N live w ds)
 rw[<-R]at i⊢;refine⟨_,hZ,bA (λV=>?_) λV=>?_⟩
 .rw[f8 V];exact⟨hZ,x,fin i⟩
 rw[f9 (by simpa using V)];refine⟨z,(tM.at [_] i).aA _ hZ,(Jz x z n o live (λBs h' d=>⟨tY Bs h' d,M Bs h' d⟩) j ii f i).xc λar ⟨Q1,Q0⟩=>?_⟩;refine⟨_,hZ,hZ,?_⟩;by_cases Q:(layAll (bM n live) O.2.1 O.2.2).1=0
 .obtain⟨y2,E⟩:=Q0 Q;rw[f8 Q];rw[s]at E;exact⟨y2,E.aJ 6 [0,1]⟩
 .rw[f9 Q];exact⟨x,fin (Q1 Q)⟩
end
variable {k:Kit} {b:eS} {mc:aT} {d:ba} {n:Nat}
section
variable {pw:eS}
theorem aa.acC(ok:fM mc da ds)(F:n<64)(H:aa B h0 h (aj a k.tS (bS mc pw offs (da.set n (dB b)))::ce k.tP pw w::(dq k pw da ds++(gU k.tD (k.f pw) b d::As)))):aa B h0 h (bf k a pw mc offs (da.set n (dB b)) w (ds.set n (dB d))::As):=by
 have r:=ok.la;have s:=ok.ls;have t:fM mc (da.set n (dB b)) (ds.set n (dB d)):=⟨ok.l8,by simp[r],by simp[s],λi=>by
  by_cases g:n=i
  .subst g;rw[qd,qd,zj ii,zj ii];rfl
  .have:=ok.same i;rw[qd,qd]at this⊢;rw[zG g,zG g];exact this⟩
 have q:=CY (k:=k) (pw:=pw) ok;have o:dq k pw (da.set n (dB b)) (ds.set n (dB d))=(dq k pw da ds).set n (gU k.tD (k.f pw) b d):=by
  apply zt;intro j;simp only[dq,qW,zL,yN];by_cases l:n=j
  .subst l;rw[f8 hZ,f8 ii,f8 hZ,f8 ii,f8 hZ,f8 ii];rfl
  .simp[l]
 refine aa.pi t ?_;rw[o];obtain⟨L,p⟩:=x6 (dq k pw da ds)
 rw[<-p]at H q⊢;have c:n<hY L:=ii
 have H:=H.eW (n+2) (A:=L[n]) (D:=emp) (by rw[qq,qq,ql c,qc c]) λ_ _=>trivial;have x:(aj a k.tS (bS mc pw offs (da.set n (dB b)))::ce k.tP pw w::(L++(gU k.tD (k.f pw) b d::As))).set (n+2) emp=aj a k.tS (bS mc pw offs (da.set n (dB b)))::ce k.tP pw w::(L.set n emp++(gU k.tD (k.f pw) b d::As)):=by rw[zy,zy,vB _ _ c]
 rw[x]at H;have m:hY (L.set n emp)=hY L:=List.length_set;have u:=H.cons (hY L+2) (A:=gU k.tD (k.f pw) b d) (by
  rw[qq,qq,List.getElem?_append_right ii,m,qX];rfl)
 have e:(aj a k.tS (bS mc pw offs (da.set n (dB b)))::ce k.tP pw w::(L.set n emp++(gU k.tD (k.f pw) b d::As))).set (hY L+2) emp=aj a k.tS (bS mc pw offs (da.set n (dB b)))::ce k.tP pw w::(L.set n emp++(emp::As)):=by rw[zy,zy,qV _ _ ii,m,qX];rfl
 rw[e]at u;have v:=u.aJ 3 [0,2,1];have y:aa B h0 h (gU k.tD (k.f pw) b d::ce k.tP pw w::aj a k.tS (bS mc pw offs (da.set n (dB b)))::(L.set n emp++(emp::As))):=v;have z:=aa.Gl n c y;have E:=aa.closeAll (aj a k.tS (bS mc pw offs (da.set n (dB b)))::ce k.tP pw w::L.set n (gU k.tD (k.f pw) b d)) z;exact aa.lI (L:=aj a k.tS (bS mc pw offs (da.set n (dB b)))::ce k.tP pw w::L.set n (gU k.tD (k.f pw) b d)) E.pC
end
section
variable {pw:eS}
theorem nQ{p:av}(s:Sl)(l:az)(x:Int)(h:f7)(g:Seq h p s 1 aw l)(n:hY l<=2^40:=by omega):ai xT 42 #[s,xJ xP x] h λv h'=>v=xN (decide (x∈l))/\h'=h:=by
 refine ts Tryz.func42 ?_;refine(np s x (R:=λv h'=>(∃i:Int,v=xJ xP i/\(decide (i>=0)=decide (x∈l)))/\h'=h) ?_).mono ?_
 .skip
  have k:=g.len;refine aq (λi:Nat=>(i:Int)) (λi h'=>i<=hY l/\x∉l.take i/\h'=h) (λi=>hY l-i) 0 hZ ⟨ii,i6,hZ⟩ ?_;rintro i j ⟨f,b,rfl⟩;refine af (λd=>?_) (λd=>?_)
  .have a:i<hY l:=by have m:(i:Int)<(s.len:Int):=d;omega
   refine g.bo i hZ a l[i] hZ ?_;refine aX (λe=>⟨⟨i,hZ,?_⟩,hZ⟩) (λe=>?_)
   .rw[g0 (show(i:Int)>=0 by omega),g0 (by rw[e];exact qf a)]
   .refine⟨i+1,i9,⟨ii,λc=>?_,hZ⟩,ii⟩;rw[aE _ _ a]at c;rcases qt.1 c with c|c
    .exact b c
    .exact e (qp.1 c)
  .have m:¬(i:Int)<(s.len:Int):=d;rw[qh ii]at b;exact⟨⟨-1,hZ,pb⟩,hZ⟩
 .rintro _ j ⟨⟨i,rfl,f⟩,rfl⟩;exact⟨i,hZ,by rw[f],hZ⟩
theorem Fk(H:aa B h0 h (bf bi a pw mc offs da w ds::As)):ai xT 39 #[xL (dB a)] h λv h'=>v=xN (dE w offs)/\h'=h:=by refine ts Tryz.func39 ?_;refine aY (λe=>jj) λ_=>(lR H).xa ⟨_,hZ,hZ,hZ⟩
def sf(slot cells:Int):Bool:=decide ((0<=slot/\slot<64)/\1<=cells/\cells<=512)
theorem Bx(slot cells:Int)(h:f7):ai xT 41 #[xJ xP slot,xJ xP cells] h λv h'=>v=xN (sf slot cells)/\h'=h:=by
 refine ts Tryz.func41 ?_;unfold sf;refine af (λc=>af (λa=>af (λb=>⟨?_,hZ⟩) λb=>⟨?_,hZ⟩) λa=>⟨?_,hZ⟩) λc=>⟨?_,hZ⟩
 .congr 1;rw[decide_eq_decide];omega
 all_goals (rw[g9 ii])
theorem aiv(slot cells:Int)(x:bh)(m:ak)(j:cR h x m)(g:cC m)(H:aa B h0 h (bf bi a pw (aM x) offs da w ds::As))(b:dE w offs=ez∨sf slot cells=eH∨slot∈m.drives):
  ai xT 20 #[xL (dB a),xJ xP slot,xJ xP cells] h λv h'=>v=xJ xP (if dE w offs then 14 else if sf slot cells then 4 else 1)/\Sp h h' []:=by
 refine ts Tryz.func20 ?_ (v7 (v7 (v7 (v7 (v7 (v7 (v7 (v7 (v7 (ws [] [(50,55)] u9))))))))));have q:=g.dr;refine(Fk H).xa ⟨_,hZ,aY (λe=>⟨n4,Sp.refl _⟩) λe=>?_⟩;refine(rV x m j g H).x0 λy s o=>⟨y,hZ,o.alloc ae hZ λa3 h3 k=>?_⟩;refine k.storeAll ae 1 hZ hZ (aM y) hZ hZ hZ hZ λl c=>?_;refine(Bx slot cells l).mono ?_;rintro _ f ⟨rfl,rfl⟩;refine⟨_,hZ,aW (λd=>⟨o6,.zip c.ac⟩) λd=>?_⟩;have p:cR f y m:=c.at 0 hZ;refine⟨y.2.2.2.2.2.2.1,(c.box 1 hZ).cell hZ,(nQ _ m.drives slot f p.drives).xa ?_⟩;refine⟨_,hZ,aY (λi=>⟨o6,.zip c.ac⟩) λi=>?_⟩;rcases b with b|b|b
 .rw[e]at b;cases b
 .rw[d]at b;cases b
 .exact absurd b (of_decide_eq_false i)
theorem Qe(slot cells:Int)(x:bh)(m:ak)(i:cR h x m)(g:cC m)(H:aa B h0 h (bf bi a pw (aM x) offs da w ds::As))(b:dE w offs=ez∨sf slot cells=eH∨slot∉m.drives∨slot∈aR ds m.drives):
  ai xT 22 #[xL (dB a),xJ xP slot,xJ xP cells] h λv h'=>v=xJ xP (if dE w offs then 14 else if sf slot cells=eH then 1 else if slot∉m.drives then 5 else 4)/\Sp h h' []:=by
 refine ts Tryz.func22 ?_;have z:=g.dr;refine(Fk H).xa ⟨_,hZ,aY (λe=>⟨n4,Sp.refl _⟩) λe=>?_⟩;refine(rV x m i g H).x0 λy D q=>⟨y,hZ,q.alloc ae hZ λa3 h3 o=>?_⟩;refine o.storeAll ae 1 hZ hZ (aM y) hZ hZ hZ hZ λp c=>?_;refine(Bx slot cells p).mono ?_;rintro _ j ⟨rfl,rfl⟩;refine⟨_,hZ,aW (λd=>⟨o6,.zip c.ac⟩) λd=>?_⟩;have s:cR j y m:=c.at 0 hZ;refine⟨y.2.2.2.2.2.2.1,(c.box 1 hZ).cell hZ,(nQ _ m.drives slot j s.drives).xa ?_⟩;refine⟨_,hZ,aW (λf=>⟨by rw[e,d,f9 i6,f9 i6,f8 (of_decide_eq_false f)],.zip c.ac⟩) λf=>?_⟩;refine(fi x m (i.up c.ac) g (H.up c.ac)).x0 λr t l=>?_;have n:hY (aR ds m.drives)<=hY m.drives:=qU _ _;refine⟨r,hZ,(nQ r _ slot t (l.seq 0 hZ λ_=>rfl)).xa ?_⟩;refine⟨_,hZ,aY (λk=>⟨by rw[e,d,f9 i6,f9 i6,f9 λu=>u (hU f)],.zip (c.comp l).ac⟩) λk=>?_⟩;rcases b with b|b|b|b
 .rw[e]at b;cases b
 .rw[d]at b;cases b
 .exact absurd (hU f) b
 .exact absurd b (of_decide_eq_false k)
theorem Zk(n:Nat)(i:n<64)(x:bh)(H:aa B h0 h (jN pw b d::bf bi a pw (aM x) offs da w ds::As)):
  ai xT 43 #[xL (dB a),xJ xP n,xL (dB b)] h λv h'=>v=.tuple #[]/\aa B h0 h' (bf bi a pw (aM x) offs (da.set n (dB b)) w (ds.set n (dB d))::As):=by
 refine ts Tryz.func43 ?_;refine aY (λ_=>?_) λe=>jj
 refine af (λ_=>af (λ_=>?_) λe=>absurd (show(n:Int)<64 by omega) e) λe=>absurd (show(n:Int)>=0 by omega) e;refine⟨a,hZ,⟨ii,ii⟩,?_⟩;rw[qj,wx];have g:=H.aJ 2 [1,0];obtain⟨ok,j⟩:=Qw.aa.oR g;have f:(a.add 10).add n=a.add (10+n):=by unfold Addr.add;simp[wU]
 rw[f];refine j.storeAt ae 0 hZ hZ hZ hZ hZ (by simp[ok.la];omega) λh' c=>?_;rw[zn,Mg ok.l8]at c;exact⟨hZ,aa.acC ok i c⟩
end
section
variable {pw:eS}
theorem Wb(h8:hY mc=8):(bS mc pw offs da).set (10+n) (xL et)=bS mc pw offs (da.set n et):=by unfold bS;rw[qV _ _ ii,h8,show 10+n-8=n+1+1 by omega,zy,zy,vG]
theorem aa.acD(ok:fM mc da ds)(q:n<64)(H:aa B h0 h (aj a k.tS (bS mc pw offs (da.set n et))::ce k.tP pw w::(dq k pw da ds++As))):aa B h0 h (bf k a pw mc offs (da.set n et) w (ds.set n et)::As):=by
 have f:=ok.la;have l:=ok.ls;have o:fM mc (da.set n et) (ds.set n et):=⟨ok.l8,qa,by simp[l],λi=>by
  by_cases b:n=i
  .subst b;rw[qd,qd,zj ii,zj ii];rfl
  .have:=ok.same i;rw[qd,qd]at this⊢;rw[zG b,zG b];exact this⟩
 have m:=CY (k:=k) (pw:=pw) ok;have d:dq k pw (da.set n et) (ds.set n et)=(dq k pw da ds).set n emp:=by
  apply zt;intro j;simp only[dq,qW,zL,yN];by_cases e:n=j
  .subst e;rw[f8 hZ,f8 ii,f8 hZ,f8 ii,f8 hZ,f8 ii];rfl
  .simp[e]
 refine aa.pi o ?_;rw[d];obtain⟨L,g⟩:=x6 (dq k pw da ds)
 rw[<-g]at H m⊢;have c:n<hY L:=ii
 have H:=H.eW (n+2) (A:=L[n]) (D:=emp) (by rw[qq,qq,ql c,qc c]) λ_ _=>trivial;have p:(aj a k.tS (bS mc pw offs (da.set n et))::ce k.tP pw w::(L++As)).set (n+2) emp=aj a k.tS (bS mc pw offs (da.set n et))::ce k.tP pw w::(L.set n emp++As):=by rw[zy,zy,vB _ _ c]
 rw[p]at H;exact H
end
def uv(m:ak)(l:az):ak:={m with seq:=m.seq+1,drives:=l}
def iv(m:ak)(offs:Int)(w:Pow)(ds:aD)(slot cells:Int):Int×ak×Pow×aD:=
 if dE w offs then(14,m,w,ds)else if sf slot cells=eH then(1,m,w,ds)else if slot∈m.drives then(4,m,w,ds)else if m.seq>=2147483647 then(7,m,w,ds)else
 let r:=cj m offs w (ds.set slot.toNat (dB (ba.new cells.toNat))) (uv m (iC (m.drives++[slot])))
 (r.1,r.2.1,r.2.2.1,if r.1=7 then r.2.2.2.set slot.toNat et else r.2.2.2)
section
variable {pw:eS}
theorem Qf(n:Nat)(d:n<64)(x:bh)(H:aa B h0 h (bf bi a pw (aM x) offs da w ds::As)):
  ai xT 43 #[xL (dB a),xJ xP n,xL et] h λv h'=>v=.tuple #[]/\aa B h0 h' (bf bi a pw (aM x) offs (da.set n et) w (ds.set n et)::As):=by
 refine ts Tryz.func43 ?_;refine aY (λ_=>?_) λe=>jj
 refine af (λ_=>af (λ_=>?_) λe=>absurd (show(n:Int)<64 by omega) e) λe=>absurd (show(n:Int)>=0 by omega) e;refine⟨a,hZ,⟨ii,ii⟩,?_⟩;rw[qj,wx];obtain⟨ok,f⟩:=Qw.aa.oR H;have c:(a.add 10).add n=a.add (10+n):=by unfold Addr.add;simp[wU]
 rw[c];refine f.storeAt ae 0 hZ hZ hZ hZ hZ (by simp[ok.la];omega) λh' b=>?_;rw[zn,Wb ok.l8]at b;exact⟨hZ,aa.acD ok d b⟩
theorem JL(x:bh)(m:ak)(j:cR h x m)(o:cC m)(H:aa B h0 h (bf bi a pw (aM x) offs da w ds::As)):
  ai xT 40 #[xL (dB a)] h λv h'=>∃(y:bh) (L:List (dP×Qw.cb)) (pool:List (Sl×az)),v=dK y/\(y.1=m.seq/\y.2.1=m.next/\(y.2.2.1,y.2.2.2.1,y.2.2.2.2.1)=m.p/\y.2.2.2.2.2.1=m.extra)/\L.map zi=m.objs/\(∀p∈L,CT pool p)/\
   Sp h h' [iI 1 aw pool,an 3 y.2.2.2.2.2.2.1 1 aw m.drives,an 111 y.2.2.2.2.2.2.2 4 bY (L.map qE)]:=by
 refine ts Tryz.func40 ?_;obtain⟨ok,f⟩:=aa.cE H;refine(Sp.refl h).alloc ae hZ λs g c=>?_;have b:=f.ac c.ac f.lt;refine aY (λe=>jj) λ_=>⟨a,hZ,x,b.aA _ hZ,(nM x m g (j.up c.ac) o).mono ?_⟩;rintro _ r ⟨y,L,pool,rfl,i,q,n,l⟩;have k:=c.comp l;refine⟨y,hZ,?_⟩;refine k.store ae 0 hZ hZ 0 (aM y) hZ hZ hZ j7 λh3 d=>?_;exact⟨y,(d.box 0 hZ).aA _ hZ,y,L,pool,hZ,i,q,n,d.bt [1,2,3]⟩
theorem Zl(slot cells:Int)(x:bh)(m:ak)(Q:bc m=ez)(H:aa B h0 h (bf bi a pw (aM x) offs da w ds::bI x m::As)):
  ai xT 20 #[xL (dB a),xJ xP slot,xJ xP cells] h λv h'=>v=xJ xP (iv m offs w ds slot cells).1/\
   ∃y U,aa B h0 h' (bf bi a pw (aM y) offs U (iv m offs w ds slot cells).2.2.1 (iv m offs w ds slot cells).2.2.2::bI y (iv m offs w ds slot cells).2.1::As):=by
 refine ts Tryz.func20 ?_ (v7 (v7 (v7 (v7 (v7 (v7 (v7 (v7 (v7 (ws [] [(50,55)] u9))))))))));have I:=im Q;have ab:=gM Q;obtain⟨g1,g2,g3,g4⟩:=(dn m).1 ((bU m).1 Q).1;refine(Fk H).xa ⟨_,hZ,aY (λe=>?_) λJ=>?_⟩
 .have g:iv m offs w ds slot cells=(14,m,w,ds):=by unfold iv;rw[f8 e]
  rw[g];exact⟨hZ,x,da,H⟩
 refine(JL x m (H.at 1 hZ) I H).mono ?_;rintro _ h2 ⟨y,L,pool,rfl,t,R,hL,R2⟩;have H2:=(H.comp R2).front;refine⟨y,hZ,H2.alloc ae hZ λa3 h3 W=>?_⟩;have W:=W.aZ;refine W.storeAll ae 0 hZ hZ (aM y) hZ hZ hZ hZ λh4 p=>?_;refine(Bx slot cells h4).mono ?_;rintro _ h5 ⟨rfl,rfl⟩;refine⟨_,hZ,aW (λu=>?_) λu=>?_⟩
 .have g:iv m offs w ds slot cells=(1,m,w,ds):=by unfold iv;rw[f9 sR,f8 u]
  rw[g];exact⟨hZ,x,da,p.aJ 6 [4,5]⟩
 refine⟨y.2.2.2.2.2.2.1,(p.box 0 hZ).cell hZ,(nQ _ m.drives slot h5 (p.seq 2 hZ λ_=>rfl)).xa ?_⟩;refine⟨_,hZ,aY (λP=>?_) λP=>?_⟩
 .have g:iv m offs w ds slot cells=(4,m,w,ds):=by unfold iv;rw[f9 sR,f9 (by rw[u];decide),f8 (hU P)]
  rw[g];exact⟨hZ,x,da,p.aJ 6 [4,5]⟩
 have i:slot∉m.drives:=of_decide_eq_false P;refine⟨y.1,(p.box 0 hZ).cell0 hZ,af (λE=>?_) λE=>?_⟩
 .rw[t.1]at E;have g:iv m offs w ds slot cells=(7,m,w,ds):=by unfold iv;rw[f9 sR,f9 (by rw[u];decide),f9 i,f8 E]
  rw[g];exact⟨hZ,x,da,p.aJ 6 [4,5]⟩
 rw[t.1]at E;have z:=hU u;obtain⟨n,hn⟩:∃n:Nat,slot=n:=⟨slot.toNat,ii⟩
 have j:n<64:=ii
 have H5:=p.aJ 6 [4,0,1,2,3,5];refine(Ng H5).mono ?_;rintro _ h7 ⟨rfl,rfl⟩;refine⟨_,hZ,(Jh cells pw h7).mono ?_⟩;rintro _ h8 ⟨Q1,_⟩;obtain⟨b,rfl,R8⟩:=Q1 ⟨z.2.1,z.2.2⟩;have H8:=H5.ci R8;subst hn;refine⟨_,hZ,(Zk n j x H8).xc λh9 D=>?_⟩;obtain⟨ds1,k⟩:=x6 (ds.set n (dB (ba.new cells.toNat)))
 rw[<-k]at D;have D:=D.aJ 6 [1,3,2,4,0,5];refine⟨(),hZ,y.1,(D.box 0 hZ).cell0 hZ,?_⟩
 try dsimp only
 rw[t.1,ag (m.seq+1)];refine D.fv ae 0 hZ hZ [xJ xP (m.seq+1)] hZ hZ hZ j7 λal G=>?_;refine⟨_,(G.box 0 hZ).cell hZ,?_⟩;refine G.push ae 1 hZ gb hZ i0 (λ_=>rfl) fd (n:Int) hZ i0 ii λo am K=>?_;refine K.store ae 0 hZ hZ 6 [o] hZ hZ hZ j7 λF d=>?_;obtain⟨c,f⟩:∃c:bh,c=(m.seq+1,y.2.1,y.2.2.1,y.2.2.2.1,y.2.2.2.2.1,y.2.2.2.2.2.1,o,y.2.2.2.2.2.2.2):=⟨_,rfl⟩
 have ed:c.2.2.2.2.2.2.1=o:=by rw[f]
 have eo:c.2.2.2.2.2.2.2=y.2.2.2.2.2.2.2:=by rw[f]
 have d:aa B h0 F (aj a3 85 (aM c)::an 3 c.2.2.2.2.2.2.1 1 aw (m.drives++[(n:Int)])::iI 1 aw pool::an 111 c.2.2.2.2.2.2.2 4 bY (L.map qE)::bf bi a pw (aM x) offs (da.set n (dB b)) w ds1::bI x m::As):=by rw[ed,eo,f];exact d
 refine⟨_,(d.box 0 hZ).cell hZ,(EN c.2.2.2.2.2.2.1 (m.drives++[(n:Int)]) F (d.own 1 hZ) i5).xc λS ⟨N,Z⟩=>?_⟩;have s:=d.nG 1 hZ Z N;obtain⟨dr,l⟩:=x6 (iC (m.drives++[(n:Int)]))
 rw[<-l]at s;refine⟨(),hZ,c,(s.box 0 hZ).aA _ hZ,?_⟩;obtain⟨M,A⟩:=x6 (uv m dr)
 have Y:aa B h0 S (bI c M::bf bi a pw (aM x) offs (da.set n (dB b)) w ds1::bI x m::As):=aa.CV (m:=M) (L:=L) (pool:=pool) (by rw[A,f];exact⟨hZ,t.2.1,t.2.2.1,t.2.2.2⟩) (by rw[A];exact R) hL (by rw[A];exact s.aJ 6 [2,1,3,4,5]);have V:cC M:=by rw[A];exact⟨by show dr.length<=_;rw[l,Ef];simp;omega,I.ob,I.nm⟩
 refine(GS x m c M (As:=bI c M::As) (St.ey 0 hZ λ_ hq=>hq) I V ii (Y.aJ 3 [1,2,0])).xc λad ⟨X,q⟩=>?_;have g:iv m offs w ds n cells=((cj m offs w ds1 M).1,(cj m offs w ds1 M).2.1,(cj m offs w ds1 M).2.2.1,if(cj m offs w ds1 M).1=7 then(cj m offs w ds1 M).2.2.2.set n et else(cj m offs w ds1 M).2.2.2):=by unfold iv;rw[f9 sR,f9 (by rw[u];decide),f9 i,f9 E,A,l,k];rfl
 rw[g];obtain⟨r,hr⟩:=x6 (cj m offs w ds1 M)
 rw[<-hr]at q⊢;refine⟨_,hZ,aG (aX (λT=>?_) λT=>?_)⟩
 .refine(Qf n j X (q.aJ 3 [0,1])).xc λah O=>⟨(),hZ,hZ,X,_,by rw[f8 T];exact O⟩
 .exact⟨hZ,X,_,by rw[f9 T];exact q.aJ 3 [0,1]⟩
end
section
variable {pw:eS}
theorem BZ{k:Int}{d:ba}(e:aH ds k=dB d)(H:aa B h0 h (bf bi a pw mc offs da w ds::As)):∃(b:eS) (s f:Sl),gH da k=dB b/\bQ h b 155 (ft pw d s f)/\fe h s 1 aB d.l/\gO d:=by
 obtain⟨ok,_⟩:=aa.cE H;rcases oS ok k with⟨h1,_⟩|⟨n,d',b,rfl,hn,h1,h2,h3,h4⟩
 .rw[h1]at e;cases e
 .rw[h2]at e;injection e with e
  subst e;obtain⟨m,c,j⟩:=Qw.aa.kV H h1;rw[h3]at c;injection c with c
  injection c with c
  subst c;obtain⟨g,s,f,i⟩:=aa.pT j;exact⟨b,s,f,h4,i.box 0 hZ,(i.aJ 2 [1,0]).uG λ_=>rfl,g⟩
theorem Qg{k:Int}(H:aa B h0 h (bf bi a pw mc offs da w ds::As)):ai xT 56 #[xL (dB a),xJ xP k] h λv h'=>v=.pointer (gH da k)/\h'=h:=by obtain⟨ok,b⟩:=aa.cE H;exact mM k ok b
theorem Qh{k:Int}{d:ba}{b:eS}(x:bh)(m:ak)(o:aH ds k=dB d)(j:gH da k=dB b)(e:cR h x m)(n:cC m)(H:aa B h0 h (bf bi a pw mc offs da w ds::As)):
  ai xT 145 #[xL (dB b),dK x] h λv h'=>v=xN (fx m d.l)/\Sp h h' []:=by
 obtain⟨q,s,f,c,g,i,p⟩:=BZ o H;rw[j]at c;injection c with c
 subst c;exact VX b pw d s f x m h g i p e n
end
theorem ahU{order:az}(a:order≠[])(id:Nat):fS order id=order[id%hY order]'(y8 _ (by cases order with|nil=>exact absurd rfl a|cons=>simp)):=by
 have c:0<hY order:=by cases order with|nil=>exact absurd rfl a|cons=>simp
 have b:=y8 id c;unfold fS JB;rw[f9 (by rintro(h|h);exact a h;omega)];have e:((id:Int)%(hY order:Int)).toNat=id%hY order:=ii
 rw[e,qd,qc b];rfl
def Cb(a b c:Int):Int×Int×Int:=(1+a%6,1+b%3,1+c%9)
theorem Wc(a b c:Int)(h:f7):ai xT 28 #[xJ xP a,xJ xP b,xJ xP c] h λv h'=>v=kb (Cb a b c)/\Sp h h' []:=by
 refine uV a b c ?_;refine(Sp.refl h).alloc ae hZ λx e g=>?_;refine(cK a 6 e).mono ?_;rintro v f ⟨rfl,rfl⟩;refine⟨_,hZ,(cK b 3 f).mono ?_⟩;rintro v h3 ⟨rfl,rfl⟩;refine⟨_,hZ,(cK c 9 h3).xa ?_⟩;refine⟨_,hZ,?_⟩
 try dsimp only
 rw[ag _,ag _,ag _];refine g.storeAll ae 0 hZ hZ [xJ xP (1+a%6),xJ xP (1+b%3),xJ xP (1+c%9)] hZ hZ hZ hZ λj d=>?_;exact⟨Cb a b c,(d.box 0 hZ).aA _ hZ,hZ,.zip d.ac⟩
theorem Zm(a b c:Int):bK (Cb a b c)=ez:=by
 rw[bP];unfold Cb
 try dsimp only
 omega
def bu(a pw:eS)(b:List bD)(offs:Int)(w:Pow)(ds:aD)(m:ak):HP:=HP.ex λx:bh=>(bf bi a pw (aM x) offs b w ds).sep (bI x m)
variable {m:ak}
section
variable {pw:eS}
theorem gc(H:aa B h0 h (bu a pw da offs w ds m::As)):∃x,aa B h0 h (bf bi a pw (aM x) offs da w ds::bI x m::As):=by obtain⟨x,H⟩:=H.pD;exact⟨x,H.mD.ie⟩
theorem ny{x:bh}(H:aa B h0 h (bf bi a pw (aM x) offs da w ds::bI x m::As)):aa B h0 h (bu a pw da offs w ds m::As):=
 aa.uF (F:=λx:bh=>(bf bi a pw (aM x) offs da w ds).sep (bI x m)) x H.ie.jw
theorem jJ(H:aa B h0 h (bu a pw da offs w ds m::As)):hY ds=64/\∀k d,aH ds k=dB d->hY d.l<=d.room/\d.room<=512/\gO d:=by obtain⟨x,H⟩:=gc H;obtain⟨ok,_⟩:=aa.cE H;refine⟨ok.ls,λk d e=>?_⟩;obtain⟨b,s,f,_,_,_,c⟩:=BZ e H;exact⟨c.len,c.room,c⟩
theorem afI(name:ByteArray)(s:Sl)(b:aL)(i:St B h0 As λh=>Rd h s 1 aB b)(e:s.len<=s.cap)(f:name.size<=2^40)(c:bc m=ez)(d:hY b<=2^20)(H:aa B h0 h (bu a pw da offs w ds m::As)):
  ai xT 33 #[xL (dB a),xM name,s] h λv h'=>v=xJ xP (di m offs w ds name b).1/\
   aa B h0 h' (bu a pw da offs (di m offs w ds name b).2.2.1 (di m offs w ds name b).2.2.2 (di m offs w ds name b).2.1::As):=by
 obtain⟨x,H⟩:=gc H;obtain⟨l,n,j,g⟩:=(dn m).1 ((bU m).1 c).1;refine(act x m name s b i e f (im c) j g (gv c) (gM c) ii ii d H).mono ?_;rintro _ h' ⟨rfl,y,k⟩;exact⟨hZ,ny k⟩
theorem afJ(slot cells:Int)(c:bc m=ez)(H:aa B h0 h (bu a pw da offs w ds m::As)):
  ai xT 20 #[xL (dB a),xJ xP slot,xJ xP cells] h λv h'=>v=xJ xP (iv m offs w ds slot cells).1/\
   ∃b,aa B h0 h' (bu a pw b offs (iv m offs w ds slot cells).2.2.1 (iv m offs w ds slot cells).2.2.2 (iv m offs w ds slot cells).2.1::As):=by
 obtain⟨x,H⟩:=gc H;refine(Zl slot cells x m c H).mono ?_;rintro _ h' ⟨rfl,y,b,d⟩;exact⟨hZ,b,ny d⟩
theorem acE(b:bc m=ez)(H:aa B h0 h (bu a pw da offs w ds m::As)):
  ai xT 50 #[xL (dB a)] h λv h'=>∃r:Sl,v=r/\Sp h h' [an 3 r 1 aw (aR ds m.drives)]:=by
 obtain⟨x,H⟩:=gc H;exact fi x m (H.at 1 hZ) (im b) H
theorem acF(b:bc m=ez)(H:aa B h0 h (bu a pw da offs w ds m::As)):
  ai xT 40 #[xL (dB a)] h λv h'=>∃y:bh,v=dK y/\Sp h h' [bI y m]:=by
 obtain⟨x,H⟩:=gc H;exact rV x m (H.at 1 hZ) (im b) H
theorem Mt(k:Int)(H:aa B h0 h (bu a pw da offs w ds m::As)):ai xT 56 #[xL (dB a),xJ xP k] h λv h'=>v=.pointer (gH da k)/\h'=h:=by obtain⟨x,H⟩:=gc H;exact Qg H
theorem Ub{k:Int}{d:ba}(e:aH ds k=dB d)(H:aa B h0 h (bu a pw da offs w ds m::As)):∃b,gH da k=dB b:=by obtain⟨x,H⟩:=gc H;obtain⟨b,_,_,c,_⟩:=BZ e H;exact⟨b,c⟩
theorem Qi{k:Int}{d:ba}{b:eS}(j:aH ds k=dB d)(i:gH da k=dB b)(H:aa B h0 h (bu a pw da offs w ds m::As)):∃s e:Sl,bQ h b 155 (ft pw d s e)/\fe h s 1 aB d.l/\gO d:=by
 obtain⟨x,H⟩:=gc H;obtain⟨o,s,e,c,f,g,n⟩:=BZ j H;rw[i]at c;injection c with c
 subst c;exact⟨s,e,f,g,n⟩
theorem Zn(o b:Int)(e:bc m=ez)(H:aa B h0 h (bu a pw da offs w ds m::As)):
  ai xT 188 #[xL (dB a),xJ xP o,xJ xP b] h λv h'=>∃r:Sl,v=r/\Sp h h' [fy 22 r 3 1 aw (eI m ds o b (aR ds m.drives))]:=by
 have c:=(jJ H).2;obtain⟨x,H⟩:=gc H;exact VV x m o b (H.at 1 hZ) (im e) (gM e) (λk d f=>by have:=c k d f;omega) H
theorem Qj(H:aa B h0 h (bu a pw da offs w ds m::As)):ai xT 37 #[xL (dB a)] h λv h'=>v=xN (dE w offs)/\h'=h:=by obtain⟨x,H⟩:=gc H;exact lR H
end
section
variable {pw:eS}
end
def ints(l:List Nat):az:=l.map λx:Nat=>(x:Int)
theorem lA(l:List Nat):hY (ints l)=hY l:=by simp[ints]
theorem HX{l:List Nat}{k:Nat}(h:k<hY l):(ints l)[k]'(by rw[lA];exact h)=(l[k]:Int):=by simp[ints]
theorem Uc{n:Nat}:∀{j i:Nat},i<=j->2*j<=n->ch n i<=ch n j
 |0,i,h,_=>by
   have:i=0:=ii
   subst this;exact qm _
 |j+1,i,h,hj=>by
  by_cases a:i=j+1
  .subst a;exact qm _
  .exact qQ (Uc ii ii) (aiG ii)
theorem Cc(n t:Int)(h:f7):ai xT 118 #[xJ xP n,xJ xP t] h λv h'=>v=xN (decide (0<=n/\n<=64/\0<=t/\t<=n))/\h'=h:=by
 refine ts Tryz.func118 ?_;refine af (λa=>af (λb=>af (λh3=>⟨?_,hZ⟩) λh3=>⟨?_,hZ⟩) λb=>⟨?_,hZ⟩) (λa=>⟨?_,hZ⟩)
 .congr 1;exact decide_eq_decide.2 ii
 .rw[g9 ii]
 .rw[g9 ii]
 .rw[g9 ii]
theorem Cd(n t:Int)(h:f7)(A:-(2^62)<=n/\n<=2^62)(D:-(2^62)<=t/\t<=2^62):ai xT 60 #[xJ xP n,xJ xP t] h λv h'=>v=xJ xP (jI n t)/\h'=h:=by
 refine ts Tryz.func60 ?_ (v7 (v7 (v7 (wj [(5,aU),(16,aU)] [(4,7),(16,30)]))));refine(Cc n t h).mono ?_;rintro v l ⟨rfl,rfl⟩;refine⟨_,hZ,aW (λe=>?_) λe=>?_⟩
 .have e:=of_decide_eq_false e;unfold jI;rw[f9 e];exact⟨hZ,hZ⟩
 .have e:=hU e;obtain⟨N,rfl⟩:∃N:Nat,n=N:=⟨n.toNat,ii⟩
  obtain⟨T,rfl⟩:∃T:Nat,t=T:=⟨t.toNat,ii⟩
  have q:jI N T=((min (ch N T) 4097:Nat):Int):=by unfold jI;rw[f8 e];rfl
  rw[q];obtain⟨m,y⟩:=x6 (min T (N-T))
  have f:ch N m=ch N T:=by
   rw[y];rcases Nat.le_total T (N-T)with b|b
   .rw[Nat.min_eq_left b]
   .rw[Nat.min_eq_right b,<-OR N T ii]
  have a:(if qe xP ((N:Int)-T)<(T:Int)then qe xP ((N:Int)-T)else(T:Int))=(m:Int):=by rw[ag _];split<;>omega
  rw[a];refine aq (λi:Nat=>(((ch N i:Nat):Int),(i:Int))) (λi h'=>h'=l/\i<=m/\ch N i<=4096) (λi=>m-i) 0 (by rw[nJ];rfl) ⟨hZ,ii,by rw[nJ];omega⟩ ?_;rintro i b ⟨rfl,E,d⟩
  try dsimp only
  refine af (λu=>?_) (λu=>?_)
  .have o:i<m:=ii
   have B:N<=64:=ii
   have c:=TK (n:=N) (k:=i) ii;have g:ch N i*(N-i)<=4096*64:=Nat.mul_le_mul d ii;have x:qe xP ((N:Int)-i)=((N-i:Nat):Int):=j1
   have r:qe xP (((ch N i:Nat):Int)*((N-i:Nat):Int))=((ch N i*(N-i):Nat):Int):=by rw[<-Int.natCast_mul,ag _]
   have s:qe xP ((i:Int)+1)=((i+1:Nat):Int):=i9
   have p:Int.tdiv ((ch N i*(N-i):Nat):Int) ((i+1:Nat):Int)=((ch N (i+1):Nat):Int):=by rw[<-c,<-Int.ofNat_tdiv,Nat.mul_div_cancel _ ii]
   have w:ch N (i+1)<=4096*64:=by have:ch N (i+1)*1<=ch N (i+1)*(i+1):=Nat.mul_le_mul_left _ ii;omega
   rw[x,r,s,p,ag _];refine⟨ii,af (λz=>?_) λz=>?_⟩
   .have:=Uc (n:=N) (j:=m) (i:=i+1) ii ii;refine⟨?_,hZ⟩;rw[show min (ch N T) 4097=4097 by omega];rfl
   .exact⟨i+1,hZ,⟨hZ,ii,ii⟩,ii⟩
  .have:i=m:=ii
   subst this;refine⟨?_,hZ⟩;rw[show min (ch N T) 4097=ch N i by omega]
theorem index_spec(s:Sl)(l:az)(x:Int)(h:f7)(g:Rd h s 1 aw l)(o:hY l<=2^30):ai xT 96 #[s,xJ xP x] h λv h'=>(∃i:Int,v=xJ xP i/\(0<=i↔x∈l)/\(0<=i->l[i.toNat]?=dB x/\∀j,j<i.toNat->l[j]?≠dB x)/\i<hY l/\-1<=i)/\h'=h:=by
 refine np s x ?_;have k:=g.len;refine aq (λi:Nat=>(i:Int)) (λi h'=>h'=h/\i<=hY l/\∀j,j<i->l[j]?≠dB x) (λi=>hY l-i) 0 hZ ⟨hZ,ii,λj b=>ii⟩ ?_;rintro i m ⟨rfl,n,c⟩;refine af (λe=>?_) (λe=>?_)
 .have a:i<hY l:=ii
  refine g.bo i hZ a _ hZ ?_;refine aX (λf=>?_) (λf=>?_)
  .refine⟨⟨i,hZ,⟨λ_=>f▸qf a,λ_=>ii⟩,λ_=>⟨by rw[qj,qc a,f],λj b=>c j ii⟩,ii,ii⟩,hZ⟩
  .refine⟨i+1,i9,⟨hZ,ii,λj b=>?_⟩,ii⟩;rcases zf.1 b with b|rfl
   .exact c j b
   .rw[qc a];intro d;exact f (Option.some.inj d).symm
 .refine⟨⟨-1,hZ,⟨λd=>ii,λd=>?_⟩,λd=>ii,ii,ii⟩,hZ⟩;obtain⟨j,b,rfl⟩:=qB d;exact absurd (qc b) (c j ii)
theorem tC(s:Sl)(l:az)(x:Int)(h:f7)(b:Rd h s 1 aw l)(c:hY l<=2^30):ai xT 42 #[s,xJ xP x] h λv h'=>v=xN (decide (x∈l))/\h'=h:=by refine ts Tryz.func42 ?_;refine(index_spec s l x h b c).mono ?_;rintro v d ⟨⟨i,rfl,a,_⟩,rfl⟩;refine⟨i,hZ,?_,hZ⟩;congr 1;exact decide_eq_decide.2 a
theorem Zo(n:Nat)(s:Sl)(l:List Nat){B:av}{r h:f7}{As:List HP}(H:aa B r h As)(i:Nat)(m:As[i]?=dB (an 3 s 1 aw (ints l)))(O:n<=64)(L:hY l<=n)(J:∀x∈l,x<n):
  ai xT 291 #[s,xJ xP n] h λv h'=>match kz n l with
   |some l'=>v=xN ez/\aa B r h' (As.set i (an 3 s 1 aw (ints l')))
   |none=>v=xN eH/\h'=h:=by
 refine ts Tryz.func291 ?_ (v7 (u7 (v7 (v1 (v2 [(5,aU)] [(4,7),(10,48)] (v7 (u7 (v1 (v7 (u7 (v7 (wj [(6,aU)] [(6,7),(33,48)])) u9))) u9))))) u9));have c:=(H.own i m).len;rw[lA]at c;refine aq (λk:Nat=>(k:Int)-1) (λk h'=>h'=h/\k<=hY l/\kz n (l.drop k)=et) (λk=>k) l.length (by rw[c,ag _]) ⟨hZ,qm _,by rw[yw];rfl⟩ ?_;rintro k M ⟨rfl,Q,b⟩;refine af (λe=>?_) (λe=>?_)
 .obtain⟨k,rfl⟩:∃j,k=j+1:=⟨k-1,ii⟩
  have a:k<hY l:=ii
  have A:=H.seq i m λ_=>rfl;have f:(((k+1:Nat):Int)-1)=(k:Int):=ii
  have E:=J _ (qf a);have g:kz n (l.drop k)=if l[k]+(hY l-k-1)+1<n then dB (zT (l[k]+1) (hY l-k-1+1))else et:=by rw[qL a];unfold kz;rw[b];simp[Nat.sub_sub]
  refine A.bo k f (by rw[lA];exact a) _ hZ ?_;rw[HX a,f,ag ((n:Int)-((s.len:Nat):Int)),ag _];refine af (λI=>?_) (λI=>?_)
  .refine A.bo k hZ (by rw[lA];exact a) _ hZ ?_;rw[HX a,ag _];rw[f8 ii]at g;have K:=OP k l _ ii g;rw[K]
   try dsimp only
   refine H.set ae i m (λ_=>rfl) hZ k hZ (by rw[lA];exact a) ((l[k]:Int)+1) hZ hZ hZ λP y=>?_;let st:Nat->List Nat:=λj=>l.take k++zT (l[k]+1) (j+1)++l.drop (k+1+j);have d:(ints l).set k ((l[k]:Int)+1)=ints (st 0):=by
    have:st 0=l.set k (l[k]+1):=by simp only[st];rw[List.set_eq_take_append_cons_drop,f8 a];simp[List.range'_succ]
    rw[this];simp[ints,vG]
   rw[d]at y;refine aq (λj:Nat=>((k+1+j:Nat):Int)) (λj h'=>k+1+j<=hY l/\aa B r h' (As.set i (an 3 s 1 aw (ints (st j))))) (λj=>hY l-j) 0 i9 ⟨ii,y⟩ ?_;rintro j h3 ⟨N,o⟩;have z:hY (st j)=hY l:=by simp[st];omega
   have u:i<hY As:=(qk.1 m).1;have D:(As.set i (an 3 s 1 aw (ints (st j))))[i]?=dB (an 3 s 1 aw (ints (st j))):=zj u;refine af (λG=>?_) (λG=>?_)
   .have p:k+1+j<hY l:=ii
    have t:(st j)[k+j]'ii=l[k]+1+j:=by simp only[st,qn];rw[wD i5,List.getElem_append_left i5];simp[List.getElem_range'];omega
    refine(o.seq i D λ_=>rfl).bo (k+j) j1 (by rw[lA];omega) _ hZ ?_;rw[HX ii,t,ag _];refine o.set ae i D (λ_=>rfl) hZ (k+1+j) hZ (by rw[lA];omega) (((l[k]+1+j:Nat):Int)+1) hZ hZ hZ λR q=>?_;refine⟨j+1,j1,⟨ii,?_⟩,ii⟩;rw[List.set_set]at q;have:(ints (st j)).set (k+1+j) (((l[k]+1+j:Nat):Int)+1)=ints (st (j+1)):=by
     have F:(st j).set (k+1+j) (l[k]+1+j+1)=st (j+1):=by
      simp only[st];rw[qV _ _ i5];have:k+1+j-hY (List.take k l++zT (l[k]+1) (j+1))=0:=i5
      rw[this,qL p,zn,List.range'_concat (n:=j+1)];simp[wU]
     rw[<-F];simp[ints,vG]
    rw[this]at q;exact q
   .have w:k+1+j=hY l:=ii
    refine⟨hZ,?_⟩;have:l.take k++zT (l[k]+1) (hY l-k-1+1)=st j:=by simp only[st];rw[w,yw,qG,show l.length-k-1+1=j+1 by omega]
    rw[this];exact o
  .rw[f9 ii]at g;exact⟨k,by rw[ag _],⟨hZ,ii,g⟩,ii⟩
 .have:k=0:=ii
  subst this;rw[List.drop_zero]at b;rw[b];exact⟨hZ,hZ⟩
theorem afK(h:f7)(x:UInt8):ai xT 310 #[xJ xQ x.toNat] h λv h'=>v=xN (x !=0)/\h'=h:=by
 refine ts Tryz.func310 ?_;refine⟨?_,hZ⟩;congr 1;by_cases a:x=0
 .subst a;rfl
 .have:((x.toNat:Nat):Int)≠0:=λb=>a (Bo.1 b);rw[bne_iff_ne.2 a];exact bne_iff_ne.2 this
theorem Fl(a:Sl)(l:Row)(h:f7)(p:Rd h a 1 aB l)(u:hY l<=2^30:=by omega):ai xT 250 #[a] h λv h'=>v=xJ xP (if fD l<hY l then(fD l:Int)else-1)/\h'=h:=by
 refine ts Tryz.func250 ?_;refine(pS a (310,#[],#[]) (R:=λv h'=>v=xJ xP (if fD l<hY l then(fD l:Int)else-1)/\h'=h) ?_).mono ?_
 .skip
  have r:=p.len;refine aq (λi:Nat=>(i:Int)) (λi h'=>h'=h/\i<=hY l/\∀j (b:j<hY l),j<i->l[j]=0) (λi=>hY l-i) 0 hZ ⟨hZ,ii,λj _ b=>ii⟩ ?_;rintro i o ⟨rfl,t,d⟩;refine af (λe=>?_) (λe=>?_)
  .have c:i<hY l:=ii
   refine p.bo i hZ c _ hZ ?_;refine dV kt ?_;refine(afK o l[i]).mono ?_;rintro v s ⟨rfl,rfl⟩;refine⟨_,hZ,aY (λm=>?_) λm=>?_⟩
   .have k:fD l=i:=by rw[fD,List.findIdx_eq c];exact⟨m,λj b=>by simp[d j ii b]⟩
    rw[k,f8 c];exact⟨hZ,hZ⟩
   .refine⟨i+1,i9,⟨hZ,ii,λj b n=>?_⟩,ii⟩;rcases zf.1 n with h3|rfl
    .exact d j b h3
    .simpa using m
  .have g:¬fD l<hY l:=by rw[fD,List.findIdx_lt_length];rintro⟨x,q,f⟩;obtain⟨j,b,rfl⟩:=qB q;rw[d j b ii]at f;simp at f
   rw[f9 g];exact⟨hZ,hZ⟩
 .rintro v o ⟨rfl,rfl⟩;exact⟨_,hZ,hZ,hZ⟩
theorem acG(a b:Sl)(c d:Row)(h:f7)(j:Rd h a 1 aB c)(l:Rd h b 1 aB d)(A:hY c=hY d)(y:hY c<=2^30):ai xT 356 #[a,b] h λv h'=>∃r:Sl,v=.tuple #[r,xN ez]/\Sp h h' [an 5 r 1 aB (zg (·^^^·) c d)]:=by
 refine ts Tryz.func356 ?_ (v7 (v7 (v7 (wj [(18,aU)] [(7,8),(18,34)]))));have t:=j.len;have w:=l.len;refine bA (λe=>ii) λ_=>?_;refine(Sp.refl h).make ae aB gN i0 0 hZ hZ c.length c.length ii ii (qm _) ii λs h3 o x m=>?_;refine aq (λk:Nat=>(k:Int)) (λk h'=>k<=hY c/\Sp h h' [an 5 s 1 aB (zg (·^^^·) (c.take k) (d.take k)++qg (hY c-k) 0)]) (λk=>hY c-k) 0 hZ ⟨ii,sb⟩ ?_;rintro k B ⟨z,f⟩;refine af (λe=>?_) (λe=>?_)
 .have g:k<hY c:=ii
  refine(Seq.up j f.ac).bo k hZ g _ hZ ?_;refine(Seq.up l f.ac).bo k hZ ii _ hZ ?_;rw[ou];refine f.set ae 0 hZ (λ_=>rfl) hZ k hZ i5 (c[k]^^^d[k]) hZ hZ hZ λu q=>⟨x7,?_⟩
  refine⟨k+1,i9,⟨ii,?_⟩,ii⟩;have i:hY (zg (·^^^·) (c.take k) (d.take k))=k:=i5
  have p:(zg (·^^^·) (c.take k) (d.take k)++qg (hY c-k) (0:UInt8)).set k (c[k]^^^d[k])=zg (·^^^·) (c.take (k+1)) (d.take (k+1))++qg (hY c-(k+1)) 0:=by rw[qV _ _ ii,i,qX,show c.length-k=hY c-(k+1)+1 by omega,yo,zn,aE _ _ g,aE _ _ (show k<hY d by omega),yM i5,qn];rfl
  rw[<-p];exact q
 .have:k=hY c:=ii
  subst this;refine⟨s,hZ,?_⟩;rw[qh (qm _),qh ii,qX,va,qG]at f;exact f
theorem afL(c:UInt8)(a b:Row):zg (·^^^·) (scaleB c a) b=cW c a b:=by unfold scaleB cW;rw[List.zipWith_map_left];congr 1;funext x y;exact UInt8.xor_comm _ _
theorem Zp(f:eS)(c:UInt8)(a b:Sl)(d e:Row)(h:f7)(m:fY h f)(o:Rd h a 1 aB d)(p:Rd h b 1 aB e)(q:hY d=hY e)(k:hY d<=2^30):
  ai xT 337 #[xL (dB f),xJ xQ c.toNat,a,b] h λv h'=>∃r:Sl,v=.tuple #[r,xN ez]/\Sp h h' [an 5 r 1 aB (cW c d e)]:=by
 refine ts Tryz.func337 ?_;refine(Jt f c a d h m o k).mono ?_;rintro v l ⟨r,rfl,g⟩;refine⟨r,hZ,(acG r b _ e l (g.seq 0 hZ λ_=>rfl) (Seq.up p g.ac) (by rw[oY];exact q) (by rw[oY];exact k)).x0 λw s n=>?_⟩;refine⟨(w,ez),hZ,w,hZ,?_⟩;rw[<-afL];exact(g.comp n).take 1 λi A j=>by cases i with|zero=>exact j|succ i=>simp at j
def iS(f:eS)(n:Nat)(a:Sl):aT:=[xL (dB f),xJ xP n,a]
def jf(b f:eS)(n:Nat)(M:aN):HP:=.ex λa:Sl=>(aj b 368 (iS f n a)).sep (bV 34 a 1 bn (cz 1 aB) M)
theorem Zq(d f:eS)(n:Nat)(b r:Sl)(M:aN)(l:Row)(h:f7)(s:bQ h d 368 (iS f n b))(B:fY h f)(F:eu (bN (cz 1 aB) 1 bn) h b M)(D:Rd h r 1 aB l)
  (T:hY l=n) (V:n<=64) (p:aV n M) (z:∀x∈M,fD x<n) (L:hY M<=2^30):
  ai xT 294 #[xL (dB d),r] h λv h'=>∃w:Sl,v=.tuple #[w,xN ez]/\Sp h h' [an 5 w 1 aB (fl M l)]:=by
 refine ts Tryz.func294 ?_ (v7 (ws [] [(4,6),(10,21)] (v7 (wj [(6,cM),(28,aU)] [(6,7),(8,10),(28,51)]))));have P:=D.len;have O:=bN.len F;refine aG ?_;refine aY (λe=>jj) λ_=>?_;refine⟨d,hZ,n,s.cell hZ,bA (λe=>ii) λ_=>?_⟩;refine(fP r l h D ii).mono ?_;rintro v U ⟨w,rfl,I⟩;refine⟨w,hZ,d,hZ,b,(s.ac I.ac s.lt).cell hZ,?_⟩;refine aq (λt:Sl×Nat=>(t.1,(t.2:Int))) (λt h'=>t.2<=hY M/\Sp h h' [an 5 t.1 1 aB (fl (M.take t.2) l)]) (λt=>hY M-t.2) (w,0) hZ ⟨i6,by simpa[fl]using I⟩ ?_;rintro⟨o,k⟩ N ⟨X,a⟩;dsimp only at*;refine af (λe=>?_) (λe=>?_)
 .have c:k<hY M:=ii
  have R:M[k].length=n:=p _ (qf _);have E:=z _ (qf c);have g:aV n (M.take k):=λx y=>p x (zw y);have q:=HD g T;have K:=(a.own 0 hZ).len;refine bN.nY (eu.up F a.ac) k hZ c λx y=>?_;refine(Fl x _ N y).mono ?_;rintro v h3 ⟨rfl,rfl⟩;refine⟨_,hZ,?_⟩
  try dsimp only
  rw[f8 ii];refine(a.seq 0 hZ λ_=>rfl).bo (fD M[k]) hZ ii _ hZ ?_;have u:(fl (M.take k) l)[fD M[k]]'ii=aO (fl (M.take k) l) (fD M[k]):=(KN ii).symm;have m:fl (M.take (k+1)) l=cW (aO (fl (M.take k) l) (fD M[k])) M[k] (fl (M.take k) l):=by unfold fl;rw[aE _ _ c,wc];rfl
  rw[u];refine bA (λH=>?_) (λH=>?_)
  .refine⟨d,hZ,dB f,(s.ac a.ac s.lt).cell0 hZ,?_⟩;refine(Zp f (aO (fl (M.take k) l) (fD M[k])) x o M[k] _ h3 (B.ac a.ac B.lt) y (a.seq 0 hZ λ_=>rfl) ii ii).x0 λJ W Q=>⟨(J,ez),hZ,⟨(J,k+1),i7,⟨i4,?_⟩,i4⟩⟩
   try dsimp only
   rw[m];exact(a.comp Q).take 1 λi A G=>by cases i with|zero=>exact G|succ i=>simp at G
  .refine⟨(o,k+1),i7,⟨i4,?_⟩,i4⟩;have S:aO (fl (M.take k) l) (fD M[k])=0:=Bo.1 H;have:fl (M.take (k+1)) l=fl (M.take k) l:=by rw[m,S];refine fh (n:=n) (by rw[bX];exact q) q λj _=>?_;rw[cO ii,Gf.zero_mul,UInt8.xor_zero]
   try dsimp only
   rw[this];exact a
 .refine⟨o,hZ,?_⟩;rw[qh ii]at a;exact a
theorem Nn(f:eS)(n:Nat)(h:f7)(j:n<=64):ai xT 238 #[xL (dB f),xJ xP n] h λv h'=>∃c:eS,v=xL (dB c)/\Sp h h' [jf c f n []]:=by refine ts Tryz.func238 ?_ (v7 (ws [] [(4,11)] (ws [(0,TR)] [(0,1),(11,14)] u9)));refine aG ?_;refine af (λe=>ii) λ_=>af (λe=>ii) λ_=>?_;refine aG ?_;refine aY (λe=>jj) λ_=>?_;refine(Sp.refl h).boxed λa i d=>?_;refine⟨a,hZ,?_⟩;have g:=(d.th 34 1 bn (cz 1 aB)).join 0 1 i0 hZ hZ;exact(g.close' (F:=λb:Sl=>(aj a 368 (iS f n b)).sep (bV 34 b 1 bn (cz 1 aB) [])) 0 ⟨et,0,0⟩ hZ).del 1
theorem jf.open{B:av}{c h:f7}{As:List HP}{b f:eS}{n:Nat}{M:aN}(H:aa B c h (jf b f n M::As)):
  ∃a:Sl,aa B c h (bV 34 a 1 bn (cz 1 aB) M::aj b 368 (iS f n a)::As):=by
 obtain⟨a,d⟩:=H.pD;exact⟨a,d.mD⟩
theorem jf.close{B:av}{c h:f7}{As:List HP}{b f:eS}{n:Nat}{M:aN}{a:Sl}(H:aa B c h (bV 34 a 1 bn (cz 1 aB) M::aj b 368 (iS f n a)::As)):
  aa B c h (jf b f n M::As):=H.jw.uF (F:=λa:Sl=>(aj b 368 (iS f n a)).sep (bV 34 a 1 bn (cz 1 aB) M)) a
theorem Ce(a f:eS)(n:Nat)(M:aN){B:av}{d h:f7}{As:List HP}(H:aa B d h (jf a f n M::As)):ai xT 297 #[xL (dB a)] h λv h'=>v=xJ xP M.length/\h'=h:=by refine ts Tryz.func297 ?_;obtain⟨b,c⟩:=jf.open H;refine aY (λe=>jj) λ_=>?_;exact⟨a,hZ,b,(c.box 1 hZ).cell hZ,by rw[(c.Oo 0 hZ).1],hZ⟩
theorem DL(g f:eS)(n:Nat)(M:aN)(r:Sl)(l:Row){B:av}{s h:f7}{As:List HP}(H:aa B s h (jf g f n M::As))(D:St B s As λh=>fY h f)(N:Rd h r 1 aB l)
  (K:hY l=n) (E:n<=64) (j:aV n M) (y:∀x∈M,fD x<n) (R:hY M<=64):
  ai xT 240 #[xL (dB g),r] h λv h'=>(∃b,v=xN b)/\aa B s h' (jf g f n (OS M l)::As):=by
 refine ts Tryz.func240 ?_ (v7 (v7 (ws [] [(4,5),(13,20)] u9)));obtain⟨m,p⟩:=jf.open H;have k:=HD j K;refine(Zq g f n m r M l h (p.box 1 hZ) (D [_,_] h p) (p.LH 0 hZ λ_=>rfl) N K E j y ii).mono ?_;rintro v L ⟨w,rfl,J⟩;have F:=p.ci J;have W:=J.seq 0 hZ λ_=>rfl;refine⟨(w,ez),hZ,aG ?_⟩;refine aW (λe=>jj) λ_=>?_;refine(Fl w _ L W).mono ?_;rintro v Z ⟨rfl,rfl⟩;refine⟨_,hZ,?_⟩
 try dsimp only
 by_cases c:fD (fl M l)<hY (fl M l)
 .rw[f8 c];refine uC (g9 (xH.2 (Int.natCast_nonneg _))) ?_;have u:=F.Aq 0 hZ λ_=>rfl;have a:=u.box 2 hZ;refine⟨g,hZ,dB f,a.cell0 hZ,g,hZ,m,a.cell hZ,?_⟩;have o:aV n (M++[fl M l]):=nh j k;refine u.oX ae bn fF hZ [w] hZ (show 1*1<=2^20 by decide) hZ ⟨a.cell hZ,a.cell0 hZ,x7⟩ ?_;refine u.nH ae 1 0 i0 hZ hZ fF hZ i0 (λ_=>rfl) jH hZ i0 ii λG A V=>?_;have d:=V.oz;have t:=d.box 1 hZ;refine⟨⟨t.cell0 hZ,x7⟩,?_⟩;refine(GN f G _ n A (D [_,_] A d) (bN.tofe (d.LH 0 hZ λ_=>rfl)) o E i5).mono ?_;rintro v O ⟨q,rs,rfl,Q,z,P,Y⟩;have i:=(iy o (ff (M++[fl M l]))).2;have T:Sp A O [bV 34 ⟨q.ptr,bZ (M++[fl M l]),q.cap⟩ 1 bn (cz 1 aB) (nj (M++[fl M l]))]:=by have:=aa.aeZ (As:=[]) Y (by rw[i];exact z) (λ_=>rfl) (bZ (M++[fl M l])) (by rw[i];omega);exact this
  have X:=d.ci T;refine⟨q,hZ,x7,g,hZ,?_⟩;refine X.storeAt ae 2 hZ hZ (off:=2) (v:=xK q.ptr q.len q.cap) hZ hZ hZ (by simp[iS]) λU I=>⟨x7,⟨_,hZ⟩,?_⟩
  have S:aa B s U (bV 34 ⟨q.ptr,bZ (M++[fl M l]),q.cap⟩ 1 bn (cz 1 aB) (nj (M++[fl M l]))::bV 34 G 1 bn (cz 1 aB) (M++[fl M l])::aj g 368 (iS f n ⟨q.ptr,bZ (M++[fl M l]),q.cap⟩)::As):=by rw[show q.len=bZ (M++[fl M l])from Q]at I;exact I
  rw[OS,f8 c];exact jf.close S.pC
 .rw[f9 c];refine DX (g0 i0) ⟨⟨_,hZ⟩,?_⟩;rw[OS,f9 c];exact jf.close F.oz
theorem No(i f:eS)(n:Nat)(M:aN)(a:Sl)(h:f7)(y:bQ h i 368 (iS f n a))(d:eu (bN (cz 1 aB) 1 bn) h a M)(o:hY M<=64)(j:aV n M)(B:n<=64):
  ai xT 338 #[xL (dB i)] h λv h'=>∃r:Sl,v=r/\Sp h h' [bV 34 r 1 bn (cz 1 aB) M]:=by
 refine ts Tryz.func338 ?_ (v7 (v7 (v7 (wj [(3,cM),(13,aU)] [(3,4),(5,6),(13,23)]))));refine aY (λe=>jj) λ_=>?_;have l:=bN.len d;refine⟨i,hZ,a,y.cell hZ,?_⟩;refine aq (λt:Sl×Nat=>(t.1,(t.2:Int))) (λt h'=>t.2<=hY M/\Sp h h' [bV 34 t.1 1 bn (cz 1 aB) (M.take t.2)]) (λt=>hY M-t.2) (⟨et,0,0⟩,0) hZ ⟨i6,(Sp.refl h).th 34 1 bn (cz 1 aB)⟩ ?_;rintro⟨s,k⟩ p ⟨D,g⟩;dsimp only at*;refine af (λe=>?_) (λe=>?_)
 .have b:k<hY M:=ii
  have z:=j _ (qf b);refine bN.nY (eu.up d g.ac) k hZ b λx m=>?_;refine(fP x M[k] p m ii).x0 λc h3 A=>?_;have q:=(g.ci A).Aq 0 hZ λ_=>rfl;refine⟨c,hZ,?_⟩;refine q.nH ae 1 0 i0 hZ hZ fF hZ i0 (λ_=>rfl) jH hZ i0 i5 λu E w=>?_;refine⟨(u,k+1),i7,⟨i4,?_⟩,i4⟩
  try dsimp only
  rw[aE _ _ b];exact w.oz
 .rw[qh ii]at g;exact⟨s,hZ,g⟩
theorem jf.rd{B:av}{s h:f7}{As:List HP}{k f:eS}{n:Nat}{M:aN}(H:aa B s h As)(i:Nat)(q:As[i]?=dB (jf k f n M)):∃g:Sl,bQ h k 368 (iS f n g)/\eu (bN (cz 1 aB) 1 bn) h g M:=by obtain⟨g,u,v,y,w,m,t,rs,z,a,b,c,d,e⟩:=H.at i q;exact⟨g,t.1,rs,a.seq (λ_=>rfl) λx j=>m x (b x j).1,d,λi r l o p=>(cz 1 aB).mono (e i r l o p) λx j=>m x (c x j)⟩
theorem Le(b f:eS)(n:Nat)(M:aN)(c:Sl)(h:f7)(g:bQ h b 368 (iS f n c))(i:eu (bN (cz 1 aB) 1 bn) h c M)(j:hY M<=64)(k:aV n M)(q:n<=64):
  ai xT 296 #[xL (dB b)] h λv h'=>∃d:eS,v=xL (dB d)/\Sp h h' [jf d f n M]:=by
 refine ts Tryz.func296 ?_;refine aY (λe=>jj) λ_=>?_;refine⟨b,hZ,dB f,g.cell0 hZ,b,hZ,n,g.cell hZ,?_⟩;have o:bR.ok [(b.add 1,(xJ xP (n:Int))),(b,(xL (dB f)))] h:=⟨g.cell hZ,g.cell0 hZ,x7⟩
 refine(No b f n M c h g i j k q).x0 λr t p=>?_;have l:=jW p.ac o;refine⟨r,hZ,l,p.boxed λa u m=>?_⟩;have s:=m.aZ;refine⟨jW m.ac o,a,hZ,?_⟩;exact jf.close s.ie
def dl(p:Pm)(seed:Int)(ids:az):aN:=if bK p then(ids.filter bW).map (oJ (bG p).toNat seed)else[]
theorem GU{p:Pm}{seed:Int}{ids:az}{k:Nat}(b:k<hY ids):dl p seed (ids.take (k+1))=dl p seed (ids.take k)++(if(bK p&&bW ids[k])=ez then[oJ (bG p).toNat seed ids[k]]else[]):=by
 unfold dl;by_cases a:bK p=ez
 .rw[f8 a,f8 a,oK b];by_cases h:bW ids[k]=ez
  .rw[f8 h,f8 (by rw[a,h];rfl),qN];rfl
  .rw[f9 h,f9 u6,qG]
 .rw[f9 a,f9 a,f9 m5];rfl
theorem Sk(p:Pm)(seed:Int)(ids:az):aV (bG p).toNat (dl p seed ids):=λr a=>by
 unfold dl at a;split at a
 .obtain⟨i,_,rfl⟩:=qo.1 a;exact Oz _ _ _
 .cases a
theorem JM(p:Pm)(seed:Int)(ids:az):hY (dl p seed ids)<=hY ids:=by
 unfold dl;split
 .rw[qu];exact qU _ _
 .simp
abbrev Fm:iW Sl aN:=bN (cz 1 aB) 1 bn
theorem Zr(p:Pm)(seed:Int)(w:Sl)(W:cg)(h:f7)(I:eu (bN (cz 1 aw) 1 bn) h w W)(hl:hY W<=2^20)(J:∀l∈W,hY l<=2^20):
  ai xT 241 #[kb p,xJ xR seed,w] h λv h'=>∃r:Sl,v=r/\Sp h h' [bV 53 r 1 bn Fm (W.map (dl p seed))]:=by
 refine ts Tryz.func241 ?_ (v7 (v7 (u7 (v7 (v1 (v2 [(7,cM),(16,aU)] [(7,8),(9,11),(12,14),(16,42)] (v7 (v7 (u7 (v1 (v7 (v7 (wj [(10,cM),(22,aU)] [(10,11),(12,14),(22,37)])))) u9)))))) u9))) (args:=[p,(xJ xR (seed:Int)),w]);obtain⟨S,u,R,F⟩:=bN.kN I;have U:=u.len;refine(Sp.refl h).boxed λa V P=>?_;refine aq (λt:Sl×Nat=>(t.1,(t.2:Int))) (λt h'=>t.2<=hY W/\Sp h h' [bV 53 t.1 1 bn Fm ((W.take t.2).map (dl p seed)),aj a 25 [xJ xP p.1,xJ xP p.2.1,xJ xP p.2.2]]) (λt=>hY W-t.2) (⟨et,0,0⟩,0) hZ ⟨i6,(P.th 53 1 bn Fm).aZ⟩ ?_;rintro⟨o,k⟩ Y ⟨hk,A⟩;dsimp only at*;refine af (λe=>?_) (λe=>?_)
 .have i:k<hY W:=ii
  have Q:=J _ (qf i);have B:=F k ii i;refine(Seq.up u A.ac).mQ k hZ ii ?_;generalize S[k]'ii=x at B;have T:=Seq.len B;refine aq (λt:Sl×Nat=>(t.1,(t.2:Int))) (λt h'=>t.2<=W[k].length/\Sp h h' [bV 34 t.1 1 bn (cz 1 aB) (dl p seed (W[k].take t.2)),bV 53 o 1 bn Fm ((W.take k).map (dl p seed)),aj a 25 [xJ xP p.1,xJ xP p.2.1,xJ xP p.2.2]]) (λt=>W[k].length-t.2) (⟨et,0,0⟩,0) hZ ⟨i6,by
    have:=(A.th 34 1 bn (cz 1 aB)).aZ;have L:dl p seed []=[]:=by unfold dl;split<;>rfl
    dsimp only;rw[List.take_zero,L];exact this⟩ ?_
  rintro⟨s,j⟩ h3 ⟨X,y⟩;dsimp only at*;refine af (λN=>?_) (λN=>?_)
  .have g:j<W[k].length:=ii
   refine(Seq.up B y.ac).bo j hZ g _ hZ ?_;refine⟨p,(y.box 2 hZ).aA _ hZ,(PD p seed W[k][j] h3).x0 λc Z ⟨O,f⟩=>?_⟩;refine⟨c,hZ,?_⟩;have z:=(y.ci O).Aq 0 hZ λ_=>rfl;have m:=JM p seed (W[k].take j);rw[List.length_take]at m;refine aW (λq=>?_) (λq=>?_)
   .rw[f]at q;have d:(bK p&&bW W[k][j])=ez:=o4
    rw[d,f8 rfl]at z;refine z.nH ae 1 0 i0 hZ hZ fF hZ i0 (λ_=>rfl) jH hZ i0 ii λH K G=>?_;have D:=G.oz;refine⟨(H,j+1),i7,⟨i4,?_⟩,i4⟩;dsimp only;rw[GU g,f8 d];exact D
   .rw[f]at q;have d:¬(bK p&&bW W[k][j])=ez:=λM=>by rw[M]at q;cases q
    refine⟨(s,j+1),i7,⟨i4,?_⟩,i4⟩;dsimp only;rw[GU g,f9 d,qG];exact z.oz
  .rw[qh ii]at y;have z:=y.KF 0 hZ λ_=>rfl;refine z.nH ae 1 0 i0 (E:=Fm) (a:=s) (b:=dl p seed W[k]) hZ hZ (⟨_,_,hZ,hZ,hZ,hZ,hZ,hZ⟩:bL C.toBH 312 53 1 [xK et 0 0] 24) hZ i0 (λ_=>rfl) jH hZ i0 i5 λH K G=>?_;refine⟨(H,k+1),i7,⟨i4,?_⟩,i4⟩
   try dsimp only
   rw[aE _ _ i,qN];exact G.oz
 .rw[qh ii]at A;exact⟨o,hZ,A.pC⟩
def lU(R:List aN)(a:az):Nat->aN
 |0=>[]
 |k+1=>lU R a k++if(k:Int)∈a then[]else R.getD k []
theorem Mu{n:Nat}{R:List aN}(c:∀m∈R,aV n m)(b:az):∀k,aV n (lU R b k)
 |0=>λr a=>t7
 |k+1=>λr a=>by
  rcases qt.1 a with a|a
  .exact Mu c b k r a
  .split at a
   .cases a
   .rw[qd]at a;cases hg:R[k]? with
    |none=>rw[hg]at a;cases a
    |some m=>rw[hg]at a;exact c m (List.mem_of_getElem? hg) r a
theorem Qk(R:List aN)(a:az):∀{j k:Nat},j<=k->∃X,lU R a k=lU R a j++X
 |j,0,h=>⟨[],by
   have:j=0:=ii
   subst this;simp⟩
 |j,k+1,h=>by
  by_cases c:j=k+1
  .subst c;exact⟨[],i6⟩
  .obtain⟨X,b⟩:=Qk R a (j:=j) (k:=k) ii;exact⟨X++if(k:Int)∈a then[]else R.getD k [],by rw[lU,b,qn]⟩
theorem acH{n:Nat}{m:aN}(c:aV n m)(h:bZ m=n){b:aN}(a:aV n b)(d:∀r∈m,r∈b):bZ b=n:=by have e:=lM a;have f:=Eo c a d;omega
theorem Sm(J f:eS)(n:Nat)(M A:aN)(t l g:Sl)(R:List aN)(a:az)(h:f7)(hb:bQ h J 368 (iS f n t))(O:eu Fm h t M)(N:fY h f)(hl:eu (bN Fm 1 bn) h l R)(hg:Rd h g 1 aw a)
  (hn:n<=64) (i:CB n M A) (W:∀m∈R,aV n m/\m.length<=2^20) (am:hY R<=2^20) (K:hY a<=2^30):
  ai xT 242 #[xL (dB J),l,g,xJ xP n] h λv h'=>v=xN (decide (bZ (A++lU R a R.length)=n))/\Sp h h' []:=by
 refine ts Tryz.func242 ?_ (v7 (v7 (u7 (v7 (v1 (v2 [(18,aU)] [(8,9),(10,12),(13,14),(18,41)] (v7 (v7 (u7 (v1 (v7 (v7 (v7 (v1 (v2 [(28,aU)] [(8,9),(13,14),(28,40)] u9)))))) u9)))))) u9)));obtain⟨ls,G,ao,P⟩:=bN.kN hl;have ad:=G.len;have p:∀{q A':aN},CB n q A'->hY q<=64:=λx=>by have:=x.len;have:=lM x.evenA;omega
 have Q:St (λb=>b<h.size) h [] λh'=>fY h' f:=.base N λh' hp=>N.ac hp N.lt;have T:aV n (A++lU R a R.length):=λr d=>(qt.1 d).elim (i.evenA r) (Mu (λm hm=>(W m hm).1) a _ r);refine(Le J f n M t h hb O (p i) i.even hn).mono ?_;rintro v h1 ⟨s,rfl,R1⟩;refine⟨dB s,hZ,?_⟩;refine aq (λk:Nat=>(k:Int)) (λk h'=>k<=hY R/\∃q,CB n q (A++lU R a k)/\Sp h h' [jf s f n q]) (λk=>hY R-k) 0 hZ ⟨ii,M,by simpa[lU]using i,R1⟩ ?_;rintro k h2 ⟨hk,M2,z,D⟩;refine af (λe=>?_) (λe=>?_)
 .have w:k<hY R:=ii
  have Z:=P k ii w;refine(Seq.up G D.ac).mQ k hZ ii ?_;generalize ls[k]'ii=x at Z;have E:=W _ (qf w);refine(tC g a k h2 (Seq.up hg D.ac) K).mono ?_;rintro v h3 ⟨rfl,rfl⟩;refine⟨_,hZ,af (λL=>?_) λo=>?_⟩
  .refine⟨k+1,i9,⟨ii,M2,?_,D⟩,ii⟩;rw[lU,f8 L,qG];exact z
  .obtain⟨xs,H,ab,S⟩:=bN.kN Z;have al:=H.len;have F:R.getD k []=R[k]:=by rw[qd,qc w];rfl
   refine aq (λj:Nat=>(j:Int)) (λj h'=>j<=R[k].length/\∃q,CB n q ((A++lU R a k)++R[k].take j)/\Sp h h' [jf s f n q]) (λj=>R[k].length-j) 0 hZ ⟨ii,M2,by simpa using z,D⟩ ?_;rintro j h4 ⟨hj,I,c,B⟩;refine af (λe2=>?_) (λe2=>?_)
   .have u:j<R[k].length:=ii
    have U:=S j ii u;refine(Seq.up H B.ac).mQ j hZ ii ?_;generalize xs[j]'ii=y at U;refine(Ce s f n I B).mono ?_;rintro v h5 ⟨rfl,rfl⟩;refine⟨_,hZ,aX (λY=>?_) λY=>?_⟩
    .refine⟨?_,.zip B.ac⟩;have ah:((hY I:Nat):Int)=(n:Int):=Y;have h6:bZ ((A++lU R a k)++R[k].take j)=n:=by have:=c.len;omega
     have h7:bZ (A++lU R a R.length)=n:=by
      refine acH c.evenA h6 T λr d=>?_;obtain⟨X,hX⟩:=Qk R a (j:=k+1) (k:=hY R) ii;rw[hX,lU,f9 o,F];simp only[qt]at d⊢;rcases d with(d|d)|d
      .exact .inl d
      .exact .inr (.inl (.inl d))
      .exact .inr (.inl (.inr (zw d)))
     rw[h7];simp
    .refine(DL s f n I y _ B Q (Seq.up U B.ac) (E.1 _ (qf _)) hn c.even c.lead (p c)).mono ?_;rintro v h6 ⟨⟨b,rfl⟩,H6⟩;refine⟨b,hZ,⟨j+1,i9,⟨ii,_,?_,H6⟩,ii⟩⟩;have:=Yh c (E.1 _ (qf u));rw[aE _ _ u,<-qn];exact this
   .refine⟨k+1,i9,⟨ii,I,?_,B⟩,ii⟩;rw[qh ii]at c;rw[lU,f9 o,F,<-qn];exact c
 .have:k=hY R:=ii
  subst this;refine(Ce s f n M2 D).xa ⟨_,hZ,?_,.zip D.ac⟩;have:=z.len;congr 1;by_cases V:bZ (A++lU R a R.length)=n
  .rw[g0 V];exact beq_iff_eq.2 (show((hY M2:Nat):Int)=n by omega)
  .rw[g9 V];exact beq_eq_false_iff_ne.2 (show((hY M2:Nat):Int)≠n by omega)
def AS(n t:Nat):cg:=(kQ t 0 n).map ints
def Fo(n t:Int)(h:f7)(v:Value)(h':f7):Prop:=
 if 0<=n/\n<=64/\0<=t/\t<=n then
  if jI n t>4096 then v=.tuple #[xK et 0 0,xJ xP 13]/\h'=h
  else∃r:Sl,v=.tuple #[r,xJ xP 0]/\Sp h h' [bV 22 r 1 bn (cz 1 aw) (AS n.toNat t.toNat)]
 else v=.tuple #[xK et 0 0,xJ xP 1]/\h'=h
theorem Ql(n t:Int)(h:f7)(hn:0<=n/\n<=2^30)(ht:(0:Int)<=0):ai xT 237 #[xJ xP n,xJ xP t] h (Fo n t h):=by
 refine ts Tryz.func237 ?_ (v7 (v7 (v7 (u7 (v7 (v1 (v2 [(23,aU)] [(7,8),(23,31)] u9))) (v7 (u7 (v1 (v2 [(8,cM)] [(8,9),(34,42)] u9)) u9))))));refine(Cc n t h).mono ?_;rintro v B ⟨rfl,rfl⟩;refine⟨_,hZ,aW (λe=>?_) λe=>?_⟩
 .show Fo n t B _ B;unfold Fo;rw[f9 (of_decide_eq_false e)];exact⟨hZ,hZ⟩
 .have e:=hU e;refine(Cd n t B ii ii).mono ?_;rintro v i ⟨rfl,rfl⟩;refine⟨_,hZ,af (λu=>?_) λu=>?_⟩
  .show Fo n t i _ i;unfold Fo;rw[f8 e,f8 u];exact⟨hZ,hZ⟩
  .refine(λF=>?_:(∀(v:Value) (h':f7),(∃r:Sl,v=.tuple #[r,xJ xP 0]/\Sp i h' [bV 22 r 1 bn (cz 1 aw) (AS n.toNat t.toNat)])->Fo n t i v h')->_) (λv h' l=>by unfold Fo;rw[f8 e,f9 u];exact l);obtain⟨N,rfl⟩:∃N:Nat,n=N:=⟨n.toNat,ii⟩
   obtain⟨T,rfl⟩:∃T:Nat,t=T:=⟨t.toNat,ii⟩
   have V:hY (kQ T 0 N)<=4096:=by
    rw[HC N T 0 ii];have:jI (N:Int) T=((min (ch N T) 4097:Nat):Int):=by unfold jI;rw[f8 e];rfl
    rw[this]at u;have ab:¬(((min (ch N T) 4097:Nat):Int)>4096):=u;simp;omega
   refine(Sp.refl i).make ae aw gb i0 0 hZ hZ T T hZ hZ (qm _) ii λs h3 ah ao Z=>?_;refine aq (λk:Nat=>(k:Int)) (λk h'=>k<=T/\Sp i h' [an 3 s 1 aw (ints (zT 0 k++qg (T-k) 0))]) (λk=>T-k) 0 hZ ⟨ii,by
    have G:ints (zT 0 0++qg (T-0) 0)=qg T 0:=by simp[ints]
    rw[G];exact Z⟩ ?_
   rintro k h4 ⟨hk,z⟩;refine af (λe3=>?_) (λe3=>?_)
   .have am:k<T:=ii
    refine z.set ae 0 hZ (λ_=>rfl) hZ k hZ (by simp[ints];omega) (k:Int) hZ hZ hZ λW A=>?_;refine⟨k+1,i9,⟨ii,?_⟩,ii⟩;have G:(ints (zT 0 k++qg (T-k) 0)).set k (k:Int)=ints (zT 0 (k+1)++qg (T-(k+1)) 0):=by
     have:(zT 0 k++qg (T-k) 0).set k k=zT 0 (k+1)++qg (T-(k+1)) 0:=by rw[qV _ _ i6,List.length_range',qX,show T-k=T-(k+1)+1 by omega,yo,zn,List.range'_concat];simp
     rw[<-this];simp[ints,vG]
    rw[G]at A;exact A
   .have:k=T:=ii
    subst this;rw[qX,va,qG]at z;refine(ij s _ h4 (z.seq 0 hZ λ_=>rfl) (by simp[ints];omega)).mono ?_;rintro v W ⟨c,rfl,R5⟩;have A:=(z.ci R5).Aq 0 hZ λ_=>rfl;refine⟨c,hZ,?_⟩;refine A.lit ae bn (⟨_,_,hZ,hZ,hZ,hZ,hZ,hZ⟩:bL C.toBH 181 22 1 [xK et 0 0] 24) hZ [c] hZ (show 1*1<=2^20 by decide) hZ λo h6 H6=>?_;have Y:Sp i h6 (bV 22 o 1 bn (cz 1 aw) [ints (zT 0 k)]::an 3 s 1 aw (ints (zT 0 k))::[]):=(H6.agR (E:=cz 1 aw) (a:=c) (b:=ints (zT 0 k)) 2 0 i0 hZ hZ).aZ.pC;have R:=Ex N k 0 ii;refine aq (λx:Sl×List (List Nat)×List Nat×List (List Nat)=>x.1) (λx h'=>x.2.1++x.2.2.2=kQ k 0 N/\pQ N x.2.2.1 x.2.2.2/\x.2.2.1.length=k/\(∀y∈x.2.2.1,y<N)/\Sp i h' [bV 22 x.1 1 bn (cz 1 aw) ((x.2.1++[x.2.2.1]).map ints),an 3 s 1 aw (ints x.2.2.1)]) (λx=>hY x.2.2.2) (o,[],zT 0 k,kQ k 0 N) hZ ⟨hZ,R,i6,λy I=>by rw[List.mem_range'_1]at I;omega,by simpa using Y⟩ ?_;rintro⟨o,g,f,rest⟩ h8 ⟨w,q,X,P,S⟩;dsimp only at*;refine(Zo N s f S 1 hZ ii ii P).mono ?_;intro v D l;cases hs:kz N f with
    |none=>
     rw[hs]at l;obtain⟨rfl,rfl⟩:=l;refine⟨eH,hZ,?_⟩;refine uC hZ (F _ _ ⟨o,hZ,?_⟩);rw[qj,qj];have:rest=[f]:=by
      cases q with
      |last _=>rfl
      |more h _=>rw[hs]at h;cases h
     rw[this]at w;unfold AS;rw[<-w];exact S.pC
    |some cur'=>
     rw[hs]at l;obtain⟨rfl,K⟩:=l;refine⟨ez,hZ,DX hZ ?_⟩;obtain⟨L,J,d⟩:∃L,pQ N cur' L/\rest=f::L:=by
      cases q with
      |last h=>rw[hs]at h;cases h
      |more h h'=>rw[hs]at h;injection h with h;subst h;exact⟨_,h',hZ⟩
     have j:=K;have p:cur'∈kQ k 0 N:=by
      rw[<-w,d];have:cur'∈L:=by cases J<;>simp
      simp[this]
     have m:=Cz p;have ap:hY g+2<=hY (kQ k 0 N):=by
      rw[<-w,d];have:1<=hY L:=by cases J<;>simp
      simp;omega
     refine(ij s _ D (j.seq 1 hZ λ_=>rfl) (by rw[lA];omega)).x0 λU al Q=>?_;have M:=(j.ci Q).Aq 0 hZ λ_=>rfl;refine⟨U,hZ,?_⟩;refine M.nH ae 1 0 i0 (E:=cz 1 aw) (a:=U) (b:=ints cur') hZ hZ (⟨_,_,hZ,hZ,hZ,hZ,hZ,hZ⟩:bL C.toBH 181 22 1 [xK et 0 0] 24) hZ i0 (λ_=>rfl) jH hZ i0 i5 λo' ad H=>?_;refine⟨(o',g++[f],cur',L),hZ,⟨by dsimp only;rw[<-w,d];simp,J,m.1,λy I=>(m.2.1 y I).2,?_⟩,by dsimp only;rw[d];simp⟩;have O:=H.oz
     try dsimp only
     rw[qN (l₁:=g++[f])];exact O
def rh(W:cg)(a:az):Nat->az
 |0=>[]
 |k+1=>rh W a k++if(k:Int)∈a then[]else W.getD k []
def nz(p:Pm)(seed:Int)(W:cg)(a:az):Nat:=oA p seed (rh W a W.length)
theorem Wd(p:Pm)(seed:Int)(a b:az):dl p seed (a++b)=dl p seed a++dl p seed b:=by unfold dl;split<;>simp
theorem Mw(p:Pm)(seed:Int)(W:cg)(a:az):∀k,lU (W.map (dl p seed)) a k=dl p seed (rh W a k)
 |0=>by simp[lU,rh,dl]
 |k+1=>by
  rw[lU,rh,Wd,Mw p seed W a k];congr 1;by_cases h:(k:Int)∈a
  .rw[f8 h,f8 h];simp[dl]
  .rw[f9 h,f9 h,qd,qO,qd];cases W[k]? with
   |none=>simp[dl]
   |some l=>rfl
theorem Zs{p:Pm}(a:bK p=ez)(seed:Int)(ids:az):dU p seed ids=bz p.1.toNat p.2.1.toNat++dl p seed ids:=by unfold dU dl;rw[f8 a,f8 a]
def oE(p:Pm)(seed:Int)(W:cg)(t:Nat):Option (az):=(AS W.length t).find? λg=>decide ((nz p seed W g:Int)≠bG p)
def iL(p:Pm)(seed:Int)(W:cg)(t:Int):az×Bool×Int:=
 if bK p then
  if 0<=t/\t<=hY W/\W.length<=64 then
   if jI W.length t>4096 then([],eH,13)
   else match oE p seed W t.toNat with
    |some g=>(g,ez,0)
    |none=>([],eH,0)
  else([],eH,1)
 else([],eH,1)
theorem Lf(K H:Nat):aV (K+H) (bz K H):=λr a=>by
 obtain⟨i,_,rfl⟩:=qo.1 a;exact uM _ _ _
theorem Mx{α:Type}(f:α->Bool)(l:List α){k:Nat}(b:k<hY l)(a:(l.take k).find? f=et):(l.take (k+1)).find? f=if f l[k]then dB l[k]else et:=by rw[aE _ _ b,List.find?_append,a,Option.none_or,List.find?_cons];cases f l[k]<;>rfl
theorem Zt{α:Type}(f:α->Bool)(l:List α){k:Nat}{x:α}(h:(l.take k).find? f=dB x):l.find? f=dB x:=by have:l=l.take k++l.drop k:=(qC k l).symm;rw[this,List.find?_append,h];rfl
theorem JN(p:Pm)(seed:Int)(w:Sl)(W:cg)(t:Int)(h:f7)(hW:eu (bN (cz 1 aw) 1 bn) h w W)(hl:hY W<=2^20)(hr:∀l∈W,hY l<=2^20)(ht:(0:Int)<=0):
  ai xT 189 #[kb p,xJ xR seed,w,xJ xP t] h λv h'=>∃r:Sl,v=.tuple #[r,xN (iL p seed W t).2.1,xJ xP (iL p seed W t).2.2]/\Sp h h' [EA (cz 1 aw) r (iL p seed W t).1]:=by
 refine ts Tryz.func189 ?_ (v7 (v7 (v7 (v7 (v7 (v7 (u7 (v7 (v1 (v2 [(40,aU)] [(15,16),(40,48)] u9))) (v7 (wj [(54,aU)] [(8,11),(18,19),(54,66)]))))))))) (args:=[p,(xJ xR (seed:Int)),w,(t:Int)]);have ax:=bN.len hW;have j:∀{h1:f7},aS (λb=>b<h.size) h h1->Sp h h1 [EA (cz 1 aw) ⟨et,0,0⟩ []]:=λH=>.one H (Seq.nil _ _ _ _ _ _);refine(Sp.refl h).boxed λa h1 H1=>?_;refine⟨p,(H1.box 0 hZ).aA _ hZ,(eE p h1).mono ?_⟩;rintro v h2 ⟨rfl,R2⟩;have H2:=H1.comp R2;refine⟨_,hZ,aW (λe=>?_) λe=>?_⟩
 .refine⟨⟨et,0,0⟩,?_,?_⟩<;>(unfold iL;rw[f9 lc])
  exact j H2.ac
 .have H:bK p=ez:=e;refine(Ql (w.len:Int) t h2 ii ht).mono ?_;intro v h3 E;unfold Fo at E;rw[ax]at E;have O:(0<=((hY W:Nat):Int)/\((hY W:Nat):Int)<=64/\0<=t/\t<=((hY W:Nat):Int))↔(0<=t/\t<=hY W/\W.length<=64):=ii
  by_cases I:0<=t/\t<=hY W/\W.length<=64
  .rw[f8 (O.2 I)]at E;by_cases N:jI W.length t>4096
   .rw[f8 N]at E;obtain⟨rfl,rfl⟩:=E;refine⟨(⟨et,0,0⟩,13),hZ,bA (λ_=>?_) λe=>jj⟩;refine⟨⟨et,0,0⟩,?_,?_⟩<;>(unfold iL;rw[f8 H,f8 I,f8 N])
    exact j H2.ac
   .rw[f9 N]at E;obtain⟨r,rfl,R3⟩:=E;refine⟨(r,0),hZ,bA (λe=>absurd hZ e) λ_=>?_⟩
    try dsimp only
    rw[qj]at R3;have wR:iL p seed W t=match oE p seed W t.toNat with|some g=>(g,ez,0)|none=>([],eH,0):=by unfold iL;rw[f8 H,f8 I,f9 N]
    obtain⟨L,hL⟩:=x6 (AS W.length t.toNat)
    rw[<-hL]at R3;have bd:hY L<=4096:=by
     have h6:jI (hY W:Int) t=((min (ch W.length t.toNat) 4097:Nat):Int):=by unfold jI;rw[f8 (O.2 I)];rfl
     rw[h6]at N;rw[hL,AS,qu,HC _ _ 0 ii,Nat.sub_zero];omega
    have H3:=H2.comp R3;have pp:=(bP p).1 H;have a1:bG p=p.1+p.2.1:=oP H;obtain⟨n,hn⟩:∃n:Nat,bG p=n:=⟨(bG p).toNat,ii⟩
    have z:n<=64:=ii
    refine⟨p,(H3.box 0 hZ).aA _ hZ,(kJ p h3).mono ?_⟩;rintro v h4 ⟨rfl,R4⟩;have H4:=H3.up R4.ac;refine⟨_,hZ,(pZ h4).mono ?_⟩;rintro v h5 ⟨f,rfl,R5⟩;have H5:=H4.ci R5;rw[hn];refine⟨dB f,hZ,(Nn f n h5 z).mono ?_⟩;rintro v h6 ⟨R,rfl,R6⟩;have H6:=H5.ci R6;refine⟨dB R,hZ,p,(H6.box 2 hZ).aA _ hZ,(tu p h6).mono ?_⟩;rintro v h7 ⟨ar,rfl,R7⟩;rw[f8 H]at R7;obtain⟨A,G⟩:=x6 (bz p.1.toNat p.2.1.toNat)
    rw[<-G]at R7;have V:aV n A:=by have:=Lf p.1.toNat p.2.1.toNat;rw[G,show n=p.1.toNat+p.2.1.toNat by omega];exact this
    have a9:hY A<=4:=by rw[G];simp[bz];omega
    have H7:=(H6.comp R7).NF 4 hZ;have S:∀{M' A':aN},CB n M' A'->hY M'<=64:=λx=>by have:=x.len;have:=lM x.evenA;omega
    refine⟨ar,hZ,?_⟩;refine aq (λk:Nat=>(k:Int)) (λk h'=>k<=hY A/\∃M,CB n M (A.take k)/\Sp h h' [jf R f n M,aj f 325 dR,aj a 25 [xJ xP p.1,xJ xP p.2.1,xJ xP p.2.2],bV 22 r 1 bn (cz 1 aw) L,bV 34 ar 1 bn (cz 1 aB) A]) (λk=>hY A-k) 0 hZ ⟨ii,[],by simpa using ahf n,H7⟩ ?_;rintro k h8 ⟨hk,M,s,Q⟩;have bb:=(Q.Oo 4 hZ).1;refine af (λe2=>?_) (λe2=>?_)
    .have c:k<hY A:=ii
     refine bN.nY (Q.LH 4 hZ λ_=>rfl) k hZ c λx hx=>?_;refine(DL R f n M x _ Q (St.ey 0 hZ λh' y=>y.1) hx (V _ (qf _)) z s.even s.lead (S s)).mono ?_;rintro v h9 ⟨⟨b,rfl⟩,Z⟩;refine⟨b,hZ,⟨k+1,i9,⟨ii,_,?_,Z⟩,ii⟩⟩;rw[aE _ _ c];exact Yh s (V _ (qf c))
    .rw[qh ii]at s;refine⟨p,(Q.box 2 hZ).aA _ hZ,(Zr p seed w W h8 (eu.up hW Q.ac) hl hr).mono ?_⟩;rintro v h9 ⟨P,rfl,R9⟩;have Z:=Q.comp R9;refine⟨P,hZ,?_⟩;have a2:∀m∈W.map (dl p seed),aV n m/\m.length<=2^20:=λm N=>by
      obtain⟨l,al,rfl⟩:=qo.1 N;refine⟨?_,qQ (JM p seed l) (hr l al)⟩;have:=Sk p seed l;rw[hn]at this;exact this
     let d:az->Bool:=λg=>decide ((nz p seed W g:Int)≠bG p);have wI:oE p seed W t.toNat=L.find? d:=by unfold oE;rw[<-hL]
     have a8:=(Z.Oo 3 hZ).1;refine aq (λk:Nat=>(k:Int)) (λk h'=>k<=hY L/\(L.take k).find? d=et/\Sp h h' [jf R f n M,aj f 325 dR,aj a 25 [xJ xP p.1,xJ xP p.2.1,xJ xP p.2.2],bV 22 r 1 bn (cz 1 aw) L,bV 34 ar 1 bn (cz 1 aB) A,bV 53 P 1 bn Fm (W.map (dl p seed))]) (λk=>hY L-k) 0 hZ ⟨ii,i6,Z⟩ ?_;rintro k a3 ⟨a6,B,o⟩;refine af (λe3=>?_) (λe3=>?_)
     .have c:k<hY L:=ii
      refine bN.aje (o.LH 3 hZ λ_=>rfl) k hZ c λad x ay K hx=>?_;obtain⟨ab,hb,a0⟩:=jf.rd o 0 rfl;have am:L[k].length<=2^30:=by
       have ah:L[k]∈AS W.length t.toNat:=by have h0:L[k]∈L:=qf c;generalize L[k]=y at h0;rw[hL]at h0;exact h0
       obtain⟨g,hg,ao⟩:=qo.1 ah;have:=(Cz hg).1;rw[<-ao,lA,this];have:=I.2.1;have:=I.2.2;omega
      refine(Sm R f n M A ab P x (W.map (dl p seed)) L[k] a3 hb a0 (o.box 1 hZ) (o.LH 5 hZ λ_=>rfl) hx z s a2 i5 am).xc λa7 T=>?_;have a4:(decide (bZ (A++lU (W.map (dl p seed)) L[k] (W.map (dl p seed)).length)=n))=!d L[k]:=by
       rw[Mw,qu,G,<-Zs H];show _=!decide ((nz p seed W L[k]:Int)≠bG p);rw[hn];unfold nz oA;by_cases Y:bZ (dU p seed (rh W L[k] W.length))=n
       .simp[Y]
       .rw[g9 Y,g0 ii];rfl
      rw[a4];have U:=o.up T.ac;refine⟨_,hZ,aW (λe4=>?_) λe4=>?_⟩
      .have J:d L[k]=ez:=by simpa using e4
       have X:=Mx d L c B;rw[f8 J]at X;have u:iL p seed W t=(L[k],ez,0):=by rw[wR,wI,Zt d L X]
       refine⟨x,by rw[u],?_⟩;rw[u];have a5:=U.KF 3 hZ λ_=>rfl;have F:=pm K T.ac;have ap:=a5.eW (D:=EA (cz 1 aw) x L[k]) 3 hZ λq hq=>bN.pick hq k c ay F;exact ap.take 3 λi A' hi=>by cases i with|zero=>exact hi|succ i=>simp at hi
      .have J:d L[k]=eH:=by simpa using e4
       have X:=Mx d L c B;rw[J]at X;exact⟨k+1,i9,⟨ii,X,U⟩,ii⟩
     .rw[qh ii]at B;have u:iL p seed W t=([],eH,0):=by rw[wR,wI,B]
      refine⟨⟨et,0,0⟩,by rw[u],?_⟩;rw[u];exact j o.ac
  .rw[f9 λY=>I (O.1 Y)]at E;obtain⟨rfl,rfl⟩:=E;refine⟨(⟨et,0,0⟩,1),hZ,bA (λ_=>?_) λe=>jj⟩;refine⟨⟨et,0,0⟩,?_,?_⟩<;>(unfold iL;rw[f8 H,f9 I])
   exact j H2.ac
section
variable {pw:eS}
end
theorem yX{m:ak}{offs:Int}{w:Pow}{ds:aD}{n:ak}(q:w.calm)(l:hY ds=64)(H:dE w offs=eH)(p:bc n=ez)(F:n.seq=m.seq+1):
  let live:=aR ds n.drives;let N:Int->Int:=λ_=>(hY (aP n):Int)
  (live=[]∨dS m ds live N=eH->cj m offs w ds n=(7,m,w,ds))/\(live≠[]->dS m ds live N=ez->∃ds',cj m offs w ds n=(0,n,w,ds')/\ds'.length=64/\
   ∀k,aH ds' k=(aH ds k).map λd=>if k∈live then dD (aP n) (ct m d (aP n).length)else d):=by
 intro live N;have a:live.Nodup:=xY (mq p);have e:cj m offs w ds n=(if live=[]∨dS m ds live N=eH then(7,m,w,ds)else
   if(makes m N live w ds).1≠0 then((makes m N live w ds).1,m,(makes m N live w ds).2)else
   ((layAll (bM n live) (makes m N live w ds).2.1 (makes m N live w ds).2.2).1,if(layAll (bM n live) (makes m N live w ds).2.1 (makes m N live w ds).2.2).1=0 then n else m,(layAll (bM n live) (makes m N live w ds).2.1 (makes m N live w ds).2.2).2)):=by
  unfold cj;rw[f9 (by rw[H];decide),f9 (by rw[p,g9 (by simpa using F)];decide)]
 refine⟨λh=>by rw[e,f8 h],λo g=>?_⟩;rw[e,f9 (by rintro(h|h);exact o h;rw[g]at h;cases h)];obtain⟨G,y,A,r⟩:=Df q (N:=N) a l g;rw[y]
 try dsimp only
 rw[f9 i6];obtain⟨v,E,s,u⟩:=JI q (ds:=G) (P:=bM n live) A λx t=>by
  obtain⟨b,f⟩:=ly t;obtain⟨B,j,i⟩:=sH (qK.1 g x.1 b);obtain⟨z,D,I⟩:=Dg i;refine⟨f,ct m B (N x.1),?_,z,?_⟩
  .rw[r,j,qS,f8 b]
  .rw[pv a,f8 b,D];have:N x.1=(hY (aP n):Int):=rfl;omega
 rw[E];refine⟨v,hZ,s,λk=>?_⟩;rw[u,r,Option.map_map];congr 1;funext d;show dD (lT (bM n live) k) (if k∈live then ct m d (N k)else d)=_;rw[pv a];by_cases c:k∈live
 .rw[f8 c,f8 c,f8 c]
 .rw[f9 c,f9 c,f9 c];rfl
theorem We{o b:Int}{live:az}(g:0<=o/\o<=16777215)(i:0<=b/\b<8)(d:live.Nodup)(c:∀k∈live,0<=k/\k<64):(dM o b live).Nodup/\(dM o b live).Perm live:=by
 have e:dM o b live=sV ((8*o+b)%64).toNat live:=by unfold dM;rw[f8 ii]
 rw[e];have f:=acs ((8*o+b)%64).toNat live;refine⟨f,(List.perm_ext_iff_of_nodup f d).2 λa=>?_⟩;rw[Fg];exact⟨λh=>h.1,λh=>⟨h,c a h⟩⟩
structure ajD (p:Pm) (extra:Int) (c:Nat) (x:Int) (m:ak) (D:aD):Prop where
 m_eq:m=cx p extra (qg c x)
 len:hY D=64
 may:bc m=ez
 dr:m.drives=(qx c).map λi:Nat=>(i:Int)
 at_:∀s,aH D s=if s∈m.drives then dB ⟨x.toNat,aP m,0,[],eH,eH⟩else et
section
variable {pw:eS}
end
structure Pg where
 seq:Int
 num:Int
 many:Int
 bears:aL
 cell:aL
def Qm(x c:aL):Pg:=⟨dv (x.take 4),((x.getD 4 0).toNat:Int),((x.getD 5 0).toNat:Int),(x.drop 7).take (x.getD 6 0).toNat,c⟩
def cH(c:aL):Option Pg:=
 match jz c with
 |some (k,x)=>if k=2/\(x.getD 6 0).toNat<=48/\(x.drop (7+(x.getD 6 0).toNat)).all (λb=>decide (b=0))=ez then dB (Qm x c)else et
 |none=>et
def uw(f:Pg)(i:Int)(x:Pg):Bool:=decide (x.seq=f.seq/\x.many=f.many/\x.num=i)
def kh(l:List Pg)(f:Pg):Nat->Option (List Pg)
 |0=>dB [f]
 |n+1=>match kh l f n with
  |none=>et
  |some out=>match l.find? (uw f ((n+1:Nat):Int))with
   |none=>et
   |some x=>dB (out++[x])
def kK(l:List Pg)(f:Pg):Option (List Pg):=if f.many<=0 then et else kh l f (f.many.toNat-1)
def mG(s:List Pg):Option ak:=
 match kR (s.flatMap Pg.bears)with
 |none=>et
 |some m=>if aP m=s.map Pg.cell then dB m else et
def dZ(a:List Pg)(out:List ak)(x:Pg):List ak:=
 if x.num≠0 then out else match kK a x with
 |none=>out
 |some s=>match mG s with
  |none=>out
  |some m=>if out.any (λy=>decide (bO y=bO m))then out else out++[m]
def Qn(a:List Pg)(xs:List Pg):List ak:=xs.foldl (dZ a) []
def JO(a b:ak):Bool:=decide (b.seq<=a.seq)
def gh(l:bH):List ak:=(Qn (l.filterMap cH) (l.filterMap cH)).mergeSort JO
theorem Wf{seq c a:Int}{b:aL}(g:0<=seq/\seq<4294967296)(q:0<=c/\c<256)(h3:0<=a/\a<256)(r:hY b<=48):cH (kH seq c a b)=dB ⟨seq,c,a,b,kH seq c a b⟩:=by
 have p:hY (bE seq 4++([b8 c,b8 a,b8 b.length]++b))=7+hY b:=m4
 obtain⟨x,e⟩:=x6 (bE seq 4++([b8 c,b8 a,b8 b.length]++b)++qg (55-hY (bE seq 4++([b8 c,b8 a,b8 b.length]++b))) 0)
 have o:jz (kH seq c a b)=dB (2,x):=by unfold kH;rw[Ay,e]
 have d:=IT seq;have f:x.getD 6 0=b8 b.length:=o6
 have l:x.getD 5 0=b8 a:=o6
 have k:x.getD 4 0=b8 c:=o6
 have j:x.take 4=bE seq 4:=o6
 have i:x.drop 7=b++qg (55-(7+hY b)) 0:=by rw[e,p,d];rfl
 have h:((b8 (hY b:Int)).toNat)=hY b:=by have:=pJ (hY b:Int);omega
 unfold cH;rw[o]
 try dsimp only
 have n:(b8 (hY b:Int)).toNat<=48:=ii
 rw[f8 ⟨hZ,by rw[f];exact n,by
  rw[f,h,<-zN,i,List.drop_left];exact qK.2 λy m=>g0 (List.eq_of_mem_replicate m)⟩]
 unfold Qm;rw[j,k,l,f,i,LL g.1 g.2,h,List.take_left];have:=pJ c;have:=pJ a;congr 2<;>omega
theorem GV{c:aL}{g:Pg}(h:cH c=dB g):g.cell=c:=by
 unfold cH at h;split at h
 .split at h
  .injection h with h;rw[<-h];rfl
  .cases h
 .cases h
def nW(m:ak)(i:Nat):Pg:=⟨m.seq,i,dC (bO m),((bO m).drop (48*i)).take 48,kH m.seq i (dC (bO m)) (((bO m).drop (48*i)).take 48)⟩
theorem jo(m:ak):aP m=(qx (dC (bO m))).map λi=>(nW m i).cell:=rfl
theorem afM{m:ak}(a:bc m=ez):dC (bO m)<=9:=by
 have:=Qw.ahT a;unfold aP at this
 rwa [qu,zC]at this
theorem jg{m:ak}(a:bc m=ez){i:Nat}(d:i<dC (bO m)):cH (nW m i).cell=dB (nW m i):=by have b:=afM a;have c:=((dn m).1 ((bU m).1 a).1).1;exact Wf ⟨ii,ii⟩ ⟨ii,ii⟩ ⟨ii,ii⟩ i5
theorem GW(b:aL):∀n,(qx n).flatMap (λi=>(b.drop (48*i)).take 48)=b.take (48*n)
 |0=>i6
 |n+1=>by
  rw[zJ,q9,GW b n,zb,z6,qG,show 48*(n+1)=48*n+48 by omega,List.take_add]
theorem Fp(m:ak):((qx (dC (bO m))).map (nW m)).flatMap Pg.bears=bO m:=by
 have h:((qx (dC (bO m))).map (nW m)).flatMap Pg.bears=(qx (dC (bO m))).flatMap (λi=>((bO m).drop (48*i)).take 48):=by rw[List.flatMap_map];rfl
 rw[h,GW,qh (by unfold dC;omega)]
theorem Qp{m:ak}(a:bc m=ez):mG ((qx (dC (bO m))).map (nW m))=dB m:=by
 unfold mG;rw[Fp,CE.2 ⟨a,hZ⟩]
 try dsimp only
 rw[f8 (by rw[jo,wN];rfl)]
theorem GX{s:List Pg}{m:ak}(h:mG s=dB m):bc m=ez/\aP m=s.map Pg.cell:=by
 unfold mG at h;split at h
 .cases h
 .rename_i c b;split at h
  .rename_i a;injection h with h
   subst h;exact⟨(CE.1 b).1,a⟩
  .cases h
theorem GY{l:List Pg}{f:Pg}:∀{n:Nat} {s:List Pg},kh l f n=dB s->∀x∈s,x=f∨x∈l
 |0,s,h,x,hx=>by
  unfold kh at h;injection h with h;subst h;exact .inl (qp.1 hx)
 |n+1,s,h,x,hx=>by
  unfold kh at h;split at h
  .cases h
  .rename_i out a;split at h
   .cases h
   .rename_i y b;injection h with h
    subst h;rcases qt.1 hx with hx|hx
    .exact GY a x hx
    .rw[qp.1 hx];exact .inr (wW b)
theorem Sn{l:List Pg}{f:Pg}{s:List Pg}(h:kK l f=dB s)(a:f∈l):∀x∈s,x∈l:=by
 unfold kK at h;split at h
 .cases h
 .intro x b;rcases GY h x b with rfl|h
  .exact a
  .exact h
theorem Fq{a:List Pg}{out:List ak}{x:Pg}{m:ak}(h:m∈dZ a out x):m∈out∨∃s,kK a x=dB s/\mG s=dB m:=by
 unfold dZ at h;split at h
 .exact .inl h
 .split at h
  .exact .inl h
  .rename_i s c;split at h
   .exact .inl h
   .rename_i d b;split at h
    .exact .inl h
    .rcases qt.1 h with h|h
     .exact .inl h
     .rw[qp.1 h];exact .inr ⟨s,c,b⟩
theorem Fs{a:List Pg}{m:ak}:∀(xs:List Pg) (out:List ak),m∈xs.foldl (dZ a) out->m∈out∨∃x∈xs,∃s,kK a x=dB s/\mG s=dB m
 |[],out,h=>.inl h
 |x::xs,out,h=>by
  rcases Fs xs _ h with h|⟨y,hy,s,hs⟩
  .rcases Fq h with h|⟨s,hs⟩
   .exact .inl h
   .exact .inr ⟨x,qF,s,hs⟩
  .exact .inr ⟨y,qA _ hy,s,hs⟩
theorem Np{a:List Pg}{out:List ak}{x:Pg}{m:ak}(h:m∈out):m∈dZ a out x:=by
 unfold dZ;split
 .exact h
 .split
  .exact h
  .split
   .exact h
   .split
    .exact h
    .exact List.mem_append_left _ h
theorem DM{a:List Pg}{m:ak}:∀(xs:List Pg) {out:List ak},m∈out->m∈xs.foldl (dZ a) out
 |[],_,h=>h
 |_::xs,_,h=>DM xs (Np h)
theorem My{a b:ak}(d:bc a=ez)(e:bc b=ez)(h:bO a=bO b):a=b:=by
 have c:=CD d;have f:=CD e;rw[h,f]at c;injection c with c
 exact c.symm
theorem Wg{l:bH}{m:ak}(h:m∈Qn (l.filterMap cH) (l.filterMap cH)):bc m=ez/\∀c∈aP m,c∈l:=by
 rcases Fs _ _ h with h|⟨x,hx,s,hs,hw⟩
 .cases h
 .obtain⟨d,e⟩:=GX hw;refine⟨d,λc a=>?_⟩;rw[e]at a;obtain⟨g,f,rfl⟩:=qo.1 a;obtain⟨c,a,b⟩:=yy.1 (Sn hs hx g f);rw[GV b];exact a
theorem HY{l:bH}{m:ak}(h:m∈gh l):bc m=ez/\∀c∈aP m,c∈l:=Wg (wF.1 h)
theorem Dh{m:ak}(a:bc m=ez):0<dC (bO m):=by have:=OW a;have:0<hY (bO m):=List.length_pos_iff.2 this;unfold dC;omega
theorem Mz{l:bH}{m:ak}(e:bc m=ez)(j:∀c∈l,∀g,cH c=dB g->g.seq=m.seq->c∈aP m){g:Pg}(f:g∈l.filterMap cH)(h:g.seq=m.seq):∃i,i<dC (bO m)/\g=nW m i:=by
 obtain⟨c,d,a⟩:=yy.1 f;have:=j c d g a h;rw[jo]at this;obtain⟨i,b,rfl⟩:=qo.1 this;have b:=qz.1 b;rw[jg e b]at a;injection a with a
 exact⟨i,b,a.symm⟩
theorem DN{l:bH}{m:ak}(d:bc m=ez)(e:∀c∈aP m,c∈l)(f:∀c∈l,∀g,cH c=dB g->g.seq=m.seq->c∈aP m):
  ∀n,n<dC (bO m)->kh (l.filterMap cH) (nW m 0) n=dB ((qx (n+1)).map (nW m))
 |0,_=>rfl
 |n+1,hn=>by
  unfold kh;rw[DN d e f n ii]
  try dsimp only
  have a:nW m (n+1)∈l.filterMap cH:=yy.2 ⟨_,e _ (by rw[jo];exact qo.2 ⟨n+1,qz.2 hn,hZ⟩),jg d hn⟩;cases hf:(l.filterMap cH).find? (uw (nW m 0) ((n+1:Nat):Int))with
  |none=>
   exfalso;have:=List.find?_eq_none.1 hf _ a;exact this (g0 ⟨hZ,hZ,hZ⟩)
  |some x=>
   have h:=List.find?_some hf;have j:=wW hf;obtain⟨o,p,k⟩:=hU h;obtain⟨i,q,rfl⟩:=Mz d f j o;have b:i=n+1:=vo.1 k;subst b
   try dsimp only
   rw[zJ (n:=n+1),qN];rfl
theorem acI{l:bH}{m:ak}(e:bc m=ez)(o:∀c∈aP m,c∈l)(t:∀c∈l,∀g,cH c=dB g->g.seq=m.seq->c∈aP m):m∈gh l:=by
 have n:=Dh e;unfold gh;rw[wF];have k:kK (l.filterMap cH) (nW m 0)=dB ((qx (dC (bO m))).map (nW m)):=by unfold kK;have j:(nW m 0).many=((dC (bO m):Nat):Int):=rfl;rw[j,f9 (show¬((dC (bO m):Nat):Int)<=0 by omega),qj];have:=DN e o t (dC (bO m)-1) ii;rw[show dC (bO m)-1+1=dC (bO m)by omega]at this;exact this
 have b:nW m 0∈l.filterMap cH:=yy.2 ⟨_,o _ (by rw[jo];exact qo.2 ⟨0,qz.2 n,hZ⟩),jg e n⟩;obtain⟨a,f⟩:=x6 (l.filterMap cH)
 rw[<-f]at k b⊢;have i:∀(xs:List Pg) (out:List ak),(∀y∈out,bc y=ez)->nW m 0∈xs->m∈xs.foldl (dZ a) out:=by
  intro xs
  induction xs with
  |nil=>intro out _ h;cases h
  |cons x xs ih=>
   intro out p h;rw[zB];rcases qT.1 h with rfl|h
   .refine DM xs ?_;unfold dZ;rw[f9 (show¬(nW m 0).num≠0 fromλh=>h hZ),k]
    try dsimp only
    rw[Qp e]
    try dsimp only
    split
    .rename_i q;obtain⟨y,d,r⟩:=List.any_eq_true.1 q;rw[My e (p y d) (hU r).symm];exact d
    .exact List.mem_append_right _ (qp.2 hZ)
   .refine ih _ (λy d=>?_) h;rcases Fq d with d|⟨s,_,hw⟩
    .exact p y d
    .exact(GX hw).1
 exact i a [] i6 b
theorem MB{l:bH}{m b:ak}(n:bc m=ez)(t:∀c∈l,∀g,cH c=dB g->g.seq=m.seq->c∈aP m)(h:b∈gh l)(s:b.seq=m.seq):b=m:=by
 obtain⟨f,p⟩:=HY h;have d:∀i,i<dC (bO b)->i<dC (bO m)/\nW b i=nW m i:=λi e=>by
  have q:(nW b i).cell∈aP b:=by rw[jo];exact qo.2 ⟨i,qz.2 e,hZ⟩
  obtain⟨j,o,k⟩:=Mz (l:=l) n t (yy.2 ⟨_,p _ q,jg f e⟩) s;have:i=j:=vo.1 (congrArg Pg.num k);subst this;exact⟨o,k⟩
 have r:=Dh f;have a:dC (bO b)=dC (bO m):=vo.1 (congrArg Pg.many (d 0 r).2);refine My f n ?_;rw[<-Fp b,<-Fp m,a];congr 1;exact List.map_congr_left λi e=>(d i (by rw[a];exact qz.1 e)).2
def io(o:Option ak)(x:ak):Option ak:=match o with
 |none=>dB x
 |some m=>if m.seq<x.seq then dB x else dB m
def iQ(d:Option ba):List ak:=match d with
 |none=>[]
 |some d=>if d.lost then[]else gh d.l
def ja(ds:aD):Option ak:=(ds.flatMap iQ).foldl io et
theorem JP:∀(l:List ak) (o:Option ak),((l.foldl io o=et↔l=[]/\o=et))/\∀m,l.foldl io o=dB m->(dB m=o∨m∈l)/\(∀x∈l,x.seq<=m.seq)/\∀x,o=dB x->x.seq<=m.seq
 |[],o=>⟨i6,λm h=>⟨.inl h.symm,i6,λx a=>by rw[List.foldl_nil,a]at h;injection h with h;rw[h];exact Int.le_refl _⟩⟩
 |y::l,o=>by
  obtain⟨f,g⟩:=JP l (io o y);rw[zB];have c:io o y≠et:=by unfold io;cases o with|none=>simp|some m=>dsimp only;split<;>simp
  refine⟨⟨λh=>absurd (f.1 h).2 c,λh=>by cases h.1⟩,λm h=>?_⟩;obtain⟨b,d,a3⟩:=g m h;cases o with
  |none=>
   have e:io et y=dB y:=rfl;rw[e]at b a3;refine⟨.inr ?_,λx a=>?_,λx a=>t7⟩
   .rcases b with b|b
    .injection b with b;rw[b];exact qF
    .exact qA _ b
   .rcases qT.1 a with rfl|a
    .exact a3 _ hZ
    .exact d x a
  |some z=>
   by_cases i:z.seq<y.seq
   .have e:io (dB z) y=dB y:=by unfold io;(try dsimp only);rw[f8 i]
    rw[e]at b a3;have:=a3 y hZ;refine⟨.inr ?_,λx a=>?_,λx a=>by injection a with a;subst a;omega⟩
    .rcases b with b|b
     .injection b with b;rw[b];exact qF
     .exact qA _ b
    .rcases qT.1 a with rfl|a
     .exact this
     .exact d x a
   .have e:io (dB z) y=dB z:=by unfold io;(try dsimp only);rw[f9 i]
    rw[e]at b a3;have:=a3 z hZ;refine⟨?_,λx a=>?_,λx a=>by injection a with a;subst a;omega⟩
    .rcases b with b|b
     .exact .inl b
     .exact .inr (qA _ b)
    .rcases qT.1 a with rfl|a
     .omega
     .exact d x a
theorem Zu{ds:aD}{m:ak}{d:ba}(r:dB d∈ds)(s:d.lost=eH)(q:m∈gh d.l)(e:∀c,dB c∈ds->c.lost=eH->∀x∈gh c.l,x.seq<m.seq∨x=m):ja ds=dB m:=by
 have b:m∈ds.flatMap iQ:=zI.2 ⟨_,r,by unfold iQ;(try dsimp only);rw[s];exact q⟩;have f:∀x∈ds.flatMap iQ,x.seq<m.seq∨x=m:=λx f=>by
  obtain⟨o,p,a⟩:=zI.1 f;cases o with
  |none=>cases a
  |some c=>
   unfold iQ at a;dsimp only at a;cases hl':c.lost with
   |true=>rw[hl']at a;cases a
   |false=>rw[hl']at a;exact e c p hl' x a
 obtain⟨g,i⟩:=JP (ds.flatMap iQ) et;cases hf:ja ds with
 |none=>rw[(g.1 hf).1]at b;cases b
 |some y=>
  obtain⟨j,k,_⟩:=i y hf;have n:y∈ds.flatMap iQ:=j.resolve_left i6;rcases f y n with h|h
  .have:=k m b;omega
  .rw[h]
theorem Lg(s:Sl)(l:Row)(c:UInt8)(h:f7)(q:Rd h s 1 aB l)(y:s.len<=s.cap)(z:hY l<=2^30):
  ai xT 278 #[s,xJ xQ c.toNat] h λv h'=>∃k:Nat,v=xK s.ptr k s.cap/\k<=hY l/\(∀j (f:j<hY l),k<=j->l[j]=c)/\(∀(d:k-1<hY l),0<k->l[k-1]≠c)/\h'=h:=by
 refine ts Tryz.func278 ?_ (v7 (u7 (v6 [(0,cM)] [(0,1),(5,23)] (v1 (v2 [(0,cM)] [(0,1),(5,23)] (ws [] [(5,18)] u9)))) u9));have i:=q.len;refine aG ?_;refine aq (λk:Nat=>(⟨s.ptr,k,s.cap⟩:Sl)) (λk h'=>h'=h/\k<=hY l/\∀j (f:j<hY l),k<=j->l[j]=c) (λk=>k) l.length (by rw[<-i]) ⟨hZ,qm _,λj f d=>ii⟩ ?_;rintro k w ⟨rfl,d,b⟩
 try dsimp only
 refine aG (af (λe=>?_) λe=>?_)
 .have t:0<k:=ii
  rw[ag _];refine(q.take k d).bo (g:=λx:UInt8=>Value.int .u8 x.toNat) (k-1) ii i5 (l[k-1]'ii) (by simp[aB]) ?_|>λ⟨a,ha,x,hx,hK⟩=>⟨a,ha,x.toNat,hx,hK⟩
  refine aX (λm=>?_) (λm=>?_)
  .have p:l[k-1]'ii=c:=by
    have:(l[k-1]'ii).toNat=c.toNat:=by exact_mod_cast m
    exact yJ.1 this
   refine⟨⟨ii,ii⟩,k-1,by congr 1;omega,⟨hZ,ii,λj f u=>?_⟩,ii⟩;by_cases o:j=k-1
   .subst o;exact p
   .exact b j f ii
  .refine⟨k,hZ,d,b,λ_ _ r=>m q6,hZ⟩
 .exact⟨k,hZ,d,b,λ_ h0=>ii,hZ⟩
theorem Nq(s:Sl)(l:Row)(c:UInt8)(h:f7)(q:Rd h s 1 aB l)(y:s.len<=s.cap)(F:hY l<=2^30):
  ai xT 277 #[s,xJ xQ c.toNat] h λv h'=>(∃r:Sl,v=r/\(r.len=0↔∀x∈l,x=c))/\h'=h:=by
 refine ts Tryz.func277 ?_ (v7 (u7 (v6 [(0,cM)] [(0,1),(5,17)] (v1 (v2 [(0,cM)] [(0,1),(5,17)] (ws [] [(5,15)] u9)))) u9));have z:=q.len;refine bB (λr h'=>h'=h/\(r.len=0↔∀x∈l,x=c)) ?_ ?_
 .refine aq (λt:Sl×Nat=>t.1) (λt h'=>h'=h/\t.2<=hY l/\(∀j (d:j<hY l),j<t.2->l[j]=c)/\Rd h t.1 1 aB (l.drop t.2)/\t.1.len<=t.1.cap) (λt=>hY l-t.2) (s,0) hZ ⟨hZ,i6,λj _ d=>ii,o4,y⟩ ?_;rintro⟨r,k⟩ u ⟨rfl,E,a,b,m⟩;dsimp only at*;have g:=b.len;rw[zc]at g;refine aG (af (λe=>?_) λe=>?_)
  .have o:k<hY l:=ii
   refine b.bo 0 hZ l9 _ hZ ?_;have B:(l.drop k)[0]'(by rw[zc];omega)=l[k]:=i6
   rw[B];refine aX (λi=>?_) (λi=>?_)
   .have p:l[k]=c:=by
     have:(l[k]).toNat=c.toNat:=by exact_mod_cast i
     exact yJ.1 this
    refine⟨⟨ii,ii⟩,(⟨if r.cap=1 then r.ptr else r.ptr.map (·.add (1*1)),r.len-1,r.cap-1⟩,k+1),hZ,⟨hZ,ii,λj d f=>?_,?_,i4⟩,i4⟩
    .rcases zf.1 f with h2|rfl
     .exact a j d h2
     .exact p
    .have:=b.drop 1 m;rw[zN]at this;exact this
   .refine⟨hZ,⟨λh0=>ii,λA=>absurd ?_ i⟩⟩;rw[A _ (qf o)]
  .have D:k=hY l:=ii
   refine⟨hZ,⟨λ_ x w=>?_,λ_=>by show r.len=0;omega⟩⟩;obtain⟨j,d,rfl⟩:=qB w;exact a j d ii
 .rintro r u ⟨rfl,b⟩;refine aX (λe=>?_) (λe=>?_)
  .exact⟨⟨⟨et,0,0⟩,hZ,by rw[<-b];exact⟨λ_=>ii,λ_=>rfl⟩⟩,hZ⟩
  .exact⟨⟨r,hZ,b⟩,hZ⟩
theorem Ft(s:Sl)(l:Row)(cut:ByteArray)(b:cut=⟨#[0]⟩)(h:f7)(d:Rd h s 1 aB l)(p:s.len<=s.cap)(u:hY l<=2^30):
  ai xT 219 #[s,xM cut] h λv h'=>(∃r:Sl,v=r/\(r.len=0↔∀x∈l,x=0))/\h'=h:=by
 subst b;refine ts Tryz.func219 ?_ (v7 (v7 (v7 (ws [] [(4,5),(13,28)] u9)))) [(6,(.l [0,1,2,4,5,3,6,7]))];have q:=d.len;refine aX (λe=>?_) (λe=>?_)
 .refine⟨⟨⟨et,0,0⟩,hZ,⟨λ_ x a=>?_,λ_=>rfl⟩⟩,hZ⟩;have:l=[]:=List.eq_nil_of_length_eq_zero ii;subst this;cases a
 .refine uC j0 (aG (DX j0 ?_));refine⟨0,⟨i0,hZ⟩,DX i0 ?_⟩;refine⟨0,⟨i0,hZ⟩,0,⟨i0,hZ⟩,?_⟩;refine(Lg s l 0 h d p u).mono ?_;rintro v f ⟨k,rfl,t,o,h3,rfl⟩;refine⟨⟨s.ptr,k,s.cap⟩,hZ,x7,?_⟩;refine(Nq ⟨s.ptr,k,s.cap⟩ (l.take k) 0 f (d.take k t) (by show k<=s.cap;omega) i5).mono ?_;rintro v w ⟨⟨r,rfl,m⟩,rfl⟩;refine⟨r,hZ,x7,⟨r,hZ,m.trans ⟨λc x a=>?_,λc x a=>c x (zw a)⟩⟩,hZ⟩;obtain⟨j,i,rfl⟩:=qB a;by_cases g:j<k
  .exact c _ (by rw[List.mem_take_iff_getElem];exact⟨j,ii,hZ⟩)
  .exact o j i ii
def qv(x:Sl×Sl):aT:=[x.1,x.2]
theorem Zv:∀x,∀c∈qv x,c.oneCell'=ez:=λx c a=>by
 simp only[qv,qT,List.not_mem_nil,or_false]at a;rcases a with rfl|rfl<;>rfl
def kE:iW (Sl×Sl) fL:=⟨λh q a e=>Seq h q a.1 1 aw e.1/\Seq h q a.2 1 aB e.2,λa c=>⟨a.1.ac c,a.2.ac c⟩,λa b=>⟨a.1.mono b,a.2.mono b⟩⟩
abbrev ri:iW Sl (List fL):=bN kE 2 qv
abbrev aiN:iW Sl aN:=bN (te 1 aB) 1 bn
abbrev eQ:bL C.toBH 274 276 2 [xK et 0 0,xK et 0 0] 48:=⟨_,_,hZ,hZ,hZ,hZ,hZ,hZ⟩
abbrev Zw:bL C.toBH 53 34 1 [xK et 0 0] 24:=⟨_,_,hZ,hZ,hZ,hZ,hZ,hZ⟩
abbrev aeF:bL C.toBH 283 4 1 [xN eH] 1:=⟨_,_,hZ,hZ,hZ,hZ,hZ,hZ⟩
theorem ri.get{h:f7}{q:av}{s:Sl}{L:List fL}(x:ri.p h q s L){i:Int}(n:Nat)(d:i=n)(e:n<hY L){K:Sl×Sl->Prop}(c:∀r,kE.p h q r L[n]->K r):
  ∃a:eS,(s.ptr=dB a/\0<=i/\i<((s.len:Nat):Int))/\∃x:Sl×Sl,bj h (a.add (i.toNat*2)) 0 [x.1,x.2]/\K x:=by
 obtain⟨rs,b,f,h3⟩:=bN.kN x;exact b.de (g:=qv) n d ii (rs[n]'ii) hZ (c _ (h3 n ii e))
structure Aa (h:f7) (p:eS) (l k v:Sl) (L:List fL) (kn:List Bool) (vs:aN):Prop where
 box:bQ h p 343 [l,k,v]
 eqs:eu ri h l L
 known:Rd h k 1 fN kn
 vals:eu aiN h v vs
theorem Aa.up{h h':f7}{p:eS}{l k v:Sl}{L:List fL}{kn:List Bool}{vs:aN}(x:Aa h p l k v L kn vs)(a:aS (λb=>b<h.size) h h'):Aa h' p l k v L kn vs:=
 ⟨x.box.ac a x.box.lt,eu.up x.eqs a,Seq.up x.known a,eu.up x.vals a⟩
theorem Qq{kn:List Bool}{c:Int}(b:0<=c)(a:c.toNat<hY kn):Qw.kn kn c=kn[c.toNat]:=by unfold Qw.kn;rw[qd,qc a];rfl
theorem mO{m:aN}{i:Nat}(h:i<hY m):aC m i=m[i]:=bv h
theorem kf{α:Type}(f:α->Bool)(l:List α){k:Nat}(a:k<hY l):(l.take (k+1)).filter f=(l.take k).filter f++if f l[k]then[l[k]]else[]:=by rw[aE _ _ a,zm,zr];cases f l[k]<;>rfl
theorem sW(V:aN)(a:Row)(l:az)(c:Int):cT V a (l++[c])=cW 1 (aC V c.toNat) (cT V a l):=by unfold cT;rw[wc];rfl
theorem Ud(a t:Row):cW 1 a t=zg (λx y=>y^^^x) a t:=by unfold cW;congr 1;funext x y;rw[Gf.one_mul]
theorem Fu{a t:Row}(c:hY a=hY t){k:Nat}(b:k<hY t:=by omega):(zg (λx y=>y^^^x) (a.take k) (t.take k)++t.drop k).set k (t[k]^^^(a[k]'ii))=zg (λx y=>y^^^x) (a.take (k+1)) (t.take (k+1))++t.drop (k+1):=by
 have d:hY (zg (λx y=>y^^^x) (a.take k) (t.take k))=k:=i5
 rw[qV _ _ ii,d,qX,qL b,zn,aE _ _ b,aE _ _ (show k<hY a by omega),yM i5];simp
theorem Qr(p:eS)(l k v:Sl)(L:List fL)(kn:List Bool)(vs:aN)(n:Nat)(h:f7)(u:Aa h p l k v L kn vs)(G:hY kn=n)(K:∀e∈L,∀c∈e.1,0<=c/\c<(n:Int))(U:hY L<=2^30)(D:∀e∈L,hY e.1<=2^30):
  ai xT 324 #[xL (dB p)] h λv h'=>(∃i:Int,v=xJ xP i/\(0<=i->∃(M:i.toNat<hY L),hY ((L[i.toNat]).1.filter λc=>!Qw.kn kn c)=1))/\Sp h h' []:=by
 refine ts Tryz.func324 ?_ (v7 (u7 (v7 (v1 (v2 [(13,aU)] [(2,6),(7,8),(13,40)] (v7 (v7 (u7 (v1 (v7 (v7 (wj [(5,aU),(21,aU)] [(5,6),(7,8),(21,36)])))) u9)))))) u9));have J:=bN.len u.eqs;refine⟨p,hZ,l,u.box.cell0 hZ,?_⟩;refine aq (λi:Nat=>(i:Int)) (λi h'=>i<=hY L/\Sp h h' []) (λi=>hY L-i) 0 hZ ⟨ii,Sp.refl h⟩ ?_;rintro i F ⟨M,z⟩;refine af (λe=>?_) λe=>⟨⟨-1,hZ,λV=>ii⟩,z⟩;have g:i<hY L:=ii
 refine ri.get (eu.up u.eqs z.ac) i hZ g λx H=>?_;refine(Sp.refl F).alloc ae hZ λa S I=>?_;refine I.storeAll ae 0 hZ hZ (qv x) hZ hZ hZ hZ λh3 t=>?_;have A:=up z.ac t.ac;have o:=u.up A;have q:=kE.mono (kE.loc H t.ac) λb O=>qY O t.ac.1;have w:=t.box 0 hZ;refine⟨x.1,w.cell0 hZ,?_⟩;have P:=q.1.len;have E:=D _ (qf g);let d:Nat->Nat:=λj=>hY (((L[i]).1.take j).filter λc=>!Qw.kn kn c);refine aq (λj:Nat=>(((d j:Nat):Int),(j:Int))) (λj h'=>h'=h3/\j<=(L[i]).1.length) (λj=>(L[i]).1.length-j) 0 p8 ⟨hZ,ii⟩ ?_;rintro j T ⟨rfl,R⟩
 try dsimp only
 have Q:d j<=j:=qQ (qU _ _) i5;refine af (λN=>?_) (λN=>?_)
 .have f:j<(L[i]).1.length:=ii
  have y:=K _ (qf g) _ (qf f);refine q.1.bo j hZ f _ hZ ?_;refine⟨p,hZ,k,o.box.cell hZ,?_⟩;refine o.known.bo (L[i]).1[j].toNat ii ii _ hZ ?_;rw[ag ((j:Int)+1),ag _];have r:=Qq (kn:=kn) y.1 ii;refine aW (λm=>?_) (λm=>?_)
  .refine⟨j+1,?_,⟨hZ,ii⟩,ii⟩;have:d (j+1)=d j+1:=by simp only[d];rw[kf _ _ f,r,m];simp
   rw[this];rfl
  .refine⟨j+1,?_,⟨hZ,ii⟩,ii⟩;have:d (j+1)=d j:=by simp only[d];rw[kf _ _ f,r,m];simp
   rw[this];rfl
 .have B:j=(L[i]).1.length:=ii
  subst B;have s:d (L[i]).1.length=hY ((L[i]).1.filter λc=>!Qw.kn kn c):=by simp only[d];rw[qM]
  rw[s];refine aX (λm=>⟨⟨i,hZ,λ_=>⟨ii,by exact_mod_cast m⟩⟩,.zip A⟩) λm=>?_;exact⟨i+1,i9,⟨ii,.zip A⟩,ii⟩
theorem MC(p:eS)(l k v:Sl)(L:List fL)(kn:List Bool)(vs:aN)(n w:Nat)(x:Sl×Sl)(e:fL)(h:f7)(hP:Aa h p l k v L kn vs)(M:kr n w L kn vs)(T:eu kE h x e)(H:jl n w e)(hw:w<=2^20)(ad:hY e.1<=2^20):
  ai xT 270 #[xL (dB p),xO #[x.1,x.2]] h λr h'=>∃a b:Sl,r=xO #[a,b]/\Sp h h' [an 3 a 1 aw (fO kn vs e).1,an 5 b 1 aB (fO kn vs e).2]:=by
 refine ts Tryz.func270 ?_ (v7 (v7 (u7 (v7 (v1 (v2 [(17,aU)] [(7,10),(17,58)] (v7 (v7 (u7 (v1 (v7 (v7 (v7 (v1 (v2 [(43,aU)] [(8,10),(43,57)] u9)))))) u9)))))) u9))) (args:=[(dB p),x]);refine(Sp.refl h).boxed λU h1 H1=>?_;refine H1.alloc ae hZ λR h2 W=>?_;have P2:=W.ac;refine⟨x.2,(W.box 0 hZ).cell hZ,(fP x.2 e.2 h2 (Seq.up T.2 P2) (by have:=H.len;omega)).x0 λd h3 R3=>?_⟩;have H3:=W.comp R3;refine⟨d,hZ,H3.alloc ae hZ λa5 h4 H4=>?_⟩;refine H4.storeAll ae 3 hZ hZ (qv (⟨et,0,0⟩,d)) hZ hZ hZ hZ λh5 H5=>?_;have Z:Sp h h5 [aj U 276 (qv x),aj R 276 [xK et 0 0,xK et 0 0],an 5 d 1 aB e.2,aj a5 276 (qv (⟨et,0,0⟩,d)),an 3 ⟨et,0,0⟩ 1 aw []]:=H5.nil 3 1 aw;refine⟨x.1,(Z.box 0 hZ).cell0 hZ,?_⟩;have ao:=T.1.len;have am:=M.klen;have ab:=M.vlen;refine aq (λt:Nat×Sl=>(t.1:Int)) (λt h'=>t.1<=hY e.1/\Sp h h' [aj U 276 (qv x),aj R 276 [xK et 0 0,xK et 0 0],an 5 d 1 aB (cT vs e.2 ((e.1.take t.1).filter λc=>Qw.kn kn c)),aj a5 276 (qv (t.2,d)),an 3 t.2 1 aw ((e.1.take t.1).filter λc=>!Qw.kn kn c)]) (λt=>hY e.1-t.1) (0,⟨et,0,0⟩) hZ ⟨i6,by simpa[cT]using Z⟩ ?_;rintro⟨j,o⟩ h7 ⟨hj,q⟩;dsimp only at*;have u:hY (cT vs e.2 ((e.1.take j).filter λc=>Qw.kn kn c))=w:=kq H.len λc hc=>by
  have G:=qD.1 hc;have F:=zw G.1;exact M.EB (H.cZ c F).1 (H.cZ c F).2 G.2
 have ap:hY ((e.1.take j).filter λc=>!Qw.kn kn c)<=j:=qQ (qU _ _) i5;refine af (λe2=>?_) (λe2=>?_)
 .have f:j<hY e.1:=ii
  have s:=H.cZ _ (qf f);have z:=hP.up q.ac;refine(Seq.up T.1 q.ac).bo j hZ f _ hZ ?_;refine⟨p,hZ,k,z.box.cell hZ,?_⟩;refine z.known.bo (e.1[j]).toNat ii ii _ hZ ?_;have J:=Qq (kn:=kn) s.1 ii;refine aW (λB=>?_) (λB=>?_)
  .rw[<-J]at B;refine⟨o,(q.box 3 hZ).cell0 hZ,?_⟩;refine q.push ae 4 hZ gb hZ i0 (λ_=>rfl) fd e.1[j] hZ i0 ii λo' h8 i=>?_;refine i.fv ae 3 hZ hZ [o'] hZ hZ hZ (by simp[qv]) λh9 N=>?_;refine⟨(j+1,o'),i7,⟨i4,?_⟩,i4⟩
   try dsimp only
   rw[kf _ _ f,kf _ _ f,B];simp only[Bool.not_false,if_true,zh,if_false,qG];exact N
  .rw[<-J]at B;have I:=M.EB s.1 s.2 B;rw[mO ii]at I;refine⟨p,hZ,v,z.box.cell hZ,?_⟩;obtain⟨vr,P,al,Q⟩:=bN.kN hP.vals;have g:(e.1[j]).toNat<hY vs:=ii
   refine(Seq.up P q.ac).mQ (e.1[j]).toNat ii ii ?_;have K:=(Q (e.1[j]).toNat ii g).1;have E:=K.len;generalize vr[(e.1[j]).toNat]'ii=y at K E⊢;obtain⟨A,Y⟩:=x6 (vs[(e.1[j]).toNat]'g)
   obtain⟨D,hD⟩:=x6 (cT vs e.2 ((e.1.take j).filter λc=>Qw.kn kn c))
   rw[<-Y]at I K E;rw[<-hD]at q u;refine aq (λm:Nat=>(m:Int)) (λm h'=>m<=w/\Sp h h' [aj U 276 (qv x),aj R 276 [xK et 0 0,xK et 0 0],an 5 d 1 aB (zg (λx y=>y^^^x) (A.take m) (D.take m)++D.drop m),aj a5 276 (qv (o,d)),an 3 o 1 aw ((e.1.take j).filter λc=>!Qw.kn kn c)]) (λm=>w-m) 0 hZ ⟨ii,o4⟩ ?_;rintro m h8 ⟨hm,i⟩;have O:hY (zg (λx y=>y^^^x) (A.take m) (D.take m))=m:=i5
   refine af (λe4=>?_) (λe4=>?_)
   .have ah:m<w:=ii
    refine(Seq.up K i.ac).bo m hZ ii _ hZ ?_;refine⟨d,(i.box 3 hZ).cell hZ,?_⟩;refine(i.seq 2 hZ λ_=>rfl).bo m hZ i5 _ hZ ?_;have V:((zg (λx y=>y^^^x) (A.take m) (D.take m)++D.drop m)[m]'(by simp;omega))=D[m]'ii:=by rw[wD ii];simp[O]
    rw[V,ou];refine i.set ae 2 hZ (λ_=>rfl) hZ m hZ i5 (D[m]'ii^^^A[m]'ii) hZ hZ hZ λh9 N=>?_;rw[Fu ii]at N;exact⟨m+1,i9,⟨ii,N⟩,ii⟩
   .have S:m=w:=ii
    subst S;refine⟨(j+1,o),i7,⟨i4,?_⟩,i4⟩
    try dsimp only
    rw[kf _ _ f,kf _ _ f,B];simp only[Bool.not_true,if_true,zh,if_false,qG];rw[sW,mO g,<-Y,<-hD,Ud];rw[qh ii,qh ii,zd ii,qG]at i;exact i
 .have X:j=hY e.1:=ii
  subst X;rw[qM]at q;refine⟨(o,d),(q.box 3 hZ).aA _ hZ,?_⟩;refine q.storeAll ae 1 hZ hZ (qv (o,d)) hZ hZ hZ hZ λh8 i=>?_;refine⟨(o,d),(i.box 1 hZ).aA _ hZ,o,d,hZ,?_⟩;exact i.bt [4,2]
theorem aa.ajn{B:av}{c h:f7}{As:List HP}{e k:Nat}{α:Type}{f:α->aT}{s:Sl}{l:List α}(H:aa B c h As)(i:Nat)(d:As[i]?=dB (an e s k f l))(g:∀x,hY (f x)=k)(m:l≠[]):aa B c h (As.set i (EA (te k f) s l)):=
 H.eW i d λq ⟨a,b⟩=>⟨a.seq g b,λj=>absurd j m⟩
theorem count_set{l:List Bool}:∀{i:Nat} (h:i<hY l),l[i]=eH->((l.set i ez).count eH)+1=l.count eH:=by
 induction l with
 |nil=>intro i h;simp at h
 |cons a l ih=>
  intro i h b;cases i with
  |zero=>simp at b;subst b;simp
  |succ i=>
   have:=ih (i:=i) j4 j9;rw[zy,List.count_cons,List.count_cons];omega
theorem Zx(p:eS)(l k v:Sl)(L:List fL)(n w:Nat)(z h:f7)(hE:eu ri z l L)(E:∀e∈L,jl n w e)(hn:n<=64)(U:hY L<=2^20)(Y:1<=w/\w<=2^20)(B:∀e∈L,hY e.1<=2^20)
  (H:Sp z h [aj p 343 [l,k,v],an 4 k 1 fN (qg n eH),bV 34 v 1 bn (te 1 aB) (qg n [])]):
  ai xT 269 #[xL (dB p)] h λr h'=>r=.tuple #[]/\∃kn vs,kr n w L kn vs/\Sp z h' [aj p 343 [l,k,v],an 4 k 1 fN kn,bV 34 v 1 bn (te 1 aB) vs]:=by
 refine ts Tryz.func269 ?_ (.scope 0 [] [(2,37)] [] [u9] []);refine aq (λ_:List Bool×aN=>()) (λt h'=>kr n w L t.1 t.2/\Sp z h' [aj p 343 [l,k,v],an 4 k 1 fN t.1,bV 34 v 1 bn (te 1 aB) t.2]) (λt=>t.1.count eH) (qg n eH,qg n []) hZ ⟨Vt n w L,H⟩ ?_;rintro⟨kn,vs⟩ F ⟨m,P⟩;dsimp only at*;have N:=m.klen;have T:=m.vlen;have mk:∀{u},Sp z u [aj p 343 [l,k,v],an 4 k 1 fN kn,bV 34 v 1 bn (te 1 aB) vs]->Aa u p l k v L kn vs:=λf=>
  ⟨f.box 0 hZ,eu.up hE f.ac,f.seq 1 hZ λ_=>rfl,f.LH 2 hZ λ_=>rfl⟩
 refine(Qr p l k v L kn vs n F (mk P) N (λe M=>(E e M).cZ) ii λe M=>by have:=B e M;omega).mono ?_;rintro _ u ⟨⟨i,rfl,W⟩,V⟩;refine⟨i,hZ,?_⟩;have f:=P.up V.ac;refine af (λe=>⟨hZ,kn,vs,m,f⟩) λe=>?_;have K:0<=i:=xH.1 e;obtain⟨y,s⟩:=W K;have g:=mk f;refine⟨p,hZ,l,g.box.cell0 hZ,?_⟩;refine ri.get g.eqs i.toNat ii y λx R=>?_;have d:=qf y;refine(MC p l k v L kn vs n w x L[i.toNat] u g m R (E _ d) Y.2 (B _ d)).mono ?_;rintro _ h3 ⟨a,b,rfl,R3⟩;refine⟨(a,b),hZ,?_⟩;obtain⟨c,D⟩:∃c,(fO kn vs L[i.toNat]).1=[c]:=by
  have F:(fO kn vs L[i.toNat]).1.length=1:=s
  match u:(fO kn vs L[i.toNat]).1,F with
  |[c],_=>exact⟨c,hZ⟩
 have o:=m.BO (E _ d);have I:=o.cZ c (by rw[D];simp);have q:Qw.kn kn c=eH:=EC m L[i.toNat] c (by rw[D];simp);rw[Qq I.1 ii]at q;have O:=f.comp R3;rw[D]at O;refine O.alloc ae hZ λa8 h4 X=>?_;refine X.storeAll ae 5 hZ hZ (qv (a,b)) hZ hZ hZ hZ λh5 j=>?_;refine⟨p,hZ,k,(j.box 0 hZ).cell hZ,a,(j.box 5 hZ).cell0 hZ,?_⟩;have A:=j.seq 3 hZ λ_=>rfl;refine A.bo 0 hZ i6 c hZ ?_;refine⟨p,hZ,v,(j.box 0 hZ).cell hZ,a,(j.box 5 hZ).cell0 hZ,?_⟩;refine A.bo 0 hZ i6 c hZ ?_;refine⟨b,(j.box 5 hZ).cell hZ,?_⟩;refine j.set ae 1 hZ (λ_=>rfl) hZ c.toNat ii ii ez hZ hZ hZ λh6 J=>?_;refine⟨⟨(J.box 5 hZ).cell hZ,(J.box 5 hZ).cell0 hZ,x7⟩,?_⟩;have G:(fO kn vs L[i.toNat]).2≠[]:=λZ=>by have:=o.len;rw[Z]at this;simp at this;omega
 have S:=aa.ajn J 4 hZ (λ_=>rfl) G;refine S.ajd ae 2 4 i0 hZ hZ (λ_=>rfl) hZ c.toNat ii ii hZ hZ hZ λh8 Q=>⟨x7,?_⟩
 refine⟨(kn.set c.toNat ez,vs.set c.toNat (fO kn vs L[i.toNat]).2),hZ,⟨Yj m E d D,Q.bt [0,1,2]⟩,?_⟩;have:=count_set (l:=kn) (i:=c.toNat) ii q;dsimp only;omega
theorem So(s:Sl)(l:Row)(h:f7)(c:Rd h s 1 aB l)(a:s.len<=s.cap)(d:hY l<=2^30):
  ai xT 271 #[s] h λv h'=>v=xN (!(l.any (· !=0)))/\h'=h:=by
 refine ts Tryz.func271 ?_;refine(Ft s l _ hZ h c a d).mono ?_;rintro _ e ⟨⟨r,rfl,b⟩,rfl⟩;refine⟨r,hZ,?_,hZ⟩;congr 1;rw[yK];simp only[beq_iff_eq,wM,wq,bne_iff_ne,ne_eq,Decidable.not_not];rw[<-b];omega
def Lh(l:az):Prop:=∀i (h:i+1<hY l),l[i]<l[i+1]
theorem Nr(n:Nat)(l:Sl)(L:List fL)(w:Nat)(h:f7)(u:eu ri h l L)(E:∀e∈L,jl n w e/\Lh e.1)(hn:n<=64)(P:hY L<=2^20)(z:∀e∈L,hY e.1<=2^20):
  ai xT 268 #[xJ xP n,l] h λv h'=>v=xN ez/\Sp h h' []:=by
 refine ts Tryz.func268 ?_ (v7 (ws [] [(4,5),(9,15)] (u7 (v7 (v1 (v2 [(17,aU)] [(4,5),(6,9),(17,61)] (v7 (v7 (u7 (v1 (v7 (wj [(24,aU)] [(4,5),(7,9),(24,51)]))) u9)))))) u9)));have N:=bN.len u;refine aG (af (λe=>ii) λ_=>af (λe=>ii) λ_=>?_);refine aq (λi:Nat=>(i:Int)) (λi h'=>i<=hY L/\Sp h h' []) (λi=>hY L-i) 0 hZ ⟨ii,Sp.refl h⟩ ?_;rintro i I ⟨hi,t⟩;refine af (λe=>?_) λe=>⟨hZ,t⟩;have d:i<hY L:=ii
 refine ri.get (eu.up u t.ac) i hZ d λx J=>?_;refine(Sp.refl I).alloc ae hZ λa h2 M=>?_;refine M.storeAll ae 0 hZ hZ (qv x) hZ hZ hZ hZ λh3 p=>?_;have G:=up t.ac p.ac;have c:=kE.mono (kE.loc J p.ac) λb W=>qY W p.ac.1;have f:=p.box 0 hZ;refine⟨x.1,f.cell0 hZ,?_⟩;have Y:=c.1.len;have H:=z _ (qf d);obtain⟨k,A⟩:=E _ (qf d);refine aq (λj:Nat=>(j:Int)) (λj h'=>h'=h3/\j<=(L[i]).1.length) (λj=>(L[i]).1.length-j) 0 hZ ⟨hZ,ii⟩ ?_;rintro j D ⟨rfl,hj⟩;refine af (λU=>?_) (λU=>?_)
 .have m:j<(L[i]).1.length:=ii
  have R:=k.cZ _ (qf m);refine c.1.bo j hZ m _ hZ ?_;refine af (λe=>ii) λ_=>af (λe=>ii) λ_=>?_;have F:∃r:Nat,qe xP ((j:Int)+1)=(r:Int)/\(D=D/\r<=(L[i]).1.length)/\(L[i]).1.length-r<(L[i]).1.length-j:=⟨j+1,i9,⟨hZ,ii⟩,ii⟩
  refine af (λZ=>?_) λZ=>F;refine⟨x.1,f.cell0 hZ,?_⟩;rw[ag ((j:Int)-1)];refine c.1.bo (j-1) ii ii _ hZ ?_;have B:=A (j-1) ii;have S:(L[i]).1[j-1+1]'ii=(L[i]).1[j]:=by congr 1;omega
  rw[S]at B;exact af (λe=>absurd B ii) λ_=>F
 .refine⟨x.2,f.cell hZ,?_⟩;obtain⟨rs,T,h8,X⟩:=bN.kN (eu.up u G);have s:=(X 0 ii ii).2.len;obtain⟨q,V,y,Q,O⟩:=T.de (g:=qv) (i:=(0:Int)) 0 rfl ii (rs[0]'ii) rfl (K:=λy=>y.2.len=w) (by rw[s];exact(E _ (qf (show 0<hY L by omega))).1.len);refine⟨q,V,y.2,?_,?_⟩
  .exact Q.2.1
  have o:=c.2.len;rw[k.len]at o;refine bA (λe=>absurd (by rw[o,O]) e) λ_=>?_;exact⟨i+1,i9,⟨ii,.zip G⟩,ii⟩
theorem aa.Zy{B:av}{m h:f7}{As:List HP}{e k:Nat}{α β:Type}{E:iW α β}{f:α->aT}{s:Sl}{n:Nat}{a:α}{b:β}(H:aa B m h As)(i:Nat)(u:As[i]?=dB (an e s k f (qg n a)))(v:∀h,E.p h (λ_=>False) a b):aa B m h (As.set i (bV e s k f E (qg n b))):=
 H.eW i u λq ⟨x,y⟩=>⟨_,λ_=>False,x,λc t=>⟨y c t,λh=>h⟩,λ_ h=>h.elim,i6,λj r l d g=>by
  rw[List.getElem?_replicate]at d g;split at d
  .rename_i o;rw[f8 o]at g;cases d;cases g;exact v h
  .cases d⟩
theorem aa.mT{B:av}{f h:f7}{As:List HP}{e o:Nat}{a b:Sl}{l:az}{r:Row}(H:aa B f h As)(i j:Nat)(d:i≠j)(n:As[i]?=dB (an e a 1 aw l))(m:As[j]?=dB (an o b 1 aB r)):aa B f h ((As.set i (EA kE (a,b) (l,r))).set j emp):=
 H.merge i j d n m λp q _ k g=>⟨k.1.seq (λ_=>rfl) λx c=>.inl (k.2 x c),g.1.seq (λ_=>rfl) λx c=>.inr (g.2 x c)⟩
theorem Zz(kn:List Bool)(vs:aN)(L:List fL){i:Nat}(a:i<hY L):be kn vs (L.take (i+1))=if(fO kn vs L[i]).1.isEmpty then be kn vs (L.take i)else be kn vs (L.take i)++[fO kn vs L[i]]:=by unfold be;rw[aE _ _ a,qN,zm];cases h:(fO kn vs L[i]).1.isEmpty<;>simp[h]
theorem Wh(kn:List Bool)(vs:aN)(L:List fL){i:Nat}(a:i<hY L):kT kn vs (L.take (i+1))=(kT kn vs (L.take i)||((fO kn vs L[i]).1.isEmpty&&(fO kn vs L[i]).2.any (· !=0))):=by unfold kT;rw[aE _ _ a,qN,y5];simp
theorem Wi{kn:List Bool}{vs:aN}{L:List fL}{i:Nat}(h:kT kn vs (L.take i)=ez):kT kn vs L=ez:=by rw[<-qC i L];unfold kT at*;rw[qN,y5,h];rfl
theorem ZA(l:Sl)(L:List fL)(n w:Nat)(h:f7)(G:eu ri h l L)(W:∀e∈L,jl n w e/\Lh e.1)(hn:n<=64)(J:hY L<=2^20)(hw:1<=w/\w<=2^20)(A:∀e∈L,hY e.1<=2^20):
  ai xT 214 #[xJ xP n,l] h λr h'=>∃kn vs,kr n w L kn vs/\((kT kn vs L=ez/\r=.tuple #[xK et 0 0,xK et 0 0,xK et 0 0,xJ xP 10]/\Sp h h' [])∨
   (kT kn vs L=eH/\∃k v s:Sl,r=.tuple #[k,v,s,xJ xP 0]/\Sp h h' [an 4 k 1 fN kn,bV 34 v 1 bn (te 1 aB) vs,bV 276 s 2 qv kE (be kn vs L)])):=by
 refine ts Tryz.func214 ?_ (v7 (v7 (ws [(8,TR)] [(8,9),(16,23)] (v7 (wj [(6,cM),(27,aU)] [(4,8),(10,12),(27,47)]))))) [(3,(.y [0,1,3] (.l [2,4,5,6,7]) (.l [4,2,5,6,7])))];have ah:=bN.len G;refine(Nr n l L w h G W hn J A).xc λh1 R1=>⟨ez,hZ,aW (λe=>jj) λ_=>?_⟩;refine bB (λs h'=>∃(p:eS) (k v:Sl),s=dB p/\Sp h h' [aj p 343 [l,k,v],an 4 k 1 fN (qg n eH),bV 34 v 1 bn (te 1 aB) (qg n [])]) ⟨?_,?_⟩ ?_
 .refine R1.make ae fN aeF i0 eH hZ hZ n n hZ hZ (qm _) ii λk h2 Z N H2=>⟨x7,?_⟩
  refine H2.make ae bn Zw i0 ⟨et,0,0⟩ hZ hZ n n hZ hZ (qm _) ii λv h3 M T U=>⟨x7,?_⟩
  refine U.boxed λp S I=>⟨x7,p,k,v,hZ,?_⟩
  exact(aa.Zy (E:=te 1 aB) (b:=[]) I 1 hZ λh=>⟨Seq.nil _ _ _ _ _ _,λ_=>rfl⟩).bt [2,0,1]
 .refine R1.make ae bn Zw i0 ⟨et,0,0⟩ hZ hZ n n hZ hZ (qm _) ii λv h3 M T U=>⟨x7,?_⟩
  refine U.make ae fN aeF i0 eH hZ hZ n n hZ hZ (qm _) ii λk h2 Z N H2=>⟨x7,?_⟩
  refine H2.boxed λp S I=>⟨x7,p,k,v,hZ,?_⟩
  exact(aa.Zy (E:=te 1 aB) (b:=[]) I 0 hZ λh=>⟨Seq.nil _ _ _ _ _ _,λ_=>rfl⟩).bt [2,1,0]
 rintro s S ⟨p,k,v,rfl,I⟩;refine(Zx p l k v L n w h S G (λe he=>(W e he).1) hn J hw A I).xc λh5 ⟨kn,vs,K,H5⟩=>⟨(),hZ,?_⟩;refine aq (λt:Nat×Sl=>(t.2,(t.1:Int))) (λt h'=>t.1<=hY L/\kT kn vs (L.take t.1)=eH/\Sp h h' [aj p 343 [l,k,v],an 4 k 1 fN kn,bV 34 v 1 bn (te 1 aB) vs,bV 276 t.2 2 qv kE (be kn vs (L.take t.1))]) (λt=>hY L-t.1) (0,⟨et,0,0⟩) hZ ⟨i6,hZ,H5.th 276 2 qv kE⟩ ?_;rintro⟨i,o⟩ h6 ⟨hi,z,D⟩;dsimp only at*;refine af (λe=>?_) (λe=>?_)
 .have j:i<hY L:=ii
  obtain⟨rs,q1,q2,q3⟩:=bN.kN G;have hx:=q3 i ii j;refine(Seq.up q1 D.ac).de (g:=qv) i hZ ii (rs[i]'ii) hZ ?_;generalize rs[i]'ii=x at hx⊢;refine D.alloc ae hZ λa h7 H7=>?_;refine H7.storeAll ae 4 hZ hZ (qv x) hZ hZ hZ hZ λh8 B=>?_;refine⟨x,(B.box 4 hZ).aA _ hZ,?_⟩;have R:Aa h8 p l k v L kn vs:=⟨B.box 0 hZ,eu.up G B.ac,B.seq 1 hZ λ_=>rfl,B.LH 2 hZ λ_=>rfl⟩
  obtain⟨F,-⟩:=W _ (qf j);have Y:eu kE h8 x L[i]:=eu.up hx B.ac;refine(MC p l k v L kn vs n w x L[i] h8 R K Y F hw.2 (A _ (qf j))).mono ?_;rintro _ h9 ⟨c,d,rfl,R9⟩;refine⟨(c,d),hZ,?_⟩;have H9:=B.comp R9;refine H9.alloc ae hZ λa2 ao V=>?_;refine V.storeAll ae 7 hZ hZ (qv (c,d)) hZ hZ hZ hZ λP f=>?_;refine⟨c,(f.box 7 hZ).cell0 hZ,?_⟩;have u:=(f.own 5 hZ).len;have am:hY (be kn vs (L.take i))<=hY L:=by unfold be;refine qQ (qU _ _) ?_;simp;omega
  have q:=Zz kn vs L j;have m:=Wh kn vs L j;refine af (λe2=>?_) (λe2=>?_)
  .have ab:(fO kn vs L[i]).1.isEmpty=eH:=by
    cases hh:(fO kn vs L[i]).1 with
    |nil=>rw[hh]at u;simp at u;omega
    |cons a l=>rfl
   rw[ab]at q m;refine⟨(c,d),(f.box 7 hZ).aA _ hZ,?_⟩;have O:=aa.mT f 5 6 i0 hZ hZ;refine O.nH ae 3 5 i0 hZ hZ eQ hZ i0 (λ_=>rfl) Zv hZ i0 ii λo' al X=>?_;refine⟨(i+1,o'),i7,⟨i4,by dsimp only;rw[m,z];rfl,?_⟩,i4⟩
   try dsimp only
   rw[q];exact X.bt [0,1,2,3]
  .have Q:(fO kn vs L[i]).1.isEmpty=ez:=by
    cases hh:(fO kn vs L[i]).1 with
    |nil=>rfl
    |cons a l=>rw[hh]at u;simp at u;omega
   rw[Q]at q m;refine⟨d,(f.box 7 hZ).cell hZ,?_⟩;refine(So d _ P (f.seq 6 hZ λ_=>rfl) (f.own 6 hZ).cap (by have:=(K.BO F).len;omega)).xa ⟨_,hZ,aW (λH=>?_) λH=>?_⟩
   .refine⟨kn,vs,K,.inl ⟨Wi (i:=i+1) ?_,hZ,f.bt []⟩⟩;rw[m];simp at H;simp[H]
   .refine⟨(i+1,o),i7,⟨i4,?_,?_⟩,i4⟩
    ·(try dsimp only);rw[m,z];simp at H;simp;exact H
    .try dsimp only
     rw[q];exact f.bt [0,1,2,3]
 .have ad:i=hY L:=ii
  subst ad;rw[qM]at D z;refine⟨p,hZ,k,(D.box 0 hZ).cell hZ,p,hZ,v,(D.box 0 hZ).cell hZ,kn,vs,K,.inr ⟨z,k,v,o,hZ,D.bt [1,2,3]⟩⟩
def mw(pool:List (Sl×Row)):HP:=⟨λh q=>∀x∈pool,Seq h q x.1 1 aB x.2,λa d x b=>(a x b).ac d,λa c x b=>(a x b).mono c⟩
theorem aa.pool{B:av}{c h:f7}{As:List HP}(H:aa B c h As)(i j:Nat)(b:i≠j){pool:List (Sl×Row)}{r:Sl}{l:Row}(e:As[i]?=dB (mw pool))(d:As[j]?=dB (td r 1 aB l)):aa B c h ((As.set i (mw ((r,l)::pool))).set j emp):=
 H.merge i j b e d λk m _ g f x a=>by
  rcases qT.1 a with rfl|a
  .exact Seq.mono f λ_ h=>.inr h
  .exact(g x a).mono λ_ h=>.inl h
theorem aa.JQ{B:av}{a h:f7}{As:List HP}(H:aa B a h As)(i:Nat){pool:List (Sl×Row)}(c:As[i]?=dB (mw pool)){r:Sl}{l:Row}(b:(r,l)∈pool):Rd h r 1 aB l:=(H.at i c) _ b
theorem aa.acJ{B:av}{e h:f7}{As:List HP}(H:aa B e h As)(i j:Nat)(c:i≠j){pool:List (Sl×Row)}{s:Sl}{rs:List Sl}{a:aN}(p:As[i]?=dB (an 34 s 1 bn rs))(m:As[j]?=dB (mw pool))
  (v:hY rs=hY a) (t:∀(k:Nat) r l,rs[k]?=dB r->a[k]?=dB l->(r,l)∈pool):aa B e h ((As.set i (gK 34 s 1 aB a)).set j emp):=
 H.merge i j c p m λw o u d q=>⟨rs,o,d.1,λb f=>⟨.inl (d.2 b f),u b (d.2 b f)⟩,λ_ h=>.inr h,v,λk r l g n=>q _ (t k r l g n)⟩
def iM(pool:List (Sl×Row))(g:Row->Row)(rs:List Sl)(m:aN):Prop:=hY rs=hY m/\∀(i:Nat) r l,rs[i]?=dB r->m[i]?=dB l->(r,g l)∈pool
theorem iM.get{pool:List (Sl×Row)}{g:Row->Row}{rs:List Sl}{m:aN}(h:iM pool g rs m){i:Nat}(a:i<hY m):(rs[i]'(by rw[h.1];exact a),g m[i])∈pool:=
 h.2 i _ _ (qc _) (qc _)
theorem iM.mono{pool a:List (Sl×Row)}{g:Row->Row}{rs:List Sl}{m:aN}(h:iM pool g rs m)(c:∀x∈pool,x∈a):iM a g rs m:=⟨h.1,λi r l b d=>c _ (h.2 i r l b d)⟩
theorem iM.set{pool:List (Sl×Row)}{g:Row->Row}{rs:List Sl}{m:aN}(h:iM pool g rs m)(i:Nat){r:Sl}{l:Row}(f:(r,g l)∈pool):iM pool g (rs.set i r) (m.set i l):=by
 refine⟨by simp[h.1],λk e l' a b=>?_⟩;rw[qW]at a b;by_cases c:i=k
 .subst c;rw[f8 rfl]at a b;split at a
  .rename_i d;rw[f8 (by rw[<-h.1];exact d)]at b;cases a;cases b;exact f
  .cases a
 .rw[f9 c]at a b;exact h.2 k e l' a b
theorem aa.Di{B:av}{n h:f7}{As:List HP}(H:aa B n h As)(i j:Nat){pool:List (Sl×Row)}{e:Nat}{s:Sl}{rs:List Sl}{a:aN}(m:As[i]?=dB (an e s 1 bn rs))(f:As[j]?=dB (mw pool))
  (c:iM pool id rs a):fT h (λb=>b<h.size) s 1 aB a rs:=⟨H.seq i m λ_=>rfl,c.1,λk r l d g=>H.JQ j f (c.2 k r l d g)⟩
theorem Fv{B:av}{r h:f7}{As:List HP}(s f:eS)(t:UInt8)(g a:Sl)(b c:Row)(H:aa B r h (an 5 a 1 aB c::As))(I:St B r As λh=>cellOf h s=dB (xL (dB f))/\fY h f/\Rd h g 1 aB b)
  (R:hY b=hY c) (S:hY b<=2^30) {K:f7->Prop} (Q:∀h',aa B r h' (an 5 a 1 aB (cW t b c)::As)->K h'):
  gX (σ:=Int) (λd K1 i=>
 Br (decide (d<((g.len:Nat):Int)))
 (∃F:eS,(g.ptr=dB F/\0<=d/\d<((g.len:Nat):Int))/\
 ∃E:Int,cellOf i (F.add (d.toNat*1))=dB (xJ xQ E)/\
 ∃z:eS,(a.ptr=dB z/\0<=d/\d<((a.len:Nat):Int))/\
 ∃w:Int,cellOf i (z.add (d.toNat*1))=dB (xJ xQ w)/\
 ∃q:eS,(dB s=dB q)/\
 ∃p:bD,cellOf i q=dB (.pointer p)/\
 oy xT 284 #[(.pointer p),(xJ xQ (t.toNat:Int)),(xJ xQ E)] (.one (.sc (.int .u8))) i λA u=>
 (bR.ok [(z.add (d.toNat*1),(xJ xQ w))] u)/\
 ∃n:eS,(a.ptr=dB n/\0<=d/\d<((a.len:Nat):Int))/\
 au xT (Instr.storeAt 5 (xL (dB (n.add (d.toNat*1)))) (xJ xQ (qe xQ ((qP (qI xQ) w^^^(qP (qI xQ) A)).toNat:Nat)))) u λ_ h3=>
 (bR.ok [] h3)/\
 K1 (qe xP (d+(1:Int))) h3) (K i)) (0:Int) h:=by
 have N:g.len=hY b:=(I.at [an 5 a 1 aB c] H).2.2.len;refine aq (λk:Nat=>(k:Int)) (λk h'=>k<=hY b/\aa B r h' (an 5 a 1 aB (zg (λx y=>y^^^Gf.mul t x) (b.take k) (c.take k)++c.drop k)::As)) (λk=>hY b-k) 0 hZ ⟨ii,l4⟩ ?_;rintro k i ⟨M,o⟩;obtain⟨P,J,O⟩:=I.at [_] o;refine af (λe=>?_) (λe=>?_)
 .have D:k<hY b:=ii
  have l:hY (zg (λx y=>y^^^Gf.mul t x) (b.take k) (c.take k))=k:=i5
  have L:hY (zg (λx y=>y^^^Gf.mul t x) (b.take k) (c.take k)++c.drop k)=hY c:=by rw[qw,l,zc];omega
  refine O.bo k hZ D _ hZ ?_;have m:(zg (λx y=>y^^^Gf.mul t x) (b.take k) (c.take k)++c.drop k)[k]'ii=c[k]:=by rw[wD ii];simp[l]
  refine(o.seq 0 hZ λ_=>rfl).mU k hZ ii _ hZ λax j=>?_;rw[m]at j⊢;refine⟨s,hZ,dB f,P,(HT f t b[k] i J).xa ?_⟩;refine⟨_,hZ,⟨j,x7⟩,?_⟩;rw[ou];refine o.set ae 0 hZ (λ_=>rfl) hZ k hZ ii _ hZ hZ hZ λh3 G=>⟨x7,?_⟩
  rw[zn,wd R ii]at G;exact⟨k+1,i9,⟨ii,G⟩,ii⟩
 .have:k=hY b:=ii
  subst this;rw[qh (qm _),qh ii,zd ii,qG]at o;exact Q i o
def iN(f:eS)(p:Int×Int×Int)(v r st b a c d:Sl):aT:=[xL (dB f),xJ xP p.1,xJ xP p.2.1,xJ xP p.2.2,v,r,st,b,a,c,d]
structure Cf (h:f7) (s f:eS) (wa mo:Sl) (wr mr:List Sl) (W M:aN):Prop where
 fld:cellOf h s=dB (xL (dB f))
 way:cellOf h (s.add 9)=dB (xK wa.ptr wa.len wa.cap)
 more:cellOf h (s.add 10)=dB (xK mo.ptr mo.len mo.cap)
 field:fY h f
 rW:fT h (λb=>b<h.size) wa 1 aB W wr
 rM:fT h (λb=>b<h.size) mo 1 aB M mr
theorem Cf.of{h:f7}{s f:eS}{p:Int×Int×Int}{v r st m l a c:Sl}{e g:List Sl}{W M:aN}(d:bQ h s 282 (iN f p v r st m l a c))(j:fY h f)(i:fT h (λb=>b<h.size) a 1 aB W e)(k:fT h (λb=>b<h.size) c 1 aB M g):Cf h s f a c e g W M:=
 ⟨d.cell0 hZ,d.cell hZ,d.cell hZ,j,i,k⟩
theorem Fw{B:av}{i h:f7}{As:List HP}(s f:eS)(t:UInt8)(c:Int)(a more l o:Sl)(w0 d:Row)(m u:List Sl)(W M:aN)(H:aa B i h (an 5 a 1 aB w0::an 5 more 1 aB d::As))(g:St B i As λh=>Cf h s f l o m u W M)
  (F:0<=c) (k:c.toNat<hY W) (p:c.toNat<hY M) (x:hY (aC W c.toNat)=hY w0) (z:hY (aC M c.toNat)=hY d) (D:hY w0<=2^30) (E:hY d<=2^30):
  ai xT 276 #[xL (dB s),xJ xQ t.toNat,xJ xP c,a,more] h λv h'=>v=.tuple #[]/\aa B i h' (an 5 a 1 aB (cW t (aC W c.toNat) w0)::an 5 more 1 aB (cW t (aC M c.toNat) d)::As):=by
 refine ts Tryz.func276 ?_ (u7 (v7 (v1 (v2 [(22,aU)] [(10,12),(22,41)] u9))) (v7 (v1 (v2 [(49,aU)] [(12,14),(49,68)] u9))));have S:=g.at [_,_] H;refine⟨s,hZ,l,S.way,?_⟩;rw[mO k]at x⊢;rw[mO p]at z⊢;have q:=S.rW;have A:=q.len;refine q.top.mQ c.toNat ii ii ?_;refine Fv s f t (m[c.toNat]'ii) a (W[c.toNat]) w0 H (St.mk' λh' j=>?_) x ii λh3 e=>?_
 .have b:=g.at [_] j;exact⟨b.fld,b.field,b.rW.row _ _ _ (qc _) (qc k)⟩
 have y:=g.at [_,_] e;refine⟨s,hZ,o,y.more,?_⟩;have w:=y.rM;have r:=w.len;refine w.top.mQ c.toNat ii ii ?_;refine Fv s f t (u[c.toNat]'ii) more (M[c.toNat]) d e.ie (St.mk' λh' j=>?_) z ii λh3 e=>⟨hZ,e.ie⟩
 .have b:=g.at [_] j;exact⟨b.fld,b.field,b.rM.row _ _ _ (qc _) (qc p)⟩
end Go.Qw
