/- Lemmas for the proof of the law; no condition. -/
import Derived.Test.YtfjdddcdkcbocaaGreatDoorKB
import Derived.Test.YtfjdddcdkcbocaaGreatDoorPlB
set_option maxHeartbeats 2000000
set_option linter.unusedVariables false
set_option maxHeartbeats 4000000
set_option linter.unusedSimpArgs false
open Go.Proofs.Tryz renaming prog -> xZ
open Go.Value renaming agg -> xU, bool -> xT, int -> xP, pointer -> xR, slice -> xQ, string -> xS
open Go.IntKind renaming bits -> qx, i64 -> xV, u32 -> xX, u8 -> xW, wrap -> qe
open List renaming drop -> wW, findIdx_eq -> vM, findIdx_lt_length -> yj, getElem_append_right -> yJ, pairwise_singleton -> vU, replicate -> qi, zipWith -> zn
open Bool renaming and_eq_false_iff -> vn
open Prod renaming fst -> qF
open Int renaming fdiv -> zr
open Nat renaming le_of_ble_eq_true -> zK
open Go.Instr renaming makeSlice -> zF, storeAt -> qL
open BitVec renaming ofInt -> qH
open Option renaming some -> wm
set_option maxRecDepth 100000
open Option renaming some -> cO, none -> dB
open Bool renaming true -> eH, false -> eL
open Go renaming Addr -> fY
open Go.Qw renaming cellOf -> hU, Heap -> hY
open List renaming length -> n1
open Go.Qw.cT renaming two -> E8, n -> E9, inn -> F8, loop -> G0, join -> G6, tn -> G7, lp -> Hf, jn -> HF
namespace Go.Qw
open Go.Proofs
def jl(m:aA)(l:dS):Bool:=bH m&&(bI m).all λp=>decide (p∈l)
theorem Vx(a:fY)(e:Sl)(p:aS)(l:Sl)(ll:Cells)(h:hY)(o:bR h a 41 [e])(n:Rd h e 1 ar p)(k:eu h l 1 ar ll)(t:n1 ll<=2^30):
  an xZ 239 #[l,.func (.func 240) #[] #[xR (cO a)]] h λv h'=>v=xT (decide (p∈ll))/\h'=h:=by
 refine ts Tryz.func239 ?_ (args:=[l,(.func (.func 240) #[] #[xR (cO a)])]);refine(nv l (240,#[],#[xR (cO a)]) (R:=λv h'=>(∃i:Int,v=xP xV i/\(decide (i>=0)=decide (p∈ll)))/\h'=h) ?_).mono ?_
 .skip
  have s:=k.len;refine ak (λi:Nat=>(i:Int)) (λi h'=>i<=n1 ll/\p∉ll.take i/\h'=h) (λi=>n1 ll-i) 0 n2 ⟨n3,n9,n2⟩ ?_;rintro i f ⟨m,c,rfl⟩;refine ae (λg=>?_) (λg=>?_)
  .have b:i<n1 ll:=by have e':(i:Int)<(l.len:Int):=g;omega
   refine k.get i n2 b λr q=>fB qa ?_;refine(FM r a (R:=λv h'=>v=xT (decide (ll[i]=p))/\h'=f) ?_).mono ?_
   .skip
    refine⟨e,o.cell0 n2,(ub r e ll[i] p f q n).I0 ?_⟩;exact⟨_,n2,n2,n2⟩
   .rintro _ _ ⟨rfl,rfl⟩;refine⟨_,n2,ae (λj=>⟨⟨i,n2,?_⟩,n2⟩) λj=>?_⟩
    .rw[m9 (show(i:Int)>=0 by omega),m9 (by rw[<-j];exact qf b)]
    .refine⟨i+1,oi,⟨n3,λd=>?_,n2⟩,n3⟩;rw[aC _ _ b]at d;rcases qu.1 d with d|d
     .exact c d
     .exact j (qA.1 d).symm
  .have e':¬(i:Int)<(l.len:Int):=g;rw[qh n3]at c;exact⟨⟨-1,n2,by rw[nb c];rfl⟩,n2⟩
 .rintro _ f ⟨⟨i,rfl,m⟩,rfl⟩;exact⟨i,n2,B3,n2⟩
theorem SH(a pw:fY)(d:bu)(s b:Sl)(x:aY)(m:aA)(h:hY)(L:bR h a 159 (fo pw d s b))(R:eu h s 1 ar d.l)(ok:fd d)(K:cj h x m)(z:bG m):
  an xZ 171 #[xR (cO a),cu x] h λv h'=>v=xT (jl m d.l)/\Sp h h' []:=by
 refine ts Tryz.func171 ?_ (G7 (G7 (G7 (Hf [(16,aH)] [(4,5),(7,8),(16,25)])))) (args:=[(cO a),x]);have J:=ok.len;have A:=ok.room;refine(Sp.refl h).boxed λa1 O H=>?_;refine⟨x,(H.box 0 n2).aw _ n2,(FP x m O (K.up H.ac) z).I1 λZ T=>?_⟩;have u:=H.up T.ac;refine⟨_,n2,aI (λg=>⟨by unfold jl;rw[g];rfl,.zip u.ac⟩) λg=>?_⟩;refine(FO s b (L.ac u.ac L.lt) (R.up u.ac) ok).I2 λI h3 U=>?_;have B:=u.comp U;refine⟨I,n2,x,(B.box 0 n2).aw _ n2,(mY x m h3 (K.up B.ac) z).I2 λw W V=>?_⟩;have q:=B.comp V;have E:=jB m z;obtain⟨c,k⟩:=I3 (bI m)
 rw[<-k]at q E;have Q:=(aa.lI (q.aF 3 [2])).1;refine⟨w,n2,?_⟩;obtain⟨rs,q⟩:=(q.bs [2,1]).MF λ_=>rfl;refine ak (λi:Nat=>(i:Int)) (λi h'=>i<=n1 c/\((c.take i).all λp=>decide (p∈d.l))=eH/\Sp h h' [cy (iJ 1 ar) 1 bv w rs c,cg I d.l]) (λi=>n1 c-i) 0 n2 ⟨n3,n9,q⟩ ?_;rintro i X ⟨hi,f,y⟩;have S:=(y.dv 0 n2).2.1;refine ae (λe=>?_) (λe=>?_)
 .have j:i<n1 c:=by have e':(i:Int)<(w.len:Int):=e;omega
  refine(y.dv 0 n2).1.lm i n2 n3 ?_;obtain⟨r,N⟩:=I3 (rs[i]'n3)
  rw[<-N];refine y.alloc af n2 λF Y P=>?_;refine P.storeAll af 2 n2 n2 [r] n2 n2 n2 n2 λM t=>?_;have o:Rd M r 1 ar c[i]:=by rw[N];exact Fix.row (t.dv 0 n2) j
  have G:=aa.BN (t.aF 2 [1]) λ_=>rfl;refine(Vx F r c[i] I d.l M (t.box 2 n2) o G n3).I0 ⟨_,n2,aI (λD=>⟨?_,.zip t.ac⟩) λD=>?_⟩
  .have:jl m d.l=eL:=by unfold jl;rw[g,wj,<-k];exact wg.2 ⟨c[i],qf j,by rw[D];simp⟩
   rw[this]
  .refine⟨i+1,oi,⟨n3,?_,t.bs [0,1]⟩,n3⟩;rw[aC _ _ j,wz,f,yF,vF,D];rfl
 .have:i=n1 c:=by have e':¬(i:Int)<(w.len:Int):=e;omega
  subst this;rw[qy]at f;exact⟨by unfold jl;rw[g,<-k,f];rfl,.zip y.ac⟩
theorem Yf{w:Pow}(h:w.calm){S:aD}(P:List (Int×aS))(a:aG)(F:Fit a S (P.map qF))(c:∀x∈P,x.1∈S/\x.2.length=64):
  (layAll P w a).1=0/\Fit (layAll P w a).2.2 S []/\∀s,bY (layAll P w a).2.2 s=(Lh a P s).map λd=>if s∈gv (P.map qF)then{d with wait:=0,laid:=[],has:=eL}else d:=by
 obtain⟨f,e,a3⟩:=Dv h P a F c;have j:=oZ h P a;unfold layAll;obtain⟨k,i,g⟩:=Hp h (S:=S) (gv (P.map qF)) (fU P w a).2.2 e λx b=>by
  unfold gv at b
  grind
 grind
theorem aax(p:Pm)(a:Int)(l:aD)(f:n1 l<=64)(h:((bi l l.length).any λi=>decide (l.getD i.toNat 0<((bI (cv p a l)).length:Int)))=eL):
  Fit (fL l (bi l l.length).length) (bi l l.length) ((bo (cv p a l) (bi l l.length)).map qF):=by
 refine⟨ws _ _,λs c=>?_⟩;obtain⟨n,g,rfl,d⟩:=(oV l l.length s).1 c;have b:((bI (cv p a l)).length)<=l.getD n 0:=oo
 refine⟨bu.new (l.getD n 0).toNat,?_,n2,?_⟩
 .unfold bY fL;rw[l0 n3,qj,qP,List.getElem?_range n3,Option.map_some,qy,l0 c];rfl
 .rw[si];have:=List.nodup_iff_count.1 (pQ l l.length) (n);have e:List.count (n:Int) (bi l l.length)*(bI (cv p a l)).length<=1*(bI (cv p a l)).length:=Nat.mul_le_mul_right _ this;simp only[bu.new,wQ];omega
theorem OV{p:Pm}{a:Int}{l:aD}(e:n1 l<=64)(b:iN p a l=0):
  (cY p a Pow.new l).1=0/\(cY p a Pow.new l).2.1=Pow.new/\Fit (cY p a Pow.new l).2.2 (bi l l.length) []:=by
 rw[sM,l0 b];obtain⟨c,f,_⟩:=Yf Nj (S:=bi l l.length) _ _ (aax p a l e (Bz b).2.2.2.2) λx d=>me d;exact⟨c,uk Nj _ _,f⟩
theorem KE(l:aD)(k:Nat):(bi l k).Pairwise (·<·):=by refine List.Pairwise.filter _ (List.pairwise_map.2 ?_);exact(List.pairwise_lt_range (n:=k)).imp λh=>n3
theorem aay{l:aD}{a:Int}(f:l.Pairwise (·<·))(e:∀x∈l,0<=x/\x<=a):oH l a=eH:=by
 refine rY λi c=>?_;unfold fQ dP;have d:l.getD i 0=l[i]:=oo
 have:=e l[i] (qf c);rw[d,m9 this.1,m9 this.2,wj,wj];by_cases h0:i=0
 .grind
 .have b:l.getD (i-1) 0=l[i-1]:=oo
  rw[b,m9 (List.pairwise_iff_getElem.1 f (i-1) i n3 c n3),Bool.or_true]
theorem Yg{p:Pm}{a:Int}{l:aD}(g:n1 l<=64)(c:iN p a l=0):bH (cv p a l)=eH:=by
 obtain⟨i,f,h3,_⟩:=Bz c;have e:kt (cv p a l)=eH:=by
  unfold kt dP cv
  grind
 have d:oH (cv p a l).drives 63=eH:=aay (KE l l.length) λx b=>by
  obtain⟨n,h,rfl,_⟩:=(oV l l.length x).1 b;omega
 unfold bH;rw[e,d];rfl
theorem Hv{m:aA}{r:ct}(h:dJ m r=eH):jL r=eH:=by unfold dJ at h;grind
theorem Yh{l:List ct}{r:ct}(h:r∈nh l):r∈l:=by
 unfold nh at h
 grind
theorem SI{m:aA}{c:aS}{r:ct}(h:gp m c=cO r):dt c=cO r/\dJ m r=eH:=by
 unfold gp at h
 grind
theorem BA{m:aA}{l:dS}{r:ct}(h:r∈iB m l):∃c∈l,dt c=cO r/\dJ m r=eH:=by have h:=List.mem_mergeSort.1 (Yh h);obtain⟨c,b,a⟩:=List.mem_filterMap.1 h;exact⟨c,b,SI a⟩
theorem EW(a:ByteArray):cU a a=eL:=Uf _
theorem Dy{a b:ByteArray}(h:iV a b=eH)(c:a≠b):cU a b=eH:=by
 rcases(GA a b).1 h with h|h
 .exact h
 .exact absurd (RO h) c
theorem Kd{a b:ByteArray}(h:cU a b=eH):a≠b:=λe=>by subst e;rw[EW]at h;cases h
theorem Vy:Ord mU:=⟨λa b c e d=>CJ _ _ _ e d,λa b=>CK _ _⟩
theorem Yi{m:aA}{x e:cS}:e∈(nH m x).objs↔e∈m.objs∨e=x:=by show e∈(m.objs++[x]).mergeSort mU↔_;simp
theorem Ke{a:ByteArray}{l:List Qw.cS}(h:l.any (dH a)=eL):∀e∈l,e.name≠a:=λe b c=>by
 have:=wu.1 h e b;unfold dH at this
 grind
theorem Vz{m:aA}{x:Qw.cS}(F:bH m=eH)(d:gB x.name=eH)(o:∀e∈m.objs,e.name≠x.name)(q:x.object=m.next)(N:m.objs.length<=11)(I:m.next<=16777215)(L:m.seq<=2147483646)
  (g:0<=x.length/\x.length<=m.p.1*m.p.2.2*8) (r:∀t∈x.tries,0<=t/\t<=15) (z:(x.tries.length:Int)=countP m.p x.length):bH (nH m x)=eH:=by
 obtain⟨s,y,h3,J,l,w,B⟩:=(ck m).1 F;obtain⟨M,K,a3,a4⟩:=(fR m).1 s;have c:(nH m x).objs.Perm (m.objs++[x]):=List.mergeSort_perm _ _;have n:∀e∈m.objs,e.object<m.next:=λe j=>((gX m e).1 (l e j)).2.1.2;refine(ck _).2 ⟨(fR _).2 ⟨⟨?_,?_⟩,⟨?_,?_⟩,a3,a4⟩,y,h3,?_,λe j=>?_,?_,?_⟩
 .show 1<=m.seq+1;omega
 .show m.seq+1<=_;omega
 .show 0<=m.next+1;omega
 .show m.next+1<=_;omega
 .rw[c.length_eq];simp;omega
 .rcases Yi.1 j with j|rfl
  .obtain⟨H,u,D,E,v⟩:=(gX m e).1 (l e j);exact(gX _ e).2 ⟨H,⟨u.1,by show _<m.next+1;omega⟩,D,E,v⟩
  .exact(gX _ _).2 ⟨d,⟨n3,by show _<m.next+1;omega⟩,g,r,z⟩
 .have f:(m.objs++[x]).Pairwise (λa b:Qw.cS=>a.name≠b.name):=zD.2 ⟨w.imp λh=>Kd h,vU _ _,λa G b A=>oo⟩;have i:=(c.pairwise_iff (R:=λa b:Qw.cS=>a.name≠b.name) λ{a b} h=>Ne.symm h).2 f;have k:(nH m x).objs.Pairwise (λa b=>mU a b=eH):=(tC Vy (m.objs++[x])).1;exact(k.and i).imp λh=>Dy h.1 h.2
 .have f:(m.objs++[x]).Pairwise (λa b:Qw.cS=>a.object≠b.object):=zD.2 ⟨B,vU _ _,λa G b A=>oo⟩;exact(c.pairwise_iff (R:=λa b:Qw.cS=>a.object≠b.object) λ{a b} h=>Ne.symm h).2 f
theorem OW{p:Pm}{o:Int}{n:Nat}{t:aD}(h:cV p o n=cO t):∀x∈t,0<=x/\x<=15:=λx b=>by
 obtain⟨i,d,rfl⟩:=qE b;obtain⟨k,c,a⟩:=Dn h i d;have:=(Dm a).1;rw[c];omega
theorem Nm{p:Pm}(a:bJ p=eH)(b:aS):((splitB p b).length:Int)=countP p b.length:=by have:=(kj a b.length).1;unfold splitB;rw[qp,List.length_range];omega
theorem Nn{m:aA}{d:Bool}{k:aG}{a:ByteArray}{b:aS}{t:aD}(i:bH m=eH)(l:dR m d k a b.length=0)(g:cV m.p m.next (splitB m.p b).length=cO t):bH (nH m ⟨a,m.next,n1 b,t⟩)=eH:=by
 obtain⟨q,j,z3,z4,z5⟩:=uj l;have o:¬m.p.1*m.p.2.2*8<(n1 b:Int):=λh=>z4 (.inl h);have e:n1 m.objs<=11:=by have:¬12<=n1 m.objs:=λh=>z4 (.inr h);omega
 have f:m.next<=16777215:=by have:¬16777215<m.next:=λh=>z5 (.inr (.inl h));omega
 have c:m.seq<=2147483646:=by have:¬2147483647<=m.seq:=λh=>z5 (.inr (.inr h));omega
 have n:=((fR m).1 ((ck m).1 i).1).2.2.1;refine Vz i j (Ke z3) n2 e f c ⟨by show 0<=(n1 b:Int);omega,by show(n1 b:Int)<=_;omega⟩ (OW g) ?_;show(n1 t:Int)=countP m.p b.length;rw[kC g,Nm n]
def Hw(a:dS)(d:bu):bu:=if a.isEmpty then d else{d with l:=d.l++a,wait:=0,laid:=[],has:=eL}
theorem pR{a:aG}{l:aD}{k:Int}(h:k∈bn a l):k∈l/\∃d,bY a k=cO d/\d.lost=eL:=by
 obtain⟨c,b⟩:=qN.1 h;unfold isLive at b
 grind
theorem SJ(m:aA):(bI m).length=((gC m).length+47)/48:=by unfold bI fj;simp
theorem acB(x:Qw.cS):(go x).length=6+x.name.size+x.tries.length:=by unfold go;simp[bM];omega
theorem VA{m:aA}(h:bH m=eH):(gC m).length=14+n1 m.drives+(m.objs.flatMap go).length:=by unfold gC;rw[l0 h];simp only[qq,bM,zc,wQ,qp];omega
theorem kG{p:Pm}{n:Int}(h:n<=p.1*p.2.2*8):countP p n<=8:=by
 unfold countP;split
 .rename_i a;rw[qC,]at a;have:=(bL p).1 a.1;have b:0<p.1*p.2.2:=Int.mul_pos n3 n3;have:(n-1)/(p.1*p.2.2)<8:=Int.ediv_lt_of_lt_mul b oo;omega
 simp
theorem aaz{m:aA}{x:Qw.cS}(h:gy m x=eH):(go x).length<=26:=by
 obtain⟨a,b,h3,c,d⟩:=(gX m x).1 h;have:=kG h3.2;have e:x.name.size<=12:=by unfold gB at a;grind
 rw[acB];omega
theorem IS{α β:Type}{f:α->List β}{c:Nat}:∀{l:List α},(∀x∈l,(f x).length<=c)->(l.flatMap f).length<=n1 l*c
 |[],_=>n9
 |x::l,h=>by
  have d:=h x List.mem_cons_self;have b:=IS (l:=l) λy a=>h y (qt _ a);rw[List.flatMap_cons,qq,zc,Nat.succ_mul];omega
theorem Yj{m:aA}(h:bH m=eH):(bI m).length*48<=61+n1 m.drives+n1 m.objs*26:=by have:=IS (f:=go) (l:=m.objs) λx a=>aaz (((ck m).1 h).2.2.2.2.1 x a);have b:=VA h;rw[SJ];omega
theorem acC{m:aA}(h:bH m=eH):(bI m).length<=9:=by have b:=Yj h;have a:=gJ h;have h3:=((ck m).1 h).2.2.2.1;omega
def ce(m:aA)(b:Int)(w:Pow)(a:aG)(n:aA):Int×aA×Pow×aG:=
 if gO w b then(14,m,w,a)else if !bH n||decide (n.seq≠m.seq+1)then(1,m,w,a)else
 let live:=bn a n.drives;let N:Int->Int:=λ_=>((bI n).length:Int)
 if live=[]∨iu m a live N=eL then(7,m,w,a)else
 if(makes m N live w a).1≠0 then((makes m N live w a).1,m,(makes m N live w a).2)else
 let c:=layAll (bo n live) (makes m N live w a).2.1 (makes m N live w a).2.2
 (c.1,if c.1=0 then n else m,c.2)
theorem iO{m:aA}(h:bH m=eH):bG m:=by
 obtain⟨q,g,h3,i,d,f,n⟩:=(ck m).1 h;have o:=gJ h;refine⟨n3,n3,λe c=>?_⟩;obtain⟨a,j,b,k,l⟩:=(gX m e).1 (d e c);have:=kG b.2;have p:e.name.size<=12:=by unfold gB at a;simp at a;omega
 omega
variable {B:au} {h0 h:hY} {As:List HP} {a:fY} {offs:Int} {da:List bK} {w:Pow} {ds:aG}
section
variable {pw:fY}
theorem EX(x:aY)(m:aA)(z:aY)(n:aA)(X:St B h0 As λh=>cj h z n)(hz:bG m)(l:bG n)(al:-1<=m.seq/\m.seq<=2^40)
  (H:aa B h0 h (aJ bP a pw (az x) offs da w ds::be x m::As)):
  an xZ 16 #[xR (cO a),cu z] h λv h'=>v=xP xV (ce m offs w ds n).1/\
   ∃y,aa B h0 h' (aJ bP a pw (az y) offs da (ce m offs w ds n).2.2.1 (ce m offs w ds n).2.2.2::be y (ce m offs w ds n).2.1::As):=by
 refine ts Tryz.func16 ?_ (G7 (G7 (HF [] [(4,5),(11,25)] (G7 (G7 (G7 (HF [] [(4,5),(34,44)] E9))))))) (args:=[(cO a),z]);refine H.boxed λK P t=>(ox t).mono ?_;have t:=t.bf;rintro _ P ⟨rfl,rfl⟩;have D:cj P z n:=X.at [_,_,_] t;have ah:cj P x m:=t.at 2 n2;refine⟨_,n2,aU (λe=>?_) λe1=>?_⟩
 .have I:ce m offs w ds n=(14,m,w,ds):=by unfold ce;rw[l0 e]
  rw[I];exact⟨n2,x,t.aF 3 [1,2]⟩
 refine aE ?_;refine⟨z,(t.box 0 n2).aw _ n2,(FP z n P D l).I1 λh3 R3=>?_⟩;have E:=t.up R3.ac;have ab:=D.up R3.ac;have no:∀{h':hY},aa B h0 h' (aj K 27 (az z)::aJ bP a pw (az x) offs da w ds::be x m::As)->(bH n=eL∨n.seq≠m.seq+1)->(Value.int .i64 1=xP xV (ce m offs w ds n).1/\∃y,aa B h0 h' (aJ bP a pw (az y) offs da (ce m offs w ds n).2.2.1 (ce m offs w ds n).2.2.2::be y (ce m offs w ds n).2.1::As)):=λ{h'} d hc=>by
  have I:ce m offs w ds n=(1,m,w,ds):=by
   unfold ce;rw[m6 o7,l0];rcases hc with hc|hc
   .rw[hc];rfl
   .rw[m9 hc,Bool.or_true]
  rw[I];exact⟨n2,x,d.aF 3 [1,2]⟩
 refine⟨_,n2,I4,aI (λe=>no E (.inl e)) λe2=>?_⟩;have L:=E.box 0 n2;have ad:=(aa.cB (E.aF 2 [1,0])).2;refine⟨z.1,L.cell0 n2,a,n2,x.1,ad.cell0 n2,?_⟩
 try dsimp only
 rw[D.seq,ah.seq,ag (m.seq+1)];refine bt (λe=>no E (.inr e)) λe3=>?_;refine⟨_,L.cell n2,?_⟩;have Y:=gJ e2;have U:∀k∈n.drives,0<=k/\k<64:=gT e2;refine(GP z.2.2.2.2.2.2.1 n.drives ab.drives n3 (E.aF 2 [1,0])).I2 λr h5 R5=>?_;obtain⟨live,b⟩:=I3 (bn ds n.drives)
 rw[<-b]at R5;have am:n1 live<=64:=by rw[b];exact q7 (qO _ _) Y
 have f:∀k∈live,0<=k/\k<64:=λk S=>by rw[b]at S;exact U k (qN.1 S).1
 have H5:=(E.bV R5).aF 4 [2,3,0,1];refine⟨r,n2,z,(H5.box 3 n2).aw _ n2,(mY z n h5 (X.at [_,_,_,_] H5) l).I2 λpg h6 R6=>?_⟩;have q:=(aa.lI R6).1;have G:=jB n l;obtain⟨p,J⟩:=I3 ((bI n).length)
 rw[<-J]at q G;have H6:=H5.up R6.ac;refine⟨pg,n2,H6.alloc af n2 λc h7 H7=>?_⟩;have H7:=H7.bf;refine H7.storeAll af 0 n2 n2 [xP xV (pg.len:Int)] n2 n2 n2 n2 λh8 j=>?_;rw[q]at j;have j:aa B h0 h8 (aJ bP a pw (az x) offs da w ds::be x m::aj c 3 [xP xV (p:Int)]::ai 3 r 1 aq live::aj K 27 (az z)::As):=j.aF 5 [1,2,0,3,4];obtain⟨T,o⟩:=I3 (be x m::aj c 3 [xP xV (p:Int)]::ai 3 r 1 aq live::aj K 27 (az z)::As)
 have tX:St B h0 T λh=>cj h x m:=by rw[o];exact St.dN 0 n2 λ_ s=>s
 have tN:St B h0 T λh=>bR h c 3 [xP xV (p:Int)]:=by rw[o];exact St.dN (A:=aj c 3 [xP xV (p:Int)]) 1 n2 λ_ s=>s.1
 have R:St B h0 T λh=>Rd h r 1 aq live:=by rw[o];exact St.dN (A:=ai 3 r 1 aq live) 2 n2 λ_ s=>s.1.seq (λ_=>rfl) s.2
 have tM:St B h0 T λh=>bR h K 27 (az z):=by rw[o];exact St.dN (A:=aj K 27 (az z)) 3 n2 λ_ s=>s.1
 have tY:St B h0 T λh=>cj h z n:=by rw[o];exact X.cons.cons.cons.cons
 obtain⟨N,hN⟩:∃N:Int->Int,N=λ_=>(p:Int):=⟨_,rfl⟩
 have tT:St B h0 T λh=>Le 54 #[] #[xR (cO c)] N live h:=λBs h' d k S=>by
  refine ts Tryz.func54 ?_ (args:=[(k:Int),c]);exact⟨(p:Int),(tN Bs h' d).cell0 n2,by rw[hN],Sp.refl h'⟩
 have fin:∀{h':hY} {V:Pow} {u:aG},aa B h0 h' (aJ bP a pw (az x) offs da V u::T)->aa B h0 h' (aJ bP a pw (az x) offs da V u::be x m::As):=λ{h' V u} d=>by
  rw[o]at d;exact d.aF 5 [0,1]
 rw[<-o]at j;have I:ce m offs w ds n=(if live=[]∨iu m ds live N=eL then(7,m,w,ds)else
   if(makes m N live w ds).1≠0 then((makes m N live w ds).1,m,(makes m N live w ds).2)else
   ((layAll (bo n live) (makes m N live w ds).2.1 (makes m N live w ds).2.2).1,if(layAll (bo n live) (makes m N live w ds).2.1 (makes m N live w ds).2.2).1=0 then n else m,(layAll (bo n live) (makes m N live w ds).2.1 (makes m N live w ds).2.2).2)):=by
  rw[hN,J,b];unfold ce;rw[m6 o7,m6 (by rw[e2,nb (by simpa using e3)];decide)]
 rw[I];have F:=(R.at [_] j).len;refine aE (aV (λe=>?_) λe4=>?_)
 .have:live=[]:=List.length_eq_zero_iff.1 n3;rw[l0 (.inl this)];exact⟨n2,x,fin j⟩
 have Z:live≠[]:=λh=>e4 (by rw[F,h];rfl);refine(Hb 54 #[] #[xR (cO c)] N x m r live qa (λBs h' d=>⟨tX Bs h' d,tT Bs h' d⟩) hz (R.at [_] j) n3 f j).I1 λh9 R9=>?_;have H9:=j.up R9.ac;refine⟨_,n2,aI (λg=>?_) λg=>?_⟩
 .rw[l0 (.inr g)];exact⟨n2,x,fin H9⟩
 rw[m6 (by rintro(h|h);exact Z h;rw[g]at h;cases h)];refine(Hg 54 #[] #[xR (cO c)] N x m r live qa (λBs h' d=>⟨tX Bs h' d,tT Bs h' d,R Bs h' d⟩) hz n3 f H9).I1 λap i=>?_;obtain⟨O,W⟩:=I3 (makes m N live w ds)
 rw[<-W]at i⊢;refine⟨_,n2,bt (λg2=>?_) λg2=>?_⟩
 .rw[l0 g2];exact⟨n2,x,fin i⟩
 rw[m6 (by simpa using g2)];refine⟨z,(tM.at [_] i).aw _ n2,(Hk x z n r live (λBs h' d=>⟨tY Bs h' d,R Bs h' d⟩) l n3 f i).I1 λao ⟨Q1,Q0⟩=>?_⟩;refine⟨_,n2,n2,?_⟩;by_cases Q:(layAll (bo n live) O.2.1 O.2.2).1=0
 .obtain⟨y2,M⟩:=Q0 Q;rw[l0 Q];rw[o]at M;exact⟨y2,M.aF 6 [0,1]⟩
 .rw[m6 Q];exact⟨x,fin (Q1 Q)⟩
end
variable {k:Kit} {b:fY} {mc:aR} {d:bu} {n:Nat}
section
variable {pw:fY}
end
section
variable {pw:fY}
theorem SK(H:aa B h0 h (jq pw b d::As)):an xZ 41 #[xR (cO b)] h λv h'=>v=.tuple #[]/\aa B h0 h' (jq pw b d.Iq::As):=by
 refine ts Tryz.func41 ?_;obtain⟨ok,s,o,j⟩:=H.jX;refine aU (λ_=>?_) λe=>oj
 refine⟨b,n2,j.store af 0 n2 n2 6 [xT eH] n2 n2 n2 t8 λn f=>?_⟩;refine⟨b,n2,f.store af 0 n2 n2 2 [xQ dB 0 0] n2 n2 n2 t8 λh3 g=>?_⟩;refine⟨b,n2,g.store af 0 n2 n2 3 [xP xV 0] n2 n2 n2 t8 λk a=>?_⟩;refine⟨b,n2,a.store af 0 n2 n2 4 [xQ dB 0 0] n2 n2 n2 t8 λl i=>?_⟩;refine⟨b,n2,i.store af 0 n2 n2 5 [xT eL] n2 n2 n2 t8 λm c=>⟨n2,?_⟩⟩;refine aa.iF (s:=⟨dB,0,0⟩) (b:=⟨dB,0,0⟩) ⟨qk _,qT _,ok.room,by simp[bu.Iq],qT _,by simp[bu.Iq]⟩ ?_;exact((c.kc 41 5 1 ar).kc 41 5 1 ar).aF 5 [2,0,1]
end
section
variable {pw:fY}
end
section
variable {pw:fY}
end
section
variable {pw:fY}
theorem Dz{k:Int}{d:bu}(e:bY ds k=cO d)(H:aa B h0 h (aJ bP a pw mc offs da w ds::As)):∃(b:fY) (s bl:Sl),dj da k=cO b/\bR h b 159 (fo pw d s bl)/\eu h s 1 ar d.l/\fd d:=by
 obtain⟨ok,_⟩:=aa.cB H;rcases gj ok k with⟨h1,_⟩|⟨n,d',b,rfl,hn,h1,h2,h3,h4⟩
 .rw[h1]at e;cases e
 .rw[h2]at e;injection e with e
  subst e;obtain⟨j,c,i⟩:=Qw.aa.fy H h1;rw[h3]at c;injection c with c
  injection c with c
  subst c;obtain⟨f,s,bl,g⟩:=aa.jX i;exact⟨b,s,bl,h4,g.box 0 n2,(g.aF 2 [1,0]).BN λ_=>rfl,f⟩
theorem acD{k:Int}(c:bY ds k=dB)(H:aa B h0 h (aJ bP a pw mc offs da w ds::As)):dj da k=dB:=by
 obtain⟨ok,_⟩:=aa.cB H;rcases gj ok k with⟨_,h2⟩|⟨n,d',b,rfl,hn,h1,h2,h3,h4⟩
 .exact h2
 .rw[h2]at c;cases c
theorem No{k:Int}(H:aa B h0 h (aJ bP a pw mc offs da w ds::As)):an xZ 40 #[xR (cO a),xP xV k] h λv h'=>v=.pointer (dj da k)/\h'=h:=by obtain⟨ok,b⟩:=aa.cB H;exact jA k ok b
theorem Np{k:Int}{d:bu}{b:fY}(x:aY)(m:aA)(i:bY ds k=cO d)(o:dj da k=cO b)(f:cj h x m)(g:bG m)(H:aa B h0 h (aJ bP a pw mc offs da w ds::As)):
  an xZ 171 #[xR (cO b),cu x] h λv h'=>v=xT (jl m d.l)/\Sp h h' []:=by
 obtain⟨p,s,bl,c,e,j,n⟩:=Dz i H;rw[o]at c;injection c with c
 subst c;exact SH b pw d s bl x m h e j n f g
end
def DA(a b c:Int):Int×Int×Int:=(1+a%6,1+b%3,1+c%9)
theorem Hx(a b c:Int)(h:hY):an xZ 46 #[xP xV a,xP xV b,xP xV c] h λv h'=>v=gr (DA a b c)/\Sp h h' []:=by
 refine ts Tryz.func46 ?_;refine(Sp.refl h).alloc af n2 λx g f=>?_;refine(bm a 6 g).mono ?_;rintro v e ⟨rfl,rfl⟩;refine⟨_,n2,(bm b 3 e).mono ?_⟩;rintro v h3 ⟨rfl,rfl⟩;refine⟨_,n2,(bm c 9 h3).I0 ?_⟩;refine⟨_,n2,?_⟩
 try dsimp only
 rw[ag _,ag _,ag _];refine f.storeAll af 0 n2 n2 [xP xV (1+a%6),xP xV (1+b%3),xP xV (1+c%9)] n2 n2 n2 n2 λj d=>?_;exact⟨DA a b c,(d.box 0 n2).aw _ n2,n2,.zip d.ac⟩
def fK(a pw:fY)(d:List bK)(b:Int)(w:Pow)(c:aG)(m:aA):HP:=HP.ex λx:aY=>(aJ bP a pw (az x) b d w c).sep (be x m)
variable {m:aA}
section
variable {pw:fY}
theorem iP(H:aa B h0 h (fK a pw da offs w ds m::As)):∃x,aa B h0 h (aJ bP a pw (az x) offs da w ds::be x m::As):=by obtain⟨x,H⟩:=H.AZ;exact⟨x,H.CE.nt⟩
theorem nU{x:aY}(H:aa B h0 h (aJ bP a pw (az x) offs da w ds::be x m::As)):aa B h0 h (fK a pw da offs w ds m::As):=
 aa.CD (F:=λx:aY=>(aJ bP a pw (az x) offs da w ds).sep (be x m)) x H.nt.jW
theorem VB(H:aa B h0 h (fK a pw da offs w ds m::As)):n1 ds=64/\∀k d,bY ds k=cO d->n1 d.l<=d.room/\d.room<=512/\fd d:=by obtain⟨x,H⟩:=iP H;obtain⟨ok,_⟩:=aa.cB H;refine⟨ok.ls,λk d e=>?_⟩;obtain⟨b,s,bl,_,_,_,c⟩:=Dz e H;exact⟨c.len,c.room,c⟩
theorem aaA(c:ByteArray)(s:Sl)(b:aS)(j:St B h0 As λh=>Rd h s 1 ar b)(f:s.len<=s.cap)(g:c.size<=2^40)(d:bH m=eH)(e:n1 b<=2^20)(H:aa B h0 h (fK a pw da offs w ds m::As)):
  an xZ 28 #[xR (cO a),xS c,s] h λv h'=>v=xP xV (eM m offs w ds c b).1/\
   aa B h0 h' (fK a pw da offs (eM m offs w ds c b).2.2.1 (eM m offs w ds c b).2.2.2 (eM m offs w ds c b).2.1::As):=by
 obtain⟨x,H⟩:=iP H;obtain⟨n,o,i,k⟩:=(fR m).1 ((ck m).1 d).1;refine(Yc x m c s b j f g (iO d) i k (gT d) (gJ d) n3 n3 e H).mono ?_;rintro _ h' ⟨rfl,y,l⟩;exact⟨n2,nU l⟩
theorem Kf(k:Int)(H:aa B h0 h (fK a pw da offs w ds m::As)):an xZ 40 #[xR (cO a),xP xV k] h λv h'=>v=.pointer (dj da k)/\h'=h:=by obtain⟨x,H⟩:=iP H;exact No H
theorem Qy{k:Int}{d:bu}(e:bY ds k=cO d)(H:aa B h0 h (fK a pw da offs w ds m::As)):∃b,dj da k=cO b:=by obtain⟨x,H⟩:=iP H;obtain⟨b,_,_,c,_⟩:=Dz e H;exact⟨b,c⟩
theorem Kg{k:Int}(b:bY ds k=dB)(H:aa B h0 h (fK a pw da offs w ds m::As)):dj da k=dB:=by obtain⟨x,H⟩:=iP H;exact acD b H
theorem Kh(H:aa B h0 h (fK a pw da offs w ds m::As)):an xZ 13 #[xR (cO a)] h λv h'=>v=xR (cO pw)/\h'=h:=by obtain⟨x,H⟩:=iP H;exact nK H
end
def BB(a:Int)(k:Nat):UInt8:=b8 (zr a (2^(8*k)))
def dl(c:aS)(at_:Nat)(a:Int):Nat->aS
 |0=>c
 |k+1=>(dl c at_ a k).set (at_+k) ((dl c at_ a k).getD (at_+k) 0^^^BB a k)
def adv(c:aS)(at_:Int)(a:Int):aS:=dl c at_.toNat a 4
theorem rP(c:aS)(a:Nat)(b:Int):∀k,(dl c a b k).length=n1 c
 |0=>rfl
 |k+1=>by unfold dl;rw[qK];exact rP c a b k
def lD(d:bu)(i at_ a:Int):Bool:=decide ((0<=i/\i<(n1 d.l:Int))/\(0<=at_/\at_<=60)/\a≠0)
def bu.ms(d:bu)(i at_ a:Int):bu:=if lD d i at_ a then{d with l:=d.l.set i.toNat (adv (d.l.getD i.toNat []) at_ a)}else d
theorem Nq{α:Type}{e k:Nat}{f:α->aR}{rs:List Sl}{ll:List (List α)}(h:n1 rs=n1 ll)(n:Nat)(c:n<n1 ll)(x:List α):bg e k f rs (ll.set n x)=(bg e k f rs ll).set n (ai e (rs[n]'n3) k f x):=by
 apply List.ext_getElem?;intro j;by_cases b:j<n1 ll
 .rw[dU (by rw[qK];exact h) j (by rw[qK];exact b)];by_cases a:n=j
  .subst a;rw[List.getElem?_set_self (by rw[gz h];exact c),wD]
  .rw[List.getElem?_set_ne a,dU h j b,yY a]
 .rw[zj (by rw[gz (by rw[qK];exact h),qK];omega),zj (by rw[qK,gz h];omega)]
section
variable {pw:fY}
theorem KF(i at_ a:Int)(h:hY):an xZ 43 #[xR dB,xP xV i,xP xV at_,xP xX a] h λv h'=>v=xT eL/\Sp h h' []:=by refine ts Tryz.func43 ?_ (G7 (HF [] [(8,9),(10,37)] (Hf [(37,aH)] [(9,10),(37,60)])));exact aE (aU (λ_=>⟨n2,Sp.refl h⟩) λe=>oj)
theorem SL(i at_ f:Int)(hm:0<=f/\f<2^32)(H:aa B h0 h (jq pw a d::As)):
  an xZ 43 #[xR (cO a),xP xV i,xP xV at_,xP xX f] h λv h'=>v=xT (lD d i at_ f)/\aa B h0 h' (jq pw a (d.ms i at_ f)::As):=by
 refine ts Tryz.func43 ?_ (G7 (HF [] [(8,9),(10,37)] (Hf [(37,aH)] [(9,10),(37,60)])));obtain⟨ok,s,bl,N⟩:=aa.jX H;have U:=(aa.lI (N.aF 2 [1,0])).1;have W:=N.box 0 n2;have E:lD d i at_ f=eL->(Value.bool eL=xT (lD d i at_ f)/\aa B h0 h (jq pw a (d.ms i at_ f)::As)):=λe=>by
  unfold bu.ms;rw[e];exact⟨n2,H⟩
 have g:¬((0<=i/\i<(n1 d.l:Int))/\(0<=at_/\at_<=60)/\f≠0)->lD d i at_ f=eL:=λh=>nb h;refine aE (aU (λe=>oj) λ_=>ae (λe=>E (g n3)) λe1=>⟨a,n2,s,W.cell n2,ae (λe=>E (g n3)) λe2=>ae (λe=>E (g n3)) λe3=>ae (λe=>E (g n3)) λe4=>aV (λe=>E (g n3)) λZ=>?_⟩);have X:0<=i/\i<(n1 d.l:Int):=n3
 have o:lD d i at_ f=eH:=m9 ⟨X,⟨n3,n3⟩,Z⟩;obtain⟨n,rfl⟩:∃n:Nat,i=n:=⟨i.toNat,n3⟩
 obtain⟨p,rfl⟩:∃p:Nat,at_=p:=⟨at_.toNat,n3⟩
 have P:n<n1 d.l:=n3
 have w:d.l[n].length=64:=ok.cell _ (qf P);obtain⟨c,I⟩:=I3 (d.l[n])
 have T:aa B h0 h (kV 41 s 5 1 ar (d.l.set n (dl c p f 0))::aj a 159 (fo pw d s bl)::cg bl d.laid::As):=by
  have e:d.l.set n (dl c p f 0)=d.l:=by show d.l.set n c=d.l;rw[I];exact List.set_getElem_self _
  rw[e];exact N.aF 3 [1,0,2]
 refine ak (λk:Nat=>(k:Int)) (λk h'=>k<=4/\aa B h0 h' (kV 41 s 5 1 ar (d.l.set n (dl c p f k))::aj a 159 (fo pw d s bl)::cg bl d.laid::As)) (λk=>4-k) 0 n2 ⟨n3,T⟩ ?_;rintro k h3 ⟨hk,G⟩
 try dsimp only
 refine ae (λe=>?_) λe=>?_
 .have D:k<4:=n3
  have K:=G.box 1 n2;obtain⟨rs,j,F⟩:=G.Ba;have R:=(G.lI).1;have Y:(d.l.set n (dl c p f k)).length=n1 d.l:=qK;have m:n<(d.l.set n (dl c p f k)).length:=n3
  have t:(bg 5 1 ar rs (d.l.set n (dl c p f k)))[n]?=cO (ai 5 (rs[n]'n3) 1 ar (dl c p f k)):=by rw[dU j n m,wD]
  have r:((ai 41 s 1 bv rs::bg 5 1 ar rs (d.l.set n (dl c p f k)))++(aj a 159 (fo pw d s bl)::cg bl d.laid::As))[n+1]?=cO (ai 5 (rs[n]'n3) 1 ar (dl c p f k)):=by rw[zI,List.getElem?_cons_succ,qw (by rw[gz j];exact m)];exact t
  have V:(dl c p f k).length=64:=by rw[rP,I];exact w
  have Q:=F.own (n+1) r;refine⟨a,n2,s,K.cell n2,?_⟩;have M:=F.seq 0 n2 λ_=>rfl;refine M.lm n n2 n3 ?_;obtain⟨z,O⟩:=I3 ((dl c p f k)[p+k]'n3)
  have L:qe xV ((p:Int)+(k:Int))=((p+k:Nat):Int):=o6
  rw[L];have A:Qw.Seq h3 (λb=>b<h3.size) (rs[n]'n3) 1 ar (dl c p f k):=F.seq (n+1) r λ_=>rfl;refine A.aX (p+k) n2 n3 (z.toNat:Int) (by rw[O];rfl) ?_;refine⟨o6,?_⟩;have u:min (qe xV ((8:Int)*(k:Int))).toNat (qx xX)=8*k:=by rw[ag _];show min ((8:Int)*k).toNat 32=8*k;omega
  rw[u,bT (zr f (2^(8*k)))];have J:=lV z (b8 (zr f (2^(8*k))));rw[J];refine F.set af (n+1) r (λ_=>rfl) n2 (p+k) n2 n3 (z^^^BB f k) n2 n2 n2 λh5 S=>⟨I4,?_⟩
  refine⟨k+1,oi,⟨n3,?_⟩,n3⟩;have q:dl c p f (k+1)=(dl c p f k).set (p+k) (z^^^BB f k):=by show(dl c p f k).set (p+k) ((dl c p f k).getD (p+k) 0^^^BB f k)=_;rw[rF 0,O]
  refine aa.CI (rs:=rs) xa ?_;have e:bg 5 1 ar rs (d.l.set n (dl c p f (k+1)))=(bg 5 1 ar rs (d.l.set n (dl c p f k))).set n (ai 5 (rs[n]'n3) 1 ar (dl c p f (k+1))):=by rw[<-Nq j n m,List.set_set]
  rw[e,q];rw[zI,yb,List.set_append_left _ _ (by rw[gz j];exact m)]at S;exact S
 .have D:k=4:=n3
  subst D;have y:d.ms (n:Int) (p:Int) f={d with l:=d.l.set n (dl c p f 4)}:=by unfold bu.ms;rw[o,l0 n2,qj,rF [] P,<-I];rfl
  refine⟨by rw[o],?_⟩;rw[y];refine aa.iF (s:=s) (b:=bl) ⟨by show d.wait<=_;rw[qK];exact ok.wait,by show(d.l.set n _).length<=_;rw[qK];exact ok.len,ok.room,λx J=>?_,ok.laid,ok.cellL⟩ (G.aF 3 [1,0,2]);rcases List.mem_or_eq_of_mem_set J with h|rfl
  .exact ok.cell x h
  .rw[rP,I];exact w
end
def ints(l:List Nat):aD:=l.map λx:Nat=>(x:Int)
theorem aaB(h:hY)(x:UInt8):an xZ 339 #[xP xW x.toNat] h λv h'=>v=xT (x !=0)/\h'=h:=by
 refine ts Tryz.func339 ?_;refine⟨?_,n2⟩;congr 1;by_cases a:x=0
 .subst a;rfl
 .have:((x.toNat:Nat):Int)≠0:=λb=>a (nj.1 b);rw[bne_iff_ne.2 a];exact bne_iff_ne.2 this
theorem VC(a:Sl)(l:Row)(h:hY)(p:Rd h a 1 ar l)(s:n1 l<=2^30):an xZ 274 #[a] h λv h'=>v=xP xV (if gY l<n1 l then(gY l:Int)else-1)/\h'=h:=by
 refine ts Tryz.func274 ?_;refine(oT a (339,#[],#[]) (R:=λv h'=>v=xP xV (if gY l<n1 l then(gY l:Int)else-1)/\h'=h) ?_).mono ?_
 .skip
  have r:=p.len;refine ak (λi:Nat=>(i:Int)) (λi h'=>h'=h/\i<=n1 l/\∀j (d:j<n1 l),j<i->l[j]=0) (λi=>n1 l-i) 0 n2 ⟨n2,n3,λj _ d=>n3⟩ ?_;rintro i o ⟨rfl,u,c⟩;refine ae (λe=>?_) (λe=>?_)
  .have b:i<n1 l:=n3
   refine p.aX i n2 b _ n2 ?_;refine fB qa ?_;refine(aaB o l[i]).mono ?_;rintro v t ⟨rfl,rfl⟩;refine⟨_,n2,aU (λm=>?_) λm=>?_⟩
   .have k:gY l=i:=by rw[gY,vM b];exact⟨m,λj d=>by simp[c j n3 d]⟩
    rw[k,l0 b];exact⟨n2,n2⟩
   .refine⟨i+1,oi,⟨n2,n3,λj d n=>?_⟩,n3⟩;rcases zd.1 n with h3|rfl
    .exact c j d h3
    .simpa using m
  .have f:¬gY l<n1 l:=by rw[gY,yj];rintro⟨x,q,g⟩;obtain⟨j,d,rfl⟩:=qE q;rw[c j d n3]at g;simp at g
   rw[m6 f];exact⟨n2,n2⟩
 .rintro v o ⟨rfl,rfl⟩;exact⟨_,n2,n2,n2⟩
def ZL(n t:Nat):cR:=(Zi t 0 n).map ints
theorem nL{p q:au}(a b:Sl)(c j:aD)(h:hY)(s:Seq h p a 1 aq c)(r:Seq h q b 1 aq j)(x:n1 c<=2^40:=by omega):
  an xZ 68 #[a,b] h λv h'=>v=xT (decide (c=j))/\h'=h:=by
 refine ts Tryz.func68 ?_ (G7 (G7 (Hf [(13,aH)] [(4,6),(13,26)])));have o:=s.len;have m:=r.len;refine bt (λd=>⟨?_,n2⟩) (λf=>?_)
 .rw[nb λe=>d (by rw[o,m,e])]
 .refine ak (λk:Nat=>(k:Int)) (λk h'=>h'=h/\k<=n1 c/\c.take k=j.take k) (λk=>n1 c-k) 0 n2 ⟨n2,n3,n9⟩ ?_;rintro k h' ⟨rfl,w,l⟩;refine ae (λu=>?_) (λt=>?_)
  .have i:k<n1 c:=n3
   have g:k<n1 j:=n3
   refine s.aX k n2 i _ n2 ?_;refine r.aX k n2 g _ n2 ?_;refine bt (λd=>⟨?_,n2⟩) (λf=>?_)
   .rw[nb];intro e;subst e;exact d n2
   .rw[ag _];exact⟨k+1,n9,⟨n2,n3,by rw[aC _ _ i,aC _ _ g,l,f]⟩,n3⟩
  .have:k=n1 c:=n3
   subst this;rw[qh n3,qh n3]at l;exact⟨by rw[m9 l],n2⟩
theorem OX{p:au}(a:Sl)(b:aD)(x:Int)(h:hY)(i:Seq h p a 1 aq b)(q:n1 b<=2^40):
  an xZ 160 #[a,xP xV x] h λv h'=>v=xT (decide (x∈b))/\h'=h:=by
 refine ts Tryz.func160 ?_ (G7 (Hf [(8,aH)] [(4,6),(8,18)]));have m:=i.len;refine ak (λk:Nat=>(k:Int)) (λk h'=>h'=h/\k<=n1 b/\x∉b.take k) (λk=>n1 b-k) 0 n2 ⟨n2,n3,n9⟩ ?_;rintro k h' ⟨rfl,o,d⟩;refine ae (λl=>?_) (λj=>?_)
 .have c:k<n1 b:=n3
  refine i.aX k n2 c _ n2 ?_;refine aV (λf=>⟨?_,n2⟩) (λg=>?_)
  .rw[m9 (by rw[<-f];exact qf c)]
  .rw[ag _];refine⟨k+1,n9,⟨n2,n3,?_⟩,n3⟩;rw[aC _ _ c];simp only[qu,qA,not_or];exact⟨d,λe=>g e.symm⟩
 .rw[qh n3]at d;exact⟨by rw[nb d],n2⟩
def SM(W:cR)(a:aD):Nat->aD
 |0=>[]
 |k+1=>SM W a k++if(k:Int)∈a then[]else W.getD k []
def acE(p:Pm)(seed:Int)(W:cR)(a:aD):Nat:=Bc p seed (SM W a W.length)
def adw(p:Pm)(seed:Int)(W:cR)(t:Nat):Option (aD):=(ZL W.length t).find? λg=>decide ((acE p seed W g:Int)≠bE p)
section
variable {pw:fY}
end
structure aes (p:Pm) (extra:Int) (c:Nat) (x:Int) (m:aA) (D:aG):Prop where
 m_eq:m=cv p extra (qi c x)
 len:n1 D=64
 may:bH m=eH
 dr:m.drives=(List.range c).map λi:Nat=>(i:Int)
 at_:∀s,bY D s=if s∈m.drives then cO ⟨x.toNat,bI m,0,[],eL,eL⟩else dB
section
variable {pw:fY}
theorem VD{k:Int}{d:bu}{b:fY}(i at_ c:Int)(p:0<=c/\c<2^32)(f:bY ds k=cO d)(l:dj da k=cO b)(H:aa B h0 h (fK a pw da offs w ds m::As)):
  an xZ 43 #[xR (cO b),xP xV i,xP xV at_,xP xX c] h λv h'=>v=xT (lD d i at_ c)/\aa B h0 h' (fK a pw da offs w (iG ds k (d.ms i at_ c)) m::As):=by
 obtain⟨x,H⟩:=iP H;obtain⟨ok,_⟩:=aa.cB H;obtain⟨n,rfl,y⟩:=kE f;have q:ds[n]?=cO (cO d):=by
  unfold bY at f;rw[l0 n3,qj]at f;cases hX:ds[n]? with
  |none=>rw[hX]at f;cases f
  |some o=>rw[hX]at f;exact congrArg cO f
 obtain⟨r,g,u⟩:=Qw.aa.fy H q;have j:r=b:=by unfold dj at l;rw[l0 n3,qj,g]at l;injection l
 subst j;refine(SL i at_ c p u).mono ?_;rintro _ h' ⟨rfl,s⟩;have t:=Qw.aa.kR (k:=bP) (n:=n) g s;refine⟨n2,?_⟩;have e:iG ds (n:Int) (d.ms i at_ c)=ds.set n (cO (d.ms i at_ c)):=by simp only[iG,qj]
 rw[e];exact nU t
end
structure Pg where
 seq:Int
 num:Int
 many:Int
 bears:aS
 cell:aS
def adS(x c:aS):Pg:=⟨dq (x.take 4),((x.getD 4 0).toNat:Int),((x.getD 5 0).toNat:Int),(x.drop 7).take (x.getD 6 0).toNat,c⟩
def DB(c:aS):Option Pg:=
 match gD c with
 |some (k,x)=>if k=2/\(x.getD 6 0).toNat<=48/\(x.drop (7+(x.getD 6 0).toNat)).all (λb=>decide (b=0))=eH then cO (adS x c)else dB
 |none=>dB
def aaC(f:Pg)(i:Int)(x:Pg):Bool:=decide (x.seq=f.seq/\x.many=f.many/\x.num=i)
def Qz(l:List Pg)(f:Pg):Nat->Option (List Pg)
 |0=>cO [f]
 |n+1=>match Qz l f n with
  |none=>dB
  |some out=>match l.find? (aaC f ((n+1:Nat):Int))with
   |none=>dB
   |some x=>cO (out++[x])
def aaD(l:List Pg)(f:Pg):Option (List Pg):=if f.many<=0 then dB else Qz l f (f.many.toNat-1)
def acF(s:List Pg):Option aA:=
 match abQ (s.flatMap Pg.bears)with
 |none=>dB
 |some m=>if bI m=s.map Pg.cell then cO m else dB
def Yk(a:List Pg)(out:List aA)(x:Pg):List aA:=
 if x.num≠0 then out else match aaD a x with
 |none=>out
 |some s=>match acF s with
  |none=>out
  |some m=>if out.any (λy=>decide (gC y=gC m))then out else out++[m]
def acG(a:List Pg)(xs:List Pg):List aA:=xs.foldl (Yk a) []
def adx(a b:aA):Bool:=decide (b.seq<=a.seq)
def ady(l:dS):List aA:=(acG (l.filterMap DB) (l.filterMap DB)).mergeSort adx
theorem IT(s:Sl)(l:Row)(c:UInt8)(h:hY)(q:Rd h s 1 ar l)(z:s.len<=s.cap)(y:n1 l<=2^30):
  an xZ 311 #[s,xP xW c.toNat] h λv h'=>∃k:Nat,v=xQ s.ptr k s.cap/\k<=n1 l/\(∀j (f:j<n1 l),k<=j->l[j]=c)/\(∀(d:k-1<n1 l),0<k->l[k-1]≠c)/\h'=h:=by
 refine ts Tryz.func311 ?_ (G7 (E8 (G6 [(0,bN)] [(0,1),(5,23)] (F8 (G0 [(0,bN)] [(0,1),(5,23)] (HF [] [(5,18)] E9)))) E9));have m:=q.len;refine aE ?_;refine ak (λk:Nat=>(⟨s.ptr,k,s.cap⟩:Sl)) (λk h'=>h'=h/\k<=n1 l/\∀j (f:j<n1 l),k<=j->l[j]=c) (λk=>k) l.length (by rw[<-m]) ⟨n2,qk _,λj f d=>n3⟩ ?_;rintro k w ⟨rfl,d,b⟩
 try dsimp only
 refine aE (ae (λe=>?_) λe=>?_)
 .have t:0<k:=n3
  rw[ag _];refine(q.take k d).aX (g:=λx:UInt8=>Value.int .u8 x.toNat) (k-1) n3 n7 (l[k-1]'n3) (by simp[ar]) ?_|>λ⟨a,ha,x,hx,hK⟩=>⟨a,ha,x.toNat,hx,hK⟩
  refine aV (λp=>?_) (λp=>?_)
  .have i:l[k-1]'n3=c:=by
    have:(l[k-1]'n3).toNat=c.toNat:=by exact_mod_cast p
    exact yC.1 this
   refine⟨⟨n3,n3⟩,k-1,by congr 1;omega,⟨n2,n3,λj f u=>?_⟩,n3⟩;by_cases o:j=k-1
   .subst o;exact i
   .exact b j f n3
  .refine⟨k,n2,d,b,λ_ _ r=>p (by rw[r]),n2⟩
 .exact⟨k,n2,d,b,λ_ h0=>n3,n2⟩
theorem KG(s:Sl)(l:Row)(c:UInt8)(h:hY)(q:Rd h s 1 ar l)(D:s.len<=s.cap)(F:n1 l<=2^30):
  an xZ 310 #[s,xP xW c.toNat] h λv h'=>(∃r:Sl,v=r/\(r.len=0↔∀x∈l,x=c))/\h'=h:=by
 refine ts Tryz.func310 ?_ (G7 (E8 (G6 [(0,bN)] [(0,1),(5,17)] (F8 (G0 [(0,bN)] [(0,1),(5,17)] (HF [] [(5,15)] E9)))) E9));have B:=q.len;refine bj (λr h'=>h'=h/\(r.len=0↔∀x∈l,x=c)) ?_ ?_
 .refine ak (λt:Sl×Nat=>t.1) (λt h'=>h'=h/\t.2<=n1 l/\(∀j (d:j<n1 l),j<t.2->l[j]=c)/\Rd h t.1 1 ar (l.drop t.2)/\t.1.len<=t.1.cap) (λt=>n1 l-t.2) (s,0) n2 ⟨n2,n9,λj _ d=>n3,w5,D⟩ ?_;rintro⟨r,k⟩ y ⟨rfl,E,a,b,o⟩;dsimp only at*;have f:=b.len;rw[qJ]at f;refine aE (ae (λe=>?_) λe=>?_)
  .have p:k<n1 l:=n3
   refine b.aX 0 n2 pb _ n2 ?_;have w:(l.drop k)[0]'(by rw[qJ];omega)=l[k]:=n9
   rw[w];refine aV (λi=>?_) (λi=>?_)
   .have g:l[k]=c:=by
     have:(l[k]).toNat=c.toNat:=by exact_mod_cast i
     exact yC.1 this
    refine⟨⟨n3,n3⟩,(⟨if r.cap=1 then r.ptr else r.ptr.map (·.add (1*1)),r.len-1,r.cap-1⟩,k+1),n2,⟨n2,n3,λj d m=>?_,?_,n5⟩,n5⟩
    .rcases zd.1 m with h2|rfl
     .exact a j d h2
     .exact g
    .have:=b.drop 1 o;rw[wx]at this;exact this
   .refine⟨n2,⟨λh0=>n3,λA=>absurd ?_ i⟩⟩;rw[A _ (qf p)]
  .have z:k=n1 l:=n3
   refine⟨n2,⟨λ_ x u=>?_,λ_=>by show r.len=0;omega⟩⟩;obtain⟨j,d,rfl⟩:=qE u;exact a j d n3
 .rintro r y ⟨rfl,b⟩;refine aV (λe=>?_) (λe=>?_)
  .exact⟨⟨⟨dB,0,0⟩,n2,by rw[<-b];exact⟨λ_=>n3,λ_=>rfl⟩⟩,n2⟩
  .exact⟨⟨r,n2,b⟩,n2⟩
theorem Ki(s:Sl)(l:Row)(cut:ByteArray)(a:cut=⟨#[0]⟩)(h:hY)(d:Rd h s 1 ar l)(p:s.len<=s.cap)(i:n1 l<=2^30):
  an xZ 250 #[s,xS cut] h λv h'=>(∃r:Sl,v=r/\(r.len=0↔∀x∈l,x=0))/\h'=h:=by
 subst a;refine ts Tryz.func250 ?_ (G7 (G7 (G7 (HF [] [(4,5),(13,28)] E9)))) [(6,(.l [0,1,2,4,5,3,6,7]))];have m:=d.len;refine aV (λe=>?_) (λe=>?_)
 .refine⟨⟨⟨dB,0,0⟩,n2,⟨λ_ x b=>?_,λ_=>rfl⟩⟩,n2⟩;have:l=[]:=List.eq_nil_of_length_eq_zero n3;subst this;cases b
 .refine rX o1 (aE (Fl o1 ?_));refine⟨0,⟨n4,n2⟩,Fl n4 ?_⟩;refine⟨0,⟨n4,n2⟩,0,⟨n4,n2⟩,?_⟩;refine(IT s l 0 h d p i).mono ?_;rintro v f ⟨k,rfl,g,o,h3,rfl⟩;refine⟨⟨s.ptr,k,s.cap⟩,n2,I4,?_⟩;refine(KG ⟨s.ptr,k,s.cap⟩ (l.take k) 0 f (d.take k g) (by show k<=s.cap;omega) n7).mono ?_;rintro v w ⟨⟨r,rfl,q⟩,rfl⟩;refine⟨r,n2,I4,⟨r,n2,q.trans ⟨λc x b=>?_,λc x b=>c x (zP b)⟩⟩,n2⟩;obtain⟨j,u,rfl⟩:=qE b;by_cases t:j<k
  .exact c _ (by rw[List.mem_take_iff_getElem];exact⟨j,n3,n2⟩)
  .exact o j u n3
def qv(x:Sl×Sl):aR:=[x.1,x.2]
theorem VE:∀x,∀c∈qv x,c.oneCell'=eH:=λx c a=>by
 simp only[qv,qQ,List.not_mem_nil,or_false]at a;rcases a with rfl|rfl<;>rfl
def kh:jg (Sl×Sl) fm:=⟨λh q a e=>Seq h q a.1 1 aq e.1/\Seq h q a.2 1 ar e.2,λa c=>⟨a.1.ac c,a.2.ac c⟩,λa b=>⟨a.1.mono b,a.2.mono b⟩⟩
abbrev pf:jg Sl (List fm):=bW kh 2 qv
abbrev adz:jg Sl aO:=bW (rZ 1 ar) 1 bv
abbrev eQ:bS C.toAk 277 279 2 [xQ dB 0 0,xQ dB 0 0] 48:=⟨_,_,n2,n2,n2,n2,n2,n2⟩
abbrev VF:bS C.toAk 98 41 1 [xQ dB 0 0] 24:=⟨_,_,n2,n2,n2,n2,n2,n2⟩
abbrev ZM:bS C.toAk 286 4 1 [xT eL] 1:=⟨_,_,n2,n2,n2,n2,n2,n2⟩
theorem pf.get{h:hY}{q:au}{s:Sl}{L:List fm}(x:pf.p h q s L){i:Int}(n:Nat)(e:i=n)(b:n<n1 L){K:Sl×Sl->Prop}(d:∀r,kh.p h q r L[n]->K r):
  ∃a:fY,(s.ptr=cO a/\0<=i/\i<((s.len:Nat):Int))/\∃x:Sl×Sl,bA h (a.add (i.toNat*2)) 0 [x.1,x.2]/\K x:=by
 obtain⟨rs,c,f,h3⟩:=bW.ku x;exact c.cH (g:=qv) n e n3 (rs[n]'n3) n2 (d _ (h3 n n3 b))
structure ul (h:hY) (p:fY) (l k v:Sl) (L:List fm) (kn:List Bool) (vs:aO):Prop where
 box:bR h p 331 [l,k,v]
 eqs:fk pf h l L
 known:Rd h k 1 fp kn
 vals:fk adz h v vs
theorem ul.up{h h':hY}{p:fY}{l k v:Sl}{L:List fm}{kn:List Bool}{vs:aO}(x:ul h p l k v L kn vs)(a:aP (λb=>b<h.size) h h'):ul h' p l k v L kn vs:=
 ⟨x.box.ac a x.box.lt,fk.up x.eqs a,Seq.up x.known a,fk.up x.vals a⟩
theorem Nr{kn:List Bool}{c:Int}(b:0<=c)(a:c.toNat<n1 kn):Qw.kn kn c=kn[c.toNat]:=by unfold Qw.kn;rw[qg,qd a];rfl
theorem mh{m:aO}{i:Nat}(h:i<n1 m):aB m i=m[i]:=bh h
theorem jC{α:Type}(f:α->Bool)(l:List α){k:Nat}(a:k<n1 l):(l.take (k+1)).filter f=(l.take k).filter f++if f l[k]then[l[k]]else[]:=by rw[aC _ _ a,zm,zE];cases f l[k]<;>rfl
theorem rQ(V:aO)(a:Row)(l:aD)(c:Int):cW V a (l++[c])=cL 1 (aB V c.toNat) (cW V a l):=by unfold cW;rw[wF];rfl
theorem QA(a t:Row):cL 1 a t=zn (λx y=>y^^^x) a t:=by unfold cL;congr 1;funext x y;rw[Gf.one_mul]
theorem DC{a t:Row}(c:n1 a=n1 t){k:Nat}(b:k<n1 t:=by omega):(zn (λx y=>y^^^x) (a.take k) (t.take k)++t.drop k).set k (t[k]^^^(a[k]'n3))=zn (λx y=>y^^^x) (a.take (k+1)) (t.take (k+1))++t.drop (k+1):=by
 have d:(zn (λx y=>y^^^x) (a.take k) (t.take k)).length=k:=n7
 rw[za _ _ n3,d,zh,qW b,zx,aC _ _ b,aC _ _ (show k<n1 a by omega),List.zipWith_append n7];simp
theorem Ns(p:fY)(l k v:Sl)(L:List fm)(kn:List Bool)(vs:aO)(n:Nat)(h:hY)(t:ul h p l k v L kn vs)(I:n1 kn=n)(M:∀e∈L,∀c∈e.1,0<=c/\c<(n:Int))(S:n1 L<=2^30)(w:∀e∈L,n1 e.1<=2^30):
  an xZ 358 #[xR (cO p)] h λv h'=>(∃i:Int,v=xP xV i/\(0<=i->∃(P:i.toNat<n1 L),((L[i.toNat]).1.filter λc=>!Qw.kn kn c).length=1))/\Sp h h' []:=by
 refine ts Tryz.func358 ?_ (G7 (E8 (G7 (F8 (G0 [(13,aH)] [(2,6),(7,8),(13,40)] (G7 (G7 (E8 (F8 (G7 (G7 (Hf [(5,aH),(21,aH)] [(5,6),(7,8),(21,36)])))) E9)))))) E9));have Q:=bW.len t.eqs;refine⟨p,n2,l,t.box.cell0 n2,?_⟩;refine ak (λi:Nat=>(i:Int)) (λi h'=>i<=n1 L/\Sp h h' []) (λi=>n1 L-i) 0 n2 ⟨n3,Sp.refl h⟩ ?_;rintro i G ⟨P,D⟩;refine ae (λe=>?_) λe=>⟨⟨-1,n2,λT=>n3⟩,D⟩;have g:i<n1 L:=n3
 refine pf.get (fk.up t.eqs D.ac) i n2 g λx F=>?_;refine(Sp.refl G).alloc af n2 λa U H=>?_;refine H.storeAll af 0 n2 n2 (qv x) n2 n2 n2 n2 λh3 u=>?_;have z:=up D.ac u.ac;have o:=t.up z;have q:=kh.mono (kh.loc F u.ac) λb N=>qY N u.ac.1;have y:=u.box 0 n2;refine⟨x.1,y.cell0 n2,?_⟩;have K:=q.1.len;have E:=w _ (qf g);let d:Nat->Nat:=λj=>(((L[i]).1.take j).filter λc=>!Qw.kn kn c).length;refine ak (λj:Nat=>(((d j:Nat):Int),(j:Int))) (λj h'=>h'=h3/\j<=(L[i]).1.length) (λj=>(L[i]).1.length-j) 0 Bk ⟨n2,n3⟩ ?_;rintro j R ⟨rfl,V⟩
 try dsimp only
 have J:d j<=j:=q7 (qO _ _) n7;refine ae (λO=>?_) (λO=>?_)
 .have f:j<(L[i]).1.length:=n3
  have B:=M _ (qf g) _ (qf f);refine q.1.aX j n2 f _ n2 ?_;refine⟨p,n2,k,o.box.cell n2,?_⟩;refine o.known.aX (L[i]).1[j].toNat n3 n3 _ n2 ?_;rw[ag ((j:Int)+1),ag _];have s:=Nr (kn:=kn) B.1 n3;refine aI (λm=>?_) (λm=>?_)
  .refine⟨j+1,?_,⟨n2,n3⟩,n3⟩;have:d (j+1)=d j+1:=by simp only[d];rw[jC _ _ f,s,m];simp
   rw[this];rfl
  .refine⟨j+1,?_,⟨n2,n3⟩,n3⟩;have:d (j+1)=d j:=by simp only[d];rw[jC _ _ f,s,m];simp
   rw[this];rfl
 .have A:j=(L[i]).1.length:=n3
  subst A;have r:d (L[i]).1.length=((L[i]).1.filter λc=>!Qw.kn kn c).length:=by simp only[d];rw[qy]
  rw[r];refine aV (λm=>⟨⟨i,n2,λ_=>⟨n3,by exact_mod_cast m⟩⟩,.zip z⟩) λm=>?_;exact⟨i+1,oi,⟨n3,.zip z⟩,n3⟩
theorem Kj(p:fY)(l k v:Sl)(L:List fm)(kn:List Bool)(vs:aO)(n w:Nat)(x:Sl×Sl)(e:fm)(h:hY)(hP:ul h p l k v L kn vs)(N:jP n w L kn vs)(V:fk kh h x e)(F:iW n w e)(hw:w<=2^20)(ab:n1 e.1<=2^20):
  an xZ 302 #[xR (cO p),xU #[x.1,x.2]] h λr h'=>∃a b:Sl,r=xU #[a,b]/\Sp h h' [ai 3 a 1 aq (fu kn vs e).1,ai 5 b 1 ar (fu kn vs e).2]:=by
 refine ts Tryz.func302 ?_ (G7 (G7 (E8 (G7 (F8 (G0 [(17,aH)] [(7,10),(17,58)] (G7 (G7 (E8 (F8 (G7 (G7 (G7 (F8 (G0 [(43,aH)] [(8,10),(43,57)] E9)))))) E9)))))) E9))) (args:=[(cO p),x]);refine(Sp.refl h).boxed λT h1 H1=>?_;refine H1.alloc af n2 λR h2 P=>?_;have P2:=P.ac;refine⟨x.2,(P.box 0 n2).cell n2,(fT x.2 e.2 h2 (Seq.up V.2 P2) (by have:=F.len;omega)).I2 λd h3 R3=>?_⟩;have H3:=P.comp R3;refine⟨d,n2,H3.alloc af n2 λa5 h4 H4=>?_⟩;refine H4.storeAll af 3 n2 n2 (qv (⟨dB,0,0⟩,d)) n2 n2 n2 n2 λh5 H5=>?_;have Y:Sp h h5 [aj T 279 (qv x),aj R 279 [xQ dB 0 0,xQ dB 0 0],ai 5 d 1 ar e.2,aj a5 279 (qv (⟨dB,0,0⟩,d)),ai 3 ⟨dB,0,0⟩ 1 aq []]:=H5.nil 3 1 aq;refine⟨x.1,(Y.box 0 n2).cell0 n2,?_⟩;have ap:=V.1.len;have ah:=N.klen;have ad:=N.vlen;refine ak (λt:Nat×Sl=>(t.1:Int)) (λt h'=>t.1<=n1 e.1/\Sp h h' [aj T 279 (qv x),aj R 279 [xQ dB 0 0,xQ dB 0 0],ai 5 d 1 ar (cW vs e.2 ((e.1.take t.1).filter λc=>Qw.kn kn c)),aj a5 279 (qv (t.2,d)),ai 3 t.2 1 aq ((e.1.take t.1).filter λc=>!Qw.kn kn c)]) (λt=>n1 e.1-t.1) (0,⟨dB,0,0⟩) n2 ⟨n9,by simpa[cW]using Y⟩ ?_;rintro⟨j,o⟩ h7 ⟨hj,q⟩;dsimp only at*;have s:(cW vs e.2 ((e.1.take j).filter λc=>Qw.kn kn c)).length=w:=jO F.len λc hc=>by
  have J:=qN.1 hc;have G:=zP J.1;exact N.CT (F.de c G).1 (F.de c G).2 J.2
 have ao:((e.1.take j).filter λc=>!Qw.kn kn c).length<=j:=q7 (qO _ _) n7;refine ae (λe2=>?_) (λe2=>?_)
 .have f:j<n1 e.1:=n3
  have z:=F.de _ (qf f);have u:=hP.up q.ac;refine(Seq.up V.1 q.ac).aX j n2 f _ n2 ?_;refine⟨p,n2,k,u.box.cell n2,?_⟩;refine u.known.aX (e.1[j]).toNat n3 n3 _ n2 ?_;have E:=Nr (kn:=kn) z.1 n3;refine aI (λB=>?_) (λB=>?_)
  .rw[<-E]at B;refine⟨o,(q.box 3 n2).cell0 n2,?_⟩;refine q.push af 4 n2 eK n2 n4 (λ_=>rfl) cP e.1[j] n2 n4 n3 λo' h8 g=>?_;refine g.gx af 3 n2 n2 [o'] n2 n2 n2 (by simp[qv]) λh9 M=>?_;refine⟨(j+1,o'),n8,⟨n5,?_⟩,n5⟩
   try dsimp only
   rw[jC _ _ f,jC _ _ f,B];simp only[Bool.not_false,if_true,zg,if_false,qR];exact M
  .rw[<-E]at B;have I:=N.CT z.1 z.2 B;rw[mh n3]at I;refine⟨p,n2,v,u.box.cell n2,?_⟩;obtain⟨vr,S,am,O⟩:=bW.ku hP.vals;have i:(e.1[j]).toNat<n1 vs:=n3
   refine(Seq.up S q.ac).lm (e.1[j]).toNat n3 n3 ?_;have K:=(O (e.1[j]).toNat n3 i).1;have H:=K.len;generalize vr[(e.1[j]).toNat]'n3=y at K H⊢;obtain⟨A,Z⟩:=I3 (vs[(e.1[j]).toNat]'i)
   obtain⟨D,hD⟩:=I3 (cW vs e.2 ((e.1.take j).filter λc=>Qw.kn kn c))
   rw[<-Z]at I K H;rw[<-hD]at q s;refine ak (λm:Nat=>(m:Int)) (λm h'=>m<=w/\Sp h h' [aj T 279 (qv x),aj R 279 [xQ dB 0 0,xQ dB 0 0],ai 5 d 1 ar (zn (λx y=>y^^^x) (A.take m) (D.take m)++D.drop m),aj a5 279 (qv (o,d)),ai 3 o 1 aq ((e.1.take j).filter λc=>!Qw.kn kn c)]) (λm=>w-m) 0 n2 ⟨n3,w5⟩ ?_;rintro m h8 ⟨hm,g⟩;have W:(zn (λx y=>y^^^x) (A.take m) (D.take m)).length=m:=n7
   refine ae (λe4=>?_) (λe4=>?_)
   .have al:m<w:=n3
    refine(Seq.up K g.ac).aX m n2 n3 _ n2 ?_;refine⟨d,(g.box 3 n2).cell n2,?_⟩;refine(g.seq 2 n2 λ_=>rfl).aX m n2 n7 _ n2 ?_;have Q:((zn (λx y=>y^^^x) (A.take m) (D.take m)++D.drop m)[m]'(by simp;omega))=D[m]'n3:=by rw[yJ n3];simp[W]
    rw[Q,lV];refine g.set af 2 n2 (λ_=>rfl) n2 m n2 n7 (D[m]'n3^^^A[m]'n3) n2 n2 n2 λh9 M=>?_;rw[DC n3]at M;exact⟨m+1,oi,⟨n3,M⟩,n3⟩
   .have U:m=w:=n3
    subst U;refine⟨(j+1,o),n8,⟨n5,?_⟩,n5⟩
    try dsimp only
    rw[jC _ _ f,jC _ _ f,B];simp only[Bool.not_true,if_true,zg,if_false,qR];rw[rQ,mh i,<-Z,<-hD,QA];rw[qh n3,qh n3,zl n3,qR]at g;exact g
 .have X:j=n1 e.1:=n3
  subst X;rw[qy]at q;refine⟨(o,d),(q.box 3 n2).aw _ n2,?_⟩;refine q.storeAll af 1 n2 n2 (qv (o,d)) n2 n2 n2 n2 λh8 g=>?_;refine⟨(o,d),(g.box 1 n2).aw _ n2,o,d,n2,?_⟩;exact g.bs [4,2]
theorem aa.adT{B:au}{c h:hY}{As:List HP}{e k:Nat}{α:Type}{f:α->aR}{s:Sl}{l:List α}(H:aa B c h As)(i:Nat)(j:As[i]?=cO (ai e s k f l))(m:∀x,(f x).length=k)(d:l≠[]):aa B c h (As.set i (EA (rZ k f) s l)):=
 H.dG i j λq ⟨a,b⟩=>⟨a.seq m b,λg=>absurd g d⟩
theorem count_set{l:List Bool}:∀{i:Nat} (h:i<n1 l),l[i]=eL->((l.set i eH).count eL)+1=l.count eL:=by
 induction l with
 |nil=>intro i h;simp at h
 |cons a l ih=>
  intro i h b;cases i with
  |zero=>simp at b;subst b;simp
  |succ i=>
   have:=ih (i:=i) u0 v8;rw[yb,List.count_cons,List.count_cons];omega
theorem VG(p:fY)(l k v:Sl)(L:List fm)(n w:Nat)(B h:hY)(W:fk pf B l L)(D:∀e∈L,iW n w e)(hn:n<=64)(R:n1 L<=2^20)(V:1<=w/\w<=2^20)(q:∀e∈L,n1 e.1<=2^20)
  (H:Sp B h [aj p 331 [l,k,v],ai 4 k 1 fp (qi n eL),db 41 v 1 bv (rZ 1 ar) (qi n [])]):
  an xZ 301 #[xR (cO p)] h λr h'=>r=.tuple #[]/\∃kn vs,jP n w L kn vs/\Sp B h' [aj p 331 [l,k,v],ai 4 k 1 fp kn,db 41 v 1 bv (rZ 1 ar) vs]:=by
 refine ts Tryz.func301 ?_ (.scope 0 [] [(2,37)] [] [E9] []);refine ak (λ_:List Bool×aO=>()) (λt h'=>jP n w L t.1 t.2/\Sp B h' [aj p 331 [l,k,v],ai 4 k 1 fp t.1,db 41 v 1 bv (rZ 1 ar) t.2]) (λt=>t.1.count eL) (qi n eL,qi n []) n2 ⟨RT n w L,H⟩ ?_;rintro⟨kn,vs⟩ F ⟨j,P⟩;dsimp only at*;have J:=j.klen;have T:=j.vlen;have mk:∀{z},Sp B z [aj p 331 [l,k,v],ai 4 k 1 fp kn,db 41 v 1 bv (rZ 1 ar) vs]->ul z p l k v L kn vs:=λf=>
  ⟨f.box 0 n2,fk.up W f.ac,f.seq 1 n2 λ_=>rfl,f.eRd 2 n2 λ_=>rfl⟩
 refine(Ns p l k v L kn vs n F (mk P) J (λe I=>(D e I).de) n3 λe I=>by have:=q e I;omega).mono ?_;rintro _ z ⟨⟨i,rfl,hi⟩,Y⟩;refine⟨i,n2,?_⟩;have f:=P.up Y.ac;refine ae (λe=>⟨n2,kn,vs,j,f⟩) λe=>?_;have K:0<=i:=Int.not_lt.1 e;obtain⟨A,o⟩:=hi K;have g:=mk f;refine⟨p,n2,l,g.box.cell0 n2,?_⟩;refine pf.get g.eqs i.toNat n3 A λx Q=>?_;have d:=qf A;refine(Kj p l k v L kn vs n w x L[i.toNat] z g j Q (D _ d) V.2 (q _ d)).mono ?_;rintro _ h3 ⟨a,b,rfl,Z⟩;refine⟨(a,b),n2,?_⟩;obtain⟨c,E⟩:∃c,(fu kn vs L[i.toNat]).1=[c]:=by
  have F:(fu kn vs L[i.toNat]).1.length=1:=o
  match z:(fu kn vs L[i.toNat]).1,F with
  |[c],_=>exact⟨c,n2⟩
 have s:=j.Au (D _ d);have N:=s.de c (by rw[E];simp);have u:Qw.kn kn c=eL:=CV j L[i.toNat] c (by rw[E];simp);rw[Nr N.1 n3]at u;have O:=f.comp Z;rw[E]at O;refine O.alloc af n2 λa8 h4 S=>?_;refine S.storeAll af 5 n2 n2 (qv (a,b)) n2 n2 n2 n2 λh5 m=>?_;refine⟨p,n2,k,(m.box 0 n2).cell n2,a,(m.box 5 n2).cell0 n2,?_⟩;have y:=m.seq 3 n2 λ_=>rfl;refine y.aX 0 n2 n9 c n2 ?_;refine⟨p,n2,v,(m.box 0 n2).cell n2,a,(m.box 5 n2).cell0 n2,?_⟩;refine y.aX 0 n2 n9 c n2 ?_;refine⟨b,(m.box 5 n2).cell n2,?_⟩;refine m.set af 1 n2 (λ_=>rfl) n2 c.toNat n3 n3 eH n2 n2 n2 λh6 G=>?_;refine⟨⟨(G.box 5 n2).cell n2,(G.box 5 n2).cell0 n2,I4⟩,?_⟩;have M:(fu kn vs L[i.toNat]).2≠[]:=λX=>by have:=s.len;rw[X]at this;simp at this;omega
 have H7:=aa.adT G 4 n2 (λ_=>rfl) M;refine H7.adM af 2 4 n4 n2 n2 (λ_=>rfl) n2 c.toNat n3 n3 n2 n2 n2 λh8 U=>⟨I4,?_⟩
 refine⟨(kn.set c.toNat eH,vs.set c.toNat (fu kn vs L[i.toNat]).2),n2,⟨Ut j D d E,U.bs [0,1,2]⟩,?_⟩;have:=count_set (l:=kn) (i:=c.toNat) n3 u;dsimp only;omega
theorem OY(s:Sl)(l:Row)(h:hY)(a:Rd h s 1 ar l)(c:s.len<=s.cap)(d:n1 l<=2^30):
  an xZ 303 #[s] h λv h'=>v=xT (!(l.any (· !=0)))/\h'=h:=by
 refine ts Tryz.func303 ?_;refine(Ki s l _ n2 h a c d).mono ?_;rintro _ e ⟨⟨r,rfl,b⟩,rfl⟩;refine⟨r,n2,?_,n2⟩;congr 1;rw[yK];simp only[beq_iff_eq,Bool.not_eq_true',wu,bne_iff_ne,ne_eq,Decidable.not_not];rw[<-b];omega
def IU(l:aD):Prop:=∀i (h:i+1<n1 l),l[i]<l[i+1]
theorem KH(n:Nat)(l:Sl)(L:List fm)(w:Nat)(h:hY)(t:fk pf h l L)(D:∀e∈L,iW n w e/\IU e.1)(hn:n<=64)(M:n1 L<=2^20)(q:∀e∈L,n1 e.1<=2^20):
  an xZ 300 #[xP xV n,l] h λv h'=>v=xT eH/\Sp h h' []:=by
 refine ts Tryz.func300 ?_ (G7 (HF [] [(4,5),(9,15)] (E8 (G7 (F8 (G0 [(17,aH)] [(4,5),(6,9),(17,61)] (G7 (G7 (E8 (F8 (G7 (Hf [(24,aH)] [(4,5),(7,9),(24,51)]))) E9)))))) E9)));have X:=bW.len t;refine aE (ae (λe=>n3) λ_=>ae (λe=>n3) λ_=>?_);refine ak (λi:Nat=>(i:Int)) (λi h'=>i<=n1 L/\Sp h h' []) (λi=>n1 L-i) 0 n2 ⟨n3,Sp.refl h⟩ ?_;rintro i N ⟨hi,A⟩;refine ae (λe=>?_) λe=>⟨n2,A⟩;have d:i<n1 L:=n3
 refine pf.get (fk.up t A.ac) i n2 d λx J=>?_;refine(Sp.refl N).alloc af n2 λa h2 P=>?_;refine P.storeAll af 0 n2 n2 (qv x) n2 n2 n2 n2 λh3 p=>?_;have H:=up A.ac p.ac;have c:=kh.mono (kh.loc J p.ac) λb S=>qY S p.ac.1;have f:=p.box 0 n2;refine⟨x.1,f.cell0 n2,?_⟩;have R:=c.1.len;have E:=q _ (qf d);obtain⟨m,u⟩:=D _ (qf d);refine ak (λj:Nat=>(j:Int)) (λj h'=>h'=h3/\j<=(L[i]).1.length) (λj=>(L[i]).1.length-j) 0 n2 ⟨n2,n3⟩ ?_;rintro j B ⟨rfl,hj⟩;refine ae (λU=>?_) (λU=>?_)
 .have k:j<(L[i]).1.length:=n3
  have W:=m.de _ (qf k);refine c.1.aX j n2 k _ n2 ?_;refine ae (λe=>n3) λ_=>ae (λe=>n3) λ_=>?_;have G:∃s:Nat,qe xV ((j:Int)+1)=(s:Int)/\(B=B/\s<=(L[i]).1.length)/\(L[i]).1.length-s<(L[i]).1.length-j:=⟨j+1,oi,⟨n2,n3⟩,n3⟩
  refine ae (λO=>?_) λO=>G;refine⟨x.1,f.cell0 n2,?_⟩;rw[ag ((j:Int)-1)];refine c.1.aX (j-1) n3 n3 _ n2 ?_;have F:=u (j-1) n3;have Q:(L[i]).1[j-1+1]'n3=(L[i]).1[j]:=by congr 1;omega
  rw[Q]at F;exact ae (λe=>absurd F n3) λ_=>G
 .refine⟨x.2,f.cell n2,?_⟩;obtain⟨rs,T,h8,I⟩:=bW.ku (fk.up t H);have r:=(I 0 n3 n3).2.len;obtain⟨z,Z,y,V,Y⟩:=T.cH (g:=qv) (i:=(0:Int)) 0 rfl n3 (rs[0]'n3) rfl (K:=λy=>y.2.len=w) (by rw[r];exact(D _ (qf (show 0<n1 L by omega))).1.len);refine⟨z,Z,y.2,?_,?_⟩
  .exact V.2.1
  have o:=c.2.len;rw[m.len]at o;refine bt (λe=>absurd (by rw[o,Y]) e) λ_=>?_;exact⟨i+1,oi,⟨n3,.zip H⟩,n3⟩
theorem aa.VH{B:au}{m h:hY}{As:List HP}{e k:Nat}{α β:Type}{E:jg α β}{f:α->aR}{s:Sl}{n:Nat}{a:α}{b:β}(H:aa B m h As)(i:Nat)(t:As[i]?=cO (ai e s k f (qi n a)))(u:∀h,E.p h (λ_=>False) a b):aa B m h (As.set i (db e s k f E (qi n b))):=
 H.dG i t λq ⟨x,y⟩=>⟨_,λ_=>False,x,λc o=>⟨y c o,λh=>h⟩,λ_ h=>h.elim,n9,λj r l d g=>by
  rw[wJ]at d g;split at d
  .rename_i v;rw[l0 v]at g;cases d;cases g;exact u h
  .cases d⟩
theorem aa.acH{B:au}{k h:hY}{As:List HP}{e m:Nat}{a b:Sl}{l:aD}{r:Row}(H:aa B k h As)(i j:Nat)(d:i≠j)(n:As[i]?=cO (ai e a 1 aq l))(o:As[j]?=cO (ai m b 1 ar r)):aa B k h ((As.set i (EA kh (a,b) (l,r))).set j emp):=
 H.merge i j d n o λp q _ f g=>⟨f.1.seq (λ_=>rfl) λx c=>.inl (f.2 x c),g.1.seq (λ_=>rfl) λx c=>.inr (g.2 x c)⟩
theorem VI(kn:List Bool)(vs:aO)(L:List fm){i:Nat}(a:i<n1 L):ba kn vs (L.take (i+1))=if(fu kn vs L[i]).1.isEmpty then ba kn vs (L.take i)else ba kn vs (L.take i)++[fu kn vs L[i]]:=by unfold ba;rw[aC _ _ a,qG,zm];cases h:(fu kn vs L[i]).1.isEmpty<;>simp[h]
theorem SN(kn:List Bool)(vs:aO)(L:List fm){i:Nat}(a:i<n1 L):kz kn vs (L.take (i+1))=(kz kn vs (L.take i)||((fu kn vs L[i]).1.isEmpty&&(fu kn vs L[i]).2.any (· !=0))):=by unfold kz;rw[aC _ _ a,qG,yl];simp
theorem SO{kn:List Bool}{vs:aO}{L:List fm}{i:Nat}(h:kz kn vs (L.take i)=eH):kz kn vs L=eH:=by rw[<-qD i L];unfold kz at*;rw[qG,yl,h];rfl
theorem VJ(l:Sl)(L:List fm)(n w:Nat)(h:hY)(J:fk pf h l L)(hL:∀e∈L,iW n w e/\IU e.1)(hn:n<=64)(H:n1 L<=2^20)(hw:1<=w/\w<=2^20)(A:∀e∈L,n1 e.1<=2^20):
  an xZ 245 #[xP xV n,l] h λr h'=>∃kn vs,jP n w L kn vs/\((kz kn vs L=eH/\r=.tuple #[xQ dB 0 0,xQ dB 0 0,xQ dB 0 0,xP xV 10]/\Sp h h' [])∨
   (kz kn vs L=eL/\∃k v s:Sl,r=.tuple #[k,v,s,xP xV 0]/\Sp h h' [ai 4 k 1 fp kn,db 41 v 1 bv (rZ 1 ar) vs,db 279 s 2 qv kh (ba kn vs L)])):=by
 refine ts Tryz.func245 ?_ (G7 (G7 (HF [(8,Zm)] [(8,9),(16,23)] (G7 (Hf [(6,bN),(27,aH)] [(4,8),(10,12),(27,47)]))))) [(3,(.y [0,1,3] (.l [2,4,5,6,7]) (.l [4,2,5,6,7])))];have al:=bW.len J;refine(KH n l L w h J hL hn H A).I1 λh1 R1=>⟨eH,n2,aI (λe=>oj) λ_=>?_⟩;refine bj (λs h'=>∃(p:fY) (k v:Sl),s=cO p/\Sp h h' [aj p 331 [l,k,v],ai 4 k 1 fp (qi n eL),db 41 v 1 bv (rZ 1 ar) (qi n [])]) ⟨?_,?_⟩ ?_
 .refine R1.make af fp ZM n4 eL n2 n2 n n n2 n2 (qk _) n3 λk h2 S N O=>⟨I4,?_⟩
  refine O.make af bv VF n4 ⟨dB,0,0⟩ n2 n2 n n n2 n2 (qk _) n3 λv h3 M ad W=>⟨I4,?_⟩
  refine W.boxed λp Z G=>⟨I4,p,k,v,n2,?_⟩
  exact(aa.VH (E:=rZ 1 ar) (b:=[]) G 1 n2 λh=>⟨Seq.nil _ _ _ _ _ _,λ_=>rfl⟩).bs [2,0,1]
 .refine R1.make af bv VF n4 ⟨dB,0,0⟩ n2 n2 n n n2 n2 (qk _) n3 λv h3 M ad W=>⟨I4,?_⟩
  refine W.make af fp ZM n4 eL n2 n2 n n n2 n2 (qk _) n3 λk h2 S N O=>⟨I4,?_⟩
  refine O.boxed λp Z G=>⟨I4,p,k,v,n2,?_⟩
  exact(aa.VH (E:=rZ 1 ar) (b:=[]) G 0 n2 λh=>⟨Seq.nil _ _ _ _ _ _,λ_=>rfl⟩).bs [2,1,0]
 rintro s Z ⟨p,k,v,rfl,G⟩;refine(VG p l k v L n w h Z J (λe he=>(hL e he).1) hn H hw A G).I1 λh5 ⟨kn,vs,K,H5⟩=>⟨(),n2,?_⟩;refine ak (λt:Nat×Sl=>(t.2,(t.1:Int))) (λt h'=>t.1<=n1 L/\kz kn vs (L.take t.1)=eL/\Sp h h' [aj p 331 [l,k,v],ai 4 k 1 fp kn,db 41 v 1 bv (rZ 1 ar) vs,db 279 t.2 2 qv kh (ba kn vs (L.take t.1))]) (λt=>n1 L-t.1) (0,⟨dB,0,0⟩) n2 ⟨n9,n2,H5.Ix 279 2 qv kh⟩ ?_;rintro⟨i,o⟩ h6 ⟨hi,q,D⟩;dsimp only at*;refine ae (λe=>?_) (λe=>?_)
 .have m:i<n1 L:=n3
  obtain⟨rs,q1,q2,q3⟩:=bW.ku J;have hx:=q3 i n3 m;refine(Seq.up q1 D.ac).cH (g:=qv) i n2 n3 (rs[i]'n3) n2 ?_;generalize rs[i]'n3=x at hx⊢;refine D.alloc af n2 λa h7 H7=>?_;refine H7.storeAll af 4 n2 n2 (qv x) n2 n2 n2 n2 λh8 B=>?_;refine⟨x,(B.box 4 n2).aw _ n2,?_⟩;have Q:ul h8 p l k v L kn vs:=⟨B.box 0 n2,fk.up J B.ac,B.seq 1 n2 λ_=>rfl,B.eRd 2 n2 λ_=>rfl⟩
  obtain⟨F,-⟩:=hL _ (qf m);have T:fk kh h8 x L[i]:=fk.up hx B.ac;refine(Kj p l k v L kn vs n w x L[i] h8 Q K T F hw.2 (A _ (qf m))).mono ?_;rintro _ h9 ⟨c,d,rfl,R9⟩;refine⟨(c,d),n2,?_⟩;have H9:=B.comp R9;refine H9.alloc af n2 λa2 ao ab=>?_;refine ab.storeAll af 7 n2 n2 (qv (c,d)) n2 n2 n2 n2 λY f=>?_;refine⟨c,(f.box 7 n2).cell0 n2,?_⟩;have u:=(f.own 5 n2).len;have ap:(ba kn vs (L.take i)).length<=n1 L:=by unfold ba;refine q7 (qO _ _) ?_;simp;omega
  have z:=VI kn vs L m;have j:=SN kn vs L m;refine ae (λe2=>?_) (λe2=>?_)
  .have V:(fu kn vs L[i]).1.isEmpty=eL:=by
    cases hh:(fu kn vs L[i]).1 with
    |nil=>rw[hh]at u;simp at u;omega
    |cons a l=>rfl
   rw[V]at z j;refine⟨(c,d),(f.box 7 n2).aw _ n2,?_⟩;have X:=aa.acH f 5 6 n4 n2 n2;refine X.AY af 3 5 n4 n2 n2 eQ n2 n4 (λ_=>rfl) VE n2 n4 n3 λo' ah R=>?_;refine⟨(i+1,o'),n8,⟨n5,by dsimp only;rw[j,q];rfl,?_⟩,n5⟩
   try dsimp only
   rw[z];exact R.bs [0,1,2,3]
  .have P:(fu kn vs L[i]).1.isEmpty=eH:=by
    cases hh:(fu kn vs L[i]).1 with
    |nil=>rfl
    |cons a l=>rw[hh]at u;simp at u;omega
   rw[P]at z j;refine⟨d,(f.box 7 n2).cell n2,?_⟩;refine(OY d _ Y (f.seq 6 n2 λ_=>rfl) (f.own 6 n2).cap (by have:=(K.Au F).len;omega)).I0 ⟨_,n2,aI (λI=>?_) λI=>?_⟩
   .refine⟨kn,vs,K,.inl ⟨SO (i:=i+1) ?_,n2,f.bs []⟩⟩;rw[j];simp at I;simp[I]
   .refine⟨(i+1,o),n8,⟨n5,?_,?_⟩,n5⟩
    ·(try dsimp only);rw[j,q];simp at I;simp;exact I
    .try dsimp only
     rw[z];exact f.bs [0,1,2,3]
 .have U:i=n1 L:=n3
  subst U;rw[qy]at D q;refine⟨p,n2,k,(D.box 0 n2).cell n2,p,n2,v,(D.box 0 n2).cell n2,kn,vs,K,.inr ⟨q,k,v,o,n2,D.bs [1,2,3]⟩⟩
def fP(pool:List (Sl×Row)):HP:=⟨λh q=>∀x∈pool,Seq h q x.1 1 ar x.2,λa d x b=>(a x b).ac d,λa c x b=>(a x b).mono c⟩
theorem aa.ZN{B:au}{a h:hY}{As:List HP}(H:aa B a h As):aa B a h (As++[fP []]):=
 H.comp (.one (aP.refl _ _) λx b=>by cases b)
theorem aa.pool{B:au}{c h:hY}{As:List HP}(H:aa B c h As)(i j:Nat)(b:i≠j){pool:List (Sl×Row)}{r:Sl}{l:Row}(d:As[i]?=cO (fP pool))(g:As[j]?=cO (vz r 1 ar l)):aa B c h ((As.set i (fP ((r,l)::pool))).set j emp):=
 H.merge i j b d g λk m _ e f x a=>by
  rcases qQ.1 a with rfl|a
  .exact Seq.mono f λ_ h=>.inr h
  .exact(e x a).mono λ_ h=>.inl h
theorem aa.ik{B:au}{c h:hY}{As:List HP}(H:aa B c h As)(i:Nat){pool:List (Sl×Row)}(b:As[i]?=cO (fP pool)){r:Sl}{l:Row}(a:(r,l)∈pool):Rd h r 1 ar l:=(H.at i b) _ a
theorem aa.nV{B:au}{e h:hY}{As:List HP}(H:aa B e h As)(i j:Nat)(a:i≠j){pool:List (Sl×Row)}{s:Sl}{rs:List Sl}{ll:aO}(p:As[i]?=cO (ai 41 s 1 bv rs))(t:As[j]?=cO (fP pool))
  (m:n1 rs=n1 ll) (u:∀(k:Nat) r l,rs[k]?=cO r->ll[k]?=cO l->(r,l)∈pool):aa B e h ((As.set i (dD 41 s 1 ar ll)).set j emp):=
 H.merge i j a p t λv n f c q=>⟨rs,n,c.1,λb d=>⟨.inl (c.2 b d),f b (c.2 b d)⟩,λ_ h=>.inr h,m,λk r l g o=>q _ (u k r l g o)⟩
def cb(pool:List (Sl×Row))(g:Row->Row)(rs:List Sl)(m:aO):Prop:=n1 rs=n1 m/\∀(i:Nat) r l,rs[i]?=cO r->m[i]?=cO l->(r,g l)∈pool
theorem cb.get{pool:List (Sl×Row)}{g:Row->Row}{rs:List Sl}{m:aO}(h:cb pool g rs m){i:Nat}(a:i<n1 m):(rs[i]'(by rw[h.1];exact a),g m[i])∈pool:=
 h.2 i _ _ (qd _) (qd _)
theorem cb.mono{pool a:List (Sl×Row)}{g:Row->Row}{rs:List Sl}{m:aO}(h:cb pool g rs m)(d:∀x∈pool,x∈a):cb a g rs m:=⟨h.1,λi r l c b=>d _ (h.2 i r l c b)⟩
theorem cb.set{pool:List (Sl×Row)}{g:Row->Row}{rs:List Sl}{m:aO}(h:cb pool g rs m)(i:Nat){r:Sl}{l:Row}(f:(r,g l)∈pool):cb pool g (rs.set i r) (m.set i l):=by
 refine⟨by simp[h.1],λk e d b a=>?_⟩;rw[List.getElem?_set]at b a;by_cases c:i=k
 .grind
 .rw[m6 c]at b a;exact h.2 k e d b a
theorem cb.snoc{pool:List (Sl×Row)}{g:Row->Row}{rs:List Sl}{m:aO}(h:cb pool g rs m){r:Sl}{l:Row}(f:(r,g l)∈pool):cb pool g (rs++[r]) (m++[l]):=by
 refine⟨by simp[h.1],λk e d b a=>?_⟩;by_cases c:k<n1 rs
 .rw[qw c]at b;rw[qw (by rw[<-h.1];exact c)]at a;exact h.2 k e d b a
 .have:k=n1 rs:=oo
  subst this;rw[h.1]at a
  grind
theorem cb.nil(pool:List (Sl×Row))(g:Row->Row):cb pool g [] []:=⟨n2,λi r l h=>n9⟩
theorem aa.BC{B:au}{m h:hY}{As:List HP}(H:aa B m h As)(i j:Nat){pool:List (Sl×Row)}{e:Nat}{s:Sl}{rs:List Sl}{ll:aO}(f:As[i]?=cO (ai e s 1 bv rs))(g:As[j]?=cO (fP pool))
  (a:cb pool id rs ll):gP h (λb=>b<h.size) s 1 ar ll rs:=⟨H.seq i f λ_=>rfl,a.1,λk r l c d=>H.ik j g (a.2 k r l c d)⟩
theorem DD{B:au}{r h:hY}{As:List HP}(s f:fY)(t:UInt8)(g a:Sl)(b c:Row)(H:aa B r h (ai 5 a 1 ar c::As))(G:St B r As λh=>hU h s=cO (xR (cO f))/\ig h f/\Rd h g 1 ar b)
  (M:n1 b=n1 c) (T:n1 b<=2^30) {K:hY->Prop} (J:∀h',aa B r h' (ai 5 a 1 ar (cL t b c)::As)->K h'):
  gU (σ:=Int) (λd N i=>
 Br (decide (d<((g.len:Nat):Int)))
 (∃I:fY,(g.ptr=cO I/\0<=d/\d<((g.len:Nat):Int))/\
 ∃E:Int,hU i (I.add (d.toNat*1))=cO (xP xW E)/\
 ∃A:fY,(a.ptr=cO A/\0<=d/\d<((a.len:Nat):Int))/\
 ∃z:Int,hU i (A.add (d.toNat*1))=cO (xP xW z)/\
 ∃p:fY,(cO s=cO p)/\
 ∃j:bK,hU i p=cO (.pointer j)/\
 jV xZ 317 #[(.pointer j),(xP xW (t.toNat:Int)),(xP xW E)] (.one (.sc (.int .u8))) i λu w=>
 (bF.ok [(A.add (d.toNat*1),(xP xW z))] w)/\
 ∃m:fY,(a.ptr=cO m/\0<=d/\d<((a.len:Nat):Int))/\
 av xZ (qL 5 (xR (cO (m.add (d.toNat*1)))) (xP xW (qe xW ((qH (qx xW) z^^^(qH (qx xW) u)).toNat:Nat)))) w λ_ h3=>
 (bF.ok [] h3)/\
 N (qe xV (d+(1:Int))) h3) (K i)) (0:Int) h:=by
 have O:g.len=n1 b:=(G.at [ai 5 a 1 ar c] H).2.2.len;refine ak (λk:Nat=>(k:Int)) (λk h'=>k<=n1 b/\aa B r h' (ai 5 a 1 ar (zn (λx y=>y^^^Gf.mul t x) (b.take k) (c.take k)++c.drop k)::As)) (λk=>n1 b-k) 0 n2 ⟨n3,u7⟩ ?_;rintro k i ⟨Q,q⟩;obtain⟨P,S,L⟩:=G.at [_] q;refine ae (λe=>?_) (λe=>?_)
 .have D:k<n1 b:=n3
  have n:(zn (λx y=>y^^^Gf.mul t x) (b.take k) (c.take k)).length=k:=n7
  have R:(zn (λx y=>y^^^Gf.mul t x) (b.take k) (c.take k)++c.drop k).length=n1 c:=by rw[qq,n,qJ];omega
  refine L.aX k n2 D _ n2 ?_;have l:(zn (λx y=>y^^^Gf.mul t x) (b.take k) (c.take k)++c.drop k)[k]'n3=c[k]:=by rw[yJ n3];simp[n]
  refine(q.seq 0 n2 λ_=>rfl).nD k n2 n3 _ n2 λax o=>?_;rw[l]at o⊢;refine⟨s,n2,cO f,P,(FR f t b[k] i S).I0 ?_⟩;refine⟨_,n2,⟨o,I4⟩,?_⟩;rw[lV];refine q.set af 0 n2 (λ_=>rfl) n2 k n2 n3 _ n2 n2 n2 λh3 F=>⟨I4,?_⟩
  rw[zx,ug M n3]at F;exact⟨k+1,oi,⟨n3,F⟩,n3⟩
 .have:k=n1 b:=n3
  subst this;rw[qh (qk _),qh n3,zl n3,qR]at q;exact J i q
def il(f:fY)(p:Int×Int×Int)(v r b c d e a:Sl):aR:=[xR (cO f),xP xV p.1,xP xV p.2.1,xP xV p.2.2,v,r,b,c,d,e,a]
structure AE (h:hY) (s f:fY) (wa mo:Sl) (wr mr:List Sl) (W M:aO):Prop where
 fld:hU h s=cO (xR (cO f))
 way:hU h (s.add 9)=cO (xQ wa.ptr wa.len wa.cap)
 more:hU h (s.add 10)=cO (xQ mo.ptr mo.len mo.cap)
 field:ig h f
 rW:gP h (λb=>b<h.size) wa 1 ar W wr
 rM:gP h (λb=>b<h.size) mo 1 ar M mr
theorem AE.of{h:hY}{s f:fY}{p:Int×Int×Int}{v r j n k d a:Sl}{g e:List Sl}{W M:aO}(c:bR h s 285 (il f p v r j n k d a))(l:ig h f)(i:gP h (λb=>b<h.size) d 1 ar W g)(m:gP h (λb=>b<h.size) a 1 ar M e):AE h s f d a g e W M:=
 ⟨c.cell0 n2,c.cell n2,c.cell n2,l,i,m⟩
theorem DE{B:au}{k h:hY}{As:List HP}(s f:fY)(t:UInt8)(c:Int)(b a y l:Sl)(w0 e:Row)(u m:List Sl)(W M:aO)(H:aa B k h (ai 5 b 1 ar w0::ai 5 a 1 ar e::As))(i:St B k As λh=>AE h s f y l u m W M)
  (G:0<=c) (o:c.toNat<n1 W) (A:c.toNat<n1 M) (r:(aB W c.toNat).length=n1 w0) (z:(aB M c.toNat).length=n1 e) (E:n1 w0<=2^30) (F:n1 e<=2^30):
  an xZ 309 #[xR (cO s),xP xW t.toNat,xP xV c,b,a] h λv h'=>v=.tuple #[]/\aa B k h' (ai 5 b 1 ar (cL t (aB W c.toNat) w0)::ai 5 a 1 ar (cL t (aB M c.toNat) e)::As):=by
 refine ts Tryz.func309 ?_ (E8 (G7 (F8 (G0 [(22,aH)] [(10,12),(22,41)] E9))) (G7 (F8 (G0 [(49,aH)] [(12,14),(49,68)] E9))));have S:=i.at [_,_] H;refine⟨s,n2,y,S.way,?_⟩;rw[mh o]at r⊢;rw[mh A]at z⊢;have q:=S.rW;have D:=q.len;refine q.top.lm c.toNat n3 n3 ?_;refine DD s f t (u[c.toNat]'n3) b (W[c.toNat]) w0 H (St.mk' λh' j=>?_) r n3 λh3 g=>?_
 .have d:=i.at [_] j;exact⟨d.fld,d.field,d.rW.row _ _ _ (qd _) (qd o)⟩
 have p:=i.at [_,_] g;refine⟨s,n2,l,p.more,?_⟩;have w:=p.rM;have x:=w.len;refine w.top.lm c.toNat n3 n3 ?_;refine DD s f t (m[c.toNat]'n3) a (M[c.toNat]) e g.nt (St.mk' λh' j=>?_) z n3 λh3 g=>⟨n2,g.nt⟩
 .have d:=i.at [_] j;exact⟨d.fld,d.field,d.rM.row _ _ _ (qd _) (qd A)⟩
def fH:aD->Bool
 |[]=>eH
 |[_]=>eH
 |a::b::r=>decide (a<b)&&fH (b::r)
theorem Hz:∀(l:aD) (a b:Int),fH (l++[a,b])=(fH (l++[a])&&decide (a<b))
 |[],a,b=>by simp[fH]
 |[c],a,b=>by simp[fH]
 |c::d::r,a,b=>by
  have:=Hz (d::r) a b;simp only[zI]at this⊢;simp only[fH,this,Bool.and_assoc]
theorem VK{l r:aD}(h:fH l=eL):fH (l++r)=eL:=by
 induction l with
 |nil=>simp[fH]at h
 |cons a t ih=>
  cases t with
  |nil=>simp[fH]at h
  |cons b t=>
   simp only[fH,vn]at h;simp only[zI,fH,vn];rcases h with h|h
   .exact .inl h
   .exact .inr (ih h)
theorem Yl(l:aD)(k:Nat)(h:k+1<n1 l):l.take (k+2)=l.take k++[l[k],l[k+1]]:=by have a:l.take (k+2)=l.take (k+1)++[l[k+1]]:=aC l (k+1) h;have b:=aC l k;rw[a,b,qo];rfl
def fI(n:Int)(r:aD):Bool:=r.all (λc=>decide (0<=c/\c<n))&&fH r
theorem VL{n:Int}{l r:aD}(h:fI n l=eL):fI n (l++r)=eL:=by
 simp only[fI,vn]at*;rcases h with h|h
 .left;rw[wz,h];rfl
 .right;exact VK h
theorem SP{n:Int}{r:aD}(h:0<n1 r):fI n (r.take 1)=decide (0<=r[0]/\r[0]<n):=by
 cases r with
 |nil=>simp at h
 |cons a t=>simp[fI,fH]
theorem SQ{n:Int}{r:aD}{k:Nat}(h:k+1<n1 r):fI n (r.take (k+2))=(fI n (r.take (k+1))&&decide (0<=r[k+1]/\r[k+1]<n)&&decide (r[k]<r[k+1])):=by
 have a:r.take (k+2)=r.take (k+1)++[r[k+1]]:=aC r (k+1) h;have b:fH (r.take (k+2))=(fH (r.take (k+1))&&decide (r[k]<r[k+1])):=by rw[Yl r k h,Hz,aC r k]
 simp only[fI,b];rw[a,wz];simp only[yF,vF,Bool.and_true]
 cases(r.take (k+1)).all λc=>decide (0<=c/\c<n)<;>cases fH (r.take (k+1))<;>cases decide (0<=r[k+1]/\r[k+1]<n)<;>simp
theorem um{n:Int}{r:aD}{k:Nat}(h:fI n (r.take k)=eL):fI n r=eL:=by rw[<-qD k r];exact VL h
theorem SS{n:Int}{r:aD}{k:Nat}(c:k<n1 r)(h:fI n (r.take k)=eH):
  (r[k]<0->fI n r=eL)/\(n<=r[k]->fI n r=eL)/\(∀(h0:0<k),r[k]<=r[k-1]->fI n r=eL)/\
  (0<=r[k]->r[k]<n->(∀h0:0<k,r[k-1]<r[k])->fI n (r.take (k+1))=eH):=by
 cases k with
 |zero=>
  have e:=SP (n:=n) c;refine⟨λa=>um (k:=1) ?_,λa=>um (k:=1) ?_,λh0=>n3,λa b _=>?_⟩
  .rw[e,nb n3]
  .rw[e,nb n3]
  .rw[e,m9 ⟨a,b⟩]
 |succ k=>
  have e:=SQ (n:=n) c;refine⟨λa=>um (k:=k+2) ?_,λa=>um (k:=k+2) ?_,λh0 a=>um (k:=k+2) ?_,λa b h3=>?_⟩
  .rw[e,nb (p:=0<=r[k+1]/\r[k+1]<n) n3];simp
  .rw[e,nb (p:=0<=r[k+1]/\r[k+1]<n) n3];simp
  .rw[e,nb (p:=r[k]<r[k+1]) B4];simp
  .have d:r[k]<r[k+1]:=by simpa using h3 n3
   rw[e,h,m9 (p:=0<=r[k+1]/\r[k+1]<n) ⟨a,b⟩,m9 d];rfl
def jI(n:Int)(ll:cR):Bool:=decide (0<=n/\n<=64)&&ll.all (fI n)
theorem Ym{α:Type}{f:α->Bool}{l:List α}{k:Nat}(a:k<n1 l)(h:(l.take k).all f=eH):(l.take (k+1)).all f=f l[k]:=by rw[aC _ _ a,wz,h];simp
theorem acI{α:Type}{f:α->Bool}{l:List α}{k:Nat}(a:k<n1 l)(h:f l[k]=eL):l.all f=eL:=by rw[wg];exact⟨l[k],qf a,by simp[h]⟩
theorem IV{p:au}(n:Int)(a:Sl)(ll:cR)(rs:List Sl)(h:hY)(z:gP h p a 1 aq ll rs)(J:n1 ll<=2^40)(s:∀l∈ll,n1 l<=2^40):
  an xZ 359 #[xP xV n,a] h λv h'=>v=xT (jI n ll)/\h'=h:=by
 refine ts Tryz.func359 ?_ (G7 (HF [] [(4,5),(9,15)] (E8 (G7 (F8 (G0 [(17,aH)] [(4,5),(6,9),(17,50)] (G7 (G7 (E8 (F8 (G7 (G7 (F8 (G0 [(23,aH)] [(4,5),(7,9),(23,49)] E9))))) E9)))))) E9)));have H:=z.LL;refine bj (λ_ h'=>h'=h/\0<=n/\n<=64) ?_ ?_
 .refine ae (λg=>⟨?_,n2⟩) (λg=>ae (λe=>⟨?_,n2⟩) λe=>⟨n2,n3,n3⟩)
  .rw[jI,nb n3];rfl
  .rw[jI,nb n3];rfl
 .rintro _ h' ⟨rfl,q,t⟩;have y:jI n ll=ll.all (fI n):=by rw[jI,m9 ⟨q,t⟩];rfl
  refine ak (λk:Nat=>(k:Int)) (λk h0=>h0=h'/\k<=n1 ll/\(ll.take k).all (fI n)=eH) (λk=>n1 ll-k) 0 n2 ⟨n2,n3,n9⟩ ?_;rintro i h0 ⟨rfl,K,c⟩;refine ae (λo=>?_) (λj=>?_)
  .have d:i<n1 ll:=n3
   refine z.get i n2 d λr u _=>?_;have B:=u.len;have D:=s _ (qf d);have b:fI n ll[i]=eL->jI n ll=eL:=λG=>by rw[y];exact acI d G
   refine ak (λk:Nat=>(k:Int)) (λk e=>e=h0/\k<=ll[i].length/\fI n (ll[i].take k)=eH) (λk=>ll[i].length-k) 0 n2 ⟨n2,n3,by simp[fI,fH]⟩ ?_;rintro k e ⟨rfl,I,m⟩;refine ae (λo=>?_) (λj=>?_)
   .have f:k<ll[i].length:=n3
    obtain⟨E,F,A,x⟩:=SS f m;refine u.aX k n2 f _ n2 ?_;refine ae (λg=>⟨by rw[b (E g)],n2⟩) λg=>?_;refine ae (λe=>⟨by rw[b (F e)],n2⟩) λe=>?_;rw[ag (k+1),ag (k-1)];refine ae (λh3=>?_) (λh3=>?_)
    .refine u.aX (k-1) n3 n3 _ n2 ?_;refine ae (λw=>⟨by rw[b (A n3 w)],n2⟩) λw=>?_;exact⟨k+1,n9,⟨n2,n3,x n3 n3 λ_=>n3⟩,n3⟩
    .exact⟨k+1,n9,⟨n2,n3,x n3 n3 λ_=>n3⟩,n3⟩
   .rw[qh n3]at m;rw[ag (i+1)];exact⟨i+1,n9,⟨n2,n3,by rw[Ym d c,m]⟩,n3⟩
  .rw[qh n3]at c;exact⟨by rw[y,c],n2⟩
theorem HB{p:au}(a:Sl)(b:List Bool)(x:Bool)(h:hY)(i:Seq h p a 1 fp b)(q:n1 b<=2^40):
  an xZ 379 #[a,xT x] h λv h'=>∃r:Int,v=xP xV r/\(0<=r↔x∈b)/\h'=h:=by
 refine ts Tryz.func379 ?_ (G7 (Hf [(8,aH)] [(4,6),(8,19)]));have m:=i.len;refine ak (λk:Nat=>(k:Int)) (λk h'=>h'=h/\k<=n1 b/\x∉b.take k) (λk=>n1 b-k) 0 n2 ⟨n2,n3,n9⟩ ?_;rintro k h' ⟨rfl,o,f⟩;refine ae (λl=>?_) (λj=>?_)
 .have c:k<n1 b:=n3
  refine i.aX k n2 c _ n2 ?_;refine aU (λg=>⟨_,n2,⟨λ_=>?_,λ_=>n3⟩,n2⟩) (λd=>?_)
  .rw[eq_of_beq g];exact qf c
  .rw[ag _];refine⟨k+1,n9,⟨n2,n3,?_⟩,n3⟩;rw[aC _ _ c];simp only[qu,qA,not_or];exact⟨f,λe=>by rw[e]at d;simp at d⟩
 .rw[qh n3]at f;exact⟨_,n2,⟨λh=>n3,λh=>absurd h f⟩,n2⟩
theorem DF{p:au}(a:Sl)(b:List Bool)(x:Bool)(h:hY)(d:Seq h p a 1 fp b)(c:n1 b<=2^40):
  an xZ 360 #[a,xT x] h λv h'=>v=xT (decide (x∈b))/\h'=h:=by
 refine ts Tryz.func360 ?_;refine(HB a b x h d c).mono ?_;rintro v h' ⟨r,rfl,e,rfl⟩;refine⟨r,n2,?_,n2⟩;exact congrArg Value.bool (decide_eq_decide.2 e)
theorem OZ{α:Type}{f:α->Bool}{l:List α}{k:Nat}(a:k<n1 l):(l.take (k+1)).filter f=if f l[k]then(l.take k).filter f++[l[k]]else(l.take k).filter f:=by rw[aC _ _ a,zm];by_cases h:f l[k]=eH<;>simp[h]
theorem HD{p q:au}(j:fY)(o r:Sl)(op:List Bool)(row:aD)(h:hY)(x:hU h (j.add 1)=cO (xQ o.ptr o.len o.cap))(y:Seq h p o 1 fp op)(m:Seq h q r 1 aq row)
  (i:∀c∈row,0<=c/\c<n1 op) (A:n1 row<=2^40):
  an xZ 380 #[xR (cO j),r] h λv h'=>
   v=.tuple #[xP xV ((di op row).getLast?.getD 0),xT ((di op row).length==1)]/\h'=h:=by
 refine ts Tryz.func380 ?_ (G7 (G7 (Hf [(6,aH),(7,aH),(12,aH)] [(6,8),(9,10),(12,27)])));have t:=m.len;refine ak (λk:Nat=>((di op (row.take k)).getLast?.getD 0,((di op (row.take k)).length:Int),(k:Int))) (λk h'=>h'=h/\k<=n1 row) (λk=>n1 row-k) 0 n2 ⟨n2,n3⟩ ?_;rintro k h' ⟨rfl,z⟩
 try dsimp only
 refine ae (λw=>?_) (λs=>?_)
 .have d:k<n1 row:=n3
  have B:=i _ (qf d);refine m.aX k n2 d _ n2 ?_;refine⟨j,n2,o,x,?_⟩;have a:row[k].toNat<n1 op:=n3
  refine y.aX row[k].toNat n3 a _ n2 ?_;have b:kb op row[k]=op[row[k].toNat]:=by simp[kb,qg,qd a]
  have g:=OZ (f:=kb op) d;have u:(di op (row.take k)).length<=n1 row:=q7 (qO _ _) t6;rw[ag (k+1),ag _];refine aU (λl=>?_) (λl=>?_)
  .refine⟨k+1,?_,⟨n2,n3⟩,n3⟩;have e:di op (row.take (k+1))=di op (row.take k)++[row[k]]:=by rw[di,g,b,l];rfl
   simp[e]
  .refine⟨k+1,?_,⟨n2,n3⟩,n3⟩;have e:di op (row.take (k+1))=di op (row.take k):=by rw[di,g,b,l];rfl
   simp[e]
 .have e:row.take k=row:=qh n3;refine⟨?_,n2⟩;simp only[e];congr 4;congr 1;rw[yK];simp;omega
structure uR (h:hY) (p:au) (a:fY) (l o u:Sl) (rows:cR) (rs:List Sl) (op us:List Bool):Prop where
 c0:hU h a=cO (xQ l.ptr l.len l.cap)
 c1:hU h (a.add 1)=cO (xQ o.ptr o.len o.cap)
 c2:hU h (a.add 2)=cO (xQ u.ptr u.len u.cap)
 blk:p a.block
 sRows:gP h p l 1 aq rows rs
 sOp:Seq h p o 1 fp op
 sUs:Seq h p u 1 fp us
 ulen:n1 us=n1 rows
 de:∀r∈rows,∀c∈r,0<=c/\c<n1 op
 short:∀r∈rows,n1 r<=64
theorem uR.ac{h h':hY}{p:au}{a:fY}{l o u:Sl}{rows:cR}{rs:List Sl}{op us:List Bool}(c:uR h p a l o u rows rs op us)(k:aP p h h'):uR h' p a l o u rows rs op us:=by
 have b:∀n,(a.add n).block=a.block:=λn=>by unfold Addr.add;split<;>rfl
 exact⟨k.cell c.blk c.c0,k.cell (by rw[b];exact c.blk) c.c1,k.cell (by rw[b];exact c.blk) c.c2,c.blk,c.sRows.ac k,c.sOp.ac k,c.sUs.ac k,c.ulen,c.de,c.short⟩
theorem KI{p:au}(a:fY)(l o u:Sl)(rows:cR)(rs:List Sl)(op us:List Bool)(h:hY)(z:uR h p a l o u rows rs op us)(O:n1 rows<=2^40):
  an xZ 361 #[xR (cO a)] h λv h'=>aP (λ_=>True) h h'/\
   v=match lK rows op us with
    |some i=>.tuple #[xU #[xP xV i,xP xV (eT rows op i)],xT eH]
    |none=>.tuple #[xU #[xP xV 0,xP xV 0],xT eL]:=by
 refine ts Tryz.func361 ?_ (G7 (Hf [(13,aH)] [(3,8),(13,36)]));refine uy af n2 λb I Q t d L=>?_;have f:=z.ac (d.mono λ_ _ _=>trivial);refine⟨a,n2,l,f.c0,?_⟩;have M:=z.sRows.LL;refine ak (λk:Nat=>(k:Int)) (λk h'=>h'=I/\k<=n1 rows/\∀j,j<k->kW rows op us j=eL) (λk=>n1 rows-k) 0 n2 ⟨n2,n3,λj q=>n3⟩ ?_;rintro k h' ⟨rfl,N,D⟩;refine ae (λJ=>?_) (λG=>?_)
 .have e:k<n1 rows:=n3
  refine f.sRows.get k n2 e λr K _=>?_;refine⟨a,n2,u,f.c2,?_⟩;refine f.sUs.aX k n2 (by rw[z.ulen];exact e) _ n2 ?_;have F:us.getD k eL=us[k]'(by rw[z.ulen];exact e):=by rw[qg,qd];rfl
  have s:rows.getD k []=rows[k]:=by rw[qg,qd e];rfl
  rw[ag _];refine aU (λx=>?_) (λx=>?_)
  .refine⟨k+1,n9,⟨n2,n3,λj q=>?_⟩,n3⟩;rcases zd.1 q with q|rfl
   .exact D j q
   .simp only[kW,F,x];rfl
  .refine(HD a o r op rows[k] h' f.c1 f.sOp K (z.de _ (qf e)) (q7 (z.short _ (qf e)) n3)).I0 ⟨(_,_),n2,?_⟩;have m:kW rows op us k=((di op rows[k]).length==1):=by simp only[kW,F,x,s];rfl
   refine aU (λw=>?_) (λw=>?_)
   .have g:kW rows op us k=eH:=m.trans w;refine sp af t n2 _ n2 n2 n2 (qk _) λh3 c y B=>?_;refine⟨(_,_),c.aw _ n2,d.then y (λH E _=>n3),?_⟩;have A:eT rows op k=(di op rows[k]).getLast?.getD 0:=by unfold eT;rw[s]
    rw[lK,Uv e D g];show _=Value.tuple #[xU #[xP xV k,xP xV (eT rows op k)],xT eH];rw[A];rfl
   .have g:kW rows op us k=eL:=m.trans w;refine⟨k+1,n9,⟨n2,n3,λj q=>?_⟩,n3⟩;rcases zd.1 q with q|rfl
    .exact D j q
    .exact g
 .refine sp af t n2 _ n2 n2 n2 (qk _) λh3 c y B=>?_;refine⟨(_,_),c.aw _ n2,d.then y (λH E _=>n3),?_⟩;rw[lK,Uu λj q=>D j n3]
theorem FW{l:List Bool}{i:Nat}(h:i<n1 l):l.getD i eL=l[i]:=by rw[qg,qd h];rfl
theorem QB(op:List Bool)(a:aD):∀k,-1<=iS op a k/\iS op a k<k
 |0=>by simp[iS]
 |k+1=>by
  have:=QB op a k;unfold iS;split<;>omega
theorem KJ{p:au}(a:fY)(l o u:Sl)(rows:cR)(rs:List Sl)(op us:List Bool)(h:hY)(w:uR h p a l o u rows rs op us)(hs:n1 rows<=2^30)(a7:n1 op<=2^30):
  an xZ 362 #[xR (cO a)] h λv h'=>aP (λ_=>True) h h'/\v=xP xV (iC rows op us):=by
 refine ts Tryz.func362 ?_ (G7 (G7 (E8 (G7 (F8 (G0 [(22,aH)] [(4,6),(7,8),(22,49)] (G7 (G7 (E8 (F8 (G7 (G7 (F8 (G0 [(29,aH)] [(7,8),(29,48)] E9))))) E9)))))) (G7 (Hf [(8,aH),(54,aH)] [(8,11),(54,77)])))));refine⟨a,n2,o,w.c1,?_⟩;have a5:=w.sOp.len;refine Qw.run_make (f:=aq) af ⟨_,_,n2,n2,n2,n2,n2,n2⟩ n4 0 n2 n2 op.length op.length n3 n3 (qk _) n3 λs h1 H V a8 y a0=>?_;have X:=w.ac (y.mono λ_ _ _=>trivial);refine⟨a,n2,l,X.c0,?_⟩;have a3:=w.sRows.LL;have B:∀b,s.on b->b=h.size:=by rintro b ⟨o',M⟩;rw[V]at M;cases M;rfl
 have ad:∀k,((λ_ r=>r:Nat->aD->aD) k (rows.getD k [])).length<=64:=λk=>by
  show(rows.getD k []).length<=64;by_cases S:k<n1 rows
  .rw[qg,qd S];exact w.short _ (qf S)
  .rw[qg,zj n3];simp
 let d:=lr (λ_ r=>r) rows us (qi op.length 0);have K:∀k,(d k).length=n1 op:=λk=>by rw[Bf];simp
 have U:∀k,∀x∈d k,0<=x/\x<=64*k:=λk x hx=>Ml (λ_ r=>r) ad k x hx;refine ak (λk:Nat=>(k:Int)) (λk h'=>aP (λb=>b<h.size) h h'/\k<=n1 rows/\Own h' 3 s 1 aq (d k)) (λk=>n1 rows-k) 0 n2 ⟨y.mono λ_ _ _=>trivial,n3,H⟩ ?_;rintro i h2 ⟨G,hi,z⟩;have q:uR h2 p a l o u rows rs op us:=w.ac (G.mono λb e _=>e);refine ae (λO=>?_) (λJ=>?_)
 .have g:i<n1 rows:=n3
  have N:rows.getD i []=rows[i]:=by rw[qg,qd g];rfl
  have hu:us.getD i eL=us[i]'(by rw[w.ulen];exact g):=FW _;refine q.sRows.get i n2 g λr hr T=>?_;have a6:=hr.len;have R:=w.short _ (qf g);refine ak (λk:Nat=>(k:Int)) (λk h'=>aP (λb=>b<h.size) h h'/\k<=rows[i].length/\Own h' 3 s 1 aq (if us.getD i eL then d i else kA (d i) (rows[i].take k))) (λk=>rows[i].length-k) 0 n2
   ⟨G,n3,by simpa[kA]using z⟩ ?_
  rintro j h3 ⟨D,hj,c⟩;have t:uR h3 p a l o u rows rs op us:=w.ac (D.mono λb e _=>e);refine ae (λO=>?_) (λJ=>?_)
  .have E:j<rows[i].length:=n3
   have am:=t.sRows.row i r _ T (qd g);have hc:=w.de _ (qf g) _ (qf E);refine am.aX j n2 E _ n2 ?_;refine⟨a,n2,u,t.c2,?_⟩;refine t.sUs.aX i n2 (by rw[w.ulen];exact g) _ n2 ?_;rw[ag (j+1)];refine aI (λe=>?_) (λe=>?_)
   .rw[hu,e]at c;simp only[zg,if_false]at c;have I:(kA (d i) (rows[i].take j)).length=n1 op:=by rw[BR,K]
    have m:rows[i][j].toNat<(kA (d i) (rows[i].take j)).length:=by rw[I];omega
    have a1:=CW (r:=rows[i].take j) (U i) _ (qf m);have a4:(rows[i].take j).length<=64:=t6
    have W:Seq h3 (λ_=>True) s 1 aq (kA (d i) (rows[i].take j)):=c.seq (λ_=>rfl) λ_ _=>trivial;refine W.aX rows[i][j].toNat n3 m _ n2 ?_;rw[ag _];refine c.set af (λ_=>rfl) n2 rows[i][j].toNat n3 m _ n2 n2 n2 λh4 F Y ay=>?_;refine⟨j+1,n9,⟨D.then Y (λb e _=>λah=>by have:=B b ah;omega),n3,?_⟩,n3⟩;rw[hu,e];simp only[zg,if_false];rw[aC _ _ E,Oi,getD_lt m];exact F
   .refine⟨j+1,n9,⟨D,n3,?_⟩,n3⟩;rw[hu,e]at c⊢;exact c
  .rw[ag (i+1)];rw[qh n3]at c;refine⟨i+1,n9,⟨D,n3,?_⟩,n3⟩;have:d (i+1)=if us.getD i eL then d i else kA (d i) rows[i]:=by show lr _ _ _ _ (i+1)=_;rw[lr];simp only[N];rfl
   rw[this];exact c
 .have al:i=n1 rows:=n3
  subst al;refine⟨a,n2,o,q.c1,?_⟩;have L:Seq h2 (λ_=>True) s 1 aq (d rows.length):=z.seq (λ_=>rfl) λ_ _=>trivial;have ax:=K rows.length;refine ak (λk:Nat=>(iS op (d rows.length) k,(k:Int))) (λk h'=>h'=h2/\k<=n1 op) (λk=>n1 op-k) 0 n2 ⟨n2,n3⟩ ?_;rintro k h3 ⟨rfl,S⟩
  try dsimp only
  have a2:=QB op (d rows.length) k;refine ae (λO=>?_) (λJ=>?_)
  .have Q:k<n1 op:=n3
   refine q.sOp.aX k n2 Q _ n2 ?_;rw[ag (k+1)];have A:op.getD k eL=op[k]:=FW Q;refine aU (λe=>?_) (λe=>?_)
   .refine ae (λP=>?_) (λZ=>?_)
    .refine⟨k+1,?_,⟨n2,n3⟩,n3⟩;rw[iS,l0 (by rw[A,e,m9 P];rfl)];rfl
    .refine L.aX k n2 n3 _ n2 ?_;refine L.aX (iS op (d rows.length) k).toNat n3 n3 _ n2 ?_;have e1:(d rows.length).getD k 0=(d rows.length)[k]:=getD_lt;have e2:(d rows.length).getD (iS op (d rows.length) k).toNat 0=(d rows.length)[(iS op (d rows.length) k).toNat]:=getD_lt;refine ae (λab=>?_) (λap=>?_)
     .refine⟨k+1,?_,⟨n2,n3⟩,n3⟩;rw[iS,l0 (by rw[A,e,e1,e2,m9 ab];simp)];rfl
     .refine⟨k+1,?_,⟨n2,n3⟩,n3⟩;rw[iS,m6 (by rw[A,e,e1,e2,nb ap,nb Z];simp)];rfl
   .refine⟨k+1,?_,⟨n2,n3⟩,n3⟩;rw[iS,m6 (by rw[A,e];simp)];rfl
  .have ao:k=n1 op:=n3
   subst ao;exact⟨G.mono λb e _=>e,n2⟩
def ge(p:Int×Int):aR:=[xP xV p.1,xP xV p.2]
theorem Yn:∀x,∀c∈ge x,c.oneCell'=eH:=by intro x c a;simp only[ge,qQ,List.not_mem_nil,or_false]at a;rcases a with rfl|rfl<;>rfl
def BD(n:Int)(rows:cR):List (Int×Int)×aD×aD:=
 if jI n rows then((eN n.toNat rows).steps,(eN n.toNat rows).dead,fO (eN n.toNat rows).used rows.length)else([],[],[])
def acJ(b h:hY)(v:Value)(ok:Bool)(a:List (Int×Int))(c e:aD):Prop:=
 ∃s d f:Sl,v=.tuple #[xU #[s,d,f],xT ok]/\
  Sp b h [ai 338 s 2 ge a,ai 3 d 1 aq c,ai 3 f 1 aq e]
theorem aaE{α β γ:Type}{w h:hY}{c:Nat->Nat}{p r k j v q:Nat}{s:α->aR}{m:β->aR}{g:γ->aR}{u l t:Sl}{l1:List α}{l2:List β}{n:List γ}(o:my w h c)(f:dT h c 6 p u j s l1)(e:dT h c 7 r l v m l2)(a3:dT h c 8 k t q g n):
  Sp w h [ai p u j s l1,ai r l v m l2,ai k t q g n]:=by
 refine⟨λ_ h=>h,o.ac,λb=>c b-5,λb a=>?_,λi A d=>?_⟩
 .have:=o.aZ b a;(try dsimp only);omega
 .match i,d with
  |0,d=>simp at d;subst d;exact⟨f.own,λb a=>⟨f.own.lt a,by have:=f.aZ b a;(try dsimp only);omega⟩⟩
  |1,d=>simp at d;subst d;exact⟨e.own,λb a=>⟨e.own.lt a,by have:=e.aZ b a;(try dsimp only);omega⟩⟩
  |2,d=>simp at d;subst d;exact⟨a3.own,λb a=>⟨a3.own.lt a,by have:=a3.aZ b a;(try dsimp only);omega⟩⟩
  |i+3,d=>simp at d
theorem aaF{n:Int}{rows:cR}(h:jI n rows=eH):0<=n/\n<=64/\∀r∈rows,fI n r=eH:=by simp only[jI,qC,decide_eq_true_eq,qU]at h;exact⟨h.1.1,h.1.2,h.2⟩
theorem FX{n:Int}{r:aD}(h:fI n r=eH):∀c∈r,0<=c/\c<n:=by simp only[fI,qC,qU,decide_eq_true_eq]at h;exact h.1
theorem Kk:∀{r:aD} {a n:Int},fH r=eH->(∀c∈r,a<=c/\c<n)->(n1 r:Int)<=max 0 (n-a)
 |[],a,n,_,_=>n7
 |[x],a,n,_,h=>by have:=h x n9;simp;omega
 |x::y::t,a,n,hr,h=>by
  simp only[fH,qC,decide_eq_true_eq]at hr;have g:=h x n9;have f:=h y n9;have e:∀(l:aD) (z:Int),fH (z::l)=eH->∀c∈l,z<c:=by
   intro l
   induction l with
   |nil=>intro z _ c b;simp at b
   |cons w t ih=>
    intro z d c b;simp only[fH,qC,decide_eq_true_eq]at d;rcases qQ.1 b with rfl|b
    .exact d.1
    .have:=ih w d.2 c b;omega
  have:=Kk (r:=y::t) (a:=x+1) (n:=n) hr.2 λc b=>⟨by
   rcases qQ.1 b with rfl|b
   .omega
   .have:=e t y hr.2 c b;omega,(h c (by simp only[qQ]at b⊢;exact .inr b)).2⟩
  simp only[zc]at this⊢;omega
theorem VM{n:Int}{r:aD}(h:fI n r=eH)(c:n<=64):n1 r<=64:=by have b:=FX h;simp only[fI,qC]at h;have:=Kk (a:=0) h.2 b;omega
theorem Yo(n k:Nat)(h:k<n):(qi k eH++qi (n-k) eL).set k eH=qi (k+1) eH++qi (n-(k+1)) eL:=by
 have e:n-k=(n-(k+1))+1:=n3
 rw[za _ _ n9,e,List.replicate_succ];simp only[List.length_replicate,zh,zx];rw[List.replicate_succ' (n:=k)];simp
theorem Nt{h i:hY}{c:Nat->Nat}{a:fY}{l o u:Sl}{rows:cR}{rs:List Sl}{op us:List Bool}(m:gP i (λb=>b<i.size) l 1 aq rows rs)(j:my i h c)(e:kK h c 2 a 381 [l,o,u])
  (p:dT h c 3 4 o 1 fp op) (n:dT h c 4 4 u 1 fp us) (g:n1 us=n1 rows) (q:n1 op<=64) (k:∀r∈rows,fI op.length r=eH):uR h (λb=>b<h.size) a l o u rows rs op us:=
 ⟨e.box.cell0 n2,e.box.cell n2,e.box.cell n2,e.box.lt,(m.ac j.ac).mono λb f=>qY f j.ac.1,p.RC λ_=>rfl,n.RC λ_=>rfl,g,λr d=>FX (k r d),λr d=>VM (k r d) n3⟩
theorem VN(n:Int)(l:Sl)(rows:cR)(rs:List Sl)(h:hY)(hl:gP h (λb=>b<h.size) l 1 aq rows rs)(hs:n1 rows<=2^30)(d2:∀r∈rows,n1 r<=2^40):
  an xZ 304 #[xP xV n,l] h λv h'=>acJ h h' v (jI n rows) (BD n rows).1 (BD n rows).2.1 (BD n rows).2.2:=by
 refine ts Tryz.func304 ?_ (G7 (.scope 1 [] [(5,6),(9,14),(42,108)] [E9,(.join [(6,Zm)] [(6,7),(19,27)] E9),(.two E9 (.inn (.loop [(32,aH)] [(7,8),(32,42)] E9))),E9] [(.two E9 (.two (.join [] [(9,12),(48,88)] E9) E9))] [(0,[(.two (.two E9 (.inn (.loop [(93,aH)] [(12,14),(93,107)] E9))) E9)])])) [(3,(.y [0,1,3,4] (.l [2,5,6,7,8]) (.l [5,2,6,7,8])))];have er:=hl.LL;refine su af (my.refl h) 1 n2 λa1 h1 cf dr=>?_;have F:=(my.refl h).keep (m:=1) dr n4;refine(IV n l rows rs h1 (hl.ac F.ac) n3 d2).mono ?_;rintro v h2 ⟨rfl,rfl⟩;refine⟨_,n2,?_⟩;refine aI (λhr=>?_) (λhr=>?_)
 .refine cf.gx af n2 _ n2 n2 n2 (qk _) λh3 a4 E=>?_;refine⟨(⟨dB,0,0⟩,⟨dB,0,0⟩,⟨dB,0,0⟩),a4.box.aw _ n2,?_⟩;refine⟨⟨dB,0,0⟩,⟨dB,0,0⟩,⟨dB,0,0⟩,by rw[hr],?_⟩;simp only[BD,hr,zg,if_false];exact(((Sp.zip (F.keep (m:=1) E n4).ac).nil 338 2 ge).nil 3 1 aq).nil 3 1 aq
 .obtain⟨eq,e1,b5⟩:=aaF hr;obtain⟨N,rfl⟩:∃N:Nat,n=N:=⟨n.toNat,n3⟩
  have hN:N<=64:=n3
  refine bj (λs h'=>∃c a o u,s=cO a/\my h h' c/\kK h' c 1 a1 283 [xQ dB 0 0,xQ dB 0 0,xQ dB 0 0]/\kK h' c 2 a 381 [l,xQ o.ptr o.len o.cap,xQ u.ptr u.len u.cap]/\
   dT h' c 3 4 o 1 fp (qi N eL)/\dT h' c 4 4 u 1 fp (qi rows.length eL)) ⟨?_,?_⟩ ?_
  .refine uz af F 3 fp ⟨_,_,n2,n2,n2,n2,n2,n2⟩ n4 eL n2 n2 N n2 n2 n3 λo h3 ho E=>?_;refine⟨I4,?_⟩;refine uz af (F.keep (m:=3) E n4) 4 fp ⟨_,_,n2,n2,n2,n2,n2,n2⟩ n4 eL n2 n2 rows.length n3 n3 n3 λu h4 hu H=>?_;refine⟨I4,?_⟩;refine LO _ ((F.keep (m:=3) E n4).keep (m:=4) H n4) 2 λa h5 ha B=>?_;exact⟨I4,_,a,o,u,n2,((F.keep E n4).keep H n4).keep B n4,((cf.keep E n4).keep H n4).keep B n4,ha,(ho.keep H n4).keep B n4,hu.keep B n4⟩
  .refine uz af F 4 fp ⟨_,_,n2,n2,n2,n2,n2,n2⟩ n4 eL n2 n2 rows.length n3 n3 n3 λu h3 hu E=>?_;refine⟨I4,?_⟩;refine uz af (F.keep (m:=4) E n4) 3 fp ⟨_,_,n2,n2,n2,n2,n2,n2⟩ n4 eL n2 n2 N n2 n2 n3 λo h4 ho H=>?_;refine⟨I4,?_⟩;refine LO _ ((F.keep (m:=4) E n4).keep (m:=3) H n4) 2 λa h5 ha B=>?_;exact⟨I4,_,a,o,u,n2,((F.keep E n4).keep H n4).keep B n4,((cf.keep E n4).keep H n4).keep B n4,ha,ho.keep B n4,(hu.keep H n4).keep B n4⟩
  .rintro s h3 ⟨c,a,o,u,rfl,c0,bq,a4,a6,cr⟩;refine⟨a,n2,o,a4.box.cell n2,?_⟩;have et:o.len=N:=by rw[a6.own.len];simp
   refine ak (λt:Nat×(Nat->Nat)=>(t.1:Int)) (λt h'=>t.1<=N/\my h h' t.2/\kK h' t.2 1 a1 283 [xQ dB 0 0,xQ dB 0 0,xQ dB 0 0]/\kK h' t.2 2 a 381 [l,o,u]/\
    dT h' t.2 3 4 o 1 fp (qi t.1 eH++qi (N-t.1) eL)/\dT h' t.2 4 4 u 1 fp (qi rows.length eL)) (λt=>N-t.1) (0,c) n2 ⟨n9,c0,bq,a4,by simpa using a6,cr⟩ ?_
   rintro⟨k,c⟩ h4 ⟨hk,a9,b1,bk,br,b9⟩;dsimp only at*;refine ae (λea=>?_) (λd7=>?_)
   .have ei:k<N:=n3
    refine⟨a,n2,o,bk.box.cell n2,?_⟩;refine br.set af (λ_=>rfl) n2 k n2 n7 eH n2 n2 n2 λh5 bb B=>?_;rw[ag _];rw[Yo _ _ ei]at bb;exact⟨(k+1,_),n9,⟨n7,a9.keep B n4,b1.keep B n4,bk.keep B n4,bb,b9.keep B n4⟩,n7⟩
   .have d4:k=N:=n3
    subst d4;simp only[zh,List.replicate_zero,qR]at br;refine su af a9 5 n2 λap h5 d6 B=>?_;have ec:=a9.keep (m:=5) B n4;have dk:=b1.keep (m:=5) B n4;have d3:=bk.keep (m:=5) B n4;have bb:=br.keep (m:=5) B n4;have d5:=b9.keep (m:=5) B n4;clear a9 b1 bk br b9 c0 bq a4 a6 cr;generalize grow c h4.size 5=c5 at*;refine ak (τ:=Nat×List Bool×List Bool×(List (Int×Int))×aD×(Nat->Nat)×Sl×Sl) (λ_=>())
     (λ⟨f,op,us,st,dd,c,ss,ds⟩ h'=>n1 op=k/\us.length=n1 rows/\op.count eH<=f/\f<=k/\st.length<=k-f/\dd.length<=k-f/\
      (∃r,cA rows f op us=r/\eN k rows=⟨st++r.steps,dd++r.dead,r.used⟩)/\my h h' c/\
      kK h' c 1 a1 283 [xQ dB 0 0,xQ dB 0 0,xQ dB 0 0]/\kK h' c 2 a 381 [l,o,u]/\
      dT h' c 3 4 o 1 fp op/\dT h' c 4 4 u 1 fp us/\
      kK h' c 5 ap 283 [ss,ds,xQ dB 0 0]/\dT h' c 6 338 ss 2 ge st/\dT h' c 7 3 ds 1 aq dd)
     (λt=>t.1) (k,qi k eH,qi rows.length eL,[],[],c5,⟨dB,0,0⟩,⟨dB,0,0⟩) n2
     ⟨n9,n9,n9,n9,n9,n9,⟨_,n2,by simp[eN]⟩,ec,dk,d3,bb,d5,d6,dT.nil _ _ _ _ _ _,dT.nil _ _ _ _ _ _⟩ ?_
    rintro⟨f,op,us,st,dd,c,ss,ds⟩ h6 ⟨a2,L,ej,ew,en,ek,⟨r,a7,bd⟩,O,a3,T,ab,S,J,K,M⟩;dsimp only at*;have I:∀r∈rows,fI op.length r=eH:=by rw[a2];exact b5
    have a8:=Nt hl O T ab S L n3 I;refine⟨a,n2,o,T.box.cell n2,?_⟩;refine(DF o op eH h6 (ab.RC λ_=>rfl) n3).mono ?_;rintro v h7 ⟨rfl,rfl⟩;refine⟨_,n2,?_⟩;refine aI (λhc=>?_) (λhc=>?_)
    .have ad:op.contains eH=eL:=by simpa using hc
     have bq:r=⟨[],[],us⟩:=by rw[<-a7];exact uH ad f
     subst bq;simp only[qR]at bd;refine⟨a,n2,u,T.box.cell n2,?_⟩;have eo:u.len=n1 rows:=by rw[S.own.len,L]
     refine ak (λt:Nat×(Nat->Nat)×Sl=>(t.1:Int)) (λ⟨j,c,fs⟩ h'=>j<=n1 rows/\my h h' c/\
      kK h' c 1 a1 283 [xQ dB 0 0,xQ dB 0 0,xQ dB 0 0]/\dT h' c 4 4 u 1 fp us/\
      kK h' c 5 ap 283 [ss,ds,fs]/\dT h' c 6 338 ss 2 ge st/\dT h' c 7 3 ds 1 aq dd/\dT h' c 8 3 fs 1 aq (fO us j)) (λt=>n1 rows-t.1) (0,c,⟨dB,0,0⟩) n2
      ⟨n9,O,a3,S,J,K,M,dT.nil _ _ _ _ _ _⟩ ?_
     rintro⟨j,c,fs⟩ h8 ⟨hj,bl,b3,cc,X,a5,ao,ah⟩;dsimp only at*;refine ae (λea=>?_) (λd7=>?_)
     .have ep:j<n1 rows:=n3
      have es:(fO us j).length<=j:=En us j;refine(cc.RC λ_=>rfl).aX j n2 n3 _ n2 ?_;have cs:us.getD j eL=us[j]:=FW n3;rw[ag _];refine aI (λhb=>?_) (λhb=>?_)
      .refine⟨fs,X.box.cell n2,?_⟩;refine Fo af bl 9 aq ⟨_,_,n2,n2,n2,n2,n2,n2⟩ n2 [(j:Int)] n2 (zK n2) n2 λv h9 eb p=>?_;refine(ah.keep (m:=9) p n4).append af ⟨_,_,n2,n2,n2,n2,n2,n2⟩ ⟨_,_,n2,n2⟩ n2 n4 (λ_=>rfl) (eb.seq λ_=>rfl) cP n7 λd9 b7 cd g=>?_;refine((X.keep (m:=9) p n4).keep (m:=8) g n4).store af n2 2 _ n2 n2 n2 (zK n2) λc1 b6 d=>?_;refine⟨(j+1,_,d9),n9,⟨n7,((bl.keep p n4).keep g n4).keep d n4,((b3.keep p n4).keep g n4).keep d n4,((cc.keep p n4).keep g n4).keep d n4,b6,
        ((a5.keep p n4).keep g n4).keep d n4,((ao.keep p n4).keep g n4).keep d n4,?_⟩,n7⟩
       have e:fO us (j+1)=fO us j++[(j:Int)]:=by rw[fO,cs,hb];rfl
       rw[e];exact cd.keep d n4
      .have e:fO us (j+1)=fO us j:=by rw[fO,cs,hb];rfl
       exact⟨(j+1,c,fs),n9,⟨n7,bl,b3,cc,X,a5,ao,by rw[e];exact ah⟩,n7⟩
     .have ed:j=n1 rows:=n3
      subst ed;refine⟨(ss,ds,fs),X.box.aw _ n2,?_⟩;refine b3.gx af n2 _ n2 n2 n2 (qk _) λh9 c8 p=>?_;refine⟨(ss,ds,fs),c8.box.aw _ n2,?_⟩;refine⟨ss,ds,fs,by rw[hr],?_⟩;simp only[BD,hr,if_true,qj,bd];exact aaE (bl.keep (m:=1) p n4) (a5.keep (m:=1) p n4) (ao.keep (m:=1) p n4) (ah.keep (m:=1) p n4)
    .have ad:op.contains eH=eH:=by simpa using hc
     obtain⟨f',rfl⟩:∃f',f=f'+1:=by obtain⟨j,hj,e⟩:=CX ad;have:=jz e;exact⟨f-1,n3⟩
     refine aE ?_;refine(KI a l o u rows rs op us h7 a8 n3).mono ?_;rintro v h8 ⟨A,rfl⟩;have A:=A.aZ c 9;cases hst:lK rows op us with
     |some i=>
      obtain⟨hi,du⟩:=oR hst;obtain⟨e0,d0,a6⟩:=tQ du;have c2:rows.getD i []=rows[i]:=by rw[qg,qd hi];rfl
      have el:=FX (I _ (qf hi)) _ (c2▸d0);refine⟨((i,eT rows op i),eH),n2,?_⟩
      try dsimp only
      refine su af (O.keep (m:=9) A n4) 9 n2 λax h9 has p=>?_;refine has.gx af n2 _ n2 n2 n2 (qk _) λb7 R g=>?_;refine Fl n2 ?_;have G:=((O.keep (m:=9) A n4).keep (m:=9) p n4).keep (m:=9) g n4;have am:=((a3.keep (m:=9) A n4).keep (m:=9) p n4).keep (m:=9) g n4;have Z:=((T.keep (m:=9) A n4).keep (m:=9) p n4).keep (m:=9) g n4;have Y:=((ab.keep (m:=9) A n4).keep (m:=9) p n4).keep (m:=9) g n4;have V:=((S.keep (m:=9) A n4).keep (m:=9) p n4).keep (m:=9) g n4;have D:=((J.keep (m:=9) A n4).keep (m:=9) p n4).keep (m:=9) g n4;have P:=((K.keep (m:=9) A n4).keep (m:=9) p n4).keep (m:=9) g n4;have Q:=((M.keep (m:=9) A n4).keep (m:=9) p n4).keep (m:=9) g n4;clear O a3 T ab S J K M A p has a8;generalize grow (grow (grow c h7.size 9) h8.size 9) h9.size 9=c10 at*;refine⟨ss,D.box.cell0 n2,(_,_),R.box.aw _ n2,?_⟩
      try dsimp only
      refine Fo af G 10 ge ⟨_,_,n2,n2,n2,n2,n2,n2⟩ n2 [((i:Int),eT rows op i)] n2 (zK n2) n2 λv c1 cn d=>?_;refine(P.keep (m:=10) d n4).append af ⟨_,_,n2,n2,n2,n2,n2,n2⟩ ⟨_,_,n2,n2⟩ n2 n4 (λ_=>rfl) (cn.seq λ_=>rfl) Yn n7 λc9 d8 b0 q=>?_;refine((D.keep (m:=10) d n4).keep (m:=6) q n4).gx af n2 _ n2 n2 n2 (zK n2) λdx ca x=>?_;have U:=((R.keep (m:=10) d n4).keep (m:=6) q n4).keep (m:=5) x n4;have ay:=((Z.keep (m:=10) d n4).keep (m:=6) q n4).keep (m:=5) x n4;have c6:=((V.keep (m:=10) d n4).keep (m:=6) q n4).keep (m:=5) x n4;have ci:=((Y.keep (m:=10) d n4).keep (m:=6) q n4).keep (m:=5) x n4;refine⟨a,n2,u,ay.box.cell n2,(i:Int),U.box.cell0 n2,a,n2,o,ay.box.cell n2,eT rows op i,U.box.cell n2,?_⟩;refine c6.set af (λ_=>rfl) n2 i n2 n3 eH n2 n2 n2 λef c7 z=>?_;have a0:=U.keep (m:=4) z n4;have W:=ay.keep (m:=4) z n4;refine⟨⟨a0.box.cell n2,I4⟩,?_⟩;refine(ci.keep (m:=4) z n4).set af (λ_=>rfl) n2 (eT rows op i).toNat n3 n3 eL n2 n2 n2 λda al w=>?_;have dy:=a0.keep (m:=3) w n4;have cq:=W.keep (m:=3) w n4;refine⟨I4,?_⟩;have eg:=jz (op:=op) (j:=(eT rows op i).toNat) a6;rw[mE ad hst]at a7;refine⟨(f',op.set (eT rows op i).toNat eL,us.set i eH,st++[((i:Int),eT rows op i)],dd,_,c9,ds),n2,⟨by simp[a2],by simp[L],n5,n5,n7,n5,⟨_,n2,?_⟩,
       ((((G.keep d n4).keep q n4).keep x n4).keep z n4).keep w n4,
       ((((am.keep d n4).keep q n4).keep x n4).keep z n4).keep w n4,
       cq,al,c7.keep w n4,(ca.keep z n4).keep w n4,((b0.keep x n4).keep z n4).keep w n4,
       ((((Q.keep d n4).keep q n4).keep x n4).keep z n4).keep w n4⟩,n5⟩
      rw[bd,<-a7];simp
     |none=>
      have eh:=rG (rows:=rows) (us:=us) ad;refine⟨((0,0),eL),n2,?_⟩
      try dsimp only
      refine su af (O.keep (m:=9) A n4) 9 n2 λax h9 has p=>?_;refine has.gx af n2 _ n2 n2 n2 (qk _) λb7 R g=>?_;refine rX n2 ?_;have G:=((O.keep (m:=9) A n4).keep (m:=9) p n4).keep (m:=9) g n4;have am:=((a3.keep (m:=9) A n4).keep (m:=9) p n4).keep (m:=9) g n4;have Z:=((T.keep (m:=9) A n4).keep (m:=9) p n4).keep (m:=9) g n4;have Y:=((ab.keep (m:=9) A n4).keep (m:=9) p n4).keep (m:=9) g n4;have V:=((S.keep (m:=9) A n4).keep (m:=9) p n4).keep (m:=9) g n4;have D:=((J.keep (m:=9) A n4).keep (m:=9) p n4).keep (m:=9) g n4;have P:=((K.keep (m:=9) A n4).keep (m:=9) p n4).keep (m:=9) g n4;have Q:=((M.keep (m:=9) A n4).keep (m:=9) p n4).keep (m:=9) g n4;clear O a3 T ab S J K M A p has a8;generalize grow (grow (grow c h7.size 9) h8.size 9) h9.size 9=c10 at*;have a8:=Nt hl G Z Y V L n3 I;refine(KJ a l o u rows rs op us b7 a8 n3 n3).mono ?_;rintro v c1 ⟨d,rfl⟩;have d:=d.aZ c10 9;refine⟨_,n2,?_⟩;refine⟨ds,(D.keep (m:=9) d n4).box.cell n2,?_⟩;refine Fo af (G.keep (m:=9) d n4) 10 aq ⟨_,_,n2,n2,n2,n2,n2,n2⟩ n2 [iC rows op us] n2 (zK n2) n2 λv d8 c4 q=>?_;refine((Q.keep (m:=9) d n4).keep (m:=10) q n4).append af ⟨_,_,n2,n2,n2,n2,n2,n2⟩ ⟨_,_,n2,n2⟩ n2 n4 (λ_=>rfl) (c4.seq λ_=>rfl) cP n7 λd1 dx b4 x=>?_;refine(((D.keep (m:=9) d n4).keep (m:=10) q n4).keep (m:=7) x n4).store af n2 1 _ n2 n2 n2 (zK n2) λef b2 z=>?_;have W:=(((Z.keep (m:=9) d n4).keep (m:=10) q n4).keep (m:=7) x n4).keep (m:=5) z n4;have cp:=(((Y.keep (m:=9) d n4).keep (m:=10) q n4).keep (m:=7) x n4).keep (m:=5) z n4;refine⟨a,n2,o,W.box.cell n2,?_⟩;refine cp.set af (λ_=>rfl) n2 (iC rows op us).toNat n3 n3 eL n2 n2 n2 λda al w=>?_;have eg:=jz (op:=op) (j:=(iC rows op us).toNat) eh.2.2;rw[ot ad hst]at a7;refine⟨(f',op.set (iC rows op us).toNat eL,us,st,dd++[iC rows op us],_,ss,d1),n2,⟨by simp[a2],L,n5,n5,n5,n7,⟨_,n2,?_⟩,
       ((((G.keep d n4).keep q n4).keep x n4).keep z n4).keep w n4,
       ((((am.keep d n4).keep q n4).keep x n4).keep z n4).keep w n4,
       W.keep w n4,al,((((V.keep d n4).keep q n4).keep x n4).keep z n4).keep w n4,b2.keep w n4,
       ((((P.keep d n4).keep q n4).keep x n4).keep z n4).keep w n4,
       (b4.keep z n4).keep w n4⟩,n5⟩
      rw[bd,<-a7];simp
theorem HE(pool:List (Sl×Row))(d:(⟨dB,0,0⟩,[])∈pool)(n:Nat):cb pool id (qi n ⟨dB,0,0⟩) (qi n []):=
 ⟨n9,λi r l a b=>by
  rw[wJ]at a b;split at a
  .rename_i c;rw[l0 c]at b;cases a;cases b;exact d
  .cases a⟩
theorem aa.aaG{B:au}{b h:hY}{As:List HP}(H:aa B b h As)(i:Nat){pool:List (Sl×Row)}(d:As[i]?=cO (fP pool)):aa B b h (As.set i (fP ((⟨dB,0,0⟩,[])::pool))):=
 H.dG i d λq c x a=>by
  rcases qQ.1 a with rfl|a
  .exact Seq.nil _ _ _ _ _ _
  .exact c x a
structure SU (h:hY) (f:fY) (r st dd lf:Sl) (rr:List (Sl×Sl)) (R:List fm) (ST:List (Int×Int)) (D L:aD):Prop where
 field:ig h f
 rest:gA kh 2 qv h r rr R
 steps:Rd h st 2 ge ST
 dead:Rd h dd 1 aq D
 left:Rd h lf 1 aq L
abbrev SA(s:fY)(a:aR):HP:=aj s 285 a
abbrev HA(s:Sl)(rs:List Sl):HP:=ai 41 s 1 bv rs
abbrev RA(s:Sl)(l:Row):HP:=ai 5 s 1 ar l
theorem Kl{R:cR}:∀{l1 l2:List (Int×Int)} {D:Int->Prop},rI R D (l1++l2)->rI R D l1/\rI R (λx=>D x∨∃i,(i,x)∈l1) l2
 |[],l2,D,h=>⟨I4,by
  have:(λx=>D x∨∃i,(i,x)∈([]:List (Int×Int)))=D:=by funext x;simp
  rw[this];exact h⟩
 |(i,c)::l1,l2,D,h=>by
  obtain⟨a,b,k,d,e⟩:=h;obtain⟨f,g⟩:=Kl e;refine⟨⟨a,b,k,d,f⟩,?_⟩;have:(λx=>D x∨∃j,(j,x)∈(i,c)::l1)=λx=>(D x∨x=c)∨∃j,(j,x)∈l1:=by
   funext x;simp only[qQ,Prod.mk.injEq,eq_iff_iff];constructor
   .rintro(h|⟨j,⟨_,h⟩|h⟩)
    .exact .inl (.inl h)
    .exact .inl (.inr h)
    .exact .inr ⟨j,h⟩
   .rintro((h|h)|⟨j,h⟩)
    .exact .inl h
    .exact .inr ⟨i,.inl ⟨n2,h⟩⟩
    .exact .inr ⟨j,.inr h⟩
  rw[this];exact g
theorem Pa(s f:fY)(p:Int×Int×Int)(v r U dd W S Q:Sl)(n:Nat)(pool:List (Sl×Row))(H:aa B h0 h (SA s (il f p v r U dd W S Q)::fP pool::As))(m:v.len=n)(hn:n<=64){K:Unit->hY->Prop}
  (N:∀k d h',k.len=n->d.len=n->aa B h0 h' (SA s (il f p v r U dd W k d)::HA k (qi n ⟨dB,0,0⟩)::HA d (qi n ⟨dB,0,0⟩)::fP pool::As)->K () h'):(λ(c:bK) (P:Unit->hY->Prop)=>
 ∃a3:fY,(c=cO a3)/\
 ∃b:Sl,hU h (a3.add 4)=cO (xQ b.ptr b.len b.cap)/\
 ∃a5:fY,(c=cO a5)/\
 ∃a:Sl,hU h (a5.add 4)=cO (xQ a.ptr a.len a.cap)/\
 (bC xZ (zF 98 (xP xV ((b.len:Nat):Int)) (xP xV ((b.len:Nat):Int))) (.one (.sc .slc)) h λy D=>
 (bF.ok [(a5.add 4,(xQ a.ptr a.len a.cap)),(a3.add 4,(xQ b.ptr b.len b.cap))] D)/\
 ∃R:fY,(c=cO R)/\
 (bC xZ (zF 98 (xP xV ((a.len:Nat):Int)) (xP xV ((a.len:Nat):Int))) (.one (.sc .slc)) D λv9 I=>
 (bF.ok [(a5.add 4,(xQ a.ptr a.len a.cap)),(a3.add 4,(xQ b.ptr b.len b.cap))] I)/\
 av xZ (qL 98 (xR (cO (R.add 9))) (xQ y.ptr y.len y.cap)) I λ_ h3=>
 (bF.ok [] h3)/\
 ∃L:fY,(c=cO L)/\
 av xZ (qL 98 (xR (cO (L.add 10))) (xQ v9.ptr v9.len v9.cap)) h3 λ_ q=>
 (bF.ok [] q)/\
 P () q)/\(av xZ (qL 98 (xR (cO (R.add 9))) (xQ y.ptr y.len y.cap)) D λ_ V=>
 (bF.ok [] V)/\
 bC xZ (zF 98 (xP xV ((a.len:Nat):Int)) (xP xV ((a.len:Nat):Int))) (.one (.sc .slc)) V λx X=>
 (bF.ok [] X)/\
 ∃A:fY,(c=cO A)/\
 av xZ (qL 98 (xR (cO (A.add 10))) (xQ x.ptr x.len x.cap)) X λ_ Z=>
 (bF.ok [] Z)/\
 P () Z))/\(bC xZ (zF 98 (xP xV ((a.len:Nat):Int)) (xP xV ((a.len:Nat):Int))) (.one (.sc .slc)) h λt h8=>
 (bF.ok [(a5.add 4,(xQ a.ptr a.len a.cap)),(a3.add 4,(xQ b.ptr b.len b.cap))] h8)/\
 bC xZ (zF 98 (xP xV ((b.len:Nat):Int)) (xP xV ((b.len:Nat):Int))) (.one (.sc .slc)) h8 λu T=>
 (bF.ok [(a5.add 4,(xQ a.ptr a.len a.cap)),(a3.add 4,(xQ b.ptr b.len b.cap))] T)/\
 ∃G:fY,(c=cO G)/\
 av xZ (qL 98 (xR (cO (G.add 9))) (xQ u.ptr u.len u.cap)) T λ_ F=>
 (bF.ok [] F)/\
 ∃E:fY,(c=cO E)/\
 av xZ (qL 98 (xR (cO (E.add 10))) (xQ t.ptr t.len t.cap)) F λ_ J=>
 (bF.ok [] J)/\
 P () J)) (cO s) K:=by
 have Y:=H.box 0 n2;refine⟨s,n2,v,Y.cell n2,s,n2,v,Y.cell n2,?_,?_⟩
 .refine H.make af bv cM n4 ⟨dB,0,0⟩ n2 n2 n n B3 B3 (qk _) n3 λk D o O l=>?_;have l:=l.bf;have j:=l.box 1 n2;refine⟨⟨j.cell n2,j.cell n2,I4⟩,s,n2,?_,?_⟩
  .refine l.make af bv cM n4 ⟨dB,0,0⟩ n2 n2 n n B3 B3 (qk _) n3 λd I e M g=>?_;have g:=g.bf;have i:=g.box 2 n2;refine⟨⟨i.cell n2,i.cell n2,I4⟩,?_⟩;refine g.store af 2 n2 n2 9 [k] n2 n2 n2 A7 λh3 w=>⟨I4,s,n2,?_⟩
   refine w.store af 2 n2 n2 10 [d] n2 n2 n2 A7 λq z=>⟨I4,?_⟩
   exact N k d q o e (z.aF 4 [2,1,0,3])
  .refine l.store af 1 n2 n2 9 [k] n2 n2 n2 A7 λI g=>⟨I4,?_⟩
   refine g.make af bv cM n4 ⟨dB,0,0⟩ n2 n2 n n B3 B3 (qk _) n3 λd h3 e M w=>⟨I4,s,n2,?_⟩
   have w:=w.bf;refine w.store af 2 n2 n2 10 [d] n2 n2 n2 A7 λq z=>⟨I4,?_⟩
   exact N k d q o e (z.aF 4 [2,1,0,3])
 .refine H.make af bv cM n4 ⟨dB,0,0⟩ n2 n2 n n B3 B3 (qk _) n3 λd D o O l=>?_;have l:=l.bf;have j:=l.box 1 n2;refine⟨⟨j.cell n2,j.cell n2,I4⟩,?_⟩;refine l.make af bv cM n4 ⟨dB,0,0⟩ n2 n2 n n B3 B3 (qk _) n3 λk I e M g=>?_;have g:=g.bf;have i:=g.box 2 n2;refine⟨⟨i.cell n2,i.cell n2,I4⟩,s,n2,?_⟩;refine g.store af 2 n2 n2 9 [k] n2 n2 n2 A7 λh3 w=>⟨I4,s,n2,?_⟩
  refine w.store af 2 n2 n2 10 [d] n2 n2 n2 A7 λq z=>⟨I4,?_⟩
  exact N k d q e o (z.aF 4 [2,0,1,3])
theorem VO(n nd w:Nat)(d:aD):(fZ n nd w d).1.length=n/\(fZ n nd w d).2.length=n:=by
 unfold fZ;have:∀(l:List (Int×Nat)) (s:aO×aO),(l.foldl (λs p=>(s.1.set p.1.toNat (nI nd p.2),s.2.set p.1.toNat (aN w))) s).1.length=n1 s.1/\(l.foldl (λs p=>(s.1.set p.1.toNat (nI nd p.2),s.2.set p.1.toNat (aN w))) s).2.length=n1 s.2:=by
  intro l
  induction l with
  |nil=>intro s;exact⟨n2,n2⟩
  |cons a l ih=>intro s;rw[zS];have:=ih (s.1.set a.1.toNat (nI nd a.2),s.2.set a.1.toNat (aN w));simpa using this
 have:=this d.zipIdx (qi n [],qi n []);simpa using this
abbrev Told(s f:fY)(p:Int×Int×Int)(v r d e h b a:Sl)(c g:List Sl)(pl:List (Sl×Row)):List HP:=[SA s (il f p v r d e h b a),HA b c,HA a g,fP pl]
theorem SV(s f:fY)(p:Int×Int×Int)(v r st O lf wa V:Sl)(I mr:List Sl)(pl:List (Sl×Row))(c:Int)(nd w:Nat)(H:aa B h0 h (Told s f p v r st O lf wa V I mr pl++As))(ap:0<=c)(hw:c.toNat<n1 I)(hm:c.toNat<n1 mr)(Y:p.2.2=w)(hd:O.len=nd)(ax:nd<=64)(N:w<=2^20){K:Unit->hY->Prop}
  (hk:∀a b h',aa B h0 h' (RA a (aN nd)::RA b (aN w)::(Told s f p v r st O lf wa V (I.set c.toNat a) (mr.set c.toNat b) pl++As))->K () h'):(λ(P:bK) (K3:Unit->hY->Prop)=>
 ∃o:fY,(P=cO o)/\
 ∃g:Sl,hU h (o.add 9)=cO (xQ g.ptr g.len g.cap)/\
 ∃a25:fY,(P=cO a25)/\
 ∃d:Sl,hU h (a25.add 10)=cO (xQ d.ptr d.len d.cap)/\
 ∃R:fY,(P=cO R)/\
 ∃j:Int,hU h ((R.add 1).add 2)=cO (xP xV j)/\
 (bC xZ (zF 41 (xP xV ((O.len:Nat):Int)) (xP xV ((O.len:Nat):Int))) (.one (.sc .slc)) h λl W=>
 (bF.ok [((R.add 1).add 2,(xP xV j)),(a25.add 10,(xQ d.ptr d.len d.cap)),(o.add 9,(xQ g.ptr g.len g.cap))] W)/\
 ∃Q:fY,(g.ptr=cO Q/\0<=c/\c<((g.len:Nat):Int))/\
 (bC xZ (zF 41 (xP xV j) (xP xV j)) (.one (.sc .slc)) W λU ab=>
 (bF.ok [(a25.add 10,(xQ d.ptr d.len d.cap)),(o.add 9,(xQ g.ptr g.len g.cap))] ab)/\
 av xZ (qL 41 (xR (cO (Q.add (c.toNat*1)))) (xQ l.ptr l.len l.cap)) ab λ_ E=>
 (bF.ok [] E)/\
 ∃z:fY,(d.ptr=cO z/\0<=c/\c<((d.len:Nat):Int))/\
 av xZ (qL 41 (xR (cO (z.add (c.toNat*1)))) (xQ U.ptr U.len U.cap)) E λ_ A=>
 (bF.ok [] A)/\
 K3 () A)/\(av xZ (qL 41 (xR (cO (Q.add (c.toNat*1)))) (xQ l.ptr l.len l.cap)) W λ_ u=>
 (bF.ok [] u)/\
 bC xZ (zF 41 (xP xV j) (xP xV j)) (.one (.sc .slc)) u λk D=>
 (bF.ok [] D)/\
 ∃F:fY,(d.ptr=cO F/\0<=c/\c<((d.len:Nat):Int))/\
 av xZ (qL 41 (xR (cO (F.add (c.toNat*1)))) (xQ k.ptr k.len k.cap)) D λ_ t=>
 (bF.ok [] t)/\
 K3 () t))/\(bC xZ (zF 41 (xP xV j) (xP xV j)) (.one (.sc .slc)) h λM am=>
 (bF.ok [(a25.add 10,(xQ d.ptr d.len d.cap)),(o.add 9,(xQ g.ptr g.len g.cap))] am)/\
 bC xZ (zF 41 (xP xV ((O.len:Nat):Int)) (xP xV ((O.len:Nat):Int))) (.one (.sc .slc)) am λT ah=>
 (bF.ok [(a25.add 10,(xQ d.ptr d.len d.cap)),(o.add 9,(xQ g.ptr g.len g.cap))] ah)/\
 ∃Z:fY,(g.ptr=cO Z/\0<=c/\c<((g.len:Nat):Int))/\
 av xZ (qL 41 (xR (cO (Z.add (c.toNat*1)))) (xQ T.ptr T.len T.cap)) ah λ_ ad=>
 (bF.ok [] ad)/\
 ∃ao:fY,(d.ptr=cO ao/\0<=c/\c<((d.len:Nat):Int))/\
 av xZ (qL 41 (xR (cO (ao.add (c.toNat*1)))) (xQ M.ptr M.len M.cap)) ad λ_ al=>
 (bF.ok [] al)/\
 K3 () al)) (cO s) K:=by
 have hb:=H.box 0 n2;have mk:∀{X:hY} {Cs:List HP} (m:Nat) (hm:m<=2^20) {z1 z2:Int},z1=(m:Int)->z2=(m:Int)->aa B h0 X Cs->∀{K:Sl->hY->Prop},(∀a h',aa B h0 h' (RA a (aN m)::Cs)->K a h')->
   bC xZ (zF 41 (xP xV z1) (xP xV z2)) (.one (.sc .slc)) X K:=by
  intro X Cs m hm z1 z2 e1 e2 G K hK;subst e1;subst e2;exact G.make af ar cN n4 0 n2 n2 m m n2 n2 (qk _) n3 λa h' _ _ H'=>hK a h' H'.bf
 refine⟨s,n2,wa,hb.cell n2,s,n2,V,hb.cell n2,s,n2,p.2.2,show hU h (s.add 3)=_ from hb.cell n2,?_,?_⟩
 .refine mk nd n3 (by rw[hd]) (by rw[hd]) H λa X G=>?_;have n:=G.box 1 n2;refine⟨⟨show hU X (s.add 3)=_ from n.cell n2,n.cell n2,n.cell n2,I4⟩,?_⟩;have y:∀{h2:hY} {Cs:List HP} {I:List Sl} (i:Nat) (a:Sl) {s':Sl},aa B h0 h2 Cs->Cs[i]?=cO (HA s' I)->c.toNat<n1 I->∀{K:hY->Prop},(∀h',aa B h0 h' (Cs.set i (HA s' (I.set c.toNat a)))->K h')->∃x:fY,(s'.ptr=cO x/\0<=c/\c<((s'.len:Nat):Int))/\av xZ (qL 41 (xR (cO (x.add (c.toNat*1)))) (xQ a.ptr a.len a.cap)) h2 λ_ h'=>K h':=by intro h2 Cs I i a s' L hi hl K hK;exact L.set af i hi (λ_=>rfl) n2 c.toNat n3 hl a n2 n2 n2 λh3 S=>hK h3 S
  obtain⟨x,hx,-⟩:=y (K:=λ_=>True) 2 a G rfl hw λ_ _=>trivial;refine⟨x,hx,?_,?_⟩
  .refine mk w N Y Y G λb h2 L=>?_;have q:=L.box 2 n2;refine⟨⟨q.cell n2,q.cell n2,I4⟩,?_⟩;obtain⟨x',J,hr⟩:=y (K:=λE=>bF.ok [] E/\∃z:fY,(V.ptr=cO z/\0<=c/\c<((V.len:Nat):Int))/\
 av xZ (qL 41 (xR (cO (z.add (c.toNat*1)))) (xQ b.ptr b.len b.cap)) E λ_ A=>(bF.ok [] A)/\K () A) 3 a L n2 hw λh3 S=>⟨I4,y 4 b S n2 hm λh4 H4=>⟨I4,hk a b h4 (H4.aF 6 [1,0,2,3,4,5])⟩⟩
   have e:x=x':=wm.inj (hx.1.symm.trans J.1);subst e;exact hr
  .obtain⟨x',J,hr⟩:=y (K:=λu=>bF.ok [] u/\bC xZ (zF 41 (xP xV p.2.2) (xP xV p.2.2)) (.one (.sc .slc)) u λk D=>
 (bF.ok [] D)/\
 ∃F:fY,(V.ptr=cO F/\0<=c/\c<((V.len:Nat):Int))/\
 av xZ (qL 41 (xR (cO (F.add (c.toNat*1)))) (xQ k.ptr k.len k.cap)) D λ_ t=>
 (bF.ok [] t)/\K () t) 2 a G n2 hw λh3 S=>⟨I4,mk w N Y Y S λb h4 H4=>⟨I4,y 4 b H4 n2 hm λh5 H5=>⟨I4,hk a b h5 (H5.aF 6 [1,0,2,3,4,5])⟩⟩⟩
   have e:x=x':=wm.inj (hx.1.symm.trans J.1);subst e;exact hr
 .refine mk w N Y Y H λb X G=>?_;have n:=G.box 1 n2;refine⟨⟨n.cell n2,n.cell n2,I4⟩,?_⟩;refine mk nd n3 (by rw[hd]) (by rw[hd]) G λa h2 L=>?_;have q:=L.box 2 n2;refine⟨⟨q.cell n2,q.cell n2,I4⟩,?_⟩;refine L.set af 3 n2 (λ_=>rfl) n2 c.toNat n3 hw a n2 n2 n2 λh3 S=>⟨I4,?_⟩
  refine S.set af 4 n2 (λ_=>rfl) n2 c.toNat n3 hm b n2 n2 n2 λh4 H4=>⟨I4,hk a b h4 (H4.aF 6 [0,1,2,3,4,5])⟩
theorem Nu{h:hY}{Cs:List HP}(x:Sl)(m:Row)(nd:Nat)(z:Int)(H:aa B h0 h Cs)(v:z=nd)(A:nd<=64)(E:n1 m<=2^20){L L2:bF}(w:L.ok h)(n:L2.ok h)(q:St B h0 Cs λh=>Rd h x 1 ar m){K:Sl->Sl->hY->Prop}
  (s:∀a b h',aP (λb=>b<h.size) h h'->aa B h0 h' (RA a (aN nd)::RA b m::Cs)->K a b h'):
  (bC xZ (zF 41 (xP xV z) (xP xV z)) (.one (.sc .slc)) h λp d=>
 (bF.ok L d)/\
 jV xZ 199 #[(xQ x.ptr x.len x.cap)] (.one (.sc .slc)) d λg j=>K p g j)/\(jV xZ 199 #[(xQ x.ptr x.len x.cap)] (.one (.sc .slc)) h λk e=>
 (bF.ok L2 e)/\
 bC xZ (zF 41 (xP xV z) (xP xV z)) (.one (.sc .slc)) e λi f=>K i k f):=by
 subst v;constructor
 .refine H.Ee af ar cN n4 0 n2 n2 nd nd n2 n2 (qk _) n3 λa r _ u c=>⟨gI u w,?_⟩
  have c:=c.bf;refine(fT x m r (q.at [_] c)).I2 λb l t=>⟨b,n2,s a b l (up u t.ac) ((c.bV t).nt)⟩
 .refine(fT x m h (q.at [] H)).I2 λb r o=>?_;have c:=H.bV o;refine⟨b,n2,gI o.ac n,?_⟩;refine c.Ee af ar cN n4 0 n2 n2 nd nd n2 n2 (qk _) n3 λa l _ D y=>?_;exact s a b l (up o.ac D) y.bf
structure lZ (pool pl:List (Sl×Row)) (wr mr:List Sl) (W M:aO):Prop where
 sub:∀x∈pool,x∈pl
 way:cb pl id wr W
 more:cb pl id mr M
theorem lZ.step{pool pl:List (Sl×Row)}{e f:List Sl}{W M:aO}(x:lZ pool pl e f W M)(c:Nat)(a b:Sl)(l m:Row):lZ pool ((b,m)::(a,l)::pl) (e.set c a) (f.set c b) (W.set c l) (M.set c m):=
 ⟨λy d=>by simp[x.sub y d],(x.way.mono λy d=>Bk).set c n9,(x.more.mono λy d=>Bk).set c n9⟩
theorem SX(s f:fY)(p:Int×Int×Int)(v r A o E a7 ax:Sl)(rr:List (Sl×Sl))(R:List fm)(ST:List (Int×Int))(D L:aD)(n nd w:Nat)(pool:List (Sl×Row))(H:aa B h0 h (SA s (il f p v r A o E a7 ax)::fP pool::As))(X:St B h0 As λh=>SU h f r A o E rr R ST D L)
  (hv:v.len=n) (hn:n<=64) (hp:p.2.2=w) (hw:w<=2^20) (b5:n1 D=nd) (ab:nd<=64) (hR:∀e∈R,iW n w e) (hD:∀c∈D,0<=c/\c<(n:Int)) (b9:D.Nodup) (hg:rI (R.map qF) (·∈D) ST) (ca:n1 ST<=2^20) (b6:∀e∈R,n1 e.1<=2^20) (a3:(⟨dB,0,0⟩,[])∈pool):
  an xZ 247 #[xR (cO s)] h λv' h'=>v'=.tuple #[]/\∃d k z u pl,aa B h0 h' (Told s f p v r A o E d k z u pl++As)/\lZ pool pl z u (ST.foldl (gZ R nd) (fZ n nd w D)).1 (ST.foldl (gZ R nd) (fZ n nd w D)).2:=by
 refine ts Tryz.func247 ?_ (G7 (HF [] [(18,36)] (E8 (G7 (F8 (G0 [(42,aH)] [(3,5),(42,77)] (G7 (G7 (E8 (F8 (G7 (HF [] [(47,67)] E9))) E9)))))) (G7 (F8 (G0 [(83,aH)] [(6,10),(11,12),(83,134)] (G7 (G7 (E8 (F8 (G7 (HF [(7,(.sc .adr))] [(7,8),(87,95)] (HF [(8,bN),(9,bN)] [(8,10),(95,100)] (Hf [(103,aH)] [(11,12),(103,117)]))))) E9))))))))) [(1,(.y [0,1,2,3,4,5,6,8,9,10,11,12] (.y [7,14,15] (.l [13,16,17,18,19]) (.l [16,13,17,18,19])) (.l [13,7,14,15,16,17,18,19]))),(5,(.y [0,1,2,3,4,5,6,7,8,9,10,12,13,14,15,16] (.y [11,18] (.l [17,19,20,21]) (.l [19,17,20,21])) (.l [17,11,18,19,20,21]))),(12,(.y [0,2,3] (.l [1,4,5,6]) (.l [4,1,5,6])))];have hb:=H.box 0 n2;have a5:o.len=nd:=by rw[(X.at [_,_] H).dead.len,b5]
 refine⟨s,n2,o,show hU h (s.add 7)=_ from hb.cell n2,?_⟩;refine bj (λ_ h'=>∃d k,d.len=n/\k.len=n/\aa B h0 h' (Told s f p v r A o E d k (qi n ⟨dB,0,0⟩) (qi n ⟨dB,0,0⟩) pool++As)) ?_ ?_
 .exact Pa (K:=λ_ h'=>∃d k,d.len=n/\k.len=n/\aa B h0 h' (Told s f p v r A o E d k (qi n ⟨dB,0,0⟩) (qi n ⟨dB,0,0⟩) pool++As)) s f p v r A o E a7 ax n pool H hv hn λd k h' h1 h2 N=>⟨d,k,h1,h2,N⟩
 rintro-h1 ⟨d,k,cq,cs,H1⟩;have br:=H1.box 0 n2;refine⟨s,n2,o,show hU h1 (s.add 7)=_ from br.cell n2,?_⟩;refine ak (λt:Nat×List Sl×List Sl×List (Sl×Row)=>(t.1:Int)) (λt h'=>t.1<=nd/\aa B h0 h' (Told s f p v r A o E d k t.2.1 t.2.2.1 t.2.2.2++As)/\lZ pool t.2.2.2 t.2.1 t.2.2.1 (fZ n nd w (D.take t.1)).1 (fZ n nd w (D.take t.1)).2) (λt=>nd-t.1)
  (0,qi n ⟨dB,0,0⟩,qi n ⟨dB,0,0⟩,pool) n2 ⟨n3,H1,⟨λ_ h=>h,HE pool a3 n,HE pool a3 n⟩⟩ ?_
 rintro⟨i,z,u,pl⟩ h2 ⟨hi,H2,T2⟩;dsimp only at*;have b2:=VO n nd w (D.take i);have P:=T2.way.1;have Q:=T2.more.1;refine ae (λe=>?_) (λe=>?_)
 .have Y:i<nd:=n3
  have V:=hD _ (qf (show i<n1 D by omega));refine(X.at [_,_,_,_] H2).dead.aX i n2 n3 _ n2 ?_;refine bj (λ_ h'=>∃a b,aa B h0 h' (RA a (aN nd)::RA b (aN w)::(Told s f p v r A o E d k (z.set D[i].toNat a) (u.set D[i].toNat b) pl++As))) ?_ ?_
  .exact SV (K:=λ_ h'=>∃a b,aa B h0 h' (RA a (aN nd)::RA b (aN w)::(Told s f p v r A o E d k (z.set D[i].toNat a) (u.set D[i].toNat b) pl++As))) s f p v r A o E d k z u pl D[i] nd w H2 V.1 n3 n3 hp a5 ab hw λa b h' N=>⟨a,b,N⟩
  rintro-h3 ⟨a,b,H3⟩;refine⟨s,n2,d,(H3.box 2 n2).cell n2,?_⟩;refine(H3.seq 3 n2 λ_=>rfl).lm D[i].toNat n3 n7 ?_;rw[wD];refine H3.set af 0 n2 (λ_=>rfl) n2 i n2 (by simp[aN];omega) 1 n2 n2 n2 λh4 H4=>?_;have H5:=(H4.freeze 0 n2 λ_=>rfl).pool 5 0 n4 n2 n2;have H6:=(H5.freeze 1 n2 λ_=>rfl).pool 5 1 n4 n2 n2;refine⟨(i+1,z.set D[i].toNat a,u.set D[i].toNat b,_),n8,⟨n5,H6.aF 6 [2,3,4,5],?_⟩,n5⟩
  try dsimp only
  have e1:D.take (i+1)=D.take i++[D[i]]:=aC _ _;have e2:(D.take i).length=i:=n7
  rw[e1,GJ,e2];exact T2.step D[i].toNat a b (nI nd i) (aN w)
 have ah:i=n1 D:=n3
 subst ah;rw[qy]at T2 b2 P Q;refine⟨s,n2,A,(H2.box 0 n2).cell n2,?_⟩;have cc:=(X.at [_,_,_,_] H2).steps.len;refine ak (λt:Nat×List Sl×List Sl×List (Sl×Row)=>(t.1:Int)) (λt h'=>t.1<=n1 ST/\aa B h0 h' (Told s f p v r A o E d k t.2.1 t.2.2.1 t.2.2.2++As)/\lZ pool t.2.2.2 t.2.1 t.2.2.1 ((ST.take t.1).foldl (gZ R nd) (fZ n nd w D)).1 ((ST.take t.1).foldl (gZ R nd) (fZ n nd w D)).2) (λt=>n1 ST-t.1)
  (0,z,u,pl) n2 ⟨n9,H2,T2⟩ ?_
 clear P Q T2 H2 hi e;rintro⟨i,z,u,pl⟩ h3 ⟨hi,H3,T3⟩;dsimp only at*;obtain⟨dk,-⟩:=IE (nd:=nd) (w:=w) hD b9 D.length (qk _);rw[qy]at dk;have a1:=Kl (l1:=ST.take i) (l2:=ST.drop i) (by rw[qD];exact hg);obtain⟨ap,-⟩:=FH hR a1.1 dk;obtain⟨W,hW⟩:=I3 (((ST.take i).foldl (gZ R nd) (fZ n nd w D)).1)
 obtain⟨M,hM⟩:=I3 (((ST.take i).foldl (gZ R nd) (fZ n nd w D)).2)
 have am:(ST.take i).foldl (gZ R nd) (fZ n nd w D)=(W,M):=by rw[hW,hM]
 have I:Uw n nd w (λc=>c∈D∨∃j,(j,c)∈ST.take i) W M:=by rw[hW,hM];exact ap
 rw[<-hW,<-hM]at T3;clear ap hW hM;have ci:=I.wl;have cf:=I.ml;have P:=T3.way.1;have Q:=T3.more.1;refine ae (λe=>?_) (λe=>?_)
 .have Y:i<n1 ST:=n3
  have ad:=a1.2;rw[qW Y]at ad;obtain⟨row,aZ,ao⟩:∃row aZ,ST[i]=(row,aZ):=⟨_,_,rfl⟩
  rw[ao]at ad;obtain⟨g1,g2,g3,g4,-⟩:=ad;have m:row.toNat<n1 R:=by have:=g1.2;rw[qp]at this;omega
  obtain⟨e',O⟩:∃e',e'=R[row.toNat]:=⟨_,rfl⟩
  have er:R.getD row.toNat ([],[])=e':=by rw[qg,qd m,O];rfl
  have b7:(R.map qF).getD row.toNat []=e'.1:=by rw[qg,qP,qd m,O];rfl
  rw[b7]at g3 g4;have J:=hR e' (O▸qf m);have cd:=b6 e' (O▸qf m);have cn:=J.de aZ g3;have G3:=X.at [_,_,_,_] H3;have hF:=G3.rest.2.1;refine G3.steps.cH (g:=ge) i n2 Y ST[i] n2 ?_;rw[ao];refine H3.tE af n2 λa50 h4 P4 H4=>?_;have H4:=H4.bf;refine H4.storeAll af 0 n2 n2 (ge (row,aZ)) n2 n2 n2 n2 λh5 H5=>?_;have bd:row.toNat<n1 rr:=by rw[hF];exact m
  obtain⟨y,hy⟩:=I3 (rr[row.toNat])
  have G:∀{h'},gA kh 2 qv h' r rr R->kh.p h' (λb=>b<h'.size) y e':=λhh=>by rw[hy,O];exact Fix.row hh m
  refine bj (λa' h'=>aa B h0 h' (aj a' 279 (qv y)::aj a50 338 (ge (row,aZ))::(Told s f p v r A o E d k z u pl++As))) ?_ ?_
  .have a9:=H5.box 1 n2;have G5:=X.at [_,_,_,_,_] H5;refine⟨s,n2,r,a9.cell n2,row,(H5.box 0 n2).cell0 n2,?_⟩;obtain⟨b1,ha,x,V,rfl⟩:=G5.rest.1.cH (g:=qv) (i:=row) row.toNat n3 bd y (by rw[hy]) (K:=λx=>x=y) rfl;refine⟨b1,ha,_,V,?_⟩;refine H5.tE af n2 λU h6 P6 H6=>⟨⟨ee V.1 P6,ee V.2.1 P6,ee ((H5.box 0 n2).cell0 n2) P6,ee (a9.cell n2) P6,I4⟩,?_⟩
   have H6:=H6.bf;refine H6.storeAll af 0 n2 n2 (qv x) n2 n2 n2 n2 λh7 H7=>⟨I4,H7⟩
  intro U h7 H7;refine bj (λt h'=>aa B h0 h' (RA t.1 (aN nd)::RA t.2 e'.2::aj U 279 (qv y)::aj a50 338 (ge (row,aZ))::(Told s f p v r A o E d k z u pl++As))) ?_ ?_
  .have a8:=H7.box 0 n2;refine⟨y.2,a8.cell n2,?_⟩;exact Nu (L:=[(U.add 1,xQ y.2.ptr y.2.len y.2.cap)]) (K:=λa b h'=>bF.ok [] h'/\aa B h0 h' (RA a (aN nd)::RA b e'.2::aj U 279 (qv y)::aj a50 338 (ge (row,aZ))::(Told s f p v r A o E d k z u pl++As))) y.2 e'.2 nd _ H7 (by rw[a5]) ab (by rw[J.len];exact hw) ⟨a8.cell n2,I4⟩ (L2:=[]) I4 (St.mk' λh' N=>(G (X.at [_,_,_,_,_,_] N).rest).2) λa b h' _ N=>⟨I4,N⟩
  rintro⟨T,q⟩ h8 H8;dsimp only at H8;refine⟨y.1,(H8.box 2 n2).cell0 n2,?_⟩;have cr:=(G (X.at [_,_,_,_,_,_,_,_] H8).rest).1.len;let F:Nat->aD:=λj=>(e'.1.take j).filter λc=>!decide (c=aZ);refine ak (λj:Nat=>(j:Int)) (λj h'=>j<=n1 e'.1/\aa B h0 h' (RA T (cW W (aN nd) (F j))::RA q (cW M e'.2 (F j))::aj U 279 (qv y)::aj a50 338 (ge (row,aZ))::(Told s f p v r A o E d k z u pl++As))) (λj=>n1 e'.1-j) 0 n2 ⟨n3,by simpa[F,cW]using H8⟩ ?_;rintro j h9 ⟨hj,H9⟩;have told:∀c∈F j,(aB W c.toNat).length=nd/\(aB M c.toNat).length=w:=λc V=>by
   have bb:=qN.1 V;have hm:=zP bb.1;exact I.rw_ c (g4 c hm (by simpa using bb.2)) (J.de c hm).1 (J.de c hm).2
  have a2:(cW W (aN nd) (F j)).length=nd:=jO s8 λc V=>(told c V).1;have ay:(cW M e'.2 (F j)).length=w:=jO J.len λc V=>(told c V).2;refine ae (λe2=>?_) (λe2=>?_)
  .have S:j<n1 e'.1:=n3
   have al:=J.de _ (qf S);refine(G (X.at [_,_,_,_,_,_,_,_] H9).rest).1.aX j n2 S _ n2 ?_;refine⟨aZ,(H9.box 3 n2).cell n2,?_⟩;refine bt (λa6=>?_) (λbq=>?_)
   .have tc:=I.rw_ e'.1[j] (g4 _ (qf S) a6) al.1 al.2;refine(DE s f 1 e'.1[j] T q d k _ _ z u W M H9 (St.mk' λh' N=>?_) al.1 n3 n3 (by rw[tc.1,a2]) (by rw[tc.2,ay]) n3 n3).mono ?_
    .exact AE.of (N.box 2 n2) (X.at [_,_,_,_,_,_] N).field (N.BC 3 5 n2 n2 T3.way) (N.BC 4 5 n2 n2 T3.more)
    rintro _ b3 ⟨rfl,Z⟩;have e3:F (j+1)=F j++[e'.1[j]]:=by simp only[F];rw[jC _ _ S];simp[a6]
    exact⟨(),n2,j+1,oi,⟨n3,by rw[e3,rQ,rQ];exact Z⟩,n3⟩
   .have e3:F (j+1)=F j:=by simp only[F];rw[jC _ _ S];simp[bq]
    exact⟨j+1,oi,⟨n3,by rw[e3];exact H9⟩,n3⟩
  .have b4:j=n1 e'.1:=n3
   subst b4;have a4:=H9.box 3 n2;have a0:=H9.box 4 n2;refine⟨s,n2,d,a0.cell n2,aZ,a4.cell n2,s,n2,k,a0.cell n2,aZ,a4.cell n2,?_⟩;refine H9.set af 5 n2 (λ_=>rfl) n2 aZ.toNat n3 n3 T n2 n2 n2 λb3 Z=>⟨⟨(Z.box 3 n2).cell n2,I4⟩,?_⟩
   refine Z.set af 6 n2 (λ_=>rfl) n2 aZ.toNat n3 n3 q n2 n2 n2 λcp bk=>⟨I4,?_⟩
   have b0:=(bk.freeze 0 n2 λ_=>rfl).pool 7 0 n4 n2 n2;have bl:=(b0.freeze 1 n2 λ_=>rfl).pool 7 1 n4 n2 n2;refine⟨(i+1,z.set aZ.toNat T,u.set aZ.toNat q,_),n8,⟨n5,bl.aF 8 [4,5,6,7],?_⟩,n5⟩
   try dsimp only
   rw[aC _ _ Y,wF,am,ao];have e3:[(row,aZ)].foldl (gZ R nd) (W,M)=(W.set aZ.toNat (cW W (aN nd) (F e'.1.length)),M.set aZ.toNat (cW M e'.2 (F e'.1.length))):=by simp only[zS,List.foldl_nil,gZ,er,F,qy]
   rw[e3];exact T3.step aZ.toNat T q _ _
 .have ah:i=n1 ST:=n3
  subst ah;rw[qy]at am;exact⟨n2,d,k,z,u,pl,H3,by rw[am];exact T3⟩
def kH(nd:Nat)(known:List Bool)(vals:aO)(s:aO×aO)(i:Nat):aO×aO:=
 (s.1.mapIdx λc r=>if c<i/\known.getD c eL=eH then aN nd else r,s.2.mapIdx λc r=>if c<i/\known.getD c eL=eH then aB vals c else r)
theorem SY(nd:Nat)(known:List Bool)(vals:aO)(s:aO×aO):kH nd known vals s 0=s:=by unfold kH;refine y7 ?_ ?_<;>refine wb n9 λi b a=>?_<;>simp
theorem VP(nd:Nat)(known:List Bool)(vals:aO)(s:aO×aO){n:Nat}(a:n1 s.1=n)(b:n1 s.2=n):kH nd known vals s n=iD nd known vals s:=by unfold kH iD;refine y7 ?_ ?_<;>refine wb n9 λi a b=>?_<;>simp at a<;>simp[show i<n by omega]
theorem VQ(nd:Nat)(known:List Bool)(vals:aO)(s:aO×aO){i:Nat}(d:known.getD i eL=eH):kH nd known vals s (i+1)=((kH nd known vals s i).1.set i (aN nd),(kH nd known vals s i).2.set i (aB vals i)):=by
 unfold kH;refine y7 ?_ ?_<;>refine wb n9 λj f e=>?_<;>simp only[List.getElem_mapIdx,xr]<;>by_cases c:i=j
 .subst c;rw[l0 ⟨n3,d⟩,l0 rfl]
 .rw[m6 c];congr 1;simp only[eq_iff_iff];constructor<;>rintro⟨a,b⟩<;>exact⟨n3,b⟩
 .subst c;rw[l0 ⟨n3,d⟩,l0 rfl]
 .rw[m6 c];congr 1;simp only[eq_iff_iff];constructor<;>rintro⟨a,b⟩<;>exact⟨n3,b⟩
theorem Yp(nd:Nat)(known:List Bool)(vals:aO)(s:aO×aO){i:Nat}(e:known.getD i eL=eL):kH nd known vals s (i+1)=kH nd known vals s i:=by
 have d:∀j,(j<i+1/\known.getD j eL=eH)↔(j<i/\known.getD j eL=eH):=λj=>by
  constructor
  .rintro⟨a,b⟩;by_cases c:j=i
   .subst c;rw[e]at b;cases b
   .exact⟨n3,b⟩
  .rintro⟨a,b⟩;exact⟨n3,b⟩
 unfold kH;simp only[d]
theorem VR(s f:fY)(p:Int×Int×Int)(v r L A N J G:Sl)(j g d:List Sl)(pl:List (Sl×Row))(known:List Bool)(V W M:aO)(n nd:Nat)(H:aa B h0 h (Told s f p v r L A N J G g d pl++HA v j::As))(hn:n<=64)(w:A.len=nd)(ah:nd<=64)(Z:lZ pl pl g d W M)(S:cb pl id j V)(ad:n1 V=n)(F:n1 W=n)(E:n1 M=n)
  (hk:∀(c:Nat) (hc:c<n1 j),j[c].ptr.isNone=!(known.getD c eL)):
  an xZ 248 #[xR (cO s)] h λU h'=>U=.tuple #[]/\∃g d b,aa B h0 h' (Told s f p v r L A N J G g d b++HA v j::As)/\lZ pl b g d (iD nd known V (W,M)).1 (iD nd known V (W,M)).2:=by
 refine ts Tryz.func248 ?_ (G7 (F8 (G0 [(9,aH)] [(2,4),(9,37)] E9))) [(4,(.l [0,1,2,3,4,5,6,7,8,9,10,11,12,13,14,15,17,16,18,19,20,21]))];have R:=S.1;have O:v.len=n:=by rw[(H.own 4 n2).len];omega
 refine⟨s,n2,v,(H.box 0 n2).cell n2,?_⟩;refine ak (λt:Nat×List Sl×List Sl×List (Sl×Row)=>(t.1:Int)) (λt h'=>t.1<=n/\aa B h0 h' (Told s f p v r L A N J G t.2.1 t.2.2.1 t.2.2.2++HA v j::As)/\lZ pl t.2.2.2 t.2.1 t.2.2.1 (kH nd known V (W,M) t.1).1 (kH nd known V (W,M) t.1).2) (λt=>n-t.1) (0,g,d,pl) n2 ⟨n3,H,by rw[SY];exact Z⟩ ?_;rintro⟨i,g,d,b⟩ X ⟨hi,D,k⟩;dsimp only at*;have ab:(kH nd known V (W,M) i).1.length=n:=by simp[kH,F]
 have al:(kH nd known V (W,M) i).2.length=n:=by simp[kH,E]
 have Q:=k.way.1;have P:=k.more.1;refine ae (λe=>?_) (λe=>?_)
 .have Y:i<n:=n3
  refine(D.seq 4 n2 λ_=>rfl).lm i n2 n3 ?_;have y:=hk i n3;refine aI (λz=>?_) (λz=>?_)
  .have o:known.getD i eL=eH:=by rw[y]at z;simpa using z
   have q:=D.box 0 n2;refine⟨s,n2,J,q.cell n2,s,n2,G,q.cell n2,s,n2,A,show hU X (s.add 7)=_ from q.cell n2,?_⟩;refine D.Ee af ar cN n4 0 n2 n2 nd nd (by rw[w]) (by rw[w]) (qk _) n3 λa h2 _ P2 I=>?_;have I:=I.bf;have m:=I.box 1 n2;refine⟨⟨show hU h2 (s.add 7)=_ from m.cell n2,m.cell n2,m.cell n2,I4⟩,?_⟩;refine I.set af 2 n2 (λ_=>rfl) n2 i n2 n3 a n2 n2 n2 λh3 H3=>⟨I4,?_⟩
   refine H3.set af 3 n2 (λ_=>rfl) n2 i n2 n3 (j[i]'n3) n2 n2 n2 λh4 T=>⟨I4,?_⟩
   have H5:=(T.freeze 0 n2 λ_=>rfl).pool 4 0 n4 n2 n2;refine⟨(i+1,g.set i a,d.set i (j[i]'n3),_),n8,⟨n5,H5.aF 5 [1,2,3,4],?_⟩,n5⟩
   try dsimp only
   rw[VQ nd known V (W,M) o];have hm:((j[i]'n3),aB V i)∈pl:=by have:=S.get (i:=i) n3;rw[mh n3];exact this
   exact⟨λx u=>qt _ (k.sub x u),(k.way.mono λx u=>qt _ u).set i s8,(k.more.mono λx u=>qt _ u).set i (qt _ (k.sub _ hm))⟩
  .have o:known.getD i eL=eL:=by rw[y]at z;simpa using z
   exact⟨(i+1,g,d,b),n8,⟨n5,D,by dsimp only;rw[Yp nd known V (W,M) o];exact k⟩,n5⟩
 .have K:i=n:=n3
  subst K;exact⟨n2,g,d,b,D,by rw[<-VP nd known V (W,M) F E];exact k⟩
def nc(nd:Nat)(known:List Bool)(vals W M D:aO)(i:Nat):aO:=vals.mapIdx λc r=>if c<i/\known.getD c eL=eL then gQ D (aB W c) (aB M c) nd else r
theorem VS(nd:Nat)(known:List Bool)(vals W M D:aO):nc nd known vals W M D 0=vals:=by unfold nc;refine wb n9 λi b a=>?_;simp
theorem Yq(nd:Nat)(known:List Bool)(vals W M D:aO){n:Nat}(a:n1 vals=n):nc nd known vals W M D n=tU nd known vals W M D:=by
 unfold nc tU;refine wb n9 λi a b=>?_;simp at a;simp only[List.getElem_mapIdx];cases hk:known.getD i eL
 .rw[l0 ⟨n3,n2⟩,m6 n9]
 .rw[m6 n9,l0 rfl]
theorem Yr(nd:Nat)(known:List Bool)(vals W M D:aO){i:Nat}(e:known.getD i eL=eH):nc nd known vals W M D (i+1)=nc nd known vals W M D i:=by
 have d:∀j,(j<i+1/\known.getD j eL=eL)↔(j<i/\known.getD j eL=eL):=λj=>by
  constructor
  .rintro⟨a,b⟩;by_cases c:j=i
   .subst c;rw[e]at b;cases b
   .exact⟨n3,b⟩
  .rintro⟨a,b⟩;exact⟨n3,b⟩
 unfold nc;simp only[d]
theorem aaH(nd:Nat)(known:List Bool)(vals W M D:aO){i:Nat}(d:known.getD i eL=eL):nc nd known vals W M D (i+1)=(nc nd known vals W M D i).set i (gQ D (aB W i) (aB M i) nd):=by
 unfold nc;refine wb n9 λj f e=>?_;simp only[List.getElem_mapIdx,xr];by_cases c:i=j
 .subst c;rw[l0 ⟨n3,d⟩,l0 rfl]
 .rw[m6 c];congr 1;simp only[eq_iff_iff];constructor<;>rintro⟨a,b⟩<;>exact⟨n3,b⟩
theorem VT(s f:fY)(p:Int×Int×Int)(v r Z X U O P dead:Sl)(g A z dr:List Sl)(pl:List (Sl×Row))(known:List Bool)(V W M D:aO)(n nd w:Nat)(H:aa B h0 h (Told s f p v r Z X U O P A z pl++HA v g::As))(hS:St B h0 As λh=>ig h f/\gP h (λb=>b<h.size) dead 1 ar D dr)(hn:n<=64)(hw:w<=2^20)(bb:nd<=64)(S:lZ pl pl A z W M)(hV:cb pl id g V)(E:n1 V=n)(a9:n1 W=n)(a8:n1 M=n)
  (G:∀c,c<n->(aB W c).length=nd/\(aB M c).length=w) (bd:n1 D=nd) (Q:aW w D) (hk:∀(c:Nat) (l:c<n1 g),g[c].ptr.isNone=!(known.getD c eL)):
  an xZ 251 #[xR (cO s),dead] h λv' h'=>v'=.tuple #[]/\∃F a,aa B h0 h' (Told s f p v r Z X U O P A z a++HA v F::As)/\cb a id F (tU nd known V W M D):=by
 refine ts Tryz.func251 ?_ (G7 (F8 (G0 [(15,aH)] [(4,10),(15,80)] (G7 (G7 (E8 (F8 (G7 (G7 (G7 (E8 (G7 (F8 (G0 [(42,aH)] [(6,10),(42,72)] (G7 (G7 (E8 (F8 (G7 (G7 (F8 (G0 [(52,aH)] [(8,10),(52,71)] E9))))) E9)))))) E9))))) E9))))));have a2:=hV.1;have ah:v.len=n:=by rw[(H.own 4 n2).len];omega
 have a1:=S.way.1;have a3:=S.more.1;refine⟨s,n2,v,(H.box 0 n2).cell n2,?_⟩;refine ak (λt:Nat×List Sl×List (Sl×Row)=>(t.1:Int)) (λt h'=>t.1<=n/\aa B h0 h' (Told s f p v r Z X U O P A z t.2.2++HA v t.2.1::As)/\cb t.2.2 id t.2.1 (nc nd known V W M D t.1)/\(∀x∈pl,x∈t.2.2)/\∀(c:Nat) (l:c<n1 t.2.1),t.1<=c->t.2.1[c].ptr.isNone=!(known.getD c eL)) (λt=>n-t.1) (0,g,pl) n2 ⟨n3,H,by rw[VS];exact hV,λ_ h=>h,λc l _=>hk c l⟩ ?_;rintro⟨i,g,a⟩ h1 ⟨hi,o,Y,d,y⟩;dsimp only at*;have a5:(nc nd known V W M D i).length=n:=by simp[nc,E]
 have a4:=Y.1;refine ae (λe=>?_) (λe=>?_)
 .have ap:i<n:=n3
  have N:=o.box 0 n2;refine⟨s,n2,v,N.cell n2,?_⟩;refine(o.seq 4 n2 λ_=>rfl).lm i n2 n3 ?_;have I:=y i n3 (qk _);refine aI (λR=>?_) (λR=>?_)
  .have u:known.getD i eL=eH:=by rw[I]at R;simpa using R
   exact⟨(i+1,g,a),n8,⟨n5,o,by dsimp only;rw[Yr nd known V W M D u];exact Y,d,λc l h=>y c l (by dsimp only at h;omega)⟩,n5⟩
  have u:known.getD i eL=eL:=by rw[I]at R;simpa using R
  have am:=G i ap;have a0:((z[i]'n3),aB M i)∈a:=by have:=(S.more.mono d).get (i:=i) n3;rw[mh n3];exact this
  have J:((A[i]'n3),aB W i)∈a:=by have:=(S.way.mono d).get (i:=i) n3;rw[mh n3];exact this
  refine⟨s,n2,P,N.cell n2,?_⟩;refine(o.seq 2 n2 λ_=>rfl).lm i n2 n3 ?_;refine(fT _ (aB M i) h1 (o.ik 3 n2 a0)).I2 λb h2 R2=>?_;have T:=o.bV R2;have ad:=T.box 1 n2;refine⟨b,n2,s,n2,O,ad.cell n2,?_⟩;refine(T.seq 2 n2 λ_=>rfl).lm i n2 n3 ?_;have ay:=(T.ik 4 n2 J).len;refine ak (λj:Nat=>(j:Int)) (λj h'=>j<=nd/\aa B h0 h' (RA b (gQ D (aB W i) (aB M i) j)::(Told s f p v r Z X U O P A z a++HA v g::As))) (λj=>nd-j) 0 n2 ⟨n3,T⟩ ?_;rintro j h3 ⟨hj,L⟩;refine ae (λe3=>?_) (λe3=>?_)
  .have a7:j<nd:=n3
   have q:j<(aB W i).length:=n3
   refine(L.ik 4 n2 J).aX j n2 q _ n2 ?_;obtain⟨S1,S2⟩:=hS.at [_,_,_,_,_,_] L;have a6:=S2.len;refine S2.top.lm j n2 n3 ?_;have ab:(D[j]'n3).length=w:=Q _ (qf _);have K:(aB W i)[j]'q=aM (aB W i) j:=by rw[aM,qg,qd q];rfl
   have ao:(gQ D (aB W i) (aB M i) j).length=w:=lL _ am.2 λk hk=>bZ Q;rw[K];refine DD s f (aM (aB W i) j) (dr[j]'n3) b (D[j]'n3) _ L (St.mk' λh' H'=>?_) (by rw[ab,ao]) n3 λh4 H4=>?_
   .obtain⟨q1,q2⟩:=hS.at [_,_,_,_,_] H';exact⟨(H'.box 0 n2).cell0 n2,q1,q2.row _ _ _ (qd _) (qd _)⟩
   .refine⟨j+1,oi,⟨n3,?_⟩,n3⟩;rw[gQ,mh (m:=D) (i:=j) n3];exact H4
  .have al:j=nd:=n3
   subst al;refine⟨s,n2,v,(L.box 1 n2).cell n2,?_⟩;refine L.set af 5 n2 (λ_=>rfl) n2 i n2 n3 b n2 n2 n2 λh4 H4=>?_;have H5:=(H4.freeze 0 n2 λ_=>rfl).pool 4 0 n4 n2 n2;refine⟨(i+1,g.set i b,_),n8,⟨n5,H5.aF 6 [1,2,3,4,5],?_,λx hx=>qt _ (d x hx),λc l h=>?_⟩,n5⟩
   .try dsimp only
    rw[aaH j known V W M D u];exact(Y.mono λx hx=>qt _ hx).set i n9
   .dsimp only at l h⊢;rw[yY n3];exact y c (by simpa using l) n3
 .have ax:i=n:=n3
  subst ax;exact⟨n2,g,a,o,by rw[<-Yq nd known V W M D E];exact Y⟩
abbrev MA(s:Sl)(m:aO):HP:=dD 41 s 1 ar m
abbrev Nv:jg Sl Row:=abF (iJ 1 ar) λr _=>r.len<=r.cap
abbrev CA(s:Sl)(m:aO):HP:=db 41 s 1 bv Nv m
theorem aa.VU{e:Nat}{s:Sl}{l:Row}(H:aa B h0 h As)(i:Nat)(c:As[i]?=cO (ai e s 1 ar l)):aa B h0 h (As.set i (EA Nv s l)):=
 H.dG i c λ_ ⟨a,b⟩=>⟨a.seq (λ_=>rfl) b,a.cap⟩
theorem SZ(s f:fY)(p:Int×Int×Int)(v r U I Q N O:Sl)(G F:List Sl)(pl:List (Sl×Row))(rr:List (Sl×Sl))(R:List fm)(ST:List (Int×Int))(D L:aD)(W M:aO)(n nd w:Nat)(H:aa B h0 h (Told s f p v r U I Q N O G F pl++As))(hS:St B h0 As λh=>SU h f r U I Q rr R ST D L)
  (hn:n=p.1.toNat+p.2.1.toNat) (hp:p.2.2=w) (hw:w<=2^20) (ao:bJ p=eH) (br:n1 D=nd) (a8:nd<=64) (hR:∀e∈R,iW n w e) (b0:∀e∈R,n1 e.1<=2^20) (hL:∀i∈L,0<=i/\i<(n1 R:Int)) (cf:n1 L<=2^20) (hT:lZ pl pl G F W M) (cd:n1 W=n) (ca:n1 M=n)
  (o:∀c,c<n->(aB W c).length=nd/\(aB M c).length=w):
  an xZ 249 #[xR (cO s)] h λv' h'=>∃a b:Sl,v'=.tuple #[a,b]/\aa B h0 h' (MA a (dI n nd R W L (bz p.1.toNat p.2.1.toNat))::CA b (fF n w R M L (bz p.1.toNat p.2.1.toNat))::(Told s f p v r U I Q N O G F pl++As)):=by
 refine ts Tryz.func249 ?_ (G7 (G7 (E8 (G7 (F8 (G0 [(2,bN),(3,bN),(29,aH)] [(2,4),(6,9),(10,11),(29,72)] (G7 (G7 (E8 (F8 (G7 (HF [(7,bN),(8,bN)] [(7,9),(33,44)] (Hf [(53,aH)] [(10,11),(53,63)])))) E9)))))) (E8 (G7 (F8 (G0 [(2,bN),(3,bN),(78,aH)] [(2,4),(12,17),(78,113)] (G7 (G7 (E8 (F8 (G7 (HF [(13,bN),(14,bN)] [(13,15),(82,90)] (Hf [(92,aH)] [(15,17),(92,104)])))) E9)))))) E9)))) [(5,(.y [0,2,3,4,5,6,7,8,9] (.l [1,10,11,12]) (.l [10,1,11,12]))),(16,(.y [0,2,3,4,5,6] (.l [1,8,7,9]) (.l [7,1,8,9])))];have hb:=H.box 0 n2;have ab:I.len=nd:=by rw[(hS.at [_,_,_,_] H).dead.len,br]
 have b7:=(bL p).1 ao;have b2:=hT.way.1;have b4:=hT.more.1;refine⟨s,n2,I,show hU h (s.add 7)=_ from hb.cell n2,s,n2,Q,show hU h (s.add 8)=_ from hb.cell n2,?_⟩;have cc:=(hS.at [_,_,_,_] H).left.len;have ap:∀{h':hY} {Cs:List HP},aa B h0 h' (Cs++(Told s f p v r U I Q N O G F pl++As))->aa B h0 h' (Told s f p v r U I Q N O G F pl++As):=λ{h' Cs} S=>S.take Cs.length λi A hi=>by
  rw[List.getElem?_append_right n3,Nat.add_sub_cancel_left];exact hi
 have SR:∀{h':hY},aa B h0 h' (Told s f p v r U I Q N O G F pl++As)->AE h' s f N O G F W M:=λS=>AE.of (S.box 0 n2) (hS.at [_,_,_,_] S).field (S.BC 1 3 n2 n2 hT.way) (S.BC 2 3 n2 n2 hT.more);let rA:Int->Row:=λi=>cW W (aN nd) (R.getD i.toNat ([],[])).1;let rB:Int->Row:=λi=>cW M (R.getD i.toNat ([],[])).2 (R.getD i.toNat ([],[])).1;have H0:=((H.Ix 41 1 bv Nv).bf.sv 41 1 ar).bf;refine ak (λt:Nat×Sl×Sl=>(t.2.1,t.2.2,(t.1:Int))) (λt h'=>t.1<=n1 L/\aa B h0 h' (MA t.2.1 ((L.take t.1).map rA)::CA t.2.2 ((L.take t.1).map rB)::(Told s f p v r U I Q N O G F pl++As))) (λt=>n1 L-t.1) (0,⟨dB,0,0⟩,⟨dB,0,0⟩) n2 ⟨n9,H0⟩ ?_;rintro⟨i,a,b⟩ h1 ⟨hi,H1⟩;dsimp only at*;refine ae (λe=>?_) (λe=>?_)
 .have u:i<n1 L:=n3
  have G1:=hS.at [_,_,_,_,_,_] H1;refine G1.left.aX i n2 u _ n2 ?_;have hx:=hL _ (qf u);generalize bb:L[i]=x at hx⊢;have E:x.toNat<n1 R:=n3
  obtain⟨e',ad⟩:∃e',e'=R[x.toNat]:=⟨_,rfl⟩
  have er:R.getD x.toNat ([],[])=e':=by rw[qg,qd E,ad];rfl
  have al:=hR e' (ad▸qf E);have b5:=b0 e' (ad▸qf E);have hF:=G1.rest.2.1;have a5:x.toNat<n1 rr:=by rw[hF];exact E
  obtain⟨y,hy⟩:=I3 (rr[x.toNat])
  have J:∀{h'},gA kh 2 qv h' r rr R->kh.p h' (λb=>b<h'.size) y e':=λhh=>by rw[hy,ad];exact Fix.row hh E
  refine bj (λt h'=>aa B h0 h' (RA t.1 (aN nd)::RA t.2 e'.2::MA a ((L.take i).map rA)::CA b ((L.take i).map rB)::(Told s f p v r U I Q N O G F pl++As))) ?_ ?_
  .have am:=H1.box 2 n2;refine⟨s,n2,r,am.cell n2,?_⟩;obtain⟨a9,ha,z,hc,rfl⟩:=G1.rest.1.cH (g:=qv) (i:=x) x.toNat n3 a5 y (by rw[hy]) (K:=λz=>z=y) rfl;refine⟨a9,ha,z.2,hc.2.1,?_⟩;have a4:bF.ok [(s.add 5,xQ r.ptr r.len r.cap)] h1:=⟨am.cell n2,I4⟩
   exact Nu (L:=[((a9.add (x.toNat*2)).add 1,xQ z.2.ptr z.2.len z.2.cap),(s.add 5,xQ r.ptr r.len r.cap)]) (L2:=[(s.add 5,xQ r.ptr r.len r.cap)]) (K:=λa' b' h'=>bF.ok [(s.add 5,xQ r.ptr r.len r.cap)] h'/\aa B h0 h' (RA a' (aN nd)::RA b' e'.2::MA a ((L.take i).map rA)::CA b ((L.take i).map rB)::(Told s f p v r U I Q N O G F pl++As)))
    z.2 e'.2 nd _ H1 (by rw[ab]) a8 (by rw[al.len];exact hw) ⟨hc.2.1,a4⟩ a4 (St.mk' λh' S=>(J (hS.at [_,_,_,_,_,_] S).rest).2) λa b h' P S=>⟨gI P a4,S⟩
  rintro⟨Z,m⟩ h2 H2;dsimp only at H2;have G2:=hS.at [_,_,_,_,_,_,_,_] H2;refine⟨s,n2,r,(H2.box 4 n2).cell n2,?_⟩;obtain⟨b1,ha,z,hc,rfl⟩:=G2.rest.1.cH (g:=qv) (i:=x) x.toNat n3 a5 y (by rw[hy]) (K:=λz=>z=y) rfl;refine⟨b1,ha,z.1,hc.1,?_⟩;have bl:=(J G2.rest).1.len;refine ak (λj:Nat=>(j:Int)) (λj h'=>j<=n1 e'.1/\aa B h0 h' (RA Z (cW W (aN nd) (e'.1.take j))::RA m (cW M e'.2 (e'.1.take j))::MA a ((L.take i).map rA)::CA b ((L.take i).map rB)::(Told s f p v r U I Q N O G F pl++As))) (λj=>n1 e'.1-j) 0 n2 ⟨n3,by simpa[cW]using H2⟩ ?_;rintro j h3 ⟨hj,H3⟩;have told:∀c∈e'.1.take j,(aB W c.toNat).length=nd/\(aB M c.toNat).length=w:=λc hc=>by
   have ci:=al.de c (zP hc);exact o c.toNat n3
  have Y:(cW W (aN nd) (e'.1.take j)).length=nd:=jO s8 λc hc=>(told c hc).1;have V:(cW M e'.2 (e'.1.take j)).length=w:=jO al.len λc hc=>(told c hc).2;refine ae (λe2=>?_) (λe2=>?_)
  .have X:j<n1 e'.1:=n3
   have bk:=al.de _ (qf X);refine(J (hS.at [_,_,_,_,_,_,_,_] H3).rest).1.aX j n2 X _ n2 ?_;have tc:=o e'.1[j].toNat n3;refine(DE s f 1 e'.1[j] Z m N O _ _ G F W M H3 (St.mk' λh' S=>SR (ap (Cs:=[_,_]) S)) bk.1 n3 n3 (by rw[tc.1,Y]) (by rw[tc.2,V]) n3 n3).I1 λh4 T=>⟨(),n2,j+1,oi,⟨n3,by rw[aC _ _ X,rQ,rQ];exact T⟩,n3⟩
  .have a2:j=n1 e'.1:=n3
   subst a2;rw[qy]at H3;have T:=aa.VU (H3.freeze 0 n2 λ_=>rfl) 1 n2;refine T.jE af 2 0 n4 n2 n2 cM n7 λa' h5 H5=>?_;refine H5.AY af 3 1 n4 n2 n2 cM n2 n4 (λ_=>rfl) jK n2 n4 n7 λb' h6 H6=>?_;refine⟨(i+1,a',b'),n8,⟨n5,?_⟩,n5⟩
   try dsimp only
   rw[aC _ _ u,qG,qG,bb];have e3:[x].map rA=[cW W (aN nd) e'.1]:=by simp only[wq,vg,rA,er]
   have e4:[x].map rB=[cW M e'.2 e'.1]:=by simp only[wq,vg,rB,er]
   rw[e3,e4];exact H6.aF 8 [2,3,4,5,6,7]
 have a0:i=n1 L:=n3
 subst a0;rw[qy]at H1;have am:=H1.box 2 n2;refine⟨s,n2,p,am.cells 1 _ n2,(BX p h1).I2 λq h2 R2=>?_⟩;rw[ao,l0 rfl]at R2;obtain⟨d,a3⟩:=I3 (bz p.1.toNat p.2.1.toNat)
 have b3:n1 d=p.2.1.toNat:=by rw[a3];simp[bz]
 have a6:∀x∈d,n1 x=n:=λx hx=>by rw[hn];exact GC _ _ x (a3▸hx)
 rw[<-a3]at R2⊢;have H2:=(H1.bV R2).RG 0 n2;obtain⟨qr,H2⟩:=H2.Fw 0 rfl λ_=>rfl;have b9:=(H2.dv 0 n2).1.len;have b6:=(H2.dv 0 n2).2.1;refine⟨q,n2,?_⟩;let ax:Row->Row:=λx=>gQ W x (aN nd) n;let ay:Row->Row:=λx=>gQ M x (aN w) n;refine ak (λt:Nat×Sl×Sl=>(t.2.1,t.2.2,(t.1:Int))) (λt h'=>t.1<=n1 d/\aa B h0 h' (cy (iJ 1 ar) 1 bv q qr d::MA t.2.1 (L.map rA++(d.take t.1).map ax)::CA t.2.2 (L.map rB++(d.take t.1).map ay)::(Told s f p v r U I Q N O G F pl++As))) (λt=>n1 d-t.1) (0,a,b) n2 ⟨n9,by simpa using H2⟩ ?_;rintro⟨i,a,b⟩ h3 ⟨hi,H3⟩;dsimp only at*;refine ae (λe=>?_) (λe=>?_)
 .have u:i<n1 d:=n3
  have bq:=a6 _ (qf u);have F3:=H3.dv 0 n2;refine F3.1.lm i n2 n3 ?_;have bl:(qr[i]'n3).len=n:=by rw[(Fix.row F3 u).len,bq]
  refine bj (λt h'=>aa B h0 h' (RA t.1 (aN nd)::RA t.2 (aN w)::cy (iJ 1 ar) 1 bv q qr d::MA a (L.map rA++(d.take i).map ax)::CA b (L.map rB++(d.take i).map ay)::(Told s f p v r U I Q N O G F pl++As))) ?_ ?_
  .have bd:=H3.box 3 n2;refine⟨s,n2,p.2.2,show hU h3 (s.add 3)=_ from bd.cell n2,?_,?_⟩
   .refine H3.make af ar cN n4 0 n2 n2 nd nd (by rw[ab]) (by rw[ab]) (qk _) n3 λx h4 _ _ T=>?_;have T:=T.bf;refine⟨⟨show hU h4 (s.add 3)=_ from(T.box 4 n2).cell n2,I4⟩,?_⟩;refine T.make af ar cN n4 0 n2 n2 w w hp hp (qk _) n3 λy h5 _ _ H5=>⟨I4,H5.bf.nt⟩
   .refine H3.make af ar cN n4 0 n2 n2 w w hp hp (qk _) n3 λy h4 _ _ T=>⟨I4,?_⟩
    refine T.bf.make af ar cN n4 0 n2 n2 nd nd (by rw[ab]) (by rw[ab]) (qk _) n3 λx h5 _ _ H5=>⟨I4,H5.bf⟩
  rintro⟨Z,m⟩ h4 T;dsimp only at T⊢;refine ak (λj:Nat=>(j:Int)) (λj h'=>j<=n/\aa B h0 h' (RA Z (gQ W d[i] (aN nd) j)::RA m (gQ M d[i] (aN w) j)::cy (iJ 1 ar) 1 bv q qr d::MA a (L.map rA++(d.take i).map ax)::CA b (L.map rB++(d.take i).map ay)::(Told s f p v r U I Q N O G F pl++As))) (λj=>n-j) 0 n2 ⟨n3,T⟩ ?_;rintro j h5 ⟨hj,H5⟩;have Y:(gQ W d[i] (aN nd) j).length=nd:=lL _ s8 λk hk=>(o k n3).1;have V:(gQ M d[i] (aN w) j).length=w:=lL _ s8 λk hk=>(o k n3).2;refine ae (λe2=>?_) (λe2=>?_)
  .have X:j<n:=n3
   have a1:j<d[i].length:=n3
   refine(Fix.row (H5.dv 2 n2) u).aX j n2 a1 _ n2 ?_;have a7:d[i][j]'a1=aM d[i] j:=by rw[aM,qg,qd a1];rfl
   rw[a7];have tc:=o j X;refine(DE s f (aM d[i] j) (j:Int) Z m N O _ _ G F W M H5 (St.mk' λh' S=>SR (ap (Cs:=[_,_,_]) S)) n3 n3 n3 (by rw[qj,tc.1,Y]) (by rw[qj,tc.2,V]) n3 n3).I1 λh6 H6=>?_;rw[qj]at H6;exact⟨(),n2,j+1,oi,⟨n3,H6⟩,n3⟩
  .have a2:j=n:=n3
   subst a2;have H6:=aa.VU (H5.freeze 0 n2 λ_=>rfl) 1 n2;refine H6.jE af 3 0 n4 n2 n2 cM n7 λa' h7 H7=>?_;refine H7.AY af 4 1 n4 n2 n2 cM n2 n4 (λ_=>rfl) jK n2 n4 n7 λb' h8 H8=>?_;refine⟨(i+1,a',b'),n8,⟨n5,?_⟩,n5⟩
   try dsimp only
   rw[aC _ _ u,qG,qG,<-qo,<-qo];exact H8.aF 9 [2,3,4,5,6,7,8]
 .have a0:i=n1 d:=n3
  subst a0;rw[qy]at H3;exact⟨a,b,n2,H3.rest⟩
theorem DG{α:Type}{g:α->Bool}{l:List α}{i:Nat}(h:i<n1 l)(a:∀j (b:j<n1 l),j<i->g l[j]=eL)(c:g l[i]=eH):l.findIdx g=i:=by rw[vM h];exact⟨c,λj b=>a j n3 b⟩
theorem Pb(s:Sl)(l:aD)(b:FuncId)(a:Array Value)(g:Int->Bool)(Q:hY->Prop)(y:C.fns[b]?=cO eH)(A:St B h0 As Q)(r:∀x h',Q h'->an xZ b ([Value.int .i64 x]++a.toList).toArray h' λv o=>v=xT (g x)/\Sp h' o [])(H:aa B h0 h (ai 3 s 1 aq l::As))(D:n1 l<=2^20):
  an xZ 192 #[s,.func (.func b) #[] a] h λv h'=>v=xP xV (if l.findIdx g<n1 l then(l.findIdx g:Int)else-1)/\aa B h0 h' (ai 3 s 1 aq l::As):=by
 refine iL s (b,#[],a) ?_;have z:=(H.own 0 n2).len;refine ak (λi:Nat=>(i:Int)) (λi h'=>aa B h0 h' (ai 3 s 1 aq l::As)/\i<=n1 l/\∀j (n:j<n1 l),j<i->g l[j]=eL) (λi=>n1 l-i) 0 n2 ⟨H,n3,λj _ n=>n3⟩ ?_;rintro i w ⟨m,F,d⟩;refine ae (λe=>?_) (λe=>?_)
 .have c:i<n1 l:=n3
  refine(m.seq 0 n2 λ_=>rfl).aX i n2 c _ n2 ?_;refine fB y ?_;refine(r l[i] w (A.at [_] m)).I1 λE t=>⟨_,n2,aU (λp=>?_) λp=>?_⟩
  .rw[DG c d p,l0 c];exact⟨n2,m.up t.ac⟩
  .refine⟨i+1,oi,⟨m.up t.ac,n3,λj n q=>?_⟩,n3⟩;rcases zd.1 q with h3|rfl
   .exact d j n h3
   .exact p
 .have f:¬l.findIdx g<n1 l:=by rw[yj];rintro⟨x,u,k⟩;obtain⟨j,n,rfl⟩:=qE u;rw[d j n n3]at k;cases k
  rw[m6 f];exact⟨n2,m⟩
theorem Ta{α:Type}{g:α->Bool}{l:List α}{j:Nat}(h:j<l.findIdx g)(a:j<n1 l):g l[j]=eL:=by simpa using List.not_of_lt_findIdx h
structure mu {α:Type} (g:α->Bool) (l l':List α) (i j:Nat):Prop where
 len:n1 l'=n1 l
 le:i<=j
 pre:l'.take i=(l.take j).filter λx=>!g x
 post:l'.drop j=l.drop j
theorem mu.start{α:Type}{g:α->Bool}{l:List α}{i:Nat}(h:i<n1 l)(b:l.findIdx g=i):mu g l l i (i+1):=by
 refine⟨n2,n3,?_,n2⟩;have a:g l[i]=eH:=by have:=List.findIdx_getElem (xs:=l) (p:=g) (w:=by rw[b];exact h);simpa[b]using this
 rw[aC _ _ h,zm,zE,a];have:(l.take i).filter (λx=>!g x)=l.take i:=yX.2 λx c=>by
  obtain⟨j,d,rfl⟩:=qE c;simp only[qB]at d;rw[List.getElem_take,Ta (g:=g) (l:=l) (j:=j) n3 n3];rfl
 rw[this];simp
theorem mu.at_{α:Type}{g:α->Bool}{l b:List α}{i j:Nat}(x:mu g l b i j)(a:j<n1 l):b[j]'(by rw[x.len];exact a)=l[j]:=by have h:=congrArg (λm=>m[0]?) x.post;simp only[List.getElem?_drop,Nat.add_zero]at h;rw[qd a,qd (by rw[x.len];exact a)]at h;exact wm.inj h
theorem mu.keep{α:Type}{g:α->Bool}{l a:List α}{i j:Nat}(x:mu g l a i j)(d:j<n1 l)(b:g l[j]=eL):mu g l (a.set i l[j]) (i+1) (j+1):=by
 have c:=x.len;have f:=x.le;refine⟨C0,n3,?_,?_⟩
 .rw[aC _ _ n7,wD,List.take_set_of_le (qk _),x.pre,aC _ _ d,zm,zE,b];rfl
 .rw[List.drop_set_of_lt n3];have e:=congrArg (wW 1) x.post;simpa[wx]using e
theorem mu.skip{α:Type}{g:α->Bool}{l a:List α}{i j:Nat}(x:mu g l a i j)(d:j<n1 l)(b:g l[j]=eH):mu g l a i (j+1):=by
 have c:=x.len;have f:=x.le;refine⟨c,n3,?_,?_⟩
 .rw[x.pre,aC _ _ d,zm,zE,b];simp
 .have e:=congrArg (wW 1) x.post;simpa[wx]using e
theorem filter_all{α:Type}{g:α->Bool}{l:List α}(h:¬l.findIdx g<n1 l):l.filter (λx=>!g x)=l:=yX.2 λx a=>by
 have:g x=eL:=by
  cases hh:g x with
  |false=>rfl
  |true=>exact absurd (yj.2 ⟨x,a,hh⟩) h
 rw[this];rfl
theorem Nw(s:Sl)(l:aD)(b:FuncId)(a:Array Value)(g:Int->Bool)(Q:hY->Prop)(y:C.fns[b]?=cO eH)(D:St B h0 As Q)(f:∀x h',Q h'->an xZ b ([Value.int .i64 x]++a.toList).toArray h' λv u=>v=xT (g x)/\Sp h' u [])(H:aa B h0 h (ai 3 s 1 aq l::As))(F:n1 l<=2^20):
  an xZ 307 #[s,.func (.func b) #[] a] h λv h'=>∃r:Sl,v=r/\aa B h0 h' (ai 3 r 1 aq (l.filter λx=>!g x)::As):=by
 refine ts Tryz.func307 ?_ (G7 (G7 (G7 (Hf [(5,aH),(6,aH)] [(5,8),(16,36)])))) (args:=[s,(.func (.func b) #[] a)]);refine(Pb s l b a g Q y D f H F).I1 λP A=>?_;have G:=(H.own 0 n2).len;have M:=(H.own 0 n2).cap;refine⟨_,n2,aV (λe=>?_) λe=>?_⟩
 .have p:¬l.findIdx g<n1 l:=λo=>by rw[l0 o]at e;omega
  exact⟨s,n2,by rw[filter_all p];exact A⟩
 .have c:l.findIdx g<n1 l:=by
   by_cases o:l.findIdx g<n1 l
   .exact o
   .rw[m6 o]at e;exact absurd n2 e
  rw[l0 c];refine ak (λt:Nat×Nat×aD=>((t.1:Int),(t.2.1:Int))) (λt h'=>mu g l t.2.2 t.1 t.2.1/\t.2.1<=n1 l/\aa B h0 h' (ai 3 s 1 aq t.2.2::As)) (λt=>n1 l-t.2.1) (l.findIdx g,l.findIdx g+1,l) oi ⟨mu.start c n2,n5,A⟩ ?_;rintro⟨i,j,z⟩ I ⟨M2,R,k⟩;dsimp only at*;have N:=M2.len;have L:=M2.le;refine ae (λK=>?_) (λK=>?_)
  .have d:j<n1 l:=n3
   refine(k.seq 0 n2 λ_=>rfl).aX j n2 n3 _ n2 ?_;rw[M2.at_ d];refine fB y ?_;refine(f l[j] I (D.at [_] k)).I1 λh3 J=>?_;have m:=k.up J.ac;refine⟨_,n2,aI (λq=>?_) λq=>?_⟩
   .refine m.set af 0 n2 (λ_=>rfl) n2 i n2 n3 l[j] n2 n2 n2 λO E=>?_;exact⟨(i+1,j+1,z.set i l[j]),by dsimp only;rw[ag _,ag _];rfl,⟨M2.keep d w5,n5,E⟩,n5⟩
   .exact⟨(i,j+1,z),n8,⟨M2.skip d w5,n5,m⟩,n5⟩
  .have w:j=n1 l:=n3
   subst w;refine⟨⟨n3,n3⟩,?_⟩;rw[qj];refine k.ol af 0 n2 eK (λ_=>rfl) n2 n4 i n3 λh3 m=>⟨⟨n3,n3⟩,⟨s.ptr,i,s.cap⟩,n2,?_⟩
   have:=M2.pre;rw[qy]at this;rw[<-this];exact m
abbrev acK:bS C.toAk 281 338 2 [xP xV 0,xP xV 0] 16:=⟨_,_,n2,n2,n2,n2,n2,n2⟩
theorem Pc(s:Sl)(l:List (Int×Int))(b:FuncId)(a:Array Value)(g:Int×Int->Bool)(Q:hY->Prop)(z:C.fns[b]?=cO eH)(D:St B h0 As Q)(t:∀x h',Q h'->an xZ b ([Value.agg #[xP xV x.1,xP xV x.2]]++a.toList).toArray h' λv p=>v=xT (g x)/\Sp h' p [])(H:aa B h0 h (ai 338 s 2 ge l::As))(E:n1 l<=2^20):
  an xZ 363 #[s,.func (.func b) #[] a] h λv h'=>v=xP xV (if l.findIdx g<n1 l then(l.findIdx g:Int)else-1)/\aa B h0 h' (ai 338 s 2 ge l::As):=by
 refine ts Tryz.func363 ?_ (G7 (Hf [(8,aH)] [(4,6),(8,19)])) (args:=[s,(.func (.func b) #[] a)]);have A:=(H.own 0 n2).len;refine ak (λi:Nat=>(i:Int)) (λi h'=>aa B h0 h' (ai 338 s 2 ge l::As)/\i<=n1 l/\∀j (o:j<n1 l),j<i->g l[j]=eL) (λi=>n1 l-i) 0 n2 ⟨H,n3,λj _ o=>n3⟩ ?_;rintro i y ⟨m,G,d⟩;refine ae (λe=>?_) (λe=>?_)
 .have c:i<n1 l:=n3
  refine(m.seq 0 n2 λ_=>rfl).cH (g:=ge) i n2 c l[i] n2 ?_;refine fB z ?_;refine(t l[i] y (D.at [_] m)).I1 λF u=>⟨_,n2,aU (λq=>?_) λq=>?_⟩
  .rw[DG c d q,l0 c];exact⟨n2,m.up u.ac⟩
  .refine⟨i+1,oi,⟨m.up u.ac,n3,λj o r=>?_⟩,n3⟩;rcases zd.1 r with h3|rfl
   .exact d j o h3
   .exact q
 .have f:¬l.findIdx g<n1 l:=by rw[yj];rintro⟨x,w,k⟩;obtain⟨j,o,rfl⟩:=qE w;rw[d j o n3]at k;cases k
  rw[m6 f];exact⟨n2,m⟩
theorem Nx(s:Sl)(l:List (Int×Int))(b:FuncId)(a:Array Value)(g:Int×Int->Bool)(Q:hY->Prop)(A:C.fns[b]?=cO eH)(G:St B h0 As Q)(m:∀x h',Q h'->an xZ b ([Value.agg #[xP xV x.1,xP xV x.2]]++a.toList).toArray h' λv w=>v=xT (g x)/\Sp h' w [])(H:aa B h0 h (ai 338 s 2 ge l::As))(I:n1 l<=2^20):
  an xZ 305 #[s,.func (.func b) #[] a] h λv h'=>∃r:Sl,v=r/\aa B h0 h' (ai 338 r 2 ge (l.filter λx=>!g x)::As):=by
 refine ts Tryz.func305 ?_ (G7 (G7 (G7 (Hf [(5,aH),(6,aH)] [(5,8),(16,36)])))) (args:=[s,(.func (.func b) #[] a)]);refine(Pc s l b a g Q A G m H I).I1 λP F=>?_;have J:=(H.own 0 n2).len;have N:=(H.own 0 n2).cap;refine⟨_,n2,aV (λe=>?_) λe=>?_⟩
 .have p:¬l.findIdx g<n1 l:=λo=>by rw[l0 o]at e;omega
  exact⟨s,n2,by rw[filter_all p];exact F⟩
 .have c:l.findIdx g<n1 l:=by
   by_cases o:l.findIdx g<n1 l
   .exact o
   .rw[m6 o]at e;exact absurd n2 e
  rw[l0 c];refine ak (λt:Nat×Nat×List (Int×Int)=>((t.1:Int),(t.2.1:Int))) (λt h'=>mu g l t.2.2 t.1 t.2.1/\t.2.1<=n1 l/\aa B h0 h' (ai 338 s 2 ge t.2.2::As)) (λt=>n1 l-t.2.1) (l.findIdx g,l.findIdx g+1,l) oi ⟨mu.start c n2,n5,F⟩ ?_;rintro⟨i,j,D⟩ S ⟨M2,T,u⟩;dsimp only at*;have O:=M2.len;have M:=M2.le;refine ae (λL=>?_) (λL=>?_)
  .have f:j<n1 l:=n3
   refine(u.seq 0 n2 λ_=>rfl).cH (g:=ge) j n2 n3 l[j] (by rw[M2.at_ f]) ?_;refine u.alloc af n2 λa5 h3 d=>?_;have d:=d.bf;refine d.storeAll af 0 n2 n2 (ge l[j]) n2 n2 n2 n2 λz k=>?_;refine⟨l[j],(k.box 0 n2).aw _ n2,?_⟩;refine fB A ?_;refine(m l[j] z (G.at [_,_] k)).I1 λR K=>?_;have E:=k.up K.ac;have d:=E.nE;refine⟨_,n2,aI (λq=>?_) λq=>?_⟩
   .refine⟨l[j],(E.box 0 n2).aw _ n2,?_⟩;refine d.set af 0 n2 (λ_=>rfl) n2 i n2 n3 l[j] n2 n2 n2 λz k=>?_;exact⟨(i+1,j+1,D.set i l[j]),by dsimp only;rw[ag _,ag _];rfl,⟨M2.keep f w5,n5,k⟩,n5⟩
   .exact⟨(i,j+1,D),n8,⟨M2.skip f w5,n5,d⟩,n5⟩
  .have y:j=n1 l:=n3
   subst y;refine⟨⟨n3,n3⟩,?_⟩;rw[qj];refine u.ol af 0 n2 acK (λ_=>rfl) n2 n4 i n3 λh3 d=>⟨⟨n3,n3⟩,⟨s.ptr,i,s.cap⟩,n2,?_⟩
   have:=M2.pre;rw[qy]at this;rw[<-this];exact d
end Go.Qw
