/- Lemmas for the proof of the law; no condition. -/
import Derived.Test.YtplpfpidgljdhaaGreatDoorKE
set_option maxHeartbeats 2000000
set_option linter.unusedVariables false
set_option maxHeartbeats 2000000
set_option linter.unusedSimpArgs false
open Go.Proofs.Tryz renaming prog -> xP
open List renaming range -> qx
open Go.Value renaming bool -> xJ, int -> xF
open Go.IntKind renaming i64 -> xL, u32 -> xN, wrap -> qe
set_option maxRecDepth 100000
namespace Go.Qw
open Go.Proofs
variable {m:av} {ds:aE}
section
variable {C:Int->aL}
structure DK (m:av) (d d':aZ):Prop where
 lost:d'.lost=d.lost
 room:d'.room=d.room
 recs:∀r∈ft m d.l,r∈ft m d'.l
 whole:gI m d.l=true->gI m d'.l=true
structure ahN (m:av) (ds ds':aE):Prop where
 len:ds'.length=ds.length
 at_:∀k d,aV ds k=some d->∃d',aV ds' k=some d'/\DK m d d'
 no:∀k,aV ds k=none->aV ds' k=none
structure Tidy (m:av) (d:aZ):Prop where
 whole:gI m d.l=true
 keep:(bO m d.l).length<=d.l.length
 room:d.l.length<=d.room
structure XOk (m:av) (C:Int->aL) (e:Qw.cu) (i:Nat) (x:lH):Prop where
 he:e∈m.objs
 hi:i<e.tries.length
 o:x.o=e.object
 b:x.b=i
 seed:x.seed=ci e.object i (e.tries.getD i 0)
 M:x.M=dw m.p x.seed (gg m C e.object i)
structure Mid (m:av) (C:Int->aL) (live:aB) (ds:aE) (got:aB):Prop where
 sto:gB m C ds
 lv:∀k∈live,∃d,aV ds k=some d/\d.lost=false
 wt:∀k d,aV ds k=some d->d.wait=0∨k∈got
 tidy:∀k∈live,∀d,aV ds k=some d->Tidy m d
 rm:∀k d,aV ds k=some d->d.l.length<=d.room/\d.room<=512
structure ahO (m:av) (live:aB) (ds:aE) (t most:Int):Prop where
 lv:live=aU ds m.drives
 few:live.length<=9
 tt:0<=t/\t<live.length
 c:¬lA live.length t>4096
 mo:0<=most/\most<=64
 cg:∀s∈live,0<=s/\s<64
end
def jP(l:List cu):List (Int×Int×Int):=l.flatMap λe=>(qx e.tries.length).map λi:Nat=>(e.object,(i:Int),ci e.object i (e.tries.getD i 0))
theorem Qc{l:List cu}{i:Nat}(h:i<l.length):jP (l.take (i+1))=jP (l.take i)++((qx l[i].tries.length).map λj:Nat=>(l[i].object,(j:Int),ci l[i].object j (l[i].tries.getD j 0))):=by unfold jP;rw[aD _ _ h,List.flatMap_append,List.flatMap_cons,List.flatMap_nil,qE]
theorem Gs{l:List cu}{c n:Nat}(h:∀e∈l,e.tries.length<=c)(b:l.length<=n):(jP l).length<=n*c:=by unfold jP;refine qT (Qw.Bi (c:=c) λe a=>?_) (Nat.mul_le_mul_right _ b);rw[qq,List.length_range];exact h e a
def sP(x:Int×Int×Int):aT:=[xF xL x.1,xF xL x.2.1,xF xN x.2.2]
theorem agx:∀x,∀c∈sP x,c.oneCell'=true:=by intro x c a;simp[sP]at a;rcases a with rfl|rfl|rfl<;>rfl
abbrev eBq:bG C.toAQ 70 73 3 [xF xL 0,xF xL 0,xF xN 0] 24:=⟨_,_,i4,i4,i4,i4,i4,i4⟩
theorem Mw(y:bm)(m:av)(h:Heap)(Y:dh h y m)(M:bf m=true):
  an xP 31 #[dz y] h λv h'=>∃r:Sl,v=r/\Sp h h' [af 73 r 3 sP (jP m.objs)]:=by
 refine ts Tryz.func31 ?_ (.two .n (.two .n (.two (.two .n (.inn (.loop [(3,cL),(11,aQ)] [(3,4),(5,8),(11,37)] (.two .n (.two .n (.two (.inn (.two .n (.two .n (.inn (.loop [(3,cL),(18,aQ)] [(3,4),(6,8),(18,36)] .n))))) .n)))))) .n))) (args:=[y]);have L:m.objs.length<=12:=((bM m).1 M).2.2.2.1;have d:∀e∈m.objs,e.tries.length<=8:=λe H=>by
  have D:=(fB m e).1 (((bM m).1 M).2.2.2.2.1 e H);have V:=lX D.2.2.1.2;omega
 obtain⟨N,O,q2,q3⟩:=bC.kb Y.objs;have ab:=O.len;refine(Sp.refl h).boxed λk D A=>?_;have A:Sp h D [af 73 ⟨none,0,0⟩ 3 sP (jP (m.objs.take 0)),ac k 39 (aA y)]:=((A.nil 73 3 sP).bA [1,0])
 refine⟨y.2.2.2.2.2.2.2,(A.box 1 i4).cell i4,?_⟩;refine aq (λt:Sl×Nat=>(t.1,(t.2:Int))) (λt h'=>t.2<=m.objs.length/\Sp h h' [af 73 t.1 3 sP (jP (m.objs.take t.2)),ac k 39 (aA y)]) (λt=>m.objs.length-t.2) (⟨none,0,0⟩,0) i4 ⟨zi _,A⟩ ?_;rintro⟨u,i⟩ V ⟨R,f⟩;dsimp only at R f⊢;refine ag (λe=>?_) λe=>?_
 rotate_left
 ·have I:i=m.objs.length:=i5
  rw[I,List.take_length]at f;exact⟨u,i4,f.bA [0]⟩
 have a:i<m.objs.length:=i5
 have p:i<N.length:=i5
 obtain⟨E,F⟩:∃E,E=m.objs[i]:=⟨_,rfl⟩
 have U:E.tries.length<=8:=d E (by rw[F];exact qf a);have b:=q3 i p a;rw[<-F]at b;obtain⟨x,l⟩:∃x,x=N[i]:=⟨_,rfl⟩
 rw[<-l]at b;obtain⟨⟨k1,z,k3⟩,K⟩:=b;have T:=K.len;refine(Seq.up O f.ae).cU (g:=bc) i i4 p x (by rw[l]) ?_;refine f.alloc aj i4 λG h3 P=>?_;refine P.storeAll aj 2 i4 i4 (bc x) i4 i4 i4 i4 λZ s=>?_;have s:Sp h Z [af 73 u 3 sP (jP (m.objs.take i)++((qx 0).map λj:Nat=>(E.object,(j:Int),ci E.object j (E.tries.getD j 0)))),ac k 39 (aA y),ac G 88 (bc x)]:=by rw[List.range_zero,List.map_nil,qE];exact s
 refine⟨x.2.2.2,(s.box 2 i4).cell i4,?_⟩;have J:(jP (m.objs.take i)).length<=12*8:=Gs (λe H=>d e (List.mem_of_mem_take H)) i9;refine aq (λt:Sl×Nat=>(t.1,(t.2:Int))) (λt h'=>t.2<=E.tries.length/\Sp h h' [af 73 t.1 3 sP (jP (m.objs.take i)++((qx t.2).map λj:Nat=>(E.object,(j:Int),ci E.object j (E.tries.getD j 0)))),ac k 39 (aA y),ac G 88 (bc x)]) (λt=>E.tries.length-t.2) (u,0) i4 ⟨zi _,s⟩ ?_;rintro⟨u2,j⟩ Q ⟨S,c⟩;dsimp only at S c⊢;refine ag (λe2=>?_) λe2=>?_
 rotate_left
 ·have B:j=E.tries.length:=i5
  refine⟨(u2,i+1),j0,⟨i7,?_⟩,i7⟩
  try dsimp only
  rw[Qc a,<-F,<-B];exact c.bA [0,1]
 have o:j<E.tries.length:=i5
 have W:=Seq.up K c.ae;refine W.bt j i4 o E.tries[j] i4 ?_;have w:=c.box 2 i4;refine⟨x.2.1,w.cell i4,x.2.1,w.cell i4,?_⟩;refine(nC x.2.1 j E.tries[j] Q).mono ?_;rintro _ _ ⟨rfl,rfl⟩;refine⟨_,i4,⟨w.cell i4,trivial⟩,?_⟩;have es:ci x.2.1 j E.tries[j]=ci E.object j (E.tries.getD j 0):=by rw[z,gF 0 o]
 rw[es,z];refine c.nt aj sP eBq i4 [(E.object,(j:Int),ci E.object j (E.tries.getD j 0))] i4 (show 1*3<=2^20 by decide) j4 ⟨by rw[<-z];exact w.cell i4,trivial⟩ ?_;refine c.push aj 0 i4 eBq i4 i6 (λ_=>rfl) agx (E.object,(j:Int),ci E.object j (E.tries.getD j 0)) j4 i6 i9 λu3 X q=>?_;have q:Sp h X [af 73 u3 3 sP ((jP (m.objs.take i)++((qx j).map λj:Nat=>(E.object,(j:Int),ci E.object j (E.tries.getD j 0))))++[(E.object,(j:Int),ci E.object j (E.tries.getD j 0))]),ac k 39 (aA y),ac G 88 (bc x)]:=q;refine⟨⟨by rw[<-z];exact(q.box 2 i4).cell i4,trivial⟩,?_⟩;refine⟨(u3,j+1),j0,⟨i7,?_⟩,i7⟩
 try dsimp only
 rw[List.range_succ,List.map_append,List.map_singleton,<-List.append_assoc];exact q
abbrev sJ(pw b a:Addr)(c:List cj)(w:Pow)(D:aE)(m:av)(d xs:bm):List HP:=[eN ba pw c D,bV 104 pw w,ac b 92 (bQ (aA d) pw 0 c),bh d m,ac a 92 (bQ (aA xs) pw 0 c),bh xs m]
variable {B:aw} {h0 h:Heap} {As:List HP} {a b:Addr} {da:List cj} {w:Pow} {D:aE} {xb xs:bm}
section
variable {pw:Addr}
theorem agX(c:D.length=64)(H:aa B h0 h (sJ pw b a da w D m xb xs++As)):aa B h0 h [bD b pw da 0 w D m]:=Th c (aa.pQ (H.aO 6 [0,1,2,3]))
theorem agY(c:D.length=64)(H:aa B h0 h (sJ pw b a da w D m xb xs++As)):aa B h0 h [bD a pw da 0 w D m]:=Th c (aa.pQ (H.aO 6 [0,1,4,5]))
theorem Zt{ds:aE}(ok:ms da ds)(i:da.length=64)(g:ds.length=64)(h:∀k,k∉m.drives->aV ds k=none):gj (ni m) da=da:=by
 refine List.ext_getElem? λj=>?_;by_cases f:j<64
 ·rw[oP _ _ _ f];have c:da[j]?=some da[j]:=qc i5;have e:da.getD j none=da[j]:=by rw[List.getD_eq_getElem?_getD,c];rfl
  rw[c,e];split
  ·rfl
  ·rename_i d;have a:=h (j:Int) (by unfold ni at d;simpa using d);have b:ds[j]?=some ds[j]:=qc i5;unfold aV at a;rw[g9 i5,Int.toNat_natCast,b]at a;have a:ds[j]=none:=a;rw[a]at b;have:=ok.Ba b;rw[c]at this;injection this with this
   rw[this]
 ·rw[qI (by rw[Ap];omega),qI i5]
end
theorem Mx(c0:Sl)(l:aB)(s1:Sl)(l1:aB)(h:Heap)(hs:Rd h c0 1 ak l)(d1:Rd h s1 1 ak l1):
  an xP 4 #[c0,s1] h λv h'=>v=xJ true/\aP (λb=>b<h.size) h h':=by
 refine ts Tryz.func4 ?_ (.two .n (.two .n (.two (.join [(8,Oi),(9,aQ)] [(8,10),(28,36)] .n) (.two (.join [] [(4,5),(36,42)] .n) (.two (.two .n (.inn (.loop [(46,aQ)] [(11,12),(46,77)] .n))) (.two .n (.two (.join [] [(4,5),(85,107)] .n) (.two (.two .n (.inn (.loop [(110,aQ)] [(4,5),(15,20),(110,139)] .n))) (.two (.two .n (.inn (.loop [(143,aQ)] [(4,5),(21,22),(143,162)] .n))) .n))))))))) [(2,(.y [0,1] (.l [2,3,4,5,6,7,8,9]) (.l [3,2,4,5,6,7,8,9]))),(32,(.l [0,1,2,3,4,6,7,8,9,10,5,11,12,13]))];refine(Rv c0 l h hs).mono ?_;rintro _ h1 ⟨r,rfl,R1⟩;refine⟨(jq l,Vs l,r),i4,R1.alloc aj i4 λX h2 H2=>?_⟩;refine H2.storeAll aj 1 i4 i4 [xF xL (jq l).1,xF xL (jq l).2.1,xF xL (jq l).2.2] i4 i4 i4 i4 λh3 H3=>?_;obtain⟨p,W⟩:∃p,p=jq l:=⟨_,rfl⟩
 obtain⟨E,hE⟩:∃E,E=Vs l:=⟨_,rfl⟩
 have hp:bJ p=true:=by rw[W];exact XV _ _ _
 have b7:p.1<=6/\p.2.2<=9:=by rw[W];unfold jq Bj;(try dsimp only);omega
 have ep:=(bT p).1 hp;have e4:0<=E/\E<=6:=by rw[hE];unfold Vs;omega
 rw[<-W,<-hE];rw[<-W]at H3;have H3:Sp h h3 [ac X 36 [xF xL p.1,xF xL p.2.1,xF xL p.2.2]]:=H3.bA [1];have dx:∀x∈[(300:Int),300,300],1<=x/\x<=512:=i6
 have d0:∀x∈[(300:Int),300,300],2<=x/\x<=512:=i6
 obtain⟨e0,a9⟩:=aej (extra:=E) hp i5 (show 1<=[(300:Int),300,300].length/\[(300:Int),300,300].length<=24 by decide) dx;have ek:p.1*p.2.2<=6*9:=Int.mul_le_mul b7.1 b7.2 i5 i5;refine bL (λ(t:cj×Int) h'=>∃(a pw:Addr) (da:List cj) (D:aE),t=(some a,0)/\D.length=64/\(∀s,aV D s=if s∈bj [300,300,300] [(300:Int),300,300].length then some ⟨([(300:Int),300,300].getD s.toNat 0).toNat,aM (cx p E [300,300,300]),0,[],false,false⟩else none)/\
  Sp h h' [bD a pw da 0 Pow.new D (cx p E [300,300,300]),ac X 36 [xF xL p.1,xF xL p.2.1,xF xL p.2.2]]) ?_ ?_
 ·have held:∀{h':Heap} {A:HP} {Bs:List HP},Sp h h' (A::ac X 36 [xF xL p.1,xF xL p.2.1,xF xL p.2.2]::Bs)->cellOf h' X=some (xF xL p.1)/\cellOf h' (X.add 1)=some (xF xL p.2.1)/\cellOf h' (X.add 2)=some (xF xL p.2.2)/\True:=λ{h' A Bs} H'=>⟨(H'.box 1 i4).cell0 i4,(H'.box 1 i4).cell i4,(H'.box 1 i4).cell i4,trivial⟩
  have fin:∀{h':Heap} {pw:Addr} {v:Sl},Sp h h' [bV 104 pw Pow.new,ac X 36 [xF xL p.1,xF xL p.2.1,xF xL p.2.2],af 3 v 1 ak [300,300,300]]->_:=λ{h' pw v} H'=>Vq p E v [300,300,300] (As:=[ac X 36 [xF xL p.1,xF xL p.2.1,xF xL p.2.2],af 3 v 1 ak [300,300,300]]) (St.eG 1 i4 λh' J=>J.1.seq (λ_=>rfl) J.2) i6 e0 i4 H';refine⟨p,(H3.box 0 i4).aF _ i4,?_,?_⟩
  ·refine(Eb h3).mono ?_;rintro _ h4 ⟨pw,rfl,R4⟩;have H4:=H3.cb R4;refine⟨_,i4,held H4,H4.lit aj ak fN i4 [300,300,300] i4 (show 3*1<=2^20 by decide) i4 λv5 h5 H5=>⟨held H5,(fin H5).mono ?_⟩⟩;rintro _ h6 ⟨a,da,D,rfl,f2,f3,H6⟩;exact⟨(some a,0),i4,trivial,a,pw,da,D,i4,f2,f3,H6.bA [0,1]⟩
  ·refine H3.lit aj ak fN i4 [300,300,300] i4 (show 3*1<=2^20 by decide) i4 λv7 h7 H7=>⟨⟨(H7.box 0 i4).cell0 i4,(H7.box 0 i4).cell i4,(H7.box 0 i4).cell i4,trivial⟩,(Eb h7).mono ?_⟩
   rintro _ h8 ⟨pw,rfl,R8⟩;have H8:=H7.cb R8;refine⟨_,i4,held H8,(fin H8).mono ?_⟩;rintro _ h9 ⟨a,da,D,rfl,f2,f3,H9⟩;exact⟨(some a,0),i4,trivial,a,pw,da,D,i4,f2,f3,H9.bA [0,1]⟩
 rintro⟨_,_⟩ ea ⟨a,pw,da,D,he,f2,f3,a4⟩;injection he with he1 he2
 subst he1 he2;have I0:Os 0 p (cx p E [300,300,300]) (λ_=>[]) D:=by obtain⟨S0,F0,_⟩:=Yz (m:=cx p E [300,300,300]) rfl e0 i6 f2 f3 λ_=>[];exact⟨Wt.fresh e0 a9 i6 d0 f2 f3,S0,F0,by rw[show(cx p E [300,300,300]).drives=bj [300,300,300] [(300:Int),300,300].length from i4,a9];decide⟩
 refine aW (bx (λe=>absurd i4 e) λ_=>bo (λe=>j3) λ_=>?_);refine⟨p,(a4.box 1 i4).aF _ i4,?_⟩;refine(Vu p s1 l1 9 ea hp (d1.up a4.ae) i6).mono ?_;rintro _ c4 ⟨q,M,rfl,hM,el,ao⟩;obtain⟨rs,ao⟩:=ao.JQ 0 rfl λ_=>rfl;have O:Sp h c4 [bD a pw da 0 Pow.new D (cx p E [300,300,300]),ac X 36 [xF xL p.1,xF xL p.2.1,xF xL p.2.2],cM ma 9 nW q rs M]:=a4.comp ao;have O:=O.bA [0,2];refine⟨q,i4,?_⟩;have et:q.len=M.length:=by rw[(O.fa 1 i4).1.len,(O.fa 1 i4).2.1]
 refine aq (λi:Nat=>(i:Int)) (λi h'=>i<=M.length/\∃da ds m C,Os i p m C ds/\Sp h h' [bD a pw da 0 Pow.new ds m,cM ma 9 nW q rs M]) (λi=>M.length-i) 0 i4 ⟨i5,da,D,_,_,I0,O⟩ ?_;rintro i c9 ⟨hi,da,ds,m,C,I,B⟩
 try dsimp only
 have f:=I.wt.may;refine ag (λe=>?_) λe=>?_
 ·have T:i<M.length:=i5
  have hF:=B.fa 1 i4;have d4:i<rs.length:=by rw[hF.2.1];exact T
  have next:∀{h':Heap} {ab:List cj} {ds':aE} {m':av} {C':Int->aL} {b2:List HP},Os (i+1) p m' C' ds'->Sp h h' (bD a pw ab 0 Pow.new ds' m'::cM ma 9 nW q rs M::b2)->
    ∃t:Nat,(qe xL ((i:Int)+1):Int)=(t:Int)/\(t<=M.length/\∃da ds m C,Os t p m C ds/\Sp h h' [bD a pw da 0 Pow.new ds m,cM ma 9 nW q rs M])/\M.length-t<M.length-i:=λ{h' ab ds' m' C' b2} I' H'=>
   ⟨i+1,j1,⟨i5,ab,ds',m',C',I',H'.aO 2 [0,1]|>λz=>aa.pQ (As:=[_,_]) z⟩,i5⟩
  refine hF.1.cU i i4 d4 rs[i] i4 ?_;refine B.alloc aj i4 λbd e3 du=>?_;refine du.storeAll aj 2 i4 i4 (nW rs[i]) i4 i4 i4 i4 λdy u=>?_;have u:Sp h dy [bD a pw da 0 Pow.new ds m,cM ma 9 nW q rs M,ac bd 61 (nW rs[i])]:=u;have S:=u.box 2 i4;obtain⟨⟨k1,k2,k3,k4,k5,k6,kc⟩,kd,_,_⟩:=Fix.row (u.fa 1 rfl) T;have hk:nk p M[i]:=hM _ (qf T);refine⟨rs[i].1,S.cell0 i4,cH (λe1=>?_) λ_=>cH (λe1=>?_) λ_=>cH (λe1=>?_) λ_=>cH (λe1=>?_) λ_=>next I.more u⟩
  ·obtain⟨n1,n2⟩:=nk.put hk (k1.symm.trans e1);refine⟨rs[i].2.1,S.cell i4,rs[i].2.2.1,S.cell i4,?_⟩;rw[k2];refine(aef (As:=[cM ma 9 nW q rs M,ac bd 61 (nW rs[i])]) M[i].name rs[i].2.2.1 M[i].data (St.eG (A:=cM ma 9 nW q rs M) 0 i4 λh' J=>(Fix.row J T).2.1) kc (by have:=abt _ n1;omega) f i5 u).mono ?_;rintro _ ar ⟨rfl,c⟩;obtain⟨e,m',C',ds',J,I'⟩:=I.put n1 n2 λk d Q=>((ka c).2 k d Q).1;rw[J]at c;exact⟨_,i4,next I' c⟩
  ·refine⟨rs[i].2.1,S.cell i4,(Vr rs[i].2.1 f u).mono ?_⟩;rintro _ ar ⟨rfl,c⟩;obtain⟨e,m',ds',J,I'⟩:=I.del rs[i].2.1 λk d Q=>((ka c).2 k d Q).1;rw[J]at c;exact⟨_,i4,next I' c⟩
  ·obtain⟨t1,t2,t3⟩:=(nk.cg hk).1 (k1.symm.trans e1);refine⟨rs[i].2.2.2.1,S.cell i4,?_⟩;refine(aeg rs[i].2.2.2.1 200 f u).mono ?_;rintro _ ar ⟨rfl,ab,c⟩;obtain⟨e,m',ds',J,I'⟩:=I.add (slot:=rs[i].2.2.2.1) (cells:=200) (by rw[k3];exact t1) i6 λk d Q=>((ka c).2 k d Q).1;rw[J]at c;exact⟨_,i4,next I' c⟩
  ·refine(VT 0 5 f i6 u).mono ?_;rintro _ ar ⟨rfl,c⟩;obtain⟨s2,I'⟩:=I.agW;rw[s2]at c;exact⟨(_,_),i4,next I'.more c⟩
 have B:Sp h c9 [bD a pw da 0 Pow.new ds m]:=B.bA [0];have cr:=λk d Q=>((ka B).2 k d Q).1;obtain⟨M0,Hh⟩:=I.wt.hi;obtain⟨n1,n2,D,o1,o2,I2⟩:=(I.mono (show i<=9 by omega)).opened (Nat.le_refl _) cr;have ca:=I2.wt.len;refine(Yx B).mono ?_;rintro _ _ ⟨rfl,rfl⟩;refine⟨some pw,i4,(VX B).mono ?_⟩;rintro _ dp ⟨lv,rfl,c5⟩;have cs:=B.comp c5;obtain⟨xs,dk,R⟩:=Qb cs;have R:Sp h dp [eN ba pw da ds,bV 104 pw Pow.new,ac a 92 (bQ (aA xs) pw 0 da),bh xs m,af 44 lv 1 iP da]:=R;have ed:gj (ni m) da=da:=Zt (aa.abD R) dk.la I.wt.len λk hk=>by
  cases Q:aV ds k with
  |none=>rfl
  |some d=>exact absurd (Hh.at_ k d Q) hk
 refine⟨lv,i4,(LV (As:=[ac a 92 (bQ (aA xs) pw 0 da),bh xs m,af 44 lv 1 iP da]) lv (St.eG 2 i4 λh' J=>J.1.seq (λ_=>rfl) J.2) (by have:=I.wt.len;omega) (R.own 4 i4).cap n2 (λm' Y=>by rw[n1]at Y;injection Y with Y;rw[<-Y];exact f) R).mono ?_⟩;rintro _ d5 ⟨_,Q1⟩;have Q1:=Q1 m n1;rw[o1]at Q1;obtain⟨b,rfl,al⟩:=Q1.2 rfl;dsimp only at al;rw[o2,ed]at al;obtain⟨xb,_,P⟩:=Qb al;have P:Sp h d5 (sJ pw b a da Pow.new D m xb xs):=P.bA [0,1,2,3,4,5];have Pb:∀{h':Heap} {Bs:List HP},Sp h h' (sJ pw b a da Pow.new D m xb xs++Bs)->Sp h h' [bD b pw da 0 Pow.new D m]:=λP=>agX ca P;have Pa:∀{h':Heap} {Bs:List HP},Sp h h' (sJ pw b a da Pow.new D m xb xs++Bs)->Sp h h' [bD a pw da 0 Pow.new D m]:=λP=>agY ca P;have hz:=iC f;obtain⟨live,F⟩:∃live,live=aU D m.drives:=⟨_,rfl⟩
 have c6:live.length<=64:=by rw[F];exact qT (List.length_filter_le _ _) (gy f)
 refine⟨(some b,0),i4,bL (λ(_:Unit) h'=>Sp h h' (sJ pw b a da Pow.new D m xb xs)) ?_ ?_⟩
 ·refine bx (λe=>absurd i4 e) λ_=>bo (λe=>j3) λ_=>(CE f (Pb (Bs:=[]) P)).mono ?_;rintro _ e6 ⟨y1,rfl,b9⟩;have b5:=P.comp b9;refine⟨y1,i4,(CE f (Pa b5)).mono ?_⟩;rintro _ dr ⟨y2,rfl,cc⟩;have cd:=b5.comp cc;refine⟨y2,i4,(Kx y1 y2 m dr (cd.at 6 i4) (cd.at 7 i4) hz).mono ?_⟩;rintro _ cq ⟨rfl,d9⟩;have a5:Sp h cq (sJ pw b a da Pow.new D m xb xs):=((P.up b9.ae).up cc.ae).up d9.ae;refine⟨true,i4,aR (λe=>j3) λ_=>(Hq f (Pb (Bs:=[]) a5)).mono ?_⟩;rintro _ ew ⟨b4,rfl,a7⟩;have br:=a5.comp a7;refine⟨b4,i4,(Hq f (Pa br)).mono ?_⟩;rintro _ d7 ⟨b3,rfl,cn⟩;have a1:=br.comp cn;rw[<-F]at a1;refine⟨b3,i4,(Bh b4 b3 live live d7 (a1.seq 6 i4 λ_=>rfl) (a1.seq 7 i4 λ_=>rfl) i5).mono ?_⟩;rintro _ _ ⟨rfl,rfl⟩;rw[hY rfl];exact⟨true,i4,aR (λe=>j3) λ_=>(a5.up a7.ae).up cn.ae⟩
 rintro _ es bl;refine(abN f (Pb (Bs:=[]) bl)).mono ?_;rintro _ er ⟨ay,rfl,cf⟩;have en:sn m 0 Pow.new=m.objs.map Qw.cu.name:=by unfold sn;rfl
 obtain⟨N,hN⟩:∃N,N=m.objs.map Qw.cu.name:=⟨_,rfl⟩
 rw[en,<-hN]at cf;have bq:=bl.comp cf;have eg:ay.len=N.length:=(bq.own 6 i4).len;have eh:N.length<=12:=by rw[hN,qq];exact((bM m).1 f).2.2.2.1
 have b6:∀x∈N,∃w:aL,nN m 0 Pow.new D x=(w,0)/\w.length<=2^40:=by
  rw[hN];intro x hx;obtain⟨e,he,rfl⟩:=List.mem_map.1 hx;refine⟨C e.object,?_,?_⟩
  ·rw[(I2.sto.get i4 e.name).1 e he i4,g9 (I2.full.can I2.sto I2.ne he)]
  ·have q1:=(I2.sto.ents e he).1;have q2:=(I2.wt.ent e he).2;omega
 refine⟨ay,i4,?_⟩;refine aq (λj:Nat=>(j:Int)) (λj h'=>j<=N.length/\Sp h h' (sJ pw b a da Pow.new D m xb xs++[af 9 ay 1 AL N])) (λj=>N.length-j) 0 i4 ⟨zi _,bq⟩ ?_;rintro j c2 ⟨hj,o⟩
 try dsimp only
 refine ag (λe=>?_) λe=>?_
 ·have G:j<N.length:=i5
  obtain⟨w,L,c7⟩:=b6 _ (qf G);refine(o.seq 6 i4 λ_=>rfl).bt j i4 G N[j] i4 ?_;refine(Tg N[j] f (Pb o)).mono ?_;rw[L];rintro _ eo ⟨b0,rfl,ap⟩;have c1:=o.comp ap;refine⟨(b0,0),i4,(Tg N[j] f (Pa (o.up ap.ae))).mono ?_⟩;rw[L];rintro _ d3 ⟨cl,rfl,bk⟩;have cp:=c1.comp bk;refine⟨(cl,0),i4,bx (λe=>absurd i4 e) λ_=>bx (λe=>absurd i4 e) λ_=>?_⟩;refine(Ut b0 cl w w d3 (cp.at 7 i4) (cp.at 8 i4) c7).mono ?_;rintro _ _ ⟨rfl,rfl⟩;rw[hY rfl];exact⟨true,i4,aR (λe=>j3) λ_=>⟨j+1,j1,⟨G,(o.up ap.ae).up bk.ae⟩,i5⟩⟩
 have o:Sp h c2 (sJ pw b a da Pow.new D m xb xs):=o.bA [0,1,2,3,4,5];refine(CE f (Pa (Bs:=[]) o)).mono ?_;rintro _ ee ⟨y,rfl,bb⟩;have eb:=o.comp bb;refine⟨y,i4,(Mw y m ee (eb.at 6 i4) f).mono ?_⟩;rintro _ ec ⟨K,rfl,a8⟩;obtain⟨w,L⟩:∃w,w=jP m.objs:=⟨_,rfl⟩
 rw[<-L]at a8;have ah:Sp h ec (sJ pw b a da Pow.new D m xb xs++[af 73 K 3 sP w]):=(o.up bb.ae).comp a8;have ef:w.length<=12*8:=by rw[L];refine Gs (λe he=>?_) ((bM m).1 f).2.2.2.1;have h1:=(fB m e).1 (((bM m).1 f).2.2.2.2.1 e he);have h2:=lX h1.2.2.1.2;omega
 have ei:K.len=w.length:=(ah.own 6 i4).len;have b1:∀k d,aV D k=some d->d.l.length<=512:=λk d Q=>by
  have:=(ka (Pb ah)).2 k d Q;omega
 refine⟨K,i4,?_⟩;refine aq (λj:Nat=>(j:Int)) (λj h'=>j<=w.length/\Sp h h' (sJ pw b a da Pow.new D m xb xs++[af 73 K 3 sP w])) (λj=>w.length-j) 0 i4 ⟨zi _,ah⟩ ?_;rintro j d2 ⟨hj,ax⟩
 try dsimp only
 refine ag (λe=>?_) λe=>?_
 ·have G:j<w.length:=i5
  obtain⟨x,hx⟩:∃x,x=w[j]:=⟨_,rfl⟩
  refine(ax.seq 6 i4 λ_=>rfl).cU (g:=sP) j i4 G x (by rw[hx]) ?_;refine ax.alloc aj i4 λdj eq d8=>?_;refine d8.storeAll aj 7 i4 i4 (sP x) i4 i4 i4 i4 λc8 H=>?_;have H:Sp h c8 (sJ pw b a da Pow.new D m xb xs++[af 73 K 3 sP w,ac dj 73 (sP x)]):=H;have S:=H.box 7 i4;refine⟨x.1,S.cell0 i4,x.2.1,S.cell i4,x.1,S.cell0 i4,x.2.1,S.cell i4,(ES x.1 x.2.1 f (Pb H)).mono ?_⟩;rintro _ ej ⟨am,rfl,a3⟩;obtain⟨V,hV⟩:∃V,V=dF m D x.1 x.2.1 (aU D m.drives):=⟨_,rfl⟩
  rw[<-hV]at a3;have e5:V.length<=64:=by rw[hV];unfold dF;rw[qq,<-F];exact c6
  have d6:∀l∈V,l.length<=2^40:=λl hl=>by
   rw[hV]at hl;obtain⟨k,_,rfl⟩:=Fb hl;rw[qq];exact qT (CI b1) i6
  have Z:=H.up a3.ae;have ad:=Z.box 7 i4;refine⟨am,i4,⟨ad.cell i4,ad.cell0 i4,trivial⟩,(ES x.1 x.2.1 f (Pa Z)).mono ?_⟩;rintro _ a0 ⟨a6,rfl,U⟩;rw[<-hV]at U;have e1:dQ (bC (cm 1 ak) 1 bg) a0 am V:=by obtain⟨ws,z1,z2,z3⟩:=aa.rP ((H.cb a3).up U.ae) λ_=>rfl;exact⟨ws,z1,z2,z3⟩
  have e2:dQ (bC (cm 1 ak) 1 bg) a0 a6 V:=by obtain⟨ws,z1,z2,z3⟩:=aa.rP (Z.cb U) λ_=>rfl;exact⟨ws,z1,z2,z3⟩
  refine⟨a6,i4,trivial,(KF am a6 V V a0 e1 e2 i5 d6).mono ?_⟩;rintro _ _ ⟨rfl,rfl⟩;rw[hY rfl];exact⟨true,i4,trivial,aR (λe=>j3) λ_=>⟨j+1,j1,⟨G,(Z.up U.ae).bA [0,1,2,3,4,5,6]⟩,i5⟩⟩
 ·refine(Qa d2).mono ?_;rintro _ ez ⟨rfl,dd⟩;exact⟨true,i4,i4,(ax.up dd.ae).ae⟩
theorem FO(s:Sl)(l:aB)(c:Sl)(l1:aB)(h:Heap)(d:Rd h s 1 ak l)(a:Rd h c 1 ak l1):
  an xP 4 #[s,c] h λv h'=>v=xJ true/\aP (λb=>b<h.size) h h':=Mx s l c l1 h d a
end Go.Qw
