/- Lemmas for the proof of the law; no condition. -/
import Derived.Test.YtnjommcknbionaaGreatDoorKC
set_option linter.unusedVariables false
set_option linter.unusedSimpArgs false
open Go.Proofs.Tryz renaming prog -> vV
open Nat renaming add_zero -> wH, le_refl -> qt, le_trans -> zh, lt_trichotomy -> wV, min_eq_left -> wu, succ_mul -> zy, zero_le -> zJ
open List renaming all_eq_true -> qT, any_eq_false -> wA, append_assoc -> qm, append_nil -> qU, countP_le_length -> vg, drop_drop -> zo, drop_eq_getElem_cons -> qL, filterMap_append -> yc, filter_append -> zf, filter_cons -> zu, find?_eq_none -> w8, flatMap_cons -> zg, getElem?_eq_getElem -> qd, getElem_append_left -> yQ, getElem_append_right -> yf, getElem_mem -> qn, getElem_of_mem -> qQ, length_append -> qp, length_cons -> zc, length_drop -> qR, length_filterMap_le -> yS, length_filter_le -> zt, length_map -> qC, length_take -> qO, map_append -> zi, map_cons -> zS, map_map -> wJ, map_nil -> vw, mem_append -> qE, mem_cons -> zl, mem_cons_of_mem -> zj, mem_cons_self -> qV, mem_map -> qH, mem_range -> qF, mem_singleton -> qB, pairwise_iff_getElem -> zb, range -> qz, range_succ -> zx, replicate -> qi, set_eq_take_append_cons_drop -> zX, take_append_drop -> qy, take_length -> za, take_of_length_le -> qj, take_succ_eq_append_getElem -> zp
open Bool renaming and_eq_true -> qA, eq_iff_iff -> vq, false_eq_true -> q0, not_false -> we, not_true -> zY, true_and -> zK
open Prod renaming fst -> qP
open Int renaming ediv_nonneg -> vo, emod_lt_of_pos -> wK, emod_nonneg -> yg, toNat_natCast -> qo
open Go.Value renaming agg -> vQ, bool -> vP, int -> vL, pointer -> vN, slice -> vM, string -> vO
open Go.IntKind renaming bits -> qf, i64 -> vR, signed -> wS, u32 -> vT, u8 -> vS, wrap -> qc
open Go.Instr renaming storeAt -> qe
open BitVec renaming ofInt -> qq
set_option maxRecDepth 100000
namespace Go.Qw
open Go Go.Vc Go.Proofs Wl
section
variable {B:ap} {h0 h:Heap} {As:List HP}
end
section
variable {B:ap} {h0 h:Heap} {As:List HP}
structure rl {α:Type} (g:α->Bool) (l l':List α) (i j:Nat):Prop where
 len:l'.length=l.length
 le:i<=j
 pre:l'.take i=(l.take j).filter fun x=>!g x
 post:l'.drop j=l.drop j
theorem rl.at_{α:Type}{g:α->Bool}{l b:List α}{i j:Nat}(x:rl g l b i j)(a:j<l.length):b[j]'(by rw[x.len];exact a)=l[j]:=by
 have h:=congrArg (fun m=>m[0]?) x.post;simp only[List.getElem?_drop,wH]at h;rw[qd a,qd (by rw[x.len];exact a)]at h;exact Option.some.inj h
theorem rl.keep{α:Type}{g:α->Bool}{l a:List α}{i j:Nat}(x:rl g l a i j)(b:j<l.length)(e:g l[j]=false):rl g l (a.set i l[j]) (i+1) (j+1):=by
 have f:=x.len;have c:=x.le;refine⟨by simp[f],by omega,?_,?_⟩
 ·rw[aO _ _ (by simp;omega),List.getElem_set_self,List.take_set_of_le (qt _),x.pre,aO _ _ b,zf,zu,e];rfl
 ·rw[List.drop_set_of_lt (by omega)];have d:=congrArg (List.drop 1) x.post;simpa[zo]using d
theorem rl.skip{α:Type}{g:α->Bool}{l a:List α}{i j:Nat}(x:rl g l a i j)(b:j<l.length)(e:g l[j]=true):rl g l a i (j+1):=by
 have f:=x.len;have c:=x.le;refine⟨f,by omega,?_,?_⟩
 ·rw[x.pre,aO _ _ b,zf,zu,e];simp
 ·have d:=congrArg (List.drop 1) x.post;simpa[zo]using d
end
section
variable {B:ap} {h0 h:Heap} {As:List HP}
end
section
variable {B:ap} {h0 h:Heap} {As:List HP}
end
section
variable {B:ap} {h0 h:Heap} {As:List HP}
end
end Go.Qw
namespace Wl
def EQ(p:Int×Int×Int)(x:Int×Row):Bool:=bD x.1&&decide ((x.2.length:Int)=p.2.2)
theorem Qz{p:Int×Int×Int}{x:Int×Row}(c:bC p=true):EQ p x=true↔DA p x:=by
 have:=(bS p).1 c;unfold EQ;rw[qA,decide_eq_true_iff];exact⟨fun⟨a,b⟩=>⟨a,by omega⟩,fun h=>⟨h.id,by have:=h.len;omega⟩⟩
def Sx(p:Int×Int×Int)(seed:Int)(X:aT)(i:Nat):Row:=(qz i).flatMap fun j:Nat=>eI p.2.2.toNat X (dM (ck p).toNat seed (j:Int))
open Classical in
noncomputable def Kq(p:Int×Int×Int)(seed:Int)(l:List (Int×Row)):Row×Int:=
 if bC p&&l.all (EQ p)then
  if fz p seed (l.map qP)then
   if HR (ck p).toNat (dY p seed (l.map qP)) (tv p l)then(Sx p seed (iN (ck p).toNat (dY p seed (l.map qP)) (tv p l)) p.1.toNat,0)else([],10)
  else([],9)
 else([],1)
end Wl
namespace Go.Qw
open Go Go.Vc Go.Proofs Wl
end Go.Qw
namespace Wl
section
variable {p:Int×Int×Int} {seed:Int} {d:Row} {K H w n:Nat}
def iY(p:Int×Int×Int)(seed:Int)(X:aT)(a:aB):List (Int×Row):=a.map fun i=>(i,eI p.2.2.toNat X (dM (ck p).toNat seed i))
theorem bx.size(B:bx p seed d K H w n):p.2.2.toNat=w:=by have:=B.s;omega
theorem CR(X:aT)(a:aB):(iY p seed X a).map qP=a:=by simp[iY,wJ,Function.comp_def]
theorem bx.Kr(B:bx p seed d K H w n){a:aB}(hid:∀i∈a,bD i=true):(iY p seed (dz p seed d) a).all (EQ p)=true:=qT.2 fun x c=>by
 obtain⟨i,b,rfl⟩:=qH.1 c;refine(Qz B.may).2 ⟨hid i b,?_⟩;dsimp only;rw[B.size,B.lE];exact B.OY i
theorem ER{α β:Type}{f g:α->List β}:∀(l:List α),(∀x∈l,f x=g x)->l.flatMap f=l.flatMap g
 |[],_=>rfl
 |a::l,h=>by rw[zg,zg,h a (by simp),ER l fun x b=>h x (by simp[b])]
theorem GY(d:Row)(w:Nat):∀i,i*w<=d.length->(qz i).flatMap (Go.Vc.xc d w)=d.take (i*w)
 |0,_=>by simp
 |i+1,h=>by
  have e:(i+1)*w=i*w+w:=zy i w;rw[zx,List.flatMap_append,GY d w i (by omega),e,List.take_add];simp[Go.Vc.xc]
theorem bx.out(B:bx p seed d K H w n):Sx p seed (dz p seed d) p.1.toNat=d:=by
 have b:p.1.toNat=K:=by have:=B.k;omega
 unfold Sx;rw[b,B.size,B.lE];have:(qz K).flatMap (fun j:Nat=>eI w (dz p seed d) (dM n seed (j:Int)))=(qz K).flatMap (Go.Vc.xc d w):=by
  exact ER _ fun j a=>B.Rx (qF.1 a)
 rw[this,GY d w K (by rw[B.len];exact qt _),qj (by rw[B.len];exact qt _)]
theorem bx.QA(B:bx p seed d K H w n){a:aB}(hid:∀i∈a,bD i=true):Wl.ky n w (dY p seed a) (tv p (iY p seed (dz p seed d) a)) (dz p seed d):=by
 have m:a.filter bD=a:=List.filter_eq_self.2 hid;have o:dY p seed a=bK K H++a.map (lr n seed):=by
  unfold dY;rw[B.may,if_pos rfl,m,B.lE];have l:p.1.toNat=K:=by have:=B.k;omega
  have e:p.2.1.toNat=H:=by have:=B.h;omega
  rw[l,e]
 have q:tv p (iY p seed (dz p seed d) a)=qi H (aZ w)++a.map fun i=>eI w (dz p seed d) (dM n seed i):=by
  unfold tv iY;have e:p.2.1.toNat=H:=by have:=B.h;omega
  rw[e,B.size,B.lE,wJ];rfl
 refine⟨B.ng.1,B.ng.2,fun i j=>?_⟩;rw[o]at j⊢;rw[q];have c:(bK K H).length=H:=by simp[bK]
 simp only[qp,qC,c]at j;by_cases b:i<H
 ·have g:az (bK K H++a.map (lr n seed)) i=iL K H i:=by
   rw[bE (by simp;omega),yQ (by omega)];simp[bK]
  have f:az (qi H (aZ w)++a.map fun i=>eI w (dz p seed d) (dM n seed i)) i=aZ w:=by
   rw[bE (by simp;omega),yQ (by simpa using b)];simp
  rw[g,f];exact B.low b
 ·have g:az (bK K H++a.map (lr n seed)) i=lr n seed (a[i-H]'(by omega)):=by
   rw[bE (by simp;omega),yf (by omega)];simp[c]
  have f:az (qi H (aZ w)++a.map fun i=>eI w (dz p seed d) (dM n seed i)) i=eI w (dz p seed d) (dM n seed (a[i-H]'(by omega))):=by
   rw[bE (by simp;omega),yf (by simpa using b)];simp
  rw[g,f,B.sym]
theorem QB{l:List (Int×Row)}(b:∀x∈l,DA p x):aW p.2.2.toNat (tv p l):=fun x a=>by
 rcases qE.1 a with a|a
 ·rw[(List.mem_replicate.1 a).2];simp[aZ]
 ·obtain⟨y,c,rfl⟩:=qH.1 a;exact(b y c).len
theorem LB(a:bC p=true){l:List (Int×Row)}(b:∀x∈l,DA p x):(dY p seed (l.map qP)).length=(tv p l).length:=by
 rw[<-Wm (n:=(ck p).toNat) (seed:=seed) a rfl b,<-Wn (n:=(ck p).toNat) (seed:=seed) (p:=p) (l:=l) rfl];exact Uj
theorem QC(b:bC p=true){a:aB}:fz p seed a=true↔cR (dY p seed a)=(ck p).toNat:=by
 have:=Cl b;have:=(bS p).1 b;unfold fz HQ;rw[b,zK];simp;omega
theorem bx.dec(B:bx p seed d K H w n){a:aB}(hid:∀i∈a,bD i=true)(c:fz p seed a=true):Kq p seed (iY p seed (dz p seed d) a)=(d,0):=by
 have b:∀x∈iY p seed (dz p seed d) a,DA p x:=fun x j=>(Qz B.may).1 (qT.1 (B.Kr hid) x j);have h:=B.QA hid;have e:=LB (seed:=seed) B.may b;rw[CR]at e;have g:=(QC B.may).1 c;have f:=tl e (xt p seed a) (QB b) g (by rw[B.lE,B.size];exact h);unfold Kq;rw[B.may,B.Kr hid,CR,c];simp only[Bool.and_self,if_true];rw[if_pos f.2,<-f.1,B.out]
theorem Sy(b:bC p=true){l:List (Int×Row)}(c:l.all (EQ p)=true)(a:fz p seed (l.map qP)=false):Kq p seed l=([],9):=by
 unfold Kq;rw[b,c,a];rfl
end
end Wl
namespace Go.Qw
open Go Go.Vc Go.Proofs Wl
end Go.Qw
namespace Wl
section
variable {p:Int×Int×Int} {seed:Int} {d:Row} {K H w n:Nat}
end
section
variable {p:Int×Int×Int} {seed:Int} {d:Row} {K H w n:Nat}
end
end Wl
namespace Go.Qw
open Go Go.Vc Go.Proofs Wl
theorem lT{m:aC}{r:cJ}:di m r=true↔eX r=true/\r.p=m.p/\∃x∈m.aF,x.object=r.object/\r.block<(x.tries.length:Int)/\r.seed=cY r.object r.block (x.tries.getD r.block.toNat 0):=by
 unfold di;rw[qA,qA,decide_eq_true_eq,List.any_eq_true];simp only[qA,decide_eq_true_eq]
theorem Sz{m:aC}(d:bN m=true){x y:Wl.ca}(f:x∈m.aF)(e:y∈m.aF)(h:x.object=y.object):x=y:=by
 have b:=zb.1 ((dp m).1 d).2.2.2.2.2.2;obtain⟨i,c,rfl⟩:=qQ f;obtain⟨j,a,rfl⟩:=qQ e;rcases wV i j with hl|rfl|hl
 ·exact absurd h (b i j c a hl)
 ·rfl
 ·exact absurd h.symm (b j i a c hl)
theorem QD{m:aC}(d:bN m=true){x y:Wl.ca}(f:x∈m.aF)(e:y∈m.aF)(h:x.name=y.name):x=y:=by
 have b:=zb.1 ((dp m).1 d).2.2.2.2.2.1;obtain⟨i,c,rfl⟩:=qQ f;obtain⟨j,a,rfl⟩:=qQ e;rcases wV i j with hl|rfl|hl
 ·exact absurd h (Am (b i j c a hl))
 ·rfl
 ·exact absurd h.symm (Am (b j i a c hl))
def lU(m:aC)(C:Int->aQ)(o b:Int):aQ:=(splitB m.p (C o)).getD b.toNat []
def FO(m:aC)(C:Int->aQ)(r:cJ):Prop:=r.data=ug m.p r.seed (lU m C r.object r.block) r.id
structure pB (m:aC) (C:Int->aQ) (c:aQ):Prop where
 old:∀r,bR c=some r->r.object<m.next
 tru:∀r,bR c=some r->di m r=true->FO m C r
 page:∀g,Av c=some g->g.seq<=m.seq/\(g.seq=m.seq->c∈bc m)
theorem QE{m:aC}{l:cu}{r:cJ}(h:r∈gU m l):cB r∈l/\bR (cB r)=some r/\di m r=true:=by
 obtain⟨c,d,a,b⟩:=EK h;rw[(MI a).1];exact⟨d,a,b⟩
theorem NV{m n:aC}{C D:Int->aQ}{o b:Int}(a:n.p=m.p)(h:D o=C o):lU n D o b=lU m C o b:=by unfold lU;rw[a,h]
theorem FO.congr{m n:aC}{C D:Int->aQ}{r:cJ}(a:n.p=m.p)(b:D r.object=C r.object)(h:FO m C r):FO n D r:=by
 unfold FO at h⊢;rw[NV a b,a];exact h
theorem NW{m n:aC}{r:cJ}(c:n.p=m.p)(a:∀x∈n.aF,x∈m.aF)(h:di n r=true):di m r=true:=by
 obtain⟨d,b,x,e,h3⟩:=lT.1 h;exact lT.2 ⟨d,by rw[b,c],x,a x e,h3⟩
theorem pB.next{m n:aC}{C:Int->aQ}{c:aQ}(h:pB m C c)(d:n.p=m.p)(k:m.next<=n.next)(j:m.seq<n.seq)(a:∀x∈n.aF,x∈m.aF):pB n C c:=
 ⟨fun r b=>by have:=h.old r b;omega,fun r b f=>(h.tru r b (NW d a f)).congr d rfl,fun g i=>by have:=(h.page g i).1;exact⟨by omega,fun e=>by omega⟩⟩
def VY(C:Int->aQ)(o:Int)(b:aQ):Int->aQ:=fun k=>if k=o then b else C k
theorem pB.with{m:aC}{C:Int->aQ}{e:Wl.ca}{b c:aQ}(h:pB m C c)(o:e.object=m.next):pB (fy m e) (VY C m.next b) c:=by
 refine⟨fun r a=>?_,fun r a n=>?_,fun g j=>?_⟩
 ·have:=h.old r a;show r.object<m.next+1;omega
 ·have f:=h.old r a;obtain⟨l,i,x,d,h3,k⟩:=lT.1 n;rcases Kc.1 d with d|rfl
  ·refine(h.tru r a (lT.2 ⟨l,i,x,d,h3,k⟩)).congr (m:=m) rfl ?_;unfold VY;rw[if_neg (by omega)]
  ·omega
 ·have:=(h.page g j).1;show g.seq<=m.seq+1/\(g.seq=m.seq+1->_)
  exact⟨by omega,fun e=>by omega⟩
structure mq (m:aC) (C:Int->aQ) (ds:aR):Prop where
 may:bN m=true
 len:ds.length=64
 cells:∀k d,bF ds k=some d->∀c∈d.l,pB m C c
 ents:∀e∈m.aF,((C e.object).length:Int)=e.length/\cy m.p e.object (splitB m.p (C e.object)).length=some e.tries
theorem mq.old{m:aC}{C:Int->aQ}{ds:aR}(S:mq m C ds){e:Wl.ca}(a:e∈m.aF):e.object<m.next:=((jB m e).1 (((dp m).1 S.may).2.2.2.2.1 e a)).2.1.2
end Go.Qw
namespace Wl
open Go Go.Qw Go.Vc
def NX(p:Int×Int×Int)(bl:cu)(n:Int):aQ:=if bC p=true/\0<=n/\(bl.length:Int)=countP p n/\(bl.all fun x=>decide (x.length=cZ p))=true then bl.flatten.take n.toNat else[]
noncomputable def lV(m:aC)(ds:aR)(o:Int)(a:aB)(k:Nat):aQ×Int:=Kq m.p (cY o k (a.getD k 0)) (ui m ds (bB ds m.drives) o k)
def VZ(m:aC)(ds:aR)(k:Int):Bool:=match bF ds k with|some d=>VS m d.l|none=>false
def CS(m:aC)(ds:aR):Bool:=(bB ds m.drives).any (VZ m ds)
noncomputable def Ks(m:aC)(ds:aR)(e:ca):aQ×Int:=
 if CS m ds=false then([],11)else if((qz e.tries.length).all fun k=>decide ((lV m ds e.object e.tries k).2=0))=true then(NX m.p ((qz e.tries.length).map fun k=>(lV m ds e.object e.tries k).1) e.length,0)else([],11)
noncomputable def NY(m:aC)(offs:Int)(w:Pow)(ds:aR)(name:ByteArray):aQ×Int:=
 if fm w offs then([],14)else match m.aF.find? (dQ name)with
 |none=>([],5)
 |some e=>Ks m ds e
def oB(m:aC)(ds:aR)(o b:Int):aB:=(ui m ds (bB ds m.drives) o b).map qP
def SA(m:aC)(ds:aR)(e:ca):Bool:=CS m ds&&(qz e.tries.length).all fun k=>fz m.p (cY e.object k (e.tries.getD k 0)) (oB m ds e.object k)
theorem ES(a:Nat)(b:aQ):∀n,((qz n).map (ot a b)).flatten=b.take (n*a)++qi (n*a-b.length) 0
 |0=>by simp
 |n+1=>by
  rw[zx,zi,List.flatten_append,ES a b n,zy];simp only[zS,vw,List.flatten_cons,List.flatten_nil,qU];unfold ot;by_cases h:n*a<=b.length
  ·have d:n*a-b.length=0:=by omega
   rw[d,List.replicate_zero,qU,<-qm,<-List.take_add,List.drop_replicate,qR];congr 2;omega
  ·have c:b.drop (n*a)=[]:=List.drop_of_length_le (by omega);rw[c,List.take_nil,List.nil_append,List.length_nil,List.drop_zero,qj (by omega),qj (by omega),qm,List.replicate_append_replicate];congr 2;omega
theorem LC{p:Int×Int×Int}(a:bC p=true)(n:Nat):n<=(countP p n).toNat*cZ p:=by
 obtain⟨f,g,d⟩:=jK a;unfold countP;rw[a,zK];by_cases h0:0<(n:Int)
 ·rw[decide_eq_true h0,if_pos rfl,<-d];have h:=wK ((n:Int)-1) (show(0:Int)<(cZ p:Int)by omega);have b:=Int.mul_ediv_add_emod ((n:Int)-1) (cZ p:Int);have h3:0<=((n:Int)-1)/(cZ p:Int):=vo (by omega) (by omega);obtain⟨q,c⟩:=Int.eq_ofNat_of_zero_le h3;rw[c]at b⊢;have e:((q:Int)+1).toNat=q+1:=by omega
  rw[e,zy];have:(cZ p:Int)*(q:Int)=((q*cZ p:Nat):Int):=by rw[Int.natCast_mul,Int.mul_comm]
  omega
 ·omega
theorem NZ{p:Int×Int×Int}(a:bC p=true)(b:aQ):NX p (splitB p b) b.length=b:=by
 unfold NX;rw[if_pos ⟨a,by omega,pA a b,qT.2 fun x c=>by
  unfold splitB at c;obtain⟨i,_,rfl⟩:=qH.1 c;exact decide_eq_true (yz _ _ _)⟩]
 have:=LC a b.length;unfold splitB;rw[ES,qj this,qo,List.take_append_of_le_length (qt _),za]
end Wl
namespace Go.Qw
open Go Go.Vc Go.Proofs Wl
section
variable {m:aC} {C:Int->aQ} {ds:aR} {offs:Int} {w:Pow}
theorem Oa{o b k:Int}{x:Int×aQ}(h:x∈EC m ds o b k):∃d r,bF ds k=some d/\r∈gU m d.l/\r.object=o/\r.block=b/\x=(r.id,r.data):=by
 unfold EC at h;cases hd:bF ds k with
 |none=>rw[hd]at h;cases h
 |some d=>
  rw[hd]at h;unfold Qa at h;obtain⟨r,c,rfl⟩:=qH.1 h;obtain⟨e,a⟩:=List.mem_filter.1 c;rw[qA,decide_eq_true_eq,decide_eq_true_eq]at a;exact⟨d,r,rfl,e,a.1,a.2,rfl⟩
theorem mq.Wa(S:mq m C ds):bC m.p=true:=((gW m).1 ((dp m).1 S.may).1).2.2.1
theorem mq.blocks(S:mq m C ds){e:Wl.ca}(a:e∈m.aF):(splitB m.p (C e.object)).length=e.tries.length:=(gm (S.ents e a).2).symm
theorem mq.eu(S:mq m C ds){e:Wl.ca}(a:e∈m.aF){k:Nat}(b:k<e.tries.length):∃K H w n,bx m.p (cY e.object k (e.tries.getD k 0)) (lU m C e.object k) K H w n:=by
 have h:=Mi S.Wa (S.ents e a).2 (i:=k) (by rw[S.blocks a];exact b);unfold lU;rw[qo];exact h
theorem mq.sym(S:mq m C ds){e:Wl.ca}(l:e∈m.aF){k:Nat}(A:k<e.tries.length){s:Int}{x:Int×aQ}(h:x∈EC m ds e.object k s):
  bD x.1=true/\x.2=eI m.p.2.2.toNat (dz m.p (cY e.object k (e.tries.getD k 0)) (lU m C e.object k)) (dM (ck m.p).toNat (cY e.object k (e.tries.getD k 0)) x.1):=by
 obtain⟨d,r,n,o,f,i,rfl⟩:=Oa h;obtain⟨v,t,j⟩:=QE o;obtain⟨u,z,y,w,q,_,g⟩:=lT.1 j;have c:y=e:=Sz S.may w l (by rw[q,f]);subst c;have hid:=((fX r).1 u).2.2.1;have a:bD r.id=true:=by unfold bD;simp;omega
 have b:=(S.cells s d n _ v).tru r t j;unfold FO at b;rw[f,i]at b;rw[f,i,qo]at g;refine⟨a,?_⟩;show r.data=_;rw[b,g];unfold ug;rw[if_pos a]
theorem ET{α β:Type}{f:α->β}:∀{l:List (α×β)},(∀x∈l,x.2=f x.1)->l=(l.map qP).map fun i=>(i,f i)
 |[],_=>rfl
 |x::l,h=>by
  have b:=h x qV;have a:=ET (l:=l) fun y c=>h y (zj _ c);rw[zS,zS,<-a,<-b]
theorem mq.syms(S:mq m C ds){e:Wl.ca}(d:e∈m.aF){k:Nat}(g:k<e.tries.length)(a:aB):
  ui m ds a e.object k=iY m.p (cY e.object k (e.tries.getD k 0)) (dz m.p (cY e.object k (e.tries.getD k 0)) (lU m C e.object k)) ((ui m ds a e.object k).map qP)/\∀i∈(ui m ds a e.object k).map qP,bD i=true:=by
 have c:∀x∈ui m ds a e.object k,bD x.1=true/\x.2=eI m.p.2.2.toNat (dz m.p (cY e.object k (e.tries.getD k 0)) (lU m C e.object k)) (dM (ck m.p).toNat (cY e.object k (e.tries.getD k 0)) x.1):=fun x b=>by
  unfold ui at b;obtain⟨s,_,b⟩:=List.mem_flatMap.1 b;exact S.sym d g b
 refine⟨ET fun x b=>(c x b).2,fun i f=>?_⟩;obtain⟨x,b,rfl⟩:=qH.1 f;exact(c x b).1
theorem mq.lV(S:mq m C ds){e:Wl.ca}(c:e∈m.aF){k:Nat}(d:k<e.tries.length):
  Wl.lV m ds e.object e.tries k=if fz m.p (cY e.object k (e.tries.getD k 0)) (oB m ds e.object k)=true then(lU m C e.object k,0)else([],9):=by
 obtain⟨K,H,w,n,B⟩:=S.eu c d;obtain⟨f,b⟩:=S.syms c d (bB ds m.drives);unfold Wl.lV;rw[f];by_cases a:fz m.p (cY e.object k (e.tries.getD k 0)) (oB m ds e.object k)=true
 ·rw[if_pos a];exact B.dec b a
 ·rw[if_neg a];refine Sy B.may (B.Kr b) ?_;rw[CR];exact eq_false_of_ne_true a
theorem mq.Ks(S:mq m C ds){e:Wl.ca}(b:e∈m.aF):Wl.Ks m ds e=if SA m ds e=true then(C e.object,0)else([],11):=by
 have a:((qz e.tries.length).all fun k=>decide ((Wl.lV m ds e.object e.tries k).2=0))=(qz e.tries.length).all fun k=>fz m.p (cY e.object k (e.tries.getD k 0)) (oB m ds e.object k):=by
  rw[vq,qT,qT];refine forall_congr' fun k=>forall_congr' fun g=>?_;rw[S.lV b (qF.1 g)];cases fz m.p (cY e.object k (e.tries.getD k 0)) (oB m ds e.object k)with
  |true=>simp
  |false=>simp
 unfold Wl.Ks SA;rw[a];cases hw:CS m ds with
 |false=>rw[if_pos rfl,Bool.false_and,if_neg (by decide)]
 |true=>
  rw[if_neg (by decide),zK];cases hf:(qz e.tries.length).all fun k=>fz m.p (cY e.object k (e.tries.getD k 0)) (oB m ds e.object k)with
  |false=>rw[if_neg (by decide),if_neg (by decide)]
  |true=>
   rw[if_pos rfl,if_pos rfl];have f:((qz e.tries.length).map fun k=>(Wl.lV m ds e.object e.tries k).1)=splitB m.p (C e.object):=by
    apply List.ext_getElem
    ·simp[S.blocks b]
    ·intro k c d;rw[List.getElem_map,List.getElem_range];simp only[qC,List.length_range]at c;rw[S.lV b c,if_pos (qT.1 hf k (qF.2 c))];unfold lU;rw[qo,gV _ d]
   rw[f,<-(S.ents e b).1,NZ S.Wa]
theorem mq.get(S:mq m C ds)(g:fm w offs=false)(name:ByteArray):
  (∀e∈m.aF,e.name=name->NY m offs w ds name=if SA m ds e=true then(C e.object,0)else([],11))/\((∀e∈m.aF,e.name≠name)->NY m offs w ds name=([],5)):=by
 refine⟨fun e b d=>?_,fun c=>?_⟩
 ·have a:m.aF.find? (dQ name)=some e:=by
   cases a:m.aF.find? (dQ name)with
   |none=>
    have:=w8.1 a e b;exact absurd (by unfold dQ;rw[d];simp) this
   |some y=>
    have f:=List.find?_some a;have i:=List.mem_of_find?_eq_some a;rw[QD S.may i b (by rw[d];exact ov (by unfold dQ at f;simpa using f))]
  unfold NY;rw[g,if_neg (by decide),a];exact S.Ks b
 ·have a:m.aF.find? (dQ name)=none:=w8.2 fun e b h=>c e b (ov (by unfold dQ at h;simpa using h));unfold NY;rw[g,if_neg (by decide),a]
end
section
variable {B:ap} {h0 h:Heap} {As:List HP} {a pw:Addr} {offs:Int} {da:List aK} {w:Pow} {ds:aR} {m:aC}
theorem UJ{name:ByteArray}{l:List Wl.ca}{i:Int}(h:Nl (dQ name) l i):(i<0/\l.find? (dQ name)=none)∨∃(n:Nat) (b:n<l.length),i=n/\l.find? (dQ name)=some l[n]:=by
 rcases h with⟨rfl,h⟩|⟨n,b,rfl,h1,h2⟩
 ·exact .inl ⟨by decide,w8.2 fun e a=>wA.1 h e a⟩
 ·refine .inr ⟨n,b,rfl,List.find?_eq_some_iff_append.2 ⟨h1,l.take n,l.drop (n+1),?_,fun e a=>?_⟩⟩
  ·rw[<-qL b,qy]
  ·have:=wA.1 h2 e a;simpa using this
end
def Aw(m:aC)(ds:aR)(o k:Int):Nat:=match bF ds k with|some d=>(gU m d.l).countP (fun r=>decide (r.object=o))|none=>0
def jO(m:aC)(ds:aR)(live:aB)(o:Int):Nat:=(live.map (Aw m ds o)).sum
def dT(m:aC)(offs:Int)(w:Pow)(ds:aR)(name:ByteArray):(Int×Int×Int)×Int:=
 if fm w offs=true then((0,0,0),14)else match m.aF.find? (dQ name)with
 |none=>((0,0,0),5)
 |some e=>((e.length,(e.tries.length:Int),(jO m ds (bB ds m.drives) e.object:Int)),0)
section
variable {B:ap} {h0 h:Heap} {As:List HP} {a pw:Addr} {offs:Int} {da:List aK} {w:Pow} {ds:aR} {m:aC}
abbrev lW(s:Int×Int×Int)(t:Sl):aM:=[vL vR s.1,vL vR s.2.1,vL vR s.2.2,t]
theorem UK(m:aC)(ds:aR)(o k:Int)(a:∀k d,bF ds k=some d->d.l.length<=512):Aw m ds o k<=512:=by
 unfold Aw;cases hd:bF ds k with
 |none=>exact zJ _
 |some d=>exact zh vg (zh (rg m d.l) (a k d hd))
theorem Ml(m:aC)(ds:aR)(o:Int)(a:∀k d,bF ds k=some d->d.l.length<=512):∀l:aB,jO m ds l o<=l.length*512
 |[]=>by simp[jO]
 |k::l=>by
  have:=Ml m ds o a l;have:=UK m ds o k a;unfold jO at*;rw[zS,List.sum_cons,zc,zy];omega
theorem QF(m:aC)(ds:aR)(o:Int)(l:aB)(i:Nat)(a:i<l.length):jO m ds (l.take (i+1)) o=jO m ds (l.take i) o+Aw m ds o l[i]:=by
 unfold jO;rw[zp a,zi,List.sum_append];simp
theorem QG(x:bZ)(name:ByteArray)(hm:bN m=true)(A:∀k d,bF ds k=some d->d.l.length<=512)(H:aa B h0 h (bi bz a pw (aY x) offs da w ds::fa x m::As)):
  ab vV 47 #[vN (some a),vO name] h fun v h'=>∃t:Sl,v=.tuple #[vQ #[vL vR (dT m offs w ds name).1.1,vL vR (dT m offs w ds name).1.2.1,vL vR (dT m offs w ds name).1.2.2,t],vL vR (dT m offs w ds name).2]/\Sp h h' []:=by
 refine tG (some a) name ?_;unfold np;have hz:=FM hm;have c7:=nh hm;have c9:(bB ds m.drives).length<=64:=zh (zt _ _) c7;refine(Sp.refl h).alloc af rfl fun P h1 R1=>?_;have N:=H.up R1.ag;refine(GO N).mono ?_;rintro _ h2 ⟨rfl,rfl⟩;refine⟨_,rfl,bn (fun e=>?_) fun e1=>?_⟩
 ·refine R1.storeAll af 0 rfl rfl (lW (0,0,0) ⟨none,0,0⟩) rfl rfl rfl rfl fun h3 L=>?_;have L:Sp h h3 [ai P 34 (lW (0,0,0) ⟨none,0,0⟩)]:=L;refine⟨(0,0,0,⟨none,0,0⟩),(L.box 0 rfl).aI _ rfl,⟨none,0,0⟩,?_,L.cL []⟩;unfold dT;rw[if_pos e]
 refine(find_spec x m name (N.at 1 rfl) hz N).mono ?_;rintro _ h4 ⟨⟨i,rfl,hi⟩,R4⟩;have z:=R1.up R4.ag;have H4:=N.up R4.ag;refine⟨i,rfl,?_⟩;rcases UJ hi with⟨hneg,hf⟩|⟨n,hn,rfl,hf⟩
 ·refine aj (fun _=>?_) fun e=>absurd hneg e;refine z.storeAll af 0 rfl rfl (lW (0,0,0) ⟨none,0,0⟩) rfl rfl rfl rfl fun h3 L=>?_;have L:Sp h h3 [ai P 34 (lW (0,0,0) ⟨none,0,0⟩)]:=L;refine⟨(0,0,0,⟨none,0,0⟩),(L.box 0 rfl).aI _ rfl,⟨none,0,0⟩,?_,L.cL []⟩;unfold dT;rw[if_neg (by rw[e1];decide),hf]
 refine aj (fun e=>absurd e (Int.not_lt.2 (Int.natCast_nonneg n))) fun _=>?_;obtain⟨E,hE⟩:∃E,E=m.aF[n]:=⟨_,rfl⟩
 have c4:E∈m.aF:=by rw[hE];exact qn hn
 have ep:dT m offs w ds name=((E.length,(E.tries.length:Int),(jO m ds (bB ds m.drives) E.object:Int)),0):=by unfold dT;rw[if_neg (by rw[e1];decide),hf,hE]
 rw[ep];have dd:=(jB m E).1 (((dp m).1 hm).2.2.2.2.1 E c4);have d0:E.tries.length<=8:=by have:=uj dd.2.2.1.2;omega
 have b0:=(aa.cK H4).2;have c2:fk h4 x m:=H4.at 1 rfl;obtain⟨ys,F⟩:=cP.fix c2.aF;have ec:=F.2.1;have q:=Fix.row F hn;obtain⟨xe,a9⟩:∃xe,xe=ys[n]'(by omega):=⟨_,rfl⟩
 rw[<-hE,<-a9]at q;refine⟨a,rfl,x.2.2.2.2.2.2.2,b0.cell rfl,F.1.fF (g:=bI) n rfl (by omega) xe (by rw[a9]) ?_⟩;refine(Sp.refl h4).alloc af rfl fun f h6 Q6=>?_;refine Q6.storeAll af 0 rfl rfl (bI xe) rfl rfl rfl rfl fun h7 Q7=>?_;have Q7:Sp h4 h7 [ai f 123 (bI xe)]:=Q7;obtain⟨R,R7⟩:∃R,Sp h h7 [ai P 34 R,ai f 123 (bI xe)]/\R.length=4:=⟨_,z.comp Q7,rfl⟩
 obtain⟨R7,z4⟩:=R7;have Z:Rd h4 xe.2.2.2 1 aG E.tries:=q.2;have S:=Z.len;have eo:xe.2.1=E.object:=q.1.2.1;have el:xe.2.2.1=E.length:=q.1.2.2;have a2:=Q7.ag;refine cg (fun(s:Addr) h'=>∃t:Sl,Sp h h' [ai P 34 R,ai f 123 (bI xe),ai s 34 (lW (E.length,(E.tries.length:Int),0) t)]) ?_ ?_
 ·have J:=R7.box 1 rfl;refine⟨xe.2.2.1,J.cell rfl,xe.2.2.2,J.cell rfl,xe.2.2.2,J.cell rfl,?_,?_⟩
  ·refine(gx xe.2.2.2 E.tries h7 (Z.up a2) (by omega)).mono ?_;rintro _ h8 ⟨t,rfl,R8⟩;have b3:=R7.up R8.ag;refine⟨t,rfl,go R8.ag ⟨J.cell rfl,J.cell rfl,trivial⟩,b3.alloc af rfl fun d3 h9 R9=>?_⟩;have a3:=R9.box 1 rfl;refine⟨⟨a3.cell rfl,a3.cell rfl,trivial⟩,R9.storeAll af 2 rfl rfl (lW (E.length,(E.tries.length:Int),0) t) (by rw[el,S];rfl) rfl rfl rfl fun bd X=>⟨trivial,t,X⟩⟩
  ·refine(Sp.refl h7).alloc af rfl fun d5 b4 bb=>?_;have ax:=R7.comp bb;have o:=ax.box 1 rfl;refine⟨⟨o.cell rfl,o.cell rfl,o.cell rfl,trivial⟩,?_⟩;refine(gx xe.2.2.2 E.tries b4 ((Z.up a2).up bb.ag) (by omega)).mono ?_;rintro _ eb ⟨t,rfl,a4⟩;have a7:=ax.up a4.ag;refine⟨t,rfl,go a4.ag ⟨o.cell rfl,o.cell rfl,trivial⟩,a7.storeAll af 2 rfl rfl (lW (E.length,(E.tries.length:Int),0) t) (by rw[el,S];rfl) rfl rfl rfl fun bd X=>⟨trivial,t,X⟩⟩
 rintro K d7 ⟨t,z⟩;have al:=H.up z.ag;refine(fI x m (al.at 1 rfl) hz al).mono ?_;rintro _ cp ⟨lv,rfl,G⟩;obtain⟨live,D⟩:∃live,live=bB ds m.drives:=⟨_,rfl⟩
 have bk:∀k∈live,k∈m.drives/\∃d,bF ds k=some d/\d.lost=false:=fun k hk=>CP (by rw[<-D];exact hk);rw[<-D]at G c9⊢;have G:Sp h cp [ai P 34 R,ai f 123 (bI xe),ai K 34 (lW (E.length,(E.tries.length:Int),(jO m ds (live.take 0) E.object:Int)) t),ao 3 lv 1 aG live]:=z.comp G;have dy:=(G.own 3 rfl).len;refine⟨lv,rfl,?_⟩;refine aA (fun i:Nat=>(i:Int)) (fun i h'=>i<=live.length/\Sp h h' [ai P 34 R,ai f 123 (bI xe),ai K 34 (lW (E.length,(E.tries.length:Int),(jO m ds (live.take i) E.object:Int)) t),ao 3 lv 1 aG live]) (fun i=>live.length-i) 0 rfl ⟨by omega,G⟩ ?_;rintro i ay ⟨hi,y⟩;dsimp only;refine aj (fun e=>?_) fun e=>?_
 ·have W:i<live.length:=by omega
  refine(y.seq 3 rfl fun _=>rfl).cA i rfl W live[i] rfl ?_;have Y:=H.up y.ag;obtain⟨b6,d,hd,_⟩:=bk live[i] (qn W);have dx:=mT hm _ b6;obtain⟨ok,hb⟩:=aa.cK Y;obtain⟨k,hk⟩:∃k:Nat,live[i]=k:=⟨live[i].toNat,by omega⟩
  have am:k<da.length:=by rw[ok.la];omega
  have U:=QF m ds E.object live i W;rw[hk]at hd U⊢;have cd:cellOf ay ((a.add 10).add ((k:Int).toNat*1))=some (.pointer da[k]):=by
   rw[qo,Nat.mul_one];refine hb.at2 10 k ?_;rw[nD ok.l8,qd am];rfl
  have cs:gl da (k:Int)=da[k]:=by unfold gl;rw[if_pos (by omega),qo,qd am];rfl
  obtain⟨b,sd,bl,b2,c1,b9,cc⟩:=EO hd Y;refine⟨a,rfl,⟨by omega,by omega⟩,da[k],cd,a,rfl,x,hb.aI _ rfl,?_⟩;rw[<-cs,b2];refine(yq b pw d sd bl x m ay c1 b9 cc (Y.at 1 rfl) hz).mono ?_;rintro _ d2 ⟨r7,T,rfl,ad⟩;have bs:=zh (rg m d.l) (A _ d hd);have a8:Aw m ds E.object k=(gU m d.l).countP (fun r=>decide (r.object=E.object)):=by unfold Aw;rw[hd]
  obtain⟨c,V⟩:∃c,c=gU m d.l:=⟨_,rfl⟩
  rw[<-V]at ad bs a8;have I:=y.comp ad;have F4:=I.jR 4 rfl;have d1:=F4.2.1;have d8:=F4.1.len;refine⟨r7,rfl,trivial,?_⟩;have a6:=Ml m ds E.object A (live.take i);rw[qO,wu hi]at a6;obtain⟨O,c8⟩:∃O,O=jO m ds (live.take i) E.object:=⟨_,rfl⟩
  rw[<-c8]at I a6 U;have dk:i*512<=64*512:=Nat.mul_le_mul_right _ (by omega);refine aA (fun j:Nat=>(j:Int)) (fun j h'=>j<=c.length/\Sp h h' [ai P 34 R,ai f 123 (bI xe),ai K 34 (lW (E.length,(E.tries.length:Int),((O+(c.take j).countP (fun r=>decide (r.object=E.object)):Nat):Int)) t),ao 3 lv 1 aG live,dX cX 8 ba r7 T c]) (fun j=>c.length-j) 0 rfl ⟨by omega,I⟩ ?_;rintro j d6 ⟨hj,M⟩;dsimp only;refine aj (fun e2=>?_) fun e2=>?_
  ·have a0:j<c.length:=by omega
   have F5:=M.jR 4 rfl;obtain⟨⟨g1,_⟩,_⟩:=Fix.row F5 a0;have b5:j<T.length:=by omega
   refine F5.1.fF (g:=ba) j rfl b5 T[j] rfl ?_;refine M.alloc af rfl fun br d4 c5=>?_;refine c5.storeAll af 5 rfl rfl (ba T[j]) rfl rfl rfl rfl fun b1 p=>?_;have p:Sp h b1 [ai P 34 R,ai f 123 (bI xe),ai K 34 (lW (E.length,(E.tries.length:Int),((O+(c.take j).countP (fun r=>decide (r.object=E.object)):Nat):Int)) t),ao 3 lv 1 aG live,dX cX 8 ba r7 T c,ai br 49 (ba T[j])]:=p;have dr:(c.take j).countP (fun r=>decide (r.object=E.object))<=512:=zh vg (by rw[qO];omega);have Q:(c.take (j+1)).countP (fun r=>decide (r.object=E.object))=(c.take j).countP (fun r=>decide (r.object=E.object))+(if c[j].object=E.object then 1 else 0):=by
    rw[zp a0,List.countP_append,List.countP_singleton];simp
   refine⟨T[j].1,(p.box 5 rfl).cell0 rfl,xe.2.1,(p.box 1 rfl).cell rfl,bt (fun e3=>?_) fun e3=>?_⟩
   ·have e4:c[j].object=E.object:=by rw[<-g1,e3,eo]
    rw[if_pos e4]at Q;refine⟨((O+(c.take j).countP (fun r=>decide (r.object=E.object)):Nat):Int),(p.box 2 rfl).cell rfl,p.storeAt af 2 rfl rfl (off:=2) rfl rfl rfl (by simp) fun d9 a5=>?_⟩;have ew:qc vR (((O+(c.take j).countP (fun r=>decide (r.object=E.object)):Nat):Int)+1)=((O+(c.take j).countP (fun r=>decide (r.object=E.object)):Nat):Int)+1:=ak _;refine⟨j+1,by rw[ak _];rfl,⟨by omega,?_⟩,by omega⟩;rw[Q];rw[ew]at a5;have u:=a5.cL [0,1,2,3,4];have e5:((O+((c.take j).countP (fun r=>decide (r.object=E.object))+1):Nat):Int)=((O+(c.take j).countP (fun r=>decide (r.object=E.object)):Nat):Int)+1:=by omega
    rw[e5];exact u
   ·have e4:¬c[j].object=E.object:=fun h=>e3 (by rw[g1,h,eo]);rw[if_neg e4,wH]at Q;exact⟨j+1,by rw[ak _];rfl,⟨by omega,by rw[Q];exact p.cL [0,1,2,3,4]⟩,by omega⟩
  have c6:j=c.length:=by omega
  subst c6;rw[za,<-a8,<-U]at M;exact⟨i+1,by rw[ak _];rfl,⟨by omega,M.cL [0,1,2,3]⟩,by omega⟩
 have b7:i=live.length:=by omega
 subst b7;rw[za]at y;refine⟨(E.length,(E.tries.length:Int),(jO m ds live E.object:Int),t),(y.box 2 rfl).aI _ rfl,?_⟩;refine y.storeAll af 0 rfl rfl (lW (E.length,(E.tries.length:Int),(jO m ds live E.object:Int)) t) rfl rfl rfl (by rw[z4];rfl) fun cf u=>?_;have u:Sp h cf [ai P 34 (lW (E.length,(E.tries.length:Int),(jO m ds live E.object:Int)) t),ai f 123 (bI xe),ai K 34 (lW (E.length,(E.tries.length:Int),(jO m ds live E.object:Int)) t),ao 3 lv 1 aG live]:=u;exact⟨(E.length,(E.tries.length:Int),(jO m ds live E.object:Int),t),(u.box 0 rfl).aI _ rfl,t,rfl,u.cL []⟩
theorem SB(name:ByteArray)(f:bN m=true)(H:aa B h0 h (cI a pw da offs w ds m::As)):
  ab vV 47 #[vN (some a),vO name] h fun v h'=>∃t:Sl,v=.tuple #[vQ #[vL vR (dT m offs w ds name).1.1,vL vR (dT m offs w ds name).1.2.1,vL vR (dT m offs w ds name).1.2.2,t],vL vR (dT m offs w ds name).2]/\Sp h h' []:=by
 have c:=(VV H).2;obtain⟨x,e⟩:=jn H;exact QG x name f (fun k d b=>zh (c k d b).1 (c k d b).2.1) e
end
structure jP (m:aC) (o:Int) (d:bj) (bad:Nat->Prop):Prop where
 lost:d.lost=false
 pos:0<d.l.length
 len:d.l.length<=60
 cell:∀c∈d.l,c.length=64
 bad:∀j (hj:j<d.l.length),bQ d.l[j]=none↔bad j
 cnt:∀c∈d.l,∀r,bR c=some r->di m r=true/\r.object=o
 apart:(d.l.filterMap (cM m)).Pairwise fun a b=>jt a b=false
def dL(m:aC)(d:bj):Nat:=(d.l.filterMap (cM m)).length
theorem EU{m:aC}{c:aQ}(h:bQ c=none):cM m c=none/\bR c=none:=by
 have a:bR c=none:=by unfold bR;rw[h]
 exact⟨by unfold cM;rw[a],a⟩
theorem jP.lX{m:aC}{o:Int}{d:bj}{a:Nat->Prop}(W:jP m o d a){c:aQ}(b:c∈d.l):cM m c=bR c:=by
 unfold cM;cases h:bR c with
 |none=>rfl
 |some r=>dsimp only;rw[if_pos (W.cnt c b r h).1]
theorem QH{l:List cJ}(h:l.Pairwise fun a b=>jt a b=false):(rx (l.mergeSort kw)).Perm l:=by
 have c:∀a b:cJ,jt a b=false->jt b a=false:=fun a b h=>by
  unfold jt at h⊢;rw[decide_eq_false_iff_not]at h⊢;rintro⟨x,y,z⟩;exact h ⟨x.symm,y.symm,z.symm⟩
 have f:(l.mergeSort kw).Perm l:=List.mergeSort_perm _ _;have g:(l.mergeSort kw).Pairwise fun a b=>jt a b=false:=(f.pairwise_iff (fun{a b}=>c a b)).2 h;have d:(l.mergeSort kw).Pairwise fun a b=>kw a b=true:=List.pairwise_mergeSort Rl.1 Rl.2 _;have h3:(l.mergeSort kw).Pairwise Dz:=d.imp₂ (fun a b x y=>⟨x,y⟩) g;have e:=KH h3;have i:(l.mergeSort kw).mergeSort kw=l.mergeSort kw:=List.mergeSort_of_pairwise d;rw[i]at e;rw[e];exact f
theorem jP.count{m:aC}{o k:Int}{d:bj}{a:Nat->Prop}{ds:aR}(W:jP m o d a)(g:bF ds k=some d):Aw m ds o k=dL m d:=by
 unfold Aw;rw[g];dsimp only;unfold gU;rw[(QH W.apart).countP_eq];unfold dL;rw[List.countP_eq_length];intro r f;obtain⟨c,b,e⟩:=List.mem_filterMap.1 f;rw[W.lX b]at e;exact decide_eq_true (W.cnt c b r e).2
theorem UL{d:bj}{j:Nat}(c:j<d.l.length){a b:Int}(e:0<=a/\a<=60)(f:b%2=1):d.dC j a b={d with l:=d.l.take j++iW d.l[j] a b::d.l.drop (j+1)}/\d.l=d.l.take j++d.l[j]::d.l.drop (j+1):=by
 have g:nJ d j a b=true:=decide_eq_true ⟨⟨by omega,by omega⟩,e,by rintro rfl;cases f⟩;refine⟨?_,?_⟩
 ·unfold bj.dC;rw[g,if_pos rfl,qo,gV [] c,zX,if_pos c]
 ·rw[<-qL c,qy]
theorem jP.dC{m:aC}{o:Int}{d:bj}{u:Nat->Prop}(W:jP m o d u){j:Nat}(q:j<d.l.length)(H:bQ d.l[j]≠none){a e:Int}(z:0<=a/\a<=60)(A:e%2=1):
  jP m o (d.dC j a e) (fun i=>u i∨i=j)/\dL m (d.dC j a e)+(if(bR d.l[j]).isSome then 1 else 0)=dL m d:=by
 obtain⟨B,G⟩:=UL q z A;have I:=Qn d.l[j] a e;have D:bQ (iW d.l[j] a e)=none:=by
  cases h:bQ d.l[j]with
  |none=>exact absurd h H
  |some y=>exact Qv (k:=y.1) (x:=y.2) h z A
 obtain⟨F,K⟩:=EU (m:=m) D;have s:(d.dC j a e).l=d.l.take j++iW d.l[j] a e::d.l.drop (j+1):=by rw[B]
 have E:(d.dC j a e).l.filterMap (cM m)=(d.l.take j).filterMap (cM m)++(d.l.drop (j+1)).filterMap (cM m):=by
  rw[s,yc,List.filterMap_cons,F]
 have t:d.l.filterMap (cM m)=(d.l.take j).filterMap (cM m)++((match cM m d.l[j]with|none=>[]|some b=>[b])++(d.l.drop (j+1)).filterMap (cM m)):=by
  conv=>lhs;rw[G]
  rw[yc,List.filterMap_cons];cases cM m d.l[j]<;>rfl
 have f:(d.dC j a e).l.length=d.l.length:=by
  rw[s,qp,zc,qO,qR];omega
 have g:∀c∈(d.dC j a e).l,c=iW d.l[j] a e∨c∈d.l:=fun c p=>by
  rw[s]at p;rcases qE.1 p with h|h
  ·exact .inr (List.mem_of_mem_take h)
  ·rcases zl.1 h with h|h
   ·exact .inl h
   ·exact .inr (List.mem_of_mem_drop h)
 refine⟨⟨by rw[B];exact W.lost,by rw[f];exact W.pos,by rw[f];exact W.len,fun c p=>?_,fun i L=>?_,fun c p r v=>?_,?_⟩,?_⟩
 ·rcases g c p with rfl|h
  ·rw[I];exact W.cell _ (qn q)
  ·exact W.cell c h
 ·have w:i<d.l.length:=by omega
  by_cases n:i=j
  ·subst n;have:(d.dC i a e).l[i]=iW d.l[i] a e:=by
    simp only[s];rw[yf (by simp;omega)];simp[wu (Nat.le_of_lt q)]
   rw[this];exact⟨fun _=>.inr rfl,fun _=>D⟩
  ·have J:(d.dC j a e).l=d.l.set j (iW d.l[j] a e):=by rw[s,zX,if_pos q]
   have:(d.dC j a e).l[i]=d.l[i]:=by
    simp only[J];rw[List.getElem_set_ne (Ne.symm n)]
   rw[this,W.bad i w];exact⟨.inl,fun h=>h.resolve_right n⟩
 ·rcases g c p with rfl|h
  ·rw[K]at v;cases v
  ·exact W.cnt c h r v
 ·rw[E];refine W.apart.sublist ?_;rw[t];exact(List.Sublist.refl _).append (List.sublist_append_right _ _)
 ·unfold dL;rw[E,t,qp,qp,qp,W.lX (qn q)];cases bR d.l[j]<;>simp<;>omega
theorem QI{m:aC}{l:List cJ}(b:∀r∈l,di m r=true/\0<=r.seed/\r.seed<4294967296):(l.map cB).filterMap (cM m)=l:=by
 induction l with
 |nil=>rfl
 |cons r l ih=>
  obtain⟨a,c,h3⟩:=b r qV;have e:cM m (cB r)=some r:=by
   unfold cM;rw[xl (EJ a) ⟨c,h3⟩];dsimp only;rw[if_pos a]
  rw[zS,List.filterMap_cons,e,ih fun x d=>b x (zj _ d)]
theorem Ob{l:List cJ}(h:l.Pairwise Dz):l.Pairwise fun a b=>jt a b=false:=h.imp fun h=>h.2
theorem Oc{m:aC}{o:Int}{t:aB}{bl:cu}(f:0<=o/\o<=16777215):(dj m o t bl [0,1] 0 1).length+(dj m o t bl [0,1] 1 1).length=(m.p.1+m.extra).toNat:=by
 obtain⟨i,d⟩:=NP (o:=o) (b:=0) (live:=[0,1]) f (by omega) (by decide) (by decide);have c:eP o 0 [0,1]≠[]:=fun h=>by have:=d.length_eq;rw[h]at this;cases this
 have a:∀n:Nat,((qz n).filter fun id=>decide (nG (eP o 0 [0,1]) (id:Nat)=0)).length+((qz n).filter fun id=>decide (nG (eP o 0 [0,1]) (id:Nat)=1)).length=n:=by
  intro n
  induction n with
  |zero=>rfl
  |succ n ih=>
   rw[zx,zf,zf,qp,qp];have g:nG (eP o 0 [0,1]) (n:Nat)∈[(0:Int),1]:=d.mem_iff.1 (PZ c n);rcases zl.1 g with h|h
   ·simp[h];omega
   ·have h:=qB.1 h;simp[h];omega
 have e:∀k,(dj m o t bl [0,1] k 1).length=((qz (m.p.1+m.extra).toNat).filter fun id=>decide (nG (eP o 0 [0,1]) (id:Nat)=k)).length:=fun k=>by
  unfold dj;rw[show qz 1=[0]from rfl,zg,List.flatMap_nil,qU];unfold lh;rw[qC];rfl
 rw[e,e];exact a _
theorem SC{r:cJ}(h:eX r=true)(a:0<=r.seed/\r.seed<4294967296):bQ (cB r)≠none:=fun e=>by
 have:=xl h a;unfold bR at this;rw[e]at this;cases this
theorem take_split{m:aC}(b:bN m=true){c:aQ}(h:c∈bc m):bQ c≠none:=by
 rw[Qx]at h;obtain⟨i,a,rfl⟩:=qH.1 h;have:=NS b (qF.1 a);intro e;unfold Av at this;rw[e]at this;cases this
theorem SD{p:Pm}{E:Int}{m:aC}{D:aR}(F:Ba p E 2 60 m D)(hE:0<=E/\E<=6)(hK:1<=p.1/\p.1<=6)(hs:0<p.1*p.2.2){name:ByteArray}(hn:gH name=true){b:aQ}(hb:(b.length:Int)<=p.1*p.2.2)(al:1<=b.length):
  (cF m 0 Pow.new D name b=(8,m,Pow.new,D))∨∃t a D2,cF m 0 Pow.new D name b=(0,a,Pow.new,D2)/\bN a=true/\a.drives=[0,1]/\D2.length=64/\a.aF=[⟨name,0,b.length,t⟩]/\∃H B,bF D2 0=some H/\bF D2 1=some B/\
   jP a 0 H (fun _=>False)/\jP a 0 B (fun _=>False)/\dL a H+dL a B=(p.1+E).toNat:=by
 obtain⟨U,o2,N,s,T⟩:=F.aF;have n:m.drives=[0,1]:=F.dr;have h9:=EN F.may;have Z:bC p=true:=by have:=((gW m).1 ((dp m).1 F.may).1).2.2.1;rw[s]at this;exact this
 have q:(splitB p b).length=1:=by
  have u:=pA Z b;have ad:countP p b.length=1:=by
   unfold countP;rw[Z,zK,decide_eq_true (by omega),if_pos rfl];have h2:((b.length:Int)-1)/(p.1*p.2.2)<1:=Int.ediv_lt_of_lt_mul hs (by rw[Int.one_mul];omega);have h3:0<=((b.length:Int)-1)/(p.1*p.2.2):=vo (by omega) (by omega);omega
  omega
 have L:∀j∈m.drives,bF D j=some ⟨60,bc m,0,[],false,false⟩:=fun j I=>by rw[F.at_,if_pos I];rfl
 have am:(bc m).length<=1:=by rw[F.m_eq];exact uS _ _ _ (by simp)
 obtain⟨Y,Q⟩:=Qq (M:=m) (D2:=D) (b:=b) (name:=name) F.may F.len U (by omega) (by omega) (by rw[F.live,n];simp) hn (by rw[s];omega) (by
  rw[F.live,s,T];intro j I;rw[q];refine⟨_,L j I,rfl,?_⟩;show((bc m).length:Int)+9+(((1:Nat):Int)*((p.1+E).toNat:Int))<=((60:Nat):Int);omega)
 rw[F.live,N,s]at Q;rw[N,s]at Y;rw[n,q]at Q;cases ht:cy p 0 (splitB p b).length with
 |none=>exact .inl (Y ht)
 |some t=>
  rw[q]at ht;obtain⟨w,D3,q1,q2,q3⟩:=Q t ht;have S:=EN w;obtain⟨a,v⟩:∃a,a=fy m ⟨name,0,b.length,t⟩:=⟨_,rfl⟩
  rw[<-v]at w S q1 q3;have J:a.aF=[⟨name,0,b.length,t⟩]:=by
   rw[v];show(m.aF++[_]).mergeSort lB=_;rw[U];simp
  have K:∀k,∀r∈dj m 0 t (splitB p b) [0,1] k 1,eX r=true/\di a r=true/\(0<=r.seed/\r.seed<4294967296)/\r.object=0:=fun k r g=>by
   obtain⟨i,id,rfl,hi,hid⟩:=EI g;have u:=Mj (m:=m) (b:=b) (t:=t) F.may (by omega) (by rw[s,q];decide) (by rw[N,s,q];exact ht) (i:=i) (id:=id) (by rw[s,q];exact hi) hid;rw[N,s]at u;have P:i<t.length:=by rw[gm ht];exact hi
   refine⟨u,?_,BN _ _ _,rfl⟩;rw[v];exact Ly (e:=⟨name,0,b.length,t⟩) (k:=i) u U rfl rfl P
  have y:∀k∈m.drives,∃d,bF D3 k=some d/\jP a 0 d (fun _=>False)/\dL a d=(dj m 0 t (splitB p b) [0,1] k 1).length:=fun k W=>by
   have hq:=q3 k;rw[L k W,Option.map_some,if_pos (by rw[<-n];exact W)]at hq;refine⟨_,hq,?_⟩;have G:=BS m 0 t (splitB p b) [0,1] k 1;rw[s,T]at G;obtain⟨R,X⟩:∃R,R=dj m 0 t (splitB p b) [0,1] k 1:=⟨_,rfl⟩
   have O:R.Pairwise Dz:=by rw[X];exact sP _ _ _ _ _ _ _
   have f:=K k;rw[<-X]at G f⊢;have A:(eE (R.map cB++bc a) ⟨60,bc m,0,[],false,false⟩).l=bc m++(R.map cB++bc a):=Qi _ _;have V:(bc m++(R.map cB++bc a)).filterMap (cM a)=R:=by
    rw[yc,yc,Dy,Dy,QI fun r g=>⟨(f r g).2.1,(f r g).2.2.1⟩];simp
   have z:∀c∈bc m++(R.map cB++bc a),c∈bc m∨(∃r∈R,cB r=c)∨c∈bc a:=fun c x=>by
    rcases qE.1 x with h|h
    ·exact .inl h
    ·rcases qE.1 h with h|h
     ·exact .inr (.inl (qH.1 h))
     ·exact .inr (.inr h)
   refine⟨⟨by rw[(An _ _).1],?_,?_,fun c x=>?_,fun j I=>?_,fun c x r g=>?_,?_⟩,?_⟩
   ·rw[A,qp];have:=List.length_pos_iff.2 (CO F.may);omega
   ·rw[A];simp only[qp,qC];omega
   ·rw[A]at x;rcases z c x with h|⟨r,g,rfl⟩|h
    ·exact lA h
    ·exact Ck (f r g).1
    ·exact lA h
   ·refine⟨fun h=>?_,fun h=>h.elim⟩;have x:(eE (R.map cB++bc a) ⟨60,bc m,0,[],false,false⟩).l[j]∈bc m++(R.map cB++bc a):=by rw[<-A];exact qn I
    rcases z _ x with u|⟨r,g,u⟩|u
    ·exact take_split F.may u h
    ·rw[<-u]at h;exact SC (f r g).1 (f r g).2.2.1 h
    ·exact take_split w u h
   ·rw[A]at x;rcases z c x with h|⟨r',hr',rfl⟩|h
    ·rw[rA h]at g;cases g
    ·rw[xl (f r' hr').1 (f r' hr').2.2.1]at g;injection g with g
     subst g;exact⟨(f r' hr').2.1,(f r' hr').2.2.2⟩
    ·rw[rA h]at g;cases g
   ·rw[A,V];exact Ob O
   ·unfold dL;rw[A,V]
  obtain⟨H,a1,a2,a3⟩:=y 0 (by rw[n];simp);obtain⟨B,b1,b2,b3⟩:=y 1 (by rw[n];simp);refine .inr ⟨t,a,D3,q1,w,by rw[v];exact n,q2,J,H,B,a1,b1,a2,b2,?_⟩;rw[a3,b3];have:=Oc (m:=m) (o:=0) (t:=t) (bl:=splitB p b) (by omega);rw[s,T]at this;exact this
abbrev ka(x:Int×Int):aM:=[vL vR x.1,vL vR x.2]
theorem SE:∀x,∀c∈ka x,c.oneCell'=true:=by intro x c a;simp only[ka,zl,List.not_mem_nil,or_false]at a;rcases a with rfl|rfl<;>rfl
theorem Od:∃n e,Tryz.prog.underlying 54=some (.array n e)/\n=2/\e=3:=by
 have h:(match Tryz.prog.underlying 54 with|some (.array n e)=>decide (n=2/\e=3)|_=>false)=true:=by kernel_rfl
 cases hu:Tryz.prog.underlying 54 with
 |none=>rw[hu]at h;cases h
 |some d=>
  rw[hu]at h;cases d with
  |array n e=>exact⟨n,e,rfl,of_decide_eq_true h⟩
  |_=>cases h
theorem Oe:Tryz.prog.eqGuardType Tryz.prog.depth 54=false:=by kernel_rfl
theorem UM(p q:Int×Int):au vV (Op.equal 54 (vQ #[vL vR p.1,vL vR p.2]) (vQ #[vL vR q.1,vL vR q.2])) (decide (p=q)):=by
 obtain⟨n,e,s,rfl,rfl⟩:=Od;obtain⟨k,f⟩:∃k,Tryz.prog.underlying 3=some (.int k):=⟨.i64,by kernel_rfl⟩
 have r:au vV (sizeOf 3) 1:=cz af.toOk (t:=3) (i:=_) rfl;unfold Op.equal;rw[show Op.maxDepth=9998+1+1 from rfl,Op.equalIn];refine(aE s).bind ?_;refine r.bind ?_;obtain⟨a,b⟩:=p;obtain⟨c,d⟩:=q;simp only[Std.Legacy.Range.forIn_eq_forIn_range',Std.Legacy.Range.size,List.range',List.forIn_cons,List.forIn_nil];have l:au vV (part 3 #[Value.int vR a,Value.int vR b] (0*1)) _:=fc f rfl;have j:au vV (part 3 #[Value.int vR c,Value.int vR d] (0*1)) _:=fc f rfl;have m:au vV (part 3 #[Value.int vR a,Value.int vR b] ((0+1)*1)) _:=fc f rfl;have o:au vV (part 3 #[Value.int vR c,Value.int vR d] ((0+1)*1)) _:=fc f rfl;by_cases g:a=c
 ·by_cases h:b=d
  ·have e:decide ((a,b)=(c,d))=true:=by simp[g,h]
   rw[e];refine au.bind (v:=(none,())) (au.bind (v:=ForInStep.yield (none,())) (l.bind (j.bind ((dK ⟨k,f⟩ a c).bind ?_))) (au.bind (v:=ForInStep.yield (none,())) (m.bind (o.bind ((dK ⟨k,f⟩ b d).bind ?_))) .pure)) .pure
   ·simp only[g,beq_self_eq_true,zY,q0,if_false];exact .pure
   ·simp only[h,beq_self_eq_true,zY,q0,if_false];exact .pure
  ·have e:decide ((a,b)=(c,d))=false:=by simp[h]
   rw[e];refine au.bind (v:=(some false,())) (au.bind (v:=ForInStep.yield (none,())) (l.bind (j.bind ((dK ⟨k,f⟩ a c).bind ?_))) (au.bind (v:=ForInStep.done (some false,())) (m.bind (o.bind ((dK ⟨k,f⟩ b d).bind ?_))) .pure)) .pure
   ·simp only[g,beq_self_eq_true,zY,q0,if_false];exact .pure
   ·rw[show(b==d)=false by simpa using h];simp only[we,if_true];exact .pure
 ·have e:decide ((a,b)=(c,d))=false:=by simp[g]
  rw[e];refine au.bind (v:=(some false,())) (au.bind (v:=ForInStep.done (some false,())) (l.bind (j.bind ((dK ⟨k,f⟩ a c).bind ?_))) .pure) .pure;rw[show(a==c)=false by simpa using g];simp only[we,if_true];exact .pure
theorem SF(x y:Operand)(p q:Int×Int):fM vV .eql 54 x y (vQ #[vL vR p.1,vL vR p.2]) (vQ #[vL vR q.1,vL vR q.2]) (vP (decide (p=q))):=by
 unfold fM eqGuard;refine au.bind (v:=()) ?_ ?_
 ·simp only[zY,q0,if_false];refine au.bind (v:=vV) (fun w=>rfl) ?_;refine au.bind (v:=vV) (fun w=>rfl) ?_;simp only[Oe,we,if_true];exact .pure
 ·exact(UM p q).bind .pure
theorem Kt(s:Sl)(L:List (Int×Int))(x:Int×Int)(h:Heap)(j:Rd h s 2 ka L)(r:L.length<=2^40):
  ab vV 14 #[s,vQ #[vL vR x.1,vL vR x.2]] h fun v h'=>v=vP (decide (x∈L))/\Sp h h' []:=by
 refine li s [x.1,x.2] ?_;unfold ik;have m:=j.len;refine(Sp.refl h).boxed fun k q f=>?_;have f:Sp h q [ai k 54 (ka x)]:=f;refine aA (fun i:Nat=>(i:Int)) (fun i h'=>i<=L.length/\x∉L.take i/\Sp h h' [ai k 54 (ka x)]) (fun i=>L.length-i) 0 rfl ⟨by omega,by simp,f⟩ ?_;rintro i t ⟨u,c,d⟩;dsimp only;refine aj (fun e=>?_) fun e=>?_
 ·have a:i<L.length:=by have l:(i:Int)<(s.len:Int):=e;omega
  obtain⟨b,o,p,_,n⟩:=(Seq.up j d.ag).elem i L[i] (qd a);refine⟨⟨b,o,none⟩,⟨p,by omega,e⟩,[L[i].1,L[i].2],⟨rfl,?_⟩,[x.1,x.2],⟨rfl,(d.box 0 rfl).aI (ka x) rfl⟩,_,SF _ _ L[i] x,?_⟩
  ·rw[add_eq];simpa using n
  ·refine aj (fun g=>?_) fun g=>?_
   ·refine⟨?_,.zip d.ag⟩;rw[decide_eq_true];rw[<-g];exact qn a
   ·refine⟨i+1,by rw[ak _];rfl,⟨a,?_,d⟩,by omega⟩;rw[aO _ _ a,qE,qB];rintro(h|h)
    ·exact c h
    ·exact g h.symm
 ·have l:¬(i:Int)<(s.len:Int):=e;rw[show i=L.length by omega,za]at c;exact⟨by rw[decide_eq_false c],.zip d.ag⟩
theorem HG(id:Int)(h:Heap):ab vV 130 #[vL vR id] h fun v h'=>v=vP (bD id)/\h'=h:=by
 refine ol id ?_;unfold ki;refine aj (fun e=>⟨?_,rfl⟩) (fun e=>⟨?_,rfl⟩)
 ·rw[bD,decide_eq_true (show 0<=id from e)];rfl
 ·rw[bD,decide_eq_false (show¬0<=id from e)];rfl
theorem Ax(b:Sl)(l:aQ)(h:Heap)(d:Rd h b 1 av l)(k:l.length<=4):ab vV 30 #[b] h fun v h'=>v=vL vR (bO l)/\h'=h:=by
 refine nN b ?_;unfold jE;have g:=d.len;refine aA (fun i:Nat=>(bO (l.take i),(i:Int))) (fun i h'=>i<=l.length/\h'=h) (fun i=>l.length-i) 0 rfl ⟨by omega,rfl⟩ ?_;rintro i o ⟨m,rfl⟩;dsimp only;refine aj (fun e=>?_) (fun e=>?_)
 ·have a:i<l.length:=by omega
  refine⟨by decide,d.cA i rfl a (l[i].toNat:Int) rfl ?_⟩;have c:=(tZ (l.take i) (by simp;omega))
  have f:=c.2.2 (by simp;omega);have p:=l[i].toNat_lt;obtain⟨n,j⟩:∃n:Nat,bO (l.take i)=(n:Int):=⟨(bO (l.take i)).toNat,by omega⟩
  refine⟨i+1,?_,⟨by omega,rfl⟩,by omega⟩;rw[aO _ _ a,El,j,Pw n _,ak ((i:Int)+1)];rfl
 ·rw[qj (by omega)];exact⟨rfl,rfl⟩
theorem EV(k:Int)(b:aQ):(cb k b).length<=64:=by
 by_cases h:1<=k/\k<=255/\b.length<=55
 ·rw[jk h.1 h.2.1 h.2.2];exact qt _
 ·unfold cb;rw[if_neg h];exact zJ _
theorem FP(b:Sl)(c:aQ)(h:Heap)(l:Rd h b 1 av c)(B:c.length<=2^30)(i:b.len<=b.cap):
  ab vV 29 #[b] h fun v h'=>(bQ c=none->v=.tuple #[vL vR 0,vM none 0 0,vP false]/\Sp h h' [])/\
   ∀k x,bQ c=some (k,x)->∃r:Sl,v=.tuple #[vL vR k,r,vP true]/\Sp h h' [ao 5 r 1 av x]:=by
 refine mC b ?_;unfold jc;have y:=l.len;refine cq (fun e=>?_) (fun e=>?_)
 ·have:bQ c=none:=by unfold bQ;rw[if_neg (fun a=>e (by omega))]
  rw[this];exact⟨fun _=>⟨rfl,Sp.refl h⟩,fun k x h=>(by cases h)⟩
 have p:c.length=64:=by omega
 have h3:3<c.length:=by omega
 refine l.lp 3 rfl h3 ((c.getD 3 0).toNat:Int) (by rw[getD_lt h3];rfl) fun z q=>⟨⟨by decide,by decide,by omega⟩,?_⟩
 have g:=(l.drop 4 i).take 55 (by simp;omega);have d:((c.drop 4).take 55).length=55:=by simp;omega
 refine((Sp.refl h).nil 5 1 av).append af 0 rfl fv ⟨_,_,rfl,rfl⟩ rfl (by decide) (fun _=>rfl) g dN (by rw[d];decide) fun r t f=>?_;have f:Sp h t [ao 5 r 1 av ((c.drop 4).take 55)]:=f;refine⟨go f.ag ⟨q,trivial⟩,?_⟩;have A:=(c.getD 3 0).toNat_lt;rw[ak ((c.getD 3 0).toNat:Int)];refine(GW ((c.getD 3 0).toNat:Int) r ((c.drop 4).take 55) t (f.seq 0 rfl fun _=>rfl)).mono ?_;rintro _ u ⟨s,rfl,w⟩;have j:=f.comp w;refine⟨s,rfl,(Ej s b _ c u (j.seq 1 rfl fun _=>rfl) (l.up j.ag) ?_).mono ?_⟩
 ·exact zh (EV _ _) (by decide)
 rintro _ h3 ⟨rfl,rfl⟩;refine⟨_,rfl,bf (fun o=>?_) (fun o=>?_)⟩
 ·have n:¬cb ((c.getD 3 0).toNat:Int) ((c.drop 4).take 55)=c:=of_decide_eq_false o;have:bQ c=none:=by unfold bQ;rw[if_neg (fun a=>n a.2)]
  rw[this];exact⟨fun _=>⟨rfl,.zip j.ag⟩,fun k x h=>(by cases h)⟩
 ·have m:cb ((c.getD 3 0).toNat:Int) ((c.drop 4).take 55)=c:=of_decide_eq_true o;have:bQ c=some (((c.getD 3 0).toNat:Int),(c.drop 4).take 55):=by unfold bQ;rw[if_pos ⟨p,m⟩]
  rw[this];refine⟨fun h=>(by cases h),fun k x a=>?_⟩;injection a with a
  injection a with hh1 hh2
  subst hh1;subst hh2;exact⟨r,rfl,j.cL [0]⟩
theorem Ku(x:bg)(r:cJ)(h:Heap)(F:js cX h x r):ab vV 75 #[recv x] h fun v h'=>v=vP (eX r)/\Sp h h' []:=by
 refine lZ x ?_;unfold iI;obtain⟨⟨E,B,A,s,I,_⟩,D⟩:=F;have m:x.2.2.2.1=r.p.1:=congrArg (·.1) s;have n:x.2.2.2.2.1=r.p.2.1:=congrArg (·.2.1) s;have f:x.2.2.2.2.2.1=r.p.2.2:=congrArg (·.2.2) s;have z:=Seq.len D;refine(Sp.refl h).boxed fun e j b=>?_;have b:Sp h j [ai e 49 (ba x)]:=b;have l:=b.box 0 rfl;have t:cellOf j e=some (vL vR r.object):=by rw[<-E];exact l.cell0 rfl
 have u:cellOf j (e.add 1)=some (vL vR r.block):=by rw[<-B];exact l.cell rfl
 have w:cellOf j (e.add 2)=some (vL vR r.id):=by rw[<-A];exact l.cell rfl
 have c:∀{h':Heap},Sp h h' [ai e 49 (ba x)]->(eX r=true->False)->Value.bool false=vP (eX r)/\Sp h h' []:=fun{h'} H' hn=>⟨by cases hq:eX r with|false=>rfl|true=>exact absurd hq hn,.zip H'.ag⟩
 have d:∀a:eX r=true,(0<=r.object/\r.object<=16777215)/\(0<=r.block/\r.block<=7)/\(0<=r.id/\r.id<=65535)/\bC r.p=true/\(r.data.length:Int)=r.p.2.2:=fun a=>(fX r).1 a;refine⟨_,t,aj (fun G=>⟨_,t,aj (fun J=>⟨_,u,aj (fun H=>⟨_,u,aj (fun K=>⟨_,w,(HG r.id j).mono ?_⟩) fun g=>c b fun a=>g (by have:=d a;omega)⟩) fun g=>c b fun a=>g (by have:=d a;omega)⟩) fun g=>c b fun a=>g (by have:=d a;omega)⟩) fun g=>c b fun a=>g (by have:=d a;omega)⟩;rintro _ _ ⟨rfl,rfl⟩;refine⟨_,rfl,bn (fun i=>?_) fun i=>c b fun a=>by have:=d a;unfold bD at i;simp at i;omega⟩;refine⟨r.p,by rw[<-m,<-n,<-f];exact l.ra 3 rfl rfl rfl,(BP r.p _).mono ?_⟩;rintro _ h3 ⟨rfl,y⟩;have o:Sp h h3 [ai e 49 (ba x)]:=b.up y.ag;have k:=o.box 0 rfl;refine⟨_,rfl,bn (fun q=>?_) fun q=>c o fun a=>by have:=(d a).2.2.2.1;rw[q]at this;cases this⟩;refine⟨x.2.2.2.2.2.2.2,k.cell rfl,r.p.2.2,by rw[<-f];exact k.at2 3 2 rfl,?_,.zip o.ag⟩;have hid:0<=r.id/\r.id<=65535:=by unfold bD at i;simp at i;omega
 have:(((x.2.2.2.2.2.2.2.len:Nat):Int)==r.p.2.2)=eX r:=by
  rw[vq,fX,beq_iff_eq];constructor
  ·intro a;exact⟨by omega,by omega,hid,q,by omega⟩
  ·rintro⟨_,_,_,_,a⟩;omega
 rw[this]
theorem Kv(x:bg)(r:cJ)(h:Heap)(J:js cX h x r):ab vV 33 #[recv x] h fun v h'=>∃s:Sl,v=s/\Sp h h' [ao 5 s 1 av (cB r)]:=by
 refine lY x ?_;unfold iH;obtain⟨⟨e1,K,z,D,n,e7,e8⟩,Y⟩:=id J;have u:x.2.2.2.1=r.p.1:=congrArg (·.1) D;have w:x.2.2.2.2.1=r.p.2.1:=congrArg (·.2.1) D;have y:x.2.2.2.2.2.1=r.p.2.2:=congrArg (·.2.2) D;refine(Sp.refl h).boxed fun o O c=>?_;have c:Sp h O [ai o 49 (ba x)]:=c;refine⟨x,(c.box 0 rfl).aI _ rfl,(Ku x r O (cX.mono (cX.loc J c.ag) fun _ V=>Nat.lt_of_lt_of_le V c.ag.1)).mono ?_⟩;rintro _ U ⟨rfl,R⟩;have t:Sp h U [ai o 49 (ba x)]:=c.up R.ag;refine⟨_,rfl,bf (fun g=>?_) (fun g=>?_)⟩
 ·unfold cB;rw[g];exact⟨⟨none,0,0⟩,rfl,(t.nil 5 1 av).cL [1]⟩
 have W:=kS g;have b:=t.box 0 rfl;refine aP ⟨r.object,by rw[<-e1];exact b.cell0 rfl,r.block,by rw[<-K];exact b.cell rfl,r.id,by rw[<-z];exact b.cell rfl,(ou ⟨none,0,0⟩ [] r.object 3 (by decide) (by simp) (t.nil 5 1 av).cn).mono ?_⟩;rintro _ h3 ⟨E,rfl,I⟩;have l:=I.box 1 rfl;refine⟨E,rfl,⟨by rw[<-z];exact l.cell rfl,by rw[<-K];exact l.cell rfl,trivial⟩,(ou E _ r.block 1 (by decide) (by simp[bq]) I).mono ?_⟩;rintro _ h4 ⟨L,rfl,M⟩;have A:=M.box 1 rfl;refine⟨L,rfl,⟨by rw[<-z];exact A.cell rfl,trivial⟩,(ou L _ r.id 2 (by decide) (by simp[bq]) M).mono ?_⟩;rintro _ h5 ⟨X,rfl,P⟩;have a:=P.box 1 rfl;refine⟨X,rfl,trivial,r.p.1,by rw[<-u];exact a.cell rfl,r.p.2.1,by rw[<-w];exact a.at2 3 1 rfl,r.p.2.2,by rw[<-y];exact a.at2 3 2 rfl,?_⟩;rw[bX,bX,bX];refine P.lit af av fv rfl [b8 r.p.1,b8 r.p.2.1,b8 r.p.2.2] rfl (show 3*1<=2^20 by decide) rfl fun S h6 N=>?_;refine N.append af 0 rfl fv ⟨_,_,rfl,rfl⟩ rfl (by decide) (fun _=>rfl) (N.seq 2 rfl fun _=>rfl) dN (by simp[bq]) fun F h7 m=>?_;have m:Sp h h7 [ao 5 F 1 av ([]++bm r.object 3++bm r.block 1++bm r.id 2++[b8 r.p.1,b8 r.p.2.1,b8 r.p.2.2]),ai o 49 (ba x)]:=m.cL [0,1];have k:=m.box 1 rfl;refine⟨r.seed,by rw[<-n];exact k.cell rfl,x.2.2.2.2.2.2.2,k.cell rfl,?_⟩;rw[ak r.seed];refine(ou F _ r.seed 4 (by decide) (by simp[bq]) m).mono ?_;rintro _ h8 ⟨Z,rfl,B⟩;have f:=B.box 1 rfl;refine⟨Z,rfl,⟨f.cell rfl,by rw[<-n];exact f.cell rfl,trivial⟩,?_⟩;refine B.append af 0 rfl fv ⟨_,_,rfl,rfl⟩ rfl (by decide) (fun _=>rfl) (Seq.up Y B.ag) dN (by simp[bq];omega) fun H G d=>?_;have T:[]++bm r.object 3++bm r.block 1++bm r.id 2++[b8 r.p.1,b8 r.p.2.1,b8 r.p.2.2]++bm r.seed 4++r.data=eU r:=by unfold eU;simp[qm]
 have d:Sp h G [ao 5 H 1 av (eU r),ai o 49 (ba x)]:=by rw[<-T];exact d
 have q:=d.box 1 rfl;refine⟨⟨by rw[<-n];exact q.cell rfl,trivial⟩,(GW 1 H (eU r) G (d.seq 0 rfl fun _=>rfl)).mono ?_⟩;rintro _ Q ⟨i,rfl,j⟩;have e:=(d.comp j).box 1 rfl;refine⟨i,rfl,⟨by rw[<-n];exact e.cell rfl,trivial⟩,i,rfl,?_⟩;unfold cB;rw[g,if_pos rfl];exact(d.comp j).cL [2]
theorem rm{x:aQ}{j:Nat}(a:j<x.length:=by omega):bO ((x.drop j).take 1)=(x[j].toNat:Int):=by
 rw[qL a];show bO [x[j]]=_;unfold bO;show(0:Int)*256+(x[j].toNat:Int)=_;omega
theorem HI(b:Sl)(c:aQ)(h:Heap)(hb:Rd h b 1 av c)(hc:c.length<=2^30)(S:b.len<=b.cap):
  ab vV 12 #[b] h fun v h'=>∃x:bg,v=.tuple #[recv x,vP (bR c).isSome]/\Sp h h' []:=by
 refine lH b ?_;unfold iz;refine(Sp.refl h).alloc af rfl fun q h1 V=>?_;have V:Sp h h1 [ai q 49 (ba (0,0,0,0,0,0,0,⟨none,0,0⟩))]:=V;have t:∀{h':Heap} {Bs:List HP},Sp h h' (ai q 49 (ba (0,0,0,0,0,0,0,⟨none,0,0⟩))::Bs)->bR c=none->
   ae vV (qe 49 (vN (some q)) (recv (0,0,0,0,0,0,0,⟨none,0,0⟩))) h' fun _ F=>∃P:bg,ah F q 0 (ba P)/\∃x:bg,Value.tuple #[recv P,vP false]=.tuple #[recv x,vP (bR c).isSome]/\Sp h F []:=fun{h' Bs} Q hn=>by
  refine Q.storeAll af 0 rfl rfl (ba (0,0,0,0,0,0,0,⟨none,0,0⟩)) rfl rfl rfl rfl fun F Z=>?_;exact⟨(0,0,0,0,0,0,0,⟨none,0,0⟩),(Z.box 0 rfl).aI _ rfl,(0,0,0,0,0,0,0,⟨none,0,0⟩),by rw[hn];rfl,.zip Z.ag⟩
 refine(FP b c h1 (hb.up V.ag) hc S).mono ?_;rintro _ f ⟨Q0,Q1⟩;cases htc:bQ c with
 |none=>
  obtain⟨rfl,R2⟩:=Q0 htc;have hn:bR c=none:=by unfold bR;rw[htc]
  exact⟨(0,⟨none,0,0⟩,false),rfl,aP (bf (fun _=>t (V.up R2.ag) hn) fun e=>by cases e)⟩
 |some kx=>
  obtain⟨k,x⟩:=kx;obtain⟨r,rfl,R2⟩:=Q1 k x htc;have U:Sp h f [ai q 49 (ba (0,0,0,0,0,0,0,⟨none,0,0⟩)),ao 5 r 1 av x]:=V.comp R2;have bb:x.length=55:=by
   unfold bQ at htc;split at htc
   ·rename_i m;injection htc with htc
    injection htc with _ htc
    rw[<-htc];simp;omega
   ·cases htc
  have bd:=(U.own 1 rfl).len;have M:=(U.own 1 rfl).cap;refine⟨(k,r,true),rfl,aP (bf (fun e=>by cases e) fun _=>cq (fun e=>t U ?_) fun D=>?_)⟩
  ·unfold bR;rw[htc];exact if_neg fun m=>e m.1
  dsimp only;have D:k=1:=D;obtain⟨R,s⟩:∃R,R=mS x:=⟨_,rfl⟩
  have y:bR c=if bC R.p=true/\cB R=c then some R else none:=by
   unfold bR;rw[htc];dsimp only;rw[<-s];by_cases m:bC R.p=true/\cB R=c
   ·rw[if_pos m];exact if_pos ⟨D,m⟩
   ·rw[if_neg m];exact if_neg fun h=>m h.2
  have i:Rd f r 1 av x:=U.seq 1 rfl fun _=>rfl;have tA:∀{h':Heap},Rd h' r 1 av x->ab vV 30 #[vM r.ptr 3 r.cap] h' fun v E=>v=vL vR R.object/\E=h':=fun{h'} hr=>by
   rw[s];exact Ax ⟨r.ptr,3,r.cap⟩ (x.take 3) h' (hr.take 3 (by omega)) (by simp;omega)
  have tB:∀{h':Heap} (j n:Nat),j+n<=55->n<=4->Rd h' r 1 av x->ab vV 30 #[.slice (if r.cap=j then r.ptr else r.ptr.map (·.add (j*1))) n (r.cap-j)] h' fun v E=>v=vL vR (bO ((x.drop j).take n))/\E=h':=fun{h'} j n h1 f hr=>
   Ax ⟨if r.cap=j then r.ptr else r.ptr.map (·.add (j*1)),n,r.cap-j⟩ ((x.drop j).take n) h' ((hr.drop j M).take n (by rw[qR];omega)) (by simp;omega)
  have ei:bO ((x.drop 4).take 2)=R.id:=by rw[s];rfl
  have es:bO ((x.drop 9).take 4)=R.seed:=by rw[s];rfl
  have e3:R.block=(x[3].toNat:Int):=by rw[s];exact rm
  have e6:R.p.1=(x[6].toNat:Int):=by rw[s];exact rm
  have e7:R.p.2.1=(x[7].toNat:Int):=by rw[s];exact rm
  have e8:R.p.2.2=(x[8].toNat:Int):=by rw[s];exact rm
  have B:0<=R.seed/\R.seed<4294967296:=by
   have:=tZ ((x.drop 9).take 4) (by simp;omega);rw[<-es];exact⟨this.1,this.2.1⟩
  have ew:qc vT R.seed=R.seed:=by
   unfold qc;simp[qf,wS];omega
  refine cg (fun(a:Addr) h'=>Sp h h' [ai a 49 (ba (R.object,R.block,R.id,R.p.1,R.p.2.1,R.p.2.2,R.seed,⟨none,0,0⟩)),ai q 49 (ba (0,0,0,0,0,0,0,⟨none,0,0⟩)),ao 5 r 1 av x]) ?_ ?_
  ·refine⟨⟨by decide,by omega⟩,i.lp 3 rfl (by omega) (x[3].toNat:Int) rfl fun a6 c6=>⟨⟨by decide,by decide,by omega⟩,i.lp 6 rfl (by omega) (x[6].toNat:Int) rfl fun a8 c8=>i.lp 7 rfl (by omega) (x[7].toNat:Int) rfl fun ad ay=>i.lp 8 rfl (by omega) (x[8].toNat:Int) rfl fun a2 a5=>⟨⟨by decide,by decide,by omega⟩,?_⟩⟩⟩;have w:∀z:UInt8,qc vR (z.toNat:Int)=(z.toNat:Int):=fun z=>by have:=z.toNat_lt;exact ak _
   rw[w,w,w,w];have held:∀{h':Heap},aH (fun b=>b<f.size) f h'->ar.ok [(a2.add ((8:Int).toNat*1),vL vS (x[8].toNat:Int)),(ad.add ((7:Int).toNat*1),vL vS (x[7].toNat:Int)),(a8.add ((6:Int).toNat*1),vL vS (x[6].toNat:Int)),(a6.add ((3:Int).toNat*1),vL vS (x[3].toNat:Int))] h':=fun{h'} d=>go d ⟨a5,ay,c8,c6,trivial⟩;have A_:∀{h':Heap} {K:Int->Heap->Prop},aH (fun b=>b<f.size) f h'->K R.object h'->ac vV 30 #[vM r.ptr 3 r.cap] (.one (.sc (.int .i64))) h' K:=fun{h' K} d hK=>by
    refine(tA (i.up d)).mono ?_;rintro _ _ ⟨rfl,rfl⟩;exact⟨_,rfl,hK⟩
   have B_:∀{h':Heap} {K:Int->Heap->Prop},aH (fun b=>b<f.size) f h'->K R.id h'->ac vV 30 #[.slice (if r.cap=4 then r.ptr else r.ptr.map (·.add (4*1))) 2 (r.cap-4)] (.one (.sc (.int .i64))) h' K:=fun{h' K} d hK=>by
    refine(tB 4 2 (by decide) (by decide) (i.up d)).mono ?_;rintro _ _ ⟨rfl,rfl⟩;exact⟨_,rfl,by rw[ei];exact hK⟩
   have Y:∀{h':Heap} {K:Int->Heap->Prop},aH (fun b=>b<f.size) f h'->K R.seed h'->ac vV 30 #[.slice (if r.cap=9 then r.ptr else r.ptr.map (·.add (9*1))) 4 (r.cap-9)] (.one (.sc (.int .i64))) h' K:=fun{h' K} d hK=>by
    refine(tB 9 4 (by decide) (by decide) (i.up d)).mono ?_;rintro _ _ ⟨rfl,rfl⟩;exact⟨_,rfl,by rw[es];exact hK⟩
   have fin:∀{h':Heap} {a:Addr},Sp h h' [ai q 49 (ba (0,0,0,0,0,0,0,⟨none,0,0⟩)),ao 5 r 1 av x,ai a 49 (ba (0,0,0,0,0,0,0,⟨none,0,0⟩))]->
     ae vV (qe 49 (vN (some a)) (recv (R.object,x[3].toNat,R.id,x[6].toNat,x[7].toNat,x[8].toNat,qc vT R.seed,⟨none,0,0⟩))) h' fun _ F=>ar.ok [] F/\Sp h F [ai a 49 (ba (R.object,R.block,R.id,R.p.1,R.p.2.1,R.p.2.2,R.seed,⟨none,0,0⟩)),ai q 49 (ba (0,0,0,0,0,0,0,⟨none,0,0⟩)),ao 5 r 1 av x]:=fun{h' a} Q=>by
    rw[ew,<-e3,<-e6,<-e7,<-e8];exact Q.storeAll af 2 rfl rfl (ba (R.object,R.block,R.id,R.p.1,R.p.2.1,R.p.2.2,R.seed,⟨none,0,0⟩)) rfl rfl rfl rfl fun F Z=>⟨trivial,Z.cL [2,0,1]⟩
   have I:=aH.refl (fun b=>b<f.size) f;have al:∀{K:Addr->Heap->Prop},(∀a h',aH (fun b=>b<f.size) f h'->Sp h h' [ai q 49 (ba (0,0,0,0,0,0,0,⟨none,0,0⟩)),ao 5 r 1 av x,ai a 49 (ba (0,0,0,0,0,0,0,⟨none,0,0⟩))]->K a h')->aL vV (Instr.alloc 49 true (.tuple #[])) f K:=fun{K} hk=>by
    refine U.rU af rfl ?_;exact fun a h' d Q=>hk a h' d Q
   refine⟨A_ I ⟨held I,B_ I ⟨held I,Y I ⟨held I,al fun a h9 d H=>⟨held d,fin H⟩⟩,al fun a h9 d H=>⟨held d,Y d ⟨held d,fin H⟩⟩⟩,al fun a h9 d H=>⟨held d,B_ d ⟨held d,Y d ⟨held d,fin H⟩⟩⟩⟩,al fun a h9 d H=>⟨held d,A_ d ⟨held d,B_ d ⟨held d,Y d ⟨held d,fin H⟩⟩⟩⟩⟩
  ·rintro a9 a7 N;refine⟨R.p,(N.box 0 rfl).ra 3 rfl rfl rfl,(BP R.p a7).mono ?_⟩;rintro _ am ⟨rfl,ax⟩;have A:Sp h am [ai a9 49 (ba (R.object,R.block,R.id,R.p.1,R.p.2.1,R.p.2.2,R.seed,⟨none,0,0⟩)),ai q 49 (ba (0,0,0,0,0,0,0,⟨none,0,0⟩)),ao 5 r 1 av x]:=N.up ax.ag;refine⟨_,rfl,bf (fun g=>t (A.bh 2 [1,0]) (by rw[y,if_neg (fun m=>by rw[g]at m;cases m.1)])) fun g=>?_⟩;have bk:=(bS R.p).1 g;refine⟨R.p.2.2,(A.box 0 rfl).at2 3 2 rfl,?_⟩;rw[ak ((13:Int)+R.p.2.2)];refine⟨⟨by decide,by omega,by omega⟩,?_⟩;have a3:((13:Int)+R.p.2.2).toNat-(13:Int).toNat=R.p.2.2.toNat:=by omega
   rw[a3];have L:(x.drop 13).take R.p.2.2.toNat=R.data:=by rw[s];rfl
   obtain⟨u,hu⟩:∃u:Sl,u=⟨if r.cap=13 then r.ptr else r.ptr.map (·.add (13*1)),R.p.2.2.toNat,r.cap-13⟩:=⟨_,rfl⟩
   have W:∀{h':Heap},Rd h' r 1 av x->Rd h' u 1 av R.data:=fun{h'} hr=>by
    rw[hu,<-L];exact(hr.drop 13 M).take R.p.2.2.toNat (by rw[qR];omega)
   refine A.store af 0 rfl rfl 7 [u] (by rw[hu];rfl) rfl rfl (by simp) fun J l=>?_;have l:Sp h J [ai a9 49 (ba (R.object,R.block,R.id,R.p.1,R.p.2.1,R.p.2.2,R.seed,u)),ai q 49 (ba (0,0,0,0,0,0,0,⟨none,0,0⟩)),ao 5 r 1 av x]:=l;obtain⟨X,hX⟩:∃X:bg,X=(R.object,R.block,R.id,R.p.1,R.p.2.1,R.p.2.2,R.seed,u):=⟨_,rfl⟩
   rw[<-hX]at l;refine⟨X,(l.box 0 rfl).aI _ rfl,(Kv X R J (by rw[hX];exact⟨⟨rfl,rfl,rfl,rfl,rfl,B⟩,W (l.seq 2 rfl fun _=>rfl)⟩)).mono ?_⟩;rintro _ a0 ⟨s5,rfl,a4⟩;have o:=l.comp a4;refine⟨s5,rfl,(Ej s5 b (cB R) c a0 (o.seq 3 rfl fun _=>rfl) (hb.up o.ag) ?_).mono ?_⟩
   ·unfold cB;split
    ·exact zh (EV _ _) (by decide)
    ·exact zJ _
   rintro _ br ⟨rfl,rfl⟩;refine⟨_,rfl,bf (fun O=>t (o.bh 2 [1,0]) (by rw[y,if_neg (fun m=>(of_decide_eq_false O) m.2)])) fun O=>?_⟩;have O:cB R=c:=of_decide_eq_true O;refine⟨X,(o.box 0 rfl).aI _ rfl,?_⟩;refine o.storeAll af 1 rfl rfl (ba X) rfl rfl rfl rfl fun bl T=>?_;have G:bR c=some R:=by rw[y,if_pos ⟨g,O⟩]
   exact⟨X,(T.box 1 rfl).aI _ rfl,X,by rw[G];rfl,.zip T.ag⟩
section
variable {B B':ap} {h0 h0' h h':Heap} {As As':List HP} {a b pw pw2:Addr} {d:bj}
end
section
variable {B:ap} {h0 h:Heap} {As:List HP} {a a2 pw pw2:Addr} {mc:aM} {offs:Int} {da da2:List aK} {w:Pow} {ds:aR}
end
section
variable {B:ap} {h0 h:Heap} {As:List HP} {a pw b:Addr} {x:bZ} {offs:Int} {da:List aK} {w:Pow} {ds:aR} {d:bj}
end
end Go.Qw
namespace Go.Vc
open Go Wl Go.Qw
def mL(l:aB)(k:Nat):Int:=l.getD k 0
def fQ(l:aB):Pm:=Ap (mL l 0) (mL l 1) (mL l 2)
def pC(l:aB):Nat:=(2+mL l 4%4).toNat
def Ay(l:aB):aB:=(qz (pC l)).map fun i=>8+mL l (5+i)%50
def Of(l:aB):Int:=mL l 3%7
theorem UN(l:aB):2<=pC l/\pC l<=5:=by unfold pC;omega
theorem SG(l:aB):(Ay l).length=pC l:=by simp[Ay]
end Go.Vc
namespace Go.Qw
open Go Go.Vc Go.Proofs Wl
section
variable {B:ap} {h0 h:Heap} {As:List HP} {a pw:Addr} {offs:Int} {da:List aK} {w:Pow} {ds:aR}
theorem mM(s:Sl)(l:aB)(k:Nat)(h:Heap)(a:Rd h s 1 aG l):ab vV 16 #[s,vL vR k] h fun v h'=>v=vL vR (mL l k)/\h'=h:=by
 refine rC s k ?_;unfold lI mL;have c:=a.len;refine aj (fun e=>?_) (fun e=>⟨?_,rfl⟩)
 ·have b:k<l.length:=by omega
  refine a.cA k rfl b (l.getD k 0) (by rw[getD_lt b];rfl) ⟨rfl,rfl⟩
 ·rw[List.getD_eq_getElem?_getD,List.getElem?_eq_none (by omega)];rfl
theorem LD(s:Sl)(l:aB)(h:Heap)(q:Rd h s 1 aG l):ab vV 4 #[s] h fun v h'=>∃r:Sl,v=.tuple #[jH (fQ l),vL vR (Of l),r]/\Sp h h' [ao 3 r 1 aG (Ay l)]:=by
 refine oc s ?_;unfold kd;refine(Sp.refl h).alloc af rfl fun u K p=>?_;have a:=q.up p.ag;refine(mM s l 0 K a).mono ?_;rintro _ _ ⟨rfl,rfl⟩;refine⟨_,rfl,(mM s l 1 _ a).mono ?_⟩;rintro _ _ ⟨rfl,rfl⟩;refine⟨_,rfl,(mM s l 2 _ a).mono ?_⟩;rintro _ H ⟨rfl,rfl⟩;refine⟨_,rfl,(NL _ _ _ H).mono ?_⟩;rintro _ O ⟨rfl,J⟩;have M:=p.up J.ag;refine⟨fQ l,rfl,?_⟩;refine M.alloc af rfl fun c N F=>?_;refine F.storeAll af 1 rfl rfl [vL vR (fQ l).1,vL vR (fQ l).2.1,vL vR (fQ l).2.2] rfl rfl rfl rfl fun L m=>?_;have m:Sp h L [ao 3 ⟨none,0,0⟩ 1 aG ((Ay l).take 0),ai c 24 [vL vR (fQ l).1,vL vR (fQ l).2.1,vL vR (fQ l).2.2],ai u 24 [vL vR 0,vL vR 0,vL vR 0]]:=(m.nil 3 1 aG).cL [2,1,0];have Q:=UN l;have B:=SG l;refine aA (fun t:Sl×Nat=>(t.1,(t.2:Int))) (fun t h'=>t.2<=pC l/\Sp h h' [ao 3 t.1 1 aG ((Ay l).take t.2),ai c 24 [vL vR (fQ l).1,vL vR (fQ l).2.1,vL vR (fQ l).2.2],ai u 24 [vL vR 0,vL vR 0,vL vR 0]]) (fun t=>pC l-t.2) (⟨none,0,0⟩,0) rfl ⟨by simp,m⟩ ?_;rintro⟨o,i⟩ h8 ⟨P,f⟩;dsimp only at*;have b:=q.up f.ag;refine(mM s l 4 h8 b).mono ?_;rintro _ _ ⟨rfl,rfl⟩;refine⟨_,rfl,(cU _ 4 _ (by decide) (by decide)).mono ?_⟩;rintro _ h8 ⟨rfl,rfl⟩;refine⟨_,rfl,?_⟩;have g:=f.box 1 rfl;dsimp only;rw[ak (2+mL l 4%4)];have j:2+mL l 4%4=(pC l:Int):=by unfold pC;omega
 rw[j];refine aj (fun e=>?_) (fun e=>?_)
 ·have G:i<pC l:=by omega
  rw[ak ((5:Int)+i)];have z:(5:Int)+i=((5+i:Nat):Int):=by omega
  rw[z];refine(mM s l (5+i) h8 b).mono ?_;rintro _ _ ⟨rfl,rfl⟩;refine⟨_,rfl,(cU _ 50 _ (by decide) (by decide)).mono ?_⟩;rintro _ E ⟨rfl,rfl⟩;refine⟨_,rfl,?_⟩;dsimp only;rw[ak (8+mL l (5+i)%50)];refine f.push af 0 rfl mE rfl (by decide) (fun _=>rfl) jQ (8+mL l (5+i)%50) rfl (by decide) (by simp;omega) fun x A n=>?_;refine⟨(x,i+1),by dsimp only;rw[ak _];rfl,⟨by dsimp only;omega,?_⟩,by dsimp only;omega⟩;dsimp only;rw[aO _ _ (show i<(Ay l).length by omega)];have I:(Ay l)[i]'(by omega)=8+mL l (5+i)%50:=by simp[Ay]
  rw[I];exact n
 ·have k:i=pC l:=by omega
  subst k;rw[qj (by omega)]at f;have w:ar.ok [(c,(vL vR (fQ l).1)),(c.add 1,(vL vR (fQ l).2.1)),(c.add 2,(vL vR (fQ l).2.2))] h8:=⟨g.cell0 rfl,g.cell rfl,g.cell rfl,trivial⟩
  refine⟨fQ l,g.aI _ rfl,(mM s l 3 h8 b).mono ?_⟩;rintro _ _ ⟨rfl,rfl⟩;refine⟨_,rfl,w,(cU _ 7 _ (by decide) (by decide)).mono ?_⟩;rintro _ y ⟨rfl,rfl⟩;refine⟨_,rfl,w,?_⟩;refine f.storeAll af 2 rfl rfl [vL vR (fQ l).1,vL vR (fQ l).2.1,vL vR (fQ l).2.2] rfl rfl rfl rfl fun D d=>⟨trivial,?_⟩
  exact⟨fQ l,(d.box 2 rfl).aI _ rfl,o,rfl,d.cL [0]⟩
theorem SH:(cm (1,1,1) 0 Pow.new [5]).1=0:=by decide+kernel
end
section
variable {B:ap} {h0 h:Heap} {As:List HP} {a pw:Addr} {offs:Int} {da:List aK} {w:Pow} {ds:aR}
theorem HJ(x:bZ)(m:aC)(f:fk h x m)(c:m.aF=[])(H:aa B h0 h (bi bz a pw (aY x) offs da w ds::As)):
  ab vV 45 #[vN (some a)] h fun v h'=>v=vM none 0 0/\h'=h:=by
 refine tC (some a) ?_;unfold nk;obtain⟨ok,d⟩:=aa.cK H;refine(mh (some a) (R:=fun v h'=>v=vP (fm w offs)/\h'=h) ?_).mono ?_
 ·unfold kj;refine bn (fun e=>by cases e) fun _=>(jY H).mono ?_;rintro _ _ ⟨rfl,rfl⟩;exact⟨_,rfl,rfl,rfl⟩
 rintro _ _ ⟨rfl,rfl⟩;refine⟨_,rfl,bn (fun _=>⟨rfl,rfl⟩) fun _=>⟨a,rfl,x.2.2.2.2.2.2.2,d.cell rfl,?_⟩⟩;have b:=cP.len f.aF;rw[c]at b;refine aA (fun _:Unit=>((⟨none,0,0⟩:Sl),(0:Int))) (fun _ h'=>h'=_) (fun _=>0) () rfl rfl ?_;rintro _ g rfl;exact aj (fun e=>absurd e (by rw[b];decide)) fun _=>⟨rfl,rfl⟩
end
section
variable {B:ap} {h0 h h':Heap} {As:List HP} {a:Addr} {w:Pow}
end
abbrev cr(p s:aK):aM:=.pointer p::.pointer s::qi 64 (vN none)
abbrev Og:=Int×Sl×Sl×Int×Int×Int×Sl×Int
abbrev dR(y:Og):aM:=[vL vR y.1,y.2.1,y.2.2.1,vL vR y.2.2.2.1,vL vR y.2.2.2.2.1,vL vR y.2.2.2.2.2.1,y.2.2.2.2.2.2.1,vL vR y.2.2.2.2.2.2.2]
abbrev Az(y:Og):Value:=vQ (dR y).toArray
abbrev dh:Sl:=⟨none,0,0⟩
abbrev cC(e:Int):Og:=(e,dh,dh,0,0,0,dh,0)
abbrev Mm(k:Int):aM:=[vL vR k,vO (⟨#[]⟩:ByteArray),vM none 0 0,vL vR 0,vL vR 0,vL vR 0,vL vT 0,vM none 0 0,vM none 0 0]
abbrev Wb(k:Int):Value:=vQ (Mm k).toArray
abbrev TJ(k:Int):Int×ByteArray×Sl×Int×Int×Int×Int×Sl×Sl:=(k,(⟨#[]⟩:ByteArray),dh,0,0,0,0,dh,dh)
section
variable {B:ap} {h0 h:Heap} {As:List HP} {a pw a2 pw2 b b2:Addr} {offs:Int} {da da2:List aK} {w:Pow} {ds:aR} {mc:aM}
theorem QJ(pw s:Addr):au vV (Instr.build 65 #[(0,vN (some pw)),(1,vN (some s))]) (vQ (cr (some pw) (some s)).toArray):=
 oH af (i:=_) rfl rfl rfl (vs:=[(0,vN (some pw)),(1,vN (some s))]) (cells:=(cr (some pw) (some s)).toArray) (by kernel_rfl)
theorem GZ(p:Pm)(extra:Int)(s:Sl)(l:aB)(m:St B h0 As fun h=>Rd h s 1 aG l)(o:l.length<=2^20)(H:aa B h0 h As):
  ab vV 5 #[jH p,vL vR extra,s] h fun v h'=>
   ((cm p extra Pow.new l).1≠0->v=.tuple #[vN none,vL vR (cm p extra Pow.new l).1]/\aa B h0 h' As)/\
   ((cm p extra Pow.new l).1=0->∃(b a pw:Addr) (x:bZ) (da:List aK),v=.tuple #[vN (some b),vL vR 0]/\
    aa B h0 h' (ai b 65 (cr (some pw) (some a))::bi bz a pw (aY x) Pow.new.offs da (cm p extra Pow.new l).2.1 (cm p extra Pow.new l).2.2::fa x (bY p extra l)::As)):=by
 refine DB p extra s ?_;unfold uv;refine H.boxed fun j k f=>?_;have f:aa B h0 k (ai j 24 [vL vR p.1,vL vR p.2.1,vL vR p.2.2]::As):=f.cn;refine(Pn k).mono ?_;rintro _ u ⟨pw,rfl,n⟩;have i:=f.cQ n;refine⟨_,rfl,p,(i.box 1 rfl).aI _ rfl,?_⟩;refine(Ln p extra s l (m.cons) o i).mono ?_;rintro _ h3 ⟨r,q⟩;by_cases c:(cm p extra Pow.new l).1=0
 ·obtain⟨a,x,da,rfl,d⟩:=q c;refine⟨(some a,0),rfl,cq (fun e=>absurd rfl e) fun _=>⟨_,QJ pw a,d.boxed fun b t g=>?_⟩⟩;have g:aa B h0 t (ai b 65 (cr (some pw) (some a))::bi bz a pw (aY x) Pow.new.offs da (cm p extra Pow.new l).2.1 (cm p extra Pow.new l).2.2::fa x (bY p extra l)::ai j 24 [vL vR p.1,vL vR p.2.1,vL vR p.2.2]::As):=g.cn;exact⟨fun e=>absurd c e,fun _=>⟨b,a,pw,x,da,rfl,g.bh 4 [0,1,2]⟩⟩
 ·obtain⟨rfl,d⟩:=r c;refine⟨(none,(cm p extra Pow.new l).1),rfl,cq (fun _=>⟨fun _=>⟨rfl,d.rest⟩,fun e=>absurd e c⟩) fun e=>absurd e c⟩
theorem LF{p:aK}(k:Int)(d:bV h b 65 (cr p (some a)))(ok:fl mc da ds)(f:bV h a 90 (cT mc pw offs da)):ab vV 10 #[vN (some b),vL vR k] h fun v h'=>v=.pointer (gl da k)/\h'=h:=by
 refine og (some b) k ?_;unfold kg;have c:¬(0<=k/\k<64)->Value.pointer none=.pointer (gl da k)/\h=h:=fun e=>by unfold gl;rw[if_neg e];exact⟨rfl,rfl⟩
 refine aP (aP (bn (fun e=>by cases e) fun _=>aj (fun e=>bn (fun _=>c (by omega)) fun e=>by cases e) fun g=>?_));refine bn (fun e=>c (by have:=of_decide_eq_true e;omega)) fun e=>?_;refine⟨b,rfl,some a,d.cell rfl,bn (fun _=>⟨b,rfl,some a,d.cell rfl,(kF k ok f).mono ?_⟩) fun e=>by cases e⟩;rintro _ _ ⟨rfl,rfl⟩;exact⟨_,rfl,rfl,rfl⟩
theorem LG(b:Addr)(h:Heap):ab vV 6 #[vN (some b),Wb 0] h fun v h'=>v=Az (cC 1)/\Sp h h' []:=by
 refine ez (some b) (TJ 0) ?_;unfold dS;refine(Sp.refl h).boxed fun f k i=>i.alloc af rfl fun a2 g c=>bn (fun e=>by cases e) fun _=>aP ?_;have c:Sp h g [ai f 42 (Mm 0),ai a2 36 (dR (cC 0))]:=c;refine⟨0,(c.box 0 rfl).cell0 rfl,aP ?_⟩;refine bt (fun e=>absurd e (by decide)) fun _=>bt (fun e=>absurd e (by decide)) fun _=>bt (fun e=>absurd e (by decide)) fun _=>bt (fun e=>absurd e (by decide)) fun _=>?_;refine bn (fun e=>by cases e) fun _=>?_;refine bt (fun e=>absurd e (by decide)) fun _=>bt (fun e=>absurd e (by decide)) fun _=>bt (fun e=>absurd e (by decide)) fun _=>bt (fun e=>absurd e (by decide)) fun _=>?_;refine bt (fun e=>absurd e (by decide)) fun _=>bt (fun e=>absurd e (by decide)) fun _=>bt (fun e=>absurd e (by decide)) fun _=>bt (fun e=>absurd e (by decide)) fun _=>?_;refine c.kr af 1 rfl rfl [vL vR 1] rfl rfl rfl (by decide) fun h3 a=>?_;have a:Sp h h3 [ai f 42 (Mm 0),ai a2 36 (dR (cC 1))]:=a;refine⟨cC 1,(a.box 1 rfl).aI _ rfl,a.storeAll af 1 rfl rfl (dR (cC 1)) rfl rfl rfl rfl fun j d=>?_⟩;exact⟨cC 1,(d.box 1 rfl).aI _ rfl,rfl,.zip d.ag⟩
theorem HK{p:aK}(x:bZ)(m:aC)(o:m.aF=[])(n:fm w offs=false)(c:bV h b 65 (cr p (some a)))(s:fk h x m)(H:aa B h0 h (bi bz a pw (aY x) offs da w ds::As)):
  ab vV 19 #[vN (some b),Wb 4] h fun v h'=>v=Az (cC 0)/\Sp h h' []:=by
 refine gE (some b) (TJ 4) ?_;unfold fL;refine(Sp.refl h).boxed fun l u r=>r.alloc af rfl fun a2 q f=>aP ?_;have f:Sp h q [ai l 42 (Mm 4),ai a2 36 (dR (cC 0))]:=f;refine⟨4,(f.box 0 rfl).cell0 rfl,?_⟩;refine bt (fun e=>absurd e (by decide)) fun _=>bt (fun e=>absurd e (by decide)) fun _=>bt (fun e=>absurd e (by decide)) fun _=>bt (fun _=>?_) fun e=>absurd rfl e;have i:=f.ag;have j:=c.ag i c.lt;refine⟨b,rfl,some a,j.cell rfl,(HJ x m (s.up i) o (aa.up H i)).mono ?_⟩;rintro _ _ ⟨rfl,rfl⟩;refine⟨dh,rfl,?_⟩;refine f.store af 1 rfl rfl 2 [vM none 0 0] rfl rfl rfl (by decide) fun h3 d=>?_;have d:Sp h h3 [ai l 42 (Mm 4),ai a2 36 (dR (cC 0))]:=d;have g:=c.ag d.ag c.lt;refine⟨b,rfl,some a,g.cell rfl,bn (fun e=>by cases e) fun _=>⟨b,rfl,some a,g.cell rfl,(jY (aa.up H d.ag)).mono ?_⟩⟩;rintro _ _ ⟨rfl,rfl⟩;refine⟨_,rfl,bn (fun e=>by rw[n]at e;cases e) fun _=>?_⟩;refine⟨cC 0,(d.box 1 rfl).aI _ rfl,d.storeAll af 1 rfl rfl (dR (cC 0)) rfl rfl rfl rfl fun t k=>?_⟩;exact⟨cC 0,(k.box 1 rfl).aI _ rfl,rfl,.zip k.ag⟩
theorem LH{p:aK}(x:bZ)(m:aC)(j:m.aF=[])(i:fm w offs=false)(d:bV h b 65 (cr p (some a)))(q:fk h x m)(H:aa B h0 h (bi bz a pw (aY x) offs da w ds::As)):
  ab vV 6 #[vN (some b),Wb 4] h fun v h'=>v=Az (cC 0)/\Sp h h' []:=by
 refine ez (some b) (TJ 4) ?_;unfold dS;refine(Sp.refl h).boxed fun o s n=>n.alloc af rfl fun a2 l c=>bn (fun e=>by cases e) fun _=>aP ?_;have c:Sp h l [ai o 42 (Mm 4),ai a2 36 (dR (cC 0))]:=c;refine⟨4,(c.box 0 rfl).cell0 rfl,aP ?_⟩;refine bt (fun e=>absurd e (by decide)) fun _=>bt (fun e=>absurd e (by decide)) fun _=>bt (fun e=>absurd e (by decide)) fun _=>bt (fun _=>?_) fun e=>absurd rfl e;refine bn (fun _=>?_) fun e=>by cases e
 have f:=c.ag;refine⟨TJ 4,(c.box 0 rfl).aI _ rfl,(HK x m j i (d.ag f d.lt) (q.up f) (aa.up H f)).mono ?_⟩;rintro _ h3 ⟨rfl,k⟩;refine⟨cC 0,rfl,?_⟩;refine(aa.up c k.ag).storeAll af 1 rfl rfl (dR (cC 0)) rfl rfl rfl rfl fun r g=>?_;exact⟨cC 0,(g.box 1 rfl).aI _ rfl,rfl,.zip g.ag⟩
theorem Oh:fm (cm (1,1,1) 0 Pow.new [5]).2.1 Pow.new.offs=false:=by decide+kernel
theorem Kw(h:Heap):ab vV 9 #[] h fun v h'=>v=vP true/\Sp h h' []:=by
 refine oe ?_;unfold kf;refine(Sp.refl h).lit af aG mE rfl [5] rfl (show 1*1<=2^20 by decide) rfl fun d n j=>?_;refine(GZ (1,1,1) 0 d [5] (As:=[ao 3 d 1 aG [5]]) (St.il 0 rfl fun h' f=>f.1.seq (fun _=>rfl) f.2) (by decide) j).mono ?_;rintro _ i ⟨_,Q⟩;obtain⟨b,a,pw,x,da,rfl,c⟩:=Q SH;have l:fk i x (bY (1,1,1) 0 [5]):=c.at 2 rfl;refine⟨(some b,0),rfl,bt (fun _=>bn (fun _=>?_) fun e=>by cases e) fun e=>absurd rfl e⟩;refine(LH x _ rfl Oh (c.box 0 rfl) l (c.rest)).mono ?_;rintro _ h3 ⟨rfl,g⟩;refine⟨cC 0,rfl,bt (fun _=>?_) fun e=>absurd rfl e⟩;refine(LG b h3).mono ?_;rintro _ m ⟨rfl,k⟩;exact⟨cC 1,rfl,rfl,.zip (aa.up (aa.up c g.ag) k.ag).ag⟩
end
abbrev EW:=Int×ByteArray×Sl×Int×Int×Int×Int×Sl×Sl
abbrev jv(y:EW):aM:=[vL vR y.1,vO y.2.1,y.2.2.1,vL vR y.2.2.2.1,vL vR y.2.2.2.2.1,vL vR y.2.2.2.2.2.1,vL vT y.2.2.2.2.2.2.1,y.2.2.2.2.2.2.2.1,y.2.2.2.2.2.2.2.2]
abbrev FQ(y:EW):Value:=vQ (jv y).toArray
section
variable {B:ap} {h0 h:Heap} {As:List HP} {a pw b:Addr} {offs:Int} {da:List aK} {w:Pow} {ds:aR} {m:aC} {q:aK}
theorem Kx(y:EW)(t:y.1=1)(c:aQ)(o:St B h0 As fun h=>Rd h y.2.2.1 1 av c)(j:y.2.2.1.len<=y.2.2.1.cap)(u:y.2.1.size<=2^40)(s:bN m=true)(i:c.length<=2^20)(H:aa B h0 h (cI a pw da offs w ds m::ai b 65 (cr q (some a))::As)):
  ab vV 19 #[vN (some b),FQ y] h fun v h'=>v=Az (cC (cF m offs w ds y.2.1 c).1)/\
   aa B h0 h' (cI a pw da offs (cF m offs w ds y.2.1 c).2.2.1 (cF m offs w ds y.2.1 c).2.2.2 (cF m offs w ds y.2.1 c).2.1::ai b 65 (cr q (some a))::As):=by
 refine gE (some b) y ?_;unfold fL;refine H.boxed fun n x g=>?_;have g:aa B h0 x (ai n 42 (jv y)::cI a pw da offs w ds m::ai b 65 (cr q (some a))::As):=g.cn;refine g.alloc af rfl fun a2 k d=>?_;have d:aa B h0 k (ai a2 36 (dR (cC 0))::ai n 42 (jv y)::cI a pw da offs w ds m::ai b 65 (cr q (some a))::As):=d.cn;refine cg (fun _ h'=>aa B h0 h' (ai a2 36 (dR (cC (cF m offs w ds y.2.1 c).1))::cI a pw da offs (cF m offs w ds y.2.1 c).2.2.1 (cF m offs w ds y.2.1 c).2.2.2 (cF m offs w ds y.2.1 c).2.1::ai b 65 (cr q (some a))::As)) ?_ ?_
 ·refine⟨y.1,(d.box 1 rfl).cell0 rfl,bt (fun _=>?_) fun e=>absurd t e⟩;refine⟨b,rfl,some a,(d.box 3 rfl).cell rfl,y.2.1,(d.box 1 rfl).cell rfl,y.2.2.1,(d.box 1 rfl).cell rfl,?_⟩;have p:aa B h0 k (cI a pw da offs w ds m::ai a2 36 (dR (cC 0))::ai b 65 (cr q (some a))::As):=d.bh 4 [2,0,3];refine(UE y.2.1 y.2.2.1 c (As:=ai a2 36 (dR (cC 0))::ai b 65 (cr q (some a))::As) o.cons.cons j u s i p).mono ?_;rintro _ F ⟨rfl,r⟩;refine⟨_,rfl,trivial,r.kr af 1 rfl rfl [vL vR (cF m offs w ds y.2.1 c).1] rfl rfl rfl (by simp) fun E A=>⟨trivial,?_⟩⟩;exact A.bh 3 [1,0,2]
 ·rintro _ D l;refine⟨cC (cF m offs w ds y.2.1 c).1,(l.box 0 rfl).aI _ rfl,l.storeAll af 0 rfl rfl (dR (cC (cF m offs w ds y.2.1 c).1)) rfl rfl rfl rfl fun z f=>?_⟩;have f:aa B h0 z (ai a2 36 (dR (cC (cF m offs w ds y.2.1 c).1))::cI a pw da offs (cF m offs w ds y.2.1 c).2.2.1 (cF m offs w ds y.2.1 c).2.2.2 (cF m offs w ds y.2.1 c).2.1::ai b 65 (cr q (some a))::As):=f;exact⟨cC (cF m offs w ds y.2.1 c).1,(f.box 0 rfl).aI _ rfl,rfl,f.rest⟩
theorem HL(y:EW)(u:y.1=5)(s:bN m=true)(H:aa B h0 h (cI a pw da offs w ds m::ai b 65 (cr q (some a))::As)):
  ab vV 19 #[vN (some b),FQ y] h fun v h'=>∃t:Sl,v=Az ((dT m offs w ds y.2.1).2,dh,dh,(dT m offs w ds y.2.1).1.1,(dT m offs w ds y.2.1).1.2.1,(dT m offs w ds y.2.1).1.2.2,t,0)/\Sp h h' []:=by
 refine gE (some b) y ?_;unfold fL;have d:=H.box 1 rfl;refine(Sp.refl h).boxed fun g z i=>?_;have i:Sp h z [ai g 42 (jv y)]:=i;refine i.alloc af rfl fun a2 r c=>?_;have c:Sp h r [ai g 42 (jv y),ai a2 36 (dR (cC 0))]:=c;have k:=d.ag c.ag d.lt;obtain⟨E,n⟩:∃E,E=dT m offs w ds y.2.1:=⟨_,rfl⟩
 refine cg (fun _ h'=>∃t:Sl,Sp h h' [ai a2 36 (dR (E.2,dh,dh,E.1.1,E.1.2.1,E.1.2.2,t,0))]) ?_ ?_
 ·refine⟨y.1,(c.box 0 rfl).cell0 rfl,?_⟩;rw[u];refine bt (fun e=>absurd e (by decide)) fun _=>bt (fun e=>absurd e (by decide)) fun _=>bt (fun e=>absurd e (by decide)) fun _=>bt (fun e=>absurd e (by decide)) fun _=>bt (fun _=>?_) fun e=>absurd rfl e;refine⟨b,rfl,some a,k.cell rfl,y.2.1,(c.box 0 rfl).cell rfl,(SB y.2.1 s (H.up c.ag)).mono ?_⟩;rintro _ h3 ⟨t,rfl,p⟩;have o:Sp h h3 [ai g 42 (jv y),ai a2 36 (dR (cC 0))]:=c.up p.ag;refine⟨((E.1.1,E.1.2.1,E.1.2.2,t),E.2),by rw[n],trivial,?_⟩;refine o.store af 1 rfl rfl 3 [vL vR E.1.1,vL vR E.1.2.1,vL vR E.1.2.2,t] rfl rfl rfl (by simp) fun x j=>⟨trivial,?_⟩
  have j:Sp h x [ai g 42 (jv y),ai a2 36 (dR (0,dh,dh,E.1.1,E.1.2.1,E.1.2.2,t,0))]:=j;refine j.kr af 1 rfl rfl [vL vR E.2] rfl rfl rfl (by simp) fun G D=>⟨trivial,t,?_⟩
  exact D.cL [1]
 ·rintro _ F ⟨t,l⟩;refine⟨(E.2,dh,dh,E.1.1,E.1.2.1,E.1.2.2,t,0),(l.box 0 rfl).aI _ rfl,l.storeAll af 0 rfl rfl (dR (E.2,dh,dh,E.1.1,E.1.2.1,E.1.2.2,t,0)) rfl rfl rfl rfl fun A f=>?_⟩;have f:Sp h A [ai a2 36 (dR (E.2,dh,dh,E.1.1,E.1.2.1,E.1.2.2,t,0))]:=f;exact⟨(E.2,dh,dh,E.1.1,E.1.2.1,E.1.2.2,t,0),(f.box 0 rfl).aI _ rfl,t,by rw[<-n],.zip f.ag⟩
theorem LI(y:EW){d:bj}{j:Nat}(N:bN m=true)(G:fm w offs=false)(Q:0<=y.2.2.2.2.2.1/\y.2.2.2.2.2.1<=60)(E:0<y.2.2.2.2.2.2.1/\y.2.2.2.2.2.2.1<2^32)(K:y.2.2.2.1∈bB ds m.drives)(D:bF ds y.2.2.2.1=some d)(I:y.2.2.2.2.1=j)(u:j<d.l.length)
  (H:aa B h0 h (cI a pw da offs w ds m::ai b 65 (cr q (some a))::As)):
  ab vV 25 #[vN (some b),FQ y] h fun v h'=>v=vL vR (if bQ d.l[j]=none then 5 else 0)/\
   aa B h0 h' (cI a pw da offs w (if bQ d.l[j]=none then ds else eV ds y.2.2.2.1 (d.dC j y.2.2.2.2.2.1 y.2.2.2.2.2.2.1)) m::ai b 65 (cr q (some a))::As):=by
 refine oh (some b) y ?_;unfold kh;refine H.boxed fun A h1 g=>?_;have g:aa B h0 h1 (cI a pw da offs w ds m::ai b 65 (cr q (some a))::ai A 42 (jv y)::As):=g.cn.bh 3 [1,2,0];have c:=g.box 1 rfl;refine aP ⟨b,rfl,some a,c.cell rfl,bn (fun e=>by cases e) fun _=>⟨b,rfl,some a,c.cell rfl,(Sq g).mono ?_⟩⟩;rintro _ _ ⟨rfl,rfl⟩;refine⟨_,rfl,bn (fun e=>by rw[G]at e;cases e) fun _=>aP ?_⟩;have p:=g.box 2 rfl;refine⟨_,p.cell rfl,aj (fun e=>absurd e (Int.not_lt.2 Q.1)) fun _=>⟨_,p.cell rfl,aj (fun e=>absurd Q.2 (Int.not_le.2 e)) fun _=>⟨_,p.cell rfl,bt (fun e=>absurd e (by omega)) fun _=>?_⟩⟩⟩;refine⟨b,rfl,some a,c.cell rfl,(So N g).mono ?_⟩;rintro _ h2 ⟨r,rfl,J⟩;refine⟨r,rfl,?_⟩;obtain⟨L,M⟩:∃L,L=bB ds m.drives:=⟨_,rfl⟩
 rw[<-M]at K J;have T:aa B h0 h2 (ao 3 r 1 aG L::cI a pw da offs w ds m::ai b 65 (cr q (some a))::ai A 42 (jv y)::As):=g.cQ J;have ad:L.length<=64:=by rw[M];exact zh (zt _ _) (nh N)
 refine aA (fun i:Nat=>(i:Int)) (fun i h'=>i<=L.length/\y.2.2.2.1∉L.take i/\aa B h0 h' (ao 3 r 1 aG L::cI a pw da offs w ds m::ai b 65 (cr q (some a))::ai A 42 (jv y)::As)) (fun i=>L.length-i) 0 rfl ⟨zJ _,by simp,T⟩ ?_;rintro i h3 ⟨hi,k,t⟩;dsimp only;have R:=(t.own 0 rfl).len;refine aj (fun e=>?_) fun e=>?_
 ·have o:i<L.length:=by have Z:(i:Int)<(r.len:Int):=e;omega
  refine(t.seq 0 rfl fun _=>rfl).cA i rfl o L[i] rfl ?_;refine⟨y.2.2.2.1,(t.box 3 rfl).cell rfl,cq (fun ne=>?_) fun eq=>?_⟩
  ·refine⟨i+1,by rw[ak _];rfl,⟨o,?_,t⟩,by omega⟩;rw[aO _ _ o,qE,qB];rintro(h|h)
   ·exact k h
   ·exact ne h.symm
  ·rw[eq];have n:aa B h0 h3 (cI a pw da offs w ds m::ai b 65 (cr q (some a))::ai A 42 (jv y)::As):=t.bh 4 [1,2,3];refine⟨b,rfl,some a,(n.box 1 rfl).cell rfl,(Qm _ n).mono ?_⟩;rintro _ h3 ⟨rfl,rfl⟩;obtain⟨bd,f⟩:=Mk D n;rw[f];obtain⟨U,V,q1,q2,O⟩:=Kj D f n;refine⟨_,rfl,_,(n.box 2 rfl).cell rfl,?_⟩;rw[I];refine(GG U V (j:Int) q1 q2 O.cell).mono ?_;rintro _ h5 ⟨P,rfl,x⟩;rw[if_pos (by omega),qo,gV [] u]at x;have Y:d.l[j].length=64:=O.cell _ (qn u);refine⟨P,rfl,(Em P d.l[j] h5 (x.seq 0 rfl fun _=>rfl) (by omega) (x.own 0 rfl).cap).mono ?_⟩;rintro _ h6 ⟨X,Q1⟩;cases htc:bQ d.l[j]with
   |none=>
    obtain⟨rfl,F⟩:=X htc;have z:=(n.up x.ag).up F.ag;refine⟨(0,⟨none,0,0⟩,false),rfl,bf (fun _=>?_) fun e=>by cases e⟩;rw[if_pos rfl,if_pos rfl];exact⟨rfl,z.bh 3 [0,1]⟩
   |some kx=>
    obtain⟨W,rfl,F⟩:=Q1 kx.1 kx.2 htc;have z:=(n.up x.ag).up F.ag;refine⟨(kx.1,W,true),rfl,bf (fun e=>by cases e) fun _=>?_⟩;rw[if_neg (by simp),if_neg (by simp)];have s:=z.box 2 rfl;refine⟨y.2.2.2.2.1,s.cell rfl,y.2.2.2.2.2.1,s.cell rfl,y.2.2.2.2.2.2.1,s.cell rfl,?_⟩;rw[I];refine(Qr (j:Int) y.2.2.2.2.2.1 y.2.2.2.2.2.2.1 ⟨by omega,E.2⟩ D f z).mono ?_;rintro _ h7 ⟨rfl,S⟩;exact⟨_,rfl,rfl,S.bh 3 [0,1]⟩
 ·have Z:¬(i:Int)<(r.len:Int):=e;rw[show i=L.length by omega,za]at k;exact absurd K k
end
section
variable {B:ap} {h0 h:Heap} {As:List HP} {a pw b:Addr} {offs:Int} {da:List aK} {w:Pow} {ds:aR} {m:aC} {q:aK}
theorem Oi(y:EW)(i:y.1=1)(c:aQ)(n:St B h0 As fun h=>Rd h y.2.2.1 1 av c)(k:y.2.2.1.len<=y.2.2.1.cap)(s:y.2.1.size<=2^40)(r:bN m=true)(g:c.length<=2^20)(H:aa B h0 h (cI a pw da offs w ds m::ai b 65 (cr q (some a))::As)):
  ab vV 6 #[vN (some b),FQ y] h fun v h'=>v=Az (cC (cF m offs w ds y.2.1 c).1)/\
   aa B h0 h' (cI a pw da offs (cF m offs w ds y.2.1 c).2.2.1 (cF m offs w ds y.2.1 c).2.2.2 (cF m offs w ds y.2.1 c).2.1::ai b 65 (cr q (some a))::As):=by
 refine ez (some b) y ?_;unfold dS;refine H.boxed fun j t f=>?_;have f:aa B h0 t (ai j 42 (jv y)::cI a pw da offs w ds m::ai b 65 (cr q (some a))::As):=f.cn;refine f.alloc af rfl fun a2 p d=>bn (fun e=>by cases e) fun _=>aP ?_;have d:aa B h0 p (cI a pw da offs w ds m::ai b 65 (cr q (some a))::ai j 42 (jv y)::ai a2 36 (dR (cC 0))::As):=d.cn.bh 4 [2,3,1,0];refine⟨y.1,(d.box 2 rfl).cell0 rfl,aP (bt (fun _=>?_) fun e=>absurd i e)⟩;refine bn (fun _=>?_) fun e=>by rw[i]at e;cases e
 refine⟨y,(d.box 2 rfl).aI _ rfl,(Kx y i c (As:=ai j 42 (jv y)::ai a2 36 (dR (cC 0))::As) n.cons.cons k s r g d).mono ?_⟩;rintro _ h3 ⟨rfl,o⟩;refine⟨cC (cF m offs w ds y.2.1 c).1,rfl,o.storeAll af 3 rfl rfl (dR (cC (cF m offs w ds y.2.1 c).1)) rfl rfl rfl rfl fun u l=>?_⟩;exact⟨cC (cF m offs w ds y.2.1 c).1,(l.box 3 rfl).aI _ rfl,rfl,l.bh 4 [0,1]⟩
theorem BV(y:EW)(j:y.1=5)(n:bN m=true)(H:aa B h0 h (cI a pw da offs w ds m::ai b 65 (cr q (some a))::As)):
  ab vV 6 #[vN (some b),FQ y] h fun v h'=>∃t:Sl,v=Az ((dT m offs w ds y.2.1).2,dh,dh,(dT m offs w ds y.2.1).1.1,(dT m offs w ds y.2.1).1.2.1,(dT m offs w ds y.2.1).1.2.2,t,0)/\Sp h h' []:=by
 refine ez (some b) y ?_;unfold dS;refine(Sp.refl h).boxed fun g p f=>?_;have f:Sp h p [ai g 42 (jv y)]:=f;refine f.alloc af rfl fun a2 l c=>bn (fun e=>by cases e) fun _=>aP ?_;have c:Sp h l [ai g 42 (jv y),ai a2 36 (dR (cC 0))]:=c;refine⟨y.1,(c.box 0 rfl).cell0 rfl,aP ?_⟩;rw[j];refine bt (fun e=>absurd e (by decide)) fun _=>bt (fun e=>absurd e (by decide)) fun _=>bt (fun e=>absurd e (by decide)) fun _=>bt (fun e=>absurd e (by decide)) fun _=>?_;refine bn (fun _=>?_) fun e=>by cases e
 refine⟨y,(c.box 0 rfl).aI _ rfl,(HL y j n (H.up c.ag)).mono ?_⟩;rintro _ h3 ⟨t,rfl,k⟩;obtain⟨Y,i⟩:∃Y:Og,Y=((dT m offs w ds y.2.1).2,dh,dh,(dT m offs w ds y.2.1).1.1,(dT m offs w ds y.2.1).1.2.1,(dT m offs w ds y.2.1).1.2.2,t,0):=⟨_,rfl⟩
 rw[<-i];refine⟨Y,rfl,(c.up k.ag).storeAll af 1 rfl rfl (dR Y) rfl rfl rfl rfl fun o d=>?_⟩;have d:Sp h o [ai g 42 (jv y),ai a2 36 (dR Y)]:=d;exact⟨Y,(d.box 1 rfl).aI _ rfl,t,by rw[<-i],.zip d.ag⟩
theorem Ky(y:EW)(A:y.1=11){d:bj}{j:Nat}(z:bN m=true)(k:fm w offs=false)(G:0<=y.2.2.2.2.2.1/\y.2.2.2.2.2.1<=60)(f:0<y.2.2.2.2.2.2.1/\y.2.2.2.2.2.2.1<2^32)(t:y.2.2.2.1∈bB ds m.drives)(s:bF ds y.2.2.2.1=some d)(r:y.2.2.2.2.1=j)(g:j<d.l.length)
  (H:aa B h0 h (cI a pw da offs w ds m::ai b 65 (cr q (some a))::As)):
  ab vV 6 #[vN (some b),FQ y] h fun v h'=>v=Az (cC (if bQ d.l[j]=none then 5 else 0))/\
   aa B h0 h' (cI a pw da offs w (if bQ d.l[j]=none then ds else eV ds y.2.2.2.1 (d.dC j y.2.2.2.2.2.1 y.2.2.2.2.2.2.1)) m::ai b 65 (cr q (some a))::As):=by
 refine ez (some b) y ?_;unfold dS;obtain⟨E,D⟩:∃E:Int,E=(if bQ d.l[j]=none then 5 else 0):=⟨_,rfl⟩
 refine H.boxed fun o F i=>?_;have i:aa B h0 F (ai o 42 (jv y)::cI a pw da offs w ds m::ai b 65 (cr q (some a))::As):=i.cn;refine i.alloc af rfl fun a2 x c=>bn (fun e=>by cases e) fun _=>?_;have c:aa B h0 x (cI a pw da offs w ds m::ai b 65 (cr q (some a))::ai o 42 (jv y)::ai a2 36 (dR (cC 0))::As):=c.cn.bh 4 [2,3,1,0];refine aP ⟨y.1,(c.box 2 rfl).cell0 rfl,aP ?_⟩;rw[A];refine bt (fun e=>absurd e (by decide)) fun _=>bt (fun e=>absurd e (by decide)) fun _=>bt (fun e=>absurd e (by decide)) fun _=>bt (fun e=>absurd e (by decide)) fun _=>?_;refine bn (fun e=>by cases e) fun _=>?_;refine bt (fun e=>absurd e (by decide)) fun _=>bt (fun e=>absurd e (by decide)) fun _=>bt (fun e=>absurd e (by decide)) fun _=>bt (fun e=>absurd e (by decide)) fun _=>bt (fun e=>absurd e (by decide)) fun _=>bt (fun _=>?_) fun e=>absurd rfl e;refine⟨y,(c.box 2 rfl).aI _ rfl,(LI y z k G f t s r g c).mono ?_⟩;rintro _ h3 ⟨rfl,u⟩;rw[<-D];refine⟨E,rfl,u.kr af 3 rfl rfl [vL vR E] rfl rfl rfl (by simp) fun J n=>?_⟩;refine⟨cC E,(n.box 3 rfl).aI (dR (cC E)) rfl,n.storeAll af 3 rfl rfl (dR (cC E)) rfl rfl rfl rfl fun I p=>?_⟩;exact⟨cC E,(p.box 3 rfl).aI (dR (cC E)) rfl,rfl,p.bh 4 [0,1]⟩
theorem Kz(p:Pm)(extra:Int)(s:Sl)(l:aB)(d:St B h0 As fun h=>Rd h s 1 aG l)(f:l.length<=64)(i:pz p extra l=0)(H:aa B h0 h As):
  ab vV 5 #[jH p,vL vR extra,s] h fun v h'=>∃(b a pw:Addr) (da:List aK) (D:aR),v=.tuple #[vN (some b),vL vR 0]/\D.length=64/\
   (∀s,bF D s=if s∈aX l l.length then some ⟨(l.getD s.toNat 0).toNat,bc (bY p extra l),0,[],false,false⟩else none)/\aa B h0 h' (cI a pw da 0 Pow.new D (bY p extra l)::ai b 65 (cr (some pw) (some a))::As):=by
 obtain⟨D,k,g,j⟩:=Qk (p:=p) (extra:=extra) (l:=l) f i;refine(GZ p extra s l d (by omega) H).mono ?_;rintro _ h' ⟨_,c⟩;rw[k]at c;obtain⟨b,a,pw,y,da,rfl,e⟩:=c rfl;exact⟨b,a,pw,da,D,rfl,g,j,CQ (e.bh 3 [1,2,0])⟩
theorem Oj(k:Int)(H:aa B h0 h (cI a pw da offs w ds m::ai b 65 (cr q (some a))::As)):ab vV 10 #[vN (some b),vL vR k] h fun v h'=>v=.pointer (gl da k)/\h'=h:=by
 have d:=H.box 1 rfl;obtain⟨x,H⟩:=jn H;obtain⟨ok,c⟩:=aa.cK H;exact LF k d ok c
end
section
theorem UO:gH jD=true:=by decide+kernel
abbrev Wv:bP C.torQ 44 54 2 [vL vR 0,vL vR 0] 16:=⟨_,_,rfl,rfl,rfl,rfl,rfl,rfl⟩
theorem FR{m:aC}{D:aR}{name:ByteArray}{n:Int}{t:aB}{a b:bj}{l k:Nat->Prop}(h:m.aF=[⟨name,0,n,t⟩])(c:m.drives=[0,1])(d:bF D 0=some a)(e:bF D 1=some b)(w0:jP m 0 a l)(g:jP m 0 b k):
  bB D m.drives=[0,1]/\dT m 0 Pow.new D name=((n,(t.length:Int),((dL m a+dL m b:Nat):Int)),0):=by
 have f:bB D m.drives=[0,1]:=by
  rw[c];show[(0:Int),1].filter (isLive D)=[0,1]
  have j:isLive D 0=true:=by unfold isLive;rw[d];simp[w0.lost]
  have i:isLive D 1=true:=by unfold isLive;rw[e];simp[g.lost]
  simp[j,i]
 refine⟨f,?_⟩;unfold dT;rw[if_neg (by decide),h];have:[(⟨name,0,n,t⟩:Wl.ca)].find? (dQ name)=some ⟨name,0,n,t⟩:=by
  rw[List.find?_cons];have:dQ name ⟨name,0,n,t⟩=true:=by unfold dQ;simp
  rw[this]
 rw[this];dsimp only;rw[f];unfold jO;simp only[zS,vw,List.sum_cons,List.sum_nil];rw[w0.count d,g.count e,wH]
theorem AA(s:Sl)(l:aB)(n x:Int)(s2:Sl)(H:aB)(h:Heap)(hs:Rd h s 1 aG l)(b7:Rd h s2 1 aG H):
  ab vV 3 #[s,vL vR n,vL vR x,s2] h fun v h'=>v=vP true/\Sp h h' []:=by
 refine kz s n x s2 ?_;unfold gK;refine(LD s l h hs).mono ?_;rintro _ h1 ⟨r,rfl,R1⟩;refine⟨(fQ l,Of l,r),rfl,R1.alloc af rfl fun a2 h2 H2=>?_⟩;refine H2.storeAll af 1 rfl rfl [vL vR (fQ l).1,vL vR (fQ l).2.1,vL vR (fQ l).2.2] rfl rfl rfl rfl fun h3 H3=>?_;obtain⟨p,W⟩:∃p,p=fQ l:=⟨_,rfl⟩
 obtain⟨E,hE⟩:∃E,E=Of l:=⟨_,rfl⟩
 have hp:bC p=true:=by rw[W];unfold fQ;rw[bS];unfold Ap;dsimp only;omega
 have b4:p.1<=6/\p.2.2<=9:=by rw[W];unfold fQ Ap;dsimp only;omega
 have g6:=(bS p).1 hp;have ei:0<=E/\E<=6:=by rw[hE];unfold Of;omega
 rw[<-W,<-hE];rw[<-W]at H3;have H3:Sp h h3 [ai a2 24 [vL vR p.1,vL vR p.2.1,vL vR p.2.2]]:=H3.cL [1];have e0:pz p E [60,60]=0:=Qp hp (by omega) 2 60 (by omega) (by omega);have d6:0<p.1*p.2.2:=Int.mul_pos (by omega) (by omega);have f4:p.1*p.2.2<=6*9:=Int.mul_le_mul b4.1 b4.2 (by omega) (by omega);refine⟨p,(H3.box 0 rfl).aI _ rfl,H3.lit af aG mE rfl [60,60] rfl (show 2*1<=2^20 by decide) rfl fun v4 h4 H4=>?_⟩;refine(Kz p E v4 [60,60] (As:=[ai a2 24 [vL vR p.1,vL vR p.2.1,vL vR p.2.2],ao 3 v4 1 aG [60,60]]) (St.il 1 rfl fun h' hq=>hq.1.seq (fun _=>rfl) hq.2) (by decide) e0 H4).mono ?_;rintro _ h5 ⟨b,a,pw,da,D,rfl,f2,f3,H5⟩;have F:=Sr (c:=2) (x:=60) hp (by omega) (by omega) (by omega) f2 f3;obtain⟨m,hm⟩:∃m,m=bY p E (qi 2 60):=⟨_,rfl⟩
 rw[<-hm]at F;have H5:Sp h h5 [cI a pw da 0 Pow.new D m,ai b 65 (cr (some pw) (some a)),ai a2 24 [vL vR p.1,vL vR p.2.1,vL vR p.2.2]]:=by rw[hm];exact H5.cL [0,1,2]
 refine⟨(some b,0),rfl,aP (cq (fun e=>absurd rfl e) fun _=>bn (fun e=>by cases e) fun _=>?_)⟩;refine⟨p.1,(H5.box 2 rfl).cell0 rfl,p.2.2,(H5.box 2 rfl).cell rfl,?_⟩;rw[ak (p.1*p.2.2)];refine(cU n (p.1*p.2.2) h5 (by omega) (by omega)).mono ?_;rintro _ h5 ⟨rfl,rfl⟩;have f9:=yg n (show p.1*p.2.2≠0 by omega);have g5:=wK n (show 0<p.1*p.2.2 by omega);obtain⟨N,hN⟩:∃N:Nat,(N:Int)=1+n%(p.1*p.2.2):=⟨(1+n%(p.1*p.2.2)).toNat,by omega⟩
 refine⟨_,rfl,?_⟩;dsimp only;rw[ak (1+n%(p.1*p.2.2)),<-hN];refine(ND N x h5 (by omega)).mono ?_;rintro _ h8 ⟨sb,bs,rfl,f6,R8⟩;have H8:Sp h h8 [cI a pw da 0 Pow.new D m,ai b 65 (cr (some pw) (some a)),ao 5 sb 1 av bs,ai a2 24 [vL vR p.1,vL vR p.2.1,vL vR p.2.2]]:=(H5.cQ R8).cL [1,2,0,3];refine⟨sb,rfl,(Oi (1,jD,sb,0,0,0,0,dh,dh) rfl bs (As:=[ao 5 sb 1 av bs,ai a2 24 [vL vR p.1,vL vR p.2.1,vL vR p.2.2]]) (St.il 0 rfl fun h' hq=>hq.1.seq (fun _=>rfl) hq.2) (H8.own 2 rfl).cap (show jD.size<=2^40 by decide) F.may (by omega) H8).mono ?_⟩;rintro _ h9 ⟨rfl,H9⟩;dsimp only at H9⊢;have fin:∀{h':Heap},Sp h h' []->ac vV 9 #[] (.one (.sc .bool)) h' fun c9 el=>Value.bool c9=vP true/\Sp h el []:=fun{h'} H'=>by
  refine(Kw h').mono ?_;rintro _ g4 ⟨rfl,R⟩;exact⟨true,rfl,rfl,.zip (H'.up R.ag).ag⟩
 rcases SD F ei (by omega) d6 UO (b:=bs) (by omega) (by omega)with hput|⟨t,m2,D2,hput,hm2,hdr,h64,hobj,d0,d1,hd0,hd1,w0,w1,hsum⟩
 ·rw[hput]at H9⊢;refine⟨cC 8,rfl,H9.alloc af rfl fun d5 c4 a6=>?_⟩;refine a6.storeAll af 4 rfl rfl (dR (cC 8)) rfl rfl rfl rfl fun cc q=>?_;refine⟨8,(q.box 4 rfl).cell0 rfl,cq (fun _=>⟨8,(q.box 4 rfl).cell0 rfl,bt (fun _=>fin (.zip q.ag)) fun e=>absurd rfl e⟩) fun e=>absurd e (by decide)⟩
 rw[hput]at H9⊢;refine⟨cC 0,rfl,H9.alloc af rfl fun d5 c4 a6=>?_⟩;refine a6.storeAll af 4 rfl rfl (dR (cC 0)) rfl rfl rfl rfl fun cc q=>?_;refine⟨0,(q.box 4 rfl).cell0 rfl,cq (fun e=>absurd rfl e) fun _=>?_⟩;have q:Sp h cc [cI a pw da 0 Pow.new D2 m2,ai b 65 (cr (some pw) (some a)),ai a2 24 [vL vR p.1,vL vR p.2.1,vL vR p.2.2]]:=q.cL [0,1,3];obtain⟨ew,c8⟩:=FR hobj hdr hd0 hd1 w0 w1;refine(BV (5,jD,dh,0,0,0,0,dh,dh) rfl hm2 q).mono ?_;rintro _ e1 ⟨tt,rfl,d7⟩;dsimp only;rw[c8];have br:=q.up d7.ag;refine⟨(0,dh,dh,(bs.length:Int),(t.length:Int),((dL m2 d0+dL m2 d1:Nat):Int),tt,0),rfl,p.1,(br.box 2 rfl).cell0 rfl,?_⟩;refine cq (fun e=>absurd ?_ e) fun _=>?_
 ·rw[ak (p.1+E)];show((dL m2 d0+dL m2 d1:Nat):Int)=p.1+E;rw[hsum];omega
 refine cg (fun _ h'=>Sp h h' []) ?_ (fun _ h' H'=>fin H');have eq:=b7.len;refine aA (fun t:(Nat×Sl×Nat)×List (Int×Int)×aR×bj×bj=>(((t.1.1:Nat):Int),t.1.2.1,(((3*t.1.2.2:Nat)):Int))) (fun t h'=>t.1.2.2<=20/\t.2.1.length=t.1.2.2/\t.1.1=dL m2 t.2.2.2.1+dL m2 t.2.2.2.2/\t.2.2.1.length=64/\bF t.2.2.1 0=some t.2.2.2.1/\bF t.2.2.1 1=some t.2.2.2.2/\
   jP m2 0 t.2.2.2.1 (fun j=>((0:Int),(j:Int))∈t.2.1)/\jP m2 0 t.2.2.2.2 (fun j=>((1:Int),(j:Int))∈t.2.1)/\(∀z∈t.2.1,z.1=0∨z.1=1)/\Sp h h' [cI a pw da 0 Pow.new t.2.2.1 m2,ai b 65 (cr (some pw) (some a)),ao 54 t.1.2.1 2 ka t.2.1]) (fun t=>20-t.1.2.2)
  ((dL m2 d0+dL m2 d1,⟨none,0,0⟩,0),[],D2,d0,d1) rfl ⟨zJ _,rfl,rfl,h64,hd0,hd1,?_,?_,by simp,(br.nil 54 2 ka).cL [3,0,1]|>.bh 3 [1,2,0]⟩ ?_
 ·have:(fun j:Nat=>((0:Int),(j:Int))∈([]:List (Int×Int)))=fun _=>False:=by funext j;simp
  rw[this];exact w0
 ·have:(fun j:Nat=>((1:Int),(j:Int))∈([]:List (Int×Int)))=fun _=>False:=by funext j;simp
  rw[this];exact w1
 rintro⟨⟨left,sh,k⟩,f,D',J,I⟩ T ⟨b5,b3,U,A,g0,g1,v0,v1,a4,w⟩;dsimp only at b5 b3 U A g0 g1 v0 v1 a4 w⊢;have c6:qc vR (((3*k:Nat):Int)+2)=((3*k+2:Nat):Int):=by rw[ak _];rfl
 have dk:qc vR (((3*k:Nat):Int)+1)=((3*k+1:Nat):Int):=by rw[ak _];rfl
 have dd:qc vR (((3*k:Nat):Int)+3)=((3*(k+1):Nat):Int):=by rw[ak _];omega
 rw[dk,c6,dd];have ex:Sp h T []:=.zip w.ag;refine aP (aj (fun c1=>aj (fun c2=>?_) fun _=>ex) fun _=>ex);have c1:3*k+2<H.length:=by have:((3*k+2:Nat):Int)<(s2.len:Int):=c1;omega
 have ep:k<20:=by omega
 have ay:∀{h':Heap} {Bs:List HP},Sp h h' Bs->Rd h' s2 1 aG H:=fun{h' Bs} H'=>Seq.up b7 H'.ag;refine(ay w).cA (3*k) rfl (by omega) H[3*k] rfl ?_;refine(cU H[3*k] 2 T (by decide) (by decide)).mono ?_;rintro _ T ⟨rfl,rfl⟩;obtain⟨o,ec⟩:∃o:Int,o=H[3*k]%2:=⟨_,rfl⟩
 have O:o=0∨o=1:=by omega
 rw[<-ec];obtain⟨b9,er⟩:=FR hobj hdr g0 g1 v0 v1;obtain⟨d,K,vd⟩:∃d,bF D' o=some d/\jP m2 0 d (fun j=>(o,(j:Int))∈f):=by
  rcases O with B|B
  ·rw[B];exact⟨J,g0,v0⟩
  ·rw[B];exact⟨I,g1,v1⟩
 refine⟨_,rfl,(Oj o w).mono ?_⟩;rintro _ T ⟨rfl,rfl⟩;obtain⟨bd,cd⟩:=Mk K w;rw[cd];obtain⟨s1,t1,q1,q2,q3⟩:=Kj K cd w;refine⟨_,rfl,cg (fun(kk:Int) h'=>∃j:Nat,kk=j/\j<d.l.length/\h'=T) ?_ ?_⟩
 ·refine(ay w).lp (3*k) rfl (by omega) H[3*k] rfl fun g7 cs=>⟨by decide,(xV s1 t1 q1 q2.len).mono ?_⟩
  rintro _ ef ⟨rfl,rfl⟩;refine⟨_,rfl,⟨cs,trivial⟩,?_⟩;have et:=vd.pos;have ek:(if(1:Int)>(d.l.length:Int)then(1:Int)else(d.l.length:Int))=(d.l.length:Int):=if_neg (by omega);dsimp only;rw[ek];have es:=vd.len;refine(cU _ (d.l.length:Int) ef (by omega) (by omega)).mono ?_;rintro _ fr ⟨rfl,rfl⟩;obtain⟨Z,hZ⟩:∃Z:Int,Z=qc vR (Int.tdiv H[3*k] 2):=⟨_,rfl⟩
  rw[<-hZ];have z0:=yg Z (show(d.l.length:Int)≠0 by omega);have z1:=wK Z (show 0<(d.l.length:Int)by omega);exact⟨_,rfl,⟨cs,trivial⟩,(Z%(d.l.length:Int)).toNat,by omega,by omega,rfl⟩
 rintro _ f7 ⟨j,rfl,hj,rfl⟩;refine(GG s1 t1 (j:Int) q1 q2 q3.cell).mono ?_;rintro _ ej ⟨rc,rfl,ax⟩;rw[if_pos (by omega),qo,gV [] hj]at ax;have g8:=vd.cell _ (qn hj);refine⟨rc,rfl,(HI rc d.l[j] ej (ax.seq 0 rfl fun _=>rfl) (by omega) (ax.own 0 rfl).cap).mono ?_⟩;rintro _ gt ⟨X,rfl,d9⟩;have d8:=(w.up ax.ag).up d9.ag;refine⟨(X,(bR d.l[j]).isSome),rfl,d8.alloc af rfl fun e9 e8 dr=>?_⟩;refine dr.storeAll af 3 rfl rfl (ba X) rfl rfl rfl rfl fun bk Q=>?_;have Q:Sp h bk [cI a pw da 0 Pow.new D' m2,ai b 65 (cr (some pw) (some a)),ao 54 sh 2 ka f]:=Q.cL [0,1,2];obtain⟨M,hM⟩:∃M:Int,M=H[3*k+1]%61:=⟨_,rfl⟩
 have a1:0<=M/\M<=60:=by omega
 obtain⟨mk,a8⟩:∃mk,mk=qc vT ((qq (qf vT) (qc vT H[3*k+2])|||(qq (qf vT) (1:Int))).toNat:Nat):=⟨_,rfl⟩
 have cp:(0<=mk/\mk<2^32)/\mk%2=1:=by
  obtain⟨Y,hY⟩:∃Y:BitVec 32,Y=qq (qf vT) (qc vT H[3*k+2]):=⟨_,rfl⟩
  have e:mk=(((Y|||1#32).toNat:Nat):Int):=by
   have h1:mk=qc vT (((Y|||1#32).toNat:Nat):Int):=by rw[a8,hY];rfl
   rw[h1];have h2:=(Y|||1#32).isLt;generalize (Y|||1#32).toNat=v at h2;have:qc vT (v:Int)=(v:Int)%4294967296:=by simp[qc,qf,wS]
   rw[this];omega
  have h2:=(Y|||1#32).isLt;have h3:(Y|||1#32).toNat.testBit 0=true:=by rw[BitVec.toNat_or,Nat.testBit_or];simp
  rw[Nat.testBit_zero,decide_eq_true_eq]at h3;omega
 obtain⟨y,hy⟩:∃y:EW,y=(11,xA,dh,o,(j:Int),M,mk,dh,dh):=⟨_,rfl⟩
 refine cg (fun(am:Addr) h'=>Sp h h' [cI a pw da 0 Pow.new D' m2,ai b 65 (cr (some pw) (some a)),ao 54 sh 2 ka f,ai am 42 (jv y)]) ?_ ?_
 ·refine(ay Q).lp (3*k+1) rfl (by omega) H[3*k+1] rfl fun e3 eh=>(ay Q).lp (3*k+2) rfl (by omega) H[3*k+2] rfl fun f8 al=>⟨?_,?_⟩
  ·refine(cU H[3*k+1] 61 bk (by decide) (by decide)).mono ?_;rintro _ hb ⟨rfl,rfl⟩;refine⟨_,rfl,⟨al,trivial⟩,?_⟩;refine Q.rU af rfl ?_;intro f5 gs c0 dx;refine⟨go c0 ⟨al,trivial⟩,?_⟩;dsimp only;rw[<-hM,<-a8];refine dx.storeAll af 3 rfl rfl (jv y) (by rw[hy];rfl) rfl rfl rfl fun e6 c5=>⟨trivial,?_⟩
   exact c5
  ·refine Q.rU af rfl ?_;intro ha en a3 eo;refine⟨go a3 ⟨al,eh,trivial⟩,(cU H[3*k+1] 61 en (by decide) (by decide)).mono ?_⟩;rintro _ g2 ⟨rfl,rfl⟩;refine⟨_,rfl,go a3 ⟨al,trivial⟩,?_⟩;dsimp only;rw[<-hM,<-a8];refine eo.storeAll af 3 rfl rfl (jv y) (by rw[hy];rfl) rfl rfl rfl fun g9 d2=>⟨trivial,?_⟩
   exact d2
 rintro am e5 b1;have dy:o∈bB D' m2.drives:=by rw[b9];rcases O with B|B<;>rw[B]<;>simp
 have y1:y.1=11:=by rw[hy]
 have y4:y.2.2.2.1=o:=by rw[hy]
 have y5:y.2.2.2.2.1=(j:Int):=by rw[hy]
 have y6:y.2.2.2.2.2.1=M:=by rw[hy]
 have y7:y.2.2.2.2.2.2.1=mk:=by rw[hy]
 refine⟨y,(b1.box 3 rfl).aI _ rfl,(Ky y y1 (d:=d) (j:=j) hm2 rfl (by rw[y6];exact a1) (by rw[y7];omega) (by rw[y4];exact dy) (by rw[y4];exact K) y5 hj b1).mono ?_⟩;rw[y4,y6,y7];obtain⟨G,hG⟩:∃G:Int,G=(if bQ d.l[j]=none then 5 else 0):=⟨_,rfl⟩
 obtain⟨V,a7⟩:∃V,V=(if bQ d.l[j]=none then D' else eV D' o (d.dC j M mk)):=⟨_,rfl⟩
 rw[<-hG,<-a7];rintro _ d3 ⟨rfl,bb⟩;have bb:Sp h d3 [cI a pw da 0 Pow.new V m2,ai b 65 (cr (some pw) (some a)),ao 54 sh 2 ka f,ai am 42 (jv y)]:=bb;refine⟨cC G,rfl,bb.alloc af rfl fun eb fn ds=>?_⟩;refine ds.storeAll af 4 rfl rfl (dR (cC G)) rfl rfl rfl rfl fun b2 ad=>?_;have ad:Sp h b2 [cI a pw da 0 Pow.new V m2,ai b 65 (cr (some pw) (some a)),ao 54 sh 2 ka f,ai am 42 (jv y),ai eb 36 (dR (cC G))]:=ad;refine(Kt sh f (o,(j:Int)) b2 (ad.seq 2 rfl fun _=>rfl) (by omega)).mono ?_;rintro _ d4 ⟨rfl,ed⟩;have a9:=ad.up ed.ag;have L:=vd.bad j hj;refine⟨_,rfl,cg (fun _ h'=>h'=d4) ?_ ?_⟩
 ·refine⟨G,(a9.box 4 rfl).cell0 rfl,bf (fun e=>?_) fun _=>?_⟩
  ·exfalso;by_cases S:bQ d.l[j]=none
   ·rw[hG,if_pos S,decide_eq_true (L.1 S)]at e;cases e
   ·rw[hG,if_neg S,decide_eq_false (fun B=>S (L.2 B))]at e;cases e
  ·refine bf (fun e=>?_) fun _=>rfl;have S:bQ d.l[j]≠none:=fun B=>of_decide_eq_false e (L.1 B);refine⟨G,(a9.box 4 rfl).cell0 rfl,cq (fun e2=>absurd ?_ e2) fun _=>rfl⟩;rw[hG,if_neg S]
 rintro _ g3 rfl;refine a9.push af 2 rfl Wv rfl (by decide) (fun _=>rfl) SE (o,(j:Int)) (by kernel_rfl) (by decide) (by omega) fun bl cf a0=>?_;have a0:Sp h cf [cI a pw da 0 Pow.new V m2,ai b 65 (cr (some pw) (some a)),ao 54 bl 2 ka (f++[(o,(j:Int))])]:=a0.cL [0,1,2];obtain⟨g,f0,f1,k1,k2,k3,k4,k5,k6⟩:∃(g:Nat) (f0 f1:bj),V.length=64/\bF V 0=some f0/\bF V 1=some f1/\jP m2 0 f0 (fun i=>((0:Int),(i:Int))∈f++[(o,(j:Int))])/\jP m2 0 f1 (fun i=>((1:Int),(i:Int))∈f++[(o,(j:Int))])/\(g=dL m2 f0+dL m2 f1/\g+(if(bR d.l[j]).isSome then 1 else 0)=left):=by
  by_cases S:bQ d.l[j]=none
  ·have b6:=L.1 S;have hD:V=D':=by rw[a7,if_pos S]
   rw[hD];have a5:∀z:Int,(fun i:Nat=>(z,(i:Int))∈f++[(o,(j:Int))])=fun i:Nat=>(z,(i:Int))∈f:=fun z=>by
    funext i;rw[qE,qB];refine propext ⟨fun h=>h.elim id fun h=>by rw[h];exact b6,.inl⟩
   refine⟨left,J,I,A,g0,g1,by rw[a5];exact v0,by rw[a5];exact v1,U,?_⟩;rw[(EU (m:=m2) S).2];rfl
  ·have hD:V=eV D' o (d.dC j M mk):=by rw[a7,if_neg S]
   obtain⟨W1,W2⟩:=vd.dC hj S a1 cp.2;have P:=Kb (d:=d.dC j M mk) A K;have other:∀z:Int,z≠o->(fun i:Nat=>(z,(i:Int))∈f++[(o,(j:Int))])=fun i:Nat=>(z,(i:Int))∈f:=fun z hz=>by
    funext i;rw[qE,qB];refine propext ⟨fun h=>h.elim id fun h=>?_,.inl⟩;injection h with h _
    exact absurd h hz
   have u:(fun i:Nat=>(o,(i:Int))∈f++[(o,(j:Int))])=fun i:Nat=>(o,(i:Int))∈f∨i=j:=by
    funext i;rw[qE,qB];refine propext ⟨fun h=>h.elim .inl fun h=>.inr ?_,fun h=>h.elim .inl fun h=>.inr (by rw[h])⟩;injection h with _ h
    omega
   rw[hD];rcases O with B|B
   ·rw[B]at K P u W1 other;rw[g0]at K;injection K with K
    subst K;rw[B];refine⟨dL m2 (J.dC j M mk)+dL m2 I,J.dC j M mk,I,by rw[CN];exact A,by rw[P,if_pos rfl],by rw[P,if_neg (by decide)];exact g1,?_,?_,rfl,by omega⟩
    ·rw[u];exact W1
    ·rw[other 1 (by decide)];exact v1
   ·rw[B]at K P u W1 other;rw[g1]at K;injection K with K
    subst K;rw[B];refine⟨dL m2 J+dL m2 (I.dC j M mk),J,I.dC j M mk,by rw[CN];exact A,by rw[P,if_neg (by decide)];exact g0,by rw[P,if_pos rfl],?_,?_,rfl,by omega⟩
    ·rw[other 0 (by decide)];exact v0
    ·rw[u];exact W1
 have e7:dL m2 J<=60:=zh (yS _ _) v0.len;have e4:dL m2 I<=60:=zh (yS _ _) v1.len;refine cg (fun(z:Int) h'=>z=(g:Int)/\h'=cf) ?_ ?_
 ·cases hR:bR d.l[j]with
  |none=>
   rw[hR]at k6;refine bn (fun e=>by cases e) fun _=>⟨?_,rfl⟩
   have:g+0=left:=k6.2;omega
  |some R=>
   rw[hR]at k6;have:g+1=left:=k6.2;refine bn (fun _=>⟨?_,rfl⟩) fun e=>by cases e
   rw[ak _];omega
 rintro _ fs ⟨rfl,rfl⟩;obtain⟨_,b0⟩:=FR hobj hdr k2 k3 k4 k5;refine(BV (5,jD,dh,0,0,0,0,dh,dh) rfl hm2 a0).mono ?_;rintro _ gk ⟨t4,rfl,eg⟩;dsimp only;rw[b0];have c7:=a0.up eg.ag;refine⟨(0,dh,dh,(bs.length:Int),(t.length:Int),((dL m2 f0+dL m2 f1:Nat):Int),t4,0),rfl,cq (fun e=>absurd ?_ e) fun _=>?_⟩
 ·rw[k6.1]
 refine⟨((g,bl,k+1),f++[(o,(j:Int))],V,f0,f1),rfl,⟨by dsimp only;omega,by dsimp only;rw[qp,b3];rfl,k6.1,k1,k2,k3,k4,k5,fun z hz=>?_,c7⟩,by dsimp only;omega⟩;rcases qE.1 hz with h|h
 ·exact a4 z h
 ·rw[qB.1 h];exact O
theorem rN(s:Sl)(l:aB)(n x:Int)(d:Sl)(e:aB)(h:Heap)(f:Rd h s 1 aG l)(c:Rd h d 1 aG e):
  ab vV 3 #[s,vL vR n,vL vR x,d] h fun v h'=>v=vP true/\aH (fun b=>b<h.size) h h':=
 (AA s l n x d e h f c).mono fun _ _ ⟨a,b⟩=>⟨a,b.ag⟩
end
end Go.Qw
