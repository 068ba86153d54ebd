/- Lemmas for the proof of the law; no condition. -/
import Derived.Test.YtmobnmonkaacaaaGreatDoorKD
import Derived.Lib.BufferWrite
import Derived.Lib.UnsafeStr
set_option maxHeartbeats 2000000
set_option linter.unusedVariables false
set_option linter.unusedSimpArgs false
open Go.Proofs.Tryz renaming prog -> xR
open Go.Value renaming agg -> xM, bool -> xL, int -> xH, pointer -> xJ, slice -> xI, string -> xK
open Go.IntKind renaming i64 -> xN, u32 -> xP, u8 -> xO, wrap -> qc
open Int renaming tdiv -> yg
set_option maxRecDepth 100000
open Option renaming some -> dB, none -> eH
open Go renaming Addr -> hU
open Go.Qw renaming Heap -> m5
open List renaming length -> n4
open Go.Qw.cg renaming tn -> HF, lp -> I0
namespace Go.Qw
open Go.Proofs
structure Mv where
 kind:Int
 name:ByteArray
 data:aR
 slot:Int
 n:Int
 m:Int
 mask:Int
 keeps:aC
 torns:aC
def EV:List ByteArray:=[⟨#[97]⟩,⟨#[98]⟩,⟨#[99,97,116,45,55]⟩,⟨#[100]⟩,⟨#[101,49,50,51,52,53,54,55,56,57,48,49]⟩]
def lu(p:Int×Int×Int)(b:Mv):Prop:=
 (b.kind=1/\b.name∈EV/\(n4 b.data:Int)<=3*(p.1*p.2.2)+1)∨((b.kind=2∨b.kind=3∨b.kind=5)/\b.name∈EV)∨b.kind=4∨
 (b.kind=6/\(0<=b.slot/\b.slot<9)/\6<=b.n/\b.n<66)∨(b.kind=7/\0<=b.slot/\b.slot<8)∨(b.kind=8/\(0<=b.slot/\b.slot<8)/\6<=b.n/\b.n<66)∨(b.kind=9/\0<=b.slot/\b.slot<8)∨
 (b.kind=10/\(-1<=b.n/\b.n<=7)/\-1<=b.m/\b.m<=68)∨(b.kind=11/\(0<=b.slot/\b.slot<7)/\(0<=b.n/\b.n<40)/\(0<=b.m/\b.m<61)/\0<=b.mask/\b.mask<4294967296)
def Nt(b:Mv):Prop:=b=⟨b.kind,if b.kind=1∨b.kind=2∨b.kind=3∨b.kind=5 then b.name else⟨#[]⟩,if b.kind=1 then b.data else[],if b.kind=6∨b.kind=7∨b.kind=8∨b.kind=9∨b.kind=11 then b.slot else 0,
 if b.kind=6∨b.kind=8∨b.kind=10∨b.kind=11 then b.n else 0,if b.kind=10∨b.kind=11 then b.m else 0,if b.kind=11 then b.mask else 0,[],[]⟩
abbrev oW(s:ByteArray):aS:=[xK s]
abbrev AC:=Int×ByteArray×Sl×Int×Int×Int×Int×Sl×Sl
abbrev gS(x:AC):aS:=[xH xN x.1,xK x.2.1,x.2.2.1,xH xN x.2.2.2.1,xH xN x.2.2.2.2.1,xH xN x.2.2.2.2.2.1,xH xP x.2.2.2.2.2.2.1,x.2.2.2.2.2.2.2.1,x.2.2.2.2.2.2.2.2]
abbrev Nu(x:AC):Value:=xM #[xH xN x.1,xK x.2.1,x.2.2.1,xH xN x.2.2.2.1,xH xN x.2.2.2.2.1,xH xN x.2.2.2.2.2.1,xH xP x.2.2.2.2.2.2.1,x.2.2.2.2.2.2.2.1,x.2.2.2.2.2.2.2.2]
def fZ:ja AC Mv:=⟨λh q a b=>(a.1=b.kind/\a.2.1=b.name/\a.2.2.2.1=b.slot/\a.2.2.2.2.1=b.n/\a.2.2.2.2.2.1=b.m/\a.2.2.2.2.2.2.1=b.mask/\a.2.2.1.len<=a.2.2.1.cap)/\Seq h q a.2.2.1 1 aq b.data/\Seq h q a.2.2.2.2.2.2.2.1 1 ar b.keeps/\Seq h q a.2.2.2.2.2.2.2.2 1 ar b.torns,
 λa d=>⟨a.1,a.2.1.ac d,a.2.2.1.ac d,a.2.2.2.ac d⟩,λa c=>⟨a.1,a.2.1.mono c,a.2.2.1.mono c,a.2.2.2.mono c⟩⟩
theorem Qs:∀x,∀c∈oW x,c.oneCell'=true:=by intro x c a;simp[oW]at a;subst a;rfl
theorem acA:∀x,∀c∈gS x,c.oneCell'=true:=by intro x c a;simp[gS]at a;rcases a with rfl|rfl|rfl|rfl|rfl|rfl|rfl|rfl|rfl<;>rfl
abbrev Yl:bS C.toAg 75 9 1 [xK ⟨#[]⟩] 16:=⟨_,_,n5,n5,n5,n5,n5,n5⟩
abbrev JY:aS:=[xH xN 0,xK ⟨#[]⟩,xI eH 0 0,xH xN 0,xH xN 0,xH xN 0,xH xP 0,xI eH 0 0,xI eH 0 0]
abbrev eMv:bS C.toAg 34 44 9 JY 128:=⟨_,_,n5,n5,n5,n5,n5,n5⟩
theorem sN(n:Int)(h:m5):ak xR 111 #[xH xN n] h λv h'=>∃s∈EV,v=xK s/\Sp h h' []:=by refine ts Tryz.func111 ?_;refine(Sp.refl h).lit ag oW Yl n5 EV n5 n8 o5 λe b a=>?_;refine(bT n 5 b).I2 ?_;have c:=yx n (show(5:Int)≠0 by decide);have f:=wj n (show(0:Int)<5 by decide);have d:n4 EV=5:=rfl;refine⟨_,n5,(a.seq 0 n5 λ_=>rfl).aV (n%5).toNat n7 n7 (EV[(n%5).toNat]'n7) n5 ⟨_,qe _,n5,.zip a.ac⟩⟩
theorem Ta(p:Pm)(k a b:Int)(h:m5)(hp:bH p=true):ak xR 45 #[go p,xH xN k,xH xN a,xH xN b] h λv h'=>∃(x:AC) (m:Mv),v=Nu x/\lu p m/\Nt m/\Sp h h' [EA fZ x m]:=by
 refine uv p k a b ?_;obtain⟨⟨P,p2⟩,_,Y,Q⟩:=(bI p).1 hp;have K:1<=p.1*p.2.2/\p.1*p.2.2<=16*24:=⟨we P Y n7 n7,we p2 Q n7 n7⟩
 refine(Sp.refl h).boxed λL h1 T=>T.alloc ag n5 λa2 M f=>?_;have fin:∀(e c n m d:Int) (name:ByteArray) {h':m5},Sp h h' [an L 24 [xH xN p.1,xH xN p.2.1,xH xN p.2.2],an a2 44 JY]->lu p ⟨e,name,[],c,n,m,d,[],[]⟩->Nt ⟨e,name,[],c,n,m,d,[],[]⟩->
   av xR (Instr.storeAt 44 (xJ (dB a2)) (xM #[xH xN e,xK name,xI eH 0 0,xH xN c,xH xN n,xH xN m,xH xP d,xI eH 0 0,xI eH 0 0])) h' λ_ i=>
    ∃r:AC,aZ i a2 0 (gS r)/\∃(x:AC) (m:Mv),Nu r=Nu x/\lu p m/\Nt m/\Sp h i [EA fZ x m]:=by
  intro e c n m d name h' Z D R;refine Z.storeAll ag 1 n5 n5 (gS (e,name,⟨eH,0,0⟩,c,n,m,d,⟨eH,0,0⟩,⟨eH,0,0⟩)) n5 n5 n5 n5 λi u=>?_;refine⟨(e,name,⟨eH,0,0⟩,c,n,m,d,⟨eH,0,0⟩,⟨eH,0,0⟩),(u.box 1 n5).aw _ n5,_,_,n5,D,R,?_⟩;have X:Sp h i []:=.zip u.ac;exact X.comp (.one (aQ.refl _ _) ⟨⟨n5,n5,n5,n5,n5,n5,qj _⟩,Seq.nil _ _ _ _ _ _,Seq.nil _ _ _ _ _ _,Seq.nil _ _ _ _ _ _⟩)
 refine(bT k 26 M).mono ?_;rintro _ h3 ⟨rfl,rfl⟩;have k0:=yx k (show(26:Int)≠0 by decide);have k1:=wj k (show(0:Int)<26 by decide);have W:∀(x n:Int),0<n->0<=x%n/\x%n<n:=λx n O=>⟨yx x n7,wj x O⟩
 refine⟨_,n5,ae (λ_=>?_) λ_=>?_⟩
 .refine⟨n8,p.1,(f.box 0 n5).cell0 n5,p.2.2,(f.box 0 n5).cell n5,(sN a h3).mono ?_⟩;rintro _ g ⟨s,j,rfl,o⟩;have y:=f.up o.ac;have S:qc xN ((qc xN ((qc xN ((3:Int)*p.1))*p.2.2))+(2:Int))=3*(p.1*p.2.2)+2:=by rw[af (3*p.1),Int.mul_assoc,af (3*(p.1*p.2.2)),af _]
  refine⟨s,n5,⟨(y.box 0 n5).cell n5,(y.box 0 n5).cell0 n5,I6⟩,?_⟩;rw[S];refine(bT _ (3*(p.1*p.2.2)+2) g n7 n7).mono ?_;rintro _ t ⟨rfl,rfl⟩;obtain⟨q,B⟩:=I5 (qc xN (yg a 5)%(3*(p.1*p.2.2)+2))
  have F:=W (qc xN (yg a 5)) (3*(p.1*p.2.2)+2) n7;rw[<-B]at F⊢;obtain⟨N,V⟩:∃N:Nat,q=N:=⟨q.toNat,n7⟩
  subst V;refine⟨_,n5,⟨(y.box 0 n5).cell n5,(y.box 0 n5).cell0 n5,I6⟩,(Sj N b t n7).mono ?_⟩;rintro _ h6 ⟨r,l,rfl,hl,H⟩;have E:=y.comp H;have w:=(H.own 0 n5).cap;refine⟨r,n5,⟨(E.box 0 n5).cell n5,(E.box 0 n5).cell0 n5,I6⟩,?_⟩;refine E.storeAll ag 1 n5 n5 (gS (1,s,r,0,0,0,0,⟨eH,0,0⟩,⟨eH,0,0⟩)) n5 n5 n5 n5 λh7 I=>?_;refine⟨I6,(1,s,r,0,0,0,0,⟨eH,0,0⟩,⟨eH,0,0⟩),(I.box 1 n5).aw _ n5,_,(⟨1,s,l,0,0,0,0,[],[]⟩:Mv),n5,.inl ⟨n5,j,n9⟩,n5,?_⟩;have U:=I.bu [2];exact U.dW 0 n5 λq B=>⟨⟨n5,n5,n5,n5,n5,n5,w⟩,B.1.seq (λ_=>rfl) B.2,Seq.nil _ _ _ _ _ _,Seq.nil _ _ _ _ _ _⟩
 refine ae (λ_=>(sN a h3).mono ?_) λ_=>ae (λ_=>(sN a h3).mono ?_) λ_=>be (λ_=>?_) λ_=>be (λ_=>(sN a h3).mono ?_) λ_=>be (λ_=>?_) λ_=>be (λ_=>?_) λ_=>be (λ_=>?_) λ_=>be (λ_=>?_) λ_=>ae (λ_=>?_) λ_=>be (λ_=>?_) λ_=>?_
 .rintro _ g ⟨s,j,rfl,o⟩;exact⟨s,n5,fin 2 0 0 0 0 s (f.up o.ac) (.inr (.inl ⟨.inl n5,j⟩)) n5⟩
 .rintro _ g ⟨s,j,rfl,o⟩;exact⟨s,n5,fin 3 0 0 0 0 s (f.up o.ac) (.inr (.inl ⟨.inr (.inl n5),j⟩)) n5⟩
 .exact fin 4 0 0 0 0 _ f (.inr (.inr (.inl n5))) n5
 .rintro _ g ⟨s,j,rfl,o⟩;exact⟨s,n5,fin 5 0 0 0 0 s (f.up o.ac) (.inr (.inl ⟨.inr (.inr n5),j⟩)) n5⟩
 .refine(bT a 9 h3).mono ?_;rintro _ g ⟨rfl,rfl⟩;refine⟨_,n5,(bT b 60 g).mono ?_⟩;rintro _ t ⟨rfl,rfl⟩;have A:=W a 9 n8;have G:=W b 60 n8;refine⟨_,n5,?_⟩
  try dsimp only
  rw[af (6+b%60)];exact fin 6 _ _ 0 0 _ f (.inr (.inr (.inr (.inl ⟨n5,A,n9,n9⟩)))) n5
 .refine(bT a 8 h3).I2 ⟨_,n5,fin 7 _ 0 0 0 _ f (.inr (.inr (.inr (.inr (.inl ⟨n5,W a 8 n8⟩))))) n5⟩
 .refine(bT a 8 h3).mono ?_;rintro _ g ⟨rfl,rfl⟩;refine⟨_,n5,(bT b 60 g).mono ?_⟩;rintro _ t ⟨rfl,rfl⟩;have A:=W a 8 n8;have G:=W b 60 n8;refine⟨_,n5,?_⟩
  try dsimp only
  rw[af (6+b%60)];exact fin 8 _ _ 0 0 _ f (.inr (.inr (.inr (.inr (.inr (.inl ⟨n5,A,n9,n9⟩)))))) n5
 .refine(bT a 8 h3).I2 ⟨_,n5,fin 9 _ 0 0 0 _ f (.inr (.inr (.inr (.inr (.inr (.inr (.inl ⟨n5,W a 8 n8⟩))))))) n5⟩
 .refine(bT a 3 h3).mono ?_;rintro _ g ⟨rfl,rfl⟩;refine⟨_,n5,(bT b 20 g).mono ?_⟩;rintro _ t ⟨rfl,rfl⟩;have A:=W a 3 n8;have G:=W b 20 n8;exact⟨_,n5,fin 10 0 _ _ 0 _ f (.inr (.inr (.inr (.inr (.inr (.inr (.inr (.inl ⟨n5,n9,n9,n9⟩)))))))) n5⟩
 .refine(bT a 9 h3).mono ?_;rintro _ g ⟨rfl,rfl⟩;refine⟨_,n5,(bT b 70 g).mono ?_⟩;rintro _ t ⟨rfl,rfl⟩;have A:=W a 9 n8;have G:=W b 70 n8;refine⟨_,n5,?_⟩
  try dsimp only
  rw[af (a%9-1),af (b%70-1)];exact fin 10 0 _ _ 0 _ f (.inr (.inr (.inr (.inr (.inr (.inr (.inr (.inl ⟨n5,n9,n9,n9⟩)))))))) n5
 .refine(bT a 7 h3).mono ?_;rintro _ g ⟨rfl,rfl⟩;refine⟨_,n5,n8,(bT _ 40 g).mono ?_⟩;rintro _ t ⟨rfl,rfl⟩;refine⟨_,n5,(bT b 61 t).I2 ?_⟩;have J:∀z:Int,0<=qc xP z/\qc xP z<4294967296:=λz=>by rw[Cl];have:=(BitVec.ofInt 32 z).isLt;omega
  exact⟨_,n5,fin 11 _ _ _ _ _ f (.inr (.inr (.inr (.inr (.inr (.inr (.inr (.inr ⟨n5,W a 7 n8,W _ 40 n8,W b 61 n8,J _⟩)))))))) n5⟩
theorem VV(p:Pm)(k a b:Int)(h:m5)(c:bH p=true):ak xR 45 #[go p,xH xN k,xH xN a,xH xN b] h λv h'=>∃(x:AC) (m:Mv),v=Nu x/\lu p m/\Sp h h' [EA fZ x m]:=
 (Ta p k a b h c).mono λ_ _ ⟨x,m,e,o,_,H⟩=>⟨x,m,e,o,H⟩
theorem lu.put{p:Pm}{b:Mv}(h:lu p b)(a:b.kind=1):b.name∈EV/\(n4 b.data:Int)<=3*(p.1*p.2.2)+1:=by
 unfold lu at h;rw[a]at h;rcases h with h|h|h|h|h|h|h|h|h
 .exact h.2
 .exact absurd h.1 n8
 .exact absurd h n8
 all_goals exact absurd h.1 n8
theorem Ym:∀s∈EV,s.size<=12:=o6
structure Inv (m:aB) (C:Int->aR) (ds:aF) (N:Nat):Prop where
 sto:No m C ds
 full:Full m C ds
 low:Low m ds
 nm:∀e∈m.objs,e.name∈EV
 dr:m.drives≠[]
 seq:m.seq<=1+N
 nx:m.next<=N
variable {B:au} {h0 h:m5} {As:List HP}
variable {a v:hU} {offs:Int} {da:List bJ} {w:Pow} {ds:aF} {mc:aS}
section
variable {pw:hU}
end
variable {m:aB}
section
variable {pw:hU}
end
structure Wn (p:Pm) (m:aB) (C:Int->aR) (ds:aF):Prop where
 sto:No m C ds
 live:aY ds m.drives≠[]
 dr:∀k∈m.drives,k<9
 pe:m.p=p
 wt:∀k d,bR ds k=dB d->d.wait=0
variable {p:Pm}
section
variable {C:Int->aR}
end
variable {ds':aF}
section
variable {C:Int->aR}
structure aed (m:aB) (ds ds':aF) (gone:aC):Prop where
 len:n4 ds'=64
 at_:∀k,k∉gone->bR ds' k=bR ds k
 live:∀k,k∈aY ds' m.drives↔k∈aY ds m.drives/\k∉gone
 sub:∀k∈gone,k∈aY ds m.drives
 nd:gone.Nodup
end
section
variable {C:Int->aR}
structure DK (m:aB) (d d':bp):Prop where
 lost:d'.lost=d.lost
 room:d'.room=d.room
 recs:∀r∈gK m d.l,r∈gK m d'.l
 whole:jh m d.l=true->jh m d'.l=true
structure adA (m:aB) (ds ds':aF):Prop where
 len:n4 ds'=n4 ds
 at_:∀k d,bR ds k=dB d->∃d',bR ds' k=dB d'/\DK m d d'
 no:∀k,bR ds k=eH->bR ds' k=eH
structure Tidy (m:aB) (d:bp):Prop where
 whole:jh m d.l=true
 keep:n4 (gp m d.l)<=n4 d.l
 room:n4 d.l<=d.room
structure XOk (m:aB) (C:Int->aR) (e:Qw.cT) (i:Nat) (x:Blk):Prop where
 he:e∈m.objs
 hi:i<e.tries.length
 o:x.o=e.object
 b:x.b=i
 seed:x.seed=fl e.object i (e.tries.getD i 0)
 M:x.M=jZ m.p x.seed (SQ m C e.object i)
structure Mid (m:aB) (C:Int->aR) (live:aC) (ds:aF) (got:aC):Prop where
 sto:No m C ds
 lv:∀k∈live,∃d,bR ds k=dB d/\d.lost=false
 wt:∀k d,bR ds k=dB d->d.wait=0∨k∈got
 tidy:∀k∈live,∀d,bR ds k=dB d->Tidy m d
 rm:∀k d,bR ds k=dB d->n4 d.l<=d.room/\d.room<=512
structure aee (m:aB) (live:aC) (ds:aF) (t most:Int):Prop where
 lv:live=aY ds m.drives
 few:n4 live<=9
 tt:0<=t/\t<n4 live
 c:¬abA live.length t>4096
 mo:0<=most/\most<=64
 slots:∀s∈live,0<=s/\s<64
end
section
variable {C:Int->aR}
def adB(m:aB)(f:aF):Prop:=∀k d,bR f k=dB d->∀b e,bR f b=dB e->∀c∈d.l,∀g∈e.l,∀r a,dn c=dB r->dn g=dB a->dF m r=true->dF m a=true->ZE r=ZE a->k=b
end
variable {N:Nat} {name:ByteArray} {b:aR}
section
variable {C:Int->aR}
structure aef (m:aB) (C:Int->aR) (ds:aF) (N:Nat):Prop where
 inv:Inv m C ds N
 once:adB m ds
 room:∀k∈m.drives,∃d,bR ds k=dB d/\d.lost=false/\d.room=400
 four:∀e∈m.objs,e.tries.length<=4
 ids:(m.p.1+m.extra).toNat<=12
structure adU (m:aB) (C:Int->aR) (rs:List AC) (M:List Mv) (kvs:List (ByteArray×Sl)):Prop where
 nd:(kvs.map Prod.fst).Nodup
 len:kvs.length=m.objs.length
 mem:∀q∈kvs,∃e∈m.objs,e.name=q.1/\∃(j:Nat) (h1:j<rs.length) (h2:j<M.length),q.2=rs[j].2.2.1/\C e.object=M[j].data
 all:∀e∈m.objs,YY e.name kvs≠eH
variable {rs:List AC} {M:List Mv} {kvs:List (ByteArray×Sl)}
end
variable {s:Sl} {l:aR} {f:Bool} {n:Int}
structure adV (B:au) (h0:m5) (As:List HP) (s:Sl) (l:aR):Prop where
 cap:s.len<=s.cap
 st:St B h0 As λh=>Rd h s 1 aq l
abbrev PgV:=Int×Int×Int×Sl×Sl
def adC(p:PgV×Pg):Prop:=p.1.1=p.2.seq/\p.1.2.1=p.2.num/\p.1.2.2.1=p.2.many
structure aeg (h:m5) (p:PgV×Pg):Prop where
 bears:Rd h p.1.2.2.2.1 1 aq p.2.bears
 cell:Rd h p.1.2.2.2.2 1 aq p.2.cell
 len:n4 p.2.bears<=48
structure aeh (ll:dP) (rs:List Sl) (pool:List (Sl×aR)) (p:PgV×Pg):Prop where
 ok:adC p
 bears:(p.1.2.2.2.1,p.2.bears)∈pool
 len:n4 p.2.bears<=48
 many:p.2.many<=255
 cell:∃k:Nat,rs[k]?=dB p.1.2.2.2.2/\ll[k]?=dB p.2.cell
variable {h':m5} {d:List bi}
variable {α β:Type} {E:ja α β} {e k:Nat} {ll:List β}
section
variable {f:α->aS}
end
def acr(m:aB)(i:Nat):Bool:=decide ((i:Int)∈m.drives)
structure Hi (M:Int->aB) (m:aB) (ds:aF):Prop where
 cur:M m.seq=m
 at_:∀k d,bR ds k=dB d->k∈m.drives
 pg:∀k d,bR ds k=dB d->∀c∈d.l,∀g,Dt c=dB g->(1<=g.seq/\g.seq<=m.seq)/\c∈bG (M g.seq)/\k∈(M g.seq).drives
 ok:∀q,1<=q->q<=m.seq->bE (M q)=true/\(M q).seq=q/\(bG (M q)).length<=2
variable {M:Int->aB}
section
variable {n:aB}
end
section
variable {n:aB} {d:bp}
def acC(l:dP):Nat:=l.countP λc=>(dn c).isSome
end
structure Wt (z:Prop) (i:Nat) (p:Pm) (m:aB) (ds:aF):Prop where
 may:bE m=true
 len:n4 ds=64
 pe:m.p=p
 dr:∀k∈m.drives,k<9
 hi:∃M,Hi M m ds
 slim:z->∀k d,bR ds k=dB d->d.lost=false->acC d.l+1<=n4 d.l/\acC d.l+2<=d.room
 seq:m.seq<=i+1
 ent:∀e∈m.objs,e.name∈EV/\e.length<=3*(p.1*p.2.2)+1
variable {z:Prop} {i:Nat}
structure Tn (p:Pm) (m:aB) (C:Int->aR) (ds:aF):Prop where
 sto:No m C ds
 dr:∀k∈m.drives,k<9
 pe:m.p=p
 wt:∀k d,bR ds k=dB d->d.wait=0
section
variable {C:Int->aR}
end
section
variable {C:Int->aR}
end
section
variable {C:Int->aR}
end
section
variable {pw:hU}
theorem Kw(x:bi)(m:aB)(c:ct h x m)(d:m.objs=[])(H:aa B h0 h (aJ bN a pw (aD x) offs da w ds::As)):
  ak xR 36 #[xJ (dB a)] h λv h'=>v=xI eH 0 0/\h'=h:=by
 refine ts Tryz.func36 ?_ (HF (HF (HF (I0 [(3,bK),(14,aI)] [(3,4),(5,6),(14,25)]))));obtain⟨ok,f⟩:=aa.cw H;refine(pd (dB a) (R:=λv h'=>v=xL (gN w offs)/\h'=h) ?_).mono ?_
 .skip
  refine aT (λe=>o1) λ_=>(pE H).I2 ⟨_,n5,n5,n5⟩
 rintro _ _ ⟨rfl,rfl⟩;refine⟨_,n5,aT (λ_=>⟨n5,n5⟩) λ_=>⟨a,n5,x.2.2.2.2.2.2.2,f.cell n5,?_⟩⟩;have b:=bZ.len c.objs;rw[d]at b;refine aj (λ_:Unit=>((⟨eH,0,0⟩:Sl),(0:Int))) (λ_ h'=>h'=_) (λ_=>0) () n5 n5 ?_;rintro _ g rfl;exact ae (λe=>absurd e (by rw[b];decide)) λ_=>⟨n5,n5⟩
theorem Nv(h:m5):ak xR 7 #[] h λv h'=>v=xL true/\Sp h h' []:=by refine ts Tryz.func7 ?_;refine(Jv h).I4 λpw o k=>⟨_,n5,?_⟩;refine k.lit ag ar fu n5 [5] n5 (show 1*1<=2^20 by decide) n5 λi m j=>?_;refine(EQ (1,1,1) 0 i [5] (As:=[ai 3 i 1 ar [5]]) (St.dU 0 n5 λh' g=>g.1.seq (λ_=>rfl) g.2) n8 j).mono ?_;rintro _ h3 ⟨_,Q⟩;obtain⟨a,x,da,rfl,b⟩:=Q Yk;have l:bM (co (1,1,1) 0 [5]):=sJ _ _ _ n8;have c:ct h3 x (co (1,1,1) 0 [5]):=b.at 1 n5;refine⟨(dB a,0),n5,be (λ_=>aT (λ_=>?_) λe=>o1) λe=>absurd n5 e⟩;refine(Kw x _ c n5 b).I2 ⟨⟨eH,0,0⟩,n5,be (λ_=>?_) λe=>absurd n5 e⟩;refine(eW x _ c l b).I4 λr n f=>?_;have d:=(f.own 0 n5).len;rw[SZ]at d;refine⟨r,n5,?_,.zip (aa.up b f.ac).ac⟩;rw[d];rfl
end
theorem VW(n:Int)(o:n<2^62)(H:aa B h0 h (fW a w::As)):ak xR 17 #[xJ (dB a),xH xN n] h λv h'=>v=.tuple #[]/\aa B h0 h' (fW a (w.arm n)::As):=by
 obtain⟨l,p,f⟩:=H.jE;refine ts Tryz.func17 ?_;refine⟨a,n5,w.off,(f.box 0 n5).cell0 n5,aH (λe=>?_) λe=>?_⟩
 .have d:w.off=false:=p7
  refine⟨a,n5,f.store ag 0 n5 n5 1 [xL (decide (n>=0))] n5 n5 n5 oo λm g=>?_⟩;refine⟨a,n5,g.store ag 0 n5 n5 2 [xH xN n] n5 n5 n5 C4 λh3 j=>⟨n5,?_⟩⟩;refine aa.mE (l:=n) (λk c=>?_) ?_
  .unfold Pow.arm at c;rw[nq Bk]at c;by_cases b:0<=n
   .rw[m6 b]at c;simp at c;subst c;omega
   .rw[nq b]at c;cases c
  .have i:powC (w.arm n) n=[xL w.off,xL (decide (n>=0)),xH xN n,xH xN w.offs]:=by
    unfold Pow.arm powC;rw[nq Bk];by_cases b:0<=n
    .rw[m6 b];simp[d,b]
    .rw[nq b];simp[d];omega
   rw[i];exact j
 .have:w.arm n=w:=by unfold Pow.arm;rw[m6 p7]
  rw[this];exact⟨n5,H⟩
variable {a2 pw2 b2:hU} {da2:List bJ}
section
variable {pw b:hU}
end
variable {q:bJ}
section
variable {pw b:hU}
end
theorem Pk(s:ByteArray)(h:m5)(hs:s.size<=2^31):ak xR 187 #[xK s] h λv h'=>v=xK s/\Sp h h' []:=by
 refine ts Tryz.func187 ?_;refine be (λe=>?_) λe=>?_
 .have B:s.size=0:=n7
  have:s=⟨#[]⟩:=by
   cases s with
   |mk d=>
    have:d=#[]:=Array.eq_empty_of_size_eq_zero B;rw[this]
  rw[this];exact⟨n5,Sp.refl h⟩
 .refine(Sp.refl h).DV ag aq cK n8 0 n5 n5 s.size s.size n5 n5 (qj _) n7 λu h1 U F X=>?_;obtain⟨J,A⟩:=Sp.fresh X 0 rfl;have S:=J.len;rw[wU]at S;rcases J.head with⟨p1,p2,p3⟩|⟨b,rest,p1,p2,p3,p4⟩
  .exfalso;have:=congrArg List.length p3;rw[wU,List.length_nil]at this;omega
  have hb:=A b ⟨0,p1⟩;have c:n4 s.data.toList=s.size:=by rw[Array.length_toList];rfl
  obtain⟨M,I⟩:∃M:Array Value,M=((List.replicate s.size (0:UInt8)).flatMap aq++rest).toArray:=⟨_,rfl⟩
  rw[<-I]at p2;have ab:s.size<=M.size:=by rw[I];simp[dL (f:=aq) (k:=1) λ_=>rfl]
  obtain⟨Y,H⟩:∃Y:Array Value,Y=(M.toList.take 0++Lib.byteCells s.data.toList++M.toList.drop (0+s.size)).toArray:=⟨_,rfl⟩
  rw[p1];intro w r;have K:w.heap[b]?=dB (.cells M 5 (0,0)):=by rw[r];exact p2
  have o:=Lib.run_copy_row_string (P:=xR) w 41 9 3 5 b 0 u.len u.cap s M 5 qa qa K n7 n7;rw[<-H]at o;have E:(w.setRow b Y).heap[b]?=dB (.cells Y 5 (0,0)):=setRow_heap _ _ M _ 5 (0,0) K;refine⟨_,_,o,⟨n5,n5,n5,qj _⟩,(s.size:Int),n5,⟨b,0,eH⟩,⟨(by first|exact p1|rfl),n8,n7⟩,?_⟩;intro q a;have l:Y.toList=Lib.byteCells s.data.toList++M.toList.drop s.size:=by rw[H];simp
  have z:n4 (Lib.byteCells s.data.toList)=s.size:=by rw[Lib.byteCells_length,c]
  have Q:s.size<=Y.size:=by rw[<-Array.length_toList,l,List.length_append,z];omega
  have p:q.heap[b]?=dB (.cells Y 5 (0,0)):=by rw[a];exact E
  have D:s.data.toList≠[]:=λB=>by rw[B]at c;simp at c;omega
  have t:=Lib.run_unsafeString_row (P:=xR) q 295 3 9 5 qa qa b Y.size (by unfold World.shape?;rw[p]) s.data.toList D n7 n7 (λj x G=>by
   have hj:j<s.size:=by have:=(List.getElem?_eq_some_iff.1 G).1;omega
   have L:Y[j]?=dB (xH xO (x.toNat:Int)):=by rw[<-Array.getElem?_toList,l,List.getElem?_append_left n7];unfold Lib.byteCells;rw[List.getElem?_map,G];rfl
   have ea:((⟨b,0,eH⟩:hU).add j)=⟨b,j,eH⟩:=by unfold Addr.add;split<;>simp_all
   rw[ea];unfold World.cell?;simp only[p,L];rfl)
  have Z:((u.len:Nat):Int)=(n4 s.data.toList:Int):=n7
  have T:∀(g:World) (n:Nat),(g.freeze ⟨b,0,eH⟩ n).heap.size=g.heap.size/\(∀k,k≠b->(g.freeze ⟨b,0,eH⟩ n).heap[k]?=g.heap[k]?)/\dj g (g.freeze ⟨b,0,eH⟩ n):=λg n=>by
   unfold World.freeze;split
   .exact⟨n5,λ_ _=>rfl,dj.refl _⟩
   .refine⟨oo,λk i=>?_,⟨n5,n5,n5,qj _⟩⟩;rw[yf,nq λh=>i h.symm]
  obtain⟨R,N,O⟩:=T q s.data.toList.length;refine⟨xK ⟨s.data.toList.toArray⟩,q.freeze ⟨b,0,eH⟩ s.data.toList.length,?_,O,⟨s.data.toList.toArray⟩,n5,oo,?_⟩
  .rw[Z];exact t
  .have V:(w.setRow b Y).heap.size=w.heap.size:=by unfold World.setRow;simp
   have W:∀k,k≠b->(w.setRow b Y).heap[k]?=w.heap[k]?:=λk i=>by
    unfold World.setRow;rw[yf,nq λh=>i h.symm]
   refine .zip ⟨by rw[R,a,V,r];exact F.1,λk i y=>?_⟩;have m:k≠b:=by have:=hb.1;omega
   rw[N k m,a,W k m,r];exact F.2 k i y
theorem Kx(s:ByteArray)(h:m5)(b:s.size<=2^31):ak xR 102 #[xK s] h λv h'=>v=xK s/\Sp h h' []:=by refine ts Tryz.func102 ?_;refine(Pk s h b).I3 λc a=>⟨_,n5,n5,a⟩
def lX(m:aB)(a:Int)(w:Pow):List ByteArray:=if gN w a then[]else m.objs.map Qw.cT.name
section
variable {pw:hU}
theorem Tb(x:bi)(s:bE m=true)(H:aa B h0 h (aJ bN a pw (aD x) offs da w ds::bn x m::As)):
  ak xR 36 #[xJ (dB a)] h λv h'=>∃r:Sl,v=r/\Sp h h' [ai 9 r 1 oW (lX m offs w)]:=by
 refine ts Tryz.func36 ?_ (HF (HF (HF (I0 [(3,bK),(14,aI)] [(3,4),(5,6),(14,25)]))));refine(og H).mono ?_;rintro _ k ⟨rfl,rfl⟩;refine⟨_,n5,aT (λe=>?_) λK=>?_⟩
 .have:lX m offs w=[]:=by unfold lX;rw[m6 e]
  rw[this];exact⟨⟨eH,0,0⟩,n5,(Sp.refl k).nil 9 1 oW⟩
 have N:lX m offs w=m.objs.map Qw.cT.name:=by unfold lX;rw[nq (by rw[K];decide)]
 rw[N];have R:=(aa.cw H).2;have u:ct k x m:=H.at 1 n5;have y:=((cJ m).1 s).2.2.2.1;obtain⟨A,F⟩:=bZ.fix u.objs;have P:=F.2.1;have J:=F.1.len;refine⟨a,n5,x.2.2.2.2.2.2.2,R.cell n5,?_⟩;refine aj (λt:Sl×Nat=>(t.1,(t.2:Int))) (λt h'=>t.2<=n4 m.objs/\Sp k h' [ai 9 t.1 1 oW ((m.objs.map Qw.cT.name).take t.2)]) (λt=>n4 m.objs-t.2) (⟨eH,0,0⟩,0) n5 ⟨oo,by simpa using(Sp.refl k).nil 9 1 oW⟩ ?_;rintro⟨o,i⟩ S ⟨I,d⟩;dsimp only at I d⊢;refine ae (λe=>?_) λe=>?_
 .have c:i<n4 m.objs:=n7
  have b:=Fix.row F c;obtain⟨E,l⟩:=I5 (m.objs[i])
  have p:E∈m.objs:=by rw[l];exact qe c
  obtain⟨xe,f⟩:=I5 (A[i]'n7)
  rw[<-l,<-f]at b;have j:xe.1=E.name:=b.1.1;have G:E.name.size<=12:=by have:=((iI m E).1 (((cJ m).1 s).2.2.2.2.1 E p)).1;unfold gJ at this;simp at this;omega
  refine(Seq.up F.1 d.ac).cG (g:=bg) i n5 n7 xe (by rw[f]) ?_;refine d.alloc ag n5 λT h3 Q=>?_;refine Q.storeAll ag 1 n5 n5 (bg xe) n5 n5 n5 n5 λD q=>?_;refine⟨xe.1,(q.box 1 n5).cell0 n5,(Kx xe.1 D (by rw[j];omega)).I3 λU O=>?_⟩;have z:=(q.up O.ac).bu [0];refine⟨_,n5,z.push ag 0 n5 Yl n5 n8 (λ_=>rfl) Qs xe.1 n5 n8 oi λL V M=>?_⟩;refine⟨(L,i+1),oj,⟨n9,?_⟩,n9⟩
  try dsimp only
  rw[az _ _ (show i<n4 (m.objs.map Qw.cT.name) by simpa using c),List.getElem_map,<-l,<-j];exact M
 .rw[List.take_of_length_le (by rw[List.length_map];omega)]at d;exact⟨o,n5,d⟩
theorem Yn(b:bE m=true)(H:aa B h0 h (gQ a pw da offs w ds m::As)):
  ak xR 36 #[xJ (dB a)] h λv h'=>∃r:Sl,v=r/\Sp h h' [ai 9 r 1 oW (lX m offs w)]:=by
 obtain⟨x,H⟩:=iM H;exact Tb x b H
end
variable {L:List bJ}
section
variable {pw b:hU}
end
variable {X:HP}
section
variable {L:List HP} {k:Kit} {pw b:hU} {d:bp} {n:Nat}
structure adP (da:List bJ) (ds:aF):Prop where
 len:n4 da=n4 ds
 same:∀i:Nat,(da.getD i eH).isSome=(ds.getD i eH).isSome
end
variable {t t2 eb by_:Nat} {l2:List α} {pre post:aS}
section
variable {C:Ctx} {ty:Nat} {z:aS} {p:au} {v:Sl} {f:α->aS} {l:List α}
end
section
variable {pw:hU} {d:bp}
end
section
variable {pw:hU} {d:bp} {n:Nat}
end
section
variable {pw:hU}
end
structure aei (m:aB) (d:bp):Prop where
 lost:d.lost=false
 room:d.room=90
 len:n4 d.l<=40
 few:n4 (adc d.l)<20
section
variable {d e f:bp}
structure GrD (m:aB) (d e:bp):Prop where
 lost:e.lost=d.lost
 room:e.room=d.room
 pg:∀c∈e.l,Dt c≠eH->c∈d.l∨c∈bG m
 whole:(∀c∈bG m,c∈d.l)->∀c∈bG m,c∈e.l
 q:d.laid=[]/\d.has=false->e.laid=[]/\e.has=false
structure GrS (T:bp->bp->Prop) (ds ds':aF):Prop where
 len:n4 ds'=n4 ds
 at_:∀k d,bR ds k=dB d->∃e,bR ds' k=dB e/\T d e
 no:∀k,bR ds k=eH->bR ds' k=eH
variable {T:bp->bp->Prop}
end
section
variable {n:aB} {C:Int->aR} {d e f:bp}
structure Os (i:Nat) (p:Pm) (m:aB) (C:Int->aR) (ds:aF):Prop where
 wt:Wt False i p m ds
 sto:No m C ds
 full:Full m C ds
 ne:m.drives≠[]
structure ClD (m:aB) (d e:bp):Prop where
 lost:e.lost=d.lost
 room:e.room=d.room
 l:e.l=d.l∨e.l=gp m d.l
end
section
variable {n:aB} {C:Int->aR} {d e:bp}
def Qt(d:bp):Prop:=d.wait=0/\d.laid=[]/\d.has=false
structure Ab (i:Nat) (p:Pm) (m:aB) (C:Int->aR) (ds:aF):Prop where
 os:Os i p m C ds
 q:∀k d,bR ds k=dB d->Qt d
end
section
variable {pw b:hU}
end
section
variable {pw:hU}
end
def aax(l:List cT):List (Int×Int×Int):=l.flatMap λe=>(List.range e.tries.length).map λi:Nat=>(e.object,(i:Int),fl e.object i (e.tries.getD i 0))
variable {D:aF} {xb xs:bi}
section
variable {pw b:hU}
end
end Go.Qw
