/- Lemmas for the proof of the law; no condition. -/
import Derived.Test.YtmobnmonkaacaaaGreatDoorDKD
import Derived.Lib.BufferWrite
import Derived.Lib.UnsafeStr
set_option maxHeartbeats 2000000
set_option linter.unusedVariables false
set_option linter.unusedSimpArgs false
open Go.Proofs.Tryz renaming prog -> xT
open Go.Value renaming agg -> xO, bool -> xN, int -> xJ, pointer -> xL, slice -> xK, string -> xM
open Go.IntKind renaming i64 -> xP, u32 -> xR, u8 -> xQ, wrap -> qd
open Int renaming tdiv -> yN
set_option maxRecDepth 100000
open Option renaming some -> dB, none -> eH
open Go renaming Addr -> fY
open Go.Qw renaming Heap -> hY
open List renaming length -> m8
open Go.Qw.bU renaming n -> E6
namespace Go.Qw
open Go.Proofs
structure Mv where
 kind:Int
 name:ByteArray
 data:aT
 slot:Int
 n:Int
 m:Int
 mask:Int
 keeps:aC
 torns:aC
def Fm:List ByteArray:=[⟨#[97]⟩,⟨#[98]⟩,⟨#[99,97,116,45,55]⟩,⟨#[100]⟩,⟨#[101,49,50,51,52,53,54,55,56,57,48,49]⟩]
def km(p:Int×Int×Int)(b:Mv):Prop:=
 (b.kind=1/\b.name∈Fm/\(m8 b.data:Int)<=3*(p.1*p.2.2)+1)∨((b.kind=2∨b.kind=3∨b.kind=5)/\b.name∈Fm)∨b.kind=4∨
 (b.kind=6/\(0<=b.slot/\b.slot<9)/\6<=b.n/\b.n<66)∨(b.kind=7/\0<=b.slot/\b.slot<8)∨(b.kind=8/\(0<=b.slot/\b.slot<8)/\6<=b.n/\b.n<66)∨(b.kind=9/\0<=b.slot/\b.slot<8)∨
 (b.kind=10/\(-1<=b.n/\b.n<=7)/\-1<=b.m/\b.m<=68)∨(b.kind=11/\(0<=b.slot/\b.slot<7)/\(0<=b.n/\b.n<40)/\(0<=b.m/\b.m<61)/\0<=b.mask/\b.mask<4294967296)
def NM(b:Mv):Prop:=b=⟨b.kind,if b.kind=1∨b.kind=2∨b.kind=3∨b.kind=5 then b.name else⟨#[]⟩,if b.kind=1 then b.data else[],if b.kind=6∨b.kind=7∨b.kind=8∨b.kind=9∨b.kind=11 then b.slot else 0,
 if b.kind=6∨b.kind=8∨b.kind=10∨b.kind=11 then b.n else 0,if b.kind=10∨b.kind=11 then b.m else 0,if b.kind=11 then b.mask else 0,[],[]⟩
abbrev pz(s:ByteArray):aR:=[xM s]
abbrev sH:=Int×ByteArray×Sl×Int×Int×Int×Int×Sl×Sl
abbrev gY(x:sH):aR:=[xJ xP x.1,xM x.2.1,x.2.2.1,xJ xP x.2.2.2.1,xJ xP x.2.2.2.2.1,xJ xP x.2.2.2.2.2.1,xJ xR x.2.2.2.2.2.2.1,x.2.2.2.2.2.2.2.1,x.2.2.2.2.2.2.2.2]
abbrev Fo(x:sH):Value:=xO #[xJ xP x.1,xM x.2.1,x.2.2.1,xJ xP x.2.2.2.1,xJ xP x.2.2.2.2.1,xJ xP x.2.2.2.2.2.1,xJ xR x.2.2.2.2.2.2.1,x.2.2.2.2.2.2.2.1,x.2.2.2.2.2.2.2.2]
def jE:jq sH Mv:=⟨λh q a b=>(a.1=b.kind/\a.2.1=b.name/\a.2.2.2.1=b.slot/\a.2.2.2.2.1=b.n/\a.2.2.2.2.2.1=b.m/\a.2.2.2.2.2.2.1=b.mask/\a.2.2.1.len<=a.2.2.1.cap)/\Seq h q a.2.2.1 1 aq b.data/\Seq h q a.2.2.2.2.2.2.2.1 1 av b.keeps/\Seq h q a.2.2.2.2.2.2.2.2 1 av b.torns,
 λa d=>⟨a.1,a.2.1.ac d,a.2.2.1.ac d,a.2.2.2.ac d⟩,λa c=>⟨a.1,a.2.1.mono c,a.2.2.1.mono c,a.2.2.2.mono c⟩⟩
theorem QZ:∀x,∀c∈pz x,c.oneCell'=true:=by intro x c a;simp[pz]at a;subst a;rfl
theorem adw:∀x,∀c∈gY x,c.oneCell'=true:=by intro x c a;simp[gY]at a;rcases a with rfl|rfl|rfl|rfl|rfl|rfl|rfl|rfl|rfl<;>rfl
abbrev Za:bO C.toAA 75 9 1 [xM ⟨#[]⟩] 16:=⟨_,_,m9,m9,m9,m9,m9,m9⟩
abbrev Ku:aR:=[xJ xP 0,xM ⟨#[]⟩,xK eH 0 0,xJ xP 0,xJ xP 0,xJ xP 0,xJ xR 0,xK eH 0 0,xK eH 0 0]
abbrev eMv:bO C.toAA 34 44 9 Ku 128:=⟨_,_,m9,m9,m9,m9,m9,m9⟩
theorem td(n:Int)(h:hY):aj xT 111 #[xJ xP n] h λv h'=>∃s∈Fm,v=xM s/\Sp h h' []:=by refine ts Tryz.func111 ?_;refine(Sp.refl h).lit ag pz Za m9 Fm m9 nq n9 λg b a=>?_;refine(bT n 5 b).G6 ?_;have d:=yz n (show(5:Int)≠0 by decide);have f:=wq n (show(0:Int)<5 by decide);have c:m8 Fm=5:=rfl;refine⟨_,m9,(a.seq 0 m9 λ_=>rfl).aW (n%5).toNat nb nb (Fm[(n%5).toNat]'nb) m9 ⟨_,qe _,m9,.zip a.ac⟩⟩
theorem TL(p:Pm)(k a b:Int)(h:hY)(M:bH p=true):aj xT 45 #[gx p,xJ xP k,xJ xP a,xJ xP b] h λv h'=>∃(x:sH) (m:Mv),v=Fo x/\km p m/\NM m/\Sp h h' [EA jE x m]:=by
 refine ts Tryz.func45 ?_ E6 [(4,(.l [0,2,3,4,5,6,7,8,9,10,11,13,1,12,14,15,16]))] (args:=[p,(k:Int),(a:Int),(b:Int)]);obtain⟨⟨L,p2⟩,_,R,U⟩:=(bI p).1 M;have X:1<=p.1*p.2.2/\p.1*p.2.2<=16*24:=⟨wg L R nb nb,wg p2 U nb nb⟩
 refine(Sp.refl h).boxed λa1 h1 S=>S.alloc ag m9 λa2 Q f=>?_;have fin:∀(c d n m e:Int) (name:ByteArray) {h':hY},Sp h h' [an a1 24 [xJ xP p.1,xJ xP p.2.1,xJ xP p.2.2],an a2 44 Ku]->km p ⟨c,name,[],d,n,m,e,[],[]⟩->NM ⟨c,name,[],d,n,m,e,[],[]⟩->
   au xT (Instr.storeAt 44 (xL (dB a2)) (xO #[xJ xP c,xM name,xK eH 0 0,xJ xP d,xJ xP n,xJ xP m,xJ xR e,xK eH 0 0,xK eH 0 0])) h' λ_ i=>
    ∃r:sH,bp i a2 0 (gY r)/\∃(x:sH) (m:Mv),Fo r=Fo x/\km p m/\NM m/\Sp h i [EA jE x m]:=by
  intro c d n m e name h' V F P;refine V.storeAll ag 1 m9 m9 (gY (c,name,⟨eH,0,0⟩,d,n,m,e,⟨eH,0,0⟩,⟨eH,0,0⟩)) m9 m9 m9 m9 λi A=>?_;refine⟨(c,name,⟨eH,0,0⟩,d,n,m,e,⟨eH,0,0⟩,⟨eH,0,0⟩),(A.box 1 m9).aw _ m9,_,_,m9,F,P,?_⟩;have Z:Sp h i []:=.zip A.ac;exact Z.comp (.one (aQ.refl _ _) ⟨⟨m9,m9,m9,m9,m9,m9,qj _⟩,Seq.nil _ _ _ _ _ _,Seq.nil _ _ _ _ _ _,Seq.nil _ _ _ _ _ _⟩)
 refine(bT k 26 Q).mono ?_;rintro _ h3 ⟨rfl,rfl⟩;have k0:=yz k (show(26:Int)≠0 by decide);have k1:=wq k (show(0:Int)<26 by decide);have W:∀(x n:Int),0<n->0<=x%n/\x%n<n:=λx n O=>⟨yz x nb,wq x O⟩
 refine⟨_,m9,ae (λ_=>?_) λ_=>?_⟩
 .refine⟨nq,p.1,(f.box 0 m9).cell0 m9,p.2.2,(f.box 0 m9).cell m9,(td a h3).mono ?_⟩;rintro _ g ⟨s,t,rfl,o⟩;have w:=f.up o.ac;have Y:qd xP ((qd xP ((qd xP ((3:Int)*p.1))*p.2.2))+(2:Int))=3*(p.1*p.2.2)+2:=by rw[af (3*p.1),Int.mul_assoc,af (3*(p.1*p.2.2)),af _]
  refine⟨s,m9,⟨(w.box 0 m9).cell m9,(w.box 0 m9).cell0 m9,I0⟩,?_⟩;rw[Y];refine(bT _ (3*(p.1*p.2.2)+2) g nb nb).mono ?_;rintro _ j ⟨rfl,rfl⟩;obtain⟨q,B⟩:=HF (qd xP (yN a 5)%(3*(p.1*p.2.2)+2))
  have E:=W (qd xP (yN a 5)) (3*(p.1*p.2.2)+2) nb;rw[<-B]at E⊢;obtain⟨N,hN⟩:∃N:Nat,q=N:=⟨q.toNat,nb⟩
  subst hN;refine⟨_,m9,⟨(w.box 0 m9).cell m9,(w.box 0 m9).cell0 m9,I0⟩,(Ta N b j nb).mono ?_⟩;rintro _ T ⟨r,l,rfl,hl,H⟩;have G:=w.comp H;have u:=(H.own 0 m9).cap;refine⟨r,m9,⟨(G.box 0 m9).cell m9,(G.box 0 m9).cell0 m9,I0⟩,?_⟩;refine G.storeAll ag 1 m9 m9 (gY (1,s,r,0,0,0,0,⟨eH,0,0⟩,⟨eH,0,0⟩)) m9 m9 m9 m9 λh7 I=>?_;refine⟨I0,(1,s,r,0,0,0,0,⟨eH,0,0⟩,⟨eH,0,0⟩),(I.box 1 m9).aw _ m9,_,(⟨1,s,l,0,0,0,0,[],[]⟩:Mv),m9,.inl ⟨m9,t,n1⟩,m9,?_⟩;have K:=I.bs [2];exact K.dY 0 m9 λq B=>⟨⟨m9,m9,m9,m9,m9,m9,u⟩,B.1.seq (λ_=>rfl) B.2,Seq.nil _ _ _ _ _ _,Seq.nil _ _ _ _ _ _⟩
 refine ae (λ_=>(td a h3).mono ?_) λ_=>ae (λ_=>(td a h3).mono ?_) λ_=>aZ (λ_=>?_) λ_=>aZ (λ_=>(td a h3).mono ?_) λ_=>aZ (λ_=>?_) λ_=>aZ (λ_=>?_) λ_=>aZ (λ_=>?_) λ_=>aZ (λ_=>?_) λ_=>ae (λ_=>?_) λ_=>aZ (λ_=>?_) λ_=>?_
 .rintro _ g ⟨s,t,rfl,o⟩;exact⟨s,m9,fin 2 0 0 0 0 s (f.up o.ac) (.inr (.inl ⟨.inl m9,t⟩)) m9⟩
 .rintro _ g ⟨s,t,rfl,o⟩;exact⟨s,m9,fin 3 0 0 0 0 s (f.up o.ac) (.inr (.inl ⟨.inr (.inl m9),t⟩)) m9⟩
 .exact fin 4 0 0 0 0 _ f (.inr (.inr (.inl m9))) m9
 .rintro _ g ⟨s,t,rfl,o⟩;exact⟨s,m9,fin 5 0 0 0 0 s (f.up o.ac) (.inr (.inl ⟨.inr (.inr m9),t⟩)) m9⟩
 .refine(bT a 9 h3).mono ?_;rintro _ g ⟨rfl,rfl⟩;refine⟨_,m9,(bT b 60 g).mono ?_⟩;rintro _ j ⟨rfl,rfl⟩;have y:=W a 9 nq;have D:=W b 60 nq;refine⟨_,m9,?_⟩
  try dsimp only
  rw[af (6+b%60)];exact fin 6 _ _ 0 0 _ f (.inr (.inr (.inr (.inl ⟨m9,y,n1,n1⟩)))) m9
 .refine(bT a 8 h3).G6 ⟨_,m9,fin 7 _ 0 0 0 _ f (.inr (.inr (.inr (.inr (.inl ⟨m9,W a 8 nq⟩))))) m9⟩
 .refine(bT a 8 h3).mono ?_;rintro _ g ⟨rfl,rfl⟩;refine⟨_,m9,(bT b 60 g).mono ?_⟩;rintro _ j ⟨rfl,rfl⟩;have y:=W a 8 nq;have D:=W b 60 nq;refine⟨_,m9,?_⟩
  try dsimp only
  rw[af (6+b%60)];exact fin 8 _ _ 0 0 _ f (.inr (.inr (.inr (.inr (.inr (.inl ⟨m9,y,n1,n1⟩)))))) m9
 .refine(bT a 8 h3).G6 ⟨_,m9,fin 9 _ 0 0 0 _ f (.inr (.inr (.inr (.inr (.inr (.inr (.inl ⟨m9,W a 8 nq⟩))))))) m9⟩
 .refine(bT a 3 h3).mono ?_;rintro _ g ⟨rfl,rfl⟩;refine⟨_,m9,(bT b 20 g).mono ?_⟩;rintro _ j ⟨rfl,rfl⟩;have y:=W a 3 nq;have D:=W b 20 nq;exact⟨_,m9,fin 10 0 _ _ 0 _ f (.inr (.inr (.inr (.inr (.inr (.inr (.inr (.inl ⟨m9,n1,n1,n1⟩)))))))) m9⟩
 .refine(bT a 9 h3).mono ?_;rintro _ g ⟨rfl,rfl⟩;refine⟨_,m9,(bT b 70 g).mono ?_⟩;rintro _ j ⟨rfl,rfl⟩;have y:=W a 9 nq;have D:=W b 70 nq;refine⟨_,m9,?_⟩
  try dsimp only
  rw[af (a%9-1),af (b%70-1)];exact fin 10 0 _ _ 0 _ f (.inr (.inr (.inr (.inr (.inr (.inr (.inr (.inl ⟨m9,n1,n1,n1⟩)))))))) m9
 .refine(bT a 7 h3).mono ?_;rintro _ g ⟨rfl,rfl⟩;refine⟨_,m9,nq,(bT _ 40 g).mono ?_⟩;rintro _ j ⟨rfl,rfl⟩;refine⟨_,m9,(bT b 61 j).G6 ?_⟩;have J:∀z:Int,0<=qd xR z/\qd xR z<4294967296:=λz=>by rw[CM];have:=(BitVec.ofInt 32 z).isLt;omega
  exact⟨_,m9,fin 11 _ _ _ _ _ f (.inr (.inr (.inr (.inr (.inr (.inr (.inr (.inr ⟨m9,W a 7 nq,W _ 40 nq,W b 61 nq,J _⟩)))))))) m9⟩
theorem WF(p:Pm)(k a b:Int)(h:hY)(c:bH p=true):aj xT 45 #[gx p,xJ xP k,xJ xP a,xJ xP b] h λv h'=>∃(x:sH) (m:Mv),v=Fo x/\km p m/\Sp h h' [EA jE x m]:=
 (TL p k a b h c).mono λ_ _ ⟨x,m,e,o,_,H⟩=>⟨x,m,e,o,H⟩
theorem km.put{p:Pm}{b:Mv}(h:km p b)(a:b.kind=1):b.name∈Fm/\(m8 b.data:Int)<=3*(p.1*p.2.2)+1:=by
 unfold km at h;rw[a]at h;rcases h with h|h|h|h|h|h|h|h|h
 .exact h.2
 .exact absurd h.1 nq
 .exact absurd h nq
 all_goals exact absurd h.1 nq
theorem Zb:∀s∈Fm,s.size<=12:=oi
structure Inv (m:aB) (C:Int->aT) (ds:aG) (N:Nat):Prop where
 sto:NH m C ds
 full:Full m C ds
 low:Low m ds
 nm:∀e∈m.objs,e.name∈Fm
 dr:m.drives≠[]
 seq:m.seq<=1+N
 nx:m.next<=N
variable {B:ar} {h0 h:hY} {As:List HP}
variable {a v:fY} {offs:Int} {da:List bx} {w:Pow} {ds:aG} {mc:aR}
section
variable {pw:fY}
end
variable {m:aB}
section
variable {pw:fY}
end
structure Wn (p:Pm) (m:aB) (C:Int->aT) (ds:aG):Prop where
 sto:NH m C ds
 live:bh ds m.drives≠[]
 dr:∀k∈m.drives,k<9
 pe:m.p=p
 wt:∀k d,bX ds k=dB d->d.wait=0
variable {p:Pm}
section
variable {C:Int->aT}
end
variable {ds':aG}
section
variable {C:Int->aT}
structure aff (m:aB) (ds ds':aG) (gone:aC):Prop where
 len:m8 ds'=64
 at_:∀k,k∉gone->bX ds' k=bX ds k
 live:∀k,k∈bh ds' m.drives↔k∈bh ds m.drives/\k∉gone
 sub:∀k∈gone,k∈bh ds m.drives
 nd:gone.Nodup
end
section
variable {C:Int->aT}
structure DK (m:aB) (d d':bu):Prop where
 lost:d'.lost=d.lost
 room:d'.room=d.room
 recs:∀r∈iI m d.l,r∈iI m d'.l
 whole:jt m d.l=true->jt m d'.l=true
structure aeA (m:aB) (ds ds':aG):Prop where
 len:m8 ds'=m8 ds
 at_:∀k d,bX ds k=dB d->∃d',bX ds' k=dB d'/\DK m d d'
 no:∀k,bX ds k=eH->bX ds' k=eH
structure Tidy (m:aB) (d:bu):Prop where
 whole:jt m d.l=true
 keep:(gz m d.l).length<=m8 d.l
 room:m8 d.l<=d.room
structure XOk (m:aB) (C:Int->aT) (e:Qw.cZ) (i:Nat) (x:Blk):Prop where
 he:e∈m.objs
 hi:i<e.tries.length
 o:x.o=e.object
 b:x.b=i
 seed:x.seed=fx e.object i (e.tries.getD i 0)
 M:x.M=kg m.p x.seed (TF m C e.object i)
structure Mid (m:aB) (C:Int->aT) (live:aC) (ds:aG) (got:aC):Prop where
 sto:NH m C ds
 lv:∀k∈live,∃d,bX ds k=dB d/\d.lost=false
 wt:∀k d,bX ds k=dB d->d.wait=0∨k∈got
 tidy:∀k∈live,∀d,bX ds k=dB d->Tidy m d
 rm:∀k d,bX ds k=dB d->m8 d.l<=d.room/\d.room<=512
structure afg (m:aB) (live:aC) (ds:aG) (t most:Int):Prop where
 lv:live=bh ds m.drives
 few:m8 live<=9
 tt:0<=t/\t<m8 live
 c:¬acv live.length t>4096
 mo:0<=most/\most<=64
 slots:∀s∈live,0<=s/\s<64
end
section
variable {C:Int->aT}
def aeB(m:aB)(f:aG):Prop:=∀k d,bX f k=dB d->∀b e,bX f b=dB e->∀c∈d.l,∀g∈e.l,∀r a,dq c=dB r->dq g=dB a->dK m r=true->dK m a=true->aau r=aau a->k=b
end
variable {N:Nat} {name:ByteArray} {b:aT}
section
variable {C:Int->aT}
structure afh (m:aB) (C:Int->aT) (ds:aG) (N:Nat):Prop where
 inv:Inv m C ds N
 once:aeB m ds
 room:∀k∈m.drives,∃d,bX ds k=dB d/\d.lost=false/\d.room=400
 four:∀e∈m.objs,e.tries.length<=4
 ids:(m.p.1+m.extra).toNat<=12
structure aeW (m:aB) (C:Int->aT) (rs:List sH) (M:List Mv) (kvs:List (ByteArray×Sl)):Prop where
 nd:(kvs.map Prod.fst).Nodup
 len:kvs.length=m.objs.length
 mem:∀q∈kvs,∃e∈m.objs,e.name=q.1/\∃(j:Nat) (h1:j<rs.length) (h2:j<M.length),q.2=rs[j].2.2.1/\C e.object=M[j].data
 all:∀e∈m.objs,ZP e.name kvs≠eH
variable {rs:List sH} {M:List Mv} {kvs:List (ByteArray×Sl)}
end
variable {s:Sl} {l:aT} {f:Bool} {n:Int}
structure aeX (B:ar) (h0:hY) (As:List HP) (s:Sl) (l:aT):Prop where
 cap:s.len<=s.cap
 st:St B h0 As λh=>Rd h s 1 aq l
abbrev PgV:=Int×Int×Int×Sl×Sl
def aeC(p:PgV×Pg):Prop:=p.1.1=p.2.seq/\p.1.2.1=p.2.num/\p.1.2.2.1=p.2.many
structure afi (h:hY) (p:PgV×Pg):Prop where
 bears:Rd h p.1.2.2.2.1 1 aq p.2.bears
 cell:Rd h p.1.2.2.2.2 1 aq p.2.cell
 len:m8 p.2.bears<=48
structure afj (ll:dT) (rs:List Sl) (pool:List (Sl×aT)) (p:PgV×Pg):Prop where
 ok:aeC p
 bears:(p.1.2.2.2.1,p.2.bears)∈pool
 len:m8 p.2.bears<=48
 many:p.2.many<=255
 cell:∃k:Nat,rs[k]?=dB p.1.2.2.2.2/\ll[k]?=dB p.2.cell
variable {h':hY} {d:List bc}
variable {α β:Type} {E:jq α β} {e k:Nat} {ll:List β}
section
variable {f:α->aR}
end
abbrev BY(p:bx):aR:=[.pointer p]
def adm(m:aB)(i:Nat):Bool:=decide ((i:Int)∈m.drives)
structure Hi (M:Int->aB) (m:aB) (ds:aG):Prop where
 cur:M m.seq=m
 at_:∀k d,bX ds k=dB d->k∈m.drives
 pg:∀k d,bX ds k=dB d->∀c∈d.l,∀g,DN c=dB g->(1<=g.seq/\g.seq<=m.seq)/\c∈bG (M g.seq)/\k∈(M g.seq).drives
 ok:∀q,1<=q->q<=m.seq->bF (M q)=true/\(M q).seq=q/\(bG (M q)).length<=2
variable {M:Int->aB}
section
variable {n:aB}
end
section
variable {n:aB} {d:bu}
def ady(l:dT):Nat:=l.countP λc=>(dq c).isSome
end
structure Wt (z:Prop) (i:Nat) (p:Pm) (m:aB) (ds:aG):Prop where
 may:bF m=true
 len:m8 ds=64
 pe:m.p=p
 dr:∀k∈m.drives,k<9
 hi:∃M,Hi M m ds
 slim:z->∀k d,bX ds k=dB d->d.lost=false->ady d.l+1<=m8 d.l/\ady d.l+2<=d.room
 seq:m.seq<=i+1
 ent:∀e∈m.objs,e.name∈Fm/\e.length<=3*(p.1*p.2.2)+1
variable {z:Prop} {i:Nat}
structure Tn (p:Pm) (m:aB) (C:Int->aT) (ds:aG):Prop where
 sto:NH m C ds
 dr:∀k∈m.drives,k<9
 pe:m.p=p
 wt:∀k d,bX ds k=dB d->d.wait=0
section
variable {C:Int->aT}
end
section
variable {C:Int->aT}
end
section
variable {C:Int->aT}
end
section
variable {pw:fY}
theorem KR(x:bc)(m:aB)(f:cv h x m)(c:m.objs=[])(H:aa B h0 h (aJ bP a pw (aD x) offs da w ds::As)):
  aj xT 36 #[xL (dB a)] h λv h'=>v=xK eH 0 0/\h'=h:=by
 refine lT (dB a) ?_;obtain⟨ok,d⟩:=aa.cF H;refine(mB (dB a) (R:=λv h'=>v=xN (gy w offs)/\h'=h) ?_).mono ?_
 .skip
  refine aS (λe=>n5) λ_=>(nr H).G6 ⟨_,m9,m9,m9⟩
 rintro _ _ ⟨rfl,rfl⟩;refine⟨_,m9,aS (λ_=>⟨m9,m9⟩) λ_=>⟨a,m9,x.2.2.2.2.2.2.2,d.cell m9,?_⟩⟩;have b:=ce.len f.objs;rw[c]at b;refine ak (λ_:Unit=>((⟨eH,0,0⟩:Sl),(0:Int))) (λ_ h'=>h'=_) (λ_=>0) () m9 m9 ?_;rintro _ g rfl;exact ae (λe=>absurd e (by rw[b];decide)) λ_=>⟨m9,m9⟩
theorem NN(h:hY):aj xT 7 #[] h λv h'=>v=xN true/\Sp h h' []:=by refine ts Tryz.func7 ?_;refine(JP h).Hf λpw m l=>⟨_,m9,?_⟩;refine l.lit ag av ge m9 [5] m9 (show 1*1<=2^20 by decide) m9 λf n j=>?_;refine(Fg (1,1,1) 0 f [5] (As:=[ai 3 f 1 av [5]]) (St.dS 0 m9 λh' i=>i.1.seq (λ_=>rfl) i.2) nq j).mono ?_;rintro _ h3 ⟨_,Q⟩;obtain⟨a,x,da,rfl,b⟩:=Q YZ;have k:bM (cw (1,1,1) 0 [5]):=sY _ _ _ nq;have c:cv h3 x (cw (1,1,1) 0 [5]):=b.at 1 m9;refine⟨(dB a,0),m9,aZ (λ_=>aS (λ_=>?_) λe=>n5) λe=>absurd m9 e⟩;refine(KR x _ c m9 b).G6 ⟨⟨eH,0,0⟩,m9,aZ (λ_=>?_) λe=>absurd m9 e⟩;refine(fC x _ c k b).Hf λr o d=>?_;have g:=(d.own 0 m9).len;rw[TK]at g;refine⟨r,m9,?_,.zip (aa.up b d.ac).ac⟩;rw[g];rfl
end
theorem WG(n:Int)(o:n<2^62)(H:aa B h0 h (fL a w::As)):aj xT 17 #[xL (dB a),xJ xP n] h λv h'=>v=.tuple #[]/\aa B h0 h' (fL a (w.arm n)::As):=by
 obtain⟨l,m,f⟩:=H.iV;refine ts Tryz.func17 ?_;refine⟨a,m9,w.off,(f.box 0 m9).cell0 m9,aH (λe=>?_) λe=>?_⟩
 .have d:w.off=false:=o7
  refine⟨a,m9,f.store ag 0 m9 m9 1 [xN (decide (n>=0))] m9 m9 m9 n4 λp g=>?_⟩;refine⟨a,m9,g.store ag 0 m9 m9 2 [xJ xP n] m9 m9 m9 t6 λh3 j=>⟨m9,?_⟩⟩;refine aa.kV (l:=n) (λk c=>?_) ?_
  .unfold Pow.arm at c;rw[k4 A4]at c;by_cases b:0<=n
   .rw[hZ b]at c;simp at c;subst c;omega
   .rw[k4 b]at c;cases c
  .have i:powC (w.arm n) n=[xN w.off,xN (decide (n>=0)),xJ xP n,xJ xP w.offs]:=by
    unfold Pow.arm powC;rw[k4 A4];by_cases b:0<=n
    .rw[hZ b];simp[d,b]
    .rw[k4 b];simp[d];omega
   rw[i];exact j
 .have:w.arm n=w:=by unfold Pow.arm;rw[hZ o7]
  rw[this];exact⟨m9,H⟩
variable {a2 pw2 b2:fY} {da2:List bx}
section
variable {pw b:fY}
end
variable {q:bx}
section
variable {pw b:fY}
end
theorem PK(s:ByteArray)(h:hY)(hs:s.size<=2^31):aj xT 187 #[xM s] h λv h'=>v=xM s/\Sp h h' []:=by
 refine ts Tryz.func187 ?_;refine aZ (λe=>?_) λe=>?_
 .have D:s.size=0:=nb
  have:s=⟨#[]⟩:=by
   cases s with
   |mk d=>
    have:d=#[]:=Array.eq_empty_of_size_eq_zero D;rw[this]
  rw[this];exact⟨m9,Sp.refl h⟩
 .refine(Sp.refl h).Ep ag aq cR nq 0 m9 m9 s.size s.size m9 m9 (qj _) nb λu h1 R F W=>?_;obtain⟨J,B⟩:=Sp.fresh W 0 rfl;have L:=J.len;rw[wV]at L;rcases J.head with⟨p1,p2,p3⟩|⟨b,rest,p1,p2,p3,p4⟩
  .exfalso;have:=congrArg List.length p3;rw[wV,List.length_nil]at this;omega
  have U:=B b ⟨0,p1⟩;have g:m8 s.data.toList=s.size:=by rw[Array.length_toList];rfl
  obtain⟨M,H⟩:∃M:Array Value,M=((List.replicate s.size (0:UInt8)).flatMap aq++rest).toArray:=⟨_,rfl⟩
  rw[<-H]at p2;have V:s.size<=M.size:=by rw[H];simp[dz (f:=aq) (k:=1) λ_=>rfl]
  obtain⟨Y,K⟩:∃Y:Array Value,Y=(M.toList.take 0++Lib.byteCells s.data.toList++M.toList.drop (0+s.size)).toArray:=⟨_,rfl⟩
  rw[p1];intro w r;have I:w.heap[b]?=dB (.cells M 5 (0,0)):=by rw[r];exact p2
  have o:=Lib.run_copy_row_string (P:=xT) w 41 9 3 5 b 0 u.len u.cap s M 5 pa pa I nb nb;rw[<-K]at o;have y:(w.setRow b Y).heap[b]?=dB (.cells Y 5 (0,0)):=setRow_heap _ _ M _ 5 (0,0) I;refine⟨_,_,o,⟨m9,m9,m9,qj _⟩,(s.size:Int),m9,⟨b,0,eH⟩,⟨(by first|exact p1|rfl),nq,nb⟩,?_⟩;intro q a;have m:Y.toList=Lib.byteCells s.data.toList++M.toList.drop s.size:=by rw[K];simp
  have t:(Lib.byteCells s.data.toList).length=s.size:=by rw[Lib.byteCells_length,g]
  have ab:s.size<=Y.size:=by rw[<-Array.length_toList,m,List.length_append,t];omega
  have p:q.heap[b]?=dB (.cells Y 5 (0,0)):=by rw[a];exact y
  have z:s.data.toList≠[]:=λD=>by rw[D]at g;simp at g;omega
  have A:=Lib.run_unsafeString_row (P:=xT) q 295 3 9 5 pa pa b Y.size (by unfold World.shape?;rw[p]) s.data.toList z nb nb (λj x G=>by
   have hj:j<s.size:=by have:=(List.getElem?_eq_some_iff.1 G).1;omega
   have X:Y[j]?=dB (xJ xQ (x.toNat:Int)):=by rw[<-Array.getElem?_toList,m,List.getElem?_append_left nb];unfold Lib.byteCells;rw[List.getElem?_map,G];rfl
   have ea:((⟨b,0,eH⟩:fY).add j)=⟨b,j,eH⟩:=by unfold Addr.add;split<;>simp_all
   rw[ea];unfold World.cell?;simp only[p,X];rfl)
  have e9:((u.len:Nat):Int)=(m8 s.data.toList:Int):=nb
  have N:∀(c:World) (n:Nat),(c.freeze ⟨b,0,eH⟩ n).heap.size=c.heap.size/\(∀k,k≠b->(c.freeze ⟨b,0,eH⟩ n).heap[k]?=c.heap[k]?)/\dm c (c.freeze ⟨b,0,eH⟩ n):=λc n=>by
   unfold World.freeze;split
   .exact⟨m9,λ_ _=>rfl,dm.refl _⟩
   .refine⟨n4,λk l=>?_,⟨m9,m9,m9,qj _⟩⟩;rw[yh,k4 λh=>l h.symm]
  obtain⟨S,T,Z⟩:=N q s.data.toList.length;refine⟨xM ⟨s.data.toList.toArray⟩,q.freeze ⟨b,0,eH⟩ s.data.toList.length,?_,Z,⟨s.data.toList.toArray⟩,m9,n4,?_⟩
  .rw[e9];exact A
  .have O:(w.setRow b Y).heap.size=w.heap.size:=by unfold World.setRow;simp
   have Q:∀k,k≠b->(w.setRow b Y).heap[k]?=w.heap[k]?:=λk l=>by
    unfold World.setRow;rw[yh,k4 λh=>l h.symm]
   refine .zip ⟨by rw[S,a,O,r];exact F.1,λk l E=>?_⟩;have i:k≠b:=by have:=U.1;omega
   rw[T k i,a,Q k i,r];exact F.2 k l E
theorem KS(s:ByteArray)(h:hY)(b:s.size<=2^31):aj xT 102 #[xM s] h λv h'=>v=xM s/\Sp h h' []:=by refine ts Tryz.func102 ?_;refine(PK s h b).G7 λc a=>⟨_,m9,m9,a⟩
def kN(m:aB)(a:Int)(w:Pow):List ByteArray:=if gy w a then[]else m.objs.map Qw.cZ.name
section
variable {pw:fY}
theorem TM(x:bc)(q:bF m=true)(H:aa B h0 h (aJ bP a pw (aD x) offs da w ds::bo x m::As)):
  aj xT 36 #[xL (dB a)] h λv h'=>∃r:Sl,v=r/\Sp h h' [ai 9 r 1 pz (kN m offs w)]:=by
 refine lT (dB a) ?_;refine(oD H).mono ?_;rintro _ k ⟨rfl,rfl⟩;refine⟨_,m9,aS (λe=>?_) λJ=>?_⟩
 .have:kN m offs w=[]:=by unfold kN;rw[hZ e]
  rw[this];exact⟨⟨eH,0,0⟩,m9,(Sp.refl k).nil 9 1 pz⟩
 have D:kN m offs w=m.objs.map Qw.cZ.name:=by unfold kN;rw[k4 (by rw[J];decide)]
 rw[D];have z:=(aa.cF H).2;have s:cv k x m:=H.at 1 m9;have G:=((cM m).1 q).2.2.2.1;obtain⟨P,F⟩:=ce.fix s.objs;have u:=F.2.1;have y:=F.1.len;refine⟨a,m9,x.2.2.2.2.2.2.2,z.cell m9,?_⟩;refine ak (λt:Sl×Nat=>(t.1,(t.2:Int))) (λt h'=>t.2<=m8 m.objs/\Sp k h' [ai 9 t.1 1 pz ((m.objs.map Qw.cZ.name).take t.2)]) (λt=>m8 m.objs-t.2) (⟨eH,0,0⟩,0) m9 ⟨n4,by simpa using(Sp.refl k).nil 9 1 pz⟩ ?_;rintro⟨o,i⟩ T ⟨M,d⟩;dsimp only at M d⊢;refine ae (λe=>?_) λe=>?_
 .have c:i<m8 m.objs:=nb
  have b:=Fix.row F c;obtain⟨E,l⟩:=HF (m.objs[i])
  have n:E∈m.objs:=by rw[l];exact qe c
  obtain⟨xe,f⟩:=HF (P[i]'nb)
  rw[<-l,<-f]at b;have j:xe.1=E.name:=b.1.1;have Q:E.name.size<=12:=by have:=((iT m E).1 (((cM m).1 q).2.2.2.2.1 E n)).1;unfold gU at this;simp at this;omega
  refine(Seq.up F.1 d.ac).cQ (g:=bf) i m9 nb xe (by rw[f]) ?_;refine d.alloc ag m9 λS h3 K=>?_;refine K.storeAll ag 1 m9 m9 (bf xe) m9 m9 m9 m9 λO p=>?_;refine⟨xe.1,(p.box 1 m9).cell0 m9,(KS xe.1 O (by rw[j];omega)).G7 λR I=>?_⟩;have N:=(p.up I.ac).bs [0];refine⟨_,m9,N.push ag 0 m9 Za m9 nq (λ_=>rfl) QZ xe.1 m9 nq n2 λA U L=>?_⟩;refine⟨(A,i+1),n3,⟨n1,?_⟩,n1⟩
  try dsimp only
  rw[aA _ _ (show i<(m.objs.map Qw.cZ.name).length by simpa using c),List.getElem_map,<-l,<-j];exact L
 .rw[List.take_of_length_le (by rw[List.length_map];omega)]at d;exact⟨o,m9,d⟩
theorem NO(b:bF m=true)(H:aa B h0 h (fv a pw da offs w ds m::As)):
  aj xT 36 #[xL (dB a)] h λv h'=>∃r:Sl,v=r/\Sp h h' [ai 9 r 1 pz (kN m offs w)]:=by
 obtain⟨x,H⟩:=fP H;exact TM x b H
end
variable {L:List bx}
section
variable {pw b:fY}
end
variable {X:HP}
section
variable {L:List HP} {k:Kit} {pw b:fY} {d:bu} {n:Nat}
structure aeR (da:List bx) (ds:aG):Prop where
 len:m8 da=m8 ds
 same:∀i:Nat,(da.getD i eH).isSome=(ds.getD i eH).isSome
end
variable {t t2 eb by_:Nat} {l2:List α} {pre post:aR}
section
variable {C:Ctx} {ty:Nat} {z:aR} {p:ar} {v:Sl} {f:α->aR} {l:List α}
end
section
variable {pw:fY} {d:bu}
theorem abn:∀x,∀c∈BY x,c.oneCell'=true:=by intro x c a;simp only[BY,List.mem_singleton]at a;subst a;rfl
theorem TN(c:aR)(pw:fY)(a:Int)(b:List bx):cP c pw a b=(c++[xL (dB pw),xJ xP a])++b.flatMap BY++[]:=by
 have:b.flatMap BY=b.map .pointer:=by induction b<;>simp_all [BY]
 simp[cP,this]
theorem adz:bO C.toAA 66 64 1 [xL eH] 8:=⟨⟨_,_,m9,m9,m9,m9,m9,m9⟩⟩
end
section
variable {pw:fY} {d:bu} {n:Nat}
end
section
variable {pw:fY}
end
structure afk (m:aB) (d:bu):Prop where
 lost:d.lost=false
 room:d.room=90
 len:m8 d.l<=40
 few:(aee d.l).length<20
section
variable {d e f:bu}
structure GrD (m:aB) (d e:bu):Prop where
 lost:e.lost=d.lost
 room:e.room=d.room
 pg:∀c∈e.l,DN c≠eH->c∈d.l∨c∈bG m
 whole:(∀c∈bG m,c∈d.l)->∀c∈bG m,c∈e.l
 q:d.laid=[]/\d.has=false->e.laid=[]/\e.has=false
structure GrS (T:bu->bu->Prop) (ds ds':aG):Prop where
 len:m8 ds'=m8 ds
 at_:∀k d,bX ds k=dB d->∃e,bX ds' k=dB e/\T d e
 no:∀k,bX ds k=eH->bX ds' k=eH
variable {T:bu->bu->Prop}
end
section
variable {n:aB} {C:Int->aT} {d e f:bu}
structure Os (i:Nat) (p:Pm) (m:aB) (C:Int->aT) (ds:aG):Prop where
 wt:Wt False i p m ds
 sto:NH m C ds
 full:Full m C ds
 ne:m.drives≠[]
structure ClD (m:aB) (d e:bu):Prop where
 lost:e.lost=d.lost
 room:e.room=d.room
 l:e.l=d.l∨e.l=gz m d.l
end
section
variable {n:aB} {C:Int->aT} {d e:bu}
def Qt(d:bu):Prop:=d.wait=0/\d.laid=[]/\d.has=false
structure Ab (i:Nat) (p:Pm) (m:aB) (C:Int->aT) (ds:aG):Prop where
 os:Os i p m C ds
 q:∀k d,bX ds k=dB d->Qt d
end
section
variable {pw b:fY}
end
theorem TO(H:aa B h0 h (ee 107 a w::As)):aj xT 29 #[xL (dB a)] h λv h'=>v=.tuple #[]/\aa B h0 h' (ee 107 a w.again::As):=by
 obtain⟨l,g,d⟩:=H.iV;refine ts Tryz.func29 ?_;refine aS (λ_=>?_) λe=>n5
 refine⟨a,m9,d.gO ag 0 m9 m9 [xN false] m9 m9 m9 n4 λi b=>?_⟩;refine⟨a,m9,b.store ag 0 m9 m9 1 [xN false] m9 m9 m9 t6 λh3 c=>?_⟩;refine⟨a,m9,c.store ag 0 m9 m9 2 [xJ xP 0] m9 m9 m9 t6 λj f=>⟨m9,?_⟩⟩;exact aa.kV (w:=w.again) (l:=0) (λk e=>n5) f
section
variable {pw:fY}
end
def abo(l:List cZ):List (Int×Int×Int):=l.flatMap λe=>(List.range e.tries.length).map λi:Nat=>(e.object,(i:Int),fx e.object i (e.tries.getD i 0))
variable {D:aG} {xb xs:bc}
section
variable {pw b:fY}
end
end Go.Qw
