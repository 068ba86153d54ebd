/- Lemmas for the proof of the law; no condition. -/
import Derived.Test.YtodpiocopjpjpaaGreatDoorKE
import Derived.Lib.BufferWrite
import Derived.Lib.UnsafeStr
set_option maxHeartbeats 2000000
set_option linter.unusedVariables false
set_option maxHeartbeats 4000000
set_option linter.unusedSimpArgs false
open Go.Proofs.Tryz renaming prog -> kg
open Go.Value renaming agg -> xZ, bool -> xY, int -> xU, pointer -> xW, string -> xX
open Go.IntKind renaming i64 -> ka, u32 -> ke, u64 -> kf, u8 -> kb, wrap -> qd
open List renaming flatten_cons -> xh, length_replicate -> yt, range -> qn, replicate -> qf
set_option maxRecDepth 100000
open Option renaming some -> dB, none -> eH
open Bool renaming true -> eS, false -> eX
open Go renaming Addr -> f7
open Go.Qw renaming Heap -> f9
open List renaming length -> i4
open Go.Qw.cO renaming two -> u9, n -> v6, inn -> v7, loop -> ws, join -> xa, tn -> xc, lp -> x0, jn -> x6
namespace Go.Qw
open Go.Proofs
variable {B:aw} {h0 h:f9} {As:List HP} {a b:f7} {offs:Int} {da:List bL} {w:Pow} {ds:aD} {m:au} {q:bL}
section
variable {pw:f7}
theorem Kw(y:pD)(i:y.1=1)(c:aL)(l:St B h0 As λh=>Rd h y.2.2.1 1 aB c)(j:y.2.2.1.len<=y.2.2.1.cap)(r:y.2.1.size<=2^40)(o:bh m=eS)(f:i4 c<=2^20)(H:aa B h0 h (bo a pw da offs w ds m::ak b 64 (dm q (dB a))::As)):
  ai kg 8 #[xW (dB b),mX y] h λv h'=>v=nw (de (dv m offs w ds y.2.1 c).1)/\
   aa B h0 h' (bo a pw da offs (dv m offs w ds y.2.1 c).2.2.1 (dv m offs w ds y.2.1 c).2.2.2 (dv m offs w ds y.2.1 c).2.1::ak b 64 (dm q (dB a))::As):=by
 refine ts Tryz.func8 ?_ (xc (xc (u9 (xa [] [(8,101)] (xc (v7 (x6 [(11,lj)] [(11,17)] v6)))) v6))) (args:=[(dB b),y]);refine H.boxed λp z g=>?_;have g:=g.aZ;refine g.alloc ag i5 λt x d=>aP (λe=>j3) λ_=>aJ ?_;have d:=d.aZ.aI 4 [2,3,1,0];refine⟨y.1,(d.box 2 i5).cell0 i5,aJ (aY (λ_=>?_) λe=>absurd i e)⟩;refine aP (λ_=>?_) λe=>by rw[i]at e;cases e
 refine⟨y,(d.box 2 i5).aE _ i5,(Rh y i c (As:=ak p 37 (mvG y)::ak t 44 (fI (de 0))::As) l.cons.cons j r o f d).x8 λh3 s=>?_⟩;refine⟨de (dv m offs w ds y.2.1 c).1,i5,s.storeAll ag 3 i5 i5 (fI (de (dv m offs w ds y.2.1 c).1)) i5 i5 i5 i5 λu k=>?_⟩;exact⟨de (dv m offs w ds y.2.1 c).1,(k.box 3 i5).aE _ i5,i5,k.aI 4 [0,1]⟩
theorem Tz(y:pD)(d:y.1=5)(i:bh m=eS)(H:aa B h0 h (bo a pw da offs w ds m::ak b 64 (dm q (dB a))::As)):
  ai kg 8 #[xW (dB b),mX y] h λv h'=>∃t:Sl,v=nw ((gZ m offs w ds y.2.1).2,cZ,cZ,(gZ m offs w ds y.2.1).1.1,(gZ m offs w ds y.2.1).1.2.1,(gZ m offs w ds y.2.1).1.2.2,t,0)/\Sp h h' []:=by
 refine ts Tryz.func8 ?_ (xc (xc (u9 (xa [] [(8,101)] (xc (v7 (x6 [(11,lj)] [(11,17)] v6)))) v6))) (args:=[(dB b),y]);refine(Sp.refl h).boxed λp r k=>?_;refine k.alloc ag i5 λs o c=>aP (λe=>j3) λ_=>aJ ?_;refine⟨y.1,(c.box 0 i5).cell0 i5,aJ ?_⟩;rw[d];refine aY (λe=>absurd e i7) λ_=>aY (λe=>absurd e i7) λ_=>aY (λe=>absurd e i7) λ_=>aY (λe=>absurd e i7) λ_=>?_;refine aP (λ_=>?_) λe=>j3
 refine⟨y,(c.box 0 i5).aE _ i5,(NJ y d i (H.up c.ac)).y0 λt h3 j=>?_⟩;obtain⟨Y,f⟩:∃Y:oY,Y=((gZ m offs w ds y.2.1).2,cZ,cZ,(gZ m offs w ds y.2.1).1.1,(gZ m offs w ds y.2.1).1.2.1,(gZ m offs w ds y.2.1).1.2.2,t,0):=⟨_,rfl⟩
 rw[<-f];refine⟨Y,i5,(c.up j.ac).storeAll ag 1 i5 i5 (fI Y) i5 i5 i5 i5 λl g=>?_⟩;exact⟨Y,(g.box 1 i5).aE _ i5,t,by rw[<-f],.zip g.ac⟩
theorem Ge(p:Pm)(extra:Int)(s:Sl)(l:av)(d:St B h0 As λh=>Rd h s 1 az l)(k:i4 l<=64)(i:sq p extra l=0)(H:aa B h0 h As):
  ai kg 14 #[ir p,xU ka extra,s] h λv h'=>∃(b a pw:f7) (da:List bL) (D:aD),v=.tuple #[xW (dB b),xU ka 0]/\D.length=64/\
   (∀s,aT D s=if s∈bz l l.length then dB ⟨(l.getD s.toNat 0).toNat,ba (cV p extra l),0,[],eX,eX⟩else eH)/\aa B h0 h' (bo a pw da 0 Pow.new D (cV p extra l)::ak b 64 (dm (dB pw) (dB a))::As):=by
 obtain⟨D,g,f,j⟩:=Zy (p:=p) (extra:=extra) (l:=l) k i;refine(aaT p extra s l d i6 H).mono ?_;rintro _ h' ⟨_,c⟩;rw[g]at c;obtain⟨b,a,pw,y,da,rfl,e⟩:=c rfl;exact⟨b,a,pw,da,D,i5,f,j,jb (e.aI 3 [1,2,0])⟩
end
theorem TA(s:ByteArray)(h:f9)(hs:s.size<=2^31):ai kg 169 #[xX s] h λv h'=>v=xX s/\Sp h h' []:=by
 refine ts Tryz.func169 ?_;refine aY (λe=>?_) λe=>?_
 .have A:s.size=0:=i6
  have:s=⟨#[]⟩:=by
   cases s with
   |mk d=>
    have:d=#[]:=Array.eq_empty_of_size_eq_zero A;rw[this]
  rw[this];exact⟨i5,Sp.refl h⟩
 .refine(Sp.refl h).Jb ag aB gm i7 0 i5 i5 s.size s.size i5 i5 (qi _) i6 λz h1 O F Q=>?_;obtain⟨I,u⟩:=Sp.fresh Q 0 rfl;have hl:=I.len;rw[yt]at hl;rcases I.head with⟨p1,p2,p3⟩|⟨b,rest,p1,p2,p3,p4⟩
  .exfalso;have:=congrArg List.length p3;rw[yt,List.length_nil]at this;omega
  have X:=u b ⟨0,p1⟩;have a:i4 s.data.toList=s.size:=by rw[Array.length_toList];rfl
  obtain⟨M,H⟩:∃M:Array Value,M=((qf s.size (0:UInt8)).flatMap aB++rest).toArray:=⟨_,rfl⟩
  rw[<-H]at p2;have N:s.size<=M.size:=by rw[H];simp[dX (f:=aB) (k:=1) λ_=>rfl]
  obtain⟨Y,J⟩:∃Y:Array Value,Y=(M.toList.take 0++Lib.byteCells s.data.toList++M.toList.drop (0+s.size)).toArray:=⟨_,rfl⟩
  rw[p1];intro w y;have G:w.heap[b]?=dB (.cells M 5 (0,0)):=by rw[y];exact p2
  have o:=Lib.run_copy_row_string (P:=kg) w 34 9 3 5 b 0 z.len z.cap s M 5 k8 k8 G i6 i6;rw[<-J]at o;have B:(w.setRow b Y).heap[b]?=dB (.cells Y 5 (0,0)):=setRow_heap _ _ M _ 5 (0,0) G;refine⟨_,_,o,⟨i5,i5,i5,qi _⟩,(s.size:Int),i5,⟨b,0,eH⟩,⟨(by first|exact p1|rfl),i7,i6⟩,?_⟩;intro q c;have i:Y.toList=Lib.byteCells s.data.toList++M.toList.drop s.size:=by rw[J];simp
  have r:i4 (Lib.byteCells s.data.toList)=s.size:=by rw[Lib.byteCells_length,a]
  have R:s.size<=Y.size:=by rw[<-Array.length_toList,i,List.length_append,r];omega
  have p:q.heap[b]?=dB (.cells Y 5 (0,0)):=by rw[c];exact B
  have t:s.data.toList≠[]:=λA=>by rw[A]at a;simp at a;omega
  have D:=Lib.run_unsafeString_row (P:=kg) q 300 3 9 5 k8 k8 b Y.size (by unfold World.shape?;rw[p]) s.data.toList t i6 i6 (λj x K=>by
   have hj:j<s.size:=by have:=(List.getElem?_eq_some_iff.1 K).1;omega
   have U:Y[j]?=dB (xU kb (x.toNat:Int)):=by rw[<-Array.getElem?_toList,i,qq i6];unfold Lib.byteCells;rw[qR,K];rfl
   have L:((⟨b,0,eH⟩:f7).add j)=⟨b,j,eH⟩:=by unfold Addr.add;split<;>simp_all
   rw[L];unfold World.cell?;simp only[p,U];rfl)
  have W:((z.len:Nat):Int)=(i4 s.data.toList:Int):=i6
  have S:∀(g:World) (n:Nat),(g.freeze ⟨b,0,eH⟩ n).heap.size=g.heap.size/\(∀k,k≠b->(g.freeze ⟨b,0,eH⟩ n).heap[k]?=g.heap[k]?)/\dC g (g.freeze ⟨b,0,eH⟩ n):=λg n=>by
   unfold World.freeze;split
   .exact⟨i5,λ_ _=>rfl,dC.refl _⟩
   .refine⟨js,λk m=>?_,⟨i5,i5,i5,qi _⟩⟩;rw[ym,g9 λh=>m h.symm]
  obtain⟨Z,T,f3⟩:=S q s.data.toList.length;refine⟨xX ⟨s.data.toList.toArray⟩,q.freeze ⟨b,0,eH⟩ s.data.toList.length,?_,f3,⟨s.data.toList.toArray⟩,i5,js,?_⟩
  .rw[W];exact D
  .have V:(w.setRow b Y).heap.size=w.heap.size:=by unfold World.setRow;simp
   have s2:∀k,k≠b->(w.setRow b Y).heap[k]?=w.heap[k]?:=λk m=>by
    unfold World.setRow;rw[ym,g9 λh=>m h.symm]
   refine .zip ⟨by rw[Z,c,V,y];exact F.1,λk m E=>?_⟩;have l:k≠b:=by have:=X.1;omega
   rw[T k l,c,s2 k l,y];exact F.2 k m E
theorem NK(s:ByteArray)(h:f9)(b:s.size<=2^31):ai kg 106 #[xX s] h λv h'=>v=xX s/\Sp h h' []:=by refine ts Tryz.func106 ?_;refine(TA s h b).x8 λc a=>⟨_,i5,i5,a⟩
def oK(m:au)(offs:Int)(w:Pow):List ByteArray:=if cF w offs then[]else m.aA.map Qw.bU.name
section
variable {pw:f7}
theorem Xs(x:bw)(q:bh m=eS)(H:aa B h0 h (bc bi a pw (aV x) offs da w ds::bJ x m::As)):
  ai kg 42 #[xW (dB a)] h λv h'=>∃r:Sl,v=r/\Sp h h' [aq 9 r 1 ui (oK m offs w)]:=by
 refine ts Tryz.func42 ?_ (xc (xc (xc (x0 [(3,cE),(14,aR)] [(3,4),(5,6),(14,25)]))));refine(py H).mono ?_;rintro _ k ⟨rfl,rfl⟩;refine⟨_,i5,aP (λe=>?_) λP=>?_⟩
 .have:oK m offs w=[]:=by unfold oK;rw[g0 e]
  rw[this];exact⟨⟨eH,0,0⟩,i5,(Sp.refl k).nil 9 1 ui⟩
 have A:oK m offs w=m.aA.map Qw.bU.name:=by unfold oK;rw[g9 (by rw[P];decide)]
 rw[A];have K:=(aa.cj H).2;have N:cN k x m:=H.at 1 i5;have L:=((bG m).1 q).2.2.2.1;obtain⟨I,F⟩:=bM.fix N.aA;have O:=F.2.1;have M:=F.1.len;refine⟨a,i5,x.2.2.2.2.2.2.2,K.cell i5,?_⟩;refine an (λt:Sl×Nat=>(t.1,(t.2:Int))) (λt h'=>t.2<=i4 m.aA/\Sp k h' [aq 9 t.1 1 ui ((m.aA.map Qw.bU.name).take t.2)]) (λt=>i4 m.aA-t.2) (⟨eH,0,0⟩,0) i5 ⟨js,by simpa using(Sp.refl k).nil 9 1 ui⟩ ?_;rintro⟨o,i⟩ T ⟨Q,f⟩;dsimp only at Q f⊢;refine ae (λe=>?_) λe=>?_
 .have c:i<i4 m.aA:=i6
  have b:=Fix.row F c;obtain⟨E,p⟩:=z6 (m.aA[i])
  have l:E∈m.aA:=by rw[p];exact qe c
  obtain⟨xe,j⟩:=z6 (I[i]'i6)
  rw[<-p,<-j]at b;have d:xe.1=E.name:=b.1.1;have R:E.name.size<=12:=by have:=((gb m E).1 (((bG m).1 q).2.2.2.2.1 E l)).1;unfold kW at this;simp at this;omega
  refine(Seq.up F.1 f.ac).dO (g:=bW) i i5 i6 xe (by rw[j]) ?_;refine f.alloc ag i5 λU h3 G=>?_;refine G.storeAll ag 1 i5 i5 (bW xe) i5 i5 i5 i5 λu s=>?_;refine⟨xe.1,(s.box 1 i5).cell0 i5,(NK xe.1 u t8).x8 λS J=>?_⟩;have D:=(s.up J.ac).bO [0];refine⟨_,i5,D.push ag 0 i5 aiq i5 i7 (λ_=>rfl) agb xe.1 i5 i7 jj λy V z=>?_⟩;refine⟨(y,i+1),j0,⟨i9,?_⟩,i9⟩
  try dsimp only
  rw[aG _ _ (show i<i4 (m.aA.map Qw.bU.name) by simpa using c),List.getElem_map,<-p,<-d];exact z
 .rw[qh nq]at f;exact⟨o,i5,f⟩
theorem adD(b:bh m=eS)(H:aa B h0 h (bo a pw da offs w ds m::As)):
  ai kg 42 #[xW (dB a)] h λv h'=>∃r:Sl,v=r/\Sp h h' [aq 9 r 1 ui (oK m offs w)]:=by
 obtain⟨x,H⟩:=fg H;exact Xs x b H
end
theorem agm{B:aw}{h0 h:f9}{As:List HP}{a pw:f7}{offs:Int}{g:List bL}{w:Pow}{ds:aD}{m:au}(name:ByteArray)(e:bh m=eS)(H:aa B h0 h (bo a pw g offs w ds m::As)):
  ai kg 40 #[xW (dB a),xX name] h λv h'=>∃r:Sl,v=.tuple #[r,xU ka (iI m offs w ds name).2]/\Sp h h' [EA (cG 1 aB) r (iI m offs w ds name).1]:=by
 have c:=(lY H).2;obtain⟨x,f⟩:=fg H;exact adw x name e (λk d b=>qM (c k d b).1 (c k d b).2.1) f
variable {L:List bL}
section
variable {pw:f7}
theorem Ri(y:pD)(s:y.1=2)(k:bh m=eS)(H:aa B h0 h (bo a pw da offs w ds m::ak b 64 (GN q (dB a) L)::As)):
  ai kg 17 #[xW (dB b),mX y] h λv h'=>∃r:Sl,v=nw ((iI m offs w ds y.2.1).2,r,cZ,0,0,0,cZ,0)/\Sp h h' [EA (cG 1 aB) r (iI m offs w ds y.2.1).1]:=by
 refine ts Tryz.func17 ?_ (xc (x6 [] [(5,78)] v6)) (args:=[(dB b),y]);have c:=H.box 1 i5;refine(Sp.refl h).boxed λG I o=>?_;refine o.alloc ag i5 λu F d=>?_;have f:=c.ac d.ac c.lt;obtain⟨E,g⟩:=z6 (iI m offs w ds y.2.1)
 refine bF (λ_ h'=>∃r:Sl,Sp h h' [ak u 44 (fI (E.2,r,cZ,0,0,0,cZ,0)),EA (cG 1 aB) r E.1]) ?_ ?_
 .refine⟨y.1,(d.box 0 i5).cell0 i5,?_⟩;rw[s];refine aY (λe=>absurd e i7) λ_=>aY (λ_=>?_) λe=>absurd i5 e;refine⟨b,i5,dB a,f.cell i5,y.2.1,(d.box 0 i5).cell i5,(agm y.2.1 k (H.up d.ac)).mono ?_⟩;rw[<-g];rintro _ h3 ⟨r,rfl,l⟩;have t:=d.comp l;refine⟨(r,E.2),i5,A0,?_⟩;refine t.store ag 1 i5 i5 1 [r] i5 i5 i5 js λA x=>⟨A0,?_⟩
  refine x.fM ag 1 i5 i5 [xU ka E.2] i5 i5 i5 js λz p=>⟨A0,r,?_⟩
  exact p.bO [1,2]
 .rintro _ D ⟨r,j⟩;refine⟨(E.2,r,cZ,0,0,0,cZ,0),(j.box 0 i5).aE _ i5,j.storeAll ag 0 i5 i5 (fI (E.2,r,cZ,0,0,0,cZ,0)) i5 i5 i5 i5 λJ i=>?_⟩;exact⟨(E.2,r,cZ,0,0,0,cZ,0),(i.box 0 i5).aE _ i5,r,by rw[<-g],by rw[<-g];exact i.bO [1]⟩
theorem Kx(y:pD)(d:y.1=2)(i:bh m=eS)(H:aa B h0 h (bo a pw da offs w ds m::ak b 64 (GN q (dB a) L)::As)):
  ai kg 8 #[xW (dB b),mX y] h λv h'=>∃r:Sl,v=nw ((iI m offs w ds y.2.1).2,r,cZ,0,0,0,cZ,0)/\Sp h h' [EA (cG 1 aB) r (iI m offs w ds y.2.1).1]:=by
 refine ts Tryz.func8 ?_ (xc (xc (u9 (xa [] [(8,101)] (xc (v7 (x6 [(11,lj)] [(11,17)] v6)))) v6))) (args:=[(dB b),y]);refine(Sp.refl h).boxed λs t k=>?_;refine k.alloc ag i5 λu p c=>aP (λe=>j3) λ_=>aJ ?_;refine⟨y.1,(c.box 0 i5).cell0 i5,aJ ?_⟩;rw[d];refine aY (λe=>absurd e i7) λ_=>aY (λ_=>?_) λe=>absurd i5 e;refine aP (λ_=>?_) λe=>j3
 refine⟨y,(c.box 0 i5).aE _ i5,(Ri y d i (H.up c.ac)).mono ?_⟩;obtain⟨E,l⟩:=z6 (iI m offs w ds y.2.1)
 rw[<-l];rintro _ h3 ⟨r,rfl,j⟩;obtain⟨Y,f⟩:∃Y:oY,Y=(E.2,r,cZ,0,0,0,cZ,0):=⟨_,rfl⟩
 rw[<-f];refine⟨Y,i5,(c.comp j).storeAll ag 1 i5 i5 (fI Y) i5 i5 i5 i5 λo g=>?_⟩;exact⟨Y,(g.box 1 i5).aE _ i5,r,by rw[<-f],g.bO [2]⟩
end
variable {X:HP} {k:Kit} {d:be} {n:Nat}
section
variable {L:List HP} {pw:f7}
structure ajS (da:List bL) (ds:aD):Prop where
 len:i4 da=i4 ds
 same:∀i:Nat,(da.getD i eH).isSome=(ds.getD i eH).isSome
end
variable {t t2 e eb:Nat} {z:aW} {by_:Nat} {α:Type} {p:aw} {v:Sl} {f:α->aW} {l l2:List α} {pre post:aW}
section
variable {C:Ctx} {ty k:Nat}
end
section
variable {pw:f7}
end
section
variable {pw:f7}
end
section
variable {pw:f7}
end
structure ake (m:au) (d:be):Prop where
 lost:d.lost=eX
 room:d.room=90
 len:i4 d.l<=40
 Nm:i4 (ajb d.l)<20
variable {M:Int->au}
variable {ds':aD}
section
variable {e f:be}
structure GrD (m:au) (d e:be):Prop where
 lost:e.lost=d.lost
 room:e.room=d.room
 pg:∀c∈e.l,mL c≠eH->c∈d.l∨c∈ba m
 whole:(∀c∈ba m,c∈d.l)->∀c∈ba m,c∈e.l
 q:d.laid=[]/\d.has=eX->e.laid=[]/\e.has=eX
structure GrS (T:be->be->Prop) (ds ds':aD):Prop where
 len:i4 ds'=i4 ds
 at_:∀k d,aT ds k=dB d->∃e,aT ds' k=dB e/\T d e
 no:∀k,aT ds k=eH->aT ds' k=eH
variable {T:be->be->Prop}
end
variable {i:Nat}
section
variable {p:Pm} {n:au} {C:Int->aL} {e f:be}
structure Os (i:Nat) (p:Pm) (m:au) (C:Int->aL) (ds:aD):Prop where
 wt:Wt False i p m ds
 sto:eU m C ds
 full:Full m C ds
 ne:m.drives≠[]
structure ClD (m:au) (d e:be):Prop where
 lost:e.lost=d.lost
 room:e.room=d.room
 l:e.l=d.l∨e.l=cz m d.l
end
section
variable {p:Pm} {n:au} {C:Int->aL} {e:be}
def Qt(d:be):Prop:=d.wait=0/\d.laid=[]/\d.has=eX
structure Ab (i:Nat) (p:Pm) (m:au) (C:Int->aL) (ds:aD):Prop where
 os:Os i p m C ds
 q:∀k d,aT ds k=dB d->Qt d
end
section
variable {pw:f7}
theorem Rj(y:pD)(l:y.1=3)(j:bh m=eS)(H:aa B h0 h (bo a pw da offs w ds m::ak b 64 (dm q (dB a))::As)):
  ai kg 17 #[xW (dB b),mX y] h λv h'=>v=nw (de (dw m offs w ds y.2.1).1)/\
   aa B h0 h' (bo a pw da offs (dw m offs w ds y.2.1).2.2.1 (dw m offs w ds y.2.1).2.2.2 (dw m offs w ds y.2.1).2.1::ak b 64 (dm q (dB a))::As):=by
 refine ts Tryz.func17 ?_ (xc (x6 [] [(5,78)] v6)) (args:=[(dB b),y]);refine H.boxed λz A d=>?_;have d:=d.aZ;refine d.alloc ag i5 λp x c=>?_;have c:=c.aZ;obtain⟨R,i⟩:=z6 (dw m offs w ds y.2.1)
 rw[<-i];refine bF (λ_ h'=>aa B h0 h' (ak p 44 (fI (de R.1))::bo a pw da offs R.2.2.1 R.2.2.2 R.2.1::ak b 64 (dm q (dB a))::As)) ?_ ?_
 .refine⟨y.1,(c.box 1 i5).cell0 i5,?_⟩;rw[l];refine aY (λe=>absurd e i7) λ_=>aY (λe=>absurd e i7) λ_=>aY (λ_=>?_) λe=>absurd i5 e;refine⟨b,i5,dB a,(c.box 3 i5).cell i5,y.2.1,(c.box 1 i5).cell i5,?_⟩;have o:=c.aI 4 [2,0,3];refine(Xa y.2.1 j o).mono ?_;rw[<-i];rintro _ t ⟨rfl,r⟩;refine⟨_,i5,A0,r.fM ag 1 i5 i5 [xU ka R.1] i5 i5 i5 js λs k=>⟨A0,?_⟩⟩;exact k.aI 3 [1,0,2]
 .rintro _ u g;refine⟨de R.1,(g.box 0 i5).aE _ i5,g.storeAll ag 0 i5 i5 (fI (de R.1)) i5 i5 i5 i5 λD f=>?_⟩;exact⟨de R.1,(f.box 0 i5).aE _ i5,i5,f.rest⟩
theorem Xt(y:pD)(f:y.1=3)(i:bh m=eS)(H:aa B h0 h (bo a pw da offs w ds m::ak b 64 (dm q (dB a))::As)):
  ai kg 8 #[xW (dB b),mX y] h λv h'=>v=nw (de (dw m offs w ds y.2.1).1)/\
   aa B h0 h' (bo a pw da offs (dw m offs w ds y.2.1).2.2.1 (dw m offs w ds y.2.1).2.2.2 (dw m offs w ds y.2.1).2.1::ak b 64 (dm q (dB a))::As):=by
 refine ts Tryz.func8 ?_ (xc (xc (u9 (xa [] [(8,101)] (xc (v7 (x6 [(11,lj)] [(11,17)] v6)))) v6))) (args:=[(dB b),y]);refine H.boxed λp r d=>?_;have d:=d.aZ;refine d.alloc ag i5 λs o c=>aP (λe=>j3) λ_=>aJ ?_;have c:=c.aZ.aI 4 [2,3,1,0];refine⟨y.1,(c.box 2 i5).cell0 i5,aJ ?_⟩;rw[f];refine aY (λe=>absurd e i7) λ_=>aY (λe=>absurd e i7) λ_=>aY (λ_=>?_) λe=>absurd i5 e;refine aP (λ_=>?_) λe=>j3
 refine⟨y,(c.box 2 i5).aE _ i5,(Rj y f i c).mono ?_⟩;obtain⟨R,k⟩:=z6 (dw m offs w ds y.2.1)
 rw[<-k];rintro _ h3 ⟨rfl,j⟩;refine⟨de R.1,i5,j.storeAll ag 3 i5 i5 (fI (de R.1)) i5 i5 i5 i5 λl g=>?_⟩;exact⟨de R.1,(g.box 3 i5).aE _ i5,i5,g.aI 4 [0,1]⟩
theorem LG(y:pD)(s:y.1=4)(k:bh m=eS)(p:cF w offs=eX)(H:aa B h0 h (bo a pw da offs w ds m::ak b 64 (GN q (dB a) L)::As)):
  ai kg 17 #[xW (dB b),mX y] h λv h'=>∃r:Sl,v=nw (0,cZ,r,0,0,0,cZ,0)/\Sp h h' [aq 9 r 1 ui (oK m offs w)]:=by
 refine ts Tryz.func17 ?_ (xc (x6 [] [(5,78)] v6)) (args:=[(dB b),y]);have c:=H.box 1 i5;refine(Sp.refl h).boxed λA D o=>o.alloc ag i5 λE z f=>aJ ?_;refine⟨y.1,(f.box 0 i5).cell0 i5,?_⟩;rw[s];refine aY (λe=>absurd e i7) λ_=>aY (λe=>absurd e i7) λ_=>aY (λe=>absurd e i7) λ_=>aY (λ_=>?_) λe=>absurd i5 e;have i:=c.ac f.ac c.lt;refine⟨b,i5,dB a,i.cell i5,(adD k (H.up f.ac)).y0 λr h3 l=>?_⟩;have t:=f.comp l;refine⟨r,i5,?_⟩;refine t.store ag 1 i5 i5 2 [r] i5 i5 i5 js λx g=>?_;have d:=c.ac g.ac c.lt;refine⟨b,i5,dB a,d.cell i5,aP (λe=>j3) λ_=>⟨b,i5,dB a,d.cell i5,(It (H.up g.ac)).x7 ?_⟩⟩;refine⟨_,i5,aP (λe=>by rw[p]at e;cases e) λ_=>?_⟩;refine⟨(0,cZ,r,0,0,0,cZ,0),(g.box 1 i5).aE _ i5,g.storeAll ag 1 i5 i5 (fI (0,cZ,r,0,0,0,cZ,0)) i5 i5 i5 i5 λu j=>?_⟩;exact⟨(0,cZ,r,0,0,0,cZ,0),(j.box 1 i5).aE _ i5,r,i5,j.bO [2]⟩
theorem Gg(y:pD)(d:y.1=4)(i:bh m=eS)(l:cF w offs=eX)(H:aa B h0 h (bo a pw da offs w ds m::ak b 64 (GN q (dB a) L)::As)):
  ai kg 8 #[xW (dB b),mX y] h λv h'=>∃r:Sl,v=nw (0,cZ,r,0,0,0,cZ,0)/\Sp h h' [aq 9 r 1 ui (oK m offs w)]:=by
 refine ts Tryz.func8 ?_ (xc (xc (u9 (xa [] [(8,101)] (xc (v7 (x6 [(11,lj)] [(11,17)] v6)))) v6))) (args:=[(dB b),y]);refine(Sp.refl h).boxed λs t k=>k.alloc ag i5 λu p c=>aP (λe=>j3) λ_=>aJ ?_;refine⟨y.1,(c.box 0 i5).cell0 i5,aJ ?_⟩;rw[d];refine aY (λe=>absurd e i7) λ_=>aY (λe=>absurd e i7) λ_=>aY (λe=>absurd e i7) λ_=>aY (λ_=>?_) λe=>absurd i5 e;refine aP (λ_=>?_) λe=>j3
 refine⟨y,(c.box 0 i5).aE _ i5,(LG y d i l (H.up c.ac)).y0 λr h3 j=>?_⟩;obtain⟨Y,f⟩:∃Y:oY,Y=(0,cZ,r,0,0,0,cZ,0):=⟨_,rfl⟩
 rw[<-f];refine⟨Y,i5,(c.comp j).storeAll ag 1 i5 i5 (fI Y) i5 i5 i5 i5 λo g=>?_⟩;exact⟨Y,(g.box 1 i5).aE _ i5,r,by rw[<-f],g.bO [2]⟩
theorem Xu(y:pD)(k:y.1=6)(j:bh m=eS)(H:aa B h0 h (bo a pw da offs w ds m::ak b 64 (dm q (dB a))::As)):
  ai kg 8 #[xW (dB b),mX y] h λv h'=>v=nw (de (jL m offs w ds y.2.2.2.1 y.2.2.2.2.1).1)/\
   ∃c,aa B h0 h' (bo a pw c offs (jL m offs w ds y.2.2.2.1 y.2.2.2.2.1).2.2.1 (jL m offs w ds y.2.2.2.1 y.2.2.2.2.1).2.2.2 (jL m offs w ds y.2.2.2.1 y.2.2.2.2.1).2.1::ak b 64 (dm q (dB a))::As):=by
 refine ts Tryz.func8 ?_ (xc (xc (u9 (xa [] [(8,101)] (xc (v7 (x6 [(11,lj)] [(11,17)] v6)))) v6))) (args:=[(dB b),y]);obtain⟨R,o⟩:=z6 (jL m offs w ds y.2.2.2.1 y.2.2.2.2.1)
 refine H.boxed λt u f=>?_;have f:=f.aZ;refine f.alloc ag i5 λx s d=>aP (λe=>j3) λ_=>?_;have d:=d.aZ.aI 4 [2,3,1,0];refine aJ ⟨y.1,(d.box 2 i5).cell0 i5,aJ ?_⟩;rw[k];refine aY (λe=>absurd e i7) λ_=>aY (λe=>absurd e i7) λ_=>aY (λe=>absurd e i7) λ_=>aY (λe=>absurd e i7) λ_=>?_;refine aP (λe=>j3) λ_=>?_;refine aY (λ_=>?_) λe=>absurd i5 e;refine⟨b,i5,dB a,(d.box 1 i5).cell i5,y.2.2.2.1,(d.box 2 i5).cell i5,y.2.2.2.2.1,(d.box 2 i5).cell i5,(afN y.2.2.2.1 y.2.2.2.2.1 j d).mono ?_⟩;rw[<-o];rintro _ h3 ⟨rfl,c,l⟩;refine⟨R.1,i5,A0,l.fM ag 3 i5 i5 [xU ka R.1] i5 i5 i5 js λr i=>⟨A0,?_⟩⟩;refine⟨de R.1,(i.box 3 i5).aE (fI (de R.1)) i5,i.storeAll ag 3 i5 i5 (fI (de R.1)) i5 i5 i5 i5 λp g=>?_⟩;exact⟨de R.1,(g.box 3 i5).aE (fI (de R.1)) i5,i5,c,g.aI 4 [0,1]⟩
theorem Rl(y:pD)(l:y.1=10)(j:bh m=eS)(p:-(2^62)<=y.2.2.2.2.1/\y.2.2.2.2.1<=2^62)(H:aa B h0 h (bo a pw da offs w ds m::ak b 64 (dm q (dB a))::As)):
  ai kg 8 #[xW (dB b),mX y] h λv h'=>(∃Y:oY,v=nw Y)/\
   aa B h0 h' (bo a pw da offs (fR m offs w ds y.2.2.2.2.1 y.2.2.2.2.2.1).2.2.1 (fR m offs w ds y.2.2.2.2.1 y.2.2.2.2.2.1).2.2.2 m::ak b 64 (dm q (dB a))::As):=by
 refine ts Tryz.func8 ?_ (xc (xc (u9 (xa [] [(8,101)] (xc (v7 (x6 [(11,lj)] [(11,17)] v6)))) v6))) (args:=[(dB b),y]);obtain⟨R,s⟩:=z6 (fR m offs w ds y.2.2.2.2.1 y.2.2.2.2.2.1)
 refine H.boxed λD E d=>?_;have d:=d.aZ;refine d.alloc ag i5 λF A c=>aP (λe=>j3) λ_=>?_;have c:=c.aZ.aI 4 [2,3,1,0];refine aJ ⟨y.1,(c.box 2 i5).cell0 i5,aJ ?_⟩;rw[l];refine aY (λe=>absurd e i7) λ_=>aY (λe=>absurd e i7) λ_=>aY (λe=>absurd e i7) λ_=>aY (λe=>absurd e i7) λ_=>?_;refine aP (λe=>j3) λ_=>?_;refine aY (λe=>absurd e i7) λ_=>aY (λe=>absurd e i7) λ_=>aY (λe=>absurd e i7) λ_=>aY (λe=>absurd e i7) λ_=>aY (λ_=>?_) λe=>absurd i5 e;refine⟨b,i5,dB a,(c.box 1 i5).cell i5,y.2.2.2.2.1,(c.box 2 i5).cell i5,y.2.2.2.2.2.1,(c.box 2 i5).cell i5,(WX y.2.2.2.2.1 y.2.2.2.2.2.1 j p c).mono ?_⟩;rw[<-s];rintro _ h3 ⟨rfl,o⟩;obtain⟨k,f⟩:∃k:Int,k=(R.1:Nat):=⟨_,rfl⟩
 rw[<-f];refine⟨(k,R.2.1),i5,A0,?_⟩;refine o.store ag 3 i5 i5 7 [xU ka k] i5 i5 i5 js λx t=>⟨A0,?_⟩
 refine t.fM ag 3 i5 i5 [xU ka R.2.1] i5 i5 i5 js λu g=>⟨A0,?_⟩
 obtain⟨Y,r⟩:∃Y:oY,Y=(R.2.1,cZ,cZ,0,0,0,cZ,k):=⟨_,rfl⟩
 refine⟨Y,(g.box 3 i5).aE (fI Y) (by rw[r];rfl),g.storeAll ag 3 i5 i5 (fI Y) i5 i5 i5 i5 λz i=>?_⟩;exact⟨Y,(i.box 3 i5).aE (fI Y) i5,⟨Y,i5⟩,i.aI 4 [0,1]⟩
end
variable {h':f9}
section
variable {pw:f7}
end
def agn(l:List bU):List (Int×Int×Int):=l.flatMap λe=>(qn e.tries.length).map λi:Nat=>(e.object,(i:Int),cg e.object i (e.tries.getD i 0))
variable {D:aD} {xb xs:bw}
section
variable {pw:f7}
end
section
variable {pw:f7}
theorem aaU(slot cells:Int)(b:bh m=eS)(c:slot∉m.drives∨slot∈aK ds m.drives)(H:aa B h0 h (bo a pw da offs w ds m::As)):
  ai kg 20 #[xW (dB a),xU ka slot,xU ka cells] h λv h'=>(∃e:Int,v=xU ka e)/\Sp h h' []:=by
 obtain⟨x,H⟩:=fg H;exact(Qn slot cells x m (H.at 1 i5) (gI b) H (.inr (.inr c))).mono λ_ _ ⟨d,R⟩=>⟨⟨_,d⟩,R⟩
end
section
variable {pw:f7}
def aiA(ds ds':aD):Prop:=ds'=ds∨∃k d,aT ds k=dB d/\∃(j:Nat) (c:j<i4 d.l) (a b:Int),gg d.l[j]≠eH/\0<=a/\a<=60/\ds'=ck ds k (d.lK j a b)
theorem Rm(y:pD)(M:bh m=eS)(I:cF w offs=eX)(D:0<=y.2.2.2.2.2.1/\y.2.2.2.2.2.1<=60)(J:0<=y.2.2.2.2.2.2.1/\y.2.2.2.2.2.2.1<2^32)(Y:0<=y.2.2.2.2.1)
  (H:aa B h0 h (bo a pw da offs w ds m::ak b 64 (dm q (dB a))::As)):
  ai kg 23 #[xW (dB b),mX y] h λv h'=>∃(e:Int) (ds':aD),v=xU ka e/\aiA ds ds'/\
   aa B h0 h' (bo a pw da offs w ds' m::ak b 64 (dm q (dB a))::As):=by
 refine ts Tryz.func23 ?_ (xc (x6 [] [(4,5),(11,23)] (x6 [] [(4,5),(23,36)] (x0 [(42,aR)] [(4,5),(6,11),(42,76)])))) (args:=[(dB b),y]);refine H.boxed λW h1 g=>?_;have g:=g.aZ.aI 3 [1,2,0];have o:=g.box 1 i5;refine aJ ⟨b,i5,dB a,o.cell i5,aP (λe=>j3) λ_=>⟨b,i5,dB a,o.cell i5,(It g).x7 ?_⟩⟩;refine⟨_,i5,aP (λe=>by rw[I]at e;cases e) λ_=>aJ ?_⟩;have s:=g.box 2 i5;refine⟨_,s.cell i5,ae (λe=>absurd e (Int.not_lt.2 D.1)) λ_=>⟨_,s.cell i5,ae (λe=>absurd D.2 (Int.not_le.2 e)) λ_=>⟨_,s.cell i5,aY (λ_=>⟨1,ds,i5,.inl i5,g.aI 3 [0,1]⟩) λhz=>?_⟩⟩⟩;refine⟨b,i5,dB a,o.cell i5,(Iq M g).y0 λr h2 Q=>?_⟩;refine⟨r,i5,?_⟩;obtain⟨L,G⟩:=z6 (aK ds m.drives)
 rw[<-G]at Q;have H2:=g.bS Q;have ab:i4 L<=64:=by rw[G];exact qM (qE _ _) (gy M)
 refine an (λi:Nat=>(i:Int)) (λi h'=>i<=i4 L/\aa B h0 h' (aq 3 r 1 az L::bo a pw da offs w ds m::ak b 64 (dm q (dB a))::ak W 37 (mvG y)::As)) (λi=>i4 L-i) 0 i5 ⟨zj _,H2⟩ ?_;rintro i h3 ⟨hi,x⟩
 try dsimp only
 have T:=(x.own 0 i5).len;refine ae (λe=>?_) λe=>?_
 .have t:i<i4 L:=by have e':(i:Int)<(r.len:Int):=e;omega
  refine(x.seq 0 i5 λ_=>rfl).bm i i5 t L[i] i5 ?_;refine⟨y.2.2.2.1,(x.box 3 i5).cell i5,bH (λne=>?_) λeq=>?_⟩
  .exact⟨i+1,j4,⟨t,x⟩,i6⟩
  .rw[eq];have hl:y.2.2.2.1∈aK ds m.drives:=by rw[<-G,<-eq];exact qe t
   obtain⟨_,d,E,_⟩:=ge hl;have u:=x.aI 4 [1,2,3];refine⟨b,i5,dB a,(u.box 1 i5).cell i5,(Bq _ u).x7 ?_⟩;obtain⟨bd,k⟩:=GG E u;rw[k];obtain⟨s1,t1,S,q2,N⟩:=Is E k u;refine⟨_,i5,_,(u.box 2 i5).cell i5,?_⟩;obtain⟨j,O⟩:∃j:Nat,y.2.2.2.2.1=(j:Int):=⟨_,(Int.toNat_of_nonneg Y).symm⟩
   rw[O];refine(YL s1 t1 (j:Int) S q2 N.cell).y0 λP R z=>?_;rw[g0 i6,qj]at z;obtain⟨c,A⟩:=z6 (d.l.getD j [])
   rw[<-A]at z;have Z:i4 c<=64:=by
    by_cases f:j<i4 d.l
    .rw[A,gh [] f,N.cell _ (qe f)];decide
    .rw[A,qg,zd i6];decide
   refine⟨P,i5,(Jv P c R (z.seq 0 i5 λ_=>rfl) i6 (z.own 0 i5).cap).mono ?_⟩;rintro _ h6 ⟨Q0,X⟩;cases htc:gg c with
   |none=>
    obtain⟨rfl,K⟩:=Q0 htc;have F:=(u.up z.ac).up K.ac;refine⟨(0,⟨eH,0,0⟩,eX),i5,aX (λ_=>?_) λe=>j3⟩;exact⟨5,ds,i5,.inl i5,F.aI 3 [0,1]⟩
   |some kx=>
    obtain⟨U,rfl,K⟩:=X kx.1 kx.2 htc;have F:=(u.up z.ac).up K.ac;refine⟨(kx.1,U,eS),i5,aX (λe=>j3) λ_=>?_⟩;have f:j<i4 d.l:=by refine Decidable.byContradiction λhx=>?_;rw[A,qg,zd i6]at htc;cases htc
    have p:=F.box 2 i5;refine⟨y.2.2.2.2.1,p.cell i5,y.2.2.2.2.2.1,p.cell i5,y.2.2.2.2.2.2.1,p.cell i5,?_⟩;rw[O];refine(aaA (j:Int) y.2.2.2.2.2.1 y.2.2.2.2.2.2.1 J E k F).x8 λh7 V=>⟨_,i5,0,_,i5,.inr ⟨_,d,E,j,f,_,_,?_,D.1,D.2,i5⟩,V.aI 3 [0,1]⟩;rw[A,gh [] f]at htc;rw[htc];intro h;cases h
 .exact⟨5,ds,i5,.inl i5,x.aI 4 [1,2]⟩
theorem NL(y:pD)(p:y.1=11)(k:bh m=eS)(f:cF w offs=eX)(l:0<=y.2.2.2.2.2.1/\y.2.2.2.2.2.1<=60)(g:0<=y.2.2.2.2.2.2.1/\y.2.2.2.2.2.2.1<2^32)(o:0<=y.2.2.2.2.1)
  (H:aa B h0 h (bo a pw da offs w ds m::ak b 64 (dm q (dB a))::As)):
  ai kg 8 #[xW (dB b),mX y] h λv h'=>∃(Y:oY) (ds':aD),v=nw Y/\aiA ds ds'/\
   aa B h0 h' (bo a pw da offs w ds' m::ak b 64 (dm q (dB a))::As):=by
 refine ts Tryz.func8 ?_ (xc (xc (u9 (xa [] [(8,101)] (xc (v7 (x6 [(11,lj)] [(11,17)] v6)))) v6))) (args:=[(dB b),y]);refine H.boxed λz A d=>?_;have d:=d.aZ;refine d.alloc ag i5 λD x c=>aP (λe=>j3) λ_=>?_;have c:=c.aZ.aI 4 [2,3,1,0];refine aJ ⟨y.1,(c.box 2 i5).cell0 i5,aJ ?_⟩;rw[p];refine aY (λe=>absurd e i7) λ_=>aY (λe=>absurd e i7) λ_=>aY (λe=>absurd e i7) λ_=>aY (λe=>absurd e i7) λ_=>?_;refine aP (λe=>j3) λ_=>?_;refine aY (λe=>absurd e i7) λ_=>aY (λe=>absurd e i7) λ_=>aY (λe=>absurd e i7) λ_=>aY (λe=>absurd e i7) λ_=>aY (λe=>absurd e i7) λ_=>aY (λ_=>?_) λe=>absurd i5 e;refine⟨y,(c.box 2 i5).aE _ i5,(Rm y k f l g o c).mono ?_⟩;rintro _ h3 ⟨E,ds',rfl,s,r⟩;refine⟨E,i5,r.fM ag 3 i5 i5 [xU ka E] i5 i5 i5 js λu j=>?_⟩;refine⟨de E,(j.box 3 i5).aE (fI (de E)) i5,j.storeAll ag 3 i5 i5 (fI (de E)) i5 i5 i5 i5 λt i=>?_⟩;exact⟨de E,(i.box 3 i5).aE (fI (de E)) i5,de E,ds',i5,s,i.aI 4 [0,1]⟩
theorem TB(y:pD)(j:y.1=9)(i:bh m=eS)(H:aa B h0 h (bo a pw da offs w ds m::ak b 64 (dm q (dB a))::As)):
  ai kg 8 #[xW (dB b),mX y] h λv h'=>v=nw (de (oq m offs w ds y.2.2.2.1).1)/\
   aa B h0 h' (bo a pw da offs w (oq m offs w ds y.2.2.2.1).2 m::ak b 64 (dm q (dB a))::As):=by
 refine ts Tryz.func8 ?_ (xc (xc (u9 (xa [] [(8,101)] (xc (v7 (x6 [(11,lj)] [(11,17)] v6)))) v6))) (args:=[(dB b),y]);obtain⟨R,l⟩:=z6 (oq m offs w ds y.2.2.2.1)
 refine H.boxed λs t d=>?_;have d:=d.aZ;refine d.alloc ag i5 λu r c=>aP (λe=>j3) λ_=>?_;have c:=c.aZ.aI 4 [2,3,1,0];refine aJ ⟨y.1,(c.box 2 i5).cell0 i5,aJ ?_⟩;rw[j];refine aY (λe=>absurd e i7) λ_=>aY (λe=>absurd e i7) λ_=>aY (λe=>absurd e i7) λ_=>aY (λe=>absurd e i7) λ_=>?_;refine aP (λe=>j3) λ_=>?_;refine aY (λe=>absurd e i7) λ_=>aY (λe=>absurd e i7) λ_=>aY (λe=>absurd e i7) λ_=>aY (λ_=>?_) λe=>absurd i5 e;refine⟨b,i5,dB a,(c.box 1 i5).cell i5,y.2.2.2.1,(c.box 2 i5).cell i5,(adq y.2.2.2.1 i c).mono ?_⟩;rw[<-l];rintro _ h3 ⟨rfl,k⟩;refine⟨R.1,i5,A0,k.fM ag 3 i5 i5 [xU ka R.1] i5 i5 i5 js λp g=>⟨A0,?_⟩⟩;refine⟨de R.1,(g.box 3 i5).aE (fI (de R.1)) i5,g.storeAll ag 3 i5 i5 (fI (de R.1)) i5 i5 i5 i5 λo f=>?_⟩;exact⟨de R.1,(f.box 3 i5).aE (fI (de R.1)) i5,i5,f.aI 4 [0,1]⟩
end
section
variable {C:Int->aL}
def ajh(p:Pm)(seed:Int)(live:av)(t:Nat)(G:av)(W:bX):Prop:=∀g∈uL live.length t,(∃s∈G,gO live s∉g)∨eK p seed (oM W g live.length)=eS
structure akf (m:au) (live G:av) (ds:aD) (t:Int) (e:Qw.bU) (i:Nat):Prop where
 full:eK m.p (cg e.object i (e.tries.getD i 0)) (kw m ds e.object i)=eS
 spare:ajh m.p (cg e.object i (e.tries.getD i 0)) live t.toNat G (dz m ds e.object i live)
end
structure One (m0:au) (name:ByteArray) (b:aL) (R c:Nat) (m:au) (C:Int->aL) (ds:aD) (t:av):Prop where
 aA:m.aA=[⟨name,m0.next,i4 b,t⟩]
 tl:i4 t=i4 (splitB m0.p b)
 p:m.p=m0.p
 extra:m.extra=m0.extra
 drives:m.drives=m0.drives
 sto:eU m C ds
 full:Full m C ds
 row:∀k d,aT ds k=dB d->d.wait=0/\d.room=R/\d.l.length<=27+c*(m0.p.1+m0.extra).toNat
 data:C m0.next=b
section
variable {pw:f7}
theorem adE{n:Nat}(g:n<64)(cells:Int)(e:bh m=eS)(f:cF w offs=eX)(i:og n cells=eS)(d:(n:Int)∈m.drives)(k:(n:Int)∉aK ds m.drives)(j:(i4 (ba m):Int)<=cells)(H:aa B h0 h (bo a pw da offs w ds m::As)):
  ai kg 20 #[xW (dB a),xU ka n,xU ka cells] h λv h'=>v=xU ka (layAll (bA m [(n:Int)]) w (ds.set n (dB (be.new cells.toNat)))).1/\
   ∃c,aa B h0 h' (bo a pw c offs (layAll (bA m [(n:Int)]) w (ds.set n (dB (be.new cells.toNat)))).2.1 (layAll (bA m [(n:Int)]) w (ds.set n (dB (be.new cells.toNat)))).2.2 m::As):=by
 obtain⟨x,H⟩:=fg H;refine(SB n g cells x m (gI e) H f i d k j).mono ?_;rintro _ h' ⟨rfl,b,l⟩;exact⟨i5,_,jb l⟩
end
theorem Tn.ajE{p:Pm}{m:au}{C:Int->aL}{ds:aD}(W:Tn p m C ds){n:Nat}(o:n<64){cells:Nat}(q:i4 (ba m)<=cells):
  ∃ds',layAll (bA m [(n:Int)]) Pow.new (ds.set n (dB (be.new cells)))=(0,Pow.new,ds')/\Tn p m C ds':=by
 have b:∀s,aT (ds.set n (dB (be.new cells))) s=if s=(n:Int)then dB (be.new cells)else aT ds s:=λs=>Ux (slot:=(n:Int)) i6 W.sto.len _ s
 have e:∀s,gV (bA m [(n:Int)]) s=if s∈[(n:Int)]then ba m else[]:=nF js
 obtain⟨ds',l1,l2,i⟩:=Cq iF (ds:=ds.set n (dB (be.new cells))) (P:=bA m [(n:Int)]) (by simp[W.sto.len]) λx l=>by
  obtain⟨f,j⟩:=jg l;have f:x.1=(n:Int):=t7
  refine⟨j,_,by rw[b,g0 f],i5,?_⟩;rw[e,f,g0 js];show 0+i4 (ba m)<=cells;omega
 refine⟨ds',l1,⟨W.sto.may,l2,λk d g=>?_,W.sto.ents⟩,W.dr,W.pe,λk d g=>?_⟩
 .obtain⟨h,h0,rfl⟩:=mE i g;rw[b]at h0;refine GJ (λc a=>?_) λc a=>?_
  .split at h0
   .injection h0 with h0;subst h0;cases a
   .exact W.sto.cells k h h0 c a
  .rw[e]at a;split at a
   .exact vm C W.sto.may a
   .cases a
 .obtain⟨h,h0,rfl⟩:=mE i g;rw[b]at h0;refine GM ?_;split at h0
  .injection h0 with h0;subst h0;rfl
  .exact W.wt k h h0
section
variable {pw:f7} {p:Pm} {C:Int->aL}
theorem NM(y:pD)(l:y.1=7)(W:Tn p m C ds)(H:aa B h0 h (bo a pw da 0 Pow.new ds m::ak b 64 (dm q (dB a))::As)):
  ai kg 8 #[xW (dB b),mX y] h λv h'=>(∃Y:oY,v=nw Y)/\
   ∃c ds' f,Tn p f C ds'/\f.aA=m.aA/\aa B h0 h' (bo a pw c 0 Pow.new ds' f::ak b 64 (dm q (dB a))::As):=by
 refine ts Tryz.func8 ?_ (xc (xc (u9 (xa [] [(8,101)] (xc (v7 (x6 [(11,lj)] [(11,17)] v6)))) v6))) (args:=[(dB b),y]);obtain⟨e,f,ds',s,r,k⟩:=W.aiy y.2.2.2.1;refine H.boxed λx z g=>?_;have g:=g.aZ;refine g.alloc ag i5 λA w d=>aP (λe=>j3) λ_=>?_;have d:=d.aZ.aI 4 [2,3,1,0];refine aJ ⟨y.1,(d.box 2 i5).cell0 i5,aJ ?_⟩;rw[l];refine aY (λe=>absurd e i7) λ_=>aY (λe=>absurd e i7) λ_=>aY (λe=>absurd e i7) λ_=>aY (λe=>absurd e i7) λ_=>?_;refine aP (λe=>j3) λ_=>?_;refine aY (λe=>absurd e i7) λ_=>aY (λ_=>?_) λe=>absurd i5 e;refine⟨b,i5,dB a,(d.box 1 i5).cell i5,y.2.2.2.1,(d.box 2 i5).cell i5,(Xi y.2.2.2.1 W.sto.may d).mono ?_⟩;rw[s];rintro _ h3 ⟨rfl,c,o⟩;refine⟨e,i5,A0,o.fM ag 3 i5 i5 [xU ka e] i5 i5 i5 js λu j=>⟨A0,?_⟩⟩;refine⟨de e,(j.box 3 i5).aE (fI (de e)) i5,j.storeAll ag 3 i5 i5 (fI (de e)) i5 i5 i5 i5 λt i=>?_⟩;exact⟨de e,(i.box 3 i5).aE (fI (de e)) i5,⟨_,i5⟩,c,ds',f,r,k,i.aI 4 [0,1]⟩
theorem aaV(slot cells:Int)(j:0<=slot/\slot<64)(q:1<=cells/\cells<=512)(k:(i4 (ba m):Int)<=cells)(W:Tn p m C ds)(H:aa B h0 h (bo a pw da 0 Pow.new ds m::As)):
  ai kg 20 #[xW (dB a),xU ka slot,xU ka cells] h λv h'=>(∃e:Int,v=xU ka e)/\∃b ds',Tn p m C ds'/\aa B h0 h' (bo a pw b 0 Pow.new ds' m::As):=by
 by_cases c:slot∉m.drives∨slot∈aK ds m.drives
 .refine(aaU slot cells W.sto.may c H).mono ?_;rintro _ h' ⟨d,R⟩;exact⟨d,da,ds,W,H.up R.ac⟩
 .obtain⟨n,rfl⟩:∃n:Nat,slot=(n:Int):=⟨_,(Int.toNat_of_nonneg j.1).symm⟩
  have g:(n:Int)∈m.drives:=Decidable.not_not.1 λh=>c (.inl h);have f:(n:Int)∉aK ds m.drives:=λh=>c (.inr h);obtain⟨ds',l,i⟩:=W.ajE (n:=n) i6 (cells:=cells.toNat) i6;refine(adE (n:=n) i6 cells W.sto.may i5 (hU ⟨i6,i6⟩) g f k H).mono ?_;rw[l];rintro _ h' ⟨d,b,o⟩;exact⟨⟨_,d⟩,b,ds',i,o⟩
theorem Rn(y:pD)(k:y.1=8)(r:0<=y.2.2.2.1/\y.2.2.2.1<64)(j:1<=y.2.2.2.2.1/\y.2.2.2.2.1<=512)(s:(i4 (ba m):Int)<=y.2.2.2.2.1)(W:Tn p m C ds)(H:aa B h0 h (bo a pw da 0 Pow.new ds m::ak b 64 (dm q (dB a))::As)):
  ai kg 8 #[xW (dB b),mX y] h λv h'=>(∃Y:oY,v=nw Y)/\
   ∃c ds',Tn p m C ds'/\aa B h0 h' (bo a pw c 0 Pow.new ds' m::ak b 64 (dm q (dB a))::As):=by
 refine ts Tryz.func8 ?_ (xc (xc (u9 (xa [] [(8,101)] (xc (v7 (x6 [(11,lj)] [(11,17)] v6)))) v6))) (args:=[(dB b),y]);refine H.boxed λx z f=>?_;have f:=f.aZ;refine f.alloc ag i5 λA w d=>aP (λe=>j3) λ_=>?_;have d:=d.aZ.aI 4 [2,3,1,0];refine aJ ⟨y.1,(d.box 2 i5).cell0 i5,aJ ?_⟩;rw[k];refine aY (λe=>absurd e i7) λ_=>aY (λe=>absurd e i7) λ_=>aY (λe=>absurd e i7) λ_=>aY (λe=>absurd e i7) λ_=>?_;refine aP (λe=>j3) λ_=>?_;refine aY (λe=>absurd e i7) λ_=>aY (λe=>absurd e i7) λ_=>aY (λ_=>?_) λe=>absurd i5 e;refine⟨b,i5,dB a,(d.box 1 i5).cell i5,y.2.2.2.1,(d.box 2 i5).cell i5,y.2.2.2.2.1,(d.box 2 i5).cell i5,(aaV y.2.2.2.1 y.2.2.2.2.1 r j s W d).mono ?_⟩;rintro _ h3 ⟨⟨e,rfl⟩,c,ds',o,l⟩;refine⟨e,i5,A0,l.fM ag 3 i5 i5 [xU ka e] i5 i5 i5 js λu i=>⟨A0,?_⟩⟩;refine⟨de e,(i.box 3 i5).aE (fI (de e)) i5,i.storeAll ag 3 i5 i5 (fI (de e)) i5 i5 i5 i5 λt g=>?_⟩;exact⟨de e,(g.box 3 i5).aE (fI (de e)) i5,⟨_,i5⟩,c,ds',o,g.aI 4 [0,1]⟩
end
def sink:av->Nat->av
 |l,0=>l
 |l,i+1=>if fi l (i+1)<fi l i then sink (jz l (i+1) i) i else l
def sinks(l:av):Nat->av
 |0=>l
 |i+1=>sink (sinks l i) i
theorem Ro:∀(i:Nat) (l:av),i4 (sink l i)=i4 l
 |0,l=>rfl
 |i+1,l=>by
   unfold sink;split;· rw[Ro i,rU]
   .rfl
theorem tG(l:av):∀i,i4 (sinks l i)=i4 l
 |0=>rfl
 |i+1=>by rw[sinks,Ro,tG l i]
theorem vt{l:av}{i:Nat}(h:i<i4 l):fi l i=l[i]:=by rw[fi,qg,qc h];rfl
theorem swap_perm(l:av)(i:Nat)(h:i+1<i4 l):(jz l (i+1) i).Perm l:=by
 have e:l=l.take i++l[i]::l[i+1]::l.drop (i+2):=js
 have f:jz l (i+1) i=l.take i++l[i+1]::l[i]::l.drop (i+2):=by
  rw[jz,vt (show i<i4 l by omega),vt h];apply zp;intro j;have a:i4 (l.take i)=i:=j1
  rw[qV,qV];by_cases c:i=j
  .grind
  .rw[g9 c];by_cases b:i+1=j
   .subst b;rw[g0 i5,g0 i6,qk i6,a];simp
   .rw[g9 b]
    conv=>lhs;rw[e]
    by_cases h3:j<i
    .rw[qq i6,qq i6]
    .rw[qk i6,qk i6,a];obtain⟨d,g⟩:∃d,j-i=d+2:=⟨j-i-2,i6⟩
     rw[g];rfl
 rw[f]
 conv=>rhs;rw[e]
 exact List.Perm.append_left _ (List.Perm.swap _ _ _)
theorem Nl:∀(i:Nat) (l:av),i<i4 l->(sink l i).Perm l
 |0,l,_=>.refl _
 |i+1,l,h=>by
  unfold sink;split
  .exact(Nl i _ (by rw[rU];omega)).trans (swap_perm l i h)
  .exact .refl _
theorem Ky(l:av):∀i,i<=i4 l->(sinks l i).Perm l
 |0,_=>.refl _
 |i+1,h=>(Nl i _ (by rw[tG];omega)).trans (Ky l i i6)
def aiB(l:av)(n:Nat):Prop:=∀a b,a<b->b<n->fi l a<=fi l b
theorem adF{l:av}{i j k:Nat}(d:i<i4 l)(c:j<i4 l):fi (jz l i j) k=if k=j then fi l i else if k=i then fi l j else fi l k:=by
 simp only[fi,jz,qg,qV,List.length_set];by_cases a:j=k
 .subst a;simp[c]
 .by_cases b:i=k
  .subst b;simp[a,d];omega
  .simp[a,b];omega
theorem Uz(n:Nat):∀(i:Nat) (l:av),i<n->n<=i4 l->(∀a b,a<b->b<n->a≠i->b≠i->fi l a<=fi l b)->(∀b,i<b->b<n->fi l i<=fi l b)->aiB (sink l i) n
 |0,l,hi,hn,h1,h2=>λa b c e=>by
  unfold sink;by_cases d:a=0
  .subst d;exact h2 b c e
  .exact h1 a b c e d i6
 |i+1,l,hi,hn,h1,h2=>by
  unfold sink;split
  .rename_i o;have h:∀k,fi (jz l (i+1) i) k=if k=i then fi l (i+1)else if k=i+1 then fi l i else fi l k:=λk=>adF i6 i6
   refine Uz n i _ i6 (by rw[rU];exact hn) (λa b c e d m=>?_) (λb e j=>?_)
   .rw[h,h,g9 d,g9 m];by_cases h3:a=i+1
    .rw[g0 h3,g9 i6];exact h1 i b i6 e i6 i6
    .rw[g9 h3];by_cases f:b=i+1
     .rw[g0 f];exact h1 a i i6 i6 h3 i6
     .rw[g9 f];exact h1 a b c e h3 f
   .rw[h,h,g0 i5,g9 i6];by_cases f:b=i+1
    .rw[g0 f];omega
    .rw[g9 f];exact h2 b i6 j
  .rename_i p;intro a b c e;by_cases g:b=i+1
   .subst g;by_cases d:a=i
    .subst d;omega
    .have:=h1 a i i6 i6 i6 i6;omega
   .by_cases d:a=i+1
    .subst d;exact h2 b c e
    .exact h1 a b c e d g
theorem Rp(l:av):∀i,i<=i4 l->aiB (sinks l i) i
 |0,_=>λa b _ d=>i6
 |i+1,h=>by
  have f:=Rp l i i6;rw[sinks];exact Uz (i+1) i _ i6 (by rw[tG];omega) (λa b c d _ g=>f a b c i6) (λb d e=>i6)
theorem TC{a b:av}(e:a.Perm b)(f:a.Pairwise (·<=·))(g:b.Pairwise (·<=·)):a=b:=
 e.eq_of_pairwise (λx y _ _ c d=>Int.le_antisymm c d) f g
theorem Xv(l:av):sinks l l.length=gC l:=by
 refine TC ((Ky l _ (qi _)).trans (List.mergeSort_perm l _).symm) ?_ ?_
 .have:=Rp l l.length (qi _);rw[List.pairwise_iff_getElem];intro i j f e d;have g:=tG l l.length;have:=this i j d i6
  rwa [vt f,vt e]at this
 .have:=wF (le:=λx y:Int=>decide (x<=y)) (by intro a b c;simp;omega) (by intro a b;simp;omega) l;exact this.imp js
theorem Rq(a:f7)(s:Int)(n k:Nat)(h:f9)(R:bN h a 390 [xU kf s])(hn:n<=64)(hk:k<=n):
  ai kg 324 #[xW (dB a),xU ka n,xU ka k] h λv h'=>∃r:Sl,v=r/\aa (λb=>b<h.size/\¬b=a.block) h h' [ak a 390 [xU kf (eC n s (upto n) k).1],aq 3 r 1 az (AR s n k)]:=by
 refine ts Tryz.func324 ?_ (xc (x6 [] [(6,7),(13,28)] (xc (u9 (xc (v7 (ws [(7,cE),(8,aR)] [(7,9),(28,37)] v6))) (u9 (xc (v7 (ws [(9,aR)] [(9,11),(37,63)] v6))) (xc (u9 (xc (v7 (ws [(68,aR)] [(11,13),(68,105)] (xc (xc (u9 (v7 (xc (xc (v7 (ws [(12,aR)] [(12,13),(72,104)] (x6 [] [(72,86)] v6)))))) v6)))))) v6)))))));refine aJ (ae (λe=>i6) λ_=>ae (λe=>i6) λ_=>ae (λe=>i6) λ_=>ae (λe=>i6) λ_=>?_);have H0:aa (λb=>b<h.size/\¬b=a.block) h h [ak a 390 [xU kf s]]:=.OG (λb=>b=a.block) (λb E=>by rw[E];exact R.lt) ⟨R,i5⟩;refine an (λt:Sl×Nat=>(t.1,(t.2:Int))) (λt h'=>t.2<=n/\aa (λb=>b<h.size/\¬b=a.block) h h' [ak a 390 [xU kf s],aq 3 t.1 1 az (upto t.2)]) (λt=>n-t.2) (⟨eH,0,0⟩,0) i5 ⟨js,H0.nil 3 1 az⟩ ?_;rintro⟨v,i⟩ h2 ⟨hi,P⟩;dsimp only at*;refine ae (λe=>?_) (λe=>?_)
 .refine P.push ag 1 i5 gz i5 i7 (λ_=>rfl) eZ (i:Int) i5 i7 pt λZ h3 f=>?_;refine⟨(Z,i+1),j0,⟨i9,?_⟩,i9⟩;dsimp only;rw[aaR];exact f
 .have J:i=n:=i6
  subst J;refine an (λj:Nat=>(j:Int)) (λj h'=>j<=k/\aa (λb=>b<h.size/\¬b=a.block) h h' [ak a 390 [xU kf (eC i s (upto i) j).1],aq 3 v 1 az (eC i s (upto i) j).2]) (λj=>k-j) 0 i5 ⟨i6,P⟩ ?_;rintro j h3 ⟨hj,f⟩;have K:=rV i s (upto i) j;rw[gP]at K;refine ae (λe3=>?_) (λe3=>?_)
  .rw[af _];have g:((i:Int)-(j:Int))=((i-j:Nat):Int):=i6
   rw[g];refine(Ea a _ _ h3 (f.box 0 i5)).x8 λh4 ⟨I,H⟩=>?_;have u:=f.pi 0 i5 H I;have W:=oS (eC i s (upto i) j).1 ((i-j:Nat):Int);refine⟨_,i5,?_⟩
   try dsimp only
   rw[af _,af _];have S:(j:Int)+jO (eC i s (upto i) j).1 ((i-j:Nat):Int)=((j+(jO (eC i s (upto i) j).1 ((i-j:Nat):Int)).toNat:Nat):Int):=i6
   have l:j+(jO (eC i s (upto i) j).1 ((i-j:Nat):Int)).toNat<(eC i s (upto i) j).2.length:=i6
   rw[S];have A:=u.seq 1 i5 λ_=>rfl;refine A.bm _ i5 l _ i5 ?_;refine A.bm j i5 i6 _ i5 ?_;refine u.set ag 1 i5 (λ_=>rfl) i5 j i5 i6 _ i5 i5 i5 λU m=>⟨A0,?_⟩
   refine m.set ag 1 i5 (λ_=>rfl) i5 _ i5 qs _ i5 i5 i5 λN o=>⟨A0,?_⟩
   refine⟨j+1,i5,⟨i6,?_⟩,i6⟩;rw[eC,jz,fi,fi,Qw.getD_lt l,Qw.getD_lt (show j<(eC i s (upto i) j).2.length by omega)];exact o
  .have G:j=k:=i6
   subst G;have O:=(f.own 1 i5).cap;have ab:=(f.own 1 i5).len;refine⟨⟨i6,i6⟩,?_⟩;rw[qj];have u:=f.cut 1 i5 (λ_=>rfl) j i6;obtain⟨L,D⟩:=z6 ((eC i s (upto i) j).2.take j)
   have q:i4 L=j:=by rw[D,qH];omega
   rw[<-D]at u;refine an (λx:Nat=>(x:Int)) (λx h'=>x<=j/\aa (λb=>b<h.size/\¬b=a.block) h h' [ak a 390 [xU kf (eC i s (upto i) j).1],aq 3 ⟨v.ptr,j,v.cap⟩ 1 az (sinks L x)]) (λx=>j-x) 0 i5 ⟨i6,u⟩ ?_;rintro x U ⟨S,m⟩;refine ae (λe4=>?_) (λe4=>?_)
   .refine an (λt:Nat×av=>(t.1:Int)) (λt h'=>t.1<=x/\t.2.length=j/\sink t.2 t.1=sinks L (x+1)/\aa (λb=>b<h.size/\¬b=a.block) h h' [ak a 390 [xU kf (eC i s (upto i) j).1],aq 3 ⟨v.ptr,j,v.cap⟩ 1 az t.2]) (λt=>t.1) (x,sinks L x) i5 ⟨js,by rw[tG];exact q,i5,m⟩ ?_;rintro⟨y,M⟩ N ⟨hy,X,p,o⟩;dsimp only at*;rw[af ((x:Int)+1)];have d:sink M y=M->∃B:Nat,(x:Int)+1=(B:Int)/\(B<=j/\aa (λb=>b<h.size/\¬b=a.block) h N [ak a 390 [xU kf (eC i s (upto i) j).1],aq 3 ⟨v.ptr,j,v.cap⟩ 1 az (sinks L B)])/\j-B<j-x:=λF=>
     ⟨x+1,i5,⟨i6,by rw[<-p,F];exact o⟩,i6⟩
    refine aJ ?_;refine ae (λe5=>?_) λe5=>d (by rw[show y=0 by omega];rfl);obtain⟨z,rfl⟩:∃z,y=z+1:=⟨y-1,i6⟩
    have hz:((z+1:Nat):Int)-1=(z:Int):=i6
    rw[af (((z+1:Nat):Int)-1),hz];have c:=o.seq 1 i5 λ_=>rfl;have g1:=vt (show z<i4 M by omega);have T:=vt (show z+1<i4 M by omega);refine c.bm (z+1) i5 i6 _ i5 ?_;refine c.bm z i5 i6 _ i5 ?_;refine ae (λV=>?_) λV=>d (by rw[sink,g9 i6]);refine c.bm z i5 i6 _ i5 ?_;refine c.bm (z+1) i5 i6 _ i5 ?_;refine o.set ag 1 i5 (λ_=>rfl) i5 (z+1) i5 i6 _ i5 i5 i5 λh7 Y=>⟨A0,?_⟩
    refine Y.set ag 1 i5 (λ_=>rfl) i5 z i5 jj _ i5 i5 i5 λh8 H8=>⟨A0,?_⟩
    refine⟨(z,jz M (z+1) z),i5,⟨i9,by dsimp only;rw[rU];exact X,?_,?_⟩,i9⟩
    ·(try dsimp only);rw[<-p];conv=>rhs;rw[sink]
     rw[g0 i6]
    ·(try dsimp only);rw[jz,g1,T];exact H8
   .have:x=j:=i6
    subst this;refine⟨⟨v.ptr,x,v.cap⟩,i5,?_⟩;have Q:=Xv L;rw[q]at Q;rw[Q,D]at m;exact m
theorem Xw(p:Pm)(seed id:Int)(h:f9):ai kg 260 #[ir p,xU ke seed,xU ka id] h λv h'=>∃r:Sl,v=r/\Sp h h' [aq 3 r 1 az (if bB p&&bE id then df (bp p).toNat seed id else[])]:=by
 refine ts Tryz.func260 ?_ (xc (x6 [] [(6,7),(9,17)] v6)) (args:=[p,(xU ke (seed:Int)),(id:Int)]);refine(Sp.refl h).boxed λa H B=>?_;refine aJ ?_;refine⟨p,(B.box 0 i5).aE _ i5,(mT p H).mono ?_⟩;rintro v g ⟨rfl,V⟩;have G:=B.comp V;have F:(bB p&&bE id)=eX->Sp h g [aq 3 ⟨eH,0,0⟩ 1 az (if bB p&&bE id then df (bp p).toNat seed id else[])]:=λQ=>by
  rw[Q];exact(G.nil 3 1 az).take 1 (λi A c=>by cases i with|zero=>exact c|succ i=>simp at c)
 refine⟨_,i5,aX (λe=>⟨⟨eH,0,0⟩,i5,F m7⟩) λx=>?_⟩;refine(uj id g).mono ?_;rintro v h3 ⟨rfl,rfl⟩;refine⟨_,i5,aX (λe=>⟨⟨eH,0,0⟩,i5,F (by rw[e];simp)⟩) λhid=>?_⟩;rw[x,hid];have P:=(bK p).1 x;have X:bp p=p.1+p.2.1:=by rw[bp,g0 x]
 obtain⟨n,k⟩:∃n:Nat,bp p=n:=⟨(bp p).toNat,i6⟩
 rw[k,qj];refine G.boxed (t:=390) λd M J=>?_;refine(Gc d _ M (J.box 1 i5)).mono ?_;rintro v L ⟨rfl,l,m⟩;have D:=J.pi 1 i5 m l;refine⟨_,i5,p,(D.box 0 i5).aE _ i5,(rI p L).mono ?_⟩;rintro v N ⟨rfl,U⟩;have E:=D.comp U;refine⟨_,i5,?_⟩
 try dsimp only
 rw[k];refine(NI n N i6 i6).mono ?_;rintro v W ⟨t,rfl,j⟩;have z:=E.comp j;refine⟨t,i5,?_⟩;have s:∀b,t.on b->b≠d.block:=λb o Y=>by
  have H:=(j.fresh 0 i5).2 b o;have g:=(E.box 1 i5).lt;omega
 refine(Rf t n d _ W ((j.own 0 i5).seq (λ_=>rfl) s) (z.box 1 i5) i6 i6).mono ?_;rintro v h8 ⟨rfl,f,u⟩;have I:=z.pi 1 i5 u f;refine⟨_,i5,p,(I.box 0 i5).aE _ i5,(rI p h8).mono ?_⟩;rintro v T ⟨rfl,O⟩;have y:=I.comp O;refine⟨_,i5,?_⟩
 try dsimp only
 rw[k];refine(Rq d _ n _ T (y.box 1 i5) i6 (rX _ n)).y0 λr K w=>?_;have R:=y.call 1 i5 (λb=>b=d.block) (λq S b o=>by rw[o];exact S.2) w;exact⟨r,i5,r,i5,(R.take 3 λi A c=>by cases i with|zero=>exact c|succ i=>simp at c)⟩
theorem TD(p:Pm)(seed id:Int)(h:f9):ai kg 205 #[ir p,xU ke seed,xU ka id] h λv h'=>∃r:Sl,v=r/\
  Sp h h' [aq 5 r 1 aB (if bB p&&bE id then ly (bp p).toNat seed id else[])]:=by
 refine ts Tryz.func205 ?_ (xc (x6 [] [(6,7),(10,18)] (xc (x0 [(26,aR)] [(9,10),(26,34)])))) (args:=[p,(xU ke (seed:Int)),(id:Int)]);refine(Sp.refl h).boxed λa M B=>?_;refine aJ ?_;refine⟨p,(B.box 0 i5).aE _ i5,(mT p M).mono ?_⟩;rintro v z ⟨rfl,P⟩;have q:=B.comp P;have F:(bB p&&bE id)=eX->Sp h z [aq 5 ⟨eH,0,0⟩ 1 aB (if bB p&&bE id then ly (bp p).toNat seed id else[])]:=λO=>by
  rw[O];exact(q.nil 5 1 aB).take 1 (λi A g=>by cases i with|zero=>exact g|succ i=>simp at g)
 refine⟨_,i5,aX (λe=>⟨⟨eH,0,0⟩,i5,F m7⟩) λl=>?_⟩;refine(uj id z).mono ?_;rintro v h3 ⟨rfl,rfl⟩;refine⟨_,i5,aX (λe=>⟨⟨eH,0,0⟩,i5,F (by rw[e];simp)⟩) λhid=>?_⟩;refine⟨p,(q.box 0 i5).aE _ i5,(rI p _).mono ?_⟩;rintro v y ⟨rfl,I⟩;have K:=q.comp I;have N:=(bK p).1 l;have T:bp p=p.1+p.2.1:=by rw[bp,g0 l]
 obtain⟨n,D⟩:∃n:Nat,bp p=n:=⟨(bp p).toNat,i6⟩
 refine⟨_,i5,?_⟩
 try dsimp only
 rw[D];refine K.make ag aB gm i7 0 i5 i5 n n i5 i5 (qi _) i6 λv y U L H=>?_;refine⟨p,(H.box 0 i5).aE _ i5,(Xw p seed id y).y0 λc R t=>?_⟩;rw[l,hid,D,qj]at t;rw[l,hid,qj];have m:=H.comp t;have j:=m.seq 2 i5 λ_=>rfl;have o:=j.len;obtain⟨d,b⟩:=z6 (df n seed id)
 have s:∀x∈d,0<=x/\x<(n:Int):=λx G=>mf i6 i6 (by rw[<-b];exact G);have u:i4 d<=n:=by rw[b];exact td i6 i6 _ _
 simp only[Bool.and_self,if_true,<-b]at m j o t;refine⟨c,i5,?_⟩;refine an (λi:Nat=>(i:Int)) (λi h'=>i<=i4 d/\Sp h h' [ak a 25 [xU ka p.1,xU ka p.2.1,xU ka p.2.2],aq 5 v 1 aB (fT n (d.take i)),aq 3 c 1 az d]) (λi=>i4 d-i) 0 i5 ⟨i6,m⟩ ?_;rintro i S ⟨g,k⟩;refine ae (λe=>?_) (λe=>?_)
 .have f:i<i4 d:=i6
  have G:=s _ (qe f);refine(k.seq 2 i5 λ_=>rfl).bm i i5 f _ i5 ?_;refine k.set ag 1 i5 (λ_=>rfl) i5 d[i].toNat i6 sb 1 i5 i5 i5 λV J=>?_;refine⟨i+1,j4,⟨i6,?_⟩,i6⟩;have Q:fT n (d.take (i+1))=(fT n (d.take i)).set d[i].toNat 1:=by rw[aG _ _ f,fT,List.foldl_append];rfl
  rw[Q];exact J
 .rw[qh i6]at k;have E:=(k.del 2).take 1 (λi A g=>by cases i with|zero=>exact g|succ i=>simp at g);refine⟨v,i5,?_⟩;rw[b]at E;exact E
theorem NO(p:Pm)(h:f9)(B:bB p=eS):ai kg 203 #[ir p] h λv h'=>∃r:Sl,v=r/\Sp h h' [fB 34 r 1 aB (bj p.1.toNat p.2.1.toNat)]:=by
 refine ts Tryz.func203 ?_ (xc (xc (u9 (xa [(3,cE)] [(3,48)] (xc (v7 (ws [(3,cE),(4,aR)] [(3,48)] (x6 [] [(7,15)] (u9 (v7 (xc (x0 [(6,aR)] [(6,7),(23,38)]))) v6)))))) v6))) (args:=[p]);refine(Sp.refl h).boxed λa h1 I=>?_;have P:=(bK p).1 B;obtain⟨K,T⟩:∃K:Nat,p.1=K:=⟨p.1.toNat,i6⟩
 obtain⟨b,G⟩:∃H:Nat,p.2.1=H:=⟨p.2.1.toNat,i6⟩
 refine aJ ?_;refine an (λt:Sl×Nat=>(t.1,(t.2:Int))) (λt h'=>t.2<=b/\Sp h h' [ak a 25 [xU ka p.1,xU ka p.2.1,xU ka p.2.2],fB 34 t.1 1 aB ((bj K b).take t.2)]) (λt=>b-t.2) (⟨eH,0,0⟩,0) i5 ⟨js,I.CJ 34 1 aB⟩ ?_;rintro⟨s,k⟩ E ⟨hk,f⟩;dsimp only at*;refine aJ ⟨p.2.1,(f.box 0 i5).cell i5,?_⟩;refine ae (λe=>?_) (λe=>?_)
 .have R:k<b:=i6
  refine⟨p,(f.box 0 i5).aE _ i5,(mT p E).mono ?_⟩;rintro v X ⟨rfl,O⟩;have q:=f.up O.ac;refine⟨_,i5,CF B ?_⟩;refine⟨p.1,(q.box 0 i5).cell0 i5,p.2.1,(q.box 0 i5).cell i5,?_⟩
  try dsimp only
  rw[af (p.1+p.2.1)];refine q.make ag aB gm i7 0 i5 i5 (K+b) (K+b) i6 i6 (qi _) i6 λu Y L M J=>?_;let rowAt:Nat->aL:=λj=>(qn j).map (λi=>Gf.pw ((k+1)*(i+1)%255))++qf (K+b-j) (0:UInt8);refine an (λj:Nat=>(j:Int)) (λj h'=>j<=K/\Sp h h' [ak a 25 [xU ka p.1,xU ka p.2.1,xU ka p.2.2],fB 34 s 1 aB ((bj K b).take k),aq 5 u 1 aB (rowAt j)]) (λj=>K-j) 0 i5 ⟨i6,J⟩ ?_;rintro j W ⟨hj,g⟩;refine⟨p.1,(g.box 0 i5).cell0 i5,?_⟩;have z:i4 (rowAt j)=K+b:=by simp[rowAt];omega
  refine ae (λU=>?_) (λU=>?_)
  .have c:j<K:=i6
   have Z:(k+1)*(j+1)<=4*16:=Nat.mul_le_mul i6 i6;have N:qd ka (qd ka ((k:Int)+1)*qd ka ((j:Int)+1))=(((k+1)*(j+1):Nat):Int):=by rw[af ((k:Int)+1),af ((j:Int)+1),show((k:Int)+1)*((j:Int)+1)=(((k+1)*(j+1):Nat):Int)by rw[Int.natCast_mul];rfl];exact nR _
   rw[N];refine(Tw _ W).x7 ⟨_,i5,?_⟩;refine g.set ag 2 i5 (λ_=>rfl) i5 j i5 i6 _ i5 i5 i5 λh9 o=>?_;refine⟨j+1,j4,⟨i6,?_⟩,i6⟩;have x:(rowAt j).set j (Gf.pw ((((k+1)*(j+1):Nat):Int)%255).toNat)=rowAt (j+1):=by
    have F:((((k+1)*(j+1):Nat):Int)%255).toNat=(k+1)*(j+1)%255:=i6
    rw[F];simp only[rowAt];rw[qN _ _ js,qp,zq,za,show K+b-j=K+b-(j+1)+1 by omega,List.replicate_succ,List.set_cons_zero,zt,List.map_append,List.append_assoc];rfl
   rw[<-x];exact o
  .have c:j=K:=i6
   subst c;refine⟨p.1,(g.box 0 i5).cell0 i5,?_⟩
   try dsimp only
   rw[af (p.1+k)];refine g.set ag 2 i5 (λ_=>rfl) i5 (j+k) i6 i6 1 i5 i5 i5 λh8 y=>?_;have x:(rowAt j).set (j+k) 1=jH j b k:=by
    simp only[rowAt,jH];rw[qN _ _ js];congr 1;apply zp;intro i;rw[qp,zq,qV,qR,yt,List.getElem?_replicate];by_cases m:i<b
    .rw[List.getElem?_range m,Option.map_some];by_cases d:i=k
     .subst d;rw[g0 i6,g0 i6];simp
     .rw[g9 i6,g0 i6,g9 d]
    .rw[zd (l:=qn b) jj,g9 i6,g9 i6];rfl
   rw[x]at y;have o:=y.freeze 2 i5 λ_=>rfl;have S:i4 ((bj j b).take k)=k:=o0
   refine o.pj ag 1 2 i7 i5 i5 fh i6 λV D w=>?_;refine⟨(V,k+1),j0,⟨i9,?_⟩,i9⟩;have Q:(bj j b).take (k+1)=(bj j b).take k++[jH j b k]:=by rw[aG _ _ o0];simp[bj]
   try dsimp only
   rw[Q];exact w.del 2
 .refine⟨s,i5,?_⟩;rw[T,G,qj,qj];rw[qh o0]at f;exact f.take 1 (λi A m=>by cases i with|zero=>exact m|succ i=>simp at m)
theorem LH(p:Pm)(seed:Int)(ids:Sl)(l:av)(h:f9)(z:Rd h ids 1 az l)(K:i4 l<=2^30):ai kg 145 #[ir p,xU ke seed,ids] h λv h'=>∃r:Sl,v=r/\Sp h h' [fB 34 r 1 aB (db p seed l)]:=by
 refine ts Tryz.func145 ?_ (xc (xc (xc (x0 [(7,cE),(17,aR)] [(7,8),(9,10),(17,31)])))) (args:=[p,(xU ke (seed:Int)),ids]);refine(Sp.refl h).boxed λa G u=>?_;refine⟨p,(u.box 0 i5).aE _ i5,(mT p G).mono ?_⟩;rintro v D ⟨rfl,H⟩;have m:=u.up H.ac;refine⟨_,i5,aX (λe=>⟨⟨eH,0,0⟩,i5,?_⟩) λg=>?_⟩
 .rw[db,e];exact(m.CJ 34 1 aB).take 1 (λi A f=>by cases i with|zero=>exact f|succ i=>simp at f)
 refine⟨p,(m.box 0 i5).aE _ i5,(NO p D g).mono ?_⟩;rintro v h3 ⟨r,rfl,E⟩;have b:=m.comp E;refine⟨r,i5,?_⟩;have y:=z.len;let at_:Nat->ct:=λk=>db p seed (l.take k);have h0:bj p.1.toNat p.2.1.toNat=at_ 0:=by simp[at_,db,g]
 rw[h0]at b;refine an (λt:Sl×Nat=>(t.1,(t.2:Int))) (λt h'=>t.2<=i4 l/\Sp h h' [ak a 25 [xU ka p.1,xU ka p.2.1,xU ka p.2.2],fB 34 t.1 1 aB (at_ t.2)]) (λt=>i4 l-t.2) (r,0) i5 ⟨js,b⟩ ?_;rintro⟨s,k⟩ h3 ⟨M,b⟩;dsimp only at*;refine ae (λe=>?_) (λe=>?_)
 .have c:k<i4 l:=i6
  refine(Seq.up z b.ac).bm k i5 c _ i5 ((uj l[k] h3).mono ?_);rintro v L ⟨rfl,rfl⟩;refine⟨_,i5,?_⟩;have q:=HQ p seed (l.take k);rw[qH]at q;have o:i4 (at_ k)+1<=2^32:=by show(db p seed (l.take k)).length+1<=2^32;omega
  refine aP (λj=>?_) (λj=>?_)
  .refine⟨p,(b.box 0 i5).aE _ i5,(TD p seed l[k] _).y0 λw B x=>?_⟩;rw[g,show bE l[k]=eS from j]at x;have J:=(b.comp x).freeze 2 i5 λ_=>rfl;refine⟨w,i5,?_⟩;refine J.pj ag 1 2 i7 i5 i5 fh o λI B F=>?_;refine⟨(I,k+1),j0,⟨i9,?_⟩,i9⟩;have d:at_ (k+1)=at_ k++[ly (bp p).toNat seed l[k]]:=by simp only[at_];rw[aG _ _ c,Mc,g,show bE l[k]=eS from j];rfl
   try dsimp only
   rw[d];exact F.del 2
  .refine⟨(s,k+1),j0,⟨i9,?_⟩,i9⟩;have d:at_ (k+1)=at_ k:=by simp only[at_];rw[aG _ _ c,Mc,show bE l[k]=eX from j,Bool.and_false];rfl
   try dsimp only
   rw[d];exact b
 .refine⟨s,i5,?_⟩;have d:at_ k=db p seed l:=by simp only[at_];rw[qh i6]
  rw[d]at b;exact b.take 1 (λi A f=>by cases i with|zero=>exact f|succ i=>simp at f)
theorem LI(a:Sl)(m:aO)(n:Nat)(h:f9)(c:fm h a 1 aB m)(g:aU n m)(o:n<=64)(s:i4 m<=2^30):ai kg 255 #[a] h λv h'=>v=xY eS/\h'=h:=by
 refine ts Tryz.func255 ?_ (xc (x0 [(6,aR)] [(2,4),(6,28)]));have u:=c.len;refine an (λk:Nat=>(k:Int)) (λk h'=>h'=h/\k<=i4 m) (λk=>i4 m-k) 0 i5 ⟨i5,i6⟩ ?_;rintro k h' ⟨rfl,p⟩;refine ae (λe=>?_) λe=>⟨i5,i5⟩;have b:k<i4 m:=i6
 refine c.get k i5 b λr j=>?_;refine c.get 0 i5 i6 λq f=>?_;have l:=j.len;have i:=f.len;rw[g _ (qe _)]at l i;refine bH (λe=>i6) λ_=>?_;refine c.get k i5 b λt d=>?_;have h3:=d.len;rw[g _ (qe _)]at h3;refine ae (λe=>i6) λ_=>?_;exact⟨k+1,j4,⟨i5,i6⟩,i6⟩
theorem find_range_succ(P:Nat->Bool)(i:Nat):(qn (i+1)).find? P=((qn i).find? P).or (if P i then dB i else eH):=by rw[zt,List.find?_append];congr 1;by_cases h:P i<;>simp[h]
def Rs:Option Nat->Int
 |some i=>i
 |none=>-1
theorem Xx(m:aO)(i j:Nat):gW m i j=gW m j i:=by
 by_cases h:i=j
 .rw[h]
 .rw[gW,gW,List.set_comm _ _ λa=>h a.symm]
theorem Xy{a t:Row}(h:i4 a=i4 t):cB 0 a t=t:=by apply List.ext_getElem (by rw[bR h]);intro i b c;simp[cB,Gf.zero_mul]
theorem LJ(a:Sl)(m:aO)(n:Nat)(h:f9)(ha:fm h a 1 aB m)(hm:aU n m)(hn:n<=64)(hs:i4 m<=2^30):
  ai kg 202 #[a] h λv h'=>∃r:Sl,v=r/\r.len=bP m/\Sp h h' []:=by
 refine ts Tryz.func202 ?_ (xc (xc (xc (u9 (xc (v7 (ws [(3,cE),(15,aR)] [(3,5),(15,27)] v6))) (xc (u9 (xa [(5,aR)] [(5,10),(27,132)] (xc (v7 (ws [(5,aR),(6,aR)] [(5,10),(27,132)] (x6 [] [(27,38)] (u9 (v7 (xc (u9 (xc (v7 (ws [(7,aR),(8,aR)] [(7,9),(41,60)] v6))) (xc (x6 [] [(62,76)] (x6 [] [(76,92)] (u9 (xc (v7 (ws [(94,aR)] [(9,10),(94,130)] (xc (xc (u9 (v7 (xc (x6 [(109,lj)] [(97,110)] v6))) v6)))))) v6))))))) v6)))))) v6)))))) [(21,(.l [0,1,2,3,4,5,6,7,8,10,11,12,13,9,14,15,16]))];refine(LI a m n h ha hm hn hs).mono ?_;rintro v D ⟨rfl,rfl⟩;refine⟨_,i5,aX (λe=>j3) λ_=>?_⟩;have hl:=ha.len;refine an (λt:Sl×List Sl=>(t.1,(i4 t.2:Int))) (λt h'=>i4 t.2<=i4 m/\Sp D h' (aq 34 t.1 1 bx t.2::bu 5 1 aB t.2 (m.take t.2.length))) (λt=>i4 m-i4 t.2) (⟨eH,0,0⟩,[]) i5 ⟨js,by simpa[bu]using(Sp.refl D).nil 34 1 bx⟩ ?_;rintro⟨s,rs⟩ h2 ⟨hk,H2⟩;dsimp only at*;refine ae (λe=>?_) (λe=>?_)
 .have B:i4 rs<i4 m:=i6
  refine(ha.up H2.ac).get rs.length i5 B λr hr=>?_;have ce:m[i4 rs].length=n:=hm _ (qe _);have a8:i4 (bu 5 1 aB rs (m.take rs.length))=i4 rs:=by rw[jd ln,qH];omega
  have Hn:=H2.nil 5 1 aB;have ay:((aq 34 s 1 bx rs::bu 5 1 aB rs (m.take rs.length))++[aq 5 ⟨eH,0,0⟩ 1 aB ([]:aL)])[i4 rs+1]?=dB (aq 5 ⟨eH,0,0⟩ 1 aB []):=by rw[qk jj,q8,a8,za];rfl
  refine Hn.append ag (i4 rs+1) ay gm ⟨_,_,i5,i5⟩ i5 i7 (λ_=>rfl) hr ib jj λw h3 K=>?_;have cm:Sp D h3 ((aq 34 s 1 bx rs::bu 5 1 aB rs (m.take rs.length))++[aq 5 w 1 aB m[i4 rs]]):=by rw[qN _ _ jj,q8,a8,za]at K;exact K
  refine cm.push ag 0 i5 fh i5 i7 (λ_=>rfl) jN w i5 i7 i6 λs' h4 H4=>?_;refine⟨(s',rs++[w]),by dsimp only;rw[af _];simp,⟨jj,?_⟩,jj⟩
  try dsimp only
  rw[show(rs++[w]).length=i4 rs+1 by simp,aG _ _ B,pJ ln];exact H4
 .have S:m.take rs.length=m:=qh i6;rw[S]at H2;have a0:i4 rs=i4 m:=i6
  have b0:s.len=i4 m:=by rw[(H2.own 0 i5).len,a0]
  have cs:=(H2.own 0 i5).cap;have a5:m≠[]->dF m=n:=λap=>by
   have:0<i4 m:=List.length_pos_iff.2 ap;rw[dF,bv this];exact hm _ (qe _)
  refine bF (λ(d:Int) h'=>d=(bP m:Int)/\Sp D h' []) ?_ ?_
  .refine an (λt:List Sl×Nat=>(((bD m t.2).1:Int),(t.2:Int))) (λt h'=>t.2<=dF m/\t.1.length=i4 m/\Sp D h' (lD s t.1 (bD m t.2).2)) (λt=>dF m-t.2) (rs,0) i5 ⟨js,a0,H2⟩ ?_;rintro⟨g,bg⟩ h3 ⟨O,cr,K⟩;dsimp only at*;have J:=gA hm bg;have z:=pO m bg;have fin:¬(0<i4 m/\bg<dF m)->((bD m bg).1:Int)=(bP m:Int)/\Sp D h3 []:=λhh=>by
    refine⟨?_,.zip K.ac⟩;by_cases h0:0<i4 m
    .have:bg=dF m:=i6
     rw[this];rfl
    .have:m=[]:=List.eq_nil_of_length_eq_zero i6;subst this;rw[bP,kX,kX]
   obtain⟨st,bd⟩:=z6 (bD m bg)
   rw[<-bd]at J z K fin⊢;obtain⟨b,f⟩:=st;dsimp only at J z K fin⊢;have u:i4 g=i4 f:=i6
   have o:bD m (bg+1)=il (b,f) bg:=by rw[bD,<-bd]
   refine aJ ?_;refine ae (λe0=>?_) λe0=>fin i6;have ap:m≠[]:=λhh=>by rw[hh]at b0;simp at b0;omega
   have hw:=a5 ap;refine(K.IY u λ_=>rfl).get 0 i5 i6 λr0 cc=>?_;have bk:=cc.len;rw[J.1 _ (qe _)]at bk;refine ae (λe1=>?_) λe1=>fin i6;have c4:bg<n:=i6
   have a7:fm h3 s 1 aB f:=K.IY u λ_=>rfl;let P:Nat->Bool:=λi=>decide (b<=i)&&(aM (aC f i) bg !=0);have cf:(qn b).find? P=eH:=Jd λj hj=>by show(decide (b<=j)&&_)=eX;rw[ii i6];rfl
   refine an (λi:Nat=>(Rs ((qn i).find? P),(i:Int))) (λi h'=>h'=h3/\b<=i/\i<=i4 f) (λi=>i4 f-i) b (by rw[cf];rfl) ⟨i5,qi _,z⟩ ?_;rintro i h4 ⟨rfl,ca,c8⟩
   try dsimp only
   refine ae (λS=>?_) (λS=>?_)
   .have bs:i<i4 f:=i6
    have ce:f[i].length=n:=J.1 _ (qe _);refine a7.get i i5 bs λr hr=>?_;refine hr.bm bg i5 i6 _ i5 ?_;have H:aM (aC f i) bg=f[i][bg]'i6:=by rw[bv bs,Cm]
    rw[af ((i:Int)+1)];have L:=find_range_succ P i;have nx:∀x:Int,x=Rs ((qn (i+1)).find? P)->∃G:Nat,(x,(i:Int)+1)=(Rs ((qn G).find? P),(G:Int))/\(h4=h4/\b<=G/\G<=i4 f)/\f.length-G<i4 f-i:=λx hx=>
     ⟨i+1,by rw[hx];rfl,⟨i5,i6,i6⟩,i6⟩
    refine bH (λe3=>?_) (λe3=>?_)
    .have ao:P i=eS:=by show(decide (b<=i)&&(aM (aC f i) bg !=0))=eS;rw[hU ca,H];simp;exactλh0=>e3 (by rw[h0];rfl)
     rw[ao,g0 rfl]at L;refine ae (λe4=>nx _ ?_) (λe4=>nx _ ?_)
     .cases hf:(qn i).find? P with
      |none=>rw[L,hf];rfl
      |some x=>rw[hf]at e4;simp only[Rs]at e4;omega
     .cases hf:(qn i).find? P with
      |none=>rw[hf]at e4;simp[Rs]at e4
      |some x=>rw[L,hf];rfl
    .have ao:P i=eX:=by show(decide (b<=i)&&(aM (aC f i) bg !=0))=eX;rw[H,uc.1 e3];simp
     rw[ao]at L;refine nx _ ?_;rw[L]
     cases(qn i).find? P<;>rfl
   .have b4:i=i4 f:=i6
    subst b4;have a4:(qn f.length).find? P=iJ f b bg:=rfl;rw[a4];cases hb:iJ f b bg with
    |none=>
     refine ae (λ_=>?_) λS=>absurd i7 S;refine⟨(g,bg+1),?_,⟨i9,cr,?_⟩,i9⟩
     ·(try dsimp only);rw[o,il,hb,af _];rfl
     ·(try dsimp only);rw[o,il,hb];exact K
    |some at_=>
     have hh:=oA hb;refine ae (λS=>absurd (show((at_:Nat):Int)<0 from S) i6) λ_=>?_;have ar:b<i4 f:=i6
     have hi:=hh.2.1;have a2:=K.seq 0 i5 λ_=>rfl;refine aJ ?_;refine a2.jS b i5 i6 λ_ _ _=>?_;refine a2.jS at_ i5 i6 λ_ _ _=>?_;refine K.set ag 0 i5 (λ_=>rfl) i5 at_ i5 i6 (g[b]'i6) i5 i5 i5 λh5 H5=>⟨A0,?_⟩
     refine H5.set ag 0 i5 (λ_=>rfl) i5 b i5 jj (g[at_]'i6) i5 i5 i5 λh6 H6=>⟨A0,?_⟩
     have Q:Sp D h6 (lD s ((g.set at_ (g[b]'i6)).set b (g[at_]'i6)) (gW f b at_)):=by have:=H6.Ve (at_+1) (b+1) (A:=aq 5 (g[at_]'i6) 1 aB f[at_]) (A2:=aq 5 (g[b]'i6) 1 aB f[b]) (fo u at_ hi) (fo u b ar);show aa _ D h6 (aq 34 s 1 bx _::bu 5 1 aB _ _);rw[Xx,<-Fl u at_ b hi ar];exact this
     obtain⟨q,ad⟩:=z6 ((g.set at_ (g[b]'i6)).set b (g[at_]'i6))
     rw[<-ad]at Q;have c1:i4 q=i4 f:=by rw[ad];simp;omega
     obtain⟨y,V⟩:=z6 (gW f b at_)
     have al:aU n y:=by rw[V];exact AS J.1 ar hi
     have c0:i4 y=i4 f:=by rw[V];exact kV _ _ _
     rw[<-V]at Q;have R:i4 q=i4 y:=i6
     have p:b<i4 y:=i6
     refine aJ ?_;have gt:=lV (a:=s) R b p;have lt:y[b].length=n:=al _ (qe _);have b2:=Q.seq 0 i5 λ_=>rfl;refine b2.jS b i5 i6 λc5 ab _=>?_;have ah:=Q.seq (b+1) gt λ_=>rfl;refine ah.bm bg i5 i6 _ i5 ?_;refine b2.jS b i5 i6 λc2 a3 _=>?_;refine(Tx _ h6).mono ?_;rintro v h7 ⟨rfl,rfl⟩;refine⟨_,i5,⟨a3,ab,A0⟩,?_⟩;refine(NH _ _ _ h7 ah i6).mono ?_;rintro v h8 ⟨r,rfl,R8⟩;refine⟨r,i5,⟨mS ab R8.ac,A0⟩,?_⟩;have H8:=Q.comp R8
     try dsimp only
     refine H8.set ag 0 i5 (λ_=>rfl) i5 b i5 i6 r i5 i5 i5 λh9 H9=>⟨A0,?_⟩
     have am:y[b]=aC y b:=(bv p).symm;have cl:(y[b])[bg]'i6=aM (aC y b) bg:=by rw[Cm (by rw[bv p];omega)];simp only[bv p]
     have a9:Sp D h9 (lD s (q.set b r) (jA b bg y)):=by have h8:Sp D h9 ((aq 34 s 1 bx (q.set b r)::bu 5 1 aB q y)++[aq 5 r 1 aB (scaleB (Gf.inv ((y[b])[bg]'i6)) y[b])]):=H9;have h9:=h8.OI (b+1) (by simp[jd R];omega);rw[cl,am]at h9;show aa _ D _ (aq 34 s 1 bx _::bu 5 1 aB _ (y.set b _));rw[<-je R];exact h9
     obtain⟨W,Z⟩:=z6 (q.set b r)
     obtain⟨c,X⟩:=z6 (jA b bg y)
     rw[<-Z,<-X]at a9;have c7:i4 W=i4 f:=by rw[Z];simp;omega
     have bb:i4 c=i4 f:=by rw[X,ng];omega
     have M:aU n c:=by rw[X];exact te al p
     have N:b<i4 c:=i6
     have I:il (b,f) bg=(b+1,dD b bg c f.length):=by rw[il];(try dsimp only);rw[hb,X,V]
     refine an (λt:Nat×List Sl=>(t.1:Int)) (λt h'=>t.1<=i4 c/\t.2.length=i4 c/\Sp D h' (lD s t.2 (dD b bg c t.1))) (λt=>i4 c-t.1) (0,W) i5 ⟨js,i9,by rw[LV];exact a9⟩ ?_;rintro⟨k,F⟩ b1 ⟨c6,bl,E⟩;dsimp only at*;have cq:=nh b bg c k;have Y:i4 F=i4 (dD b bg c k):=by rw[cq];exact bl
     refine ae (λe=>?_) (λe=>?_)
     .have B:k<i4 c:=i6
      have br:aC (dD b bg c k) k=aC c k:=by rw[ni B,g9 i6]
      have e4:(dD b bg c k)[k]'i6=aC c k:=by rw[<-br,bv]
      have gk:=lV (a:=s) Y k i6;rw[e4]at gk;have lk:=ci M B;rw[af ((k:Int)+1)];have skip:dD b bg c (k+1)=dD b bg c k->∃G:Nat×List Sl,(k:Int)+1=(G.1:Int)/\(G.1<=i4 c/\G.2.length=i4 c/\Sp D b1 (lD s G.2 (dD b bg c G.1)))/\c.length-G.1<i4 c-k:=λcd=>
       ⟨(k+1,F),i5,⟨i9,bl,by dsimp only;rw[cd];exact E⟩,i9⟩
      refine aJ ?_;have U:=E.seq 0 i5 λ_=>rfl;have ax:=E.seq (k+1) gk λ_=>rfl;have O:(aC c k)[bg]'i6=aM (aC c k) bg:=(Cm).symm;refine bH (λS=>?_) (λS=>tK i5 (skip ?_))
      .have T:k≠b:=λhh=>S (by rw[hh]);refine U.jS k i5 i6 λ_ _ _=>?_;refine ax.bm bg i5 i6 _ i5 ?_;refine bH (λe3=>?_) (λe3=>skip ?_)
       .have am:aC (dD b bg c k) b=aC c b:=by rw[ni N,g9 i6]
        have e5:(dD b bg c k)[b]'i6=aC c b:=by rw[<-am,bv]
        have gt:=lV (a:=s) Y b i6;rw[e5]at gt;have lt:=ci M N;refine U.jS k i5 i6 λa1 b6 _=>?_;refine ax.bm bg i5 i6 _ i5 ?_;refine U.jS b i5 i6 λ_ _ _=>?_;refine U.jS k i5 i6 λ_ _ _=>?_;refine(Gb _ _ _ (aC c b) (aC c k) b1 (E.seq (b+1) gt λ_=>rfl) ax i6 i6).y0 λw c9 bq=>⟨w,i5,⟨mS b6 bq.ac,A0⟩,?_⟩;have cp:=E.comp bq
        skip
        refine cp.set ag 0 i5 (λ_=>rfl) i5 k i5 i6 w i5 i5 i5 λcn b3=>⟨A0,?_⟩
        refine⟨(k+1,F.set k w),i5,⟨i9,jj,?_⟩,i9⟩
        try dsimp only
        rw[Ex B T];have b9:Sp D cn ((aq 34 s 1 bx (F.set k w)::bu 5 1 aB F (dD b bg c k))++[aq 5 w 1 aB (cB ((aC c k)[bg]'i6) (aC c b) (aC c k))]):=b3;have a6:=b9.OI (k+1) (by simp[jd Y];omega);rw[O]at a6;show aa _ D _ (aq 34 s 1 bx _::bu 5 1 aB _ ((dD b bg c k).set k _));rw[<-je Y];exact a6
       .have hz:aM (aC c k) bg=0:=by rw[<-O];exact uc.1 e3
        rw[Ex B T,hz,Xy (by rw[ci M N,lk])];apply zp;intro j;rw[qV];split
        .rename_i b7;subst b7;rw[g0 i6,qc i6,e4]
        .rfl
      .have T:k=b:=i6
       subst T;exact LW
     .have b5:k=i4 c:=i6
      subst b5;refine⟨(F,bg+1),?_,⟨i9,i9,?_⟩,i9⟩
      ·(try dsimp only);rw[o,I,af _,af _];rfl
      ·(try dsimp only);rw[o,I,<-bb];exact E
  .rintro d h3 ⟨rfl,R3⟩;have z:=pO m (dF m);rw[(gA hm _).2]at z;have br:bP m=(bD m (dF m)).1:=rfl;exact⟨⟨i6,i6⟩,⟨s.ptr,bP m,s.cap⟩,js,i5,R3⟩
theorem Rv(a:Sl)(m:aO)(n:Nat)(h:f9)(e:fm h a 1 aB m)(d:aU n m)(g:n<=64)(f:i4 m<=2^30):
  ai kg 144 #[a] h λv h'=>v=xU ka (bP m)/\Sp h h' []:=by
 refine ts Tryz.func144 ?_;refine(LJ a m n h e d g f).y0 λr i ⟨c,b⟩=>⟨r,i5,by rw[c],b⟩
theorem LK(p:Pm)(seed:Int)(ids:Sl)(l:av)(h:f9)(m:Rd h ids 1 az l)(n:i4 l<=2^29):ai kg 85 #[ir p,xU ke seed,ids] h λv h'=>v=xU ka (nV p seed l)/\Sp h h' []:=by
 refine ts Tryz.func85 ?_ (args:=[p,(xU ke (seed:Int)),ids]);refine(Sp.refl h).boxed λa g b=>?_;refine⟨p,(b.box 0 i5).aE _ i5,(LH p seed ids l g (Seq.up m b.ac) i6).mono ?_⟩;rintro v e ⟨r,rfl,i⟩;have d:=b.comp i;have j:=HQ p seed l;have c:(bp p).toNat<=64:=by
  unfold bp;split
  .rename_i k;have:=(bK p).1 k;omega
  .omega
 refine⟨r,i5,(Rv r _ _ e (d.DJ 1 i5) (jr p seed l) c i6).x8 λh3 f=>?_⟩;exact⟨_,i5,i5,.zip (d.comp f).ac⟩
theorem Rw(p:Pm)(seed:Int)(ids:Sl)(l:av)(h:f9)(r:Rd h ids 1 az l)(d:i4 l<=2^29):ai kg 31 #[ir p,xU ke seed,ids] h λv h'=>v=xY (eK p seed l)/\Sp h h' []:=by refine ts Tryz.func31 ?_ v6 [(1,(.l [0,1,2,3,4,5,7,6,8,9,10,11]))] (args:=[p,(xU ke (seed:Int)),ids]);refine(Sp.refl h).boxed λa o f=>?_;refine⟨p,(f.box 0 i5).aE _ i5,(mT p o).mono ?_⟩;rintro v j ⟨rfl,q⟩;have c:=f.comp q;refine⟨_,i5,A0,aP (λe=>?_) λe=>⟨A0,A0,u6,.zip c.ac⟩⟩;have i:=c.box 0 i5;refine⟨p,i.aE _ i5,p,i.aE _ i5,(LK p seed ids l j (Seq.up r c.ac) d).mono ?_⟩;rintro v h3 ⟨rfl,k⟩;have g:=c.comp k;have b:=g.box 0 i5;refine⟨_,i5,⟨b.cell0 i5,b.cell i5,b.cell i5,A0⟩,(rI p h3).x8 λs m=>?_⟩;exact⟨_,i5,A0,u6,.zip (g.comp m).ac⟩
section
variable {C:Int->aL}
structure ajF (W:bX) (n:Nat):Prop where
 nd:W.flatten.Nodup
 mem:∀y,y∈W.flatten↔∃j:Nat,j<n/\y=j
structure ajX (m:au) (live:av) (t:Int) (e:Qw.bU) (n0:Nat) (ds':aD) (err:Int) (k:Nat):Prop where
 upto:ajF (dz m ds' e.object ((0:Nat):Int) live) (n0+k)
 Nm:k<=64
 most:err=12->k=64
 last:err=0->0<k->∃Wp:bX,Wp.length=live.length/\oh m.p (cg e.object 0 (e.tries.getD 0 0)) Wp t.toNat≠eH/\∀i y,y∈(dz m ds' e.object ((0:Nat):Int) live).getD i []->y+1≠((n0+k:Nat):Int)->y∈Wp.getD i []
def ajG(m:au)(ds:aD)(k:Int):Nat:=match aT ds k with|some d=>i4 (dJ m d.l)|none=>0
def aiC(m:au)(ds:aD)(live:av):Nat:=(live.map (ajG m ds)).sum
end
section
variable {p:Pm} {C:Int->aL}
structure Kept (m:au) (C:Int->aL) (ds:aD) (r:Nat×Int×Pow×aD) (M:Nat):Prop where
 pow:r.2.2.1=Pow.new
 err:r.2.1≠14
 arg:r.2.1=1->r.1=0
 Nm:r.1<=i4 (agn m.aA)*M
 keep:jx m ds r.2.2.2
 sto:eU m C r.2.2.2
 tot:aiC m r.2.2.2 (aK ds m.drives)=aiC m ds (aK ds m.drives)+r.1
end
theorem Xz{m:au}{ds:aD}(a:∀k d,aT ds k=dB d->i4 d.l<=512)(o b:Int)(live:av):∀l∈dz m ds o b live,i4 l<=512:=λl c=>by
 obtain⟨k,_,rfl⟩:=FR c;rw[qp];exact Dz (m:=m) (ds:=ds) (o:=o) (b:=b) (k:=k) a
section
variable {pw:f7}
theorem TE(o b t:Int)(h:f9):ai kg 32 #[xU ka o,xU ka b,xU ka t] h λv h'=>v=xU ke (cg o b t)/\h'=h:=by refine Ag o b t ⟨?_,i5⟩;congr 1;simp only[wrap_u32];unfold cg;omega
theorem Kz{ds:aD}{m:au}{L:av}{i:Nat}(a:i<i4 L):(L.take (i+1)).any (mM m ds)=((L.take i).any (mM m ds)||mM m ds L[i]):=by rw[aG _ _ a,List.any_append,List.any_cons,List.any_nil,Bool.or_false]
theorem adG(m:au)(ds:aD)(o b:Int):(dz m ds o b (aK ds m.drives)).flatten=kw m ds o b:=by
 unfold dz kw ff;rw[List.map_flatMap]
 induction aK ds m.drives with
 |nil=>rfl
 |cons k l ih=>
  rw[List.map_cons,xh,zg,ih];simp[zg]
theorem TF(x:eE)(e:Qw.bU)(J:bh m=eS)(K:x.2.1=e.object)(T:Rd h x.2.2.2 1 az e.tries)(br:e.tries.length<=8)(H:aa B h0 h (bo a pw da offs w ds m::As)):
  ai kg 10 #[xW (dB a),xZ (bW x).toArray] h λv h'=>v=xY (nK m ds e)/\Sp h h' []:=by
 refine ts Tryz.func10 ?_ (xc (xc (xc (u9 (xc (v7 (ws [(6,lj),(19,aR)] [(6,7),(8,9),(19,32)] v6))) (u9 (xc (v7 (ws [(6,lj),(35,aR)] [(6,7),(9,12),(13,14),(35,67)] (xc (xc (u9 (v7 (xc (xc (x0 [(11,cE),(46,aR)] [(11,12),(13,14),(46,54)])))) v6)))))) v6))))) [(6,(.l [0,1,2,3,5,4,6,7,8])),(17,(.l [0,1,2,3,4,5,6,7,9,8,10,11,12]))] (args:=[(dB a),x]);have ad:∀k d,aT ds k=dB d->d.l.length<=512:=λk d X=>by have:=(lY H).2 k d X;omega
 refine(Sp.refl h).boxed λG h1 H1=>?_;refine(Ir J (H.up H1.ac)).y0 λy h2 R2=>⟨y,i5,(H1.comp R2).alloc ag i5 λa3 h3 H3=>?_⟩;refine H3.storeAll ag 2 i5 i5 (aV y) i5 i5 i5 i5 λh4 H4=>?_;refine(Iq J (H.up H4.ac)).y0 λr h5 R5=>⟨r,i5,?_⟩;obtain⟨L,I⟩:=z6 (aK ds m.drives)
 have ax:L.length<=64:=by rw[I];exact qM (qE _ _) (gy J)
 have ar:∀k∈L,∃d,aT ds k=dB d:=λk hk=>by rw[I]at hk;exact(ge hk).2.imp λ_ h=>h.1
 rw[<-I]at R5;have H5:=H4.comp R5;refine an (λi:Nat=>((L.take i).any (mM m ds),(i:Int))) (λi h'=>i<=L.length/\Sp h h' [ak G 51 (bW x),bJ y m,ak a3 48 (aV y),aq 3 r 1 az L]) (λi=>L.length-i) 0 i5 ⟨zj _,H5⟩ ?_;rintro i h6 ⟨hi,o⟩
 try dsimp only
 have a9:=(o.own 3 i5).len;have f:=o.box 2 i5;refine ae (λe1=>?_) λe1=>?_
 .have A:i<L.length:=by have Y:(i:Int)<(r.len:Int):=e1;omega
  refine(o.seq 3 i5 λ_=>rfl).bm i i5 A L[i] i5 ?_;have next:∀{h':f9} {c:Bool},c=(L.take (i+1)).any (mM m ds)->Sp h h' [ak G 51 (bW x),bJ y m,ak a3 48 (aV y),aq 3 r 1 az L]->
    ∃t:Nat,(c,(qd ka ((i:Int)+1):Int))=((L.take t).any (mM m ds),(t:Int))/\(t<=L.length/\Sp h h' [ak G 51 (bW x),bJ y m,ak a3 48 (aV y),aq 3 r 1 az L])/\L.length-t<L.length-i:=λ{h' c} hc H'=>
   ⟨i+1,by rw[af _,hc];rfl,⟨A,H'⟩,i6⟩
  refine aP (λhy=>⟨A0,A0,next (by rw[Kz A,hy];rfl) o⟩) λhn=>?_;refine⟨y,f.aE _ i5,(Bq L[i] (H.up o.ac)).x7 ?_⟩;obtain⟨d,X⟩:=ar L[i] (qe A);obtain⟨bd,U⟩:=GG X (H.up o.ac);rw[U];refine⟨_,i5,⟨f.cell0 i5,f.cell i5,f.cell i5,f.cell i5,f.cell i5,f.cell i5,f.cell i5,f.cell i5,A0⟩,(ZD y m X U (o.at 1 i5) (gI J) (H.up o.ac)).x8 λh8 R8=>?_⟩;refine⟨_,i5,A0,next ?_ (o.up R8.ac)⟩;rw[Kz A,hn,Bool.false_or];unfold mM;rw[X]
 have ao:i=L.length:=by have Y:¬(i:Int)<(r.len:Int):=e1;omega
 rw[ao,qL];have al:L.any (mM m ds)=jc m ds:=by rw[I];rfl
 rw[al];refine⟨x.2.2.2,(o.box 0 i5).cell i5,?_⟩;have o:=o.bO [0,1,2];obtain⟨F,hF⟩:∃F:Nat->Bool,F=λk:Nat=>eK m.p (cg e.object (k:Int) (e.tries.getD k 0)) (kw m ds e.object (k:Int)):=⟨_,rfl⟩
 have Z:nK m ds e=(jc m ds&&(qn e.tries.length).all F):=by rw[hF];rfl
 refine an (λj:Nat=>(jc m ds&&(qn j).all F,(j:Int))) (λj h'=>j<=e.tries.length/\Sp h h' [ak G 51 (bW x),bJ y m,ak a3 48 (aV y)]) (λj=>e.tries.length-j) 0 js ⟨zj _,o⟩ ?_;rintro j h9 ⟨hj,P⟩
 try dsimp only
 have bq:=T.len;refine ae (λe2=>?_) λe2=>?_
 rotate_left
 .have am:j=e.tries.length:=by have Y:¬(j:Int)<(x.2.2.2.len:Int):=e2;omega
  rw[am,<-Z];exact⟨i5,.zip P.ac⟩
 have E:j<e.tries.length:=by have Y:(j:Int)<(x.2.2.2.len:Int):=e2;omega
 refine(T.up P.ac).bm j i5 E e.tries[j] i5 ?_;refine⟨x.2.1,(P.box 0 i5).cell i5,(MO x.2.1 j J (H.up P.ac)).y0 λq bk M=>?_⟩;refine⟨q,i5,?_⟩;obtain⟨V,hV⟩:=z6 (dz m ds x.2.1 j (aK ds m.drives))
 rw[<-hV]at M;have Q:∀l∈V,l.length<=512:=by rw[hV];exact Xz ad _ _ _
 have bl:V.length<=64:=by rw[hV,pC,<-I];exact ax
 have S:∀k,(V.take k).flatten.length<=32768:=λk=>by
  have h2:=QZ (W:=V.take k) λl hl=>Q l (List.mem_of_mem_take hl);have h3:(V.take k).length<=64:=ln
  have h4:=Nat.mul_le_mul_right 512 h3;omega
 have N:=(P.comp M).nil 3 1 az;have a6:q.len=V.length:=(aa.pM (N.bO [3])).1;refine an (λz:Sl×Nat=>(z.1,(z.2:Int))) (λz h'=>z.2<=V.length/\Sp h h' [ak G 51 (bW x),bJ y m,ak a3 48 (aV y),fC 22 q 3 1 az V,aq 3 z.1 1 az (V.take z.2).flatten]) (λz=>V.length-z.2) (⟨eH,0,0⟩,0) i5 ⟨zj _,N⟩ ?_;rintro⟨u,k⟩ ab ⟨hk,b⟩;dsimp only at hk b⊢;refine ae (λe3=>?_) λe3=>?_
 .have D:k<V.length:=by have Y:(k:Int)<(q.len:Int):=e3;omega
  refine fm.get (aa.Cb (b.bO [3]) λ_=>rfl) k i5 D λrr a4=>?_;have a8:=Q _ (qe D);refine b.append ag 4 i5 gz ⟨_,_,i5,i5⟩ i5 i7 (λ_=>rfl) a4 eZ (by have:=S k;omega) λs' bb ah=>?_;refine⟨(s',k+1),j0,⟨D,?_⟩,i9⟩
  try dsimp only
  rw[aG _ _ D,List.flatten_append,xh,List.flatten_nil,List.append_nil];exact ah
 have ap:k=V.length:=by have Y:¬(k:Int)<(q.len:Int):=e3;omega
 have O:=S k;rw[ap,qL]at b O;have a5:V.flatten=kw m ds e.object j:=by rw[hV,adG,K]
 have next:∀{h':f9} {c:Bool} {R:List HP},c=(jc m ds&&(qn (j+1)).all F)->Sp h h' (ak G 51 (bW x)::bJ y m::ak a3 48 (aV y)::R)->
   ∃t:Nat,(c,(qd ka ((j:Int)+1):Int))=(jc m ds&&(qn t).all F,(t:Int))/\(t<=e.tries.length/\Sp h h' [ak G 51 (bW x),bJ y m,ak a3 48 (aV y)])/\e.tries.length-t<e.tries.length-j:=λ{h' c R} hc H'=>
  ⟨j+1,by rw[af _,hc];rfl,⟨E,aa.HG (As:=[_,_,_]) (H'.aI 3 [0,1,2])⟩,i6⟩
 have s:(jc m ds&&(qn (j+1)).all F)=((jc m ds&&(qn j).all F)&&F j):=by rw[zt,List.all_append,List.all_cons,List.all_nil,Bool.and_true,Bool.and_assoc]
 refine aP (λhy=>?_) λhn=>⟨A0,A0,next (by rw[s,hn];rfl) b⟩
 have a2:cN ab y m:=b.at 1 i5;have a0:(y.2.2.1,y.2.2.2.1,y.2.2.2.2.1)=m.p:=a2.p;have g:=b.box 2 i5;refine⟨(y.2.2.1,y.2.2.2.1,y.2.2.2.2.1),g.cells 2 _ i5,x.2.1,(b.box 0 i5).cell i5,(TE x.2.1 j e.tries[j] ab).x7 ?_⟩;refine⟨_,i5,⟨g.cell (j:=2) i5,g.cell (j:=3) i5,g.cell (j:=4) i5,A0⟩,?_⟩;rw[a0];refine(Rw m.p _ u V.flatten _ (b.seq 4 i5 λ_=>rfl) i6).x8 λa7 ay=>⟨_,i5,A0,next ?_ (b.up ay.ac)⟩;rw[s,hy,Bool.true_and,hF,a5,K]
 try dsimp only
 rw[gh 0 E]
end
def Rx{α:Type}(le:α->α->Bool)(a:α):List α->List α
 |[]=>[a]
 |b::l=>if le a b then a::b::l else b::Rx le a l
def KA{α:Type}(le:α->α->Bool):List α->List α
 |[]=>[]
 |a::l=>Rx le a (KA le l)
theorem Ry{α:Type}{le:α->α->Bool}{a:α}{l2:List α}(d:∀c∈l2,le a c=eS):∀l1:List α,(∀b∈l1,¬le a b=eS)->Rx le a (l1++l2)=l1++a::l2
 |[],_=>by
  cases l2 with
  |nil=>rfl
  |cons c l=>exact g0 (d c qQ)
 |b::l,h=>by
  show(if le a b then a::b::(l++l2)else b::Rx le a (l++l2))=_;rw[g9 (h b qQ),Ry d l λc e=>h c (List.mem_cons_of_mem _ e)];rfl
theorem UA{α:Type}{le:α->α->Bool}(o:Ord le):∀l:List α,l.mergeSort le=KA le l
 |[]=>by simp[KA]
 |a::l=>by
  obtain⟨l1,l2,g,f,h⟩:=List.mergeSort_cons o.trans o.total a l;have d:=wF o.trans o.total (a::l);rw[g]at d⊢;show _=Rx le a (KA le l);rw[<-UA o l,f,Ry (λc e=>((List.pairwise_append.1 d).2.1.imp λh=>h)|>λk=>(List.pairwise_cons.1 k).1 c e) l1 λb i=>j1]
theorem ajH:Ord (λx y:Int=>decide (x<=y)):=⟨λa b c d e=>j1,λa b=>j1⟩
def XA(n:Nat)(seed id:Int):av:=KA (λx y=>decide (x<=y)) ((eC n (pN (pN (ta seed id))) (upto n) (uu (pN (ta seed id)) n)).2.take (uu (pN (ta seed id)) n))
theorem aiD(n:Nat)(seed:Int):ly n seed=λid=>fT n (XA n seed id):=funext λid=>by
 unfold ly df AR gC XA;rw[UA ajH]
def XB(p:Int×Int×Int)(o b:Int)(k:Nat):Bool:=bB p&&(((bP (if bB p then bj p.1.toNat p.2.1.toNat++((fj p).filter bE).map (λid=>fT (bp p).toNat (XA (bp p).toNat (cg o b k) id))else[]):Nat):Int)==bp p)
theorem aiE(p:Int×Int×Int)(o b:Int):Dk p o b=XB p o b:=funext λk=>by
 unfold Dk eK nV db XB;rw[aiD]
abbrev GO:Int×Int×Int:=(1,1,4)
theorem ago:(nA GO 0 0).isSome=eS:=by
 unfold nA;rw[aiE,];have h:(qn 16).any (XB GO 0 0)=eS:=j5
 grind
abbrev IG:ByteArray:=⟨#[97]⟩
def jM:au:=cV GO 2 [20,20]
theorem adH{D:aD}(o:i4 D=64)(r:∀s,aT D s=if s∈bz [20,20] 2 then dB ⟨(([20,20]:av).getD s.toNat 0).toNat,ba jM,0,[],eX,eX⟩else eH):
  ∃(n:au) (ds':aD),dv jM 0 Pow.new D IG [97,98,99]=(0,n,Pow.new,ds')/\bh n=eS/\iI n 0 Pow.new ds' IG=([97,98,99],0):=by
 have E:sq GO 2 [20,20]=0:=j5
 obtain⟨S,F,L⟩:=Nd (m:=jM) rfl E i7 o r λ_=>[];have d:jM.drives=[0,1]:=j5
 have I:Inv jM (λ_=>[]) D 0:=⟨S,F,L,λe B=>(by cases B),(by rw[d];decide),i7,i7⟩
 have g:aK D jM.drives=jM.drives:=F.aK;have f:cT jM (cF Pow.new 0) D IG 3=0:=by unfold cT;rw[g,d,g9 i7,g9 j5,g9 i7,g9 i7,g9 i7]
 have x:i4 (ba jM)=1:=j5
 have i:i4 (splitB jM.p [97,98,99])=1:=j5
 rcases I.put (name:=IG) (b:=[97,98,99]) qQ with⟨e,hne,hq⟩|⟨_,t,ds',_,hq,I'⟩
 .exfalso;rcases Ly (offs:=0) (name:=IG) (b:=[97,98,99]) iF S with⟨⟨e',hne',hq'⟩,hcode⟩|⟨_,t,ds',_,hq2,_,_⟩
  .rw[hq']at hcode;dsimp only at hcode;rcases hcode with h|⟨_,⟨_,h⟩|⟨_,t,ht,hf⟩⟩
   .exact hne' (h.trans f)
   .rw[i]at h;have v:=ago;have l:cW jM.p jM.next 1=(nA GO 0 0).map λt=>[(t:Int)]:=rfl;rw[l]at h;cases hh:nA GO 0 0 with
    |none=>rw[hh]at v;cases v
    |some t=>rw[hh]at h;cases h
   .obtain⟨_,A⟩:=MK (m:=jM) (offs:=0) (w:=Pow.new) (ds:=D) (name:=IG) (b:=[97,98,99]) iF S.len S.may;obtain⟨q,_,_⟩:=(A f).2 t ht;rw[(roomy (m:=jM) (w:=Pow.new) (live:=aK D jM.drives) (ds:=D) λk u=>?_).1]at hf
    .cases hf
    .have a:=aga (m:=jM) (t:=t) (b:=[97,98,99]) (live:=aK D jM.drives) q k (nb:=i4 (splitB jM.p [97,98,99])) (c:=1) (by rw[i];exact qi _);have j:k∈bz [20,20] 2:=by rw[g]at u;exact u
     refine⟨_,by rw[r,g0 j],i5,a.1,?_⟩;have G:(9+1*(jM.p.1+jM.extra).toNat:Nat)=12:=i7
     have l:=a.2;rw[G]at l;have z:((([20,20]:av).getD k.toNat 0).toNat:Int)=20:=by
      have:∀k∈bz [20,20] 2,((([20,20]:av).getD k.toNat 0).toNat:Int)=20:=j5
      exact this k j
     grind
  .rw[hq2]at hq;exact hne (congrArg Prod.fst hq).symm
 .have a:=I'.get (e:=⟨IG,jM.next,(3:Nat),t⟩) (kG.2 (.inr i5));refine⟨_,ds',hq,I'.sto.may,?_⟩;have y:jv (λ_=>[]) jM.next [97,98,99] jM.next=[97,98,99]:=by unfold jv;simp
  dsimp only at a;rw[y]at a;exact a
end Go.Qw
