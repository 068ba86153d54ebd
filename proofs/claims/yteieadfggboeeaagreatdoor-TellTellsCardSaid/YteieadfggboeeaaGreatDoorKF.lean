/- Part of the proofs that the laws of this seat answer true whatever the input reads, and leave it as it was; no condition. -/
import Derived.Test.YteieadfggboeeaaGreatDoorKA
import Derived.Test.YteieadfggboeeaaGreatDoorPlA
import Derived.Test.YteieadfggboeeaaGreatDoorPlK
import Derived.Test.YteieadfggboeeaaGreatDoorKE
import Derived.Test.YteieadfggboeeaaGreatDoorKB
set_option linter.unusedVariables false
set_option linter.unusedSimpArgs false
namespace Go.Qw
open Go Go.Vc Go.Proofs Wl
section
set_option maxRecDepth 20000
variable {B:aj} {h0 h:Heap} {As:List HP} {a pw:Addr} {offs:Int} {da:List (Option Addr)} {w:Pow} {ds:be}
theorem qE (x:cm) (m:bp) (hx:jE h x m) (ho:m.objs=[]) (H:ab B h0 h (aX bv a pw (bG x) offs da w ds::As)):
  ae Tryz.prog lI #[.pointer (some a)] h fun v h'=>v=.slice none 0 0∧h'=h:=by
 refine kX (some a) ?_
 unfold gS
 obtain⟨ok,hb⟩:=ab.iF H
 refine(lK (some a) (R:=fun v h'=>v=.bool (iB w offs)∧h'=h) ?_).mono ?_
 ·unfold ij
  refine bV (fun e=>by cases e) fun _=>(kA H).mono ?_
  rintro _ _ ⟨rfl,rfl⟩
  exact⟨_,rfl,rfl,rfl⟩
 rintro _ _ ⟨rfl,rfl⟩
 refine⟨_,rfl,bV (fun _=>⟨rfl,rfl⟩) fun _=>⟨a,rfl,x.2.2.2.2.2.2.2,hb.cell rfl,?_⟩⟩
 have hl:=cL.len hx.objs
 rw[ho]at hl
 refine aE (fun _:Unit=>((⟨none,0,0⟩:Sl),(0:Int))) (fun _ h'=>h'=_) (fun _=>0) () rfl rfl ?_
 rintro _ h1 rfl
 exact an (fun e=>absurd e (by rw[hl];decide)) fun _=>⟨rfl,rfl⟩
end
end Go.Qw
namespace Go.Qw
open Go Go.Vc Go.Proofs Wl
set_option maxRecDepth 100000
end Go.Qw
namespace Go.Qw
open Go Go.Vc Go.Proofs Wl
set_option maxRecDepth 100000
section
variable {B:aj} {h0 h h':Heap} {As:List HP} {a:Addr} {w:Pow}
end
end Go.Qw
namespace Go.Qw
open Go Go.Vc Go.Proofs Wl
abbrev ee (p s:Option Addr):List Value:=.pointer p::.pointer s::List.replicate 64 (.pointer none)
section
set_option maxRecDepth 20000
variable {B:aj} {h0 h:Heap} {As:List HP} {a pw a2 pw2 b b2:Addr} {offs:Int} {da da2:List (Option Addr)} {w:Pow} {ds:be} {mc:List Value}
theorem vT (pw s:Addr):ao Tryz.prog (Instr.build aN #[(0,.pointer (some pw)),(1,.pointer (some s))]) (.agg (ee (some pw) (some s)).toArray):=
 lZ ag (i:=_) rfl rfl rfl (vs:=[(0,.pointer (some pw)),(1,.pointer (some s))]) (cells:=(ee (some pw) (some s)).toArray) (by kernel_rfl)
theorem vU (p:Pm) (extra:Int) (s:Sl) (l:List Int) (hS:St B h0 As fun h=>Rd h s 1 aA l) (hl:l.length≤2^20) (H:ab B h0 h As):
  ae Tryz.prog kq #[kz p,.int .i64 extra,.slice s.ptr s.len s.cap] h fun v h'=>
   ((aO p extra Pow.new l).1≠0→v=.tuple #[.pointer none,.int .i64 (aO p extra Pow.new l).1]∧ab B h0 h' As)∧
   ((aO p extra Pow.new l).1=0→∃(b a pw:Addr) (x:cm) (da:List (Option Addr)),v=.tuple #[.pointer (some b),.int .i64 0]∧
    ab B h0 h' (af b aN (ee (some pw) (some a))::aX bv a pw (bG x) Pow.new.offs da (aO p extra Pow.new l).2.1 (aO p extra Pow.new l).2.2::hZ x (cv p extra l)::As)):=by
 refine oC p extra s ?_
 unfold lz
 refine H.boxed fun a1 h1 H1=>?_
 have H1:ab B h0 h1 (af a1 ew [.int .i64 p.1,.int .i64 p.2.1,.int .i64 p.2.2]::As):=H1.cz
 refine(vz h1).mono ?_
 rintro _ h2 ⟨pw,rfl,R2⟩
 have H2:=H1.im R2
 refine⟨_,rfl,p,(H2.box 1 rfl).bc _ rfl,?_⟩
 refine(tb p extra s l (hS.cons) hl H2).mono ?_
 rintro _ h3 ⟨Q1,Q0⟩
 by_cases e0:(aO p extra Pow.new l).1=0
 ·obtain⟨a,x,da,rfl,H3⟩:=Q0 e0
  refine⟨(some a,0),rfl,cT (fun e=>absurd rfl e) fun _=>⟨_,vT pw a,H3.boxed fun b h4 H4=>?_⟩⟩
  have H4:ab B h0 h4 (af b aN (ee (some pw) (some a))::aX bv a pw (bG x) Pow.new.offs da (aO p extra Pow.new l).2.1 (aO p extra Pow.new l).2.2::hZ x (cv p extra l)::af a1 ew [.int .i64 p.1,.int .i64 p.2.1,.int .i64 p.2.2]::As):=H4.cz
  exact⟨fun e=>absurd e0 e,fun _=>⟨b,a,pw,x,da,rfl,H4.bL 4 [0,1,2]⟩⟩
 ·obtain⟨rfl,H3⟩:=Q1 e0
  refine⟨(none,(aO p extra Pow.new l).1),rfl,cT (fun _=>⟨fun _=>⟨rfl,H3.rest⟩,fun e=>absurd e e0⟩) fun e=>absurd e e0⟩
theorem uL:iB (aO (1,1,1) 0 Pow.new [5]).2.1 Pow.new.offs=false:=by decide+kernel
end
end Go.Qw
namespace Go.Qw
open Go Go.Vc Go.Proofs Wl
section
set_option maxRecDepth 20000
variable {B:aj} {h0 h:Heap} {As:List HP} {a pw b:Addr} {offs:Int} {da:List (Option Addr)} {w:Pow} {ds:be}
theorem pH {p:Option Addr} (y:cC) (hy:y.1=4) (x:cm) (m:bp) (ho:m.objs=[]) (hd:iB w offs=false) (hbA:bH h b aN (ee p (some a))) (hx:jE h x m) (H:ab B h0 h (aX bv a pw (bG x) offs da w ds::As)):
  ae Tryz.prog jr #[.pointer (some b),eR y] h fun v h'=>v=jY (gp 0)∧Sp h h' []:=by
 refine iV (some b) y ?_
 unfold eY
 refine(Sp.refl h).boxed fun a1 h1 H1=>H1.alloc ag rfl fun a2 h2 H2=>aJ ?_
 have H2:Sp h h2 [af a1 av (bg y),af a2 aP (cE (gp 0))]:=H2
 refine⟨y.1,(H2.box 0 rfl).cell0 rfl,?_⟩
 refine bn (fun e=>absurd e (by omega)) fun _=>bn (fun e=>absurd e (by omega)) fun _=>bn (fun e=>absurd e (by omega)) fun _=>bn (fun _=>?_) fun e=>absurd hy e
 have P2:=H2.aq
 have hb2:=hbA.aq P2 hbA.lt
 refine⟨b,rfl,some a,hb2.cell rfl,(qE x m (hx.up P2) ho (ab.up H P2)).mono ?_⟩
 rintro _ _ ⟨rfl,rfl⟩
 refine⟨aG,rfl,?_⟩
 refine H2.store ag 1 rfl rfl 2 [.slice none 0 0] rfl rfl rfl (by decide) fun h3 H3=>?_
 have H3:Sp h h3 [af a1 av (bg y),af a2 aP (cE (gp 0))]:=H3
 have hb3:=hbA.aq H3.aq hbA.lt
 refine⟨b,rfl,some a,hb3.cell rfl,bV (fun e=>by cases e) fun _=>⟨b,rfl,some a,hb3.cell rfl,(kA (ab.up H H3.aq)).mono ?_⟩⟩
 rintro _ _ ⟨rfl,rfl⟩
 refine⟨_,rfl,bV (fun e=>by rw[hd]at e;cases e) fun _=>?_⟩
 refine⟨gp 0,(H3.box 1 rfl).bc _ rfl,H3.storeAll ag 1 rfl rfl (cE (gp 0)) rfl rfl rfl rfl fun h4 H4=>?_⟩
 exact⟨gp 0,(H4.box 1 rfl).bc _ rfl,rfl,.zip H4.aq⟩
theorem si {p:Option Addr} (y:cC) (hy:y.1=4) (x:cm) (m:bp) (ho:m.objs=[]) (hd:iB w offs=false) (hbA:bH h b aN (ee p (some a))) (hx:jE h x m) (H:ab B h0 h (aX bv a pw (bG x) offs da w ds::As)):
  ae Tryz.prog fB #[.pointer (some b),eR y] h fun v h'=>v=jY (gp 0)∧Sp h h' []:=by
 refine kb (some b) y ?_
 unfold fO
 refine(Sp.refl h).boxed fun a1 h1 H1=>H1.alloc ag rfl fun a2 h2 H2=>bV (fun e=>by cases e) fun _=>aJ ?_
 have H2:Sp h h2 [af a1 av (bg y),af a2 aP (cE (gp 0))]:=H2
 refine⟨y.1,(H2.box 0 rfl).cell0 rfl,aJ ?_⟩
 refine bn (fun e=>absurd e (by omega)) fun _=>bn (fun e=>absurd e (by omega)) fun _=>bn (fun e=>absurd e (by omega)) fun _=>bn (fun _=>?_) fun e=>absurd hy e
 refine bV (fun _=>?_) fun e=>by rw[hy]at e;cases e
 have P2:=H2.aq
 refine⟨y,(H2.box 0 rfl).bc _ rfl,(pH y hy x m ho hd (hbA.aq P2 hbA.lt) (hx.up P2) (ab.up H P2)).mono ?_⟩
 rintro _ h3 ⟨rfl,R3⟩
 refine⟨gp 0,rfl,?_⟩
 refine(ab.up H2 R3.aq).storeAll ag 1 rfl rfl (cE (gp 0)) rfl rfl rfl rfl fun h4 H4=>?_
 exact⟨gp 0,(H4.box 1 rfl).bc _ rfl,rfl,.zip H4.aq⟩
end
set_option maxRecDepth 1000000
theorem uM {B:aj} {h0 h:Heap} {As:List HP} (t:ByteArray) (H:ab B h0 h As):
  ae Tryz.prog iS #[.string t] h fun v h'=>∃c:Addr,v=.func (.func aW) #[] #[ptr c]∧ab B h0 h' (As++[af c bA [.string t]]):=by
 refine mX t ?_
 unfold jB
 exact H.boxed fun c h1 H1=>⟨c,rfl,H1⟩
theorem xW (s p t:ByteArray) (ht:(⟨(Lib.trimSuffix s.data.toList p.data.toList).toArray⟩:ByteArray)=t) (hs:s.size≤2^20) (h:Heap):ae Tryz.prog fA #[.string s,.string p] h fun v h'=>v=.string t∧h'=h:=by
 intro w hw
 refine(Tryz.strings_TrimSuffix s p w (by omega)).mono ?_
 rintro e w' ⟨rfl,rfl⟩
 exact⟨_,rfl,aL.refl _,by rw[ht],hw⟩
abbrev uN:ByteArray:=⟨#[108,105,115,116]⟩
abbrev jH:List UInt8:=[110,97,109,101,115]
theorem wO {B:aj} {h0:Heap} {b9 b11 b a pw:Addr} {offs:Int} {da:List (Option Addr)} {PW:Pow} {DS:be} {x:cm} {mn:bp} {m:Int} {l:Nat} {As:List HP} (ho:mn.objs=[]) (hd:iB PW offs=false)
  {a1:Act} {w1:World} (f1:Fits 47 a1 (cx [9,11,12] [ptr b9,ptr b11,.string aY])) (hm:cellOf w1.heap ⟨0,0,none⟩=some (.int .i64 m))
  (H:ab B h0 w1.heap (af b9 aC [ptr b]::af b aN (ee (some pw) (some a))::aX bv a pw (bG x) offs da PW DS::hZ x mn::af b11 am (bq none aG)::As)):
  (Code.block 1 (.seq (pc 7) (.seq (.seq (pc 8) (.cond (.tmp 37) (pc 9) (pc 10))) (pc 11)))).wpIn (Fr (some l)) 1 Tryz.prog (fun e a' w'=>e=.normal∧aL w1 w'∧∃r:Sl,ab B h0 w'.heap (af b9 aC [ptr b]::af b11 am (bq (some b11) r)::aw ay r 1 aB (jH++[10])::As)) a1 w1:=by
 refine wpIn_block (wpIn_seq (wpIn_mono (bU ag f1 (K:=fun vs h=>∃(b13:Addr) (y:cC),y.1=4∧vs=[ptr b9,ptr b11,ptr b13,.bool true]∧ab B h0 h (af b13 av (bg y)::af b9 aC [ptr b]::af b aN (ee (some pw) (some a))::aX bv a pw (bG x) offs da PW DS::hZ x mn::af b11 am (bq none aG)::As)) (cast (zl b9 b11 aY).symm ?_)) ?_))
 ·refine(xW aY ⟨#[10]⟩ uN (by decide) (by decide) w1.heap).mono ?_
  rintro _ h2 ⟨rfl,rfl⟩
  refine⟨uN,rfl,(mF uN m _ hm (by decide)).mono ?_⟩
  rintro _ h3 ⟨y,rfl,F,R⟩
  have e:iL (dl uN)=some {kind:=4}:=by decide
  rw[e]at F R⊢
  have H3:=ab.up H R.aq
  refine⟨(y,true),rfl,H3.alloc ag rfl fun b13 h4 H4=>?_⟩
  have H4:ab B h0 h4 (af b13 av (bg bW)::_):=H4.cz
  exact H4.storeAll ag 0 rfl rfl (bg y) rfl rfl rfl rfl fun h5 H5=>⟨b13,y,F.kind,rfl,H5⟩
 rintro _ a2 w2 ⟨rfl,k2,_,f2,b13,y,hy,rfl,H2⟩
 refine wpIn_seq (wpIn_seq (wpIn_mono (bU ag f2 (K:=fun vs h=>vs=[ptr b9,ptr b11,ptr b13,.bool true]∧h=w2.heap) (cast (zm b9 b11 b13 true).symm ⟨rfl,rfl⟩)) ?_))
 rintro _ a3 w3 ⟨rfl,k3,_,f3,rfl,g3⟩
 rw[←g3]at H2
 refine wpIn_cond_true (f3.eval rfl) (wpIn_mono (bU ag f3 (K:=fun vs h=>∃r:Sl,vs=[ptr b11]∧ab B h0 h (af b11 am (bq (some b11) r)::aw ay r 1 aB jH::af b9 aC [ptr b]::As)) (cast (zn b9 b11 b13 true).symm ?_)) ?_)
 ·refine⟨y,(H2.box 0 rfl).bc _ rfl,some b,(H2.box 1 rfl).cell0 rfl,y,(H2.box 0 rfl).bc _ rfl,?_⟩
  have hx:jE w3.heap x mn:=H2.at 4 rfl
  refine(si y hy x mn ho hd (H2.box 2 rfl) hx (H2.rest.rest.rest)).mono ?_
  rintro _ h4 ⟨rfl,R4⟩
  have H4:=ab.up H2 R4.aq
  have b4:=H4.box 0 rfl
  refine⟨gp 0,rfl,⟨b4.cell0 rfl,b4.cell rfl,b4.cell rfl,b4.cell rfl,b4.cell rfl,b4.cell rfl,b4.cell rfl,b4.cell rfl,b4.cell rfl,trivial⟩,?_⟩
  refine(qD y (gp 0) hy rfl rfl h4).mono ?_
  rintro _ h5 ⟨rfl,R5⟩
  have H5:=ab.up H4 R5.aq
  have H6:ab B h0 h5 (af b11 am (bq none aG)::aw ay aG 1 aB []::af b9 aC [ptr b]::As):=((H5.nil ay 1 aB).cz).bL 7 [6,0,2]
  refine⟨⟨#[110,97,109,101,115]⟩,rfl,trivial,(db b11 none aG [] ⟨#[110,97,109,101,115]⟩ (.inl rfl) (by decide) H6).mono ?_⟩
  rintro _ h7 ⟨rfl,r,H7⟩
  exact⟨(5,.nilIface),rfl,trivial,r,rfl,H7⟩
 rintro _ a4 w4 ⟨rfl,k4,_,f4,r,rfl,H4⟩
 refine wpIn_mono (bU ag f4 (K:=fun vs h=>∃r:Sl,ab B h0 h (af b9 aC [ptr b]::af b11 am (bq (some b11) r)::aw ay r 1 aB (jH++[10])::As)) (cast (yA b11).symm ?_)) ?_
 ·refine(db b11 (some b11) r jH ⟨#[10]⟩ (.inr rfl) (by decide) H4).mono ?_
  rintro _ h7 ⟨rfl,r',H7⟩
  exact⟨(1,.nilIface),rfl,r',H7.bL 3 [2,0,1]⟩
 rintro _ a5 w5 ⟨rfl,k5,_,_,r',H5⟩
 exact⟨rfl,((k2.trans k3).trans k4).trans k5,r',H5⟩
end Go.Qw
namespace Go.Qw
open Go Go.Vc Go.Proofs Wl
set_option maxRecDepth 1000000
theorem wP:pc 12=.region 12 #[⟨some 46,.call ⟨.value (.func 32),#[.tmp 11],#[65]⟩,9, "console.go:192",#[],none⟩,⟨some 8,.assign (.tmp 46),9, "console.go:192",#[⟨0,.data⟩,⟨0,.chain⟩,⟨0,.phase⟩],none⟩] false:=by kernel_rfl
noncomputable abbrev uO:Code:=.block 1 (.seq (pc 7) (.seq (.seq (pc 8) (.cond (.tmp 37) (pc 9) (pc 10))) (pc 11)))
noncomputable abbrev fp (fn:FuncId) (tmps:Array Value) (D:Nat) (st:LoopState):Loop:={state:=st,pending:=none,fn,tmps,params:=#[30],assign:=pc 6,body:=uO,defers:=D}
abbrev dV:ByteArray:=⟨#[110,97,109,101,115,10]⟩
theorem xX {h0:Heap} {b9 b11 b a pw c:Addr} {offs:Int} {da:List (Option Addr)} {PW:Pow} {DS:be} {x:cm} {mn:bp} {m:Int} (ho:mn.objs=[]) (hd:iB PW offs=false) (hm:cellOf h0 ⟨0,0,none⟩=some (.int .i64 m))
  {a5:Act} {w5:World} (f5:Fits 47 a5 (cx [9,11,29] [ptr b9,ptr b11,.func (.func aW) #[] #[ptr c]]))
  (H:Sp h0 w5.heap (af c bA [.string aY]::af b9 aC [ptr b]::af b aN (ee (some pw) (some a))::aX bv a pw (bG x) offs da PW DS::hZ x mn::af b11 am (bq none aG)::[])) {Q:Exit→Act→World→Prop}
  (hQ:∀(D:Nat) (w':World) (r:Sl),aL w5 w'→Sp h0 w'.heap [af b11 am (bq (some b11) r),aw ay r 1 aB (jH++[10]),ib D (.deferred (some []))]→Q .normal {a5 with defers:={target:=.collected D,args:=#[]}::a5.defers} w'):
  (Code.rangeFunc (.tmp 29) #[30] (pc 6) uO).wpIn (Fr none) 3 Tryz.prog Q a5 w5:=by
 refine wpIn_rangeFunc fun fn _=>?_
 obtain⟨W1,hW1⟩:∃W1,(w5.alloc (.deferred (some []))).alloc (.loop (fp fn a5.tmps w5.heap.size .ready))=W1:=⟨_,rfl⟩
 have k1:aL w5 W1:=by rw[←hW1];exact⟨rfl,rfl,rfl,Nat.le_refl _⟩
 have hg:a5.eval (.tmp 29)=.func (.func aW) #[] #[ptr c]:=f5.eval rfl
 have eg:∀args w,(callFunc aW args).run Tryz.prog w=.ok (.enter aW args) w:=enters_of Tryz.func51 (by kernel_rfl) rfl
 obtain⟨l,hl⟩:∃l,l=w5.heap.size+1:=⟨_,rfl⟩
 have H1:Sp h0 W1.heap (af c bA [.string aY]::af b9 aC [ptr b]::af b aN (ee (some pw) (some a))::aX bv a pw (bG x) offs da PW DS::hZ x mn::af b11 am (bq none aG)::[ib w5.heap.size (.deferred (some [])),ib l (.loop (fp fn a5.tmps w5.heap.size .ready))]):=by
  have:=(H.vS (.deferred (some []))).vS (.loop (fp fn a5.tmps w5.heap.size .ready))
  rw[Array.size_push,←hl]at this
  rw[←hW1];exact this
 refine⟨l,[{target:=.collected w5.heap.size,args:=#[]}],W1,{target:=.fn (.func aW) #[ptr c],args:=#[.func (.yield l) #[] #[]]},W1,aW,#[.func (.yield l) #[] #[],ptr c],W1,?_,?_,fun _ _=>trivial,?_,fun h=>(by cases h),?_⟩
 ·rw[←hW1,hl];exact run_enterLoop_outer _ _ _ _ _
 ·simp only[resolve,hg]
  simp[go_sem]
 ·simp[invoke,go_sem,eg]
 refine(wN (α:=Sl) l c _ (fun r=>[af b9 aC [ptr b],af b11 am (bq (some b11) r),aw ay r 1 aB (jH++[10]),ib w5.heap.size (.deferred (some [])),ib l (.loop (fp fn a5.tmps w5.heap.size .ready))]) W1 H1 ?_).mono ?_
 ·intro W kW HW
  have hL:W.heap[l]?=some (.loop (fp fn a5.tmps w5.heap.size .ready)):=HW.obj 7 rfl
  refine⟨fn,a5.tmps.setIfInBounds 30 (.string aY),pc 6,uO,(run_yield (args:=#[.string aY]) hL rfl).trans (by simp[fp]),roundIn_of_wpIn trivial ?_⟩
  obtain⟨_,rfl,f6⟩:=gP (ts:=[9,11,30]) (K:=fun vs=>vs=[ptr b9,ptr b11,.string aY]) (f5.put (d:=30) rfl (.string aY)) rfl
  have e6:a5.put (some 30) (.string aY)={tmps:=a5.tmps.setIfInBounds 30 (.string aY),defers:=[]}:=by
   have:=f5.defers
   cases a5;simp only at this;subst this;rfl
  rw[e6]at f6
  show Code.wpIn _ _ _ _ _ {tmps:=a5.tmps.setIfInBounds 30 (.string aY),defers:=[]} W
  refine wpIn_mono (bU (ro:=some l) ag f6 (K:=fun vs h=>vs=[ptr b9,ptr b11,.string aY]∧h=W.heap) (cast (zk b9 b11 aY).symm ⟨rfl,rfl⟩)) ?_
  rintro _ a7 w7 ⟨rfl,k7,_,f7,rfl,g7⟩
  have hL7:w7.heap[l]?=some (.loop (fp fn a5.tmps w5.heap.size .ready)):=by rw[g7];exact hL
  refine⟨_,run_beginRound hL7 rfl,?_⟩
  rw[←g7]at HW
  have H8:=(HW.oV 7 rfl (.loop (fp fn a5.tmps w5.heap.size .busy)))
  obtain⟨w8,hw8⟩:∃w8,w8=w7.putObj l (.loop (fp fn a5.tmps w5.heap.size .busy)):=⟨_,rfl⟩
  have k8:aL w7 w8:=by rw[hw8];exact⟨rfl,rfl,rfl,Nat.le_refl _⟩
  have H8:Sp h0 w8.heap (af b9 aC [ptr b]::af b aN (ee (some pw) (some a))::aX bv a pw (bG x) offs da PW DS::hZ x mn::af b11 am (bq none aG)::[af c bA [.string ql],ib w5.heap.size (.deferred (some [])),ib l (.loop (fp fn a5.tmps w5.heap.size .busy))]):=by
   rw[hw8];exact ab.de H8 [1,2,3,4,5,0,6,7]
  show Code.wpIn _ _ _ _ _ a7 (w7.putObj l (.loop (fp fn a5.tmps w5.heap.size .busy)))
  rw[←hw8]
  refine wpIn_mono (wO ho hd f7 (H8.aq.cell (cg hm) hm) H8) ?_
  rintro _ a9 w9 ⟨rfl,k9,r,H9⟩
  have hL9:w9.heap[l]?=some (.loop (fp fn a5.tmps w5.heap.size .busy)):=H9.obj 5 rfl
  refine⟨_,_,run_endRound none hL9,rfl,?_,r,?_⟩
  ·exact(((k7.trans k8).trans k9).trans ⟨rfl,rfl,rfl,Nat.le_refl _⟩)
  ·exact ab.de (H9.oV 5 rfl (.loop (fp fn a5.tmps w5.heap.size .ready))) [3,0,1,2,4,5]
 ·rintro _ w6 ⟨⟨v,rfl⟩,k6,r,H6⟩
  have hL6:w6.heap[l]?=some (.loop (fp fn a5.tmps w5.heap.size .ready)):=H6.obj 5 rfl
  refine⟨none,_,run_endLoop hL6 (by simp),hQ w5.heap.size _ r ((k1.trans k6).trans ⟨rfl,rfl,rfl,Nat.le_refl _⟩) ?_⟩
  exact ab.de (H6.oV 5 rfl (.loop (fp fn a5.tmps w5.heap.size .exhausted))) [2,3,4]
end Go.Qw
namespace Go.Qw
open Go Go.Vc Go.Proofs Wl
set_option maxRecDepth 1000000
theorem yB {h0:Heap} {b11:Addr} {r:Sl} {D:Nat} {a:Act} {w:World} (ds:List Deferred) {R:Ending→World→Prop} (hsz:a.tmps.size=47) (h11:a.tmps[11]?=some (ptr b11)) (hds:a.defers=[{target:=.collected D,args:=#[]}])
  (H:Sp h0 w.heap [af b11 am (bq (some b11) r),aw ay r 1 aB (jH++[10]),ib D (.deferred (some []))])
  (hR:∀w',aL w w'→Sp h0 w'.heap []→R (.returned (.string dV)) w'):
  (Code.seq (pc 12) .ret).wpIn (Fr none) 3 Tryz.prog (bodyPostM (Fr none) 3 Tryz.prog Tryz.f17 R) a w:=by
 refine wpIn_seq ?_
 rw[wP]
 have e11:a.eval (.tmp 11)=ptr b11:=by simp[Act.eval,Array.getD_eq_getD_getElem?,h11]
 have eg:∀args w,(callFunc 32 args).run Tryz.prog w=.ok (.enter 32 args) w:=enters_of Tryz.func32 (by kernel_rfl) rfl
 refine wpIn_region ?_
 show wpOpsIn _ _ _ _ _ [0,1] a w
 simp[wpOpsIn,Region.wanted,Oper.wpIn,Oper.about,Target.leads,Oper.semAt,execOp,resolve,invoke,Act.eval,Deferred.ofValue,eg,Oper.uponIn_enter]
 rw[h11]
 refine(callsIn_wide (n:=2).2 (fX b11 _ r (jH++[10]) (by decide) (by decide) H w rfl)).mono ?_
 rintro _ w' ⟨_,rfl,k1,rfl,H1⟩
 have hK:w'.heap[D]?=some (.deferred (some [])):=H1.obj 2 rfl
 obtain⟨v,hv⟩:∃v:Value,v=.string dV:=⟨_,rfl⟩
 show Code.wpIn (Fr none) 3 Tryz.prog .ret (bodyPostM (Fr none) 3 Tryz.prog Tryz.f17 R) ((a.put (some 46) (.string dV)).put (some 8) ((a.put (some 46) (.string dV)).tmps[46]?.getD undef)) w'
 have e46:(a.put (some 46) (.string dV)).tmps[46]?.getD undef=.string dV:=by simp[Act.put,hsz]
 rw[e46]
 refine wpIn_ret ?_
 show LeavesInM _ _ _ _ _ _ a.defers _ _
 rw[hds]
 refine⟨by simp,.inl ⟨D,_,rfl,run_takeDeferred hK,?_⟩⟩
 refine⟨_,results_tmp rfl _ _ _,?_⟩
 have e8:((a.put (some 46) (.string dV)).put (some 8) (.string dV)).tmps.getD 8 undef=.string dV:=by simp[Act.put,hsz,Array.getD_eq_getD_getElem?]
 rw[e8]
 exact hR _ (k1.trans ⟨rfl,rfl,rfl,Nat.le_refl _⟩) (.zip (H1.oV 2 rfl (.deferred none)).aq)
theorem wQ (s:Sl) (m:Int) (h:Heap) (hm:cellOf h ⟨0,0,none⟩=some (.int .i64 m)) (hs:Rd h s 1 aA [5]):
  ae Tryz.prog 17 #[kz (1,1,1),.int .i64 0,dz s,.string aY] h fun v h'=>v=.string dV∧Sp h h' []:=by
 intro w hw
 subst hw
 refine callsIn_wide (n:=3).1 ?_
 show CallsIn (Fr none) 3 Tryz.prog 17 _ w _
 refine callsIn_of_wp_marks Tryz.func17 yy trivial ?_ rfl
 have f0:Fits 47 {tmps:=#[kz (1,1,1),.int .i64 0,dz s,.string aY]++Array.replicate (47-4) undef,defers:=[]} (cx [0,1,2,3] [kz (1,1,1),.int .i64 0,dz s,.string aY]):=qk (args:=[kz (1,1,1),.int .i64 0,dz s,.string aY]) (show 4≤47 by decide)
 obtain⟨a0,ha0⟩:∃a0:Act,a0={tmps:=#[kz (1,1,1),.int .i64 0,dz s,.string aY]++Array.replicate (47-4) undef,defers:=[]}:=⟨_,rfl⟩
 rw[←ha0]at f0
 show Code.wpIn _ _ _ _ _ {tmps:=#[kz (1,1,1),.int .i64 0,dz s,.string aY]++Array.replicate (47-4) undef,defers:=[]} w
 rw[←ha0]
 clear ha0
 refine wpIn_seq (wpIn_mono (bU ag f0 (K:=fun vs h=>∃b1,vs=[.int .i64 0,dz s,.string aY,ptr b1]∧Sp w.heap h [af b1 ew [.int .i64 1,.int .i64 1,.int .i64 1]]) (cast (zf (1,1,1) 0 s aY).symm ((Sp.refl w.heap).boxed fun b1 h1 H1=>⟨b1,rfl,H1⟩))) ?_)
 rintro _ a1 w1 ⟨rfl,k1,_,f1,b1,rfl,H1⟩
 refine wpIn_seq (wpIn_mono (bU ag f1 (K:=fun vs h=>∃(b9 b a pw:Addr) (x:cm) (da:List (Option Addr)),vs=[.string aY,ptr b9,.int .i64 0]∧
  Sp w.heap h [af b9 aC [ptr b],af b aN (ee (some pw) (some a)),aX bv a pw (bG x) Pow.new.offs da (aO (1,1,1) 0 Pow.new [5]).2.1 (aO (1,1,1) 0 Pow.new [5]).2.2,hZ x (cv (1,1,1) 0 [5])]) (cast (zg b1 0 s aY).symm ?_)) ?_)
 ·refine⟨(1,1,1),(H1.box 0 rfl).bc _ rfl,?_⟩
  refine(vU (1,1,1) 0 s [5] (St.base hs fun h' hp=>Seq.up hs hp) (by decide) H1).mono ?_
  rintro _ h2 ⟨_,Q⟩
  obtain⟨b,a,pw,x,da,rfl,H2⟩:=Q wI
  refine⟨(some b,0),rfl,H2.alloc ag rfl fun b9 h3 H3=>?_⟩
  have H3:=H3.cz
  exact H3.storeAll ag 0 rfl rfl [ptr b] rfl rfl rfl rfl fun h4 H4=>⟨b9,b,a,pw,x,da,rfl,H4.bL 5 [0,1,2,3]⟩
 rintro _ a2 w2 ⟨rfl,k2,_,f2,b9,b,a,pw,x,da,rfl,H2⟩
 refine wpIn_seq (wpIn_seq (wpIn_mono (bU ag f2 (K:=fun vs h=>vs=[.string aY,ptr b9,.bool false]∧h=w2.heap) (cast (zh b9 0 aY).symm ⟨rfl,rfl⟩)) ?_))
 rintro _ a3 w3 ⟨rfl,k3,_,f3,rfl,g3⟩
 rw[←g3]at H2
 refine wpIn_cond_false (f3.eval rfl) (wpIn_skip ?_)
 refine wpIn_seq (wpIn_mono (bU ag f3 (K:=fun vs h=>∃b11,vs=[.string aY,ptr b9,ptr b11]∧Sp w.heap h [af b9 aC [ptr b],af b aN (ee (some pw) (some a)),aX bv a pw (bG x) Pow.new.offs da (aO (1,1,1) 0 Pow.new [5]).2.1 (aO (1,1,1) 0 Pow.new [5]).2.2,hZ x (cv (1,1,1) 0 [5]),af b11 am (bq none aG)]) (cast (zi b9 false aY).symm ?_)) ?_)
 ·refine H2.alloc ag rfl fun b11 h4 H4=>?_
  exact⟨b11,rfl,H4⟩
 rintro _ a4 w4 ⟨rfl,k4,_,f4,b11,rfl,H4⟩
 refine wpIn_seq (wpIn_seq (wpIn_mono (bU ag f4 (K:=fun vs h=>∃c,vs=[ptr b9,ptr b11,.func (.func aW) #[] #[ptr c]]∧Sp w.heap h [af c bA [.string aY],af b9 aC [ptr b],af b aN (ee (some pw) (some a)),aX bv a pw (bG x) Pow.new.offs da (aO (1,1,1) 0 Pow.new [5]).2.1 (aO (1,1,1) 0 Pow.new [5]).2.2,hZ x (cv (1,1,1) 0 [5]),af b11 am (bq none aG)]) (cast (zj b9 b11 aY).symm ?_)) ?_))
 ·refine(uM aY H4).mono ?_
  rintro _ h5 ⟨c,rfl,H5⟩
  exact⟨(aW,#[],#[ptr c]),rfl,c,rfl,H5.cz⟩
 rintro _ a5 w5 ⟨rfl,k5,_,f5,c,rfl,H5⟩
 have K5:=(((k1.trans k2).trans k3).trans k4).trans k5
 refine wpIn_block (xX rfl uL hm f5 H5 fun D w6 r k6 H6=>?_)
 have h11:a5.tmps[11]?=some (ptr b11):=f5.get 11 _ rfl
 refine yB (r:=r) (b11:=b11) (D:=D) [] f5.size h11 (by rw[f5.defers]) H6 fun w7 k7 H7=>?_
 exact⟨_,rfl,(K5.trans k6).trans k7,rfl,H7⟩
theorem sj (m:Int) (h:Heap) (hm:cellOf h ⟨0,0,none⟩=some (.int .i64 m)):ae Tryz.prog ez #[] h fun v h'=>v=.bool true∧Sp h h' []:=by
 refine ir ?_
 unfold eM
 have e1:iL (dl gq)=some {kind:=10,n:=1,m:=20}:=by decide
 refine(mF gq m h hm (by decide)).mono ?_
 rintro _ h1 ⟨y,rfl,F,R⟩
 rw[e1]at F R⊢
 refine⟨(y,true),rfl,R.alloc ag rfl fun a2 h2 H2=>?_⟩
 refine H2.storeAll ag 3 rfl rfl (bg y) rfl rfl rfl rfl fun h3 H3=>?_
 refine H3.lit ag aA dI rfl [5] rfl (show 1*1≤2^20 by decide) rfl fun s h4 H4=>?_
 refine(wQ s m h4 (H4.aq.cell (cg hm) hm) (H4.seq 4 rfl fun _=>rfl)).mono ?_
 rintro _ h5 ⟨rfl,R5⟩
 have b5:=(ab.up H4 R5.aq).box 3 rfl
 refine⟨dV,rfl,jV (beq_self_eq_true dV.toList) (jV rfl ⟨y.2.2.2.2.1,b5.cell rfl,jV (by rw[F.n];rfl) ⟨y.2.2.2.2.2.1,b5.cell rfl,?_⟩⟩)⟩
 exact⟨by rw[F.m];rfl,.zip (ab.up H4 R5.aq).aq⟩
end Go.Qw
namespace Wl
end Wl
namespace Go.Qw
open Go Go.Vc Go.Proofs Wl
set_option maxRecDepth 100000
abbrev mx (x:Int):Int:=if(0:Int)>x then 0 else x
end Go.Qw
namespace Go.Qw
open Go Go.Vc Go.Proofs Wl
end Go.Qw
namespace Wl
open Go.Lib
theorem kD:∀(f x:Nat),0<x→x<2^f→2^(bitLenAux f x-1)≤x∧x<2^bitLenAux f x∧1≤bitLenAux f x∧bitLenAux f x≤f
 |0,x,h0,h=>by simp at h;omega
 |f+1,x,h0,h=>by
  rw[bitLenAux,if_neg (by omega)]
  by_cases h1:x/2=0
  ·have hx:x=1:=by omega
   have hz:bitLenAux f (x/2)=0:=by rw[h1];cases f<;>simp[bitLenAux]
   rw[hz,hx];exact⟨by decide,by decide,by decide,by omega⟩
  ·obtain⟨a,b,c,d⟩:=kD f (x/2) (by omega) (by rw[Nat.pow_succ]at h;omega)
   have e1:2^(1+bitLenAux f (x/2))=2*2^bitLenAux f (x/2):=by rw[Nat.add_comm,Nat.pow_succ,Nat.mul_comm]
   have e2:2^(1+bitLenAux f (x/2)-1)=2*2^(bitLenAux f (x/2)-1):=by
    rw[Nat.add_sub_cancel_left]
    obtain⟨k,hk⟩:∃k,bitLenAux f (x/2)=k+1:=⟨_,(Nat.sub_add_cancel c).symm⟩
    rw[hk,Nat.add_sub_cancel,Nat.pow_succ,Nat.mul_comm]
   rw[e1,e2]
   exact⟨by omega,by omega,by omega,by omega⟩
theorem jI:∀(r n:Nat),10^r≤n→n<10^(r+1)→(co n).length=r+1
 |0,n,h1,h2=>by rw[cV (by omega)];rfl
 |r+1,n,h1,h2=>by
  have hp:10^1≤10^(r+1):=Nat.pow_le_pow_right (by decide) (by omega)
  rw[gB (by omega),List.length_append,List.length_singleton,jI r (n/10) (by rw[Nat.pow_succ]at h1;omega) (by rw[Nat.pow_succ]at h2;omega)]
theorem zw:∀k,k<65→1≤k→2^k≤10^(k*78913/262144+1)∧(1≤k*78913/262144→10^(k*78913/262144-1)≤2^(k-1))∧k*78913/262144<20:=by decide+kernel
end Wl
namespace Go.Qw
open Go Go.Vc Go.Proofs Wl
set_option maxRecDepth 1000000
section
variable {R:Value→Heap→Prop} {h:Heap}
abbrev ge:FuncId:=128
noncomputable def dA (d_0:Int):Prop:=
 ah Tryz.prog gU #[(.int .u64 d_0)] cU h fun r1 h1=>
 ah Tryz.prog di #[r1] cU h1 fun r2 h2=>
 (0≤r2∧r2<((20:Nat):Int))∧
 ∃x3:Int,cellOf h2 ((⟨1,0,none⟩:Addr).add (r2.toNat*1))=some (.int .u64 x3)∧
 ah Tryz.prog dj #[(decide (d_0≥x3))] cU h2 fun r4 h3=>
 R (IntKind.wrap .i64 (r2+r4)) h3
theorem fZ (d_0:Int) (hm: @dA R h d_0):ae Tryz.prog 128 #[(.int .u64 d_0)] h R:=az ag Tryz.func128 .n hm
end
def jh (h:Heap):Prop:=∀i:Nat,i<20→cellOf h ⟨1,i,none⟩=some (.int .u64 ((10^i:Nat):Int))
theorem jh.up {h h':Heap} (t:jh h) (hp:ax (fun b=>b<h.size) h h'):jh h':=fun i hi=>hp.cell (cg (t i hi)) (t i hi)
theorem pI (d:Nat) (h1:1≤d) (h2:d<2^64) (h:Heap) (ht:jh h):ae Tryz.prog ge #[.int .u64 (d:Int)] h fun v h'=>v=.int .i64 ((co d).length:Int)∧h'=h:=by
 refine fZ (d:Int) ?_
 unfold dA
 obtain⟨b1,b2,b3,b4⟩:=kD 64 d h1 h2
 obtain⟨k,hk⟩:∃k,k=Lib.bitLenAux 64 d:=⟨_,rfl⟩
 rw[←hk]at b1 b2 b3 b4
 obtain⟨l1,l2,l3⟩:=zw k (by omega) b3
 obtain⟨g,hg⟩:∃g,g=k*78913/262144:=⟨_,rfl⟩
 rw[←hg]at l1 l2 l3
 have m1:ae Tryz.prog gU #[.int .u64 (d:Int)] h fun v h'=>v=.int .i64 (k:Int)∧h'=h:=fun w hw=>by
  refine(Tryz.bits_Len64 (d:Int) w (by omega) (by omega)).mono ?_
  rintro e w' ⟨rfl,rfl⟩
  exact⟨_,rfl,aL.refl _,by rw[Int.toNat_natCast,hk];rfl,hw⟩
 refine m1.mono ?_
 rintro _ h ⟨rfl,rfl⟩
 refine⟨(k:Int),rfl,?_⟩
 have m2:ae Tryz.prog di #[.int .i64 (k:Int)] h fun v h'=>v=.int .i64 (g:Int)∧h'=h:=by
  refine fS (k:Int) ⟨by decide,?_,rfl⟩
  have e:(2:Int)^min (18:Int).toNat (IntKind.bits .i64)=262144:=by decide
  rw[e,Go.Vc.wrap_small ((k:Int)*78913) (by omega) (by omega),Int.fdiv_eq_ediv_of_nonneg _ (by decide)]
  congr 1;omega
 refine m2.mono ?_
 rintro _ h ⟨rfl,rfl⟩
 refine⟨(g:Int),rfl,⟨Int.natCast_nonneg g,Int.ofNat_lt.2 l3⟩,((10^g:Nat):Int),?_,?_⟩
 ·rw[Int.toNat_natCast,Nat.mul_one,add_eq,Nat.zero_add];exact ht g l3
 have m3:∀b:Bool,ae Tryz.prog dj #[.bool b] h fun v h'=>v=.int .i64 (if b then 1 else 0)∧h'=h:=fun b=>by
  refine fT b ?_
  unfold dx
  refine bV (fun e=>?_) fun e=>?_<;>subst e<;>exact⟨rfl,rfl⟩
 refine(m3 _).mono ?_
 rintro _ h ⟨rfl,rfl⟩
 refine⟨_,rfl,?_,rfl⟩
 by_cases hd:((d:Int)≥((10^g:Nat):Int))
 ·rw[decide_eq_true hd,if_pos rfl,Go.Vc.wrap_small ((g:Int)+1) (by omega) (by omega),jI g d (by omega) (by omega)];rfl
 ·rw[decide_eq_false hd,if_neg (by decide),Go.Vc.wrap_small ((g:Int)+0) (by omega) (by omega)]
  have g1:1≤g:=by
   rcases Nat.eq_zero_or_pos g with e|e
   ·rw[e]at hd;simp at hd;omega
   ·exact e
  have l4:=l2 g1
  obtain⟨q,hq⟩:∃q,g=q+1:=⟨g-1,by omega⟩
  rw[hq]at hd l4⊢
  rw[Nat.add_sub_cancel]at l4
  rw[jI q d (by omega) (by omega)];simp
end Go.Qw
namespace Wl
def bI:Nat→Nat→List UInt8
 |0,_=>[]
 |k+1,u=>bI k (u/10)++[UInt8.ofNat (48+u%10)]
abbrev oW (v:Nat):List UInt8:=[UInt8.ofNat (48+v/10),UInt8.ofNat (48+v%10)]
theorem fq (k u:Nat):bI (k+2) u=bI k (u/100)++oW (u%100):=by
 rw[bI,bI,List.append_assoc,Nat.div_div_eq_div_mul]
 have e1:u%100/10=u/10%10:=by omega
 have e2:u%100%10=u%10:=by omega
 unfold oW
 rw[e1,e2];rfl
theorem ji:∀(b a u:Nat),bI (a+b) u=bI a (u/10^b)++bI b u
 |0,a,u=>by simp[bI]
 |b+1,a,u=>by
  rw[show a+(b+1)=(a+b)+1 by omega,bI,ji b a (u/10),bI,List.append_assoc,Nat.div_div_eq_div_mul,Nat.pow_succ,Nat.mul_comm 10]
theorem nX (n:Nat):co n=bI (co n).length n:=by
 induction n using Nat.strongRecOn with
 |_ n ih=>
  by_cases h:n≤9
  ·rw[cV h]
   show _=bI 1 n
   rw[bI,bI,Nat.mod_eq_of_lt (by omega)];rfl
  ·rw[gB h,List.length_append,List.length_singleton,bI,←ih (n/10) (by omega)]
theorem yC (k u:Nat):bI (k+8) u=bI k (u/100000000)++(oW (u/1000000%100)++(oW (u/10000%100)++(oW (u/100%100)++oW (u%100)))):=by
 rw[show k+8=k+2+2+2+2 by omega,fq,fq,fq,fq]
 simp only[List.append_assoc,Nat.div_div_eq_div_mul]
theorem yD (k u:Nat):bI (k+4) u=bI k (u/10000)++(oW (u/100%100)++oW (u%100)):=by
 rw[show k+4=k+2+2 by omega,fq,fq]
 simp only[List.append_assoc,Nat.div_div_eq_div_mul]
end Wl
namespace Go.Qw
open Go Go.Vc Go.Proofs Wl
set_option maxRecDepth 1000000
abbrev dv (l:List UInt8):List Value:=l.map fun b=>.int .u8 (b.toNat:Int)
theorem qm:∀(cs:List Value) (q:Nat) (x y:Value),q+1<cs.length→((cs.set (q+1) x).set q y).drop q=y::x::cs.drop (q+2)
 |a::b::r,0,x,y,_=>rfl
 |[_],0,_,_,h=>by simp at h
 |[],_,_,_,h=>by simp at h
 |a::t,q+1,x,y,h=>by
  rw[List.set_cons_succ,List.set_cons_succ,List.drop_succ_cons,qm t q x y (by simpa using h),List.drop_succ_cons]
theorem add_add (a:Addr) (i j:Nat):(a.add i).add j=a.add (i+j):=by
 obtain⟨b,o,s⟩:=a
 unfold Addr.add
 split
 ·rename_i h;subst h;simp
 ·split
  ·rename_i h1 h2;subst h2;simp[h1]
  ·rename_i h1 h2
   rw[if_neg (by omega)]
   simp[Nat.add_assoc]
theorem zO:∀v:Nat,v<100→al.data[2*v]?=some (UInt8.ofNat (48+v/10))∧al.data[2*v+1]?=some (UInt8.ofNat (48+v%10)):=by decide+kernel
theorem eE {B:aj} {h0 h:Heap} {As:List HP} {a:Addr} {cs:List Value} {s:Sl} {n:Nat} (H:ab B h0 h (af a eL cs::As)) (hp:s.ptr=some (a.add 1)) (hn:s.len=n) (hc:cs.length=24) (hn2:n≤20) (v p:Nat) (hv:v<100) (hpn:p+2≤n)
  {E1 E2 i1 i2:Int} (e1:E1=((2*v+1:Nat):Int)) (e2:E2=((2*v:Nat):Int)) (q1:i1=((p+1:Nat):Int)) (q2:i2=(p:Int)) {K:Heap→Prop}
  (hK:∀h' cs',ab B h0 h' (af a eL cs'::As)→cs'.length=24→cs'.drop (1+p)=dv (oW v)++cs.drop (1+p+2)→K h'):
  ∃c17:UInt8,(0≤E1∧al.data[E1.toNat]?=some c17)∧∃c18:UInt8,(0≤E2∧al.data[E2.toNat]?=some c18)∧
   ∃a19:Addr,(s.ptr=some a19∧0≤i1∧i1<(s.len:Int))∧aa Tryz.prog (Instr.storeAt ay (.pointer (some (a19.add (i1.toNat*1)))) (.int .u8 (c17.toNat:Int))) h fun _ h11=>ar.ok [] h11∧
   ∃a20:Addr,(s.ptr=some a20∧0≤i2∧i2<(s.len:Int))∧aa Tryz.prog (Instr.storeAt ay (.pointer (some (a20.add (i2.toNat*1)))) (.int .u8 (c18.toNat:Int))) h11 fun _ h12=>ar.ok [] h12∧K h12:=by
 subst e1 e2 q1 q2
 obtain⟨t1,t2⟩:=zO v hv
 refine⟨_,⟨Int.natCast_nonneg _,by rw[Int.toNat_natCast];exact t2⟩,_,⟨Int.natCast_nonneg _,by rw[Int.toNat_natCast];exact t1⟩,a.add 1,⟨hp,by omega,by omega⟩,?_⟩
 rw[Int.toNat_natCast,add_add,Nat.mul_one]
 refine H.storeAt ag 0 rfl rfl rfl rfl rfl (by omega) fun h1 H1=>⟨trivial,a.add 1,⟨hp,by omega,by omega⟩,?_⟩
 rw[Int.toNat_natCast,add_add,Nat.mul_one]
 refine H1.storeAt ag 0 rfl rfl rfl rfl rfl (by simp;omega) fun h2 H2=>⟨trivial,?_⟩
 refine hK h2 _ H2 (by simp;omega) ?_
 rw[show 1+(p+1)=(1+p)+1 by omega,qm cs (1+p) _ _ (by omega)];rfl
theorem jJ (a:Nat):Int.tmod (a:Int) 100=((a%100:Nat):Int):=rfl
theorem jK (a:Nat):Int.tmod (a:Int) 10000=((a%10000:Nat):Int):=rfl
theorem jL (a:Nat):Int.tmod (a:Int) 100000000=((a%100000000:Nat):Int):=rfl
theorem jk (a:Nat):Int.tdiv (a:Int) 100=((a/100:Nat):Int):=rfl
theorem jl (a:Nat):Int.tdiv (a:Int) 10000=((a/10000:Nat):Int):=rfl
theorem jm (a:Nat):Int.tdiv (a:Int) 100000000=((a/100000000:Nat):Int):=rfl
theorem gi (a:Nat):IntKind.wrap .u32 (a:Int)=((a%4294967296:Nat):Int):=rfl
theorem zT (a:Nat):IntKind.wrap .u64 (a:Int)=((a%18446744073709551616:Nat):Int):=rfl
theorem jM (a:Nat):(a:Int)*2=((a*2:Nat):Int):=rfl
theorem jN (a:Nat):(a:Int)+1=((a+1:Nat):Int):=rfl
theorem eF (nd k:Nat) (hk:k≤nd) (hn:nd≤2^40) (K:Int) (e:K=(k:Int)):IntKind.wrap .i64 ((nd:Int)-K)=((nd-k:Nat):Int):=by
 rw[Go.Vc.wrap_small ((nd:Int)-K) (by omega) (by omega)];omega
theorem yE {u n nd:Nat} (h:u<10^n) (hn:nd≤n):u/10^(n-nd)<10^nd:=by
 rw[Nat.div_lt_iff_lt_mul (Nat.pow_pos (by decide)),←Nat.pow_add,Nat.add_sub_cancel' hn];exact h
theorem vV {B:aj} {h0 h:Heap} {As:List HP} {a:Addr} {cs:List Value} {s:Sl} {n:Nat} (H:ab B h0 h (af a eL cs::As)) (hp:s.ptr=some (a.add 1)) (hn:s.len=n) (hc:cs.length=24) (hn2:n≤20) (u0:Nat) (hu:u0<10^n) (hu2:u0<2^64):
  ae Tryz.prog fo #[.slice s.ptr s.len s.cap,.int .u64 (u0:Int)] h fun v h'=>v=.tuple #[]∧∃cs',cs'.length=24∧cs'.drop 1=dv (bI n u0)++cs.drop (1+n)∧ab B h0 h' (af a eL cs'::As):=by
 refine fc s (u0:Int) ?_
 unfold cN
 obtain⟨rest,hrest⟩:∃r,r=cs.drop (1+n):=⟨_,rfl⟩
 rw[←hrest]
 obtain⟨I,hI⟩:∃I:Nat→Heap→Prop,I=fun nd h'=>∃cs',cs'.length=24∧cs'.drop (1+nd)=dv (bI (n-nd) u0)++rest∧ab B h0 h' (af a eL cs'::As):=⟨_,rfl⟩
 have I0:I n h:=by rw[hI];exact⟨cs,hc,by rw[Nat.sub_self,←hrest];rfl,H⟩
 refine aE (fun t:Nat×Nat=>((t.1:Int),(t.2:Int))) (fun t h'=>t.2≤n∧t.1=u0/10^(n-t.2)∧I t.2 h') (fun t=>t.2) (u0,n) (by rw[hn]) ⟨Nat.le_refl _,by dsimp only;rw[Nat.sub_self];simp,I0⟩ ?_
 rintro⟨u,nd⟩ h1 ⟨hnd,hue,hi⟩
 dsimp only at hnd hue hi⊢
 have hus:=yE hu hnd
 rw[←hue]at hus
 have hu64:u<2^64:=by rw[hue];exact Nat.lt_of_le_of_lt (Nat.div_le_self _ _) hu2
 refine an (fun e8=>?_) fun e8=>?_
 ·have h8:8≤nd:=by omega
  rw[hI]at hi
  obtain⟨c0,l0,d0,H0⟩:=hi
  refine⟨by decide,by decide,by decide,by decide,by decide,by decide,by decide,by decide,aJ ?_⟩
  refine eE H0 hp hn l0 hn2 (u%100) (nd-2) (by omega) (by omega) (by simp only[jJ,jK,jL,jk,jl,jm,gi,jM,jN];omega) (by simp only[jJ,jK,jL,jk,jl,jm,gi,jM,jN];omega) (by rw[eF nd 1 (by omega) (by omega) 1 rfl];omega) (eF nd 2 (by omega) (by omega) 2 rfl) fun h2 c1 H1 l1 d1=>?_
  refine aJ ?_
  refine eE H1 hp hn l1 hn2 (u/100%100) (nd-4) (by omega) (by omega) (by simp only[jJ,jK,jL,jk,jl,jm,gi,jM,jN];omega) (by simp only[jJ,jK,jL,jk,jl,jm,gi,jM,jN];omega) (by rw[eF nd 3 (by omega) (by omega) 3 rfl];omega) (eF nd 4 (by omega) (by omega) 4 rfl) fun h3 c2 H2 l2 d2=>?_
  refine aJ ?_
  refine eE H2 hp hn l2 hn2 (u/10000%100) (nd-6) (by omega) (by omega) (by simp only[jJ,jK,jL,jk,jl,jm,gi,jM,jN];omega) (by simp only[jJ,jK,jL,jk,jl,jm,gi,jM,jN];omega) (by rw[eF nd 5 (by omega) (by omega) 5 rfl];omega) (eF nd 6 (by omega) (by omega) 6 rfl) fun h4 c3 H3 l3 d3=>?_
  refine eE H3 hp hn l3 hn2 (u/1000000%100) (nd-8) (by omega) (by omega) (by simp only[jJ,jK,jL,jk,jl,jm,gi,jM,jN];omega) (by simp only[jJ,jK,jL,jk,jl,jm,gi,jM,jN];omega) (by rw[eF nd 7 (by omega) (by omega) 7 rfl];omega) (eF nd 8 (by omega) (by omega) 8 rfl) fun h5 c4 H4 l4 d4=>?_
  rw[eF nd 8 (by omega) (by omega) 8 rfl,jm,zT,Nat.mod_eq_of_lt (by omega)]
  refine⟨(u/100000000,nd-8),rfl,⟨by dsimp only;omega,?_,?_⟩,by dsimp only;omega⟩
  ·dsimp only
   rw[hue,Nat.div_div_eq_div_mul,show n-(nd-8)=n-nd+8 by omega,Nat.pow_add]
  ·rw[hI]
   refine⟨c4,l4,?_,H4⟩
   rw[show n-(nd-8)=8+(n-nd)by omega,ji,←hue,show bI 8 u=_ from yC 0 u,d4,show 1+(nd-8)+2=1+(nd-6)by omega,d3,show 1+(nd-6)+2=1+(nd-4)by omega,d2,show 1+(nd-4)+2=1+(nd-2)by omega,d1,show 1+(nd-2)+2=1+nd by omega,d0]
   simp[bI]
 have hu8:u<10^8:=Nat.lt_of_lt_of_le hus (Nat.pow_le_pow_right (by decide) (by omega))
 have w4:IntKind.wrap .u32 (u:Int)=(u:Int):=by rw[gi,Nat.mod_eq_of_lt (by omega)]
 rw[w4]
 refine bu (fun t h'=>∃u nd:Nat,t=((nd:Int),(u:Int))∧nd<4∧nd≤n∧u=u0/10^(n-nd)∧u<10^nd∧I nd h') ?_ ?_
 ·refine an (fun e4=>?_) fun e4=>⟨u,nd,rfl,by omega,hnd,hue,hus,hi⟩
  rw[hI]at hi
  obtain⟨c0,l0,d0,H0⟩:=hi
  refine⟨by decide,by decide,by decide,by decide,aJ ?_⟩
  refine eE H0 hp hn l0 hn2 (u%100) (nd-2) (by omega) (by omega) (by simp only[jJ,jK,jL,jk,jl,jm,gi,jM,jN];omega) (by simp only[jJ,jK,jL,jk,jl,jm,gi,jM,jN];omega) (by rw[eF nd 1 (by omega) (by omega) 1 rfl];omega) (eF nd 2 (by omega) (by omega) 2 rfl) fun h2 c1 H1 l1 d1=>?_
  refine eE H1 hp hn l1 hn2 (u/100%100) (nd-4) (by omega) (by omega) (by simp only[jJ,jK,jL,jk,jl,jm,gi,jM,jN];omega) (by simp only[jJ,jK,jL,jk,jl,jm,gi,jM,jN];omega) (by rw[eF nd 3 (by omega) (by omega) 3 rfl];omega) (eF nd 4 (by omega) (by omega) 4 rfl) fun h3 c2 H2 l2 d2=>?_
  rw[eF nd 4 (by omega) (by omega) 4 rfl,jl,gi,Nat.mod_eq_of_lt (by omega)]
  refine⟨u/10000,nd-4,rfl,by omega,by omega,?_,?_,?_⟩
  ·rw[hue,Nat.div_div_eq_div_mul,show n-(nd-4)=n-nd+4 by omega,Nat.pow_add]
  ·rw[Nat.div_lt_iff_lt_mul (by decide),show 10000=10^4 from rfl,←Nat.pow_add,show nd-4+4=nd by omega];exact hus
  ·rw[hI]
   refine⟨c2,l2,?_,H2⟩
   rw[show n-(nd-4)=4+(n-nd)by omega,ji,←hue,show bI 4 u=_ from yD 0 u,d2,show 1+(nd-4)+2=1+(nd-2)by omega,d1,show 1+(nd-2)+2=1+nd by omega,d0]
   simp[bI]
 clear hue hus hu64 e8 hu8 w4 hi hnd
 rintro _ h6 ⟨u,nd,rfl,n4,hnd,hue,hus,hi⟩
 dsimp only
 have hu4:u<10^4:=Nat.lt_of_lt_of_le hus (Nat.pow_le_pow_right (by decide) (by omega))
 refine bu (fun t h'=>∃u nd:Nat,t=((nd:Int),(u:Int))∧nd<2∧nd≤n∧u=u0/10^(n-nd)∧u<10^nd∧I nd h') ?_ ?_
 ·refine an (fun e2=>?_) fun e2=>⟨u,nd,rfl,by omega,hnd,hue,hus,hi⟩
  rw[hI]at hi
  obtain⟨c0,l0,d0,H0⟩:=hi
  refine⟨by decide,by decide,?_⟩
  refine eE H0 hp hn l0 hn2 (u%100) (nd-2) (by omega) (by omega) (by simp only[jJ,jK,jL,jk,jl,jm,gi,jM,jN];omega) (by simp only[jJ,jK,jL,jk,jl,jm,gi,jM,jN];omega) (by rw[eF nd 1 (by omega) (by omega) 1 rfl];omega) (eF nd 2 (by omega) (by omega) 2 rfl) fun h2 c1 H1 l1 d1=>?_
  rw[eF nd 2 (by omega) (by omega) 2 rfl,jk,gi,Nat.mod_eq_of_lt (by omega)]
  refine⟨u/100,nd-2,rfl,by omega,by omega,?_,?_,?_⟩
  ·rw[hue,Nat.div_div_eq_div_mul,show n-(nd-2)=n-nd+2 by omega,Nat.pow_add]
  ·rw[Nat.div_lt_iff_lt_mul (by decide),show 100=10^2 from rfl,←Nat.pow_add,show nd-2+2=nd by omega];exact hus
  ·rw[hI]
   refine⟨c1,l1,?_,H1⟩
   rw[show n-(nd-2)=2+(n-nd)by omega,ji,←hue,show bI 2 u=_ from fq 0 u,d1,show 1+(nd-2)+2=1+nd by omega,d0]
   simp[bI]
 clear hue hus hu4 hi hnd n4
 rintro _ h7 ⟨u,nd,rfl,n2,hnd,hue,hus,hi⟩
 dsimp only
 rw[hI]at hi
 obtain⟨c0,l0,d0,H0⟩:=hi
 refine an (fun e1=>?_) fun e1=>?_
 ·have e:nd=1:=by omega
  subst e
  have u10:u<10:=by simpa using hus
  refine⟨a.add 1,⟨hp,by decide,by omega⟩,?_⟩
  rw[show(0:Int).toNat*1=0 from rfl,add_add]
  refine H0.storeAt ag 0 rfl rfl rfl rfl rfl (by omega) fun h8 H8=>⟨rfl,_,by simp;omega,?_,H8⟩
  have ev:IntKind.wrap .u8 (IntKind.wrap .u32 (48+(u:Int)))=((UInt8.ofNat (48+u)).toNat:Int):=by
   have e1:(48:Int)+(u:Int)=((48+u:Nat):Int):=rfl
   have e3:∀a:Nat,IntKind.wrap .u8 (a:Int)=((a%256:Nat):Int):=fun _=>rfl
   rw[e1,gi,e3,UInt8.toNat_ofNat']
   omega
  have d1:(c0.set 1 (.int .u8 ((UInt8.ofNat (48+u)).toNat:Int))).drop 1=.int .u8 ((UInt8.ofNat (48+u)).toNat:Int)::c0.drop 2:=by
   cases c0 with
   |nil=>simp at l0
   |cons x t=>cases t with
    |nil=>simp at l0
    |cons y t=>rfl
  rw[ev,d1,show c0.drop 2=_ from d0,show n=1+(n-1)by omega,ji,←hue]
  show _=dv ([UInt8.ofNat (48+u%10)]++_)++rest
  rw[Nat.mod_eq_of_lt u10,Nat.add_sub_cancel_left];rfl
 ·have e:nd=0:=by omega
  subst e
  exact⟨rfl,c0,l0,d0,H0⟩
end Go.Qw
namespace Go.Qw
open Go Go.Vc Go.Proofs Wl
set_option maxRecDepth 1000000
theorem yF:∀i:Nat,i<10→dl (bM.extract i (i+1))=bI 1 i:=by decide+kernel
theorem yG:∀i:Nat,i<100→dl (al.extract (2*i) (2*i+2))=bI 2 i:=by decide+kernel
theorem te (i:Nat) (hi:i<100) (h:Heap):ae Tryz.prog iy #[.int .i64 (i:Int)] h fun v h'=>∃t:ByteArray,v=.string t∧dl t=co i∧h'=h:=by
 refine hO (i:Int) ?_
 unfold eB
 refine an (fun e=>?_) fun e=>?_
 ·rw[Go.Vc.wrap_small ((i:Int)+1) (by omega) (by omega)]
  refine⟨⟨by omega,by omega,by show(i:Int)+1≤36;omega⟩,_,rfl,?_,rfl⟩
  have:=yF i (by omega)
  rw[nX,cV (by omega)]
  exact this
 ·have e1:IntKind.wrap .i64 ((i:Int)*2)=((2*i:Nat):Int):=by rw[Go.Vc.wrap_small ((i:Int)*2) (by omega) (by omega)];omega
  rw[e1,Go.Vc.wrap_small (((2*i:Nat):Int)+2) (by omega) (by omega)]
  refine⟨⟨by omega,by omega,by show((2*i:Nat):Int)+2≤200;omega⟩,_,rfl,?_,rfl⟩
  have:=yG i hi
  rw[nX,jI 1 i (by omega) (by omega)]
  exact this
theorem tL {h:Heap} {a:Addr} {T:Nat} {cs:List Value} (hb:bH h a T cs) (k c:Nat) (l:List UInt8) {rest:List Value} (e:cs.drop k=dv l++rest):Seq h (fun b=>b<h.size) ⟨some (a.add k),l.length,c⟩ 1 aB l:=by
 refine⟨rfl,fun i x hx=>?_⟩
 obtain⟨b,rfl⟩:∃b,a=⟨b,0,none⟩:=⟨a.block,hb.addr⟩
 refine⟨b,k,by rw[add_eq,Nat.zero_add],hb.lt,?_,trivial⟩
 have hi:=(List.getElem?_eq_some_iff.1 hx).1
 rw[add_eq,Nat.add_zero,Nat.mul_one]
 have hk:=hb.blk
 rw[il hk,List.getElem?_toArray,←List.getElem?_drop,e,List.getElem?_append_left (by simp;omega),List.getElem?_map,hx];rfl
theorem xY (n:Nat):n<10^(co n).length:=by
 induction n using Nat.strongRecOn with
 |_ n ih=>
  by_cases h:n≤9
  ·rw[cV h];simp;omega
  ·rw[gB h,List.length_append,List.length_singleton,Nat.pow_succ]
   have:=ih (n/10) (by omega)
   omega
theorem tf (n:Int) (h1n:-9223372036854775808≤n) (h2n:n≤9223372036854775807) (h:Heap) (ht:jh h):
  ae Tryz.prog gc #[.int .i64 n,.int .i64 10] h fun v h'=>∃t:ByteArray,v=.string t∧dl t=dL n∧Sp h h' []:=by
 refine fQ n 10 ?_
 unfold dw
 refine bn (fun _=>?_) fun e=>absurd rfl e
 obtain⟨u,hu⟩:∃u,u=n.natAbs:=⟨_,rfl⟩
 have hul:u<2^64:=by omega
 refine bu (fun _ h'=>h'=h∧1≤u) ?_ ?_
 ·refine an (fun e0=>an (fun e1=>?_) fun e1=>⟨rfl,by omega⟩) fun e0=>⟨rfl,by omega⟩
  obtain⟨i,rfl⟩:∃i:Nat,n=i:=⟨n.toNat,by omega⟩
  refine(te i (by omega) h).mono ?_
  rintro _ h ⟨t,rfl,d,rfl⟩
  exact⟨t,rfl,t,rfl,by rw[d];unfold dL;rw[if_neg (by omega)];rfl,Sp.refl _⟩
 rintro _ h ⟨rfl,u1⟩
 refine(Sp.refl h).alloc ag rfl fun a h3 H3=>?_
 have H3:Sp h h3 [af a eL (List.replicate 24 (.int .u8 0))]:=H3
 refine bu (fun v h'=>v=(u:Int)∧h'=h3) ?_ ?_
 ·have w6:∀x:Int,IntKind.wrap .u64 x=x%18446744073709551616:=fun _=>rfl
  refine an (fun e=>⟨?_,rfl⟩) fun e=>⟨?_,rfl⟩<;>simp only[w6]<;>omega
 rintro _ h4 ⟨rfl,rfl⟩
 refine(pI u u1 hul h4 (ht.up H3.aq)).mono ?_
 rintro _ h4 ⟨rfl,rfl⟩
 obtain⟨k,hk⟩:∃k,k=(co u).length:=⟨_,rfl⟩
 have k20:k≤20:=by rw[hk];exact lj 19 u (by omega)
 rw[←hk]
 have e1k:IntKind.wrap .i64 (1+(k:Int))=((1+k:Nat):Int):=by rw[Go.Vc.wrap_small (1+(k:Int)) (by omega) (by omega)];omega
 refine⟨(k:Int),rfl,?_⟩
 dsimp only
 rw[e1k]
 have ea:(if(24:Nat)=(1:Int).toNat then a else a.add ((1:Int).toNat*1))=a.add 1:=by rw[if_neg (by decide)];rfl
 rw[ea]
 have ek:((1+k:Nat):Int).toNat-(1:Int).toNat=k:=by simp;omega
 rw[ek]
 refine⟨⟨by decide,by omega,by omega⟩,?_⟩
 have hlt:=xY u
 rw[←hk]at hlt
 refine(vV (s:=⟨some (a.add 1),k,24-(1:Int).toNat⟩) H3 rfl rfl rfl k20 u hlt hul).mono ?_
 rintro _ h6 ⟨rfl,cs,lc,dc,H6⟩
 have dd:bI k u=co u:=by rw[nX u,←hk]
 rw[dd]at dc
 refine⟨(),rfl,an (fun e=>?_) fun e=>?_⟩
 ·refine⟨⟨by decide,by decide⟩,?_⟩
  refine H6.storeAt ag 0 rfl rfl (off:=0) rfl rfl rfl (by omega) fun h7 H7=>⟨⟨by omega,by omega⟩,?_⟩
  have d0:(cs.set 0 (.int .u8 (45:Int))).drop 0=dv (45::co u)++(List.replicate 24 (Value.int .u8 0)).drop (1+k):=by
   cases cs with
   |nil=>simp at lc
   |cons x t=>exact congrArg (Value.int .u8 (45:Int)::·) dc
  have sq:=tL (H7.box 0 rfl) 0 24 (45::co u) d0
  rw[List.length_cons,←hk,add_zero]at sq
  refine tE (s:=⟨some a,((1+k:Nat):Int).toNat,24⟩) ag ⟨_,rfl,rfl⟩ ⟨_,rfl,rfl⟩ ⟨_,rfl,rfl⟩ (by rw[Int.toNat_natCast,Nat.add_comm];exact sq) ?_
  exact⟨_,rfl,by unfold dL;rw[if_pos e,←hu],.zip H7.aq⟩
 ·refine⟨⟨by decide,by omega,by omega⟩,?_⟩
  have sq:=tL (H6.box 0 rfl) 1 (24-(1:Int).toNat) (co u) dc
  rw[←hk]at sq
  refine tE (s:=⟨some (a.add 1),k,24-(1:Int).toNat⟩) ag ⟨_,rfl,rfl⟩ ⟨_,rfl,rfl⟩ ⟨_,rfl,rfl⟩ sq ?_
  exact⟨_,rfl,by unfold dL;rw[if_neg e,←hu],.zip H6.aq⟩
theorem jO (n:Int) (hn:cO n) (h:Heap) (ht:jh h):ae Tryz.prog oA #[.int .i64 n] h fun v h'=>∃t:ByteArray,v=.string t∧dl t=dL n∧Sp h h' []:=by
 refine nK n ?_
 unfold kp
 have m1:ae Tryz.prog iU #[.int .i64 n] h fun v h'=>∃t:ByteArray,v=.string t∧dl t=dL n∧Sp h h' []:=by
  refine iu n ?_
  unfold eP
  refine(tf n hn.1 hn.2 h ht).mono ?_
  rintro _ h1 ⟨t,rfl,d,R⟩
  exact⟨t,rfl,t,rfl,d,R⟩
 refine m1.mono ?_
 rintro _ h1 ⟨t,rfl,d,R⟩
 exact⟨t,rfl,t,rfl,d,R⟩
end Go.Qw
namespace Wl
abbrev gX (l:List Int):List UInt8:=l.flatMap fun n=>32::dL n
def dM (k e:Int) (data:List UInt8) (names:List (List UInt8)) (st:List Int) (n:Int):List UInt8:=
 if e≠0 then[101,114,114,111,114,32]++dL e++(if k=10 then 32::dL n else[])
 else if k=2 then[98,121,116,101,115,32]++lk data
 else if k=4 then[110,97,109,101,115]++names.flatMap (32::·)
 else if k=5 then[115,116,97,116]++gX st
 else if k=10 then[109,105,110,116,101,100,32]++dL n
 else[111,107]
end Wl
namespace Go.Qw
open Go Go.Vc Go.Proofs Wl
set_option maxRecDepth 1000000
section
variable {B:aj} {h0 h:Heap} {As:List HP}
theorem nv (a:Addr) (p:Option Addr) (r:Sl) (bs:List UInt8) (c:UInt8) (hp:p=none∨p=some a) (hsz:bs.length+1≤2^31) (H:ab B h0 h (af a am (bq p r)::aw ay r 1 aB bs::As)):
  ae Tryz.prog gw #[.pointer (some a),.int .u8 (c.toNat:Int)] h fun v h'=>v=.nilIface∧∃r':Sl,ab B h0 h' (af a am (bq (some a) r')::aw ay r' 1 aB (bs++[c])::As):=by
 refine gb (some a) (c.toNat:Int) ?_
 unfold dC
 refine(kC a p r hp H).mono ?_
 rintro _ h1 ⟨rfl,H1⟩
 refine⟨(),rfl,a,rfl,r,(H1.box 0 rfl).cell rfl,?_⟩
 refine H1.push ag 1 rfl fW rfl (by decide) (fun _=>rfl) dP c rfl (by decide) (by omega) fun r' h3 H3=>?_
 refine⟨a,rfl,?_⟩
 exact H3.storeAt ag 0 rfl rfl rfl rfl rfl (show 1<2 by decide) fun h4 H4=>⟨rfl,r',H4⟩
end
theorem vW:∀i:Nat,i<16→ap.data[i]?=some (jf.getD i 0):=by decide+kernel
theorem uP (b:Sl) (l:List UInt8) (h:Heap) (hb:Rd h b 1 aB l) (hl:l.length≤2^20):
  ae Tryz.prog po #[.slice b.ptr b.len b.cap] h fun v h'=>∃t:ByteArray,v=.string t∧dl t=lk l∧Sp h h' []:=by
 refine oB b ?_
 unfold ly
 have hlen:=hb.len
 refine bn (fun e=>?_) fun e=>?_
 ·have:l=[]:=List.length_eq_zero_iff.1 (by omega)
  exact⟨_,rfl,by unfold lk;rw[if_pos this];rfl,Sp.refl h⟩
 have hne:l≠[]:=fun h=>by subst h;simp at hlen;omega
 refine(Sp.refl h).alloc ag rfl fun a h1 H1=>?_
 have H1:Sp h h1 [af a am (bq none aG)]:=H1
 refine aE (fun i:Nat=>(i:Int)) (fun i h'=>i≤l.length∧∃p r,(p=none∨p=some a)∧Sp h h' [af a am (bq p r),aw ay r 1 aB ((l.take i).flatMap ia)]) (fun i=>l.length-i) 0 rfl ⟨Nat.zero_le _,none,aG,.inl rfl,by simpa using H1.nil ay 1 aB⟩ ?_
 rintro i h2 ⟨hi,p,r,hp,H2⟩
 have hlh:((l.take i).flatMap ia).length=2*i:=by
  have:∀l:List UInt8,(l.flatMap ia).length=2*l.length:=by
   intro l
   induction l with
   |nil=>rfl
   |cons a r ih=>rw[List.flatMap_cons,List.length_append,ih,List.length_cons];show 2+_=_;omega
  rw[this,List.length_take];omega
 refine an (fun hlt=>?_) fun hge=>?_
 ·have hi':i<l.length:=by omega
  refine(Seq.up hb H2.aq).bd (g:=fun n:Int=>.int .u8 n) i rfl hi' ((l[i].toNat:Nat):Int) rfl ?_
  have hlt:=l[i].toNat_lt
  have hd:IntKind.wrap .u8 (Int.tdiv ((l[i].toNat:Nat):Int) 16)=((l[i].toNat/16:Nat):Int):=by
   have u8:∀x:Int,IntKind.wrap .u8 x=x%256:=fun _=>rfl
   rw[Int.tdiv_eq_ediv_of_nonneg (by omega),u8];omega
  have hm:Int.tmod ((l[i].toNat:Nat):Int) 16=((l[i].toNat%16:Nat):Int):=by rw[Int.tmod_eq_emod_of_nonneg (by omega)];rfl
  rw[hd,hm]
  simp only[Int.toNat_natCast]
  refine⟨by decide,jf.getD (l[i].toNat/16) 0,⟨Int.natCast_nonneg _,vW _ (by omega)⟩,?_⟩
  refine(nv a p r _ _ hp (by rw[hlh];omega) H2).mono ?_
  rintro _ h3 ⟨rfl,r3,H3⟩
  refine⟨.nilIface,rfl,by decide,jf.getD (l[i].toNat%16) 0,⟨Int.natCast_nonneg _,vW _ (by omega)⟩,?_⟩
  refine(nv a (some a) r3 _ _ (.inr rfl) (by simp[hlh];omega) H3).mono ?_
  rintro _ h4 ⟨rfl,r4,H4⟩
  refine⟨.nilIface,rfl,?_⟩
  rw[Go.Vc.wrap_small _ (by omega) (by omega)]
  refine⟨i+1,rfl,⟨by omega,some a,r4,.inr rfl,?_⟩,by omega⟩
  rw[aF _ _ hi',List.flatMap_append]
  have e:(l.take i).flatMap ia++[l[i]].flatMap ia=(l.take i).flatMap ia++[jf.getD (l[i].toNat/16) 0]++[jf.getD (l[i].toNat%16) 0]:=by simp[ia]
  rw[e];exact H4
 ·have e:i=l.length:=by omega
  rw[List.take_of_length_le (by omega)]at H2 hlh
  refine(fX a p r (l.flatMap ia) (fun h=>?_) (by omega) H2).mono ?_
  ·rw[h]at hlh
   have:l.length≠0:=fun h0=>hne (List.length_eq_zero_iff.1 h0)
   simp at hlh;omega
  rintro _ h5 ⟨rfl,R⟩
  exact⟨_,rfl,_,rfl,by unfold lk;rw[if_neg hne],.zip R.aq⟩
structure lm (h:Heap) (z:ej) (d:List UInt8) (ns:List ByteArray) (ts:List Int):Prop where
 data:Rd h z.2.1 1 aB d
 names:Rd h z.2.2.1 1 ma ns
 tries:Rd h z.2.2.2.2.2.2.1 1 aA ts
theorem lm.up {h h':Heap} {z:ej} {d:List UInt8} {ns:List ByteArray} {ts:List Int} (r:lm h z d ns ts) (hp:ax (fun b=>b<h.size) h h'):lm h' z d ns ts:=⟨Seq.up r.data hp,Seq.up r.names hp,Seq.up r.tries hp⟩
structure sk (z:ej) (d:List UInt8) (ns:List ByteArray) (ts:List Int):Prop where
 e:cO z.1
 st:cO z.2.2.2.1∧cO z.2.2.2.2.1∧cO z.2.2.2.2.2.1
 n:cO z.2.2.2.2.2.2.2
 data:d.length≤100
 names:ns.length≤20∧∀s∈ns,s.size≤40
 tries:ts.length≤20∧∀x∈ts,cO x
abbrev ik (z:ej) (ts:List Int):List Int:=[z.2.2.2.1,z.2.2.2.2.1,z.2.2.2.2.2.1]++ts
theorem jn:bF.size=6:=rfl
theorem qn:dS.size=7:=rfl
theorem sn:er.size=6:=rfl
theorem iH:cZ.size=5:=rfl
theorem xp (l:List (List UInt8)) (c:Nat) (h:∀x∈l,x.length≤c):(l.flatMap (32::·)).length≤l.length*(c+1):=by
 induction l with
 |nil=>simp
 |cons a r ih=>
  have h1:=h a List.mem_cons_self
  have h2:=ih fun x hx=>h x (List.mem_cons_of_mem _ hx)
  rw[List.flatMap_cons,List.length_append,List.length_cons,List.length_cons,Nat.succ_mul];omega
theorem yH (l:List Int):gX l=(l.map dL).flatMap (32::·):=by
 unfold gX
 rw[List.flatMap_map]
theorem yI (l:List Int) (h:∀x∈l,cO x):(gX l).length≤l.length*22:=by
 rw[yH]
 have:=xp (l.map dL) 21 fun x hx=>by
  obtain⟨n,hn,rfl⟩:=List.mem_map.1 hx
  exact sg (h n hn)
 rw[List.length_map]at this;exact this
end Go.Qw
namespace Go.Qw
open Go Go.Vc Go.Proofs Wl
set_option maxRecDepth 1000000
theorem tg (y:cC) (z:ej) (d:List UInt8) (ns:List ByteArray) (ts:List Int) (h:Heap) (R:lm h z d ns ts) (S:sk z d ns ts) (ht:jh h):
  ae Tryz.prog eb #[eR y,jY z] h fun v h'=>∃t:ByteArray,v=.string t∧dl t=dM y.1 z.1 d (ns.map dl) (ik z ts) z.2.2.2.2.2.2.2∧Sp h h' []:=by
 refine iQ y z ?_
 unfold gv
 refine(Sp.refl h).boxed fun a1 h1 H1=>H1.boxed fun a2 h2 H2=>?_
 have H2:Sp h h2 [af a1 av (bg y),af a2 aP (cE z)]:=H2
 have b1:=H2.box 0 rfl
 have b2:=H2.box 1 rfl
 have t2:=ht.up H2.aq
 have R2:=R.up H2.aq
 refine⟨z.1,b2.cell0 rfl,cT (fun e=>?_) fun e=>?_⟩
 ·refine⟨z.1,b2.cell0 rfl,(jO z.1 S.e h2 t2).mono ?_⟩
  rintro _ h3 ⟨t,rfl,dt,R3⟩
  have zt:=jg S.e dt
  refine⟨t,rfl,ff (by rw[jn];omega),bu (fun s h'=>dl s=dM y.1 z.1 d (ns.map dl) (ik z ts) z.2.2.2.2.2.2.2∧Sp h h' []) ?_ fun s h' x=>⟨s,rfl,x.1,x.2⟩⟩
  have H3:=ab.up H2 R3.aq
  refine⟨y.1,(H3.box 0 rfl).cell0 rfl,bn (fun e10=>?_) fun e10=>?_⟩
  ·refine⟨z.2.2.2.2.2.2.2,(H3.box 1 rfl).cell rfl,(jO _ S.n h3 (t2.up R3.aq)).mono ?_⟩
   rintro _ h4 ⟨t',rfl,dt',R4⟩
   have zt':=jg S.n dt'
   refine⟨t',rfl,ff (by rw[cG];omega),ff (by rw[ByteArray.size_append,ByteArray.size_append,jn,cG];omega),?_,.zip (ab.up H3 R4.aq).aq⟩
   unfold dM
   rw[if_pos e,if_pos e10]
   simp only[bT,dt,dt',List.append_assoc];rfl
  ·refine⟨?_,.zip H3.aq⟩
   unfold dM
   rw[if_pos e,if_neg e10]
   simp only[bT,dt,List.append_nil];rfl
 refine H2.alloc ag rfl fun a10 h6 H6=>?_
 have H6:Sp h h6 [af a1 av (bg y),af a2 aP (cE z),af a10 am (bq none aG)]:=H6
 have H7:Sp h h6 [af a10 am (bq none aG),aw ay aG 1 aB [],af a1 av (bg y),af a2 aP (cE z)]:=ab.de (H6.nil ay 1 aB) [2,3,0,1]
 have R7:=R.up H7.aq
 have t7:=ht.up H7.aq
 have tl:∀{k:Int},y.1=k→dM y.1 z.1 d (ns.map dl) (ik z ts) z.2.2.2.2.2.2.2=dM k 0 d (ns.map dl) (ik z ts) z.2.2.2.2.2.2.2:=fun hk=>by rw[hk,e]
 refine bu (fun _ h'=>∃p r bs,(p=none∨p=some a10)∧bs≠[]∧bs.length≤2^20∧bs=dM y.1 z.1 d (ns.map dl) (ik z ts) z.2.2.2.2.2.2.2∧Sp h h' [af a10 am (bq p r),aw ay r 1 aB bs]) ?_ ?_
 rotate_left
 ·rintro _ h18 ⟨p,r,bs,hp,hne,hsz,hbs,H18⟩
  refine(fX a10 p r bs hne (by omega) H18).mono ?_
  rintro _ h19 ⟨rfl,R19⟩
  exact⟨_,rfl,_,rfl,hbs,.zip R19.aq⟩
 refine⟨y.1,(H7.box 2 rfl).cell0 rfl,bn (fun e2=>?_) fun e2=>bn (fun e4=>?_) fun e4=>bn (fun e5=>?_) fun e5=>bn (fun e10=>?_) fun e10=>?_⟩
 ·refine⟨z.2.1,(H7.box 3 rfl).cell rfl,(uP z.2.1 d h6 R7.data (by have:=S.data;omega)).mono ?_⟩
  rintro _ h8 ⟨t,rfl,dt,R8⟩
  have zt:t.size≤201:=by rw[uK,dt];have:=sh d;have:=S.data;omega
  refine⟨t,rfl,ff (by rw[sn];omega),_,rfl,?_,.zip (ab.up H7 R8.aq).aq⟩
  rw[tl e2,bT,dt];rfl
 ·refine(db a10 none aG [] eu (.inl rfl) (by decide) H7).mono ?_
  rintro _ h8 ⟨rfl,r8,H8⟩
  have H8:Sp h h8 [af a10 am (bq (some a10) r8),aw ay r8 1 aB [110,97,109,101,115],af a1 av (bg y),af a2 aP (cE z)]:=H8
  refine⟨((eu.size:Int),.nilIface),rfl,z.2.2.1,(H8.box 3 rfl).cell rfl,?_⟩
  have hnl:=R.names.len
  obtain⟨n1,n2⟩:=S.names
  refine aE (fun i:Nat=>(i:Int)) (fun i h'=>i≤ns.length∧∃r,Sp h h' [af a10 am (bq (some a10) r),aw ay r 1 aB ([110,97,109,101,115]++((ns.take i).map dl).flatMap (32::·)),af a1 av (bg y),af a2 aP (cE z)]) (fun i=>ns.length-i) 0 rfl ⟨Nat.zero_le _,r8,H8⟩ ?_
  rintro i h9 ⟨hi,r9,H9⟩
  have hle:=xp ((ns.take i).map dl) 40 fun x hx=>by
   obtain⟨s,hs,rfl⟩:=List.mem_map.1 hx
   exact n2 s (List.mem_of_mem_take hs)
  have hl2:((ns.take i).map dl).length≤20:=by simp;omega
  refine an (fun hlt=>?_) fun hge=>?_
  ·have hi':i<ns.length:=by omega
   refine(Seq.up R.names H9.aq).bd (g:=Value.string) i rfl hi' ns[i] rfl ?_
   have hs:=n2 _ (List.getElem_mem hi')
   refine⟨ff (by rw[cG];omega),(db a10 (some a10) r9 _ (aV++ns[i]) (.inr rfl) ?_ H9).mono ?_⟩
   ·rw[ByteArray.size_append,cG,List.length_append]
    simp only[List.length_cons,List.length_nil];omega
   rintro _ h10 ⟨rfl,r10,H10⟩
   refine⟨(((aV++ns[i]).size:Int),.nilIface),rfl,?_⟩
   rw[Go.Vc.wrap_small _ (by omega) (by omega)]
   refine⟨i+1,rfl,⟨by omega,r10,?_⟩,by omega⟩
   have e:[110,97,109,101,115]++((ns.take (i+1)).map dl).flatMap (32::·)=[110,97,109,101,115]++((ns.take i).map dl).flatMap (32::·)++dl (aV++ns[i]):=by
    rw[aF _ _ hi',List.map_append,List.flatMap_append,List.append_assoc,bT,List.map_cons,List.map_nil,List.flatMap_cons,List.flatMap_nil,List.append_nil];rfl
   rw[e];exact H10
  ·rw[List.take_of_length_le (by omega)]at H9 hle hl2
   refine⟨some a10,r9,_,.inr rfl,by simp,?_,?_,ab.de H9 [0,1]⟩
   ·rw[List.length_append];simp only[List.length_cons,List.length_nil];omega
   ·rw[tl e4];rfl
 ·refine(db a10 none aG [] fN (.inl rfl) (by decide) H7).mono ?_
  rintro _ h8 ⟨rfl,r8,H8⟩
  have H8:Sp h h8 [af a10 am (bq (some a10) r8),aw ay r8 1 aB [115,116,97,116],af a1 av (bg y),af a2 aP (cE z)]:=H8
  have b8:=H8.box 3 rfl
  refine⟨((fN.size:Int),.nilIface),rfl,z.2.2.2.1,b8.cell rfl,z.2.2.2.2.1,by rw[add_add];exact b8.cell rfl,z.2.2.2.2.2.1,by rw[add_add];exact b8.cell rfl,?_⟩
  refine H8.lit ag aA dI rfl [z.2.2.2.1,z.2.2.2.2.1,z.2.2.2.2.2.1] rfl (show 3≤2^20 by decide) rfl fun v9 h9 H9=>?_
  refine⟨z.2.2.2.2.2.2.1,by rw[add_add];exact(H9.box 3 rfl).cell rfl,?_⟩
  obtain⟨q1,q2⟩:=S.tries
  refine H9.append ag 4 rfl dI ⟨_,_,rfl,rfl⟩ rfl (by decide) (fun _=>rfl) (Seq.up R.tries H9.aq) dq (by simp;omega) fun v10 h10 H10=>?_
  have H10:Sp h h10 [af a10 am (bq (some a10) r8),aw ay r8 1 aB [115,116,97,116],af a1 av (bg y),af a2 aP (cE z),aw aH v10 1 aA (ik z ts)]:=H10
  have hvl:v10.len=(ik z ts).length:=(H10.own 4 rfl).len
  have hst:∀x∈ik z ts,cO x:=fun x hx=>by
   rcases List.mem_append.1 hx with hx|hx
   ·simp only[List.mem_cons,List.not_mem_nil,or_false]at hx
    rcases hx with rfl|rfl|rfl
    ·exact S.st.1
    ·exact S.st.2.1
    ·exact S.st.2.2
   ·exact q2 x hx
  have hsl:(ik z ts).length≤23:=by simp;omega
  obtain⟨L,hL⟩:∃L,L=ik z ts:=⟨_,rfl⟩
  rw[←hL]at H10 hvl hst hsl
  have H10b:Sp h h10 [af a10 am (bq (some a10) r8),aw ay r8 1 aB [115,116,97,116],aw aH v10 1 aA L]:=ab.de H10 [0,1,4]
  refine aE (fun i:Nat=>(i:Int)) (fun i h'=>i≤L.length∧∃r,Sp h h' [af a10 am (bq (some a10) r),aw ay r 1 aB ([115,116,97,116]++gX (L.take i)),aw aH v10 1 aA L]) (fun i=>L.length-i) 0 rfl ⟨Nat.zero_le _,r8,H10b⟩ ?_
  rintro i h11 ⟨hi,r11,H11⟩
  have hle:=yI (L.take i) fun x hx=>hst x (List.mem_of_mem_take hx)
  have hl2:(L.take i).length≤23:=by simp;omega
  refine an (fun hlt=>?_) fun hge=>?_
  ·have hi':i<L.length:=by omega
   refine(H11.seq 2 rfl fun _=>rfl).bd (g:=Value.int .i64) i rfl hi' L[i] rfl ?_
   have hs:=hst _ (List.getElem_mem hi')
   refine(jO _ hs h11 (ht.up H11.aq)).mono ?_
   rintro _ h12 ⟨t,rfl,dt,R12⟩
   have zt:=jg hs dt
   refine⟨t,rfl,ff (by rw[cG];omega),(db a10 (some a10) r11 _ (aV++t) (.inr rfl) ?_ (ab.up H11 R12.aq)).mono ?_⟩
   ·rw[ByteArray.size_append,cG,List.length_append]
    simp only[List.length_cons,List.length_nil];omega
   rintro _ h13 ⟨rfl,r13,H13⟩
   refine⟨(((aV++t).size:Int),.nilIface),rfl,?_⟩
   rw[Go.Vc.wrap_small _ (by omega) (by omega)]
   refine⟨i+1,rfl,⟨by omega,r13,?_⟩,by omega⟩
   have e:[115,116,97,116]++gX (L.take (i+1))=[115,116,97,116]++gX (L.take i)++dl (aV++t):=by
    rw[aF _ _ hi',bT,dt]
    unfold gX
    rw[List.flatMap_append,List.append_assoc,List.flatMap_cons,List.flatMap_nil,List.append_nil];rfl
   rw[e];exact H13
  ·rw[List.take_of_length_le (by omega)]at H11 hle hl2
   refine⟨some a10,r11,_,.inr rfl,by simp,?_,?_,ab.de H11 [0,1]⟩
   ·rw[List.length_append];simp only[List.length_cons,List.length_nil];omega
   ·rw[tl e5,hL];rfl
 ·refine⟨z.2.2.2.2.2.2.2,(H7.box 3 rfl).cell rfl,(jO _ S.n h6 t7).mono ?_⟩
  rintro _ h8 ⟨t,rfl,dt,R8⟩
  have zt:=jg S.n dt
  refine⟨t,rfl,ff (by rw[qn];omega),_,rfl,?_,.zip (ab.up H7 R8.aq).aq⟩
  rw[tl e10,bT,dt];rfl
 ·refine⟨_,rfl,?_,.zip H7.aq⟩
  unfold dM
  rw[if_neg (by omega),if_neg e2,if_neg e4,if_neg e5,if_neg e10];rfl
end Go.Qw
namespace Go.Qw
open Go Go.Vc Go.Proofs Wl
set_option maxRecDepth 1000000
theorem wR (l:List Int) (x:Int):gX (l++[x])=gX l++32::dL x:=by
 unfold gX
 rw[List.flatMap_append,List.flatMap_cons,List.flatMap_nil,List.append_nil]
theorem th (y:cC) (z:ej) (d:List UInt8) (ns:List ByteArray) (ts:List Int) (h:Heap) (R:lm h z d ns ts) (S:sk z d ns ts):
  ae Tryz.prog eO #[eR y,jY z] h fun v h'=>∃t:ByteArray,v=.string t∧dl t=dM y.1 z.1 d (ns.map dl) (ik z ts) z.2.2.2.2.2.2.2∧Sp h h' []:=by
 refine iR y z ?_
 unfold eX
 refine(Sp.refl h).boxed fun a1 h1 H1=>H1.boxed fun a2 h2 H2=>?_
 have H2:Sp h h2 [af a1 av (bg y),af a2 aP (cE z)]:=H2
 have b1:=H2.box 0 rfl
 have b2:=H2.box 1 rfl
 have R2:=R.up H2.aq
 refine bu (fun s h'=>dl s=dM y.1 z.1 d (ns.map dl) (ik z ts) z.2.2.2.2.2.2.2∧h'=h2) ?_ fun s h' x=>⟨s,rfl,x.1,by rw[x.2];exact .zip H2.aq⟩
 have tl:∀{k:Int},z.1=0→y.1=k→dM y.1 z.1 d (ns.map dl) (ik z ts) z.2.2.2.2.2.2.2=dM k 0 d (ns.map dl) (ik z ts) z.2.2.2.2.2.2.2:=fun e hk=>by rw[hk,e]
 refine⟨z.1,b2.cell0 rfl,cT (fun e=>?_) fun e=>?_⟩
 ·refine⟨z.1,b2.cell0 rfl,(gC z.1 S.e.1 S.e.2 h2).mono ?_⟩
  rintro _ h2 ⟨t,rfl,dt,rfl⟩
  have zt:=jg S.e dt
  refine⟨t,rfl,ff (by rw[jn];omega),y.1,b1.cell0 rfl,bn (fun e10=>?_) fun e10=>?_⟩
  ·refine⟨ff (by rw[ByteArray.size_append,jn,cG];omega),z.2.2.2.2.2.2.2,b2.cell rfl,(gC _ S.n.1 S.n.2 h2).mono ?_⟩
   rintro _ h2 ⟨t',rfl,dt',rfl⟩
   have zt':=jg S.n dt'
   refine⟨t',rfl,ff (by rw[ByteArray.size_append,ByteArray.size_append,jn,cG];omega),?_,rfl⟩
   unfold dM
   rw[if_pos e,if_pos e10]
   simp only[bT,dt,dt',List.append_assoc];rfl
  ·refine⟨?_,rfl⟩
   unfold dM
   rw[if_pos e,if_neg e10]
   simp only[bT,dt,List.append_nil];rfl
 refine⟨y.1,b1.cell0 rfl,bn (fun e2=>?_) fun e2=>⟨y.1,b1.cell0 rfl,bn (fun e4=>?_) fun e4=>⟨y.1,b1.cell0 rfl,bn (fun e5=>?_) fun e5=>⟨y.1,b1.cell0 rfl,bn (fun e10=>?_) fun e10=>?_⟩⟩⟩⟩
 ·refine⟨z.2.1,b2.cell rfl,(vQ z.2.1 d h2 R2.data (by have:=S.data;omega)).mono ?_⟩
  rintro _ h2 ⟨t,rfl,dt,rfl⟩
  have zt:t.size≤201:=by rw[uK,dt];have:=sh d;have:=S.data;omega
  refine⟨t,rfl,ff (by rw[sn];omega),?_,rfl⟩
  rw[tl e e2,bT,dt];rfl
 ·refine⟨z.2.2.1,b2.cell rfl,?_⟩
  have hnl:=R2.names.len
  obtain⟨n1,n2⟩:=S.names
  refine aE (fun t:ByteArray×Nat=>(t.1,(t.2:Int))) (fun t h'=>h'=h2∧t.2≤ns.length∧t.1.size≤5+41*t.2∧dl t.1=[110,97,109,101,115]++((ns.take t.2).map dl).flatMap (32::·)) (fun t=>ns.length-t.2) (_,0) rfl ⟨rfl,Nat.zero_le _,by decide,rfl⟩ ?_
  rintro⟨s,i⟩ h2 ⟨rfl,hi,hz,hd⟩
  dsimp only at hi hz hd⊢
  refine an (fun hlt=>?_) fun hge=>?_
  ·have hi':i<ns.length:=by omega
   refine R2.names.bd (g:=Value.string) i rfl hi' ns[i] rfl ?_
   have hs:=n2 _ (List.getElem_mem hi')
   refine⟨ff (by rw[cG];omega),ff (by rw[ByteArray.size_append,cG];omega),?_⟩
   rw[Go.Vc.wrap_small _ (by omega) (by omega)]
   refine⟨(_,i+1),rfl,⟨rfl,by dsimp only;omega,by dsimp only;rw[ByteArray.size_append,ByteArray.size_append,cG];omega,?_⟩,by dsimp only;omega⟩
   dsimp only
   rw[aF _ _ hi',List.map_append,List.flatMap_append,bT,bT,hd,List.map_cons,List.map_nil,List.flatMap_cons,List.flatMap_nil,List.append_nil,List.append_assoc,List.append_assoc];rfl
  ·rw[List.take_of_length_le (by omega)]at hd
   exact⟨by rw[hd,tl e e4];rfl,rfl⟩
 ·refine bu (fun s h'=>dl s=[115,116,97,116]++gX [z.2.2.2.1,z.2.2.2.2.1,z.2.2.2.2.2.1]∧s.size≤80∧h'=h2) ?_ ?_
  ·obtain⟨s1,s2,s3⟩:=S.st
   refine⟨z.2.2.2.1,b2.cell rfl,z.2.2.2.2.1,by rw[add_add];exact b2.cell rfl,z.2.2.2.2.2.1,by rw[add_add];exact b2.cell rfl,(gC _ s1.1 s1.2 h2).mono ?_⟩
   rintro _ h2 ⟨t1,rfl,d1,rfl⟩
   have z1:=jg s1 d1
   refine⟨t1,rfl,⟨by rw[add_add];exact b2.cell rfl,by rw[add_add];exact b2.cell rfl,trivial⟩,ff (by rw[iH];omega),ff (by rw[ByteArray.size_append,iH,cG];omega),(gC _ s2.1 s2.2 h2).mono ?_⟩
   rintro _ h2 ⟨t2,rfl,d2,rfl⟩
   have z2:=jg s2 d2
   refine⟨t2,rfl,⟨by rw[add_add];exact b2.cell rfl,trivial⟩,ff (by simp only[ByteArray.size_append,iH,cG];omega),ff (by simp only[ByteArray.size_append,iH,cG];omega),(gC _ s3.1 s3.2 h2).mono ?_⟩
   rintro _ h2 ⟨t3,rfl,d3,rfl⟩
   have z3:=jg s3 d3
   refine⟨t3,rfl,trivial,ff (by simp only[ByteArray.size_append,iH,cG];omega),?_,by simp only[ByteArray.size_append,iH,cG];omega,rfl⟩
   simp only[bT,d1,d2,d3,List.append_assoc]
   simp[gX];rfl
  rintro s0 h2 ⟨d0,z0,rfl⟩
  refine⟨z.2.2.2.2.2.2.1,by rw[add_add];exact b2.cell rfl,?_⟩
  have htl:=R2.tries.len
  obtain⟨q1,q2⟩:=S.tries
  refine aE (fun t:ByteArray×Nat=>(t.1,(t.2:Int))) (fun t h'=>h'=h2∧t.2≤ts.length∧t.1.size≤80+22*t.2∧dl t.1=[115,116,97,116]++gX [z.2.2.2.1,z.2.2.2.2.1,z.2.2.2.2.2.1]++gX (ts.take t.2)) (fun t=>ts.length-t.2) (s0,0) rfl ⟨rfl,Nat.zero_le _,by dsimp only;omega,by rw[d0];simp⟩ ?_
  rintro⟨s,i⟩ h2 ⟨rfl,hi,hz,hd⟩
  dsimp only at hi hz hd⊢
  refine an (fun hlt=>?_) fun hge=>?_
  ·have hi':i<ts.length:=by omega
   refine R2.tries.bd (g:=Value.int .i64) i rfl hi' ts[i] rfl ?_
   have hs:=q2 _ (List.getElem_mem hi')
   refine⟨ff (by rw[cG];omega),(gC _ hs.1 hs.2 h2).mono ?_⟩
   rintro _ h2 ⟨t,rfl,dt,rfl⟩
   have zt:=jg hs dt
   refine⟨t,rfl,ff (by rw[ByteArray.size_append,cG];omega),?_⟩
   rw[Go.Vc.wrap_small _ (by omega) (by omega)]
   refine⟨(_,i+1),rfl,⟨rfl,by dsimp only;omega,by dsimp only;rw[ByteArray.size_append,ByteArray.size_append,cG];omega,?_⟩,by dsimp only;omega⟩
   dsimp only
   rw[aF _ _ hi',wR,bT,bT,hd,dt]
   simp only[List.append_assoc];rfl
  ·rw[List.take_of_length_le (by omega)]at hd
   refine⟨?_,rfl⟩
   rw[hd,tl e e5]
   show _=[115,116,97,116]++gX (ik z ts)
   unfold gX ik
   rw[List.flatMap_append,List.append_assoc]
 ·refine⟨z.2.2.2.2.2.2.2,b2.cell rfl,(gC _ S.n.1 S.n.2 h2).mono ?_⟩
  rintro _ h2 ⟨t,rfl,dt,rfl⟩
  have zt:=jg S.n dt
  refine⟨t,rfl,ff (by rw[qn];omega),?_,rfl⟩
  rw[tl e e10,bT,dt];rfl
 ·refine⟨?_,rfl⟩
  unfold dM
  rw[if_neg (by omega),if_neg e2,if_neg e4,if_neg e5,if_neg e10];rfl
end Go.Qw
namespace Go.Qw
open Go Go.Vc Go.Proofs Wl
set_option maxRecDepth 1000000
theorem yJ {s t:ByteArray} (h:dl s=dl t):s=t:=by
 cases s;cases t;congr;exact Array.toList_inj.1 h
theorem mG {h h1:Heap} {As:List HP} {a a':Addr} (y:cC) (z:ej) {d:List UInt8} {ns:List ByteArray} {ts:List Int} (H:Sp h h1 As) (i j:Nat) (hi:As[i]?=some (af a av (bg y))) (hj:As[j]?=some (af a' aP (cE z)))
  (R:lm h z d ns ts) (S:sk z d ns ts) (ht:jh h) {F K:Heap→Prop} (hK:∀h',Sp h h' As→K h'):
  ∃x21:cC,ai h1 a 0 (bg x21)∧∃x22:ej,ai h1 a' 0 (cE x22)∧∃x23:cC,ai h1 a 0 (bg x23)∧∃x24:ej,ai h1 a' 0 (cE x24)∧
   ah Tryz.prog eb #[eR x21,jY x22] (.one (.sc .str)) h1 fun(r25:ByteArray) h16=>
   ar.ok [(a',.int .i64 x24.1),(a'.add 1,dz x24.2.1),(a'.add 2,dz x24.2.2.1),(a'.add 3,.int .i64 x24.2.2.2.1),(a'.add 4,.int .i64 x24.2.2.2.2.1),(a'.add 5,.int .i64 x24.2.2.2.2.2.1),(a'.add 6,dz x24.2.2.2.2.2.2.1),(a'.add 7,.int .i64 x24.2.2.2.2.2.2.2),
    (a,.int .i64 x23.1),(a.add 1,.string x23.2.1),(a.add 2,dz x23.2.2.1),(a.add 3,.int .i64 x23.2.2.2.1),(a.add 4,.int .i64 x23.2.2.2.2.1),(a.add 5,.int .i64 x23.2.2.2.2.2.1),(a.add 6,.int .u32 x23.2.2.2.2.2.2.1),(a.add 7,dz x23.2.2.2.2.2.2.2.1),(a.add 8,dz x23.2.2.2.2.2.2.2.2)] h16∧
   ah Tryz.prog eO #[eR x23,jY x24] (.one (.sc .str)) h16 fun(r26:ByteArray) h17=>ar.ok [] h17∧Br (r25.toList==r26.toList) (K h17) (F h17):=by
 have ba:=H.box i hi
 have bb:=H.box j hj
 refine⟨y,ba.bc _ rfl,z,bb.bc _ rfl,y,ba.bc _ rfl,z,bb.bc _ rfl,(tg y z d ns ts h1 (R.up H.aq) S (ht.up H.aq)).mono ?_⟩
 rintro _ h2 ⟨t,rfl,dt,R2⟩
 have H2:=ab.up H R2.aq
 have ba:=H2.box i hi
 have bb:=H2.box j hj
 refine⟨t,rfl,⟨bb.cell0 rfl,bb.cell rfl,bb.cell rfl,bb.cell rfl,bb.cell rfl,bb.cell rfl,bb.cell rfl,bb.cell rfl,ba.cell0 rfl,ba.cell rfl,ba.cell rfl,ba.cell rfl,ba.cell rfl,ba.cell rfl,ba.cell rfl,ba.cell rfl,ba.cell rfl,trivial⟩,(th y z d ns ts h2 (R.up H2.aq) S).mono ?_⟩
 rintro _ h3 ⟨t',rfl,dt',R3⟩
 have e:t=t':=yJ (dt.trans dt'.symm)
 subst e
 exact⟨t,rfl,trivial,jV (beq_self_eq_true _) (hK h3 (ab.up H2 R3.aq))⟩
theorem mH (y:cC) (z:ej) (kind:Int) (d:List UInt8) (ns:List ByteArray) (ts:List Int) (h:Heap) (R:lm h z d ns ts) (hz:cO z.1∧(cO z.2.2.2.1∧cO z.2.2.2.2.1∧cO z.2.2.2.2.2.1)∧cO z.2.2.2.2.2.2.2) (hts:∀x∈ts,cO x)
  (hm:∃m,cellOf h ⟨0,0,none⟩=some (.int .i64 m)) (ht:jh h):
  ae Tryz.prog gu #[eR y,jY z,.int .i64 kind] h fun v h'=>v=.bool true∧ax (fun b=>b<h.size) h h':=by
 obtain⟨m,hm⟩:=hm
 refine ga y z kind ?_
 unfold dB
 refine(Sp.refl h).boxed fun a1 h1 H1=>H1.boxed fun a2 h2 H2=>?_
 have H2:Sp h h2 [af a1 av (bg y),af a2 aP (cE z)]:=H2
 have wk:∀{h':Heap} {As:List HP},Sp h h' As→ae Tryz.prog ez #[] h' fun v h''=>v=.bool true∧ax (fun b=>b<h.size) h h'':=fun H=>(sj m _ (H.aq.cell (cg hm) hm)).mono fun _ _ x=>⟨x.1,(ab.up H x.2.aq).aq⟩
 have dn:=R.data.len
 have nn:=R.names.len
 have tn:=R.tries.len
 refine bu (fun _ h'=>h'=h2∧d.length≤100∧ns.length≤20∧ts.length≤20) ?_ ?_
 ·refine⟨z.2.1,(H2.box 1 rfl).cell rfl,an (fun _=>?_) fun e1=>⟨z.2.2.1,(H2.box 1 rfl).cell rfl,an (fun _=>?_) fun e2=>⟨z.2.2.2.2.2.2.1,by rw[add_add];exact(H2.box 1 rfl).cell rfl,an (fun _=>?_) fun e3=>⟨rfl,by omega,by omega,by omega⟩⟩⟩⟩
  all_goals
   refine(wk H2).mono ?_
   rintro _ h3 ⟨rfl,P⟩
   exact⟨true,rfl,rfl,P⟩
 rintro _ h2 ⟨rfl,l1,l2,l3⟩
 refine⟨z.2.2.1,(H2.box 1 rfl).cell rfl,?_⟩
 refine aE (fun i:Nat=>(i:Int)) (fun i h'=>h'=h2∧i≤ns.length∧∀s∈ns.take i,s.size≤40) (fun i=>ns.length-i) 0 rfl ⟨rfl,Nat.zero_le _,by simp⟩ ?_
 rintro i h2 ⟨rfl,hi,hs⟩
 refine an (fun hlt=>?_) fun hge=>?_
 ·have hi':i<ns.length:=by omega
  refine⟨z.2.2.1,(H2.box 1 rfl).cell rfl,(Seq.up R.names H2.aq).bd (g:=Value.string) i rfl hi' ns[i] rfl ?_⟩
  refine an (fun _=>?_) fun e=>?_
  ·refine(wk H2).mono ?_
   rintro _ h3 ⟨rfl,P⟩
   exact⟨true,rfl,rfl,P⟩
  ·rw[Go.Vc.wrap_small _ (by omega) (by omega)]
   refine⟨i+1,rfl,⟨rfl,by omega,fun s hm=>?_⟩,by omega⟩
   rw[aF _ _ hi']at hm
   rcases List.mem_append.1 hm with hm|hm
   ·exact hs s hm
   ·rw[List.mem_singleton.1 hm];omega
 rw[List.take_of_length_le (by omega)]at hs
 have S:sk z d ns ts:=⟨hz.1,hz.2.1,hz.2.2,l1,⟨l2,hs⟩,l3,hts⟩
 refine⟨y,(H2.box 0 rfl).bc _ rfl,H2.alloc ag rfl fun a17 h3 H3=>?_⟩
 refine H3.storeAll ag 2 rfl rfl (bg y) rfl rfl rfl rfl fun h4 H4=>?_
 refine(eT kind 15 h4 (by decide) (by decide)).mono ?_
 rintro _ h4 ⟨rfl,rfl⟩
 refine⟨_,rfl,?_⟩
 refine H4.storeAt ag 2 rfl rfl (off:=0) rfl rfl rfl (show 0<9 by decide) fun h5 H5=>?_
 refine⟨z,(H5.box 1 rfl).bc _ rfl,H5.alloc ag rfl fun a20 h6 H6=>?_⟩
 refine H6.storeAll ag 3 rfl rfl (cE z) rfl rfl rfl rfl fun h7 H7=>?_
 refine H7.storeAt ag 3 rfl rfl (off:=0) rfl rfl rfl (show 0<8 by decide) fun h8 H8=>?_
 obtain⟨y2,hy2⟩:∃y2:cC,y2=(kind%15,y.2):=⟨_,rfl⟩
 obtain⟨z2,hz2⟩:∃z2:ej,z2=(0,z.2):=⟨_,rfl⟩
 have H8:Sp h h8 [af a1 av (bg y),af a2 aP (cE z),af a17 av (bg y2),af a20 aP (cE z2)]:=by
  rw[hy2,hz2];exact H8
 have Rz2:lm h z2 d ns ts:=by rw[hz2];exact⟨R.data,R.names,R.tries⟩
 have Sz2:sk z2 d ns ts:=by rw[hz2];exact⟨⟨by show(-9223372036854775808:Int)≤0;decide,by show(0:Int)≤9223372036854775807;decide⟩,S.st,S.n,l1,S.names,S.tries⟩
 refine mG y z H8 0 1 rfl rfl R S ht fun h9 H9=>?_
 refine mG y2 z2 H9 2 3 rfl rfl Rz2 Sz2 ht fun h10 H10=>?_
 refine mG y2 z H10 2 1 rfl rfl R S ht fun h11 H11=>?_
 refine(wk H11).mono ?_
 rintro _ h12 ⟨rfl,P⟩
 exact⟨true,rfl,trivial,rfl,P⟩
end Go.Qw
