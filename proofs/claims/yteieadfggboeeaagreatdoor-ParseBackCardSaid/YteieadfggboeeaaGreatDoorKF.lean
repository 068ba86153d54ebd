/- Part of the proofs that the laws of this seat answer true whatever the input reads, and leave it as it was; no condition. -/
import Derived.Test.YteieadfggboeeaaGreatDoorKA
import Derived.Test.YteieadfggboeeaaGreatDoorPlA
import Derived.Test.YteieadfggboeeaaGreatDoorPlK
import Derived.Test.YteieadfggboeeaaGreatDoorKE
import Derived.Test.YteieadfggboeeaaGreatDoorKB
set_option linter.unusedVariables false
set_option linter.unusedSimpArgs false
namespace Go.Qw
open Go Go.Vc Go.Proofs Wl
section
set_option maxRecDepth 20000
variable {B:ak} {h0 h:Heap} {As:List HP} {a pw:Addr} {offs:Int} {da:List (Option Addr)} {w:Pow} {ds:bi}
theorem qE (x:cn) (m:bu) (hx:iW h x m) (ho:m.objs=[]) (H:ab B h0 h (bc bz a pw (bI x) offs da w ds::As)):
  ag Tryz.prog lv #[.pointer (some a)] h fun v h'=>v=.slice none 0 0∧h'=h:=by
 refine kD (some a) ?_
 unfold gu
 obtain⟨ok,hb⟩:=ab.hU H
 refine(ly (some a) (R:=fun v h'=>v=.bool (gY w offs)∧h'=h) ?_).mono ?_
 ·unfold gN
  refine cj (fun e=>by cases e) fun _=>(jV H).mono ?_
  rintro _ _ ⟨rfl,rfl⟩
  exact⟨_,rfl,rfl,rfl⟩
 rintro _ _ ⟨rfl,rfl⟩
 refine⟨_,rfl,cj (fun _=>⟨rfl,rfl⟩) fun _=>⟨a,rfl,x.2.2.2.2.2.2.2,hb.cell rfl,?_⟩⟩
 have hl:=cN.len hx.objs
 rw[ho]at hl
 refine aE (fun _:Unit=>((⟨none,0,0⟩:Sl),(0:Int))) (fun _ h'=>h'=_) (fun _=>0) () rfl rfl ?_
 rintro _ h1 rfl
 exact an (fun e=>absurd e (by rw[hl];decide)) fun _=>⟨rfl,rfl⟩
end
end Go.Qw
namespace Go.Qw
open Go Go.Vc Go.Proofs Wl
set_option maxRecDepth 100000
end Go.Qw
namespace Go.Qw
open Go Go.Vc Go.Proofs Wl
set_option maxRecDepth 100000
section
variable {B:ak} {h0 h h':Heap} {As:List HP} {a:Addr} {w:Pow}
end
end Go.Qw
namespace Go.Qw
open Go Go.Vc Go.Proofs Wl
abbrev dZ (p s:Option Addr):List Value:=.pointer p::.pointer s::List.replicate 64 (.pointer none)
section
set_option maxRecDepth 20000
variable {B:ak} {h0 h:Heap} {As:List HP} {a pw a2 pw2 b b2:Addr} {offs:Int} {da da2:List (Option Addr)} {w:Pow} {ds:bi} {mc:List Value}
theorem wc (pw s:Addr):am Tryz.prog (Instr.build aP #[(0,.pointer (some pw)),(1,.pointer (some s))]) (.agg (dZ (some pw) (some s)).toArray):=
 lO af (i:=_) rfl rfl rfl (vs:=[(0,.pointer (some pw)),(1,.pointer (some s))]) (cells:=(dZ (some pw) (some s)).toArray) (by kernel_rfl)
theorem wd (p:Pm) (extra:Int) (s:Sl) (l:List Int) (hS:St B h0 As fun h=>Rd h s 1 av l) (hl:l.length≤2^20) (H:ab B h0 h As):
  ag Tryz.prog jO #[iU p,.int .i64 extra,.slice s.ptr s.len s.cap] h fun v h'=>
   ((aQ p extra Pow.new l).1≠0→v=.tuple #[.pointer none,.int .i64 (aQ p extra Pow.new l).1]∧ab B h0 h' As)∧
   ((aQ p extra Pow.new l).1=0→∃(b a pw:Addr) (x:cn) (da:List (Option Addr)),v=.tuple #[.pointer (some b),.int .i64 0]∧
    ab B h0 h' (aj b aP (dZ (some pw) (some a))::bc bz a pw (bI x) Pow.new.offs da (aQ p extra Pow.new l).2.1 (aQ p extra Pow.new l).2.2::gI x (ct p extra l)::As)):=by
 refine oh p extra s ?_
 unfold ld
 refine H.boxed fun a1 h1 H1=>?_
 have H1:ab B h0 h1 (aj a1 cQ [.int .i64 p.1,.int .i64 p.2.1,.int .i64 p.2.2]::As):=H1.cx
 refine(vA h1).mono ?_
 rintro _ h2 ⟨pw,rfl,R2⟩
 have H2:=H1.gO R2
 refine⟨_,rfl,p,(H2.box 1 rfl).bg _ rfl,?_⟩
 refine(tc p extra s l (hS.cons) hl H2).mono ?_
 rintro _ h3 ⟨Q1,Q0⟩
 by_cases e0:(aQ p extra Pow.new l).1=0
 ·obtain⟨a,x,da,rfl,H3⟩:=Q0 e0
  refine⟨(some a,0),rfl,cz (fun e=>absurd rfl e) fun _=>⟨_,wc pw a,H3.boxed fun b h4 H4=>?_⟩⟩
  have H4:ab B h0 h4 (aj b aP (dZ (some pw) (some a))::bc bz a pw (bI x) Pow.new.offs da (aQ p extra Pow.new l).2.1 (aQ p extra Pow.new l).2.2::gI x (ct p extra l)::aj a1 cQ [.int .i64 p.1,.int .i64 p.2.1,.int .i64 p.2.2]::As):=H4.cx
  exact⟨fun e=>absurd e0 e,fun _=>⟨b,a,pw,x,da,rfl,H4.bO 4 [0,1,2]⟩⟩
 ·obtain⟨rfl,H3⟩:=Q1 e0
  refine⟨(none,(aQ p extra Pow.new l).1),rfl,cz (fun _=>⟨fun _=>⟨rfl,H3.rest⟩,fun e=>absurd e e0⟩) fun e=>absurd e e0⟩
theorem uR:gY (aQ (1,1,1) 0 Pow.new [5]).2.1 Pow.new.offs=false:=by decide+kernel
end
end Go.Qw
namespace Go.Qw
open Go Go.Vc Go.Proofs Wl
section
set_option maxRecDepth 20000
variable {B:ak} {h0 h:Heap} {As:List HP} {a pw b:Addr} {offs:Int} {da:List (Option Addr)} {w:Pow} {ds:bi}
theorem pC {p:Option Addr} (y:bW) (hy:y.1=4) (x:cn) (m:bu) (ho:m.objs=[]) (hd:gY w offs=false) (hbA:bK h b aP (dZ p (some a))) (hx:iW h x m) (H:ab B h0 h (bc bz a pw (bI x) offs da w ds::As)):
  ag Tryz.prog iH #[.pointer (some b),dy y] h fun v h'=>v=ui (fT 0)∧Sp h h' []:=by
 refine ip (some b) y ?_
 unfold eK
 refine(Sp.refl h).boxed fun a1 h1 H1=>H1.alloc af rfl fun a2 h2 H2=>aM ?_
 have H2:Sp h h2 [aj a1 ai (aV y),aj a2 dp (kv (fT 0))]:=H2
 refine⟨y.1,(H2.box 0 rfl).cell0 rfl,?_⟩
 refine ba (fun e=>absurd e (by omega)) fun _=>ba (fun e=>absurd e (by omega)) fun _=>ba (fun e=>absurd e (by omega)) fun _=>ba (fun _=>?_) fun e=>absurd hy e
 have P2:=H2.ap
 have hb2:=hbA.ap P2 hbA.lt
 refine⟨b,rfl,some a,hb2.cell rfl,(qE x m (hx.up P2) ho (ab.up H P2)).mono ?_⟩
 rintro _ _ ⟨rfl,rfl⟩
 refine⟨aD,rfl,?_⟩
 refine H2.store af 1 rfl rfl 2 [.slice none 0 0] rfl rfl rfl (by decide) fun h3 H3=>?_
 have H3:Sp h h3 [aj a1 ai (aV y),aj a2 dp (kv (fT 0))]:=H3
 have hb3:=hbA.ap H3.ap hbA.lt
 refine⟨b,rfl,some a,hb3.cell rfl,cj (fun e=>by cases e) fun _=>⟨b,rfl,some a,hb3.cell rfl,(jV (ab.up H H3.ap)).mono ?_⟩⟩
 rintro _ _ ⟨rfl,rfl⟩
 refine⟨_,rfl,cj (fun e=>by rw[hd]at e;cases e) fun _=>?_⟩
 refine⟨fT 0,(H3.box 1 rfl).bg _ rfl,H3.storeAll af 1 rfl rfl (kv (fT 0)) rfl rfl rfl rfl fun h4 H4=>?_⟩
 exact⟨fT 0,(H4.box 1 rfl).bg _ rfl,rfl,.zip H4.ap⟩
theorem sk {p:Option Addr} (y:bW) (hy:y.1=4) (x:cn) (m:bu) (ho:m.objs=[]) (hd:gY w offs=false) (hbA:bK h b aP (dZ p (some a))) (hx:iW h x m) (H:ab B h0 h (bc bz a pw (bI x) offs da w ds::As)):
  ag Tryz.prog fg #[.pointer (some b),dy y] h fun v h'=>v=ui (fT 0)∧Sp h h' []:=by
 refine jw (some b) y ?_
 unfold fB
 refine(Sp.refl h).boxed fun a1 h1 H1=>H1.alloc af rfl fun a2 h2 H2=>cj (fun e=>by cases e) fun _=>aM ?_
 have H2:Sp h h2 [aj a1 ai (aV y),aj a2 dp (kv (fT 0))]:=H2
 refine⟨y.1,(H2.box 0 rfl).cell0 rfl,aM ?_⟩
 refine ba (fun e=>absurd e (by omega)) fun _=>ba (fun e=>absurd e (by omega)) fun _=>ba (fun e=>absurd e (by omega)) fun _=>ba (fun _=>?_) fun e=>absurd hy e
 refine cj (fun _=>?_) fun e=>by rw[hy]at e;cases e
 have P2:=H2.ap
 refine⟨y,(H2.box 0 rfl).bg _ rfl,(pC y hy x m ho hd (hbA.ap P2 hbA.lt) (hx.up P2) (ab.up H P2)).mono ?_⟩
 rintro _ h3 ⟨rfl,R3⟩
 refine⟨fT 0,rfl,?_⟩
 refine(ab.up H2 R3.ap).storeAll af 1 rfl rfl (kv (fT 0)) rfl rfl rfl rfl fun h4 H4=>?_
 exact⟨fT 0,(H4.box 1 rfl).bg _ rfl,rfl,.zip H4.ap⟩
end
set_option maxRecDepth 1000000
theorem uS {B:ak} {h0 h:Heap} {As:List HP} (t:ByteArray) (H:ab B h0 h As):
  ag Tryz.prog im #[.string t] h fun v h'=>∃c:Addr,v=.func (.func aZ) #[] #[ptr c]∧ab B h0 h' (As++[aj c bx [.string t]]):=by
 refine mR t ?_
 unfold iS
 exact H.boxed fun c h1 H1=>⟨c,rfl,H1⟩
theorem yh (s p t:ByteArray) (ht:(⟨(Lib.trimSuffix s.data.toList p.data.toList).toArray⟩:ByteArray)=t) (hs:s.size≤2^20) (h:Heap):ag Tryz.prog ff #[.string s,.string p] h fun v h'=>v=.string t∧h'=h:=by
 intro w hw
 refine(Tryz.strings_TrimSuffix s p w (by omega)).mono ?_
 rintro e w' ⟨rfl,rfl⟩
 exact⟨_,rfl,aL.refl _,by rw[ht],hw⟩
abbrev uT:ByteArray:=⟨#[108,105,115,116]⟩
abbrev ja:List UInt8:=[110,97,109,101,115]
theorem wU {B:ak} {h0:Heap} {b9 b11 b a pw:Addr} {offs:Int} {da:List (Option Addr)} {PW:Pow} {DS:bi} {x:cn} {mn:bu} {m:Int} {l:Nat} {As:List HP} (ho:mn.objs=[]) (hd:gY PW offs=false)
  {a1:Act} {w1:World} (f1:Fits 47 a1 (cw [9,11,12] [ptr b9,ptr b11,.string bd])) (hm:cellOf w1.heap ⟨0,0,none⟩=some (.int .i64 m))
  (H:ab B h0 w1.heap (aj b9 aC [ptr b]::aj b aP (dZ (some pw) (some a))::bc bz a pw (bI x) offs da PW DS::gI x mn::aj b11 ay (cS none aD)::As)):
  (Code.block 1 (.seq (pc 7) (.seq (.seq (pc 8) (.cond (.tmp 37) (pc 9) (pc 10))) (pc 11)))).wpIn (Fr (some l)) 1 Tryz.prog (fun e a' w'=>e=.normal∧aL w1 w'∧∃r:Sl,ab B h0 w'.heap (aj b9 aC [ptr b]::aj b11 ay (cS (some b11) r)::ao az r 1 aF (ja++[10])::As)) a1 w1:=by
 refine wpIn_block (wpIn_seq (wpIn_mono (bZ af f1 (K:=fun vs h=>∃(b13:Addr) (y:bW),y.1=4∧vs=[ptr b9,ptr b11,ptr b13,.bool true]∧ab B h0 h (aj b13 ai (aV y)::aj b9 aC [ptr b]::aj b aP (dZ (some pw) (some a))::bc bz a pw (bI x) offs da PW DS::gI x mn::aj b11 ay (cS none aD)::As)) (cast (zC b9 b11 bd).symm ?_)) ?_))
 ·refine(yh bd ⟨#[10]⟩ uT (by decide) (by decide) w1.heap).mono ?_
  rintro _ h2 ⟨rfl,rfl⟩
  refine⟨uT,rfl,(eu uT m _ hm (by decide)).mono ?_⟩
  rintro _ h3 ⟨y,rfl,F,R⟩
  have e:cM (dl uT)=some {kind:=4}:=by decide
  rw[e]at F R⊢
  have H3:=ab.up H R.ap
  refine⟨(y,true),rfl,H3.alloc af rfl fun b13 h4 H4=>?_⟩
  have H4:ab B h0 h4 (aj b13 ai (aV bA)::_):=H4.cx
  exact H4.storeAll af 0 rfl rfl (aV y) rfl rfl rfl rfl fun h5 H5=>⟨b13,y,F.kind,rfl,H5⟩
 rintro _ a2 w2 ⟨rfl,k2,_,f2,b13,y,hy,rfl,H2⟩
 refine wpIn_seq (wpIn_seq (wpIn_mono (bZ af f2 (K:=fun vs h=>vs=[ptr b9,ptr b11,ptr b13,.bool true]∧h=w2.heap) (cast (zD b9 b11 b13 true).symm ⟨rfl,rfl⟩)) ?_))
 rintro _ a3 w3 ⟨rfl,k3,_,f3,rfl,g3⟩
 rw[←g3]at H2
 refine wpIn_cond_true (f3.eval rfl) (wpIn_mono (bZ af f3 (K:=fun vs h=>∃r:Sl,vs=[ptr b11]∧ab B h0 h (aj b11 ay (cS (some b11) r)::ao az r 1 aF ja::aj b9 aC [ptr b]::As)) (cast (zE b9 b11 b13 true).symm ?_)) ?_)
 ·refine⟨y,(H2.box 0 rfl).bg _ rfl,some b,(H2.box 1 rfl).cell0 rfl,y,(H2.box 0 rfl).bg _ rfl,?_⟩
  have hx:iW w3.heap x mn:=H2.at 4 rfl
  refine(sk y hy x mn ho hd (H2.box 2 rfl) hx (H2.rest.rest.rest)).mono ?_
  rintro _ h4 ⟨rfl,R4⟩
  have H4:=ab.up H2 R4.ap
  have b4:=H4.box 0 rfl
  refine⟨fT 0,rfl,⟨b4.cell0 rfl,b4.cell rfl,b4.cell rfl,b4.cell rfl,b4.cell rfl,b4.cell rfl,b4.cell rfl,b4.cell rfl,b4.cell rfl,trivial⟩,?_⟩
  refine(qD y (fT 0) hy rfl rfl h4).mono ?_
  rintro _ h5 ⟨rfl,R5⟩
  have H5:=ab.up H4 R5.ap
  have H6:ab B h0 h5 (aj b11 ay (cS none aD)::ao az aD 1 aF []::aj b9 aC [ptr b]::As):=((H5.nil az 1 aF).cx).bO 7 [6,0,2]
  refine⟨⟨#[110,97,109,101,115]⟩,rfl,trivial,(jD b11 none aD [] ⟨#[110,97,109,101,115]⟩ (.inl rfl) (by decide) H6).mono ?_⟩
  rintro _ h7 ⟨rfl,r,H7⟩
  exact⟨(5,.nilIface),rfl,trivial,r,rfl,H7⟩
 rintro _ a4 w4 ⟨rfl,k4,_,f4,r,rfl,H4⟩
 refine wpIn_mono (bZ af f4 (K:=fun vs h=>∃r:Sl,ab B h0 h (aj b9 aC [ptr b]::aj b11 ay (cS (some b11) r)::ao az r 1 aF (ja++[10])::As)) (cast (yP b11).symm ?_)) ?_
 ·refine(jD b11 (some b11) r ja ⟨#[10]⟩ (.inr rfl) (by decide) H4).mono ?_
  rintro _ h7 ⟨rfl,r',H7⟩
  exact⟨(1,.nilIface),rfl,r',H7.bO 3 [2,0,1]⟩
 rintro _ a5 w5 ⟨rfl,k5,_,_,r',H5⟩
 exact⟨rfl,((k2.trans k3).trans k4).trans k5,r',H5⟩
end Go.Qw
namespace Go.Qw
open Go Go.Vc Go.Proofs Wl
set_option maxRecDepth 1000000
theorem wV:pc 12=.region 12 #[⟨some 46,.call ⟨.value (.func 32),#[.tmp 11],#[65]⟩,9, "console.go:192",#[],none⟩,⟨some 8,.assign (.tmp 46),9, "console.go:192",#[⟨0,.data⟩,⟨0,.chain⟩,⟨0,.phase⟩],none⟩] false:=by kernel_rfl
noncomputable abbrev uU:Code:=.block 1 (.seq (pc 7) (.seq (.seq (pc 8) (.cond (.tmp 37) (pc 9) (pc 10))) (pc 11)))
noncomputable abbrev eV (fn:FuncId) (tmps:Array Value) (D:Nat) (st:LoopState):Loop:={state:=st,pending:=none,fn,tmps,params:=#[30],assign:=pc 6,body:=uU,defers:=D}
abbrev dR:ByteArray:=⟨#[110,97,109,101,115,10]⟩
theorem yi {h0:Heap} {b9 b11 b a pw c:Addr} {offs:Int} {da:List (Option Addr)} {PW:Pow} {DS:bi} {x:cn} {mn:bu} {m:Int} (ho:mn.objs=[]) (hd:gY PW offs=false) (hm:cellOf h0 ⟨0,0,none⟩=some (.int .i64 m))
  {a5:Act} {w5:World} (f5:Fits 47 a5 (cw [9,11,29] [ptr b9,ptr b11,.func (.func aZ) #[] #[ptr c]]))
  (H:Sp h0 w5.heap (aj c bx [.string bd]::aj b9 aC [ptr b]::aj b aP (dZ (some pw) (some a))::bc bz a pw (bI x) offs da PW DS::gI x mn::aj b11 ay (cS none aD)::[])) {Q:Exit→Act→World→Prop}
  (hQ:∀(D:Nat) (w':World) (r:Sl),aL w5 w'→Sp h0 w'.heap [aj b11 ay (cS (some b11) r),ao az r 1 aF (ja++[10]),gJ D (.deferred (some []))]→Q .normal {a5 with defers:={target:=.collected D,args:=#[]}::a5.defers} w'):
  (Code.rangeFunc (.tmp 29) #[30] (pc 6) uU).wpIn (Fr none) 3 Tryz.prog Q a5 w5:=by
 refine wpIn_rangeFunc fun fn _=>?_
 obtain⟨W1,hW1⟩:∃W1,(w5.alloc (.deferred (some []))).alloc (.loop (eV fn a5.tmps w5.heap.size .ready))=W1:=⟨_,rfl⟩
 have k1:aL w5 W1:=by rw[←hW1];exact⟨rfl,rfl,rfl,Nat.le_refl _⟩
 have hg:a5.eval (.tmp 29)=.func (.func aZ) #[] #[ptr c]:=f5.eval rfl
 have eg:∀args w,(callFunc aZ args).run Tryz.prog w=.ok (.enter aZ args) w:=enters_of Tryz.func51 (by kernel_rfl) rfl
 obtain⟨l,hl⟩:∃l,l=w5.heap.size+1:=⟨_,rfl⟩
 have H1:Sp h0 W1.heap (aj c bx [.string bd]::aj b9 aC [ptr b]::aj b aP (dZ (some pw) (some a))::bc bz a pw (bI x) offs da PW DS::gI x mn::aj b11 ay (cS none aD)::[gJ w5.heap.size (.deferred (some [])),gJ l (.loop (eV fn a5.tmps w5.heap.size .ready))]):=by
  have:=(H.wb (.deferred (some []))).wb (.loop (eV fn a5.tmps w5.heap.size .ready))
  rw[Array.size_push,←hl]at this
  rw[←hW1];exact this
 refine⟨l,[{target:=.collected w5.heap.size,args:=#[]}],W1,{target:=.fn (.func aZ) #[ptr c],args:=#[.func (.yield l) #[] #[]]},W1,aZ,#[.func (.yield l) #[] #[],ptr c],W1,?_,?_,fun _ _=>trivial,?_,fun h=>(by cases h),?_⟩
 ·rw[←hW1,hl];exact run_enterLoop_outer _ _ _ _ _
 ·simp only[resolve,hg]
  simp[go_sem]
 ·simp[invoke,go_sem,eg]
 refine(wT (α:=Sl) l c _ (fun r=>[aj b9 aC [ptr b],aj b11 ay (cS (some b11) r),ao az r 1 aF (ja++[10]),gJ w5.heap.size (.deferred (some [])),gJ l (.loop (eV fn a5.tmps w5.heap.size .ready))]) W1 H1 ?_).mono ?_
 ·intro W kW HW
  have hL:W.heap[l]?=some (.loop (eV fn a5.tmps w5.heap.size .ready)):=HW.obj 7 rfl
  refine⟨fn,a5.tmps.setIfInBounds 30 (.string bd),pc 6,uU,(run_yield (args:=#[.string bd]) hL rfl).trans (by simp[eV]),roundIn_of_wpIn trivial ?_⟩
  obtain⟨_,rfl,f6⟩:=go (ts:=[9,11,30]) (K:=fun vs=>vs=[ptr b9,ptr b11,.string bd]) (f5.put (d:=30) rfl (.string bd)) rfl
  have e6:a5.put (some 30) (.string bd)={tmps:=a5.tmps.setIfInBounds 30 (.string bd),defers:=[]}:=by
   have:=f5.defers
   cases a5;simp only at this;subst this;rfl
  rw[e6]at f6
  show Code.wpIn _ _ _ _ _ {tmps:=a5.tmps.setIfInBounds 30 (.string bd),defers:=[]} W
  refine wpIn_mono (bZ (ro:=some l) af f6 (K:=fun vs h=>vs=[ptr b9,ptr b11,.string bd]∧h=W.heap) (cast (zB b9 b11 bd).symm ⟨rfl,rfl⟩)) ?_
  rintro _ a7 w7 ⟨rfl,k7,_,f7,rfl,g7⟩
  have hL7:w7.heap[l]?=some (.loop (eV fn a5.tmps w5.heap.size .ready)):=by rw[g7];exact hL
  refine⟨_,run_beginRound hL7 rfl,?_⟩
  rw[←g7]at HW
  have H8:=(HW.oN 7 rfl (.loop (eV fn a5.tmps w5.heap.size .busy)))
  obtain⟨w8,hw8⟩:∃w8,w8=w7.putObj l (.loop (eV fn a5.tmps w5.heap.size .busy)):=⟨_,rfl⟩
  have k8:aL w7 w8:=by rw[hw8];exact⟨rfl,rfl,rfl,Nat.le_refl _⟩
  have H8:Sp h0 w8.heap (aj b9 aC [ptr b]::aj b aP (dZ (some pw) (some a))::bc bz a pw (bI x) offs da PW DS::gI x mn::aj b11 ay (cS none aD)::[aj c bx [.string qm],gJ w5.heap.size (.deferred (some [])),gJ l (.loop (eV fn a5.tmps w5.heap.size .busy))]):=by
   rw[hw8];exact ab.cO H8 [1,2,3,4,5,0,6,7]
  show Code.wpIn _ _ _ _ _ a7 (w7.putObj l (.loop (eV fn a5.tmps w5.heap.size .busy)))
  rw[←hw8]
  refine wpIn_mono (wU ho hd f7 (H8.ap.cell (bC hm) hm) H8) ?_
  rintro _ a9 w9 ⟨rfl,k9,r,H9⟩
  have hL9:w9.heap[l]?=some (.loop (eV fn a5.tmps w5.heap.size .busy)):=H9.obj 5 rfl
  refine⟨_,_,run_endRound none hL9,rfl,?_,r,?_⟩
  ·exact(((k7.trans k8).trans k9).trans ⟨rfl,rfl,rfl,Nat.le_refl _⟩)
  ·exact ab.cO (H9.oN 5 rfl (.loop (eV fn a5.tmps w5.heap.size .ready))) [3,0,1,2,4,5]
 ·rintro _ w6 ⟨⟨v,rfl⟩,k6,r,H6⟩
  have hL6:w6.heap[l]?=some (.loop (eV fn a5.tmps w5.heap.size .ready)):=H6.obj 5 rfl
  refine⟨none,_,run_endLoop hL6 (by simp),hQ w5.heap.size _ r ((k1.trans k6).trans ⟨rfl,rfl,rfl,Nat.le_refl _⟩) ?_⟩
  exact ab.cO (H6.oN 5 rfl (.loop (eV fn a5.tmps w5.heap.size .exhausted))) [2,3,4]
end Go.Qw
namespace Go.Qw
open Go Go.Vc Go.Proofs Wl
set_option maxRecDepth 1000000
theorem yQ {h0:Heap} {b11:Addr} {r:Sl} {D:Nat} {a:Act} {w:World} (ds:List Deferred) {R:Ending→World→Prop} (hsz:a.tmps.size=47) (h11:a.tmps[11]?=some (ptr b11)) (hds:a.defers=[{target:=.collected D,args:=#[]}])
  (H:Sp h0 w.heap [aj b11 ay (cS (some b11) r),ao az r 1 aF (ja++[10]),gJ D (.deferred (some []))])
  (hR:∀w',aL w w'→Sp h0 w'.heap []→R (.returned (.string dR)) w'):
  (Code.seq (pc 12) .ret).wpIn (Fr none) 3 Tryz.prog (bodyPostM (Fr none) 3 Tryz.prog Tryz.f17 R) a w:=by
 refine wpIn_seq ?_
 rw[wV]
 have e11:a.eval (.tmp 11)=ptr b11:=by simp[Act.eval,Array.getD_eq_getD_getElem?,h11]
 have eg:∀args w,(callFunc 32 args).run Tryz.prog w=.ok (.enter 32 args) w:=enters_of Tryz.func32 (by kernel_rfl) rfl
 refine wpIn_region ?_
 show wpOpsIn _ _ _ _ _ [0,1] a w
 simp[wpOpsIn,Region.wanted,Oper.wpIn,Oper.about,Target.leads,Oper.semAt,execOp,resolve,invoke,Act.eval,Deferred.ofValue,eg,Oper.uponIn_enter]
 rw[h11]
 refine(callsIn_wide (n:=2).2 (my b11 _ r (ja++[10]) (by decide) (by decide) H w rfl)).mono ?_
 rintro _ w' ⟨_,rfl,k1,rfl,H1⟩
 have hK:w'.heap[D]?=some (.deferred (some [])):=H1.obj 2 rfl
 obtain⟨v,hv⟩:∃v:Value,v=.string dR:=⟨_,rfl⟩
 show Code.wpIn (Fr none) 3 Tryz.prog .ret (bodyPostM (Fr none) 3 Tryz.prog Tryz.f17 R) ((a.put (some 46) (.string dR)).put (some 8) ((a.put (some 46) (.string dR)).tmps[46]?.getD undef)) w'
 have e46:(a.put (some 46) (.string dR)).tmps[46]?.getD undef=.string dR:=by simp[Act.put,hsz]
 rw[e46]
 refine wpIn_ret ?_
 show LeavesInM _ _ _ _ _ _ a.defers _ _
 rw[hds]
 refine⟨by simp,.inl ⟨D,_,rfl,run_takeDeferred hK,?_⟩⟩
 refine⟨_,results_tmp rfl _ _ _,?_⟩
 have e8:((a.put (some 46) (.string dR)).put (some 8) (.string dR)).tmps.getD 8 undef=.string dR:=by simp[Act.put,hsz,Array.getD_eq_getD_getElem?]
 rw[e8]
 exact hR _ (k1.trans ⟨rfl,rfl,rfl,Nat.le_refl _⟩) (.zip (H1.oN 2 rfl (.deferred none)).ap)
theorem wW (s:Sl) (m:Int) (h:Heap) (hm:cellOf h ⟨0,0,none⟩=some (.int .i64 m)) (hs:Rd h s 1 av [5]):
  ag Tryz.prog 17 #[iU (1,1,1),.int .i64 0,fI s,.string bd] h fun v h'=>v=.string dR∧Sp h h' []:=by
 intro w hw
 subst hw
 refine callsIn_wide (n:=3).1 ?_
 show CallsIn (Fr none) 3 Tryz.prog 17 _ w _
 refine callsIn_of_wp_marks Tryz.func17 yN trivial ?_ rfl
 have f0:Fits 47 {tmps:=#[iU (1,1,1),.int .i64 0,fI s,.string bd]++Array.replicate (47-4) undef,defers:=[]} (cw [0,1,2,3] [iU (1,1,1),.int .i64 0,fI s,.string bd]):=ql (args:=[iU (1,1,1),.int .i64 0,fI s,.string bd]) (show 4≤47 by decide)
 obtain⟨a0,ha0⟩:∃a0:Act,a0={tmps:=#[iU (1,1,1),.int .i64 0,fI s,.string bd]++Array.replicate (47-4) undef,defers:=[]}:=⟨_,rfl⟩
 rw[←ha0]at f0
 show Code.wpIn _ _ _ _ _ {tmps:=#[iU (1,1,1),.int .i64 0,fI s,.string bd]++Array.replicate (47-4) undef,defers:=[]} w
 rw[←ha0]
 clear ha0
 refine wpIn_seq (wpIn_mono (bZ af f0 (K:=fun vs h=>∃b1,vs=[.int .i64 0,fI s,.string bd,ptr b1]∧Sp w.heap h [aj b1 cQ [.int .i64 1,.int .i64 1,.int .i64 1]]) (cast (zr (1,1,1) 0 s bd).symm ((Sp.refl w.heap).boxed fun b1 h1 H1=>⟨b1,rfl,H1⟩))) ?_)
 rintro _ a1 w1 ⟨rfl,k1,_,f1,b1,rfl,H1⟩
 refine wpIn_seq (wpIn_mono (bZ af f1 (K:=fun vs h=>∃(b9 b a pw:Addr) (x:cn) (da:List (Option Addr)),vs=[.string bd,ptr b9,.int .i64 0]∧
  Sp w.heap h [aj b9 aC [ptr b],aj b aP (dZ (some pw) (some a)),bc bz a pw (bI x) Pow.new.offs da (aQ (1,1,1) 0 Pow.new [5]).2.1 (aQ (1,1,1) 0 Pow.new [5]).2.2,gI x (ct (1,1,1) 0 [5])]) (cast (zu b1 0 s bd).symm ?_)) ?_)
 ·refine⟨(1,1,1),(H1.box 0 rfl).bg _ rfl,?_⟩
  refine(wd (1,1,1) 0 s [5] (St.base hs fun h' hp=>Seq.up hs hp) (by decide) H1).mono ?_
  rintro _ h2 ⟨_,Q⟩
  obtain⟨b,a,pw,x,da,rfl,H2⟩:=Q wN
  refine⟨(some b,0),rfl,H2.alloc af rfl fun b9 h3 H3=>?_⟩
  have H3:=H3.cx
  exact H3.storeAll af 0 rfl rfl [ptr b] rfl rfl rfl rfl fun h4 H4=>⟨b9,b,a,pw,x,da,rfl,H4.bO 5 [0,1,2,3]⟩
 rintro _ a2 w2 ⟨rfl,k2,_,f2,b9,b,a,pw,x,da,rfl,H2⟩
 refine wpIn_seq (wpIn_seq (wpIn_mono (bZ af f2 (K:=fun vs h=>vs=[.string bd,ptr b9,.bool false]∧h=w2.heap) (cast (zx b9 0 bd).symm ⟨rfl,rfl⟩)) ?_))
 rintro _ a3 w3 ⟨rfl,k3,_,f3,rfl,g3⟩
 rw[←g3]at H2
 refine wpIn_cond_false (f3.eval rfl) (wpIn_skip ?_)
 refine wpIn_seq (wpIn_mono (bZ af f3 (K:=fun vs h=>∃b11,vs=[.string bd,ptr b9,ptr b11]∧Sp w.heap h [aj b9 aC [ptr b],aj b aP (dZ (some pw) (some a)),bc bz a pw (bI x) Pow.new.offs da (aQ (1,1,1) 0 Pow.new [5]).2.1 (aQ (1,1,1) 0 Pow.new [5]).2.2,gI x (ct (1,1,1) 0 [5]),aj b11 ay (cS none aD)]) (cast (zy b9 false bd).symm ?_)) ?_)
 ·refine H2.alloc af rfl fun b11 h4 H4=>?_
  exact⟨b11,rfl,H4⟩
 rintro _ a4 w4 ⟨rfl,k4,_,f4,b11,rfl,H4⟩
 refine wpIn_seq (wpIn_seq (wpIn_mono (bZ af f4 (K:=fun vs h=>∃c,vs=[ptr b9,ptr b11,.func (.func aZ) #[] #[ptr c]]∧Sp w.heap h [aj c bx [.string bd],aj b9 aC [ptr b],aj b aP (dZ (some pw) (some a)),bc bz a pw (bI x) Pow.new.offs da (aQ (1,1,1) 0 Pow.new [5]).2.1 (aQ (1,1,1) 0 Pow.new [5]).2.2,gI x (ct (1,1,1) 0 [5]),aj b11 ay (cS none aD)]) (cast (zA b9 b11 bd).symm ?_)) ?_))
 ·refine(uS bd H4).mono ?_
  rintro _ h5 ⟨c,rfl,H5⟩
  exact⟨(aZ,#[],#[ptr c]),rfl,c,rfl,H5.cx⟩
 rintro _ a5 w5 ⟨rfl,k5,_,f5,c,rfl,H5⟩
 have K5:=(((k1.trans k2).trans k3).trans k4).trans k5
 refine wpIn_block (yi rfl uR hm f5 H5 fun D w6 r k6 H6=>?_)
 have h11:a5.tmps[11]?=some (ptr b11):=f5.get 11 _ rfl
 refine yQ (r:=r) (b11:=b11) (D:=D) [] f5.size h11 (by rw[f5.defers]) H6 fun w7 k7 H7=>?_
 exact⟨_,rfl,(K5.trans k6).trans k7,rfl,H7⟩
theorem sn (m:Int) (h:Heap) (hm:cellOf h ⟨0,0,none⟩=some (.int .i64 m)):ag Tryz.prog ej #[] h fun v h'=>v=.bool true∧Sp h h' []:=by
 refine gS ?_
 unfold eB
 have e1:cM (dl fU)=some {kind:=10,n:=1,m:=20}:=by decide
 refine(eu fU m h hm (by decide)).mono ?_
 rintro _ h1 ⟨y,rfl,F,R⟩
 rw[e1]at F R⊢
 refine⟨(y,true),rfl,R.alloc af rfl fun a2 h2 H2=>?_⟩
 refine H2.storeAll af 3 rfl rfl (aV y) rfl rfl rfl rfl fun h3 H3=>?_
 refine H3.lit af av dd rfl [5] rfl (show 1*1≤2^20 by decide) rfl fun s h4 H4=>?_
 refine(wW s m h4 (H4.ap.cell (bC hm) hm) (H4.seq 4 rfl fun _=>rfl)).mono ?_
 rintro _ h5 ⟨rfl,R5⟩
 have b5:=(ab.up H4 R5.ap).box 3 rfl
 refine⟨dR,rfl,eb (beq_self_eq_true dR.toList) (eb rfl ⟨y.2.2.2.2.1,b5.cell rfl,eb (by rw[F.n];rfl) ⟨y.2.2.2.2.2.1,b5.cell rfl,?_⟩⟩)⟩
 exact⟨by rw[F.m];rfl,.zip (ab.up H4 R5.ap).ap⟩
end Go.Qw
namespace Wl
theorem kO.fix {p:aW} (z:kO p) (o:iA (jC p)):kO (jC p):=by
 have w:∀{n:Int},gz n→iZ n:=fun h=>⟨by have:=h.1;omega,by have:=h.2;omega⟩
 refine⟨w o.slot,w o.n,w o.m,⟨o.mask.1,by have:=o.mask.2;omega⟩,z.name,z.data,?_,fun x hx=>w (o.keeps x hx),fun x hx=>w (o.torns x hx)⟩
 refine⟨o.rows,?_⟩
 show(p.keeps.map _).length≤_
 rw[List.length_map];exact z.rows.2
theorem kO.mv {p:aW} (z:kO p):p.data.length≤2^40∧p.keeps.length≤2^40∧p.torns.length≤2^40:=by
 have:=z.data;have:=z.rows
 exact⟨by omega,by omega,by omega⟩
theorem tK (f:Int→Int) (l:List Int) (j:Nat) (hj:j<l.length) (y:Int) (hy:y=f l[j]):((l.take j).map f++l.drop j).set j y=(l.take (j+1)).map f++l.drop (j+1):=by
 subst hy
 have h0:j-((l.take j).map f).length=0:=by simp;omega
 rw[List.set_append_right _ _ (by simp;omega),h0,List.drop_eq_getElem_cons hj,List.set_cons_zero,List.take_succ_eq_append_getElem hj,List.map_append,List.append_assoc];rfl
theorem get_map (f:Int→Int) (l:List Int) (j:Nat) (hj:j<l.length) (h:j<((l.take j).map f++l.drop j).length):((l.take j).map f++l.drop j)[j]=l[j]:=by
 rw[List.getElem_append_right (by simp;omega)]
 simp;congr 1;omega
end Wl
namespace Go.Qw
open Go Go.Vc Go.Proofs Wl
set_option maxRecDepth 100000
abbrev yR:Rt:=.many [(.agg [(.int .i64),.str,.slc,(.int .i64),(.int .i64),(.int .i64),(.int .u32),.slc,.slc]),dM]
theorem qn {h h5:Heap} {As:List HP} (a7:Addr) (z:bW) (P:aW) (m:Int) (H:Sp h h5 (aj a7 ai (aV z)::As)) (F:kJ z P) (R:jz h5 z P) (sz:kO P) (ok:iA P) (hm:cellOf h5 ⟨0,0,none⟩=some (.int .i64 m)) {G K:Heap→Prop} (hK:∀h',Sp h h' (aj a7 ai (aV z)::As)→K h'):
  ∃x23:bW,ah h5 a7 0 (aV x23)∧ae Tryz.prog eD #[dy x23] (.one (.sc .str)) h5 fun(r24:ByteArray) h13=>
   ae Tryz.prog cR #[.string r24] yR h13 fun(r25:bW×Bool) h14=>
   aG Tryz.prog (Instr.alloc ai true (.tuple #[])) h14 fun a26 h15=>
   aa Tryz.prog (Instr.storeAt ai (.pointer (some a26)) (dy r25.1)) h15 fun _ h16=>
   (((r24.size+aB.size:Nat):Int)≤IntKind.max .i64)∧
   ae Tryz.prog cR #[.string (r24++aB)] yR h16 fun(r27:bW×Bool) h17=>
   aG Tryz.prog (Instr.alloc ai true (.tuple #[])) h17 fun a28 h18=>
   aa Tryz.prog (Instr.storeAt ai (.pointer (some a28)) (dy r27.1)) h18 fun _ h19=>
   (((aB.size+r24.size:Nat):Int)≤IntKind.max .i64)∧
   ae Tryz.prog cR #[.string (aB++r24)] yR h19 fun(r29:bW×Bool) h20=>
   aG Tryz.prog (Instr.alloc ai true (.tuple #[])) h20 fun a30 h21=>
   aa Tryz.prog (Instr.storeAt ai (.pointer (some a30)) (dy r29.1)) h21 fun _ h22=>
   Br (!r25.2) (G h22) (∃x31:bW,ah h22 a26 0 (aV x31)∧∃x32:bW,ah h22 a7 0 (aV x32)∧
    ae Tryz.prog dw #[dy x31,dy x32] cr h22 fun(r33:Bool) h23=>
    Br (!r33) (G h23) (Br r27.2 (G h23) (Br r29.2 (G h23) (K h23)))):=by
 have sp:aB.size=1:=rfl
 refine⟨z,(H.box 0 rfl).bg _ rfl,(uP z P h5 F R sz).mono ?_⟩
 rintro _ h6 ⟨t,rfl,d,zt,R6⟩
 refine⟨t,rfl,(eu t m h6 (R6.ap.cell (bC hm) hm) (by omega)).mono ?_⟩
 rintro _ h7 ⟨y1,rfl,F1,R7⟩
 rw[d,vV ok]at F1 R7⊢
 have H7:=R6.comp R7
 refine⟨(y1,true),rfl,H7.alloc af rfl fun a26 h8 H8=>?_⟩
 refine H8.storeAll af 3 rfl rfl (aV y1) rfl rfl rfl rfl fun h9 H9=>?_
 refine⟨cH (by omega),(eu _ m h9 (H9.ap.cell (bC hm) hm) (by rw[ByteArray.size_append];omega)).mono ?_⟩
 rintro _ h10 ⟨y2,rfl,F2,R10⟩
 have e2:cM (dl (t++aB))=none:=by rw[bX,d];exact uM _
 rw[e2]at R10 F2⊢
 have H10:=H9.comp (R10.up (aw.refl _ _))
 refine⟨(y2,false),rfl,H10.alloc af rfl fun a28 h11 H11=>?_⟩
 refine H11.storeAll af 7 rfl rfl (aV y2) rfl rfl rfl rfl fun h12 H12=>?_
 refine⟨cH (by omega),(eu _ m h12 (H12.ap.cell (bC hm) hm) (by rw[ByteArray.size_append];omega)).mono ?_⟩
 rintro _ h13 ⟨y3,rfl,F3,R13⟩
 have e3:cM (dl (aB++t))=none:=by rw[bX,d];exact te _
 rw[e3]at R13 F3⊢
 have H13:=H12.comp R13
 refine⟨(y3,false),rfl,H13.alloc af rfl fun a30 h14 H14=>?_⟩
 refine H14.storeAll af 11 rfl rfl (aV y3) rfl rfl rfl rfl fun h15 H15=>?_
 have HH:=H.up H15.ap
 have sm:=sz.mv
 refine kj rfl ⟨y1,(H15.box 3 rfl).bg _ rfl,z,(HH.box 0 rfl).bg _ rfl,?_⟩
 refine(td y1 z P h15 F1 F ⟨H15.seq 0 rfl fun _=>rfl,H15.seq 1 rfl fun _=>rfl,H15.seq 2 rfl fun _=>rfl⟩ (R.up H15.ap) ⟨sm.1,sm.2.1,sm.2.2⟩).mono ?_
 rintro _ h16 ⟨rfl,R16⟩
 exact⟨true,rfl,kj rfl (kj rfl (kj rfl (hK h16 (HH.up R16.ap))))⟩
abbrev mx (x:Int):Int:=if(0:Int)>x then 0 else x
abbrev mz (z:bW):bW:=(z.1,z.2.1,z.2.2.1,z.2.2.2.1,mx z.2.2.2.2.1,mx z.2.2.2.2.2.1,Int.tmod z.2.2.2.2.2.2.1 1000000000,z.2.2.2.2.2.2.2.1,z.2.2.2.2.2.2.2.2)
theorem oO (x:Int):mx x=max x 0:=by unfold mx;split<;>omega
theorem tL {z:bW} {P:aW} (F:kJ z P) (hm:0≤P.mask):kJ (mz z) (jC P):=
 ⟨F.kind,F.name,F.slot,(oO _).trans (by rw[F.n];rfl),(oO _).trans (by rw[F.m];rfl),by
  show Int.tmod z.2.2.2.2.2.2.1 1000000000=P.mask%1000000000
  rw[F.mask,Int.tmod_eq_emod_of_nonneg hm]⟩
theorem so (k a b m:Int) (h:Heap) (hm:cellOf h ⟨0,0,none⟩=some (.int .i64 m))
  (hW:∀h:Heap,cellOf h ⟨0,0,none⟩=some (.int .i64 m)→ag Tryz.prog ej #[] h fun v h'=>v=.bool true∧Sp h h' []):
  ag Tryz.prog dq #[.int .i64 k,.int .i64 a,.int .i64 b] h fun v h'=>v=.bool true∧Sp h h' []:=by
 refine fJ k a b ?_
 unfold dv
 refine(uG (2,1,3) k a b h (by decide)).mono ?_
 rintro _ h1 ⟨x,mv,rfl,hok,hr,R1⟩
 refine⟨x,rfl,(uQ k a b h1).mono ?_⟩
 rintro _ h2 ⟨y,p,rfl,Fy,fok,R2⟩
 have H2:Sp h h2 (EA gZ x mv::oH y p):=R1.comp R2
 refine⟨y,rfl,H2.lit af mq Ac rfl [x,y] rfl (show 2*9≤2^20 by decide) (by kernel_rfl) fun v h3 H3=>?_⟩
 have H3:Sp h h3 [EA gZ x mv,ao az y.2.2.1 1 aF p.data,ao aA y.2.2.2.2.2.2.2.1 1 av p.keeps,ao aA y.2.2.2.2.2.2.2.2 1 av p.torns,ao ai v 9 mq [x,y]]:=H3
 have hvl:v.len=2:=(H3.own 4 rfl).len
 have kz:mv.keeps=[]∧mv.torns=[]:=by rw[hr];exact⟨rfl,rfl⟩
 obtain⟨s1,s2,_⟩:=hok.line hr
 obtain⟨s3,s4⟩:=fok.line
 refine aE (fun i:Nat=>(i:Int)) (fun i h'=>(i≤1∧Sp h h' [EA gZ x mv,ao az y.2.2.1 1 aF p.data,ao aA y.2.2.2.2.2.2.2.1 1 av p.keeps,ao aA y.2.2.2.2.2.2.2.2 1 av p.torns,ao ai v 9 mq [x,y]])∨(i=2∧Sp h h' [])) (fun i=>2-i) 0 rfl (.inl ⟨by omega,H3⟩) ?_
 rintro i h4 hI
 refine an (fun hlt=>?_) fun hge=>?_
 rotate_left
 ·have hp:aw (fun b=>b<h.size) h h4:=by rcases hI with q|q<;>exact q.2.ap
  refine(hW h4 (hp.cell (bC hm) hm)).mono ?_
  rintro _ h5 ⟨rfl,R5⟩
  refine⟨true,rfl,rfl,?_⟩
  rcases hI with q|q<;>exact .zip (ab.up q.2 R5.ap).ap
 rcases hI with⟨hi,H4⟩|⟨rfl,_⟩
 rotate_left
 ·exact absurd hlt (by omega)
 obtain rfl|rfl:i=0∨i=1:=by omega
 ·refine(H4.seq 4 rfl fun _=>rfl).nr 0 rfl (show 0<2 by decide) x rfl ?_
  refine H4.alloc af rfl fun a7 h5 H5=>?_
  refine H5.storeAll af 5 rfl rfl (mq x) rfl rfl rfl rfl fun h6 H6=>?_
  refine⟨x.2.2.2.2.2.2.1,(H6.box 5 rfl).cell rfl,by decide,?_⟩
  refine H6.storeAt af 5 rfl rfl rfl rfl rfl (show 6<9 by decide) fun h7 H7=>?_
  refine⟨x.2.2.2.2.1,(H7.box 5 rfl).cell rfl,x.2.2.2.2.2.1,(H7.box 5 rfl).cell rfl,?_⟩
  refine H7.storeAt af 5 rfl rfl rfl rfl rfl (show 4<9 by decide) fun h8 H8=>?_
  refine H8.storeAt af 5 rfl rfl rfl rfl rfl (show 5<9 by decide) fun h9 H9=>?_
  have H9:Sp h h9 [EA gZ x mv,ao az y.2.2.1 1 aF p.data,ao aA y.2.2.2.2.2.2.2.1 1 av p.keeps,ao aA y.2.2.2.2.2.2.2.2 1 av p.torns,ao ai v 9 mq [x,y],aj a7 ai (aV (mz x))]:=H9
  have fx:=yM (H9.Aa 0 rfl)
  have hkl:x.2.2.2.2.2.2.2.1.len=0:=by
   have:=fx.2.keeps.len
   rw[show(jB mv).keeps=[]from kz.1]at this;exact this
  refine⟨x.2.2.2.2.2.2.2.1,(H9.box 5 rfl).cell rfl,?_⟩
  refine aE (fun _:Unit=>(0:Int)) (fun _ h'=>h'=h9) (fun _=>0) () rfl rfl ?_
  rintro _ h9 rfl
  refine an (fun hlt=>absurd hlt (by omega)) fun _=>?_
  have RF:jz h9 (mz x) (jC (jB mv)):=⟨fx.2.data,by
   have:=fx.2.keeps
   rw[show(jB mv).keeps=[]from kz.1]at this
   show Rd h9 _ 1 av (List.map _ mv.keeps)
   rw[kz.1];exact this,by
   have:=fx.2.torns
   rw[show(jB mv).torns=[]from kz.2]at this
   show Rd h9 _ 1 av (List.map _ mv.torns)
   rw[kz.2];exact this⟩
  refine qn a7 (mz x) (jC (jB mv)) m (ab.cO H9 [5,0,1,2,3,4]) (tL fx.1 s1.mask.1) RF (s1.fix s2) s2 (H9.ap.cell (bC hm) hm) fun h' H'=>?_
  exact⟨1,rfl,.inl ⟨by omega,ab.cO H' [1,2,3,4,5]⟩,by omega⟩
 ·refine(H4.seq 4 rfl fun _=>rfl).nr 1 rfl (show 1<2 by decide) y rfl ?_
  refine H4.alloc af rfl fun a7 h5 H5=>?_
  refine H5.storeAll af 5 rfl rfl (mq y) rfl rfl rfl rfl fun h6 H6=>?_
  refine⟨y.2.2.2.2.2.2.1,(H6.box 5 rfl).cell rfl,by decide,?_⟩
  refine H6.storeAt af 5 rfl rfl rfl rfl rfl (show 6<9 by decide) fun h7 H7=>?_
  refine⟨y.2.2.2.2.1,(H7.box 5 rfl).cell rfl,y.2.2.2.2.2.1,(H7.box 5 rfl).cell rfl,?_⟩
  refine H7.storeAt af 5 rfl rfl rfl rfl rfl (show 4<9 by decide) fun h8 H8=>?_
  refine H8.storeAt af 5 rfl rfl rfl rfl rfl (show 5<9 by decide) fun h9 H9=>?_
  have H9:Sp h h9 [EA gZ x mv,ao az y.2.2.1 1 aF p.data,ao aA y.2.2.2.2.2.2.2.1 1 av p.keeps,ao aA y.2.2.2.2.2.2.2.2 1 av p.torns,ao ai v 9 mq [x,y],aj a7 ai (aV (mz y))]:=H9
  obtain⟨r1,r2⟩:=s3.rows
  have hkl:y.2.2.2.2.2.2.2.1.len=p.keeps.length:=(H9.own 2 rfl).len
  have htl:y.2.2.2.2.2.2.2.2.len=p.torns.length:=(H9.own 3 rfl).len
  refine⟨y.2.2.2.2.2.2.2.1,(H9.box 5 rfl).cell rfl,?_⟩
  refine aE (fun j:Nat=>(j:Int)) (fun j h'=>j≤p.keeps.length∧Sp h h' [EA gZ x mv,ao az y.2.2.1 1 aF p.data,ao aA y.2.2.2.2.2.2.2.1 1 av ((p.keeps.take j).map (max · 0)++p.keeps.drop j),ao aA y.2.2.2.2.2.2.2.2 1 av ((p.torns.take j).map (max · 0)++p.torns.drop j),ao ai v 9 mq [x,y],aj a7 ai (aV (mz y))]) (fun j=>p.keeps.length-j) 0 rfl ⟨Nat.zero_le _,H9⟩ ?_
  rintro j h10 ⟨hj,H10⟩
  refine an (fun hlt=>?_) fun hge=>?_
  ·have j1:j<p.keeps.length:=by omega
   have j2:j<p.torns.length:=by omega
   have l1:j<((p.keeps.take j).map (max · 0)++p.keeps.drop j).length:=by simp;omega
   have l2:j<((p.torns.take j).map (max · 0)++p.torns.drop j).length:=by simp;omega
   have b5:=H10.box 5 rfl
   obtain⟨c1,q1,k1⟩:=kQ (H10.seq 2 rfl fun _=>rfl) j l1
   obtain⟨c2,q2,k2⟩:=kQ (H10.seq 3 rfl fun _=>rfl) j l2
   rw[get_map _ _ _ j1]at k1
   rw[get_map _ _ _ j2]at k2
   refine⟨y.2.2.2.2.2.2.2.1,b5.cell rfl,y.2.2.2.2.2.2.2.2,b5.cell rfl,y.2.2.2.2.2.2.2.1,b5.cell rfl,c1,⟨q1,by omega,by omega⟩,p.keeps[j],k1,y.2.2.2.2.2.2.2.2,b5.cell rfl,c2,⟨q2,by omega,by omega⟩,p.torns[j],k2,?_⟩
   refine H10.set af 2 rfl (fun _=>rfl) rfl j rfl l1 (mx p.keeps[j]) rfl rfl rfl fun h11 H11=>?_
   refine⟨⟨(H11.box 5 rfl).cell rfl,(H11.box 5 rfl).cell rfl,trivial⟩,?_⟩
   refine H11.set af 3 rfl (fun _=>rfl) rfl j rfl l2 (mx p.torns[j]) rfl rfl rfl fun h12 H12=>⟨trivial,?_⟩
   rw[Go.Vc.wrap_small _ (by omega) (by omega)]
   rw[tK (max · 0) _ _ j1 _ (oO _),tK (max · 0) _ _ j2 _ (oO _)]at H12
   exact⟨j+1,rfl,⟨by omega,H12⟩,by omega⟩
  ·have e:j=p.keeps.length:=by omega
   have e2:j=p.torns.length:=by omega
   rw[List.take_of_length_le (by omega),List.drop_of_length_le (by omega),List.append_nil,List.take_of_length_le (by omega),List.drop_of_length_le (by omega),List.append_nil]at H10
   have RF:jz h10 (mz y) (jC p):=⟨H10.seq 1 rfl fun _=>rfl,H10.seq 2 rfl fun _=>rfl,H10.seq 3 rfl fun _=>rfl⟩
   refine qn a7 (mz y) (jC p) m (ab.cO H10 [5,0,1,2,3,4]) (tL Fy s3.mask.1) RF (s3.fix s4) s4 (H10.ap.cell (bC hm) hm) fun h' H'=>?_
   exact⟨2,rfl,.inr ⟨rfl,.zip H'.ap⟩,by omega⟩
end Go.Qw
namespace Go.Qw
open Go Go.Vc Go.Proofs Wl
theorem mA (k a b:Int) (h:Heap) (hm:∃m,cellOf h ⟨0,0,none⟩=some (.int .i64 m)):
  ag Tryz.prog dq #[.int .i64 k,.int .i64 a,.int .i64 b] h fun v h'=>v=.bool true∧aw (fun b=>b<h.size) h h':=by
 obtain⟨m,hm⟩:=hm
 exact(so k a b m h hm fun h hm=>sn m h hm).mono fun _ _ x=>⟨x.1,x.2.ap⟩
end Go.Qw
