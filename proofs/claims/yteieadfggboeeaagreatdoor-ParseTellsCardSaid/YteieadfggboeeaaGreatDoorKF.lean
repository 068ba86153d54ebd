/- Part of the proofs that the laws of this seat answer true whatever the input reads, and leave it as it was; no condition. -/
import Derived.Test.YteieadfggboeeaaGreatDoorKA
import Derived.Test.YteieadfggboeeaaGreatDoorPlA
import Derived.Test.YteieadfggboeeaaGreatDoorPlK
import Derived.Test.YteieadfggboeeaaGreatDoorKE
import Derived.Test.YteieadfggboeeaaGreatDoorKB
set_option linter.unusedVariables false
set_option linter.unusedSimpArgs false
namespace Go.Qw
open Go Go.Vc Go.Proofs Wl
section
set_option maxRecDepth 20000
variable {B:al} {h0 h:Heap} {As:List HP} {a pw:Addr} {offs:Int} {da:List (Option Addr)} {w:Pow} {ds:bo}
theorem qZ (x:cy) (m:bw) (hx:jB h x m) (ho:m.objs=[]) (H:ab B h0 h (bf bB a pw (bI x) offs da w ds::As)):
  ah Tryz.prog lR #[.pointer (some a)] h fun v h'=>v=.slice none 0 0∧h'=h:=by
 refine lh (some a) ?_
 unfold gG
 obtain⟨ok,hb⟩:=ab.iA H
 refine(lT (some a) (R:=fun v h'=>v=.bool (iq w offs)∧h'=h) ?_).mono ?_
 ·unfold hG
  refine bT (fun e=>by cases e) fun _=>(kB H).mono ?_
  rintro _ _ ⟨rfl,rfl⟩
  exact⟨_,rfl,rfl,rfl⟩
 rintro _ _ ⟨rfl,rfl⟩
 refine⟨_,rfl,bT (fun _=>⟨rfl,rfl⟩) fun _=>⟨a,rfl,x.2.2.2.2.2.2.2,hb.cell rfl,?_⟩⟩
 have hl:=cW.len hx.objs
 rw[ho]at hl
 refine aF (fun _:Unit=>((⟨none,0,0⟩:Sl),(0:Int))) (fun _ h'=>h'=_) (fun _=>0) () rfl rfl ?_
 rintro _ h1 rfl
 exact ak (fun e=>absurd e (by rw[hl];decide)) fun _=>⟨rfl,rfl⟩
end
end Go.Qw
namespace Go.Qw
open Go Go.Vc Go.Proofs Wl
set_option maxRecDepth 100000
end Go.Qw
namespace Go.Qw
open Go Go.Vc Go.Proofs Wl
set_option maxRecDepth 100000
section
variable {B:al} {h0 h h':Heap} {As:List HP} {a:Addr} {w:Pow}
end
end Go.Qw
namespace Go.Qw
open Go Go.Vc Go.Proofs Wl
abbrev eh (p s:Option Addr):List Value:=.pointer p::.pointer s::List.replicate 64 (.pointer none)
section
set_option maxRecDepth 20000
variable {B:al} {h0 h:Heap} {As:List HP} {a pw a2 pw2 b b2:Addr} {offs:Int} {da da2:List (Option Addr)} {w:Pow} {ds:bo} {mc:List Value}
theorem wn (pw s:Addr):aq Tryz.prog (Instr.build aU #[(0,.pointer (some pw)),(1,.pointer (some s))]) (.agg (eh (some pw) (some s)).toArray):=
 mo ag (i:=_) rfl rfl rfl (vs:=[(0,.pointer (some pw)),(1,.pointer (some s))]) (cells:=(eh (some pw) (some s)).toArray) (by kernel_rfl)
theorem wo (p:Pm) (extra:Int) (s:Sl) (l:List Int) (hS:St B h0 As fun h=>Rd h s 1 ao l) (hl:l.length≤2^20) (H:ab B h0 h As):
  ah Tryz.prog ku #[jy p,.int .i64 extra,.slice s.ptr s.len s.cap] h fun v h'=>
   ((aV p extra Pow.new l).1≠0→v=.tuple #[.pointer none,.int .i64 (aV p extra Pow.new l).1]∧ab B h0 h' As)∧
   ((aV p extra Pow.new l).1=0→∃(b a pw:Addr) (x:cy) (da:List (Option Addr)),v=.tuple #[.pointer (some b),.int .i64 0]∧
    ab B h0 h' (aj b aU (eh (some pw) (some a))::bf bB a pw (bI x) Pow.new.offs da (aV p extra Pow.new l).2.1 (aV p extra Pow.new l).2.2::gW x (cD p extra l)::As)):=by
 refine oQ p extra s ?_
 unfold lH
 refine H.boxed fun a1 h1 H1=>?_
 have H1:ab B h0 h1 (aj a1 cY [.int .i64 p.1,.int .i64 p.2.1,.int .i64 p.2.2]::As):=H1.cI
 refine(vL h1).mono ?_
 rintro _ h2 ⟨pw,rfl,R2⟩
 have H2:=H1.hJ R2
 refine⟨_,rfl,p,(H2.box 1 rfl).bh _ rfl,?_⟩
 refine(tB p extra s l (hS.cons) hl H2).mono ?_
 rintro _ h3 ⟨Q1,Q0⟩
 by_cases e0:(aV p extra Pow.new l).1=0
 ·obtain⟨a,x,da,rfl,H3⟩:=Q0 e0
  refine⟨(some a,0),rfl,cA (fun e=>absurd rfl e) fun _=>⟨_,wn pw a,H3.boxed fun b h4 H4=>?_⟩⟩
  have H4:ab B h0 h4 (aj b aU (eh (some pw) (some a))::bf bB a pw (bI x) Pow.new.offs da (aV p extra Pow.new l).2.1 (aV p extra Pow.new l).2.2::gW x (cD p extra l)::aj a1 cY [.int .i64 p.1,.int .i64 p.2.1,.int .i64 p.2.2]::As):=H4.cI
  exact⟨fun e=>absurd e0 e,fun _=>⟨b,a,pw,x,da,rfl,H4.bQ 4 [0,1,2]⟩⟩
 ·obtain⟨rfl,H3⟩:=Q1 e0
  refine⟨(none,(aV p extra Pow.new l).1),rfl,cA (fun _=>⟨fun _=>⟨rfl,H3.rest⟩,fun e=>absurd e e0⟩) fun e=>absurd e e0⟩
theorem vf:iq (aV (1,1,1) 0 Pow.new [5]).2.1 Pow.new.offs=false:=by decide+kernel
end
end Go.Qw
namespace Go.Qw
open Go Go.Vc Go.Proofs Wl
section
set_option maxRecDepth 20000
variable {B:al} {h0 h:Heap} {As:List HP} {a pw b:Addr} {offs:Int} {da:List (Option Addr)} {w:Pow} {ds:bo}
theorem pZ {p:Option Addr} (y:cr) (hy:y.1=4) (x:cy) (m:bw) (ho:m.objs=[]) (hd:iq w offs=false) (hbA:bL h b aU (eh p (some a))) (hx:jB h x m) (H:ab B h0 h (bf bB a pw (bI x) offs da w ds::As)):
  ah Tryz.prog jh #[.pointer (some b),dG y] h fun v h'=>v=uy (gh 0)∧Sp h h' []:=by
 refine iL (some b) y ?_
 unfold eV
 refine(Sp.refl h).boxed fun a1 h1 H1=>H1.alloc ag rfl fun a2 h2 H2=>aM ?_
 have H2:Sp h h2 [aj a1 af (aQ y),aj a2 dA (kV (gh 0))]:=H2
 refine⟨y.1,(H2.box 0 rfl).cell0 rfl,?_⟩
 refine aT (fun e=>absurd e (by omega)) fun _=>aT (fun e=>absurd e (by omega)) fun _=>aT (fun e=>absurd e (by omega)) fun _=>aT (fun _=>?_) fun e=>absurd hy e
 have P2:=H2.au
 have hb2:=hbA.au P2 hbA.lt
 refine⟨b,rfl,some a,hb2.cell rfl,(qZ x m (hx.up P2) ho (ab.up H P2)).mono ?_⟩
 rintro _ _ ⟨rfl,rfl⟩
 refine⟨aw,rfl,?_⟩
 refine H2.store ag 1 rfl rfl 2 [.slice none 0 0] rfl rfl rfl (by decide) fun h3 H3=>?_
 have H3:Sp h h3 [aj a1 af (aQ y),aj a2 dA (kV (gh 0))]:=H3
 have hb3:=hbA.au H3.au hbA.lt
 refine⟨b,rfl,some a,hb3.cell rfl,bT (fun e=>by cases e) fun _=>⟨b,rfl,some a,hb3.cell rfl,(kB (ab.up H H3.au)).mono ?_⟩⟩
 rintro _ _ ⟨rfl,rfl⟩
 refine⟨_,rfl,bT (fun e=>by rw[hd]at e;cases e) fun _=>?_⟩
 refine⟨gh 0,(H3.box 1 rfl).bh _ rfl,H3.storeAll ag 1 rfl rfl (kV (gh 0)) rfl rfl rfl rfl fun h4 H4=>?_⟩
 exact⟨gh 0,(H4.box 1 rfl).bh _ rfl,rfl,.zip H4.au⟩
theorem sQ {p:Option Addr} (y:cr) (hy:y.1=4) (x:cy) (m:bw) (ho:m.objs=[]) (hd:iq w offs=false) (hbA:bL h b aU (eh p (some a))) (hx:jB h x m) (H:ab B h0 h (bf bB a pw (bI x) offs da w ds::As)):
  ah Tryz.prog fv #[.pointer (some b),dG y] h fun v h'=>v=uy (gh 0)∧Sp h h' []:=by
 refine jZ (some b) y ?_
 unfold fN
 refine(Sp.refl h).boxed fun a1 h1 H1=>H1.alloc ag rfl fun a2 h2 H2=>bT (fun e=>by cases e) fun _=>aM ?_
 have H2:Sp h h2 [aj a1 af (aQ y),aj a2 dA (kV (gh 0))]:=H2
 refine⟨y.1,(H2.box 0 rfl).cell0 rfl,aM ?_⟩
 refine aT (fun e=>absurd e (by omega)) fun _=>aT (fun e=>absurd e (by omega)) fun _=>aT (fun e=>absurd e (by omega)) fun _=>aT (fun _=>?_) fun e=>absurd hy e
 refine bT (fun _=>?_) fun e=>by rw[hy]at e;cases e
 have P2:=H2.au
 refine⟨y,(H2.box 0 rfl).bh _ rfl,(pZ y hy x m ho hd (hbA.au P2 hbA.lt) (hx.up P2) (ab.up H P2)).mono ?_⟩
 rintro _ h3 ⟨rfl,R3⟩
 refine⟨gh 0,rfl,?_⟩
 refine(ab.up H2 R3.au).storeAll ag 1 rfl rfl (kV (gh 0)) rfl rfl rfl rfl fun h4 H4=>?_
 exact⟨gh 0,(H4.box 1 rfl).bh _ rfl,rfl,.zip H4.au⟩
end
set_option maxRecDepth 1000000
theorem vg {B:al} {h0 h:Heap} {As:List HP} (t:ByteArray) (H:ab B h0 h As):
  ah Tryz.prog iI #[.string t] h fun v h'=>∃c:Addr,v=.func (.func be) #[] #[ptr c]∧ab B h0 h' (As++[aj c bc [.string t]]):=by
 refine nq t ?_
 unfold jw
 exact H.boxed fun c h1 H1=>⟨c,rfl,H1⟩
theorem yI (s p t:ByteArray) (ht:(⟨(Lib.trimSuffix s.data.toList p.data.toList).toArray⟩:ByteArray)=t) (hs:s.size≤2^20) (h:Heap):ah Tryz.prog fu #[.string s,.string p] h fun v h'=>v=.string t∧h'=h:=by
 intro w hw
 refine(Tryz.strings_TrimSuffix s p w (by omega)).mono ?_
 rintro e w' ⟨rfl,rfl⟩
 exact⟨_,rfl,aP.refl _,by rw[ht],hw⟩
abbrev vh:ByteArray:=⟨#[108,105,115,116]⟩
abbrev jE:List UInt8:=[110,97,109,101,115]
theorem xn {B:al} {h0:Heap} {b9 b11 b a pw:Addr} {offs:Int} {da:List (Option Addr)} {PW:Pow} {DS:bo} {x:cy} {mn:bw} {m:Int} {l:Nat} {As:List HP} (ho:mn.objs=[]) (hd:iq PW offs=false)
  {a1:Act} {w1:World} (f1:Fits 47 a1 (cH [9,11,12] [ptr b9,ptr b11,.string bg])) (hm:cellOf w1.heap ⟨0,0,none⟩=some (.int .i64 m))
  (H:ab B h0 w1.heap (aj b9 aG [ptr b]::aj b aU (eh (some pw) (some a))::bf bB a pw (bI x) offs da PW DS::gW x mn::aj b11 aB (cZ none aw)::As)):
  (Code.block 1 (.seq (pc 7) (.seq (.seq (pc 8) (.cond (.tmp 37) (pc 9) (pc 10))) (pc 11)))).wpIn (Fr (some l)) 1 Tryz.prog (fun e a' w'=>e=.normal∧aP w1 w'∧∃r:Sl,ab B h0 w'.heap (aj b9 aG [ptr b]::aj b11 aB (cZ (some b11) r)::ap aA r 1 aE (jE++[10])::As)) a1 w1:=by
 refine wpIn_block (wpIn_seq (wpIn_mono (ce ag f1 (K:=fun vs h=>∃(b13:Addr) (y:cr),y.1=4∧vs=[ptr b9,ptr b11,ptr b13,.bool true]∧ab B h0 h (aj b13 af (aQ y)::aj b9 aG [ptr b]::aj b aU (eh (some pw) (some a))::bf bB a pw (bI x) offs da PW DS::gW x mn::aj b11 aB (cZ none aw)::As)) (cast (Aa b9 b11 bg).symm ?_)) ?_))
 ·refine(yI bg ⟨#[10]⟩ vh (by decide) (by decide) w1.heap).mono ?_
  rintro _ h2 ⟨rfl,rfl⟩
  refine⟨vh,rfl,(iW vh m _ hm (by decide)).mono ?_⟩
  rintro _ h3 ⟨y,rfl,F,R⟩
  have e:ci (dl vh)=some {kind:=4}:=by decide
  rw[e]at F R⊢
  have H3:=ab.up H R.au
  refine⟨(y,true),rfl,H3.alloc ag rfl fun b13 h4 H4=>?_⟩
  have H4:ab B h0 h4 (aj b13 af (aQ aY)::_):=H4.cI
  exact H4.storeAll ag 0 rfl rfl (aQ y) rfl rfl rfl rfl fun h5 H5=>⟨b13,y,F.kind,rfl,H5⟩
 rintro _ a2 w2 ⟨rfl,k2,_,f2,b13,y,hy,rfl,H2⟩
 refine wpIn_seq (wpIn_seq (wpIn_mono (ce ag f2 (K:=fun vs h=>vs=[ptr b9,ptr b11,ptr b13,.bool true]∧h=w2.heap) (cast (Ab b9 b11 b13 true).symm ⟨rfl,rfl⟩)) ?_))
 rintro _ a3 w3 ⟨rfl,k3,_,f3,rfl,g3⟩
 rw[←g3]at H2
 refine wpIn_cond_true (f3.eval rfl) (wpIn_mono (ce ag f3 (K:=fun vs h=>∃r:Sl,vs=[ptr b11]∧ab B h0 h (aj b11 aB (cZ (some b11) r)::ap aA r 1 aE jE::aj b9 aG [ptr b]::As)) (cast (Ac b9 b11 b13 true).symm ?_)) ?_)
 ·refine⟨y,(H2.box 0 rfl).bh _ rfl,some b,(H2.box 1 rfl).cell0 rfl,y,(H2.box 0 rfl).bh _ rfl,?_⟩
  have hx:jB w3.heap x mn:=H2.at 4 rfl
  refine(sQ y hy x mn ho hd (H2.box 2 rfl) hx (H2.rest.rest.rest)).mono ?_
  rintro _ h4 ⟨rfl,R4⟩
  have H4:=ab.up H2 R4.au
  have b4:=H4.box 0 rfl
  refine⟨gh 0,rfl,⟨b4.cell0 rfl,b4.cell rfl,b4.cell rfl,b4.cell rfl,b4.cell rfl,b4.cell rfl,b4.cell rfl,b4.cell rfl,b4.cell rfl,trivial⟩,?_⟩
  refine(qY y (gh 0) hy rfl rfl h4).mono ?_
  rintro _ h5 ⟨rfl,R5⟩
  have H5:=ab.up H4 R5.au
  have H6:ab B h0 h5 (aj b11 aB (cZ none aw)::ap aA aw 1 aE []::aj b9 aG [ptr b]::As):=((H5.nil aA 1 aE).cI).bQ 7 [6,0,2]
  refine⟨⟨#[110,97,109,101,115]⟩,rfl,trivial,(ke b11 none aw [] ⟨#[110,97,109,101,115]⟩ (.inl rfl) (by decide) H6).mono ?_⟩
  rintro _ h7 ⟨rfl,r,H7⟩
  exact⟨(5,.nilIface),rfl,trivial,r,rfl,H7⟩
 rintro _ a4 w4 ⟨rfl,k4,_,f4,r,rfl,H4⟩
 refine wpIn_mono (ce ag f4 (K:=fun vs h=>∃r:Sl,ab B h0 h (aj b9 aG [ptr b]::aj b11 aB (cZ (some b11) r)::ap aA r 1 aE (jE++[10])::As)) (cast (zy b11).symm ?_)) ?_
 ·refine(ke b11 (some b11) r jE ⟨#[10]⟩ (.inr rfl) (by decide) H4).mono ?_
  rintro _ h7 ⟨rfl,r',H7⟩
  exact⟨(1,.nilIface),rfl,r',H7.bQ 3 [2,0,1]⟩
 rintro _ a5 w5 ⟨rfl,k5,_,_,r',H5⟩
 exact⟨rfl,((k2.trans k3).trans k4).trans k5,r',H5⟩
end Go.Qw
namespace Go.Qw
open Go Go.Vc Go.Proofs Wl
set_option maxRecDepth 1000000
theorem xo:pc 12=.region 12 #[⟨some 46,.call ⟨.value (.func 32),#[.tmp 11],#[65]⟩,9, "console.go:192",#[],none⟩,⟨some 8,.assign (.tmp 46),9, "console.go:192",#[⟨0,.data⟩,⟨0,.chain⟩,⟨0,.phase⟩],none⟩] false:=by kernel_rfl
noncomputable abbrev vi:Code:=.block 1 (.seq (pc 7) (.seq (.seq (pc 8) (.cond (.tmp 37) (pc 9) (pc 10))) (pc 11)))
noncomputable abbrev fh (fn:FuncId) (tmps:Array Value) (D:Nat) (st:LoopState):Loop:={state:=st,pending:=none,fn,tmps,params:=#[30],assign:=pc 6,body:=vi,defers:=D}
abbrev dU:ByteArray:=⟨#[110,97,109,101,115,10]⟩
theorem yJ {h0:Heap} {b9 b11 b a pw c:Addr} {offs:Int} {da:List (Option Addr)} {PW:Pow} {DS:bo} {x:cy} {mn:bw} {m:Int} (ho:mn.objs=[]) (hd:iq PW offs=false) (hm:cellOf h0 ⟨0,0,none⟩=some (.int .i64 m))
  {a5:Act} {w5:World} (f5:Fits 47 a5 (cH [9,11,29] [ptr b9,ptr b11,.func (.func be) #[] #[ptr c]]))
  (H:Sp h0 w5.heap (aj c bc [.string bg]::aj b9 aG [ptr b]::aj b aU (eh (some pw) (some a))::bf bB a pw (bI x) offs da PW DS::gW x mn::aj b11 aB (cZ none aw)::[])) {Q:Exit→Act→World→Prop}
  (hQ:∀(D:Nat) (w':World) (r:Sl),aP w5 w'→Sp h0 w'.heap [aj b11 aB (cZ (some b11) r),ap aA r 1 aE (jE++[10]),gX D (.deferred (some []))]→Q .normal {a5 with defers:={target:=.collected D,args:=#[]}::a5.defers} w'):
  (Code.rangeFunc (.tmp 29) #[30] (pc 6) vi).wpIn (Fr none) 3 Tryz.prog Q a5 w5:=by
 refine wpIn_rangeFunc fun fn _=>?_
 obtain⟨W1,hW1⟩:∃W1,(w5.alloc (.deferred (some []))).alloc (.loop (fh fn a5.tmps w5.heap.size .ready))=W1:=⟨_,rfl⟩
 have k1:aP w5 W1:=by rw[←hW1];exact⟨rfl,rfl,rfl,Nat.le_refl _⟩
 have hg:a5.eval (.tmp 29)=.func (.func be) #[] #[ptr c]:=f5.eval rfl
 have eg:∀args w,(callFunc be args).run Tryz.prog w=.ok (.enter be args) w:=enters_of Tryz.func51 (by kernel_rfl) rfl
 obtain⟨l,hl⟩:∃l,l=w5.heap.size+1:=⟨_,rfl⟩
 have H1:Sp h0 W1.heap (aj c bc [.string bg]::aj b9 aG [ptr b]::aj b aU (eh (some pw) (some a))::bf bB a pw (bI x) offs da PW DS::gW x mn::aj b11 aB (cZ none aw)::[gX w5.heap.size (.deferred (some [])),gX l (.loop (fh fn a5.tmps w5.heap.size .ready))]):=by
  have:=(H.wm (.deferred (some []))).wm (.loop (fh fn a5.tmps w5.heap.size .ready))
  rw[Array.size_push,←hl]at this
  rw[←hW1];exact this
 refine⟨l,[{target:=.collected w5.heap.size,args:=#[]}],W1,{target:=.fn (.func be) #[ptr c],args:=#[.func (.yield l) #[] #[]]},W1,be,#[.func (.yield l) #[] #[],ptr c],W1,?_,?_,fun _ _=>trivial,?_,fun h=>(by cases h),?_⟩
 ·rw[←hW1,hl];exact run_enterLoop_outer _ _ _ _ _
 ·simp only[resolve,hg]
  simp[go_sem]
 ·simp[invoke,go_sem,eg]
 refine(xm (α:=Sl) l c _ (fun r=>[aj b9 aG [ptr b],aj b11 aB (cZ (some b11) r),ap aA r 1 aE (jE++[10]),gX w5.heap.size (.deferred (some [])),gX l (.loop (fh fn a5.tmps w5.heap.size .ready))]) W1 H1 ?_).mono ?_
 ·intro W kW HW
  have hL:W.heap[l]?=some (.loop (fh fn a5.tmps w5.heap.size .ready)):=HW.obj 7 rfl
  refine⟨fn,a5.tmps.setIfInBounds 30 (.string bg),pc 6,vi,(run_yield (args:=#[.string bg]) hL rfl).trans (by simp[fh]),roundIn_of_wpIn trivial ?_⟩
  obtain⟨_,rfl,f6⟩:=gB (ts:=[9,11,30]) (K:=fun vs=>vs=[ptr b9,ptr b11,.string bg]) (f5.put (d:=30) rfl (.string bg)) rfl
  have e6:a5.put (some 30) (.string bg)={tmps:=a5.tmps.setIfInBounds 30 (.string bg),defers:=[]}:=by
   have:=f5.defers
   cases a5;simp only at this;subst this;rfl
  rw[e6]at f6
  show Code.wpIn _ _ _ _ _ {tmps:=a5.tmps.setIfInBounds 30 (.string bg),defers:=[]} W
  refine wpIn_mono (ce (ro:=some l) ag f6 (K:=fun vs h=>vs=[ptr b9,ptr b11,.string bg]∧h=W.heap) (cast (zZ b9 b11 bg).symm ⟨rfl,rfl⟩)) ?_
  rintro _ a7 w7 ⟨rfl,k7,_,f7,rfl,g7⟩
  have hL7:w7.heap[l]?=some (.loop (fh fn a5.tmps w5.heap.size .ready)):=by rw[g7];exact hL
  refine⟨_,run_beginRound hL7 rfl,?_⟩
  rw[←g7]at HW
  have H8:=(HW.pq 7 rfl (.loop (fh fn a5.tmps w5.heap.size .busy)))
  obtain⟨w8,hw8⟩:∃w8,w8=w7.putObj l (.loop (fh fn a5.tmps w5.heap.size .busy)):=⟨_,rfl⟩
  have k8:aP w7 w8:=by rw[hw8];exact⟨rfl,rfl,rfl,Nat.le_refl _⟩
  have H8:Sp h0 w8.heap (aj b9 aG [ptr b]::aj b aU (eh (some pw) (some a))::bf bB a pw (bI x) offs da PW DS::gW x mn::aj b11 aB (cZ none aw)::[aj c bc [.string qJ],gX w5.heap.size (.deferred (some [])),gX l (.loop (fh fn a5.tmps w5.heap.size .busy))]):=by
   rw[hw8];exact ab.cB H8 [1,2,3,4,5,0,6,7]
  show Code.wpIn _ _ _ _ _ a7 (w7.putObj l (.loop (fh fn a5.tmps w5.heap.size .busy)))
  rw[←hw8]
  refine wpIn_mono (xn ho hd f7 (H8.au.cell (cu hm) hm) H8) ?_
  rintro _ a9 w9 ⟨rfl,k9,r,H9⟩
  have hL9:w9.heap[l]?=some (.loop (fh fn a5.tmps w5.heap.size .busy)):=H9.obj 5 rfl
  refine⟨_,_,run_endRound none hL9,rfl,?_,r,?_⟩
  ·exact(((k7.trans k8).trans k9).trans ⟨rfl,rfl,rfl,Nat.le_refl _⟩)
  ·exact ab.cB (H9.pq 5 rfl (.loop (fh fn a5.tmps w5.heap.size .ready))) [3,0,1,2,4,5]
 ·rintro _ w6 ⟨⟨v,rfl⟩,k6,r,H6⟩
  have hL6:w6.heap[l]?=some (.loop (fh fn a5.tmps w5.heap.size .ready)):=H6.obj 5 rfl
  refine⟨none,_,run_endLoop hL6 (by simp),hQ w5.heap.size _ r ((k1.trans k6).trans ⟨rfl,rfl,rfl,Nat.le_refl _⟩) ?_⟩
  exact ab.cB (H6.pq 5 rfl (.loop (fh fn a5.tmps w5.heap.size .exhausted))) [2,3,4]
end Go.Qw
namespace Go.Qw
open Go Go.Vc Go.Proofs Wl
set_option maxRecDepth 1000000
theorem zA {h0:Heap} {b11:Addr} {r:Sl} {D:Nat} {a:Act} {w:World} (ds:List Deferred) {R:Ending→World→Prop} (hsz:a.tmps.size=47) (h11:a.tmps[11]?=some (ptr b11)) (hds:a.defers=[{target:=.collected D,args:=#[]}])
  (H:Sp h0 w.heap [aj b11 aB (cZ (some b11) r),ap aA r 1 aE (jE++[10]),gX D (.deferred (some []))])
  (hR:∀w',aP w w'→Sp h0 w'.heap []→R (.returned (.string dU)) w'):
  (Code.seq (pc 12) .ret).wpIn (Fr none) 3 Tryz.prog (bodyPostM (Fr none) 3 Tryz.prog Tryz.f17 R) a w:=by
 refine wpIn_seq ?_
 rw[xo]
 have e11:a.eval (.tmp 11)=ptr b11:=by simp[Act.eval,Array.getD_eq_getD_getElem?,h11]
 have eg:∀args w,(callFunc 32 args).run Tryz.prog w=.ok (.enter 32 args) w:=enters_of Tryz.func32 (by kernel_rfl) rfl
 refine wpIn_region ?_
 show wpOpsIn _ _ _ _ _ [0,1] a w
 simp[wpOpsIn,Region.wanted,Oper.wpIn,Oper.about,Target.leads,Oper.semAt,execOp,resolve,invoke,Act.eval,Deferred.ofValue,eg,Oper.uponIn_enter]
 rw[h11]
 refine(callsIn_wide (n:=2).2 (mU b11 _ r (jE++[10]) (by decide) (by decide) H w rfl)).mono ?_
 rintro _ w' ⟨_,rfl,k1,rfl,H1⟩
 have hK:w'.heap[D]?=some (.deferred (some [])):=H1.obj 2 rfl
 obtain⟨v,hv⟩:∃v:Value,v=.string dU:=⟨_,rfl⟩
 show Code.wpIn (Fr none) 3 Tryz.prog .ret (bodyPostM (Fr none) 3 Tryz.prog Tryz.f17 R) ((a.put (some 46) (.string dU)).put (some 8) ((a.put (some 46) (.string dU)).tmps[46]?.getD undef)) w'
 have e46:(a.put (some 46) (.string dU)).tmps[46]?.getD undef=.string dU:=by simp[Act.put,hsz]
 rw[e46]
 refine wpIn_ret ?_
 show LeavesInM _ _ _ _ _ _ a.defers _ _
 rw[hds]
 refine⟨by simp,.inl ⟨D,_,rfl,run_takeDeferred hK,?_⟩⟩
 refine⟨_,results_tmp rfl _ _ _,?_⟩
 have e8:((a.put (some 46) (.string dU)).put (some 8) (.string dU)).tmps.getD 8 undef=.string dU:=by simp[Act.put,hsz,Array.getD_eq_getD_getElem?]
 rw[e8]
 exact hR _ (k1.trans ⟨rfl,rfl,rfl,Nat.le_refl _⟩) (.zip (H1.pq 2 rfl (.deferred none)).au)
theorem xp (s:Sl) (m:Int) (h:Heap) (hm:cellOf h ⟨0,0,none⟩=some (.int .i64 m)) (hs:Rd h s 1 ao [5]):
  ah Tryz.prog 17 #[jy (1,1,1),.int .i64 0,fS s,.string bg] h fun v h'=>v=.string dU∧Sp h h' []:=by
 intro w hw
 subst hw
 refine callsIn_wide (n:=3).1 ?_
 show CallsIn (Fr none) 3 Tryz.prog 17 _ w _
 refine callsIn_of_wp_marks Tryz.func17 zu trivial ?_ rfl
 have f0:Fits 47 {tmps:=#[jy (1,1,1),.int .i64 0,fS s,.string bg]++Array.replicate (47-4) undef,defers:=[]} (cH [0,1,2,3] [jy (1,1,1),.int .i64 0,fS s,.string bg]):=qI (args:=[jy (1,1,1),.int .i64 0,fS s,.string bg]) (show 4≤47 by decide)
 obtain⟨a0,ha0⟩:∃a0:Act,a0={tmps:=#[jy (1,1,1),.int .i64 0,fS s,.string bg]++Array.replicate (47-4) undef,defers:=[]}:=⟨_,rfl⟩
 rw[←ha0]at f0
 show Code.wpIn _ _ _ _ _ {tmps:=#[jy (1,1,1),.int .i64 0,fS s,.string bg]++Array.replicate (47-4) undef,defers:=[]} w
 rw[←ha0]
 clear ha0
 refine wpIn_seq (wpIn_mono (ce ag f0 (K:=fun vs h=>∃b1,vs=[.int .i64 0,fS s,.string bg,ptr b1]∧Sp w.heap h [aj b1 cY [.int .i64 1,.int .i64 1,.int .i64 1]]) (cast (zU (1,1,1) 0 s bg).symm ((Sp.refl w.heap).boxed fun b1 h1 H1=>⟨b1,rfl,H1⟩))) ?_)
 rintro _ a1 w1 ⟨rfl,k1,_,f1,b1,rfl,H1⟩
 refine wpIn_seq (wpIn_mono (ce ag f1 (K:=fun vs h=>∃(b9 b a pw:Addr) (x:cy) (da:List (Option Addr)),vs=[.string bg,ptr b9,.int .i64 0]∧
  Sp w.heap h [aj b9 aG [ptr b],aj b aU (eh (some pw) (some a)),bf bB a pw (bI x) Pow.new.offs da (aV (1,1,1) 0 Pow.new [5]).2.1 (aV (1,1,1) 0 Pow.new [5]).2.2,gW x (cD (1,1,1) 0 [5])]) (cast (zV b1 0 s bg).symm ?_)) ?_)
 ·refine⟨(1,1,1),(H1.box 0 rfl).bh _ rfl,?_⟩
  refine(wo (1,1,1) 0 s [5] (St.base hs fun h' hp=>Seq.up hs hp) (by decide) H1).mono ?_
  rintro _ h2 ⟨_,Q⟩
  obtain⟨b,a,pw,x,da,rfl,H2⟩:=Q wZ
  refine⟨(some b,0),rfl,H2.alloc ag rfl fun b9 h3 H3=>?_⟩
  have H3:=H3.cI
  exact H3.storeAll ag 0 rfl rfl [ptr b] rfl rfl rfl rfl fun h4 H4=>⟨b9,b,a,pw,x,da,rfl,H4.bQ 5 [0,1,2,3]⟩
 rintro _ a2 w2 ⟨rfl,k2,_,f2,b9,b,a,pw,x,da,rfl,H2⟩
 refine wpIn_seq (wpIn_seq (wpIn_mono (ce ag f2 (K:=fun vs h=>vs=[.string bg,ptr b9,.bool false]∧h=w2.heap) (cast (zW b9 0 bg).symm ⟨rfl,rfl⟩)) ?_))
 rintro _ a3 w3 ⟨rfl,k3,_,f3,rfl,g3⟩
 rw[←g3]at H2
 refine wpIn_cond_false (f3.eval rfl) (wpIn_skip ?_)
 refine wpIn_seq (wpIn_mono (ce ag f3 (K:=fun vs h=>∃b11,vs=[.string bg,ptr b9,ptr b11]∧Sp w.heap h [aj b9 aG [ptr b],aj b aU (eh (some pw) (some a)),bf bB a pw (bI x) Pow.new.offs da (aV (1,1,1) 0 Pow.new [5]).2.1 (aV (1,1,1) 0 Pow.new [5]).2.2,gW x (cD (1,1,1) 0 [5]),aj b11 aB (cZ none aw)]) (cast (zX b9 false bg).symm ?_)) ?_)
 ·refine H2.alloc ag rfl fun b11 h4 H4=>?_
  exact⟨b11,rfl,H4⟩
 rintro _ a4 w4 ⟨rfl,k4,_,f4,b11,rfl,H4⟩
 refine wpIn_seq (wpIn_seq (wpIn_mono (ce ag f4 (K:=fun vs h=>∃c,vs=[ptr b9,ptr b11,.func (.func be) #[] #[ptr c]]∧Sp w.heap h [aj c bc [.string bg],aj b9 aG [ptr b],aj b aU (eh (some pw) (some a)),bf bB a pw (bI x) Pow.new.offs da (aV (1,1,1) 0 Pow.new [5]).2.1 (aV (1,1,1) 0 Pow.new [5]).2.2,gW x (cD (1,1,1) 0 [5]),aj b11 aB (cZ none aw)]) (cast (zY b9 b11 bg).symm ?_)) ?_))
 ·refine(vg bg H4).mono ?_
  rintro _ h5 ⟨c,rfl,H5⟩
  exact⟨(be,#[],#[ptr c]),rfl,c,rfl,H5.cI⟩
 rintro _ a5 w5 ⟨rfl,k5,_,f5,c,rfl,H5⟩
 have K5:=(((k1.trans k2).trans k3).trans k4).trans k5
 refine wpIn_block (yJ rfl vf hm f5 H5 fun D w6 r k6 H6=>?_)
 have h11:a5.tmps[11]?=some (ptr b11):=f5.get 11 _ rfl
 refine zA (r:=r) (b11:=b11) (D:=D) [] f5.size h11 (by rw[f5.defers]) H6 fun w7 k7 H7=>?_
 exact⟨_,rfl,(K5.trans k6).trans k7,rfl,H7⟩
theorem sR (m:Int) (h:Heap) (hm:cellOf h ⟨0,0,none⟩=some (.int .i64 m)):ah Tryz.prog ew #[] h fun v h'=>v=.bool true∧Sp h h' []:=by
 refine ib ?_
 unfold eI
 have e1:ci (dl gi)=some {kind:=10,n:=1,m:=20}:=by decide
 refine(iW gi m h hm (by decide)).mono ?_
 rintro _ h1 ⟨y,rfl,F,R⟩
 rw[e1]at F R⊢
 refine⟨(y,true),rfl,R.alloc ag rfl fun a2 h2 H2=>?_⟩
 refine H2.storeAll ag 3 rfl rfl (aQ y) rfl rfl rfl rfl fun h3 H3=>?_
 refine H3.lit ag ao bF rfl [5] rfl (show 1*1≤2^20 by decide) rfl fun s h4 H4=>?_
 refine(xp s m h4 (H4.au.cell (cu hm) hm) (H4.seq 4 rfl fun _=>rfl)).mono ?_
 rintro _ h5 ⟨rfl,R5⟩
 have b5:=(ab.up H4 R5.au).box 3 rfl
 refine⟨dU,rfl,cU (beq_self_eq_true dU.toList) (cU rfl ⟨y.2.2.2.2.1,b5.cell rfl,cU (by rw[F.n];rfl) ⟨y.2.2.2.2.2.1,b5.cell rfl,?_⟩⟩)⟩
 exact⟨by rw[F.m];rfl,.zip (ab.up H4 R5.au).au⟩
end Go.Qw
namespace Wl
end Wl
namespace Go.Qw
open Go Go.Vc Go.Proofs Wl
set_option maxRecDepth 100000
abbrev mx (x:Int):Int:=if(0:Int)>x then 0 else x
end Go.Qw
namespace Go.Qw
open Go Go.Vc Go.Proofs Wl
theorem lW (t:ByteArray) (s:Sl) (l:List Int) (h:Heap) (hs:Rd h s 1 ao l) (hm:∃m,cellOf h ⟨0,0,none⟩=some (.int .i64 m)):
  ah Tryz.prog dm #[.string t,.slice s.ptr s.len s.cap] h fun v h'=>v=.bool true∧az (fun b=>b<h.size) h h':=by
 obtain⟨m,hm⟩:=hm
 exact(qX t s l m h hm hs (fun k h hk hs=>sP k hk s l h hs) fun h hm=>sR m h hm).mono fun _ _ x=>⟨x.1,x.2.au⟩
end Go.Qw
