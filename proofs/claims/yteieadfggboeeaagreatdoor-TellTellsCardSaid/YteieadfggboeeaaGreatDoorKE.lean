/- Part of the proofs that the laws of this seat answer true whatever the input reads, and leave it as it was; no condition. -/
import Derived.Test.YteieadfggboeeaaGreatDoorKD
import Derived.LoopNIn
set_option linter.unusedVariables false
set_option linter.unusedSimpArgs false
namespace Go.Vc
open Go
def ib (k:Nat) (o:Obj):HP:=⟨fun h q=>h[k]?=some o∧q k,fun x hp=>⟨(hp.2 k (Array.getElem?_eq_some_iff.1 x.1).1 x.2).trans x.1,x.2⟩,fun x hq=>⟨x.1,hq _ x.2⟩⟩
section
variable {B:aj} {h0 h:Heap} {As:List HP}
theorem ab.vS (H:ab B h0 h As) (o:Obj):ab B h0 (h.push o) (As++[ib h.size o]):=
 H.comp (.one (any (ax.push _ _ _)) ⟨Array.getElem?_push_size,Nat.le_refl _,by simp⟩)
theorem ab.oV (H:ab B h0 h As) (i:Nat) {k:Nat} {o:Obj} (hi:As[i]?=some (ib k o)) (o':Obj):ab B h0 (h.setIfInBounds k o') (As.set i (ib k o')):=
 H.step i hi fun q hq hlt=>⟨⟨by simp,fun b _ hn=>Array.getElem?_setIfInBounds_ne (fun e=>hn (by rw[←e];exact hq.2))⟩,by
  have:=hlt k hq.2
  exact⟨by simp[this],by simpa using this,.inl hq.2⟩⟩
theorem ab.obj (H:ab B h0 h As) (i:Nat) {k:Nat} {o:Obj} (hi:As[i]?=some (ib k o)):h[k]?=some o:=(H.at i hi).1
theorem qk {n:Nat} {args:List Value} (hn:args.length≤n):Fits n {tmps:=args.toArray++Array.replicate (n-args.toArray.size) undef,defers:=[]} (kj 0 args):=by
 refine⟨by simp;omega,rfl,fun t v ht=>?_⟩
 obtain⟨_,h2⟩:=kM ht
 rw[Nat.sub_zero]at h2
 have hlt:t<args.length:=(List.getElem?_eq_some_iff.1 h2).1
 simp only[Array.getElem?_append,List.size_toArray,hlt,if_true,List.getElem?_toArray]
 exact h2
end
end Go.Vc
namespace Go.Qw
open Go Go.Vc Go.Proofs Wl
set_option maxRecDepth 1000000
theorem xV:lc 6=.region 6 #[⟨some 21,.move (.tmp 0),99, "iter.go:27",#[],none⟩,⟨some 22,.move (.tmp 3),9, "iter.go:27",#[],none⟩,
  ⟨some 23,.call ⟨.value (.tmp 21),#[.tmp 22],#[9]⟩,4, "iter.go:27",#[⟨0,.data⟩,⟨1,.data⟩],none⟩,⟨some 24,.unOp .not 4 (.tmp 23),4, "iter.go:27",#[⟨2,.data⟩],none⟩] false:=by kernel_rfl
theorem zu {l:Nat} {c:Addr} {t:ByteArray} {a:Act} {w:World} (hf:Fits 25 a (cx [0,1,3] [.func (.yield l) #[] #[],ptr c,.string t])) {R:World→Prop}
  (hY:YieldAt (Fr none) 1 Tryz.prog l #[.string t] w fun e w'=>e=.returned (.bool true)∧R w'):
  (lc 6).wpIn (Fr none) 2 Tryz.prog (fun e a' w'=>e=.normal∧R w'∧Fits 25 a' (cx [0,1,24] [.func (.yield l) #[] #[],ptr c,.bool false])) a w:=by
 rw[xV]
 obtain⟨fn,tmps,assign,body,hy,hR⟩:=hY
 have f1:=hf.put (d:=21) rfl (.func (.yield l) #[] #[])
 have f2:=f1.put (d:=22) rfl (.string t)
 have e0:a.eval (.tmp 0)=.func (.yield l) #[] #[]:=hf.eval rfl
 have e3:(a.put (some 21) (.func (.yield l) #[] #[])).eval (.tmp 3)=.string t:=f1.eval rfl
 have e21:((a.put (some 21) (.func (.yield l) #[] #[])).put (some 22) (.string t)).eval (.tmp 21)=.func (.yield l) #[] #[]:=f2.eval rfl
 have e22:((a.put (some 21) (.func (.yield l) #[] #[])).put (some 22) (.string t)).eval (.tmp 22)=.string t:=f2.eval rfl
 obtain⟨a2,ha2⟩:∃a2,a2=(a.put (some 21) (.func (.yield l) #[] #[])).put (some 22) (.string t):=⟨_,rfl⟩
 rw[←ha2]at e21 e22 f2
 refine wpIn_region ?_
 show wpOpsIn _ _ _ _ _ [0,1,2,3] a w
 simp[wpOpsIn,Region.wanted,Oper.wpIn,Oper.about,Target.leads,Oper.semAt,execOp,resolve,invoke,e0,Oper.uponIn_value,e3,←ha2,e21,e22,Deferred.ofValue,hy,Oper.uponIn_round]
 refine hR.mono ?_
 rintro e w' ⟨rfl,hr⟩
 have f3:=f2.put (d:=23) rfl (.bool true)
 have e23:(a2.put (some 23) (.bool true)).eval (.tmp 23)=.bool true:=f3.eval rfl
 simp[e23,Op.unary]
 have f4:=f3.put (d:=24) rfl (.bool false)
 obtain⟨vs,rfl,f5⟩:=gP (ts:=[0,1,24]) (K:=fun vs=>vs=[.func (.yield l) #[] #[],ptr c,.bool false]) f4 rfl
 exact⟨hr,f5⟩
abbrev aY:ByteArray:=⟨#[108,105,115,116,10]⟩
abbrev ql:ByteArray:=⟨#[]⟩
theorem wN {α:Type} {B:aj} {h0:Heap} (l:Nat) (c:Addr) (As:List HP) (As':α→List HP) (W:World) (H:ab B h0 W.heap (af c bA [.string aY]::As))
  (hY:∀W',aL W W'→ab B h0 W'.heap (af c bA [.string ql]::As)→YieldAt (Fr none) 1 Tryz.prog l #[.string aY] W' fun e W''=>e=.returned (.bool true)∧(aL W' W''∧∃r,ab B h0 W''.heap (af c bA [.string ql]::As' r))):
  CallsIn (Fr none) 2 Tryz.prog aW #[.func (.yield l) #[] #[],ptr c] W fun e W'=>(∃v,e=.returned v)∧aL W W'∧∃r,ab B h0 W'.heap (af c bA [.string ql]::As' r):=by
 refine callsIn_of_wp Tryz.func51 yz trivial ?_ rfl
 obtain⟨f,hf⟩:∃f:Value,f=.func (.yield l) #[] #[]:=⟨_,rfl⟩
 rw[←hf]
 have f0:Fits 25 {tmps:=#[f,ptr c]++Array.replicate (25-2) undef,defers:=[]} (cx [0,1] [f,ptr c]):=qk (args:=[f,ptr c]) (show 2≤25 by decide)
 obtain⟨a0,ha0⟩:∃a0:Act,a0={tmps:=#[f,ptr c]++Array.replicate (25-2) undef,defers:=[]}:=⟨_,rfl⟩
 rw[←ha0]at f0
 show Code.wpIn _ _ _ _ _ {tmps:=#[f,ptr c]++Array.replicate (25-2) undef,defers:=[]} W
 rw[←ha0]
 clear ha0
 refine wpIn_block (wpIn_loop_rounds 2 ?_)
 refine wpIn_seq (wpIn_seq (wpIn_mono (bU ag f0 (K:=fun vs h=>vs=[f,ptr c,.bool true]∧h=W.heap) (cast (xo f c).symm ⟨aY,(H.box 0 rfl).cell0 rfl,rfl,rfl⟩)) ?_))
 rintro _ a1 w1 ⟨rfl,k1,_,f1,rfl,g1⟩
 refine wpIn_cond_true (f1.eval rfl) (wpIn_skip ?_)
 refine wpIn_block (wpIn_seq (wpIn_mono (bU ag f1 (K:=fun vs h=>vs=[f,ptr c]∧h=W.heap) (cast (zo f c true).symm ⟨rfl,g1⟩)) ?_))
 rintro _ a2 w2 ⟨rfl,k2,_,f2,rfl,g2⟩
 have H2:ab B h0 w2.heap (af c bA [.string aY]::As):=by rw[g2];exact H
 refine wpIn_seq (wpIn_seq (wpIn_mono (bU ag f2 (K:=fun vs h=>vs=[f,ptr c,.int .i64 4]∧h=w2.heap) (cast (zp f c).symm ⟨aY,(H2.box 0 rfl).cell0 rfl,(pQ Tryz.strings_IndexByte aY 10 w2.heap).mono ?_⟩)) ?_))
 ·rintro _ _ ⟨rfl,rfl⟩
  exact⟨4,congrArg (Value.int .i64) (show Lib.indexByte aY.data.toList (Int.toNat 10).toUInt8=4 by decide),rfl,rfl⟩
 rintro _ a3 w3 ⟨rfl,k3,_,f3,rfl,g3⟩
 refine wpIn_seq (wpIn_mono (bU ag f3 (K:=fun vs h=>vs=[f,ptr c,.int .i64 4,.bool true]∧h=w2.heap) (cast (zq f c 4).symm ⟨rfl,g3⟩)) ?_)
 rintro _ a4 w4 ⟨rfl,k4,_,f4,rfl,g4⟩
 have H4:ab B h0 w4.heap (af c bA [.string aY]::As):=by rw[g4];exact H2
 have x1:aY.extract (IntKind.wrap .i64 ((4:Int)+1)).toNat aY.size=ql:=by decide
 have x2:aY.extract 0 (IntKind.wrap .i64 ((4:Int)+1)).toNat=aY:=by decide
 refine wpIn_cond_true (f4.eval rfl) (wpIn_mono (bU ag f4 (K:=fun vs h=>vs=[f,ptr c,.string aY]∧ab B h0 h (af c bA [.string ql]::As)) (cast (zr f c 4 true).symm ⟨aY,(H4.box 0 rfl).cell0 rfl,by decide,aY,(H4.box 0 rfl).cell0 rfl,by decide,?_⟩)) ?_)
 ·rw[x1,x2]
  exact H4.storeAll ag 0 rfl rfl [.string ql] rfl rfl rfl rfl fun h3 H3=>⟨trivial,rfl,H3⟩
 rintro _ a5 w5 ⟨rfl,k5,_,f5,rfl,H5⟩
 have K5:=(((k1.trans k2).trans k3).trans k4).trans k5
 rw[hf]at f5
 refine wpIn_seq (wpIn_mono (zu f5 (hY w5 K5 H5)) ?_)
 rintro _ a6 w6 ⟨rfl,⟨k6,r,H6⟩,f6⟩
 refine wpIn_cond_false (f6.eval rfl) (wpIn_skip ?_)
 obtain⟨_,rfl,f7⟩:=gP (ts:=[0,1]) (K:=fun vs=>vs=[.func (.yield l) #[] #[],ptr c]) f6 rfl
 refine wpIn_seq (wpIn_seq (wpIn_mono (bU ag f7 (K:=fun vs h=>vs=[.func (.yield l) #[] #[],ptr c,.bool false]∧h=w6.heap) (cast (xo _ c).symm ⟨ql,(H6.box 0 rfl).cell0 rfl,rfl,rfl⟩)) ?_))
 rintro _ a8 w8 ⟨rfl,k8,_,f8,rfl,g8⟩
 refine wpIn_cond_false (f8.eval rfl) (wpIn_exit ?_)
 refine⟨f8.defers,_,results_none rfl _ _ _,⟨_,rfl⟩,(K5.trans k6).trans k8,?_⟩
 rw[g8];exact⟨r,H6⟩
end Go.Qw
