/- Part of the proofs that the laws of this seat answer true whatever the input reads, and leave it as it was; no condition. -/
import Derived.Test.YteieadfggboeeaaGreatDoorKB
import Derived.Test.YteieadfggboeeaaGreatDoorKC
import Derived.Test.YteieadfggboeeaaGreatDoorPlK
import Derived.Test.YteieadfggboeeaaGreatDoorPlL
set_option linter.unusedVariables false
set_option linter.unusedSimpArgs false
namespace Go.Qw
open Go Go.Vc Go.Proofs Wl
set_option maxRecDepth 100000
section
variable {B:aj} {h0 h:Heap} {As:List HP}
abbrev bq (p:Option Addr) (r:Sl):List Value:=[.pointer p,.slice r.ptr r.len r.cap]
theorem tc {w:World} {a:Addr} {e:TypeId} {x y:Value} {r:List Value} (hb:bH w.heap a e (x::r)):bH (w.setCell ⟨a.block,0,none⟩ y).heap a e (y::r)∧ax (·≠a.block) w.heap (w.setCell ⟨a.block,0,none⟩ y).heap∧aL w (w.setCell ⟨a.block,0,none⟩ y):=by
 have hlt:=hb.lt
 refine⟨⟨hb.off,hb.spot,?_⟩,⟨by simp[World.setCell],fun b _ hb2=>?_⟩,⟨rfl,rfl,rfl,Nat.le_refl _⟩⟩
 ·simp[World.setCell,Array.getElem?_modify,hb.blk]
 ·simp only[World.setCell]
  rw[Array.getElem?_modify,if_neg (fun e=>hb2 e.symm)]
theorem kC (a:Addr) (p:Option Addr) (r:Sl) (hp:p=none∨p=some a) (H:ab B h0 h (af a am (bq p r)::As)):
  ae Tryz.prog gr #[.pointer (some a)] h fun v h'=>v=.tuple #[]∧ab B h0 h' (af a am (bq (some a) r)::As):=by
 intro w hw
 subst hw
 have hb:=H.box 0 rfl
 obtain⟨b,rfl⟩:∃b,a=⟨b,0,none⟩:=⟨a.block,hb.addr⟩
 have hk:w.heap[b]?=some (.cells (bq p r).toArray am (0,0)):=hb.blk
 rcases hp with rfl|rfl
 ·refine(Tryz.vR b w (by simp[World.cell?,hk]) (by simp[World.shape?,hk]) (by simp[World.frozen?,hk])).mono ?_
  rintro e w' ⟨rfl,rfl⟩
  obtain⟨q1,q2,q3⟩:=tc (y:=.pointer (some ⟨b,0,none⟩)) hb
  exact⟨_,rfl,q3,rfl,H.tu 0 rfl q2 q1⟩
 ·refine(Tryz.wM b w (by simp[World.cell?,hk])).mono ?_
  rintro e w' ⟨rfl,rfl⟩
  exact⟨_,rfl,aL.refl _,rfl,H⟩
theorem db (a:Addr) (p:Option Addr) (r:Sl) (bs:List UInt8) (s:ByteArray) (hp:p=none∨p=some a) (hsz:bs.length+s.size≤2^31) (H:ab B h0 h (af a am (bq p r)::aw ay r 1 aB bs::As)):
  ae Tryz.prog bR #[.pointer (some a),.string s] h fun v h'=>v=.tuple #[.int .i64 s.size,.nilIface]∧∃r':Sl,ab B h0 h' (af a am (bq (some a) r')::aw ay r' 1 aB (bs++dl s)::As):=by
 refine fD (some a) s ?_
 unfold df
 refine(kC a p r hp H).mono ?_
 rintro _ h1 ⟨rfl,H1⟩
 refine⟨(),rfl,a,rfl,r,(H1.box 0 rfl).cell rfl,?_⟩
 refine H1.pU ag 1 rfl fW ⟨_,rfl,rfl⟩ rfl (by decide) s (by omega) fun r' h2 H2=>?_
 refine⟨a,rfl,?_⟩
 exact H2.storeAt ag 0 rfl rfl rfl rfl rfl (show 1<2 by decide) fun h3 H3=>⟨rfl,r',H3⟩
end
theorem td (w:World) (b n:Nat):(w.freeze ⟨b,0,none⟩ n).heap.size=w.heap.size∧(∀k,k≠b→(w.freeze ⟨b,0,none⟩ n).heap[k]?=w.heap[k]?)∧aL w (w.freeze ⟨b,0,none⟩ n):=by
 unfold World.freeze
 split
 ·exact⟨rfl,fun _ _=>rfl,aL.refl _⟩
 ·refine⟨by simp,fun k hk=>?_,⟨rfl,rfl,rfl,Nat.le_refl _⟩⟩
  rw[Array.getElem?_modify,if_neg (fun h=>hk h.symm)]
theorem fX {B:aj} {h0 h:Heap} {As:List HP} (a:Addr) (p:Option Addr) (r:Sl) (bs:List UInt8) (hne:bs≠[]) (hsz:bs.length≤2^31) (H:ab B h0 h (af a am (bq p r)::aw ay r 1 aB bs::As)):
  ae Tryz.prog iq #[.pointer (some a)] h fun v h'=>v=.string ⟨bs.toArray⟩∧ab B h0 h' (af a am (bq p r)::emp::As):=by
 intro w hw
 subst hw
 have hb:=H.box 0 rfl
 obtain⟨b,rfl⟩:∃b,a=⟨b,0,none⟩:=⟨a.block,hb.addr⟩
 obtain⟨ho,hon⟩:=H.at 1 rfl
 have hl:=ho.len
 rcases ho.head with⟨_,_,e⟩|⟨g,rest,p1,p2,p3,p4⟩
 ·exact absurd e hne
 have hg:=hon g ⟨0,p1⟩
 have hlf:(bs.flatMap aB).length=bs.length:=by rw[bO (f:=aB) (k:=1) (fun _=>rfl),Nat.mul_one]
 have hk:w.heap[b]?=some (.cells #[.pointer p,.slice (some ⟨g,0,none⟩) bs.length r.cap] 65 (0,0)):=by
  have:=hb.blk
  rw[←hl,←p1];exact this
 refine(Tryz.zN b g r.cap bs (.pointer p) _ w hk p2 hne (by omega) hsz ?_ ?_).mono ?_
 ·simp[hlf];omega
 ·intro j x hx
  have hj:=(List.getElem?_eq_some_iff.1 hx).1
  rw[List.getElem?_toArray,List.getElem?_append_left (by omega)]
  have:∀(l:List UInt8) (j:Nat) (x:UInt8),l[j]?=some x→(l.flatMap aB)[j]?=some (Value.int .u8 (x.toNat:Int)):=by
   intro l
   induction l with
   |nil=>intro j x h;simp at h
   |cons y t ih=>
    intro j x h
    cases j with
    |zero=>simp at h;subst h;rfl
    |succ j=>rw[List.flatMap_cons];exact ih j x (by simpa using h)
  exact this bs j x hx
 rintro e w' ⟨rfl,rfl⟩
 obtain⟨f1,f2,f3⟩:=td w.drew g bs.length
 refine⟨_,rfl,⟨f3.os,f3.tape,f3.output,Nat.le_trans (Nat.le_succ _) f3.drawn⟩,rfl,H.step (D:=emp) 1 rfl fun q hq _=>⟨⟨by rw[f1];exact Nat.le_refl _,fun k _ hn=>?_⟩,trivial⟩⟩
 exact f2 k fun e=>hn (by rw[e];exact hq.2 g ⟨0,p1⟩)
theorem qD (y:cC) (z:ej) (hy:y.1=4) (h1:z.1=0) (h2:z.2.2.1.len=0) (h:Heap):
  ae Tryz.prog eb #[eR y,jY z] h fun v h'=>v=.string ⟨#[110,97,109,101,115]⟩∧Sp h h' []:=by
 refine iQ y z ?_
 unfold gv
 refine(Sp.refl h).boxed fun a1 h1 H1=>H1.boxed fun a2 h2 H2=>?_
 have H2:Sp h h2 [af a1 av (bg y),af a2 aP (cE z)]:=H2
 refine⟨z.1,(H2.box 1 rfl).cell0 rfl,cT (fun e=>absurd ‹z.1=0› e) fun _=>?_⟩
 refine H2.alloc ag rfl fun a10 h6 H6=>?_
 have H6:Sp h h6 [af a1 av (bg y),af a2 aP (cE z),af a10 am (bq none aG)]:=H6
 have H7:Sp h h6 [af a10 am (bq none aG),aw ay aG 1 aB [],af a1 av (bg y),af a2 aP (cE z)]:=ab.de (H6.nil ay 1 aB) [2,3,0,1]
 refine aJ ⟨y.1,(H7.box 2 rfl).cell0 rfl,bn (fun e=>absurd e (by omega)) fun _=>bn (fun _=>?_) fun e=>absurd hy e⟩
 refine(db a10 none aG [] _ (.inl rfl) (by decide) H7).mono ?_
 rintro _ h8 ⟨rfl,r',H8⟩
 refine⟨((eu.size:Int),Value.nilIface),rfl,z.2.2.1,(H8.box 3 rfl).cell rfl,?_⟩
 refine aE (fun _:Unit=>(0:Int)) (fun _ h'=>h'=h8) (fun _=>0) () rfl rfl ?_
 rintro _ h9 rfl
 refine an (fun e=>absurd e (by omega)) fun _=>?_
 refine(fX a10 _ r' _ (by decide) (by decide) H8).mono ?_
 rintro _ h10 ⟨rfl,R⟩
 exact⟨_,rfl,rfl,.zip R.aq⟩
end Go.Qw
namespace Go.Qw
open Go Go.Vc Go.Proofs Wl
set_option maxRecDepth 1000000
noncomputable def pc (i:Nat):Code:=xe Tryz.f17 i
noncomputable def lc (i:Nat):Code:=xe Tryz.f51 i
theorem yy:Tryz.f17.body=some (.seq (pc 0) (.seq (pc 1) (.seq (.seq (pc 2) (.cond (.tmp 23) (.seq (pc 3) .ret) .skip)) (.seq (pc 4) (.seq (.seq (pc 5) (.block 0 (.rangeFunc (.tmp 29) #[30] (pc 6) (.block 1 (.seq (pc 7) (.seq (.seq (pc 8) (.cond (.tmp 37) (pc 9) (pc 10))) (pc 11))))))) (.seq (pc 12) .ret)))))):=by kernel_rfl
theorem yz:Tryz.f51.body=some (.block 0 (.loop (.seq (.seq (lc 0) (.cond (.tmp 7) .skip (.exit 0))) (.block 1 (.seq (lc 1) (.seq (.seq (lc 2) (.seq (lc 3) (.cond (.tmp 11) (lc 4) (lc 5)))) (.seq (lc 6) (.cond (.tmp 24) .ret .skip)))))))):=by kernel_rfl
section
variable {K:List Value→Heap→Prop} {h:Heap}
abbrev ptr (a:Addr):Value:=.pointer (some a)
abbrev dz (s:Sl):Value:=.slice s.ptr s.len s.cap
theorem zf (x:Pm) (k:Int) (s:Sl) (t:ByteArray):eo C 47 (pc 0) (fun ρ h=>du [1,2,3,4] ρ fun vs=>K vs h) (cx [0,1,2,3] [kz x,.int .i64 k,dz s,.string t]) h=
 aI Tryz.prog (Instr.box ew (kz x)) h fun a1 h1=>K [.int .i64 k,dz s,.string t,ptr a1] h1:=by kernel_rfl
theorem zg (a:Addr) (k:Int) (s:Sl) (t:ByteArray):eo C 47 (pc 1) (fun ρ h=>du [3,9,10] ρ fun vs=>K vs h) (cx [1,2,3,4] [.int .i64 k,dz s,.string t,ptr a]) h=
 ∃x:Pm,ai h a 0 [.int .i64 x.1,.int .i64 x.2.1,.int .i64 x.2.2]∧ah Tryz.prog kq #[kz x,.int .i64 k,dz s] (.many [(.sc .ptr),(.sc (.int .i64))]) h fun(r2:Option Addr×Int) h1=>
  aI Tryz.prog (Instr.alloc aC true (.tuple #[])) h1 fun a3 h2=>aa Tryz.prog (Instr.storeAt aC (ptr a3) (.pointer r2.1)) h2 fun _ h3=>K [.string t,ptr a3,.int .i64 r2.2] h3:=by kernel_rfl
theorem zh (a:Addr) (e:Int) (t:ByteArray):eo C 47 (pc 2) (fun ρ h=>du [3,9,23] ρ fun vs=>K vs h) (cx [3,9,10] [.string t,ptr a,.int .i64 e]) h=K [.string t,ptr a,.bool (e !=0)] h:=by kernel_rfl
theorem zi (a:Addr) (e:Bool) (t:ByteArray):eo C 47 (pc 4) (fun ρ h=>du [3,9,11] ρ fun vs=>K vs h) (cx [3,9,23] [.string t,ptr a,.bool e]) h=
 aI Tryz.prog (Instr.alloc am true (.tuple #[])) h fun a1 h1=>K [.string t,ptr a,ptr a1] h1:=by kernel_rfl
theorem zj (a b:Addr) (t:ByteArray):eo C 47 (pc 5) (fun ρ h=>du [9,11,29] ρ fun vs=>K vs h) (cx [3,9,11] [.string t,ptr a,ptr b]) h=
 ah Tryz.prog iS #[.string t] (.one (.sc .fn)) h fun(r1:FuncId×Array Value×Array Value) h1=>K [ptr a,ptr b,.func (.func r1.1) r1.2.1 r1.2.2] h1:=by kernel_rfl
theorem zk (a b:Addr) (t:ByteArray):eo C 47 (pc 6) (fun ρ h=>du [9,11,12] ρ fun vs=>K vs h) (cx [9,11,30] [ptr a,ptr b,.string t]) h=K [ptr a,ptr b,.string t] h:=by kernel_rfl
theorem zl (a b:Addr) (t:ByteArray):eo C 47 (pc 7) (fun ρ h=>du [9,11,13,14] ρ fun vs=>K vs h) (cx [9,11,12] [ptr a,ptr b,.string t]) h=
 ah Tryz.prog fA #[.string t,.string ⟨#[10]⟩] (.one (.sc .str)) h fun(r1:ByteArray) h1=>ah Tryz.prog iO #[.string r1] (.many [(.agg [(.int .i64),.str,.slc,(.int .i64),(.int .i64),(.int .i64),(.int .u32),.slc,.slc]),(.sc .bool)]) h1 fun(r2:cC×Bool) h2=>
  aI Tryz.prog (Instr.alloc av true (.tuple #[])) h2 fun a3 h3=>aa Tryz.prog (Instr.storeAt av (ptr a3) (eR r2.1)) h3 fun _ h4=>K [ptr a,ptr b,ptr a3,.bool r2.2] h4:=by kernel_rfl
theorem zm (a b c:Addr) (t:Bool):eo C 47 (pc 8) (fun ρ h=>du [9,11,13,37] ρ fun vs=>K vs h) (cx [9,11,13,14] [ptr a,ptr b,ptr c,.bool t]) h=K [ptr a,ptr b,ptr c,.bool t] h:=by kernel_rfl
theorem zn (a b c:Addr) (t:Bool):eo C 47 (pc 9) (fun ρ h=>du [11] ρ fun vs=>K vs h) (cx [9,11,13,37] [ptr a,ptr b,ptr c,.bool t]) h=
 ∃x1:cC,ai h c 0 (bg x1)∧∃x2:Option Addr,cellOf h a=some (.pointer x2)∧∃x3:cC,ai h c 0 (bg x3)∧
  ah Tryz.prog fB #[.pointer x2,eR x3] (.one (.agg [(.int .i64),.slc,.slc,(.int .i64),(.int .i64),(.int .i64),.slc,(.int .i64)])) h fun(r4:ej) h1=>
  ar.ok [(c,.int .i64 x1.1),(c.add 1,.string x1.2.1),(c.add 2,dz x1.2.2.1),(c.add 3,.int .i64 x1.2.2.2.1),(c.add 4,.int .i64 x1.2.2.2.2.1),(c.add 5,.int .i64 x1.2.2.2.2.2.1),(c.add 6,.int .u32 x1.2.2.2.2.2.2.1),(c.add 7,dz x1.2.2.2.2.2.2.2.1),(c.add 8,dz x1.2.2.2.2.2.2.2.2)] h1∧
  ah Tryz.prog eb #[eR x1,jY r4] (.one (.sc .str)) h1 fun(r5:ByteArray) h2=>ar.ok [] h2∧
  ah Tryz.prog bR #[ptr b,.string r5] (.many [(.sc (.int .i64)),(.sc .any)]) h2 fun(_:Int×Value) h3=>ar.ok [] h3∧K [ptr b] h3:=by kernel_rfl
theorem yA (b:Addr):eo C 47 (pc 11) (fun ρ h=>du [] ρ fun vs=>K vs h) (cx [11] [ptr b]) h=
 ah Tryz.prog bR #[ptr b,.string ⟨#[10]⟩] (.many [(.sc (.int .i64)),(.sc .any)]) h fun(_:Int×Value) h1=>K [] h1:=by kernel_rfl
theorem xo (f:Value) (c:Addr):eo C 25 (lc 0) (fun ρ h=>du [0,1,7] ρ fun vs=>K vs h) (cx [0,1] [f,ptr c]) h=
 ∃x:ByteArray,cellOf h c=some (.string x)∧K [f,ptr c,.bool (decide ((x.size:Int)>0))] h:=by kernel_rfl
theorem zo (f:Value) (c:Addr) (t:Bool):eo C 25 (lc 1) (fun ρ h=>du [0,1] ρ fun vs=>K vs h) (cx [0,1,7] [f,ptr c,.bool t]) h=K [f,ptr c] h:=by kernel_rfl
theorem zp (f:Value) (c:Addr):eo C 25 (lc 2) (fun ρ h=>du [0,1,4] ρ fun vs=>K vs h) (cx [0,1] [f,ptr c]) h=
 ∃x:ByteArray,cellOf h c=some (.string x)∧ah Tryz.prog fP #[.string x,.int .u8 (10:Int)] (.one (.sc (.int .i64))) h fun(r4:Int) h2=>K [f,ptr c,.int .i64 r4] h2:=by kernel_rfl
theorem zq (f:Value) (c:Addr) (r:Int):eo C 25 (lc 3) (fun ρ h=>du [0,1,4,11] ρ fun vs=>K vs h) (cx [0,1,4] [f,ptr c,.int .i64 r]) h=K [f,ptr c,.int .i64 r,.bool (decide (r≥0))] h:=by kernel_rfl
theorem zr (f:Value) (c:Addr) (r:Int) (t:Bool):eo C 25 (lc 4) (fun ρ h=>du [0,1,3] ρ fun vs=>K vs h) (cx [0,1,4,11] [f,ptr c,.int .i64 r,.bool t]) h=
 ∃x5:ByteArray,cellOf h c=some (.string x5)∧(0≤IntKind.wrap .i64 (r+1)∧IntKind.wrap .i64 (r+1)≤(x5.size:Int))∧∃x6:ByteArray,cellOf h c=some (.string x6)∧(0≤IntKind.wrap .i64 (r+1)∧IntKind.wrap .i64 (r+1)≤(x6.size:Int))∧
  aa Tryz.prog (Instr.storeAt bA (ptr c) (.string (x6.extract (IntKind.wrap .i64 (r+1)).toNat x6.size))) h fun _ h3=>ar.ok [] h3∧K [f,ptr c,.string (x5.extract 0 (IntKind.wrap .i64 (r+1)).toNat)] h3:=by kernel_rfl
end
end Go.Qw
