/- Part of the proofs that the laws of this seat answer true whatever the input reads, and leave it as it was; no condition. -/
import Derived.Test.YteieadfggboeeaaGreatDoorKA
import Derived.Test.YteieadfggboeeaaGreatDoorPlK
set_option linter.unusedVariables false
set_option linter.unusedSimpArgs false
namespace Wl
def cu:List (List UInt8)→List UInt8
 |[]=>[]
 |[w]=>w
 |w::v::r=>w++32::cu (v::r)
theorem sf:∀(ws:List (List UInt8)),ws≠[]→(∀w∈ws,(32:UInt8)∉w)→jl (cu ws)=ws
 |[],h,_=>absurd rfl h
 |[w],_,hw=>by
  have:=ic 32 [] w [] (hw w (List.mem_singleton.2 rfl))
  rw[List.append_nil]at this
  unfold cu jl
  rw[this];simp[ce]
 |w::v::r,_,hw=>by
  have ih:=sf (v::r) (by simp) fun x hx=>hw x (List.mem_cons_of_mem _ hx)
  unfold cu jl
  rw[ic 32 _ w [] (hw w List.mem_cons_self),ce,if_pos rfl]
  unfold jl at ih
  rw[ih];rfl
theorem uL {ws:List (List UInt8)} (h0:ws≠[]) (h1:∀w∈ws,(32:UInt8)∉w) (h2:∀w∈ws,w≠[]):ie (cu ws)=some ws:=by
 unfold ie
 rw[sf ws h0 h1,if_neg]
 intro h
 obtain⟨w,hw,e⟩:=List.any_eq_true.1 h
 exact h2 w hw (by simpa using e)
def dG:List Int→List Int→List (List UInt8)
 |a::r,b::s=>aN a::aN b::dG r s
 |_,_=>[]
def bJ (p:aW):List (List UInt8):=
 if p.kind=1 then[[112,117,116],p.name,gd p.data]
 else if p.kind=2 then[[103,101,116],p.name]
 else if p.kind=3 then[[100,101,108],p.name]
 else if p.kind=4 then[[108,105,115,116]]
 else if p.kind=5 then[[115,116,97,116],p.name]
 else if p.kind=6 then[[97,100,100],aN p.slot,aN p.n]
 else if p.kind=7 then[[114,101,116,105,114,101],aN p.slot]
 else if p.kind=8 then[[114,101,112,108,97,99,101],aN p.slot,aN p.n]
 else if p.kind=9 then[[108,111,115,101],aN p.slot]
 else if p.kind=10 then[[115,99,114,117,98],aN p.n,aN p.m]
 else if p.kind=11 then[[115,112,111,105,108],aN p.slot,aN p.n,aN p.m,aN p.mask]
 else if p.kind=12 then[[97,114,109],aN p.n]
 else[102,97,108,108]::aN p.n::dG p.keeps p.torns
def cD (p:aW):List UInt8:=cu (bJ p)
theorem vT {n:Int} (h0:0≤n) (h1:n<1000000000):cB (aN n)=some n.natAbs:=by
 unfold aN
 rw[if_neg (by omega)]
 have hd:=kN 8 n.natAbs (by omega)
 have hl:=kL 8 n.natAbs (by omega)
 have hm:eT (bY n.natAbs)=true:=by
  unfold eT
  have hz:∀(k m:Nat),m<10^(k+1)→1≤(bY m).length∧(1<(bY m).length→(bY m).headD 0≠48):=by
   intro k
   induction k with
   |zero=>intro m hm;rw[cX (by omega)];exact⟨Nat.le_refl _,fun h=>absurd h (by simp)⟩
   |succ k ih=>
    intro m hm
    by_cases h9:m≤9
    ·rw[cX h9];exact⟨Nat.le_refl _,fun h=>absurd h (by simp)⟩
    ·have ih2:=ih (m/10) (by rw[Nat.pow_succ]at hm;omega)
     rw[gc h9]
     refine⟨by simp,fun _=>?_⟩
     by_cases h99:m/10≤9
     ·rw[cX h99]
      have:∀q,1≤q→q≤9→UInt8.ofNat (48+q)≠48:=by
       intro q h1 h2 e
       have:=congrArg UInt8.toNat e
       rw[UInt8.toNat_ofNat']at this
       have h3:(48:UInt8).toNat=48:=rfl
       omega
      exact this _ (by omega) h99
     ·have h1:1<(bY (m/10)).length:=by
       rw[gc h99,List.length_append]
       have:=(ih (m/10) (by rw[Nat.pow_succ]at hm;omega)).1
       have h2:1≤(bY (m/10/10)).length:=by
        cases hh:bY (m/10/10)with
        |nil=>rw[bY]at hh;split at hh<;>simp at hh
        |cons a t=>simp
       simp only[List.length_singleton];omega
      have:=ih2.2 h1
      cases hh:bY (m/10)with
      |nil=>rw[hh]at h1;simp at h1
      |cons a t=>rw[hh]at this;exact this
  have:=hz 8 n.natAbs (by omega)
  rw[hd.1,decide_eq_true ⟨this.1,by omega⟩]
  by_cases h1:1<(bY n.natAbs).length
  ·rw[beq_eq_false_iff_ne.2 (this.2 h1)];simp
  ·rw[decide_eq_false h1];rfl
 unfold cB
 rw[if_pos hm,hd.2]
end Wl
namespace Wl
def gz (n:Int):Prop:=0≤n∧n<1000000000
structure iA (p:aW):Prop where
 kind:1≤p.kind∧p.kind≤13
 name:(p.kind=1∨p.kind=2∨p.kind=3∨p.kind=5)→p.name≠[]∧(32:UInt8)∉p.name
 slot:gz p.slot
 n:gz p.n
 m:gz p.m
 mask:gz p.mask
 rows:p.keeps.length=p.torns.length
 keeps:∀x∈p.keeps,gz x
 torns:∀x∈p.torns,gz x
 rest:p=aW.mk p.kind (if p.kind=1∨p.kind=2∨p.kind=3∨p.kind=5 then p.name else[]) (if p.kind=1 then p.data else[])
  (if p.kind=6∨p.kind=7∨p.kind=8∨p.kind=9∨p.kind=11 then p.slot else 0) (if p.kind=6∨p.kind=8∨p.kind=10∨p.kind=11∨p.kind=12∨p.kind=13 then p.n else 0)
  (if p.kind=10∨p.kind=11 then p.m else 0) (if p.kind=11 then p.mask else 0) (if p.kind=13 then p.keeps else[]) (if p.kind=13 then p.torns else[])
theorem bj {n:Int} (h:gz n) (r:List (List UInt8)):bD (aN n::r)=(bD r).map (n.natAbs::·):=by
 simp only[bD,vT h.1 h.2]
theorem oI:∀(k t:List Int),k.length=t.length→(∀x∈k,gz x)→(∀x∈t,gz x)→∃ns,bD (dG k t)=some ns∧cT (ns.map fun(n:Nat)=>(n:Int))=k∧dT (ns.map fun(n:Nat)=>(n:Int))=t∧ns.length%2=0
 |[],[],_,_,_=>⟨[],rfl,rfl,rfl,rfl⟩
 |a::r,b::s,h,hk,ht=>by
  obtain⟨ns,h1,h2,h3,h4⟩:=oI r s (by simpa using h) (fun x hx=>hk x (List.mem_cons_of_mem _ hx)) (fun x hx=>ht x (List.mem_cons_of_mem _ hx))
  have ha:=hk a List.mem_cons_self
  have hb:=ht b List.mem_cons_self
  refine⟨a.natAbs::b.natAbs::ns,?_,?_,?_,?_⟩
  ·unfold dG
   rw[bj ha,bj hb,h1];rfl
  ·simp only[List.map_cons,cT,h2]
   congr 1
   have:=ha.1;omega
  ·simp only[List.map_cons,dT,h3]
   congr 1
   have:=hb.1;omega
  ·simp only[List.length_cons];omega
 |[],_::_,h,_,_=>by simp at h
 |_::_,[],h,_,_=>by simp at h
end Wl
namespace Wl
theorem cF {w:List UInt8} {r:List (List UInt8)} {ns:List Nat} (h1:w≠[112,117,116]) (h2:fq w=none) (h3:w≠[108,105,115,116]) (hn:bD r=some ns):mH (w::r)=ig w (ns.map fun(n:Nat)=>(n:Int)):=by
 unfold mH
 dsimp only[List.headD_cons,List.tail_cons]
 rw[if_neg h1,h2]
 dsimp only
 rw[if_neg h3,hn]
theorem fH {n:Int} (h:gz n):((n.natAbs:Nat):Int)=n:=Int.natAbs_of_nonneg h.1
theorem vU {p:aW} (h:iA p):mH (bJ p)=some p:=by
 obtain⟨kind,name,data,slot,n,m,mask,keeps,torns⟩:=p
 obtain⟨hk,hname,hs,hn,hm,hms,hr,hke,hto,hrest⟩:=h
 dsimp only at hk hname hs hn hm hms hr hke hto hrest
 have hc:kind=1∨kind=2∨kind=3∨kind=4∨kind=5∨kind=6∨kind=7∨kind=8∨kind=9∨kind=10∨kind=11∨kind=12∨kind=13:=by omega
 have n0:∀{l:List Int} {x:Int},bD []=some []:=rfl
 rcases hc with rfl|rfl|rfl|rfl|rfl|rfl|rfl|rfl|rfl|rfl|rfl|rfl|rfl<;>simp at hrest
 ·obtain⟨rfl,rfl,rfl,rfl,rfl,rfl⟩:=hrest
  show(eU (gd data)).map _=_
  rw[vS];rfl
 ·obtain⟨rfl,rfl,rfl,rfl,rfl,rfl,rfl⟩:=hrest;rfl
 ·obtain⟨rfl,rfl,rfl,rfl,rfl,rfl,rfl⟩:=hrest;rfl
 ·obtain⟨rfl,rfl,rfl,rfl,rfl,rfl,rfl,rfl⟩:=hrest;rfl
 ·obtain⟨rfl,rfl,rfl,rfl,rfl,rfl,rfl⟩:=hrest;rfl
 ·obtain⟨rfl,rfl,rfl,rfl,rfl,rfl⟩:=hrest
  rw[show bJ ⟨6,[],[],slot,n,0,0,[],[]⟩=[[97,100,100],aN slot,aN n]from rfl,cF (by decide) rfl (by decide) (by rw[bj hs,bj hn];rfl)]
  show some (aW.mk 6 [] [] ((slot.natAbs:Nat):Int) ((n.natAbs:Nat):Int) 0 0 [] [])=_
  rw[fH hs,fH hn]
 ·obtain⟨rfl,rfl,rfl,rfl,rfl,rfl,rfl⟩:=hrest
  rw[show bJ ⟨7,[],[],slot,0,0,0,[],[]⟩=[[114,101,116,105,114,101],aN slot]from rfl,cF (by decide) rfl (by decide) (by rw[bj hs];rfl)]
  show some (aW.mk 7 [] [] ((slot.natAbs:Nat):Int) 0 0 0 [] [])=_
  rw[fH hs]
 ·obtain⟨rfl,rfl,rfl,rfl,rfl,rfl⟩:=hrest
  rw[show bJ ⟨8,[],[],slot,n,0,0,[],[]⟩=[[114,101,112,108,97,99,101],aN slot,aN n]from rfl,cF (by decide) rfl (by decide) (by rw[bj hs,bj hn];rfl)]
  show some (aW.mk 8 [] [] ((slot.natAbs:Nat):Int) ((n.natAbs:Nat):Int) 0 0 [] [])=_
  rw[fH hs,fH hn]
 ·obtain⟨rfl,rfl,rfl,rfl,rfl,rfl,rfl⟩:=hrest
  rw[show bJ ⟨9,[],[],slot,0,0,0,[],[]⟩=[[108,111,115,101],aN slot]from rfl,cF (by decide) rfl (by decide) (by rw[bj hs];rfl)]
  show some (aW.mk 9 [] [] ((slot.natAbs:Nat):Int) 0 0 0 [] [])=_
  rw[fH hs]
 ·obtain⟨rfl,rfl,rfl,rfl,rfl,rfl⟩:=hrest
  rw[show bJ ⟨10,[],[],0,n,m,0,[],[]⟩=[[115,99,114,117,98],aN n,aN m]from rfl,cF (by decide) rfl (by decide) (by rw[bj hn,bj hm];rfl)]
  show some (aW.mk 10 [] [] 0 ((n.natAbs:Nat):Int) ((m.natAbs:Nat):Int) 0 [] [])=_
  rw[fH hn,fH hm]
 ·obtain⟨rfl,rfl,rfl,rfl⟩:=hrest
  rw[show bJ ⟨11,[],[],slot,n,m,mask,[],[]⟩=[[115,112,111,105,108],aN slot,aN n,aN m,aN mask]from rfl,cF (by decide) rfl (by decide) (by rw[bj hs,bj hn,bj hm,bj hms];rfl)]
  show some (aW.mk 11 [] [] ((slot.natAbs:Nat):Int) ((n.natAbs:Nat):Int) ((m.natAbs:Nat):Int) ((mask.natAbs:Nat):Int) [] [])=_
  rw[fH hs,fH hn,fH hm,fH hms]
 ·obtain⟨rfl,rfl,rfl,rfl,rfl,rfl,rfl⟩:=hrest
  rw[show bJ ⟨12,[],[],0,n,0,0,[],[]⟩=[[97,114,109],aN n]from rfl,cF (by decide) rfl (by decide) (by rw[bj hn];rfl)]
  show some (aW.mk 12 [] [] 0 ((n.natAbs:Nat):Int) 0 0 [] [])=_
  rw[fH hn]
 ·obtain⟨rfl,rfl,rfl,rfl,rfl⟩:=hrest
  obtain⟨ns,h1,h2,h3,h4⟩:=oI keeps torns hr hke hto
  rw[show bJ ⟨13,[],[],0,n,0,0,keeps,torns⟩=[102,97,108,108]::aN n::dG keeps torns from rfl,cF (by decide) rfl (by decide) (by rw[bj hn,h1];rfl)]
  have hl:((n.natAbs::ns).map fun(n:Nat)=>(n:Int)).length%2=1:=by simp;omega
  unfold ig
  rw[if_neg (fun hh=>absurd hh.1 (by decide)),if_neg (fun hh=>absurd hh.1 (by decide)),if_neg (fun hh=>absurd hh.1 (by decide)),if_neg (fun hh=>absurd hh.1 (by decide)),if_neg (fun hh=>absurd hh.1 (by decide)),if_neg (fun hh=>absurd hh.1 (by decide)),if_neg (fun hh=>absurd hh.1 (by decide)),if_pos ⟨rfl,hl⟩]
  rw[List.map_cons,List.tail_cons,h2,h3,List.getD_cons_zero,fH hn]
end Wl
namespace Wl
theorem yJ {l:List UInt8} (h:l.all dU=true):(32:UInt8)∉l:=fun hm=>by
 have:=List.all_eq_true.1 h _ hm
 exact absurd this (by decide)
theorem yd {l:List UInt8} (h:l.all di=true):(32:UInt8)∉l:=fun hm=>by
 have:=List.all_eq_true.1 h _ hm
 exact absurd this (by decide)
theorem ye (n:Nat):bY n≠[]:=by
 rw[bY];split<;>simp
theorem jY {n:Int} (h:gz n):aN n≠[]∧(32:UInt8)∉aN n:=by
 unfold aN
 rw[if_neg (by have:=h.1;omega)]
 exact⟨ye _,yJ (kN 8 n.natAbs (by have:=h.1;have:=h.2;omega)).1⟩
theorem yK (l:List UInt8):gd l≠[]∧(32:UInt8)∉gd l:=by
 unfold gd
 by_cases h:l=[]
 ·rw[if_pos h];exact⟨by simp,by decide⟩
 ·rw[if_neg h]
  refine⟨fun e=>h ?_,yd (pA l).1⟩
  cases l with
  |nil=>rfl
  |cons b r=>rw[List.flatMap_cons]at e;cases e
theorem tG:∀(k t:List Int),(∀x∈k,gz x)→(∀x∈t,gz x)→∀w∈dG k t,w≠[]∧(32:UInt8)∉w
 |a::r,b::s,hk,ht,w,hw=>by
  unfold dG at hw
  rcases List.mem_cons.1 hw with rfl|hw
  ·exact jY (hk _ List.mem_cons_self)
  rcases List.mem_cons.1 hw with rfl|hw
  ·exact jY (ht _ List.mem_cons_self)
  exact tG r s (fun x hx=>hk x (List.mem_cons_of_mem _ hx)) (fun x hx=>ht x (List.mem_cons_of_mem _ hx)) w hw
 |[],_,_,_,w,hw=>by simp[dG]at hw
 |_::_,[],_,_,w,hw=>by simp[dG]at hw
def Wd (w:List UInt8):Prop:=w≠[]∧(32:UInt8)∉w
theorem lm:∀w∈([]:List (List UInt8)),Wd w:=fun _ h=>by cases h
theorem cG {a:List UInt8} {r:List (List UInt8)} (h:Wd a) (hr:∀w∈r,Wd w):∀w∈a::r,Wd w:=fun w hw=>by
 rcases List.mem_cons.1 hw with rfl|hw
 ·exact h
 ·exact hr w hw
theorem ge {l:List UInt8} (hl:(!l.isEmpty&&!l.contains 32)=true):Wd l:=by
 simp only[Bool.and_eq_true,Bool.not_eq_true',List.isEmpty_eq_false_iff]at hl
 exact⟨hl.1,fun hm=>by rw[List.contains_iff_mem.2 hm]at hl;cases hl.2⟩
theorem jZ {L M:List (List UInt8)} (e:L=M) (h0:M≠[]) (h:∀w∈M,Wd w):L≠[]∧∀w∈L,Wd w:=by subst e;exact⟨h0,h⟩
theorem yf {p:aW} (h:iA p):bJ p≠[]∧∀w∈bJ p,Wd w:=by
 have hs:Wd _:=jY h.slot
 have hn:Wd _:=jY h.n
 have hm:Wd _:=jY h.m
 have hk:Wd _:=jY h.mask
 have hx:Wd _:=yK p.data
 have hnm:=h.name
 have hr:=tG _ _ h.keeps h.torns
 obtain⟨k1,k2⟩:=h.kind
 clear h
 obtain⟨kind,name,data,slot,n,m,mask,keeps,torns⟩:=p
 dsimp only at hs hn hm hk hx hnm hr k1 k2
 have hc:kind=1∨kind=2∨kind=3∨kind=4∨kind=5∨kind=6∨kind=7∨kind=8∨kind=9∨kind=10∨kind=11∨kind=12∨kind=13:=by omega
 rcases hc with rfl|rfl|rfl|rfl|rfl|rfl|rfl|rfl|rfl|rfl|rfl|rfl|rfl
 ·exact jZ (M:=[[112,117,116],name,gd data]) rfl (List.cons_ne_nil _ _) (cG (ge rfl) (cG (hnm (by omega)) (cG hx lm)))
 ·exact jZ (M:=[[103,101,116],name]) rfl (List.cons_ne_nil _ _) (cG (ge rfl) (cG (hnm (by omega)) lm))
 ·exact jZ (M:=[[100,101,108],name]) rfl (List.cons_ne_nil _ _) (cG (ge rfl) (cG (hnm (by omega)) lm))
 ·exact jZ (M:=[[108,105,115,116]]) rfl (List.cons_ne_nil _ _) (cG (ge rfl) lm)
 ·exact jZ (M:=[[115,116,97,116],name]) rfl (List.cons_ne_nil _ _) (cG (ge rfl) (cG (hnm (by omega)) lm))
 ·exact jZ (M:=[[97,100,100],aN slot,aN n]) rfl (List.cons_ne_nil _ _) (cG (ge rfl) (cG hs (cG hn lm)))
 ·exact jZ (M:=[[114,101,116,105,114,101],aN slot]) rfl (List.cons_ne_nil _ _) (cG (ge rfl) (cG hs lm))
 ·exact jZ (M:=[[114,101,112,108,97,99,101],aN slot,aN n]) rfl (List.cons_ne_nil _ _) (cG (ge rfl) (cG hs (cG hn lm)))
 ·exact jZ (M:=[[108,111,115,101],aN slot]) rfl (List.cons_ne_nil _ _) (cG (ge rfl) (cG hs lm))
 ·exact jZ (M:=[[115,99,114,117,98],aN n,aN m]) rfl (List.cons_ne_nil _ _) (cG (ge rfl) (cG hn (cG hm lm)))
 ·exact jZ (M:=[[115,112,111,105,108],aN slot,aN n,aN m,aN mask]) rfl (List.cons_ne_nil _ _) (cG (ge rfl) (cG hs (cG hn (cG hm (cG hk lm)))))
 ·exact jZ (M:=[[97,114,109],aN n]) rfl (List.cons_ne_nil _ _) (cG (ge rfl) (cG hn lm))
 ·exact jZ (M:=[102,97,108,108]::aN n::dG keeps torns) rfl (List.cons_ne_nil _ _) (cG (ge rfl) (cG hn hr))
theorem vV {p:aW} (h:iA p):cM (cD p)=some p:=by
 have hw:=yf h
 unfold cM cD
 rw[uL hw.1 (fun w hx=>(hw.2 w hx).2) (fun w hx=>(hw.2 w hx).1)]
 exact vU h
theorem uM (l:List UInt8):cM (l++[32])=none:=by
 have:∀(l w:List UInt8),[]∈ce 32 w (l++[32]):=by
  intro l
  induction l with
  |nil=>intro w;simp[ce]
  |cons x r ih=>intro w;rw[List.cons_append,ce];split;exact List.mem_cons_of_mem _ (ih _);exact ih _
 unfold cM ie jl
 rw[if_pos (List.any_eq_true.2 ⟨[],this l [],rfl⟩)];rfl
theorem te (l:List UInt8):cM (32::l)=none:=by
 unfold cM ie jl
 rw[ce,if_pos rfl,if_pos (List.any_eq_true.2 ⟨[],List.mem_cons_self,rfl⟩)];rfl
end Wl
namespace Go.Qw
open Go Go.Vc Go.Proofs Wl
set_option maxRecDepth 100000
theorem zX (S:ByteArray) (hS:S=⟨#[48,49,50,51,52,53,54,55,56,57,97,98,99,100,101,102]⟩) (i j:Nat) (hi:i<16) (hj:j<16) (s:ByteArray):
  dl (s++S.extract i (i+1)++S.extract j (j+1))=dl s++[gy.getD i 0,gy.getD j 0]:=by
 rw[bX,bX,jX S hS i hi,jX S hS j hj,List.append_assoc];rfl
theorem yL (S:ByteArray) (hS:S=⟨#[48,49,50,51,52,53,54,55,56,57,97,98,99,100,101,102]⟩) (i j:Nat) (hi:i<16) (hj:j<16) (s:ByteArray) (hs:s.size≤2^40):
  ((s.size+(S.extract i (i+1)).size:Nat):Int)≤IntKind.max .i64∧(((s++S.extract i (i+1)).size+(S.extract j (j+1)).size:Nat):Int)≤IntKind.max .i64:=by
 have h1:(S.extract i (i+1)).size=1:=congrArg List.length (jX S hS i hi)
 have h2:(S.extract j (j+1)).size=1:=congrArg List.length (jX S hS j hj)
 rw[ByteArray.size_append,h1,h2]
 exact⟨by show((s.size+1:Nat):Int)≤9223372036854775807;omega,by show((s.size+1+1:Nat):Int)≤9223372036854775807;omega⟩
theorem vW (b:Sl) (l:List UInt8) (h:Heap) (hb:Rd h b 1 aF l) (hl:l.length≤2^20):
  ag Tryz.prog jt #[.slice b.ptr b.len b.cap] h fun v h'=>∃t:ByteArray,v=.string t∧dl t=gd l∧h'=h:=by
 refine iE b ?_
 unfold fc
 have hlen:=hb.len
 refine ba (fun e=>?_) fun e=>?_
 ·have:l=[]:=List.length_eq_zero_iff.1 (by omega)
  exact⟨_,rfl,by unfold gd;rw[if_pos this];rfl,rfl⟩
 have hne:l≠[]:=fun h=>by subst h;simp at hlen;omega
 refine aE (fun t:ByteArray×Nat=>(t.1,(t.2:Int))) (fun t h'=>h'=h∧t.2≤l.length∧dl t.1=(l.take t.2).flatMap jA∧t.1.size≤2*t.2) (fun t=>l.length-t.2) (⟨#[]⟩,0) rfl ⟨rfl,by simp,by simp,Nat.le_refl _⟩ ?_
 rintro⟨s,i⟩ h1 ⟨rfl,hi,he,hz⟩
 dsimp only at hi he hz⊢
 refine an (fun hlt=>?_) fun hge=>?_
 ·have hi':i<l.length:=by omega
  refine hb.bk (g:=fun n:Int=>.int .u8 n) i rfl hi' ((l[i].toNat:Nat):Int) rfl ?_
  have hlt:=l[i].toNat_lt
  have u8:∀x:Int,IntKind.wrap .u8 x=x%256:=fun _=>rfl
  have hd:IntKind.wrap .u8 (Int.tdiv ((l[i].toNat:Nat):Int) 16)=((l[i].toNat/16:Nat):Int):=by
   rw[Int.tdiv_eq_ediv_of_nonneg (by omega),u8];omega
  have hm:Int.tmod ((l[i].toNat:Nat):Int) 16=((l[i].toNat%16:Nat):Int):=by rw[Int.tmod_eq_emod_of_nonneg (by omega)];rfl
  have hd1:IntKind.wrap .u8 (((l[i].toNat/16:Nat):Int)+1)=((l[i].toNat/16+1:Nat):Int):=by rw[u8];omega
  have hm1:IntKind.wrap .u8 (((l[i].toNat%16:Nat):Int)+1)=((l[i].toNat%16+1:Nat):Int):=by rw[u8];omega
  rw[hd,hm,hd1,hm1]
  simp only[Int.toNat_natCast]
  refine⟨by decide,by decide,⟨by omega,by omega,?_⟩,?_,by decide,by decide,⟨by omega,by omega,?_⟩,?_,?_⟩
  ·show((l[i].toNat/16+1:Nat):Int)≤16;omega
  ·exact(yL _ rfl (l[i].toNat/16) (l[i].toNat%16) (by omega) (by omega) s (by omega)).1
  ·show((l[i].toNat%16+1:Nat):Int)≤16;omega
  ·exact(yL _ rfl (l[i].toNat/16) (l[i].toNat%16) (by omega) (by omega) s (by omega)).2
  ·rw[Go.Vc.wrap_small _ (by omega) (by omega)]
   have ha:=zX _ rfl (l[i].toNat/16) (l[i].toNat%16) (by omega) (by omega) s
   refine⟨(_,i+1),rfl,⟨trivial,by dsimp only;omega,?_,?_⟩,by dsimp only;omega⟩
   ·refine Eq.trans ha ?_
    rw[aI _ _ hi',List.flatMap_append,he];simp[jA]
   ·have hh:=congrArg List.length ha
    rw[List.length_append]at hh
    have h4:(dl s).length=s.size:=rfl
    refine Nat.le_trans (Nat.le_of_eq hh) ?_
    show(dl s).length+2≤2*(i+1)
    omega
 ·rw[List.take_of_length_le (by omega)]at he
  exact⟨s,rfl,by unfold gd;rw[if_neg hne];exact he,rfl⟩
end Go.Qw
namespace Wl
theorem oJ (w:List UInt8):∀ws,cu (w::ws)=w++ws.flatMap (32::·)
 |[]=>by simp[cu]
 |v::r=>by rw[cu,oJ v r];simp
abbrev iZ (n:Int):Prop:=-9223372036854775808≤n∧n≤9223372036854775807
theorem wQ {n:Int} (h:iZ n):(aN n).length≤21:=by
 unfold aN
 have:=kL 19 n.natAbs (by have:=h.1;have:=h.2;omega)
 split<;>simp<;>omega
theorem wR (l:List UInt8):(gd l).length≤2*l.length+1:=by
 unfold gd
 split
 ·simp
 ·have:∀l:List UInt8,(l.flatMap jA).length=2*l.length:=by
   intro l
   induction l with
   |nil=>rfl
   |cons a r ih=>rw[List.flatMap_cons,List.length_append,ih,List.length_cons];show 2+_=_;omega
  rw[this];omega
theorem oK:∀(k t:List Int) (a b:Int),k.length=t.length→dG (k++[a]) (t++[b])=dG k t++[aN a,aN b]
 |[],[],_,_,_=>rfl
 |x::r,y::s,a,b,h=>by
  rw[List.cons_append,List.cons_append,dG,oK r s a b (by simpa using h)];rfl
 |[],_::_,_,_,h=>by simp at h
 |_::_,[],_,_,h=>by simp at h
structure kO (p:aW):Prop where
 slot:iZ p.slot
 n:iZ p.n
 m:iZ p.m
 mask:0≤p.mask∧p.mask<4294967296
 name:p.name.length≤1024
 data:p.data.length≤65536
 rows:p.keeps.length=p.torns.length∧p.keeps.length≤1024
 keeps:∀x∈p.keeps,iZ x
 torns:∀x∈p.torns,iZ x
def kP (k t:List Int):List UInt8:=(dG k t).flatMap (32::·)
theorem uN (k t:List Int) (a b:Int) (h:k.length=t.length):kP (k++[a]) (t++[b])=kP k t++32::aN a++32::aN b:=by
 unfold kP;rw[oK _ _ _ _ h];simp
end Wl
namespace Go.Qw
open Go Go.Vc Go.Proofs Wl
set_option maxRecDepth 100000
theorem kQ {h:Heap} {q:ak} {s:Sl} {l:List Int} (hs:Vc.Seq h q s 1 av l) (i:Nat) (hi:i<l.length):∃a:Addr,s.ptr=some a∧cellOf h (a.add ((i:Int).toNat*1))=some (.int .i64 l[i]):=by
 obtain⟨b,o,u1,_,u3⟩:=hs.elem i l[i] (List.getElem?_eq_getElem hi)
 refine⟨⟨b,o,none⟩,u1,?_⟩
 rw[Int.toNat_natCast,add_eq]
 have h4:=u3.1
 rw[add_eq,Nat.add_zero]at h4
 exact h4
theorem cH {n:Nat} (h:n≤2^40):(n:Int)≤IntKind.max .i64:=by show(n:Int)≤9223372036854775807;omega
theorem uO (t:ByteArray):t.size=(dl t).length:=rfl
theorem eF {t:ByteArray} {n:Int} (h:iZ n) (e:dl t=aN n):t.size≤21:=by rw[uO,e];exact wQ h
theorem oL:fy.size=4:=rfl
theorem vX:kx.size=4:=rfl
theorem vY:ky.size=4:=rfl
theorem tH:jp.size=5:=rfl
theorem oM:fz.size=4:=rfl
theorem qj:gE.size=7:=rfl
theorem hG:dn.size=8:=rfl
theorem tI:jm.size=5:=rfl
theorem kR:ei.size=6:=rfl
theorem ew:bS.size=6:=rfl
theorem vZ:kA.size=4:=rfl
theorem tJ:jn.size=5:=rfl
theorem bN:aB.size=1:=rfl
theorem uP (y:bW) (p:aW) (h:Heap) (F:kJ y p) (R:jz h y p) (z:kO p):
  ag Tryz.prog eD #[dy y] h fun v h'=>∃t:ByteArray,v=.string t∧dl t=cD p∧t.size≤2^18∧Sp h h' []:=by
 refine il y ?_
 unfold eJ
 refine(Sp.refl h).boxed fun a1 h1 H1=>?_
 have H1:Sp h h1 [aj a1 ai (aV y)]:=H1
 have b1:=H1.box 0 rfl
 have fin:∀(t:ByteArray),dl t=cD p→t.size≤2^18→∃t':ByteArray,Value.string t=.string t'∧dl t'=cD p∧t'.size≤2^18∧Sp h h1 []:=fun t e hz=>⟨t,rfl,e,hz,.zip H1.ap⟩
 have znm:y.2.1.size≤1024:=by rw[uO,F.name];exact z.name
 have zs:iZ y.2.2.2.1:=by rw[F.slot];exact z.slot
 have zn:iZ y.2.2.2.2.1:=by rw[F.n];exact z.n
 have zm:iZ y.2.2.2.2.2.1:=by rw[F.m];exact z.m
 have zk:0≤y.2.2.2.2.2.2.1∧y.2.2.2.2.2.2.1<4294967296:=by rw[F.mask];exact z.mask
 have hkk:=F.kind
 refine⟨y.1,b1.cell0 rfl,?_⟩
 refine ba (fun e=>?_) fun n1=>?_
 ·have hk:p.kind=1:=hkk.symm.trans e
  refine⟨y.2.1,b1.cell rfl,cH (by simp only[ByteArray.size_append,oL];omega),cH (by simp only[ByteArray.size_append,oL,bN];omega),y.2.2.1,b1.cell rfl,?_⟩
  refine(vW _ _ h1 (Seq.up R.data H1.ap) (by have:=z.data;omega)).mono ?_
  rintro _ h1 ⟨t1,rfl,d1,rfl⟩
  have z1:t1.size≤2*65536+1:=by rw[uO,d1];have:=wR p.data;have:=z.data;omega
  refine⟨t1,rfl,⟨b1.cell rfl,trivial⟩,cH (by simp only[ByteArray.size_append,oL,bN];omega),?_⟩
  refine fin _ ?_ (by simp only[ByteArray.size_append,oL,bN];omega)
  simp only[cD,bJ,hk,bX,d1,F.name];simp[cu];try rfl
 refine ba (fun e=>?_) fun n2=>?_
 ·have hk:p.kind=2:=hkk.symm.trans e
  refine⟨y.2.1,b1.cell rfl,cH (by simp only[ByteArray.size_append,vX];omega),?_⟩
  refine fin _ ?_ (by simp only[ByteArray.size_append,vX];omega)
  simp only[cD,bJ,hk,bX,F.name];simp[cu];try rfl
 refine ba (fun e=>?_) fun n3=>?_
 ·have hk:p.kind=3:=hkk.symm.trans e
  refine⟨y.2.1,b1.cell rfl,cH (by simp only[ByteArray.size_append,vY];omega),?_⟩
  refine fin _ ?_ (by simp only[ByteArray.size_append,vY];omega)
  simp only[cD,bJ,hk,bX,F.name];simp[cu];try rfl
 refine ba (fun e=>?_) fun n4=>?_
 ·have hk:p.kind=4:=hkk.symm.trans e
  refine fin _ ?_ (by decide)
  simp only[cD,bJ,hk];rfl
 refine ba (fun e=>?_) fun n5=>?_
 ·have hk:p.kind=5:=hkk.symm.trans e
  refine⟨y.2.1,b1.cell rfl,cH (by simp only[ByteArray.size_append,tH];omega),?_⟩
  refine fin _ ?_ (by simp only[ByteArray.size_append,tH];omega)
  simp only[cD,bJ,hk,bX,F.name];simp[cu];try rfl
 refine ba (fun e=>?_) fun n6=>?_
 ·have hk:p.kind=6:=hkk.symm.trans e
  refine⟨y.2.2.2.1,b1.cell rfl,y.2.2.2.2.1,b1.cell rfl,(cd _ zs.1 zs.2 h1).mono ?_⟩
  rintro _ h1 ⟨t1,rfl,d1,rfl⟩
  have z1:=eF zs d1
  refine⟨t1,rfl,⟨b1.cell rfl,trivial⟩,cH (by simp only[ByteArray.size_append,oM];omega),cH (by simp only[ByteArray.size_append,oM,bN];omega),(cd _ zn.1 zn.2 h1).mono ?_⟩
  rintro _ h1 ⟨t2,rfl,d2,rfl⟩
  have z2:=eF zn d2
  refine⟨t2,rfl,trivial,cH (by simp only[ByteArray.size_append,oM,bN];omega),?_⟩
  refine fin _ ?_ (by simp only[ByteArray.size_append,oM,bN];omega)
  simp only[cD,bJ,hk,bX,d1,d2,F.slot,F.n];simp[cu];try rfl
 refine ba (fun e=>?_) fun n7=>?_
 ·have hk:p.kind=7:=hkk.symm.trans e
  refine⟨y.2.2.2.1,b1.cell rfl,(cd _ zs.1 zs.2 h1).mono ?_⟩
  rintro _ h1 ⟨t1,rfl,d1,rfl⟩
  have z1:=eF zs d1
  refine⟨t1,rfl,cH (by simp only[ByteArray.size_append,qj];omega),?_⟩
  refine fin _ ?_ (by simp only[ByteArray.size_append,qj];omega)
  simp only[cD,bJ,hk,bX,d1,F.slot];simp[cu];try rfl
 refine ba (fun e=>?_) fun n8=>?_
 ·have hk:p.kind=8:=hkk.symm.trans e
  refine⟨y.2.2.2.1,b1.cell rfl,y.2.2.2.2.1,b1.cell rfl,(cd _ zs.1 zs.2 h1).mono ?_⟩
  rintro _ h1 ⟨t1,rfl,d1,rfl⟩
  have z1:=eF zs d1
  refine⟨t1,rfl,⟨b1.cell rfl,trivial⟩,cH (by simp only[ByteArray.size_append,hG];omega),cH (by simp only[ByteArray.size_append,hG,bN];omega),(cd _ zn.1 zn.2 h1).mono ?_⟩
  rintro _ h1 ⟨t2,rfl,d2,rfl⟩
  have z2:=eF zn d2
  refine⟨t2,rfl,trivial,cH (by simp only[ByteArray.size_append,hG,bN];omega),?_⟩
  refine fin _ ?_ (by simp only[ByteArray.size_append,hG,bN];omega)
  simp only[cD,bJ,hk,bX,d1,d2,F.slot,F.n];simp[cu];try rfl
 refine ba (fun e=>?_) fun n9=>?_
 ·have hk:p.kind=9:=hkk.symm.trans e
  refine⟨y.2.2.2.1,b1.cell rfl,(cd _ zs.1 zs.2 h1).mono ?_⟩
  rintro _ h1 ⟨t1,rfl,d1,rfl⟩
  have z1:=eF zs d1
  refine⟨t1,rfl,cH (by simp only[ByteArray.size_append,tI];omega),?_⟩
  refine fin _ ?_ (by simp only[ByteArray.size_append,tI];omega)
  simp only[cD,bJ,hk,bX,d1,F.slot];simp[cu];try rfl
 refine ba (fun e=>?_) fun n10=>?_
 ·have hk:p.kind=10:=hkk.symm.trans e
  refine⟨y.2.2.2.2.1,b1.cell rfl,y.2.2.2.2.2.1,b1.cell rfl,(cd _ zn.1 zn.2 h1).mono ?_⟩
  rintro _ h1 ⟨t1,rfl,d1,rfl⟩
  have z1:=eF zn d1
  refine⟨t1,rfl,⟨b1.cell rfl,trivial⟩,cH (by simp only[ByteArray.size_append,kR];omega),cH (by simp only[ByteArray.size_append,kR,bN];omega),(cd _ zm.1 zm.2 h1).mono ?_⟩
  rintro _ h1 ⟨t2,rfl,d2,rfl⟩
  have z2:=eF zm d2
  refine⟨t2,rfl,trivial,cH (by simp only[ByteArray.size_append,kR,bN];omega),?_⟩
  refine fin _ ?_ (by simp only[ByteArray.size_append,kR,bN];omega)
  simp only[cD,bJ,hk,bX,d1,d2,F.n,F.m];simp[cu];try rfl
 refine ba (fun e=>?_) fun n11=>?_
 ·have hk:p.kind=11:=hkk.symm.trans e
  refine⟨y.2.2.2.1,b1.cell rfl,y.2.2.2.2.1,b1.cell rfl,y.2.2.2.2.2.1,b1.cell rfl,y.2.2.2.2.2.2.1,b1.cell rfl,(cd _ zs.1 zs.2 h1).mono ?_⟩
  rintro _ h1 ⟨t1,rfl,d1,rfl⟩
  have z1:=eF zs d1
  refine⟨t1,rfl,⟨b1.cell rfl,b1.cell rfl,b1.cell rfl,trivial⟩,cH (by simp only[ByteArray.size_append,ew];omega),cH (by simp only[ByteArray.size_append,ew,bN];omega),(cd _ zn.1 zn.2 h1).mono ?_⟩
  rintro _ h1 ⟨t2,rfl,d2,rfl⟩
  have z2:=eF zn d2
  refine⟨t2,rfl,⟨b1.cell rfl,b1.cell rfl,trivial⟩,cH (by simp only[ByteArray.size_append,ew,bN];omega),cH (by simp only[ByteArray.size_append,ew,bN];omega),(cd _ zm.1 zm.2 h1).mono ?_⟩
  rintro _ h1 ⟨t3,rfl,d3,rfl⟩
  have z3:=eF zm d3
  have zw:IntKind.wrap .i64 y.2.2.2.2.2.2.1=y.2.2.2.2.2.2.1:=Go.Vc.wrap_small _ (by omega) (by omega)
  rw[zw]
  have zq:iZ y.2.2.2.2.2.2.1:=⟨by omega,by omega⟩
  refine⟨t3,rfl,⟨b1.cell rfl,trivial⟩,cH (by simp only[ByteArray.size_append,ew,bN];omega),cH (by simp only[ByteArray.size_append,ew,bN];omega),(cd _ zq.1 zq.2 h1).mono ?_⟩
  rintro _ h1 ⟨t4,rfl,d4,rfl⟩
  have z4:=eF zq d4
  refine⟨t4,rfl,⟨b1.cell rfl,trivial⟩,cH (by simp only[ByteArray.size_append,ew,bN];omega),?_⟩
  refine fin _ ?_ (by simp only[ByteArray.size_append,ew,bN];omega)
  simp only[cD,bJ,hk,bX,d1,d2,d3,d4,F.slot,F.n,F.m,F.mask];simp[cu];try rfl
 refine ba (fun e=>?_) fun n12=>?_
 ·have hk:p.kind=12:=hkk.symm.trans e
  refine⟨y.2.2.2.2.1,b1.cell rfl,(cd _ zn.1 zn.2 h1).mono ?_⟩
  rintro _ h1 ⟨t1,rfl,d1,rfl⟩
  have z1:=eF zn d1
  refine⟨t1,rfl,cH (by simp only[ByteArray.size_append,vZ];omega),?_⟩
  refine fin _ ?_ (by simp only[ByteArray.size_append,vZ];omega)
  simp only[cD,bJ,hk,bX,d1,F.n];simp[cu];try rfl
 have lw:cD p=[102,97,108,108]++32::aN p.n++kP p.keeps p.torns:=by
  unfold cD bJ
  rw[hkk]at n1 n2 n3 n4 n5 n6 n7 n8 n9 n10 n11 n12
  rw[if_neg n1,if_neg n2,if_neg n3,if_neg n4,if_neg n5,if_neg n6,if_neg n7,if_neg n8,if_neg n9,if_neg n10,if_neg n11,if_neg n12,oJ]
  simp[kP]
 refine⟨y.2.2.2.2.1,b1.cell rfl,(cd _ zn.1 zn.2 h1).mono ?_⟩
 rintro _ h1 ⟨t1,rfl,d1,rfl⟩
 have z1:=eF zn d1
 refine⟨t1,rfl,cH (by simp only[ByteArray.size_append,tJ];omega),?_⟩
 have hK:=Seq.up R.keeps H1.ap
 have hT:=Seq.up R.torns H1.ap
 have hKl:=hK.len
 have hTl:=hT.len
 obtain⟨r1,r2⟩:=z.rows
 refine⟨y.2.2.2.2.2.2.2.1,b1.cell rfl,?_⟩
 refine aE (fun t:ByteArray×Nat=>(t.1,(t.2:Int))) (fun t h'=>h'=h1∧t.2≤p.keeps.length∧dl t.1=[102,97,108,108]++32::aN p.n++kP (p.keeps.take t.2) (p.torns.take t.2)∧t.1.size≤26+44*t.2) (fun t=>p.keeps.length-t.2) (_,0) rfl ⟨rfl,Nat.zero_le _,?_,?_⟩ ?_
 ·simp only[bX,d1,F.n];simp[kP,dG];rfl
 ·simp only[ByteArray.size_append,tJ];omega
 rintro⟨s,i⟩ h2 ⟨rfl,hi,he,hz⟩
 dsimp only at hi he hz⊢
 refine an (fun hlt=>?_) fun hge=>?_
 ·have hi':i<p.keeps.length:=by omega
  have hj':i<p.torns.length:=by omega
  obtain⟨a,qa,ca⟩:=kQ hK i hi'
  obtain⟨b,qb,cb⟩:=kQ hT i hj'
  have ya:=z.keeps _ (List.getElem_mem hi')
  have yb:=z.torns _ (List.getElem_mem hj')
  refine⟨cH (by simp only[ByteArray.size_append,bN];omega),y.2.2.2.2.2.2.2.1,b1.cell rfl,a,⟨qa,by omega,by omega⟩,p.keeps[i],ca,y.2.2.2.2.2.2.2.2,b1.cell rfl,b,⟨qb,by omega,by omega⟩,p.torns[i],cb,(cd _ ya.1 ya.2 h2).mono ?_⟩
  rintro _ h2 ⟨t2,rfl,d2,rfl⟩
  have z2:=eF ya d2
  refine⟨t2,rfl,⟨cb,b1.cell rfl,b1.cell rfl,trivial⟩,cH (by simp only[ByteArray.size_append,bN];omega),cH (by simp only[ByteArray.size_append,bN];omega),(cd _ yb.1 yb.2 h2).mono ?_⟩
  rintro _ h2 ⟨t3,rfl,d3,rfl⟩
  have z3:=eF yb d3
  refine⟨t3,rfl,⟨b1.cell rfl,b1.cell rfl,trivial⟩,cH (by simp only[ByteArray.size_append,bN];omega),?_⟩
  rw[Go.Vc.wrap_small _ (by omega) (by omega)]
  refine⟨(_,i+1),rfl,⟨rfl,by dsimp only;omega,?_,?_⟩,by dsimp only;omega⟩
  ·dsimp only
   rw[aI _ _ hi',aI _ _ hj',uN _ _ _ _ (by simp;omega)]
   simp only[bX,d2,d3,he];simp;rfl
  ·simp only[ByteArray.size_append,bN];omega
 ·rw[List.take_of_length_le (by omega),List.take_of_length_le (by omega)]at he
  refine fin s ?_ (by omega)
  rw[he,lw]
end Go.Qw
namespace Wl
def sg (p:aW):Prop:=(∃n:Int,0≤n∧n<60∧p={kind:=12,n:=n})∨∃(n:Int) (ks ts:List Int),0≤n∧n<12∧p={kind:=13,n:=n,keeps:=ks,torns:=ts}∧ks.length=9∧ts.length=9∧(∀x∈ks,-1≤x∧x≤7)∧∀x∈ts,-1≤x∧x≤65
end Wl
namespace Go.Qw
open Go Go.Vc Go.Proofs Wl
set_option maxRecDepth 100000
theorem sh {P:Int→Prop} {l:List Int} {x:Int} (h:∀y∈l,P y) (hx:P x):∀y∈l++[x],P y:=fun y hy=>by
 rcases List.mem_append.1 hy with hy|hy
 ·exact h y hy
 ·rw[List.mem_singleton.1 hy];exact hx
theorem uQ (k a b:Int) (h:Heap):ag Tryz.prog jr #[.int .i64 k,.int .i64 a,.int .i64 b] h fun v h'=>∃(y:bW) (p:aW),v=dy y∧kJ y p∧sg p∧Sp h h' (oH y p):=by
 refine iC k a b ?_
 unfold fa
 refine(Sp.refl h).alloc af rfl fun a1 h1 H1=>?_
 have H1:Sp h h1 [aj a1 ai (aV bA)]:=H1
 refine(aH k 3 h1 (by decide) (by decide)).mono ?_
 rintro _ h2 ⟨rfl,rfl⟩
 refine⟨_,rfl,an (fun _=>?_) fun _=>?_⟩
 ·refine(aH a 60 h2 (by decide) (by decide)).mono ?_
  rintro _ h3 ⟨rfl,rfl⟩
  refine⟨_,rfl,?_⟩
  have w1:0≤a%60∧a%60<60:=by omega
  exact bo H1 rfl (12,⟨#[]⟩,aD,0,a%60,0,0,aD,aD) fun h' H'=>⟨_,{kind:=12,n:=a%60},rfl,⟨rfl,rfl,rfl,rfl,rfl,rfl⟩,.inl ⟨_,w1.1,w1.2,rfl⟩,uH H' _ _ rfl rfl rfl rfl rfl rfl⟩
 refine H1.alloc af rfl fun a5 h3 H3=>?_
 have H3:Sp h h3 [aj a1 ai (aV bA),aj a5 ai (aV bA)]:=H3
 refine H3.storeAll af 1 rfl rfl (aV (fY 0 aD aD)) rfl rfl rfl rfl fun h4 H4=>?_
 have H4:Sp h h4 [aj a1 ai (aV bA),aj a5 ai (aV (fY 0 aD aD))]:=H4
 refine dz (fun _ h'=>∃n:Int,0≤n∧n<12∧Sp h h' [aj a1 ai (aV bA),aj a5 ai (aV (fY n aD aD)),ao aA aD 1 av [],ao aA aD 1 av []]) ?_ ?_
 ·refine(aH a 5 h4 (by decide) (by decide)).mono ?_
  rintro _ h5 ⟨rfl,rfl⟩
  refine⟨_,rfl,ba (fun _=>?_) fun _=>⟨0,by omega,by omega,(H4.nil aA 1 av).nil aA 1 av⟩⟩
  refine(aH b 12 h5 (by decide) (by decide)).mono ?_
  rintro _ h6 ⟨rfl,rfl⟩
  have w1:0≤b%12∧b%12<12:=by omega
  refine⟨_,rfl,?_⟩
  exact H4.storeAt af 1 rfl rfl rfl rfl rfl (show 4<9 by decide) fun h7 H7=>⟨b%12,w1.1,w1.2,(H7.nil aA 1 av).nil aA 1 av⟩
 rintro _ h5 ⟨n,n0,n1,H5⟩
 refine aE (fun t:Sl×Sl×List Int×List Int=>((t.2.2.1.length:Nat):Int)) (fun t h'=>t.2.2.1.length≤9∧t.2.2.2.length=t.2.2.1.length∧(∀x∈t.2.2.1,-1≤x∧x≤7)∧(∀x∈t.2.2.2,-1≤x∧x≤65)∧Sp h h' [aj a1 ai (aV bA),aj a5 ai (aV (fY n t.1 t.2.1)),ao aA t.1 1 av t.2.2.1,ao aA t.2.1 1 av t.2.2.2]) (fun t=>9-t.2.2.1.length) (aD,aD,[],[]) rfl ⟨by simp,rfl,by simp,by simp,H5⟩ ?_
 rintro⟨ka,tq,ks,ts⟩ h6 ⟨hl,hlt,hk,ht,H6⟩
 dsimp only at hl hlt hk ht H6⊢
 refine an (fun e=>?_) fun e=>?_
 ·refine aM ⟨ka,(H6.box 1 rfl).cell rfl,by omega,?_⟩
  refine(aH _ 9 h6 (by decide) (by decide)).mono ?_
  rintro _ _ ⟨rfl,rfl⟩
  obtain⟨q,hq⟩:∃q,q=(Int.fdiv a (2^min ((ks.length:Nat):Int).toNat (IntKind.bits .i64)))%9:=⟨_,rfl⟩
  rw[←hq]
  have q0:0≤q∧q<9:=by omega
  refine⟨q,rfl,⟨(H6.box 1 rfl).cell rfl,trivial⟩,?_⟩
  rw[Go.Vc.wrap_small (q-1) (by omega) (by omega)]
  refine H6.lit af av dd rfl [q-1] rfl (show 1≤2^20 by decide) rfl fun v h7 H7=>⟨⟨(H7.box 1 rfl).cell rfl,trivial⟩,?_⟩
  refine H7.append af 2 rfl dd ⟨_,_,rfl,rfl⟩ rfl (by decide) (fun _=>rfl) (H7.seq 4 rfl fun _=>rfl) cU (by simp;omega) fun ka' h8 H8=>⟨trivial,?_⟩
  refine H8.storeAt af 1 rfl rfl rfl rfl rfl (show 7<9 by decide) fun h9 H9=>⟨trivial,?_⟩
  have H9:Sp h h9 [aj a1 ai (aV bA),aj a5 ai (aV (fY n ka' tq)),ao aA ka' 1 av (ks++[q-1]),ao aA tq 1 av ts]:=ab.cO H9 [0,1,2,3]
  refine⟨tq,(H9.box 1 rfl).cell rfl,by omega,?_⟩
  refine(aH _ 67 h9 (by decide) (by decide)).mono ?_
  rintro _ _ ⟨rfl,rfl⟩
  obtain⟨r,hr⟩:∃r,r=(Int.fdiv b (2^min ((ks.length:Nat):Int).toNat (IntKind.bits .i64)))%67:=⟨_,rfl⟩
  rw[←hr]
  have r0:0≤r∧r<67:=by omega
  refine⟨r,rfl,⟨(H9.box 1 rfl).cell rfl,trivial⟩,?_⟩
  rw[Go.Vc.wrap_small (r-1) (by omega) (by omega)]
  refine H9.lit af av dd rfl [r-1] rfl (show 1≤2^20 by decide) rfl fun v h10 H10=>⟨⟨(H10.box 1 rfl).cell rfl,trivial⟩,?_⟩
  refine H10.append af 3 rfl dd ⟨_,_,rfl,rfl⟩ rfl (by decide) (fun _=>rfl) (H10.seq 4 rfl fun _=>rfl) cU (by simp;omega) fun t' h11 H11=>⟨trivial,?_⟩
  refine H11.storeAt af 1 rfl rfl rfl rfl rfl (show 8<9 by decide) fun h12 H12=>⟨trivial,?_⟩
  rw[Go.Vc.wrap_small (((ks.length:Nat):Int)+1) (by omega) (by omega)]
  refine⟨(ka',t',ks++[q-1],ts++[r-1]),by simp,⟨by simp;omega,by simp;omega,sh hk ⟨by omega,by omega⟩,sh ht ⟨by omega,by omega⟩,ab.cO H12 [0,1,2,3]⟩,by simp;omega⟩
 ·refine⟨_,(H6.box 1 rfl).bg _ rfl,?_⟩
  exact bo H6 rfl (fY n ka tq) fun h' H'=>⟨_,{kind:=13,n:=n,keeps:=ks,torns:=ts},rfl,⟨rfl,rfl,rfl,rfl,rfl,rfl⟩,.inr ⟨n,ks,ts,n0,n1,rfl,by omega,by omega,hk,ht⟩,ab.cO ((ab.del H' 0).nil az 1 aF) [2,0,1]⟩
end Go.Qw
namespace Wl
def jB (b:Mv):aW:={kind:=b.kind,name:=b.name.data.toList,data:=b.data,slot:=b.slot,n:=b.n,m:=b.m,mask:=b.mask,keeps:=b.keeps,torns:=b.torns}
def xv:List (List UInt8):=qf.map fun b=>b.data.toList
theorem qk {b:ByteArray} (h:b∈qf):b.data.toList∈xv:=List.mem_map_of_mem h
theorem si:∀w∈xv,w.length≤12∧w≠[]∧(32:UInt8)∉w:=by decide+kernel
def jC (p:aW):aW:={p with mask:=p.mask%1000000000,n:=max p.n 0,m:=max p.m 0,keeps:=p.keeps.map (max · 0),torns:=p.torns.map (max · 0)}
theorem sj (l:List Int) {c:Int} (hc:c<1000000000) (h:∀x∈l,-1≤x∧x≤c):∀x∈l.map (max · 0),gz x:=fun x hx=>by
 obtain⟨y,hy,rfl⟩:=List.mem_map.1 hx
 have:=h y hy
 exact⟨by omega,by omega⟩
theorem py.line {b:Mv} (h:py (2,1,3) b) (r:mo b):kO (jB b)∧iA (jC (jB b))∧(1≤b.kind∧b.kind≤11):=by
 obtain⟨kind,name,data,slot,n,m,mask,keeps,torns⟩:=b
 unfold mo at r
 dsimp only at r
 rw[Mv.mk.injEq]at r
 obtain⟨-,e1,e2,e3,e4,e5,e6,rfl,rfl⟩:=r
 have nil8:([]:List UInt8).length≤12:=Nat.zero_le _
 have h0:iZ 0:=⟨by decide,by decide⟩
 have o0:gz 0:=⟨by decide,by decide⟩
 have key:(1≤kind∧kind≤11)∧(name.data.toList.length≤12∧((kind=1∨kind=2∨kind=3∨kind=5)→name.data.toList≠[]∧(32:UInt8)∉name.data.toList))∧data.length≤65536∧(0≤slot∧slot<9)∧(-1≤n∧n<66)∧(-1≤m∧m<69)∧0≤mask∧mask<4294967296:=by
  unfold py at h
  dsimp only at h
  rcases h with⟨rfl,hn,hd⟩|⟨hk,hn⟩|rfl|⟨rfl,hs,h1,h2⟩|⟨rfl,hs⟩|⟨rfl,hs,h1,h2⟩|⟨rfl,hs⟩|⟨rfl,h1,h2⟩|⟨rfl,hs,h1,h2,h3⟩
  ·have:=si _ (qk hn)
   rw[if_neg (by decide)]at e3 e4 e5 e6
   exact⟨by omega,⟨this.1,fun _=>this.2⟩,by omega,by omega,by omega,by omega,by omega⟩
  ·have:=si _ (qk hn)
   rw[if_neg (by omega)]at e2 e3 e4 e5 e6
   exact⟨by omega,⟨this.1,fun _=>this.2⟩,by rw[e2];exact Nat.zero_le _,by omega,by omega,by omega,by omega⟩
  all_goals rw[if_neg (by decide)]at e1 e2
  all_goals subst e1 e2
  all_goals refine⟨by omega,⟨Nat.zero_le _,fun h=>absurd h (by decide)⟩,Nat.zero_le _,?_⟩
  ·rw[if_neg (by decide)]at e3 e4 e5 e6
   omega
  ·rw[if_neg (by decide)]at e5 e6
   omega
  ·rw[if_neg (by decide)]at e4 e5 e6
   omega
  ·rw[if_neg (by decide)]at e5 e6
   omega
  ·rw[if_neg (by decide)]at e4 e5 e6
   omega
  ·rw[if_neg (by decide)]at e3 e6
   omega
  ·omega
 obtain⟨k1,⟨k2,k3⟩,k4,k5,k6,k7,k8⟩:=key
 refine⟨⟨⟨by show _≤slot;omega,by show slot≤_;omega⟩,⟨by show _≤n;omega,by show n≤_;omega⟩,⟨by show _≤m;omega,by show m≤_;omega⟩,k8,by show name.data.toList.length≤_;omega,k4,⟨rfl,Nat.zero_le _⟩,fun _ h=>absurd h List.not_mem_nil,fun _ h=>absurd h List.not_mem_nil⟩,?_,k1⟩
 refine⟨⟨by show 1≤kind;omega,by show kind≤13;omega⟩,k3,⟨by show 0≤slot;omega,by show slot<_;omega⟩,⟨by show 0≤max n 0;omega,by show max n 0<_;omega⟩,⟨by show 0≤max m 0;omega,by show max m 0<_;omega⟩,⟨by show 0≤mask%1000000000;omega,by show mask%1000000000<_;omega⟩,rfl,fun _ h=>absurd h List.not_mem_nil,fun _ h=>absurd h List.not_mem_nil,?_⟩
 unfold jC jB
 dsimp only
 rw[aW.mk.injEq]
 refine⟨rfl,?_,?_,?_,?_,?_,?_,?_,?_⟩
 ·split
  ·rfl
  ·rename_i hh;rw[if_neg hh]at e1;rw[e1]
 ·exact e2
 ·exact e3
 ·by_cases hh:kind=6∨kind=8∨kind=10∨kind=11
  ·rw[if_pos (by omega)]
  ·rw[if_neg hh]at e4;rw[if_neg (by omega),e4];rfl
 ·split
  ·rfl
  ·rename_i hh;rw[if_neg hh]at e5;rw[e5];rfl
 ·split
  ·rfl
  ·rename_i hh;rw[if_neg hh]at e6;rw[e6];rfl
 ·rw[if_neg (by omega)];rfl
 ·rw[if_neg (by omega)];rfl
theorem sg.line {p:aW} (h:sg p):kO p∧iA (jC p):=by
 have h0:iZ 0:=⟨by decide,by decide⟩
 have o0:gz 0:=⟨by decide,by decide⟩
 have nm:∀{P:Prop} {k:Int},(k=12∨k=13)→(k=1∨k=2∨k=3∨k=5)→P:=fun h1 h2=>by omega
 rcases h with⟨n,n0,n1,rfl⟩|⟨n,ks,ts,n0,n1,rfl,k9,t9,hk,ht⟩
 ·refine⟨⟨h0,⟨by show _≤n;omega,by show n≤_;omega⟩,h0,⟨by show(0:Int)≤0;decide,by show(0:Int)<4294967296;decide⟩,Nat.zero_le _,Nat.zero_le _,⟨rfl,Nat.zero_le _⟩,fun _ h=>absurd h List.not_mem_nil,fun _ h=>absurd h List.not_mem_nil⟩,?_⟩
  refine⟨⟨by show(1:Int)≤12;decide,by show(12:Int)≤13;decide⟩,nm (.inl rfl),o0,⟨by show 0≤max n 0;omega,by show max n 0<_;omega⟩,o0,o0,rfl,fun _ h=>absurd h List.not_mem_nil,fun _ h=>absurd h List.not_mem_nil,rfl⟩
 ·refine⟨⟨h0,⟨by show _≤n;omega,by show n≤_;omega⟩,h0,⟨by show(0:Int)≤0;decide,by show(0:Int)<4294967296;decide⟩,Nat.zero_le _,Nat.zero_le _,⟨by show ks.length=ts.length;omega,by show ks.length≤_;omega⟩,fun x hx=>?_,fun x hx=>?_⟩,?_⟩
  ·have:=hk x hx;exact⟨by omega,by omega⟩
  ·have:=ht x hx;exact⟨by omega,by omega⟩
  refine⟨⟨by show(1:Int)≤13;decide,by show(13:Int)≤13;decide⟩,nm (.inr rfl),o0,⟨by show 0≤max n 0;omega,by show max n 0<_;omega⟩,o0,o0,?_,sj ks (by decide) hk,sj ts (by decide) ht,rfl⟩
  show(ks.map _).length=(ts.map _).length
  rw[List.length_map,List.length_map];omega
end Wl
namespace Go.Qw
open Go Go.Vc Go.Proofs Wl
set_option maxRecDepth 100000
theorem yM {h:Heap} {x:rZ} {m:Mv} (e:xe gZ h x m):kJ x (jB m)∧jz h x (jB m):=by
 obtain⟨⟨e1,e2,e3,e4,e5,e6,_⟩,s1,s2,s3⟩:=e
 exact⟨⟨e1,by rw[e2];rfl,e3,e4,e5,e6⟩,⟨s1,s2,s3⟩⟩
end Go.Qw
