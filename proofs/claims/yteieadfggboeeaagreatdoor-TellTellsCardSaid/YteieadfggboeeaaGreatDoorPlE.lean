/- Part of the proofs that the laws of this seat answer true whatever the input reads, and leave it as it was; no condition. -/
import Derived.Test.YteieadfggboeeaaGreatDoorPlA
import Derived.Test.YteieadfggboeeaaGreatDoorPlD
import Derived.Lib.ConvBytes
set_option linter.unusedVariables false
set_option linter.unusedSimpArgs false
namespace Go.Vc
open Go
theorem ou (w:World) (e:TypeId) (s:ByteArray):aL w (Lib.bytesWorld w e s)∧ax (fun b=>b<w.heap.size) w.heap (Lib.bytesWorld w e s).heap:=by
 unfold Lib.bytesWorld World.freeze
 rw[if_neg (by decide)]
 refine⟨⟨rfl,rfl,rfl,Nat.le_succ _⟩,?_⟩
 have:∀(hp:Heap) (o:Obj) (g:Obj→Obj),ax (fun b=>b<hp.size) hp ((hp.push o).modify hp.size g):=fun hp o g=>
  ⟨by rw[Array.size_modify,Array.size_push];omega,fun b hb _=>by rw[Array.getElem?_modify,if_neg (by omega),Array.getElem?_push,if_neg (by omega)]⟩
 exact this w.heap _ _
theorem xB {P:Program} {id:FuncId} (hs:∀(s:ByteArray) (n:Int),s.size≤18→Lib.atoi s.data.toList=some n→∀(w:World),Calls P id #[.string s] w fun e w'=>e=.returned (.tuple #[.int .i64 n,.nilIface])∧∃t,w'=Lib.bytesWorld w 5 t)
  (s:ByteArray) (n:Int) (hl:s.size≤18) (ha:Lib.atoi s.data.toList=some n) (h:Heap):ae P id #[.string s] h fun v h'=>v=.tuple #[.int .i64 n,.nilIface]∧Sp h h' []:=by
 intro w hw
 refine(hs s n hl ha w).mono ?_
 rintro e w' ⟨rfl,t,rfl⟩
 obtain⟨h1,h2⟩:=ou w 5 t
 exact⟨_,rfl,h1,rfl,by rw[hw]at h2;exact .zip h2⟩
theorem pQ {P:Program} {id:FuncId} (hs:∀(s:ByteArray) (c:Int) (w:World),Calls P id #[.string s,.int .u8 c] w fun e w'=>e=.returned (.int .i64 (Lib.indexByte s.data.toList c.toNat.toUInt8))∧w'=w)
  (s:ByteArray) (c:Int) (h:Heap):ae P id #[.string s,.int .u8 c] h fun v h'=>v=.int .i64 (Lib.indexByte s.data.toList c.toNat.toUInt8)∧h'=h:=by
 intro w hw
 refine(hs s c w).mono ?_
 rintro e w' ⟨rfl,rfl⟩
 exact⟨_,rfl,aL.refl _,rfl,hw⟩
abbrev ma (b:ByteArray):List Value:=[.string b]
theorem wt {P:Program} {id:FuncId} {t:TypeId} (hs:∀(s sep:ByteArray) (m:Int) (w:World),s.size<4294967281→w.cell? ⟨0,0,none⟩=some (.int .i64 m)→1≤sep.size→Calls P id #[.string s,.string sep] w fun e w'=>
   e=.returned (.slice (some ⟨w.heap.size,0,none⟩) (Lib.countB s sep+1) (Lib.countB s sep+1))∧w'=w.alloc (.cells ((Lib.splitB sep 0 (Lib.countB s sep) s).map Value.string).toArray t))
  (s:ByteArray) (m:Int) (h:Heap) (hm:cellOf h ⟨0,0,none⟩=some (.int .i64 m)) (hl:s.size<4294967281) (c:UInt8):
  ae P id #[.string s,.string ⟨#[c]⟩] h fun v h'=>∃(r:Sl) (l:List ByteArray),v=.slice r.ptr r.len r.cap∧l.map (·.data.toList)=Wl.cP c [] s.data.toList∧Sp h h' [aw t r 1 ma l]:=by
 intro w hw
 have hw0:w.cell? ⟨0,0,none⟩=some (.int .i64 m):=by rw[mI,hw];exact hm
 refine(hs s ⟨#[c]⟩ m w hl hw0 (Nat.le_refl 1)).mono ?_
 rintro e w' ⟨rfl,rfl⟩
 have hd:(Lib.splitB ⟨#[c]⟩ 0 (Lib.countB s ⟨#[c]⟩) s).map (·.data.toList)=Wl.cP c [] s.data.toList:=by
  rw[Lib.splitB_data]
  have:Lib.countB s ⟨#[c]⟩=s.data.toList.count c:=Wl.kO c _ _ (Nat.le_refl _)
  rw[this]
  exact Wl.ot c _ _ rfl
 have hlen:(Lib.splitB ⟨#[c]⟩ 0 (Lib.countB s ⟨#[c]⟩) s).length=Lib.countB s ⟨#[c]⟩+1:=by
  have:=congrArg List.length hd
  rw[List.length_map,Wl.kN]at this
  rw[this]
  have:Lib.countB s ⟨#[c]⟩=s.data.toList.count c:=Wl.kO c _ _ (Nat.le_refl _)
  rw[this]
 refine⟨_,rfl,⟨rfl,rfl,rfl,Nat.le_refl _⟩,⟨some ⟨w.heap.size,0,none⟩,Lib.countB s ⟨#[c]⟩+1,Lib.countB s ⟨#[c]⟩+1⟩,Lib.splitB ⟨#[c]⟩ 0 (Lib.countB s ⟨#[c]⟩) s,rfl,hd,?_⟩
 rw[←hw]
 refine pf rfl ?_ rfl (ax.push _ _ _)
 have hf:∀l:List ByteArray,l.map Value.string=l.flatMap ma:=fun l=>by induction l with
  |nil=>rfl
  |cons a r ih=>rw[List.map_cons,List.flatMap_cons,ih];rfl
 refine⟨hlen.symm,.inr ⟨w.heap.size,[],rfl,?_,by simp,Nat.le_refl _⟩⟩
 rw[List.append_nil,←hf]
 exact Array.getElem?_push_size
end Go.Vc
