/- Part of the proofs that the laws of this seat answer true whatever the input reads, and leave it as it was; no condition. -/
import Derived.Test.YteieadfggboeeaaGreatDoorPlA
set_option linter.unusedVariables false
set_option linter.unusedSimpArgs false
namespace Gf
set_option maxRecDepth 100000
theorem zF {p:UInt8→Prop} (h:∀n,n<256→p (UInt8.ofNat n)) (a:UInt8):p a:=by
 have:=h a.toNat (UInt8.toNat_lt a)
 rwa [UInt8.ofNat_toNat]at this
def x2 (a:UInt8):UInt8:=(a<<<1)^^^(if a&&&0x80=0 then 0 else 0x1b)
def x3 (a:UInt8):UInt8:=x2 a^^^a
def pw:Nat→UInt8
 |0=>1
 |n+1=>x3 (pw n)
def pN:Nat→UInt8→UInt8
 |0,a=>a
 |n+1,a=>x3 (pN n a)
theorem tw (a:UInt8) (m:Nat):∀n,pN (n+m) a=pN n (pN m a)
 |0=>by simp[pN]
 |n+1=>by rw[Nat.add_right_comm];simp only[pN,tw a m n]
theorem oq:∀n,pw n=pN n 1
 |0=>rfl
 |n+1=>by rw[pw,pN,oq n]
def zG:Nat:=939374623831894136699086600277250597547650664638770418422125146541797353646788332867483593573384618611044815625336497665827114626705134492515730415652478061620339993830966980270842846318821775850471098591710629241171812800746666233448222972174585295916389942636813666312872914849454985560152530477328703759683306625234997237483834721220409437442253146756845415190424543171129629468776480674528486868811725071010351012234056630775688111116293610821126543142160426617079940511630006820862697466582575257349116925728488930366609138264019883664906661504235885380294353134295748489096855100647154935187045898006656778240
def lg (a:UInt8):Nat:=(zG>>>(8*a.toNat))%256
theorem yN:∀a:UInt8,a≠0→pw (lg a)=a:=zF (by decide+kernel)
theorem yO:∀n,n<255→lg (pw n)=n:=by decide+kernel
theorem yi:pw 255=1:=by decide+kernel
theorem yP:∀n,n<255→pw n≠0:=by decide+kernel
theorem uZ (n:Nat):pw (n+255)=pw n:=by
 rw[oq,tw,←oq 255,yi,←oq]
theorem yj (n:Nat):pw (n%255)=pw n:=by
 have:∀k m,pw (m+255*k)=pw m:=by
  intro k
  induction k with
  |zero=>intro m;rfl
  |succ k ih=>intro m;rw[Nat.mul_succ,←Nat.add_assoc,uZ,ih]
 have h:=this (n/255) (n%255)
 rw[Nat.mod_add_div]at h
 exact h.symm
def mul (a b:UInt8):UInt8:=if a=0∨b=0 then 0 else pw ((lg a+lg b)%255)
theorem mul_zero (a:UInt8):mul a 0=0:=by simp[mul]
theorem zero_mul (a:UInt8):mul 0 a=0:=by simp[mul]
theorem mul_comm (a b:UInt8):mul a b=mul b a:=by
 unfold mul
 rw[Nat.add_comm]
 by_cases h:a=0∨b=0
 ·rw[if_pos h,if_pos h.symm]
 ·rw[if_neg h,if_neg fun x=>h x.symm]
theorem va {a b:UInt8} (ha:a≠0) (hb:b≠0):mul a b≠0:=by
 rw[mul,if_neg (by simp[ha,hb])]
 exact yP _ (Nat.mod_lt _ (by decide))
theorem vb {a b:UInt8} (ha:a≠0) (hb:b≠0):lg (mul a b)=(lg a+lg b)%255:=by
 rw[mul,if_neg (by simp[ha,hb]),yO _ (Nat.mod_lt _ (by decide))]
theorem mul_assoc (a b c:UInt8):mul (mul a b) c=mul a (mul b c):=by
 by_cases ha:a=0
 ·subst ha;simp[zero_mul]
 by_cases hb:b=0
 ·subst hb;simp[zero_mul,mul_zero]
 by_cases hc:c=0
 ·subst hc;simp[mul_zero]
 rw[mul,if_neg (by simp[va ha hb,hc]),vb ha hb,mul,if_neg (by simp[ha,va hb hc]),vb hb hc]
 congr 1
 omega
theorem yk:lg 1=0:=by decide+kernel
theorem one_mul (a:UInt8):mul 1 a=a:=by
 by_cases ha:a=0
 ·subst ha;rfl
 ·rw[mul,if_neg (by simp[ha]),yk,Nat.zero_add,yj,yN a ha]
theorem mul_one (a:UInt8):mul a 1=a:=by rw[mul_comm,one_mul]
end Gf
namespace Wl
def iK (p:Int×Int×Int):Bool:=decide (p.1≥1)&&(decide (p.1≤16)&&(decide (p.2.1≥1)&&(decide (p.2.1≤4)&&(decide (p.2.2≥1)&&decide (p.2.2≤24)))))
theorem nD (p:Int×Int×Int):iK p=true↔(1≤p.1∧p.1≤16)∧(1≤p.2.1∧p.2.1≤4)∧1≤p.2.2∧p.2.2≤24:=by
 simp[iK,and_assoc]
end Wl
namespace Wl
open Go
def zQ (s:Int):Int:=IntKind.wrap .u64 (IntKind.wrap .u64 (s*(6364136223846793005:Int))+(1442695040888963407:Int))
def told (s:Int):Int:=IntKind.wrap .u32 (Int.fdiv (zQ s) (2^min (32:Int).toNat (IntKind.bits .u64)))
def fg (l:List Int):List Int:=l.mergeSort fun x y=>decide (x≤y)
theorem vd (l:List Int):(fg l).length=l.length:=List.length_mergeSort l
theorem ve (l:List Int) (x:Int):x∈fg l↔x∈l:=List.mem_mergeSort
end Wl
namespace Wl
end Wl
namespace Wl
end Wl
namespace Wl
open Go
theorem sz (b:ByteArray):∀n i r,b.size-i=n→ByteArray.toList.loop b i r=r.reverse++b.data.toList.drop i:=by
 have hs:b.data.toList.length=b.size:=rfl
 intro n
 induction n with
 |zero=>
  intro i r h
  rw[ByteArray.toList.loop,if_neg (by omega),List.drop_eq_nil_of_le (by rw[hs];omega),List.append_nil]
 |succ n ih=>
  intro i r h
  have hi:i<b.size:=by omega
  rw[ByteArray.toList.loop,if_pos hi,ih (i+1) _ (by omega)]
  have hd:b.data.toList.drop i=b.get! i::b.data.toList.drop (i+1):=by
   rw[List.drop_eq_getElem_cons (by rw[hs];exact hi)]
   congr 1
   show _=b.data[i]!
   rw[getElem!_pos b.data i hi,Array.getElem_toList]
  rw[hd,List.reverse_cons,List.append_assoc];rfl
theorem toList_eq (x:ByteArray):x.toList=x.data.toList:=by
 unfold ByteArray.toList;rw[sz x _ 0 [] rfl];rfl
theorem dE {a b:ByteArray} (h:a.toList=b.toList):a=b:=by
 rw[toList_eq,toList_eq]at h
 cases a;cases b
 congr
 exact Array.toList_inj.1 h
end Wl
