/- Part of the proofs that the laws of this seat answer true whatever the input reads, and leave it as it was; no condition. -/
import Derived.Test.YteieadfggboeeaaGreatDoorKF
import Derived.Test.YteieadfggboeeaaGreatDoorKG
import Derived.Test.YteieadfggboeeaaGreatDoorFinA
import Derived.Test.YteieadfggboeeaaGreatDoorFJ
import Derived.Test.YteieadfggboeeaaGreatDoorFB
import Derived.Test.YteieadfggboeeaaGreatDoorPlO
import Derived.Test.YteieadfggboeeaaGreatDoorTie
import Derived.Test.YteieadfggboeeaaGreatDoorCards
import Derived.SevenTiedAt
set_option linter.unusedVariables false
set_option linter.unusedSimpArgs false
namespace Go.Proofs.YteieadfggboeeaaGreatDoor
open Go Go.Vc Go.Proofs Go.ChangeShapes Go.WideShapes Go.ChangeAt Go.RowKit Go.Qw
theorem Tryz.facts:uQ Tryz.prog 3 9 26 5 27 22 25 34:=
 ⟨by kernel_rfl,by kernel_rfl,by kernel_rfl,by kernel_rfl,by kernel_rfl,by kernel_rfl,by kernel_rfl,by kernel_rfl,by kernel_rfl,by kernel_rfl,by kernel_rfl,by kernel_rfl,by kernel_rfl,by kernel_rfl,by kernel_rfl,by kernel_rfl⟩
theorem Tryz.zP {w:World} (h:laidMetH Tryz.prog Tryz.oX w):jh w.heap:=
 xZ (g:=1) (t:=249) (e:=89) h "internal/strconv.uint64pow10" (by kernel_rfl) (by kernel_rfl) rfl (by kernel_rfl) (by kernel_rfl) (by kernel_rfl) (by kernel_rfl) (by kernel_rfl)
set_option maxRecDepth 100000 in
theorem nZ (os:Os) (started:os.Started) (H:Type) (enc:TypeId×Value→H):
  ReturnsInHanded {} Tryz.checked os 4 .any (fun w args=>(Rows.tellTellsSpec.pre enc Tryz.prog Tryz.f4 [] false w args∧laidMetH Tryz.prog Tryz.oX w)∧sizedMet enc Tryz.prog Tryz.f4 (OpenSpec.ofChange Rows.tellTellsSpec) false w args) (Rows.tellTellsSpec.post enc Tryz.prog Tryz.f4 false true false false):=by
 refine mT (C:=Tryz.checked) (X:=fun w _=>laidMetH Tryz.prog Tryz.oX w) (fun _ _ _ hh h=>h.of_heap hh) Tryz.own started (by kernel_rfl) Tryz.func4
  (ChangeSpec.witness_shaped (enc:=enc) (C:=Tryz.checked) (os:=os) (X:=fun w _=>laidMetH Tryz.prog Tryz.oX w) false (World.laidAll Tryz.prog os Tryz.oX) #[.agg #[.int .i64 0,.string ⟨#[]⟩,.slice none 0 0,.int .i64 0,.int .i64 0,.int .i64 0,.int .u32 0,.slice none 0 0,.slice none 0 0],.agg #[.int .i64 0,.slice none 0 0,.slice none 0 0,.int .i64 0,.int .i64 0,.int .i64 0,.slice none 0 0,.int .i64 0],.int .i64 0] 8 (World.laidAll_os _ _ _) (World.shaped_of_ZipB (by kernel_rfl) (by kernel_rfl)) (by kernel_rfl) (by kernel_rfl) (by kernel_rfl)
   (by rw[MakeChecks.laidMetH_plain _ _ _ (by kernel_rfl)];exact laidMet_laidAll _ (by kernel_rfl) (by kernel_rfl))) ?_
 intro W base args ds gs before hval0 hW hX hsh
 have hval:∀(j:Nat) t v,Tryz.f4.params[j]?=some t→args[j]?=some v→Value.okWide Tryz.prog W .any base t v:=hval0
 have hW':=hW
 obtain⟨p,q,hA0,hV,rfl,hfz,hnd⟩:=hW
 have hA:DataW.TrodAll enc Tryz.prog W 0 (fun _=>true) true Tryz.f4.params.toList args.toList ds p:=hA0
 rw[Tryz.params4]at hA hval
 obtain⟨v0,v1,v2,d0,d1,d2,p0,p1,p2,rfl,rfl,rfl,h0,h1,h2⟩:=trodAll_three hA
 obtain⟨rfl,rfl⟩:=trodVars_none hV
 obtain⟨y0,rfl⟩:=vY Tryz.facts (t:=29) (by kernel_rfl) (hval 0 29 v0 rfl rfl) h0
 obtain⟨z1,l1,ns1,ts1,rfl,hr1,hz1,ht1⟩:=tk Tryz.facts (t:=38) (st:=36) (by kernel_rfl) (by kernel_rfl) (by kernel_rfl) (hval 1 38 v1 rfl rfl) h1
 obtain⟨n2,rfl,rfl,rfl,_⟩:=open_int Tryz.u3 (hval 2 3 v2 rfl rfl) h2
 refine(mH y0 z1 n2 l1 ns1 ts1 W.heap hr1 hz1 ht1 (Tryz.wy.s1_3 W hsh) (Tryz.zP hX) W rfl).mono ?_
 rintro e W' ⟨v,he,hlk,rfl,hp⟩
 refine⟨_,he,wx (rt:=4) rfl hW' rfl Tryz.laidOut (ww hlk hp) ?_ (by kernel_rfl) Tryz.u4⟩
 rw[Tryz.params4]
 intro t ht
 simp at ht
 rcases ht with rfl|rfl|rfl<;>exact⟨by kernel_rfl,of_decide_eq_true (by kernel_rfl)⟩
theorem oY:Rows.TellTellsSaid:=
 OpenClaim.holds_of_wide 4 Tryz.f4 rfl rfl rfl rfl rfl rfl rfl ⟨rfl,rfl,rfl,rfl,rfl⟩ rfl rfl rfl rfl rfl (by kernel_rfl) Tryz.func4 nY
  (of_decide_eq_true (by kernel_rfl)) (by unfold Func.isWrapper;first|(rw[if_pos (by decide+kernel)];kernel_rfl)|(rw[if_neg (by decide+kernel)];exact⟨rfl,rfl⟩))
  (fun os started H enc _=>nZ os started H enc)
theorem tellTells_card:Rows.TellTellsCardSaid:=
 Claim7.holds_tied_plain_at .later [] [.data,.data,.data,.data,.sentinel,.sentinel,.pinned] true (true, "11335e635dd82e3291c7f6377017473769e128d04827692f83122272e0bcbccb") true
  oY (fun _ h=>by cases h) (by kernel_rfl) (fun _ h=>by cases h) tellTells_row_tie rfl ⟨rfl,rfl⟩ (by kernel_rfl) rfl
  (fun f fn hf hfn=>by
   obtain rfl:f=4:=Option.some.inj ((show Tryz.prog.funcNamed "wellspring/wellspringlaw34.TellTells" =some 4 by kernel_rfl).symm.trans hf)|>.symm
   obtain rfl:fn=Tryz.f4:=(Option.some.inj (Tryz.func4.symm.trans hfn)).symm
   exact⟨by kernel_rfl,fun j t ht=>by
    rw[Tryz.params4]at ht
    have hm:t∈[29,38,3]:=by simpa using Array.mem_of_getElem? ht
    have hall:([29,38,3].all fun u=>!Tryz.prog.wantsStandIn u)=true:=by kernel_rfl
    exact(show Tryz.prog.wantsStandIn t=false by simpa using List.all_eq_true.1 hall t hm)⟩)
  sv
end Go.Proofs.YteieadfggboeeaaGreatDoor
