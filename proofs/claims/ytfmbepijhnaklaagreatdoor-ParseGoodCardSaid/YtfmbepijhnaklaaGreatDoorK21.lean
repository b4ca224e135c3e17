/- Proved here: ParseGood's card holds. Conditions: what each statement names. -/
import Derived.Test.YtfmbepijhnaklaaGreatDoorK20
import Derived.Test.YtfmbepijhnaklaaGreatDoorTie
import Derived.Test.YtfmbepijhnaklaaGreatDoorCards
import Derived.SevenTiedAt
set_option maxRecDepth 100000
set_option maxHeartbeats 4000000
set_option linter.unusedSimpArgs false
set_option linter.unusedVariables false
set_option linter.defProp false
open Nat renaming reduceEqDiff → aA, le_of_ble_eq_true → aG, mul_one → aP, zero_mul → aQ, zero_add → aR, reduceBEq → aY, reduceAdd → aZ, le_refl → bA
open List renaming length_cons → aB, length_append → aC, length_nil → aD, map_toArray → aH, map_cons → aJ, map_nil → aK, perm_iff_count → aM, count_append → aO, getElem?_eq_getElem → aS, count_cons → aT, count_nil → aV
open Go.Proofs.Tryz renaming prog → aE
open Int renaming toNat_natCast → aF, toNat_zero → aN, toNat_one → aX
open Bool renaming false_eq_true → aI, eq_iff_iff → aW
open And renaming intro → aL
open Go.IntWalk renaming i64_in → aU
namespace Go.Proofs.YtfmbepijhnaklaaGreatDoor
theorem parseGood_holds:Rows.ParseGoodSaid:=
 OpenClaim.holds_of_wide 3 Tryz.f3 rfl rfl rfl rfl rfl rfl rfl ⟨rfl,rfl,rfl,rfl,rfl⟩ rfl rfl rfl rfl rfl namedF Tryz.func3 closedF instF wrapF (fun os started H enc _=>lifted os started H enc)
theorem cardW:Rows.parseGoodRow.wfByText (OpenSpec.ofChange Rows.parseGoodSpec)=true:=by kernel_rfl
theorem cardM:Tryz.pinned.checked.prog.mainIs=some (true,"aedd09438281dddfa0f2487adcfc2321c1bcd0982f03d303e2d9ed3196d73c9c".toList):=by kernel_rfl
theorem cardL:true=Tryz.pinned.checked.prog.looks []:=by kernel_rfl
theorem cardG:false=Rows.parseGoodRow.goesBy Tryz.pinned.checked.prog:=by kernel_rfl
theorem parseGoodCard_holds:Rows.ParseGoodCardSaid:=
 Claim7.holds_tied_plain_at .later [] [.data,.data,.widerDeep,.widerDeep,.data,.data,.data,.data,.data,.data,.sentinel,.sentinel,.listed,.data,.pinned,.pinned,.pinned] true (true,"aedd09438281dddfa0f2487adcfc2321c1bcd0982f03d303e2d9ed3196d73c9c") true
  parseGood_holds (fun _ h=>by cases h) cardW (fun _ h=>by cases h) parseGood_row_tie rfl ⟨rfl,rfl⟩ cardM rfl
  (fun f fn hf hfn=>by
   obtain rfl:f=3:=Option.some.inj (namedF.symm.trans hf)|>.symm;obtain rfl:fn=Tryz.f3:=(Option.some.inj (Tryz.func3.symm.trans hfn)).symm
   exact⟨cardL,fun j t ht=>by
    rw[Tryz.params3]at ht;have hm:t∈[9]:=by simpa using Array.mem_of_getElem? ht
    have hall:([9].all fun u=> !Tryz.pinned.checked.prog.wantsStandIn u)=true:=by kernel_rfl
    exact(show Tryz.pinned.checked.prog.wantsStandIn t=false by simpa using List.all_eq_true.1 hall t hm)⟩)
  cardG
end Go.Proofs.YtfmbepijhnaklaaGreatDoor
