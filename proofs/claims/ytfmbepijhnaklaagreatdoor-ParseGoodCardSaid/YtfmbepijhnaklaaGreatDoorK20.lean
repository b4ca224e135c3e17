/- Proved here: ParseGood's row holds. Conditions: what each statement names. -/
import Derived.Test.YtfmbepijhnaklaaGreatDoorK19
set_option maxRecDepth 100000
set_option maxHeartbeats 4000000
set_option linter.unusedSimpArgs false
set_option linter.unusedVariables false
set_option linter.defProp false
open Nat renaming reduceEqDiff → aA, le_of_ble_eq_true → aG, mul_one → aP, zero_mul → aQ, zero_add → aR, reduceBEq → aY, reduceAdd → aZ, le_refl → bA
open List renaming length_cons → aB, length_append → aC, length_nil → aD, map_toArray → aH, map_cons → aJ, map_nil → aK, perm_iff_count → aM, count_append → aO, getElem?_eq_getElem → aS, count_cons → aT, count_nil → aV
open Go.Proofs.Tryz renaming prog → aE
open Int renaming toNat_natCast → aF, toNat_zero → aN, toNat_one → aX
open Bool renaming false_eq_true → aI, eq_iff_iff → aW
open And renaming intro → aL
open Go.IntWalk renaming i64_in → aU
namespace Go.Proofs.YtfmbepijhnaklaaGreatDoor
theorem closedF:joinedFacts Tryz.pinned.checked.prog 3 Tryz.f3 Rows.parseGoodSpec Rows.parseGoodRow=true:=by kernel_rfl
theorem instF:Tryz.f3.isInstance Tryz.pinned.checked.prog Rows.parseGoodRow.origin Rows.parseGoodRow.targs:=of_decide_eq_true (by kernel_rfl)
theorem wrapF:Tryz.f3.isWrapper Tryz.pinned.checked.prog Rows.parseGoodRow.wrapper Rows.parseGoodRow.mainSum:=by unfold Func.isWrapper;first|(rw[if_pos (by decide+kernel)];kernel_rfl)|(rw[if_neg (by decide+kernel)];exact⟨rfl,rfl⟩)
theorem namedF:Tryz.pinned.checked.prog.funcNamed Rows.parseGoodRow.func=some 3:=by kernel_rfl
end Go.Proofs.YtfmbepijhnaklaaGreatDoor
