/- Proved here: ParseGood's row. Conditions: what each statement names. -/
import Derived.Test.YtfmbepijhnaklaaGreatDoorK18
import Derived.LaidMore
import Derived.Lay
import Derived.LaidOnce
import Derived.ProofKit
import Derived.Stop.Joined
import Derived.Shelf.Vars
set_option maxRecDepth 100000
set_option maxHeartbeats 4000000
set_option linter.unusedSimpArgs false
set_option linter.unusedVariables false
set_option linter.defProp false
open Nat renaming reduceEqDiff → aA, le_of_ble_eq_true → aG, mul_one → aP, zero_mul → aQ, zero_add → aR, reduceBEq → aY, reduceAdd → aZ, le_refl → bA
open List renaming length_cons → aB, length_append → aC, length_nil → aD, map_toArray → aH, map_cons → aJ, map_nil → aK, perm_iff_count → aM, count_append → aO, getElem?_eq_getElem → aS, count_cons → aT, count_nil → aV
open Go.Proofs.Tryz renaming prog → aE
open Int renaming toNat_natCast → aF, toNat_zero → aN, toNat_one → aX
open Bool renaming false_eq_true → aI, eq_iff_iff → aW
open And renaming intro → aL
open Go.IntWalk renaming i64_in → aU
namespace Go.Proofs.YtfmbepijhnaklaaGreatDoor
section
open Go.ChangeShapes Go.WideShapes Go.ChangeAt Go.RowKit Go.ChangeMaps Go.Lib
theorem own:ownKnob aE.godebug=none:=by kernel_rfl
theorem xW{W:World}(hL:laidMet aE Rows.parseGoodRow.laid W)(hm:MaxLen W.heap)(s:ByteArray):Calls aE 3 #[.string s] W fun e W'=>e=.returned (.bool true)∧Go.RowKit.Below W.heap.size W W':=by
 have hG:=gl_of hL hm;have hF:=gf_of hL;have:=xX hG (litSpec hG hF) (Ext.refl _ _) s.data.toList W rfl;rw[show(⟨s.data.toList.toArray⟩:ByteArray)=s by cases s;rfl]at this;exact this.mono fun e W' ⟨⟨a1,a2,a3⟩,he,hE⟩=>⟨he,a1,a2,a3,hE.1,fun k hk=>hE.2 k hk (by simp)⟩
theorem wit1(os:Os):((World.laidAll aE os Rows.parseGoodRow.laid).forCall (fun _ _=>0) ⟨#[],#[.string ⟨#[]⟩],[]⟩).Shaped aE:=World.shaped_of_ZipB (by kernel_rfl) (by kernel_rfl)
theorem wit2(os:Os):Input.okWideB Tryz.checked.prog ((World.laidAll aE os Rows.parseGoodRow.laid).forCall (fun _ _=>0) ⟨#[],#[.string ⟨#[]⟩],[]⟩) 3 ⟨#[],#[.string ⟨#[]⟩],[]⟩=true:=by kernel_rfl
theorem wit3(os:Os)(H:Type)(enc:TypeId×Value→H):Rows.parseGoodSpec.preB enc Tryz.checked.prog Tryz.f3 [] false ((World.laidAll aE os Rows.parseGoodRow.laid).forCall (fun _ _=>0) ⟨#[],#[.string ⟨#[]⟩],[]⟩).memory #[.string ⟨#[]⟩] 8=true:=by kernel_rfl
theorem wit4(os:Os)(H:Type)(enc:TypeId×Value→H):Rows.parseGoodSpec.sizedB enc Tryz.checked.prog Tryz.f3 false ((World.laidAll aE os Rows.parseGoodRow.laid).forCall (fun _ _=>0) ⟨#[],#[.string ⟨#[]⟩],[]⟩).memory #[.string ⟨#[]⟩] 8=true:=by kernel_rfl
theorem wit5(os:Os):laidMetH aE Rows.parseGoodRow.laid ((World.laidAll aE os Rows.parseGoodRow.laid).forCall (fun _ _=>0) ⟨#[],#[.string ⟨#[]⟩],[]⟩).memory:=by
 rw[MakeChecks.laidMetH_plain _ _ _ (by kernel_rfl)];exact laidMet_laidAll _ (by kernel_rfl) (by kernel_rfl)
set_option maxRecDepth 100000 in
theorem lifted(os:Os)(started:os.Started)(H:Type)(enc:TypeId×Value→H):
 ReturnsInHanded {} Tryz.checked os 3 .any (fun w args=>(Rows.parseGoodSpec.pre enc aE Tryz.f3 [] false w args∧laidMetH aE Rows.parseGoodRow.laid w)∧sizedMet enc aE Tryz.f3 (OpenSpec.ofChange Rows.parseGoodSpec) false w args)
  (Rows.parseGoodSpec.post enc aE Tryz.f3 false true false false):=by
 refine returnsInHanded_of_calls (C:=Tryz.checked) own started (by kernel_rfl)
  (ChangeSpec.witness_shaped (enc:=enc) (C:=Tryz.checked) (os:=os) (X:=fun w _=>laidMetH aE Rows.parseGoodRow.laid w) false (World.laidAll aE os Rows.parseGoodRow.laid) #[.string ⟨#[]⟩] 8 (World.laidAll_os _ _ _)
   (wit1 os) (wit2 os) (wit3 os H enc) (wit4 os H enc) (wit5 os)) ?_
 intro w tape i _ hsh _ hok hpre _;obtain⟨_,_,_,fn',hfn',_,_,_,_,hval0⟩:=hok;have e:=Option.some.inj (hfn'.symm.trans Tryz.func3);subst e;obtain⟨⟨⟨ds,gs,before,hw0,_⟩,hx⟩,_⟩:=hpre;have hW:=DataW.Whole.of_heap (w':=w.forCall tape i) (by rfl) hw0;have hL:laidMetH aE Rows.parseGoodRow.laid (w.forCall tape i):=hx.of_heap (by rfl);rw[MakeChecks.laidMetH_plain _ _ _ (by kernel_rfl)]at hL
 have hm:MaxLen (w.forCall tape i).heap:=by
  obtain⟨m,e⟩:=cell_of_shapedOpen_int (P:=aE) (g:=5) (t:=3) (zero:=#[.int .i64 0]) hsh (of_decide_eq_true (by kernel_rfl)) (by kernel_rfl) rfl (by kernel_rfl) (by kernel_rfl) Tryz.underlying3;exact⟨m,by rw[←cell?_heap];exact e⟩
 have hval:∀(j:Nat) t v,Tryz.f3.params[j]? =some t→i.args[j]? =some v→Value.okWide aE (w.forCall tape i) .any w.heap.size t v:=hval0;have hW':=hW;obtain⟨p,q,hA0,hV,rfl,_,_⟩:=hW;have hA:DataW.TrodAll enc aE (w.forCall tape i) 0 (fun _=>true) true Tryz.f3.params.toList i.args.toList ds p:=hA0;rw[Tryz.params3]at hA hval;obtain⟨v0,d0,ha,rfl,h0⟩:=trodAll_one hA;rw[ha]at hval hW'⊢;obtain⟨rfl,rfl⟩:=trodVars_none hV;obtain⟨s,rfl,rfl,rfl,ws⟩:=open_string Tryz.underlying9 (hval 0 9 v0 rfl rfl) h0;simp only[List.append_nil]at hW';refine(xW hL hm s).mono fun e W' ⟨he,hb⟩=> ?_;subst he;exact ChangeSpec.post_blind ⟨_,_,_,[],[],[],hW',trodAll_mk1 (shut_bool Tryz.underlying4 _),trodAll_mk1 (shut_string Tryz.underlying9 ws),rfl,hb.frame _,fun h=>by cases h⟩
end
end Go.Proofs.YtfmbepijhnaklaaGreatDoor
