/- Proved here: The parser's functions that call each other, first part | The parser's functions that call each other, second part | The parser's functions that call each other, third part | Slices of strings asked for one | The parser's functions that call each other, fourth part | The parser's functions that call each other, fifth part | The parser's functions that call each other, sixth part | The parser's functions that call each other, seventh part. Conditions: what each statement names. -/
import Derived.Test.YtfmbepijhnaklaaGreatDoorK04
set_option maxRecDepth 100000
set_option maxHeartbeats 4000000
set_option linter.unusedSimpArgs false
set_option linter.unusedVariables false
set_option linter.defProp false
open Nat renaming reduceEqDiff → aA, le_of_ble_eq_true → aG, mul_one → aP, zero_mul → aQ, zero_add → aR, reduceBEq → aY, reduceAdd → aZ, le_refl → bA
open List renaming length_cons → aB, length_append → aC, length_nil → aD, map_toArray → aH, map_cons → aJ, map_nil → aK, perm_iff_count → aM, count_append → aO, getElem?_eq_getElem → aS, count_cons → aT, count_nil → aV
open Go.Proofs.Tryz renaming prog → aE
open Int renaming toNat_natCast → aF, toNat_zero → aN, toNat_one → aX
open Bool renaming false_eq_true → aI, eq_iff_iff → aW
open And renaming intro → aL
open Go.IntWalk renaming i64_in → aU
namespace Go.Proofs.YtfmbepijhnaklaaGreatDoor
section
section
variable{c:PC}{h:Heap}{L:Nat}{U:List Nat}{s:St}{n:Nat}{r:Res Nat}
theorem cE{α:Type}{T:List Tk}{f:Unit→M α}{s:St}{r:Res α}(hr:(dS T>>=f) s=r)(hne:r≠ .out):s.i+1<T.length∧f () {s with i:=s.i+1}=r:=by
 by_cases h:s.i+1<T.length
 ·exact⟨h,by rw[←hr,eX (a:=()) (s':={s with i:=s.i+1}) (by simp[dS,h])]⟩
 ·exact absurd (by rw[←hr,eK (by simp[dS,h])]) hne
theorem dV{h:Heap}{c:PC}{L:Nat}{U:List Nat}{s:St}(hp:PS h c L U s):IntKind.i64.wrap ((s.i:Int)+1)=((s.i+1:Nat):Int):=by
 have h1:=hp.lt;have h2:=hp.big;rw[aU _ (by omega)];simp
theorem memberF_c(hB:Below c.T n)(hp:PS h c L U s)(hr:(run c.T n).e (.member) s=r)(hne:r≠ .out):
 C aE 199 #[.pointer (some ⟨c.p,0,none⟩)] h (POut c h L U r vint):=by
 cases n with
 |zero=>exact absurd hr.symm hne
 |succ n=>
 obtain⟨hr,_⟩:=dP hr hne;simp only[dJ,nT]at hr;have hq:Par c h L U h L U:=Par.refl _ _ _ _;refine C_in Tryz.func199 rfl rfl (by kernel_rfl) (aG rfl) ?_;simp only[↓zp,zv,↓reduceIte,aA];refine bO hp hq (is_c hp [110,101,119]) fun h hp hd hq hE=> ?_;cases hx:isT c.T s [110,101,119]
 ·simp only[hx,aI,if_false]at hr;simp only[↓zp,zv,↓reduceIte,aA,hx];refine bF hq hr hne (fun r1 g1 g2=>(hB n (by omega)).1 c _ _ _ _ (.primary) 214 _ r1 rfl rfl hp g1 g2) rfl fun k s h L U _ hr hp hd hq=> ?_;simp only[↓zp,zv,↓reduceIte,aA];refine dO hq hr hne (fun r1 g1 g2=>(hB n (by omega)).1 c _ _ _ _ (.tail k true) 212 _ r1 rfl rfl hp g1 g2) rfl fun a s h _ hR=> ?_;simp only[↓zp,zv,↓reduceIte,aA];exact hR
 ·simp only[hx,if_true]at hr;simp only[↓zp,zv,↓reduceIte,aA,hx];refine bF hq hr hne (fun r1 g1 g2=>(hB n (by omega)).1 c _ _ _ _ (.maker) 213 _ r1 rfl rfl hp g1 g2) rfl fun k s h L U _ hr hp hd hq=> ?_;simp only[↓zp,zv,↓reduceIte,aA];refine dO hq hr hne (fun r1 g1 g2=>(hB n (by omega)).1 c _ _ _ _ (.tail k true) 212 _ r1 rfl rfl hp g1 g2) rfl fun a s h _ hR=> ?_;simp only[↓zp,zv,↓reduceIte,aA];exact hR
theorem yV(hB:Below c.T n)(hp:PS h c L U s)(hr:(run c.T n).e (.argument) s=r)(hne:r≠ .out):
 C aE 249 #[.pointer (some ⟨c.p,0,none⟩)] h (POut c h L U r vint):=by
 cases n with
 |zero=>exact absurd hr.symm hne
 |succ n=>
 obtain⟨hr,_⟩:=dP hr hne;simp only[dJ,kL]at hr;have hq:Par c h L U h L U:=Par.refl _ _ _ _;refine C_in Tryz.func249 rfl rfl (by kernel_rfl) (aG rfl) ?_;simp only[↓zp,zv,↓reduceIte,aA];refine bO hp hq (eC hp) fun h hp hd hq hE=> ?_;simp only[↓zp,zv,↓reduceIte,aA];refine bF hq hr hne (fun _=>eE hp [46,46,46]) rfl fun b s h L U _ hr hp hd hq=> ?_
 cases b with
 |false=>
  simp only[aI,if_false]at hr;simp only[↓zp,zv,↓reduceIte,aA];refine dO hq hr hne (fun r1 g1 g2=>(hB n (by omega)).1 c _ _ _ _ (.assignment true) 70 _ r1 rfl rfl hp g1 g2) rfl fun a s h _ hR=> ?_;simp only[↓zp,zv,↓reduceIte,aA]
  exact hR
 |true=>
  simp only[if_true]at hr;simp only[↓zp,zv,↓reduceIte,aA];refine bF hq hr hne (fun r1 g1 g2=>(hB n (by omega)).1 c _ _ _ _ (.assignment true) 70 _ r1 rfl rfl hp g1 g2) rfl fun a s h L U _ hr hp hd hq=> ?_;simp only[↓zp,zv,↓reduceIte,aA];refine bJ (vals:=[a]) hp hq rfl rfl (by omega) (by omega) fun v h hk hp hd hq hbv hE=> ?_;simp only[↓zp,zv,↓reduceIte,aA];refine bP hq hk.2 hr hne (fun _=>bT hp 29 _ _ _ hk.1) rfl fun a s h _ hR=> ?_;simp only[↓zp,zv,↓reduceIte,aA];exact hR
theorem parensF_c(hB:Below c.T n)(hp:PS h c L U s)(hr:(run c.T n).e (.parens) s=r)(hne:r≠ .out):
 C aE 156 #[.pointer (some ⟨c.p,0,none⟩)] h (POut c h L U r vint):=by
 cases n with
 |zero=>exact absurd hr.symm hne
 |succ n=>
 obtain⟨hr,_⟩:=dP hr hne;simp only[dJ,nR]at hr;have hq:Par c h L U h L U:=Par.refl _ _ _ _;refine C_in Tryz.func156 rfl rfl (by kernel_rfl) (aG rfl) ?_;simp only[↓zp,zv,↓reduceIte,aA];refine bF hq hr hne (fun _=>cR hp [40]) rfl fun w s h L U _ hr hp hd hq=> ?_;simp only[↓zp,zv,↓reduceIte,aA];refine bF hq hr hne (fun r1 g1 g2=>(hB n (by omega)).1 c _ _ _ _ (.expression true) 42 _ r1 rfl rfl hp g1 g2) rfl fun e s h L U _ hr hp hd hq=> ?_;simp only[↓zp,zv,↓reduceIte,aA];refine bF hq hr hne (fun _=>cR hp [41]) rfl fun w s h L U _ hr hp hd hq=> ?_;simp only[↓zp,zv,↓reduceIte,aA];subst hr;exact⟨rfl,L,U,hp,hq⟩
theorem blockF_c(hB:Below c.T n)(hp:PS h c L U s)(hr:(run c.T n).e (.block) s=r)(hne:r≠ .out):
 C aE 101 #[.pointer (some ⟨c.p,0,none⟩)] h (POut c h L U r vint):=by
 cases n with
 |zero=>exact absurd hr.symm hne
 |succ n=>
 obtain⟨hr,_⟩:=dP hr hne;simp only[dJ,pY]at hr;have hq:Par c h L U h L U:=Par.refl _ _ _ _;refine C_in Tryz.func101 rfl rfl (by kernel_rfl) (aG rfl) ?_;simp only[↓zp,zv,↓reduceIte,aA];refine bF hq hr hne (fun _=>cR hp [123]) rfl fun pos s h L U _ hr hp hd hq=> ?_;simp only[↓zp,zv,↓reduceIte,aA];refine CT_stepK hq hr hne (fun r1 g1 g2=>((hB n (by omega)).2 c _ _ _ _ r1 rfl hp g2).1 g1) rfl fun v kids s h L U _ hr hp hd hq hk=> ?_;simp only[↓zp,zv,↓reduceIte,aA];refine bF hq hr hne (fun _=>cR hp [125]) rfl fun w s h L U _ hr hp hd hq=> ?_;have hk:=hk.par hd;simp only[↓zp,zv,↓reduceIte,aA];refine bP hq hk.2 hr hne (fun _=>bT hp 32 pos _ _ hk.1) rfl fun a s h _ hR=> ?_;simp only[↓zp,zv,↓reduceIte,aA];exact hR
theorem letF_c(hB:Below c.T n)(hp:PS h c L U s)(pos:Nat)(hr:(run c.T n).e (.lett) s=r)(hne:r≠ .out):
 C aE 126 #[.pointer (some ⟨c.p,0,none⟩),.int .i64 (pos:Int)] h (POut c h L U r vint):=by
 cases n with
 |zero=>exact absurd hr.symm hne
 |succ n=>
 obtain⟨hr,_⟩:=dP hr hne;simp only[dJ,s_let]at hr;have hq:Par c h L U h L U:=Par.refl _ _ _ _;refine C_in Tryz.func126 rfl rfl (by kernel_rfl) (aG rfl) ?_;simp only[↓zp,zv,↓reduceIte,aA];refine bF hq hr hne (fun r1 g1 g2=>(hB n (by omega)).1 c _ _ _ _ (.declaration true) 155 _ r1 rfl rfl hp g1 g2) rfl fun k s h L U _ hr hp hd hq=> ?_;simp only[↓zp,zv,↓reduceIte,aA];refine bF hq hr hne (fun _=>iP hp) rfl fun u s h L U _ hr hp hd hq=> ?_;simp only[↓zp,zv,↓reduceIte,aA];subst hr;exact⟨rfl,L,U,hp,hq⟩
theorem yJ(hB:Below c.T n)(hp:PS h c L U s)(pos:Nat)(hr:(run c.T n).e (.function pos) s=r)(hne:r≠ .out):
 C aE 127 #[.pointer (some ⟨c.p,0,none⟩),.int .i64 (pos:Int)] h (POut c h L U r vint):=by
 cases n with
 |zero=>exact absurd hr.symm hne
 |succ n=>
 obtain⟨hr,_⟩:=dP hr hne;simp only[dJ,kI]at hr;have hq:Par c h L U h L U:=Par.refl _ _ _ _;refine C_in Tryz.func127 rfl rfl (by kernel_rfl) (aG rfl) ?_;simp only[↓zp,zv,↓reduceIte,aA];obtain⟨hlt,hr⟩:=cE hr hne;obtain⟨vl,hbp⟩:=hp.p;have hpl:=hbp.lt;have w1:=dV hp;simp only[↓zp,zv,↓reduceIte,aA,bE hbp,hpl,w1];refine cX hp hq hlt fun h hp hd hq=> ?_;simp only[↓zp,zv,↓reduceIte,aA];refine bF hq hr hne (fun _=>kP hp) rfl fun x s h L U _ hr hp hd hq=> ?_;simp only[↓zp,zv,↓reduceIte,aA];refine bF hq hr hne (fun r1 g1 g2=>(hB n (by omega)).1 c _ _ _ _ (.parameters) 97 _ r1 rfl rfl hp g1 g2) rfl fun ps s h L U _ hr hp hd hq=> ?_;simp only[↓zp,zv,↓reduceIte,aA];refine bF hq hr hne (fun r1 g1 g2=>(hB n (by omega)).1 c _ _ _ _ (.block) 101 _ r1 rfl rfl hp g1 g2) rfl fun b s h L U _ hr hp hd hq=> ?_;simp only[↓zp,zv,↓reduceIte,aA];refine bJ (vals:=[ps,b]) hp hq rfl rfl (by omega) (by omega) fun v h hk hp hd hq hbv hE=> ?_;simp only[↓zp,zv,↓reduceIte,aA];refine bP hq hk.2 hr hne (fun _=>cO hp 53 x pos _ _ hk.1) rfl fun a s h _ hR=> ?_;simp only[↓zp,zv,↓reduceIte,aA];exact hR
theorem whileF_c(hB:Below c.T n)(hp:PS h c L U s)(pos:Nat)(hr:(run c.T n).e (.whil pos) s=r)(hne:r≠ .out):
 C aE 129 #[.pointer (some ⟨c.p,0,none⟩),.int .i64 (pos:Int)] h (POut c h L U r vint):=by
 cases n with
 |zero=>exact absurd hr.symm hne
 |succ n=>
 obtain⟨hr,_⟩:=dP hr hne;simp only[dJ,pS]at hr;have hq:Par c h L U h L U:=Par.refl _ _ _ _;refine C_in Tryz.func129 rfl rfl (by kernel_rfl) (aG rfl) ?_;simp only[↓zp,zv,↓reduceIte,aA];obtain⟨hlt,hr⟩:=cE hr hne;obtain⟨vl,hbp⟩:=hp.p;have hpl:=hbp.lt;have w1:=dV hp;simp only[↓zp,zv,↓reduceIte,aA,bE hbp,hpl,w1];refine cX hp hq hlt fun h hp hd hq=> ?_;simp only[↓zp,zv,↓reduceIte,aA];refine bF hq hr hne (fun r1 g1 g2=>(hB n (by omega)).1 c _ _ _ _ (.parens) 156 _ r1 rfl rfl hp g1 g2) rfl fun e s h L U _ hr hp hd hq=> ?_;simp only[↓zp,zv,↓reduceIte,aA];refine bF hq hr hne (fun r1 g1 g2=>(hB n (by omega)).1 c _ _ _ _ (.body) 105 _ r1 rfl rfl hp g1 g2) rfl fun b s h L U _ hr hp hd hq=> ?_;simp only[↓zp,zv,↓reduceIte,aA];refine bJ (vals:=[e,b]) hp hq rfl rfl (by omega) (by omega) fun v h hk hp hd hq hbv hE=> ?_;simp only[↓zp,zv,↓reduceIte,aA];refine bP hq hk.2 hr hne (fun _=>bT hp 42 pos _ _ hk.1) rfl fun a s h _ hR=> ?_;simp only[↓zp,zv,↓reduceIte,aA];exact hR
theorem doF_c(hB:Below c.T n)(hp:PS h c L U s)(pos:Nat)(hr:(run c.T n).e (.doo pos) s=r)(hne:r≠ .out):
 C aE 130 #[.pointer (some ⟨c.p,0,none⟩),.int .i64 (pos:Int)] h (POut c h L U r vint):=by
 cases n with
 |zero=>exact absurd hr.symm hne
 |succ n=>
 obtain⟨hr,_⟩:=dP hr hne;simp only[dJ,s_do]at hr;have hq:Par c h L U h L U:=Par.refl _ _ _ _;refine C_in Tryz.func130 rfl rfl (by kernel_rfl) (aG rfl) ?_;simp only[↓zp,zv,↓reduceIte,aA];obtain⟨hlt,hr⟩:=cE hr hne;obtain⟨vl,hbp⟩:=hp.p;have hpl:=hbp.lt;have w1:=dV hp;simp only[↓zp,zv,↓reduceIte,aA,bE hbp,hpl,w1];refine cX hp hq hlt fun h hp hd hq=> ?_;simp only[↓zp,zv,↓reduceIte,aA];refine bF hq hr hne (fun r1 g1 g2=>(hB n (by omega)).1 c _ _ _ _ (.body) 105 _ r1 rfl rfl hp g1 g2) rfl fun b s h L U _ hr hp hd hq=> ?_;simp only[↓zp,zv,↓reduceIte,aA];refine bF hq hr hne (fun _=>cR hp [119,104,105,108,101]) rfl fun w s h L U _ hr hp hd hq=> ?_;simp only[↓zp,zv,↓reduceIte,aA];refine bF hq hr hne (fun r1 g1 g2=>(hB n (by omega)).1 c _ _ _ _ (.parens) 156 _ r1 rfl rfl hp g1 g2) rfl fun e s h L U _ hr hp hd hq=> ?_;simp only[↓zp,zv,↓reduceIte,aA];refine bF hq hr hne (fun _=>eE hp [59]) rfl fun u s h L U _ hr hp hd hq=> ?_;simp only[↓zp,zv,↓reduceIte,aA];refine bJ (vals:=[b,e]) hp hq rfl rfl (by omega) (by omega) fun v h hk hp hd hq hbv hE=> ?_;simp only[↓zp,zv,↓reduceIte,aA];refine bP hq hk.2 hr hne (fun _=>bT hp 43 pos _ _ hk.1) rfl fun a s h _ hR=> ?_;simp only[↓zp,zv,↓reduceIte,aA];exact hR
theorem throwF_c(hB:Below c.T n)(hp:PS h c L U s)(pos:Nat)(hr:(run c.T n).e (.throw pos) s=r)(hne:r≠ .out):
 C aE 134 #[.pointer (some ⟨c.p,0,none⟩),.int .i64 (pos:Int)] h (POut c h L U r vint):=by
 cases n with
 |zero=>exact absurd hr.symm hne
 |succ n=>
 obtain⟨hr,_⟩:=dP hr hne;simp only[dJ,pU]at hr;have hq:Par c h L U h L U:=Par.refl _ _ _ _;refine C_in Tryz.func134 rfl rfl (by kernel_rfl) (aG rfl) ?_;simp only[↓zp,zv,↓reduceIte,aA];obtain⟨hlt,hr⟩:=cE hr hne;obtain⟨vl,hbp⟩:=hp.p;have hpl:=hbp.lt;have w1:=dV hp;simp only[↓zp,zv,↓reduceIte,aA,bE hbp,hpl,w1];refine cX hp hq hlt fun h hp hd hq=> ?_;simp only[↓zp,zv,↓reduceIte,aA];refine bO hp hq (eC hp) fun h hp hd hq hE=> ?_;cases hx:(nowT c.T {s with i:=s.i+1}).line
 ·simp only[hx,aI,if_false]at hr;simp only[↓zp,zv,↓reduceIte,aA,hx];refine bF hq hr hne (fun r1 g1 g2=>(hB n (by omega)).1 c _ _ _ _ (.expression true) 42 _ r1 rfl rfl hp g1 g2) rfl fun e s h L U _ hr hp hd hq=> ?_;simp only[↓zp,zv,↓reduceIte,aA];refine bF hq hr hne (fun _=>iP hp) rfl fun u s h L U _ hr hp hd hq=> ?_;simp only[↓zp,zv,↓reduceIte,aA];refine bJ (vals:=[e]) hp hq rfl rfl (by omega) (by omega) fun v h hk hp hd hq hbv hE=> ?_;simp only[↓zp,zv,↓reduceIte,aA];refine bP hq hk.2 hr hne (fun _=>bT hp 47 pos _ _ hk.1) rfl fun a s h _ hR=> ?_;simp only[↓zp,zv,↓reduceIte,aA];exact hR
 ·simp only[hx,if_true]at hr;simp only[↓zp,zv,↓reduceIte,aA,hx];exact gF hp hq hr rfl
theorem branchF_c(hB:Below c.T n)(hp:PS h c L U s)(pos:Nat)(hr:(run c.T n).e (.branch pos) s=r)(hne:r≠ .out):
 C aE 128 #[.pointer (some ⟨c.p,0,none⟩),.int .i64 (pos:Int)] h (POut c h L U r vint):=by
 cases n with
 |zero=>exact absurd hr.symm hne
 |succ n=>
 obtain⟨hr,_⟩:=dP hr hne;simp only[dJ,nW]at hr;have hq:Par c h L U h L U:=Par.refl _ _ _ _;refine C_in Tryz.func128 rfl rfl (by kernel_rfl) (aG rfl) ?_;simp only[↓zp,zv,↓reduceIte,aA];obtain⟨hlt,hr⟩:=cE hr hne;obtain⟨vl,hbp⟩:=hp.p;have hpl:=hbp.lt;have w1:=dV hp;simp only[↓zp,zv,↓reduceIte,aA,bE hbp,hpl,w1];refine cX hp hq hlt fun h hp hd hq=> ?_;simp only[↓zp,zv,↓reduceIte,aA];refine bF hq hr hne (fun r1 g1 g2=>(hB n (by omega)).1 c _ _ _ _ (.parens) 156 _ r1 rfl rfl hp g1 g2) rfl fun e s h L U _ hr hp hd hq=> ?_;simp only[↓zp,zv,↓reduceIte,aA];refine bF hq hr hne (fun r1 g1 g2=>(hB n (by omega)).1 c _ _ _ _ (.body) 105 _ r1 rfl rfl hp g1 g2) rfl fun b s h L U _ hr hp hd hq=> ?_;simp only[↓zp,zv,↓reduceIte,aA];refine bJ (vals:=[e,b]) hp hq rfl rfl (by omega) (by omega) fun v h hk hp hd hq hbv hE=> ?_;simp only[↓zp,zv,↓reduceIte,aA];refine bF hq hr hne (fun _=>eE hp [101,108,115,101]) rfl fun u s h L U _ hr hp hd hq=> ?_;have hk:=hk.par hd
 cases u with
 |false=>
  simp only[aI,if_false]at hr;simp only[↓zp,zv,↓reduceIte,aA];refine bP hq hk.2 hr hne (fun _=>bT hp 38 pos _ _ hk.1) rfl fun a s h _ hR=> ?_;simp only[↓zp,zv,↓reduceIte,aA]
  exact hR
 |true=>
  simp only[if_true]at hr;simp only[↓zp,zv,↓reduceIte,aA];refine bF hq hr hne (fun r1 g1 g2=>(hB n (by omega)).1 c _ _ _ _ (.body) 105 _ r1 rfl rfl hp g1 g2) rfl fun b3 s h L U _ hr hp hd hq=> ?_;have hk2:=hk.par hd;simp only[↓zp,zv,↓reduceIte,aA];refine bJ (vals:=[b3]) hp hq rfl rfl (by omega) (by omega) fun v h hk hp hd hq hbv hE=> ?_;have hk2:=hk2.par hd;simp only[↓zp,zv,↓reduceIte,aA];refine cZ hp hq hk2 hk.1.1 (by simp) fun v h hk hp hq hE hc=> ?_;simp only[↓zp,zv,↓reduceIte,aA];refine bP hq hk.2 hr hne (fun _=>bT hp 38 pos _ _ hk.1) rfl fun a s h _ hR=> ?_;simp only[↓zp,zv,↓reduceIte,aA];exact hR
theorem sW(hB:Below c.T n)(hp:PS h c L U s)(inn:Bool)(hr:(run c.T n).e (.conditional inn) s=r)(hne:r≠ .out):
 C aE 102 #[.pointer (some ⟨c.p,0,none⟩),.bool inn] h (POut c h L U r vint):=by
 cases n with
 |zero=>exact absurd hr.symm hne
 |succ n=>
 obtain⟨hr,_⟩:=dP hr hne;simp only[dJ,iC]at hr;have hq:Par c h L U h L U:=Par.refl _ _ _ _;refine C_in Tryz.func102 rfl rfl (by kernel_rfl) (aG rfl) ?_;simp only[↓zp,zv,↓reduceIte,aA];refine bF hq hr hne (fun r1 g1 g2=>(hB n (by omega)).1 c _ _ _ _ (.binary 1 inn) 125 _ r1 rfl rfl hp g1 g2) rfl fun e s h L U _ hr hp hd hq=> ?_;simp only[↓zp,zv,↓reduceIte,aA];refine bF hq hr hne (fun _=>eE hp [63]) rfl fun b s h L U _ hr hp hd hq=> ?_
 cases b with
 |false=>
  simp only[↓zp,zv,↓reduceIte,aA];simp only[aI,if_false]at hr;subst hr
  exact⟨rfl,L,U,hp,hq⟩
 |true=>
  simp only[if_true]at hr;simp only[↓zp,zv,↓reduceIte,aA];refine bF hq hr hne (fun r1 g1 g2=>(hB n (by omega)).1 c _ _ _ _ (.assignment true) 70 _ r1 rfl rfl hp g1 g2) rfl fun a s h L U _ hr hp hd hq=> ?_;simp only[↓zp,zv,↓reduceIte,aA];refine bF hq hr hne (fun _=>cR hp [58]) rfl fun w s h L U _ hr hp hd hq=> ?_;simp only[↓zp,zv,↓reduceIte,aA];refine bF hq hr hne (fun _=>at_c hp e) rfl fun pe s h L U _ hr hp hd hq=> ?_;simp only[↓zp,zv,↓reduceIte,aA];refine bF hq hr hne (fun r1 g1 g2=>(hB n (by omega)).1 c _ _ _ _ (.assignment inn) 70 _ r1 rfl rfl hp g1 g2) rfl fun b s h L U _ hr hp hd hq=> ?_;simp only[↓zp,zv,↓reduceIte,aA];refine bJ (vals:=[e,a,b]) hp hq rfl rfl (by omega) (by omega) fun v h hk hp hd hq hbv hE=> ?_;simp only[↓zp,zv,↓reduceIte,aA];refine bP hq hk.2 hr hne (fun _=>bT hp 25 pe _ _ hk.1) rfl fun a s h _ hR=> ?_;simp only[↓zp,zv,↓reduceIte,aA];exact hR
end
end
section
theorem oJ{α β:Type}{m m':M α}{f:α→M β}{s:St}(h:m s=m' s):(m>>=f) s=(m'>>=f) s:=by
 show M.bind m f s=M.bind m' f s;simp only[M.bind,h]
section
variable{α β:Type}{p:St→Prop}[DecidablePred p]{m1 m2:M α}{f:α→M β}{s:St}{a:α}
theorem dF:((fun s=>if p s then m1 s else m2 s)>>=f) s=if p s then(m1>>=f) s else(m2>>=f) s:=by
 by_cases h:p s
 ·rw[if_pos h];exact oJ (if_pos h)
 ·rw[if_neg h];exact oJ (if_neg h)
theorem eT:((fun s=>Res.ok a s)>>=f) s=f a s:=rfl
theorem dM:((fun s=>m1 s)>>=f) s=(m1>>=f) s:=rfl
theorem dR{γ:Type}{m:M γ}{g:γ→M α}:((m>>=g)>>=f) s=(m>>=fun a=>g a>>=f) s:=by
 show M.bind (M.bind m g) f s=M.bind m (fun a=>M.bind (g a) f) s;simp only[M.bind];cases m s<;>rfl
theorem eP:((pure a:M α)>>=f) s=f a s:=rfl
end
theorem dI{c:PC}{h0 h:Heap}{L0 L:Nat}{U0 U:List Nat}(hq:Par c h0 L0 U0 h L U):KN h0.size h c L U (.slice none 0 0) []:=KN.nil
section
variable{c:PC}{h:Heap}{L:Nat}{U:List Nat}{s:St}{n:Nat}{r:Res Nat}
theorem leaveF_c(hB:Below c.T n)(hp:PS h c L U s)(pos:Nat)(hr:(run c.T n).e (.leave pos) s=r)(hne:r≠ .out):
 C aE 132 #[.pointer (some ⟨c.p,0,none⟩),.int .i64 (pos:Int)] h (POut c h L U r vint):=by
 cases n with
 |zero=>exact absurd hr.symm hne
 |succ n=>
 obtain⟨hr,_⟩:=dP hr hne;simp only[dJ,pX]at hr;have hq:Par c h L U h L U:=Par.refl _ _ _ _;refine C_in Tryz.func132 rfl rfl (by kernel_rfl) (aG rfl) ?_;simp only[↓zp,zv,↓reduceIte,aA];refine bO hp hq (is_c hp [99,111,110,116,105,110,117,101]) fun h hp hd hq hE=> ?_;simp only[↓zp,zv,↓reduceIte,aA];cases hx:isT c.T s [99,111,110,116,105,110,117,101]
 ·simp only[hx,aI,if_false]at hr;simp only[↓zp,zv,↓reduceIte,aA,hx];obtain⟨hlt,hr⟩:=cE hr hne;obtain⟨vl,hbp⟩:=hp.p;have hpl:=hbp.lt;have w1:=dV hp;simp only[↓zp,zv,↓reduceIte,aA,bE hbp,hpl,w1];refine cX hp hq hlt fun h hp hd hq=> ?_;simp only[↓zp,zv,↓reduceIte,aA];refine bO hp hq (eC hp) fun h hp hd hq hE=> ?_;simp only[↓zp,zv,↓reduceIte,aA];have hbx:Blk (h.push (.cells (nowT c.T ({s with i:=s.i+1})).cells.toArray 73)) h.size (nowT c.T ({s with i:=s.i+1})).cells 73:=Blk.new;have hlx:Loc (h.push (.cells (nowT c.T ({s with i:=s.i+1})).cells.toArray 73)) c L U h.size:=Loc.new hp (bA _) (by simp);have hEx:Ext [] h (h.push (.cells (nowT c.T ({s with i:=s.i+1})).cells.toArray 73)):=Ext.push _ _ _;have hp:=hp.ext0 hEx;have hq:=hq.ext0 hEx;generalize h.push (.cells (nowT c.T ({s with i:=s.i+1})).cells.toArray 73)=hx at hbx hlx hEx hp hq⊢;generalize h.size=bx at hbx hlx⊢;cases hk:((nowT c.T {s with i:=s.i+1}).kind:Int)==1
  ·simp only[beq_eq_false_iff_ne,ne_eq]at hk;have hc:¬((nowT c.T {s with i:=s.i+1}).kind=1∧(nowT c.T {s with i:=s.i+1}).line=false):=by omega
   simp only[dF,hc,if_false,eT]at hr;simp only[↓zp,zv,↓reduceIte,aA];refine bF hq hr hne (fun _=>iP hp) rfl fun u s h L U _ hr hp hd hq=> ?_;have hk:=dI hq;simp only[↓zp,zv,↓reduceIte,aA];refine bP hq hk.2 hr hne (fun _=>cO hp 44 [] pos _ _ hk.1) rfl fun a s h _ hR=> ?_;simp only[↓zp,zv,↓reduceIte,aA];exact hR
  ·simp only[beq_iff_eq]at hk;have hk':(nowT c.T {s with i:=s.i+1}).kind=1:=by omega
   simp only[↓zp,zv,↓reduceIte,aA,bE hbx];cases hl:(nowT c.T {s with i:=s.i+1}).line
   ·simp only[dF,hk',hl,and_self,if_true]at hr;simp only[↓zp,zv,↓reduceIte,aA,hl];refine bF hq hr hne (fun _=>kP hp) rfl fun x s h L U _ hr hp hd hq=> ?_;simp only[↓zp,zv,↓reduceIte,aA];refine bF hq hr hne (fun _=>iP hp) rfl fun u s h L U _ hr hp hd hq=> ?_;have hk:=dI hq;simp only[↓zp,zv,↓reduceIte,aA];refine bP hq hk.2 hr hne (fun _=>cO hp 44 x pos _ _ hk.1) rfl fun a s h _ hR=> ?_;simp only[↓zp,zv,↓reduceIte,aA];exact hR
   ·have hc:¬((nowT c.T {s with i:=s.i+1}).kind=1∧(nowT c.T {s with i:=s.i+1}).line=false):=by rw[hl];simp
    simp only[dF,hc,if_false,eT]at hr;simp only[↓zp,zv,↓reduceIte,aA,hl];refine bF hq hr hne (fun _=>iP hp) rfl fun u s h L U _ hr hp hd hq=> ?_;have hk:=dI hq;simp only[↓zp,zv,↓reduceIte,aA];refine bP hq hk.2 hr hne (fun _=>cO hp 44 [] pos _ _ hk.1) rfl fun a s h _ hR=> ?_;simp only[↓zp,zv,↓reduceIte,aA];exact hR
 ·simp only[hx,if_true]at hr;simp only[↓zp,zv,↓reduceIte,aA,hx];obtain⟨hlt,hr⟩:=cE hr hne;obtain⟨vl,hbp⟩:=hp.p;have hpl:=hbp.lt;have w1:=dV hp;simp only[↓zp,zv,↓reduceIte,aA,bE hbp,hpl,w1];refine cX hp hq hlt fun h hp hd hq=> ?_;simp only[↓zp,zv,↓reduceIte,aA];refine bO hp hq (eC hp) fun h hp hd hq hE=> ?_;simp only[↓zp,zv,↓reduceIte,aA];have hbx:Blk (h.push (.cells (nowT c.T ({s with i:=s.i+1})).cells.toArray 73)) h.size (nowT c.T ({s with i:=s.i+1})).cells 73:=Blk.new;have hlx:Loc (h.push (.cells (nowT c.T ({s with i:=s.i+1})).cells.toArray 73)) c L U h.size:=Loc.new hp (bA _) (by simp);have hEx:Ext [] h (h.push (.cells (nowT c.T ({s with i:=s.i+1})).cells.toArray 73)):=Ext.push _ _ _;have hp:=hp.ext0 hEx;have hq:=hq.ext0 hEx;generalize h.push (.cells (nowT c.T ({s with i:=s.i+1})).cells.toArray 73)=hx at hbx hlx hEx hp hq⊢;generalize h.size=bx at hbx hlx⊢;cases hk:((nowT c.T {s with i:=s.i+1}).kind:Int)==1
  ·simp only[beq_eq_false_iff_ne,ne_eq]at hk;have hc:¬((nowT c.T {s with i:=s.i+1}).kind=1∧(nowT c.T {s with i:=s.i+1}).line=false):=by omega
   simp only[dF,hc,if_false,eT]at hr;simp only[↓zp,zv,↓reduceIte,aA];refine bF hq hr hne (fun _=>iP hp) rfl fun u s h L U _ hr hp hd hq=> ?_;have hk:=dI hq;simp only[↓zp,zv,↓reduceIte,aA];refine bP hq hk.2 hr hne (fun _=>cO hp 45 [] pos _ _ hk.1) rfl fun a s h _ hR=> ?_;simp only[↓zp,zv,↓reduceIte,aA];exact hR
  ·simp only[beq_iff_eq]at hk;have hk':(nowT c.T {s with i:=s.i+1}).kind=1:=by omega
   simp only[↓zp,zv,↓reduceIte,aA,bE hbx];cases hl:(nowT c.T {s with i:=s.i+1}).line
   ·simp only[dF,hk',hl,and_self,if_true]at hr;simp only[↓zp,zv,↓reduceIte,aA,hl];refine bF hq hr hne (fun _=>kP hp) rfl fun x s h L U _ hr hp hd hq=> ?_;simp only[↓zp,zv,↓reduceIte,aA];refine bF hq hr hne (fun _=>iP hp) rfl fun u s h L U _ hr hp hd hq=> ?_;have hk:=dI hq;simp only[↓zp,zv,↓reduceIte,aA];refine bP hq hk.2 hr hne (fun _=>cO hp 45 x pos _ _ hk.1) rfl fun a s h _ hR=> ?_;simp only[↓zp,zv,↓reduceIte,aA];exact hR
   ·have hc:¬((nowT c.T {s with i:=s.i+1}).kind=1∧(nowT c.T {s with i:=s.i+1}).line=false):=by rw[hl];simp
    simp only[dF,hc,if_false,eT]at hr;simp only[↓zp,zv,↓reduceIte,aA,hl];refine bF hq hr hne (fun _=>iP hp) rfl fun u s h L U _ hr hp hd hq=> ?_;have hk:=dI hq;simp only[↓zp,zv,↓reduceIte,aA];refine bP hq hk.2 hr hne (fun _=>cO hp 45 [] pos _ _ hk.1) rfl fun a s h _ hR=> ?_;simp only[↓zp,zv,↓reduceIte,aA];exact hR
theorem backF_c(hB:Below c.T n)(hp:PS h c L U s)(pos:Nat)(hr:(run c.T n).e (.back pos) s=r)(hne:r≠ .out):
 C aE 133 #[.pointer (some ⟨c.p,0,none⟩),.int .i64 (pos:Int)] h (POut c h L U r vint):=by
 cases n with
 |zero=>exact absurd hr.symm hne
 |succ n=>
 obtain⟨hr,_⟩:=dP hr hne;simp only[dJ,uY]at hr;have hq:Par c h L U h L U:=Par.refl _ _ _ _;refine C_in Tryz.func133 rfl rfl (by kernel_rfl) (aG rfl) ?_;simp only[↓zp,zv,↓reduceIte,aA];obtain⟨hlt,hr⟩:=cE hr hne;obtain⟨vl,hbp⟩:=hp.p;have hpl:=hbp.lt;have w1:=dV hp;simp only[↓zp,zv,↓reduceIte,aA,bE hbp,hpl,w1];refine cX hp hq hlt fun h hp hd hq=> ?_;simp only[↓zp,zv,↓reduceIte,aA];refine bO hp hq (eC hp) fun h hp hd hq hE=> ?_;simp only[↓zp,zv,↓reduceIte,aA];have hbx:Blk (h.push (.cells (nowT c.T ({s with i:=s.i+1})).cells.toArray 73)) h.size (nowT c.T ({s with i:=s.i+1})).cells 73:=Blk.new;have hlx:Loc (h.push (.cells (nowT c.T ({s with i:=s.i+1})).cells.toArray 73)) c L U h.size:=Loc.new hp (bA _) (by simp);have hEx:Ext [] h (h.push (.cells (nowT c.T ({s with i:=s.i+1})).cells.toArray 73)):=Ext.push _ _ _;have hp:=hp.ext0 hEx;have hq:=hq.ext0 hEx;generalize h.push (.cells (nowT c.T ({s with i:=s.i+1})).cells.toArray 73)=hx at hbx hlx hEx hp hq⊢;generalize h.size=bx at hbx hlx⊢;cases hl:(nowT c.T {s with i:=s.i+1}).line
 ·simp only[↓zp,zv,↓reduceIte,aA,hl,bE hbx];cases hk:((nowT c.T {s with i:=s.i+1}).kind:Int) !=0
  ·have hk':(nowT c.T {s with i:=s.i+1}).kind=0:=by simpa using hk
   have hc:¬((nowT c.T {s with i:=s.i+1}).line=false∧(nowT c.T {s with i:=s.i+1}).kind≠0∧isT c.T {s with i:=s.i+1} ([59]:List UInt8)=false∧isT c.T {s with i:=s.i+1} ([125]:List UInt8)=false):=by rw[hk'];simp
   simp only[dF,hc,if_false,eT]at hr;simp only[↓zp,zv,↓reduceIte,aA,hk];refine bF hq hr hne (fun _=>iP hp) rfl fun u s h L U _ hr hp hd hq=> ?_;have hk:=dI hq;simp only[↓zp,zv,↓reduceIte,aA];refine bP hq hk.2 hr hne (fun _=>bT hp 46 pos _ _ hk.1) rfl fun a s h _ hR=> ?_;simp only[↓zp,zv,↓reduceIte,aA];exact hR
  ·have hk':(nowT c.T {s with i:=s.i+1}).kind≠0:=by simpa using hk
   simp only[↓zp,zv,↓reduceIte,aA,hk];refine bO hp hq (is_c hp [59]) fun h hp hd hq hE=> ?_;simp only[↓zp,zv,↓reduceIte,aA];cases h1:isT c.T {s with i:=s.i+1} [59]
   ·simp only[↓zp,zv,↓reduceIte,aA,h1];refine bO hp hq (is_c hp [125]) fun h hp hd hq hE=> ?_;simp only[↓zp,zv,↓reduceIte,aA];cases h2:isT c.T {s with i:=s.i+1} [125]
    ·simp only[↓zp,zv,↓reduceIte,aA,h2];have hc:(nowT c.T {s with i:=s.i+1}).line=false∧(nowT c.T {s with i:=s.i+1}).kind≠0∧isT c.T {s with i:=s.i+1} ([59]:List UInt8)=false∧isT c.T {s with i:=s.i+1} ([125]:List UInt8)=false:=⟨hl,hk',h1,h2⟩;rw[dF,if_pos hc,dM,dR]at hr;refine bF hq hr hne (fun r1 g1 g2=>(hB n (by omega)).1 c _ _ _ _ (.expression true) 42 _ r1 rfl rfl hp g1 g2) rfl fun e s h L U _ hr hp hd hq=> ?_;rw[eP]at hr;simp only[↓zp,zv,↓reduceIte,aA];refine bJ (vals:=[e]) hp hq rfl rfl (by omega) (by omega) fun v h hk hp hd hq hbv hE=> ?_;have hk0:=dI hq;simp only[↓zp,zv,↓reduceIte,aA];refine cZ hp hq hk0 hk.1.1 (by simp) fun v h hk hp hq hE hc=> ?_;simp only[↓zp,zv,↓reduceIte,aA];refine bF hq hr hne (fun _=>iP hp) rfl fun u s h L U _ hr hp hd hq=> ?_;have hk:=hk.par hd;simp only[↓zp,zv,↓reduceIte,aA];refine bP hq hk.2 hr hne (fun _=>bT hp 46 pos _ _ hk.1) rfl fun a s h _ hR=> ?_;simp only[↓zp,zv,↓reduceIte,aA];exact hR
    ·have hc:¬((nowT c.T {s with i:=s.i+1}).line=false∧(nowT c.T {s with i:=s.i+1}).kind≠0∧isT c.T {s with i:=s.i+1} ([59]:List UInt8)=false∧isT c.T {s with i:=s.i+1} ([125]:List UInt8)=false):=by rw[h2];simp
     simp only[dF,hc,if_false,eT]at hr;simp only[↓zp,zv,↓reduceIte,aA,h2];refine bF hq hr hne (fun _=>iP hp) rfl fun u s h L U _ hr hp hd hq=> ?_;have hk:=dI hq;simp only[↓zp,zv,↓reduceIte,aA];refine bP hq hk.2 hr hne (fun _=>bT hp 46 pos _ _ hk.1) rfl fun a s h _ hR=> ?_;simp only[↓zp,zv,↓reduceIte,aA];exact hR
   ·have hc:¬((nowT c.T {s with i:=s.i+1}).line=false∧(nowT c.T {s with i:=s.i+1}).kind≠0∧isT c.T {s with i:=s.i+1} ([59]:List UInt8)=false∧isT c.T {s with i:=s.i+1} ([125]:List UInt8)=false):=by rw[h1];simp
    simp only[dF,hc,if_false,eT]at hr;simp only[↓zp,zv,↓reduceIte,aA,h1];refine bF hq hr hne (fun _=>iP hp) rfl fun u s h L U _ hr hp hd hq=> ?_;have hk:=dI hq;simp only[↓zp,zv,↓reduceIte,aA];refine bP hq hk.2 hr hne (fun _=>bT hp 46 pos _ _ hk.1) rfl fun a s h _ hR=> ?_;simp only[↓zp,zv,↓reduceIte,aA];exact hR
 ·have hc:¬((nowT c.T {s with i:=s.i+1}).line=false∧(nowT c.T {s with i:=s.i+1}).kind≠0∧isT c.T {s with i:=s.i+1} ([59]:List UInt8)=false∧isT c.T {s with i:=s.i+1} ([125]:List UInt8)=false):=by rw[hl];simp
  simp only[dF,hc,if_false,eT]at hr;simp only[↓zp,zv,↓reduceIte,aA,hl,bE hbx];refine bF hq hr hne (fun _=>iP hp) rfl fun u s h L U _ hr hp hd hq=> ?_;have hk:=dI hq;simp only[↓zp,zv,↓reduceIte,aA];refine bP hq hk.2 hr hne (fun _=>bT hp 46 pos _ _ hk.1) rfl fun a s h _ hR=> ?_;simp only[↓zp,zv,↓reduceIte,aA];exact hR
end
end
section
theorem Loc.own{X:List Nat}{h h':Heap}{c:PC}{L:Nat}{U:List Nat}{b:Nat}(hb:Loc h c L U b)(hE:Ext X h h'):Loc h' c L U b:=⟨Nat.lt_of_lt_of_le hb.1 hE.1,hb.2⟩
theorem dT{n:Nat}{h:Heap}{c:PC}{L:Nat}{U:List Nat}{v v':Value}{ks:List Nat}(hk:KN n h c L U v ks)(hb:blks v'=[]∨blks v'=[h.size]):∀b,b∈blks v→b∉blks v':=fun b hm hm'=>by
 rcases hb with hb|hb
 ·rw[hb]at hm';simp at hm'
 ·rw[hb]at hm';simp at hm';have:=(hk.1.2 b hm).1;omega
theorem gS{v:Value}:∀b,b∈blks v→b∉blks (.slice none 0 0):=fun b _ hm=>by simp[blks]at hm
theorem bX{h:Heap}{c:PC}{L:Nat}{U:List Nat}{v':Value}{b:Nat}(hl:Loc h c L U b)(hb:blks v'=[]∨blks v'=[h.size]):b∉blks v':=fun hm'=>by
 rcases hb with hb|hb
 ·rw[hb]at hm';simp at hm'
 ·rw[hb]at hm';simp at hm';have:=hl.1;omega
theorem lK{h:Heap}{b:Nat}{v v':Value}(hn:b∉blks v)(hl:b<h.size)(hc:blks v'=blks v∨blks v'=[h.size]):b∉blks v':=fun hm=>by
 rcases hc with e|e
 ·rw[e]at hm;exact hn hm
 ·rw[e]at hm;simp at hm;omega
theorem KN.extD{n:Nat}{X:List Nat}{h h':Heap}{c:PC}{L:Nat}{U:List Nat}{v:Value}{ks:List Nat}(hk:KN n h c L U v ks)(hE:Ext X h h')(hx:∀b,b∈blks v→b∉X):KN n h' c L U v ks:=
 ⟨⟨hk.1.1.ext hE hx,fun b hb=>(hk.1.2 b hb).own hE⟩,hk.2⟩
theorem dj_app{n:Nat}{h:Heap}{c:PC}{L:Nat}{U:List Nat}{v v1 v1':Value}{ks:List Nat}(hk:KN n h c L U v ks)(hj:∀b,b∈blks v→b∉blks v1)(hc:blks v1'=blks v1∨blks v1'=[h.size]):∀b,b∈blks v→b∉blks v1':=fun b hm hm'=>by
 rcases hc with e|e
 ·rw[e]at hm';exact hj b hm hm'
 ·rw[e]at hm';simp at hm';have:=(hk.1.2 b hm).1;omega
theorem lP{n:Nat}{h:Heap}{c:PC}{L:Nat}{U:List Nat}{v v1:Value}{ks:List Nat}(hk:KN n h c L U v ks)(hf:∀b,b∈blks v1→h.size≤b):∀b,b∈blks v→b∉blks v1:=fun b hm hm'=>by
 have:=(hk.1.2 b hm).1;have:=hf b hm';omega
theorem yT{h:Heap}{c:PC}{L:Nat}{U:List Nat}{v1:Value}{b:Nat}(hl:Loc h c L U b)(hf:∀b,b∈blks v1→h.size≤b):b∉blks v1:=fun hm'=>by
 have:=hl.1;have:=hf b hm';omega
section
variable{β:Type}{c:PC}{h0 h:Heap}{L0 L:Nat}{U0 U:List Nat}{s:St}{fn:Nat}{args:Array Value}{k:Env→Heap→Prop}{ρ:Env}{dst:Option Nat}{val0:β→Value}{r:Res β}
theorem mV {m:M (List Nat)} {f:List Nat→M β} (hq:Par c h0 L0 U0 h L U) (hrun:(m>>=f) s=r) (hne:r≠ .out)
 (hc:∀r1,m s=r1→r1≠ .out→C aE fn args h (pM c h L U r1))
 {E:List PanicEntry→Heap→Prop} (hE:E=fun ch h'=>POut c h0 L0 U0 r val0 (.panicked ch) h')
 {t:Tok (eH k E ρ dst)}
 (hok:∀v ks s1 h1 L1 U1,m s=.ok ks s1→f ks s1=r→PS h1 c L1 U1 s1→Par c h L U h1 L1 U1→Par c h0 L0 U0 h1 L1 U1→KN h0.size h1 c L1 U1 v ks→(∀b,b∈blks v→h.size≤b)→k (ρ.put dst v) h1):
 CT aE fn args h (eH k E ρ dst) t:=by
 subst hE
 cases hm:m s with
 |ok a s1=>
  refine bH (hc _ hm (by simp)) ?_;rintro e h1 ⟨v,L1,U1,rfl,hp1,hq1,hk1⟩
  exact hok v a s1 h1 L1 U1 hm (by rw[←hrun,eX hm]) hp1 hq1 (hq.trans hq1) ⟨hk1.1,fun b hb=>Nat.le_trans hq.E.1 (hk1.2 b hb)⟩ hk1.2
 |err p=>
  refine bH (hc _ hm (by simp)) ?_;rintro e h1 ⟨rfl,hE⟩;show POut c h0 L0 U0 r val0 (.panicked (perr p)) h1;rw[←hrun,fQ hm]
  exact⟨rfl,iE hq hE⟩
 |out=>exact absurd (by rw[←hrun,eK hm]) hne
end
theorem gB{b:Nat}:b∉blks (.slice none 0 0):=by simp[blks]
section
variable{c:PC}{h0 h:Heap}{L0 L:Nat}{U0 U:List Nat}{s:St}{k:Env→Heap→Prop}{ρ:Env}{dst:Option Nat}
theorem gT {x:Value} {ks':List Nat} {ty:TypeId} {E:List PanicEntry→Heap→Prop} {tk:Tok (dst,ρ,k,E)} (hp:PS h c L U s) (hq:Par c h0 L0 U0 h L U) (hx:Row h x 3 1 (bL ks'))
 (hbig:ks'.length≤1073741824)
 (H:∀v' h',KN h0.size h' c L U v' ks'→PS h' c L U s→Par c h L U h' L U→Par c h0 L0 U0 h' L U→(blks v'=[]∨blks v'=[h.size])→k (ρ.put dst v') h'):
 eD aE (.call ⟨.builtin .append,#[.const (.slice none 0 0),.const x],#[33,33]⟩) ty dst ρ h k E tk:=
 cZ hp hq KN.nil hx (by simpa using hbig) fun v' h' hk hp' hq' hE hc=>H v' h' (by simpa using hk) hp' (Par.of_ext hE) hq' hc
end
section
variable{c:PC}{h0:Heap}{L0:Nat}{U0:List Nat}{s:St}{n:Nat}{r:Res Nat}
theorem rZ(hB:Below c.T n)(hp:PS h0 c L0 U0 s)(inn:Bool)(hr:(run c.T n).e (.declaration inn) s=r)(hne:r≠ .out):
 C aE 155 #[.pointer (some ⟨c.p,0,none⟩),.bool inn] h0 (POut c h0 L0 U0 r vint):=by
 cases n with
 |zero=>exact absurd hr.symm hne
 |succ n=>
 obtain⟨hr,_⟩:=dP hr hne;simp only[dJ,iB]at hr;have hq:Par c h0 L0 U0 h0 L0 U0:=Par.refl _ _ _ _;refine C_in Tryz.func155 rfl rfl (by kernel_rfl) (aG rfl) ?_;simp only[↓zp,zv,↓reduceIte,aA];refine bO hp hq (eC hp) fun h hp hd hq hE=> ?_;simp only[↓zp,zv,↓reduceIte,aA];have hbx:Blk (h.push (.cells (nowT c.T (s)).cells.toArray 73)) h.size (nowT c.T (s)).cells 73:=Blk.new;have hlx:Loc (h.push (.cells (nowT c.T (s)).cells.toArray 73)) c _ _ h.size:=Loc.new hp (bA _) (by simp);have hEx:Ext [] h (h.push (.cells (nowT c.T (s)).cells.toArray 73)):=Ext.push _ _ _;have hp:=hp.ext0 hEx;have hq:=hq.ext0 hEx;generalize h.push (.cells (nowT c.T (s)).cells.toArray 73)=hx at hbx hlx hEx hp hq⊢;generalize hzx:h.size=bx at hbx hlx⊢;obtain⟨hlt,hr⟩:=cE hr hne;obtain⟨vl,hbp⟩:=hp.p;have hpl:=hbp.lt;have w1:=dV hp;simp only[↓zp,zv,↓reduceIte,aA,bE hbp,hpl,w1];refine cX hp hq hlt fun h hp hd hq=> ?_;have hbx:=hlx.blk hbx hd;have hlx:=hlx.par hd;simp only[↓zp,zv,↓reduceIte,aA,bE hbx];generalize hkd:(if((nowT c.T s).text==([99,111,110,115,116]:List UInt8))=true then 34 else 33)=kd at hr;cases hx:((nowT c.T s).text==([99,111,110,115,116]:List UInt8))
 all_goals
  rw[hx]at hkd;simp only[aI,if_false,if_true]at hkd;subst hkd;simp only[↓zp,zv,↓reduceIte,aA,hx];have hk:=dI hq
  refine⟨fun m ρ h'=> ∃L U s' v ks,ρ 0=.pointer (some ⟨c.p,0,none⟩)∧ρ 1=.bool inn∧ρ 5=.pointer (some ⟨bx,0,none⟩)∧ρ 6=vint _∧ρ 7=v∧Blk h' bx (nowT c.T s).cells 73∧Loc h' c L U bx∧bx∉blks v∧KN h0.size h' c L U v ks∧PS h' c L U s'∧Par c h0 L0 U0 h' L U∧(run c.T m).e (.declLoop inn _ (nowT c.T s).fr ks) s'=r∧m≤n,n,
   ⟨L0,U0,_,_,[],by simp only[↓zp,zv,↓reduceIte,aA],by simp only[↓zp,zv,↓reduceIte,aA],by simp only[↓zp,zv,↓reduceIte,aA],by simp only[↓zp,zv,↓reduceIte,aA];rfl,by simp only[↓zp,zv,↓reduceIte,aA],hbx,hlx,gB,hk,hp,hq,hr,bA _⟩,?_⟩
  clear hr hbx hlx hk hp hq;rintro m ρ h3 ⟨L,U,s3,v,ks,g0,g1,g5,g6,g7,hbx,hlx,hxxk,hk,hp,hq,hr,hm⟩
  cases m with
  |zero=>exact absurd hr.symm hne
  |succ m=>
  obtain⟨hr,hkl⟩:=dP hr hne;simp only[dJ,kK]at hr;simp only[Fn1.kids]at hkl;have hB':Below c.T (m+1):=fun j hj=>hB j (by omega);simp only[↓zp,zv,↓reduceIte,aA,g0,g1,g5,g6,g7];refine bO hp hq (eC hp) fun h hp hd hq hE=> ?_;have hbx:=hlx.blk hbx hd;have hlx:=hlx.par hd;have hk:=hk.par hd;simp only[↓zp,zv,↓reduceIte,aA,g0,g1,g5,g6,g7];refine bF hq hr hne (fun _=>kP hp) rfl fun x s h L U _ hr hp hd hq=> ?_;have hbx:=hlx.blk hbx hd;have hlx:=hlx.par hd;have hk:=hk.par hd;simp only[↓zp,zv,↓reduceIte,aA,g0,g1,g5,g6,g7];rw[dR]at hr;refine bF hq hr hne (fun _=>eE hp [61]) rfl fun bb s h L U _ hr hp hd hq=> ?_;have hbx:=hlx.blk hbx hd;have hlx:=hlx.par hd;have hk:=hk.par hd
  cases bb with
  |false=>
   simp only[aI,if_false,eP]at hr;simp only[↓zp,zv,↓reduceIte,aA,g0,g1,g5,g6,g7];have hi:=dI hq;have hjki:=gS (v:=v);have hxxi:=gB (b:=bx);refine bZ hq hi.2 hr hne (fun _=>cO hp _ _ _ _ _ hi.1) rfl fun ka s h L U _ hr hp hd hq=> ?_;have hbx:=hlx.blkX hbx hd;have hlx:=hlx.parX hd hxxi;have hk:=hk.parX hd hjki;simp only[↓zp,zv,↓reduceIte,aA,g0,g1,g5,g6,g7];refine bJ (vals:=[ka]) hp hq rfl rfl (by omega) (by omega) fun vi h hi hp hd hq hbv hE=> ?_;have hxxi:=bX hlx (Or.inr hbv);have hjki:=dT hk (Or.inr hbv);have hbx:=hlx.blk hbx hd;have hlx:=hlx.par hd;have hk:=hk.par hd;simp only[↓zp,zv,↓reduceIte,aA,g0,g1,g5,g6,g7];refine cZ hp hq hk hi.1.1 (by(try unfold most at*);(try simp only[aB,aD,aC]);omega) fun vk h hk hp hq hE hc=> ?_;have hbx:=hbx.ext hE hxxk;have hxxk:=lK hxxk hlx.1 hc;have hlx:=hlx.own hE;simp only[↓zp,zv,↓reduceIte,aA,g0,g1,g5,g6,g7];refine bF hq hr hne (fun _=>eE hp [44]) rfl fun bc s h L U _ hr hp hd hq=> ?_;have hbx:=hlx.blk hbx hd;have hlx:=hlx.par hd;have hk:=hk.par hd
   cases bc with
   |false=>
    simp only[aI,if_false]at hr;simp only[↓zp,zv,↓reduceIte,aA,g0,g1,g5,g6,g7,bE hbx];refine bP hq hk.2 hr hne (fun _=>bT hp _ _ _ _ hk.1) rfl fun a s h _ hR=> ?_;simp only[↓zp,zv,↓reduceIte,aA,g0,g1,g5,g6,g7]
    exact hR
   |true=>
    simp only[if_true]at hr;simp only[↓zp,zv,↓reduceIte,aA,g0,g1,g5,g6,g7]
    exact⟨m,by omega,L,U,_,_,_,by simp only[↓zp,zv,↓reduceIte,aA,g0],by simp only[↓zp,zv,↓reduceIte,aA,g1],by simp only[↓zp,zv,↓reduceIte,aA,g5],by simp only[↓zp,zv,↓reduceIte,aA,g6],by simp only[↓zp,zv,↓reduceIte,aA],hbx,hlx,hxxk,hk,hp,hq,hr,by omega⟩
  |true=>
   simp only[if_true,dR,eP]at hr;simp only[↓zp,zv,↓reduceIte,aA,g0,g1,g5,g6,g7];refine bF hq hr hne (fun r1 g1 g2=>(hB m (by omega)).1 c _ _ _ _ (.assignment inn) 70 _ r1 rfl rfl hp g1 g2) rfl fun a s h L U _ hr hp hd hq=> ?_;have hbx:=hlx.blk hbx hd;have hlx:=hlx.par hd;have hk:=hk.par hd;rw[eP]at hr;simp only[↓zp,zv,↓reduceIte,aA,g0,g1,g5,g6,g7];refine bJ (vals:=[a]) hp hq rfl rfl (by omega) (by omega) fun vj h hj hp hd hq hbv hE=> ?_;have hxxj:=bX hlx (Or.inr hbv);have hjkj:=dT hk (Or.inr hbv);have hbx:=hlx.blk hbx hd;have hlx:=hlx.par hd;have hk:=hk.par hd;simp only[↓zp,zv,↓reduceIte,aA,g0,g1,g5,g6,g7];refine gT hp hq hj.1.1 (by simp) fun vi h hi hp hd hq hbv=> ?_;have hxxi:=bX hlx hbv;have hjki:=dT hk hbv;have hbx:=hlx.blk hbx hd;have hlx:=hlx.par hd;have hk:=hk.par hd;simp only[↓zp,zv,↓reduceIte,aA,g0,g1,g5,g6,g7];refine bZ hq hi.2 hr hne (fun _=>cO hp _ _ _ _ _ hi.1) rfl fun ka s h L U _ hr hp hd hq=> ?_;have hbx:=hlx.blkX hbx hd;have hlx:=hlx.parX hd hxxi;have hk:=hk.parX hd hjki;simp only[↓zp,zv,↓reduceIte,aA,g0,g1,g5,g6,g7];refine bJ (vals:=[ka]) hp hq rfl rfl (by omega) (by omega) fun vi h hi hp hd hq hbv hE=> ?_;have hxxi:=bX hlx (Or.inr hbv);have hjki:=dT hk (Or.inr hbv);have hbx:=hlx.blk hbx hd;have hlx:=hlx.par hd;have hk:=hk.par hd;simp only[↓zp,zv,↓reduceIte,aA,g0,g1,g5,g6,g7];refine cZ hp hq hk hi.1.1 (by(try unfold most at*);(try simp only[aB,aD,aC]);omega) fun vk h hk hp hq hE hc=> ?_;have hbx:=hbx.ext hE hxxk;have hxxk:=lK hxxk hlx.1 hc;have hlx:=hlx.own hE;simp only[↓zp,zv,↓reduceIte,aA,g0,g1,g5,g6,g7];refine bF hq hr hne (fun _=>eE hp [44]) rfl fun bc s h L U _ hr hp hd hq=> ?_;have hbx:=hlx.blk hbx hd;have hlx:=hlx.par hd;have hk:=hk.par hd
   cases bc with
   |false=>
    simp only[aI,if_false]at hr;simp only[↓zp,zv,↓reduceIte,aA,g0,g1,g5,g6,g7,bE hbx];refine bP hq hk.2 hr hne (fun _=>bT hp _ _ _ _ hk.1) rfl fun a s h _ hR=> ?_;simp only[↓zp,zv,↓reduceIte,aA,g0,g1,g5,g6,g7]
    exact hR
   |true=>
    simp only[if_true]at hr;simp only[↓zp,zv,↓reduceIte,aA,g0,g1,g5,g6,g7];exact⟨m,by omega,L,U,_,_,_,by simp only[↓zp,zv,↓reduceIte,aA,g0],by simp only[↓zp,zv,↓reduceIte,aA,g1],by simp only[↓zp,zv,↓reduceIte,aA,g5],by simp only[↓zp,zv,↓reduceIte,aA,g6],by simp only[↓zp,zv,↓reduceIte,aA],hbx,hlx,hxxk,hk,hp,hq,hr,by omega⟩
end
end
section
theorem cD(l:List (List UInt8)):(cI l).length=l.length:=by simp[cI]
theorem fK(l:List (List UInt8))(i:Nat)(hi:i<l.length):(cI l)[i]? =some (.string ⟨(l[i]).toArray⟩):=by simp[cI,hi]
theorem Row.cellOne{h:Heap}{v:Value}{e:Nat}{xs:List Value}(hr:Row h v e 1 xs):∃a cap,v=.slice a xs.length cap∧∀i,i<xs.length→∃b,a=some ⟨b,0,none⟩∧bG h b i=xs[i]?:=by
 rcases hr with⟨rfl,rfl⟩|⟨b,n,cap,cs,rfl,hb,h1,h2,h3,h4⟩
 ·exact⟨none,0,rfl,fun i hi=>by simp at hi⟩
 ·have:n=xs.length:=by omega
  subst this;exact⟨_,cap,rfl,fun i hi=>⟨b,rfl,Row.cell (n:=xs.length) (cap:=cap) hb h4 hi⟩⟩
theorem vY{l:List (List UInt8)}{x:List UInt8}:(∀j (hj:j<l.length),l[j]≠x)→l.contains x=false:=by
 intro h;rw[←Bool.not_eq_true,List.contains_iff_mem];intro hm;obtain⟨j,hj,e⟩:=List.getElem_of_mem hm;exact h j hj e
theorem index_c{h:Heap}{v:Value}{l:List (List UInt8)}(hr:Row h v 9 1 (cI l))(hl:l.length≤1000000)(x:List UInt8):
 C aE 78 #[v,.string ⟨x.toArray⟩] h fun e h'=>h'=h∧∃i:Int,e=.returned (.int .i64 i)∧decide (0≤i)=l.contains x:=by
 obtain⟨a,cap,rfl,hc⟩:=hr.cellOne;rw[cD]at hc;rw[cD];refine C_in Tryz.func78 rfl rfl (by kernel_rfl) (aG rfl) ?_;simp only[↓zp,zv,↓reduceIte,aA]
 refine⟨fun m ρ h'=>h'=h∧∃j:Nat,ρ 0=.slice a l.length cap∧ρ 1=.string ⟨x.toArray⟩∧ρ 7=.int .i64 (l.length:Int)∧ρ 8=.int .i64 (j:Int)∧j≤l.length∧m=l.length-j∧∀k (hk:k<l.length),k<j→l[k]≠x,l.length,
  ⟨rfl,0,by simp only[↓zp,zv,↓reduceIte,aA],by simp only[↓zp,zv,↓reduceIte,aA],by simp only[↓zp,zv,↓reduceIte,aA],by simp only[↓zp,zv,↓reduceIte,aA]<;>rfl,Nat.zero_le _,rfl,fun k _ hk=>by omega⟩,?_⟩
 rintro m ρ h' ⟨rfl,j,g0,g1,g7,g8,hj,hm,hn⟩;simp only[↓zp,zv,↓reduceIte,aA,g0,g1,g7,g8];by_cases hlt:j<l.length
 ·have hi:0≤(j:Int)∧(j:Int)<((l.length:Nat):Int):=by omega
  obtain⟨b,rfl,hcell⟩:=hc j hlt;rw[fK l j hlt]at hcell;simp only[↓zp,zv,↓reduceIte,aA,decide_true,g0,g1,g7,g8,hi,aF,aP,hcell,sE];cases he:x==l[j]
  ·have w1:IntKind.i64.wrap ((j:Int)+1)=((j+1:Nat):Int):=by rw[aU _ (by omega)];simp
   simp only[↓zp,zv,↓reduceIte,aA,g0,g1,g7,g8,w1];refine⟨l.length-(j+1),by omega,trivial,j+1,by simp only[↓zp,zv,↓reduceIte,aA,g0],by simp only[↓zp,zv,↓reduceIte,aA,g1],by simp only[↓zp,zv,↓reduceIte,aA,g7],by simp only[↓zp,zv,↓reduceIte,aA],by omega,rfl,fun k hk hkj=> ?_⟩;rcases Nat.lt_or_ge k j with h1|h1
   ·exact hn k hk h1
   ·have:k=j:=by omega
    subst this;intro e;rw[e]at he;simp at he
  ·simp only[↓zp,zv,↓reduceIte,aA,g0,g1,g7,g8];refine⟨trivial,_,rfl,?_⟩;have:x∈l:=by rw[eq_of_beq he];exact List.getElem_mem hlt
   simp[this]
 ·have e1:decide ((j:Int)<(l.length:Int))=false:=by simp;omega
  simp only[↓zp,zv,↓reduceIte,aA,e1,g0,g1,g7,g8];refine⟨trivial,_,rfl,?_⟩;rw[vY fun k hk=>hn k hk (by omega)]
  rfl
theorem nG{h:Heap}{v:Value}{l:List (List UInt8)}(hr:Row h v 9 1 (cI l))(hl:l.length≤1000000)(x:List UInt8):
 C aE 51 #[v,.string ⟨x.toArray⟩] h fun e h'=>e=.returned (.bool (l.contains x))∧h'=h:=by
 refine C_in Tryz.func51 rfl rfl (by kernel_rfl) (aG rfl) ?_;simp only[↓zp,zv,↓reduceIte,aA];refine bH (index_c hr hl x) ?_;rintro e h1 ⟨rfl,i,rfl,hi⟩;simp only[↓zp,zv,↓reduceIte,aA,hi]
section
variable{c:PC}{h:Heap}{L:Nat}{U:List Nat}{s:St}
theorem oY(hp:PS h c L U s):C aE 176 #[.pointer (some ⟨c.p,0,none⟩)] h fun e h'=>e=.returned (.bool (nC c.T s))∧Ext [] h h':=by
 obtain⟨vl,hb⟩:=hp.p;refine C_in Tryz.func176 rfl rfl (by kernel_rfl) (aG rfl) ?_;simp only[↓zp,zv,↓reduceIte,aA];refine dL [(0,true),(1,true),(2,true),(3,true),(4,true),(5,false),(6,false),(7,false),(8,false)] (fun h'=>Ext [] h h') (by kernel_rfl) (by kernel_rfl) (by kernel_rfl) rfl (Ext.refl _ _) ?_;simp only[Wo,fI,fP,if_true,aI,if_false]
 iterate 3 refine⟨_,.inl fun h' hS'=>by simp only[rdOp];simp only[↓zp,zv,↓reduceIte,aA];rfl,?_⟩
 refine⟨_,.inl fun h' hS'=>by simp only[rdOp];simp only[↓zp,zv,↓reduceIte,aA,bE (hb.ext hS' (by simp))];rfl,?_⟩;refine⟨_,.inl fun h' hS'=>by simp only[rdOp];simp only[↓zp,zv,↓reduceIte,aA];rfl,?_⟩;refine cY rfl ?_;simp only[↓zp,zv,↓reduceIte,aA];refine bH (eC hp) ?_;rintro e h1 ⟨rfl,hE1⟩;simp only[↓zp,zv,↓reduceIte,aA];refine⟨hE1,?_⟩;refine cY rfl ?_;simp only[↓zp,zv,↓reduceIte,aA];refine bH (fT _ _) ?_;rintro e h2 ⟨rfl,hE2⟩;simp only[↓zp,zv,↓reduceIte,aA];refine⟨hE1.trans hE2,?_⟩;refine cY rfl ?_;simp only[↓zp,zv,↓reduceIte,aA];have hp2:=hp.ext0 (hE1.trans hE2);refine bH (nG hp2.una (by decide) _) ?_;rintro e h3 ⟨rfl,rfl⟩;simp only[↓zp,zv,↓reduceIte,aA];refine⟨hE1.trans hE2,?_⟩;refine cY rfl ?_;simp only[↓zp,zv,↓reduceIte,aA];refine⟨hE1.trans hE2,?_⟩;exact⟨rfl,hE1.trans hE2⟩
end
end
section
theorem lR{h:Heap}{v:Value}{l:List (List UInt8)}(hr:Row h v 9 1 (cI l))(hl:l.length≤1000000)(x:List UInt8):
 C aE 51 #[v,.string ⟨x.toArray⟩] h fun e h'=>e=.returned (.bool (l.contains x))∧Ext [] h h':=(nG hr hl x).mono fun e h' ⟨a,b⟩=>⟨a,by rw[b];exact Ext.refl _ _⟩
section
variable{c:PC}{h0:Heap}{L0:Nat}{U0:List Nat}{s:St}{n:Nat}{r:Res Nat}
theorem sO(hB:Below c.T n)(hp:PS h0 c L0 U0 s)(hr:(run c.T n).e (.parameters) s=r)(hne:r≠ .out):
 C aE 97 #[.pointer (some ⟨c.p,0,none⟩)] h0 (POut c h0 L0 U0 r vint):=by
 cases n with
 |zero=>exact absurd hr.symm hne
 |succ n=>
 obtain⟨hr,_⟩:=dP hr hne;simp only[dJ,iQ]at hr;have hq:Par c h0 L0 U0 h0 L0 U0:=Par.refl _ _ _ _;refine C_in Tryz.func97 rfl rfl (by kernel_rfl) (aG rfl) ?_;simp only[↓zp,zv,↓reduceIte,aA];refine bF hq hr hne (fun _=>cR hp [40]) rfl fun pos s h L U _ hr hp hd hq=> ?_;simp only[↓zp,zv,↓reduceIte,aA];have hk:=dI hq
 refine⟨fun m ρ h'=> ∃L U s' v ks,ρ 0=.pointer (some ⟨c.p,0,none⟩)∧ρ 3=vint pos∧ρ 4=v∧KN h0.size h' c L U v ks∧PS h' c L U s'∧Par c h0 L0 U0 h' L U∧(run c.T m).e (.parLoop pos ks) s'=r∧m≤n,n,
  ⟨L,U,_,_,[],by simp only[↓zp,zv,↓reduceIte,aA],by simp only[↓zp,zv,↓reduceIte,aA],by simp only[↓zp,zv,↓reduceIte,aA],hk,hp,hq,hr,bA _⟩,?_⟩
 clear hr hk hp hq;rintro m ρ h3 ⟨L,U,s,v,ks,g0,g3,g4,hk,hp,hq,hr,hm⟩
 cases m with
 |zero=>exact absurd hr.symm hne
 |succ m=>
 obtain⟨hr,hkl⟩:=dP hr hne;simp only[dJ,mE]at hr;simp only[Fn1.kids]at hkl;have hB':Below c.T (m+1):=fun j hj=>hB j (by omega);simp only[↓zp,zv,↓reduceIte,aA,g0,g3,g4];refine bO hp hq (is_c hp [41]) fun h hp hd hq hE=> ?_;have hk:=hk.par hd;simp only[↓zp,zv,↓reduceIte,aA];cases hx:isT c.T s [41]
 ·simp only[hx,aI,if_false]at hr;simp only[↓zp,zv,↓reduceIte,aA,hx,g0,g3,g4];refine bO hp hq (eC hp) fun h hp hd hq hE=> ?_;have hk:=hk.par hd;simp only[↓zp,zv,↓reduceIte,aA,g0,g3,g4];refine bF hq hr hne (fun _=>eE hp [46,46,46]) rfl fun b s h L U _ hr hp hd hq=> ?_;have hk:=hk.par hd
  cases b with
  |true=>
   simp only[if_true]at hr;simp only[↓zp,zv,↓reduceIte,aA,g0,g3,g4];refine bF hq hr hne (fun _=>kP hp) rfl fun x s h L U _ hr hp hd hq=> ?_;have hk:=hk.par hd;simp only[↓zp,zv,↓reduceIte,aA,g0,g3,g4];have hi:=dI hq;have hjki:=gS (v:=v);refine bZ hq hi.2 hr hne (fun _=>cO hp _ _ _ _ _ hi.1) rfl fun a s h L U _ hr hp hd hq=> ?_;have hk:=hk.parX hd hjki;simp only[↓zp,zv,↓reduceIte,aA,g0,g3,g4];refine bJ (vals:=[a]) hp hq rfl rfl (by omega) (by omega) fun vi h hi hp hd hq hbv hE=> ?_;have hjki:=dT hk (Or.inr hbv);have hk:=hk.par hd;simp only[↓zp,zv,↓reduceIte,aA,g0,g3,g4];refine cZ hp hq hk hi.1.1 (by(try unfold most at*);(try simp only[aB,aD,aC]);omega) fun vk h hk hp hq hE hc=> ?_;simp only[↓zp,zv,↓reduceIte,aA,g0,g3,g4];simp only[iH]at hr;refine bF hq hr hne (fun _=>cR hp [41]) rfl fun w s h L U _ hr hp hd hq=> ?_;have hk:=hk.par hd;simp only[↓zp,zv,↓reduceIte,aA,g0,g3,g4];refine bP hq hk.2 hr hne (fun _=>bT hp _ _ _ _ hk.1) rfl fun a s h _ hR=> ?_;simp only[↓zp,zv,↓reduceIte,aA]
   exact hR
  |false=>
   simp only[aI,if_false]at hr;simp only[↓zp,zv,↓reduceIte,aA,g0,g3,g4];refine bF hq hr hne (fun _=>kP hp) rfl fun x s h L U _ hr hp hd hq=> ?_;have hk:=hk.par hd;simp only[↓zp,zv,↓reduceIte,aA,g0,g3,g4];have hi:=dI hq;have hjki:=gS (v:=v);refine bZ hq hi.2 hr hne (fun _=>cO hp _ _ _ _ _ hi.1) rfl fun a s h L U _ hr hp hd hq=> ?_;have hk:=hk.parX hd hjki;simp only[↓zp,zv,↓reduceIte,aA,g0,g3,g4];refine bJ (vals:=[a]) hp hq rfl rfl (by omega) (by omega) fun vi h hi hp hd hq hbv hE=> ?_;have hjki:=dT hk (Or.inr hbv);have hk:=hk.par hd;simp only[↓zp,zv,↓reduceIte,aA,g0,g3,g4];refine cZ hp hq hk hi.1.1 (by(try unfold most at*);(try simp only[aB,aD,aC]);omega) fun vk h hk hp hq hE hc=> ?_;simp only[↓zp,zv,↓reduceIte,aA,g0,g3,g4];refine bO hp hq (is_c hp [41]) fun h hp hd hq hE=> ?_;have hk:=hk.par hd;simp only[↓zp,zv,↓reduceIte,aA];cases hy:isT c.T s [41]
   ·simp only[hy,aI,if_false]at hr;simp only[↓zp,zv,↓reduceIte,aA,hy,g0,g3,g4];refine bF hq hr hne (fun _=>cR hp [44]) rfl fun w s h L U _ hr hp hd hq=> ?_;have hk:=hk.par hd;simp only[↓zp,zv,↓reduceIte,aA,g0,g3,g4];refine bO hp hq (is_c hp [41]) fun h hp hd hq hE=> ?_;have hk:=hk.par hd;simp only[↓zp,zv,↓reduceIte,aA];cases hz:isT c.T s [41]
    ·simp only[hz,aI,if_false]at hr;simp only[↓zp,zv,↓reduceIte,aA,hz,g0,g3,g4];exact⟨m,by omega,L,U,_,_,_,by simp only[↓zp,zv,↓reduceIte,aA,g0],by simp only[↓zp,zv,↓reduceIte,aA,g3],by simp only[↓zp,zv,↓reduceIte,aA],hk,hp,hq,hr,by omega⟩
    ·simp only[hz,if_true]at hr;simp only[↓zp,zv,↓reduceIte,aA,hz,g0,g3,g4];exact gF hp hq hr rfl
   ·simp only[hy,if_true]at hr;simp only[↓zp,zv,↓reduceIte,aA,hy,g0,g3,g4];simp only[iH]at hr;refine bF hq hr hne (fun _=>cR hp [41]) rfl fun w s h L U _ hr hp hd hq=> ?_;have hk:=hk.par hd;simp only[↓zp,zv,↓reduceIte,aA,g0,g3,g4];refine bP hq hk.2 hr hne (fun _=>bT hp _ _ _ _ hk.1) rfl fun a s h _ hR=> ?_;simp only[↓zp,zv,↓reduceIte,aA];exact hR
 ·simp only[hx,if_true]at hr;simp only[↓zp,zv,↓reduceIte,aA,hx,g0,g3,g4];simp only[iH]at hr;refine bF hq hr hne (fun _=>cR hp [41]) rfl fun w s h L U _ hr hp hd hq=> ?_;have hk:=hk.par hd;simp only[↓zp,zv,↓reduceIte,aA,g0,g3,g4];refine bP hq hk.2 hr hne (fun _=>bT hp _ _ _ _ hk.1) rfl fun a s h _ hR=> ?_;simp only[↓zp,zv,↓reduceIte,aA];exact hR
end
section
variable{c:PC}{h:Heap}{L:Nat}{U:List Nat}{s:St}{n:Nat}{r:Res Nat}
theorem sY(hB:Below c.T n)(hp:PS h c L U s)(inn:Bool)(hr:(run c.T n).e (.assignment inn) s=r)(hne:r≠ .out):
 C aE 70 #[.pointer (some ⟨c.p,0,none⟩),.bool inn] h (POut c h L U r vint):=by
 cases n with
 |zero=>exact absurd hr.symm hne
 |succ n=>
 obtain⟨hr,_⟩:=dP hr hne;simp only[dJ,iS]at hr;have hq:Par c h L U h L U:=Par.refl _ _ _ _;refine C_in Tryz.func70 rfl rfl (by kernel_rfl) (aG rfl) ?_;simp only[↓zp,zv,↓reduceIte,aA];refine bO hp hq (eC hp) fun h hp hd hq hE=> ?_;simp only[↓zp,zv,↓reduceIte,aA];refine bO hp hq (arrow_c hp) fun h hp hd hq hE=> ?_;simp only[↓zp,zv,↓reduceIte,aA];generalize(nowT c.T s).fr=pos at hr⊢;cases ha:lV c.T s
 ·simp only[ha,aI,if_false]at hr;simp only[↓zp,zv,↓reduceIte,aA,ha];refine bF hq hr hne (fun r1 g1 g2=>(hB n (by omega)).1 c _ _ _ _ (.conditional inn) 102 _ r1 rfl rfl hp g1 g2) rfl fun e s h L U _ hr hp hd hq=> ?_;simp only[↓zp,zv,↓reduceIte,aA];refine bO hp hq (eC hp) fun h hp hd hq hE=> ?_;simp only[↓zp,zv,↓reduceIte,aA];refine bO hp hq (fT _ _) fun h hp hd hq hE=> ?_;simp only[↓zp,zv,↓reduceIte,aA];generalize(nowT c.T s).txt=op at hr⊢;obtain⟨vl,hbp⟩:=hp.p;have hpl:=hbp.lt;cases h1:(op==([]:List UInt8))
  ·have h1':decide (op=[])=false:=by simpa using h1
   simp only[h1',Bool.false_or]at hr;simp only[↓zp,zv,↓reduceIte,aA,h1,bE hbp,hpl];refine bO hp hq (lR hp.asg (by decide) _) fun h hp hd hq hE=> ?_;simp only[↓zp,zv,↓reduceIte,aA];cases h2:assignOps.contains op
   ·simp only[h2,Bool.not_false,if_true]at hr;simp only[↓zp,zv,↓reduceIte,aA,h2];subst hr;exact⟨rfl,L,U,hp,hq⟩
   ·simp only[h2,Bool.not_true,aI,if_false]at hr;simp only[↓zp,zv,↓reduceIte,aA,h2];refine bF hq hr hne (fun _=>lC hp e) rfl fun bt s h L U _ hr hp hd hq=> ?_
    cases bt with
    |false=>
     simp only[aI,if_false]at hr;simp only[↓zp,zv,↓reduceIte,aA]
     exact gF hp hq hr rfl
    |true=>
     simp only[if_true]at hr;simp only[↓zp,zv,↓reduceIte,aA];obtain⟨hlt,hr⟩:=cE hr hne;obtain⟨vl,hbp⟩:=hp.p;have hpl:=hbp.lt;have w1:=dV hp;simp only[↓zp,zv,↓reduceIte,aA,bE hbp,hpl,w1];refine cX hp hq hlt fun h hp hd hq=> ?_;simp only[↓zp,zv,↓reduceIte,aA];refine bF hq hr hne (fun _=>at_c hp e) rfl fun pe s h L U _ hr hp hd hq=> ?_;simp only[↓zp,zv,↓reduceIte,aA];refine bF hq hr hne (fun r1 g1 g2=>(hB n (by omega)).1 c _ _ _ _ (.assignment inn) 70 _ r1 rfl rfl hp g1 g2) rfl fun b s h L U _ hr hp hd hq=> ?_;simp only[↓zp,zv,↓reduceIte,aA];refine bJ (vals:=[e,b]) hp hq rfl rfl (by omega) (by omega) fun v h hk hp hd hq hbv hE=> ?_;simp only[↓zp,zv,↓reduceIte,aA];refine bP hq hk.2 hr hne (fun _=>cO hp 26 op pe _ _ hk.1) rfl fun a s h _ hR=> ?_;simp only[↓zp,zv,↓reduceIte,aA];exact hR
  ·have h1':decide (op=[])=true:=by simpa using h1
   simp only[h1',Bool.true_or,if_true]at hr;simp only[↓zp,zv,↓reduceIte,aA,h1];subst hr;exact⟨rfl,L,U,hp,hq⟩
 ·simp only[ha,if_true]at hr;simp only[↓zp,zv,↓reduceIte,aA,ha];refine bO hp hq (is_c hp [40]) fun h hp hd hq hE=> ?_;simp only[↓zp,zv,↓reduceIte,aA];cases hx:isT c.T s [40]
  ·rw[dF,hx]at hr;simp only[aI,if_false]at hr;rw[dM,dR]at hr;simp only[↓zp,zv,↓reduceIte,aA,hx];refine bF hq hr hne (fun _=>kP hp) rfl fun x s h L U _ hr hp hd hq=> ?_;rw[dR]at hr;simp only[↓zp,zv,↓reduceIte,aA];have hk:=dI hq;refine bZ hq hk.2 hr hne (fun _=>cO hp _ _ _ _ _ hk.1) rfl fun a s h L U _ hr hp hd hq=> ?_;simp only[↓zp,zv,↓reduceIte,aA];refine bJ (vals:=[a]) hp hq rfl rfl (by omega) (by omega) fun v h hk hp hd hq hbv hE=> ?_;simp only[↓zp,zv,↓reduceIte,aA];refine bZ hq hk.2 hr hne (fun _=>bT hp _ _ _ _ hk.1) rfl fun ps s h L U _ hr hp hd hq=> ?_;simp only[↓zp,zv,↓reduceIte,aA];refine bF hq hr hne (fun _=>cR hp [61,62]) rfl fun w s h L U _ hr hp hd hq=> ?_;simp only[↓zp,zv,↓reduceIte,aA];refine bO hp hq (is_c hp [123]) fun h hp hd hq hE=> ?_;simp only[↓zp,zv,↓reduceIte,aA];cases hy:isT c.T s [123]
   ·simp only[hy,aI,if_false]at hr;simp only[↓zp,zv,↓reduceIte,aA,hy];refine bF hq hr hne (fun r1 g1 g2=>(hB n (by omega)).1 c _ _ _ _ (.assignment inn) 70 _ r1 rfl rfl hp g1 g2) rfl fun b s h L U _ hr hp hd hq=> ?_;simp only[↓zp,zv,↓reduceIte,aA];refine bJ (vals:=[ps,b]) hp hq rfl rfl (by omega) (by omega) fun v h hk hp hd hq hbv hE=> ?_;simp only[↓zp,zv,↓reduceIte,aA];refine bP hq hk.2 hr hne (fun _=>bT hp _ _ _ _ hk.1) rfl fun a s h _ hR=> ?_;simp only[↓zp,zv,↓reduceIte,aA];exact hR
   ·simp only[hy,if_true]at hr;simp only[↓zp,zv,↓reduceIte,aA,hy];refine bF hq hr hne (fun r1 g1 g2=>(hB n (by omega)).1 c _ _ _ _ (.block) 101 _ r1 rfl rfl hp g1 g2) rfl fun b s h L U _ hr hp hd hq=> ?_;simp only[↓zp,zv,↓reduceIte,aA];refine bJ (vals:=[ps,b]) hp hq rfl rfl (by omega) (by omega) fun v h hk hp hd hq hbv hE=> ?_;simp only[↓zp,zv,↓reduceIte,aA];refine bP hq hk.2 hr hne (fun _=>bT hp _ _ _ _ hk.1) rfl fun a s h _ hR=> ?_;simp only[↓zp,zv,↓reduceIte,aA];exact hR
  ·rw[dF,hx]at hr;simp only[if_true]at hr;rw[dM]at hr;simp only[↓zp,zv,↓reduceIte,aA,hx];refine bF hq hr hne (fun r1 g1 g2=>(hB n (by omega)).1 c _ _ _ _ (.parameters) 97 _ r1 rfl rfl hp g1 g2) rfl fun ps s h L U _ hr hp hd hq=> ?_;simp only[↓zp,zv,↓reduceIte,aA];refine bF hq hr hne (fun _=>cR hp [61,62]) rfl fun w s h L U _ hr hp hd hq=> ?_;simp only[↓zp,zv,↓reduceIte,aA];refine bO hp hq (is_c hp [123]) fun h hp hd hq hE=> ?_;simp only[↓zp,zv,↓reduceIte,aA];cases hy:isT c.T s [123]
   ·simp only[hy,aI,if_false]at hr;simp only[↓zp,zv,↓reduceIte,aA,hy];refine bF hq hr hne (fun r1 g1 g2=>(hB n (by omega)).1 c _ _ _ _ (.assignment inn) 70 _ r1 rfl rfl hp g1 g2) rfl fun b s h L U _ hr hp hd hq=> ?_;simp only[↓zp,zv,↓reduceIte,aA];refine bJ (vals:=[ps,b]) hp hq rfl rfl (by omega) (by omega) fun v h hk hp hd hq hbv hE=> ?_;simp only[↓zp,zv,↓reduceIte,aA];refine bP hq hk.2 hr hne (fun _=>bT hp _ _ _ _ hk.1) rfl fun a s h _ hR=> ?_;simp only[↓zp,zv,↓reduceIte,aA];exact hR
   ·simp only[hy,if_true]at hr;simp only[↓zp,zv,↓reduceIte,aA,hy];refine bF hq hr hne (fun r1 g1 g2=>(hB n (by omega)).1 c _ _ _ _ (.block) 101 _ r1 rfl rfl hp g1 g2) rfl fun b s h L U _ hr hp hd hq=> ?_;simp only[↓zp,zv,↓reduceIte,aA];refine bJ (vals:=[ps,b]) hp hq rfl rfl (by omega) (by omega) fun v h hk hp hd hq hbv hE=> ?_;simp only[↓zp,zv,↓reduceIte,aA];refine bP hq hk.2 hr hne (fun _=>bT hp _ _ _ _ hk.1) rfl fun a s h _ hR=> ?_;simp only[↓zp,zv,↓reduceIte,aA];exact hR
theorem powerF_c(hB:Below c.T n)(hp:PS h c L U s)(hr:(run c.T n).e (.power) s=r)(hne:r≠ .out):
 C aE 154 #[.pointer (some ⟨c.p,0,none⟩)] h (POut c h L U r vint):=by
 cases n with
 |zero=>exact absurd hr.symm hne
 |succ n=>
 obtain⟨hr,_⟩:=dP hr hne;simp only[dJ,pV]at hr;have hq:Par c h L U h L U:=Par.refl _ _ _ _;refine C_in Tryz.func154 rfl rfl (by kernel_rfl) (aG rfl) ?_;simp only[↓zp,zv,↓reduceIte,aA];refine bO hp hq (oY hp) fun h hp hd hq hE=> ?_;simp only[↓zp,zv,↓reduceIte,aA];generalize nC c.T s=sg at hr⊢;refine bF hq hr hne (fun r1 g1 g2=>(hB n (by omega)).1 c _ _ _ _ (.unary) 177 _ r1 rfl rfl hp g1 g2) rfl fun e s h L U _ hr hp hd hq=> ?_;simp only[↓zp,zv,↓reduceIte,aA];refine bO hp hq (is_c hp [42,42]) fun h hp hd hq hE=> ?_;simp only[↓zp,zv,↓reduceIte,aA];cases hx:isT c.T s [42,42]
 ·simp only[hx,Bool.not_false,if_true]at hr;simp only[↓zp,zv,↓reduceIte,aA,hx];subst hr;exact⟨rfl,L,U,hp,hq⟩
 ·simp only[hx,Bool.not_true,aI,if_false]at hr
  cases sg with
  |true=>
   simp only[if_true]at hr;simp only[↓zp,zv,↓reduceIte,aA,hx]
   exact gF hp hq hr rfl
  |false=>
   simp only[aI,if_false]at hr;simp only[↓zp,zv,↓reduceIte,aA,hx];obtain⟨hlt,hr⟩:=cE hr hne;obtain⟨vl,hbp⟩:=hp.p;have hpl:=hbp.lt;have w1:=dV hp;simp only[↓zp,zv,↓reduceIte,aA,bE hbp,hpl,w1];refine cX hp hq hlt fun h hp hd hq=> ?_;simp only[↓zp,zv,↓reduceIte,aA];refine bF hq hr hne (fun _=>at_c hp e) rfl fun pe s h L U _ hr hp hd hq=> ?_;simp only[↓zp,zv,↓reduceIte,aA];refine bF hq hr hne (fun r1 g1 g2=>(hB n (by omega)).1 c _ _ _ _ (.power) 154 _ r1 rfl rfl hp g1 g2) rfl fun b s h L U _ hr hp hd hq=> ?_;simp only[↓zp,zv,↓reduceIte,aA];refine bJ (vals:=[e,b]) hp hq rfl rfl (by omega) (by omega) fun v h hk hp hd hq hbv hE=> ?_;simp only[↓zp,zv,↓reduceIte,aA];refine bP hq hk.2 hr hne (fun _=>cO hp 22 _ _ _ _ hk.1) rfl fun a s h _ hR=> ?_;simp only[↓zp,zv,↓reduceIte,aA];exact hR
end
end
section
theorem M_bindp{α:Type}{m:M α}{s:St}:(m>>=Pure.pure) s=m s:=by
 show M.bind m M.pure s=m s;unfold M.bind M.pure;cases m s<;>rfl
theorem jC{α β:Type}{m:M α}{f:α→M β}{s s':St}{b:β}(h:(m>>=f) s=.ok b s'):∃a s1,m s=.ok a s1∧f a s1=.ok b s':=by
 cases hm:m s with
 |ok a s1=>exact⟨a,s1,rfl,by rw[←h,eX hm]⟩
 |err p=>rw[fQ hm]at h;cases h
 |out=>rw[eK hm]at h;cases h
theorem rB{T:List Tk}:∀(n:Nat) (f:FnL) (s:St) (ks:List Nat) (s':St),(run T n).l f s=.ok ks s'→ks.length<most:=by
 intro n
 induction n with
 |zero=>intro f s ks s' h;cases h
 |succ n ih=>
  intro f s ks s' h;obtain⟨h,hk⟩:=xM h (by simp)
  cases f with
  |list=>exact ih _ _ _ _ h
  |listLoop kids=>
   simp only[mX,iY]at h;split at h
   ·cases h;exact hk
   ·obtain⟨a,s1,h1,h2⟩:=jC h
    exact ih _ _ _ _ h2
  |arguments=>
   simp only[mX,iI]at h;obtain⟨a,s1,h1,h2⟩:=jC h;obtain⟨b,s2,h3,h4⟩:=jC h2
   cases b with
   |true=>cases h4;decide
   |false=>
    obtain⟨a,s1,h1,h2⟩:=jC h4
    exact ih _ _ _ _ h2
  |argLoop kids=>
   simp only[mX,jW]at h;obtain⟨b,s2,h3,h4⟩:=jC h
   cases b with
   |true=>
    obtain⟨a,s1,h1,h2⟩:=jC h4
    exact ih _ _ _ _ h2
   |false=>
    obtain⟨a,s1,h1,h2⟩:=jC h4;cases h2;exact hk
theorem qA{α:Type}{n:Nat}{f:Nat→M α}{s:St}{r:Res α}(h:(posM n>>=f) s=r)(hne:r≠ .out):∃x,s.ns[n]? =some x∧f x.pos s=r:=by
 cases hx:s.ns[n]? with
 |none=>exact absurd (by rw[←h,eK (by unfold posM;rw[hx])]) hne
 |some x=>exact⟨x,rfl,by rw[←h,eX (a:=x.pos) (s':=s) (by unfold posM;rw[hx])]⟩
theorem arr3{α:Type}{l:List α}:(#[]++l.toArray++#[]:Array α)=l.toArray:=by simp
theorem qH{h:Heap}{c:PC}{L:Nat}{U:List Nat}{s:St}(hp:PS h c L U s){n:Nat}{x:Nd}(hx:s.ns[n]? =some x):
 C aE 44 #[.pointer (some ⟨c.p,0,none⟩),.int .i64 (n:Int)] h fun e h'=>e=.returned (vint x.pos)∧h'=h:=by
 obtain⟨b,cap,kv,hb,hbl,hcell,_⟩:=hp.nodeAt hx;have hpl:=hb.lt;have hn:0≤(n:Int)∧(n:Int)<(s.ns.length:Nat):=by have:=(List.getElem?_eq_some_iff.1 hx).1;omega
 have hc5:=hcell 5 (by omega);simp only[bM,fI,fP]at hc5;refine C_in Tryz.func44 rfl rfl (by kernel_rfl) (aG rfl) ?_;simp only[↓zp,zw,↓reduceIte,aA,bE hb,hpl,hn,aF,hc5];exact⟨rfl,trivial⟩
section
variable{c:PC}{h:Heap}{L:Nat}{U:List Nat}{s:St}{n:Nat}{r:Res Nat}
theorem unaryF_c(hB:Below c.T n)(hp:PS h c L U s)(hr:(run c.T n).e (.unary) s=r)(hne:r≠ .out):
 C aE 177 #[.pointer (some ⟨c.p,0,none⟩)] h (POut c h L U r vint):=by
 cases n with
 |zero=>exact absurd hr.symm hne
 |succ n=>
 obtain⟨hr,_⟩:=dP hr hne;simp only[dJ,pT]at hr;have hq:Par c h L U h L U:=Par.refl _ _ _ _;refine C_in Tryz.func177 rfl rfl (by kernel_rfl) (aG rfl) ?_;simp only[↓zp,zv,↓reduceIte,aA];refine bO hp hq (eC hp) fun h hp hd hq hE=> ?_;simp only[↓zp,zv,↓reduceIte,aA];have hbx:Blk (h.push (.cells (nowT c.T (s)).cells.toArray 73)) h.size (nowT c.T (s)).cells 73:=Blk.new;have hlx:Loc (h.push (.cells (nowT c.T (s)).cells.toArray 73)) c _ _ h.size:=Loc.new hp (bA _) (by simp);have hEx:Ext [] h (h.push (.cells (nowT c.T (s)).cells.toArray 73)):=Ext.push _ _ _;have hp:=hp.ext0 hEx;have hq:=hq.ext0 hEx;generalize h.push (.cells (nowT c.T (s)).cells.toArray 73)=hx at hbx hlx hEx hp hq⊢;generalize hzx:h.size=bx at hbx hlx⊢;refine bO hp hq (oY hp) fun h hp hd hq hE=> ?_;have hbx:=hlx.blk hbx hd;have hlx:=hlx.par hd;simp only[↓zp,zv,↓reduceIte,aA];cases hs:nC c.T s
 ·simp only[hs,aI,if_false]at hr;simp only[↓zp,zv,↓reduceIte,aA,hs];refine bO hp hq (is_c hp [43,43]) fun h hp hd hq hE=> ?_;have hbx:=hlx.blk hbx hd;have hlx:=hlx.par hd;simp only[↓zp,zv,↓reduceIte,aA];cases h1:isT c.T s [43,43]
  ·simp only[↓zp,zv,↓reduceIte,aA,h1];refine bO hp hq (is_c hp [45,45]) fun h hp hd hq hE=> ?_;have hbx:=hlx.blk hbx hd;have hlx:=hlx.par hd;simp only[↓zp,zv,↓reduceIte,aA];cases h2:isT c.T s [45,45]
   ·simp only[h1,h2,Bool.or_false,aI,if_false]at hr;simp only[↓zp,zv,↓reduceIte,aA,h2];refine bF hq hr hne (fun r1 g1 g2=>(hB n (by omega)).1 c _ _ _ _ (.member) 199 _ r1 rfl rfl hp g1 g2) rfl fun e s h L U _ hr hp hd hq=> ?_;simp only[↓zp,zv,↓reduceIte,aA];refine bO hp hq (eC hp) fun h hp hd hq hE=> ?_;simp only[↓zp,zv,↓reduceIte,aA];have hbz:Blk (h.push (.cells (nowT c.T (s)).cells.toArray 73)) h.size (nowT c.T (s)).cells 73:=Blk.new;have hlz:Loc (h.push (.cells (nowT c.T (s)).cells.toArray 73)) c _ _ h.size:=Loc.new hp (bA _) (by simp);have hEz:Ext [] h (h.push (.cells (nowT c.T (s)).cells.toArray 73)):=Ext.push _ _ _;have hp:=hp.ext0 hEz;have hq:=hq.ext0 hEz;generalize h.push (.cells (nowT c.T (s)).cells.toArray 73)=hz at hbz hlz hEz hp hq⊢;generalize hzz:h.size=bz at hbz hlz⊢;refine bO hp hq (is_c hp [43,43]) fun h hp hd hq hE=> ?_;have hbz:=hlz.blk hbz hd;have hlz:=hlz.par hd;simp only[↓zp,zv,↓reduceIte,aA];cases h3:isT c.T s [43,43]
    ·simp only[↓zp,zv,↓reduceIte,aA,h3];refine bO hp hq (is_c hp [45,45]) fun h hp hd hq hE=> ?_;have hbz:=hlz.blk hbz hd;have hlz:=hlz.par hd;simp only[↓zp,zv,↓reduceIte,aA];cases h4:isT c.T s [45,45]
     ·simp only[h3,h4,Bool.or_false,Bool.false_and,aI,if_false]at hr;simp only[↓zp,zv,↓reduceIte,aA,h4];subst hr;exact⟨rfl,L,U,hp,hq⟩
     ·simp only[↓zp,zv,↓reduceIte,aA,h4,bE hbz];cases h5:(nowT c.T s).line
      ·simp only[h3,h4,h5,Bool.or_true,Bool.not_false,Bool.and_true,if_true]at hr;simp only[↓zp,zv,↓reduceIte,aA,h5];refine bF hq hr hne (fun _=>lC hp e) rfl fun bt s h L U _ hr hp hd hq=> ?_;have hbz:=hlz.blk hbz hd;have hlz:=hlz.par hd
       cases bt with
       |false=>
        simp only[aI,if_false]at hr;simp only[↓zp,zv,↓reduceIte,aA]
        exact gF hp hq hr rfl
       |true=>
        simp only[if_true]at hr;simp only[↓zp,zv,↓reduceIte,aA];obtain⟨hlt,hr⟩:=cE hr hne;obtain⟨vl,hbp⟩:=hp.p;have hpl:=hbp.lt;have w1:=dV hp;simp only[↓zp,zv,↓reduceIte,aA,bE hbp,hpl,w1];refine cX hp hq hlt fun h hp hd hq=> ?_;have hbz:=hlz.blk hbz hd;have hlz:=hlz.par hd;simp only[↓zp,zv,↓reduceIte,aA];obtain⟨xe,hxe,hr⟩:=qA hr hne;refine fW 8 [(0,true),(1,true),(2,true),(3,true),(4,true),(6,true),(5,true),(7,false)] (fun h1=>Blk h1 bz _ 73∧PS h1 c _ _ _) (by kernel_rfl) (by kernel_rfl) ⟨hbz,hp⟩ ?_;simp only[Wo,fI,fP,if_true,aI,if_false]
        iterate 6 refine⟨_,.inl fun h1 hS1=>by simp only[rdOp];simp only[↓zp,zv,↓reduceIte,aA,bE hS1.1];rfl,?_⟩
        refine⟨vint xe.pos,.inr ⟨_,_,_,44,#[],#[],rfl,rfl,by kernel_rfl,fun h1 hS1=>by simp only[arr3,aH,aJ,aK];simp only[↓zp,zv,↓reduceIte,aA];exact qH hS1.2 hxe⟩,?_⟩;refine cY rfl ?_;simp only[↓zp,zv,↓reduceIte,aA];refine bJ (vals:=[e]) hp hq rfl rfl (by omega) (by omega) fun v h hk hp hd hq hbv hE=> ?_;have hxzk:=bX hlz (Or.inr hbv);have hbz:=hlz.blk hbz hd;have hlz:=hlz.par hd;simp only[↓zp,zv,↓reduceIte,aA];refine⟨⟨hbz,hp⟩,?_⟩;simp only[List.drop_succ_cons,List.drop_zero];simp only[↓zp,zv,↓reduceIte,aA];refine bP hq hk.2 hr hne (fun _=>cO hp 21 _ _ _ _ hk.1) rfl fun a s h _ hR=> ?_;simp only[↓zp,zv,↓reduceIte,aA];exact hR
      ·simp only[h3,h4,h5,Bool.or_true,Bool.not_true,Bool.and_false,aI,if_false]at hr;simp only[↓zp,zv,↓reduceIte,aA,h5];subst hr;exact⟨rfl,L,U,hp,hq⟩
    ·simp only[↓zp,zv,↓reduceIte,aA,h3,bE hbz];cases h5:(nowT c.T s).line
     ·simp only[h3,h5,Bool.true_or,Bool.not_false,Bool.and_true,if_true]at hr;simp only[↓zp,zv,↓reduceIte,aA,h5];refine bF hq hr hne (fun _=>lC hp e) rfl fun bt s h L U _ hr hp hd hq=> ?_;have hbz:=hlz.blk hbz hd;have hlz:=hlz.par hd
      cases bt with
      |false=>
       simp only[aI,if_false]at hr;simp only[↓zp,zv,↓reduceIte,aA]
       exact gF hp hq hr rfl
      |true=>
       simp only[if_true]at hr;simp only[↓zp,zv,↓reduceIte,aA];obtain⟨hlt,hr⟩:=cE hr hne;obtain⟨vl,hbp⟩:=hp.p;have hpl:=hbp.lt;have w1:=dV hp;simp only[↓zp,zv,↓reduceIte,aA,bE hbp,hpl,w1];refine cX hp hq hlt fun h hp hd hq=> ?_;have hbz:=hlz.blk hbz hd;have hlz:=hlz.par hd;simp only[↓zp,zv,↓reduceIte,aA];obtain⟨xe,hxe,hr⟩:=qA hr hne;refine fW 8 [(0,true),(1,true),(2,true),(3,true),(4,true),(6,true),(5,true),(7,false)] (fun h1=>Blk h1 bz _ 73∧PS h1 c _ _ _) (by kernel_rfl) (by kernel_rfl) ⟨hbz,hp⟩ ?_;simp only[Wo,fI,fP,if_true,aI,if_false]
       iterate 6 refine⟨_,.inl fun h1 hS1=>by simp only[rdOp];simp only[↓zp,zv,↓reduceIte,aA,bE hS1.1];rfl,?_⟩
       refine⟨vint xe.pos,.inr ⟨_,_,_,44,#[],#[],rfl,rfl,by kernel_rfl,fun h1 hS1=>by simp only[arr3,aH,aJ,aK];simp only[↓zp,zv,↓reduceIte,aA];exact qH hS1.2 hxe⟩,?_⟩;refine cY rfl ?_;simp only[↓zp,zv,↓reduceIte,aA];refine bJ (vals:=[e]) hp hq rfl rfl (by omega) (by omega) fun v h hk hp hd hq hbv hE=> ?_;have hxzk:=bX hlz (Or.inr hbv);have hbz:=hlz.blk hbz hd;have hlz:=hlz.par hd;simp only[↓zp,zv,↓reduceIte,aA];refine⟨⟨hbz,hp⟩,?_⟩;simp only[List.drop_succ_cons,List.drop_zero];simp only[↓zp,zv,↓reduceIte,aA];refine bP hq hk.2 hr hne (fun _=>cO hp 21 _ _ _ _ hk.1) rfl fun a s h _ hR=> ?_;simp only[↓zp,zv,↓reduceIte,aA];exact hR
     ·simp only[h3,h5,Bool.true_or,Bool.not_true,Bool.and_false,aI,if_false]at hr;simp only[↓zp,zv,↓reduceIte,aA,h5];subst hr;exact⟨rfl,L,U,hp,hq⟩
   ·simp only[h1,h2,Bool.or_true,if_true]at hr;simp only[↓zp,zv,↓reduceIte,aA,h2];obtain⟨hlt,hr⟩:=cE hr hne;obtain⟨vl,hbp⟩:=hp.p;have hpl:=hbp.lt;have w1:=dV hp;simp only[↓zp,zv,↓reduceIte,aA,bE hbp,hpl,w1];refine cX hp hq hlt fun h hp hd hq=> ?_;have hbx:=hlx.blk hbx hd;have hlx:=hlx.par hd;simp only[↓zp,zv,↓reduceIte,aA];refine bF hq hr hne (fun r1 g1 g2=>(hB n (by omega)).1 c _ _ _ _ (.unary) 177 _ r1 rfl rfl hp g1 g2) rfl fun e s h L U _ hr hp hd hq=> ?_;have hbx:=hlx.blk hbx hd;have hlx:=hlx.par hd;simp only[↓zp,zv,↓reduceIte,aA];refine bF hq hr hne (fun _=>lC hp e) rfl fun bt s h L U _ hr hp hd hq=> ?_;have hbx:=hlx.blk hbx hd;have hlx:=hlx.par hd
    cases bt with
    |false=>
     simp only[aI,if_false]at hr;simp only[↓zp,zv,↓reduceIte,aA,bE hbx];refine eF ?_;subst hr
     exact⟨rfl,hq.E⟩
    |true=>
     simp only[if_true]at hr;simp only[↓zp,zv,↓reduceIte,aA,bE hbx];refine bJ (vals:=[e]) hp hq rfl rfl (by omega) (by omega) fun v h hk hp hd hq hbv hE=> ?_;have hxxk:=bX hlx (Or.inr hbv);have hbx:=hlx.blk hbx hd;have hlx:=hlx.par hd;simp only[↓zp,zv,↓reduceIte,aA];refine bP hq hk.2 hr hne (fun _=>cO hp 20 _ _ _ _ hk.1) rfl fun a s h _ hR=> ?_;simp only[↓zp,zv,↓reduceIte,aA];exact hR
  ·simp only[h1,Bool.true_or,if_true]at hr;simp only[↓zp,zv,↓reduceIte,aA,h1];obtain⟨hlt,hr⟩:=cE hr hne;obtain⟨vl,hbp⟩:=hp.p;have hpl:=hbp.lt;have w1:=dV hp;simp only[↓zp,zv,↓reduceIte,aA,bE hbp,hpl,w1];refine cX hp hq hlt fun h hp hd hq=> ?_;have hbx:=hlx.blk hbx hd;have hlx:=hlx.par hd;simp only[↓zp,zv,↓reduceIte,aA];refine bF hq hr hne (fun r1 g1 g2=>(hB n (by omega)).1 c _ _ _ _ (.unary) 177 _ r1 rfl rfl hp g1 g2) rfl fun e s h L U _ hr hp hd hq=> ?_;have hbx:=hlx.blk hbx hd;have hlx:=hlx.par hd;simp only[↓zp,zv,↓reduceIte,aA];refine bF hq hr hne (fun _=>lC hp e) rfl fun bt s h L U _ hr hp hd hq=> ?_;have hbx:=hlx.blk hbx hd;have hlx:=hlx.par hd
   cases bt with
   |false=>
    simp only[aI,if_false]at hr;simp only[↓zp,zv,↓reduceIte,aA,bE hbx];refine eF ?_;subst hr
    exact⟨rfl,hq.E⟩
   |true=>
    simp only[if_true]at hr;simp only[↓zp,zv,↓reduceIte,aA,bE hbx];refine bJ (vals:=[e]) hp hq rfl rfl (by omega) (by omega) fun v h hk hp hd hq hbv hE=> ?_;have hxxk:=bX hlx (Or.inr hbv);have hbx:=hlx.blk hbx hd;have hlx:=hlx.par hd;simp only[↓zp,zv,↓reduceIte,aA];refine bP hq hk.2 hr hne (fun _=>cO hp 20 _ _ _ _ hk.1) rfl fun a s h _ hR=> ?_;simp only[↓zp,zv,↓reduceIte,aA];exact hR
 ·simp only[hs,if_true]at hr;simp only[↓zp,zv,↓reduceIte,aA,hs];obtain⟨hlt,hr⟩:=cE hr hne;obtain⟨vl,hbp⟩:=hp.p;have hpl:=hbp.lt;have w1:=dV hp;simp only[↓zp,zv,↓reduceIte,aA,bE hbp,hpl,w1];refine cX hp hq hlt fun h hp hd hq=> ?_;have hbx:=hlx.blk hbx hd;have hlx:=hlx.par hd;simp only[↓zp,zv,↓reduceIte,aA];refine dL [(0,true),(1,true),(2,true),(3,true),(4,true),(5,true),(6,false),(7,false),(8,false),(9,false)] (fun h1=>Blk h1 bx _ 73) (by kernel_rfl) (by kernel_rfl) (by kernel_rfl) rfl hbx ?_;simp only[Wo,fI,fP,if_true,aI,if_false]
  iterate 6 refine⟨_,.inl fun h1 hS1=>by simp only[rdOp];simp only[↓zp,zv,↓reduceIte,aA,bE hS1];rfl,?_⟩
  refine cY rfl ?_;simp only[↓zp,zv,↓reduceIte,aA];refine bF hq hr hne (fun r1 g1 g2=>(hB n (by omega)).1 c _ _ _ _ (.unary) 177 _ r1 rfl rfl hp g1 g2) rfl fun e s h L U _ hr hp hd hq=> ?_;have hbx:=hlx.blk hbx hd;have hlx:=hlx.par hd;simp only[↓zp,zv,↓reduceIte,aA];refine⟨hbx,?_⟩;refine cY rfl ?_;simp only[↓zp,zv,↓reduceIte,aA];refine bJ (vals:=[e]) hp hq rfl rfl (by omega) (by omega) fun v h hk hp hd hq hbv hE=> ?_;have hxxk:=bX hlx (Or.inr hbv);have hbx:=hlx.blk hbx hd;have hlx:=hlx.par hd;simp only[↓zp,zv,↓reduceIte,aA];refine⟨hbx,?_⟩;refine cY rfl ?_;simp only[↓zp,zv,↓reduceIte,aA];have hr:=M_bindp.trans hr;refine bZ hq hk.2 hr hne (fun _=>cO hp 19 _ _ _ _ hk.1) rfl fun a s h L U _ hr hp hd hq=> ?_;have hbx:=hlx.blkX hbx hd;have hlx:=hlx.parX hd hxxk;simp only[↓zp,zv,↓reduceIte,aA];refine⟨hbx,?_⟩;refine cY rfl ?_;simp only[↓zp,zv,↓reduceIte,aA];refine⟨hbx,?_⟩;subst hr;exact⟨rfl,L,U,hp,hq⟩
theorem makerF_c(hB:Below c.T n)(hp:PS h c L U s)(hr:(run c.T n).e (.maker) s=r)(hne:r≠ .out):
 C aE 213 #[.pointer (some ⟨c.p,0,none⟩)] h (POut c h L U r vint):=by
 cases n with
 |zero=>exact absurd hr.symm hne
 |succ n=>
 obtain⟨hr,_⟩:=dP hr hne;simp only[dJ,pW]at hr;have hq:Par c h L U h L U:=Par.refl _ _ _ _;refine C_in Tryz.func213 rfl rfl (by kernel_rfl) (aG rfl) ?_;simp only[↓zp,zv,↓reduceIte,aA];refine bF hq hr hne (fun _=>cR hp [110,101,119]) rfl fun pos s h L U _ hr hp hd hq=> ?_;simp only[↓zp,zv,↓reduceIte,aA];refine bO hp hq (is_c hp [110,101,119]) fun h hp hd hq hE=> ?_;simp only[↓zp,zv,↓reduceIte,aA];cases h1:isT c.T s [110,101,119]
 all_goals
  rw[dF,h1]at hr;simp only[aI,if_false,if_true]at hr
  try rw[dM]at hr
  simp only[↓zp,zv,↓reduceIte,aA,h1]
  first
   |refine bF hq hr hne (fun r1 g1 g2=>(hB n (by omega)).1 c _ _ _ _ (.maker) 213 _ r1 rfl rfl hp g1 g2) rfl fun k0 s h L U _ hr hp hd hq=> ?_
   |refine bF hq hr hne (fun r1 g1 g2=>(hB n (by omega)).1 c _ _ _ _ (.primary) 214 _ r1 rfl rfl hp g1 g2) rfl fun k0 s h L U _ hr hp hd hq=> ?_
  simp only[↓zp,zv,↓reduceIte,aA];refine bF hq hr hne (fun r1 g1 g2=>(hB n (by omega)).1 c _ _ _ _ (.tail _ false) 212 _ r1 rfl rfl hp g1 g2) rfl fun k1 s h L U _ hr hp hd hq=> ?_;simp only[↓zp,zv,↓reduceIte,aA];refine bJ (vals:=[k1]) hp hq rfl rfl (by omega) (by omega) fun v h hk hp hd hq hbv hE=> ?_;simp only[↓zp,zv,↓reduceIte,aA];refine bO hp hq (is_c hp [40]) fun h hp hd hq hE=> ?_;have hk:=hk.par hd;simp only[↓zp,zv,↓reduceIte,aA];cases h2:isT c.T s [40]
  ·simp only[h2,aI,if_false]at hr;simp only[↓zp,zv,↓reduceIte,aA,h2];refine bP hq hk.2 hr hne (fun _=>bT hp 16 _ _ _ hk.1) rfl fun a s h _ hR=> ?_;simp only[↓zp,zv,↓reduceIte,aA];exact hR
  ·simp only[h2,if_true]at hr;simp only[↓zp,zv,↓reduceIte,aA,h2];rw[dM]at hr;refine mV hq hr hne (fun r1 g1 g2=>((hB n (by omega)).2 c _ _ _ _ r1 rfl hp g2).2 g1) rfl fun vi ksi s h L U hrun hr hp hd hq hi hfr=> ?_;have hjki:=lP hk hfr;have hk:=hk.par hd;have hlen:=rB _ _ _ _ _ hrun;simp only[↓zp,zv,↓reduceIte,aA];refine cZ hp hq hk hi.1.1 (by(try unfold most at*);(try simp only[aB,aD,aC]);omega) fun vk h hk hp hq hE hc=> ?_;simp only[↓zp,zv,↓reduceIte,aA];refine bP hq hk.2 hr hne (fun _=>bT hp 16 _ _ _ hk.1) rfl fun a s h _ hR=> ?_;simp only[↓zp,zv,↓reduceIte,aA];exact hR
end
end
section
section
variable{α β:Type}{c:PC}{h0 h:Heap}{L0 L:Nat}{U0 U:List Nat}{s:St}{fn:Nat}{args:Array Value}{k:Env→Heap→Prop}{ρ:Env}{dst:Option Nat}{r:Res β}
theorem jD {m:M α} {f:α→M β} {val:α→Value} (hq:Par c h0 L0 U0 h L U) (hrun:(m>>=f) s=r) (hne:r≠ .out)
 (hc:∀r1,m s=r1→r1≠ .out→C aE fn args h (POut c h L U r1 val))
 {E:List PanicEntry→Heap→Prop} (hE:∀p h',r=.err p→Ext [c.p,L0] h0 h'→E (perr p) h')
 {t:Tok (eH k E ρ dst)}
 (hok:∀a s1 h1 L1 U1,m s=.ok a s1→f a s1=r→PS h1 c L1 U1 s1→Par c h L U h1 L1 U1→Par c h0 L0 U0 h1 L1 U1→k (ρ.put dst (val a)) h1):
 CT aE fn args h (eH k E ρ dst) t:=by
 cases hm:m s with
 |ok a s1=>
  refine bH (hc _ hm (by simp)) ?_;rintro e h1 ⟨rfl,L1,U1,hp1,hq1⟩
  exact hok a s1 h1 L1 U1 hm (by rw[←hrun,eX hm]) hp1 hq1 (hq.trans hq1)
 |err p=>
  refine bH (hc _ hm (by simp)) ?_;rintro e h1 ⟨rfl,hE1⟩
  exact hE p h1 (by rw[←hrun,fQ hm]) (iE hq hE1)
 |out=>exact absurd (by rw[←hrun,eK hm]) hne
end
theorem errK{c:PC}{h0:Heap}{L0:Nat}{U0:List Nat}{r:Res (List Nat)}:∀p h',r=.err p→Ext [c.p,L0] h0 h'→(fun ch h'=>pM c h0 L0 U0 r (.panicked ch) h') (perr p) h':=by
 rintro p h' rfl hE;exact⟨rfl,hE⟩
section
variable{c:PC}{h0:Heap}{L0:Nat}{U0:List Nat}{s:St}{n:Nat}
theorem tailF_c{r:Res Nat}(hB:Below c.T n)(hp:PS h0 c L0 U0 s)(e:Nat)(calls:Bool)(hr:(run c.T n).e (.tail e calls) s=r)(hne:r≠ .out):
 C aE 212 #[.pointer (some ⟨c.p,0,none⟩),vint e,.bool calls] h0 (POut c h0 L0 U0 r vint):=by
 have hq:Par c h0 L0 U0 h0 L0 U0:=Par.refl _ _ _ _;refine C_in Tryz.func212 rfl rfl (by kernel_rfl) (aG rfl) ?_;simp only[↓zp,zv,↓reduceIte,aA]
 refine⟨fun m ρ h'=> ∃L U s' e,ρ 0=.pointer (some ⟨c.p,0,none⟩)∧ρ 1=vint e∧ρ 2=.bool calls∧PS h' c L U s'∧Par c h0 L0 U0 h' L U∧(run c.T m).e (.tail e calls) s'=r∧m≤n,n,
  ⟨L0,U0,s,e,by simp only[↓zp,zv,↓reduceIte,aA],by simp only[↓zp,zv,↓reduceIte,aA],by simp only[↓zp,zv,↓reduceIte,aA],hp,hq,hr,bA _⟩,?_⟩
 clear hr hp hq;rintro m ρ h3 ⟨L,U,s,e,g0,g1,g2,hp,hq,hr,hm⟩
 cases m with
 |zero=>exact absurd hr.symm hne
 |succ m=>
 obtain⟨hr,hkl⟩:=dP hr hne;simp only[dJ,uS]at hr;simp only[Fn1.kids]at hkl;have hB':Below c.T (m+1):=fun j hj=>hB j (by omega);simp only[↓zp,zv,↓reduceIte,aA,g0,g1,g2];refine bF hq hr hne (fun _=>eE hp [46]) rfl fun b s h L U _ hr hp hd hq=> ?_
 cases b with
 |true=>
  simp only[if_true]at hr;simp only[↓zp,zv,↓reduceIte,aA,g0,g1,g2];refine bO hp hq (eC hp) fun h hp hd hq hE=> ?_;simp only[↓zp,zv,↓reduceIte,aA,g0,g1,g2];have hbx:Blk (h.push (.cells (nowT c.T (s)).cells.toArray 73)) h.size (nowT c.T (s)).cells 73:=Blk.new;have hlx:Loc (h.push (.cells (nowT c.T (s)).cells.toArray 73)) c _ _ h.size:=Loc.new hp (bA _) (by simp);have hEx:Ext [] h (h.push (.cells (nowT c.T (s)).cells.toArray 73)):=Ext.push _ _ _;have hp:=hp.ext0 hEx;have hq:=hq.ext0 hEx;generalize h.push (.cells (nowT c.T (s)).cells.toArray 73)=hx at hbx hlx hEx hp hq⊢;generalize hzx:h.size=bx at hbx hlx⊢;by_cases hk1:(nowT c.T s).kind=1
  ·have e1:(((nowT c.T s).kind:Int) !=1)=false:=by simp[hk1]
   rw[if_neg (by simp[hk1])]at hr;simp only[↓zp,zv,↓reduceIte,aA,bE hbx,e1,g0,g1,g2];obtain⟨hlt,hr⟩:=cE hr hne;obtain⟨vl,hbp⟩:=hp.p;have hpl:=hbp.lt;have w1:=dV hp;simp only[↓zp,zv,↓reduceIte,aA,bE hbp,hpl,w1];refine cX hp hq hlt fun h hp hd hq=> ?_;have hbx:=hlx.blk hbx hd;have hlx:=hlx.par hd;simp only[↓zp,zv,↓reduceIte,aA,g0,g1,g2];obtain⟨xe,hxe,hr⟩:=qA hr hne;refine fW 8 [(0,true),(1,true),(2,true),(3,true),(4,true),(6,true),(5,true),(7,false)] (fun h1=>Blk h1 bx _ 73∧PS h1 c _ _ _) (by kernel_rfl) (by kernel_rfl) ⟨hbx,hp⟩ ?_;simp only[Wo,fI,fP,if_true,aI,if_false]
   iterate 6 refine⟨_,.inl fun h1 hS1=>by simp only[rdOp];simp only[↓zp,zv,↓reduceIte,aA,bE hS1.1,g0,g1,g2];rfl,?_⟩
   refine⟨vint xe.pos,.inr ⟨_,_,_,44,#[],#[],rfl,rfl,by kernel_rfl,fun h1 hS1=>by simp only[arr3,aH,aJ,aK];simp only[↓zp,zv,↓reduceIte,aA,g0,g1,g2];exact qH hS1.2 hxe⟩,?_⟩;refine cY rfl ?_;simp only[↓zp,zv,↓reduceIte,aA,g0,g1,g2];refine bJ (vals:=[e]) hp hq rfl rfl (by omega) (by omega) fun v h hk hp hd hq hbv hE=> ?_;have hxxk:=bX hlx (Or.inr hbv);have hbx:=hlx.blk hbx hd;have hlx:=hlx.par hd;simp only[↓zp,zv,↓reduceIte,aA,g0,g1,g2];refine⟨⟨hbx,hp⟩,?_⟩;simp only[List.drop_succ_cons,List.drop_zero];simp only[↓zp,zv,↓reduceIte,aA,g0,g1,g2];refine bZ hq hk.2 hr hne (fun _=>cO hp 17 _ _ _ _ hk.1) rfl fun a s h L U _ hr hp hd hq=> ?_;have hbx:=hlx.blkX hbx hd;have hlx:=hlx.parX hd hxxk;simp only[↓zp,zv,↓reduceIte,aA,g0,g1,g2];exact⟨m,by omega,L,U,_,a,by simp only[↓zp,zv,↓reduceIte,aA,g0],by simp only[↓zp,zv,↓reduceIte,aA],by simp only[↓zp,zv,↓reduceIte,aA,g2],hp,hq,hr,by omega⟩
  ·have e1:(((nowT c.T s).kind:Int) !=1)=true:=by simp;omega
   by_cases hk2:(nowT c.T s).kind=2
   ·have e2:(((nowT c.T s).kind:Int) !=2)=false:=by simp[hk2]
    rw[if_neg (by simp[hk2])]at hr;simp only[↓zp,zv,↓reduceIte,aA,bE hbx,e1,e2,g0,g1,g2];obtain⟨hlt,hr⟩:=cE hr hne;obtain⟨vl,hbp⟩:=hp.p;have hpl:=hbp.lt;have w1:=dV hp;simp only[↓zp,zv,↓reduceIte,aA,bE hbp,hpl,w1];refine cX hp hq hlt fun h hp hd hq=> ?_;have hbx:=hlx.blk hbx hd;have hlx:=hlx.par hd;simp only[↓zp,zv,↓reduceIte,aA,g0,g1,g2];obtain⟨xe,hxe,hr⟩:=qA hr hne;refine fW 8 [(0,true),(1,true),(2,true),(3,true),(4,true),(6,true),(5,true),(7,false)] (fun h1=>Blk h1 bx _ 73∧PS h1 c _ _ _) (by kernel_rfl) (by kernel_rfl) ⟨hbx,hp⟩ ?_;simp only[Wo,fI,fP,if_true,aI,if_false]
    iterate 6 refine⟨_,.inl fun h1 hS1=>by simp only[rdOp];simp only[↓zp,zv,↓reduceIte,aA,bE hS1.1,g0,g1,g2];rfl,?_⟩
    refine⟨vint xe.pos,.inr ⟨_,_,_,44,#[],#[],rfl,rfl,by kernel_rfl,fun h1 hS1=>by simp only[arr3,aH,aJ,aK];simp only[↓zp,zv,↓reduceIte,aA,g0,g1,g2];exact qH hS1.2 hxe⟩,?_⟩;refine cY rfl ?_;simp only[↓zp,zv,↓reduceIte,aA,g0,g1,g2];refine bJ (vals:=[e]) hp hq rfl rfl (by omega) (by omega) fun v h hk hp hd hq hbv hE=> ?_;have hxxk:=bX hlx (Or.inr hbv);have hbx:=hlx.blk hbx hd;have hlx:=hlx.par hd;simp only[↓zp,zv,↓reduceIte,aA,g0,g1,g2];refine⟨⟨hbx,hp⟩,?_⟩;simp only[List.drop_succ_cons,List.drop_zero];simp only[↓zp,zv,↓reduceIte,aA,g0,g1,g2];refine bZ hq hk.2 hr hne (fun _=>cO hp 17 _ _ _ _ hk.1) rfl fun a s h L U _ hr hp hd hq=> ?_;have hbx:=hlx.blkX hbx hd;have hlx:=hlx.parX hd hxxk;simp only[↓zp,zv,↓reduceIte,aA,g0,g1,g2];exact⟨m,by omega,L,U,_,a,by simp only[↓zp,zv,↓reduceIte,aA,g0],by simp only[↓zp,zv,↓reduceIte,aA],by simp only[↓zp,zv,↓reduceIte,aA,g2],hp,hq,hr,by omega⟩
   ·have e2:(((nowT c.T s).kind:Int) !=2)=true:=by simp;omega
    rw[if_pos ⟨hk1,hk2⟩]at hr;simp only[↓zp,zv,↓reduceIte,aA,bE hbx,e1,e2,g0,g1,g2]
    exact gF hp hq hr rfl
 |false=>
  simp only[aI,if_false]at hr;simp only[↓zp,zv,↓reduceIte,aA,g0,g1,g2];refine bF hq hr hne (fun _=>eE hp [91]) rfl fun b2 s h L U _ hr hp hd hq=> ?_
  cases b2 with
  |true=>
   simp only[if_true]at hr;simp only[↓zp,zv,↓reduceIte,aA,g0,g1,g2];refine bF hq hr hne (fun r1 g1 g2=>(hB m (by omega)).1 c _ _ _ _ (.expression true) 42 _ r1 rfl rfl hp g1 g2) rfl fun k s h L U _ hr hp hd hq=> ?_;simp only[↓zp,zv,↓reduceIte,aA,g0,g1,g2];refine bF hq hr hne (fun _=>cR hp [93]) rfl fun w s h L U _ hr hp hd hq=> ?_;simp only[↓zp,zv,↓reduceIte,aA,g0,g1,g2];refine bF hq hr hne (fun _=>at_c hp e) rfl fun pe s h L U _ hr hp hd hq=> ?_;simp only[↓zp,zv,↓reduceIte,aA,g0,g1,g2];refine bJ (vals:=[e,k]) hp hq rfl rfl (by omega) (by omega) fun v h hk hp hd hq hbv hE=> ?_;simp only[↓zp,zv,↓reduceIte,aA,g0,g1,g2];refine bZ hq hk.2 hr hne (fun _=>bT hp _ _ _ _ hk.1) rfl fun a s h L U _ hr hp hd hq=> ?_;simp only[↓zp,zv,↓reduceIte,aA,g0,g1,g2]
   exact⟨m,by omega,L,U,_,a,by simp only[↓zp,zv,↓reduceIte,aA,g0],by simp only[↓zp,zv,↓reduceIte,aA],by simp only[↓zp,zv,↓reduceIte,aA,g2],hp,hq,hr,by omega⟩
  |false=>
   simp only[aI,if_false]at hr;simp only[↓zp,zv,↓reduceIte,aA,g0,g1,g2]
   cases calls with
   |false=>
    simp only[Bool.false_and,aI,if_false]at hr;simp only[↓zp,zv,↓reduceIte,aA,g0,g1,g2];subst hr
    exact⟨rfl,L,U,hp,hq⟩
   |true=>
    simp only[Bool.true_and]at hr;simp only[↓zp,zv,↓reduceIte,aA,g0,g1,g2];refine bO hp hq (is_c hp [40]) fun h hp hd hq hE=> ?_;simp only[↓zp,zv,↓reduceIte,aA,g0,g1,g2];cases hx:isT c.T s [40]
    ·simp only[hx,aI,if_false]at hr;simp only[↓zp,zv,↓reduceIte,aA,hx,g0,g1,g2];subst hr;exact⟨rfl,L,U,hp,hq⟩
    ·simp only[hx,if_true]at hr;simp only[↓zp,zv,↓reduceIte,aA,hx,g0,g1,g2];refine bF hq hr hne (fun _=>at_c hp e) rfl fun pe s h L U _ hr hp hd hq=> ?_;simp only[↓zp,zv,↓reduceIte,aA,g0,g1,g2];refine bJ (vals:=[e]) hp hq rfl rfl (by omega) (by omega) fun vk h hk hp hd hq hbv hE=> ?_;simp only[↓zp,zv,↓reduceIte,aA,g0,g1,g2];refine mV hq hr hne (fun r1 g1 g2=>((hB m (by omega)).2 c _ _ _ _ r1 rfl hp g2).2 g1) rfl fun vi ksi s h L U hrun hr hp hd hq hi hfr=> ?_;have hjki:=lP hk hfr;have hk:=hk.par hd;have hlen:=rB _ _ _ _ _ hrun;simp only[↓zp,zv,↓reduceIte,aA,g0,g1,g2];refine cZ hp hq hk hi.1.1 (by(try unfold most at*);(try simp only[aB,aD,aC]);omega) fun vk h hk hp hq hE hc=> ?_;simp only[↓zp,zv,↓reduceIte,aA,g0,g1,g2];refine bZ hq hk.2 hr hne (fun _=>bT hp _ _ _ _ hk.1) rfl fun a s h L U _ hr hp hd hq=> ?_;simp only[↓zp,zv,↓reduceIte,aA,g0,g1,g2];exact⟨m,by omega,L,U,_,a,by simp only[↓zp,zv,↓reduceIte,aA,g0],by simp only[↓zp,zv,↓reduceIte,aA],by simp only[↓zp,zv,↓reduceIte,aA,g2],hp,hq,hr,by omega⟩
theorem wK{r:Res (List Nat)}(hB:Below c.T n)(hp:PS h0 c L0 U0 s)(hr:(run c.T n).l .arguments s=r)(hne:r≠ .out):
 C aE 227 #[.pointer (some ⟨c.p,0,none⟩)] h0 (pM c h0 L0 U0 r):=by
 cases n with
 |zero=>exact absurd hr.symm hne
 |succ n=>
 obtain⟨hr,_⟩:=xM hr hne;simp only[mX,iI]at hr;have hq:Par c h0 L0 U0 h0 L0 U0:=Par.refl _ _ _ _;refine C_in Tryz.func227 rfl rfl (by kernel_rfl) (aG rfl) ?_;simp only[↓zp,zv,↓reduceIte,aA];refine jD hq hr hne (fun _=>cR hp [40]) errK fun w s h L U _ hr hp hd hq=> ?_;simp only[↓zp,zv,↓reduceIte,aA];refine jD hq hr hne (fun _=>eE hp [41]) errK fun b s h L U _ hr hp hd hq=> ?_
 cases b with
 |true=>
  simp only[if_true]at hr;simp only[↓zp,zv,↓reduceIte,aA];subst hr
  exact⟨_,L,U,rfl,hp,hq,KN.nil⟩
 |false=>
  simp only[aI,if_false]at hr;simp only[↓zp,zv,↓reduceIte,aA];refine jD hq hr hne (fun r1 g1 g2=>(hB n (by omega)).1 c _ _ _ _ (.argument) 249 _ r1 rfl rfl hp g1 g2) errK fun a s h L U _ hr hp hd hq=> ?_;simp only[↓zp,zv,↓reduceIte,aA];refine bJ (vals:=[a]) hp hq rfl rfl (by omega) (by omega) fun v h hk hp hd hq hbv hE=> ?_;simp only[↓zp,zv,↓reduceIte,aA]
  refine⟨fun m ρ h'=> ∃L U s' v ks,ρ 0=.pointer (some ⟨c.p,0,none⟩)∧ρ 3=v∧KN h0.size h' c L U v ks∧PS h' c L U s'∧Par c h0 L0 U0 h' L U∧(run c.T m).l (.argLoop ks) s'=r∧m≤n,n,
   ⟨L,U,_,_,[a],by simp only[↓zp,zv,↓reduceIte,aA],by simp only[↓zp,zv,↓reduceIte,aA],hk,hp,hq,hr,bA _⟩,?_⟩
  clear hr hk hp hq;rintro m ρ h3 ⟨L,U,s,v,ks,g0,g3,hk,hp,hq,hr,hm⟩
  cases m with
  |zero=>exact absurd hr.symm hne
  |succ m=>
  obtain⟨hr,hkl⟩:=xM hr hne;simp only[mX,jW]at hr;simp only[FnL.kids]at hkl;simp only[↓zp,zv,↓reduceIte,aA,g0,g3];refine jD hq hr hne (fun _=>eE hp [44]) errK fun b s h L U _ hr hp hd hq=> ?_;have hk:=hk.par hd
  cases b with
  |true=>
   simp only[if_true]at hr;simp only[↓zp,zv,↓reduceIte,aA,g0,g3];refine jD hq hr hne (fun r1 g1 g2=>(hB m (by omega)).1 c _ _ _ _ (.argument) 249 _ r1 rfl rfl hp g1 g2) errK fun a2 s h L U _ hr hp hd hq=> ?_;have hk:=hk.par hd;simp only[↓zp,zv,↓reduceIte,aA,g0,g3];refine bJ (vals:=[a2]) hp hq rfl rfl (by omega) (by omega) fun vi h hi hp hd hq hbv hE=> ?_;have hjki:=dT hk (Or.inr hbv);have hk:=hk.par hd;simp only[↓zp,zv,↓reduceIte,aA,g0,g3];refine cZ hp hq hk hi.1.1 (by(try unfold most at*);(try simp only[aB,aD,aC]);omega) fun vk h hk hp hq hE hc=> ?_;simp only[↓zp,zv,↓reduceIte,aA,g0,g3]
   exact⟨m,by omega,L,U,_,_,_,by simp only[↓zp,zv,↓reduceIte,aA,g0],by simp only[↓zp,zv,↓reduceIte,aA],hk,hp,hq,hr,by omega⟩
  |false=>
   simp only[aI,if_false]at hr;simp only[↓zp,zv,↓reduceIte,aA,g0,g3];refine jD hq hr hne (fun _=>cR hp [41]) errK fun w s h L U _ hr hp hd hq=> ?_;have hk:=hk.par hd;simp only[↓zp,zv,↓reduceIte,aA,g0,g3];subst hr;exact⟨_,L,U,rfl,hp,hq,hk⟩
end
end
section
theorem decI{a b:Nat}:decide ((a:Int)<(b:Int))=decide (a<b):=by rw[decide_eq_decide];omega
theorem sN(x:List UInt8):dX x≤10:=by
 unfold dX
 repeat' split
 all_goals omega
section
variable{c:PC}{h0:Heap}{L0:Nat}{U0:List Nat}{s:St}{n:Nat}
theorem listK_c{r:Res (List Nat)}(hB:Below c.T n)(hp:PS h0 c L0 U0 s)(hr:(run c.T n).l .list s=r)(hne:r≠ .out):
 C aE 45 #[.pointer (some ⟨c.p,0,none⟩)] h0 (pM c h0 L0 U0 r):=by
 cases n with
 |zero=>exact absurd hr.symm hne
 |succ n=>
 obtain⟨hr,_⟩:=xM hr hne;simp only[mX,uU]at hr;have hq:Par c h0 L0 U0 h0 L0 U0:=Par.refl _ _ _ _;have hk:=dI hq;refine C_in Tryz.func45 rfl rfl (by kernel_rfl) (aG rfl) ?_;simp only[↓zp,zv,↓reduceIte,aA]
 refine⟨fun m ρ h'=> ∃L U s' v ks,ρ 0=.pointer (some ⟨c.p,0,none⟩)∧ρ 3=v∧KN h0.size h' c L U v ks∧PS h' c L U s'∧Par c h0 L0 U0 h' L U∧(run c.T m).l (.listLoop ks) s'=r∧m≤n,n,
  ⟨L0,U0,_,_,[],by simp only[↓zp,zv,↓reduceIte,aA],by simp only[↓zp,zv,↓reduceIte,aA],hk,hp,hq,hr,bA _⟩,?_⟩
 clear hr hk hp hq;rintro m ρ h3 ⟨L,U,s,v,ks,g0,g3,hk,hp,hq,hr,hm⟩
 cases m with
 |zero=>exact absurd hr.symm hne
 |succ m=>
 obtain⟨hr,hkl⟩:=xM hr hne;simp only[mX,iY]at hr;simp only[FnL.kids]at hkl;simp only[↓zp,zv,↓reduceIte,aA,g0,g3];refine bO hp hq (eC hp) fun h hp hd hq hE=> ?_;have hk:=hk.par hd;simp only[↓zp,zv,↓reduceIte,aA,g0,g3];by_cases h0':(nowT c.T s).kind=0
 ·have e1:(((nowT c.T s).kind:Int) !=0)=false:=by simp[h0']
  rw[if_pos (.inl h0')]at hr;simp only[↓zp,zv,↓reduceIte,aA,e1,g0,g3];subst hr;exact⟨_,L,U,rfl,hp,hq,hk⟩
 ·have e1:(((nowT c.T s).kind:Int) !=0)=true:=by simp;omega
  simp only[↓zp,zv,↓reduceIte,aA,e1,g0,g3];refine bO hp hq (is_c hp [125]) fun h hp hd hq hE=> ?_;have hk:=hk.par hd;simp only[↓zp,zv,↓reduceIte,aA,e1,g0,g3];cases h1:isT c.T s [125]
  ·simp only[↓zp,zv,↓reduceIte,aA,e1,h1,g0,g3];refine bO hp hq (is_c hp [99,97,115,101]) fun h hp hd hq hE=> ?_;have hk:=hk.par hd;simp only[↓zp,zv,↓reduceIte,aA,e1,h1,g0,g3];cases h2:isT c.T s [99,97,115,101]
   ·simp only[↓zp,zv,↓reduceIte,aA,e1,h1,h2,g0,g3];refine bO hp hq (is_c hp [100,101,102,97,117,108,116]) fun h hp hd hq hE=> ?_;have hk:=hk.par hd;simp only[↓zp,zv,↓reduceIte,aA,e1,h1,h2,g0,g3];cases h4:isT c.T s [100,101,102,97,117,108,116]
    ·rw[if_neg (by simp[h0',h1,h2,h4])]at hr;simp only[↓zp,zv,↓reduceIte,aA,h4,g0,g3];refine jD hq hr hne (fun r1 g1 g2=>(hB m (by omega)).1 c _ _ _ _ (.statement) 74 _ r1 rfl rfl hp g1 g2) errK fun a2 s h L U _ hr hp hd hq=> ?_;have hk:=hk.par hd;simp only[↓zp,zv,↓reduceIte,aA,g0,g3];refine bJ (vals:=[a2]) hp hq rfl rfl (by omega) (by omega) fun vi h hi hp hd hq hbv hE=> ?_;have hjki:=dT hk (Or.inr hbv);have hk:=hk.par hd;simp only[↓zp,zv,↓reduceIte,aA,g0,g3];refine cZ hp hq hk hi.1.1 (by(try unfold most at*);(try simp only[aB,aD,aC]);omega) fun vk h hk hp hq hE hc=> ?_;simp only[↓zp,zv,↓reduceIte,aA,g0,g3];exact⟨m,by omega,L,U,_,_,_,by simp only[↓zp,zv,↓reduceIte,aA,g0],by simp only[↓zp,zv,↓reduceIte,aA],hk,hp,hq,hr,by omega⟩
    ·rw[if_pos (.inr (.inr (.inr h4)))]at hr;simp only[↓zp,zv,↓reduceIte,aA,h4,g0,g3];subst hr;exact⟨_,L,U,rfl,hp,hq,hk⟩
   ·rw[if_pos (.inr (.inr (.inl h2)))]at hr;simp only[↓zp,zv,↓reduceIte,aA,e1,h1,h2,g0,g3];subst hr;exact⟨_,L,U,rfl,hp,hq,hk⟩
  ·rw[if_pos (.inr (.inl h1))]at hr;simp only[↓zp,zv,↓reduceIte,aA,e1,h1,g0,g3];subst hr;exact⟨_,L,U,rfl,hp,hq,hk⟩
theorem binaryF_c{r:Res Nat}(hB:Below c.T n)(hp:PS h0 c L0 U0 s)(least:Nat)(inn:Bool)(hr:(run c.T n).e (.binary least inn) s=r)(hne:r≠ .out):
 C aE 125 #[.pointer (some ⟨c.p,0,none⟩),vint least,.bool inn] h0 (POut c h0 L0 U0 r vint):=by
 cases n with
 |zero=>exact absurd hr.symm hne
 |succ n=>
 obtain⟨hr,_⟩:=dP hr hne;simp only[dJ,nX]at hr;have hq:Par c h0 L0 U0 h0 L0 U0:=Par.refl _ _ _ _;refine C_in Tryz.func125 rfl rfl (by kernel_rfl) (aG rfl) ?_;simp only[↓zp,zv,↓reduceIte,aA];refine bF hq hr hne (fun r1 g1 g2=>(hB n (by omega)).1 c _ _ _ _ (.power) 154 _ r1 rfl rfl hp g1 g2) rfl fun a s h L U _ hr hp hd hq=> ?_;simp only[↓zp,zv,↓reduceIte,aA]
 refine⟨fun m ρ h'=> ∃L U s' a,ρ 0=.pointer (some ⟨c.p,0,none⟩)∧ρ 1=vint least∧ρ 2=.bool inn∧ρ 7=vint a∧PS h' c L U s'∧Par c h0 L0 U0 h' L U∧(run c.T m).e (.binLoop least inn a) s'=r∧m≤n,n,
  ⟨L,U,_,a,by simp only[↓zp,zv,↓reduceIte,aA],by simp only[↓zp,zv,↓reduceIte,aA],by simp only[↓zp,zv,↓reduceIte,aA],by simp only[↓zp,zv,↓reduceIte,aA],hp,hq,hr,bA _⟩,?_⟩
 clear hr hp hq;rintro m ρ h3 ⟨L,U,s,a,g0,g1,g2,g7,hp,hq,hr,hm⟩
 cases m with
 |zero=>exact absurd hr.symm hne
 |succ m=>
 obtain⟨hr,hkl⟩:=dP hr hne;simp only[dJ,mG]at hr;simp only[Fn1.kids]at hkl;have hB':Below c.T (m+1):=fun j hj=>hB j (by omega);simp only[↓zp,zv,↓reduceIte,aA,g0,g1,g2,g7];refine bO hp hq (eC hp) fun h hp hd hq hE=> ?_;simp only[↓zp,zv,↓reduceIte,aA,g0,g1,g2,g7];refine bO hp hq (fT _ _) fun h hp hd hq hE=> ?_;obtain⟨vl,hbp⟩:=hp.p;have hpl:=hbp.lt;simp only[↓zp,zv,↓reduceIte,aA,g0,g1,g2,g7,bE hbp,hpl];obtain⟨lm,hsm,hst⟩:=hp.str;have hk10:=sN (nowT c.T s).txt;refine Wlookup hsm Tryz.underlying58 Tryz.underlying9 (z:=.int .i64 0) (by kernel_rfl) ?_;rw[hst];generalize(nowT c.T s).txt=op at hr hk10⊢;have w2:IntKind.i64.wrap ((dX op:Int)+1)=((dX op+1:Nat):Int):=by rw[aU _ (by omega)];simp
 simp only[↓zp,zv,↓reduceIte,aA,g0,g1,g2,g7,decI];cases hlt:decide (dX op<least)
 ·simp only[hlt,Bool.false_or]at hr;simp only[↓zp,zv,↓reduceIte,aA,hlt,g0,g1,g2,g7];cases hin:op==([105,110]:List UInt8)
  ·simp only[hin,Bool.false_and,aI,if_false]at hr;simp only[↓zp,zv,↓reduceIte,aA,hin,g0,g1,g2,g7];obtain⟨hlt,hr⟩:=cE hr hne;obtain⟨vl,hbp⟩:=hp.p;have hpl:=hbp.lt;have w1:=dV hp;simp only[↓zp,zv,↓reduceIte,aA,bE hbp,hpl,w1,g0,g1,g2,g7];refine cX hp hq hlt fun h hp hd hq=> ?_;simp only[↓zp,zv,↓reduceIte,aA,g0,g1,g2,g7,w2];refine bF hq hr hne (fun r1 g1 g2=>(hB m (by omega)).1 c _ _ _ _ (.binary _ inn) 125 _ r1 rfl rfl hp g1 g2) rfl fun b s h L U _ hr hp hd hq=> ?_;simp only[↓zp,zv,↓reduceIte,aA,g0,g1,g2,g7];cases h1:op==([124,124]:List UInt8)
   ·cases h2:op==([38,38]:List UInt8)
    ·simp only[h1,h2,aI,if_false]at hr;simp only[↓zp,zv,↓reduceIte,aA,h1,h2,g0,g1,g2,g7];refine bF hq hr hne (fun _=>at_c hp a) rfl fun pa s h L U _ hr hp hd hq=> ?_;simp only[↓zp,zv,↓reduceIte,aA,g0,g1,g2,g7];refine bJ (vals:=[a,b]) hp hq rfl rfl (by omega) (by omega) fun v h hk hp hd hq hbv hE=> ?_;simp only[↓zp,zv,↓reduceIte,aA,g0,g1,g2,g7];refine bZ hq hk.2 hr hne (fun _=>cO hp 22 _ _ _ _ hk.1) rfl fun a2 s h L U _ hr hp hd hq=> ?_;simp only[↓zp,zv,↓reduceIte,aA,g0,g1,g2,g7];exact⟨m,by omega,L,U,_,a2,by simp only[↓zp,zv,↓reduceIte,aA,g0],by simp only[↓zp,zv,↓reduceIte,aA,g1],by simp only[↓zp,zv,↓reduceIte,aA,g2],by simp only[↓zp,zv,↓reduceIte,aA],hp,hq,hr,by omega⟩
    ·simp only[h1,h2,aI,if_false,if_true]at hr;simp only[↓zp,zv,↓reduceIte,aA,h1,h2,g0,g1,g2,g7];refine bF hq hr hne (fun _=>at_c hp a) rfl fun pa s h L U _ hr hp hd hq=> ?_;simp only[↓zp,zv,↓reduceIte,aA,g0,g1,g2,g7];refine bJ (vals:=[a,b]) hp hq rfl rfl (by omega) (by omega) fun v h hk hp hd hq hbv hE=> ?_;simp only[↓zp,zv,↓reduceIte,aA,g0,g1,g2,g7];refine bZ hq hk.2 hr hne (fun _=>bT hp 23 _ _ _ hk.1) rfl fun a2 s h L U _ hr hp hd hq=> ?_;simp only[↓zp,zv,↓reduceIte,aA,g0,g1,g2,g7];exact⟨m,by omega,L,U,_,a2,by simp only[↓zp,zv,↓reduceIte,aA,g0],by simp only[↓zp,zv,↓reduceIte,aA,g1],by simp only[↓zp,zv,↓reduceIte,aA,g2],by simp only[↓zp,zv,↓reduceIte,aA],hp,hq,hr,by omega⟩
   ·simp only[h1,if_true]at hr;simp only[↓zp,zv,↓reduceIte,aA,h1,g0,g1,g2,g7];refine bF hq hr hne (fun _=>at_c hp a) rfl fun pa s h L U _ hr hp hd hq=> ?_;simp only[↓zp,zv,↓reduceIte,aA,g0,g1,g2,g7];refine bJ (vals:=[a,b]) hp hq rfl rfl (by omega) (by omega) fun v h hk hp hd hq hbv hE=> ?_;simp only[↓zp,zv,↓reduceIte,aA,g0,g1,g2,g7];refine bZ hq hk.2 hr hne (fun _=>bT hp 24 _ _ _ hk.1) rfl fun a2 s h L U _ hr hp hd hq=> ?_;simp only[↓zp,zv,↓reduceIte,aA,g0,g1,g2,g7];exact⟨m,by omega,L,U,_,a2,by simp only[↓zp,zv,↓reduceIte,aA,g0],by simp only[↓zp,zv,↓reduceIte,aA,g1],by simp only[↓zp,zv,↓reduceIte,aA,g2],by simp only[↓zp,zv,↓reduceIte,aA],hp,hq,hr,by omega⟩
  ·cases inn with
   |false=>
    simp only[hin,Bool.not_false,Bool.and_true,if_true]at hr;simp only[↓zp,zv,↓reduceIte,aA,hin,g0,g1,g2,g7];subst hr
    exact⟨rfl,L,U,hp,hq⟩
   |true=>
    simp only[hin,Bool.not_true,Bool.and_false,aI,if_false]at hr;simp only[↓zp,zv,↓reduceIte,aA,hin,g0,g1,g2,g7];obtain⟨hlt,hr⟩:=cE hr hne;obtain⟨vl,hbp⟩:=hp.p;have hpl:=hbp.lt;have w1:=dV hp;simp only[↓zp,zv,↓reduceIte,aA,bE hbp,hpl,w1,g0,g1,g2,g7];refine cX hp hq hlt fun h hp hd hq=> ?_;simp only[↓zp,zv,↓reduceIte,aA,g0,g1,g2,g7,w2];refine bF hq hr hne (fun r1 g1 g2=>(hB m (by omega)).1 c _ _ _ _ (.binary _ true) 125 _ r1 rfl rfl hp g1 g2) rfl fun b s h L U _ hr hp hd hq=> ?_;simp only[↓zp,zv,↓reduceIte,aA,g0,g1,g2,g7];cases h1:op==([124,124]:List UInt8)
    ·cases h2:op==([38,38]:List UInt8)
     ·simp only[h1,h2,aI,if_false]at hr;simp only[↓zp,zv,↓reduceIte,aA,h1,h2,g0,g1,g2,g7];refine bF hq hr hne (fun _=>at_c hp a) rfl fun pa s h L U _ hr hp hd hq=> ?_;simp only[↓zp,zv,↓reduceIte,aA,g0,g1,g2,g7];refine bJ (vals:=[a,b]) hp hq rfl rfl (by omega) (by omega) fun v h hk hp hd hq hbv hE=> ?_;simp only[↓zp,zv,↓reduceIte,aA,g0,g1,g2,g7];refine bZ hq hk.2 hr hne (fun _=>cO hp 22 _ _ _ _ hk.1) rfl fun a2 s h L U _ hr hp hd hq=> ?_;simp only[↓zp,zv,↓reduceIte,aA,g0,g1,g2,g7];exact⟨m,by omega,L,U,_,a2,by simp only[↓zp,zv,↓reduceIte,aA,g0],by simp only[↓zp,zv,↓reduceIte,aA,g1],by simp only[↓zp,zv,↓reduceIte,aA,g2],by simp only[↓zp,zv,↓reduceIte,aA],hp,hq,hr,by omega⟩
     ·simp only[h1,h2,aI,if_false,if_true]at hr;simp only[↓zp,zv,↓reduceIte,aA,h1,h2,g0,g1,g2,g7];refine bF hq hr hne (fun _=>at_c hp a) rfl fun pa s h L U _ hr hp hd hq=> ?_;simp only[↓zp,zv,↓reduceIte,aA,g0,g1,g2,g7];refine bJ (vals:=[a,b]) hp hq rfl rfl (by omega) (by omega) fun v h hk hp hd hq hbv hE=> ?_;simp only[↓zp,zv,↓reduceIte,aA,g0,g1,g2,g7];refine bZ hq hk.2 hr hne (fun _=>bT hp 23 _ _ _ hk.1) rfl fun a2 s h L U _ hr hp hd hq=> ?_;simp only[↓zp,zv,↓reduceIte,aA,g0,g1,g2,g7];exact⟨m,by omega,L,U,_,a2,by simp only[↓zp,zv,↓reduceIte,aA,g0],by simp only[↓zp,zv,↓reduceIte,aA,g1],by simp only[↓zp,zv,↓reduceIte,aA,g2],by simp only[↓zp,zv,↓reduceIte,aA],hp,hq,hr,by omega⟩
    ·simp only[h1,if_true]at hr;simp only[↓zp,zv,↓reduceIte,aA,h1,g0,g1,g2,g7];refine bF hq hr hne (fun _=>at_c hp a) rfl fun pa s h L U _ hr hp hd hq=> ?_;simp only[↓zp,zv,↓reduceIte,aA,g0,g1,g2,g7];refine bJ (vals:=[a,b]) hp hq rfl rfl (by omega) (by omega) fun v h hk hp hd hq hbv hE=> ?_;simp only[↓zp,zv,↓reduceIte,aA,g0,g1,g2,g7];refine bZ hq hk.2 hr hne (fun _=>bT hp 24 _ _ _ hk.1) rfl fun a2 s h L U _ hr hp hd hq=> ?_;simp only[↓zp,zv,↓reduceIte,aA,g0,g1,g2,g7];exact⟨m,by omega,L,U,_,a2,by simp only[↓zp,zv,↓reduceIte,aA,g0],by simp only[↓zp,zv,↓reduceIte,aA,g1],by simp only[↓zp,zv,↓reduceIte,aA,g2],by simp only[↓zp,zv,↓reduceIte,aA],hp,hq,hr,by omega⟩
 ·simp only[hlt,Bool.true_or,if_true]at hr;simp only[↓zp,zv,↓reduceIte,aA,hlt,g0,g1,g2,g7];subst hr;exact⟨rfl,L,U,hp,hq⟩
end
end
end Go.Proofs.YtfmbepijhnaklaaGreatDoor
