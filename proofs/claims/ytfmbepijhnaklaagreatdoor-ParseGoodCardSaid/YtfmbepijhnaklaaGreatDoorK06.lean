/- Proved here: The parser's functions that call each other, eighth part | The parser's functions that call each other, ninth part | units.Point and units.Of | A function that defers a closure which recovers, in the light calculus | The two closures that recover (parse's all, lex's each), in the light calculus | The scanner's memory, and its small functions. Conditions: what each statement names. -/
import Derived.Test.YtfmbepijhnaklaaGreatDoorK05
import Derived.Test.YtfmbepijhnaklaaGreatDoorK04
import Derived.Laws.BitsAllLaws
import Derived.Lib.OthersKept
import Derived.Test.YtfmbepijhnaklaaGreatDoorK03
import Derived.Recover
set_option maxRecDepth 100000
set_option maxHeartbeats 4000000
set_option linter.unusedSimpArgs false
set_option linter.unusedVariables false
set_option linter.defProp false
open Nat renaming reduceEqDiff → aA, le_of_ble_eq_true → aG, mul_one → aP, zero_mul → aQ, zero_add → aR, reduceBEq → aY, reduceAdd → aZ, le_refl → bA
open List renaming length_cons → aB, length_append → aC, length_nil → aD, map_toArray → aH, map_cons → aJ, map_nil → aK, perm_iff_count → aM, count_append → aO, getElem?_eq_getElem → aS, count_cons → aT, count_nil → aV
open Go.Proofs.Tryz renaming prog → aE
open Int renaming toNat_natCast → aF, toNat_zero → aN, toNat_one → aX
open Bool renaming false_eq_true → aI, eq_iff_iff → aW
open And renaming intro → aL
open Go.IntWalk renaming i64_in → aU
namespace Go.Proofs.YtfmbepijhnaklaaGreatDoor
section
def plainL:SList:=mput (mput (mput (mput [] [116,104,105,115] (.int .i64 7)) [110,117,108,108] (.int .i64 5)) [116,114,117,101] (.int .i64 3)) [102,97,108,115,101] (.int .i64 4)
theorem plain_get(x:List UInt8):mget plainL x=(gZ x).map vint:=by
 have e:plainL=[([116,104,105,115],.int .i64 7),([110,117,108,108],.int .i64 5),([116,114,117,101],.int .i64 3),([102,97,108,115,101],.int .i64 4)]:=by rfl
 rw[e];unfold gZ;simp only[mget]
 repeat' split
 all_goals rfl
section
variable{c:PC}{h:Heap}{L:Nat}{U:List Nat}{s:St}{n:Nat}{r:Res Nat}
theorem primaryF_c(hB:Below c.T n)(hp:PS h c L U s)(hr:(run c.T n).e (.primary) s=r)(hne:r≠ .out):
 C aE 214 #[.pointer (some ⟨c.p,0,none⟩)] h (POut c h L U r vint):=by
 cases n with
 |zero=>exact absurd hr.symm hne
 |succ n=>
 obtain⟨hr,_⟩:=dP hr hne;simp only[dJ,mD]at hr;have hq:Par c h L U h L U:=Par.refl _ _ _ _;refine C_in Tryz.func214 rfl rfl (by kernel_rfl) (aG rfl) ?_;simp only[↓zp,zv,↓reduceIte,aA];refine bO hp hq (eC hp) fun h hp hd hq hE=> ?_;simp only[↓zp,zv,↓reduceIte,aA];have hbx:Blk (h.push (.cells (nowT c.T (s)).cells.toArray 73)) h.size (nowT c.T (s)).cells 73:=Blk.new;have hlx:Loc (h.push (.cells (nowT c.T (s)).cells.toArray 73)) c _ _ h.size:=Loc.new hp (bA _) (by simp);have hEx:Ext [] h (h.push (.cells (nowT c.T (s)).cells.toArray 73)):=Ext.push _ _ _;have hp:=hp.ext0 hEx;have hq:=hq.ext0 hEx;generalize h.push (.cells (nowT c.T (s)).cells.toArray 73)=hx at hbx hlx hEx hp hq⊢;generalize hzx:h.size=bx at hbx hlx⊢;by_cases h1:(nowT c.T s).kind=1
 ·have e1:(((nowT c.T s).kind:Int)==1)=true:=by simp[h1]
  rw[if_pos h1]at hr;simp only[↓zp,zv,↓reduceIte,aA,bE hbx,e1];obtain⟨hlt,hr⟩:=cE hr hne;obtain⟨vl,hbp⟩:=hp.p;have hpl:=hbp.lt;have w1:=dV hp;simp only[↓zp,zv,↓reduceIte,aA,bE hbp,hpl,w1];refine cX hp hq hlt fun h hp hd hq=> ?_;have hbx:=hlx.blk hbx hd;have hlx:=hlx.par hd;simp only[↓zp,zv,↓reduceIte,aA,bE hbx];have hk:=dI hq;refine bP hq hk.2 hr hne (fun _=>cO hp 6 _ _ _ _ hk.1) rfl fun a s h _ hR=> ?_;simp only[↓zp,zv,↓reduceIte,aA];exact hR
 rw[if_neg h1]at hr;have e1:(((nowT c.T s).kind:Int)==1)=false:=by simp;omega
 by_cases h2:(nowT c.T s).kind=4
 ·have e2:(((nowT c.T s).kind:Int)==4)=true:=by simp[h2]
  rw[if_pos h2]at hr;simp only[↓zp,zv,↓reduceIte,aA,bE hbx,e1,e2];obtain⟨hlt,hr⟩:=cE hr hne;obtain⟨vl,hbp⟩:=hp.p;have hpl:=hbp.lt;have w1:=dV hp;simp only[↓zp,zv,↓reduceIte,aA,bE hbp,hpl,w1];refine cX hp hq hlt fun h hp hd hq=> ?_;have hbx:=hlx.blk hbx hd;have hlx:=hlx.par hd;simp only[↓zp,zv,↓reduceIte,aA,bE hbx];have hk:=dI hq;refine bP hq hk.2 hr hne (fun _=>oF hp _ _ hk.1) rfl fun a s h _ hR=> ?_;simp only[↓zp,zv,↓reduceIte,aA];exact hR
 rw[if_neg h2]at hr;have e2:(((nowT c.T s).kind:Int)==4)=false:=by simp;omega
 by_cases h3:(nowT c.T s).kind=5
 ·have e3:(((nowT c.T s).kind:Int)==5)=true:=by simp[h3]
  rw[if_pos h3]at hr;simp only[↓zp,zv,↓reduceIte,aA,bE hbx,e1,e2,e3];obtain⟨hlt,hr⟩:=cE hr hne;obtain⟨vl,hbp⟩:=hp.p;have hpl:=hbp.lt;have w1:=dV hp;simp only[↓zp,zv,↓reduceIte,aA,bE hbp,hpl,w1];refine cX hp hq hlt fun h hp hd hq=> ?_;have hbx:=hlx.blk hbx hd;have hlx:=hlx.par hd;simp only[↓zp,zv,↓reduceIte,aA,bE hbx];have hk:=dI hq;refine bP hq hk.2 hr hne (fun _=>oF hp _ _ hk.1) rfl fun a s h _ hR=> ?_;simp only[↓zp,zv,↓reduceIte,aA];exact hR
 rw[if_neg h3]at hr;have e3:(((nowT c.T s).kind:Int)==5)=false:=by simp;omega
 by_cases h4:(nowT c.T s).kind=6
 ·have e4:(((nowT c.T s).kind:Int)==6)=true:=by simp[h4]
  rw[if_pos (.inl h4)]at hr;simp only[↓zp,zv,↓reduceIte,aA,bE hbx,e1,e2,e3,e4];refine dO hq hr hne (fun r1 g1 g2=>(hB n (by omega)).1 c _ _ _ _ (.template) 228 _ r1 rfl rfl hp g1 g2) rfl fun a s h _ hR=> ?_;simp only[↓zp,zv,↓reduceIte,aA];exact hR
 have e4:(((nowT c.T s).kind:Int)==6)=false:=by simp;omega
 by_cases h5:(nowT c.T s).kind=7
 ·have e5:(((nowT c.T s).kind:Int)==7)=true:=by simp[h5]
  rw[if_pos (.inr h5)]at hr;simp only[↓zp,zv,↓reduceIte,aA,bE hbx,e1,e2,e3,e4,e5];refine dO hq hr hne (fun r1 g1 g2=>(hB n (by omega)).1 c _ _ _ _ (.template) 228 _ r1 rfl rfl hp g1 g2) rfl fun a s h _ hR=> ?_;simp only[↓zp,zv,↓reduceIte,aA];exact hR
 rw[if_neg (by omega)]at hr;have e5:(((nowT c.T s).kind:Int)==7)=false:=by simp;omega
 simp only[↓zp,zv,↓reduceIte,aA,bE hbx,e1,e2,e3,e4,e5];refine sJ (fun hm hsm hEm hzm=> ?_) Tryz.underlying58;simp only[↓zp,zv,↓reduceIte,aA];refine fC hsm Tryz.underlying58 Tryz.underlying9 fun h1 hsm hE1 hz1=> ?_;simp only[↓zp,zv,↓reduceIte,aA];refine fC hsm Tryz.underlying58 Tryz.underlying9 fun h2 hsm hE2 hz2=> ?_;simp only[↓zp,zv,↓reduceIte,aA];refine fC hsm Tryz.underlying58 Tryz.underlying9 fun h3 hsm hE3 hz3=> ?_;simp only[↓zp,zv,↓reduceIte,aA];refine fC hsm Tryz.underlying58 Tryz.underlying9 fun h4 hsm hE4 hz4=> ?_;have hEE:Ext [] _ h4:=(hEm.trans_new (((hE1.trans hE2).trans hE3).trans hE4) (by simp));have hd:=Par.of_ext (c:=c) (L:=L) (U:=U) hEE;have hp:=hp.ext0 hEE;have hq:=hq.trans hd;have hbx:=hlx.blk hbx hd;have hlx:=hlx.par hd;simp only[↓zp,zv,↓reduceIte,aA,bQ hbx (Tk.cells_len _)];refine bH (fT _ _) ?_;rintro e h5 ⟨rfl,hE5⟩;have hd:=Par.of_ext (c:=c) (L:=L) (U:=U) hE5;have hp:=hp.ext0 hE5;have hq:=hq.trans hd;have hbx:=hlx.blk hbx hd;have hlx:=hlx.par hd;have hsm:=hsm.ext hE5 (by simp);simp only[↓zp,zv,↓reduceIte,aA];refine tY hsm Tryz.underlying58 Tryz.underlying9 (z:=.int .i64 0) (by kernel_rfl) ?_;have hpg:=plain_get (nowT c.T s).txt;unfold plainL at hpg;rw[hpg]
 cases hpk:gZ (nowT c.T s).txt with
 |some kd=>
  rw[hpk]at hr;simp only[Option.map_some,Option.getD_some,Option.isSome_some];simp only[↓zp,zv,↓reduceIte,aA];obtain⟨hlt,hr⟩:=cE hr hne;obtain⟨vl,hbp⟩:=hp.p;have hpl:=hbp.lt;have w1:=dV hp;simp only[↓zp,zv,↓reduceIte,aA,bE hbp,hpl,w1];refine cX hp hq hlt fun h hp hd hq=> ?_;have hbx:=hlx.blk hbx hd;have hlx:=hlx.par hd;simp only[↓zp,zv,↓reduceIte,aA,bE hbx];have hk:=dI hq;refine bP hq hk.2 hr hne (fun _=>bT hp _ _ _ _ hk.1) rfl fun a s h _ hR=> ?_;simp only[↓zp,zv,↓reduceIte,aA]
  exact hR
 |none=>
  rw[hpk]at hr;simp only[Option.map_none,Option.getD_none,Option.isSome_none];simp only[↓zp,zv,↓reduceIte,aA];dsimp only at hr;generalize(nowT c.T s).txt=op at hr⊢;cases g1:op==([40]:List UInt8)
  ·simp only[g1,aI,if_false]at hr;simp only[↓zp,zv,↓reduceIte,aA,g1];cases g2:op==([91]:List UInt8)
   ·simp only[g2,aI,if_false]at hr;simp only[↓zp,zv,↓reduceIte,aA,g2];cases g3:op==([123]:List UInt8)
    ·simp only[g3,aI,if_false]at hr;simp only[↓zp,zv,↓reduceIte,aA,g3];cases g4:op==([102,117,110,99,116,105,111,110]:List UInt8)
     ·simp only[g4,aI,if_false]at hr;simp only[↓zp,zv,↓reduceIte,aA,g4];exact gF hp hq hr rfl
     ·simp only[g4,if_true]at hr;simp only[↓zp,zv,↓reduceIte,aA,g4];obtain⟨hlt,hr⟩:=cE hr hne;obtain⟨vl,hbp⟩:=hp.p;have hpl:=hbp.lt;have w1:=dV hp;simp only[↓zp,zv,↓reduceIte,aA,bE hbp,hpl,w1];refine cX hp hq hlt fun h hp hd hq=> ?_;have hbx:=hlx.blk hbx hd;have hlx:=hlx.par hd;simp only[↓zp,zv,↓reduceIte,aA];refine bO hp hq (eC hp) fun h hp hd hq hE=> ?_;have hbx:=hlx.blk hbx hd;have hlx:=hlx.par hd;simp only[↓zp,zv,↓reduceIte,aA];rw[dF]at hr;by_cases h6:(nowT c.T {s with i:=s.i+1}).kind=1
      ·have e6:(((nowT c.T {s with i:=s.i+1}).kind:Int)==1)=true:=by simp[h6]
       rw[if_pos h6,dM]at hr;simp only[↓zp,zv,↓reduceIte,aA,e6];refine bF hq hr hne (fun _=>kP hp) rfl fun nm s h L U _ hr hp hd hq=> ?_;have hbx:=hlx.blk hbx hd;have hlx:=hlx.par hd;simp only[↓zp,zv,↓reduceIte,aA];refine bF hq hr hne (fun r1 g1 g2=>(hB n (by omega)).1 c _ _ _ _ (.parameters) 97 _ r1 rfl rfl hp g1 g2) rfl fun ps s h L U _ hr hp hd hq=> ?_;have hbx:=hlx.blk hbx hd;have hlx:=hlx.par hd;simp only[↓zp,zv,↓reduceIte,aA];refine dL [(0,true),(1,true),(2,true),(3,true),(4,true),(5,true),(6,false),(7,false),(8,false),(9,false)] (fun h1=>Blk h1 bx _ 73) (by kernel_rfl) (by kernel_rfl) (by kernel_rfl) rfl hbx ?_;simp only[Wo,fI,fP,if_true,aI,if_false]
       iterate 6 refine⟨_,.inl fun h1 hS1=>by simp only[rdOp];simp only[↓zp,zv,↓reduceIte,aA,bE hS1];rfl,?_⟩
       refine cY rfl ?_;simp only[↓zp,zv,↓reduceIte,aA];refine bF hq hr hne (fun r1 g1 g2=>(hB n (by omega)).1 c _ _ _ _ (.block) 101 _ r1 rfl rfl hp g1 g2) rfl fun b s h L U _ hr hp hd hq=> ?_;have hbx:=hlx.blk hbx hd;have hlx:=hlx.par hd;simp only[↓zp,zv,↓reduceIte,aA];refine⟨hbx,?_⟩;refine cY rfl ?_;simp only[↓zp,zv,↓reduceIte,aA];refine bJ (vals:=[ps,b]) hp hq rfl rfl (by omega) (by omega) fun v h hk hp hd hq hbv hE=> ?_;have hxxk:=bX hlx (Or.inr hbv);have hbx:=hlx.blk hbx hd;have hlx:=hlx.par hd;simp only[↓zp,zv,↓reduceIte,aA];refine⟨hbx,?_⟩;refine cY rfl ?_;simp only[↓zp,zv,↓reduceIte,aA];have hr:=M_bindp.trans hr;refine bZ hq hk.2 hr hne (fun _=>cO hp 13 _ _ _ _ hk.1) rfl fun a s h L U _ hr hp hd hq=> ?_;have hbx:=hlx.blkX hbx hd;have hlx:=hlx.parX hd hxxk;simp only[↓zp,zv,↓reduceIte,aA];refine⟨hbx,?_⟩;refine cY rfl ?_;simp only[↓zp,zv,↓reduceIte,aA];refine⟨hbx,?_⟩;subst hr;exact⟨rfl,L,U,hp,hq⟩
      ·have e6:(((nowT c.T {s with i:=s.i+1}).kind:Int)==1)=false:=by simp;omega
       rw[if_neg h6,eT]at hr;simp only[↓zp,zv,↓reduceIte,aA,e6];refine bF hq hr hne (fun r1 g1 g2=>(hB n (by omega)).1 c _ _ _ _ (.parameters) 97 _ r1 rfl rfl hp g1 g2) rfl fun ps s h L U _ hr hp hd hq=> ?_;have hbx:=hlx.blk hbx hd;have hlx:=hlx.par hd;simp only[↓zp,zv,↓reduceIte,aA];refine dL [(0,true),(1,true),(2,true),(3,true),(4,true),(5,true),(6,false),(7,false),(8,false),(9,false)] (fun h1=>Blk h1 bx _ 73) (by kernel_rfl) (by kernel_rfl) (by kernel_rfl) rfl hbx ?_;simp only[Wo,fI,fP,if_true,aI,if_false]
       iterate 6 refine⟨_,.inl fun h1 hS1=>by simp only[rdOp];simp only[↓zp,zv,↓reduceIte,aA,bE hS1];rfl,?_⟩
       refine cY rfl ?_;simp only[↓zp,zv,↓reduceIte,aA];refine bF hq hr hne (fun r1 g1 g2=>(hB n (by omega)).1 c _ _ _ _ (.block) 101 _ r1 rfl rfl hp g1 g2) rfl fun b s h L U _ hr hp hd hq=> ?_;have hbx:=hlx.blk hbx hd;have hlx:=hlx.par hd;simp only[↓zp,zv,↓reduceIte,aA];refine⟨hbx,?_⟩;refine cY rfl ?_;simp only[↓zp,zv,↓reduceIte,aA];refine bJ (vals:=[ps,b]) hp hq rfl rfl (by omega) (by omega) fun v h hk hp hd hq hbv hE=> ?_;have hxxk:=bX hlx (Or.inr hbv);have hbx:=hlx.blk hbx hd;have hlx:=hlx.par hd;simp only[↓zp,zv,↓reduceIte,aA];refine⟨hbx,?_⟩;refine cY rfl ?_;simp only[↓zp,zv,↓reduceIte,aA];have hr:=M_bindp.trans hr;refine bZ hq hk.2 hr hne (fun _=>cO hp 13 _ _ _ _ hk.1) rfl fun a s h L U _ hr hp hd hq=> ?_;have hbx:=hlx.blkX hbx hd;have hlx:=hlx.parX hd hxxk;simp only[↓zp,zv,↓reduceIte,aA];refine⟨hbx,?_⟩;refine cY rfl ?_;simp only[↓zp,zv,↓reduceIte,aA];refine⟨hbx,?_⟩;subst hr;exact⟨rfl,L,U,hp,hq⟩
    ·simp only[g3,if_true]at hr;simp only[↓zp,zv,↓reduceIte,aA,g3];refine dO hq hr hne (fun r1 g1 g2=>(hB n (by omega)).1 c _ _ _ _ (.object) 230 _ r1 rfl rfl hp g1 g2) rfl fun a s h _ hR=> ?_;simp only[↓zp,zv,↓reduceIte,aA];exact hR
   ·simp only[g2,if_true]at hr;simp only[↓zp,zv,↓reduceIte,aA,g2];refine dO hq hr hne (fun r1 g1 g2=>(hB n (by omega)).1 c _ _ _ _ (.array) 229 _ r1 rfl rfl hp g1 g2) rfl fun a s h _ hR=> ?_;simp only[↓zp,zv,↓reduceIte,aA];exact hR
  ·simp only[g1,if_true]at hr;simp only[↓zp,zv,↓reduceIte,aA,g1];refine dO hq hr hne (fun r1 g1 g2=>(hB n (by omega)).1 c _ _ _ _ (.parens) 156 _ r1 rfl rfl hp g1 g2) rfl fun a s h _ hR=> ?_;simp only[↓zp,zv,↓reduceIte,aA];exact hR
end
section
variable{c:PC}{h0:Heap}{L0:Nat}{U0:List Nat}{s:St}{n:Nat}{r:Res Nat}
theorem xB(hB:Below c.T n)(hp:PS h0 c L0 U0 s)(hr:(run c.T n).e (.template) s=r)(hne:r≠ .out):
 C aE 228 #[.pointer (some ⟨c.p,0,none⟩)] h0 (POut c h0 L0 U0 r vint):=by
 cases n with
 |zero=>exact absurd hr.symm hne
 |succ n=>
 obtain⟨hr,_⟩:=dP hr hne;simp only[dJ,kG]at hr;have hq:Par c h0 L0 U0 h0 L0 U0:=Par.refl _ _ _ _;refine C_in Tryz.func228 rfl rfl (by kernel_rfl) (aG rfl) ?_;simp only[↓zp,zv,↓reduceIte,aA];refine bO hp hq (eC hp) fun h hp hd hq hE=> ?_;simp only[↓zp,zv,↓reduceIte,aA];have hk:=dI hq;generalize(nowT c.T s).fr=pos at hr⊢
 refine⟨fun m ρ h'=> ∃L U s' v ks,ρ 0=.pointer (some ⟨c.p,0,none⟩)∧ρ 3=vint pos∧ρ 4=v∧KN h0.size h' c L U v ks∧PS h' c L U s'∧Par c h0 L0 U0 h' L U∧(run c.T m).e (.tplLoop pos ks) s'=r∧m≤n,n,
  ⟨L0,U0,_,_,[],by simp only[↓zp,zv,↓reduceIte,aA],by simp only[↓zp,zv,↓reduceIte,aA],by simp only[↓zp,zv,↓reduceIte,aA],hk,hp,hq,hr,bA _⟩,?_⟩
 clear hr hk hp hq;rintro m ρ h3 ⟨L,U,s,v,ks,g0,g3,g4,hk,hp,hq,hr,hm⟩
 cases m with
 |zero=>exact absurd hr.symm hne
 |succ m=>
 obtain⟨hr,hkl⟩:=dP hr hne;simp only[dJ,mC]at hr;simp only[Fn1.kids]at hkl;have hB':Below c.T (m+1):=fun j hj=>hB j (by omega);simp only[↓zp,zv,↓reduceIte,aA,g0,g3,g4];refine bO hp hq (eC hp) fun h hp hd hq hE=> ?_;have hk:=hk.par hd;simp only[↓zp,zv,↓reduceIte,aA,g0,g3,g4];have hbx:Blk (h.push (.cells (nowT c.T (s)).cells.toArray 73)) h.size (nowT c.T (s)).cells 73:=Blk.new;have hlx:Loc (h.push (.cells (nowT c.T (s)).cells.toArray 73)) c _ _ h.size:=Loc.new hp (bA _) (by simp);have hEx:Ext [] h (h.push (.cells (nowT c.T (s)).cells.toArray 73)):=Ext.push _ _ _;have hp:=hp.ext0 hEx;have hq:=hq.ext0 hEx;generalize h.push (.cells (nowT c.T (s)).cells.toArray 73)=hx at hbx hlx hEx hp hq⊢;generalize hzx:h.size=bx at hbx hlx⊢;have hxxk:bx∉blks _:=fun hm=>by have:=(hk.1.2 _ hm).1;omega
 have hk:=hk.ext0 hEx;obtain⟨hlt,hr⟩:=cE hr hne;obtain⟨vl,hbp⟩:=hp.p;have hpl:=hbp.lt;have w1:=dV hp;simp only[↓zp,zv,↓reduceIte,aA,bE hbp,hpl,w1,g0,g3,g4];refine cX hp hq hlt fun h hp hd hq=> ?_;have hbx:=hlx.blk hbx hd;have hlx:=hlx.par hd;have hk:=hk.par hd;have hi:=dI hq;have hjki:=gS (v:=v);have hxxi:=gB (b:=bx);generalize nowT c.T _=t at hbx hr;simp only[↓zp,zv,↓reduceIte,aA,g0,g3,g4,bE hbx];refine bZ hq hi.2 hr hne (fun _=>oF hp _ _ hi.1) rfl fun a s h L U _ hr hp hd hq=> ?_;have hbx:=hlx.blkX hbx hd;have hlx:=hlx.parX hd hxxi;have hk:=hk.parX hd hjki;simp only[↓zp,zv,↓reduceIte,aA,g0,g3,g4];refine bJ (vals:=[a]) hp hq rfl rfl (by omega) (by omega) fun vi h hi hp hd hq hbv hE=> ?_;have hxxi:=bX hlx (Or.inr hbv);have hjki:=dT hk (Or.inr hbv);have hbx:=hlx.blk hbx hd;have hlx:=hlx.par hd;have hk:=hk.par hd;simp only[↓zp,zv,↓reduceIte,aA,g0,g3,g4];refine cZ hp hq hk hi.1.1 (by(try unfold most at*);(try simp only[aB,aD,aC]);omega) fun vk h hk hp hq hE hc=> ?_;have hbx:=hbx.ext hE hxxk;have hxxk:=lK hxxk hlx.1 hc;have hlx:=hlx.own hE;simp only[↓zp,zv,↓reduceIte,aA,g0,g3,g4,bE hbx];by_cases h6:t.kind=6
 ·have e6:((t.kind:Int)==6)=true:=by simp[h6]
  rw[if_pos (.inl h6)]at hr;simp only[↓zp,zv,↓reduceIte,aA,e6,g0,g3,g4];refine bP hq hk.2 hr hne (fun _=>bT hp 28 _ _ _ hk.1) rfl fun a s h _ hR=> ?_;simp only[↓zp,zv,↓reduceIte,aA];exact hR
 have e6:((t.kind:Int)==6)=false:=by simp;omega
 by_cases h9:t.kind=9
 ·have e9:((t.kind:Int)==9)=true:=by simp[h9]
  rw[if_pos (.inr h9)]at hr;simp only[↓zp,zv,↓reduceIte,aA,e6,e9,g0,g3,g4,bE hbx];refine bP hq hk.2 hr hne (fun _=>bT hp 28 _ _ _ hk.1) rfl fun a s h _ hR=> ?_;simp only[↓zp,zv,↓reduceIte,aA];exact hR
 have e9:((t.kind:Int)==9)=false:=by simp;omega
 rw[if_neg (by omega)]at hr;simp only[↓zp,zv,↓reduceIte,aA,e6,e9,g0,g3,g4,bE hbx];refine bF hq hr hne (fun r1 g1 g2=>(hB m (by omega)).1 c _ _ _ _ (.expression true) 42 _ r1 rfl rfl hp g1 g2) rfl fun e s h L U _ hr hp hd hq=> ?_;have hk:=hk.par hd;simp only[↓zp,zv,↓reduceIte,aA,g0,g3,g4];refine bJ (vals:=[e]) hp hq rfl rfl (by omega) (by omega) fun vj h hj hp hd hq hbv hE=> ?_;have hjkj:=dT hk (Or.inr hbv);have hk:=hk.par hd;simp only[↓zp,zv,↓reduceIte,aA,g0,g3,g4];refine cZ hp hq hk hj.1.1 (by(try unfold most at*);(try simp only[aB,aD,aC]);omega) fun vk h hk hp hq hE hc=> ?_;simp only[↓zp,zv,↓reduceIte,aA,g0,g3,g4];refine bO hp hq (eC hp) fun h hp hd hq hE=> ?_;have hk:=hk.par hd;simp only[↓zp,zv,↓reduceIte,aA,g0,g3,g4];by_cases h8:(nowT c.T s).kind=8
 ·have e8:(((nowT c.T s).kind:Int) !=8)=false:=by simp[h8]
  rw[if_neg (by omega)]at hr;simp only[↓zp,zv,↓reduceIte,aA,e8,g0,g3,g4];exact⟨m,by omega,L,U,_,_,_,by simp only[↓zp,zv,↓reduceIte,aA,g0],by simp only[↓zp,zv,↓reduceIte,aA,g3],by simp only[↓zp,zv,↓reduceIte,aA],hk,hp,hq,hr,by omega⟩
 have e8:(((nowT c.T s).kind:Int) !=8)=true:=by simp;omega
 by_cases h7:(nowT c.T s).kind=9
 ·have e7:(((nowT c.T s).kind:Int) !=9)=false:=by simp[h7]
  rw[if_neg (by omega)]at hr;simp only[↓zp,zv,↓reduceIte,aA,e8,e7,g0,g3,g4];exact⟨m,by omega,L,U,_,_,_,by simp only[↓zp,zv,↓reduceIte,aA,g0],by simp only[↓zp,zv,↓reduceIte,aA,g3],by simp only[↓zp,zv,↓reduceIte,aA],hk,hp,hq,hr,by omega⟩
 have e7:(((nowT c.T s).kind:Int) !=9)=true:=by simp;omega
 rw[if_pos (by omega)]at hr;simp only[↓zp,zv,↓reduceIte,aA,e8,e7,g0,g3,g4];exact gF hp hq hr rfl
theorem arrayF_c(hB:Below c.T n)(hp:PS h0 c L0 U0 s)(hr:(run c.T n).e (.array) s=r)(hne:r≠ .out):
 C aE 229 #[.pointer (some ⟨c.p,0,none⟩)] h0 (POut c h0 L0 U0 r vint):=by
 cases n with
 |zero=>exact absurd hr.symm hne
 |succ n=>
 obtain⟨hr,_⟩:=dP hr hne;simp only[dJ,pZ]at hr;have hq:Par c h0 L0 U0 h0 L0 U0:=Par.refl _ _ _ _;refine C_in Tryz.func229 rfl rfl (by kernel_rfl) (aG rfl) ?_;simp only[↓zp,zv,↓reduceIte,aA];refine bF hq hr hne (fun _=>cR hp [91]) rfl fun pos s h L U _ hr hp hd hq=> ?_;simp only[↓zp,zv,↓reduceIte,aA];have hk:=dI hq
 refine⟨fun m ρ h'=> ∃L U s' v ks,ρ 0=.pointer (some ⟨c.p,0,none⟩)∧ρ 3=vint pos∧ρ 4=v∧KN h0.size h' c L U v ks∧PS h' c L U s'∧Par c h0 L0 U0 h' L U∧(run c.T m).e (.arrLoop pos ks) s'=r∧m≤n,n,
  ⟨L,U,_,_,[],by simp only[↓zp,zv,↓reduceIte,aA],by simp only[↓zp,zv,↓reduceIte,aA],by simp only[↓zp,zv,↓reduceIte,aA],hk,hp,hq,hr,bA _⟩,?_⟩
 clear hr hk hp hq;rintro m ρ h3 ⟨L,U,s,v,ks,g0,g3,g4,hk,hp,hq,hr,hm⟩
 cases m with
 |zero=>exact absurd hr.symm hne
 |succ m=>
 obtain⟨hr,hkl⟩:=dP hr hne;simp only[dJ,mH]at hr;simp only[Fn1.kids]at hkl;have hB':Below c.T (m+1):=fun j hj=>hB j (by omega);simp only[↓zp,zv,↓reduceIte,aA,g0,g3,g4];refine bO hp hq (is_c hp [93]) fun h hp hd hq hE=> ?_;have hk:=hk.par hd;simp only[↓zp,zv,↓reduceIte,aA,g0,g3,g4];cases hx:isT c.T s [93]
 ·simp only[hx,aI,if_false]at hr;simp only[↓zp,zv,↓reduceIte,aA,hx,g0,g3,g4];refine bF hq hr hne (fun r1 g1 g2=>(hB m (by omega)).1 c _ _ _ _ (.argument) 249 _ r1 rfl rfl hp g1 g2) rfl fun a s h L U _ hr hp hd hq=> ?_;have hk:=hk.par hd;simp only[↓zp,zv,↓reduceIte,aA,g0,g3,g4];refine bJ (vals:=[a]) hp hq rfl rfl (by omega) (by omega) fun vi h hi hp hd hq hbv hE=> ?_;have hjki:=dT hk (Or.inr hbv);have hk:=hk.par hd;simp only[↓zp,zv,↓reduceIte,aA,g0,g3,g4];refine cZ hp hq hk hi.1.1 (by(try unfold most at*);(try simp only[aB,aD,aC]);omega) fun vk h hk hp hq hE hc=> ?_;simp only[↓zp,zv,↓reduceIte,aA,g0,g3,g4];refine bO hp hq (is_c hp [93]) fun h hp hd hq hE=> ?_;have hk:=hk.par hd;simp only[↓zp,zv,↓reduceIte,aA,g0,g3,g4];rw[dF]at hr;cases hy:isT c.T s [93]
  ·simp only[hy,aI,if_false]at hr;rw[dM]at hr;simp only[↓zp,zv,↓reduceIte,aA,hy,g0,g3,g4];refine bF hq hr hne (fun _=>cR hp [44]) rfl fun w s h L U _ hr hp hd hq=> ?_;have hk:=hk.par hd;simp only[↓zp,zv,↓reduceIte,aA,g0,g3,g4];exact⟨m,by omega,L,U,_,_,_,by simp only[↓zp,zv,↓reduceIte,aA,g0],by simp only[↓zp,zv,↓reduceIte,aA,g3],by simp only[↓zp,zv,↓reduceIte,aA],hk,hp,hq,hr,by omega⟩
  ·simp only[hy,if_true]at hr;rw[eT]at hr;simp only[↓zp,zv,↓reduceIte,aA,hy,g0,g3,g4];exact⟨m,by omega,L,U,_,_,_,by simp only[↓zp,zv,↓reduceIte,aA,g0],by simp only[↓zp,zv,↓reduceIte,aA,g3],by simp only[↓zp,zv,↓reduceIte,aA],hk,hp,hq,hr,by omega⟩
 ·simp only[hx,if_true]at hr;simp only[↓zp,zv,↓reduceIte,aA,hx,g0,g3,g4];refine bF hq hr hne (fun _=>cR hp [93]) rfl fun w s h L U _ hr hp hd hq=> ?_;have hk:=hk.par hd;simp only[↓zp,zv,↓reduceIte,aA,g0,g3,g4];refine bP hq hk.2 hr hne (fun _=>bT hp 8 _ _ _ hk.1) rfl fun a s h _ hR=> ?_;simp only[↓zp,zv,↓reduceIte,aA];exact hR
theorem objectF_c(hB:Below c.T n)(hp:PS h0 c L0 U0 s)(hr:(run c.T n).e (.object) s=r)(hne:r≠ .out):
 C aE 230 #[.pointer (some ⟨c.p,0,none⟩)] h0 (POut c h0 L0 U0 r vint):=by
 cases n with
 |zero=>exact absurd hr.symm hne
 |succ n=>
 obtain⟨hr,_⟩:=dP hr hne;simp only[dJ,nS]at hr;have hq:Par c h0 L0 U0 h0 L0 U0:=Par.refl _ _ _ _;refine C_in Tryz.func230 rfl rfl (by kernel_rfl) (aG rfl) ?_;simp only[↓zp,zv,↓reduceIte,aA];refine bF hq hr hne (fun _=>cR hp [123]) rfl fun pos s h L U _ hr hp hd hq=> ?_;simp only[↓zp,zv,↓reduceIte,aA];have hk:=dI hq
 refine⟨fun m ρ h'=> ∃L U s' v ks,ρ 0=.pointer (some ⟨c.p,0,none⟩)∧ρ 3=vint pos∧ρ 4=v∧KN h0.size h' c L U v ks∧PS h' c L U s'∧Par c h0 L0 U0 h' L U∧(run c.T m).e (.objLoop pos ks) s'=r∧m≤n,n,
  ⟨L,U,_,_,[],by simp only[↓zp,zv,↓reduceIte,aA],by simp only[↓zp,zv,↓reduceIte,aA],by simp only[↓zp,zv,↓reduceIte,aA],hk,hp,hq,hr,bA _⟩,?_⟩
 clear hr hk hp hq;rintro m ρ h3 ⟨L,U,s,v,ks,g0,g3,g4,hk,hp,hq,hr,hm⟩
 cases m with
 |zero=>exact absurd hr.symm hne
 |succ m=>
 obtain⟨hr,hkl⟩:=dP hr hne;simp only[dJ,mF]at hr;simp only[Fn1.kids]at hkl;have hB':Below c.T (m+1):=fun j hj=>hB j (by omega);simp only[↓zp,zv,↓reduceIte,aA,g0,g3,g4];refine bO hp hq (is_c hp [125]) fun h hp hd hq hE=> ?_;have hk:=hk.par hd;simp only[↓zp,zv,↓reduceIte,aA,g0,g3,g4];cases hx:isT c.T s [125]
 ·simp only[hx,aI,if_false]at hr;simp only[↓zp,zv,↓reduceIte,aA,hx,g0,g3,g4];refine bF hq hr hne (fun r1 g1 g2=>(hB m (by omega)).1 c _ _ _ _ (.property) 250 _ r1 rfl rfl hp g1 g2) rfl fun a s h L U _ hr hp hd hq=> ?_;have hk:=hk.par hd;simp only[↓zp,zv,↓reduceIte,aA,g0,g3,g4];refine bJ (vals:=[a]) hp hq rfl rfl (by omega) (by omega) fun vi h hi hp hd hq hbv hE=> ?_;have hjki:=dT hk (Or.inr hbv);have hk:=hk.par hd;simp only[↓zp,zv,↓reduceIte,aA,g0,g3,g4];refine cZ hp hq hk hi.1.1 (by(try unfold most at*);(try simp only[aB,aD,aC]);omega) fun vk h hk hp hq hE hc=> ?_;simp only[↓zp,zv,↓reduceIte,aA,g0,g3,g4];refine bO hp hq (is_c hp [125]) fun h hp hd hq hE=> ?_;have hk:=hk.par hd;simp only[↓zp,zv,↓reduceIte,aA,g0,g3,g4];rw[dF]at hr;cases hy:isT c.T s [125]
  ·simp only[hy,aI,if_false]at hr;rw[dM]at hr;simp only[↓zp,zv,↓reduceIte,aA,hy,g0,g3,g4];refine bF hq hr hne (fun _=>cR hp [44]) rfl fun w s h L U _ hr hp hd hq=> ?_;have hk:=hk.par hd;simp only[↓zp,zv,↓reduceIte,aA,g0,g3,g4];exact⟨m,by omega,L,U,_,_,_,by simp only[↓zp,zv,↓reduceIte,aA,g0],by simp only[↓zp,zv,↓reduceIte,aA,g3],by simp only[↓zp,zv,↓reduceIte,aA],hk,hp,hq,hr,by omega⟩
  ·simp only[hy,if_true]at hr;rw[eT]at hr;simp only[↓zp,zv,↓reduceIte,aA,hy,g0,g3,g4];exact⟨m,by omega,L,U,_,_,_,by simp only[↓zp,zv,↓reduceIte,aA,g0],by simp only[↓zp,zv,↓reduceIte,aA,g3],by simp only[↓zp,zv,↓reduceIte,aA],hk,hp,hq,hr,by omega⟩
 ·simp only[hx,if_true]at hr;simp only[↓zp,zv,↓reduceIte,aA,hx,g0,g3,g4];refine bF hq hr hne (fun _=>cR hp [125]) rfl fun w s h L U _ hr hp hd hq=> ?_;have hk:=hk.par hd;simp only[↓zp,zv,↓reduceIte,aA,g0,g3,g4];refine bP hq hk.2 hr hne (fun _=>bT hp 9 _ _ _ hk.1) rfl fun a s h _ hR=> ?_;simp only[↓zp,zv,↓reduceIte,aA];exact hR
end
end
section
def wU:Prop:=∀(h:Heap) (x:List UInt8),(∀b,b∈x→b.toNat<128)→x.length≤1000000→
 C aE 65 #[.string ⟨x.toArray⟩] h fun e h'=>e=.returned (.tuple #[.string ⟨(mW x).toArray⟩,.int .i64 0,.int .i64 0])∧Ext [] h h'
section
variable{c:PC}{h:Heap}{L:Nat}{U:List Nat}{s:St}{n:Nat}{r:Res Nat}
theorem xS(hB:Below c.T n)(hp:PS h c L U s)(hr:(run c.T n).e (.property) s=r)(hne:r≠ .out):
 C aE 250 #[.pointer (some ⟨c.p,0,none⟩)] h (POut c h L U r vint):=by
 cases n with
 |zero=>exact absurd hr.symm hne
 |succ n=>
 obtain⟨hr,_⟩:=dP hr hne;simp only[dJ,kH]at hr;have hq:Par c h L U h L U:=Par.refl _ _ _ _;refine C_in Tryz.func250 rfl rfl (by kernel_rfl) (aG rfl) ?_;simp only[↓zp,zv,↓reduceIte,aA];refine bO hp hq (eC hp) fun h hp hd hq hE=> ?_;simp only[↓zp,zv,↓reduceIte,aA];refine bO hp hq (kD hp) fun h hp hd hq hE=> ?_;simp only[↓zp,zv,↓reduceIte,aA];refine bO hp hq (fT _ _) fun h hp hd hq hE=> ?_;simp only[↓zp,zv,↓reduceIte,aA];have hbx:Blk (h.push (.cells (nowT c.T (s)).cells.toArray 73)) h.size (nowT c.T (s)).cells 73:=Blk.new;have hlx:Loc (h.push (.cells (nowT c.T (s)).cells.toArray 73)) c _ _ h.size:=Loc.new hp (bA _) (by simp);have hEx:Ext [] h (h.push (.cells (nowT c.T (s)).cells.toArray 73)):=Ext.push _ _ _;have hp:=hp.ext0 hEx;have hq:=hq.ext0 hEx;generalize h.push (.cells (nowT c.T (s)).cells.toArray 73)=hx at hbx hlx hEx hp hq⊢;generalize hzx:h.size=bx at hbx hlx⊢;generalize(bU c.T s 1).txt=behind at hr⊢;by_cases h1:(nowT c.T s).kind=1
 ·have e1:(((nowT c.T s).kind:Int)==1)=true:=by simp[h1]
  generalize hnt:nowT c.T s=t at hr hbx h1 e1;simp only[↓zp,zv,↓reduceIte,aA,bE hbx,e1];cases h2:t.text==([103,101,116]:List UInt8)
  ·simp only[↓zp,zv,↓reduceIte,aA,h2,e1,bE hbx];cases h3:t.text==([115,101,116]:List UInt8)
   ·rw[if_neg (by rintro⟨_,h|h,_⟩<;>simp[h]at h2 h3)]at hr;simp only[↓zp,zv,↓reduceIte,aA,h3,h2,e1];refine bF hq hr hne (fun r1 g1 g2=>(hB n (by omega)).1 c _ _ _ _ (.key) 268 _ r1 rfl rfl hp g1 g2) rfl fun k s h L U _ hr hp hd hq=> ?_;have hbx:=hlx.blk hbx hd;have hlx:=hlx.par hd;simp only[↓zp,zv,↓reduceIte,aA];refine bF hq hr hne (fun _=>at_c hp k) rfl fun pk s h L U _ hr hp hd hq=> ?_;have hbx:=hlx.blk hbx hd;have hlx:=hlx.par hd;simp only[↓zp,zv,↓reduceIte,aA,bE hbx,e1];refine bO hp hq (is_c hp [44]) fun h hp hd hq hE=> ?_;have hbx:=hlx.blk hbx hd;have hlx:=hlx.par hd;simp only[↓zp,zv,↓reduceIte,aA];cases g1:isT c.T s [44]
    ·simp only[↓zp,zv,↓reduceIte,aA,g1];refine bO hp hq (is_c hp [125]) fun h hp hd hq hE=> ?_;have hbx:=hlx.blk hbx hd;have hlx:=hlx.par hd;simp only[↓zp,zv,↓reduceIte,aA];cases g2:isT c.T s [125]
     ·rw[if_neg (by simp[g1,g2])]at hr;simp only[↓zp,zv,↓reduceIte,aA,g2];refine bO hp hq (is_c hp [40]) fun h hp hd hq hE=> ?_;have hbx:=hlx.blk hbx hd;have hlx:=hlx.par hd;simp only[↓zp,zv,↓reduceIte,aA];cases g3:isT c.T s [40]
      ·simp only[g3,aI,if_false]at hr;simp only[↓zp,zv,↓reduceIte,aA,g3];refine bF hq hr hne (fun _=>cR hp [58]) rfl fun w s h L U _ hr hp hd hq=> ?_;have hbx:=hlx.blk hbx hd;have hlx:=hlx.par hd;simp only[↓zp,zv,↓reduceIte,aA];refine bF hq hr hne (fun r1 g1 g2=>(hB n (by omega)).1 c _ _ _ _ (.assignment true) 70 _ r1 rfl rfl hp g1 g2) rfl fun v s h L U _ hr hp hd hq=> ?_;have hbx:=hlx.blk hbx hd;have hlx:=hlx.par hd;simp only[↓zp,zv,↓reduceIte,aA];refine bJ (vals:=[k,v]) hp hq rfl rfl (by omega) (by omega) fun v h hk hp hd hq hbv hE=> ?_;have hxxk:=bX hlx (Or.inr hbv);have hbx:=hlx.blk hbx hd;have hlx:=hlx.par hd;simp only[↓zp,zv,↓reduceIte,aA];refine bP hq hk.2 hr hne (fun _=>bT hp 10 _ _ _ hk.1) rfl fun a s h _ hR=> ?_;simp only[↓zp,zv,↓reduceIte,aA];exact hR
      ·simp only[g3,if_true]at hr;simp only[↓zp,zv,↓reduceIte,aA,g3];refine bF hq hr hne (fun r1 g1 g2=>(hB n (by omega)).1 c _ _ _ _ (.parameters) 97 _ r1 rfl rfl hp g1 g2) rfl fun ps s h L U _ hr hp hd hq=> ?_;have hbx:=hlx.blk hbx hd;have hlx:=hlx.par hd;simp only[↓zp,zv,↓reduceIte,aA];refine bF hq hr hne (fun _=>at_c hp ps) rfl fun pp s h L U _ hr hp hd hq=> ?_;have hbx:=hlx.blk hbx hd;have hlx:=hlx.par hd;simp only[↓zp,zv,↓reduceIte,aA];refine bF hq hr hne (fun r1 g1 g2=>(hB n (by omega)).1 c _ _ _ _ (.block) 101 _ r1 rfl rfl hp g1 g2) rfl fun b s h L U _ hr hp hd hq=> ?_;have hbx:=hlx.blk hbx hd;have hlx:=hlx.par hd;simp only[↓zp,zv,↓reduceIte,aA];refine bJ (vals:=[ps,b]) hp hq rfl rfl (by omega) (by omega) fun v h hk hp hd hq hbv hE=> ?_;have hxxk:=bX hlx (Or.inr hbv);have hbx:=hlx.blk hbx hd;have hlx:=hlx.par hd;simp only[↓zp,zv,↓reduceIte,aA];refine bZ hq hk.2 hr hne (fun _=>bT hp 13 _ _ _ hk.1) rfl fun f s h L U _ hr hp hd hq=> ?_;have hbx:=hlx.blkX hbx hd;have hlx:=hlx.parX hd hxxk;simp only[↓zp,zv,↓reduceIte,aA];refine bJ (vals:=[k,f]) hp hq rfl rfl (by omega) (by omega) fun v h hk hp hd hq hbv hE=> ?_;have hxxk:=bX hlx (Or.inr hbv);have hbx:=hlx.blk hbx hd;have hlx:=hlx.par hd;simp only[↓zp,zv,↓reduceIte,aA];refine bP hq hk.2 hr hne (fun _=>bT hp 10 _ _ _ hk.1) rfl fun a s h _ hR=> ?_;simp only[↓zp,zv,↓reduceIte,aA];exact hR
     ·simp only[↓zp,zv,↓reduceIte,aA,g2];rw[if_pos ⟨h1,by simp[g2]⟩]at hr;have hi:=dI hq;have hxxi:=gB (b:=bx);simp only[↓zp,zv,↓reduceIte,aA,g2,bE hbx];refine bZ hq hi.2 hr hne (fun _=>cO hp _ _ _ _ _ hi.1) rfl fun b s h L U _ hr hp hd hq=> ?_;have hbx:=hlx.blkX hbx hd;have hlx:=hlx.parX hd hxxi;simp only[↓zp,zv,↓reduceIte,aA];refine bJ (vals:=[k,b]) hp hq rfl rfl (by omega) (by omega) fun v h hk hp hd hq hbv hE=> ?_;have hxxk:=bX hlx (Or.inr hbv);have hbx:=hlx.blk hbx hd;have hlx:=hlx.par hd;simp only[↓zp,zv,↓reduceIte,aA];refine bP hq hk.2 hr hne (fun _=>bT hp 10 _ _ _ hk.1) rfl fun a s h _ hR=> ?_;simp only[↓zp,zv,↓reduceIte,aA];exact hR
    ·simp only[↓zp,zv,↓reduceIte,aA,g1];rw[if_pos ⟨h1,by simp[g1]⟩]at hr;have hi:=dI hq;have hxxi:=gB (b:=bx);simp only[↓zp,zv,↓reduceIte,aA,g1,bE hbx];refine bZ hq hi.2 hr hne (fun _=>cO hp _ _ _ _ _ hi.1) rfl fun b s h L U _ hr hp hd hq=> ?_;have hbx:=hlx.blkX hbx hd;have hlx:=hlx.parX hd hxxi;simp only[↓zp,zv,↓reduceIte,aA];refine bJ (vals:=[k,b]) hp hq rfl rfl (by omega) (by omega) fun v h hk hp hd hq hbv hE=> ?_;have hxxk:=bX hlx (Or.inr hbv);have hbx:=hlx.blk hbx hd;have hlx:=hlx.par hd;simp only[↓zp,zv,↓reduceIte,aA];refine bP hq hk.2 hr hne (fun _=>bT hp 10 _ _ _ hk.1) rfl fun a s h _ hR=> ?_;simp only[↓zp,zv,↓reduceIte,aA];exact hR
   ·simp only[↓zp,zv,↓reduceIte,aA,h3,h2,e1];refine dQ (e:=9) (n:=4) (vals:=cI [[44],[58],[40],[125]]) Tryz.underlying56 (by kernel_rfl) rfl rfl rfl (by omega) (by omega) fun v hw hrow hb2 hE2 hz2=> ?_;have hd:=Par.of_ext (c:=c) (L:=L) (U:=U) hE2;have hp:=hp.ext0 hE2;have hq:=hq.trans hd;have hbx:=hlx.blk hbx hd;have hlx:=hlx.par hd;simp only[↓zp,zv,↓reduceIte,aA];refine bO hp hq (lR hrow (by decide) _) fun h hp hd hq hE=> ?_;have hbx:=hlx.blk hbx hd;have hlx:=hlx.par hd;simp only[↓zp,zv,↓reduceIte,aA];cases g0:[[44],[58],[40],[125]].contains behind
    ·rw[if_pos ⟨h1,.inr (eq_of_beq h3),by rw[g0];rfl⟩]at hr;simp only[↓zp,zv,↓reduceIte,aA,g0,e1,h2,h3];refine dO hq hr hne (fun r1 g1 g2=>(hB n (by omega)).1 c _ _ _ _ (.accessor) 267 _ r1 rfl rfl hp g1 g2) rfl fun a s h _ hR=> ?_;simp only[↓zp,zv,↓reduceIte,aA];exact hR
    ·rw[if_neg (by rw[g0];simp)]at hr;simp only[↓zp,zv,↓reduceIte,aA,g0,e1,h2,h3];refine bF hq hr hne (fun r1 g1 g2=>(hB n (by omega)).1 c _ _ _ _ (.key) 268 _ r1 rfl rfl hp g1 g2) rfl fun k s h L U _ hr hp hd hq=> ?_;have hbx:=hlx.blk hbx hd;have hlx:=hlx.par hd;simp only[↓zp,zv,↓reduceIte,aA];refine bF hq hr hne (fun _=>at_c hp k) rfl fun pk s h L U _ hr hp hd hq=> ?_;have hbx:=hlx.blk hbx hd;have hlx:=hlx.par hd;simp only[↓zp,zv,↓reduceIte,aA,bE hbx,e1];refine bO hp hq (is_c hp [44]) fun h hp hd hq hE=> ?_;have hbx:=hlx.blk hbx hd;have hlx:=hlx.par hd;simp only[↓zp,zv,↓reduceIte,aA];cases g1:isT c.T s [44]
     ·simp only[↓zp,zv,↓reduceIte,aA,g1];refine bO hp hq (is_c hp [125]) fun h hp hd hq hE=> ?_;have hbx:=hlx.blk hbx hd;have hlx:=hlx.par hd;simp only[↓zp,zv,↓reduceIte,aA];cases g2:isT c.T s [125]
      ·rw[if_neg (by simp[g1,g2])]at hr;simp only[↓zp,zv,↓reduceIte,aA,g2];refine bO hp hq (is_c hp [40]) fun h hp hd hq hE=> ?_;have hbx:=hlx.blk hbx hd;have hlx:=hlx.par hd;simp only[↓zp,zv,↓reduceIte,aA];cases g3:isT c.T s [40]
       ·simp only[g3,aI,if_false]at hr;simp only[↓zp,zv,↓reduceIte,aA,g3];refine bF hq hr hne (fun _=>cR hp [58]) rfl fun w s h L U _ hr hp hd hq=> ?_;have hbx:=hlx.blk hbx hd;have hlx:=hlx.par hd;simp only[↓zp,zv,↓reduceIte,aA];refine bF hq hr hne (fun r1 g1 g2=>(hB n (by omega)).1 c _ _ _ _ (.assignment true) 70 _ r1 rfl rfl hp g1 g2) rfl fun v s h L U _ hr hp hd hq=> ?_;have hbx:=hlx.blk hbx hd;have hlx:=hlx.par hd;simp only[↓zp,zv,↓reduceIte,aA];refine bJ (vals:=[k,v]) hp hq rfl rfl (by omega) (by omega) fun v h hk hp hd hq hbv hE=> ?_;have hxxk:=bX hlx (Or.inr hbv);have hbx:=hlx.blk hbx hd;have hlx:=hlx.par hd;simp only[↓zp,zv,↓reduceIte,aA];refine bP hq hk.2 hr hne (fun _=>bT hp 10 _ _ _ hk.1) rfl fun a s h _ hR=> ?_;simp only[↓zp,zv,↓reduceIte,aA];exact hR
       ·simp only[g3,if_true]at hr;simp only[↓zp,zv,↓reduceIte,aA,g3];refine bF hq hr hne (fun r1 g1 g2=>(hB n (by omega)).1 c _ _ _ _ (.parameters) 97 _ r1 rfl rfl hp g1 g2) rfl fun ps s h L U _ hr hp hd hq=> ?_;have hbx:=hlx.blk hbx hd;have hlx:=hlx.par hd;simp only[↓zp,zv,↓reduceIte,aA];refine bF hq hr hne (fun _=>at_c hp ps) rfl fun pp s h L U _ hr hp hd hq=> ?_;have hbx:=hlx.blk hbx hd;have hlx:=hlx.par hd;simp only[↓zp,zv,↓reduceIte,aA];refine bF hq hr hne (fun r1 g1 g2=>(hB n (by omega)).1 c _ _ _ _ (.block) 101 _ r1 rfl rfl hp g1 g2) rfl fun b s h L U _ hr hp hd hq=> ?_;have hbx:=hlx.blk hbx hd;have hlx:=hlx.par hd;simp only[↓zp,zv,↓reduceIte,aA];refine bJ (vals:=[ps,b]) hp hq rfl rfl (by omega) (by omega) fun v h hk hp hd hq hbv hE=> ?_;have hxxk:=bX hlx (Or.inr hbv);have hbx:=hlx.blk hbx hd;have hlx:=hlx.par hd;simp only[↓zp,zv,↓reduceIte,aA];refine bZ hq hk.2 hr hne (fun _=>bT hp 13 _ _ _ hk.1) rfl fun f s h L U _ hr hp hd hq=> ?_;have hbx:=hlx.blkX hbx hd;have hlx:=hlx.parX hd hxxk;simp only[↓zp,zv,↓reduceIte,aA];refine bJ (vals:=[k,f]) hp hq rfl rfl (by omega) (by omega) fun v h hk hp hd hq hbv hE=> ?_;have hxxk:=bX hlx (Or.inr hbv);have hbx:=hlx.blk hbx hd;have hlx:=hlx.par hd;simp only[↓zp,zv,↓reduceIte,aA];refine bP hq hk.2 hr hne (fun _=>bT hp 10 _ _ _ hk.1) rfl fun a s h _ hR=> ?_;simp only[↓zp,zv,↓reduceIte,aA];exact hR
      ·simp only[↓zp,zv,↓reduceIte,aA,g2];rw[if_pos ⟨h1,by simp[g2]⟩]at hr;have hi:=dI hq;have hxxi:=gB (b:=bx);simp only[↓zp,zv,↓reduceIte,aA,g2,bE hbx];refine bZ hq hi.2 hr hne (fun _=>cO hp _ _ _ _ _ hi.1) rfl fun b s h L U _ hr hp hd hq=> ?_;have hbx:=hlx.blkX hbx hd;have hlx:=hlx.parX hd hxxi;simp only[↓zp,zv,↓reduceIte,aA];refine bJ (vals:=[k,b]) hp hq rfl rfl (by omega) (by omega) fun v h hk hp hd hq hbv hE=> ?_;have hxxk:=bX hlx (Or.inr hbv);have hbx:=hlx.blk hbx hd;have hlx:=hlx.par hd;simp only[↓zp,zv,↓reduceIte,aA];refine bP hq hk.2 hr hne (fun _=>bT hp 10 _ _ _ hk.1) rfl fun a s h _ hR=> ?_;simp only[↓zp,zv,↓reduceIte,aA];exact hR
     ·simp only[↓zp,zv,↓reduceIte,aA,g1];rw[if_pos ⟨h1,by simp[g1]⟩]at hr;have hi:=dI hq;have hxxi:=gB (b:=bx);simp only[↓zp,zv,↓reduceIte,aA,g1,bE hbx];refine bZ hq hi.2 hr hne (fun _=>cO hp _ _ _ _ _ hi.1) rfl fun b s h L U _ hr hp hd hq=> ?_;have hbx:=hlx.blkX hbx hd;have hlx:=hlx.parX hd hxxi;simp only[↓zp,zv,↓reduceIte,aA];refine bJ (vals:=[k,b]) hp hq rfl rfl (by omega) (by omega) fun v h hk hp hd hq hbv hE=> ?_;have hxxk:=bX hlx (Or.inr hbv);have hbx:=hlx.blk hbx hd;have hlx:=hlx.par hd;simp only[↓zp,zv,↓reduceIte,aA];refine bP hq hk.2 hr hne (fun _=>bT hp 10 _ _ _ hk.1) rfl fun a s h _ hR=> ?_;simp only[↓zp,zv,↓reduceIte,aA];exact hR
  ·simp only[↓zp,zv,↓reduceIte,aA,h2,e1];refine dQ (e:=9) (n:=4) (vals:=cI [[44],[58],[40],[125]]) Tryz.underlying56 (by kernel_rfl) rfl rfl rfl (by omega) (by omega) fun v hw hrow hb2 hE2 hz2=> ?_;have hd:=Par.of_ext (c:=c) (L:=L) (U:=U) hE2;have hp:=hp.ext0 hE2;have hq:=hq.trans hd;have hbx:=hlx.blk hbx hd;have hlx:=hlx.par hd;simp only[↓zp,zv,↓reduceIte,aA];refine bO hp hq (lR hrow (by decide) _) fun h hp hd hq hE=> ?_;have hbx:=hlx.blk hbx hd;have hlx:=hlx.par hd;simp only[↓zp,zv,↓reduceIte,aA];cases g0:[[44],[58],[40],[125]].contains behind
   ·rw[if_pos ⟨h1,.inl (eq_of_beq h2),by rw[g0];rfl⟩]at hr;simp only[↓zp,zv,↓reduceIte,aA,g0,e1,h2];refine dO hq hr hne (fun r1 g1 g2=>(hB n (by omega)).1 c _ _ _ _ (.accessor) 267 _ r1 rfl rfl hp g1 g2) rfl fun a s h _ hR=> ?_;simp only[↓zp,zv,↓reduceIte,aA];exact hR
   ·rw[if_neg (by rw[g0];simp)]at hr;simp only[↓zp,zv,↓reduceIte,aA,g0,e1,h2];refine bF hq hr hne (fun r1 g1 g2=>(hB n (by omega)).1 c _ _ _ _ (.key) 268 _ r1 rfl rfl hp g1 g2) rfl fun k s h L U _ hr hp hd hq=> ?_;have hbx:=hlx.blk hbx hd;have hlx:=hlx.par hd;simp only[↓zp,zv,↓reduceIte,aA];refine bF hq hr hne (fun _=>at_c hp k) rfl fun pk s h L U _ hr hp hd hq=> ?_;have hbx:=hlx.blk hbx hd;have hlx:=hlx.par hd;simp only[↓zp,zv,↓reduceIte,aA,bE hbx,e1];refine bO hp hq (is_c hp [44]) fun h hp hd hq hE=> ?_;have hbx:=hlx.blk hbx hd;have hlx:=hlx.par hd;simp only[↓zp,zv,↓reduceIte,aA];cases g1:isT c.T s [44]
    ·simp only[↓zp,zv,↓reduceIte,aA,g1];refine bO hp hq (is_c hp [125]) fun h hp hd hq hE=> ?_;have hbx:=hlx.blk hbx hd;have hlx:=hlx.par hd;simp only[↓zp,zv,↓reduceIte,aA];cases g2:isT c.T s [125]
     ·rw[if_neg (by simp[g1,g2])]at hr;simp only[↓zp,zv,↓reduceIte,aA,g2];refine bO hp hq (is_c hp [40]) fun h hp hd hq hE=> ?_;have hbx:=hlx.blk hbx hd;have hlx:=hlx.par hd;simp only[↓zp,zv,↓reduceIte,aA];cases g3:isT c.T s [40]
      ·simp only[g3,aI,if_false]at hr;simp only[↓zp,zv,↓reduceIte,aA,g3];refine bF hq hr hne (fun _=>cR hp [58]) rfl fun w s h L U _ hr hp hd hq=> ?_;have hbx:=hlx.blk hbx hd;have hlx:=hlx.par hd;simp only[↓zp,zv,↓reduceIte,aA];refine bF hq hr hne (fun r1 g1 g2=>(hB n (by omega)).1 c _ _ _ _ (.assignment true) 70 _ r1 rfl rfl hp g1 g2) rfl fun v s h L U _ hr hp hd hq=> ?_;have hbx:=hlx.blk hbx hd;have hlx:=hlx.par hd;simp only[↓zp,zv,↓reduceIte,aA];refine bJ (vals:=[k,v]) hp hq rfl rfl (by omega) (by omega) fun v h hk hp hd hq hbv hE=> ?_;have hxxk:=bX hlx (Or.inr hbv);have hbx:=hlx.blk hbx hd;have hlx:=hlx.par hd;simp only[↓zp,zv,↓reduceIte,aA];refine bP hq hk.2 hr hne (fun _=>bT hp 10 _ _ _ hk.1) rfl fun a s h _ hR=> ?_;simp only[↓zp,zv,↓reduceIte,aA];exact hR
      ·simp only[g3,if_true]at hr;simp only[↓zp,zv,↓reduceIte,aA,g3];refine bF hq hr hne (fun r1 g1 g2=>(hB n (by omega)).1 c _ _ _ _ (.parameters) 97 _ r1 rfl rfl hp g1 g2) rfl fun ps s h L U _ hr hp hd hq=> ?_;have hbx:=hlx.blk hbx hd;have hlx:=hlx.par hd;simp only[↓zp,zv,↓reduceIte,aA];refine bF hq hr hne (fun _=>at_c hp ps) rfl fun pp s h L U _ hr hp hd hq=> ?_;have hbx:=hlx.blk hbx hd;have hlx:=hlx.par hd;simp only[↓zp,zv,↓reduceIte,aA];refine bF hq hr hne (fun r1 g1 g2=>(hB n (by omega)).1 c _ _ _ _ (.block) 101 _ r1 rfl rfl hp g1 g2) rfl fun b s h L U _ hr hp hd hq=> ?_;have hbx:=hlx.blk hbx hd;have hlx:=hlx.par hd;simp only[↓zp,zv,↓reduceIte,aA];refine bJ (vals:=[ps,b]) hp hq rfl rfl (by omega) (by omega) fun v h hk hp hd hq hbv hE=> ?_;have hxxk:=bX hlx (Or.inr hbv);have hbx:=hlx.blk hbx hd;have hlx:=hlx.par hd;simp only[↓zp,zv,↓reduceIte,aA];refine bZ hq hk.2 hr hne (fun _=>bT hp 13 _ _ _ hk.1) rfl fun f s h L U _ hr hp hd hq=> ?_;have hbx:=hlx.blkX hbx hd;have hlx:=hlx.parX hd hxxk;simp only[↓zp,zv,↓reduceIte,aA];refine bJ (vals:=[k,f]) hp hq rfl rfl (by omega) (by omega) fun v h hk hp hd hq hbv hE=> ?_;have hxxk:=bX hlx (Or.inr hbv);have hbx:=hlx.blk hbx hd;have hlx:=hlx.par hd;simp only[↓zp,zv,↓reduceIte,aA];refine bP hq hk.2 hr hne (fun _=>bT hp 10 _ _ _ hk.1) rfl fun a s h _ hR=> ?_;simp only[↓zp,zv,↓reduceIte,aA];exact hR
     ·simp only[↓zp,zv,↓reduceIte,aA,g2];rw[if_pos ⟨h1,by simp[g2]⟩]at hr;have hi:=dI hq;have hxxi:=gB (b:=bx);simp only[↓zp,zv,↓reduceIte,aA,g2,bE hbx];refine bZ hq hi.2 hr hne (fun _=>cO hp _ _ _ _ _ hi.1) rfl fun b s h L U _ hr hp hd hq=> ?_;have hbx:=hlx.blkX hbx hd;have hlx:=hlx.parX hd hxxi;simp only[↓zp,zv,↓reduceIte,aA];refine bJ (vals:=[k,b]) hp hq rfl rfl (by omega) (by omega) fun v h hk hp hd hq hbv hE=> ?_;have hxxk:=bX hlx (Or.inr hbv);have hbx:=hlx.blk hbx hd;have hlx:=hlx.par hd;simp only[↓zp,zv,↓reduceIte,aA];refine bP hq hk.2 hr hne (fun _=>bT hp 10 _ _ _ hk.1) rfl fun a s h _ hR=> ?_;simp only[↓zp,zv,↓reduceIte,aA];exact hR
    ·simp only[↓zp,zv,↓reduceIte,aA,g1];rw[if_pos ⟨h1,by simp[g1]⟩]at hr;have hi:=dI hq;have hxxi:=gB (b:=bx);simp only[↓zp,zv,↓reduceIte,aA,g1,bE hbx];refine bZ hq hi.2 hr hne (fun _=>cO hp _ _ _ _ _ hi.1) rfl fun b s h L U _ hr hp hd hq=> ?_;have hbx:=hlx.blkX hbx hd;have hlx:=hlx.parX hd hxxi;simp only[↓zp,zv,↓reduceIte,aA];refine bJ (vals:=[k,b]) hp hq rfl rfl (by omega) (by omega) fun v h hk hp hd hq hbv hE=> ?_;have hxxk:=bX hlx (Or.inr hbv);have hbx:=hlx.blk hbx hd;have hlx:=hlx.par hd;simp only[↓zp,zv,↓reduceIte,aA];refine bP hq hk.2 hr hne (fun _=>bT hp 10 _ _ _ hk.1) rfl fun a s h _ hR=> ?_;simp only[↓zp,zv,↓reduceIte,aA];exact hR
 ·have e1:(((nowT c.T s).kind:Int)==1)=false:=by simp;omega
  generalize hnt:nowT c.T s=t at hr hbx h1 e1;rw[if_neg (by simp[h1])]at hr;simp only[↓zp,zv,↓reduceIte,aA,bE hbx,e1];refine bF hq hr hne (fun r1 g1 g2=>(hB n (by omega)).1 c _ _ _ _ (.key) 268 _ r1 rfl rfl hp g1 g2) rfl fun k s h L U _ hr hp hd hq=> ?_;have hbx:=hlx.blk hbx hd;have hlx:=hlx.par hd;simp only[↓zp,zv,↓reduceIte,aA];refine bF hq hr hne (fun _=>at_c hp k) rfl fun pk s h L U _ hr hp hd hq=> ?_;have hbx:=hlx.blk hbx hd;have hlx:=hlx.par hd;simp only[↓zp,zv,↓reduceIte,aA,bE hbx,e1];rw[if_neg (by simp[h1])]at hr;refine bO hp hq (is_c hp [40]) fun h hp hd hq hE=> ?_;have hbx:=hlx.blk hbx hd;have hlx:=hlx.par hd;simp only[↓zp,zv,↓reduceIte,aA];cases g3:isT c.T s [40]
  ·simp only[g3,aI,if_false]at hr;simp only[↓zp,zv,↓reduceIte,aA,g3];refine bF hq hr hne (fun _=>cR hp [58]) rfl fun w s h L U _ hr hp hd hq=> ?_;have hbx:=hlx.blk hbx hd;have hlx:=hlx.par hd;simp only[↓zp,zv,↓reduceIte,aA];refine bF hq hr hne (fun r1 g1 g2=>(hB n (by omega)).1 c _ _ _ _ (.assignment true) 70 _ r1 rfl rfl hp g1 g2) rfl fun v s h L U _ hr hp hd hq=> ?_;have hbx:=hlx.blk hbx hd;have hlx:=hlx.par hd;simp only[↓zp,zv,↓reduceIte,aA];refine bJ (vals:=[k,v]) hp hq rfl rfl (by omega) (by omega) fun v h hk hp hd hq hbv hE=> ?_;have hxxk:=bX hlx (Or.inr hbv);have hbx:=hlx.blk hbx hd;have hlx:=hlx.par hd;simp only[↓zp,zv,↓reduceIte,aA];refine bP hq hk.2 hr hne (fun _=>bT hp 10 _ _ _ hk.1) rfl fun a s h _ hR=> ?_;simp only[↓zp,zv,↓reduceIte,aA];exact hR
  ·simp only[g3,if_true]at hr;simp only[↓zp,zv,↓reduceIte,aA,g3];refine bF hq hr hne (fun r1 g1 g2=>(hB n (by omega)).1 c _ _ _ _ (.parameters) 97 _ r1 rfl rfl hp g1 g2) rfl fun ps s h L U _ hr hp hd hq=> ?_;have hbx:=hlx.blk hbx hd;have hlx:=hlx.par hd;simp only[↓zp,zv,↓reduceIte,aA];refine bF hq hr hne (fun _=>at_c hp ps) rfl fun pp s h L U _ hr hp hd hq=> ?_;have hbx:=hlx.blk hbx hd;have hlx:=hlx.par hd;simp only[↓zp,zv,↓reduceIte,aA];refine bF hq hr hne (fun r1 g1 g2=>(hB n (by omega)).1 c _ _ _ _ (.block) 101 _ r1 rfl rfl hp g1 g2) rfl fun b s h L U _ hr hp hd hq=> ?_;have hbx:=hlx.blk hbx hd;have hlx:=hlx.par hd;simp only[↓zp,zv,↓reduceIte,aA];refine bJ (vals:=[ps,b]) hp hq rfl rfl (by omega) (by omega) fun v h hk hp hd hq hbv hE=> ?_;have hxxk:=bX hlx (Or.inr hbv);have hbx:=hlx.blk hbx hd;have hlx:=hlx.par hd;simp only[↓zp,zv,↓reduceIte,aA];refine bZ hq hk.2 hr hne (fun _=>bT hp 13 _ _ _ hk.1) rfl fun f s h L U _ hr hp hd hq=> ?_;have hbx:=hlx.blkX hbx hd;have hlx:=hlx.parX hd hxxk;simp only[↓zp,zv,↓reduceIte,aA];refine bJ (vals:=[k,f]) hp hq rfl rfl (by omega) (by omega) fun v h hk hp hd hq hbv hE=> ?_;have hxxk:=bX hlx (Or.inr hbv);have hbx:=hlx.blk hbx hd;have hlx:=hlx.par hd;simp only[↓zp,zv,↓reduceIte,aA];refine bP hq hk.2 hr hne (fun _=>bT hp 10 _ _ _ hk.1) rfl fun a s h _ hR=> ?_;simp only[↓zp,zv,↓reduceIte,aA];exact hR
theorem keyF_c(hOf:wU)(hB:Below c.T n)(hp:PS h c L U s)(hr:(run c.T n).e (.key) s=r)(hne:r≠ .out):
 C aE 268 #[.pointer (some ⟨c.p,0,none⟩)] h (POut c h L U r vint):=by
 cases n with
 |zero=>exact absurd hr.symm hne
 |succ n=>
 obtain⟨hr,_⟩:=dP hr hne;simp only[dJ,s_key]at hr;have hq:Par c h L U h L U:=Par.refl _ _ _ _;refine C_in Tryz.func268 rfl rfl (by kernel_rfl) (aG rfl) ?_;simp only[↓zp,zv,↓reduceIte,aA];refine bO hp hq (eC hp) fun h hp hd hq hE=> ?_;simp only[↓zp,zv,↓reduceIte,aA];have hbx:Blk (h.push (.cells (nowT c.T (s)).cells.toArray 73)) h.size (nowT c.T (s)).cells 73:=Blk.new;have hlx:Loc (h.push (.cells (nowT c.T (s)).cells.toArray 73)) c _ _ h.size:=Loc.new hp (bA _) (by simp);have hEx:Ext [] h (h.push (.cells (nowT c.T (s)).cells.toArray 73)):=Ext.push _ _ _;have hp:=hp.ext0 hEx;have hq:=hq.ext0 hEx;generalize h.push (.cells (nowT c.T (s)).cells.toArray 73)=hx at hbx hlx hEx hp hq⊢;generalize hzx:h.size=bx at hbx hlx⊢;have hmem:nowT c.T s∈c.T:=by unfold nowT;rw[List.getD_eq_getElem?_getD,aS hp.lt];exact List.getElem_mem hp.lt
 by_cases h1:(nowT c.T s).kind=1
 ·have e1:(((nowT c.T s).kind:Int)==1)=true:=by simp[h1]
  have hasc:=hp.asc _ hmem (.inl h1);rw[if_pos (.inl h1)]at hr;simp only[↓zp,zv,↓reduceIte,aA,bE hbx,e1];obtain⟨hlt,hr⟩:=cE hr hne;obtain⟨vl,hbp⟩:=hp.p;have hpl:=hbp.lt;have w1:=dV hp;simp only[↓zp,zv,↓reduceIte,aA,bE hbp,hpl,w1];refine cX hp hq hlt fun h hp hd hq=> ?_;have hbx:=hlx.blk hbx hd;have hlx:=hlx.par hd;simp only[↓zp,zv,↓reduceIte,aA,bE hbx];refine bO hp hq (hOf _ _ hasc.1 hasc.2) fun h hp hd hq hE=> ?_;have hbx:=hlx.blk hbx hd;have hlx:=hlx.par hd;simp only[↓zp,zv,↓reduceIte,aA,bE hbx];have hk:=dI hq;refine bP hq hk.2 hr hne (fun _=>oF hp _ _ hk.1) rfl fun a s h _ hR=> ?_;simp only[↓zp,zv,↓reduceIte,aA];exact hR
 have e1:(((nowT c.T s).kind:Int)==1)=false:=by simp;omega
 by_cases h2:(nowT c.T s).kind=2
 ·have e2:(((nowT c.T s).kind:Int)==2)=true:=by simp[h2]
  have hasc:=hp.asc _ hmem (.inr h2);rw[if_pos (.inr h2)]at hr;simp only[↓zp,zv,↓reduceIte,aA,bE hbx,e1,e2];obtain⟨hlt,hr⟩:=cE hr hne;obtain⟨vl,hbp⟩:=hp.p;have hpl:=hbp.lt;have w1:=dV hp;simp only[↓zp,zv,↓reduceIte,aA,bE hbp,hpl,w1];refine cX hp hq hlt fun h hp hd hq=> ?_;have hbx:=hlx.blk hbx hd;have hlx:=hlx.par hd;simp only[↓zp,zv,↓reduceIte,aA,bE hbx];refine bO hp hq (hOf _ _ hasc.1 hasc.2) fun h hp hd hq hE=> ?_;have hbx:=hlx.blk hbx hd;have hlx:=hlx.par hd;simp only[↓zp,zv,↓reduceIte,aA,bE hbx];have hk:=dI hq;refine bP hq hk.2 hr hne (fun _=>oF hp _ _ hk.1) rfl fun a s h _ hR=> ?_;simp only[↓zp,zv,↓reduceIte,aA];exact hR
 have e2:(((nowT c.T s).kind:Int)==2)=false:=by simp;omega
 rw[if_neg (by omega)]at hr;by_cases h3:(nowT c.T s).kind=5
 ·have e3:(((nowT c.T s).kind:Int)==5)=true:=by simp[h3]
  rw[if_pos h3]at hr;simp only[↓zp,zv,↓reduceIte,aA,bE hbx,e1,e2,e3];obtain⟨hlt,hr⟩:=cE hr hne;obtain⟨vl,hbp⟩:=hp.p;have hpl:=hbp.lt;have w1:=dV hp;simp only[↓zp,zv,↓reduceIte,aA,bE hbp,hpl,w1];refine cX hp hq hlt fun h hp hd hq=> ?_;have hbx:=hlx.blk hbx hd;have hlx:=hlx.par hd;simp only[↓zp,zv,↓reduceIte,aA,bE hbx];have hk:=dI hq;refine bP hq hk.2 hr hne (fun _=>oF hp _ _ hk.1) rfl fun a s h _ hR=> ?_;simp only[↓zp,zv,↓reduceIte,aA];exact hR
 have e3:(((nowT c.T s).kind:Int)==5)=false:=by simp;omega
 rw[if_neg h3]at hr;by_cases h4:(nowT c.T s).kind=4
 ·have e4:(((nowT c.T s).kind:Int)==4)=true:=by simp[h4]
  rw[if_pos h4]at hr;simp only[↓zp,zv,↓reduceIte,aA,bE hbx,e1,e2,e3,e4];obtain⟨hlt,hr⟩:=cE hr hne;obtain⟨vl,hbp⟩:=hp.p;have hpl:=hbp.lt;have w1:=dV hp;simp only[↓zp,zv,↓reduceIte,aA,bE hbp,hpl,w1];refine cX hp hq hlt fun h hp hd hq=> ?_;have hbx:=hlx.blk hbx hd;have hlx:=hlx.par hd;simp only[↓zp,zv,↓reduceIte,aA,bE hbx];have hk:=dI hq;refine bP hq hk.2 hr hne (fun _=>oF hp _ _ hk.1) rfl fun a s h _ hR=> ?_;simp only[↓zp,zv,↓reduceIte,aA];exact hR
 have e4:(((nowT c.T s).kind:Int)==4)=false:=by simp;omega
 rw[if_neg h4]at hr;simp only[↓zp,zv,↓reduceIte,aA,bE hbx,e1,e2,e3,e4];refine bF hq hr hne (fun _=>cR hp [91]) rfl fun w s h L U _ hr hp hd hq=> ?_;have hbx:=hlx.blk hbx hd;have hlx:=hlx.par hd;simp only[↓zp,zv,↓reduceIte,aA];refine bF hq hr hne (fun r1 g1 g2=>(hB n (by omega)).1 c _ _ _ _ (.assignment true) 70 _ r1 rfl rfl hp g1 g2) rfl fun e s h L U _ hr hp hd hq=> ?_;have hbx:=hlx.blk hbx hd;have hlx:=hlx.par hd;simp only[↓zp,zv,↓reduceIte,aA];refine bF hq hr hne (fun _=>cR hp [93]) rfl fun w s h L U _ hr hp hd hq=> ?_;have hbx:=hlx.blk hbx hd;have hlx:=hlx.par hd;simp only[↓zp,zv,↓reduceIte,aA,bE hbx];refine bJ (vals:=[e]) hp hq rfl rfl (by omega) (by omega) fun v h hk hp hd hq hbv hE=> ?_;have hxxk:=bX hlx (Or.inr hbv);have hbx:=hlx.blk hbx hd;have hlx:=hlx.par hd;simp only[↓zp,zv,↓reduceIte,aA];refine bP hq hk.2 hr hne (fun _=>bT hp 56 _ _ _ hk.1) rfl fun a s h _ hR=> ?_;simp only[↓zp,zv,↓reduceIte,aA];exact hR
end
end
section
theorem pQ(x:Int):∃u:Nat,u<65536∧IntKind.u16.wrap x=(u:Int):=by
 rw[IntKind.wrap_u16];exact⟨(x%65536).toNat,by omega,by omega⟩
section
variable{h:Heap}
theorem BS.new{h:Heap}:BS (h.push (.cells #[.pointer none,.slice none 0 0] 115)) h.size h.size []:=
 ⟨none,.slice none 0 0,Blk.newA,.inl rfl,Row.nil,by simp[blks],by simp⟩
def PointOut(r:Nat)(h:Heap)(e:Ending)(h':Heap):Prop:=∃l:List UInt8,e=.returned (.string ⟨l.toArray⟩)∧l.length%2=0∧l.length≤4∧(r<65536→l=[hiB r,loB r])∧Ext [] h h'
theorem qB(r:Nat)(hr:r≤1114111):C aE 91 #[.int .i32 (r:Int)] h (PointOut r h):=by
 have d1:decide ((r:Int)<0)=false:=by simp
 have d2:decide ((1114111:Int)<(r:Int))=false:=by simp;omega
 have hE0:Ext [] h (h.push (.cells #[.pointer none,.slice none 0 0] 115)):=Ext.push _ _ _;refine C_in Tryz.func91 rfl rfl (by kernel_rfl) (aG rfl) ?_;simp only[↓zp,zw,aA,d1,d2];have hor:r<65536∨65536≤r:=by omega
 cases hor with
 |inl hl=>
  have d3:decide ((r:Int)<65536)=true:=bC (by omega);have e1:IntKind.u16.wrap (r:Int)=(r:Int):=by rw[IntKind.wrap_u16];omega
  simp only[↓zp,zw,aA,d3,e1];refine bH (nY 113 (.inl rfl) BS.new r hl (by simp)) ?_;rintro _ h1 ⟨rfl,K1,H1,q1⟩;simp only[↓zp,zw,aA];refine bH (jV H1 (by simp)) ?_;rintro _ h2 ⟨rfl,hE2⟩;simp only[↓zp,zw,aA];obtain⟨g1,g2⟩:=Par.newB hE0 q1 (bA _) (bA _)
  exact⟨_,rfl,by simp,by simp,fun _=>rfl,g1.trans_new hE2 fun y hy=> .inl (by simp at hy;omega)⟩
 |inr hl=>
  have d3:decide ((r:Int)<65536)=false:=bD (by omega);have HB:=BS.new (h:=h);simp only[↓zp,zw,aA,d3,dB (b:=10) 10 rfl];generalize h.push (.cells #[.pointer none,.slice none 0 0] 115)=h0 at hE0 HB⊢;obtain⟨u,hu,eu⟩:=pQ (IntKind.i32.wrap (55296+(IntKind.i32.wrap ((r:Int)-65536)).fdiv (2^min 10 IntKind.i32.bits)));rw[eu];refine bH (nY 113 (.inl rfl) HB u hu (by simp)) ?_;rintro _ h1 ⟨rfl,K1,H1,q1⟩;simp only[↓zp,zw,aA];obtain⟨u2,hu2,eu2⟩:=pQ (bor .i32 56320 (band .i32 (r:Int) 1023));rw[eu2];refine bH (nY 113 (.inl rfl) H1 u2 hu2 (by simp)) ?_;rintro _ h2 ⟨rfl,K2,H2,q2⟩;simp only[↓zp,zw,aA];refine bH (jV H2 (by simp)) ?_;rintro _ h3 ⟨rfl,hE3⟩;simp only[↓zp,zw,aA];obtain⟨g1,g2⟩:=Par.newB hE0 (q1.trans q2) (bA _) (bA _);exact⟨_,rfl,by simp,by simp,fun h=>by omega,g1.trans_new hE3 fun y hy=> .inl (by simp at hy;omega)⟩
end
theorem sU(s:ByteArray)(pos:Nat)(h:pos<s.size):(Utf8.decode s pos).1≤1114111∧1≤(Utf8.decode s pos).2∧pos+(Utf8.decode s pos).2≤s.size:=by
 have hb:∀k,(s.get! (pos+k)).toNat<256:=fun k=>(s.get! (pos+k)).toNat_lt;have h0:=hb 0;have h1:=hb 1;have h2:=hb 2;have h3:=hb 3;simp only[Utf8.decode]
 repeat' split
 all_goals simp_all [Utf8.runeError,Utf8.valid]
 all_goals omega
section
variable{P:Program}{ty:TypeId}{dst:Option Nat}{ρ:Env}{h:Heap}{k:Env→Heap→Prop}{E:List PanicEntry→Heap→Prop}
theorem hZ{t:Nat}{s:ByteArray}{tk:Tok (dst,ρ,k,E)}(ht:P.underlying t=some .string)(H:k (ρ.put dst (.pointer (some ⟨h.size,0,none⟩))) (h.push (.stringIter s 0))):
 eD P (.range t (.const (.string s))) ty dst ρ h k E tk:=
 eR fun w hw=>by
  subst hw;exact⟨_,w.iter s 0,fZ (by simp only[dZ];exact run_range_string w t s ht),⟨rfl,rfl,rfl⟩,H⟩
theorem iX {j pos:Nat} {s:ByteArray} {tk:Tok (dst,ρ,k,E)} (hk:h[j]? =some (.stringIter s pos))
 (H1:∀r n h',pos<s.size→r≤1114111→1≤n→pos+n≤s.size→(∀hp:pos<s.size,(s[pos]'hp).toNat<128→r=(s[pos]'hp).toNat∧n=1)→h'[j]? =some (.stringIter s (pos+n))→Ext [j] h h'→h'.size=h.size→
  k (ρ.put dst (.tuple #[.bool true,.int .i64 (pos:Int),.int .i32 (r:Int)])) h')
 (H2:¬pos<s.size→k (ρ.put dst (.tuple #[.bool false])) h):
 eD P (.next (.const (.pointer (some ⟨j,0,none⟩))) true) ty dst ρ h k E tk:=
 eR fun w hw=>by
  subst hw;by_cases hp:pos<s.size
  ·obtain⟨b1,b2,b3⟩:=sU s pos hp;refine⟨_,w.iterAt j s (pos+(Utf8.decode s pos).2),fZ (by simp only[dZ];exact Lib.run_next_any_at w j s pos ty hk hp),⟨rfl,rfl,rfl⟩,H1 _ _ _ hp b1 b2 b3 (fun hp' ha=> ?_) (Lib.iterAt_heap w j s pos _ hk) ⟨by rw[Lib.iterAt_size];exact bA _,fun b hb hx=>Lib.iterAt_other w j b s _ (by simpa using hx)⟩ (Lib.iterAt_size ..)⟩;rw[decode_ascii s pos hp' ha];exact⟨rfl,rfl⟩
  ·exact⟨_,_,fZ (by simp only[dZ];exact Lib.run_next_end_at w j s pos ty hk hp),Amb.refl _,H2 hp⟩
end
def jM(G:Heap→Prop):Prop:=∀(h:Heap) (x:List UInt8),G h→0<x.length→x.length≤1000000→C aE 89 #[.string ⟨x.toArray⟩] h fun e h'=>(∃a n,e=.returned (.tuple #[.int .i32 a,.int .i64 n]))∧Ext [] h h'
def ascB(x:List UInt8):Prop:=∀b,b∈x→b.toNat<128
def OfOut(x:List UInt8)(h:Heap)(e:Ending)(h':Heap):Prop:=∃(v:List UInt8) (a n:Int),e=.returned (.tuple #[.string ⟨v.toArray⟩,.int .i64 a,.int .i64 n])∧(n=0→a=0)∧(ascB x→v=mW x∧a=0∧n=0)∧Ext [] h h'
theorem qO{x:List UInt8}{p:Nat}(hp:p<x.length)(ha:(x[p]).toNat<128):mW (x.take p)++[hiB (x[p]).toNat,loB (x[p]).toNat]=mW (x.take (p+1)):=by
 rw[List.take_add_one,aS hp];simp only[mW,Option.toList_some,List.flatMap_append,List.flatMap_cons,List.flatMap_nil,List.append_nil]
 congr 1
 have e1:hiB (x[p]).toNat=0:=by unfold hiB;rw[Nat.div_eq_of_lt (by omega)];rfl
 have e2:loB (x[p]).toNat=x[p]:=by unfold loB;exact UInt8.ofNat_toNat
 rw[e1,e2]
theorem qI{x:List UInt8}{p:Nat}(hp:p<x.length):(⟨x.toArray⟩:ByteArray)[p]'(by rw[eU];exact hp)=x[p]:=rfl
section
variable{h:Heap}{G:Heap→Prop}
theorem of_c(hD:jM G)(x:List UInt8)(hG:¬ascB x→∀h',Ext [] h h'→G h')(hx:x.length≤1000000):C aE 65 #[.string ⟨x.toArray⟩] h (OfOut x h):=by
 have hE0:Ext [] h (h.push (.cells #[.pointer none,.slice none 0 0] 115)):=Ext.push _ _ _;have HB:=BS.new (h:=h);have hz:(h.push (.cells #[.pointer none,.slice none 0 0] 115)).size=h.size+1:=by simp
 refine C_in Tryz.func65 rfl rfl (by kernel_rfl) (aG rfl) ?_;simp only[↓zp,zw,aA];generalize h.push (.cells #[.pointer none,.slice none 0 0] 115)=h0 at hE0 HB hz⊢;refine hZ Tryz.underlying9 ?_;have hE1:Ext [] h0 (h0.push (.stringIter ⟨x.toArray⟩ 0)):=Ext.push _ _ _;have hj:(h0.push (.stringIter ⟨x.toArray⟩ 0))[h0.size]? =some (.stringIter ⟨x.toArray⟩ 0):=by simp
 have hz1:(h0.push (.stringIter ⟨x.toArray⟩ 0)).size=h.size+2:=by simp;omega
 replace HB:=HB.ext hE1 (by simp) (by simp);replace hE1:=hE0.trans hE1;rw[hz]at hj⊢;generalize h0.push (.stringIter ⟨x.toArray⟩ 0)=h1 at hE1 HB hj hz1⊢;simp only[↓zp,zw,aA]
 refine⟨fun m ρ h'=> ∃K l pos,ρ 0=.string ⟨x.toArray⟩∧ρ 5=.pointer (some ⟨h.size,0,none⟩)∧ρ 11=.pointer (some ⟨h.size+1,0,none⟩)∧BS h' h.size K l∧h.size≤K∧K≠h.size+1∧h'[h.size+1]? =some (.stringIter ⟨x.toArray⟩ pos)∧Ext [] h h'∧h.size+2≤h'.size∧l.length≤4*pos∧pos≤x.length∧(ascB x→l=mW (x.take pos))∧m=x.length-pos,x.length,
  ⟨h.size,[],0,by simp only[↓zp,zw,aA],by simp only[↓zp,zw,aA],by simp only[↓zp,zw,aA],HB,bA _,by omega,hj,hE1,by omega,by simp,by omega,fun _=>by simp[mW],by omega⟩,?_⟩
 rintro m ρ h2 ⟨K,l,pos,g0,g5,g11,HB,hK,hKj,hj,hE2,hz2,hl,hpos,hasc,hm⟩;simp only[↓zp,zw,aA,g0,g5,g11];refine iX hj (fun r n h3 hp hr hn hpn hra hj3 hE3 hs3=> ?_) (fun hp=> ?_)
 ·rw[eU]at hp hpn;have hB3:=HB.ext hE3 (by simp) (by simpa using hKj);have hE03:Ext [] h h3:=hE2.trans_new hE3 fun y hy=> .inl (by simp at hy;omega);have d1:((r:Int)==65533)=decide (r=65533):=by rw[aW];simp;omega
  simp only[↓zp,zw,aA,g0,g5,g11,d1];have hor:r=65533∨¬r=65533:=by omega
  cases hor with
  |inr hne=>
   simp only[↓zp,zw,aA,g0,g5,g11,bD hne];refine bH (qB r hr) ?_;rintro _ h4 ⟨lp,rfl,hev,h4l,hlow,hE4⟩;have hz4:=hE4.1;have hB4:=hB3.ext hE4 (by simp) (by simp);have hj4:h4[h.size+1]? =some (.stringIter ⟨x.toArray⟩ (pos+n)):=(hE4.2 _ (by omega) (by simp)).trans hj3;simp only[↓zp,zw,aA,g0,g5,g11];refine bH (iA hB4 lp (by omega)) ?_;rintro _ h5 ⟨rfl,K5,hB5,q5⟩;have hE05:=q5.newB (hE03.trans hE4) (bA _) hK;have hj5:h5[h.size+1]? =some (.stringIter ⟨x.toArray⟩ (pos+n)):=(q5.E.2 _ (by omega) (by simp[pcB];omega)).trans hj4;have hz5:=q5.E.1;simp only[↓zp,zw,aA,g0,g5,g11];refine⟨x.length-(pos+n),by omega,K5,l++lp,pos+n,by simp only[↓zp,zw,aA,g0,g5,g11],by simp only[↓zp,zw,aA,g0,g5,g11],by simp only[↓zp,zw,aA,g0,g5,g11],hB5,hE05.2,?_,hj5,hE05.1,by omega,by simp;omega,by omega,fun ha=> ?_,rfl⟩
   ·rcases q5.hL with e|e
    ·omega
    ·omega
   ·have hb:=ha (x[pos]) (List.getElem_mem _);obtain⟨e1,e2⟩:=hra (by rw[eU];exact hp) hb;rw[qI hp]at e1;subst e1 e2;rw[hasc ha,hlow (by omega)]
    exact qO hp hb
  |inl heq=>
   simp only[↓zp,zw,aA,g0,g5,g11,bC heq];have hlt:((pos:Nat):Int).toNat=pos:=by simp
   have hb1:(0:Int)≤(pos:Int)∧(pos:Int)≤((x.length:Nat):Int):=by omega
   simp only[↓zp,zw,aA,g0,g5,g11,hb1,hlt];rw[List.take_length]
   have hnasc:¬ascB x:=fun ha=>by
    have hb:=ha (x[pos]) (List.getElem_mem _);obtain⟨e1,e2⟩:=hra (by rw[eU];exact hp) hb;rw[qI hp]at e1;omega
   refine bH (hD h3 (x.drop pos) (hG hnasc _ hE03) (by simp;omega) (by simp;omega)) ?_;rintro _ h3' ⟨⟨a,nn,rfl⟩,hE3'⟩;have hB3:=hB3.ext hE3' (by simp) (by simp);have hz3':=hE3'.1;have hj3:=(hE3'.2 _ (by omega) (by simp)).trans hj3;have hE03:=hE03.trans hE3';simp only[↓zp,zw,aA,g0,g5,g11]
   cases decide (nn<3)with
   |true=>
    simp only[↓zp,zw,aA,g0,g5,g11];refine⟨[],_,_,rfl,(fun h=>absurd h (by decide)),(fun ha=> ?_),hE03⟩;have hb:=ha (x[pos]) (List.getElem_mem _);obtain⟨e1,e2⟩:=hra (by rw[eU];exact hp) hb;rw[qI hp]at e1
    omega
   |false=>
   simp only[↓zp,zw,aA,g0,g5,g11];refine bH (qB r hr) ?_;rintro _ h4 ⟨lp,rfl,hev,h4l,hlow,hE4⟩;have hz4:=hE4.1;have hB4:=hB3.ext hE4 (by simp) (by simp);have hj4:h4[h.size+1]? =some (.stringIter ⟨x.toArray⟩ (pos+n)):=(hE4.2 _ (by omega) (by simp)).trans hj3;simp only[↓zp,zw,aA,g0,g5,g11];refine bH (iA hB4 lp (by omega)) ?_;rintro _ h5 ⟨rfl,K5,hB5,q5⟩;have hE05:=q5.newB (hE03.trans hE4) (bA _) hK;have hj5:h5[h.size+1]? =some (.stringIter ⟨x.toArray⟩ (pos+n)):=(q5.E.2 _ (by omega) (by simp[pcB];omega)).trans hj4;have hz5:=q5.E.1;simp only[↓zp,zw,aA,g0,g5,g11];refine⟨x.length-(pos+n),by omega,K5,l++lp,pos+n,by simp only[↓zp,zw,aA,g0,g5,g11],by simp only[↓zp,zw,aA,g0,g5,g11],by simp only[↓zp,zw,aA,g0,g5,g11],hB5,hE05.2,?_,hj5,hE05.1,by omega,by simp;omega,by omega,fun ha=> ?_,rfl⟩
   ·rcases q5.hL with e|e
    ·omega
    ·omega
   ·have hb:=ha (x[pos]) (List.getElem_mem _);obtain⟨e1,e2⟩:=hra (by rw[eU];exact hp) hb;rw[qI hp]at e1;subst e1 e2;rw[hasc ha,hlow (by omega)];exact qO hp hb
 ·simp only[↓zp,zw,aA,g0,g5,g11];rw[eU]at hp;have hpe:pos=x.length:=by omega
  refine bH (jV HB (by omega)) ?_;rintro _ h4 ⟨rfl,hE4⟩;simp only[↓zp,zw,aA];refine⟨l,0,0,rfl,fun _=>rfl,fun ha=>⟨by rw[hasc ha,hpe,List.take_length],rfl,rfl⟩,hE2.trans_new hE4 fun y hy=> .inl (by simp at hy;omega)⟩
theorem ofSpec:wU:=fun h x ha hx=>(of_c (G:=fun _=>False) (fun _ _ k=>k.elim) x (fun hn=>absurd ha hn) hx).mono (by
 rintro e h' ⟨v,a,n,rfl,_,hasc,hE⟩;obtain⟨rfl,rfl,rfl⟩:=hasc ha
 exact⟨rfl,hE⟩)
end
end
section
def CD(P:Program)(f:Nat)(args:Array Value)(u u':FrameMode)(h:Heap)(R:Heap→Prop):Prop:=
 ∀w:World,w.heap=h→CallsD P f args u w fun e u1 w'=>e=.returned (.tuple #[])∧u1=u'∧Amb w w'∧R w'.heap
section
variable{P:Program}
theorem resl_two{h:Heap}{ρ:Env}{t4 t5:TypeId}{v4 v5:Value}(h4:ldv P t4 (ρ 4) h=some v4)(h5:ldv P t5 (ρ 5) h=some v5):resl P h ρ [.cell 4 t4,.cell 5 t5]=some [v4,v5]:=by
 simp[resl,resv,h4,h5]
theorem leaves_two {fn:Func} {G:Nat} {p4 p5:Value} {u u':FrameMode} {t4 t5:TypeId} {R:Ending→Heap→Prop} {a:Act} {w0 w:World} (hru:u≠ .run) (hent:entb P G=true) (hset:settle u'=.returning)
 (hres:fn.results.toList=[.cell 4 t4,.cell 5 t5]) (hw:Amb w0 w) (h4:a.tmps.getD 4 undef=p4) (h5:a.tmps.getD 5 undef=p5)
 (hC:CD P G #[p4,p5] u u' w.heap fun h'=> ∃v4 v5,ldv P t4 p4 h'=some v4∧ldv P t5 p5 h'=some v5∧R (.returned (.tuple #[v4,v5])) h'):
 Leaves P fn a.tmps (fun e w'=>Amb w0 w'∧R e w'.heap) [{target:=.fn (.func G) #[p4,p5],args:=#[]}] u w:=by
 obtain⟨w1,hr,rfl⟩:=sD (P:=P) (w:=w) (args:=#[p4,p5]) hent;refine leaves_cons (f:=G) (args:=#[p4,p5]) hru (by simpa[invoke]using hr) ?_;refine(hC w1 rfl).mono ?_;rintro e u1 w' ⟨rfl,rfl,ha,v4,v5,g4,g5,hR⟩;dsimp only;rw[hset];refine⟨.tuple #[v4,v5],?_,hw.trans ha,hR⟩;have:=pC (P:=P) (fn:=fn) (a:=a) (ρ:=fun t=>a.tmps.getD t undef) (w:=w') (l:=[v4,v5]) (fun t=>rfl) (by rw[hres];exact resl_two (by rw[h4];exact g4) (by rw[h5];exact g5));exact this
theorem nL {ops:Array Oper} {Q:Exit→Act→World→Prop} {l:List Oper} {o:Oper} {a:Act} {w w':World} {v:Value} (hg:o.guard=none) (hr:(execOp a.eval o).run P w=.ok (.value v) w')
 (H:wpList P ops Q l (a.put o.dst v) w'):wpList P ops Q (o::l) a w:=by
 unfold wpList;rw[if_pos (by simp[Region.wanted,hg])];refine .inl ?_;unfold Oper.wp;rw[hr];exact H
theorem nM {ops:Array Oper} {Q:Exit→Act→World→Prop} {l:List Oper} {o:Oper} {a:Act} {w w':World} {d:Deferred} (hg:o.guard=none) (hr:(execOp a.eval o).run P w=.ok (.defer d) w')
 (H:wpList P ops Q l ({a with defers:=d::a.defers}.put o.dst undef) w'):wpList P ops Q (o::l) a w:=by
 unfold wpList;rw[if_pos (by simp[Region.wanted,hg])];refine .inl ?_;unfold Oper.wp;rw[hr];exact H
theorem C_rec {f G id1:Nat} {fn:Func} {c0 rest:Code} {args:List Value} {h:Heap} {R:Ending→Heap→Prop} {ty1 ty2 t4 t5:TypeId} {pos1 pos2:String} {af1 af2:Array Edge}
 (hf:P.funcs[f]? =some fn)
 (hb:fn.body=some (.seq c0 (.seq (.region id1 #[⟨some 8,.makeFunc (.func G) #[] #[.tmp 4,.tmp 5],ty1,pos1,af1,none⟩,⟨none,.defer ⟨.value (.tmp 8),#[],#[]⟩,ty2,pos2,af2,none⟩] false) rest)))
 (hok0:okc fn.ntmps c0=true) (hok:okcS fn.ntmps [4,5] rest=true) (hsz:args.length≤fn.ntmps) (h8:8<fn.ntmps) (hent:entb P G=true) (hres:fn.results.toList=[.cell 4 t4,.cell 5 t5])
 (H:W P c0 (fun e ρ1 h1=>e=.normal∧∃b4 b5,ρ1 4=.pointer (some ⟨b4,0,none⟩)∧ρ1 5=.pointer (some ⟨b5,0,none⟩)∧
  W P rest (fun e ρ2 h2=>(e=.normal∨e=.ret)∧CD P G #[.pointer (some ⟨b4,0,none⟩),.pointer (some ⟨b5,0,none⟩)] .returning .returning h2
   fun h'=> ∃v4 v5,ldv P t4 (.pointer (some ⟨b4,0,none⟩)) h'=some v4∧ldv P t5 (.pointer (some ⟨b5,0,none⟩)) h'=some v5∧R (.returned (.tuple #[v4,v5])) h')
   (fun ch h2=> ∃u',settle u'=.returning∧CD P G #[.pointer (some ⟨b4,0,none⟩),.pointer (some ⟨b5,0,none⟩)] (.panicking ch) u' h2
    fun h'=> ∃v4 v5,ldv P t4 (.pointer (some ⟨b4,0,none⟩)) h'=some v4∧ldv P t5 (.pointer (some ⟨b5,0,none⟩)) h'=some v5∧R (.returned (.tuple #[v4,v5])) h')
   (ρ1.set 8 (.func (.func G) #[] #[.pointer (some ⟨b4,0,none⟩),.pointer (some ⟨b5,0,none⟩)])) h1)
  (fun _ _=>False) (Env.of args) h):C P f args.toArray h R:=by
 intro w hw;subst hw;refine calls_of_wp_defers hf hb ?_;have hn:(args.toArray++Array.replicate (fn.ntmps-args.toArray.size) undef).size=fn.ntmps:=by simp;omega
 have hρ:∀t,(args.toArray++Array.replicate (fn.ntmps-args.toArray.size) undef).getD t undef=Env.of args t:=by
  intro t;simp only[Env.of,Array.getD_eq_getD_getElem?,Array.getElem?_append,List.getD_eq_getElem?_getD];split
  ·simp
  ·rename_i hlt;have:args[t]? =none:=by simp at hlt;simp;omega
   rw[this];simp only[Option.getD_none];rw[Array.getElem?_replicate];split<;>rfl
 refine wp_seq (Code.wp_mono ?_ (kV (w0:=w) (n:=fn.ntmps) (S0:=[]) (D:=([],[])) c0 _ _ _ {tmps:=args.toArray++Array.replicate (fn.ntmps-args.toArray.size) undef,defers:=[]} w hok0 hn hρ rfl (Amb.refl w) H));intro e a1 w1 ⟨h1,h2,h3⟩
 cases e with
 |panic ch=>exact h3.elim
 |outgrown=>exact h3.elim
 |exit _|goto _|ret=>obtain⟨_,_,_,he,_⟩:=h3;cases he
 |normal=>
  obtain⟨hn1,ρ1,hρ1,_,b4,b5,e4,e5,H1⟩:=h3;have hdf:a1.defers=[]:=congrArg Prod.fst h2;refine wp_seq (wp_region_list ?_);have hmf:∀(fn:Fn) (first cap:Array Value) (w:World),(Instr.makeFunc fn first cap).run P w=.ok (.func fn first cap) w:=fun _ _ _ _=>rfl;have q4:a1.tmps.getD 4 undef=.pointer (some ⟨b4,0,none⟩):=by rw[hρ1,e4]
  have q5:a1.tmps.getD 5 undef=.pointer (some ⟨b5,0,none⟩):=by rw[hρ1,e5]
  generalize hfv:Value.func (.func G) #[] #[.pointer (some ⟨b4,0,none⟩),.pointer (some ⟨b5,0,none⟩)]=fv at H1;have hput:=jX (S0:=[]) hn1 hρ1 (some 8) fv (fun d hd=>⟨by cases hd;exact h8,by simp⟩)
  have hr1:(execOp a1.eval ⟨some 8,.makeFunc (.func G) #[] #[.tmp 4,.tmp 5],ty1,pos1,af1,none⟩).run P w1=.ok (.value fv) w1:=by
   show((do pure (Next.value (←Instr.makeFunc (.func G) ((#[]:Array Operand).map a1.eval) (#[Operand.tmp 4,Operand.tmp 5].map a1.eval)))):Sem Next).run P w1=_;rw[Sem.run_bind,hmf];simp only[Act.eval,aH,aJ,aK];rw[←hfv,q4,q5]
   rfl
  have hr2:(execOp (a1.put (some 8) fv).eval ⟨none,.defer ⟨.value (.tmp 8),#[],#[]⟩,ty2,pos2,af2,none⟩).run P w1=.ok (.defer {target:=.fn (.func G) #[.pointer (some ⟨b4,0,none⟩),.pointer (some ⟨b5,0,none⟩)],args:=#[]}) w1:=by
   have q8:(a1.put (some 8) fv).eval (.tmp 8)=fv:=by
    show(a1.put (some 8) fv).tmps.getD 8 undef=fv;rw[hput.2.1 8];simp[Env.put,Env.set]
   show((do let d←resolve (a1.put (some 8) fv).eval ⟨.value (.tmp 8),#[],#[]⟩ ty2;pure (Next.defer d)):Sem Next).run P w1=_;simp only[resolve,q8];subst hfv;simp only[Deferred.ofValue,Sem.run_bind,Sem.run_pure,Result.andThen_ok];simp
  refine nL (o:=⟨some 8,.makeFunc (.func G) #[] #[.tmp 4,.tmp 5],ty1,pos1,af1,none⟩) rfl hr1 ?_;refine nM (o:=⟨none,.defer ⟨.value (.tmp 8),#[],#[]⟩,ty2,pos2,af2,none⟩) rfl hr2 ?_;show rest.wp P _ _ w1;refine Code.wp_mono ?_ (kV (w0:=w) (n:=fn.ntmps) (S0:=[4,5]) (D:=([{target:=.fn (.func G) #[.pointer (some ⟨b4,0,none⟩),.pointer (some ⟨b5,0,none⟩)],args:=#[]}],[.pointer (some ⟨b4,0,none⟩),.pointer (some ⟨b5,0,none⟩)])) rest _ _ (ρ1.set 8 fv) _ w1 hok hput.1 hput.2.1 ?_ h1 H1)
  ·intro e a2 w2 ⟨g1,g2,g3⟩;have d2:a2.defers=_:=congrArg Prod.fst g2;have s2:=congrArg Prod.snd g2;simp only[Act.fp,aJ,aK,List.cons.injEq,and_true]at s2
   have lv:∀u u',u≠ .run→settle u'=.returning→(CD P G #[.pointer (some ⟨b4,0,none⟩),.pointer (some ⟨b5,0,none⟩)] u u' w2.heap fun h'=> ∃v4 v5,ldv P t4 (.pointer (some ⟨b4,0,none⟩)) h'=some v4∧ldv P t5 (.pointer (some ⟨b5,0,none⟩)) h'=some v5∧R (.returned (.tuple #[v4,v5])) h')→
    Leaves P fn a2.tmps (fun e w'=>Amb w w'∧R e w'.heap) a2.defers u w2:=fun u u' hru hset hC=>by
    rw[d2];exact leaves_two hru hent hset hres g1 s2.1 s2.2 hC
   cases e with
   |panic ch=>
    obtain⟨u',hset,hC⟩:=g3
    exact lv _ u' (by simp) hset hC
   |outgrown=>exact g3.elim
   |exit _|goto _=>obtain⟨_,_,_,he,_⟩:=g3;rcases he with he|he<;>cases he
   |normal|ret=>
    obtain⟨_,_,_,_,hC⟩:=g3;exact lv _ .returning (by simp) rfl hC
  ·show(({target:=.fn (.func G) #[.pointer (some ⟨b4,0,none⟩),.pointer (some ⟨b5,0,none⟩)],args:=#[]}::a1.defers,[4,5].map fun t=>(a1.put (some 8) fv).tmps.getD t undef):List Deferred×List Value)=_;rw[hdf];simp only[aJ,aK,hput.2.1,Env.put,Env.set];simp[e4,e5]
end
end
theorem Wta {P:Program} {E:List PanicEntry→Heap→Prop} {ρ:Env} {h:Heap} {ty:TypeId} {dst:Option Nat} {k:Env→Heap→Prop} {tk:Tok (dst,ρ,k,E)} {t u:TypeId} {fs:Array Field} {v:Value}
 (hu:P.underlying t=some (.struct fs)) (H:k (ρ.put dst (.tuple #[v,.bool true])) h):eD P (.typeAssert (.const (.iface t v)) u t true) ty dst ρ h k E tk:=by
 refine eR fun w hw=> ?_;subst hw;refine⟨_,w,fZ ?_,Amb.refl _,H⟩;simp[dZ,Instr.typeAssert,run_underlying hu,go_sem]
theorem vA{b4 b5:Nat}{h:Heap}{p:Nat}{x4 x5:Value}(h4:Blk h b4 [x4] 3)(h5:Blk h b5 [x5] 24)(hne:b4≠b5):
 CD aE 41 #[.pointer (some ⟨b4,0,none⟩),.pointer (some ⟨b5,0,none⟩)] (.panicking [{v:=.iface 78 (.agg #[.int .i64 (p:Int)]),recovered:=false}]) (.panicking [{v:=.iface 78 (.agg #[.int .i64 (p:Int)]),recovered:=true}]) h
  fun h'=>Blk h' b4 [.int .i64 (p:Int)] 3∧Blk h' b5 [.int .i64 80] 24∧Ext [b4,b5] h h':=by
 intro w hw;subst hw;refine callsD_of_wpS Tryz.func41 rfl fun c₀ cs hu=> ?_;apply wpS_seq;apply wpS_region;simp[wpOpsS,go_sem,recoverD,hu,Tryz.ntmps41,Exit.thenS];apply wpS_seq;apply wpS_region;simp[wpOpsS,go_sem,Exit.thenS];refine wpS_cond (t:=true) (by simp[Act.eval,Array.replicate]) ?_;simp only[if_true];refine wpS_of_wp ?_;generalize hact:({tmps:=_,defers:=[]}:Act)=act;have hd:act.defers=[]:=by rw[←hact]
 have ht:act.tmps.size=18:=by rw[←hact];simp
 have g0:act.tmps.getD 0 undef=.pointer (some ⟨b4,0,none⟩):=by rw[←hact];simp
 have g1:act.tmps.getD 1 undef=.pointer (some ⟨b5,0,none⟩):=by rw[←hact];simp
 have g2:act.tmps.getD 2 undef=.iface 78 (.agg #[.int .i64 (p:Int)]):=by rw[←hact];simp
 refine Code.wp_mono ?_ (kV (w0:=w) (n:=18) (S0:=[]) (D:=([],[])) _ (fun e _ h'=>(e=.normal∨e=.ret)∧Blk h' b4 [.int .i64 (p:Int)] 3∧Blk h' b5 [.int .i64 80] 24∧Ext [b4,b5] w.heap h') (fun _ _=>False) (fun t=>act.tmps.getD t undef) act w (by kernel_rfl) ht (fun t=>rfl) (by rw[Act.fp,hd];rfl) (Amb.refl w) ?_)
 ·intro e a' w' ⟨k1,k2,k3⟩;have k2:a'.defers=[]:=congrArg Prod.fst k2
  cases e with
  |panic ch=>exact k3.elim
  |outgrown=>exact k3.elim
  |exit _|goto _=>obtain⟨_,_,_,he,_⟩:=k3;rcases he with he|he<;>cases he
  |normal|ret=>
   obtain⟨_,_,_,_,k3⟩:=k3;refine⟨k2,_,rfl,_,?_,rfl,rfl,k1,k3⟩;simp[results,Tryz.results41,go_sem]
 ·simp only[↓zp,zw,aA,g2];refine Wta Tryz.underlying78 ?_;simp only[↓zp,zw,aA,nF,Bool.not_true,g0,g1,g2];have hE1:Ext [] w.heap (w.heap.push (.cells [.int .i64 (p:Int)].toArray 78)):=Ext.push _ _ _;refine bS (h4.ext hE1 (by simp)) (by kernel_rfl) (by simp) rfl fun h1 hb1 hE2 hs2=> ?_;simp only[↓zp,zw,aA,g0,g1,g2];have h5':=(h5.ext hE1 (by simp)).ext hE2 (by simp[Ne.symm hne]);refine bS h5' (by kernel_rfl) (by simp) rfl fun h2 hb2 hE3 hs3=> ?_;simp only[↓zp,zw,aA,g0,g1,g2];exact⟨.inl trivial,hb1.ext hE3 (by simp[hne]),hb2,(hE1.of_nil.trans (hE2.mono (by simp))).trans (hE3.mono (by simp))⟩
theorem rD{p4 p5:Value}{h:Heap}:CD aE 41 #[p4,p5] .returning .returning h fun h'=>h'=h:=by
 intro w hw;subst hw;refine callsD_of_wpS Tryz.func41 rfl fun c₀ cs hu=> ?_;apply wpS_seq;apply wpS_region;simp[wpOpsS,go_sem,recoverD,hu,Tryz.ntmps41,Exit.thenS];apply wpS_seq;apply wpS_region;simp[wpOpsS,go_sem,Exit.thenS];refine wpS_cond (t:=false) (by simp[Act.eval,Array.replicate]) ?_;simp only[aI,if_false];refine wpS_of_wp (wp_skip ?_);cases c₀
 simp_all [bodyPostS,results,Tryz.results41,Amb.refl]
theorem uZ{b4 b5:Nat}{h:Heap}{p:Nat}{x4 x5:Value}(h4:Blk h b4 [x4] 3)(h5:Blk h b5 [x5] 24)(hne:b4≠b5):
 CD aE 66 #[.pointer (some ⟨b4,0,none⟩),.pointer (some ⟨b5,0,none⟩)] (.panicking [{v:=.iface 95 (.agg #[.int .i64 (p:Int)]),recovered:=false}]) (.panicking [{v:=.iface 95 (.agg #[.int .i64 (p:Int)]),recovered:=true}]) h
  fun h'=>Blk h' b4 [.int .i64 (p:Int)] 3∧Blk h' b5 [.int .i64 50] 24∧Ext [b4,b5] h h':=by
 intro w hw;subst hw;refine callsD_of_wpS Tryz.func66 rfl fun c₀ cs hu=> ?_;apply wpS_seq;apply wpS_region;simp[wpOpsS,go_sem,recoverD,hu,Tryz.ntmps66,Exit.thenS];apply wpS_seq;apply wpS_region;simp[wpOpsS,go_sem,Exit.thenS];refine wpS_cond (t:=true) (by simp[Act.eval,Array.replicate]) ?_;simp only[if_true];refine wpS_of_wp ?_;generalize hact:({tmps:=_,defers:=[]}:Act)=act;have hd:act.defers=[]:=by rw[←hact]
 have ht:act.tmps.size=18:=by rw[←hact];simp
 have g0:act.tmps.getD 0 undef=.pointer (some ⟨b4,0,none⟩):=by rw[←hact];simp
 have g1:act.tmps.getD 1 undef=.pointer (some ⟨b5,0,none⟩):=by rw[←hact];simp
 have g2:act.tmps.getD 2 undef=.iface 95 (.agg #[.int .i64 (p:Int)]):=by rw[←hact];simp
 refine Code.wp_mono ?_ (kV (w0:=w) (n:=18) (S0:=[]) (D:=([],[])) _ (fun e _ h'=>(e=.normal∨e=.ret)∧Blk h' b4 [.int .i64 (p:Int)] 3∧Blk h' b5 [.int .i64 50] 24∧Ext [b4,b5] w.heap h') (fun _ _=>False) (fun t=>act.tmps.getD t undef) act w (by kernel_rfl) ht (fun t=>rfl) (by rw[Act.fp,hd];rfl) (Amb.refl w) ?_)
 ·intro e a' w' ⟨k1,k2,k3⟩;have k2:a'.defers=[]:=congrArg Prod.fst k2
  cases e with
  |panic ch=>exact k3.elim
  |outgrown=>exact k3.elim
  |exit _|goto _=>obtain⟨_,_,_,he,_⟩:=k3;rcases he with he|he<;>cases he
  |normal|ret=>
   obtain⟨_,_,_,_,k3⟩:=k3;refine⟨k2,_,rfl,_,?_,rfl,rfl,k1,k3⟩;simp[results,Tryz.results66,go_sem]
 ·simp only[↓zp,zw,aA,g2];refine Wta Tryz.underlying95 ?_;simp only[↓zp,zw,aA,nF,Bool.not_true,g0,g1,g2];have hE1:Ext [] w.heap (w.heap.push (.cells [.int .i64 (p:Int)].toArray 95)):=Ext.push _ _ _;refine bS (h4.ext hE1 (by simp)) (by kernel_rfl) (by simp) rfl fun h1 hb1 hE2 hs2=> ?_;simp only[↓zp,zw,aA,g0,g1,g2];have h5':=(h5.ext hE1 (by simp)).ext hE2 (by simp[Ne.symm hne]);refine bS h5' (by kernel_rfl) (by simp) rfl fun h2 hb2 hE3 hs3=> ?_;simp only[↓zp,zw,aA,g0,g1,g2];exact⟨.inl trivial,hb1.ext hE3 (by simp[hne]),hb2,(hE1.of_nil.trans (hE2.mono (by simp))).trans (hE3.mono (by simp))⟩
theorem rec66_idle{p4 p5:Value}{h:Heap}:CD aE 66 #[p4,p5] .returning .returning h fun h'=>h'=h:=by
 intro w hw;subst hw;refine callsD_of_wpS Tryz.func66 rfl fun c₀ cs hu=> ?_;apply wpS_seq;apply wpS_region;simp[wpOpsS,go_sem,recoverD,hu,Tryz.ntmps66,Exit.thenS];apply wpS_seq;apply wpS_region;simp[wpOpsS,go_sem,Exit.thenS];refine wpS_cond (t:=false) (by simp[Act.eval,Array.replicate]) ?_;simp only[aI,if_false];refine wpS_of_wp (wp_skip ?_);cases c₀
 simp_all [bodyPostS,results,Tryz.results66,Amb.refl]
section
section
variable{P:Program}{ops:List Oper}{S:Heap→Prop}{K:Env→Heap→Prop}{E:List PanicEntry→Heap→Prop}{ρ:Env}{h:Heap}{i:Nat}{r:List (Nat×Bool)}{o:Oper}
theorem Wo_t(ho:ops[i]? =some o)(hg:o.guard=none)(v:Value)(hs:Stab P S o ρ v)(H:Wo P ops S K E r (ρ.put o.dst v) h):Wo P ops S K E ((i,true)::r) ρ h:=by
 simp only[Wo,ho,hg];exact⟨v,hs,H⟩
theorem fB{j:Nat}{w:Bool}(ho:ops[i]? =some o)(hg:o.guard=some (j,w))(hv:gval ρ (gD ops j)=.bool w)(v:Value)(hs:Stab P S o ρ v)(H:Wo P ops S K E r (ρ.put o.dst v) h):Wo P ops S K E ((i,true)::r) ρ h:=by
 simp only[Wo,ho,hg,hv,Wg];cases w<;>exact⟨v,hs,H⟩
theorem iL{j:Nat}{w st:Bool}(ho:ops[i]? =some o)(hg:o.guard=some (j,w))(hv:gval ρ (gD ops j)=.bool (!w))(H:Wo P ops S K E r (ρ.put o.dst undef) h):Wo P ops S K E ((i,st)::r) ρ h:=by
 simp only[Wo,ho,hg,hv,Wg];cases w<;>exact H
theorem Wo_f(ho:ops[i]? =some o)(hg:o.guard=none)(H:Wl P [] (fun ρ' h'=>S h'∧Wo P ops S K E r ρ' h') E [o] ρ h):Wo P ops S K E ((i,false)::r) ρ h:=by
 simp only[Wo,ho,hg];exact cY hg H
theorem Wo_fg{j:Nat}{w:Bool}(ho:ops[i]? =some o)(hg:o.guard=some (j,w))(hv:gval ρ (gD ops j)=.bool w)(H:Wl P [] (fun ρ' h'=>S h'∧Wo P ops S K E r ρ' h') E [⟨o.dst,o.op,o.type,o.pos,o.after,none⟩] ρ h):Wo P ops S K E ((i,false)::r) ρ h:=by
 have H2:=cY (o:=⟨o.dst,o.op,o.type,o.pos,o.after,none⟩) rfl H;simp only[Wo,ho,hg,hv,Wg];cases w<;>exact H2
theorem kU(H:K ρ h):Wo P ops S K E [] ρ h:=H
end
structure Gl(hI:Heap):Prop where
 maxLen:MaxLen hI
 space:∀w:World,Ext [] hI w.heap→Lib.TabIs aE w "strings.asciiSpace" .u8 Lib.asciiSpaceTab
 pow:∀w:World,Ext [] hI w.heap→Lib.TabIs aE w "internal/strconv.uint64pow10" .u64 Lib.pow10Tab
 utf:∀w:World,Ext [] hI w.heap→Lib.Utf8Tabs 3 4 w
theorem Gl.max{hI h:Heap}(hG:Gl hI)(hE:Ext [] hI h):MaxLen h:=by
 obtain⟨m,e⟩:=hG.maxLen;exact⟨m,hE.cell e (by simp)⟩
structure LC where
 x:Nat
 src:List UInt8
 vl:Value
 hI:Heap
structure LSt where
 at':Nat
 line:Bool
 op:List Int
def LSt.key(s:LSt):List Int×Bool:=(s.op,s.line)
def LC.pc(c:LC):PC:={p:=c.x,T:=[],vt:=undef,va:=undef,vu:=undef,vm:=0}
def LC.U(c:LC):List Nat:=blks c.vl
def opV(l:List Int):List Value:=l.map fun k=> .int .i64 k
structure LS(h:Heap)(c:LC)(L:Nat)(s:LSt):Prop where
 body:∃vo,Blk h c.x [.string ⟨c.src.toArray⟩,.int .i64 (s.at':Int),.bool s.line,vo,c.vl] 99∧Row h vo 3 1 (opV s.op)∧∀b,b∈blks vo→b=L∧b≠c.x
 ltL:L<h.size
 list:Row h c.vl 9 1 (cI signs)
 listU:∀b,b∈c.U→b≠c.x∧b≠L
 le:s.at'≤c.src.length
 small:c.src.length≤900000
 opl:s.op.length≤s.at'
 glob:Ext [] c.hI h
 gx:c.hI.size≤c.x
 gL:c.hI.size≤L
theorem LS.ext{X:List Nat}{h h':Heap}{c:LC}{L:Nat}{s:LSt}(H:LS h c L s)(hE:Ext X h h')(hx:∀b,b∈X→b≠c.x∧b≠L∧b∉c.U∧c.hI.size≤b):LS h' c L s:=by
 obtain⟨vo,hb,hr,hv⟩:=H.body;exact⟨⟨vo,hb.ext hE fun hm=>(hx _ hm).1 rfl,hr.ext hE fun b hb' hm=>(hx _ hm).2.1 (hv b hb').1,hv⟩,Nat.lt_of_lt_of_le H.ltL hE.1,H.list.ext hE fun b hb' hm=>(hx _ hm).2.2.1 hb',H.listU,H.le,H.small,H.opl,H.glob.trans_new hE fun y hy=> .inl (hx y hy).2.2.2,H.gx,H.gL⟩
theorem LS.ext0{h h':Heap}{c:LC}{L:Nat}{s:LSt}(H:LS h c L s)(hE:Ext [] h h'):LS h' c L s:=H.ext hE (by simp)
theorem LS.lt{h:Heap}{c:LC}{L:Nat}{s:LSt}(H:LS h c L s):c.x<h.size:=by obtain⟨vo,hb,_⟩:=H.body;exact hb.lt
theorem LS.st {h h':Heap} {c:LC} {L:Nat} {s:LSt} {vo:Value} {i:Nat} {l:Bool} (H:LS h c L s) (hr:Row h vo 3 1 (opV s.op)) (hv:∀b,b∈blks vo→b=L∧b≠c.x)
 (hb:Blk h' c.x [.string ⟨c.src.toArray⟩,.int .i64 (i:Int),.bool l,vo,c.vl] 99) (hE:Ext [c.x] h h') (hi:s.at'≤i∧i≤c.src.length):LS h' c L {s with at':=i,line:=l}∧Par c.pc h L c.U h' L c.U:=
 ⟨⟨⟨vo,hb,hr.ext hE fun b hb' hm=>by simp at hm;exact(hv b hb').2 hm,hv⟩,Nat.lt_of_lt_of_le H.ltL hE.1,H.list.ext hE fun b hb' hm=>by simp at hm;exact(H.listU b hb').1 hm,H.listU,hi.2,H.small,Nat.le_trans H.opl hi.1,H.glob.trans_new hE fun y hy=> .inl (by simp at hy;rw[hy];exact H.gx),H.gx,H.gL⟩,
  ⟨.inl rfl,fun _ h=> .inl h,hE.mono fun b hb=>by simp at hb;simp[hb,LC.pc]⟩⟩
def perrL(p:Nat):Ending:=.panicked [{v:=.iface 95 (.agg #[.int .i64 (p:Int)]),recovered:=false}]
def LOut(c:LC)(h:Heap)(L:Nat)(R:Value→LSt→Prop)(B:Prop)(e:Ending)(h':Heap):Prop:=
 (∃v s' L',e=.returned v∧LS h' c L' s'∧Par c.pc h L c.U h' L' c.U∧R v s')∨(B∧(∃p:Nat,e=perrL p)∧Ext [c.x,L] h h')
def XOut(c:LC)(h:Heap)(L:Nat)(R:Value→LSt→Prop)(B:Prop)(e:Ending)(h':Heap):Prop:=
 (∃v s',e=.returned v∧LS h' c L s'∧Ext [c.x] h h'∧R v s')∨(B∧(∃p:Nat,e=perrL p)∧Ext [c.x] h h')
theorem XOut.toL{c:LC}{h:Heap}{L:Nat}{R:Value→LSt→Prop}{B:Prop}{e:Ending}{h':Heap}(H:XOut c h L R B e h'):LOut c h L R B e h':=by
 rcases H with⟨v,s',h1,h2,h3,h4⟩|⟨h1,h2,h3⟩
 ·exact .inl ⟨v,s',L,h1,h2,⟨.inl rfl,fun _ h=> .inl h,h3.mono fun b hb=>by simp at hb;simp[hb,LC.pc]⟩,h4⟩
 ·exact .inr ⟨h1,h2,h3.mono fun b hb=>by simp at hb;simp[hb]⟩
theorem LS.st2 {h h':Heap} {c:LC} {L:Nat} {s:LSt} {vo:Value} {i:Nat} {l:Bool} (H:LS h c L s) (hr:Row h vo 3 1 (opV s.op)) (hv:∀b,b∈blks vo→b=L∧b≠c.x)
 (hb:Blk h' c.x [.string ⟨c.src.toArray⟩,.int .i64 (i:Int),.bool l,vo,c.vl] 99) (hE:Ext [c.x] h h') (hi:s.at'≤i∧i≤c.src.length):∃s',s'.at'=i∧s'.line=l∧s'.op=s.op∧LS h' c L s':=
 ⟨{s with at':=i,line:=l},rfl,rfl,rfl,(H.st hr hv hb hE hi).1⟩
theorem LS.st3 {h h':Heap} {c:LC} {L:Nat} {s:LSt} {vo:Value} {i:Nat} (H:LS h c L s) (hr:Row h vo 3 1 (opV s.op)) (hv:∀b,b∈blks vo→b=L∧b≠c.x)
 (hb:Blk h' c.x [.string ⟨c.src.toArray⟩,.int .i64 (i:Int),.bool s.line,vo,c.vl] 99) (hE:Ext [c.x] h h') (hi:s.at'≤i∧i≤c.src.length):∃s',s'.at'=i∧s'.key=s.key∧LS h' c L s':=
 ⟨{s with at':=i},rfl,rfl,(H.st (l:=s.line) hr hv hb hE hi).1⟩
theorem ext_errL{c:LC}{h0 h h':Heap}{L0 L:Nat}(hq:Par c.pc h0 L0 c.U h L c.U)(hE:Ext [c.x,L] h h'):Ext [c.x,L0] h0 h':=by
 refine⟨Nat.le_trans hq.E.1 hE.1,fun i hi hx=> ?_⟩;have h1:=hq.E.2 i hi hx;rw[hE.2 i (Nat.lt_of_lt_of_le hi hq.E.1) ?_,h1];simp only[List.mem_cons,List.not_mem_nil,or_false,not_or]at hx⊢;refine⟨hx.1,?_⟩;rcases hq.hL with e|e
 ·rw[e];exact hx.2
 ·omega
section
variable{c:LC}{h0 h:Heap}{L0 L:Nat}{fn:Nat}{args:Array Value}{k:Env→Heap→Prop}{ρ:Env}{dst:Option Nat}{R R0:Value→LSt→Prop}{B B0:Prop}
theorem bK{v:Value}{E:List PanicEntry→Heap→Prop}{t:Tok (eH k E ρ dst)}(hc:C aE fn args h (Ret v h))(hk:k (ρ.put dst v) h):CT aE fn args h (eH k E ρ dst) t:=
 bH hc (by rintro e h' ⟨rfl,rfl⟩;exact hk)
theorem CT_L (hq:Par c.pc h0 L0 c.U h L c.U) (hc:C aE fn args h (LOut c h L R B)) (hB:B→B0)
 {E:List PanicEntry→Heap→Prop} (hE:E=fun ch h'=>LOut c h0 L0 R0 B0 (.panicked ch) h') {t:Tok (eH k E ρ dst)}
 (hok:∀v s' h1 L1,R v s'→LS h1 c L1 s'→Par c.pc h L c.U h1 L1 c.U→Par c.pc h0 L0 c.U h1 L1 c.U→k (ρ.put dst v) h1):
 CT aE fn args h (eH k E ρ dst) t:=by
 subst hE;refine bH hc ?_;rintro e h1 (⟨v,s',L',rfl,h2,h3,h4⟩|⟨hb,⟨p,rfl⟩,hE⟩)
 ·exact hok v s' h1 L' h4 h2 h3 (hq.trans h3)
 ·exact .inr ⟨hB hb,⟨p,rfl⟩,ext_errL hq hE⟩
end
theorem tV(c:UInt8):bor .u8 (c.toNat:Int) 32=((c|||32).toNat:Int):=by
 have H:∀n:Fin 256,bor .u8 ((UInt8.ofFin n).toNat:Int) 32=(((UInt8.ofFin n)|||32).toNat:Int):=by decide
 exact H c.toFin
theorem eA{c:UInt8}{n:Nat}(hn:n<256):((c.toNat:Int)==(n:Int))=(c==UInt8.ofNat n):=by
 rw[aW,beq_iff_eq,beq_iff_eq];constructor
 ·intro h;have:c.toNat=n:=by omega
  rw[←this];exact UInt8.ofNat_toNat.symm
 ·intro h;rw[h,UInt8.toNat_ofNat_of_lt' hn]
section
variable{h:Heap}
theorem rN(c:UInt8):C aE 75 #[.int .u8 (c.toNat:Int)] h (Ret (.bool (cL c)) h):=by
 have e1:((c.toNat:Int)==36)=(c==36):=eA (n:=36) (by decide);have e2:((c.toNat:Int)==95)=(c==95):=eA (n:=95) (by decide);have e3:decide ((97:Int)≤((c|||32).toNat:Int))=decide (97≤(c|||32).toNat):=by rw[aW];simp;omega
 have e4:decide (((c|||32).toNat:Int)≤122)=decide ((c|||32).toNat≤122):=by rw[aW];simp;omega
 unfold cL;refine C_in Tryz.func75 rfl rfl (by kernel_rfl) (aG rfl) ?_;simp only[↓zp,zw,aA,e1]
 cases g1:(c==36)with
 |true=>simp only[↓zp,zw,aA];exact⟨rfl,rfl⟩
 |false=>
  simp only[↓zp,zw,aA,e2]
  cases g2:(c==95)with
  |true=>simp only[↓zp,zw,aA];exact⟨rfl,rfl⟩
  |false=>
   simp only[↓zp,zw,aA,tV,e3]
   cases g3:decide (97≤(c|||32).toNat)with
   |true=>simp only[↓zp,zw,aA,tV,e4];exact⟨by simp,rfl⟩
   |false=>simp only[↓zp,zw,aA];exact⟨rfl,rfl⟩
theorem mR(c:UInt8):C aE 76 #[.int .u8 (c.toNat:Int)] h (Ret (.bool (dU c)) h):=by
 have e3:decide ((48:Int)≤(c.toNat:Int))=decide (48≤c.toNat):=by rw[aW];simp;omega
 have e4:decide ((c.toNat:Int)≤57)=decide (c.toNat≤57):=by rw[aW];simp;omega
 unfold dU;refine C_in Tryz.func76 rfl rfl (by kernel_rfl) (aG rfl) ?_;simp only[↓zp,zw,aA,e3]
 cases g3:decide (48≤c.toNat)with
 |true=>simp only[↓zp,zw,aA,e4];exact⟨by simp,rfl⟩
 |false=>simp only[↓zp,zw,aA];exact⟨rfl,rfl⟩
end
theorem wrap_le{n:Nat}(hn:n≤9000000000000000000):IntKind.i64.wrap (n:Int)=(n:Int):=by rw[aU _ (by omega)]
theorem bI{a:Nat}(hn:a≤9000000000000000000):IntKind.i64.wrap ((a:Int)+1)=((a+1:Nat):Int):=by rw[aU _ (by omega)];simp
theorem cQ{a b:Nat}(hn:a+b≤9000000000000000000):IntKind.i64.wrap ((a:Int)+(b:Int))=((a+b:Nat):Int):=by rw[aU _ (by omega)];simp
section
variable{h:Heap}{c:LC}{L:Nat}{s:LSt}
theorem hH(H:LS h c L s)(n:Nat)(hn:n≤10):C aE 117 #[.pointer (some ⟨c.x,0,none⟩),.int .i64 (n:Int)] h (Ret (.int .u8 ((bY c.src (s.at'+n)).toNat:Int)) h):=by
 obtain⟨vo,hb,_,_⟩:=H.body;have ha:=H.le;have hs:=H.small;have w1:IntKind.i64.wrap ((s.at':Int)+(n:Int))=((s.at'+n:Nat):Int):=cQ (by omega);refine C_in Tryz.func117 rfl rfl (by kernel_rfl) (aG rfl) ?_;simp only[↓zp,zw,aA];refine bR 11 (by kernel_rfl) (by kernel_rfl) (by kernel_rfl) ?_;simp only[↓zp,zw,aA,bE hb,w1,Int.ofNat_lt];by_cases hl:s.at'+n<c.src.length
 ·simp only[↓zp,zw,aA,bC hl];refine bR 10 (by kernel_rfl) (by kernel_rfl) (by kernel_rfl) ?_;have e:bY c.src (s.at'+n)=c.src[s.at'+n]:=by simp[bY,hl]
  have h0:(0:Int)≤((s.at'+n:Nat):Int):=by omega
  simp only[↓zp,zw,aA,bE hb,w1,aF,hl,h0];exact⟨by rw[e],rfl⟩
 ·have e:bY c.src (s.at'+n)=0:=by simp[bY,hl]
  simp only[↓zp,zw,aA,bD hl];exact⟨by rw[e];rfl,rfl⟩
theorem rS(H:LS h c L s)(t:List UInt8):C aE 140 #[.pointer (some ⟨c.x,0,none⟩),.string ⟨t.toArray⟩] h (Ret (.bool (hasB c.src s.at' t)) h):=by
 obtain⟨vo,hb,_,_⟩:=H.body;have ha:=H.le;have b1:(0:Int)≤(s.at':Int)∧(s.at':Int)≤((c.src.length:Nat):Int):=by omega
 refine C_in Tryz.func140 rfl rfl (by kernel_rfl) (aG rfl) ?_;simp only[↓zp,zw,aA];refine bR 10 (by kernel_rfl) (by kernel_rfl) (by kernel_rfl) ?_;simp only[↓zp,zw,aA,bE hb,b1,aF,List.take_length];refine bH (yI _ _) ?_;rintro _ _ ⟨rfl,rfl⟩;simp only[↓zp,zw,aA];exact⟨rfl,rfl⟩
end
end
end Go.Proofs.YtfmbepijhnaklaaGreatDoor
