/- Proved here: The parser's functions that call each other | The parser's all | What is read of the four sources that are asked first | What stands between the scanner and the parser | tree.Deep | What the tree's checker asks of a node's kids, and that good nodes have it | tree.Operators, the parser's strengths | The tree's checker | The tree's checker | The tree's checker. Conditions: what each statement names. -/
import Derived.Test.YtfmbepijhnaklaaGreatDoorK13
import Derived.Test.YtfmbepijhnaklaaGreatDoorK06
import Derived.Test.YtfmbepijhnaklaaGreatDoorK04
import Derived.Test.YtfmbepijhnaklaaGreatDoorK12
import Derived.Laws.Cover2
import Derived.Test.YtfmbepijhnaklaaGreatDoorK10
set_option maxRecDepth 100000
set_option maxHeartbeats 4000000
set_option linter.unusedSimpArgs false
set_option linter.unusedVariables false
set_option linter.defProp false
open Nat renaming reduceEqDiff → aA, le_of_ble_eq_true → aG, mul_one → aP, zero_mul → aQ, zero_add → aR, reduceBEq → aY, reduceAdd → aZ, le_refl → bA
open List renaming length_cons → aB, length_append → aC, length_nil → aD, map_toArray → aH, map_cons → aJ, map_nil → aK, perm_iff_count → aM, count_append → aO, getElem?_eq_getElem → aS, count_cons → aT, count_nil → aV
open Go.Proofs.Tryz renaming prog → aE
open Int renaming toNat_natCast → aF, toNat_zero → aN, toNat_one → aX
open Bool renaming false_eq_true → aI, eq_iff_iff → aW
open And renaming intro → aL
open Go.IntWalk renaming i64_in → aU
namespace Go.Proofs.YtfmbepijhnaklaaGreatDoor
theorem all_below(hOf:wU)(T:List Tk):∀n,CE T n∧CL T n:=by
 intro n
 induction n using Nat.strongRecOn with
 |_ n ih=>
  refine⟨?_,?_⟩
  ·rintro c h L U s f fn vs r rfl hf hp hr hne;have hB:Below c.T n:=fun m hm=>ih m hm;cases f<;>simp only[fnOf,Option.some.injEq,Prod.mk.injEq,reduceCtorEq]at hf<;>obtain⟨rfl,rfl⟩:=hf
   case expression inn=>exact vZ hB hp inn hr hne
   case assignment inn=>exact sY hB hp inn hr hne
   case conditional inn=>exact sW hB hp inn hr hne
   case binary l inn=>exact binaryF_c hB hp l inn hr hne
   case power=>exact powerF_c hB hp hr hne
   case unary=>exact unaryF_c hB hp hr hne
   case member=>exact memberF_c hB hp hr hne
   case maker=>exact makerF_c hB hp hr hne
   case tail e x=>exact tailF_c hB hp e x hr hne
   case primary=>exact primaryF_c hB hp hr hne
   case template=>exact xB hB hp hr hne
   case array=>exact arrayF_c hB hp hr hne
   case object=>exact objectF_c hB hp hr hne
   case property=>exact xS hB hp hr hne
   case key=>exact keyF_c hOf hB hp hr hne
   case accessor=>exact yZ hB hp hr hne
   case argument=>exact yV hB hp hr hne
   case parens=>exact parensF_c hB hp hr hne
   case statement=>exact uO hB hp hr hne
   case block=>exact blockF_c hB hp hr hne
   case body=>exact bodyF_c hB hp hr hne
   case declaration inn=>exact rZ hB hp inn hr hne
   case function p=>exact yJ hB hp p hr hne
   case branch p=>exact branchF_c hB hp p hr hne
   case whil p=>exact whileF_c hB hp p hr hne
   case doo p=>exact doF_c hB hp p hr hne
   case leave p=>exact leaveF_c hB hp p hr hne
   case back p=>exact backF_c hB hp p hr hne
   case throw p=>exact throwF_c hB hp p hr hne
   case tryy p=>exact tryF_c hB hp p hr hne
   case choice p=>exact choiceF_c hB hp p hr hne
   case loop p=>exact loopF_c hB hp p hr hne
   case each p d=>exact eachF_c hB hp p d hr hne
   case parameters=>exact sO hB hp hr hne
  ·rintro c h L U s r rfl hp hne;have hB:Below c.T n:=fun m hm=>ih m hm;exact⟨fun hr=>listK_c hB hp hr hne,fun hr=>wK hB hp hr hne⟩
section
def AOut(c:PC)(h:Heap)(L:Nat)(U:List Nat)(r:Res Nat)(e:Ending)(h':Heap):Prop:=match r with
 | .ok a s'=>e=.returned (.tuple #[.int .i64 0,.int .i64 0])∧∃L' U',PS h' c L' U' s'∧Par c h L U h' L' U'
 | .err p=>e=.returned (.tuple #[.int .i64 (p:Int),.int .i64 80])∧Ext [c.p,L] h h'
 | .out=>False
section
variable{β:Type}{c:PC}{h0 h:Heap}{L0 L:Nat}{U0 U:List Nat}{s:St}{fn:Nat}{args:Array Value}{k:Env→Heap→Prop}{ρ:Env}{dst:Option Nat}{r:Res β}
theorem CT_stepKG {m:M (List Nat)} {f:List Nat→M β} (hq:Par c h0 L0 U0 h L U) (hrun:(m>>=f) s=r) (hne:r≠ .out)
 (hc:∀r1,m s=r1→r1≠ .out→C aE fn args h (pM c h L U r1))
 {E:List PanicEntry→Heap→Prop} (hE:∀p h',r=.err p→Ext [c.p,L] h h'→E (perr p) h')
 {t:Tok (eH k E ρ dst)}
 (hok:∀v ks s1 h1 L1 U1,m s=.ok ks s1→f ks s1=r→PS h1 c L1 U1 s1→Par c h L U h1 L1 U1→Par c h0 L0 U0 h1 L1 U1→KN h0.size h1 c L1 U1 v ks→(∀b,b∈blks v→h.size≤b)→k (ρ.put dst v) h1):
 CT aE fn args h (eH k E ρ dst) t:=by
 cases hm:m s with
 |ok a s1=>
  refine bH (hc _ hm (by simp)) ?_;rintro e h1 ⟨v,L1,U1,rfl,hp1,hq1,hk1⟩
  exact hok v a s1 h1 L1 U1 hm (by rw[←hrun,eX hm]) hp1 hq1 (hq.trans hq1) ⟨hk1.1,fun b hb=>Nat.le_trans hq.E.1 (hk1.2 b hb)⟩ hk1.2
 |err p=>
  refine bH (hc _ hm (by simp)) ?_;rintro e h1 ⟨rfl,hE1⟩
  exact hE p h1 (by rw[←hrun,fQ hm]) hE1
 |out=>exact absurd (by rw[←hrun,eK hm]) hne
theorem zH {α:Type} {m:M α} {f:α→M β} {val:α→Value} (hq:Par c h0 L0 U0 h L U) (hrun:(m>>=f) s=r) (hne:r≠ .out)
 (hc:∀r1,m s=r1→r1≠ .out→C aE fn args h (POut c h L U r1 val))
 {E:List PanicEntry→Heap→Prop} (hE:∀p h',r=.err p→Ext [c.p,L] h h'→E (perr p) h')
 {t:Tok (eH k E ρ dst)}
 (hok:∀a s1 h1 L1 U1,m s=.ok a s1→f a s1=r→PS h1 c L1 U1 s1→Par c h L U h1 L1 U1→Par c h0 L0 U0 h1 L1 U1→k (ρ.put dst (val a)) h1):
 CT aE fn args h (eH k E ρ dst) t:=by
 cases hm:m s with
 |ok a s1=>
  refine bH (hc _ hm (by simp)) ?_;rintro e h1 ⟨rfl,L1,U1,hp1,hq1⟩
  exact hok a s1 h1 L1 U1 hm (by rw[←hrun,eX hm]) hp1 hq1 (hq.trans hq1)
 |err p=>
  refine bH (hc _ hm (by simp)) ?_;rintro e h1 ⟨rfl,hE1⟩
  exact hE p h1 (by rw[←hrun,fQ hm]) hE1
 |out=>exact absurd (by rw[←hrun,eK hm]) hne
theorem oW {α:Type} {X:List Nat} {m:M α} {f:α→M β} {val:α→Value} (hq:Par c h0 L0 U0 h L U) (hX:∀x,x∈X→h0.size≤x) (hrun:(m>>=f) s=r) (hne:r≠ .out)
 (hc:∀r1,m s=r1→r1≠ .out→C aE fn args h (uC X c h L U r1 val))
 {E:List PanicEntry→Heap→Prop} (hE:∀p h',r=.err p→Ext [c.p,L] h h'→E (perr p) h')
 {t:Tok (eH k E ρ dst)}
 (hok:∀a s1 h1 L1 U1,m s=.ok a s1→f a s1=r→PS h1 c L1 U1 s1→ParX X c h L U h1 L1 U1→Par c h0 L0 U0 h1 L1 U1→k (ρ.put dst (val a)) h1):
 CT aE fn args h (eH k E ρ dst) t:=by
 cases hm:m s with
 |ok a s1=>
  refine bH (hc _ hm (by simp)) ?_;rintro e h1 ⟨rfl,L1,U1,hp1,hq1⟩
  exact hok a s1 h1 L1 U1 hm (by rw[←hrun,eX hm]) hp1 hq1 (hq.transX hq1 hX)
 |err p=>
  refine bH (hc _ hm (by simp)) ?_;rintro e h1 ⟨rfl,hE1⟩
  exact hE p h1 (by rw[←hrun,fQ hm]) hE1
 |out=>exact absurd (by rw[←hrun,eK hm]) hne
end
section
variable{c:PC}{h0:Heap}{L0:Nat}{U0:List Nat}
theorem mZ {h h':Heap} {L:Nat} {U:List Nat} {s:St} {b4 b5 p:Nat} {r:Res Nat} (hp:PS h c L U s) (hq:Par c h0 L0 U0 h L U) (hr:r=.err p) (hE:Ext [c.p,L] h h') (h4:Blk h b4 [.int .i64 0] 3) (h5:Blk h b5 [.int .i64 0] 24) (hl4:Loc h c L U b4) (hl5:Loc h c L U b5)
 (hne:b4≠b5) (n4:h0.size≤b4) (n5:h0.size≤b5):
 ∃u',settle u'=.returning∧CD aE 41 #[.pointer (some ⟨b4,0,none⟩),.pointer (some ⟨b5,0,none⟩)] (.panicking (perr p)) u' h' fun h'=> ∃v4 v5,ldv aE 3 (.pointer (some ⟨b4,0,none⟩)) h'=some v4∧ldv aE 24 (.pointer (some ⟨b5,0,none⟩)) h'=some v5∧AOut c h0 L0 U0 r (.returned (.tuple #[v4,v5])) h':=by
 have g4:Blk h' b4 [.int .i64 0] 3:=h4.ext hE (by simp[hl4.2.1,hl4.2.2.1]);have g5:Blk h' b5 [.int .i64 0] 24:=h5.ext hE (by simp[hl5.2.1,hl5.2.2.1]);refine⟨.panicking [{v:=.iface 78 (.agg #[.int .i64 (p:Int)]),recovered:=true}],rfl,fun w hw=>CallsD.mono (vA (p:=p) g4 g5 hne w hw) ?_⟩
 ·rintro e u w' ⟨h1,h2,h3,k4,k5,k6⟩;refine⟨h1,h2,h3,.int .i64 p,.int .i64 80,?_,?_,?_⟩
  ·simp only[rE,tsz,nE,bE k4];rfl
  ·simp only[rE,tsz,nE,bE k5];rfl
  ·subst hr;refine⟨rfl,?_⟩;have hE0:=iE hq hE
   exact hE0.trans_new k6 fun y hy=>by
    simp only[List.mem_cons,List.not_mem_nil,or_false]at hy;rcases hy with rfl|rfl
    ·exact .inl n4
    ·exact .inl n5
theorem all_c(hOf:wU)(hp:PS h0 c L0 U0 {i:=0,ns:=[]})(one:Bool){n:Nat}{r:Res Nat}(hr:(if one then exprF c.T n else mB c.T n)=r)(hne:r≠ .out):
 C aE 22 #[.pointer (some ⟨c.p,0,none⟩),.bool one] h0 (AOut c h0 L0 U0 r):=by
 have hB:=all_below hOf c.T n;refine C_rec (args:=[.pointer (some ⟨c.p,0,none⟩),.bool one]) Tryz.func22 rfl (by kernel_rfl) (by kernel_rfl) (aG rfl) (aG rfl) (by kernel_rfl) rfl ?_;simp only[↓zp,zv,↓reduceIte,aA];have hE0:Ext [] h0 ((h0.push (.cells #[.int .i64 0] 3)).push (.cells #[.int .i64 0] 24)):=(Ext.push _ _ _).trans (Ext.push _ _ _);refine⟨trivial,h0.size,(h0.push (.cells #[.int .i64 0] 3)).size,rfl,rfl,?_⟩;have hb4:Blk ((h0.push (.cells #[.int .i64 0] 3)).push (.cells #[.int .i64 0] 24)) h0.size [.int .i64 0] 3:=(Blk.newA (l:=#[.int .i64 0])).ext (Ext.push [] _ _) (by simp);have hb5:Blk ((h0.push (.cells #[.int .i64 0] 3)).push (.cells #[.int .i64 0] 24)) (h0.push (.cells #[.int .i64 0] 3)).size [.int .i64 0] 24:=Blk.newA (l:=#[.int .i64 0]);have hl4:Loc ((h0.push (.cells #[.int .i64 0] 3)).push (.cells #[.int .i64 0] 24)) c L0 U0 h0.size:=Loc.new hp (bA _) (by simp;omega);have hl5:Loc ((h0.push (.cells #[.int .i64 0] 3)).push (.cells #[.int .i64 0] 24)) c L0 U0 (h0.push (.cells #[.int .i64 0] 3)).size:=Loc.new hp (by simp) (by simp);have hne45:h0.size≠(h0.push (.cells #[.int .i64 0] 3)).size:=by simp
 have hn4:h0.size≤h0.size:=bA _;have hn5:h0.size≤(h0.push (.cells #[.int .i64 0] 3)).size:=by simp
 have hd:=Par.of_ext (c:=c) (L:=L0) (U:=U0) hE0;have hp:=hp.ext0 hE0;have hq:=hd;clear hd;generalize(h0.push (.cells #[.int .i64 0] 3)).push (.cells #[.int .i64 0] 24)=h at hb4 hb5 hl4 hl5 hp hq⊢;generalize(h0.push (.cells #[.int .i64 0] 3)).size=b5 at hb5 hl5 hne45 hn5⊢;generalize hb40:h0.size=b4 at hb4 hl4 hne45 hn4⊢;have hn4:h0.size≤b4:=by omega
 have hn5:h0.size≤b5:=by omega
 cases one with
 |false=>
  simp only[aI,if_false]at hr;unfold mB at hr;simp only[↓zp,zv,↓reduceIte,aA];refine CT_stepKG hq hr hne (fun r1 g1 g2=>(hB.2 c _ _ _ _ r1 rfl hp g2).1 g1) (fun p h1 hr hE=>mZ hp hq hr hE hb4 hb5 hl4 hl5 hne45 hn4 hn5) fun v ks s h L U _ hr hp hd hq hk hfr=> ?_;have hx4:b4∉blks v:=yT hl4 hfr;have hx5:b5∉blks v:=yT hl5 hfr;have hb4:=hl4.blk hb4 hd;have hl4:=hl4.par hd;have hb5:=hl5.blk hb5 hd;have hl5:=hl5.par hd;simp only[↓zp,zv,↓reduceIte,aA];refine bO hp hq (eC hp) fun h hp hd hq hE=> ?_;have hk:=hk.par hd;have hb4:=hl4.blk hb4 hd;have hl4:=hl4.par hd;have hb5:=hl5.blk hb5 hd;have hl5:=hl5.par hd;simp only[↓zp,zv,↓reduceIte,aA];by_cases h0':(nowT c.T s).kind=0
  ·have e1:(((nowT c.T s).kind:Int) !=0)=false:=by simp[h0']
   rw[if_neg (by omega)]at hr;simp only[↓zp,zv,↓reduceIte,aA,e1];have hr:=M_bindp.trans hr;refine oW hq hk.2 hr hne (fun _=>bT hp 55 0 _ _ hk.1) (fun p h1 hr hE=>mZ hp hq hr hE hb4 hb5 hl4 hl5 hne45 hn4 hn5) fun a s h L U _ hr hp hd hq=> ?_;have hb4:=hl4.blkX hb4 hd;have hl4:=hl4.parX hd hx4;have hb5:=hl5.blkX hb5 hd;have hl5:=hl5.parX hd hx5;simp only[↓zp,zv,↓reduceIte,aA];refine bS hb4 (by kernel_rfl) (by simp) rfl fun h1 hc4 hE1 hs1=> ?_;have hp:=hp.ext hE1 (by simp only[List.mem_singleton];rintro b rfl;exact hl4.2);have hq:=hq.own hE1 (by simp only[List.mem_singleton];rintro b rfl;exact hn4);have hb5:=hb5.ext hE1 (by simp[Ne.symm hne45]);have hl5':=hl5.own hE1;simp only[↓zp,zv,↓reduceIte,aA];refine bS hb5 (by kernel_rfl) (by simp) rfl fun h2 hc5 hE2 hs2=> ?_;have hp:=hp.ext hE2 (by simp only[List.mem_singleton];rintro b rfl;exact hl5'.2);have hq:=hq.own hE2 (by simp only[List.mem_singleton];rintro b rfl;exact hn5);have hc4:=hc4.ext hE2 (by simp[hne45]);simp only[↓zp,zv,↓reduceIte,aA];refine⟨by simp,fun w hw=>CallsD.mono (rD w hw) ?_⟩;rintro e u w' ⟨h1,h2,h3,h4⟩;refine⟨h1,h2,h3,.int .i64 0,.int .i64 0,?_,?_,?_⟩
   ·rw[h4];simp only[rE,tsz,nE,bE hc4];rfl
   ·rw[h4];simp only[rE,tsz,nE,bE hc5];rfl
   ·rw[h4];subst hr;exact⟨rfl,L,U,hp,hq⟩
  ·have e1:(((nowT c.T s).kind:Int) !=0)=true:=by simp;omega
   rw[if_pos h0']at hr;simp only[↓zp,zv,↓reduceIte,aA,e1];refine bH (oS hp) ?_;rintro e h1 ⟨rfl,hE1⟩
   exact mZ hp hq hr.symm hE1.of_nil hb4 hb5 hl4 hl5 hne45 hn4 hn5
 |true=>
  simp only[if_true]at hr;unfold exprF at hr;simp only[↓zp,zv,↓reduceIte,aA];refine zH hq hr hne (fun r1 g1 g2=>hB.1 c _ _ _ _ (.expression true) 42 _ r1 rfl rfl hp g1 g2) (fun p h1 hr hE=>mZ hp hq hr hE hb4 hb5 hl4 hl5 hne45 hn4 hn5) fun x s h L U _ hr hp hd hq=> ?_;have hb4:=hl4.blk hb4 hd;have hl4:=hl4.par hd;have hb5:=hl5.blk hb5 hd;have hl5:=hl5.par hd;simp only[↓zp,zv,↓reduceIte,aA];refine zH hq hr hne (fun _=>at_c hp x) (fun p h1 hr hE=>mZ hp hq hr hE hb4 hb5 hl4 hl5 hne45 hn4 hn5) fun pe s h L U _ hr hp hd hq=> ?_;have hb4:=hl4.blk hb4 hd;have hl4:=hl4.par hd;have hb5:=hl5.blk hb5 hd;have hl5:=hl5.par hd;simp only[↓zp,zv,↓reduceIte,aA];refine bJ (vals:=[x]) hp hq rfl rfl (by omega) (by omega) fun v h hk hp hd hq hbv hE=> ?_;have hx4:=bX hl4 (Or.inr hbv);have hx5:=bX hl5 (Or.inr hbv);have hb4:=hl4.blk hb4 hd;have hl4:=hl4.par hd;have hb5:=hl5.blk hb5 hd;have hl5:=hl5.par hd;simp only[↓zp,zv,↓reduceIte,aA];refine oW hq hk.2 hr hne (fun _=>bT hp 37 _ _ _ hk.1) (fun p h1 hr hE=>mZ hp hq hr hE hb4 hb5 hl4 hl5 hne45 hn4 hn5) fun a s h L U _ hr hp hd hq=> ?_;have hb4:=hl4.blkX hb4 hd;have hl4:=hl4.parX hd hx4;have hb5:=hl5.blkX hb5 hd;have hl5:=hl5.parX hd hx5;simp only[↓zp,zv,↓reduceIte,aA];refine bJ (vals:=[a]) hp hq rfl rfl (by omega) (by omega) fun v h hk hp hd hq hbv hE=> ?_;have hx4:=bX hl4 (Or.inr hbv);have hx5:=bX hl5 (Or.inr hbv);have hb4:=hl4.blk hb4 hd;have hl4:=hl4.par hd;have hb5:=hl5.blk hb5 hd;have hl5:=hl5.par hd;simp only[↓zp,zv,↓reduceIte,aA];refine bO hp hq (eC hp) fun h hp hd hq hE=> ?_;have hk:=hk.par hd;have hb4:=hl4.blk hb4 hd;have hl4:=hl4.par hd;have hb5:=hl5.blk hb5 hd;have hl5:=hl5.par hd;simp only[↓zp,zv,↓reduceIte,aA];by_cases h0':(nowT c.T s).kind=0
  ·have e1:(((nowT c.T s).kind:Int) !=0)=false:=by simp[h0']
   rw[if_neg (by omega)]at hr;simp only[↓zp,zv,↓reduceIte,aA,e1];have hr:=M_bindp.trans hr;refine oW hq hk.2 hr hne (fun _=>bT hp 55 0 _ _ hk.1) (fun p h1 hr hE=>mZ hp hq hr hE hb4 hb5 hl4 hl5 hne45 hn4 hn5) fun a s h L U _ hr hp hd hq=> ?_;have hb4:=hl4.blkX hb4 hd;have hl4:=hl4.parX hd hx4;have hb5:=hl5.blkX hb5 hd;have hl5:=hl5.parX hd hx5;simp only[↓zp,zv,↓reduceIte,aA];refine bS hb4 (by kernel_rfl) (by simp) rfl fun h1 hc4 hE1 hs1=> ?_;have hp:=hp.ext hE1 (by simp only[List.mem_singleton];rintro b rfl;exact hl4.2);have hq:=hq.own hE1 (by simp only[List.mem_singleton];rintro b rfl;exact hn4);have hb5:=hb5.ext hE1 (by simp[Ne.symm hne45]);have hl5':=hl5.own hE1;simp only[↓zp,zv,↓reduceIte,aA];refine bS hb5 (by kernel_rfl) (by simp) rfl fun h2 hc5 hE2 hs2=> ?_;have hp:=hp.ext hE2 (by simp only[List.mem_singleton];rintro b rfl;exact hl5'.2);have hq:=hq.own hE2 (by simp only[List.mem_singleton];rintro b rfl;exact hn5);have hc4:=hc4.ext hE2 (by simp[hne45]);simp only[↓zp,zv,↓reduceIte,aA];refine⟨by simp,fun w hw=>CallsD.mono (rD w hw) ?_⟩;rintro e u w' ⟨h1,h2,h3,h4⟩;refine⟨h1,h2,h3,.int .i64 0,.int .i64 0,?_,?_,?_⟩
   ·rw[h4];simp only[rE,tsz,nE,bE hc4];rfl
   ·rw[h4];simp only[rE,tsz,nE,bE hc5];rfl
   ·rw[h4];subst hr;exact⟨rfl,L,U,hp,hq⟩
  ·have e1:(((nowT c.T s).kind:Int) !=0)=true:=by simp;omega
   rw[if_pos h0']at hr;simp only[↓zp,zv,↓reduceIte,aA,e1];refine bH (oS hp) ?_;rintro e h1 ⟨rfl,hE1⟩;exact mZ hp hq hr.symm hE1.of_nil hb4 hb5 hl4 hl5 hne45 hn4 hn5
end
end
def jR(D:List Nat)(l:List Nat):Nat:=l.foldl (fun d k=>max d (D.getD k 0)) 0
def eW(ns:List Nd):List Nat:=ns.foldl (fun D x=>D++[jR D x.kids+1]) []
def gY(ns:List Nd):Nat:=(eW ns).getLastD 0
def jI:Nat→List Tk→Option Nat
 |_,[]=>none
 |o,t::T=>if t.kind==7||t.txt==[40]||t.txt==[91]||t.txt==[123]then(if o+1>150 then some t.fr else jI (o+1) T)
  else if t.kind==9||t.txt==[41]||t.txt==[93]||t.txt==[125]then jI (o-1) T else jI o T
def src1:List UInt8:=[97,10,98]
def src2:List UInt8:=[45,97,32,42,42,32,98]
def src3:List UInt8:=[105,102,32,40,97,41,32,108,101,116,32,98,59]
def src4:List UInt8:=[120,32,61,62,32,123,125]
def tks(src:List UInt8):List Tk:=(lexF src 20 0).getD []
def iD(src:List UInt8)(one:Bool)(p:Res Nat→Bool):Bool:=(lexF src 20 0).isSome&&(jI 0 (tks src)).isNone&&p (if one then exprF (tks src) 600 else mB (tks src) 600)
def okP(lo hi:Nat)(r:Res Nat):Bool:=match r with| .ok _ s=>decide (lo≤s.ns.length)&&decide (s.ns.length≤hi)&&decide (gY s.ns≤200)&&s.ns.all (fun x=>decide (x.kids.length≤100))|_=>false
def errP(p0:Nat)(r:Res Nat):Bool:=match r with| .err p=>decide (p=p0)|_=>false
theorem reads1:iD src1 false (okP 5 5)=true:=by kernel_rfl
theorem reads2:iD src2 false (errP 3)=true:=by kernel_rfl
theorem reads3:iD src3 false (errP 7)=true:=by kernel_rfl
theorem reads4:iD src4 true (okP 4 100)=true:=by kernel_rfl
section
theorem tD{α:Type}{f:α→List Value}{sz e:Nat}(hf:∀x,(f x).length=sz)(h1:0<sz){h:Heap}{v:Value}{l:List α}(hr:Row h v e sz (l.flatMap f))(hl:0<l.length):
 ∃b cap,v=.slice (some ⟨b,0,none⟩) l.length cap∧b∈blks v∧(∀i (hi:i<l.length),dH h b (i*sz) sz=some (f (l[i]'hi)))∧∀i (hi:i<l.length) j,j<sz→bG h b (i*sz+j)=(f (l[i]'hi))[j]?:=by
 have hlen:=kQ f sz hf l;obtain⟨b,n,cap,cs,rfl,h2,h3,h4,h5⟩:=hr.open (by rw[hlen];exact Nat.mul_pos hl h1)
 have hn:n=l.length:=by
  rw[hlen]at h3;exact Nat.eq_of_mul_eq_mul_right h1 h3
 subst hn;refine⟨b,cap,rfl,by simp[blks],fun i hi=> ?_,fun i hi j hj=> ?_⟩
 ·have hx:l[i]? =some (l[i]'hi):=aS hi;have hpc:=rT f sz hf l i _ hx;have hb:i*sz+sz≤l.length*sz:=by rw[←Nat.succ_mul];exact Nat.mul_le_mul_right _ hi
  rw[hlen]at h4 h5;rw[pF h2 (by omega)];rw[←h4,List.drop_take,List.take_take]at hpc;rw[←hpc]
  congr 2
  omega
 ·have hx:l[i]? =some (l[i]'hi):=aS hi;have hb:i*sz+sz≤l.length*sz:=by rw[←Nat.succ_mul];exact Nat.mul_le_mul_right _ hi
  rw[hlen]at h4;have h6:(cs.take (l.length*sz))[i*sz+j]? =cs[i*sz+j]?:=by rw[List.getElem?_take,if_pos (by omega)]
  rw[bE h2,←h6,h4];exact fm_get f sz hf l i j _ hx hj
theorem nest_drop{T:List Tk}{i o:Nat}(hi:i<T.length):jI o (T.drop i)=jI o (T[i]::T.drop (i+1)):=by rw[List.drop_eq_getElem_cons hi]
section
variable{h:Heap}{T:List Tk}{vt:Value}
theorem nest_c(hr:Row h vt 73 7 (T.flatMap Tk.cells))(hT:0<T.length)(hTb:T.length≤1000000)(hfr:∀t,t∈T→t.fr≤1000000):
 C aE 19 #[vt] h fun e h'=>e=.returned (.int .i64 (match jI 0 T with|some p=>(p:Int)|none=> -1))∧Ext [] h h':=by
 obtain⟨b,cap,rfl,hbm,hld,_⟩:=tD Tk.cells_len (by omega) hr hT;have hbl:=hr.lt b hbm;obtain⟨r0,hr0⟩:∃r0,jI 0 T=r0:=⟨_,rfl⟩;rw[hr0];refine C_in Tryz.func19 rfl rfl (by kernel_rfl) (aG rfl) ?_;simp only[↓zp,zw,aA]
 refine⟨fun m ρ h'=> ∃i o:Nat,ρ 3=.int .i64 (o:Int)∧ρ 7=.slice (some ⟨b,0,none⟩) T.length cap∧ρ 8=.int .i64 ((T.length:Nat):Int)∧ρ 9=.int .i64 (i:Int)∧Ext [] h h'∧i≤T.length∧o≤i∧jI o (T.drop i)=r0∧m=T.length-i,T.length,
  ⟨0,0,by simp only[↓zp,zw,aA];rfl,by simp only[↓zp,zw,aA],by simp only[↓zp,zw,aA],by simp only[↓zp,zw,aA];rfl,Ext.refl _ _,by omega,by omega,hr0,rfl⟩,?_⟩
 rintro m ρ h1 ⟨i,o,g3,g7,g8,g9,hE1,hi,ho,hnest,hm⟩;by_cases hlt:i<T.length
 ·have d1:decide ((i:Int)<((T.length:Nat):Int))=true:=bC (by omega);have b1:(0:Int)≤(i:Int)∧(i:Int)<((T.length:Nat):Int):=by omega
  have hcell:=fM hE1 (by simp) (hld i hlt);rw[nest_drop hlt]at hnest;have hfr':=hfr _ (List.getElem_mem hlt);generalize T[i]=t at hcell hnest hfr';simp only[↓zp,zw,aA,g3,g7,g8,g9,d1,b1,aF,hcell];have hE2:Ext [] h1 (h1.push (.cells z73.toArray 73)):=Ext.push _ _ _;have hb2:Blk (h1.push (.cells z73.toArray 73)) h1.size z73 73:=Blk.new;have hz2:(h1.push (.cells z73.toArray 73)).size=h1.size+1:=by simp
  rw[show h1.push (.cells #[.int .i64 0,.string ⟨#[]⟩,.string ⟨#[]⟩,.float .f64 0,.int .i64 0,.int .i64 0,.bool false] 73)=h1.push (.cells z73.toArray 73)from rfl];generalize h1.push (.cells z73.toArray 73)=h2 at hE2 hb2 hz2⊢;refine cM hb2 (by kernel_rfl) rfl (by simp[z73,Tk.cells]) rfl fun h3 hb3 hE3 hs3=> ?_;have E13:Ext [] h1 h3:=hE2.trans_new hE3 fun y hy=> .inl (by simp at hy;omega);replace hb3:Blk h3 h1.size t.cells 73:=hb3;simp only[↓zp,zw,aA,g3,g7,g8,g9,bQ hb3 t.cells_len];refine bH (fT t h3) ?_;rintro _ h4 ⟨rfl,hE4⟩;have hb4:=hb3.ext hE4 (by simp);have E04:Ext [] h h4:=(hE1.trans E13).trans hE4;have c0:bG h4 h1.size 0=some (.int .i64 (t.kind:Int)):=by rw[bE hb4];rfl
  have c4:bG h4 h1.size 4=some (.int .i64 (t.fr:Int)):=by rw[bE hb4];rfl
  have k7:((t.kind:Int)==7)=(t.kind==7):=by rw[aW];simp;omega
  have k9:((t.kind:Int)==9)=(t.kind==9):=by rw[aW];simp;omega
  have w1:=bI (a:=o) (by omega);have w2:=bI (a:=i) (by omega);unfold jI at hnest
  cases a1:t.kind==7 with
  |true=>
   rw[if_pos (by simp[a1])]at hnest;simp only[↓zp,zw,aA,g3,g7,g8,g9,c0,c4,k7,k9,a1,w1];by_cases hbig:o+1>150
   ·have d2:decide ((150:Int)<((o+1:Nat):Int))=true:=bC (by omega);rw[if_pos hbig]at hnest;simp only[↓zp,zw,aA,g3,g7,g8,g9,c0,c4,k7,k9,a1,w1,d2];exact⟨by rw[←hnest],E04⟩
   ·have d2:decide ((150:Int)<((o+1:Nat):Int))=false:=bD (by omega);rw[if_neg hbig]at hnest;simp only[↓zp,zw,aA,g3,g7,g8,g9,c0,c4,k7,k9,a1,w1,d2,w2]
    exact⟨T.length-(i+1),by omega,i+1,o+1,rfl,by trivial,by trivial,rfl,E04,by omega,by omega,hnest,rfl⟩
  |false=>
  cases a2:t.txt==[40]with
  |true=>
   rw[if_pos (by simp[a2])]at hnest;simp only[↓zp,zw,aA,g3,g7,g8,g9,c0,c4,k7,k9,a1,a2,w1];by_cases hbig:o+1>150
   ·have d2:decide ((150:Int)<((o+1:Nat):Int))=true:=bC (by omega);rw[if_pos hbig]at hnest;simp only[↓zp,zw,aA,g3,g7,g8,g9,c0,c4,k7,k9,a1,a2,w1,d2];exact⟨by rw[←hnest],E04⟩
   ·have d2:decide ((150:Int)<((o+1:Nat):Int))=false:=bD (by omega);rw[if_neg hbig]at hnest;simp only[↓zp,zw,aA,g3,g7,g8,g9,c0,c4,k7,k9,a1,a2,w1,d2,w2]
    exact⟨T.length-(i+1),by omega,i+1,o+1,rfl,by trivial,by trivial,rfl,E04,by omega,by omega,hnest,rfl⟩
  |false=>
  cases a3:t.txt==[91]with
  |true=>
   rw[if_pos (by simp[a3])]at hnest;simp only[↓zp,zw,aA,g3,g7,g8,g9,c0,c4,k7,k9,a1,a2,a3,w1];by_cases hbig:o+1>150
   ·have d2:decide ((150:Int)<((o+1:Nat):Int))=true:=bC (by omega);rw[if_pos hbig]at hnest;simp only[↓zp,zw,aA,g3,g7,g8,g9,c0,c4,k7,k9,a1,a2,a3,w1,d2];exact⟨by rw[←hnest],E04⟩
   ·have d2:decide ((150:Int)<((o+1:Nat):Int))=false:=bD (by omega);rw[if_neg hbig]at hnest;simp only[↓zp,zw,aA,g3,g7,g8,g9,c0,c4,k7,k9,a1,a2,a3,w1,d2,w2]
    exact⟨T.length-(i+1),by omega,i+1,o+1,rfl,by trivial,by trivial,rfl,E04,by omega,by omega,hnest,rfl⟩
  |false=>
  cases a4:t.txt==[123]with
  |true=>
   rw[if_pos (by simp[a4])]at hnest;simp only[↓zp,zw,aA,g3,g7,g8,g9,c0,c4,k7,k9,a1,a2,a3,a4,w1];by_cases hbig:o+1>150
   ·have d2:decide ((150:Int)<((o+1:Nat):Int))=true:=bC (by omega);rw[if_pos hbig]at hnest;simp only[↓zp,zw,aA,g3,g7,g8,g9,c0,c4,k7,k9,a1,a2,a3,a4,w1,d2];exact⟨by rw[←hnest],E04⟩
   ·have d2:decide ((150:Int)<((o+1:Nat):Int))=false:=bD (by omega);rw[if_neg hbig]at hnest;simp only[↓zp,zw,aA,g3,g7,g8,g9,c0,c4,k7,k9,a1,a2,a3,a4,w1,d2,w2]
    exact⟨T.length-(i+1),by omega,i+1,o+1,rfl,by trivial,by trivial,rfl,E04,by omega,by omega,hnest,rfl⟩
  |false=>
  cases b1:t.kind==9 with
  |true=>
   rw[if_neg (by simp[a1,a2,a3,a4]),if_pos (by simp[b1])]at hnest;have w3:IntKind.i64.wrap ((o:Int)-1)=(o:Int)-1:=by rw[aU _ (by omega)]
   have w4:(if(0:Int)>(o:Int)-1 then(0:Int)else(o:Int)-1)=((o-1:Nat):Int):=by split<;>omega
   simp only[↓zp,zw,aA,g3,g7,g8,g9,c0,c4,k7,k9,a1,a2,a3,a4,b1,w3,w4,w2]
   exact⟨T.length-(i+1),by omega,i+1,o-1,rfl,by trivial,by trivial,rfl,E04,by omega,by omega,hnest,rfl⟩
  |false=>
  cases b2:t.txt==[41]with
  |true=>
   rw[if_neg (by simp[a1,a2,a3,a4]),if_pos (by simp[b2])]at hnest;have w3:IntKind.i64.wrap ((o:Int)-1)=(o:Int)-1:=by rw[aU _ (by omega)]
   have w4:(if(0:Int)>(o:Int)-1 then(0:Int)else(o:Int)-1)=((o-1:Nat):Int):=by split<;>omega
   simp only[↓zp,zw,aA,g3,g7,g8,g9,c0,c4,k7,k9,a1,a2,a3,a4,b1,b2,w3,w4,w2]
   exact⟨T.length-(i+1),by omega,i+1,o-1,rfl,by trivial,by trivial,rfl,E04,by omega,by omega,hnest,rfl⟩
  |false=>
  cases b3:t.txt==[93]with
  |true=>
   rw[if_neg (by simp[a1,a2,a3,a4]),if_pos (by simp[b3])]at hnest;have w3:IntKind.i64.wrap ((o:Int)-1)=(o:Int)-1:=by rw[aU _ (by omega)]
   have w4:(if(0:Int)>(o:Int)-1 then(0:Int)else(o:Int)-1)=((o-1:Nat):Int):=by split<;>omega
   simp only[↓zp,zw,aA,g3,g7,g8,g9,c0,c4,k7,k9,a1,a2,a3,a4,b1,b2,b3,w3,w4,w2]
   exact⟨T.length-(i+1),by omega,i+1,o-1,rfl,by trivial,by trivial,rfl,E04,by omega,by omega,hnest,rfl⟩
  |false=>
  cases b4:t.txt==[125]with
  |true=>
   rw[if_neg (by simp[a1,a2,a3,a4]),if_pos (by simp[b4])]at hnest;have w3:IntKind.i64.wrap ((o:Int)-1)=(o:Int)-1:=by rw[aU _ (by omega)]
   have w4:(if(0:Int)>(o:Int)-1 then(0:Int)else(o:Int)-1)=((o-1:Nat):Int):=by split<;>omega
   simp only[↓zp,zw,aA,g3,g7,g8,g9,c0,c4,k7,k9,a1,a2,a3,a4,b1,b2,b3,b4,w3,w4,w2]
   exact⟨T.length-(i+1),by omega,i+1,o-1,rfl,by trivial,by trivial,rfl,E04,by omega,by omega,hnest,rfl⟩
  |false=>
  rw[if_neg (by simp[a1,a2,a3,a4]),if_neg (by simp[b1,b2,b3,b4])]at hnest;simp only[↓zp,zw,aA,g3,g7,g8,g9,c0,c4,k7,k9,a1,a2,a3,a4,b1,b2,b3,b4,w2];exact⟨T.length-(i+1),by omega,i+1,o,by trivial,by trivial,by trivial,rfl,E04,by omega,by omega,hnest,rfl⟩
 ·have d1:decide ((i:Int)<((T.length:Nat):Int))=false:=bD (by omega);simp only[↓zp,zw,aA,g3,g7,g8,g9,d1];have hd:T.drop i=[]:=List.drop_eq_nil_of_le (by omega);rw[hd]at hnest;exact⟨by rw[←hnest];rfl,hE1⟩
end
end
section
def NS(h:Heap)(vl:Value)(ns:List Nd):Prop:=∃kvs,Row h vl 35 6 ((ns.zip kvs).flatMap bM)∧kvs.length=ns.length∧∀x,x∈ns.zip kvs→Row h x.2 3 1 (bL x.1.kids)
theorem NS.ext0{h h':Heap}{vl:Value}{ns:List Nd}(H:NS h vl ns)(hE:Ext [] h h'):NS h' vl ns:=by
 obtain⟨kvs,h1,h2,h3⟩:=H;exact⟨kvs,h1.ext hE (by simp),h2,fun x hx=>(h3 x hx).ext hE (by simp)⟩
theorem NS.node{h:Heap}{vl:Value}{ns:List Nd}(H:NS h vl ns)(hpos:0<ns.length):
 ∃b cap,vl=.slice (some ⟨b,0,none⟩) ns.length cap∧∀i (hi:i<ns.length),∃vk,Row h vk 3 1 (bL (ns[i]'hi).kids)∧dH h b (i*6) 6=some (bM (ns[i]'hi,vk))∧∀j,j<6→bG h b (i*6+j)=(bM (ns[i]'hi,vk))[j]?:=by
 obtain⟨kvs,h1,h2,h3⟩:=H;have hl:(ns.zip kvs).length=ns.length:=by simp[h2]
 obtain⟨b,cap,e1,_,e2,e3⟩:=tD cU (by omega) h1 (by omega);rw[hl]at e1;refine⟨b,cap,e1,fun i hi=> ?_⟩;have hi':i<(ns.zip kvs).length:=by omega
 have hik:i<kvs.length:=by omega
 have ez:(ns.zip kvs)[i]'hi'=(ns[i]'hi,kvs[i]'hik):=List.getElem_zip;refine⟨kvs[i]'hik,?_,?_,?_⟩
 ·have:=h3 _ (List.getElem_mem hi');rw[ez]at this;exact this
 ·rw[e2 i hi',ez]
 ·intro j hj;rw[e3 i hi' j hj,ez]
theorem cV{h:Heap}{vk:Value}{ks:List Nat}(hr:Row h vk 3 1 (bL ks)):∃a c,vk=.slice a ks.length c∧∀j (hj:j<ks.length),∃b,a=some ⟨b,0,none⟩∧bG h b (j*1)=some (.int .i64 ((ks[j]'hj:Nat):Int)):=by
 obtain⟨a,n,c,rfl,hn⟩:=hr.shape;rw[cW,aP]at hn;subst hn;refine⟨a,c,rfl,fun j hj=> ?_⟩;obtain⟨b,n',cap',cs,e,hb,hn',ht,_⟩:=hr.open (by rw[cW];omega);simp only[Value.slice.injEq]at e;obtain⟨rfl,rfl,rfl⟩:=e;refine⟨b,rfl,?_⟩;rw[aP,Row.cell (n:=ks.length) (cap:=c) hb ht (by rw[cW];exact hj)];simp[bL,hj]
theorem rY(ns:List Nd)(x:Nd):eW (ns++[x])=eW ns++[jR (eW ns) x.kids+1]:=by simp[eW]
theorem tT(ns:List Nd):(eW ns).length=ns.length:=by
 have:∀(ns:List Nd) (D:List Nat),(ns.foldl (fun D x=>D++[jR D x.kids+1]) D).length=D.length+ns.length:=by
  intro ns
  induction ns with
  |nil=>simp
  |cons x ns ih=>intro D;rw[List.foldl_cons,ih];simp;omega
 have h:=this ns [];simpa[eW]using h
section
variable{h:Heap}{vl:Value}{ns:List Nd}
theorem deep_c(H:NS h vl ns)(hpos:0<ns.length)(hbig:ns.length≤10000000)(hkb:∀x,x∈ns→x.kids.length≤1000000000):C aE 14 #[vl] h fun e h'=>e=.returned (.int .i64 (gY ns:Int))∧Ext [] h h':=by
 obtain⟨b,cap,rfl,hnode⟩:=H.node hpos;obtain⟨N,hN⟩:∃N,ns.length=N:=⟨_,rfl⟩;have w0:=bI (a:=N) (by omega);rw[hN];refine C_in Tryz.func14 rfl rfl (by kernel_rfl) (aG rfl) ?_;simp only[↓zp,zw,aA,w0];refine Wmake (e:=3) (z:=.int .i64 0) (n:=N+1) Tryz.underlying33 (by kernel_rfl) (by kernel_rfl) rfl (by omega) fun h1 hd1 hE1 hz1=> ?_;simp only[↓zp,zw,aA]
 have hd1':Blk h1 h.size (bL (eW (ns.take 0)++List.replicate (N+1-0) 0)) 3:=by
  have:bL (eW (ns.take 0)++List.replicate (N+1-0) 0)=List.replicate (N+1) (.int .i64 0):=by simp[eW,bL]
  rw[this];exact hd1
 refine⟨fun m ρ h'=> ∃i:Nat,ρ 3=.slice (some ⟨h.size,0,none⟩) (N+1) (N+1)∧ρ 4=.int .i64 (gY (ns.take i):Int)∧ρ 14=.slice (some ⟨b,0,none⟩) N cap∧ρ 15=.int .i64 ((N:Nat):Int)∧ρ 16=.int .i64 (i:Int)∧Blk h' h.size (bL (eW (ns.take i)++List.replicate (N+1-i) 0)) 3∧Ext [] h h'∧i≤N∧(∀d,d∈eW (ns.take i)→d≤i)∧m=N-i,N,
  ⟨0,by simp only[↓zp,zw,aA],by simp only[↓zp,zw,aA];rfl,by simp only[↓zp,zw,aA],by simp only[↓zp,zw,aA],by simp only[↓zp,zw,aA];rfl,hd1',hE1,by omega,by simp[eW],rfl⟩,?_⟩
 rintro m ρ h2 ⟨i,g3,g4,g14,g15,g16,hd2,E2,hi,hle,hm⟩;have hDl:(eW (ns.take i)).length=i:=by rw[tT,List.length_take];omega
 by_cases hlt:i<N
 ·have d1:decide ((i:Int)<((N:Nat):Int))=true:=bC (by omega);have b1:(0:Int)≤(i:Int)∧(i:Int)<((N:Nat):Int):=by omega
  have hiN:i<ns.length:=by rw[hN];exact hlt
  obtain⟨vk,hrk,hld,_⟩:=hnode i hiN;have hcell:=fM E2 (by simp) hld;have hrk2:=hrk.ext E2 (by simp)
  have hsn:eW (ns.take (i+1))=eW (ns.take i)++[jR (eW (ns.take i)) (ns[i]'hiN).kids+1]:=by
   rw[List.take_add_one,aS hiN];exact rY _ _
  have hxb:=hkb _ (List.getElem_mem hiN);clear hld hrk;generalize ns[i]'hiN=x at hrk2 hcell hsn hxb;generalize hD:eW (ns.take i)=D at hd2 hle hDl hsn;simp only[↓zp,zw,aA,g3,g4,g14,g15,g16,d1,b1,aF,hcell];have hE3:Ext [] h2 (h2.push (.cells #[.int .i64 0,.string ⟨#[]⟩,.string ⟨#[]⟩,.float .f64 0,.slice none 0 0,.int .i64 0] 35)):=Ext.push _ _ _;have hb3:Blk (h2.push (.cells #[.int .i64 0,.string ⟨#[]⟩,.string ⟨#[]⟩,.float .f64 0,.slice none 0 0,.int .i64 0] 35)) h2.size [.int .i64 0,.string ⟨#[]⟩,.string ⟨#[]⟩,.float .f64 0,.slice none 0 0,.int .i64 0] 35:=Blk.newA;have hz3:(h2.push (.cells #[.int .i64 0,.string ⟨#[]⟩,.string ⟨#[]⟩,.float .f64 0,.slice none 0 0,.int .i64 0] 35)).size=h2.size+1:=by simp
  generalize h2.push (.cells #[.int .i64 0,.string ⟨#[]⟩,.string ⟨#[]⟩,.float .f64 0,.slice none 0 0,.int .i64 0] 35)=h3 at hE3 hb3 hz3⊢;obtain⟨ak,ck,rfl,hkid⟩:=cV hrk2;refine cM hb3 (by kernel_rfl) rfl (by simp[bM]) rfl fun h4 hb4 hE4 hs4=> ?_;replace hb4:Blk h4 h2.size (bM (x,.slice ak x.kids.length ck)) 35:=hb4;have E24:Ext [] h2 h4:=hE3.trans_new hE4 fun y hy=> .inl (by simp at hy;omega);have E4:=E2.trans E24;have hd4:=hd2.ext E24 (by simp);have c4:bG h4 h2.size 4=some (.slice ak x.kids.length ck):=by rw[bE hb4];rfl
  simp only[↓zp,zw,aA,g3,g4,g14,g15,g16,d1,c4];have hdl:=hd1.lt
  refine⟨fun m2 ρ h'=> ∃j d:Nat,ρ 3=.slice (some ⟨h.size,0,none⟩) (N+1) (N+1)∧ρ 5=.int .i64 (i:Int)∧ρ 7=.int .i64 (d:Int)∧ρ 14=.slice (some ⟨b,0,none⟩) N cap∧ρ 15=.int .i64 ((N:Nat):Int)∧ρ 16=.int .i64 (i:Int)∧ρ 22=.slice ak x.kids.length ck∧ρ 23=.int .i64 ((x.kids.length:Nat):Int)∧ρ 24=.int .i64 (j:Int)∧h'=h4∧j≤x.kids.length∧d≤i∧(x.kids.drop j).foldl (fun d k=>max d (D.getD k 0)) d=jR D x.kids∧m2=x.kids.length-j,x.kids.length,
   ⟨0,0,by simp only[↓zp,zw,aA,g3],by simp only[↓zp,zw,aA],by simp only[↓zp,zw,aA];rfl,by simp only[↓zp,zw,aA,g14],by simp only[↓zp,zw,aA,g15],by simp only[↓zp,zw,aA,g16],by simp only[↓zp,zw,aA],by simp only[↓zp,zw,aA],by simp only[↓zp,zw,aA];rfl,rfl,by omega,by omega,rfl,rfl⟩,?_⟩
  rintro m2 ρ h5 ⟨j,d,f3,f5,f7,f14,f15,f16,f22,f23,f24,hh,hj,hd,hfold,hmm⟩;rw[hh];by_cases hjl:j<x.kids.length
  ·have d2:decide ((j:Int)<((x.kids.length:Nat):Int))=true:=bC (by omega);have b2:(0:Int)≤(j:Int)∧(j:Int)<((x.kids.length:Nat):Int):=by omega
   obtain⟨bk,rfl,hck⟩:=hkid j hjl;have hck4:bG h4 bk (j*1)=some (.int .i64 ((x.kids[j]'hjl:Nat):Int)):=E24.cell hck (by simp);rw[List.drop_eq_getElem_cons hjl,List.foldl_cons]at hfold;generalize x.kids[j]'hjl=k at hck4 hfold;have d3:decide ((0:Int)≤((k:Nat):Int))=true:=bC (by omega);have w1:=bI (a:=j) (by omega);simp only[↓zp,zw,aA,f3,f5,f7,f14,f15,f16,f22,f23,f24,d2,b2,aF,hck4,d3];by_cases hki:k<i
   ·have d4:decide ((k:Int)<(i:Int))=true:=bC (by omega);have b3:(0:Int)≤(k:Int)∧(k:Int)<((N+1:Nat):Int):=by omega
    have hgd:D.getD k 0=D[k]'(by omega):=by simp[List.getD_eq_getElem?_getD,aS (show k<D.length by omega)]
    have hcd:bG h4 h.size (k*1)=some (.int .i64 ((D.getD k 0:Nat):Int)):=by
     rw[aP,bE hd4,hgd];unfold bL;rw[List.getElem?_map,List.getElem?_append_left (by omega),aS (by omega)]
     rfl
    have hDk:D.getD k 0≤i:=by rw[hgd];exact hle _ (List.getElem_mem _)
    generalize D.getD k 0=e at hcd hfold hDk;have w3:(if(e:Int)>(d:Int)then(e:Int)else(d:Int))=((max d e:Nat):Int):=by split<;>omega
    simp only[↓zp,zw,aA,f3,f5,f7,f14,f15,f16,f22,f23,f24,d2,b2,d3,d4,b3,hck4,aF,hcd,w3,w1];exact⟨x.kids.length-(j+1),by omega,j+1,max d e,by trivial,by trivial,rfl,by trivial,by trivial,by trivial,by trivial,by trivial,rfl,by trivial,by omega,by omega,hfold,rfl⟩
   ·have d4:decide ((k:Int)<(i:Int))=false:=bD (by omega);have hg0:D.getD k 0=0:=by rw[List.getD_eq_getElem?_getD,List.getElem?_eq_none (by omega)];rfl
    rw[hg0,Nat.max_eq_left (by omega)]at hfold;simp only[↓zp,zw,aA,f3,f5,f7,f14,f15,f16,f22,f23,f24,d2,b2,d3,d4,hck4,aF,w1];exact⟨x.kids.length-(j+1),by omega,j+1,d,by trivial,by trivial,by trivial,by trivial,by trivial,by trivial,by trivial,by trivial,rfl,by trivial,by omega,by omega,hfold,rfl⟩
  ·have d2:decide ((j:Int)<((x.kids.length:Nat):Int))=false:=bD (by omega);have hdr:x.kids.drop j=[]:=List.drop_eq_nil_of_le (by omega);rw[hdr]at hfold;have hfold:d=jR D x.kids:=hfold;subst hfold;generalize jR D x.kids=d at*;have w1:=bI (a:=d) (by omega);have w2:=bI (a:=i) (by omega);have b3:(0:Int)≤(i:Int)∧(i:Int)<((N+1:Nat):Int):=by omega
   simp only[↓zp,zw,aA,f3,f5,f7,f14,f15,f16,f22,f23,f24,d2,b3,aF,w1];refine bS (o:=i*1) hd4 (by kernel_rfl) (by rw[cW];simp;omega) rfl fun h6 hd6 hE6 hs6=> ?_;simp only[↓zp,zw,aA,f3,f5,f7,f14,f15,f16,f22,f23,f24,d2,w1,w2]
   have hset:(bL (D++List.replicate (N+1-i) 0)).set (i*1) (.int .i64 ((d+1:Nat):Int))=bL (eW (ns.take (i+1))++List.replicate (N+1-(i+1)) 0):=by
    rw[hsn,show N+1-i=(N+1-(i+1))+1 by omega,List.replicate_succ,aP];unfold bL;rw[List.map_append,List.set_append_right _ _ (by simp;omega)];simp[hDl]
   rw[hset]at hd6;refine⟨N-(i+1),by omega,i+1,by trivial,?_,by trivial,by trivial,rfl,hd6,E4.trans_new hE6 fun y hy=> .inl (by simp at hy;omega),by omega,?_,rfl⟩
   ·congr 2
    unfold gY;rw[hsn];simp
   ·rw[hsn];intro y hy;rcases List.mem_append.1 hy with hy|hy
    ·have:=hle y hy;omega
    ·simp at hy;omega
 ·have d1:decide ((i:Int)<((N:Nat):Int))=false:=bD (by omega);simp only[↓zp,zw,aA,g3,g4,g14,g15,g16,d1];have:ns.take i=ns:=List.take_of_length_le (by omega);exact⟨by rw[this],E2⟩
end
end
section
def ruleRows:List (List UInt8×List UInt8):=[(([]:List UInt8),([]:List UInt8)),(([]:List UInt8),([]:List UInt8)),(([]:List UInt8),([]:List UInt8)),(([]:List UInt8),([]:List UInt8)),(([]:List UInt8),([]:List UInt8)),(([]:List UInt8),([]:List UInt8)),([110,97,109,101],([]:List UInt8)),(([]:List UInt8),([]:List UInt8)),(([]:List UInt8),[97,42]),(([]:List UInt8),[112,42]),(([]:List UInt8),[107,101]),(([]:List UInt8),[107,71]),(([]:List UInt8),[107,83]),([109,97,121,98,101],[80,66]),(([]:List UInt8),[80,65]),(([]:List UInt8),[101,97,42]),(([]:List UInt8),[101,97,42]),([119,111,114,100],[101]),(([]:List UInt8),[101,101]),([111,112],[101]),([111,112],[116]),([111,112],[116]),([111,112],[101,101]),(([]:List UInt8),[101,101]),(([]:List UInt8),[101,101]),(([]:List UInt8),[101,101,101]),([111,112],[116,101]),(([]:List UInt8),[101,101,101,42]),(([]:List UInt8),[84]),(([]:List UInt8),[101]),(([]:List UInt8),[110,42,114,63]),([110,97,109,101],([]:List UInt8)),(([]:List UInt8),[115,42]),(([]:List UInt8),[105,105,42]),(([]:List UInt8),[105,105,42]),([110,97,109,101],[101,63]),(([]:List UInt8),([]:List UInt8)),(([]:List UInt8),[101]),(([]:List UInt8),[101,98,98,63]),(([]:List UInt8),[102,109,109,98]),(([]:List UInt8),[104,101,98]),(([]:List UInt8),[104,101,98]),(([]:List UInt8),[101,98]),(([]:List UInt8),[98,101]),([109,97,121,98,101],([]:List UInt8)),([109,97,121,98,101],([]:List UInt8)),(([]:List UInt8),[101,63]),(([]:List UInt8),[101]),([109,97,121,98,101],[66,78,78]),(([]:List UInt8),[101,99,42]),(([]:List UInt8),[101,115,42]),(([]:List UInt8),[115,42]),([110,97,109,101],[98]),([110,97,109,101],[80,66]),(([]:List UInt8),([]:List UInt8)),(([]:List UInt8),[115,42]),(([]:List UInt8),[101])]
def eG(k:Nat):List UInt8:=(ruleRows.getD k ([],[])).1
def pB(k:Nat):List UInt8:=(ruleRows.getD k ([],[])).2
def fitK(c:UInt8)(k:Nat):Option Bool:=
 if c=101 then some (cG k)else if c=97 then some (argK k)else if c=115 then some (iN k)
 else if c=116 then some (tgtK k)else if c=107 then some (keyK k)else if c=112 then some (lH k)
 else if c=80 then some (k==30)else if c=66 then some (k==32)else if c=65 then some (k==32||cG k)
 else if c=78 then some (k==32||k==54)else if c=110 then some (k==6)else if c=114 then some (k==31)
 else if c=105 then some (k==35)else if c=102 then some (fN k||midK k)else if c=109 then some (midK k)
 else if c=99 then some (nB k)else none
inductive FitR(ns:List Nd):UInt8→Nat→Bool→Prop
 |kind {c:UInt8} {n:Nat} {v:Bool} (x:Nd) (hx:ns[n]? =some x) (h:fitK c x.kind=some v):FitR ns c n v
 |body {n:Nat} (h:IsBody ns n):FitR ns 98 n true
 |get {n:Nat} (h:parKids ns n (·=[])):FitR ns 71 n true
 |set {n:Nat} (h:parKids ns n (fun l=> ∃a,l=[a]∧hasK ns a (·==6))):FitR ns 83 n true
 |name {n:Nat} (h:hasK ns n (·==6)):FitR ns 104 n true
 |decl {n:Nat} (h:oneInit ns n):FitR ns 104 n true
def plainC(r:List UInt8):Bool:=match r with|[]=>true|c::_=>c !=42&&c !=63
inductive MatR(ns:List Nd):List UInt8→List Nat→Prop
 |nil:MatR ns [] []
 |one {c:UInt8} {r:List UInt8} {n:Nat} {l:List Nat} (hr:plainC r=true) (hf:FitR ns c n true) (H:MatR ns r l):MatR ns (c::r) (n::l)
 |star {c:UInt8} {r:List UInt8} {l1 l:List Nat} (hf:∀n,n∈l1→FitR ns c n true) (hs:∀n l',l=n::l'→FitR ns c n false) (H:MatR ns r l):MatR ns (c::42::r) (l1++l)
 |opt1 {c:UInt8} {r:List UInt8} {n:Nat} {l:List Nat} (hf:FitR ns c n true) (H:MatR ns r l):MatR ns (c::63::r) (n::l)
 |opt0 {c:UInt8} {r:List UInt8} (H:MatR ns r []):MatR ns (c::63::r) []
section
variable{ns:List Nd}
theorem fitP{c:UInt8}{p:Nat→Bool}(hp:∀k,fitK c k=some (p k)){n:Nat}(h:hasK ns n p):FitR ns c n true:=by
 obtain⟨y,h1,h2⟩:=h;exact .kind y h1 (by rw[hp,h2])
theorem kR{c:UInt8}{p:Nat→Bool}(hp:∀k,fitK c k=some (p k)){l:List Nat}(h:allK ns l p):∀n,n∈l→FitR ns c n true:=fun n hn=>fitP hp (h n hn)
theorem jF{c:UInt8}{l:List Nat}(h:∀n,n∈l→FitR ns c n true):MatR ns [c,42] l:=by
 have:=MatR.star (l:=[]) h (fun n l' e=>by cases e) MatR.nil;simpa using this
theorem eO(k:Nat):fitK 101 k=some (cG k):=rfl
theorem fitK_a(k:Nat):fitK 97 k=some (argK k):=rfl
theorem fitK_s(k:Nat):fitK 115 k=some (iN k):=rfl
theorem fitK_t(k:Nat):fitK 116 k=some (tgtK k):=rfl
theorem fitK_k(k:Nat):fitK 107 k=some (keyK k):=rfl
theorem fitK_p(k:Nat):fitK 112 k=some (lH k):=rfl
theorem fitK_P(k:Nat):fitK 80 k=some (k==30):=rfl
theorem fitK_B(k:Nat):fitK 66 k=some (k==32):=rfl
theorem fitK_A(k:Nat):fitK 65 k=some (k==32||cG k):=rfl
theorem vX(k:Nat):fitK 78 k=some (k==32||k==54):=rfl
theorem fitK_n(k:Nat):fitK 110 k=some (k==6):=rfl
theorem fitK_r(k:Nat):fitK 114 k=some (k==31):=rfl
theorem fitK_i(k:Nat):fitK 105 k=some (k==35):=rfl
theorem fitK_f(k:Nat):fitK 102 k=some (fN k||midK k):=rfl
theorem fitK_m(k:Nat):fitK 109 k=some (midK k):=rfl
theorem fitK_c(k:Nat):fitK 99 k=some (nB k):=rfl
theorem Shape.mat{k:Nat}{x:List UInt8}{l:List Nat}(h:Shape ns k x l):(k=28∧Alt ns l)∨(k≠28∧MatR ns (pB k) l):=by
 cases h with
 |template h=>exact .inl ⟨rfl,h⟩
 |num=>exact .inr ⟨by decide,.nil⟩
 |str=>exact .inr ⟨by decide,.nil⟩
 |plain h=>rcases h with rfl|rfl|rfl|rfl|rfl|rfl<;>exact .inr ⟨by decide,.nil⟩
 |name=>exact .inr ⟨by decide,.nil⟩
 |rest=>exact .inr ⟨by decide,.nil⟩
 |leave hk hx=>rcases hk with rfl|rfl<;>exact .inr ⟨by decide,.nil⟩
 |array h=>exact .inr ⟨by decide,jF (kR fitK_a h)⟩
 |object h=>exact .inr ⟨by decide,jF (kR fitK_p h)⟩
 |prop hk he=>exact .inr ⟨by decide,.one rfl (fitP fitK_k hk) (.one rfl (fitP eO he) .nil)⟩
 |getter hk hf=>exact .inr ⟨by decide,.one rfl (fitP fitK_k hk) (.one rfl (.get hf) .nil)⟩
 |setter hk hf=>exact .inr ⟨by decide,.one rfl (fitP fitK_k hk) (.one rfl (.set hf) .nil)⟩
 |func hx hp hb=>exact .inr ⟨by decide,.one rfl (fitP fitK_P hp) (.one rfl (fitP fitK_B hb) .nil)⟩
 |arrow hp hb=>exact .inr ⟨by decide,.one rfl (fitP fitK_P hp) (.one rfl (fitP fitK_A hb) .nil)⟩
 |call hk he hl=>rcases hk with rfl|rfl<;>exact .inr ⟨by decide,.one rfl (fitP eO he) (jF (kR fitK_a hl))⟩
 |dot hx he=>exact .inr ⟨by decide,.one rfl (fitP eO he) .nil⟩
 |two hk ha hb=>rcases hk with rfl|rfl|rfl<;>exact .inr ⟨by decide,.one rfl (fitP eO ha) (.one rfl (fitP eO hb) .nil)⟩
 |unary hx he=>exact .inr ⟨by decide,.one rfl (fitP eO he) .nil⟩
 |prepost hk hx he=>rcases hk with rfl|rfl<;>exact .inr ⟨by decide,.one rfl (fitP fitK_t he) .nil⟩
 |binary hx ha hb=>exact .inr ⟨by decide,.one rfl (fitP eO ha) (.one rfl (fitP eO hb) .nil)⟩
 |cond ha hb hd=>exact .inr ⟨by decide,.one rfl (fitP eO ha) (.one rfl (fitP eO hb) (.one rfl (fitP eO hd) .nil))⟩
 |assign hx ha hb=>exact .inr ⟨by decide,.one rfl (fitP fitK_t ha) (.one rfl (fitP eO hb) .nil)⟩
 |seq h=>exact .inr ⟨by decide,.one rfl (fitP eO (h _ (by simp))) (.one rfl (fitP eO (h _ (by simp))) (jF (kR eO fun n hn=>h n (by simp[hn]))))⟩
 |one hk he=>rcases hk with rfl|rfl|rfl|rfl<;>exact .inr ⟨by decide,.one rfl (fitP eO he) .nil⟩
 |params hl hr=>
  refine .inr ⟨by decide,?_⟩;refine .star (kR fitK_n hl) (fun n l' e=> ?_) ?_
  ·rcases hr with rfl|⟨a,rfl,y,h1,h2⟩
   ·cases e
   ·cases e;simp only[beq_iff_eq]at h2;exact .kind y h1 (by rw[h2];rfl)
  ·rcases hr with rfl|⟨a,rfl,h⟩
   ·exact .opt0 .nil
   ·exact .opt1 (fitP fitK_r h) .nil
 |stmts hk hl=>rcases hk with rfl|rfl|rfl<;>exact .inr ⟨by decide,jF (kR fitK_s hl)⟩
 |decl hk hl=>
  have h1:k=33∨k=34:=by simpa[fN]using hk
  rcases h1 with rfl|rfl<;>exact .inr ⟨by decide,.one rfl (fitP fitK_i (hl _ (by simp))) (jF (kR fitK_i fun n hn=>hl n (by simp[hn])))⟩
 |init hx hl=>
  refine .inr ⟨by decide,?_⟩;rcases hl with rfl|⟨e,rfl,h⟩
  ·exact .opt0 .nil
  ·exact .opt1 (fitP eO h) .nil
 |ret hl=>
  refine .inr ⟨by decide,?_⟩;rcases hl with rfl|⟨e,rfl,h⟩
  ·exact .opt0 .nil
  ·exact .opt1 (fitP eO h) .nil
 |ifs he hb hl=>
  refine .inr ⟨by decide,?_⟩;refine .one rfl (fitP eO he) (.one rfl (.body hb) ?_);rcases hl with rfl|⟨d,rfl,h⟩
  ·exact .opt0 .nil
  ·exact .opt1 (.body h) .nil
 |fors hf hm hn hb=>exact .inr ⟨by decide,.one rfl (fitP fitK_f hf) (.one rfl (fitP fitK_m hm) (.one rfl (fitP fitK_m hn) (.one rfl (.body hb) .nil)))⟩
 |each hk ha he hb=>
  have hh:∀{a},hasK ns a (·==6)∨oneInit ns a→FitR ns 104 a true:=fun h=>h.elim .name .decl
  rcases hk with rfl|rfl<;>exact .inr ⟨by decide,.one rfl (hh ha) (.one rfl (fitP eO he) (.one rfl (.body hb) .nil))⟩
 |whiles he hb=>exact .inr ⟨by decide,.one rfl (fitP eO he) (.one rfl (.body hb) .nil)⟩
 |dos hb he=>exact .inr ⟨by decide,.one rfl (.body hb) (.one rfl (fitP eO he) .nil)⟩
 | @tries _ b c f hb h=>
   have h1:FitR ns 78 c true:=by
    rcases h with⟨_,h,_⟩|⟨_,h,_⟩
    ·exact fitP vX (h.imp fun k hk=>by simp at hk;simp[hk])
    ·exact fitP vX (h.imp fun k hk=>by simp at hk;simp[hk])
   have h2:FitR ns 78 f true:=by
    rcases h with⟨_,_,h⟩|⟨_,_,h⟩
    ·exact fitP vX h
    ·exact fitP vX (h.imp fun k hk=>by simp at hk;simp[hk])
   exact .inr ⟨by decide,.one rfl (fitP fitK_B hb) (.one rfl h1 (.one rfl h2 .nil))⟩
 |switch he hl hd=>exact .inr ⟨by decide,.one rfl (fitP eO he) (jF (kR fitK_c hl))⟩
 |case he hl=>exact .inr ⟨by decide,.one rfl (fitP eO he) (jF (kR fitK_s hl))⟩
 |label hx hb=>exact .inr ⟨by decide,.one rfl (.body hb) .nil⟩
 |fun_ hx hp hb=>exact .inr ⟨by decide,.one rfl (fitP fitK_P hp) (.one rfl (fitP fitK_B hb) .nil)⟩
end
def iZ(k:Nat):List (List UInt8):=if k=19 then unaryOps else if k=20∨k=21 then[[43,43],[45,45]]else if k=22 then binOps else if k=26 then assignOps else[]
def rA:List UInt8:=[110,97,109,101]
def nD:List UInt8:=[109,97,121,98,101]
def qZ:List UInt8:=[119,111,114,100]
def sOp:List UInt8:=[111,112]
def oL(k:Nat)(x:List UInt8):Bool:=
 if eG k=rA then fL x else if eG k=nD then x.isEmpty||fL x else if eG k=qZ then fL x||gN x else if eG k=sOp then(iZ k).contains x else x.isEmpty
section
variable{ns:List Nd}
theorem iJ{x:List UInt8}(h:nmB x=true):fL x=true:=(Bool.and_eq_true_iff.1 h).1
theorem rM{x:List UInt8}(h:jQ x=true):(x.isEmpty||fL x)=true:=(Bool.or_eq_true_iff.1 h).elim (fun h=>by rw[h];rfl) fun h=>by rw[iJ h,Bool.or_true]
theorem jH{x:List UInt8}(h:nmB x=true):x.length≤1000000:=by simpa using(Bool.and_eq_true_iff.1 h).2
theorem tO{x:List UInt8}(h:jQ x=true):x.length≤1000000:=(Bool.or_eq_true_iff.1 h).elim (fun h=>by rw[List.isEmpty_iff.1 h];simp) jH
theorem qD{l:List (List UInt8)}{x:List UInt8}(hl:l.all (fun y=>decide (y.length≤100))=true)(h:l.contains x=true):x.length≤1000000:=by
 have:=List.all_eq_true.1 hl x (by simpa using h);simp at this;omega
theorem zJ{x:List UInt8}(h:gN x=true):x.length≤1000000:=qD (l:=wordList) (by decide) h
theorem word_or{x:List UInt8}(h:(nmB x||gN x)=true):(fL x||gN x)=true:=(Bool.or_eq_true_iff.1 h).elim (fun h=>by rw[iJ h];rfl) fun h=>by rw[h,Bool.or_true]
theorem Shape.txt{k:Nat}{x:List UInt8}{l:List Nat}(h:Shape ns k x l):oL k x=true∧1≤k∧k≤56:=by
 cases h with
 |plain h=>rcases h with rfl|rfl|rfl|rfl|rfl|rfl<;>exact⟨rfl,by decide,by decide⟩
 |leave hk hx=>rcases hk with rfl|rfl<;>exact⟨rM hx,by decide,by decide⟩
 |call hk=>rcases hk with rfl|rfl<;>exact⟨rfl,by decide,by decide⟩
 |two hk=>rcases hk with rfl|rfl|rfl<;>exact⟨rfl,by decide,by decide⟩
 |prepost hk hx=>rcases hk with rfl|rfl<;>rcases hx with rfl|rfl<;>exact⟨by decide,by decide,by decide⟩
 |one hk=>rcases hk with rfl|rfl|rfl|rfl<;>exact⟨rfl,by decide,by decide⟩
 |stmts hk=>rcases hk with rfl|rfl|rfl<;>exact⟨rfl,by decide,by decide⟩
 |decl hk=>
  have h1:k=33∨k=34:=by simpa[fN]using hk
  rcases h1 with rfl|rfl<;>exact⟨rfl,by decide,by decide⟩
 |each hk=>rcases hk with rfl|rfl<;>exact⟨rfl,by decide,by decide⟩
 |tries hb h=>
  refine⟨?_,by decide,by decide⟩;rcases h with⟨h,_⟩|⟨h,_⟩
  ·show(x.isEmpty||fL x)=true;rw[iJ h];simp
  ·subst h;rfl
 |name h=>exact⟨iJ h,by decide,by decide⟩
 |rest h=>exact⟨iJ h,by decide,by decide⟩
 |init h=>exact⟨iJ h,by decide,by decide⟩
 |label h=>exact⟨iJ h,by decide,by decide⟩
 |fun_ h=>exact⟨iJ h,by decide,by decide⟩
 |func h=>exact⟨rM h,by decide,by decide⟩
 |dot h=>exact⟨word_or h,by decide,by decide⟩
 |unary h=>exact⟨h,by decide,by decide⟩
 |binary h=>exact⟨h,by decide,by decide⟩
 |assign h=>exact⟨h,by decide,by decide⟩
 |_=>exact⟨rfl,by decide,by decide⟩
theorem Shape.tlen{k:Nat}{x:List UInt8}{l:List Nat}(h:Shape ns k x l):x.length≤1000000:=by
 cases h with
 |name h=>exact jH h
 |rest h=>exact jH h
 |init h=>exact jH h
 |label h=>exact jH h
 |fun_ h=>exact jH h
 |func h=>exact tO h
 |leave _ h=>exact tO h
 |dot h=>exact(Bool.or_eq_true_iff.1 h).elim jH zJ
 |unary h=>exact qD (by decide) h
 |binary h=>exact qD (by decide) h
 |assign h=>exact qD (by decide) h
 |prepost _ h=>rcases h with rfl|rfl<;>decide
 |tries _ h=>exact h.elim (fun h=>jH h.1) fun h=>by rw[h.1];simp
 |_=>simp
theorem hasK.lt{n:Nat}{p:Nat→Bool}(h:hasK ns n p):n<ns.length:=by
 obtain⟨y,h,_⟩:=h;exact(List.getElem?_eq_some_iff.1 h).1
theorem IsBody.lt{n:Nat}(h:IsBody ns n):n<ns.length:=by
 cases h with
 |base h=>exact h.lt
 |label h=>exact(List.getElem?_eq_some_iff.1 h).1
theorem parKids.lt{n:Nat}{q:List Nat→Prop}(h:parKids ns n q):n<ns.length:=by
 obtain⟨y,p,b,z,h,_⟩:=h;exact(List.getElem?_eq_some_iff.1 h).1
theorem oneInit.lt{n:Nat}(h:oneInit ns n):n<ns.length:=by
 obtain⟨y,p,z,h,_⟩:=h;exact(List.getElem?_eq_some_iff.1 h).1
theorem FitR.lt{c:UInt8}{n:Nat}{v:Bool}(h:FitR ns c n v):n<ns.length:=by
 cases h with
 |kind x hx _=>exact(List.getElem?_eq_some_iff.1 hx).1
 |body h=>exact h.lt
 |get h=>exact h.lt
 |set h=>exact h.lt
 |name h=>exact h.lt
 |decl h=>exact h.lt
theorem MatR.lt{r:List UInt8}{l:List Nat}(h:MatR ns r l):∀n,n∈l→n<ns.length:=by
 induction h with
 |nil=>simp
 |one hr hf H ih=>exact fun n hn=>(List.mem_cons.1 hn).elim (fun e=>e▸hf.lt) (ih n)
 |star hf hs H ih=>exact fun n hn=>(List.mem_append.1 hn).elim (fun h=>(hf n h).lt) (ih n)
 |opt1 hf H ih=>exact fun n hn=>(List.mem_cons.1 hn).elim (fun e=>e▸hf.lt) (ih n)
 |opt0 H ih=>simp
theorem Alt.lt{l:List Nat}(h:Alt ns l):∀n,n∈l→n<ns.length:=by
 induction h with
 |one h=>intro n hn;simp only[List.mem_singleton]at hn;subst hn;exact h.lt
 |more h he _ ih=>exact fun n hn=>(List.mem_cons.1 hn).elim (fun e=>e▸h.lt) fun hn=>(List.mem_cons.1 hn).elim (fun e=>e▸he.lt) (ih n)
theorem Shape.lt{k:Nat}{x:List UInt8}{l:List Nat}(h:Shape ns k x l):∀n,n∈l→n<ns.length:=by
 rcases h.mat with⟨_,h⟩|⟨_,h⟩
 ·exact h.lt
 ·exact h.lt
end
end
section
def qL(l:List (List UInt8))(h:Heap)(e:Ending)(h':Heap):Prop:=∃v,e=.returned v∧Row h' v 9 1 (cI l)∧blks v=[h.size]∧Ext [] h h'∧h'.size=h.size+1
section
variable{h hI:Heap}
theorem iW(hG:Gl hI)(hE:Ext [] hI h)(x:List UInt8)(l:List (List UInt8))(hl:Lib.fields x=l)(hx:x.length≤1000000)(ha:x.all (fun b=>decide (b.toNat<128))=true):C aE 40 #[.string ⟨x.toArray⟩] h (qL l h):=by
 subst hl;exact yM hG hE x hx fun b hb=>by simpa using List.all_eq_true.1 ha b hb
theorem lJ(hG:Gl hI)(hE:Ext [] hI h)(k:Nat)(hk:k=19∨k=20∨k=21∨k=22∨k=26):C aE 20 #[.int .i64 (k:Int)] h (qL (iZ k) h):=by
 rcases hk with rfl|rfl|rfl|rfl|rfl
 ·refine C_in Tryz.func20 rfl rfl (by kernel_rfl) (aG rfl) ?_;simp only[↓zp,zw,aA,show(((19:Nat):Int)==19)=true by decide];refine bH (iW hG hE [33,32,126,32,43,32,45,32,116,121,112,101,111,102,32,118,111,105,100,32,100,101,108,101,116,101] (iZ 19) (by kernel_rfl) (by decide) (by decide)) ?_;rintro _ h1 ⟨v,rfl,k1,k2,k3,k4⟩;simp only[↓zp,zw,aA];exact⟨v,rfl,k1,k2,k3,k4⟩
 ·refine C_in Tryz.func20 rfl rfl (by kernel_rfl) (aG rfl) ?_;simp only[↓zp,zw,aA,show(((20:Nat):Int)==19)=false by decide,show(((20:Nat):Int)==20)=true by decide];refine bH (iW hG hE [43,43,32,45,45] (iZ 20) (by kernel_rfl) (by decide) (by decide)) ?_;rintro _ h1 ⟨v,rfl,k1,k2,k3,k4⟩;simp only[↓zp,zw,aA];exact⟨v,rfl,k1,k2,k3,k4⟩
 ·refine C_in Tryz.func20 rfl rfl (by kernel_rfl) (aG rfl) ?_;simp only[↓zp,zw,aA,show(((21:Nat):Int)==19)=false by decide,show(((21:Nat):Int)==20)=false by decide,show(((21:Nat):Int)==21)=true by decide];refine bH (iW hG hE [43,43,32,45,45] (iZ 21) (by kernel_rfl) (by decide) (by decide)) ?_;rintro _ h1 ⟨v,rfl,k1,k2,k3,k4⟩;simp only[↓zp,zw,aA];exact⟨v,rfl,k1,k2,k3,k4⟩
 ·refine C_in Tryz.func20 rfl rfl (by kernel_rfl) (aG rfl) ?_;simp only[↓zp,zw,aA,show(((22:Nat):Int)==19)=false by decide,show(((22:Nat):Int)==20)=false by decide,show(((22:Nat):Int)==21)=false by decide,show(((22:Nat):Int)==22)=true by decide];refine bH (iW hG hE [43,32,45,32,42,32,47,32,37,32,42,42,32,60,60,32,62,62,32,62,62,62,32,38,32,124,32,94,32,60,32,62,32,60,61,32,62,61,32,61,61,32,33,61,32,61,61,61,32,33,61,61,32,105,110,32,105,110,115,116,97,110,99,101,111,102] (iZ 22) (by kernel_rfl) (by decide) (by decide)) ?_;rintro _ h1 ⟨v,rfl,k1,k2,k3,k4⟩;simp only[↓zp,zw,aA];exact⟨v,rfl,k1,k2,k3,k4⟩
 ·refine C_in Tryz.func20 rfl rfl (by kernel_rfl) (aG rfl) ?_;simp only[↓zp,zw,aA,show(((26:Nat):Int)==19)=false by decide,show(((26:Nat):Int)==20)=false by decide,show(((26:Nat):Int)==21)=false by decide,show(((26:Nat):Int)==22)=false by decide,show(((26:Nat):Int)==26)=true by decide];refine bH (iW hG hE [61,32,43,61,32,45,61,32,42,61,32,47,61,32,37,61,32,42,42,61,32,60,60,61,32,62,62,61,32,62,62,62,61,32,38,61,32,124,61,32,94,61] (iZ 26) (by kernel_rfl) (by decide) (by decide)) ?_;rintro _ h1 ⟨v,rfl,k1,k2,k3,k4⟩;simp only[↓zp,zw,aA];exact⟨v,rfl,k1,k2,k3,k4⟩
end
end
section
def ruleCells:List Value:=ruleRows.flatMap fun r=>[.string ⟨r.1.toArray⟩,.string ⟨r.2.toArray⟩]
structure CK(h:Heap)(ck:Nat)(vl:Value)(ns:List Nd):Prop where
 blk:Blk h ck (vl::ruleCells) 44
 row:NS h vl ns
 few:ns.length≤100000
 kids:∀x,x∈ns→x.kids.length≤1000000
theorem CK.ext0{h h':Heap}{ck:Nat}{vl:Value}{ns:List Nd}(H:CK h ck vl ns)(hE:Ext [] h h'):CK h' ck vl ns:=⟨H.blk.ext hE (by simp),H.row.ext0 hE,H.few,H.kids⟩
section
variable{h:Heap}
theorem oT(k:Nat):C aE 52 #[.int .i64 (k:Int)] h (Ret (.bool (cG k)) h):=by
 have e1:decide ((1:Int)≤(k:Int))=decide (1≤k):=by rw[aW];simp;omega
 have e2:decide ((k:Int)≤9)=decide (k≤9):=by rw[aW];simp;omega
 have e3:decide ((13:Int)≤(k:Int))=decide (13≤k):=by rw[aW];simp;omega
 have e4:decide ((k:Int)≤28)=decide (k≤28):=by rw[aW];simp;omega
 unfold cG;refine C_in Tryz.func52 rfl rfl (by kernel_rfl) (aG rfl) ?_;cases h1:decide (1≤k)<;>cases h2:decide (k≤9)<;>cases h3:decide (13≤k)<;>cases h4:decide (k≤28)<;>simp only[↓zp,zw,↓reduceIte,aA,e1,e2,e3,e4,h1,h2,h3,h4]<;>exact⟨rfl,rfl⟩
theorem stmt_k(k:Nat):C aE 79 #[.int .i64 (k:Int)] h (Ret (.bool (iN k)) h):=by
 have e1:decide ((32:Int)≤(k:Int))=decide (32≤k):=by rw[aW];simp;omega
 have e2:decide ((k:Int)≤34)=decide (k≤34):=by rw[aW];simp;omega
 have e3:decide ((36:Int)≤(k:Int))=decide (36≤k):=by rw[aW];simp;omega
 have e4:decide ((k:Int)≤49)=decide (k≤49):=by rw[aW];simp;omega
 have e5:((k:Int)==52)=(k==52):=by rw[aW];simp;omega
 have e6:((k:Int)==53)=(k==53):=by rw[aW];simp;omega
 unfold iN;refine C_in Tryz.func79 rfl rfl (by kernel_rfl) (aG rfl) ?_;cases h1:decide (32≤k)<;>cases h2:decide (k≤34)<;>cases h3:decide (36≤k)<;>cases h4:decide (k≤49)<;>simp only[↓zp,zw,↓reduceIte,aA,e1,e2,e3,e4,e5,e6,h1,h2,h3,h4]<;>first|exact⟨rfl,rfl⟩|skip
 all_goals cases h5:(k==52)<;>simp only[↓zp,zw,↓reduceIte,aA,e5,e6,h5]<;>first|exact⟨rfl,rfl⟩|(cases h6:(k==53)<;>simp only[↓zp,zw,↓reduceIte,aA,e5,e6,h5,h6]<;>exact⟨rfl,rfl⟩)
end
section
variable{h:Heap}{ck:Nat}{vl:Value}{ns:List Nd}
theorem CK.at(H:CK h ck vl ns){n:Nat}{x:Nd}(hx:ns[n]? =some x):∃b cap vk,vl=.slice (some ⟨b,0,none⟩) ns.length cap∧n<ns.length∧Row h vk 3 1 (bL x.kids)∧dH h b (n*6) 6=some (bM (x,vk))∧∀j,j<6→bG h b (n*6+j)=(bM (x,vk))[j]?:=by
 obtain⟨hn,rfl⟩:=List.getElem?_eq_some_iff.1 hx;obtain⟨b,cap,e,hnode⟩:=H.row.node (by omega);obtain⟨vk,k1,k2,k3⟩:=hnode n hn;exact⟨b,cap,vk,e,hn,k1,k2,k3⟩
theorem cF{a b:Nat}:((a:Int)==(b:Int))=(a==b):=by rw[aW];simp;omega
theorem cH{a b:Nat}:((a:Int) !=(b:Int))=(a !=b):=by
 show(!((a:Int)==(b:Int)))= !(a==b);rw[cF]
theorem body_k(H:CK h ck vl ns){n:Nat}(hb:IsBody ns n):C aE 80 #[.pointer (some ⟨ck,0,none⟩),.int .i64 (n:Int)] h (Ret (.bool true) h):=by
 refine C_in Tryz.func80 rfl rfl (by kernel_rfl) (aG rfl) ?_;simp only[↓zp,zw,↓reduceIte,aA];refine⟨fun m ρ h'=> ∃n':Nat,ρ 0=.pointer (some ⟨ck,0,none⟩)∧ρ 1=.int .i64 (n':Int)∧IsBody ns n'∧h'=h∧m=n',n,⟨n,by simp only[↓zp,zw,↓reduceIte,aA],by simp only[↓zp,zw,↓reduceIte,aA],hb,rfl,rfl⟩,?_⟩;rintro m ρ h1 ⟨n',g0,g1,hb',hh,hm⟩;rw[hh]
 cases hb' with
 |base hk=>
  obtain⟨x,hx,hp⟩:=hk;obtain⟨b,cap,vk,rfl,hn,_,_,hc⟩:=H.at hx;have c0:bG h b (n'*6)=some (.int .i64 (x.kind:Int)):=hc 0 (by omega);have b1:(0:Int)≤(n':Int)∧(n':Int)<((ns.length:Nat):Int):=by omega
  simp only[mK,Bool.and_eq_true,bne_iff_ne,ne_eq]at hp;obtain⟨⟨⟨⟨p1,p2⟩,p3⟩,p4⟩,p5⟩:=hp;have e52:((x.kind:Int)==52)=false:=by simp;omega
  have e33:((x.kind:Int) !=33)=true:=by simp;omega
  have e34:((x.kind:Int) !=34)=true:=by simp;omega
  have e53:((x.kind:Int) !=53)=true:=by simp;omega
  simp only[↓zp,zw,↓reduceIte,aA,g0,g1,bE H.blk,b1,aF,c0,e52];refine bK (stmt_k x.kind) ?_;rw[p1];simp only[↓zp,zw,↓reduceIte,aA,e33,e34,e53]
  exact⟨rfl,rfl⟩
 | @label _ k x hx hk hy hl hb2=>
   obtain⟨b,cap,vk,rfl,hn,hrk,_,hc⟩:=H.at hx;have c0:bG h b (n'*6)=some (.int .i64 (x.kind:Int)):=hc 0 (by omega);have c4:bG h b (n'*6+4)=some vk:=hc 4 (by omega);have b1:(0:Int)≤(n':Int)∧(n':Int)<((ns.length:Nat):Int):=by omega
   have e52:((x.kind:Int)==52)=true:=by rw[hk];rfl
   obtain⟨ak,ckp,rfl,hkid⟩:=cV hrk;obtain⟨bk,rfl,hck⟩:=hkid 0 (by rw[hy];simp)
   have hck0:bG h bk 0=some (.int .i64 (k:Int)):=by
    have:x.kids[0]'(by rw[hy];simp)=k:=by simp[hy]
    rw[this]at hck;simpa using hck
   have b2:(0:Int)≤0∧(0:Int)<((x.kids.length:Nat):Int):=by rw[hy];simp
   simp only[↓zp,zw,↓reduceIte,aA,g0,g1,bE H.blk,b1,b2,aF,aN,aQ,c0,c4,e52,hck0];exact⟨k,by omega,k,by trivial,by trivial,hb2,by trivial,by trivial⟩
theorem xY(H:CK h ck vl ns){n p b:Nat}{y z:Nd}(hy:ns[n]? =some y)(hyk:y.kids=[p,b])(hz:ns[p]? =some z){ks:List Nat}(hzl:z.kids.length=ks.length)(hks:∀j (hj:j<z.kids.length),∃w,ns[z.kids[j]'hj]? =some w∧ks[j]? =some w.kind)(hfew:ks.length≤1000):C aE 81 #[.pointer (some ⟨ck,0,none⟩),.int .i64 (n:Int)] h fun e h'=> ∃v,e=.returned v∧Row h' v 3 1 (bL ks)∧Ext [] h h':=by
 obtain⟨bn,cap,vk,rfl,hn,hrk,_,hc⟩:=H.at hy;obtain⟨bn',cap',vz,e2,hp,hrz,_,hcz⟩:=H.at hz;simp only[Value.slice.injEq,Option.some.injEq,Addr.mk.injEq,true_and,and_true]at e2;obtain⟨rfl,rfl⟩:=e2;have c4:bG h bn (n*6+4)=some vk:=hc 4 (by omega);have z4:bG h bn (p*6+4)=some vz:=hcz 4 (by omega);have b1:(0:Int)≤(n:Int)∧(n:Int)<((ns.length:Nat):Int):=by omega
 have b2:(0:Int)≤(p:Int)∧(p:Int)<((ns.length:Nat):Int):=by omega
 obtain⟨ak,ckp,rfl,hkid⟩:=cV hrk;obtain⟨bk,rfl,hck⟩:=hkid 0 (by rw[hyk];simp)
 have hck0:bG h bk 0=some (.int .i64 (p:Int)):=by
  have:y.kids[0]'(by rw[hyk];simp)=p:=by simp[hyk]
  rw[this]at hck;simpa using hck
 have b3:(0:Int)≤0∧(0:Int)<((y.kids.length:Nat):Int):=by rw[hyk];simp
 obtain⟨az,cz,rfl,hkz⟩:=cV hrz;rw[hzl]at z4;refine C_in Tryz.func81 rfl rfl (by kernel_rfl) (aG rfl) ?_;simp only[↓zp,zw,↓reduceIte,aA];refine dL [(0,true),(1,true),(2,true),(3,true),(4,true),(5,true),(6,true),(7,true),(8,true),(9,true),(10,true),(11,true),(12,true),(13,true),(14,true),(15,true),(16,true),(17,true),(18,true)] (fun h'=>h'=h) (by kernel_rfl) (by kernel_rfl) (by kernel_rfl) rfl rfl ?_
 iterate 19 refine Wo_t rfl rfl _ (.inl fun h' hS'=>by simp only[rdOp,↓zp,zw,↓reduceIte,aA,aH,aJ,aK,hS',bE H.blk,b1,b2,b3,aF,aN,aQ,c4,z4,hck0];rfl) ?_
 simp only[↓zp,zw,↓reduceIte,aA];refine⟨fun m ρ h'=> ∃(i:Nat) (v:Value),ρ 0=.pointer (some ⟨ck,0,none⟩)∧ρ 5=v∧ρ 24=.slice az ks.length cz∧ρ 25=.int .i64 ((ks.length:Nat):Int)∧ρ 26=.int .i64 (i:Int)∧Row h' v 3 1 (bL (ks.take i))∧Ext [] h h'∧i≤ks.length∧(∀b,b∈blks v→h.size≤b)∧m=ks.length-i,ks.length,⟨0,_,by simp only[↓zp,zw,↓reduceIte,aA],rfl,by simp only[↓zp,zw,↓reduceIte,aA],by simp only[↓zp,zw,↓reduceIte,aA],by simp only[↓zp,zw,↓reduceIte,aA];rfl,Row.nil,Ext.refl _ _,by omega,by simp only[↓zp,zw,↓reduceIte,aA];simp[blks],rfl⟩,?_⟩;rintro m ρ h1 ⟨i,v,g0,g5,g24,g25,g26,hr,hE,hi,hnew,hm⟩;have H1:=H.ext0 hE;by_cases hlt:i<ks.length
 ·have d1:decide ((i:Int)<((ks.length:Nat):Int))=true:=bC (by omega);have b4:(0:Int)≤(i:Int)∧(i:Int)<((ks.length:Nat):Int):=by omega
  have w1:=bI (a:=i) (by omega);obtain⟨bz,rfl,hcz1⟩:=hkz i (by omega);obtain⟨w,hw,hkw⟩:=hks i (by omega);generalize z.kids[i]'(by omega)=q at hcz1 hw;have hcq:bG h1 bz (i*1)=some (.int .i64 (q:Int)):=hE.cell hcz1 (by simp);obtain⟨bn',cap',vw,e3,hq,_,_,hcw⟩:=H1.at hw;simp only[Value.slice.injEq,Option.some.injEq,Addr.mk.injEq,true_and,and_true]at e3;obtain⟨rfl,rfl⟩:=e3;have w0:bG h1 bn (q*6)=some (.int .i64 (w.kind:Int)):=hcw 0 (by omega);have b5:(0:Int)≤(q:Int)∧(q:Int)<((ns.length:Nat):Int):=by omega
  simp only[↓zp,zw,↓reduceIte,aA,g0,g5,g24,g25,g26,d1,b4,b5,aF,hcq,bE H1.blk,w0];refine dQ (vals:=bL [w.kind]) (e:=3) Tryz.underlying33 (by kernel_rfl) rfl rfl rfl (by omega) (by omega) fun v6 h6 hr6 hb6 hE6 hs6=> ?_;simp only[↓zp,zw,↓reduceIte,aA,g0,g5,g24,g25,g26]
  refine fX (n:=1) (tx:=33) (e:=3) (sz:=1) (news:=bL [w.kind]) (hr.ext hE6 (by simp)) Tryz.underlying33 (by kernel_rfl) (fun u hu=>by
   obtain⟨n,hn,hs⟩:=hr6.src (P:=aE) (tx:=33) (e':=3) Tryz.underlying33 rfl u hu;have:n=1:=by simpa[bL]using hn
   subst this;exact hs) (by rw[cW,cW,List.length_take];simp;omega) fun v7 h7 hr7 hc7=> ?_
  simp only[↓zp,zw,↓reduceIte,aA,g0,g5,g24,g25,g26,w1]
  have et:bL (ks.take i)++bL [w.kind]=bL (ks.take (i+1)):=by
   rw[List.take_add_one,hkw];simp[bL]
  rw[et]at hr7
  have hE7:Ext [] h h7:=by
   rcases hc7 with⟨_,e,_⟩|⟨_,e,_⟩
   ·exact(hE.trans hE6).trans_new e fun y hy=> .inl (hnew y hy)
   ·exact(hE.trans hE6).trans e
  refine⟨ks.length-(i+1),by omega,i+1,v7,by trivial,by trivial,by trivial,by trivial,by trivial,hr7,hE7,by omega,?_,rfl⟩;rcases hc7 with⟨e,_,_⟩|⟨e,_,_⟩
  ·rw[e];exact hnew
  ·rw[e];intro b hb;simp at hb;have:=(hE.trans hE6).1;omega
 ·have d1:decide ((i:Int)<((ks.length:Nat):Int))=false:=bD (by omega);have et:ks.take i=ks:=List.take_of_length_le (by omega);rw[et]at hr;simp only[↓zp,zw,↓reduceIte,aA,g0,g5,g24,g25,g26,d1];exact⟨v,rfl,hr,hE⟩
theorem ints_eq(v w:Value)(k:Nat)(hv:Row h v 3 1 (bL [k]))(hw:Row h w 3 1 (bL [k])):C aE 82 #[v,w] h (Ret (.bool true) h):=by
 obtain⟨av,cv,rfl,hcv⟩:=cV hv;obtain⟨aw,cw,rfl,hcw⟩:=cV hw;obtain⟨bv,rfl,hv1⟩:=hcv 0 (by simp);obtain⟨bw,rfl,hw1⟩:=hcw 0 (by simp);replace hv1:bG h bv 0=some (.int .i64 (k:Int)):=hv1;replace hw1:bG h bw 0=some (.int .i64 (k:Int)):=hw1;have e1:(((1:Nat):Int) !=((1:Nat):Int))=false:=rfl;have e2:((k:Int) !=(k:Int))=false:=by simp
 refine C_in Tryz.func82 rfl rfl (by kernel_rfl) (aG rfl) ?_;simp only[↓zp,zw,↓reduceIte,aA,aB,aD,aR,e1];refine⟨fun m ρ h'=> ∃i:Nat,ρ 0=.slice (some ⟨bv,0,none⟩) 1 cv∧ρ 1=.slice (some ⟨bw,0,none⟩) 1 cw∧ρ 12=.int .i64 ((1:Nat):Int)∧ρ 13=.int .i64 (i:Int)∧h'=h∧i≤1∧m=1-i,1,⟨0,by simp only[↓zp,zw,↓reduceIte,aA],by simp only[↓zp,zw,↓reduceIte,aA],by simp only[↓zp,zw,↓reduceIte,aA],by simp only[↓zp,zw,↓reduceIte,aA];rfl,rfl,by omega,rfl⟩,?_⟩;rintro m ρ h1 ⟨i,g0,g1,g12,g13,hh,hi,hm⟩;rw[hh];by_cases hlt:i<1
 ·have:i=0:=by omega
  subst this;have d1:decide (((0:Nat):Int)<((1:Nat):Int))=true:=by decide
  have b1:(0:Int)≤((0:Nat):Int)∧((0:Nat):Int)<((1:Nat):Int):=by decide
  have w1:=bI (a:=0) (by omega);simp only[↓zp,zw,↓reduceIte,aA,g0,g1,g12,g13,d1];refine dL [(0,true),(1,true),(2,true),(3,true),(4,true),(5,true),(6,true),(7,true),(8,true)] (fun h'=>h'=h) (by kernel_rfl) (by kernel_rfl) (by kernel_rfl) rfl rfl ?_
  iterate 9 refine Wo_t rfl rfl _ (.inl fun h' hS'=>by simp only[rdOp,↓zp,zw,↓reduceIte,aA,aH,aJ,aK,hS',g0,g1,g12,g13,b1,aF,aQ,hv1,hw1];rfl) ?_
  simp only[↓zp,zw,↓reduceIte,aA,Wo,g0,g1,g12,g13,e2,w1];exact⟨0,by omega,1,by trivial,by trivial,by trivial,by trivial,by trivial,by omega,rfl⟩
 ·have:i=1:=by omega
  subst this;have d1:decide (((1:Nat):Int)<((1:Nat):Int))=false:=by decide
  simp only[↓zp,zw,↓reduceIte,aA,g0,g1,g12,g13,d1];exact⟨rfl,rfl⟩
end
end
section
theorem kq54{k:Nat}:((k:Int)==54)=(k==54):=by rw[aW];simp;omega
theorem kq29{k:Nat}:((k:Int)==29)=(k==29):=by rw[aW];simp;omega
theorem kq6{k:Nat}:((k:Int)==6)=(k==6):=by rw[aW];simp;omega
theorem kq17{k:Nat}:((k:Int)==17)=(k==17):=by rw[aW];simp;omega
theorem kq18{k:Nat}:((k:Int)==18)=(k==18):=by rw[aW];simp;omega
theorem kq2{k:Nat}:((k:Int)==2)=(k==2):=by rw[aW];simp;omega
theorem kq1{k:Nat}:((k:Int)==1)=(k==1):=by rw[aW];simp;omega
theorem kq56{k:Nat}:((k:Int)==56)=(k==56):=by rw[aW];simp;omega
theorem kq30{k:Nat}:((k:Int)==30)=(k==30):=by rw[aW];simp;omega
theorem kq32{k:Nat}:((k:Int)==32)=(k==32):=by rw[aW];simp;omega
theorem kq31{k:Nat}:((k:Int)==31)=(k==31):=by rw[aW];simp;omega
theorem kq35{k:Nat}:((k:Int)==35)=(k==35):=by rw[aW];simp;omega
theorem kq33{k:Nat}:((k:Int)==33)=(k==33):=by rw[aW];simp;omega
theorem kq34{k:Nat}:((k:Int)==34)=(k==34):=by rw[aW];simp;omega
theorem kq50{k:Nat}:((k:Int)==50)=(k==50):=by rw[aW];simp;omega
theorem kq51{k:Nat}:((k:Int)==51)=(k==51):=by rw[aW];simp;omega
theorem kq13{k:Nat}:((k:Int)==13)=(k==13):=by rw[aW];simp;omega
theorem kq52{k:Nat}:((k:Int)==52)=(k==52):=by rw[aW];simp;omega
theorem kq53{k:Nat}:((k:Int)==53)=(k==53):=by rw[aW];simp;omega
theorem kg10{k:Nat}:decide ((k:Int)≥10)=decide (10≤k):=by rw[aW];simp;omega
theorem kl12{k:Nat}:decide ((k:Int)≤12)=decide (k≤12):=by rw[aW];simp;omega
section
variable{h:Heap}{ck:Nat}{vl:Value}{ns:List Nd}
theorem jU{x:Nd}{a:Option Addr}{n c:Nat}{dst:Option Nat}{ρ:Env}{k:Env→Heap→Prop}{tk:Tok (dst,ρ,k)}(H:∀h',Blk h' h.size (bM (x,.slice a n c)) 35→Ext [] h h'→h'.size=h.size+1→k (ρ.put dst undef) h'):
 WstT aE 35 (.pointer (some ⟨h.size,0,none⟩)) (.agg (bM (x,.slice a n c)).toArray) dst ρ (h.push (.cells #[.int .i64 0,.string ⟨#[]⟩,.string ⟨#[]⟩,.float .f64 0,.slice none 0 0,.int .i64 0] 35)) k tk:=by
 refine cM (Blk.newA (h:=h)) (by kernel_rfl) rfl (by simp[bM]) rfl fun h4 hb4 hE4 hs4=> ?_;exact H h4 hb4 ((Ext.push _ _ _).trans_new hE4 fun y hy=> .inl (by simp at hy;omega)) (by rw[hs4];simp)
theorem head_k(H:CK h ck vl ns){n:Nat}(hp:hasK ns n (·==6)∨oneInit ns n):C aE 83 #[.pointer (some ⟨ck,0,none⟩),.int .i64 (n:Int)] h fun e h'=>e=.returned (.bool true)∧Ext [] h h':=by
 obtain⟨x,hx,hk⟩:∃x,ns[n]? =some x∧(x.kind=6∨(fN x.kind=true∧∃i z,x.kids=[i]∧ns[i]? =some z∧z.kids=[])):=by
  rcases hp with⟨y,h1,h2⟩|⟨y,i,z,h1,h2,h3,h4,h5⟩
  ·exact⟨y,h1,.inl (by simpa using h2)⟩
  ·exact⟨y,h1,.inr ⟨h2,i,z,h3,h4,h5⟩⟩
 obtain⟨b,cap,vk,rfl,hn,hrk,hld,hc⟩:=H.at hx;obtain⟨ak,ckp,rfl,hkid⟩:=cV hrk;have b1:(0:Int)≤(n:Int)∧(n:Int)<((ns.length:Nat):Int):=by omega
 refine C_in Tryz.func83 rfl rfl (by kernel_rfl) (aG rfl) ?_;simp only[↓zp,zw,↓reduceIte,aA,bE H.blk,b1,aF,hld];refine jU fun h4 hb4 E4 hs4=> ?_;have H4:=H.ext0 E4;have c0:bG h4 h.size 0=some (.int .i64 (x.kind:Int)):=by rw[bE hb4];rfl
 have c4:bG h4 h.size 4=some (.slice ak x.kids.length ckp):=by rw[bE hb4];rfl
 rcases hk with hk|⟨hk,i,z,hk1,hz,hk2⟩
 ·rw[hk]at c0;simp only[↓zp,zw,↓reduceIte,aA,c0,show(((6:Nat):Int)==6)=true by decide];exact⟨by trivial,E4⟩
 ·obtain⟨b',cap',vz,e2,hi,hrz,_,hcz⟩:=H.at hz;simp only[Value.slice.injEq,Option.some.injEq,Addr.mk.injEq,true_and,and_true]at e2;obtain⟨rfl,rfl⟩:=e2;have z4:bG h4 b (i*6+4)=some vz:=E4.cell (hcz 4 (by omega)) (by simp);have b2:(0:Int)≤(i:Int)∧(i:Int)<((ns.length:Nat):Int):=by omega
  obtain⟨bk,rfl,hck⟩:=hkid 0 (by rw[hk1];simp)
  have hck0:bG h4 bk 0=some (.int .i64 (i:Int)):=by
   have:x.kids[0]'(by rw[hk1];simp)=i:=by simp[hk1]
   rw[this]at hck;exact E4.cell (by simpa using hck) (by simp)
  rw[show x.kids.length=1 by rw[hk1];rfl]at c4;obtain⟨az,cz,rfl,_⟩:=cV hrz;rw[show z.kids.length=0 by rw[hk2];rfl]at z4;have b3:(0:Int)≤0∧(0:Int)<((1:Nat):Int):=by decide
  have hkk:x.kind=33∨x.kind=34:=by simpa[fN]using hk
  have e1:(((1:Nat):Int)==1)=true:=by decide
  have e0:(((0:Nat):Int)==0)=true:=by decide
  rcases hkk with e|e<;>rw[e]at c0
  ·simp only[↓zp,zw,↓reduceIte,aA,c0,show(((33:Nat):Int)==6)=false by decide,show(((33:Nat):Int)==33)=true by decide];refine bR 13 (by kernel_rfl) (by kernel_rfl) (by kernel_rfl) ?_;simp only[↓zp,zw,↓reduceIte,aA,c0,c4,z4,hck0,bE H4.blk,b2,b3,e1,e0,aF,aN,aQ];exact⟨by trivial,E4⟩
  ·simp only[↓zp,zw,↓reduceIte,aA,c0,show(((34:Nat):Int)==6)=false by decide,show(((34:Nat):Int)==33)=false by decide,show(((34:Nat):Int)==34)=true by decide];refine bR 13 (by kernel_rfl) (by kernel_rfl) (by kernel_rfl) ?_;simp only[↓zp,zw,↓reduceIte,aA,c0,c4,z4,hck0,bE H4.blk,b2,b3,e1,e0,aF,aN,aQ];exact⟨by trivial,E4⟩
theorem fit_101(H:CK h ck vl ns){n:Nat}{x:Nd}(hx:ns[n]? =some x):C aE 53 #[.pointer (some ⟨ck,0,none⟩),.int .u8 101,.int .i64 (n:Int)] h (Ret (.bool (cG x.kind)) h):=by
 obtain⟨b,cap,vk,rfl,hn,_,_,hc⟩:=H.at hx;have b1:(0:Int)≤(n:Int)∧(n:Int)<((ns.length:Nat):Int):=by omega
 have c0:bG h b (n*6)=some (.int .i64 (x.kind:Int)):=hc 0 (by omega);clear hc hx;generalize x.kind=k at*;refine C_in Tryz.func53 rfl rfl (by kernel_rfl) (aG rfl) ?_
 cases hE:cG k<;>(
  simp only[↓zp,zw,↓reduceIte,aA,bE H.blk,b1,aF,c0,Int.reduceBEq,kq54,hE]
  first|exact⟨rfl,rfl⟩|(refine bK (oT k) ?_;simp only[↓zp,zw,↓reduceIte,aA,kq54,hE];first|exact⟨rfl,rfl⟩))
theorem fit_97(H:CK h ck vl ns){n:Nat}{x:Nd}(hx:ns[n]? =some x):C aE 53 #[.pointer (some ⟨ck,0,none⟩),.int .u8 97,.int .i64 (n:Int)] h (Ret (.bool (argK x.kind)) h):=by
 obtain⟨b,cap,vk,rfl,hn,_,_,hc⟩:=H.at hx;have b1:(0:Int)≤(n:Int)∧(n:Int)<((ns.length:Nat):Int):=by omega
 have c0:bG h b (n*6)=some (.int .i64 (x.kind:Int)):=hc 0 (by omega);clear hc hx;generalize x.kind=k at*;unfold argK;refine C_in Tryz.func53 rfl rfl (by kernel_rfl) (aG rfl) ?_
 cases h29:(k==29)<;>cases hE:cG k<;>(
  simp only[↓zp,zw,↓reduceIte,aA,bE H.blk,b1,aF,c0,Int.reduceBEq,kq54,kq29,h29,hE]
  first|exact⟨rfl,rfl⟩|(refine bK (oT k) ?_;simp only[↓zp,zw,↓reduceIte,aA,kq54,kq29,h29,hE];first|exact⟨rfl,rfl⟩))
theorem fit_115(H:CK h ck vl ns){n:Nat}{x:Nd}(hx:ns[n]? =some x):C aE 53 #[.pointer (some ⟨ck,0,none⟩),.int .u8 115,.int .i64 (n:Int)] h (Ret (.bool (iN x.kind)) h):=by
 obtain⟨b,cap,vk,rfl,hn,_,_,hc⟩:=H.at hx;have b1:(0:Int)≤(n:Int)∧(n:Int)<((ns.length:Nat):Int):=by omega
 have c0:bG h b (n*6)=some (.int .i64 (x.kind:Int)):=hc 0 (by omega);clear hc hx;generalize x.kind=k at*;refine C_in Tryz.func53 rfl rfl (by kernel_rfl) (aG rfl) ?_;simp only[↓zp,zw,↓reduceIte,aA,bE H.blk,b1,aF,c0,Int.reduceBEq,kq54]
 first|exact⟨rfl,rfl⟩|(refine bK (stmt_k k) ?_;simp only[↓zp,zw,↓reduceIte,aA,kq54];first|exact⟨rfl,rfl⟩)
theorem fit_116(H:CK h ck vl ns){n:Nat}{x:Nd}(hx:ns[n]? =some x):C aE 53 #[.pointer (some ⟨ck,0,none⟩),.int .u8 116,.int .i64 (n:Int)] h (Ret (.bool (tgtK x.kind)) h):=by
 obtain⟨b,cap,vk,rfl,hn,_,_,hc⟩:=H.at hx;have b1:(0:Int)≤(n:Int)∧(n:Int)<((ns.length:Nat):Int):=by omega
 have c0:bG h b (n*6)=some (.int .i64 (x.kind:Int)):=hc 0 (by omega);clear hc hx;generalize x.kind=k at*;unfold tgtK;refine C_in Tryz.func53 rfl rfl (by kernel_rfl) (aG rfl) ?_
 cases h6:(k==6)<;>cases h17:(k==17)<;>cases h18:(k==18)<;>(
  simp only[↓zp,zw,↓reduceIte,aA,bE H.blk,b1,aF,c0,Int.reduceBEq,kq54,kq6,kq17,kq18,h6,h17,h18]
  exact⟨rfl,rfl⟩)
theorem fit_107(H:CK h ck vl ns){n:Nat}{x:Nd}(hx:ns[n]? =some x):C aE 53 #[.pointer (some ⟨ck,0,none⟩),.int .u8 107,.int .i64 (n:Int)] h (Ret (.bool (keyK x.kind)) h):=by
 obtain⟨b,cap,vk,rfl,hn,_,_,hc⟩:=H.at hx;have b1:(0:Int)≤(n:Int)∧(n:Int)<((ns.length:Nat):Int):=by omega
 have c0:bG h b (n*6)=some (.int .i64 (x.kind:Int)):=hc 0 (by omega);clear hc hx;generalize x.kind=k at*;unfold keyK;refine C_in Tryz.func53 rfl rfl (by kernel_rfl) (aG rfl) ?_
 cases h2:(k==2)<;>cases h1:(k==1)<;>cases h56:(k==56)<;>(
  simp only[↓zp,zw,↓reduceIte,aA,bE H.blk,b1,aF,c0,Int.reduceBEq,kq54,kq1,kq2,kq56,h2,h1,h56]
  exact⟨rfl,rfl⟩)
theorem fit_112(H:CK h ck vl ns){n:Nat}{x:Nd}(hx:ns[n]? =some x):C aE 53 #[.pointer (some ⟨ck,0,none⟩),.int .u8 112,.int .i64 (n:Int)] h (Ret (.bool (lH x.kind)) h):=by
 obtain⟨b,cap,vk,rfl,hn,_,_,hc⟩:=H.at hx;have b1:(0:Int)≤(n:Int)∧(n:Int)<((ns.length:Nat):Int):=by omega
 have c0:bG h b (n*6)=some (.int .i64 (x.kind:Int)):=hc 0 (by omega);clear hc hx;generalize x.kind=k at*;unfold lH;refine C_in Tryz.func53 rfl rfl (by kernel_rfl) (aG rfl) ?_
 cases hg:decide (10≤k)<;>cases hl:decide (k≤12)<;>(
  simp only[↓zp,zw,↓reduceIte,aA,bE H.blk,b1,aF,c0,Int.reduceBEq,kq54,kg10,kl12,hg,hl]
  exact⟨rfl,rfl⟩)
theorem fit_80(H:CK h ck vl ns){n:Nat}{x:Nd}(hx:ns[n]? =some x):C aE 53 #[.pointer (some ⟨ck,0,none⟩),.int .u8 80,.int .i64 (n:Int)] h (Ret (.bool (x.kind==30)) h):=by
 obtain⟨b,cap,vk,rfl,hn,_,_,hc⟩:=H.at hx;have b1:(0:Int)≤(n:Int)∧(n:Int)<((ns.length:Nat):Int):=by omega
 have c0:bG h b (n*6)=some (.int .i64 (x.kind:Int)):=hc 0 (by omega);clear hc hx;generalize x.kind=k at*;refine C_in Tryz.func53 rfl rfl (by kernel_rfl) (aG rfl) ?_
 cases h30:(k==30)<;>(
  simp only[↓zp,zw,↓reduceIte,aA,bE H.blk,b1,aF,c0,Int.reduceBEq,kq54,kq30,h30]
  exact⟨rfl,rfl⟩)
theorem fit_66(H:CK h ck vl ns){n:Nat}{x:Nd}(hx:ns[n]? =some x):C aE 53 #[.pointer (some ⟨ck,0,none⟩),.int .u8 66,.int .i64 (n:Int)] h (Ret (.bool (x.kind==32)) h):=by
 obtain⟨b,cap,vk,rfl,hn,_,_,hc⟩:=H.at hx;have b1:(0:Int)≤(n:Int)∧(n:Int)<((ns.length:Nat):Int):=by omega
 have c0:bG h b (n*6)=some (.int .i64 (x.kind:Int)):=hc 0 (by omega);clear hc hx;generalize x.kind=k at*;refine C_in Tryz.func53 rfl rfl (by kernel_rfl) (aG rfl) ?_
 cases h32:(k==32)<;>(
  simp only[↓zp,zw,↓reduceIte,aA,bE H.blk,b1,aF,c0,Int.reduceBEq,kq54,kq32,h32]
  exact⟨rfl,rfl⟩)
theorem fit_65(H:CK h ck vl ns){n:Nat}{x:Nd}(hx:ns[n]? =some x):C aE 53 #[.pointer (some ⟨ck,0,none⟩),.int .u8 65,.int .i64 (n:Int)] h (Ret (.bool (x.kind==32||cG x.kind)) h):=by
 obtain⟨b,cap,vk,rfl,hn,_,_,hc⟩:=H.at hx;have b1:(0:Int)≤(n:Int)∧(n:Int)<((ns.length:Nat):Int):=by omega
 have c0:bG h b (n*6)=some (.int .i64 (x.kind:Int)):=hc 0 (by omega);clear hc hx;generalize x.kind=k at*;refine C_in Tryz.func53 rfl rfl (by kernel_rfl) (aG rfl) ?_
 cases h32:(k==32)<;>cases hE:cG k<;>(
  simp only[↓zp,zw,↓reduceIte,aA,bE H.blk,b1,aF,c0,Int.reduceBEq,kq54,kq32,h32,hE]
  first|exact⟨rfl,rfl⟩|(refine bK (oT k) ?_;simp only[↓zp,zw,↓reduceIte,aA,kq54,kq32,h32,hE];first|exact⟨rfl,rfl⟩))
theorem fit_78(H:CK h ck vl ns){n:Nat}{x:Nd}(hx:ns[n]? =some x):C aE 53 #[.pointer (some ⟨ck,0,none⟩),.int .u8 78,.int .i64 (n:Int)] h (Ret (.bool (x.kind==32||x.kind==54)) h):=by
 obtain⟨b,cap,vk,rfl,hn,_,_,hc⟩:=H.at hx;have b1:(0:Int)≤(n:Int)∧(n:Int)<((ns.length:Nat):Int):=by omega
 have c0:bG h b (n*6)=some (.int .i64 (x.kind:Int)):=hc 0 (by omega);clear hc hx;generalize x.kind=k at*;refine C_in Tryz.func53 rfl rfl (by kernel_rfl) (aG rfl) ?_
 cases h32:(k==32)<;>cases h54:(k==54)<;>(
  simp only[↓zp,zw,↓reduceIte,aA,bE H.blk,b1,aF,c0,Int.reduceBEq,kq54,kq32,kq54,h32,h54]
  exact⟨rfl,rfl⟩)
theorem fit_110(H:CK h ck vl ns){n:Nat}{x:Nd}(hx:ns[n]? =some x):C aE 53 #[.pointer (some ⟨ck,0,none⟩),.int .u8 110,.int .i64 (n:Int)] h (Ret (.bool (x.kind==6)) h):=by
 obtain⟨b,cap,vk,rfl,hn,_,_,hc⟩:=H.at hx;have b1:(0:Int)≤(n:Int)∧(n:Int)<((ns.length:Nat):Int):=by omega
 have c0:bG h b (n*6)=some (.int .i64 (x.kind:Int)):=hc 0 (by omega);clear hc hx;generalize x.kind=k at*;refine C_in Tryz.func53 rfl rfl (by kernel_rfl) (aG rfl) ?_
 cases h6:(k==6)<;>(
  simp only[↓zp,zw,↓reduceIte,aA,bE H.blk,b1,aF,c0,Int.reduceBEq,kq54,kq6,h6]
  exact⟨rfl,rfl⟩)
theorem fit_114(H:CK h ck vl ns){n:Nat}{x:Nd}(hx:ns[n]? =some x):C aE 53 #[.pointer (some ⟨ck,0,none⟩),.int .u8 114,.int .i64 (n:Int)] h (Ret (.bool (x.kind==31)) h):=by
 obtain⟨b,cap,vk,rfl,hn,_,_,hc⟩:=H.at hx;have b1:(0:Int)≤(n:Int)∧(n:Int)<((ns.length:Nat):Int):=by omega
 have c0:bG h b (n*6)=some (.int .i64 (x.kind:Int)):=hc 0 (by omega);clear hc hx;generalize x.kind=k at*;refine C_in Tryz.func53 rfl rfl (by kernel_rfl) (aG rfl) ?_
 cases h31:(k==31)<;>(
  simp only[↓zp,zw,↓reduceIte,aA,bE H.blk,b1,aF,c0,Int.reduceBEq,kq54,kq31,h31]
  exact⟨rfl,rfl⟩)
theorem fit_105(H:CK h ck vl ns){n:Nat}{x:Nd}(hx:ns[n]? =some x):C aE 53 #[.pointer (some ⟨ck,0,none⟩),.int .u8 105,.int .i64 (n:Int)] h (Ret (.bool (x.kind==35)) h):=by
 obtain⟨b,cap,vk,rfl,hn,_,_,hc⟩:=H.at hx;have b1:(0:Int)≤(n:Int)∧(n:Int)<((ns.length:Nat):Int):=by omega
 have c0:bG h b (n*6)=some (.int .i64 (x.kind:Int)):=hc 0 (by omega);clear hc hx;generalize x.kind=k at*;refine C_in Tryz.func53 rfl rfl (by kernel_rfl) (aG rfl) ?_
 cases h35:(k==35)<;>(
  simp only[↓zp,zw,↓reduceIte,aA,bE H.blk,b1,aF,c0,Int.reduceBEq,kq54,kq35,h35]
  exact⟨rfl,rfl⟩)
theorem fit_102(H:CK h ck vl ns){n:Nat}{x:Nd}(hx:ns[n]? =some x):C aE 53 #[.pointer (some ⟨ck,0,none⟩),.int .u8 102,.int .i64 (n:Int)] h (Ret (.bool (fN x.kind||midK x.kind)) h):=by
 obtain⟨b,cap,vk,rfl,hn,_,_,hc⟩:=H.at hx;have b1:(0:Int)≤(n:Int)∧(n:Int)<((ns.length:Nat):Int):=by omega
 have c0:bG h b (n*6)=some (.int .i64 (x.kind:Int)):=hc 0 (by omega);clear hc hx;generalize x.kind=k at*;unfold fN midK;refine C_in Tryz.func53 rfl rfl (by kernel_rfl) (aG rfl) ?_
 cases h33:(k==33)<;>cases h34:(k==34)<;>cases h54:(k==54)<;>cases hE:cG k<;>(
  simp only[↓zp,zw,↓reduceIte,aA,bE H.blk,b1,aF,c0,Int.reduceBEq,kq54,kq33,kq34,kq54,h33,h34,h54,hE]
  first|exact⟨rfl,rfl⟩|(refine bK (oT k) ?_;simp only[↓zp,zw,↓reduceIte,aA,kq33,kq34,kq54,h33,h34,h54,hE];first|exact⟨rfl,rfl⟩))
theorem fit_109(H:CK h ck vl ns){n:Nat}{x:Nd}(hx:ns[n]? =some x):C aE 53 #[.pointer (some ⟨ck,0,none⟩),.int .u8 109,.int .i64 (n:Int)] h (Ret (.bool (midK x.kind)) h):=by
 obtain⟨b,cap,vk,rfl,hn,_,_,hc⟩:=H.at hx;have b1:(0:Int)≤(n:Int)∧(n:Int)<((ns.length:Nat):Int):=by omega
 have c0:bG h b (n*6)=some (.int .i64 (x.kind:Int)):=hc 0 (by omega);clear hc hx;generalize x.kind=k at*;unfold midK;refine C_in Tryz.func53 rfl rfl (by kernel_rfl) (aG rfl) ?_
 cases h54:(k==54)<;>cases hE:cG k<;>(
  simp only[↓zp,zw,↓reduceIte,aA,bE H.blk,b1,aF,c0,Int.reduceBEq,kq54,kq54,h54,hE]
  first|exact⟨rfl,rfl⟩|(refine bK (oT k) ?_;simp only[↓zp,zw,↓reduceIte,aA,kq54,h54,hE];first|exact⟨rfl,rfl⟩))
theorem fit_99(H:CK h ck vl ns){n:Nat}{x:Nd}(hx:ns[n]? =some x):C aE 53 #[.pointer (some ⟨ck,0,none⟩),.int .u8 99,.int .i64 (n:Int)] h (Ret (.bool (nB x.kind)) h):=by
 obtain⟨b,cap,vk,rfl,hn,_,_,hc⟩:=H.at hx;have b1:(0:Int)≤(n:Int)∧(n:Int)<((ns.length:Nat):Int):=by omega
 have c0:bG h b (n*6)=some (.int .i64 (x.kind:Int)):=hc 0 (by omega);clear hc hx;generalize x.kind=k at*;unfold nB;refine C_in Tryz.func53 rfl rfl (by kernel_rfl) (aG rfl) ?_
 cases h50:(k==50)<;>cases h51:(k==51)<;>(
  simp only[↓zp,zw,↓reduceIte,aA,bE H.blk,b1,aF,c0,Int.reduceBEq,kq54,kq50,kq51,h50,h51]
  exact⟨rfl,rfl⟩)
theorem rU(H:CK h ck vl ns){c:UInt8}{n:Nat}{v:Bool}(hf:FitR ns c n v):C aE 53 #[.pointer (some ⟨ck,0,none⟩),.int .u8 (c.toNat:Int),.int .i64 (n:Int)] h fun e h'=>e=.returned (.bool v)∧Ext [] h h':=by
 have up:∀{u:Nat} {w:Bool},C aE 53 #[.pointer (some ⟨ck,0,none⟩),.int .u8 (u:Int),.int .i64 (n:Int)] h (Ret (.bool w) h)→C aE 53 #[.pointer (some ⟨ck,0,none⟩),.int .u8 (u:Int),.int .i64 (n:Int)] h fun e h'=>e=.returned (.bool w)∧Ext [] h h':=fun hc=>hc.mono (by rintro _ _ ⟨rfl,rfl⟩;exact⟨rfl,Ext.refl _ _⟩)
 cases hf with
 |kind x hx hv=>
  unfold fitK at hv;by_cases hc:c=101
  ·rw[if_pos hc]at hv;subst hc;cases hv;exact up (fit_101 H hx)
  rw[if_neg hc]at hv;by_cases hc:c=97
  ·rw[if_pos hc]at hv;subst hc;cases hv;exact up (fit_97 H hx)
  rw[if_neg hc]at hv;by_cases hc:c=115
  ·rw[if_pos hc]at hv;subst hc;cases hv;exact up (fit_115 H hx)
  rw[if_neg hc]at hv;by_cases hc:c=116
  ·rw[if_pos hc]at hv;subst hc;cases hv;exact up (fit_116 H hx)
  rw[if_neg hc]at hv;by_cases hc:c=107
  ·rw[if_pos hc]at hv;subst hc;cases hv;exact up (fit_107 H hx)
  rw[if_neg hc]at hv;by_cases hc:c=112
  ·rw[if_pos hc]at hv;subst hc;cases hv;exact up (fit_112 H hx)
  rw[if_neg hc]at hv;by_cases hc:c=80
  ·rw[if_pos hc]at hv;subst hc;cases hv;exact up (fit_80 H hx)
  rw[if_neg hc]at hv;by_cases hc:c=66
  ·rw[if_pos hc]at hv;subst hc;cases hv;exact up (fit_66 H hx)
  rw[if_neg hc]at hv;by_cases hc:c=65
  ·rw[if_pos hc]at hv;subst hc;cases hv;exact up (fit_65 H hx)
  rw[if_neg hc]at hv;by_cases hc:c=78
  ·rw[if_pos hc]at hv;subst hc;cases hv;exact up (fit_78 H hx)
  rw[if_neg hc]at hv;by_cases hc:c=110
  ·rw[if_pos hc]at hv;subst hc;cases hv;exact up (fit_110 H hx)
  rw[if_neg hc]at hv;by_cases hc:c=114
  ·rw[if_pos hc]at hv;subst hc;cases hv;exact up (fit_114 H hx)
  rw[if_neg hc]at hv;by_cases hc:c=105
  ·rw[if_pos hc]at hv;subst hc;cases hv;exact up (fit_105 H hx)
  rw[if_neg hc]at hv;by_cases hc:c=102
  ·rw[if_pos hc]at hv;subst hc;cases hv;exact up (fit_102 H hx)
  rw[if_neg hc]at hv;by_cases hc:c=109
  ·rw[if_pos hc]at hv;subst hc;cases hv;exact up (fit_109 H hx)
  rw[if_neg hc]at hv;by_cases hc:c=99
  ·rw[if_pos hc]at hv;subst hc;cases hv;exact up (fit_99 H hx)
  rw[if_neg hc]at hv
  cases hv
 |body hb=>
  obtain⟨x,hx⟩:∃x,ns[n]? =some x:=⟨_,aS hb.lt⟩;obtain⟨b,cap,vk,rfl,hn,_,_,hc⟩:=H.at hx;have b1:(0:Int)≤(n:Int)∧(n:Int)<((ns.length:Nat):Int):=by omega
  have c0:bG h b (n*6)=some (.int .i64 (x.kind:Int)):=hc 0 (by omega);refine up ?_;refine C_in Tryz.func53 rfl rfl (by kernel_rfl) (aG rfl) ?_;simp only[↓zp,zw,↓reduceIte,aA,bE H.blk,b1,aF,c0,Int.reduceBEq,kq54,show(98:UInt8).toNat=98 from rfl,show((98:Nat):Int)=98 from rfl];refine bK (body_k H hb) ?_;simp only[↓zp,zw,↓reduceIte,aA]
  exact⟨rfl,rfl⟩
 |get hp=>
  obtain⟨y,p,q,z,hx,hk,hyk,hz,hq⟩:=hp;have hF:C aE 81 #[.pointer (some ⟨ck,0,none⟩),.int .i64 (n:Int)] h fun e h'=> ∃v,e=.returned v∧Row h' v 3 1 (bL [])∧Ext [] h h':=xY H hx hyk hz (ks:=[]) (by rw[hq]) (by rw[hq];intro j hj;cases hj) (by simp);obtain⟨b,cap,vk,rfl,hn,_,_,hc⟩:=H.at hx;have b1:(0:Int)≤(n:Int)∧(n:Int)<((ns.length:Nat):Int):=by omega
  have c0:bG h b (n*6)=some (.int .i64 (y.kind:Int)):=hc 0 (by omega);rw[hk]at c0;refine C_in Tryz.func53 rfl rfl (by kernel_rfl) (aG rfl) ?_;simp only[↓zp,zw,↓reduceIte,aA,bE H.blk,b1,aF,c0,Int.reduceBEq,show(71:UInt8).toNat=71 from rfl,show((71:Nat):Int)=71 from rfl,show((13:Nat):Int)=13 from rfl];refine bH hF ?_;rintro _ h1 ⟨v,rfl,hr,hE⟩;obtain⟨a,cp,rfl,_⟩:=cV hr;simp only[↓zp,zw,↓reduceIte,aA,aD,show((0:Nat):Int)=0 from rfl,Int.reduceBEq]
  exact⟨by trivial,hE⟩
 |set hp=>
  obtain⟨y,p,q,z,hx,hk,hyk,hz,a,hq,w,hw,hw6⟩:=hp;have hw6:w.kind=6:=by simpa using hw6
  have hF:C aE 81 #[.pointer (some ⟨ck,0,none⟩),.int .i64 (n:Int)] h fun e h'=> ∃v,e=.returned v∧Row h' v 3 1 (bL [6])∧Ext [] h h':=xY H hx hyk hz (ks:=[6]) (by rw[hq];rfl) (by
   rw[hq];intro j hj;have:j=0:=by simpa using hj
   subst this
   exact⟨w,hw,by rw[hw6];rfl⟩) (by simp)
  obtain⟨b,cap,vk,rfl,hn,_,_,hc⟩:=H.at hx;have b1:(0:Int)≤(n:Int)∧(n:Int)<((ns.length:Nat):Int):=by omega
  have c0:bG h b (n*6)=some (.int .i64 (y.kind:Int)):=hc 0 (by omega);rw[hk]at c0;refine C_in Tryz.func53 rfl rfl (by kernel_rfl) (aG rfl) ?_;simp only[↓zp,zw,↓reduceIte,aA,bE H.blk,b1,aF,c0,Int.reduceBEq,show(83:UInt8).toNat=83 from rfl,show((83:Nat):Int)=83 from rfl,show((13:Nat):Int)=13 from rfl];refine bH hF ?_;rintro _ h1 ⟨v,rfl,hr,hE⟩;simp only[↓zp,zw,↓reduceIte,aA];refine dQ (vals:=bL [6]) (e:=3) Tryz.underlying33 (by kernel_rfl) rfl rfl rfl (by omega) (by omega) fun v6 h6 hr6 hb6 hE6 hs6=> ?_;simp only[↓zp,zw,↓reduceIte,aA];refine bK (ints_eq _ _ 6 (hr.ext hE6 (by simp)) hr6) ?_;simp only[↓zp,zw,↓reduceIte,aA]
  exact⟨by trivial,hE.trans hE6⟩
 |name hp=>
  have hF:=head_k H (.inl hp);obtain⟨x,hx⟩:∃x,ns[n]? =some x:=⟨_,aS hp.lt⟩;obtain⟨b,cap,vk,rfl,hn,_,_,hc⟩:=H.at hx;have b1:(0:Int)≤(n:Int)∧(n:Int)<((ns.length:Nat):Int):=by omega
  have c0:bG h b (n*6)=some (.int .i64 (x.kind:Int)):=hc 0 (by omega);refine C_in Tryz.func53 rfl rfl (by kernel_rfl) (aG rfl) ?_;simp only[↓zp,zw,↓reduceIte,aA,bE H.blk,b1,aF,c0,Int.reduceBEq,kq54,show(104:UInt8).toNat=104 from rfl,show((104:Nat):Int)=104 from rfl];refine bH hF ?_;rintro _ h1 ⟨rfl,hE⟩;simp only[↓zp,zw,↓reduceIte,aA]
  exact⟨by trivial,hE⟩
 |decl hp=>
  have hF:=head_k H (.inr hp);obtain⟨x,hx⟩:∃x,ns[n]? =some x:=⟨_,aS hp.lt⟩;obtain⟨b,cap,vk,rfl,hn,_,_,hc⟩:=H.at hx;have b1:(0:Int)≤(n:Int)∧(n:Int)<((ns.length:Nat):Int):=by omega
  have c0:bG h b (n*6)=some (.int .i64 (x.kind:Int)):=hc 0 (by omega);refine C_in Tryz.func53 rfl rfl (by kernel_rfl) (aG rfl) ?_;simp only[↓zp,zw,↓reduceIte,aA,bE H.blk,b1,aF,c0,Int.reduceBEq,kq54,show(104:UInt8).toNat=104 from rfl,show((104:Nat):Int)=104 from rfl];refine bH hF ?_;rintro _ h1 ⟨rfl,hE⟩;simp only[↓zp,zw,↓reduceIte,aA];exact⟨by trivial,hE⟩
end
end
section
def Kd(h:Heap)(a:Option Addr)(c:Nat)(l:List Nat):Prop:=l.length≤c∧(l=[]∨∃b o,a=some ⟨b,o,none⟩∧∀j (hj:j<l.length),bG h b (o+j)=some (.int .i64 ((l[j]'hj:Nat):Int)))
theorem Kd.ext0{h h':Heap}{a:Option Addr}{c:Nat}{l:List Nat}(H:Kd h a c l)(hE:Ext [] h h'):Kd h' a c l:=by
 obtain⟨h1,h2⟩:=H;refine⟨h1,h2.imp id fun⟨b,o,e,h3⟩=>⟨b,o,e,fun j hj=>hE.cell (h3 j hj) (by simp)⟩⟩
theorem Kd.of{h:Heap}{v:Value}{l:List Nat}(hr:Row h v 3 1 (bL l)):∃a c,v=.slice a l.length c∧Kd h a c l:=by
 rcases hr with⟨rfl,e⟩|⟨b,n,cap,cs,rfl,hb,h1,h2,h3,h4⟩
 ·have:l=[]:=by simpa[bL]using e
  subst this;exact⟨none,0,rfl,by simp,.inl rfl⟩
 ·rw[cW,aP]at h2;subst h2;refine⟨_,cap,rfl,h1,.inr ⟨b,0,rfl,fun j hj=> ?_⟩⟩;rw[aR,Row.cell (n:=l.length) (cap:=cap) hb h4 (by rw[cW];exact hj)];simp[bL,hj]
theorem Kd.cons{h:Heap}{a:Option Addr}{c n:Nat}{l:List Nat}(H:Kd h a c (n::l)):∃b o,a=some ⟨b,o,none⟩∧bG h b o=some (.int .i64 (n:Int))∧∃a',iM aE 33 (.slice a (l.length+1) c) (some (.int .i64 1)) none=some (.slice a' l.length (c-1))∧Kd h a' (c-1) l:=by
 obtain⟨h1,h2⟩:=H;rcases h2 with h2|⟨b,o,rfl,h2⟩
 ·cases h2
 ·simp only[aB]at h1;refine⟨b,o,rfl,h2 0 (by simp),some ⟨b,if c=1 then o else o+1,none⟩,?_,by omega,?_⟩
  ·have hs:szOf aE 3=some (false,1):=by kernel_rfl
   have h3:(0:Int)≤1∧(1:Int)≤((l.length+1:Nat):Int):=by omega
   unfold iM;simp only[Tryz.underlying33,hs,r_sb h3,Option.map_some,aX];simp
  ·cases l with
   |nil=>exact .inl rfl
   |cons m l=>
    simp only[aB]at h1;refine .inr ⟨b,_,rfl,fun j hj=> ?_⟩;rw[if_neg (by omega),Nat.add_assoc,Nat.add_comm 1 j,h2 (j+1) (by simp at hj⊢;omega)]
    rfl
section
variable{h:Heap}{ck:Nat}{vl:Value}{ns:List Nd}
theorem mat_k(H:CK h ck vl ns){r:List UInt8}{l:List Nat}(hM:MatR ns r l)(hr84:r≠[84]){v:Value}(hv:Row h v 3 1 (bL l)):C aE 26 #[.pointer (some ⟨ck,0,none⟩),v,.string ⟨r.toArray⟩] h fun e h'=>e=.returned (.bool true)∧Ext [] h h':=by
 obtain⟨a,c,rfl,hk⟩:=Kd.of hv;have e84:(r==[84])=false:=by simpa using hr84
 refine C_in Tryz.func26 rfl rfl (by kernel_rfl) (aG rfl) ?_;simp only[↓zp,zw,↓reduceIte,aA,e84];refine⟨fun m ρ h'=> ∃(a:Option Addr) (c:Nat) (r:List UInt8) (l:List Nat),ρ 0=.pointer (some ⟨ck,0,none⟩)∧ρ 1=.slice a l.length c∧ρ 2=.string ⟨r.toArray⟩∧Kd h' a c l∧MatR ns r l∧Ext [] h h'∧m=r.length,r.length,⟨a,c,r,l,by simp only[↓zp,zw,↓reduceIte,aA],by simp only[↓zp,zw,↓reduceIte,aA],by simp only[↓zp,zw,↓reduceIte,aA],hk,hM,Ext.refl _ _,rfl⟩,?_⟩;clear hk hM hv hr84 e84;rintro m ρ h1 ⟨a,c,r,l,g0,g1,g2,hk,hM,hE,hm⟩;have H1:=H.ext0 hE
 cases hM with
 |nil=>
  have d0:decide (((0:Nat):Int)>0)=false:=by decide
  have e0:(((0:Nat):Int)==0)=true:=by decide
  simp only[↓zp,zw,↓reduceIte,aA,g0,g1,g2,aD,d0,e0]
  exact⟨by trivial,hE⟩
 | @one ch r' n l' hp hf hM'=>
   have dl:decide (((l'.length+1:Nat):Int)>0)=true:=bC (by omega);have i0:(0:Int)≤0:=by omega
   have b2:(0:Int)≤0∧(0:Int)<((l'.length+1:Nat):Int):=by omega
   obtain⟨b,o,rfl,hc,a',hs,hk'⟩:=hk.cons
   have hz:r'=[]∨∃d r'',r'=d::r''∧((d.toNat:Int)==42)=false∧((d.toNat:Int)==63)=false:=by
    cases r' with
    |nil=>exact .inl rfl
    |cons d r''=>
     simp only[plainC,Bool.and_eq_true,bne_iff_ne,ne_eq]at hp;refine .inr ⟨d,r'',rfl,?_,?_⟩
     ·rw[show(42:Int)=((42:Nat):Int)from rfl,eA (by omega)];simpa using hp.1
     ·rw[show(63:Int)=((63:Nat):Int)from rfl,eA (by omega)];simpa using hp.2
   have e0:(([]:List UInt8)==[])=true:=rfl;rcases hz with rfl|⟨d,r'',rfl,q1,q2⟩
   ·have d0:decide (((1:Nat):Int)>0)=true:=by decide
    have i1:(0:Nat)<1:=by omega
    have b1:(0:Int)≤1∧(1:Int)≤((1:Nat):Int):=by omega
    simp only[↓zp,zw,↓reduceIte,aA,g0,g1,g2,aB,aD,d0,i0,i1,b1,aN,aX,List.getElem_cons_zero,List.take_length,List.take_succ_cons,List.drop_succ_cons,List.drop_zero,List.take_zero,List.take_nil,e0,Int.reduceBEq,dl,b2,hc,aQ];refine bH (rU H1 hf) ?_;rintro _ h2 ⟨rfl,hE2⟩;simp only[↓zp,zw,↓reduceIte,aA,hs,g0,g1,g2,aB];exact⟨_,by rw[hm];exact Nat.lt_succ_self _,a',c-1,_,l',by trivial,by trivial,by trivial,hk'.ext0 hE2,hM',hE.trans hE2,rfl⟩
   ·have e1:((d::r'':List UInt8)==[])=false:=rfl;have i2:(0:Nat)<r''.length+1:=by omega
    have d0:decide (((r''.length+1+1:Nat):Int)>0)=true:=bC (by omega);have i1:(0:Nat)<r''.length+1+1:=by omega
    have b1:(0:Int)≤1∧(1:Int)≤((r''.length+1+1:Nat):Int):=by omega
    simp only[↓zp,zw,↓reduceIte,aA,g0,g1,g2,aB,d0,i0,i1,b1,aN,aX,List.getElem_cons_zero,List.take_length,List.take_succ_cons,List.drop_succ_cons,List.drop_zero,e1,i2,q1,q2,Int.reduceBEq,dl,b2,hc,aQ];refine bH (rU H1 hf) ?_;rintro _ h2 ⟨rfl,hE2⟩;simp only[↓zp,zw,↓reduceIte,aA,hs,g0,g1,g2,aB]
    exact⟨_,by rw[hm];exact Nat.lt_succ_self _,a',c-1,_,l',by trivial,by trivial,by trivial,hk'.ext0 hE2,hM',hE.trans hE2,rfl⟩
 | @star ch r' l1 l' hf hs hM'=>
   have d0:decide (((r'.length+1+1:Nat):Int)>0)=true:=bC (by omega);have i0:(0:Int)≤0:=by omega
   have i1:(0:Nat)<r'.length+1+1:=by omega
   have i2:(0:Nat)<r'.length+1:=by omega
   have b1:(0:Int)≤1∧(1:Int)≤((r'.length+1+1:Nat):Int):=by omega
   have b3:(0:Int)≤1∧(1:Int)≤((r'.length+1:Nat):Int):=by omega
   have e1:((42::r':List UInt8)==[])=false:=rfl;have q1:(((42:UInt8).toNat:Int)==42)=true:=rfl;simp only[↓zp,zw,↓reduceIte,aA,g0,g1,g2,aB,d0,i0,i1,i2,b1,b3,aN,aX,List.getElem_cons_zero,List.take_length,List.take_succ_cons,List.drop_succ_cons,List.drop_zero,e1,q1];refine bR 5 (by kernel_rfl) (by kernel_rfl) (by kernel_rfl) ?_;simp only[↓zp,zw,↓reduceIte,aA,g0,g1,g2,aB,d0,i0,i1,i2,b1,b3,aN,aX,List.getElem_cons_zero,List.take_length,List.take_succ_cons,List.drop_succ_cons,List.drop_zero,e1,q1];refine⟨fun m2 ρ h'=> ∃(a:Option Addr) (c:Nat) (l2:List Nat),ρ 0=.pointer (some ⟨ck,0,none⟩)∧ρ 1=.slice a (l2++l').length c∧ρ 2=.string ⟨r'.toArray⟩∧ρ 10=.int .u8 (ch.toNat:Int)∧Kd h' a c (l2++l')∧(∀n,n∈l2→FitR ns ch n true)∧Ext [] h h'∧m2=l2.length,l1.length,⟨a,c,l1,by simp only[↓zp,zw,↓reduceIte,aA,g0],by simp only[↓zp,zw,↓reduceIte,aA,g1],by simp only[↓zp,zw,↓reduceIte,aA],by simp only[↓zp,zw,↓reduceIte,aA],hk,hf,hE,rfl⟩,?_⟩;clear hk hf;rintro m2 ρ h2 ⟨a,c,l2,g0,g1,g2,g10,hk,hf,hE2,hm2⟩;have H2:=H.ext0 hE2
   cases l2 with
   |cons n l2=>
    obtain⟨ll,hL⟩:∃ll,l2++l'=ll:=⟨_,rfl⟩;rw[List.cons_append,hL]at hk g1;have dl:decide (((ll.length+1:Nat):Int)>0)=true:=bC (by omega);have b2:(0:Int)≤0∧(0:Int)<((ll.length+1:Nat):Int):=by omega
    obtain⟨b,o,rfl,hc,a',hsl,hk'⟩:=hk.cons;simp only[↓zp,zw,↓reduceIte,aA,g0,g1,g2,g10,List.cons_append,hL,aB,dl,b2,hc,aN,aQ];refine bH (rU H2 (hf n (by simp))) ?_;rintro _ h3 ⟨rfl,hE3⟩;simp only[↓zp,zw,↓reduceIte,aA,g0,g1,g2,g10,List.cons_append,hL,aB,hsl]
    exact⟨l2.length,by rw[hm2];exact Nat.lt_succ_self _,a',c-1,l2,by trivial,by rw[hL],by trivial,by trivial,by rw[hL];exact hk'.ext0 hE3,fun m hm=>hf m (by simp[hm]),hE2.trans hE3,rfl⟩
   |nil=>
    rw[List.nil_append]at g1 hk
    cases l' with
    |nil=>
     simp only[↓zp,zw,↓reduceIte,aA,g0,g1,g2,g10,aD,show decide (((0:Nat):Int)>0)=false by decide]
     exact⟨r'.length,by simp at hm;omega,a,c,r',[],by trivial,by trivial,by trivial,hk,hM',hE2,rfl⟩
    |cons n l3=>
     have dl:decide (((l3.length+1:Nat):Int)>0)=true:=bC (by omega);have b2:(0:Int)≤0∧(0:Int)<((l3.length+1:Nat):Int):=by omega
     have hk0:=hk;obtain⟨b,o,rfl,hc,a',hsl,hk'⟩:=hk.cons;simp only[↓zp,zw,↓reduceIte,aA,g0,g1,g2,g10,aB,dl,b2,hc,aN,aQ];refine bH (rU H2 (hs n l3 rfl)) ?_;rintro _ h3 ⟨rfl,hE3⟩;simp only[↓zp,zw,↓reduceIte,aA,g0,g1,g2,g10,aB]
     exact⟨r'.length,by simp at hm;omega,_,c,r',n::l3,by trivial,by trivial,by trivial,hk0.ext0 hE3,hM',hE2.trans hE3,rfl⟩
 | @opt1 ch r' n l' hf hM'=>
   have d0:decide (((r'.length+1+1:Nat):Int)>0)=true:=bC (by omega);have i0:(0:Int)≤0:=by omega
   have i1:(0:Nat)<r'.length+1+1:=by omega
   have i2:(0:Nat)<r'.length+1:=by omega
   have b1:(0:Int)≤1∧(1:Int)≤((r'.length+1+1:Nat):Int):=by omega
   have b3:(0:Int)≤1∧(1:Int)≤((r'.length+1:Nat):Int):=by omega
   have e1:((63::r':List UInt8)==[])=false:=rfl;have q1:(((63:UInt8).toNat:Int)==42)=false:=rfl;have q2:(((63:UInt8).toNat:Int)==63)=true:=rfl;have dl:decide (((l'.length+1:Nat):Int)>0)=true:=bC (by omega);have b2:(0:Int)≤0∧(0:Int)<((l'.length+1:Nat):Int):=by omega
   obtain⟨b,o,rfl,hc,a',hs,hk'⟩:=hk.cons;simp only[↓zp,zw,↓reduceIte,aA,g0,g1,g2,aB,d0,i0,i1,i2,b1,b3,aN,aX,List.getElem_cons_zero,List.take_length,List.take_succ_cons,List.drop_succ_cons,List.drop_zero,e1,q1,q2];refine bR 5 (by kernel_rfl) (by kernel_rfl) (by kernel_rfl) ?_;simp only[↓zp,zw,↓reduceIte,aA,g0,g1,g2,aB,d0,i0,i1,i2,b1,b3,aN,aX,List.getElem_cons_zero,List.take_length,List.take_succ_cons,List.drop_succ_cons,List.drop_zero,e1,q1,q2,Int.reduceBEq,dl,b2,hc,aQ];refine bH (rU H1 hf) ?_;rintro _ h2 ⟨rfl,hE2⟩;simp only[↓zp,zw,↓reduceIte,aA,hs,g0,g1,g2,aB]
   exact⟨r'.length,by simp at hm;omega,a',c-1,_,l',by trivial,by trivial,by trivial,hk'.ext0 hE2,hM',hE.trans hE2,rfl⟩
 | @opt0 ch r' hM'=>
   have d0:decide (((r'.length+1+1:Nat):Int)>0)=true:=bC (by omega);have i0:(0:Int)≤0:=by omega
   have i1:(0:Nat)<r'.length+1+1:=by omega
   have i2:(0:Nat)<r'.length+1:=by omega
   have b1:(0:Int)≤1∧(1:Int)≤((r'.length+1+1:Nat):Int):=by omega
   have b3:(0:Int)≤1∧(1:Int)≤((r'.length+1:Nat):Int):=by omega
   have e1:((63::r':List UInt8)==[])=false:=rfl;have q1:(((63:UInt8).toNat:Int)==42)=false:=rfl;have q2:(((63:UInt8).toNat:Int)==63)=true:=rfl;have dl:decide (((0:Nat):Int)>0)=false:=by decide
   simp only[↓zp,zw,↓reduceIte,aA,g0,g1,g2,aB,d0,i0,i1,i2,b1,b3,aN,aX,List.getElem_cons_zero,List.take_length,List.take_succ_cons,List.drop_succ_cons,List.drop_zero,e1,q1,q2];refine bR 5 (by kernel_rfl) (by kernel_rfl) (by kernel_rfl) ?_;simp only[↓zp,zw,↓reduceIte,aA,g0,g1,g2,aB,d0,i0,i1,i2,b1,b3,aN,aX,List.getElem_cons_zero,List.take_length,List.take_succ_cons,List.drop_succ_cons,List.drop_zero,e1,q1,q2,Int.reduceBEq,aD,dl];exact⟨r'.length,by simp at hm;omega,a,c,r',[],by trivial,by trivial,by trivial,hk,hM',hE,rfl⟩
theorem Alt.at{l:List Nat}(h:Alt ns l):l.length%2=1∧∀j (hj:j<l.length),∃x,ns[l[j]'hj]? =some x∧(j%2=0→x.kind=2)∧(j%2=1→cG x.kind=true):=by
 induction h with
 |one h=>
  obtain⟨y,h1,h2⟩:=h;refine⟨rfl,fun j hj=> ?_⟩;have:j=0:=by simpa using hj
  subst this
  exact⟨y,h1,fun _=>by simpa using h2,by omega⟩
 |more h he _ ih=>
  obtain⟨y,h1,h2⟩:=h;obtain⟨z,h3,h4⟩:=he;refine⟨by have:=ih.1;simp;omega,fun j hj=> ?_⟩
  match j,hj with
  |0,_=>exact⟨y,h1,fun _=>by simpa using h2,by omega⟩
  |1,_=>exact⟨z,h3,by omega,fun _=>h4⟩
  |j+2,hj=>
   obtain⟨x,k1,k2,k3⟩:=ih.2 j (by simp at hj;omega);exact⟨x,k1,fun e=>k2 (by omega),fun e=>k3 (by omega)⟩
theorem tm2{a:Nat}:binv .rem (.int .i64 (a:Int)) (.int .i64 2)=some (.int .i64 ((a%2:Nat):Int)):=by
 rw[sF (by decide),Int.tmod_eq_emod_of_nonneg (by omega)];rfl
theorem alt_k(H:CK h ck vl ns){l:List Nat}(hA:Alt ns l){v:Value}(hv:Row h v 3 1 (bL l))(hsm:l.length≤1000000000):C aE 26 #[.pointer (some ⟨ck,0,none⟩),v,.string ⟨([84]:List UInt8).toArray⟩] h fun e h'=>e=.returned (.bool true)∧Ext [] h h':=by
 obtain⟨ho,hat⟩:=hA.at;obtain⟨a,c,rfl,hkid⟩:=cV hv;have e84:(([84]:List UInt8)==[84])=true:=rfl;refine C_in Tryz.func26 rfl rfl (by kernel_rfl) (aG rfl) ?_;simp only[↓zp,zw,↓reduceIte,aA,e84];refine⟨fun m ρ h'=> ∃i:Nat,ρ 0=.pointer (some ⟨ck,0,none⟩)∧ρ 1=.slice a l.length c∧ρ 14=.slice a l.length c∧ρ 15=.int .i64 ((l.length:Nat):Int)∧ρ 16=.int .i64 (i:Int)∧h'=h∧i≤l.length∧m=l.length-i,l.length,⟨0,by simp only[↓zp,zw,↓reduceIte,aA],by simp only[↓zp,zw,↓reduceIte,aA],by simp only[↓zp,zw,↓reduceIte,aA],by simp only[↓zp,zw,↓reduceIte,aA],by simp only[↓zp,zw,↓reduceIte,aA];rfl,rfl,by omega,rfl⟩,?_⟩;rintro m ρ h1 ⟨i,g0,g1,g14,g15,g16,hh,hi,hm⟩;rw[hh];by_cases hlt:i<l.length
 ·have d1:decide ((i:Int)<((l.length:Nat):Int))=true:=bC (by omega);have b1:(0:Int)≤(i:Int)∧(i:Int)<((l.length:Nat):Int):=by omega
  have w1:=bI (a:=i) (by omega);obtain⟨x,hx,hx0,hx1⟩:=hat i hlt;obtain⟨bz,rfl,hcz⟩:=hkid i hlt;generalize l[i]'hlt=q at hcz hx;obtain⟨b,cap,vk,rfl,hn,_,_,hc⟩:=H.at hx;have b2:(0:Int)≤(q:Int)∧(q:Int)<((ns.length:Nat):Int):=by omega
  have c0:bG h b (q*6)=some (.int .i64 (x.kind:Int)):=hc 0 (by omega);rcases Nat.mod_two_eq_zero_or_one i with hp|hp
  ·have t0:(((i%2:Nat):Int)==0)=true:=by rw[hp];rfl
   have t1:(((i%2:Nat):Int)==1)=false:=by rw[hp];rfl
   rw[hx0 hp]at c0;simp only[↓zp,zw,↓reduceIte,aA,g0,g1,g14,g15,g16,d1,b1,aF,hcz,bE H.blk,b2,c0,tm2,t0,t1,show(((2:Nat):Int) !=2)=false by decide,w1];exact⟨l.length-(i+1),by omega,i+1,by trivial,by trivial,by trivial,by trivial,by trivial,by trivial,by omega,rfl⟩
  ·have t0:(((i%2:Nat):Int)==0)=false:=by rw[hp];rfl
   have t1:(((i%2:Nat):Int)==1)=true:=by rw[hp];rfl
   simp only[↓zp,zw,↓reduceIte,aA,g0,g1,g14,g15,g16,d1,b1,aF,hcz,bE H.blk,b2,c0,tm2,t0,t1];refine bK (oT x.kind) ?_;rw[hx1 hp];simp only[↓zp,zw,↓reduceIte,aA,g0,g1,g14,g15,g16,w1];exact⟨l.length-(i+1),by omega,i+1,by trivial,by trivial,by trivial,by trivial,by trivial,by trivial,by omega,rfl⟩
 ·have d1:decide ((i:Int)<((l.length:Nat):Int))=false:=bD (by omega);have t1:(((l.length%2:Nat):Int)==1)=true:=by rw[ho];rfl
  simp only[↓zp,zw,↓reduceIte,aA,g0,g1,g14,g15,g16,d1,tm2,t1];exact⟨by trivial,Ext.refl _ _⟩
end
end
end Go.Proofs.YtfmbepijhnaklaaGreatDoor
