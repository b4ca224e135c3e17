/- Proved here: strconv's decimal is read off a text | strconv.ParseFloat | The scanner in texts | The scanner in texts, second part | The scanner's texts and templates | The scanner's pieces of templates | The scanner's punctuators | Words in a text of words. Conditions: what each statement names. -/
import Derived.Test.YtfmbepijhnaklaaGreatDoorK08
import Derived.Test.YtfmbepijhnaklaaGreatDoorK07
import Derived.Test.YtfmbepijhnaklaaGreatDoorK03
import Derived.Lib.IndexMore
set_option maxRecDepth 100000
set_option maxHeartbeats 4000000
set_option linter.unusedSimpArgs false
set_option linter.unusedVariables false
set_option linter.defProp false
open Nat renaming reduceEqDiff → aA, le_of_ble_eq_true → aG, mul_one → aP, zero_mul → aQ, zero_add → aR, reduceBEq → aY, reduceAdd → aZ, le_refl → bA
open List renaming length_cons → aB, length_append → aC, length_nil → aD, map_toArray → aH, map_cons → aJ, map_nil → aK, perm_iff_count → aM, count_append → aO, getElem?_eq_getElem → aS, count_cons → aT, count_nil → aV
open Go.Proofs.Tryz renaming prog → aE
open Int renaming toNat_natCast → aF, toNat_zero → aN, toNat_one → aX
open Bool renaming false_eq_true → aI, eq_iff_iff → aW
open And renaming intro → aL
open Go.IntWalk renaming i64_in → aU
namespace Go.Proofs.YtfmbepijhnaklaaGreatDoor
section
def SD(b:Nat)(h h':Heap)(L:List UInt8)(nd:Nat)(dp:Int)(tr:Bool)(lo hi:Int):Prop:=DB h' b L nd dp false tr∧nd≤800∧Dg L nd∧(0<nd→(L.getD 0 0).toNat≠48)∧lo≤dp∧dp≤hi∧Ext [b] h h'
def SetOut(b:Nat)(h:Heap)(e:Ending)(h':Heap):Prop:=∃(ok:Bool) (L:List UInt8) (nd:Nat) (dp:Int) (tr:Bool),e=.returned (.bool ok)∧SD b h h' L nd dp tr (-100000000) 100000000
def SI(ρ:Env)(b:Nat)(x:List UInt8)(i:Nat)(sd sg:Bool):Prop:=ρ 0=.pointer (some ⟨b,0,none⟩)∧ρ 1=.string ⟨x.toArray⟩∧ρ 4=.bool false∧ρ 5=.int .i64 (i:Int)∧ρ 6=.bool sd∧ρ 7=.bool sg
theorem SD.mono{b:Nat}{h h':Heap}{L:List UInt8}{nd:Nat}{dp:Int}{tr:Bool}{lo hi lo' hi':Int}(H:SD b h h' L nd dp tr lo hi)(h1:lo'≤lo)(h2:hi≤hi'):SD b h h' L nd dp tr lo' hi':=by
 obtain⟨a1,a2,a3,a4,a5,a6,a7⟩:=H;exact⟨a1,a2,a3,a4,by omega,by omega,a7⟩
section
variable{h:Heap}{b:Nat}{L:List UInt8}
theorem decSet_c(H:DB h b L 0 0 false false)(x:List UInt8)(hx:x.length≤1000000)(hz:∀c,x[0]? =some c→c.toNat=48):
 C aE 238 #[.pointer (some ⟨b,0,none⟩),.string ⟨x.toArray⟩] h (SetOut b h):=by
 refine C_in Tryz.func238 rfl rfl (by kernel_rfl) (aG rfl) ?_;refine fD 9 (fun ρ h'=> ∃(i:Nat) (sd sg:Bool) (L:List UInt8) (nd:Nat) (dp:Int) (tr:Bool),SI ρ b x i sd sg∧i≤x.length∧SD b h h' L nd dp tr (-1000000) 800) (fun N hN=> ?_) ?_
 ·simp only[↓zp,zw,aA,cS,cT];refine Wst_ng H false fun h1 H1 hE1 hs1=> ?_;simp only[↓zp,zw,aA];refine wM H1 false fun h2 H2 hE2 hs2=> ?_;have S0:SD b h h2 L 0 0 false 0 0:=⟨H2,by omega,fun j hj=>by omega,fun h=>by omega,by omega,by omega,hE1.trans hE2⟩;by_cases hl0:0<x.length
  case neg=>
   have d0:decide ((0:Int)≥((x.length:Nat):Int))=true:=bC (by omega);simp only[↓zp,zw,aA,d0];exact⟨false,L,0,0,false,(by trivial),S0.mono (by omega) (by omega)⟩
  have d0:decide ((0:Int)≥((x.length:Nat):Int))=false:=bD (by omega);obtain⟨c0,hc0⟩:∃c,x[0]'hl0=c:=⟨_,rfl⟩;have h48:(c0.toNat:Int)=48:=by have:=hz c0 (by rw[aS hl0,hc0]);omega
  have x0:idxS x 0=_:=oA hl0 hc0;clear H H1 H2 hE1 hE2 hs1 hs2 hz;simp only[↓zp,zw,aA,d0,x0,h48,Int.reduceBEq];refine⟨fun M ρ h'=> ∃(i:Nat) (sd sg:Bool) (L:List UInt8) (nd:Nat) (dp:Int) (tr:Bool),SI ρ b x i sd sg∧i≤x.length∧SD b h h' L nd dp tr (-(i:Int)) 800∧M=x.length-i,x.length,⟨0,false,false,L,0,0,false,(by unfold SI;simp only[↓zp,zw,aA,and_self];try trivial),by omega,S0.mono (by omega) (by omega),rfl⟩,?_⟩;clear S0;rintro M ρ h1 ⟨i,sd,sg,L,nd,dp,tr,⟨g0,g1,g4,g5,g6,g7⟩,hi,⟨H,hn,hD,hd,hlo,hhi,hE⟩,hM⟩;by_cases hlt:i<x.length
  ·have d1:decide ((i:Int)<((x.length:Nat):Int))=true:=bC (by omega);have z0:(0:Int)≤(i:Int):=by omega
   have w1:=bI (a:=i) (by omega);have hnext:x.length-(i+1)<M:=by omega
   obtain⟨c,hc⟩:∃c,x[i]'hlt=c:=⟨_,rfl⟩;obtain⟨q1,q2,q3,q4⟩:=H.tail
   cases k95:((c.toNat:Int)==95)with
   |true=>
    simp only[↓zp,zw,aA,g0,g1,g4,g5,g6,g7,d1,z0,hlt,hc,aF,k95,w1]
    exact⟨_,hnext,i+1,sd,sg,L,nd,dp,tr,(by unfold SI;simp only[↓zp,zw,aA,g0,g1,g4,g5,g6,g7,and_self];try trivial),by omega,⟨H,hn,hD,hd,by omega,hhi,hE⟩,rfl⟩
   |false=>
    cases k46:((c.toNat:Int)==46)with
    |true=>
     cases sd with
     |true=>
      simp only[↓zp,zw,aA,g0,g1,g4,g5,g6,g7,d1,z0,hlt,hc,aF,k95,k46]
      exact⟨false,L,nd,dp,tr,(by trivial),H,hn,hD,hd,by omega,by omega,hE⟩
     |false=>
      simp only[↓zp,zw,aA,g0,g1,g4,g5,g6,g7,d1,z0,hlt,hc,aF,k95,k46,q1];refine kT H (nd:Int) fun h2 H2 hE2 hs2=> ?_;simp only[↓zp,zw,aA,g0,g1,g4,g5,g6,g7,w1]
      exact⟨_,hnext,i+1,true,sg,L,nd,nd,tr,(by unfold SI;simp only[↓zp,zw,aA,g0,g1,g4,g5,g6,g7,and_self];try trivial),by omega,⟨H2,hn,hD,hd,by omega,by omega,hE.trans hE2⟩,rfl⟩
    |false=>
     by_cases dg:48≤c.toNat∧c.toNat≤57
     ·have a1:decide ((48:Int)≤(c.toNat:Int))=true:=bC (by omega);have a2:decide ((c.toNat:Int)≤57)=true:=bC (by omega)
      have store:((c.toNat:Int)==48)=true∧((nd:Int)==0)=true∨(((c.toNat:Int)==48)=true∧((nd:Int)==0)=false)∨((c.toNat:Int)==48)=false:=by
       cases((c.toNat:Int)==48)<;>cases((nd:Int)==0)<;>simp
      have keep:nd<800→(((c.toNat:Int)==48)=true→0<nd)→Dg (L.set nd c) (nd+1)∧(0<nd+1→((L.set nd c).getD 0 0).toNat≠48):=fun h1 h2=>⟨hD.snoc dg (by rw[H.2];exact h1),fun _=>by
       rw[gE];split
       ·rename_i hh;intro e;have:=h2 (by simp;omega);omega
       ·rename_i hh;have hl:=H.2;have:nd≠0:=fun e=>hh ⟨e,by omega⟩
        exact hd (by omega)⟩
      have b1:nd<800→(0:Int)≤(nd:Int)∧(nd:Int)<((800:Nat):Int):=fun _=>by omega
      rcases store with⟨k48,kn⟩|⟨k48,kn⟩|k48
      ·have w2:IntKind.i64.wrap (dp-1)=dp-1:=aU _ (by omega);simp only[↓zp,zw,aA,g0,g1,g4,g5,g6,g7,d1,z0,hlt,hc,aF,k95,k46,a1,a2,k48,q1,kn,q2,w2];refine kT H (dp-1) fun h2 H2 hE2 hs2=> ?_;simp only[↓zp,zw,aA,g0,g1,g4,g5,g6,g7,w1];exact⟨_,hnext,i+1,sd,true,L,nd,dp-1,tr,(by unfold SI;simp only[↓zp,zw,aA,g0,g1,g4,g5,g6,g7,and_self];try trivial),by omega,⟨H2,hn,hD,hd,by omega,by omega,hE.trans hE2⟩,rfl⟩
      ·by_cases h8:nd<800
       ·have d8:decide ((nd:Int)<800)=true:=bC (by omega);have b1:=b1 h8;obtain⟨kd,kf⟩:=keep h8 fun _=>by simp at kn;omega
        have w2:=bI (a:=nd) (by omega);simp only[↓zp,zw,aA,g0,g1,g4,g5,g6,g7,d1,z0,hlt,hc,aF,k95,k46,a1,a2,k48,q1,kn,d8];refine bR 11 (by kernel_rfl) (by kernel_rfl) (by kernel_rfl) ?_;simp only[↓zp,zw,aA,g0,g1,g4,g5,g6,g7,z0,hlt,hc,q1,b1,aR,aP,aF];refine mU H h8 c fun h2 H2 hE2 hs2=> ?_;obtain⟨r1,r2,r3,r4⟩:=H2.tail;simp only[↓zp,zw,aA,g0,g1,g4,g5,g6,g7,r1,w2];refine mS H2 (nd+1) fun h3 H3 hE3 hs3=> ?_;simp only[↓zp,zw,aA,g0,g1,g4,g5,g6,g7,w1];exact⟨_,hnext,i+1,sd,true,_,nd+1,dp,tr,(by unfold SI;simp only[↓zp,zw,aA,g0,g1,g4,g5,g6,g7,and_self];try trivial),by omega,⟨H3,by omega,kd,kf,by omega,by omega,(hE.trans hE2).trans hE3⟩,rfl⟩
       ·have d8:decide ((nd:Int)<800)=false:=bD (by omega);have k48n:((c.toNat:Int) !=48)=false:=by simp[bne,k48]
        simp only[↓zp,zw,aA,g0,g1,g4,g5,g6,g7,d1,z0,hlt,hc,aF,k95,k46,a1,a2,k48,q1,kn,d8,k48n,w1];exact⟨_,hnext,i+1,sd,true,L,nd,dp,tr,(by unfold SI;simp only[↓zp,zw,aA,g0,g1,g4,g5,g6,g7,and_self];try trivial),by omega,⟨H,hn,hD,hd,by omega,by omega,hE⟩,rfl⟩
      ·by_cases h8:nd<800
       ·have d8:decide ((nd:Int)<800)=true:=bC (by omega);have b1:=b1 h8;obtain⟨kd,kf⟩:=keep h8 fun e=>by rw[k48]at e;cases e
        have w2:=bI (a:=nd) (by omega);simp only[↓zp,zw,aA,g0,g1,g4,g5,g6,g7,d1,z0,hlt,hc,aF,k95,k46,a1,a2,k48,q1,d8];refine bR 11 (by kernel_rfl) (by kernel_rfl) (by kernel_rfl) ?_;simp only[↓zp,zw,aA,g0,g1,g4,g5,g6,g7,z0,hlt,hc,q1,b1,aR,aP,aF];refine mU H h8 c fun h2 H2 hE2 hs2=> ?_;obtain⟨r1,r2,r3,r4⟩:=H2.tail;simp only[↓zp,zw,aA,g0,g1,g4,g5,g6,g7,r1,w2];refine mS H2 (nd+1) fun h3 H3 hE3 hs3=> ?_;simp only[↓zp,zw,aA,g0,g1,g4,g5,g6,g7,w1];exact⟨_,hnext,i+1,sd,true,_,nd+1,dp,tr,(by unfold SI;simp only[↓zp,zw,aA,g0,g1,g4,g5,g6,g7,and_self];try trivial),by omega,⟨H3,by omega,kd,kf,by omega,by omega,(hE.trans hE2).trans hE3⟩,rfl⟩
       ·have d8:decide ((nd:Int)<800)=false:=bD (by omega);have k48n:((c.toNat:Int) !=48)=true:=by simp[bne,k48]
        simp only[↓zp,zw,aA,g0,g1,g4,g5,g6,g7,d1,z0,hlt,hc,aF,k95,k46,a1,a2,k48,q1,d8,k48n];refine wM H true fun h2 H2 hE2 hs2=> ?_;simp only[↓zp,zw,aA,g0,g1,g4,g5,g6,g7,w1];exact⟨_,hnext,i+1,sd,true,L,nd,dp,true,(by unfold SI;simp only[↓zp,zw,aA,g0,g1,g4,g5,g6,g7,and_self];try trivial),by omega,⟨H2,hn,hD,hd,by omega,by omega,hE.trans hE2⟩,rfl⟩
     ·by_cases q48:48≤c.toNat
      ·have a1:decide ((48:Int)≤(c.toNat:Int))=true:=bC (by omega);have a2:decide ((c.toNat:Int)≤57)=false:=bD (by omega);simp only[↓zp,zw,aA,g0,g1,g4,g5,g6,g7,d1,z0,hlt,hc,aF,k95,k46,a1,a2];exact hN _ _ ⟨i,sd,sg,L,nd,dp,tr,(by unfold SI;simp only[↓zp,zw,aA,g0,g1,g4,g5,g6,g7,and_self];try trivial),hi,H,hn,hD,hd,by omega,hhi,hE⟩
      ·have a1:decide ((48:Int)≤(c.toNat:Int))=false:=bD (by omega);simp only[↓zp,zw,aA,g0,g1,g4,g5,g6,g7,d1,z0,hlt,hc,aF,k95,k46,a1];exact hN _ _ ⟨i,sd,sg,L,nd,dp,tr,(by unfold SI;simp only[↓zp,zw,aA,g0,g1,g4,g5,g6,g7,and_self];try trivial),hi,H,hn,hD,hd,by omega,hhi,hE⟩
  ·have d1:decide ((i:Int)<((x.length:Nat):Int))=false:=bD (by omega);simp only[↓zp,zw,aA,g0,g1,g4,g5,g6,g7,d1];exact hN _ _ ⟨i,sd,sg,L,nd,dp,tr,(by unfold SI;simp only[↓zp,zw,aA,g0,g1,g4,g5,g6,g7,and_self];try trivial),hi,H,hn,hD,hd,by omega,hhi,hE⟩
 rintro ρ h1 ⟨i,sd,sg,L,nd,dp,tr,⟨g0,g1,g4,g5,g6,g7⟩,hi,S⟩
 (repeat rw[dC]);rw[dE]
 cases sg with
 |false=>
  simp only[↓zp,zw,aA,g0,g1,g4,g5,g6,g7]
  exact⟨false,L,nd,dp,tr,(by trivial),S.mono (by omega) (by omega)⟩
 |true=>
 refine fD 2 (fun ρ h'=> ∃(dp:Int),SI ρ b x i sd true∧SD b h h' L nd dp tr (-1000000) 800) (fun N hN=> ?_) ?_
 ·cases sd with
  |true=>simp only[↓zp,zw,aA,cS,cT,g0,g1,g4,g5,g6,g7];exact hN _ _ ⟨dp,(by unfold SI;simp only[↓zp,zw,aA,g0,g1,g4,g5,g6,g7,and_self];try trivial),S⟩
  |false=>
   obtain⟨H,hn,hD,hd,hlo,hhi,hE⟩:=S;obtain⟨q1,q2,q3,q4⟩:=H.tail;simp only[↓zp,zw,aA,cS,cT,g0,g1,g4,g5,g6,g7,q1];refine kT H (nd:Int) fun h2 H2 hE2 hs2=> ?_;simp only[↓zp,zw,aA];exact hN _ _ ⟨nd,(by unfold SI;simp only[↓zp,zw,aA,g0,g1,g4,g5,g6,g7,and_self];try trivial),H2,hn,hD,hd,by omega,by omega,hE.trans hE2⟩
 clear S g0 g1 g4 g5 g6 g7 dp;rintro ρ h1 ⟨dp,⟨g0,g1,g4,g5,g6,g7⟩,S⟩
 (repeat rw[dC]);rw[dE]
 have S':SD b h h1 L nd dp tr (-100000000) 100000000:=S.mono (by omega) (by omega);refine fD 1 (fun ρ h'=> ∃(i:Nat) (dp:Int),SI ρ b x i sd true∧i≤x.length∧SD b h h' L nd dp tr (-100000000) 100000000) (fun N hN=> ?_) ?_
 ·(repeat rw[cS]);rw[cT]
  rw[W_seq];refine fD 1 (fun ρ h'=>SI ρ b x i sd true∧(∃v,ρ 138=.bool v∧(v=true→i<x.length))∧h'=h1) (fun N2 hN2=> ?_) ?_
  ·by_cases hlt:i<x.length
   ·have d1:decide ((i:Int)<((x.length:Nat):Int))=true:=bC (by omega);have z0:(0:Int)≤(i:Int):=by omega
    obtain⟨c,hc⟩:∃c,x[i]'hlt=c:=⟨_,rfl⟩;simp only[↓zp,zw,aA,cS,cT,g0,g1,g4,g5,g6,g7,d1,z0,hlt,hc,aF];refine bK (vN _) ?_;simp only[↓zp,zw,aA,g0,g1,g4,g5,g6,g7];exact hN2 _ _ ⟨(by unfold SI;simp only[↓zp,zw,aA,g0,g1,g4,g5,g6,g7,and_self];try trivial),⟨_,by simp only[↓zp,zw,aA];rfl,fun _=>hlt⟩,rfl⟩
   ·have d1:decide ((i:Int)<((x.length:Nat):Int))=false:=bD (by omega);simp only[↓zp,zw,aA,cS,cT,g0,g1,g4,g5,g6,g7,d1];exact hN2 _ _ ⟨(by unfold SI;simp only[↓zp,zw,aA,g0,g1,g4,g5,g6,g7,and_self];try trivial),⟨false,by simp only[↓zp,zw,aA],fun h=>by cases h⟩,rfl⟩
  clear g0 g1 g4 g5 g6 g7;rintro ρ _ ⟨⟨g0,g1,g4,g5,g6,g7⟩,⟨v,g138,hv⟩,hh⟩;rw[hh]
  (repeat rw[dC]);rw[dE]
  cases v with
  |false=>simp only[↓zp,zw,aA,g0,g1,g4,g5,g6,g7,g138];exact hN _ _ ⟨i,dp,(by unfold SI;simp only[↓zp,zw,aA,g0,g1,g4,g5,g6,g7,and_self];try trivial),hi,S'⟩
  |true=>
   have hlt:=hv rfl;have w1:=bI (a:=i) (by omega);have w2:=bI (a:=i+1) (by omega);refine Wcond_t g138 ?_;refine fD 4 (fun ρ h'=> ∃(i':Nat) (s:Int),SI ρ b x i' sd true∧ρ 8=.int .i64 s∧(s=1∨s= -1)∧i'≤x.length∧h'=h1) (fun N3 hN3=> ?_) ?_
   ·by_cases hl1:i+1<x.length
    ·have d1:decide (((i+1:Nat):Int)≥((x.length:Nat):Int))=false:=bD (by omega);have z1:(0:Int)≤((i+1:Nat):Int):=by omega
     obtain⟨c,hc⟩:∃c,x[i+1]'hl1=c:=⟨_,rfl⟩
     cases s1:((c.toNat:Int)==43)with
     |true=>
      simp only[↓zp,zw,aA,cS,cT,g0,g1,g4,g5,g6,g7,w1,d1,z1,hl1,hc,aF,s1,w2]
      exact hN3 _ _ ⟨i+1+1,1,(by unfold SI;simp only[↓zp,zw,aA,g0,g1,g4,g5,g6,g7,and_self];try trivial),by simp only[↓zp,zw,aA],.inl rfl,by omega,rfl⟩
     |false=>
      cases s2:((c.toNat:Int)==45)with
      |true=>
       simp only[↓zp,zw,aA,cS,cT,g0,g1,g4,g5,g6,g7,w1,d1,z1,hl1,hc,aF,s1,s2,w2]
       exact hN3 _ _ ⟨i+1+1,-1,(by unfold SI;simp only[↓zp,zw,aA,g0,g1,g4,g5,g6,g7,and_self];try trivial),by simp only[↓zp,zw,aA],.inr rfl,by omega,rfl⟩
      |false=>
       simp only[↓zp,zw,aA,cS,cT,g0,g1,g4,g5,g6,g7,w1,d1,z1,hl1,hc,aF,s1,s2];exact hN3 _ _ ⟨i+1,1,(by unfold SI;simp only[↓zp,zw,aA,g0,g1,g4,g5,g6,g7,and_self];try trivial),by simp only[↓zp,zw,aA],.inl rfl,by omega,rfl⟩
    ·have d1:decide (((i+1:Nat):Int)≥((x.length:Nat):Int))=true:=bC (by omega);simp only[↓zp,zw,aA,cS,cT,g0,g1,g4,g5,g6,g7,w1,d1];exact⟨false,L,nd,dp,tr,(by trivial),S'⟩
   clear g0 g1 g4 g5 g6 g7 g138;rintro ρ _ ⟨i',s,⟨g0,g1,g4,g5,g6,g7⟩,g8,hs,hi',hh⟩;rw[hh]
   (repeat rw[dC]);rw[dE]
   by_cases hl:i'<x.length
   ·have d1:decide ((i':Int)≥((x.length:Nat):Int))=false:=bD (by omega);have z1:(0:Int)≤(i':Int):=by omega
    obtain⟨c,hc⟩:∃c,x[i']'hl=c:=⟨_,rfl⟩
    cases k1:decide ((c.toNat:Int)<48)with
    |true=>
     simp only[↓zp,zw,aA,g0,g1,g4,g5,g6,g7,d1,z1,hl,hc,aF,k1]
     exact⟨false,L,nd,dp,tr,(by trivial),S'⟩
    |false=>
     cases k2:decide ((c.toNat:Int)>57)with
     |true=>
      simp only[↓zp,zw,aA,g0,g1,g4,g5,g6,g7,d1,z1,hl,hc,aF,k1,k2]
      exact⟨false,L,nd,dp,tr,(by trivial),S'⟩
     |false=>
      simp only[↓zp,zw,aA,g0,g1,g4,g5,g6,g7,d1,z1,hl,hc,aF,k1,k2];refine⟨fun M ρ h'=> ∃(i2 e:Nat),SI ρ b x i2 sd true∧ρ 8=.int .i64 s∧ρ 9=.int .i64 (e:Int)∧i2≤x.length∧e≤110000∧h'=h1∧M=x.length-i2,x.length-i',⟨i',0,(by unfold SI;simp only[↓zp,zw,aA,g0,g1,g4,g5,g6,g7,and_self];try trivial),by simp only[↓zp,zw,aA,g8],by simp only[↓zp,zw,aA];rfl,hi',by omega,rfl,rfl⟩,?_⟩;clear g0 g1 g4 g5 g6 g7 g8;rintro M ρ h2 ⟨i2,e,⟨g0,g1,g4,g5,g6,g7⟩,g8,g9,hi2,he,hh,hM⟩;rw[hh];obtain⟨H,hn,hD,hd,hlo,hhi,hE⟩:=S;obtain⟨q1,q2,q3,q4⟩:=H.tail
      have w3:IntKind.i64.wrap ((e:Int)*s)=(e:Int)*s:=by
       rcases hs with rfl|rfl<;>rw[aU _ (by omega)]
      have hes: -110000≤(e:Int)*s∧(e:Int)*s≤110000:=by rcases hs with rfl|rfl<;>omega
      have w4:IntKind.i64.wrap (dp+(e:Int)*s)=dp+(e:Int)*s:=aU _ (by omega);by_cases hl2:i2<x.length
      ·have d1:decide ((i2:Int)<((x.length:Nat):Int))=true:=bC (by omega);have z1:(0:Int)≤(i2:Int):=by omega
       have w1:=bI (a:=i2) (by omega);obtain⟨c,hc⟩:∃c,x[i2]'hl2=c:=⟨_,rfl⟩;by_cases dg:48≤c.toNat∧c.toNat≤57
       ·have a1:decide ((48:Int)≤(c.toNat:Int))=true:=bC (by omega);have a2:decide ((c.toNat:Int)≤57)=true:=bC (by omega);have k95:((c.toNat:Int)==95)=false:=by simp;omega
        by_cases h4:e<10000
        ·have k3:decide ((e:Int)<10000)=true:=bC (by omega);have v1:IntKind.i64.wrap ((e:Int)*10)=((e*10:Nat):Int):=by rw[aU _ (by omega)];omega
         have v2:IntKind.i64.wrap (c.toNat:Int)=(c.toNat:Int):=aU _ (by omega);have v3:IntKind.i64.wrap (((e*10:Nat):Int)+(c.toNat:Int))=((e*10+c.toNat:Nat):Int):=by rw[aU _ (by omega)];omega
         have v4:IntKind.i64.wrap (((e*10+c.toNat:Nat):Int)-48)=((e*10+c.toNat-48:Nat):Int):=by rw[aU _ (by omega)];omega
         simp only[↓zp,zw,aA,g0,g1,g4,g5,g6,g7,g8,g9,d1,z1,hl2,hc,aF,a1,a2,k95,k3,v1,v2,v3,v4,w1];exact⟨x.length-(i2+1),by omega,i2+1,_,(by unfold SI;simp only[↓zp,zw,aA,g0,g1,g4,g5,g6,g7,and_self];try trivial),(by trivial),(by trivial),by omega,by omega,(by trivial),(by trivial)⟩
        ·have k3:decide ((e:Int)<10000)=false:=bD (by omega);simp only[↓zp,zw,aA,g0,g1,g4,g5,g6,g7,g8,g9,d1,z1,hl2,hc,aF,a1,a2,k95,k3,w1];exact⟨x.length-(i2+1),by omega,i2+1,e,(by unfold SI;simp only[↓zp,zw,aA,g0,g1,g4,g5,g6,g7,and_self];try trivial),(by trivial),(by trivial),by omega,by omega,(by trivial),(by trivial)⟩
       ·cases k95:((c.toNat:Int)==95)with
        |true=>
         have a1:decide ((48:Int)≤(c.toNat:Int))=true:=bC (by simp at k95;omega);have a2:decide ((c.toNat:Int)≤57)=false:=bD (by simp at k95;omega);simp only[↓zp,zw,aA,g0,g1,g4,g5,g6,g7,g8,g9,d1,z1,hl2,hc,aF,a1,a2,k95,w1]
         exact⟨x.length-(i2+1),by omega,i2+1,e,(by unfold SI;simp only[↓zp,zw,aA,g0,g1,g4,g5,g6,g7,and_self];try trivial),(by trivial),(by trivial),by omega,by omega,(by trivial),(by trivial)⟩
        |false=>
         by_cases q48:48≤c.toNat
         ·have a1:decide ((48:Int)≤(c.toNat:Int))=true:=bC (by omega);have a2:decide ((c.toNat:Int)≤57)=false:=bD (by omega);simp only[↓zp,zw,aA,g0,g1,g4,g5,g6,g7,g8,g9,d1,z1,hl2,hc,aF,a1,a2,k95,q2,w3,w4];refine kT H (dp+(e:Int)*s) fun h3 H3 hE3 hs3=> ?_;simp only[↓zp,zw,aA];exact hN _ _ ⟨i2,_,(by unfold SI;simp only[↓zp,zw,aA,g0,g1,g4,g5,g6,g7,and_self];try trivial),hi2,H3,hn,hD,hd,by omega,by omega,hE.trans hE3⟩
         ·have a1:decide ((48:Int)≤(c.toNat:Int))=false:=bD (by omega);simp only[↓zp,zw,aA,g0,g1,g4,g5,g6,g7,g8,g9,d1,z1,hl2,hc,aF,a1,k95,q2,w3,w4];refine kT H (dp+(e:Int)*s) fun h3 H3 hE3 hs3=> ?_;simp only[↓zp,zw,aA];exact hN _ _ ⟨i2,_,(by unfold SI;simp only[↓zp,zw,aA,g0,g1,g4,g5,g6,g7,and_self];try trivial),hi2,H3,hn,hD,hd,by omega,by omega,hE.trans hE3⟩
      ·have d1:decide ((i2:Int)<((x.length:Nat):Int))=false:=bD (by omega);simp only[↓zp,zw,aA,g0,g1,g4,g5,g6,g7,g8,g9,d1,q2,w3,w4];refine kT H (dp+(e:Int)*s) fun h3 H3 hE3 hs3=> ?_;simp only[↓zp,zw,aA];exact hN _ _ ⟨i2,_,(by unfold SI;simp only[↓zp,zw,aA,g0,g1,g4,g5,g6,g7,and_self];try trivial),hi2,H3,hn,hD,hd,by omega,by omega,hE.trans hE3⟩
   ·have d1:decide ((i':Int)≥((x.length:Nat):Int))=true:=bC (by omega);simp only[↓zp,zw,aA,g0,g1,g4,g5,g6,g7,d1];exact⟨false,L,nd,dp,tr,(by trivial),S'⟩
 clear S S' g0 g1 g4 g5 g6 g7;rintro ρ h2 ⟨i,dp,⟨g0,g1,g4,g5,g6,g7⟩,hi,S⟩
 (repeat rw[dC]);rw[dE]
 cases hne:((i:Int) !=((x.length:Nat):Int))with
 |true=>simp only[↓zp,zw,aA,g0,g1,g4,g5,g6,g7,hne];exact⟨false,L,nd,dp,tr,(by trivial),S⟩
 |false=>simp only[↓zp,zw,aA,g0,g1,g4,g5,g6,g7,hne];exact⟨true,L,nd,dp,tr,(by trivial),S⟩
end
end
section
def errW(er:Value):Prop:=er=.nilIface∨er=.iface 207 (.int .i64 1)∨er=.iface 207 (.int .i64 2)
theorem errV.w{er:Value}(H:errV er):errW er:=by
 rcases H with h|h
 ·exact .inl h
 ·exact .inr (.inl h)
theorem lM:cC 0:=by unfold cC;omega
theorem C_belowQ{P:Program}{f:Nat}{a:Array Value}{h:Heap}{Q:Ending→Prop}(H:∀w:World,w.heap=h→Calls P f a w fun e w'=>Q e∧Go.RowKit.Below w.heap.size w w'):C P f a h fun e h'=>Q e∧Ext [] h h':=
 fun w hw=>(H w hw).mono fun e w' ⟨he,hb⟩=>by subst hw;exact⟨⟨hb.os,hb.tape,hb.output⟩,he,⟨hb.size,fun b h1 _=>hb.block b h1⟩⟩
def zc:List Value:=bv (List.replicate 800 0)++[Value.int .i64 ((0:Nat):Int),.int .i64 0,.bool false,.bool false]
theorem zcells246:fO aE 246=some zc.toArray:=by kernel_rfl
section
variable{hI h:Heap}
theorem toErr_c(hG:Gf hI)(hE:Ext [] hI h)(fn x:ByteArray)(hx:x.size≤1000000)(er:Value)(he:errW er)(hne:er≠ .nilIface)(base:Int):
 C aE 186 #[.string fn,.string x,.int .i64 base,.int .i64 64,er] h fun e h'=>(∃v,e=.returned v)∧Ext [] h h':=by
 refine C_belowQ fun w hw=> ?_;rcases he with rfl|rfl|rfl
 ·exact absurd rfl hne
 ·obtain⟨ev,h1,h2⟩:=hG.errR;refine(Tryz.strconv_toError_range fn x base 64 ev w (by omega) (by rw[cell?_heap,hw];exact hE.cell h1 (by simp)) h2).mono ?_;rintro e w' ⟨N,he,_,_,hb⟩;exact⟨⟨_,he⟩,hb⟩
 ·obtain⟨ev,h1,h2⟩:=hG.errS;refine(Tryz.strconv_toError_syntax fn x base 64 ev w (by omega) (by rw[cell?_heap,hw];exact hE.cell h1 (by simp)) h2).mono ?_;rintro e w' ⟨N,he,_,_,hb⟩;exact⟨⟨_,he⟩,hb⟩
theorem pf64_c(hG:Gf hI)(hE:Ext [] hI h)(d:Nat)(hd:d<18446744073709551616)(p:Int)(hp: -345≤p∧p≤310):
 C aE 243 #[.int .u64 (d:Int),.int .i64 p,.int .u64 0] h fun e h'=>(∃(v:Nat) (er:Value),e=.returned (.tuple #[.float .f64 v,er])∧cC v∧errV er)∧Ext [] h h':=by
 have o0:bor .u64 0 0=((0:Nat):Int):=by decide
 have oz:∀r:Nat,r<18446744073709551616→bor .u64 0 (r:Int)=(r:Int):=fun r hr=>by
  rw[show(0:Int)=((0:Nat):Int)from rfl,kZ (by omega) hr,Nat.zero_or]
 refine C_in Tryz.func243 rfl rfl (by kernel_rfl) (aG rfl) ?_;simp only[↓zp,zw,aA];refine bK (len64_c (d:Int) (by omega) (by omega)) ?_;rw[aF];have hb:=Lib.bitLen_le d 64 (by omega) (by omega);generalize Lib.bitLen d=b at hb⊢;simp only[↓zp,zw,aA];refine bH (log2_c p hp) ?_;rintro _ h0 ⟨⟨lp,rfl,l1,l2⟩,hh⟩;rw[hh];have w1:IntKind.i64.wrap (53-(b:Int))=53-(b:Int):=aU _ (by omega);have w2:IntKind.i64.wrap (53-(b:Int)-lp)=53-(b:Int)-lp:=aU _ (by omega);obtain⟨e,he⟩:∃e,(if 53-(b:Int)-lp<1074 then 53-(b:Int)-lp else 1074)=e:=⟨_,rfl⟩
 have hcase:(e=53-(b:Int)-lp∧e<1074)∨(e=1074∧1074≤53-(b:Int)-lp):=by
  by_cases hc:53-(b:Int)-lp<1074
  ·rw[if_pos hc]at he;exact .inl ⟨he.symm,by omega⟩
  ·rw[if_neg hc]at he;exact .inr ⟨he.symm,by omega⟩
 have w3:IntKind.i64.wrap (64-(b:Int))=((64-b:Nat):Int):=by rw[aU _ (by omega)];omega
 have w4:IntKind.i64.wrap (e-((64-b:Nat):Int))=e-((64-b:Nat):Int):=aU _ (by omega);simp only[↓zp,zw,aA,w1,w2,rL,he,w3,w4];have E1:Ext [] h (h.push (.cells #[.int .u64 0,.int .u64 0,.int .i64 0] 264)):=Ext.push _ _ _;have hb1:Blk (h.push (.cells #[.int .u64 0,.int .u64 0,.int .i64 0] 264)) h.size [.int .u64 0,.int .u64 0,.int .i64 0] 264:=Blk.newA;generalize h.push (.cells #[.int .u64 0,.int .u64 0,.int .i64 0] 264)=h1 at E1 hb1⊢;refine bH (prescale_c hG (hE.trans E1) hb1 rfl hE.1 (e-((64-b:Nat):Int)) p lp hp (by omega) ⟨l1,l2⟩) ?_;rintro _ h2 ⟨rfl,⟨A,B,hb2,hA,hB⟩,hE2⟩;have E2:Ext [] h h2:=E1.trans_new hE2 fun y hy=> .inl (by simp at hy;omega);have c2:bG h2 h.size 2=some (.int .i64 (-(e-((64-b:Nat):Int)+lp+3))):=by rw[bE hb2];rfl
 obtain⟨s,hs⟩:=Int.eq_ofNat_of_zero_le (show 0≤ -(e-((64-b:Nat):Int)+lp+3) by omega);rw[hs]at c2 hb2;by_cases h64:64≤s
 ·have d1:decide ((s:Int)≥64)=true:=bC (by omega);simp only[↓zp,zw,aA,c2,d1,o0];refine lY ?_;simp only[↓zp,zw,aA];exact⟨⟨0,.nilIface,(by first|exact rfl|exact trivial),lM,.inl rfl⟩,E2⟩
 have d1:decide ((s:Int)≥64)=false:=bD (by omega);obtain⟨x,ex,lx⟩:=fE ((d:Int)*2^min (64-b) IntKind.u64.bits);simp only[↓zp,zw,aA,c2,d1,w3,dG (b:=((64-b:Nat):Int)) (64-b) rfl,ex];refine bH (uscale_c hb2 hA hB (by omega) x lx) ?_;rintro _ _ ⟨⟨u,rfl,lu⟩,rfl⟩;simp only[↓zp,zw,aA];refine bK unmin_c ?_;have hb1:=jK u;have bu:band .u64 (u:Int) 1=((u&&&1:Nat):Int):=jT (b:=1) (by omega) (by omega);by_cases hge:36028797018963966≤u
 ·have d2:decide ((u:Int)≥36028797018963966)=true:=bC (by omega);have sh:=kX (a:=u) (n:=1) (by omega);have ou:=kZ (a:=u/2^1) (b:=u&&&1) (by omega) (by omega);have lu2:u/2^1|||(u&&&1)<2^55:=Nat.or_lt_two_pow (by omega) (by omega);have we:IntKind.i64.wrap (e-1)=e-1:=aU _ (by omega);have we2:IntKind.i64.wrap (0-(e-1))= -(e-1):=by rw[aU _ (by omega)];omega
  simp only[↓zp,zw,aA,d2];refine bK (yU true) ?_;simp only[↓zp,zw,aA,dB (b:=1) 1 rfl,sh,bu,ou,we];generalize u/2^1|||(u&&&1)=u2 at lu2⊢;refine bH (round_c u2 (by omega)) ?_;rintro _ _ ⟨⟨r,rfl,hr⟩,rfl⟩;have:=jK (u2/2^2);have hr2:r≤9007199254740992:=by omega
  simp only[↓zp,zw,aA,oz r (by omega),we2];refine bH (pack_c r hr2 (-(e-1)) (by omega)) ?_;rintro _ _ ⟨⟨v,er,rfl,gv,ge⟩,rfl⟩;simp only[↓zp,zw,aA];exact⟨⟨v,er,(by first|exact rfl|exact trivial),gv,ge⟩,E2⟩
 ·have d2:decide ((u:Int)≥36028797018963966)=false:=bD (by omega);have sh:=kX (a:=u) (n:=0) (by omega);have ou:=kZ (a:=u/2^0) (b:=u&&&1) (by omega) (by omega);have eu:u/2^0|||(u&&&1)=u:=by rw[Nat.pow_zero,Nat.div_one];exact xZ u
  have we:IntKind.i64.wrap (e-0)=e:=by rw[aU _ (by omega)];omega
  have we2:IntKind.i64.wrap (0-e)= -e:=by rw[aU _ (by omega)];omega
  simp only[↓zp,zw,aA,d2];refine bK (yU false) ?_;simp only[↓zp,zw,aA,dB (b:=0) 0 rfl,sh,bu,ou,eu,we,aI];refine bH (round_c u (by omega)) ?_;rintro _ _ ⟨⟨r,rfl,hr⟩,rfl⟩;have:=jK (u/2^2);have hr2:r≤9007199254740992:=by omega
  simp only[↓zp,zw,aA,oz r (by omega),we2];refine bH (pack_c r hr2 (-e) (by omega)) ?_;rintro _ _ ⟨⟨v,er,rfl,gv,ge⟩,rfl⟩;simp only[↓zp,zw,aA];exact⟨⟨v,er,(by first|exact rfl|exact trivial),gv,ge⟩,E2⟩
def AtofOut(x:List UInt8)(h:Heap)(e:Ending)(h':Heap):Prop:=(∃(v n:Nat) (er:Value),e=.returned (.tuple #[.float .f64 v,.int .i64 (n:Int),er])∧cC v∧n≤x.length∧errW er)∧Ext [] h h'
theorem atof64_c(hG:Gf hI)(hE:Ext [] hI h){x:List UInt8}(H:NumT x):C aE 216 #[.string ⟨x.toArray⟩] h (AtofOut x h):=by
 have o0:bor .u64 0 0=((0:Nat):Int):=by decide
 have oI:bor .u64 0 9218868437227405312=((9218868437227405312:Nat):Int):=by decide
 have gI:cC 9218868437227405312:=by unfold cC;omega
 have ws:IntKind.u64.wrap (0*2^min 63 IntKind.u64.bits)=0:=by decide
 have c9:=hE.cell hG.opt (by simp);refine C_in Tryz.func216 rfl rfl (by kernel_rfl) (aG rfl) ?_;simp only[↓zp,zw,aA];refine bK (special_c H) ?_;simp only[↓zp,zw,aA];refine bH (xP H) ?_;rintro _ h0 ⟨⟨m,n,p,tr,ok,rfl,hm,hn⟩,hh⟩;rw[hh]
 cases ok with
 |false=>
  simp only[↓zp,zw,aA]
  exact⟨⟨0,n,.iface 207 (.int .i64 2),(by first|exact rfl|exact trivial),lM,hn,.inr (.inr rfl)⟩,Ext.refl _ _⟩
 |true=>
 simp only[↓zp,zw,aA,c9];refine bK (wH false) ?_
 cases hz:((m:Int)==0)with
 |true=>
  simp only[↓zp,zw,aA,aI,dG (b:=63) 63 rfl,ws,hz,o0];refine lY ?_;simp only[↓zp,zw,aA]
  exact⟨⟨0,n,.nilIface,(by first|exact rfl|exact trivial),lM,hn,.inl rfl⟩,Ext.refl _ _⟩
 |false=>
 by_cases hp1:p>310
 ·have d1:decide (p>310)=true:=bC hp1;simp only[↓zp,zw,aA,aI,dG (b:=63) 63 rfl,ws,hz,d1,oI];refine lY ?_;simp only[↓zp,zw,aA];exact⟨⟨_,n,.iface 207 (.int .i64 1),(by first|exact rfl|exact trivial),gI,hn,.inr (.inl rfl)⟩,Ext.refl _ _⟩
 have d1:decide (p>310)=false:=bD hp1;by_cases hp2:p< -345
 ·have d2:decide (p< -345)=true:=bC hp2;simp only[↓zp,zw,aA,aI,dG (b:=63) 63 rfl,ws,hz,d1,d2,o0];refine lY ?_;simp only[↓zp,zw,aA];exact⟨⟨0,n,.nilIface,(by first|exact rfl|exact trivial),lM,hn,.inl rfl⟩,Ext.refl _ _⟩
 have d2:decide (p< -345)=false:=bD hp2;have hp: -345≤p∧p≤310:=by omega
 cases tr with
 |false=>
  simp only[↓zp,zw,aA,aI,dG (b:=63) 63 rfl,ws,hz,d1,d2];refine bH (exact_c hG hE m hm p hp) ?_;rintro _ h0 ⟨⟨v,ok,rfl,hv⟩,hh⟩;rw[hh]
  cases ok with
  |true=>
   simp only[↓zp,zw,aA]
   exact⟨⟨v,n,.nilIface,(by first|exact rfl|exact trivial),hv rfl,hn,.inl rfl⟩,Ext.refl _ _⟩
  |false=>
   simp only[↓zp,zw,aA];refine bH (pf64_c hG hE m hm p hp) ?_;rintro _ h1 ⟨⟨v,er,rfl,gv,ge⟩,E1⟩;simp only[↓zp,zw,aA]
   exact⟨⟨v,n,er,(by first|exact rfl|exact trivial),gv,hn,ge.w⟩,E1⟩
 |true=>
  simp only[↓zp,zw,aA,aI,dG (b:=63) 63 rfl,ws,hz,d1,d2];refine bH (pf64_c hG hE m hm p hp) ?_;rintro _ h1 ⟨⟨v,er,rfl,gv,ge⟩,E1⟩;obtain⟨m2,em,lm⟩:=fE ((m:Int)+1);simp only[↓zp,zw,aA,em];refine bH (pf64_c hG (hE.trans E1) m2 lm p hp) ?_;rintro _ h2 ⟨⟨v2,er2,rfl,gv2,ge2⟩,E2⟩;have E02:=E1.trans E2;obtain⟨q,hq⟩:=(gA (x:=v) (y:=v2)).2.2.1
  cases q with
  |true=>
   simp only[↓zp,zw,aA,hq]
   exact⟨⟨v,n,er,(by first|exact rfl|exact trivial),gv,hn,ge.w⟩,E02⟩
  |false=>
   simp only[↓zp,zw,aA,hq];rw[zcells246,tX];have hb3:Blk (h2.push (.cells zc.toArray 246)) h2.size zc 246:=Blk.new;have E23:Ext [] h2 (h2.push (.cells zc.toArray 246)):=Ext.push _ _ _;generalize h2.push (.cells zc.toArray 246)=h3 at hb3 E23⊢;have HD:DB h3 h2.size (List.replicate 800 0) 0 0 false false:=⟨hb3,List.length_replicate⟩;clear hb3;generalize List.replicate 800 0=L0 at HD;have b1:(0:Int)≤(n:Int)∧(n:Int)≤((x.length:Nat):Int):=by omega
   simp only[↓zp,zw,aA,b1,aF,List.drop_zero];refine bH (decSet_c HD (x.take n) (by have:=H.few;simp;omega) fun c hc=> ?_) ?_
   ·rw[List.getElem?_take]at hc;split at hc
    ·exact H.zero c hc
    ·cases hc
   rintro _ h4 ⟨ok,L,nd,dp,tr,rfl,S,hnd,hD,hd0,hlo,hhi,E4⟩;have E04:Ext [] h h4:=(E02.trans E23).trans_new E4 fun y hy=> .inl (by have:=E02.1;simp at hy;omega)
   cases ok with
   |false=>
    simp only[↓zp,zw,aA]
    exact⟨⟨0,n,.iface 207 (.int .i64 2),(by first|exact rfl|exact trivial),lM,hn,.inr (.inr rfl)⟩,E04⟩
   |true=>
    simp only[↓zp,zw,aA];refine bH (yL hG (hE.trans E04) (by have:=(hE.trans E02).1;omega) S hnd (fun hq=>⟨hD,hd0 hq⟩) ⟨hlo,hhi⟩) ?_;rintro _ h5 ⟨⟨v3,o,rfl,gv3⟩,E5⟩;have E05:Ext [] h h5:=E04.trans_new E5 fun y hy=> .inl (by have:=E02.1;simp at hy;omega);simp only[↓zp,zw,aA];refine lY ?_;simp only[↓zp,zw,aA]
    cases o with
    |true=>simp only[↓zp,zw,aA];exact⟨⟨v3,n,.iface 207 (.int .i64 1),(by first|exact rfl|exact trivial),gv3,hn,.inr (.inl rfl)⟩,E05⟩
    |false=>simp only[↓zp,zw,aA];exact⟨⟨v3,n,.nilIface,(by first|exact rfl|exact trivial),gv3,hn,.inl rfl⟩,E05⟩
theorem vH(hG:Gf hI)(hE:Ext [] hI h){x:List UInt8}(H:NumT x):C aE 168 #[.string ⟨x.toArray⟩,.int .i64 64] h fun e h'=>(∃(v:Nat) (er:Value),e=.returned (.tuple #[.float .f64 v,er])∧cC v)∧Ext [] h h':=by
 have c1:C aE 201 #[.string ⟨x.toArray⟩,.int .i64 64] h (AtofOut x h):=by
  have q:((64:Int)==32)=false:=by decide
  refine C_in Tryz.func201 rfl rfl (by kernel_rfl) (aG rfl) ?_;simp only[↓zp,zw,aA,q];refine bH (atof64_c hG hE H) ?_;rintro _ h1 ⟨⟨v,n,er,rfl,gv,hn,he⟩,E1⟩;simp only[↓zp,zw,aA];exact⟨⟨v,n,er,(by first|exact rfl|exact trivial),gv,hn,he⟩,E1⟩
 have c2:C aE 185 #[.string ⟨x.toArray⟩,.int .i64 64] h fun e h'=>(∃(v:Nat) (er:Value),e=.returned (.tuple #[.float .f64 v,er])∧cC v∧errW er)∧Ext [] h h':=by
  refine C_in Tryz.func185 rfl rfl (by kernel_rfl) (aG rfl) ?_;simp only[↓zp,zw,aA];refine bH c1 ?_;rintro _ h1 ⟨⟨v,n,er,rfl,gv,hn,he⟩,E1⟩
  cases hq:((n:Int) !=((x.length:Nat):Int))with
  |true=>simp only[↓zp,zw,aA,hq];exact⟨⟨0,.iface 207 (.int .i64 2),(by first|exact rfl|exact trivial),lM,.inr (.inr rfl)⟩,E1⟩
  |false=>simp only[↓zp,zw,aA,hq];exact⟨⟨v,er,(by first|exact rfl|exact trivial),gv,he⟩,E1⟩
 have u119:isIf (aE.underlying 119)=true:=by kernel_rfl
 refine C_in Tryz.func168 rfl rfl (by kernel_rfl) (aG rfl) ?_;simp only[↓zp,zw,aA];refine bH c2 ?_;rintro _ h1 ⟨⟨v,er,rfl,gv,he⟩,E1⟩;rcases he with rfl|rfl|rfl
 ·simp only[↓zp,zw,aA,u119];exact⟨⟨v,.nilIface,(by first|exact rfl|exact trivial),gv⟩,E1⟩
 ·simp only[↓zp,zw,aA,vB (P:=aE) (u:=207) (c:=true) (v:=.int .i64 1) u119];refine bH (toErr_c hG (hE.trans E1) _ ⟨x.toArray⟩ H.few _ (.inr (.inl rfl)) (by simp) _) ?_;rintro _ h2 ⟨⟨u,rfl⟩,E2⟩;simp only[↓zp,zw,aA];exact⟨⟨v,u,(by first|exact rfl|exact trivial),gv⟩,E1.trans E2⟩
 ·simp only[↓zp,zw,aA,vB (P:=aE) (u:=207) (c:=true) (v:=.int .i64 2) u119];refine bH (toErr_c hG (hE.trans E1) _ ⟨x.toArray⟩ H.few _ (.inr (.inr rfl)) (by simp) _) ?_;rintro _ h2 ⟨⟨u,rfl⟩,E2⟩;simp only[↓zp,zw,aA];exact⟨⟨v,u,(by first|exact rfl|exact trivial),gv⟩,E1.trans E2⟩
end
end
section
structure LB(h:Heap)(c:LC)(L b K:Nat)(s:LSt)(l:List UInt8):Prop where
 ls:LS h c L s
 bs:BS h b K l
 ob:b≠c.x∧b≠L∧b∉c.U∧c.hI.size≤b
 ok:K≠c.x∧K≠L∧K∉c.U∧c.hI.size≤K
 ev:l.length%2=0
 len:l.length≤4*s.at'+4
def LQ(c:LC)(b:Nat)(h:Heap)(K:Nat)(h':Heap)(K':Nat):Prop:=Ext [c.x,b,K] h h'∧(K'=K∨h.size≤K')
section
variable{h h1 h2 h':Heap}{c:LC}{L b K K1 K2 K':Nat}{s:LSt}{l m:List UInt8}
theorem LQ.refl:LQ c b h K h K:=⟨Ext.refl _ _,.inl rfl⟩
theorem LQ.trans(q:LQ c b h K h1 K1)(r:LQ c b h1 K1 h2 K2):LQ c b h K h2 K2:=by
 refine⟨⟨Nat.le_trans q.1.1 r.1.1,fun i hi hx=> ?_⟩,?_⟩
 ·have e:=q.1.2 i hi hx;rw[r.1.2 i (Nat.lt_of_lt_of_le hi q.1.1) ?_,e];simp only[List.mem_cons,List.not_mem_nil,or_false,not_or]at hx⊢;refine⟨hx.1,hx.2.1,?_⟩;rcases q.2 with e|e
  ·rw[e];exact hx.2.2
  ·omega
 ·rcases r.2 with e|e
  ·rw[e];exact q.2
  ·exact .inr (Nat.le_trans q.1.1 e)
theorem LQ.of_x(hE:Ext [c.x] h h'):LQ c b h K h' K:=⟨hE.mono fun x hx=>by simp at hx;simp[hx],.inl rfl⟩
theorem LQ.of_0(hE:Ext [] h h'):LQ c b h K h' K:=⟨hE.of_nil,.inl rfl⟩
theorem LB.x{s':LSt}(H:LB h c L b K s l)(h1:LS h' c L s')(hE:Ext [c.x] h h')(hs:s.at'≤s'.at'):LB h' c L b K s' l:=
 ⟨h1,H.bs.ext hE (by simpa using H.ob.1) (by simpa using H.ok.1),H.ob,H.ok,H.ev,by have:=H.len;omega⟩
theorem LB.e0(H:LB h c L b K s l)(hE:Ext [] h h'):LB h' c L b K s l:=⟨H.ls.ext0 hE,H.bs.ext hE (by simp) (by simp),H.ob,H.ok,H.ev,H.len⟩
theorem LB.fit(H:LB h c L b K s l):l.length≤3600004:=by have:=H.len;have:=H.ls.le;have:=H.ls.small;omega
theorem LB.bld(H:LB h c L b K s l)(hb:BS h' b K' (l++m))(q:Par (pcB b) h K [] h' K' [])(hm:m.length%2=0)(hl:l.length+m.length≤4*s.at'+4):LB h' c L b K' s (l++m)∧LQ c b h K h' K':=by
 have hx:=H.ls.lt;have hL:=H.ls.ltL;have hU:=H.ls.list.lt;have hg:=H.ls.glob.1;refine⟨⟨H.ls.ext q.E fun y hy=> ?_,hb,H.ob,?_,by simp;have:=H.ev;omega,by simpa using hl⟩,q.E.mono fun y hy=>by simp[pcB]at hy;rcases hy with rfl|rfl<;>simp,q.hL⟩
 ·simp[pcB]at hy;rcases hy with rfl|rfl
  ·exact H.ob
  ·exact H.ok
 ·rcases q.hL with e|e
  ·rw[e];exact H.ok
  ·exact⟨by omega,by omega,fun hm=>by have:=hU _ hm;omega,by omega⟩
end
def EOut(c:LC)(L b:Nat)(h:Heap)(K:Nat)(s:LSt)(d:Nat)(e:Ending)(h':Heap):Prop:=
 (∃s' K' l',e=.returned (.tuple #[])∧LB h' c L b K' s' l'∧l'.length≤4*s'.at'∧LQ c b h K h' K'∧s.at'+d≤s'.at'∧s'.key=s.key)∨((∃p:Nat,e=perrL p)∧Ext [c.x,b,K] h h')
theorem ix_le(l:List UInt8)(d:UInt8):Lib.indexByte l d≤(l.length:Int)-1:=by
 by_cases h:0≤Lib.indexByte l d
 ·obtain⟨o,ho⟩:∃o:Nat,Lib.indexByte l d=(o:Int):=⟨(Lib.indexByte l d).toNat,by omega⟩;have h1:=(Lib.indexByte_some ho).1;have h2:=(List.getElem?_eq_some_iff.1 h1).1;omega
 ·omega
theorem zI{n:Int}(h0:0≤n)(h1:n<2147483648):IntKind.i32.wrap n=n:=wraps_i32 n h0 h1
section
variable{h:Heap}{c:LC}{L b K:Nat}{s:LSt}{l:List UInt8}
theorem hex_c(H:LS h c L s)(lo hi:Nat)(hl:lo≤10)(hh:hi≤900000)(f:Nat):C aE 175 #[.pointer (some ⟨c.x,0,none⟩),.int .i64 (lo:Int),.int .i64 (hi:Int),.int .i64 (f:Int)] h
 (XOut c h L (fun v s'=> ∃r:Nat,r≤1114111∧v=.int .i32 (r:Int)∧s.at'+lo≤s'.at'∧s'.key=s.key) True):=by
 refine C_in Tryz.func175 rfl rfl (by kernel_rfl) (aG rfl) ?_;simp only[↓zp,zw,aA]
 refine⟨fun m ρ h'=> ∃(s':LSt) (n v:Nat),ρ 0=.pointer (some ⟨c.x,0,none⟩)∧ρ 1=.int .i64 (lo:Int)∧ρ 2=.int .i64 (hi:Int)∧ρ 3=.int .i64 (f:Int)∧ρ 9=.int .i32 (v:Int)∧ρ 10=.int .i64 (n:Int)∧LS h' c L s'∧Ext [c.x] h h'∧v≤1114111∧n≤hi∧s'.at'=s.at'+n∧s'.key=s.key∧m=hi-n,hi,
  ⟨s,0,0,by simp only[↓zp,zw,aA],by simp only[↓zp,zw,aA],by simp only[↓zp,zw,aA],by simp only[↓zp,zw,aA],by simp only[↓zp,zw,aA];rfl,by simp only[↓zp,zw,aA];rfl,H,Ext.refl _ _,by omega,by omega,rfl,rfl,rfl⟩,?_⟩
 rintro m ρ h1 ⟨s1,n,v,g0,g1,g2,g3,g9,g10,H1,hE1,hv,hn,hat,hop,hm⟩;have hs:=H1.small;have ha:=H1.le;by_cases hlt:n<hi
 ·have d1:decide ((n:Int)<(hi:Int))=true:=bC (by omega);simp only[↓zp,zw,aA,g0,g1,g2,g3,g9,g10,d1];refine bK (hH H1 0 (by omega)) ?_;simp only[↓zp,zw,aA,g0,g1,g2,g3,g9,g10,Nat.add_zero,tV];refine bK (jJ _ _) ?_;simp only[↓zp,zw,aA,g0,g1,g2,g3,g9,g10]
  have hix:∃ix:Int,Lib.indexByte [48,49,50,51,52,53,54,55,56,57,97,98,99,100,101,102] ((bY c.src s1.at'|||32).toNat:Int).toNat.toUInt8=ix∧ -1≤ix∧ix≤15∧(0≤ix→s1.at'<c.src.length):=by
   refine⟨_,rfl,Lib.indexByte_ge _ _,?_,fun h0=> ?_⟩
   ·exact ix_le _ _
   ·by_cases hlt2:s1.at'<c.src.length
    ·exact hlt2
    ·have e:bY c.src s1.at'=0:=by simp[bY,hlt2]
     rw[e]at h0;exact absurd h0 (by decide)
  obtain⟨ix,hix,i1,i2,i3⟩:=hix;by_cases hn0:ix<0
  ·simp only[↓zp,zw,aA,g0,g1,g2,g3,g9,g10,hix,bC hn0];by_cases hnl:n<lo
   ·have d3:decide ((n:Int)<(lo:Int))=true:=bC (by omega);simp only[↓zp,zw,aA,g0,g1,g2,g3,g9,g10,d3];refine eF ?_;exact .inr ⟨trivial,⟨f,rfl⟩,hE1⟩
   ·have d3:decide ((n:Int)<(lo:Int))=false:=bD (by omega);simp only[↓zp,zw,aA,g0,g1,g2,g3,g9,g10,d3];exact .inl ⟨_,s1,rfl,H1,hE1,v,hv,rfl,by omega,hop⟩
  ·have d2:=bD hn0;simp only[↓zp,zw,aA,g0,g1,g2,g3,g9,g10,hix,d2];refine bK (hH H1 0 (by omega)) ?_;simp only[↓zp,zw,aA,g0,g1,g2,g3,g9,g10,hix,d2,Nat.add_zero]
   cases hp:decide (((bY c.src s1.at').toNat:Int)<48)with
   |true=>
    simp only[↓zp,zw,aA,g0,g1,g2,g3,g9,g10];by_cases hnl:n<lo
    ·have d3:decide ((n:Int)<(lo:Int))=true:=bC (by omega);simp only[↓zp,zw,aA,g0,g1,g2,g3,g9,g10,d3];refine eF ?_;exact .inr ⟨trivial,⟨f,rfl⟩,hE1⟩
    ·have d3:decide ((n:Int)<(lo:Int))=false:=bD (by omega);simp only[↓zp,zw,aA,g0,g1,g2,g3,g9,g10,d3]
     exact .inl ⟨_,s1,rfl,H1,hE1,v,hv,rfl,by omega,hop⟩
   |false=>
    have hlt2:=i3 (by omega);have w1:IntKind.i32.wrap ix=ix:=zI (by omega) (by omega);have w2:IntKind.i32.wrap (16*(v:Int))=16*(v:Int):=zI (by omega) (by omega);obtain⟨u,hu⟩:∃u:Nat,16*(v:Int)+ix=(u:Int):=⟨(16*(v:Int)+ix).toNat,by omega⟩;have w3:IntKind.i32.wrap (u:Int)=(u:Int):=zI (by omega) (by omega);simp only[↓zp,zw,aA,g0,g1,g2,g3,g9,g10,hix,d2,w1,w2,hu,w3];by_cases hbig:1114111<u
    ·have d3:decide ((1114111:Int)<(u:Int))=true:=bC (by omega);simp only[↓zp,zw,aA,g0,g1,g2,g3,g9,g10,d3];refine eF ?_;exact .inr ⟨trivial,⟨f,rfl⟩,hE1⟩
    ·have d3:decide ((1114111:Int)<(u:Int))=false:=bD (by omega);have w4:=bI (a:=n) (by omega);have w5:=bI (a:=s1.at') (by omega);obtain⟨vo,hb,hr,hvo⟩:=H1.body;simp only[↓zp,zw,aA,g0,g1,g2,g3,g9,g10,d3,w4,w5,bE hb];refine bS hb (by kernel_rfl) (by simp) rfl fun h2 hb2 hE2 hs2=> ?_;obtain⟨s2,e1,e3,H2⟩:=H1.st3 (i:=s1.at'+1) hr hvo hb2 hE2 ⟨by omega,by omega⟩;simp only[↓zp,zw,aA,g0,g1,g2,g3,g9,g10,d3,hix,w1,w2,hu,w3];exact⟨hi-(n+1),by omega,s2,n+1,u,trivial,trivial,trivial,trivial,rfl,rfl,H2,hE1.trans hE2,by omega,by omega,by omega,e3.trans hop,rfl⟩
 ·have d1:decide ((n:Int)<(hi:Int))=false:=bD (by omega);simp only[↓zp,zw,aA,g0,g1,g2,g3,g9,g10,d1];by_cases hnl:n<lo
  ·have d2:decide ((n:Int)<(lo:Int))=true:=bC (by omega);simp only[↓zp,zw,aA,g0,g1,g2,g3,g9,g10,d2];refine eF ?_;exact .inr ⟨trivial,⟨f,rfl⟩,hE1⟩
  ·have d2:decide ((n:Int)<(lo:Int))=false:=bD (by omega);simp only[↓zp,zw,aA,g0,g1,g2,g3,g9,g10,d2];exact .inl ⟨_,s1,rfl,H1,hE1,v,hv,rfl,by omega,hop⟩
theorem vE(H:LB h c L b K s l)(hl:l.length≤4*s.at')(hlt:s.at'<c.src.length):C aE 151 #[.pointer (some ⟨c.x,0,none⟩),.pointer (some ⟨b,0,none⟩)] h (EOut c L b h K s 1):=by
 obtain⟨vo,hb,hr,hvo⟩:=H.ls.body;have hs:=H.ls.small;have ha:=H.ls.le;have hbl:=H.bs.lt;have hkl:K<h.size:=by obtain⟨_,_,_,_,_,_,h5⟩:=H.bs;exact h5
 have hxl:=H.ls.lt;have hLl:=H.ls.ltL;have hUl:=H.ls.list.lt;have hgl:=H.ls.glob.1;have b1:(0:Int)≤(s.at':Int)∧(s.at':Int)≤((c.src.length:Nat):Int):=by omega
 refine C_in Tryz.func151 rfl rfl (by kernel_rfl) (aG rfl) ?_;simp only[↓zp,zw,aA];refine bR 9 (by kernel_rfl) (by kernel_rfl) (by kernel_rfl) ?_;simp only[↓zp,zw,aA,bE hb,b1,aF,List.take_length];refine hZ Tryz.underlying9 ?_;simp only[↓zp,zw,aA];have hE0:Ext [] h (h.push (.stringIter ⟨(c.src.drop s.at').toArray⟩ 0)):=Ext.push _ _ _
 refine⟨fun m ρ h'=> ∃K' l' pos,ρ 0=.pointer (some ⟨c.x,0,none⟩)∧ρ 1=.pointer (some ⟨b,0,none⟩)∧ρ 15=.pointer (some ⟨h.size,0,none⟩)∧LB h' c L b K' s l'∧LQ c b h K h' K'∧h'[h.size]? =some (.stringIter ⟨(c.src.drop s.at').toArray⟩ pos)∧h.size<h'.size∧K'≠h.size∧(pos=0→l'.length≤4*s.at')∧pos≤c.src.length-s.at'∧m=c.src.length-s.at'-pos,c.src.length-s.at',
  ⟨K,l,0,by simp only[↓zp,zw,aA],by simp only[↓zp,zw,aA],by simp only[↓zp,zw,aA],H.e0 hE0,LQ.of_0 hE0,by simp,by simp,by omega,fun _=>hl,by omega,rfl⟩,?_⟩
 rintro m ρ h1 ⟨K1,l1,pos,g0,g1,g15,H1,q1,hj,hjl,hKj,hl1,hpos,hm⟩;simp only[↓zp,zw,aA,g0,g1,g15];have hsz:(⟨(c.src.drop s.at').toArray⟩:ByteArray).size=c.src.length-s.at':=by rw[eU];simp
 refine iX hj (fun r n h2 hp hr2 hn hpn _ hj2 hE2 hs2=> ?_) (fun hp=> ?_)
 ·rw[hsz]at hp hpn
  have H2:LB h2 c L b K1 s l1:=⟨H1.ls.ext hE2 fun y hy=>by
   simp at hy;subst hy
   exact⟨by omega,by omega,fun hm=>by have:=hUl _ hm;omega,by omega⟩,H1.bs.ext hE2 (by simp;omega) (by simpa using hKj),H1.ob,H1.ok,H1.ev,H1.len⟩
  have q2:LQ c b h K h2 K1:=⟨q1.1.trans_new hE2 fun y hy=> .inl (by simp at hy;omega),q1.2⟩;by_cases h0:0<pos
  ·have d1:decide ((0:Int)<(pos:Int))=true:=bC (by omega);have w1:=cQ (a:=s.at') (b:=pos) (by omega);obtain⟨vo2,hb2,hr2,hvo2⟩:=H2.ls.body;simp only[↓zp,zw,aA,g0,g1,g15,d1,bE hb2,w1];refine bS hb2 (by kernel_rfl) (by simp) rfl fun h3 hb3 hE3 hs3=> ?_;obtain⟨s3,e1,e3,H3⟩:=H2.ls.st3 (i:=s.at'+pos) hr2 hvo2 hb3 hE3 ⟨by omega,by omega⟩;simp only[↓zp,zw,aA];exact .inl ⟨s3,K1,l1,rfl,H2.x H3 hE3 (by omega),by have:=H2.len;omega,q2.trans (LQ.of_x hE3),by omega,e3⟩
  ·have d1:decide ((0:Int)<(pos:Int))=false:=bD (by omega);simp only[↓zp,zw,aA,g0,g1,g15,d1];refine bH (qB r hr2) ?_;rintro _ h3 ⟨lp,rfl,hev,h4l,_,hE3⟩;have H3:=H2.e0 hE3;simp only[↓zp,zw,aA,g0,g1,g15,d1];refine bH (iA H3.bs lp (by have:=H3.fit;omega)) ?_;rintro _ h4 ⟨rfl,K4,hB4,q4⟩;have hl1':=hl1 (by omega);obtain⟨H4,q5⟩:=H3.bld hB4 q4 hev (by omega);have hz3:=hE3.1;have hj3:h3[h.size]? =some (.stringIter ⟨(c.src.drop s.at').toArray⟩ (pos+n)):=(hE3.2 _ (by omega) (by simp)).trans hj2;have hj4:h4[h.size]? =some (.stringIter ⟨(c.src.drop s.at').toArray⟩ (pos+n)):=(q5.1.2 _ (by omega) (by simp;omega)).trans hj3;have hz4:=q5.1.1;simp only[↓zp,zw,aA,g0,g1,g15,d1];refine⟨c.src.length-s.at'-(pos+n),by omega,K4,l1++lp,pos+n,by simp only[↓zp,zw,aA,g0],by simp only[↓zp,zw,aA,g1],by simp only[↓zp,zw,aA,g15],H4,(q2.trans (LQ.of_0 hE3)).trans q5,hj4,by omega,?_,fun h0=>by omega,by omega,rfl⟩;rcases q5.2 with e|e
   ·omega
   ·omega
 ·rw[hsz]at hp;obtain⟨vo2,hb2,hr2,hvo2⟩:=H1.ls.body;simp only[↓zp,zw,aA,g0,g1,g15,bE hb2];refine bS hb2 (by kernel_rfl) (by simp) rfl fun h3 hb3 hE3 hs3=> ?_;obtain⟨s3,e1,e3,H3⟩:=H1.ls.st3 (i:=c.src.length) hr2 hvo2 hb3 hE3 ⟨by omega,by omega⟩;simp only[↓zp,zw,aA];exact .inl ⟨s3,K1,l1,rfl,H1.x H3 hE3 (by omega),by have:=H1.len;omega,q1.trans (LQ.of_x hE3),by omega,e3⟩
end
end
section
theorem vG{src:List UInt8}{i:Nat}{d:UInt8}(hd:d≠0)(h:bY src i=d):i<src.length:=by
 by_cases hl:i<src.length
 ·exact hl
 ·exact absurd (h.symm.trans (by simp[bY,hl])) hd
theorem u16_row:one' [Value.int .u16 10,.int .u16 9,.int .u16 8,.int .u16 11,.int .u16 12,.int .u16 13]=true:=rfl
section
variable{h:Heap}{c:LC}{L b K:Nat}{s:LSt}{l:List UInt8}
theorem yN(H:LB h c L b K s l)(hl:l.length≤4*s.at')(f:Nat):C aE 150 #[.pointer (some ⟨c.x,0,none⟩),.pointer (some ⟨b,0,none⟩),.int .i64 (f:Int)] h (EOut c L b h K s 0):=by
 have hs:=H.ls.small;have ha:=H.ls.le;have q:LQ c b h K h K:=LQ.refl;obtain⟨vo,hb,hr,hvo⟩:=H.ls.body;refine C_in Tryz.func150 rfl rfl (by kernel_rfl) (aG rfl) ?_;simp only[↓zp,zw,aA];refine bK (hH H.ls 0 (by omega)) ?_;simp only[↓zp,zw,aA,Nat.add_zero];refine bK (jJ _ _) ?_;simp only[↓zp,zw,aA];refine bR 10 (by kernel_rfl) (by kernel_rfl) (by kernel_rfl) ?_;simp only[↓zp,zw,aA,bE hb];by_cases hge:c.src.length≤s.at'
 ·have d1:decide ((c.src.length:Int)≤(s.at':Int))=true:=bC (by omega);simp only[↓zp,zw,aA,d1];refine eF ?_;exact .inr ⟨⟨f,rfl⟩,Ext.refl _ _⟩
 have hlt:s.at'<c.src.length:=by omega
 have d1:decide ((c.src.length:Int)≤(s.at':Int))=false:=bD (by omega);have hix:=ix_le [110,116,98,118,102,114] (((bY c.src s.at').toNat:Int).toNat.toUInt8);have hix2:=Lib.indexByte_ge [110,116,98,118,102,114] (((bY c.src s.at').toNat:Int).toNat.toUInt8);simp only[↓zp,zw,aA,d1];generalize Lib.indexByte [110,116,98,118,102,114] (((bY c.src s.at').toNat:Int).toNat.toUInt8)=ix at hix hix2⊢;simp only[aB,aD]at hix;by_cases hi0:0≤ix
 ·have d2:decide ((0:Int)≤ix)=true:=bC hi0;simp only[↓zp,zw,aA,d1,d2];have wA:IntKind.i64.wrap ((s.at':Int)+1)=((s.at'+1:Nat):Int):=bI (a:=s.at') (by have:=H.ls.small;have:=H.ls.le;omega);obtain⟨voA,hbA,hrA,hvA⟩:=H.ls.body;simp only[↓zp,zw,aA,d1,d2,bE hbA,wA];refine bS hbA (by kernel_rfl) (by simp) rfl fun hA hbA2 hEA hsA=> ?_;obtain⟨s1,es1,ps1,HS⟩:=H.ls.st3 (i:=s.at'+1) hrA hvA hbA2 hEA ⟨by omega,by omega⟩;replace H:=H.x HS hEA (by omega);replace q:=q.trans (LQ.of_x hEA);simp only[↓zp,zw,aA,d1,d2];refine dQ (e:=138) (n:=6) (vals:=[Value.int .u16 10,.int .u16 9,.int .u16 8,.int .u16 11,.int .u16 12,.int .u16 13]) Tryz.underlying185 (by kernel_rfl) rfl u16_row rfl (by omega) (by omega) fun vs h2 hrow hbs hE2 hz2=> ?_;obtain⟨b',n',cap',cs,rfl,hb',hn',ht',_⟩:=hrow.open (by decide);have hn6:n'=6:=by simpa using hn'
  subst hn6
  obtain⟨u,hu,hval⟩:∃u:Nat,u<65536∧[Value.int .u16 10,.int .u16 9,.int .u16 8,.int .u16 11,.int .u16 12,.int .u16 13][ix.toNat]? =some (.int .u16 (u:Int)):=by
   rcases(by omega:ix=0∨ix=1∨ix=2∨ix=3∨ix=4∨ix=5)with rfl|rfl|rfl|rfl|rfl|rfl
   ·exact⟨10,by omega,rfl⟩
   ·exact⟨9,by omega,rfl⟩
   ·exact⟨8,by omega,rfl⟩
   ·exact⟨11,by omega,rfl⟩
   ·exact⟨12,by omega,rfl⟩
   ·exact⟨13,by omega,rfl⟩
  have hcell:bG h2 b' (ix.toNat*1)=some (.int .u16 (u:Int)):=by
   rw[show ix.toNat*1=ix.toNat by omega,Row.cell (n:=6) (cap:=cap') hb' ht' (by simp;omega)];exact hval
  have b1:(0:Int)≤ix∧ix<((6:Nat):Int):=by omega
  have H2:=H.e0 hE2;have q2:=q.trans (LQ.of_0 (c:=c) (b:=b) (K:=K) hE2);simp only[↓zp,zw,aA,d1,d2,b1,hcell];refine bH (nY 152 (.inr rfl) H2.bs u hu (by have:=H2.fit;omega)) ?_;rintro _ hP ⟨rfl,KP,hBP,qP⟩;obtain⟨HP,qP2⟩:=H2.bld hBP qP (by simp) (by simp;omega);replace q2:=q2.trans qP2;simp only[↓zp,zw,aA,d1,d2];exact .inl ⟨s1,KP,_,rfl,HP,by simp;omega,q2,by omega,ps1⟩
 have d2:decide ((0:Int)≤ix)=false:=bD hi0;simp only[↓zp,zw,aA,d1,d2];refine bK (rS H.ls [13,10]) ?_
 cases hrn:hasB c.src s.at' [13,10]with
 |true=>
  have hlen:=gP hrn;simp only[aB,aD]at hlen;simp only[↓zp,zw,aA];have wA:IntKind.i64.wrap ((s.at':Int)+2)=((s.at'+2:Nat):Int):=cQ (a:=s.at') (b:=2) (by have:=H.ls.small;have:=H.ls.le;omega);obtain⟨voA,hbA,hrA,hvA⟩:=H.ls.body;simp only[↓zp,zw,aA,bE hbA,wA];refine bS hbA (by kernel_rfl) (by simp) rfl fun hA hbA2 hEA hsA=> ?_;obtain⟨s1,es1,ps1,HS⟩:=H.ls.st3 (i:=s.at'+2) hrA hvA hbA2 hEA ⟨by omega,by omega⟩;replace H:=H.x HS hEA (by omega);replace q:=q.trans (LQ.of_x hEA);simp only[↓zp,zw,aA]
  exact .inl ⟨s1,K,l,rfl,H,by omega,q,by omega,ps1⟩
 |false=>
 simp only[↓zp,zw,aA];refine bH (tJ H.ls) ?_;rintro _ h1 (⟨v,s1,rfl,H1,hE1,hR⟩|⟨hF,_⟩);rotate_left
 ·exact hF.elim
 rcases hR with⟨k,rfl,hk,rfl⟩|⟨rfl,hk,rfl⟩
 ·have hk':=iV nl_ne hk;have H2:=H.x H1 hE1 (by dsimp only;omega);simp only[↓zp,zw,aA];exact .inl ⟨_,K,l,rfl,H2,by dsimp only;omega,q.trans (LQ.of_x hE1),by dsimp only;omega,rfl⟩
 replace H:=H.x H1 hE1 (bA _);replace q:=q.trans (LQ.of_x (b:=b) (K:=K) hE1);simp only[↓zp,zw,aA];refine bK (mR _) ?_
 cases hdg:dU (bY c.src s1.at')with
 |true=>
  have e48:(((bY c.src s1.at').toNat:Int) !=48)= !(bY c.src s1.at'==48):=by
   have:=eA (c:=bY c.src s1.at') (n:=48) (by decide);show(!(((bY c.src s1.at').toNat:Int)==48))=_;rw[show(48:Int)=((48:Nat):Int) by rfl,this];rfl
  simp only[↓zp,zw,aA,e48]
  cases h48:bY c.src s1.at'==48 with
  |false=>
   simp only[↓zp,zw,aA];refine eF ?_
   exact .inr ⟨⟨f,rfl⟩,q.1⟩
  |true=>
   simp only[↓zp,zw,aA];refine bK (hH H.ls 1 (by omega)) ?_;simp only[↓zp,zw,aA];refine bK (mR _) ?_
   cases hd2:dU (bY c.src (s1.at'+1))with
   |true=>
    simp only[↓zp,zw,aA];refine eF ?_
    exact .inr ⟨⟨f,rfl⟩,q.1⟩
   |false=>
    simp only[↓zp,zw,aA];have wA:IntKind.i64.wrap ((s1.at':Int)+1)=((s1.at'+1:Nat):Int):=bI (a:=s1.at') (by have:=H.ls.small;have:=H.ls.le;omega);obtain⟨voA,hbA,hrA,hvA⟩:=H.ls.body;simp only[↓zp,zw,aA,bE hbA,wA];refine bS hbA (by kernel_rfl) (by simp) rfl fun hA hbA2 hEA hsA=> ?_;obtain⟨s2,es2,ps2,HS⟩:=H.ls.st3 (i:=s1.at'+1) hrA hvA hbA2 hEA ⟨by omega,by omega⟩;replace H:=H.x HS hEA (by omega);replace q:=q.trans (LQ.of_x hEA);simp only[↓zp,zw,aA];have h06:0<65536:=by omega
    refine bH (nY 152 (.inr rfl) H.bs 0 h06 (by have:=H.fit;omega)) ?_;rintro _ hP ⟨rfl,KP,hBP,qP⟩;obtain⟨HP,qP2⟩:=H.bld hBP qP (by simp) (by simp;omega);replace q:=q.trans qP2;simp only[↓zp,zw,aA]
    exact .inl ⟨s2,KP,_,rfl,HP,by simp;omega,q,by omega,ps2⟩
 |false=>
 have e120:(((bY c.src s1.at').toNat:Int)==120)=(bY c.src s1.at'==120):=eA (n:=120) (by decide);have e117:(((bY c.src s1.at').toNat:Int)==117)=(bY c.src s1.at'==117):=eA (n:=117) (by decide);have e123:(((bY c.src (s1.at'+1)).toNat:Int)==123)=(bY c.src (s1.at'+1)==123):=eA (n:=123) (by decide);simp only[↓zp,zw,aA,e120]
 cases hx:bY c.src s1.at'==120 with
 |true=>
  simp only[↓zp,zw,aA];have wA:IntKind.i64.wrap ((s1.at':Int)+1)=((s1.at'+1:Nat):Int):=bI (a:=s1.at') (by have:=H.ls.small;have:=H.ls.le;omega);obtain⟨voA,hbA,hrA,hvA⟩:=H.ls.body;simp only[↓zp,zw,aA,bE hbA,wA];refine bS hbA (by kernel_rfl) (by simp) rfl fun hA hbA2 hEA hsA=> ?_;obtain⟨s2,es2,ps2,HS⟩:=H.ls.st3 (i:=s1.at'+1) hrA hvA hbA2 hEA ⟨by omega,by omega⟩;replace H:=H.x HS hEA (by omega);replace q:=q.trans (LQ.of_x hEA);simp only[↓zp,zw,aA];refine bH (hex_c H.ls 2 2 (by omega) (by omega) f) ?_;rintro _ h3 (⟨_,s3,rfl,H3,hE3,r,hr3,rfl,hat3,hop3⟩|⟨_,⟨p,rfl⟩,hE3⟩);rotate_left
  ·exact .inr ⟨⟨p,rfl⟩,(q.trans (LQ.of_x (b:=b) (K:=K) hE3)).1⟩
  replace H:=H.x H3 hE3 (by omega);replace q:=q.trans (LQ.of_x (b:=b) (K:=K) hE3);simp only[↓zp,zw,aA];obtain⟨u,hu,eu⟩:=pQ (r:Int);rw[eu];refine bH (nY 152 (.inr rfl) H.bs u hu (by have:=H.fit;omega)) ?_;rintro _ hP ⟨rfl,KP,hBP,qP⟩;obtain⟨HP,qP2⟩:=H.bld hBP qP (by simp) (by simp;omega);replace q:=q.trans qP2;simp only[↓zp,zw,aA]
  exact .inl ⟨s3,KP,_,rfl,HP,by simp;omega,q,by omega,hop3.trans ps2⟩
 |false=>
 simp only[↓zp,zw,aA,e117]
 cases hu:bY c.src s1.at'==117 with
 |false=>
  simp only[↓zp,zw,aA,e117,hu];refine bH (vE H hl hlt) ?_;rintro _ h3 (⟨s3,K3,l3,rfl,H3,hl3,q3,hat3,hop3⟩|⟨⟨p,rfl⟩,hE3⟩);rotate_left
  ·exact .inr ⟨⟨p,rfl⟩,(q.trans ⟨hE3,.inl rfl⟩).1⟩
  simp only[↓zp,zw,aA]
  exact .inl ⟨s3,K3,l3,rfl,H3,hl3,q.trans q3,by omega,hop3⟩
 |true=>
  simp only[↓zp,zw,aA];refine bK (hH H.ls 1 (by omega)) ?_;simp only[↓zp,zw,aA,e123]
  cases hbr:bY c.src (s1.at'+1)==123 with
  |true=>
   have hlt2:=vG (by decide) (beq_iff_eq.1 hbr);simp only[↓zp,zw,aA];have wA:IntKind.i64.wrap ((s1.at':Int)+2)=((s1.at'+2:Nat):Int):=cQ (a:=s1.at') (b:=2) (by have:=H.ls.small;have:=H.ls.le;omega);obtain⟨voA,hbA,hrA,hvA⟩:=H.ls.body;simp only[↓zp,zw,aA,bE hbA,wA];refine bS hbA (by kernel_rfl) (by simp) rfl fun hA hbA2 hEA hsA=> ?_;obtain⟨s2,es2,ps2,HS⟩:=H.ls.st3 (i:=s1.at'+2) hrA hvA hbA2 hEA ⟨by omega,by omega⟩;replace H:=H.x HS hEA (by omega);replace q:=q.trans (LQ.of_x hEA);obtain⟨voB,hbB,_,_⟩:=H.ls.body;simp only[↓zp,zw,aA,bE hbB];refine bH (hex_c H.ls 1 c.src.length (by omega) (by omega) f) ?_;rintro _ h3 (⟨_,s3,rfl,H3,hE3,r,hr3,rfl,hat3,hop3⟩|⟨_,⟨p,rfl⟩,hE3⟩);rotate_left
   ·exact .inr ⟨⟨p,rfl⟩,(q.trans (LQ.of_x (b:=b) (K:=K) hE3)).1⟩
   replace H:=H.x H3 hE3 (by omega);replace q:=q.trans (LQ.of_x (b:=b) (K:=K) hE3);simp only[↓zp,zw,aA];refine bK (hH H.ls 0 (by omega)) ?_;simp only[↓zp,zw,aA,Nat.add_zero]
   have e125:(((bY c.src s3.at').toNat:Int) !=125)= !(bY c.src s3.at'==125):=by
    have:=eA (c:=bY c.src s3.at') (n:=125) (by decide);show(!(((bY c.src s3.at').toNat:Int)==125))=_;rw[show(125:Int)=((125:Nat):Int) by rfl,this];rfl
   simp only[↓zp,zw,aA,e125]
   cases h125:bY c.src s3.at'==125 with
   |false=>
    simp only[↓zp,zw,aA];refine eF ?_
    exact .inr ⟨⟨f,rfl⟩,q.1⟩
   |true=>
    have hlt3:=vG (by decide) (beq_iff_eq.1 h125);simp only[↓zp,zw,aA];have wA:IntKind.i64.wrap ((s3.at':Int)+1)=((s3.at'+1:Nat):Int):=bI (a:=s3.at') (by have:=H.ls.small;have:=H.ls.le;omega);obtain⟨voA,hbA,hrA,hvA⟩:=H.ls.body;simp only[↓zp,zw,aA,bE hbA,wA];refine bS hbA (by kernel_rfl) (by simp) rfl fun hA hbA2 hEA hsA=> ?_;obtain⟨s4,es4,ps4,HS⟩:=H.ls.st3 (i:=s3.at'+1) hrA hvA hbA2 hEA ⟨by omega,by omega⟩;replace H:=H.x HS hEA (by omega);replace q:=q.trans (LQ.of_x hEA);simp only[↓zp,zw,aA];refine bH (qB r hr3) ?_;rintro _ h4 ⟨lp,rfl,hev,h4l,_,hE4⟩;have H4:=H.e0 hE4;simp only[↓zp,zw,aA];refine bH (iA H4.bs lp (by have:=H4.fit;omega)) ?_;rintro _ h5 ⟨rfl,K5,hB5,q5⟩;obtain⟨H5,q6⟩:=H4.bld hB5 q5 hev (by omega);simp only[↓zp,zw,aA]
    exact .inl ⟨s4,K5,_,rfl,H5,by simp;omega,(q.trans (LQ.of_0 hE4)).trans q6,by omega,ps4.trans (hop3.trans ps2)⟩
  |false=>
   simp only[↓zp,zw,aA,e117,hu];have wA:IntKind.i64.wrap ((s1.at':Int)+1)=((s1.at'+1:Nat):Int):=bI (a:=s1.at') (by have:=H.ls.small;have:=H.ls.le;omega);obtain⟨voA,hbA,hrA,hvA⟩:=H.ls.body;simp only[↓zp,zw,aA,e117,hu,bE hbA,wA];refine bS hbA (by kernel_rfl) (by simp) rfl fun hA hbA2 hEA hsA=> ?_;obtain⟨s2,es2,ps2,HS⟩:=H.ls.st3 (i:=s1.at'+1) hrA hvA hbA2 hEA ⟨by omega,by omega⟩;replace H:=H.x HS hEA (by omega);replace q:=q.trans (LQ.of_x hEA);simp only[↓zp,zw,aA];refine bH (hex_c H.ls 4 4 (by omega) (by omega) f) ?_;rintro _ h3 (⟨_,s3,rfl,H3,hE3,r,hr3,rfl,hat3,hop3⟩|⟨_,⟨p,rfl⟩,hE3⟩);rotate_left
   ·exact .inr ⟨⟨p,rfl⟩,(q.trans (LQ.of_x (b:=b) (K:=K) hE3)).1⟩
   replace H:=H.x H3 hE3 (by omega);replace q:=q.trans (LQ.of_x (b:=b) (K:=K) hE3);simp only[↓zp,zw,aA];obtain⟨u,hu16,eu⟩:=pQ (r:Int);rw[eu];refine bH (nY 152 (.inr rfl) H.bs u hu16 (by have:=H.fit;omega)) ?_;rintro _ hP ⟨rfl,KP,hBP,qP⟩;obtain⟨HP,qP2⟩:=H.bld hBP qP (by simp) (by simp;omega);replace q:=q.trans qP2;simp only[↓zp,zw,aA];exact .inl ⟨s3,KP,_,rfl,HP,by simp;omega,q,by omega,hop3.trans ps2⟩
end
end
section
def tkV(k:Nat)(text str:List UInt8)(num:Nat):Value:=.agg (Tk.cells ⟨k,text,str,num,0,0,false⟩).toArray
section
variable{h0 h h':Heap}{c:LC}{L b K K':Nat}{s:LSt}{l:List UInt8}
theorem LQ.out(hE:Ext [c.x] h0 h)(q:LQ c b h K h' K')(hb:h0.size≤b)(hK:h0.size≤K):Ext [c.x] h0 h'∧h0.size≤K':=by
 refine⟨hE.trans_new q.1 fun y hy=> ?_,?_⟩
 ·simp at hy;rcases hy with rfl|rfl|rfl
  ·exact .inr (by simp)
  ·exact .inl hb
  ·exact .inl hK
 ·rcases q.2 with e|e
  ·omega
  ·exact Nat.le_trans hE.1 e
theorem LB.new(H:LS h0 c L s)(hE:Ext [] h0 h)(hB:BS h b b [])(hb:h0.size≤b):LB h c L b b s []:=by
 have h1:=H.lt;have h2:=H.ltL;have h3:=H.list.lt;have h4:=H.glob.1;have hf:b≠c.x∧b≠L∧b∉c.U∧c.hI.size≤b:=⟨by omega,by omega,fun hm=>by have:=h3 _ hm;omega,by omega⟩;exact⟨H.ext0 hE,hB,hf,hf,rfl,by simp⟩
def z73:List Value:=[.int .i64 0,.string ⟨[].toArray⟩,.string ⟨[].toArray⟩,.float .f64 0,.int .i64 0,.int .i64 0,.bool false]
theorem pR(H:LS h c L s)(hlt:s.at'<c.src.length):C aE 119 #[.pointer (some ⟨c.x,0,none⟩)] h
 (LOut c h L (fun v s'=> ∃l:List UInt8,v=tkV 5 [] l 0∧l.length%2=0∧s.at'<s'.at'∧s'.key=s.key) True):=by
 have hs:=H.small;have ha:=H.le;have hxl:=H.lt;have b1:(0:Int)≤(s.at':Int):=by omega
 have hE1:Ext [] h (h.push (.cells z73.toArray 73)):=Ext.push _ _ _;have hb2:Blk (h.push (.cells z73.toArray 73)) h.size z73 73:=Blk.new;have hz1:(h.push (.cells z73.toArray 73)).size=h.size+1:=by simp
 refine C_in Tryz.func119 rfl rfl (by kernel_rfl) (aG rfl) ?_;simp only[↓zp,zw,aA];rw[show h.push (.cells #[.int .i64 0,.string ⟨#[]⟩,.string ⟨#[]⟩,.float .f64 0,.int .i64 0,.int .i64 0,.bool false] 73)=h.push (.cells z73.toArray 73)from rfl];generalize h.push (.cells z73.toArray 73)=h1 at hE1 hb2 hz1⊢;have H1:=H.ext0 hE1;obtain⟨vo,hb,hr,hvo⟩:=H1.body;refine bR 14 (by kernel_rfl) (by kernel_rfl) (by kernel_rfl) ?_;simp only[↓zp,zw,aA,bE hb,b1,aF,hlt];have hE2:Ext [] h1 (h1.push (.cells #[.pointer none,.slice none 0 0] 115)):=Ext.push _ _ _;have HB:=BS.new (h:=h1);have hz2:(h1.push (.cells #[.pointer none,.slice none 0 0] 115)).size=h.size+2:=by simp[hz1]
 generalize h1.push (.cells #[.pointer none,.slice none 0 0] 115)=h2 at hE2 HB hz2⊢;generalize hb5:h1.size=b5 at HB⊢;have H2:LB h2 c L b5 b5 s []:=LB.new H1 hE2 HB (by omega);replace hb2:=hb2.ext hE2 (by simp);have q:LQ c b5 h2 b5 h2 b5:=LQ.refl;have wA:IntKind.i64.wrap ((s.at':Int)+1)=((s.at'+1:Nat):Int):=bI (a:=s.at') (by have:=H2.ls.small;have:=H2.ls.le;omega);obtain⟨voA,hbA,hrA,hvA⟩:=H2.ls.body;simp only[↓zp,zw,aA,bE hbA,wA];refine bS hbA (by kernel_rfl) (by simp) rfl fun hA hbA2 hEA hsA=> ?_;obtain⟨s1,es1,ps1,HS⟩:=H2.ls.st3 (i:=s.at'+1) hrA hvA hbA2 hEA ⟨by omega,by omega⟩;replace H2:=H2.x HS hEA (by omega);replace q:=q.trans (LQ.of_x hEA);simp only[↓zp,zw,aA];have hx0:Ext [c.x] h h2:=(hE1.trans hE2).of_nil
 refine⟨fun m ρ h'=> ∃s' K' l',ρ 0=.pointer (some ⟨c.x,0,none⟩)∧ρ 2=.pointer (some ⟨h.size,0,none⟩)∧ρ 3=.int .i64 (s.at':Int)∧ρ 4=.int .u8 ((c.src[s.at']).toNat:Int)∧ρ 5=.pointer (some ⟨b5,0,none⟩)∧LB h' c L b5 K' s' l'∧l'.length≤4*s'.at'∧LQ c b5 h2 b5 h' K'∧Blk h' h.size z73 73∧h.size≠K'∧s.at'<s'.at'∧s'.key=s.key∧m=c.src.length-s'.at',c.src.length-s1.at',
  ⟨s1,b5,[],by simp only[↓zp,zw,aA],by simp only[↓zp,zw,aA],by simp only[↓zp,zw,aA],by simp only[↓zp,zw,aA],by simp only[↓zp,zw,aA],H2,by simp,q,hb2.ext hEA (by simp;omega),by omega,by omega,ps1,rfl⟩,?_⟩
 clear hEA hbA2 hsA HS HB H2 q hbA hrA hvA;rintro m ρ h3 ⟨s3,K3,l3,g0,g2,g3,g4,g5,H3,hl3,q3,hb23,hK3,hat3,hop3,hm⟩;have hs3:=H3.ls.small;have ha3:=H3.ls.le;simp only[↓zp,zw,aA,g0,g2,g3,g4,g5];refine bK (hH H3.ls 0 (by omega)) ?_;simp only[↓zp,zw,aA,g0,g2,g3,g4,g5,Nat.add_zero];refine bR 18 (by kernel_rfl) (by kernel_rfl) (by kernel_rfl) ?_;obtain⟨vo3,hb3,_,_⟩:=H3.ls.body;by_cases hge:c.src.length≤s3.at'
 ·have d1:decide ((c.src.length:Int)≤(s3.at':Int))=true:=bC (by omega);simp only[↓zp,zw,aA,g0,g2,g3,g4,g5,bE hb3,d1];refine eF ?_;exact .inr ⟨trivial,⟨s.at',rfl⟩,(LQ.out hx0 q3 (by omega) (by omega)).1.mono fun y hy=>by simp at hy;simp[hy]⟩
 have d1:decide ((c.src.length:Int)≤(s3.at':Int))=false:=bD (by omega);have e10:(((bY c.src s3.at').toNat:Int)==10)=(bY c.src s3.at'==10):=eA (n:=10) (by decide);have e13:(((bY c.src s3.at').toNat:Int)==13)=(bY c.src s3.at'==13):=eA (n:=13) (by decide);have e92:(((bY c.src s3.at').toNat:Int)==92)=(bY c.src s3.at'==92):=eA (n:=92) (by decide)
 cases h10:bY c.src s3.at'==10 with
 |true=>
  simp only[↓zp,zw,aA,g0,g2,g3,g4,g5,bE hb3,d1,e10,h10];refine eF ?_
  exact .inr ⟨trivial,⟨s.at',rfl⟩,(LQ.out hx0 q3 (by omega) (by omega)).1.mono fun y hy=>by simp at hy;simp[hy]⟩
 |false=>
 cases h13:bY c.src s3.at'==13 with
 |true=>
  simp only[↓zp,zw,aA,g0,g2,g3,g4,g5,bE hb3,d1,e10,h10,e13,h13];refine eF ?_
  exact .inr ⟨trivial,⟨s.at',rfl⟩,(LQ.out hx0 q3 (by omega) (by omega)).1.mono fun y hy=>by simp at hy;simp[hy]⟩
 |false=>
 simp only[↓zp,zw,aA,g0,g2,g3,g4,g5,bE hb3,d1,e10,h10,e13,h13]
 cases hq:((bY c.src s3.at').toNat:Int)==((c.src[s.at']).toNat:Int)with
 |true=>
  simp only[↓zp,zw,aA,g0,g2,g3,g4,g5];have wA:IntKind.i64.wrap ((s3.at':Int)+1)=((s3.at'+1:Nat):Int):=bI (a:=s3.at') (by have:=H3.ls.small;have:=H3.ls.le;omega);obtain⟨voA,hbA,hrA,hvA⟩:=H3.ls.body;simp only[↓zp,zw,aA,g0,g2,g3,g4,g5,bE hbA,wA];refine bS hbA (by kernel_rfl) (by simp) rfl fun hA hbA2 hEA hsA=> ?_;obtain⟨s4,es4,ps4,HS⟩:=H3.ls.st3 (i:=s3.at'+1) hrA hvA hbA2 hEA ⟨by omega,by omega⟩;replace H3:=H3.x HS hEA (by omega);replace q3:=q3.trans (LQ.of_x hEA);simp only[↓zp,zw,aA,g0,g2,g3,g4,g5];refine bH (jV H3.bs (by have:=H3.fit;omega)) ?_;rintro _ h5 ⟨rfl,hE5⟩;have hb25:=(hb23.ext hEA (by simp;omega)).ext hE5 (by simpa using hK3);simp only[↓zp,zw,aA,g0,g2,g3,g4,g5];refine cM hb25 (by kernel_rfl) rfl (by simp[z73]) rfl fun h6 hb6 hE6 hs6=> ?_;simp only[↓zp,zw,aA,g0,g2,g3,g4,g5,bQ hb6 (n:=7) rfl];have E5:Ext [c.x] h h5:=(LQ.out hx0 q3 (by omega) (by omega)).1.trans_new hE5 fun y hy=> .inl (by simp at hy;subst hy;exact(LQ.out hx0 q3 (by omega) (by omega)).2);have E6:Ext [c.x] h h6:=E5.trans_new hE6 fun y hy=> .inl (by simp at hy;omega);have L5:=H3.ls.ext hE5 (fun y hy=>by simp at hy;subst hy;exact H3.ok);have hU:=H.list.lt;have hLl:=H.ltL;have hgl:=H.glob.1;have L6:=L5.ext hE6 (fun y hy=>by simp at hy;subst hy;exact⟨by omega,by omega,fun hm=>by have:=hU _ hm;omega,by omega⟩)
  exact XOut.toL (.inl ⟨_,s4,rfl,L6,E6,l3,rfl,H3.ev,by omega,ps4.trans hop3⟩)
 |false=>
  simp only[↓zp,zw,aA,g0,g2,g3,g4,g5,e92]
  cases h92:bY c.src s3.at'==92 with
  |true=>
   simp only[↓zp,zw,aA,g0,g2,g3,g4,g5];have wA:IntKind.i64.wrap ((s3.at':Int)+1)=((s3.at'+1:Nat):Int):=bI (a:=s3.at') (by have:=H3.ls.small;have:=H3.ls.le;omega);obtain⟨voA,hbA,hrA,hvA⟩:=H3.ls.body;simp only[↓zp,zw,aA,g0,g2,g3,g4,g5,bE hbA,wA];refine bS hbA (by kernel_rfl) (by simp) rfl fun hA hbA2 hEA hsA=> ?_;obtain⟨s4,es4,ps4,HS⟩:=H3.ls.st3 (i:=s3.at'+1) hrA hvA hbA2 hEA ⟨by omega,by omega⟩;replace H3:=H3.x HS hEA (by omega);replace q3:=q3.trans (LQ.of_x hEA);simp only[↓zp,zw,aA,g0,g2,g3,g4,g5];refine bH (yN H3 (by omega) s.at') ?_;rintro _ h5 (⟨s5,K5,l5,rfl,H5,hl5,q5,hat5,hop5⟩|⟨⟨p,rfl⟩,hE5⟩);rotate_left
   ·exact .inr ⟨trivial,⟨p,rfl⟩,(LQ.out hx0 (q3.trans ⟨hE5,.inl rfl⟩) (by omega) (by omega)).1.mono fun y hy=>by simp at hy;simp[hy]⟩
   have q6:=q3.trans q5;have ho6:=(LQ.out hx0 q6 (by omega) (by omega)).2;have ha5:=H5.ls.le;simp only[↓zp,zw,aA,g0,g2,g3,g4,g5]
   exact⟨c.src.length-s5.at',by omega,s5,K5,l5,by first|trivial|simp only[↓zp,zw,aA,g0],by first|trivial|simp only[↓zp,zw,aA,g2],by first|trivial|simp only[↓zp,zw,aA,g3],by first|trivial|simp only[↓zp,zw,aA,g4],by first|trivial|simp only[↓zp,zw,aA,g5],H5,hl5,q6,(hb23.ext hEA (by simp;omega)).ext q5.1 (by simp;omega),by have:=q3.1.1;rcases q5.2 with e|e<;>omega,by omega,hop5.trans (ps4.trans hop3),rfl⟩
  |false=>
   simp only[↓zp,zw,aA,g0,g2,g3,g4,g5];refine bH (vE H3 hl3 (by omega)) ?_;rintro _ h5 (⟨s5,K5,l5,rfl,H5,hl5,q5,hat5,hop5⟩|⟨⟨p,rfl⟩,hE5⟩);rotate_left
   ·exact .inr ⟨trivial,⟨p,rfl⟩,(LQ.out hx0 (q3.trans ⟨hE5,.inl rfl⟩) (by omega) (by omega)).1.mono fun y hy=>by simp at hy;simp[hy]⟩
   have q6:=q3.trans q5;have ho6:=(LQ.out hx0 q6 (by omega) (by omega)).2;have ha5:=H5.ls.le;simp only[↓zp,zw,aA,g0,g2,g3,g4,g5];exact⟨c.src.length-s5.at',by omega,s5,K5,l5,by first|trivial|simp only[↓zp,zw,aA,g0],by first|trivial|simp only[↓zp,zw,aA,g2],by first|trivial|simp only[↓zp,zw,aA,g3],by first|trivial|simp only[↓zp,zw,aA,g4],by first|trivial|simp only[↓zp,zw,aA,g5],H5,hl5,q6,hb23.ext q5.1 (by simp;omega),by have:=q3.1.1;rcases q5.2 with e|e<;>omega,by omega,hop5.trans hop3,rfl⟩
end
end
section
theorem iU(l:List Int):(opV l).length=l.length:=by simp[opV]
theorem opV_app(l m:List Int):opV (l++m)=opV l++opV m:=by simp[opV]
theorem opV_one(l:List Int):one' (opV l)=true:=by
 rw[gO];intro v hv;simp[opV]at hv;obtain⟨k,_,rfl⟩:=hv;rfl
section
variable{h0 h h' h1 h2:Heap}{c:LC}{L b K K':Nat}{s:LSt}{l:List UInt8}
theorem LS.app {vo v1:Value} {op':List Int} (H:LS h c L s) (hv:∀b,b∈blks vo→b=L∧b≠c.x) (hr:Row h1 v1 3 1 (opV op'))
 (hc:(blks v1=blks vo∧Ext (blks vo) h h1∧h1.size=h.size)∨(blks v1=[h.size]∧Ext [] h h1∧h1.size=h.size+1))
 (hb2:Blk h2 c.x [.string ⟨c.src.toArray⟩,.int .i64 (s.at':Int),.bool s.line,v1,c.vl] 99) (hE:Ext [c.x] h1 h2) (hop:op'.length≤s.at'):
 ∃L',LS h2 c L' {s with op:=op'}∧Par c.pc h L c.U h2 L' c.U∧(L'=L∨h.size≤L'):=by
 have hx:=H.lt;have hL:=H.ltL;have hU:=H.list.lt;have hg:=H.glob.1
 have key:∀L',(∀k,k∈blks v1→k=L'∧k≠c.x)→(L'=L∨h.size≤L')→L'<h2.size→c.hI.size≤L'→Ext [c.x,L] h h2→∃L',LS h2 c L' {s with op:=op'}∧Par c.pc h L c.U h2 L' c.U∧(L'=L∨h.size≤L'):=by
  intro L' k1 k2 k3 k4 k5;refine⟨L',⟨⟨v1,hb2,hr.ext hE fun k hk hm=>by simp at hm;exact(k1 k hk).2 hm,k1⟩,k3,H.list.ext k5 fun k hk hm=> ?_,fun k hk=> ?_,H.le,H.small,hop,H.glob.trans_new k5 fun y hy=> ?_,H.gx,k4⟩,⟨k2,fun _ h=> .inl h,k5⟩,k2⟩
  ·simp at hm;rcases hm with e|e
   ·exact(H.listU k hk).1 e
   ·exact(H.listU k hk).2 e
  ·refine⟨(H.listU k hk).1,fun e=> ?_⟩;have h3:=hU k hk;rcases k2 with e2|e2
   ·exact(H.listU k hk).2 (e.trans e2)
   ·omega
  ·simp at hy;rcases hy with rfl|rfl
   ·exact .inl H.gx
   ·exact .inl H.gL
 rcases hc with⟨e1,e2,e3⟩|⟨e1,e2,e3⟩
 ·refine key L (fun k hk=>hv k (by rwa [e1]at hk)) (.inl rfl) (by have:=hE.1;omega) H.gL ?_;exact(e2.mono fun y hy=>by simp[(hv y hy).1]).trans (hE.mono fun y hy=>by simp at hy;simp[hy])
 ·refine key h.size (fun k hk=>by rw[e1]at hk;simp at hk;omega) (.inr (bA _)) (by have:=hE.1;omega) (by omega) ?_;exact e2.of_nil.trans (hE.mono fun y hy=>by simp at hy;simp[hy])
theorem vF(H:LS h c L s)(hlt:s.at'<c.src.length)(kw kp:Nat):C aE 120 #[.pointer (some ⟨c.x,0,none⟩),.int .i64 (kw:Int),.int .i64 (kp:Int)] h
 (LOut c h L (fun v s'=> ∃(k:Nat) (l:List UInt8),(k=kw∨k=kp)∧v=tkV k [] l 0∧l.length%2=0∧s.at'<s'.at'∧s'.line=s.line) True):=by
 have hs:=H.small;have ha:=H.le;have hxl:=H.lt;have hE1:Ext [] h (h.push (.cells z73.toArray 73)):=Ext.push _ _ _;have hb2:Blk (h.push (.cells z73.toArray 73)) h.size z73 73:=Blk.new;have hz1:(h.push (.cells z73.toArray 73)).size=h.size+1:=by simp
 refine C_in Tryz.func120 rfl rfl (by kernel_rfl) (aG rfl) ?_;simp only[↓zp,zw,aA];rw[show h.push (.cells #[.int .i64 0,.string ⟨#[]⟩,.string ⟨#[]⟩,.float .f64 0,.int .i64 0,.int .i64 0,.bool false] 73)=h.push (.cells z73.toArray 73)from rfl];generalize h.push (.cells z73.toArray 73)=h1 at hE1 hb2 hz1⊢;have H1:=H.ext0 hE1;obtain⟨vo,hb,hr,hvo⟩:=H1.body;simp only[↓zp,zw,aA,bE hb];have hE2:Ext [] h1 (h1.push (.cells #[.pointer none,.slice none 0 0] 115)):=Ext.push _ _ _;have HB:=BS.new (h:=h1);have hz2:(h1.push (.cells #[.pointer none,.slice none 0 0] 115)).size=h.size+2:=by simp[hz1]
 generalize h1.push (.cells #[.pointer none,.slice none 0 0] 115)=h2 at hE2 HB hz2⊢;generalize hb5:h1.size=b5 at HB⊢;have H2:LB h2 c L b5 b5 s []:=LB.new H1 hE2 HB (by omega);replace hb2:=hb2.ext hE2 (by simp);have q:LQ c b5 h2 b5 h2 b5:=LQ.refl;have hx0:Ext [c.x] h h2:=(hE1.trans hE2).of_nil;have wA:IntKind.i64.wrap ((s.at':Int)+1)=((s.at'+1:Nat):Int):=bI (a:=s.at') (by have:=H2.ls.small;have:=H2.ls.le;omega);obtain⟨voA,hbA,hrA,hvA⟩:=H2.ls.body;simp only[↓zp,zw,aA,bE hbA,wA];refine bS hbA (by kernel_rfl) (by simp) rfl fun hA hbA2 hEA hsA=> ?_;obtain⟨s1,es1,ps1,HS⟩:=H2.ls.st3 (i:=s.at'+1) hrA hvA hbA2 hEA ⟨by omega,by omega⟩;replace H2:=H2.x HS hEA (by omega);replace q:=q.trans (LQ.of_x hEA);simp only[↓zp,zw,aA]
 refine⟨fun m ρ h'=> ∃s' K' l',ρ 0=.pointer (some ⟨c.x,0,none⟩)∧ρ 1=.int .i64 (kw:Int)∧ρ 2=.int .i64 (kp:Int)∧ρ 6=.pointer (some ⟨h.size,0,none⟩)∧ρ 7=.int .i64 (s.at':Int)∧ρ 8=.pointer (some ⟨b5,0,none⟩)∧LB h' c L b5 K' s' l'∧l'.length≤4*s'.at'∧LQ c b5 h2 b5 h' K'∧Blk h' h.size z73 73∧h.size≠K'∧s.at'<s'.at'∧s'.key=s.key∧m=c.src.length-s'.at',c.src.length-s1.at',
  ⟨s1,b5,[],by simp only[↓zp,zw,aA],by simp only[↓zp,zw,aA],by simp only[↓zp,zw,aA],by simp only[↓zp,zw,aA],by simp only[↓zp,zw,aA],by simp only[↓zp,zw,aA],H2,by simp,q,hb2.ext hEA (by simp;omega),by omega,by omega,ps1,rfl⟩,?_⟩
 clear hEA hbA2 hsA HS HB H2 q hbA hrA hvA;rintro m ρ h3 ⟨s3,K3,l3,g0,g1,g2,g6,g7,g8,H3,hl3,q3,hb23,hK3,hat3,hop3,hm⟩;have hs3:=H3.ls.small;have ha3:=H3.ls.le;have hU:=H.list.lt;have hLl:=H.ltL;have hgl:=H.glob.1;have hz3:=q3.1.1;simp only[↓zp,zw,aA,g0,g1,g2,g6,g7,g8];refine bK (hH H3.ls 0 (by omega)) ?_;simp only[↓zp,zw,aA,g0,g1,g2,g6,g7,g8,Nat.add_zero];refine bR 10 (by kernel_rfl) (by kernel_rfl) (by kernel_rfl) ?_;obtain⟨vo3,hb3,_,_⟩:=H3.ls.body;by_cases hge:c.src.length≤s3.at'
 ·have d1:decide ((c.src.length:Int)≤(s3.at':Int))=true:=bC (by omega);simp only[↓zp,zw,aA,g0,g1,g2,g6,g7,g8,bE hb3,d1];refine eF ?_;exact .inr ⟨trivial,⟨s.at',rfl⟩,(LQ.out hx0 q3 (by omega) (by omega)).1.mono fun y hy=>by simp at hy;simp[hy]⟩
 have d1:decide ((c.src.length:Int)≤(s3.at':Int))=false:=bD (by omega);have e96:(((bY c.src s3.at').toNat:Int)==96)=(bY c.src s3.at'==96):=eA (n:=96) (by decide);have e13:(((bY c.src s3.at').toNat:Int)==13)=(bY c.src s3.at'==13):=eA (n:=13) (by decide);have e92:(((bY c.src s3.at').toNat:Int)==92)=(bY c.src s3.at'==92):=eA (n:=92) (by decide);simp only[↓zp,zw,aA,g0,g1,g2,g6,g7,g8,bE hb3,d1,e96]
 cases h96:bY c.src s3.at'==96 with
 |true=>
  simp only[↓zp,zw,aA,g0,g1,g2,g6,g7,g8];have wA:IntKind.i64.wrap ((s3.at':Int)+1)=((s3.at'+1:Nat):Int):=bI (a:=s3.at') (by have:=H3.ls.small;have:=H3.ls.le;omega);obtain⟨voA,hbA,hrA,hvA⟩:=H3.ls.body;simp only[↓zp,zw,aA,g0,g1,g2,g6,g7,g8,bE hbA,wA];refine bS hbA (by kernel_rfl) (by simp) rfl fun hA hbA2 hEA hsA=> ?_;obtain⟨s4,es4,ps4,HS⟩:=H3.ls.st3 (i:=s3.at'+1) hrA hvA hbA2 hEA ⟨by omega,by omega⟩;replace H3:=H3.x HS hEA (by omega);replace q3:=q3.trans (LQ.of_x hEA);simp only[↓zp,zw,aA,g0,g1,g2,g6,g7,g8];refine bH (jV H3.bs (by have:=H3.fit;omega)) ?_;rintro _ h5 ⟨rfl,hE5⟩;have hb25:=(hb23.ext hEA (by simp;omega)).ext hE5 (by simpa using hK3);simp only[↓zp,zw,aA,g0,g1,g2,g6,g7,g8];refine cM hb25 (by kernel_rfl) rfl (by simp[z73]) rfl fun h6 hb6 hE6 hs6=> ?_;simp only[↓zp,zw,aA,g0,g1,g2,g6,g7,g8,bQ hb6 (n:=7) rfl];have E5:Ext [c.x] h h5:=(LQ.out hx0 q3 (by omega) (by omega)).1.trans_new hE5 fun y hy=> .inl (by simp at hy;subst hy;exact(LQ.out hx0 q3 (by omega) (by omega)).2);have E6:Ext [c.x] h h6:=E5.trans_new hE6 fun y hy=> .inl (by simp at hy;omega);have L5:=H3.ls.ext hE5 (fun y hy=>by simp at hy;subst hy;exact H3.ok);have L6:=L5.ext hE6 (fun y hy=>by simp at hy;subst hy;exact⟨by omega,by omega,fun hm=>by have:=hU _ hm;omega,by omega⟩)
  exact XOut.toL (.inl ⟨_,s4,rfl,L6,E6,kw,l3,.inl rfl,rfl,H3.ev,by omega,congrArg Prod.snd (ps4.trans hop3)⟩)
 |false=>
 simp only[↓zp,zw,aA,g0,g1,g2,g6,g7,g8];refine bK (rS H3.ls [36,123]) ?_
 cases hdo:hasB c.src s3.at' [36,123]with
 |true=>
  have hlen:=gP hdo;simp only[aB,aD]at hlen;simp only[↓zp,zw,aA,g0,g1,g2,g6,g7,g8];have wA:IntKind.i64.wrap ((s3.at':Int)+2)=((s3.at'+2:Nat):Int):=cQ (a:=s3.at') (b:=2) (by have:=H3.ls.small;have:=H3.ls.le;omega);obtain⟨voA,hbA,hrA,hvA⟩:=H3.ls.body;simp only[↓zp,zw,aA,g0,g1,g2,g6,g7,g8,bE hbA,wA];refine bS hbA (by kernel_rfl) (by simp) rfl fun hA hbA2 hEA hsA=> ?_;obtain⟨s4,es4,ps4,HS⟩:=H3.ls.st3 (i:=s3.at'+2) hrA hvA hbA2 hEA ⟨by omega,by omega⟩;replace H3:=H3.x HS hEA (by omega);replace q3:=q3.trans (LQ.of_x hEA);obtain⟨vo5,hb5,hr5,hv5⟩:=H3.ls.body;simp only[↓zp,zw,aA,g0,g1,g2,g6,g7,g8,bE hb5];refine dQ (vals:=opV [0]) (e:=3) Tryz.underlying33 (by kernel_rfl) rfl (opV_one _) rfl (by omega) (by omega) fun v6 h6 hr6 hb6 hE6 hs6=> ?_;have H6:=H3.e0 hE6;have hb56:=hb5.ext hE6 (by simp);simp only[↓zp,zw,aA,g0,g1,g2,g6,g7,g8]
  refine fX (n:=1) (tx:=33) (e:=3) (sz:=1) (news:=opV [0]) (hr5.ext hE6 (by simp)) Tryz.underlying33 (by kernel_rfl) (fun w hw=>by
   obtain⟨n,hn,hs⟩:=hr6.src (P:=aE) (tx:=33) (e':=3) Tryz.underlying33 (opV_one _) w hw;have:n=1:=by simpa[iU]using hn
   subst this;exact hs) (by rw[iU,iU];have:=H3.ls.opl;simp;omega) fun v7 h7 hr7 hc7=> ?_
  have hE7:Ext [L] h6 h7:=by
   rcases hc7 with⟨_,e,_⟩|⟨_,e,_⟩
   ·exact e.mono fun y hy=>by simp[(hv5 y hy).1]
   ·exact e.of_nil
  have hb57:Blk h7 c.x [.string ⟨c.src.toArray⟩,.int .i64 (s4.at':Int),.bool s4.line,vo5,c.vl] 99:=by
   rcases hc7 with⟨_,e,_⟩|⟨_,e,_⟩
   ·exact hb56.ext e fun hm=>(hv5 _ hm).2 rfl
   ·exact hb56.ext e (by simp)
  obtain⟨a7,n7,c7,rfl,_⟩:=hr7.shape;simp only[↓zp,zw,aA,g0,g1,g2,g6,g7,g8];refine bS hb57 (by kernel_rfl) (by simp) rfl fun h8 hb8 hE8 hs8=> ?_;rw[←opV_app]at hr7;obtain⟨L',HL8,p8,hL'⟩:=LS.app H6.ls hv5 hr7 hc7 hb8 hE8 (by have ho4:s4.op=s.op:=congrArg Prod.fst (ps4.trans hop3);have:=H6.ls.opl;have:=H3.ls.opl;simp;rw[ho4];have:=H.opl;omega);have hob:=H6.ob;have hok:=H6.ok;have hKl:K3<h6.size:=by obtain⟨_,_,_,_,_,_,h5⟩:=H6.bs;exact h5
  have B8:BS h8 b5 K3 l3:=(H6.bs.ext hE7 (by simpa using hob.2.1) (by simpa using hok.2.1)).ext hE8 (by simpa using hob.1) (by simpa using hok.1);simp only[↓zp,zw,aA,g0,g1,g2,g6,g7,g8];refine bH (jV B8 (by have:=H3.fit;omega)) ?_;rintro _ h9 ⟨rfl,hE9⟩;have hz4:=hEA.1;have b24:=hb23.ext hEA (by simp;omega);have b26:=b24.ext hE6 (by simp);have b27:=b26.ext hE7 (by simp;omega);have b28:=b27.ext hE8 (by simp;omega);have hb29:=b28.ext hE9 (by simpa using hK3);simp only[↓zp,zw,aA,g0,g1,g2,g6,g7,g8];refine cM hb29 (by kernel_rfl) rfl (by simp[z73]) rfl fun h10 hb10 hE10 hs10=> ?_;simp only[↓zp,zw,aA,g0,g1,g2,g6,g7,g8,bQ hb10 (n:=7) rfl]
  have hLK:K3≠L':=by
   rcases hL' with e|e
   ·exact fun e2=>hok.2.1 (e2.trans e)
   ·omega
  have hLb:h.size≠L':=by
   rcases hL' with e|e
   ·omega
   ·omega
  have L9:=HL8.ext hE9 (fun y hy=>by simp at hy;subst hy;exact⟨hok.1,hLK,hok.2.2.1,hok.2.2.2⟩);have L10:=L9.ext hE10 (fun y hy=>by simp at hy;subst hy;exact⟨by omega,hLb,fun hm=>by have:=hU _ hm;omega,by omega⟩);have E4:Ext [c.x] h hA:=(LQ.out hx0 q3 (by omega) (by omega)).1;have hK0:=(LQ.out hx0 q3 (by omega) (by omega)).2;have E8:Ext [c.x,L] h h8:=((E4.mono fun y hy=>by simp at hy;simp[hy]).trans (hE6.of_nil)).trans p8.E;have E9:Ext [c.x,L] h h9:=E8.trans_new hE9 fun y hy=> .inl (by simp at hy;omega);have E10:Ext [c.x,L] h h10:=E9.trans_new hE10 fun y hy=> .inl (by simp at hy;omega);have hz6:=hE6.1
  exact .inl ⟨_,_,L',rfl,L10,⟨hL'.imp id fun e=>by have:=E4.1;omega,fun _ h=> .inl h,E10⟩,kp,l3,.inr rfl,rfl,H3.ev,by dsimp only;omega,congrArg Prod.snd (ps4.trans hop3)⟩
 |false=>
 simp only[↓zp,zw,aA,g0,g1,g2,g6,g7,g8,e13]
 cases h13:bY c.src s3.at'==13 with
 |true=>
  simp only[↓zp,zw,aA,g0,g1,g2,g6,g7,g8];have wA:IntKind.i64.wrap ((s3.at':Int)+1)=((s3.at'+1:Nat):Int):=bI (a:=s3.at') (by have:=H3.ls.small;have:=H3.ls.le;omega);obtain⟨voA,hbA,hrA,hvA⟩:=H3.ls.body;simp only[↓zp,zw,aA,g0,g1,g2,g6,g7,g8,bE hbA,wA];refine bS hbA (by kernel_rfl) (by simp) rfl fun hA hbA2 hEA hsA=> ?_;obtain⟨s4,es4,ps4,HS⟩:=H3.ls.st3 (i:=s3.at'+1) hrA hvA hbA2 hEA ⟨by omega,by omega⟩;replace H3:=H3.x HS hEA (by omega);replace q3:=q3.trans (LQ.of_x hEA);simp only[↓zp,zw,aA,g0,g1,g2,g6,g7,g8];refine bK (hH H3.ls 0 (by omega)) ?_;have e10:(((bY c.src s4.at').toNat:Int)==10)=(bY c.src s4.at'==10):=eA (n:=10) (by decide);simp only[↓zp,zw,aA,g0,g1,g2,g6,g7,g8,Nat.add_zero,e10];have hb24:=hb23.ext hEA (by simp;omega)
  cases h10:bY c.src s4.at'==10 with
  |true=>
   have hlt4:=vG (by decide) (beq_iff_eq.1 h10);simp only[↓zp,zw,aA,g0,g1,g2,g6,g7,g8];have wA:IntKind.i64.wrap ((s4.at':Int)+1)=((s4.at'+1:Nat):Int):=bI (a:=s4.at') (by have:=H3.ls.small;have:=H3.ls.le;omega);obtain⟨voA,hbA,hrA,hvA⟩:=H3.ls.body;simp only[↓zp,zw,aA,g0,g1,g2,g6,g7,g8,bE hbA,wA];refine bS hbA (by kernel_rfl) (by simp) rfl fun hA hbA2 hEA hsA=> ?_;obtain⟨s5,es5,ps5,HS⟩:=H3.ls.st3 (i:=s4.at'+1) hrA hvA hbA2 hEA ⟨by omega,by omega⟩;replace H3:=H3.x HS hEA (by omega);replace q3:=q3.trans (LQ.of_x hEA);simp only[↓zp,zw,aA,g0,g1,g2,g6,g7,g8];have h1016:10<65536:=by omega
   refine bH (nY 152 (.inr rfl) H3.bs 10 h1016 (by have:=H3.fit;omega)) ?_;rintro _ hP ⟨rfl,KP,hBP,qP⟩;obtain⟨HP,qP2⟩:=H3.bld hBP qP (by simp) (by simp;omega);replace q3:=q3.trans qP2;simp only[↓zp,zw,aA,g0,g1,g2,g6,g7,g8];have ha5:=HP.ls.le
   exact⟨c.src.length-s5.at',by omega,s5,KP,_,by first|trivial|simp only[↓zp,zw,aA,g0],by first|trivial|simp only[↓zp,zw,aA,g1],by first|trivial|simp only[↓zp,zw,aA,g2],by first|trivial|simp only[↓zp,zw,aA,g6],by first|trivial|simp only[↓zp,zw,aA,g7],by first|trivial|simp only[↓zp,zw,aA,g8],HP,by simp;omega,q3,(hb24.ext hEA (by simp;omega)).ext qP2.1 (by simp;omega),by have:=q3.1.1;rcases qP2.2 with e|e<;>omega,by omega,ps5.trans (ps4.trans hop3),rfl⟩
  |false=>
   simp only[↓zp,zw,aA,g0,g1,g2,g6,g7,g8];have h1016:10<65536:=by omega
   refine bH (nY 152 (.inr rfl) H3.bs 10 h1016 (by have:=H3.fit;omega)) ?_;rintro _ hP ⟨rfl,KP,hBP,qP⟩;obtain⟨HP,qP2⟩:=H3.bld hBP qP (by simp) (by simp;omega);replace q3:=q3.trans qP2;simp only[↓zp,zw,aA,g0,g1,g2,g6,g7,g8];have ha5:=HP.ls.le
   exact⟨c.src.length-s4.at',by omega,s4,KP,_,by first|trivial|simp only[↓zp,zw,aA,g0],by first|trivial|simp only[↓zp,zw,aA,g1],by first|trivial|simp only[↓zp,zw,aA,g2],by first|trivial|simp only[↓zp,zw,aA,g6],by first|trivial|simp only[↓zp,zw,aA,g7],by first|trivial|simp only[↓zp,zw,aA,g8],HP,by simp;omega,q3,hb24.ext qP2.1 (by simp;omega),by have:=q3.1.1;rcases qP2.2 with e|e<;>omega,by omega,ps4.trans hop3,rfl⟩
 |false=>
 simp only[↓zp,zw,aA,g0,g1,g2,g6,g7,g8,e92]
 cases h92:bY c.src s3.at'==92 with
 |true=>
  simp only[↓zp,zw,aA,g0,g1,g2,g6,g7,g8];have wA:IntKind.i64.wrap ((s3.at':Int)+1)=((s3.at'+1:Nat):Int):=bI (a:=s3.at') (by have:=H3.ls.small;have:=H3.ls.le;omega);obtain⟨voA,hbA,hrA,hvA⟩:=H3.ls.body;simp only[↓zp,zw,aA,g0,g1,g2,g6,g7,g8,bE hbA,wA];refine bS hbA (by kernel_rfl) (by simp) rfl fun hA hbA2 hEA hsA=> ?_;obtain⟨s4,es4,ps4,HS⟩:=H3.ls.st3 (i:=s3.at'+1) hrA hvA hbA2 hEA ⟨by omega,by omega⟩;replace H3:=H3.x HS hEA (by omega);replace q3:=q3.trans (LQ.of_x hEA);simp only[↓zp,zw,aA,g0,g1,g2,g6,g7,g8];refine bH (yN H3 (by omega) s.at') ?_;rintro _ h5 (⟨s5,K5,l5,rfl,H5,hl5,q5,hat5,hop5⟩|⟨⟨p,rfl⟩,hE5⟩);rotate_left
  ·exact .inr ⟨trivial,⟨p,rfl⟩,(LQ.out hx0 (q3.trans ⟨hE5,.inl rfl⟩) (by omega) (by omega)).1.mono fun y hy=>by simp at hy;simp[hy]⟩
  have q6:=q3.trans q5;have ho6:=(LQ.out hx0 q6 (by omega) (by omega)).2;have ha5:=H5.ls.le;simp only[↓zp,zw,aA,g0,g1,g2,g6,g7,g8]
  exact⟨c.src.length-s5.at',by omega,s5,K5,l5,by first|trivial|simp only[↓zp,zw,aA,g0],by first|trivial|simp only[↓zp,zw,aA,g1],by first|trivial|simp only[↓zp,zw,aA,g2],by first|trivial|simp only[↓zp,zw,aA,g6],by first|trivial|simp only[↓zp,zw,aA,g7],by first|trivial|simp only[↓zp,zw,aA,g8],H5,hl5,q6,(hb23.ext hEA (by simp;omega)).ext q5.1 (by simp;omega),by have:=q3.1.1;rcases q5.2 with e|e<;>omega,by omega,hop5.trans (ps4.trans hop3),rfl⟩
 |false=>
  simp only[↓zp,zw,aA,g0,g1,g2,g6,g7,g8];refine bH (vE H3 hl3 (by omega)) ?_;rintro _ h5 (⟨s5,K5,l5,rfl,H5,hl5,q5,hat5,hop5⟩|⟨⟨p,rfl⟩,hE5⟩);rotate_left
  ·exact .inr ⟨trivial,⟨p,rfl⟩,(LQ.out hx0 (q3.trans ⟨hE5,.inl rfl⟩) (by omega) (by omega)).1.mono fun y hy=>by simp at hy;simp[hy]⟩
  have q6:=q3.trans q5;have ho6:=(LQ.out hx0 q6 (by omega) (by omega)).2;have ha5:=H5.ls.le;simp only[↓zp,zw,aA,g0,g1,g2,g6,g7,g8];exact⟨c.src.length-s5.at',by omega,s5,K5,l5,by first|trivial|simp only[↓zp,zw,aA,g0],by first|trivial|simp only[↓zp,zw,aA,g1],by first|trivial|simp only[↓zp,zw,aA,g2],by first|trivial|simp only[↓zp,zw,aA,g6],by first|trivial|simp only[↓zp,zw,aA,g7],by first|trivial|simp only[↓zp,zw,aA,g8],H5,hl5,q6,hb23.ext q5.1 (by simp;omega),by have:=q3.1.1;rcases q5.2 with e|e<;>omega,by omega,hop5.trans hop3,rfl⟩
end
end
section
def idxI(l:List (List UInt8))(p:List UInt8→Bool):Int:=match l.findIdx? p with|some i=>(i:Int)|none=> -1
theorem idxI_step{l:List (List UInt8)}{p:List UInt8→Bool}{i:Nat}(hi:i<l.length)(hf:(l.take i).find? p=none):
 (p l[i]=true→idxI l p=(i:Int)):=by
 intro hp;unfold idxI
 have h1:l.findIdx? p=some i:=by
  rw[List.findIdx?_eq_some_iff_getElem];refine⟨hi,hp,fun j hj=> ?_⟩;have:=List.find?_eq_none.1 hf (l[j]) (by rw[List.mem_take_iff_getElem];exact⟨j,by omega,rfl⟩);exact this
 rw[h1]
theorem idxI_none{l:List (List UInt8)}{p:List UInt8→Bool}(hf:l.find? p=none):idxI l p= -1:=by
 unfold idxI
 have h1:l.findIdx? p=none:=by
  rw[List.findIdx?_eq_none_iff];intro x hx;have:=List.find?_eq_none.1 hf x hx;simpa using this
 rw[h1]
section
variable{h:Heap}{c:LC}{L:Nat}{s:LSt}
theorem yH(H:LS h c L s):C aE 153 #[c.vl,.func (.func 140) #[.pointer (some ⟨c.x,0,none⟩)] #[]] h (Ret (.int .i64 (idxI signs (hasB c.src s.at'))) h):=by
 obtain⟨b',n',cap',cs,hvl,hb',hn',ht',_⟩:=H.list.open (by rw[cD];decide);have hn4:n'=signs.length:=by rw[cD]at hn';omega
 subst hn4
 have hcell:∀i (hi:i<signs.length),bG h b' (i*1)=some (.string ⟨(signs[i]'hi).toArray⟩):=fun i hi=>by
  rw[aP,Row.cell (n:=signs.length) (cap:=cap') hb' ht' (by rw[cD];exact hi)];exact fK _ _ hi
 have hsl:signs.length≤100:=by decide
 rw[hvl];refine C_in Tryz.func153 rfl rfl (by kernel_rfl) (aG rfl) ?_;simp only[↓zp,zw,aA]
 refine⟨fun m ρ h'=> ∃i:Nat,ρ 0=.slice (some ⟨b',0,none⟩) signs.length cap'∧ρ 1=.func (.func 140) #[.pointer (some ⟨c.x,0,none⟩)] #[]∧ρ 7=.int .i64 ((signs.length:Nat):Int)∧ρ 8=.int .i64 (i:Int)∧h'=h∧i≤signs.length∧(signs.take i).find? (hasB c.src s.at')=none∧m=signs.length-i,signs.length,
  ⟨0,by simp only[↓zp,zw,aA],by simp only[↓zp,zw,aA],by simp only[↓zp,zw,aA],by simp only[↓zp,zw,aA];rfl,rfl,by omega,rfl,rfl⟩,?_⟩
 rintro m ρ h1 ⟨i,g0,g1,g7,g8,hh,hi,hf,hm⟩;rw[hh];simp only[↓zp,zw,aA,g0,g1,g7,g8];by_cases hlt:i<signs.length
 ·have d1:decide ((i:Int)<((signs.length:Nat):Int))=true:=bC (by omega);have b1:(0:Int)≤(i:Int)∧(i:Int)<((signs.length:Nat):Int):=by omega
  simp only[↓zp,zw,aA,g0,g1,g7,g8,d1,b1,aF,hcell i hlt];refine bK (rS H _) ?_;have hsn:=mO (l:=signs) (p:=hasB c.src s.at') (i:=i) hlt hf
  cases hh2:hasB c.src s.at' (signs[i]'hlt)with
  |true=>
   simp only[↓zp,zw,aA,g0,g1,g7,g8]
   exact⟨by rw[idxI_step hlt hf hh2],rfl⟩
  |false=>
   have w1:=bI (a:=i) (by omega);simp only[↓zp,zw,aA,g0,g1,g7,g8,w1];exact⟨signs.length-(i+1),by omega,i+1,trivial,trivial,trivial,rfl,trivial,by omega,hsn.2 hh2,rfl⟩
 ·have d1:decide ((i:Int)<((signs.length:Nat):Int))=false:=bD (by omega);simp only[↓zp,zw,aA,g0,g1,g7,g8,d1];have e4:i=signs.length:=by omega
  subst e4;rw[List.take_length]at hf;exact⟨by rw[idxI_none hf],rfl⟩
theorem sl_cut{P:Program}{t e b len cap n size:Nat}{k:IntKind}{ag:Bool}(ht:P.underlying t=some (.slice e))(hs:szOf P e=some (ag,size))(hn:n≤cap):
 iM P t (.slice (some ⟨b,0,none⟩) len cap) none (some (.int k (n:Int)))=some (.slice (some ⟨b,0,none⟩) n cap):=by
 unfold iM;have h1:(0:Int)≤(n:Int)∧(n:Int)≤(cap:Int):=by omega
 simp only[ht,hs,r_sb h1,Option.bind_some,aF];simp
theorem idxI_spec{l:List (List UInt8)}{p:List UInt8→Bool}:(l.find? p=none∧idxI l p= -1)∨∃(i:Nat) (hi:i<l.length),idxI l p=(i:Int)∧l.find? p=some (l[i]'hi):=by
 cases hf:l.findIdx? p with
 |none=>
  refine .inl ⟨?_,by unfold idxI;rw[hf]⟩;rw[List.findIdx?_eq_none_iff]at hf;rw[List.find?_eq_none];intro x hx
  simpa using hf x hx
 |some i=>
  obtain⟨hi,hp,hb⟩:=List.findIdx?_eq_some_iff_getElem.1 hf;refine .inr ⟨i,hi,by unfold idxI;rw[hf],?_⟩
  have h1:(l.take i).find? p=none:=by
   rw[List.find?_eq_none];intro x hx;obtain⟨j,hj,rfl⟩:=List.mem_take_iff_getElem.1 hx;exact hb j (by omega)
  exact(mO hi h1).1 hp
theorem LS.opSet {h':Heap} {cs:List Value} {n cap i:Nat} {v:Int} (H:LS h c L s) (hb:Blk h c.x [.string ⟨c.src.toArray⟩,.int .i64 (s.at':Int),.bool s.line,.slice (some ⟨L,0,none⟩) n cap,c.vl] 99)
 (hne:L≠c.x) (hcs:Blk h L cs 3) (h1:n≤cap) (h2:n=s.op.length) (h3:cap≤cs.length) (h4:cs.take n=opV s.op) (hi:i<n)
 (hb':Blk h' L (cs.set i (.int .i64 v)) 3) (hE:Ext [L] h h'):LS h' c L {s with op:=s.op.set i v}∧Par c.pc h L c.U h' L c.U:=by
 subst h2
 refine⟨⟨⟨_,hb.ext hE (by simpa using Ne.symm hne),.inr ⟨L,_,cap,_,rfl,hb',h1,by simp[iU],by simpa using h3,?_⟩,fun k hk=>by simp[blks]at hk;exact⟨hk,hk▸hne⟩⟩,Nat.lt_of_lt_of_le H.ltL hE.1,
  H.list.ext hE fun k hk hm=>by simp at hm;exact(H.listU k hk).2 hm,H.listU,H.le,H.small,by simpa using H.opl,H.glob.trans_new hE fun y hy=> .inl (by simp at hy;rw[hy];exact H.gL),H.gx,H.gL⟩,⟨.inl rfl,fun _ h=> .inl h,hE.mono fun y hy=>by simp at hy;simp[hy]⟩⟩
 rw[iU,List.length_set,List.take_set,h4];simp[opV,List.map_set]
def SignR(c:LC)(s:LSt)(v:Value)(s':LSt):Prop:=
 (∃t,qY c.src s.at'=some t∧v=tkV 3 t [] 0∧s'.at'=s.at'+t.length∧(s.op=[]→s'.op=[])∧s'.line=s.line)∨(s.op≠[]∧∃(k:Nat) (l:List UInt8),(k=9∨k=8)∧v=tkV k [] l 0∧l.length%2=0∧s.at'<s'.at'∧s'.line=s.line)
theorem sign_c(H:LS h c L s):C aE 121 #[.pointer (some ⟨c.x,0,none⟩)] h (LOut c h L (SignR c s) (qY c.src s.at'=none∨s.op≠[])):=by
 have hs:=H.small;have ha:=H.le;have hxl:=H.lt;have hU:=H.list.lt;have hLl:=H.ltL;have hgl:=H.glob.1;have hE1:Ext [] h (h.push (.cells z73.toArray 73)):=Ext.push _ _ _;have hb2:Blk (h.push (.cells z73.toArray 73)) h.size z73 73:=Blk.new;have hz1:(h.push (.cells z73.toArray 73)).size=h.size+1:=by simp
 refine C_in Tryz.func121 rfl rfl (by kernel_rfl) (aG rfl) ?_;simp only[↓zp,zw,aA];rw[show h.push (.cells #[.int .i64 0,.string ⟨#[]⟩,.string ⟨#[]⟩,.float .f64 0,.int .i64 0,.int .i64 0,.bool false] 73)=h.push (.cells z73.toArray 73)from rfl];generalize h.push (.cells z73.toArray 73)=h1 at hE1 hb2 hz1⊢;have H1:=H.ext0 hE1;have p1:Par c.pc h L c.U h1 L c.U:=Par.of_ext hE1;obtain⟨vo,hb,hr,hvo⟩:=H1.body;simp only[↓zp,zw,aA,bE hb];refine bK (yH H1) ?_;simp only[↓zp,zw,aA];rcases idxI_spec (l:=signs) (p:=hasB c.src s.at')with⟨hf,hi⟩|⟨i,hi,hix,hf⟩
 ·have d0:decide ((-1:Int)<0)=true:=by decide
  simp only[↓zp,zw,aA,hi,d0,bE hb];refine eF ?_;exact .inr ⟨.inl hf,⟨s.at',rfl⟩,hE1.of_nil⟩
 ·have d1:decide ((i:Int)<0)=false:=bD (by omega);obtain⟨b',n',cap',cs,hvl,hb',hn',ht',_⟩:=H1.list.open (by rw[cD];decide);have hn4:n'=signs.length:=by rw[cD]at hn';omega
  subst hn4
  have hcell:bG h1 b' (i*1)=some (.string ⟨(signs[i]'hi).toArray⟩):=by
   rw[aP,Row.cell (n:=signs.length) (cap:=cap') hb' ht' (by rw[cD];exact hi)];exact fK _ _ hi
  have b1:(0:Int)≤(i:Int)∧(i:Int)<((signs.length:Nat):Int):=by omega
  have hlen:=gP (List.find?_some hf);obtain⟨a0,n0,c0,rfl,hn0⟩:=hr.shape;rw[iU,aP]at hn0;simp only[↓zp,zw,aA,hix,d1,bE hb,hvl,b1,aF,hcell];generalize hst:signs[i]=st at hf hlen hcell⊢
  have hstp:0<st.length:=by
   have h3:∀t,t∈signs→0<t.length:=by decide
   exact h3 _ (List.mem_of_find?_eq_some hf)
  by_cases hop:s.op=[]
  ·have hn00:n0=0:=by rw[hn0,hop];rfl
   subst hn00;have d2:decide ((0:Int)≤IntKind.i64.wrap (((0:Nat):Int)-1))=false:=by decide
   simp only[↓zp,zw,aA,d2];obtain⟨voT,hbT,hrT,hvT⟩:=H1.body;replace hbT:Blk h1 c.x [.string ⟨c.src.toArray⟩,.int .i64 (s.at':Int),.bool s.line,voT,c.vl] 99:=hbT;have wT:=cQ (a:=s.at') (b:=st.length) (by omega);simp only[↓zp,zw,aA,bE hbT,wT];refine bS hbT (by kernel_rfl) (by simp) rfl fun h7 hb7 hE7 hs7=> ?_;obtain⟨s7,k1,k2,k3,H7⟩:=H1.st2 (i:=s.at'+st.length) (l:=s.line) hrT hvT hb7 hE7 ⟨by first|omega|(dsimp only;omega),by omega⟩;simp only[↓zp,zw,aA,bE hb7];refine cM (hb2.ext hE7 (by simp;omega)) (by kernel_rfl) rfl (by simp[z73]) rfl fun h8 hb8 hE8 hs8=> ?_;simp only[↓zp,zw,aA,bQ hb8 (n:=7) rfl];have H8:=H7.ext hE8 (fun y hy=>by simp at hy;subst hy;exact⟨by omega,by omega,fun hm=>by have:=hU _ hm;omega,by omega⟩);have E8:Ext [c.x,L] h h8:=(p1.E.trans (hE7.mono fun y hy=>by simp at hy;simp[hy,LC.pc])).trans_new hE8 fun y hy=> .inl (by simp at hy;omega);exact .inl ⟨_,s7,L,rfl,H8,⟨.inl rfl,fun _ h=> .inl h,E8⟩,.inl ⟨st,hf,rfl,k1,fun _=>k3.trans hop,k2⟩⟩
  have hn1:1≤n0:=by
   rw[hn0];exact List.length_pos_iff.2 hop
  obtain⟨n,rfl⟩:∃n,n0=n+1:=⟨n0-1,by omega⟩;have hopl:=H.opl;have w1:IntKind.i64.wrap (((n+1:Nat):Int)-1)=((n:Nat):Int):=by rw[aU _ (by omega)];omega
  have d2:decide ((0:Int)≤((n:Nat):Int))=true:=bC (by omega);obtain⟨v0,hv0⟩:∃v0:Int,(opV s.op)[n]? =some (.int .i64 v0):=⟨s.op[n]'(by omega),by simp[opV]⟩;rcases hr with⟨hr1,hr2⟩|⟨bo,no,co,cso,hr1,hbo,hr3,hr4,hr5,hr6⟩
  ·exact absurd (by simpa[opV]using hr2) hop
  simp only[Value.slice.injEq]at hr1;obtain⟨rfl,rfl,rfl⟩:=hr1;have hboL:=hvo bo (by simp[blks]);obtain⟨hbL,hbx⟩:=hboL;replace hbL:L=bo:=hbL.symm;subst hbL;rw[iU]at hr4 hr6
  have hco:bG h1 L (n*1)=some (.int .i64 v0):=by
   rw[aP,bE hbo];have:(cso.take s.op.length)[n]? =some (.int .i64 v0):=by rw[hr6];exact hv0
   rwa [List.getElem?_take,if_pos (by omega)]at this
  have b2:(0:Int)≤((n:Nat):Int)∧((n:Nat):Int)<((n+1:Nat):Int):=by omega
  simp only[↓zp,zw,aA,w1,d2]
  cases h123:st==[123]with
  |true=>
   simp only[↓zp,zw,aA,w1,d2,bE hb,b2,hco,aF];refine bS (o:=n*1) hbo (by kernel_rfl) (by omega) rfl fun h3 hb3 hE3 hs3=> ?_;rw[aP]at hb3;obtain⟨H3,p3⟩:=H1.opSet hb hbx hbo hr3 hn0 (by omega) (by rw[hn0];exact hr6) (by omega) hb3 hE3;have p3':=p1.trans p3;have hb23:=hb2.ext hE3 (by simp;omega);obtain⟨voT,hbT,hrT,hvT⟩:=H3.body;replace hbT:Blk h3 c.x [.string ⟨c.src.toArray⟩,.int .i64 (s.at':Int),.bool s.line,voT,c.vl] 99:=hbT;have wT:=cQ (a:=s.at') (b:=st.length) (by omega);simp only[↓zp,zw,aA,w1,d2,bE hbT,wT];refine bS hbT (by kernel_rfl) (by simp) rfl fun h7 hb7 hE7 hs7=> ?_;obtain⟨s7,k1,k2,k3,H7⟩:=H3.st2 (i:=s.at'+st.length) (l:=s.line) hrT hvT hb7 hE7 ⟨by first|omega|(dsimp only;omega),by omega⟩;simp only[↓zp,zw,aA,bE hb7];refine cM (hb23.ext hE7 (by simp;omega)) (by kernel_rfl) rfl (by simp[z73]) rfl fun h8 hb8 hE8 hs8=> ?_;simp only[↓zp,zw,aA,bQ hb8 (n:=7) rfl];have H8:=H7.ext hE8 (fun y hy=>by simp at hy;subst hy;exact⟨by omega,by omega,fun hm=>by have:=hU _ hm;omega,by omega⟩);have E8:Ext [c.x,L] h h8:=(p3'.E.trans (hE7.mono fun y hy=>by simp at hy;simp[hy,LC.pc])).trans_new hE8 fun y hy=> .inl (by simp at hy;omega)
   exact .inl ⟨_,s7,L,rfl,H8,⟨.inl rfl,fun _ h=> .inl h,E8⟩,.inl ⟨st,hf,rfl,k1,fun h0=>absurd h0 hop,k2⟩⟩
  |false=>
   cases h125:st==[125]with
   |false=>
    simp only[↓zp,zw,aA,w1,d2,h123,h125,bE hb];obtain⟨voT,hbT,hrT,hvT⟩:=H1.body;replace hbT:Blk h1 c.x [.string ⟨c.src.toArray⟩,.int .i64 (s.at':Int),.bool s.line,voT,c.vl] 99:=hbT;have wT:=cQ (a:=s.at') (b:=st.length) (by omega);simp only[↓zp,zw,aA,w1,d2,h123,h125,bE hbT,wT];refine bS hbT (by kernel_rfl) (by simp) rfl fun h7 hb7 hE7 hs7=> ?_;obtain⟨s7,k1,k2,k3,H7⟩:=H1.st2 (i:=s.at'+st.length) (l:=s.line) hrT hvT hb7 hE7 ⟨by first|omega|(dsimp only;omega),by omega⟩;simp only[↓zp,zw,aA,w1,d2,h123,h125,bE hb7];refine cM (hb2.ext hE7 (by simp;omega)) (by kernel_rfl) rfl (by simp[z73]) rfl fun h8 hb8 hE8 hs8=> ?_;simp only[↓zp,zw,aA,w1,d2,h123,h125,bQ hb8 (n:=7) rfl];have H8:=H7.ext hE8 (fun y hy=>by simp at hy;subst hy;exact⟨by omega,by omega,fun hm=>by have:=hU _ hm;omega,by omega⟩);have E8:Ext [c.x,L] h h8:=(p1.E.trans (hE7.mono fun y hy=>by simp at hy;simp[hy,LC.pc])).trans_new hE8 fun y hy=> .inl (by simp at hy;omega)
    exact .inl ⟨_,s7,L,rfl,H8,⟨.inl rfl,fun _ h=> .inl h,E8⟩,.inl ⟨st,hf,rfl,k1,fun h0=>absurd h0 hop,k2⟩⟩
   |true=>
    simp only[↓zp,zw,aA,w1,d2,h123,h125,bE hb,b2,hco,aF]
    cases hv00:v0==0 with
    |false=>
     simp only[↓zp,zw,aA,w1,d2,h123,h125,hv00,bE hb,b2,hco,aF];refine bS (o:=n*1) hbo (by kernel_rfl) (by omega) rfl fun h3 hb3 hE3 hs3=> ?_;rw[aP]at hb3;obtain⟨H3,p3⟩:=H1.opSet hb hbx hbo hr3 hn0 (by omega) (by rw[hn0];exact hr6) (by omega) hb3 hE3;have p3':=p1.trans p3;have hb23:=hb2.ext hE3 (by simp;omega);obtain⟨voT,hbT,hrT,hvT⟩:=H3.body;replace hbT:Blk h3 c.x [.string ⟨c.src.toArray⟩,.int .i64 (s.at':Int),.bool s.line,voT,c.vl] 99:=hbT;have wT:=cQ (a:=s.at') (b:=st.length) (by omega);simp only[↓zp,zw,aA,w1,d2,h123,h125,hv00,bE hbT,wT];refine bS hbT (by kernel_rfl) (by simp) rfl fun h7 hb7 hE7 hs7=> ?_;obtain⟨s7,k1,k2,k3,H7⟩:=H3.st2 (i:=s.at'+st.length) (l:=s.line) hrT hvT hb7 hE7 ⟨by first|omega|(dsimp only;omega),by omega⟩;simp only[↓zp,zw,aA,w1,d2,h123,h125,hv00,bE hb7];refine cM (hb23.ext hE7 (by simp;omega)) (by kernel_rfl) rfl (by simp[z73]) rfl fun h8 hb8 hE8 hs8=> ?_;simp only[↓zp,zw,aA,w1,d2,h123,h125,hv00,bQ hb8 (n:=7) rfl];have H8:=H7.ext hE8 (fun y hy=>by simp at hy;subst hy;exact⟨by omega,by omega,fun hm=>by have:=hU _ hm;omega,by omega⟩);have E8:Ext [c.x,L] h h8:=(p3'.E.trans (hE7.mono fun y hy=>by simp at hy;simp[hy,LC.pc])).trans_new hE8 fun y hy=> .inl (by simp at hy;omega)
     exact .inl ⟨_,s7,L,rfl,H8,⟨.inl rfl,fun _ h=> .inl h,E8⟩,.inl ⟨st,hf,rfl,k1,fun h0=>absurd h0 hop,k2⟩⟩
    |true=>
     simp only[↓zp,zw,aA,w1,d2,h123,h125,hv00,bE hb,sl_cut (n:=n) (cap:=c0) Tryz.underlying33 (show szOf aE 3=some (false,1) by kernel_rfl) (by omega)];refine bS hb (by kernel_rfl) (by simp) rfl fun h3 hb3 hE3 hs3=> ?_
     have hrow:Row h1 (.slice (some ⟨L,0,none⟩) n c0) 3 1 (opV (s.op.take n)):=.inr ⟨L,n,c0,cso,rfl,hbo,by omega,by rw[iU];simp;omega,by omega,by
      rw[iU,List.length_take,show min n s.op.length=n by omega];have:(cso.take s.op.length).take n=(opV s.op).take n:=by rw[hr6]
      rw[List.take_take,show min n s.op.length=n by omega]at this
      rw[this];simp[opV,List.map_take]⟩
     obtain⟨L',H3,p3,hL'⟩:=LS.app (op':=s.op.take n) H1 (fun k hk=>by simp[blks]at hk;exact⟨hk,hk▸hbx⟩) hrow (.inl ⟨rfl,Ext.refl _ _,rfl⟩) hb3 hE3 (by simp;omega);simp only[↓zp,zw,aA,w1,d2,h123,h125,hv00];refine CT_L (p1.trans p3) (vF H3 (by dsimp only;omega) 9 8) (fun _=> .inr hop) rfl fun v s4 h4 L4 hR H4 d4 q4=> ?_;obtain⟨k,l,hk,rfl,hev,hat,hln⟩:=hR;have hb24:=(hb2.ext hE3 (by simp;omega)).ext d4.E (by simp[LC.pc];omega);simp only[↓zp,zw,aA,w1,d2,h123,h125,hv00];refine cM hb24 (by kernel_rfl) rfl (by simp[z73,Tk.cells]) rfl fun h8 hb8 hE8 hs8=> ?_;simp only[↓zp,zw,aA,w1,d2,h123,h125,hv00,bQ hb8 (n:=7) rfl];have hz4:=d4.E.1
     have hL4:L4≠h.size:=by
      rcases d4.hL with e|e
      ·rw[e];rcases hL' with e|e<;>omega
      ·omega
     have H8:=H4.ext hE8 (fun y hy=>by simp at hy;subst hy;exact⟨by omega,Ne.symm hL4,fun hm=>by have:=hU _ hm;omega,by omega⟩);exact .inl ⟨_,s4,L4,rfl,H8,⟨q4.hL,q4.hU,q4.E.trans_new hE8 fun y hy=> .inl (by simp at hy;omega)⟩,.inr ⟨hop,k,l,hk,rfl,hev,hat,hln⟩⟩
end
end
def iF:List (List UInt8)→List UInt8
 |[]=>[32]
 |w::L=>32::(w++iF L)
theorem wI(L:List (List UInt8)):∃r,iF L=32::r:=by cases L<;>exact⟨_,rfl⟩
theorem pre_eq:∀{x w r:List UInt8},(∀b,b∈x→b≠32)→(∀b,b∈w→b≠32)→(x++[32]<+:w++32::r↔x=w)
 |[],[],r,_,_=>by simp
 |[],b::w,r,_,hw=>by
  have:=hw b (by simp);simp only[List.nil_append,List.cons_append,List.prefix_cons_iff];constructor
  ·rintro(h|⟨t,h,_⟩)
   ·cases h
   ·simp at h;exact absurd h.1.symm this
  ·intro h;cases h
 |a::x,[],r,hx,_=>by
  have:=hx a (by simp);simp only[List.nil_append,List.cons_append];constructor
  ·intro h;rw[List.cons_prefix_cons]at h;exact absurd h.1 this
  ·intro h;cases h
 |a::x,b::w,r,hx,hw=>by
  have ih:=pre_eq (x:=x) (w:=w) (r:=r) (fun c hc=>hx c (by simp[hc])) (fun c hc=>hw c (by simp[hc]));simp only[List.cons_append,List.cons_prefix_cons,ih,List.cons.injEq]
theorem pL:∀{L:List (List UInt8)} {x:List UInt8},(∀b,b∈x→b≠32)→(∀w,w∈L→∀b,b∈w→b≠32)→((∃i,(32::(x++[32]))<+:(iF L).drop i)↔x∈L)
 |[],x,hx,_=>by
  simp only[iF,List.not_mem_nil,iff_false,not_exists];intro i h;have:=h.length_le;simp at this
  omega
 |w::L,x,hx,hL=>by
  have hw:=hL w (by simp);have hL':∀w,w∈L→∀b,b∈w→b≠32:=fun v hv=>hL v (by simp[hv]);have ih:=pL (L:=L) hx hL';obtain⟨r,hr⟩:=wI L;rw[List.mem_cons,←ih];constructor
  ·rintro⟨i,h⟩
   cases i with
   |zero=>
    simp only[iF,List.drop_zero,List.cons_prefix_cons,true_and]at h;rw[hr]at h
    exact .inl ((pre_eq hx hw).1 h)
   |succ i=>
    simp only[iF,List.drop_succ_cons]at h;rcases Nat.lt_or_ge i w.length with hi|hi
    ·rw[List.drop_append_of_le_length (by omega),List.drop_eq_getElem_cons hi]at h;simp only[List.cons_append,List.cons_prefix_cons]at h;exact absurd h.1.symm (hw _ (List.getElem_mem _))
    ·rw[List.drop_append,List.drop_eq_nil_of_le hi]at h;exact .inr ⟨_,by simpa using h⟩
  ·rintro(rfl|⟨i,h⟩)
   ·refine⟨0,?_⟩;simp only[iF,List.drop_zero,List.cons_prefix_cons,true_and];rw[hr];exact(pre_eq hx hx).2 rfl
   ·refine⟨w.length+i+1,?_⟩;simp only[iF,List.drop_succ_cons];rw[List.drop_append,List.drop_eq_nil_of_le (by omega)];simpa using h
theorem oX:∀w,w∈wordList→∀b,b∈w→b≠32:=by decide
theorem wF{s t:List UInt8}(ht:t≠[]):Lib.contains s t=true↔∃i,t<+:s.drop i:=by
 unfold Lib.contains;rw[decide_eq_true_iff];constructor
 ·intro h;rcases Lib.index_spec s t with⟨h1,_⟩|⟨i,h1,h2,h3,_⟩
  ·omega
  ·exact⟨i,List.isPrefixOf_iff_prefix.1 h3⟩
 ·rintro⟨i,h⟩;rcases Lib.index_spec s t with⟨h1,h2⟩|⟨j,h1,_⟩
  ·have hi:i≤s.length:=by
    refine Nat.le_of_not_lt fun hl=> ?_;rw[List.drop_eq_nil_of_le (by omega)]at h;exact ht (List.prefix_nil.1 h)
   have:=h2 i hi;unfold Lib.occAt at this;rw[List.isPrefixOf_iff_prefix.2 h]at this;cases this
  ·omega
theorem word_law{x:List UInt8}(hx:∀b,b∈x→b≠32):Lib.contains (iF wordList) (32::(x++[32]))=gN x:=by
 rw[aW,wF (by simp),pL hx oX];unfold gN;simp
theorem pE{x:List UInt8}:(0≤Lib.indexByte x 32)↔∃b,b∈x∧b=32:=by
 have H:∀x:List UInt8,(Lib.indexByte x 32= -1∧∀b,b∈x→b≠32)∨(0≤Lib.indexByte x 32∧∃b,b∈x∧b=32):=by
  intro x
  induction x with
  |nil=>left;exact⟨rfl,by simp⟩
  |cons a x ih=>
   unfold Lib.indexByte;by_cases h:(a==32)=true
   ·rw[if_pos h];exact .inr ⟨by omega,a,by simp,by simpa using h⟩
   ·rw[if_neg h];rcases ih with⟨h1,h2⟩|⟨h1,b,h2,h3⟩
    ·left;rw[h1];refine⟨rfl,fun b hb=> ?_⟩;rcases List.mem_cons.1 hb with rfl|hb
     ·simpa using h
     ·exact h2 b hb
    ·right;have:(Lib.indexByte x 32== -1)=false:=by simp;omega
     rw[this];exact⟨by simp;omega,b,by simp[h2],h3⟩
 rcases H x with⟨h1,h2⟩|⟨h1,h2⟩
 ·constructor
  ·intro h;omega
  ·rintro⟨b,hb,h⟩;exact absurd h (h2 b hb)
 ·exact⟨fun _=>h2,fun _=>h1⟩
end Go.Proofs.YtfmbepijhnaklaaGreatDoor
