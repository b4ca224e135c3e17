/- Proved here: The reference's check of a node's kids | The reference's Deep and Check | ParseGood. Conditions: what each statement names. -/
import Derived.Test.YtfmbepijhnaklaaGreatDoorK16
import Derived.Test.YtfmbepijhnaklaaGreatDoorK15
import Derived.Test.YtfmbepijhnaklaaGreatDoorK07
set_option maxRecDepth 100000
set_option maxHeartbeats 4000000
set_option linter.unusedSimpArgs false
set_option linter.unusedVariables false
set_option linter.defProp false
open Nat renaming reduceEqDiff → aA, le_of_ble_eq_true → aG, mul_one → aP, zero_mul → aQ, zero_add → aR, reduceBEq → aY, reduceAdd → aZ, le_refl → bA
open List renaming length_cons → aB, length_append → aC, length_nil → aD, map_toArray → aH, map_cons → aJ, map_nil → aK, perm_iff_count → aM, count_append → aO, getElem?_eq_getElem → aS, count_cons → aT, count_nil → aV
open Go.Proofs.Tryz renaming prog → aE
open Int renaming toNat_natCast → aF, toNat_zero → aN, toNat_one → aX
open Bool renaming false_eq_true → aI, eq_iff_iff → aW
open And renaming intro → aL
open Go.IntWalk renaming i64_in → aU
namespace Go.Proofs.YtfmbepijhnaklaaGreatDoor
section
theorem lX{ks:List Nat}{p:Nat→Bool}{sp:Bool}(h:∀k,k∈ks→p k=true)(hp:∀k,p k=true→(cG k||(sp&&k==29))=true):∀j (hj:j<ks.length),0≤j→(cG (ks[j]'hj)||(sp&&(ks[j]'hj)==29))=true:=fun j hj _=>hp _ (h _ (List.getElem_mem hj))
theorem yW(k:Nat)(h:argK k=true):(cG k||(true&&k==29))=true:=h
theorem mP(k:Nat)(h:cG k=true):(cG k||(false&&k==29))=true:=by rw[h];rfl
section
variable{h:Heap}{vl:Value}{ns:List Nd}
theorem shape_c(H:NS h vl ns){n:Nat}{x:Nd}(hx:ns[n]? =some x)(hS:Shape ns x.kind x.text x.kids)(hfew:x.kids.length≤1000000):
 C aE 16 #[vl,.int .i64 (n:Int)] h fun e h'=>e=.returned (.bool true)∧Ext [] h h':=by
 obtain⟨b,cap,vk,rfl,hn,hrk,hld,_⟩:=NS.at H hx;obtain⟨ak,ck,rfl,_⟩:=cV hrk;have b1:(0:Int)≤(n:Int)∧(n:Int)<((ns.length:Nat):Int):=by omega
 refine C_in Tryz.func16 rfl rfl (by kernel_rfl) (aG rfl) ?_;simp only[↓zp,zw,↓reduceIte,aA,b1,aF,hld];refine jU fun h3 hb3 E3 hs3=> ?_;simp only[↓zp,zw,↓reduceIte,aA,bQ hb3 (cU _)];refine bH (kinds_c (H.ext0 E3) (hrk.ext E3 (by simp)) hS.lt hfew) ?_;rintro _ h4 ⟨v,rfl,hv4,E34⟩;have E4:=E3.trans E34;have hb4:=hb3.ext E34 (by simp);have H4:=H.ext0 E4;have hrk4:=hrk.ext E4 (by simp);have hmore:moreK x.kind=true→C aE 35 #[.slice (some ⟨b,0,none⟩) ns.length cap,.int .i64 (n:Int),v] h4 fun e h'=>e=.returned (.bool true)∧Ext [] h4 h':=fun hm=>more_c H4 hx hv4 hS hm hfew;have c0:bG h4 h.size 0=some (.int .i64 (x.kind:Int)):=by rw[bE hb4];rfl
 have c4:bG h4 h.size 4=some (.slice ak x.kids.length ck):=by rw[bE hb4];rfl
 clear hb4 hb3 hs3 hrk hld H E34 hx;obtain⟨av,cv0,e0,_⟩:=cV hv4;obtain⟨k,hk⟩:∃k,x.kind=k:=⟨_,rfl⟩;obtain⟨t,ht⟩:∃t,x.text=t:=⟨_,rfl⟩;obtain⟨l,hl⟩:∃l,x.kids=l:=⟨_,rfl⟩;rw[hl]at c4 hv4 hrk4 hfew e0;rw[hk]at c0 hmore;rw[hk,ht,hl]at hS;subst e0;rw[dK]at hv4 hmore⊢
 cases hS with
 |num=>
  simp only[↓zp,zw,↓reduceIte,aA,c0,kqs,knqs,aY,aB,aD,aR,aZ,aN,aX,bW,bV,aQ,aP]
  exact⟨by trivial,E4⟩
 |str=>
  simp only[↓zp,zw,↓reduceIte,aA,c0,kqs,knqs,aY,aB,aD,aR,aZ,aN,aX,bW,bV,aQ,aP]
  exact⟨by trivial,E4⟩
 |plain h=>
  rcases h with rfl|rfl|rfl|rfl|rfl|rfl
  all_goals
   simp only[↓zp,zw,↓reduceIte,aA,c0,kqs,knqs,aY,aB,aD,aR,aZ,aN,aX,bW,bV,aQ,aP]
   exact⟨by trivial,E4⟩
 |name=>
  simp only[↓zp,zw,↓reduceIte,aA,c0,kqs,knqs,aY,aB,aD,aR,aZ,aN,aX,bW,bV,aQ,aP]
  exact⟨by trivial,E4⟩
 |rest=>
  simp only[↓zp,zw,↓reduceIte,aA,c0,kqs,knqs,aY,aB,aD,aR,aZ,aN,aX,bW,bV,aQ,aP]
  exact⟨by trivial,E4⟩
 |leave h=>
  rcases h with rfl|rfl
  all_goals
   simp only[↓zp,zw,↓reduceIte,aA,c0,kqs,knqs,aY,aB,aD,aR,aZ,aN,aX,bW,bV,aQ,aP]
   exact⟨by trivial,E4⟩
 |array h=>
  simp only[↓zp,zw,↓reduceIte,aA,c0,kqs,knqs,aY,aB,aD,aR,aZ,aN,aX,bW,bV,aQ,aP];refine bK (lN (at0:=0) (sp:=true) hv4 (by rw[dK];exact hfew) (by omega) (lX h.kd yW)) ?_;simp only[↓zp,zw,↓reduceIte,aA]
  exact⟨by trivial,E4⟩
 |object h=>
  have hq:=h.kd;simp only[↓zp,zw,↓reduceIte,aA,c0,kqs,knqs,aY,aB,aD,aR,aZ,aN,aX,bW,bV,aQ,aP];refine⟨fun m ρ h'=> ∃i:Nat,ρ 43=.slice av l.length cv0∧ρ 44=.int .i64 ((l.length:Nat):Int)∧ρ 45=.int .i64 (i:Int)∧h'=h4∧i≤l.length∧m=l.length-i,l.length,⟨0,by simp only[↓zp,zw,↓reduceIte,aA],by simp only[↓zp,zw,↓reduceIte,aA],by simp only[↓zp,zw,↓reduceIte,aA];rfl,rfl,by omega,rfl⟩,?_⟩;rintro m ρ h5 ⟨i,g43,g44,g45,hh,hi,hmm⟩;rw[hh];by_cases hlt:i<l.length
  ·have d1:decide ((i:Int)<((l.length:Nat):Int))=true:=bC (by omega);have b1:(0:Int)≤(i:Int)∧(i:Int)<((l.length:Nat):Int):=by omega
   have w1:=bI (a:=i) (by omega);obtain⟨_,cc,ee,hcell⟩:=cJ (m:=l.length) hv4 (dK _ _) (by omega);cases ee;have hc:=hcell i (by rw[dK];exact hlt);have hqi:=hq _ (List.getElem_mem (show i<(kd ns l).length by rw[dK];exact hlt));generalize(kd ns l)[i]'(by rw[dK];exact hlt)=q at hc hqi;simp only[lH,Bool.and_eq_true,decide_eq_true_eq]at hqi;have d2:decide ((q:Int)<10)=false:=bD (by omega);have d3:decide ((q:Int)>12)=false:=bD (by omega);simp only[↓zp,zw,↓reduceIte,aA,g43,g44,g45,d1,b1,aF,aP,hc,d2,d3,w1];exact⟨l.length-(i+1),by omega,i+1,by trivial,by trivial,by trivial,by trivial,by omega,rfl⟩
  ·have d1:decide ((i:Int)<((l.length:Nat):Int))=false:=bD (by omega);simp only[↓zp,zw,↓reduceIte,aA,g43,g44,g45,d1]
   exact⟨by trivial,E4⟩
 | @prop k0' e hkk he=>
   replace hv4:Row h4 (.slice av 2 cv0) 3 1 (bL [kd1 ns k0',kd1 ns e]):=hv4;obtain⟨bv,cv,ev,hcv⟩:=cJ (m:=2) hv4 rfl (by omega);cases ev;have v0:bG h4 bv 0=some (.int .i64 ((kd1 ns k0':Nat):Int)):=hcv 0 (by simp);have v1:bG h4 bv 1=some (.int .i64 ((kd1 ns e:Nat):Int)):=hcv 1 (by simp);have q0:(0:Int)≤0∧(0:Int)<((2:Nat):Int):=by decide
   have q1:(0:Int)≤1∧(1:Int)<((2:Nat):Int):=by decide
   simp only[↓zp,zw,↓reduceIte,aA,c0,kqs,knqs,aY,aB,aD,aR,aZ,aN,aX,bW,bV,aQ,aP,q0,v0,q1,v1];refine bK (rkey_c (kd1 ns k0')) ?_;rw[hkk.kd];simp only[↓zp,zw,↓reduceIte,aA,c0,kqs,knqs,aY,aB,aD,aR,aZ,aN,aX,bW,bV,aQ,aP,q0,v0,q1,v1];refine bK (eI (kd1 ns e)) ?_;rw[he.kd];simp only[↓zp,zw,↓reduceIte,aA,c0,kqs,knqs,aY,aB,aD,aR,aZ,aN,aX,bW,bV,aQ,aP,q0,v0,q1,v1]
   exact⟨by trivial,E4⟩
 | @getter k0' f hkk hf=>
   obtain⟨y,p,bd,z,hy,hyk,hyks,hz,hzk⟩:=hf;replace hv4:Row h4 (.slice av 2 cv0) 3 1 (bL [kd1 ns k0',kd1 ns f]):=hv4;obtain⟨bv,cv,ev,hcv⟩:=cJ (m:=2) hv4 rfl (by omega);cases ev;have v0:bG h4 bv 0=some (.int .i64 ((kd1 ns k0':Nat):Int)):=hcv 0 (by simp);have v1:bG h4 bv 1=some (.int .i64 ((kd1 ns f:Nat):Int)):=hcv 1 (by simp);replace hrk4:Row h4 (.slice ak 2 ck) 3 1 (bL [k0',f]):=hrk4;replace c4:bG h4 h.size 4=some (.slice ak 2 ck):=c4;obtain⟨bk,ck',e4,hck⟩:=cJ (m:=2) hrk4 rfl (by omega);cases e4;have k0:bG h4 bk 0=some (.int .i64 ((k0':Nat):Int)):=hck 0 (by simp);have k1:bG h4 bk 1=some (.int .i64 ((f:Nat):Int)):=hck 1 (by simp);have q0:(0:Int)≤0∧(0:Int)<((2:Nat):Int):=by decide
   have q1:(0:Int)≤1∧(1:Int)<((2:Nat):Int):=by decide
   obtain⟨b',cap',vy,e2,hfn,hry,_,hcy⟩:=NS.at H4 hy;simp only[Value.slice.injEq,Option.some.injEq,Addr.mk.injEq,true_and,and_true]at e2;obtain⟨rfl,rfl⟩:=e2;obtain⟨b5,cap5,vz,e5,hpn,hrz,_,hcz⟩:=NS.at H4 hz;simp only[Value.slice.injEq,Option.some.injEq,Addr.mk.injEq,true_and,and_true]at e5;obtain⟨rfl,rfl⟩:=e5;obtain⟨bp',cp',ep,hcp⟩:=cJ (m:=2) hry (by rw[hyks];rfl) (by omega);subst ep;have y4:bG h4 b (f*6+4)=some (.slice (some ⟨bp',0,none⟩) 2 cp'):=hcy 4 (by omega)
   have p0:bG h4 bp' 0=some (.int .i64 ((p:Nat):Int)):=by
    have:=hcp 0 (by rw[hyks];simp);simpa[hyks]using this
   obtain⟨az,czz,rfl,_⟩:=cV hrz;have z4:bG h4 b (p*6+4)=some (.slice az z.kids.length czz):=hcz 4 (by omega);have bf:(0:Int)≤(f:Int)∧(f:Int)<((ns.length:Nat):Int):=by omega
   have bp:(0:Int)≤(p:Int)∧(p:Int)<((ns.length:Nat):Int):=by omega
   have b2:(0:Int)≤0∧(0:Int)<((2:Nat):Int):=by decide
   have e13:(kd1 ns f==13)=true:=by rw[oP hy,hyk];rfl
   rw[hzk]at z4;simp only[↓zp,zw,↓reduceIte,aA,c0,kqs,knqs,aY,aB,aD,aR,aZ,aN,aX,bW,bV,aQ,aP,q0,v0,q1,v1,c4,k0,k1];refine bK (rkey_c (kd1 ns k0')) ?_;rw[hkk.kd];simp only[↓zp,zw,↓reduceIte,aA,c0,kqs,knqs,aY,aB,aD,aR,aZ,aN,aX,bW,bV,aQ,aP,q0,v0,q1,v1,c4,k0,k1,e13,y4,z4,p0,bf,bp,b2,aF]
   exact⟨by trivial,E4⟩
 | @setter k0' f hkk hf=>
   obtain⟨y,p,bd,z,hy,hyk,hyks,hz,a0,hzk,w,hw,hw6⟩:=hf;replace hv4:Row h4 (.slice av 2 cv0) 3 1 (bL [kd1 ns k0',kd1 ns f]):=hv4;obtain⟨bv,cv,ev,hcv⟩:=cJ (m:=2) hv4 rfl (by omega);cases ev;have v0:bG h4 bv 0=some (.int .i64 ((kd1 ns k0':Nat):Int)):=hcv 0 (by simp);have v1:bG h4 bv 1=some (.int .i64 ((kd1 ns f:Nat):Int)):=hcv 1 (by simp);replace hrk4:Row h4 (.slice ak 2 ck) 3 1 (bL [k0',f]):=hrk4;replace c4:bG h4 h.size 4=some (.slice ak 2 ck):=c4;obtain⟨bk,ck',e4,hck⟩:=cJ (m:=2) hrk4 rfl (by omega);cases e4;have k0:bG h4 bk 0=some (.int .i64 ((k0':Nat):Int)):=hck 0 (by simp);have k1:bG h4 bk 1=some (.int .i64 ((f:Nat):Int)):=hck 1 (by simp);have q0:(0:Int)≤0∧(0:Int)<((2:Nat):Int):=by decide
   have q1:(0:Int)≤1∧(1:Int)<((2:Nat):Int):=by decide
   obtain⟨b',cap',vy,e2,hfn,hry,_,hcy⟩:=NS.at H4 hy;simp only[Value.slice.injEq,Option.some.injEq,Addr.mk.injEq,true_and,and_true]at e2;obtain⟨rfl,rfl⟩:=e2;obtain⟨b5,cap5,vz,e5,hpn,hrz,_,hcz⟩:=NS.at H4 hz;simp only[Value.slice.injEq,Option.some.injEq,Addr.mk.injEq,true_and,and_true]at e5;obtain⟨rfl,rfl⟩:=e5;obtain⟨bp',cp',ep,hcp⟩:=cJ (m:=2) hry (by rw[hyks];rfl) (by omega);subst ep;have y4:bG h4 b (f*6+4)=some (.slice (some ⟨bp',0,none⟩) 2 cp'):=hcy 4 (by omega)
   have p0:bG h4 bp' 0=some (.int .i64 ((p:Nat):Int)):=by
    have:=hcp 0 (by rw[hyks];simp);simpa[hyks]using this
   obtain⟨az,czz,rfl,_⟩:=cV hrz;have z4:bG h4 b (p*6+4)=some (.slice az z.kids.length czz):=hcz 4 (by omega);have bf:(0:Int)≤(f:Int)∧(f:Int)<((ns.length:Nat):Int):=by omega
   have bp:(0:Int)≤(p:Int)∧(p:Int)<((ns.length:Nat):Int):=by omega
   have b2:(0:Int)≤0∧(0:Int)<((2:Nat):Int):=by decide
   have e13:(kd1 ns f==13)=true:=by rw[oP hy,hyk];rfl
   rw[hzk]at z4 hrz;obtain⟨bz,cz',ez,hcz2⟩:=cJ (m:=1) hrz rfl (by omega);cases ez;have z0:bG h4 bz 0=some (.int .i64 ((a0:Nat):Int)):=hcz2 0 (by simp);obtain⟨b5,cap5,vw,e5,hwn,_,_,hcw⟩:=NS.at H4 hw;simp only[Value.slice.injEq,Option.some.injEq,Addr.mk.injEq,true_and,and_true]at e5;obtain⟨rfl,rfl⟩:=e5;have w0:bG h4 b (a0*6)=some (.int .i64 (w.kind:Int)):=hcw 0 (by omega);have ba:(0:Int)≤(a0:Int)∧(a0:Int)<((ns.length:Nat):Int):=by omega
   have b3:(0:Int)≤0∧(0:Int)<((1:Nat):Int):=by decide
   simp only[↓zp,zw,↓reduceIte,aA,c0,kqs,knqs,aY,aB,aD,aR,aZ,aN,aX,bW,bV,aQ,aP,q0,v0,q1,v1,c4,k0,k1];refine bK (rkey_c (kd1 ns k0')) ?_;rw[hkk.kd];simp only[↓zp,zw,↓reduceIte,aA,c0,kqs,knqs,aY,aB,aD,aR,aZ,aN,aX,bW,bV,aQ,aP,q0,v0,q1,v1,c4,k0,k1,e13,y4,z4,p0,bf,bp,b2,b3,ba,z0,w0,hw6,aF]
   exact⟨by trivial,E4⟩
 | @func _ p bd hx' hp hb=>
   replace hv4:Row h4 (.slice av 2 cv0) 3 1 (bL [kd1 ns p,kd1 ns bd]):=hv4;obtain⟨bv,cv,ev,hcv⟩:=cJ (m:=2) hv4 rfl (by omega);cases ev;have v0:bG h4 bv 0=some (.int .i64 ((kd1 ns p:Nat):Int)):=hcv 0 (by simp);have v1:bG h4 bv 1=some (.int .i64 ((kd1 ns bd:Nat):Int)):=hcv 1 (by simp);have q0:(0:Int)≤0∧(0:Int)<((2:Nat):Int):=by decide
   have q1:(0:Int)≤1∧(1:Int)<((2:Nat):Int):=by decide
   simp only[↓zp,zw,↓reduceIte,aA,c0,kqs,knqs,aY,aB,aD,aR,aZ,aN,aX,bW,bV,aQ,aP,q0,v0,q1,v1,hp.kd,hb.kd]
   exact⟨by trivial,E4⟩
 | @fun_ _ p bd hx' hp hb=>
   replace hv4:Row h4 (.slice av 2 cv0) 3 1 (bL [kd1 ns p,kd1 ns bd]):=hv4;obtain⟨bv,cv,ev,hcv⟩:=cJ (m:=2) hv4 rfl (by omega);cases ev;have v0:bG h4 bv 0=some (.int .i64 ((kd1 ns p:Nat):Int)):=hcv 0 (by simp);have v1:bG h4 bv 1=some (.int .i64 ((kd1 ns bd:Nat):Int)):=hcv 1 (by simp);have q0:(0:Int)≤0∧(0:Int)<((2:Nat):Int):=by decide
   have q1:(0:Int)≤1∧(1:Int)<((2:Nat):Int):=by decide
   simp only[↓zp,zw,↓reduceIte,aA,c0,kqs,knqs,aY,aB,aD,aR,aZ,aN,aX,bW,bV,aQ,aP,q0,v0,q1,v1,hp.kd,hb.kd]
   exact⟨by trivial,E4⟩
 | @arrow p bd hp hb=>
   replace hv4:Row h4 (.slice av 2 cv0) 3 1 (bL [kd1 ns p,kd1 ns bd]):=hv4;obtain⟨bv,cv,ev,hcv⟩:=cJ (m:=2) hv4 rfl (by omega);cases ev;have v0:bG h4 bv 0=some (.int .i64 ((kd1 ns p:Nat):Int)):=hcv 0 (by simp);have v1:bG h4 bv 1=some (.int .i64 ((kd1 ns bd:Nat):Int)):=hcv 1 (by simp);have q0:(0:Int)≤0∧(0:Int)<((2:Nat):Int):=by decide
   have q1:(0:Int)≤1∧(1:Int)<((2:Nat):Int):=by decide
   have hb:=hb.kd;simp only[↓zp,zw,↓reduceIte,aA,c0,kqs,knqs,aY,aB,aD,aR,aZ,aN,aX,bW,bV,aQ,aP,q0,v0,q1,v1,hp.kd];refine bK (eI (kd1 ns bd)) ?_
   cases he:cG (kd1 ns bd)with
   |true=>
    simp only[↓zp,zw,↓reduceIte,aA,c0,kqs,knqs,aY,aB,aD,aR,aZ,aN,aX,bW,bV,aQ,aP,q0,v0,q1,v1]
    exact⟨by trivial,E4⟩
   |false=>
    rw[he,Bool.or_false]at hb;simp only[↓zp,zw,↓reduceIte,aA,c0,kqs,knqs,aY,aB,aD,aR,aZ,aN,aX,bW,bV,aQ,aP,q0,v0,q1,v1,hb]
    exact⟨by trivial,E4⟩
 | @call _ e l' hkk he hls=>
   replace hv4:Row h4 (.slice av (l'.length+1) cv0) 3 1 (bL (kd1 ns e::kd ns l')):=hv4;have hv5:=hv4;have hge:decide (((l'.length+1:Nat):Int)≥1)=true:=bC (by omega);have q0:(0:Int)≤0∧(0:Int)<((l'.length+1:Nat):Int):=by omega
   obtain⟨bv,cv,ev,hcv⟩:=cJ (m:=l'.length+1) hv4 (by simp[dK]) (by omega);cases ev;have v0:bG h4 bv 0=some (.int .i64 ((kd1 ns e:Nat):Int)):=hcv 0 (by simp);have htl:=tl_all (e:=kd1 ns e) hls.kd;rcases hkk with rfl|rfl
   all_goals
    simp only[↓zp,zw,↓reduceIte,aA,c0,kqs,knqs,aY,aB,aD,aR,aZ,aN,aX,bW,bV,aQ,aP,hge,q0,v0];refine bK (eI (kd1 ns e)) ?_;rw[he.kd];simp only[↓zp,zw,↓reduceIte,aA,aB];refine bK (lN (at0:=1) (sp:=true) hv5 (by simp[dK]at hfew⊢;omega) (by omega) fun j hj h1=>yW _ (htl j hj h1)) ?_;simp only[↓zp,zw,↓reduceIte,aA]
    exact⟨by trivial,E4⟩
 | @dot _ e hx' he=>
   replace hv4:Row h4 (.slice av 1 cv0) 3 1 (bL [kd1 ns e]):=hv4;obtain⟨bv,cv,ev,hcv⟩:=cJ (m:=1) hv4 rfl (by omega);cases ev;have v0:bG h4 bv 0=some (.int .i64 ((kd1 ns e:Nat):Int)):=hcv 0 (by simp);have q0:(0:Int)≤0∧(0:Int)<((1:Nat):Int):=by decide
   simp only[↓zp,zw,↓reduceIte,aA,c0,kqs,knqs,aY,aB,aD,aR,aZ,aN,aX,bW,bV,aQ,aP,q0,v0];refine bK (eI (kd1 ns e)) ?_;rw[he.kd];simp only[↓zp,zw,↓reduceIte,aA,c0,kqs,knqs,aY,aB,aD,aR,aZ,aN,aX,bW,bV,aQ,aP,q0,v0]
   exact⟨by trivial,E4⟩
 | @unary _ e hx' he=>
   replace hv4:Row h4 (.slice av 1 cv0) 3 1 (bL [kd1 ns e]):=hv4;obtain⟨bv,cv,ev,hcv⟩:=cJ (m:=1) hv4 rfl (by omega);cases ev;have v0:bG h4 bv 0=some (.int .i64 ((kd1 ns e:Nat):Int)):=hcv 0 (by simp);have q0:(0:Int)≤0∧(0:Int)<((1:Nat):Int):=by decide
   simp only[↓zp,zw,↓reduceIte,aA,c0,kqs,knqs,aY,aB,aD,aR,aZ,aN,aX,bW,bV,aQ,aP,q0,v0];refine bK (eI (kd1 ns e)) ?_;rw[he.kd];simp only[↓zp,zw,↓reduceIte,aA,c0,kqs,knqs,aY,aB,aD,aR,aZ,aN,aX,bW,bV,aQ,aP,q0,v0]
   exact⟨by trivial,E4⟩
 | @one _ e hkk he=>
   rcases hkk with rfl|rfl|rfl|rfl
   all_goals
    replace hv4:Row h4 (.slice av 1 cv0) 3 1 (bL [kd1 ns e]):=hv4;obtain⟨bv,cv,ev,hcv⟩:=cJ (m:=1) hv4 rfl (by omega);cases ev;have v0:bG h4 bv 0=some (.int .i64 ((kd1 ns e:Nat):Int)):=hcv 0 (by simp);have q0:(0:Int)≤0∧(0:Int)<((1:Nat):Int):=by decide
    simp only[↓zp,zw,↓reduceIte,aA,c0,kqs,knqs,aY,aB,aD,aR,aZ,aN,aX,bW,bV,aQ,aP,q0,v0];refine bK (eI (kd1 ns e)) ?_;rw[he.kd];simp only[↓zp,zw,↓reduceIte,aA,c0,kqs,knqs,aY,aB,aD,aR,aZ,aN,aX,bW,bV,aQ,aP,q0,v0]
    exact⟨by trivial,E4⟩
 | @two _ a0 b0 hkk ha hb=>
   have hall:allK ns [a0,b0] cG:=.cons ha (.cons hb .nil);rcases hkk with rfl|rfl|rfl
   all_goals
    simp only[↓zp,zw,↓reduceIte,aA,c0,kqs,knqs,aY,aB,aD,aR,aZ,aN,aX,bW,bV,aQ,aP];refine bK (lN (at0:=0) (sp:=false) hv4 (by rw[dK];exact hfew) (by omega) (lX hall.kd mP)) ?_;simp only[↓zp,zw,↓reduceIte,aA]
    exact⟨by trivial,E4⟩
 | @binary _ a0 b0 hx' ha hb=>
   have hall:allK ns [a0,b0] cG:=.cons ha (.cons hb .nil);simp only[↓zp,zw,↓reduceIte,aA,c0,kqs,knqs,aY,aB,aD,aR,aZ,aN,aX,bW,bV,aQ,aP];refine bK (lN (at0:=0) (sp:=false) hv4 (by rw[dK];exact hfew) (by omega) (lX hall.kd mP)) ?_;simp only[↓zp,zw,↓reduceIte,aA]
   exact⟨by trivial,E4⟩
 | @cond a0 b0 d0 ha hb hd=>
   have hall:allK ns [a0,b0,d0] cG:=.cons ha (.cons hb (.cons hd .nil));simp only[↓zp,zw,↓reduceIte,aA,c0,kqs,knqs,aY,aB,aD,aR,aZ,aN,aX,bW,bV,aQ,aP];refine bK (lN (at0:=0) (sp:=false) hv4 (by rw[dK];exact hfew) (by omega) (lX hall.kd mP)) ?_;simp only[↓zp,zw,↓reduceIte,aA]
   exact⟨by trivial,E4⟩
 | @seq a0 b0 l' hall=>
   have hge:decide (((l'.length+1+1:Nat):Int)≥2)=true:=bC (by omega);simp only[↓zp,zw,↓reduceIte,aA,c0,kqs,knqs,aY,aB,aD,aR,aZ,aN,aX,bW,bV,aQ,aP,hge];refine bK (lN (at0:=0) (sp:=false) hv4 (by rw[dK];exact hfew) (by omega) (lX hall.kd mP)) ?_;simp only[↓zp,zw,↓reduceIte,aA]
   exact⟨by trivial,E4⟩
 | @prepost _ _ e hkk hx' he=>
   replace hv4:Row h4 (.slice av 1 cv0) 3 1 (bL [kd1 ns e]):=hv4;obtain⟨bv,cv,ev,hcv⟩:=cJ (m:=1) hv4 rfl (by omega);cases ev;have v0:bG h4 bv 0=some (.int .i64 ((kd1 ns e:Nat):Int)):=hcv 0 (by simp);have q0:(0:Int)≤0∧(0:Int)<((1:Nat):Int):=by decide
   rcases hkk with rfl|rfl
   all_goals
    simp only[↓zp,zw,↓reduceIte,aA,c0,kqs,knqs,aY,aB,aD,aR,aZ,aN,aX,bW,bV,aQ,aP,q0,v0];refine bK (rtgt_c (kd1 ns e)) ?_;rw[he.kd];simp only[↓zp,zw,↓reduceIte,aA,c0,kqs,knqs,aY,aB,aD,aR,aZ,aN,aX,bW,bV,aQ,aP,q0,v0]
    exact⟨by trivial,E4⟩
 | @assign _ a0 b0 hx' ha hb=>
   replace hv4:Row h4 (.slice av 2 cv0) 3 1 (bL [kd1 ns a0,kd1 ns b0]):=hv4;obtain⟨bv,cv,ev,hcv⟩:=cJ (m:=2) hv4 rfl (by omega);cases ev;have v0:bG h4 bv 0=some (.int .i64 ((kd1 ns a0:Nat):Int)):=hcv 0 (by simp);have v1:bG h4 bv 1=some (.int .i64 ((kd1 ns b0:Nat):Int)):=hcv 1 (by simp);have q0:(0:Int)≤0∧(0:Int)<((2:Nat):Int):=by decide
   have q1:(0:Int)≤1∧(1:Int)<((2:Nat):Int):=by decide
   simp only[↓zp,zw,↓reduceIte,aA,c0,kqs,knqs,aY,aB,aD,aR,aZ,aN,aX,bW,bV,aQ,aP,q0,v0,q1,v1];refine bK (rtgt_c (kd1 ns a0)) ?_;rw[ha.kd];simp only[↓zp,zw,↓reduceIte,aA,c0,kqs,knqs,aY,aB,aD,aR,aZ,aN,aX,bW,bV,aQ,aP,q0,v0,q1,v1];refine bK (eI (kd1 ns b0)) ?_;rw[hb.kd];simp only[↓zp,zw,↓reduceIte,aA,c0,kqs,knqs,aY,aB,aD,aR,aZ,aN,aX,bW,bV,aQ,aP,q0,v0,q1,v1]
   exact⟨by trivial,E4⟩
 |template h=>
  simp only[↓zp,zw,↓reduceIte,aA,c0,kqs,knqs,aY,aB,aD,aR,aZ,aN,aX,bW,bV,aQ,aP];refine bH (hmore (by decide)) ?_;rintro _ h5 ⟨rfl,hE5⟩;simp only[↓zp,zw,↓reduceIte,aA]
  exact⟨by trivial,E4.trans hE5⟩
 |params h=>
  simp only[↓zp,zw,↓reduceIte,aA,c0,kqs,knqs,aY,aB,aD,aR,aZ,aN,aX,bW,bV,aQ,aP];refine bH (hmore (by decide)) ?_;rintro _ h5 ⟨rfl,hE5⟩;simp only[↓zp,zw,↓reduceIte,aA]
  exact⟨by trivial,E4.trans hE5⟩
 |init h=>
  simp only[↓zp,zw,↓reduceIte,aA,c0,kqs,knqs,aY,aB,aD,aR,aZ,aN,aX,bW,bV,aQ,aP];refine bH (hmore (by decide)) ?_;rintro _ h5 ⟨rfl,hE5⟩;simp only[↓zp,zw,↓reduceIte,aA]
  exact⟨by trivial,E4.trans hE5⟩
 |ret h=>
  simp only[↓zp,zw,↓reduceIte,aA,c0,kqs,knqs,aY,aB,aD,aR,aZ,aN,aX,bW,bV,aQ,aP];refine bH (hmore (by decide)) ?_;rintro _ h5 ⟨rfl,hE5⟩;simp only[↓zp,zw,↓reduceIte,aA]
  exact⟨by trivial,E4.trans hE5⟩
 |ifs h=>
  simp only[↓zp,zw,↓reduceIte,aA,c0,kqs,knqs,aY,aB,aD,aR,aZ,aN,aX,bW,bV,aQ,aP];refine bH (hmore (by decide)) ?_;rintro _ h5 ⟨rfl,hE5⟩;simp only[↓zp,zw,↓reduceIte,aA]
  exact⟨by trivial,E4.trans hE5⟩
 |fors h=>
  simp only[↓zp,zw,↓reduceIte,aA,c0,kqs,knqs,aY,aB,aD,aR,aZ,aN,aX,bW,bV,aQ,aP];refine bH (hmore (by decide)) ?_;rintro _ h5 ⟨rfl,hE5⟩;simp only[↓zp,zw,↓reduceIte,aA]
  exact⟨by trivial,E4.trans hE5⟩
 |whiles h=>
  simp only[↓zp,zw,↓reduceIte,aA,c0,kqs,knqs,aY,aB,aD,aR,aZ,aN,aX,bW,bV,aQ,aP];refine bH (hmore (by decide)) ?_;rintro _ h5 ⟨rfl,hE5⟩;simp only[↓zp,zw,↓reduceIte,aA]
  exact⟨by trivial,E4.trans hE5⟩
 |dos h=>
  simp only[↓zp,zw,↓reduceIte,aA,c0,kqs,knqs,aY,aB,aD,aR,aZ,aN,aX,bW,bV,aQ,aP];refine bH (hmore (by decide)) ?_;rintro _ h5 ⟨rfl,hE5⟩;simp only[↓zp,zw,↓reduceIte,aA]
  exact⟨by trivial,E4.trans hE5⟩
 |tries h=>
  simp only[↓zp,zw,↓reduceIte,aA,c0,kqs,knqs,aY,aB,aD,aR,aZ,aN,aX,bW,bV,aQ,aP];refine bH (hmore (by decide)) ?_;rintro _ h5 ⟨rfl,hE5⟩;simp only[↓zp,zw,↓reduceIte,aA]
  exact⟨by trivial,E4.trans hE5⟩
 |switch h=>
  simp only[↓zp,zw,↓reduceIte,aA,c0,kqs,knqs,aY,aB,aD,aR,aZ,aN,aX,bW,bV,aQ,aP];refine bH (hmore (by decide)) ?_;rintro _ h5 ⟨rfl,hE5⟩;simp only[↓zp,zw,↓reduceIte,aA]
  exact⟨by trivial,E4.trans hE5⟩
 |case h=>
  simp only[↓zp,zw,↓reduceIte,aA,c0,kqs,knqs,aY,aB,aD,aR,aZ,aN,aX,bW,bV,aQ,aP];refine bH (hmore (by decide)) ?_;rintro _ h5 ⟨rfl,hE5⟩;simp only[↓zp,zw,↓reduceIte,aA]
  exact⟨by trivial,E4.trans hE5⟩
 |label h=>
  simp only[↓zp,zw,↓reduceIte,aA,c0,kqs,knqs,aY,aB,aD,aR,aZ,aN,aX,bW,bV,aQ,aP];refine bH (hmore (by decide)) ?_;rintro _ h5 ⟨rfl,hE5⟩;simp only[↓zp,zw,↓reduceIte,aA]
  exact⟨by trivial,E4.trans hE5⟩
 |stmts hkk h=>
  rcases hkk with rfl|rfl|rfl
  ·skip
   simp only[↓zp,zw,↓reduceIte,aA,c0,kqs,knqs,aY,aB,aD,aR,aZ,aN,aX,bW,bV,aQ,aP];refine bH (hmore (by decide)) ?_;rintro _ h5 ⟨rfl,hE5⟩;simp only[↓zp,zw,↓reduceIte,aA];exact⟨by trivial,E4.trans hE5⟩
  ·skip
   simp only[↓zp,zw,↓reduceIte,aA,c0,kqs,knqs,aY,aB,aD,aR,aZ,aN,aX,bW,bV,aQ,aP];refine bH (hmore (by decide)) ?_;rintro _ h5 ⟨rfl,hE5⟩;simp only[↓zp,zw,↓reduceIte,aA];exact⟨by trivial,E4.trans hE5⟩
  ·skip
   simp only[↓zp,zw,↓reduceIte,aA,c0,kqs,knqs,aY,aB,aD,aR,aZ,aN,aX,bW,bV,aQ,aP];refine bH (hmore (by decide)) ?_;rintro _ h5 ⟨rfl,hE5⟩;simp only[↓zp,zw,↓reduceIte,aA]
   exact⟨by trivial,E4.trans hE5⟩
 |each hkk h=>
  rcases hkk with rfl|rfl
  ·skip
   simp only[↓zp,zw,↓reduceIte,aA,c0,kqs,knqs,aY,aB,aD,aR,aZ,aN,aX,bW,bV,aQ,aP];refine bH (hmore (by decide)) ?_;rintro _ h5 ⟨rfl,hE5⟩;simp only[↓zp,zw,↓reduceIte,aA];exact⟨by trivial,E4.trans hE5⟩
  ·skip
   simp only[↓zp,zw,↓reduceIte,aA,c0,kqs,knqs,aY,aB,aD,aR,aZ,aN,aX,bW,bV,aQ,aP];refine bH (hmore (by decide)) ?_;rintro _ h5 ⟨rfl,hE5⟩;simp only[↓zp,zw,↓reduceIte,aA]
   exact⟨by trivial,E4.trans hE5⟩
 | @decl _ a0 l' hkk h=>
   have hkk2:k=33∨k=34:=by simpa[fN]using hkk
   rcases hkk2 with rfl|rfl
   ·skip
    simp only[↓zp,zw,↓reduceIte,aA,c0,kqs,knqs,aY,aB,aD,aR,aZ,aN,aX,bW,bV,aQ,aP];refine bH (hmore (by decide)) ?_;rintro _ h5 ⟨rfl,hE5⟩;simp only[↓zp,zw,↓reduceIte,aA];exact⟨by trivial,E4.trans hE5⟩
   ·skip
    simp only[↓zp,zw,↓reduceIte,aA,c0,kqs,knqs,aY,aB,aD,aR,aZ,aN,aX,bW,bV,aQ,aP];refine bH (hmore (by decide)) ?_;rintro _ h5 ⟨rfl,hE5⟩;simp only[↓zp,zw,↓reduceIte,aA];exact⟨by trivial,E4.trans hE5⟩
end
end
section
section
variable{h:Heap}{vl:Value}{ns:List Nd}
theorem Wst_int {b o:Nat} {l:List Nat} {v:Nat} {dst:Option Nat} {ρ:Env} {h:Heap} {k:Env→Heap→Prop} {tk:Tok (dst,ρ,k)} (hb:Blk h b (bL l) 3) (ho:o<l.length)
 (H:∀h',Blk h' b (bL (l.set o v)) 3→Ext [b] h h'→h'.size=h.size→k (ρ.put dst undef) h'):WstT aE 3 (.pointer (some ⟨b,o,none⟩)) (.int .i64 (v:Int)) dst ρ h k tk:=by
 refine bS hb (by kernel_rfl) (by rw[cW];exact ho) rfl fun h' hb' hE hs=>H h' ?_ hE hs;have:(bL l).set o (.int .i64 (v:Int))=bL (l.set o v):=by simp[bL,List.map_set]
 rw[←this];exact hb'
theorem rdeep_c(H:NS h vl ns)(hpos:0<ns.length)(hbig:ns.length≤1000000)(hkl:∀(n:Nat) (x:Nd),ns[n]? =some x→(∀k,k∈x.kids→k<n)∧x.kids.length≤1000000):C aE 17 #[vl] h fun e h'=>e=.returned (.int .i64 (gY ns:Int))∧Ext [] h h':=by
 obtain⟨b,cap,rfl,_⟩:=NS.node H hpos;obtain⟨N,hN⟩:∃N,ns.length=N:=⟨_,rfl⟩;have H0:=H;rw[hN]at H hpos hbig⊢;refine C_in Tryz.func17 rfl rfl (by kernel_rfl) (aG rfl) ?_;simp only[↓zp,zw,↓reduceIte,aA];refine Wmake (e:=3) (z:=.int .i64 0) (n:=N) Tryz.underlying33 (by kernel_rfl) (by kernel_rfl) rfl (by omega) fun h1 hd1 hE1 hz1=> ?_
 have hd1':Blk h1 h.size (bL (eW (ns.take 0)++List.replicate (N-0) 0)) 3:=by
  have:bL (eW (ns.take 0)++List.replicate (N-0) 0)=List.replicate N (.int .i64 0):=by simp[eW,bL]
  rw[this];exact hd1
 simp only[↓zp,zw,↓reduceIte,aA];refine⟨fun m ρ h'=> ∃i:Nat,ρ 0=.slice (some ⟨b,0,none⟩) N cap∧ρ 3=.slice (some ⟨h.size,0,none⟩) N N∧ρ 11=.slice (some ⟨b,0,none⟩) N cap∧ρ 12=.int .i64 (N:Int)∧ρ 13=.int .i64 (i:Int)∧Blk h' h.size (bL (eW (ns.take i)++List.replicate (N-i) 0)) 3∧Ext [] h h'∧i≤N∧(∀d,d∈eW (ns.take i)→d≤i)∧m=N-i,N,⟨0,by simp only[↓zp,zw,↓reduceIte,aA],by simp only[↓zp,zw,↓reduceIte,aA],by simp only[↓zp,zw,↓reduceIte,aA],by simp only[↓zp,zw,↓reduceIte,aA],by simp only[↓zp,zw,↓reduceIte,aA];rfl,hd1',hE1,by omega,by simp[eW],rfl⟩,?_⟩;rintro m ρ h2 ⟨i,g0,g3,g11,g12,g13,hd2,E2,hi,hle,hm⟩;have hDl:(eW (ns.take i)).length=i:=by rw[tT,List.length_take];omega
 by_cases hlt:i<N
 ·have d1:decide ((i:Int)<((N:Nat):Int))=true:=bC (by omega);have b1:(0:Int)≤(i:Int)∧(i:Int)<((N:Nat):Int):=by omega
  have w1:=bI (a:=i) (by omega);obtain⟨x,hx⟩:∃x,ns[i]? =some x:=⟨_,aS (by omega)⟩
  have hsn:eW (ns.take (i+1))=eW (ns.take i)++[jR (eW (ns.take i)) x.kids+1]:=by
   rw[List.take_add_one,hx];exact rY _ _
  obtain⟨hkl1,hkf⟩:=hkl i x hx;obtain⟨b',cap',vk,e2,hn,hrk0,hld0,hc⟩:=NS.at H0 hx;simp only[Value.slice.injEq,Option.some.injEq,Addr.mk.injEq,true_and,and_true]at e2;obtain⟨rfl,rfl⟩:=e2;obtain⟨ak,ckk,rfl,hkid⟩:=cV hrk0;have hld:=fM E2 (by simp) hld0;generalize hD:eW (ns.take i)=D at*;simp only[↓zp,zw,↓reduceIte,aA,g0,g3,g11,g12,g13,d1,b1,aF,hld];refine jU fun h4 hb4 E4 hs4=> ?_;have E24:=E2.trans E4;have hd4:=hd2.ext E4 (by simp);have hS:h.size<h2.size:=hd2.lt;have c4:bG h4 h2.size 4=some (.slice ak x.kids.length ckk):=by rw[bE hb4];rfl
  simp only[↓zp,zw,↓reduceIte,aA,g0,g3,g11,g12,g13,b1,aF,aP];refine Wst_int (v:=1) hd4 (by simp;omega) fun h5 hd5 E5 hs5=> ?_;have E25:=E24.trans_new E5 fun y hy=> .inl (by simp at hy;omega);have c45:=E5.cell c4 (by simp;omega)
  have hset:∀d:Nat,(D++List.replicate (N-i) 0).set i d=D++d::List.replicate (N-(i+1)) 0:=fun d=>by
   rw[show N-i=(N-(i+1))+1 by omega,List.replicate_succ,List.set_append_right _ _ (by omega),hDl,Nat.sub_self,List.set_cons_zero]
  rw[hset]at hd5;simp only[↓zp,zw,↓reduceIte,aA,g0,g3,g11,g12,g13,c45]
  refine⟨fun m2 ρ h'=> ∃j d:Nat,ρ 0=.slice (some ⟨b,0,none⟩) N cap∧ρ 3=.slice (some ⟨h.size,0,none⟩) N N∧ρ 4=.int .i64 (i:Int)∧ρ 11=.slice (some ⟨b,0,none⟩) N cap∧ρ 12=.int .i64 (N:Int)∧ρ 13=.int .i64 (i:Int)∧ρ 22=.slice ak x.kids.length ckk∧ρ 23=.int .i64 ((x.kids.length:Nat):Int)∧ρ 24=.int .i64 (j:Int)∧Blk h' h.size (bL (D++(d+1)::List.replicate (N-(i+1)) 0)) 3∧Ext [] h h'∧j≤x.kids.length∧d≤i∧(x.kids.drop j).foldl (fun d k=>max d (D.getD k 0)) d=jR D x.kids∧m2=x.kids.length-j,x.kids.length,
   ⟨0,0,by simp only[↓zp,zw,↓reduceIte,aA,g0],by simp only[↓zp,zw,↓reduceIte,aA,g3],by simp only[↓zp,zw,↓reduceIte,aA],by simp only[↓zp,zw,↓reduceIte,aA,g11],by simp only[↓zp,zw,↓reduceIte,aA,g12],by simp only[↓zp,zw,↓reduceIte,aA,g13],by simp only[↓zp,zw,↓reduceIte,aA],by simp only[↓zp,zw,↓reduceIte,aA],by simp only[↓zp,zw,↓reduceIte,aA];rfl,hd5,E25,by omega,by omega,rfl,rfl⟩,?_⟩
  rintro m2 ρ h6 ⟨j,d,f0,f3,f4,f11,f12,f13,f22,f23,f24,hd6,E6,hj,hdi,hfold,hmm⟩;by_cases hjl:j<x.kids.length
  ·have d2:decide ((j:Int)<((x.kids.length:Nat):Int))=true:=bC (by omega);have b2:(0:Int)≤(j:Int)∧(j:Int)<((x.kids.length:Nat):Int):=by omega
   have w2:=bI (a:=j) (by omega);obtain⟨bk,rfl,hck⟩:=hkid j hjl;have hck6:=E6.cell hck (by simp);rw[List.drop_eq_getElem_cons hjl,List.foldl_cons]at hfold;have hki:=hkl1 _ (List.getElem_mem hjl);generalize x.kids[j]'hjl=k at hck6 hfold hki;have d3:decide ((k:Int)≥0)=true:=bC (by omega);have d4:decide ((k:Int)<(i:Int))=true:=bC (by omega);have b3:(0:Int)≤(k:Int)∧(k:Int)<((N:Nat):Int):=by omega
   have hgd:D.getD k 0=D[k]'(by omega):=by simp[List.getD_eq_getElem?_getD,aS (show k<D.length by omega)]
   have hcd:bG h6 h.size (k*1)=some (.int .i64 ((D.getD k 0:Nat):Int)):=by
    rw[aP,bE hd6,hgd];unfold bL;rw[List.getElem?_map,List.getElem?_append_left (by omega),aS (by omega)]
    rfl
   have hci:bG h6 h.size (i*1)=some (.int .i64 ((d+1:Nat):Int)):=by
    rw[aP,bE hd6];unfold bL;rw[List.getElem?_map,List.getElem?_append_right (by omega),hDl,Nat.sub_self]
    rfl
   have hDk:D.getD k 0≤i:=by rw[hgd];exact hle _ (List.getElem_mem _)
   generalize D.getD k 0=e at hcd hfold hDk;have we:=bI (a:=e) (by omega);have d5:decide (((e+1:Nat):Int)>((d+1:Nat):Int))=decide (d<e):=by rw[aW];simp only[decide_eq_true_eq];omega
   simp only[↓zp,zw,↓reduceIte,aA,f0,f3,f4,f11,f12,f13,f22,f23,f24,d2,b2,aF,hck6];refine bR 17 (by kernel_rfl) (by kernel_rfl) (by kernel_rfl) ?_
   cases hde:decide (d<e)with
   |true=>
    have hmax:max d e=e:=by have:=of_decide_eq_true hde;omega
    rw[hmax]at hfold;simp only[↓zp,zw,↓reduceIte,aA,f0,f3,f4,f11,f12,f13,f22,f23,f24,d3,d4,b1,b3,aF,hcd,hci,we,d5,hde];refine Wst_int (o:=i*1) (v:=e+1) hd6 (by simp;omega) fun h7 hd7 E7 hs7=> ?_;rw[aP,List.set_append_right _ _ (by omega),hDl,Nat.sub_self,List.set_cons_zero]at hd7;simp only[↓zp,zw,↓reduceIte,aA,f0,f3,f4,f11,f12,f13,f22,f23,f24,w2]
    exact⟨x.kids.length-(j+1),by omega,j+1,e,by trivial,by trivial,by trivial,by trivial,by trivial,by trivial,by trivial,by trivial,by trivial,hd7,E6.trans_new E7 fun y hy=> .inl (by simp at hy;omega),by omega,by omega,hfold,rfl⟩
   |false=>
    have hmax:max d e=d:=by have:=of_decide_eq_false hde;omega
    rw[hmax]at hfold;simp only[↓zp,zw,↓reduceIte,aA,f0,f3,f4,f11,f12,f13,f22,f23,f24,d3,d4,b1,b3,aF,hcd,hci,we,d5,hde,w2];exact⟨x.kids.length-(j+1),by omega,j+1,d,by trivial,by trivial,by trivial,by trivial,by trivial,by trivial,by trivial,by trivial,by trivial,hd6,E6,by omega,by omega,hfold,rfl⟩
  ·have d2:decide ((j:Int)<((x.kids.length:Nat):Int))=false:=bD (by omega);rw[List.drop_eq_nil_of_le (by omega)]at hfold;have hfold:d=jR D x.kids:=hfold;simp only[↓zp,zw,↓reduceIte,aA,f0,f3,f4,f11,f12,f13,f22,f23,f24,d2,w1];refine⟨N-(i+1),by omega,i+1,by trivial,by trivial,by trivial,by trivial,by trivial,?_,E6,by omega,?_,rfl⟩
   ·rw[hsn,←hfold,List.append_assoc];exact hd6
   ·rw[hsn,←hfold];intro y hy;rcases List.mem_append.1 hy with hy|hy
    ·have:=hle y hy;omega
    ·simp at hy;omega
 ·have d1:decide ((i:Int)<((N:Nat):Int))=false:=bD (by omega);have e0:(((N:Nat):Int)==0)=false:=by simp;omega
  have wN:IntKind.i64.wrap ((N:Int)-1)=((N-1:Nat):Int):=by rw[aU _ (by omega)];omega
  have bN:(0:Int)≤((N-1:Nat):Int)∧((N-1:Nat):Int)<((N:Nat):Int):=by omega
  have et:ns.take i=ns:=List.take_of_length_le (by omega);rw[et]at hd2 hDl;have hi':i=N:=by omega
  rw[hi',Nat.sub_self,List.replicate_zero,List.append_nil]at hd2
  have hcl:bG h2 h.size ((N-1)*1)=some (.int .i64 ((gY ns:Nat):Int)):=by
   rw[aP,bE hd2];unfold bL gY;rw[List.getElem?_map,List.getLastD_eq_getLast?,List.getLast?_eq_getElem?,hDl,hi',aS (by omega)]
   rfl
  simp only[↓zp,zw,↓reduceIte,aA,g0,g3,g11,g12,g13,d1,e0,wN,bN,aF,hcl];exact⟨by trivial,E2⟩
theorem rcheck_c(hN:NS h vl ns){src:List UInt8}(hT:GoodTree src ns)(hfew:ns.length≤100000)(hdeep:gY ns≤200):C aE 7 #[vl] h fun e h'=>e=.returned (.tuple #[.int .i64 0,.int .i64 0])∧Ext [] h h':=by
 obtain⟨b,cap,rfl,_⟩:=NS.node hN hT.pos;obtain⟨hnd,hlt,hcov,hcnt⟩:=hT.kids;obtain⟨N,hNe⟩:∃N,ns.length=N:=⟨_,rfl⟩;obtain⟨K,hK⟩:∃K,ns.flatMap (·.kids)=K:=⟨_,rfl⟩
 have hkb:∀(n:Nat) (x:Nd),ns[n]? =some x→(∀k,k∈x.kids→k<n)∧x.kids.length≤1000000:=fun n x hx=>by
  have:=hT.nd hx;exact⟨this.1,by omega⟩
 have hN0:=hN;have d0:decide ((N:Int)>100000)=false:=bD (by omega);rw[hK]at hnd hcnt;rw[hNe]at hfew hcnt hN;rw[hNe];have hcov2:∀i,i<N→i=N-1∨i∈K:=fun i hi=>by rw[←hK,←hNe];exact hcov i (by rw[hNe];exact hi)
 refine C_in Tryz.func7 rfl rfl (by kernel_rfl) (aG rfl) ?_;simp only[↓zp,zw,↓reduceIte,aA,d0];refine Wmake (e:=4) (z:=.bool false) (n:=N) Tryz.underlying45 (by kernel_rfl) (by kernel_rfl) rfl (by omega) fun h3 hd3 hE3 hz3=> ?_;simp only[↓zp,zw,↓reduceIte,aA];rw[←sn_nil]at hd3;obtain⟨S,hS⟩:∃x,h.size=x:=⟨_,rfl⟩;rw[hS]at hd3;rw[hS];refine⟨fun m ρ h'=> ∃i:Nat,ρ 0=.slice (some ⟨b,0,none⟩) N cap∧ρ 4=.slice (some ⟨S,0,none⟩) N N∧ρ 20=.slice (some ⟨b,0,none⟩) N cap∧ρ 21=.int .i64 (N:Int)∧ρ 22=.int .i64 (i:Int)∧Blk h' S (sn ((ns.take i).flatMap (·.kids)) N) 4∧Ext [] h h'∧i≤N∧m=N-i,N,⟨0,by simp only[↓zp,zw,↓reduceIte,aA],by simp only[↓zp,zw,↓reduceIte,aA],by simp only[↓zp,zw,↓reduceIte,aA],by simp only[↓zp,zw,↓reduceIte,aA],by simp only[↓zp,zw,↓reduceIte,aA];rfl,hd3,hE3,by omega,rfl⟩,?_⟩;rintro m ρ h4 ⟨i,g0,g4,g20,g21,g22,hd4,hE4,hi,hm⟩;by_cases hlt:i<N
 ·have d1:decide ((i:Int)<(N:Int))=true:=bC (by omega);have b1:(0:Int)≤(i:Int)∧(i:Int)<(N:Int):=by omega
  obtain⟨x,hx⟩:∃x,ns[i]? =some x:=⟨_,aS (by omega)⟩;obtain⟨hkl,hkn,hk55⟩:=hT.nd hx;obtain⟨b',cap',vk,e2,hn,hrk0,hld0,hc⟩:=NS.at hN0 hx;simp only[Value.slice.injEq,Option.some.injEq,Addr.mk.injEq,true_and,and_true]at e2;obtain⟨rfl,rfl⟩:=e2;have hgood:=hT.good i x hx;obtain⟨ak,ckk,rfl,hkid⟩:=cV hrk0;have hld:=fM hE4 (by simp) hld0;simp only[↓zp,zw,↓reduceIte,aA,g0,g4,g20,g21,g22,d1,b1,aF,hld];refine jU fun h5 hb5 E45 hs5=> ?_;have c4:bG h5 h4.size 4=some (.slice ak x.kids.length ckk):=by rw[bE hb5];rfl
  have hld5:dH h5 h4.size 0 6=some (bM (x,.slice ak x.kids.length ckk)):=bQ hb5 (cU _);have hsm:x.kids.length≤100000:=by omega
  have E5:=hE4.trans E45;simp only[↓zp,zw,↓reduceIte,aA,g0,g4,g20,g21,g22,c4];refine⟨fun m2 ρ h'=> ∃j:Nat,ρ 0=.slice (some ⟨b,0,none⟩) N cap∧ρ 4=.slice (some ⟨S,0,none⟩) N N∧ρ 5=.int .i64 (i:Int)∧ρ 6=.pointer (some ⟨h4.size,0,none⟩)∧ρ 20=.slice (some ⟨b,0,none⟩) N cap∧ρ 21=.int .i64 (N:Int)∧ρ 22=.int .i64 (i:Int)∧ρ 28=.slice ak x.kids.length ckk∧ρ 29=.int .i64 ((x.kids.length:Nat):Int)∧ρ 30=.int .i64 (j:Int)∧h'=h5∧j≤x.kids.length∧m2=x.kids.length-j,x.kids.length,⟨0,by simp only[↓zp,zw,↓reduceIte,aA,g0],by simp only[↓zp,zw,↓reduceIte,aA,g4],by simp only[↓zp,zw,↓reduceIte,aA],by simp only[↓zp,zw,↓reduceIte,aA],by simp only[↓zp,zw,↓reduceIte,aA,g20],by simp only[↓zp,zw,↓reduceIte,aA,g21],by simp only[↓zp,zw,↓reduceIte,aA,g22],by simp only[↓zp,zw,↓reduceIte,aA],by simp only[↓zp,zw,↓reduceIte,aA],by simp only[↓zp,zw,↓reduceIte,aA];rfl,rfl,by omega,rfl⟩,?_⟩;clear g0 g4 g20 g21 g22;rintro m2 ρ h6 ⟨j,g0,g4,g5,g6,g20,g21,g22,g28,g29,g30,hh,hj,hm2⟩;rw[hh];by_cases hjl:j<x.kids.length
  ·have d2:decide ((j:Int)<((x.kids.length:Nat):Int))=true:=bC (by omega);have b2:(0:Int)≤(j:Int)∧(j:Int)<((x.kids.length:Nat):Int):=by omega
   have w2:=bI (a:=j) (by omega);obtain⟨bk,rfl,hck⟩:=hkid j hjl;have hck6:=E5.cell hck (by simp);have hki:=hkl _ (List.getElem_mem hjl);generalize x.kids[j]'hjl=k at hck6 hki;have d3:decide ((k:Int)<0)=false:=bD (by omega);have d4:decide ((k:Int)≥(i:Int))=false:=bD (by omega);simp only[↓zp,zw,↓reduceIte,aA,g0,g4,g5,g6,g20,g21,g22,g28,g29,g30,d2,b2,aF,hck6,d3,d4,w2];exact⟨x.kids.length-(j+1),by omega,j+1,by trivial,by trivial,by trivial,by trivial,by trivial,by trivial,by trivial,by trivial,by trivial,by trivial,by trivial,by omega,rfl⟩
  have d2:decide ((j:Int)<((x.kids.length:Nat):Int))=false:=bD (by omega);simp only[↓zp,zw,↓reduceIte,aA,g0,g4,g5,g6,g20,g21,g22,g28,g29,g30,d2,hld5];refine bH (rfields_c hgood) ?_;rintro _ h7 ⟨rfl,E57⟩;simp only[↓zp,zw,↓reduceIte,aA,g0,g4,g5,g6,g20,g21,g22];refine bH (shape_c (hN.ext0 (E5.trans E57)) hx (hgood.shape.mono (List.take_prefix _ _)) (by omega)) ?_;rintro _ h9 ⟨rfl,E79⟩;have E59:=E57.trans E79;have cB9:=E59.cell c4 (by simp);have hd9:=(hd4.ext E45 (by simp)).ext E59 (by simp);have E29:=E5.trans E59;have hw1:=bI (a:=i) (by omega);simp only[↓zp,zw,↓reduceIte,aA,g0,g4,g5,g6,g20,g21,g22,cB9];obtain⟨A,hA⟩:∃A,(ns.take i).flatMap (·.kids)=A:=⟨_,rfl⟩
  have htk:(ns.take (i+1)).flatMap (·.kids)=A++x.kids:=by
   rw[List.take_add_one,hx,List.flatMap_append,hA];simp
  have hKp:∃R,K=A++x.kids++R:=by
   refine⟨(ns.drop (i+1)).flatMap (·.kids),?_⟩;rw[←htk,←List.flatMap_append,List.take_append_drop,hK]
  obtain⟨R,hKR⟩:=hKp;rw[hA]at hd9;refine⟨fun m2 ρ h'=> ∃j:Nat,ρ 0=.slice (some ⟨b,0,none⟩) N cap∧ρ 4=.slice (some ⟨S,0,none⟩) N N∧ρ 20=.slice (some ⟨b,0,none⟩) N cap∧ρ 21=.int .i64 (N:Int)∧ρ 22=.int .i64 (i:Int)∧ρ 54=.slice ak x.kids.length ckk∧ρ 55=.int .i64 ((x.kids.length:Nat):Int)∧ρ 56=.int .i64 (j:Int)∧Blk h' S (sn (A++x.kids.take j) N) 4∧Ext [] h h'∧j≤x.kids.length∧m2=x.kids.length-j,x.kids.length,⟨0,by simp only[↓zp,zw,↓reduceIte,aA,g0],by simp only[↓zp,zw,↓reduceIte,aA,g4],by simp only[↓zp,zw,↓reduceIte,aA,g20],by simp only[↓zp,zw,↓reduceIte,aA,g21],by simp only[↓zp,zw,↓reduceIte,aA,g22],by simp only[↓zp,zw,↓reduceIte,aA],by simp only[↓zp,zw,↓reduceIte,aA],by simp only[↓zp,zw,↓reduceIte,aA];rfl,by simpa using hd9,E29,by omega,rfl⟩,?_⟩;clear hjl d2 hj hm2 g30 j;rintro m2 ρ h10 ⟨j,f0,f4,f23,f24,f25,f42,f43,f44,hd10,E210,hj,hm2⟩;by_cases hjl:j<x.kids.length
  ·have d2:decide ((j:Int)<((x.kids.length:Nat):Int))=true:=bC (by omega);have b2:(0:Int)≤(j:Int)∧(j:Int)<((x.kids.length:Nat):Int):=by omega
   have w2:=bI (a:=j) (by omega);obtain⟨bk,rfl,hck⟩:=hkid j hjl;have hck10:=E210.cell hck (by simp);have htj:x.kids.take (j+1)=x.kids.take j++[x.kids[j]'hjl]:=by rw[List.take_add_one,aS hjl];rfl
   have hqN:x.kids[j]'hjl<N:=Nat.lt_trans (hkl _ (List.getElem_mem hjl)) hlt
   have hnot:(A++x.kids.take j).contains (x.kids[j]'hjl)=false:=by
    have e:K=(A++x.kids.take j)++(x.kids[j]'hjl::(x.kids.drop (j+1)++R)):=by
     rw[hKR,←List.cons_append,List.getElem_cons_drop,List.append_assoc,List.append_assoc,←List.append_assoc (x.kids.take j),List.take_append_drop]
    rw[e]at hnd;have:=(List.nodup_append.1 hnd).2.2;simp only[List.contains_eq_mem,decide_eq_false_iff_not];exact fun hm=>this _ hm _ (by simp) rfl
   generalize x.kids[j]'hjl=q at hck10 htj hqN hnot;have b3:(0:Int)≤(q:Int)∧(q:Int)<(N:Int):=by omega
   have hsq:bG h10 S (q*1)=some (.bool false):=by rw[bE hd10,aP,qW hqN,hnot]
   simp only[↓zp,zw,↓reduceIte,aA,f0,f4,f23,f24,f25,f42,f43,f44,d2,b2,b3,aF,hck10,hsq];refine bS (o:=q*1) hd10 (by kernel_rfl) (by rw[sn_len];omega) rfl fun h11 hd11 E1011 s11=> ?_;rw[aP,sn_set hqN,List.append_assoc,←htj]at hd11;simp only[↓zp,zw,↓reduceIte,aA,f0,f4,f23,f24,f25,f42,f43,f44,w2];exact⟨x.kids.length-(j+1),by omega,j+1,by trivial,by trivial,by trivial,by trivial,by trivial,by trivial,by trivial,by trivial,hd11,E210.trans_new E1011 fun y hy=> .inl (by simp at hy;omega),by omega,rfl⟩
  ·have d2:decide ((j:Int)<((x.kids.length:Nat):Int))=false:=bD (by omega);rw[List.take_of_length_le (by omega),←htk]at hd10;simp only[↓zp,zw,↓reduceIte,aA,f0,f4,f23,f24,f25,f42,f43,f44,d2,hw1];exact⟨N-(i+1),by omega,i+1,by trivial,by trivial,by trivial,by trivial,by trivial,hd10,E210,by omega,rfl⟩
 ·have d1:decide ((i:Int)<(N:Int))=false:=bD (by omega);rw[List.take_of_length_le (by omega),hK]at hd4;have hNp:0<N:=by rw[←hNe];exact hT.pos
  have eN0:(((N:Nat):Int)==0)=false:=by simp;omega
  have wN:IntKind.i64.wrap ((N:Int)-1)=((N-1:Nat):Int):=by rw[aU _ (by omega)];omega
  have dD:decide ((gY ns:Int)>200)=false:=bD (by omega);simp only[↓zp,zw,↓reduceIte,aA,g0,g4,g20,g21,g22,d1,wN,eN0];refine⟨fun m ρ h'=> ∃i:Nat,ρ 0=.slice (some ⟨b,0,none⟩) N cap∧ρ 4=.slice (some ⟨S,0,none⟩) N N∧ρ 11=.int .i64 ((N-1:Nat):Int)∧ρ 76=.slice (some ⟨b,0,none⟩) N cap∧ρ 77=.int .i64 (N:Int)∧ρ 78=.int .i64 (i:Int)∧Ext [] h4 h'∧i≤N∧m=N-i,N,⟨0,by simp only[↓zp,zw,↓reduceIte,aA,g0],by simp only[↓zp,zw,↓reduceIte,aA,g4],by simp only[↓zp,zw,↓reduceIte,aA],by simp only[↓zp,zw,↓reduceIte,aA,g0],by simp only[↓zp,zw,↓reduceIte,aA],by simp only[↓zp,zw,↓reduceIte,aA];rfl,Ext.refl _ _,by omega,rfl⟩,?_⟩;clear g0 g4 g20 g21 g22 d1;rintro m ρ h5 ⟨i,g0,g5,g10,g63,g64,g65,hE5,hi,hm⟩;by_cases hlt:i<N
  ·have d1:decide ((i:Int)<(N:Int))=true:=bC (by omega);have b1:(0:Int)≤(i:Int)∧(i:Int)<(N:Int):=by omega
   have w1:=bI (a:=i) (by omega);obtain⟨x,hx⟩:∃x,ns[i]? =some x:=⟨_,aS (by omega)⟩;obtain⟨_,_,hk55⟩:=hT.nd hx;obtain⟨b',cap',vk,e2,hn,hrk0,hld0,hc⟩:=NS.at hN0 hx;simp only[Value.slice.injEq,Option.some.injEq,Addr.mk.injEq,true_and,and_true]at e2;obtain⟨rfl,rfl⟩:=e2;obtain⟨ak,ckk,rfl,hkid⟩:=cV hrk0;have hld:=fM (hE4.trans hE5) (by simp) hld0;simp only[↓zp,zw,↓reduceIte,aA,g0,g5,g10,g63,g64,g65,d1,b1,aF,hld];refine jU fun h6 hb6 E6 hs6=> ?_;have c0:bG h6 h5.size 0=some (.int .i64 (x.kind:Int)):=by rw[bE hb6];rfl
   have hsq:bG h6 S (i*1)=some (.bool (K.contains i)):=(hE5.trans E6).cell (by rw[bE hd4,aP,qW hlt]) (by simp);have eN:((i:Int)==((N-1:Nat):Int))=(i==N-1):=cF;have nN:((i:Int) !=((N-1:Nat):Int))=(i !=N-1):=cH;have E56:=hE5.trans E6;by_cases hl:i=N-1
   ·have k55:(x.kind==55)=true:=by
     obtain⟨y,h1,h2⟩:=hT.last;rw[hNe,←hl,hx]at h1;cases h1;simpa using h2
    have e1:(i==N-1)=true:=by simpa using hl
    have e2:(i !=N-1)=false:=by simpa using hl
    have hnc:K.contains i=false:=by
     have hf:=hT.fo;unfold Forest at hf;have:=hf.nodup_iff.2 List.nodup_range;rw[List.singleton_append,List.nodup_cons,hK,hNe,←hl]at this;simpa using this.1
    rw[hnc]at hsq;simp only[↓zp,zw,↓reduceIte,aA,g0,g5,g10,g63,g64,g65,b1,aF,c0,hsq,kq55,k55,eN,nN,e1,e2,bne_self_eq_false,w1];exact⟨N-(i+1),by omega,i+1,by trivial,by trivial,by trivial,by trivial,by trivial,by trivial,E56,by omega,rfl⟩
   ·have k55:(x.kind==55)=false:=by simpa using hk55 (by rw[hNe];exact hl)
    have e1:(i==N-1)=false:=by simpa using hl
    have hnc:K.contains i=true:=by
     rcases hcov2 i hlt with h|h
     ·exact absurd h hl
     ·simpa using h
    rw[hnc]at hsq;simp only[↓zp,zw,↓reduceIte,aA,g0,g5,g10,g63,g64,g65,b1,aF,c0,hsq,kq55,k55,eN,nN,e1,bne_self_eq_false,w1];exact⟨N-(i+1),by omega,i+1,by trivial,by trivial,by trivial,by trivial,by trivial,by trivial,E56,by omega,rfl⟩
  ·have d1:decide ((i:Int)<(N:Int))=false:=bD (by omega)
   have hD:C aE 17 #[.slice (some ⟨b,0,none⟩) N cap] h5 fun e h'=>e=.returned (.int .i64 (gY ns:Int))∧Ext [] h5 h':=by
    have:=rdeep_c (hN0.ext0 (hE4.trans hE5)) hT.pos (by omega) hkb
    rwa [hNe]at this
   simp only[↓zp,zw,↓reduceIte,aA,g0,g5,g10,g63,g64,g65,d1];refine bH hD ?_;rintro _ h6 ⟨rfl,E6⟩;simp only[↓zp,zw,↓reduceIte,aA,dD];exact⟨by trivial,(hE4.trans hE5).trans E6⟩
end
end
section
section
variable{h hI:Heap}
theorem xX(hG:Gl hI)(hLit:iG hI)(hE:Ext [] hI h)(src:List UInt8):C aE 3 #[.string ⟨src.toArray⟩] h fun e h'=>e=.returned (.bool true)∧Ext [] h h':=by
 obtain⟨F,hF⟩:∃F:List Tk→Nat,∀T,F T=40*T.length+40:=⟨fun T=>40*T.length+40,fun _=>rfl⟩;refine C_in Tryz.func3 rfl rfl (by kernel_rfl) (aG rfl) ?_;simp only[↓zp,zw,aA];refine bH (awake_c hG (yQ hI) hLit (yO hG) hE) ?_;rintro _ h1 ⟨rfl,hE1⟩;by_cases hl:src.length≤2500
 ·have d1:decide ((src.length:Int)>2500)=false:=bD (by omega);have key:∀T,LexD src T→TrR (mir false T (F T)) fun a s=>a=s.ns.length-1∧GoodTree src s.ns:=fun T hT=>xK (hT.ok (by omega)).1 (by rw[hF];exact bA _)
  have hgt:∀T a s',LexD src T→mir false T (F T)=.ok a s'→GoodTree src s'.ns:=fun T a s' hT hm=>by
   have:=key T hT;rw[hm]at this;exact this.2
  simp only[↓zp,zw,aA,d1];refine bH (nQ hG (yQ hI) hLit (yO hG) (hE.trans hE1) src (by omega) F (fun T hT e=>by have:=key T hT;rw[e]at this;exact this) (fun T a s' hT hm=> ?_)) ?_
  ·have hg:=hgt T a s' hT hm;have hsm:=hg.small;refine⟨hg.pos,by omega,fun x hx=> ?_⟩;obtain⟨i,hi⟩:=List.mem_iff_getElem?.1 hx;have:=(hg.nd hi).2.1;omega
  rintro _ h2 (⟨vl,T,a,s',rfl,hT,_,hm,hN,hfew,hdeep,hE2⟩|⟨a,n,rfl,hn,hE2,_⟩)
  ·have hg:=hgt T a s' hT hm;generalize s'.ns=ns at*;have z0:((0:Int) !=0)=false:=by decide
   simp only[↓zp,zw,aA,z0];refine bH (check_c hG ((hE.trans hE1).trans hE2) hN hg hfew hdeep) ?_;rintro _ h3 ⟨rfl,hE3⟩;simp only[↓zp,zw,aA,z0];refine bH (rcheck_c (hN.ext0 hE3) hg hfew hdeep) ?_;rintro _ h4 ⟨rfl,hE4⟩;have hN4:=(hN.ext0 hE3).ext0 hE4;obtain⟨b,cap,rfl,hnode⟩:=hN4.node hg.pos;obtain⟨N,hNe⟩:∃N,ns.length=N:=⟨_,rfl⟩;have E04:=((hE1.trans hE2).trans hE3).trans hE4;rw[hNe];simp only[↓zp,zw,aA,z0];refine⟨fun m ρ h'=> ∃i:Nat,ρ 0=.string ⟨src.toArray⟩∧ρ 42=.slice (some ⟨b,0,none⟩) N cap∧ρ 43=.int .i64 (N:Int)∧ρ 44=.int .i64 (i:Int)∧Ext [] h4 h'∧i≤N∧m=N-i,N,⟨0,by simp only[↓zp,zw,aA],by simp only[↓zp,zw,aA],by simp only[↓zp,zw,aA],by simp only[↓zp,zw,aA];rfl,Ext.refl _ _,by omega,rfl⟩,?_⟩;rintro m ρ h5 ⟨i,g0,g42,g43,g44,hE5,hi,hmm⟩;by_cases hlt:i<N
   ·have dl:decide ((i:Int)<(N:Int))=true:=bC (by omega);have b1:(0:Int)≤(i:Int)∧(i:Int)<(N:Int):=by omega
    have hgood:=hg.good i _ (aS (show i<ns.length by omega));obtain⟨vk,hrk,hld,hc⟩:=hnode i (by omega);generalize ns[i]'(by omega)=x at*;obtain⟨ak,ck,rfl,_⟩:=cV hrk;have hld5:=fM hE5 (by simp) hld;simp only[↓zp,zw,aA,g0,g42,g43,g44,dl,b1,aF,hld5];refine jU fun h6 hb6 E56 s6=> ?_;have c5:bG h6 h5.size 5=some (.int .i64 (x.pos:Int)):=by rw[bE hb6];rfl
    have c0:bG h6 h5.size 0=some (.int .i64 (x.kind:Int)):=by rw[bE hb6];rfl
    have c1:bG h6 h5.size 1=some (.string ⟨x.text.toArray⟩):=by rw[bE hb6];rfl
    have p0:decide ((x.pos:Int)<0)=false:=bD (by omega);have hpos:=hgood.pos;have p1:decide ((x.pos:Int)>(src.length:Int))=false:=bD (by omega);have w1:=bI (a:=i) (by omega);have go:∃n',n'<m∧n'=N-(i+1):=⟨_,by omega,rfl⟩;simp only[↓zp,zw,aA,g0,g42,g43,g44,c5,p0,p1];refine bR 28 (by kernel_rfl) (by kernel_rfl) (by kernel_rfl) ?_;by_cases hk:x.kind=6
    ·have hst:=hgood.name hk;have k6:((x.kind:Int)==6)=true:=by simp[hk]
     have hlen:x.pos+x.text.length≤src.length:=by
      unfold lE at hst;have:=congrArg List.length hst;simp at this;omega
     have w2:IntKind.i64.wrap ((src.length:Int)-(x.pos:Int))=((src.length-x.pos:Nat):Int):=by rw[aU _ (by omega)];omega
     have d2:decide (((src.length-x.pos:Nat):Int)<(x.text.length:Int))=false:=bD (by omega);have w3:=cQ (a:=x.pos) (b:=x.text.length) (by omega);have b2:(0:Int)≤((x.pos+x.text.length:Nat):Int)∧((x.pos+x.text.length:Nat):Int)≤((src.length:Nat):Int):=by omega
     have b3:(0:Int)≤((x.pos:Nat):Int)∧((x.pos:Nat):Int)≤((x.pos+x.text.length:Nat):Int):=by omega
     have heq:((src.take (x.pos+x.text.length)).drop x.pos==x.text)=true:=by
      rw[List.drop_take,Nat.add_sub_cancel_left];unfold lE at hst;rw[hst];simp
     simp only[↓zp,zw,aA,g0,g42,g43,g44,c5,c0,c1,k6,w2,d2,w3,b2,b3,aF,heq,w1];exact⟨N-(i+1),by omega,i+1,by trivial,by trivial,by trivial,by trivial,hE5.trans E56,by omega,rfl⟩
    ·have k6:((x.kind:Int)==6)=false:=by simp;omega
     simp only[↓zp,zw,aA,g0,g42,g43,g44,c0,k6,w1];exact⟨N-(i+1),by omega,i+1,by trivial,by trivial,by trivial,by trivial,hE5.trans E56,by omega,rfl⟩
   ·have dl:decide ((i:Int)<(N:Int))=false:=bD (by omega);simp only[↓zp,zw,aA,g0,g42,g43,g44,dl];exact⟨by trivial,E04.trans hE5⟩
  ·have n0:(n !=0)=true:=by simp[hn]
   have z0:((0:Int)==0)=true:=by decide
   simp only[↓zp,zw,aA,n0,z0];exact⟨by trivial,hE1.trans hE2⟩
 ·have d1:decide ((src.length:Int)>2500)=true:=bC (by omega);simp only[↓zp,zw,aA,d1];exact⟨by trivial,hE1⟩
end
end
end Go.Proofs.YtfmbepijhnaklaaGreatDoor
