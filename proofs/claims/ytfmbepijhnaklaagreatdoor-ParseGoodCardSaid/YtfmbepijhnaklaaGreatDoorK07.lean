/- Proved here: The scanner between tokens | strings.ContainsAny of the ends of lines returns | strings.ContainsAny of the ends of lines returns | A code parted behind its n-th statement | digits | strconv | Functions without a body | Floats of 64 bits that are numbers not below zero | Decimal digits, and what a shift to the left by k bits makes of them. Conditions: what each statement names. -/
import Derived.Test.YtfmbepijhnaklaaGreatDoorK06
import Derived.Lib.IndexLaws
import Derived.Test.YtfmbepijhnaklaaGreatDoorK03
import Derived.Laws.FloatArith
import GoSem.PinnedTables
set_option maxRecDepth 100000
set_option maxHeartbeats 4000000
set_option linter.unusedSimpArgs false
set_option linter.unusedVariables false
set_option linter.defProp false
open Nat renaming reduceEqDiff → aA, le_of_ble_eq_true → aG, mul_one → aP, zero_mul → aQ, zero_add → aR, reduceBEq → aY, reduceAdd → aZ, le_refl → bA
open List renaming length_cons → aB, length_append → aC, length_nil → aD, map_toArray → aH, map_cons → aJ, map_nil → aK, perm_iff_count → aM, count_append → aO, getElem?_eq_getElem → aS, count_cons → aT, count_nil → aV
open Go.Proofs.Tryz renaming prog → aE
open Int renaming toNat_natCast → aF, toNat_zero → aN, toNat_one → aX
open Bool renaming false_eq_true → aI, eq_iff_iff → aW
open And renaming intro → aL
open Go.IntWalk renaming i64_in → aU
namespace Go.Proofs.YtfmbepijhnaklaaGreatDoor
section
def NlR(l:List (List UInt8))(c:LC)(s:LSt)(v:Value)(s':LSt):Prop:=
 (∃k,v=.bool true∧fR l c.src s.at'=some k∧s'={s with at':=s.at'+k})∨(v=.bool false∧fR l c.src s.at'=none∧s'=s)
theorem fJ(l:List (List UInt8)):one' (cI l)=true:=by
 rw[gO];intro v hv;simp[cI]at hv;obtain⟨k,_,rfl⟩:=hv;rfl
theorem mO{l:List (List UInt8)}{p:List UInt8→Bool}{i:Nat}(hi:i<l.length)(hf:(l.take i).find? p=none):(p l[i]=true→l.find? p=some l[i])∧(p l[i]=false→(l.take (i+1)).find? p=none):=by
 refine⟨fun hp=> ?_,fun hp=> ?_⟩
 ·have e:l.find? p=(l.take i++l.drop i).find? p:=by rw[List.take_append_drop]
  rw[e,List.find?_append,hf,List.drop_eq_getElem_cons hi,List.find?_cons,hp]
  rfl
 ·rw[List.take_add_one,List.find?_append,hf,aS hi];simp[hp]
section
variable{h:Heap}{c:LC}{L:Nat}{s:LSt}
theorem tJ(H:LS h c L s):C aE 114 #[.pointer (some ⟨c.x,0,none⟩)] h (XOut c h L (NlR nlTexts c s) False):=by
 have hs:=H.small;have ha:=H.le;refine C_in Tryz.func114 rfl rfl (by kernel_rfl) (aG rfl) ?_;simp only[↓zp,zw,↓reduceIte,aA];refine dQ (e:=9) (n:=4) (vals:=cI nlTexts) Tryz.underlying56 (by kernel_rfl) rfl (fJ _) rfl (by omega) (by omega) fun vs h1 hrow hbs hE1 hz1=> ?_;have H1:=H.ext0 hE1;obtain⟨b',n',cap',cs,rfl,hb',hn',ht',_⟩:=hrow.open (by rw[cD];decide)
 have hcell:∀i (hi:i<4),bG h1 b' i=some (.string ⟨(nlTexts[i]'hi).toArray⟩):=fun i hi=>by
  rw[Row.cell (n:=n') (cap:=cap') hb' ht' (by rw[cD];exact hi)];exact fK _ _ hi
 have hn4:n'=4:=by rw[cD]at hn';have:nlTexts.length=4:=rfl;omega
 subst hn4;simp only[↓zp,zw,↓reduceIte,aA]
 refine⟨fun m ρ h'=> ∃i:Nat,ρ 0=.pointer (some ⟨c.x,0,none⟩)∧ρ 5=.slice (some ⟨b',0,none⟩) 4 cap'∧ρ 6=.int .i64 ((4:Nat):Int)∧ρ 7=.int .i64 (i:Int)∧h'=h1∧i≤4∧(nlTexts.take i).find? (hasB c.src s.at')=none∧m=4-i,4,
  ⟨0,by simp only[↓zp,zw,↓reduceIte,aA],by simp only[↓zp,zw,↓reduceIte,aA],by simp only[↓zp,zw,↓reduceIte,aA],by simp only[↓zp,zw,↓reduceIte,aA];rfl,rfl,by omega,rfl,rfl⟩,?_⟩
 rintro m ρ _ ⟨i,g0,g5,g6,g7,rfl,hi,hf,hm⟩;simp only[↓zp,zw,↓reduceIte,aA,g0,g5,g6,g7];by_cases hlt:i<4
 ·have d1:decide ((i:Int)<((4:Nat):Int))=true:=bC (by omega);have b1:(0:Int)≤(i:Int)∧(i:Int)<((4:Nat):Int):=by omega
  have z1:0+i*1=i:=by omega
  simp only[↓zp,zw,↓reduceIte,aA,g0,g5,g6,g7,d1,b1,decide_true,aF,z1,hcell i hlt];refine bK (rS H1 _) ?_;have hsn:=mO (l:=nlTexts) (p:=hasB c.src s.at') (i:=i) hlt hf;simp only[↓zp,zw,↓reduceIte,aA,g0,g5,g6,g7]
  cases hh:hasB c.src s.at' (nlTexts[i]'hlt)with
  |true=>
   obtain⟨vo,hb,hr,hv⟩:=H1.body;have hlen:=gP hh;have w1:=cQ (a:=s.at') (b:=(nlTexts[i]'hlt).length) (by omega);simp only[↓zp,zw,↓reduceIte,aA,g0,bE hb,w1];refine bS hb (by kernel_rfl) (by simp) rfl fun h2 hb2 hE2 hs2=> ?_;simp only[↓zp,zw,↓reduceIte,aA];obtain⟨k1,k2⟩:=H1.st (i:=s.at'+(nlTexts[i]'hlt).length) (l:=s.line) hr hv hb2 hE2 ⟨by omega,by omega⟩;refine .inl ⟨_,_,rfl,k1,hE1.of_nil.trans hE2,.inl ⟨(nlTexts[i]'hlt).length,rfl,?_,rfl⟩⟩
   unfold fR;rw[hsn.1 hh];rfl
  |false=>
   have w1:=bI (a:=i) (by omega);simp only[↓zp,zw,↓reduceIte,aA,g0,g5,g6,g7,w1];exact⟨4-(i+1),by omega,i+1,trivial,trivial,trivial,rfl,trivial,by omega,hsn.2 hh,rfl⟩
 ·have d1:decide ((i:Int)<((4:Nat):Int))=false:=bD (by omega);simp only[↓zp,zw,↓reduceIte,aA,g0,g5,g6,g7,d1];have e4:i=4:=by omega
  subst e4;refine .inl ⟨_,_,rfl,H1,hE1.of_nil,.inr ⟨rfl,?_,rfl⟩⟩;unfold fR;rw[show nlTexts.find? (hasB c.src s.at')=none from hf];rfl
theorem tK(H:LS h c L s):C aE 114 #[.pointer (some ⟨c.x,0,none⟩)] h (LOut c h L (NlR nlTexts c s) False):=(tJ H).mono fun _ _=>XOut.toL
theorem blank_x(H:LS h c L s):C aE 115 #[.pointer (some ⟨c.x,0,none⟩)] h (XOut c h L (NlR blTexts c s) False):=by
 have hs:=H.small;have ha:=H.le;refine C_in Tryz.func115 rfl rfl (by kernel_rfl) (aG rfl) ?_;simp only[↓zp,zw,↓reduceIte,aA];refine dQ (e:=9) (n:=6) (vals:=cI blTexts) Tryz.underlying56 (by kernel_rfl) rfl (fJ _) rfl (by omega) (by omega) fun vs h1 hrow hbs hE1 hz1=> ?_;have H1:=H.ext0 hE1;obtain⟨b',n',cap',cs,rfl,hb',hn',ht',_⟩:=hrow.open (by rw[cD];decide)
 have hcell:∀i (hi:i<6),bG h1 b' i=some (.string ⟨(blTexts[i]'hi).toArray⟩):=fun i hi=>by
  rw[Row.cell (n:=n') (cap:=cap') hb' ht' (by rw[cD];exact hi)];exact fK _ _ hi
 have hn4:n'=6:=by rw[cD]at hn';have:blTexts.length=6:=rfl;omega
 subst hn4;simp only[↓zp,zw,↓reduceIte,aA]
 refine⟨fun m ρ h'=> ∃i:Nat,ρ 0=.pointer (some ⟨c.x,0,none⟩)∧ρ 5=.slice (some ⟨b',0,none⟩) 6 cap'∧ρ 6=.int .i64 ((6:Nat):Int)∧ρ 7=.int .i64 (i:Int)∧h'=h1∧i≤6∧(blTexts.take i).find? (hasB c.src s.at')=none∧m=6-i,6,
  ⟨0,by simp only[↓zp,zw,↓reduceIte,aA],by simp only[↓zp,zw,↓reduceIte,aA],by simp only[↓zp,zw,↓reduceIte,aA],by simp only[↓zp,zw,↓reduceIte,aA];rfl,rfl,by omega,rfl,rfl⟩,?_⟩
 rintro m ρ _ ⟨i,g0,g5,g6,g7,rfl,hi,hf,hm⟩;simp only[↓zp,zw,↓reduceIte,aA,g0,g5,g6,g7];by_cases hlt:i<6
 ·have d1:decide ((i:Int)<((6:Nat):Int))=true:=bC (by omega);have b1:(0:Int)≤(i:Int)∧(i:Int)<((6:Nat):Int):=by omega
  have z1:0+i*1=i:=by omega
  simp only[↓zp,zw,↓reduceIte,aA,g0,g5,g6,g7,d1,b1,decide_true,aF,z1,hcell i hlt];refine bK (rS H1 _) ?_;have hsn:=mO (l:=blTexts) (p:=hasB c.src s.at') (i:=i) hlt hf;simp only[↓zp,zw,↓reduceIte,aA,g0,g5,g6,g7]
  cases hh:hasB c.src s.at' (blTexts[i]'hlt)with
  |true=>
   obtain⟨vo,hb,hr,hv⟩:=H1.body;have hlen:=gP hh;have w1:=cQ (a:=s.at') (b:=(blTexts[i]'hlt).length) (by omega);simp only[↓zp,zw,↓reduceIte,aA,g0,bE hb,w1];refine bS hb (by kernel_rfl) (by simp) rfl fun h2 hb2 hE2 hs2=> ?_;simp only[↓zp,zw,↓reduceIte,aA];obtain⟨k1,k2⟩:=H1.st (i:=s.at'+(blTexts[i]'hlt).length) (l:=s.line) hr hv hb2 hE2 ⟨by omega,by omega⟩;refine .inl ⟨_,_,rfl,k1,hE1.of_nil.trans hE2,.inl ⟨(blTexts[i]'hlt).length,rfl,?_,rfl⟩⟩
   unfold fR;rw[hsn.1 hh];rfl
  |false=>
   have w1:=bI (a:=i) (by omega);simp only[↓zp,zw,↓reduceIte,aA,g0,g5,g6,g7,w1];exact⟨6-(i+1),by omega,i+1,trivial,trivial,trivial,rfl,trivial,by omega,hsn.2 hh,rfl⟩
 ·have d1:decide ((i:Int)<((6:Nat):Int))=false:=bD (by omega);simp only[↓zp,zw,↓reduceIte,aA,g0,g5,g6,g7,d1];have e4:i=6:=by omega
  subst e4;refine .inl ⟨_,_,rfl,H1,hE1.of_nil,.inr ⟨rfl,?_,rfl⟩⟩;unfold fR;rw[show blTexts.find? (hasB c.src s.at')=none from hf];rfl
def nlChars:List UInt8:=[10,13,226,128,168,226,128,169]
def gU(hI:Heap):Prop:=∀(h:Heap) (x:List UInt8),Ext [] hI h→x.length≤900000→C aE 142 #[.string ⟨x.toArray⟩,.string ⟨nlChars.toArray⟩] h fun e h'=>(∃b:Bool,e=.returned (.bool b))∧Ext [] h h'
theorem blank_c(H:LS h c L s):C aE 115 #[.pointer (some ⟨c.x,0,none⟩)] h (LOut c h L (NlR blTexts c s) False):=(blank_x H).mono fun _ _=>XOut.toL
theorem rK:(⟨([10,13,226,128,168,226,128,169]:List UInt8).toArray⟩:ByteArray)=⟨nlChars.toArray⟩:=rfl
theorem ended_c(hC:gU c.hI)(H:LS h c L s)(f:Nat)(hf:f≤s.at'):C aE 141 #[.pointer (some ⟨c.x,0,none⟩),.int .i64 (f:Int)] h fun e h'=>(∃b:Bool,e=.returned (.bool b))∧Ext [] h h':=by
 obtain⟨vo,hb,_,_⟩:=H.body;have ha:=H.le;have hs:=H.small;have b1:(0:Int)≤(s.at':Int)∧(s.at':Int)≤((c.src.length:Nat):Int):=by omega
 have b2:(0:Int)≤(f:Int)∧(f:Int)≤((s.at':Nat):Int):=by omega
 refine C_in Tryz.func141 rfl rfl (by kernel_rfl) (aG rfl) ?_;simp only[↓zp,zw,↓reduceIte,aA];refine bR 10 (by kernel_rfl) (by kernel_rfl) (by kernel_rfl) ?_;simp only[↓zp,zw,↓reduceIte,aA,bE hb,b1,b2,aF];rw[rK];refine bH (hC h _ H.glob (by simp;omega)) ?_;rintro _ h1 ⟨⟨b,rfl⟩,hE⟩;simp only[↓zp,zw,↓reduceIte,aA];exact⟨⟨b,rfl⟩,hE⟩
def CoR(c:LC)(s:LSt)(v:Value)(s':LSt):Prop:=
 (v=.bool true∧comB c.src s.at'=true∧s.at'<s'.at'∧s'.op=s.op)∨(v=.bool false∧comB c.src s.at'=false∧s'=s)
theorem comment_c(hG:Gl c.hI)(hC:gU c.hI)(H:LS h c L s):C aE 116 #[.pointer (some ⟨c.x,0,none⟩)] h (LOut c h L (CoR c s) (comB c.src s.at'=true)):=by
 have q0:Par c.pc h L c.U h L c.U:=Par.refl _ _ _ _;have hs:=H.small;have ha:=H.le;obtain⟨vo,hb,hr,hv⟩:=H.body;refine C_in Tryz.func116 rfl rfl (by kernel_rfl) (aG rfl) ?_;simp only[↓zp,zw,↓reduceIte,aA,bE hb];refine bK (rS H [47,47]) ?_;simp only[↓zp,zw,↓reduceIte,aA]
 cases h1:hasB c.src s.at' [47,47]with
 |true=>
  have hl:=gP h1;simp only[aB,aD]at hl;have hco:comB c.src s.at'=true:=by unfold comB;rw[h1];rfl
  simp only[↓zp,zw,↓reduceIte,aA]
  refine⟨fun m ρ h'=> ∃s' L',ρ 0=.pointer (some ⟨c.x,0,none⟩)∧ρ 3=.int .i64 (s.at':Int)∧LS h' c L' s'∧Par c.pc h L c.U h' L' c.U∧s.at'≤s'.at'∧s'.op=s.op∧m=c.src.length-s'.at',c.src.length-s.at',
   ⟨s,L,by simp only[↓zp,zw,↓reduceIte,aA],by simp only[↓zp,zw,↓reduceIte,aA],H,q0,bA _,rfl,rfl⟩,?_⟩
  rintro m ρ h2 ⟨s2,L2,g0,g3,H2,q2,hle,hop,hm⟩;obtain⟨vo2,hb2,hr2,hv2⟩:=H2.body;have ha2:=H2.le;simp only[↓zp,zw,↓reduceIte,aA];refine bR 11 (by kernel_rfl) (by kernel_rfl) (by kernel_rfl) ?_;simp only[↓zp,zw,↓reduceIte,aA,g0,g3,bE hb2];by_cases hlt:s2.at'<c.src.length
  ·have d1:decide ((s2.at':Int)<(c.src.length:Int))=true:=bC (by omega);simp only[↓zp,zw,↓reduceIte,aA,g0,g3,d1];refine CT_L q2 (tK H2) False.elim rfl fun v s3 h3 L3 hR H3 d3 q3=> ?_;rcases hR with⟨k,rfl,hk,rfl⟩|⟨rfl,hk,rfl⟩
   ·have hk':=iV nl_ne hk;have hop:({s2 with at':=s2.at'+k}:LSt).op=s.op:=hop;generalize hs3:({s2 with at':=s2.at'+k}:LSt)=s3 at H3 hop;have hat3:s3.at'=s2.at'+k:=by rw[←hs3]
    clear hs3;simp only[↓zp,zw,↓reduceIte,aA,g0,g3,d1];have hl3:=H3.le;have e1:decide ((s.at':Int)<(s3.at':Int))=true:=bC (by omega);obtain⟨vo3,hb3,hr3,hv3⟩:=H3.body;simp only[↓zp,zw,↓reduceIte,aA,g0,g3,d1,bE hb3,e1];refine bH (ended_c hC H3 s.at' (by omega)) ?_;rintro _ h4 ⟨⟨bb,rfl⟩,hE4⟩;have H4:=H3.ext0 hE4;have q4:Par c.pc h L c.U h4 L3 c.U:=q3.trans (Par.of_ext hE4)
    cases bb with
    |true=>
     simp only[↓zp,zw,↓reduceIte,aA,g0,g3,d1,e1];obtain⟨vo4,hb4,hr4,hv4⟩:=H4.body;refine bS hb4 (by kernel_rfl) (by simp) rfl fun h5 hb5 hE5 hs5=> ?_;simp only[↓zp,zw,↓reduceIte,aA];obtain⟨k1,k2⟩:=H4.st (i:=s3.at') (l:=true) hr4 hv4 hb5 hE5 ⟨bA _,hl3⟩
     exact .inl ⟨_,_,_,rfl,k1,q4.trans k2,.inl ⟨rfl,hco,by first|omega|(dsimp only;omega),hop⟩⟩
    |false=>
     simp only[↓zp,zw,↓reduceIte,aA,g0,g3,d1,e1];exact .inl ⟨_,_,_,rfl,H4,q4,.inl ⟨rfl,hco,by first|omega|(dsimp only;omega),hop⟩⟩
   ·simp only[↓zp,zw,↓reduceIte,aA,g0,g3,d1];obtain⟨vo3,hb3,hr3,hv3⟩:=H3.body;have w1:=bI (a:=s3.at') (by omega);simp only[↓zp,zw,↓reduceIte,aA,g0,g3,d1,bE hb3,w1];refine bS hb3 (by kernel_rfl) (by simp) rfl fun h5 hb5 hE5 hs5=> ?_;obtain⟨k1,k2⟩:=H3.st (i:=s3.at'+1) (l:=s3.line) hr3 hv3 hb5 hE5 ⟨by omega,by omega⟩;simp only[↓zp,zw,↓reduceIte,aA,g0,g3,d1];exact⟨c.src.length-(s3.at'+1),by omega,_,_,trivial,trivial,k1,q3.trans k2,by first|omega|(dsimp only;omega),hop,rfl⟩
  ·have d1:decide ((s2.at':Int)<(c.src.length:Int))=false:=bD (by omega);simp only[↓zp,zw,↓reduceIte,aA,g0,g3,d1];have hl3:=H2.le;have e1:decide ((s.at':Int)<(s2.at':Int))=true:=bC (by omega);obtain⟨vo3,hb3,hr3,hv3⟩:=H2.body;simp only[↓zp,zw,↓reduceIte,aA,g0,g3,d1,bE hb3,e1];refine bH (ended_c hC H2 s.at' (by omega)) ?_;rintro _ h4 ⟨⟨bb,rfl⟩,hE4⟩;have H4:=H2.ext0 hE4;have q4:Par c.pc h L c.U h4 L2 c.U:=q2.trans (Par.of_ext hE4)
   cases bb with
   |true=>
    simp only[↓zp,zw,↓reduceIte,aA,g0,g3,d1,e1];obtain⟨vo4,hb4,hr4,hv4⟩:=H4.body;refine bS hb4 (by kernel_rfl) (by simp) rfl fun h5 hb5 hE5 hs5=> ?_;simp only[↓zp,zw,↓reduceIte,aA];obtain⟨k1,k2⟩:=H4.st (i:=s2.at') (l:=true) hr4 hv4 hb5 hE5 ⟨bA _,hl3⟩
    exact .inl ⟨_,_,_,rfl,k1,q4.trans k2,.inl ⟨rfl,hco,by first|omega|(dsimp only;omega),hop⟩⟩
   |false=>
    simp only[↓zp,zw,↓reduceIte,aA,g0,g3,d1,e1]
    exact .inl ⟨_,_,_,rfl,H4,q4,.inl ⟨rfl,hco,by first|omega|(dsimp only;omega),hop⟩⟩
 |false=>
  simp only[↓zp,zw,↓reduceIte,aA];refine bK (rS H [47,42]) ?_;simp only[↓zp,zw,↓reduceIte,aA]
  cases h2:hasB c.src s.at' [47,42]with
  |false=>
   simp only[↓zp,zw,↓reduceIte,aA]
   exact .inl ⟨_,_,_,rfl,H,q0,.inr ⟨rfl,by unfold comB;rw[h1,h2];rfl,rfl⟩⟩
  |true=>
   have hl:=gP h2;simp only[aB,aD]at hl;have hco:comB c.src s.at'=true:=by unfold comB;rw[h2];simp
   have w2:IntKind.i64.wrap ((s.at':Int)+2)=((s.at'+2:Nat):Int):=cQ (a:=s.at') (b:=2) (by omega);have b1:(0:Int)≤((s.at'+2:Nat):Int)∧((s.at'+2:Nat):Int)≤((c.src.length:Nat):Int):=by omega
   simp only[↓zp,zw,↓reduceIte,aA];refine bR 10 (by kernel_rfl) (by kernel_rfl) (by kernel_rfl) ?_;simp only[↓zp,zw,↓reduceIte,aA,bE hb,w2,b1,aF,List.take_length];refine bK (indexS_c (hG.max H.glob) _ _ (by simp;omega)) ?_;have hix:=Lib.index_ge (c.src.drop (s.at'+2)) [42,47];have hroom:=Lib.index_room (c.src.drop (s.at'+2)) [42,47];generalize Lib.index (c.src.drop (s.at'+2)) [42,47]=ix at hix hroom⊢;by_cases hn:ix<0
   ·simp only[↓zp,zw,↓reduceIte,aA,hn];refine eF ?_;exact .inr ⟨hco,⟨s.at',rfl⟩,Ext.refl _ _⟩
   obtain⟨n,rfl⟩:∃n:Nat,ix=(n:Int):=⟨ix.toNat,by omega⟩;have hroom:=hroom (by omega);simp only[aB,aD,List.length_drop]at hroom;have d1:decide ((n:Int)<0)=false:=bD hn;simp only[↓zp,zw,↓reduceIte,aA,d1];have w3:IntKind.i64.wrap ((n:Int)+4)=((n+4:Nat):Int):=cQ (a:=n) (b:=4) (by omega);have w4:=cQ (a:=s.at') (b:=n+4) (by omega);have w5:=cQ (a:=s.at') (b:=n) (by omega);have w6:IntKind.i64.wrap (((s.at'+n:Nat):Int)+2)=((s.at'+n+2:Nat):Int):=cQ (a:=s.at'+n) (b:=2) (by omega);have b2:(0:Int)≤((s.at'+n+2:Nat):Int)∧((s.at'+n+2:Nat):Int)≤((c.src.length:Nat):Int):=by omega
   have b3:(0:Int)≤((s.at':Nat):Int)∧((s.at':Nat):Int)≤((s.at'+n+2:Nat):Int):=by omega
   cases hli:s.line with
   |true=>
    rw[hli]at hb;refine fW 26 [(0,true),(1,true),(2,true),(3,true),(4,true),(5,true),(6,true),(7,true),(8,true),(9,true),(10,true),(11,true),(12,true),(13,true),(14,true),(15,true),(16,true),(17,true),(18,true),(19,true),(20,true),(21,true),(22,false),(23,true),(24,true),(25,true)] (fun h'=>Blk h' c.x [.string ⟨c.src.toArray⟩,.int .i64 (s.at':Int),.bool true,vo,c.vl] 99) (by kernel_rfl) (by kernel_rfl) hb ?_
    iterate 6 refine Wo_t rfl rfl _ (.inl fun h' hS'=>by simp only[rdOp,↓zp,zw,↓reduceIte,aA,aH,aJ,aK,bE hS'];rfl) ?_
    iterate 17 refine iL rfl rfl (by simp only[↓zp,zw,↓reduceIte,aA]) ?_
    iterate 3 refine Wo_t rfl rfl _ (.inl fun h' hS'=>by simp only[rdOp,↓zp,zw,↓reduceIte,aA,aH,aJ,aK];rfl) ?_
    refine kU ?_;simp only[List.drop_succ_cons,List.drop_zero];simp only[↓zp,zw,↓reduceIte,aA];refine bS hb (by kernel_rfl) (by simp) rfl fun h6 hb6 hE6 hs6=> ?_;obtain⟨k1,k2⟩:=H.st (i:=s.at') (l:=true) hr hv hb6 hE6 ⟨bA _,ha⟩;simp only[↓zp,zw,↓reduceIte,aA,bE hb6,w3,w4,d1];refine bS hb6 (by kernel_rfl) (by simp) rfl fun h7 hb7 hE7 hs7=> ?_;simp only[↓zp,zw,↓reduceIte,aA];obtain⟨j1,j2⟩:=k1.st (i:=s.at'+(n+4)) (l:=true) (vo:=vo) (hr.ext hE6 fun b hb' hm=>by simp at hm;exact(hv b hb').2 hm) hv hb7 hE7 ⟨by dsimp only;omega,by omega⟩
    exact .inl ⟨_,_,_,rfl,j1,(q0.trans k2).trans j2,.inl ⟨rfl,hco,by dsimp only;omega,rfl⟩⟩
   |false=>
    rw[hli]at hb;refine fW 26 [(0,true),(1,true),(2,true),(3,true),(4,true),(5,true),(6,true),(7,true),(8,true),(9,true),(10,true),(11,true),(12,true),(13,true),(14,true),(15,true),(16,true),(17,true),(18,true),(19,true),(20,true),(21,true),(22,false),(23,true),(24,true),(25,true)] (fun h'=>Blk h' c.x [.string ⟨c.src.toArray⟩,.int .i64 (s.at':Int),.bool false,vo,c.vl] 99) (by kernel_rfl) (by kernel_rfl) hb ?_
    iterate 6 refine Wo_t rfl rfl _ (.inl fun h' hS'=>by simp only[rdOp,↓zp,zw,↓reduceIte,aA,aH,aJ,aK,bE hS'];rfl) ?_
    iterate 16 refine fB rfl rfl (by simp only[↓zp,zw,↓reduceIte,aA,w5,w6,b2,b3,aF]) _ (.inl fun h' hS'=>by simp only[rdOp,↓zp,zw,↓reduceIte,aA,aH,aJ,aK,bE hS',w5,w6,b2,b3,aF];rfl) ?_
    refine Wo_fg rfl rfl (by simp only[↓zp,zw,↓reduceIte,aA]) ?_;simp only[↓zp,zw,↓reduceIte,aA];rw[rK];refine bH (hC h _ H.glob (by simp;omega)) ?_;rintro _ h4 ⟨⟨bb,rfl⟩,hE4⟩;have H4:=H.ext0 hE4;have hb4:=hb.ext hE4 (by simp);have hr4:=hr.ext hE4 (by simp);have q4:Par c.pc h L c.U h4 L c.U:=Par.of_ext hE4;simp only[↓zp,zw,↓reduceIte,aA];refine⟨hb4,?_⟩
    iterate 3 refine Wo_t rfl rfl _ (.inl fun h' hS'=>by simp only[rdOp,↓zp,zw,↓reduceIte,aA,aH,aJ,aK];rfl) ?_
    refine kU ?_;simp only[List.drop_succ_cons,List.drop_zero];simp only[↓zp,zw,↓reduceIte,aA];refine bS hb4 (by kernel_rfl) (by simp) rfl fun h6 hb6 hE6 hs6=> ?_;obtain⟨k1,k2⟩:=H4.st (i:=s.at') (l:=bb) hr4 hv hb6 hE6 ⟨bA _,ha⟩;simp only[↓zp,zw,↓reduceIte,aA,bE hb6,w3,w4,d1];refine bS hb6 (by kernel_rfl) (by simp) rfl fun h7 hb7 hE7 hs7=> ?_;simp only[↓zp,zw,↓reduceIte,aA];obtain⟨j1,j2⟩:=k1.st (i:=s.at'+(n+4)) (l:=bb) (vo:=vo) (hr4.ext hE6 fun b hb' hm=>by simp at hm;exact(hv b hb').2 hm) hv hb7 hE7 ⟨by dsimp only;omega,by omega⟩;exact .inl ⟨_,_,_,rfl,j1,(q4.trans k2).trans j2,.inl ⟨rfl,hco,by dsimp only;omega,rfl⟩⟩
theorem skip_c(hG:Gl c.hI)(hC:gU c.hI)(H:LS h c L s):C aE 93 #[.pointer (some ⟨c.x,0,none⟩)] h (LOut c h L (fun v s'=>SkipP c.src s.at' s.line s'.at' s'.line∧qT c.src s'.at'∧s'.op=s.op) (∃j l,SkipP c.src s.at' s.line j l∧fR nlTexts c.src j=none∧fR blTexts c.src j=none∧comB c.src j=true)):=by
 refine C_in Tryz.func93 rfl rfl (by kernel_rfl) (aG rfl) ?_;simp only[↓zp,zw,↓reduceIte,aA]
 refine⟨fun m ρ h'=> ∃s' L',ρ 0=.pointer (some ⟨c.x,0,none⟩)∧LS h' c L' s'∧Par c.pc h L c.U h' L' c.U∧SkipP c.src s.at' s.line s'.at' s'.line∧s'.op=s.op∧m=c.src.length-s'.at',c.src.length-s.at',
  ⟨s,L,by simp only[↓zp,zw,↓reduceIte,aA],H,Par.refl _ _ _ _,.refl,rfl,rfl⟩,?_⟩
 rintro m ρ h1 ⟨s1,L1,g0,H1,q1,hsk,hop,hm⟩;simp only[↓zp,zw,↓reduceIte,aA,g0];refine CT_L q1 (tK H1) False.elim rfl fun v s2 h2 L2 hR H2 d2 q2=> ?_;rcases hR with⟨k,rfl,hk,rfl⟩|⟨rfl,hk,rfl⟩
 ·have hk':=iV nl_ne hk;simp only[↓zp,zw,↓reduceIte,aA,g0];obtain⟨vo3,hb3,hr3,hv3⟩:=H2.body;refine bS hb3 (by kernel_rfl) (by simp) rfl fun h5 hb5 hE5 hs5=> ?_;obtain⟨k1,k2⟩:=H2.st (i:=s1.at'+k) (l:=true) hr3 hv3 hb5 hE5 ⟨by dsimp only;omega,by omega⟩;simp only[↓zp,zw,↓reduceIte,aA,g0];exact⟨c.src.length-(s1.at'+k),by omega,_,_,trivial,k1,q2.trans k2,.nl hsk hk,hop,rfl⟩
 ·simp only[↓zp,zw,↓reduceIte,aA,g0];refine CT_L q2 (blank_c H2) False.elim rfl fun v s3 h3 L3 hR H3 d3 q3=> ?_;rcases hR with⟨k,rfl,hb,rfl⟩|⟨rfl,hb,rfl⟩
  ·have hk':=iV bl_ne hb;simp only[↓zp,zw,↓reduceIte,aA,g0];exact⟨c.src.length-(s2.at'+k),by omega,_,_,trivial,H3,q3,.bl hsk hk hb,hop,rfl⟩
  ·simp only[↓zp,zw,↓reduceIte,aA,g0];refine CT_L q3 (comment_c hG hC H3) (fun hco=>⟨_,_,hsk,hk,hb,hco⟩) rfl fun v s4 h4 L4 hR H4 d4 q4=> ?_;rcases hR with⟨rfl,hco,hlt,hop4⟩|⟨rfl,hco,rfl⟩
   ·have ha4:=H4.le;simp only[↓zp,zw,↓reduceIte,aA,g0];exact⟨c.src.length-s4.at',by omega,_,_,trivial,H4,q4,.co hsk hk hb hco hlt ha4,hop4.trans hop,rfl⟩
   ·simp only[↓zp,zw,↓reduceIte,aA,g0];exact .inl ⟨_,_,_,rfl,H4,q4,hsk,⟨hk,hb,hco⟩,hop⟩
end
end
section
theorem lZ{c:Code}{J:Nat→Nat→Env→Heap→Prop}{n m l:Nat}{K:Exit→Env→Heap→Prop}{ρ:Env}{h:Heap}(hf:(findLabel c l).isSome=true)(hm:m<n)(hJ:J l m ρ h):kW c J n K (.goto l) ρ h:=by
 unfold kW;dsimp only;rw[if_pos hf];exact⟨m,hm,hJ⟩
theorem enc_len(r:Int):∃L:List UInt8,Utf8.encode r=⟨L.toArray⟩∧1≤L.length∧L.length≤4:=by
 unfold Utf8.encode;dsimp only;generalize(if Utf8.valid r=true then r.toNat else Utf8.runeError)=c;split
 ·exact⟨_,rfl,by simp,by simp⟩
 split
 ·exact⟨_,rfl,by simp,by simp⟩
 split
 ·exact⟨_,rfl,by simp,by simp⟩
 ·exact⟨_,rfl,by simp,by simp⟩
theorem nl_table:∀n:Nat,n<256→nlChars.count (UInt8.ofNat n)≤2:=by decide
theorem nl_two(b:UInt8):nlChars.count b≤2:=by
 have:=nl_table b.toNat (UInt8.toNat_lt b)
 rwa [UInt8.ofNat_toNat]at this
theorem count_snoc{l:List UInt8}{i:Nat}{b:UInt8}(h:l[i]? =some b):(l.take (i+1)).count b=(l.take i).count b+1:=by
 rw[List.take_add_one,h,aO];simp
theorem nA{l:List UInt8}{i j:Nat}{b:UInt8}(h:i≤j):(l.take i).count b≤(l.take j).count b:=by
 have:(l.take i).Sublist (l.take j):=by
  rw[show l.take i=(l.take j).take i by rw[List.take_take];congr 1;omega];exact List.take_sublist _ _
 exact this.count_le b
section
variable{h:Heap}
theorem irune_c(r:Nat)(hr:r≤1114111):C aE 181 #[.string ⟨nlChars.toArray⟩,.int .i32 (r:Int)] h fun e h'=>(∃i:Int,e=.returned (.int .i64 i))∧Ext [] h h':=by
 rcases Nat.lt_or_ge r 128 with h128|h128
 ·exact(yG nlChars (r:Int) (by omega) (by omega)).mono (by rintro _ _ ⟨rfl,rfl⟩;exact⟨⟨_,rfl⟩,Ext.refl _ _⟩)
 have e1:decide ((0:Int)≤(r:Int))=true:=bC (by omega);have e2:decide ((r:Int)<128)=false:=bD (by omega);have e3:((r:Int)==65533)=decide (r=65533):=by rw[aW];simp;omega
 have hN:nlChars.length=8:=rfl;obtain⟨nl,hnl⟩:∃nl,nlChars=nl:=⟨_,rfl⟩
 have hcnt:∀b i,(nl.take i).count b≤2:=fun b i=>by
  rw[←hnl];exact Nat.le_trans ((List.take_sublist i nlChars).count_le b) (nl_two b)
 rw[hnl]at hN⊢;refine C_in Tryz.func181 rfl rfl (by kernel_rfl) (aG rfl) ?_
 cases hq:decide (r=65533)with
 |true=>
  simp only[↓zp,zw,aA,e1,e2,e3,hq];refine hZ Tryz.underlying9 ?_;have hE1:Ext [] h (h.push (.stringIter ⟨nl.toArray⟩ 0)):=Ext.push _ _ _;have hj:(h.push (.stringIter ⟨nl.toArray⟩ 0))[h.size]? =some (.stringIter ⟨nl.toArray⟩ 0):=by simp
  generalize h.push (.stringIter ⟨nl.toArray⟩ 0)=h1 at hE1 hj⊢;simp only[↓zp,zw,aA];refine⟨fun m ρ h'=> ∃pos:Nat,ρ 175=.pointer (some ⟨h.size,0,none⟩)∧h'[h.size]? =some (.stringIter ⟨nl.toArray⟩ pos)∧Ext [] h h'∧pos≤8∧m=8-pos,8,⟨0,by simp only[↓zp,zw,aA],hj,hE1,by omega,rfl⟩,?_⟩;rintro m ρ h2 ⟨pos,g,hj,hE2,hpos,hm⟩;simp only[↓zp,zw,aA,g];refine iX hj (fun r' n h3 hp hr' hn hpn hra hj3 hE3 hs3=> ?_) (fun hp=> ?_)
  ·rw[eU]at hp hpn;have hE03:Ext [] h h3:=hE2.trans_new hE3 fun y hy=> .inl (by simp at hy;omega);have d1:((r':Int)==65533)=decide (r'=65533):=by rw[aW];simp;omega
   cases hor:decide (r'=65533)with
   |true=>
    simp only[↓zp,zw,aA,g,d1,hor]
    exact⟨⟨_,rfl⟩,hE03⟩
   |false=>
    simp only[↓zp,zw,aA,g,d1,hor];exact⟨8-(pos+n),by omega,pos+n,by trivial,hj3,hE03,by omega,rfl⟩
  ·simp only[↓zp,zw,aA,g]
   exact⟨⟨_,rfl⟩,hE2⟩
 |false=>
  simp only[↓zp,zw,aA,e1,e2,e3,hq];refine bK (wZ (r:Int)) ?_
  cases hv:Lib.validRune (r:Int)with
  |false=>
   simp only[↓zp,zw,aA]
   exact⟨⟨_,rfl⟩,Ext.refl _ _⟩
  |true=>
   simp only[↓zp,zw,aA];refine qK (fun _ _ _ _=>False) 0 ?_ (fun _ _ _ _ _ hJ=>hJ.elim);obtain⟨L,hL,hL1,hL4⟩:=enc_len (r:Int);have wl:IntKind.i64.wrap ((L.length:Int)-1)=((L.length-1:Nat):Int):=by rw[aU _ (by omega)];omega
   simp only[↓zp,zw,aA,hL,wl];obtain⟨b,hb⟩:∃b,L[L.length-1]? =some b:=⟨_,aS (by omega)⟩;refine⟨fun m ρ h'=> ∃i f:Nat,ρ 0=.string ⟨nl.toArray⟩∧ρ 7=.string ⟨L.toArray⟩∧ρ 8=.int .i64 ((L.length-1:Nat):Int)∧ρ 9=.int .i64 (i:Int)∧ρ 10=.int .i64 (f:Int)∧h'=h∧L.length-1≤i∧i≤8∧f≤(nl.take i).count b∧m=8-i,8-(L.length-1),⟨L.length-1,0,by simp only[↓zp,zw,aA],by simp only[↓zp,zw,aA],by simp only[↓zp,zw,aA],by simp only[↓zp,zw,aA],by simp only[↓zp,zw,aA];rfl,rfl,by omega,by omega,by omega,rfl⟩,?_⟩;rintro m ρ h1 ⟨i,f,g0,g7,g8,g9,g10,hh,hli,hi8,hf,hm⟩;rw[hh];rcases Nat.lt_or_ge i 8 with hlt|hge
   ·have d1:decide ((i:Int)<((nl.length:Nat):Int))=true:=bC (by omega);simp only[↓zp,zw,aA,g0,g7,g8,g9,g10,d1];refine qK (fun l m ρ h'=>l=0∧∃i' f':Nat,ρ 0=.string ⟨nl.toArray⟩∧ρ 7=.string ⟨L.toArray⟩∧ρ 8=.int .i64 ((L.length-1:Nat):Int)∧ρ 9=.int .i64 (i':Int)∧ρ 10=.int .i64 (f':Int)∧h'=h∧i≤i'∧i'<8∧nl[i']? =some b∧f'≤(nl.take i').count b) 1 ?_ ?_
    ·have hb':L[L.length-1]'(by omega)=b:=by
      rw[aS (by omega)]at hb;exact Option.some.inj hb
     obtain⟨a,ha⟩:∃a,nl[i]'(by omega)=a:=⟨_,rfl⟩;have z0:(0:Int)≤(i:Int):=by omega
     have z1:(0:Int)≤((L.length-1:Nat):Int):=by omega
     have z2:i<nl.length:=by omega
     have z3:L.length-1<L.length:=by omega
     have w1:=bI (a:=i) (by omega);simp only[↓zp,zw,aA];refine bR 6 (by kernel_rfl) (by kernel_rfl) (by kernel_rfl) ?_
     cases hab:((a.toNat:Int) !=(b.toNat:Int))with
     |true=>
      simp only[↓zp,zw,aA,g0,g7,g8,g9,g10,z0,z1,z2,z3,aF,ha,hb',hab];refine bR 7 (by kernel_rfl) (by kernel_rfl) (by kernel_rfl) ?_;have bs:(0:Int)≤((i+1:Nat):Int)∧((i+1:Nat):Int)≤((nl.length:Nat):Int):=by omega
      simp only[↓zp,zw,aA,g0,g7,g8,g9,g10,w1,bs,z1,z3,aF,hb',List.take_length];refine bK (jJ (nl.drop (i+1)) (b.toNat:Int)) ?_;rw[aF,show b.toNat.toUInt8=b from UInt8.ofNat_toNat];have hge:=Lib.indexByte_ge (nl.drop (i+1)) b;obtain⟨q,hq⟩:∃q,Lib.indexByte (nl.drop (i+1)) b=q:=⟨_,rfl⟩;rw[hq]at hge⊢;rcases Int.lt_or_le q 0 with hq0|hq0
      ·simp only[↓zp,zw,aA,bC hq0];exact⟨⟨_,rfl⟩,Ext.refl _ _⟩
      ·obtain⟨o,rfl⟩:=Int.eq_ofNat_of_zero_le hq0;obtain⟨ho,_⟩:=Lib.indexByte_some hq;rw[List.getElem?_drop]at ho;have hol:=(List.getElem?_eq_some_iff.1 ho).1;have wa:=bI (a:=o) (by omega);have wb:=cQ (a:=i) (b:=o+1) (by omega);simp only[↓zp,zw,aA,g0,g7,g8,g9,g10,bD (Int.not_lt.2 hq0),wa,wb];refine⟨fun m2 ρ h'=> ∃j:Nat,ρ 0=.string ⟨nl.toArray⟩∧ρ 7=.string ⟨L.toArray⟩∧ρ 8=.int .i64 ((L.length-1:Nat):Int)∧ρ 9=.int .i64 (((i+(o+1)):Nat):Int)∧ρ 10=.int .i64 (f:Int)∧ρ 12=.int .i64 (j:Int)∧h'=h∧1≤j∧j≤L.length∧m2=L.length-j,L.length-1,⟨1,by simp only[↓zp,zw,aA,g0],by simp only[↓zp,zw,aA,g7],by simp only[↓zp,zw,aA,g8],by simp only[↓zp,zw,aA,g9],by simp only[↓zp,zw,aA,g10],by simp only[↓zp,zw,aA];rfl,rfl,by omega,by omega,rfl⟩,?_⟩;clear g0 g7 g8 g9 g10;rintro m2 ρ h3 ⟨j,g0,g7,g8,g9,g10,g12,hh3,hj1,hjL,hm2⟩;rw[hh3];rcases Nat.lt_or_ge j L.length with hjl|hjl
       ·have d5:decide ((j:Int)<((L.length:Nat):Int))=true:=bC (by omega);have v1:IntKind.i64.wrap ((((i+(o+1)):Nat):Int)-(j:Int))=(((i+(o+1))-j:Nat):Int):=by rw[aU _ (by omega)];omega
        have v2:IntKind.i64.wrap (((L.length-1:Nat):Int)-(j:Int))=((L.length-1-j:Nat):Int):=by rw[aU _ (by omega)];omega
        have y0:(0:Int)≤(((i+(o+1))-j:Nat):Int):=by omega
        have y1:(0:Int)≤((L.length-1-j:Nat):Int):=by omega
        have y2:(i+(o+1))-j<nl.length:=by omega
        have y3:L.length-1-j<L.length:=by omega
        have w5:=bI (a:=j) (by omega);obtain⟨x1,hx1⟩:∃x,nl[(i+(o+1))-j]'y2=x:=⟨_,rfl⟩;obtain⟨x2,hx2⟩:∃x,L[L.length-1-j]'y3=x:=⟨_,rfl⟩;simp only[↓zp,zw,aA,g0,g7,g8,g9,g10,g12,d5];refine bR 10 (by kernel_rfl) (by kernel_rfl) (by kernel_rfl) ?_
        cases hx:((x1.toNat:Int) !=(x2.toNat:Int))with
        |true=>
         simp only[↓zp,zw,aA,g0,g7,g8,g9,g10,g12,v1,v2,y0,y1,y2,y3,aF,hx1,hx2,hx];refine lZ (by kernel_rfl) (m:=0) (by omega) ⟨rfl,(i+(o+1)),f,by simp only[↓zp,zw,aA,g0],by simp only[↓zp,zw,aA,g7],by simp only[↓zp,zw,aA,g8],by simp only[↓zp,zw,aA,g9],by simp only[↓zp,zw,aA,g10],rfl,by omega,by omega,(by rw[show i+(o+1)=i+1+o by omega];exact ho),?_⟩
         exact Nat.le_trans hf (nA (by omega))
        |false=>
         simp only[↓zp,zw,aA,g0,g7,g8,g9,g10,g12,v1,v2,y0,y1,y2,y3,aF,hx1,hx2,hx,w5];exact⟨L.length-(j+1),by omega,j+1,by trivial,by trivial,by trivial,by trivial,by trivial,rfl,by trivial,by omega,by omega,rfl⟩
       ·have d5:decide ((j:Int)<((L.length:Nat):Int))=false:=bD (by omega);simp only[↓zp,zw,aA,g0,g7,g8,g9,g10,g12,d5]
        exact⟨⟨_,rfl⟩,Ext.refl _ _⟩
     |false=>
      have hab2:a=b:=by
       rw[bne_eq_false_iff_eq]at hab;exact UInt8.toNat_inj.1 (by omega)
      simp only[↓zp,zw,aA,g0,g7,g8,g9,g10,z0,z1,z2,z3,aF,ha,hb',hab];refine⟨fun m2 ρ h'=> ∃j:Nat,ρ 0=.string ⟨nl.toArray⟩∧ρ 7=.string ⟨L.toArray⟩∧ρ 8=.int .i64 ((L.length-1:Nat):Int)∧ρ 9=.int .i64 ((i:Nat):Int)∧ρ 10=.int .i64 (f:Int)∧ρ 12=.int .i64 (j:Int)∧h'=h∧1≤j∧j≤L.length∧m2=L.length-j,L.length-1,⟨1,by simp only[↓zp,zw,aA,g0],by simp only[↓zp,zw,aA,g7],by simp only[↓zp,zw,aA,g8],by simp only[↓zp,zw,aA,g9],by simp only[↓zp,zw,aA,g10],by simp only[↓zp,zw,aA];rfl,rfl,by omega,by omega,rfl⟩,?_⟩;clear g0 g7 g8 g9 g10;rintro m2 ρ h3 ⟨j,g0,g7,g8,g9,g10,g12,hh3,hj1,hjL,hm2⟩;rw[hh3];rcases Nat.lt_or_ge j L.length with hjl|hjl
      ·have d5:decide ((j:Int)<((L.length:Nat):Int))=true:=bC (by omega);have v1:IntKind.i64.wrap (((i:Nat):Int)-(j:Int))=((i-j:Nat):Int):=by rw[aU _ (by omega)];omega
       have v2:IntKind.i64.wrap (((L.length-1:Nat):Int)-(j:Int))=((L.length-1-j:Nat):Int):=by rw[aU _ (by omega)];omega
       have y0:(0:Int)≤((i-j:Nat):Int):=by omega
       have y1:(0:Int)≤((L.length-1-j:Nat):Int):=by omega
       have y2:i-j<nl.length:=by omega
       have y3:L.length-1-j<L.length:=by omega
       have w5:=bI (a:=j) (by omega);obtain⟨x1,hx1⟩:∃x,nl[i-j]'y2=x:=⟨_,rfl⟩;obtain⟨x2,hx2⟩:∃x,L[L.length-1-j]'y3=x:=⟨_,rfl⟩;simp only[↓zp,zw,aA,g0,g7,g8,g9,g10,g12,d5];refine bR 10 (by kernel_rfl) (by kernel_rfl) (by kernel_rfl) ?_
       cases hx:((x1.toNat:Int) !=(x2.toNat:Int))with
       |true=>
        simp only[↓zp,zw,aA,g0,g7,g8,g9,g10,g12,v1,v2,y0,y1,y2,y3,aF,hx1,hx2,hx];refine lZ (by kernel_rfl) (m:=0) (by omega) ⟨rfl,i,f,by simp only[↓zp,zw,aA,g0],by simp only[↓zp,zw,aA,g7],by simp only[↓zp,zw,aA,g8],by simp only[↓zp,zw,aA,g9],by simp only[↓zp,zw,aA,g10],rfl,by omega,by omega,(by rw[aS (by omega),ha,hab2]),?_⟩
        exact Nat.le_trans hf (nA (by omega))
       |false=>
        simp only[↓zp,zw,aA,g0,g7,g8,g9,g10,g12,v1,v2,y0,y1,y2,y3,aF,hx1,hx2,hx,w5];exact⟨L.length-(j+1),by omega,j+1,by trivial,by trivial,by trivial,by trivial,by trivial,rfl,by trivial,by omega,by omega,rfl⟩
      ·have d5:decide ((j:Int)<((L.length:Nat):Int))=false:=bD (by omega);simp only[↓zp,zw,aA,g0,g7,g8,g9,g10,g12,d5];exact⟨⟨_,rfl⟩,Ext.refl _ _⟩
    ·rintro l m ρ h2 rest ⟨rfl,i',f',g0,g7,g8,g9,g10,hh2,hii,hi8',hbi,hf'⟩ hfl;cases hfl;rw[hh2];have w1:=bI (a:=i') (by omega);have w2:=bI (a:=f') (by have:=hcnt b i';omega);have hcn:=count_snoc hbi;have hc2:=hcnt b (i'+1);simp only[↓zp,zw,aA,g0,g7,g8,g9,g10,w1,w2];refine bK (cutover_c ((i'+1:Nat):Int) (by omega) (by omega)) ?_;have d3:decide (((f'+1:Nat):Int)>(((i'+1:Nat):Int)+16)/8)=false:=bD (by omega);simp only[↓zp,zw,aA,g0,g7,g8,g9,g10,d3];exact⟨8-(i'+1),by omega,i'+1,f'+1,by trivial,by trivial,by trivial,rfl,rfl,by trivial,by omega,by omega,by omega,rfl⟩
   ·have d1:decide ((i:Int)<((nl.length:Nat):Int))=false:=bD (by omega);simp only[↓zp,zw,aA,g0,g7,g8,g9,g10,d1];exact⟨⟨_,rfl⟩,Ext.refl _ _⟩
end
end
section
section
variable{h:Heap}
def zSet:List Value:=List.replicate 256 (.bool false)
theorem zSet_eq:fO aE 191=some zSet.toArray:=by kernel_rfl
theorem should_c(n:Nat):C aE 182 #[.int .i64 (n:Int)] h (Ret (.bool (decide ((n:Int)>8))) h):=by
 refine C_in Tryz.func182 rfl rfl (by kernel_rfl) (aG rfl) ?_;simp only[↓zp,zw,aA];exact⟨rfl,rfl⟩
theorem set_c:C aE 183 #[.string ⟨nlChars.toArray⟩] h fun e h'=>(∃l:List Value,e=.returned (.tuple #[.agg l.toArray,.bool false])∧l.length=256∧one' l=true)∧Ext [] h h':=by
 have hN:nlChars.length=8:=rfl;have e0:nlChars[0]'(by decide)=10:=rfl;have e1:nlChars[1]'(by decide)=13:=rfl;have e2:nlChars[2]'(by decide)=226:=rfl;obtain⟨nl,hnl⟩:∃nl,nlChars=nl:=⟨_,rfl⟩
 have hg:∀i (hi:i<3),∃b,nl[i]? =some b∧((i<2∧b.toNat<128)∨(i=2∧128≤b.toNat)):=by
  rw[←hnl];intro i hi
  match i,hi with
  |0,_=>exact⟨10,rfl,.inl ⟨by omega,by decide⟩⟩
  |1,_=>exact⟨13,rfl,.inl ⟨by omega,by decide⟩⟩
  |2,_=>exact⟨226,rfl,.inr ⟨rfl,by decide⟩⟩
 rw[hnl]at hN⊢;clear e0 e1 e2;have hE1:Ext [] h (h.push (.cells zSet.toArray 191)):=Ext.push _ _ _;have hb1:Blk (h.push (.cells zSet.toArray 191)) h.size zSet 191:=Blk.new;refine C_in Tryz.func183 rfl rfl (by kernel_rfl) (aG rfl) ?_;simp only[↓zp,zw,aA,zSet_eq];generalize h.push (.cells zSet.toArray 191)=h1 at hE1 hb1⊢;refine⟨fun m ρ h'=> ∃(i:Nat) (l:List Value),ρ 0=.string ⟨nl.toArray⟩∧ρ 2=.pointer (some ⟨h.size,0,none⟩)∧ρ 4=.int .i64 (i:Int)∧Blk h' h.size l 191∧l.length=256∧one' l=true∧Ext [] h h'∧i≤2∧m=3-i,3,⟨0,zSet,by simp only[↓zp,zw,aA],by simp only[↓zp,zw,aA],by simp only[↓zp,zw,aA];rfl,hb1,by simp[zSet],by kernel_rfl,hE1,by omega,rfl⟩,?_⟩;rintro m ρ h2 ⟨i,l,g0,g2,g4,hb2,hl,h1l,hE2,hi,hm⟩;obtain⟨b,hb,hcase⟩:=hg i (by omega);have hlt:i<nl.length:=by omega
 have hbi:nl[i]'hlt=b:=by rw[aS hlt]at hb;exact Option.some.inj hb
 have d1:decide ((i:Int)<((nl.length:Nat):Int))=true:=bC (by omega);have z0:(0:Int)≤(i:Int):=by omega
 have w1:=bI (a:=i) (by omega);have hb256:=UInt8.toNat_lt b;rcases hcase with⟨hi2,hlo⟩|⟨hi2,hhi⟩
 ·have d2:decide ((b.toNat:Int)≥128)=false:=bD (by omega);have bb:(0:Int)≤(b.toNat:Int)∧(b.toNat:Int)<((256:Nat):Int):=by omega
  simp only[↓zp,zw,aA,g0,g2,g4,d1,z0,hlt,hbi,d2,bb,aF];refine bS (o:=b.toNat*1) hb2 (by kernel_rfl) (by omega) rfl fun h3 hb3 hE3 hs3=> ?_;simp only[↓zp,zw,aA,g0,g2,g4,w1];refine⟨3-(i+1),by omega,i+1,_,by trivial,by trivial,by trivial,hb3,by simpa using hl,?_,hE2.trans_new hE3 fun y hy=> .inl (by simp at hy;omega),by omega,rfl⟩;rw[gO]at h1l⊢;intro v hv;rcases List.mem_or_eq_of_mem_set hv with h|h
  ·exact h1l v h
  ·subst h;rfl
 ·have d2:decide ((b.toNat:Int)≥128)=true:=bC (by omega);simp only[↓zp,zw,aA,g0,g2,g4,d1,z0,hlt,hbi,d2,aF,bQ hb2 hl];refine cM (n:=256) hb2 (by kernel_rfl) hl (by omega) h1l fun h3 hb3 hE3 hs3=> ?_
  have hb3':Blk h3 h.size l 191:=by
   have:l.take 0++l++l.drop (0+256)=l:=by rw[List.drop_eq_nil_of_le (by omega)];simp
   rw[this]at hb3;exact hb3
  simp only[↓zp,zw,aA,g2,bQ hb3' hl];exact⟨⟨l,by trivial,hl,h1l⟩,hE2.trans_new hE3 fun y hy=> .inl (by simp at hy;omega)⟩
theorem iany_c(x:List UInt8)(hx:x.length≤900000):C aE 164 #[.string ⟨x.toArray⟩,.string ⟨nlChars.toArray⟩] h fun e h'=>(∃i:Int,e=.returned (.int .i64 i))∧Ext [] h h':=by
 have e1:(nlChars==[])=false:=rfl;have e2:((nlChars.length:Int)==1)=false:=rfl;obtain⟨nl,hnl⟩:∃nl,nlChars=nl:=⟨_,rfl⟩;have hset:∀{h},C aE 183 #[.string ⟨nl.toArray⟩] h fun e h'=>(∃l:List Value,e=.returned (.tuple #[.agg l.toArray,.bool false])∧l.length=256∧one' l=true)∧Ext [] h h':=fun{h}=>hnl▸set_c;have hir:∀{h} (r:Nat),r≤1114111→C aE 181 #[.string ⟨nl.toArray⟩,.int .i32 (r:Int)] h fun e h'=>(∃i:Int,e=.returned (.int .i64 i))∧Ext [] h h':=fun{h} r hr=>hnl▸irune_c r hr;rw[hnl]at e1 e2⊢;clear hnl;refine C_in Tryz.func164 rfl rfl (by kernel_rfl) (aG rfl) ?_;simp only[↓zp,zw,aA,e1,e2];refine bK (should_c x.length) ?_
 cases hs:decide ((x.length:Int)>8)with
 |true=>
  simp only[↓zp,zw,aA];refine bH hset ?_;rintro _ h1 ⟨⟨l,rfl,hl,h1l⟩,hE1⟩;simp only[↓zp,zw,aA,zSet_eq];have hE2:Ext [] h1 (h1.push (.cells zSet.toArray 191)):=Ext.push _ _ _;have hb2:Blk (h1.push (.cells zSet.toArray 191)) h1.size zSet 191:=Blk.new;generalize h1.push (.cells zSet.toArray 191)=h2 at hE2 hb2⊢;refine cM (n:=256) hb2 (by kernel_rfl) hl (by simp[zSet]) h1l fun h3 hb3 hE3 hs3=> ?_;have E3:Ext [] h h3:=(hE1.trans hE2).trans_new hE3 fun y hy=> .inl (by simp at hy;have:=hE1.1;omega);simp only[↓zp,zw,aA];refine hZ Tryz.underlying9 ?_;have hE4:Ext [] h3 (h3.push (.stringIter ⟨x.toArray⟩ 0)):=Ext.push _ _ _;have hj:(h3.push (.stringIter ⟨x.toArray⟩ 0))[h3.size]? =some (.stringIter ⟨x.toArray⟩ 0):=by simp
  have hz4:(h3.push (.stringIter ⟨x.toArray⟩ 0)).size=h3.size+1:=by simp
  obtain⟨J,hJ⟩:∃J,h3.size=J:=⟨_,rfl⟩;have hJge:h.size≤J:=by rw[←hJ];exact E3.1
  rw[hJ]at hj hz4⊢;generalize h3.push (.stringIter ⟨x.toArray⟩ 0)=h4 at hE4 hj hz4⊢;simp only[↓zp,zw,aA];refine⟨fun m ρ h'=> ∃pos:Nat,ρ 1=.string ⟨nl.toArray⟩∧ρ 45=.pointer (some ⟨J,0,none⟩)∧h'[J]? =some (.stringIter ⟨x.toArray⟩ pos)∧J<h'.size∧Ext [] h h'∧pos≤x.length∧m=x.length-pos,x.length,⟨0,by simp only[↓zp,zw,aA],by simp only[↓zp,zw,aA],hj,by omega,E3.trans hE4,by omega,rfl⟩,?_⟩;rintro m ρ h5 ⟨pos,g1,g45,hj,hJl,hE5,hpos,hm⟩;simp only[↓zp,zw,aA,g1,g45];refine iX hj (fun r n h6 hp hr hn hpn hra hj6 hE6 hs6=> ?_) (fun hp=> ?_)
  ·rw[eU]at hp hpn;have hE56:Ext [] h h6:=hE5.trans_new hE6 fun y hy=> .inl (by simp at hy;omega);simp only[↓zp,zw,aA,g1,g45];refine bH (hir r hr) ?_;rintro _ h7 ⟨⟨i,rfl⟩,hE7⟩;have hj7:h7[J]? =some (.stringIter ⟨x.toArray⟩ (pos+n)):=(hE7.2 _ (by omega) (by simp)).trans hj6
   cases hi:decide (i≥0)with
   |true=>
    simp only[↓zp,zw,aA,g1,g45,hi]
    exact⟨⟨_,rfl⟩,hE56.trans hE7⟩
   |false=>
    simp only[↓zp,zw,aA,g1,g45,hi];exact⟨x.length-(pos+n),by omega,pos+n,by trivial,by trivial,hj7,by have:=hE7.1;omega,hE56.trans hE7,by omega,rfl⟩
  ·simp only[↓zp,zw,aA,g1,g45]
   exact⟨⟨_,rfl⟩,hE5⟩
 |false=>
  have E3:Ext [] h h:=Ext.refl _ _;simp only[↓zp,zw,aA];refine hZ Tryz.underlying9 ?_;have hE4:Ext [] h (h.push (.stringIter ⟨x.toArray⟩ 0)):=Ext.push _ _ _;have hj:(h.push (.stringIter ⟨x.toArray⟩ 0))[h.size]? =some (.stringIter ⟨x.toArray⟩ 0):=by simp
  have hz4:(h.push (.stringIter ⟨x.toArray⟩ 0)).size=h.size+1:=by simp
  obtain⟨J,hJ⟩:∃J,h.size=J:=⟨_,rfl⟩;have hJge:h.size≤J:=by rw[←hJ];exact E3.1
  rw[hJ]at hj hz4⊢;generalize h.push (.stringIter ⟨x.toArray⟩ 0)=h4 at hE4 hj hz4⊢;simp only[↓zp,zw,aA];refine⟨fun m ρ h'=> ∃pos:Nat,ρ 1=.string ⟨nl.toArray⟩∧ρ 45=.pointer (some ⟨J,0,none⟩)∧h'[J]? =some (.stringIter ⟨x.toArray⟩ pos)∧J<h'.size∧Ext [] h h'∧pos≤x.length∧m=x.length-pos,x.length,⟨0,by simp only[↓zp,zw,aA],by simp only[↓zp,zw,aA],hj,by omega,E3.trans hE4,by omega,rfl⟩,?_⟩;rintro m ρ h5 ⟨pos,g1,g45,hj,hJl,hE5,hpos,hm⟩;simp only[↓zp,zw,aA,g1,g45];refine iX hj (fun r n h6 hp hr hn hpn hra hj6 hE6 hs6=> ?_) (fun hp=> ?_)
  ·rw[eU]at hp hpn;have hE56:Ext [] h h6:=hE5.trans_new hE6 fun y hy=> .inl (by simp at hy;omega);simp only[↓zp,zw,aA,g1,g45];refine bH (hir r hr) ?_;rintro _ h7 ⟨⟨i,rfl⟩,hE7⟩;have hj7:h7[J]? =some (.stringIter ⟨x.toArray⟩ (pos+n)):=(hE7.2 _ (by omega) (by simp)).trans hj6
   cases hi:decide (i≥0)with
   |true=>
    simp only[↓zp,zw,aA,g1,g45,hi]
    exact⟨⟨_,rfl⟩,hE56.trans hE7⟩
   |false=>
    simp only[↓zp,zw,aA,g1,g45,hi];exact⟨x.length-(pos+n),by omega,pos+n,by trivial,by trivial,hj7,by have:=hE7.1;omega,hE56.trans hE7,by omega,rfl⟩
  ·simp only[↓zp,zw,aA,g1,g45];exact⟨⟨_,rfl⟩,hE5⟩
end
theorem yQ(hI:Heap):gU hI:=by
 intro h x hE hx;refine C_in Tryz.func142 rfl rfl (by kernel_rfl) (aG rfl) ?_;simp only[↓zp,zw,aA];refine bH (iany_c x hx) ?_;rintro _ h1 ⟨⟨i,rfl⟩,hE1⟩;simp only[↓zp,zw,aA];exact⟨⟨_,rfl⟩,hE1⟩
theorem yO{hI:Heap}(hG:Gl hI):jM (Ext [] hI):=by
 intro h x hE hp hx
 have hc:C aE 89 #[.string ⟨x.toArray⟩] h (RetE (.tuple #[.int .i32 ((Lib.decodeGo ⟨x.toArray⟩).1:Int),.int .i64 ((Lib.decodeGo ⟨x.toArray⟩).2:Int)]) h):=
  C_below fun w hw=>Any.utf8_DecodeRuneInString (show Lays.n197 aE Tryz.lays161_ren from{Tryz.lays161 with}) ⟨x.toArray⟩ w (hG.utf w (hw▸hE))
 refine hc.mono ?_;rintro _ h' ⟨rfl,hE'⟩;exact⟨⟨_,_,rfl⟩,hE'⟩
end
section
def cpre:Nat→Code→Code
 |n+1,.seq a b=> .seq a (cpre n b)
 |_,_=> .skip
def oD:Nat→Code→Code
 |n+1,.seq _ b=>oD n b
 |_,c=>c
theorem cS{n:Nat}{a b:Code}:cpre (n+1) (.seq a b)=.seq a (cpre n b):=rfl
theorem cT{c:Code}:cpre 0 c=.skip:=rfl
theorem dC{n:Nat}{a b:Code}:oD (n+1) (.seq a b)=oD n b:=rfl
theorem dE{c:Code}:oD 0 c=c:=by cases c<;>rfl
section
variable{P:Program}{E:List PanicEntry→Heap→Prop}
theorem Kseq2(N M:Env→Heap→Prop)(K:Exit→Env→Heap→Prop):Kseq M (Kseq N K)=Kseq M K:=by
 funext e ρ h;cases e<;>rfl
theorem W_split:∀(n:Nat) (c:Code) (K:Exit→Env→Heap→Prop) (ρ:Env) (h:Heap),W P c K E ρ h=W P (cpre n c) (Kseq (W P (oD n c) K E) K) E ρ h
 |0,c,K,ρ,h=>by rw[cT,dE];rfl
 |n+1,c,K,ρ,h=>by
  cases c with
  |seq a b=>
   rw[cS,dC];show W P a (Kseq (W P b K E) K) E ρ h=W P a (Kseq (W P (cpre n b) (Kseq (W P (oD n b) K E) K) E) (Kseq (W P (oD n b) K E) K)) E ρ h
   rw[Kseq2,show W P (cpre n b) (Kseq (W P (oD n b) K E) K) E=W P b K E from funext fun ρ=>funext fun h=>(W_split n b K ρ h).symm]
  |_=>rfl
theorem fD {c:Code} {K:Exit→Env→Heap→Prop} {ρ:Env} {h:Heap} (n:Nat) (I:Env→Heap→Prop)
 (H1:∀N:Env→Heap→Prop,(∀ρ h,I ρ h→N ρ h)→W P (cpre n c) (Kseq N K) E ρ h) (H2:∀ρ h,I ρ h→W P (oD n c) K E ρ h):W P c K E ρ h:=by
 rw[W_split n];exact H1 _ H2
theorem Wcond_t{a b:Code}{K:Exit→Env→Heap→Prop}{ρ:Env}{h:Heap}{t:Nat}(ht:ρ t=.bool true)(H:W P a K E ρ h):W P (.cond (.tmp t) a b) K E ρ h:=by
 show Wif (ρ t) _ _;rw[ht];exact H
theorem W_scopeN{c:Code}{K:Exit→Env→Heap→Prop}{ρ:Env}{h:Heap}(H:∀K':Exit→Env→Heap→Prop,(∀ρ h,K' .ret ρ h=K .ret ρ h)→W P c K' E ρ h):W P (.scope c) K E ρ h:=
 qK (fun _ _ _ _=>False) 0 (H _ fun _ _=>rfl) (fun _ _ _ _ _ hJ=>hJ.elim)
end
end
section
def fF(c:UInt8):Nat:=if 48≤c.toNat∧c.toNat≤57 then c.toNat-48 else if 97≤(c|||32).toNat∧(c|||32).toNat≤122 then(c|||32).toNat-97+10 else 99
theorem wX(c:UInt8):fF c≤99:=by
 have:=UInt8.toNat_lt c;unfold fF;split;·omega
 split<;>omega
def okB(c:UInt8):Prop:=c.toNat<128∧c.toNat≠95
theorem rJ{c:UInt8}(h:fF c<10):okB c:=by
 unfold fF at h;unfold okB;split at h
 ·omega
 ·split at h<;>omega
theorem ok_table:∀n:Fin 256,((UInt8.ofFin n)|||32).toNat=101→(UInt8.ofFin n).toNat=101∨(UInt8.ofFin n).toNat=69:=by decide
theorem ok_e{c:UInt8}(h:(c|||32).toNat=101):okB c:=by
 have:=ok_table c.toFin h;have e:UInt8.ofFin c.toFin=c:=rfl;rw[e]at this;unfold okB;omega
theorem zM{c:UInt8}{d:Nat}(h:d≤c.toNat):IntKind.u8.wrap ((c.toNat:Int)-(d:Int))=((c.toNat-d:Nat):Int):=by
 have:=UInt8.toNat_lt c;rw[IntWalk.u8_in _ (by omega)];omega
theorem oA{x:List UInt8}{i:Nat}(hi:i<x.length){c:UInt8}(hc:x[i]'hi=c):idxS x (i:Int)=some (.int .u8 (c.toNat:Int)):=by
 rw[r_idx (by omega) (by rw[aF];exact hi)];simp only[aF,hc]
section
variable{h:Heap}
theorem pP(c:UInt8):C aE 148 #[.int .u8 (c.toNat:Int)] h (Ret (.int .i64 (fF c:Int)) h):=by
 have hc:=UInt8.toNat_lt c;have hd:=UInt8.toNat_lt (c|||32);have hb:=tV c;by_cases h1:48≤c.toNat∧c.toNat≤57
 ·have d1:decide ((c.toNat:Int)≥48)=true:=bC (by omega);have d2:decide ((c.toNat:Int)≤57)=true:=bC (by omega);have w1:IntKind.u8.wrap ((c.toNat:Int)-48)=((c.toNat-48:Nat):Int):=zM (d:=48) h1.1;have w2:=wrap_le (n:=c.toNat-48) (by omega);have e:fF c=c.toNat-48:=by unfold fF;rw[if_pos h1]
  rw[e];refine C_in Tryz.func148 rfl rfl (by kernel_rfl) (aG rfl) ?_;simp only[↓zp,zw,aA,d1,d2,w1,w2]
  first|trivial|exact⟨rfl,rfl⟩|exact⟨trivial,rfl⟩
 ·have e0:fF c=if 97≤(c|||32).toNat∧(c|||32).toNat≤122 then(c|||32).toNat-97+10 else 99:=by unfold fF;rw[if_neg h1]
  rw[e0]
  have fin:∀{R:Prop},((decide ((c.toNat:Int)≥48)=true∧decide ((c.toNat:Int)≤57)=false→R)∧(decide ((c.toNat:Int)≥48)=false→R))→R:=fun{R} ⟨a,b⟩=>by
   by_cases q:48≤c.toNat
   ·exact a ⟨bC (by omega),bD (by omega)⟩
   ·exact b (bD (by omega))
  have e1:decide (((c|||32).toNat:Int)≥97)=decide (97≤(c|||32).toNat):=by rw[aW];simp;omega
  have e2:decide (((c|||32).toNat:Int)≤122)=decide ((c|||32).toNat≤122):=by rw[aW];simp;omega
  have rest:97≤(c|||32).toNat→IntKind.u8.wrap (((c|||32).toNat:Int)-97)=(((c|||32).toNat-97:Nat):Int)∧IntKind.i64.wrap ((((c|||32).toNat-97:Nat):Int))=(((c|||32).toNat-97:Nat):Int)∧IntKind.i64.wrap ((((c|||32).toNat-97:Nat):Int)+10)=(((c|||32).toNat-97+10:Nat):Int):=fun hq=>⟨zM (d:=97) hq,wrap_le (by omega),cQ (b:=10) (by omega)⟩;generalize(c|||32).toNat=q at*;refine fin ⟨fun⟨d1,d2⟩=> ?_,fun d1=> ?_⟩
  ·refine C_in Tryz.func148 rfl rfl (by kernel_rfl) (aG rfl) ?_;by_cases h2:97≤q
   ·obtain⟨w1,w2,w3⟩:=rest h2;by_cases h3:q≤122
    ·rw[if_pos ⟨h2,h3⟩];simp only[↓zp,zw,aA,d1,d2,hb,e1,e2,h2,h3,w1,w2,w3]
     first|trivial|exact⟨rfl,rfl⟩|exact⟨trivial,rfl⟩
    ·rw[if_neg (by omega)];simp only[↓zp,zw,aA,d1,d2,hb,e1,e2,h2,h3,w1,w2,w3]
     first|trivial|exact⟨rfl,rfl⟩|exact⟨trivial,rfl⟩
   ·rw[if_neg (by omega)];simp only[↓zp,zw,aA,d1,d2,hb,e1,e2,h2]
    first|trivial|exact⟨rfl,rfl⟩|exact⟨trivial,rfl⟩
  ·refine C_in Tryz.func148 rfl rfl (by kernel_rfl) (aG rfl) ?_;by_cases h2:97≤q
   ·obtain⟨w1,w2,w3⟩:=rest h2;by_cases h3:q≤122
    ·rw[if_pos ⟨h2,h3⟩];simp only[↓zp,zw,aA,d1,hb,e1,e2,h2,h3,w1,w2,w3]
     first|trivial|exact⟨rfl,rfl⟩|exact⟨trivial,rfl⟩
    ·rw[if_neg (by omega)];simp only[↓zp,zw,aA,d1,hb,e1,e2,h2,h3,w1,w2,w3]
     first|trivial|exact⟨rfl,rfl⟩|exact⟨trivial,rfl⟩
   ·rw[if_neg (by omega)];simp only[↓zp,zw,aA,d1,hb,e1,e2,h2]
    first|trivial|exact⟨rfl,rfl⟩|exact⟨trivial,rfl⟩
def digV(b:Nat):Value:=.func (.func 167) #[] #[.pointer (some ⟨b,0,none⟩)]
theorem rX(base:Int):C aE 145 #[.int .i64 base] h fun e h'=>e=.returned (digV h.size)∧Ext [] h h'∧bG h' h.size 0=some (.int .i64 base)∧h.size<h'.size:=by
 refine C_in Tryz.func145 rfl rfl (by kernel_rfl) (aG rfl) ?_;unfold digV;simp only[↓zp,zw,aA];exact⟨trivial,Ext.push _ _ _,trivial⟩
theorem isDig_c{b base:Nat}(hb:bG h b 0=some (.int .i64 (base:Int)))(c:UInt8):C aE 167 #[.int .u8 (c.toNat:Int),.pointer (some ⟨b,0,none⟩)] h (Ret (.bool (decide (fF c<base))) h):=by
 have e1:decide ((fF c:Int)<(base:Int))=decide (fF c<base):=by rw[aW];simp
 refine C_in Tryz.func167 rfl rfl (by kernel_rfl) (aG rfl) ?_;simp only[↓zp,zw,aA];refine dL [(0,true),(1,true),(2,true),(3,true),(4,true)] (fun h'=>bG h' b 0=some (.int .i64 (base:Int))) (by kernel_rfl) (by kernel_rfl) (by kernel_rfl) rfl hb ?_;refine Wo_t rfl rfl _ (.inl fun h' hS'=>by simp only[rdOp,↓zp,zw,aA,aH,aJ,aK];rfl) ?_;refine Wo_t rfl rfl _ (.inr ⟨_,_,_,148,#[],#[],rfl,rfl,by kernel_rfl,fun h1 hS1=>by simp only[aH,aJ,aK];simp only[↓zp,zw,aA];exact pP c⟩) ?_
 iterate 3 refine Wo_t rfl rfl _ (.inl fun h' hS'=>by simp only[rdOp,↓zp,zw,aA,aH,aJ,aK,hS',e1];rfl) ?_
 simp only[↓zp,zw,aA]
 first|trivial|exact⟨rfl,rfl⟩|exact⟨trivial,rfl⟩
theorem rC{b base:Nat}(hb:bG h b 0=some (.int .i64 (base:Int)))(x:List UInt8)(a:Nat)(ha:a≤x.length)(hx:x.length≤1000000):
 C aE 144 #[.string ⟨x.toArray⟩,.int .i64 (a:Int),digV b] h fun e h'=>(∃k:Nat,e=.returned (.int .i64 (k:Int))∧a+k≤x.length∧∀j,a≤j→j<a+k→fF (x.getD j 0)<base)∧h'=h:=by
 unfold digV;refine C_in Tryz.func144 rfl rfl (by kernel_rfl) (aG rfl) ?_;simp only[↓zp,zw,aA];refine⟨fun m ρ h'=> ∃k:Nat,ρ 0=.string ⟨x.toArray⟩∧ρ 1=.int .i64 (a:Int)∧ρ 2=.func (.func 167) #[] #[.pointer (some ⟨b,0,none⟩)]∧ρ 7=.int .i64 (k:Int)∧h'=h∧a+k≤x.length∧(∀j,a≤j→j<a+k→fF (x.getD j 0)<base)∧m=x.length-(a+k),x.length-a,⟨0,by simp only[↓zp,zw,aA],by simp only[↓zp,zw,aA],by simp only[↓zp,zw,aA],by simp only[↓zp,zw,aA];rfl,rfl,by omega,fun j h1 h2=>by omega,rfl⟩,?_⟩;rintro m ρ h1 ⟨k,g0,g1,g2,g7,hh,hk,hd,hm⟩;rw[hh];have w0:=cQ (a:=a) (b:=k) (by omega);by_cases hlt:a+k<x.length
 ·have d1:decide (((a+k:Nat):Int)<((x.length:Nat):Int))=true:=bC (by omega);have z0:(0:Int)≤((a+k:Nat):Int):=by omega
  have w1:=bI (a:=k) (by omega);obtain⟨c,hc⟩:∃c,x[a+k]'hlt=c:=⟨_,rfl⟩;have hcd:x.getD (a+k) 0=c:=by rw[List.getD_eq_getElem?_getD,aS hlt,hc];rfl
  simp only[↓zp,zw,aA,g0,g1,g2,g7,w0,d1,z0,hlt,hc,aF];refine bK (isDig_c hb c) ?_
  cases hw:decide (fF c<base)with
  |true=>
   simp only[↓zp,zw,aA,g0,g1,g2,g7,w1];refine⟨x.length-(a+(k+1)),by omega,k+1,by trivial,by trivial,by trivial,by trivial,by trivial,by omega,fun j h1 h2=> ?_,by trivial⟩;by_cases hj:j=a+k
   ·rw[hj,hcd];exact of_decide_eq_true hw
   ·exact hd j h1 (by omega)
  |false=>
   simp only[↓zp,zw,aA,g0,g1,g2,g7];exact⟨⟨k,by trivial,hk,hd⟩,by trivial⟩
 ·have d1:decide (((a+k:Nat):Int)<((x.length:Nat):Int))=false:=bD (by omega);simp only[↓zp,zw,aA,g0,g1,g2,g7,w0,d1];exact⟨⟨k,by trivial,hk,hd⟩,by trivial⟩
theorem build174:bldU (bpl aE 174) aE 174 [(0,.int .i64 16),(1,.int .i64 8),(2,.int .i64 2)]=some (.agg #[.int .i64 16,.int .i64 8,.int .i64 2]):=by kernel_rfl
theorem sG:jB aE 174 (.agg #[.int .i64 16,.int .i64 8,.int .i64 2]) (.int .i64 0)=some (.int .i64 16)∧jB aE 174 (.agg #[.int .i64 16,.int .i64 8,.int .i64 2]) (.int .i64 1)=some (.int .i64 8)∧jB aE 174 (.agg #[.int .i64 16,.int .i64 8,.int .i64 2]) (.int .i64 2)=some (.int .i64 2):=by and_intros<;>kernel_rfl
theorem bases_c:C aE 166 #[] h fun e h'=>e=.returned (.agg #[.int .i64 16,.int .i64 8,.int .i64 2])∧Ext [] h h':=by
 refine C_in Tryz.func166 rfl rfl (by kernel_rfl) (aG rfl) ?_;simp only[↓zp,zw,aA,build174];exact⟨by trivial,Ext.push _ _ _⟩
theorem prefix_c(x:List UInt8)(hx:x.length≤1000000):C aE 143 #[.string ⟨x.toArray⟩] h fun e h'=>(∃b:Nat,e=.returned (.int .i64 (b:Int))∧b≤16∧b≠10∧(b≠0→2≤b∧2≤x.length))∧Ext [] h h':=by
 refine C_in Tryz.func143 rfl rfl (by kernel_rfl) (aG rfl) ?_;by_cases hl:x.length<2
 ·have d1:decide (((x.length:Nat):Int)<2)=true:=bC (by omega);simp only[↓zp,zw,aA,d1];exact⟨⟨0,rfl,by omega,by omega,fun h=>absurd rfl h⟩,Ext.refl _ _⟩
 ·have d1:decide (((x.length:Nat):Int)<2)=false:=bD (by omega);have l0:0<x.length:=by omega
  have l1:1<x.length:=by omega
  obtain⟨c0,hc0⟩:∃c,x[0]'l0=c:=⟨_,rfl⟩;obtain⟨c1,hc1⟩:∃c,x[1]'l1=c:=⟨_,rfl⟩;have hb:=tV c1;have x0:idxS x 0=_:=oA l0 hc0;have x1:idxS x 1=_:=oA l1 hc1
  cases hn:((c0.toNat:Int) !=48)with
  |true=>
   simp only[↓zp,zw,aA,d1,x0,hn]
   exact⟨⟨0,rfl,by omega,by omega,fun h=>absurd rfl h⟩,Ext.refl _ _⟩
  |false=>
   simp only[↓zp,zw,aA,d1,x0,x1,hn,hb];refine bK (jJ [120,111,98] ((c1|||32).toNat:Int)) ?_;rw[aF,show(c1|||32).toNat.toUInt8=(c1|||32)from UInt8.ofNat_toNat];have hge:=Lib.indexByte_ge [120,111,98] (c1|||32);obtain⟨q,hq⟩:∃q,Lib.indexByte [120,111,98] (c1|||32)=q:=⟨_,rfl⟩;rw[hq]at hge⊢;rcases Int.lt_or_le q 0 with hq0|hq0
   ·simp only[↓zp,zw,aA,bD (Int.not_le.2 hq0)];exact⟨⟨0,rfl,by omega,by omega,fun h=>absurd rfl h⟩,Ext.refl _ _⟩
   ·obtain⟨o,rfl⟩:=Int.eq_ofNat_of_zero_le hq0;obtain⟨ho,_⟩:=Lib.indexByte_some hq;have hol:o<3:=(List.getElem?_eq_some_iff.1 ho).1;have d2:decide ((o:Int)≥0)=true:=bC (by omega)
    cases hn2:decide ((c1.toNat:Int)≥65)with
    |false=>
     simp only[↓zp,zw,aA,d2,x1,hn2]
     exact⟨⟨0,rfl,by omega,by omega,fun h=>absurd rfl h⟩,Ext.refl _ _⟩
    |true=>
     simp only[↓zp,zw,aA,d2,x1,hn2];refine bH bases_c ?_;rintro _ h1 ⟨rfl,hE1⟩
     match o,hol with
     |0,_=>simp only[↓zp,zw,aA,sG.1];exact⟨⟨16,rfl,by omega,by omega,fun _=>⟨by omega,by omega⟩⟩,hE1⟩
     |1,_=>simp only[↓zp,zw,aA,sG.2.1];exact⟨⟨8,rfl,by omega,by omega,fun _=>⟨by omega,by omega⟩⟩,hE1⟩
     |2,_=>simp only[↓zp,zw,aA,sG.2.2];exact⟨⟨2,rfl,by omega,by omega,fun _=>⟨by omega,by omega⟩⟩,hE1⟩
theorem decimal_c(x:List UInt8)(hx:x.length≤1000000):C aE 147 #[.string ⟨x.toArray⟩] h fun e h'=>(∃n:Nat,e=.returned (.int .i64 (n:Int))∧n≤x.length∧∀j,j<n→okB (x.getD j 0))∧Ext [] h h':=by
 have getc:∀{k:Nat} (hlt:k<x.length) {c:UInt8},x[k]'hlt=c→x.getD k 0=c:=fun hlt c hc=>by rw[List.getD_eq_getElem?_getD,aS hlt,hc];rfl
 have snoc:∀{k:Nat},(∀j,j<k→okB (x.getD j 0))→okB (x.getD k 0)→∀j,j<k+1→okB (x.getD j 0):=fun{k} h1 h2 j hj=>by
  by_cases e:j=k
  ·rw[e];exact h2
  ·exact h1 j (by omega)
 refine C_in Tryz.func147 rfl rfl (by kernel_rfl) (aG rfl) ?_;refine fD 5 (fun ρ h'=> ∃B k n p:Nat,ρ 0=.string ⟨x.toArray⟩∧ρ 3=.func (.func 167) #[] #[.pointer (some ⟨B,0,none⟩)]∧ρ 4=.int .i64 (k:Int)∧ρ 5=.int .i64 (n:Int)∧ρ 6=.int .i64 (p:Int)∧bG h' B 0=some (.int .i64 ((10:Nat):Int))∧Ext [] h h'∧n≤x.length∧(∀j,j<n→okB (x.getD j 0))∧k≤x.length∧p≤x.length) (fun N hN=> ?_) ?_
 ·simp only[↓zp,zw,aA,cS,cT];refine bH (rX 10) ?_;rintro _ h1 ⟨rfl,hE1,hb1,_⟩;generalize h.size=B at hb1⊢;unfold digV;simp only[↓zp,zw,aA];refine bH (rC (base:=10) hb1 x 0 (by omega) hx) ?_;rintro _ _ ⟨⟨k,rfl,hk,hd⟩,rfl⟩;have hd0:∀j,j<k→okB (x.getD j 0):=fun j hj=>rJ (hd j (by omega) (by omega));rw[aR]at hk;by_cases hlt:k<x.length
  ·have d1:decide ((k:Int)<((x.length:Nat):Int))=true:=bC (by omega);obtain⟨c,hc⟩:∃c,x[k]'hlt=c:=⟨_,rfl⟩;have z0:(0:Int)≤(k:Int):=by omega
   cases hq:((c.toNat:Int)==46)with
   |true=>
    have w1:=bI (a:=k) (by omega);simp only[↓zp,zw,aA,d1,z0,hlt,hc,aF,hq,w1];refine bH (rC (base:=10) hb1 x (k+1) (by omega) hx) ?_;rintro _ _ ⟨⟨p,rfl,hp,hdp⟩,rfl⟩;have w2:IntKind.i64.wrap (1+(p:Int))=((1+p:Nat):Int):=cQ (a:=1) (b:=p) (by omega);have w3:=cQ (a:=k) (b:=1+p) (by omega);have hc46:c.toNat=46:=by have:=eq_of_beq hq;omega
    simp only[↓zp,zw,aA,w2,w3];refine hN _ _ ⟨B,k,k+(1+p),p,by simp only[↓zp,zw,aA],by simp only[↓zp,zw,aA],by simp only[↓zp,zw,aA],by simp only[↓zp,zw,aA],by simp only[↓zp,zw,aA],hb1,hE1,by omega,fun j hj=> ?_,by omega,by omega⟩;by_cases h1:j<k+1
    ·exact snoc hd0 (by rw[getc hlt hc];unfold okB;omega) j h1
    ·exact rJ (hdp j (by omega) (by omega))
   |false=>
    simp only[↓zp,zw,aA,d1,z0,hlt,hc,aF,hq];exact hN _ _ ⟨B,k,k,0,by simp only[↓zp,zw,aA],by simp only[↓zp,zw,aA],by simp only[↓zp,zw,aA],by simp only[↓zp,zw,aA],by simp only[↓zp,zw,aA];rfl,hb1,hE1,by omega,hd0,by omega,by omega⟩
  ·have d1:decide ((k:Int)<((x.length:Nat):Int))=false:=bD (by omega);simp only[↓zp,zw,aA,d1];exact hN _ _ ⟨B,k,k,0,by simp only[↓zp,zw,aA],by simp only[↓zp,zw,aA],by simp only[↓zp,zw,aA],by simp only[↓zp,zw,aA],by simp only[↓zp,zw,aA];rfl,hb1,hE1,by omega,hd0,by omega,by omega⟩
 ·rintro ρ h1 ⟨B,k,n,p,g0,g3,g4,g5,g6,hb,hE,hn,hok,hk,hp⟩;have w1:=cQ (a:=k) (b:=p) (by omega);simp only[↓zp,zw,aA,dC,dE,g0,g3,g4,g5,g6,w1]
  cases hz:(((k+p:Nat):Int)==0)with
  |true=>simp only[↓zp,zw,aA];exact⟨⟨0,rfl,by omega,fun j hj=>absurd hj (by omega)⟩,hE⟩
  |false=>
   by_cases hlt:n<x.length
   ·have d1:decide ((n:Int)<((x.length:Nat):Int))=true:=bC (by omega);obtain⟨c,hc⟩:∃c,x[n]'hlt=c:=⟨_,rfl⟩;have z0:(0:Int)≤(n:Int):=by omega
    have hb32:=tV c
    cases he:(((c|||32).toNat:Int)==101)with
    |true=>
     have w2:=bI (a:=n) (by omega);have hc101:okB c:=ok_e (by have:=eq_of_beq he;omega);have hok1:=snoc hok (by rw[getc hlt hc];exact hc101);by_cases hl2:n+1<x.length
     ·have d2:decide (((n+1:Nat):Int)<((x.length:Nat):Int))=true:=bC (by omega);obtain⟨c2,hc2⟩:∃c,x[n+1]'hl2=c:=⟨_,rfl⟩;have z1:(0:Int)≤((n+1:Nat):Int):=by omega
      have w3:=bI (a:=n+1) (by omega);have sg:okB c2→∀j,j<n+1+1→okB (x.getD j 0):=fun ho=>snoc hok1 (by rw[getc hl2 hc2];exact ho)
      cases s1:((c2.toNat:Int)==43)with
      |true=>
       have ho:okB c2:=by have:=eq_of_beq s1;unfold okB;omega
       simp only[↓zp,zw,aA,g0,g3,g4,g5,g6,d1,z0,hlt,hc,aF,hb32,he,w2,d2,hl2,hc2,z1,s1,w3];refine bH (rC (base:=10) hb x (n+1+1) (by omega) hx) ?_;rintro _ _ ⟨⟨q,rfl,hq,hdq⟩,rfl⟩;have w4:=cQ (a:=n+1+1) (b:=q) (by omega)
       cases hq0:decide ((q:Int)>0)with
       |true=>
        simp only[↓zp,zw,aA,g0,g3,g4,g5,g6,w4,hq0];refine⟨⟨n+1+1+q,rfl,by omega,fun j hj=> ?_⟩,hE⟩;by_cases h1:j<n+1+1
        ·exact sg ho j h1
        ·exact rJ (hdq j (by omega) (by omega))
       |false=>
        simp only[↓zp,zw,aA,g0,g3,g4,g5,g6,hq0]
        exact⟨⟨n,rfl,hn,hok⟩,hE⟩
      |false=>
       cases s2:((c2.toNat:Int)==45)with
       |true=>
        have ho:okB c2:=by have:=eq_of_beq s2;unfold okB;omega
        simp only[↓zp,zw,aA,g0,g3,g4,g5,g6,d1,z0,hlt,hc,aF,hb32,he,w2,d2,hl2,hc2,z1,s1,s2,w3];refine bH (rC (base:=10) hb x (n+1+1) (by omega) hx) ?_;rintro _ _ ⟨⟨q,rfl,hq,hdq⟩,rfl⟩;have w4:=cQ (a:=n+1+1) (b:=q) (by omega)
        cases hq0:decide ((q:Int)>0)with
        |true=>
         simp only[↓zp,zw,aA,g0,g3,g4,g5,g6,w4,hq0];refine⟨⟨n+1+1+q,rfl,by omega,fun j hj=> ?_⟩,hE⟩;by_cases h1:j<n+1+1
         ·exact sg ho j h1
         ·exact rJ (hdq j (by omega) (by omega))
        |false=>
         simp only[↓zp,zw,aA,g0,g3,g4,g5,g6,hq0]
         exact⟨⟨n,rfl,hn,hok⟩,hE⟩
       |false=>
        simp only[↓zp,zw,aA,g0,g3,g4,g5,g6,d1,z0,hlt,hc,aF,hb32,he,w2,d2,hl2,hc2,z1,s1,s2];refine bH (rC (base:=10) hb x (n+1) (by omega) hx) ?_;rintro _ _ ⟨⟨q,rfl,hq,hdq⟩,rfl⟩;have w4:=cQ (a:=n+1) (b:=q) (by omega)
        cases hq0:decide ((q:Int)>0)with
        |true=>
         simp only[↓zp,zw,aA,g0,g3,g4,g5,g6,w4,hq0];refine⟨⟨n+1+q,rfl,by omega,fun j hj=> ?_⟩,hE⟩;by_cases h1:j<n+1
         ·exact hok1 j h1
         ·exact rJ (hdq j (by omega) (by omega))
        |false=>
         simp only[↓zp,zw,aA,g0,g3,g4,g5,g6,hq0];exact⟨⟨n,rfl,hn,hok⟩,hE⟩
     ·have d2:decide (((n+1:Nat):Int)<((x.length:Nat):Int))=false:=bD (by omega);simp only[↓zp,zw,aA,g0,g3,g4,g5,g6,d1,z0,hlt,hc,aF,hb32,he,w2,d2];refine bH (rC (base:=10) hb x (n+1) (by omega) hx) ?_;rintro _ _ ⟨⟨q,rfl,hq,hdq⟩,rfl⟩;have q0:q=0:=by omega
      subst q0;have hq0:decide (((0:Nat):Int)>0)=false:=by decide
      simp only[↓zp,zw,aA,g0,g3,g4,g5,g6,hq0]
      exact⟨⟨n,rfl,hn,hok⟩,hE⟩
    |false=>
     simp only[↓zp,zw,aA,g0,g3,g4,g5,g6,d1,z0,hlt,hc,aF,hb32,he];exact⟨⟨n,rfl,hn,hok⟩,hE⟩
   ·have d1:decide ((n:Int)<((x.length:Nat):Int))=false:=bD (by omega);simp only[↓zp,zw,aA,g0,g3,g4,g5,g6,d1];exact⟨⟨n,rfl,hn,hok⟩,hE⟩
end
end
section
theorem fE(z:Int):∃n:Nat,IntKind.u64.wrap z=(n:Int)∧n<18446744073709551616:=by
 have:0≤IntKind.u64.wrap z∧IntKind.u64.wrap z<18446744073709551616:=by
  simp[IntKind.wrap,IntKind.bits,IntKind.signed];omega
 exact⟨(IntKind.u64.wrap z).toNat,by omega,by omega⟩
structure NumT(x:List UInt8):Prop where
 few:x.length≤1000000
 two:1<x.length
 zero:∀c,x[0]? =some c→c.toNat=48
 dot:∀c,x[1]? =some c→c.toNat=46
 ok:∀j,j<x.length→okB (x.getD j 0)
def RF(x:List UInt8)(ρ:Env)(m i:Nat)(tr sd sg:Bool)(nd nm dp:Int):Prop:=
 ρ 0=.string ⟨x.toArray⟩∧ρ 2=.int .u64 (m:Int)∧ρ 3=.int .i64 0∧ρ 4=.bool false∧ρ 5=.bool tr∧ρ 6=.bool false∧ρ 7=.int .i64 (i:Int)∧ρ 8=.bool false∧ρ 9=.bool false∧ρ 10=.int .u64 10∧ρ 11=.int .i64 19∧ρ 12=.int .u8 101∧ρ 13=.bool sd∧ρ 14=.bool sg∧ρ 15=.int .i64 nd∧ρ 16=.int .i64 nm∧ρ 17=.int .i64 dp
def RFR(x:List UInt8)(h:Heap)(e:Ending)(h':Heap):Prop:=
 (∃(m n:Nat) (ex:Int) (tr ok:Bool),e=.returned (.tuple #[.int .u64 (m:Int),.int .i64 ex,.bool false,.bool tr,.bool false,.int .i64 (n:Int),.bool ok])∧m<18446744073709551616∧n≤x.length)∧h'=h
section
variable{h:Heap}{x:List UInt8}
theorem NumT.ne95(H:NumT x){i:Nat}(hi:i<x.length):(((x[i]'hi).toNat:Int)==95)=false:=by
 have:=(H.ok i hi).2;rw[List.getD_eq_getElem?_getD,aS hi]at this;simp at this⊢;omega
theorem special_c(H:NumT x):C aE 231 #[.string ⟨x.toArray⟩] h (Ret (.tuple #[.float .f64 0,.int .i64 0,.bool false]) h):=by
 have l0:0<x.length:=by have:=H.two;omega
 have e0:(((x.length:Nat):Int)==0)=false:=by rw[Bool.eq_false_iff];simp;intro e;rw[e]at l0;simp at l0
 obtain⟨c,hc⟩:∃c,x[0]'l0=c:=⟨_,rfl⟩;have h48:(c.toNat:Int)=48:=by have:=H.zero c (by rw[aS l0,hc]);omega
 have x0:idxS x 0=_:=oA l0 hc;refine C_in Tryz.func231 rfl rfl (by kernel_rfl) (aG rfl) ?_;simp only[↓zp,zw,aA,e0,x0,h48,Int.reduceBEq]
 first|trivial|exact⟨rfl,rfl⟩|exact⟨trivial,rfl⟩
theorem xP(H:NumT x):C aE 232 #[.string ⟨x.toArray⟩] h (RFR x h):=by
 have hx:=H.few;have l2:=H.two;have l0:0<x.length:=by omega
 obtain⟨c0,hc0⟩:∃c,x[0]'l0=c:=⟨_,rfl⟩;obtain⟨c1,hc1⟩:∃c,x[1]'l2=c:=⟨_,rfl⟩;have h48:(c0.toNat:Int)=48:=by have:=H.zero c0 (by rw[aS l0,hc0]);omega
 have h46:(c1.toNat:Int)=46:=by have:=H.dot c1 (by rw[aS l2,hc1]);omega
 refine C_in Tryz.func232 rfl rfl (by kernel_rfl) (aG rfl) ?_;simp only[↓zp,zw,aA];refine W_scopeN fun K' hK'=> ?_;refine fD 13 (fun ρ h'=>RF x ρ 0 0 false false false 0 0 0∧h'=h) (fun N hN=> ?_) ?_
 ·have d0:decide ((0:Int)≥((x.length:Nat):Int))=false:=bD (by omega);have q46:(Go.bits .or .u8 46 32==120)=false:=by decide
  have w2:IntKind.i64.wrap (0+2)=2:=by decide
  have w1:IntKind.i64.wrap (0+1)=1:=by decide
  have x0:idxS x 0=_:=oA l0 hc0;have x1:idxS x 1=_:=oA l2 hc1;by_cases hl:2<x.length
  ·have d2:decide ((2:Int)<((x.length:Nat):Int))=true:=bC (by omega);simp only[↓zp,zw,aA,cS,cT,d0,x0,h48,Int.reduceBEq,w2,d2,w1,x1,h46];refine bK (vN 46) ?_;simp only[↓zp,zw,aA,q46];exact hN _ _ ⟨by unfold RF;simp only[↓zp,zw,aA,and_self];try trivial,rfl⟩
  ·have d2:decide ((2:Int)<((x.length:Nat):Int))=false:=bD (by omega);simp only[↓zp,zw,aA,cS,cT,d0,x0,h48,Int.reduceBEq,w2,d2];exact hN _ _ ⟨by unfold RF;simp only[↓zp,zw,aA,and_self];try trivial,rfl⟩
 rintro ρ _ ⟨⟨g0,g2,g3,g4,g5,g6,g7,g8,g9,g10,g11,g12,g13,g14,g15,g16,g17⟩,hh⟩;rw[hh]
 (repeat rw[dC]);rw[dE]
 refine fD 1 (fun ρ h'=> ∃(m i:Nat) (tr sd sg:Bool) (nd nm dp:Int),RF x ρ m i tr sd sg nd nm dp∧m<18446744073709551616∧i≤x.length∧h'=h) (fun N hN=> ?_) ?_
 ·simp only[↓zp,zw,aA,cS,cT];refine⟨fun M ρ h'=> ∃(m i:Nat) (tr sd sg:Bool) (nd nm dp:Int),RF x ρ m i tr sd sg nd nm dp∧m<18446744073709551616∧i≤x.length∧h'=h∧M=x.length-i,x.length,⟨0,0,false,false,false,0,0,0,⟨g0,g2,g3,g4,g5,g6,g7,g8,g9,g10,g11,g12,g13,g14,g15,g16,g17⟩,by omega,by omega,rfl,by omega⟩,?_⟩;clear g0 g2 g3 g4 g5 g6 g7 g8 g9 g10 g11 g12 g13 g14 g15 g16 g17;rintro M ρ h1 ⟨m,i,tr,sd,sg,nd,nm,dp,⟨g0,g2,g3,g4,g5,g6,g7,g8,g9,g10,g11,g12,g13,g14,g15,g16,g17⟩,hm,hi,hh,hM⟩;rw[hh];by_cases hlt:i<x.length
  ·have d1:decide ((i:Int)<((x.length:Nat):Int))=true:=bC (by omega);have z0:(0:Int)≤(i:Int):=by omega
   have w1:=bI (a:=i) (by omega);have n95:=H.ne95 hlt;obtain⟨c,hc⟩:∃c,x[i]'hlt=c:=⟨_,rfl⟩;rw[hc]at n95;have hnext:x.length-(i+1)<M:=by omega
   cases k46:((c.toNat:Int)==46)with
   |true=>
    cases sd with
    |true=>
     simp only[↓zp,zw,aA,g0,g2,g3,g4,g5,g6,g7,g8,g9,g10,g11,g12,g13,g14,g15,g16,g17,d1,z0,hlt,hc,aF,n95,k46,Bool.true_beq]
     exact hN _ _ ⟨m,i,tr,true,sg,nd,nm,dp,by unfold RF;simp only[↓zp,zw,aA,g0,g2,g3,g4,g5,g6,g7,g8,g9,g10,g11,g12,g13,g14,g15,g16,g17,and_self];try trivial,hm,hi,rfl⟩
    |false=>
     simp only[↓zp,zw,aA,g0,g2,g3,g4,g5,g6,g7,g8,g9,g10,g11,g12,g13,g14,g15,g16,g17,d1,z0,hlt,hc,aF,n95,k46,Bool.true_beq,w1]
     exact⟨_,hnext,m,i+1,tr,true,sg,nd,nm,nd,by unfold RF;simp only[↓zp,zw,aA,g0,g2,g3,g4,g5,g6,g7,g8,g9,g10,g11,g12,g13,g14,g15,g16,g17,and_self];try trivial,hm,by omega,by trivial,by trivial⟩
   |false=>
    by_cases dg:48≤c.toNat∧c.toNat≤57
    ·have a1:decide ((48:Int)≤(c.toNat:Int))=true:=bC (by omega);have a2:decide ((c.toNat:Int)≤57)=true:=bC (by omega);have fin:(c.toNat=48∧nd=0)∨¬(c.toNat=48∧nd=0):=Classical.em _;rcases fin with⟨f1,f2⟩|f
     ·have b1:((c.toNat:Int)==48)=true:=by simp;omega
      have b2:(nd==0)=true:=by simp;omega
      simp only[↓zp,zw,aA,g0,g2,g3,g4,g5,g6,g7,g8,g9,g10,g11,g12,g13,g14,g15,g16,g17,d1,z0,hlt,hc,aF,n95,k46,Bool.true_beq,w1,a1,a2,b1,b2];exact⟨_,hnext,m,i+1,tr,sd,true,nd,nm,IntKind.i64.wrap (dp-1),by unfold RF;simp only[↓zp,zw,aA,g0,g2,g3,g4,g5,g6,g7,g8,g9,g10,g11,g12,g13,g14,g15,g16,g17,and_self];try trivial,hm,by omega,by trivial,by trivial⟩
     ·have w2:IntKind.u8.wrap ((c.toNat:Int)-48)=((c.toNat-48:Nat):Int):=zM (d:=48) dg.1;obtain⟨m1,e1,q1⟩:=fE ((m:Int)*10);obtain⟨m2,e2,q2⟩:=fE ((c.toNat-48:Nat):Int);obtain⟨m3,e3,q3⟩:=fE ((m1:Int)+(m2:Int));have go:∀(t:Bool),((c.toNat:Int)==48)=t→(t=true→(nd==0)=false)→∃n',n'<M∧True:=fun _ _ _=>⟨_,hnext,trivial⟩;clear go
      cases b1:((c.toNat:Int)==48)with
      |true=>
       have b2:(nd==0)=false:=by have:=eq_of_beq b1;simp;omega
       have b3:((c.toNat:Int) !=48)=false:=by simp[bne,b1]
       cases n19:decide (nm<19)with
       |true=>
        simp only[↓zp,zw,aA,g0,g2,g3,g4,g5,g6,g7,g8,g9,g10,g11,g12,g13,g14,g15,g16,g17,d1,z0,hlt,hc,aF,n95,k46,Bool.true_beq,w1,a1,a2,b1,b2,n19,w2,e1,e2,e3]
        exact⟨_,hnext,m3,i+1,tr,sd,true,IntKind.i64.wrap (nd+1),IntKind.i64.wrap (nm+1),dp,by unfold RF;simp only[↓zp,zw,aA,g0,g2,g3,g4,g5,g6,g7,g8,g9,g10,g11,g12,g13,g14,g15,g16,g17,and_self];try trivial,q3,by omega,by trivial,by trivial⟩
       |false=>
        simp only[↓zp,zw,aA,g0,g2,g3,g4,g5,g6,g7,g8,g9,g10,g11,g12,g13,g14,g15,g16,g17,d1,z0,hlt,hc,aF,n95,k46,Bool.true_beq,w1,a1,a2,b1,b2,n19,b3]
        exact⟨_,hnext,m,i+1,tr,sd,true,IntKind.i64.wrap (nd+1),nm,dp,by unfold RF;simp only[↓zp,zw,aA,g0,g2,g3,g4,g5,g6,g7,g8,g9,g10,g11,g12,g13,g14,g15,g16,g17,and_self];try trivial,hm,by omega,by trivial,by trivial⟩
      |false=>
       have b3:((c.toNat:Int) !=48)=true:=by simp[bne,b1]
       cases n19:decide (nm<19)with
       |true=>
        simp only[↓zp,zw,aA,g0,g2,g3,g4,g5,g6,g7,g8,g9,g10,g11,g12,g13,g14,g15,g16,g17,d1,z0,hlt,hc,aF,n95,k46,Bool.true_beq,w1,a1,a2,b1,n19,w2,e1,e2,e3]
        exact⟨_,hnext,m3,i+1,tr,sd,true,IntKind.i64.wrap (nd+1),IntKind.i64.wrap (nm+1),dp,by unfold RF;simp only[↓zp,zw,aA,g0,g2,g3,g4,g5,g6,g7,g8,g9,g10,g11,g12,g13,g14,g15,g16,g17,and_self];try trivial,q3,by omega,by trivial,by trivial⟩
       |false=>
        simp only[↓zp,zw,aA,g0,g2,g3,g4,g5,g6,g7,g8,g9,g10,g11,g12,g13,g14,g15,g16,g17,d1,z0,hlt,hc,aF,n95,k46,Bool.true_beq,w1,a1,a2,b1,n19,b3];exact⟨_,hnext,m,i+1,true,sd,true,IntKind.i64.wrap (nd+1),nm,dp,by unfold RF;simp only[↓zp,zw,aA,g0,g2,g3,g4,g5,g6,g7,g8,g9,g10,g11,g12,g13,g14,g15,g16,g17,and_self];try trivial,hm,by omega,by trivial,by trivial⟩
    ·have b16:((10:Int)==16)=false:=by decide
     have ex:∀{R:Prop},(decide ((48:Int)≤(c.toNat:Int))=true→decide ((c.toNat:Int)≤57)=false→R)→(decide ((48:Int)≤(c.toNat:Int))=false→R)→R:=fun{R} a b=>by
      by_cases q:48≤c.toNat
      ·exact a (bC (by omega)) (bD (by omega))
      ·exact b (bD (by omega))
     refine ex (fun a1 a2=> ?_) (fun a1=> ?_)
     ·simp only[↓zp,zw,aA,g0,g2,g3,g4,g5,g6,g7,g8,g9,g10,g11,g12,g13,g14,g15,g16,g17,d1,z0,hlt,hc,aF,n95,k46,Bool.true_beq,a1,a2,b16];exact hN _ _ ⟨m,i,tr,sd,sg,nd,nm,dp,by unfold RF;simp only[↓zp,zw,aA,g0,g2,g3,g4,g5,g6,g7,g8,g9,g10,g11,g12,g13,g14,g15,g16,g17,and_self];try trivial,hm,hi,rfl⟩
     ·simp only[↓zp,zw,aA,g0,g2,g3,g4,g5,g6,g7,g8,g9,g10,g11,g12,g13,g14,g15,g16,g17,d1,z0,hlt,hc,aF,n95,k46,Bool.true_beq,a1,b16];exact hN _ _ ⟨m,i,tr,sd,sg,nd,nm,dp,by unfold RF;simp only[↓zp,zw,aA,g0,g2,g3,g4,g5,g6,g7,g8,g9,g10,g11,g12,g13,g14,g15,g16,g17,and_self];try trivial,hm,hi,rfl⟩
  ·have d1:decide ((i:Int)<((x.length:Nat):Int))=false:=bD (by omega);simp only[↓zp,zw,aA,g0,g7,d1];exact hN _ _ ⟨m,i,tr,sd,sg,nd,nm,dp,by unfold RF;simp only[↓zp,zw,aA,g0,g2,g3,g4,g5,g6,g7,g8,g9,g10,g11,g12,g13,g14,g15,g16,g17,and_self];try trivial,hm,hi,rfl⟩
 rintro ρ _ ⟨m,i,tr,sd,sg,nd,nm,dp,⟨g0,g2,g3,g4,g5,g6,g7,g8,g9,g10,g11,g12,g13,g14,g15,g16,g17⟩,hm,hi,hh⟩;rw[hh]
 (repeat rw[dC]);rw[dE]
 have b16:((10:Int)==16)=false:=by decide
 cases sg with
 |false=>
  simp only[↓zp,zw,aA,g0,g2,g3,g4,g5,g6,g7,g8,g9,g10,g11,g12,g13,g14,g15,g16,g17,hK']
  exact⟨⟨m,i,0,tr,false,rfl,hm,hi⟩,rfl⟩
 |true=>
 refine fD 2 (fun ρ h'=> ∃dp,RF x ρ m i tr sd true nd nm dp∧h'=h) (fun N hN=> ?_) ?_
 ·cases sd with
  |true=>simp only[↓zp,zw,aA,cS,cT,g0,g2,g3,g4,g5,g6,g7,g8,g9,g10,g11,g12,g13,g14,g15,g16,g17];exact hN _ _ ⟨dp,by unfold RF;simp only[↓zp,zw,aA,g0,g2,g3,g4,g5,g6,g7,g8,g9,g10,g11,g12,g13,g14,g15,g16,g17,and_self];try trivial,rfl⟩
  |false=>simp only[↓zp,zw,aA,cS,cT,g0,g2,g3,g4,g5,g6,g7,g8,g9,g10,g11,g12,g13,g14,g15,g16,g17];exact hN _ _ ⟨nd,by unfold RF;simp only[↓zp,zw,aA,g0,g2,g3,g4,g5,g6,g7,g8,g9,g10,g11,g12,g13,g14,g15,g16,g17,and_self];try trivial,rfl⟩
 clear g0 g2 g3 g4 g5 g6 g7 g8 g9 g10 g11 g12 g13 g14 g15 g16 g17;rintro ρ _ ⟨dp,⟨g0,g2,g3,g4,g5,g6,g7,g8,g9,g10,g11,g12,g13,g14,g15,g16,g17⟩,hh⟩;rw[hh]
 (repeat rw[dC]);rw[dE]
 refine fD 1 (fun ρ h'=>RF x ρ m i tr sd true nd nm dp∧h'=h) (fun N hN=> ?_) ?_
 ·simp only[↓zp,zw,aA,cS,cT,g0,g2,g3,g4,g5,g6,g7,g8,g9,g10,g11,g12,g13,g14,g15,g16,g17,b16];exact hN _ _ ⟨by unfold RF;simp only[↓zp,zw,aA,g0,g2,g3,g4,g5,g6,g7,g8,g9,g10,g11,g12,g13,g14,g15,g16,g17,and_self];try trivial,rfl⟩
 clear g0 g2 g3 g4 g5 g6 g7 g8 g9 g10 g11 g12 g13 g14 g15 g16 g17;rintro ρ _ ⟨⟨g0,g2,g3,g4,g5,g6,g7,g8,g9,g10,g11,g12,g13,g14,g15,g16,g17⟩,hh⟩;rw[hh]
 (repeat rw[dC]);rw[dE]
 refine fD 1 (fun ρ h'=> ∃(i':Nat) (dp':Int),RF x ρ m i' tr sd true nd nm dp'∧i'≤x.length∧h'=h) (fun N hN=> ?_) ?_
 ·(repeat rw[cS]);rw[cT]
  rw[W_seq];refine fD 1 (fun ρ h'=>RF x ρ m i tr sd true nd nm dp∧(∃b,ρ 161=.bool b∧(b=true→i<x.length))∧h'=h) (fun N2 hN2=> ?_) ?_
  ·by_cases hlt:i<x.length
   ·have d1:decide ((i:Int)<((x.length:Nat):Int))=true:=bC (by omega);have z0:(0:Int)≤(i:Int):=by omega
    obtain⟨c,hc⟩:∃c,x[i]'hlt=c:=⟨_,rfl⟩;simp only[↓zp,zw,aA,cS,cT,g0,g2,g3,g4,g5,g6,g7,g8,g9,g10,g11,g12,g13,g14,g15,g16,g17,d1,z0,hlt,hc,aF];refine bK (vN _) ?_;simp only[↓zp,zw,aA,g0,g2,g3,g4,g5,g6,g7,g8,g9,g10,g11,g12,g13,g14,g15,g16,g17];exact hN2 _ _ ⟨by unfold RF;simp only[↓zp,zw,aA,g0,g2,g3,g4,g5,g6,g7,g8,g9,g10,g11,g12,g13,g14,g15,g16,g17,and_self];try trivial,⟨_,by simp only[↓zp,zw,aA];rfl,fun _=>hlt⟩,rfl⟩
   ·have d1:decide ((i:Int)<((x.length:Nat):Int))=false:=bD (by omega);simp only[↓zp,zw,aA,cS,cT,g0,g2,g3,g4,g5,g6,g7,g8,g9,g10,g11,g12,g13,g14,g15,g16,g17,d1];exact hN2 _ _ ⟨by unfold RF;simp only[↓zp,zw,aA,g0,g2,g3,g4,g5,g6,g7,g8,g9,g10,g11,g12,g13,g14,g15,g16,g17,and_self];try trivial,⟨false,by simp only[↓zp,zw,aA],fun h=>by cases h⟩,rfl⟩
  clear g0 g2 g3 g4 g5 g6 g7 g8 g9 g10 g11 g12 g13 g14 g15 g16 g17;rintro ρ _ ⟨⟨g0,g2,g3,g4,g5,g6,g7,g8,g9,g10,g11,g12,g13,g14,g15,g16,g17⟩,⟨b,g161,hb⟩,hh⟩;rw[hh]
  (repeat rw[dC]);rw[dE]
  cases b with
  |false=>simp only[↓zp,zw,aA,g0,g2,g3,g4,g5,g6,g7,g8,g9,g10,g11,g12,g13,g14,g15,g16,g17,g161,b16];exact hN _ _ ⟨i,dp,by unfold RF;simp only[↓zp,zw,aA,g0,g2,g3,g4,g5,g6,g7,g8,g9,g10,g11,g12,g13,g14,g15,g16,g17,and_self];try trivial,hi,rfl⟩
  |true=>
   have hlt:=hb rfl;have w1:=bI (a:=i) (by omega);have w2:=bI (a:=i+1) (by omega);refine Wcond_t g161 ?_;refine fD 4 (fun ρ h'=> ∃(i':Nat) (s:Int),RF x ρ m i' tr sd true nd nm dp∧ρ 19=.int .i64 s∧i'≤x.length∧h'=h) (fun N3 hN3=> ?_) ?_
   ·by_cases hl1:i+1<x.length
    ·have d1:decide (((i+1:Nat):Int)≥((x.length:Nat):Int))=false:=bD (by omega);have z1:(0:Int)≤((i+1:Nat):Int):=by omega
     obtain⟨c,hc⟩:∃c,x[i+1]'hl1=c:=⟨_,rfl⟩
     cases s1:((c.toNat:Int)==43)with
     |true=>
      simp only[↓zp,zw,aA,cS,cT,g0,g2,g3,g4,g5,g6,g7,g8,g9,g10,g11,g12,g13,g14,g15,g16,g17,w1,d1,z1,hl1,hc,aF,s1,w2]
      exact hN3 _ _ ⟨i+1+1,1,by unfold RF;simp only[↓zp,zw,aA,g0,g2,g3,g4,g5,g6,g7,g8,g9,g10,g11,g12,g13,g14,g15,g16,g17,and_self];try trivial,by simp only[↓zp,zw,aA],by omega,rfl⟩
     |false=>
      cases s2:((c.toNat:Int)==45)with
      |true=>
       simp only[↓zp,zw,aA,cS,cT,g0,g2,g3,g4,g5,g6,g7,g8,g9,g10,g11,g12,g13,g14,g15,g16,g17,w1,d1,z1,hl1,hc,aF,s1,s2,w2]
       exact hN3 _ _ ⟨i+1+1,-1,by unfold RF;simp only[↓zp,zw,aA,g0,g2,g3,g4,g5,g6,g7,g8,g9,g10,g11,g12,g13,g14,g15,g16,g17,and_self];try trivial,by simp only[↓zp,zw,aA],by omega,rfl⟩
      |false=>
       simp only[↓zp,zw,aA,cS,cT,g0,g2,g3,g4,g5,g6,g7,g8,g9,g10,g11,g12,g13,g14,g15,g16,g17,w1,d1,z1,hl1,hc,aF,s1,s2];exact hN3 _ _ ⟨i+1,1,by unfold RF;simp only[↓zp,zw,aA,g0,g2,g3,g4,g5,g6,g7,g8,g9,g10,g11,g12,g13,g14,g15,g16,g17,and_self];try trivial,by simp only[↓zp,zw,aA],by omega,rfl⟩
    ·have d1:decide (((i+1:Nat):Int)≥((x.length:Nat):Int))=true:=bC (by omega);simp only[↓zp,zw,aA,cS,cT,g0,g2,g3,g4,g5,g6,g7,g8,g9,g10,g11,g12,g13,g14,g15,g16,g17,w1,d1,hK'];exact⟨⟨m,i+1,0,tr,false,rfl,hm,by omega⟩,rfl⟩
   clear g0 g2 g3 g4 g5 g6 g7 g8 g9 g10 g11 g12 g13 g14 g15 g16 g17;rintro ρ _ ⟨i',s,⟨g0,g2,g3,g4,g5,g6,g7,g8,g9,g10,g11,g12,g13,g14,g15,g16,g17⟩,g19,hi',hh⟩;rw[hh]
   (repeat rw[dC]);rw[dE]
   by_cases hl:i'<x.length
   ·have d1:decide ((i':Int)≥((x.length:Nat):Int))=false:=bD (by omega);have z1:(0:Int)≤(i':Int):=by omega
    obtain⟨c,hc⟩:∃c,x[i']'hl=c:=⟨_,rfl⟩
    cases k1:decide ((c.toNat:Int)<48)with
    |true=>
     simp only[↓zp,zw,aA,g0,g2,g3,g4,g5,g6,g7,g8,g9,g10,g11,g12,g13,g14,g15,g16,g17,d1,z1,hl,hc,aF,k1,hK']
     exact⟨⟨m,i',0,tr,false,rfl,hm,hi'⟩,rfl⟩
    |false=>
     cases k2:decide ((c.toNat:Int)>57)with
     |true=>
      simp only[↓zp,zw,aA,g0,g2,g3,g4,g5,g6,g7,g8,g9,g10,g11,g12,g13,g14,g15,g16,g17,d1,z1,hl,hc,aF,k1,k2,hK']
      exact⟨⟨m,i',0,tr,false,rfl,hm,hi'⟩,rfl⟩
     |false=>
      simp only[↓zp,zw,aA,g0,g2,g3,g4,g5,g6,g7,g8,g9,g10,g11,g12,g13,g14,g15,g16,g17,d1,z1,hl,hc,aF,k1,k2];refine⟨fun M ρ h'=> ∃(i2:Nat) (e:Int),RF x ρ m i2 tr sd true nd nm dp∧ρ 19=.int .i64 s∧ρ 20=.int .i64 e∧i2≤x.length∧h'=h∧M=x.length-i2,x.length-i',⟨i',0,by unfold RF;simp only[↓zp,zw,aA,g0,g2,g3,g4,g5,g6,g7,g8,g9,g10,g11,g12,g13,g14,g15,g16,g17,and_self];try trivial,by simp only[↓zp,zw,aA,g19],by simp only[↓zp,zw,aA],hi',rfl,rfl⟩,?_⟩;clear g0 g2 g3 g4 g5 g6 g7 g8 g9 g10 g11 g12 g13 g14 g15 g16 g17 g19;rintro M ρ h1 ⟨i2,e,⟨g0,g2,g3,g4,g5,g6,g7,g8,g9,g10,g11,g12,g13,g14,g15,g16,g17⟩,g19,g20,hi2,hh,hM⟩;rw[hh];by_cases hl2:i2<x.length
      ·have d1:decide ((i2:Int)<((x.length:Nat):Int))=true:=bC (by omega);have z1:(0:Int)≤(i2:Int):=by omega
       have w1:=bI (a:=i2) (by omega);have n95:=H.ne95 hl2;obtain⟨c,hc⟩:∃c,x[i2]'hl2=c:=⟨_,rfl⟩;rw[hc]at n95
       cases k1:decide ((48:Int)≤(c.toNat:Int))with
       |true=>
        cases k2:decide ((c.toNat:Int)≤57)with
        |true=>
         cases k3:decide (e<10000)with
         |true=>
          simp only[↓zp,zw,aA,g0,g2,g3,g4,g5,g6,g7,g8,g9,g10,g11,g12,g13,g14,g15,g16,g17,g19,g20,d1,z1,hl2,hc,aF,k1,k2,k3,n95,w1]
          exact⟨x.length-(i2+1),by omega,i2+1,_,by unfold RF;simp only[↓zp,zw,aA,g0,g2,g3,g4,g5,g6,g7,g8,g9,g10,g11,g12,g13,g14,g15,g16,g17,and_self];try trivial,by trivial,by trivial,by omega,by trivial,by trivial⟩
         |false=>
          simp only[↓zp,zw,aA,g0,g2,g3,g4,g5,g6,g7,g8,g9,g10,g11,g12,g13,g14,g15,g16,g17,g19,g20,d1,z1,hl2,hc,aF,k1,k2,k3,n95,w1]
          exact⟨x.length-(i2+1),by omega,i2+1,e,by unfold RF;simp only[↓zp,zw,aA,g0,g2,g3,g4,g5,g6,g7,g8,g9,g10,g11,g12,g13,g14,g15,g16,g17,and_self];try trivial,by trivial,by trivial,by omega,by trivial,by trivial⟩
        |false=>
         simp only[↓zp,zw,aA,g0,g2,g3,g4,g5,g6,g7,g8,g9,g10,g11,g12,g13,g14,g15,g16,g17,g19,g20,d1,z1,hl2,hc,aF,k1,k2,n95]
         exact hN _ _ ⟨i2,IntKind.i64.wrap (dp+IntKind.i64.wrap (e*s)),by unfold RF;simp only[↓zp,zw,aA,g0,g2,g3,g4,g5,g6,g7,g8,g9,g10,g11,g12,g13,g14,g15,g16,g17,and_self];try trivial,hi2,rfl⟩
       |false=>
        simp only[↓zp,zw,aA,g0,g2,g3,g4,g5,g6,g7,g8,g9,g10,g11,g12,g13,g14,g15,g16,g17,g19,g20,d1,z1,hl2,hc,aF,k1,n95];exact hN _ _ ⟨i2,IntKind.i64.wrap (dp+IntKind.i64.wrap (e*s)),by unfold RF;simp only[↓zp,zw,aA,g0,g2,g3,g4,g5,g6,g7,g8,g9,g10,g11,g12,g13,g14,g15,g16,g17,and_self];try trivial,hi2,rfl⟩
      ·have d1:decide ((i2:Int)<((x.length:Nat):Int))=false:=bD (by omega);simp only[↓zp,zw,aA,g0,g2,g3,g4,g5,g6,g7,g8,g9,g10,g11,g12,g13,g14,g15,g16,g17,g19,g20,d1];exact hN _ _ ⟨i2,IntKind.i64.wrap (dp+IntKind.i64.wrap (e*s)),by unfold RF;simp only[↓zp,zw,aA,g0,g2,g3,g4,g5,g6,g7,g8,g9,g10,g11,g12,g13,g14,g15,g16,g17,and_self];try trivial,hi2,rfl⟩
   ·have d1:decide ((i':Int)≥((x.length:Nat):Int))=true:=bC (by omega);simp only[↓zp,zw,aA,g0,g2,g3,g4,g5,g6,g7,g8,g9,g10,g11,g12,g13,g14,g15,g16,g17,d1,hK'];exact⟨⟨m,i',0,tr,false,rfl,hm,hi'⟩,rfl⟩
 clear g0 g2 g3 g4 g5 g6 g7 g8 g9 g10 g11 g12 g13 g14 g15 g16 g17;rintro ρ _ ⟨i',dp',⟨g0,g2,g3,g4,g5,g6,g7,g8,g9,g10,g11,g12,g13,g14,g15,g16,g17⟩,hi',hh⟩;rw[hh]
 (repeat rw[dC]);rw[dE]
 cases hz:((m:Int) !=0)with
 |true=>
  simp only[↓zp,zw,aA,g0,g2,g3,g4,g5,g6,g7,g8,g9,g10,g11,g12,g13,g14,g15,g16,g17,hz,hK']
  exact⟨⟨m,i',_,tr,true,rfl,hm,hi'⟩,rfl⟩
 |false=>
  simp only[↓zp,zw,aA,g0,g2,g3,g4,g5,g6,g7,g8,g9,g10,g11,g12,g13,g14,g15,g16,g17,hz,hK'];exact⟨⟨m,i',0,tr,true,rfl,hm,hi'⟩,rfl⟩
end
end
section
section
variable{k:Env→Heap→Prop}{ρ:Env}{h:Heap}{dst:Option Nat}{R:Ending→Heap→Prop}{E:List PanicEntry→Heap→Prop}
theorem zE{x:Nat}{t:Tok R}(H:R (.returned (.int .u64 (x:Int))) h):WfnT aE (.func (.func 48) #[] #[]) #[.float .f64 x] h R t:=
 qJ (args:=[.float .f64 x]) (by kernel_rfl) _ (fun w hw=>⟨w,by
  rw[run_callFunc_extern Tryz.func48 (by kernel_rfl) (by kernel_rfl) (by kernel_rfl) (e:=Extern.MathFloatBits.float64bits) (by kernel_rfl)]
  rfl,Amb.refl w,hw⟩) H
theorem zC{x:Nat}{t:Tok R}(H:R (.returned (.float .f64 x)) h):WfnT aE (.func (.func 197) #[] #[]) #[.int .u64 (x:Int)] h R t:=
 qJ (args:=[.int .u64 (x:Int)]) (by kernel_rfl) _ (fun w hw=>⟨w,by
  rw[run_callFunc_extern Tryz.func197 (by kernel_rfl) (by kernel_rfl) (by kernel_rfl) (e:=Extern.MathFloatBits.float64frombits) (by kernel_rfl)]
  rfl,Amb.refl w,hw⟩) H
theorem lY{x:Nat}{t:Tok R}(H:R (.returned (.float .f64 x)) h):WfnT aE (.func (.func 241) #[] #[]) #[.int .u64 (x:Int)] h R t:=
 qJ (args:=[.int .u64 (x:Int)]) (by kernel_rfl) _ (fun w hw=>⟨w,by
  rw[run_callFunc_extern Tryz.func241 (by kernel_rfl) (by kernel_rfl) (by kernel_rfl) (e:=Extern.MathFloatBits.float64frombits) (by kernel_rfl)]
  rfl,Amb.refl w,hw⟩) H
end
end
section
open Ieee
theorem inf64:Ieee.double.infRung=0x7FF0000000000000:=by decide
theorem sw64:Ieee.double.signWeight=0x8000000000000000:=by decide
theorem bin64:Ieee.double.binade=0x10000000000000:=by decide
theorem mJ{x:Nat}(h:x≤0x7FF0000000000000):(∃m e,Ieee.double.read x=.number false m e∧(m=0→x=0))∨Ieee.double.read x=.infinity false:=by
 unfold Format.read;rw[inf64,sw64,bin64];have h1:x/0x8000000000000000=0:=Nat.div_eq_of_lt (by omega);have h2:x%0x8000000000000000=x:=Nat.mod_eq_of_lt (by omega);simp only[h1,h2];rcases Nat.lt_or_ge x 0x10000000000000 with h3|h3
 ·rw[if_pos h3];exact .inl ⟨_,_,rfl,fun h=>h⟩
 ·rw[if_neg (by omega)];rcases Nat.lt_or_ge x 0x7FF0000000000000 with h4|h4
  ·rw[if_pos h4];exact .inl ⟨_,_,rfl,fun h=>by omega⟩
  ·rw[if_neg (by omega),if_pos (by omega)];exact .inr rfl
theorem xO{x:Nat}(h:x<0x7FF0000000000000):∃m e,Ieee.double.read x=.number false m e∧(m=0→x=0):=by
 unfold Format.read;rw[inf64,sw64,bin64];have h1:x/0x8000000000000000=0:=Nat.div_eq_of_lt (by omega);have h2:x%0x8000000000000000=x:=Nat.mod_eq_of_lt (by omega);simp only[h1,h2];rcases Nat.lt_or_ge x 0x10000000000000 with h3|h3
 ·rw[if_pos h3];exact⟨_,_,rfl,fun h=>h⟩
 ·rw[if_neg (by omega),if_pos h];exact⟨_,_,rfl,fun h=>by omega⟩
theorem kO(m:Nat)(e:Int):Ieee.double.nearest false m e≤0x7FF0000000000000:=by
 unfold Format.nearest Format.word;rw[inf64];dsimp only;split
 ·simp
 ·simp only[aI,if_false];omega
theorem lL{x y:Nat}(hx:x≤0x7FF0000000000000)(hy:y<0x7FF0000000000000)(h0:0<y):∃r,Ieee.double.mul x y=some r∧r≤0x7FF0000000000000:=by
 unfold Format.mul;obtain⟨n,j,hn,hn0⟩:=xO hy;rw[hn];have hn1:n≠0:=fun h=>by have:=hn0 h;omega
 rcases mJ hx with⟨m,e,hm,_⟩|hm
 ·rw[hm];exact⟨_,rfl,kO _ _⟩
 ·rw[hm];refine⟨0x7FF0000000000000,?_,bA _⟩;simp only[Datum.product,if_neg hn1]
  rfl
theorem div_good{x y:Nat}(hx:x≤0x7FF0000000000000)(hy:y<0x7FF0000000000000)(h0:0<y):∃r,Ieee.double.div x y=some r∧r≤0x7FF0000000000000:=by
 unfold Format.div;obtain⟨n,j,hn,hn0⟩:=xO hy;rw[hn];have hn1:n≠0:=fun h=>by have:=hn0 h;omega
 rcases mJ hx with⟨m,e,hm,_⟩|hm
 ·rw[hm];simp only[Datum.quotient,if_neg hn1];exact⟨_,rfl,kO _ _⟩
 ·rw[hm];exact⟨0x7FF0000000000000,rfl,bA _⟩
end
def dnum:List Nat→Nat
 |[]=>0
 |d::l=>d*10^l.length+dnum l
def fV(k:Nat):List Nat→Nat
 |[]=>0
 |d::l=>(fV k l+d*2^k)/10
theorem oE(k:Nat):∀l:List Nat,fV k l=dnum l*2^k/10^l.length
 |[]=>by simp[fV,dnum]
 |d::l=>by
  have hp:0<10^l.length:=Nat.pow_pos (by decide);rw[fV,oE k l,dnum,aB,Nat.pow_succ,←Nat.div_div_eq_div_mul]
  congr 1
  rw[show(d*10^l.length+dnum l)*2^k=dnum l*2^k+d*2^k*10^l.length by rw[Nat.add_mul,Nat.add_comm,Nat.mul_right_comm],Nat.add_mul_div_right _ _ hp]
theorem qG:∀{l:List Nat},(∀d,d∈l→d≤9)→dnum l<10^l.length
 |[],_=>by simp[dnum]
 |d::l,h=>by
  have h1:=qG (l:=l) fun x hx=>h x (List.mem_cons_of_mem _ hx);have h2:d≤9:=h d (List.mem_cons_self ..);rw[dnum,aB,Nat.pow_succ];have h3:d*10^l.length≤9*10^l.length:=Nat.mul_le_mul_right _ h2;omega
theorem yS{k:Nat}{l:List Nat}(h:∀d,d∈l→d≤9):fV k l<2^k:=by
 rw[oE];have h1:=qG h;have hp:0<10^l.length:=Nat.pow_pos (by decide);have h2:0<2^k:=Nat.pow_pos (by decide);rw[Nat.div_lt_iff_lt_mul hp,Nat.mul_comm (2^k)];exact Nat.mul_lt_mul_of_pos_right h1 h2
def fS:List Nat→List Nat→Bool
 |_,[]=>false
 |[],_::_=>true
 |b::l,c::m=>if b=c then fS l m else decide (b<c)
theorem lI:∀{l m:List Nat},(∀d,d∈l→d≤9)→(∀d,d∈m→d≤9)→(m≠[]→m.getLast?≠some 0)→(fS l m=true↔dnum l*10^m.length<dnum m*10^l.length)
 |l,[],_,_,_=>by simp[fS,dnum]
 |[],c::m,_,hm,h0=>by
  simp only[fS,dnum,true_iff,aQ,aD,Nat.pow_zero,aP];clear lI;have h0:=h0 (by simp)
  have key:∀(m:List Nat) (c:Nat),(c::m).getLast?≠some 0→0<c*10^m.length+dnum m:=by
   intro m
   induction m with
   |nil=>intro c h;simp at h;simp[dnum];omega
   |cons d m ih=>
    intro c h;have:=ih d (by simpa[List.getLast?_cons_cons]using h);simp only[dnum];omega
  exact key m c h0
 |b::l,c::m,hl,hm,h0=>by
  have hl':∀d,d∈l→d≤9:=fun d h=>hl d (List.mem_cons_of_mem _ h);have hm':∀d,d∈m→d≤9:=fun d h=>hm d (List.mem_cons_of_mem _ h);have h1:=qG hl';have h2:=qG hm'
  have e1:dnum (b::l)*10^(c::m).length=10*(b*(10^l.length*10^m.length)+dnum l*10^m.length):=by
   simp only[dnum,aB,Nat.pow_succ];generalize 10^l.length=A;generalize 10^m.length=B
   grind
  have e2:dnum (c::m)*10^(b::l).length=10*(c*(10^l.length*10^m.length)+dnum m*10^l.length):=by
   simp only[dnum,aB,Nat.pow_succ];generalize 10^l.length=A;generalize 10^m.length=B
   grind
  have g1:dnum l*10^m.length<10^l.length*10^m.length:=Nat.mul_lt_mul_of_pos_right h1 (Nat.pow_pos (by decide));have g2:dnum m*10^l.length<10^l.length*10^m.length:=by rw[Nat.mul_comm (10^l.length)];exact Nat.mul_lt_mul_of_pos_right h2 (Nat.pow_pos (by decide))
  rw[e1,e2,fS];by_cases hbc:b=c
  ·subst hbc
   rw[if_pos rfl,lI hl' hm' (fun hne=>by
    have:=h0 (by simp)
    cases m with
    |nil=>exact absurd rfl hne
    |cons d m=>simpa[List.getLast?_cons_cons]using this)]
   omega
  ·rw[if_neg hbc];generalize 10^l.length*10^m.length=A at*;simp only[decide_eq_true_eq];constructor
   ·intro h;have:(b+1)*A≤c*A:=Nat.mul_le_mul_right _ h;rw[Nat.add_mul]at this;omega
   ·intro h;refine Nat.lt_of_not_le fun hcb=> ?_;have hcb:c+1≤b:=by omega
    have:(c+1)*A≤b*A:=Nat.mul_le_mul_right _ hcb;rw[Nat.add_mul]at this;omega
structure Cheat(k d:Nat)(c:List Nat):Prop where
 digs:∀x,x∈c→x≤9
 last:c≠[]→c.getLast?≠some 0
 num:dnum c=5^k
 len:c.length+d=k+1
 pos:1≤d
 lo:10^(d-1)≤2^k
 hi:2^k≤10^d
def jL(d:Nat)(c l:List Nat):Nat:=if fS l c then d-1 else d
theorem yX{k d:Nat}{c l:List Nat}(hc:Cheat k d c)(hl:∀x,x∈l→x≤9)(hd:10^(l.length-1)≤dnum l)(hn:l≠[]):
 fV k l<10^jL d c l∧(jL d c l≠0→10^(jL d c l-1)≤fV k l):=by
 have hp:0<10^l.length:=Nat.pow_pos (by decide);have h2:0<2^k:=Nat.pow_pos (by decide);have hpos:=hc.pos;have hless:=lI hl hc.digs hc.last;rw[hc.num]at hless;have e10:10^c.length*10^(d-1)=2^k*5^k:=by rw[←Nat.pow_add,←Nat.mul_pow,show c.length+(d-1)=k by have:=hc.len;omega]
 have key:fS l c=true↔dnum l*2^k<10^(d-1)*10^l.length:=by
  rw[hless];have hA:0<10^c.length:=Nat.pow_pos (by decide);constructor
  ·intro h;have:dnum l*10^c.length*2^k<5^k*10^l.length*2^k:=Nat.mul_lt_mul_of_pos_right h h2;have e3:5^k*10^l.length*2^k=10^(d-1)*10^l.length*10^c.length:=by grind
   rw[e3,Nat.mul_right_comm]at this;exact Nat.lt_of_mul_lt_mul_right this
  ·intro h;have:dnum l*2^k*10^c.length<10^(d-1)*10^l.length*10^c.length:=Nat.mul_lt_mul_of_pos_right h hA;have e3:10^(d-1)*10^l.length*10^c.length=5^k*10^l.length*2^k:=by grind
   rw[e3,Nat.mul_right_comm]at this;exact Nat.lt_of_mul_lt_mul_right this
 unfold jL;rw[oE]
 cases hL:fS l c with
 |true=>
  have hk:=key.1 hL;simp only[if_true];refine⟨by rw[Nat.div_lt_iff_lt_mul hp];exact hk,fun h0=> ?_⟩;rw[Nat.le_div_iff_mul_le hp]
  have e1:10^(d-1-1)*10^l.length=10^(d-1)*10^(l.length-1):=by
   have:0<l.length:=List.length_pos_iff.2 hn;rw[←Nat.pow_add,←Nat.pow_add];congr 1;omega
  rw[e1,Nat.mul_comm]
  exact Nat.mul_le_mul hd hc.lo
 |false=>
  have hk:¬(dnum l*2^k<10^(d-1)*10^l.length):=fun h=>by rw[key.2 h]at hL;cases hL
  simp only[aI,if_false];refine⟨?_,fun _=>by rw[Nat.le_div_iff_mul_le hp];omega⟩;have:=yS (k:=k) hl;rw[oE]at this;exact Nat.lt_of_lt_of_le this hc.hi
def dig(c:UInt8):Nat:=c.toNat-48
def cheatB(k:Nat)(x:Nat×List UInt8):Bool:=
 x.2.all (fun b=>decide (48≤b.toNat)&&decide (b.toNat≤57))&&((x.2.map dig).getLast? !=some 0)&&(dnum (x.2.map dig)==5^k)&&(x.2.length+x.1==k+1)
  &&decide (1≤x.1)&&decide (10^(x.1-1)≤2^k)&&decide (2^k≤10^x.1)&&decide (x.1≤19)
theorem Cheat.of{k:Nat}{x:Nat×List UInt8}(h:cheatB k x=true):Cheat k x.1 (x.2.map dig)∧(∀b,b∈x.2→48≤b.toNat∧b.toNat≤57)∧x.1≤19:=by
 simp only[cheatB,Bool.and_eq_true,List.all_eq_true,decide_eq_true_eq,bne_iff_ne,beq_iff_eq,ne_eq]at h;obtain⟨⟨⟨⟨⟨⟨⟨h1,h2⟩,h3⟩,h4⟩,h5⟩,h6⟩,h7⟩,h8⟩:=h;refine⟨⟨fun y hy=> ?_,fun _=>h2,h3,by simpa using h4,h5,h6,h7⟩,h1,h8⟩;obtain⟨b,hb,rfl⟩:=List.mem_map.1 hy;have:=(h1 b hb).2;unfold dig;omega
theorem cheat_all:(List.range 61).all (fun k=>k==0||(match Pinned.cheatRows[k]? with|some x=>cheatB k x|none=>false))=true:=by kernel_rfl
theorem cheat_rows{k:Nat}(h1:1≤k)(h2:k≤60):∃x,Pinned.cheatRows[k]? =some x∧Cheat k x.1 (x.2.map dig)∧(∀b,b∈x.2→48≤b.toNat∧b.toNat≤57)∧x.1≤19:=by
 have:=List.all_eq_true.1 cheat_all k (List.mem_range.2 (by omega));have hk:(k==0)=false:=by simp;omega
 rw[hk,Bool.false_or]at this
 cases hx:Pinned.cheatRows[k]? with
 |none=>rw[hx]at this;cases this
 |some x=>rw[hx]at this;exact⟨x,rfl,Cheat.of this⟩
end Go.Proofs.YtfmbepijhnaklaaGreatDoor
