/- Proved here: The mirror of the parser ends, and what it ends with is right | The mirror of the parser ends, and what it ends with is right | The mirror of the parser ends, and what it ends with is right. Conditions: what each statement names. -/
import Derived.Test.YtfmbepijhnaklaaGreatDoorK10
set_option maxRecDepth 100000
set_option maxHeartbeats 4000000
set_option linter.unusedSimpArgs false
set_option linter.unusedVariables false
set_option linter.defProp false
open Nat renaming reduceEqDiff → aA, le_of_ble_eq_true → aG, mul_one → aP, zero_mul → aQ, zero_add → aR, reduceBEq → aY, reduceAdd → aZ, le_refl → bA
open List renaming length_cons → aB, length_append → aC, length_nil → aD, map_toArray → aH, map_cons → aJ, map_nil → aK, perm_iff_count → aM, count_append → aO, getElem?_eq_getElem → aS, count_cons → aT, count_nil → aV
open Go.Proofs.Tryz renaming prog → aE
open Int renaming toNat_natCast → aF, toNat_zero → aN, toNat_one → aX
open Bool renaming false_eq_true → aI, eq_iff_iff → aW
open And renaming intro → aL
open Go.IntWalk renaming i64_in → aU
namespace Go.Proofs.YtfmbepijhnaklaaGreatDoor
section
section
variable{src:List UInt8}{T:List Tk}{n:Nat}{s:St}{F:List Nat}
theorem uI(hT:cN src T)(ih:Specs src T n)(hok:Ok src T s F)(hm:40*(T.length-s.i)+3≤n):TrR (iQ T (run T n) s) (Goal src T .parameters s F):=by
 have hc0:=hok.cnt;unfold iQ;refine TrR.want hT hok (x:=([40]:List UInt8)) (by simp) fun hx hok hfr=> ?_;refine ih.goL (.parLoop _ []) (F:=F) (hok.perm (aM.2 (by intro z;simp only[aO,aT,aV,Fn1.args,FnL.args];try omega))) (⟨hfr,.nil⟩) (by have hlt:=hok.lt;simp only[Fn1.rank,FnL.rank]at*;omega) fun a1 s1 hok x1 i1 c1 k=> ?_;have hc1:=hok.cnt;simp only[Fn1.lo,Fn1.sl,Fn1.Post,FnL.lo,FnL.sl,FnL.Post]at i1 c1 k
 try simp only[aC,aB,aD]at i1
 try simp only[aC,aB,aD]at c1
 try simp only[aC,aB,aD]at hc1
 exact⟨hok,x1,by simp only[Fn1.lo,FnL.lo];try omega,by simp only[aC,aB,aD,Fn1.sl,FnL.sl];try omega,k⟩
theorem qS(hT:cN src T)(pos:Nat)(l r:List Nat)(hpos:pos≤src.length)(hl:allK s.ns l (·==6))(hr:r=[]∨∃a,r=[a]∧hasK s.ns a (·==31))(hok:Ok src T s (l++r++F))(hc0:s.ns.length≤8*s.i+4):
 TrR (iH T pos (l++r) s) fun a s'=>Ok src T s' (a::F)∧s.ns<+:s'.ns∧s.i+1≤s'.i∧s'.ns.length+7≤s.ns.length+8*(s'.i-s.i)∧hasK s'.ns a (·==30):=by
 unfold iH;refine TrR.want hT hok (x:=([41]:List UInt8)) (by simp) fun hx hok hfr=> ?_;refine TrR.addL (F:=F) hT (hok.perm (aM.2 (by intro z;simp only[aO,aT,aV,Fn1.args,FnL.args];try omega))) ⟨((Shape.params hl hr)),.inr ⟨by first|(simp;done)|(simp;omega),rfl⟩,.inr ⟨by first|(simp;done)|(simp;omega),rfl⟩,hpos,(fun h=>by simp at h)⟩ (by first|omega|(simp only[aC,aB,aD];omega)) fun hok x1 y1=> ?_;have k:=y1;have hc1:=hok.cnt;simp only[aC,aB,aD]at hc1;exact⟨hok,x1,by simp,by simp;try omega,.of k rfl⟩
theorem t_parLoop(hT:cN src T)(ih:Specs src T n)(pos:Nat)(kids:List Nat)(hok:Ok src T s (kids++F))(hp:(Fn1.parLoop pos kids).Pre src T s)(hm:40*(T.length-s.i)+2≤n):TrR (mE T (run T n) pos kids s) (Goal src T (.parLoop pos kids) s F):=by
 have hc0:=hok.cnt;have hfr:=(hT.tk _ (dY hok.lt)).fr;obtain⟨hpos,hall⟩:=hp;unfold mE;refine TrR.ite (fun h=> ?_) (fun h=> ?_)
 ·have:=qS hT pos kids [] hpos hall (.inl rfl) (by simpa using hok) hc0;rw[List.append_nil]at this;refine this.mono fun a s1 ⟨hok,x1,i1,c1,k⟩=> ?_;exact⟨hok,x1,i1,by simp only[Fn1.sl];omega,k⟩
 ·dsimp only;refine TrR.take hT hok (x:=([46,46,46]:List UInt8)) (by simp) (fun hx hok=> ?_) (fun hx=> ?_)<;>try simp only[if_true,aI,if_false]
  ·refine TrR.name hT hok fun hxk hxn hxa hok=> ?_;refine TrR.add (F:=kids++F) hT (hok.perm (aM.2 (by intro z;simp only[aO,aT,aV,Fn1.args,FnL.args];try omega))) ⟨((Shape.rest hxn)),.inr ⟨by first|(simp;done)|(simp;omega),rfl⟩,.inr ⟨by first|(simp;done)|(simp;omega),rfl⟩,hfr,(fun h=>by simp at h)⟩ (by first|omega|(simp only[aC,aB,aD];omega)) fun hok x1 y1=> ?_;have k:=y1;have hc1:=hok.cnt;simp only[aC,aB,aD]at hc1;refine(qS (F:=F) hT pos kids [_] hpos (hall.mono x1) (.inr ⟨_,rfl,.of k rfl⟩) (hok.perm (aM.2 (by intro z;simp only[aO,aT,aV];try omega))) hok.cnt).mono fun a s2 ⟨hok,x2,i2,c2,k⟩=> ?_;simp only[aC,aB,aD]at i2 c2;exact⟨hok,x1.trans x2,by simp only[Fn1.lo];omega,by simp only[Fn1.sl];omega,k⟩
  ·refine TrR.name hT hok fun hxk hxn hxa hok=> ?_;refine TrR.add (F:=kids++F) hT (hok.perm (aM.2 (by intro z;simp only[aO,aT,aV,Fn1.args,FnL.args];try omega))) ⟨((Shape.name hxn)),.inr ⟨by first|(simp;done)|(simp;omega),rfl⟩,.inr ⟨by first|(simp;done)|(simp;omega),rfl⟩,hfr,(fun _=>hxa)⟩ (by first|omega|(simp only[aC,aB,aD];omega)) fun hok x1 y1=> ?_;have k:=y1;have hc1:=hok.cnt;simp only[aC,aB,aD]at hc1;have hall1:=(hall.mono x1).snoc (.of k rfl);have hok1:=hok.perm (G:=kids++[s.ns.length]++F) (aM.2 (by intro z;simp only[aO,aT,aV];try omega));refine TrR.ite (fun h=> ?_) (fun h=> ?_)
   ·have:=qS hT pos _ [] hpos hall1 (.inl rfl) (by simpa using hok1) hok.cnt;rw[List.append_nil]at this;refine this.mono fun a s2 ⟨hok,x2,i2,c2,k⟩=> ?_;simp only[aC,aB,aD]at i2 c2;exact⟨hok,x1.trans x2,by simp only[Fn1.lo];omega,by simp only[Fn1.sl];omega,k⟩
   ·refine TrR.want hT hok (x:=([44]:List UInt8)) (by simp) fun hx hok _=> ?_;refine TrR.ite (fun h=>trivial) (fun h=> ?_);refine ih.goL (.parLoop pos (kids++[s.ns.length])) (F:=F) (hok.perm (aM.2 (by intro z;simp only[aO,aT,aV,Fn1.args,FnL.args];try omega))) (⟨hpos,hall1⟩) (by have hlt:=hok.lt;simp only[Fn1.rank,FnL.rank]at*;omega) fun a2 s2 hok x2 i2 c2 k2=> ?_;have hc2:=hok.cnt;simp only[Fn1.lo,Fn1.sl,Fn1.Post,FnL.lo,FnL.sl,FnL.Post]at i2 c2 k2
    try simp only[aC,aB,aD]at i2
    try simp only[aC,aB,aD]at c2
    try simp only[aC,aB,aD]at hc2
    exact⟨hok,(x1.trans x2),by simp only[Fn1.lo,FnL.lo];try omega,by simp only[aC,aB,aD,Fn1.sl,FnL.sl];try omega,k2⟩
theorem uK(hT:cN src T)(ih:Specs src T n)(inn:Bool)(hok:Ok src T s F)(hm:40*(T.length-s.i)+18≤n):TrR (iS T (run T n) inn s) (Goal src T (.assignment inn) s F):=by
 have hc0:=hok.cnt;have hfr:=(hT.tk _ (dY hok.lt)).fr;unfold iS;refine TrR.ite (fun ha=> ?_) (fun ha=> ?_)
 ·refine TrR.bind (TrR.mono (R:=fun a s'=>Ok src T s' (a::F)∧s.ns<+:s'.ns∧s.i+1≤s'.i∧s'.ns.length+5≤s.ns.length+8*(s'.i-s.i)+1∧hasK s'.ns a (·==30)) ?_ ?_)
  ·refine TrR.ite (fun h=> ?_) (fun h=> ?_)
   ·refine ih.goL0 (.parameters) rfl hok trivial (by have hlt:=hok.lt;simp only[Fn1.rank,FnL.rank]at*;omega) fun a1 s1 hok x1 i1 c1 k=> ?_;have hc1:=hok.cnt;simp only[Fn1.lo,Fn1.sl,Fn1.Post,FnL.lo,FnL.sl,FnL.Post]at i1 c1 k
    try simp only[aC,aB,aD]at i1
    try simp only[aC,aB,aD]at c1
    try simp only[aC,aB,aD]at hc1
    exact⟨hok,x1,by omega,c1,k⟩
   ·refine TrR.name hT hok fun hxk hxn hxa hok=> ?_;refine TrR.add (F:=F) hT (hok.perm (aM.2 (by intro z;simp only[aO,aT,aV,Fn1.args,FnL.args];try omega))) ⟨((Shape.name hxn)),.inr ⟨by first|(simp;done)|(simp;omega),rfl⟩,.inr ⟨by first|(simp;done)|(simp;omega),rfl⟩,hfr,(fun _=>hxa)⟩ (by first|omega|(simp only[aC,aB,aD];omega)) fun hok x1 y1=> ?_;have k:=y1;have hc1:=hok.cnt;simp only[aC,aB,aD]at hc1;refine TrR.addL (F:=F) hT (hok.perm (aM.2 (by intro z;simp only[aO,aT,aV,Fn1.args,FnL.args];try omega))) ⟨((Shape.params (l:=[s.ns.length]) (r:=[]) (.cons (.of k rfl) .nil) (.inl rfl))),.inr ⟨by first|(simp;done)|(simp;omega),rfl⟩,.inr ⟨by first|(simp;done)|(simp;omega),rfl⟩,hfr,(fun h=>by simp at h)⟩ (by first|omega|(simp only[aC,aB,aD];omega)) fun hok x2 y2=> ?_;have k2:=y2;have hc2:=hok.cnt;simp only[aC,aB,aD]at hc2;exact⟨hok,x1.trans x2,by simp,by simp;try omega,.of k2 rfl⟩
  ·intro p s0 ⟨hok,x0,i0,c0,kp⟩;have hc00:=hok.cnt;refine TrR.want hT hok (x:=([61,62]:List UInt8)) (by simp) fun hx hok _=> ?_;refine TrR.ite (fun h=> ?_) (fun h=> ?_)
   ·refine ih.go0 (.block) rfl hok trivial (by have hlt:=hok.lt;simp only[Fn1.rank,FnL.rank]at*;omega) fun a1 s1 hok x1 i1 c1 kb=> ?_;have hc1:=hok.cnt;simp only[Fn1.lo,Fn1.sl,Fn1.Post,FnL.lo,FnL.sl,FnL.Post]at i1 c1 kb
    try simp only[aC,aB,aD]at i1
    try simp only[aC,aB,aD]at c1
    try simp only[aC,aB,aD]at hc1
    have kp:=kp.mono x1;refine TrR.addL (F:=F) hT (hok.perm (aM.2 (by intro z;simp only[aO,aT,aV,Fn1.args,FnL.args];try omega))) ⟨((Shape.arrow kp (kb.imp fun _ h=>by simp[h]))),.inr ⟨by first|(simp;done)|(simp;omega),rfl⟩,.inr ⟨by first|(simp;done)|(simp;omega),rfl⟩,hfr,(fun h=>by simp at h)⟩ (by first|omega|(simp only[aC,aB,aD];omega)) fun hok x2 y2=> ?_;have k:=y2;have hc2:=hok.cnt;simp only[aC,aB,aD]at hc2;exact⟨hok,x0.trans (x1.trans x2),by simp only[Fn1.lo];omega,by simp only[Fn1.sl,aC,aB,aD];omega,.of k rfl⟩
   ·refine ih.go0 (.assignment inn) rfl hok trivial (by have hlt:=hok.lt;simp only[Fn1.rank,FnL.rank]at*;omega) fun a1 s1 hok x1 i1 c1 kb=> ?_;have hc1:=hok.cnt;simp only[Fn1.lo,Fn1.sl,Fn1.Post,FnL.lo,FnL.sl,FnL.Post]at i1 c1 kb
    try simp only[aC,aB,aD]at i1
    try simp only[aC,aB,aD]at c1
    try simp only[aC,aB,aD]at hc1
    have kp:=kp.mono x1;refine TrR.addL (F:=F) hT (hok.perm (aM.2 (by intro z;simp only[aO,aT,aV,Fn1.args,FnL.args];try omega))) ⟨((Shape.arrow kp (kb.imp fun _ h=>by simp[h]))),.inr ⟨by first|(simp;done)|(simp;omega),rfl⟩,.inr ⟨by first|(simp;done)|(simp;omega),rfl⟩,hfr,(fun h=>by simp at h)⟩ (by first|omega|(simp only[aC,aB,aD];omega)) fun hok x2 y2=> ?_;have k:=y2;have hc2:=hok.cnt;simp only[aC,aB,aD]at hc2;exact⟨hok,x0.trans (x1.trans x2),by simp only[Fn1.lo];omega,by simp only[Fn1.sl,aC,aB,aD];omega,.of k rfl⟩
 ·refine ih.go0 (.conditional inn) rfl hok trivial (by have hlt:=hok.lt;simp only[Fn1.rank,FnL.rank]at*;omega) fun a1 s1 hok x1 i1 c1 ke=> ?_;have hc1:=hok.cnt;simp only[Fn1.lo,Fn1.sl,Fn1.Post,FnL.lo,FnL.sl,FnL.Post]at i1 c1 ke
  try simp only[aC,aB,aD]at i1
  try simp only[aC,aB,aD]at c1
  try simp only[aC,aB,aD]at hc1
  refine TrR.ite (fun h=> ?_) (fun h=> ?_)
  ·exact⟨hok,x1,i1,c1,ke⟩
  ·have hop:(nowT T s1).txt≠[]:=fun e=>by simp[e]at h
   have hmem:assignOps.contains (nowT T s1).txt=true:=by
    cases hcn:assignOps.contains (nowT T s1).txt
    ·simp only[hcn,Bool.not_false,Bool.or_true,not_true]at h
    ·rfl
   have hk0:(nowT T s1).kind≠0:=by rcases gC rfl hop with e|e<;>omega
   refine TrR.target hok ke (fun kt=> ?_) trivial;simp only[if_true];refine TrR.skip hT hok (hk0) fun hok=> ?_;refine TrR.pos hok ke fun q hq=> ?_;refine ih.go0 (.assignment inn) rfl hok trivial (by have hlt:=hok.lt;simp only[Fn1.rank,FnL.rank]at*;omega) fun a2 s2 hok x2 i2 c2 kb=> ?_;have hc2:=hok.cnt;simp only[Fn1.lo,Fn1.sl,Fn1.Post,FnL.lo,FnL.sl,FnL.Post]at i2 c2 kb
   try simp only[aC,aB,aD]at i2
   try simp only[aC,aB,aD]at c2
   try simp only[aC,aB,aD]at hc2
   have kt:=kt.mono x2;refine TrR.addL (F:=F) hT (hok.perm (aM.2 (by intro z;simp only[aO,aT,aV,Fn1.args,FnL.args];try omega))) ⟨((Shape.assign hmem kt kb)),.inr ⟨by first|(simp;done)|(simp;omega),rfl⟩,.inr ⟨by first|(simp;done)|(simp;omega),rfl⟩,hq,(fun h=>by simp at h)⟩ (by first|omega|(simp only[aC,aB,aD];omega)) fun hok x3 y3=> ?_;have k:=y3;have hc3:=hok.cnt;simp only[aC,aB,aD]at hc3;exact⟨hok,((x1.trans x2).trans x3),by simp only[Fn1.lo,FnL.lo];try omega,by simp only[aC,aB,aD,Fn1.sl,FnL.sl];try omega,.of k rfl⟩
theorem sM(hT:cN src T)(ih:Specs src T n)(inn:Bool)(hok:Ok src T s F)(hm:40*(T.length-s.i)+16≤n):TrR (iC T (run T n) inn s) (Goal src T (.conditional inn) s F):=by
 have hc0:=hok.cnt;unfold iC;refine ih.go0 (.binary 1 inn) rfl hok ((bA 1)) (by have hlt:=hok.lt;simp only[Fn1.rank,FnL.rank]at*;omega) fun a1 s1 hok x1 i1 c1 ke=> ?_;have hc1:=hok.cnt;simp only[Fn1.lo,Fn1.sl,Fn1.Post,FnL.lo,FnL.sl,FnL.Post]at i1 c1 ke
 try simp only[aC,aB,aD]at i1
 try simp only[aC,aB,aD]at c1
 try simp only[aC,aB,aD]at hc1
 refine TrR.take hT hok (x:=([63]:List UInt8)) (by simp) (fun hx hok=> ?_) (fun hx=> ?_)<;>try simp only[if_true,aI,if_false]
 ·refine ih.go0 (.assignment true) rfl hok trivial (by have hlt:=hok.lt;simp only[Fn1.rank,FnL.rank]at*;omega) fun a2 s2 hok x2 i2 c2 ka=> ?_;have hc2:=hok.cnt;simp only[Fn1.lo,Fn1.sl,Fn1.Post,FnL.lo,FnL.sl,FnL.Post]at i2 c2 ka
  try simp only[aC,aB,aD]at i2
  try simp only[aC,aB,aD]at c2
  try simp only[aC,aB,aD]at hc2
  have ke:=ke.mono x2;refine TrR.want hT hok (x:=([58]:List UInt8)) (by simp) fun hx hok _=> ?_;refine TrR.pos hok ke fun q hq=> ?_;refine ih.go0 (.assignment inn) rfl hok trivial (by have hlt:=hok.lt;simp only[Fn1.rank,FnL.rank]at*;omega) fun a3 s3 hok x3 i3 c3 kb=> ?_;have hc3:=hok.cnt;simp only[Fn1.lo,Fn1.sl,Fn1.Post,FnL.lo,FnL.sl,FnL.Post]at i3 c3 kb
  try simp only[aC,aB,aD]at i3
  try simp only[aC,aB,aD]at c3
  try simp only[aC,aB,aD]at hc3
  have ke:=ke.mono x3;have ka:=ka.mono x3;refine TrR.addL (F:=F) hT (hok.perm (aM.2 (by intro z;simp only[aO,aT,aV,Fn1.args,FnL.args];try omega))) ⟨((Shape.cond ke ka kb)),.inr ⟨by first|(simp;done)|(simp;omega),rfl⟩,.inr ⟨by first|(simp;done)|(simp;omega),rfl⟩,hq,(fun h=>by simp at h)⟩ (by first|omega|(simp only[aC,aB,aD];omega)) fun hok x4 y4=> ?_;have k:=y4;have hc4:=hok.cnt;simp only[aC,aB,aD]at hc4;exact⟨hok,(((x1.trans x2).trans x3).trans x4),by simp only[Fn1.lo,FnL.lo];try omega,by simp only[aC,aB,aD,Fn1.sl,FnL.sl];try omega,.of k rfl⟩
 ·exact⟨hok,x1,i1,c1,ke⟩
theorem t_binary(hT:cN src T)(ih:Specs src T n)(least:Nat)(inn:Bool)(hl:1≤least)(hok:Ok src T s F)(hm:40*(T.length-s.i)+14≤n):TrR (nX (run T n) least inn s) (Goal src T (.binary least inn) s F):=by
 have hc0:=hok.cnt;unfold nX;refine ih.go0 (.power) rfl hok trivial (by have hlt:=hok.lt;simp only[Fn1.rank,FnL.rank]at*;omega) fun a1 s1 hok x1 i1 c1 ke=> ?_;have hc1:=hok.cnt;simp only[Fn1.lo,Fn1.sl,Fn1.Post,FnL.lo,FnL.sl,FnL.Post]at i1 c1 ke
 try simp only[aC,aB,aD]at i1
 try simp only[aC,aB,aD]at c1
 try simp only[aC,aB,aD]at hc1
 refine ih.goL (.binLoop least inn a1) (F:=F) (hok.perm (aM.2 (by intro z;simp only[aO,aT,aV,Fn1.args,FnL.args];try omega))) (⟨ke,hl⟩) (by have hlt:=hok.lt;simp only[Fn1.rank,FnL.rank]at*;omega) fun a2 s2 hok x2 i2 c2 k=> ?_;have hc2:=hok.cnt;simp only[Fn1.lo,Fn1.sl,Fn1.Post,FnL.lo,FnL.sl,FnL.Post]at i2 c2 k
 try simp only[aC,aB,aD]at i2
 try simp only[aC,aB,aD]at c2
 try simp only[aC,aB,aD]at hc2
 exact⟨hok,(x1.trans x2),by simp only[Fn1.lo,FnL.lo];try omega,by simp only[aC,aB,aD,Fn1.sl,FnL.sl];try omega,k⟩
theorem uL{x:List UInt8}(h:1≤dX x)(h1:(x==([124,124]:List UInt8))=false)(h2:(x==([38,38]:List UInt8))=false):binOps.contains x=true:=by
 unfold dX at h
 repeat' split at h
 all_goals first
  |omega
  |(simp_all;done)
  |(simp only[List.contains_cons,List.contains_nil,Bool.or_eq_true,beq_iff_eq,Bool.or_false]at*;rename_i hx;rcases hx with hx|hx|hx|hx|hx|hx<;>subst hx<;>rfl)
  |(simp only[List.contains_cons,List.contains_nil,Bool.or_eq_true,beq_iff_eq,Bool.or_false]at*;rename_i hx;rcases hx with hx|hx|hx|hx<;>subst hx<;>rfl)
  |(simp only[List.contains_cons,List.contains_nil,Bool.or_eq_true,beq_iff_eq,Bool.or_false]at*;rename_i hx;rcases hx with hx|hx|hx<;>subst hx<;>rfl)
  |(simp only[List.contains_cons,List.contains_nil,Bool.or_eq_true,beq_iff_eq,Bool.or_false]at*;rename_i hx;rcases hx with hx|hx<;>subst hx<;>rfl)
  |(simp only[beq_iff_eq]at*;rename_i hx;subst hx;rfl)
theorem t_binLoop(hT:cN src T)(ih:Specs src T n)(least:Nat)(inn:Bool)(a:Nat)(hok:Ok src T s ([a]++F))(hp:(Fn1.binLoop least inn a).Pre src T s)(hm:40*(T.length-s.i)≤n):TrR (mG T (run T n) least inn a s) (Goal src T (.binLoop least inn a) s F):=by
 have hc0:=hok.cnt;obtain⟨ka,hl⟩:=hp;unfold mG;refine TrR.ite (fun h=> ?_) (fun h=> ?_)
 ·exact⟨hok,List.prefix_refl _,by simp[Fn1.lo],by simp[Fn1.sl],ka⟩
 ·simp only[Bool.or_eq_true,not_or,decide_eq_true_eq]at h;have hs:1≤dX (nowT T s).txt:=by omega
  have hop:(nowT T s).txt≠[]:=fun e=>by rw[e]at hs;exact absurd hs (by decide)
  have hk0:(nowT T s).kind≠0:=by rcases gC rfl hop with e|e<;>omega
  refine TrR.skip hT hok (hk0) fun hok=> ?_;refine ih.go0 (.binary _ inn) rfl hok ((by simp only[Fn1.Pre];omega)) (by have hlt:=hok.lt;simp only[Fn1.rank,FnL.rank]at*;omega) fun a1 s1 hok x1 i1 c1 kb=> ?_;have hc1:=hok.cnt;simp only[Fn1.lo,Fn1.sl,Fn1.Post,FnL.lo,FnL.sl,FnL.Post]at i1 c1 kb
  try simp only[aC,aB,aD]at i1
  try simp only[aC,aB,aD]at c1
  try simp only[aC,aB,aD]at hc1
  have ka:=ka.mono x1;refine TrR.pos hok ka fun q hq=> ?_;refine TrR.bind (TrR.mono (R:=fun c s'=>Ok src T s' (c::F)∧s1.ns<+:s'.ns∧s'.i=s1.i∧s'.ns.length=s1.ns.length+1∧hasK s'.ns c cG) ?_ ?_)
  ·cases h1:(nowT T s).txt==([124,124]:List UInt8)
   ·cases h2:(nowT T s).txt==([38,38]:List UInt8)
    ·simp only[aI,if_false];refine TrR.addL (F:=F) hT (hok.perm (aM.2 (by intro z;simp only[aO,aT,aV,Fn1.args,FnL.args];try omega))) ⟨((Shape.binary (uL hs h1 h2) ka kb)),.inr ⟨by first|(simp;done)|(simp;omega),rfl⟩,.inr ⟨by first|(simp;done)|(simp;omega),rfl⟩,hq,(fun h=>by simp at h)⟩ (by first|omega|(simp only[aC,aB,aD];omega)) fun hok x2 y2=> ?_;have k:=y2;have hc2:=hok.cnt;simp only[aC,aB,aD]at hc2;exact⟨hok,x2,rfl,by simp,.of k rfl⟩
    ·simp only[aI,if_false,if_true];refine TrR.addL (F:=F) hT (hok.perm (aM.2 (by intro z;simp only[aO,aT,aV,Fn1.args,FnL.args];try omega))) ⟨((Shape.two (.inr (.inl rfl)) ka kb)),.inr ⟨by first|(simp;done)|(simp;omega),rfl⟩,.inr ⟨by first|(simp;done)|(simp;omega),rfl⟩,hq,(fun h=>by simp at h)⟩ (by first|omega|(simp only[aC,aB,aD];omega)) fun hok x2 y2=> ?_;have k:=y2;have hc2:=hok.cnt;simp only[aC,aB,aD]at hc2;exact⟨hok,x2,rfl,by simp,.of k rfl⟩
   ·simp only[if_true];refine TrR.addL (F:=F) hT (hok.perm (aM.2 (by intro z;simp only[aO,aT,aV,Fn1.args,FnL.args];try omega))) ⟨((Shape.two (.inr (.inr rfl)) ka kb)),.inr ⟨by first|(simp;done)|(simp;omega),rfl⟩,.inr ⟨by first|(simp;done)|(simp;omega),rfl⟩,hq,(fun h=>by simp at h)⟩ (by first|omega|(simp only[aC,aB,aD];omega)) fun hok x2 y2=> ?_;have k:=y2;have hc2:=hok.cnt;simp only[aC,aB,aD]at hc2;exact⟨hok,x2,rfl,by simp,.of k rfl⟩
  ·intro c s2 ⟨hok,x2,i2,c2,kc⟩;have hc2:=hok.cnt;have hl2:=hok.lt;refine(ih.e (.binLoop least inn c) s2 F hok ⟨kc,hl⟩ (by simp only[Fn1.rank];omega)).mono fun a3 s3 ⟨hok,x3,i3,c3,k3⟩=> ?_;simp only[Fn1.lo,Fn1.sl]at i3 c3;exact⟨hok,x1.trans (x2.trans x3),by simp only[Fn1.lo];omega,by simp only[Fn1.sl];omega,k3⟩
theorem t_power(hT:cN src T)(ih:Specs src T n)(hok:Ok src T s F)(hm:40*(T.length-s.i)+12≤n):TrR (pV T (run T n) s) (Goal src T .power s F):=by
 have hc0:=hok.cnt;unfold pV;refine ih.go0 (.unary) rfl hok trivial (by have hlt:=hok.lt;simp only[Fn1.rank,FnL.rank]at*;omega) fun a1 s1 hok x1 i1 c1 ke=> ?_;have hc1:=hok.cnt;simp only[Fn1.lo,Fn1.sl,Fn1.Post,FnL.lo,FnL.sl,FnL.Post]at i1 c1 ke
 try simp only[aC,aB,aD]at i1
 try simp only[aC,aB,aD]at c1
 try simp only[aC,aB,aD]at hc1
 refine TrR.ite (fun h=> ?_) (fun h=> ?_)
 ·exact⟨hok,x1,i1,c1,ke⟩
 ·refine TrR.ite (fun h=>trivial) (fun h2=> ?_);have hx:isT T s1 ([42,42]:List UInt8)=true:=by simpa using h
  have hk0:=rQ hx (by simp);refine TrR.skip hT hok (hk0) fun hok=> ?_;refine TrR.pos hok ke fun q hq=> ?_;refine ih.go0 (.power) rfl hok trivial (by have hlt:=hok.lt;simp only[Fn1.rank,FnL.rank]at*;omega) fun a2 s2 hok x2 i2 c2 kb=> ?_;have hc2:=hok.cnt;simp only[Fn1.lo,Fn1.sl,Fn1.Post,FnL.lo,FnL.sl,FnL.Post]at i2 c2 kb
  try simp only[aC,aB,aD]at i2
  try simp only[aC,aB,aD]at c2
  try simp only[aC,aB,aD]at hc2
  have ke:=ke.mono x2;refine TrR.addL (F:=F) hT (hok.perm (aM.2 (by intro z;simp only[aO,aT,aV,Fn1.args,FnL.args];try omega))) ⟨((Shape.binary (show binOps.contains ([42,42]:List UInt8)=true by decide) ke kb)),.inr ⟨by first|(simp;done)|(simp;omega),rfl⟩,.inr ⟨by first|(simp;done)|(simp;omega),rfl⟩,hq,(fun h=>by simp at h)⟩ (by first|omega|(simp only[aC,aB,aD];omega)) fun hok x3 y3=> ?_;have k:=y3;have hc3:=hok.cnt;simp only[aC,aB,aD]at hc3;exact⟨hok,((x1.trans x2).trans x3),by simp only[Fn1.lo,FnL.lo];try omega,by simp only[aC,aB,aD,Fn1.sl,FnL.sl];try omega,.of k rfl⟩
theorem unaryT_ne(h:nC T s=true):(nowT T s).txt≠[]:=fun e=>by unfold nC at h;rw[e]at h;exact absurd h (by decide)
theorem t_unary(hT:cN src T)(ih:Specs src T n)(hok:Ok src T s F)(hm:40*(T.length-s.i)+10≤n):TrR (pT T (run T n) s) (Goal src T .unary s F):=by
 have hc0:=hok.cnt;have hfr:=(hT.tk _ (dY hok.lt)).fr;unfold pT;refine TrR.ite (fun h=> ?_) (fun h=> ?_)
 ·have hop:=unaryT_ne h;have hk0:(nowT T s).kind≠0:=by rcases gC rfl hop with e|e<;>omega
  refine TrR.skip hT hok (hk0) fun hok=> ?_;refine ih.go0 (.unary) rfl hok trivial (by have hlt:=hok.lt;simp only[Fn1.rank,FnL.rank]at*;omega) fun a1 s1 hok x1 i1 c1 ke=> ?_;have hc1:=hok.cnt;simp only[Fn1.lo,Fn1.sl,Fn1.Post,FnL.lo,FnL.sl,FnL.Post]at i1 c1 ke
  try simp only[aC,aB,aD]at i1
  try simp only[aC,aB,aD]at c1
  try simp only[aC,aB,aD]at hc1
  refine TrR.addL (F:=F) hT (hok.perm (aM.2 (by intro z;simp only[aO,aT,aV,Fn1.args,FnL.args];try omega))) ⟨((Shape.unary (by rw[←qQ hop];exact h) ke)),.inr ⟨by first|(simp;done)|(simp;omega),rfl⟩,.inr ⟨by first|(simp;done)|(simp;omega),rfl⟩,hfr,(fun h=>by simp at h)⟩ (by first|omega|(simp only[aC,aB,aD];omega)) fun hok x2 y2=> ?_;have k:=y2;have hc2:=hok.cnt;simp only[aC,aB,aD]at hc2;exact⟨hok,(x1.trans x2),by simp only[Fn1.lo,FnL.lo];try omega,by simp only[aC,aB,aD,Fn1.sl,FnL.sl];try omega,.of k rfl⟩
 ·refine TrR.ite (fun h=> ?_) (fun h=> ?_)
  ·have hx:(nowT T s).txt=([43,43]:List UInt8)∨(nowT T s).txt=([45,45]:List UInt8):=by simpa[isT]using h
   have hop:(nowT T s).txt≠[]:=by rcases hx with e|e<;>rw[e]<;>simp
   have hk0:(nowT T s).kind≠0:=by rcases gC rfl hop with e|e<;>omega
   refine TrR.skip hT hok (hk0) fun hok=> ?_;refine ih.go0 (.unary) rfl hok trivial (by have hlt:=hok.lt;simp only[Fn1.rank,FnL.rank]at*;omega) fun a1 s1 hok x1 i1 c1 ke=> ?_;have hc1:=hok.cnt;simp only[Fn1.lo,Fn1.sl,Fn1.Post,FnL.lo,FnL.sl,FnL.Post]at i1 c1 ke
   try simp only[aC,aB,aD]at i1
   try simp only[aC,aB,aD]at c1
   try simp only[aC,aB,aD]at hc1
   refine TrR.target hok ke (fun kt=> ?_) trivial;simp only[if_true];refine TrR.addL (F:=F) hT (hok.perm (aM.2 (by intro z;simp only[aO,aT,aV,Fn1.args,FnL.args];try omega))) ⟨((Shape.prepost (.inl rfl) (by rw[←qQ hop];exact hx) kt)),.inr ⟨by first|(simp;done)|(simp;omega),rfl⟩,.inr ⟨by first|(simp;done)|(simp;omega),rfl⟩,hfr,(fun h=>by simp at h)⟩ (by first|omega|(simp only[aC,aB,aD];omega)) fun hok x2 y2=> ?_;have k:=y2;have hc2:=hok.cnt;simp only[aC,aB,aD]at hc2;exact⟨hok,(x1.trans x2),by simp only[Fn1.lo,FnL.lo];try omega,by simp only[aC,aB,aD,Fn1.sl,FnL.sl];try omega,.of k rfl⟩
  ·refine ih.go0 (.member) rfl hok trivial (by have hlt:=hok.lt;simp only[Fn1.rank,FnL.rank]at*;omega) fun a1 s1 hok x1 i1 c1 ke=> ?_;have hc1:=hok.cnt;simp only[Fn1.lo,Fn1.sl,Fn1.Post,FnL.lo,FnL.sl,FnL.Post]at i1 c1 ke
   try simp only[aC,aB,aD]at i1
   try simp only[aC,aB,aD]at c1
   try simp only[aC,aB,aD]at hc1
   refine TrR.ite (fun h=> ?_) (fun h=> ?_)
   ·have hx:(nowT T s1).txt=([43,43]:List UInt8)∨(nowT T s1).txt=([45,45]:List UInt8):=by simp only[Bool.and_eq_true,Bool.or_eq_true]at h;simpa[isT]using h.1
    have hop:(nowT T s1).txt≠[]:=by rcases hx with e|e<;>rw[e]<;>simp
    have hk0:(nowT T s1).kind≠0:=by rcases gC rfl hop with e|e<;>omega
    refine TrR.target hok ke (fun kt=> ?_) trivial;simp only[if_true];refine TrR.skip hT hok (hk0) fun hok=> ?_;refine TrR.pos hok ke fun q hq=> ?_;refine TrR.addL (F:=F) hT (hok.perm (aM.2 (by intro z;simp only[aO,aT,aV,Fn1.args,FnL.args];try omega))) ⟨((Shape.prepost (.inr rfl) (by rw[←qQ hop];exact hx) kt)),.inr ⟨by first|(simp;done)|(simp;omega),rfl⟩,.inr ⟨by first|(simp;done)|(simp;omega),rfl⟩,hq,(fun h=>by simp at h)⟩ (by first|omega|(simp only[aC,aB,aD];omega)) fun hok x2 y2=> ?_;have k:=y2;have hc2:=hok.cnt;simp only[aC,aB,aD]at hc2;exact⟨hok,(x1.trans x2),by simp only[Fn1.lo,FnL.lo];try omega,by simp only[aC,aB,aD,Fn1.sl,FnL.sl];try omega,.of k rfl⟩
   ·exact⟨hok,x1,i1,c1,ke⟩
theorem zX(hT:cN src T)(ih:Specs src T n)(hok:Ok src T s F)(hm:40*(T.length-s.i)+22≤n):TrR (kL T (run T n) s) (Goal src T .argument s F):=by
 have hc0:=hok.cnt;have hfr:=(hT.tk _ (dY hok.lt)).fr;unfold kL;refine TrR.take hT hok (x:=([46,46,46]:List UInt8)) (by simp) (fun hx hok=> ?_) (fun hx=> ?_)<;>try simp only[if_true,aI,if_false]
 ·refine ih.go0 (.assignment true) rfl hok trivial (by have hlt:=hok.lt;simp only[Fn1.rank,FnL.rank]at*;omega) fun a1 s1 hok x1 i1 c1 ke=> ?_;have hc1:=hok.cnt;simp only[Fn1.lo,Fn1.sl,Fn1.Post,FnL.lo,FnL.sl,FnL.Post]at i1 c1 ke
  try simp only[aC,aB,aD]at i1
  try simp only[aC,aB,aD]at c1
  try simp only[aC,aB,aD]at hc1
  refine TrR.addL (F:=F) hT (hok.perm (aM.2 (by intro z;simp only[aO,aT,aV,Fn1.args,FnL.args];try omega))) ⟨((Shape.one (.inl rfl) ke)),.inr ⟨by first|(simp;done)|(simp;omega),rfl⟩,.inr ⟨by first|(simp;done)|(simp;omega),rfl⟩,hfr,(fun h=>by simp at h)⟩ (by first|omega|(simp only[aC,aB,aD];omega)) fun hok x2 y2=> ?_;have k:=y2;have hc2:=hok.cnt;simp only[aC,aB,aD]at hc2;exact⟨hok,(x1.trans x2),by simp only[Fn1.lo,FnL.lo];try omega,by simp only[aC,aB,aD,Fn1.sl,FnL.sl];try omega,.of k rfl⟩
 ·refine ih.goL0 (.assignment true) rfl hok trivial (by have hlt:=hok.lt;simp only[Fn1.rank,FnL.rank]at*;omega) fun a1 s1 hok x1 i1 c1 ke=> ?_;have hc1:=hok.cnt;simp only[Fn1.lo,Fn1.sl,Fn1.Post,FnL.lo,FnL.sl,FnL.Post]at i1 c1 ke
  try simp only[aC,aB,aD]at i1
  try simp only[aC,aB,aD]at c1
  try simp only[aC,aB,aD]at hc1
  exact⟨hok,x1,by simp only[Fn1.lo,FnL.lo];try omega,by simp only[aC,aB,aD,Fn1.sl,FnL.sl];try omega,ke.imp fun _ h=>exprK_arg h⟩
theorem xD(hT:cN src T)(ih:Specs src T n)(hok:Ok src T s F)(hm:40*(T.length-s.i)≤n):TrR (iI T (run T n) s) (zG src T .arguments s F):=by
 have hc0:=hok.cnt;unfold iI;refine TrR.want hT hok (x:=([40]:List UInt8)) (by simp) fun hx hok _=> ?_;refine TrR.take hT hok (x:=([41]:List UInt8)) (by simp) (fun hx hok=> ?_) (fun hx=> ?_)<;>try simp only[if_true,aI,if_false]
 ·exact⟨hok,List.prefix_refl _,by simp only[FnL.lo];try omega,by simp only[FnL.sl];try omega,.nil⟩
 ·refine ih.go0 (.argument) rfl hok trivial (by have hlt:=hok.lt;simp only[Fn1.rank,FnL.rank]at*;omega) fun a1 s1 hok x1 i1 c1 ke=> ?_;have hc1:=hok.cnt;simp only[Fn1.lo,Fn1.sl,Fn1.Post,FnL.lo,FnL.sl,FnL.Post]at i1 c1 ke
  try simp only[aC,aB,aD]at i1
  try simp only[aC,aB,aD]at c1
  try simp only[aC,aB,aD]at hc1
  refine ih.golL (.argLoop [a1]) (F:=F) (hok.perm (aM.2 (by intro z;simp only[aO,aT,aV,Fn1.args,FnL.args];try omega))) ((allK.cons ke .nil)) (by have hlt:=hok.lt;simp only[Fn1.rank,FnL.rank]at*;omega) fun a2 s2 hok x2 i2 c2 k=> ?_;have hc2:=hok.cnt;simp only[Fn1.lo,Fn1.sl,Fn1.Post,FnL.lo,FnL.sl,FnL.Post]at i2 c2 k
  try simp only[aC,aB,aD]at i2
  try simp only[aC,aB,aD]at c2
  try simp only[aC,aB,aD]at hc2
  exact⟨hok,(x1.trans x2),by simp only[Fn1.lo,FnL.lo];try omega,by simp only[aC,aB,aD,Fn1.sl,FnL.sl];try omega,k⟩
theorem t_argLoop(hT:cN src T)(ih:Specs src T n)(kids:List Nat)(hok:Ok src T s (kids++F))(hp:(FnL.argLoop kids).Pre s)(hm:40*(T.length-s.i)≤n):TrR (jW T (run T n) kids s) (zG src T (.argLoop kids) s F):=by
 have hc0:=hok.cnt;have hall:allK s.ns kids argK:=hp;unfold jW;refine TrR.take hT hok (x:=([44]:List UInt8)) (by simp) (fun hx hok=> ?_) (fun hx=> ?_)<;>try simp only[if_true,aI,if_false]
 ·refine ih.go0 (.argument) rfl hok trivial (by have hlt:=hok.lt;simp only[Fn1.rank,FnL.rank]at*;omega) fun a1 s1 hok x1 i1 c1 ke=> ?_;have hc1:=hok.cnt;simp only[Fn1.lo,Fn1.sl,Fn1.Post,FnL.lo,FnL.sl,FnL.Post]at i1 c1 ke
  try simp only[aC,aB,aD]at i1
  try simp only[aC,aB,aD]at c1
  try simp only[aC,aB,aD]at hc1
  have hall:=hall.mono x1;refine ih.golL (.argLoop (kids++[a1])) (F:=F) (hok.perm (aM.2 (by intro z;simp only[aO,aT,aV,Fn1.args,FnL.args];try omega))) ((hall.snoc ke)) (by have hlt:=hok.lt;simp only[Fn1.rank,FnL.rank]at*;omega) fun a2 s2 hok x2 i2 c2 k=> ?_;have hc2:=hok.cnt;simp only[Fn1.lo,Fn1.sl,Fn1.Post,FnL.lo,FnL.sl,FnL.Post]at i2 c2 k
  try simp only[aC,aB,aD]at i2
  try simp only[aC,aB,aD]at c2
  try simp only[aC,aB,aD]at hc2
  exact⟨hok,(x1.trans x2),by simp only[Fn1.lo,FnL.lo];try omega,by simp only[aC,aB,aD,Fn1.sl,FnL.sl];try omega,k⟩
 ·refine TrR.want hT hok (x:=([41]:List UInt8)) (by simp) fun hx hok _=> ?_;exact⟨hok,List.prefix_refl _,by simp only[FnL.lo];try omega,by simp only[FnL.sl];try omega,hall⟩
theorem t_maker(hT:cN src T)(ih:Specs src T n)(hok:Ok src T s F)(hm:40*(T.length-s.i)+6≤n):TrR (pW T (run T n) s) (Goal src T .maker s F):=by
 have hc0:=hok.cnt;unfold pW;refine TrR.want hT hok (x:=([110,101,119]:List UInt8)) (by simp) fun hx hok hfr=> ?_;refine TrR.bind (TrR.mono (R:=fun c s'=>Ok src T s' (c::F)∧s.ns<+:s'.ns∧s.i+2≤s'.i∧s'.ns.length+5≤s.ns.length+8*(s'.i-(s.i+1))+1∧hasK s'.ns c cG) ?_ ?_)
 ·refine TrR.ite (fun h=> ?_) (fun h=> ?_)
  ·refine ih.goL0 (.maker) rfl hok trivial (by have hlt:=hok.lt;simp only[Fn1.rank,FnL.rank]at*;omega) fun a1 s1 hok x1 i1 c1 k=> ?_;have hc1:=hok.cnt;simp only[Fn1.lo,Fn1.sl,Fn1.Post,FnL.lo,FnL.sl,FnL.Post]at i1 c1 k
   try simp only[aC,aB,aD]at i1
   try simp only[aC,aB,aD]at c1
   try simp only[aC,aB,aD]at hc1
   exact⟨hok,x1,by omega,c1,k⟩
  ·refine ih.goL0 (.primary) rfl hok trivial (by have hlt:=hok.lt;simp only[Fn1.rank,FnL.rank]at*;omega) fun a1 s1 hok x1 i1 c1 k=> ?_;have hc1:=hok.cnt;simp only[Fn1.lo,Fn1.sl,Fn1.Post,FnL.lo,FnL.sl,FnL.Post]at i1 c1 k
   try simp only[aC,aB,aD]at i1
   try simp only[aC,aB,aD]at c1
   try simp only[aC,aB,aD]at hc1
   exact⟨hok,x1,by omega,c1,k⟩
 ·intro c s0 ⟨hok,x0,i0,c0,kc⟩;have hc00:=hok.cnt;refine ih.go (.tail c false) (F:=F) (hok.perm (aM.2 (by intro z;simp only[aO,aT,aV,Fn1.args,FnL.args];try omega))) (kc) (by have hlt:=hok.lt;simp only[Fn1.rank,FnL.rank]at*;omega) fun a1 s1 hok x1 i1 c1 ke=> ?_;have hc1:=hok.cnt;simp only[Fn1.lo,Fn1.sl,Fn1.Post,FnL.lo,FnL.sl,FnL.Post]at i1 c1 ke
  try simp only[aC,aB,aD]at i1
  try simp only[aC,aB,aD]at c1
  try simp only[aC,aB,aD]at hc1
  refine TrR.ite (fun h=> ?_) (fun h=> ?_)
  ·refine ih.gol0 (.arguments) rfl hok trivial (by have hlt:=hok.lt;simp only[Fn1.rank,FnL.rank]at*;omega) fun a2 s2 hok x2 i2 c2 kl=> ?_;have hc2:=hok.cnt;simp only[Fn1.lo,Fn1.sl,Fn1.Post,FnL.lo,FnL.sl,FnL.Post]at i2 c2 kl
   try simp only[aC,aB,aD]at i2
   try simp only[aC,aB,aD]at c2
   try simp only[aC,aB,aD]at hc2
   have ke:=ke.mono x2;refine TrR.addL (F:=F) hT (hok.perm (aM.2 (by intro z;simp only[aO,aT,aV,Fn1.args,FnL.args];try omega))) ⟨((Shape.call (.inr rfl) ke kl)),.inr ⟨by first|(simp;done)|(simp;omega),rfl⟩,.inr ⟨by first|(simp;done)|(simp;omega),rfl⟩,hfr,(fun h=>by simp at h)⟩ (by first|omega|(simp only[aC,aB,aD];omega)) fun hok x3 y3=> ?_;have k:=y3;have hc3:=hok.cnt;simp only[aC,aB,aD]at hc3;exact⟨hok,x0.trans (x1.trans (x2.trans x3)),by simp only[Fn1.lo];omega,by simp only[Fn1.sl,aC,aB,aD];omega,.of k rfl⟩
  ·refine TrR.addL (F:=F) hT (hok.perm (aM.2 (by intro z;simp only[aO,aT,aV,Fn1.args,FnL.args];try omega))) ⟨((Shape.call (.inr rfl) ke .nil)),.inr ⟨by first|(simp;done)|(simp;omega),rfl⟩,.inr ⟨by first|(simp;done)|(simp;omega),rfl⟩,hfr,(fun h=>by simp at h)⟩ (by first|omega|(simp only[aC,aB,aD];omega)) fun hok x2 y2=> ?_;have k:=y2;have hc2:=hok.cnt;simp only[aC,aB,aD]at hc2;exact⟨hok,x0.trans (x1.trans x2),by simp only[Fn1.lo];omega,by simp only[Fn1.sl,aC,aB,aD];omega,.of k rfl⟩
theorem t_tail(hT:cN src T)(ih:Specs src T n)(e:Nat)(calls:Bool)(ke:hasK s.ns e cG)(hok:Ok src T s ([e]++F))(hm:40*(T.length-s.i)+1≤n):TrR (uS T (run T n) e calls s) (Goal src T (.tail e calls) s F):=by
 have hc0:=hok.cnt;unfold uS;refine TrR.take hT hok (x:=([46]:List UInt8)) (by simp) (fun hx hok=> ?_) (fun hx=> ?_)<;>try simp only[if_true,aI,if_false]
 ·refine TrR.ite (fun h=>trivial) (fun h=> ?_);have htk:=hT.tk _ (dY hok.lt);have hk0:(nowT T {s with i:=s.i+1}).kind≠0:=by omega
  have hw:(nmB (nowT T {s with i:=s.i+1}).text||gN (nowT T {s with i:=s.i+1}).text)=true:=by
   rcases Nat.lt_or_ge 1 (nowT T {s with i:=s.i+1}).kind with h2|h2
   ·simp[htk.word (by omega)]
   ·simp[(htk.name (by omega)).1]
  refine TrR.skip hT hok (hk0) fun hok=> ?_;refine TrR.pos hok ke fun q hq=> ?_;refine TrR.add (F:=F) hT (hok.perm (aM.2 (by intro z;simp only[aO,aT,aV,Fn1.args,FnL.args];try omega))) ⟨((Shape.dot hw ke)),.inr ⟨by first|(simp;done)|(simp;omega),rfl⟩,.inr ⟨by first|(simp;done)|(simp;omega),rfl⟩,hq,(fun h=>by simp at h)⟩ (by first|omega|(simp only[aC,aB,aD];omega)) fun hok x1 y1=> ?_;have k:=y1;have hc1:=hok.cnt;simp only[aC,aB,aD]at hc1;refine ih.goL (.tail _ calls) (F:=F) (hok.perm (aM.2 (by intro z;simp only[aO,aT,aV,Fn1.args,FnL.args];try omega))) ((.of k rfl)) (by have hlt:=hok.lt;simp only[Fn1.rank,FnL.rank]at*;omega) fun a2 s2 hok x2 i2 c2 k2=> ?_;have hc2:=hok.cnt;simp only[Fn1.lo,Fn1.sl,Fn1.Post,FnL.lo,FnL.sl,FnL.Post]at i2 c2 k2
  try simp only[aC,aB,aD]at i2
  try simp only[aC,aB,aD]at c2
  try simp only[aC,aB,aD]at hc2
  exact⟨hok,(x1.trans x2),by simp only[Fn1.lo,FnL.lo];try omega,by simp only[aC,aB,aD,Fn1.sl,FnL.sl];try omega,k2⟩
 ·refine TrR.take hT hok (x:=([91]:List UInt8)) (by simp) (fun hx hok=> ?_) (fun hx=> ?_)<;>try simp only[if_true,aI,if_false]
  ·refine ih.go0 (.expression true) rfl hok trivial (by have hlt:=hok.lt;simp only[Fn1.rank,FnL.rank]at*;omega) fun a1 s1 hok x1 i1 c1 kk=> ?_;have hc1:=hok.cnt;simp only[Fn1.lo,Fn1.sl,Fn1.Post,FnL.lo,FnL.sl,FnL.Post]at i1 c1 kk
   try simp only[aC,aB,aD]at i1
   try simp only[aC,aB,aD]at c1
   try simp only[aC,aB,aD]at hc1
   have ke:=ke.mono x1;refine TrR.want hT hok (x:=([93]:List UInt8)) (by simp) fun hx hok _=> ?_;refine TrR.pos hok ke fun q hq=> ?_;refine TrR.add (F:=F) hT (hok.perm (aM.2 (by intro z;simp only[aO,aT,aV,Fn1.args,FnL.args];try omega))) ⟨((Shape.two (.inl rfl) ke kk)),.inr ⟨by first|(simp;done)|(simp;omega),rfl⟩,.inr ⟨by first|(simp;done)|(simp;omega),rfl⟩,hq,(fun h=>by simp at h)⟩ (by first|omega|(simp only[aC,aB,aD];omega)) fun hok x2 y2=> ?_;have k:=y2;have hc2:=hok.cnt;simp only[aC,aB,aD]at hc2;refine ih.goL (.tail _ calls) (F:=F) (hok.perm (aM.2 (by intro z;simp only[aO,aT,aV,Fn1.args,FnL.args];try omega))) ((.of k rfl)) (by have hlt:=hok.lt;simp only[Fn1.rank,FnL.rank]at*;omega) fun a3 s3 hok x3 i3 c3 k2=> ?_;have hc3:=hok.cnt;simp only[Fn1.lo,Fn1.sl,Fn1.Post,FnL.lo,FnL.sl,FnL.Post]at i3 c3 k2
   try simp only[aC,aB,aD]at i3
   try simp only[aC,aB,aD]at c3
   try simp only[aC,aB,aD]at hc3
   exact⟨hok,((x1.trans x2).trans x3),by simp only[Fn1.lo,FnL.lo];try omega,by simp only[aC,aB,aD,Fn1.sl,FnL.sl];try omega,k2⟩
  ·refine TrR.ite (fun h=> ?_) (fun h=> ?_)
   ·refine TrR.pos hok ke fun q hq=> ?_;refine ih.gol0 (.arguments) rfl hok trivial (by have hlt:=hok.lt;simp only[Fn1.rank,FnL.rank]at*;omega) fun a1 s1 hok x1 i1 c1 kl=> ?_;have hc1:=hok.cnt;simp only[Fn1.lo,Fn1.sl,Fn1.Post,FnL.lo,FnL.sl,FnL.Post]at i1 c1 kl
    try simp only[aC,aB,aD]at i1
    try simp only[aC,aB,aD]at c1
    try simp only[aC,aB,aD]at hc1
    have ke:=ke.mono x1;refine TrR.add (F:=F) hT (hok.perm (aM.2 (by intro z;simp only[aO,aT,aV,Fn1.args,FnL.args];try omega))) ⟨((Shape.call (.inl rfl) ke kl)),.inr ⟨by first|(simp;done)|(simp;omega),rfl⟩,.inr ⟨by first|(simp;done)|(simp;omega),rfl⟩,hq,(fun h=>by simp at h)⟩ (by first|omega|(simp only[aC,aB,aD];omega)) fun hok x2 y2=> ?_;have k:=y2;have hc2:=hok.cnt;simp only[aC,aB,aD]at hc2;refine ih.goL (.tail _ calls) (F:=F) (hok.perm (aM.2 (by intro z;simp only[aO,aT,aV,Fn1.args,FnL.args];try omega))) ((.of k rfl)) (by have hlt:=hok.lt;simp only[Fn1.rank,FnL.rank]at*;omega) fun a3 s3 hok x3 i3 c3 k2=> ?_;have hc3:=hok.cnt;simp only[Fn1.lo,Fn1.sl,Fn1.Post,FnL.lo,FnL.sl,FnL.Post]at i3 c3 k2
    try simp only[aC,aB,aD]at i3
    try simp only[aC,aB,aD]at c3
    try simp only[aC,aB,aD]at hc3
    exact⟨hok,((x1.trans x2).trans x3),by simp only[Fn1.lo,FnL.lo];try omega,by simp only[aC,aB,aD,Fn1.sl,FnL.sl];try omega,k2⟩
   ·exact⟨hok,List.prefix_refl _,by simp[Fn1.lo],by simp[Fn1.sl],ke⟩
theorem t_member(hT:cN src T)(ih:Specs src T n)(hok:Ok src T s F)(hm:40*(T.length-s.i)+8≤n):TrR (nT T (run T n) s) (Goal src T .member s F):=by
 have hc0:=hok.cnt;unfold nT;refine TrR.ite (fun h=> ?_) (fun h=> ?_)
 ·refine ih.go0 (.maker) rfl hok trivial (by have hlt:=hok.lt;simp only[Fn1.rank,FnL.rank]at*;omega) fun a1 s1 hok x1 i1 c1 ke=> ?_;have hc1:=hok.cnt;simp only[Fn1.lo,Fn1.sl,Fn1.Post,FnL.lo,FnL.sl,FnL.Post]at i1 c1 ke
  try simp only[aC,aB,aD]at i1
  try simp only[aC,aB,aD]at c1
  try simp only[aC,aB,aD]at hc1
  refine ih.goL (.tail a1 true) (F:=F) (hok.perm (aM.2 (by intro z;simp only[aO,aT,aV,Fn1.args,FnL.args];try omega))) (ke) (by have hlt:=hok.lt;simp only[Fn1.rank,FnL.rank]at*;omega) fun a2 s2 hok x2 i2 c2 k2=> ?_;have hc2:=hok.cnt;simp only[Fn1.lo,Fn1.sl,Fn1.Post,FnL.lo,FnL.sl,FnL.Post]at i2 c2 k2
  try simp only[aC,aB,aD]at i2
  try simp only[aC,aB,aD]at c2
  try simp only[aC,aB,aD]at hc2
  exact⟨hok,(x1.trans x2),by simp only[Fn1.lo,FnL.lo];try omega,by simp only[aC,aB,aD,Fn1.sl,FnL.sl];try omega,k2⟩
 ·refine ih.go0 (.primary) rfl hok trivial (by have hlt:=hok.lt;simp only[Fn1.rank,FnL.rank]at*;omega) fun a1 s1 hok x1 i1 c1 ke=> ?_;have hc1:=hok.cnt;simp only[Fn1.lo,Fn1.sl,Fn1.Post,FnL.lo,FnL.sl,FnL.Post]at i1 c1 ke
  try simp only[aC,aB,aD]at i1
  try simp only[aC,aB,aD]at c1
  try simp only[aC,aB,aD]at hc1
  refine ih.goL (.tail a1 true) (F:=F) (hok.perm (aM.2 (by intro z;simp only[aO,aT,aV,Fn1.args,FnL.args];try omega))) (ke) (by have hlt:=hok.lt;simp only[Fn1.rank,FnL.rank]at*;omega) fun a2 s2 hok x2 i2 c2 k2=> ?_;have hc2:=hok.cnt;simp only[Fn1.lo,Fn1.sl,Fn1.Post,FnL.lo,FnL.sl,FnL.Post]at i2 c2 k2
  try simp only[aC,aB,aD]at i2
  try simp only[aC,aB,aD]at c2
  try simp only[aC,aB,aD]at hc2
  exact⟨hok,(x1.trans x2),by simp only[Fn1.lo,FnL.lo];try omega,by simp only[aC,aB,aD,Fn1.sl,FnL.sl];try omega,k2⟩
end
end
section
section
variable{src:List UInt8}{T:List Tk}{n:Nat}{s:St}{F:List Nat}
theorem plain_some{x:List UInt8}{k:Nat}(h:gZ x=some k):(k=3∨k=4∨k=5∨k=7)∧x≠[]:=by
 unfold gZ at h;constructor
 ·split at h
  ·simp at h;omega
  ·split at h
   ·simp at h;omega
   ·split at h
    ·simp at h;omega
    ·split at h
     ·simp at h;omega
     ·cases h
 ·rintro rfl;simp at h
theorem t_primary(hT:cN src T)(ih:Specs src T n)(hok:Ok src T s F)(hm:40*(T.length-s.i)+6≤n):TrR (mD T (run T n) s) (Goal src T .primary s F):=by
 have hc0:=hok.cnt;have htk:=hT.tk _ (dY hok.lt);have hfr:=htk.fr;unfold mD;refine TrR.ite (fun h=> ?_) (fun h1=> ?_)
 ·have hk0:(nowT T s).kind≠0:=by omega
  refine TrR.skip hT hok (hk0) fun hok=> ?_;refine TrR.addL (F:=F) hT (hok.perm (aM.2 (by intro z;simp only[aO,aT,aV,Fn1.args,FnL.args];try omega))) ⟨((Shape.name (htk.name h).1)),.inr ⟨by first|(simp;done)|(simp;omega),rfl⟩,.inr ⟨by first|(simp;done)|(simp;omega),rfl⟩,hfr,(fun _=>(htk.name h).2)⟩ (by first|omega|(simp only[aC,aB,aD];omega)) fun hok x1 y1=> ?_;have k:=y1;have hc1:=hok.cnt;simp only[aC,aB,aD]at hc1;exact⟨hok,x1,by simp only[Fn1.lo,FnL.lo];try omega,by simp only[aC,aB,aD,Fn1.sl,FnL.sl];try omega,.of k rfl⟩
 refine TrR.ite (fun h=> ?_) (fun h2=> ?_)
 ·have hk0:(nowT T s).kind≠0:=by omega
  refine TrR.skip hT hok (hk0) fun hok=> ?_;refine TrR.addL (F:=F) hT (hok.perm (aM.2 (by intro z;simp only[aO,aT,aV,Fn1.args,FnL.args];try omega))) ⟨(Shape.num),.inl ⟨rfl,htk.num⟩,.inr ⟨by first|(simp;done)|(simp;omega),rfl⟩,hfr,(fun h=>by simp at h)⟩ (by first|omega|(simp only[aC,aB,aD];omega)) fun hok x1 y1=> ?_;have k:=y1;have hc1:=hok.cnt;simp only[aC,aB,aD]at hc1;exact⟨hok,x1,by simp only[Fn1.lo,FnL.lo];try omega,by simp only[aC,aB,aD,Fn1.sl,FnL.sl];try omega,.of k rfl⟩
 refine TrR.ite (fun h=> ?_) (fun h3=> ?_)
 ·have hk0:(nowT T s).kind≠0:=by omega
  refine TrR.skip hT hok (hk0) fun hok=> ?_;refine TrR.addL (F:=F) hT (hok.perm (aM.2 (by intro z;simp only[aO,aT,aV,Fn1.args,FnL.args];try omega))) ⟨(Shape.str),.inr ⟨by first|(simp;done)|(simp;omega),rfl⟩,.inl ⟨rfl,htk.str⟩,hfr,(fun h=>by simp at h)⟩ (by first|omega|(simp only[aC,aB,aD];omega)) fun hok x1 y1=> ?_;have k:=y1;have hc1:=hok.cnt;simp only[aC,aB,aD]at hc1;exact⟨hok,x1,by simp only[Fn1.lo,FnL.lo];try omega,by simp only[aC,aB,aD,Fn1.sl,FnL.sl];try omega,.of k rfl⟩
 refine TrR.ite (fun h=> ?_) (fun h4=> ?_)
 ·refine ih.goL0 (.template) rfl hok (h) (by have hlt:=hok.lt;simp only[Fn1.rank,FnL.rank]at*;omega) fun a1 s1 hok x1 i1 c1 k=> ?_;have hc1:=hok.cnt;simp only[Fn1.lo,Fn1.sl,Fn1.Post,FnL.lo,FnL.sl,FnL.Post]at i1 c1 k
  try simp only[aC,aB,aD]at i1
  try simp only[aC,aB,aD]at c1
  try simp only[aC,aB,aD]at hc1
  exact⟨hok,x1,by simp only[Fn1.lo,FnL.lo];try omega,by simp only[aC,aB,aD,Fn1.sl,FnL.sl];try omega,k⟩
 cases hp:gZ (nowT T s).txt with
 |some k=>
  obtain⟨hk,hne⟩:=plain_some hp;have hk0:(nowT T s).kind≠0:=by rcases gC rfl hne with e|e<;>omega
  dsimp only;refine TrR.skip hT hok (hk0) fun hok=> ?_;refine TrR.addL (F:=F) hT (hok.perm (aM.2 (by intro z;simp only[aO,aT,aV,Fn1.args,FnL.args];try omega))) ⟨((Shape.plain (by show k=3∨k=4∨k=5∨k=7∨k=36∨k=54;omega))),.inr ⟨by first|(simp;done)|(simp;omega),rfl⟩,.inr ⟨by first|(simp;done)|(simp;omega),rfl⟩,hfr,(fun h=>by simp at h;omega)⟩ (by first|omega|(simp only[aC,aB,aD];omega)) fun hok x1 y1=> ?_;have y:=y1;have hc1:=hok.cnt;simp only[aC,aB,aD]at hc1
  exact⟨hok,x1,by simp only[Fn1.lo,FnL.lo];try omega,by simp only[aC,aB,aD,Fn1.sl,FnL.sl];try omega,.of y (by rcases hk with rfl|rfl|rfl|rfl<;>rfl)⟩
 |none=>
  dsimp only;refine TrR.ite (fun h=> ?_) (fun h5=> ?_)
  ·refine ih.goL0 (.parens) rfl hok trivial (by have hlt:=hok.lt;simp only[Fn1.rank,FnL.rank]at*;omega) fun a1 s1 hok x1 i1 c1 k=> ?_;have hc1:=hok.cnt;simp only[Fn1.lo,Fn1.sl,Fn1.Post,FnL.lo,FnL.sl,FnL.Post]at i1 c1 k
   try simp only[aC,aB,aD]at i1
   try simp only[aC,aB,aD]at c1
   try simp only[aC,aB,aD]at hc1
   exact⟨hok,x1,by simp only[Fn1.lo,FnL.lo];try omega,by simp only[aC,aB,aD,Fn1.sl,FnL.sl];try omega,k⟩
  refine TrR.ite (fun h=> ?_) (fun h6=> ?_)
  ·refine ih.goL0 (.array) rfl hok trivial (by have hlt:=hok.lt;simp only[Fn1.rank,FnL.rank]at*;omega) fun a1 s1 hok x1 i1 c1 k=> ?_;have hc1:=hok.cnt;simp only[Fn1.lo,Fn1.sl,Fn1.Post,FnL.lo,FnL.sl,FnL.Post]at i1 c1 k
   try simp only[aC,aB,aD]at i1
   try simp only[aC,aB,aD]at c1
   try simp only[aC,aB,aD]at hc1
   exact⟨hok,x1,by simp only[Fn1.lo,FnL.lo];try omega,by simp only[aC,aB,aD,Fn1.sl,FnL.sl];try omega,k⟩
  refine TrR.ite (fun h=> ?_) (fun h7=> ?_)
  ·refine ih.goL0 (.object) rfl hok trivial (by have hlt:=hok.lt;simp only[Fn1.rank,FnL.rank]at*;omega) fun a1 s1 hok x1 i1 c1 k=> ?_;have hc1:=hok.cnt;simp only[Fn1.lo,Fn1.sl,Fn1.Post,FnL.lo,FnL.sl,FnL.Post]at i1 c1 k
   try simp only[aC,aB,aD]at i1
   try simp only[aC,aB,aD]at c1
   try simp only[aC,aB,aD]at hc1
   exact⟨hok,x1,by simp only[Fn1.lo,FnL.lo];try omega,by simp only[aC,aB,aD,Fn1.sl,FnL.sl];try omega,k⟩
  refine TrR.ite (fun h=> ?_) (fun h8=>trivial);have hx:(nowT T s).txt=([102,117,110,99,116,105,111,110]:List UInt8):=by simpa using h
  have hk0:(nowT T s).kind≠0:=by rcases gC hx (by simp)with e|e<;>omega
  refine TrR.skip hT hok (hk0) fun hok=> ?_;refine TrR.bind (TrR.mono (R:=fun x s'=>Ok src T s' F∧s'.ns=s.ns∧s.i+1≤s'.i∧jQ x=true) ?_ ?_)
  ·refine TrR.ite (fun h=> ?_) (fun h=> ?_)
   ·have:=TrR.name (f:=Pure.pure) (Q:=fun x s'=>Ok src T s' F∧s'.ns=s.ns∧s.i+1≤s'.i∧jQ x=true) hT hok fun hk hn ha hok=>⟨hok,rfl,by simp,by simp[jQ,hn]⟩;have e:(gW T>>=Pure.pure)=gW T:=by funext s;show M.bind _ _ s=_;unfold M.bind;cases gW T s<;>rfl
    rw[e]at this;exact this
   ·exact⟨hok,rfl,by simp,rfl⟩
  ·intro x s0 ⟨hok,e0,i0,hx⟩;have hc00:=hok.cnt;refine ih.go0 (.parameters) rfl hok trivial (by have hlt:=hok.lt;simp only[Fn1.rank,FnL.rank]at*;omega) fun a1 s1 hok x1 i1 c1 kp=> ?_;have hc1:=hok.cnt;simp only[Fn1.lo,Fn1.sl,Fn1.Post,FnL.lo,FnL.sl,FnL.Post]at i1 c1 kp
   try simp only[aC,aB,aD]at i1
   try simp only[aC,aB,aD]at c1
   try simp only[aC,aB,aD]at hc1
   refine ih.go0 (.block) rfl hok trivial (by have hlt:=hok.lt;simp only[Fn1.rank,FnL.rank]at*;omega) fun a2 s2 hok x2 i2 c2 kb=> ?_;have hc2:=hok.cnt;simp only[Fn1.lo,Fn1.sl,Fn1.Post,FnL.lo,FnL.sl,FnL.Post]at i2 c2 kb
   try simp only[aC,aB,aD]at i2
   try simp only[aC,aB,aD]at c2
   try simp only[aC,aB,aD]at hc2
   have kp:=kp.mono x2;refine TrR.addL (F:=F) hT (hok.perm (aM.2 (by intro z;simp only[aO,aT,aV,Fn1.args,FnL.args];try omega))) ⟨((Shape.func hx kp kb)),.inr ⟨by first|(simp;done)|(simp;omega),rfl⟩,.inr ⟨by first|(simp;done)|(simp;omega),rfl⟩,hfr,(fun h=>by simp at h)⟩ (by first|omega|(simp only[aC,aB,aD];omega)) fun hok x3 y3=> ?_;have k:=y3;have hc3:=hok.cnt;simp only[aC,aB,aD]at hc3;rw[e0]at x1 c1;exact⟨hok,((x1.trans x2).trans x3),by simp only[Fn1.lo,FnL.lo];try omega,by simp only[aC,aB,aD,Fn1.sl,FnL.sl];try omega,.of k rfl⟩
theorem zR(hT:cN src T)(ih:Specs src T n)(hok:Ok src T s F)(hp:Fn1.template.Pre src T s)(hm:40*(T.length-s.i)+4≤n):TrR (kG T (run T n) s) (Goal src T .template s F):=by
 have hc0:=hok.cnt;have hfr:=(hT.tk _ (dY hok.lt)).fr;unfold kG;refine ih.goL (.tplLoop _ []) (F:=F) (hok.perm (aM.2 (by intro z;simp only[aO,aT,aV,Fn1.args,FnL.args];try omega))) (⟨by rcases hp with h|h<;>omega,hfr,.nil⟩) (by have hlt:=hok.lt;simp only[Fn1.rank,FnL.rank]at*;omega) fun a1 s1 hok x1 i1 c1 k=> ?_;have hc1:=hok.cnt;simp only[Fn1.lo,Fn1.sl,Fn1.Post,FnL.lo,FnL.sl,FnL.Post]at i1 c1 k
 try simp only[aC,aB,aD]at i1
 try simp only[aC,aB,aD]at c1
 try simp only[aC,aB,aD]at hc1
 exact⟨hok,x1,by simp only[Fn1.lo,FnL.lo];try omega,by simp only[aC,aB,aD,Fn1.sl,FnL.sl];try omega,k⟩
theorem t_tplLoop(hT:cN src T)(ih:Specs src T n)(pos:Nat)(kids:List Nat)(hok:Ok src T s (kids++F))(hp:(Fn1.tplLoop pos kids).Pre src T s)(hm:40*(T.length-s.i)+2≤n):TrR (mC T (run T n) pos kids s) (Goal src T (.tplLoop pos kids) s F):=by
 have hc0:=hok.cnt;have htk:=hT.tk _ (dY hok.lt);have hfr:=htk.fr;obtain⟨hk0,hpos,hall⟩:=hp;unfold mC;dsimp only;refine TrR.skip hT hok (hk0) fun hok=> ?_;refine TrR.add (F:=kids++F) hT (hok.perm (aM.2 (by intro z;simp only[aO,aT,aV,Fn1.args,FnL.args];try omega))) ⟨(Shape.str),.inr ⟨by first|(simp;done)|(simp;omega),rfl⟩,.inl ⟨rfl,htk.str⟩,hfr,(fun h=>by simp at h)⟩ (by first|omega|(simp only[aC,aB,aD];omega)) fun hok x1 y1=> ?_;have k:=y1;have hc1:=hok.cnt;simp only[aC,aB,aD]at hc1;have hall:=hall.mono x1;have hk:hasK _ _ (·==2):=.of k rfl;by_cases h:(nowT T s).kind=6∨(nowT T s).kind=9
 ·rw[if_pos h];refine TrR.addL (F:=F) hT (hok.perm (aM.2 (by intro z;simp only[aO,aT,aV,Fn1.args,FnL.args];try omega))) ⟨((Shape.template (hall.last hk))),.inr ⟨by first|(simp;done)|(simp;omega),rfl⟩,.inr ⟨by first|(simp;done)|(simp;omega),rfl⟩,hpos,(fun h=>by simp at h)⟩ (by first|omega|(simp only[aC,aB,aD];omega)) fun hok x2 y2=> ?_;have y:=y2;have hc2:=hok.cnt;simp only[aC,aB,aD]at hc2;exact⟨hok,(x1.trans x2),by simp only[Fn1.lo,FnL.lo];try omega,by simp only[aC,aB,aD,Fn1.sl,FnL.sl];try omega,.of y rfl⟩
 ·rw[if_neg h];refine ih.go0 (.expression true) rfl hok trivial (by have hlt:=hok.lt;simp only[Fn1.rank,FnL.rank]at*;omega) fun a2 s2 hok x2 i2 c2 ke=> ?_;have hc2:=hok.cnt;simp only[Fn1.lo,Fn1.sl,Fn1.Post,FnL.lo,FnL.sl,FnL.Post]at i2 c2 ke
  try simp only[aC,aB,aD]at i2
  try simp only[aC,aB,aD]at c2
  try simp only[aC,aB,aD]at hc2
  have hall:=hall.mono x2;have hk:=hk.mono x2;refine TrR.ite (fun h=>trivial) (fun h=> ?_);refine ih.goL (.tplLoop pos (kids++[s.ns.length]++[a2])) (F:=F) (hok.perm (aM.2 (by intro z;simp only[aO,aT,aV,Fn1.args,FnL.args];try omega))) (⟨by omega,hpos,hall.snoc hk ke⟩) (by have hlt:=hok.lt;simp only[Fn1.rank,FnL.rank]at*;omega) fun a3 s3 hok x3 i3 c3 k2=> ?_;have hc3:=hok.cnt;simp only[Fn1.lo,Fn1.sl,Fn1.Post,FnL.lo,FnL.sl,FnL.Post]at i3 c3 k2
  try simp only[aC,aB,aD]at i3
  try simp only[aC,aB,aD]at c3
  try simp only[aC,aB,aD]at hc3
  exact⟨hok,((x1.trans x2).trans x3),by simp only[Fn1.lo,FnL.lo];try omega,by simp only[aC,aB,aD,Fn1.sl,FnL.sl];try omega,k2⟩
theorem t_array(hT:cN src T)(ih:Specs src T n)(hok:Ok src T s F)(hm:40*(T.length-s.i)+2≤n):TrR (pZ T (run T n) s) (Goal src T .array s F):=by
 have hc0:=hok.cnt;unfold pZ;refine TrR.want hT hok (x:=([91]:List UInt8)) (by simp) fun hx hok hfr=> ?_;refine ih.goL (.arrLoop _ []) (F:=F) (hok.perm (aM.2 (by intro z;simp only[aO,aT,aV,Fn1.args,FnL.args];try omega))) (⟨hfr,.nil⟩) (by have hlt:=hok.lt;simp only[Fn1.rank,FnL.rank]at*;omega) fun a1 s1 hok x1 i1 c1 k=> ?_;have hc1:=hok.cnt;simp only[Fn1.lo,Fn1.sl,Fn1.Post,FnL.lo,FnL.sl,FnL.Post]at i1 c1 k
 try simp only[aC,aB,aD]at i1
 try simp only[aC,aB,aD]at c1
 try simp only[aC,aB,aD]at hc1
 exact⟨hok,x1,by simp only[Fn1.lo,FnL.lo];try omega,by simp only[aC,aB,aD,Fn1.sl,FnL.sl];try omega,k⟩
theorem comma_t(hT:cN src T){α:Type}{x:List UInt8}{f:Nat→M α}{Q:α→St→Prop}(hok:Ok src T s F)(H:∀a s',Ok src T s' F→s'.ns=s.ns→s.i≤s'.i→TrR (f a s') Q):
 TrR (((fun s=>if isT T s x then .ok 0 s else dA T [44] s)>>=f) s) Q:=by
 refine TrR.bind ?_;show TrR (if isT T s x then Res.ok 0 s else dA T [44] s) _;refine TrR.ite (fun h=> ?_) (fun h=> ?_)
 ·exact H _ _ hok rfl (bA _)
 ·have:=TrR.want (f:=Pure.pure) (Q:=fun a s'=>TrR (f a s') Q) hT hok (x:=([44]:List UInt8)) (by simp) fun hx hok hfr=>H _ _ hok rfl (by simp);have e:(dA T [44]>>=Pure.pure)=dA T ([44]:List UInt8):=by funext s;show M.bind _ _ s=_;unfold M.bind;cases dA T [44] s<;>rfl
  rw[e]at this;exact this
theorem t_arrLoop(hT:cN src T)(ih:Specs src T n)(pos:Nat)(kids:List Nat)(hok:Ok src T s (kids++F))(hp:(Fn1.arrLoop pos kids).Pre src T s)(hm:40*(T.length-s.i)+23≤n):TrR (mH T (run T n) pos kids s) (Goal src T (.arrLoop pos kids) s F):=by
 have hc0:=hok.cnt;obtain⟨hpos,hall⟩:=hp;unfold mH;refine TrR.ite (fun h=> ?_) (fun h=> ?_)
 ·refine TrR.want hT hok (x:=([93]:List UInt8)) (by simp) fun hx hok _=> ?_;refine TrR.addL (F:=F) hT (hok.perm (aM.2 (by intro z;simp only[aO,aT,aV,Fn1.args,FnL.args];try omega))) ⟨((Shape.array hall)),.inr ⟨by first|(simp;done)|(simp;omega),rfl⟩,.inr ⟨by first|(simp;done)|(simp;omega),rfl⟩,hpos,(fun h=>by simp at h)⟩ (by first|omega|(simp only[aC,aB,aD];omega)) fun hok x1 y1=> ?_;have k:=y1;have hc1:=hok.cnt;simp only[aC,aB,aD]at hc1;exact⟨hok,x1,by simp only[Fn1.lo,FnL.lo];try omega,by simp only[aC,aB,aD,Fn1.sl,FnL.sl];try omega,.of k rfl⟩
 ·refine ih.go0 (.argument) rfl hok trivial (by have hlt:=hok.lt;simp only[Fn1.rank,FnL.rank]at*;omega) fun a1 s1 hok x1 i1 c1 ke=> ?_;have hc1:=hok.cnt;simp only[Fn1.lo,Fn1.sl,Fn1.Post,FnL.lo,FnL.sl,FnL.Post]at i1 c1 ke
  try simp only[aC,aB,aD]at i1
  try simp only[aC,aB,aD]at c1
  try simp only[aC,aB,aD]at hc1
  have hall:=hall.mono x1;refine comma_t hT hok fun a2 s2 hok e2 i2=> ?_;have hc2:=hok.cnt;rw[e2]at hc2;have hall2:allK s2.ns kids argK:=by rw[e2];exact hall
  have ke2:hasK s2.ns a1 argK:=by rw[e2];exact ke
  refine ih.goL (.arrLoop pos (kids++[a1])) (F:=F) (hok.perm (aM.2 (by intro z;simp only[aO,aT,aV,Fn1.args,FnL.args];try omega))) (⟨hpos,hall2.snoc ke2⟩) (by have hlt:=hok.lt;simp only[Fn1.rank,FnL.rank]at*;omega) fun a2 s2 hok x2 i2 c2 k2=> ?_;have hc2:=hok.cnt;simp only[Fn1.lo,Fn1.sl,Fn1.Post,FnL.lo,FnL.sl,FnL.Post]at i2 c2 k2
  try simp only[aC,aB,aD]at i2
  try simp only[aC,aB,aD]at c2
  try simp only[aC,aB,aD]at hc2
  rw[e2]at x2 c2;exact⟨hok,(x1.trans x2),by simp only[Fn1.lo,FnL.lo];try omega,by simp only[aC,aB,aD,Fn1.sl,FnL.sl];try omega,k2⟩
theorem t_object(hT:cN src T)(ih:Specs src T n)(hok:Ok src T s F)(hm:40*(T.length-s.i)+2≤n):TrR (nS T (run T n) s) (Goal src T .object s F):=by
 have hc0:=hok.cnt;unfold nS;refine TrR.want hT hok (x:=([123]:List UInt8)) (by simp) fun hx hok hfr=> ?_;refine ih.goL (.objLoop _ []) (F:=F) (hok.perm (aM.2 (by intro z;simp only[aO,aT,aV,Fn1.args,FnL.args];try omega))) (⟨hfr,.nil⟩) (by have hlt:=hok.lt;simp only[Fn1.rank,FnL.rank]at*;omega) fun a1 s1 hok x1 i1 c1 k=> ?_;have hc1:=hok.cnt;simp only[Fn1.lo,Fn1.sl,Fn1.Post,FnL.lo,FnL.sl,FnL.Post]at i1 c1 k
 try simp only[aC,aB,aD]at i1
 try simp only[aC,aB,aD]at c1
 try simp only[aC,aB,aD]at hc1
 exact⟨hok,x1,by simp only[Fn1.lo,FnL.lo];try omega,by simp only[aC,aB,aD,Fn1.sl,FnL.sl];try omega,k⟩
theorem t_objLoop(hT:cN src T)(ih:Specs src T n)(pos:Nat)(kids:List Nat)(hok:Ok src T s (kids++F))(hp:(Fn1.objLoop pos kids).Pre src T s)(hm:40*(T.length-s.i)+27≤n):TrR (mF T (run T n) pos kids s) (Goal src T (.objLoop pos kids) s F):=by
 have hc0:=hok.cnt;obtain⟨hpos,hall⟩:=hp;unfold mF;refine TrR.ite (fun h=> ?_) (fun h=> ?_)
 ·refine TrR.want hT hok (x:=([125]:List UInt8)) (by simp) fun hx hok _=> ?_;refine TrR.addL (F:=F) hT (hok.perm (aM.2 (by intro z;simp only[aO,aT,aV,Fn1.args,FnL.args];try omega))) ⟨((Shape.object hall)),.inr ⟨by first|(simp;done)|(simp;omega),rfl⟩,.inr ⟨by first|(simp;done)|(simp;omega),rfl⟩,hpos,(fun h=>by simp at h)⟩ (by first|omega|(simp only[aC,aB,aD];omega)) fun hok x1 y1=> ?_;have k:=y1;have hc1:=hok.cnt;simp only[aC,aB,aD]at hc1;exact⟨hok,x1,by simp only[Fn1.lo,FnL.lo];try omega,by simp only[aC,aB,aD,Fn1.sl,FnL.sl];try omega,.of k rfl⟩
 ·refine ih.go0 (.property) rfl hok trivial (by have hlt:=hok.lt;simp only[Fn1.rank,FnL.rank]at*;omega) fun a1 s1 hok x1 i1 c1 ke=> ?_;have hc1:=hok.cnt;simp only[Fn1.lo,Fn1.sl,Fn1.Post,FnL.lo,FnL.sl,FnL.Post]at i1 c1 ke
  try simp only[aC,aB,aD]at i1
  try simp only[aC,aB,aD]at c1
  try simp only[aC,aB,aD]at hc1
  have hall:=hall.mono x1;refine comma_t hT hok fun a2 s2 hok e2 i2=> ?_;have hc2:=hok.cnt;rw[e2]at hc2;have hall2:allK s2.ns kids lH:=by rw[e2];exact hall
  have ke2:hasK s2.ns a1 lH:=by rw[e2];exact ke
  refine ih.goL (.objLoop pos (kids++[a1])) (F:=F) (hok.perm (aM.2 (by intro z;simp only[aO,aT,aV,Fn1.args,FnL.args];try omega))) (⟨hpos,hall2.snoc ke2⟩) (by have hlt:=hok.lt;simp only[Fn1.rank,FnL.rank]at*;omega) fun a2 s2 hok x2 i2 c2 k2=> ?_;have hc2:=hok.cnt;simp only[Fn1.lo,Fn1.sl,Fn1.Post,FnL.lo,FnL.sl,FnL.Post]at i2 c2 k2
  try simp only[aC,aB,aD]at i2
  try simp only[aC,aB,aD]at c2
  try simp only[aC,aB,aD]at hc2
  rw[e2]at x2 c2;exact⟨hok,(x1.trans x2),by simp only[Fn1.lo,FnL.lo];try omega,by simp only[aC,aB,aD,Fn1.sl,FnL.sl];try omega,k2⟩
theorem zL(x:List UInt8):(mW x).length%2=0:=by
 induction x with
 |nil=>rfl
 |cons a x ih=>simp only[mW,List.flatMap_cons,aC,aB,aD]at*;omega
theorem t_key(hT:cN src T)(ih:Specs src T n)(hok:Ok src T s F)(hm:40*(T.length-s.i)+25≤n):TrR (s_key T (run T n) s) (Goal src T .key s F):=by
 have hc0:=hok.cnt;have htk:=hT.tk _ (dY hok.lt);have hfr:=htk.fr;unfold s_key;refine TrR.ite (fun h=> ?_) (fun h1=> ?_)
 ·have hk0:(nowT T s).kind≠0:=by omega
  refine TrR.skip hT hok (hk0) fun hok=> ?_;refine TrR.addL (F:=F) hT (hok.perm (aM.2 (by intro z;simp only[aO,aT,aV,Fn1.args,FnL.args];try omega))) ⟨(Shape.str),.inr ⟨by first|(simp;done)|(simp;omega),rfl⟩,.inl ⟨rfl,zL _⟩,hfr,(fun h=>by simp at h)⟩ (by first|omega|(simp only[aC,aB,aD];omega)) fun hok x1 y1=> ?_;have k:=y1;have hc1:=hok.cnt;simp only[aC,aB,aD]at hc1;exact⟨hok,x1,by simp only[Fn1.lo,FnL.lo];try omega,by simp only[aC,aB,aD,Fn1.sl,FnL.sl];try omega,.of k rfl⟩
 refine TrR.ite (fun h=> ?_) (fun h2=> ?_)
 ·have hk0:(nowT T s).kind≠0:=by omega
  refine TrR.skip hT hok (hk0) fun hok=> ?_;refine TrR.addL (F:=F) hT (hok.perm (aM.2 (by intro z;simp only[aO,aT,aV,Fn1.args,FnL.args];try omega))) ⟨(Shape.str),.inr ⟨by first|(simp;done)|(simp;omega),rfl⟩,.inl ⟨rfl,htk.str⟩,hfr,(fun h=>by simp at h)⟩ (by first|omega|(simp only[aC,aB,aD];omega)) fun hok x1 y1=> ?_;have k:=y1;have hc1:=hok.cnt;simp only[aC,aB,aD]at hc1;exact⟨hok,x1,by simp only[Fn1.lo,FnL.lo];try omega,by simp only[aC,aB,aD,Fn1.sl,FnL.sl];try omega,.of k rfl⟩
 refine TrR.ite (fun h=> ?_) (fun h3=> ?_)
 ·have hk0:(nowT T s).kind≠0:=by omega
  refine TrR.skip hT hok (hk0) fun hok=> ?_;refine TrR.addL (F:=F) hT (hok.perm (aM.2 (by intro z;simp only[aO,aT,aV,Fn1.args,FnL.args];try omega))) ⟨(Shape.num),.inl ⟨rfl,htk.num⟩,.inr ⟨by first|(simp;done)|(simp;omega),rfl⟩,hfr,(fun h=>by simp at h)⟩ (by first|omega|(simp only[aC,aB,aD];omega)) fun hok x1 y1=> ?_;have k:=y1;have hc1:=hok.cnt;simp only[aC,aB,aD]at hc1;exact⟨hok,x1,by simp only[Fn1.lo,FnL.lo];try omega,by simp only[aC,aB,aD,Fn1.sl,FnL.sl];try omega,.of k rfl⟩
 refine TrR.want hT hok (x:=([91]:List UInt8)) (by simp) fun hx hok _=> ?_;refine ih.go0 (.assignment true) rfl hok trivial (by have hlt:=hok.lt;simp only[Fn1.rank,FnL.rank]at*;omega) fun a1 s1 hok x1 i1 c1 ke=> ?_;have hc1:=hok.cnt;simp only[Fn1.lo,Fn1.sl,Fn1.Post,FnL.lo,FnL.sl,FnL.Post]at i1 c1 ke
 try simp only[aC,aB,aD]at i1
 try simp only[aC,aB,aD]at c1
 try simp only[aC,aB,aD]at hc1
 refine TrR.want hT hok (x:=([93]:List UInt8)) (by simp) fun hx hok _=> ?_;refine TrR.addL (F:=F) hT (hok.perm (aM.2 (by intro z;simp only[aO,aT,aV,Fn1.args,FnL.args];try omega))) ⟨((Shape.one (.inr (.inr (.inr rfl))) ke)),.inr ⟨by first|(simp;done)|(simp;omega),rfl⟩,.inr ⟨by first|(simp;done)|(simp;omega),rfl⟩,hfr,(fun h=>by simp at h)⟩ (by first|omega|(simp only[aC,aB,aD];omega)) fun hok x2 y2=> ?_;have k:=y2;have hc2:=hok.cnt;simp only[aC,aB,aD]at hc2;exact⟨hok,(x1.trans x2),by simp only[Fn1.lo,FnL.lo];try omega,by simp only[aC,aB,aD,Fn1.sl,FnL.sl];try omega,.of k rfl⟩
theorem AllGood.params{ns:List Nd}{src:List UInt8}(hg:AllGood src ns){p:Nat}(hp:hasK ns p (·==30)):∃y,ns[p]? =some y∧y.kind=30∧∃l r,y.kids=l++r∧allK ns l (·==6)∧(r=[]∨∃a,r=[a]∧hasK ns a (·==31)):=by
 obtain⟨y,hy,hk⟩:=hp;have hk:y.kind=30:=by simpa using hk
 have hs:=(hg p y hy).shape;have hpre:ns.take p<+:ns:=List.take_prefix _ _;refine⟨y,hy,hk,?_⟩;generalize hkk:y.kind=kk at hs hk;generalize y.kids=ks at hs⊢;generalize y.text=tx at hs
 cases hs with
 |params hl hr=>
  refine⟨_,_,rfl,hl.mono hpre,?_⟩;rcases hr with h|⟨a,h1,h2⟩
  ·exact .inl h
  ·exact .inr ⟨a,h1,h2.mono hpre⟩
 |_=>all_goals first
  |omega
  |(rename_i h;simp[fN]at h;omega)
  |(rename_i h _;simp[fN]at h;omega)
theorem zY(hT:cN src T)(ih:Specs src T n)(hok:Ok src T s F)(hp:Fn1.accessor.Pre src T s)(hm:40*(T.length-s.i)+4≤n):TrR (kM T (run T n) s) (Goal src T .accessor s F):=by
 have hc0:=hok.cnt;have hfr:=(hT.tk _ (dY hok.lt)).fr;obtain⟨hk1,htx⟩:=hp;have hk0:(nowT T s).kind≠0:=by omega
 unfold kM;dsimp only;refine TrR.skip hT hok (hk0) fun hok=> ?_;refine ih.go0 (.key) rfl hok trivial (by have hlt:=hok.lt;simp only[Fn1.rank,FnL.rank]at*;omega) fun a1 s1 hok x1 i1 c1 kk=> ?_;have hc1:=hok.cnt;simp only[Fn1.lo,Fn1.sl,Fn1.Post,FnL.lo,FnL.sl,FnL.Post]at i1 c1 kk
 try simp only[aC,aB,aD]at i1
 try simp only[aC,aB,aD]at c1
 try simp only[aC,aB,aD]at hc1
 refine TrR.bind (TrR.ok ?_);refine ih.go0 (.parameters) rfl hok trivial (by have hlt:=hok.lt;simp only[Fn1.rank,FnL.rank]at*;omega) fun a2 s2 hok x2 i2 c2 kp=> ?_;have hc2:=hok.cnt;simp only[Fn1.lo,Fn1.sl,Fn1.Post,FnL.lo,FnL.sl,FnL.Post]at i2 c2 kp
 try simp only[aC,aB,aD]at i2
 try simp only[aC,aB,aD]at c2
 try simp only[aC,aB,aD]at hc2
 have kk:=kk.mono x2;obtain⟨y,hy,hyk,l,r,hkids,hl,hr⟩:=hok.good.params kp;refine TrR.nd hy ?_;have hlen:T.length≤1000000:=hT.big
 have tail:∀(w:Nat) (hw:(w=11∧y.kids=[])∨(w=12∧∃a,y.kids=[a]∧hasK s2.ns a (·==6))),TrR ((posM a2>>=fun pp=>(run T n).e .block>>=fun b=>cP 13 pp [a2,b]>>=fun f=>cP w (nowT T s).fr [a1,f]) s2) (Goal src T .accessor s F):=by
  intro w hw;refine TrR.pos hok kp fun q hq=> ?_;refine ih.go0 (.block) rfl hok trivial (by have hlt:=hok.lt;simp only[Fn1.rank,FnL.rank]at*;omega) fun a3 s3 hok x3 i3 c3 kb=> ?_;have hc3:=hok.cnt;simp only[Fn1.lo,Fn1.sl,Fn1.Post,FnL.lo,FnL.sl,FnL.Post]at i3 c3 kb
  try simp only[aC,aB,aD]at i3
  try simp only[aC,aB,aD]at c3
  try simp only[aC,aB,aD]at hc3
  have kk:=kk.mono x3;have kp:=kp.mono x3;have hy3:=gQ x3 hy;refine TrR.add (F:=a1::F) hT (hok.perm (aM.2 (by intro z;simp only[aO,aT,aV,Fn1.args,FnL.args];try omega))) ⟨((Shape.func (x:=[]) rfl kp kb)),.inr ⟨by first|(simp;done)|(simp;omega),rfl⟩,.inr ⟨by first|(simp;done)|(simp;omega),rfl⟩,hq,(fun h=>by simp at h)⟩ (by first|omega|(simp only[aC,aB,aD];omega)) fun hok x4 y4=> ?_;have kf:=y4;have hc4:=hok.cnt;simp only[aC,aB,aD]at hc4;have kk:=kk.mono x4;have hy4:=gQ x4 hy3;rcases hw with⟨rfl,h0⟩|⟨rfl,a,h0,ha⟩
  ·refine TrR.addL (F:=F) hT (hok.perm (aM.2 (by intro z;simp only[aO,aT,aV,Fn1.args,FnL.args];try omega))) ⟨((Shape.getter kk ⟨_,_,_,y,kf,rfl,rfl,hy4,h0⟩)),.inr ⟨by first|(simp;done)|(simp;omega),rfl⟩,.inr ⟨by first|(simp;done)|(simp;omega),rfl⟩,hfr,(fun h=>by simp at h)⟩ (by first|omega|(simp only[aC,aB,aD];omega)) fun hok x5 y5=> ?_;have k:=y5;have hc5:=hok.cnt;simp only[aC,aB,aD]at hc5;exact⟨hok,((((x1.trans x2).trans x3).trans x4).trans x5),by simp only[Fn1.lo,FnL.lo];try omega,by simp only[aC,aB,aD,Fn1.sl,FnL.sl];try omega,.of k rfl⟩
  ·refine TrR.addL (F:=F) hT (hok.perm (aM.2 (by intro z;simp only[aO,aT,aV,Fn1.args,FnL.args];try omega))) ⟨((Shape.setter kk ⟨_,_,_,y,kf,rfl,rfl,hy4,a,h0,(ha.mono x3).mono x4⟩)),.inr ⟨by first|(simp;done)|(simp;omega),rfl⟩,.inr ⟨by first|(simp;done)|(simp;omega),rfl⟩,hfr,(fun h=>by simp at h)⟩ (by first|omega|(simp only[aC,aB,aD];omega)) fun hok x5 y5=> ?_;have k:=y5;have hc5:=hok.cnt;simp only[aC,aB,aD]at hc5;exact⟨hok,((((x1.trans x2).trans x3).trans x4).trans x5),by simp only[Fn1.lo,FnL.lo];try omega,by simp only[aC,aB,aD,Fn1.sl,FnL.sl];try omega,.of k rfl⟩
 rcases htx with htx|htx
 ·have e1:((nowT T s).text==([103,101,116]:List UInt8))=true:=by rw[htx];rfl
  have e2:((nowT T s).text==([115,101,116]:List UInt8))=false:=by rw[htx];rfl
  simp only[e1,e2,Bool.true_and,aI,if_false];by_cases h0:0<y.kids.length
  ·simp only[h0,decide_true,if_true]
   have hmem:hasK s2.ns (y.kids.headD 0) (fun _=>true):=by
    rw[hkids]
    cases l with
    |cons b l=>exact(hl b (by simp)).imp fun _ _=>rfl
    |nil=>
     rcases hr with rfl|⟨b,rfl,hb⟩
     ·rw[hkids]at h0;simp at h0
     ·exact hb.imp fun _ _=>rfl
   exact TrR.pos hok hmem fun q hq=>trivial
  ·simp only[h0,decide_false,aI,if_false];have hnil:y.kids=[]:=List.eq_nil_of_length_eq_zero (by omega);exact tail 11 (.inl ⟨rfl,hnil⟩)
 ·have e1:((nowT T s).text==([103,101,116]:List UInt8))=false:=by rw[htx];rfl
  have e2:((nowT T s).text==([115,101,116]:List UInt8))=true:=by rw[htx];rfl
  simp only[e1,e2,Bool.false_and,aI,if_false,if_true]
  have hbad:∀{β:Type} (Q:β→St→Prop),TrR ((if s1.i+2<T.length then if(T.getD (s1.i+1) default).kind=1 then(if s1.i+3≤T.length then tR (T.getD (s1.i+2) default).fr else fun _=> .out)else tR (T.getD (s1.i+1) default).fr else fun _=> .out:M β) s2) Q:=by
   intro β Q;have h2:=hok.lt;rw[if_pos (by omega)];split
   ·rw[if_pos (by omega)];trivial
   ·trivial
  by_cases h1:y.kids.length=1
  ·simp only[h1,if_true]
   have hmem:∃z,s2.ns[y.kids.headD 0]? =some z:=by
    rw[hkids]
    cases l with
    |cons b l=>obtain⟨z,hz,_⟩:=hl b (by simp);exact⟨z,hz⟩
    |nil=>
     rcases hr with rfl|⟨b,rfl,z,hz,_⟩
     ·rw[hkids]at h1;simp at h1
     ·exact⟨z,hz⟩
   obtain⟨z,hz⟩:=hmem;refine TrR.bind ?_;refine TrR.nd hz ?_;by_cases h6:z.kind=6
   ·refine TrR.pure ?_;simp only[h6,ne_eq,not_true_eq_false,decide_false,aI,if_false]
    match hyy:y.kids,h1 with
    |[a],_=>
     rw[hyy]at hz;exact tail 12 (.inr ⟨rfl,a,hyy,⟨z,hz,by simp[h6]⟩⟩)
   ·refine TrR.pure ?_;simp only[h6,ne_eq,not_false_eq_true,decide_true,if_true];exact hbad _
  ·simp only[h1,if_false];refine TrR.bind ?_;refine TrR.pure ?_;simp only[if_true];exact hbad _
theorem zS(hT:cN src T)(ih:Specs src T n)(hok:Ok src T s F)(hm:40*(T.length-s.i)+26≤n):TrR (kH T (run T n) s) (Goal src T .property s F):=by
 have hc0:=hok.cnt;have htk:=hT.tk _ (dY hok.lt);have hfr:=htk.fr;unfold kH;refine TrR.ite (fun h=> ?_) (fun h=> ?_)
 ·refine ih.goL0 (.accessor) rfl hok (⟨h.1,h.2.1⟩) (by have hlt:=hok.lt;simp only[Fn1.rank,FnL.rank]at*;omega) fun a1 s1 hok x1 i1 c1 k=> ?_;have hc1:=hok.cnt;simp only[Fn1.lo,Fn1.sl,Fn1.Post,FnL.lo,FnL.sl,FnL.Post]at i1 c1 k
  try simp only[aC,aB,aD]at i1
  try simp only[aC,aB,aD]at c1
  try simp only[aC,aB,aD]at hc1
  exact⟨hok,x1,by simp only[Fn1.lo,FnL.lo];try omega,by simp only[aC,aB,aD,Fn1.sl,FnL.sl];try omega,k⟩
 ·refine ih.go0 (.key) rfl hok trivial (by have hlt:=hok.lt;simp only[Fn1.rank,FnL.rank]at*;omega) fun a1 s1 hok x1 i1 c1 kk=> ?_;have hc1:=hok.cnt;simp only[Fn1.lo,Fn1.sl,Fn1.Post,FnL.lo,FnL.sl,FnL.Post]at i1 c1 kk
  try simp only[aC,aB,aD]at i1
  try simp only[aC,aB,aD]at c1
  try simp only[aC,aB,aD]at hc1
  refine TrR.pos hok kk fun q hq=> ?_;refine TrR.ite (fun h=> ?_) (fun h=> ?_)
  ·refine TrR.add (F:=a1::F) hT (hok.perm (aM.2 (by intro z;simp only[aO,aT,aV,Fn1.args,FnL.args];try omega))) ⟨((Shape.name (htk.name h.1).1)),.inr ⟨by first|(simp;done)|(simp;omega),rfl⟩,.inr ⟨by first|(simp;done)|(simp;omega),rfl⟩,hfr,(fun _=>(htk.name h.1).2)⟩ (by first|omega|(simp only[aC,aB,aD];omega)) fun hok x2 y2=> ?_;have kn:=y2;have hc2:=hok.cnt;simp only[aC,aB,aD]at hc2;have kk:=kk.mono x2;refine TrR.addL (F:=F) hT (hok.perm (aM.2 (by intro z;simp only[aO,aT,aV,Fn1.args,FnL.args];try omega))) ⟨((Shape.prop kk (.of kn rfl))),.inr ⟨by first|(simp;done)|(simp;omega),rfl⟩,.inr ⟨by first|(simp;done)|(simp;omega),rfl⟩,hq,(fun h=>by simp at h)⟩ (by first|omega|(simp only[aC,aB,aD];omega)) fun hok x3 y3=> ?_;have k:=y3;have hc3:=hok.cnt;simp only[aC,aB,aD]at hc3;exact⟨hok,((x1.trans x2).trans x3),by simp only[Fn1.lo,FnL.lo];try omega,by simp only[aC,aB,aD,Fn1.sl,FnL.sl];try omega,.of k rfl⟩
  refine TrR.ite (fun h=> ?_) (fun h=> ?_)
  ·refine ih.go0 (.parameters) rfl hok trivial (by have hlt:=hok.lt;simp only[Fn1.rank,FnL.rank]at*;omega) fun a2 s2 hok x2 i2 c2 kp=> ?_;have hc2:=hok.cnt;simp only[Fn1.lo,Fn1.sl,Fn1.Post,FnL.lo,FnL.sl,FnL.Post]at i2 c2 kp
   try simp only[aC,aB,aD]at i2
   try simp only[aC,aB,aD]at c2
   try simp only[aC,aB,aD]at hc2
   have kk:=kk.mono x2;refine TrR.pos hok kp fun q2 hq2=> ?_;refine ih.go0 (.block) rfl hok trivial (by have hlt:=hok.lt;simp only[Fn1.rank,FnL.rank]at*;omega) fun a3 s3 hok x3 i3 c3 kb=> ?_;have hc3:=hok.cnt;simp only[Fn1.lo,Fn1.sl,Fn1.Post,FnL.lo,FnL.sl,FnL.Post]at i3 c3 kb
   try simp only[aC,aB,aD]at i3
   try simp only[aC,aB,aD]at c3
   try simp only[aC,aB,aD]at hc3
   have kk:=kk.mono x3;have kp:=kp.mono x3;refine TrR.add (F:=a1::F) hT (hok.perm (aM.2 (by intro z;simp only[aO,aT,aV,Fn1.args,FnL.args];try omega))) ⟨((Shape.func (x:=[]) rfl kp kb)),.inr ⟨by first|(simp;done)|(simp;omega),rfl⟩,.inr ⟨by first|(simp;done)|(simp;omega),rfl⟩,hq2,(fun h=>by simp at h)⟩ (by first|omega|(simp only[aC,aB,aD];omega)) fun hok x4 y4=> ?_;have kf:=y4;have hc4:=hok.cnt;simp only[aC,aB,aD]at hc4;have kk:=kk.mono x4;refine TrR.addL (F:=F) hT (hok.perm (aM.2 (by intro z;simp only[aO,aT,aV,Fn1.args,FnL.args];try omega))) ⟨((Shape.prop kk (.of kf rfl))),.inr ⟨by first|(simp;done)|(simp;omega),rfl⟩,.inr ⟨by first|(simp;done)|(simp;omega),rfl⟩,hq,(fun h=>by simp at h)⟩ (by first|omega|(simp only[aC,aB,aD];omega)) fun hok x5 y5=> ?_;have k:=y5;have hc5:=hok.cnt;simp only[aC,aB,aD]at hc5;exact⟨hok,((((x1.trans x2).trans x3).trans x4).trans x5),by simp only[Fn1.lo,FnL.lo];try omega,by simp only[aC,aB,aD,Fn1.sl,FnL.sl];try omega,.of k rfl⟩
  ·refine TrR.want hT hok (x:=([58]:List UInt8)) (by simp) fun hx hok _=> ?_;refine ih.go0 (.assignment true) rfl hok trivial (by have hlt:=hok.lt;simp only[Fn1.rank,FnL.rank]at*;omega) fun a2 s2 hok x2 i2 c2 ke=> ?_;have hc2:=hok.cnt;simp only[Fn1.lo,Fn1.sl,Fn1.Post,FnL.lo,FnL.sl,FnL.Post]at i2 c2 ke
   try simp only[aC,aB,aD]at i2
   try simp only[aC,aB,aD]at c2
   try simp only[aC,aB,aD]at hc2
   have kk:=kk.mono x2;refine TrR.addL (F:=F) hT (hok.perm (aM.2 (by intro z;simp only[aO,aT,aV,Fn1.args,FnL.args];try omega))) ⟨((Shape.prop kk ke)),.inr ⟨by first|(simp;done)|(simp;omega),rfl⟩,.inr ⟨by first|(simp;done)|(simp;omega),rfl⟩,hq,(fun h=>by simp at h)⟩ (by first|omega|(simp only[aC,aB,aD];omega)) fun hok x3 y3=> ?_;have k:=y3;have hc3:=hok.cnt;simp only[aC,aB,aD]at hc3;exact⟨hok,((x1.trans x2).trans x3),by simp only[Fn1.lo,FnL.lo];try omega,by simp only[aC,aB,aD,Fn1.sl,FnL.sl];try omega,.of k rfl⟩
end
end
section
section
variable{src:List UInt8}{T:List Tk}{n:Nat}{s:St}{F:List Nat}
theorem t_list(hT:cN src T)(ih:Specs src T n)(hok:Ok src T s F)(hm:40*(T.length-s.i)+36≤n):TrR (uU (run T n) s) (zG src T .list s F):=by
 have hc0:=hok.cnt;unfold uU;refine ih.golL (.listLoop []) (F:=F) (hok.perm (aM.2 (by intro z;simp only[aO,aT,aV,Fn1.args,FnL.args];try omega))) (allK.nil) (by have hlt:=hok.lt;simp only[Fn1.rank,FnL.rank]at*;omega) fun a1 s1 hok x1 i1 c1 k=> ?_;have hc1:=hok.cnt;simp only[Fn1.lo,Fn1.sl,Fn1.Post,FnL.lo,FnL.sl,FnL.Post]at i1 c1 k
 try simp only[aC,aB,aD]at i1
 try simp only[aC,aB,aD]at c1
 try simp only[aC,aB,aD]at hc1
 exact⟨hok,x1,by simp only[Fn1.lo,FnL.lo];try omega,by simp only[aC,aB,aD,Fn1.sl,FnL.sl];try omega,k⟩
theorem zT(hT:cN src T)(ih:Specs src T n)(kids:List Nat)(hok:Ok src T s (kids++F))(hp:(FnL.listLoop kids).Pre s)(hm:40*(T.length-s.i)+35≤n):TrR (iY T (run T n) kids s) (zG src T (.listLoop kids) s F):=by
 have hc0:=hok.cnt;have hall:allK s.ns kids iN:=hp;unfold iY;refine TrR.ite (fun h=> ?_) (fun h=> ?_)
 ·exact⟨hok,List.prefix_refl _,by simp[FnL.lo],by simp[FnL.sl],hall⟩
 ·refine ih.go0 (.statement) rfl hok trivial (by have hlt:=hok.lt;simp only[Fn1.rank,FnL.rank]at*;omega) fun a1 s1 hok x1 i1 c1 ke=> ?_;have hc1:=hok.cnt;simp only[Fn1.lo,Fn1.sl,Fn1.Post,FnL.lo,FnL.sl,FnL.Post]at i1 c1 ke
  try simp only[aC,aB,aD]at i1
  try simp only[aC,aB,aD]at c1
  try simp only[aC,aB,aD]at hc1
  have hall:=hall.mono x1;refine ih.golL (.listLoop (kids++[a1])) (F:=F) (hok.perm (aM.2 (by intro z;simp only[aO,aT,aV,Fn1.args,FnL.args];try omega))) ((hall.snoc ke.1)) (by have hlt:=hok.lt;simp only[Fn1.rank,FnL.rank]at*;omega) fun a2 s2 hok x2 i2 c2 k=> ?_;have hc2:=hok.cnt;simp only[Fn1.lo,Fn1.sl,Fn1.Post,FnL.lo,FnL.sl,FnL.Post]at i2 c2 k
  try simp only[aC,aB,aD]at i2
  try simp only[aC,aB,aD]at c2
  try simp only[aC,aB,aD]at hc2
  exact⟨hok,(x1.trans x2),by simp only[Fn1.lo,FnL.lo];try omega,by simp only[aC,aB,aD,Fn1.sl,FnL.sl];try omega,k⟩
theorem t_block(hT:cN src T)(ih:Specs src T n)(hok:Ok src T s F)(hm:40*(T.length-s.i)+2≤n):TrR (pY T (run T n) s) (Goal src T .block s F):=by
 have hc0:=hok.cnt;unfold pY;refine TrR.want hT hok (x:=([123]:List UInt8)) (by simp) fun hx hok hfr=> ?_;refine ih.gol0 (.list) rfl hok trivial (by have hlt:=hok.lt;simp only[Fn1.rank,FnL.rank]at*;omega) fun a1 s1 hok x1 i1 c1 kl=> ?_;have hc1:=hok.cnt;simp only[Fn1.lo,Fn1.sl,Fn1.Post,FnL.lo,FnL.sl,FnL.Post]at i1 c1 kl
 try simp only[aC,aB,aD]at i1
 try simp only[aC,aB,aD]at c1
 try simp only[aC,aB,aD]at hc1
 refine TrR.want hT hok (x:=([125]:List UInt8)) (by simp) fun hx hok _=> ?_;refine TrR.addL (F:=F) hT (hok.perm (aM.2 (by intro z;simp only[aO,aT,aV,Fn1.args,FnL.args];try omega))) ⟨((Shape.stmts (.inl rfl) kl)),.inr ⟨by first|(simp;done)|(simp;omega),rfl⟩,.inr ⟨by first|(simp;done)|(simp;omega),rfl⟩,hfr,(fun h=>by simp at h)⟩ (by first|omega|(simp only[aC,aB,aD];omega)) fun hok x2 y2=> ?_;have k:=y2;have hc2:=hok.cnt;simp only[aC,aB,aD]at hc2;exact⟨hok,(x1.trans x2),by simp only[Fn1.lo,FnL.lo];try omega,by simp only[aC,aB,aD,Fn1.sl,FnL.sl];try omega,hasK.of (p:=(·==32)) k rfl⟩
theorem t_parens(hT:cN src T)(ih:Specs src T n)(hok:Ok src T s F)(hm:40*(T.length-s.i)+2≤n):TrR (nR T (run T n) s) (Goal src T .parens s F):=by
 have hc0:=hok.cnt;unfold nR;refine TrR.want hT hok (x:=([40]:List UInt8)) (by simp) fun hx hok _=> ?_;refine ih.go0 (.expression true) rfl hok trivial (by have hlt:=hok.lt;simp only[Fn1.rank,FnL.rank]at*;omega) fun a1 s1 hok x1 i1 c1 ke=> ?_;have hc1:=hok.cnt;simp only[Fn1.lo,Fn1.sl,Fn1.Post,FnL.lo,FnL.sl,FnL.Post]at i1 c1 ke
 try simp only[aC,aB,aD]at i1
 try simp only[aC,aB,aD]at c1
 try simp only[aC,aB,aD]at hc1
 refine TrR.want hT hok (x:=([41]:List UInt8)) (by simp) fun hx hok _=> ?_;refine TrR.pure ?_;exact⟨hok,x1,by simp only[Fn1.lo,FnL.lo];try omega,by simp only[aC,aB,aD,Fn1.sl,FnL.sl];try omega,ke⟩
theorem txt_nil{t:Tk}(h:t.kind<2):t.txt=[]:=by unfold Tk.txt;rw[if_neg (by omega)]
theorem nZ{s:St}(hT:cN src T)(hlt:s.i<T.length)(h:eQ T s 0=true):(nowT T s).kind=1∧s.i+2<T.length:=by
 unfold eQ at h;simp only[Bool.and_eq_true,beq_iff_eq]at h;have h0:bU T s 0=nowT T s:=by unfold bU nowT;rw[Nat.add_zero,Nat.min_eq_left (by omega)]
 rw[h0]at h;refine⟨h.1,?_⟩;have h1:=kN hT hlt (by omega);have hk:(bU T s 1).kind≠0:=by rcases gC h.2 (by simp)with e|e<;>(simp only[aR]at e;omega)
 rcases Nat.lt_or_ge (s.i+2) T.length with h2|h2
 ·exact h2
 ·exfalso;apply hk;unfold bU;rw[Nat.min_eq_right (by omega)];exact hT.eof
theorem t_body(hT:cN src T)(ih:Specs src T n)(hok:Ok src T s F)(hm:40*(T.length-s.i)+32≤n):TrR (uX T (run T n) s) (Goal src T .body s F):=by
 have hc0:=hok.cnt;unfold uX;refine TrR.ite (fun h=>trivial) (fun h=> ?_)
 have hpl:xT (nowT T s).txt:=by
  cases hl:eQ T s 0 with
  |true=>
   have:=(nZ hT hok.lt hl).1;rw[txt_nil (by omega)]
   exact⟨by simp,by simp,by simp⟩
  |false=>
   have h0:bU T s 0=nowT T s:=by unfold bU nowT;rw[Nat.add_zero,Nat.min_eq_left (by have:=hok.lt;omega)]
   have hb:iK T s T.length 0=0:=by
    cases hn:T.length with
    |zero=>rfl
    |succ m=>unfold iK;rw[hl];rfl
   rw[hb,h0]at h;simp only[Bool.or_eq_true,beq_iff_eq,not_or]at h;exact⟨h.1.1,h.1.2,h.2⟩
 refine ih.goL0 (.statement) rfl hok trivial (by have hlt:=hok.lt;simp only[Fn1.rank,FnL.rank]at*;omega) fun a1 s1 hok x1 i1 c1 k=> ?_;have hc1:=hok.cnt;simp only[Fn1.lo,Fn1.sl,Fn1.Post,FnL.lo,FnL.sl,FnL.Post]at i1 c1 k
 try simp only[aC,aB,aD]at i1
 try simp only[aC,aB,aD]at c1
 try simp only[aC,aB,aD]at hc1
 exact⟨hok,x1,by simp only[Fn1.lo,FnL.lo];try omega,by simp only[aC,aB,aD,Fn1.sl,FnL.sl];try omega,⟨k.2 hpl,k.1⟩⟩
theorem oU{t:Tk}:fN (if t.text==([99,111,110,115,116]:List UInt8)then 34 else 33)=true:=by split<;>rfl
theorem sL(hT:cN src T)(ih:Specs src T n)(inn:Bool)(hok:Ok src T s F)(hk0:(nowT T s).kind≠0)(hm:40*(T.length-s.i)+24≤n):TrR (iB T (run T n) inn s) (Goal src T (.declaration inn) s F):=by
 have hc0:=hok.cnt;have hfr:=(hT.tk _ (dY hok.lt)).fr;unfold iB;dsimp only;refine TrR.skip hT hok (hk0) fun hok=> ?_;refine ih.goL (.declLoop inn _ _ []) (F:=F) (hok.perm (aM.2 (by intro z;simp only[aO,aT,aV,Fn1.args,FnL.args];try omega))) (⟨oU,hfr,.nil⟩) (by have hlt:=hok.lt;simp only[Fn1.rank,FnL.rank]at*;omega) fun a1 s1 hok x1 i1 c1 k=> ?_;have hc1:=hok.cnt;simp only[Fn1.lo,Fn1.sl,Fn1.Post,FnL.lo,FnL.sl,FnL.Post]at i1 c1 k
 try simp only[aC,aB,aD]at i1
 try simp only[aC,aB,aD]at c1
 try simp only[aC,aB,aD]at hc1
 exact⟨hok,x1,by simp only[Fn1.lo,FnL.lo];try omega,by simp only[aC,aB,aD,Fn1.sl,FnL.sl];try omega,k⟩
theorem zW(hT:cN src T)(ih:Specs src T n)(inn:Bool)(kind pos:Nat)(kids:List Nat)(hok:Ok src T s (kids++F))(hp:(Fn1.declLoop inn kind pos kids).Pre src T s)(hm:40*(T.length-s.i)+1≤n):TrR (kK T (run T n) inn kind pos kids s) (Goal src T (.declLoop inn kind pos kids) s F):=by
 have hc0:=hok.cnt;have hfr:=(hT.tk _ (dY hok.lt)).fr;obtain⟨hdk,hpos,hall⟩:=hp;unfold kK;dsimp only;refine TrR.name hT hok fun hxk hxn hxa hok=> ?_;refine TrR.bind (TrR.mono (R:=fun l s'=>Ok src T s' (l++(kids++F))∧s.ns<+:s'.ns∧s.i+1≤s'.i∧s'.ns.length≤s.ns.length+8*(s'.i-(s.i+1))∧(l=[]∨∃e,l=[e]∧hasK s'.ns e cG)) ?_ ?_)
 ·refine TrR.take hT hok (x:=([61]:List UInt8)) (by simp) (fun hx hok=> ?_) (fun hx=> ?_)<;>try simp only[if_true,aI,if_false]
  ·refine ih.go0 (.assignment inn) rfl hok trivial (by have hlt:=hok.lt;simp only[Fn1.rank,FnL.rank]at*;omega) fun a1 s1 hok x1 i1 c1 ke=> ?_;have hc1:=hok.cnt;simp only[Fn1.lo,Fn1.sl,Fn1.Post,FnL.lo,FnL.sl,FnL.Post]at i1 c1 ke
   try simp only[aC,aB,aD]at i1
   try simp only[aC,aB,aD]at c1
   try simp only[aC,aB,aD]at hc1
   refine TrR.pure ?_;exact⟨hok,x1,by omega,by omega,.inr ⟨_,rfl,ke⟩⟩
  ·refine TrR.pure ?_;exact⟨hok,List.prefix_refl _,by simp,by simp,.inl rfl⟩
 ·intro l s0 ⟨hok,x0,i0,c0,hl⟩;have hc00:=hok.cnt;have hall:=hall.mono x0;refine TrR.add (F:=kids++F) hT (hok.perm (aM.2 (by intro z;simp only[aO,aT,aV,Fn1.args,FnL.args];try omega))) ⟨((Shape.init hxn hl)),.inr ⟨by first|(simp;done)|(simp;omega),rfl⟩,.inr ⟨by first|(simp;done)|(simp;omega),rfl⟩,hfr,(fun h=>by simp at h)⟩ (by first|omega|(simp only[aC,aB,aD];omega)) fun hok x1 y1=> ?_;have ki:=y1;have hc1:=hok.cnt;simp only[aC,aB,aD]at hc1;have hall:=hall.mono x1;have hall2:=hall.snoc (.of ki rfl);refine TrR.take hT hok (x:=([44]:List UInt8)) (by simp) (fun hx hok=> ?_) (fun hx=> ?_)<;>try simp only[if_true,aI,if_false]
  ·refine ih.goL (.declLoop inn kind pos (kids++[s0.ns.length])) (F:=F) (hok.perm (aM.2 (by intro z;simp only[aO,aT,aV,Fn1.args,FnL.args];try omega))) (⟨hdk,hpos,hall2⟩) (by have hlt:=hok.lt;simp only[Fn1.rank,FnL.rank]at*;omega) fun a2 s2 hok x2 i2 c2 k=> ?_;have hc2:=hok.cnt;simp only[Fn1.lo,Fn1.sl,Fn1.Post,FnL.lo,FnL.sl,FnL.Post]at i2 c2 k
   try simp only[aC,aB,aD]at i2
   try simp only[aC,aB,aD]at c2
   try simp only[aC,aB,aD]at hc2
   exact⟨hok,x0.trans (x1.trans x2),by simp only[Fn1.lo];omega,by simp only[Fn1.sl];omega,k⟩
  ·have hall3:Shape (s0.ns++[{kind:=35,text:=(nowT T s).text,str:=[],num:=0,kids:=l,pos:=(nowT T s).fr}]) kind [] (kids++[s0.ns.length]):=by
    cases kids with
    |nil=>exact .decl hdk hall2
    |cons a m=>exact .decl hdk hall2
   have hk1:kind=33∨kind=34:=by simpa[fN]using hdk
   refine TrR.addL (F:=F) hT (hok.perm (aM.2 (by intro z;simp only[aO,aT,aV];try omega))) ⟨hall3,.inr ⟨by simp;try omega,rfl⟩,.inr ⟨by simp;try omega,rfl⟩,hpos,by intro h;simp at h;omega⟩ (by simp;try omega) fun hok x2 y2=> ?_;exact⟨hok,x0.trans (x1.trans x2),by simp only[Fn1.lo];omega,by simp only[aC,aB,aD,Fn1.sl];omega,.of y2 hdk⟩
theorem t_let(hT:cN src T)(ih:Specs src T n)(hok:Ok src T s F)(hk0:(nowT T s).kind≠0)(hm:40*(T.length-s.i)+25≤n):TrR (s_let T (run T n) s) (Goal src T .lett s F):=by
 have hc0:=hok.cnt;unfold s_let;refine ih.go0 (.declaration true) rfl hok (hk0) (by have hlt:=hok.lt;simp only[Fn1.rank,FnL.rank]at*;omega) fun a1 s1 hok x1 i1 c1 k=> ?_;have hc1:=hok.cnt;simp only[Fn1.lo,Fn1.sl,Fn1.Post,FnL.lo,FnL.sl,FnL.Post]at i1 c1 k
 try simp only[aC,aB,aD]at i1
 try simp only[aC,aB,aD]at c1
 try simp only[aC,aB,aD]at hc1
 refine TrR.endS hT hok fun s2 e2 i2 hok=> ?_;refine TrR.pure ?_;exact⟨hok,by rw[e2];exact x1,by simp only[Fn1.lo];omega,by rw[e2];simp only[Fn1.sl];omega,by rw[e2];exact k⟩
theorem zU(hT:cN src T)(ih:Specs src T n)(pos:Nat)(hok:Ok src T s F)(hp:(Fn1.function pos).Pre src T s)(hm:40*(T.length-s.i)+2≤n):TrR (kI T (run T n) pos s) (Goal src T (.function pos) s F):=by
 have hc0:=hok.cnt;obtain⟨hk0,hpos⟩:=hp;unfold kI;refine TrR.skip hT hok (hk0) fun hok=> ?_;refine TrR.name hT hok fun hxk hxn hxa hok=> ?_;refine ih.go0 (.parameters) rfl hok trivial (by have hlt:=hok.lt;simp only[Fn1.rank,FnL.rank]at*;omega) fun a1 s1 hok x1 i1 c1 kp=> ?_;have hc1:=hok.cnt;simp only[Fn1.lo,Fn1.sl,Fn1.Post,FnL.lo,FnL.sl,FnL.Post]at i1 c1 kp
 try simp only[aC,aB,aD]at i1
 try simp only[aC,aB,aD]at c1
 try simp only[aC,aB,aD]at hc1
 refine ih.go0 (.block) rfl hok trivial (by have hlt:=hok.lt;simp only[Fn1.rank,FnL.rank]at*;omega) fun a2 s2 hok x2 i2 c2 kb=> ?_;have hc2:=hok.cnt;simp only[Fn1.lo,Fn1.sl,Fn1.Post,FnL.lo,FnL.sl,FnL.Post]at i2 c2 kb
 try simp only[aC,aB,aD]at i2
 try simp only[aC,aB,aD]at c2
 try simp only[aC,aB,aD]at hc2
 have kp:=kp.mono x2;refine TrR.addL (F:=F) hT (hok.perm (aM.2 (by intro z;simp only[aO,aT,aV,Fn1.args,FnL.args];try omega))) ⟨((Shape.fun_ hxn kp kb)),.inr ⟨by first|(simp;done)|(simp;omega),rfl⟩,.inr ⟨by first|(simp;done)|(simp;omega),rfl⟩,hpos,(fun h=>by simp at h)⟩ (by first|omega|(simp only[aC,aB,aD];omega)) fun hok x3 y3=> ?_;have k:=y3;have hc3:=hok.cnt;simp only[aC,aB,aD]at hc3;exact⟨hok,((x1.trans x2).trans x3),by simp only[Fn1.lo,FnL.lo];try omega,by simp only[aC,aB,aD,Fn1.sl,FnL.sl];try omega,hasK.of (p:=(·==53)) k rfl⟩
theorem t_branch(hT:cN src T)(ih:Specs src T n)(pos:Nat)(hok:Ok src T s F)(hp:(Fn1.branch pos).Pre src T s)(hm:40*(T.length-s.i)+2≤n):TrR (nW T (run T n) pos s) (Goal src T (.branch pos) s F):=by
 have hc0:=hok.cnt;obtain⟨hk0,hpos⟩:=hp;unfold nW;refine TrR.skip hT hok (hk0) fun hok=> ?_;refine ih.go0 (.parens) rfl hok trivial (by have hlt:=hok.lt;simp only[Fn1.rank,FnL.rank]at*;omega) fun a1 s1 hok x1 i1 c1 ke=> ?_;have hc1:=hok.cnt;simp only[Fn1.lo,Fn1.sl,Fn1.Post,FnL.lo,FnL.sl,FnL.Post]at i1 c1 ke
 try simp only[aC,aB,aD]at i1
 try simp only[aC,aB,aD]at c1
 try simp only[aC,aB,aD]at hc1
 refine ih.go0 (.body) rfl hok trivial (by have hlt:=hok.lt;simp only[Fn1.rank,FnL.rank]at*;omega) fun a2 s2 hok x2 i2 c2 kb=> ?_;have hc2:=hok.cnt;simp only[Fn1.lo,Fn1.sl,Fn1.Post,FnL.lo,FnL.sl,FnL.Post]at i2 c2 kb
 try simp only[aC,aB,aD]at i2
 try simp only[aC,aB,aD]at c2
 try simp only[aC,aB,aD]at hc2
 have ke:=ke.mono x2;refine TrR.take hT hok (x:=([101,108,115,101]:List UInt8)) (by simp) (fun hx hok=> ?_) (fun hx=> ?_)<;>try simp only[if_true,aI,if_false]
 ·refine ih.go0 (.body) rfl hok trivial (by have hlt:=hok.lt;simp only[Fn1.rank,FnL.rank]at*;omega) fun a3 s3 hok x3 i3 c3 kd=> ?_;have hc3:=hok.cnt;simp only[Fn1.lo,Fn1.sl,Fn1.Post,FnL.lo,FnL.sl,FnL.Post]at i3 c3 kd
  try simp only[aC,aB,aD]at i3
  try simp only[aC,aB,aD]at c3
  try simp only[aC,aB,aD]at hc3
  have ke:=ke.mono x3;have kb1:=kb.1.mono x3;refine TrR.addL (F:=F) hT (hok.perm (aM.2 (by intro z;simp only[aO,aT,aV,Fn1.args,FnL.args];try omega))) ⟨((Shape.ifs ke kb1 (.inr ⟨_,rfl,kd.1⟩))),.inr ⟨by first|(simp;done)|(simp;omega),rfl⟩,.inr ⟨by first|(simp;done)|(simp;omega),rfl⟩,hpos,(fun h=>by simp at h)⟩ (by first|omega|(simp only[aC,aB,aD];omega)) fun hok x4 y4=> ?_;have k:=y4;have hc4:=hok.cnt;simp only[aC,aB,aD]at hc4;exact⟨hok,(((x1.trans x2).trans x3).trans x4),by simp only[Fn1.lo,FnL.lo];try omega,by simp only[aC,aB,aD,Fn1.sl,FnL.sl];try omega,⟨.base (.of k rfl),.of k rfl⟩⟩
 ·refine TrR.addL (F:=F) hT (hok.perm (aM.2 (by intro z;simp only[aO,aT,aV,Fn1.args,FnL.args];try omega))) ⟨((Shape.ifs ke kb.1 (.inl rfl))),.inr ⟨by first|(simp;done)|(simp;omega),rfl⟩,.inr ⟨by first|(simp;done)|(simp;omega),rfl⟩,hpos,(fun h=>by simp at h)⟩ (by first|omega|(simp only[aC,aB,aD];omega)) fun hok x3 y3=> ?_;have k:=y3;have hc3:=hok.cnt;simp only[aC,aB,aD]at hc3;exact⟨hok,((x1.trans x2).trans x3),by simp only[Fn1.lo,FnL.lo];try omega,by simp only[aC,aB,aD,Fn1.sl,FnL.sl];try omega,⟨.base (.of k rfl),.of k rfl⟩⟩
theorem t_while(hT:cN src T)(ih:Specs src T n)(pos:Nat)(hok:Ok src T s F)(hp:(Fn1.whil pos).Pre src T s)(hm:40*(T.length-s.i)+2≤n):TrR (pS T (run T n) pos s) (Goal src T (.whil pos) s F):=by
 have hc0:=hok.cnt;obtain⟨hk0,hpos⟩:=hp;unfold pS;refine TrR.skip hT hok (hk0) fun hok=> ?_;refine ih.go0 (.parens) rfl hok trivial (by have hlt:=hok.lt;simp only[Fn1.rank,FnL.rank]at*;omega) fun a1 s1 hok x1 i1 c1 ke=> ?_;have hc1:=hok.cnt;simp only[Fn1.lo,Fn1.sl,Fn1.Post,FnL.lo,FnL.sl,FnL.Post]at i1 c1 ke
 try simp only[aC,aB,aD]at i1
 try simp only[aC,aB,aD]at c1
 try simp only[aC,aB,aD]at hc1
 refine ih.go0 (.body) rfl hok trivial (by have hlt:=hok.lt;simp only[Fn1.rank,FnL.rank]at*;omega) fun a2 s2 hok x2 i2 c2 kb=> ?_;have hc2:=hok.cnt;simp only[Fn1.lo,Fn1.sl,Fn1.Post,FnL.lo,FnL.sl,FnL.Post]at i2 c2 kb
 try simp only[aC,aB,aD]at i2
 try simp only[aC,aB,aD]at c2
 try simp only[aC,aB,aD]at hc2
 have ke:=ke.mono x2;refine TrR.addL (F:=F) hT (hok.perm (aM.2 (by intro z;simp only[aO,aT,aV,Fn1.args,FnL.args];try omega))) ⟨((Shape.whiles ke kb.1)),.inr ⟨by first|(simp;done)|(simp;omega),rfl⟩,.inr ⟨by first|(simp;done)|(simp;omega),rfl⟩,hpos,(fun h=>by simp at h)⟩ (by first|omega|(simp only[aC,aB,aD];omega)) fun hok x3 y3=> ?_;have k:=y3;have hc3:=hok.cnt;simp only[aC,aB,aD]at hc3;exact⟨hok,((x1.trans x2).trans x3),by simp only[Fn1.lo,FnL.lo];try omega,by simp only[aC,aB,aD,Fn1.sl,FnL.sl];try omega,⟨.base (.of k rfl),.of k rfl⟩⟩
theorem t_do(hT:cN src T)(ih:Specs src T n)(pos:Nat)(hok:Ok src T s F)(hp:(Fn1.doo pos).Pre src T s)(hm:40*(T.length-s.i)+2≤n):TrR (s_do T (run T n) pos s) (Goal src T (.doo pos) s F):=by
 have hc0:=hok.cnt;obtain⟨hk0,hpos⟩:=hp;unfold s_do;refine TrR.skip hT hok (hk0) fun hok=> ?_;refine ih.go0 (.body) rfl hok trivial (by have hlt:=hok.lt;simp only[Fn1.rank,FnL.rank]at*;omega) fun a1 s1 hok x1 i1 c1 kb=> ?_;have hc1:=hok.cnt;simp only[Fn1.lo,Fn1.sl,Fn1.Post,FnL.lo,FnL.sl,FnL.Post]at i1 c1 kb
 try simp only[aC,aB,aD]at i1
 try simp only[aC,aB,aD]at c1
 try simp only[aC,aB,aD]at hc1
 refine TrR.want hT hok (x:=([119,104,105,108,101]:List UInt8)) (by simp) fun hx hok _=> ?_;refine ih.go0 (.parens) rfl hok trivial (by have hlt:=hok.lt;simp only[Fn1.rank,FnL.rank]at*;omega) fun a2 s2 hok x2 i2 c2 ke=> ?_;have hc2:=hok.cnt;simp only[Fn1.lo,Fn1.sl,Fn1.Post,FnL.lo,FnL.sl,FnL.Post]at i2 c2 ke
 try simp only[aC,aB,aD]at i2
 try simp only[aC,aB,aD]at c2
 try simp only[aC,aB,aD]at hc2
 have kb1:=kb.1.mono x2;refine TrR.take hT hok (x:=([59]:List UInt8)) (by simp) (fun hx hok=> ?_) (fun hx=> ?_)<;>try simp only[if_true,aI,if_false]
 ·refine TrR.addL (F:=F) hT (hok.perm (aM.2 (by intro z;simp only[aO,aT,aV,Fn1.args,FnL.args];try omega))) ⟨((Shape.dos kb1 ke)),.inr ⟨by first|(simp;done)|(simp;omega),rfl⟩,.inr ⟨by first|(simp;done)|(simp;omega),rfl⟩,hpos,(fun h=>by simp at h)⟩ (by first|omega|(simp only[aC,aB,aD];omega)) fun hok x3 y3=> ?_;have k:=y3;have hc3:=hok.cnt;simp only[aC,aB,aD]at hc3;exact⟨hok,((x1.trans x2).trans x3),by simp only[Fn1.lo,FnL.lo];try omega,by simp only[aC,aB,aD,Fn1.sl,FnL.sl];try omega,⟨.base (.of k rfl),.of k rfl⟩⟩
 ·refine TrR.addL (F:=F) hT (hok.perm (aM.2 (by intro z;simp only[aO,aT,aV,Fn1.args,FnL.args];try omega))) ⟨((Shape.dos kb1 ke)),.inr ⟨by first|(simp;done)|(simp;omega),rfl⟩,.inr ⟨by first|(simp;done)|(simp;omega),rfl⟩,hpos,(fun h=>by simp at h)⟩ (by first|omega|(simp only[aC,aB,aD];omega)) fun hok x3 y3=> ?_;have k:=y3;have hc3:=hok.cnt;simp only[aC,aB,aD]at hc3;exact⟨hok,((x1.trans x2).trans x3),by simp only[Fn1.lo,FnL.lo];try omega,by simp only[aC,aB,aD,Fn1.sl,FnL.sl];try omega,⟨.base (.of k rfl),.of k rfl⟩⟩
theorem t_leave(hT:cN src T)(pos:Nat)(hok:Ok src T s F)(hp:(Fn1.leave pos).Pre src T s):TrR (pX T pos s) (Goal src T (.leave pos) s F):=by
 have hc0:=hok.cnt;obtain⟨hk0,hpos⟩:=hp;unfold pX;dsimp only;generalize hkd:(if isT T s ([99,111,110,116,105,110,117,101]:List UInt8)=true then 45 else 44)=kd;have hkd':kd=44∨kd=45:=by rw[←hkd];split<;>simp
 refine TrR.skip hT hok (hk0) fun hok=> ?_;refine TrR.bind (TrR.mono (R:=fun x s'=>Ok src T s' F∧s'.ns=s.ns∧s.i+1≤s'.i∧jQ x=true) ?_ ?_)
 ·refine TrR.ite (fun h=> ?_) (fun h=> ?_)
  ·have:=TrR.name (f:=Pure.pure) (Q:=fun x s'=>Ok src T s' F∧s'.ns=s.ns∧s.i+1≤s'.i∧jQ x=true) hT hok fun hk hn ha hok=>⟨hok,rfl,by simp,by simp[jQ,hn]⟩;have e:(gW T>>=Pure.pure)=gW T:=by funext s;show M.bind _ _ s=_;unfold M.bind;cases gW T s<;>rfl
   rw[e]at this;exact this
  ·exact⟨hok,rfl,by simp,rfl⟩
 ·intro x s0 ⟨hok,e0,i0,hx⟩;have hc00:=hok.cnt;rw[e0]at hc00;refine TrR.endS hT hok fun s2 e2 i2 hok=> ?_;rw[e0]at e2;have hsh:Shape s2.ns kd x []:=Shape.leave hkd' hx;refine TrR.addL (F:=F) hT hok ⟨hsh,.inr ⟨by simp;try omega,rfl⟩,.inr ⟨by simp;try omega,rfl⟩,hpos,by intro h;simp at h;omega⟩ (by rw[e2];omega) fun hok x3 y3=> ?_;rw[e2]at x3 y3 hok;refine⟨by rw[e2];exact hok,by rw[e2];exact x3,by simp only[Fn1.lo];omega,by rw[e2];simp only[aC,aB,aD,Fn1.sl];omega,?_⟩;dsimp only[Fn1.Post];rw[e2];refine⟨.base (.of y3 ?_),.of y3 ?_⟩<;>rcases hkd' with h|h<;>rw[h]<;>rfl
theorem t_back(hT:cN src T)(ih:Specs src T n)(pos:Nat)(hok:Ok src T s F)(hp:(Fn1.back pos).Pre src T s)(hm:40*(T.length-s.i)+2≤n):TrR (uY T (run T n) pos s) (Goal src T (.back pos) s F):=by
 have hc0:=hok.cnt;obtain⟨hk0,hpos⟩:=hp;unfold uY;refine TrR.skip hT hok (hk0) fun hok=> ?_;refine TrR.bind (TrR.mono (R:=fun l s'=>Ok src T s' (l++F)∧s.ns<+:s'.ns∧s.i+1≤s'.i∧s'.ns.length≤s.ns.length+8*(s'.i-(s.i+1))∧(l=[]∨∃e,l=[e]∧hasK s'.ns e cG)) ?_ ?_)
 ·refine TrR.ite (fun h=> ?_) (fun h=> ?_)
  ·refine ih.go0 (.expression true) rfl hok trivial (by have hlt:=hok.lt;simp only[Fn1.rank,FnL.rank]at*;omega) fun a1 s1 hok x1 i1 c1 ke=> ?_;have hc1:=hok.cnt;simp only[Fn1.lo,Fn1.sl,Fn1.Post,FnL.lo,FnL.sl,FnL.Post]at i1 c1 ke
   try simp only[aC,aB,aD]at i1
   try simp only[aC,aB,aD]at c1
   try simp only[aC,aB,aD]at hc1
   refine TrR.pure ?_;exact⟨hok,x1,by omega,by omega,.inr ⟨_,rfl,ke⟩⟩
  ·exact⟨hok,List.prefix_refl _,by simp,by simp,.inl rfl⟩
 ·intro l s0 ⟨hok,x0,i0,c0,hl⟩;have hc00:=hok.cnt;refine TrR.endS hT hok fun s2 e2 i2 hok=> ?_;have hl2:l=[]∨∃e,l=[e]∧hasK s2.ns e cG:=by rw[e2];exact hl
  have x2:s.ns<+:s2.ns:=by rw[e2];exact x0
  have c2:s2.ns.length=s0.ns.length:=by rw[e2]
  refine TrR.addL (F:=F) hT (hok.perm (aM.2 (by intro z;simp only[aO,aT,aV,Fn1.args,FnL.args];try omega))) ⟨((Shape.ret hl2)),.inr ⟨by first|(simp;done)|(simp;omega),rfl⟩,.inr ⟨by first|(simp;done)|(simp;omega),rfl⟩,hpos,(fun h=>by simp at h)⟩ (by first|omega|(simp only[aC,aB,aD];omega)) fun hok x1 y1=> ?_;have k:=y1;have hc1:=hok.cnt;simp only[aC,aB,aD]at hc1;exact⟨hok,x2.trans x1,by simp only[Fn1.lo];omega,by simp only[aC,aB,aD,Fn1.sl];omega,⟨.base (.of k rfl),.of k rfl⟩⟩
theorem t_throw(hT:cN src T)(ih:Specs src T n)(pos:Nat)(hok:Ok src T s F)(hp:(Fn1.throw pos).Pre src T s)(hm:40*(T.length-s.i)+2≤n):TrR (pU T (run T n) pos s) (Goal src T (.throw pos) s F):=by
 have hc0:=hok.cnt;obtain⟨hk0,hpos⟩:=hp;unfold pU;refine TrR.skip hT hok (hk0) fun hok=> ?_;refine TrR.ite (fun h=>trivial) (fun h=> ?_);refine ih.go0 (.expression true) rfl hok trivial (by have hlt:=hok.lt;simp only[Fn1.rank,FnL.rank]at*;omega) fun a1 s1 hok x1 i1 c1 ke=> ?_;have hc1:=hok.cnt;simp only[Fn1.lo,Fn1.sl,Fn1.Post,FnL.lo,FnL.sl,FnL.Post]at i1 c1 ke
 try simp only[aC,aB,aD]at i1
 try simp only[aC,aB,aD]at c1
 try simp only[aC,aB,aD]at hc1
 refine TrR.endS hT hok fun s2 e2 i2 hok=> ?_;have ke2:hasK s2.ns a1 cG:=by rw[e2];exact ke
 have xx:s.ns<+:s2.ns:=by rw[e2];exact x1
 have cc:s2.ns.length=s1.ns.length:=by rw[e2]
 refine TrR.addL (F:=F) hT (hok.perm (aM.2 (by intro z;simp only[aO,aT,aV,Fn1.args,FnL.args];try omega))) ⟨((Shape.one (.inr (.inr (.inl rfl))) ke2)),.inr ⟨by first|(simp;done)|(simp;omega),rfl⟩,.inr ⟨by first|(simp;done)|(simp;omega),rfl⟩,hpos,(fun h=>by simp at h)⟩ (by first|omega|(simp only[aC,aB,aD];omega)) fun hok x2 y2=> ?_;have k:=y2;have hc2:=hok.cnt;simp only[aC,aB,aD]at hc2;exact⟨hok,xx.trans x2,by simp only[Fn1.lo];omega,by simp only[aC,aB,aD,Fn1.sl];omega,⟨.base (.of k rfl),.of k rfl⟩⟩
end
end
end Go.Proofs.YtfmbepijhnaklaaGreatDoor
