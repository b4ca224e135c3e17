/- Proved here: The mirror of the parser ends, and what it ends with is right | The mirror of the parser ends, and what it ends with is right | The parser's functions that call each other, eleventh part | The parser's functions that call each other, twelfth part | The parser's functions that call each other, thirteenth part | The parser's functions that call each other, fourteenth part. Conditions: what each statement names. -/
import Derived.Test.YtfmbepijhnaklaaGreatDoorK11
import Derived.Test.YtfmbepijhnaklaaGreatDoorK10
set_option maxRecDepth 100000
set_option maxHeartbeats 4000000
set_option linter.unusedSimpArgs false
set_option linter.unusedVariables false
set_option linter.defProp false
open Nat renaming reduceEqDiff → aA, le_of_ble_eq_true → aG, mul_one → aP, zero_mul → aQ, zero_add → aR, reduceBEq → aY, reduceAdd → aZ, le_refl → bA
open List renaming length_cons → aB, length_append → aC, length_nil → aD, map_toArray → aH, map_cons → aJ, map_nil → aK, perm_iff_count → aM, count_append → aO, getElem?_eq_getElem → aS, count_cons → aT, count_nil → aV
open Go.Proofs.Tryz renaming prog → aE
open Int renaming toNat_natCast → aF, toNat_zero → aN, toNat_one → aX
open Bool renaming false_eq_true → aI, eq_iff_iff → aW
open And renaming intro → aL
open Go.IntWalk renaming i64_in → aU
namespace Go.Proofs.YtfmbepijhnaklaaGreatDoor
section
section
variable{src:List UInt8}{T:List Tk}{n:Nat}{s:St}{F:List Nat}
theorem vJ(hT:cN src T){p:Nat→Bool}(hp:p 54=true)(hok:Ok src T s F)(hc:s.ns.length+1≤8*s.i+4):
 TrR (cP 54 0 [] s) fun a s'=>Ok src T s' (a::F)∧s.ns<+:s'.ns∧s'.i=s.i∧s'.ns.length=s.ns.length+1∧hasK s'.ns a (·==54):=by
 refine TrR.addL (F:=F) hT (hok.perm (aM.2 (by intro z;simp only[aO,aT,aV,Fn1.args,FnL.args];try omega))) ⟨((Shape.plain (by simp))),.inr ⟨by first|(simp;done)|(simp;omega),rfl⟩,.inr ⟨by first|(simp;done)|(simp;omega),rfl⟩,(Nat.zero_le _),(fun h=>by simp at h)⟩ (by first|omega|(simp only[aC,aB,aD];omega)) fun hok x1 y1=> ?_;have k:=y1;have hc1:=hok.cnt;simp only[aC,aB,aD]at hc1;exact⟨hok,x1,rfl,by simp,.of k rfl⟩
theorem t_try(hT:cN src T)(ih:Specs src T n)(pos:Nat)(hok:Ok src T s F)(hp:(Fn1.tryy pos).Pre src T s)(hm:40*(T.length-s.i)+2≤n):TrR (s_try T (run T n) pos s) (Goal src T (.tryy pos) s F):=by
 have hc0:=hok.cnt;obtain⟨hk0,hpos⟩:=hp;unfold s_try;refine TrR.skip hT hok (hk0) fun hok=> ?_;refine ih.go0 (.block) rfl hok trivial (by have hlt:=hok.lt;simp only[Fn1.rank,FnL.rank]at*;omega) fun a1 s1 hok x1 i1 c1 kb=> ?_;have hc1:=hok.cnt;simp only[Fn1.lo,Fn1.sl,Fn1.Post,FnL.lo,FnL.sl,FnL.Post]at i1 c1 kb
 try simp only[aC,aB,aD]at i1
 try simp only[aC,aB,aD]at c1
 try simp only[aC,aB,aD]at hc1
 have fin:∀(cat:Bool) (x:List UInt8) (c:Nat) (s0:St),Ok src T s0 (c::a1::F)→s1.ns<+:s0.ns→s1.i≤s0.i→s0.ns.length≤s1.ns.length+8*(s0.i-s1.i)+1→(if cat then nmB x=true∧hasK s0.ns c (·==32)else x=[]∧hasK s0.ns c (·==54))→
  TrR ((eY T [102,105,110,97,108,108,121]>>=fun fin=>(if fin then(run T n).e .block else cP 54 0 [])>>=fun f=>if !cat&& !fin then failT T else eM 48 x pos [a1,c,f]) s0) (Goal src T (.tryy pos) s F):=by
  intro cat x c s0 hok x0 i0 c0 hcat;have hc00:=hok.cnt;have kb:=kb.mono x0;refine TrR.take hT hok (x:=([102,105,110,97,108,108,121]:List UInt8)) (by simp) (fun hx hok=> ?_) (fun hx=> ?_)<;>try simp only[if_true,aI,if_false]
  ·refine ih.go0 (.block) rfl hok trivial (by have hlt:=hok.lt;simp only[Fn1.rank,FnL.rank]at*;omega) fun a2 s2 hok x2 i2 c2 kf=> ?_;have hc2:=hok.cnt;simp only[Fn1.lo,Fn1.sl,Fn1.Post,FnL.lo,FnL.sl,FnL.Post]at i2 c2 kf
   try simp only[aC,aB,aD]at i2
   try simp only[aC,aB,aD]at c2
   try simp only[aC,aB,aD]at hc2
   have kb:=kb.mono x2;simp only[Bool.not_true,Bool.and_false,aI,if_false]
   have hsh:(nmB x=true∧hasK s2.ns c (·==32)∧hasK s2.ns a2 (fun k=>k==32||k==54))∨(x=[]∧hasK s2.ns c (·==54)∧hasK s2.ns a2 (·==32)):=by
    cases cat with
    |true=>exact .inl ⟨hcat.1,hcat.2.mono x2,kf.imp fun _ h=>by simp[h]⟩
    |false=>exact .inr ⟨hcat.1,hcat.2.mono x2,kf⟩
   refine TrR.addL (F:=F) hT (hok.perm (aM.2 (by intro z;simp only[aO,aT,aV,Fn1.args,FnL.args];try omega))) ⟨((Shape.tries kb hsh)),.inr ⟨by first|(simp;done)|(simp;omega),rfl⟩,.inr ⟨by first|(simp;done)|(simp;omega),rfl⟩,hpos,(fun h=>by simp at h)⟩ (by first|omega|(simp only[aC,aB,aD];omega)) fun hok x3 y3=> ?_;have k:=y3;have hc3:=hok.cnt;simp only[aC,aB,aD]at hc3;exact⟨hok,x1.trans (x0.trans (x2.trans x3)),by simp only[Fn1.lo];omega,by simp only[aC,aB,aD,Fn1.sl];omega,⟨.base (.of k rfl),.of k rfl⟩⟩
  ·cases cat with
   |false=>
    refine TrR.bind ((vJ hT (p:=fun _=>true) rfl hok (by omega)).mono fun f s2 h2=> ?_)
    trivial
   |true=>
    refine TrR.bind ((vJ hT (p:=fun _=>true) rfl hok (by omega)).mono fun f s2 ⟨hok,xm,i2,c2,kf⟩=> ?_);have hc2:=hok.cnt;simp only[Bool.not_true,Bool.false_and,aI,if_false];have kb:=kb.mono xm
    have hsh:(nmB x=true∧hasK s2.ns c (·==32)∧hasK s2.ns f (fun k=>k==32||k==54))∨(x=[]∧hasK s2.ns c (·==54)∧hasK s2.ns f (·==32)):=
     .inl ⟨hcat.1,hcat.2.mono xm,kf.imp fun _ h=>by simp[h]⟩
    refine TrR.addL (F:=F) hT (hok.perm (aM.2 (by intro z;simp only[aO,aT,aV,Fn1.args,FnL.args];try omega))) ⟨((Shape.tries kb hsh)),.inr ⟨by first|(simp;done)|(simp;omega),rfl⟩,.inr ⟨by first|(simp;done)|(simp;omega),rfl⟩,hpos,(fun h=>by simp at h)⟩ (by first|omega|(simp only[aC,aB,aD];omega)) fun hok x2 y2=> ?_;have k:=y2;have hc2:=hok.cnt;simp only[aC,aB,aD]at hc2;exact⟨hok,x1.trans (x0.trans (xm.trans x2)),by simp only[Fn1.lo];omega,by simp only[aC,aB,aD,Fn1.sl];omega,⟨.base (.of k rfl),.of k rfl⟩⟩
 refine TrR.take hT hok (x:=([99,97,116,99,104]:List UInt8)) (by simp) (fun hx hok=> ?_) (fun hx=> ?_)<;>try simp only[if_true,aI,if_false]
 ·refine TrR.bind ?_;refine TrR.want hT hok (x:=([40]:List UInt8)) (by simp) fun hx hok _=> ?_;refine TrR.name hT hok fun hxk hxn hxa hok=> ?_;refine TrR.want hT hok (x:=([41]:List UInt8)) (by simp) fun hx hok _=> ?_;refine ih.go0 (.block) rfl hok trivial (by have hlt:=hok.lt;simp only[Fn1.rank,FnL.rank]at*;omega) fun a2 s2 hok x2 i2 c2 kc=> ?_;have hc2:=hok.cnt;simp only[Fn1.lo,Fn1.sl,Fn1.Post,FnL.lo,FnL.sl,FnL.Post]at i2 c2 kc
  try simp only[aC,aB,aD]at i2
  try simp only[aC,aB,aD]at c2
  try simp only[aC,aB,aD]at hc2
  refine TrR.pure ?_;exact fin true _ _ _ hok x2 (by omega) (by omega) ⟨hxn,kc⟩
 ·refine TrR.bind (TrR.bind ((vJ hT (p:=fun _=>true) rfl hok (by omega)).mono fun c s2 ⟨hok,x2,i2,c2,kc⟩=> ?_));refine TrR.pure ?_;exact fin false _ _ _ hok x2 (by omega) (by omega) ⟨rfl,kc⟩
theorem t_choice(hT:cN src T)(ih:Specs src T n)(pos:Nat)(hok:Ok src T s F)(hp:(Fn1.choice pos).Pre src T s)(hm:40*(T.length-s.i)+2≤n):TrR (nU T (run T n) pos s) (Goal src T (.choice pos) s F):=by
 have hc0:=hok.cnt;obtain⟨hk0,hpos⟩:=hp;unfold nU;refine TrR.skip hT hok (hk0) fun hok=> ?_;refine ih.go0 (.parens) rfl hok trivial (by have hlt:=hok.lt;simp only[Fn1.rank,FnL.rank]at*;omega) fun a1 s1 hok x1 i1 c1 ke=> ?_;have hc1:=hok.cnt;simp only[Fn1.lo,Fn1.sl,Fn1.Post,FnL.lo,FnL.sl,FnL.Post]at i1 c1 ke
 try simp only[aC,aB,aD]at i1
 try simp only[aC,aB,aD]at c1
 try simp only[aC,aB,aD]at hc1
 refine TrR.want hT hok (x:=([123]:List UInt8)) (by simp) fun hx hok _=> ?_;refine ih.goL (.chLoop pos false [a1]) (F:=F) (hok.perm (aM.2 (by intro z;simp only[aO,aT,aV,Fn1.args,FnL.args];try omega))) (⟨hpos,a1,[],rfl,ke,.nil,.nil⟩) (by have hlt:=hok.lt;simp only[Fn1.rank,FnL.rank]at*;omega) fun a2 s2 hok x2 i2 c2 k=> ?_;have hc2:=hok.cnt;simp only[Fn1.lo,Fn1.sl,Fn1.Post,FnL.lo,FnL.sl,FnL.Post]at i2 c2 k
 try simp only[aC,aB,aD]at i2
 try simp only[aC,aB,aD]at c2
 try simp only[aC,aB,aD]at hc2
 exact⟨hok,(x1.trans x2),by simp only[Fn1.lo,FnL.lo];try omega,by simp only[aC,aB,aD,Fn1.sl,FnL.sl];try omega,k⟩
theorem chKids.mono{ns ns':List Nd}(h:ns<+:ns'){known:Bool}{l:List Nat}(k:chKids ns known l):chKids ns' known l:=by
 obtain⟨e,m,rfl,he,hm,hk⟩:=k;refine⟨e,m,rfl,he.mono h,hm.mono h,?_⟩
 cases known with
 |false=>exact allK.mono h hk
 |true=>
  obtain⟨l1,l2,rfl,h1,d,l3,rfl,h2,h3⟩:=hk;exact⟨l1,_,rfl,h1.mono h,d,l3,rfl,h2.mono h,h3.mono h⟩
theorem chKids.case{ns:List Nd}{known:Bool}{l:List Nat}{a:Nat}(k:chKids ns known l)(ha:hasK ns a (·==50)):chKids ns known (l++[a]):=by
 obtain⟨e,m,rfl,he,hm,hk⟩:=k;refine⟨e,m++[a],rfl,he,hm.snoc (ha.imp fun _ h=>by simp[nB,h]),?_⟩
 cases known with
 |false=>exact allK.snoc hk ha
 |true=>
  obtain⟨l1,l2,rfl,h1,d,l3,rfl,h2,h3⟩:=hk;exact⟨l1,d::(l3++[a]),by simp,h1,d,_,rfl,h2,h3.snoc ha⟩
theorem chKids.default{ns:List Nd}{l:List Nat}{a:Nat}(k:chKids ns false l)(ha:hasK ns a (·==51)):chKids ns true (l++[a]):=by
 obtain⟨e,m,rfl,he,hm,hk⟩:=k;exact⟨e,m++[a],rfl,he,hm.snoc (ha.imp fun _ h=>by simp[nB,h]),m,[a],rfl,hk,a,[],rfl,ha,.nil⟩
theorem t_chLoop(hT:cN src T)(ih:Specs src T n)(pos:Nat)(known:Bool)(kids:List Nat)(hok:Ok src T s (kids++F))(hp:(Fn1.chLoop pos known kids).Pre src T s)(hm:40*(T.length-s.i)+2≤n):TrR (nV T (run T n) pos known kids s) (Goal src T (.chLoop pos known kids) s F):=by
 have hc0:=hok.cnt;have hfr:=(hT.tk _ (dY hok.lt)).fr;obtain⟨hpos,hch⟩:=hp;unfold nV;refine TrR.ite (fun h=> ?_) (fun h=> ?_)
 ·refine TrR.want hT hok (x:=([125]:List UInt8)) (by simp) fun hx hok _=> ?_
  have hsh:Shape s.ns 49 [] kids:=by
   obtain⟨e,m,rfl,he,hm,hk⟩:=hch;refine .switch (m:=[]) he hm ?_
   cases known with
   |false=>exact⟨m,[],by simp,hk,.inl rfl⟩
   |true=>obtain⟨l1,l2,h0,h1,h2⟩:=hk;exact⟨l1,l2,h0,h1,.inr h2⟩
  refine TrR.addL (F:=F) hT (hok.perm (aM.2 (by intro z;simp only[aO,aT,aV,Fn1.args,FnL.args];try omega))) ⟨(hsh),.inr ⟨by first|(simp;done)|(simp;omega),rfl⟩,.inr ⟨by first|(simp;done)|(simp;omega),rfl⟩,hpos,(fun h=>by simp at h)⟩ (by first|omega|(simp only[aC,aB,aD];omega)) fun hok x1 y1=> ?_;have k:=y1;have hc1:=hok.cnt;simp only[aC,aB,aD]at hc1;exact⟨hok,x1,by simp only[Fn1.lo,FnL.lo];try omega,by simp only[aC,aB,aD,Fn1.sl,FnL.sl];try omega,⟨.base (.of k rfl),.of k rfl⟩⟩
 ·dsimp only;refine TrR.take hT hok (x:=([99,97,115,101]:List UInt8)) (by simp) (fun hx hok=> ?_) (fun hx=> ?_)<;>try simp only[if_true,aI,if_false]
  ·refine ih.go0 (.expression true) rfl hok trivial (by have hlt:=hok.lt;simp only[Fn1.rank,FnL.rank]at*;omega) fun a1 s1 hok x1 i1 c1 ke=> ?_;have hc1:=hok.cnt;simp only[Fn1.lo,Fn1.sl,Fn1.Post,FnL.lo,FnL.sl,FnL.Post]at i1 c1 ke
   try simp only[aC,aB,aD]at i1
   try simp only[aC,aB,aD]at c1
   try simp only[aC,aB,aD]at hc1
   have hch:=hch.mono x1;refine TrR.want hT hok (x:=([58]:List UInt8)) (by simp) fun hx hok _=> ?_;refine ih.gol0 (.list) rfl hok trivial (by have hlt:=hok.lt;simp only[Fn1.rank,FnL.rank]at*;omega) fun a2 s2 hok x2 i2 c2 kl=> ?_;have hc2:=hok.cnt;simp only[Fn1.lo,Fn1.sl,Fn1.Post,FnL.lo,FnL.sl,FnL.Post]at i2 c2 kl
   try simp only[aC,aB,aD]at i2
   try simp only[aC,aB,aD]at c2
   try simp only[aC,aB,aD]at hc2
   have hch:=hch.mono x2;have ke:=ke.mono x2;refine TrR.add (F:=kids++F) hT (hok.perm (aM.2 (by intro z;simp only[aO,aT,aV,Fn1.args,FnL.args];try omega))) ⟨((Shape.case ke kl)),.inr ⟨by first|(simp;done)|(simp;omega),rfl⟩,.inr ⟨by first|(simp;done)|(simp;omega),rfl⟩,hfr,(fun h=>by simp at h)⟩ (by first|omega|(simp only[aC,aB,aD];omega)) fun hok x3 y3=> ?_;have k:=y3;have hc3:=hok.cnt;simp only[aC,aB,aD]at hc3;have hch:=hch.mono x3;refine ih.goL (.chLoop pos known (kids++[s2.ns.length])) (F:=F) (hok.perm (aM.2 (by intro z;simp only[aO,aT,aV,Fn1.args,FnL.args];try omega))) (⟨hpos,hch.case (.of k rfl)⟩) (by have hlt:=hok.lt;simp only[Fn1.rank,FnL.rank]at*;omega) fun a4 s4 hok x4 i4 c4 k2=> ?_;have hc4:=hok.cnt;simp only[Fn1.lo,Fn1.sl,Fn1.Post,FnL.lo,FnL.sl,FnL.Post]at i4 c4 k2
   try simp only[aC,aB,aD]at i4
   try simp only[aC,aB,aD]at c4
   try simp only[aC,aB,aD]at hc4
   exact⟨hok,(((x1.trans x2).trans x3).trans x4),by simp only[Fn1.lo,FnL.lo];try omega,by simp only[aC,aB,aD,Fn1.sl,FnL.sl];try omega,k2⟩
  ·refine TrR.ite (fun h=> ?_) (fun h=>trivial);simp only[Bool.and_eq_true,Bool.not_eq_true']at h;obtain⟨hkn,hx⟩:=h;subst hkn;have hk0:=rQ hx (by simp);refine TrR.skip hT hok (hk0) fun hok=> ?_;refine TrR.want hT hok (x:=([58]:List UInt8)) (by simp) fun hx hok _=> ?_;refine ih.gol0 (.list) rfl hok trivial (by have hlt:=hok.lt;simp only[Fn1.rank,FnL.rank]at*;omega) fun a1 s1 hok x1 i1 c1 kl=> ?_;have hc1:=hok.cnt;simp only[Fn1.lo,Fn1.sl,Fn1.Post,FnL.lo,FnL.sl,FnL.Post]at i1 c1 kl
   try simp only[aC,aB,aD]at i1
   try simp only[aC,aB,aD]at c1
   try simp only[aC,aB,aD]at hc1
   have hch:=hch.mono x1;refine TrR.add (F:=kids++F) hT (hok.perm (aM.2 (by intro z;simp only[aO,aT,aV,Fn1.args,FnL.args];try omega))) ⟨((Shape.stmts (.inr (.inl rfl)) kl)),.inr ⟨by first|(simp;done)|(simp;omega),rfl⟩,.inr ⟨by first|(simp;done)|(simp;omega),rfl⟩,hfr,(fun h=>by simp at h)⟩ (by first|omega|(simp only[aC,aB,aD];omega)) fun hok x2 y2=> ?_;have k:=y2;have hc2:=hok.cnt;simp only[aC,aB,aD]at hc2;have hch:=hch.mono x2;refine ih.goL (.chLoop pos true (kids++[s1.ns.length])) (F:=F) (hok.perm (aM.2 (by intro z;simp only[aO,aT,aV,Fn1.args,FnL.args];try omega))) (⟨hpos,hch.default (.of k rfl)⟩) (by have hlt:=hok.lt;simp only[Fn1.rank,FnL.rank]at*;omega) fun a3 s3 hok x3 i3 c3 k2=> ?_;have hc3:=hok.cnt;simp only[Fn1.lo,Fn1.sl,Fn1.Post,FnL.lo,FnL.sl,FnL.Post]at i3 c3 k2
   try simp only[aC,aB,aD]at i3
   try simp only[aC,aB,aD]at c3
   try simp only[aC,aB,aD]at hc3
   exact⟨hok,((x1.trans x2).trans x3),by simp only[Fn1.lo,FnL.lo];try omega,by simp only[aC,aB,aD,Fn1.sl,FnL.sl];try omega,k2⟩
theorem midN(hT:cN src T)(ih:Specs src T n){x:List UInt8}(hok:Ok src T s F)(hc:s.ns.length+1≤8*s.i+4)(hm:40*(T.length-s.i)+21≤n)(inn:Bool):
 TrR (if isT T s x then cP 54 0 [] s else(run T n).e (.expression inn) s) fun a s'=>Ok src T s' (a::F)∧s.ns<+:s'.ns∧s.i≤s'.i∧s'.ns.length≤s.ns.length+8*(s'.i-s.i)+1∧hasK s'.ns a midK:=by
 refine TrR.ite (fun h=> ?_) (fun h=> ?_)
 ·exact(vJ hT (p:=fun _=>true) rfl hok hc).mono fun a s' ⟨h1,h2,h3,h4,h5⟩=>⟨h1,h2,by omega,by omega,h5.imp fun k h=>by simp at h;subst h;rfl⟩
 ·refine ih.goL0 (.expression inn) rfl hok trivial (by have hlt:=hok.lt;simp only[Fn1.rank,FnL.rank]at*;omega) fun a1 s1 hok x1 i1 c1 k=> ?_;have hc1:=hok.cnt;simp only[Fn1.lo,Fn1.sl,Fn1.Post,FnL.lo,FnL.sl,FnL.Post]at i1 c1 k
  try simp only[aC,aB,aD]at i1
  try simp only[aC,aB,aD]at c1
  try simp only[aC,aB,aD]at hc1
  exact⟨hok,x1,by omega,by omega,k.imp fun _ h=>by simp[midK,h]⟩
theorem t_loop(hT:cN src T)(ih:Specs src T n)(pos:Nat)(hok:Ok src T s F)(hp:(Fn1.loop pos).Pre src T s)(hm:40*(T.length-s.i)+2≤n):TrR (uT T (run T n) pos s) (Goal src T (.loop pos) s F):=by
 have hc0:=hok.cnt;obtain⟨hk0,hpos⟩:=hp;unfold uT;refine TrR.skip hT hok (hk0) fun hok=> ?_;refine TrR.want hT hok (x:=([40]:List UInt8)) (by simp) fun hx hok _=> ?_;dsimp only;generalize hs2:({i:=s.i+1+1,ns:=s.ns}:St)=s2 at hok⊢;have hi2:s2.i=s.i+2:=by rw[←hs2]
 have hn2:s2.ns=s.ns:=by rw[←hs2]
 have hdk:∀d,(isT T s2 [108,101,116]||isT T s2 [99,111,110,115,116])=d→d=true→(nowT T s2).kind≠0:=by
  intro d hd hdt;rw[hdt,Bool.or_eq_true]at hd;rcases hd with h|h
  ·exact rQ h (by simp)
  ·exact rQ h (by simp)
 generalize hd:(isT T s2 [108,101,116]||isT T s2 [99,111,110,115,116])=d;have hdk:=hdk d hd;refine TrR.ite (fun h=> ?_) (fun h=> ?_)
 ·refine(ih.e (.each pos d) s2 F hok ⟨hpos,?_⟩ (by simp only[Fn1.rank];omega)).mono fun a s3 ⟨hok,x3,i3,c3,k⟩=> ?_
  ·cases d with
   |true=>exact⟨hdk rfl,h.1,h.2⟩
   |false=>
    have h0:bU T s2 0=nowT T s2:=by unfold bU nowT;rw[Nat.add_zero,Nat.min_eq_left (by have:=hok.lt;omega)]
    have h1:=h.1;simp only[aI,if_false]at h1;rw[h0]at h1;exact⟨h1,h.2⟩
  ·simp only[Fn1.lo,Fn1.sl]at i3 c3;rw[hn2]at x3 c3;exact⟨hok,x3,by simp only[Fn1.lo];omega,by simp only[Fn1.sl];omega,k⟩
 ·have hc2:=hok.cnt;have hl2:=hok.lt;rw[hn2]at hc2;refine TrR.bind (TrR.mono (R:=fun a s'=>Ok src T s' (a::F)∧s2.ns<+:s'.ns∧s2.i≤s'.i∧s'.ns.length≤s2.ns.length+8*(s'.i-s2.i)+1∧hasK s'.ns a (fun k=>fN k||midK k)) ?_ ?_)
  ·cases d with
   |true=>
    simp only[if_true];refine ih.goL0 (.declaration false) rfl hok ((hdk rfl)) (by have hlt:=hok.lt;simp only[Fn1.rank,FnL.rank]at*;omega) fun a1 s1 hok x1 i1 c1 k=> ?_;have hc1:=hok.cnt;simp only[Fn1.lo,Fn1.sl,Fn1.Post,FnL.lo,FnL.sl,FnL.Post]at i1 c1 k
    try simp only[aC,aB,aD]at i1
    try simp only[aC,aB,aD]at c1
    try simp only[aC,aB,aD]at hc1
    exact⟨hok,x1,by omega,by omega,k.imp fun _ h=>by simp[h]⟩
   |false=>
    simp only[aI,if_false];exact(midN hT ih hok (by rw[hn2];omega) (by omega) false).mono fun a s' ⟨h1,h2,h3,h4,h5⟩=>⟨h1,h2,h3,h4,h5.imp fun _ h=>by simp[h]⟩
  ·intro a s3 ⟨hok,x3,i3,c3,ka⟩;have hc3:=hok.cnt;rw[hn2]at x3 c3;refine TrR.want hT hok (x:=([59]:List UInt8)) (by simp) fun hx hok _=> ?_;refine TrR.bind ((midN hT ih hok (by simp only[];omega) (by have hl9:=hok.lt;simp only[]at hl9⊢;omega) true).mono ?_);intro b s4 ⟨hok,x4,i4,c4,kb⟩;have hc4:=hok.cnt;have ka:=ka.mono x4;dsimp only at i4 c4;refine TrR.want hT hok (x:=([59]:List UInt8)) (by simp) fun hx hok _=> ?_;refine TrR.bind ((midN hT ih hok (by simp only[];omega) (by have hl9:=hok.lt;simp only[]at hl9⊢;omega) true).mono ?_);intro c s5 ⟨hok,x5,i5,c5,kc⟩;have hc5:=hok.cnt;have ka:=ka.mono x5;have kb:=kb.mono x5;dsimp only at i5 c5;refine TrR.want hT hok (x:=([41]:List UInt8)) (by simp) fun hx hok _=> ?_;refine ih.go0 (.body) rfl hok trivial (by have hlt:=hok.lt;simp only[Fn1.rank,FnL.rank]at*;omega) fun a1 s1 hok x1 i1 c1 kd=> ?_;have hc1:=hok.cnt;simp only[Fn1.lo,Fn1.sl,Fn1.Post,FnL.lo,FnL.sl,FnL.Post]at i1 c1 kd
   try simp only[aC,aB,aD]at i1
   try simp only[aC,aB,aD]at c1
   try simp only[aC,aB,aD]at hc1
   have ka:=ka.mono x1;have kb:=kb.mono x1;have kc:=kc.mono x1;refine TrR.addL (F:=F) hT (hok.perm (aM.2 (by intro z;simp only[aO,aT,aV,Fn1.args,FnL.args];try omega))) ⟨((Shape.fors ka kb kc kd.1)),.inr ⟨by first|(simp;done)|(simp;omega),rfl⟩,.inr ⟨by first|(simp;done)|(simp;omega),rfl⟩,hpos,(fun h=>by simp at h)⟩ (by first|omega|(simp only[aC,aB,aD];omega)) fun hok x2 y2=> ?_;have k:=y2;have hc2:=hok.cnt;simp only[aC,aB,aD]at hc2;exact⟨hok,x3.trans (x4.trans (x5.trans (x1.trans x2))),by simp only[Fn1.lo];omega,by simp only[aC,aB,aD,Fn1.sl];omega,⟨.base (.of k rfl),.of k rfl⟩⟩
theorem over_ne{t:Tk}(h:iO t=true):t.kind≠0:=by
 unfold iO at h;simp only[Bool.or_eq_true,Bool.and_eq_true,beq_iff_eq]at h;omega
theorem t_each(hT:cN src T)(ih:Specs src T n)(pos:Nat)(d:Bool)(hok:Ok src T s F)(hp:(Fn1.each pos d).Pre src T s)(hm:40*(T.length-s.i)+1≤n):TrR (uW T (run T n) pos d s) (Goal src T (.each pos d) s F):=by
 have hc0:=hok.cnt;have hfr0:=(hT.tk _ (dY hok.lt)).fr;obtain⟨hpos,hp⟩:=hp
 have main:∀s0,Ok src T s0 F→s0.ns=s.ns→s.i≤s0.i→(nowT T s0).kind=1→iO (bU T s0 1)=true→TrR (((do
  dS T
  let first←(if !d then eM 6 (nowT T s0).text (nowT T s0).fr []else(do
   let k←eM 35 (nowT T s0).text (nowT T s0).fr []
   cP (if(nowT T s).text==([108,101,116]:List UInt8)then 33 else 34) (nowT T s).fr [k]:M Nat))
  if←eY T [105,110]then
   let e←(run T n).e (.expression true)
   let _←dA T [41]
   let b←(run T n).e .body
   cP 40 pos [first,e,b]
  else
   dS T
   let e←(run T n).e (.assignment true)
   let _←dA T [41]
   let b←(run T n).e .body
   cP 41 pos [first,e,b]:M Nat)) s0) (Goal src T (.each pos d) s F):=by
  intro s0 hok e0 i0 hk1 hov;have hc00:=hok.cnt;have htk:=hT.tk _ (dY hok.lt);have hfr:=htk.fr;have hnm:=htk.name hk1;have hk0:(nowT T s0).kind≠0:=by omega
  refine TrR.skip hT hok (hk0) fun hok=> ?_
  have hov':iO (nowT T {s0 with i:=s0.i+1})=true:=by
   have hlt:=hok.lt;dsimp only at hlt;have e1:bU T s0 1=nowT T {s0 with i:=s0.i+1}:=by unfold bU nowT;rw[Nat.min_eq_left (by omega)]
   rw[←e1];exact hov
  have hc01:s0.ns.length=s.ns.length:=by rw[e0]
  refine TrR.bind (TrR.mono (R:=fun a s'=>Ok src T s' (a::F)∧s0.ns<+:s'.ns∧s'.i=s0.i+1∧s'.ns.length≤s0.ns.length+2∧(hasK s'.ns a (·==6)∨oneInit s'.ns a)) ?_ ?_)
  ·cases d with
   |false=>
    simp only[Bool.not_false,if_true];refine TrR.addL (F:=F) hT (hok.perm (aM.2 (by intro z;simp only[aO,aT,aV,Fn1.args,FnL.args];try omega))) ⟨((Shape.name hnm.1)),.inr ⟨by first|(simp;done)|(simp;omega),rfl⟩,.inr ⟨by first|(simp;done)|(simp;omega),rfl⟩,hfr,(fun _=>hnm.2)⟩ (by first|omega|(simp only[aC,aB,aD];omega)) fun hok x1 y1=> ?_;have k:=y1;have hc1:=hok.cnt;simp only[aC,aB,aD]at hc1
    exact⟨hok,x1,rfl,by simp,.inl (.of k rfl)⟩
   |true=>
    simp only[Bool.not_true,aI,if_false];refine TrR.add (F:=F) hT (hok.perm (aM.2 (by intro z;simp only[aO,aT,aV,Fn1.args,FnL.args];try omega))) ⟨((Shape.init hnm.1 (.inl rfl))),.inr ⟨by first|(simp;done)|(simp;omega),rfl⟩,.inr ⟨by first|(simp;done)|(simp;omega),rfl⟩,hfr,(fun h=>by simp at h)⟩ (by first|omega|(simp only[aC,aB,aD];omega)) fun hok x1 y1=> ?_;have k:=y1;have hc1:=hok.cnt;simp only[aC,aB,aD]at hc1;have hdk:fN (if((nowT T s).text==([108,101,116]:List UInt8))=true then 33 else 34)=true:=by split<;>rfl
    generalize(if((nowT T s).text==([108,101,116]:List UInt8))=true then 33 else 34)=kd at hdk⊢;have hk1:kd=33∨kd=34:=by simpa[fN]using hdk
    refine TrR.addL (F:=F) hT hok ⟨Shape.decl hdk (.cons (.of k rfl) .nil),.inr ⟨by simp;try omega,rfl⟩,.inr ⟨by simp;try omega,rfl⟩,hfr0,by intro h;simp at h;omega⟩ (by simp;rw[e0];omega) fun hok x2 y2=> ?_;exact⟨hok,x1.trans x2,rfl,by simp,.inr ⟨_,_,_,y2,hdk,rfl,gQ x2 k,rfl⟩⟩
  ·intro f s3 ⟨hok,xf,i3,c3,kf⟩;have hc3:=hok.cnt;have hnow:nowT T s3=nowT T {s0 with i:=s0.i+1}:=by unfold nowT;rw[i3]
   have kfm:∀{ns':List Nd},s3.ns<+:ns'→hasK ns' f (·==6)∨oneInit ns' f:=by
    intro ns' h;rcases kf with h1|⟨y,i,z,h1,h2,h3,h4,h5⟩
    ·exact .inl (h1.mono h)
    ·exact .inr ⟨y,i,z,gQ h h1,h2,h3,gQ h h4,h5⟩
   rw[e0]at xf c3;refine TrR.take hT hok (x:=([105,110]:List UInt8)) (by simp) (fun hx hok=> ?_) (fun hx=> ?_)<;>try simp only[if_true,aI,if_false]
   ·refine ih.go0 (.expression true) rfl hok trivial (by have hlt:=hok.lt;simp only[Fn1.rank,FnL.rank]at*;omega) fun a1 s1 hok x1 i1 c1 ke=> ?_;have hc1:=hok.cnt;simp only[Fn1.lo,Fn1.sl,Fn1.Post,FnL.lo,FnL.sl,FnL.Post]at i1 c1 ke
    try simp only[aC,aB,aD]at i1
    try simp only[aC,aB,aD]at c1
    try simp only[aC,aB,aD]at hc1
    refine TrR.want hT hok (x:=([41]:List UInt8)) (by simp) fun hx hok _=> ?_;refine ih.go0 (.body) rfl hok trivial (by have hlt:=hok.lt;simp only[Fn1.rank,FnL.rank]at*;omega) fun a2 s2 hok x2 i2 c2 kb=> ?_;have hc2:=hok.cnt;simp only[Fn1.lo,Fn1.sl,Fn1.Post,FnL.lo,FnL.sl,FnL.Post]at i2 c2 kb
    try simp only[aC,aB,aD]at i2
    try simp only[aC,aB,aD]at c2
    try simp only[aC,aB,aD]at hc2
    have ke:=ke.mono x2;refine TrR.addL (F:=F) hT (hok.perm (aM.2 (by intro z;simp only[aO,aT,aV,Fn1.args,FnL.args];try omega))) ⟨((Shape.each (.inl rfl) (kfm (x1.trans x2)) ke kb.1)),.inr ⟨by first|(simp;done)|(simp;omega),rfl⟩,.inr ⟨by first|(simp;done)|(simp;omega),rfl⟩,hpos,(fun h=>by simp at h)⟩ (by first|omega|(simp only[aC,aB,aD];omega)) fun hok x3 y3=> ?_;have k:=y3;have hc3:=hok.cnt;simp only[aC,aB,aD]at hc3;exact⟨hok,xf.trans (x1.trans (x2.trans x3)),by simp only[Fn1.lo];omega,by simp only[aC,aB,aD,Fn1.sl];omega,⟨.base (.of k rfl),.of k rfl⟩⟩
   ·have hk0:(nowT T s3).kind≠0:=by rw[hnow];exact over_ne hov'
    refine TrR.skip hT hok (hk0) fun hok=> ?_;refine ih.go0 (.assignment true) rfl hok trivial (by have hlt:=hok.lt;simp only[Fn1.rank,FnL.rank]at*;omega) fun a1 s1 hok x1 i1 c1 ke=> ?_;have hc1:=hok.cnt;simp only[Fn1.lo,Fn1.sl,Fn1.Post,FnL.lo,FnL.sl,FnL.Post]at i1 c1 ke
    try simp only[aC,aB,aD]at i1
    try simp only[aC,aB,aD]at c1
    try simp only[aC,aB,aD]at hc1
    refine TrR.want hT hok (x:=([41]:List UInt8)) (by simp) fun hx hok _=> ?_;refine ih.go0 (.body) rfl hok trivial (by have hlt:=hok.lt;simp only[Fn1.rank,FnL.rank]at*;omega) fun a2 s2 hok x2 i2 c2 kb=> ?_;have hc2:=hok.cnt;simp only[Fn1.lo,Fn1.sl,Fn1.Post,FnL.lo,FnL.sl,FnL.Post]at i2 c2 kb
    try simp only[aC,aB,aD]at i2
    try simp only[aC,aB,aD]at c2
    try simp only[aC,aB,aD]at hc2
    have ke:=ke.mono x2;refine TrR.addL (F:=F) hT (hok.perm (aM.2 (by intro z;simp only[aO,aT,aV,Fn1.args,FnL.args];try omega))) ⟨((Shape.each (.inr rfl) (kfm (x1.trans x2)) ke kb.1)),.inr ⟨by first|(simp;done)|(simp;omega),rfl⟩,.inr ⟨by first|(simp;done)|(simp;omega),rfl⟩,hpos,(fun h=>by simp at h)⟩ (by first|omega|(simp only[aC,aB,aD];omega)) fun hok x3 y3=> ?_;have k:=y3;have hc3:=hok.cnt;simp only[aC,aB,aD]at hc3;exact⟨hok,xf.trans (x1.trans (x2.trans x3)),by simp only[Fn1.lo];omega,by simp only[aC,aB,aD,Fn1.sl];omega,⟨.base (.of k rfl),.of k rfl⟩⟩
 unfold uW
 cases d with
 |true=>
  simp only[if_true]at hp⊢;have hs:=hok.skip hT hp.1;have hlt:=hs.lt;dsimp only at hlt;have e1:bU T s 1=nowT T {s with i:=s.i+1}:=by unfold bU nowT;rw[Nat.min_eq_left (by omega)]
  have e2:bU T s 2=bU T {s with i:=s.i+1} 1:=by unfold bU;congr 1
  refine TrR.skip hT hok hp.1 fun hok=> ?_
  exact main _ hok rfl (by simp) (by rw[←e1];exact hp.2.1) (by rw[←e2];exact hp.2.2)
 |false=>
  simp only[aI,if_false]at hp⊢;exact main _ hok rfl (bA _) hp.1 hp.2
end
end
section
section
variable{src:List UInt8}{T:List Tk}{n:Nat}{s:St}{F:List Nat}
theorem fH{α:Type}{c:Bool}{a r:α}{g:Option α}(h:(if c=true then some a else g)=some r):(c=true∧a=r)∨g=some r:=by
 cases c
 ·exact .inr h
 ·exact .inl ⟨rfl,Option.some.inj h⟩
theorem nP{x:List UInt8}{p:Nat}{f:Fn1}(h:lD x p=some f):(f=.lett∧(x=([108,101,116]:List UInt8)∨x=([99,111,110,115,116]:List UInt8)))∨(f=.function p∧x=([102,117,110,99,116,105,111,110]:List UInt8))∨f=.branch p∨f=.whil p∨f=.doo p∨f=.loop p∨f=.leave p∨f=.back p∨f=.throw p∨f=.tryy p∨f=.choice p:=by
 unfold lD at h;rcases fH h with⟨hx,rfl⟩|h
 ·exact .inl ⟨rfl,.inl (eq_of_beq hx)⟩
 rcases fH h with⟨hx,rfl⟩|h
 ·exact .inl ⟨rfl,.inr (eq_of_beq hx)⟩
 rcases fH h with⟨hx,rfl⟩|h
 ·exact .inr (.inl ⟨rfl,eq_of_beq hx⟩)
 rcases fH h with⟨hx,rfl⟩|h
 ·exact .inr (.inr (by simp))
 rcases fH h with⟨hx,rfl⟩|h
 ·exact .inr (.inr (by simp))
 rcases fH h with⟨hx,rfl⟩|h
 ·exact .inr (.inr (by simp))
 rcases fH h with⟨hx,rfl⟩|h
 ·exact .inr (.inr (by simp))
 rcases fH h with⟨hx,rfl⟩|h
 ·exact .inr (.inr (by simp))
 rcases fH h with⟨hx,rfl⟩|h
 ·exact .inr (.inr (by simp))
 rcases fH h with⟨hx,rfl⟩|h
 ·exact .inr (.inr (by simp))
 rcases fH h with⟨hx,rfl⟩|h
 ·exact .inr (.inr (by simp))
 rcases fH h with⟨hx,rfl⟩|h
 ·exact .inr (.inr (by simp))
 rcases fH h with⟨hx,rfl⟩|h
 ·exact .inr (.inr (by simp))
 cases h
theorem IsBody.of{ns:List Nd}{a:Nat}{p:Nat→Bool}(h:hasK ns a p)(hp:∀k,p k=true→mK k=true):IsBody ns a:=.base (h.imp hp)
theorem xC(hT:cN src T)(ih:Specs src T n)(hok:Ok src T s F)(hm:40*(T.length-s.i)+30≤n):TrR (jG T (run T n) s) (Goal src T .statement s F):=by
 have hc0:=hok.cnt;have htk:=hT.tk _ (dY hok.lt);have hfr:=htk.fr;unfold jG;refine TrR.ite (fun h=> ?_) (fun h=> ?_)
 ·obtain⟨hk1,hlt⟩:=nZ hT hok.lt h;have hnm:=htk.name hk1;have hk0:(nowT T s).kind≠0:=by omega
  refine TrR.skip hT hok (hk0) fun hok=> ?_
  have hk0:(nowT T {s with i:=s.i+1}).kind≠0:=by
   have h1:(bU T s 1).txt=([58]:List UInt8):=by
    unfold eQ at h;simp only[Bool.and_eq_true,beq_iff_eq]at h;exact h.2
   have e1:bU T s 1=nowT T {s with i:=s.i+1}:=by unfold bU nowT;rw[Nat.min_eq_left (by omega)]
   rw[←e1];rcases gC h1 (by simp)with e|e<;>omega
  refine TrR.skip hT hok (hk0) fun hok=> ?_;refine ih.go0 (.body) rfl hok trivial (by have hlt:=hok.lt;simp only[Fn1.rank,FnL.rank]at*;omega) fun a1 s1 hok x1 i1 c1 kb=> ?_;have hc1:=hok.cnt;simp only[Fn1.lo,Fn1.sl,Fn1.Post,FnL.lo,FnL.sl,FnL.Post]at i1 c1 kb
  try simp only[aC,aB,aD]at i1
  try simp only[aC,aB,aD]at c1
  try simp only[aC,aB,aD]at hc1
  have hlt1:a1<s1.ns.length:=hok.fo.lt (by simp);refine TrR.addL (F:=F) hT (hok.perm (aM.2 (by intro z;simp only[aO,aT,aV,Fn1.args,FnL.args];try omega))) ⟨((Shape.label hnm.1 kb.1)),.inr ⟨by first|(simp;done)|(simp;omega),rfl⟩,.inr ⟨by first|(simp;done)|(simp;omega),rfl⟩,hfr,(fun h=>by simp at h)⟩ (by first|omega|(simp only[aC,aB,aD];omega)) fun hok x2 y2=> ?_;have k:=y2;have hc2:=hok.cnt;simp only[aC,aB,aD]at hc2;exact⟨hok,(x1.trans x2),by simp only[Fn1.lo,FnL.lo];try omega,by simp only[aC,aB,aD,Fn1.sl,FnL.sl];try omega,⟨.of k rfl,fun _=> .label (k:=a1) k rfl rfl hlt1 (kb.1.mono x2)⟩⟩
 refine TrR.ite (fun h=> ?_) (fun h=> ?_)
 ·refine ih.goL0 (.block) rfl hok trivial (by have hlt:=hok.lt;simp only[Fn1.rank,FnL.rank]at*;omega) fun a1 s1 hok x1 i1 c1 k=> ?_;have hc1:=hok.cnt;simp only[Fn1.lo,Fn1.sl,Fn1.Post,FnL.lo,FnL.sl,FnL.Post]at i1 c1 k
  try simp only[aC,aB,aD]at i1
  try simp only[aC,aB,aD]at c1
  try simp only[aC,aB,aD]at hc1
  exact⟨hok,x1,by simp only[Fn1.lo,FnL.lo];try omega,by simp only[aC,aB,aD,Fn1.sl,FnL.sl];try omega,⟨k.imp fun k h=>by simp at h;subst h;rfl,fun _=> .of k fun k h=>by simp at h;subst h;rfl⟩⟩
 refine TrR.take hT hok (x:=([59]:List UInt8)) (by simp) (fun hx hok=> ?_) (fun hx=> ?_)<;>try simp only[if_true,aI,if_false]
 ·refine TrR.addL (F:=F) hT (hok.perm (aM.2 (by intro z;simp only[aO,aT,aV,Fn1.args,FnL.args];try omega))) ⟨((Shape.plain (by simp))),.inr ⟨by first|(simp;done)|(simp;omega),rfl⟩,.inr ⟨by first|(simp;done)|(simp;omega),rfl⟩,hfr,(fun h=>by simp at h)⟩ (by first|omega|(simp only[aC,aB,aD];omega)) fun hok x1 y1=> ?_;have k:=y1;have hc1:=hok.cnt;simp only[aC,aB,aD]at hc1;exact⟨hok,x1,by simp only[Fn1.lo,FnL.lo];try omega,by simp only[aC,aB,aD,Fn1.sl,FnL.sl];try omega,⟨.of k rfl,fun _=> .base (.of k rfl)⟩⟩
 ·cases hst:(if(nowT T s).kind=2 then lD (nowT T s).txt (nowT T s).fr else none)with
  |some f=>
   dsimp only
   have hk2:(nowT T s).kind=2:=by
    by_cases hk:(nowT T s).kind=2
    ·exact hk
    ·rw[if_neg hk]at hst;cases hst
   rw[if_pos hk2]at hst;have hk0:(nowT T s).kind≠0:=by omega
   rcases nP hst with⟨rfl,hx⟩|⟨rfl,hx⟩|rfl|rfl|rfl|rfl|rfl|rfl|rfl|rfl|rfl
   ·refine ih.goL0 (.lett) rfl hok (hk0) (by have hlt:=hok.lt;simp only[Fn1.rank,FnL.rank]at*;omega) fun a1 s1 hok x1 i1 c1 k=> ?_;have hc1:=hok.cnt;simp only[Fn1.lo,Fn1.sl,Fn1.Post,FnL.lo,FnL.sl,FnL.Post]at i1 c1 k
    try simp only[aC,aB,aD]at i1
    try simp only[aC,aB,aD]at c1
    try simp only[aC,aB,aD]at hc1
    exact⟨hok,x1,by simp only[Fn1.lo,FnL.lo];try omega,by simp only[aC,aB,aD,Fn1.sl,FnL.sl];try omega,⟨k.imp fun k h=>by simp[fN]at h;rcases h with rfl|rfl<;>rfl,fun hp=>by rcases hx with e|e;exact absurd e hp.1;exact absurd e hp.2.1⟩⟩
   ·refine ih.goL0 (.function _) rfl hok (⟨hk0,hfr⟩) (by have hlt:=hok.lt;simp only[Fn1.rank,FnL.rank]at*;omega) fun a1 s1 hok x1 i1 c1 k=> ?_;have hc1:=hok.cnt;simp only[Fn1.lo,Fn1.sl,Fn1.Post,FnL.lo,FnL.sl,FnL.Post]at i1 c1 k
    try simp only[aC,aB,aD]at i1
    try simp only[aC,aB,aD]at c1
    try simp only[aC,aB,aD]at hc1
    exact⟨hok,x1,by simp only[Fn1.lo,FnL.lo];try omega,by simp only[aC,aB,aD,Fn1.sl,FnL.sl];try omega,⟨k.imp fun k h=>by simp at h;subst h;rfl,fun hp=>absurd hx hp.2.2⟩⟩
   ·refine ih.goL0 (.branch _) rfl hok (⟨hk0,hfr⟩) (by have hlt:=hok.lt;simp only[Fn1.rank,FnL.rank]at*;omega) fun a1 s1 hok x1 i1 c1 k=> ?_;have hc1:=hok.cnt;simp only[Fn1.lo,Fn1.sl,Fn1.Post,FnL.lo,FnL.sl,FnL.Post]at i1 c1 k
    try simp only[aC,aB,aD]at i1
    try simp only[aC,aB,aD]at c1
    try simp only[aC,aB,aD]at hc1
    exact⟨hok,x1,by simp only[Fn1.lo,FnL.lo];try omega,by simp only[aC,aB,aD,Fn1.sl,FnL.sl];try omega,⟨k.2,fun _=>k.1⟩⟩
   ·refine ih.goL0 (.whil _) rfl hok (⟨hk0,hfr⟩) (by have hlt:=hok.lt;simp only[Fn1.rank,FnL.rank]at*;omega) fun a1 s1 hok x1 i1 c1 k=> ?_;have hc1:=hok.cnt;simp only[Fn1.lo,Fn1.sl,Fn1.Post,FnL.lo,FnL.sl,FnL.Post]at i1 c1 k
    try simp only[aC,aB,aD]at i1
    try simp only[aC,aB,aD]at c1
    try simp only[aC,aB,aD]at hc1
    exact⟨hok,x1,by simp only[Fn1.lo,FnL.lo];try omega,by simp only[aC,aB,aD,Fn1.sl,FnL.sl];try omega,⟨k.2,fun _=>k.1⟩⟩
   ·refine ih.goL0 (.doo _) rfl hok (⟨hk0,hfr⟩) (by have hlt:=hok.lt;simp only[Fn1.rank,FnL.rank]at*;omega) fun a1 s1 hok x1 i1 c1 k=> ?_;have hc1:=hok.cnt;simp only[Fn1.lo,Fn1.sl,Fn1.Post,FnL.lo,FnL.sl,FnL.Post]at i1 c1 k
    try simp only[aC,aB,aD]at i1
    try simp only[aC,aB,aD]at c1
    try simp only[aC,aB,aD]at hc1
    exact⟨hok,x1,by simp only[Fn1.lo,FnL.lo];try omega,by simp only[aC,aB,aD,Fn1.sl,FnL.sl];try omega,⟨k.2,fun _=>k.1⟩⟩
   ·refine ih.goL0 (.loop _) rfl hok (⟨hk0,hfr⟩) (by have hlt:=hok.lt;simp only[Fn1.rank,FnL.rank]at*;omega) fun a1 s1 hok x1 i1 c1 k=> ?_;have hc1:=hok.cnt;simp only[Fn1.lo,Fn1.sl,Fn1.Post,FnL.lo,FnL.sl,FnL.Post]at i1 c1 k
    try simp only[aC,aB,aD]at i1
    try simp only[aC,aB,aD]at c1
    try simp only[aC,aB,aD]at hc1
    exact⟨hok,x1,by simp only[Fn1.lo,FnL.lo];try omega,by simp only[aC,aB,aD,Fn1.sl,FnL.sl];try omega,⟨k.2,fun _=>k.1⟩⟩
   ·refine ih.goL0 (.leave _) rfl hok (⟨hk0,hfr⟩) (by have hlt:=hok.lt;simp only[Fn1.rank,FnL.rank]at*;omega) fun a1 s1 hok x1 i1 c1 k=> ?_;have hc1:=hok.cnt;simp only[Fn1.lo,Fn1.sl,Fn1.Post,FnL.lo,FnL.sl,FnL.Post]at i1 c1 k
    try simp only[aC,aB,aD]at i1
    try simp only[aC,aB,aD]at c1
    try simp only[aC,aB,aD]at hc1
    exact⟨hok,x1,by simp only[Fn1.lo,FnL.lo];try omega,by simp only[aC,aB,aD,Fn1.sl,FnL.sl];try omega,⟨k.2,fun _=>k.1⟩⟩
   ·refine ih.goL0 (.back _) rfl hok (⟨hk0,hfr⟩) (by have hlt:=hok.lt;simp only[Fn1.rank,FnL.rank]at*;omega) fun a1 s1 hok x1 i1 c1 k=> ?_;have hc1:=hok.cnt;simp only[Fn1.lo,Fn1.sl,Fn1.Post,FnL.lo,FnL.sl,FnL.Post]at i1 c1 k
    try simp only[aC,aB,aD]at i1
    try simp only[aC,aB,aD]at c1
    try simp only[aC,aB,aD]at hc1
    exact⟨hok,x1,by simp only[Fn1.lo,FnL.lo];try omega,by simp only[aC,aB,aD,Fn1.sl,FnL.sl];try omega,⟨k.2,fun _=>k.1⟩⟩
   ·refine ih.goL0 (.throw _) rfl hok (⟨hk0,hfr⟩) (by have hlt:=hok.lt;simp only[Fn1.rank,FnL.rank]at*;omega) fun a1 s1 hok x1 i1 c1 k=> ?_;have hc1:=hok.cnt;simp only[Fn1.lo,Fn1.sl,Fn1.Post,FnL.lo,FnL.sl,FnL.Post]at i1 c1 k
    try simp only[aC,aB,aD]at i1
    try simp only[aC,aB,aD]at c1
    try simp only[aC,aB,aD]at hc1
    exact⟨hok,x1,by simp only[Fn1.lo,FnL.lo];try omega,by simp only[aC,aB,aD,Fn1.sl,FnL.sl];try omega,⟨k.2,fun _=>k.1⟩⟩
   ·refine ih.goL0 (.tryy _) rfl hok (⟨hk0,hfr⟩) (by have hlt:=hok.lt;simp only[Fn1.rank,FnL.rank]at*;omega) fun a1 s1 hok x1 i1 c1 k=> ?_;have hc1:=hok.cnt;simp only[Fn1.lo,Fn1.sl,Fn1.Post,FnL.lo,FnL.sl,FnL.Post]at i1 c1 k
    try simp only[aC,aB,aD]at i1
    try simp only[aC,aB,aD]at c1
    try simp only[aC,aB,aD]at hc1
    exact⟨hok,x1,by simp only[Fn1.lo,FnL.lo];try omega,by simp only[aC,aB,aD,Fn1.sl,FnL.sl];try omega,⟨k.2,fun _=>k.1⟩⟩
   ·refine ih.goL0 (.choice _) rfl hok (⟨hk0,hfr⟩) (by have hlt:=hok.lt;simp only[Fn1.rank,FnL.rank]at*;omega) fun a1 s1 hok x1 i1 c1 k=> ?_;have hc1:=hok.cnt;simp only[Fn1.lo,Fn1.sl,Fn1.Post,FnL.lo,FnL.sl,FnL.Post]at i1 c1 k
    try simp only[aC,aB,aD]at i1
    try simp only[aC,aB,aD]at c1
    try simp only[aC,aB,aD]at hc1
    exact⟨hok,x1,by simp only[Fn1.lo,FnL.lo];try omega,by simp only[aC,aB,aD,Fn1.sl,FnL.sl];try omega,⟨k.2,fun _=>k.1⟩⟩
  |none=>
   dsimp only;refine ih.go0 (.expression true) rfl hok trivial (by have hlt:=hok.lt;simp only[Fn1.rank,FnL.rank]at*;omega) fun a1 s1 hok x1 i1 c1 ke=> ?_;have hc1:=hok.cnt;simp only[Fn1.lo,Fn1.sl,Fn1.Post,FnL.lo,FnL.sl,FnL.Post]at i1 c1 ke
   try simp only[aC,aB,aD]at i1
   try simp only[aC,aB,aD]at c1
   try simp only[aC,aB,aD]at hc1
   refine TrR.endS hT hok fun s2 e2 i2 hok=> ?_;have ke2:hasK s2.ns a1 cG:=by rw[e2];exact ke
   have xx:s.ns<+:s2.ns:=by rw[e2];exact x1
   have cc:s2.ns.length=s1.ns.length:=by rw[e2]
   refine TrR.pos hok ke2 fun q hq=> ?_;refine TrR.addL (F:=F) hT (hok.perm (aM.2 (by intro z;simp only[aO,aT,aV,Fn1.args,FnL.args];try omega))) ⟨((Shape.one (.inr (.inl rfl)) ke2)),.inr ⟨by first|(simp;done)|(simp;omega),rfl⟩,.inr ⟨by first|(simp;done)|(simp;omega),rfl⟩,hq,(fun h=>by simp at h)⟩ (by first|omega|(simp only[aC,aB,aD];omega)) fun hok x2 y2=> ?_;have k:=y2;have hc2:=hok.cnt;simp only[aC,aB,aD]at hc2;exact⟨hok,xx.trans x2,by simp only[Fn1.lo];omega,by simp only[aC,aB,aD,Fn1.sl];omega,⟨.of k rfl,fun _=> .base (.of k rfl)⟩⟩
theorem specs(hT:cN src T):∀n,Specs src T n:=by
 intro n
 induction n with
 |zero=>exact⟨fun f s F _ _ h=>by omega,fun f s F _ _ h=>by omega⟩
 |succ n ih=>
  refine⟨fun f s F hok hp hm=> ?_,fun f s F hok hp hm=> ?_⟩
  ·have hk:f.kids.length<most:=by
    have h1:f.kids.length≤f.args.length:=by cases f<;>simp[Fn1.kids,Fn1.args]
    have h2:=hok.fo.len;have h3:=hok.cnt;have h4:=hok.lt;have h5:=hT.big;simp only[aC]at h2;unfold most;omega
   show TrR ((if f.kids.length<most then dJ T (run T n) f else fun _=> .out) s) _;rw[if_pos hk];cases f<;>simp only[Fn1.args,Fn1.rank,List.nil_append]at hok hm
   case expression inn=>exact uJ hT ih inn hok (by omega)
   case exprLoop inn k=>exact zV hT ih inn k hok hp (by omega)
   case assignment inn=>exact uK hT ih inn hok (by omega)
   case conditional inn=>exact sM hT ih inn hok (by omega)
   case binary l inn=>exact t_binary hT ih l inn hp hok (by omega)
   case binLoop l inn a=>exact t_binLoop hT ih l inn a hok hp (by omega)
   case power=>exact t_power hT ih hok (by omega)
   case unary=>exact t_unary hT ih hok (by omega)
   case member=>exact t_member hT ih hok (by omega)
   case maker=>exact t_maker hT ih hok (by omega)
   case tail e c=>exact t_tail hT ih e c hp hok (by omega)
   case primary=>exact t_primary hT ih hok (by omega)
   case template=>exact zR hT ih hok hp (by omega)
   case tplLoop p k=>exact t_tplLoop hT ih p k hok hp (by omega)
   case array=>exact t_array hT ih hok (by omega)
   case arrLoop p k=>exact t_arrLoop hT ih p k hok hp (by omega)
   case object=>exact t_object hT ih hok (by omega)
   case objLoop p k=>exact t_objLoop hT ih p k hok hp (by omega)
   case property=>exact zS hT ih hok (by omega)
   case key=>exact t_key hT ih hok (by omega)
   case accessor=>exact zY hT ih hok hp (by omega)
   case argument=>exact zX hT ih hok (by omega)
   case parens=>exact t_parens hT ih hok (by omega)
   case statement=>exact xC hT ih hok (by omega)
   case block=>exact t_block hT ih hok (by omega)
   case body=>exact t_body hT ih hok (by omega)
   case declaration inn=>exact sL hT ih inn hok hp (by omega)
   case declLoop inn k p l=>exact zW hT ih inn k p l hok hp (by omega)
   case lett=>exact t_let hT ih hok hp (by omega)
   case function p=>exact zU hT ih p hok hp (by omega)
   case branch p=>exact t_branch hT ih p hok hp (by omega)
   case whil p=>exact t_while hT ih p hok hp (by omega)
   case doo p=>exact t_do hT ih p hok hp (by omega)
   case leave p=>exact t_leave hT p hok hp
   case back p=>exact t_back hT ih p hok hp (by omega)
   case throw p=>exact t_throw hT ih p hok hp (by omega)
   case tryy p=>exact t_try hT ih p hok hp (by omega)
   case choice p=>exact t_choice hT ih p hok hp (by omega)
   case chLoop p k l=>exact t_chLoop hT ih p k l hok hp (by omega)
   case loop p=>exact t_loop hT ih p hok hp (by omega)
   case each p d=>exact t_each hT ih p d hok hp (by omega)
   case parameters=>exact uI hT ih hok (by omega)
   case parLoop p k=>exact t_parLoop hT ih p k hok hp (by omega)
  ·have hk:f.kids.length<most:=by
    have h1:f.kids.length≤f.args.length:=by cases f<;>simp[FnL.kids,FnL.args]
    have h2:=hok.fo.len;have h3:=hok.cnt;have h4:=hok.lt;have h5:=hT.big;simp only[aC]at h2;unfold most;omega
   show TrR ((if f.kids.length<most then mX T (run T n) f else fun _=> .out) s) _;rw[if_pos hk];cases f<;>simp only[FnL.args,FnL.rank,List.nil_append]at hok hm
   case list=>exact t_list hT ih hok (by omega)
   case listLoop k=>exact zT hT ih k hok hp (by omega)
   case arguments=>exact xD hT ih hok (by omega)
   case argLoop k=>exact t_argLoop hT ih k hok hp (by omega)
structure GoodTree(src:List UInt8)(ns:List Nd):Prop where
 good:AllGood src ns
 fo:Forest ns [ns.length-1]
 pos:0<ns.length
 last:∃y,ns[ns.length-1]? =some y∧y.kind=55
 small:ns.length≤9000000
theorem xK(hT:cN src T){n:Nat}(hn:40*T.length+40≤n):TrR (mB T n) fun a s=>a=s.ns.length-1∧GoodTree src s.ns:=by
 have hok:Ok src T {i:=0,ns:=[]} []:=⟨hT.pos,.nil,by simp[Forest],by simp⟩;have ih:=specs hT n;have hbig:=hT.big;unfold mB;refine ih.gol0 .list rfl hok trivial (by simp only[FnL.rank];omega) fun l s1 hok x1 i1 c1 kl=> ?_;have hc1:=hok.cnt;have hl:=hok.lt;refine TrR.ite (fun h=>trivial) (fun h=> ?_);simp only[FnL.Post]at kl;simp only[FnL.sl,aD]at c1;refine TrR.addL (F:=[]) hT (hok.perm (aM.2 (by intro z;simp only[aO,aT,aV,Fn1.args,FnL.args];try omega))) ⟨((Shape.stmts (.inr (.inr rfl)) kl)),.inr ⟨by first|(simp;done)|(simp;omega),rfl⟩,.inr ⟨by first|(simp;done)|(simp;omega),rfl⟩,(Nat.zero_le _),(fun h=>by simp at h)⟩ (by first|omega|(simp only[aC,aB,aD];omega)) fun hok x1 y1=> ?_;have k:=y1;have hc1:=hok.cnt;simp only[aC,aB,aD]at hc1;have hlen:(s1.ns++[{kind:=55,text:=[],str:=[],num:=0,kids:=l,pos:=0}]:List Nd).length-1=s1.ns.length:=by simp
 exact⟨hlen.symm,hok.good,by dsimp only;rw[hlen];exact hok.fo,by simp,⟨_,by dsimp only;rw[hlen];exact k,rfl⟩,by simp;omega⟩
end
end
section
def fv(f:Nat):Value:=.func (.func f) #[] #[]
def zZ:SList:=mput (mput (mput (mput (mput (mput (mput (mput (mput (mput (mput (mput (mput ([]) [108,101,116] (fv 126)) [99,111,110,115,116] (fv 126)) [102,117,110,99,116,105,111,110] (fv 127)) [105,102] (fv 128)) [119,104,105,108,101] (fv 129)) [100,111] (fv 130)) [102,111,114] (fv 131)) [98,114,101,97,107] (fv 132)) [99,111,110,116,105,110,117,101] (fv 132)) [114,101,116,117,114,110] (fv 133)) [116,104,114,111,119] (fv 134)) [116,114,121] (fv 135)) [115,119,105,116,99,104] (fv 136)
def sfn:Fn1→Nat
 | .lett=>126| .function _=>127| .branch _=>128| .whil _=>129| .doo _=>130| .loop _=>131| .leave _=>132| .back _=>133| .throw _=>134| .tryy _=>135| .choice _=>136
 |_=>0
theorem map_ite{α β:Type}{F:α→β}{f:α}{v:β}{b:Bool}{R:Option β}{R':Option α}(h1:F f=v)(h2:R=R'.map F):(if b=true then some v else R)=Option.map F (if b=true then some f else R'):=by
 cases b
 ·exact h2
 ·exact congrArg some h1.symm
theorem stmts_get(x:List UInt8)(pos:Nat):mget zZ x=(lD x pos).map fun f=>fv (sfn f):=by
 have e:zZ=[([108,101,116],fv 126),([99,111,110,115,116],fv 126),([102,117,110,99,116,105,111,110],fv 127),([105,102],fv 128),([119,104,105,108,101],fv 129),([100,111],fv 130),([102,111,114],fv 131),([98,114,101,97,107],fv 132),([99,111,110,116,105,110,117,101],fv 132),([114,101,116,117,114,110],fv 133),([116,104,114,111,119],fv 134),([116,114,121],fv 135),([115,119,105,116,99,104],fv 136)]:=by rfl
 rw[e];unfold lD;simp only[mget]
 iterate 13 refine map_ite rfl ?_
 rfl
theorem uN(h:Heap):C aE 106 #[] h fun e h'=> ∃m,e=.returned (.map (some m))∧SMap h' m zZ∧Ext [] h h':=by
 refine C_in (args:=[]) Tryz.func106 rfl rfl (by kernel_rfl) (aG rfl) ?_;simp only[↓zp,zv,↓reduceIte,aA];refine sJ (fun hm hsm hEm hzm=> ?_) Tryz.underlying134;simp only[↓zp,zv,↓reduceIte,aA];refine fC hsm Tryz.underlying134 Tryz.underlying9 fun h1 hsm hE1 hz1=> ?_;simp only[↓zp,zv,↓reduceIte,aA];refine fC hsm Tryz.underlying134 Tryz.underlying9 fun h2 hsm hE2 hz2=> ?_;simp only[↓zp,zv,↓reduceIte,aA];refine fC hsm Tryz.underlying134 Tryz.underlying9 fun h3 hsm hE3 hz3=> ?_;simp only[↓zp,zv,↓reduceIte,aA];refine fC hsm Tryz.underlying134 Tryz.underlying9 fun h4 hsm hE4 hz4=> ?_;simp only[↓zp,zv,↓reduceIte,aA];refine fC hsm Tryz.underlying134 Tryz.underlying9 fun h5 hsm hE5 hz5=> ?_;simp only[↓zp,zv,↓reduceIte,aA];refine fC hsm Tryz.underlying134 Tryz.underlying9 fun h6 hsm hE6 hz6=> ?_;simp only[↓zp,zv,↓reduceIte,aA];refine fC hsm Tryz.underlying134 Tryz.underlying9 fun h7 hsm hE7 hz7=> ?_;simp only[↓zp,zv,↓reduceIte,aA];refine fC hsm Tryz.underlying134 Tryz.underlying9 fun h8 hsm hE8 hz8=> ?_;simp only[↓zp,zv,↓reduceIte,aA];refine fC hsm Tryz.underlying134 Tryz.underlying9 fun h9 hsm hE9 hz9=> ?_;simp only[↓zp,zv,↓reduceIte,aA];refine fC hsm Tryz.underlying134 Tryz.underlying9 fun h10 hsm hE10 hz10=> ?_;simp only[↓zp,zv,↓reduceIte,aA];refine fC hsm Tryz.underlying134 Tryz.underlying9 fun h11 hsm hE11 hz11=> ?_;simp only[↓zp,zv,↓reduceIte,aA];refine fC hsm Tryz.underlying134 Tryz.underlying9 fun h12 hsm hE12 hz12=> ?_;simp only[↓zp,zv,↓reduceIte,aA];refine fC hsm Tryz.underlying134 Tryz.underlying9 fun h13 hsm hE13 hz13=> ?_;simp only[↓zp,zv,↓reduceIte,aA];exact⟨_,rfl,hsm,hEm.trans_new ((((((((((((hE1.trans hE2).trans hE3).trans hE4).trans hE5).trans hE6).trans hE7).trans hE8).trans hE9).trans hE10).trans hE11).trans hE12).trans hE13) (by simp)⟩
theorem yE{h:Heap}{c:PC}{L:Nat}{U:List Nat}{s:St}(hp:PS h c L U s):
 C aE 104 #[.pointer (some ⟨c.p,0,none⟩),.int .i64 0] h fun e h'=>e=.returned (.bool (eQ c.T s 0))∧Ext [] h h':=rP hp 0 (by omega)
section
variable{c:PC}{h:Heap}{L:Nat}{U:List Nat}{s:St}{n:Nat}{r:Res Nat}
theorem uO(hB:Below c.T n)(hp:PS h c L U s)(hr:(run c.T n).e (.statement) s=r)(hne:r≠ .out):
 C aE 74 #[.pointer (some ⟨c.p,0,none⟩)] h (POut c h L U r vint):=by
 cases n with
 |zero=>exact absurd hr.symm hne
 |succ n=>
 obtain⟨hr,_⟩:=dP hr hne;simp only[dJ,jG]at hr;have hq:Par c h L U h L U:=Par.refl _ _ _ _;refine C_in Tryz.func74 rfl rfl (by kernel_rfl) (aG rfl) ?_;simp only[↓zp,zv,↓reduceIte,aA];refine bO hp hq (eC hp) fun h hp hd hq hE=> ?_;simp only[↓zp,zv,↓reduceIte,aA];have hbx:Blk (h.push (.cells (nowT c.T (s)).cells.toArray 73)) h.size (nowT c.T (s)).cells 73:=Blk.new;have hlx:Loc (h.push (.cells (nowT c.T (s)).cells.toArray 73)) c _ _ h.size:=Loc.new hp (bA _) (by simp);have hEx:Ext [] h (h.push (.cells (nowT c.T (s)).cells.toArray 73)):=Ext.push _ _ _;have hp:=hp.ext0 hEx;have hq:=hq.ext0 hEx;generalize h.push (.cells (nowT c.T (s)).cells.toArray 73)=hx at hbx hlx hEx hp hq⊢;generalize hzx:h.size=bx at hbx hlx⊢;refine bO hp hq (yE hp) fun h hp hd hq hE=> ?_;have hbx:=hlx.blk hbx hd;have hlx:=hlx.par hd;simp only[↓zp,zv,↓reduceIte,aA];cases hl:eQ c.T s 0
 ·simp only[hl,aI,if_false]at hr;simp only[↓zp,zv,↓reduceIte,aA,hl];refine bO hp hq (is_c hp [123]) fun h hp hd hq hE=> ?_;have hbx:=hlx.blk hbx hd;have hlx:=hlx.par hd;simp only[↓zp,zv,↓reduceIte,aA];cases hx:isT c.T s [123]
  ·simp only[hx,aI,if_false]at hr;simp only[↓zp,zv,↓reduceIte,aA,hx];generalize nowT c.T _=t at hr hbx;refine bF hq hr hne (fun _=>eE hp [59]) rfl fun b s h L U _ hr hp hd hq=> ?_;have hbx:=hlx.blk hbx hd;have hlx:=hlx.par hd
   cases b with
   |true=>
    simp only[if_true]at hr;simp only[↓zp,zv,↓reduceIte,aA,bE hbx];have hk:=dI hq;refine bP hq hk.2 hr hne (fun _=>bT hp 36 _ _ _ hk.1) rfl fun a s h _ hR=> ?_;simp only[↓zp,zv,↓reduceIte,aA]
    exact hR
   |false=>
    simp only[aI,if_false]at hr;simp only[↓zp,zv,↓reduceIte,aA];refine dL [(1,true),(0,false),(2,false),(3,false),(4,true),(5,true),(6,true),(7,true),(8,true)] (fun h1=>Blk h1 bx _ 73) (by kernel_rfl) (by kernel_rfl) (by kernel_rfl) rfl hbx ?_;simp only[Wo,fI,fP,if_true,aI,if_false];refine⟨_,.inl fun h1 hS1=>by simp only[rdOp];simp only[↓zp,zv,↓reduceIte,aA,bQ hS1 (Tk.cells_len _)];rfl,?_⟩;refine cY rfl ?_;simp only[↓zp,zv,↓reduceIte,aA];refine bH (uN _) ?_;rintro e h2 ⟨m,rfl,hsm,hE2⟩;have hd:=Par.of_ext (c:=c) (L:=L) (U:=U) hE2;have hp:=hp.ext0 hE2;have hq:=hq.trans hd;have hbx:=hlx.blk hbx hd;have hlx:=hlx.par hd;simp only[↓zp,zv,↓reduceIte,aA];refine⟨hbx,?_⟩;refine cY rfl ?_;simp only[↓zp,zv,↓reduceIte,aA];refine bH (fT _ _) ?_;rintro e h3 ⟨rfl,hE3⟩;have hd:=Par.of_ext (c:=c) (L:=L) (U:=U) hE3;have hp:=hp.ext0 hE3;have hq:=hq.trans hd;have hbx:=hlx.blk hbx hd;have hlx:=hlx.par hd;have hsm:=hsm.ext hE3 (by simp);simp only[↓zp,zv,↓reduceIte,aA];refine⟨hbx,?_⟩;refine cY rfl ?_;simp only[↓zp,zv,↓reduceIte,aA];refine tY hsm Tryz.underlying134 Tryz.underlying9 (z:=.nilFunc) (by kernel_rfl) ?_;rw[stmts_get _ t.fr];simp only[↓zp,zv,↓reduceIte,aA];refine⟨hbx,?_⟩
    iterate 5 refine⟨_,.inl fun h1 hS1=>by simp only[rdOp];simp only[↓zp,zv,↓reduceIte,aA];rfl,?_⟩
    by_cases hk2:t.kind=2
    ·have ek:((t.kind:Int)==2)=true:=by simp[hk2]
     rw[if_pos hk2]at hr
     cases hst:lD t.txt t.fr with
     |none=>
      rw[hst]at hr;dsimp only at hr;simp only[Option.map_none,Option.getD_none,Option.isSome_none];simp only[↓zp,zv,↓reduceIte,aA,ek,bE hbx];refine bF hq hr hne (fun r1 g1 g2=>(hB n (by omega)).1 c _ _ _ _ (.expression true) 42 _ r1 rfl rfl hp g1 g2) rfl fun e s h L U _ hr hp hd hq=> ?_;simp only[↓zp,zv,↓reduceIte,aA];refine bF hq hr hne (fun _=>iP hp) rfl fun u s h L U _ hr hp hd hq=> ?_;simp only[↓zp,zv,↓reduceIte,aA];refine bF hq hr hne (fun _=>at_c hp e) rfl fun pe s h L U _ hr hp hd hq=> ?_;simp only[↓zp,zv,↓reduceIte,aA];refine bJ (vals:=[e]) hp hq rfl rfl (by omega) (by omega) fun v h hk hp hd hq hbv hE=> ?_;simp only[↓zp,zv,↓reduceIte,aA];refine bP hq hk.2 hr hne (fun _=>bT hp 37 _ _ _ hk.1) rfl fun a s h _ hR=> ?_;simp only[↓zp,zv,↓reduceIte,aA]
      exact hR
     |some f=>
      rw[hst]at hr;dsimp only at hr;simp only[Option.map_some,Option.getD_some,Option.isSome_some,fv];rcases nP hst with⟨rfl,_⟩|⟨rfl,_⟩|rfl|rfl|rfl|rfl|rfl|rfl|rfl|rfl|rfl
      ·simp only[↓zp,zv,↓reduceIte,aA,ek,bE hbx,sfn];refine dO hq hr hne (fun r1 g1 g2=>letF_c (fun j hj=>hB j (by omega)) hp t.fr g1 g2) rfl fun a s h _ hR=> ?_;simp only[↓zp,zv,↓reduceIte,aA];exact hR
      ·simp only[↓zp,zv,↓reduceIte,aA,ek,bE hbx,sfn];refine dO hq hr hne (fun r1 g1 g2=>(hB n (by omega)).1 c _ _ _ _ (.function _) 127 _ r1 rfl rfl hp g1 g2) rfl fun a s h _ hR=> ?_;simp only[↓zp,zv,↓reduceIte,aA];exact hR
      ·simp only[↓zp,zv,↓reduceIte,aA,ek,bE hbx,sfn];refine dO hq hr hne (fun r1 g1 g2=>(hB n (by omega)).1 c _ _ _ _ (.branch _) 128 _ r1 rfl rfl hp g1 g2) rfl fun a s h _ hR=> ?_;simp only[↓zp,zv,↓reduceIte,aA];exact hR
      ·simp only[↓zp,zv,↓reduceIte,aA,ek,bE hbx,sfn];refine dO hq hr hne (fun r1 g1 g2=>(hB n (by omega)).1 c _ _ _ _ (.whil _) 129 _ r1 rfl rfl hp g1 g2) rfl fun a s h _ hR=> ?_;simp only[↓zp,zv,↓reduceIte,aA];exact hR
      ·simp only[↓zp,zv,↓reduceIte,aA,ek,bE hbx,sfn];refine dO hq hr hne (fun r1 g1 g2=>(hB n (by omega)).1 c _ _ _ _ (.doo _) 130 _ r1 rfl rfl hp g1 g2) rfl fun a s h _ hR=> ?_;simp only[↓zp,zv,↓reduceIte,aA];exact hR
      ·simp only[↓zp,zv,↓reduceIte,aA,ek,bE hbx,sfn];refine dO hq hr hne (fun r1 g1 g2=>(hB n (by omega)).1 c _ _ _ _ (.loop _) 131 _ r1 rfl rfl hp g1 g2) rfl fun a s h _ hR=> ?_;simp only[↓zp,zv,↓reduceIte,aA];exact hR
      ·simp only[↓zp,zv,↓reduceIte,aA,ek,bE hbx,sfn];refine dO hq hr hne (fun r1 g1 g2=>(hB n (by omega)).1 c _ _ _ _ (.leave _) 132 _ r1 rfl rfl hp g1 g2) rfl fun a s h _ hR=> ?_;simp only[↓zp,zv,↓reduceIte,aA];exact hR
      ·simp only[↓zp,zv,↓reduceIte,aA,ek,bE hbx,sfn];refine dO hq hr hne (fun r1 g1 g2=>(hB n (by omega)).1 c _ _ _ _ (.back _) 133 _ r1 rfl rfl hp g1 g2) rfl fun a s h _ hR=> ?_;simp only[↓zp,zv,↓reduceIte,aA];exact hR
      ·simp only[↓zp,zv,↓reduceIte,aA,ek,bE hbx,sfn];refine dO hq hr hne (fun r1 g1 g2=>(hB n (by omega)).1 c _ _ _ _ (.throw _) 134 _ r1 rfl rfl hp g1 g2) rfl fun a s h _ hR=> ?_;simp only[↓zp,zv,↓reduceIte,aA];exact hR
      ·simp only[↓zp,zv,↓reduceIte,aA,ek,bE hbx,sfn];refine dO hq hr hne (fun r1 g1 g2=>(hB n (by omega)).1 c _ _ _ _ (.tryy _) 135 _ r1 rfl rfl hp g1 g2) rfl fun a s h _ hR=> ?_;simp only[↓zp,zv,↓reduceIte,aA];exact hR
      ·simp only[↓zp,zv,↓reduceIte,aA,ek,bE hbx,sfn];refine dO hq hr hne (fun r1 g1 g2=>(hB n (by omega)).1 c _ _ _ _ (.choice _) 136 _ r1 rfl rfl hp g1 g2) rfl fun a s h _ hR=> ?_;simp only[↓zp,zv,↓reduceIte,aA];exact hR
    ·have ek:((t.kind:Int)==2)=false:=by simp;omega
     rw[if_neg hk2]at hr;dsimp only at hr
     cases hst:lD t.txt t.fr with
     |none=>
      simp only[Option.map_none,Option.getD_none,Option.isSome_none];simp only[↓zp,zv,↓reduceIte,aA,ek,bE hbx];refine bF hq hr hne (fun r1 g1 g2=>(hB n (by omega)).1 c _ _ _ _ (.expression true) 42 _ r1 rfl rfl hp g1 g2) rfl fun e s h L U _ hr hp hd hq=> ?_;simp only[↓zp,zv,↓reduceIte,aA];refine bF hq hr hne (fun _=>iP hp) rfl fun u s h L U _ hr hp hd hq=> ?_;simp only[↓zp,zv,↓reduceIte,aA];refine bF hq hr hne (fun _=>at_c hp e) rfl fun pe s h L U _ hr hp hd hq=> ?_;simp only[↓zp,zv,↓reduceIte,aA];refine bJ (vals:=[e]) hp hq rfl rfl (by omega) (by omega) fun v h hk hp hd hq hbv hE=> ?_;simp only[↓zp,zv,↓reduceIte,aA];refine bP hq hk.2 hr hne (fun _=>bT hp 37 _ _ _ hk.1) rfl fun a s h _ hR=> ?_;simp only[↓zp,zv,↓reduceIte,aA]
      exact hR
     |some f=>
      simp only[Option.map_some,Option.getD_some,Option.isSome_some,fv];simp only[↓zp,zv,↓reduceIte,aA,ek,bE hbx];refine bF hq hr hne (fun r1 g1 g2=>(hB n (by omega)).1 c _ _ _ _ (.expression true) 42 _ r1 rfl rfl hp g1 g2) rfl fun e s h L U _ hr hp hd hq=> ?_;simp only[↓zp,zv,↓reduceIte,aA];refine bF hq hr hne (fun _=>iP hp) rfl fun u s h L U _ hr hp hd hq=> ?_;simp only[↓zp,zv,↓reduceIte,aA];refine bF hq hr hne (fun _=>at_c hp e) rfl fun pe s h L U _ hr hp hd hq=> ?_;simp only[↓zp,zv,↓reduceIte,aA];refine bJ (vals:=[e]) hp hq rfl rfl (by omega) (by omega) fun v h hk hp hd hq hbv hE=> ?_;simp only[↓zp,zv,↓reduceIte,aA];refine bP hq hk.2 hr hne (fun _=>bT hp 37 _ _ _ hk.1) rfl fun a s h _ hR=> ?_;simp only[↓zp,zv,↓reduceIte,aA];exact hR
  ·simp only[hx,if_true]at hr;simp only[↓zp,zv,↓reduceIte,aA,hx];refine dO hq hr hne (fun r1 g1 g2=>(hB n (by omega)).1 c _ _ _ _ (.block) 101 _ r1 rfl rfl hp g1 g2) rfl fun a s h _ hR=> ?_;simp only[↓zp,zv,↓reduceIte,aA];exact hR
 ·simp only[hl,if_true]at hr;simp only[↓zp,zv,↓reduceIte,aA,hl];obtain⟨hlt,hr⟩:=cE hr hne;obtain⟨hlt2,hr⟩:=cE hr hne;obtain⟨vl,hbp⟩:=hp.p;have hpl:=hbp.lt;dsimp only at hlt2;have w2:IntKind.i64.wrap ((s.i:Int)+2)=((s.i+1+1:Nat):Int):=by have:=hp.big;rw[aU _ (by omega)];simp;omega
  simp only[↓zp,zv,↓reduceIte,aA,bE hbp,hpl,w2];refine cX hp hq hlt2 fun h hp hd hq=> ?_;have hbx:=hlx.blk hbx hd;have hlx:=hlx.par hd;simp only[↓zp,zv,↓reduceIte,aA];refine dL [(0,true),(1,true),(2,true),(3,true),(4,true),(5,true),(6,false),(7,false),(8,false),(9,false)] (fun h1=>Blk h1 bx _ 73) (by kernel_rfl) (by kernel_rfl) (by kernel_rfl) rfl hbx ?_;simp only[Wo,fI,fP,if_true,aI,if_false]
  iterate 6 refine⟨_,.inl fun h1 hS1=>by simp only[rdOp];simp only[↓zp,zv,↓reduceIte,aA,bE hS1];rfl,?_⟩
  refine cY rfl ?_;simp only[↓zp,zv,↓reduceIte,aA];refine bF hq hr hne (fun r1 g1 g2=>(hB n (by omega)).1 c _ _ _ _ (.body) 105 _ r1 rfl rfl hp g1 g2) rfl fun e s h L U _ hr hp hd hq=> ?_;have hbx:=hlx.blk hbx hd;have hlx:=hlx.par hd;simp only[↓zp,zv,↓reduceIte,aA];refine⟨hbx,?_⟩;refine cY rfl ?_;simp only[↓zp,zv,↓reduceIte,aA];refine bJ (vals:=[e]) hp hq rfl rfl (by omega) (by omega) fun v h hk hp hd hq hbv hE=> ?_;have hxxk:=bX hlx (Or.inr hbv);have hbx:=hlx.blk hbx hd;have hlx:=hlx.par hd;simp only[↓zp,zv,↓reduceIte,aA];refine⟨hbx,?_⟩;refine cY rfl ?_;simp only[↓zp,zv,↓reduceIte,aA];have hr:=M_bindp.trans hr;refine bZ hq hk.2 hr hne (fun _=>cO hp 52 _ _ _ _ hk.1) rfl fun a s h L U _ hr hp hd hq=> ?_;have hbx:=hlx.blkX hbx hd;have hlx:=hlx.parX hd hxxk;simp only[↓zp,zv,↓reduceIte,aA];refine⟨hbx,?_⟩;refine cY rfl ?_;simp only[↓zp,zv,↓reduceIte,aA];refine⟨hbx,?_⟩;subst hr;exact⟨rfl,L,U,hp,hq⟩
end
end
section
section
variable{c:PC}{h0 h:Heap}{L0 L:Nat}{U0 U:List Nat}{s:St}{k:Env→Heap→Prop}{ρ:Env}{dst:Option Nat}
theorem mT {b m cap:Nat} {ks:List Nat} {a:Nat} {tk:Tok (dst,ρ,k)} (hp:PS h c L U s) (hq:Par c h0 L0 U0 h L U) (hk:KN h0.size h c L U (.slice (some ⟨b,0,none⟩) m cap) ks) (o:Nat) (ho:o<ks.length)
 (H:∀h',KN h0.size h' c L U (.slice (some ⟨b,0,none⟩) m cap) (ks.set o a)→PS h' c L U s→Par c h0 L0 U0 h' L U→k (ρ.put dst undef) h'):
 WstT aE 3 (.pointer (some ⟨b,o,none⟩)) (.int .i64 (a:Int)) dst ρ h k tk:=by
 have hloc:=hk.1.2 b (by simp[blks]);have hb0:=hk.2 b (by simp[blks]);rcases hk.1.1 with⟨hv,hx⟩|⟨b',n',cap',cs,hv,hb,h1,h2,h3,h4⟩
 ·cases hv
 ·cases hv;have hlen:cs.length≥ks.length:=by rw[cW]at h2;omega
  refine bS hb (by kernel_rfl) (by omega) rfl fun h' hb' hE' hs'=> ?_;have hX:∀x,x∈[b]→x≠c.p∧x≠L∧x∉U:=fun x hx=>by simp at hx;subst hx;exact hloc.2
  refine H h' ⟨⟨.inr ⟨b,m,cap,_,rfl,hb',h1,?_,?_,?_⟩,fun x hx=> ?_⟩,hk.2⟩ (hp.ext hE' hX) (hq.own hE' (fun x hx=>by simp at hx;subst hx;exact hb0))
  ·rw[cW]at h2⊢;simpa using h2
  ·simpa using h3
  ·rw[cW]at h4⊢;rw[List.length_set,List.take_set,h4];simp[bL,List.map_set]
  ·simp[blks]at hx;subst hx;exact hloc.own hE'
end
section
variable{c:PC}{h0:Heap}{L0:Nat}{U0:List Nat}{s:St}{n:Nat}{r:Res Nat}
theorem bodyF_c(hB:Below c.T n)(hp:PS h0 c L0 U0 s)(hr:(run c.T n).e (.body) s=r)(hne:r≠ .out):
 C aE 105 #[.pointer (some ⟨c.p,0,none⟩)] h0 (POut c h0 L0 U0 r vint):=by
 cases n with
 |zero=>exact absurd hr.symm hne
 |succ n=>
 obtain⟨hr,_⟩:=dP hr hne;simp only[dJ,uX]at hr;have hq:Par c h0 L0 U0 h0 L0 U0:=Par.refl _ _ _ _;have hbig:=hp.big;generalize hN:iK c.T s c.T.length 0=N at hr;refine C_in Tryz.func105 rfl rfl (by kernel_rfl) (aG rfl) ?_;simp only[↓zp,zv,↓reduceIte,aA]
 refine⟨fun m ρ h'=> ∃n:Nat,ρ 0=.pointer (some ⟨c.p,0,none⟩)∧ρ 3=vint n∧PS h' c L0 U0 s∧Par c h0 L0 U0 h' L0 U0∧n≤c.T.length+1∧n+2*m=2*c.T.length∧iK c.T s m n=N,c.T.length,
  ⟨0,by simp only[↓zp,zv,↓reduceIte,aA],by simp only[↓zp,zv,↓reduceIte,aA];rfl,hp,hq,by omega,by omega,hN⟩,?_⟩
 clear hp hq hN;rintro m ρ h3 ⟨n',g0,g3,hp,hq,hn1,hn2,hN⟩;have w2:IntKind.i64.wrap ((n':Int)+2)=((n'+2:Nat):Int):=by rw[aU _ (by omega)];simp
 simp only[↓zp,zv,↓reduceIte,aA,g0,g3];refine bO hp hq (rP hp n' (by omega)) fun h hp hd hq hE=> ?_;simp only[↓zp,zv,↓reduceIte,aA,g0,g3];cases hl:eQ c.T s n'
 ·have hNn:n'=N:=by
   rw[←hN]
   cases m with
   |zero=>rfl
   |succ m=>unfold iK;rw[hl];rfl
  subst hNn;simp only[↓zp,zv,↓reduceIte,aA,hl,g0,g3];refine bO hp hq (eV hp n' (by omega)) fun h hp hd hq hE=> ?_;simp only[↓zp,zv,↓reduceIte,aA,g0,g3];refine bO hp hq (fT _ _) fun h hp hd hq hE=> ?_;simp only[↓zp,zv,↓reduceIte,aA,g0,g3];cases x1:(bU c.T s n').txt==([108,101,116]:List UInt8)
  ·cases x2:(bU c.T s n').txt==([99,111,110,115,116]:List UInt8)
   ·cases x3:(bU c.T s n').txt==([102,117,110,99,116,105,111,110]:List UInt8)
    ·simp only[x1,x2,x3,Bool.or_false,aI,if_false]at hr;simp only[↓zp,zv,↓reduceIte,aA,x1,x2,x3,g0,g3];refine dO hq hr hne (fun r1 g1 g2=>(hB n (by omega)).1 c _ _ _ _ (.statement) 74 _ r1 rfl rfl hp g1 g2) rfl fun a s h _ hR=> ?_;simp only[↓zp,zv,↓reduceIte,aA];exact hR
    ·simp only[x1,x2,x3,Bool.or_true,if_true]at hr;simp only[↓zp,zv,↓reduceIte,aA,x1,x2,x3,g0,g3];refine bO hp hq (eV hp n' (by omega)) fun h hp hd hq hE=> ?_;simp only[↓zp,zv,↓reduceIte,aA];refine eF ?_;subst hr;exact⟨rfl,hq.E⟩
   ·simp only[x1,x2,Bool.or_true,Bool.true_or,if_true]at hr;simp only[↓zp,zv,↓reduceIte,aA,x1,x2,g0,g3];refine bO hp hq (eV hp n' (by omega)) fun h hp hd hq hE=> ?_;simp only[↓zp,zv,↓reduceIte,aA];refine eF ?_;subst hr;exact⟨rfl,hq.E⟩
  ·simp only[x1,Bool.true_or,if_true]at hr;simp only[↓zp,zv,↓reduceIte,aA,x1,g0,g3];refine bO hp hq (eV hp n' (by omega)) fun h hp hd hq hE=> ?_;simp only[↓zp,zv,↓reduceIte,aA];refine eF ?_;subst hr;exact⟨rfl,hq.E⟩
 ·have hk:(bU c.T s n').kind=1:=by
   unfold eQ at hl;simp only[Bool.and_eq_true,beq_iff_eq]at hl;exact hl.1
  have hlt:=qC (s:=s) hp.eof hk
  cases m with
  |zero=>omega
  |succ m=>
  simp only[↓zp,zv,↓reduceIte,aA,hl,g0,g3,w2];refine⟨m,by omega,n'+2,by simp only[↓zp,zv,↓reduceIte,aA,g0],by simp only[↓zp,zv,↓reduceIte,aA],hp,hq,by omega,by omega,?_⟩;rw[←hN]
  conv=>rhs;unfold iK
  rw[if_pos hl]
end
end
section
section
variable{c:PC}{h:Heap}{L:Nat}{U:List Nat}{s:St}{n:Nat}{r:Res Nat}
theorem tryF_c(hB:Below c.T n)(hp:PS h c L U s)(pos:Nat)(hr:(run c.T n).e (.tryy pos) s=r)(hne:r≠ .out):
 C aE 135 #[.pointer (some ⟨c.p,0,none⟩),.int .i64 (pos:Int)] h (POut c h L U r vint):=by
 cases n with
 |zero=>exact absurd hr.symm hne
 |succ n=>
 obtain⟨hr,_⟩:=dP hr hne;simp only[dJ,s_try]at hr;have hq:Par c h L U h L U:=Par.refl _ _ _ _;refine C_in Tryz.func135 rfl rfl (by kernel_rfl) (aG rfl) ?_;simp only[↓zp,zv,↓reduceIte,aA];obtain⟨hlt,hr⟩:=cE hr hne;obtain⟨vl,hbp⟩:=hp.p;have hpl:=hbp.lt;have w1:=dV hp;simp only[↓zp,zv,↓reduceIte,aA,bE hbp,hpl,w1];refine cX hp hq hlt fun h hp hd hq=> ?_;simp only[↓zp,zv,↓reduceIte,aA];refine bF hq hr hne (fun r1 g1 g2=>(hB n (by omega)).1 c _ _ _ _ (.block) 101 _ r1 rfl rfl hp g1 g2) rfl fun b s h L U _ hr hp hd hq=> ?_;simp only[↓zp,zv,↓reduceIte,aA];refine bJ (vals:=[b,0,0]) hp hq rfl rfl (by omega) (by omega) fun v h hk hp hd hq hbv hE=> ?_;obtain⟨bk,capk,hvk,-,-⟩:=hk.head;subst hvk;have hi1:(0:Int)≤1∧(1:Int)<((([0,0]:List Nat).length+1:Nat):Int):=by simp
 have hn1:(1:Int).toNat=1:=rfl;simp only[↓zp,zv,↓reduceIte,aA];refine bF hq hr hne (fun _=>eE hp [99,97,116,99,104]) rfl fun bc s h L U _ hr hp hd hq=> ?_;have hk:=hk.par hd
 cases bc with
 |true=>
  simp only[if_true]at hr;rw[dR]at hr;simp only[↓zp,zv,↓reduceIte,aA];refine bF hq hr hne (fun _=>cR hp [40]) rfl fun w s h L U _ hr hp hd hq=> ?_;have hk:=hk.par hd;rw[dR]at hr;simp only[↓zp,zv,↓reduceIte,aA];refine bF hq hr hne (fun _=>kP hp) rfl fun x s h L U _ hr hp hd hq=> ?_;have hk:=hk.par hd;rw[dR]at hr;simp only[↓zp,zv,↓reduceIte,aA];refine bF hq hr hne (fun _=>cR hp [41]) rfl fun w s h L U _ hr hp hd hq=> ?_;have hk:=hk.par hd;rw[dR]at hr;simp only[↓zp,zv,↓reduceIte,aA];refine bF hq hr hne (fun r1 g1 g2=>(hB n (by omega)).1 c _ _ _ _ (.block) 101 _ r1 rfl rfl hp g1 g2) rfl fun ct s h L U _ hr hp hd hq=> ?_;have hk:=hk.par hd;rw[eP]at hr;dsimp only at hr;simp only[↓zp,zv,↓reduceIte,aA,hi1,hn1,aP];refine mT hp hq hk 1 (by simp) fun h hk hp hq=> ?_;simp only[List.set_cons_succ,List.set_cons_zero]at hk;simp only[↓zp,zv,↓reduceIte,aA];have hi2:(0:Int)≤2∧(2:Int)<((([0,0]:List Nat).length+1:Nat):Int):=by simp
  have hn2:(2:Int).toNat=2:=rfl;refine bF hq hr hne (fun _=>eE hp [102,105,110,97,108,108,121]) rfl fun bf s h L U _ hr hp hd hq=> ?_;have hk:=hk.par hd
  cases bf with
  |true=>
   simp only[if_true]at hr;simp only[↓zp,zv,↓reduceIte,aA];refine bF hq hr hne (fun r1 g1 g2=>(hB n (by omega)).1 c _ _ _ _ (.block) 101 _ r1 rfl rfl hp g1 g2) rfl fun f s h L U _ hr hp hd hq=> ?_;have hk:=hk.par hd;simp only[↓zp,zv,↓reduceIte,aA,hi2,hn2,aP];refine mT hp hq hk 2 (by simp) fun h hk hp hq=> ?_;simp only[List.set_cons_succ,List.set_cons_zero]at hk;simp only[↓zp,zv,↓reduceIte,aA];simp only[Bool.not_true,Bool.not_false,Bool.and_false,aI,if_false]at hr
   try simp only[↓zp,zv,↓reduceIte,aA]
   refine bP hq hk.2 hr hne (fun _=>cO hp 48 _ _ _ _ hk.1) rfl fun a s h _ hR=> ?_;simp only[↓zp,zv,↓reduceIte,aA]
   exact hR
  |false=>
   simp only[aI,if_false]at hr;simp only[↓zp,zv,↓reduceIte,aA];have hi:=dI hq;have hjki:=gS (v:=.slice (some ⟨bk,0,none⟩) (([0,0]:List Nat).length+1) capk);refine bZ hq hi.2 hr hne (fun _=>bT hp 54 0 _ _ hi.1) rfl fun f s h L U _ hr hp hd hq=> ?_;have hk:=hk.parX hd hjki;simp only[↓zp,zv,↓reduceIte,aA,hi2,hn2,aP];refine mT hp hq hk 2 (by simp) fun h hk hp hq=> ?_;simp only[List.set_cons_succ,List.set_cons_zero]at hk;simp only[↓zp,zv,↓reduceIte,aA];simp only[Bool.not_true,Bool.not_false,Bool.and_false,Bool.and_true,Bool.false_and,aI,if_false,if_true]at hr
   try simp only[↓zp,zv,↓reduceIte,aA]
   refine bP hq hk.2 hr hne (fun _=>cO hp 48 _ _ _ _ hk.1) rfl fun a s h _ hR=> ?_;simp only[↓zp,zv,↓reduceIte,aA]
   exact hR
 |false=>
  simp only[aI,if_false]at hr;rw[dR]at hr;simp only[↓zp,zv,↓reduceIte,aA];have hi:=dI hq;have hjki:=gS (v:=.slice (some ⟨bk,0,none⟩) (([0,0]:List Nat).length+1) capk);refine bZ hq hi.2 hr hne (fun _=>bT hp 54 0 _ _ hi.1) rfl fun ct s h L U _ hr hp hd hq=> ?_;have hk:=hk.parX hd hjki;rw[eP]at hr;dsimp only at hr;simp only[↓zp,zv,↓reduceIte,aA,hi1,hn1,aP];refine mT hp hq hk 1 (by simp) fun h hk hp hq=> ?_;simp only[List.set_cons_succ,List.set_cons_zero]at hk;simp only[↓zp,zv,↓reduceIte,aA];have hi2:(0:Int)≤2∧(2:Int)<((([0,0]:List Nat).length+1:Nat):Int):=by simp
  have hn2:(2:Int).toNat=2:=rfl;refine bF hq hr hne (fun _=>eE hp [102,105,110,97,108,108,121]) rfl fun bf s h L U _ hr hp hd hq=> ?_;have hk:=hk.par hd
  cases bf with
  |true=>
   simp only[if_true]at hr;simp only[↓zp,zv,↓reduceIte,aA];refine bF hq hr hne (fun r1 g1 g2=>(hB n (by omega)).1 c _ _ _ _ (.block) 101 _ r1 rfl rfl hp g1 g2) rfl fun f s h L U _ hr hp hd hq=> ?_;have hk:=hk.par hd;simp only[↓zp,zv,↓reduceIte,aA,hi2,hn2,aP];refine mT hp hq hk 2 (by simp) fun h hk hp hq=> ?_;simp only[List.set_cons_succ,List.set_cons_zero]at hk;simp only[↓zp,zv,↓reduceIte,aA];simp only[Bool.not_true,Bool.not_false,Bool.and_false,aI,if_false]at hr
   try simp only[↓zp,zv,↓reduceIte,aA]
   refine bP hq hk.2 hr hne (fun _=>cO hp 48 _ _ _ _ hk.1) rfl fun a s h _ hR=> ?_;simp only[↓zp,zv,↓reduceIte,aA]
   exact hR
  |false=>
   simp only[aI,if_false]at hr;simp only[↓zp,zv,↓reduceIte,aA];have hi:=dI hq;have hjki:=gS (v:=.slice (some ⟨bk,0,none⟩) (([0,0]:List Nat).length+1) capk);refine bZ hq hi.2 hr hne (fun _=>bT hp 54 0 _ _ hi.1) rfl fun f s h L U _ hr hp hd hq=> ?_;have hk:=hk.parX hd hjki;simp only[↓zp,zv,↓reduceIte,aA,hi2,hn2,aP];refine mT hp hq hk 2 (by simp) fun h hk hp hq=> ?_;simp only[List.set_cons_succ,List.set_cons_zero]at hk;simp only[↓zp,zv,↓reduceIte,aA];simp only[Bool.not_true,Bool.not_false,Bool.and_false,Bool.and_true,Bool.false_and,aI,if_false,if_true]at hr
   try simp only[↓zp,zv,↓reduceIte,aA]
   exact gF hp hq hr rfl
end
section
variable{c:PC}{h0:Heap}{L0:Nat}{U0:List Nat}{s:St}{n:Nat}{r:Res Nat}
theorem choiceF_c(hB:Below c.T n)(hp:PS h0 c L0 U0 s)(pos:Nat)(hr:(run c.T n).e (.choice pos) s=r)(hne:r≠ .out):
 C aE 136 #[.pointer (some ⟨c.p,0,none⟩),.int .i64 (pos:Int)] h0 (POut c h0 L0 U0 r vint):=by
 cases n with
 |zero=>exact absurd hr.symm hne
 |succ n=>
 obtain⟨hr,_⟩:=dP hr hne;simp only[dJ,nU]at hr;have hq:Par c h0 L0 U0 h0 L0 U0:=Par.refl _ _ _ _;refine C_in Tryz.func136 rfl rfl (by kernel_rfl) (aG rfl) ?_;simp only[↓zp,zv,↓reduceIte,aA];obtain⟨hlt,hr⟩:=cE hr hne;obtain⟨vl,hbp⟩:=hp.p;have hpl:=hbp.lt;have w1:=dV hp;simp only[↓zp,zv,↓reduceIte,aA,bE hbp,hpl,w1];refine cX hp hq hlt fun h hp hd hq=> ?_;simp only[↓zp,zv,↓reduceIte,aA];refine bF hq hr hne (fun r1 g1 g2=>(hB n (by omega)).1 c _ _ _ _ (.parens) 156 _ r1 rfl rfl hp g1 g2) rfl fun e s h L U _ hr hp hd hq=> ?_;simp only[↓zp,zv,↓reduceIte,aA];refine bJ (vals:=[e]) hp hq rfl rfl (by omega) (by omega) fun v h hk hp hd hq hbv hE=> ?_;simp only[↓zp,zv,↓reduceIte,aA];refine bF hq hr hne (fun _=>cR hp [123]) rfl fun w s h L U _ hr hp hd hq=> ?_;have hk:=hk.par hd;simp only[↓zp,zv,↓reduceIte,aA]
 refine⟨fun m ρ h'=> ∃L U s' known v ks,ρ 0=.pointer (some ⟨c.p,0,none⟩)∧ρ 1=vint pos∧ρ 5=v∧ρ 6=.bool known∧KN h0.size h' c L U v ks∧PS h' c L U s'∧Par c h0 L0 U0 h' L U∧(run c.T m).e (.chLoop pos known ks) s'=r∧m≤n,n,
  ⟨L,U,_,false,_,[e],by simp only[↓zp,zv,↓reduceIte,aA],by simp only[↓zp,zv,↓reduceIte,aA],by simp only[↓zp,zv,↓reduceIte,aA],by simp only[↓zp,zv,↓reduceIte,aA],hk,hp,hq,hr,bA _⟩,?_⟩
 clear hr hk hp hq;rintro m ρ h3 ⟨L,U,s,known,v,ks,g0,g1,g5,g6,hk,hp,hq,hr,hm⟩
 cases m with
 |zero=>exact absurd hr.symm hne
 |succ m=>
 obtain⟨hr,hkl⟩:=dP hr hne;simp only[dJ,nV]at hr;simp only[Fn1.kids]at hkl;have hB':Below c.T (m+1):=fun j hj=>hB j (by omega);simp only[↓zp,zv,↓reduceIte,aA,g0,g1,g5,g6];refine bO hp hq (is_c hp [125]) fun h hp hd hq hE=> ?_;have hk:=hk.par hd;simp only[↓zp,zv,↓reduceIte,aA,g0,g1,g5,g6];cases hx:isT c.T s [125]
 ·simp only[hx,aI,if_false]at hr;simp only[↓zp,zv,↓reduceIte,aA,hx,g0,g1,g5,g6];refine bO hp hq (eC hp) fun h hp hd hq hE=> ?_;have hk:=hk.par hd;simp only[↓zp,zv,↓reduceIte,aA,g0,g1,g5,g6];refine bF hq hr hne (fun _=>eE hp [99,97,115,101]) rfl fun b s h L U _ hr hp hd hq=> ?_;have hk:=hk.par hd
  cases b with
  |true=>
   simp only[if_true]at hr;simp only[↓zp,zv,↓reduceIte,aA,g0,g1,g5,g6];refine bF hq hr hne (fun r1 g1 g2=>(hB m (by omega)).1 c _ _ _ _ (.expression true) 42 _ r1 rfl rfl hp g1 g2) rfl fun x s h L U _ hr hp hd hq=> ?_;have hk:=hk.par hd;simp only[↓zp,zv,↓reduceIte,aA,g0,g1,g5,g6];refine bF hq hr hne (fun _=>cR hp [58]) rfl fun w s h L U _ hr hp hd hq=> ?_;have hk:=hk.par hd;simp only[↓zp,zv,↓reduceIte,aA,g0,g1,g5,g6];refine bJ (vals:=[x]) hp hq rfl rfl (by omega) (by omega) fun vj h hj hp hd hq hbv hE=> ?_;have hjkj:=dT hk (Or.inr hbv);have hk:=hk.par hd;simp only[↓zp,zv,↓reduceIte,aA,g0,g1,g5,g6];refine mV hq hr hne (fun r1 g1 g2=>((hB m (by omega)).2 c _ _ _ _ r1 rfl hp g2).1 g1) rfl fun vi ksi s h L U hrun hr hp hd hq hi hfr=> ?_;have hjki:=lP hk hfr;have hjji:=lP hj hfr;have hk:=hk.par hd;have hj:=hj.par hd;have hlen:=rB _ _ _ _ _ hrun;simp only[↓zp,zv,↓reduceIte,aA,g0,g1,g5,g6];refine cZ hp hq hj hi.1.1 (by(try unfold most at*);(try simp only[aB,aD,aC]);omega) fun vj h hj hp hq hE hc=> ?_;have hjkjn:=dj_app hk hjkj hc;have hk:=hk.extD hE hjkj;have hjkj:=hjkjn;simp only[↓zp,zv,↓reduceIte,aA,g0,g1,g5,g6];refine bZ hq hj.2 hr hne (fun _=>bT hp 50 _ _ _ hj.1) rfl fun a s h L U _ hr hp hd hq=> ?_;have hk:=hk.parX hd hjkj;simp only[↓zp,zv,↓reduceIte,aA,g0,g1,g5,g6];refine bJ (vals:=[a]) hp hq rfl rfl (by omega) (by omega) fun vi h hi hp hd hq hbv hE=> ?_;have hjki:=dT hk (Or.inr hbv);have hk:=hk.par hd;simp only[↓zp,zv,↓reduceIte,aA,g0,g1,g5,g6];refine cZ hp hq hk hi.1.1 (by(try unfold most at*);(try simp only[aB,aD,aC]);omega) fun vk h hk hp hq hE hc=> ?_;simp only[↓zp,zv,↓reduceIte,aA,g0,g1,g5,g6]
   exact⟨m,by omega,L,U,_,known,_,_,by simp only[↓zp,zv,↓reduceIte,aA,g0],by simp only[↓zp,zv,↓reduceIte,aA,g1],by simp only[↓zp,zv,↓reduceIte,aA],by simp only[↓zp,zv,↓reduceIte,aA,g6],hk,hp,hq,hr,by omega⟩
  |false=>
   simp only[aI,if_false]at hr;simp only[↓zp,zv,↓reduceIte,aA,g0,g1,g5,g6]
   cases known with
   |true=>
    simp only[Bool.not_true,Bool.false_and,aI,if_false]at hr;simp only[↓zp,zv,↓reduceIte,aA,g0,g1,g5,g6]
    exact gF hp hq hr rfl
   |false=>
    simp only[Bool.not_false,Bool.true_and]at hr;simp only[↓zp,zv,↓reduceIte,aA,g0,g1,g5,g6];cases hy:isT c.T s [100,101,102,97,117,108,116]
    ·simp only[hy,aI,if_false]at hr;refine bH (eE hp [100,101,102,97,117,108,116] (r:=.ok false s) (by simp[eY,hy]) (by simp)) ?_;rintro e4 h4 ⟨rfl,L4,U4,hp,hd⟩;have hq:=hq.trans hd;simp only[↓zp,zv,↓reduceIte,aA,g0,g1,g5,g6];exact gF hp hq hr rfl
    ·simp only[hy,if_true]at hr;obtain⟨hlt,hr⟩:=cE hr hne;refine bH (eE hp [100,101,102,97,117,108,116] (r:=.ok true {s with i:=s.i+1}) (by simp only[eY,hy,hlt,if_true]) (by simp)) ?_;rintro e4 h4 ⟨rfl,L4,U4,hp,hd⟩;have hq:=hq.trans hd;have hk:=hk.par hd;simp only[↓zp,zv,↓reduceIte,aA,g0,g1,g5,g6];refine bF hq hr hne (fun _=>cR hp [58]) rfl fun w s h L U _ hr hp hd hq=> ?_;have hk:=hk.par hd;simp only[↓zp,zv,↓reduceIte,aA,g0,g1,g5,g6];refine mV hq hr hne (fun r1 g1 g2=>((hB m (by omega)).2 c _ _ _ _ r1 rfl hp g2).1 g1) rfl fun vi ksi s h L U hrun hr hp hd hq hi hfr=> ?_;have hjki:=lP hk hfr;have hk:=hk.par hd;simp only[↓zp,zv,↓reduceIte,aA,g0,g1,g5,g6];refine bZ hq hi.2 hr hne (fun _=>bT hp 51 _ _ _ hi.1) rfl fun a s h L U _ hr hp hd hq=> ?_;have hk:=hk.parX hd hjki;simp only[↓zp,zv,↓reduceIte,aA,g0,g1,g5,g6];refine bJ (vals:=[a]) hp hq rfl rfl (by omega) (by omega) fun vi h hi hp hd hq hbv hE=> ?_;have hjki:=dT hk (Or.inr hbv);have hk:=hk.par hd;simp only[↓zp,zv,↓reduceIte,aA,g0,g1,g5,g6];refine cZ hp hq hk hi.1.1 (by(try unfold most at*);(try simp only[aB,aD,aC]);omega) fun vk h hk hp hq hE hc=> ?_;simp only[↓zp,zv,↓reduceIte,aA,g0,g1,g5,g6];exact⟨m,by omega,L,U,_,true,_,_,by simp only[↓zp,zv,↓reduceIte,aA,g0],by simp only[↓zp,zv,↓reduceIte,aA,g1],by simp only[↓zp,zv,↓reduceIte,aA],by simp only[↓zp,zv,↓reduceIte,aA],hk,hp,hq,hr,by omega⟩
 ·simp only[hx,if_true]at hr;simp only[↓zp,zv,↓reduceIte,aA,hx,g0,g1,g5,g6];refine bF hq hr hne (fun _=>cR hp [125]) rfl fun w s h L U _ hr hp hd hq=> ?_;have hk:=hk.par hd;simp only[↓zp,zv,↓reduceIte,aA,g0,g1,g5,g6];refine bP hq hk.2 hr hne (fun _=>bT hp 49 _ _ _ hk.1) rfl fun a s h _ hR=> ?_;simp only[↓zp,zv,↓reduceIte,aA];exact hR
end
end
section
section
variable{c:PC}{h:Heap}{L:Nat}{U:List Nat}{s:St}{n:Nat}{r:Res Nat}
theorem eachF_c(hB:Below c.T n)(hp:PS h c L U s)(pos:Nat)(d:Bool)(hr:(run c.T n).e (.each pos d) s=r)(hne:r≠ .out):
 C aE 158 #[.pointer (some ⟨c.p,0,none⟩),vint pos,.bool d] h (POut c h L U r vint):=by
 cases n with
 |zero=>exact absurd hr.symm hne
 |succ n=>
 obtain⟨hr,_⟩:=dP hr hne;simp only[dJ,uW]at hr;have hq:Par c h L U h L U:=Par.refl _ _ _ _;refine C_in Tryz.func158 rfl rfl (by kernel_rfl) (aG rfl) ?_;simp only[↓zp,zv,↓reduceIte,aA];refine bO hp hq (eC hp) fun h hp hd hq hE=> ?_;simp only[↓zp,zv,↓reduceIte,aA];have hbx:Blk (h.push (.cells (nowT c.T (s)).cells.toArray 73)) h.size (nowT c.T (s)).cells 73:=Blk.new;have hlx:Loc (h.push (.cells (nowT c.T (s)).cells.toArray 73)) c _ _ h.size:=Loc.new hp (bA _) (by simp);have hEx:Ext [] h (h.push (.cells (nowT c.T (s)).cells.toArray 73)):=Ext.push _ _ _;have hp:=hp.ext0 hEx;have hq:=hq.ext0 hEx;generalize h.push (.cells (nowT c.T (s)).cells.toArray 73)=hx at hbx hlx hEx hp hq⊢;generalize hzx:h.size=bx at hbx hlx⊢;generalize hhd:nowT c.T s=hd0 at hr hbx
 cases d with
 |false=>
  simp only[aI,if_false]at hr;simp only[↓zp,zv,↓reduceIte,aA];refine bO hp hq (eC hp) fun h hp hd hq hE=> ?_;simp only[↓zp,zv,↓reduceIte,aA];have hbz:Blk (h.push (.cells (nowT c.T (s)).cells.toArray 73)) h.size (nowT c.T (s)).cells 73:=Blk.new;have hlz:Loc (h.push (.cells (nowT c.T (s)).cells.toArray 73)) c _ _ h.size:=Loc.new hp (bA _) (by simp);have hEz:Ext [] h (h.push (.cells (nowT c.T (s)).cells.toArray 73)):=Ext.push _ _ _;have hp:=hp.ext0 hEz;have hq:=hq.ext0 hEz;generalize h.push (.cells (nowT c.T (s)).cells.toArray 73)=hz at hbz hlz hEz hp hq⊢;generalize hzz:h.size=bz at hbz hlz⊢;obtain⟨hlt,hr⟩:=cE hr hne;obtain⟨vl,hbp⟩:=hp.p;have hpl:=hbp.lt;have w1:=dV hp;simp only[↓zp,zv,↓reduceIte,aA,bE hbp,hpl,w1];refine cX hp hq hlt fun h hp hd hq=> ?_;have hbz:=hlz.blk hbz hd;have hlz:=hlz.par hd;generalize nowT c.T _=t at hr hbz;simp only[Bool.not_false,if_true]at hr;simp only[↓zp,zv,↓reduceIte,aA,bE hbz];have hi:=dI hq;have hxzi:=gB (b:=bz);refine bZ hq hi.2 hr hne (fun _=>cO hp 6 _ _ _ _ hi.1) rfl fun f s h L U _ hr hp hd hq=> ?_;have hbz:=hlz.blkX hbz hd;have hlz:=hlz.parX hd hxzi;simp only[↓zp,zv,↓reduceIte,aA];refine bF hq hr hne (fun _=>eE hp [105,110]) rfl fun bi s h L U _ hr hp hd hq=> ?_
  cases bi with
  |true=>
   simp only[if_true]at hr;simp only[↓zp,zv,↓reduceIte,aA];refine bF hq hr hne (fun r1 g1 g2=>(hB n (by omega)).1 c _ _ _ _ (.expression true) 42 _ r1 rfl rfl hp g1 g2) rfl fun e s h L U _ hr hp hd hq=> ?_;simp only[↓zp,zv,↓reduceIte,aA];refine bF hq hr hne (fun _=>cR hp [41]) rfl fun w s h L U _ hr hp hd hq=> ?_;simp only[↓zp,zv,↓reduceIte,aA];refine bF hq hr hne (fun r1 g1 g2=>(hB n (by omega)).1 c _ _ _ _ (.body) 105 _ r1 rfl rfl hp g1 g2) rfl fun b s h L U _ hr hp hd hq=> ?_;simp only[↓zp,zv,↓reduceIte,aA];refine bJ (vals:=[f,e,b]) hp hq rfl rfl (by omega) (by omega) fun v h hk hp hd hq hbv hE=> ?_;simp only[↓zp,zv,↓reduceIte,aA];refine bP hq hk.2 hr hne (fun _=>bT hp 40 _ _ _ hk.1) rfl fun a s h _ hR=> ?_;simp only[↓zp,zv,↓reduceIte,aA]
   exact hR
  |false=>
   simp only[aI,if_false]at hr;simp only[↓zp,zv,↓reduceIte,aA];obtain⟨hlt,hr⟩:=cE hr hne;obtain⟨vl,hbp⟩:=hp.p;have hpl:=hbp.lt;have w1:=dV hp;simp only[↓zp,zv,↓reduceIte,aA,bE hbp,hpl,w1];refine cX hp hq hlt fun h hp hd hq=> ?_;simp only[↓zp,zv,↓reduceIte,aA];refine bF hq hr hne (fun r1 g1 g2=>(hB n (by omega)).1 c _ _ _ _ (.assignment true) 70 _ r1 rfl rfl hp g1 g2) rfl fun e s h L U _ hr hp hd hq=> ?_;simp only[↓zp,zv,↓reduceIte,aA];refine bF hq hr hne (fun _=>cR hp [41]) rfl fun w s h L U _ hr hp hd hq=> ?_;simp only[↓zp,zv,↓reduceIte,aA];refine bF hq hr hne (fun r1 g1 g2=>(hB n (by omega)).1 c _ _ _ _ (.body) 105 _ r1 rfl rfl hp g1 g2) rfl fun b s h L U _ hr hp hd hq=> ?_;simp only[↓zp,zv,↓reduceIte,aA];refine bJ (vals:=[f,e,b]) hp hq rfl rfl (by omega) (by omega) fun v h hk hp hd hq hbv hE=> ?_;simp only[↓zp,zv,↓reduceIte,aA];refine bP hq hk.2 hr hne (fun _=>bT hp 41 _ _ _ hk.1) rfl fun a s h _ hR=> ?_;simp only[↓zp,zv,↓reduceIte,aA]
   exact hR
 |true=>
  simp only[if_true]at hr;simp only[↓zp,zv,↓reduceIte,aA];obtain⟨hlt,hr⟩:=cE hr hne;obtain⟨vl,hbp⟩:=hp.p;have hpl:=hbp.lt;have w1:=dV hp;simp only[↓zp,zv,↓reduceIte,aA,bE hbp,hpl,w1];refine cX hp hq hlt fun h hp hd hq=> ?_;have hbx:=hlx.blk hbx hd;have hlx:=hlx.par hd;simp only[↓zp,zv,↓reduceIte,aA];refine bO hp hq (eC hp) fun h hp hd hq hE=> ?_;have hbx:=hlx.blk hbx hd;have hlx:=hlx.par hd;simp only[↓zp,zv,↓reduceIte,aA];have hbz:Blk (h.push (.cells (nowT c.T ({s with i:=s.i+1})).cells.toArray 73)) h.size (nowT c.T ({s with i:=s.i+1})).cells 73:=Blk.new;have hlz:Loc (h.push (.cells (nowT c.T ({s with i:=s.i+1})).cells.toArray 73)) c _ _ h.size:=Loc.new hp (bA _) (by simp);have hEz:Ext [] h (h.push (.cells (nowT c.T ({s with i:=s.i+1})).cells.toArray 73)):=Ext.push _ _ _;have hp:=hp.ext0 hEz;have hq:=hq.ext0 hEz;generalize h.push (.cells (nowT c.T ({s with i:=s.i+1})).cells.toArray 73)=hz at hbz hlz hEz hp hq⊢;generalize hzz:h.size=bz at hbz hlz⊢;have hbx:=hbx.ext hEz (by simp);have hlx:=hlx.own hEz;obtain⟨hlt,hr⟩:=cE hr hne;obtain⟨vl,hbp⟩:=hp.p;have hpl:=hbp.lt;have w1:=dV hp;simp only[↓zp,zv,↓reduceIte,aA,bE hbp,hpl,w1];refine cX hp hq hlt fun h hp hd hq=> ?_;have hbx:=hlx.blk hbx hd;have hlx:=hlx.par hd;have hbz:=hlz.blk hbz hd;have hlz:=hlz.par hd;simp only[Bool.not_true,aI,if_false]at hr;rw[dR]at hr;generalize hzt:nowT c.T _=t at hr hbz;simp only[↓zp,zv,↓reduceIte,aA,bE hbx];cases hlet:hd0.text==([108,101,116]:List UInt8)
  ·simp only[hlet,aI,if_false]at hr;simp only[↓zp,zv,↓reduceIte,aA,hlet];refine dL [(0,true),(1,true),(2,true),(3,true),(4,true),(5,true),(6,true),(7,true),(8,false),(9,false),(10,false),(11,false)] (fun h1=>Blk h1 bx _ 73∧Blk h1 bz _ 73) (by kernel_rfl) (by kernel_rfl) (by kernel_rfl) rfl ⟨hbx,hbz⟩ ?_;simp only[Wo,fI,fP,if_true,aI,if_false]
   iterate 8 refine⟨_,.inl fun h1 hS1=>by simp only[rdOp];simp only[↓zp,zv,↓reduceIte,aA,bE hS1.1,bE hS1.2];rfl,?_⟩
   have hi:=dI hq;have hxxi:=gB (b:=bx);have hxzi:=gB (b:=bz);refine cY rfl ?_;simp only[↓zp,zv,↓reduceIte,aA];refine bZ hq hi.2 hr hne (fun _=>cO hp 35 _ _ _ _ hi.1) rfl fun k s h L U _ hr hp hd hq=> ?_;have hbx:=hlx.blkX hbx hd;have hlx:=hlx.parX hd hxxi;have hbz:=hlz.blkX hbz hd;have hlz:=hlz.parX hd hxzi;simp only[↓zp,zv,↓reduceIte,aA];refine⟨⟨hbx,hbz⟩,?_⟩;refine cY rfl ?_;simp only[↓zp,zv,↓reduceIte,aA];refine bJ (vals:=[k]) hp hq rfl rfl (by omega) (by omega) fun vi h hi hp hd hq hbv hE=> ?_;have hxxi:=bX hlx (Or.inr hbv);have hxzi:=bX hlz (Or.inr hbv);have hbx:=hlx.blk hbx hd;have hlx:=hlx.par hd;have hbz:=hlz.blk hbz hd;have hlz:=hlz.par hd;simp only[↓zp,zv,↓reduceIte,aA];refine⟨⟨hbx,hbz⟩,?_⟩;refine cY rfl ?_;simp only[↓zp,zv,↓reduceIte,aA];refine bZ hq hi.2 hr hne (fun _=>bT hp _ _ _ _ hi.1) rfl fun f s h L U _ hr hp hd hq=> ?_;have hbx:=hlx.blkX hbx hd;have hlx:=hlx.parX hd hxxi;have hbz:=hlz.blkX hbz hd;have hlz:=hlz.parX hd hxzi;simp only[↓zp,zv,↓reduceIte,aA];refine⟨⟨hbx,hbz⟩,?_⟩;refine cY rfl ?_;simp only[↓zp,zv,↓reduceIte,aA];refine⟨⟨hbx,hbz⟩,?_⟩;refine bF hq hr hne (fun _=>eE hp [105,110]) rfl fun bi s h L U _ hr hp hd hq=> ?_
   cases bi with
   |true=>
    simp only[if_true]at hr;simp only[↓zp,zv,↓reduceIte,aA];refine bF hq hr hne (fun r1 g1 g2=>(hB n (by omega)).1 c _ _ _ _ (.expression true) 42 _ r1 rfl rfl hp g1 g2) rfl fun e s h L U _ hr hp hd hq=> ?_;simp only[↓zp,zv,↓reduceIte,aA];refine bF hq hr hne (fun _=>cR hp [41]) rfl fun w s h L U _ hr hp hd hq=> ?_;simp only[↓zp,zv,↓reduceIte,aA];refine bF hq hr hne (fun r1 g1 g2=>(hB n (by omega)).1 c _ _ _ _ (.body) 105 _ r1 rfl rfl hp g1 g2) rfl fun b s h L U _ hr hp hd hq=> ?_;simp only[↓zp,zv,↓reduceIte,aA];refine bJ (vals:=[f,e,b]) hp hq rfl rfl (by omega) (by omega) fun v h hk hp hd hq hbv hE=> ?_;simp only[↓zp,zv,↓reduceIte,aA];refine bP hq hk.2 hr hne (fun _=>bT hp 40 _ _ _ hk.1) rfl fun a s h _ hR=> ?_;simp only[↓zp,zv,↓reduceIte,aA]
    exact hR
   |false=>
    simp only[aI,if_false]at hr;simp only[↓zp,zv,↓reduceIte,aA];obtain⟨hlt,hr⟩:=cE hr hne;obtain⟨vl,hbp⟩:=hp.p;have hpl:=hbp.lt;have w1:=dV hp;simp only[↓zp,zv,↓reduceIte,aA,bE hbp,hpl,w1];refine cX hp hq hlt fun h hp hd hq=> ?_;simp only[↓zp,zv,↓reduceIte,aA];refine bF hq hr hne (fun r1 g1 g2=>(hB n (by omega)).1 c _ _ _ _ (.assignment true) 70 _ r1 rfl rfl hp g1 g2) rfl fun e s h L U _ hr hp hd hq=> ?_;simp only[↓zp,zv,↓reduceIte,aA];refine bF hq hr hne (fun _=>cR hp [41]) rfl fun w s h L U _ hr hp hd hq=> ?_;simp only[↓zp,zv,↓reduceIte,aA];refine bF hq hr hne (fun r1 g1 g2=>(hB n (by omega)).1 c _ _ _ _ (.body) 105 _ r1 rfl rfl hp g1 g2) rfl fun b s h L U _ hr hp hd hq=> ?_;simp only[↓zp,zv,↓reduceIte,aA];refine bJ (vals:=[f,e,b]) hp hq rfl rfl (by omega) (by omega) fun v h hk hp hd hq hbv hE=> ?_;simp only[↓zp,zv,↓reduceIte,aA];refine bP hq hk.2 hr hne (fun _=>bT hp 41 _ _ _ hk.1) rfl fun a s h _ hR=> ?_;simp only[↓zp,zv,↓reduceIte,aA];exact hR
  ·simp only[hlet,if_true]at hr;simp only[↓zp,zv,↓reduceIte,aA,hlet];refine dL [(0,true),(1,true),(2,true),(3,true),(4,true),(5,true),(6,true),(7,true),(8,false),(9,false),(10,false),(11,false)] (fun h1=>Blk h1 bx _ 73∧Blk h1 bz _ 73) (by kernel_rfl) (by kernel_rfl) (by kernel_rfl) rfl ⟨hbx,hbz⟩ ?_;simp only[Wo,fI,fP,if_true,aI,if_false]
   iterate 8 refine⟨_,.inl fun h1 hS1=>by simp only[rdOp];simp only[↓zp,zv,↓reduceIte,aA,bE hS1.1,bE hS1.2];rfl,?_⟩
   have hi:=dI hq;have hxxi:=gB (b:=bx);have hxzi:=gB (b:=bz);refine cY rfl ?_;simp only[↓zp,zv,↓reduceIte,aA];refine bZ hq hi.2 hr hne (fun _=>cO hp 35 _ _ _ _ hi.1) rfl fun k s h L U _ hr hp hd hq=> ?_;have hbx:=hlx.blkX hbx hd;have hlx:=hlx.parX hd hxxi;have hbz:=hlz.blkX hbz hd;have hlz:=hlz.parX hd hxzi;simp only[↓zp,zv,↓reduceIte,aA];refine⟨⟨hbx,hbz⟩,?_⟩;refine cY rfl ?_;simp only[↓zp,zv,↓reduceIte,aA];refine bJ (vals:=[k]) hp hq rfl rfl (by omega) (by omega) fun vi h hi hp hd hq hbv hE=> ?_;have hxxi:=bX hlx (Or.inr hbv);have hxzi:=bX hlz (Or.inr hbv);have hbx:=hlx.blk hbx hd;have hlx:=hlx.par hd;have hbz:=hlz.blk hbz hd;have hlz:=hlz.par hd;simp only[↓zp,zv,↓reduceIte,aA];refine⟨⟨hbx,hbz⟩,?_⟩;refine cY rfl ?_;simp only[↓zp,zv,↓reduceIte,aA];refine bZ hq hi.2 hr hne (fun _=>bT hp _ _ _ _ hi.1) rfl fun f s h L U _ hr hp hd hq=> ?_;have hbx:=hlx.blkX hbx hd;have hlx:=hlx.parX hd hxxi;have hbz:=hlz.blkX hbz hd;have hlz:=hlz.parX hd hxzi;simp only[↓zp,zv,↓reduceIte,aA];refine⟨⟨hbx,hbz⟩,?_⟩;refine cY rfl ?_;simp only[↓zp,zv,↓reduceIte,aA];refine⟨⟨hbx,hbz⟩,?_⟩;refine bF hq hr hne (fun _=>eE hp [105,110]) rfl fun bi s h L U _ hr hp hd hq=> ?_
   cases bi with
   |true=>
    simp only[if_true]at hr;simp only[↓zp,zv,↓reduceIte,aA];refine bF hq hr hne (fun r1 g1 g2=>(hB n (by omega)).1 c _ _ _ _ (.expression true) 42 _ r1 rfl rfl hp g1 g2) rfl fun e s h L U _ hr hp hd hq=> ?_;simp only[↓zp,zv,↓reduceIte,aA];refine bF hq hr hne (fun _=>cR hp [41]) rfl fun w s h L U _ hr hp hd hq=> ?_;simp only[↓zp,zv,↓reduceIte,aA];refine bF hq hr hne (fun r1 g1 g2=>(hB n (by omega)).1 c _ _ _ _ (.body) 105 _ r1 rfl rfl hp g1 g2) rfl fun b s h L U _ hr hp hd hq=> ?_;simp only[↓zp,zv,↓reduceIte,aA];refine bJ (vals:=[f,e,b]) hp hq rfl rfl (by omega) (by omega) fun v h hk hp hd hq hbv hE=> ?_;simp only[↓zp,zv,↓reduceIte,aA];refine bP hq hk.2 hr hne (fun _=>bT hp 40 _ _ _ hk.1) rfl fun a s h _ hR=> ?_;simp only[↓zp,zv,↓reduceIte,aA]
    exact hR
   |false=>
    simp only[aI,if_false]at hr;simp only[↓zp,zv,↓reduceIte,aA];obtain⟨hlt,hr⟩:=cE hr hne;obtain⟨vl,hbp⟩:=hp.p;have hpl:=hbp.lt;have w1:=dV hp;simp only[↓zp,zv,↓reduceIte,aA,bE hbp,hpl,w1];refine cX hp hq hlt fun h hp hd hq=> ?_;simp only[↓zp,zv,↓reduceIte,aA];refine bF hq hr hne (fun r1 g1 g2=>(hB n (by omega)).1 c _ _ _ _ (.assignment true) 70 _ r1 rfl rfl hp g1 g2) rfl fun e s h L U _ hr hp hd hq=> ?_;simp only[↓zp,zv,↓reduceIte,aA];refine bF hq hr hne (fun _=>cR hp [41]) rfl fun w s h L U _ hr hp hd hq=> ?_;simp only[↓zp,zv,↓reduceIte,aA];refine bF hq hr hne (fun r1 g1 g2=>(hB n (by omega)).1 c _ _ _ _ (.body) 105 _ r1 rfl rfl hp g1 g2) rfl fun b s h L U _ hr hp hd hq=> ?_;simp only[↓zp,zv,↓reduceIte,aA];refine bJ (vals:=[f,e,b]) hp hq rfl rfl (by omega) (by omega) fun v h hk hp hd hq hbv hE=> ?_;simp only[↓zp,zv,↓reduceIte,aA];refine bP hq hk.2 hr hne (fun _=>bT hp 41 _ _ _ hk.1) rfl fun a s h _ hR=> ?_;simp only[↓zp,zv,↓reduceIte,aA];exact hR
theorem over_c(t:Tk)(h:Heap):C aE 157 #[.agg t.cells.toArray] h fun e h'=>e=.returned (.bool (iO t))∧Ext [] h h':=by
 refine C_in Tryz.func157 rfl rfl (by kernel_rfl) (aG rfl) ?_;by_cases h2:t.kind=2
 ·have e2:((t.kind:Int)==2)=true:=by simp[h2]
  have e1:((t.kind:Int)==1)=false:=by simp;omega
  cases hx:t.text==([105,110]:List UInt8)
  ·simp only[↓zp,zw,↓reduceIte,aA,tkc,gJ,e2,e1,hx,Tk.cells];exact⟨by simp[iO,h2,hx],Ext.push _ _ _⟩
  ·simp only[↓zp,zw,↓reduceIte,aA,tkc,gJ,e2,e1,hx,Tk.cells];exact⟨by simp[iO,h2,hx],Ext.push _ _ _⟩
 ·have e2:((t.kind:Int)==2)=false:=by simp;omega
  by_cases h1:t.kind=1
  ·have e1:((t.kind:Int)==1)=true:=by simp[h1]
   cases hx:t.text==([111,102]:List UInt8)
   ·simp only[↓zp,zw,↓reduceIte,aA,tkc,gJ,e2,e1,hx,Tk.cells];exact⟨by simp[iO,h1,hx],Ext.push _ _ _⟩
   ·simp only[↓zp,zw,↓reduceIte,aA,tkc,gJ,e2,e1,hx,Tk.cells];exact⟨by simp[iO,h1,hx],Ext.push _ _ _⟩
  ·have e1:((t.kind:Int)==1)=false:=by simp;omega
   simp only[↓zp,zw,↓reduceIte,aA,tkc,gJ,e2,e1,Tk.cells];exact⟨by simp[iO,h1,h2],Ext.push _ _ _⟩
end
end
end Go.Proofs.YtfmbepijhnaklaaGreatDoor
