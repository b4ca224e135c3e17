/- Proved here: The tree's checker | digits | digits.sticky | digits.float, digits.Literal | The parser's strengths | parse.read, Script, Expr | lintellaw08.awake returns true | The tree's checker | The tree's checker | tree.Check's rules, and its search among a node's kids. Conditions: what each statement names. -/
import Derived.Test.YtfmbepijhnaklaaGreatDoorK14
import Derived.Test.YtfmbepijhnaklaaGreatDoorK07
import Derived.Test.YtfmbepijhnaklaaGreatDoorK10
import Derived.Test.YtfmbepijhnaklaaGreatDoorK09
set_option maxRecDepth 100000
set_option maxHeartbeats 4000000
set_option linter.unusedSimpArgs false
set_option linter.unusedVariables false
set_option linter.defProp false
open Nat renaming reduceEqDiff → aA, le_of_ble_eq_true → aG, mul_one → aP, zero_mul → aQ, zero_add → aR, reduceBEq → aY, reduceAdd → aZ, le_refl → bA
open List renaming length_cons → aB, length_append → aC, length_nil → aD, map_toArray → aH, map_cons → aJ, map_nil → aK, perm_iff_count → aM, count_append → aO, getElem?_eq_getElem → aS, count_cons → aT, count_nil → aV
open Go.Proofs.Tryz renaming prog → aE
open Int renaming toNat_natCast → aF, toNat_zero → aN, toNat_one → aX
open Bool renaming false_eq_true → aI, eq_iff_iff → aW
open And renaming intro → aL
open Go.IntWalk renaming i64_in → aU
namespace Go.Proofs.YtfmbepijhnaklaaGreatDoor
section
theorem pairs_get{l:List (List UInt8×List UInt8)}:∀{k:Nat} (hk:k<l.length),(l.flatMap fun r=>[Value.string ⟨r.1.toArray⟩,.string ⟨r.2.toArray⟩])[k*2]? =some (.string ⟨(l[k]'hk).1.toArray⟩)∧(l.flatMap fun r=>[Value.string ⟨r.1.toArray⟩,.string ⟨r.2.toArray⟩])[k*2+1]? =some (.string ⟨(l[k]'hk).2.toArray⟩):=by
 induction l with
 |nil=>intro k hk;cases hk
 |cons x l ih=>
  intro k hk
  cases k with
  |zero=>exact⟨rfl,rfl⟩
  |succ k=>
   have:=ih (k:=k) (by simpa using hk);rw[show(k+1)*2=k*2+2 by omega];exact this
theorem rule_at{vl:Value}{k:Nat}(hk:k≤56):(vl::ruleCells)[1+k*2]? =some (.string ⟨(eG k).toArray⟩)∧(vl::ruleCells)[1+k*2+1]? =some (.string ⟨(pB k).toArray⟩):=by
 have hl:ruleRows.length=57:=rfl;have h:=pairs_get (l:=ruleRows) (k:=k) (by omega);have e1:eG k=(ruleRows[k]'(by omega)).1:=by unfold eG;rw[List.getD_eq_getElem?_getD,aS (by omega)];rfl
 have e2:pB k=(ruleRows[k]'(by omega)).2:=by unfold pB;rw[List.getD_eq_getElem?_getD,aS (by omega)];rfl
 rw[e1,e2,Nat.add_comm 1 (k*2)];exact h
theorem tI(k:Nat):(iZ k).length≤1000000:=by
 unfold iZ;split;·decide
 split;·decide
 split;·decide
 split<;>decide
theorem yA:∀k,k<57→eG k=sOp→k=19∨k=20∨k=21∨k=22∨k=26:=by decide
theorem ord_ge{x:Nat}(hx:cC x):(FloatKind.f64.format.order x 0==some .gt||FloatKind.f64.format.order x 0==some .eq)=true:=by
 unfold cC at hx;have h0:Ieee.double.read 0=.number false 0 (-1074):=by decide
 have:Ieee.double.order x 0=some .gt∨Ieee.double.order x 0=some .eq:=by
  unfold Ieee.Format.order;rw[h0];rcases mJ hx with⟨m,e,hm,_⟩|hm
  ·rw[hm];simp only[Ieee.Datum.order,Ieee.signed];rw[Option.some_inj,Option.some_inj]
   have hc:∀a:Int,0≤a→compare a 0=.gt∨compare a 0=.eq:=fun a ha=>by
    show compareOfLessAndEq a 0=.gt∨compareOfLessAndEq a 0=.eq;unfold compareOfLessAndEq;rw[if_neg (by omega)];split
    ·exact .inr rfl
    ·exact .inl rfl
   have:=hc (((m<<<(e-min e (-1074)).toNat:Nat):Int)) (Int.natCast_nonneg _);simpa using this
  ·rw[hm];exact .inl rfl
 show(Ieee.double.order x 0==some .gt||Ieee.double.order x 0==some .eq)=true;rcases this with h|h<;>rw[h]<;>rfl
section
variable{h hI:Heap}{ck:Nat}{vl:Value}{ns:List Nd}
theorem mA{x:Nat}(hx:cC x):C aE 24 #[.float .f64 x] h (Ret (.bool false) h):=by
 unfold cC at hx;have w1:IntKind.i64.wrap (x:Int)=(x:Int):=by rw[aU _ (by omega)]
 have d1:decide ((x:Int)<0)=false:=bD (by omega);refine C_in Tryz.func24 rfl rfl (by kernel_rfl) (aG rfl) ?_;simp only[↓zp,zw,↓reduceIte,aA];refine zE ?_;simp only[↓zp,zw,↓reduceIte,aA,w1,d1];exact⟨rfl,rfl⟩
theorem text_k(hG:Gl hI)(hEI:Ext [] hI h)(H:CK h ck vl ns){x:Nd}{a:Option Addr}{n c:Nat}(hk:x.kind≤56)(ht:oL x.kind x.text=true)(hlen:x.text.length≤1000000):
 C aE 25 #[.pointer (some ⟨ck,0,none⟩),.agg (bM (x,.slice a n c)).toArray] h fun e h'=>e=.returned (.bool true)∧Ext [] h h':=by
 obtain⟨r1,r2⟩:=rule_at (vl:=vl) hk;have b1:(0:Int)≤(x.kind:Int)∧(x.kind:Int)<((57:Nat):Int):=by omega
 have hE1:Ext [] h (h.push (.cells (bM (x,.slice a n c)).toArray 35)):=Ext.push _ _ _;have hb1:Blk (h.push (.cells (bM (x,.slice a n c)).toArray 35)) h.size (bM (x,.slice a n c)) 35:=Blk.new;refine C_in Tryz.func25 rfl rfl (by kernel_rfl) (aG rfl) ?_;simp only[↓zp,zw,↓reduceIte,aA];generalize h.push (.cells (bM (x,.slice a n c)).toArray 35)=h1 at hE1 hb1⊢;have H1:=H.ext0 hE1;have c0:bG h1 h.size 0=some (.int .i64 (x.kind:Int)):=by rw[bE hb1];rfl
 have c1:bG h1 h.size 1=some (.string ⟨x.text.toArray⟩):=by rw[bE hb1];rfl
 have cr:bG h1 ck (1+x.kind*2)=some (.string ⟨(eG x.kind).toArray⟩):=by rw[bE H1.blk];exact r1
 refine bR 5 (by kernel_rfl) (by kernel_rfl) (by kernel_rfl) ?_;simp only[↓zp,zw,↓reduceIte,aA,c0,b1,aF,cr];unfold oL at ht;by_cases q1:eG x.kind=rA
 ·rw[if_pos q1]at ht;have e1:(eG x.kind==[110,97,109,101])=true:=by rw[q1];rfl
  simp only[↓zp,zw,↓reduceIte,aA,e1,c1];refine bK (vL (hG.max (hEI.trans hE1)) _ hlen) ?_;rw[ht];simp only[↓zp,zw,↓reduceIte,aA];exact⟨by trivial,hE1⟩
 rw[if_neg q1]at ht;have e1:(eG x.kind==[110,97,109,101])=false:=by simpa[rA]using q1
 by_cases q2:eG x.kind=nD
 ·rw[if_pos q2]at ht;have e2:(eG x.kind==[109,97,121,98,101])=true:=by rw[q2];rfl
  cases he:x.text==[]with
  |true=>
   simp only[↓zp,zw,↓reduceIte,aA,e1,e2,c1,he]
   exact⟨by trivial,hE1⟩
  |false=>
   have hn:fL x.text=true:=by
    rcases Bool.or_eq_true_iff.1 (show(x.text.isEmpty||fL x.text)=true from ht)with h|h
    ·rw[List.isEmpty_iff]at h;rw[h]at he;cases he
    ·exact h
   simp only[↓zp,zw,↓reduceIte,aA,e1,e2,c1,he];refine bK (vL (hG.max (hEI.trans hE1)) _ hlen) ?_;rw[hn];simp only[↓zp,zw,↓reduceIte,aA];exact⟨by trivial,hE1⟩
 rw[if_neg q2]at ht;have e2:(eG x.kind==[109,97,121,98,101])=false:=by simpa[nD]using q2
 by_cases q3:eG x.kind=qZ
 ·rw[if_pos q3]at ht;have e3:(eG x.kind==[119,111,114,100])=true:=by rw[q3];rfl
  simp only[↓zp,zw,↓reduceIte,aA,e1,e2,e3,c1];refine bK (vL (hG.max (hEI.trans hE1)) _ hlen) ?_
  cases hn:fL x.text with
  |true=>
   simp only[↓zp,zw,↓reduceIte,aA]
   exact⟨by trivial,hE1⟩
  |false=>
   rw[hn,Bool.false_or]at ht;simp only[↓zp,zw,↓reduceIte,aA,c1];refine bK (zK (hG.max (hEI.trans hE1)) _ hlen) ?_;rw[ht];simp only[↓zp,zw,↓reduceIte,aA];exact⟨by trivial,hE1⟩
 rw[if_neg q3]at ht;have e3:(eG x.kind==[119,111,114,100])=false:=by simpa[qZ]using q3
 by_cases q4:eG x.kind=sOp
 ·rw[if_pos q4]at ht;have e4:(eG x.kind==[111,112])=true:=by rw[q4];rfl
  simp only[↓zp,zw,↓reduceIte,aA,e1,e2,e3,e4];refine dL [(0,true),(1,true),(3,true),(4,true),(2,false),(5,false),(6,true)] (fun h'=>Blk h' h.size (bM (x,.slice a n c)) 35) (by kernel_rfl) (by kernel_rfl) (by kernel_rfl) rfl hb1 ?_
  iterate 4 refine Wo_t rfl rfl _ (.inl fun h' hS'=>by simp only[rdOp,↓zp,zw,↓reduceIte,aA,aH,aJ,aK,bE hS',bM];rfl) ?_
  refine Wo_f rfl rfl ?_;simp only[↓zp,zw,↓reduceIte,aA];refine bH (lJ hG (hEI.trans hE1) x.kind (yA _ (by omega) q4)) ?_;rintro _ h2 ⟨v,rfl,k1,k2,k3,k4⟩;simp only[↓zp,zw,↓reduceIte,aA];refine⟨hb1.ext k3 (by simp),?_⟩;refine Wo_f rfl rfl ?_;simp only[↓zp,zw,↓reduceIte,aA];refine bK (nG k1 (tI _) x.text) ?_;rw[ht];simp only[↓zp,zw,↓reduceIte,aA];refine⟨hb1.ext k3 (by simp),?_⟩;refine Wo_t rfl rfl _ (.inl fun h' hS'=>by simp only[rdOp,↓zp,zw,↓reduceIte,aA,aH,aJ,aK];rfl) ?_;refine kU ?_;simp only[↓zp,zw,↓reduceIte,aA];exact⟨by trivial,hE1.trans k3⟩
 rw[if_neg q4]at ht;have e4:(eG x.kind==[111,112])=false:=by simpa[sOp]using q4
 have he:(x.text==[])=true:=by rw[List.isEmpty_iff.1 ht];rfl
 simp only[↓zp,zw,↓reduceIte,aA,e1,e2,e3,e4,c1,he];exact⟨by trivial,hE1⟩
end
end
section
section
variable{k:Env→Heap→Prop}{ρ:Env}{h:Heap}{dst:Option Nat}{R:Ending→Heap→Prop}
theorem Wadd64{x y:Nat}{t:Tok R}(H:R (.returned (.tuple #[.int .u64 (((x+y)%18446744073709551616:Nat):Int),.int .u64 (((x+y)/18446744073709551616:Nat):Int)])) h):
 WfnT aE (.func (.func 188) #[] #[]) #[.int .u64 (x:Int),.int .u64 (y:Int),.int .u64 0] h R t:=
 qJ (args:=[.int .u64 (x:Int),.int .u64 (y:Int),.int .u64 0]) (by kernel_rfl) _ (fun w hw=>⟨w,by
  rw[run_callFunc_extern Tryz.func188 (by kernel_rfl) (by kernel_rfl) (by kernel_rfl) (e:=(Extern.MathBitsCarry.rows[0]).2) (by kernel_rfl)]
  rfl,Amb.refl w,hw⟩) H
theorem ord_lt{x:Nat}(hx:cC x):(FloatKind.f64.format.order x 0==some .lt)=false:=by
 have:=ord_ge hx
 cases h:FloatKind.f64.format.order x 0 with
 |none=>rfl
 |some o=>cases o<;>rw[h]at this<;>first|rfl|cases this
theorem abs_c{y:Nat}(hy:cC y):C aE 244 #[.float .f64 y] h fun en h'=>(∃r:Nat,en=.returned (.float .f64 r))∧h'=h:=by
 unfold cC at hy;obtain⟨r,hr,_⟩:=lU (a:=y) (b:=9223372036854775808) (by omega);have hr':binv .andNot (.int .u64 (y:Int)) (.int .u64 9223372036854775808)=some (.int .u64 (r:Int)):=hr;refine C_in Tryz.func244 rfl rfl (by kernel_rfl) (aG rfl) ?_;simp only[↓zp,zw,aA];refine zE ?_;simp only[↓zp,zw,aA,hr'];refine zC ?_;simp only[↓zp,zw,aA];exact⟨⟨r,(by first|exact rfl|exact trivial)⟩,(by first|exact rfl|exact trivial)⟩
theorem isInf_c{y:Nat}(hy:cC y):C aE 219 #[.float .f64 y,.int .i64 0] h fun en h'=>(∃b:Bool,en=.returned (.bool b))∧h'=h:=by
 have z:((0:Int)==0)=true:=by decide
 refine C_in Tryz.func219 rfl rfl (by kernel_rfl) (aG rfl) ?_;simp only[↓zp,zw,aA,z];refine bH (abs_c hy) ?_;rintro _ _ ⟨⟨r,rfl⟩,rfl⟩;obtain⟨q,hq⟩:=(gA (x:=r) (y:=9218868437227405311)).1;simp only[↓zp,zw,aA,hq];exact⟨⟨_,(by first|exact rfl|exact trivial)⟩,(by first|exact rfl|exact trivial)⟩
theorem isNaN_c(y:Nat):C aE 220 #[.float .f64 y] h fun en h'=>(∃b:Bool,en=.returned (.bool b))∧h'=h:=by
 obtain⟨q,hq⟩:=(gA (x:=y) (y:=y)).2.2.2;refine C_in Tryz.func220 rfl rfl (by kernel_rfl) (aG rfl) ?_;simp only[↓zp,zw,aA,hq];exact⟨⟨_,(by first|exact rfl|exact trivial)⟩,(by first|exact rfl|exact trivial)⟩
theorem normal_c{y:Nat}(hy:cC y):C aE 221 #[.float .f64 y] h fun en h'=>(∃(z:Nat) (e:Int),en=.returned (.tuple #[.float .f64 z,.int .i64 e])∧cC z∧(e=0∨e= -52))∧h'=h:=by
 obtain⟨z,hz,gz⟩:=lL hy (y:=4841369599423283200) (by omega) (by omega);refine C_in Tryz.func221 rfl rfl (by kernel_rfl) (aG rfl) ?_;simp only[↓zp,zw,aA];refine bH (abs_c hy) ?_;rintro _ _ ⟨⟨r,rfl⟩,rfl⟩;obtain⟨q,hq⟩:=(gA (x:=r) (y:=4503599627370496)).2.1
 cases q with
 |true=>
  simp only[↓zp,zw,aA,hq,hY hz]
  exact⟨⟨z,-52,(by first|exact rfl|exact trivial),gz,.inr rfl⟩,(by first|exact rfl|exact trivial)⟩
 |false=>
  simp only[↓zp,zw,aA,hq];exact⟨⟨y,0,(by first|exact rfl|exact trivial),hy,.inl rfl⟩,(by first|exact rfl|exact trivial)⟩
theorem sign0{y:Nat}(hy:cC y):y&&&9223372036854775808=0:=by
 unfold cC at hy;apply Nat.eq_of_testBit_eq;intro i;rw[Nat.testBit_and,show(9223372036854775808:Nat)=2^63 from rfl,Nat.testBit_two_pow];by_cases hi:63=i
 ·subst hi;rw[Nat.testBit_lt_two_pow (show y<2^63 by omega)];simp
 ·simp[hi]
theorem copysign_c{y:Nat}(hy:cC y):C aE 222 #[.float .f64 0,.float .f64 y] h (Ret (.float .f64 0) h):=by
 have hs:=sign0 hy;unfold cC at hy;have a1:binv .andNot (.int .u64 ((0:Nat):Int)) (.int .u64 9223372036854775808)=some (.int .u64 0):=by kernel_rfl
 have a2:band .u64 (y:Int) 9223372036854775808=((0:Nat):Int):=by
  rw[show(9223372036854775808:Int)=((9223372036854775808:Nat):Int)from rfl,jT (by omega) (by omega),hs]
 have a3:bor .u64 0 ((0:Nat):Int)=((0:Nat):Int):=by decide
 refine C_in Tryz.func222 rfl rfl (by kernel_rfl) (aG rfl) ?_;simp only[↓zp,zw,aA];refine zE ?_;simp only[↓zp,zw,aA,a1];refine zE ?_;simp only[↓zp,zw,aA,a2,a3];refine zC ?_;simp only[↓zp,zw,aA]
 first|trivial|exact⟨rfl,rfl⟩|exact⟨trivial,rfl⟩
theorem inf_c:C aE 173 #[.int .i64 1] h (Ret (.float .f64 9218868437227405312) h):=by
 have d1:decide ((1:Int)≥0)=true:=by decide
 refine C_in Tryz.func173 rfl rfl (by kernel_rfl) (aG rfl) ?_;simp only[↓zp,zw,aA,d1];refine zC (x:=9218868437227405312) ?_;simp only[↓zp,zw,aA]
 first|trivial|exact⟨rfl,rfl⟩|exact⟨trivial,rfl⟩
theorem frac_and{z:Nat}(hz:z<9223372036854775808):z&&&9227875636482146303=z%2^52:=by
 rw[show(9227875636482146303:Nat)=9223372036854775808|||(2^52-1) by decide,Nat.and_or_distrib_left,lW]
 have:z&&&9223372036854775808=0:=by
  apply Nat.eq_of_testBit_eq;intro i;rw[Nat.testBit_and,show(9223372036854775808:Nat)=2^63 from rfl,Nat.testBit_two_pow];by_cases hi:63=i
  ·subst hi;rw[Nat.testBit_lt_two_pow hz];simp
  ·simp[hi]
 rw[this,Nat.zero_or]
def NumOut(h:Heap)(en:Ending)(h':Heap):Prop:=(∃z:Nat,en=.returned (.float .f64 z)∧cC z)∧h'=h
theorem vQ{y:Nat}(hy:cC y)(e:Int)(he: -100000000≤e∧e≤100000000):C aE 190 #[.float .f64 y,.int .i64 e] h (NumOut h):=by
 have body:C aE 208 #[.float .f64 y,.int .i64 e] h (NumOut h):=by
  obtain⟨q0,hq0⟩:=(gA (x:=y) (y:=0)).2.2.1;refine C_in Tryz.func208 rfl rfl (by kernel_rfl) (aG rfl) ?_;refine fD 2 (fun ρ h'=>ρ 0=.float .f64 y∧ρ 1=.int .i64 e∧h'=h) (fun N hN=> ?_) ?_
  ·cases q0 with
   |true=>simp only[↓zp,zw,aA,cS,cT,hq0];exact⟨⟨y,(by first|exact rfl|exact trivial),hy⟩,(by first|exact rfl|exact trivial)⟩
   |false=>
   simp only[↓zp,zw,aA,cS,cT,hq0];refine bH (isInf_c hy) ?_;rintro _ h1 ⟨⟨b,rfl⟩,hh⟩;rw[hh]
   cases b with
   |true=>simp only[↓zp,zw,aA];exact⟨⟨y,(by first|exact rfl|exact trivial),hy⟩,(by first|exact rfl|exact trivial)⟩
   |false=>
   simp only[↓zp,zw,aA];refine bH (isNaN_c y) ?_;rintro _ h1 ⟨⟨b,rfl⟩,hh⟩;rw[hh]
   cases b with
   |true=>simp only[↓zp,zw,aA];exact⟨⟨y,(by first|exact rfl|exact trivial),hy⟩,(by first|exact rfl|exact trivial)⟩
   |false=>simp only[↓zp,zw,aA];exact hN _ _ ⟨by simp only[↓zp,zw,aA],by simp only[↓zp,zw,aA],rfl⟩
  rintro ρ _ ⟨g0,g1,hh⟩;rw[hh]
  (repeat rw[dC]);rw[dE]
  simp only[↓zp,zw,aA,g0,g1];refine bH (normal_c hy) ?_;rintro _ h1 ⟨⟨z,e2,rfl,gz,he2⟩,hh⟩;rw[hh];have gz':=gz;unfold cC at gz;have w1:IntKind.i64.wrap (e+e2)=e+e2:=aU _ (by rcases he2 with rfl|rfl<;>omega);have hq:z/2^52<2048:=by omega
  have sh:=kX (a:=z) (n:=52) (by omega);generalize hqe:z/2^52=q at hq sh;have w2:IntKind.i64.wrap (q:Int)=(q:Int):=aU _ (by omega)
  have a1:band .i64 (q:Int) 2047=(q:Int):=by
   rw[show(2047:Int)=((2047:Nat):Int)from rfl,band63 (by omega) (by omega),show(2047:Nat)=2^11-1 from rfl,lW,Nat.mod_eq_of_lt (by omega)]
  have w3:IntKind.i64.wrap ((q:Int)-1023)=(q:Int)-1023:=aU _ (by omega);obtain⟨E,hE⟩:∃E,e+e2+((q:Int)-1023)=E:=⟨_,rfl⟩;have w4:IntKind.i64.wrap (e+e2+((q:Int)-1023))=E:=by rw[aU _ (by rcases he2 with rfl|rfl<;>omega),hE]
  simp only[↓zp,zw,aA,g0,g1,w1];refine zE ?_
  have hl:binv .lss (.float .f64 z) (.float .f64 0)=some (.bool false):=by
   show(if FloatKind.f64=FloatKind.f64 then some (Value.bool (FloatKind.f64.format.order z 0==some .lt))else none)=_;rw[if_pos rfl,ord_lt gz']
  by_cases hlo:E< -1075
  ·have d1:decide (E< -1075)=true:=bC hlo;simp only[↓zp,zw,aA,g0,g1,dB (b:=52) 52 rfl,sh,w2,a1,w3,w4,d1];refine bK (copysign_c gz') ?_;simp only[↓zp,zw,aA];exact⟨⟨0,(by first|exact rfl|exact trivial),lM⟩,(by first|exact rfl|exact trivial)⟩
  have d1:decide (E< -1075)=false:=bD hlo;by_cases hhi:E>1023
  ·have d2:decide (E>1023)=true:=bC hhi;simp only[↓zp,zw,aA,g0,g1,dB (b:=52) 52 rfl,sh,w2,a1,w3,w4,d1,d2,hl];refine bK inf_c ?_;simp only[↓zp,zw,aA];exact⟨⟨_,(by first|exact rfl|exact trivial),by unfold cC;omega⟩,(by first|exact rfl|exact trivial)⟩
  have d2:decide (E>1023)=false:=bD hhi;obtain⟨r,hr,hr2⟩:=lU (a:=z) (b:=9218868437227405312) (by omega);rw[show(BitVec.not (BitVec.ofInt 64 ((9218868437227405312:Nat):Int))).toNat=9227875636482146303 by decide,frac_and (by omega)]at hr2;have hr':binv .andNot (.int .u64 (z:Int)) (.int .u64 9218868437227405312)=some (.int .u64 (r:Int)):=hr;have hrlt:r<2^52:=by rw[hr2];exact Nat.mod_lt _ (by decide)
  have last:∀(E':Int) (m0:Nat),-1022≤E'→E'≤1023→cC m0→∃(k w:Nat),IntKind.i64.wrap (E'+1023)=(k:Int)∧IntKind.u64.wrap (k:Int)=(k:Int)∧IntKind.u64.wrap ((k:Int)*2^min 52 IntKind.u64.bits)=((k*2^52:Nat):Int)∧bor .u64 (r:Int) ((k*2^52:Nat):Int)=(w:Int)∧∃v,binv .mul (.float .f64 m0) (.float .f64 w)=some (.float .f64 v)∧cC v:=fun E' m0 h1 h2 gm=>by
   obtain⟨k,hk⟩:=Int.eq_ofNat_of_zero_le (show 0≤E'+1023 by omega);obtain⟨v,hv,gv⟩:=lL (x:=m0) (y:=r+k*2^52) gm (by omega) (by omega);refine⟨k,r+k*2^52,by rw[aU _ (by omega),hk],fG (by omega),?_,?_,v,hY hv,gv⟩
   ·rw[show((2:Int)^min 52 IntKind.u64.bits)=((2^52:Nat):Int)from rfl,←Int.natCast_mul,fG (by omega)]
   ·rw[kZ (by omega) (by omega),vI hrlt]
  by_cases hsub:E< -1022
  ·have d3:decide (E< -1022)=true:=bC hsub;have w5:IntKind.i64.wrap (E+53)=E+53:=aU _ (by omega);obtain⟨k,w,f1,f2,f3,f4,v,f5,gv⟩:=last (E+53) 4368491638549381120 (by omega) (by omega) (by unfold cC;omega);simp only[↓zp,zw,aA,g0,g1,dB (b:=52) 52 rfl,sh,w2,a1,w3,w4,d1,d2,d3,w5,hr',f1,f2,dG (b:=52) 52 rfl,f3,f4];refine zC ?_;simp only[↓zp,zw,aA,f5];exact⟨⟨v,(by first|exact rfl|exact trivial),gv⟩,(by first|exact rfl|exact trivial)⟩
  ·have d3:decide (E< -1022)=false:=bD hsub;obtain⟨k,w,f1,f2,f3,f4,v,f5,gv⟩:=last E 4607182418800017408 (by omega) (by omega) (by unfold cC;omega);simp only[↓zp,zw,aA,g0,g1,dB (b:=52) 52 rfl,sh,w2,a1,w3,w4,d1,d2,d3,hr',f1,f2,dG (b:=52) 52 rfl,f3,f4];refine zC ?_;simp only[↓zp,zw,aA,f5];exact⟨⟨v,(by first|exact rfl|exact trivial),gv⟩,(by first|exact rfl|exact trivial)⟩
 refine C_in Tryz.func190 rfl rfl (by kernel_rfl) (aG rfl) ?_;simp only[↓zp,zw,aA];refine bH body ?_;rintro _ h1 ⟨⟨z,rfl,gz⟩,hh⟩;simp only[↓zp,zw,aA];exact⟨⟨z,(by first|exact rfl|exact trivial),gz⟩,hh⟩
theorem tE(m:Nat)(hm:m<18446744073709551616):C aE 191 #[.int .u64 (m:Int)] h (NumOut h):=by
 have a1:band .u64 (m:Int) 2047=((m&&&2047:Nat):Int):=jT (b:=2047) hm (by omega);have sh:=kX (a:=m) (n:=11) (by omega);have a2:band .u64 ((m/2^11:Nat):Int) 1=((m/2^11&&&1:Nat):Int):=jT (b:=1) (by omega) (by omega);have w1:IntKind.u64.wrap (((m/2^11:Nat):Int)+1)=((m/2^11+1:Nat):Int):=by rw[IntWalk.u64_in _ (by omega)];omega
 generalize m&&&2047=low at a1;generalize m/2^11=q at sh a2 w1;have fin:∀n:Nat,∃f,FloatKind.f64.nearest (n:Int)=f∧cC f:=tL;refine C_in Tryz.func191 rfl rfl (by kernel_rfl) (aG rfl) ?_;refine fD 4 (fun ρ h'=>(∃n:Nat,ρ 4=.int .u64 (n:Int))∧h'=h) (fun N hN=> ?_) ?_
 ·cases b1:decide ((low:Int)>1024)with
  |true=>
   simp only[↓zp,zw,aA,cS,cT,a1,dB (b:=11) 11 rfl,sh,b1,w1]
   exact hN _ _ ⟨⟨_,by simp only[↓zp,zw,aA];rfl⟩,rfl⟩
  |false=>
   cases b2:((low:Int)==1024)with
   |false=>
    simp only[↓zp,zw,aA,cS,cT,a1,dB (b:=11) 11 rfl,sh,b1,b2]
    exact hN _ _ ⟨⟨_,by simp only[↓zp,zw,aA];rfl⟩,rfl⟩
   |true=>
    cases b3:(((q&&&1:Nat):Int)==1)with
    |true=>
     simp only[↓zp,zw,aA,cS,cT,a1,dB (b:=11) 11 rfl,sh,b1,b2,a2,b3,w1]
     exact hN _ _ ⟨⟨_,by simp only[↓zp,zw,aA];rfl⟩,rfl⟩
    |false=>
     simp only[↓zp,zw,aA,cS,cT,a1,dB (b:=11) 11 rfl,sh,b1,b2,a2,b3];exact hN _ _ ⟨⟨_,by simp only[↓zp,zw,aA];rfl⟩,rfl⟩
 rintro ρ _ ⟨⟨n,g4⟩,hh⟩;rw[hh]
 (repeat rw[dC]);rw[dE]
 obtain⟨f,hf,gf⟩:=fin n;simp only[↓zp,zw,aA,g4,hf];refine bH (vQ gf 11 (by omega)) ?_;rintro _ h1 ⟨⟨z,rfl,gz⟩,hh⟩;simp only[↓zp,zw,aA];exact⟨⟨z,(by first|exact rfl|exact trivial),gz⟩,hh⟩
end
end
section
def uV(ws:List Nat):List Value:=ws.map fun(w:Nat)=>Value.int .u64 (w:Int)
theorem jP(ws:List Nat):(uV ws).length=ws.length:=by simp[uV]
def WS(h0 h:Heap)(v:Value)(ws:List Nat):Prop:=Row h v 85 1 (uV ws)∧(∀b,b∈blks v→h0.size≤b)∧(∀w,w∈ws→w<18446744073709551616)∧Ext [] h0 h
theorem WS.shape{h0 h:Heap}{v:Value}{ws:List Nat}(H:WS h0 h v ws):∃a c,v=.slice a ws.length c:=by
 obtain⟨a,n,c,e,hn⟩:=H.1.shape;rw[jP,aP]at hn;exact⟨a,c,by rw[e,hn]⟩
theorem WS.at{h0 h:Heap}{v:Value}{ws:List Nat}(H:WS h0 h v ws)(hpos:0<ws.length):
 ∃b c,v=.slice (some ⟨b,0,none⟩) ws.length c∧∀i (hi:i<ws.length),bG h b i=some (.int .u64 ((ws[i]'hi:Nat):Int))∧(ws[i]'hi)<18446744073709551616∧
  ∀(w:Nat) {dst:Option Nat} {ρ:Env} {k:Env→Heap→Prop} {tk:Tok (dst,ρ,k)},w<18446744073709551616→(∀h',WS h0 h' v (ws.set i w)→k (ρ.put dst undef) h')→WstT aE 85 (.pointer (some ⟨b,i,none⟩)) (.int .u64 (w:Int)) dst ρ h k tk:=by
 obtain⟨hr,hn,hw,hE⟩:=H;rcases hr with⟨rfl,e⟩|⟨b,n,cap,cs,rfl,hb,h1,h2,h3,h4⟩
 ·have:=congrArg List.length e;rw[jP,aD]at this;omega
 rw[jP,aP]at h2;subst h2;rw[jP]at h4;rw[aP]at h3;refine⟨b,cap,rfl,fun i hi=>⟨?_,hw _ (List.getElem_mem hi),fun w {dst ρ k tk} hlt K=> ?_⟩⟩
 ·rw[Row.cell (n:=ws.length) (cap:=cap) hb (by rw[jP];exact h4) (by rw[jP];exact hi)];simp[uV,hi]
 ·refine bS hb (by kernel_rfl) (by omega) rfl fun h' hb' hE' hs'=>K h' ⟨.inr ⟨b,ws.length,cap,_,rfl,hb',h1,by simp[jP],by simp;omega,?_⟩,hn,fun x hx=> ?_,hE.trans_new hE' fun y hy=> .inl (by simp at hy;rw[hy];exact hn b (by simp[blks]))⟩
  ·rw[jP,List.length_set,List.take_set,h4];simp[uV,List.map_set]
  ·rcases List.mem_or_eq_of_mem_set hx with h|h
   ·exact hw _ h
   ·rw[h];exact hlt
section
variable{h:Heap}
theorem sticky_c(x:List UInt8)(hx:x.length≤1000000)(base:Nat)(hbase:base≤100):C aE 169 #[.string ⟨x.toArray⟩,.int .i64 (base:Int)] h fun e h'=>(∃z:Nat,e=.returned (.float .f64 z)∧cC z)∧Ext [] h h':=by
 have wb:IntKind.u64.wrap (base:Int)=(base:Int):=fG (by omega);refine C_in Tryz.func169 rfl rfl (by kernel_rfl) (aG rfl) ?_;refine fD 3 (fun ρ h'=> ∃v ws,ρ 5=v∧WS h h' v ws∧ws.length≤x.length) (fun N hN=> ?_) ?_
 ·simp only[↓zp,zw,aA,cS,cT];refine⟨fun m ρ h'=> ∃(i:Nat) (v:Value) (ws:List Nat),ρ 0=.string ⟨x.toArray⟩∧ρ 1=.int .i64 (base:Int)∧ρ 5=v∧ρ 18=.int .i64 ((x.length:Nat):Int)∧ρ 19=.int .i64 (i:Int)∧WS h h' v ws∧ws.length≤i∧i≤x.length∧m=x.length-i,x.length,⟨0,.slice none 0 0,[],by simp only[↓zp,zw,aA],by simp only[↓zp,zw,aA],by simp only[↓zp,zw,aA],by simp only[↓zp,zw,aA],by simp only[↓zp,zw,aA];rfl,⟨.nil,by simp[blks],by simp,Ext.refl _ _⟩,by simp,by omega,rfl⟩,?_⟩;rintro m ρ h1 ⟨i,v,ws,g0,g1,g5,g18,g19,HW,hwi,hi,hm⟩;by_cases hlt:i<x.length
  ·have d1:decide ((i:Int)<((x.length:Nat):Int))=true:=bC (by omega);have z0:(0:Int)≤(i:Int):=by omega
   have w1:=bI (a:=i) (by omega);obtain⟨c,hc⟩:∃c,x[i]'hlt=c:=⟨_,rfl⟩;obtain⟨a,cp,rfl⟩:=HW.shape;simp only[↓zp,zw,aA,g0,g1,g18,g5,g19,d1,z0,hlt,hc,aF];refine bK (pP c) ?_;have wc:IntKind.u64.wrap (fF c:Int)=(fF c:Int):=fG (by have:=wX c;omega);obtain⟨n,hn⟩:∃n,ws.length=n:=⟨_,rfl⟩;rw[hn]at g5 HW;simp only[↓zp,zw,aA,g0,g1,g18,g5,g19,wc];refine⟨fun m' ρ h'=> ∃(k cy:Nat) (ws:List Nat),ρ 0=.string ⟨x.toArray⟩∧ρ 1=.int .i64 (base:Int)∧ρ 5=.slice a n cp∧ρ 7=.int .u64 (cy:Int)∧ρ 18=.int .i64 ((x.length:Nat):Int)∧ρ 19=.int .i64 (i:Int)∧ρ 28=.int .i64 (n:Int)∧ρ 29=.int .i64 (k:Int)∧WS h h' (.slice a n cp) ws∧ws.length=n∧cy<18446744073709551616∧k≤n∧m'=n-k,n,⟨0,fF c,ws,by simp only[↓zp,zw,aA,g0],by simp only[↓zp,zw,aA,g1],by simp only[↓zp,zw,aA,g5],by simp only[↓zp,zw,aA],by simp only[↓zp,zw,aA,g18],by simp only[↓zp,zw,aA,g19],by simp only[↓zp,zw,aA],by simp only[↓zp,zw,aA];rfl,HW,hn,by have:=wX c;omega,by omega,rfl⟩,?_⟩;clear g0 g1 g5 g18 g19 HW;rintro m' ρ h2 ⟨k,cy,ws',g0,g1,g5,g7,g18,g19,g28,g29,HW,hn',hcy,hk,hm'⟩;by_cases hkn:k<n
   ·have d2:decide ((k:Int)<(n:Int))=true:=bC (by omega);have b1:(0:Int)≤(k:Int)∧(k:Int)<(n:Int):=by omega
    have w2:=bI (a:=k) (by omega);obtain⟨b,c',e1,hat⟩:=HW.at (by omega);simp only[Value.slice.injEq]at e1;obtain⟨rfl,_,rfl⟩:=e1;obtain⟨c1,lw,hst⟩:=hat k (by omega);generalize ws'[k]'(by omega)=u at c1 lw;simp only[↓zp,zw,aA,g0,g1,g18,g5,g7,g19,g28,g29,d2,b1,aR,aP,aF,c1,wb];refine bK (vM u base lw (by omega)) ?_;obtain⟨lo,hlo⟩:∃q,u*base%18446744073709551616=q:=⟨_,rfl⟩;obtain⟨hi',hhi⟩:∃q,u*base/18446744073709551616=q:=⟨_,rfl⟩;rw[hlo,hhi];simp only[↓zp,zw,aA,g0,g1,g18,g5,g7,g19,g28,g29];refine Wadd64 ?_;obtain⟨s,hs⟩:∃q,(lo+cy)%18446744073709551616=q:=⟨_,rfl⟩;have hsl:s<18446744073709551616:=by rw[←hs];exact Nat.mod_lt _ (by decide)
    generalize(lo+cy)/18446744073709551616=cc;rw[hs];obtain⟨n7,e7,l7⟩:=fE ((hi':Int)+(cc:Int));simp only[↓zp,zw,aA,g0,g1,g18,g5,g7,g19,g28,g29,b1,aR,aP,aF,e7];refine hst s hsl fun h3 HW3=> ?_;simp only[↓zp,zw,aA,g0,g1,g18,g5,g7,g19,g28,g29,w2];exact⟨n-(k+1),by omega,k+1,n7,_,(by first|exact rfl|exact trivial),(by first|exact rfl|exact trivial),(by first|exact rfl|exact trivial),(by first|exact rfl|exact trivial),(by first|exact rfl|exact trivial),(by first|exact rfl|exact trivial),(by first|exact rfl|exact trivial),(by first|exact rfl|exact trivial),HW3,by simp[hn'],l7,by omega,(by first|exact rfl|exact trivial)⟩
   ·have d2:decide ((k:Int)<(n:Int))=false:=bD (by omega);by_cases hcz:0<cy
    ·have d3:decide ((cy:Int)>0)=true:=bC (by omega);simp only[↓zp,zw,aA,g0,g1,g18,g5,g7,g19,g28,g29,d2,d3];refine dQ (vals:=uV [cy]) (e:=85) Tryz.underlying195 (by kernel_rfl) rfl rfl rfl (by omega) (by omega) fun v6 h6 hr6 hb6 hE6 hs6=> ?_;simp only[↓zp,zw,aA,g0,g1,g18,g5,g7,g19,g28,g29];obtain⟨hr,hnew,hw,hE⟩:=HW
     refine fX (n:=1) (tx:=195) (e:=85) (sz:=1) (news:=uV [cy]) (hr.ext hE6 (by simp)) Tryz.underlying195 (by kernel_rfl) (fun u hu=>by
      obtain⟨n,hn,hs⟩:=hr6.src (P:=aE) (tx:=195) (e':=85) Tryz.underlying195 rfl u hu;have:n=1:=by simpa[uV]using hn
      subst this;exact hs) (by rw[jP,jP];simp;omega) fun v7 h7 hr7 hc7=> ?_
     have et:uV ws'++uV [cy]=uV (ws'++[cy]):=by simp[uV]
     rw[et]at hr7
     have hE7:Ext [] h h7:=by
      rcases hc7 with⟨_,e,_⟩|⟨_,e,_⟩
      ·exact(hE.trans hE6).trans_new e fun y hy=> .inl (hnew y hy)
      ·exact(hE.trans hE6).trans e
     simp only[↓zp,zw,aA,g0,g1,g18,g5,g7,g19,g28,g29,w1];refine⟨x.length-(i+1),by omega,i+1,v7,ws'++[cy],(by first|exact rfl|exact trivial),(by first|exact rfl|exact trivial),(by first|exact rfl|exact trivial),(by first|exact rfl|exact trivial),(by first|exact rfl|exact trivial),⟨hr7,?_,fun w hw'=> ?_,hE7⟩,by simp;omega,by omega,(by first|exact rfl|exact trivial)⟩
     ·rcases hc7 with⟨e,_,_⟩|⟨e,_,_⟩
      ·rw[e];exact hnew
      ·rw[e];intro b hb;simp at hb;have:=(hE.trans hE6).1;omega
     ·rcases List.mem_append.1 hw' with h|h
      ·exact hw _ h
      ·simp at h;omega
    ·have d3:decide ((cy:Int)>0)=false:=bD (by omega);simp only[↓zp,zw,aA,g0,g1,g18,g5,g7,g19,g28,g29,d2,d3,w1];exact⟨x.length-(i+1),by omega,i+1,_,ws',(by first|exact rfl|exact trivial),(by first|exact rfl|exact trivial),(by first|exact rfl|exact trivial),(by first|exact rfl|exact trivial),(by first|exact rfl|exact trivial),HW,by omega,by omega,(by first|exact rfl|exact trivial)⟩
  ·have d1:decide ((i:Int)<((x.length:Nat):Int))=false:=bD (by omega);simp only[↓zp,zw,aA,g0,g1,g18,g5,g19,d1];exact hN _ _ ⟨v,ws,by simp only[↓zp,zw,aA,g5],HW,by omega⟩
 rintro ρ h1 ⟨v,ws,g5,HW,hws⟩
 (repeat rw[dC]);rw[dE]
 obtain⟨a,cp,rfl⟩:=HW.shape;have hE:=HW.2.2.2;rcases Nat.eq_zero_or_pos ws.length with n0|n0
 ·have d0:(((ws.length:Nat):Int)==0)=true:=by simp;exact List.length_eq_zero_iff.1 n0
  simp only[↓zp,zw,aA,g5,d0];exact⟨⟨0,(by first|exact rfl|exact trivial),lM⟩,hE⟩
 have d0:(((ws.length:Nat):Int)==0)=false:=by simp;intro e;rw[e]at n0;simp at n0
 obtain⟨b,c',e1,hat⟩:=HW.at n0;simp only[Value.slice.injEq]at e1;obtain⟨rfl,_,rfl⟩:=e1;obtain⟨n,hn⟩:∃n,ws.length=n:=⟨_,rfl⟩
 have cell:∀i,i<n→∃u:Nat,bG h1 b i=some (.int .u64 (u:Int))∧u<18446744073709551616:=fun i hi=>by
  obtain⟨k1,k2,_⟩:=hat i (by omega);exact⟨_,k1,k2⟩
 rw[hn]at g5 d0 n0 hws;clear hat HW;obtain⟨tp,htp⟩:∃tp,n=tp+1:=⟨n-1,by omega⟩;have w1:IntKind.i64.wrap ((n:Int)-1)=(tp:Int):=by rw[aU _ (by omega)];omega
 have w2:IntKind.i64.wrap ((tp:Int)-1)=(tp:Int)-1:=aU _ (by omega);obtain⟨u,cu,lu⟩:=cell tp (by omega);have b1:(0:Int)≤(tp:Int)∧(tp:Int)<(n:Int):=by omega
 have hbl:=Lib.bitLen_le u 64 (by omega) (by omega);refine fD 6 (fun ρ h'=> ∃(m r sf:Nat),ρ 5=.slice (some ⟨b,0,none⟩) n cp∧ρ 12=.int .i64 (tp:Int)∧ρ 13=.int .i64 (sf:Int)∧ρ 14=.int .u64 (m:Int)∧ρ 15=.int .u64 (r:Int)∧m<18446744073709551616∧r<18446744073709551616∧sf≤64∧h'=h1) (fun N hN=> ?_) ?_
 ·simp only[↓zp,zw,aA,cS,cT,g5,d0,w1,b1,aR,aP,aF,cu];refine bK (leading_c (u:Int) (by omega) (by omega)) ?_;rw[aF];obtain⟨sf,hsf⟩:=Int.eq_ofNat_of_zero_le (show 0≤64-((Lib.bitLen u:Nat):Int) by omega);rw[hsf];obtain⟨m0,em,lm⟩:=fE ((u:Int)*2^min sf IntKind.u64.bits);have w3:IntKind.i64.wrap (64-(sf:Int))=((64-sf:Nat):Int):=by rw[aU _ (by omega)];omega
  by_cases htz:0<tp
  ·have d1:decide ((tp:Int)>0)=true:=bC (by omega);have w4:IntKind.i64.wrap ((tp:Int)-1)=((tp-1:Nat):Int):=by rw[w2];omega
   have b2:(0:Int)≤((tp-1:Nat):Int)∧((tp-1:Nat):Int)<(n:Int):=by omega
   obtain⟨u2,cu2,lu2⟩:=cell (tp-1) (by omega);by_cases hsz:0<sf
   ·have d2:decide ((sf:Int)>0)=true:=bC (by omega);have sh:=kX (a:=u2) (n:=64-sf) (by omega);have hq:u2/2^(64-sf)<18446744073709551616:=Nat.lt_of_le_of_lt (Nat.div_le_self _ _) lu2;have o1:=kZ lm hq;have ho:m0|||u2/2^(64-sf)<18446744073709551616:=Nat.or_lt_two_pow (n:=64) lm hq;obtain⟨r0,er,lr⟩:=fE ((u2:Int)*2^min sf IntKind.u64.bits);simp only[↓zp,zw,aA,g5,b1,aR,aP,aF,cu,dG (b:=(sf:Int)) sf rfl,em,d1,d2,w4,b2,cu2,w3,dB (b:=((64-sf:Nat):Int)) (64-sf) rfl,sh,o1,er];exact hN _ _ ⟨_,r0,sf,by simp only[↓zp,zw,aA,g5],by simp only[↓zp,zw,aA],by simp only[↓zp,zw,aA],by simp only[↓zp,zw,aA],by simp only[↓zp,zw,aA],ho,lr,by omega,rfl⟩
   ·have d2:decide ((sf:Int)>0)=false:=bD (by omega);simp only[↓zp,zw,aA,g5,b1,aR,aP,aF,cu,dG (b:=(sf:Int)) sf rfl,em,d1,d2,w4,b2,cu2];exact hN _ _ ⟨m0,u2,sf,by simp only[↓zp,zw,aA,g5],by simp only[↓zp,zw,aA],by simp only[↓zp,zw,aA],by simp only[↓zp,zw,aA],by simp only[↓zp,zw,aA],lm,lu2,by omega,rfl⟩
  ·have d1:decide ((tp:Int)>0)=false:=bD (by omega);simp only[↓zp,zw,aA,g5,b1,aR,aP,aF,cu,dG (b:=(sf:Int)) sf rfl,em,d1];exact hN _ _ ⟨m0,0,sf,by simp only[↓zp,zw,aA,g5],by simp only[↓zp,zw,aA],by simp only[↓zp,zw,aA],by simp only[↓zp,zw,aA],by simp only[↓zp,zw,aA];rfl,lm,by omega,by omega,rfl⟩
 clear g5 d0;rintro ρ _ ⟨m,r,sf,g5,g12,g13,g14,g15,lm,lr,hsf,hh⟩;rw[hh]
 (repeat rw[dC]);rw[dE]
 simp only[↓zp,zw,aA,g5,g12,g13,g14,g15];refine⟨fun M ρ h'=> ∃(k r:Nat),ρ 5=.slice (some ⟨b,0,none⟩) n cp∧ρ 12=.int .i64 (tp:Int)∧ρ 13=.int .i64 (sf:Int)∧ρ 14=.int .u64 (m:Int)∧ρ 15=.int .u64 (r:Int)∧ρ 16=.int .i64 (k:Int)∧r<18446744073709551616∧k≤tp∧h'=h1∧M=tp-k,tp,⟨0,r,by simp only[↓zp,zw,aA,g5],by simp only[↓zp,zw,aA,g12],by simp only[↓zp,zw,aA,g13],by simp only[↓zp,zw,aA,g14],by simp only[↓zp,zw,aA,g15],by simp only[↓zp,zw,aA];rfl,lr,by omega,rfl,rfl⟩,?_⟩;clear g5 g12 g13 g14 g15 lr;rintro M ρ h2 ⟨k,r,g5,g12,g13,g14,g15,g16,lr,hk,hh,hM⟩;rw[hh];by_cases hlt:(k:Int)<(tp:Int)-1
 ·have d1:decide ((k:Int)<(tp:Int)-1)=true:=bC hlt;have b2:(0:Int)≤(k:Int)∧(k:Int)<(n:Int):=by omega
  have w3:=bI (a:=k) (by omega);obtain⟨u2,cu2,lu2⟩:=cell k (by omega);have o1:=kZ lr lu2;simp only[↓zp,zw,aA,g5,g12,g13,g14,g15,g16,w2,d1,b2,aR,aP,aF,cu2,o1,w3];exact⟨tp-(k+1),by omega,k+1,_,(by first|exact rfl|exact trivial),(by first|exact rfl|exact trivial),(by first|exact rfl|exact trivial),(by first|exact rfl|exact trivial),(by first|exact rfl|exact trivial),(by first|exact rfl|exact trivial),Nat.or_lt_two_pow (n:=64) lr lu2,by omega,(by first|exact rfl|exact trivial),(by first|exact rfl|exact trivial)⟩
 ·have d1:decide ((k:Int)<(tp:Int)-1)=false:=bD hlt;have w3:IntKind.i64.wrap (64*(tp:Int))=64*(tp:Int):=aU _ (by omega);have w4:IntKind.i64.wrap (64*(tp:Int)-(sf:Int))=64*(tp:Int)-(sf:Int):=aU _ (by omega)
  cases hr:((r:Int) !=0)with
  |true=>
   have o1:bor .u64 (m:Int) 1=((m|||1:Nat):Int):=kZ (b:=1) lm (by omega);simp only[↓zp,zw,aA,g5,g12,g13,g14,g15,g16,w2,d1,hr,o1];refine bH (tE (m|||1) (Nat.or_lt_two_pow (n:=64) lm (by decide))) ?_;rintro _ h3 ⟨⟨z,rfl,gz⟩,hh3⟩;rw[hh3];simp only[↓zp,zw,aA,g12,g13,w3,w4];refine bH (vQ gz _ (by omega)) ?_;rintro _ h4 ⟨⟨z2,rfl,gz2⟩,hh4⟩;rw[hh4];simp only[↓zp,zw,aA]
   exact⟨⟨z2,(by first|exact rfl|exact trivial),gz2⟩,hE⟩
  |false=>
   simp only[↓zp,zw,aA,g5,g12,g13,g14,g15,g16,w2,d1,hr];refine bH (tE m lm) ?_;rintro _ h3 ⟨⟨z,rfl,gz⟩,hh3⟩;rw[hh3];simp only[↓zp,zw,aA,g12,g13,w3,w4];refine bH (vQ gz _ (by omega)) ?_;rintro _ h4 ⟨⟨z2,rfl,gz2⟩,hh4⟩;rw[hh4];simp only[↓zp,zw,aA];exact⟨⟨z2,(by first|exact rfl|exact trivial),gz2⟩,hE⟩
end
end
section
def OkL(l:List UInt8):Prop:=∀c,c∈l→okB c
theorem OkL.append{a b:List UInt8}(ha:OkL a)(hb:OkL b):OkL (a++b):=fun c hc=>by
 rcases List.mem_append.1 hc with h|h
 ·exact ha c h
 ·exact hb c h
theorem OkL.take{a:List UInt8}(h:OkL a)(n:Nat):OkL (a.take n):=fun c hc=>h c (List.mem_of_mem_take hc)
theorem OkL.drop{a:List UInt8}(h:OkL a)(n:Nat):OkL (a.drop n):=fun c hc=>h c (List.mem_of_mem_drop hc)
theorem pH(cs:List UInt8):∀l:List UInt8,Lib.indexAny l cs<(l.length:Int)
 |[]=>by simp[Lib.indexAny]
 |b::l=>by
  have ih:=pH cs l;have hl:((b::l).length:Int)=(l.length:Int)+1:=by simp
  rw[hl];unfold Lib.indexAny;split
  ·omega
  ·split<;>omega
theorem cut_ok{m s:List UInt8}(h:OkL m):OkL (Lib.cut m s).1∧OkL (Lib.cut m s).2.1∧(Lib.cut m s).1.length+(Lib.cut m s).2.1.length≤m.length:=by
 unfold Lib.cut;split
 ·refine⟨h.take _,h.drop _,?_⟩;simp;omega
 ·exact⟨h,fun c hc=>by simp at hc,by simp⟩
theorem trim_ok{l:List UInt8}(h:OkL l)(c:UInt8):OkL (Lib.trimLeftB l c)∧(Lib.trimLeftB l c).length≤l.length:=by
 unfold Lib.trimLeftB;exact⟨fun a ha=>h a ((List.dropWhile_sublist _).subset ha),(List.dropWhile_sublist _).length_le⟩
theorem itoa_ok:∀p:Fin 801,(decide ((Lib.itoa ((p.val:Int)-400)).length≤8)&&(Lib.itoa ((p.val:Int)-400)).all (fun c=>decide (c.toNat<128)&&decide (c.toNat≠95)))=true:=by decide+kernel
theorem itoaL{p:Int}(h: -400≤p∧p≤400):(Lib.itoa p).length≤8∧OkL (Lib.itoa p):=by
 have:=itoa_ok ⟨(p+400).toNat,by omega⟩;have e:(((p+400).toNat:Nat):Int)-400=p:=by omega
 simp only[e,Bool.and_eq_true,decide_eq_true_eq,List.all_eq_true]at this;exact⟨this.1,fun c hc=>this.2 c hc⟩
theorem conv1:cvU (some (.int .i64)) (.float .f64 4607182418800017408)=some (.int .i64 1):=by kernel_rfl
theorem convM:cvU (some (.int .i64)) (.float .f64 13830554455654793216)=some (.int .i64 (-1)):=by kernel_rfl
theorem numT_of{d e:List UInt8}(hd:OkL d)(he:OkL e)(h1:d.length+e.length≤999990):NumT (48::46::(d++[101]++e)) where
 few:=by simp;omega
 two:=by simp
 zero:=fun c hc=>by simp at hc;rw[←hc];rfl
 dot:=fun c hc=>by simp at hc;rw[←hc];rfl
 ok:=fun j hj=>by
  have hall:OkL (48::46::(d++[101]++e)):=by
   rw[show(48::46::(d++[101]++e))=[48,46]++d++[101]++e by simp];exact OkL.append (OkL.append (OkL.append (fun c hc=>by simp at hc;rcases hc with rfl|rfl<;>exact⟨by decide,by decide⟩) hd) (fun c hc=>by simp at hc;subst hc;exact⟨by decide,by decide⟩)) he
  rw[List.getD_eq_getElem?_getD,aS hj];exact hall _ (List.getElem_mem hj)
section
variable{hI h:Heap}
theorem indexAny_c(s:List UInt8)(hs:s.length≤1000000)(hok:OkL s):C aE 164 #[.string ⟨s.toArray⟩,.string ⟨([101,69]:List UInt8).toArray⟩] h (RetE (.int .i64 (Lib.indexAny s [101,69])) h):=
 C_below fun w hw=>Tryz.strings_IndexAny (fun w=>by kernel_rfl) ⟨s.toArray⟩ ⟨([101,69]:List UInt8).toArray⟩ w (by show s.length<_;omega) (by decide) (fun j b hb=>(hok b (List.mem_of_getElem? hb)).1) (fun j b hb=>by
  have:=List.mem_of_getElem? hb;simp at this
  rcases this with rfl|rfl<;>decide)
theorem itoa_c(hG:Gl hI)(hE:Ext [] hI h)(n:Int)(hn: -400≤n∧n≤400):C aE 174 #[.int .i64 n] h (RetE (.string ⟨(Lib.itoa n).toArray⟩) h):=
 C_grow fun w hw=>Tryz.strconv_Itoa n (by omega) (by omega) w (hG.pow w (by rw[hw];exact hE))
theorem signed_c(x:List UInt8):C aE 172 #[.string ⟨x.toArray⟩] h fun e h'=>(∃(s:Nat) (y:List UInt8),e=.returned (.tuple #[.float .f64 s,.string ⟨y.toArray⟩])∧(s=13830554455654793216∨s=4607182418800017408)∧y.length≤x.length)∧h'=h:=by
 refine C_in Tryz.func172 rfl rfl (by kernel_rfl) (aG rfl) ?_
 cases x with
 |nil=>
  have e0:(([]:List UInt8)==[])=true:=rfl;simp only[↓zp,zw,aA,e0];refine bK (nO [] [43]) ?_;simp only[↓zp,zw,aA]
  exact⟨⟨_,[],(by first|exact rfl|exact trivial),.inr rfl,by simp⟩,(by first|exact rfl|exact trivial)⟩
 |cons c l=>
  have hl:0<(c::l).length:=by simp
  have x0:idxS (c::l) 0=some (.int .u8 (c.toNat:Int)):=oA hl rfl;have ne:((c::l)==[])=false:=rfl
  cases hc:((c.toNat:Int)==45)with
  |true=>
   have b1:(0:Int)≤1∧(1:Int)≤(((c::l).length:Nat):Int):=by simp;omega
   simp only[↓zp,zw,aA,ne,x0,hc];refine bR 3 (by kernel_rfl) (by kernel_rfl) (by kernel_rfl) ?_;have t1:Int.toNat 1=1:=rfl;simp only[↓zp,zw,aA,b1,t1,List.take_length,List.drop_succ_cons,List.drop_zero]
   exact⟨⟨_,l,(by first|exact rfl|exact trivial),.inl rfl,by simp⟩,(by first|exact rfl|exact trivial)⟩
  |false=>
   simp only[↓zp,zw,aA,ne,x0,hc];refine bK (nO (c::l) [43]) ?_;simp only[↓zp,zw,aA];refine⟨⟨_,_,(by first|exact rfl|exact trivial),.inr rfl,?_⟩,(by first|exact rfl|exact trivial)⟩;unfold Lib.trimPrefix;split<;>simp
theorem float_c(hG:Gl hI)(hF:Gf hI)(hE:Ext [] hI h)(x:List UInt8)(hx:x.length≤900000)(hok:OkL x):C aE 149 #[.string ⟨x.toArray⟩] h fun e h'=>(∃z:Nat,e=.returned (.float .f64 z)∧cC z)∧Ext [] h h':=by
 refine C_in Tryz.func149 rfl rfl (by kernel_rfl) (aG rfl) ?_;refine fD 3 (fun ρ h'=> ∃m ex:List UInt8,ρ 3=.string ⟨m.toArray⟩∧ρ 4=.string ⟨ex.toArray⟩∧OkL m∧m.length≤x.length∧Ext [] h h') (fun N hN=> ?_) ?_
 ·simp only[↓zp,zw,aA,cS,cT];refine bH (indexAny_c x (by omega) hok) ?_;rintro _ h1 ⟨rfl,E1⟩;have hlt:=pH [101,69] x;generalize Lib.indexAny x [101,69]=i at hlt⊢;by_cases hi:i≥0
  ·have d1:decide (i≥0)=true:=bC hi;obtain⟨j,rfl⟩:=Int.eq_ofNat_of_zero_le hi;have w1:=bI (a:=j) (by omega);have b1:(0:Int)≤(j:Int)∧(j:Int)≤((x.length:Nat):Int):=by omega
   have b2:(0:Int)≤((j+1:Nat):Int)∧((j+1:Nat):Int)≤((x.length:Nat):Int):=by omega
   simp only[↓zp,zw,aA,d1];refine bR 8 (by kernel_rfl) (by kernel_rfl) (by kernel_rfl) ?_;simp only[↓zp,zw,aA,b1,b2,w1,aF,List.drop_zero];exact hN _ _ ⟨x.take j,_,by simp only[↓zp,zw,aA],by simp only[↓zp,zw,aA];rfl,hok.take _,by simp;omega,E1⟩
  ·have d1:decide (i≥0)=false:=bD hi;simp only[↓zp,zw,aA,d1];exact hN _ _ ⟨x,[],by simp only[↓zp,zw,aA],by simp only[↓zp,zw,aA],hok,by omega,E1⟩
 rintro ρ h1 ⟨m,ex,g3,g4,hm,hml,E1⟩
 (repeat rw[dC]);rw[dE]
 refine fD 5 (fun ρ h'=> ∃(q:Int) (p d:List UInt8) (s:Nat),ρ 7=.string ⟨p.toArray⟩∧ρ 9=.string ⟨d.toArray⟩∧ρ 10=.int .i64 q∧ρ 11=.float .f64 s∧(s=13830554455654793216∨s=4607182418800017408)∧OkL d∧d.length≤900000∧Ext [] h h') (fun N hN=> ?_) ?_
 ·simp only[↓zp,zw,aA,cS,cT,g3,g4];refine bK (cut_c (hG.max (hE.trans E1)) m [46] (by omega)) ?_;obtain⟨o1,o2,ol⟩:=cut_ok (s:=[46]) hm;generalize(Lib.cut m [46]).1=w at o1 ol⊢;generalize(Lib.cut m [46]).2.1=p at o2 ol⊢;generalize(Lib.cut m [46]).2.2=fd;simp only[↓zp,zw,aA,g4,hO (a:=w) (b:=p) (by omega)];refine bK (zN (w++p) 48 (by decide)) ?_;obtain⟨od,odl⟩:=trim_ok (OkL.append o1 o2) 48;have hwp:(w++p).length=w.length+p.length:=by simp
  generalize Lib.trimLeftB (w++p) 48=d at od odl⊢;have hdl:d.length≤900000:=by omega
  clear o1 o2 ol;simp only[↓zp,zw,aA,g4];refine bH (signed_c ex) ?_;rintro _ h2 ⟨⟨s,y,rfl,hs,hy⟩,hh⟩;rw[hh];simp only[↓zp,zw,aA];refine hZ Tryz.underlying9 ?_;have hj:(h1.push (.stringIter ⟨y.toArray⟩ 0))[h1.size]? =some (.stringIter ⟨y.toArray⟩ 0):=by simp
  have hz:(h1.push (.stringIter ⟨y.toArray⟩ 0)).size=h1.size+1:=by simp
  have E12:Ext [] h1 (h1.push (.stringIter ⟨y.toArray⟩ 0)):=Ext.push _ _ _;generalize h1.push (.stringIter ⟨y.toArray⟩ 0)=h3 at hj hz E12⊢;simp only[↓zp,zw,aA];refine⟨fun M ρ h'=> ∃(pos:Nat) (q:Int),ρ 7=.string ⟨p.toArray⟩∧ρ 9=.string ⟨d.toArray⟩∧ρ 10=.int .i64 q∧ρ 11=.float .f64 s∧ρ 44=.pointer (some ⟨h1.size,0,none⟩)∧h'[h1.size]? =some (.stringIter ⟨y.toArray⟩ pos)∧Ext [] h1 h'∧pos≤y.length∧M=y.length-pos,y.length,⟨0,0,by simp only[↓zp,zw,aA],by simp only[↓zp,zw,aA],by simp only[↓zp,zw,aA],by simp only[↓zp,zw,aA],by simp only[↓zp,zw,aA],hj,E12,by omega,rfl⟩,?_⟩;rintro M ρ h4 ⟨pos,q,g7,g9,g10,g11,g44,hj4,E4,hpos,hM⟩;simp only[↓zp,zw,aA,g7,g9,g10,g11,g44];refine iX hj4 (fun r n h5 hp hr hn hpn hra hj5 E5 hs5=> ?_) (fun hp=> ?_)
  ·rw[eU]at hp hpn;have E15:Ext [] h1 h5:=E4.trans_new E5 fun y hy=> .inl (by simp at hy;omega);simp only[↓zp,zw,aA,g7,g9,g10,g11,g44,rL];exact⟨y.length-(pos+n),by omega,pos+n,_,(by first|exact rfl|exact trivial),(by first|exact rfl|exact trivial),(by first|exact rfl|exact trivial),(by first|exact rfl|exact trivial),(by first|exact rfl|exact trivial),hj5,E15,by omega,(by first|exact rfl|exact trivial)⟩
  ·simp only[↓zp,zw,aA,g7,g9,g10,g11,g44];exact hN _ _ ⟨q,p,d,s,by simp only[↓zp,zw,aA,g7],by simp only[↓zp,zw,aA,g9],by simp only[↓zp,zw,aA,g10],by simp only[↓zp,zw,aA,g11],hs,od,hdl,E1.trans E4⟩
 clear g3 g4 hm hml E1;rintro ρ h1 ⟨q,p,d,s,g7,g9,g10,g11,hs,od,hdl,E1⟩
 (repeat rw[dC]);rw[dE]
 obtain⟨sg,hsg⟩:∃sg:Int,cvU (some (.int .i64)) (.float .f64 s)=some (.int .i64 sg):=by
  rcases hs with rfl|rfl
  ·exact⟨_,convM⟩
  ·exact⟨_,conv1⟩
 obtain⟨P,hP⟩:∃P,IntKind.i64.wrap (IntKind.i64.wrap (IntKind.i64.wrap (sg*q)+(d.length:Int))-(p.length:Int))=P:=⟨_,rfl⟩
 cases hd0:(d==[])with
 |true=>
  simp only[↓zp,zw,aA,g7,g9,g10,g11,hsg,hP,hd0]
  exact⟨⟨0,(by first|exact rfl|exact trivial),lM⟩,E1⟩
 |false=>
 by_cases h1:P< -400
 ·have d1:decide (P< -400)=true:=bC h1;simp only[↓zp,zw,aA,g7,g9,g10,g11,hsg,hP,hd0,d1];exact⟨⟨0,(by first|exact rfl|exact trivial),lM⟩,E1⟩
 have d1:decide (P< -400)=false:=bD h1;by_cases h2:P>400
 ·have d2:decide (P>400)=true:=bC h2;simp only[↓zp,zw,aA,g7,g9,g10,g11,hsg,hP,hd0,d1,d2];refine bK inf_c ?_;simp only[↓zp,zw,aA];exact⟨⟨_,(by first|exact rfl|exact trivial),by unfold cC;omega⟩,E1⟩
 have d2:decide (P>400)=false:=bD h2;obtain⟨l1,l2⟩:=itoaL (p:=P) (by omega);have k1:=hO (a:=[48,46]) (b:=d) (by simp;omega);have k2:=hO (a:=48::46::d) (b:=[101]) (by simp;omega);have k3:=hO (a:=48::46::(d++[101])) (b:=Lib.itoa P) (by simp;omega);simp only[↓zp,zw,aA,g7,g9,g10,g11,hsg,hP,hd0,d1,d2,k1,k2];refine bH (itoa_c hG (hE.trans E1) P (by omega)) ?_;rintro _ h3 ⟨rfl,E3⟩;have hN:=numT_of od l2 (by omega);generalize Lib.itoa P=it at k3 hN⊢;simp only[↓zp,zw,aA,g9,k3];refine bH (vH hF (hE.trans (E1.trans E3)) hN) ?_;rintro _ h4 ⟨⟨v,er,rfl,gv⟩,E4⟩;simp only[↓zp,zw,aA];exact⟨⟨v,(by first|exact rfl|exact trivial),gv⟩,(E1.trans E3).trans E4⟩
theorem exact_d(x:List UInt8)(hx:x.length≤1000000)(base:Nat)(hb:base≤100)(h10:base≠10):C aE 146 #[.string ⟨x.toArray⟩,.int .i64 (base:Int)] h fun e h'=>(∃z:Nat,e=.returned (.float .f64 z)∧cC z)∧Ext [] h h':=by
 have q:((base:Int)==10)=false:=by simp;omega
 refine C_in Tryz.func146 rfl rfl (by kernel_rfl) (aG rfl) ?_;simp only[↓zp,zw,aA,q];refine bH (sticky_c x hx base hb) ?_;rintro _ h1 ⟨⟨z,rfl,gz⟩,E1⟩;simp only[↓zp,zw,aA];exact⟨⟨z,(by first|exact rfl|exact trivial),gz⟩,E1⟩
theorem litSpec(hG:Gl hI)(hF:Gf hI):iG hI:=by
 intro h x hE hpos hx;have err:∀h',Ext [] h h'→(∃(v n:Nat) (er:Int),Ending.returned (.tuple #[.float .f64 0,.int .i64 0,.int .i64 30])=.returned (.tuple #[.float .f64 v,.int .i64 (n:Int),.int .i64 er])∧(er=0→cC v∧1≤n∧n≤x.length))∧Ext [] h h':=fun h' hE'=>⟨⟨0,0,30,rfl,fun e=>by cases e⟩,hE'⟩;refine C_in Tryz.func118 rfl rfl (by kernel_rfl) (aG rfl) ?_;refine fD 3 (fun ρ h'=> ∃(n v:Nat),ρ 0=.string ⟨x.toArray⟩∧ρ 5=.int .i64 (n:Int)∧ρ 6=.float .f64 v∧n≤x.length∧cC v∧Ext [] h h') (fun N hN=> ?_) ?_
 ·simp only[↓zp,zw,aA,cS,cT];refine bH (prefix_c x (by omega)) ?_;rintro _ h1 ⟨⟨b,rfl,hb16,hb10,hb⟩,E1⟩;rcases Nat.eq_zero_or_pos b with b0|b0
  ·subst b0;have d0:decide (((0:Nat):Int)>0)=false:=by decide
   simp only[↓zp,zw,aA,d0];refine bH (decimal_c x (by omega)) ?_;rintro _ h2 ⟨⟨n,rfl,hn,hok⟩,E2⟩;have E02:=E1.trans E2;rcases Nat.eq_zero_or_pos n with n0|n0
   ·subst n0;simp only[↓zp,zw,aA,d0];exact hN _ _ ⟨0,0,by simp only[↓zp,zw,aA],by simp only[↓zp,zw,aA],by simp only[↓zp,zw,aA],by omega,lM,E02⟩
   ·have d1:decide ((n:Int)>0)=true:=bC (by omega);obtain⟨c0,hc0⟩:∃c,x[0]'hpos=c:=⟨_,rfl⟩;have x0:idxS x 0=_:=oA hpos hc0;have bs:(0:Int)≤(n:Int)∧(n:Int)≤((x.length:Nat):Int):=by omega
    have okl:OkL (x.take n):=fun c hc=>by
     obtain⟨j,hj⟩:=List.mem_iff_getElem?.1 hc;rw[List.getElem?_take]at hj;split at hj
     ·rename_i hlt;have:=hok j hlt;rw[List.getD_eq_getElem?_getD,hj]at this;exact this
     ·cases hj
    have fl:=fun h' (hE':Ext [] hI h')=>float_c (h:=h') hG hF hE' (x.take n) (by simp;omega) okl
    cases q48:((c0.toNat:Int)==48)with
    |false=>
     simp only[↓zp,zw,aA,d1,x0,q48,bs,aF,List.drop_zero];refine bH (fl h2 (hE.trans E02)) ?_;rintro _ h3 ⟨⟨v,rfl,gv⟩,E3⟩;simp only[↓zp,zw,aA]
     exact hN _ _ ⟨n,v,by simp only[↓zp,zw,aA],by simp only[↓zp,zw,aA],by simp only[↓zp,zw,aA],hn,gv,E02.trans E3⟩
    |true=>
     by_cases n1:1<n
     ·have d2:decide ((n:Int)>1)=true:=bC (by omega);have l1:1<x.length:=by omega
      obtain⟨c1,hc1⟩:∃c,x[1]'l1=c:=⟨_,rfl⟩;have x1:idxS x 1=_:=oA l1 hc1;simp only[↓zp,zw,aA,d1,x0,q48,d2,x1];refine bK (pP c1) ?_
      cases k:decide ((fF c1:Int)<10)with
      |true=>
       simp only[↓zp,zw,aA,k]
       exact err _ E02
      |false=>
       simp only[↓zp,zw,aA,k,bs,aF,List.drop_zero];refine bH (fl h2 (hE.trans E02)) ?_;rintro _ h3 ⟨⟨v,rfl,gv⟩,E3⟩;simp only[↓zp,zw,aA];exact hN _ _ ⟨n,v,by simp only[↓zp,zw,aA],by simp only[↓zp,zw,aA],by simp only[↓zp,zw,aA],hn,gv,E02.trans E3⟩
     ·have d2:decide ((n:Int)>1)=false:=bD (by omega);simp only[↓zp,zw,aA,d1,x0,q48,d2,bs,aF,List.drop_zero];refine bH (fl h2 (hE.trans E02)) ?_;rintro _ h3 ⟨⟨v,rfl,gv⟩,E3⟩;simp only[↓zp,zw,aA];exact hN _ _ ⟨n,v,by simp only[↓zp,zw,aA],by simp only[↓zp,zw,aA],by simp only[↓zp,zw,aA],hn,gv,E02.trans E3⟩
  ·obtain⟨hb2,hl2⟩:=hb (by omega);have d0:decide ((b:Int)>0)=true:=bC (by omega);simp only[↓zp,zw,aA,d0];refine bH (rX (b:Int)) ?_;rintro _ h2 ⟨rfl,E2,hcell,hlt⟩;generalize h1.size=B at hcell;unfold digV;simp only[↓zp,zw,aA];refine bH (rC (base:=b) hcell x 2 hl2 (by omega)) ?_;rintro _ h3 ⟨⟨k,rfl,hk,_⟩,hh⟩;rw[hh];have E02:=E1.trans E2
   cases hk0:((k:Int)==0)with
   |true=>
    simp only[↓zp,zw,aA,hk0]
    exact err _ E02
   |false=>
    have w1:IntKind.i64.wrap (2+(k:Int))=((2+k:Nat):Int):=cQ (a:=2) (b:=k) (by omega);have b1:(0:Int)≤((2+k:Nat):Int)∧((2+k:Nat):Int)≤((x.length:Nat):Int):=by omega
    have b2:(0:Int)≤2∧(2:Int)≤((2+k:Nat):Int):=by omega
    simp only[↓zp,zw,aA,hk0,w1,b1,b2,aF];refine bH (exact_d _ (by simp;omega) b (by omega) hb10) ?_;rintro _ h4 ⟨⟨v,rfl,gv⟩,E4⟩;simp only[↓zp,zw,aA];exact hN _ _ ⟨2+k,v,by simp only[↓zp,zw,aA],by simp only[↓zp,zw,aA],by simp only[↓zp,zw,aA],by omega,gv,E02.trans E4⟩
 rintro ρ h1 ⟨n,v,g0,g5,g6,hn,gv,E1⟩
 (repeat rw[dC]);rw[dE]
 rcases Nat.eq_zero_or_pos n with n0|n0
 ·have z:((n:Int)==0)=true:=by simp[n0]
  simp only[↓zp,zw,aA,g0,g5,g6,z];exact err _ E1
 have z:((n:Int)==0)=false:=by simp;omega
 have good:(∃(v' n':Nat) (er:Int),Ending.returned (.tuple #[.float .f64 v,.int .i64 (n:Int),.int .i64 0])=.returned (.tuple #[.float .f64 v',.int .i64 (n':Int),.int .i64 er])∧(er=0→cC v'∧1≤n'∧n'≤x.length))∧Ext [] h h1:=⟨⟨v,n,0,rfl,fun _=>⟨gv,n0,hn⟩⟩,E1⟩;by_cases hlt:n<x.length
 ·have d1:decide ((n:Int)<((x.length:Nat):Int))=true:=bC (by omega);have z0:(0:Int)≤(n:Int):=by omega
  obtain⟨c,hc⟩:∃c,x[n]'hlt=c:=⟨_,rfl⟩;simp only[↓zp,zw,aA,g0,g5,g6,z,d1,z0,hlt,hc,aF];refine bK (pP c) ?_
  cases k1:decide ((fF c:Int)<36)with
  |true=>simp only[↓zp,zw,aA,k1];exact err _ E1
  |false=>
  cases k2:((c.toNat:Int)==36)with
  |true=>simp only[↓zp,zw,aA,g0,g5,g6,k1,z0,hlt,hc,aF,k2];exact err _ E1
  |false=>
  cases k3:((c.toNat:Int)==95)with
  |true=>simp only[↓zp,zw,aA,g0,g5,g6,k1,z0,hlt,hc,aF,k2,k3];exact err _ E1
  |false=>
  cases k4:decide ((c.toNat:Int)≥128)with
  |true=>simp only[↓zp,zw,aA,g0,g5,g6,k1,z0,hlt,hc,aF,k2,k3,k4];exact err _ E1
  |false=>
   simp only[↓zp,zw,aA,g0,g5,g6,k1,z0,hlt,hc,aF,k2,k3,k4];exact good
 ·have d1:decide ((n:Int)<((x.length:Nat):Int))=false:=bD (by omega);simp only[↓zp,zw,aA,g0,g5,g6,z,d1];exact good
end
end
section
def strTexts:List (List UInt8):=[[124,124],[38,38],[124],[94],[38],[61,61,32,33,61,32,61,61,61,32,33,61,61],[60,32,62,32,60,61,32,62,61,32,105,110,115,116,97,110,99,101,111,102,32,105,110],[60,60,32,62,62,32,62,62,62],[43,32,45],[42,32,47,32,37]]
def wL(l:SList)(ops:List (List UInt8))(i:Nat):SList:=ops.foldl (fun l x=>mput l x (.int .i64 (i:Int))) l
def sH:Nat→SList→List (List UInt8)→SList
 |_,l,[]=>l
 |i,l,t::r=>sH (i+1) (wL l (Lib.fields t) (i+1)) r
def strList:SList:=[([124,124],.int .i64 ((1:Nat):Int)),([38,38],.int .i64 ((2:Nat):Int)),([124],.int .i64 ((3:Nat):Int)),([94],.int .i64 ((4:Nat):Int)),([38],.int .i64 ((5:Nat):Int)),([61,61],.int .i64 ((6:Nat):Int)),([33,61],.int .i64 ((6:Nat):Int)),([61,61,61],.int .i64 ((6:Nat):Int)),([33,61,61],.int .i64 ((6:Nat):Int)),([60],.int .i64 ((7:Nat):Int)),([62],.int .i64 ((7:Nat):Int)),([60,61],.int .i64 ((7:Nat):Int)),([62,61],.int .i64 ((7:Nat):Int)),([105,110,115,116,97,110,99,101,111,102],.int .i64 ((7:Nat):Int)),([105,110],.int .i64 ((7:Nat):Int)),([60,60],.int .i64 ((8:Nat):Int)),([62,62],.int .i64 ((8:Nat):Int)),([62,62,62],.int .i64 ((8:Nat):Int)),([43],.int .i64 ((9:Nat):Int)),([45],.int .i64 ((9:Nat):Int)),([42],.int .i64 ((10:Nat):Int)),([47],.int .i64 ((10:Nat):Int)),([37],.int .i64 ((10:Nat):Int))]
theorem addAll_eq:sH 0 [] strTexts=strList:=by kernel_rfl
theorem tM{x:List UInt8}:∀{l:SList},(∀p,p∈l→x≠p.1)→mget l x=none
 |[],_=>rfl
 |(y,w)::l,h=>by
  have h1:(x==y)=false:=by simpa using h (y,w) (by simp)
  simp only[mget,h1];exact tM fun p hp=>h p (by simp[hp])
theorem str_keys:strList.all (fun k=>match mget strList k.1 with|some (.int .i64 n)=>n==(dX k.1:Int)|_=>false)=true:=by kernel_rfl
theorem xG(x:List UInt8):(mget strList x).getD (.int .i64 0)=.int .i64 (dX x:Int):=by
 by_cases hx:∃p,p∈strList∧x=p.1
 ·obtain⟨p,hp,rfl⟩:=hx;have:=List.all_eq_true.1 str_keys p hp;split at this
  ·rename_i n e;rw[e];simp at this;simp[this]
  ·cases this
 ·have hn:∀p,p∈strList→x≠p.1:=fun p hp e=>hx ⟨p,hp,e⟩;rw[tM hn]
  have hk:∀y,y∈strList.map (·.1)→(x==y)=false:=fun y hy=>by
   obtain⟨p,hp,rfl⟩:=List.mem_map.1 hy;simpa using hn p hp
  have k0:=hk [124,124] (by decide);have k1:=hk [38,38] (by decide);have k2:=hk [124] (by decide);have k3:=hk [94] (by decide);have k4:=hk [38] (by decide);have k5:=hk [61,61] (by decide);have k6:=hk [33,61] (by decide);have k7:=hk [61,61,61] (by decide);have k8:=hk [33,61,61] (by decide);have k9:=hk [60] (by decide);have k10:=hk [62] (by decide);have k11:=hk [60,61] (by decide);have k12:=hk [62,61] (by decide);have k13:=hk [105,110,115,116,97,110,99,101,111,102] (by decide);have k14:=hk [105,110] (by decide);have k15:=hk [60,60] (by decide);have k16:=hk [62,62] (by decide);have k17:=hk [62,62,62] (by decide);have k18:=hk [43] (by decide);have k19:=hk [45] (by decide);have k20:=hk [42] (by decide);have k21:=hk [47] (by decide);have k22:=hk [37] (by decide)
  have e:dX x=0:=by
   unfold dX;simp only[List.contains_cons,List.contains_nil,Bool.or_false,aI,if_false,k0,k1,k2,k3,k4,k5,k6,k7,k8,k9,k10,k11,k12,k13,k14,k15,k16,k17,k18,k19,k20,k21,k22]
  rw[e];rfl
theorem pA:∀t,t∈strTexts→t.length≤1000000∧t.all (fun b=>decide (b.toNat<128))=true:=by decide
theorem uM:∀t,t∈strTexts→(Lib.fields t).length≤100:=by decide
section
variable{h hI:Heap}
theorem xF(hG:Gl hI)(hE:Ext [] hI h):C aE 21 #[] h fun e h'=> ∃m,e=.returned (.map (some m))∧StrMap h' m∧h.size≤m∧Ext [] h h':=by
 refine C_in Tryz.func21 rfl rfl (by kernel_rfl) (aG rfl) ?_;simp only[↓zp,zw,aA];refine sJ (fun h1 hm1 hE1 hz1=> ?_) Tryz.underlying58;simp only[↓zp,zw,aA];refine dQ (e:=9) (n:=10) (vals:=cI strTexts) Tryz.underlying56 (by kernel_rfl) rfl (fJ _) rfl (by omega) (by omega) fun vs h2 hrow hbs hE2 hz2=> ?_;obtain⟨b',n',cap',cs,rfl,hb',hn',ht',_⟩:=hrow.open (by rw[cD];decide);have hn4:n'=10:=by rw[cD]at hn';have:strTexts.length=10:=rfl;omega
 subst hn4
 have hcell:∀i (hi:i<10),bG h2 b' (i*1)=some (.string ⟨(strTexts[i]'hi).toArray⟩):=fun i hi=>by
  rw[aP,Row.cell (n:=10) (cap:=cap') hb' ht' (by rw[cD];exact hi)];exact fK _ _ hi
 have hbb:b'=h1.size:=by simpa[blks]using hbs
 obtain⟨F,hF⟩:∃F,sH 0 [] strTexts=F:=⟨_,rfl⟩;have hm2:=hm1.ext hE2 (by simp);have E2:Ext [] h h2:=hE1.trans hE2;simp only[↓zp,zw,aA]
 refine⟨fun m ρ h'=> ∃(i:Nat) (l:SList),ρ 1=.map (some h.size)∧ρ 7=.slice (some ⟨b',0,none⟩) 10 cap'∧ρ 8=.int .i64 ((10:Nat):Int)∧ρ 9=.int .i64 (i:Int)∧SMap h' h.size l∧Ext [] h h'∧Ext [h.size] h2 h'∧i≤10∧sH i l (strTexts.drop i)=F∧m=10-i,10,
  ⟨0,[],by simp only[↓zp,zw,aA],by simp only[↓zp,zw,aA],by simp only[↓zp,zw,aA],by simp only[↓zp,zw,aA];rfl,hm2,E2,Ext.refl _ _,by omega,hF,rfl⟩,?_⟩
 rintro m ρ h3 ⟨i,l,g1,g7,g8,g9,hm3,E3,E23,hi,hl,hmm⟩;by_cases hlt:i<10
 ·have d1:decide ((i:Int)<((10:Nat):Int))=true:=bC (by omega);have b1:(0:Int)≤(i:Int)∧(i:Int)<((10:Nat):Int):=by omega
  have hc3:bG h3 b' (i*1)=some (.string ⟨(strTexts[i]'hlt).toArray⟩):=E23.cell (hcell i hlt) (by simp;omega);have hmem:strTexts[i]'hlt∈strTexts:=List.getElem_mem _;have hdrop:strTexts.drop i=(strTexts[i]'hlt)::strTexts.drop (i+1):=List.drop_eq_getElem_cons hlt;rw[hdrop]at hl;generalize strTexts[i]'hlt=tx at hc3 hmem hl;simp only[↓zp,zw,aA,g1,g7,g8,g9,d1,b1,aF,hc3];refine bH (iW hG (hE.trans E3) tx _ rfl (pA _ hmem).1 (pA _ hmem).2) ?_;have hfew:=uM _ hmem;have hl2:sH (i+1) (wL l (Lib.fields tx) (i+1)) (strTexts.drop (i+1))=F:=hl;generalize Lib.fields tx=ops at hfew hl2⊢;rintro _ h4 ⟨v,rfl,hr4,hbv,hE4,hz4⟩;obtain⟨a4,n4,c4,rfl,hn4⟩:=hr4.shape;rw[cD,aP]at hn4;subst hn4;simp only[↓zp,zw,aA,g1,g7,g8,g9];have hm4:=hm3.ext hE4 (by simp);have hms:=hm3.lt
  refine⟨fun m2 ρ h'=> ∃(j:Nat) (l':SList),ρ 1=.map (some h.size)∧ρ 2=.int .i64 (i:Int)∧ρ 7=.slice (some ⟨b',0,none⟩) 10 cap'∧ρ 8=.int .i64 ((10:Nat):Int)∧ρ 9=.int .i64 (i:Int)∧ρ 15=.slice a4 ops.length c4∧ρ 16=.int .i64 ((ops.length:Nat):Int)∧ρ 17=.int .i64 (j:Int)∧SMap h' h.size l'∧Ext [h.size] h4 h'∧j≤ops.length∧wL l' (ops.drop j) (i+1)=wL l ops (i+1)∧m2=ops.length-j,ops.length,
   ⟨0,l,by simp only[↓zp,zw,aA,g1],by simp only[↓zp,zw,aA],by simp only[↓zp,zw,aA,g7],by simp only[↓zp,zw,aA,g8],by simp only[↓zp,zw,aA,g9],by simp only[↓zp,zw,aA],by simp only[↓zp,zw,aA],by simp only[↓zp,zw,aA];rfl,hm4,Ext.refl _ _,by omega,rfl,rfl⟩,?_⟩
  rintro m2 ρ h5 ⟨j,l5,f1,f2,f7,f8,f9,f15,f16,f17,hm5,E45,hj,hl5,hmm2⟩;have E5:Ext [] h h5:=(E3.trans hE4).trans_new E45 fun y hy=> .inl (by simp at hy;omega);by_cases hjl:j<ops.length
  ·have d2:decide ((j:Int)<((ops.length:Nat):Int))=true:=bC (by omega);have b2:(0:Int)≤(j:Int)∧(j:Int)<((ops.length:Nat):Int):=by omega
   obtain⟨b4,n44,cap4,cs4,e4,hb4,hn44,ht4,_⟩:=hr4.open (by rw[cD];omega);simp only[Value.slice.injEq]at e4;obtain⟨rfl,rfl,rfl⟩:=e4;have hb4s:b4=h3.size:=by simpa[blks]using hbv
   have hc5:bG h5 b4 (j*1)=some (.string ⟨(ops[j]'hjl).toArray⟩):=E45.cell (by rw[aP,Row.cell (n:=ops.length) (cap:=c4) hb4 ht4 (by rw[cD];exact hjl)];exact fK _ _ hjl) (by simp;omega);have w1:=bI (a:=i) (by omega);have w2:=bI (a:=j) (by omega);simp only[↓zp,zw,aA,f1,f2,f7,f8,f9,f15,f16,f17,d2,b2,aF,hc5,w1];refine Wput hm5 Tryz.underlying58 Tryz.underlying9 fun h6 hm6 hE6 hz6=> ?_;simp only[↓zp,zw,aA,f1,f2,f7,f8,f9,f15,f16,f17,w2];refine⟨ops.length-(j+1),by omega,j+1,_,trivial,trivial,trivial,trivial,trivial,trivial,trivial,rfl,hm6,E45.trans hE6,by omega,?_,rfl⟩;rw[←hl5,List.drop_eq_getElem_cons hjl]
   rfl
  ·have d2:decide ((j:Int)<((ops.length:Nat):Int))=false:=bD (by omega);have w1:=bI (a:=i) (by omega);simp only[↓zp,zw,aA,f1,f2,f7,f8,f9,f15,f16,f17,d2,w1];have hd:ops.drop j=[]:=List.drop_eq_nil_of_le (by omega);rw[hd]at hl5;refine⟨10-(i+1),by omega,i+1,l5,by trivial,by trivial,by trivial,rfl,hm5,E5,?_,by omega,?_,rfl⟩
   ·exact(E23.trans hE4.of_nil).trans E45
   ·rw[←hl2,←hl5];rfl
 ·have d1:decide ((i:Int)<((10:Nat):Int))=false:=bD (by omega);simp only[↓zp,zw,aA,g1,g7,g8,g9,d1];have e10:i=10:=by omega
  subst e10;have hl0:l=F:=hl;refine⟨_,rfl,⟨l,hm3,fun x=> ?_⟩,bA _,E3⟩;rw[hl0,←hF,addAll_eq];exact xG x
end
end
section
def mir(one:Bool)(T:List Tk)(n:Nat):Res Nat:=if one then exprF T n else mB T n
def oH(src:List UInt8)(one:Bool)(F:List Tk→Nat)(h:Heap)(e:Ending)(h':Heap):Prop:=
 (∃vl T a s',e=.returned (.tuple #[vl,.int .i64 0,.int .i64 0])∧LexD src T∧jI 0 T=none∧mir one T (F T)=.ok a s'∧NS h' vl s'.ns∧s'.ns.length≤100000∧gY s'.ns≤200∧Ext [] h h')∨
 (∃a n:Int,e=.returned (.tuple #[.slice none 0 0,.int .i64 a,.int .i64 n])∧n≠0∧Ext [] h h'∧
  ((ascB src→LexE src)∨∃T,LexD src T∧((∃p,jI 0 T=some p)∨(∃p:Nat,mir one T (F T)=.err p∧a=p∧n=80)∨∃b s',mir one T (F T)=.ok b s'∧(100000<s'.ns.length∨200<gY s'.ns))))
theorem bpl61:bpl aE 61=some ([.slice none 0 0,.int .i64 0,.slice none 0 0,.slice none 0 0,.slice none 0 0,.map none],[(0,1),(1,1),(2,1),(3,1),(4,1),(5,1)]):=by kernel_rfl
section
variable{h hI:Heap}
theorem read_c (hG:Gl hI) (hC:gU hI) (hLit:iG hI) (hD:jM (Ext [] hI)) (hE:Ext [] hI h) (src:List UInt8) (hs:src.length≤262144) (one:Bool) (F:List Tk→Nat) (hne:∀T,LexD src T→mir one T (F T)≠ .out)
 (hpos:∀T a s',LexD src T→mir one T (F T)=.ok a s'→0<s'.ns.length∧s'.ns.length≤10000000∧∀x,x∈s'.ns→x.kids.length≤1000000000):
 C aE 9 #[.string ⟨src.toArray⟩,.bool one] h (oH src one F h):=by
 have z0:((0:Int) !=0)=false:=by decide
 have z80:((80:Int) !=0)=true:=by decide
 have y1:decide ((0:Int)≤ -1)=false:=by decide
 refine C_in Tryz.func9 rfl rfl (by kernel_rfl) (aG rfl) ?_;simp only[↓zp,zw,aA];refine bH (scan_c hG hC hLit hD hE src hs) ?_;rintro _ h1 (⟨vt,T,rfl,hT,hr1,hv1,hE1⟩|⟨a,n,rfl,hn0,hle,hE1⟩);rotate_left
 ·have hn:(n !=0)=true:=by simpa using hn0
  simp only[↓zp,zw,aA,hn];exact .inr ⟨a,n,rfl,hn0,hE1,.inl hle⟩
 obtain⟨hgood,hasc,hTl⟩:=hT.ok (by omega);simp only[↓zp,zw,aA,z0];refine bH (nest_c hr1 hgood.pos (by omega) (fun t ht=>by have:=(hgood.tk t ht).fr;omega)) ?_;rintro _ h2 ⟨rfl,hE2⟩
 cases hnest:jI 0 T with
 |some p=>
  have y2:decide ((0:Int)≤(p:Int))=true:=bC (by omega);simp only[↓zp,zw,aA,z0,y2]
  exact .inr ⟨p,61,rfl,by decide,hE1.trans hE2,.inr ⟨T,hT,.inl ⟨p,hnest⟩⟩⟩
 |none=>
 simp only[↓zp,zw,aA,z0,y1];refine bH (lJ hG ((hE.trans hE1).trans hE2) 26 (by omega)) ?_;rintro _ h3 ⟨va,rfl,ra,ba,hE3,hz3⟩;simp only[↓zp,zw,aA,z0,y1];refine bH (lJ hG (((hE.trans hE1).trans hE2).trans hE3) 19 (by omega)) ?_;rintro _ h4 ⟨vu,rfl,ru,bu,hE4,hz4⟩;simp only[↓zp,zw,aA,z0,y1];refine bH (xF hG ((((hE.trans hE1).trans hE2).trans hE3).trans hE4)) ?_;rintro _ h5 ⟨vm,rfl,hm,hml,hE5⟩;obtain⟨at1,nt1,ct1,rfl,hnt⟩:=hr1.shape;obtain⟨aa,na,ca,rfl,hna⟩:=ra.shape;obtain⟨au,nu,cu,rfl,hnu⟩:=ru.shape;simp only[↓zp,zw,aA,z0,y1,bpl61];have E5:Ext [] h h5:=(((hE1.trans hE2).trans hE3).trans hE4).trans hE5;have hE6:Ext [] h5 (h5.push (.cells #[.slice at1 nt1 ct1,.int .i64 0,.slice none 0 0,.slice aa na ca,.slice au nu cu,.map (some vm)] 61)):=Ext.push _ _ _;have hb6:Blk (h5.push (.cells #[.slice at1 nt1 ct1,.int .i64 0,.slice none 0 0,.slice aa na ca,.slice au nu cu,.map (some vm)] 61)) h5.size [.slice at1 nt1 ct1,.int .i64 ((0:Nat):Int),.slice none 0 0,.slice aa na ca,.slice au nu cu,.map (some vm)] 61:=Blk.newA;have hz6:(h5.push (.cells #[.slice at1 nt1 ct1,.int .i64 0,.slice none 0 0,.slice aa na ca,.slice au nu cu,.map (some vm)] 61)).size=h5.size+1:=by simp
 generalize h5.push (.cells #[.slice at1 nt1 ct1,.int .i64 0,.slice none 0 0,.slice aa na ca,.slice au nu cu,.map (some vm)] 61)=h6 at hE6 hb6 hz6⊢;obtain⟨ml,hml1,hml2⟩:=hm;have hmlt:=hml1.lt;have hz1:=hE1.1;have hz2:=hE2.1;have hz5:=hE5.1;have r1:=(((hr1.ext hE2 (by simp)).ext hE3 (by simp)).ext hE4 (by simp)).ext hE5 (by simp);have r2:=(ra.ext hE4 (by simp)).ext hE5 (by simp);have r3:=ru.ext hE5 (by simp);have l1:=r1.lt;have l2:=r2.lt;have l3:=r3.lt
 have hps:PS h6 ⟨h5.size,T,.slice at1 nt1 ct1,.slice aa na ca,.slice au nu cu,vm⟩ h5.size (blks (.slice at1 nt1 ct1)++blks (.slice aa na ca)++blks (.slice au nu cu)++[vm]) {i:=0,ns:=[]}:={
  body:=⟨.slice none 0 0,[],hb6,Row.nil,by simp[blks],rfl,by simp⟩
  used:=fun b hb=>by
   have:b<h5.size:=by
    simp only[List.mem_append,List.mem_singleton]at hb;rcases hb with((hb|hb)|hb)|hb
    ·exact l1 b hb
    ·exact l2 b hb
    ·exact l3 b hb
    ·rw[hb];exact hmlt
   exact⟨by omega,by show b≠h5.size;omega,by omega⟩
  ltL:=by omega
  toks:=r1.ext hE6 (by simp)
  toksU:=fun b hb=>by simp only[List.mem_append];exact .inl (.inl (.inl hb))
  asg:=r2.ext hE6 (by simp)
  asgU:=fun b hb=>by simp only[List.mem_append];exact .inl (.inl (.inr hb))
  una:=r3.ext hE6 (by simp)
  unaU:=fun b hb=>by simp only[List.mem_append];exact .inl (.inr hb)
  str:=⟨ml,hml1.ext hE6 (by simp),hml2⟩
  strU:=by simp
  lt:=hgood.pos
  big:=hgood.big
  eof:=hgood.eof
  asc:=fun t ht hk=>⟨(hasc t ht hk).1,by have:=(hasc t ht hk).2;omega⟩}
 refine bH (all_c ofSpec hps one (n:=F T) (r:=mir one T (F T)) rfl (hne T hT)) ?_;intro e h7 hout
 cases hm:mir one T (F T)with
 |out=>exact absurd hm (hne T hT)
 |err p=>
  rw[hm]at hout;obtain⟨rfl,hE7⟩:=hout;simp only[↓zp,zw,aA,z0,y1,z80];refine .inr ⟨(p:Int),80,rfl,by decide,(E5.trans hE6).trans_new hE7 fun y hy=> .inl ?_,.inr ⟨T,hT,.inr (.inl ⟨p,hm,rfl,rfl⟩)⟩⟩
  simp at hy;omega
 |ok a s'=>
  rw[hm]at hout;obtain⟨rfl,L',U',hp7,hq7⟩:=hout;obtain⟨vl,kvs,k1,k2,k3,k4,k5⟩:=hp7.body;have hns:NS h7 vl s'.ns:=⟨kvs,k2,k4,fun x hx=>(k5 x hx).1⟩;obtain⟨hp1,hp2,hp3⟩:=hpos T a s' hT hm;have E7:Ext [] h h7:=(E5.trans hE6).trans_new hq7.E fun y hy=> .inl (by simp at hy;omega);obtain⟨av,nv,cv,rfl,hnv⟩:=k2.shape
  have hnl:nv=s'.ns.length:=by
   rw[kQ bM 6 cU,List.length_zip,k4,Nat.min_self]at hnv;omega
  subst hnl;simp only[↓zp,zw,aA,z0,y1,bE k1];by_cases hbig:100000<s'.ns.length
  ·have d1:decide ((100000:Int)<((s'.ns.length:Nat):Int))=true:=bC (by omega);simp only[↓zp,zw,aA,z0,y1,d1];exact .inr ⟨0,2,rfl,by decide,E7,.inr ⟨T,hT,.inr (.inr ⟨a,s',hm,.inl hbig⟩)⟩⟩
  have d1:decide ((100000:Int)<((s'.ns.length:Nat):Int))=false:=bD (by omega);simp only[↓zp,zw,aA,z0,y1,d1,bE k1];refine bH (deep_c hns hp1 hp2 hp3) ?_;rintro _ h8 ⟨rfl,hE8⟩;have k18:=k1.ext hE8 (by simp);by_cases hdp:200<gY s'.ns
  ·have d2:decide ((200:Int)<(gY s'.ns:Int))=true:=bC (by omega);simp only[↓zp,zw,aA,z0,y1,d1,d2];exact .inr ⟨0,61,rfl,by decide,E7.trans hE8,.inr ⟨T,hT,.inr (.inr ⟨a,s',hm,.inr hdp⟩)⟩⟩
  ·have d2:decide ((200:Int)<(gY s'.ns:Int))=false:=bD (by omega);simp only[↓zp,zw,aA,z0,y1,d1,d2,bE k18];exact .inl ⟨_,T,a,s',rfl,hT,hnest,hm,hns.ext0 hE8,by omega,by omega,E7.trans hE8⟩
theorem nQ (hG:Gl hI) (hC:gU hI) (hLit:iG hI) (hD:jM (Ext [] hI)) (hE:Ext [] hI h) (src:List UInt8) (hs:src.length≤262144) (F:List Tk→Nat) (hne:∀T,LexD src T→mir false T (F T)≠ .out)
 (hpos:∀T a s',LexD src T→mir false T (F T)=.ok a s'→0<s'.ns.length∧s'.ns.length≤10000000∧∀x,x∈s'.ns→x.kids.length≤1000000000):
 C aE 5 #[.string ⟨src.toArray⟩] h (oH src false F h):=by
 refine C_in Tryz.func5 rfl rfl (by kernel_rfl) (aG rfl) ?_;simp only[↓zp,zw,aA];refine bH (read_c hG hC hLit hD hE src hs false F hne hpos) ?_;rintro _ h1 (⟨vl,T,a,s',rfl,k⟩|⟨a,n,rfl,k⟩)
 ·simp only[↓zp,zw,aA];exact .inl ⟨vl,T,a,s',rfl,k⟩
 ·simp only[↓zp,zw,aA];exact .inr ⟨a,n,rfl,k⟩
theorem expr_c (hG:Gl hI) (hC:gU hI) (hLit:iG hI) (hD:jM (Ext [] hI)) (hE:Ext [] hI h) (src:List UInt8) (hs:src.length≤262144) (F:List Tk→Nat) (hne:∀T,LexD src T→mir true T (F T)≠ .out)
 (hpos:∀T a s',LexD src T→mir true T (F T)=.ok a s'→0<s'.ns.length∧s'.ns.length≤10000000∧∀x,x∈s'.ns→x.kids.length≤1000000000):
 C aE 8 #[.string ⟨src.toArray⟩] h (oH src true F h):=by
 refine C_in Tryz.func8 rfl rfl (by kernel_rfl) (aG rfl) ?_;simp only[↓zp,zw,aA];refine bH (read_c hG hC hLit hD hE src hs true F hne hpos) ?_;rintro _ h1 (⟨vl,T,a,s',rfl,k⟩|⟨a,n,rfl,k⟩)
 ·simp only[↓zp,zw,aA];exact .inl ⟨vl,T,a,s',rfl,k⟩
 ·simp only[↓zp,zw,aA];exact .inr ⟨a,n,rfl,k⟩
end
end
section
theorem mI{src:List UInt8}{one:Bool}{p:Res Nat→Bool}(h:iD src one p=true):(∀T,LexD src T→T=tks src∧jI 0 T=none∧p (mir one T 600)=true)∧(LexE src→False):=by
 unfold iD at h;simp only[Bool.and_eq_true]at h;obtain⟨⟨h1,h2⟩,h3⟩:=h;obtain⟨T0,hT0⟩:=Option.isSome_iff_exists.1 h1;have e:tks src=T0:=by unfold tks;rw[hT0];rfl
 refine⟨fun T hT=> ?_,fun hE=>hE.no hT0⟩;have:=hT.det hT0;subst this;rw[←e];exact⟨rfl,by simpa using h2,h3⟩
theorem ns_len{h:Heap}{vl:Value}{ns:List Nd}(H:NS h vl ns):∃a c,vl=.slice a ns.length c:=by
 obtain⟨kvs,h1,h2,_⟩:=H;obtain⟨a,n,c,rfl,hn⟩:=h1.shape;rw[kQ bM 6 cU,List.length_zip,h2,Nat.min_self]at hn;have:n=ns.length:=by omega
 subst this;exact⟨a,c,rfl⟩
section
variable{h hI:Heap}
theorem xN {src:List UInt8} {one:Bool} {lo hi:Nat} {e:Ending} {h':Heap} (hl:lo≤hi)
 (hp:iD src one (okP lo hi)=true) (hhi:hi≤100) (ha:ascB src) (H:oH src one (fun _=>600) h e h'):
 ∃a n c,e=.returned (.tuple #[.slice a n c,.int .i64 0,.int .i64 0])∧lo≤n∧n≤hi∧Ext [] h h':=by
 obtain⟨f1,f2⟩:=mI hp;rcases H with⟨vl,T,a,s',rfl,hT,_,hm,hns,h1,h2,hE⟩|⟨a,n,rfl,hn,hE,hw⟩
 ·obtain⟨_,_,k3⟩:=f1 T hT;rw[hm]at k3;simp only[okP,Bool.and_eq_true,decide_eq_true_eq]at k3;obtain⟨av,cv,rfl⟩:=ns_len hns;exact⟨av,_,cv,rfl,k3.1.1.1,k3.1.1.2,hE⟩
 ·exfalso;rcases hw with hw|⟨T,hT,hw⟩
  ·exact f2 (hw ha)
  ·obtain⟨_,k2,k3⟩:=f1 T hT;rcases hw with⟨p,hp⟩|⟨p,hp,_⟩|⟨b,s',hm,hw⟩
   ·rw[k2]at hp;cases hp
   ·rw[hp]at k3;cases k3
   ·rw[hm]at k3;simp only[okP,Bool.and_eq_true,decide_eq_true_eq]at k3;omega
theorem tG{src:List UInt8}{one:Bool}{p0:Nat}{e:Ending}{h':Heap}(hp:iD src one (errP p0)=true)(ha:ascB src)(H:oH src one (fun _=>600) h e h'):
 e=.returned (.tuple #[.slice none 0 0,.int .i64 (p0:Int),.int .i64 80])∧Ext [] h h':=by
 obtain⟨f1,f2⟩:=mI hp;rcases H with⟨vl,T,a,s',rfl,hT,_,hm,_⟩|⟨a,n,rfl,hn,hE,hw⟩
 ·obtain⟨_,_,k3⟩:=f1 T hT;rw[hm]at k3;cases k3
 ·rcases hw with hw|⟨T,hT,hw⟩
  ·exact(f2 (hw ha)).elim
  ·obtain⟨_,k2,k3⟩:=f1 T hT;rcases hw with⟨p,hp⟩|⟨p,hp,rfl,rfl⟩|⟨b,s',hm,hw⟩
   ·rw[k2]at hp;cases hp
   ·rw[hp]at k3;have:p=p0:=by simpa[errP]using k3
    subst this;exact⟨rfl,hE⟩
   ·rw[hm]at k3;cases k3
theorem ne_ok{src:List UInt8}{one:Bool}{lo hi:Nat}(h0:0<lo)(hh:hi≤100)(hp:iD src one (okP lo hi)=true):(∀T,LexD src T→mir one T 600≠ .out)∧(∀T a s',LexD src T→mir one T 600=.ok a s'→0<s'.ns.length∧s'.ns.length≤10000000∧∀x,x∈s'.ns→x.kids.length≤1000000000):=by
 obtain⟨f1,_⟩:=mI hp;refine⟨fun T hT hm=> ?_,fun T a s' hT hm=> ?_⟩
 ·have:=(f1 T hT).2.2;rw[hm]at this;cases this
 ·have k3:=(f1 T hT).2.2;rw[hm]at k3;simp only[okP,Bool.and_eq_true,decide_eq_true_eq]at k3;refine⟨by omega,by omega,fun x hx=> ?_⟩;have:=List.all_eq_true.1 k3.2 x hx;simp at this;omega
theorem vK{src:List UInt8}{one:Bool}{p0:Nat}(hp:iD src one (errP p0)=true):(∀T,LexD src T→mir one T 600≠ .out)∧(∀T a s',LexD src T→mir one T 600=.ok a s'→0<s'.ns.length∧s'.ns.length≤10000000∧∀x,x∈s'.ns→x.kids.length≤1000000000):=by
 obtain⟨f1,_⟩:=mI hp;refine⟨fun T hT hm=> ?_,fun T a s' hT hm=> ?_⟩
 ·have:=(f1 T hT).2.2;rw[hm]at this;cases this
 ·have k3:=(f1 T hT).2.2;rw[hm]at k3;cases k3
theorem asc1:ascB src1:=by unfold ascB;decide
theorem asc2:ascB src2:=by unfold ascB;decide
theorem asc3:ascB src3:=by unfold ascB;decide
theorem asc4:ascB src4:=by unfold ascB;decide
theorem awake_c(hG:Gl hI)(hC:gU hI)(hLit:iG hI)(hD:jM (Ext [] hI))(hE:Ext [] hI h):C aE 4 #[] h fun e h'=>e=.returned (.bool true)∧Ext [] h h':=by
 have z0:((0:Int)==0)=true:=by decide
 have z80:((80:Int)==80)=true:=by decide
 have z3:(((3:Nat):Int)==3)=true:=by decide
 have z7:(((7:Nat):Int)==7)=true:=by decide
 refine C_in Tryz.func4 rfl rfl (by kernel_rfl) (aG rfl) ?_;simp only[↓zp,zw,aA];refine bH (nQ hG hC hLit hD hE src1 (by decide) (fun _=>600) (ne_ok (by decide) (by decide) reads1).1 (ne_ok (by decide) (by decide) reads1).2) ?_;intro e h1 H1;obtain⟨a1,n1,c1,rfl,l1,l2,hE1⟩:=xN (by decide) reads1 (by decide) asc1 H1;have hn1:n1=5:=by omega
 subst hn1;simp only[↓zp,zw,aA];refine bH (nQ hG hC hLit hD (hE.trans hE1) src2 (by decide) (fun _=>600) (vK reads2).1 (vK reads2).2) ?_;intro e h2 H2;obtain⟨rfl,hE2⟩:=tG reads2 asc2 H2;simp only[↓zp,zw,aA];refine bH (nQ hG hC hLit hD ((hE.trans hE1).trans hE2) src3 (by decide) (fun _=>600) (vK reads3).1 (vK reads3).2) ?_;intro e h3 H3;obtain⟨rfl,hE3⟩:=tG reads3 asc3 H3;simp only[↓zp,zw,aA];refine bH (expr_c hG hC hLit hD (((hE.trans hE1).trans hE2).trans hE3) src4 (by decide) (fun _=>600) (ne_ok (by decide) (by decide) reads4).1 (ne_ok (by decide) (by decide) reads4).2) ?_;intro e h4 H4;obtain⟨a4,n4,c4,rfl,l3,l4,hE4⟩:=xN (by decide) reads4 (by decide) asc4 H4;have z5:(((5:Nat):Int)==5)=true:=by decide
 have zn:decide ((3:Int)<((n4:Nat):Int))=true:=bC (by omega);simp only[↓zp,zw,aA,z0,z80,z3,z7,z5,zn];exact⟨trivial,((hE1.trans hE2).trans hE3).trans hE4⟩
end
end
section
theorem kq48{k:Nat}:((k:Int)==48)=(k==48):=by rw[aW];simp;omega
theorem kq49{k:Nat}:((k:Int)==49)=(k==49):=by rw[aW];simp;omega
def d51(ns:List Nd)(l:List Nat):Nat:=l.countP fun n=>(ns[n]?.map (·.kind))==some 51
section
variable{ns:List Nd}
theorem oC(l m:List Nat):d51 ns (l++m)=d51 ns l+d51 ns m:=List.countP_append
theorem d51_one{n:Nat}{y:Nd}(h:ns[n]? =some y):d51 ns [n]=if y.kind=51 then 1 else 0:=by
 unfold d51;rw[List.countP_singleton,h];simp
theorem sA{p:Nat→Bool}(hp:p 51=false){l:List Nat}(h:allK ns l p):d51 ns l=0:=by
 unfold d51;rw[List.countP_eq_zero];intro n hn;obtain⟨y,h1,h2⟩:=h n hn;rw[h1];simp;intro e;rw[e,hp]at h2;cases h2
theorem Shape.sw{k:Nat}{x:List UInt8}{l:List Nat}(h:Shape ns k x l)(hk:k=49):d51 ns l≤1:=by
 cases h with
 |switch he hl hd=>
  obtain⟨l1,l2,rfl,h1,h2⟩:=hd;have he0:∀e,hasK ns e cG→d51 ns [e]=0:=fun e h=>sA (p:=cG) rfl (fun n hn=>by simp at hn;subst hn;exact h);rw[←List.singleton_append,oC,oC,he0 _ he,sA (p:=(·==50)) rfl h1];rcases h2 with rfl|⟨d,l3,rfl,hd,h3⟩
  ·simp[d51]
  ·rw[←List.singleton_append,oC,sA (p:=(·==50)) rfl h3];have:d51 ns [d]≤1:=by unfold d51;exact List.countP_le_length
   omega
 |decl hk'=>subst hk;cases hk'
 |_=>first|omega|cases hk
theorem Shape.tr{k:Nat}{x:List UInt8}{l:List Nat}(h:Shape ns k x l)(hk:k=48):∃b c f y z,l=[b,c,f]∧ns[c]? =some y∧ns[f]? =some z∧((x≠[]∧y.kind=32)∨(x=[]∧y.kind=54∧z.kind=32)):=by
 cases h with
 | @tries _ b c f hb h=>
   rcases h with⟨h1,⟨y,h2,h3⟩,⟨z,h4,_⟩⟩|⟨h1,⟨y,h2,h3⟩,⟨z,h4,h5⟩⟩
   ·exact⟨b,c,f,y,z,rfl,h2,h4,.inl ⟨fun e=>(by rw[e]at h1;cases h1),by simpa using h3⟩⟩
   ·exact⟨b,c,f,y,z,rfl,h2,h4,.inr ⟨h1,by simpa using h3,by simpa using h5⟩⟩
 |decl hk'=>subst hk;cases hk'
 |_=>first|omega|cases hk
end
section
variable{h hI:Heap}{ck:Nat}{vl:Value}{ns:List Nd}
theorem more_k(H:CK h ck vl ns){x:Nd}{vk:Value}(hS:Shape ns x.kind x.text x.kids)(hr:Row h vk 3 1 (bL x.kids))(hfew:x.kids.length≤1000000):
 C aE 27 #[.pointer (some ⟨ck,0,none⟩),.agg (bM (x,vk)).toArray] h fun e h'=>e=.returned (.bool true)∧Ext [] h h':=by
 obtain⟨a,c,rfl,hkid⟩:=cV hr;have hE1:Ext [] h (h.push (.cells (bM (x,.slice a x.kids.length c)).toArray 35)):=Ext.push _ _ _;have hb1:Blk (h.push (.cells (bM (x,.slice a x.kids.length c)).toArray 35)) h.size (bM (x,.slice a x.kids.length c)) 35:=Blk.new;refine C_in Tryz.func27 rfl rfl (by kernel_rfl) (aG rfl) ?_;simp only[↓zp,zw,↓reduceIte,aA];rw[show(bM (x,.slice a x.kids.length c))[0]? =some (.int .i64 (x.kind:Int))from rfl];generalize h.push (.cells (bM (x,.slice a x.kids.length c)).toArray 35)=h1 at hE1 hb1⊢;have H1:=H.ext0 hE1;have c0:bG h1 h.size 0=some (.int .i64 (x.kind:Int)):=by rw[bE hb1];rfl
 have c1:bG h1 h.size 1=some (.string ⟨x.text.toArray⟩):=by rw[bE hb1];rfl
 have c4:bG h1 h.size 4=some (.slice a x.kids.length c):=by rw[bE hb1];rfl
 by_cases k1:x.kind=48
 ·obtain⟨b,q,f,y,z,hl,hy,hz,hcase⟩:=hS.tr k1;rw[k1]at c0;obtain⟨bn,cap,vy,rfl,hq,_,_,hcy⟩:=H1.at hy;obtain⟨bn',cap',vz,e2,hf,_,_,hcz⟩:=H1.at hz;simp only[Value.slice.injEq,Option.some.injEq,Addr.mk.injEq,true_and,and_true]at e2;obtain⟨rfl,rfl⟩:=e2;have y0:bG h1 bn (q*6)=some (.int .i64 (y.kind:Int)):=hcy 0 (by omega);have z0:bG h1 bn (f*6)=some (.int .i64 (z.kind:Int)):=hcz 0 (by omega);have b1:(0:Int)≤(q:Int)∧(q:Int)<((ns.length:Nat):Int):=by omega
  have b2:(0:Int)≤(f:Int)∧(f:Int)<((ns.length:Nat):Int):=by omega
  have hlen:x.kids.length=3:=by rw[hl];rfl
  rw[hlen]at c4;obtain⟨bk,rfl,hk1⟩:=hkid 1 (by omega);obtain⟨bk',e3,hk2⟩:=hkid 2 (by omega);simp only[Option.some.injEq,Addr.mk.injEq,and_true]at e3;subst e3
  have g1:bG h1 bk 1=some (.int .i64 (q:Int)):=by
   have:x.kids[1]'(by omega)=q:=by simp[hl]
   rw[this]at hk1;exact hE1.cell hk1 (by simp)
  have g2:bG h1 bk 2=some (.int .i64 (f:Int)):=by
   have:x.kids[2]'(by omega)=f:=by simp[hl]
   rw[this]at hk2;exact hE1.cell hk2 (by simp)
  have b3:(0:Int)≤1∧(1:Int)<((3:Nat):Int):=by decide
  have b4:(0:Int)≤2∧(2:Int)<((3:Nat):Int):=by decide
  have t2:(2:Int).toNat=2:=rfl;simp only[↓zp,zw,↓reduceIte,aA,show((x.kind:Int)==48)=true by rw[k1];rfl];refine bR 25 (by kernel_rfl) (by kernel_rfl) (by kernel_rfl) ?_;simp only[↓zp,zw,↓reduceIte,aA,c4,bE H1.blk,b1,b2,b3,b4,aF,aX,t2,aP,g1,g2,y0,z0,kq32,c1];rcases hcase with⟨hx,hy32⟩|⟨hx,hy54,hz32⟩
  ·have e1:(x.text==[])=false:=by simpa using hx
   have e2:(y.kind==32)=true:=by simpa using hy32
   simp only[↓zp,zw,↓reduceIte,aA,e1,e2,BEq.rfl,c1];exact⟨by trivial,hE1⟩
  ·have e1:(x.text==[])=true:=by simpa using hx
   have e2:(y.kind==32)=false:=by rw[hy54];rfl
   have e3:(z.kind==32)=true:=by simpa using hz32
   simp only[↓zp,zw,↓reduceIte,aA,e1,e2,e3,BEq.rfl,c1];exact⟨by trivial,hE1⟩
 by_cases k2:x.kind=49
 ·have hd:=hS.sw k2;rw[k2]at c0;simp only[↓zp,zw,↓reduceIte,aA,show((x.kind:Int)==48)=false by rw[k2];rfl,show((x.kind:Int)==49)=true by rw[k2];rfl,c4];refine⟨fun m ρ h'=> ∃i:Nat,ρ 0=.pointer (some ⟨ck,0,none⟩)∧ρ 7=.int .i64 ((d51 ns (x.kids.take i):Nat):Int)∧ρ 52=.slice a x.kids.length c∧ρ 53=.int .i64 ((x.kids.length:Nat):Int)∧ρ 54=.int .i64 (i:Int)∧h'=h1∧i≤x.kids.length∧m=x.kids.length-i,x.kids.length,⟨0,by simp only[↓zp,zw,↓reduceIte,aA],by simp only[↓zp,zw,↓reduceIte,aA];rfl,by simp only[↓zp,zw,↓reduceIte,aA],by simp only[↓zp,zw,↓reduceIte,aA],by simp only[↓zp,zw,↓reduceIte,aA];rfl,rfl,by omega,rfl⟩,?_⟩;rintro m ρ h2 ⟨i,g0,g7,g52,g53,g54,hh,hi,hm⟩;rw[hh];by_cases hlt:i<x.kids.length
  ·have d1:decide ((i:Int)<((x.kids.length:Nat):Int))=true:=bC (by omega);have b1:(0:Int)≤(i:Int)∧(i:Int)<((x.kids.length:Nat):Int):=by omega
   have w1:=bI (a:=i) (by omega);obtain⟨bz,rfl,hcz⟩:=hkid i hlt;have htk:x.kids.take (i+1)=x.kids.take i++[x.kids[i]'hlt]:=by rw[List.take_add_one,aS hlt];rfl
   have hcz1:=hE1.cell hcz (by simp);have hq:x.kids[i]'hlt<ns.length:=hS.lt _ (List.getElem_mem hlt);generalize x.kids[i]'hlt=q at hcz1 htk hq;obtain⟨y,hy⟩:∃y,ns[q]? =some y:=⟨_,aS hq⟩;obtain⟨bn,cap,vy,rfl,_,_,_,hcy⟩:=H1.at hy;have b2:(0:Int)≤(q:Int)∧(q:Int)<((ns.length:Nat):Int):=by omega
   have y0:bG h1 bn (q*6)=some (.int .i64 (y.kind:Int)):=hcy 0 (by omega);have hone:=d51_one hy;have hle:d51 ns (x.kids.take i)≤x.kids.length:=Nat.le_trans List.countP_le_length (by rw[List.length_take];omega);have w2:=bI (a:=d51 ns (x.kids.take i)) (by omega)
   cases e51:y.kind==51 with
   |true=>
    have:y.kind=51:=by simpa using e51
    rw[if_pos this]at hone;simp only[↓zp,zw,↓reduceIte,aA,g0,g7,g52,g53,g54,d1,b1,b2,aF,hcz1,bE H1.blk,y0,kq51,e51,w1,w2]
    exact⟨x.kids.length-(i+1),by omega,i+1,by trivial,by rw[htk,oC,hone],by trivial,by trivial,by trivial,by trivial,by omega,rfl⟩
   |false=>
    have:y.kind≠51:=by simpa using e51
    rw[if_neg this]at hone;simp only[↓zp,zw,↓reduceIte,aA,g0,g7,g52,g53,g54,d1,b1,b2,aF,hcz1,bE H1.blk,y0,kq51,e51,w1];exact⟨x.kids.length-(i+1),by omega,i+1,by trivial,by rw[htk,oC,hone];rfl,by trivial,by trivial,by trivial,by trivial,by omega,rfl⟩
  ·have d1:decide ((i:Int)<((x.kids.length:Nat):Int))=false:=bD (by omega);have et:x.kids.take i=x.kids:=List.take_of_length_le (by omega);rw[et]at g7;have d2:decide (((d51 ns x.kids:Nat):Int)≤1)=true:=bC (by omega);simp only[↓zp,zw,↓reduceIte,aA,g0,g7,g52,g53,g54,d1,d2];exact⟨by trivial,hE1⟩
 ·have e1:(x.kind==48)=false:=by simpa using k1
  have e2:(x.kind==49)=false:=by simpa using k2
  simp only[↓zp,zw,↓reduceIte,aA,c0,kq48,kq49,e1,e2];exact⟨by trivial,hE1⟩
end
end
section
section
variable{ns ns':List Nd}(hp:ns<+:ns')
include hp
theorem parKids.mono{n:Nat}{q q':List Nat→Prop}(hq:∀l,q l→q' l)(k:parKids ns n q):parKids ns' n q':=by
 obtain⟨y,p,b,z,h1,h2,h3,h4,h5⟩:=k;exact⟨y,p,b,z,gQ hp h1,h2,h3,gQ hp h4,hq _ h5⟩
theorem oneInit.mono{n:Nat}(k:oneInit ns n):oneInit ns' n:=by
 obtain⟨y,i,z,h1,h2,h3,h4,h5⟩:=k;exact⟨y,i,z,gQ hp h1,h2,h3,gQ hp h4,h5⟩
theorem Shape.mono{k:Nat}{x:List UInt8}{l:List Nat}(H:Shape ns k x l):Shape ns' k x l:=by
 have K:∀{n p},hasK ns n p→hasK ns' n p:=fun k=>k.mono hp;have A:∀{l p},allK ns l p→allK ns' l p:=fun k=>k.mono hp;have B:∀{n},IsBody ns n→IsBody ns' n:=fun k=>k.mono hp
 cases H with
 |num=>exact .num
 |str=>exact .str
 |plain h=>exact .plain h
 |name h=>exact .name h
 |array h=>exact .array (A h)
 |object h=>exact .object (A h)
 |prop a b=>exact .prop (K a) (K b)
 |getter a b=>exact .getter (K a) (b.mono hp fun _ h=>h)
 |setter a b=>exact .setter (K a) (b.mono hp fun _ ⟨a,e,h⟩=>⟨a,e,K h⟩)
 |func a b c=>exact .func a (K b) (K c)
 |arrow a b=>exact .arrow (K a) (K b)
 |call a b c=>exact .call a (K b) (A c)
 |dot a b=>exact .dot a (K b)
 |two a b c=>exact .two a (K b) (K c)
 |unary a b=>exact .unary a (K b)
 |prepost a b c=>exact .prepost a b (K c)
 |binary a b c=>exact .binary a (K b) (K c)
 |cond a b c=>exact .cond (K a) (K b) (K c)
 |assign a b c=>exact .assign a (K b) (K c)
 |seq a=>exact .seq (A a)
 |template a=>exact .template (a.mono hp)
 |one a b=>exact .one a (K b)
 |params a b=>exact .params (A a) (b.imp id fun⟨a,e,h⟩=>⟨a,e,K h⟩)
 |rest a=>exact .rest a
 |stmts a b=>exact .stmts a (A b)
 |decl a b=>exact .decl a (A b)
 |init a b=>exact .init a (b.imp id fun⟨a,e,h⟩=>⟨a,e,K h⟩)
 |ret b=>exact .ret (b.imp id fun⟨a,e,h⟩=>⟨a,e,K h⟩)
 |ifs a b c=>exact .ifs (K a) (B b) (c.imp id fun⟨a,e,h⟩=>⟨a,e,B h⟩)
 |fors a b c d=>exact .fors (K a) (K b) (K c) (B d)
 |each a b c d=>exact .each a (b.imp K (oneInit.mono hp)) (K c) (B d)
 |whiles a b=>exact .whiles (K a) (B b)
 |dos a b=>exact .dos (B a) (K b)
 |leave a b=>exact .leave a b
 |tries a b=>exact .tries (K a) (b.imp (fun⟨a,b,c⟩=>⟨a,K b,K c⟩) fun⟨a,b,c⟩=>⟨a,K b,K c⟩)
 |switch a b c=>
  obtain⟨l1,l2,e,h1,h2⟩:=c
  exact .switch (m:=[]) (K a) (A b) ⟨l1,l2,e,A h1,h2.imp id fun⟨d,l3,e,h1,h2⟩=>⟨d,l3,e,K h1,A h2⟩⟩
 |case a b=>exact .case (K a) (A b)
 |label a b=>exact .label a (B b)
 |fun_ a b c=>exact .fun_ a (K b) (K c)
end
section
variable{h hI:Heap}{ck:Nat}{vl:Value}{ns:List Nd}
theorem rule84:∀k,k<57→pB k=[84]→k=28:=by decide
theorem knq1{k:Nat}:((k:Int) !=1)= !(k==1):=by rw[show((k:Int) !=1)= !((k:Int)==1)from rfl,kq1]
theorem node_k(hG:Gl hI)(hEI:Ext [] hI h)(H:CK h ck vl ns){src:List UInt8}{n:Nat}{x:Nd}(hx:ns[n]? =some x)(hg:nK src (ns.take n) x):C aE 13 #[.pointer (some ⟨ck,0,none⟩),.int .i64 (n:Int)] h fun e h'=>e=.returned (.bool true)∧Ext [] h h':=by
 have hS:Shape ns x.kind x.text x.kids:=hg.shape.mono (List.take_prefix _ _);obtain⟨htx,hk1,hk56⟩:=hS.txt;have htl:=hS.tlen;obtain⟨b,cap,vk,rfl,hn,hrk,hld,hc⟩:=H.at hx;have hfew:=H.kids x (List.mem_of_getElem? hx);obtain⟨a,c,rfl,hkid⟩:=cV hrk;have b1:(0:Int)≤(n:Int)∧(n:Int)<((ns.length:Nat):Int):=by omega
 have hnum:=hg.num;have hstr:=hg.str;clear hx hc hg hkid;refine C_in Tryz.func13 rfl rfl (by kernel_rfl) (aG rfl) ?_;simp only[↓zp,zw,↓reduceIte,aA,bE H.blk,b1,aF,hld];refine jU fun h4 hb4 E4 hs4=> ?_;have H4:=H.ext0 E4;have c0:bG h4 h.size 0=some (.int .i64 (x.kind:Int)):=by rw[bE hb4];rfl
 have c2:bG h4 h.size 2=some (.string ⟨x.str.toArray⟩):=by rw[bE hb4];rfl
 have c3:bG h4 h.size 3=some (.float .f64 x.num):=by rw[bE hb4];rfl
 have c5:bG h4 h.size 5=some (.int .i64 (x.pos:Int)):=by rw[bE hb4];rfl
 have d1:decide ((x.kind:Int)<1)=false:=bD (by omega);have d2:decide ((x.kind:Int)≥57)=false:=bD (by omega);have d3:decide ((x.pos:Int)<0)=false:=bD (by omega)
 have hev:(((x.str.length%2:Nat):Int)==1)=false:=by
  have:x.str.length%2=0:=by rcases hstr with⟨_,h⟩|⟨_,h⟩<;>simp[h]
  rw[this];rfl
 have hsq:(∃v,(x.str==[])=v∧(v=true∨((x.kind:Int) !=2)=false)):=by
  rcases hstr with⟨h,_⟩|⟨_,h⟩
  ·exact⟨_,rfl,.inr (by rw[h];rfl)⟩
  ·exact⟨true,by rw[h];rfl,.inl rfl⟩
 obtain⟨vs,hs1,hs2⟩:=hsq
 have hnf:((x.kind==1)=true∧binv .geq (.float .f64 x.num) (.float .f64 0)=some (.bool true))∨((x.kind==1)=false∧binv .neq (.float .f64 x.num) (.float .f64 0)=some (.bool false)):=by
  rcases hnum with⟨h1,h2⟩|⟨h1,h2⟩
  ·exact .inl ⟨by rw[h1];rfl,by show some (Value.bool _)=_;rw[ord_ge h2]⟩
  ·exact .inr ⟨by simpa using h1,by rw[h2];kernel_rfl⟩
 have hng:cC x.num:=by rcases hnum with⟨_,h⟩|⟨_,h⟩;exact h;rw[h];exact Nat.zero_le _
 have b2:(0:Int)≤(x.kind:Int)∧(x.kind:Int)<((57:Nat):Int):=by omega
 simp only[↓zp,zw,↓reduceIte,aA,c0,c2,c5,d1,d2,d3,tm2,hev,hs1];have g3:∀ρ':Env,True:=fun _=>trivial;obtain⟨r1,r2⟩:=rule_at (vl:=.slice (some ⟨b,0,none⟩) ns.length cap) hk56;have hmat:=hS.mat;have key:bG h4 ck (1+x.kind*2+1)=some (.string ⟨(pB x.kind).toArray⟩):=by rw[bE H4.blk];exact r2
 have hK:∀h',Ext [] h h'→C aE 26 #[.pointer (some ⟨ck,0,none⟩),.slice a x.kids.length c,.string ⟨(pB x.kind).toArray⟩] h' fun e h2=>e=.returned (.bool true)∧Ext [] h' h2:=by
  intro h' hE';have hrk4:=hrk.ext hE' (by simp);rcases hmat with⟨hk28,hA⟩|⟨hk28,hM⟩
  ·rw[show pB x.kind=[84] by rw[hk28];rfl];exact alt_k (H.ext0 hE') hA hrk4 (by omega)
  ·exact mat_k (H.ext0 hE') hM (fun e=>hk28 (rule84 _ (by omega) e)) hrk4
 clear hmat;rcases hs2 with rfl|hs2
 case' inr=>cases vs
 all_goals
  rcases hnf with⟨e1,hf⟩|⟨e1,hf⟩
 all_goals
  try(simp only[↓zp,zw,↓reduceIte,aA,hs2,c0,c2,c5,c3,kq1,e1,hf,knq1])
  try(simp only[↓zp,zw,↓reduceIte,aA,c0,c2,c5,c3,kq1,e1,hf,knq1])
  refine bK (mA hng) ?_;simp only[↓zp,zw,↓reduceIte,aA];refine dL [(0,true),(1,true),(2,false),(3,true),(4,true),(5,true),(6,true),(7,true),(8,true),(9,true),(10,true),(11,true),(12,true),(13,true),(14,true),(15,false),(16,true),(17,true),(18,true),(19,true),(20,false),(21,true),(22,true)] (fun h'=>Blk h' h.size (bM (x,.slice a x.kids.length c)) 35∧Blk h' ck (.slice (some ⟨b,0,none⟩) ns.length cap::ruleCells) 44) (by kernel_rfl) (by kernel_rfl) (by kernel_rfl) rfl ⟨hb4,H4.blk⟩ ?_
  iterate 2 refine Wo_t rfl rfl _ (.inl fun h' hS'=>by simp only[rdOp,↓zp,zw,↓reduceIte,aA,aH,aJ,aK,bQ hS'.1 (cU _)];rfl) ?_
  refine Wo_f rfl rfl ?_;simp only[↓zp,zw,↓reduceIte,aA];refine bH (text_k hG (hEI.trans E4) H4 hk56 htx htl) ?_;rintro _ h5 ⟨rfl,hE5⟩;simp only[↓zp,zw,↓reduceIte,aA];refine⟨⟨hb4.ext hE5 (by simp),H4.blk.ext hE5 (by simp)⟩,?_⟩;refine Wo_t rfl rfl _ (.inl fun h' hS'=>by simp only[rdOp,↓zp,zw,↓reduceIte,aA,aH,aJ,aK];rfl) ?_;have hb5:=hb4.ext hE5 (by simp);have hk5:=H4.blk.ext hE5 (by simp)
  iterate 11 refine fB rfl rfl (by simp only[↓zp,zw,↓reduceIte,aA,bM,List.getElem?_cons_zero,List.getElem?_cons_succ,b2,aF,r2]) _ (.inl fun h' hS'=>by simp only[rdOp,↓zp,zw,↓reduceIte,aA,aH,aJ,aK,bE hS'.1,bE hS'.2,bM,List.getElem?_cons_zero,List.getElem?_cons_succ,b2,aF,r2];rfl) ?_
  refine Wo_fg rfl rfl (by simp only[↓zp,zw,↓reduceIte,aA]) ?_;simp only[↓zp,zw,↓reduceIte,aA];refine bH (hK _ (E4.trans hE5)) ?_;rintro _ h6 ⟨rfl,hE6⟩;simp only[↓zp,zw,↓reduceIte,aA];have hb6:=hb5.ext hE6 (by simp);refine⟨⟨hb6,hk5.ext hE6 (by simp)⟩,?_⟩
  iterate 2 refine Wo_t rfl rfl _ (.inl fun h' hS'=>by simp only[rdOp,↓zp,zw,↓reduceIte,aA,aH,aJ,aK];rfl) ?_
  iterate 2 refine fB rfl rfl (by simp only[↓zp,zw,↓reduceIte,aA]) _ (.inl fun h' hS'=>by simp only[rdOp,↓zp,zw,↓reduceIte,aA,aH,aJ,aK,bQ hS'.1 (cU _)];rfl) ?_
  refine Wo_fg rfl rfl (by simp only[↓zp,zw,↓reduceIte,aA]) ?_;simp only[↓zp,zw,↓reduceIte,aA];refine bH (more_k (H.ext0 ((E4.trans hE5).trans hE6)) hS (hrk.ext ((E4.trans hE5).trans hE6) (by simp)) hfew) ?_;rintro _ h7 ⟨rfl,hE7⟩;simp only[↓zp,zw,↓reduceIte,aA];refine⟨⟨hb6.ext hE7 (by simp),(hk5.ext hE6 (by simp)).ext hE7 (by simp)⟩,?_⟩
  iterate 2 refine Wo_t rfl rfl _ (.inl fun h' hS'=>by simp only[rdOp,↓zp,zw,↓reduceIte,aA,aH,aJ,aK];rfl) ?_
  refine kU ?_;simp only[↓zp,zw,↓reduceIte,aA];exact⟨by trivial,((E4.trans hE5).trans hE6).trans hE7⟩
end
end
section
theorem WvT_of{ov:Option Value}{v:Value}{dst:Option Nat}{ρ:Env}{h:Heap}{k:Env→Heap→Prop}{tk:Tok (dst,ρ,h,k)}(e:ov=some v)(H:k (ρ.put dst v) h):WvT ov dst ρ h k tk:=by subst e;exact H
def zRules:List Value:=List.replicate 114 (.string ByteArray.empty)
theorem zRules_eq:fO aE 41=some zRules.toArray:=by kernel_rfl
theorem bpl40:bpl aE 40=some ([.string .empty,.string .empty],[(0,1),(1,1)]):=by kernel_rfl
theorem rules_one:one' ruleCells=true:=by kernel_rfl
section
variable{h:Heap}
theorem rules_k:C aE 10 #[] h fun e h'=>e=.returned (.agg ruleCells.toArray)∧Ext [] h h':=by
 have hE1:Ext [] h (h.push (.cells zRules.toArray 41)):=Ext.push _ _ _;have hb1:Blk (h.push (.cells zRules.toArray 41)) h.size zRules 41:=Blk.new;refine C_in Tryz.func10 rfl rfl (by kernel_rfl) (aG rfl) ?_;simp only[↓zp,zw,↓reduceIte,aA,zRules_eq];generalize h.push (.cells zRules.toArray 41)=h1 at hE1 hb1⊢;simp only[↓zp,zw,↓reduceIte,aA,bpl40];refine WvT_of (v:=.agg ruleCells.toArray) (by kernel_rfl) ?_;simp only[↓zp,zw,↓reduceIte,aA];refine cM (n:=114) hb1 (by kernel_rfl) (by kernel_rfl) (by simp[zRules]) rules_one fun h2 hb2 hE2 hs2=> ?_;have hb2:Blk h2 h.size ruleCells 41:=by simpa[zRules,show ruleCells.length=114 from by kernel_rfl]using hb2
 simp only[↓zp,zw,↓reduceIte,aA,bQ hb2 (show ruleCells.length=114 from by kernel_rfl)];exact⟨by trivial,hE1.trans_new hE2 fun y hy=> .inl (by simp at hy;omega)⟩
theorem near_k{b n k:Nat}(hb:bG h b 0=some (.int .i64 (n:Int)))(hk:k<n):C aE 12 #[.int .i64 (k:Int),.pointer (some ⟨b,0,none⟩)] h (Ret (.bool false) h):=by
 have d1:decide ((k:Int)<0)=false:=bD (by omega);have d2:decide ((k:Int)≥(n:Int))=false:=bD (by omega);refine C_in Tryz.func12 rfl rfl (by kernel_rfl) (aG rfl) ?_;simp only[↓zp,zw,↓reduceIte,aA,d1,d2,hb];exact⟨rfl,rfl⟩
theorem far_k{b n:Nat}(hb:bG h b 0=some (.int .i64 (n:Int))){v:Value}{l:List Nat}(hv:Row h v 3 1 (bL l))(hl:∀k,k∈l→k<n)(hsm:l.length≤1000000):
 C aE 23 #[v,.func (.func 12) #[] #[.pointer (some ⟨b,0,none⟩)]] h (Ret (.int .i64 (-1)) h):=by
 obtain⟨a,c,rfl,hkid⟩:=cV hv;refine C_in Tryz.func23 rfl rfl (by kernel_rfl) (aG rfl) ?_;simp only[↓zp,zw,↓reduceIte,aA];refine⟨fun m ρ h'=> ∃i:Nat,ρ 0=.slice a l.length c∧ρ 1=.func (.func 12) #[] #[.pointer (some ⟨b,0,none⟩)]∧ρ 7=.int .i64 ((l.length:Nat):Int)∧ρ 8=.int .i64 (i:Int)∧h'=h∧i≤l.length∧m=l.length-i,l.length,⟨0,by simp only[↓zp,zw,↓reduceIte,aA],by simp only[↓zp,zw,↓reduceIte,aA],by simp only[↓zp,zw,↓reduceIte,aA],by simp only[↓zp,zw,↓reduceIte,aA];rfl,rfl,by omega,rfl⟩,?_⟩;rintro m ρ h1 ⟨i,g0,g1,g7,g8,hh,hi,hm⟩;rw[hh];by_cases hlt:i<l.length
 ·have d1:decide ((i:Int)<((l.length:Nat):Int))=true:=bC (by omega);have b1:(0:Int)≤(i:Int)∧(i:Int)<((l.length:Nat):Int):=by omega
  have w1:=bI (a:=i) (by omega);obtain⟨bz,rfl,hcz⟩:=hkid i hlt;have hkn:=hl _ (List.getElem_mem hlt);generalize l[i]'hlt=q at hcz hkn;simp only[↓zp,zw,↓reduceIte,aA,g0,g1,g7,g8,d1,b1,aF,hcz];refine bK (near_k hb hkn) ?_;simp only[↓zp,zw,↓reduceIte,aA,g0,g1,g7,g8,w1];exact⟨l.length-(i+1),by omega,i+1,by trivial,by trivial,by trivial,by trivial,by trivial,by omega,rfl⟩
 ·have d1:decide ((i:Int)<((l.length:Nat):Int))=false:=bD (by omega);simp only[↓zp,zw,↓reduceIte,aA,g0,g1,g7,g8,d1];exact⟨by trivial,by trivial⟩
theorem none_k{b n:Nat}(hb:bG h b 0=some (.int .i64 (n:Int))){v:Value}{l:List Nat}(hv:Row h v 3 1 (bL l))(hl:∀k,k∈l→k<n)(hsm:l.length≤1000000):
 C aE 11 #[v,.func (.func 12) #[] #[.pointer (some ⟨b,0,none⟩)]] h (Ret (.bool false) h):=by
 refine C_in Tryz.func11 rfl rfl (by kernel_rfl) (aG rfl) ?_;simp only[↓zp,zw,↓reduceIte,aA];refine bK (far_k hb hv hl hsm) ?_;simp only[↓zp,zw,↓reduceIte,aA,show decide ((-1:Int)≥0)=false by decide];exact⟨rfl,rfl⟩
end
end
end Go.Proofs.YtfmbepijhnaklaaGreatDoor
