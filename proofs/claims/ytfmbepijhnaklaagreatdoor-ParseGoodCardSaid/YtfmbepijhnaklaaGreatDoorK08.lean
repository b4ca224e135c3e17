/- Proved here: strconv | strconv's decimal | strconv's decimal | strconv's decimal | strconv's decimal. Conditions: what each statement names. -/
import Derived.Test.YtfmbepijhnaklaaGreatDoorK07
import Derived.Test.YtfmbepijhnaklaaGreatDoorK03
set_option maxRecDepth 100000
set_option maxHeartbeats 4000000
set_option linter.unusedSimpArgs false
set_option linter.unusedVariables false
set_option linter.defProp false
open Nat renaming reduceEqDiff → aA, le_of_ble_eq_true → aG, mul_one → aP, zero_mul → aQ, zero_add → aR, reduceBEq → aY, reduceAdd → aZ, le_refl → bA
open List renaming length_cons → aB, length_append → aC, length_nil → aD, map_toArray → aH, map_cons → aJ, map_nil → aK, perm_iff_count → aM, count_append → aO, getElem?_eq_getElem → aS, count_cons → aT, count_nil → aV
open Go.Proofs.Tryz renaming prog → aE
open Int renaming toNat_natCast → aF, toNat_zero → aN, toNat_one → aX
open Bool renaming false_eq_true → aI, eq_iff_iff → aW
open And renaming intro → aL
open Go.IntWalk renaming i64_in → aU
namespace Go.Proofs.YtfmbepijhnaklaaGreatDoor
section
structure Gf(hI:Heap):Prop where
 errS:∃ev,bG hI 6 0=some ev∧(ev=.nilIface∨∃te pe,ev=.iface te pe)
 errR:∃ev,bG hI 7 0=some ev∧(ev=.nilIface∨∃te pe,ev=.iface te pe)
 opt:bG hI 9 0=some (.bool true)
 info:bG hI 10 0=some (.int .u64 52)∧bG hI 10 1=some (.int .u64 11)∧bG hI 10 2=some (.int .i64 (-1023))
 ten:∃b o c,bG hI 14 0=some (.slice (some ⟨b,o,none⟩) 23 c)∧∀i,i<23→∃y,bG hI b (o+i*1)=some (.float .f64 y)∧0<y∧y<0x7FF0000000000000
 scale:∀i,i<696→∃a b:Nat,bG hI 15 (i*2)=some (.int .u64 (a:Int))∧a<18446744073709551616∧bG hI 15 (i*2+1)=some (.int .u64 (b:Int))∧b<18446744073709551616
 pow:∃b o c,bG hI 13 0=some (.slice (some ⟨b,o,none⟩) 9 c)∧∀i,i<9→∃y:Nat,bG hI b (o+i*1)=some (.int .i64 (y:Int))∧1≤y∧y≤27
 cheat:∃b o c,bG hI 18 0=some (.slice (some ⟨b,o,none⟩) 61 c)∧∀i x,Pinned.cheatRows[i]? =some x→bG hI b (o+i*2)=some (.int .i64 (x.1:Int))∧bG hI b (o+i*2+1)=some (.string ⟨x.2.toArray⟩)
theorem nI(n:Nat):BitVec.ofInt 64 (n:Int)=BitVec.ofNat 64 n:=by
 apply BitVec.eq_of_toNat_eq;simp
theorem fG{n:Nat}(h:n<18446744073709551616):IntKind.u64.wrap (n:Int)=(n:Int):=IntWalk.u64_in _ (by omega)
theorem jT{a b:Nat}(ha:a<18446744073709551616)(hb:b<18446744073709551616):band .u64 (a:Int) (b:Int)=((a&&&b:Nat):Int):=by
 show IntKind.u64.wrap (((BitVec.ofInt 64 (a:Int))&&&(BitVec.ofInt 64 (b:Int))).toNat:Int)=_;rw[nI,nI,BitVec.toNat_and,BitVec.toNat_ofNat,BitVec.toNat_ofNat,Nat.mod_eq_of_lt ha,Nat.mod_eq_of_lt hb,fG];exact Nat.lt_of_le_of_lt Nat.and_le_left ha
theorem kZ{a b:Nat}(ha:a<18446744073709551616)(hb:b<18446744073709551616):bor .u64 (a:Int) (b:Int)=((a|||b:Nat):Int):=by
 show IntKind.u64.wrap (((BitVec.ofInt 64 (a:Int))|||(BitVec.ofInt 64 (b:Int))).toNat:Int)=_;rw[nI,nI,BitVec.toNat_or,BitVec.toNat_ofNat,BitVec.toNat_ofNat,Nat.mod_eq_of_lt ha,Nat.mod_eq_of_lt hb,fG];exact Nat.or_lt_two_pow (n:=64) ha hb
theorem kX{a n:Nat}(hn:n≤64):((a:Int)).fdiv (2^min n IntKind.u64.bits)=((a/2^n:Nat):Int):=by
 rw[show min n IntKind.u64.bits=n from Nat.min_eq_left hn];rw[Int.fdiv_eq_ediv_of_nonneg _ (by exact Int.le_of_lt (Int.pow_pos (by decide)))];simp
theorem lU{a b:Nat}(ha:a<18446744073709551616):∃r:Nat,binv .andNot (.int .u64 (a:Int)) (.int .u64 (b:Int))=some (.int .u64 (r:Int))∧r=(a&&&(BitVec.not (BitVec.ofInt 64 (b:Int))).toNat):=by
 refine⟨_,?_,rfl⟩;show some (Value.int .u64 (IntKind.u64.wrap (((BitVec.ofInt 64 (a:Int))&&& ~~~(BitVec.ofInt 64 (b:Int))).toNat:Int)))=_;rw[BitVec.toNat_and,nI a,BitVec.toNat_ofNat,Nat.mod_eq_of_lt ha,fG]
 ·rfl
 ·exact Nat.lt_of_le_of_lt Nat.and_le_left ha
theorem lW(a k:Nat):a&&&(2^k-1)=a%2^k:=Nat.and_two_pow_sub_one_eq_mod a k
theorem vI{a b k:Nat}(ha:a<2^k):a|||(b*2^k)=a+b*2^k:=by
 have:=Nat.two_pow_add_eq_or_of_lt ha b;rw[Nat.or_comm,Nat.add_comm,Nat.mul_comm b];exact this.symm
theorem xZ(u:Nat):u|||(u&&&1)=u:=by
 apply Nat.eq_of_testBit_eq;intro i;rw[Nat.testBit_or,Nat.testBit_and];cases u.testBit i<;>simp
theorem jK(u:Nat):u&&&1≤1:=Nat.and_le_right
theorem tL(n:Nat):∃x,FloatKind.f64.nearest (n:Int)=x∧cC x:=by
 refine⟨_,rfl,?_⟩;have d:decide ((n:Int)<0)=false:=bD (by omega);show Ieee.double.write (.number (decide ((n:Int)<0)) (n:Int).natAbs 0)≤_;rw[d];exact kO _ _
theorem hY{x y r:Nat}(h:Ieee.double.mul x y=some r):binv .mul (.float .f64 x) (.float .f64 y)=some (.float .f64 r):=by
 show(if FloatKind.f64=FloatKind.f64 then(Ieee.double.mul x y).map (Value.float .f64 ·)else none)=_;rw[if_pos rfl,h];rfl
theorem binv_divF{x y r:Nat}(h:Ieee.double.div x y=some r):binv .quo (.float .f64 x) (.float .f64 y)=some (.float .f64 r):=by
 show(if FloatKind.f64=FloatKind.f64 then(Ieee.double.div x y).map (Value.float .f64 ·)else none)=_;rw[if_pos rfl,h];rfl
theorem gA{x y:Nat}:(∃b,binv .gtr (.float .f64 x) (.float .f64 y)=some (.bool b))∧(∃b,binv .lss (.float .f64 x) (.float .f64 y)=some (.bool b))∧(∃b,binv .eql (.float .f64 x) (.float .f64 y)=some (.bool b))∧(∃b,binv .neq (.float .f64 x) (.float .f64 y)=some (.bool b)):=
 ⟨⟨_,rfl⟩,⟨_,rfl⟩,⟨_,rfl⟩,⟨_,rfl⟩⟩
theorem Gf.tenAt{hI h:Heap}(hG:Gf hI)(hE:Ext [] hI h):∃b o c,bG h 14 0=some (.slice (some ⟨b,o,none⟩) 23 c)∧∀i,i<23→∃y,bG h b (o+i*1)=some (.float .f64 y)∧0<y∧y<0x7FF0000000000000:=by
 obtain⟨b,o,c,h1,h2⟩:=hG.ten;refine⟨b,o,c,hE.cell h1 (by simp),fun i hi=> ?_⟩;obtain⟨y,h3,h4⟩:=h2 i hi;exact⟨y,hE.cell h3 (by simp),h4⟩
theorem e32:einf aE 32 1=true:=by kernel_rfl
section
variable{hI h:Heap}
theorem exact_c(hG:Gf hI)(hE:Ext [] hI h)(m:Nat)(hm:m<18446744073709551616)(p:Int)(hp: -345≤p∧p≤310):
 C aE 242 #[.int .u64 (m:Int),.int .i64 p,.bool false] h fun e h'=>(∃(v:Nat) (ok:Bool),e=.returned (.tuple #[.float .f64 v,.bool ok])∧(ok=true→cC v))∧h'=h:=by
 have c10:=hE.cell hG.info.1 (by simp);obtain⟨b,o,c,c14,hten⟩:=hG.tenAt hE;have sh:=kX (a:=m) (n:=52) (by omega);obtain⟨x,hx,gx⟩:=tL m;refine C_in Tryz.func242 rfl rfl (by kernel_rfl) (aG rfl) ?_;simp only[↓zp,zw,aA,c10,dB (b:=52) 52 rfl,sh]
 cases hz:(((m/2^52:Nat):Int) !=0)with
 |true=>
  simp only[↓zp,zw,aA,hz]
  exact⟨⟨0,false,(by trivial),fun h=>by cases h⟩,(by trivial)⟩
 |false=>
  simp only[↓zp,zw,aA,hz,hx]
  cases p0:(p==0)with
  |true=>
   simp only[↓zp,zw,aA,p0]
   exact⟨⟨x,true,(by trivial),fun _=>gx⟩,(by trivial)⟩
  |false=>
   have hp0:p≠0:=fun e=>by rw[e]at p0;cases p0
   by_cases h1:0<p
   ·have d1:decide (p>0)=true:=bC h1;by_cases h2:p≤37
    ·have d2:decide (p≤37)=true:=bC h2;by_cases h3:22<p
     ·have d3:decide (p>22)=true:=bC h3;obtain⟨i,hi⟩:=Int.eq_ofNat_of_zero_le (show 0≤p-22 by omega);have w1:IntKind.i64.wrap (p-22)=(i:Int):=by rw[aU _ (by omega),hi]
      obtain⟨y,cy,y0,y1⟩:=hten i (by omega);obtain⟨y2,cy2,y20,y21⟩:=hten 22 (by omega);have b1:(0:Int)≤(i:Int)∧(i:Int)<((23:Nat):Int):=by omega
      have b2:(0:Int)≤(22:Int)∧(22:Int)<((23:Nat):Int):=by omega
      obtain⟨r,hr,gr⟩:=lL gx y1 y0;obtain⟨r2,hr2,gr2⟩:=lL gr y21 y20;obtain⟨q1,hq1⟩:=(gA (x:=r) (y:=4831355200913801216)).1;obtain⟨q2,hq2⟩:=(gA (x:=r) (y:=14054727237768577024)).2.1;have t22:(22:Int).toNat=22:=rfl
      cases q1 with
      |true=>
       simp only[↓zp,zw,aA,d1,d2,d3,c14,w1,b1,e32,aF,cy,hY hr,hq1]
       exact⟨⟨r,false,(by trivial),fun h=>by cases h⟩,(by trivial)⟩
      |false=>
       cases q2 with
       |true=>
        simp only[↓zp,zw,aA,d1,d2,d3,c14,w1,b1,e32,aF,cy,hY hr,hq1,hq2]
        exact⟨⟨r,false,(by trivial),fun h=>by cases h⟩,(by trivial)⟩
       |false=>
        simp only[↓zp,zw,aA,d1,d2,d3,c14,w1,b1,b2,e32,aF,t22,cy,cy2,hY hr,hY hr2,hq1,hq2];exact⟨⟨r2,true,(by trivial),fun _=>gr2⟩,(by trivial)⟩
     ·have d3:decide (p>22)=false:=bD h3;obtain⟨i,rfl⟩:=Int.eq_ofNat_of_zero_le (show 0≤p by omega);obtain⟨y,cy,y0,y1⟩:=hten i (by omega);have b1:(0:Int)≤(i:Int)∧(i:Int)<((23:Nat):Int):=by omega
      obtain⟨r,hr,gr⟩:=lL gx y1 y0;obtain⟨q1,hq1⟩:=(gA (x:=x) (y:=4831355200913801216)).1;obtain⟨q2,hq2⟩:=(gA (x:=x) (y:=14054727237768577024)).2.1
      cases q1 with
      |true=>
       simp only[↓zp,zw,aA,d1,d2,d3,hq1]
       exact⟨⟨x,false,(by trivial),fun h=>by cases h⟩,(by trivial)⟩
      |false=>
       cases q2 with
       |true=>
        simp only[↓zp,zw,aA,d1,d2,d3,hq1,hq2]
        exact⟨⟨x,false,(by trivial),fun h=>by cases h⟩,(by trivial)⟩
       |false=>
        simp only[↓zp,zw,aA,d1,d2,d3,c14,b1,e32,aF,cy,hY hr,hq1,hq2];exact⟨⟨r,true,(by trivial),fun _=>gr⟩,(by trivial)⟩
    ·have d2:decide (p≤37)=false:=bD h2;have d4:decide (p<0)=false:=bD (by omega);simp only[↓zp,zw,aA,d1,d2,d4];exact⟨⟨x,false,(by trivial),fun h=>by cases h⟩,(by trivial)⟩
   ·have d1:decide (p>0)=false:=bD h1;have d4:decide (p<0)=true:=bC (by omega);by_cases h2: -22≤p
    ·have d5:decide (p≥ -22)=true:=bC h2;obtain⟨i,hi⟩:=Int.eq_ofNat_of_zero_le (show 0≤0-p by omega);have w1:IntKind.i64.wrap (0-p)=(i:Int):=by rw[aU _ (by omega),hi]
     obtain⟨y,cy,y0,y1⟩:=hten i (by omega);have b1:(0:Int)≤(i:Int)∧(i:Int)<((23:Nat):Int):=by omega
     obtain⟨r,hr,gr⟩:=div_good gx y1 y0;simp only[↓zp,zw,aA,d1,d4,d5,c14,w1,b1,e32,aF,cy,binv_divF hr];exact⟨⟨r,true,(by trivial),fun _=>gr⟩,(by trivial)⟩
    ·have d5:decide (p≥ -22)=false:=bD h2;simp only[↓zp,zw,aA,d1,d4,d5];exact⟨⟨x,false,(by trivial),fun h=>by cases h⟩,(by trivial)⟩
theorem wH(b:Bool):C aE 240 #[.bool b] h (Ret (.int .u64 (if b then 1 else 0)) h):=by
 refine C_in Tryz.func240 rfl rfl (by kernel_rfl) (aG rfl) ?_;cases b<;>simp only[↓zp,zw,aA]<;>first|trivial|exact⟨rfl,rfl⟩|exact⟨trivial,rfl⟩
theorem yU(b:Bool):C aE 246 #[.bool b] h (Ret (.int .i64 (if b then 1 else 0)) h):=by
 refine C_in Tryz.func246 rfl rfl (by kernel_rfl) (aG rfl) ?_;cases b<;>simp only[↓zp,zw,aA]<;>first|trivial|exact⟨rfl,rfl⟩|exact⟨trivial,rfl⟩
theorem log2_c(p:Int)(hp: -345≤p∧p≤310):C aE 256 #[.int .i64 p] h fun e h'=>(∃lp:Int,e=.returned (.int .i64 lp)∧ -1200≤lp∧lp≤1200)∧h'=h:=by
 have w1:IntKind.i64.wrap (p*108853)=p*108853:=aU _ (by omega)
 have e1:(p*108853).fdiv (2^min 15 IntKind.i64.bits)=p*108853/32768:=by
  rw[show((2:Int)^min 15 IntKind.i64.bits)=32768 from rfl];exact Int.fdiv_eq_ediv_of_nonneg _ (by decide)
 refine C_in Tryz.func256 rfl rfl (by kernel_rfl) (aG rfl) ?_;simp only[↓zp,zw,aA,w1,dB (b:=15) 15 rfl,e1];exact⟨⟨_,(by trivial),by omega,by omega⟩,(by trivial)⟩
theorem unmin_c:C aE 259 #[.int .u64 9007199254740992] h (Ret (.int .u64 36028797018963966) h):=by
 have e1:IntKind.u64.wrap (9007199254740992*2^min 2 IntKind.u64.bits)=36028797018963968:=by decide
 have e2:IntKind.u64.wrap (36028797018963968-2)=36028797018963966:=by decide
 refine C_in Tryz.func259 rfl rfl (by kernel_rfl) (aG rfl) ?_;simp only[↓zp,zw,aA,dG (b:=2) 2 rfl,e1,e2]
 first|trivial|exact⟨rfl,rfl⟩|exact⟨trivial,rfl⟩
theorem round_c(u:Nat)(hu:u<2^56):C aE 261 #[.int .u64 (u:Int)] h fun e h'=>(∃r:Nat,e=.returned (.int .u64 (r:Int))∧r=(u+1+(u/2^2&&&1))/2^2)∧h'=h:=by
 have h1:=jK (u/2^2);have w1:IntKind.u64.wrap ((u:Int)+1)=((u+1:Nat):Int):=by rw[IntWalk.u64_in _ (by omega)];simp
 have s1:=kX (a:=u) (n:=2) (by omega);have b1:band .u64 ((u/2^2:Nat):Int) 1=((u/2^2&&&1:Nat):Int):=jT (b:=1) (by omega) (by omega);have w2:IntKind.u64.wrap (((u+1:Nat):Int)+((u/2^2&&&1:Nat):Int))=((u+1+(u/2^2&&&1):Nat):Int):=by rw[IntWalk.u64_in _ (by omega)];simp
 have s2:=kX (a:=u+1+(u/2^2&&&1)) (n:=2) (by omega);refine C_in Tryz.func261 rfl rfl (by kernel_rfl) (aG rfl) ?_;simp only[↓zp,zw,aA,w1,dB (b:=2) 2 rfl,s1,b1,w2,s2];exact⟨⟨_,(by trivial),(by trivial)⟩,(by trivial)⟩
def errV(er:Value):Prop:=er=.nilIface∨er=.iface 207 (.int .i64 1)
theorem pack_c(m:Nat)(hm:m≤9007199254740992)(ex:Int)(he: -1074≤ex∧ex≤10000):C aE 264 #[.int .u64 (m:Int),.int .i64 ex] h fun e h'=>(∃(v:Nat) (er:Value),e=.returned (.tuple #[.float .f64 v,er])∧cC v∧errV er)∧h'=h:=by
 have b1:band .u64 (m:Int) 4503599627370496=((m&&&4503599627370496:Nat):Int):=jT (b:=4503599627370496) (by omega) (by omega);have hm64:m<18446744073709551616:=by omega
 refine C_in Tryz.func264 rfl rfl (by kernel_rfl) (aG rfl) ?_;simp only[↓zp,zw,aA,b1]
 cases hz:(((m&&&4503599627370496:Nat):Int)==0)with
 |true=>
  simp only[↓zp,zw,aA];refine lY ?_;simp only[↓zp,zw,aA]
  exact⟨⟨m,.nilIface,(by trivial),by unfold cC;omega,.inl (by trivial)⟩,(by trivial)⟩
 |false=>
  have hbit:m&&&4503599627370496≠0:=fun e=>by rw[e]at hz;cases hz
  have hlt:m<9007199254740992:=by
   rcases Nat.lt_or_ge m 9007199254740992 with h|h
   ·exact h
   ·have:m=9007199254740992:=by omega
    subst this;exact absurd (by decide) hbit
  have hge:4503599627370496≤m:=by
   rcases Nat.lt_or_ge m 4503599627370496 with h|h
   ·have:=Nat.and_two_pow_sub_one_of_lt_two_pow (n:=52) h;refine absurd ?_ hbit;have e:=Nat.testBit_lt_two_pow (i:=52) (x:=m) h;apply Nat.eq_of_testBit_eq;intro i;rw[Nat.testBit_and,show(4503599627370496:Nat)=2^52 from rfl,Nat.testBit_two_pow];by_cases hi:52=i
    ·subst hi;rw[e];simp
    ·simp[hi]
   ·exact h
  by_cases h972:ex≥972
  ·have d1:decide (ex≥972)=true:=bC h972
   have b2:band .u64 (m:Int) 9223372036854775808=((0:Nat):Int):=by
    rw[show((9223372036854775808:Int))=((9223372036854775808:Nat):Int)from rfl,jT hm64 (by omega)]
    congr 1
    apply Nat.eq_of_testBit_eq;intro i;rw[Nat.testBit_and,show(9223372036854775808:Nat)=2^63 from rfl,Nat.testBit_two_pow];by_cases hi:63=i
    ·subst hi;rw[Nat.testBit_lt_two_pow (by omega)];simp
    ·simp[hi]
   have b3:bor .u64 ((0:Nat):Int) 9218868437227405312=((9218868437227405312:Nat):Int):=by decide
   simp only[↓zp,zw,aA,d1,b2,b3];refine lY ?_;simp only[↓zp,zw,aA];exact⟨⟨_,_,(by trivial),by unfold cC;omega,.inr (by trivial)⟩,(by trivial)⟩
  ·have d1:decide (ex≥972)=false:=bD h972;obtain⟨r,hr,er⟩:=lU (a:=m) (b:=4503599627370496) hm64
   have hr2:r=m-4503599627370496:=by
    rw[er,show(BitVec.not (BitVec.ofInt 64 ((4503599627370496:Nat):Int))).toNat=18442240474082181119 by decide]
    have hs:m=(m-4503599627370496)|||2^52:=by
     have:=vI (a:=m-4503599627370496) (b:=1) (k:=52) (by omega);rw[Nat.one_mul]at this;rw[this];omega
    have hlow:(m-4503599627370496).testBit 52=false:=Nat.testBit_lt_two_pow (by omega);have hq:m-4503599627370496<4503599627370496:=by omega
    generalize m-4503599627370496=q at*;subst hs;apply Nat.eq_of_testBit_eq;intro i;rw[Nat.testBit_and,Nat.testBit_or,Nat.testBit_two_pow];have hc:(18442240474082181119:Nat)=2^64-(2^52+1):=rfl;rw[hc,Nat.testBit_two_pow_sub_succ (by decide),Nat.testBit_two_pow];by_cases hi:52=i
    ·subst hi;rw[hlow];simp
    ·simp only[hi,decide_false,Bool.or_false,Bool.not_false,Bool.and_true];by_cases h64:i<64
     ·simp[h64]
     ·simp only[h64,decide_false,Bool.false_and,Bool.and_false];exact(Nat.testBit_lt_two_pow (Nat.lt_of_lt_of_le (show q<2^53 by omega) (Nat.pow_le_pow_right (by decide) (by omega)))).symm
   obtain⟨k,hk⟩:=Int.eq_ofNat_of_zero_le (show 0≤1075+ex by omega);have w1:IntKind.i64.wrap (1075+ex)=(k:Int):=by rw[aU _ (by omega),hk]
   have w2:=fG (n:=k) (by omega)
   have w3:IntKind.u64.wrap ((k:Int)*2^min 52 IntKind.u64.bits)=((k*2^52:Nat):Int):=by
    rw[show((2:Int)^min 52 IntKind.u64.bits)=((2^52:Nat):Int)from rfl,←Int.natCast_mul,fG (by omega)]
   have w4:bor .u64 (r:Int) ((k*2^52:Nat):Int)=((r+k*2^52:Nat):Int):=by
    rw[kZ (by omega) (by omega),vI (by omega)]
   have hr':binv .andNot (.int .u64 (m:Int)) (.int .u64 4503599627370496)=some (.int .u64 (r:Int)):=hr;simp only[↓zp,zw,aA,d1,hr',w1,w2,dG (b:=52) 52 rfl,w3,w4];refine lY ?_;simp only[↓zp,zw,aA];exact⟨⟨_,_,(by trivial),by unfold cC;omega,.inl (by trivial)⟩,(by trivial)⟩
def ScV(a b:Nat)(s:Int):List Value:=[.int .u64 (a:Int),.int .u64 (b:Int),.int .i64 s]
theorem prescale_c(hG:Gf hI)(hE:Ext [] hI h){bk:Nat}{l:List Value}(hb:Blk h bk l 264)(hl:l.length=3)(hn:hI.size≤bk)(e p lp:Int)(hp: -345≤p∧p≤310)(he: -100000≤e∧e≤100000)(hlp: -1200≤lp∧lp≤1200):
 C aE 257 #[.pointer (some ⟨bk,0,none⟩),.int .i64 e,.int .i64 p,.int .i64 lp] h fun en h'=>en=.returned (.tuple #[])∧(∃a b:Nat,Blk h' bk (ScV a b (-(e+lp+3))) 264∧a<18446744073709551616∧b<18446744073709551616)∧Ext [bk] h h':=by
 obtain⟨i,hi⟩:=Int.eq_ofNat_of_zero_le (show 0≤p- -348 by omega);have w1:IntKind.i64.wrap (p- -348)=(i:Int):=by rw[aU _ (by omega),hi]
 obtain⟨A,B,hA,hA2,hB,hB2⟩:=hG.scale i (by omega);have b1:(0:Int)≤(i:Int)∧(i:Int)<((696:Nat):Int):=by omega
 have lt15:15<hI.size:=kC hA;have cA:=hE.cell hA (by simp);have cB:=hE.cell hB (by simp)
 match l,hl with
 |[v0,v1,v2],_=>
 have w2:IntKind.i64.wrap (e+lp)=e+lp:=aU _ (by omega);have w3:IntKind.i64.wrap (e+lp+3)=e+lp+3:=aU _ (by omega);have w4:IntKind.i64.wrap (0-(e+lp+3))= -(e+lp+3):=by rw[aU _ (by omega)];omega
 refine C_in Tryz.func257 rfl rfl (by kernel_rfl) (aG rfl) ?_;simp only[↓zp,zw,aA,w1,b1,aF,cA];refine bS hb (by kernel_rfl) (by simp) rfl fun h1 hb1 hE1 hs1=> ?_;have cB1:=hE1.cell cB (by simp;omega);simp only[↓zp,zw,aA,w1,b1,aF,cB1];refine bS hb1 (by kernel_rfl) (by simp) rfl fun h2 hb2 hE2 hs2=> ?_;simp only[↓zp,zw,aA,w2,w3,w4];refine bS hb2 (by kernel_rfl) (by simp) rfl fun h3 hb3 hE3 hs3=> ?_;simp only[↓zp,zw,aA];exact⟨rfl,⟨A,B,hb3,hA2,hB2⟩,(hE1.trans hE2).trans hE3⟩
theorem uscale_c{bk a b s:Nat}(hb:Blk h bk (ScV a b (s:Int)) 264)(ha:a<18446744073709551616)(hb2:b<18446744073709551616)(hs:8≤s∧s<64)(x:Nat)(hx:x<18446744073709551616):
 C aE 258 #[.int .u64 (x:Int),.pointer (some ⟨bk,0,none⟩)] h fun en h'=>(∃u:Nat,en=.returned (.int .u64 (u:Int))∧u<72057594037927936)∧h'=h:=by
 have c0:bG h bk 0=some (.int .u64 (a:Int)):=by rw[bE hb];rfl
 have c1:bG h bk 1=some (.int .u64 (b:Int)):=by rw[bE hb];rfl
 have c2:bG h bk 2=some (.int .i64 (s:Int)):=by rw[bE hb];rfl
 have m63:band .i64 (s:Int) 63=(s:Int):=by
  have:∀n:Fin 64,band .i64 ((n.val:Nat):Int) 63=((n.val:Nat):Int):=by decide
  exact this ⟨s,hs.2⟩
 have big:∀y:Nat,y<18446744073709551616→y/2^s<72057594037927936:=fun y hy=>by
  have h1:2^8≤2^s:=Nat.pow_le_pow_right (by decide) hs.1;have h2:y/2^s≤y/2^8:=Nat.div_le_div_left h1 (by decide);omega
 obtain⟨hi,hhi⟩:∃q,x*a/18446744073709551616=q:=⟨_,rfl⟩;obtain⟨mid,hmid⟩:∃q,x*a%18446744073709551616=q:=⟨_,rfl⟩
 have hi1:hi<18446744073709551616:=by
  rw[←hhi,Nat.div_lt_iff_lt_mul (by decide)];exact Nat.lt_of_le_of_lt (Nat.mul_le_mul_left _ (Nat.le_of_lt ha)) (Nat.mul_lt_mul_of_pos_right hx (by decide))
 have mid1:mid<18446744073709551616:=by rw[←hmid];exact Nat.mod_lt _ (by decide)
 have sh:=kX (a:=hi) (n:=s) (by omega);obtain⟨q1,e1,l1⟩:=fE (((hi/2^s:Nat):Int)*2^min s IntKind.u64.bits);have o1:=kZ (a:=hi/2^s) (b:=1) (by have:=big hi hi1;omega) (by omega);have o2:hi/2^s|||1<72057594037927936:=Nat.or_lt_two_pow (n:=56) (big hi hi1) (by decide);have o1':bor .u64 ((hi/2^s:Nat):Int) 1=((hi/2^s|||1:Nat):Int):=o1;refine C_in Tryz.func258 rfl rfl (by kernel_rfl) (aG rfl) ?_;simp only[↓zp,zw,aA,c0];refine bK (vM x a hx ha) ?_;rw[hhi,hmid]
 cases hne:((q1:Int) !=(hi:Int))with
 |true=>
  simp only[↓zp,zw,aA,c2,m63,dB (b:=(s:Int)) s rfl,sh,dG (b:=(s:Int)) s rfl,e1,hne,o1']
  exact⟨⟨_,(by trivial),o2⟩,(by trivial)⟩
 |false=>
  obtain⟨mid2,hmid2⟩:∃q,x*b/18446744073709551616=q:=⟨_,rfl⟩;simp only[↓zp,zw,aA,c2,c1,m63,dB (b:=(s:Int)) s rfl,sh,dG (b:=(s:Int)) s rfl,e1,hne];refine bK (vM x b hx hb2) ?_;rw[hmid2];simp only[↓zp,zw,aA];refine bK (wH _) ?_;obtain⟨hi2,e2,l2⟩:=fE ((hi:Int)-(if decide ((mid:Int)<(mid2:Int))=true then 1 else 0));obtain⟨df,e3,l3⟩:=fE ((mid:Int)-(mid2:Int));have sh2:=kX (a:=hi2) (n:=s) (by omega);simp only[↓zp,zw,aA,e2];refine dL [(0,true),(1,true),(2,true),(3,true),(4,true),(5,true),(6,true),(7,true),(8,true),(9,true)] (fun h'=>h'=h) (by kernel_rfl) (by kernel_rfl) (by kernel_rfl) rfl rfl ?_
  iterate 7 refine Wo_t rfl rfl _ (.inl fun h' hS'=>by simp only[rdOp,↓zp,zw,aA,aH,aJ,aK,dB (b:=(s:Int)) s rfl,sh2,e3];rfl) ?_
  refine Wo_t rfl rfl _ (.inr ⟨_,_,_,240,#[],#[],rfl,rfl,by kernel_rfl,fun h1 hS1=>by simp only[aH,aJ,aK];simp only[↓zp,zw,aA];exact wH _⟩) ?_
  have key:∃u:Nat,bor .u64 ((hi2/2^s:Nat):Int) (if decide ((df:Int)>1)=true then 1 else 0)=(u:Int)∧u<72057594037927936:=by
   cases decide ((df:Int)>1)with
   |true=>exact⟨_,kZ (b:=1) (by have:=big hi2 l2;omega) (by omega),Nat.or_lt_two_pow (n:=56) (big hi2 l2) (by decide)⟩
   |false=>exact⟨_,kZ (b:=0) (by have:=big hi2 l2;omega) (by omega),Nat.or_lt_two_pow (n:=56) (big hi2 l2) (by decide)⟩
  obtain⟨u,eu,lu⟩:=key
  iterate 2 refine Wo_t rfl rfl _ (.inl fun h' hS'=>by simp only[rdOp,↓zp,zw,aA,aH,aJ,aK,eu];rfl) ?_
  simp only[↓zp,zw,aA];exact⟨⟨u,(by trivial),lu⟩,(by trivial)⟩
end
end
section
def DB(h:Heap)(b:Nat)(L:List UInt8)(nd:Nat)(dp:Int)(ng tr:Bool):Prop:=
 Blk h b (bv L++[.int .i64 (nd:Int),.int .i64 dp,.bool ng,.bool tr]) 246∧L.length=800
def kA(c:UInt8):Prop:=48≤c.toNat∧c.toNat≤57
def Dg(L:List UInt8)(n:Nat):Prop:=∀j,j<n→kA (L.getD j 0)
theorem get_of{L:List UInt8}{j:Nat}(h:j<L.length):L[j]? =some (L.getD j 0):=by rw[List.getD_eq_getElem?_getD,aS h];rfl
theorem gE{L:List UInt8}{i j:Nat}{c:UInt8}:(L.set i c).getD j 0=if i=j∧j<L.length then c else L.getD j 0:=by
 rw[List.getD_eq_getElem?_getD,List.getD_eq_getElem?_getD,List.getElem?_set];by_cases h:i=j
 ·subst h;by_cases h2:i<L.length
  ·simp[h2]
  ·simp[h2]
 ·simp[h]
theorem Dg.snoc{L:List UInt8}{n:Nat}{c:UInt8}(h:Dg L n)(hc:kA c)(hn:n<L.length):Dg (L.set n c) (n+1):=fun j hj=>by
 rw[gE];split
 ·exact hc
 ·rename_i hne;exact h j (by omega)
theorem Dg.le{L:List UInt8}{n m:Nat}(h:Dg L n)(hm:m≤n):Dg L m:=fun j hj=>h j (by omega)
section
variable{h:Heap}{b:Nat}{L:List UInt8}{nd:Nat}{dp:Int}{ng tr:Bool}
theorem DB.at(H:DB h b L nd dp ng tr){j:Nat}(hj:j<800):bG h b j=some (.int .u8 ((L.getD j 0).toNat:Int)):=by
 have hl:=H.2;rw[bE H.1,List.getElem?_append_left (by rw[jS];omega)];unfold bv;rw[List.getElem?_map,get_of (by omega)];rfl
theorem DB.tail(H:DB h b L nd dp ng tr):bG h b 800=some (.int .i64 (nd:Int))∧bG h b 801=some (.int .i64 dp)∧bG h b 802=some (.bool ng)∧bG h b 803=some (.bool tr):=by
 have hl:(bv L).length=800:=by rw[jS];exact H.2
 have e:∀i,bG h b (800+i)=[Value.int .i64 (nd:Int),.int .i64 dp,.bool ng,.bool tr][i]?:=fun i=>by
  rw[bE H.1,List.getElem?_append_right (by omega),hl,Nat.add_sub_cancel_left]
 exact⟨e 0,e 1,e 2,e 3⟩
section
variable{dst:Option Nat}{ρ:Env}{k:Env→Heap→Prop}{tk:Tok (dst,ρ,k)}
theorem mU(H:DB h b L nd dp ng tr){j:Nat}(hj:j<800)(c:UInt8)(K:∀h',DB h' b (L.set j c) nd dp ng tr→Ext [b] h h'→h'.size=h.size→k (ρ.put dst undef) h'):WstT aE 5 (.pointer (some ⟨b,j,none⟩)) (.int .u8 (c.toNat:Int)) dst ρ h k tk:=by
 have hl:=H.2;refine bS H.1 (by kernel_rfl) (by simp[jS];omega) rfl fun h' hb hE hs=>K h' ⟨?_,by simpa using hl⟩ hE hs;rw[List.set_append_left _ _ (by rw[jS];omega)]at hb;have:(bv L).set j (.int .u8 (c.toNat:Int))=bv (L.set j c):=by unfold bv;rw[List.map_set]
 rw[←this];exact hb
theorem oG(H:DB h b L nd dp ng tr){ty i:Nat}{v:Value}(hs:szOf aE ty=some (false,1))(h1:v.oneCell'=true)(hi:i<4)(K:∀h',Blk h' b (bv L++([Value.int .i64 (nd:Int),.int .i64 dp,.bool ng,.bool tr].set i v)) 246→Ext [b] h h'→h'.size=h.size→k (ρ.put dst undef) h'):WstT aE ty (.pointer (some ⟨b,800+i,none⟩)) v dst ρ h k tk:=by
 have hl:(bv L).length=800:=by rw[jS];exact H.2
 refine bS H.1 hs (by simp[hl];omega) h1 fun h' hb hE hs=>K h' ?_ hE hs;rw[List.set_append_right _ _ (by omega),hl,Nat.add_sub_cancel_left]at hb;exact hb
theorem mS(H:DB h b L nd dp ng tr)(n:Nat)(K:∀h',DB h' b L n dp ng tr→Ext [b] h h'→h'.size=h.size→k (ρ.put dst undef) h'):WstT aE 3 (.pointer (some ⟨b,800,none⟩)) (.int .i64 (n:Int)) dst ρ h k tk:=
 oG (i:=0) H (by kernel_rfl) rfl (by omega) fun h' hb hE hs=>K h' ⟨hb,H.2⟩ hE hs
theorem kT(H:DB h b L nd dp ng tr)(d:Int)(K:∀h',DB h' b L nd d ng tr→Ext [b] h h'→h'.size=h.size→k (ρ.put dst undef) h'):WstT aE 3 (.pointer (some ⟨b,801,none⟩)) (.int .i64 d) dst ρ h k tk:=
 oG (i:=1) H (by kernel_rfl) rfl (by omega) fun h' hb hE hs=>K h' ⟨hb,H.2⟩ hE hs
theorem Wst_ng(H:DB h b L nd dp ng tr)(x:Bool)(K:∀h',DB h' b L nd dp x tr→Ext [b] h h'→h'.size=h.size→k (ρ.put dst undef) h'):WstT aE 4 (.pointer (some ⟨b,802,none⟩)) (.bool x) dst ρ h k tk:=
 oG (i:=2) H (by kernel_rfl) rfl (by omega) fun h' hb hE hs=>K h' ⟨hb,H.2⟩ hE hs
theorem wM(H:DB h b L nd dp ng tr)(x:Bool)(K:∀h',DB h' b L nd dp ng x→Ext [b] h h'→h'.size=h.size→k (ρ.put dst undef) h'):WstT aE 4 (.pointer (some ⟨b,803,none⟩)) (.bool x) dst ρ h k tk:=
 oG (i:=3) H (by kernel_rfl) rfl (by omega) fun h' hb hE hs=>K h' ⟨hb,H.2⟩ hE hs
end
theorem uH{d:Nat}(h:d≤9):∃c:UInt8,IntKind.u8.wrap ((d+48:Nat):Int)=(c.toNat:Int)∧c.toNat=d+48:=by
 refine⟨UInt8.ofNat (d+48),?_,?_⟩
 ·rw[IntWalk.u8_in _ (by omega),UInt8.toNat_ofNat'];omega
 ·rw[UInt8.toNat_ofNat'];omega
theorem trim_c(H:DB h b L nd dp ng tr)(hn:nd≤800)(h0:0<nd)(hd:(L.getD 0 0).toNat≠48):C aE 273 #[.pointer (some ⟨b,0,none⟩)] h fun e h'=>e=.returned (.tuple #[])∧(∃n,DB h' b L n dp ng tr∧0<n∧n≤nd)∧Ext [b] h h':=by
 refine C_in Tryz.func273 rfl rfl (by kernel_rfl) (aG rfl) ?_;simp only[↓zp,zw,aA];refine⟨fun m ρ h'=> ∃n:Nat,ρ 0=.pointer (some ⟨b,0,none⟩)∧DB h' b L n dp ng tr∧0<n∧n≤nd∧Ext [b] h h'∧m=n,nd,⟨nd,by simp only[↓zp,zw,aA],H,h0,bA _,Ext.refl _ _,rfl⟩,?_⟩;rintro m ρ h1 ⟨n,g0,H1,n0,hn1,hE,hm⟩;obtain⟨q1,q2,q3,q4⟩:=H1.tail;have d1:decide ((n:Int)>0)=true:=bC (by omega);have w1:IntKind.i64.wrap ((n:Int)-1)=((n-1:Nat):Int):=by rw[aU _ (by omega)];omega
 have b1:(0:Int)≤((n-1:Nat):Int)∧((n-1:Nat):Int)<((800:Nat):Int):=by omega
 have c1:=H1.at (j:=n-1) (by omega);simp only[↓zp,zw,aA,g0];refine bR 14 (by kernel_rfl) (by kernel_rfl) (by kernel_rfl) ?_
 cases hc:(((L.getD (n-1) 0).toNat:Int)==48)with
 |true=>
  have hc':=eq_of_beq hc;have n1:n≠1:=fun e=>by subst e;simp only[Nat.sub_self]at hc';exact hd (by omega)
  simp only[↓zp,zw,aA,g0,q1,d1,w1,b1,aR,aP,aF,c1,hc];refine mS H1 (n-1) fun h2 H2 hE2 hs2=> ?_;simp only[↓zp,zw,aA,g0]
  exact⟨n-1,by omega,n-1,by trivial,H2,by omega,by omega,hE.trans hE2,rfl⟩
 |false=>
  have d2:((n:Int)==0)=false:=by simp;omega
  simp only[↓zp,zw,aA,g0,q1,d1,w1,b1,aR,aP,aF,c1,hc,d2];exact⟨rfl,⟨n,H1,n0,hn1⟩,hE⟩
def RsOut(b:Nat)(L:List UInt8)(dp:Int)(ng:Bool)(h:Heap)(e:Ending)(h':Heap):Prop:=
 e=.returned (.tuple #[])∧(∃(L':List UInt8) (nd':Nat) (dp':Int) (tr':Bool),DB h' b L' nd' dp' ng tr'∧0<nd'∧nd'≤800∧Dg L' nd'∧(L'.getD 0 0).toNat≠48∧dp'≤dp∧dp-900≤dp'∧10*dp'+((L'.getD 0 0).toNat:Int)<10*dp+((L.getD 0 0).toNat:Int))∧Ext [b] h h'
theorem rs_c(H:DB h b L nd dp ng tr)(hn:nd≤800)(h0:0<nd)(hD:Dg L nd)(hd:(L.getD 0 0).toNat≠48)(hdp: -1000000000≤dp∧dp≤1000000000)(k:Nat)(hk:1≤k∧k≤60):
 C aE 270 #[.pointer (some ⟨b,0,none⟩),.int .u64 (k:Int)] h (RsOut b L dp ng h):=by
 obtain⟨M,hM⟩:∃M,2^k=M:=⟨_,rfl⟩;have hM2:2≤M:=by rw[←hM];exact Nat.pow_le_pow_right (n:=2) (i:=1) (by decide) hk.1
 have hMx:M≤1152921504606846976:=by rw[←hM];exact Nat.pow_le_pow_right (n:=2) (j:=60) (by decide) hk.2
 have h00:=hD 0 h0;obtain⟨d0,hd0⟩:∃d,(L.getD 0 0).toNat=48+d:=⟨(L.getD 0 0).toNat-48,by have:=h00.1;omega⟩;have d01:1≤d0:=by omega
 have d09:d0≤9:=by have:=h00.2;omega
 have sh:∀n:Nat,((n:Nat):Int).fdiv (2^min k IntKind.u64.bits)=((n/M:Nat):Int):=fun n=>by rw[kX (by omega),hM]
 refine C_in Tryz.func270 rfl rfl (by kernel_rfl) (aG rfl) ?_;refine fD 4 (fun ρ h'=> ∃r n:Nat,ρ 0=.pointer (some ⟨b,0,none⟩)∧ρ 1=.int .u64 (k:Int)∧ρ 4=.int .i64 (r:Int)∧ρ 5=.int .i64 0∧ρ 6=.int .u64 (n:Int)∧h'=h∧1≤r∧r≤864∧n/M≠0∧n<10*M∧(r=1→n=d0)) (fun N hN=> ?_) ?_
 ·simp only[↓zp,zw,aA,cS,cT];refine⟨fun m ρ h'=> ∃r n:Nat,ρ 0=.pointer (some ⟨b,0,none⟩)∧ρ 1=.int .u64 (k:Int)∧ρ 4=.int .i64 (r:Int)∧ρ 5=.int .i64 0∧ρ 6=.int .u64 (n:Int)∧h'=h∧r≤nd∧n<10*M∧((r=0∧n=0)∨(r=1∧n=d0)∨(2≤r∧1≤n))∧m=nd-r,nd,⟨0,0,by simp only[↓zp,zw,aA],by simp only[↓zp,zw,aA],by simp only[↓zp,zw,aA];rfl,by simp only[↓zp,zw,aA],by simp only[↓zp,zw,aA];rfl,rfl,by omega,by omega,.inl ⟨rfl,rfl⟩,rfl⟩,?_⟩;rintro m ρ h1 ⟨r,n,g0,g1,g4,g5,g6,hh,hr,hnM,hcase,hm⟩;rw[hh];obtain⟨q1,q2,q3,q4⟩:=H.tail
  cases hz:(((n/M:Nat):Int)==0)with
  |false=>
   have hz':n/M≠0:=fun e=>by rw[e]at hz;cases hz
   have hr1:1≤r:=by
    rcases hcase with⟨_,e⟩|h|h
    ·rw[e]at hz';exact absurd (Nat.zero_div _) hz'
    ·omega
    ·omega
   simp only[↓zp,zw,aA,g0,g1,g4,g5,g6,dB (b:=(k:Int)) k rfl,sh,hz]
   exact hN _ _ ⟨r,n,by simp only[↓zp,zw,aA,g0],by simp only[↓zp,zw,aA,g1],by simp only[↓zp,zw,aA,g4],by simp only[↓zp,zw,aA,g5],by simp only[↓zp,zw,aA,g6],rfl,hr1,by omega,hz',hnM,fun e=>by omega⟩
  |true=>
   have hz':n/M=0:=by have:=eq_of_beq hz;omega
   have hnlt:n<M:=by
    rcases Nat.lt_or_ge n M with h|h
    ·exact h
    ·have:=Nat.div_pos h (by omega);omega
   by_cases hrn:r≥nd
   ·have d1:decide ((r:Int)≥(nd:Int))=true:=bC (by omega);have n0:((n:Int)==0)=false:=by simp;omega
    simp only[↓zp,zw,aA,g0,g1,g4,g5,g6,dB (b:=(k:Int)) k rfl,sh,hz,q1,d1,n0];refine⟨fun m2 ρ h'=> ∃t n:Nat,ρ 0=.pointer (some ⟨b,0,none⟩)∧ρ 1=.int .u64 (k:Int)∧ρ 4=.int .i64 ((nd+t:Nat):Int)∧ρ 5=.int .i64 0∧ρ 6=.int .u64 (n:Int)∧h'=h∧n<10*M∧2^t≤n∧(nd=1→t=0→n<M)∧m2=10*M-n,10*M-n,⟨0,n,by simp only[↓zp,zw,aA,g0],by simp only[↓zp,zw,aA,g1],by simp only[↓zp,zw,aA,g4];congr 1;omega,by simp only[↓zp,zw,aA,g5],by simp only[↓zp,zw,aA,g6],rfl,hnM,by rw[Nat.pow_zero];omega,fun _ _=>hnlt,rfl⟩,?_⟩;rintro m2 ρ h2 ⟨t,n,g0,g1,g4,g5,g6,hh,hnM,ht,ht0,hm2⟩;rw[hh];have ht64:t<64:=(Nat.pow_lt_pow_iff_right (a:=2) (by decide)).1 (Nat.lt_of_le_of_lt ht (show n<2^64 by omega));have npos:0<n:=Nat.lt_of_lt_of_le (Nat.pow_pos (by decide)) ht
    cases hz:(((n/M:Nat):Int)==0)with
    |false=>
     have hz':n/M≠0:=fun e=>by rw[e]at hz;cases hz
     simp only[↓zp,zw,aA,g0,g1,g4,g5,g6,dB (b:=(k:Int)) k rfl,sh,hz];refine hN _ _ ⟨nd+t,n,by simp only[↓zp,zw,aA,g0],by simp only[↓zp,zw,aA,g1],by simp only[↓zp,zw,aA,g4],by simp only[↓zp,zw,aA,g5],by simp only[↓zp,zw,aA,g6],rfl,by omega,by omega,hz',hnM,fun e=> ?_⟩;have:=ht0 (by omega) (by omega)
     exact absurd (Nat.div_eq_of_lt this) hz'
    |true=>
     have hz':n/M=0:=by have:=eq_of_beq hz;omega
     have hnlt:n<M:=by
      rcases Nat.lt_or_ge n M with h|h
      ·exact h
      ·have:=Nat.div_pos h (by omega);omega
     have w1:IntKind.u64.wrap ((n:Int)*10)=((n*10:Nat):Int):=by rw[IntWalk.u64_in _ (by omega)];omega
     have w2:=bI (a:=nd+t) (by omega);simp only[↓zp,zw,aA,g0,g1,g4,g5,g6,dB (b:=(k:Int)) k rfl,sh,hz,w1,w2];exact⟨10*M-n*10,by omega,t+1,n*10,by trivial,by trivial,by trivial,by trivial,by trivial,by trivial,by omega,by rw[Nat.pow_succ];omega,fun _ e=>by omega,rfl⟩
   ·have d1:decide ((r:Int)≥(nd:Int))=false:=bD (by omega);have c1:=H.at (j:=r) (by omega);have hdg:=hD r (by omega);have b1:(0:Int)≤(r:Int)∧(r:Int)<((800:Nat):Int):=by omega
    have hr0:r=0→(L.getD r 0).toNat=48+d0:=fun e=>by rw[e];exact hd0
    unfold kA at hdg;generalize(L.getD r 0).toNat=c at*;have w1:IntKind.u64.wrap (c:Int)=(c:Int):=fG (by omega);have w2:IntKind.u64.wrap ((n:Int)*10)=((n*10:Nat):Int):=by rw[IntWalk.u64_in _ (by omega)];omega
    have w3:IntKind.u64.wrap (((n*10:Nat):Int)+(c:Int))=((n*10+c:Nat):Int):=by rw[IntWalk.u64_in _ (by omega)];omega
    have w4:IntKind.u64.wrap (((n*10+c:Nat):Int)-48)=((n*10+c-48:Nat):Int):=by rw[IntWalk.u64_in _ (by omega)];omega
    have w5:=bI (a:=r) (by omega);simp only[↓zp,zw,aA,g0,g1,g4,g5,g6,dB (b:=(k:Int)) k rfl,sh,hz,q1,d1,b1,aR,aP,aF,c1,w1,w2,w3,w4,w5];refine⟨nd-(r+1),by omega,r+1,n*10+c-48,by trivial,by trivial,by trivial,by trivial,by trivial,by trivial,by omega,by omega,?_,rfl⟩;rcases hcase with⟨e1,e2⟩|⟨e1,e2⟩|⟨e1,e2⟩
    ·have:=hr0 e1;exact .inr (.inl ⟨by omega,by omega⟩)
    ·exact .inr (.inr ⟨by omega,by omega⟩)
    ·exact .inr (.inr ⟨by omega,by omega⟩)
 rintro ρ _ ⟨r0,n0,g0,g1,g4,g5,g6,hh,hr1,hr2,hnz,hnM,hone⟩;rw[hh]
 (repeat rw[dC]);rw[dE]
 obtain⟨q1,q2,q3,q4⟩:=H.tail;have wr:IntKind.i64.wrap ((r0:Int)-1)=((r0-1:Nat):Int):=by rw[aU _ (by omega)];omega
 have wm:IntKind.u64.wrap (1*2^min k IntKind.u64.bits)=(M:Int):=by
  rw[show min k IntKind.u64.bits=k from Nat.min_eq_left (by show k≤64;omega),Int.one_mul,show((2:Int)^k)=((2^k:Nat):Int) by simp,hM,fG (by omega)]
 have wm2:IntKind.u64.wrap ((M:Int)-1)=((M-1:Nat):Int):=by rw[IntWalk.u64_in _ (by omega)];omega
 have mask:∀n:Nat,n<10*M→band .u64 (n:Int) ((M-1:Nat):Int)=((n%M:Nat):Int):=fun n hn=>by
  rw[jT (by omega) (by omega),←hM,lW]
 obtain⟨D,hD'⟩:∃D:Int,dp-((r0-1:Nat):Int)=D:=⟨_,rfl⟩;have wd:IntKind.i64.wrap D=D:=aU _ (by omega)
 let F:List UInt8→Prop:=fun L'=>49≤(L'.getD 0 0).toNat∧(L'.getD 0 0).toNat≤57∧(r0=1→(L'.getD 0 0).toNat<48+d0)
 have first:∀(n:Nat) (L':List UInt8) (c:UInt8),L'.length=800→n/M≠0→n<10*M→(r0=1→n=d0)→c.toNat=n/M+48→F (L'.set 0 c):=fun n L' c hl hz hlt ho hc=>by
  have h9:n/M<10:=(Nat.div_lt_iff_lt_mul (by omega)).2 hlt;have e:(L'.set 0 c).getD 0 0=c:=by rw[gE,if_pos ⟨rfl,by omega⟩]
  show 49≤((L'.set 0 c).getD 0 0).toNat∧((L'.set 0 c).getD 0 0).toNat≤57∧(r0=1→((L'.set 0 c).getD 0 0).toNat<48+d0);rw[e,hc];have hq0:0≤n/M:=Nat.zero_le _;refine⟨by omega,by omega,fun h1=> ?_⟩;have:=ho h1;have h2:n/M≤d0/2:=by rw[this];exact Nat.div_le_div_left hM2 (by decide)
  omega
 have keep:∀{L':List UInt8} {w:Nat} {c:UInt8},F L'→0<w→F (L'.set w c):=fun{L' w c} hF hw=>by
  have e:(L'.set w c).getD 0 0=L'.getD 0 0:=by rw[gE,if_neg (by omega)]
  show 49≤((L'.set w c).getD 0 0).toNat∧_;rw[e];exact hF
 refine fD 3 (fun ρ h'=> ∃(w n:Nat) (L':List UInt8),ρ 0=.pointer (some ⟨b,0,none⟩)∧ρ 1=.int .u64 (k:Int)∧ρ 5=.int .i64 (w:Int)∧ρ 6=.int .u64 (n:Int)∧ρ 8=.int .u64 ((M-1:Nat):Int)∧DB h' b L' nd D ng tr∧w≤800∧n<10*M∧Dg L' w∧(w=0→n/M≠0∧(r0=1→n=d0))∧(0<w→F L')∧Ext [b] h h') (fun N hN=> ?_) ?_
 ·simp only[↓zp,zw,aA,cS,cT,g0,g1,g4,g5,g6,q2,wr,hD',wd];refine kT H D fun h1 H1 hE1 hs1=> ?_;simp only[↓zp,zw,aA,g0,g1,g4,g5,g6,dG (b:=(k:Int)) k rfl,wm,wm2];refine⟨fun m ρ h'=> ∃(r w n:Nat) (L':List UInt8),ρ 0=.pointer (some ⟨b,0,none⟩)∧ρ 1=.int .u64 (k:Int)∧ρ 4=.int .i64 (r:Int)∧ρ 5=.int .i64 (w:Int)∧ρ 6=.int .u64 (n:Int)∧ρ 8=.int .u64 ((M-1:Nat):Int)∧DB h' b L' nd D ng tr∧w<r∧w≤800∧n<10*M∧(∀j,r≤j→L'.getD j 0=L.getD j 0)∧Dg L' w∧(w=0→n/M≠0∧(r0=1→n=d0))∧(0<w→F L')∧Ext [b] h h'∧m=10000-r∧r≤864,10000-r0,⟨r0,0,n0,L,by simp only[↓zp,zw,aA,g0],by simp only[↓zp,zw,aA,g1],by simp only[↓zp,zw,aA,g4],by simp only[↓zp,zw,aA,g5];rfl,by simp only[↓zp,zw,aA,g6],by simp only[↓zp,zw,aA],H1,by omega,by omega,hnM,fun _ _=>rfl,fun j hj=>absurd hj (by omega),fun _=>⟨hnz,hone⟩,fun h=>absurd h (by omega),hE1,rfl,hr2⟩,?_⟩;clear g0 g1 g4 g5 g6;rintro m ρ h2 ⟨r,w,n,L',g0,g1,g4,g5,g6,g8,H2,hwr,hw8,hn2,hsame,hdg,hw0,hF,hE2,hm,hr8⟩;obtain⟨q1,q2,q3,q4⟩:=H2.tail;by_cases hlt:r<nd
  ·have d1:decide ((r:Int)<(nd:Int))=true:=bC (by omega);have c1:=H2.at (j:=r) (by omega);have hdg2:=hD r hlt;rw[←hsame r (bA _)]at hdg2;have b1:(0:Int)≤(r:Int)∧(r:Int)<((800:Nat):Int):=by omega
   have b2:(0:Int)≤(w:Int)∧(w:Int)<((800:Nat):Int):=by omega
   have hq0:0≤n/M:=Nat.zero_le _;have h9:n/M≤9:=by have:=(Nat.div_lt_iff_lt_mul (show 0<M by omega)).2 hn2;omega
   have hmod:n%M<M:=Nat.mod_lt _ (by omega);unfold kA at hdg2;generalize(L'.getD r 0).toNat=c at*;obtain⟨cd,ecd,hcd⟩:=uH h9;have w1:IntKind.u64.wrap (c:Int)=(c:Int):=fG (by omega);have w2:IntKind.u64.wrap (((n%M:Nat):Int)*10)=((n%M*10:Nat):Int):=by rw[IntWalk.u64_in _ (by omega)];omega
   have w3:IntKind.u64.wrap (((n%M*10:Nat):Int)+(c:Int))=((n%M*10+c:Nat):Int):=by rw[IntWalk.u64_in _ (by omega)];omega
   have w4:IntKind.u64.wrap (((n%M*10+c:Nat):Int)-48)=((n%M*10+c-48:Nat):Int):=by rw[IntWalk.u64_in _ (by omega)];omega
   have w5:=bI (a:=r) (by omega);have w6:=bI (a:=w) (by omega);have w7:IntKind.u64.wrap (((n/M:Nat):Int)+48)=((n/M+48:Nat):Int):=by rw[IntWalk.u64_in _ (by omega)];omega
   simp only[↓zp,zw,aA,g0,g1,g4,g5,g6,g8,q1,d1,b1,b2,aR,aP,aF,c1,w1,dB (b:=(k:Int)) k rfl,sh,mask n hn2,w7,ecd];refine mU H2 (by omega) cd fun h3 H3 hE3 hs3=> ?_;simp only[↓zp,zw,aA,g0,g1,g4,g5,g6,g8,w2,w3,w4,w5,w6];refine⟨10000-(r+1),by omega,r+1,w+1,n%M*10+c-48,L'.set w cd,by trivial,by trivial,by trivial,by trivial,by trivial,by trivial,H3,by omega,by omega,by omega,fun j hj=> ?_,hdg.snoc ⟨by omega,by omega⟩ (by rw[H2.2];omega),fun e=>by omega,fun _=> ?_,hE2.trans hE3,rfl,by omega⟩
   ·rw[gE,if_neg (by omega)];exact hsame j (by omega)
   ·rcases Nat.eq_zero_or_pos w with e|e
    ·subst e;exact first n L' cd H2.2 (hw0 rfl).1 hn2 (hw0 rfl).2 hcd
    ·exact keep (hF e) e
  ·have d1:decide ((r:Int)<(nd:Int))=false:=bD (by omega);simp only[↓zp,zw,aA,g0,g1,g4,g5,g6,g8,q1,d1];exact hN _ _ ⟨w,n,L',by simp only[↓zp,zw,aA,g0],by simp only[↓zp,zw,aA,g1],by simp only[↓zp,zw,aA,g5],by simp only[↓zp,zw,aA,g6],by simp only[↓zp,zw,aA,g8],H2,hw8,hn2,hdg,hw0,hF,hE2⟩
 clear g0 g1 g4 g5 g6;rintro ρ h1 ⟨w,n,L1,g0,g1,g5,g6,g8,H1,hw8,hn1,hdg,hw0,hF,hE1⟩
 (repeat rw[dC]);rw[dE]
 simp only[↓zp,zw,aA,g0,g1,g5,g6,g8];refine⟨fun m ρ h'=> ∃(w n j:Nat) (L':List UInt8) (tr':Bool),ρ 0=.pointer (some ⟨b,0,none⟩)∧ρ 1=.int .u64 (k:Int)∧ρ 5=.int .i64 (w:Int)∧ρ 6=.int .u64 (n:Int)∧ρ 8=.int .u64 ((M-1:Nat):Int)∧DB h' b L' nd D ng tr'∧w≤800∧n<10*M∧Dg L' w∧(w=0→n/M≠0∧(r0=1→n=d0))∧(0<w→F L')∧Ext [b] h h'∧2^j ∣ n∧j≤k+1∧(j=k+1→n=0)∧m=k+1-j,k+1,⟨w,n,0,L1,tr,by simp only[↓zp,zw,aA,g0],by simp only[↓zp,zw,aA,g1],by simp only[↓zp,zw,aA,g5],by simp only[↓zp,zw,aA,g6],by simp only[↓zp,zw,aA,g8],H1,hw8,hn1,hdg,hw0,hF,hE1,by simp,by omega,fun e=>by omega,rfl⟩,?_⟩;clear g0 g1 g5 g6 g8 hdg hw0 hF;rintro m ρ h2 ⟨w,n,j,L',tr',g0,g1,g5,g6,g8,H2,hw8,hn2,hdg,hw0,hF,hE2,hdv,hj,hj0,hm⟩;by_cases hn0:0<n
 ·have d1:decide ((n:Int)>0)=true:=bC (by omega);have hq0:0≤n/M:=Nat.zero_le _;have h9:n/M≤9:=by have:=(Nat.div_lt_iff_lt_mul (show 0<M by omega)).2 hn2;omega
  have hmod:n%M<M:=Nat.mod_lt _ (by omega)
  have hjk:j≤k:=by
   rcases Nat.lt_or_ge k j with h|h
   ·have:=hj0 (by omega);omega
   ·exact h
  have hdv2:2^(j+1) ∣ n%M*10:=by
   have h1:2^j ∣ n%M:=(Nat.dvd_mod_iff (by rw[←hM];exact Nat.pow_dvd_pow 2 hjk)).2 hdv;rw[Nat.pow_succ,show(10:Nat)=2*5 from rfl,←Nat.mul_assoc];exact Nat.dvd_trans (Nat.mul_dvd_mul_right h1 2) (Nat.dvd_mul_right _ _)
  have hend:j+1=k+1→n%M*10=0:=fun e=>by
   have:j=k:=by omega
   subst this;rw[hM]at hdv;rw[Nat.mod_eq_zero_of_dvd hdv]
  have w1:IntKind.u64.wrap (((n%M:Nat):Int)*10)=((n%M*10:Nat):Int):=by rw[IntWalk.u64_in _ (by omega)];omega
  have w7:IntKind.u64.wrap (((n/M:Nat):Int)+48)=((n/M+48:Nat):Int):=by rw[IntWalk.u64_in _ (by omega)];omega
  by_cases hw:w<800
  ·have d2:decide ((w:Int)<800)=true:=bC (by omega);have b2:(0:Int)≤(w:Int)∧(w:Int)<((800:Nat):Int):=by omega
   obtain⟨cd,ecd,hcd⟩:=uH h9;have w6:=bI (a:=w) (by omega);simp only[↓zp,zw,aA,g0,g1,g5,g6,g8,d1,dB (b:=(k:Int)) k rfl,sh,mask n hn2,d2,b2,aR,aP,aF,w7,ecd];refine mU H2 hw cd fun h3 H3 hE3 hs3=> ?_;simp only[↓zp,zw,aA,g0,g1,g5,g6,g8,w1,w6];refine⟨k+1-(j+1),by omega,w+1,n%M*10,j+1,L'.set w cd,tr',by trivial,by trivial,by trivial,by trivial,by trivial,H3,by omega,by omega,hdg.snoc ⟨by omega,by omega⟩ (by rw[H2.2];omega),fun e=>by omega,fun _=> ?_,hE2.trans hE3,hdv2,by omega,hend,rfl⟩;rcases Nat.eq_zero_or_pos w with e|e
   ·subst e;exact first n L' cd H2.2 (hw0 rfl).1 hn2 (hw0 rfl).2 hcd
   ·exact keep (hF e) e
  ·have d2:decide ((w:Int)<800)=false:=bD (by omega);by_cases hg:0<n/M
   ·have d3:decide (((n/M:Nat):Int)>0)=true:=bC (by omega);simp only[↓zp,zw,aA,g0,g1,g5,g6,g8,d1,dB (b:=(k:Int)) k rfl,sh,mask n hn2,d2,d3];refine wM H2 true fun h3 H3 hE3 hs3=> ?_;simp only[↓zp,zw,aA,g0,g1,g5,g6,g8,w1];exact⟨k+1-(j+1),by omega,w,n%M*10,j+1,L',true,by trivial,by trivial,by trivial,by trivial,by trivial,H3,hw8,by omega,hdg,fun e=>by omega,hF,hE2.trans hE3,hdv2,by omega,hend,rfl⟩
   ·have d3:decide (((n/M:Nat):Int)>0)=false:=bD (by omega);simp only[↓zp,zw,aA,g0,g1,g5,g6,g8,d1,dB (b:=(k:Int)) k rfl,sh,mask n hn2,d2,d3,w1];exact⟨k+1-(j+1),by omega,w,n%M*10,j+1,L',tr',by trivial,by trivial,by trivial,by trivial,by trivial,H2,hw8,by omega,hdg,fun e=>by omega,hF,hE2,hdv2,by omega,hend,rfl⟩
 ·have d1:decide ((n:Int)>0)=false:=bD (by omega)
  have hw1:0<w:=by
   rcases Nat.eq_zero_or_pos w with e|e
   ·have:=(hw0 e).1;rw[show n=0 by omega]at this;exact absurd (Nat.zero_div _) this
   ·exact e
  have f:=hF hw1;simp only[↓zp,zw,aA,g0,g1,g5,g6,g8,d1];refine mS H2 w fun h3 H3 hE3 hs3=> ?_;simp only[↓zp,zw,aA,g0];refine bH (trim_c H3 hw8 hw1 (by have:=f.1;omega)) ?_;rintro _ h4 ⟨rfl,⟨n4,H4,h41,h42⟩,hE4⟩;simp only[↓zp,zw,aA];refine⟨rfl,⟨L',n4,D,tr',H4,h41,by omega,hdg.le h42,by have:=f.1;omega,by omega,by omega,?_⟩,(hE2.trans hE3).trans hE4⟩;rw[hd0];obtain⟨f1,f2,f3⟩:=f;by_cases e:r0=1
  ·have:=f3 e;omega
  ·omega
end
end
section
def digs(L:List UInt8)(n:Nat):List Nat:=(L.take n).map dig
section
variable{h hI:Heap}{b:Nat}{L:List UInt8}{nd:Nat}{dp:Int}{ng tr:Bool}
theorem lQ(hl:L.length=800)(hn:nd≤800):(digs L nd).length=nd:=by simp[digs,hl];omega
theorem rW(hl:L.length=800)(hn:nd≤800){i:Nat}(hi:i<nd):(digs L nd)[i]? =some ((L.getD i 0).toNat-48):=by
 unfold digs;rw[List.getElem?_map,List.getElem?_take,if_pos hi,get_of (by omega)];rfl
theorem digs_le(hl:L.length=800)(hn:nd≤800)(hD:Dg L nd):∀x,x∈digs L nd→x≤9:=fun x hx=>by
 obtain⟨i,hi⟩:=List.mem_iff_getElem?.1 hx
 have hi':i<nd:=by
  have:=(List.getElem?_eq_some_iff.1 hi).1;rw[lQ hl hn]at this;exact this
 rw[rW hl hn hi']at hi;have:=hD i hi';unfold kA at this;cases hi;omega
theorem tS(hl:L.length=800)(hn:nd≤800){r:Nat}(hr:r<nd):(digs L nd).drop r=((L.getD r 0).toNat-48)::(digs L nd).drop (r+1):=by
 have h1:r<(digs L nd).length:=by rw[lQ hl hn];exact hr
 rw[List.drop_eq_getElem_cons h1]
 congr 1
 have:=rW hl hn hr;rw[aS h1]at this;exact Option.some.inj this
theorem digs_lead(hl:L.length=800)(hn:nd≤800)(h0:0<nd)(hD:Dg L nd)(hd:(L.getD 0 0).toNat≠48):10^((digs L nd).length-1)≤dnum (digs L nd):=by
 have e:=tS hl hn h0;rw[List.drop_zero]at e;have h1:=hD 0 h0;unfold kA at h1;have e2:(digs L nd).length-1=((digs L nd).drop (0+1)).length:=by rw[List.length_drop]
 rw[e2];rw[e,dnum];simp only[aR,List.drop_succ_cons,List.drop_zero];have:1*10^((digs L nd).drop 1).length≤((L.getD 0 0).toNat-48)*10^((digs L nd).drop 1).length:=Nat.mul_le_mul_right _ (by omega);omega
theorem vD{l m:List Nat}{i:Nat}:i<m.length→fS (l.drop i) (m.drop i)=(match l[i]?,m[i]? with|none,_=>true|some a,some c=>if a=c then fS (l.drop (i+1)) (m.drop (i+1))else decide (a<c)|_,none=>false):=by
 intro hm;rw[List.drop_eq_getElem_cons hm];rcases Nat.lt_or_ge i l.length with hl|hl
 ·rw[List.drop_eq_getElem_cons hl,aS hl,aS hm];rfl
 ·rw[List.drop_eq_nil_of_le hl,List.getElem?_eq_none hl];rfl
theorem vC(H:DB h b L nd dp ng tr)(hn:nd≤800)(hD:Dg L nd)(x:List UInt8)(hx:∀c,c∈x→48≤c.toNat∧c.toNat≤57)(hxl:x.length≤1000)(cap:Nat):
 C aE 272 #[.slice (some ⟨b,0,none⟩) nd cap,.string ⟨x.toArray⟩] h (Ret (.bool (fS (digs L nd) (x.map dig))) h):=by
 have hl:=H.2;refine C_in Tryz.func272 rfl rfl (by kernel_rfl) (aG rfl) ?_;simp only[↓zp,zw,aA];refine⟨fun m ρ h'=> ∃i:Nat,ρ 0=.slice (some ⟨b,0,none⟩) nd cap∧ρ 1=.string ⟨x.toArray⟩∧ρ 5=.int .i64 (i:Int)∧h'=h∧i≤x.length∧fS (digs L nd) (x.map dig)=fS ((digs L nd).drop i) ((x.map dig).drop i)∧m=x.length-i,x.length,⟨0,by simp only[↓zp,zw,aA],by simp only[↓zp,zw,aA],by simp only[↓zp,zw,aA];rfl,rfl,by omega,rfl,rfl⟩,?_⟩;rintro m ρ h1 ⟨i,g0,g1,g5,hh,hi,hp,hm⟩;rw[hh];by_cases hlt:i<x.length
 ·have d1:decide ((i:Int)<((x.length:Nat):Int))=true:=bC (by omega);have hst:=vD (l:=digs L nd) (m:=x.map dig) (i:=i) (by simpa using hlt);have hxi:(x.map dig)[i]? =some ((x[i]'hlt).toNat-48):=by rw[List.getElem?_map,aS hlt];rfl
  have hxc:=hx (x[i]'hlt) (List.getElem_mem _);by_cases hnd:i≥nd
  ·have d2:decide ((i:Int)≥((nd:Nat):Int))=true:=bC (by omega);rw[List.getElem?_eq_none (by rw[lQ hl hn];omega)]at hst;simp only[↓zp,zw,aA,g0,g1,g5,d1,d2];exact⟨by rw[hp,hst],rfl⟩
  ·have d2:decide ((i:Int)≥((nd:Nat):Int))=false:=bD (by omega);have hdi:=hD i (by omega);have c1:=H.at (j:=i) (by omega);rw[rW hl hn (by omega),hxi]at hst;dsimp only at hst;unfold kA at hdi;have b1:(0:Int)≤(i:Int)∧(i:Int)<((nd:Nat):Int):=by omega
   have z0:(0:Int)≤(i:Int):=by omega
   have w1:=bI (a:=i) (by omega);obtain⟨q,hq⟩:∃q,x[i]'hlt=q:=⟨_,rfl⟩;rw[hq]at hxc hst;simp only[↓zp,zw,aA,g0,g1,g5,d1,d2];refine bR 7 (by kernel_rfl) (by kernel_rfl) (by kernel_rfl) ?_;generalize(L.getD i 0).toNat=a at*;by_cases hne:a=q.toNat
   ·have d3:((a:Int) !=(q.toNat:Int))=false:=by simp[hne]
    rw[if_pos (by omega)]at hst;simp only[↓zp,zw,aA,g0,g1,g5,b1,z0,hlt,hq,aR,aP,aF,c1,d3,w1];exact⟨x.length-(i+1),by omega,i+1,by trivial,by trivial,by trivial,by trivial,by omega,by rw[hp,hst],by trivial⟩
   ·have d3:((a:Int) !=(q.toNat:Int))=true:=by simp;omega
    rw[if_neg (by omega)]at hst;simp only[↓zp,zw,aA,g0,g1,g5,b1,z0,hlt,hq,aR,aP,aF,c1,d3];refine bR 7 (by kernel_rfl) (by kernel_rfl) (by kernel_rfl) ?_;simp only[↓zp,zw,aA,g0,g1,g5,b1,z0,hlt,hq,aR,aP,aF,c1];refine⟨?_,rfl⟩;rw[hp,hst]
    congr 2
    rw[aW];simp;omega
 ·have d1:decide ((i:Int)<((x.length:Nat):Int))=false:=bD (by omega);simp only[↓zp,zw,aA,g0,g1,g5,d1];refine⟨?_,rfl⟩;have e0:(x.map dig).drop i=[]:=List.drop_eq_nil_of_le (by simp;omega);rw[hp,e0];cases(digs L nd).drop i<;>rfl
theorem sl_arr{o n:Nat}(hn:n≤800):iM aE 244 (.pointer (some ⟨b,o,none⟩)) (some (.int .i64 0)) (some (.int .i64 (n:Int)))=some (.slice (some ⟨b,o,none⟩) n 800):=by
 have h1:aE.underlying 244=some (.array 800 5):=Tryz.underlying244;have h2:szOf aE 5=some (false,1):=by kernel_rfl
 unfold iM;simp only[h1,h2];rw[r_sb (show(0:Int)≤(n:Int)∧(n:Int)≤((800:Nat):Int) by omega)];simp only[Option.bind_some,aF];rw[r_sb (show(0:Int)≤(0:Int)∧(0:Int)≤((n:Nat):Int) by omega)]
 rfl
theorem e285:einf aE 285 2=true:=by kernel_rfl
def LsOut(b:Nat)(L:List UInt8)(dp:Int)(ng:Bool)(h:Heap)(e:Ending)(h':Heap):Prop:=
 e=.returned (.tuple #[])∧(∃(L':List UInt8) (nd':Nat) (dp':Int) (tr':Bool),DB h' b L' nd' dp' ng tr'∧0<nd'∧nd'≤800∧Dg L' nd'∧(L'.getD 0 0).toNat≠48∧dp≤dp'∧dp'≤dp+19∧10*dp+((L.getD 0 0).toNat:Int)<10*dp'+((L'.getD 0 0).toNat:Int))∧Ext [b] h h'
theorem ls_c(hG:Gf hI)(hE0:Ext [] hI h)(hbI:hI.size≤b)(H:DB h b L nd dp ng tr)(hn:nd≤800)(h0:0<nd)(hD:Dg L nd)(hd:(L.getD 0 0).toNat≠48)(hdp: -1000000000≤dp∧dp≤1000000000)(k:Nat)(hk:1≤k∧k≤60):
 C aE 269 #[.pointer (some ⟨b,0,none⟩),.int .u64 (k:Int)] h (LsOut b L dp ng h):=by
 have hl:=H.2;obtain⟨M,hM⟩:∃M,2^k=M:=⟨_,rfl⟩;have hM2:2≤M:=by rw[←hM];exact Nat.pow_le_pow_right (n:=2) (i:=1) (by decide) hk.1
 have hMx:M≤1152921504606846976:=by rw[←hM];exact Nat.pow_le_pow_right (n:=2) (j:=60) (by decide) hk.2
 obtain⟨bc,oc,cc,ct,hrows⟩:=hG.cheat;obtain⟨x,hx,hch,hxd,hx19⟩:=cheat_rows hk.1 hk.2;obtain⟨ca,cb⟩:=hrows k x hx;have ct:=hE0.cell ct (by simp);have ca:=hE0.cell ca (by simp);have cb:=hE0.cell cb (by simp);obtain⟨q1,q2,q3,q4⟩:=H.tail;have b61:(0:Int)≤(k:Int)∧(k:Int)<((61:Nat):Int):=by omega
 have hpl:=vC H hn hD x.2 hxd (by have:=hch.len;simp at this;omega) 800;have hld:=digs_lead hl hn h0 hD hd;have hle:=digs_le hl hn hD;have hne:digs L nd≠[]:=fun e=>by have:=lQ hl hn;rw[e]at this;simp at this;omega
 obtain⟨hca1,hca2⟩:=yX hch hle hld hne;obtain⟨D,hDe⟩:∃D,jL x.1 (x.2.map dig) (digs L nd)=D:=⟨_,rfl⟩;have hD19:D≤19:=by rw[←hDe];unfold jL;split<;>omega
 rw[hDe]at hca1 hca2;have hpos:=hch.pos;have h00:=hD 0 h0;obtain⟨d0,hd0⟩:∃d,(L.getD 0 0).toNat=48+d:=⟨(L.getD 0 0).toNat-48,by have:=h00.1;omega⟩;have d01:1≤d0:=by omega
 have d09:d0≤9:=by have:=h00.2;omega
 have drp:∀r,r<nd→(digs L nd).drop r=((L.getD r 0).toNat-48)::(digs L nd).drop (r+1):=fun r hr=>tS hl hn hr;have clt:∀r,fV k ((digs L nd).drop r)<M:=fun r=>by rw[←hM];exact yS fun y hy=>hle y (List.mem_of_mem_drop hy)
 have dlen:=lQ hl hn;generalize digs L nd=dl at*;refine C_in Tryz.func269 rfl rfl (by kernel_rfl) (aG rfl) ?_;refine fD 5 (fun ρ h'=>ρ 0=.pointer (some ⟨b,0,none⟩)∧ρ 1=.int .u64 (k:Int)∧ρ 4=.int .i64 (D:Int)∧ρ 5=.int .i64 (nd:Int)∧ρ 6=.int .i64 ((nd+D:Nat):Int)∧ρ 7=.int .u64 0∧h'=h) (fun N hN=> ?_) ?_
 ·have wa:=cQ (a:=nd) (b:=D) (by omega);simp only[↓zp,zw,aA,cS,cT,ct,b61,e285,aF,ca];refine bR 13 (by kernel_rfl) (by kernel_rfl) (by kernel_rfl) ?_;simp only[↓zp,zw,aA,q1,sl_arr hn,ct,b61,e285,aF,cb,aR];refine bK hpl ?_
  cases hp:fS dl (x.2.map dig)with
  |true=>
   have w1:IntKind.i64.wrap ((x.1:Int)-1)=(D:Int):=by
    rw[aU _ (by omega),←hDe];unfold jL;rw[hp];simp;omega
   simp only[↓zp,zw,aA,w1,q1,wa]
   exact hN _ _ ⟨by simp only[↓zp,zw,aA],by simp only[↓zp,zw,aA],by simp only[↓zp,zw,aA],by simp only[↓zp,zw,aA],by simp only[↓zp,zw,aA],by simp only[↓zp,zw,aA],rfl⟩
  |false=>
   have e1:x.1=D:=by rw[←hDe];unfold jL;rw[hp];rfl
   rw[e1];simp only[↓zp,zw,aA,q1,wa];exact hN _ _ ⟨by simp only[↓zp,zw,aA],by simp only[↓zp,zw,aA],by simp only[↓zp,zw,aA],by simp only[↓zp,zw,aA],by simp only[↓zp,zw,aA],by simp only[↓zp,zw,aA],rfl⟩
 rintro ρ _ ⟨g0,g1,g4,g5,g6,g7,hh⟩;rw[hh]
 (repeat rw[dC]);rw[dE]
 refine fD 1 (fun ρ h'=> ∃(L':List UInt8) (tr':Bool),ρ 0=.pointer (some ⟨b,0,none⟩)∧ρ 1=.int .u64 (k:Int)∧ρ 4=.int .i64 (D:Int)∧ρ 6=.int .i64 (D:Int)∧ρ 7=.int .u64 ((fV k dl:Nat):Int)∧DB h' b L' nd dp ng tr'∧(∀j,D≤j→j<nd+D→j<800→kA (L'.getD j 0))∧(D=0→(L'.getD 0 0).toNat=48+(d0*M+fV k (dl.drop 1))%10)∧Ext [b] h h') (fun N hN=> ?_) ?_
 ·have w0:IntKind.i64.wrap ((nd:Int)-1)=(nd:Int)-1:=aU _ (by omega);simp only[↓zp,zw,aA,cS,cT,g0,g1,g4,g5,g6,g7,w0];refine⟨fun m ρ h'=> ∃(r n:Nat) (L':List UInt8) (tr':Bool),ρ 0=.pointer (some ⟨b,0,none⟩)∧ρ 1=.int .u64 (k:Int)∧ρ 4=.int .i64 (D:Int)∧ρ 5=.int .i64 ((r:Int)-1)∧ρ 6=.int .i64 ((r+D:Nat):Int)∧ρ 7=.int .u64 (n:Int)∧DB h' b L' nd dp ng tr'∧n=fV k (dl.drop r)∧r≤nd∧(∀j,j<r→L'.getD j 0=L.getD j 0)∧(∀j,r+D≤j→j<nd+D→j<800→kA (L'.getD j 0))∧(D=0→r=0→(L'.getD 0 0).toNat=48+(d0*M+fV k (dl.drop 1))%10)∧Ext [b] h h'∧m=r,nd,⟨nd,0,L,tr,by simp only[↓zp,zw,aA,g0],by simp only[↓zp,zw,aA,g1],by simp only[↓zp,zw,aA,g4],by simp only[↓zp,zw,aA],by simp only[↓zp,zw,aA,g6],by simp only[↓zp,zw,aA,g7];rfl,H,by rw[List.drop_eq_nil_of_le (by omega)];rfl,bA _,fun _ _=>rfl,fun j h1 h2=>by omega,fun _ e=>by omega,Ext.refl _ _,rfl⟩,?_⟩;clear g0 g1 g4 g5 g6 g7;rintro m ρ h1 ⟨r,n,L',tr',g0,g1,g4,g5,g6,g7,H1,hnc,hr,hsame,hdg,hz,hE1,hm⟩;rcases Nat.eq_zero_or_pos r with hr0|hr0
  ·subst hr0;have d1:decide ((((0:Nat):Int)-1)≥0)=false:=by decide
   simp only[↓zp,zw,aA,g0,g1,g4,g5,g6,g7,d1];rw[List.drop_zero]at hnc;refine hN _ _ ⟨L',tr',by simp only[↓zp,zw,aA,g0],by simp only[↓zp,zw,aA,g1],by simp only[↓zp,zw,aA,g4],by simp only[↓zp,zw,aA,g6,aR],by simp only[↓zp,zw,aA,g7,hnc],H1,fun j h1 h2 h3=>hdg j (by omega) h2 h3,fun e=>hz e rfl,hE1⟩
  ·obtain⟨r,rfl⟩:∃r',r=r'+1:=⟨r-1,by omega⟩;have er:(((r+1:Nat):Int)-1)=(r:Int):=by omega
   have d1:decide ((r:Int)≥0)=true:=bC (by omega);have b1:(0:Int)≤(r:Int)∧(r:Int)<((800:Nat):Int):=by omega
   have c1:=H1.at (j:=r) (by omega);have hdr:=hD r (by omega);have hsr:=hsame r (by omega);have hdrop:=drp r (by omega);have hlt:=clt (r+1);have hlt0:=clt r;rw[hdrop,fV,hM]at hlt0;rw[←hnc]at hlt hlt0;have hcar:fV k (dl.drop r)=(n+((L.getD r 0).toNat-48)*M)/10:=by rw[hdrop,fV,hM,hnc]
   have hr00:r=0→(L.getD r 0).toNat=48+d0:=fun e=>by rw[e];exact hd0
   rw[hsr]at c1;unfold kA at hdr;generalize(L.getD r 0).toNat=c at*;obtain⟨e,rfl⟩:∃e,c=48+e:=⟨c-48,by omega⟩;rw[Nat.add_sub_cancel_left]at hcar hlt0;have heM:e*M≤9*M:=Nat.mul_le_mul_right _ (by omega);obtain⟨S,hS⟩:∃S,n+e*M=S:=⟨_,rfl⟩;rw[hS]at hcar hlt0;have hSb:S<18446744073709551616:=by omega
   obtain⟨Q,hQ⟩:∃Q,S/10=Q:=⟨_,rfl⟩;rw[hQ]at hcar hlt0;have w1:IntKind.u64.wrap ((48+e:Nat):Int)=((48+e:Nat):Int):=fG (by omega);have w2:IntKind.u64.wrap (((48+e:Nat):Int)-48)=(e:Int):=by rw[IntWalk.u64_in _ (by omega)];omega
   have w3:IntKind.u64.wrap ((e:Int)*2^min k IntKind.u64.bits)=((e*M:Nat):Int):=by
    rw[show min k IntKind.u64.bits=k from Nat.min_eq_left (by show k≤64;omega),show((2:Int)^k)=((2^k:Nat):Int) by simp,hM,←Int.natCast_mul,fG (by omega)]
   have w4:IntKind.u64.wrap ((n:Int)+((e*M:Nat):Int))=(S:Int):=by rw[IntWalk.u64_in _ (by omega)];omega
   have w5:IntKind.u64.wrap ((S:Int).tdiv 10)=(Q:Int):=by
    rw[show((S:Int).tdiv 10)=((S/10:Nat):Int)from rfl,hQ,fG (by omega)]
   have w6:IntKind.u64.wrap (10*(Q:Int))=((10*Q:Nat):Int):=by rw[IntWalk.u64_in _ (by omega)];omega
   have w7:IntKind.u64.wrap ((S:Int)-((10*Q:Nat):Int))=((S%10:Nat):Int):=by rw[IntWalk.u64_in _ (by omega)];omega
   have w8:IntKind.i64.wrap (((r+1+D:Nat):Int)-1)=((r+D:Nat):Int):=by rw[aU _ (by omega)];omega
   have w9:IntKind.i64.wrap ((r:Int)-1)=(r:Int)-1:=aU _ (by omega);have n10:(10:Int)≠0:=by decide
   have wq:IntKind.u64.wrap (((S%10:Nat):Int)+48)=((S%10+48:Nat):Int):=by rw[IntWalk.u64_in _ (by omega)];omega
   by_cases hw:r+D<800
   ·have d2:decide (((r+D:Nat):Int)<800)=true:=bC (by omega);have b2:(0:Int)≤((r+D:Nat):Int)∧((r+D:Nat):Int)<((800:Nat):Int):=by omega
    obtain⟨cd,ecd,hcd⟩:=uH (d:=S%10) (by omega);simp only[↓zp,zw,aA,g0,g1,g4,g5,er,g6,g7,d1,b1,aR,aP,aF,c1,w1,w2,dG (b:=(k:Int)) k rfl,w3,w4,lT n10,w5,w6,w7,w8,d2,b2,wq,ecd];refine mU H1 hw cd fun h3 H3 hE3 hs3=> ?_;simp only[↓zp,zw,aA,g0,g1,g4,g5,er,g6,g7,w9];refine⟨r,by omega,r,Q,L'.set (r+D) cd,tr',by trivial,by trivial,by trivial,by trivial,by trivial,by trivial,H3,hcar.symm,by omega,fun j hj=> ?_,fun j h1 h2 h3=> ?_,fun e1 e2=> ?_,hE1.trans hE3,rfl⟩
    ·rw[gE,if_neg (by omega)];exact hsame j (by omega)
    ·rw[gE];split
     ·exact⟨by omega,by omega⟩
     ·exact hdg j (by have:=H1.2;omega) h2 h3
    ·subst e1;subst e2;rw[gE,if_pos ⟨rfl,by rw[H1.2];omega⟩,hcd];have h1:=hr00 rfl;have:e=d0:=by omega
     subst this;have:n=fV k (dl.drop 1):=hnc;rw[←this,←hS,Nat.add_comm (e*M) n];omega
   ·have d2:decide (((r+D:Nat):Int)<800)=false:=bD (by omega)
    cases hrem:(((S%10:Nat):Int) !=0)with
    |true=>
     simp only[↓zp,zw,aA,g0,g1,g4,g5,er,g6,g7,d1,b1,aR,aP,aF,c1,w1,w2,dG (b:=(k:Int)) k rfl,w3,w4,lT n10,w5,w6,w7,w8,d2,hrem];refine wM H1 true fun h3 H3 hE3 hs3=> ?_;simp only[↓zp,zw,aA,g0,g1,g4,g5,er,g6,g7,w9]
     exact⟨r,by omega,r,Q,L',true,by trivial,by trivial,by trivial,by trivial,by trivial,by trivial,H3,hcar.symm,by omega,fun j hj=>hsame j (by omega),fun j h1 h2 h3=>hdg j (by omega) h2 h3,fun e1 e2=>by omega,hE1.trans hE3,rfl⟩
    |false=>
     simp only[↓zp,zw,aA,g0,g1,g4,g5,er,g6,g7,d1,b1,aR,aP,aF,c1,w1,w2,dG (b:=(k:Int)) k rfl,w3,w4,lT n10,w5,w6,w7,w8,d2,hrem,w9];exact⟨r,by omega,r,Q,L',tr',by trivial,by trivial,by trivial,by trivial,by trivial,by trivial,H1,hcar.symm,by omega,fun j hj=>hsame j (by omega),fun j h1 h2 h3=>hdg j (by omega) h2 h3,fun e1 e2=>by omega,hE1,rfl⟩
 clear g0 g1 g4 g5 g6 g7;rintro ρ h1 ⟨L1,tr1,g0,g1,g4,g6,g7,H1,hdg1,hz1,hE1⟩
 (repeat rw[dC]);rw[dE]
 have hdp0:d0*M+fV k (dl.drop 1)=10*fV k dl+(d0*M+fV k (dl.drop 1))%10:=by
  have e:=drp 0 h0;rw[List.drop_zero]at e
  have:fV k dl=(fV k (dl.drop 1)+d0*M)/10:=by
   conv=>lhs;rw[e]
   rw[fV,hM,hd0,Nat.add_sub_cancel_left]
  omega
 have h2d:d0*2≤d0*M:=Nat.mul_le_mul_left _ hM2;simp only[↓zp,zw,aA,g0,g1,g4,g6,g7];refine⟨fun m ρ h'=> ∃(w n:Nat) (L':List UInt8) (tr':Bool),ρ 0=.pointer (some ⟨b,0,none⟩)∧ρ 4=.int .i64 (D:Int)∧ρ 6=.int .i64 (w:Int)∧ρ 7=.int .u64 (n:Int)∧DB h' b L' nd dp ng tr'∧w≤D∧n<10^w∧(w≠0→10^(w-1)≤n)∧n<M∧(∀j,w≤j→j<nd+D→j<800→kA (L'.getD j 0))∧(w=0→(D≠0→(L'.getD 0 0).toNat≠48)∧(D=0→48+2*d0≤(L'.getD 0 0).toNat))∧Ext [b] h h'∧m=w,D,⟨D,fV k dl,L1,tr1,by simp only[↓zp,zw,aA,g0],by simp only[↓zp,zw,aA,g4],by simp only[↓zp,zw,aA,g6],by simp only[↓zp,zw,aA,g7],H1,bA _,hca1,hca2,by have:=clt 0;rwa [List.drop_zero]at this,hdg1,fun e=>⟨fun h=>absurd e h,fun _=> ?_⟩,hE1,rfl⟩,?_⟩
 ·have:=hz1 e;rw[e,Nat.pow_zero]at hca1;omega
 clear g0 g1 g4 g6 g7 hz1 hdg1;rintro m ρ h2 ⟨w,n,L',tr',g0,g4,g6,g7,H2,hwD,hn1,hn2,hnM,hdg,hw0,hE2,hm⟩;by_cases hn0:0<n
 ·have d1:decide ((n:Int)>0)=true:=bC (by omega);have hw1:w≠0:=fun e=>by rw[e,Nat.pow_zero]at hn1;omega
  obtain⟨w,rfl⟩:∃w',w=w'+1:=⟨w-1,by omega⟩;have hn2:=hn2 hw1;rw[Nat.add_sub_cancel]at hn2;rw[Nat.pow_succ]at hn1;obtain⟨Q,hQ⟩:∃Q,n/10=Q:=⟨_,rfl⟩
  have w5:IntKind.u64.wrap ((n:Int).tdiv 10)=(Q:Int):=by
   rw[show((n:Int).tdiv 10)=((n/10:Nat):Int)from rfl,hQ,fG (by omega)]
  have w6:IntKind.u64.wrap (10*(Q:Int))=((10*Q:Nat):Int):=by rw[IntWalk.u64_in _ (by omega)];omega
  have w7:IntKind.u64.wrap ((n:Int)-((10*Q:Nat):Int))=((n%10:Nat):Int):=by rw[IntWalk.u64_in _ (by omega)];omega
  have w8:IntKind.i64.wrap (((w+1:Nat):Int)-1)=(w:Int):=by rw[aU _ (by omega)];omega
  have n10:(10:Int)≠0:=by decide
  have wq:IntKind.u64.wrap (((n%10:Nat):Int)+48)=((n%10+48:Nat):Int):=by rw[IntWalk.u64_in _ (by omega)];omega
  have d2:decide ((w:Int)<800)=true:=bC (by omega);have b2:(0:Int)≤(w:Int)∧(w:Int)<((800:Nat):Int):=by omega
  obtain⟨cd,ecd,hcd⟩:=uH (d:=n%10) (by omega);simp only[↓zp,zw,aA,g0,g4,g6,g7,d1,lT n10,w5,w6,w7,w8,d2,b2,aR,aP,aF,wq,ecd];refine mU H2 (by omega) cd fun h3 H3 hE3 hs3=> ?_;simp only[↓zp,zw,aA,g0,g4,g6,g7];refine⟨w,by omega,w,Q,L'.set w cd,tr',by trivial,by trivial,by trivial,by trivial,H3,by omega,by omega,fun hw=> ?_,by omega,fun j h1 h2 h3=> ?_,fun e=>⟨fun _=> ?_,fun e2=>by omega⟩,hE2.trans hE3,rfl⟩
  ·obtain⟨w,rfl⟩:∃w',w=w'+1:=⟨w-1,by omega⟩;rw[Nat.pow_succ]at hn2;rw[Nat.add_sub_cancel];omega
  ·rw[gE];split
   ·exact⟨by omega,by omega⟩
   ·exact hdg j (by have:=H2.2;omega) h2 h3
  ·subst e;rw[gE,if_pos ⟨rfl,by rw[H2.2];omega⟩,hcd];rw[Nat.pow_zero]at hn1;omega
 ·have d1:decide ((n:Int)>0)=false:=bD (by omega)
  have e0:w=0:=by
   rcases Nat.eq_zero_or_pos w with e|e
   ·exact e
   ·have h1:=hn2 (by omega);have h2:0<10^(w-1):=Nat.pow_pos (by decide);omega
  subst e0;obtain⟨f1,f2⟩:=hw0 rfl
  have ff:(L'.getD 0 0).toNat≠48:=by
   by_cases e:D=0
   ·have:=f2 e;omega
   ·exact f1 e
  obtain⟨q1,q2,q3,q4⟩:=H2.tail;have wa:=cQ (a:=nd) (b:=D) (by omega);have wd:IntKind.i64.wrap (dp+(D:Int))=dp+(D:Int):=aU _ (by omega);have hdig:=hdg 0 (by omega) (by omega) (by omega);unfold kA at hdig
  have last:∀n',n'≤nd+D→n'≤800→0<n'→∀(h4:Heap),DB h4 b L' n' (dp+(D:Int)) ng tr'→Ext [b] h h4→C aE 273 #[.pointer (some ⟨b,0,none⟩)] h4 (LsOut b L dp ng h):=fun n' hn1 hn2 hn3 h4 H4 hE4=>by
   refine(trim_c H4 hn2 hn3 ff).mono ?_;rintro _ h5 ⟨rfl,⟨n5,H5,h51,h52⟩,hE5⟩;refine⟨rfl,⟨L',n5,_,tr',H5,h51,by omega,fun j hj=>hdg j (by omega) (by omega) (by omega),ff,by omega,by omega,?_⟩,hE4.trans hE5⟩;rw[hd0];by_cases e:D=0
   ·have:=f2 e;omega
   ·omega
  simp only[↓zp,zw,aA,g0,g4,g6,g7,d1,q1,wa];refine mS H2 (nd+D) fun h3 H3 hE3 hs3=> ?_;obtain⟨q1,q2,q3,q4⟩:=H3.tail;by_cases hbig:800≤nd+D
  ·have d2:decide (((nd+D:Nat):Int)≥800)=true:=bC (by omega);simp only[↓zp,zw,aA,g0,g4,q1,d2];refine mS H3 800 fun h4 H4 hE4 hs4=> ?_;obtain⟨q1,q2,q3,q4⟩:=H4.tail;simp only[↓zp,zw,aA,g0,g4,q2,wd];refine kT H4 (dp+(D:Int)) fun h5 H5 hE5 hs5=> ?_;simp only[↓zp,zw,aA,g0];refine bH (last 800 hbig (bA _) (by omega) h5 H5 (((hE2.trans hE3).trans hE4).trans hE5)) ?_;rintro e h6 ⟨rfl,h6b⟩;simp only[↓zp,zw,aA];exact⟨rfl,h6b⟩
  ·have d2:decide (((nd+D:Nat):Int)≥800)=false:=bD (by omega);simp only[↓zp,zw,aA,g0,g4,q1,q2,d2,wd];refine kT H3 (dp+(D:Int)) fun h5 H5 hE5 hs5=> ?_;simp only[↓zp,zw,aA,g0];refine bH (last (nd+D) (bA _) (by omega) (by omega) h5 H5 ((hE2.trans hE3).trans hE5)) ?_;rintro e h6 ⟨rfl,h6b⟩;simp only[↓zp,zw,aA];exact⟨rfl,h6b⟩
end
end
section
theorem W_scopeJ {P:Program} {c:Code} {K:Exit→Env→Heap→Prop} {E:List PanicEntry→Heap→Prop} {ρ:Env} {h:Heap} (J:Nat→Env→Heap→Prop)
 (first:∀K':Exit→Env→Heap→Prop,(∀l ρ h,(findLabel c l).isSome=true→J l ρ h→K' (.goto l) ρ h)→(∀ρ h,K' .ret ρ h=K .ret ρ h)→W P c K' E ρ h)
 (pass:∀l ρ h rest,J l ρ h→findLabel c l=some rest→∀K':Exit→Env→Heap→Prop,(∀ρ h,K' .ret ρ h=K .ret ρ h)→W P rest K' E ρ h):W P (.scope c) K E ρ h:=
 qK (fun l _=>J l) 1 (first _ (fun l ρ h hs hj=>lZ hs (m:=0) (by omega) hj) (fun _ _=>rfl)) (fun l m ρ h rest hJ hf=>pass l ρ h rest hJ hf _ fun _ _=>rfl)
theorem band63{a b:Nat}(ha:a<9223372036854775808)(hb:b<9223372036854775808):band .i64 (a:Int) (b:Int)=((a&&&b:Nat):Int):=by
 show IntKind.i64.wrap (((BitVec.ofInt 64 (a:Int))&&&(BitVec.ofInt 64 (b:Int))).toNat:Int)=_;rw[nI,nI,BitVec.toNat_and,BitVec.toNat_ofNat,BitVec.toNat_ofNat,Nat.mod_eq_of_lt (by omega),Nat.mod_eq_of_lt (by omega),aU];have:=Nat.and_le_left (n:=a) (m:=b);omega
section
variable{h hI:Heap}{b:Nat}{L:List UInt8}{nd:Nat}{dp:Int}{ng tr:Bool}
theorem roundUp_c(H:DB h b L nd dp ng tr)(hn:nd≤800)(i:Int):C aE 271 #[.pointer (some ⟨b,0,none⟩),.int .i64 i] h fun e h'=>(∃x:Bool,e=.returned (.bool x))∧h'=h:=by
 obtain⟨q1,q2,q3,q4⟩:=H.tail;refine C_in Tryz.func271 rfl rfl (by kernel_rfl) (aG rfl) ?_;by_cases h1:i<0
 ·have d1:decide (i<0)=true:=bC h1;simp only[↓zp,zw,aA,d1];exact⟨⟨_,(by trivial)⟩,(by trivial)⟩
 have d1:decide (i<0)=false:=bD h1;by_cases h2:i≥(nd:Int)
 ·have d2:decide (i≥(nd:Int))=true:=bC h2;simp only[↓zp,zw,aA,d1,q1,d2];exact⟨⟨_,(by trivial)⟩,(by trivial)⟩
 have d2:decide (i≥(nd:Int))=false:=bD h2;obtain⟨j,rfl⟩:=Int.eq_ofNat_of_zero_le (show 0≤i by omega);have c1:=H.at (j:=j) (by omega);have b1:(0:Int)≤(j:Int)∧(j:Int)<((800:Nat):Int):=by omega
 have w1:=bI (a:=j) (by omega);generalize(L.getD j 0).toNat=c at c1
 cases hc:((c:Int)==53)with
 |false=>
  simp only[↓zp,zw,aA,d1,q1,d2,b1,aR,aP,aF,c1,hc]
  exact⟨⟨_,(by trivial)⟩,(by trivial)⟩
 |true=>
  cases he:(((j+1:Nat):Int)==(nd:Int))with
  |false=>
   simp only[↓zp,zw,aA,d1,q1,d2,b1,aR,aP,aF,c1,hc,w1,he]
   exact⟨⟨_,(by trivial)⟩,(by trivial)⟩
  |true=>
   cases tr with
   |true=>
    simp only[↓zp,zw,aA,d1,q1,d2,b1,aR,aP,aF,c1,hc,w1,he,q4]
    exact⟨⟨_,(by trivial)⟩,(by trivial)⟩
   |false=>
    by_cases hj:0<j
    ·have d3:decide ((j:Int)>0)=true:=bC (by omega);have w2:IntKind.i64.wrap ((j:Int)-1)=((j-1:Nat):Int):=by rw[aU _ (by omega)];omega
     have b2:(0:Int)≤((j-1:Nat):Int)∧((j-1:Nat):Int)<((800:Nat):Int):=by omega
     have c2:=H.at (j:=j-1) (by omega);have n2:(2:Int)≠0:=by decide
     simp only[↓zp,zw,aA,d1,q1,d2,b1,aR,aP,aF,c1,hc,w1,he,q4,d3,w2,b2,c2,sF n2];exact⟨⟨_,(by trivial)⟩,(by trivial)⟩
    ·have d3:decide ((j:Int)>0)=false:=bD (by omega);simp only[↓zp,zw,aA,d1,q1,d2,b1,aR,aP,aF,c1,hc,w1,he,q4,d3];exact⟨⟨_,(by trivial)⟩,(by trivial)⟩
theorem rint_c(H:DB h b L nd dp ng tr)(hn:nd≤800)(hdp: -1000000000≤dp):C aE 263 #[.pointer (some ⟨b,0,none⟩)] h fun e h'=>(∃n:Nat,e=.returned (.int .u64 (n:Int))∧n<18446744073709551616)∧h'=h:=by
 obtain⟨q1,q2,q3,q4⟩:=H.tail;refine C_in Tryz.func263 rfl rfl (by kernel_rfl) (aG rfl) ?_;by_cases h20:dp>20
 ·have d1:decide (dp>20)=true:=bC h20;simp only[↓zp,zw,aA,q2,d1];exact⟨⟨18446744073709551615,(by trivial),by decide⟩,(by trivial)⟩
 have d1:decide (dp>20)=false:=bD h20;refine fD 5 (fun ρ h'=> ∃i n:Nat,ρ 0=.pointer (some ⟨b,0,none⟩)∧ρ 3=.int .i64 (i:Int)∧ρ 4=.int .u64 (n:Int)∧n<18446744073709551616∧i≤20∧h'=h) (fun N hN=> ?_) ?_
 ·simp only[↓zp,zw,aA,cS,cT,q2,d1];refine⟨fun m ρ h'=> ∃i n:Nat,ρ 0=.pointer (some ⟨b,0,none⟩)∧ρ 3=.int .i64 (i:Int)∧ρ 4=.int .u64 (n:Int)∧n<18446744073709551616∧i≤20∧h'=h∧m=20-i,20,⟨0,0,by simp only[↓zp,zw,aA],by simp only[↓zp,zw,aA];rfl,by simp only[↓zp,zw,aA];rfl,by omega,by omega,rfl,rfl⟩,?_⟩;rintro m ρ h1 ⟨i,n,g0,g3,g4,hn64,hi,hh,hm⟩;rw[hh];by_cases h1:(i:Int)<dp
  ·have d2:decide ((i:Int)<dp)=true:=bC h1;by_cases h2:i<nd
   ·have d3:decide ((i:Int)<(nd:Int))=true:=bC (by omega);have c1:=H.at (j:=i) (by omega);have b1:(0:Int)≤(i:Int)∧(i:Int)<((800:Nat):Int):=by omega
    have w1:=bI (a:=i) (by omega);obtain⟨n1,e1,l1⟩:=fE ((n:Int)*10);obtain⟨n2,e2,l2⟩:=fE (IntKind.u8.wrap (((L.getD i 0).toNat:Int)-48));obtain⟨n3,e3,l3⟩:=fE ((n1:Int)+(n2:Int));simp only[↓zp,zw,aA,g0,g3,g4,q2,d2,q1,d3,b1,aR,aP,aF,c1,e1,e2,e3,w1];exact⟨20-(i+1),by omega,i+1,n3,(by trivial),(by trivial),(by trivial),l3,by omega,(by trivial),(by trivial)⟩
   ·have d3:decide ((i:Int)<(nd:Int))=false:=bD (by omega);simp only[↓zp,zw,aA,g0,g3,g4,q2,d2,q1,d3];exact hN _ _ ⟨i,n,by simp only[↓zp,zw,aA,g0],by simp only[↓zp,zw,aA,g3],by simp only[↓zp,zw,aA,g4],hn64,hi,(by trivial)⟩
  ·have d2:decide ((i:Int)<dp)=false:=bD h1;simp only[↓zp,zw,aA,g0,g3,g4,q2,d2];exact hN _ _ ⟨i,n,by simp only[↓zp,zw,aA,g0],by simp only[↓zp,zw,aA,g3],by simp only[↓zp,zw,aA,g4],hn64,hi,(by trivial)⟩
 rintro ρ _ ⟨i0,n0,g0,g3,g4,hn64,hi,hh⟩;rw[hh]
 (repeat rw[dC]);rw[dE]
 simp only[↓zp,zw,aA,g0,g3,g4];refine⟨fun m ρ h'=> ∃i n:Nat,ρ 0=.pointer (some ⟨b,0,none⟩)∧ρ 3=.int .i64 (i:Int)∧ρ 4=.int .u64 (n:Int)∧n<18446744073709551616∧i≤20∧h'=h∧m=20-i,20-i0,⟨i0,n0,by simp only[↓zp,zw,aA,g0],by simp only[↓zp,zw,aA,g3],by simp only[↓zp,zw,aA,g4],by omega,by omega,rfl,rfl⟩,?_⟩;clear g0 g3 g4 hn64 hi;rintro m ρ h1 ⟨i,n,g0,g3,g4,hn64,hi,hh,hm⟩;rw[hh];by_cases h1:(i:Int)<dp
 ·have d2:decide ((i:Int)<dp)=true:=bC h1;have w1:=bI (a:=i) (by omega);obtain⟨n1,e1,l1⟩:=fE ((n:Int)*10);simp only[↓zp,zw,aA,g0,g3,g4,q2,d2,e1,w1];exact⟨20-(i+1),by omega,i+1,n1,(by trivial),(by trivial),(by trivial),l1,by omega,(by trivial),(by trivial)⟩
 ·have d2:decide ((i:Int)<dp)=false:=bD h1;obtain⟨n1,e1,l1⟩:=fE ((n:Int)+1);simp only[↓zp,zw,aA,g0,g3,g4,q2,d2];refine bH (roundUp_c H hn dp) ?_;rintro _ _ ⟨⟨x,rfl⟩,rfl⟩;cases x<;>simp only[↓zp,zw,aA,g4,e1]
  ·exact⟨⟨n,(by trivial),hn64⟩,(by trivial)⟩
  ·exact⟨⟨n1,(by trivial),l1⟩,(by trivial)⟩
def DG(h:Heap)(b:Nat)(L:List UInt8)(nd:Nat)(dp:Int)(ng:Bool):Prop:=∃tr,DB h b L nd dp ng tr∧0<nd∧nd≤800∧Dg L nd∧(L.getD 0 0).toNat≠48
theorem DG.c0(H:DG h b L nd dp ng):49≤(L.getD 0 0).toNat∧(L.getD 0 0).toNat≤57:=by
 obtain⟨tr,h1,h2,h3,h4,h5⟩:=H;have:=h4 0 h2;unfold kA at this;omega
def RgOut(b:Nat)(L:List UInt8)(dp:Int)(ng:Bool)(n:Nat)(h:Heap)(e:Ending)(h':Heap):Prop:=
 e=.returned (.tuple #[])∧(∃(L':List UInt8) (nd':Nat) (dp':Int),DG h' b L' nd' dp' ng∧dp'≤dp∧dp-15*n-900≤dp'∧10*dp'+((L'.getD 0 0).toNat:Int)<10*dp+((L.getD 0 0).toNat:Int))∧Ext [b] h h'
theorem shr_c(H:DG h b L nd dp ng)(n:Nat)(hn:1≤n∧n≤1000000)(hdp: -1000000000+15*(n:Int)+900≤dp∧dp≤1000000000):
 C aE 262 #[.pointer (some ⟨b,0,none⟩),.int .i64 (-(n:Int))] h (RgOut b L dp ng n h):=by
 have H0:=H;obtain⟨tr,h1,h2,h3,h4,h5⟩:=H;obtain⟨q1,q2,q3,q4⟩:=h1.tail;have d0:((nd:Int)==0)=false:=by simp;omega
 have d1:decide (-(n:Int)>0)=false:=bD (by omega);have d2:decide (-(n:Int)<0)=true:=bC (by omega);refine C_in Tryz.func262 rfl rfl (by kernel_rfl) (aG rfl) ?_;simp only[↓zp,zw,aA,q1,d0,d1,d2];refine⟨fun m ρ h'=> ∃(k:Nat) (L':List UInt8) (nd':Nat) (dp':Int),ρ 0=.pointer (some ⟨b,0,none⟩)∧ρ 1=.int .i64 (-(k:Int))∧1≤k∧k≤n∧DG h' b L' nd' dp' ng∧dp'≤dp∧dp-15*(n-k)≤dp'∧10*dp'+((L'.getD 0 0).toNat:Int)≤10*dp+((L.getD 0 0).toNat:Int)∧Ext [b] h h'∧m=k,n,⟨n,L,nd,dp,by simp only[↓zp,zw,aA],by simp only[↓zp,zw,aA],by omega,by omega,H0,by omega,by omega,by omega,Ext.refl _ _,rfl⟩,?_⟩;rintro m ρ h2 ⟨k,L',nd',dp',g0,g1,hk1,hkn,⟨tr',k1,k2,k3,k4,k5⟩,hd1,hd2,hd3,hE,hm⟩;by_cases h60:60<k
 ·have d3:decide (-(k:Int)< -60)=true:=bC (by omega);have w1:IntKind.i64.wrap (-(k:Int)+60)= -((k-60:Nat):Int):=by rw[aU _ (by omega)];omega
  simp only[↓zp,zw,aA,g0,g1,d3];refine bH (rs_c k1 k3 k2 k4 k5 (by omega) 60 (by omega)) ?_;rintro _ h3 ⟨rfl,⟨L3,nd3,dp3,tr3,j1,j2,j3,j4,j5,j6,j7,j8⟩,hE3⟩;simp only[↓zp,zw,aA,g0,g1,w1];exact⟨k-60,by omega,k-60,L3,nd3,dp3,(by trivial),(by trivial),by omega,by omega,⟨tr3,j1,j2,j3,j4,j5⟩,by omega,by omega,by omega,hE.trans hE3,(by trivial)⟩
 ·have d3:decide (-(k:Int)< -60)=false:=bD (by omega);have w1:IntKind.i64.wrap (0- -(k:Int))=(k:Int):=by rw[aU _ (by omega)];omega
  have w2:IntKind.u64.wrap (k:Int)=(k:Int):=fG (by omega);simp only[↓zp,zw,aA,g0,g1,d3,w1,w2];refine bH (rs_c k1 k3 k2 k4 k5 (by omega) k (by omega)) ?_;rintro _ h3 ⟨rfl,⟨L3,nd3,dp3,tr3,j1,j2,j3,j4,j5,j6,j7,j8⟩,hE3⟩;simp only[↓zp,zw,aA];exact⟨(by trivial),⟨L3,nd3,dp3,⟨tr3,j1,j2,j3,j4,j5⟩,by omega,by omega,by omega⟩,hE.trans hE3⟩
def LgOut(b:Nat)(L:List UInt8)(dp:Int)(ng:Bool)(h:Heap)(e:Ending)(h':Heap):Prop:=
 e=.returned (.tuple #[])∧(∃(L':List UInt8) (nd':Nat) (dp':Int),DG h' b L' nd' dp' ng∧dp≤dp'∧dp'≤dp+19∧10*dp+((L.getD 0 0).toNat:Int)<10*dp'+((L'.getD 0 0).toNat:Int))∧Ext [b] h h'
theorem shl_c(hG:Gf hI)(hE:Ext [] hI h)(hbI:hI.size≤b)(H:DG h b L nd dp ng)(k:Nat)(hk:1≤k∧k≤60)(hdp: -1000000000≤dp∧dp≤1000000000):
 C aE 262 #[.pointer (some ⟨b,0,none⟩),.int .i64 (k:Int)] h (LgOut b L dp ng h):=by
 obtain⟨tr,k1,k2,k3,k4,k5⟩:=H;obtain⟨q1,q2,q3,q4⟩:=k1.tail;have d0:((nd:Int)==0)=false:=by simp;omega
 have d1:decide ((k:Int)>0)=true:=bC (by omega);have d3:decide ((k:Int)>60)=false:=bD (by omega);have w2:IntKind.u64.wrap (k:Int)=(k:Int):=fG (by omega);refine C_in Tryz.func262 rfl rfl (by kernel_rfl) (aG rfl) ?_;simp only[↓zp,zw,aA,q1,d0,d1];refine⟨fun m ρ h'=>ρ 0=.pointer (some ⟨b,0,none⟩)∧ρ 1=.int .i64 (k:Int)∧h'=h,0,⟨by simp only[↓zp,zw,aA],by simp only[↓zp,zw,aA],rfl⟩,?_⟩;rintro m ρ h2 ⟨g0,g1,hh⟩;rw[hh];simp only[↓zp,zw,aA,g0,g1,d3,w2];refine bH (ls_c hG hE hbI k1 k3 k2 k4 k5 hdp k hk) ?_;rintro _ h3 ⟨rfl,⟨L3,nd3,dp3,tr3,j1,j2,j3,j4,j5,j6,j7,j8⟩,hE3⟩;simp only[↓zp,zw,aA];exact⟨(by trivial),⟨L3,nd3,dp3,⟨tr3,j1,j2,j3,j4,j5⟩,j6,j7,j8⟩,hE3⟩
end
end
section
section
variable{h hI:Heap}{b:Nat}{L:List UInt8}{nd:Nat}{dp:Int}{tr:Bool}
def FJ(b:Nat)(h:Heap)(l:Nat)(ρ:Env)(h':Heap):Prop:=∃(L:List UInt8) (nd:Nat) (dp:Int) (tr:Bool),ρ 0=.pointer (some ⟨b,0,none⟩)∧ρ 1=.pointer (some ⟨10,0,none⟩)∧DB h' b L nd dp false tr∧Ext [b] h h'∧
 ((l=1∧True)∨(l=0∧∃(o:Bool) (e:Int) (n:Nat),ρ 5=.bool o∧ρ 6=.int .i64 e∧ρ 7=.int .u64 (n:Int)∧n<18446744073709551616∧ -1023≤e∧e≤1023))
def FI(b:Nat)(h:Heap)(lo hi:Int)(ρ:Env)(h':Heap)(L:List UInt8)(dp e:Int):Prop:=∃nd:Nat,ρ 0=.pointer (some ⟨b,0,none⟩)∧ρ 1=.pointer (some ⟨10,0,none⟩)∧ρ 5=.bool false∧ρ 6=.int .i64 e∧ρ 7=.int .u64 0∧DG h' b L nd dp false∧Ext [b] h h'∧lo≤dp∧dp≤hi
theorem DG.tail(H:DG h b L nd dp false):bG h b 801=some (.int .i64 dp)∧bG h b 0=some (.int .u8 ((L.getD 0 0).toNat:Int)):=by
 obtain⟨tr,h1,h2,h3,h4,h5⟩:=H;exact⟨h1.tail.2.1,h1.at (j:=0) (by omega)⟩
theorem e33:einf aE 33 1=true:=by kernel_rfl
theorem yL(hG:Gf hI)(hE0:Ext [] hI h)(hbI:hI.size≤b)(H:DB h b L nd dp false tr)(hn:nd≤800)(hD:0<nd→Dg L nd∧(L.getD 0 0).toNat≠48)(hdp: -100000000≤dp∧dp≤100000000):
 C aE 239 #[.pointer (some ⟨b,0,none⟩),.pointer (some ⟨10,0,none⟩)] h fun e h'=>(∃(v:Nat) (o:Bool),e=.returned (.tuple #[.int .u64 (v:Int),.bool o])∧v≤0x7FF0000000000000)∧Ext [b] h h':=by
 have hI10:=kC hG.info.1
 have inf:∀h',Ext [b] h h'→bG h' 10 0=some (.int .u64 52)∧bG h' 10 1=some (.int .u64 11)∧bG h' 10 2=some (.int .i64 (-1023)):=fun h' hE=>
  ⟨hE.cell (hE0.cell hG.info.1 (by simp)) (by simp;omega),hE.cell (hE0.cell hG.info.2.1 (by simp)) (by simp;omega),hE.cell (hE0.cell hG.info.2.2 (by simp)) (by simp;omega)⟩
 have pow:∀h',Ext [b] h h'→∃t o c,bG h' 13 0=some (.slice (some ⟨t,o,none⟩) 9 c)∧∀i,i<9→∃y:Nat,bG h' t (o+i*1)=some (.int .i64 (y:Int))∧1≤y∧y≤27:=fun h' hE=>by
  obtain⟨t,o,c,h1,h2⟩:=hG.pow;have l1:=kC h1;refine⟨t,o,c,hE.cell (hE0.cell h1 (by simp)) (by simp;omega),fun i hi=> ?_⟩;obtain⟨y,h3,h4⟩:=h2 i hi;have l3:=kC h3;exact⟨y,hE.cell (hE0.cell h3 (by simp)) (by simp;omega),h4⟩
 have extI:∀h',Ext [b] h h'→Ext [] hI h':=fun h' hE=>hE0.trans_new hE fun y hy=> .inl (by simp at hy;omega);have s11:IntKind.i64.wrap (1*2^min 11 IntKind.i64.bits)=2048:=by decide
 have s52:IntKind.u64.wrap (1*2^min 52 IntKind.u64.bits)=4503599627370496:=by decide
 have s253:IntKind.u64.wrap (2*2^min 52 IntKind.u64.bits)=9007199254740992:=by decide
 have wA:IntKind.i64.wrap (2048-1)=2047:=by decide
 have wB:IntKind.u64.wrap (4503599627370496-1)=4503599627370495:=by decide
 have wC:IntKind.i64.wrap (-1023+1)= -1022:=by decide
 have wD:IntKind.u64.wrap (1+52)=53:=by decide
 have wE:IntKind.i64.wrap 53=((53:Nat):Int):=by decide
 obtain⟨i0,i1,i2⟩:=inf h (Ext.refl _ _);refine C_in Tryz.func239 rfl rfl (by kernel_rfl) (aG rfl) ?_;simp only[↓zp,zw,aA];refine W_scopeJ (FJ b h) (fun K' hJ hK'=> ?_) ?_
 ·obtain⟨q1,q2,q3,q4⟩:=H.tail;rcases Nat.eq_zero_or_pos nd with n0|n0
  ·have d0:((nd:Int)==0)=true:=by simp[n0]
   simp only[↓zp,zw,aA,q1,d0,i2];exact hJ 0 _ _ (by kernel_rfl) ⟨L,nd,dp,tr,by simp only[↓zp,zw,aA],by simp only[↓zp,zw,aA],H,Ext.refl _ _,.inr ⟨rfl,false,-1023,0,by simp only[↓zp,zw,aA],by simp only[↓zp,zw,aA],by simp only[↓zp,zw,aA];rfl,by omega,by omega,by omega⟩⟩
  have d0:((nd:Int)==0)=false:=by simp;omega
  by_cases h310:dp>310
  ·have d1:decide (dp>310)=true:=bC h310;simp only[↓zp,zw,aA,q1,d0,q2,d1];exact hJ 1 _ _ (by kernel_rfl) ⟨L,nd,dp,tr,by simp only[↓zp,zw,aA],by simp only[↓zp,zw,aA],H,Ext.refl _ _,.inl ⟨rfl,trivial⟩⟩
  have d1:decide (dp>310)=false:=bD h310;by_cases h330:dp< -330
  ·have d2:decide (dp< -330)=true:=bC h330;simp only[↓zp,zw,aA,q1,d0,q2,d1,d2,i2];exact hJ 0 _ _ (by kernel_rfl) ⟨L,nd,dp,tr,by simp only[↓zp,zw,aA],by simp only[↓zp,zw,aA],H,Ext.refl _ _,.inr ⟨rfl,false,-1023,0,by simp only[↓zp,zw,aA],by simp only[↓zp,zw,aA],by simp only[↓zp,zw,aA];rfl,by omega,by omega,by omega⟩⟩
  have d2:decide (dp< -330)=false:=bD h330;have HG:DG h b L nd dp false:=⟨tr,H,n0,hn,hD n0⟩;refine fD 7 (fun ρ h'=> ∃(L:List UInt8) (dp e:Int),FI b h (-1400) 310 ρ h' L dp e∧0≤e∧e≤600000) (fun N hN=> ?_) ?_
  ·simp only[↓zp,zw,aA,cS,cT,q1,d0,q2,d1,d2];have hc0:=HG.c0;refine⟨fun m ρ h'=> ∃(L:List UInt8) (dp e:Int),FI b h (-1400) 310 ρ h' L dp e∧0≤e∧e+27*(m:Int)≤600000∧(m:Int)=10*dp+((L.getD 0 0).toNat:Int)+15000,(10*dp+((L.getD 0 0).toNat:Int)+15000).toNat,⟨L,dp,0,⟨nd,by simp only[↓zp,zw,aA],by simp only[↓zp,zw,aA],by simp only[↓zp,zw,aA],by simp only[↓zp,zw,aA],by simp only[↓zp,zw,aA],HG,Ext.refl _ _,by omega,by omega⟩,by omega,by omega,by omega⟩,?_⟩;clear hc0 HG H hD hn q1 q2 q3 q4 d0 d1 d2 h310 h330 n0 i0 i1 i2 hdp;rintro m ρ h1 ⟨L,dp,e,⟨nd,g0,g1,g5,g6,g7,H,hE,hlo,hhi⟩,he0,hem,hm⟩;obtain⟨q2,q0⟩:=H.tail;have hc0:=H.c0;by_cases hpos:dp>0
   ·have d1:decide (dp>0)=true:=bC hpos;obtain⟨t,o,c,c13,htab⟩:=pow h1 hE;simp only[↓zp,zw,aA,g0,g1,g5,g6,g7,q2,d1];refine bR 6 (by kernel_rfl) (by kernel_rfl) (by kernel_rfl) ?_;by_cases h9:dp≥9
    ·have d2:decide (dp≥((9:Nat):Int))=true:=bC h9;have wn:IntKind.i64.wrap (0-27)= -((27:Nat):Int):=by decide
     have we:IntKind.i64.wrap (e+27)=e+27:=aU _ (by omega);simp only[↓zp,zw,aA,g0,g1,g5,g6,g7,q2,c13,d2,wn];refine bH (shr_c H 27 (by omega) (by omega)) ?_;rintro _ h3 ⟨rfl,⟨L3,nd3,dp3,j1,j2,j3,j4⟩,hE3⟩;have hc3:=j1.c0;simp only[↓zp,zw,aA,g0,g1,g5,g6,g7,we];exact⟨(10*dp3+((L3.getD 0 0).toNat:Int)+15000).toNat,by omega,L3,dp3,e+27,⟨nd3,(by trivial),(by trivial),(by trivial),(by trivial),(by trivial),j1,hE.trans hE3,by omega,by omega⟩,by omega,by omega,by omega⟩
    ·have d2:decide (dp≥((9:Nat):Int))=false:=bD h9;obtain⟨i,rfl⟩:=Int.eq_ofNat_of_zero_le (show 0≤dp by omega);obtain⟨y,cy,y1,y2⟩:=htab i (by omega);have b1:(0:Int)≤(i:Int)∧(i:Int)<((9:Nat):Int):=by omega
     have wn:IntKind.i64.wrap (0-(y:Int))= -(y:Int):=by rw[aU _ (by omega)];omega
     have we:IntKind.i64.wrap (e+(y:Int))=e+(y:Int):=aU _ (by omega);simp only[↓zp,zw,aA,g0,g1,g5,g6,g7,q2,c13,d2];refine bR 7 (by kernel_rfl) (by kernel_rfl) (by kernel_rfl) ?_;simp only[↓zp,zw,aA,g0,g1,g5,g6,g7,q2,c13,b1,e33,aF,cy,wn];refine bH (shr_c H y (by omega) (by omega)) ?_;rintro _ h3 ⟨rfl,⟨L3,nd3,dp3,j1,j2,j3,j4⟩,hE3⟩;have hc3:=j1.c0;simp only[↓zp,zw,aA,g0,g1,g5,g6,g7,we];exact⟨(10*dp3+((L3.getD 0 0).toNat:Int)+15000).toNat,by omega,L3,dp3,e+y,⟨nd3,(by trivial),(by trivial),(by trivial),(by trivial),(by trivial),j1,hE.trans hE3,by omega,by omega⟩,by omega,by omega,by omega⟩
   ·have d1:decide (dp>0)=false:=bD hpos;simp only[↓zp,zw,aA,g0,g1,g5,g6,g7,q2,d1];exact hN _ _ ⟨L,dp,e,⟨nd,by simp only[↓zp,zw,aA,g0],by simp only[↓zp,zw,aA,g1],by simp only[↓zp,zw,aA,g5],by simp only[↓zp,zw,aA,g6],by simp only[↓zp,zw,aA,g7],H,hE,hlo,hhi⟩,he0,by omega⟩
  clear HG H hD hn q1 q2 q3 q4 d0 d1 d2 h310 h330 n0 i0 i1 i2 hdp;rintro ρ h1 ⟨L,dp,e,⟨nd,g0,g1,g5,g6,g7,H,hE,hlo,hhi⟩,he0,he1⟩
  (repeat rw[dC]);rw[dE]
  refine fD 1 (fun ρ h'=> ∃(L:List UInt8) (dp e:Int),FI b h (-1400) 400 ρ h' L dp e∧ -950000≤e∧e≤600000) (fun N hN=> ?_) ?_
  ·simp only[↓zp,zw,aA,cS,cT];have hc0:=H.c0;refine⟨fun m ρ h'=> ∃(L:List UInt8) (dp e:Int),FI b h (-1400) 400 ρ h' L dp e∧e≤600000∧27*(m:Int)-950000≤e∧(m:Int)=20000-(10*dp+((L.getD 0 0).toNat:Int)),(20000-(10*dp+((L.getD 0 0).toNat:Int))).toNat,⟨L,dp,e,⟨nd,g0,g1,g5,g6,g7,H,hE,by omega,by omega⟩,by omega,by omega,by omega⟩,?_⟩;clear hc0 H g0 g1 g5 g6 g7 he0 he1;rintro m ρ h1 ⟨L,dp,e,⟨nd,g0,g1,g5,g6,g7,H,hE,hlo,hhi⟩,he0,hem,hm⟩;obtain⟨q2,q0⟩:=H.tail;have hc0:=H.c0;obtain⟨t,o,c,c13,htab⟩:=pow h1 hE;have b0:(0:Int)≤0∧(0:Int)<((800:Nat):Int):=by decide
   have t0:(0:Int).toNat=0:=rfl;by_cases hneg:dp<0
   ·have d1:decide (dp<0)=true:=bC hneg;simp only[↓zp,zw,aA,g0,g1,g5,g6,g7,q2,d1];refine bR 7 (by kernel_rfl) (by kernel_rfl) (by kernel_rfl) ?_;obtain⟨i,hi⟩:=Int.eq_ofNat_of_zero_le (show 0≤0-dp by omega);have w0:IntKind.i64.wrap (0-dp)=(i:Int):=by rw[aU _ (by omega),hi]
    by_cases h9:9≤i
    ·have d2:decide ((i:Int)≥((9:Nat):Int))=true:=bC (by omega);have we:IntKind.i64.wrap (e-27)=e-27:=aU _ (by omega);simp only[↓zp,zw,aA,g0,g1,g5,g6,g7,q2,w0,c13,d2];refine bH (shl_c hG (extI _ hE) hbI H 27 (by omega) (by omega)) ?_;rintro _ h3 ⟨rfl,⟨L3,nd3,dp3,j1,j2,j3,j4⟩,hE3⟩;have hc3:=j1.c0;simp only[↓zp,zw,aA,g0,g1,g5,g6,g7,we];exact⟨(20000-(10*dp3+((L3.getD 0 0).toNat:Int))).toNat,by omega,L3,dp3,e-27,⟨nd3,(by trivial),(by trivial),(by trivial),(by trivial),(by trivial),j1,hE.trans hE3,by omega,by omega⟩,by omega,by omega,by omega⟩
    ·have d2:decide ((i:Int)≥((9:Nat):Int))=false:=bD (by omega);obtain⟨y,cy,y1,y2⟩:=htab i (by omega);have b1:(0:Int)≤(i:Int)∧(i:Int)<((9:Nat):Int):=by omega
     have we:IntKind.i64.wrap (e-(y:Int))=e-(y:Int):=aU _ (by omega);simp only[↓zp,zw,aA,g0,g1,g5,g6,g7,q2,w0,c13,d2];refine bR 8 (by kernel_rfl) (by kernel_rfl) (by kernel_rfl) ?_;simp only[↓zp,zw,aA,g0,g1,g5,g6,g7,q2,w0,c13,b1,e33,aF,cy];refine bH (shl_c hG (extI _ hE) hbI H y (by omega) (by omega)) ?_;rintro _ h3 ⟨rfl,⟨L3,nd3,dp3,j1,j2,j3,j4⟩,hE3⟩;have hc3:=j1.c0;simp only[↓zp,zw,aA,g0,g1,g5,g6,g7,we];exact⟨(20000-(10*dp3+((L3.getD 0 0).toNat:Int))).toNat,by omega,L3,dp3,e-y,⟨nd3,(by trivial),(by trivial),(by trivial),(by trivial),(by trivial),j1,hE.trans hE3,by omega,by omega⟩,by omega,by omega,by omega⟩
   ·have d1:decide (dp<0)=false:=bD hneg;by_cases hz:dp=0
    ·have d2:(dp==0)=true:=by simp[hz]
     by_cases h53:(L.getD 0 0).toNat<53
     ·have d3:decide (((L.getD 0 0).toNat:Int)<53)=true:=bC (by omega);obtain⟨y,cy,y1,y2⟩:=htab 0 (by omega);have w0:IntKind.i64.wrap (0-dp)=0:=by rw[hz];rfl
      have d4:decide ((0:Int)≥((9:Nat):Int))=false:=by decide
      have b1:(0:Int)≤0∧(0:Int)<((9:Nat):Int):=by decide
      have we:IntKind.i64.wrap (e-(y:Int))=e-(y:Int):=aU _ (by omega);simp only[↓zp,zw,aA,g0,g1,g5,g6,g7,q2,d1,d2,b0,t0,aR,aP,aF,aQ,q0,d3];refine bR 7 (by kernel_rfl) (by kernel_rfl) (by kernel_rfl) ?_;simp only[↓zp,zw,aA,g0,g1,g5,g6,g7,q2,w0,c13,d4];refine bR 8 (by kernel_rfl) (by kernel_rfl) (by kernel_rfl) ?_;simp only[↓zp,zw,aA,g0,g1,g5,g6,g7,q2,w0,c13,b1,e33,t0,cy];refine bH (shl_c hG (extI _ hE) hbI H y (by omega) (by omega)) ?_;rintro _ h3 ⟨rfl,⟨L3,nd3,dp3,j1,j2,j3,j4⟩,hE3⟩;have hc3:=j1.c0;simp only[↓zp,zw,aA,g0,g1,g5,g6,g7,we];exact⟨(20000-(10*dp3+((L3.getD 0 0).toNat:Int))).toNat,by omega,L3,dp3,e-y,⟨nd3,(by trivial),(by trivial),(by trivial),(by trivial),(by trivial),j1,hE.trans hE3,by omega,by omega⟩,by omega,by omega,by omega⟩
     ·have d3:decide (((L.getD 0 0).toNat:Int)<53)=false:=bD (by omega);simp only[↓zp,zw,aA,g0,g1,g5,g6,g7,q2,d1,d2,b0,t0,aR,aP,aF,aQ,q0,d3];exact hN _ _ ⟨L,dp,e,⟨nd,by simp only[↓zp,zw,aA,g0],by simp only[↓zp,zw,aA,g1],by simp only[↓zp,zw,aA,g5],by simp only[↓zp,zw,aA,g6],by simp only[↓zp,zw,aA,g7],H,hE,hlo,hhi⟩,by omega,he0⟩
    ·have d2:(dp==0)=false:=by simp[hz]
     simp only[↓zp,zw,aA,g0,g1,g5,g6,g7,q2,d1,d2];exact hN _ _ ⟨L,dp,e,⟨nd,by simp only[↓zp,zw,aA,g0],by simp only[↓zp,zw,aA,g1],by simp only[↓zp,zw,aA,g5],by simp only[↓zp,zw,aA,g6],by simp only[↓zp,zw,aA,g7],H,hE,hlo,hhi⟩,by omega,he0⟩
  clear H hE hlo hhi he0 he1 g0 g1 g5 g6 g7;rintro ρ h1 ⟨L,dp,e0,⟨nd,g0,g1,g5,g6,g7,H,hE,hlo,hhi⟩,he0,he1⟩
  (repeat rw[dC]);rw[dE]
  obtain⟨e,he⟩:∃e,e0-1=e:=⟨_,rfl⟩;have w1:IntKind.i64.wrap (e0-1)=e:=by rw[aU _ (by omega),he]
  obtain⟨i0,i1,i2⟩:=inf h1 hE;refine fD 2 (fun ρ h'=> ∃(L:List UInt8) (dp e:Int),FI b h (-1000000000) 400 ρ h' L dp e∧ -1022≤e∧e≤600000) (fun N hN=> ?_) ?_
  ·by_cases hmin:e< -1022
   ·have d1:decide (e< -1022)=true:=bC hmin;obtain⟨n,hn⟩:=Int.eq_ofNat_of_zero_le (show 0≤ -1022-e by omega);have w2:IntKind.i64.wrap (-1022-e)=(n:Int):=by rw[aU _ (by omega),hn]
    have w3:IntKind.i64.wrap (0-(n:Int))= -(n:Int):=by rw[aU _ (by omega)];omega
    have w4:IntKind.i64.wrap (e+(n:Int))= -1022:=by rw[aU _ (by omega)];omega
    simp only[↓zp,zw,aA,cS,cT,g0,g1,g5,g6,g7,w1,i2,wC,d1,w2,w3];refine bH (shr_c H n (by omega) (by omega)) ?_;rintro _ h3 ⟨rfl,⟨L3,nd3,dp3,j1,j2,j3,j4⟩,hE3⟩;simp only[↓zp,zw,aA,g0,g1,g5,g6,g7,w4];exact hN _ _ ⟨L3,dp3,-1022,⟨nd3,by simp only[↓zp,zw,aA,g0],by simp only[↓zp,zw,aA,g1],by simp only[↓zp,zw,aA,g5],by simp only[↓zp,zw,aA],by simp only[↓zp,zw,aA,g7],j1,hE.trans hE3,by omega,by omega⟩,by omega,by omega⟩
   ·have d1:decide (e< -1022)=false:=bD hmin;simp only[↓zp,zw,aA,cS,cT,g0,g1,g5,g6,g7,w1,i2,wC,d1];exact hN _ _ ⟨L,dp,e,⟨nd,by simp only[↓zp,zw,aA,g0],by simp only[↓zp,zw,aA,g1],by simp only[↓zp,zw,aA,g5],by simp only[↓zp,zw,aA],by simp only[↓zp,zw,aA,g7],H,hE,by omega,by omega⟩,by omega,by omega⟩
  clear H hE hlo hhi he0 he1 g0 g1 g5 g6 g7 w1 he i0 i1 i2;rintro ρ h1 ⟨L,dp,e,⟨nd,g0,g1,g5,g6,g7,H,hE,hlo,hhi⟩,he0,he1⟩
  (repeat rw[dC]);rw[dE]
  obtain⟨i0,i1,i2⟩:=inf h1 hE;have w1:IntKind.i64.wrap (e- -1023)=e+1023:=by rw[aU _ (by omega)];omega
  simp only[↓zp,zw,aA];refine bR 12 (by kernel_rfl) (by kernel_rfl) (by kernel_rfl) ?_;by_cases hbig:e+1023≥2047
  ·have d1:decide (e+1023≥2047)=true:=bC hbig;obtain⟨tr,H1,_⟩:=H;simp only[↓zp,zw,aA,g0,g1,g5,g6,g7,i1,i2,w1,dG (b:=11) 11 rfl,s11,wA,d1];exact hJ 1 _ _ (by kernel_rfl) ⟨L,nd,dp,tr,by simp only[↓zp,zw,aA,g0],by simp only[↓zp,zw,aA,g1],H1,hE,.inl ⟨rfl,trivial⟩⟩
  have d1:decide (e+1023≥2047)=false:=bD hbig;simp only[↓zp,zw,aA,g0,g1,g5,g6,g7,i0,i1,i2,w1,dG (b:=11) 11 rfl,s11,wA,d1,wD,wE];refine bH (shl_c hG (extI _ hE) hbI H 53 (by omega) (by omega)) ?_;rintro _ h3 ⟨rfl,⟨L3,nd3,dp3,H3,j2,j3,j4⟩,hE3⟩;have H3':=H3;obtain⟨tr3,D3,_,n3,_⟩:=H3;simp only[↓zp,zw,aA,g0,g1,g5,g6,g7];refine bH (rint_c D3 n3 (by omega)) ?_;rintro _ h4 ⟨⟨n,rfl,hn64⟩,rfl⟩;have E3:=hE.trans hE3;obtain⟨i0,i1,i2⟩:=inf h4 E3;have bz:∀n:Nat,n<18446744073709551616→∃q:Nat,band .u64 (n:Int) 4503599627370496=(q:Int):=fun n hn=>⟨_,jT (b:=4503599627370496) hn (by omega)⟩
  cases h2m:((n:Int)==9007199254740992)with
  |true=>
   have w2:IntKind.i64.wrap (e+1)=e+1:=aU _ (by omega);have w3:IntKind.i64.wrap (e+1- -1023)=e+1+1023:=by rw[aU _ (by omega)];omega
   have sh:=kX (a:=n) (n:=1) (by omega);have hn1:n/2^1<18446744073709551616:=by omega
   simp only[↓zp,zw,aA,g0,g1,g5,g6,g7,i0,dG (b:=52) 52 rfl,s253,h2m,dB (b:=1) 1 rfl,sh,w2];refine bR 12 (by kernel_rfl) (by kernel_rfl) (by kernel_rfl) ?_;by_cases hbig2:e+1+1023≥2047
   ·have d2:decide (e+1+1023≥2047)=true:=bC hbig2;simp only[↓zp,zw,aA,g0,g1,g5,i1,i2,w3,dG (b:=11) 11 rfl,s11,wA,d2];exact hJ 1 _ _ (by kernel_rfl) ⟨L3,nd3,dp3,tr3,by simp only[↓zp,zw,aA,g0],by simp only[↓zp,zw,aA,g1],D3,E3,.inl ⟨rfl,trivial⟩⟩
   ·have d2:decide (e+1+1023≥2047)=false:=bD hbig2;obtain⟨q,hq⟩:=bz _ hn1
    cases hz:((q:Int)==0)with
    |true=>
     simp only[↓zp,zw,aA,g0,g1,g5,i0,i1,i2,w3,dG (b:=11) 11 rfl,s11,wA,d2,dG (b:=52) 52 rfl,s52,hq,hz]
     exact hJ 0 _ _ (by kernel_rfl) ⟨L3,nd3,dp3,tr3,by simp only[↓zp,zw,aA,g0],by simp only[↓zp,zw,aA,g1],D3,E3,.inr ⟨rfl,false,-1023,_,by simp only[↓zp,zw,aA,g5],by simp only[↓zp,zw,aA],by simp only[↓zp,zw,aA],hn1,by omega,by omega⟩⟩
    |false=>
     simp only[↓zp,zw,aA,g0,g1,g5,i0,i1,i2,w3,dG (b:=11) 11 rfl,s11,wA,d2,dG (b:=52) 52 rfl,s52,hq,hz]
     exact hJ 0 _ _ (by kernel_rfl) ⟨L3,nd3,dp3,tr3,by simp only[↓zp,zw,aA,g0],by simp only[↓zp,zw,aA,g1],D3,E3,.inr ⟨rfl,false,e+1,_,by simp only[↓zp,zw,aA,g5],by simp only[↓zp,zw,aA],by simp only[↓zp,zw,aA],hn1,by omega,by omega⟩⟩
  |false=>
   obtain⟨q,hq⟩:=bz _ hn64
   cases hz:((q:Int)==0)with
   |true=>
    simp only[↓zp,zw,aA,g0,g1,g5,g6,g7,i0,i1,i2,dG (b:=52) 52 rfl,s253,h2m,s52,hq,hz]
    exact hJ 0 _ _ (by kernel_rfl) ⟨L3,nd3,dp3,tr3,by simp only[↓zp,zw,aA,g0],by simp only[↓zp,zw,aA,g1],D3,E3,.inr ⟨rfl,false,-1023,_,by simp only[↓zp,zw,aA,g5],by simp only[↓zp,zw,aA],by simp only[↓zp,zw,aA],hn64,by omega,by omega⟩⟩
   |false=>
    simp only[↓zp,zw,aA,g0,g1,g5,g6,g7,i0,i1,i2,dG (b:=52) 52 rfl,s253,h2m,s52,hq,hz];exact hJ 0 _ _ (by kernel_rfl) ⟨L3,nd3,dp3,tr3,by simp only[↓zp,zw,aA,g0],by simp only[↓zp,zw,aA,g1],D3,E3,.inr ⟨rfl,false,e,_,by simp only[↓zp,zw,aA,g5],by simp only[↓zp,zw,aA,g6],by simp only[↓zp,zw,aA],hn64,by omega,by omega⟩⟩
 ·clear H hD hn hdp i0 i1 i2;rintro l ρ h1 rest ⟨L,nd,dp,tr,g0,g1,H,hE,⟨rfl,_⟩|⟨rfl,o,e,n,g5,g6,g7,hn,he1,he2⟩⟩ hfl K' hK'
  ·cases hfl;obtain⟨i0,i1,i2⟩:=inf h1 hE;obtain⟨q1,q2,q3,q4⟩:=H.tail;have w1:IntKind.i64.wrap (2047+ -1023)=1024:=by decide
   have w2:IntKind.i64.wrap (1024- -1023)=2047:=by decide
   have a1:band .u64 0 4503599627370495=0:=by decide
   have a2:band .i64 2047 2047=2047:=by decide
   have w3:IntKind.u64.wrap 2047=2047:=by decide
   have w4:IntKind.u64.wrap (2047*2^min 52 IntKind.u64.bits)=9218868437227405312:=by decide
   have o1:bor .u64 0 9218868437227405312=((9218868437227405312:Nat):Int):=by decide
   simp only[↓zp,zw,aA];refine bR 11 (by kernel_rfl) (by kernel_rfl) (by kernel_rfl) ?_;simp only[↓zp,zw,aA,g0,g1,i0,i1,i2,dG (b:=11) 11 rfl,s11,wA,w1,dG (b:=52) 52 rfl,s52,wB,a1];refine bR 21 (by kernel_rfl) (by kernel_rfl) (by kernel_rfl) ?_;simp only[↓zp,zw,aA,g0,g1,i0,i1,i2,dG (b:=11) 11 rfl,s11,wA,w2,a2,w3,dG (b:=52) 52 rfl,w4,o1,q3,hK'];exact⟨⟨_,true,(by trivial),by decide⟩,hE⟩
  ·cases hfl;obtain⟨i0,i1,i2⟩:=inf h1 hE;obtain⟨q1,q2,q3,q4⟩:=H.tail;obtain⟨k,hk⟩:=Int.eq_ofNat_of_zero_le (show 0≤e+1023 by omega);have w2:IntKind.i64.wrap (e- -1023)=(k:Int):=by rw[aU _ (by omega)];omega
   have a1:band .u64 (n:Int) 4503599627370495=((n%2^52:Nat):Int):=by
    rw[show(4503599627370495:Int)=((4503599627370495:Nat):Int)from rfl,jT hn (by omega),show(4503599627370495:Nat)=2^52-1 from rfl,lW]
   have a2:band .i64 (k:Int) 2047=(k:Int):=by
    rw[show(2047:Int)=((2047:Nat):Int)from rfl,band63 (by omega) (by omega),show(2047:Nat)=2^11-1 from rfl,lW,Nat.mod_eq_of_lt (by omega)]
   have w3:IntKind.u64.wrap (k:Int)=(k:Int):=fG (by omega)
   have w4:IntKind.u64.wrap ((k:Int)*2^min 52 IntKind.u64.bits)=((k*2^52:Nat):Int):=by
    rw[show((2:Int)^min 52 IntKind.u64.bits)=((2^52:Nat):Int)from rfl,←Int.natCast_mul,fG (by omega)]
   have hlt:n%2^52<2^52:=Nat.mod_lt _ (by decide)
   have o1:bor .u64 ((n%2^52:Nat):Int) ((k*2^52:Nat):Int)=((n%2^52+k*2^52:Nat):Int):=by
    rw[kZ (by omega) (by omega),vI hlt]
   simp only[↓zp,zw,aA,g0,g1,g5,g6,g7,i0,i1,i2,dG (b:=52) 52 rfl,s52,wB,a1];refine bR 21 (by kernel_rfl) (by kernel_rfl) (by kernel_rfl) ?_;simp only[↓zp,zw,aA,g0,g1,g5,g6,g7,i0,i1,i2,dG (b:=11) 11 rfl,s11,wA,w2,a2,w3,dG (b:=52) 52 rfl,w4,o1,q3,hK'];exact⟨⟨_,o,(by trivial),by omega⟩,hE⟩
end
end
end Go.Proofs.YtfmbepijhnaklaaGreatDoor
