/- Proved here: The tables of the program that the light calculus asks | Regions that draw their order, in the light calculus | The rules of the light calculus as equations for 'simp only' | Memory for the light calculus. Conditions: what each statement names. -/
import Derived.Test.YtfmbepijhnaklaaGreatDoorK01
import Derived.StillTail
set_option maxRecDepth 100000
set_option maxHeartbeats 4000000
set_option linter.unusedSimpArgs false
set_option linter.unusedVariables false
set_option linter.defProp false
open Nat renaming reduceEqDiff → aA, le_of_ble_eq_true → aG, mul_one → aP, zero_mul → aQ, zero_add → aR, reduceBEq → aY, reduceAdd → aZ, le_refl → bA
open List renaming length_cons → aB, length_append → aC, length_nil → aD, map_toArray → aH, map_cons → aJ, map_nil → aK, perm_iff_count → aM, count_append → aO, getElem?_eq_getElem → aS, count_cons → aT, count_nil → aV
open Go.Proofs.Tryz renaming prog → aE
open Int renaming toNat_natCast → aF, toNat_zero → aN, toNat_one → aX
open Bool renaming false_eq_true → aI, eq_iff_iff → aW
open And renaming intro → aL
open Go.IntWalk renaming i64_in → aU
namespace Go.Proofs.YtfmbepijhnaklaaGreatDoor
set_option maxRecDepth 100000 in
theorem tsz:szOf aE 3=some (false,1)∧
 szOf aE 4=some (false,1)∧
 szOf aE 5=some (false,1)∧
 szOf aE 9=some (false,1)∧
 szOf aE 23=some (false,1)∧
 szOf aE 24=some (false,1)∧
 szOf aE 31=some (false,1)∧
 szOf aE 32=some (false,1)∧
 szOf aE 33=some (false,1)∧
 szOf aE 35=some (true,6)∧
 szOf aE 40=some (true,2)∧
 szOf aE 41=some (true,114)∧
 szOf aE 44=some (true,115)∧
 szOf aE 51=some (false,1)∧
 szOf aE 56=some (false,1)∧
 szOf aE 58=some (false,1)∧
 szOf aE 61=some (true,6)∧
 szOf aE 73=some (true,7)∧
 szOf aE 78=some (true,1)∧
 szOf aE 85=some (false,1)∧
 szOf aE 95=some (true,1)∧
 szOf aE 99=some (true,5)∧
 szOf aE 112=some (false,1)∧
 szOf aE 113=some (false,1)∧
 szOf aE 115=some (true,2)∧
 szOf aE 119=some (false,1)∧
 szOf aE 126=some (true,2)∧
 szOf aE 127=some (false,1)∧
 szOf aE 129=some (false,1)∧
 szOf aE 138=some (false,1)∧
 szOf aE 139=some (false,1)∧
 szOf aE 145=some (false,1)∧
 szOf aE 146=some (false,1)∧
 szOf aE 150=some (true,3)∧
 szOf aE 153=some (true,3)∧
 szOf aE 158=some (true,2)∧
 szOf aE 174=some (true,3)∧
 szOf aE 191=some (true,256)∧
 szOf aE 213=some (false,1)∧
 szOf aE 219=some (true,3)∧
 szOf aE 225=some (true,24)∧
 szOf aE 244=some (true,800)∧
 szOf aE 246=some (true,804)∧
 szOf aE 255=some (true,1)∧
 szOf aE 258=some (true,65)∧
 szOf aE 262=some (false,1)∧
 szOf aE 264=some (true,3)∧
 szOf aE 274=some (false,1)∧
 szOf aE 278=some (true,2)∧
 szOf aE 285=some (true,2)∧
 szOf aE 286=some (false,1):=
 by and_intros<;>kernel_rfl
set_option maxRecDepth 100000 in
theorem tfo:fofs aE 35 0=some 0∧
 fofs aE 35 1=some 1∧
 fofs aE 35 2=some 2∧
 fofs aE 35 3=some 3∧
 fofs aE 35 4=some 4∧
 fofs aE 35 5=some 5∧
 fofs aE 40 0=some 0∧
 fofs aE 40 1=some 1∧
 fofs aE 44 0=some 0∧
 fofs aE 44 1=some 1∧
 fofs aE 61 0=some 0∧
 fofs aE 61 1=some 1∧
 fofs aE 61 2=some 2∧
 fofs aE 61 3=some 3∧
 fofs aE 61 4=some 4∧
 fofs aE 61 5=some 5∧
 fofs aE 73 0=some 0∧
 fofs aE 73 1=some 1∧
 fofs aE 73 2=some 2∧
 fofs aE 73 3=some 3∧
 fofs aE 73 4=some 4∧
 fofs aE 73 5=some 5∧
 fofs aE 73 6=some 6∧
 fofs aE 78 0=some 0∧
 fofs aE 95 0=some 0∧
 fofs aE 99 0=some 0∧
 fofs aE 99 1=some 1∧
 fofs aE 99 2=some 2∧
 fofs aE 99 3=some 3∧
 fofs aE 99 4=some 4∧
 fofs aE 115 0=some 0∧
 fofs aE 115 1=some 1∧
 fofs aE 126 0=some 0∧
 fofs aE 126 1=some 1∧
 fofs aE 148 0=some 0∧
 fofs aE 148 1=some 1∧
 fofs aE 148 2=some 2∧
 fofs aE 150 0=some 0∧
 fofs aE 150 1=some 1∧
 fofs aE 150 2=some 2∧
 fofs aE 153 0=some 0∧
 fofs aE 153 1=some 1∧
 fofs aE 153 2=some 2∧
 fofs aE 158 0=some 0∧
 fofs aE 158 1=some 1∧
 fofs aE 237 0=some 0∧
 fofs aE 237 1=some 1∧
 fofs aE 237 2=some 2∧
 fofs aE 246 0=some 0∧
 fofs aE 246 1=some 800∧
 fofs aE 246 2=some 801∧
 fofs aE 246 3=some 802∧
 fofs aE 246 4=some 803∧
 fofs aE 264 0=some 0∧
 fofs aE 264 1=some 1∧
 fofs aE 264 2=some 2∧
 fofs aE 278 0=some 0∧
 fofs aE 278 1=some 1∧
 fofs aE 285 0=some 0∧
 fofs aE 285 1=some 1:=
 by and_intros<;>kernel_rfl
set_option maxRecDepth 100000 in
theorem ten:entb aE 4=true∧
 entb aE 5=true∧
 entb aE 6=true∧
 entb aE 7=true∧
 entb aE 8=true∧
 entb aE 9=true∧
 entb aE 10=true∧
 entb aE 11=true∧
 entb aE 12=true∧
 entb aE 13=true∧
 entb aE 14=true∧
 entb aE 15=true∧
 entb aE 16=true∧
 entb aE 17=true∧
 entb aE 18=true∧
 entb aE 19=true∧
 entb aE 20=true∧
 entb aE 21=true∧
 entb aE 22=true∧
 entb aE 23=true∧
 entb aE 24=true∧
 entb aE 25=true∧
 entb aE 26=true∧
 entb aE 27=true∧
 entb aE 28=true∧
 entb aE 29=true∧
 entb aE 30=true∧
 entb aE 31=true∧
 entb aE 32=true∧
 entb aE 33=true∧
 entb aE 34=true∧
 entb aE 35=true∧
 entb aE 36=true∧
 entb aE 37=true∧
 entb aE 38=true∧
 entb aE 39=true∧
 entb aE 40=true∧
 entb aE 41=true∧
 entb aE 42=true∧
 entb aE 43=true∧
 entb aE 44=true∧
 entb aE 45=true∧
 entb aE 46=true∧
 entb aE 47=true∧
 entb aE 49=true∧
 entb aE 50=true∧
 entb aE 51=true∧
 entb aE 52=true∧
 entb aE 53=true∧
 entb aE 54=true∧
 entb aE 55=true∧
 entb aE 56=true∧
 entb aE 57=true∧
 entb aE 58=true∧
 entb aE 59=true∧
 entb aE 60=true∧
 entb aE 61=true∧
 entb aE 62=true∧
 entb aE 63=true∧
 entb aE 64=true∧
 entb aE 65=true∧
 entb aE 66=true∧
 entb aE 67=true∧
 entb aE 68=true∧
 entb aE 69=true∧
 entb aE 70=true∧
 entb aE 71=true∧
 entb aE 72=true∧
 entb aE 73=true∧
 entb aE 74=true∧
 entb aE 75=true∧
 entb aE 76=true∧
 entb aE 77=true∧
 entb aE 78=true∧
 entb aE 79=true∧
 entb aE 80=true∧
 entb aE 81=true∧
 entb aE 82=true∧
 entb aE 83=true∧
 entb aE 84=true∧
 entb aE 85=true∧
 entb aE 86=true∧
 entb aE 87=true∧
 entb aE 88=true∧
 entb aE 89=true∧
 entb aE 90=true∧
 entb aE 91=true∧
 entb aE 92=true∧
 entb aE 93=true∧
 entb aE 94=true∧
 entb aE 95=true∧
 entb aE 96=true∧
 entb aE 97=true∧
 entb aE 98=true∧
 entb aE 99=true∧
 entb aE 100=true∧
 entb aE 101=true∧
 entb aE 102=true∧
 entb aE 103=true∧
 entb aE 104=true∧
 entb aE 105=true∧
 entb aE 106=true∧
 entb aE 107=true∧
 entb aE 108=true∧
 entb aE 109=true∧
 entb aE 110=true∧
 entb aE 111=true∧
 entb aE 112=true∧
 entb aE 113=true∧
 entb aE 114=true∧
 entb aE 115=true∧
 entb aE 116=true∧
 entb aE 117=true∧
 entb aE 118=true∧
 entb aE 119=true∧
 entb aE 120=true∧
 entb aE 121=true∧
 entb aE 122=true∧
 entb aE 123=true∧
 entb aE 124=true∧
 entb aE 125=true∧
 entb aE 126=true∧
 entb aE 127=true∧
 entb aE 128=true∧
 entb aE 129=true∧
 entb aE 130=true∧
 entb aE 131=true∧
 entb aE 132=true∧
 entb aE 133=true∧
 entb aE 134=true∧
 entb aE 135=true∧
 entb aE 136=true∧
 entb aE 137=true∧
 entb aE 139=true∧
 entb aE 140=true∧
 entb aE 141=true∧
 entb aE 142=true∧
 entb aE 143=true∧
 entb aE 144=true∧
 entb aE 145=true∧
 entb aE 146=true∧
 entb aE 147=true∧
 entb aE 148=true∧
 entb aE 149=true∧
 entb aE 150=true∧
 entb aE 151=true∧
 entb aE 152=true∧
 entb aE 153=true∧
 entb aE 154=true∧
 entb aE 155=true∧
 entb aE 156=true∧
 entb aE 157=true∧
 entb aE 158=true∧
 entb aE 159=true∧
 entb aE 161=true∧
 entb aE 162=true∧
 entb aE 163=true∧
 entb aE 164=true∧
 entb aE 165=true∧
 entb aE 166=true∧
 entb aE 167=true∧
 entb aE 168=true∧
 entb aE 169=true∧
 entb aE 170=true∧
 entb aE 171=true∧
 entb aE 172=true∧
 entb aE 173=true∧
 entb aE 174=true∧
 entb aE 175=true∧
 entb aE 176=true∧
 entb aE 177=true∧
 entb aE 179=true∧
 entb aE 180=true∧
 entb aE 181=true∧
 entb aE 182=true∧
 entb aE 183=true∧
 entb aE 184=true∧
 entb aE 185=true∧
 entb aE 186=true∧
 entb aE 187=true∧
 entb aE 189=true∧
 entb aE 190=true∧
 entb aE 191=true∧
 entb aE 192=true∧
 entb aE 193=true∧
 entb aE 194=true∧
 entb aE 195=true∧
 entb aE 196=true∧
 entb aE 198=true∧
 entb aE 199=true∧
 entb aE 200=true∧
 entb aE 201=true∧
 entb aE 202=true∧
 entb aE 203=true∧
 entb aE 204=true∧
 entb aE 205=true∧
 entb aE 206=true∧
 entb aE 207=true∧
 entb aE 208=true∧
 entb aE 209=true∧
 entb aE 210=true∧
 entb aE 211=true∧
 entb aE 212=true∧
 entb aE 213=true∧
 entb aE 214=true∧
 entb aE 215=true∧
 entb aE 216=true∧
 entb aE 217=true∧
 entb aE 218=true∧
 entb aE 219=true∧
 entb aE 220=true∧
 entb aE 221=true∧
 entb aE 222=true∧
 entb aE 223=true∧
 entb aE 224=true∧
 entb aE 225=true∧
 entb aE 226=true∧
 entb aE 227=true∧
 entb aE 228=true∧
 entb aE 229=true∧
 entb aE 230=true∧
 entb aE 231=true∧
 entb aE 232=true∧
 entb aE 233=true∧
 entb aE 234=true∧
 entb aE 236=true∧
 entb aE 237=true∧
 entb aE 238=true∧
 entb aE 239=true∧
 entb aE 240=true∧
 entb aE 242=true∧
 entb aE 243=true∧
 entb aE 244=true∧
 entb aE 245=true∧
 entb aE 246=true∧
 entb aE 247=true∧
 entb aE 248=true∧
 entb aE 249=true∧
 entb aE 250=true∧
 entb aE 251=true∧
 entb aE 252=true∧
 entb aE 253=true∧
 entb aE 254=true∧
 entb aE 255=true∧
 entb aE 256=true∧
 entb aE 257=true∧
 entb aE 258=true∧
 entb aE 259=true∧
 entb aE 260=true∧
 entb aE 261=true∧
 entb aE 262=true∧
 entb aE 263=true∧
 entb aE 264=true∧
 entb aE 265=true∧
 entb aE 266=true∧
 entb aE 267=true∧
 entb aE 268=true∧
 entb aE 269=true∧
 entb aE 270=true∧
 entb aE 271=true∧
 entb aE 272=true∧
 entb aE 273=true:=
 by and_intros<;>kernel_rfl
set_option maxRecDepth 100000 in
theorem tun:aE.underlying 2=some (.int .i64)∧
 aE.underlying 3=some (.int .i64)∧
 aE.underlying 4=some .bool∧
 aE.underlying 5=some (.int .u8)∧
 aE.underlying 9=some .string∧
 aE.underlying 20=some (.interface #[])∧
 aE.underlying 21=some (.int .i32)∧
 aE.underlying 23=some (.slice 35)∧
 aE.underlying 31=some .string∧
 aE.underlying 32=some (.float .f64)∧
 aE.underlying 33=some (.slice 3)∧
 aE.underlying 36=some (.func #[9] #[4] false)∧
 aE.underlying 38=some (.pointer 44)∧
 aE.underlying 41=some (.array 57 40)∧
 aE.underlying 45=some (.slice 4)∧
 aE.underlying 47=some (.func #[3] #[4] false)∧
 aE.underlying 51=some (.slice 73)∧
 aE.underlying 55=some (.pointer 61)∧
 aE.underlying 56=some (.slice 9)∧
 aE.underlying 58=some (.map 9 3)∧
 aE.underlying 74=some (.func #[73] #[4] false)∧
 aE.underlying 85=some (.int .u64)∧
 aE.underlying 97=some (.pointer 99)∧
 aE.underlying 100=some (.array 256 5)∧
 aE.underlying 102=some (.func #[21] #[4] false)∧
 aE.underlying 105=some (.func #[5] #[4] false)∧
 aE.underlying 112=some (.pointer 115)∧
 aE.underlying 113=some (.slice 5)∧
 aE.underlying 119=some (.interface #[("Error",123)])∧
 aE.underlying 124=some (.slice 126)∧
 aE.underlying 127=some (.int .u32)∧
 aE.underlying 129=some (.pointer 148)∧
 aE.underlying 134=some (.map 9 132)∧
 aE.underlying 138=some (.int .u16)∧
 aE.underlying 139=some (.int .u64)∧
 aE.underlying 140=some (.pointer 5)∧
 aE.underlying 145=some (.slice 150)∧
 aE.underlying 146=some (.slice 153)∧
 aE.underlying 159=some (.array 16 158)∧
 aE.underlying 160=some .unsafePointer∧
 aE.underlying 174=some (.array 3 3)∧
 aE.underlying 185=some (.slice 138)∧
 aE.underlying 191=some (.array 256 4)∧
 aE.underlying 195=some (.slice 85)∧
 aE.underlying 204=some (.pointer 191)∧
 aE.underlying 207=some (.int .i64)∧
 aE.underlying 208=some (.pointer 219)∧
 aE.underlying 213=some (.float .f32)∧
 aE.underlying 225=some (.array 24 5)∧
 aE.underlying 235=some (.pointer 237)∧
 aE.underlying 244=some (.array 800 5)∧
 aE.underlying 253=some (.pointer 255)∧
 aE.underlying 257=some (.array 20 85)∧
 aE.underlying 258=some (.array 65 5)∧
 aE.underlying 262=some (.slice 213)∧
 aE.underlying 266=some (.pointer 264)∧
 aE.underlying 267=some (.int .u64)∧
 aE.underlying 272=some (.pointer 246)∧
 aE.underlying 274=some (.slice 32)∧
 aE.underlying 279=some (.array 696 278)∧
 aE.underlying 282=some (.array 32 5)∧
 aE.underlying 283=some (.array 64 5)∧
 aE.underlying 286=some (.slice 285):=
 by and_intros<;>kernel_rfl
set_option maxRecDepth 100000 in
theorem tzc:fO aE 3=some #[.int .i64 0]∧
 fO aE 24=some #[.int .i64 0]∧
 fO aE 35=some #[.int .i64 0,.string .empty,.string .empty,.float .f64 0,.slice none 0 0,.int .i64 0]∧
 fO aE 51=some #[.slice none 0 0]∧
 fO aE 73=some #[.int .i64 0,.string .empty,.string .empty,.float .f64 0,.int .i64 0,.int .i64 0,.bool false]∧
 fO aE 78=some #[.int .i64 0]∧
 fO aE 95=some #[.int .i64 0]∧
 fO aE 115=some #[.pointer none,.slice none 0 0]∧
 fO aE 126=some #[.int .i64 0,.int .i64 0]∧
 fO aE 153=some #[.int .u32 0,.int .u32 0,.int .u32 0]∧
 fO aE 158=some #[.int .u8 0,.int .u8 0]∧
 fO aE 174=some #[.int .i64 0,.int .i64 0,.int .i64 0]∧
 fO aE 264=some #[.int .u64 0,.int .u64 0,.int .i64 0]:=
 by and_intros<;>kernel_rfl
set_option maxRecDepth 100000 in
theorem tre:Tryz.f3.results.toList=[.tmp 2]∧
 Tryz.f4.results.toList=[.tmp 0]∧
 Tryz.f5.results.toList=[.tmp 2,.tmp 3,.tmp 4]∧
 Tryz.f6.results.toList=[.tmp 2,.tmp 3]∧
 Tryz.f7.results.toList=[.tmp 2,.tmp 3]∧
 Tryz.f8.results.toList=[.tmp 2,.tmp 3,.tmp 4]∧
 Tryz.f9.results.toList=[.tmp 4,.tmp 5,.tmp 6]∧
 Tryz.f10.results.toList=[.cell 0 41]∧
 Tryz.f11.results.toList=[.tmp 4]∧
 Tryz.f12.results.toList=[.tmp 3]∧
 Tryz.f13.results.toList=[.tmp 4]∧
 Tryz.f14.results.toList=[.tmp 2]∧
 Tryz.f15.results.toList=[.tmp 2]∧
 Tryz.f16.results.toList=[.tmp 4]∧
 Tryz.f17.results.toList=[.tmp 2]∧
 Tryz.f18.results.toList=[.tmp 2,.tmp 3,.tmp 4]∧
 Tryz.f19.results.toList=[.tmp 2]∧
 Tryz.f20.results.toList=[.tmp 2]∧
 Tryz.f21.results.toList=[.tmp 0]∧
 Tryz.f22.results.toList=[.cell 4 3,.cell 5 24]∧
 Tryz.f23.results.toList=[.tmp 4]∧
 Tryz.f24.results.toList=[.tmp 2]∧
 Tryz.f25.results.toList=[.tmp 4]∧
 Tryz.f26.results.toList=[.tmp 6]∧
 Tryz.f27.results.toList=[.tmp 4]∧
 Tryz.f28.results.toList=[.tmp 4]∧
 Tryz.f29.results.toList=[.tmp 2]∧
 Tryz.f30.results.toList=[.tmp 4]∧
 Tryz.f31.results.toList=[.tmp 6]∧
 Tryz.f32.results.toList=[.tmp 2]∧
 Tryz.f33.results.toList=[.tmp 2]∧
 Tryz.f34.results.toList=[.tmp 2]∧
 Tryz.f35.results.toList=[.tmp 6]∧
 Tryz.f36.results.toList=[.tmp 2,.tmp 3]∧
 Tryz.f37.results.toList=[.cell 4 3,.cell 5 24]∧
 Tryz.f38.results.toList=[.tmp 3]∧
 Tryz.f39.results.toList=[.tmp 2]∧
 Tryz.f40.results.toList=[.tmp 2]∧
 Tryz.f41.results.toList=[]∧
 Tryz.f42.results.toList=[.tmp 4]∧
 Tryz.f43.results.toList=[.tmp 8]∧
 Tryz.f44.results.toList=[.tmp 4]∧
 Tryz.f45.results.toList=[.tmp 2]∧
 Tryz.f46.results.toList=[.cell 2 73]∧
 Tryz.f47.results.toList=[]∧
 Tryz.f49.results.toList=[.tmp 2]∧
 Tryz.f50.results.toList=[.tmp 2]∧
 Tryz.f51.results.toList=[.tmp 4]∧
 Tryz.f52.results.toList=[.tmp 2]∧
 Tryz.f53.results.toList=[.tmp 6]∧
 Tryz.f54.results.toList=[.tmp 4]∧
 Tryz.f55.results.toList=[.tmp 2]∧
 Tryz.f56.results.toList=[.tmp 2]∧
 Tryz.f57.results.toList=[.tmp 4]∧
 Tryz.f58.results.toList=[.tmp 2]∧
 Tryz.f59.results.toList=[.tmp 2]∧
 Tryz.f60.results.toList=[.tmp 4]∧
 Tryz.f61.results.toList=[.tmp 4]∧
 Tryz.f62.results.toList=[.tmp 6]∧
 Tryz.f63.results.toList=[.tmp 4]∧
 Tryz.f64.results.toList=[.tmp 2]∧
 Tryz.f65.results.toList=[.tmp 2,.tmp 3,.tmp 4]∧
 Tryz.f66.results.toList=[]∧
 Tryz.f67.results.toList=[.cell 2 73]∧
 Tryz.f68.results.toList=[.tmp 4]∧
 Tryz.f69.results.toList=[.tmp 2]∧
 Tryz.f70.results.toList=[.tmp 4]∧
 Tryz.f71.results.toList=[.tmp 4]∧
 Tryz.f72.results.toList=[.tmp 4]∧
 Tryz.f73.results.toList=[.tmp 4]∧
 Tryz.f74.results.toList=[.tmp 2]∧
 Tryz.f75.results.toList=[.tmp 2]∧
 Tryz.f76.results.toList=[.tmp 2]∧
 Tryz.f77.results.toList=[.tmp 4]∧
 Tryz.f78.results.toList=[.tmp 4]∧
 Tryz.f79.results.toList=[.tmp 2]∧
 Tryz.f80.results.toList=[.tmp 4]∧
 Tryz.f81.results.toList=[.tmp 4]∧
 Tryz.f82.results.toList=[.tmp 4]∧
 Tryz.f83.results.toList=[.tmp 4]∧
 Tryz.f84.results.toList=[.tmp 6]∧
 Tryz.f85.results.toList=[.tmp 2]∧
 Tryz.f86.results.toList=[.tmp 2]∧
 Tryz.f87.results.toList=[.tmp 0]∧
 Tryz.f88.results.toList=[.tmp 2]∧
 Tryz.f89.results.toList=[.tmp 2,.tmp 3]∧
 Tryz.f90.results.toList=[.tmp 4,.tmp 5]∧
 Tryz.f91.results.toList=[.tmp 2]∧
 Tryz.f92.results.toList=[.tmp 2]∧
 Tryz.f93.results.toList=[]∧
 Tryz.f94.results.toList=[.cell 2 73]∧
 Tryz.f95.results.toList=[.tmp 4]∧
 Tryz.f96.results.toList=[.tmp 2]∧
 Tryz.f97.results.toList=[.tmp 2]∧
 Tryz.f98.results.toList=[.tmp 10]∧
 Tryz.f99.results.toList=[.tmp 2]∧
 Tryz.f100.results.toList=[.tmp 4]∧
 Tryz.f101.results.toList=[.tmp 2]∧
 Tryz.f102.results.toList=[.tmp 4]∧
 Tryz.f103.results.toList=[.tmp 4]∧
 Tryz.f104.results.toList=[.tmp 4]∧
 Tryz.f105.results.toList=[.tmp 2]∧
 Tryz.f106.results.toList=[.tmp 0]∧
 Tryz.f107.results.toList=[]∧
 Tryz.f108.results.toList=[.tmp 4]∧
 Tryz.f109.results.toList=[.tmp 2]∧
 Tryz.f110.results.toList=[.tmp 2]∧
 Tryz.f111.results.toList=[.tmp 2,.tmp 3]∧
 Tryz.f112.results.toList=[]∧
 Tryz.f113.results.toList=[]∧
 Tryz.f114.results.toList=[.tmp 2]∧
 Tryz.f115.results.toList=[.tmp 2]∧
 Tryz.f116.results.toList=[.tmp 2]∧
 Tryz.f117.results.toList=[.tmp 4]∧
 Tryz.f118.results.toList=[.tmp 2,.tmp 3,.tmp 4]∧
 Tryz.f119.results.toList=[.cell 2 73]∧
 Tryz.f120.results.toList=[.cell 6 73]∧
 Tryz.f121.results.toList=[.cell 2 73]∧
 Tryz.f122.results.toList=[.tmp 4]∧
 Tryz.f123.results.toList=[.tmp 4]∧
 Tryz.f124.results.toList=[.cell 4 73]∧
 Tryz.f125.results.toList=[.tmp 6]∧
 Tryz.f126.results.toList=[.tmp 4]∧
 Tryz.f127.results.toList=[.tmp 4]∧
 Tryz.f128.results.toList=[.tmp 4]∧
 Tryz.f129.results.toList=[.tmp 4]∧
 Tryz.f130.results.toList=[.tmp 4]∧
 Tryz.f131.results.toList=[.tmp 4]∧
 Tryz.f132.results.toList=[.tmp 4]∧
 Tryz.f133.results.toList=[.tmp 4]∧
 Tryz.f134.results.toList=[.tmp 4]∧
 Tryz.f135.results.toList=[.tmp 4]∧
 Tryz.f136.results.toList=[.tmp 4]∧
 Tryz.f137.results.toList=[.tmp 4]∧
 Tryz.f139.results.toList=[.tmp 4]∧
 Tryz.f140.results.toList=[.tmp 4]∧
 Tryz.f141.results.toList=[.tmp 4]∧
 Tryz.f142.results.toList=[.tmp 4]∧
 Tryz.f143.results.toList=[.tmp 2]∧
 Tryz.f144.results.toList=[.tmp 6]∧
 Tryz.f145.results.toList=[.tmp 2]∧
 Tryz.f146.results.toList=[.tmp 4]∧
 Tryz.f147.results.toList=[.tmp 2]∧
 Tryz.f148.results.toList=[.tmp 2]∧
 Tryz.f149.results.toList=[.tmp 2]∧
 Tryz.f150.results.toList=[]∧
 Tryz.f151.results.toList=[]∧
 Tryz.f152.results.toList=[]∧
 Tryz.f153.results.toList=[.tmp 4]∧
 Tryz.f154.results.toList=[.tmp 2]∧
 Tryz.f155.results.toList=[.tmp 4]∧
 Tryz.f156.results.toList=[.tmp 2]∧
 Tryz.f157.results.toList=[.tmp 2]∧
 Tryz.f158.results.toList=[.tmp 6]∧
 Tryz.f159.results.toList=[.tmp 4]∧
 Tryz.f161.results.toList=[.tmp 2]∧
 Tryz.f162.results.toList=[.tmp 4]∧
 Tryz.f163.results.toList=[.tmp 4]∧
 Tryz.f164.results.toList=[.tmp 4]∧
 Tryz.f165.results.toList=[.tmp 4]∧
 Tryz.f166.results.toList=[.cell 0 174]∧
 Tryz.f167.results.toList=[.tmp 3]∧
 Tryz.f168.results.toList=[.tmp 4,.tmp 5]∧
 Tryz.f169.results.toList=[.tmp 4]∧
 Tryz.f170.results.toList=[.tmp 4,.tmp 5,.tmp 6]∧
 Tryz.f171.results.toList=[.tmp 4]∧
 Tryz.f172.results.toList=[.tmp 2,.tmp 3]∧
 Tryz.f173.results.toList=[.tmp 2]∧
 Tryz.f174.results.toList=[.tmp 2]∧
 Tryz.f175.results.toList=[.tmp 8]∧
 Tryz.f176.results.toList=[.tmp 2]∧
 Tryz.f177.results.toList=[.tmp 2]∧
 Tryz.f179.results.toList=[.tmp 2,.tmp 3]∧
 Tryz.f180.results.toList=[.tmp 4]∧
 Tryz.f181.results.toList=[.tmp 4]∧
 Tryz.f182.results.toList=[.tmp 2]∧
 Tryz.f183.results.toList=[.cell 2 191,.tmp 3]∧
 Tryz.f184.results.toList=[.tmp 4]∧
 Tryz.f185.results.toList=[.tmp 4,.tmp 5]∧
 Tryz.f186.results.toList=[.tmp 10]∧
 Tryz.f187.results.toList=[.tmp 4,.tmp 5]∧
 Tryz.f189.results.toList=[.tmp 2]∧
 Tryz.f190.results.toList=[.tmp 4]∧
 Tryz.f191.results.toList=[.tmp 2]∧
 Tryz.f192.results.toList=[.tmp 4,.tmp 5,.tmp 6]∧
 Tryz.f193.results.toList=[.tmp 4]∧
 Tryz.f194.results.toList=[.tmp 4]∧
 Tryz.f195.results.toList=[.tmp 4]∧
 Tryz.f196.results.toList=[.tmp 4]∧
 Tryz.f198.results.toList=[.tmp 2]∧
 Tryz.f199.results.toList=[.tmp 2]∧
 Tryz.f200.results.toList=[.tmp 2]∧
 Tryz.f201.results.toList=[.tmp 4,.tmp 5,.tmp 6]∧
 Tryz.f202.results.toList=[.tmp 4]∧
 Tryz.f203.results.toList=[.tmp 4]∧
 Tryz.f204.results.toList=[.tmp 6]∧
 Tryz.f205.results.toList=[.tmp 6]∧
 Tryz.f206.results.toList=[.tmp 2]∧
 Tryz.f207.results.toList=[.tmp 4]∧
 Tryz.f208.results.toList=[.tmp 4]∧
 Tryz.f209.results.toList=[.tmp 4]∧
 Tryz.f210.results.toList=[.tmp 4]∧
 Tryz.f211.results.toList=[.tmp 4]∧
 Tryz.f212.results.toList=[.tmp 6]∧
 Tryz.f213.results.toList=[.tmp 2]∧
 Tryz.f214.results.toList=[.tmp 2]∧
 Tryz.f215.results.toList=[.tmp 2,.tmp 3,.tmp 4]∧
 Tryz.f216.results.toList=[.tmp 2,.tmp 3,.tmp 4]∧
 Tryz.f217.results.toList=[.tmp 2]∧
 Tryz.f218.results.toList=[.tmp 2]∧
 Tryz.f219.results.toList=[.tmp 4]∧
 Tryz.f220.results.toList=[.tmp 2]∧
 Tryz.f221.results.toList=[.tmp 2,.tmp 3]∧
 Tryz.f222.results.toList=[.tmp 4]∧
 Tryz.f223.results.toList=[.tmp 2]∧
 Tryz.f224.results.toList=[.tmp 2]∧
 Tryz.f225.results.toList=[]∧
 Tryz.f226.results.toList=[.tmp 10,.tmp 11]∧
 Tryz.f227.results.toList=[.tmp 2]∧
 Tryz.f228.results.toList=[.tmp 2]∧
 Tryz.f229.results.toList=[.tmp 2]∧
 Tryz.f230.results.toList=[.tmp 2]∧
 Tryz.f231.results.toList=[.tmp 2,.tmp 3,.tmp 4]∧
 Tryz.f232.results.toList=[.tmp 2,.tmp 3,.tmp 4,.tmp 5,.tmp 6,.tmp 7,.tmp 8]∧
 Tryz.f233.results.toList=[.tmp 12,.tmp 13]∧
 Tryz.f234.results.toList=[.tmp 2]∧
 Tryz.f236.results.toList=[.tmp 6,.tmp 7]∧
 Tryz.f237.results.toList=[.tmp 6,.tmp 7]∧
 Tryz.f238.results.toList=[.tmp 4]∧
 Tryz.f239.results.toList=[.tmp 4,.tmp 5]∧
 Tryz.f240.results.toList=[.tmp 2]∧
 Tryz.f242.results.toList=[.tmp 6,.tmp 7]∧
 Tryz.f243.results.toList=[.tmp 6,.tmp 7]∧
 Tryz.f244.results.toList=[.tmp 2]∧
 Tryz.f245.results.toList=[.tmp 2]∧
 Tryz.f246.results.toList=[.tmp 2]∧
 Tryz.f247.results.toList=[.tmp 2]∧
 Tryz.f248.results.toList=[.tmp 2]∧
 Tryz.f249.results.toList=[.tmp 2]∧
 Tryz.f250.results.toList=[.tmp 2]∧
 Tryz.f251.results.toList=[.tmp 4]∧
 Tryz.f252.results.toList=[.tmp 2]∧
 Tryz.f253.results.toList=[.tmp 0]∧
 Tryz.f254.results.toList=[.tmp 2]∧
 Tryz.f255.results.toList=[.tmp 2]∧
 Tryz.f256.results.toList=[.tmp 2]∧
 Tryz.f257.results.toList=[]∧
 Tryz.f258.results.toList=[.tmp 4]∧
 Tryz.f259.results.toList=[.tmp 2]∧
 Tryz.f260.results.toList=[.tmp 4,.tmp 5]∧
 Tryz.f261.results.toList=[.tmp 2]∧
 Tryz.f262.results.toList=[]∧
 Tryz.f263.results.toList=[.tmp 2]∧
 Tryz.f264.results.toList=[.tmp 4,.tmp 5]∧
 Tryz.f265.results.toList=[.tmp 2]∧
 Tryz.f266.results.toList=[.tmp 2]∧
 Tryz.f267.results.toList=[.tmp 2]∧
 Tryz.f268.results.toList=[.tmp 2]∧
 Tryz.f269.results.toList=[]∧
 Tryz.f270.results.toList=[]∧
 Tryz.f271.results.toList=[.tmp 4]∧
 Tryz.f272.results.toList=[.tmp 4]∧
 Tryz.f273.results.toList=[]:=
 by and_intros<;>kernel_rfl
section
section
variable{P:Program}
theorem tZ{ops:List Oper}{K:Env→Heap→Prop}{E:List PanicEntry→Heap→Prop}:∀(l1 l2:List Oper) (ρ:Env) (h:Heap),Wl P ops K E (l1++l2) ρ h=Wl P ops (Wl P ops K E l2) E l1 ρ h
 |[],_,_,_=>rfl
 |o::l1,l2,ρ,h=>by
  have ih:Wl P ops K E (l1++l2)=Wl P ops (Wl P ops K E l2) E l1:=by funext ρ h;exact tZ l1 l2 ρ h
  simp only[List.cons_append,Wl,ih]
theorem qU {ops:List Oper} {K:Env→Heap→Prop} {E:List PanicEntry→Heap→Prop} {n:Nat} {S0:List Nat} {D:List Deferred×List Value} {w:World} {N:Act→Prop}
 (hN:∀a ρ,a.tmps.size=n→(∀t,a.tmps.getD t undef=ρ t)→a.fp S0=D→K ρ w.heap→N a):
 ∀(l:List Oper) (a:Act) (ρ:Env),(∀o∈l,isRd o.op=true)→(∀o∈l,∀d,o.dst=some d→d<n∧d∉S0)→a.tmps.size=n→(∀t,a.tmps.getD t undef=ρ t)→a.fp S0=D→
  Wl P ops K E l ρ w.heap→wpStill P ops.toArray w N l a:=by
 intro l
 induction l with
 |nil=>intro a ρ _ _ hn hρ hD H;exact hN a ρ hn hρ hD H
 |cons o l ih=>
  intro a ρ hr hd hn hρ hD H;have hd0:∀d,o.dst=some d→d<n∧d∉S0:=hd o List.mem_cons_self
  have step:∀v,Wl P ops K E l (ρ.put o.dst v) w.heap→wpStill P ops.toArray w N l (a.put o.dst v):=fun v H=>by
   obtain⟨h1,h2,h3⟩:=jX hn hρ o.dst v hd0;exact ih _ _ (fun o ho=>hr o (List.mem_cons_of_mem _ ho)) (fun o ho=>hd o (List.mem_cons_of_mem _ ho)) h1 h2 (h3.trans hD) H
  have go:Wop P o ρ w.heap (Wl P ops K E l) E→o.still P a w (wpStill P ops.toArray w N l):=fun H=>by
   have hro:=hr o List.mem_cons_self
   have hW:Wv (rdOp P o.op ρ w.heap) o.dst ρ w.heap (Wl P ops K E l):=by
    unfold Wop at H;split at H
    ·rename_i t hop;rw[hop]at hro;cases hro
    ·rename_i t x hop;rw[hop]at hro;cases hro
    ·rename_i t x y hop;rw[hop]at hro;cases hro
    ·rename_i f args tys hop;rw[hop]at hro;cases hro
    ·rw[if_pos hro]at H;exact H
   unfold Wv at hW;split at hW
   ·rename_i v hv;unfold Oper.still;rw[oK hρ,rd_run (o:=o) hv];exact⟨rfl,step v hW⟩
   ·exact hW.elim
  unfold Wl at H;unfold wpStill
  cases hg:o.guard with
  |none=>
   simp only[hg]at H;rw[if_pos (by simp[Region.wanted,hg])]
   exact go H
  |some jw=>
   obtain⟨j,want⟩:=jw;simp only[hg]at H;have hy:=fY (ops:=ops) hρ j want;simp only[Region.wanted,hg];rw[hy];unfold Wg at H
   cases hv:gval ρ (gD ops j)with
   |bool b=>
    simp only[hv]at H⊢;by_cases hb:b=want
    ·simp only[hb,if_true,beq_self_eq_true]at H⊢;exact go H
    ·simp only[hb,if_false]at H;rw[if_neg (by simpa using hb)]
     exact step _ H
   |_=>simp only[hv]at H⊢;exact step _ H
theorem bR {l:List Oper} {K:Env→Heap→Prop} {E:List PanicEntry→Heap→Prop} {ρ:Env} {h:Heap} (n:Nat) (hm:P.follows .mixedOrders=true)
 (hB:Region.lexTailB .any l.toArray n=true) (hr:(l.take n).all (fun o=>isRd o.op)=true) (H:Wl P l K E l ρ h):zD P l.toArray K E ρ h:=by
 intro id m S0 D w a hw hn hρ hD hd;subst hw;refine wp_region_still_tail n hm hB ?_;have hd':∀o∈l,∀d,o.dst=some d→d<m∧d∉S0:=fun o ho=>hd o (by simpa using ho)
 have H:Wl P l (Wl P l K E (l.drop n)) E (l.take n) ρ w.heap:=by
  rw[←tZ,List.take_append_drop];exact H
 refine qU (P:=P) (ops:=l) (K:=Wl P l K E (l.drop n)) (E:=E) (n:=m) (D:=D) (w:={w with drawn:=w.drawn+1}) ?_ (l.take n) a ρ
  (by simpa[List.all_eq_true]using hr) (fun o ho=>hd' o (List.mem_of_mem_take ho)) hn hρ hD H
 intro a' ρ' h1 h2 h3 h4;refine sK (P:=P) (ops:=l) (k:=K) (E:=E) (w0:=w) (n:=m) (D:=D) ?_ ?_ (l.drop n) a' {w with drawn:=w.drawn+1} ρ' (fun o ho=>hd' o (List.mem_of_mem_drop ho)) h1 h2 h3 ⟨rfl,rfl,rfl⟩ h4
 ·intro a2 w2 ρ2 g1 g2 g3 g4 g5;exact⟨g4,g3,g1,ρ2,g2,g5⟩
 ·intro a2 w2 ch g1 g2 g3;exact⟨g2,g1,g3⟩
def Yst(P:Program)(ops:Array Oper)(I:World→Prop)(o:Oper)(v:Value)(a:Act):Prop:=
 (Region.wanted o (yielded ops a.tmps)=true∧∀w,I w→(execOp a.eval o).run P w=.ok (.value v) w∨
  ∃f args,(execOp a.eval o).run P w=.ok (.enter f args) w∧Calls P f args w fun e w'=>e=.returned v∧Amb w w'∧w'.heap=w.heap)∨
 (Region.wanted o (yielded ops a.tmps)=false∧v=undef)
def Like(w w':World):Prop:=Amb w w'∧w'.heap=w.heap
theorem Like.refl(w:World):Like w w:=⟨Amb.refl w,rfl⟩
theorem Like.trans{a b c:World}(h:Like a b)(k:Like b c):Like a c:=⟨h.1.trans k.1,k.2.trans h.2⟩
def jO(P:Program)(md:Region.Mode)(ops:Array Oper)(I:World→Prop)(Q:Exit→Act→World→Prop):Nat→Array Bool→Act→World→Prop
 |0,listed,a,w=>Region.ready md ops listed=[]∧∀w',Like w w'→Q .normal a w'
 |fuel+1,listed,a,w=> ∀w',Like w w'→
  (Region.ready md ops listed=[]→Q .normal a w')∧
  ∀i∈Region.ready md ops listed,wpOp P ops Q i (fun a' w'=>I w'∧jO P md ops I Q fuel (listed.setIfInBounds i true) a' w') a w'
theorem lB {md:Region.Mode} {ops:Array Oper} {I:World→Prop} {Q:Exit→Act→World→Prop} {fuel:Nat} {listed:Array Bool} {a:Act} {w w':World} (hw:Like w w')
 (h:jO P md ops I Q fuel listed a w):jO P md ops I Q fuel listed a w':=by
 cases fuel with
 |zero=>exact⟨h.1,fun w'' hw''=>h.2 w'' (hw.trans hw'')⟩
 |succ fuel=>exact fun w'' hw''=>h w'' (hw.trans hw'')
theorem qN{md:Region.Mode}{ops:Array Oper}{I:World→Prop}{Q:Exit→Act→World→Prop}:∀(fuel:Nat) (listed:Array Bool) (a:Act) (w:World),
 jO P md ops I Q fuel listed a w→wpAny P md ops Q fuel listed a w
 |0,_,_,w,h=>⟨h.1,h.2 w (Like.refl w)⟩
 |fuel+1,_,_,w,h=>⟨(h w (Like.refl w)).1,fun i hi=>wpOp_mono (fun a' w' h'=>qN fuel _ a' w' h'.2) ((h w (Like.refl w)).2 i hi)⟩
theorem Yst.of_same {ops:Array Oper} {I:World→Prop} {o:Oper} {v:Value} {a a':Act} (hy:Yst P ops I o v a) (he:execOp a'.eval o=execOp a.eval o)
 (hw:Region.wanted o (yielded ops a'.tmps)=Region.wanted o (yielded ops a.tmps)):Yst P ops I o v a':=by
 unfold Yst at*;rw[he,hw];exact hy
theorem wW {ops:Array Oper} {I:World→Prop} {Q:Exit→Act→World→Prop}
 {j:Nat} {oi oj:Oper} {v:Value} (hQ:∀ch a v w,Q (.panic ch) (Act.put a oi.dst v) w→Q (.panic ch) a w) (hj:ops[j]? =some oj) (hap:oi.apart ops oj=true)
 (hsi:∀cs b,oi.op≠ .select cs b) (hsj:∀cs b,oj.op≠ .select cs b) {K:Act→World→Prop} {a:Act} {w:World}
 (hy:Yst P ops I oi v a) (h:wpOp P ops Q j K (a.put oi.dst v) w):
 wpOp P ops Q j (fun a' w'=>Yst P ops I oi v a'∧K (a'.put oi.dst v) w') a w:=by
 obtain⟨h1,h2,h3⟩:=Oper.apart_spec hap
 have keep:∀u,Yst P ops I oi v (a.put oj.dst u):=fun u=>
  hy.of_same (execOp_put oi hsi a oj.dst u h3) (wanted_put oi a oj.dst u h3)
 have keepD:∀(d:Deferred) u,Yst P ops I oi v (({a with defers:=d::a.defers}:Act).put oj.dst u):=fun d u=>by
  refine(keep u).of_same ?_ ?_
  ·have:(({a with defers:=d::a.defers}:Act).put oj.dst u).eval=(a.put oj.dst u).eval:=by
    funext x;cases x<;>cases hdd:oj.dst<;>rfl
   rw[this]
  ·have:(({a with defers:=d::a.defers}:Act).put oj.dst u).tmps=(a.put oj.dst u).tmps:=by cases oj.dst<;>rfl
   rw[this]
 unfold wpOp at*;simp only[hj]at*;rw[wanted_put oj a oi.dst v h1]at h;have hex:=execOp_put oj hsj a oi.dst v h1;split
 ·rename_i hw;simp only[hw,if_true]at h;rcases h with h|⟨hask,hout⟩
  ·refine .inl ?_;unfold Oper.wp at*;rw[hex]at h;generalize(execOp a.eval oj).run P w=r at*
   cases r with
   |ok x w'=>
    cases x<;>simp only[Oper.upon]at h⊢ <;>first
     |exact⟨keep _,by rw[←Act.put_comm a v _ h2];exact h⟩
     |(rename_i d
       refine⟨keepD d undef,?_⟩
       have:(({a with defers:=d::a.defers}:Act).put oj.dst undef).put oi.dst v=({a.put oi.dst v with defers:=d::(a.put oi.dst v).defers}:Act).put oj.dst undef:=by
        rw[←Act.put_comm _ v undef h2]
        congr 1
        cases oi.dst<;>rfl
       rw[this];exact h)
     |(refine Calls.mono h fun e w'' he=> ?_
       cases e with
       |returned u=>exact⟨keep _,by rw[←Act.put_comm a v u h2];exact he⟩
       |panicked ch=>exact hQ _ _ _ _ he
       |outgrown=>exact he)
     |exact Rows.mono h (fun u w'' he=>⟨keep u,by rw[←Act.put_comm a v u h2];exact he⟩)
   |halt x w'=>cases x<;>simp only[Oper.upon]at h⊢ <;>first|exact h|exact hQ _ _ _ _ h
  ·refine .inr ⟨?_,hout⟩;unfold Oper.asks at*;rw[hex]at hask;exact hask
 ·rename_i hw;simp only[hw]at h;exact⟨keep _,by rw[←Act.put_comm a v undef h2];exact h⟩
theorem Yst.wpOp {ops:Array Oper} {I:World→Prop} {Q:Exit→Act→World→Prop} {i:Nat} {o:Oper} {v:Value} {a:Act} {w:World} (hi:ops[i]? =some o) (hy:Yst P ops I o v a) (hI:I w)
 {K:Act→World→Prop} (hK:∀a w',Like w w'→K a w→K a w') (h:K (a.put o.dst v) w):wpOp P ops Q i K a w:=by
 unfold Go.wpOp;simp only[hi];rcases hy with⟨hw,hv⟩|⟨hw,rfl⟩
 ·simp only[hw,if_true];refine .inl ?_;unfold Oper.wp;rcases hv w hI with hv|⟨f,args,hv,hc⟩
  ·rw[hv];exact h
  ·rw[hv];exact Calls.mono hc fun e w' ⟨he,h1,h2⟩=>by subst he;exact hK _ _ ⟨h1,h2⟩ h
 ·simp only[hw,aI,if_false];exact h
theorem uF {md:Region.Mode} {ops:Array Oper} {I:World→Prop} {Q:Exit→Act→World→Prop}
 (hIs:∀w w',Like w w'→I w→I w')
 {i:Nat} {oi:Oper} {v:Value} (hQ:∀ch a v w,Q (.panic ch) (Act.put a oi.dst v) w→Q (.panic ch) a w) (hi:ops[i]? =some oi) (hsel:∀(j:Nat) (o:Oper) cs b,ops[j]? =some o→o.op≠ .select cs b):
 ∀(fuel:Nat) (listed:Array Bool) (a:Act) (w:World),
  (∀j oj,ops[j]? =some oj→j≠i→listed.getD j true=false→(∀e∈oj.after,Region.binds md e=true→e.on≠i)→oi.apart ops oj=true)→
  i∈Region.ready md ops listed→Yst P ops I oi v a→I w→
  jO P md ops I Q fuel (listed.setIfInBounds i true) (a.put oi.dst v) w→jO P md ops I Q (fuel+1) listed a w:=by
 have self:∀(fuel:Nat) (listed:Array Bool) (a:Act) (w:World),Yst P ops I oi v a→I w→jO P md ops I Q fuel (listed.setIfInBounds i true) (a.put oi.dst v) w→
  wpOp P ops Q i (fun a' w'=>I w'∧jO P md ops I Q fuel (listed.setIfInBounds i true) a' w') a w:=fun fuel listed a w hy hI H=>
  hy.wpOp hi hI (fun a w' h1 h3=>⟨hIs _ _ h1 h3.1,lB h1 h3.2⟩) ⟨hI,H⟩
 intro fuel
 induction fuel with
 |zero=>
  intro listed a w _ hr hy hI H w' hw';refine⟨fun h=>(by rw[h]at hr;cases hr),fun j hj=> ?_⟩;by_cases hji:j=i
  ·subst hji;exact self _ _ _ _ hy (hIs _ _ hw' hI) (lB hw' H)
  ·have:=ready_mono hj hji;rw[H.1]at this
   cases this
 |succ fuel ih=>
  intro listed a w hfree hr hy hI H w' hw';refine⟨fun h=>(by rw[h]at hr;cases hr),fun j hj=> ?_⟩;by_cases hji:j=i
  ·subst hji;exact self _ _ _ _ hy (hIs _ _ hw' hI) (lB hw' H)
  ·have h1:=(H w' hw').2 j (ready_mono hj hji);obtain⟨hjun,oj,hoj,hall⟩:=mem_ready.1 hj
   have hnot:∀e∈oj.after,Region.binds md e=true→e.on≠i:=fun e he hb heq=>by
    have h1:=hall e he hb;have h0:=(mem_ready.1 hr).1;rw[heq]at h1;rcases Nat.lt_or_ge i listed.size with h'|h'
    ·simp[h']at h0 h1;rw[h0]at h1;cases h1
    ·simp[Array.getElem?_eq_none h']at h1
   have h2:=wW (P:=P) hQ hoj (hfree j oj hoj hji hjun hnot) (fun cs b=>hsel i oi cs b hi) (fun cs b=>hsel j oj cs b hoj) hy h1
   have hfree':∀k ok,ops[k]? =some ok→k≠i→(listed.setIfInBounds j true).getD k true=false→
    (∀e∈ok.after,Region.binds md e=true→e.on≠i)→oi.apart ops ok=true:=fun k ok hk hki hun hno=>by
    refine hfree k ok hk hki ?_ hno;by_cases hjk:j=k
    ·subst hjk;exact hjun
    ·rw[getD_set_ne true hjk]at hun;exact hun
   refine wpOp_mono (fun a' w'' h3=>⟨h3.2.1,ih (listed.setIfInBounds j true) a' w'' hfree' (ready_mono hr (Ne.symm hji)) h3.1 h3.2.1 ?_⟩) h2;rw[Array.setIfInBounds_comm _ _ hji];exact h3.2.2
def rH(md:Region.Mode)(ops:Array Oper):List (Nat×Bool)→Array Bool→Bool
 |[],listed=>(Region.ready md ops listed).isEmpty
 |(i,st)::r,listed=>(if st then(Region.ready md ops listed).contains i&&Region.free md ops listed i else Region.ready md ops listed==[i])&&rH md ops r (listed.setIfInBounds i true)
def Stab(P:Program)(S:Heap→Prop)(o:Oper)(ρ:Env)(v:Value):Prop:=
 (∀h,S h→rdOp P o.op ρ h=some v)∨
 (∃f args tys f' fs cap,o.op=.call ⟨.value f,args,tys⟩∧ev ρ f=.func (.func f') fs cap∧entb P f'=true∧∀h,S h→C P f' (fs++args.map (ev ρ)++cap) h fun e h'=>e=.returned v∧h'=h)
def Wo(P:Program)(ops:List Oper)(S:Heap→Prop)(K:Env→Heap→Prop)(E:List PanicEntry→Heap→Prop):List (Nat×Bool)→Env→Heap→Prop
 |[],ρ,h=>K ρ h
 |(i,st)::r,ρ,h=>match ops[i]? with
  |none=>False
  |some o=>
   let go:Prop:=if st then∃v,Stab P S o ρ v∧Wo P ops S K E r (ρ.put o.dst v) h else Wop P o ρ h (fun ρ' h'=>S h'∧Wo P ops S K E r ρ' h') E
   match o.guard with
   |none=>go
   |some (j,want)=>Wg (gval ρ (gD ops j)) want go (Wo P ops S K E r (ρ.put o.dst undef) h)
theorem Stab.run{S:Heap→Prop}{o:Oper}{ρ:Env}{v:Value}(h:Stab P S o ρ v){a:Act}(hρ:∀t,a.tmps.getD t undef=ρ t){w:World}(hw:S w.heap):
 (execOp a.eval o).run P w=.ok (.value v) w∨
 ∃f args,(execOp a.eval o).run P w=.ok (.enter f args) w∧Calls P f args w fun e w'=>e=.returned v∧Amb w w'∧w'.heap=w.heap:=by
 rw[oK hρ];rcases h with h|⟨f,args,tys,f',fs,cap,hop,hf,he,hc⟩
 ·exact .inl (rd_run (h _ hw))
 ·refine .inr ⟨f',fs++args.map (ev ρ)++cap,?_,(hc _ hw w rfl).mono fun e w' ⟨h1,h2,h3⟩=>⟨h2,h1,h3⟩⟩;obtain⟨w',hr,rfl⟩:=sD (P:=P) (w:=w) (args:=fs++args.map (ev ρ)++cap) he;obtain⟨dst,op,ty,pos,aft,g⟩:=o;dsimp only at hop;subst hop;show((do let d←resolve (ev ρ) ⟨.value f,args,tys⟩ ty;invoke d.target d.args):Sem Next).run P w'=_;simp only[resolve,hf,Deferred.ofValue,Sem.run_bind,Sem.run_pure,Result.andThen_ok,invoke];exact hr
def kE(w0:World)(n:Nat)(S0:List Nat)(D:List Deferred×List Value)(K:Env→Heap→Prop)(E:List PanicEntry→Heap→Prop):Exit→Act→World→Prop:=fun e a' w'=>
 Amb w0 w'∧a'.fp S0=D∧match e with
  | .normal=>a'.tmps.size=n∧∃ρ',(∀t,a'.tmps.getD t undef=ρ' t)∧K ρ' w'.heap
  | .panic ch=>E ch w'.heap
  |_=>False
theorem Wo_sound {ops:List Oper} {S:Heap→Prop} {K:Env→Heap→Prop} {E:List PanicEntry→Heap→Prop} {n:Nat} {S0:List Nat} {D:List Deferred×List Value} {w0:World} (hsel:Region.noSelect ops.toArray=true)
 (hd:∀o∈ops,∀d,o.dst=some d→d<n∧d∉S0):
 ∀(σ:List (Nat×Bool)) (listed:Array Bool) (a:Act) (w:World) (ρ:Env),rH .any ops.toArray σ listed=true→a.tmps.size=n→(∀t,a.tmps.getD t undef=ρ t)→a.fp S0=D→Amb w0 w→S w.heap→
  Wo P ops S K E σ ρ w.heap→
  jO P .any ops.toArray (fun w'=>S w'.heap) (kE w0 n S0 D K E) σ.length listed a w:=by
 intro σ
 induction σ with
 |nil=>
  intro listed a w ρ hB hn hρ hD hw hS H;refine⟨by simpa[rH]using hB,fun w' hw'=>⟨hw.trans hw'.1,hD,hn,ρ,hρ,?_⟩⟩
  rw[hw'.2];exact H
 |cons p σ ih=>
  obtain⟨i,st⟩:=p;intro listed a w ρ hB hn hρ hD hw hS H;simp only[rH,Bool.and_eq_true]at hB;obtain⟨hB1,hB2⟩:=hB;unfold Wo at H;split at H
  ·exact H.elim
  rename_i o ho;have ho':ops.toArray[i]? =some o:=by simpa using ho
  have hd0:∀d,o.dst=some d→d<n∧d∉S0:=hd o (List.mem_of_getElem? ho)
  have nextS:∀v (w:World),Amb w0 w→S w.heap→Wo P ops S K E σ (ρ.put o.dst v) w.heap→_:=fun v w hw hS H=>by
   obtain⟨h1,h2,h3⟩:=jX hn hρ o.dst v hd0;exact ih (listed.setIfInBounds i true) (a.put o.dst v) w (ρ.put o.dst v) hB2 h1 h2 (h3.trans hD) hw hS H
  cases st with
  |true=>
   simp only[if_true,Bool.and_eq_true,List.contains_iff_mem]at hB1 H
   have key:∃v,Yst P ops.toArray (fun w'=>S w'.heap) o v a∧Wo P ops S K E σ (ρ.put o.dst v) w.heap:=by
    cases hg:o.guard with
    |none=>
     simp only[hg]at H;obtain⟨v,h1,h2⟩:=H
     exact⟨v,.inl ⟨by simp[Region.wanted,hg],fun w' hw'=>h1.run hρ hw'⟩,h2⟩
    |some jw=>
     obtain⟨j,want⟩:=jw;simp only[hg]at H;have hy:=fY (ops:=ops) hρ j want;unfold Wg at H
     cases hv:gval ρ (gD ops j)with
     |bool b=>
      simp only[hv]at H hy;by_cases hb:b=want
      ·simp only[hb,if_true,beq_self_eq_true]at H hy;obtain⟨v,h1,h2⟩:=H;exact⟨v,.inl ⟨by simp[Region.wanted,hg,hy],fun w' hw'=>h1.run hρ hw'⟩,h2⟩
      ·simp only[hb,if_false]at H
       exact⟨undef,.inr ⟨by simp only[Region.wanted,hg];rw[hy];simpa using hb,rfl⟩,H⟩
     |_=>
      simp only[hv]at H hy;exact⟨undef,.inr ⟨by simp only[Region.wanted,hg];exact hy,rfl⟩,H⟩
   obtain⟨v,hy,H'⟩:=key
   refine uF (fun w w' h hS=>by rw[h.2];exact hS) (fun ch a v w h=>by unfold kE at h⊢;rw[put_fp _ _ fun d hd'=>(hd0 d hd').2]at h;exact h) ho' (Region.noSelect_spec hsel) σ.length listed a w (Region.free_spec ho' hB1.2) hB1.1 hy hS (nextS v w hw hS H')
  |false=>
   simp only[aI,if_false,beq_iff_eq]at hB1 H;intro w' hw';refine⟨fun h0=>(by rw[h0]at hB1;cases hB1),fun i' hi'=> ?_⟩;rw[hB1]at hi';have hii:i'=i:=by simpa using hi'
   subst hii;unfold wpOp;simp only[ho'];have hww:Amb w0 w':=hw.trans hw'.1;have hS':S w'.heap:=by rw[hw'.2];exact hS
   rw[←hw'.2]at H
   have go:Wop P o ρ w'.heap (fun ρ' h'=>S h'∧Wo P ops S K E σ ρ' h') E→o.wp P a w' _ _:=fun H=>
    oV (ops:=ops) (Q:=kE w0 n S0 D K E) (K':=fun a' w'=>S w'.heap∧jO P .any ops.toArray (fun w'=>S w'.heap) (kE w0 n S0 D K E) σ.length (listed.setIfInBounds i' true) a' w') hn hρ hD hd0 hww
     (fun a' w' ρ' h1 h2 h3 h4 h5=>⟨h5.1,ih _ _ _ _ hB2 h1 h2 h3 h4 h5.1 h5.2⟩) (fun a' w' ch h1 h2 h3=>⟨h2,h1,h3⟩) H
   cases hg:o.guard with
   |none=>
    simp only[hg]at H;rw[if_pos (by simp[Region.wanted,hg])]
    exact .inl (go H)
   |some jw=>
    obtain⟨j,want⟩:=jw;simp only[hg]at H;have hy:=fY (ops:=ops) hρ j want;simp only[Region.wanted,hg];rw[hy];unfold Wg at H
    cases hv:gval ρ (gD ops j)with
    |bool b=>
     simp only[hv]at H⊢;by_cases hb:b=want
     ·simp only[hb,if_true,beq_self_eq_true]at H⊢;exact .inl (go H)
     ·simp only[hb,if_false]at H;rw[if_neg (by simpa using hb)]
      exact⟨hS',nextS undef w' hww hS' H⟩
    |_=>simp only[hv]at H⊢;exact⟨hS',nextS undef w' hww hS' H⟩
theorem dL {l:List Oper} {K:Env→Heap→Prop} {E:List PanicEntry→Heap→Prop} {ρ:Env} {h:Heap} (σ:List (Nat×Bool)) (S:Heap→Prop) (hm:P.follows .mixedOrders=true)
 (hsel:Region.noSelect l.toArray=true) (hB:rH .any l.toArray σ (Array.replicate l.length false)=true) (hlen:σ.length=l.length) (hS:S h) (H:Wo P l S K E σ ρ h):zD P l.toArray K E ρ h:=by
 intro id m S0 D w a hw hn hρ hD hd;subst hw;refine Code.wp_mono (Q:=kE w m S0 D K E) (fun e a w h=>by cases e<;>exact h) ?_;refine wp_region_any hm (qN (I:=fun w'=>S w'.heap) _ _ _ _ ?_)
 have:=Wo_sound (P:=P) (ops:=l) (S:=S) (K:=K) (E:=E) (n:=m) (D:=D) (w0:=w) hsel (fun o ho=>hd o (by simpa using ho)) σ (Array.replicate l.length false) a {w with drawn:=w.drawn+1} ρ
  hB hn hρ hD ⟨rfl,rfl,rfl⟩ hS H
 rw[hlen]at this;simpa using this
def jN(P:Program)(md:Region.Mode)(ops:Array Oper)(I:World→Prop)(Q:Exit→Act→World→Prop)(n:Nat)(L:Array Bool→Act→World→Prop):Nat→Array Bool→Act→World→Prop
 |0,listed,a,w=> ∀w',Like w w'→L listed a w'
 |fuel+1,listed,a,w=>Region.ready md ops listed≠[]∧∀w',Like w w'→
  ∀i∈Region.ready md ops listed,i<n∧wpOp P ops Q i (fun a' w'=>I w'∧jN P md ops I Q n L fuel (listed.setIfInBounds i true) a' w') a w'
theorem lA {md:Region.Mode} {ops:Array Oper} {I:World→Prop} {Q:Exit→Act→World→Prop} {n:Nat} {L:Array Bool→Act→World→Prop} {fuel:Nat} {listed:Array Bool} {a:Act} {w w':World} (hw:Like w w')
 (h:jN P md ops I Q n L fuel listed a w):jN P md ops I Q n L fuel listed a w':=by
 cases fuel with
 |zero=>exact fun w'' hw''=>h w'' (hw.trans hw'')
 |succ fuel=>exact⟨h.1,fun w'' hw''=>h.2 w'' (hw.trans hw'')⟩
theorem qM{md:Region.Mode}{ops:Array Oper}{I:World→Prop}{Q:Exit→Act→World→Prop}{n g:Nat}{L:Array Bool→Act→World→Prop}(hL:∀listed a w,L listed a w→wpAny P md ops Q g listed a w):
 ∀(fuel:Nat) (listed:Array Bool) (a:Act) (w:World),jN P md ops I Q n L fuel listed a w→wpAny P md ops Q (fuel+g) listed a w
 |0,_,_,w,h=>by rw[aR];exact hL _ _ _ (h w (Like.refl w))
 |fuel+1,_,_,w,h=>by
  rw[show fuel+1+g=(fuel+g)+1 by omega];exact⟨fun h0=>absurd h0 h.1,fun i hi=>wpOp_mono (fun a' w' h'=>qM hL fuel _ a' w' h'.2) (h.2 w (Like.refl w) i hi).2⟩
theorem uE {md:Region.Mode} {ops:Array Oper} {I:World→Prop} {Q:Exit→Act→World→Prop} {n:Nat} {L:Array Bool→Act→World→Prop}
 (hIs:∀w w',Like w w'→I w→I w')
 {i:Nat} {oi:Oper} {v:Value} (hQ:∀ch a v w,Q (.panic ch) (Act.put a oi.dst v) w→Q (.panic ch) a w) (hi:ops[i]? =some oi) (hsel:∀(j:Nat) (o:Oper) cs b,ops[j]? =some o→o.op≠ .select cs b)
 (hs:Region.sinkB md ops n=true) (hc:Region.chainB md ops n=true) (hn:n<ops.size) (hin:i<n)
 (hdone:∀listed a w,L listed a w→∀j∈Region.ready md ops listed,n≤j):
 ∀(fuel:Nat) (listed:Array Bool) (a:Act) (w:World),HeadInv md ops n listed→
  (∀j oj,ops[j]? =some oj→j≠i→listed.getD j true=false→(∀e∈oj.after,Region.binds md e=true→e.on≠i)→oi.apart ops oj=true)→
  i∈Region.ready md ops listed→Yst P ops I oi v a→I w→
  jN P md ops I Q n L fuel (listed.setIfInBounds i true) (a.put oi.dst v) w→jN P md ops I Q n L (fuel+1) listed a w:=by
 have self:∀(fuel:Nat) (listed:Array Bool) (a:Act) (w:World),Yst P ops I oi v a→I w→jN P md ops I Q n L fuel (listed.setIfInBounds i true) (a.put oi.dst v) w→
  wpOp P ops Q i (fun a' w'=>I w'∧jN P md ops I Q n L fuel (listed.setIfInBounds i true) a' w') a w:=fun fuel listed a w hy hI H=>
  hy.wpOp hi hI (fun a w' h1 h3=>⟨hIs _ _ h1 h3.1,lA h1 h3.2⟩) ⟨hI,H⟩
 intro fuel
 induction fuel with
 |zero=>
  intro listed a w inv _ hr hy hI H;have hun:=(mem_ready.1 hr).1;refine⟨fun h=>(by rw[h]at hr;cases hr),fun w' hw' j hj=> ?_⟩
  have hjn:j<n:=by
   rcases Nat.lt_or_ge j n with h|h
   ·exact h
   ·exact absurd hj (tail_waits hs hc hn inv _ i rfl hin hun j h)
  refine⟨hjn,?_⟩;by_cases hji:j=i
  ·subst hji;exact self _ _ _ _ hy (hIs _ _ hw' hI) (lA hw' H)
  ·have:=hdone _ _ _ (H w' hw') j (ready_mono hj hji)
   omega
 |succ fuel ih=>
  intro listed a w inv hfree hr hy hI H;have hun:=(mem_ready.1 hr).1;refine⟨fun h=>(by rw[h]at hr;cases hr),fun w' hw' j hj=> ?_⟩
  have hjn:j<n:=by
   rcases Nat.lt_or_ge j n with h|h
   ·exact h
   ·exact absurd hj (tail_waits hs hc hn inv _ i rfl hin hun j h)
  refine⟨hjn,?_⟩;by_cases hji:j=i
  ·subst hji;exact self _ _ _ _ hy (hIs _ _ hw' hI) (lA hw' H)
  ·have h1:=(H.2 w' hw' j (ready_mono hj hji)).2;obtain⟨hjun,oj,hoj,hall⟩:=mem_ready.1 hj
   have hnot:∀e∈oj.after,Region.binds md e=true→e.on≠i:=fun e he hb heq=>by
    have h1:=hall e he hb;rw[heq,getD_both hun]at h1;cases h1
   have h2:=wW (P:=P) hQ hoj (hfree j oj hoj hji hjun hnot) (fun cs b=>hsel i oi cs b hi) (fun cs b=>hsel j oj cs b hoj) hy h1
   have hfree':∀k ok,ops[k]? =some ok→k≠i→(listed.setIfInBounds j true).getD k true=false→
    (∀e∈ok.after,Region.binds md e=true→e.on≠i)→oi.apart ops ok=true:=fun k ok hk hki hun hno=>by
    refine hfree k ok hk hki ?_ hno;by_cases hjk:j=k
    ·subst hjk;exact hjun
    ·rw[getD_set_ne true hjk]at hun;exact hun
   refine wpOp_mono (fun a' w'' h3=>⟨h3.2.1,ih (listed.setIfInBounds j true) a' w'' (inv.set hj hjn) hfree' (ready_mono hr (Ne.symm hji)) h3.1 h3.2.1 ?_⟩) h2;rw[Array.setIfInBounds_comm _ _ hji];exact h3.2.2
def rG(md:Region.Mode)(ops:Array Oper)(n:Nat):List (Nat×Bool)→Array Bool→Bool
 |[],listed=>Region.seqB md ops (ops.size-n) n listed
 |(i,st)::r,listed=>decide (i<n)&&(if st then(Region.ready md ops listed).contains i&&Region.free md ops listed i else Region.ready md ops listed==[i])&&rG md ops n r (listed.setIfInBounds i true)
def bothB(ops:Array Oper)(n:Nat)(σ:List (Nat×Bool)):Bool:=
 Region.noSelect ops&&decide (n<ops.size)&&Region.sinkB .any ops n&&Region.chainB .any ops n&&decide (σ.length=n)&&rG .any ops n σ (Array.replicate ops.size false)
theorem Wo_soundT {ops:List Oper} {S:Heap→Prop} {K:Env→Heap→Prop} {E:List PanicEntry→Heap→Prop} {N:Nat} {S0:List Nat} {D:List Deferred×List Value} {w0:World} {n:Nat} (hsel:Region.noSelect ops.toArray=true)
 (hs:Region.sinkB .any ops.toArray n=true) (hc:Region.chainB .any ops.toArray n=true) (hn:n<ops.toArray.size)
 (hd:∀o∈ops,∀d,o.dst=some d→d<N∧d∉S0):
 ∀(σ:List (Nat×Bool)) (listed:Array Bool) (a:Act) (w:World) (ρ:Env),rG .any ops.toArray n σ listed=true→HeadInv .any ops.toArray n listed→a.tmps.size=N→(∀t,a.tmps.getD t undef=ρ t)→a.fp S0=D→Amb w0 w→S w.heap→
  Wo P ops S (fun ρ h=>Wl P ops K E (ops.drop n) ρ h) E σ ρ w.heap→
  jN P .any ops.toArray (fun w'=>S w'.heap) (kE w0 N S0 D K E) n (fun listed' a' w'=>Region.seqB .any ops.toArray (ops.toArray.size-n) n listed'=true∧wpList P ops.toArray (kE w0 N S0 D K E) (ops.drop n) a' w') σ.length listed a w:=by
 intro σ
 induction σ with
 |nil=>
  intro listed a w ρ hB inv hn hρ hD hw hS H w' hw';refine⟨by simpa[rG]using hB,?_⟩;refine sK (P:=P) (ops:=ops) (k:=K) (E:=E) (w0:=w0) (n:=N) (D:=D) ?_ ?_ (ops.drop n) a w' ρ (fun o ho=>hd o (List.mem_of_mem_drop ho)) hn hρ hD (hw.trans hw'.1) (by rw[hw'.2];exact H)
  ·intro a2 w2 ρ2 g1 g2 g3 g4 g5;exact⟨g4,g3,g1,ρ2,g2,g5⟩
  ·intro a2 w2 ch g1 g2 g3;exact⟨g2,g1,g3⟩
 |cons p σ ih=>
  obtain⟨i,st⟩:=p;intro listed a w ρ hB inv hN hρ hD hw hS H;simp only[rG,Bool.and_eq_true,decide_eq_true_eq]at hB;obtain⟨⟨hin,hB1⟩,hB2⟩:=hB
  have hir:i∈Region.ready .any ops.toArray listed:=by
   cases st with
   |true=>simp only[if_true,Bool.and_eq_true,List.contains_iff_mem]at hB1;exact hB1.1
   |false=>simp only[aI,if_false,beq_iff_eq]at hB1;rw[hB1];simp
  have inv':=inv.set hir hin;unfold Wo at H;split at H
  ·exact H.elim
  rename_i o ho;have ho':ops.toArray[i]? =some o:=by simpa using ho
  have hd0:∀d,o.dst=some d→d<N∧d∉S0:=hd o (List.mem_of_getElem? ho)
  have nextS:∀v (w:World),Amb w0 w→S w.heap→Wo P ops S (fun ρ h=>Wl P ops K E (ops.drop n) ρ h) E σ (ρ.put o.dst v) w.heap→_:=fun v w hw hS H=>by
   obtain⟨h1,h2,h3⟩:=jX hN hρ o.dst v hd0;exact ih (listed.setIfInBounds i true) (a.put o.dst v) w (ρ.put o.dst v) hB2 inv' h1 h2 (h3.trans hD) hw hS H
  cases st with
  |true=>
   simp only[if_true,Bool.and_eq_true,List.contains_iff_mem]at hB1 H
   have key:∃v,Yst P ops.toArray (fun w'=>S w'.heap) o v a∧Wo P ops S (fun ρ h=>Wl P ops K E (ops.drop n) ρ h) E σ (ρ.put o.dst v) w.heap:=by
    cases hg:o.guard with
    |none=>
     simp only[hg]at H;obtain⟨v,h1,h2⟩:=H
     exact⟨v,.inl ⟨by simp[Region.wanted,hg],fun w' hw'=>h1.run hρ hw'⟩,h2⟩
    |some jw=>
     obtain⟨j,want⟩:=jw;simp only[hg]at H;have hy:=fY (ops:=ops) hρ j want;unfold Wg at H
     cases hv:gval ρ (gD ops j)with
     |bool b=>
      simp only[hv]at H hy;by_cases hb:b=want
      ·simp only[hb,if_true,beq_self_eq_true]at H hy;obtain⟨v,h1,h2⟩:=H;exact⟨v,.inl ⟨by simp[Region.wanted,hg,hy],fun w' hw'=>h1.run hρ hw'⟩,h2⟩
      ·simp only[hb,if_false]at H
       exact⟨undef,.inr ⟨by simp only[Region.wanted,hg];rw[hy];simpa using hb,rfl⟩,H⟩
     |_=>
      simp only[hv]at H hy;exact⟨undef,.inr ⟨by simp only[Region.wanted,hg];exact hy,rfl⟩,H⟩
   obtain⟨v,hy,H'⟩:=key
   refine uE (fun w w' h hS=>by rw[h.2];exact hS) (fun ch a v w h=>by unfold kE at h⊢;rw[put_fp _ _ fun d hd'=>(hd0 d hd').2]at h;exact h) ho' (Region.noSelect_spec hsel) hs hc hn hin (fun listed' a' w' hL=>seqB_ready hL.1) σ.length listed a w inv (Region.free_spec ho' hB1.2) hB1.1 hy hS (nextS v w hw hS H')
  |false=>
   simp only[aI,if_false,beq_iff_eq]at hB1 H;refine⟨by rw[hB1];simp,fun w' hw' i' hi'=> ?_⟩;rw[hB1]at hi';have hii:i'=i:=by simpa using hi'
   subst hii;refine⟨hin,?_⟩;unfold wpOp;simp only[ho'];have hww:Amb w0 w':=hw.trans hw'.1;have hS':S w'.heap:=by rw[hw'.2];exact hS
   rw[←hw'.2]at H
   have go:Wop P o ρ w'.heap (fun ρ' h'=>S h'∧Wo P ops S (fun ρ h=>Wl P ops K E (ops.drop n) ρ h) E σ ρ' h') E→o.wp P a w' _ _:=fun H=>
    oV (ops:=ops) (Q:=kE w0 N S0 D K E) (K':=fun a' w'=>S w'.heap∧jN P .any ops.toArray (fun w'=>S w'.heap) (kE w0 N S0 D K E) n (fun listed' a' w'=>Region.seqB .any ops.toArray (ops.toArray.size-n) n listed'=true∧wpList P ops.toArray (kE w0 N S0 D K E) (ops.drop n) a' w') σ.length (listed.setIfInBounds i' true) a' w') hN hρ hD hd0 hww
     (fun a' w' ρ' h1 h2 h3 h4 h5=>⟨h5.1,ih _ _ _ _ hB2 inv' h1 h2 h3 h4 h5.1 h5.2⟩) (fun a' w' ch h1 h2 h3=>⟨h2,h1,h3⟩) H
   cases hg:o.guard with
   |none=>
    simp only[hg]at H;rw[if_pos (by simp[Region.wanted,hg])]
    exact .inl (go H)
   |some jw=>
    obtain⟨j,want⟩:=jw;simp only[hg]at H;have hy:=fY (ops:=ops) hρ j want;simp only[Region.wanted,hg];rw[hy];unfold Wg at H
    cases hv:gval ρ (gD ops j)with
    |bool b=>
     simp only[hv]at H⊢;by_cases hb:b=want
     ·simp only[hb,if_true,beq_self_eq_true]at H⊢;exact .inl (go H)
     ·simp only[hb,if_false]at H;rw[if_neg (by simpa using hb)]
      exact⟨hS',nextS undef w' hww hS' H⟩
    |_=>simp only[hv]at H⊢;exact⟨hS',nextS undef w' hww hS' H⟩
theorem fW {l:List Oper} {K:Env→Heap→Prop} {E:List PanicEntry→Heap→Prop} {ρ:Env} {h:Heap} (n:Nat) (σ:List (Nat×Bool)) (S:Heap→Prop) (hm:P.follows .mixedOrders=true)
 (hB:bothB l.toArray n σ=true) (hS:S h) (H:Wo P l S (fun ρ h=>Wl P l K E (l.drop n) ρ h) E σ ρ h):zD P l.toArray K E ρ h:=by
 intro id m S0 D w a hw hN hρ hD hd;subst hw;simp only[bothB,Bool.and_eq_true,decide_eq_true_eq]at hB;obtain⟨⟨⟨⟨⟨hsel,hn⟩,hs⟩,hc⟩,hlen⟩,hord⟩:=hB;refine Code.wp_mono (Q:=kE w m S0 D K E) (fun e a w h=>by cases e<;>exact h) ?_
 have inv0:HeadInv .any l.toArray n (Array.replicate l.toArray.size false):=
  ⟨by simp,fun j oj _ hl=>(by rw[getD_replicate_false]at hl;cases hl),fun t _ ht=>getD_in (by simpa using ht) (getD_replicate_false _ _)⟩
 have T:=Wo_soundT (P:=P) (ops:=l) (S:=S) (K:=K) (E:=E) (N:=m) (D:=D) (w0:=w) hsel hs hc hn (fun o ho=>hd o (by simpa using ho)) σ _ a {w with drawn:=w.drawn+1} ρ
  hord inv0 hN hρ hD ⟨rfl,rfl,rfl⟩ hS H
 refine wp_region_any hm ?_
 have:=qM (g:=l.toArray.size-n) (fun listed a' w' hL=>by
  have hdl:(l.drop n).length=l.toArray.size-n:=by simp
  have:=wpAny_of_seq (md:=.any) (Q':=kE w m S0 D K E) (l.drop n) n listed a' w' (fun j=>by simp[List.getElem?_drop]) (by rw[hdl];exact hL.1) hL.2
  rwa [hdl]at this) _ _ _ _ T
 rw[hlen,show n+(l.toArray.size-n)=l.toArray.size by omega]at this;exact this
theorem cY{o:Oper}{ρ:Env}{h:Heap}{k:Env→Heap→Prop}{E:List PanicEntry→Heap→Prop}(hg:o.guard=none)(H:Wl P [] k E [o] ρ h):Wop P o ρ h k E:=by
 simp only[Wl,hg]at H;exact H
end
end
section
def Tok{α:Sort _}(_:α):Type:=Unit
def tok{α:Sort _}{x:α}:Tok x:=()
def WvT(ov:Option Value)(dst:Option Nat)(ρ:Env)(h:Heap)(k:Env→Heap→Prop)(_:Tok (dst,ρ,h,k)):Prop:=Wv ov dst ρ h k
def WnewT(P:Program)(oc:Option (Array Value))(t:TypeId)(dst:Option Nat)(ρ:Env)(h:Heap)(k:Env→Heap→Prop)(_:Tok (dst,ρ,k)):Prop:=Wnew P oc t dst ρ h k
def WstT(P:Program)(t:TypeId)(a v:Value)(dst:Option Nat)(ρ:Env)(h:Heap)(k:Env→Heap→Prop)(_:Tok (dst,ρ,k)):Prop:=Wst P t a v dst ρ h k
def WfnT(P:Program)(v:Value)(args:Array Value)(h:Heap)(R:Ending→Heap→Prop)(_:Tok R):Prop:=Wfn P v args h R
def CT(P:Program)(f:Nat)(args:Array Value)(h:Heap)(R:Ending→Heap→Prop)(_:Tok R):Prop:=C P f args h R
def WifT(v:Value)(X Y:Prop)(_:Tok (And X Y)):Prop:=Wif v X Y
def WgT(v:Value)(want:Bool)(X Y:Prop)(_:Tok (And X Y)):Prop:=Wg v want X Y
theorem bH{P:Program}{f:Nat}{args:Array Value}{h:Heap}{R R':Ending→Heap→Prop}{t:Tok R'}(hc:C P f args h R)(hr:∀e h',R e h'→R' e h'):CT P f args h R' t:=hc.mono hr
section
variable{P:Program}{ops:List Oper}{K:Env→Heap→Prop}{E:List PanicEntry→Heap→Prop}{l:List Oper}{ρ:Env}{h:Heap}{ty:TypeId}{pos:String}{aft:Array Edge}{dst:Option Nat}
theorem Wl_nil:Wl P ops K E [] ρ h=K ρ h:=rfl
theorem Wl_guard{op:Op}{j:Nat}{b:Bool}:Wl P ops K E (⟨dst,op,ty,pos,aft,some (j,b)⟩::l) ρ h=
 WgT (gval ρ (gD ops j)) b (Wl P ops K E (⟨dst,op,ty,pos,aft,none⟩::l) ρ h) (Wl P ops K E l (ρ.put dst undef) h) tok:=rfl
theorem Wl_move{x:Operand}:Wl P ops K E (⟨dst,.move x,ty,pos,aft,none⟩::l) ρ h=WvT (some (ev ρ x)) dst ρ h (Wl P ops K E l) tok:=rfl
theorem Wl_assign{x:Operand}:Wl P ops K E (⟨dst,.assign x,ty,pos,aft,none⟩::l) ρ h=WvT (some (ev ρ x)) dst ρ h (Wl P ops K E l) tok:=rfl
theorem Wl_pick{x y z:Operand}:Wl P ops K E (⟨dst,.pick x y z,ty,pos,aft,none⟩::l) ρ h=WvT (xU (ev ρ x) (ev ρ y) (ev ρ z)) dst ρ h (Wl P ops K E l) tok:=rfl
theorem zA{x:Operand}:Wl P ops K E (⟨dst,.nilCheck x,ty,pos,aft,none⟩::l) ρ h=WvT (nilv (ev ρ x)) dst ρ h (Wl P ops K E l) tok:=rfl
theorem wR{s f:Nat}{x:Operand}:Wl P ops K E (⟨dst,.fieldAddr s x f,ty,pos,aft,none⟩::l) ρ h=WvT (rV P s (ev ρ x) f) dst ρ h (Wl P ops K E l) tok:=rfl
theorem Wl_load{t:Nat}{x:Operand}:Wl P ops K E (⟨dst,.load t x,ty,pos,aft,none⟩::l) ρ h=WvT (ldv P t (ev ρ x) h) dst ρ h (Wl P ops K E l) tok:=rfl
theorem Wl_binOp{op:BinOp}{t u:Nat}{x y:Operand}:Wl P ops K E (⟨dst,.binOp op t x y u,ty,pos,aft,none⟩::l) ρ h=WvT (binT P op t (isC y) (ev ρ x) (ev ρ y)) dst ρ h (Wl P ops K E l) tok:=rfl
theorem Wl_unOp{op:UnOp}{t:Nat}{x:Operand}:Wl P ops K E (⟨dst,.unOp op t x,ty,pos,aft,none⟩::l) ρ h=WvT (unv op (ev ρ x)) dst ρ h (Wl P ops K E l) tok:=rfl
theorem Wl_convert{s t:Nat}{x:Operand}:Wl P ops K E (⟨dst,.convert s t x,ty,pos,aft,none⟩::l) ρ h=WvT (tU P s t (ev ρ x)) dst ρ h (Wl P ops K E l) tok:=rfl
theorem Wl_slice{t:Nat}{x:Operand}{lo hi:Option Operand}:Wl P ops K E (⟨dst,.slice t x lo hi none,ty,pos,aft,none⟩::l) ρ h=WvT (iM P t (ev ρ x) (lo.map (ev ρ)) (hi.map (ev ρ))) dst ρ h (Wl P ops K E l) tok:=rfl
theorem Wl_field{t f:Nat}{x:Operand}:Wl P ops K E (⟨dst,.field t x f,ty,pos,aft,none⟩::l) ρ h=WvT (oR P t (ev ρ x) f) dst ρ h (Wl P ops K E l) tok:=rfl
theorem wQ{t:Nat}{x y:Operand}:Wl P ops K E (⟨dst,.indexAddr t x y,ty,pos,aft,none⟩::l) ρ h=WvT (oQ P t (ev ρ x) (ev ρ y)) dst ρ h (Wl P ops K E l) tok:=rfl
theorem Wl_index{t:Nat}{x y:Operand}:Wl P ops K E (⟨dst,.index t x y,ty,pos,aft,none⟩::l) ρ h=WvT (jB P t (ev ρ x) (ev ρ y)) dst ρ h (Wl P ops K E l) tok:=rfl
theorem Wl_extract{x:Operand}{i:Nat}:Wl P ops K E (⟨dst,.extract x i,ty,pos,aft,none⟩::l) ρ h=WvT (extv (ev ρ x) i) dst ρ h (Wl P ops K E l) tok:=rfl
theorem Wl_build{t:Nat}{ps:List (Nat×Operand)}:Wl P ops K E (⟨dst,.build t ps.toArray,ty,pos,aft,none⟩::l) ρ h=WvT (lS P t (ps.map fun p=>(p.1,ev ρ p.2)).toArray) dst ρ h (Wl P ops K E l) tok:=by
 have:rdOp P (.build t ps.toArray) ρ h=lS P t (ps.map fun p=>(p.1,ev ρ p.2)).toArray:=by simp[rdOp]
 rw[←this];rfl
theorem Wl_mki{t:Nat}{x:Operand}:Wl P ops K E (⟨dst,.makeInterface t x,ty,pos,aft,none⟩::l) ρ h=WvT (mkiv P t (ev ρ x)) dst ρ h (Wl P ops K E l) tok:=rfl
theorem Wl_mkf{fn:Fn}{a b:List Operand}:Wl P ops K E (⟨dst,.makeFunc fn a.toArray b.toArray,ty,pos,aft,none⟩::l) ρ h=Wl P ops K E l (ρ.put dst (.func fn (a.map (ev ρ)).toArray (b.map (ev ρ)).toArray)) h:=by
 have:rdOp P (.makeFunc fn a.toArray b.toArray) ρ h=some (.func fn (a.map (ev ρ)).toArray (b.map (ev ρ)).toArray):=by simp[rdOp]
 show Wv (rdOp P (.makeFunc fn a.toArray b.toArray) ρ h) dst ρ h _=_;rw[this];rfl
theorem Wl_len{a:List Operand}{tys:List Nat}:Wl P ops K E (⟨dst,.call ⟨.builtin .len,a.toArray,tys.toArray⟩,ty,pos,aft,none⟩::l) ρ h=WvT (lenv P tys.toArray (a.map (ev ρ)).toArray) dst ρ h (Wl P ops K E l) tok:=by
 have:rdOp P (.call ⟨.builtin .len,a.toArray,tys.toArray⟩) ρ h=lenv P tys.toArray (a.map (ev ρ)).toArray:=by simp[rdOp]
 rw[←this];rfl
theorem Wl_min{a:List Operand}{tys:List Nat}:Wl P ops K E (⟨dst,.call ⟨.builtin .min,a.toArray,tys.toArray⟩,ty,pos,aft,none⟩::l) ρ h=WvT (minv (a.map (ev ρ)).toArray) dst ρ h (Wl P ops K E l) tok:=by
 have:rdOp P (.call ⟨.builtin .min,a.toArray,tys.toArray⟩) ρ h=minv (a.map (ev ρ)).toArray:=by simp[rdOp]
 rw[←this];rfl
theorem Wl_max{a:List Operand}{tys:List Nat}:Wl P ops K E (⟨dst,.call ⟨.builtin .max,a.toArray,tys.toArray⟩,ty,pos,aft,none⟩::l) ρ h=WvT (maxv (a.map (ev ρ)).toArray) dst ρ h (Wl P ops K E l) tok:=by
 have:rdOp P (.call ⟨.builtin .max,a.toArray,tys.toArray⟩) ρ h=maxv (a.map (ev ρ)).toArray:=by simp[rdOp]
 rw[←this];rfl
theorem Wl_alloc{t:Nat}:Wl P ops K E (⟨dst,.alloc t,ty,pos,aft,none⟩::l) ρ h=WnewT P (fO P t) t dst ρ h (Wl P ops K E l) tok:=rfl
theorem Wl_box{t:Nat}{x:Operand}:Wl P ops K E (⟨dst,.box t x,ty,pos,aft,none⟩::l) ρ h=WnewT P (some (ev ρ x).cells) t dst ρ h (Wl P ops K E l) tok:=rfl
theorem Wl_store{t:Nat}{x y:Operand}:Wl P ops K E (⟨dst,.store t x y,ty,pos,aft,none⟩::l) ρ h=WstT P t (ev ρ x) (ev ρ y) dst ρ h (Wl P ops K E l) tok:=rfl
theorem Wl_call{f:Operand}{a:List Operand}{tys:Array Nat}:Wl P ops K E (⟨dst,.call ⟨.value f,a.toArray,tys⟩,ty,pos,aft,none⟩::l) ρ h=
 WfnT P (ev ρ f) (a.map (ev ρ)).toArray h (eH (Wl P ops K E l) E ρ dst) tok:=by
 show Wfn P (ev ρ f) (a.toArray.map (ev ρ)) h _=Wfn P (ev ρ f) (a.map (ev ρ)).toArray h _;simp only[aH]
end
section
variable{P:Program}{K K':Exit→Env→Heap→Prop}{N:Env→Heap→Prop}{E:List PanicEntry→Heap→Prop}{ρ:Env}{h:Heap}
theorem W_skip:W P .skip K E ρ h=K .normal ρ h:=rfl
theorem W_region{id:Nat}{l:List Oper}:W P (.region id l.toArray false) K E ρ h=Wl P l (K .normal) E l ρ h:=rfl
theorem W_draw{id:Nat}{l:List Oper}:W P (.region id l.toArray true) K E ρ h=zD P l.toArray (K .normal) E ρ h:=rfl
theorem W_seq{a b:Code}:W P (.seq a b) K E ρ h=W P a (Kseq (W P b K E) K) E ρ h:=rfl
theorem W_cond{c:Operand}{a b:Code}:W P (.cond c a b) K E ρ h=WifT (ev ρ c) (W P a K E ρ h) (W P b K E ρ h) tok:=rfl
theorem W_block{id:Nat}{c:Code}:W P (.block id c) K E ρ h=W P c (Kblk id K) E ρ h:=rfl
theorem W_exit{id:Nat}:W P (.exit id) K E ρ h=K (.exit id) ρ h:=rfl
theorem W_ret:W P .ret K E ρ h=K .ret ρ h:=rfl
theorem Kseq_n:Kseq N K .normal ρ h=N ρ h:=rfl
theorem Kseq_x{i:Nat}:Kseq N K (.exit i) ρ h=K (.exit i) ρ h:=rfl
theorem Kseq_r:Kseq N K .ret ρ h=K .ret ρ h:=rfl
theorem W_label{i:Nat}:W P (.label i) K E ρ h=K .normal ρ h:=rfl
theorem W_goto{i:Nat}:W P (.goto i) K E ρ h=K (.goto i) ρ h:=rfl
theorem Kseq_g{i:Nat}:Kseq N K (.goto i) ρ h=K (.goto i) ρ h:=rfl
theorem Kblk_g{id i:Nat}:Kblk id K (.goto i) ρ h=K (.goto i) ρ h:=rfl
theorem Kscope_n{c:Code}{J:Nat→Nat→Env→Heap→Prop}{n:Nat}:kW c J n K .normal ρ h=K .normal ρ h:=rfl
theorem Kscope_r{c:Code}{J:Nat→Nat→Env→Heap→Prop}{n:Nat}:kW c J n K .ret ρ h=K .ret ρ h:=rfl
theorem Kscope_x{c:Code}{J:Nat→Nat→Env→Heap→Prop}{n i:Nat}:kW c J n K (.exit i) ρ h=K (.exit i) ρ h:=rfl
theorem Kblk_n{id:Nat}:Kblk id K .normal ρ h=K .normal ρ h:=rfl
theorem Kblk_r{id:Nat}:Kblk id K .ret ρ h=K .ret ρ h:=rfl
theorem Kblk_x{id i:Nat}:Kblk id K (.exit i) ρ h=if i=id then K .normal ρ h else K (.exit i) ρ h:=rfl
def Wres(o:Option (List Value))(R:Ending→Heap→Prop)(h:Heap):Prop:=match o with|some l=>R (.returned (pD l)) h|none=>False
theorem Kend_n{rs:List ResultVar}{R:Ending→Heap→Prop}:Kend P rs R .normal ρ h=Wres (resl P h ρ rs) R h:=rfl
theorem Kend_r{rs:List ResultVar}{R:Ending→Heap→Prop}:Kend P rs R .ret ρ h=Wres (resl P h ρ rs) R h:=rfl
theorem tW{l:List Value}{R:Ending→Heap→Prop}:Wres (some l) R h=R (.returned (pD l)) h:=rfl
theorem oneOf1{v:Value}:pD [v]=v:=rfl
theorem oneOf2{u v:Value}{l:List Value}:pD (u::v::l)=.tuple (u::v::l).toArray:=rfl
theorem resl_nil:resl P h ρ []=some []:=rfl
theorem resl_tmp{t:Nat}{l:List ResultVar}:resl P h ρ (.tmp t::l)=(resl P h ρ l).map (ρ t::·):=rfl
theorem resl_cell{a t:Nat}{l:List ResultVar}:resl P h ρ (.cell a t::l)=(ldv P t (ρ a) h).bind fun v=>(resl P h ρ l).map (v::·):=rfl
end
section
variable{P:Program}{k:Env→Heap→Prop}{ρ:Env}{h:Heap}{dst:Option Nat}{R:Ending→Heap→Prop}{E:List PanicEntry→Heap→Prop}
theorem Wv_some{v:Value}{t:Tok (dst,ρ,h,k)}:WvT (some v) dst ρ h k t=k (ρ.put dst v) h:=rfl
theorem tX{cs:Array Value}{ty:Nat}{t:Tok (dst,ρ,k)}:WnewT P (some cs) ty dst ρ h k t=k (ρ.put dst (.pointer (some ⟨h.size,0,none⟩))) (h.push (.cells cs ty)):=rfl
theorem Wfn_func{f:Nat}{fs cap args:List Value}(he:entb P f=true){t:Tok R}:WfnT P (.func (.func f) fs.toArray cap.toArray) args.toArray h R t=CT P f (fs++args++cap).toArray h R t:=by simp[WfnT,CT,Wfn,he]
theorem qJ{f:Nat}{args:List Value}(he:entb P f=false){t:Tok R}(u:Value)(hx:∀w:World,w.heap=h→∃w',(callFunc f args.toArray).run P w=.ok (.value u) w'∧Amb w w'∧w'.heap=h)(H:R (.returned u) h):WfnT P (.func (.func f) #[] #[]) args.toArray h R t:=.inr ⟨he,u,by simpa using hx,H⟩
theorem Rcall_ret{v:Value}:eH k E ρ dst (.returned v) h=k (ρ.put dst v) h:=rfl
theorem zF{ch:List PanicEntry}:eH k E ρ dst (.panicked ch) h=E ch h:=rfl
section
variable{X Y:Prop}{t:Tok (And X Y)}
theorem zB:WifT (.bool true) X Y t=X:=rfl
theorem uB:WifT (.bool false) X Y t=Y:=rfl
theorem Wg_tt:WgT (.bool true) true X Y t=X:=rfl
theorem Wg_tf:WgT (.bool true) false X Y t=Y:=rfl
theorem Wg_ft:WgT (.bool false) true X Y t=Y:=rfl
theorem Wg_ff:WgT (.bool false) false X Y t=X:=rfl
theorem Wg_u{b:Bool}:WgT undef b X Y t=Y:=rfl
theorem uA{b:Bool}(ht:b=true→X)(hf:b=false→Y):WifT (.bool b) X Y t:=by
 cases b
 ·exact hf rfl
 ·exact ht rfl
theorem Wg_split{b want:Bool}(ht:b=want→X)(hf:b= !want→Y):WgT (.bool b) want X Y t:=by
 unfold WgT Wg;dsimp only;split
 ·exact ht ‹_›
 ·rename_i hn;exact hf (by cases b<;>cases want<;>simp_all)
end
end
theorem C_in {P:Program} {f:Nat} {fn:Func} {c:Code} {rs:List ResultVar} {args:List Value} {h:Heap} {R:Ending→Heap→Prop} (hf:P.funcs[f]? =some fn) (hb:fn.body=some c)
 (hr:fn.results.toList=rs) (hok:okc fn.ntmps c=true) (hsz:args.length≤fn.ntmps)
 (H:W P c (Kend P rs R) (fun ch h'=>R (.panicked ch) h') (Env.of args) h):C P f args.toArray h R:=
 C_of_W hf hb hok (by simpa using hsz) (by rw[hr];simpa using H)
section
variable{P:Program}{ρ:Env}{h:Heap}
theorem ev_tmp{t:Nat}:ev ρ (.tmp t)=ρ t:=rfl
theorem dZ{v:Value}:ev ρ (.const v)=v:=rfl
theorem ev_func{f:Nat}:ev ρ (.func f)=.func (.func f) #[] #[]:=rfl
theorem tQ{g:Nat}:ev ρ (.global g)=.pointer (some ⟨g,0,none⟩):=rfl
theorem set_app{t j:Nat}{v:Value}:(ρ.set t v) j=if j=t then v else ρ j:=rfl
theorem xQ{t:Nat}{v:Value}:ρ.put (some t) v=ρ.set t v:=rfl
theorem xR{v:Value}:ρ.put none v=ρ:=rfl
theorem of_zero{v:Value}{l:List Value}:Env.of (v::l) 0=v:=rfl
theorem of_succ{v:Value}{l:List Value}{n:Nat}:Env.of (v::l) (n+1)=Env.of l n:=rfl
theorem of_nil{n:Nat}:Env.of [] n=undef:=rfl
theorem gslot_zero{o:Oper}{l:List Oper}:gD (o::l) 0=o.dst:=rfl
theorem gslot_succ{o:Oper}{l:List Oper}{n:Nat}:gD (o::l) (n+1)=gD l n:=rfl
theorem gval_some{d:Nat}:gval ρ (some d)=ρ d:=rfl
theorem nilv_ptr{a:Addr}:nilv (.pointer (some a))=some (.pointer (some a)):=rfl
theorem nilv_iface{t:Nat}{v:Value}:nilv (.iface t v)=some (.iface t v):=rfl
theorem nilv_func{f:Nat}{a b:Array Value}:nilv (.func (.func f) a b)=some (.func (.func f) a b):=rfl
theorem pickv_bool{b:Bool}{x y:Value}:xU (.bool b) x y=some (if b then x else y):=rfl
theorem pick_bool{b x y:Bool}:(if b then Value.bool x else Value.bool y)=.bool (if b then x else y):=by cases b<;>rfl
theorem pick_true{x y:Value}:(if true=true then x else y)=x:=rfl
theorem pick_false{x y:Value}:(if false=true then x else y)=y:=rfl
def bnot(k:IntKind)(n:Int):Int:=k.wrap (BitVec.ofInt k.bits (if k.signed then-1 else k.max)^^^BitVec.ofInt k.bits n).toNat
def band(k:IntKind)(a b:Int):Int:=k.wrap (BitVec.ofInt k.bits a&&&BitVec.ofInt k.bits b).toNat
def bor(k:IntKind)(a b:Int):Int:=k.wrap (BitVec.ofInt k.bits a|||BitVec.ofInt k.bits b).toNat
def bxor(k:IntKind)(a b:Int):Int:=k.wrap (BitVec.ofInt k.bits a^^^BitVec.ofInt k.bits b).toNat
theorem unv_xor{k:IntKind}{n:Int}:unv .xor (.int k n)=some (.int k (bnot k n)):=rfl
theorem unv_negF{k:FloatKind}{n:Nat}:unv .neg (.float k n)=some (.float k (Op.negFloat k n)):=rfl
theorem r_binI{t:TypeId}{op:BinOp}{c:Bool}{k k':IntKind}{a b:Int}:binT P op t c (.int k a) (.int k' b)=binv op (.int k a) (.int k' b):=rfl
theorem r_binF{t:TypeId}{op:BinOp}{c:Bool}{k k':FloatKind}{a b:Nat}:binT P op t c (.float k a) (.float k' b)=binv op (.float k a) (.float k' b):=rfl
theorem r_binS{t:TypeId}{op:BinOp}{c:Bool}{a b:ByteArray}:binT P op t c (.string a) (.string b)=binv op (.string a) (.string b):=rfl
theorem r_binBe{t:TypeId}{c:Bool}{a b:Bool}(hu:P.underlying t=some .bool):binT P .eql t c (.bool a) (.bool b)=some (.bool (a==b)):=by simp[binT,hu,eqB]
theorem r_binBn{t:TypeId}{c:Bool}{a b:Bool}(hu:P.underlying t=some .bool):binT P .neq t c (.bool a) (.bool b)=some (.bool (a !=b)):=by unfold binT eqB;rw[hu];rfl
theorem r_binNe{t:TypeId}(hu:isIf (P.underlying t)=true):binT P .neq t true .nilIface .nilIface=some (.bool false):=by simp[binT,hu,eqB]
theorem vB{t u:TypeId}{c:Bool}{v:Value}(hu:isIf (P.underlying t)=true):binT P .neq t c (.iface u v) .nilIface=some (.bool true):=by simp[binT,hu,eqB]
theorem isC_const{v:Value}:isC (.const v)=true:=rfl
theorem isC_tmp{t:Nat}:isC (.tmp t)=false:=rfl
theorem isC_glob{t:Nat}:isC (.global t)=false:=rfl
theorem binv_and{k:IntKind}{a b:Int}:binv .and (.int k a) (.int k b)=some (.int k (band k a b)):=by simp[binv,bitv,band]
theorem binv_or{k:IntKind}{a b:Int}:binv .or (.int k a) (.int k b)=some (.int k (bor k a b)):=by simp[binv,bitv,bor]
theorem binv_xor{k:IntKind}{a b:Int}:binv .xor (.int k a) (.int k b)=some (.int k (bxor k a b)):=by simp[binv,bitv,bxor]
theorem binv_shl{k k':IntKind}{a:Int}{b:Nat}:binv .shl (.int k a) (.int k' b)=some (.int k (k.wrap (a*2^min b k.bits))):=by
 simp only[binv];rw[if_neg (by omega)];rfl
theorem binv_shr{k k':IntKind}{a:Int}{b:Nat}:binv .shr (.int k a) (.int k' b)=some (.int k (a.fdiv (2^min b k.bits))):=by
 simp only[binv];rw[if_neg (by omega)];rfl
theorem unv_not{b:Bool}:unv .not (.bool b)=some (.bool !b):=rfl
theorem unv_neg{k:IntKind}{n:Int}:unv .neg (.int k n)=some (.int k (k.wrap (0-n))):=rfl
theorem binv_add{k:IntKind}{a b:Int}:binv .add (.int k a) (.int k b)=some (.int k (k.wrap (a+b))):=by simp[binv]
theorem binv_sub{k:IntKind}{a b:Int}:binv .sub (.int k a) (.int k b)=some (.int k (k.wrap (a-b))):=by simp[binv]
theorem binv_mul{k:IntKind}{a b:Int}:binv .mul (.int k a) (.int k b)=some (.int k (k.wrap (a*b))):=by simp[binv]
theorem lT{k:IntKind}{a b:Int}(hb:b≠0):binv .quo (.int k a) (.int k b)=some (.int k (k.wrap (a.tdiv b))):=by simp[binv,hb]
theorem sF{k:IntKind}{a b:Int}(hb:b≠0):binv .rem (.int k a) (.int k b)=some (.int k (a.tmod b)):=by simp[binv,hb]
theorem binv_eql{k:IntKind}{a b:Int}:binv .eql (.int k a) (.int k b)=some (.bool (a==b)):=by simp[binv]
theorem binv_neq{k:IntKind}{a b:Int}:binv .neq (.int k a) (.int k b)=some (.bool (a !=b)):=by simp[binv]
theorem binv_lss{k:IntKind}{a b:Int}:binv .lss (.int k a) (.int k b)=some (.bool (decide (a<b))):=by simp[binv]
theorem binv_leq{k:IntKind}{a b:Int}:binv .leq (.int k a) (.int k b)=some (.bool (decide (a≤b))):=by simp[binv]
theorem binv_gtr{k:IntKind}{a b:Int}:binv .gtr (.int k a) (.int k b)=some (.bool (decide (b<a))):=by simp[binv]
theorem binv_geq{k:IntKind}{a b:Int}:binv .geq (.int k a) (.int k b)=some (.bool (decide (b≤a))):=by simp[binv]
theorem nF{l:List Value}{i:Nat}:extv (.tuple l.toArray) i=l[i]?:=by simp[extv]
theorem rL{k:IntKind}{x y:Int}:minv #[.int k x,.int k y]=some (.int k (if y<x then y else x)):=by simp[minv]
theorem maxv_int{k:IntKind}{x y:Int}:maxv #[.int k x,.int k y]=some (.int k (if y>x then y else x)):=by simp[maxv]
theorem vT{t:Nat}{s:ByteArray}{k:IntKind}{i:Int}(ht:P.underlying t=some .string):jB P t (.string s) (.int k i)=if 0≤i then(s[i.toNat]?).map fun b=> .int .u8 b.toNat else none:=by simp[jB,ht]
end
theorem vU{α:Type}{l:List α}:[]++l=l:=rfl
theorem vV{α:Type}{l:List α}:l++[]=l:=List.append_nil l
theorem sQ{α:Type}{a:α}{l m:List α}:(a::l)++m=a::(l++m):=rfl
theorem g_map_cons{α β:Type}{f:α→β}{a:α}{l:List α}:(a::l).map f=f a::l.map f:=rfl
theorem g_map_nil{α β:Type}{f:α→β}:([]:List α).map f=[]:=rfl
theorem g_omap{α β:Type}{f:α→β}{a:α}:(some a).map f=some (f a):=rfl
theorem g_omapn{α β:Type}{f:α→β}:(none:Option α).map f=none:=rfl
theorem g_obind{α β:Type}{f:α→Option β}{a:α}:(some a).bind f=f a:=rfl
theorem fI{α:Type}{a:α}{l:List α}:(a::l)[0]? =some a:=rfl
theorem fP{α:Type}{a:α}{l:List α}{n:Nat}:(a::l)[n+1]? =l[n]?:=rfl
end
section
def Blk(h:Heap)(b:Nat)(l:List Value)(t:TypeId):Prop:=h[b]? =some (.cells l.toArray t)
def Ext(X:List Nat)(h h':Heap):Prop:=h.size≤h'.size∧∀b,b<h.size→b∉X→h'[b]? =h[b]?
theorem Ext.refl(X:List Nat)(h:Heap):Ext X h h:=⟨bA _,fun _ _ _=>rfl⟩
theorem Ext.trans{X:List Nat}{a b c:Heap}(h:Ext X a b)(k:Ext X b c):Ext X a c:=
 ⟨Nat.le_trans h.1 k.1,fun i hi hx=>(k.2 i (Nat.lt_of_lt_of_le hi h.1) hx).trans (h.2 i hi hx)⟩
theorem Ext.mono{X Y:List Nat}{a b:Heap}(h:Ext X a b)(hxy:∀x,x∈X→x∈Y):Ext Y a b:=⟨h.1,fun i hi hy=>h.2 i hi fun hx=>hy (hxy i hx)⟩
theorem Ext.of_nil{X:List Nat}{a b:Heap}(h:Ext [] a b):Ext X a b:=h.mono (by simp)
theorem Ext.push(X:List Nat)(h:Heap)(o:Obj):Ext X h (h.push o):=⟨by simp,fun b hb _=>by rw[Array.getElem?_push,if_neg (by omega)]⟩
theorem jZ(h:Heap)(b o:Nat)(v:Value):(hset h b o v).size=h.size:=by simp[hset]
theorem hset_other{h:Heap}{b b' o:Nat}{v:Value}(hne:b'≠b):(hset h b o v)[b']? =h[b']?:=by
 unfold hset;rw[Array.getElem?_modify,if_neg (Ne.symm hne)]
theorem Ext.hset{X:List Nat}{h:Heap}{b o:Nat}{v:Value}(hb:b∈X):Ext X h (hset h b o v):=
 ⟨by rw[jZ];exact bA _,fun i _ hi=>hset_other (by rintro rfl;exact hi hb)⟩
theorem Ext.trans_new{X Y:List Nat}{a b c:Heap}(h:Ext X a b)(k:Ext Y b c)(hy:∀y,y∈Y→a.size≤y∨y∈X):Ext X a c:=
 ⟨Nat.le_trans h.1 k.1,fun i hi hx=>(k.2 i (Nat.lt_of_lt_of_le hi h.1) (fun hm=>(hy i hm).elim (fun h=>by omega) hx)).trans (h.2 i hi hx)⟩
theorem jY{h:Heap}{b:Nat}{o:Obj}(hb:h[b]? =some o):b<h.size:=(Array.getElem?_eq_some_iff.1 hb).1
theorem Blk.lt{h:Heap}{b:Nat}{l:List Value}{t:TypeId}(hb:Blk h b l t):b<h.size:=jY hb
theorem Blk.ext{X:List Nat}{h h':Heap}{b:Nat}{l:List Value}{t:TypeId}(hb:Blk h b l t)(hE:Ext X h h')(hx:b∉X):Blk h' b l t:=(hE.2 b hb.lt hx).trans hb
theorem Blk.new{h:Heap}{l:List Value}{t:TypeId}:Blk (h.push (.cells l.toArray t)) h.size l t:=by unfold Blk;simp
theorem Blk.newA{h:Heap}{l:Array Value}{t:TypeId}:Blk (h.push (.cells l t)) h.size l.toList t:=by unfold Blk;simp
theorem kC{h:Heap}{b o:Nat}{v:Value}(hc:bG h b o=some v):b<h.size:=by
 unfold bG at hc;split at hc
 ·exact jY ‹_›
 ·cases hc
theorem sC{h h':Heap}{b o:Nat}(hg:h'[b]? =h[b]?):bG h' b o=bG h b o:=by unfold bG;rw[hg]
theorem vW{h h':Heap}{b o:Nat}(hg:h'[b]? =h[b]?):fA h' b o=fA h b o:=by unfold fA;rw[hg]
theorem Ext.cell{X:List Nat}{h h':Heap}{b o:Nat}{v:Value}(hE:Ext X h h')(hc:bG h b o=some v)(hx:b∉X):bG h' b o=some v:=
 (sC (hE.2 b (kC hc) hx)).trans hc
theorem bE{h:Heap}{b o:Nat}{l:List Value}{t:TypeId}(hb:Blk h b l t):bG h b o=l[o]?:=by unfold bG;unfold Blk at hb;rw[hb];simp
theorem gR{h:Heap}{b o:Nat}{l:List Value}{t:TypeId}(hb:Blk h b l t):fA h b o=false:=by unfold fA;unfold Blk at hb;rw[hb];simp
theorem Blk.set{h:Heap}{b o:Nat}{l:List Value}{t:TypeId}{v:Value}(hb:Blk h b l t):Blk (hset h b o v) b (l.set o v) t:=by
 unfold Blk hset at*;rw[Array.getElem?_modify,if_pos rfl,hb];simp
theorem rO{h:Heap}{b:Nat}:∀{n o:Nat} {l:List Value},l.length=n→(∀j,j<n→bG h b (o+j)=l[j]?)→dH h b o n=some l:=by
 intro n
 induction n with
 |zero=>intro o l hl _;simp[dH,List.eq_nil_of_length_eq_zero hl]
 |succ n ih=>
  intro o l hl hc
  cases l with
  |nil=>simp at hl
  |cons v l=>
   have h0:=hc 0 (by omega);simp only[Nat.add_zero,List.getElem?_cons_zero]at h0
   have h1:=ih (o:=o+1) (l:=l) (by simpa using hl) (fun j hj=>by
    have:=hc (j+1) (by omega);simp only[List.getElem?_cons_succ]at this
    rw[←this];congr 1;omega)
   simp[dH,h0,h1]
theorem bQ{h:Heap}{b:Nat}{l:List Value}{t:TypeId}(hb:Blk h b l t){n:Nat}(hn:l.length=n):dH h b 0 n=some l:=
 rO hn fun j _=>by rw[aR,bE hb]
theorem pF{h:Heap}{b o n:Nat}{l:List Value}{t:TypeId}(hb:Blk h b l t)(hn:o+n≤l.length):dH h b o n=some ((l.drop o).take n):=
 rO (by simp;omega) fun j hj=>by rw[bE hb,List.getElem?_take,if_pos hj,List.getElem?_drop]
theorem fM{X:List Nat}{h h':Heap}{b:Nat}(hE:Ext X h h')(hx:b∉X):∀{n o:Nat} {l:List Value},dH h b o n=some l→dH h' b o n=some l:=by
 intro n
 induction n with
 |zero=>intro o l h;exact h
 |succ n ih=>
  intro o l h;simp only[dH,Option.bind_eq_some_iff,Option.map_eq_some_iff]at h⊢;obtain⟨v,hv,l',hl',rfl⟩:=h;exact⟨v,hE.cell hv hx,l',ih hl',rfl⟩
section fresh
variable{h:Heap}{x:Obj}{b o n:Nat}{l:List Value}{t:TypeId}
theorem lt_push(hb:b<h.size):(b<(h.push x).size)=True:=by simp;omega
theorem uQ:(h.size<(h.push x).size)=True:=by simp
theorem pK(hb:b<h.size):bG (h.push x) b o=bG h b o:=sC (by rw[Array.getElem?_push,if_neg (by omega)])
theorem sR(hb:b<h.size):fA (h.push x) b o=fA h b o:=vW (by rw[Array.getElem?_push,if_neg (by omega)])
theorem vS(hb:b<h.size):dH (h.push x) b o n=dH h b o n:=by
 induction n generalizing o with
 |zero=>rfl
 |succ n ih=>simp only[dH,ih,pK hb]
theorem gJ:bG (h.push (.cells l.toArray t)) h.size o=l[o]?:=bE Blk.new
theorem oB:fA (h.push (.cells l.toArray t)) h.size o=false:=gR (Blk.new (l:=l) (t:=t))
def jA:List Value→Nat→Bool
 |[],0=>true
 |_::l,n+1=>jA l n
 |_,_=>false
theorem mL{l:List Value}{n:Nat}:jA l n=true↔l.length=n:=by
 induction l generalizing n with
 |nil=>cases n<;>simp[jA]
 |cons a l ih=>cases n<;>simp[jA,ih]
def inB:Nat→List Value→Bool
 |0,_::_=>true
 |n+1,_::l=>inB n l
 |_,[]=>false
theorem inB_iff{l:List Value}{n:Nat}:inB n l=true↔n<l.length:=by
 induction l generalizing n with
 |nil=>cases n<;>simp[inB]
 |cons a l ih=>cases n<;>simp[inB,ih]
theorem lenIs_nil:jA [] 0=true:=rfl
theorem lenIs_cons{a:Value}:jA (a::l) (n+1)=jA l n:=rfl
theorem inB_zero{a:Value}:inB 0 (a::l)=true:=rfl
theorem inB_succ{a:Value}:inB (n+1) (a::l)=inB n l:=rfl
theorem oM{a v:Value}:(a::l).set 0 v=v::l:=rfl
theorem oN{a v:Value}:(a::l).set (n+1) v=a::l.set n v:=rfl
theorem yD(hl:jA l n=true):dH (h.push (.cells l.toArray t)) h.size 0 n=some l:=bQ Blk.new (mL.1 hl)
def one':List Value→Bool
 |[]=>true
 |v::l=>v.oneCell'&&one' l
theorem gO:one' l=true↔∀v∈l,v.oneCell'=true:=by
 induction l with
 |nil=>simp[one']
 |cons a l ih=>simp[one',ih]
theorem one'_nil:one' []=true:=rfl
theorem one'_cons{a:Value}:one' (a::l)=(a.oneCell'&&one' l):=rfl
theorem oc_int{k:IntKind}{i:Int}:(Value.int k i).oneCell'=true:=rfl
theorem oc_bool{c:Bool}:(Value.bool c).oneCell'=true:=rfl
theorem oc_string{s:ByteArray}:(Value.string s).oneCell'=true:=rfl
theorem oc_float{k:FloatKind}{i:Nat}:(Value.float k i).oneCell'=true:=rfl
theorem oc_ptr{a:Option Addr}:(Value.pointer a).oneCell'=true:=rfl
theorem oc_slice{a:Option Addr}{n c:Nat}:(Value.slice a n c).oneCell'=true:=rfl
theorem oc_map{a:Option Nat}:(Value.map a).oneCell'=true:=rfl
theorem oc_func{f:Fn}{a c:Array Value}:(Value.func f a c).oneCell'=true:=rfl
theorem oc_iface{ty:Nat}{v:Value}:(Value.iface ty v).oneCell'=true:=rfl
theorem oc_niface:Value.nilIface.oneCell'=true:=rfl
theorem oc_nfunc:Value.nilFunc.oneCell'=true:=rfl
theorem tt_and{c:Bool}:(true&&c)=c:=rfl
theorem cells_agg{a:Array Value}:(Value.agg a).cells=a:=rfl
theorem cells_int{k:IntKind}{i:Int}:(Value.int k i).cells=#[.int k i]:=rfl
theorem cells_bool{c:Bool}:(Value.bool c).cells=#[.bool c]:=rfl
theorem wG{s:ByteArray}:(Value.string s).cells=#[.string s]:=rfl
theorem yR{a:Option Addr}{n c:Nat}:(Value.slice a n c).cells=#[.slice a n c]:=rfl
end fresh
section stores
variable{P:Program}{k:Env→Heap→Prop}{ρ:Env}{h:Heap}{dst:Option Nat}{ty:TypeId}
theorem tP{h:Heap}{l:List Value}{t:TypeId}{o:Nat}{v:Value}:hset (h.push (.cells l.toArray t)) h.size o v=h.push (.cells (l.set o v).toArray t):=by
 unfold hset;apply Array.ext_getElem?;intro i;rw[Array.getElem?_modify,Array.getElem?_push,Array.getElem?_push];by_cases hi:i=h.size
 ·subst hi;simp
 ·rw[if_neg (Ne.symm hi),if_neg hi,if_neg hi]
theorem uP{h:Heap}{t:TypeId}:∀{l':List Value} {l:List Value} {o:Nat},eZ (h.push (.cells l.toArray t)) h.size o l'=h.push (.cells (l'.zipIdx.foldl (fun l p=>l.set (o+p.2) p.1) l).toArray t):=by
 intro l'
 induction l' with
 |nil=>intro l o;rfl
 |cons v l' ih=>
  intro l o;simp only[eZ,tP,ih,List.zipIdx_cons,List.foldl_cons,Nat.add_zero]
  congr 2
  congr 1
  rw[List.zipIdx_succ,List.foldl_map]
  congr 1
  funext l p;obtain⟨x,i⟩:=p;congr 1;dsimp only;omega
theorem sT:∀(l' l pre:List Value),l'.length=l.length→(l'.zipIdx pre.length).foldl (fun l p=>l.set p.2 p.1) (pre++l)=pre++l':=by
 intro l'
 induction l' with
 |nil=>intro l pre hl;simp at hl;simp[List.eq_nil_of_length_eq_zero hl.symm]
 |cons v l' ih=>
  intro l pre hl
  cases l with
  |nil=>simp at hl
  |cons a l=>
   simp only[List.zipIdx_cons,List.foldl_cons];have h1:(pre++a::l).set pre.length v=(pre++[v])++l:=by simp
   rw[h1];have:=ih l (pre++[v]) (by simpa using hl);simp only[aC,aB,aD,aR]at this;rw[this];simp
theorem xJ{h:Heap}{t:TypeId}{l' l:List Value}(hl:l'.length=l.length):eZ (h.push (.cells l.toArray t)) h.size 0 l'=h.push (.cells l'.toArray t):=by
 rw[uP];have:=sT l' l [] hl;simp only[aD,List.nil_append]at this;simp only[aR];rw[this]
theorem xH{l l':List Value}{t:TypeId}{o:Nat}(ho:o+l'.length≤l.length)(h1:one' l'=true):stOk (h.push (.cells l.toArray t)) h.size o l':=by
 intro j v hj;have hjl:j<l'.length:=(List.getElem?_eq_some_iff.1 hj).1;refine⟨?_,oB,gO.1 h1 v (List.mem_of_getElem? hj)⟩;rw[gJ,aS (by omega)];rfl
theorem Wst_new1{v:Value}{l:List Value}{t:TypeId}{o n:Nat}{tk:Tok (dst,ρ,k)}(hs:szOf P ty=some (false,n))(ho:inB o l=true)(h1:v.oneCell'=true)(hn:n=1):
 WstT P ty (.pointer (some ⟨h.size,o,none⟩)) v dst ρ (h.push (.cells l.toArray t)) k tk=k (ρ.put dst undef) (h.push (.cells (l.set o v).toArray t)):=by
 have hc:v.cells=#[v]:=by cases v<;>first|rfl|cases h1
 have hok:=xH (h:=h) (l:=l) (l':=[v]) (t:=t) (o:=o) (by have:=inB_iff.1 ho;simp;omega) (by simp[one',h1]);unfold WstT Wst;simp only[hs,hc,eq_iff_iff];have hst:eZ (h.push (.cells l.toArray t)) h.size o [v]=h.push (.cells (l.set o v).toArray t):=by simp only[eZ,tP]
 rw[hst];exact⟨fun H=>H.2.2,fun H=>⟨by simp[hn],hok,H⟩⟩
theorem Wst_newAll{l l':List Value}{t:TypeId}{n:Nat}{tk:Tok (dst,ρ,k)}(hs:szOf P ty=some (true,n))(ho:jA l n=true)(hl:jA l' n=true)(h1:one' l'=true):
 WstT P ty (.pointer (some ⟨h.size,0,none⟩)) (.agg l'.toArray) dst ρ (h.push (.cells l.toArray t)) k tk=k (ρ.put dst undef) (h.push (.cells l'.toArray t)):=by
 have h2:=mL.1 ho;have h3:=mL.1 hl;have hok:=xH (h:=h) (l:=l) (l':=l') (t:=t) (o:=0) (by omega) h1;unfold WstT Wst;simp only[hs,Value.cells,eq_iff_iff];rw[xJ (by omega)];exact⟨fun H=>H.2.2,fun H=>⟨by simpa using h3,hok,H⟩⟩
theorem bS {v:Value} {b o:Nat} {l:List Value} {t:TypeId} {tk:Tok (dst,ρ,k)} (hb:Blk h b l t) (hs:szOf P ty=some (false,1)) (ho:o<l.length) (h1:v.oneCell'=true)
 (H:∀h',Blk h' b (l.set o v) t→Ext [b] h h'→h'.size=h.size→k (ρ.put dst undef) h'):WstT P ty (.pointer (some ⟨b,o,none⟩)) v dst ρ h k tk:=by
 have hc:v.cells=#[v]:=by cases v<;>first|rfl|cases h1
 unfold WstT Wst;simp only[hs,hc];refine⟨rfl,fun j u hj=> ?_,H _ hb.set (Ext.hset (by simp)) (jZ _ _ _ _)⟩
 cases j with
 |zero=>
  simp at hj;subst hj;refine⟨?_,gR hb,h1⟩
  rw[bE hb,Nat.add_zero,aS ho];rfl
 |succ j=>simp at hj
theorem lF{b:Nat}{t:TypeId}:∀{l':List Value} {h:Heap} {l:List Value} {o:Nat},Blk h b l t→o+l'.length≤l.length→
 Blk (eZ h b o l') b (l.take o++l'++l.drop (o+l'.length)) t∧Ext [b] h (eZ h b o l')∧(eZ h b o l').size=h.size:=by
 intro l'
 induction l' with
 |nil=>intro h l o hb ho;refine⟨?_,Ext.refl _ _,rfl⟩;simpa[eZ]using hb
 |cons v l' ih=>
  intro h l o hb ho;simp only[aB]at ho;have h1:=ih (h:=hset h b o v) (l:=l.set o v) (o:=o+1) hb.set (by simp;omega);refine⟨?_,(Ext.hset (by simp)).trans h1.2.1,by rw[eZ,h1.2.2,jZ]⟩;have:=h1.1;rw[eZ]
  have e:(l.set o v).take (o+1)++l'++(l.set o v).drop (o+1+l'.length)=l.take o++(v::l')++l.drop (o+(v::l').length):=by
   have e1:(l.set o v).take (o+1)=l.take o++[v]:=by
    rw[List.take_add_one,List.take_set_of_le (bA _)];simp[List.getElem?_set,show o<l.length by omega]
   have e2:(l.set o v).drop (o+1+l'.length)=l.drop (o+(v::l').length):=by
    rw[List.drop_set_of_lt (by omega)]
    congr 1;simp;omega
   rw[e1,e2];simp
  rwa [e]at this
theorem cM {b o n:Nat} {l l':List Value} {t:TypeId} {tk:Tok (dst,ρ,k)} (hb:Blk h b l t) (hs:szOf P ty=some (true,n)) (hn:l'.length=n) (ho:o+n≤l.length) (h1:one' l'=true)
 (H:∀h',Blk h' b (l.take o++l'++l.drop (o+n)) t→Ext [b] h h'→h'.size=h.size→k (ρ.put dst undef) h'):WstT P ty (.pointer (some ⟨b,o,none⟩)) (.agg l'.toArray) dst ρ h k tk:=by
 subst hn;obtain⟨g1,g2,g3⟩:=lF (t:=t) (l':=l') (o:=o) hb ho;unfold WstT Wst;simp only[hs,Value.cells];refine⟨by simp,fun j u hj=> ?_,H _ g1 g2 g3⟩;have hjl:j<l'.length:=(List.getElem?_eq_some_iff.1 hj).1;refine⟨?_,gR hb,gO.1 h1 u (List.mem_of_getElem? hj)⟩;rw[bE hb,aS (by omega)];rfl
end stores
end
end Go.Proofs.YtfmbepijhnaklaaGreatDoor
