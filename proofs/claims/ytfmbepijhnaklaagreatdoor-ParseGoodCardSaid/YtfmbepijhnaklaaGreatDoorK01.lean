/- Proved here: Contracts of the library's functions, laid from the shelf at this program | A light wp-calculus over the kit's 'Code.wp' | The light calculus is sound. Conditions: what each statement names. -/
import Derived.Test.YtfmbepijhnaklaaGreatDoorProg
import Derived.WalkKit
import Derived.Shelf.Strings.Builder1
import Derived.Shelf.Strings.Trim
import Derived.Shelf.Small.Utf8
import Derived.Shelf.Small.Bits
import Derived.Shelf.Small.Strs
import Derived.Shelf.Strconv.Itoa0
import Derived.Shelf.Strconv.Itoa1
import Derived.Shelf.LaysM
import Derived.Shelf.Strconv.Itoa2
import Derived.Shelf.Strconv.Itoa3
import Derived.Shelf.Strconv.Clone
import Derived.Shelf.Strconv.SyntaxError
import Derived.Shelf.LaysC
import Derived.Shelf.Strconv.ToError
import Derived.Shelf.Strconv.Lower
import Derived.Shelf.Strconv.RangeError
import Derived.Shelf.Strconv.ToErrorRange
import Derived.Shelf.Strings.Search1
import Derived.Shelf.Strings.Search2
import Derived.Shelf.Strings.Search3
import Derived.Shelf.Strings.Cut
import Derived.Shelf.Strings.Shaped
import Derived.Shelf.Strings.Prefix
import Derived.Shelf.Strings.Fields
import Derived.Shelf.Strings.SplitShaped
import Derived.Shelf.Unicode.Latin
import Derived.Shelf.Unicode.Decode
import Derived.Shelf.Strings.Runes
import Derived.Shelf.Strings.IndexAny
import Derived.Shelf.Strings.AsciiSet
import Derived.Shelf.Strings.IndexAnyAll
import Derived.Shelf.Bits.Mul64
import Derived.Shelf.Unicode.DecodeSlow
import Derived.Shelf.Unicode.DecodeAny
import Derived.Shelf.Unicode.Is16White
import Derived.Shelf.Unicode.IsSpaceAny
import Derived.Shelf.Unicode.Is16Any
import Derived.Shelf.Unicode.Is32Any
import Derived.Shelf.Unicode.ExclAny
import Derived.Shelf.Slices.Equal
import Derived.Shelf.Slices.Empties2
import Derived.Deep.LoopGhost
import Derived.Scope
set_option maxRecDepth 100000
set_option maxHeartbeats 4000000
set_option linter.unusedSimpArgs false
set_option linter.unusedVariables false
set_option linter.defProp false
open Nat renaming reduceEqDiff → aA, le_of_ble_eq_true → aG, mul_one → aP, zero_mul → aQ, zero_add → aR, reduceBEq → aY, reduceAdd → aZ, le_refl → bA
open List renaming length_cons → aB, length_append → aC, length_nil → aD, map_toArray → aH, map_cons → aJ, map_nil → aK, perm_iff_count → aM, count_append → aO, getElem?_eq_getElem → aS, count_cons → aT, count_nil → aV
open Go.Proofs.Tryz renaming prog → aE
open Int renaming toNat_natCast → aF, toNat_zero → aN, toNat_one → aX
open Bool renaming false_eq_true → aI, eq_iff_iff → aW
open And renaming intro → aL
open Go.IntWalk renaming i64_in → aU
namespace Go.Proofs.YtfmbepijhnaklaaGreatDoor
theorem bC{p:Prop}[h:Decidable p](k:p):decide p=true:=by simp[k]
theorem bD{p:Prop}[h:Decidable p](k:¬p):decide p=false:=by simp[k]
section
open Go.Shelf
def Tryz.lays161_ren:Go.Shelf.Ren:=⟨fun|161=>171|231=>193|227=>183|233=>194|235=>195|228=>184|197=>89|151=>209|260=>111|152=>181|137=>165|119=>200|224=>161|225=>160|217=>159|266=>178|n=>n,fun|9=>9|4=>4|3=>3|5=>5|117=>192|116=>191|0=>0|124=>204|105=>116|21=>21|119=>100|46=>139|139=>159|138=>158|n=>n,fun|3=>3|4=>4|n=>n⟩
theorem Tryz.lays161:Go.Proofs.Lays.n161 aE Tryz.lays161_ren:={
 mixed:=by kernel_rfl
 f119:=Tryz.func200.trans (congrArg some (by kernel_rfl))
 f137:=Tryz.func165.trans (congrArg some (by kernel_rfl))
 f151:=Tryz.func209.trans (congrArg some (by kernel_rfl))
 f152:=Tryz.func181.trans (congrArg some (by kernel_rfl))
 f161:=Tryz.func171.trans (congrArg some (by kernel_rfl))
 f197:=Tryz.func89.trans (congrArg some (by kernel_rfl))
 f217:=Tryz.func159.trans (congrArg some (by kernel_rfl))
 f224:=Tryz.func161.trans (congrArg some (by kernel_rfl))
 f225:=Tryz.func160.trans (congrArg some (by kernel_rfl))
 f227:=Tryz.func183.trans (congrArg some (by kernel_rfl))
 f228:=Tryz.func184.trans (congrArg some (by kernel_rfl))
 f231:=Tryz.func193.trans (congrArg some (by kernel_rfl))
 f233:=Tryz.func194.trans (congrArg some (by kernel_rfl))
 f235:=Tryz.func195.trans (congrArg some (by kernel_rfl))
 f260:=Tryz.func111.trans (congrArg some (by kernel_rfl))
 f266:=Tryz.func178.trans (congrArg some (by kernel_rfl))
 t0:=Tryz.underlying0
 a0:=Tryz.isAgg0
 z0:=Tryz.sizeOf0
 v0:=Tryz.zeroValue0
 t3:=Tryz.underlying3
 a3:=Tryz.isAgg3
 z3:=Tryz.sizeOf3
 v3:=Tryz.zeroValue3
 t4:=Tryz.underlying4
 a4:=Tryz.isAgg4
 z4:=Tryz.sizeOf4
 v4:=Tryz.zeroValue4
 t5:=Tryz.underlying5
 a5:=Tryz.isAgg5
 z5:=Tryz.sizeOf5
 v5:=Tryz.zeroValue5
 t9:=Tryz.underlying9
 a9:=Tryz.isAgg9
 z9:=Tryz.sizeOf9
 v9:=Tryz.zeroValue9
 t21:=Tryz.underlying21
 a21:=Tryz.isAgg21
 z21:=Tryz.sizeOf21
 v21:=Tryz.zeroValue21
 t46:=Tryz.underlying139
 a46:=Tryz.isAgg139
 z46:=Tryz.sizeOf139
 v46:=Tryz.zeroValue139
 t105:=Tryz.underlying116
 a105:=Tryz.isAgg116
 z105:=Tryz.sizeOf116
 v105:=Tryz.zeroValue116
 t116:=Tryz.underlying191
 a116:=Tryz.isAgg191
 z116:=Tryz.sizeOf191
 t117:=Tryz.underlying192
 a117:=Tryz.isAgg192
 z117:=Tryz.sizeOf192
 v117:=Tryz.zeroValue192
 t119:=Tryz.underlying100
 a119:=Tryz.isAgg100
 z119:=Tryz.sizeOf100
 t124:=Tryz.underlying204
 a124:=Tryz.isAgg204
 z124:=Tryz.sizeOf204
 v124:=Tryz.zeroValue204
 t138:=Tryz.underlying158
 a138:=Tryz.isAgg158
 z138:=Tryz.sizeOf158
 v138:=Tryz.zeroValue158
 t139:=Tryz.underlying159
 a139:=Tryz.isAgg159
 z139:=Tryz.sizeOf159
 v139:=Tryz.zeroValue159
 g3:=by kernel_rfl
 g4:=by kernel_rfl}
open Go.RowKit in
theorem Tryz.strings_TrimLeft_one(s:ByteArray)(c:UInt8)(hc:c.toNat<128)(w:World):
 Calls aE 171 #[.string s,.string ⟨#[c]⟩] w fun e w'=>e=.returned (.string ⟨(Lib.trimLeftB s.data.toList c).toArray⟩)∧w'=w:=Any.strings_TrimLeft_one Tryz.lays161 s c hc w
def Tryz.lays119_ren:Go.Shelf.Ren:=⟨fun|119=>200|n=>n,fun|21=>21|4=>4|n=>n,fun|n=>n⟩
theorem Tryz.lays119:Go.Proofs.Lays.n119 aE Tryz.lays119_ren:={
 mixed:=by kernel_rfl
 f119:=Tryz.func200.trans (congrArg some (by kernel_rfl))
 t4:=Tryz.underlying4
 a4:=Tryz.isAgg4
 z4:=Tryz.sizeOf4
 v4:=Tryz.zeroValue4
 t21:=Tryz.underlying21
 a21:=Tryz.isAgg21
 z21:=Tryz.sizeOf21
 v21:=Tryz.zeroValue21}
theorem Tryz.utf8_ValidRune(r:Int)(w:World):
 Calls aE 200 #[.int .i32 r] w fun e w'=>e=.returned (.bool (Lib.validRune r))∧w'=w:=Any.utf8_ValidRune Tryz.lays119 r w
def Tryz.lays134_ren:Go.Shelf.Ren:=⟨fun|134=>189|129=>206|n=>n,fun|53=>85|3=>3|4=>4|46=>139|5=>5|9=>9|n=>n,fun|n=>n⟩
theorem Tryz.lays134:Go.Proofs.Lays.n134 aE Tryz.lays134_ren:={
 mixed:=by kernel_rfl
 f129:=Tryz.func206.trans (congrArg some (by kernel_rfl))
 f134:=Tryz.func189.trans (congrArg some (by kernel_rfl))
 t3:=Tryz.underlying3
 a3:=Tryz.isAgg3
 z3:=Tryz.sizeOf3
 v3:=Tryz.zeroValue3
 t4:=Tryz.underlying4
 a4:=Tryz.isAgg4
 z4:=Tryz.sizeOf4
 v4:=Tryz.zeroValue4
 t5:=Tryz.underlying5
 a5:=Tryz.isAgg5
 z5:=Tryz.sizeOf5
 v5:=Tryz.zeroValue5
 t9:=Tryz.underlying9
 a9:=Tryz.isAgg9
 z9:=Tryz.sizeOf9
 v9:=Tryz.zeroValue9
 t46:=Tryz.underlying139
 a46:=Tryz.isAgg139
 z46:=Tryz.sizeOf139
 v46:=Tryz.zeroValue139
 t53:=Tryz.underlying85
 a53:=Tryz.isAgg85
 z53:=Tryz.sizeOf85
 v53:=Tryz.zeroValue85}
theorem Tryz.bits_LeadingZeros64(x:Int)(w:World)(h0:0≤x)(h1:x≤18446744073709551615):
 Calls aE 189 #[.int .u64 x] w fun e w'=>e=.returned (.int .i64 (64-(Lib.bitLen x.toNat:Int)))∧w'=w:=Any.bits_LeadingZeros64 Tryz.lays134 x w h0 h1
def Tryz.lays137_ren:Go.Shelf.Ren:=⟨fun|137=>165|217=>159|266=>178|n=>n,fun|9=>9|5=>5|3=>3|n=>n,fun|n=>n⟩
theorem Tryz.lays137:Go.Proofs.Lays.n137 aE Tryz.lays137_ren:={
 mixed:=by kernel_rfl
 f137:=Tryz.func165.trans (congrArg some (by kernel_rfl))
 f217:=Tryz.func159.trans (congrArg some (by kernel_rfl))
 f266:=Tryz.func178.trans (congrArg some (by kernel_rfl))
 t3:=Tryz.underlying3
 a3:=Tryz.isAgg3
 z3:=Tryz.sizeOf3
 v3:=Tryz.zeroValue3
 t5:=Tryz.underlying5
 a5:=Tryz.isAgg5
 z5:=Tryz.sizeOf5
 v5:=Tryz.zeroValue5
 t9:=Tryz.underlying9
 a9:=Tryz.isAgg9
 z9:=Tryz.sizeOf9
 v9:=Tryz.zeroValue9}
open Go.RowKit in
theorem Tryz.strings_IndexByte(s:ByteArray)(c:Int)(w:World):
 Calls aE 165 #[.string s,.int .u8 c] w fun e w'=>e=.returned (.int .i64 (Lib.indexByte s.data.toList c.toNat.toUInt8))∧w'=w:=Any.strings_IndexByte Tryz.lays137 s c w
def Tryz.lays129_ren:Go.Shelf.Ren:=⟨fun|129=>206|n=>n,fun|53=>85|3=>3|4=>4|46=>139|5=>5|9=>9|n=>n,fun|n=>n⟩
theorem Tryz.lays129:Go.Proofs.Lays.n129 aE Tryz.lays129_ren:={
 mixed:=by kernel_rfl
 f129:=Tryz.func206.trans (congrArg some (by kernel_rfl))
 t3:=Tryz.underlying3
 a3:=Tryz.isAgg3
 z3:=Tryz.sizeOf3
 v3:=Tryz.zeroValue3
 t4:=Tryz.underlying4
 a4:=Tryz.isAgg4
 z4:=Tryz.sizeOf4
 v4:=Tryz.zeroValue4
 t5:=Tryz.underlying5
 a5:=Tryz.isAgg5
 z5:=Tryz.sizeOf5
 v5:=Tryz.zeroValue5
 t9:=Tryz.underlying9
 a9:=Tryz.isAgg9
 z9:=Tryz.sizeOf9
 v9:=Tryz.zeroValue9
 t46:=Tryz.underlying139
 a46:=Tryz.isAgg139
 z46:=Tryz.sizeOf139
 v46:=Tryz.zeroValue139
 t53:=Tryz.underlying85
 a53:=Tryz.isAgg85
 z53:=Tryz.sizeOf85
 v53:=Tryz.zeroValue85}
theorem Tryz.bits_Len64(x:Int)(w:World)(h0:0≤x)(h1:x≤18446744073709551615):
 Calls aE 206 #[.int .u64 x] w fun e w'=>e=.returned (.int .i64 (Lib.bitLen x.toNat))∧w'=w:=Any.bits_Len64 Tryz.lays129 x w h0 h1
def Tryz.laysM171_ren:Go.Shelf.Ren:=⟨fun|171=>174|243=>198|246=>211|283=>223|284=>224|285=>225|286=>226|129=>206|317=>245|318=>246|319=>247|320=>248|337=>265|338=>266|n=>n,fun|3=>3|9=>9|2=>2|4=>4|171=>225|0=>0|53=>85|37=>113|5=>5|173=>227|212=>257|51=>127|20=>20|213=>258|46=>139|232=>282|233=>283|n=>n,fun|17=>11|18=>16|19=>17|n=>n⟩
theorem Tryz.laysM171:Go.Proofs.LaysM.n171 aE Tryz.laysM171_ren:={
 mixed:=by kernel_rfl
 f129:=Tryz.func206.trans (congrArg some (by kernel_rfl))
 f171:=Tryz.func174.trans (congrArg some (by kernel_rfl))
 f243:=Tryz.func198.trans (congrArg some (by kernel_rfl))
 f246:=Tryz.func211.trans (congrArg some (by kernel_rfl))
 f283:=Tryz.func223.trans (congrArg some (by kernel_rfl))
 f284:=Tryz.func224.trans (congrArg some (by kernel_rfl))
 f285:=Tryz.func225.trans (congrArg some (by kernel_rfl))
 f286:=Tryz.func226.trans (congrArg some (by kernel_rfl))
 f317:=Tryz.func245.trans (congrArg some (by kernel_rfl))
 f318:=Tryz.func246.trans (congrArg some (by kernel_rfl))
 f319:=Tryz.func247.trans (congrArg some (by kernel_rfl))
 f320:=Tryz.func248.trans (congrArg some (by kernel_rfl))
 f337:=Tryz.func265.trans (congrArg some (by kernel_rfl))
 f338:=Tryz.func266.trans (congrArg some (by kernel_rfl))
 t0:=Tryz.underlying0
 a0:=Tryz.isAgg0
 z0:=Tryz.sizeOf0
 v0:=Tryz.zeroValue0
 t2:=Tryz.underlying2
 a2:=Tryz.isAgg2
 z2:=Tryz.sizeOf2
 v2:=Tryz.zeroValue2
 t3:=Tryz.underlying3
 a3:=Tryz.isAgg3
 z3:=Tryz.sizeOf3
 v3:=Tryz.zeroValue3
 t4:=Tryz.underlying4
 a4:=Tryz.isAgg4
 z4:=Tryz.sizeOf4
 v4:=Tryz.zeroValue4
 t5:=Tryz.underlying5
 a5:=Tryz.isAgg5
 z5:=Tryz.sizeOf5
 v5:=Tryz.zeroValue5
 t9:=Tryz.underlying9
 a9:=Tryz.isAgg9
 z9:=Tryz.sizeOf9
 v9:=Tryz.zeroValue9
 t20:=Tryz.underlying20
 a20:=Tryz.isAgg20
 z20:=Tryz.sizeOf20
 v20:=Tryz.zeroValue20
 t37:=Tryz.underlying113
 a37:=Tryz.isAgg113
 z37:=Tryz.sizeOf113
 v37:=Tryz.zeroValue113
 t46:=Tryz.underlying139
 a46:=Tryz.isAgg139
 z46:=Tryz.sizeOf139
 v46:=Tryz.zeroValue139
 t51:=Tryz.underlying127
 a51:=Tryz.isAgg127
 z51:=Tryz.sizeOf127
 v51:=Tryz.zeroValue127
 t53:=Tryz.underlying85
 a53:=Tryz.isAgg85
 z53:=Tryz.sizeOf85
 v53:=Tryz.zeroValue85
 t171:=Tryz.underlying225
 a171:=Tryz.isAgg225
 z171:=Tryz.sizeOf225
 v171:=Tryz.zeroValue225
 t173:=Tryz.underlying227
 a173:=Tryz.isAgg227
 z173:=Tryz.sizeOf227
 v173:=Tryz.zeroValue227
 t212:=Tryz.underlying257
 a212:=Tryz.isAgg257
 z212:=Tryz.sizeOf257
 v212:=Tryz.zeroValue257
 t213:=Tryz.underlying258
 a213:=Tryz.isAgg258
 z213:=Tryz.sizeOf258
 t232:=Tryz.underlying282
 a232:=Tryz.isAgg282
 z232:=Tryz.sizeOf282
 v232:=Tryz.zeroValue282
 t233:=Tryz.underlying283
 a233:=Tryz.isAgg283
 z233:=Tryz.sizeOf283
 v233:=Tryz.zeroValue283
 g17:=by kernel_rfl
 g18:=by kernel_rfl
 g19:=by kernel_rfl
 i0:=by kernel_rfl
 i2:=by kernel_rfl
 i3:=by kernel_rfl
 i4:=by kernel_rfl
 i5:=by kernel_rfl
 i9:=by kernel_rfl
 i20:=by kernel_rfl
 i37:=by kernel_rfl
 i46:=by kernel_rfl
 i51:=by kernel_rfl
 i53:=by kernel_rfl
 i171:=by kernel_rfl
 i173:=by kernel_rfl
 i212:=by kernel_rfl
 i232:=by kernel_rfl
 i233:=by kernel_rfl
 m17:=by kernel_rfl
 m18:=by kernel_rfl
 m19:=by kernel_rfl}
open Go.RowKit Go.Sort Go.Lib in
theorem Tryz.strconv_Itoa(n:Int)(h0: -9223372036854775808≤n)(h1:n≤9223372036854775807)(w:World)(htab:Lib.TabIs aE w "internal/strconv.uint64pow10" .u64 Lib.pow10Tab):
 Calls aE 174 #[.int .i64 n] w fun e w'=>e=.returned (.string ⟨(Lib.itoa n).toArray⟩)∧∃k os,w'=grow (w.drewN k) os:=Any.strconv_Itoa Tryz.laysM171 n h0 h1 w htab
def Tryz.laysC245_ren:Go.Shelf.Ren:=⟨fun|245=>186|279=>202|280=>203|281=>204|282=>205|316=>217|171=>174|205=>218|243=>198|246=>211|283=>223|284=>224|285=>225|286=>226|129=>206|317=>245|318=>246|319=>247|320=>248|337=>265|338=>266|n=>n,fun|9=>9|3=>3|75=>119|167=>207|4=>4|168=>208|210=>219|37=>113|0=>0|127=>140|145=>255|143=>253|2=>2|171=>225|53=>85|5=>5|173=>227|212=>257|51=>127|20=>20|213=>258|46=>139|232=>282|233=>283|80=>123|n=>n,fun|15=>6|16=>7|17=>11|18=>16|19=>17|n=>n⟩
theorem Tryz.laysC245:Go.Proofs.LaysC.n245 aE Tryz.laysC245_ren:={
 mixed:=by kernel_rfl
 f129:=Tryz.func206.trans (congrArg some (by kernel_rfl))
 f171:=Tryz.func174.trans (congrArg some (by kernel_rfl))
 f205:=Tryz.func218.trans (congrArg some (by kernel_rfl))
 f243:=Tryz.func198.trans (congrArg some (by kernel_rfl))
 f245:=Tryz.func186.trans (congrArg some (by kernel_rfl))
 f246:=Tryz.func211.trans (congrArg some (by kernel_rfl))
 f279:=Tryz.func202.trans (congrArg some (by kernel_rfl))
 f280:=Tryz.func203.trans (congrArg some (by kernel_rfl))
 f281:=Tryz.func204.trans (congrArg some (by kernel_rfl))
 f282:=Tryz.func205.trans (congrArg some (by kernel_rfl))
 f283:=Tryz.func223.trans (congrArg some (by kernel_rfl))
 f284:=Tryz.func224.trans (congrArg some (by kernel_rfl))
 f285:=Tryz.func225.trans (congrArg some (by kernel_rfl))
 f286:=Tryz.func226.trans (congrArg some (by kernel_rfl))
 f316:=Tryz.func217.trans (congrArg some (by kernel_rfl))
 f317:=Tryz.func245.trans (congrArg some (by kernel_rfl))
 f318:=Tryz.func246.trans (congrArg some (by kernel_rfl))
 f319:=Tryz.func247.trans (congrArg some (by kernel_rfl))
 f320:=Tryz.func248.trans (congrArg some (by kernel_rfl))
 f337:=Tryz.func265.trans (congrArg some (by kernel_rfl))
 f338:=Tryz.func266.trans (congrArg some (by kernel_rfl))
 t0:=Tryz.underlying0
 a0:=Tryz.isAgg0
 z0:=Tryz.sizeOf0
 v0:=Tryz.zeroValue0
 t2:=Tryz.underlying2
 a2:=Tryz.isAgg2
 z2:=Tryz.sizeOf2
 v2:=Tryz.zeroValue2
 t3:=Tryz.underlying3
 a3:=Tryz.isAgg3
 z3:=Tryz.sizeOf3
 v3:=Tryz.zeroValue3
 t4:=Tryz.underlying4
 a4:=Tryz.isAgg4
 z4:=Tryz.sizeOf4
 v4:=Tryz.zeroValue4
 t5:=Tryz.underlying5
 a5:=Tryz.isAgg5
 z5:=Tryz.sizeOf5
 v5:=Tryz.zeroValue5
 t9:=Tryz.underlying9
 a9:=Tryz.isAgg9
 z9:=Tryz.sizeOf9
 v9:=Tryz.zeroValue9
 t20:=Tryz.underlying20
 a20:=Tryz.isAgg20
 z20:=Tryz.sizeOf20
 v20:=Tryz.zeroValue20
 t37:=Tryz.underlying113
 a37:=Tryz.isAgg113
 z37:=Tryz.sizeOf113
 v37:=Tryz.zeroValue113
 t46:=Tryz.underlying139
 a46:=Tryz.isAgg139
 z46:=Tryz.sizeOf139
 v46:=Tryz.zeroValue139
 t51:=Tryz.underlying127
 a51:=Tryz.isAgg127
 z51:=Tryz.sizeOf127
 v51:=Tryz.zeroValue127
 t53:=Tryz.underlying85
 a53:=Tryz.isAgg85
 z53:=Tryz.sizeOf85
 v53:=Tryz.zeroValue85
 t75:=Tryz.underlying119
 a75:=Tryz.isAgg119
 z75:=Tryz.sizeOf119
 v75:=Tryz.zeroValue119
 t127:=Tryz.underlying140
 a127:=Tryz.isAgg140
 z127:=Tryz.sizeOf140
 v127:=Tryz.zeroValue140
 t143:=Tryz.underlying253
 a143:=Tryz.isAgg253
 z143:=Tryz.sizeOf253
 v143:=Tryz.zeroValue253
 t145:=Tryz.underlying255
 a145:=Tryz.isAgg255
 z145:=Tryz.sizeOf255
 v145:=Tryz.zeroValue255
 t167:=Tryz.underlying207
 a167:=Tryz.isAgg207
 z167:=Tryz.sizeOf207
 v167:=Tryz.zeroValue207
 t168:=Tryz.underlying208
 a168:=Tryz.isAgg208
 z168:=Tryz.sizeOf208
 v168:=Tryz.zeroValue208
 t171:=Tryz.underlying225
 a171:=Tryz.isAgg225
 z171:=Tryz.sizeOf225
 v171:=Tryz.zeroValue225
 t173:=Tryz.underlying227
 a173:=Tryz.isAgg227
 z173:=Tryz.sizeOf227
 v173:=Tryz.zeroValue227
 t210:=Tryz.underlying219
 a210:=Tryz.isAgg219
 z210:=Tryz.sizeOf219
 v210:=Tryz.zeroValue219
 t212:=Tryz.underlying257
 a212:=Tryz.isAgg257
 z212:=Tryz.sizeOf257
 v212:=Tryz.zeroValue257
 t213:=Tryz.underlying258
 a213:=Tryz.isAgg258
 z213:=Tryz.sizeOf258
 t232:=Tryz.underlying282
 a232:=Tryz.isAgg282
 z232:=Tryz.sizeOf282
 v232:=Tryz.zeroValue282
 t233:=Tryz.underlying283
 a233:=Tryz.isAgg283
 z233:=Tryz.sizeOf283
 v233:=Tryz.zeroValue283
 g15:=by kernel_rfl
 g16:=by kernel_rfl
 g17:=by kernel_rfl
 g18:=by kernel_rfl
 g19:=by kernel_rfl
 t80:=Tryz.underlying123
 a80:=Tryz.isAgg123
 z80:=Tryz.sizeOf123
 v80:=Tryz.zeroValue123
 i0:=by kernel_rfl
 i2:=by kernel_rfl
 i3:=by kernel_rfl
 i4:=by kernel_rfl
 i5:=by kernel_rfl
 i9:=by kernel_rfl
 i20:=by kernel_rfl
 i37:=by kernel_rfl
 i46:=by kernel_rfl
 i51:=by kernel_rfl
 i53:=by kernel_rfl
 i75:=by kernel_rfl
 i80:=by kernel_rfl
 i127:=by kernel_rfl
 i143:=by kernel_rfl
 i145:=by kernel_rfl
 i167:=by kernel_rfl
 i168:=by kernel_rfl
 i171:=by kernel_rfl
 i173:=by kernel_rfl
 i210:=by kernel_rfl
 i212:=by kernel_rfl
 i232:=by kernel_rfl
 i233:=by kernel_rfl
 m15:=by kernel_rfl
 m16:=by kernel_rfl
 m17:=by kernel_rfl
 m18:=by kernel_rfl
 m19:=by kernel_rfl
 c0:=by kernel_rfl
 c2:=by kernel_rfl
 c3:=by kernel_rfl
 c4:=by kernel_rfl
 c5:=by kernel_rfl
 c9:=by kernel_rfl
 c20:=by kernel_rfl
 c37:=by kernel_rfl
 c46:=by kernel_rfl
 c51:=by kernel_rfl
 c53:=by kernel_rfl
 c75:=by kernel_rfl
 c80:=by kernel_rfl
 c127:=by kernel_rfl
 c143:=by kernel_rfl
 c145:=by kernel_rfl
 c167:=by kernel_rfl
 c168:=by kernel_rfl
 c171:=by kernel_rfl
 c173:=by kernel_rfl
 c210:=by kernel_rfl
 c212:=by kernel_rfl
 c213:=by kernel_rfl
 c232:=by kernel_rfl
 c233:=by kernel_rfl}
open Go.RowKit in
theorem Tryz.strconv_toError_syntax(fn s:ByteArray)(base bits:Int)(ev:Value)(w:World)(hlim:s.size≤281474976710656)(hv:w.cell? ⟨6,0,none⟩=some ev)(hev:ev=.nilIface∨∃te pe,ev=.iface te pe):
 Calls aE 186 #[.string fn,.string s,.int .i64 base,.int .i64 bits,.iface 207 (.int .i64 2)] w fun e w'=> ∃N,e=.returned (.iface 208 (.pointer (some ⟨N,0,none⟩)))∧w.heap.size≤N∧w'.heap[N]? =some (.cells #[.string fn,.string s,ev] 219 (0,0))∧Below w.heap.size w w':=Any.strconv_toError_syntax Tryz.laysC245 fn s base bits ev w hlim hv hev
def Tryz.lays321_ren:Go.Shelf.Ren:=⟨fun|321=>254|n=>n,fun|5=>5|n=>n,fun|n=>n⟩
theorem Tryz.lays321:Go.Proofs.Lays.n321 aE Tryz.lays321_ren:={
 mixed:=by kernel_rfl
 f321:=Tryz.func254.trans (congrArg some (by kernel_rfl))
 t5:=Tryz.underlying5
 a5:=Tryz.isAgg5
 z5:=Tryz.sizeOf5
 v5:=Tryz.zeroValue5}
open Go.RowKit in
theorem Tryz.internal_strconv_lower(c:Int)(w:World):
 Calls aE 254 #[.int .u8 c] w fun e w'=>e=.returned (.int .u8 (bits .or .u8 c 32))∧w'=w:=Any.internal_strconv_lower Tryz.lays321 c w
open Go.RowKit in
theorem Tryz.strconv_toError_range(fn s:ByteArray)(base bits:Int)(ev:Value)(w:World)(hlim:s.size≤281474976710656)(hv:w.cell? ⟨7,0,none⟩=some ev)(hev:ev=.nilIface∨∃te pe,ev=.iface te pe):
 Calls aE 186 #[.string fn,.string s,.int .i64 base,.int .i64 bits,.iface 207 (.int .i64 1)] w fun e w'=> ∃N,e=.returned (.iface 208 (.pointer (some ⟨N,0,none⟩)))∧w.heap.size≤N∧w'.heap[N]? =some (.cells #[.string fn,.string s,ev] 219 (0,0))∧Below w.heap.size w w':=Any.strconv_toError_range Tryz.laysC245 fn s base bits ev w hlim hv hev
def Tryz.lays224_ren:Go.Shelf.Ren:=⟨fun|224=>161|n=>n,fun|3=>3|n=>n,fun|n=>n⟩
theorem Tryz.lays224:Go.Proofs.Lays.n224 aE Tryz.lays224_ren:={
 mixed:=by kernel_rfl
 f224:=Tryz.func161.trans (congrArg some (by kernel_rfl))
 t3:=Tryz.underlying3
 a3:=Tryz.isAgg3
 z3:=Tryz.sizeOf3
 v3:=Tryz.zeroValue3}
open Go.RowKit Go.Lib in
theorem Tryz.bytealg_Cutover(n:Int)(h0:0≤n)(h1:n<4611686018427387904)(w:World):
 Calls aE 161 #[.int .i64 n] w fun e w'=>e=.returned (.int .i64 ((n+16)/8))∧w'=w:=Any.bytealg_Cutover Tryz.lays224 n h0 h1 w
def Tryz.lays143_ren:Go.Shelf.Ren:=⟨fun|143=>108|219=>137|217=>159|225=>160|224=>161|267=>162|266=>178|314=>179|n=>n,fun|9=>9|3=>3|4=>4|5=>5|46=>139|146=>187|51=>127|n=>n,fun|1=>5|n=>n⟩
theorem Tryz.lays143:Go.Proofs.Lays.n143 aE Tryz.lays143_ren:={
 mixed:=by kernel_rfl
 f143:=Tryz.func108.trans (congrArg some (by kernel_rfl))
 f217:=Tryz.func159.trans (congrArg some (by kernel_rfl))
 f219:=Tryz.func137.trans (congrArg some (by kernel_rfl))
 f224:=Tryz.func161.trans (congrArg some (by kernel_rfl))
 f225:=Tryz.func160.trans (congrArg some (by kernel_rfl))
 f266:=Tryz.func178.trans (congrArg some (by kernel_rfl))
 f267:=Tryz.func162.trans (congrArg some (by kernel_rfl))
 f314:=Tryz.func179.trans (congrArg some (by kernel_rfl))
 t3:=Tryz.underlying3
 a3:=Tryz.isAgg3
 z3:=Tryz.sizeOf3
 v3:=Tryz.zeroValue3
 t4:=Tryz.underlying4
 a4:=Tryz.isAgg4
 z4:=Tryz.sizeOf4
 v4:=Tryz.zeroValue4
 t5:=Tryz.underlying5
 a5:=Tryz.isAgg5
 z5:=Tryz.sizeOf5
 v5:=Tryz.zeroValue5
 t9:=Tryz.underlying9
 a9:=Tryz.isAgg9
 z9:=Tryz.sizeOf9
 v9:=Tryz.zeroValue9
 t46:=Tryz.underlying139
 a46:=Tryz.isAgg139
 z46:=Tryz.sizeOf139
 v46:=Tryz.zeroValue139
 t51:=Tryz.underlying127
 a51:=Tryz.isAgg127
 z51:=Tryz.sizeOf127
 v51:=Tryz.zeroValue127
 t146:=Tryz.underlying187
 a146:=Tryz.isAgg187
 z146:=Tryz.sizeOf187
 v146:=Tryz.zeroValue187
 g1:=by kernel_rfl}
open Go.RowKit Go.Lib in
theorem Tryz.strings_Index(s sub:ByteArray)(m:Int)(w:World)(hs:s.size<4294967281)(hm:w.cell? ⟨5,0,none⟩=some (.int .i64 m)):
 Calls aE 108 #[.string s,.string sub] w fun e w'=>e=.returned (.int .i64 (Lib.index s.data.toList sub.data.toList))∧w'=w:=Any.strings_Index Tryz.lays143 s sub m w hs hm
def Tryz.lays144_ren:Go.Shelf.Ren:=⟨fun|144=>77|143=>108|219=>137|217=>159|225=>160|224=>161|267=>162|266=>178|314=>179|n=>n,fun|9=>9|4=>4|3=>3|5=>5|46=>139|146=>187|51=>127|n=>n,fun|1=>5|n=>n⟩
theorem Tryz.lays144:Go.Proofs.Lays.n144 aE Tryz.lays144_ren:={
 mixed:=by kernel_rfl
 f143:=Tryz.func108.trans (congrArg some (by kernel_rfl))
 f144:=Tryz.func77.trans (congrArg some (by kernel_rfl))
 f217:=Tryz.func159.trans (congrArg some (by kernel_rfl))
 f219:=Tryz.func137.trans (congrArg some (by kernel_rfl))
 f224:=Tryz.func161.trans (congrArg some (by kernel_rfl))
 f225:=Tryz.func160.trans (congrArg some (by kernel_rfl))
 f266:=Tryz.func178.trans (congrArg some (by kernel_rfl))
 f267:=Tryz.func162.trans (congrArg some (by kernel_rfl))
 f314:=Tryz.func179.trans (congrArg some (by kernel_rfl))
 t3:=Tryz.underlying3
 a3:=Tryz.isAgg3
 z3:=Tryz.sizeOf3
 v3:=Tryz.zeroValue3
 t4:=Tryz.underlying4
 a4:=Tryz.isAgg4
 z4:=Tryz.sizeOf4
 v4:=Tryz.zeroValue4
 t5:=Tryz.underlying5
 a5:=Tryz.isAgg5
 z5:=Tryz.sizeOf5
 v5:=Tryz.zeroValue5
 t9:=Tryz.underlying9
 a9:=Tryz.isAgg9
 z9:=Tryz.sizeOf9
 v9:=Tryz.zeroValue9
 t46:=Tryz.underlying139
 a46:=Tryz.isAgg139
 z46:=Tryz.sizeOf139
 v46:=Tryz.zeroValue139
 t51:=Tryz.underlying127
 a51:=Tryz.isAgg127
 z51:=Tryz.sizeOf127
 v51:=Tryz.zeroValue127
 t146:=Tryz.underlying187
 a146:=Tryz.isAgg187
 z146:=Tryz.sizeOf187
 v146:=Tryz.zeroValue187
 g1:=by kernel_rfl}
open Go.RowKit Go.Lib in
theorem Tryz.strings_Contains_one(s:ByteArray)(c:UInt8)(w:World):
 Calls aE 77 #[.string s,.string ⟨#[c]⟩] w fun e w'=>e=.returned (.bool (decide (0≤Lib.indexByte s.data.toList c)))∧w'=w:=Any.strings_Contains_one Tryz.lays144 s c w
open Go.RowKit Go.Lib in
theorem Tryz.strings_Contains(s sub:ByteArray)(m:Int)(w:World)(hs:s.size<4294967281)(hm:w.cell? ⟨5,0,none⟩=some (.int .i64 m)):
 Calls aE 77 #[.string s,.string sub] w fun e w'=>e=.returned (.bool (Lib.contains s.data.toList sub.data.toList))∧w'=w:=Any.strings_Contains Tryz.lays144 s sub m w hs hm
def Tryz.lays145_ren:Go.Shelf.Ren:=⟨fun|145=>170|220=>192|219=>137|217=>159|225=>160|224=>161|267=>162|266=>178|314=>179|n=>n,fun|9=>9|4=>4|59=>178|3=>3|5=>5|46=>139|146=>187|51=>127|n=>n,fun|1=>5|n=>n⟩
theorem Tryz.lays145:Go.Proofs.Lays.n145 aE Tryz.lays145_ren:={
 mixed:=by kernel_rfl
 f145:=Tryz.func170.trans (congrArg some (by kernel_rfl))
 f217:=Tryz.func159.trans (congrArg some (by kernel_rfl))
 f219:=Tryz.func137.trans (congrArg some (by kernel_rfl))
 f220:=Tryz.func192.trans (congrArg some (by kernel_rfl))
 f224:=Tryz.func161.trans (congrArg some (by kernel_rfl))
 f225:=Tryz.func160.trans (congrArg some (by kernel_rfl))
 f266:=Tryz.func178.trans (congrArg some (by kernel_rfl))
 f267:=Tryz.func162.trans (congrArg some (by kernel_rfl))
 f314:=Tryz.func179.trans (congrArg some (by kernel_rfl))
 t3:=Tryz.underlying3
 a3:=Tryz.isAgg3
 z3:=Tryz.sizeOf3
 v3:=Tryz.zeroValue3
 t4:=Tryz.underlying4
 a4:=Tryz.isAgg4
 z4:=Tryz.sizeOf4
 v4:=Tryz.zeroValue4
 t5:=Tryz.underlying5
 a5:=Tryz.isAgg5
 z5:=Tryz.sizeOf5
 v5:=Tryz.zeroValue5
 t9:=Tryz.underlying9
 a9:=Tryz.isAgg9
 z9:=Tryz.sizeOf9
 v9:=Tryz.zeroValue9
 t46:=Tryz.underlying139
 a46:=Tryz.isAgg139
 z46:=Tryz.sizeOf139
 v46:=Tryz.zeroValue139
 t51:=Tryz.underlying127
 a51:=Tryz.isAgg127
 z51:=Tryz.sizeOf127
 v51:=Tryz.zeroValue127
 t59:=Tryz.underlying178
 a59:=Tryz.isAgg178
 z59:=Tryz.sizeOf178
 v59:=Tryz.zeroValue178
 t146:=Tryz.underlying187
 a146:=Tryz.isAgg187
 z146:=Tryz.sizeOf187
 v146:=Tryz.zeroValue187
 g1:=by kernel_rfl}
open Go.RowKit Go.Lib in
theorem Tryz.strings_Cut(s sep:ByteArray)(m:Int)(w:World)(hs:s.size<4294967281)(hm:w.cell? ⟨5,0,none⟩=some (.int .i64 m)):
 Calls aE 170 #[.string s,.string sep] w fun e w'=>e=.returned (.tuple #[.string ⟨(Lib.cut s.data.toList sep.data.toList).1.toArray⟩,.string ⟨(Lib.cut s.data.toList sep.data.toList).2.1.toArray⟩,.bool (Lib.cut s.data.toList sep.data.toList).2.2])∧∃n,w'=w.drewN n:=Any.strings_Cut Tryz.lays145 s sep m w hs hm
def Tryz.lays99_ren:Go.Shelf.Ren:=⟨fun|99=>163|206=>180|n=>n,fun|9=>9|4=>4|3=>3|n=>n,fun|n=>n⟩
theorem Tryz.lays99:Go.Proofs.Lays.n99 aE Tryz.lays99_ren:={
 mixed:=by kernel_rfl
 f99:=Tryz.func163.trans (congrArg some (by kernel_rfl))
 f206:=Tryz.func180.trans (congrArg some (by kernel_rfl))
 t3:=Tryz.underlying3
 a3:=Tryz.isAgg3
 z3:=Tryz.sizeOf3
 v3:=Tryz.zeroValue3
 t4:=Tryz.underlying4
 a4:=Tryz.isAgg4
 z4:=Tryz.sizeOf4
 v4:=Tryz.zeroValue4
 t9:=Tryz.underlying9
 a9:=Tryz.isAgg9
 z9:=Tryz.sizeOf9
 v9:=Tryz.zeroValue9}
open Go.RowKit Go.Lib in
theorem Tryz.strings_HasPrefix(s p:ByteArray)(w:World):
 Calls aE 163 #[.string s,.string p] w fun e w'=>e=.returned (.bool (Lib.hasPrefix s.data.toList p.data.toList))∧w'=w:=Any.strings_HasPrefix Tryz.lays99 s p w
def Tryz.lays101_ren:Go.Shelf.Ren:=⟨fun|101=>196|208=>210|206=>180|n=>n,fun|9=>9|4=>4|3=>3|n=>n,fun|n=>n⟩
theorem Tryz.lays101:Go.Proofs.Lays.n101 aE Tryz.lays101_ren:={
 mixed:=by kernel_rfl
 f101:=Tryz.func196.trans (congrArg some (by kernel_rfl))
 f206:=Tryz.func180.trans (congrArg some (by kernel_rfl))
 f208:=Tryz.func210.trans (congrArg some (by kernel_rfl))
 t3:=Tryz.underlying3
 a3:=Tryz.isAgg3
 z3:=Tryz.sizeOf3
 v3:=Tryz.zeroValue3
 t4:=Tryz.underlying4
 a4:=Tryz.isAgg4
 z4:=Tryz.sizeOf4
 v4:=Tryz.zeroValue4
 t9:=Tryz.underlying9
 a9:=Tryz.isAgg9
 z9:=Tryz.sizeOf9
 v9:=Tryz.zeroValue9}
open Go.RowKit Go.Lib in
theorem Tryz.strings_TrimPrefix(s p:ByteArray)(w:World):
 Calls aE 196 #[.string s,.string p] w fun e w'=>e=.returned (.string ⟨(Lib.trimPrefix s.data.toList p.data.toList).toArray⟩)∧w'=w:=Any.strings_TrimPrefix Tryz.lays101 s p w
def Tryz.laysM157_ren:Go.Shelf.Ren:=⟨fun|157=>40|229=>68|199=>69|261=>95|311=>122|312=>123|n=>n,fun|9=>9|31=>56|3=>3|5=>5|4=>4|119=>100|0=>0|40=>102|152=>124|21=>21|154=>126|51=>127|141=>129|196=>148|193=>145|198=>150|49=>138|194=>146|201=>153|226=>171|46=>139|227=>172|n=>n,fun|0=>1|6=>2|n=>n⟩
theorem Tryz.laysM157:Go.Proofs.LaysM.n157 aE Tryz.laysM157_ren:={
 mixed:=by kernel_rfl
 f157:=Tryz.func40.trans (congrArg some (by kernel_rfl))
 f199:=Tryz.func69.trans (congrArg some (by kernel_rfl))
 f229:=Tryz.func68.trans (congrArg some (by kernel_rfl))
 f261:=Tryz.func95.trans (congrArg some (by kernel_rfl))
 f311:=Tryz.func122.trans (congrArg some (by kernel_rfl))
 f312:=Tryz.func123.trans (congrArg some (by kernel_rfl))
 t0:=Tryz.underlying0
 a0:=Tryz.isAgg0
 z0:=Tryz.sizeOf0
 v0:=Tryz.zeroValue0
 t3:=Tryz.underlying3
 a3:=Tryz.isAgg3
 z3:=Tryz.sizeOf3
 v3:=Tryz.zeroValue3
 t4:=Tryz.underlying4
 a4:=Tryz.isAgg4
 z4:=Tryz.sizeOf4
 v4:=Tryz.zeroValue4
 t5:=Tryz.underlying5
 a5:=Tryz.isAgg5
 z5:=Tryz.sizeOf5
 v5:=Tryz.zeroValue5
 t9:=Tryz.underlying9
 a9:=Tryz.isAgg9
 z9:=Tryz.sizeOf9
 v9:=Tryz.zeroValue9
 t21:=Tryz.underlying21
 a21:=Tryz.isAgg21
 z21:=Tryz.sizeOf21
 v21:=Tryz.zeroValue21
 t31:=Tryz.underlying56
 a31:=Tryz.isAgg56
 z31:=Tryz.sizeOf56
 v31:=Tryz.zeroValue56
 t40:=Tryz.underlying102
 a40:=Tryz.isAgg102
 z40:=Tryz.sizeOf102
 v40:=Tryz.zeroValue102
 t46:=Tryz.underlying139
 a46:=Tryz.isAgg139
 z46:=Tryz.sizeOf139
 v46:=Tryz.zeroValue139
 t49:=Tryz.underlying138
 a49:=Tryz.isAgg138
 z49:=Tryz.sizeOf138
 v49:=Tryz.zeroValue138
 t51:=Tryz.underlying127
 a51:=Tryz.isAgg127
 z51:=Tryz.sizeOf127
 v51:=Tryz.zeroValue127
 t119:=Tryz.underlying100
 a119:=Tryz.isAgg100
 z119:=Tryz.sizeOf100
 t141:=Tryz.underlying129
 a141:=Tryz.isAgg129
 z141:=Tryz.sizeOf129
 v141:=Tryz.zeroValue129
 t152:=Tryz.underlying124
 a152:=Tryz.isAgg124
 z152:=Tryz.sizeOf124
 v152:=Tryz.zeroValue124
 t154:=Tryz.underlying126
 a154:=Tryz.isAgg126
 z154:=Tryz.sizeOf126
 v154:=Tryz.zeroValue126
 t193:=Tryz.underlying145
 a193:=Tryz.isAgg145
 z193:=Tryz.sizeOf145
 v193:=Tryz.zeroValue145
 t194:=Tryz.underlying146
 a194:=Tryz.isAgg146
 z194:=Tryz.sizeOf146
 v194:=Tryz.zeroValue146
 t196:=Tryz.underlying148
 a196:=Tryz.isAgg148
 z196:=Tryz.sizeOf148
 v196:=Tryz.zeroValue148
 t198:=Tryz.underlying150
 a198:=Tryz.isAgg150
 z198:=Tryz.sizeOf150
 v198:=Tryz.zeroValue150
 t201:=Tryz.underlying153
 a201:=Tryz.isAgg153
 z201:=Tryz.sizeOf153
 v201:=Tryz.zeroValue153
 t226:=Tryz.underlying171
 a226:=Tryz.isAgg171
 z226:=Tryz.sizeOf171
 v226:=Tryz.zeroValue171
 t227:=Tryz.underlying172
 a227:=Tryz.isAgg172
 z227:=Tryz.sizeOf172
 v227:=Tryz.zeroValue172
 g0:=by kernel_rfl
 g6:=by kernel_rfl
 i0:=by kernel_rfl
 i3:=by kernel_rfl
 i4:=by kernel_rfl
 i5:=by kernel_rfl
 i9:=by kernel_rfl
 i21:=by kernel_rfl
 i31:=by kernel_rfl
 i40:=by kernel_rfl
 i46:=by kernel_rfl
 i49:=by kernel_rfl
 i51:=by kernel_rfl
 i141:=by kernel_rfl
 i152:=by kernel_rfl
 i154:=by kernel_rfl
 i193:=by kernel_rfl
 i194:=by kernel_rfl
 i196:=by kernel_rfl
 i198:=by kernel_rfl
 i201:=by kernel_rfl
 i226:=by kernel_rfl
 i227:=by kernel_rfl
 m0:=by kernel_rfl
 m6:=by kernel_rfl}
open Go.RowKit Go.Lib in
theorem Tryz.strings_Fields_laid(s:ByteArray)(w:World)(hs:s.size<4294967281)(hascii:∀(j:Nat) b,s.data.toList[j]? =some b→b.toNat<128)(htab:Lib.TabIs aE w "strings.asciiSpace" .u8 Lib.asciiSpaceTab):
 Calls aE 40 #[.string s] w fun e w'=>
  e=.returned (.slice (some ⟨w.heap.size,0,none⟩) (Lib.fields s.data.toList).length (Lib.fields s.data.toList).length)∧w'=w.alloc (.cells ((Lib.fields s.data.toList).map fun l=>Value.string ⟨l.toArray⟩).toArray 9):=Any.strings_Fields_laid Tryz.laysM157 s w hs hascii htab
def Tryz.lays152_ren:Go.Shelf.Ren:=⟨fun|152=>181|137=>165|119=>200|224=>161|225=>160|217=>159|266=>178|n=>n,fun|9=>9|21=>21|3=>3|4=>4|5=>5|0=>0|46=>139|n=>n,fun|n=>n⟩
theorem Tryz.lays152:Go.Proofs.Lays.n152 aE Tryz.lays152_ren:={
 mixed:=by kernel_rfl
 f119:=Tryz.func200.trans (congrArg some (by kernel_rfl))
 f137:=Tryz.func165.trans (congrArg some (by kernel_rfl))
 f152:=Tryz.func181.trans (congrArg some (by kernel_rfl))
 f217:=Tryz.func159.trans (congrArg some (by kernel_rfl))
 f224:=Tryz.func161.trans (congrArg some (by kernel_rfl))
 f225:=Tryz.func160.trans (congrArg some (by kernel_rfl))
 f266:=Tryz.func178.trans (congrArg some (by kernel_rfl))
 t0:=Tryz.underlying0
 a0:=Tryz.isAgg0
 z0:=Tryz.sizeOf0
 v0:=Tryz.zeroValue0
 t3:=Tryz.underlying3
 a3:=Tryz.isAgg3
 z3:=Tryz.sizeOf3
 v3:=Tryz.zeroValue3
 t4:=Tryz.underlying4
 a4:=Tryz.isAgg4
 z4:=Tryz.sizeOf4
 v4:=Tryz.zeroValue4
 t5:=Tryz.underlying5
 a5:=Tryz.isAgg5
 z5:=Tryz.sizeOf5
 v5:=Tryz.zeroValue5
 t9:=Tryz.underlying9
 a9:=Tryz.isAgg9
 z9:=Tryz.sizeOf9
 v9:=Tryz.zeroValue9
 t21:=Tryz.underlying21
 a21:=Tryz.isAgg21
 z21:=Tryz.sizeOf21
 v21:=Tryz.zeroValue21
 t46:=Tryz.underlying139
 a46:=Tryz.isAgg139
 z46:=Tryz.sizeOf139
 v46:=Tryz.zeroValue139}
open Go.RowKit Go.Lib in
theorem Tryz.strings_IndexRune_ascii(s:ByteArray)(r:Int)(w:World)(h0:0≤r)(h1:r<128):
 Calls aE 181 #[.string s,.int .i32 r] w fun e w'=>e=.returned (.int .i64 (Lib.indexByte s.data.toList r.toNat.toUInt8))∧w'=w:=Any.strings_IndexRune_ascii Tryz.lays152 s r w h0 h1
def Tryz.lays153_ren:Go.Shelf.Ren:=⟨fun|153=>164|152=>181|226=>182|227=>183|228=>184|137=>165|119=>200|224=>161|225=>160|217=>159|266=>178|n=>n,fun|9=>9|3=>3|4=>4|5=>5|21=>21|117=>192|116=>191|0=>0|46=>139|124=>204|n=>n,fun|n=>n⟩
theorem Tryz.lays153:Go.Proofs.Lays.n153 aE Tryz.lays153_ren:={
 mixed:=by kernel_rfl
 f119:=Tryz.func200.trans (congrArg some (by kernel_rfl))
 f137:=Tryz.func165.trans (congrArg some (by kernel_rfl))
 f152:=Tryz.func181.trans (congrArg some (by kernel_rfl))
 f153:=Tryz.func164.trans (congrArg some (by kernel_rfl))
 f217:=Tryz.func159.trans (congrArg some (by kernel_rfl))
 f224:=Tryz.func161.trans (congrArg some (by kernel_rfl))
 f225:=Tryz.func160.trans (congrArg some (by kernel_rfl))
 f226:=Tryz.func182.trans (congrArg some (by kernel_rfl))
 f227:=Tryz.func183.trans (congrArg some (by kernel_rfl))
 f228:=Tryz.func184.trans (congrArg some (by kernel_rfl))
 f266:=Tryz.func178.trans (congrArg some (by kernel_rfl))
 t0:=Tryz.underlying0
 a0:=Tryz.isAgg0
 z0:=Tryz.sizeOf0
 v0:=Tryz.zeroValue0
 t3:=Tryz.underlying3
 a3:=Tryz.isAgg3
 z3:=Tryz.sizeOf3
 v3:=Tryz.zeroValue3
 t4:=Tryz.underlying4
 a4:=Tryz.isAgg4
 z4:=Tryz.sizeOf4
 v4:=Tryz.zeroValue4
 t5:=Tryz.underlying5
 a5:=Tryz.isAgg5
 z5:=Tryz.sizeOf5
 v5:=Tryz.zeroValue5
 t9:=Tryz.underlying9
 a9:=Tryz.isAgg9
 z9:=Tryz.sizeOf9
 v9:=Tryz.zeroValue9
 t21:=Tryz.underlying21
 a21:=Tryz.isAgg21
 z21:=Tryz.sizeOf21
 v21:=Tryz.zeroValue21
 t46:=Tryz.underlying139
 a46:=Tryz.isAgg139
 z46:=Tryz.sizeOf139
 v46:=Tryz.zeroValue139
 t116:=Tryz.underlying191
 a116:=Tryz.isAgg191
 z116:=Tryz.sizeOf191
 t117:=Tryz.underlying192
 a117:=Tryz.isAgg192
 z117:=Tryz.sizeOf192
 v117:=Tryz.zeroValue192
 t124:=Tryz.underlying204
 a124:=Tryz.isAgg204
 z124:=Tryz.sizeOf204
 v124:=Tryz.zeroValue204}
open Go.RowKit Go.Lib in
theorem Tryz.strings_IndexAny(hv116:∀w,(zeroValue 191).run aE w=.ok (.agg (Array.replicate 256 (.bool false))) w)(s chars:ByteArray)(w:World)(hs:s.size<4294967281)(hcs:chars.size<4294967281)(has:∀(j:Nat) b,s.data.toList[j]? =some b→b.toNat<128)(hac:∀(j:Nat) b,chars.data.toList[j]? =some b→b.toNat<128):
 Calls aE 164 #[.string s,.string chars] w fun e w'=>e=.returned (.int .i64 (Lib.indexAny s.data.toList chars.data.toList))∧Below w.heap.size w w':=Any.strings_IndexAny Tryz.lays153 hv116 (by kernel_rfl) s chars w hs hcs has hac
def Tryz.lays264_ren:Go.Shelf.Ren:=⟨fun|264=>187|n=>n,fun|53=>85|46=>139|n=>n,fun|n=>n⟩
theorem Tryz.lays264:Go.Proofs.Lays.n264 aE Tryz.lays264_ren:={
 mixed:=by kernel_rfl
 f264:=Tryz.func187.trans (congrArg some (by kernel_rfl))
 t46:=Tryz.underlying139
 a46:=Tryz.isAgg139
 z46:=Tryz.sizeOf139
 v46:=Tryz.zeroValue139
 t53:=Tryz.underlying85
 a53:=Tryz.isAgg85
 z53:=Tryz.sizeOf85
 v53:=Tryz.zeroValue85}
open Go.RowKit Go.Lib in
theorem Tryz.bits_Mul64(x y:Nat)(hx:x<18446744073709551616)(hy:y<18446744073709551616)(w:World):
 Calls aE 187 #[.int .u64 x,.int .u64 y] w fun e w'=>e=.returned (.tuple #[.int .u64 ((x*y/18446744073709551616:Nat):Int),.int .u64 ((x*y%18446744073709551616:Nat):Int)])∧w'=w:=Any.bits_Mul64 Tryz.lays264 x y hx hy w
end
section
abbrev Heap:=Array Obj
abbrev Env:=Nat→Value
def Env.set(ρ:Env)(t:Nat)(v:Value):Env:=fun j=>if j=t then v else ρ j
def Env.put(ρ:Env):Option Nat→Value→Env
 |some t,v=>Env.set ρ t v
 |none,_=>ρ
def Env.of(args:List Value):Env:=fun j=>args.getD j undef
def ev(ρ:Env):Operand→Value
 | .tmp t=>ρ t
 | .const v=>v
 | .global g=> .pointer (some ⟨g,0,none⟩)
 | .func f=> .func (.func f) #[] #[]
structure Amb(w w':World):Prop where
 os:w'.os=w.os
 tape:w'.tape=w.tape
 output:w'.output=w.output
theorem Amb.refl(w:World):Amb w w:=⟨rfl,rfl,rfl⟩
theorem Amb.trans{a b c:World}(h:Amb a b)(k:Amb b c):Amb a c:=⟨k.os.trans h.os,k.tape.trans h.tape,k.output.trans h.output⟩
def C(P:Program)(f:Nat)(args:Array Value)(h:Heap)(R:Ending→Heap→Prop):Prop:=
 ∀w:World,w.heap=h→Calls P f args w fun e w'=>Amb w w'∧R e w'.heap
theorem C.mono {P:Program} {f:Nat} {args:Array Value} {h:Heap} {R R':Ending→Heap→Prop} (hc:C P f args h R)
 (hr:∀e h',R e h'→R' e h'):C P f args h R':=
 fun w hw=>(hc w hw).mono fun _ _ ⟨a,r⟩=>⟨a,hr _ _ r⟩
def bG(h:Heap)(b o:Nat):Option Value:=match h[b]? with|some (.cells c _ _)=>c[o]? |_=>none
def fA(h:Heap)(b o:Nat):Bool:=match h[b]? with|some (.cells _ _ (lo,hi))=>decide (lo≤o)&&decide (o<hi)|_=>false
theorem cell?_heap(w:World)(b o:Nat):w.cell? ⟨b,o,none⟩=bG w.heap b o:=by
 unfold World.cell? bG;dsimp only;split<;>rename_i hx<;>simp[hx]
theorem frozen?_heap(w:World)(b o:Nat):w.frozen? ⟨b,o,none⟩=fA w.heap b o:=by
 unfold World.frozen? fA;dsimp only;split<;>rename_i hx<;>simp[hx]
def dH(h:Heap)(b:Nat):Nat→Nat→Option (List Value)
 |_,0=>some []
 |o,n+1=>(bG h b o).bind fun v=>(dH h b (o+1) n).map (v::·)
def isAggD:TypeDesc→Bool
 | .struct _| .array _ _=>true
 |_=>false
def szOf(P:Program)(t:TypeId):Option (Bool×Nat):=
 match P.underlying t,P.info? t with
 |some d,some i=>some (isAggD d,i.size)
 |_,_=>none
def fofs(P:Program)(s f:Nat):Option Nat:=
 match P.underlying s with
 |some (.struct fs)=>match fs[f]? with
  |some g=>if P.cellsOf g.type=0 then none else if(P.info? g.type).isNone then none else some g.offset
  |none=>none
 |_=>none
def ldv(P:Program)(t:TypeId)(v:Value)(h:Heap):Option Value:=
 match v with
 | .pointer (some ⟨b,o,none⟩)=>match szOf P t with
   |some (false,_)=>bG h b o
   |some (true,n)=>(dH h b o n).map fun l=> .agg l.toArray
   |none=>none
 |_=>none
def rV(P:Program)(s:TypeId)(v:Value)(f:Nat):Option Value:=
 match v with
 | .pointer (some ⟨b,o,none⟩)=>(fofs P s f).map fun n=> .pointer (some ⟨b,o+n,none⟩)
 |_=>none
def nilv:Value→Option Value
 | .pointer (some a)=>some (.pointer (some a))
 | .iface t v=>some (.iface t v)
 | .func (.func f) a b=>some (.func (.func f) a b)
 |_=>none
def xU:Value→Value→Value→Option Value
 | .bool b,x,y=>some (if b then x else y)
 |_,_,_=>none
def bitv(k:IntKind)(r:BitVec k.bits):Option Value:=some (.int k (k.wrap r.toNat))
def unv:UnOp→Value→Option Value
 | .not,.bool b=>some (.bool !b)
 | .neg,.int k n=>some (.int k (k.wrap (0-n)))
 | .neg,.float k b=>some (.float k (Op.negFloat k b))
 | .xor,.int k n=>bitv k (BitVec.ofInt k.bits (if k.signed then-1 else k.max)^^^BitVec.ofInt k.bits n)
 |_,_=>none
def binv(op:BinOp)(x y:Value):Option Value:=
 match op,x,y with
 | .add,.int k a,.int k' b=>if k=k' then some (.int k (k.wrap (a+b)))else none
 | .sub,.int k a,.int k' b=>if k=k' then some (.int k (k.wrap (a-b)))else none
 | .mul,.int k a,.int k' b=>if k=k' then some (.int k (k.wrap (a*b)))else none
 | .quo,.int k a,.int k' b=>if k=k' then if b=0 then none else some (.int k (k.wrap (a.tdiv b)))else none
 | .rem,.int k a,.int k' b=>if k=k' then if b=0 then none else some (.int k (a.tmod b))else none
 | .and,.int k a,.int k' b=>if k=k' then bitv k (BitVec.ofInt k.bits a&&&BitVec.ofInt k.bits b)else none
 | .or,.int k a,.int k' b=>if k=k' then bitv k (BitVec.ofInt k.bits a|||BitVec.ofInt k.bits b)else none
 | .xor,.int k a,.int k' b=>if k=k' then bitv k (BitVec.ofInt k.bits a^^^BitVec.ofInt k.bits b)else none
 | .andNot,.int k a,.int k' b=>if k=k' then bitv k (BitVec.ofInt k.bits a&&& ~~~BitVec.ofInt k.bits b)else none
 | .shl,.int k a,.int _ b=>if b<0 then none else some (.int k (k.wrap (a*2^min b.toNat k.bits)))
 | .shr,.int k a,.int _ b=>if b<0 then none else some (.int k (a.fdiv (2^min b.toNat k.bits)))
 | .eql,.int k a,.int k' b=>if k=k' then some (.bool (a==b))else none
 | .neq,.int k a,.int k' b=>if k=k' then some (.bool (a !=b))else none
 | .lss,.int k a,.int k' b=>if k=k' then some (.bool (a<b))else none
 | .leq,.int k a,.int k' b=>if k=k' then some (.bool (a≤b))else none
 | .gtr,.int k a,.int k' b=>if k=k' then some (.bool (a>b))else none
 | .geq,.int k a,.int k' b=>if k=k' then some (.bool (a≥b))else none
 | .add,.string a,.string b=>if((a.size+b.size:Nat):Int)>IntKind.i64.max then none else some (.string (a++b))
 | .eql,.string a,.string b=>some (.bool (a.toList==b.toList))
 | .neq,.string a,.string b=>some (.bool !(a.toList==b.toList))
 | .eql,.float k a,.float k' b=>if k=k' then some (.bool (k.format.order a b==some .eq))else none
 | .neq,.float k a,.float k' b=>if k=k' then some (.bool (k.format.order a b !=some .eq))else none
 | .lss,.float k a,.float k' b=>if k=k' then some (.bool (k.format.order a b==some .lt))else none
 | .leq,.float k a,.float k' b=>if k=k' then some (.bool (k.format.order a b==some .lt||k.format.order a b==some .eq))else none
 | .gtr,.float k a,.float k' b=>if k=k' then some (.bool (k.format.order a b==some .gt))else none
 | .geq,.float k a,.float k' b=>if k=k' then some (.bool (k.format.order a b==some .gt||k.format.order a b==some .eq))else none
 | .mul,.float k a,.float k' b=>if k=k' then(k.format.mul a b).map (.float k ·)else none
 | .quo,.float k a,.float k' b=>if k=k' then(k.format.div a b).map (.float k ·)else none
 |_,_,_=>none
def isC:Operand→Bool| .const _=>true|_=>false
def ifq(P:Program)(tx ty:TypeId)(x y:Value):Option Bool:=
 if tx=ty then(match P.info? tx,P.underlying tx,x,y with|some i,some (.int _),.int k a,.int k' b=>if i.comparable=true∧k=k' then some (a==b)else none|_,_,_,_=>none)else some false
def eqB(op:BinOp)(b:Bool):Option Value:=match op with| .eql=>some (.bool b)| .neq=>some (.bool !b)|_=>none
def isIf:Option TypeDesc→Bool|some (.interface _)=>true|_=>false
def binT(P:Program)(op:BinOp)(t:TypeId)(c:Bool)(x y:Value):Option Value:=
 match x,y with
 | .bool a,.bool b=>match P.underlying t with|some .bool=>eqB op (a==b)|_=>none
 | .nilIface,.nilIface=>if c=true∧isIf (P.underlying t)=true then eqB op true else none
 | .iface _ _,.nilIface=>if isIf (P.underlying t)=true then eqB op false else none
 | .iface tx vx,.iface ty vy=>if isIf (P.underlying t)=true then(ifq P tx ty vx vy).bind (eqB op)else none
 |x,y=>binv op x y
def tU(P:Program)(s d:TypeId)(x:Value):Option Value:=
 match P.underlying s,P.underlying d,x with
 |some _,some (.int k),.int _ n=>some (.int k (k.wrap n))
 |some _,some (.float k),.int _ n=>some (.float k (k.nearest n))
 |some _,some .string,.int _ n=>some (.string (Utf8.encode n))
 |some _,some .string,.string b=>some (.string b)
 |some _,some (.int k),.float s b=>match(s.decode b).toInt .zero with|some n=>if k.min≤n∧n≤k.max then some (.int k n)else none|none=>none
 |_,_,_=>none
def gG(v:Value)(y:Nat):Option Nat:=match v with| .int _ i=>if 0≤i∧i≤y then some i.toNat else none|_=>none
def iM(P:Program)(t:TypeId)(x:Value)(lo hi:Option Value):Option Value:=
 match P.underlying t,x with
 |some .string,.string s=>
  match hi with
  |none=>match lo with
   |none=>some (.string (s.extract 0 s.size))
   |some v=>(gG v s.size).map fun l=> .string (s.extract l s.size)
  |some hv=>(gG hv s.size).bind fun m=>match lo with
   |none=>some (.string (s.extract 0 m))
   |some v=>(gG v m).map fun l=> .string (s.extract l m)
 |some (.slice e),.slice (some ⟨b,o,none⟩) len cap=>
  match szOf P e with
  |none=>none
  |some (_,size)=>
  let fin (l m:Nat):Value:=.slice (some ⟨b,if cap=l then o else o+l*size,none⟩) (m-l) (cap-l)
  match hi with
  |none=>match lo with
   |none=>some (fin 0 len)
   |some v=>(gG v len).map fun l=>fin l len
  |some hv=>(gG hv cap).bind fun m=>match lo with
   |none=>some (fin 0 m)
   |some v=>(gG v m).map fun l=>fin l m
 |some (.array n e),.pointer (some ⟨b,o,none⟩)=>
  match szOf P e with
  |none=>none
  |some (_,size)=>
  let fin (l m:Nat):Value:=.slice (some ⟨b,if n=l then o else o+l*size,none⟩) (m-l) (n-l)
  match hi with
  |none=>match lo with
   |none=>some (fin 0 n)
   |some v=>(gG v n).map fun l=>fin l n
  |some hv=>(gG hv n).bind fun m=>match lo with
   |none=>some (fin 0 m)
   |some v=>(gG v m).map fun l=>fin l m
 |_,_=>none
def tH(P:Program)(t:TypeId)(cs:Array Value)(off:Nat):Option Value:=
 match szOf P t with
 |some (true,n)=>some (.agg (cs.extract off (off+n)))
 |some (false,_)=>cs[off]?
 |none=>none
def oR(P:Program)(t:TypeId)(x:Value)(f:Nat):Option Value:=
 match P.underlying t,x with
 |some (.struct fs),.agg cs=>match fs[f]? with
  |some g=>tH P g.type cs g.offset
  |none=>none
 |_,_=>none
def oQ(P:Program)(t:TypeId)(x i:Value):Option Value:=
 match i with
 | .int _ i=>match P.underlying t,x with
   |some (.slice e),.slice (some ⟨b,o,none⟩) len _=>match szOf P e with
    |some (_,size)=>if 0≤i∧i<len then some (.pointer (some ⟨b,o+i.toNat*size,none⟩))else none
    |none=>none
   |some (.array n e),.pointer (some ⟨b,o,none⟩)=>match szOf P e with
    |some (_,size)=>if 0≤i∧i<n then some (.pointer (some ⟨b,o+i.toNat*size,none⟩))else none
    |none=>none
   |_,_=>none
 |_=>none
def jB(P:Program)(t:TypeId)(x i:Value):Option Value:=
 match i with
 | .int _ i=>match P.underlying t,x with
   |some .string,.string s=>if 0≤i then(s[i.toNat]?).map fun b=> .int .u8 b.toNat else none
   |some (.array n e),.agg cs=>match szOf P e with
    |some (_,size)=>if 0≤i∧i<n then tH P e cs (i.toNat*size)else none
    |none=>none
   |_,_=>none
 |_=>none
def extv(x:Value)(i:Nat):Option Value:=match x with| .tuple vs=>vs[i]? |_=>none
def mkiv(P:Program)(t:TypeId)(x:Value):Option Value:=
 match P.underlying t with
 |some (.interface _)|none=>none
 |some _=>some (.iface t x)
def lenv(P:Program)(tys:Array TypeId)(args:Array Value):Option Value:=
 match tys[0]?,args[0]? with
 |some t,some x=>match P.underlying t,x with
  |some .string,.string s=>some (.int .i64 s.size)
  |some (.slice _),.slice _ n _=>some (.int .i64 n)
  |some (.array n _),_=>some (.int .i64 n)
  |_,_=>none
 |_,_=>none
def minv(args:Array Value):Option Value:=match args.toList with|[.int k x,.int k' y]=>if k=k' then some (.int k (if y<x then y else x))else none|_=>none
def maxv(args:Array Value):Option Value:=match args.toList with|[.int k x,.int k' y]=>if k=k' then some (.int k (if y>x then y else x))else none|_=>none
def lS(P:Program)(t:TypeId)(parts:Array (Nat×Value)):Option Value:=(P.built t parts.toList).map .agg
def rdOp(P:Program)(op:Op)(ρ:Env)(h:Heap):Option Value:=
 match op with
 | .move x| .assign x=>some (ev ρ x)
 | .pick c a b=>xU (ev ρ c) (ev ρ a) (ev ρ b)
 | .nilCheck x=>nilv (ev ρ x)
 | .fieldAddr s x f=>rV P s (ev ρ x) f
 | .load t x=>ldv P t (ev ρ x) h
 | .binOp op t x y _=>binT P op t (isC y) (ev ρ x) (ev ρ y)
 | .unOp op _ x=>unv op (ev ρ x)
 | .convert s d x=>tU P s d (ev ρ x)
 | .slice t x lo hi none=>iM P t (ev ρ x) (lo.map (ev ρ)) (hi.map (ev ρ))
 | .field t x f=>oR P t (ev ρ x) f
 | .indexAddr t x i=>oQ P t (ev ρ x) (ev ρ i)
 | .index t x i=>jB P t (ev ρ x) (ev ρ i)
 | .extract x i=>extv (ev ρ x) i
 | .build t parts=>lS P t (parts.map fun p=>(p.1,ev ρ p.2))
 | .makeInterface t x=>mkiv P t (ev ρ x)
 | .makeFunc fn first cap=>some (.func fn (first.map (ev ρ)) (cap.map (ev ρ)))
 | .call ⟨.builtin .len,args,tys⟩=>lenv P tys (args.map (ev ρ))
 | .call ⟨.builtin .min,args,_⟩=>minv (args.map (ev ρ))
 | .call ⟨.builtin .max,args,_⟩=>maxv (args.map (ev ρ))
 |_=>none
section sound
variable{P:Program}{w:World}
theorem xE{t:TypeId}{ag:Bool}{n:Nat}(h:szOf P t=some (ag,n)):∃d i,P.underlying t=some d∧P.info? t=some i∧isAggD d=ag∧P.cellsOf t=n:=by
 unfold szOf at h;split at h
 ·rename_i d i hd hi;simp only[Option.some.injEq,Prod.mk.injEq]at h;exact⟨d,i,hd,hi,h.1,by simp[Program.cellsOf,hi,h.2]⟩
 ·cases h
theorem mM{t:TypeId}{ag:Bool}{n:Nat}(h:szOf P t=some (ag,n)):(isAgg t).run P w=.ok ag w:=by
 obtain⟨d,i,hd,hi,ha,hn⟩:=xE h;unfold isAgg;cases d<;>simp_all [isAggD,run_underlying,go_sem]
theorem fU{t:TypeId}{ag:Bool}{n:Nat}(h:szOf P t=some (ag,n)):(sizeOf t).run P w=.ok n w:=by
 obtain⟨d,i,hd,hi,ha,hn⟩:=xE h;rw[run_sizeOf (w:=w) hi,hn]
theorem eL(b o n:Nat):(⟨b,o,none⟩:Addr).add n=⟨b,o+n,none⟩:=by
 unfold Addr.add;split<;>simp_all
theorem vR{h:Heap}{b:Nat}:∀{n o:Nat} {l:List Value},dH h b o n=some l→l.length=n∧∀j v,l[j]? =some v→bG h b (o+j)=some v:=by
 intro n
 induction n with
 |zero=>intro o l hl;simp[dH]at hl;subst hl;simp
 |succ n ih=>
  intro o l hl;simp only[dH,Option.bind_eq_some_iff,Option.map_eq_some_iff]at hl;obtain⟨v,hv,l',hl',rfl⟩:=hl;obtain⟨h1,h2⟩:=ih hl';refine⟨by simp[h1],fun j u hj=> ?_⟩
  cases j with
  |zero=>simp at hj;subst hj;simpa using hv
  |succ j=>simp at hj;have:=h2 j u hj;rw[←this];congr 1;omega
theorem ld_run{t:TypeId}{x v:Value}(h:ldv P t x w.heap=some v):(Instr.loadAt t x).run P w=.ok v w:=by
 unfold ldv at h;split at h
 ·rename_i b o;split at h
  ·rename_i n hs;have h1:=mM (w:=w) hs;simp[Instr.loadAt,Instr.sureAddr,loadVar,h1,cell?_heap,h,go_sem]
  ·rename_i n hs;simp only[Option.map_eq_some_iff]at h;obtain⟨l,hl,rfl⟩:=h;obtain⟨hl1,hl2⟩:=vR hl;have h1:=mM (w:=w) hs;have h2:=fU (w:=w) hs
   have h3:(loadCells ⟨b,o,none⟩ n).run P w=.ok l.toArray w:=by
    rw[←hl1];exact run_loadCells_list (w:=w) ⟨b,o,none⟩ l (fun j v hj=>by rw[eL,cell?_heap];exact hl2 j v hj)
   simp[loadCells]at h3;simp[Instr.loadAt,Instr.sureAddr,loadVar,h1,h2,h3,go_sem]
  ·cases h
 ·cases h
theorem faddr_run{s f:Nat}{x v:Value}(h:rV P s x f=some v):(Instr.fieldAt s x f).run P w=.ok v w:=by
 unfold rV at h;split at h
 ·rename_i b o;unfold fofs at h;split at h
  ·rename_i fs hu;split at h
   ·rename_i g hg;split at h
    ·simp at h
    ·split at h
     ·simp at h
     ·rename_i hc hi
      obtain⟨i,hi⟩:∃i,P.info? g.type=some i:=by
       cases hx:P.info? g.type with
       |none=>simp[hx]at hi
       |some i=>exact⟨i,rfl⟩
      simp at h;subst h;have h2:=run_sizeOf (w:=w) hi;simp[Instr.fieldAt,Instr.sureAddr,fieldPlace,run_underlying hu,hg,h2,hc,eL,go_sem]
   ·simp at h
  ·simp at h
 ·cases h
theorem bool_run{c x y v:Value}(h:xU c x y=some v):∃b:Bool,c=.bool b∧v=(if b then x else y):=by
 cases c<;>simp[xU]at h;exact⟨_,rfl,h.symm⟩
theorem iaddr_run{t:TypeId}{x i v:Value}(h:oQ P t x i=some v):(Instr.indexAt t x i).run P w=.ok v w:=by
 unfold oQ at h;split at h
 ·rename_i k n;split at h
  ·rename_i e b o len cap hu;split at h
   ·rename_i ag size hs;split at h
    ·rename_i hr;simp at h;subst h;have h2:=fU (w:=w) hs;simp[Instr.indexAt,asIntOf,run_underlying hu,hr,h2,eL,go_sem]
    ·cases h
   ·cases h
  ·rename_i n' e b o hu;split at h
   ·rename_i ag size hs;split at h
    ·rename_i hr;simp at h;subst h;have h2:=fU (w:=w) hs;simp[Instr.indexAt,Instr.sureAddr,asIntOf,run_underlying hu,hr,h2,eL,go_sem]
    ·cases h
   ·cases h
  ·cases h
 ·cases h
theorem xV{t:TypeId}{cs:Array Value}{off:Nat}{v:Value}(h:tH P t cs off=some v):(part t cs off).run P w=.ok v w:=by
 unfold tH at h;split at h
 ·rename_i n hs;simp at h;subst h;simp[part,mM (w:=w) hs,fU (w:=w) hs,go_sem]
 ·rename_i n hs;simp[part,mM (w:=w) hs,h,go_sem]
 ·cases h
theorem index_run{t:TypeId}{x i v:Value}(h:jB P t x i=some v):(Instr.index t x i).run P w=.ok v w:=by
 unfold jB at h;split at h
 ·rename_i k n;split at h
  ·rename_i s hu;split at h
   ·rename_i hr;simp only[Option.map_eq_some_iff]at h;obtain⟨b,hb,rfl⟩:=h;simp[Instr.index,asIntOf,run_underlying hu,hr,hb,go_sem]
   ·cases h
  ·rename_i n' e cs hu;split at h
   ·rename_i ag size hs;split at h
    ·rename_i hr;have h3:=xV (w:=w) h;simp[part,go_sem]at h3;simp[Instr.index,asIntOf,run_underlying hu,hr,fU (w:=w) hs,h3,go_sem]
    ·cases h
   ·cases h
  ·cases h
 ·cases h
theorem ext_run{x v:Value}{i:Nat}(h:extv x i=some v):(Instr.extract x i).run P w=.ok v w:=by
 unfold extv at h;split at h
 ·simp[Instr.extract,h,go_sem]
 ·cases h
theorem mki_run{t:TypeId}{x v:Value}(h:mkiv P t x=some v):(Instr.makeInterface t x).run P w=.ok v w:=by
 unfold mkiv at h;split at h
 ·cases h
 ·cases h
 ·rename_i d hn hd;simp at h;subst h;unfold Instr.makeInterface;cases d<;>simp_all [run_underlying,go_sem]
theorem field_run{t:TypeId}{x v:Value}{f:Nat}(h:oR P t x f=some v):(Instr.field t x f).run P w=.ok v w:=by
 unfold oR at h;split at h
 ·rename_i fs cs hu;split at h
  ·rename_i g hg;have h3:=xV (w:=w) h;simp[part,go_sem]at h3;simp[Instr.field,run_underlying hu,hg,asAgg,h3,go_sem]
  ·cases h
 ·cases h
theorem len_run{tys:Array TypeId}{ty:TypeId}{args:Array Value}{v:Value}(h:lenv P tys args=some v):(Builtin.len_ tys ty args).run P w=.ok v w:=by
 unfold lenv at h;split at h
 ·rename_i t x ht hx
  split at h<;>rename_i hu<;>first
   |(simp at h;subst h;simp[Builtin.len_,ht,hx,run_underlying hu,goInt,go_sem];done)
   |cases h
 ·cases h
theorem build_run{t:TypeId}{parts:Array (Nat×Value)}{v:Value}(h:lS P t parts=some v):(Instr.build t parts).run P w=.ok v w:=by
 unfold lS at h;simp only[Option.map_eq_some_iff]at h;obtain⟨cs,hc,rfl⟩:=h;exact run_build w t parts cs hc
theorem eJ{v:Value}{y n:Nat}{c:BoundsCode}(h:gG v y=some n):(Instr.sliceBound v y c).run P w=.ok n w:=by
 unfold gG at h;split at h
 ·split at h
  ·rename_i hr;simp at h;subst h;simp[Instr.sliceBound,asIntOf,hr,go_sem]
  ·cases h
 ·cases h
theorem slice_run{t:TypeId}{x v:Value}{lo hi:Option Value}(h:iM P t x lo hi=some v):(Instr.sliceAt t x lo hi none).run P w=.ok v w:=by
 unfold iM at h;split at h
 ·rename_i s hu;rcases hi with _|hv<;>rcases lo with _|lv<;>simp only[Option.map_eq_some_iff,Option.bind_eq_some_iff,Option.some.injEq]at h
  ·subst h;simp[Instr.sliceAt,Instr.slice,Instr.sliceBounds,run_underlying hu,go_sem]
  ·obtain⟨l,hl,rfl⟩:=h;simp[Instr.sliceAt,Instr.slice,Instr.sliceBounds,run_underlying hu,eJ (w:=w) hl,go_sem]
  ·obtain⟨m,hm,rfl⟩:=h;simp[Instr.sliceAt,Instr.slice,Instr.sliceBounds,run_underlying hu,eJ (w:=w) hm,go_sem]
  ·obtain⟨m,hm,l,hl,rfl⟩:=h;simp[Instr.sliceAt,Instr.slice,Instr.sliceBounds,run_underlying hu,eJ (w:=w) hm,eJ (w:=w) hl,go_sem]
 ·rename_i e b o len cap hu;split at h
  ·cases h
  rename_i ag size hs;have h2:=fU (w:=w) hs;rcases hi with _|hv<;>rcases lo with _|lv<;>simp only[Option.map_eq_some_iff,Option.bind_eq_some_iff,Option.some.injEq]at h
  ·subst h;simp[Instr.sliceAt,Instr.slice,Instr.sliceBounds,run_underlying hu,h2,eL,go_sem]
  ·obtain⟨l,hl,rfl⟩:=h;simp[Instr.sliceAt,Instr.slice,Instr.sliceBounds,run_underlying hu,eJ (w:=w) hl,h2,eL,go_sem];split<;>rfl
  ·obtain⟨m,hm,rfl⟩:=h;simp[Instr.sliceAt,Instr.slice,Instr.sliceBounds,run_underlying hu,eJ (w:=w) hm,h2,eL,go_sem]
  ·obtain⟨m,hm,l,hl,rfl⟩:=h;simp[Instr.sliceAt,Instr.slice,Instr.sliceBounds,run_underlying hu,eJ (w:=w) hm,eJ (w:=w) hl,h2,eL,go_sem];split<;>rfl
 ·rename_i n e b o hu;split at h
  ·cases h
  rename_i ag size hs;have h2:=fU (w:=w) hs;rcases hi with _|hv<;>rcases lo with _|lv<;>simp only[Option.map_eq_some_iff,Option.bind_eq_some_iff,Option.some.injEq]at h
  ·subst h;simp[Instr.sliceAt,Instr.sureAddr,Instr.sliceBounds,run_underlying hu,h2,eL,go_sem]
  ·obtain⟨l,hl,rfl⟩:=h;simp[Instr.sliceAt,Instr.sureAddr,Instr.sliceBounds,run_underlying hu,eJ (w:=w) hl,h2,eL,go_sem];split<;>rfl
  ·obtain⟨m,hm,rfl⟩:=h;simp[Instr.sliceAt,Instr.sureAddr,Instr.sliceBounds,run_underlying hu,eJ (w:=w) hm,h2,eL,go_sem]
  ·obtain⟨m,hm,l,hl,rfl⟩:=h;simp[Instr.sliceAt,Instr.sureAddr,Instr.sliceBounds,run_underlying hu,eJ (w:=w) hm,eJ (w:=w) hl,h2,eL,go_sem];split<;>rfl
 ·cases h
theorem conv_run{s d:TypeId}{x v:Value}(h:tU P s d x=some v):(convert s d x).run P w=.ok v w:=by
 unfold tU at h
 split at h<;>rename_i hs hd<;>first
  |(simp at h;subst h;simp[convert,Conv.intToInt,Conv.intToFloat,Conv.intToString,run_underlying hs,run_underlying hd,go_sem];done)
  |(split at h
    ·rename_i hn;split at h
     ·rename_i hm;simp at h;subst h;simp[convert,Conv.floatToInt,run_underlying hs,run_underlying hd,hn,hm,go_sem];done
     ·cases h
    ·cases h)
  |cases h
theorem bin_run{op:BinOp}{t:TypeId}{ox oy:Operand}{x y v:Value}(h:binv op x y=some v):
 (do eqGuard op t ox oy x y;binOp op t x y:Sem Value).run P w=.ok v w:=by
 unfold binv at h;split at h
 case h_6|h_7|h_8|h_9=>
  split at h
  ·rename_i hk;subst hk;simp only[bitv,Option.some.injEq]at h;subst h;simp only[eqGuard,binOp,Op.intBits,Sem.run_bind,ne_eq,not_true_eq_false,if_false]
   rfl
  ·cases h
 case h_18=>
  split at h
  ·cases h
  ·rename_i hz;simp only[Option.some.injEq]at h;subst h;simp only[eqGuard,binOp,Op.stringOp,Sem.run_bind,hz,if_false]
   rfl
 all_goals first
  |(split at h
    ·rename_i hk;subst hk
     first
     |(simp at h;subst h;simp[eqGuard,binOp,Op.intArith,Op.intCmp,Op.floatCmp,go_sem];done)
     |(split at h
       ·cases h
       ·rename_i hz;simp at h;subst h;simp[eqGuard,binOp,Op.intDiv,hz,go_sem];done)
     |(simp only[Option.map_eq_some_iff]at h;obtain⟨r,hr,rfl⟩:=h;simp[eqGuard,binOp,Op.floatArith,hr,go_sem];done)
    ·cases h)
  |(split at h
    ·cases h
    ·rename_i hz;simp at h;subst h;simp[eqGuard,binOp,Op.shift,hz,go_sem];done)
  |(simp at h;subst h;simp[eqGuard,binOp,Op.stringOp,go_sem];done)
  |cases h
theorem rR{d:Option TypeDesc}(h:isIf d=true):∃ms,d=some (.interface ms):=by
 unfold isIf at h;split at h
 ·exact⟨_,rfl⟩
 ·cases h
theorem qF{op:BinOp}{t:TypeId}{x y v:Value}{b:Bool}(h:eqB op b=some v)(hb:∀op,op=.eql∨op=.neq→binOp op t x y=(match op with| .eql=>(do pure (.bool (←Op.equal t x y)))|_=>(do pure (.bool (!(←Op.equal t x y))))))(he:(Op.equal t x y).run P w=.ok b w):
 (binOp op t x y).run P w=.ok v w:=by
 unfold eqB at h;split at h
 ·rw[hb _ (.inl rfl)];cases h;simp[he]
 ·rw[hb _ (.inr rfl)];cases h;simp[he]
 ·cases h
theorem qE{op:BinOp}{t:TypeId}{x y:Operand}{a b:Value}(h:(a=.nilIface→b=.nilIface→isC y=true))(ha:∀xs ys,¬(a=.agg xs∧b=.agg ys)):(eqGuard op t x y a b).run P w=.ok () w:=by
 have key:∀op,op=.eql∨op=.neq→(eqGuard op t x y a b).run P w=.ok () w:=by
  intro op ho;cases a<;>cases b<;>first|(rcases ho with rfl|rfl<;>rfl)|skip
  ·have:=h rfl rfl;cases y<;>first|cases this|skip
   cases x<;>rcases ho with rfl|rfl<;>rfl
  ·exact absurd ⟨rfl,rfl⟩ (ha _ _)
 cases op<;>first|exact key _ (.inl rfl)|exact key _ (.inr rfl)|rfl
theorem eqv_bool{t:TypeId}{a b:Bool}(hu:P.underlying t=some .bool):(Op.equal t (.bool a) (.bool b)).run P w=.ok (a==b) w:=by
 have h:∀d:Nat,(Op.equalIn (d+1) t (.bool a) (.bool b)).run P w=.ok (a==b) w:=fun d=>by simp[Op.equalIn,run_underlying hu]
 exact h 9999
theorem eqv_nn{t:TypeId}{ms:Array (String×TypeId)}(hu:P.underlying t=some (.interface ms)):(Op.equal t .nilIface .nilIface).run P w=.ok true w:=by
 have h:∀d:Nat,(Op.equalIn (d+1) t .nilIface .nilIface).run P w=.ok true w:=fun d=>by simp[Op.equalIn,run_underlying hu]
 exact h 9999
theorem eqv_in{t u:TypeId}{v:Value}{ms:Array (String×TypeId)}(hu:P.underlying t=some (.interface ms)):(Op.equal t (.iface u v) .nilIface).run P w=.ok false w:=by
 have h:∀d:Nat,(Op.equalIn (d+1) t (.iface u v) .nilIface).run P w=.ok false w:=fun d=>by simp[Op.equalIn,run_underlying hu]
 exact h 9999
theorem eqv_ii{t tx ty:TypeId}{x y:Value}{b:Bool}{ms:Array (String×TypeId)}(hu:P.underlying t=some (.interface ms))(hq:ifq P tx ty x y=some b):(Op.equal t (.iface tx x) (.iface ty y)).run P w=.ok b w:=by
 have h:∀d:Nat,(Op.equalIn (d+2) t (.iface tx x) (.iface ty y)).run P w=.ok b w:=fun d=>by
  unfold ifq at hq;split at hq
  ·rename_i ht;subst ht;split at hq
   ·rename_i i q k a k' b h1 h2;split at hq
    ·rename_i hk;obtain⟨hk1,hk⟩:=hk;subst hk;cases hq;simp[Op.equalIn,run_underlying hu,run_underlying h2,typeInfo,h1,hk1]
    ·cases hq
   ·cases hq
  ·rename_i ht;cases hq;simp[Op.equalIn,run_underlying hu,ht]
 exact h 9998
theorem binT_run{op:BinOp}{t:TypeId}{ox oy:Operand}{x y v:Value}(h:binT P op t (isC oy) x y=some v):
 (do eqGuard op t ox oy x y;binOp op t x y:Sem Value).run P w=.ok v w:=by
 unfold binT at h;split at h
 ·split at h
  ·rename_i hu;rw[Sem.run_bind,qE (by simp) (by simp)];exact qF h (by rintro _ (rfl|rfl)<;>rfl) (eqv_bool hu)
  ·cases h
 ·split at h
  ·rename_i hc;obtain⟨ms,hu⟩:=rR hc.2;rw[Sem.run_bind,qE (fun _ _=>hc.1) (by simp)];exact qF h (by rintro _ (rfl|rfl)<;>rfl) (eqv_nn hu)
  ·cases h
 ·split at h
  ·rename_i hc;obtain⟨ms,hu⟩:=rR hc;rw[Sem.run_bind,qE (by simp) (by simp)];exact qF h (by rintro _ (rfl|rfl)<;>rfl) (eqv_in hu)
  ·cases h
 ·split at h
  ·rename_i hc;obtain⟨ms,hu⟩:=rR hc;rw[Sem.run_bind,qE (by simp) (by simp)];obtain⟨b,hq,h⟩:=Option.bind_eq_some_iff.1 h;exact qF h (by rintro _ (rfl|rfl)<;>rfl) (eqv_ii hu hq)
  ·cases h
 ·exact bin_run h
theorem un_run{op:UnOp}{x v:Value}(h:unv op x=some v):(Op.unary op x).run P w=.ok v w:=by
 unfold unv at h
 split at h<;>first
  |(simp only[bitv,Option.some.injEq]at h;subst h;simp only[Op.unary,Op.intBits];rfl)
  |(simp at h;subst h;simp[Op.unary,Op.intArith,go_sem];done)
  |cases h
theorem min_run{tys:Array TypeId}{ty:TypeId}{args:Array Value}{v:Value}(h:minv args=some v):(Builtin.min_ tys ty args).run P w=.ok v w:=by
 unfold minv at h;split at h
 ·rename_i k x k' y ha;split at h
  ·rename_i hk;subst hk;simp at h;subst h;simp[Builtin.min_,ha,Builtin.min2,List.foldlM,go_sem]
  ·cases h
 ·cases h
theorem max_run{tys:Array TypeId}{ty:TypeId}{args:Array Value}{v:Value}(h:maxv args=some v):(Builtin.max_ tys ty args).run P w=.ok v w:=by
 unfold maxv at h;split at h
 ·rename_i k x k' y ha;split at h
  ·rename_i hk;subst hk;simp at h;subst h;simp[Builtin.max_,ha,Builtin.max2,List.foldlM,go_sem]
  ·cases h
 ·cases h
theorem gH{s:Sem Value}{v:Value}(h:s.run P w=.ok v w):((do pure (Next.value (←s))):Sem Next).run P w=.ok (.value v) w:=by
 rw[Sem.run_bind,h];rfl
theorem rd_run{o:Oper}{ρ:Env}{v:Value}(h:rdOp P o.op ρ w.heap=some v):(execOp (ev ρ) o).run P w=.ok (.value v) w:=by
 obtain⟨dst,op,ty,pos,aft,g⟩:=o;dsimp only at h;unfold rdOp at h;split at h
 ·simp at h;subst h;rfl
 ·simp at h;subst h;rfl
 ·rename_i c a b;obtain⟨t,h1,h2⟩:=bool_run h;show((do pure (Next.value (if←asBool (ev ρ c)then ev ρ a else ev ρ b))):Sem Next).run P w=_;rw[h1,h2];rfl
 ·rename_i x;unfold nilv at h;unfold execOp;dsimp only;generalize ev ρ x=u at*;split at h<;>first|(simp at h;subst h;simp[go_sem];done)|cases h
 ·exact gH (faddr_run h)
 ·exact gH (ld_run h)
 ·exact gH (binT_run h)
 ·exact gH (un_run h)
 ·exact gH (conv_run h)
 ·exact gH (slice_run h)
 ·exact gH (field_run h)
 ·exact gH (iaddr_run h)
 ·exact gH (index_run h)
 ·exact gH (ext_run h)
 ·exact gH (build_run h)
 ·exact gH (mki_run h)
 ·simp at h;subst h;rfl
 ·exact gH (len_run h)
 ·exact gH (min_run h)
 ·exact gH (max_run h)
 ·cases h
end sound
def hset(h:Heap)(b o:Nat)(v:Value):Heap:=h.modify b fun| .cells c e f=> .cells (c.setIfInBounds o v) e f|x=>x
def eZ(h:Heap)(b:Nat):Nat→List Value→Heap
 |_,[]=>h
 |o,v::l=>eZ (hset h b o v) b (o+1) l
def stOk(h:Heap)(b o:Nat)(l:List Value):Prop:=∀j v,l[j]? =some v→(bG h b (o+j)).isSome=true∧fA h b (o+j)=false∧v.oneCell'=true
def fO(P:Program)(t:TypeId):Option (Array Value):=(P.info? t).bind fun i=>i.zero.map (·.cells)
def entb(P:Program)(f:Nat):Bool:=match P.funcs[f]? with|some fn=>fn.body.isSome&& !(fn.name== "runtime.NumGoroutine")|none=>false
def Wv(ov:Option Value)(dst:Option Nat)(ρ:Env)(h:Heap)(k:Env→Heap→Prop):Prop:=match ov with|some v=>k (ρ.put dst v) h|none=>False
def eH(k:Env→Heap→Prop)(E:List PanicEntry→Heap→Prop)(ρ:Env)(dst:Option Nat):Ending→Heap→Prop
 | .returned v,h'=>k (ρ.put dst v) h'
 | .panicked ch,h'=>E ch h'
 | .outgrown,_=>False
def Wfn(P:Program)(v:Value)(args:Array Value)(h:Heap)(R:Ending→Heap→Prop):Prop:=
 match v with
 | .func (.func f) fs cap=>(entb P f=true∧C P f (fs++args++cap) h R)∨
   (entb P f=false∧∃u,(∀w:World,w.heap=h→∃w',(callFunc f (fs++args++cap)).run P w=.ok (.value u) w'∧Amb w w'∧w'.heap=h)∧R (.returned u) h)
 |_=>False
def Wnew(P:Program)(oc:Option (Array Value))(t:TypeId)(dst:Option Nat)(ρ:Env)(h:Heap)(k:Env→Heap→Prop):Prop:=
 match oc with|some cs=>k (ρ.put dst (.pointer (some ⟨h.size,0,none⟩))) (h.push (.cells cs t))|none=>False
def Wst(P:Program)(t:TypeId)(a v:Value)(dst:Option Nat)(ρ:Env)(h:Heap)(k:Env→Heap→Prop):Prop:=
 match a,szOf P t with
 | .pointer (some ⟨b,o,none⟩),some (_,n)=>v.cells.size=n∧stOk h b o v.cells.toList∧k (ρ.put dst undef) (eZ h b o v.cells.toList)
 |_,_=>False
def Wsem(P:Program)(o:Oper)(ρ:Env)(h:Heap)(k:Env→Heap→Prop)(E:List PanicEntry→Heap→Prop):Prop:=
 ∀w:World,w.heap=h→match(execOp (ev ρ) o).run P w with
  | .ok (.value v) w'=>Amb w w'∧k (ρ.put o.dst v) w'.heap
  | .ok .skip w'=>Amb w w'∧k (ρ.put o.dst undef) w'.heap
  | .ok (.enter f args) w'=>Amb w w'∧C P f args w'.heap (eH k E ρ o.dst)
  | .halt (.panic v) w'=>Amb w w'∧E [{v,recovered:=false}] w'.heap
  |_=>False
def isRd:Op→Bool
 | .move _| .assign _| .pick .. | .nilCheck _| .fieldAddr .. | .load .. | .binOp .. | .unOp .. | .convert .. | .slice _ _ _ _ none| .field .. | .indexAddr .. | .index ..
 | .extract .. | .build .. | .makeInterface .. | .makeFunc .. | .call ⟨.builtin .len,_,_⟩| .call ⟨.builtin .min,_,_⟩| .call ⟨.builtin .max,_,_⟩=>true
 |_=>false
def Wop(P:Program)(o:Oper)(ρ:Env)(h:Heap)(k:Env→Heap→Prop)(E:List PanicEntry→Heap→Prop):Prop:=
 match o.op with
 | .alloc t=>Wnew P (fO P t) t o.dst ρ h k
 | .box t x=>Wnew P (some (ev ρ x).cells) t o.dst ρ h k
 | .store t a x=>Wst P t (ev ρ a) (ev ρ x) o.dst ρ h k
 | .call ⟨.value f,args,_⟩=>Wfn P (ev ρ f) (args.map (ev ρ)) h (eH k E ρ o.dst)
 |op=>if isRd op then Wv (rdOp P op ρ h) o.dst ρ h k else Wsem P o ρ h k E
def gD:List Oper→Nat→Option Nat
 |o::_,0=>o.dst
 |_::l,j+1=>gD l j
 |[],_=>none
def gval(ρ:Env):Option Nat→Value
 |some d=>ρ d
 |none=>undef
def Wg(v:Value)(want:Bool)(X Y:Prop):Prop:=match v with
 | .bool b=>if b=want then X else Y
 |_=>Y
def Wl(P:Program)(ops:List Oper)(K:Env→Heap→Prop)(E:List PanicEntry→Heap→Prop):List Oper→Env→Heap→Prop
 |[],ρ,h=>K ρ h
 |o::rest,ρ,h=>match o.guard with
  |none=>Wop P o ρ h (Wl P ops K E rest) E
  |some (j,want)=>Wg (gval ρ (gD ops j)) want (Wop P o ρ h (Wl P ops K E rest) E) (Wl P ops K E rest (ρ.put o.dst undef) h)
def Kseq(N:Env→Heap→Prop)(K:Exit→Env→Heap→Prop):Exit→Env→Heap→Prop
 | .normal,ρ,h=>N ρ h
 |e,ρ,h=>K e ρ h
def Kblk(id:Nat)(K:Exit→Env→Heap→Prop):Exit→Env→Heap→Prop
 | .exit j,ρ,h=>if j=id then K .normal ρ h else K (.exit j) ρ h
 |e,ρ,h=>K e ρ h
def Wif(v:Value)(X Y:Prop):Prop:=match v with| .bool b=>if b then X else Y|_=>False
def _root_.Go.Act.fp(S0:List Nat)(a:Act):List Deferred×List Value:=(a.defers,S0.map fun t=>a.tmps.getD t undef)
def zD(P:Program)(ops:Array Oper)(K:Env→Heap→Prop)(E:List PanicEntry→Heap→Prop)(ρ:Env)(h:Heap):Prop:=
 ∀(id:Nat) (n:Nat) (S0:List Nat) (D:List Deferred×List Value) (w:World) (a:Act),w.heap=h→a.tmps.size=n→(∀t,a.tmps.getD t undef=ρ t)→a.fp S0=D→(∀o∈ops,∀d,o.dst=some d→d<n∧d∉S0)→
  (Code.region id ops true).wp P (fun e a' w'=>Amb w w'∧a'.fp S0=D∧match e with
   | .normal=>a'.tmps.size=n∧∃ρ',(∀t,a'.tmps.getD t undef=ρ' t)∧K ρ' w'.heap
   | .panic ch=>E ch w'.heap
   |_=>False) a w
def okcS(n:Nat)(S0:List Nat):Code→Bool
 | .region _ ops _=>ops.all fun o=>match o.dst with|some d=>decide (d<n)&& !S0.contains d|none=>true
 | .seq a b=>okcS n S0 a&&okcS n S0 b
 | .cond _ a b=>okcS n S0 a&&okcS n S0 b
 | .block _ c=>okcS n S0 c
 | .loop c=>okcS n S0 c
 | .scope c=>okcS n S0 c
 |_=>true
def Post(w:World)(n:Nat)(S0:List Nat)(D:List Deferred×List Value)(K:Exit→Env→Heap→Prop)(E:List PanicEntry→Heap→Prop):Exit→Act→World→Prop:=fun e a' w'=>
 Amb w w'∧a'.fp S0=D∧match e with
  | .panic ch=>E ch w'.heap
  | .outgrown=>False
  |e=>a'.tmps.size=n∧∃ρ',(∀t,a'.tmps.getD t undef=ρ' t)∧K e ρ' w'.heap
def Wscope(P:Program)(c:Code)(K:Exit→Env→Heap→Prop)(E:List PanicEntry→Heap→Prop)(ρ:Env)(h:Heap):Prop:=
 ∀(n:Nat) (S0:List Nat) (D:List Deferred×List Value) (w0 w:World) (a:Act),okcS n S0 c=true→Amb w0 w→w.heap=h→a.tmps.size=n→(∀t,a.tmps.getD t undef=ρ t)→a.fp S0=D→
  (Code.scope c).wp P (Post w0 n S0 D K E) a w
def W(P:Program):Code→(Exit→Env→Heap→Prop)→(List PanicEntry→Heap→Prop)→Env→Heap→Prop
 | .skip,K,_,ρ,h=>K .normal ρ h
 | .region _ ops draw,K,E,ρ,h=>if draw then zD P ops (K .normal) E ρ h else Wl P ops.toList (K .normal) E ops.toList ρ h
 | .seq a b,K,E,ρ,h=>W P a (Kseq (W P b K E) K) E ρ h
 | .cond c t e,K,E,ρ,h=>Wif (ev ρ c) (W P t K E ρ h) (W P e K E ρ h)
 | .block id c,K,E,ρ,h=>W P c (Kblk id K) E ρ h
 | .loop c,K,E,ρ,h=> ∃(I:Nat→Env→Heap→Prop) (n:Nat),I n ρ h∧∀n ρ h,I n ρ h→W P c (Kseq (fun ρ' h'=> ∃m,m<n∧I m ρ' h') K) E ρ h
 | .exit id,K,_,ρ,h=>K (.exit id) ρ h
 | .ret,K,_,ρ,h=>K .ret ρ h
 | .scope c,K,E,ρ,h=>Wscope P c K E ρ h
 | .label _,K,_,ρ,h=>K .normal ρ h
 | .goto l,K,_,ρ,h=>K (.goto l) ρ h
 |_,_,_,_,_=>False
def okc(n:Nat)(c:Code):Bool:=okcS n [] c
end
section
section
variable{P:Program}
theorem oK{a:Act}{ρ:Env}(h:∀t,a.tmps.getD t undef=ρ t):a.eval=ev ρ:=by
 funext x;cases x<;>simp[Act.eval,ev,←h]
theorem put_fp{a:Act}{S0:List Nat}(dst:Option Nat)(v:Value)(hd:∀d,dst=some d→d∉S0):(a.put dst v).fp S0=a.fp S0:=by
 cases dst with
 |none=>rfl
 |some d=>
  have hd':=hd d rfl;show(a.defers,S0.map fun t=>(a.tmps.setIfInBounds d v).getD t undef)=_;unfold Act.fp
  congr 1
  apply List.map_congr_left;intro t ht;have e:t≠d:=fun e=>hd' (e▸ht);simp[Array.getD_eq_getD_getElem?,Array.getElem?_setIfInBounds_ne (Ne.symm e)]
theorem jX{a:Act}{ρ:Env}{n:Nat}{S0:List Nat}(hn:a.tmps.size=n)(h:∀t,a.tmps.getD t undef=ρ t)(dst:Option Nat)(v:Value)(hd:∀d,dst=some d→d<n∧d∉S0):
 (a.put dst v).tmps.size=n∧(∀t,(a.put dst v).tmps.getD t undef=(ρ.put dst v) t)∧(a.put dst v).fp S0=a.fp S0:=by
 suffices h1:(a.put dst v).tmps.size=n∧∀t,(a.put dst v).tmps.getD t undef=(ρ.put dst v) t from⟨h1.1,h1.2,put_fp dst v fun d h=>(hd d h).2⟩
 cases dst with
 |none=>exact⟨hn,h⟩
 |some d=>
  have hd':=(hd d rfl).1;refine⟨by simp[Act.put,hn],fun t=> ?_⟩;simp only[Act.put,Env.put,Env.set,←h];by_cases e:t=d
  ·subst e;simp[Array.getD_eq_getD_getElem?,hn,hd']
  ·simp[Array.getD_eq_getD_getElem?,Array.getElem?_setIfInBounds_ne (Ne.symm e),e]
theorem fY{ops:List Oper}{a:Act}{ρ:Env}(h:∀t,a.tmps.getD t undef=ρ t)(j:Nat)(want:Bool):
 (yielded ops.toArray a.tmps j==some want)=(match gval ρ (gD ops j)with| .bool b=>b==want|_=>false):=by
 have hg:(ops[j]?).bind (·.dst)=gD ops j:=by
  induction ops generalizing j with
  |nil=>simp[gD]
  |cons o l ih=>cases j<;>simp[gD,ih]
 unfold yielded;simp only[List.getElem?_toArray,hg]
 cases hs:gD ops j with
 |none=>simp[gval,undef]
 |some d=>
  simp only[gval,←h d,Option.bind_some,Array.getD_eq_getD_getElem?]
  cases hx:a.tmps[d]? with
  |none=>simp[undef]
  |some v=>cases v<;>simp
theorem mN(w:World)(b o:Nat)(v:Value):(w.setCell ⟨b,o,none⟩ v).heap=hset w.heap b o v:=by
 simp only[World.setCell,hset]
 congr 1
theorem nH{h:Heap}{b o b' o':Nat}{v:Value}:(bG (hset h b o v) b' o').isSome=(bG h b' o').isSome:=by
 unfold bG hset;rw[Array.getElem?_modify];by_cases e:b=b'
 ·subst e;simp only[if_true]
  cases hx:h[b]? with
  |none=>rfl
  |some x=>
   cases x<;>simp;rename_i c _ _;by_cases ho:o=o'
   ·subst ho;by_cases hl:o<c.size
    ·simp[hl]
    ·simp[hl]
   ·simp[Array.getElem?_setIfInBounds_ne ho]
 ·simp[e]
theorem sS{h:Heap}{b o b' o':Nat}{v:Value}:fA (hset h b o v) b' o'=fA h b' o':=by
 unfold fA hset;rw[Array.getElem?_modify];by_cases e:b=b'
 ·subst e;simp only[if_true]
  cases hx:h[b]? with
  |none=>rfl
  |some x=>cases x<;>simp
 ·simp[e]
theorem xI(b o:Nat):∀(l:List Value) (i:Nat) (w:World),stOk w.heap b (o+i) l→
 ∃w',(storeCells ⟨b,o,none⟩ l i).run P w=.ok () w'∧Amb w w'∧w'.heap=eZ w.heap b (o+i) l:=by
 intro l
 induction l with
 |nil=>intro i w _;exact⟨w,rfl,Amb.refl w,rfl⟩
 |cons v l ih=>
  intro i w hok;obtain⟨h1,h2,h3⟩:=hok 0 v rfl;simp only[Nat.add_zero]at h1 h2;obtain⟨u,hu⟩:=Option.isSome_iff_exists.1 h1
  have hst:(store ((⟨b,o,none⟩:Addr).add i) v).run P w=.ok () (w.setCell ⟨b,o+i,none⟩ v):=by
   rw[eL,run_store P w _ v .plain h3];simp only[cell?_heap,frozen?_heap,hu,h2,aI,if_false]
  have hok':stOk (w.setCell ⟨b,o+i,none⟩ v).heap b (o+(i+1)) l:=by
   intro j x hj;rw[mN,nH,sS];have:=hok (j+1) x (by simpa using hj);rw[show o+(i+1)+j=o+i+(j+1) by omega];exact this
  obtain⟨w',hr,ha,hh⟩:=ih (i+1) _ hok';refine⟨w',?_,⟨ha.os,ha.tape,ha.output⟩,?_⟩
  ·simp only[storeCells,Sem.run_bind,hst,Result.andThen_ok,hr]
  ·rw[hh,mN];rfl
theorem st_run{t:TypeId}{v:Value}{b o n:Nat}{ag:Bool}{w:World}(hs:szOf P t=some (ag,n))(hn:v.cells.size=n)(hok:stOk w.heap b o v.cells.toList):
 ∃w',(Instr.storeAt t (.pointer (some ⟨b,o,none⟩)) v).run P w=.ok () w'∧Amb w w'∧w'.heap=eZ w.heap b o v.cells.toList:=by
 obtain⟨w',hr,ha,hh⟩:=xI (P:=P) b o v.cells.toList 0 w hok;refine⟨w',?_,ha,hh⟩;have h2:=fU (w:=w) hs;show((do storeVar t (←Instr.sureAddr (.pointer (some ⟨b,o,none⟩))) v):Sem Unit).run P w=_;rw[Sem.run_bind];show(storeVar t ⟨b,o,none⟩ v).run P w=_;unfold storeVar;rw[Sem.run_bind,h2];simp only[Result.andThen_ok,hn,ne_eq,not_true_eq_false,if_false];exact hr
theorem sD{f:Nat}{args:Array Value}{w:World}(h:entb P f=true):∃w',(callFunc f args).run P w=.ok (.enter f args) w'∧w'=w:=by
 unfold entb at h;split at h
 ·rename_i fn hf;simp only[Bool.and_eq_true,Bool.not_eq_true']at h;refine⟨w,?_,rfl⟩
  have hb:fn.body.isNone=false:=by
   cases hx:fn.body<;>simp_all
  simp only[callFunc,Sem.run_bind,run_program,Result.andThen_ok,hf,h.2,hb,aI,if_false]
  rfl
 ·cases h
theorem oV {ops:List Oper} {o:Oper} {ρ:Env} {k:Env→Heap→Prop} {E:List PanicEntry→Heap→Prop} {w0 w:World} {a:Act} {n:Nat} {S0:List Nat} {D:List Deferred×List Value}
 {K':Act→World→Prop} {Q:Exit→Act→World→Prop}
 (hn:a.tmps.size=n) (hρ:∀t,a.tmps.getD t undef=ρ t) (hD:a.fp S0=D) (hd:∀d,o.dst=some d→d<n∧d∉S0) (hw:Amb w0 w)
 (hk:∀a' w' ρ',a'.tmps.size=n→(∀t,a'.tmps.getD t undef=ρ' t)→a'.fp S0=D→Amb w0 w'→k ρ' w'.heap→K' a' w')
 (hE:∀a' w' ch,a'.fp S0=D→Amb w0 w'→E ch w'.heap→Q (.panic ch) a' w')
 (H:Wop P o ρ w.heap k E):o.wp P a w K' Q:=by
 have he:a.eval=ev ρ:=oK hρ;unfold Oper.wp;rw[he]
 have fin:∀v w',Amb w w'→k (ρ.put o.dst v) w'.heap→K' (a.put o.dst v) w':=fun v w' ha hk'=>by
  obtain⟨h1,h2,h3⟩:=jX hn hρ o.dst v hd;exact hk _ _ _ h1 h2 (h3.trans hD) (hw.trans ha) hk'
 have cal:∀f args w',Amb w w'→C P f args w'.heap (eH k E ρ o.dst)→Calls P f args w' (fun
  | .returned v,w''=>K' (a.put o.dst v) w''
  | .panicked chain,w''=>Q (.panic chain) a w''
  | .outgrown,_=>LetsOut Q):=fun f args w' ha hc=>by
  refine(hc w' rfl).mono fun e w'' ⟨hb,hR⟩=> ?_
  cases e with
  |returned v=>exact fin v w'' (ha.trans hb) hR
  |panicked ch=>exact hE _ _ _ hD (hw.trans (ha.trans hb)) hR
  |outgrown=>exact hR.elim
 obtain⟨dst,op,ty,pos,aft,g⟩:=o;unfold Wop at H;dsimp only at H fin cal⊢;split at H
 ·
  rename_i t;unfold Wnew at H;split at H
  ·rename_i cs hcs;unfold fO at hcs;simp only[Option.bind_eq_some_iff,Option.map_eq_some_iff]at hcs;obtain⟨i,hi,z,hz,rfl⟩:=hcs
   have hrun:(execOp (ev ρ) ⟨dst,.alloc t,ty,pos,aft,g⟩).run P w=.ok (.value (.pointer (some ⟨w.heap.size,0,none⟩))) (w.alloc (.cells z.cells t)):=by
    show((do pure (Next.value (←Instr.alloc t true (.tuple #[])))):Sem Next).run P w=_;simp[Instr.alloc,zeroValue,run_typeInfo (w:=w) hi,hz,newVar,newRow,go_sem]
   rw[hrun];exact fin _ _ ⟨rfl,rfl,rfl⟩ H
  ·exact H.elim
 ·
  rename_i t x
  have hrun:(execOp (ev ρ) ⟨dst,.box t x,ty,pos,aft,g⟩).run P w=.ok (.value (.pointer (some ⟨w.heap.size,0,none⟩))) (w.alloc (.cells (ev ρ x).cells t)):=by
   show((do pure (Next.value (←Instr.box t (ev ρ x)))):Sem Next).run P w=_;simp[Instr.box,newVar,newRow,go_sem]
  rw[hrun];exact fin _ _ ⟨rfl,rfl,rfl⟩ H
 ·
  rename_i t x y;unfold Wst at H;split at H
  ·rename_i b o hs hx hy;obtain⟨h1,h2,h3⟩:=H;obtain⟨w',hr,ha,hh⟩:=st_run (P:=P) hy h1 h2
   have hrun:(execOp (ev ρ) ⟨dst,.store t x y,ty,pos,aft,g⟩).run P w=.ok .skip w':=by
    show((do Instr.storeAt t (ev ρ x) (ev ρ y);pure Next.skip):Sem Next).run P w=_;rw[hx,Sem.run_bind,hr];rfl
   rw[hrun];rw[←hh]at h3;exact fin _ _ ha h3
  ·exact H.elim
 ·
  rename_i f args tys;unfold Wfn at H;split at H
  ·rename_i f' fs cap hf;rcases H with⟨h1,h2⟩|⟨_,u,h1,h2⟩
   case inr=>
    obtain⟨w',hr,ha,hh⟩:=h1 w rfl
    have hrun:(execOp (ev ρ) ⟨dst,.call ⟨.value f,args,tys⟩,ty,pos,aft,g⟩).run P w=.ok (.value u) w':=by
     show((do let d←resolve (ev ρ) ⟨.value f,args,tys⟩ ty;invoke d.target d.args):Sem Next).run P w=_;simp only[resolve,hf,Deferred.ofValue,Sem.run_bind,Sem.run_pure,Result.andThen_ok,invoke];exact hr
    rw[hrun];rw[←hh]at h2;exact fin _ _ ha h2
   obtain⟨w',hr,rfl⟩:=sD (P:=P) (w:=w) (args:=fs++args.map (ev ρ)++cap) h1
   have hrun:(execOp (ev ρ) ⟨dst,.call ⟨.value f,args,tys⟩,ty,pos,aft,g⟩).run P w'=.ok (.enter f' (fs++args.map (ev ρ)++cap)) w':=by
    show((do let d←resolve (ev ρ) ⟨.value f,args,tys⟩ ty;invoke d.target d.args):Sem Next).run P w'=_;simp only[resolve,hf,Deferred.ofValue,Sem.run_bind,Sem.run_pure,Result.andThen_ok,invoke];exact hr
   rw[hrun];exact cal _ _ _ (Amb.refl _) h2
  ·exact H.elim
 ·
  split at H
  ·unfold Wv at H;split at H
   ·rename_i v hv;rw[rd_run (o:=⟨dst,op,ty,pos,aft,g⟩) hv];exact fin _ _ (Amb.refl _) H
   ·exact H.elim
  ·have H':=H w rfl;generalize(execOp (ev ρ) ⟨dst,op,ty,pos,aft,g⟩).run P w=r at H'⊢
   cases r with
   |ok x w'=>
    cases x<;>simp only at H'<;>first
     |exact H'.elim
     |exact fin _ _ H'.1 H'.2
     |exact cal _ _ _ H'.1 H'.2
   |halt x w'=>
    cases x<;>simp only at H'<;>first
     |exact H'.elim
     |exact hE _ _ _ hD (hw.trans H'.1) H'.2
theorem sK {ops:List Oper} {k:Env→Heap→Prop} {E:List PanicEntry→Heap→Prop} {w0:World} {n:Nat} {S0:List Nat} {D:List Deferred×List Value} {Q:Exit→Act→World→Prop}
 (hk:∀a' w' ρ',a'.tmps.size=n→(∀t,a'.tmps.getD t undef=ρ' t)→a'.fp S0=D→Amb w0 w'→k ρ' w'.heap→Q .normal a' w')
 (hE:∀a' w' ch,a'.fp S0=D→Amb w0 w'→E ch w'.heap→Q (.panic ch) a' w'):
 ∀(l:List Oper) (a:Act) (w:World) (ρ:Env),(∀o∈l,∀d,o.dst=some d→d<n∧d∉S0)→a.tmps.size=n→(∀t,a.tmps.getD t undef=ρ t)→a.fp S0=D→Amb w0 w→
  Wl P ops k E l ρ w.heap→wpList P ops.toArray Q l a w:=by
 intro l
 induction l with
 |nil=>intro a w ρ _ hn hρ hD hw H;exact hk _ _ _ hn hρ hD hw H
 |cons o l ih=>
  intro a w ρ hd hn hρ hD hw H;have hd0:∀d,o.dst=some d→d<n∧d∉S0:=hd o List.mem_cons_self;have hdl:∀o∈l,∀d,o.dst=some d→d<n∧d∉S0:=fun o ho=>hd o (List.mem_cons_of_mem _ ho)
  have skip:Wl P ops k E l (ρ.put o.dst undef) w.heap→wpList P ops.toArray Q l (a.put o.dst undef) w:=fun H=>by
   obtain⟨h1,h2,h3⟩:=jX hn hρ o.dst undef hd0;exact ih _ _ _ hdl h1 h2 (h3.trans hD) hw H
  have go:Wop P o ρ w.heap (Wl P ops k E l) E→o.wp P a w (wpList P ops.toArray Q l) Q:=fun H=>
   oV (ops:=ops) hn hρ hD hd0 hw (fun a' w' ρ' h1 h2 h3 h4 h5=>ih a' w' ρ' hdl h1 h2 h3 h4 h5) hE H
  unfold Wl at H;unfold wpList
  cases hg:o.guard with
  |none=>
   simp only[hg]at H;rw[if_pos (by simp[Region.wanted,hg])]
   exact .inl (go H)
  |some jw=>
   obtain⟨j,want⟩:=jw;simp only[hg]at H;have hy:=fY (ops:=ops) hρ j want;simp only[Region.wanted,hg];rw[hy];unfold Wg at H
   cases hv:gval ρ (gD ops j)with
   |bool b=>
    simp only[hv]at H⊢;by_cases hb:b=want
    ·simp only[hb,if_true,beq_self_eq_true]at H⊢;exact .inl (go H)
    ·simp only[hb,if_false]at H;rw[if_neg (by simpa using hb)]
     exact skip H
   |_=>simp only[hv]at H⊢;exact skip H
theorem kV{w0:World}{n:Nat}{S0:List Nat}{D:List Deferred×List Value}:∀(c:Code) (K:Exit→Env→Heap→Prop) (E:List PanicEntry→Heap→Prop) (ρ:Env) (a:Act) (w:World),
 okcS n S0 c=true→a.tmps.size=n→(∀t,a.tmps.getD t undef=ρ t)→a.fp S0=D→Amb w0 w→W P c K E ρ w.heap→c.wp P (Post w0 n S0 D K E) a w:=by
 intro c
 induction c with
 |skip=>intro K E ρ a w _ hn hρ hD hw H;exact wp_skip ⟨hw,hD,hn,ρ,hρ,H⟩
 |ret=>intro K E ρ a w _ hn hρ hD hw H;exact wp_ret ⟨hw,hD,hn,ρ,hρ,H⟩
 |exit id=>intro K E ρ a w _ hn hρ hD hw H;exact wp_exit ⟨hw,hD,hn,ρ,hρ,H⟩
 |region id ops draw=>
  intro K E ρ a w hok hn hρ hD hw H
  have hd:∀o∈ops,∀d,o.dst=some d→d<n∧d∉S0:=by
   intro o ho d hd;simp only[okcS,Array.all_eq_true_iff_forall_mem]at hok;have:=hok o ho;simp only[hd,Bool.and_eq_true,decide_eq_true_eq,Bool.not_eq_true']at this;exact⟨this.1,fun hm=>by have h2:=this.2;rw[List.contains_iff_mem.2 hm]at h2;cases h2⟩
  unfold W at H
  cases draw with
  |true=>
   simp only[if_true]at H;refine Code.wp_mono ?_ (H id n S0 D w a rfl hn hρ hD hd);intro e a' w' ⟨h1,h2,h3⟩;refine⟨hw.trans h1,h2,?_⟩
   cases e<;>first|exact h3|exact h3.elim
  |false=>
   simp only[aI,if_false]at H;refine wp_region_list ?_
   have:=sK (P:=P) (ops:=ops.toList) (k:=K .normal) (E:=E) (w0:=w0) (n:=n) (D:=D) (Q:=Post w0 n S0 D K E)
    (fun a' w' ρ' h1 h2 h3 h4 h5=>⟨h4,h3,h1,ρ',h2,h5⟩) (fun a' w' ch h1 h2 h3=>⟨h2,h1,h3⟩) ops.toList a w ρ (fun o ho=>hd o (by simpa using ho)) hn hρ hD hw H
   simpa using this
 |seq x y ihx ihy=>
  intro K E ρ a w hok hn hρ hD hw H;simp only[okcS,Bool.and_eq_true]at hok;refine wp_seq (Code.wp_mono ?_ (ihx _ _ _ _ _ hok.1 hn hρ hD hw H));intro e a' w' ⟨h1,h2,h3⟩
  cases e with
  |normal=>
   obtain⟨h3,ρ',h4,h5⟩:=h3
   exact ihy _ _ _ _ _ hok.2 h3 h4 h2 h1 h5
  |outgrown=>exact h3.elim
  |panic ch=>exact⟨h1,h2,h3⟩
  |_=>exact⟨h1,h2,h3⟩
 |cond c x y ihx ihy=>
  intro K E ρ a w hok hn hρ hD hw H;simp only[okcS,Bool.and_eq_true]at hok;unfold W Wif at H;have he:=oK hρ;split at H
  ·rename_i b hb
   cases b with
   |true=>exact wp_cond_true (by rw[he];exact hb) (ihx _ _ _ _ _ hok.1 hn hρ hD hw (by simpa using H))
   |false=>exact wp_cond_false (by rw[he];exact hb) (ihy _ _ _ _ _ hok.2 hn hρ hD hw (by simpa using H))
  ·exact H.elim
 |block id c ih=>
  intro K E ρ a w hok hn hρ hD hw H;refine wp_block (Code.wp_mono ?_ (ih _ _ _ _ _ hok hn hρ hD hw H));intro e a' w' ⟨h1,h2,h3⟩
  cases e with
  |exit j=>
   obtain⟨h3,ρ',h4,h5⟩:=h3;simp only[Exit.inBlock];unfold Kblk at h5;dsimp only at h5;split
   ·rename_i hj;rw[if_pos hj]at h5;exact⟨h1,h2,h3,ρ',h4,h5⟩
   ·rename_i hj;rw[if_neg hj]at h5;exact⟨h1,h2,h3,ρ',h4,h5⟩
  |_=>exact⟨h1,h2,h3⟩
 |loop c ih=>
  intro K E ρ a w hok hn hρ hD hw H;obtain⟨I,m,h0,hround⟩:=H;refine wp_loop_ghost (fun m a' w'=>Amb w0 w'∧a'.tmps.size=n∧a'.fp S0=D∧∃ρ',(∀t,a'.tmps.getD t undef=ρ' t)∧I m ρ' w'.heap) m ⟨hw,hn,hD,ρ,hρ,h0⟩ ?_;rintro m a w ⟨hw,hn,hD,ρ,hρ,hI⟩;refine Code.wp_mono ?_ (ih _ _ _ _ _ hok hn hρ hD hw (hround m ρ _ hI));intro e a' w' ⟨h1,h2,h3⟩
  cases e with
  |normal=>
   obtain⟨h3,ρ',h4,m',h5,h6⟩:=h3
   exact⟨m',h5,h1,h3,h2,ρ',h4,h6⟩
  |outgrown=>exact h3.elim
  |panic ch=>exact⟨h1,h2,h3⟩
  |_=>exact⟨h1,h2,h3⟩
 |label l=>intro K E ρ a w _ hn hρ hD hw H;exact wp_label ⟨hw,hD,hn,ρ,hρ,H⟩
 |goto l=>intro K E ρ a w _ hn hρ hD hw H;exact wp_goto ⟨hw,hD,hn,ρ,hρ,H⟩
 |scope c ih=>intro K E ρ a w hok hn hρ hD hw H;exact H n S0 D w0 w a hok hw rfl hn hρ hD
 |_=>intro K E ρ a w _ _ _ _ _ H;exact H.elim
def kW(c:Code)(J:Nat→Nat→Env→Heap→Prop)(n:Nat)(K:Exit→Env→Heap→Prop):Exit→Env→Heap→Prop
 | .goto l,ρ,h=>if(findLabel c l).isSome then∃m,m<n∧J l m ρ h else K (.goto l) ρ h
 |e,ρ,h=>K e ρ h
theorem okcS_find{n:Nat}{S0:List Nat}{l:Nat}:∀{c rest:Code},okcS n S0 c=true→findLabel c l=some rest→okcS n S0 rest=true:=by
 intro c
 induction c with
 |seq a b iha ihb=>
  intro rest hok hf;simp only[okcS,Bool.and_eq_true]at hok;simp only[findLabel]at hf;split at hf
  ·rename_i r hr;simp only[Option.some.injEq]at hf;subst hf;simp only[okcS,Bool.and_eq_true];exact⟨iha hok.1 hr,hok.2⟩
  ·exact ihb hok.2 hf
 |label l'=>
  intro rest _ hf;simp only[findLabel]at hf;split at hf
  ·simp only[Option.some.injEq]at hf;subst hf;rfl
  ·cases hf
 |_=>intro rest _ hf;cases hf
theorem uD {c:Code} {Q:Exit→Act→World→Prop} {a:Act} {w:World} (J:Nat→Nat→Act→World→Prop) (n:Nat)
 (first:c.wp P (fun e a w=>match e with| .goto l=>if(findLabel c l).isSome then∃m,m<n∧J l m a w else Q (.goto l) a w|e=>Q e a w) a w)
 (pass:∀l m a w rest,J l m a w→findLabel c l=some rest→rest.wp P (fun e a w=>match e with| .goto l=>if(findLabel c l).isSome then∃m',m'<m∧J l m' a w else Q (.goto l) a w|e=>Q e a w) a w):
 (Code.scope c).wp P Q a w:=by
 intro b k cs
 have hno:∀l,(findLabel c l).isSome=false→gotoIn l (.inScope c::k)=gotoIn l k:=by
  intro l hf;have:findLabel c l=none:=by cases h:findLabel c l<;>simp_all
  simp[gotoIn,this]
 have key:∀n l a w rest,J l n a w→findLabel c l=some rest→∃e a' w',Q e a' w'∧Arrives P (lone (b.at a (.code rest:: .inScope c::k)) cs w) b k cs e a' w':=by
  intro n
  induction n using Nat.strongRecOn with
  |_ n ih=>
   intro l a w rest hJ hf;obtain⟨e,a₁,w₁,hq,harr⟩:=pass l n a w rest hJ hf b (.inScope c::k) cs
   cases e with
   |normal=>exact⟨.normal,a₁,w₁,hq,Steps.trans harr (.one step_inScope)⟩
   |exit id=>exact⟨.exit id,a₁,w₁,hq,fun k' hk=>harr k' (by simp[exitTo,hk])⟩
   |goto l'=>
    dsimp only at hq
    cases hs:(findLabel c l').isSome with
    |false=>
     rw[hs,if_neg (by simp)]at hq
     exact⟨.goto l',a₁,w₁,hq,fun k' hk=>harr k' (by rw[hno l' hs];exact hk)⟩
    |true=>
     rw[hs,if_pos rfl]at hq;obtain⟨m,hm,hJ'⟩:=hq;obtain⟨rest',hr'⟩:=Option.isSome_iff_exists.1 hs;obtain⟨e₂,a₂,w₂,hq₂,harr₂⟩:=ih m hm l' a₁ w₁ rest' hJ' hr'
     exact⟨e₂,a₂,w₂,hq₂,.of_steps (harr _ (by simp[gotoIn,hr'])) harr₂⟩
   |ret=>exact⟨_,a₁,w₁,hq,harr⟩
   |panic ch=>exact⟨_,a₁,w₁,hq,harr⟩
   |outgrown=>exact⟨_,a₁,w₁,hq,harr⟩
 obtain⟨e,a₁,w₁,hq,harr⟩:=first b (.inScope c::k) cs
 cases e with
 |normal=>exact⟨.normal,a₁,w₁,hq,.head step_scope (Steps.trans harr (.one step_inScope))⟩
 |exit id=>exact⟨.exit id,a₁,w₁,hq,fun k' hk=> .head step_scope (harr k' (by simp[exitTo,hk]))⟩
 |goto l'=>
  dsimp only at hq
  cases hs:(findLabel c l').isSome with
  |false=>
   rw[hs,if_neg (by simp)]at hq
   exact⟨.goto l',a₁,w₁,hq,fun k' hk=> .head step_scope (harr k' (by rw[hno l' hs];exact hk))⟩
  |true=>
   rw[hs,if_pos rfl]at hq;obtain⟨m,hm,hJ'⟩:=hq;obtain⟨rest',hr'⟩:=Option.isSome_iff_exists.1 hs;obtain⟨e₂,a₂,w₂,hq₂,harr₂⟩:=key m l' a₁ w₁ rest' hJ' hr'
   exact⟨e₂,a₂,w₂,hq₂,.of_steps (.head step_scope (harr _ (by simp[gotoIn,hr']))) harr₂⟩
 |ret=>exact⟨_,a₁,w₁,hq,.of_steps (.one step_scope) harr⟩
 |panic ch=>exact⟨_,a₁,w₁,hq,.of_steps (.one step_scope) harr⟩
 |outgrown=>exact⟨_,a₁,w₁,hq,.of_steps (.one step_scope) harr⟩
theorem qK {c:Code} {K:Exit→Env→Heap→Prop} {E:List PanicEntry→Heap→Prop} {ρ:Env} {h:Heap} (J:Nat→Nat→Env→Heap→Prop) (n:Nat)
 (first:W P c (kW c J n K) E ρ h)
 (pass:∀l m ρ h rest,J l m ρ h→findLabel c l=some rest→W P rest (kW c J m K) E ρ h):W P (.scope c) K E ρ h:=by
 intro k S0 D w0 w a hok hw hh hn hρ hD;subst hh;refine uD (fun l m a w=>Amb w0 w∧a.tmps.size=k∧a.fp S0=D∧∃ρ,(∀t,a.tmps.getD t undef=ρ t)∧J l m ρ w.heap) n (Code.wp_mono ?_ (kV _ _ _ _ _ _ hok hn hρ hD hw first)) ?_
 ·intro e a' w' ⟨h1,h2,h3⟩
  cases e with
  |goto l=>
   obtain⟨h3,ρ',h4,h5⟩:=h3;unfold kW at h5;dsimp only at h5⊢;split at h5
   ·rename_i hs;rw[if_pos hs];obtain⟨m,hm,hJ⟩:=h5;exact⟨m,hm,h1,h3,h2,ρ',h4,hJ⟩
   ·rename_i hs;rw[if_neg hs];exact⟨h1,h2,h3,ρ',h4,h5⟩
  |_=>exact⟨h1,h2,h3⟩
 ·rintro l m a w rest ⟨hw,hn,hD,ρ,hρ,hJ⟩ hf;refine Code.wp_mono ?_ (kV _ _ _ _ _ _ (okcS_find hok hf) hn hρ hD hw (pass l m ρ _ rest hJ hf));intro e a' w' ⟨h1,h2,h3⟩
  cases e with
  |goto l=>
   obtain⟨h3,ρ',h4,h5⟩:=h3;unfold kW at h5;dsimp only at h5⊢;split at h5
   ·rename_i hs;rw[if_pos hs];obtain⟨m,hm,hJ⟩:=h5;exact⟨m,hm,h1,h3,h2,ρ',h4,hJ⟩
   ·rename_i hs;rw[if_neg hs];exact⟨h1,h2,h3,ρ',h4,h5⟩
  |_=>exact⟨h1,h2,h3⟩
def resv(P:Program)(h:Heap)(ρ:Env):ResultVar→Option Value
 | .tmp t=>some (ρ t)
 | .cell a t=>ldv P t (ρ a) h
def resl(P:Program)(h:Heap)(ρ:Env):List ResultVar→Option (List Value)
 |[]=>some []
 |r::l=>(resv P h ρ r).bind fun v=>(resl P h ρ l).map (v::·)
def pD:List Value→Value
 |[v]=>v
 |l=> .tuple l.toArray
def Kend(P:Program)(rs:List ResultVar)(R:Ending→Heap→Prop):Exit→Env→Heap→Prop
 | .normal,ρ,h| .ret,ρ,h=>match resl P h ρ rs with|some l=>R (.returned (pD l)) h|none=>False
 |_,_,_=>False
theorem ldv_ptr{t:TypeId}{x v:Value}{h:Heap}(hl:ldv P t x h=some v):∃b o,x=.pointer (some ⟨b,o,none⟩):=by
 unfold ldv at hl;split at hl
 ·exact⟨_,_,rfl⟩
 ·cases hl
theorem pC{fn:Func}{a:Act}{ρ:Env}{w:World}{l:List Value}(hρ:∀t,a.tmps.getD t undef=ρ t)(h:resl P w.heap ρ fn.results.toList=some l):
 (results fn a.tmps).run P w=.ok (pD l) w:=by
 have key:∀(rs:List ResultVar) (l:List Value),resl P w.heap ρ rs=some l→(rs.mapM (m:=Sem) (fun
  | .tmp t=>pure (ρ t)
  | .cell x t=>do loadVar t (←asAddr (ρ x)))).run P w=.ok l w:=by
  intro rs
  induction rs with
  |nil=>intro l h;simp[resl]at h;subst h;simp
  |cons r rs ih=>
   intro l h;simp only[resl,Option.bind_eq_some_iff,Option.map_eq_some_iff]at h;obtain⟨v,hv,l',hl',rfl⟩:=h;have h1:=ih l' hl';rw[List.mapM_cons,Sem.run_bind]
   cases r with
   |tmp t=>
    simp only[resv,Option.some.injEq]at hv;dsimp only
    rw[Sem.run_pure,Result.andThen_ok,Sem.run_bind,h1,hv];rfl
   |cell x t=>
    simp only[resv]at hv;obtain⟨b,o,hx⟩:=ldv_ptr hv
    have h3:((do loadVar t (←asAddr (ρ x))):Sem Value).run P w=.ok v w:=by
     rw[hx]at hv⊢;exact ld_run (P:=P) hv
    dsimp only;rw[h3,Result.andThen_ok,Sem.run_bind,h1];rfl
 have h1:=key _ _ h;unfold results;simp only[hρ];rw[←Array.toList_mapM]at h1;simp only[Sem.run_map]at h1;rw[Sem.run_bind];generalize hg:(Array.mapM (m:=Sem) _ fn.results).run P w=r at h1⊢
 cases r with
 |halt x w'=>simp at h1
 |ok vs w'=>
  simp only[Result.andThen_ok,Result.ok.injEq]at h1;obtain⟨rfl,rfl⟩:=h1;simp only[Result.andThen_ok]
  match hv:vs.toList with
  |[]=>
   have:vs=#[]:=by apply Array.toList_inj.1;simpa using hv
   subst this;rfl
  |[v]=>
   have:vs=#[v]:=by apply Array.toList_inj.1;simpa using hv
   subst this;rfl
  |v::u::l=>
   have hsz:vs.size≠1:=by rw[←Array.length_toList,hv];simp
   rw[dif_neg hsz,←hv];have:pD vs.toList=.tuple vs:=by rw[hv];simp only[pD];rw[←hv]
   rw[this];rfl
theorem C_of_W {f:Nat} {fn:Func} {c:Code} {args:Array Value} {h:Heap} {R:Ending→Heap→Prop} (hf:P.funcs[f]? =some fn) (hb:fn.body=some c)
 (hok:okc fn.ntmps c=true) (hsz:args.size≤fn.ntmps)
 (H:W P c (Kend P fn.results.toList R) (fun ch h'=>R (.panicked ch) h') (Env.of args.toList) h):C P f args h R:=by
 intro w hw;subst hw;refine calls_of_wp hf hb ?_;have hn:(args++Array.replicate (fn.ntmps-args.size) undef).size=fn.ntmps:=by simp;omega
 have hρ:∀t,(args++Array.replicate (fn.ntmps-args.size) undef).getD t undef=Env.of args.toList t:=by
  intro t;simp only[Env.of,Array.getD_eq_getD_getElem?,Array.getElem?_append,List.getD_eq_getElem?_getD];split
  ·simp
  ·rename_i hlt;have:args.toList[t]? =none:=by simp;omega
   rw[this];simp only[Option.getD_none];by_cases hx:t-args.size<fn.ntmps-args.size
   ·simp[hx]
   ·simp[hx]
 refine Code.wp_mono ?_ (kV (w0:=w) (n:=fn.ntmps) (S0:=[]) (D:=([],[])) c _ _ _ {tmps:=args++Array.replicate (fn.ntmps-args.size) undef,defers:=[]} w hok hn hρ rfl (Amb.refl w) H);intro e a' w' ⟨h1,h2,h3⟩
 cases e with
 |panic ch=>exact⟨congrArg Prod.fst h2,h1,h3⟩
 |outgrown=>exact h3.elim
 |normal|ret=>
  obtain⟨h3,ρ',h4,h5⟩:=h3;unfold Kend at h5;dsimp only at h5;split at h5
  ·rename_i l hl;exact⟨congrArg Prod.fst h2,_,pC h4 hl,h1,h5⟩
  ·exact h5.elim
 |exit _|goto _=>obtain⟨h3,ρ',h4,h5⟩:=h3;exact h5.elim
end
end
end Go.Proofs.YtfmbepijhnaklaaGreatDoor
