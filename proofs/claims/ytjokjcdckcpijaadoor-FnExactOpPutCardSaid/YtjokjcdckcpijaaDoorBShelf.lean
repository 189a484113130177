/-
 DERIVED: THE SHELF's CONTRACTS AT THIS DUMP, IN PLAIN WORDS (tools/lay-plain.mjs out of 'TrydShelf.lean', which tools/lay-shelf.mjs wrote): THE SAME DECLARATIONS UNDER THE SAME NAMES: 'import', 'namespace', 'open', 'def', 'theorem' AND NOTHING ELSE: no command of the shelf's: FOR A HAND-IN. Each laying: the table of numbers ('.._ren') and one theorem, a field a fact of the dump's own or the kernel's comparison; each contract: ONE APPLICATION.
-/
import Derived.Shelf.Strings.Builder1
import Derived.Shelf.Strings.Builder2
import Derived.Shelf.Strings.OnBuilder
import Derived.Shelf.Strings.BuilderF
import Derived.Shelf.Strings.BuilderK
import Derived.Shelf.Utf8.RuneCount
import Derived.Shelf.Strings.Builder2Cap
import Derived.Shelf.Strconv.Atoi
import Derived.Shelf.Strconv.Itoa0
import Derived.Shelf.Strconv.Itoa1
import Derived.Shelf.LaysM
import Derived.Shelf.Strconv.Itoa2
import Derived.Shelf.Strconv.Itoa3
import Derived.Shelf.Strconv.AtoiErrFast
import Derived.Shelf.Strconv.ParseIntEmpty
import Derived.Shelf.Strconv.AtoiFail
import Derived.Shelf.Strconv.Clone
import Derived.Shelf.Strconv.SyntaxError
import Derived.Shelf.LaysC
import Derived.Shelf.Strconv.ToError
import Derived.Shelf.Strconv.AtoiErr
import Derived.Shelf.Strconv.ErrVar
import Derived.Shelf.Strconv.Lower
import Derived.Shelf.Strconv.ParseUint10
import Derived.Shelf.Strconv.ParseUint10Empty
import Derived.Shelf.Strconv.ParseUint10Any
import Derived.Shelf.Strconv.ParseInt10
import Derived.Shelf.Strconv.AtoiLong
import Derived.Shelf.Strconv.AtoiInnerAll
import Derived.Shelf.Strconv.RangeError
import Derived.Shelf.Strconv.ToErrorRange
import Derived.Shelf.Strconv.AtoiAll
import Derived.Shelf.Strconv.ParseUintEmpty
import Derived.Shelf.Strconv.ParseUint10b64
import Derived.Shelf.Strconv.ParseUint10b32
import Derived.Shelf.Strconv.ParseUint10b16
import Derived.Shelf.Strconv.ParseUint10b8
import Derived.Shelf.Strconv.ParseUint10At
import Derived.Shelf.Strconv.ParseInt10At64
import Derived.Shelf.Strconv.ParseInt10At32
import Derived.Shelf.Strconv.ParseInt10At16
import Derived.Shelf.Strconv.ParseInt10At8
import Derived.Shelf.Strings.Search1
import Derived.Shelf.Strings.Search2
import Derived.Shelf.Strings.Search3
import Derived.Shelf.Strings.Count
import Derived.Shelf.Strings.Shaped
import Derived.Shelf.Strings.Split
import Derived.Shelf.Strings.SplitShaped
import Derived.Shelf.Unicode.Decode
import Derived.Shelf.Strings.RuneCount
import Derived.Shelf.Strings.Explode
import Derived.Shelf.Unicode.DecodeSlow
import Derived.Shelf.Unicode.DecodeAny
import Derived.Shelf.Strings.BuilderCap
import Derived.Shelf.Slices.Turned
import Derived.Test.YtjokjcdckcpijaaDoorProg
namespace Go.Proofs
open Go.Shelf
def Tryd.lays156_ren:Go.Shelf.Ren:=⟨fun |156=>39 |165=>63 |166=>64 |169=>65 |240=>77 |241=>78 |276=>91 |277=>92 |n=>n,fun |31=>24 |9=>9 |3=>3 |4=>4 |0=>0 |20=>20 |72=>76 |76=>49 |70=>74 |37=>22 |75=>48 |127=>86 |164=>99 |5=>5 |80=>78 |n=>n,fun |n=>n⟩
theorem Tryd.lays156:Go.Proofs.Lays.n156 Tryd.prog Tryd.lays156_ren:= {
 mixed:=by kernel_rfl
 f156:=Tryd.func39.trans (congrArg some (by kernel_rfl))
 f165:=Tryd.func63.trans (congrArg some (by kernel_rfl))
 f166:=Tryd.func64.trans (congrArg some (by kernel_rfl))
 f169:=Tryd.func65.trans (congrArg some (by kernel_rfl))
 f240:=Tryd.func77.trans (congrArg some (by kernel_rfl))
 f241:=Tryd.func78.trans (congrArg some (by kernel_rfl))
 f276:=Tryd.func91.trans (congrArg some (by kernel_rfl))
 f277:=Tryd.func92.trans (congrArg some (by kernel_rfl))
 t0:=Tryd.underlying0
 a0:=Tryd.isAgg0
 z0:=Tryd.sizeOf0
 v0:=Tryd.zeroValue0
 t3:=Tryd.underlying3
 a3:=Tryd.isAgg3
 z3:=Tryd.sizeOf3
 v3:=Tryd.zeroValue3
 t4:=Tryd.underlying4
 a4:=Tryd.isAgg4
 z4:=Tryd.sizeOf4
 v4:=Tryd.zeroValue4
 t9:=Tryd.underlying9
 a9:=Tryd.isAgg9
 z9:=Tryd.sizeOf9
 v9:=Tryd.zeroValue9
 t20:=Tryd.underlying20
 a20:=Tryd.isAgg20
 z20:=Tryd.sizeOf20
 v20:=Tryd.zeroValue20
 t31:=Tryd.underlying24
 a31:=Tryd.isAgg24
 z31:=Tryd.sizeOf24
 v31:=Tryd.zeroValue24
 t37:=Tryd.underlying22
 a37:=Tryd.isAgg22
 z37:=Tryd.sizeOf22
 v37:=Tryd.zeroValue22
 t70:=Tryd.underlying74
 a70:=Tryd.isAgg74
 z70:=Tryd.sizeOf74
 v70:=Tryd.zeroValue74
 t72:=Tryd.underlying76
 a72:=Tryd.isAgg76
 z72:=Tryd.sizeOf76
 v72:=Tryd.zeroValue76
 t75:=Tryd.underlying48
 a75:=Tryd.isAgg48
 z75:=Tryd.sizeOf48
 v75:=Tryd.zeroValue48
 t76:=Tryd.underlying49
 a76:=Tryd.isAgg49
 z76:=Tryd.sizeOf49
 v76:=Tryd.zeroValue49
 t127:=Tryd.underlying86
 a127:=Tryd.isAgg86
 z127:=Tryd.sizeOf86
 v127:=Tryd.zeroValue86
 t164:=Tryd.underlying99
 a164:=Tryd.isAgg99
 z164:=Tryd.sizeOf99
 v164:=Tryd.zeroValue99}
theorem Tryd.Builder_Extra_156:Builder.Extra Tryd.prog Tryd.lays156_ren:= {
 sizeBuilder:=by kernel_rfl
 liesBuilder:=by kernel_rfl
 t5:=Tryd.underlying5
 a5:=Tryd.isAgg5
 z5:=Tryd.sizeOf5
 v5:=Tryd.zeroValue5
 infoByte:=by kernel_rfl
 cellsByte:=by kernel_rfl
 sizeByte:=by kernel_rfl
 neB5:=by decide}
open Go.RowKit in
theorem Tryd.strings_Join_none (a:Option Addr)(c:Nat)(sep:ByteArray)(w:World):
 Calls Tryd.prog 39 #[.slice a 0 c, .string sep] w fun e w'=>e = .returned (.string ⟨#[]⟩)/\w'=w:=Any.strings_Join_none Tryd.lays156 Tryd.Builder_Extra_156 a c sep w
open Go.RowKit in
theorem Tryd.strings_Join (bk o c:Nat)(xs:List ByteArray)(sep:ByteArray)(w:World)(hcells: ∀ (j:Nat) x,xs[j]? =some x->w.cell? ⟨bk,o+j,none⟩=some (.string x))(hbk:bk<w.heap.size)(hN:xs.length<=140737488355328)(hcap:xs.length<=c)(hlen:(Lib.join (xs.map (·.data.toList)) sep.data.toList).length<=140737488355328):
 Calls Tryd.prog 39 #[.slice (some ⟨bk,o,none⟩) xs.length c, .string sep] w fun e w'=>e = .returned (.string ⟨(Lib.join (xs.map (·.data.toList)) sep.data.toList).toArray⟩)/\Below w.heap.size w w':=Any.strings_Join Tryd.lays156 Tryd.Builder_Extra_156 bk o c xs sep w hcells hbk hN hcap hlen
def Tryd.laysM171_ren:Go.Shelf.Ren:=⟨fun |171=>52 |243=>74 |246=>85 |283=>96 |284=>97 |285=>98 |286=>99 |129=>103 |317=>102 |318=>104 |319=>105 |320=>106 |337=>107 |338=>108 |n=>n,fun |3=>3 |9=>9 |2=>2 |4=>4 |171=>106 |0=>0 |53=>90 |37=>22 |5=>5 |173=>109 |212=>119 |51=>111 |20=>20 |213=>120 |46=>93 |232=>124 |233=>125 |n=>n,fun |17=>5 |18=>6 |19=>7 |n=>n⟩
theorem Tryd.laysM171:Go.Proofs.LaysM.n171 Tryd.prog Tryd.laysM171_ren:= {
 mixed:=by kernel_rfl
 f129:=Tryd.func103.trans (congrArg some (by kernel_rfl))
 f171:=Tryd.func52.trans (congrArg some (by kernel_rfl))
 f243:=Tryd.func74.trans (congrArg some (by kernel_rfl))
 f246:=Tryd.func85.trans (congrArg some (by kernel_rfl))
 f283:=Tryd.func96.trans (congrArg some (by kernel_rfl))
 f284:=Tryd.func97.trans (congrArg some (by kernel_rfl))
 f285:=Tryd.func98.trans (congrArg some (by kernel_rfl))
 f286:=Tryd.func99.trans (congrArg some (by kernel_rfl))
 f317:=Tryd.func102.trans (congrArg some (by kernel_rfl))
 f318:=Tryd.func104.trans (congrArg some (by kernel_rfl))
 f319:=Tryd.func105.trans (congrArg some (by kernel_rfl))
 f320:=Tryd.func106.trans (congrArg some (by kernel_rfl))
 f337:=Tryd.func107.trans (congrArg some (by kernel_rfl))
 f338:=Tryd.func108.trans (congrArg some (by kernel_rfl))
 t0:=Tryd.underlying0
 a0:=Tryd.isAgg0
 z0:=Tryd.sizeOf0
 v0:=Tryd.zeroValue0
 t2:=Tryd.underlying2
 a2:=Tryd.isAgg2
 z2:=Tryd.sizeOf2
 v2:=Tryd.zeroValue2
 t3:=Tryd.underlying3
 a3:=Tryd.isAgg3
 z3:=Tryd.sizeOf3
 v3:=Tryd.zeroValue3
 t4:=Tryd.underlying4
 a4:=Tryd.isAgg4
 z4:=Tryd.sizeOf4
 v4:=Tryd.zeroValue4
 t5:=Tryd.underlying5
 a5:=Tryd.isAgg5
 z5:=Tryd.sizeOf5
 v5:=Tryd.zeroValue5
 t9:=Tryd.underlying9
 a9:=Tryd.isAgg9
 z9:=Tryd.sizeOf9
 v9:=Tryd.zeroValue9
 t20:=Tryd.underlying20
 a20:=Tryd.isAgg20
 z20:=Tryd.sizeOf20
 v20:=Tryd.zeroValue20
 t37:=Tryd.underlying22
 a37:=Tryd.isAgg22
 z37:=Tryd.sizeOf22
 v37:=Tryd.zeroValue22
 t46:=Tryd.underlying93
 a46:=Tryd.isAgg93
 z46:=Tryd.sizeOf93
 v46:=Tryd.zeroValue93
 t51:=Tryd.underlying111
 a51:=Tryd.isAgg111
 z51:=Tryd.sizeOf111
 v51:=Tryd.zeroValue111
 t53:=Tryd.underlying90
 a53:=Tryd.isAgg90
 z53:=Tryd.sizeOf90
 v53:=Tryd.zeroValue90
 t171:=Tryd.underlying106
 a171:=Tryd.isAgg106
 z171:=Tryd.sizeOf106
 v171:=Tryd.zeroValue106
 t173:=Tryd.underlying109
 a173:=Tryd.isAgg109
 z173:=Tryd.sizeOf109
 v173:=Tryd.zeroValue109
 t212:=Tryd.underlying119
 a212:=Tryd.isAgg119
 z212:=Tryd.sizeOf119
 v212:=Tryd.zeroValue119
 t213:=Tryd.underlying120
 a213:=Tryd.isAgg120
 z213:=Tryd.sizeOf120
 t232:=Tryd.underlying124
 a232:=Tryd.isAgg124
 z232:=Tryd.sizeOf124
 v232:=Tryd.zeroValue124
 t233:=Tryd.underlying125
 a233:=Tryd.isAgg125
 z233:=Tryd.sizeOf125
 v233:=Tryd.zeroValue125
 g17:=by kernel_rfl
 g18:=by kernel_rfl
 g19:=by kernel_rfl
 i0:=by kernel_rfl
 i2:=by kernel_rfl
 i3:=by kernel_rfl
 i4:=by kernel_rfl
 i5:=by kernel_rfl
 i9:=by kernel_rfl
 i20:=by kernel_rfl
 i37:=by kernel_rfl
 i46:=by kernel_rfl
 i51:=by kernel_rfl
 i53:=by kernel_rfl
 i171:=by kernel_rfl
 i173:=by kernel_rfl
 i212:=by kernel_rfl
 i232:=by kernel_rfl
 i233:=by kernel_rfl
 m17:=by kernel_rfl
 m18:=by kernel_rfl
 m19:=by kernel_rfl}
open Go.RowKit Go.Sort Go.Lib in
theorem Tryd.strconv_Itoa (n : Int) (h0 : -9223372036854775808 <= n) (h1 : n <= 9223372036854775807) (w : World) (htab : Lib.TabIs Tryd.prog w "internal/strconv.uint64pow10" .u64 Lib.pow10Tab) :
 Calls Tryd.prog 52 #[.int .i64 n] w fun e w'=>e = .returned (.string ⟨(Lib.itoa n).toArray⟩) /\ ∃ k os,w'=grow (w.drewN k) os:=Any.strconv_Itoa Tryd.laysM171 n h0 h1 w htab
def Tryd.lays171_ren:Go.Shelf.Ren:=⟨fun |171=>52 |243=>74 |246=>85 |283=>96 |284=>97 |285=>98 |286=>99 |129=>103 |317=>102 |318=>104 |319=>105 |320=>106 |337=>107 |338=>108 |n=>n,fun |3=>3 |9=>9 |2=>2 |4=>4 |171=>106 |0=>0 |53=>90 |37=>22 |5=>5 |173=>109 |212=>119 |51=>111 |20=>20 |213=>120 |46=>93 |232=>124 |233=>125 |n=>n,fun |17=>5 |18=>6 |19=>7 |n=>n⟩
theorem Tryd.lays171:Go.Proofs.Lays.n171 Tryd.prog Tryd.lays171_ren:= {
 mixed:=by kernel_rfl
 f129:=Tryd.func103.trans (congrArg some (by kernel_rfl))
 f171:=Tryd.func52.trans (congrArg some (by kernel_rfl))
 f243:=Tryd.func74.trans (congrArg some (by kernel_rfl))
 f246:=Tryd.func85.trans (congrArg some (by kernel_rfl))
 f283:=Tryd.func96.trans (congrArg some (by kernel_rfl))
 f284:=Tryd.func97.trans (congrArg some (by kernel_rfl))
 f285:=Tryd.func98.trans (congrArg some (by kernel_rfl))
 f286:=Tryd.func99.trans (congrArg some (by kernel_rfl))
 f317:=Tryd.func102.trans (congrArg some (by kernel_rfl))
 f318:=Tryd.func104.trans (congrArg some (by kernel_rfl))
 f319:=Tryd.func105.trans (congrArg some (by kernel_rfl))
 f320:=Tryd.func106.trans (congrArg some (by kernel_rfl))
 f337:=Tryd.func107.trans (congrArg some (by kernel_rfl))
 f338:=Tryd.func108.trans (congrArg some (by kernel_rfl))
 t0:=Tryd.underlying0
 a0:=Tryd.isAgg0
 z0:=Tryd.sizeOf0
 v0:=Tryd.zeroValue0
 t2:=Tryd.underlying2
 a2:=Tryd.isAgg2
 z2:=Tryd.sizeOf2
 v2:=Tryd.zeroValue2
 t3:=Tryd.underlying3
 a3:=Tryd.isAgg3
 z3:=Tryd.sizeOf3
 v3:=Tryd.zeroValue3
 t4:=Tryd.underlying4
 a4:=Tryd.isAgg4
 z4:=Tryd.sizeOf4
 v4:=Tryd.zeroValue4
 t5:=Tryd.underlying5
 a5:=Tryd.isAgg5
 z5:=Tryd.sizeOf5
 v5:=Tryd.zeroValue5
 t9:=Tryd.underlying9
 a9:=Tryd.isAgg9
 z9:=Tryd.sizeOf9
 v9:=Tryd.zeroValue9
 t20:=Tryd.underlying20
 a20:=Tryd.isAgg20
 z20:=Tryd.sizeOf20
 v20:=Tryd.zeroValue20
 t37:=Tryd.underlying22
 a37:=Tryd.isAgg22
 z37:=Tryd.sizeOf22
 v37:=Tryd.zeroValue22
 t46:=Tryd.underlying93
 a46:=Tryd.isAgg93
 z46:=Tryd.sizeOf93
 v46:=Tryd.zeroValue93
 t51:=Tryd.underlying111
 a51:=Tryd.isAgg111
 z51:=Tryd.sizeOf111
 v51:=Tryd.zeroValue111
 t53:=Tryd.underlying90
 a53:=Tryd.isAgg90
 z53:=Tryd.sizeOf90
 v53:=Tryd.zeroValue90
 t171:=Tryd.underlying106
 a171:=Tryd.isAgg106
 z171:=Tryd.sizeOf106
 v171:=Tryd.zeroValue106
 t173:=Tryd.underlying109
 a173:=Tryd.isAgg109
 z173:=Tryd.sizeOf109
 v173:=Tryd.zeroValue109
 t212:=Tryd.underlying119
 a212:=Tryd.isAgg119
 z212:=Tryd.sizeOf119
 v212:=Tryd.zeroValue119
 t213:=Tryd.underlying120
 a213:=Tryd.isAgg120
 z213:=Tryd.sizeOf120
 t232:=Tryd.underlying124
 a232:=Tryd.isAgg124
 z232:=Tryd.sizeOf124
 v232:=Tryd.zeroValue124
 t233:=Tryd.underlying125
 a233:=Tryd.isAgg125
 z233:=Tryd.sizeOf125
 v233:=Tryd.zeroValue125
 g17:=by kernel_rfl
 g18:=by kernel_rfl
 g19:=by kernel_rfl}
open Go.RowKit Go.Sort Go.Lib in
theorem Tryd.strconv_Itoa_small (i:Nat)(hi:i<100)(w:World):
 Calls Tryd.prog 52 #[.int .i64 i] w fun e w'=>e = .returned (.string ⟨(Lib.decDigits i).toArray⟩)/\w'=w:=Any.strconv_Itoa_small Tryd.lays171 i hi w
def Tryd.lays144_ren:Go.Shelf.Ren:=⟨fun |144=>38 |143=>62 |219=>76 |217=>87 |225=>88 |224=>89 |267=>90 |266=>100 |314=>101 |n=>n,fun |9=>9 |4=>4 |3=>3 |5=>5 |46=>93 |146=>112 |51=>111 |n=>n,fun |1=>2 |n=>n⟩
theorem Tryd.lays144:Go.Proofs.Lays.n144 Tryd.prog Tryd.lays144_ren:= {
 mixed:=by kernel_rfl
 f143:=Tryd.func62.trans (congrArg some (by kernel_rfl))
 f144:=Tryd.func38.trans (congrArg some (by kernel_rfl))
 f217:=Tryd.func87.trans (congrArg some (by kernel_rfl))
 f219:=Tryd.func76.trans (congrArg some (by kernel_rfl))
 f224:=Tryd.func89.trans (congrArg some (by kernel_rfl))
 f225:=Tryd.func88.trans (congrArg some (by kernel_rfl))
 f266:=Tryd.func100.trans (congrArg some (by kernel_rfl))
 f267:=Tryd.func90.trans (congrArg some (by kernel_rfl))
 f314:=Tryd.func101.trans (congrArg some (by kernel_rfl))
 t3:=Tryd.underlying3
 a3:=Tryd.isAgg3
 z3:=Tryd.sizeOf3
 v3:=Tryd.zeroValue3
 t4:=Tryd.underlying4
 a4:=Tryd.isAgg4
 z4:=Tryd.sizeOf4
 v4:=Tryd.zeroValue4
 t5:=Tryd.underlying5
 a5:=Tryd.isAgg5
 z5:=Tryd.sizeOf5
 v5:=Tryd.zeroValue5
 t9:=Tryd.underlying9
 a9:=Tryd.isAgg9
 z9:=Tryd.sizeOf9
 v9:=Tryd.zeroValue9
 t46:=Tryd.underlying93
 a46:=Tryd.isAgg93
 z46:=Tryd.sizeOf93
 v46:=Tryd.zeroValue93
 t51:=Tryd.underlying111
 a51:=Tryd.isAgg111
 z51:=Tryd.sizeOf111
 v51:=Tryd.zeroValue111
 t146:=Tryd.underlying112
 a146:=Tryd.isAgg112
 z146:=Tryd.sizeOf112
 v146:=Tryd.zeroValue112
 g1:=by kernel_rfl}
open Go.RowKit Go.Lib in
theorem Tryd.strings_Contains (s sub:ByteArray)(m:Int)(w:World)(hs:s.size<4294967281)(hm:w.cell? ⟨2,0,none⟩=some (.int .i64 m)):
 Calls Tryd.prog 38 #[.string s, .string sub] w fun e w'=>e = .returned (.bool (Lib.contains s.data.toList sub.data.toList))/\w'=w:=Any.strings_Contains Tryd.lays144 s sub m w hs hm
def Tryd.lays146_ren:Go.Shelf.Ren:=⟨fun |146=>25 |221=>48 |268=>67 |138=>68 |143=>62 |195=>79 |197=>80 |218=>81 |219=>76 |260=>93 |217=>87 |225=>88 |224=>89 |267=>90 |266=>100 |314=>101 |n=>n,fun |9=>9 |31=>24 |3=>3 |4=>4 |0=>0 |105=>87 |21=>21 |5=>5 |46=>93 |119=>114 |139=>117 |138=>116 |146=>112 |51=>111 |n=>n,fun |1=>2 |3=>3 |4=>4 |n=>n⟩
theorem Tryd.lays146:Go.Proofs.Lays.n146 Tryd.prog Tryd.lays146_ren:= {
 mixed:=by kernel_rfl
 f138:=Tryd.func68.trans (congrArg some (by kernel_rfl))
 f143:=Tryd.func62.trans (congrArg some (by kernel_rfl))
 f146:=Tryd.func25.trans (congrArg some (by kernel_rfl))
 f195:=Tryd.func79.trans (congrArg some (by kernel_rfl))
 f197:=Tryd.func80.trans (congrArg some (by kernel_rfl))
 f217:=Tryd.func87.trans (congrArg some (by kernel_rfl))
 f218:=Tryd.func81.trans (congrArg some (by kernel_rfl))
 f219:=Tryd.func76.trans (congrArg some (by kernel_rfl))
 f221:=Tryd.func48.trans (congrArg some (by kernel_rfl))
 f224:=Tryd.func89.trans (congrArg some (by kernel_rfl))
 f225:=Tryd.func88.trans (congrArg some (by kernel_rfl))
 f260:=Tryd.func93.trans (congrArg some (by kernel_rfl))
 f266:=Tryd.func100.trans (congrArg some (by kernel_rfl))
 f267:=Tryd.func90.trans (congrArg some (by kernel_rfl))
 f268:=Tryd.func67.trans (congrArg some (by kernel_rfl))
 f314:=Tryd.func101.trans (congrArg some (by kernel_rfl))
 t0:=Tryd.underlying0
 a0:=Tryd.isAgg0
 z0:=Tryd.sizeOf0
 v0:=Tryd.zeroValue0
 t3:=Tryd.underlying3
 a3:=Tryd.isAgg3
 z3:=Tryd.sizeOf3
 v3:=Tryd.zeroValue3
 t4:=Tryd.underlying4
 a4:=Tryd.isAgg4
 z4:=Tryd.sizeOf4
 v4:=Tryd.zeroValue4
 t5:=Tryd.underlying5
 a5:=Tryd.isAgg5
 z5:=Tryd.sizeOf5
 v5:=Tryd.zeroValue5
 t9:=Tryd.underlying9
 a9:=Tryd.isAgg9
 z9:=Tryd.sizeOf9
 v9:=Tryd.zeroValue9
 t21:=Tryd.underlying21
 a21:=Tryd.isAgg21
 z21:=Tryd.sizeOf21
 v21:=Tryd.zeroValue21
 t31:=Tryd.underlying24
 a31:=Tryd.isAgg24
 z31:=Tryd.sizeOf24
 v31:=Tryd.zeroValue24
 t46:=Tryd.underlying93
 a46:=Tryd.isAgg93
 z46:=Tryd.sizeOf93
 v46:=Tryd.zeroValue93
 t51:=Tryd.underlying111
 a51:=Tryd.isAgg111
 z51:=Tryd.sizeOf111
 v51:=Tryd.zeroValue111
 t105:=Tryd.underlying87
 a105:=Tryd.isAgg87
 z105:=Tryd.sizeOf87
 v105:=Tryd.zeroValue87
 t119:=Tryd.underlying114
 a119:=Tryd.isAgg114
 z119:=Tryd.sizeOf114
 t138:=Tryd.underlying116
 a138:=Tryd.isAgg116
 z138:=Tryd.sizeOf116
 v138:=Tryd.zeroValue116
 t139:=Tryd.underlying117
 a139:=Tryd.isAgg117
 z139:=Tryd.sizeOf117
 v139:=Tryd.zeroValue117
 t146:=Tryd.underlying112
 a146:=Tryd.isAgg112
 z146:=Tryd.sizeOf112
 v146:=Tryd.zeroValue112
 g1:=by kernel_rfl
 g3:=by kernel_rfl
 g4:=by kernel_rfl}
open Go.RowKit Go.Lib in
theorem Tryd.strings_Split (s sep:ByteArray)(m:Int)(w:World)(hs:s.size<4294967281)(hm:w.cell? ⟨2,0,none⟩=some (.int .i64 m))(h1:1<=sep.size):
 Calls Tryd.prog 25 #[.string s, .string sep] w fun e w'=>
  e = .returned (.slice (some ⟨w.heap.size,0,none⟩) (Lib.countB s sep+1) (Lib.countB s sep+1))/\w'=w.alloc (.cells ((Lib.splitB sep 0 (Lib.countB s sep) s).map Value.string).toArray 9):=Any.strings_Split Tryd.lays146 (by kernel_rfl) s sep m w hs hm h1
end Go.Proofs
