/-
 DERIVED: THE SHELF's CONTRACTS AT THIS DUMP, IN PLAIN WORDS (tools/lay-plain.mjs out of 'TrydShelf.lean', which tools/lay-shelf.mjs wrote): THE SAME DECLARATIONS UNDER THE SAME NAMES: 'import', 'namespace', 'open', 'def', 'theorem' AND NOTHING ELSE: no command of the shelf's: FOR A HAND-IN. Each laying: the table of numbers ('.._ren') and one theorem, a field a fact of the dump's own or the kernel's comparison; each contract: ONE APPLICATION.
-/
import Derived.Shelf.Strings.Builder1
import Derived.Shelf.Strings.Builder2
import Derived.Shelf.Strings.OnBuilder
import Derived.Shelf.Strings.BuilderF
import Derived.Shelf.Strings.BuilderK
import Derived.Shelf.Utf8.RuneCount
import Derived.Shelf.Strings.Builder2Cap
import Derived.Shelf.Strconv.Atoi
import Derived.Shelf.Strconv.Itoa0
import Derived.Shelf.Strconv.Itoa1
import Derived.Shelf.LaysM
import Derived.Shelf.Strconv.Itoa2
import Derived.Shelf.Strconv.Itoa3
import Derived.Shelf.Strconv.AtoiErrFast
import Derived.Shelf.Strconv.ParseIntEmpty
import Derived.Shelf.Strconv.AtoiFail
import Derived.Shelf.Strconv.Clone
import Derived.Shelf.Strconv.SyntaxError
import Derived.Shelf.LaysC
import Derived.Shelf.Strconv.ToError
import Derived.Shelf.Strconv.AtoiErr
import Derived.Shelf.Strconv.ErrVar
import Derived.Shelf.Strconv.Lower
import Derived.Shelf.Strconv.ParseUint10
import Derived.Shelf.Strconv.ParseUint10Empty
import Derived.Shelf.Strconv.ParseUint10Any
import Derived.Shelf.Strconv.ParseInt10
import Derived.Shelf.Strconv.AtoiLong
import Derived.Shelf.Strconv.AtoiInnerAll
import Derived.Shelf.Strconv.RangeError
import Derived.Shelf.Strconv.ToErrorRange
import Derived.Shelf.Strconv.AtoiAll
import Derived.Shelf.Strings.Search1
import Derived.Shelf.Strings.Search2
import Derived.Shelf.Strings.Search3
import Derived.Shelf.Strings.Count
import Derived.Shelf.Strings.Shaped
import Derived.Shelf.Strings.Split
import Derived.Shelf.Strings.SplitShaped
import Derived.Shelf.Unicode.Decode
import Derived.Shelf.Strings.RuneCount
import Derived.Shelf.Strings.Explode
import Derived.Shelf.Unicode.DecodeSlow
import Derived.Shelf.Unicode.DecodeAny
import Derived.Shelf.Strings.BuilderCap
import Derived.Shelf.Slices.Turned
import Derived.Test.YtifbmanldeabeaaDoorProg
namespace Go.Proofs
open Go.Shelf
def Tryd.lays156_ren:Go.Shelf.Ren:=⟨fun |156=>37 |165=>53 |166=>54 |169=>55 |240=>65 |241=>66 |276=>75 |277=>76 |n=>n,fun |31=>22 |9=>9 |3=>3 |4=>4 |0=>0 |20=>20 |72=>65 |76=>40 |70=>63 |37=>53 |75=>39 |127=>79 |164=>86 |5=>5 |80=>67 |n=>n,fun |n=>n⟩
theorem Tryd.lays156:Go.Proofs.Lays.n156 Tryd.prog Tryd.lays156_ren:= {
 mixed:=by kernel_rfl
 f156:=Tryd.func37.trans (congrArg some (by kernel_rfl))
 f165:=Tryd.func53.trans (congrArg some (by kernel_rfl))
 f166:=Tryd.func54.trans (congrArg some (by kernel_rfl))
 f169:=Tryd.func55.trans (congrArg some (by kernel_rfl))
 f240:=Tryd.func65.trans (congrArg some (by kernel_rfl))
 f241:=Tryd.func66.trans (congrArg some (by kernel_rfl))
 f276:=Tryd.func75.trans (congrArg some (by kernel_rfl))
 f277:=Tryd.func76.trans (congrArg some (by kernel_rfl))
 t0:=Tryd.underlying0
 a0:=Tryd.isAgg0
 z0:=Tryd.sizeOf0
 v0:=Tryd.zeroValue0
 t3:=Tryd.underlying3
 a3:=Tryd.isAgg3
 z3:=Tryd.sizeOf3
 v3:=Tryd.zeroValue3
 t4:=Tryd.underlying4
 a4:=Tryd.isAgg4
 z4:=Tryd.sizeOf4
 v4:=Tryd.zeroValue4
 t9:=Tryd.underlying9
 a9:=Tryd.isAgg9
 z9:=Tryd.sizeOf9
 v9:=Tryd.zeroValue9
 t20:=Tryd.underlying20
 a20:=Tryd.isAgg20
 z20:=Tryd.sizeOf20
 v20:=Tryd.zeroValue20
 t31:=Tryd.underlying22
 a31:=Tryd.isAgg22
 z31:=Tryd.sizeOf22
 v31:=Tryd.zeroValue22
 t37:=Tryd.underlying53
 a37:=Tryd.isAgg53
 z37:=Tryd.sizeOf53
 v37:=Tryd.zeroValue53
 t70:=Tryd.underlying63
 a70:=Tryd.isAgg63
 z70:=Tryd.sizeOf63
 v70:=Tryd.zeroValue63
 t72:=Tryd.underlying65
 a72:=Tryd.isAgg65
 z72:=Tryd.sizeOf65
 v72:=Tryd.zeroValue65
 t75:=Tryd.underlying39
 a75:=Tryd.isAgg39
 z75:=Tryd.sizeOf39
 v75:=Tryd.zeroValue39
 t76:=Tryd.underlying40
 a76:=Tryd.isAgg40
 z76:=Tryd.sizeOf40
 v76:=Tryd.zeroValue40
 t127:=Tryd.underlying79
 a127:=Tryd.isAgg79
 z127:=Tryd.sizeOf79
 v127:=Tryd.zeroValue79
 t164:=Tryd.underlying86
 a164:=Tryd.isAgg86
 z164:=Tryd.sizeOf86
 v164:=Tryd.zeroValue86}
theorem Tryd.Builder_Extra_156:Builder.Extra Tryd.prog Tryd.lays156_ren:= {
 sizeBuilder:=by kernel_rfl
 liesBuilder:=by kernel_rfl
 t5:=Tryd.underlying5
 a5:=Tryd.isAgg5
 z5:=Tryd.sizeOf5
 v5:=Tryd.zeroValue5
 infoByte:=by kernel_rfl
 cellsByte:=by kernel_rfl
 sizeByte:=by kernel_rfl
 neB5:=by decide}
open Go.RowKit in
theorem Tryd.strings_Join_none (a:Option Addr)(c:Nat)(sep:ByteArray)(w:World):
 Calls Tryd.prog 37 #[.slice a 0 c, .string sep] w fun e w'=>e = .returned (.string ⟨#[]⟩)/\w'=w:=Any.strings_Join_none Tryd.lays156 Tryd.Builder_Extra_156 a c sep w
open Go.RowKit in
theorem Tryd.strings_Join (bk o c:Nat)(xs:List ByteArray)(sep:ByteArray)(w:World)(hcells: ∀ (j:Nat) x,xs[j]? =some x->w.cell? ⟨bk,o+j,none⟩=some (.string x))(hbk:bk<w.heap.size)(hN:xs.length<=140737488355328)(hcap:xs.length<=c)(hlen:(Lib.join (xs.map (·.data.toList)) sep.data.toList).length<=140737488355328):
 Calls Tryd.prog 37 #[.slice (some ⟨bk,o,none⟩) xs.length c, .string sep] w fun e w'=>e = .returned (.string ⟨(Lib.join (xs.map (·.data.toList)) sep.data.toList).toArray⟩)/\Below w.heap.size w w':=Any.strings_Join Tryd.lays156 Tryd.Builder_Extra_156 bk o c xs sep w hcells hbk hN hcap hlen
def Tryd.lays172_ren:Go.Shelf.Ren:=⟨fun |172=>18 |244=>31 |245=>32 |247=>46 |279=>47 |280=>48 |281=>49 |282=>50 |287=>62 |316=>63 |171=>40 |205=>64 |321=>73 |322=>74 |243=>56 |246=>67 |283=>77 |284=>78 |285=>79 |286=>80 |129=>84 |317=>83 |318=>85 |319=>86 |320=>87 |337=>88 |338=>89 |n=>n,fun |9=>9 |3=>3 |75=>39 |76=>40 |4=>4 |5=>5 |167=>56 |37=>53 |0=>0 |85=>57 |2=>2 |168=>59 |53=>71 |175=>72 |46=>74 |210=>77 |127=>79 |145=>85 |143=>83 |21=>21 |171=>89 |173=>92 |212=>102 |51=>98 |20=>20 |213=>103 |232=>107 |233=>108 |80=>67 |n=>n,fun |15=>0 |16=>1 |17=>5 |18=>6 |19=>7 |n=>n⟩
theorem Tryd.lays172:Go.Proofs.Lays.n172 Tryd.prog Tryd.lays172_ren:= {
 mixed:=by kernel_rfl
 f129:=Tryd.func84.trans (congrArg some (by kernel_rfl))
 f171:=Tryd.func40.trans (congrArg some (by kernel_rfl))
 f172:=Tryd.func18.trans (congrArg some (by kernel_rfl))
 f205:=Tryd.func64.trans (congrArg some (by kernel_rfl))
 f243:=Tryd.func56.trans (congrArg some (by kernel_rfl))
 f244:=Tryd.func31.trans (congrArg some (by kernel_rfl))
 f245:=Tryd.func32.trans (congrArg some (by kernel_rfl))
 f246:=Tryd.func67.trans (congrArg some (by kernel_rfl))
 f247:=Tryd.func46.trans (congrArg some (by kernel_rfl))
 f279:=Tryd.func47.trans (congrArg some (by kernel_rfl))
 f280:=Tryd.func48.trans (congrArg some (by kernel_rfl))
 f281:=Tryd.func49.trans (congrArg some (by kernel_rfl))
 f282:=Tryd.func50.trans (congrArg some (by kernel_rfl))
 f283:=Tryd.func77.trans (congrArg some (by kernel_rfl))
 f284:=Tryd.func78.trans (congrArg some (by kernel_rfl))
 f285:=Tryd.func79.trans (congrArg some (by kernel_rfl))
 f286:=Tryd.func80.trans (congrArg some (by kernel_rfl))
 f287:=Tryd.func62.trans (congrArg some (by kernel_rfl))
 f316:=Tryd.func63.trans (congrArg some (by kernel_rfl))
 f317:=Tryd.func83.trans (congrArg some (by kernel_rfl))
 f318:=Tryd.func85.trans (congrArg some (by kernel_rfl))
 f319:=Tryd.func86.trans (congrArg some (by kernel_rfl))
 f320:=Tryd.func87.trans (congrArg some (by kernel_rfl))
 f321:=Tryd.func73.trans (congrArg some (by kernel_rfl))
 f322:=Tryd.func74.trans (congrArg some (by kernel_rfl))
 f337:=Tryd.func88.trans (congrArg some (by kernel_rfl))
 f338:=Tryd.func89.trans (congrArg some (by kernel_rfl))
 t0:=Tryd.underlying0
 a0:=Tryd.isAgg0
 z0:=Tryd.sizeOf0
 v0:=Tryd.zeroValue0
 t2:=Tryd.underlying2
 a2:=Tryd.isAgg2
 z2:=Tryd.sizeOf2
 v2:=Tryd.zeroValue2
 t3:=Tryd.underlying3
 a3:=Tryd.isAgg3
 z3:=Tryd.sizeOf3
 v3:=Tryd.zeroValue3
 t4:=Tryd.underlying4
 a4:=Tryd.isAgg4
 z4:=Tryd.sizeOf4
 v4:=Tryd.zeroValue4
 t5:=Tryd.underlying5
 a5:=Tryd.isAgg5
 z5:=Tryd.sizeOf5
 v5:=Tryd.zeroValue5
 t9:=Tryd.underlying9
 a9:=Tryd.isAgg9
 z9:=Tryd.sizeOf9
 v9:=Tryd.zeroValue9
 t20:=Tryd.underlying20
 a20:=Tryd.isAgg20
 z20:=Tryd.sizeOf20
 v20:=Tryd.zeroValue20
 t21:=Tryd.underlying21
 a21:=Tryd.isAgg21
 z21:=Tryd.sizeOf21
 v21:=Tryd.zeroValue21
 t37:=Tryd.underlying53
 a37:=Tryd.isAgg53
 z37:=Tryd.sizeOf53
 v37:=Tryd.zeroValue53
 t46:=Tryd.underlying74
 a46:=Tryd.isAgg74
 z46:=Tryd.sizeOf74
 v46:=Tryd.zeroValue74
 t51:=Tryd.underlying98
 a51:=Tryd.isAgg98
 z51:=Tryd.sizeOf98
 v51:=Tryd.zeroValue98
 t53:=Tryd.underlying71
 a53:=Tryd.isAgg71
 z53:=Tryd.sizeOf71
 v53:=Tryd.zeroValue71
 t75:=Tryd.underlying39
 a75:=Tryd.isAgg39
 z75:=Tryd.sizeOf39
 v75:=Tryd.zeroValue39
 t76:=Tryd.underlying40
 a76:=Tryd.isAgg40
 z76:=Tryd.sizeOf40
 v76:=Tryd.zeroValue40
 t85:=Tryd.underlying57
 a85:=Tryd.isAgg57
 z85:=Tryd.sizeOf57
 v85:=Tryd.zeroValue57
 t127:=Tryd.underlying79
 a127:=Tryd.isAgg79
 z127:=Tryd.sizeOf79
 v127:=Tryd.zeroValue79
 t143:=Tryd.underlying83
 a143:=Tryd.isAgg83
 z143:=Tryd.sizeOf83
 v143:=Tryd.zeroValue83
 t145:=Tryd.underlying85
 a145:=Tryd.isAgg85
 z145:=Tryd.sizeOf85
 v145:=Tryd.zeroValue85
 t167:=Tryd.underlying56
 a167:=Tryd.isAgg56
 z167:=Tryd.sizeOf56
 v167:=Tryd.zeroValue56
 t168:=Tryd.underlying59
 a168:=Tryd.isAgg59
 z168:=Tryd.sizeOf59
 v168:=Tryd.zeroValue59
 t171:=Tryd.underlying89
 a171:=Tryd.isAgg89
 z171:=Tryd.sizeOf89
 v171:=Tryd.zeroValue89
 t173:=Tryd.underlying92
 a173:=Tryd.isAgg92
 z173:=Tryd.sizeOf92
 v173:=Tryd.zeroValue92
 t175:=Tryd.underlying72
 a175:=Tryd.isAgg72
 z175:=Tryd.sizeOf72
 v175:=Tryd.zeroValue72
 t210:=Tryd.underlying77
 a210:=Tryd.isAgg77
 z210:=Tryd.sizeOf77
 v210:=Tryd.zeroValue77
 t212:=Tryd.underlying102
 a212:=Tryd.isAgg102
 z212:=Tryd.sizeOf102
 v212:=Tryd.zeroValue102
 t213:=Tryd.underlying103
 a213:=Tryd.isAgg103
 z213:=Tryd.sizeOf103
 t232:=Tryd.underlying107
 a232:=Tryd.isAgg107
 z232:=Tryd.sizeOf107
 v232:=Tryd.zeroValue107
 t233:=Tryd.underlying108
 a233:=Tryd.isAgg108
 z233:=Tryd.sizeOf108
 v233:=Tryd.zeroValue108
 g15:=by kernel_rfl
 g16:=by kernel_rfl
 g17:=by kernel_rfl
 g18:=by kernel_rfl
 g19:=by kernel_rfl}
open Go.RowKit in
theorem Tryd.strconv_Atoi (s:ByteArray)(n:Int)(hl:s.size<=18)(h:Lib.atoi s.data.toList=some n)(w:World):
 Calls Tryd.prog 18 #[.string s] w fun e w'=>e = .returned (.tuple #[.int .i64 n, .nilIface]) /\ ∃ t,w'=Lib.bytesWorld w 5 t:=Any.strconv_Atoi Tryd.lays172 s n hl h w
def Tryd.laysM171_ren:Go.Shelf.Ren:=⟨fun |171=>40 |243=>56 |246=>67 |283=>77 |284=>78 |285=>79 |286=>80 |129=>84 |317=>83 |318=>85 |319=>86 |320=>87 |337=>88 |338=>89 |n=>n,fun |3=>3 |9=>9 |2=>2 |4=>4 |171=>89 |0=>0 |53=>71 |37=>53 |5=>5 |173=>92 |212=>102 |51=>98 |20=>20 |213=>103 |46=>74 |232=>107 |233=>108 |n=>n,fun |17=>5 |18=>6 |19=>7 |n=>n⟩
theorem Tryd.laysM171:Go.Proofs.LaysM.n171 Tryd.prog Tryd.laysM171_ren:= {
 mixed:=by kernel_rfl
 f129:=Tryd.func84.trans (congrArg some (by kernel_rfl))
 f171:=Tryd.func40.trans (congrArg some (by kernel_rfl))
 f243:=Tryd.func56.trans (congrArg some (by kernel_rfl))
 f246:=Tryd.func67.trans (congrArg some (by kernel_rfl))
 f283:=Tryd.func77.trans (congrArg some (by kernel_rfl))
 f284:=Tryd.func78.trans (congrArg some (by kernel_rfl))
 f285:=Tryd.func79.trans (congrArg some (by kernel_rfl))
 f286:=Tryd.func80.trans (congrArg some (by kernel_rfl))
 f317:=Tryd.func83.trans (congrArg some (by kernel_rfl))
 f318:=Tryd.func85.trans (congrArg some (by kernel_rfl))
 f319:=Tryd.func86.trans (congrArg some (by kernel_rfl))
 f320:=Tryd.func87.trans (congrArg some (by kernel_rfl))
 f337:=Tryd.func88.trans (congrArg some (by kernel_rfl))
 f338:=Tryd.func89.trans (congrArg some (by kernel_rfl))
 t0:=Tryd.underlying0
 a0:=Tryd.isAgg0
 z0:=Tryd.sizeOf0
 v0:=Tryd.zeroValue0
 t2:=Tryd.underlying2
 a2:=Tryd.isAgg2
 z2:=Tryd.sizeOf2
 v2:=Tryd.zeroValue2
 t3:=Tryd.underlying3
 a3:=Tryd.isAgg3
 z3:=Tryd.sizeOf3
 v3:=Tryd.zeroValue3
 t4:=Tryd.underlying4
 a4:=Tryd.isAgg4
 z4:=Tryd.sizeOf4
 v4:=Tryd.zeroValue4
 t5:=Tryd.underlying5
 a5:=Tryd.isAgg5
 z5:=Tryd.sizeOf5
 v5:=Tryd.zeroValue5
 t9:=Tryd.underlying9
 a9:=Tryd.isAgg9
 z9:=Tryd.sizeOf9
 v9:=Tryd.zeroValue9
 t20:=Tryd.underlying20
 a20:=Tryd.isAgg20
 z20:=Tryd.sizeOf20
 v20:=Tryd.zeroValue20
 t37:=Tryd.underlying53
 a37:=Tryd.isAgg53
 z37:=Tryd.sizeOf53
 v37:=Tryd.zeroValue53
 t46:=Tryd.underlying74
 a46:=Tryd.isAgg74
 z46:=Tryd.sizeOf74
 v46:=Tryd.zeroValue74
 t51:=Tryd.underlying98
 a51:=Tryd.isAgg98
 z51:=Tryd.sizeOf98
 v51:=Tryd.zeroValue98
 t53:=Tryd.underlying71
 a53:=Tryd.isAgg71
 z53:=Tryd.sizeOf71
 v53:=Tryd.zeroValue71
 t171:=Tryd.underlying89
 a171:=Tryd.isAgg89
 z171:=Tryd.sizeOf89
 v171:=Tryd.zeroValue89
 t173:=Tryd.underlying92
 a173:=Tryd.isAgg92
 z173:=Tryd.sizeOf92
 v173:=Tryd.zeroValue92
 t212:=Tryd.underlying102
 a212:=Tryd.isAgg102
 z212:=Tryd.sizeOf102
 v212:=Tryd.zeroValue102
 t213:=Tryd.underlying103
 a213:=Tryd.isAgg103
 z213:=Tryd.sizeOf103
 t232:=Tryd.underlying107
 a232:=Tryd.isAgg107
 z232:=Tryd.sizeOf107
 v232:=Tryd.zeroValue107
 t233:=Tryd.underlying108
 a233:=Tryd.isAgg108
 z233:=Tryd.sizeOf108
 v233:=Tryd.zeroValue108
 g17:=by kernel_rfl
 g18:=by kernel_rfl
 g19:=by kernel_rfl
 i0:=by kernel_rfl
 i2:=by kernel_rfl
 i3:=by kernel_rfl
 i4:=by kernel_rfl
 i5:=by kernel_rfl
 i9:=by kernel_rfl
 i20:=by kernel_rfl
 i37:=by kernel_rfl
 i46:=by kernel_rfl
 i51:=by kernel_rfl
 i53:=by kernel_rfl
 i171:=by kernel_rfl
 i173:=by kernel_rfl
 i212:=by kernel_rfl
 i232:=by kernel_rfl
 i233:=by kernel_rfl
 m17:=by kernel_rfl
 m18:=by kernel_rfl
 m19:=by kernel_rfl}
open Go.RowKit Go.Sort Go.Lib in
theorem Tryd.strconv_Itoa (n : Int) (h0 : -9223372036854775808 <= n) (h1 : n <= 9223372036854775807) (w : World) (htab : Lib.TabIs Tryd.prog w "internal/strconv.uint64pow10" .u64 Lib.pow10Tab) :
 Calls Tryd.prog 40 #[.int .i64 n] w fun e w'=>e = .returned (.string ⟨(Lib.itoa n).toArray⟩) /\ ∃ k os,w'=grow (w.drewN k) os:=Any.strconv_Itoa Tryd.laysM171 n h0 h1 w htab
def Tryd.lays171_ren:Go.Shelf.Ren:=⟨fun |171=>40 |243=>56 |246=>67 |283=>77 |284=>78 |285=>79 |286=>80 |129=>84 |317=>83 |318=>85 |319=>86 |320=>87 |337=>88 |338=>89 |n=>n,fun |3=>3 |9=>9 |2=>2 |4=>4 |171=>89 |0=>0 |53=>71 |37=>53 |5=>5 |173=>92 |212=>102 |51=>98 |20=>20 |213=>103 |46=>74 |232=>107 |233=>108 |n=>n,fun |17=>5 |18=>6 |19=>7 |n=>n⟩
theorem Tryd.lays171:Go.Proofs.Lays.n171 Tryd.prog Tryd.lays171_ren:= {
 mixed:=by kernel_rfl
 f129:=Tryd.func84.trans (congrArg some (by kernel_rfl))
 f171:=Tryd.func40.trans (congrArg some (by kernel_rfl))
 f243:=Tryd.func56.trans (congrArg some (by kernel_rfl))
 f246:=Tryd.func67.trans (congrArg some (by kernel_rfl))
 f283:=Tryd.func77.trans (congrArg some (by kernel_rfl))
 f284:=Tryd.func78.trans (congrArg some (by kernel_rfl))
 f285:=Tryd.func79.trans (congrArg some (by kernel_rfl))
 f286:=Tryd.func80.trans (congrArg some (by kernel_rfl))
 f317:=Tryd.func83.trans (congrArg some (by kernel_rfl))
 f318:=Tryd.func85.trans (congrArg some (by kernel_rfl))
 f319:=Tryd.func86.trans (congrArg some (by kernel_rfl))
 f320:=Tryd.func87.trans (congrArg some (by kernel_rfl))
 f337:=Tryd.func88.trans (congrArg some (by kernel_rfl))
 f338:=Tryd.func89.trans (congrArg some (by kernel_rfl))
 t0:=Tryd.underlying0
 a0:=Tryd.isAgg0
 z0:=Tryd.sizeOf0
 v0:=Tryd.zeroValue0
 t2:=Tryd.underlying2
 a2:=Tryd.isAgg2
 z2:=Tryd.sizeOf2
 v2:=Tryd.zeroValue2
 t3:=Tryd.underlying3
 a3:=Tryd.isAgg3
 z3:=Tryd.sizeOf3
 v3:=Tryd.zeroValue3
 t4:=Tryd.underlying4
 a4:=Tryd.isAgg4
 z4:=Tryd.sizeOf4
 v4:=Tryd.zeroValue4
 t5:=Tryd.underlying5
 a5:=Tryd.isAgg5
 z5:=Tryd.sizeOf5
 v5:=Tryd.zeroValue5
 t9:=Tryd.underlying9
 a9:=Tryd.isAgg9
 z9:=Tryd.sizeOf9
 v9:=Tryd.zeroValue9
 t20:=Tryd.underlying20
 a20:=Tryd.isAgg20
 z20:=Tryd.sizeOf20
 v20:=Tryd.zeroValue20
 t37:=Tryd.underlying53
 a37:=Tryd.isAgg53
 z37:=Tryd.sizeOf53
 v37:=Tryd.zeroValue53
 t46:=Tryd.underlying74
 a46:=Tryd.isAgg74
 z46:=Tryd.sizeOf74
 v46:=Tryd.zeroValue74
 t51:=Tryd.underlying98
 a51:=Tryd.isAgg98
 z51:=Tryd.sizeOf98
 v51:=Tryd.zeroValue98
 t53:=Tryd.underlying71
 a53:=Tryd.isAgg71
 z53:=Tryd.sizeOf71
 v53:=Tryd.zeroValue71
 t171:=Tryd.underlying89
 a171:=Tryd.isAgg89
 z171:=Tryd.sizeOf89
 v171:=Tryd.zeroValue89
 t173:=Tryd.underlying92
 a173:=Tryd.isAgg92
 z173:=Tryd.sizeOf92
 v173:=Tryd.zeroValue92
 t212:=Tryd.underlying102
 a212:=Tryd.isAgg102
 z212:=Tryd.sizeOf102
 v212:=Tryd.zeroValue102
 t213:=Tryd.underlying103
 a213:=Tryd.isAgg103
 z213:=Tryd.sizeOf103
 t232:=Tryd.underlying107
 a232:=Tryd.isAgg107
 z232:=Tryd.sizeOf107
 v232:=Tryd.zeroValue107
 t233:=Tryd.underlying108
 a233:=Tryd.isAgg108
 z233:=Tryd.sizeOf108
 v233:=Tryd.zeroValue108
 g17:=by kernel_rfl
 g18:=by kernel_rfl
 g19:=by kernel_rfl}
open Go.RowKit Go.Sort Go.Lib in
theorem Tryd.strconv_Itoa_small (i:Nat)(hi:i<100)(w:World):
 Calls Tryd.prog 40 #[.int .i64 i] w fun e w'=>e = .returned (.string ⟨(Lib.decDigits i).toArray⟩)/\w'=w:=Any.strconv_Itoa_small Tryd.lays171 i hi w
def Tryd.laysC172_ren:Go.Shelf.Ren:=⟨fun |172=>18 |244=>31 |245=>32 |247=>46 |279=>47 |280=>48 |281=>49 |282=>50 |287=>62 |316=>63 |171=>40 |205=>64 |321=>73 |322=>74 |243=>56 |246=>67 |283=>77 |284=>78 |285=>79 |286=>80 |129=>84 |317=>83 |318=>85 |319=>86 |320=>87 |337=>88 |338=>89 |n=>n,fun |9=>9 |3=>3 |75=>39 |76=>40 |4=>4 |5=>5 |167=>56 |37=>53 |0=>0 |85=>57 |2=>2 |168=>59 |53=>71 |175=>72 |46=>74 |210=>77 |127=>79 |145=>85 |143=>83 |21=>21 |171=>89 |173=>92 |212=>102 |51=>98 |20=>20 |213=>103 |232=>107 |233=>108 |80=>67 |n=>n,fun |15=>0 |16=>1 |17=>5 |18=>6 |19=>7 |n=>n⟩
theorem Tryd.laysC172:Go.Proofs.LaysC.n172 Tryd.prog Tryd.laysC172_ren:= {
 mixed:=by kernel_rfl
 f129:=Tryd.func84.trans (congrArg some (by kernel_rfl))
 f171:=Tryd.func40.trans (congrArg some (by kernel_rfl))
 f172:=Tryd.func18.trans (congrArg some (by kernel_rfl))
 f205:=Tryd.func64.trans (congrArg some (by kernel_rfl))
 f243:=Tryd.func56.trans (congrArg some (by kernel_rfl))
 f244:=Tryd.func31.trans (congrArg some (by kernel_rfl))
 f245:=Tryd.func32.trans (congrArg some (by kernel_rfl))
 f246:=Tryd.func67.trans (congrArg some (by kernel_rfl))
 f247:=Tryd.func46.trans (congrArg some (by kernel_rfl))
 f279:=Tryd.func47.trans (congrArg some (by kernel_rfl))
 f280:=Tryd.func48.trans (congrArg some (by kernel_rfl))
 f281:=Tryd.func49.trans (congrArg some (by kernel_rfl))
 f282:=Tryd.func50.trans (congrArg some (by kernel_rfl))
 f283:=Tryd.func77.trans (congrArg some (by kernel_rfl))
 f284:=Tryd.func78.trans (congrArg some (by kernel_rfl))
 f285:=Tryd.func79.trans (congrArg some (by kernel_rfl))
 f286:=Tryd.func80.trans (congrArg some (by kernel_rfl))
 f287:=Tryd.func62.trans (congrArg some (by kernel_rfl))
 f316:=Tryd.func63.trans (congrArg some (by kernel_rfl))
 f317:=Tryd.func83.trans (congrArg some (by kernel_rfl))
 f318:=Tryd.func85.trans (congrArg some (by kernel_rfl))
 f319:=Tryd.func86.trans (congrArg some (by kernel_rfl))
 f320:=Tryd.func87.trans (congrArg some (by kernel_rfl))
 f321:=Tryd.func73.trans (congrArg some (by kernel_rfl))
 f322:=Tryd.func74.trans (congrArg some (by kernel_rfl))
 f337:=Tryd.func88.trans (congrArg some (by kernel_rfl))
 f338:=Tryd.func89.trans (congrArg some (by kernel_rfl))
 t0:=Tryd.underlying0
 a0:=Tryd.isAgg0
 z0:=Tryd.sizeOf0
 v0:=Tryd.zeroValue0
 t2:=Tryd.underlying2
 a2:=Tryd.isAgg2
 z2:=Tryd.sizeOf2
 v2:=Tryd.zeroValue2
 t3:=Tryd.underlying3
 a3:=Tryd.isAgg3
 z3:=Tryd.sizeOf3
 v3:=Tryd.zeroValue3
 t4:=Tryd.underlying4
 a4:=Tryd.isAgg4
 z4:=Tryd.sizeOf4
 v4:=Tryd.zeroValue4
 t5:=Tryd.underlying5
 a5:=Tryd.isAgg5
 z5:=Tryd.sizeOf5
 v5:=Tryd.zeroValue5
 t9:=Tryd.underlying9
 a9:=Tryd.isAgg9
 z9:=Tryd.sizeOf9
 v9:=Tryd.zeroValue9
 t20:=Tryd.underlying20
 a20:=Tryd.isAgg20
 z20:=Tryd.sizeOf20
 v20:=Tryd.zeroValue20
 t21:=Tryd.underlying21
 a21:=Tryd.isAgg21
 z21:=Tryd.sizeOf21
 v21:=Tryd.zeroValue21
 t37:=Tryd.underlying53
 a37:=Tryd.isAgg53
 z37:=Tryd.sizeOf53
 v37:=Tryd.zeroValue53
 t46:=Tryd.underlying74
 a46:=Tryd.isAgg74
 z46:=Tryd.sizeOf74
 v46:=Tryd.zeroValue74
 t51:=Tryd.underlying98
 a51:=Tryd.isAgg98
 z51:=Tryd.sizeOf98
 v51:=Tryd.zeroValue98
 t53:=Tryd.underlying71
 a53:=Tryd.isAgg71
 z53:=Tryd.sizeOf71
 v53:=Tryd.zeroValue71
 t75:=Tryd.underlying39
 a75:=Tryd.isAgg39
 z75:=Tryd.sizeOf39
 v75:=Tryd.zeroValue39
 t76:=Tryd.underlying40
 a76:=Tryd.isAgg40
 z76:=Tryd.sizeOf40
 v76:=Tryd.zeroValue40
 t85:=Tryd.underlying57
 a85:=Tryd.isAgg57
 z85:=Tryd.sizeOf57
 v85:=Tryd.zeroValue57
 t127:=Tryd.underlying79
 a127:=Tryd.isAgg79
 z127:=Tryd.sizeOf79
 v127:=Tryd.zeroValue79
 t143:=Tryd.underlying83
 a143:=Tryd.isAgg83
 z143:=Tryd.sizeOf83
 v143:=Tryd.zeroValue83
 t145:=Tryd.underlying85
 a145:=Tryd.isAgg85
 z145:=Tryd.sizeOf85
 v145:=Tryd.zeroValue85
 t167:=Tryd.underlying56
 a167:=Tryd.isAgg56
 z167:=Tryd.sizeOf56
 v167:=Tryd.zeroValue56
 t168:=Tryd.underlying59
 a168:=Tryd.isAgg59
 z168:=Tryd.sizeOf59
 v168:=Tryd.zeroValue59
 t171:=Tryd.underlying89
 a171:=Tryd.isAgg89
 z171:=Tryd.sizeOf89
 v171:=Tryd.zeroValue89
 t173:=Tryd.underlying92
 a173:=Tryd.isAgg92
 z173:=Tryd.sizeOf92
 v173:=Tryd.zeroValue92
 t175:=Tryd.underlying72
 a175:=Tryd.isAgg72
 z175:=Tryd.sizeOf72
 v175:=Tryd.zeroValue72
 t210:=Tryd.underlying77
 a210:=Tryd.isAgg77
 z210:=Tryd.sizeOf77
 v210:=Tryd.zeroValue77
 t212:=Tryd.underlying102
 a212:=Tryd.isAgg102
 z212:=Tryd.sizeOf102
 v212:=Tryd.zeroValue102
 t213:=Tryd.underlying103
 a213:=Tryd.isAgg103
 z213:=Tryd.sizeOf103
 t232:=Tryd.underlying107
 a232:=Tryd.isAgg107
 z232:=Tryd.sizeOf107
 v232:=Tryd.zeroValue107
 t233:=Tryd.underlying108
 a233:=Tryd.isAgg108
 z233:=Tryd.sizeOf108
 v233:=Tryd.zeroValue108
 g15:=by kernel_rfl
 g16:=by kernel_rfl
 g17:=by kernel_rfl
 g18:=by kernel_rfl
 g19:=by kernel_rfl
 t80:=Tryd.underlying67
 a80:=Tryd.isAgg67
 z80:=Tryd.sizeOf67
 v80:=Tryd.zeroValue67
 i0:=by kernel_rfl
 i2:=by kernel_rfl
 i3:=by kernel_rfl
 i4:=by kernel_rfl
 i5:=by kernel_rfl
 i9:=by kernel_rfl
 i20:=by kernel_rfl
 i21:=by kernel_rfl
 i37:=by kernel_rfl
 i46:=by kernel_rfl
 i51:=by kernel_rfl
 i53:=by kernel_rfl
 i75:=by kernel_rfl
 i76:=by kernel_rfl
 i80:=by kernel_rfl
 i85:=by kernel_rfl
 i127:=by kernel_rfl
 i143:=by kernel_rfl
 i145:=by kernel_rfl
 i167:=by kernel_rfl
 i168:=by kernel_rfl
 i171:=by kernel_rfl
 i173:=by kernel_rfl
 i175:=by kernel_rfl
 i210:=by kernel_rfl
 i212:=by kernel_rfl
 i232:=by kernel_rfl
 i233:=by kernel_rfl
 m15:=by kernel_rfl
 m16:=by kernel_rfl
 m17:=by kernel_rfl
 m18:=by kernel_rfl
 m19:=by kernel_rfl
 c0:=by kernel_rfl
 c2:=by kernel_rfl
 c3:=by kernel_rfl
 c4:=by kernel_rfl
 c5:=by kernel_rfl
 c9:=by kernel_rfl
 c20:=by kernel_rfl
 c21:=by kernel_rfl
 c37:=by kernel_rfl
 c46:=by kernel_rfl
 c51:=by kernel_rfl
 c53:=by kernel_rfl
 c75:=by kernel_rfl
 c76:=by kernel_rfl
 c80:=by kernel_rfl
 c85:=by kernel_rfl
 c127:=by kernel_rfl
 c143:=by kernel_rfl
 c145:=by kernel_rfl
 c167:=by kernel_rfl
 c168:=by kernel_rfl
 c171:=by kernel_rfl
 c173:=by kernel_rfl
 c175:=by kernel_rfl
 c210:=by kernel_rfl
 c212:=by kernel_rfl
 c213:=by kernel_rfl
 c232:=by kernel_rfl
 c233:=by kernel_rfl}
open Go.RowKit in
theorem Tryd.strconv_Atoi_ok (s:ByteArray)(hmax:s.size<=9223372036854775806)(v:Int)(h:Lib.atoiAll s.data.toList = .ok v)(w:World):
 Calls Tryd.prog 18 #[.string s] w fun e w'=>e = .returned (.tuple #[.int .i64 v, .nilIface])/\(w'=w \/ ∃ t,w'=Lib.bytesWorld w 5 t):=Any.strconv_Atoi_ok Tryd.laysC172 s hmax v h w
open Go.RowKit in
theorem Tryd.strconv_Atoi_syntax (s:ByteArray)(hlim:s.size<=281474976710656)(h:Lib.atoiAll s.data.toList=Lib.atoiAll [])(ev:Value)(w:World)(hv:w.cell? ⟨0,0,none⟩=some ev)(hev:ev = .nilIface \/ ∃ te pe,ev = .iface te pe):
 Calls Tryd.prog 18 #[.string s] w fun e w'=> ∃ N,e = .returned (.tuple #[.int .i64 (0), .iface 59 (.pointer (some ⟨N,0,none⟩))])/\w.heap.size<=N/\w'.heap[N]? =some (.cells #[.string ⟨#[65,116,111,105]⟩, .string s,ev] 77 (0,0))/\Below w.heap.size w w':=Any.strconv_Atoi_syntax Tryd.laysC172 s hlim h ev w hv hev
open Go.RowKit in
theorem Tryd.strconv_Atoi_range (s:ByteArray)(hlim:s.size<=281474976710656)(h:Lib.atoiAll s.data.toList = .range)(ev:Value)(w:World)(hv:w.cell? ⟨1,0,none⟩=some ev)(hev:ev = .nilIface \/ ∃ te pe,ev = .iface te pe):
 Calls Tryd.prog 18 #[.string s] w fun e w'=> ∃ N,e = .returned (.tuple #[.int .i64 (Lib.atoiSat s.data.toList), .iface 59 (.pointer (some ⟨N,0,none⟩))])/\w.heap.size<=N/\w'.heap[N]? =some (.cells #[.string ⟨#[65,116,111,105]⟩, .string s,ev] 77 (0,0))/\Below w.heap.size w w':=Any.strconv_Atoi_range Tryd.laysC172 s hlim h ev w hv hev
def Tryd.lays144_ren:Go.Shelf.Ren:=⟨fun |144=>36 |143=>45 |219=>61 |217=>69 |225=>70 |224=>71 |267=>72 |266=>81 |314=>82 |n=>n,fun |9=>9 |4=>4 |3=>3 |5=>5 |46=>74 |146=>99 |51=>98 |n=>n,fun |1=>2 |n=>n⟩
theorem Tryd.lays144:Go.Proofs.Lays.n144 Tryd.prog Tryd.lays144_ren:= {
 mixed:=by kernel_rfl
 f143:=Tryd.func45.trans (congrArg some (by kernel_rfl))
 f144:=Tryd.func36.trans (congrArg some (by kernel_rfl))
 f217:=Tryd.func69.trans (congrArg some (by kernel_rfl))
 f219:=Tryd.func61.trans (congrArg some (by kernel_rfl))
 f224:=Tryd.func71.trans (congrArg some (by kernel_rfl))
 f225:=Tryd.func70.trans (congrArg some (by kernel_rfl))
 f266:=Tryd.func81.trans (congrArg some (by kernel_rfl))
 f267:=Tryd.func72.trans (congrArg some (by kernel_rfl))
 f314:=Tryd.func82.trans (congrArg some (by kernel_rfl))
 t3:=Tryd.underlying3
 a3:=Tryd.isAgg3
 z3:=Tryd.sizeOf3
 v3:=Tryd.zeroValue3
 t4:=Tryd.underlying4
 a4:=Tryd.isAgg4
 z4:=Tryd.sizeOf4
 v4:=Tryd.zeroValue4
 t5:=Tryd.underlying5
 a5:=Tryd.isAgg5
 z5:=Tryd.sizeOf5
 v5:=Tryd.zeroValue5
 t9:=Tryd.underlying9
 a9:=Tryd.isAgg9
 z9:=Tryd.sizeOf9
 v9:=Tryd.zeroValue9
 t46:=Tryd.underlying74
 a46:=Tryd.isAgg74
 z46:=Tryd.sizeOf74
 v46:=Tryd.zeroValue74
 t51:=Tryd.underlying98
 a51:=Tryd.isAgg98
 z51:=Tryd.sizeOf98
 v51:=Tryd.zeroValue98
 t146:=Tryd.underlying99
 a146:=Tryd.isAgg99
 z146:=Tryd.sizeOf99
 v146:=Tryd.zeroValue99
 g1:=by kernel_rfl}
open Go.RowKit Go.Lib in
theorem Tryd.strings_Contains (s sub:ByteArray)(m:Int)(w:World)(hs:s.size<4294967281)(hm:w.cell? ⟨2,0,none⟩=some (.int .i64 m)):
 Calls Tryd.prog 36 #[.string s, .string sub] w fun e w'=>e = .returned (.bool (Lib.contains s.data.toList sub.data.toList))/\w'=w:=Any.strings_Contains Tryd.lays144 s sub m w hs hm
def Tryd.lays146_ren:Go.Shelf.Ren:=⟨fun |146=>17 |221=>30 |268=>43 |138=>44 |143=>45 |195=>58 |197=>59 |218=>60 |219=>61 |260=>68 |217=>69 |225=>70 |224=>71 |267=>72 |266=>81 |314=>82 |n=>n,fun |9=>9 |31=>22 |3=>3 |4=>4 |0=>0 |105=>68 |21=>21 |5=>5 |46=>74 |119=>94 |139=>97 |138=>96 |146=>99 |51=>98 |n=>n,fun |1=>2 |3=>3 |4=>4 |n=>n⟩
theorem Tryd.lays146:Go.Proofs.Lays.n146 Tryd.prog Tryd.lays146_ren:= {
 mixed:=by kernel_rfl
 f138:=Tryd.func44.trans (congrArg some (by kernel_rfl))
 f143:=Tryd.func45.trans (congrArg some (by kernel_rfl))
 f146:=Tryd.func17.trans (congrArg some (by kernel_rfl))
 f195:=Tryd.func58.trans (congrArg some (by kernel_rfl))
 f197:=Tryd.func59.trans (congrArg some (by kernel_rfl))
 f217:=Tryd.func69.trans (congrArg some (by kernel_rfl))
 f218:=Tryd.func60.trans (congrArg some (by kernel_rfl))
 f219:=Tryd.func61.trans (congrArg some (by kernel_rfl))
 f221:=Tryd.func30.trans (congrArg some (by kernel_rfl))
 f224:=Tryd.func71.trans (congrArg some (by kernel_rfl))
 f225:=Tryd.func70.trans (congrArg some (by kernel_rfl))
 f260:=Tryd.func68.trans (congrArg some (by kernel_rfl))
 f266:=Tryd.func81.trans (congrArg some (by kernel_rfl))
 f267:=Tryd.func72.trans (congrArg some (by kernel_rfl))
 f268:=Tryd.func43.trans (congrArg some (by kernel_rfl))
 f314:=Tryd.func82.trans (congrArg some (by kernel_rfl))
 t0:=Tryd.underlying0
 a0:=Tryd.isAgg0
 z0:=Tryd.sizeOf0
 v0:=Tryd.zeroValue0
 t3:=Tryd.underlying3
 a3:=Tryd.isAgg3
 z3:=Tryd.sizeOf3
 v3:=Tryd.zeroValue3
 t4:=Tryd.underlying4
 a4:=Tryd.isAgg4
 z4:=Tryd.sizeOf4
 v4:=Tryd.zeroValue4
 t5:=Tryd.underlying5
 a5:=Tryd.isAgg5
 z5:=Tryd.sizeOf5
 v5:=Tryd.zeroValue5
 t9:=Tryd.underlying9
 a9:=Tryd.isAgg9
 z9:=Tryd.sizeOf9
 v9:=Tryd.zeroValue9
 t21:=Tryd.underlying21
 a21:=Tryd.isAgg21
 z21:=Tryd.sizeOf21
 v21:=Tryd.zeroValue21
 t31:=Tryd.underlying22
 a31:=Tryd.isAgg22
 z31:=Tryd.sizeOf22
 v31:=Tryd.zeroValue22
 t46:=Tryd.underlying74
 a46:=Tryd.isAgg74
 z46:=Tryd.sizeOf74
 v46:=Tryd.zeroValue74
 t51:=Tryd.underlying98
 a51:=Tryd.isAgg98
 z51:=Tryd.sizeOf98
 v51:=Tryd.zeroValue98
 t105:=Tryd.underlying68
 a105:=Tryd.isAgg68
 z105:=Tryd.sizeOf68
 v105:=Tryd.zeroValue68
 t119:=Tryd.underlying94
 a119:=Tryd.isAgg94
 z119:=Tryd.sizeOf94
 t138:=Tryd.underlying96
 a138:=Tryd.isAgg96
 z138:=Tryd.sizeOf96
 v138:=Tryd.zeroValue96
 t139:=Tryd.underlying97
 a139:=Tryd.isAgg97
 z139:=Tryd.sizeOf97
 v139:=Tryd.zeroValue97
 t146:=Tryd.underlying99
 a146:=Tryd.isAgg99
 z146:=Tryd.sizeOf99
 v146:=Tryd.zeroValue99
 g1:=by kernel_rfl
 g3:=by kernel_rfl
 g4:=by kernel_rfl}
open Go.RowKit Go.Lib in
theorem Tryd.strings_Split (s sep:ByteArray)(m:Int)(w:World)(hs:s.size<4294967281)(hm:w.cell? ⟨2,0,none⟩=some (.int .i64 m))(h1:1<=sep.size):
 Calls Tryd.prog 17 #[.string s, .string sep] w fun e w'=>
  e = .returned (.slice (some ⟨w.heap.size,0,none⟩) (Lib.countB s sep+1) (Lib.countB s sep+1))/\w'=w.alloc (.cells ((Lib.splitB sep 0 (Lib.countB s sep) s).map Value.string).toArray 9):=Any.strings_Split Tryd.lays146 (by kernel_rfl) s sep m w hs hm h1
def Tryd.lays147_ren:Go.Shelf.Ren:=⟨fun |147=>14 |221=>30 |268=>43 |138=>44 |143=>45 |195=>58 |197=>59 |218=>60 |219=>61 |260=>68 |217=>69 |225=>70 |224=>71 |267=>72 |266=>81 |314=>82 |n=>n,fun |9=>9 |3=>3 |31=>22 |4=>4 |0=>0 |105=>68 |21=>21 |5=>5 |46=>74 |119=>94 |139=>97 |138=>96 |146=>99 |51=>98 |n=>n,fun |1=>2 |3=>3 |4=>4 |n=>n⟩
theorem Tryd.lays147:Go.Proofs.Lays.n147 Tryd.prog Tryd.lays147_ren:= {
 mixed:=by kernel_rfl
 f138:=Tryd.func44.trans (congrArg some (by kernel_rfl))
 f143:=Tryd.func45.trans (congrArg some (by kernel_rfl))
 f147:=Tryd.func14.trans (congrArg some (by kernel_rfl))
 f195:=Tryd.func58.trans (congrArg some (by kernel_rfl))
 f197:=Tryd.func59.trans (congrArg some (by kernel_rfl))
 f217:=Tryd.func69.trans (congrArg some (by kernel_rfl))
 f218:=Tryd.func60.trans (congrArg some (by kernel_rfl))
 f219:=Tryd.func61.trans (congrArg some (by kernel_rfl))
 f221:=Tryd.func30.trans (congrArg some (by kernel_rfl))
 f224:=Tryd.func71.trans (congrArg some (by kernel_rfl))
 f225:=Tryd.func70.trans (congrArg some (by kernel_rfl))
 f260:=Tryd.func68.trans (congrArg some (by kernel_rfl))
 f266:=Tryd.func81.trans (congrArg some (by kernel_rfl))
 f267:=Tryd.func72.trans (congrArg some (by kernel_rfl))
 f268:=Tryd.func43.trans (congrArg some (by kernel_rfl))
 f314:=Tryd.func82.trans (congrArg some (by kernel_rfl))
 t0:=Tryd.underlying0
 a0:=Tryd.isAgg0
 z0:=Tryd.sizeOf0
 v0:=Tryd.zeroValue0
 t3:=Tryd.underlying3
 a3:=Tryd.isAgg3
 z3:=Tryd.sizeOf3
 v3:=Tryd.zeroValue3
 t4:=Tryd.underlying4
 a4:=Tryd.isAgg4
 z4:=Tryd.sizeOf4
 v4:=Tryd.zeroValue4
 t5:=Tryd.underlying5
 a5:=Tryd.isAgg5
 z5:=Tryd.sizeOf5
 v5:=Tryd.zeroValue5
 t9:=Tryd.underlying9
 a9:=Tryd.isAgg9
 z9:=Tryd.sizeOf9
 v9:=Tryd.zeroValue9
 t21:=Tryd.underlying21
 a21:=Tryd.isAgg21
 z21:=Tryd.sizeOf21
 v21:=Tryd.zeroValue21
 t31:=Tryd.underlying22
 a31:=Tryd.isAgg22
 z31:=Tryd.sizeOf22
 v31:=Tryd.zeroValue22
 t46:=Tryd.underlying74
 a46:=Tryd.isAgg74
 z46:=Tryd.sizeOf74
 v46:=Tryd.zeroValue74
 t51:=Tryd.underlying98
 a51:=Tryd.isAgg98
 z51:=Tryd.sizeOf98
 v51:=Tryd.zeroValue98
 t105:=Tryd.underlying68
 a105:=Tryd.isAgg68
 z105:=Tryd.sizeOf68
 v105:=Tryd.zeroValue68
 t119:=Tryd.underlying94
 a119:=Tryd.isAgg94
 z119:=Tryd.sizeOf94
 t138:=Tryd.underlying96
 a138:=Tryd.isAgg96
 z138:=Tryd.sizeOf96
 v138:=Tryd.zeroValue96
 t139:=Tryd.underlying97
 a139:=Tryd.isAgg97
 z139:=Tryd.sizeOf97
 v139:=Tryd.zeroValue97
 t146:=Tryd.underlying99
 a146:=Tryd.isAgg99
 z146:=Tryd.sizeOf99
 v146:=Tryd.zeroValue99
 g1:=by kernel_rfl
 g3:=by kernel_rfl
 g4:=by kernel_rfl}
open Go.RowKit Go.Lib in
theorem Tryd.strings_SplitN (s sep:ByteArray)(n:Nat)(m:Int)(w:World)(hs:s.size<4294967281)(hm:w.cell? ⟨2,0,none⟩=some (.int .i64 m))(h1:1<=sep.size)(hn:1<=n)(hn63:n<=9223372036854775807):
 Calls Tryd.prog 14 #[.string s, .string sep, .int .i64 n] w fun e w'=>
  e = .returned (.slice (some ⟨w.heap.size,0,none⟩) (Lib.splitB sep 0 (min n (s.size+1)-1) s).length (min n (s.size+1)))/\w'=w.alloc (.cells (Lib.cellsOf (Lib.splitB sep 0 (min n (s.size+1)-1) s) (min n (s.size+1))) 9):=Any.strings_SplitN Tryd.lays147 (by kernel_rfl) s sep n m w hs hm h1 hn hn63
end Go.Proofs
