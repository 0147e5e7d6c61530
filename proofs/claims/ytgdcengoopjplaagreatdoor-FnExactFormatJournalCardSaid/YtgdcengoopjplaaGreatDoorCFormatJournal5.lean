/- A part of the proof of the statement in the last file of this claim: texts on the language of the program and on its functions. No condition. -/
import Derived.Shelf.Strings.Builder1
import Derived.Shelf.Strings.Builder2
import Derived.Shelf.Small.Bits
import Derived.Shelf.Strings.BuilderF
import Derived.Shelf.Strings.BuilderK
import Derived.Shelf.Utf8.RuneCount
import Derived.Shelf.Strings.Builder2Cap
import Derived.Shelf.Strconv.Itoa0
import Derived.Shelf.Strconv.Itoa1
import Derived.Shelf.LaysM
import Derived.Shelf.Strconv.Itoa2
import Derived.Shelf.Strconv.Itoa3
import Derived.Shelf.Strings.Search1
import Derived.Shelf.Strings.Search2
import Derived.Shelf.Strings.Search3
import Derived.Shelf.Strings.Cut
import Derived.Shelf.Strings.Count
import Derived.Shelf.Strings.Shaped
import Derived.Shelf.Strings.Prefix
import Derived.Shelf.Strings.Split
import Derived.Shelf.Strings.SplitShaped
import Derived.Shelf.Unicode.Decode
import Derived.Shelf.Strings.RuneCount
import Derived.Shelf.Strings.Explode
import Derived.Shelf.Bits.Mul64
import Derived.Shelf.Strings.Repeat
import Derived.Shelf.Unicode.DecodeSlow
import Derived.Shelf.Unicode.DecodeAny
import Derived.Test.YtgdcengoopjplaaGreatDoorProg
import Derived.Test.YtgdcengoopjplaaGreatDoorCFormatJournal1
import Derived.Test.YtgdcengoopjplaaGreatDoorCFormatJournal4
import Derived.Sort.Grow
import Derived.Shelf.GgSortMore.Iface
import Derived.Sort.OwnSortedInts
import Derived.Laws.AppendOwnNone
import Derived.OpenShut
namespace Go.Proofs
open Go.Shelf
def Tryz.lays169_ren:Go.Shelf.Ren:=⟨fun | 169=>55 | n=>n,fun | 70=>79 | 9=>9 | 0=>0 | 72=>81 | 37=>40 | 127=>118 | 3=>3 | 5=>5 | n=>n,fun | n=>n⟩
theorem Tryz.lays169:Go.Proofs.Lays.n169 Tryz.prog Tryz.lays169_ren:={
 mixed:=by kernel_rfl
 f169:=Tryz.func55.trans (congrArg some (by kernel_rfl))
 t0:=Tryz.underlying0
 a0:=Tryz.isAgg0
 z0:=Tryz.sizeOf0
 v0:=Tryz.zeroValue0
 t3:=Tryz.underlying3
 a3:=Tryz.isAgg3
 z3:=Tryz.sizeOf3
 v3:=Tryz.zeroValue3
 t9:=Tryz.underlying9
 a9:=Tryz.isAgg9
 z9:=Tryz.sizeOf9
 v9:=Tryz.zeroValue9
 t37:=Tryz.underlying40
 a37:=Tryz.isAgg40
 z37:=Tryz.sizeOf40
 v37:=Tryz.zeroValue40
 t70:=Tryz.underlying79
 a70:=Tryz.isAgg79
 z70:=Tryz.sizeOf79
 v70:=Tryz.zeroValue79
 t72:=Tryz.underlying81
 a72:=Tryz.isAgg81
 z72:=Tryz.sizeOf81
 v72:=Tryz.zeroValue81
 t127:=Tryz.underlying118
 a127:=Tryz.isAgg118
 z127:=Tryz.sizeOf118
 v127:=Tryz.zeroValue118 }
theorem Tryz.Builder_Extra_169:Builder.Extra Tryz.prog Tryz.lays169_ren:={
 sizeBuilder:=by kernel_rfl
 liesBuilder:=by kernel_rfl
 t5:=Tryz.underlying5
 a5:=Tryz.isAgg5
 z5:=Tryz.sizeOf5
 v5:=Tryz.zeroValue5
 infoByte:=by kernel_rfl
 cellsByte:=by kernel_rfl
 sizeByte:=by kernel_rfl
 neB5:=by decide }
open Go.RowKit in
theorem Tryz.Builder_String_any (B b:Nat) (l:List UInt8) (w:World) (h:Lib.IsBuilder 81 5 B b (Lib.byteCells l) w) (hBw:B≤w.heap.size):
 Calls Tryz.prog 55 #[.pointer (some ⟨b,0,none⟩)] w fun e w'=>e=.returned (.string ⟨l.toArray⟩)∧Below B w w':=Any.Builder_String_any Tryz.lays169 Tryz.Builder_Extra_169 B b l w h hBw
def Tryz.lays125_ren:Go.Shelf.Ren:=⟨fun | 125=>181 | 128=>217 | 129=>186 | n=>n,fun | 46=>138 | 3=>3 | 51=>179 | 53=>182 | 4=>4 | 5=>5 | 9=>9 | n=>n,fun | n=>n⟩
theorem Tryz.lays125:Go.Proofs.Lays.n125 Tryz.prog Tryz.lays125_ren:={
 mixed:=by kernel_rfl
 f125:=Tryz.func181.trans (congrArg some (by kernel_rfl))
 f128:=Tryz.func217.trans (congrArg some (by kernel_rfl))
 f129:=Tryz.func186.trans (congrArg some (by kernel_rfl))
 t3:=Tryz.underlying3
 a3:=Tryz.isAgg3
 z3:=Tryz.sizeOf3
 v3:=Tryz.zeroValue3
 t4:=Tryz.underlying4
 a4:=Tryz.isAgg4
 z4:=Tryz.sizeOf4
 v4:=Tryz.zeroValue4
 t5:=Tryz.underlying5
 a5:=Tryz.isAgg5
 z5:=Tryz.sizeOf5
 v5:=Tryz.zeroValue5
 t9:=Tryz.underlying9
 a9:=Tryz.isAgg9
 z9:=Tryz.sizeOf9
 v9:=Tryz.zeroValue9
 t46:=Tryz.underlying138
 a46:=Tryz.isAgg138
 z46:=Tryz.sizeOf138
 v46:=Tryz.zeroValue138
 t51:=Tryz.underlying179
 a51:=Tryz.isAgg179
 z51:=Tryz.sizeOf179
 v51:=Tryz.zeroValue179
 t53:=Tryz.underlying182
 a53:=Tryz.isAgg182
 z53:=Tryz.sizeOf182
 v53:=Tryz.zeroValue182 }
theorem Tryz.bits_Len (x:Int) (w:World) (h0:0≤x) (h1:x≤18446744073709551615):
 Calls Tryz.prog 181 #[.int .u64 x] w fun e w'=>e=.returned (.int .i64 (Lib.bitLen x.toNat))∧w'=w:=Any.bits_Len Tryz.lays125 x w h0 h1
def Tryz.laysM171_ren:Go.Shelf.Ren:=⟨fun | 171=>62 | 243=>87 | 246=>119 | 283=>150 | 284=>151 | 285=>152 | 286=>153 | 129=>186 | 317=>185 | 318=>187 | 319=>188 | 320=>189 | 337=>226 | 338=>227 | n=>n,fun | 3=>3 | 9=>9 | 2=>2 | 4=>4 | 171=>189 | 0=>0 | 53=>182 | 37=>40 | 5=>5 | 173=>192 | 212=>235 | 51=>179 | 20=>20 | 213=>236 | 46=>138 | 232=>309 | 233=>310 | n=>n,fun | 17=>3 | 18=>6 | 19=>7 | n=>n⟩
theorem Tryz.laysM171:Go.Proofs.LaysM.n171 Tryz.prog Tryz.laysM171_ren:={
 mixed:=by kernel_rfl
 f129:=Tryz.func186.trans (congrArg some (by kernel_rfl))
 f171:=Tryz.func62.trans (congrArg some (by kernel_rfl))
 f243:=Tryz.func87.trans (congrArg some (by kernel_rfl))
 f246:=Tryz.func119.trans (congrArg some (by kernel_rfl))
 f283:=Tryz.func150.trans (congrArg some (by kernel_rfl))
 f284:=Tryz.func151.trans (congrArg some (by kernel_rfl))
 f285:=Tryz.func152.trans (congrArg some (by kernel_rfl))
 f286:=Tryz.func153.trans (congrArg some (by kernel_rfl))
 f317:=Tryz.func185.trans (congrArg some (by kernel_rfl))
 f318:=Tryz.func187.trans (congrArg some (by kernel_rfl))
 f319:=Tryz.func188.trans (congrArg some (by kernel_rfl))
 f320:=Tryz.func189.trans (congrArg some (by kernel_rfl))
 f337:=Tryz.func226.trans (congrArg some (by kernel_rfl))
 f338:=Tryz.func227.trans (congrArg some (by kernel_rfl))
 t0:=Tryz.underlying0
 a0:=Tryz.isAgg0
 z0:=Tryz.sizeOf0
 v0:=Tryz.zeroValue0
 t2:=Tryz.underlying2
 a2:=Tryz.isAgg2
 z2:=Tryz.sizeOf2
 v2:=Tryz.zeroValue2
 t3:=Tryz.underlying3
 a3:=Tryz.isAgg3
 z3:=Tryz.sizeOf3
 v3:=Tryz.zeroValue3
 t4:=Tryz.underlying4
 a4:=Tryz.isAgg4
 z4:=Tryz.sizeOf4
 v4:=Tryz.zeroValue4
 t5:=Tryz.underlying5
 a5:=Tryz.isAgg5
 z5:=Tryz.sizeOf5
 v5:=Tryz.zeroValue5
 t9:=Tryz.underlying9
 a9:=Tryz.isAgg9
 z9:=Tryz.sizeOf9
 v9:=Tryz.zeroValue9
 t20:=Tryz.underlying20
 a20:=Tryz.isAgg20
 z20:=Tryz.sizeOf20
 v20:=Tryz.zeroValue20
 t37:=Tryz.underlying40
 a37:=Tryz.isAgg40
 z37:=Tryz.sizeOf40
 v37:=Tryz.zeroValue40
 t46:=Tryz.underlying138
 a46:=Tryz.isAgg138
 z46:=Tryz.sizeOf138
 v46:=Tryz.zeroValue138
 t51:=Tryz.underlying179
 a51:=Tryz.isAgg179
 z51:=Tryz.sizeOf179
 v51:=Tryz.zeroValue179
 t53:=Tryz.underlying182
 a53:=Tryz.isAgg182
 z53:=Tryz.sizeOf182
 v53:=Tryz.zeroValue182
 t171:=Tryz.underlying189
 a171:=Tryz.isAgg189
 z171:=Tryz.sizeOf189
 v171:=Tryz.zeroValue189
 t173:=Tryz.underlying192
 a173:=Tryz.isAgg192
 z173:=Tryz.sizeOf192
 v173:=Tryz.zeroValue192
 t212:=Tryz.underlying235
 a212:=Tryz.isAgg235
 z212:=Tryz.sizeOf235
 v212:=Tryz.zeroValue235
 t213:=Tryz.underlying236
 a213:=Tryz.isAgg236
 z213:=Tryz.sizeOf236
 t232:=Tryz.underlying309
 a232:=Tryz.isAgg309
 z232:=Tryz.sizeOf309
 v232:=Tryz.zeroValue309
 t233:=Tryz.underlying310
 a233:=Tryz.isAgg310
 z233:=Tryz.sizeOf310
 v233:=Tryz.zeroValue310
 g17:=by kernel_rfl
 g18:=by kernel_rfl
 g19:=by kernel_rfl
 i0:=by kernel_rfl
 i2:=by kernel_rfl
 i3:=by kernel_rfl
 i4:=by kernel_rfl
 i5:=by kernel_rfl
 i9:=by kernel_rfl
 i20:=by kernel_rfl
 i37:=by kernel_rfl
 i46:=by kernel_rfl
 i51:=by kernel_rfl
 i53:=by kernel_rfl
 i171:=by kernel_rfl
 i173:=by kernel_rfl
 i212:=by kernel_rfl
 i232:=by kernel_rfl
 i233:=by kernel_rfl
 m17:=by kernel_rfl
 m18:=by kernel_rfl
 m19:=by kernel_rfl }
open Go.RowKit Go.Sort Go.Lib in
theorem Tryz.strconv_Itoa (n : Int) (h0 : -9223372036854775808 ≤ n) (h1 : n ≤ 9223372036854775807) (w : World) (htab : Lib.TabIs Tryz.prog w "internal/strconv.uint64pow10" .u64 Lib.pow10Tab) :
 Calls Tryz.prog 62 #[.int .i64 n] w fun e w'=>e=.returned (.string ⟨(Lib.itoa n).toArray⟩)∧∃ k os,w'=grow (w.drewN k) os:=Any.strconv_Itoa Tryz.laysM171 n h0 h1 w htab
def Tryz.lays171_ren:Go.Shelf.Ren:=⟨fun | 171=>62 | 243=>87 | 246=>119 | 283=>150 | 284=>151 | 285=>152 | 286=>153 | 129=>186 | 317=>185 | 318=>187 | 319=>188 | 320=>189 | 337=>226 | 338=>227 | n=>n,fun | 3=>3 | 9=>9 | 2=>2 | 4=>4 | 171=>189 | 0=>0 | 53=>182 | 37=>40 | 5=>5 | 173=>192 | 212=>235 | 51=>179 | 20=>20 | 213=>236 | 46=>138 | 232=>309 | 233=>310 | n=>n,fun | 17=>3 | 18=>6 | 19=>7 | n=>n⟩
theorem Tryz.lays171:Go.Proofs.Lays.n171 Tryz.prog Tryz.lays171_ren:={
 mixed:=by kernel_rfl
 f129:=Tryz.func186.trans (congrArg some (by kernel_rfl))
 f171:=Tryz.func62.trans (congrArg some (by kernel_rfl))
 f243:=Tryz.func87.trans (congrArg some (by kernel_rfl))
 f246:=Tryz.func119.trans (congrArg some (by kernel_rfl))
 f283:=Tryz.func150.trans (congrArg some (by kernel_rfl))
 f284:=Tryz.func151.trans (congrArg some (by kernel_rfl))
 f285:=Tryz.func152.trans (congrArg some (by kernel_rfl))
 f286:=Tryz.func153.trans (congrArg some (by kernel_rfl))
 f317:=Tryz.func185.trans (congrArg some (by kernel_rfl))
 f318:=Tryz.func187.trans (congrArg some (by kernel_rfl))
 f319:=Tryz.func188.trans (congrArg some (by kernel_rfl))
 f320:=Tryz.func189.trans (congrArg some (by kernel_rfl))
 f337:=Tryz.func226.trans (congrArg some (by kernel_rfl))
 f338:=Tryz.func227.trans (congrArg some (by kernel_rfl))
 t0:=Tryz.underlying0
 a0:=Tryz.isAgg0
 z0:=Tryz.sizeOf0
 v0:=Tryz.zeroValue0
 t2:=Tryz.underlying2
 a2:=Tryz.isAgg2
 z2:=Tryz.sizeOf2
 v2:=Tryz.zeroValue2
 t3:=Tryz.underlying3
 a3:=Tryz.isAgg3
 z3:=Tryz.sizeOf3
 v3:=Tryz.zeroValue3
 t4:=Tryz.underlying4
 a4:=Tryz.isAgg4
 z4:=Tryz.sizeOf4
 v4:=Tryz.zeroValue4
 t5:=Tryz.underlying5
 a5:=Tryz.isAgg5
 z5:=Tryz.sizeOf5
 v5:=Tryz.zeroValue5
 t9:=Tryz.underlying9
 a9:=Tryz.isAgg9
 z9:=Tryz.sizeOf9
 v9:=Tryz.zeroValue9
 t20:=Tryz.underlying20
 a20:=Tryz.isAgg20
 z20:=Tryz.sizeOf20
 v20:=Tryz.zeroValue20
 t37:=Tryz.underlying40
 a37:=Tryz.isAgg40
 z37:=Tryz.sizeOf40
 v37:=Tryz.zeroValue40
 t46:=Tryz.underlying138
 a46:=Tryz.isAgg138
 z46:=Tryz.sizeOf138
 v46:=Tryz.zeroValue138
 t51:=Tryz.underlying179
 a51:=Tryz.isAgg179
 z51:=Tryz.sizeOf179
 v51:=Tryz.zeroValue179
 t53:=Tryz.underlying182
 a53:=Tryz.isAgg182
 z53:=Tryz.sizeOf182
 v53:=Tryz.zeroValue182
 t171:=Tryz.underlying189
 a171:=Tryz.isAgg189
 z171:=Tryz.sizeOf189
 v171:=Tryz.zeroValue189
 t173:=Tryz.underlying192
 a173:=Tryz.isAgg192
 z173:=Tryz.sizeOf192
 v173:=Tryz.zeroValue192
 t212:=Tryz.underlying235
 a212:=Tryz.isAgg235
 z212:=Tryz.sizeOf235
 v212:=Tryz.zeroValue235
 t213:=Tryz.underlying236
 a213:=Tryz.isAgg236
 z213:=Tryz.sizeOf236
 t232:=Tryz.underlying309
 a232:=Tryz.isAgg309
 z232:=Tryz.sizeOf309
 v232:=Tryz.zeroValue309
 t233:=Tryz.underlying310
 a233:=Tryz.isAgg310
 z233:=Tryz.sizeOf310
 v233:=Tryz.zeroValue310
 g17:=by kernel_rfl
 g18:=by kernel_rfl
 g19:=by kernel_rfl }
open Go.RowKit Go.Sort Go.Lib in
theorem Tryz.strconv_Itoa_small (i:Nat) (hi:i<100) (w:World):
 Calls Tryz.prog 62 #[.int .i64 i] w fun e w'=>e=.returned (.string ⟨(Lib.decDigits i).toArray⟩)∧w'=w:=Any.strconv_Itoa_small Tryz.lays171 i hi w
def Tryz.lays105_ren:Go.Shelf.Ren:=⟨fun | 105=>137 | 212=>176 | 99=>177 | 165=>178 | 166=>54 | 170=>179 | 169=>55 | 263=>213 | 264=>214 | 206=>215 | 240=>82 | 241=>216 | 276=>106 | 277=>249 | n=>n,fun | 9=>9 | 3=>3 | 4=>4 | 20=>20 | 0=>0 | 46=>138 | 109=>219 | 5=>5 | 72=>81 | 76=>84 | 51=>179 | 146=>180 | 53=>182 | 148=>270 | 70=>79 | 37=>40 | 75=>83 | 127=>118 | 164=>134 | 80=>86 | n=>n,fun | n=>n⟩
theorem Tryz.lays105:Go.Proofs.Lays.n105 Tryz.prog Tryz.lays105_ren:={
 mixed:=by kernel_rfl
 f99:=Tryz.func177.trans (congrArg some (by kernel_rfl))
 f105:=Tryz.func137.trans (congrArg some (by kernel_rfl))
 f165:=Tryz.func178.trans (congrArg some (by kernel_rfl))
 f166:=Tryz.func54.trans (congrArg some (by kernel_rfl))
 f169:=Tryz.func55.trans (congrArg some (by kernel_rfl))
 f170:=Tryz.func179.trans (congrArg some (by kernel_rfl))
 f206:=Tryz.func215.trans (congrArg some (by kernel_rfl))
 f212:=Tryz.func176.trans (congrArg some (by kernel_rfl))
 f240:=Tryz.func82.trans (congrArg some (by kernel_rfl))
 f241:=Tryz.func216.trans (congrArg some (by kernel_rfl))
 f263:=Tryz.func213.trans (congrArg some (by kernel_rfl))
 f264:=Tryz.func214.trans (congrArg some (by kernel_rfl))
 f276:=Tryz.func106.trans (congrArg some (by kernel_rfl))
 f277:=Tryz.func249.trans (congrArg some (by kernel_rfl))
 t0:=Tryz.underlying0
 a0:=Tryz.isAgg0
 z0:=Tryz.sizeOf0
 v0:=Tryz.zeroValue0
 t3:=Tryz.underlying3
 a3:=Tryz.isAgg3
 z3:=Tryz.sizeOf3
 v3:=Tryz.zeroValue3
 t4:=Tryz.underlying4
 a4:=Tryz.isAgg4
 z4:=Tryz.sizeOf4
 v4:=Tryz.zeroValue4
 t5:=Tryz.underlying5
 a5:=Tryz.isAgg5
 z5:=Tryz.sizeOf5
 v5:=Tryz.zeroValue5
 t9:=Tryz.underlying9
 a9:=Tryz.isAgg9
 z9:=Tryz.sizeOf9
 v9:=Tryz.zeroValue9
 t20:=Tryz.underlying20
 a20:=Tryz.isAgg20
 z20:=Tryz.sizeOf20
 v20:=Tryz.zeroValue20
 t37:=Tryz.underlying40
 a37:=Tryz.isAgg40
 z37:=Tryz.sizeOf40
 v37:=Tryz.zeroValue40
 t46:=Tryz.underlying138
 a46:=Tryz.isAgg138
 z46:=Tryz.sizeOf138
 v46:=Tryz.zeroValue138
 t51:=Tryz.underlying179
 a51:=Tryz.isAgg179
 z51:=Tryz.sizeOf179
 v51:=Tryz.zeroValue179
 t53:=Tryz.underlying182
 a53:=Tryz.isAgg182
 z53:=Tryz.sizeOf182
 v53:=Tryz.zeroValue182
 t70:=Tryz.underlying79
 a70:=Tryz.isAgg79
 z70:=Tryz.sizeOf79
 v70:=Tryz.zeroValue79
 t72:=Tryz.underlying81
 a72:=Tryz.isAgg81
 z72:=Tryz.sizeOf81
 v72:=Tryz.zeroValue81
 t75:=Tryz.underlying83
 a75:=Tryz.isAgg83
 z75:=Tryz.sizeOf83
 v75:=Tryz.zeroValue83
 t76:=Tryz.underlying84
 a76:=Tryz.isAgg84
 z76:=Tryz.sizeOf84
 v76:=Tryz.zeroValue84
 t109:=Tryz.underlying219
 a109:=Tryz.isAgg219
 z109:=Tryz.sizeOf219
 v109:=Tryz.zeroValue219
 t127:=Tryz.underlying118
 a127:=Tryz.isAgg118
 z127:=Tryz.sizeOf118
 v127:=Tryz.zeroValue118
 t146:=Tryz.underlying180
 a146:=Tryz.isAgg180
 z146:=Tryz.sizeOf180
 v146:=Tryz.zeroValue180
 t148:=Tryz.underlying270
 a148:=Tryz.isAgg270
 z148:=Tryz.sizeOf270
 v148:=Tryz.zeroValue270
 t164:=Tryz.underlying134
 a164:=Tryz.isAgg134
 z164:=Tryz.sizeOf134
 v164:=Tryz.zeroValue134 }
theorem Tryz.Builder_Extra_105:Builder.Extra Tryz.prog Tryz.lays105_ren:={
 sizeBuilder:=by kernel_rfl
 liesBuilder:=by kernel_rfl
 t5:=Tryz.underlying5
 a5:=Tryz.isAgg5
 z5:=Tryz.sizeOf5
 v5:=Tryz.zeroValue5
 infoByte:=by kernel_rfl
 cellsByte:=by kernel_rfl
 sizeByte:=by kernel_rfl
 neB5:=by decide }
open Go.RowKit Go.Lib in
theorem Tryz.strings_Repeat (s:ByteArray) (c:Nat) (w:World) (hc:c≤9223372036854775807) (hlen:s.size*c≤140737488355328):
 Calls Tryz.prog 137 #[.string s,.int .i64 c] w fun e w'=>e=.returned (.string ⟨(Lib.repeatL s.data.toList c).toArray⟩)∧Below w.heap.size w w':=Any.strings_Repeat Tryz.lays105 Tryz.Builder_Extra_105 s c w hc hlen
end Go.Proofs
namespace Go.Proofs.YtgdcengoopjplaaGreatDoor
set_option maxRecDepth 10000
open Go.RowKit Go.Shelf
set_option linter.unusedVariables false
set_option linter.unusedSimpArgs false
set_option maxRecDepth 100000
set_option maxHeartbeats 2000000
abbrev TB:Nat:=81
theorem Zjp (b:Nat) (w:World) (h0:w.cell? ⟨b,0,none⟩=some (.pointer (some ⟨b,0,none⟩))):
 Calls Tryz.prog 82 #[.pointer (some ⟨b,0,none⟩)] w fun e w'=>e=.returned (.tuple #[])∧w'=w:=by
 have X:=Tryz.Builder_Extra_169
 obtain ⟨j,hj,_⟩:=Option.map_eq_some_iff.1 X.sizeBuilder
 go_enter Tryz.func82,Tryz.ntmps82
 go_wp2
 rw [Lib.run_neq_ptr_same w _ Tryz.underlying79 hj]
 go_wp2
 go_end0
 exact ⟨rfl,rfl⟩
theorem ZhU (b:Nat) (w:World) (h0:w.cell? ⟨b,0,none⟩=some (.pointer none)) (hsh:w.shape? b=some (TB,2)) (hfz:w.frozen? ⟨b,0,none⟩=false):
 Calls Tryz.prog 82 #[.pointer (some ⟨b,0,none⟩)] w fun e w'=>e=.returned (.tuple #[])∧w'=w.setCell ⟨b,0,none⟩ (.pointer (some ⟨b,0,none⟩)):=by
 have X:=Tryz.Builder_Extra_169
 obtain ⟨j,hj,hjs⟩:=Option.map_eq_some_iff.1 X.sizeBuilder
 go_enter Tryz.func82,Tryz.ntmps82
 go_wp2
 rw [Lib.run_to_unsafe w ⟨b,0,none⟩ Tryz.underlying79 Tryz.underlying134 hj (by rw [hjs]; decide) hsh (Nat.zero_lt_succ 1)]
 simp only [Result.andThen]
 rw [Oper.upon_value]
 go_wp2
 rw [run_callFunc_extern Tryz.func106 (by kernel_rfl) (by kernel_rfl) (by kernel_rfl) (e:=Extern.AbiNoEscape.same) (by kernel_rfl)]
 rw [Lib.run_noEscape]
 simp only [Result.andThen]
 rw [Oper.upon_value]
 go_wp2
 rw [Lib.run_from_unsafe w ⟨b,0,none⟩ Tryz.underlying134 Tryz.underlying79 hj hsh X.toX72.liesBuilder]
 simp only [Result.andThen]
 rw [Oper.upon_value]
 go_wp2
 go_end0
 exact ⟨rfl,rfl⟩
theorem Zgr (B b:Nat) (bs:List Value) (w:World) (h:Lib.IsBuilder TB 5 B b bs w):
 Calls Tryz.prog 82 #[.pointer (some ⟨b,0,none⟩)] w fun e w'=>e=.returned (.tuple #[])∧(Lib.BuilderAt TB 5 B b (.pointer (some ⟨b,0,none⟩)) bs w'∧Below B w w'):=by
 rcases h with h | h
 ·refine (ZhU b w h.cell0 h.shape h.frozen0).mono ?_
  rintro e w' ⟨rfl,rfl⟩
  exact ⟨rfl,h.used _,(Below.refl B w).setCell (p:=⟨b,0,none⟩) h.1 _⟩
 ·refine (Zjp b w h.cell0).mono ?_
  rintro e w' ⟨rfl,rfl⟩
  exact ⟨rfl,h,Below.refl B _⟩
theorem Zjo (B b:Nat) (bs:List Value) (c:Int) (w:World) (h:Lib.IsBuilder TB 5 B b bs w) (hlen:bs.length+1≤140737488355328) (hBw:B≤w.heap.size):
 Calls Tryz.prog 180 #[.pointer (some ⟨b,0,none⟩),.int .u8 c] w fun e w'=>e=.returned .nilIface∧(Lib.BuilderAt TB 5 B b (.pointer (some ⟨b,0,none⟩)) (bs++[.int .u8 c]) w'∧Below B w w'):=by
 have X:=Tryz.Builder_Extra_169
 obtain ⟨i0,hi,hz0,hz1,hz2⟩:=info_parts X.infoByte
 go_enter Tryz.func180,Tryz.ntmps180
 go_wp2_with (go_at_call 82; refine (Zgr B b bs _ h).mono ?_)
 rintro e w1 ⟨rfl,h1,hb1⟩
 obtain ⟨hB,v,hbk,hown,hne⟩:=h1
 have c0:w1.cell? ⟨b,0,none⟩=some (.pointer (some ⟨b,0,none⟩)):=by rw [Lib.cell_of_heap hbk]; rfl
 have c1:w1.cell? ⟨b,1,none⟩=some v:=by rw [Lib.cell_of_heap hbk]; rfl
 go_wp2_with (at_builtin; refine wpList_append_own _ rfl _ _ 40 rfl B 5 i0 (.int .u8 0) 1 1 Tryz.underlying40 hi hz0 hz1 hz2 rfl (by decide) _ _ _ rfl (hown.alloc _) ⟨w1.heap.size,0,none⟩ 1 1 [.int .u8 c] rfl rfl ?c1 ?c2 ?c3 ?c4 ?c5 ?_)
 case c1=>
  intro j u hj
  match j,hj with
  | 0,hj=>simp at hj; subst hj; simp [Addr.add]
 case c2=>intro u hu; simp at hu; subst hu; rfl
 case c3=>unfold maxLen; omega
 case c4=>omega
 case c5=>have:=hb1.size; simp; omega
 intro v' w2 hown' hgrow _
 have hlt:b<w1.heap.size:=by
  rcases Nat.lt_or_ge b w1.heap.size with h' | h'
  ·exact h'
  ·simp [Array.getElem?_eq_none h'] at hbk
 have hb2:w2.heap[b]?=some (.cells #[.pointer (some ⟨b,0,none⟩),v] TB (0,0)):=by
  rw [hgrow.block b (by simp; omega) (fun e=>hne e.symm),Lib.alloc_old w1 _ b hlt]
  exact hbk
 have d0:w2.cell? ⟨b,0,none⟩=some (.pointer (some ⟨b,0,none⟩)):=by rw [Lib.cell_of_heap hb2]; rfl
 have d1:w2.cell? ⟨b,1,none⟩=some v:=by rw [Lib.cell_of_heap hb2]; rfl
 have f1:w2.frozen? ⟨b,1,none⟩=false:=Lib.frozen_of_heap hb2 1
 obtain ⟨g,cap,rfl⟩:∃ g cap,v'=.slice (some ⟨g,0,none⟩) (bs.length+1) cap:=by
  rcases hown'.2 with ⟨_,h0⟩ | ⟨g,cap,cur,hv,_⟩
  ·omega
  ·exact ⟨g,cap,hv⟩
 go_wp2
 go_ret
 refine ⟨rfl,?_,?_⟩
 ·exact Lib.BuilderAt.put (T:=TB) (e:=5) hB hb2 (bs':=bs++[.int .u8 c]) (by simpa using hown') X.neB5
 ·exact ((hb1.alloc (by have:=hb1.size; omega) _).grown hgrow (by have:=hb1.size; simp; omega) (fun k hk=>(hown.lt k hk).1)).setCell (p:=⟨b,1,none⟩) hB _
theorem ZhV (B b:Nat) (bs:List Value) (s:ByteArray) (w:World) (h:Lib.IsBuilder TB 5 B b bs w) (hlen:bs.length+s.size≤140737488355328) (hBw:B≤w.heap.size):
 Calls Tryz.prog 54 #[.pointer (some ⟨b,0,none⟩),.string s] w fun e w'=>e=.returned (.tuple #[.int .i64 s.size,.nilIface])∧(Lib.BuilderAt TB 5 B b (.pointer (some ⟨b,0,none⟩)) (bs++Lib.strCells s) w'∧Below B w w'):=by
 have X:=Tryz.Builder_Extra_169
 obtain ⟨i0,hi,hz0,hz1,hz2⟩:=info_parts X.infoByte
 go_enter Tryz.func54,Tryz.ntmps54
 go_wp2_with (go_at_call 82; refine (Zgr B b bs _ h).mono ?_)
 rintro e w1 ⟨rfl,h1,hb1⟩
 obtain ⟨hB,v,hbk,hown,hne⟩:=h1
 have c0:w1.cell? ⟨b,0,none⟩=some (.pointer (some ⟨b,0,none⟩)):=by rw [Lib.cell_of_heap hbk]; rfl
 have c1:w1.cell? ⟨b,1,none⟩=some v:=by rw [Lib.cell_of_heap hbk]; rfl
 go_wp2_with (at_builtin; refine Lib.wpList_append_own_string _ rfl _ _ 40 9 rfl B 5 i0 Tryz.underlying40 Tryz.underlying9 hi hz0 hz1 hz2 _ _ _ rfl hown s rfl ?c3 ?c4 ?c5 ?_)
 case c3=>unfold maxLen; omega
 case c4=>omega
 case c5=>have:=hb1.size; omega
 intro v' w2 hown' hgrow _
 have hlt:b<w1.heap.size:=by
  rcases Nat.lt_or_ge b w1.heap.size with h' | h'
  ·exact h'
  ·simp [Array.getElem?_eq_none h'] at hbk
 have hb2:w2.heap[b]?=some (.cells #[.pointer (some ⟨b,0,none⟩),v] TB (0,0)):=by
  rw [hgrow.block b hlt (fun e=>hne e.symm)]
  exact hbk
 have d0:w2.cell? ⟨b,0,none⟩=some (.pointer (some ⟨b,0,none⟩)):=by rw [Lib.cell_of_heap hb2]; rfl
 have d1:w2.cell? ⟨b,1,none⟩=some v:=by rw [Lib.cell_of_heap hb2]; rfl
 have f1:w2.frozen? ⟨b,1,none⟩=false:=Lib.frozen_of_heap hb2 1
 obtain ⟨ao,n',cap,rfl⟩:∃ ao n' cap,v'=.slice ao n' cap:=by
  rcases hown'.2 with ⟨hv,_⟩ | ⟨g,cap,cur,hv,_⟩
  ·exact ⟨_,_,_,hv⟩
  ·exact ⟨_,_,_,hv⟩
 go_wp2
 go_ret2
 refine ⟨rfl,?_,?_⟩
 ·exact Lib.BuilderAt.put (T:=TB) (e:=5) hB hb2 (bs':=bs++Lib.strCells s) (by simpa [Lib.strCells_length] using hown') X.neB5
 ·exact (hb1.grown hgrow (by have:=hb1.size; omega) (fun k hk=>(hown.lt k hk).1)).setCell (p:=⟨b,1,none⟩) hB _
end Go.Proofs.YtgdcengoopjplaaGreatDoor
namespace Go.Proofs.YtgdcengoopjplaaGreatDoor
set_option maxRecDepth 10000
open Go.RowKit
set_option linter.unusedVariables false
set_option linter.unusedSimpArgs false
set_option maxHeartbeats 2000000
theorem ZlZ (w:World) (k:Nat) (os:Array Obj):Up w (Sort.grow (w.drewN k) os):=
 ⟨rfl,rfl,rfl,by simp,fun b hb=>Sort.heap_grow_old _ _ hb⟩
theorem Zb3 (n:Int) (h0:-9223372036854775808≤n) (h1:n≤9223372036854775807) (w:World) (ht:TabF w):
 Calls Tryz.prog 45 #[.int .i64 n] w fun e w'=>e=.returned (.string (txt (Lib.itoa n)))∧Up w w':=by
 have hI:=Tryz.strconv_Itoa n h0 h1 w ht
 go_enter Tryz.func45,Tryz.ntmps45
 go_wp2_with (go_at_call 62; refine hI.mono ?_; rintro e w' ⟨rfl,k,os,rfl⟩)
 go_ret
 exact ⟨rfl,ZlZ _ _ _⟩
theorem Zj1 (i:Nat):Lib.itoa (i:Int)=Lib.decDigits i:=by
 unfold Lib.itoa
 rw [if_neg (by omega)]
 rfl
theorem Zdg (i:Nat) (hi:i<100) (w:World):
 Calls Tryz.prog 45 #[.int .i64 i] w fun e w'=>e=.returned (.string (txt (Lib.itoa i)))∧w'=w:=by
 have hI:=Tryz.strconv_Itoa_small i hi w
 rw [Zj1]
 go_enter Tryz.func45,Tryz.ntmps45
 go_wp2_with (go_at_call 62; refine hI.mono ?_; rintro e w' ⟨rfl,rfl⟩)
 go_ret
 exact ⟨rfl,rfl⟩
def padL (n:Int) (d:Nat):List UInt8:=List.replicate (d-(Lib.itoa n).length) 48++Lib.itoa n
theorem Zkn (c:Nat):Lib.repeatL [48] c=List.replicate c (48:UInt8):=by
 induction c with
 | zero=>rfl
 | succ c ih=>
  rw [Lib.repeatL,ih,List.replicate_succ]; rfl
theorem Zf7 (n:Int) (d:Nat) (h0:-9223372036854775808≤n) (h1:n≤9223372036854775807) (hd:d≤20) (w:World) (ht:TabF w):
 Calls Tryz.prog 97 #[.int .i64 n,.int .i64 d] w fun e w'=>e=.returned (.string (txt (padL n d)))∧Up w w':=by
 have hF:=Zb3 n h0 h1 w ht
 have hlen:=Lib.itoa_length_le n h0 h1
 have hsz:(txt (Lib.itoa n)).size=(Lib.itoa n).length:=Ze _
 have hR:=fun w1=>Tryz.strings_Repeat ⟨#[48]⟩ (d-(Lib.itoa n).length) w1 (by omega) (by show 1*_≤_; omega)
 have hsR:(⟨(Lib.repeatL [48] (d-(Lib.itoa n).length)).toArray⟩:ByteArray).size=d-(Lib.itoa n).length:=by simp [ByteArray.size,Lib.repeatL_length]
 rw [show ((d-(Lib.itoa n).length:Nat):Int)=max 0 ((d:Int)-((Lib.itoa n).length:Int)) by omega] at hR
 go_enter Tryz.func97,Tryz.ntmps97
 go_wp2_with (first
  | (go_at_call 45; refine hF.mono ?_; rintro e w1 ⟨rfl,hu1⟩)
  | (go_at_call 137; refine (hR _).mono ?_; rintro e w2 ⟨rfl,hu2⟩))
 all_goals (try (exfalso; omega))
 go_ret
 refine ⟨?_,Up.step hu2 hu1⟩
 show Ending.returned (.string (⟨(Lib.repeatL [48] (d-(Lib.itoa n).length)).toArray⟩++txt (Lib.itoa n)))=_
 congr 2
 apply ByteArray.ext
 rw [ByteArray.data_append]
 simp [txt,padL,Zkn]
def dgt (c:UInt8):Option (List UInt8):=if 48≤c.toNat∧c.toNat≤57 then some [c] else if 65≤c.toNat∧c.toNat≤90 then some (Lib.itoa ((c.toNat-55:Nat):Int)) else none
def dgts:List UInt8→Option (List UInt8)
 | []=>some []
 | c::cs=>match dgt c,dgts cs with
  | some a,some b=>some (a++b)
  | _,_=>none
theorem Ze4 (l:List UInt8) (c:UInt8):dgts (l++[c])=match dgts l,dgt c with
 | some a,some b=>some (a++b)
 | _,_=>none:=by
 induction l with
 | nil=>
  show dgts [c]=_
  simp only [dgts]
  cases dgt c <;> simp
 | cons x l ih=>
  simp only [List.cons_append,dgts,ih]
  cases dgt x <;> cases dgts l <;> cases dgt c <;> simp
theorem Ze3 {l:List UInt8} {i:Nat} {c:UInt8} (h:l[i]?=some c) (hc:dgt c=none):dgts l=none:=by
 induction l generalizing i with
 | nil=>simp at h
 | cons x l ih=>
  cases i with
  | zero=>simp at h; subst h; simp [dgts,hc]
  | succ i=>
   have:=ih (i:=i) (by simpa using h)
   simp only [dgts,this]
   cases dgt x <;> rfl
theorem Zje (l:List UInt8) (k:Nat) (h:k<(txt l).size):l[k]?=some ((txt l)[k]'h):=by
 have h':k<l.length:=by rw [Ze] at h; exact h
 rw [List.getElem?_eq_getElem h']
 rfl
theorem ZdG (i:Nat) (h:i<100):(Lib.itoa (i:Int)).length≤21:=
 Lib.itoa_length_le (i:Int) (by omega) (by omega)
theorem ZfQ {c:UInt8} {a:List UInt8} (h:dgt c=some a):a.length≤21:=by
 unfold dgt at h
 split at h
 ·cases h; simp
 ·split at h
  ·cases h; exact ZdG _ (by have:=c.toNat_lt; omega)
  ·cases h
theorem ZfR (l:List UInt8) (hl:l.length≤1000000000) (w:World):
 Calls Tryz.prog 138 #[.string (txt l)] w fun e w'=>e=.returned (.tuple #[.string (txt ((dgts l).getD [])),.bool ((dgts l).isSome)])∧Up w w':=by
 have hsz:(txt l).size=l.length:=Ze _
 go_enter Tryz.func138,Tryz.ntmps138
 go_wp2
 go_loopw [5] (fun ii wr=>∃ (k:Nat) (acc:List UInt8),k≤l.length∧ii=.int .i64 k∧dgts (l.take k)=some acc∧acc.length≤21*k∧Lib.IsBuilder 81 5 w.heap.size w.heap.size (Lib.byteCells acc) wr∧Up w wr) (fun ii _=>l.length-(intOf ii).toNat)
 case atStart=>
  exact ⟨0,[],by omega,rfl,by simp [dgts],by simp,Lib.fresh_isBuilder 81 5 w,by (repeat (first | exact Up.rfl' _ | (refine Up.al _ ?_) | (refine Up.dr _ ?_) | (refine Up.dr1 ?_) | (refine Up.sc ?_ (by first | exact Nat.le_refl _ | (simp; done) | omega) _) | (refine Up.step (by assumption) ?_)))⟩
 case round=>
  obtain ⟨k,acc,hk,rfl,hacc,hal,hI,hu⟩:=hrel
  have hws:=hu.size
  by_cases hlt:k<l.length
  ·have hlt2:k<(txt l).size:=by omega
   have hg:=Zje l k hlt2
   have htk:dgts (l.take (k+1))=match some acc,dgt ((txt l)[k]'hlt2) with
    | some a,some b=>some (a++b)
    | _,_=>none:=by
    rw [List.take_add_one,hg,show (some (txt l)[k]).toList=[(txt l)[k]] from rfl,Ze4,hacc] <;> rfl
   have hcl:=((txt l)[k]'hlt2).toNat_lt
   generalize hc:(txt l)[k]'hlt2=c at *
   by_cases h1:48≤c.toNat∧c.toNat≤57
   ·obtain ⟨h1a,h1b⟩:=h1
    have hd:dgt c=some [c]:=by unfold dgt; rw [if_pos ⟨h1a,h1b⟩]
    rw [hd] at htk
    go_wp2_with (go_at_call 180; refine (Zjo w.heap.size w.heap.size _ _ _ hI (by rw [Lib.byteCells_length]; omega) hws).mono ?_; rintro e W1 ⟨rfl,hI1,hb1⟩)
    go_roundw
    case rel=>
     refine ⟨k+1,acc++[c],by omega,by simp,htk,by simp; omega,?_,Below.trans hu hb1⟩
     rw [Lib.byteCells_append]
     exact Or.inr hI1
    case measure=>simp [intOf]; omega
   ·by_cases h2:65≤c.toNat∧c.toNat≤90
    ·obtain ⟨h2a,h2b⟩:=h2
     have hd:dgt c=some (Lib.itoa ((c.toNat-55:Nat):Int)):=by unfold dgt; rw [if_neg h1,if_pos ⟨h2a,h2b⟩]
     have hdl:=ZfQ hd
     rw [hd] at htk
     have hF:=Zdg (c.toNat-55) (by omega)
     rw [show ((c.toNat-55:Nat):Int)=((c.toNat:Int)-65)+10 by omega] at hF htk hdl
     go_wp2_with (first
      | (go_at_call 45; refine (hF _).mono ?_; rintro e w1 ⟨rfl,rfl⟩)
      | (go_at_call 54; refine (ZhV w.heap.size w.heap.size _ _ _ hI (by rw [Lib.byteCells_length,Ze]; omega) hws).mono ?_; rintro e W1 ⟨rfl,hI1,hb1⟩))
     go_roundw
     case rel=>
      refine ⟨k+1,acc++_,by omega,by simp,htk,by simp; omega,?_,Below.trans hu hb1⟩
      rw [Lib.byteCells_append]
      rw [Lib.strCells_eq] at hI1
      exact Or.inr hI1
     case measure=>simp [intOf]; omega
    ·have hd:dgt c=none:=by unfold dgt; rw [if_neg h1,if_neg h2]
     have hn:=Ze3 hg (by rw [hd])
     go_wp2
     all_goals (go_ret2; first | exact ⟨rfl,hu⟩ | (rw [hn]; exact ⟨rfl,hu⟩))
  ·have hkl:k=l.length:=by omega
   subst hkl
   rw [List.take_length] at hacc
   go_wp2_with (go_at_call 55; refine (Tryz.Builder_String_any w.heap.size w.heap.size acc _ hI hws).mono ?_; rintro e W1 ⟨rfl,hb1⟩)
   go_ret2
   rw [hacc]
   exact ⟨rfl,Below.trans hu hb1⟩
theorem Zdb {P:Program} {f:FuncId} {args:List PV} {r:PV} {val:Value} (h1:∀ (w:World) (E:Env),Rep w E r val)
 (h:∀ (S:Nat→Prop) (β:Nat→Option Blk) (w:World) (vs:Array Value),(∀ b,S b→b<w.heap.size)→TabF w→vs.size=args.length→(∀ (i:Nat) (p:PV),args[i]?=some p→∃ x,vs[i]?=some x∧Rep w (E1 S β 0) p x)→
  Calls P f vs w fun e w'=>e=.returned val∧Up w w'):Za8 P f args [] r []:=by
 intro S β w vs ω hk hl ha
 refine (h S β w vs hk.sz hk.tab.here hl fun i p hp=>by obtain ⟨x,h1,h2⟩:=ha i p hp; exact ⟨x,h1,h2.toω⟩).mono ?_
 rintro e w' ⟨rfl,hu⟩
 refine ⟨val,E1 S β 0,rfl,⟨⟨hu.os,hu.tape,hu.output,hu.size,fun b hb _=>hu.block b hb⟩,fun b hb=>Nat.lt_of_lt_of_le (hk.sz b hb) hu.size,fun l B hB hz=>?_,hk.inj,hk.used,hk.bu,fun l mb hm=>(by simp at hm),hk.dom,hk.tab,fun _ _ h=>h.elim⟩,fun b h=>h,fun b h=>.inl h,⟨fun l B _ h=>h,fun _ _ h=>h.elim⟩,h1 _ _⟩
 obtain ⟨a,b,c⟩:=hk.own l B hB hz
 exact ⟨a,Nat.lt_of_lt_of_le b hu.size,c⟩
theorem rv1 {w:World} {E:Env} {a x:Value} (h:Rep w E (.v a) x):x=a:=h.v_inv.1
theorem ar1 {vs:Array Value} {x0:Value} (h:vs.size=1) (h0:vs[0]?=some x0):vs=#[x0]:=by
 apply Array.ext (by simp [h])
 intro i h2 h3
 obtain rfl:i=0:=by omega
 simpa using (Array.getElem?_eq_some_iff.1 h0).2
theorem ar2 {vs:Array Value} {x0 x1:Value} (h:vs.size=2) (h0:vs[0]?=some x0) (h1:vs[1]?=some x1):vs=#[x0,x1]:=by
 apply Array.ext (by simp [h])
 intro i hi h3
 have a0:=(Array.getElem?_eq_some_iff.1 h0).2
 have a1:=(Array.getElem?_eq_some_iff.1 h1).2
 match i,hi with
 | 0,_=>simpa using a0
 | 1,_=>simpa using a1
 | i+2,hi=>omega
def in64 (n:Int):Prop:=-9223372036854775808≤n∧n≤9223372036854775807
instance (n:Int):Decidable (in64 n):=by unfold in64; infer_instance
def Zd (n:Int):Option ByteArray:=if in64 n then some (txt (Lib.itoa n)) else none
theorem Zcz (n:Int) {r:ByteArray} (H:Zd n=some r):Za8 Tryz.prog 45 [vi n] [] (Go.Proofs.YtgdcengoopjplaaGreatDoor.vs r) []:=by
 unfold Zd at H
 split at H
 case isFalse=>cases H
 rename_i hn
 obtain rfl:=Option.some.inj H
 refine Zdb (fun w E=>.c (.v _ rfl)) fun S β w vs hsz ht hl ha=>?_
 obtain ⟨x,hx,hr⟩:=ha 0 _ rfl
 obtain rfl:=ar1 hl hx
 obtain rfl:=rv1 hr
 exact Zb3 n hn.1 hn.2 w ht
instance (n:Int):CT Tryz.prog (Zd n):=⟨45,[vi n],[],fun r=>vs r,fun r=>[],Zcz n⟩
def Za (n:Int):Option ByteArray:=if in64 n then some (txt (Lib.itoa n)) else none
theorem ZcB (n:Int) {r:ByteArray} (H:Za n=some r):Za8 Tryz.prog 56 [vi n] [] (Go.Proofs.YtgdcengoopjplaaGreatDoor.vs r) []:=by
 unfold Za at H
 split at H
 case isFalse=>cases H
 rename_i hn
 obtain rfl:=Option.some.inj H
 refine Zdb (fun w E=>.c (.v _ rfl)) fun S β w vs hsz ht hl ha=>?_
 obtain ⟨x,hx,hr⟩:=ha 0 _ rfl
 obtain rfl:=ar1 hl hx
 obtain rfl:=rv1 hr
 exact ZdF n hn.1 hn.2 w
instance (n:Int):CT Tryz.prog (Za n):=⟨56,[vi n],[],fun r=>vs r,fun r=>[],ZcB n⟩
def Z9 (n d:Int):Option ByteArray:=if in64 n∧0≤d∧d≤20 then some (txt (padL n d.toNat)) else none
theorem ZdI (n d:Int) {r:ByteArray} (H:Z9 n d=some r):Za8 Tryz.prog 97 [vi n,vi d] [] (Go.Proofs.YtgdcengoopjplaaGreatDoor.vs r) []:=by
 unfold Z9 at H
 split at H
 case isFalse=>cases H
 rename_i hn
 obtain rfl:=Option.some.inj H
 refine Zdb (fun w E=>.c (.v _ rfl)) fun S β w vs hsz ht hl ha=>?_
 obtain ⟨x,hx,hr⟩:=ha 0 _ rfl
 obtain ⟨x1,hx1,hr1⟩:=ha 1 _ rfl
 obtain rfl:=ar2 hl hx hx1
 obtain rfl:=rv1 hr
 obtain rfl:=rv1 hr1
 have:=Zf7 n d.toNat hn.1.1 hn.1.2 (by omega) w ht
 rwa [show ((d.toNat:Nat):Int)=d by omega] at this
instance (n d:Int):CT Tryz.prog (Z9 n d):=⟨97,[vi n,vi d],[],fun r=>vs r,fun r=>[],ZdI n d⟩
def ZaE (s:ByteArray):Option (ByteArray × Bool):=if s.size≤1000000000 then some (txt ((dgts s.data.toList).getD []),(dgts s.data.toList).isSome) else none
theorem ZdH (s:ByteArray) {r:ByteArray × Bool} (H:ZaE s=some r):Za8 Tryz.prog 138 [Go.Proofs.YtgdcengoopjplaaGreatDoor.vs s] [] (.tu [Go.Proofs.YtgdcengoopjplaaGreatDoor.vs r.1,vb r.2]) []:=by
 unfold ZaE at H
 split at H
 case isFalse=>cases H
 rename_i hn
 obtain rfl:=Option.some.inj H
 refine Zdb (val:=.tuple #[.string (txt ((dgts s.data.toList).getD [])),.bool ((dgts s.data.toList).isSome)]) (fun w E=>.tu _ _ rfl fun j p x hp hx=>?_) fun S β w vs hsz ht hl ha=>?_
 ·match j,hp,hx with
  | 0,hp,hx=>simp at hp hx; subst hp hx; exact .c (.v _ rfl)
  | 1,hp,hx=>simp at hp hx; subst hp hx; exact .c (.v _ rfl)
  | j+2,hp,hx=>simp at hx
 ·obtain ⟨x,hx,hr⟩:=ha 0 _ rfl
  obtain rfl:=ar1 hl hx
  obtain rfl:=rv1 hr
  have:=ZfR s.data.toList (by rw [Array.length_toList]; exact hn) w
  rwa [show txt s.data.toList=s from ByteArray.ext (by simp [txt])] at this
instance (s:ByteArray):CT Tryz.prog (ZaE s):=⟨138,[vs s],[],fun r=>.tu [vs r.1,vb r.2],fun r=>[],ZdH s⟩
set_option maxRecDepth 100000
abbrev RP (b:Nat):Value:=.pointer (some ⟨b,0,none⟩)
theorem ZiZ (w:World) (b f:Nat) (sv:Value) (nm:String) (h:w.cell? ⟨b,0,none⟩=some (.iface 178 sv))
 (hm:(((Tryz.prog.info? 227).bind fun i=>i.methods.find? (·.name == nm)).map fun m=>(m.path,m.func))=some (#[⟨229,0,true⟩],none))
 (hi:Sem.run Tryz.prog (method (Tryz.prog.types.size+99) 178 sv nm) w=.ok (f,sv) w):
 Sem.run Tryz.prog (method (Tryz.prog.types.size+100) 227 (RP b) nm) w=.ok (f,sv) w:=by
 obtain ⟨m,hm1,hm2⟩:=Option.map_eq_some_iff.1 hm
 obtain ⟨i,hi',hm'⟩:=Option.bind_eq_some_iff.1 hm1
 have hpa:m.path=#[⟨229,0,true⟩]:=congrArg Prod.fst hm2
 have hfu:m.func=none:=congrArg Prod.snd hm2
 have u:=run_underlying Tryz.underlying229
 unfold method
 have hl:Sem.run Tryz.prog (Sem.load Mode.plain ({ block:=b,off:=0 }:Addr) Sem.pure) w=.ok (.iface 178 sv) w:=by
  simp [Sem.run,h]
 simp [typeInfo,hi',hm',hpa,hfu,follow,Place.get,u,asAddr,loadVar,isAgg,load,h,fieldPlace]
 rw [show ({ block:=b,off:=0 }:Addr).add 0={ block:=b,off:=0 } from rfl,hl]
 exact hi
theorem Zkq (w:World) (b:Nat) (sv:Value) (h:w.cell? ⟨b,0,none⟩=some (.iface 178 sv)):
 Sem.run Tryz.prog (method (Tryz.prog.types.size + 100) 227 (RP b) "Less") w = .ok (291, .agg #[.iface 178 sv]) w := by
 have hm : (((Tryz.prog.info? 227).bind fun i => i.methods.find? (·.name == "Less")).map fun m => (m.path, m.func)) = some (#[], some (291, false)) := by kernel_rfl
 obtain ⟨m,hm1,hm2⟩:=Option.map_eq_some_iff.1 hm
 obtain ⟨i,hi',hm'⟩:=Option.bind_eq_some_iff.1 hm1
 have hpa:m.path=#[]:=congrArg Prod.fst hm2
 have hfu:m.func=some (291,false):=congrArg Prod.snd hm2
 have u:=run_underlying Tryz.underlying227
 have u2:=run_underlying Tryz.underlying229
 unfold method
 have hlv:Sem.run Tryz.prog (loadVar 229 ⟨b,0,none⟩) w=.ok (.agg #[.iface 178 sv]) w:=by
  have a1:=Tryz.isAgg229
  have a2:=Tryz.sizeOf229
  have hl:Sem.run Tryz.prog (Sem.load Mode.plain ({ block:=b,off:=0 }:Addr) Sem.pure) w=.ok (.iface 178 sv) w:=by
   simp [Sem.run,h]
  unfold loadVar loadCells
  simp [a1,a2,loadCellsFrom,load]
  rw [show ({ block:=b,off:=0 }:Addr).add 0={ block:=b,off:=0 } from rfl,hl]
  rfl
 have hk:∀ (x y:ByteArray) (w:World),Sem.run Tryz.prog (Builtin.ssaWrapNilChk_ #[227] 227 #[RP b,.string x,.string y]) w=.ok (RP b) w:=fun _ _ _=>rfl
 have hf:Sem.run Tryz.prog (follow [] 227 (Place.val (RP b))) w=.ok (227,Place.val (RP b)) w:=rfl
 have hr:∀ x,Sem.run Tryz.prog (receiverAt 227 (Place.val (RP b)) false (some x)) w=.ok (.agg #[.iface 178 sv]) w:=by
  intro x
  unfold receiverAt
  simp [u,Place.get,strVal,hk,asAddr,hlv]
 simp [typeInfo,hi',hm',hpa,hfu,hf,hr]
open Go.Lib Go.Sort
set_option maxHeartbeats 4000000
abbrev SV (blk off n c:Nat):Value:=.slice (some ⟨blk,off,none⟩) n c
theorem ZmH (blk off n c : Nat) (w : World) : Sem.run Tryz.prog (method (Tryz.prog.types.size + 99) 178 (SV blk off n c) "Len") w = .ok (287, SV blk off n c) w := by kernel_rfl
theorem Zlp (blk off n c : Nat) (w : World) : Sem.run Tryz.prog (method (Tryz.prog.types.size + 99) 178 (SV blk off n c) "Swap") w = .ok (290, SV blk off n c) w := by kernel_rfl
theorem Zlo (blk off n c : Nat) (w : World) : Sem.run Tryz.prog (method (Tryz.prog.types.size + 100) 178 (SV blk off n c) "Less") w = .ok (288, SV blk off n c) w := by kernel_rfl
theorem ZjZ (blk off c size:Nat) (W:World) (G:Nat→Int) (hc:∀ t,t<size→W.cell? ⟨blk,off+t,none⟩=some (.int .i64 (G t))) (i j:Nat) (hi:i<size) (hj:j<size) (_hsz:size<4611686018427387904):
 Calls Tryz.prog 288 #[SV blk off size c,.int .i64 i,.int .i64 j] W fun e w'=>e=.returned (.bool (decide (G i<G j)))∧∃ q,w'=W.drewN q:=by
 have ci:=hc i hi
 have cj:=hc j hj
 go_enter Tryz.func288,Tryz.ntmps288
 go_wp2
 go_quiet (fail)
 go_wp2
 go_ret
 exact ⟨rfl,nq,rfl⟩
theorem Zj0 (blk off c size:Nat) (W:World) (x y:Int) (i j:Nat) (hi:i<size) (hj:j<size) (_hsz:size<4611686018427387904)
 (ci:W.cell? ⟨blk,off+i,none⟩=some (.int .i64 x)) (cj:W.cell? ⟨blk,off+j,none⟩=some (.int .i64 y)) (fi:W.frozen? ⟨blk,off+i,none⟩=false) (fj:W.frozen? ⟨blk,off+j,none⟩=false):
 Calls Tryz.prog 290 #[SV blk off size c,.int .i64 i,.int .i64 j] W fun e w'=>e=.returned (.tuple #[])∧∃ q,w'=((W.setCell ⟨blk,off+i,none⟩ (.int .i64 y)).setCell ⟨blk,off+j,none⟩ (.int .i64 x)).drewN q:=by
 obtain ⟨v',hy'⟩:=cell?_setCell_some (w:=W) (p:=⟨blk,off+i,none⟩) (x:=.int .i64 y) (q:=⟨blk,off+j,none⟩) cj
 go_enter Tryz.func290,Tryz.ntmps290
 go_wp2
 go_region
 all_goals (try go_wp2)
 all_goals go_end0
 all_goals exact ⟨rfl,1,rfl⟩
theorem Zlq (blk off c size:Nat) (W:World):Calls Tryz.prog 287 #[SV blk off size c] W fun e w'=>e=.returned (.int .i64 size)∧w'=W:=by
 go_enter Tryz.func287,Tryz.ntmps287
 go_wp2
 go_ret
 exact ⟨rfl,rfl⟩
theorem Zko (blk off c size:Nat) (W:World) (G:Nat→Int) (hc:∀ t,t<size→W.cell? ⟨blk,off+t,none⟩=some (.int .i64 (G t))) (hb:blk<W.heap.size) (i j:Nat) (hi:i<size) (hj:j<size) (hsz:size<4611686018427387904):
 Calls Tryz.prog 291 #[.agg #[.iface 178 (SV blk off size c)],.int .i64 i,.int .i64 j] W fun e w'=>e=.returned (.bool (decide (G j<G i)))∧∃ o q,w'=(W.alloc o).drewN q:=by
 have mL:=Zlo blk off size c
 have eL:∀ args w,(callFunc 288 args).run Tryz.prog w=.ok (.enter 288 args) w:=enters_of Tryz.func288 (by kernel_rfl) rfl
 simp at mL
 have hl:∀ o,Calls Tryz.prog 288 #[SV blk off size c,.int .i64 j,.int .i64 i] (W.alloc o) fun e w'=>e=.returned (.bool (decide (G j<G i)))∧∃ q,w'=(W.alloc o).drewN q:=fun o=>
  ZjZ blk off c size _ G (fun t ht=>(Below.cell (Up.al o (Up.rfl' W)) (p:=⟨blk,off+t,none⟩) hb).trans (hc t ht)) j i hj hi hsz
 go_enter Tryz.func291,Tryz.ntmps291
 go_wp2_with (go_at_fn 288; refine (hl _).mono ?_; rintro e w' ⟨rfl,q,rfl⟩)
 go_ret
 exact ⟨rfl,_,q,rfl⟩
theorem SW.cellO {w0 W:World} {blk off:Nat} {dk:Array Int} (h:SW (Value.int .i64) w0 blk off dk W) {b o:Nat} (hb:b<w0.heap.size) (hne:b≠blk):W.cell? ⟨b,o,none⟩=w0.cell? ⟨b,o,none⟩:=by
 obtain ⟨n,os,rfl⟩:=h
 unfold sortWorld
 rw [cell?_grow _ _ _ (by simpa using hb),cell?_putRow_other _ _ _ _ _ _ (.inl hne)]
 rfl
def gtI (x y:Int):Bool:=decide (y<x)
theorem Zln (blk off c b bR:Nat) (d:Array Int) (w:World) (hH:Holds (Value.int .i64) w blk off d) (hblk:blk<w.heap.size) (hR:w.cell? ⟨bR,0,none⟩=some (.iface 178 (SV blk off d.size c))) (hRb:bR<w.heap.size) (hne:bR≠blk)
 (hab:0≤b) (hb:b≤d.size) (hsz:d.size<4611686018427387904):
 Calls Tryz.prog 218 #[.iface 227 (RP bR),.int .i64 0,.int .i64 b] w fun e w'=>e=.returned (.tuple #[])∧SW (Value.int .i64) w blk off (Sort.insertionSort gtI d 0 b) w':=by
 have eL:∀ args w,(callFunc 291 args).run Tryz.prog w=.ok (.enter 291 args) w:=enters_of Tryz.func291 (by kernel_rfl) rfl
 have eS:∀ args w,(callFunc 290 args).run Tryz.prog w=.ok (.enter 290 args) w:=enters_of Tryz.func290 (by kernel_rfl) rfl
 go_enter Tryz.func218,Tryz.ntmps218
 go_wp2
 go_loopw [6] (fun vi wr=>∃ (i:Nat) (dk:Array Int),vi=.int .i64 i∧0<i∧i≤b+1∧dk.size=d.size∧SW (Value.int .i64) w blk off dk wr∧
  insOuter gtI 0 b i dk=insOuter gtI 0 b (0+1) d) (fun vi _=>b+1-(intOf vi).toNat)
 case atStart=>exact ⟨1,d,by go_num,by omega,by omega,rfl,SW.start hH,rfl⟩
 case round=>
  obtain ⟨i,dk,rfl,hai,hib,hsk,hwr,hO⟩:=hrel
  have HO:Hid (insOuter gtI 0 b i dk=insOuter gtI 0 b (0+1) d):=hO
  clear hO
  go_wp2
  ·go_loopw [7] (fun vj wr2=>∃ (j:Nat) (dj:Array Int),vj=.int .i64 j∧j≤i∧dj.size=d.size∧SW (Value.int .i64) w blk off dj wr2∧
    insInner gtI 0 j dj=insInner gtI 0 i dk) (fun vj _=>(intOf vj).toNat)
   case atStart=>exact ⟨i,dk,rfl,Nat.le_refl _,hsk,hwr,rfl⟩
   case round=>
    obtain ⟨j,dj,rfl,hji,hsj,hw2,hI⟩:=hrel
    have hlt:i<b:=by assumption
    have HW:Hid (SW (Value.int .i64) w blk off dj wr):=hw2
    have HI:Hid (insInner gtI 0 j dj=insInner gtI 0 i dk):=hI
    have hHj:=hw2.holds hblk hH hsj
    have hbw:=hw2.lt hblk
    have hRw:wr.cell? ⟨bR,0,none⟩=some (.iface 178 (SV blk off d.size c)):=(SW.cellO hw2 hRb hne).trans hR
    clear hw2 hI
    have out:(j≤0∨gtI dj[j]! dj[j-1]! = false)→∀ W,SW (Value.int .i64) w blk off dj W→∃ (i':Nat) (dk':Array Int),Value.int .i64 ((i:Int)+1)=.int .i64 (i':Nat)∧0<i'∧i'≤b+1∧dk'.size=d.size∧
     SW (Value.int .i64) w blk off dk' W∧insOuter gtI 0 b i' dk'=insOuter gtI 0 b (0+1) d:=fun hs W hW=>
     ⟨i+1,dj,by go_num,by omega,by omega,hsj,hW,
      by rw [← HO.out,insOuter_go _ _ _ _ _ hlt,← HI.out,insInner_stop _ _ _ _ hs]⟩
    have OUT:Hid _:=out
    clear out
    by_cases hja:0<j
    ·have mL:=Zkq wr bR _ hRw
     simp at mL
     have hl:=Zko blk off c d.size wr (fun t=>dj[t]!) (fun t ht=>(hHj t (by omega)).1) hbw j (j-1) (by omega) (by omega) hsz
     rw [show (((j-1:Nat):Int))=(j:Int)-1 by omega] at hl
     have W2:Hid (∀ o q,SW (Value.int .i64) w blk off dj ((wr.alloc o).drewN q)):=fun o q=>(HW.out.alloc o).drewN q
     have mS : ∀ o q, Sem.run Tryz.prog (method (Tryz.prog.types.size + 100) 227 (RP bR) "Swap") ((wr.alloc o).drewN q) = .ok (290, SV blk off d.size c) ((wr.alloc o).drewN q) := fun o q =>
      ZiZ ((wr.alloc o).drewN q) bR 290 (SV blk off d.size c) "Swap" ((SW.cellO (W2.out o q) hRb hne).trans hR) (by kernel_rfl) (Zlp _ _ _ _ _)
     simp at mS
     have hsw:∀ o q,Calls Tryz.prog 290 #[SV blk off d.size c,.int .i64 j,.int .i64 ((j-1:Nat):Int)] ((wr.alloc o).drewN q) fun e w'=>e=.returned (.tuple #[])∧SW (Value.int .i64) w blk off (swp dj j (j-1)) w':=fun o q=>by
      have hh:=(W2.out o q).holds hblk hH hsj
      refine (Zj0 blk off c d.size _ _ _ j (j-1) (by omega) (by omega) hsz (hh j (by omega)).1 (hh (j-1) (by omega)).1 (hh j (by omega)).2 (hh (j-1) (by omega)).2).mono ?_
      rintro e w' ⟨rfl,q',rfl⟩
      exact ⟨rfl,((W2.out o q).swap hblk j (j-1) (by omega) (by omega)).drewN q'⟩
     rw [show (((j-1:Nat):Int))=(j:Int)-1 by omega] at hsw
     change Calls _ _ _ _ fun e w'=>e=.returned (.bool (gtI dj[j]! dj[j-1]!))∧_ at hl
     cases hlv:gtI dj[j]! dj[j-1]! with
     | true=>
      rw [hlv] at hl
      go_wp2_with (first
       | (go_at_fn 291; refine hl.mono ?_; rintro e w' ⟨rfl,o,q,rfl⟩)
       | (go_at_fn 290; refine (hsw _ _).mono ?_; rintro e w' ⟨rfl,hS⟩))
      go_roundw
      case rel=>
       (repeat apply Exists.intro)
       refine ⟨⟨j-1,swp dj j (j-1),by congr 1 <;> omega,by omega,by rw [size_swp]; exact hsj,hS,?_⟩,by rw [decide_eq_true hlt,show ((j-1:Nat):Int)=(j:Int)-1 by omega]⟩
       rw [← HI.out,insInner_go gtI 0 j dj hja hlv]
      case measure=>simp [intOf]; omega
     | false=>
      rw [hlv] at hl
      go_wp2_with (go_at_fn 291; refine hl.mono ?_; rintro e w' ⟨rfl,o,q,rfl⟩)
      go_roundw
      case rel=>exact OUT.out (Or.inr hlv) _ (W2.out o q)
      case measure=>simp [intOf]; omega
    ·go_wp2
     go_roundw
     case rel=>exact OUT.out (Or.inl (by omega)) _ HW.out
     case measure=>simp [intOf]; omega
  ·have hge:¬ i<b:=by assumption
   go_end0
   exact ⟨rfl,by unfold Sort.insertionSort; rw [← HO.out,insOuter_stop _ _ _ _ _ hge]; exact hwr⟩
end Go.Proofs.YtgdcengoopjplaaGreatDoor
namespace Go.Proofs.YtgdcengoopjplaaGreatDoor
set_option maxRecDepth 10000
open Go.RowKit Go.Lib Go.Sort
set_option linter.unusedVariables false
set_option linter.unusedSimpArgs false
set_option maxRecDepth 100000
set_option maxHeartbeats 4000000
theorem pdq3 (blk off c lim bR:Nat) (d:Array Int) (w:World) (hH:Holds (Value.int .i64) w blk off d) (hblk:blk<w.heap.size) (hd:d.size=3) (hR:w.cell? ⟨bR,0,none⟩=some (.iface 178 (SV blk off d.size c))) (hRb:bR<w.heap.size) (hne:bR≠blk):
 Calls Tryz.prog 182 #[.iface 227 (RP bR),.int .i64 0,.int .i64 3,.int .i64 lim] w fun e w'=>e=.returned (.tuple #[])∧SW (Value.int .i64) w blk off (Sort.insertionSort gtI d 0 3) w':=by
 have hi:=Zln blk off c 3 bR d w hH hblk hR hRb hne (by omega) (by omega) (by omega)
 rw [show ((3:Nat):Int)=3 from rfl] at hi
 clear hH hR
 go_enter Tryz.func182,Tryz.ntmps182
 go_wp2
 go_loopw [1,2] (fun v1 v2 wr=>v1=.int .i64 0∧v2=.int .i64 3∧wr=w) (fun _ _ _=>0)
 case atStart=>exact ⟨rfl,rfl,rfl⟩
 case round=>
  obtain ⟨rfl,rfl,rfl⟩:=hrel
  go_wp2_with (go_at_call 218; refine hi.mono ?_; rintro e w' ⟨rfl,hS⟩)
  (try simp only [Exit.inBlock,Exit.then])
  refine bodyPost_ret (results_none rfl _ _ _) rfl ?_
  exact ⟨rfl,hS⟩
theorem Zku (blk off c bR:Nat) (d:Array Int) (w:World) (hH:Holds (Value.int .i64) w blk off d) (hblk:blk<w.heap.size) (hd:d.size=3) (hR:w.cell? ⟨bR,0,none⟩=some (.iface 178 (SV blk off d.size c))) (hRb:bR<w.heap.size) (hne:bR≠blk):
 Calls Tryz.prog 140 #[.iface 227 (RP bR)] w fun e w'=>e=.returned (.tuple #[])∧SW (Value.int .i64) w blk off (Sort.insertionSort gtI d 0 3) w':=by
 have mN := ZiZ w bR 287 (SV blk off d.size c) "Len" hR (by kernel_rfl) (ZmH _ _ _ _ _)
 simp at mN
 have eN:∀ args w,(callFunc 287 args).run Tryz.prog w=.ok (.enter 287 args) w:=enters_of Tryz.func287 (by kernel_rfl) rfl
 have hN:=Zlq blk off c d.size w
 have hL:=Tryz.bits_Len 3 w (by omega) (by omega)
 have hp:=fun lim=>pdq3 blk off c lim bR d w hH hblk hd hR hRb hne
 rw [hd] at mN hN
 rw [show ((3:Nat):Int)=3 from rfl] at hN
 clear hH hR
 go_enter Tryz.func140,Tryz.ntmps140
 go_wp2_with (first
  | (go_at_fn 287; refine hN.mono ?_; rintro e w' ⟨rfl,rfl⟩)
  | (go_at_call 181; refine hL.mono ?_; rintro e w' ⟨rfl,rfl⟩)
  | (go_at_call 182; refine (hp _).mono ?_; rintro e w' ⟨rfl,hS⟩))
 all_goals first
  | (exfalso; omega)
  | (go_end0; exact ⟨rfl,hS⟩)
end Go.Proofs.YtgdcengoopjplaaGreatDoor
namespace Go.Proofs.YtgdcengoopjplaaGreatDoor
set_option maxRecDepth 10000
open Go.RowKit
structure ElT (P:Program) (t e:TypeId) (k bytes:Nat):Prop where
 ht:P.underlying t=some (.slice e)
 info:∃ i z,P.info? e=some i∧i.zero=some z∧i.size=k∧i.bytes=bytes∧z.cells.size=k
theorem ElT.mk' {P:Program} {t e:TypeId} {k bytes:Nat} {z:Value} (ht:P.underlying t=some (.slice e)) (h:(P.info? e).map (fun i=>(i.zero,i.size,i.bytes))=some (some z,k,bytes)) (hz:z.cells.size=k):ElT P t e k bytes:=by
 obtain ⟨i,h1,h2,h3,h4⟩:=info_parts h
 exact ⟨ht,i,z,h1,h2,h3,h4,hz⟩
theorem Own.nil_ {α:Type} [Enc α] (w:World) (B E:Nat):Own w B E (.slice none 0 0) ([]:List α):=World.ownsRow_nil _ _ _ _
theorem Own.empty {α:Type} [Enc α] (w:World) (B E c:Nat) (cur:Array Value) (hB:B≤w.heap.size) (hm:c≤maxLen) (hs:cur.size=c*Enc.k α):
 Own (w.alloc (.cells cur E)) B E (.slice (some ⟨w.heap.size,0,none⟩) 0 c) ([]:List α):=World.ownsRow_made w cur c hB hm hs
theorem Own.more {α:Type} [Enc α] {w:World} {B B' E:Nat} {v:Value} {xs:List α} (h:Own w B E v xs) (hB:B'≤B):Own w B' E v xs:=by
 refine ⟨h.1,?_⟩
 rcases h.2 with h2 | ⟨g,cap,cur,hv,hb,r⟩
 ·exact .inl h2
 ·exact .inr ⟨g,cap,cur,hv,by omega,r⟩
theorem Own.grown {α:Type} [Enc α] {w w':World} {B E:Nat} {v:Value} {xs:List α} {row:Option Nat} (h:Own w B E v xs) (hg:w.grownBy w' row) (hne:v.ownBlock=none∨v.ownBlock≠row):Own w' B E v xs:=
 World.ownsRow.kept h hg hne
theorem Rd.one {α:Type} [Enc α] (w:World) (T:TypeId) (x:α) (B:Nat) (hB:w.heap.size<B):Rd (w.alloc (.cells (Enc.cells x).toArray T)) B (some ⟨w.heap.size,0,none⟩) [x]:=by
 intro _
 refine ⟨w.heap.size,0,rfl,hB,fun j u hu=>?_⟩
 rw [ZjT] at hu
 rw [Nat.zero_add,cell_of_row _ _ j _ T (0,0) (heap_alloc_new w _)]
 simpa using hu
def Za0 (w0 w:World) (B E k:Nat) (g n cap m:Nat) (ys:List Value):Prop:=
 ∃ cs:List Value,w.ownsRow B E k (.slice (some ⟨g,0,none⟩) n cap) n cs∧cs.take m=ys.take m∧w0.grownBy w (some g)
theorem Za0.start {w:World} {B E k g n cap:Nat} {cs ys:List Value} (h:w.ownsRow B E k (.slice (some ⟨g,0,none⟩) n cap) n cs):Za0 w w B E k g n cap 0 ys:=
 ⟨cs,h,by simp,⟨rfl,rfl,rfl,Nat.le_refl _,fun _ _ _=>rfl⟩⟩
theorem Za0.cell {w0 w:World} {B E k g n cap m:Nat} {ys:List Value} (h:Za0 w0 w B E k g n cap m ys) {j:Nat} (hj:j<n*k):∃ u,w.cell? ⟨g,j,none⟩=some u:=by
 obtain ⟨cs,ho,_⟩:=h
 have hl:cs.length=n*k:=ho.1
 exact ⟨cs[j]'(by omega),by rw [ho.cellAt j hj]; exact List.getElem?_eq_getElem _⟩
theorem Za0.frozen {w0 w:World} {B E k g n cap m:Nat} {ys:List Value} (h:Za0 w0 w B E k g n cap m ys) (j:Nat):w.frozen? ⟨g,j,none⟩=false:=by
 obtain ⟨cs,ho,_⟩:=h
 exact ho.frozenAt j
theorem Zeh {a b c:World} {row:Option Nat} (h:a.grownBy b row) (k:b.grownBy c row):a.grownBy c row:=
 ⟨k.os.trans h.os,k.tape.trans h.tape,k.output.trans h.output,Nat.le_trans h.size k.size,fun i hi hne=>(k.block i (Nat.lt_of_lt_of_le hi h.size) hne).trans (h.block i hi hne)⟩
theorem Za0.set1 {w0 w:World} {B E k g n cap m:Nat} {ys:List Value} {v:Value} (h:Za0 w0 w B E k g n cap m ys) (hm:m<n*k) (hy:ys[m]?=some v):
 Za0 w0 (w.setCell ⟨g,m,none⟩ v) B E k g n cap (m+1) ys:=by
 obtain ⟨cs,ho,ht,hg⟩:=h
 have hl:cs.length=n*k:=ho.1
 obtain ⟨h1,h2⟩:=ho.stored m v
 exact ⟨cs.set m v,h1,Zcp (by omega) hy ht,Zeh hg h2⟩
theorem Za0.drewN {w0 w:World} {B E k g n cap m:Nat} {ys:List Value} (h:Za0 w0 w B E k g n cap m ys) (q:Nat):Za0 w0 (w.drewN q) B E k g n cap m ys:=by
 obtain ⟨cs,ho,ht,hg⟩:=h
 exact ⟨cs,ho,ht,⟨hg.os,hg.tape,hg.output,hg.size,hg.block⟩⟩
theorem Za0.own {α:Type} [Enc α] {w0 w:World} {B E g n cap:Nat} {ys:List α} (h:Za0 w0 w B E (Enc.k α) g n cap (n*Enc.k α) (flat ys)) (hn:ys.length=n):Own w B E (.slice (some ⟨g,0,none⟩) n cap) ys∧w0.grownBy w (some g):=by
 obtain ⟨cs,ho,ht,hg⟩:=h
 have hl:cs.length=n*Enc.k α:=ho.1
 have e1:(flat ys).take (n*Enc.k α)=flat ys:=List.take_of_length_le (by rw [Zch,hn]; exact Nat.le_refl _)
 rw [e1,List.take_of_length_le (by omega)] at ht
 subst ht
 refine ⟨?_,hg⟩
 unfold Own
 rw [hn]
 exact ho
theorem Zjm (b o j:Nat):(⟨b,o,none⟩:Addr).add j=⟨b,o+j,none⟩:=by unfold Addr.add; split <;> simp_all
theorem Zcm {α:Type} [Enc α] {P:Program} (w:World) {t ty e:Nat} {i:TypeInfo} (ht:P.underlying t=some (.slice e)) (hi:P.info? e=some i) {base:Nat} {v:Value} {ys:List α} (hown:Own w base e v ys) (c:Nat):
 (Builtin.append_ #[t,t] ty #[v,.slice none 0 c]).run P w=.ok v w:=by
 rcases hown.2 with ⟨rfl,h0⟩ | ⟨g,cap,cur,rfl,_,_,hnc,_⟩
 ·simp [Builtin.append_,run_underlying ht,sizeOf,typeInfo,hi,Builtin.lenOf,Builtin.firstCells]
 ·simp [Builtin.append_,run_underlying ht,sizeOf,typeInfo,hi,Builtin.lenOf,Builtin.firstCells,hnc,storeCells]
theorem Zex {α:Type} [Enc α] {P:Program} (w:World) {t ty e bytes:Nat} (T:ElT P t e (Enc.k α) bytes) {base:Nat} {v:Value} {ys:List α} (hown:Own w base e v ys)
 {B:Nat} {A:Option Addr} {c:Nat} {xs:List α} (hr:Rd w B A xs) (hbytes:(ys.length+xs.length)*bytes≤140737488355328) (h63:ys.length+xs.length≤maxLen) (hbase:base≤w.heap.size):
 ∃ v' w',(Builtin.append_ #[t,t] ty #[v,.slice A xs.length c]).run P w=.ok v' w'∧Own w' base e v' (ys++xs)∧w.grownBy w' v.ownBlock∧(v'.ownBlock=v.ownBlock∨v'.ownBlock=some w.heap.size):=by
 obtain ⟨i,z,hi,hz,hs,hb,hzs⟩:=T.info
 cases A with
 | none=>
  have hx:xs=[]:=by
   rcases Classical.em (xs=[]) with h | h
   ·exact h
   ·obtain ⟨_,_,h',_⟩:=hr h
    cases h'
  subst hx
  have hrun:=Zcm (P:=P) w (ty:=ty) T.ht hi hown c
  exact ⟨v,w,by simpa using hrun,by simpa using hown,⟨rfl,rfl,rfl,Nat.le_refl _,fun _ _ _=>rfl⟩,.inl rfl⟩
 | some ad=>
  have hnews:∀ j u,(flat xs)[j]?=some u→w.cell? (ad.add j)=some u:=by
   intro j u hu
   have hne:xs≠[]:=by rintro rfl; simp [flat] at hu
   obtain ⟨b,off,hA',_,hc⟩:=hr hne
   injection hA' with hA'
   subst hA'
   rw [Zjm]
   exact hc j u hu
  obtain ⟨v',w',hrun,h2,h3,_,h5⟩:=run_append_own_at (P:=P) w base t ty e i z (Enc.k α) bytes T.ht hi hz hs hb hzs Enc.pos v ys.length (flat ys) hown ad xs.length c (flat xs) (Zch xs) hnews (Ze6 xs) h63 hbytes hbase
  refine ⟨v',w',hrun,?_,h3,h5⟩
  have e1:(ys++xs).length=ys.length+xs.length:=List.length_append
  unfold Own
  rw [e1,ZfV]
  exact h2
theorem Up.grown' {α:Type} [Enc α] {w0 w w':World} {base e:Nat} {v:Value} {ys:List α} (h:Up w0 w) (hg:w.grownBy w' v.ownBlock) (hown:Own w base e v ys) (hb:w0.heap.size≤base):Up w0 w':=
 Below.grown h hg h.size (fun k hk=>Nat.le_trans hb (World.ownsRow.lt hown k hk).1)
theorem ZfJ {α:Type} [Enc α] {P:Program} {w:World} {o:Oper} {a:Act} {K:Act→World→Prop} {Q:Exit→Act→World→Prop} {t e bytes:Nat} (T:ElT P t e (Enc.k α) bytes)
 (s x:Operand) (ho:o.op=.call { callee:=.builtin .append,args:=#[s,x],argTypes:=#[t,t] })
 {base:Nat} {v:Value} {ys:List α} (hs:a.eval s=v) (hown:Own w base e v ys)
 {B:Nat} {A:Option Addr} {c:Nat} {xs:List α} (n:Nat) (hx:a.eval x=.slice A n c) (hn:n=xs.length) (hr:Rd w B A xs)
 (hbytes:(ys.length+xs.length)*bytes≤140737488355328) (h63:ys.length+xs.length≤maxLen) (hbase:base≤w.heap.size)
 (h:∀ v' w',Own w' base e v' (ys++xs)→w.grownBy w' v.ownBlock→(v'.ownBlock=v.ownBlock∨v'.ownBlock=some w.heap.size)→(∀ w0,w0.heap.size≤base→Up w0 w→Up w0 w')→K (a.put o.dst v') w'):
 o.wp P a w K Q:=by
 subst hn
 obtain ⟨v',w',hrun,h2,h3,h4⟩:=Zex (P:=P) w (ty:=o.type) (c:=c) T hown hr hbytes h63 hbase
 unfold Oper.wp execOp
 simp only [ho,resolve,invoke,builtin,Sem.run_bind,Sem.run_pure,Result.andThen_ok,List.map_toArray,List.map_cons,List.map_nil,hs,hx,hrun]
 exact h v' w' h2 h3 h4 fun w0 hb hu=>Up.grown' hu h3 hown hb
theorem ZcV {α:Type} [Enc α] {P:Program} {w:World} {ops:Array Oper} {rest:List Oper} {o:Oper} {a:Act} {Q:Exit→Act→World→Prop} {t e bytes:Nat} (T:ElT P t e (Enc.k α) bytes)
 (hgd:o.guard=none) (s x:Operand) (ho:o.op=.call { callee:=.builtin .append,args:=#[s,x],argTypes:=#[t,t] })
 {base:Nat} {v:Value} {ys:List α} (hs:a.eval s=v) (hown:Own w base e v ys)
 {B:Nat} {A:Option Addr} {c:Nat} {xs:List α} (n:Nat) (hx:a.eval x=.slice A n c) (hn:n=xs.length) (hr:Rd w B A xs)
 (hbytes:(ys.length+xs.length)*bytes≤140737488355328) (h63:ys.length+xs.length≤maxLen) (hbase:base≤w.heap.size)
 (h:∀ v' w',Own w' base e v' (ys++xs)→w.grownBy w' v.ownBlock→(v'.ownBlock=v.ownBlock∨v'.ownBlock=some w.heap.size)→(∀ w0,w0.heap.size≤base→Up w0 w→Up w0 w')→wpList P ops Q rest (a.put o.dst v') w'):
 wpList P ops Q (o::rest) a w:=
 wpList_plain hgd fun _ hK=>ZfJ T s x ho hs hown n hx hn hr hbytes h63 hbase fun v' w' h2 h3 h4 h5=>hK _ _ (h v' w' h2 h3 h4 h5)
end Go.Proofs.YtgdcengoopjplaaGreatDoor
namespace Go.Proofs.YtgdcengoopjplaaGreatDoor
set_option maxRecDepth 10000
open Go.RowKit Go.Lib Go.Sort
set_option linter.unusedVariables false
set_option linter.unusedSimpArgs false
set_option maxRecDepth 100000
set_option maxHeartbeats 4000000
theorem Zlc:ElT Tryz.prog 24 3 (Enc.k Int) 8:=ElT.mk' (z:=.int .i64 0) Tryz.underlying24 (by kernel_rfl) rfl
theorem Zcv (ls:List Int):flat ls=ls.map (Value.int .i64):=by
 induction ls with
 | nil=>rfl
 | cons x xs ih=>rw [Zcg,ih]; rfl
theorem own3 {w:World} {B:Nat} {v:Value} {xs:List Int} (h:Own w B 3 v xs) (hl:xs.length=3):∃ g cap cur,v=.slice (some ⟨g,0,none⟩) 3 cap∧B≤g∧w.heap[g]?=some (.cells cur 3 (0,0))∧3≤cap∧cap≤maxLen∧cur.size=cap*1∧cur.toList.take 3=xs.map (Value.int .i64):=by
 rcases h.2 with ⟨_,h0⟩ | ⟨g,cap,cur,hv,hB,hg,hnc,hcm,hcs,ht⟩
 ·omega
 ·rw [hl] at hv hnc ht
  rw [Zcv] at ht
  exact ⟨g,cap,cur,hv,hB,hg,hnc,hcm,hcs,ht⟩
theorem Zkp (W:World) (sv:Value):Calls Tryz.prog 141 #[.iface 178 sv] W fun e w'=>e=.returned (.iface 227 (RP W.heap.size))∧w'=W.alloc (.cells #[.iface 178 sv] 229):=by
 go_enter Tryz.func141,Tryz.ntmps141
 go_wp2
 go_ret
 exact ⟨rfl,rfl⟩
def srt3 (xs:List Int):List Int:=(Sort.insertionSort gtI xs.toArray 0 3).toList
theorem Zcn (lt:Int→Int→Bool) (a:Nat):∀ (j:Nat) (d:Array Int),(insInner lt a j d).size=d.size
 | 0,d=>rfl
 | j+1,d=>by
  unfold insInner
  split
  ·rw [Zcn lt a j,size_swp]
  ·rfl
theorem Zco (lt:Int→Int→Bool) (a b:Nat):∀ (n i:Nat) (d:Array Int),b-i≤n→(insOuter lt a b i d).size=d.size
 | 0,i,d,h=>by rw [insOuter,if_neg (by omega)]
 | n+1,i,d,h=>by
  rw [insOuter]
  split
  ·rw [Zco lt a b n (i+1) _ (by omega),Zcn]
  ·rfl
theorem ZgY (xs:List Int):(srt3 xs).length=xs.length:=by
 unfold srt3 Sort.insertionSort
 rw [Array.length_toList,Zco _ _ _ 3 _ _ (by omega)]
 simp
theorem ZeD (A:Option Addr) (xs:List Int) (c:Nat) (w:World) (hr:Rd w w.heap.size A xs) (hl:xs.length=3):
 Calls Tryz.prog 99 #[.slice A 3 c] w fun e w'=>∃ v,e=.returned v∧Own w' w.heap.size 3 v (srt3 xs)∧Up w w':=by
 go_enter Tryz.func99,Tryz.ntmps99
 go_wp2_with (at_builtin; refine ZcV Zlc rfl (.tmp 4) (.tmp 5) rfl (base:=w.heap.size) (ys:=[]) (by rfl) (Own.empty w _ _ 0 _ (Nat.le_refl _) (by unfold maxLen; omega) rfl) 3 (by rfl) hl.symm (hr.up (by (repeat (first | exact Up.rfl' _ | (refine Up.al _ ?_) | (refine Up.dr _ ?_) | (refine Up.dr1 ?_) | (refine Up.sc ?_ (by first | exact Nat.le_refl _ | (simp; done) | omega) _) | (refine Up.step (by assumption) ?_))))) (by simp; omega) (by unfold maxLen; simp; omega) (by first | (simp; done) | (simp; omega) | (have h_:=hB.size; omega) | (have h_:=hB.size; simp; omega)) ?_; intro v' w1 ho1 hg1 _ hu1; refine Hid.out ?_)
 refine Lib.hid ?_
 have ho:Own w1 w.heap.size 3 v' xs:=by simpa using ho1
 have hu:=hu1 w (Nat.le_refl _) (by (repeat (first | exact Up.rfl' _ | (refine Up.al _ ?_) | (refine Up.dr _ ?_) | (refine Up.dr1 ?_) | (refine Up.sc ?_ (by first | exact Nat.le_refl _ | (simp; done) | omega) _) | (refine Up.step (by assumption) ?_))))
 obtain ⟨g,cap,cur,rfl,hgB,hgh,h3,hcm,hcs,hct⟩:=own3 ho hl
 have hgl:g<w1.heap.size:=(Array.getElem?_eq_some_iff.1 hgh).1
 have hRv:=Zkp w1 (SV g 0 3 cap)
 have hg2:∀ o,(w1.alloc o).heap[g]?=some (.cells cur 3 (0,0)):=fun o=>(Below.block (Up.al o (Up.rfl' w1)) g hgl).trans hgh
 have hsz:∀ o,(w1.alloc o).heap.size=w1.heap.size+1:=fun o=>by simp
 have hS:∀ o,o=Obj.cells #[.iface 178 (SV g 0 3 cap)] 229 (0,0)→_:=fun o ho=>Zku g 0 cap w1.heap.size xs.toArray (w1.alloc o) (holds_of_blockI (hg2 o) (by rw [hl]; exact hct)) (by rw [hsz]; omega) (by simp [hl]) (by subst ho; rw [cell_of_row _ _ 0 _ _ (0,0) (heap_alloc_new w1 _)]; simp [hl]) (by rw [hsz]; omega) (by omega)
 have hS2:=hS _ rfl
 clear hS
 go_wp2_with (first
  | (go_at_call 141; refine hRv.mono ?_; rintro e w' ⟨rfl,rfl⟩)
  | (go_at_call 140; refine hS2.mono ?_; rintro e w' ⟨rfl,hSW⟩))
 go_ret
 obtain ⟨n,os,rfl⟩:=hSW
 have hlt:(srt3 xs).length=xs.length:=ZgY xs
 have hown:=ownsRow_sortedI (n:=n) (os:=os) (ss:=xs) (ts:=srt3 xs) hlt hgB (hg2 (Obj.cells #[.iface 178 (SV g 0 3 cap)] 229 (0,0))) (by omega) hcm hcs
 refine ⟨_,rfl,?_,?_⟩
 ·unfold Own
  rw [hlt,Zcv]
  rw [hl] at hown ⊢
  unfold srt3 at hown ⊢
  exact hown
 ·have hgr:=grownBy_sortedI (w:=w1.alloc (Obj.cells #[.iface 178 (SV g 0 3 cap)] 229 (0,0))) (g:=g) (n:=n) (os:=os) (Sort.insertionSort gtI xs.toArray 0 3)
  have hu2:=Up.al (Obj.cells #[.iface 178 (SV g 0 3 cap)] 229 (0,0)) hu
  exact ⟨hgr.os.trans hu2.os,hgr.tape.trans hu2.tape,hgr.output.trans hu2.output,Nat.le_trans hu2.size hgr.size,fun b hb=>(hgr.block b (Nat.lt_of_lt_of_le hb hu2.size) (by simp; omega)).trans (hu2.block b hb)⟩
end Go.Proofs.YtgdcengoopjplaaGreatDoor
namespace Go.Proofs.YtgdcengoopjplaaGreatDoor
set_option maxRecDepth 10000
open Go.RowKit
set_option linter.unusedVariables false
set_option linter.unusedSimpArgs false
theorem Zis {α:Type} [Enc α] {c:α→List PV} {T:TypeId} {S:Nat→Prop} {β:Nat→Option Blk} {w w':World} {v:Value} {ys:List α} {ω:Nat→Key→Prop} (hk:Ok w (own0 β) (E1 S β 0 ω) w []) (ho:Own w' w.heap.size T v ys) (hu:Up w w')
 (hc:∀ (x:α),(c x).length=Enc.k α∧∀ (j:Nat) (p:PV),(c x)[j]?=some p→∃ u,(Enc.cells x)[j]?=some u∧u.oneCell'=true∧∀ (w:World) (E:Env),Rep w E p u):
 ∃ E',Ok w (own0 β) E' w' [some ⟨T,Enc.k α,ys.map c⟩]∧(∀ b,S b→E'.S b)∧(∀ b,E'.S b→S b∨w.heap.size≤b∨own0 β b)∧((∀ l B,l<0→E'.β l=some B→β l=some B)∧∀ b q,E'.ω b q→ω b q∨w.heap.size≤b∨own0 β b)∧Rep w' E' (.ms 0) v:=by
 have hesl:∀ (i:Nat) (cs:List PV),(ys.map c)[i]?=some cs→cs.length=Enc.k α:=by
  intro i cs hi
  rw [List.getElem?_map] at hi
  obtain ⟨y,_,rfl⟩:=Option.map_eq_some_iff.1 hi
  exact (hc y).1
 have key:∀ (B:Blk),v=B.sv→v.oneCell'=true→(B.z=false→w.heap.size≤B.b∧B.b<w'.heap.size)→(∀ E,Zae w' E ⟨T,Enc.k α,ys.map c⟩ B)→
  ∃ E',Ok w (own0 β) E' w' [some ⟨T,Enc.k α,ys.map c⟩]∧(∀ b,S b→E'.S b)∧(∀ b,E'.S b→S b∨w.heap.size≤b∨own0 β b)∧((∀ l B,l<0→E'.β l=some B→β l=some B)∧∀ b q,E'.ω b q→ω b q∨w.heap.size≤b∨own0 β b)∧Rep w' E' (.ms 0) v:=by
  intro B hv h1 hB hb
  obtain ⟨h2,_⟩:=hk.new (ν:=0) (fun h=>absurd h (Nat.not_lt_zero 0)) ⟨T,Enc.k α,ys.map c⟩ B hu.os hu.tape hu.output hu.size (fun b hb=>hu.block b hb) hB (fun _=>hb _)
  refine ⟨_,h2,fun b h=>h,fun b h=>.inl h,⟨fun l B h=>absurd h (Nat.not_lt_zero l),fun _ _ h=>.inl h⟩,.ms 0 v (.inl rfl) h1 fun B' hB'=>?_⟩
  have:B'=B:=by simpa [Env.add,eq_comm] using hB'
  rw [this]; exact hv
 rcases ho.2 with ⟨hv,h0⟩ | ⟨g,cap,cur,hv,hB,hg,hnc,hcm,hcs,ht⟩
 ·have hy:ys=[]:=List.length_eq_zero_iff.1 h0
  subst hy
  exact key ⟨0,0,0,Enc.k α,T,true⟩ (by rw [hv]; rfl) (by rw [hv]; rfl) (fun h=>by cases h) fun E=>⟨rfl,rfl,rfl,Enc.pos,Nat.le_refl _,Nat.zero_le _,hesl,fun _=>rfl,fun h=>(by cases h),fun _ h=>by cases h⟩
 ·refine key ⟨g,cap,ys.length,Enc.k α,T,false⟩ (by rw [hv]; rfl) (by rw [hv]; rfl) (fun _=>⟨hB,(Array.getElem?_eq_some_iff.1 hg).1⟩) fun E=>⟨rfl,by simp,rfl,Enc.pos,hnc,hcm,hesl,(fun h=>by cases h),fun _=>⟨cur,hg,hcs,fun i cs j p hi hj=>?_⟩,fun _ h=>by cases h⟩
  rw [List.getElem?_map] at hi
  obtain ⟨y,hy,rfl⟩:=Option.map_eq_some_iff.1 hi
  obtain ⟨hl,hcc⟩:=hc y
  obtain ⟨u,hu1,hu2,hu3⟩:=hcc j p hj
  refine ⟨u,?_,hu2,hu3 _ _⟩
  have hf:=Zif hy hu1
  have hlt:=(List.getElem?_eq_some_iff.1 hf).1
  rw [Zch] at hlt
  have:=congrArg (fun l:List Value=>l[i*Enc.k α+j]?) ht
  have h2:(cur.toList.take (ys.length*Enc.k α))[i*Enc.k α+j]?=(flat ys)[i*Enc.k α+j]?:=this
  rw [List.getElem?_take_of_lt hlt,Array.getElem?_toList,hf] at h2
  exact h2
end Go.Proofs.YtgdcengoopjplaaGreatDoor
namespace Go.Proofs.YtgdcengoopjplaaGreatDoor
set_option maxRecDepth 10000
open Go.RowKit Go.Lib
set_option linter.unusedVariables false
set_option linter.unusedSimpArgs false
def Zaf (l:List Int):Option (List Int):=if l.length=3 then some (srt3 l) else none
theorem ZlI {w:World} {S:Nat→Prop} {xs:List Int} {x:Value} (hsz:∀ b,S b→b<w.heap.size) (h:RepC w S (.sl (xs.map cInt)) x):∃ A c,x=.slice A xs.length c∧xs.length≤c∧Rd w w.heap.size A xs:=by
 generalize hq:PV.sl (xs.map cInt)=q at h
 cases h with
 | v x h=>cases hq
 | ud=>cases hq
 | un=>cases hq
 | rp=>cases hq
 | fn=>cases hq
 | nil A c=>
  have:xs=[]:=by simpa using hq
  exact ⟨A,c,by rw [this]; rfl,by rw [this]; simp,by rw [this]; exact Rd.nil_⟩
 | sl es b off k c u hS hkp hnc hm hes hcc h1 hrr=>
  obtain rfl:xs.map cInt=es:=by simpa using hq
  refine ⟨_,c,by simp,by simpa using hnc,fun hne=>⟨b,off,rfl,hsz b hS,fun j u' hu'=>?_⟩⟩
  have hpos:0<xs.length:=List.length_pos_iff.2 hne
  have hk1:k=1:=(hes 0 (cInt xs[0]) (by simp [hpos])).symm
  subst hk1
  rw [Zcv] at hu'
  rw [List.getElem?_map] at hu'
  obtain ⟨y,hy,rfl⟩:=Option.map_eq_some_iff.1 hu'
  have hj:=(List.getElem?_eq_some_iff.1 hy).1
  have e1:(xs.map cInt)[j]?=some (cInt y):=by rw [List.getElem?_map,hy]; rfl
  have hc:=hcc j _ 0 (vi y) e1 rfl
  have hz:=hrr j _ 0 (vi y) e1 rfl
  have hz':u j 0=.int .i64 y:=by
   generalize hp:u j 0=z at hz
   cases hz with
   | v _ _=>rfl
  rw [hz'] at hc
  rw [show off+j=off+j*1+0 by omega]
  exact hc
theorem ZcA (l:List Int) {r:List Int} (H:Zaf l=some r):Za8 Tryz.prog 99 [.sl (l.map cInt)] [] (.ms 0) [some ⟨.of 3,1,r.map cInt⟩]:=by
 unfold Zaf at H
 split at H
 case isFalse=>cases H
 rename_i hl3
 obtain rfl:=Option.some.inj H
 intro S β w vs ω hk hl ha
 obtain ⟨x,hx0,hr⟩:=ha 0 _ rfl
 have hv:vs=#[x]:=by
  have h1:vs.size=1:=hl
  apply Array.ext (by simp [h1])
  intro i h2 h3
  have:i=0:=by omega
  subst this
  have:=(Array.getElem?_eq_some_iff.1 hx0).2
  simpa using this
 subst hv
 have hr0:RepC w S (.sl (l.map cInt)) x:=by cases hr with | c h=>exact h
 obtain ⟨A,c,rfl,hcap,hrd⟩:=ZlI hk.sz hr0
 rw [hl3]
 refine (ZeD A l c w hrd hl3).mono ?_
 rintro e w' ⟨v,rfl,ho,hu⟩
 obtain ⟨E',h1,h2,h3,h4,h5⟩:=Zis (c:=cInt) hk ho hu (fun x=>⟨rfl,fun j p hj=>by
  cases j with
  | zero=>obtain rfl:vi x=p:=by simpa using hj
          exact ⟨_,rfl,rfl,fun w E=>.c (.v _ rfl)⟩
  | succ j=>simp [cInt] at hj⟩)
 exact ⟨v,E',rfl,h1,h2,h3,h4,h5⟩
instance (l:List Int):CT Tryz.prog (Zaf l):=⟨99,[.sl (l.map cInt)],[],fun r=>.ms 0,fun r=>[some ⟨.of 3,1,r.map cInt⟩],ZcA l⟩
end Go.Proofs.YtgdcengoopjplaaGreatDoor
namespace Go.Proofs.YtgdcengoopjplaaGreatDoor
set_option maxRecDepth 10000
open Go.RowKit
set_option linter.unusedVariables false
set_option maxHeartbeats 16000000
def ZW (digits:Int) (s0:ByteArray):Option (ByteArray ⊕ ByteArray):=
 cond (decide ((s0.size:Int)<digits))
 ((chk (Zo (⟨#[48]⟩) s0)).bind fun _=>
 some (.inl (⟨#[48]⟩++s0)))
 (some (.inr s0))
instance (digits:Int):Zbe (ZW digits):=⟨fun s0=>(.un::vi digits::(U 3 (vs s0::(U 9 [])))),fun s0=>[]⟩
def Z5 (n:Int) (digits:Int):Option ByteArray:=
 (Za n).bind fun y1=>
 (Zg (ZW digits) NN y1).bind (fun o0=>
 some o0)
instance (n:Int) (digits:Int):CT Tryz.prog (Z5 n digits):=⟨108,[vi n,vi digits],[],fun r=>vs r,fun r=>[],fun H=>by replace H:=H0 H; unfold Z5 at H; exact Zb Tryz.func108 rfl Tryz.ntmps108 Tryz.results108 fun Q hQ hQn=>wk3⟩
def Zal (s:ByteArray) (s0:ByteArray × Int):Option ((ByteArray × Int) ⊕ (ByteArray ⊕ (ByteArray × Bool))):=
 cond (decide (s0.2<(s.size:Int)))
 ((jn 5 4 (
 (getB s s0.2).bind fun y1=>
 (Zj (IntKind.i64.wrap y1) 48 57).bind fun y2=>
 cond y2
 ((chk (slOk s0.2 (w64 (s0.2+1)) s.size)).bind fun _=>
 (chk (Zo s0.1 (subS s s0.2 (w64 (s0.2+1))))).bind fun _=>
 some (.inl (s0.1++(subS s s0.2 (w64 (s0.2+1))))))
 ((Zj (IntKind.i64.wrap y1) 65 90).bind fun y3=>
 cond y3
 ((Za (w64 ((w64 ((IntKind.i64.wrap y1)-65))+10))).bind fun y4=>
 (chk (Zo s0.1 y4)).bind fun _=>
 some (.inl (s0.1++y4)))
 (some (.inr (⟨#[]⟩,false)))):Option (ByteArray ⊕ (ByteArray × Bool))) (fun z5=>(vs s::(U 3 (vs z5::vi s0.2::(U 31 []))))) (fun z5=>[])).bind (Zac (fun z5=>
 some (.inl (z5,(w64 (s0.2+1))))) (fun r=>some (.inr (.inr r)))))
 (some (.inr (.inl s0.1)))
instance (s:ByteArray):Zbe (Zal s):=⟨fun s0=>(vs s::(U 3 (vs s0.1::vi s0.2::(U 31 [])))),fun s0=>[]⟩
def Za6 (s:ByteArray):Option (ByteArray × Bool):=
 (Zg (Zal s) NN (⟨#[]⟩,0)).bind (Zac (fun o0=>
 some (o0,true)) (fun r=>some r))
instance (s:ByteArray):CT Tryz.prog (Za6 s):=⟨143,[vs s],[],fun r=>.tu [vs r.1,vb r.2],fun r=>[],fun H=>by replace H:=H0 H; unfold Za6 at H; exact Zb Tryz.func143 rfl Tryz.ntmps143 Tryz.results143 fun Q hQ hQn=>wk3⟩
def Z4 (s:ByteArray) (s0:Int × Int):Option ((Int × Int) ⊕ (Int ⊕ Int)):=
 cond (decide (s0.2<(s.size:Int)))
 ((getB s s0.2).bind fun y1=>
 (Zj (IntKind.i64.wrap y1) 48 57).bind fun y2=>
 cond (!y2)
 (some (.inr (.inr (-1))))
 ((getB s s0.2).bind fun y3=>
 some (.inl ((Int.tmod (w64 ((w64 (10*s0.1))+(IntKind.i64.wrap (IntKind.u8.wrap (y3-48))))) 97),(w64 (s0.2+1))))))
 (some (.inr (.inl s0.1)))
instance (s:ByteArray):Zbe (Z4 s):=⟨fun s0=>(vs s::.un::.un::vi s0.1::vi s0.2::(U 24 [])),fun s0=>[]⟩
def ZaA (s:ByteArray):Option Int:=
 (Zg (Z4 s) NN (0,0)).bind (Zac (fun o0=>
 cond (decide (s=⟨#[]⟩))
 (some (-1))
 (some o0)) (fun r=>some r))
instance (s:ByteArray):CT Tryz.prog (ZaA s):=⟨144,[vs s],[],fun r=>vi r,fun r=>[],fun H=>by replace H:=H0 H; unfold ZaA at H; exact Zb Tryz.func144 rfl Tryz.ntmps144 Tryz.results144 fun Q hQ hQn=>wk3⟩
def Za1 (s:ByteArray) (s0:Int × Int):Option ((Int × Int) ⊕ (Int ⊕ Int)):=
 cond (decide (s0.2<(s.size:Int)))
 ((getB s s0.2).bind fun y1=>
 cond (decide (y1<48))
 (some (.inr (.inr (-1))))
 ((getB s s0.2).bind fun y2=>
 cond (decide (57<y2))
 (some (.inr (.inr (-1))))
 ((getB s s0.2).bind fun y3=>
 some (.inl ((Int.tmod (w64 ((w64 (10*s0.1))+(IntKind.i64.wrap (IntKind.u8.wrap (y3-48))))) 97),(w64 (s0.2+1)))))))
 (some (.inr (.inl s0.1)))
instance (s:ByteArray):Zbe (Za1 s):=⟨fun s0=>(vs s::.un::.un::vi s0.1::vi s0.2::(U 28 [])),fun s0=>[]⟩
def Zbg (s:ByteArray):Option Int:=
 (Zg (Za1 s) NN (0,0)).bind (Zac (fun o0=>
 cond (decide (s=⟨#[]⟩))
 (some (-1))
 (some o0)) (fun r=>some r))
instance (s:ByteArray):CT Tryz.prog (Zbg s):=⟨139,[vs s],[],fun r=>vi r,fun r=>[],fun H=>by replace H:=H0 H; unfold Zbg at H; exact Zb Tryz.func139 rfl Tryz.ntmps139 Tryz.results139 fun Q hQ hQn=>wk3⟩
end Go.Proofs.YtgdcengoopjplaaGreatDoor
namespace Go.Proofs.YtgdcengoopjplaaGreatDoor
set_option maxRecDepth 10000
open Go.RowKit Go.Sort
set_option linter.unusedVariables false
set_option linter.unusedSimpArgs false
set_option maxHeartbeats 1000000
theorem Zaq (a b:List UInt8):txt a++txt b=txt (a++b):=by
 apply ByteArray.ext
 rw [ByteArray.data_append]
 simp [txt]
theorem Zb8 {a b:ByteArray} (h:a.size+b.size≤B60):Zo a b=true:=by
 unfold Zo
 unfold B60 at h
 exact decide_eq_true (by omega)
theorem ZiY (k:Nat) (l:List UInt8):(48:UInt8)::(List.replicate k 48++l)=List.replicate (k+1) 48++l:=by rw [List.replicate_succ]; rfl
theorem ZK {n:Int} (h:in64 n):(Lib.itoa n).length≤21:=Lib.itoa_length_le n h.1 h.2
theorem Zdt {n:Int} {d:Nat} (h:in64 n) (hd:d≤20):Z5 n (d:Int)=some (txt (padL n d)):=by
 have hl:=ZK h
 unfold Z5
 have hF:Za n=some (txt (Lib.itoa n)):=by unfold Za; rw [if_pos h]
 rw [hF,Option.bind_some]
 have key:∀ (k N c:Nat),k=d-((Lib.itoa n).length+c)→k<N→Zg (ZW (d:Int)) N (txt (List.replicate c 48++Lib.itoa n))=some (txt (List.replicate (c+k) 48++Lib.itoa n)):=by
  intro k
  induction k with
  | zero=>
   intro N c hk hN
   cases N with
   | zero=>omega
   | succ N=>
    simp only [Zg,ZW,Ze,List.length_append,List.length_replicate]
    rw [decide_eq_false (by omega)]
    rfl
  | succ k ih=>
   intro N c hk hN
   cases N with
   | zero=>omega
   | succ N=>
    have e1:(⟨#[48]⟩:ByteArray)++txt (List.replicate c 48++Lib.itoa n)=txt (List.replicate (c+1) 48++Lib.itoa n):=by
     rw [← ZiY]; exact Zaq [48] _
    simp only [Zg,ZW]
    rw [e1,Zb8 (by rw [Ze]; simp [ByteArray.size]; unfold B60; omega),Ze]
    rw [decide_eq_true (by simp; omega)]
    have:=ih N (c+1) (by omega) (by omega)
    rw [show c+1+k=c+(k+1) by omega] at this
    exact this
 have:=key (d-(Lib.itoa n).length) NN 0 (by omega) (by unfold NN; omega)
 simp only [List.replicate_zero,List.nil_append,Nat.zero_add] at this
 rw [this]
 rfl
theorem Zfp {n:Int} {d:Nat} (h:in64 n) (hd:d≤20):Z9 n (d:Int)=some (txt (padL n d)):=by
 unfold Z9
 rw [if_pos ⟨h,by omega,by omega⟩]
 rfl
theorem Zeq {n:Int} {d:Nat} (h:in64 n) (hd:d≤20):(padL n d).length≤21:=by
 have:=ZK h
 unfold padL
 simp
 omega
theorem Zg2 {y:Int} (h:0≤y∧y≤255):IntKind.i64.wrap y=y:=Zcs ⟨by omega,by omega⟩
theorem Zj4:@Zbg=@ZaA:=by
 have e:@Za1=@Z4:=by
  funext s s0
  unfold Za1 Z4
  cases hd:decide (s0.2<(s.size:Int))
  ·rfl
  simp only [cond_true]
  cases hy:getB s s0.2 with
  | none=>rfl
  | some y=>
   have hw:=ZfX hy
   simp only [Option.bind_some,Zg2 hw,Zbp]
   by_cases h1:y<48
   ·rw [decide_eq_true h1,decide_eq_false (show ¬ 48≤y by omega)]; rfl
   ·rw [decide_eq_false h1,decide_eq_true (show 48≤y by omega)]
    by_cases h2:57<y
    ·rw [decide_eq_true h2,decide_eq_false (show ¬ y≤57 by omega)]; rfl
    ·rw [decide_eq_false h2,decide_eq_true (show y≤57 by omega)]; rfl
 funext s
 unfold Zbg ZaA
 rw [e]
theorem Zir {s:ByteArray} (h:s.size<NN):∃ m,ZaA s=some m:=by
 have ht:∃ o,Zg (Z4 s) NN (0,0)=some o:=by
  refine ZgL (fun k s0=>∃ i:Nat,i+k=s.size∧s0.2=(i:Int)) ?_ NN s.size (0,0) ⟨0,by omega,rfl⟩ h
  rintro k ⟨m,x⟩ ⟨i,hi,hx⟩
  simp only at hx
  subst hx
  unfold Z4
  by_cases hlt:i<s.size
  ·obtain ⟨y,hy⟩:=Ze7 hlt
   have hw:=ZfX hy
   simp only [hy,Option.bind_some,Zg2 hw,Zbp,decide_eq_true (show (i:Int)<(s.size:Int) by omega),cond_true]
   cases (decide (48≤y) && decide (y≤57))
   ·exact ⟨_,rfl,fun s' e=>by cases e⟩
   ·refine ⟨_,rfl,fun s' e=>?_⟩
    cases e
    exact ⟨k-1,by omega,i+1,by omega,Zbi hlt (by unfold NN at h; omega)⟩
  ·simp only [decide_eq_false (show ¬ (i:Int)<(s.size:Int) by omega),cond_false]
   exact ⟨_,rfl,fun s' e=>by cases e⟩
 obtain ⟨o,ho⟩:=ht
 unfold ZaA
 rw [ho]
 cases o with
 | inl a=>simp only [Option.bind_some,Zac]; cases decide (s=⟨#[]⟩) <;> exact ⟨_,rfl⟩
 | inr r=>exact ⟨_,rfl⟩
theorem ZgE {l:List UInt8} {i:Nat} {c:UInt8} (h:l[i]?=some c):getB (txt l) (i:Int)=some (c.toNat:Int):=by
 have hlt:=(List.getElem?_eq_some_iff.1 h).1
 unfold getB
 rw [if_pos ⟨by omega,by rw [Ze]; omega⟩]
 unfold ZdT
 have hb:(txt l)[i]?=some c:=by
  have hs:i<(txt l).size:=by rw [Ze]; exact hlt
  rw [getElem?_pos (txt l) i hs,← Zje l i hs,h]
 rw [Int.toNat_natCast,hb]
 rfl
theorem Zkw {l:List UInt8} {i:Nat} {c:UInt8} (h:l[i]?=some c):subS (txt l) (i:Int) ((i+1:Nat):Int)=txt [c]:=by
 unfold subS
 apply ByteArray.ext
 rw [ByteArray.data_extract]
 simp only [txt,Int.toNat_natCast]
 apply Array.toList_inj.1
 rw [Array.toList_extract]
 simp only [List.extract_eq_take_drop]
 have hlt:=(List.getElem?_eq_some_iff.1 h).1
 rw [show i+1-i=1 by omega]
 apply List.ext_getElem?
 intro n
 rw [List.getElem?_take]
 cases n with
 | zero=>simp [h]
 | succ n=>simp
theorem ZfS {l:List UInt8} (hl:l.length≤100000):Za6 (txt l)=some (txt ((dgts l).getD []),(dgts l).isSome):=by
 have key:∀ (k N i:Nat) (acc:List UInt8),i+k=l.length→k<N→dgts (l.take i)=some acc→acc.length≤21*i→
  Zg (Zal (txt l)) N (txt acc,(i:Int))=some (match dgts l with | some a=>.inl (txt a) | none=>.inr (⟨#[]⟩,false)):=by
  intro k
  induction k with
  | zero=>
   intro N i acc hi hN ha hal
   cases N with
   | zero=>omega
   | succ N=>
    obtain rfl:i=l.length:=by omega
    rw [List.take_length] at ha
    simp only [Zg,Zal,Ze]
    rw [decide_eq_false (by omega),ha]
    rfl
  | succ k ih=>
   intro N i acc hi hN ha hal
   cases N with
   | zero=>omega
   | succ N=>
    have hlt:i<l.length:=by omega
    obtain ⟨c,hc⟩:∃ c,l[i]?=some c:=⟨_,List.getElem?_eq_getElem hlt⟩
    have hcl:=c.toNat_lt
    have htk:dgts (l.take (i+1))=match some acc,dgt c with
     | some a,some b=>some (a++b)
     | _,_=>none:=by
     rw [List.take_add_one,hc,show (some c).toList=[c] from rfl,Ze4,ha] <;> rfl
    have hw:IntKind.i64.wrap (c.toNat:Int)=(c.toNat:Int):=Zg2 ⟨by omega,by omega⟩
    have h1:w64 ((i:Int)+1)=((i+1:Nat):Int):=Zbi hlt (by omega)
    simp only [Zg,Zal,jn,Ze,ZgE hc,hw,Zbp,h1,Zkw hc,Option.bind_some]
    rw [decide_eq_true (show (i:Int)<(l.length:Int) by omega)]
    by_cases hd1:48≤c.toNat∧c.toNat≤57
    ·have hd:dgt c=some [c]:=by unfold dgt; rw [if_pos hd1]
     rw [hd] at htk
     rw [decide_eq_true (show (48:Int)≤(c.toNat:Int) by omega),decide_eq_true (show (c.toNat:Int)≤57 by omega),Zb8 (by rw [Ze,Ze]; simp; unfold B60; omega),ZcQ (show slOk (i:Int) ((i+1:Nat):Int) l.length=true by unfold slOk; exact decide_eq_true (by omega)),Zaq]
     exact ih N (i+1) (acc++[c]) (by omega) (by omega) htk (by simp; omega)
    ·by_cases hd2:65≤c.toNat∧c.toNat≤90
     ·have hd:dgt c=some (Lib.itoa ((c.toNat-55:Nat):Int)):=by unfold dgt; rw [if_neg hd1,if_pos hd2]
      have hdl:=ZfQ hd
      rw [hd] at htk
      have e1:(decide ((48:Int)≤(c.toNat:Int)) && decide ((c.toNat:Int)≤57))=false:=by
       rw [decide_eq_false (show ¬ (c.toNat:Int)≤57 by omega),Bool.and_false]
      have e2:w64 (w64 ((c.toNat:Int)-65)+10)=((c.toNat-55:Nat):Int):=by
       rw [Zcs (n:=(c.toNat:Int)-65) ⟨by omega,by omega⟩,Zcs (n:=(c.toNat:Int)-65+10) ⟨by omega,by omega⟩]; omega
      have e3:Za ((c.toNat-55:Nat):Int)=some (txt (Lib.itoa ((c.toNat-55:Nat):Int))):=by
       unfold Za; rw [if_pos ⟨by omega,by omega⟩]
      rw [e1,decide_eq_true (show (65:Int)≤(c.toNat:Int) by omega),decide_eq_true (show (c.toNat:Int)≤90 by omega),e2,e3]
      simp only [Bool.and_true,cond_false,cond_true,Option.bind_some]
      rw [Zb8 (by rw [Ze,Ze]; unfold B60; omega),Zaq]
      exact ih N (i+1) _ (by omega) (by omega) htk (by simp; omega)
     ·have hd:dgt c=none:=by unfold dgt; rw [if_neg hd1,if_neg hd2]
      have hn:=Ze3 hc hd
      have e1:(decide ((48:Int)≤(c.toNat:Int)) && decide ((c.toNat:Int)≤57))=false:=by
       by_cases h:48≤c.toNat
       ·rw [decide_eq_false (show ¬ (c.toNat:Int)≤57 by omega),Bool.and_false]
       ·rw [decide_eq_false (show ¬ (48:Int)≤(c.toNat:Int) by omega),Bool.false_and]
      have e2:(decide ((65:Int)≤(c.toNat:Int)) && decide ((c.toNat:Int)≤90))=false:=by
       by_cases h:65≤c.toNat
       ·rw [decide_eq_false (show ¬ (c.toNat:Int)≤90 by omega),Bool.and_false]
       ·rw [decide_eq_false (show ¬ (65:Int)≤(c.toNat:Int) by omega),Bool.false_and]
      rw [e1,e2,hn]
      rfl
 have:=key l.length NN 0 [] (by omega) (by unfold NN; omega) (by simp [dgts]) (by simp)
 unfold Za6
 rw [show (⟨#[]⟩:ByteArray)=txt [] from rfl,show (0:Int)=((0:Nat):Int) from rfl,this]
 cases dgts l <;> rfl
theorem Zia {l:List UInt8} (hl:l.length≤100000):ZaE (txt l)=some (txt ((dgts l).getD []),(dgts l).isSome):=by
 unfold ZaE
 rw [if_pos (by rw [Ze]; omega)]
 rfl
end Go.Proofs.YtgdcengoopjplaaGreatDoor
namespace Go.Proofs.YtgdcengoopjplaaGreatDoor
set_option maxRecDepth 10000
open Go.RowKit
set_option linter.unusedVariables false
set_option maxHeartbeats 16000000
def Z2 (l:List Int) (s0:Int):Option (Int ⊕ (Unit ⊕ Bool)):=
 cond (decide (s0<(l.length:Int)))
 ((getI l s0).bind fun y1=>
 (Zi y1 1 2000).bind fun y2=>
 cond (!y2)
 (some (.inr (.inr false)))
 (some (.inl (w64 (s0+1)))))
 (some (.inr (.inl ())))
instance (l:List Int):Zbe (Z2 l):=⟨fun s0=>(.sl (l.map cInt)::(U 4 (.sl (l.map cInt)::vi (l.length:Int)::vi s0::(U 10 [])))),fun s0=>[]⟩
def ZP (l:List Int):Option Bool:=
 (Zg (Z2 l) NN 0).bind (Zac (fun o0=>
 some (decide ((l.length:Int)=3))) (fun r=>some r))
instance (l:List Int):CT Tryz.prog (ZP l):=⟨72,[.sl (l.map cInt)],[],fun r=>vb r,fun r=>[],fun H=>by replace H:=H0 H; unfold ZP at H; exact Zb Tryz.func72 rfl Tryz.ntmps72 Tryz.results72 fun Q hQ hQn=>wk3⟩
def ZaM (sides:List Int):Option Int:=
 (ZP sides).bind fun y1=>
 cond (!y1)
 (some 0)
 ((Zaf sides).bind fun y2=>
 (getI y2 0).bind fun y3=>
 (getI y2 1).bind fun y4=>
 (getI y2 2).bind fun y5=>
 some (w64 ((w64 (y3+(w64 (2*y4))))+(w64 (2*y5)))))
instance (sides:List Int):CT Tryz.prog (ZaM sides):=⟨73,[.sl (sides.map cInt)],[],fun r=>vi r,fun r=>[],fun H=>by replace H:=H0 H; unfold ZaM at H; exact Zb Tryz.func73 rfl Tryz.ntmps73 Tryz.results73 fun Q hQ hQn=>wk3⟩
def Zy (l:Zn):Option Bool:=
 (Zi l.service 1 3).bind fun y1=>
 cond y1
 ((Zi l.serial 0 999999999).bind fun y2=>
 cond y2
 ((ZM l.to_).bind fun y3=>
 some y3)
 (some false))
 (some false)
instance (l:Zn):CT Tryz.prog (Zy l):=⟨70,[.ag (ZaT l)],[],fun r=>vb r,fun r=>[],fun H=>by replace H:=H0 H; unfold Zy at H; exact Zb Tryz.func70 rfl Tryz.ntmps70 Tryz.results70 fun Q hQ hQn=>wk3⟩
def ZR (p:Zm):Option Bool:=
 (Zy p.label).bind fun y1=>
 cond y1
 ((ZM p.from_).bind fun y2=>
 cond y2
 (cond (!decide (p.from_=p.label.to_))
 ((Zi p.weight 1 30000).bind fun y3=>
 cond y3
 ((ZP p.sides).bind fun y4=>
 cond y4
 ((ZaM p.sides).bind fun y5=>
 cond (decide (y5≤3600))
 ((Zi p.value 0 500000).bind fun y6=>
 some y6)
 (some false))
 (some false))
 (some false))
 (some false))
 (some false))
 (some false)
instance (p:Zm):CT Tryz.prog (ZR p):=⟨47,[.ag (Zat p)],[],fun r=>vb r,fun r=>[],fun H=>by replace H:=H0 H; unfold ZR at H; exact Zb Tryz.func47 rfl Tryz.ntmps47 Tryz.results47 fun Q hQ hQn=>wk3⟩
def ZS (a:List Int) (b:List Int) (s0:Int):Option (Int ⊕ (Unit ⊕ Bool)):=
 cond (decide (s0<(a.length:Int)))
 ((getI a s0).bind fun y1=>
 (getI b s0).bind fun y2=>
 cond (!decide (y1=y2))
 (some (.inr (.inr false)))
 (some (.inl (w64 (s0+1)))))
 (some (.inr (.inl ())))
instance (a:List Int) (b:List Int):Zbe (ZS a b):=⟨fun s0=>(.sl (a.map cInt)::.sl (b.map cInt)::(U 10 (vi (a.length:Int)::vi s0::(U 12 [])))),fun s0=>[]⟩
def Zag (a:List Int) (b:List Int):Option Bool:=
 cond (!decide ((a.length:Int)=(b.length:Int)))
 (some false)
 ((Zg (ZS a b) NN 0).bind (Zac (fun o0=>
 some true) (fun r=>some r)))
instance (a:List Int) (b:List Int):CT Tryz.prog (Zag a b):=⟨100,[.sl (a.map cInt),.sl (b.map cInt)],[],fun r=>vb r,fun r=>[],fun H=>by replace H:=H0 H; unfold Zag at H; exact Zb Tryz.func100 rfl Tryz.ntmps100 Tryz.results100 fun Q hQ hQn=>wk3⟩
def ZV (a:Zm) (b:Zm):Option Bool:=
 cond (decide (a.label=b.label))
 (cond (decide (a.from_=b.from_))
 (cond (decide (a.weight=b.weight))
 ((Zag a.sides b.sides).bind fun y1=>
 cond y1
 (some (decide (a.value=b.value)))
 (some false))
 (some false))
 (some false))
 (some false)
instance (a:Zm) (b:Zm):CT Tryz.prog (ZV a b):=⟨74,[.ag (Zat a),.ag (Zat b)],[],fun r=>vb r,fun r=>[],fun H=>by replace H:=H0 H; unfold ZV at H; exact Zb Tryz.func74 rfl Tryz.ntmps74 Tryz.results74 fun Q hQ hQn=>wk3⟩
def Zav (a:YAct) (b:YAct):Option Bool:=
 cond (decide (a.kind=b.kind))
 ((ZV a.parcel b.parcel).bind fun y1=>
 cond y1
 (cond (decide (a.order=b.order))
 (cond (decide (a.amount=b.amount))
 (cond (decide (a.until_=b.until_))
 (some (decide (a.trip=b.trip)))
 (some false))
 (some false))
 (some false))
 (some false))
 (some false)
instance (a:YAct) (b:YAct):CT Tryz.prog (Zav a b):=⟨49,[.ag (cAct a),.ag (cAct b)],[],fun r=>vb r,fun r=>[],fun H=>by replace H:=H0 H; unfold Zav at H; exact Zb Tryz.func49 rfl Tryz.ntmps49 Tryz.results49 fun Q hQ hQn=>wk3⟩
def ZL (a:YAct):Option Bool:=
 (jn 3 22 (
 cond (decide (a.kind=1))
 ((ZR a.parcel).bind fun y1=>
 some (.inl (y1,a.parcel.label.service,a.parcel.label.serial,a.parcel.label.to_,a.parcel.from_,a.parcel.weight,a.parcel.sides,a.parcel.value,0,0,0,0,0)))
 (cond (decide (a.kind=2))
 ((Zi a.order 1 9999).bind fun y2=>
 cond y2
 ((Zi a.amount 1 100000).bind fun y3=>
 some (.inl (y3,0,0,⟨#[]⟩,⟨#[]⟩,0,[],0,a.order,a.amount,0,0,0)))
 (some (.inl (false,0,0,⟨#[]⟩,⟨#[]⟩,0,[],0,a.order,a.amount,0,0,0))))
 (cond (decide (a.kind=3))
 ((Zi a.until_ 0 100000).bind fun y4=>
 some (.inl (y4,0,0,⟨#[]⟩,⟨#[]⟩,0,[],0,0,0,a.until_,0,0)))
 (cond (decide (a.kind=4))
 ((Zi a.trip.leg 0 19).bind fun y5=>
 cond y5
 ((Zi a.trip.day 0 60).bind fun y6=>
 some (.inl (y6,0,0,⟨#[]⟩,⟨#[]⟩,0,[],0,0,0,0,a.trip.leg,a.trip.day)))
 (some (.inl (false,0,0,⟨#[]⟩,⟨#[]⟩,0,[],0,0,0,0,a.trip.leg,a.trip.day))))
 (cond (decide (a.kind=5))
 (some (.inl (true,0,0,⟨#[]⟩,⟨#[]⟩,0,[],0,0,0,0,0,0)))
 (cond (decide (a.kind=6))
 ((Zi a.order 1 9999).bind fun y7=>
 some (.inl (y7,0,0,⟨#[]⟩,⟨#[]⟩,0,[],0,a.order,0,0,0,0)))
 (some (.inl (false,0,0,⟨#[]⟩,⟨#[]⟩,0,[],0,0,0,0,0,0)))))))):Option ((Bool × Int × Int × ByteArray × ByteArray × Int × (List Int) × Int × Int × Int × Int × Int × Int) ⊕ Empty)) (fun z8=>(.un::.be 0 0 0::.un::.be 1 0 0::vb z8.1::(U 68 []))) (fun z8=>[some ⟨.of 30,13,[[vi a.kind,vi a.parcel.label.service,vi a.parcel.label.serial,vs a.parcel.label.to_,vs a.parcel.from_,vi a.parcel.weight,.sl (a.parcel.sides.map cInt),vi a.parcel.value,vi a.order,vi a.amount,vi a.until_,vi a.trip.leg,vi a.trip.day]]⟩,some ⟨.of 30,13,[[vi a.kind,vi z8.2.1,vi z8.2.2.1,vs z8.2.2.2.1,vs z8.2.2.2.2.1,vi z8.2.2.2.2.2.1,.sl (z8.2.2.2.2.2.2.1.map cInt),vi z8.2.2.2.2.2.2.2.1,vi z8.2.2.2.2.2.2.2.2.1,vi z8.2.2.2.2.2.2.2.2.2.1,vi z8.2.2.2.2.2.2.2.2.2.2.1,vi z8.2.2.2.2.2.2.2.2.2.2.2.1,vi z8.2.2.2.2.2.2.2.2.2.2.2.2]]⟩])).bind (Zac (fun z8=>
 cond z8.1
 ((Zav a (⟨a.kind,(⟨(⟨z8.2.1,z8.2.2.1,z8.2.2.2.1⟩:Zn),z8.2.2.2.2.1,z8.2.2.2.2.2.1,z8.2.2.2.2.2.2.1,z8.2.2.2.2.2.2.2.1⟩:Zm),z8.2.2.2.2.2.2.2.2.1,z8.2.2.2.2.2.2.2.2.2.1,z8.2.2.2.2.2.2.2.2.2.2.1,(⟨z8.2.2.2.2.2.2.2.2.2.2.2.1,z8.2.2.2.2.2.2.2.2.2.2.2.2⟩:ZaY)⟩:YAct)).bind fun y9=>
 some y9)
 (some false)) (fun r=>nomatch r))
instance (a:YAct):CT Tryz.prog (ZL a):=⟨20,[.ag (cAct a)],[],fun r=>vb r,fun r=>[],fun H=>by replace H:=H0 H; unfold ZL at H; exact Zb Tryz.func20 rfl Tryz.ntmps20 Tryz.results20 fun Q hQ hQn=>wk3⟩
def Za7 (l:List Int):Option (List Int):=
 (chk (ZdC ((([]:List Int):List Int).length+(l:List Int).length) 8)).bind fun _=>
 some ((([]:List Int):List Int)++l)
instance (l:List Int):CT Tryz.prog (Za7 l):=⟨142,[.sl (l.map cInt)],[],fun r=>.ms 0,fun r=>[some ⟨.of 3,1,r.map cInt⟩],fun H=>by replace H:=H0 H; unfold Za7 at H; exact Zb Tryz.func142 rfl Tryz.ntmps142 Tryz.results142 fun Q hQ hQn=>wk3⟩
def Zc (l:List Int) (s0:Int × (List Int)) (s1:Int):Option (Int ⊕ Int):=
 cond (decide (s1<(s0.2.length:Int)))
 ((getI s0.2 s1).bind fun y1=>
 (getI l s0.1).bind fun y2=>
 cond (decide (y2≤y1))
 (some (.inl (w64 (s1+1))))
 (some (.inr s1)))
 (some (.inr s1))
instance (l:List Int) (s0:Int × (List Int)):Zbe (Zc l s0):=⟨fun s1=>(.sl (l.map cInt)::.un::.un::.ms 0::vi s0.1::vi s1::(U 39 [])),fun s1=>[some ⟨.of 3,1,s0.2.map cInt⟩]⟩
def Zq (l:List Int) (s0:Int × (List Int)):Option ((Int × (List Int)) ⊕ (List Int)):=
 cond (decide (s0.1<(l.length:Int)))
 ((Zg (Zc l s0) NN 0).bind (fun o1=>
 (chk (slOk 0 o1 s0.2.length)).bind fun _=>
 (Za7 (subL s0.2 0 o1)).bind fun y3=>
 (getI l s0.1).bind fun y4=>
 (chk (ZdC ((y3:List Int).length+([y4]:List Int).length) 8)).bind fun _=>
 (chk (slOk o1 (s0.2.length:Int) s0.2.length)).bind fun _=>
 (chk (ZdC ((((y3:List Int)++[y4]):List Int).length+((subL s0.2 o1 (s0.2.length:Int)):List Int).length) 8)).bind fun _=>
 some (.inl ((w64 (s0.1+1)),((((y3:List Int)++[y4]):List Int)++(subL s0.2 o1 (s0.2.length:Int)))))))
 (some (.inr s0.2))
instance (l:List Int):Zbe (Zq l):=⟨fun s0=>(.sl (l.map cInt)::.un::.un::.ms 0::vi s0.1::(U 40 [])),fun s0=>[some ⟨.of 3,1,s0.2.map cInt⟩]⟩
def Zan (l:List Int):Option (List Int):=
 (Zg (Zq l) NN (0,([]:List Int))).bind (fun o0=>
 some o0)
instance (l:List Int):CT Tryz.prog (Zan l):=⟨101,[.sl (l.map cInt)],[],fun r=>.ms 0,fun r=>[some ⟨.of 3,1,r.map cInt⟩],fun H=>by replace H:=H0 H; unfold Zan at H; exact Zb Tryz.func101 rfl Tryz.ntmps101 Tryz.results101 fun Q hQ hQn=>wk3⟩
def Zx (l:List Int) (s0:Int):Option (Int ⊕ (Unit ⊕ Bool)):=
 cond (decide (s0<(l.length:Int)))
 ((getI l s0).bind fun y1=>
 (Zj y1 1 2000).bind fun y2=>
 cond (!y2)
 (some (.inr (.inr false)))
 (some (.inl (w64 (s0+1)))))
 (some (.inr (.inl ())))
instance (l:List Int):Zbe (Zx l):=⟨fun s0=>(.sl (l.map cInt)::.un::.un::vi s0::(U 15 [])),fun s0=>[]⟩
def ZN (l:List Int):Option Bool:=
 (Zg (Zx l) NN 0).bind (Zac (fun o0=>
 some (decide ((l.length:Int)=3))) (fun r=>some r))
instance (l:List Int):CT Tryz.prog (ZN l):=⟨77,[.sl (l.map cInt)],[],fun r=>vb r,fun r=>[],fun H=>by replace H:=H0 H; unfold ZN at H; exact Zb Tryz.func77 rfl Tryz.ntmps77 Tryz.results77 fun Q hQ hQn=>wk3⟩
def Zao (sides:List Int):Option Int:=
 (ZN sides).bind fun y1=>
 cond (!y1)
 (some 0)
 ((Zan sides).bind fun y2=>
 (getI y2 0).bind fun y3=>
 (getI y2 1).bind fun y4=>
 (getI y2 2).bind fun y5=>
 some (w64 ((w64 (y3+(w64 (2*y4))))+(w64 (2*y5)))))
instance (sides:List Int):CT Tryz.prog (Zao sides):=⟨78,[.sl (sides.map cInt)],[],fun r=>vi r,fun r=>[],fun H=>by replace H:=H0 H; unfold Zao at H; exact Zb Tryz.func78 rfl Tryz.ntmps78 Tryz.results78 fun Q hQ hQn=>wk3⟩
def Zp (l:Zn):Option Bool:=
 (Zj l.service 1 3).bind fun y1=>
 cond y1
 ((Zj l.serial 0 999999999).bind fun y2=>
 cond y2
 ((Zh l.to_).bind fun y3=>
 some y3)
 (some false))
 (some false)
instance (l:Zn):CT Tryz.prog (Zp l):=⟨75,[.ag (ZaT l)],[],fun r=>vb r,fun r=>[],fun H=>by replace H:=H0 H; unfold Zp at H; exact Zb Tryz.func75 rfl Tryz.ntmps75 Tryz.results75 fun Q hQ hQn=>wk3⟩
def Zz (p:Zm):Option Bool:=
 (Zp p.label).bind fun y1=>
 cond y1
 ((Zh p.from_).bind fun y2=>
 cond y2
 (cond (!decide (p.from_=p.label.to_))
 ((Zj p.weight 1 30000).bind fun y3=>
 cond y3
 ((ZN p.sides).bind fun y4=>
 cond y4
 ((Zao p.sides).bind fun y5=>
 cond (decide (y5≤3600))
 ((Zj p.value 0 500000).bind fun y6=>
 some y6)
 (some false))
 (some false))
 (some false))
 (some false))
 (some false))
 (some false)
instance (p:Zm):CT Tryz.prog (Zz p):=⟨50,[.ag (Zat p)],[],fun r=>vb r,fun r=>[],fun H=>by replace H:=H0 H; unfold Zz at H; exact Zb Tryz.func50 rfl Tryz.ntmps50 Tryz.results50 fun Q hQ hQn=>wk3⟩
def ZaX (a:YAct):Option Bool:=
 (jn 2 7 (
 cond (decide (a.kind=1))
 ((Zz a.parcel).bind fun y1=>
 cond (!y1)
 (some (.inr false))
 (some (.inl ())))
 (cond (!decide (a.parcel.label=(⟨0,0,⟨#[]⟩⟩:Zn)))
 (some (.inr false))
 (cond (!decide (a.parcel.from_=⟨#[]⟩))
 (some (.inr false))
 (cond (!decide (a.parcel.weight=0))
 (some (.inr false))
 (cond (decide (0<(a.parcel.sides.length:Int)))
 (some (.inr false))
 (cond (!decide (a.parcel.value=0))
 (some (.inr false))
 (some (.inl ()))))))):Option (Unit ⊕ Bool)) (fun z2=>(.un::.be 0 0 0::(U 129 []))) (fun z2=>[some ⟨.of 30,13,[[vi a.kind,vi a.parcel.label.service,vi a.parcel.label.serial,vs a.parcel.label.to_,vs a.parcel.from_,vi a.parcel.weight,.sl (a.parcel.sides.map cInt),vi a.parcel.value,vi a.order,vi a.amount,vi a.until_,vi a.trip.leg,vi a.trip.day]]⟩])).bind (Zac (fun z2=>
 (jn 7 8 (
 cond (decide (a.kind=2))
 (some (.inl true))
 (some (.inl (decide (a.kind=6)))):Option (Bool ⊕ Empty)) (fun z3=>(.un::.be 0 0 0::.un::.un::vb z3::(U 126 []))) (fun z3=>[some ⟨.of 30,13,[[vi a.kind,vi a.parcel.label.service,vi a.parcel.label.serial,vs a.parcel.label.to_,vs a.parcel.from_,vi a.parcel.weight,.sl (a.parcel.sides.map cInt),vi a.parcel.value,vi a.order,vi a.amount,vi a.until_,vi a.trip.leg,vi a.trip.day]]⟩])).bind (Zac (fun z3=>
 (jn 8 10 (
 cond z3
 ((Zj a.order 1 9999).bind fun y4=>
 cond (!y4)
 (some (.inr false))
 (cond (!z3)
 (cond (!decide (a.order=0))
 (some (.inr false))
 (some (.inl ())))
 (some (.inl ()))))
 (cond (!z3)
 (cond (!decide (a.order=0))
 (some (.inr false))
 (some (.inl ())))
 (some (.inl ()))):Option (Unit ⊕ Bool)) (fun z5=>(.un::.be 0 0 0::(U 129 []))) (fun z5=>[some ⟨.of 30,13,[[vi a.kind,vi a.parcel.label.service,vi a.parcel.label.serial,vs a.parcel.label.to_,vs a.parcel.from_,vi a.parcel.weight,.sl (a.parcel.sides.map cInt),vi a.parcel.value,vi a.order,vi a.amount,vi a.until_,vi a.trip.leg,vi a.trip.day]]⟩])).bind (Zac (fun z5=>
 (jn 10 12 (
 cond (decide (a.kind=2))
 ((Zj a.amount 1 100000).bind fun y6=>
 cond (!y6)
 (some (.inr false))
 (cond (!decide (a.kind=2))
 (cond (!decide (a.amount=0))
 (some (.inr false))
 (some (.inl ())))
 (some (.inl ()))))
 (cond (!decide (a.kind=2))
 (cond (!decide (a.amount=0))
 (some (.inr false))
 (some (.inl ())))
 (some (.inl ()))):Option (Unit ⊕ Bool)) (fun z7=>(.un::.be 0 0 0::(U 129 []))) (fun z7=>[some ⟨.of 30,13,[[vi a.kind,vi a.parcel.label.service,vi a.parcel.label.serial,vs a.parcel.label.to_,vs a.parcel.from_,vi a.parcel.weight,.sl (a.parcel.sides.map cInt),vi a.parcel.value,vi a.order,vi a.amount,vi a.until_,vi a.trip.leg,vi a.trip.day]]⟩])).bind (Zac (fun z7=>
 (jn 12 14 (
 cond (decide (a.kind=3))
 ((Zj a.until_ 0 100000).bind fun y8=>
 cond (!y8)
 (some (.inr false))
 (cond (!decide (a.kind=3))
 (cond (!decide (a.until_=0))
 (some (.inr false))
 (some (.inl ())))
 (some (.inl ()))))
 (cond (!decide (a.kind=3))
 (cond (!decide (a.until_=0))
 (some (.inr false))
 (some (.inl ())))
 (some (.inl ()))):Option (Unit ⊕ Bool)) (fun z9=>(.un::.be 0 0 0::(U 129 []))) (fun z9=>[some ⟨.of 30,13,[[vi a.kind,vi a.parcel.label.service,vi a.parcel.label.serial,vs a.parcel.label.to_,vs a.parcel.from_,vi a.parcel.weight,.sl (a.parcel.sides.map cInt),vi a.parcel.value,vi a.order,vi a.amount,vi a.until_,vi a.trip.leg,vi a.trip.day]]⟩])).bind (Zac (fun z9=>
 (jn 14 16 (
 cond (decide (a.kind=4))
 ((Zj a.trip.leg 0 19).bind fun y10=>
 cond (!y10)
 (some (.inr false))
 ((Zj a.trip.day 0 60).bind fun y11=>
 cond (!y11)
 (some (.inr false))
 (cond (!decide (a.kind=4))
 (cond (!decide (a.trip=(⟨0,0⟩:ZaY)))
 (some (.inr false))
 (some (.inl ())))
 (some (.inl ())))))
 (cond (!decide (a.kind=4))
 (cond (!decide (a.trip=(⟨0,0⟩:ZaY)))
 (some (.inr false))
 (some (.inl ())))
 (some (.inl ()))):Option (Unit ⊕ Bool)) (fun z12=>(.un::.be 0 0 0::(U 129 []))) (fun z12=>[some ⟨.of 30,13,[[vi a.kind,vi a.parcel.label.service,vi a.parcel.label.serial,vs a.parcel.label.to_,vs a.parcel.from_,vi a.parcel.weight,.sl (a.parcel.sides.map cInt),vi a.parcel.value,vi a.order,vi a.amount,vi a.until_,vi a.trip.leg,vi a.trip.day]]⟩])).bind (Zac (fun z12=>
 (Zj a.kind 1 6).bind fun y13=>
 some y13) (fun r=>some r))) (fun r=>some r))) (fun r=>some r))) (fun r=>some r))) (fun r=>nomatch r))) (fun r=>some r))
instance (a:YAct):CT Tryz.prog (ZaX a):=⟨21,[.ag (cAct a)],[],fun r=>vb r,fun r=>[],fun H=>by replace H:=H0 H; unfold ZaX at H; exact Zb Tryz.func21 rfl Tryz.ntmps21 Tryz.results21 fun Q hQ hQn=>wk3⟩
end Go.Proofs.YtgdcengoopjplaaGreatDoor
namespace Go.Proofs.YtgdcengoopjplaaGreatDoor
set_option maxRecDepth 10000
open Go.RowKit Go.Sort
set_option linter.unusedVariables false
set_option linter.unusedSimpArgs false
set_option maxHeartbeats 1000000
theorem Zjd:@Z2=@Zx:=by
 funext l i; unfold Z2 Zx; rw [Zct]
theorem Zg0 (l:List Int):ZP l=ZN l:=by
 unfold ZP ZN; rw [Zjd]
def ZcP (l:List Int):Bool:=l.all (fun n=>decide (1≤n) && decide (n≤2000)) && decide ((l.length:Int)=3)
theorem Zgi {l:List Int} (h:l.length<NN):ZN l=some (ZcP l):=by
 have e:Zg (Zx l) NN 0=some (if l.any (fun n=>!(decide (1≤n) && decide (n≤2000)))=true then .inr false else .inl ()):=by
  refine Zim (fun i hi=>?_) ?_ h
  ·have hx:l[i]?=some l[i]:=List.getElem?_eq_getElem hi
   have hw:=Zbi hi (by unfold NN at h; omega)
   unfold Zx
   rw [decide_eq_true (by omega:(i:Int)<l.length),cond_true,Zbd,hx,Option.bind_some,Zbp,Option.bind_some,hw]
   cases (decide (1≤l[i]) && decide (l[i]≤2000)) <;> rfl
  ·unfold Zx
   rw [decide_eq_false (by omega:¬ ((l.length:Int)<l.length))]; rfl
 unfold ZN ZcP
 rw [e,List.all_eq_not_any_not]
 cases l.any (fun n=>!(decide (1≤n) && decide (n≤2000))) <;> rfl
theorem Zfc {σ ο:Type} {body:σ→Option (σ ⊕ ο)} {o:ο}:∀ {n:Nat} {s:σ},Zg body n s=some o→∀ k,Zg body (n+k) s=some o
 | 0,s,h,k=>by cases h
 | n+1,s,h,k=>by
  rw [Nat.add_right_comm]
  unfold Zg at *
  cases hb:body s with
  | none=>rw [hb] at h; cases h
  | some x=>
   rw [hb] at h
   cases x with
   | inl s'=>exact Zfc (n:=n) h k
   | inr o'=>exact h
theorem Zej {σ ο:Type} {body:σ→Option (σ ⊕ ο)} {o:ο} {n:Nat} {s:σ} (h:Zg body n s=some o) (hn:n≤NN):Zg body NN s=some o:=by
 have:=Zfc h (NN-n)
 rwa [Nat.add_sub_cancel' hn] at this
theorem itl {σ ο:Type} {body:σ→Option (σ ⊕ ο)} {n:Nat} {s s':σ} (h:body s=some (.inl s')):Zg body (n+1) s=Zg body n s':=by
 show (body s).bind _=_
 rw [h]; rfl
theorem itr {σ ο:Type} {body:σ→Option (σ ⊕ ο)} {n:Nat} {s:σ} {o:ο} (h:body s=some (.inr o)):Zg body (n+1) s=some o:=by
 show (body s).bind _=_
 rw [h]; rfl
theorem w1:w64 1=1:=by decide
theorem w2:w64 2=2:=by decide
theorem w3:w64 3=3:=by decide
theorem inn0 (l:List Int) (i:Int):Zg (Zc l (i,[])) NN 0=some ((0:Nat):Int):=Zej (n:=1) (itr (by simp [Zc])) (by unfold NN; omega)
theorem inn1 {l:List Int} {i y a:Int} (h:getI l i=some y):Zg (Zc l (i,[a])) NN 0=some (((if y≤a then 1 else 0:Nat)):Int):=by
 refine Zej (n:=2) ?_ (by unfold NN; omega)
 have q0:getI [a] 0=some a:=rfl
 by_cases h1:y≤a
 ·rw [if_pos h1,itl (s':=1) (by simp [Zc,h,q0,h1,w1]),itr (o:=1) (by simp [Zc])]; rfl
 ·rw [if_neg h1,itr (o:=0) (by simp [Zc,h,q0,h1])]; rfl
theorem inn2 {l:List Int} {i y a b:Int} (h:getI l i=some y):Zg (Zc l (i,[a,b])) NN 0=some (((if y≤a then (if y≤b then 2 else 1) else 0:Nat)):Int):=by
 refine Zej (n:=3) ?_ (by unfold NN; omega)
 have q0:getI [a,b] 0=some a:=rfl
 have q1:getI [a,b] 1=some b:=rfl
 by_cases h1:y≤a
 ·rw [if_pos h1,itl (s':=1) (by simp [Zc,h,q0,h1,w1])]
  by_cases h2:y≤b
  ·rw [if_pos h2,itl (s':=2) (by simp [Zc,h,q1,h2,w2]),itr (o:=2) (by simp [Zc])]; rfl
  ·rw [if_neg h2,itr (o:=1) (by simp [Zc,h,q1,h2])]; rfl
 ·rw [if_neg h1,itr (o:=0) (by simp [Zc,h,q0,h1])]; rfl
theorem Zj2 {l:List Int} (h:l.length≤1048576):Za7 l=some l:=by
 have c:chk (ZdC (([]:List Int).length+l.length) 8)=some ():=ZcQ (decide_eq_true ⟨by simp; omega,by simp; omega⟩)
 unfold Za7
 rw [c]
 rfl
theorem outb {l out:List Int} {i y:Int} {k:Nat} (hi:i<(l.length:Int)) (hy:getI l i=some y) (hk:Zg (Zc l (i,out)) NN 0=some (k:Int)) (hkl:k≤out.length) (hl:out.length≤1000):
 Zq l (i,out)=some (.inl (w64 (i+1),out.take k++[y]++out.drop k)):=by
 unfold Zq
 have t1:subL out 0 (k:Int)=out.take k:=by simp [subL]
 have t2:subL out (k:Int) (out.length:Int)=out.drop k:=by simp only [subL,Int.toNat_natCast]; exact List.take_of_length_le (by simp)
 have c1:chk (slOk 0 (k:Int) (out.length:Int))=some ():=ZcQ (decide_eq_true ⟨by omega,by omega,by omega⟩)
 have c2:chk (slOk (k:Int) (out.length:Int) (out.length:Int))=some ():=ZcQ (decide_eq_true ⟨by omega,by omega,by omega⟩)
 have c3:chk (ZdC ((out.take k).length+([y]:List Int).length) 8)=some ():=ZcQ (decide_eq_true ⟨by simp; omega,by simp; omega⟩)
 have c4:chk (ZdC ((out.take k++[y]).length+(out.drop k).length) 8)=some ():=ZcQ (decide_eq_true ⟨by simp; omega,by simp; omega⟩)
 simp only [decide_eq_true hi,cond_true,hk,Option.bind_some,c1,t1,Zj2 (l:=out.take k) (by simp; omega),hy,c3,c2,t2,c4]
theorem Zkv (x y z:Int):Zan [x,y,z]=some (srt3 [x,y,z]):=by
 have g0:getI [x,y,z] 0=some x:=rfl
 have g1:getI [x,y,z] 1=some y:=rfl
 have g2:getI [x,y,z] 2=some z:=rfl
 have e:Zg (Zq [x,y,z]) NN (0,[])=some (srt3 [x,y,z]):=by
  refine Zej (n:=4) ?_ (by unfold NN; omega)
  have e0:=outb (l:=[x,y,z]) (by simp) g0 (inn0 _ _) (Nat.le_refl _) (by simp)
  have hE:∀ o:List Int,Zq [x,y,z] (3,o)=some (.inr o):=fun o=>by simp [Zq]
  simp only [List.take_nil,List.drop_nil,List.nil_append,List.append_nil,show w64 ((0:Int)+1)=1 by decide] at e0
  have e1:=outb (l:=[x,y,z]) (out:=[x]) (by simp) g1 (inn1 g1) (by split <;> simp) (by simp)
  simp only [show w64 ((1:Int)+1)=2 by decide] at e1
  have e2:=fun a b=>outb (l:=[x,y,z]) (out:=[a,b]) (by simp) g2 (inn2 g2) (by split <;> (try split) <;> simp) (by simp)
  simp only [show w64 ((2:Int)+1)=3 by decide] at e2
  have hs:srt3 [x,y,z]=(Sort.insertionSort gtI #[x,y,z] 0 3).toList:=rfl
  rw [hs]
  unfold Sort.insertionSort
  rw [insOuter,if_pos (by omega),insOuter,if_pos (by omega),insOuter,if_neg (by omega)]
  by_cases h1:y≤x
  ·have h1':¬ x<y:=by omega
   rw [if_pos h1] at e1
   have e2':=e2 x y
   by_cases h2:z≤x
   ·by_cases h3:z≤y
    ·rw [if_pos h2,if_pos h3] at e2'
     simp at e1 e2'
     rw [itl e0,itl e1,itl e2',itr (hE _)]; simp [insInner,swp,gtI,h1',show ¬ y<z by omega]
    ·rw [if_pos h2,if_neg h3] at e2'
     simp at e1 e2'
     rw [itl e0,itl e1,itl e2',itr (hE _)]; simp [insInner,swp,gtI,h1',show y<z by omega,show ¬ x<z by omega]
   ·rw [if_neg h2] at e2'
    simp at e1 e2'
    rw [itl e0,itl e1,itl e2',itr (hE _)]; simp [insInner,swp,gtI,h1',show y<z by omega,show x<z by omega]
  ·have h1':x<y:=by omega
   rw [if_neg h1] at e1
   have e2':=e2 y x
   by_cases h2:z≤y
   ·by_cases h3:z≤x
    ·rw [if_pos h2,if_pos h3] at e2'
     simp at e1 e2'
     rw [itl e0,itl e1,itl e2',itr (hE _)]; simp [insInner,swp,gtI,h1',show ¬ x<z by omega]
    ·rw [if_pos h2,if_neg h3] at e2'
     simp at e1 e2'
     rw [itl e0,itl e1,itl e2',itr (hE _)]; simp [insInner,swp,gtI,h1',show x<z by omega,show ¬ y<z by omega]
   ·rw [if_neg h2] at e2'
    simp at e1 e2'
    rw [itl e0,itl e1,itl e2',itr (hE _)]; simp [insInner,swp,gtI,h1',show y<z by omega,show x<z by omega]
 unfold Zan
 rw [e]; rfl
theorem ZfH {l:List Int} (h:ZcP l=true):l.length=3:=by
 unfold ZcP at h
 have:=(Bool.and_eq_true _ _ ▸ h:_∧_).2
 have:=of_decide_eq_true this
 omega
theorem ZjW {l:List Int} (h:l.length<NN):ZaM l=Zao l∧∃ b,Zao l=some b:=by
 unfold ZaM Zao
 rw [Zg0,Zgi h]
 cases ht:ZcP l with
 | false=>exact ⟨rfl,_,rfl⟩
 | true=>
  have h3:=ZfH ht
  match l,h3 with
  | [x,y,z],_=>
   have hm:Zaf [x,y,z]=some (srt3 [x,y,z]):=if_pos rfl
   have hl:=ZgY [x,y,z]
   match hs:srt3 [x,y,z],hl with
   | [a,b,c],_=>
    simp only [Zkv,hm,hs,Option.bind_some,Bool.not_true,cond_false]
    exact ⟨trivial,_,rfl⟩
theorem Zek {l:Zn} (h:l.to_.size≤B60):Zy l=Zp l∧∃ b,Zp l=some b:=by
 obtain ⟨e,b,hb⟩:=Zcx h
 unfold Zy Zp
 rw [Zct,e,hb,Zbp,Zbp]
 refine ⟨rfl,?_⟩
 cases (decide (1≤l.service) && decide (l.service≤3)) <;> cases (decide (0≤l.serial) && decide (l.serial≤999999999)) <;> exact ⟨_,rfl⟩
theorem Zfq {p:Zm} (h1:p.label.to_.size≤B60) (h2:p.from_.size≤B60) (h3:p.sides.length<NN):ZR p=Zz p∧∃ b,Zz p=some b:=by
 obtain ⟨e1,b1,hb1⟩:=Zek h1
 obtain ⟨e2,b2,hb2⟩:=Zcx h2
 obtain ⟨e3,b3,hb3⟩:=ZjW h3
 unfold ZR Zz
 rw [Zct,e1,e2,e3,Zg0,hb1,hb2,hb3,Zgi h3,Zbp,Zbp]
 refine ⟨rfl,?_⟩
 simp only [Option.bind_some]
 generalize (decide (1≤p.weight) && decide (p.weight≤30000))=c1
 generalize ZcP p.sides=c2
 generalize decide (b3≤3600)=c3
 generalize (!decide (p.from_=p.label.to_))=c4
 cases b1
 ·exact ⟨_,rfl⟩
 cases b2
 ·exact ⟨_,rfl⟩
 cases c4
 ·exact ⟨_,rfl⟩
 cases c1
 ·exact ⟨_,rfl⟩
 cases c2
 ·exact ⟨_,rfl⟩
 cases c3 <;> exact ⟨_,rfl⟩
theorem ZmW {a b:List Int} (h:a.length<NN):Zag a b=some (decide (a=b)):=by
 unfold Zag
 by_cases hl:a.length=b.length
 ·have e:Zg (ZS a b) NN 0=some (if (List.range a.length).all (fun i=>decide (a[i]?=b[i]?))=true then .inl () else .inr false):=by
   refine Zd7 (fun i hi _=>?_) (fun _=>?_) h
   ·have hx:a[i]?=some a[i]:=List.getElem?_eq_getElem hi
    have hy:b[i]?=some b[i]:=List.getElem?_eq_getElem (by omega)
    have hw:=Zbi hi (by unfold NN at h; omega)
    unfold ZS
    rw [decide_eq_true (by omega:(i:Int)<a.length),cond_true,Zbd,Zbd,hx,hy,Option.bind_some,Option.bind_some,hw]
    by_cases he:a[i]=b[i] <;> simp [he]
   ·unfold ZS
    rw [decide_eq_false (by omega:¬ ((a.length:Int)<a.length))]; rfl
  rw [decide_eq_true (by omega:(a.length:Int)=b.length),e]
  by_cases hab:a=b
  ·subst hab
   simp
  ·rw [if_neg,decide_eq_false hab]
   ·rfl
   ·intro hall
    refine hab (List.ext_getElem? fun i=>?_)
    by_cases hi:i<a.length
    ·exact of_decide_eq_true (List.all_eq_true.1 hall i (List.mem_range.2 hi))
    ·rw [List.getElem?_eq_none (by omega),List.getElem?_eq_none (by omega)]
 ·rw [decide_eq_false (by omega:¬ ((a.length:Int)=b.length)),decide_eq_false (fun e=>hl (by rw [e]))]
  rfl
theorem Znw {ο α:Type} (i j:Nat) (J:Option (ο ⊕ α)) (T:ο→List PV) (M:ο→Mem):jn i j J T M=J:=by unfold jn; rfl
theorem cnd1 (b c:Bool):(bif b then some c else some false)=some (b && c):=by cases b <;> rfl
theorem cnd2 (b c:Bool):(bif !b then some false else some c)=some (b && c):=by cases b <;> rfl
theorem bndc {α β:Type} (b:Bool) (X Y:Option α) (S:α→Option β):(bif b then X else Y).bind S=bif b then X.bind S else Y.bind S:=by cases b <;> rfl
theorem Zez {a b:Zm} (h:a.sides.length<NN):ZV a b=some (decide (a.label=b.label) && (decide (a.from_=b.from_) && (decide (a.weight=b.weight) && (decide (a.sides=b.sides) && decide (a.value=b.value))))):=by
 unfold ZV
 simp only [ZmW h,Option.bind_some,cnd1]
theorem ZhB {a b:YAct} (h:a.parcel.sides.length<NN):Zav a b=some (decide (a.kind=b.kind) && ((decide (a.parcel.label=b.parcel.label) && (decide (a.parcel.from_=b.parcel.from_) && (decide (a.parcel.weight=b.parcel.weight) && (decide (a.parcel.sides=b.parcel.sides) && decide (a.parcel.value=b.parcel.value))))) && (decide (a.order=b.order) && (decide (a.amount=b.amount) && (decide (a.until_=b.until_) && decide (a.trip=b.trip)))))):=by
 unfold Zav
 simp only [Zez h,Option.bind_some,cnd1]
theorem Zgl {a:YAct} (h1:a.parcel.label.to_.size≤B60) (h2:a.parcel.from_.size≤B60) (h3:a.parcel.sides.length<NN):∃ b,ZL a=some b∧ZaX a=some b:=by
 obtain ⟨e1,b1,hb1⟩:=Zfq h1 h2 h3
 have hz:decide (0<(a.parcel.sides.length:Int))=!decide (a.parcel.sides=[]):=by
  cases a.parcel.sides <;> simp
 unfold ZL ZaX
 simp only [Znw,Zct,e1,hb1,Zbp,ZhB h3,hz,Option.bind_some]
 generalize hq1:decide (a.parcel.label=⟨0,0,⟨#[]⟩⟩)=q1
 generalize hq2:decide (a.parcel.from_=⟨#[]⟩)=q2
 generalize hq3:decide (a.parcel.weight=0)=q3
 generalize hq4:decide (a.parcel.sides=[])=q4
 generalize hq5:decide (a.parcel.value=0)=q5
 generalize hq6:decide (a.order=0)=q6
 generalize hq7:decide (a.amount=0)=q7
 generalize hq8:decide (a.until_=0)=q8
 generalize hq9:decide (a.trip=⟨0,0⟩)=q9
 have kk:a.kind=1∨a.kind=2∨a.kind=3∨a.kind=4∨a.kind=5∨a.kind=6∨(a.kind≠1∧a.kind≠2∧a.kind≠3∧a.kind≠4∧a.kind≠5∧a.kind≠6):=by omega
 rcases kk with k | k | k | k | k | k | ⟨n1,n2,n3,n4,n5,n6⟩
 all_goals try (simp only [n1,n2,n3,n4,n5,n6,Int.reduceEq,decide_true,decide_false,Bool.not_true,Bool.not_false,cond_true,cond_false,Option.bind_some,Zac,bndc])
 all_goals try simp only [k,Int.reduceEq,decide_true,decide_false,Bool.not_true,Bool.not_false,cond_true,cond_false,Option.bind_some,Zac,bndc]
 case inr.inr.inr.inr.inr.inr=>
  have hf:(decide (1≤a.kind) && decide (a.kind≤6))=false:=by
   rw [Bool.and_eq_false_iff,decide_eq_false_iff_not,decide_eq_false_iff_not]; omega
  simp only [hf,cnd1,cnd2,Bool.and_false]
  exact ⟨_,rfl,rfl⟩
 all_goals
  simp only [hq1,hq2,hq3,hq4,hq5,hq6,hq7,hq8,hq9,cnd1,cnd2,Bool.true_and,Bool.and_true,Int.reduceLE,decide_true]
  exact ⟨_,rfl,by congr 1; try ac_rfl⟩
end Go.Proofs.YtgdcengoopjplaaGreatDoor
namespace Go.Proofs.YtgdcengoopjplaaGreatDoor
set_option maxRecDepth 10000
open Go.RowKit
set_option linter.unusedVariables false
set_option maxHeartbeats 16000000
def ZaF (l:Zn):Option ByteArray:=
 (Zd l.service).bind fun y1=>
 (Z9 l.serial 9).bind fun y2=>
 (chk (Zo y1 y2)).bind fun _=>
 (chk (Zo (y1++y2) l.to_)).bind fun _=>
 some ((y1++y2)++l.to_)
instance (l:Zn):CT Tryz.prog (ZaF l):=⟨96,[.ag (ZaT l)],[],fun r=>vs r,fun r=>[],fun H=>by replace H:=H0 H; unfold ZaF at H; exact Zb Tryz.func96 rfl Tryz.ntmps96 Tryz.results96 fun Q hQ hQn=>wk3⟩
def ZaL (l:Zn):Option Int:=
 (Zy l).bind fun y1=>
 cond (!y1)
 (some (-1))
 ((ZaF l).bind fun y2=>
 (ZaE y2).bind fun y3=>
 (chk (Zo y3.1 (⟨#[48,48]⟩))).bind fun _=>
 (Zbg (y3.1++⟨#[48,48]⟩)).bind fun y4=>
 some (w64 (98-y4)))
instance (l:Zn):CT Tryz.prog (ZaL l):=⟨98,[.ag (ZaT l)],[],fun r=>vi r,fun r=>[],fun H=>by replace H:=H0 H; unfold ZaL at H; exact Zb Tryz.func98 rfl Tryz.ntmps98 Tryz.results98 fun Q hQ hQn=>wk3⟩
def ZC (l:Zn):Option ByteArray:=
 (Zy l).bind fun y1=>
 cond (!y1)
 (some (⟨#[]⟩))
 ((ZaF l).bind fun y2=>
 (ZaL l).bind fun y3=>
 (Z9 y3 2).bind fun y4=>
 (chk (Zo y2 y4)).bind fun _=>
 some (y2++y4))
instance (l:Zn):CT Tryz.prog (ZC l):=⟨69,[.ag (ZaT l)],[],fun r=>vs r,fun r=>[],fun H=>by replace H:=H0 H; unfold ZC at H; exact Zb Tryz.func69 rfl Tryz.ntmps69 Tryz.results69 fun Q hQ hQn=>wk3⟩
def ZaI (l:Zn):Option ByteArray:=
 (Za l.service).bind fun y1=>
 (Z5 l.serial 9).bind fun y2=>
 (chk (Zo y1 y2)).bind fun _=>
 (chk (Zo (y1++y2) l.to_)).bind fun _=>
 some ((y1++y2)++l.to_)
instance (l:Zn):CT Tryz.prog (ZaI l):=⟨107,[.ag (ZaT l)],[],fun r=>vs r,fun r=>[],fun H=>by replace H:=H0 H; unfold ZaI at H; exact Zb Tryz.func107 rfl Tryz.ntmps107 Tryz.results107 fun Q hQ hQn=>wk3⟩
def ZaQ (l:Zn):Option Int:=
 (Zp l).bind fun y1=>
 cond (!y1)
 (some (-1))
 ((ZaI l).bind fun y2=>
 (chk (Zo y2 (⟨#[48,48]⟩))).bind fun _=>
 (Za6 (y2++⟨#[48,48]⟩)).bind fun y3=>
 (ZaA y3.1).bind fun y4=>
 some (w64 (98-y4)))
instance (l:Zn):CT Tryz.prog (ZaQ l):=⟨109,[.ag (ZaT l)],[],fun r=>vi r,fun r=>[],fun H=>by replace H:=H0 H; unfold ZaQ at H; exact Zb Tryz.func109 rfl Tryz.ntmps109 Tryz.results109 fun Q hQ hQn=>wk3⟩
def ZD (l:Zn):Option ByteArray:=
 (Zp l).bind fun y1=>
 cond (!y1)
 (some (⟨#[]⟩))
 ((ZaI l).bind fun y2=>
 (ZaQ l).bind fun y3=>
 (Z5 y3 2).bind fun y4=>
 (chk (Zo y2 y4)).bind fun _=>
 some (y2++y4))
instance (l:Zn):CT Tryz.prog (ZD l):=⟨83,[.ag (ZaT l)],[],fun r=>vs r,fun r=>[],fun H=>by replace H:=H0 H; unfold ZD at H; exact Zb Tryz.func83 rfl Tryz.ntmps83 Tryz.results83 fun Q hQ hQn=>wk3⟩
end Go.Proofs.YtgdcengoopjplaaGreatDoor
namespace Go.Proofs.YtgdcengoopjplaaGreatDoor
set_option maxRecDepth 10000
open Go.RowKit Go.Sort
set_option linter.unusedVariables false
set_option linter.unusedSimpArgs false
set_option maxHeartbeats 1000000
def isDL (c:UInt8):Prop:=(48≤c.toNat∧c.toNat≤57)∨(65≤c.toNat∧c.toNat≤90)
theorem ZjN {c:UInt8} (h:isDL c):∃ a,dgt c=some a:=by
 unfold dgt
 by_cases h1:48≤c.toNat∧c.toNat≤57
 ·exact ⟨_,if_pos h1⟩
 ·rw [if_neg h1]
  rcases h with h | h
  ·exact absurd h h1
  ·exact ⟨_,if_pos h⟩
theorem Ze2:∀ {l:List UInt8},(∀ c∈l,isDL c)→∃ a,dgts l=some a∧a.length≤21*l.length
 | [],_=>⟨[],rfl,by simp⟩
 | c::cs,h=>by
  obtain ⟨a,ha⟩:=ZjN (h c (by simp))
  obtain ⟨b,hb,hbl⟩:=Ze2 (l:=cs) fun x hx=>h x (by simp [hx])
  have:=ZfQ ha
  exact ⟨a++b,by simp only [dgts,ha,hb],by simp; omega⟩
theorem ZjO {l m a b:List UInt8} (h1:dgts l=some a) (h2:dgts m=some b):dgts (l++m)=some (a++b):=by
 induction l generalizing a with
 | nil=>simp [dgts] at h1; subst h1; simpa using h2
 | cons c l ih=>
  simp only [dgts] at h1
  cases hc:dgt c with
  | none=>rw [hc] at h1; cases h1
  | some x=>
   cases hl:dgts l with
   | none=>rw [hc,hl] at h1; cases h1
   | some y=>
    rw [hc,hl] at h1
    cases h1
    simp only [List.cons_append,dgts,hc,ih hl,List.append_assoc]
theorem Zlb:∀ (k u:Nat),u≤k→∀ c∈Lib.decDigits u,isDL c:=by
 intro k
 induction k with
 | zero=>
  intro u hu c hc
  obtain rfl:u=0:=by omega
  rw [Lib.decDigits,dif_pos (by omega)] at hc
  simp at hc
  subst hc
  left; decide
 | succ k ih=>
  intro u hu c hc
  rw [Lib.decDigits] at hc
  by_cases h10:u<10
  ·rw [dif_pos h10] at hc
   obtain rfl:=List.mem_singleton.1 hc
   left
   rw [UInt8.toNat_ofNat']
   omega
  ·rw [dif_neg h10] at hc
   rcases List.mem_append.1 hc with h | h
   ·exact ih _ (by omega) c h
   ·obtain rfl:=List.mem_singleton.1 h
    left
    rw [UInt8.toNat_ofNat']
    omega
theorem ZgM {n:Int} (h:0≤n):∀ c∈Lib.itoa n,isDL c:=by
 unfold Lib.itoa
 rw [if_neg (by omega)]
 exact Zlb _ _ (Nat.le_refl _)
theorem Zj5 {n:Int} {d:Nat} (h:0≤n):∀ c∈padL n d,isDL c:=by
 intro c hc
 rcases List.mem_append.1 hc with h1 | h1
 ·rw [List.eq_of_mem_replicate h1]; left; decide
 ·exact ZgM h c h1
theorem Zdv {l:List UInt8} {i:Nat} {c:UInt8} (h:l[i]?=some c) (hi:i<3):ZQ (txt l) (i:Int)=some (if 65≤c.toNat∧c.toNat≤90 then .inl ((i+1:Nat):Int) else .inr (.inr false)):=by
 have hcl:=c.toNat_lt
 unfold ZQ
 rw [decide_eq_true (show (i:Int)<3 by omega),ZgE h]
 simp only [cond_true,Option.bind_some,Zg2 (y:=(c.toNat:Int)) ⟨by omega,by omega⟩,Zbp,Zbi (n:=3) hi (by omega)]
 by_cases h1:65≤c.toNat∧c.toNat≤90
 ·rw [if_pos h1,decide_eq_true (show (65:Int)≤c.toNat by omega),decide_eq_true (show (c.toNat:Int)≤90 by omega)]; rfl
 ·rw [if_neg h1]
  have e:(decide ((65:Int)≤c.toNat) && decide ((c.toNat:Int)≤90))=false:=by
   by_cases h:65≤c.toNat
   ·rw [decide_eq_false (show ¬ (c.toNat:Int)≤90 by omega),Bool.and_false]
   ·rw [decide_eq_false (show ¬ (65:Int)≤(c.toNat:Int) by omega),Bool.false_and]
  rw [e]; rfl
theorem Zcq (s:ByteArray):txt s.data.toList=s:=ByteArray.ext (by simp [txt])
theorem Zj6 {s:ByteArray} (h:Zh s=some true):s.size=3∧∀ c∈s.data.toList,isDL c:=by
 by_cases h3:s.size=3
 ·refine ⟨h3,?_⟩
  have hl:s.data.toList.length=3:=by rw [Array.length_toList]; exact h3
  obtain ⟨n,hn⟩:∃ n,NN=n+1+1+1:=⟨NN-3,by unfold NN; omega⟩
  unfold Zh at h
  rw [h3,hn,← Zcq s] at h
  revert h hl
  generalize s.data.toList=l
  intro hl h
  match l,hl with
  | [a,b,c],_=>
   have ea:=Zdv (l:=[a,b,c]) (i:=0) rfl (by omega)
   have eb:=Zdv (l:=[a,b,c]) (i:=1) rfl (by omega)
   have ec:=Zdv (l:=[a,b,c]) (i:=2) rfl (by omega)
   by_cases ha:65≤a.toNat∧a.toNat≤90
   ·rw [if_pos ha] at ea
    by_cases hb:65≤b.toNat∧b.toNat≤90
    ·rw [if_pos hb] at eb
     by_cases hc:65≤c.toNat∧c.toNat≤90
     ·intro x hx
      simp at hx
      rcases hx with rfl | rfl | rfl
      ·exact .inr ha
      ·exact .inr hb
      ·exact .inr hc
     ·rw [if_neg hc] at ec
      have e:=(itl (n:=n+1+1) ea).trans ((itl (n:=n+1) eb).trans (itr (n:=n) ec))
      rw [show ((0:Nat):Int)=0 from rfl] at e
      rw [e] at h
      cases h
    ·rw [if_neg hb] at eb
     have e:=(itl (n:=n+1+1) ea).trans (itr (n:=n+1) eb)
     rw [show ((0:Nat):Int)=0 from rfl] at e
     rw [e] at h
     cases h
   ·rw [if_neg ha] at ea
    have e:=itr (n:=n+1+1) ea
    rw [show ((0:Nat):Int)=0 from rfl] at e
    rw [e] at h
    cases h
 ·unfold Zh at h
  rw [decide_eq_false (by omega)] at h
  cases h
def Zc5 (l:Zn):List UInt8:=Lib.itoa l.service++padL l.serial 9++l.to_.data.toList
theorem Ze9 {l:Zn} (h:Zp l=some true):l.to_.size=3∧∀ c∈Zc5 l,isDL c:=by
 unfold Zp at h
 rw [Zbp,Zbp] at h
 simp only [Option.bind_some] at h
 cases h1:(decide (1≤l.service) && decide (l.service≤3)) with
 | false=>rw [h1] at h; cases h
 | true=>
  cases h2:(decide (0≤l.serial) && decide (l.serial≤999999999)) with
  | false=>rw [h1,h2] at h; cases h
  | true=>
   rw [h1,h2] at h
   have h3:Zh l.to_=some true:=by
    cases hp:Zh l.to_ with
    | none=>rw [hp] at h; cases h
    | some b=>rw [hp] at h; exact h
   obtain ⟨hs,hp⟩:=Zj6 h3
   simp only [Bool.and_eq_true,decide_eq_true_eq] at h1 h2
   refine ⟨hs,fun c hc=>?_⟩
   rcases List.mem_append.1 hc with hc | hc
   ·rcases List.mem_append.1 hc with hc | hc
    ·exact ZgM (by omega) c hc
    ·exact Zj5 (by omega) c hc
   ·exact hp c hc
theorem ZeL {l:Zn} (h1:in64 l.service) (h2:in64 l.serial) (h3:l.to_.size≤3):(Zc5 l).length≤45:=by
 have a:=ZK h1
 have b:=Zeq (d:=9) h2 (by omega)
 have c:l.to_.data.toList.length=l.to_.size:=by rw [Array.length_toList]; rfl
 unfold Zc5
 simp only [List.length_append]
 omega
theorem fI {n:Int} (h:in64 n):Zd n=some (txt (Lib.itoa n)):=by unfold Zd; rw [if_pos h]
theorem fS {n:Int} (h:in64 n):Za n=some (txt (Lib.itoa n)):=by unfold Za; rw [if_pos h]
theorem sOk {a b:ByteArray} (ha:a.size≤100000) (hb:b.size≤100000):chk (Zo a b)=some ():=ZcQ (Zb8 (by unfold B60; omega))
theorem ZeM {l:Zn} (h1:in64 l.service) (h2:in64 l.serial) (h3:l.to_.size≤3):ZaF l=some (txt (Zc5 l))∧ZaI l=some (txt (Zc5 l)):=by
 have a:=ZK h1
 have b:=Zeq (d:=9) h2 (by omega)
 have e:(txt (Lib.itoa l.service)++txt (padL l.serial 9))++l.to_=txt (Zc5 l):=by
  rw [← Zcq l.to_,Zaq,Zaq]; rfl
 have c1:chk (Zo (txt (Lib.itoa l.service)) (txt (padL l.serial 9)))=some ():=sOk (by rw [Ze]; omega) (by rw [Ze]; omega)
 have c2:chk (Zo (txt (Lib.itoa l.service)++txt (padL l.serial 9)) l.to_)=some ():=sOk (by rw [Zaq,Ze,List.length_append]; omega) (by omega)
 have p1:=Zfp (d:=9) h2 (by omega)
 have p2:=Zdt (d:=9) h2 (by omega)
 rw [show ((9:Nat):Int)=9 from rfl] at p1 p2
 refine ⟨?_,?_⟩
 ·unfold ZaF
  simp only [fI h1,p1,Option.bind_some,c1,c2,e]
 ·unfold ZaI
  simp only [fS h1,p2,Option.bind_some,c1,c2,e]
theorem Zbr {n:Int} (h:Zck n):in64 n:=bounds_i64 h
theorem Zkz (n:Int):in64 (w64 n):=Zbr (wf_wrap .i64 n)
theorem Zg4 {l:Zn} (h1:in64 l.service) (h2:in64 l.serial) (h:Zp l=some true) (hi:Zy l=some true):∃ n,in64 n∧ZaL l=some n∧ZaQ l=some n:=by
 obtain ⟨hs,hd⟩:=Ze9 h
 obtain ⟨b1,b2⟩:=ZeM h1 h2 (by omega)
 have hl:=ZeL h1 h2 (by omega)
 obtain ⟨a,ha,hal⟩:=Ze2 hd
 have h00:dgts [48,48]=some [48,48]:=rfl
 have happ:=ZjO ha h00
 have e48:(⟨#[48,48]⟩:ByteArray)=txt [48,48]:=rfl
 have c1:chk (Zo (txt a) (txt [48,48]))=some ():=sOk (by rw [Ze]; omega) (by rw [Ze]; simp)
 have c2:chk (Zo (txt (Zc5 l)) (txt [48,48]))=some ():=sOk (by rw [Ze]; omega) (by rw [Ze]; simp)
 obtain ⟨m,hm⟩:=Zir (s:=txt (a++[48,48])) (by rw [Ze,List.length_append]; unfold NN; simp; omega)
 refine ⟨w64 (98-m),Zkz _,?_,?_⟩
 ·unfold ZaL
  have d1:=Zia (l:=Zc5 l) (by omega)
  rw [ha] at d1
  simp only [Option.getD_some,Option.isSome_some] at d1
  simp only [hi,b1,d1,Option.bind_some,Bool.not_true,cond_false,e48,c1,Zaq,Zj4,hm]
 ·unfold ZaQ
  have d1:=ZfS (l:=Zc5 l++[48,48]) (by rw [List.length_append]; simp; omega)
  rw [happ] at d1
  simp only [Option.getD_some,Option.isSome_some] at d1
  simp only [h,b2,d1,Option.bind_some,Bool.not_true,cond_false,e48,c2,Zaq,hm]
theorem Zhd {l:Zn} (h1:in64 l.service) (h2:in64 l.serial) (h3:l.to_.size≤B60):∃ b:List UInt8,b.length≤100∧ZC l=some (txt b)∧ZD l=some (txt b):=by
 obtain ⟨e,v,hv⟩:=Zek h3
 have hi:Zy l=some v:=e.trans hv
 cases v with
 | false=>
  refine ⟨[],by simp,?_,?_⟩
  ·unfold ZC; simp only [hi,Option.bind_some,Bool.not_false,cond_true]; rfl
  ·unfold ZD; simp only [hv,Option.bind_some,Bool.not_false,cond_true]; rfl
 | true=>
  obtain ⟨hs,hd⟩:=Ze9 hv
  obtain ⟨b1,b2⟩:=ZeM h1 h2 (by omega)
  have hl:=ZeL h1 h2 (by omega)
  obtain ⟨n,hn,c1,c2⟩:=Zg4 h1 h2 hv hi
  have p1:=Zfp (d:=2) hn (by omega)
  have p2:=Zdt (d:=2) hn (by omega)
  have pl:=Zeq (d:=2) hn (by omega)
  rw [show ((2:Nat):Int)=2 from rfl] at p1 p2
  have c3:chk (Zo (txt (Zc5 l)) (txt (padL n 2)))=some ():=sOk (by rw [Ze]; omega) (by rw [Ze]; omega)
  refine ⟨Zc5 l++padL n 2,by rw [List.length_append]; omega,?_,?_⟩
  ·unfold ZC; simp only [hi,b1,c1,p1,c3,Option.bind_some,Bool.not_true,cond_false,Zaq]
  ·unfold ZD; simp only [hv,b2,c2,p2,c3,Option.bind_some,Bool.not_true,cond_false,Zaq]
end Go.Proofs.YtgdcengoopjplaaGreatDoor
namespace Go.Proofs.YtgdcengoopjplaaGreatDoor
set_option maxRecDepth 10000
open Go.RowKit
set_option linter.unusedVariables false
set_option maxHeartbeats 16000000
def Zv (p:Zm):Option ByteArray:=
 (ZR p).bind fun y1=>
 cond (!y1)
 (some (⟨#[]⟩))
 ((getI p.sides 0).bind fun y2=>
 (Zd y2).bind fun y3=>
 (chk (Zo y3 (⟨#[120]⟩))).bind fun _=>
 (getI p.sides 1).bind fun y4=>
 (Zd y4).bind fun y5=>
 (chk (Zo (y3++⟨#[120]⟩) y5)).bind fun _=>
 (chk (Zo ((y3++⟨#[120]⟩)++y5) (⟨#[120]⟩))).bind fun _=>
 (getI p.sides 2).bind fun y6=>
 (Zd y6).bind fun y7=>
 (chk (Zo (((y3++⟨#[120]⟩)++y5)++⟨#[120]⟩) y7)).bind fun _=>
 (ZC p.label).bind fun y8=>
 (chk (Zo y8 (⟨#[32]⟩))).bind fun _=>
 (chk (Zo (y8++⟨#[32]⟩) p.from_)).bind fun _=>
 (chk (Zo ((y8++⟨#[32]⟩)++p.from_) (⟨#[32]⟩))).bind fun _=>
 (Zd p.weight).bind fun y9=>
 (chk (Zo (((y8++⟨#[32]⟩)++p.from_)++⟨#[32]⟩) y9)).bind fun _=>
 (chk (Zo ((((y8++⟨#[32]⟩)++p.from_)++⟨#[32]⟩)++y9) (⟨#[32]⟩))).bind fun _=>
 (chk (Zo (((((y8++⟨#[32]⟩)++p.from_)++⟨#[32]⟩)++y9)++⟨#[32]⟩) ((((y3++⟨#[120]⟩)++y5)++⟨#[120]⟩)++y7))).bind fun _=>
 (chk (Zo ((((((y8++⟨#[32]⟩)++p.from_)++⟨#[32]⟩)++y9)++⟨#[32]⟩)++((((y3++⟨#[120]⟩)++y5)++⟨#[120]⟩)++y7)) (⟨#[32]⟩))).bind fun _=>
 (Zd p.value).bind fun y10=>
 (chk (Zo (((((((y8++⟨#[32]⟩)++p.from_)++⟨#[32]⟩)++y9)++⟨#[32]⟩)++((((y3++⟨#[120]⟩)++y5)++⟨#[120]⟩)++y7))++⟨#[32]⟩) y10)).bind fun _=>
 some ((((((((y8++⟨#[32]⟩)++p.from_)++⟨#[32]⟩)++y9)++⟨#[32]⟩)++((((y3++⟨#[120]⟩)++y5)++⟨#[120]⟩)++y7))++⟨#[32]⟩)++y10))
instance (p:Zm):CT Tryz.prog (Zv p):=⟨44,[.ag (Zat p)],[],fun r=>vs r,fun r=>[],fun H=>by replace H:=H0 H; unfold Zv at H; exact Zb Tryz.func44 rfl Tryz.ntmps44 Tryz.results44 fun Q hQ hQn=>wk3⟩
def Zaw (t:ZaY):Option ByteArray:=
 (Zd t.leg).bind fun y1=>
 (chk (Zo y1 (⟨#[47]⟩))).bind fun _=>
 (Zd t.day).bind fun y2=>
 (chk (Zo (y1++⟨#[47]⟩) y2)).bind fun _=>
 some ((y1++⟨#[47]⟩)++y2)
instance (t:ZaY):CT Tryz.prog (Zaw t):=⟨46,[.ag (Zb0 t)],[],fun r=>vs r,fun r=>[],fun H=>by replace H:=H0 H; unfold Zaw at H; exact Zb Tryz.func46 rfl Tryz.ntmps46 Tryz.results46 fun Q hQ hQn=>wk3⟩
def Zl (a:YAct):Option ByteArray:=
 (ZL a).bind fun y1=>
 cond (!y1)
 (some (⟨#[]⟩))
 (cond (decide (a.kind=1))
 ((Zv a.parcel).bind fun y2=>
 (chk (Zo (⟨#[116,97,107,101,32]⟩) y2)).bind fun _=>
 some (⟨#[116,97,107,101,32]⟩++y2))
 (cond (decide (a.kind=2))
 ((Zd a.order).bind fun y3=>
 (chk (Zo (⟨#[112,97,121,32]⟩) y3)).bind fun _=>
 (chk (Zo (⟨#[112,97,121,32]⟩++y3) (⟨#[32]⟩))).bind fun _=>
 (Zd a.amount).bind fun y4=>
 (chk (Zo ((⟨#[112,97,121,32]⟩++y3)++⟨#[32]⟩) y4)).bind fun _=>
 some (((⟨#[112,97,121,32]⟩++y3)++⟨#[32]⟩)++y4))
 (cond (decide (a.kind=3))
 ((Zd a.until_).bind fun y5=>
 (chk (Zo (⟨#[114,117,110,32]⟩) y5)).bind fun _=>
 some (⟨#[114,117,110,32]⟩++y5))
 (cond (decide (a.kind=4))
 ((Zaw a.trip).bind fun y6=>
 (chk (Zo (⟨#[115,104,117,116,32]⟩) y6)).bind fun _=>
 some (⟨#[115,104,117,116,32]⟩++y6))
 (cond (decide (a.kind=5))
 (some (⟨#[114,101,116,114,121]⟩))
 ((Zd a.order).bind fun y7=>
 (chk (Zo (⟨#[114,101,102,117,110,100,32]⟩) y7)).bind fun _=>
 some (⟨#[114,101,102,117,110,100,32]⟩++y7)))))))
instance (a:YAct):CT Tryz.prog (Zl a):=⟨19,[.ag (cAct a)],[],fun r=>vs r,fun r=>[],fun H=>by replace H:=H0 H; unfold Zl at H; exact Zb Tryz.func19 rfl Tryz.ntmps19 Tryz.results19 fun Q hQ hQn=>wk3⟩
end Go.Proofs.YtgdcengoopjplaaGreatDoor
