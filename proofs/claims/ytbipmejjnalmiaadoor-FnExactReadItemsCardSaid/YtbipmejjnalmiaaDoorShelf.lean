/- Contracts of library functions at this program, one application each. The conditions stand in each statement. -/
import Derived.Shelf.Strings.OnBuilder
import Derived.Shelf.LaysM
import Derived.Shelf.Strconv.Itoa4
import Derived.Shelf.LaysC
import Derived.Shelf.Strconv.ParseIntPublic10
import Derived.Shelf.Strconv.ErrVarParseInt
import Derived.Test.YtbipmejjnalmiaaDoorProg
namespace Go.Proofs
open Go.Shelf
def Tryd.lays156_ren:Go.Shelf.Ren:=⟨fun | 156=>32 | 165=>50 | 166=>51 | 169=>52 | 240=>67 | 241=>68 | 276=>84 | 277=>85 | n=>n,fun | 31=>28 | 9=>9 | 3=>3 | 4=>4 | 0=>0 | 20=>20 | 72=>69 | 76=>71 | 70=>67 | 37=>55 | 75=>44 | 127=>89 | 164=>101 | 5=>5 | 80=>73 | n=>n,fun | n=>n⟩
theorem Tryd.lays156:Go.Proofs.Lays.n156 Tryd.prog Tryd.lays156_ren:={
 mixed:=by kernel_rfl
 f156:=Tryd.func32.trans (congrArg some (by kernel_rfl))
 f165:=Tryd.func50.trans (congrArg some (by kernel_rfl))
 f166:=Tryd.func51.trans (congrArg some (by kernel_rfl))
 f169:=Tryd.func52.trans (congrArg some (by kernel_rfl))
 f240:=Tryd.func67.trans (congrArg some (by kernel_rfl))
 f241:=Tryd.func68.trans (congrArg some (by kernel_rfl))
 f276:=Tryd.func84.trans (congrArg some (by kernel_rfl))
 f277:=Tryd.func85.trans (congrArg some (by kernel_rfl))
 t0:=Tryd.underlying0
 a0:=Tryd.isAgg0
 z0:=Tryd.sizeOf0
 v0:=Tryd.zeroValue0
 t3:=Tryd.underlying3
 a3:=Tryd.isAgg3
 z3:=Tryd.sizeOf3
 v3:=Tryd.zeroValue3
 t4:=Tryd.underlying4
 a4:=Tryd.isAgg4
 z4:=Tryd.sizeOf4
 v4:=Tryd.zeroValue4
 t9:=Tryd.underlying9
 a9:=Tryd.isAgg9
 z9:=Tryd.sizeOf9
 v9:=Tryd.zeroValue9
 t20:=Tryd.underlying20
 a20:=Tryd.isAgg20
 z20:=Tryd.sizeOf20
 v20:=Tryd.zeroValue20
 t31:=Tryd.underlying28
 a31:=Tryd.isAgg28
 z31:=Tryd.sizeOf28
 v31:=Tryd.zeroValue28
 t37:=Tryd.underlying55
 a37:=Tryd.isAgg55
 z37:=Tryd.sizeOf55
 v37:=Tryd.zeroValue55
 t70:=Tryd.underlying67
 a70:=Tryd.isAgg67
 z70:=Tryd.sizeOf67
 v70:=Tryd.zeroValue67
 t72:=Tryd.underlying69
 a72:=Tryd.isAgg69
 z72:=Tryd.sizeOf69
 v72:=Tryd.zeroValue69
 t75:=Tryd.underlying44
 a75:=Tryd.isAgg44
 z75:=Tryd.sizeOf44
 v75:=Tryd.zeroValue44
 t76:=Tryd.underlying71
 a76:=Tryd.isAgg71
 z76:=Tryd.sizeOf71
 v76:=Tryd.zeroValue71
 t127:=Tryd.underlying89
 a127:=Tryd.isAgg89
 z127:=Tryd.sizeOf89
 v127:=Tryd.zeroValue89
 t164:=Tryd.underlying101
 a164:=Tryd.isAgg101
 z164:=Tryd.sizeOf101
 v164:=Tryd.zeroValue101 }
theorem Tryd.Builder_Extra_156:Builder.Extra Tryd.prog Tryd.lays156_ren:={
 sizeBuilder:=by kernel_rfl
 liesBuilder:=by kernel_rfl
 t5:=Tryd.underlying5
 a5:=Tryd.isAgg5
 z5:=Tryd.sizeOf5
 v5:=Tryd.zeroValue5
 infoByte:=by kernel_rfl
 cellsByte:=by kernel_rfl
 sizeByte:=by kernel_rfl
 neB5:=by decide }
open Go.RowKit in
theorem Tryd.strings_Join_none (a:Option Addr) (c:Nat) (sep:ByteArray) (w:World) :
  Calls Tryd.prog 32 #[.slice a 0 c,.string sep] w fun e w'=>e=.returned (.string ⟨#[]⟩)∧w'=w:=Any.strings_Join_none Tryd.lays156 Tryd.Builder_Extra_156 a c sep w
open Go.RowKit in
theorem Tryd.strings_Join (bk o c:Nat) (xs:List ByteArray) (sep:ByteArray) (w:World) (hcells:∀ (j:Nat) x,xs[j]?=some x→w.cell? ⟨bk,o+j,none⟩=some (.string x)) (hbk:bk<w.heap.size) (hN:xs.length≤140737488355328) (hcap:xs.length≤c) (hlen:(Lib.join (xs.map (·.data.toList)) sep.data.toList).length≤140737488355328) :
  Calls Tryd.prog 32 #[.slice (some ⟨bk,o,none⟩) xs.length c,.string sep] w fun e w'=>e=.returned (.string ⟨(Lib.join (xs.map (·.data.toList)) sep.data.toList).toArray⟩)∧Below w.heap.size w w':=Any.strings_Join Tryd.lays156 Tryd.Builder_Extra_156 bk o c xs sep w hcells hbk hN hcap hlen
def Tryd.laysM173_ren:Go.Shelf.Ren:=⟨fun | 173=>43 | 246=>66 | 283=>80 | 284=>81 | 285=>82 | 286=>83 | 129=>90 | 317=>89 | 318=>91 | 319=>92 | 320=>93 | 337=>94 | 338=>95 | n=>n,fun | 2=>2 | 3=>3 | 9=>9 | 4=>4 | 171=>96 | 0=>0 | 53=>82 | 37=>55 | 5=>5 | 173=>99 | 212=>115 | 51=>108 | 20=>20 | 213=>116 | 46=>85 | 232=>120 | 233=>121 | n=>n,fun | 17=>5 | 18=>6 | 19=>7 | n=>n⟩
theorem Tryd.laysM173:Go.Proofs.LaysM.n173 Tryd.prog Tryd.laysM173_ren:={
 mixed:=by kernel_rfl
 f129:=Tryd.func90.trans (congrArg some (by kernel_rfl))
 f173:=Tryd.func43.trans (congrArg some (by kernel_rfl))
 f246:=Tryd.func66.trans (congrArg some (by kernel_rfl))
 f283:=Tryd.func80.trans (congrArg some (by kernel_rfl))
 f284:=Tryd.func81.trans (congrArg some (by kernel_rfl))
 f285:=Tryd.func82.trans (congrArg some (by kernel_rfl))
 f286:=Tryd.func83.trans (congrArg some (by kernel_rfl))
 f317:=Tryd.func89.trans (congrArg some (by kernel_rfl))
 f318:=Tryd.func91.trans (congrArg some (by kernel_rfl))
 f319:=Tryd.func92.trans (congrArg some (by kernel_rfl))
 f320:=Tryd.func93.trans (congrArg some (by kernel_rfl))
 f337:=Tryd.func94.trans (congrArg some (by kernel_rfl))
 f338:=Tryd.func95.trans (congrArg some (by kernel_rfl))
 t0:=Tryd.underlying0
 a0:=Tryd.isAgg0
 z0:=Tryd.sizeOf0
 v0:=Tryd.zeroValue0
 t2:=Tryd.underlying2
 a2:=Tryd.isAgg2
 z2:=Tryd.sizeOf2
 v2:=Tryd.zeroValue2
 t3:=Tryd.underlying3
 a3:=Tryd.isAgg3
 z3:=Tryd.sizeOf3
 v3:=Tryd.zeroValue3
 t4:=Tryd.underlying4
 a4:=Tryd.isAgg4
 z4:=Tryd.sizeOf4
 v4:=Tryd.zeroValue4
 t5:=Tryd.underlying5
 a5:=Tryd.isAgg5
 z5:=Tryd.sizeOf5
 v5:=Tryd.zeroValue5
 t9:=Tryd.underlying9
 a9:=Tryd.isAgg9
 z9:=Tryd.sizeOf9
 v9:=Tryd.zeroValue9
 t20:=Tryd.underlying20
 a20:=Tryd.isAgg20
 z20:=Tryd.sizeOf20
 v20:=Tryd.zeroValue20
 t37:=Tryd.underlying55
 a37:=Tryd.isAgg55
 z37:=Tryd.sizeOf55
 v37:=Tryd.zeroValue55
 t46:=Tryd.underlying85
 a46:=Tryd.isAgg85
 z46:=Tryd.sizeOf85
 v46:=Tryd.zeroValue85
 t51:=Tryd.underlying108
 a51:=Tryd.isAgg108
 z51:=Tryd.sizeOf108
 v51:=Tryd.zeroValue108
 t53:=Tryd.underlying82
 a53:=Tryd.isAgg82
 z53:=Tryd.sizeOf82
 v53:=Tryd.zeroValue82
 t171:=Tryd.underlying96
 a171:=Tryd.isAgg96
 z171:=Tryd.sizeOf96
 v171:=Tryd.zeroValue96
 t173:=Tryd.underlying99
 a173:=Tryd.isAgg99
 z173:=Tryd.sizeOf99
 v173:=Tryd.zeroValue99
 t212:=Tryd.underlying115
 a212:=Tryd.isAgg115
 z212:=Tryd.sizeOf115
 v212:=Tryd.zeroValue115
 t213:=Tryd.underlying116
 a213:=Tryd.isAgg116
 z213:=Tryd.sizeOf116
 t232:=Tryd.underlying120
 a232:=Tryd.isAgg120
 z232:=Tryd.sizeOf120
 v232:=Tryd.zeroValue120
 t233:=Tryd.underlying121
 a233:=Tryd.isAgg121
 z233:=Tryd.sizeOf121
 v233:=Tryd.zeroValue121
 g17:=by kernel_rfl
 g18:=by kernel_rfl
 g19:=by kernel_rfl
 i0:=by kernel_rfl
 i2:=by kernel_rfl
 i3:=by kernel_rfl
 i4:=by kernel_rfl
 i5:=by kernel_rfl
 i9:=by kernel_rfl
 i20:=by kernel_rfl
 i37:=by kernel_rfl
 i46:=by kernel_rfl
 i51:=by kernel_rfl
 i53:=by kernel_rfl
 i171:=by kernel_rfl
 i173:=by kernel_rfl
 i212:=by kernel_rfl
 i232:=by kernel_rfl
 i233:=by kernel_rfl
 m17:=by kernel_rfl
 m18:=by kernel_rfl
 m19:=by kernel_rfl }
open Go.RowKit Go.Sort Go.Lib in
theorem Tryd.strconv_FormatInt_10 (n : Int) (h0 : -9223372036854775808 ≤ n) (h1 : n ≤ 9223372036854775807) (w : World) (htab : Lib.TabIs Tryd.prog w "internal/strconv.uint64pow10" .u64 Lib.pow10Tab) :
  Calls Tryd.prog 43 #[.int .i64 n,.int .i64 10] w fun e w'=>e=.returned (.string ⟨(Lib.itoa n).toArray⟩)∧∃ k os,w'=grow (w.drewN k) os:=Any.strconv_FormatInt_10 Tryd.laysM173 n h0 h1 w htab
def Tryd.lays173_ren:Go.Shelf.Ren:=⟨fun | 173=>43 | 246=>66 | 283=>80 | 284=>81 | 285=>82 | 286=>83 | 129=>90 | 317=>89 | 318=>91 | 319=>92 | 320=>93 | 337=>94 | 338=>95 | n=>n,fun | 2=>2 | 3=>3 | 9=>9 | 4=>4 | 171=>96 | 0=>0 | 53=>82 | 37=>55 | 5=>5 | 173=>99 | 212=>115 | 51=>108 | 20=>20 | 213=>116 | 46=>85 | 232=>120 | 233=>121 | n=>n,fun | 17=>5 | 18=>6 | 19=>7 | n=>n⟩
theorem Tryd.lays173:Go.Proofs.Lays.n173 Tryd.prog Tryd.lays173_ren:={
 mixed:=by kernel_rfl
 f129:=Tryd.func90.trans (congrArg some (by kernel_rfl))
 f173:=Tryd.func43.trans (congrArg some (by kernel_rfl))
 f246:=Tryd.func66.trans (congrArg some (by kernel_rfl))
 f283:=Tryd.func80.trans (congrArg some (by kernel_rfl))
 f284:=Tryd.func81.trans (congrArg some (by kernel_rfl))
 f285:=Tryd.func82.trans (congrArg some (by kernel_rfl))
 f286:=Tryd.func83.trans (congrArg some (by kernel_rfl))
 f317:=Tryd.func89.trans (congrArg some (by kernel_rfl))
 f318:=Tryd.func91.trans (congrArg some (by kernel_rfl))
 f319:=Tryd.func92.trans (congrArg some (by kernel_rfl))
 f320:=Tryd.func93.trans (congrArg some (by kernel_rfl))
 f337:=Tryd.func94.trans (congrArg some (by kernel_rfl))
 f338:=Tryd.func95.trans (congrArg some (by kernel_rfl))
 t0:=Tryd.underlying0
 a0:=Tryd.isAgg0
 z0:=Tryd.sizeOf0
 v0:=Tryd.zeroValue0
 t2:=Tryd.underlying2
 a2:=Tryd.isAgg2
 z2:=Tryd.sizeOf2
 v2:=Tryd.zeroValue2
 t3:=Tryd.underlying3
 a3:=Tryd.isAgg3
 z3:=Tryd.sizeOf3
 v3:=Tryd.zeroValue3
 t4:=Tryd.underlying4
 a4:=Tryd.isAgg4
 z4:=Tryd.sizeOf4
 v4:=Tryd.zeroValue4
 t5:=Tryd.underlying5
 a5:=Tryd.isAgg5
 z5:=Tryd.sizeOf5
 v5:=Tryd.zeroValue5
 t9:=Tryd.underlying9
 a9:=Tryd.isAgg9
 z9:=Tryd.sizeOf9
 v9:=Tryd.zeroValue9
 t20:=Tryd.underlying20
 a20:=Tryd.isAgg20
 z20:=Tryd.sizeOf20
 v20:=Tryd.zeroValue20
 t37:=Tryd.underlying55
 a37:=Tryd.isAgg55
 z37:=Tryd.sizeOf55
 v37:=Tryd.zeroValue55
 t46:=Tryd.underlying85
 a46:=Tryd.isAgg85
 z46:=Tryd.sizeOf85
 v46:=Tryd.zeroValue85
 t51:=Tryd.underlying108
 a51:=Tryd.isAgg108
 z51:=Tryd.sizeOf108
 v51:=Tryd.zeroValue108
 t53:=Tryd.underlying82
 a53:=Tryd.isAgg82
 z53:=Tryd.sizeOf82
 v53:=Tryd.zeroValue82
 t171:=Tryd.underlying96
 a171:=Tryd.isAgg96
 z171:=Tryd.sizeOf96
 v171:=Tryd.zeroValue96
 t173:=Tryd.underlying99
 a173:=Tryd.isAgg99
 z173:=Tryd.sizeOf99
 v173:=Tryd.zeroValue99
 t212:=Tryd.underlying115
 a212:=Tryd.isAgg115
 z212:=Tryd.sizeOf115
 v212:=Tryd.zeroValue115
 t213:=Tryd.underlying116
 a213:=Tryd.isAgg116
 z213:=Tryd.sizeOf116
 t232:=Tryd.underlying120
 a232:=Tryd.isAgg120
 z232:=Tryd.sizeOf120
 v232:=Tryd.zeroValue120
 t233:=Tryd.underlying121
 a233:=Tryd.isAgg121
 z233:=Tryd.sizeOf121
 v233:=Tryd.zeroValue121
 g17:=by kernel_rfl
 g18:=by kernel_rfl
 g19:=by kernel_rfl }
open Go.RowKit Go.Sort Go.Lib in
theorem Tryd.strconv_FormatInt_10_small (i:Nat) (hi:i<100) (w:World) :
  Calls Tryd.prog 43 #[.int .i64 i,.int .i64 10] w fun e w'=>e=.returned (.string ⟨(Lib.decDigits i).toArray⟩)∧w'=w:=Any.strconv_FormatInt_10_small Tryd.lays173 i hi w
def Tryd.laysC174_ren:Go.Shelf.Ren:=⟨fun | 174=>24 | 247=>41 | 245=>42 | 287=>61 | 279=>62 | 280=>63 | 281=>64 | 282=>65 | 321=>75 | 322=>76 | 316=>77 | 171=>79 | 205=>78 | 243=>88 | 246=>66 | 283=>80 | 284=>81 | 285=>82 | 286=>83 | 129=>90 | 317=>89 | 318=>91 | 319=>92 | 320=>93 | 337=>94 | 338=>95 | n=>n,fun | 9=>9 | 3=>3 | 2=>2 | 75=>44 | 85=>45 | 4=>4 | 167=>81 | 5=>5 | 53=>82 | 175=>83 | 46=>85 | 168=>86 | 37=>55 | 0=>0 | 210=>94 | 21=>21 | 127=>89 | 145=>113 | 143=>111 | 171=>96 | 173=>99 | 212=>115 | 51=>108 | 20=>20 | 213=>116 | 232=>120 | 233=>121 | 80=>73 | n=>n,fun | 15=>1 | 16=>2 | 17=>5 | 18=>6 | 19=>7 | n=>n⟩
theorem Tryd.laysC174:Go.Proofs.LaysC.n174 Tryd.prog Tryd.laysC174_ren:={
 mixed:=by kernel_rfl
 f129:=Tryd.func90.trans (congrArg some (by kernel_rfl))
 f171:=Tryd.func79.trans (congrArg some (by kernel_rfl))
 f174:=Tryd.func24.trans (congrArg some (by kernel_rfl))
 f205:=Tryd.func78.trans (congrArg some (by kernel_rfl))
 f243:=Tryd.func88.trans (congrArg some (by kernel_rfl))
 f245:=Tryd.func42.trans (congrArg some (by kernel_rfl))
 f246:=Tryd.func66.trans (congrArg some (by kernel_rfl))
 f247:=Tryd.func41.trans (congrArg some (by kernel_rfl))
 f279:=Tryd.func62.trans (congrArg some (by kernel_rfl))
 f280:=Tryd.func63.trans (congrArg some (by kernel_rfl))
 f281:=Tryd.func64.trans (congrArg some (by kernel_rfl))
 f282:=Tryd.func65.trans (congrArg some (by kernel_rfl))
 f283:=Tryd.func80.trans (congrArg some (by kernel_rfl))
 f284:=Tryd.func81.trans (congrArg some (by kernel_rfl))
 f285:=Tryd.func82.trans (congrArg some (by kernel_rfl))
 f286:=Tryd.func83.trans (congrArg some (by kernel_rfl))
 f287:=Tryd.func61.trans (congrArg some (by kernel_rfl))
 f316:=Tryd.func77.trans (congrArg some (by kernel_rfl))
 f317:=Tryd.func89.trans (congrArg some (by kernel_rfl))
 f318:=Tryd.func91.trans (congrArg some (by kernel_rfl))
 f319:=Tryd.func92.trans (congrArg some (by kernel_rfl))
 f320:=Tryd.func93.trans (congrArg some (by kernel_rfl))
 f321:=Tryd.func75.trans (congrArg some (by kernel_rfl))
 f322:=Tryd.func76.trans (congrArg some (by kernel_rfl))
 f337:=Tryd.func94.trans (congrArg some (by kernel_rfl))
 f338:=Tryd.func95.trans (congrArg some (by kernel_rfl))
 t0:=Tryd.underlying0
 a0:=Tryd.isAgg0
 z0:=Tryd.sizeOf0
 v0:=Tryd.zeroValue0
 t2:=Tryd.underlying2
 a2:=Tryd.isAgg2
 z2:=Tryd.sizeOf2
 v2:=Tryd.zeroValue2
 t3:=Tryd.underlying3
 a3:=Tryd.isAgg3
 z3:=Tryd.sizeOf3
 v3:=Tryd.zeroValue3
 t4:=Tryd.underlying4
 a4:=Tryd.isAgg4
 z4:=Tryd.sizeOf4
 v4:=Tryd.zeroValue4
 t5:=Tryd.underlying5
 a5:=Tryd.isAgg5
 z5:=Tryd.sizeOf5
 v5:=Tryd.zeroValue5
 t9:=Tryd.underlying9
 a9:=Tryd.isAgg9
 z9:=Tryd.sizeOf9
 v9:=Tryd.zeroValue9
 t20:=Tryd.underlying20
 a20:=Tryd.isAgg20
 z20:=Tryd.sizeOf20
 v20:=Tryd.zeroValue20
 t21:=Tryd.underlying21
 a21:=Tryd.isAgg21
 z21:=Tryd.sizeOf21
 v21:=Tryd.zeroValue21
 t37:=Tryd.underlying55
 a37:=Tryd.isAgg55
 z37:=Tryd.sizeOf55
 v37:=Tryd.zeroValue55
 t46:=Tryd.underlying85
 a46:=Tryd.isAgg85
 z46:=Tryd.sizeOf85
 v46:=Tryd.zeroValue85
 t51:=Tryd.underlying108
 a51:=Tryd.isAgg108
 z51:=Tryd.sizeOf108
 v51:=Tryd.zeroValue108
 t53:=Tryd.underlying82
 a53:=Tryd.isAgg82
 z53:=Tryd.sizeOf82
 v53:=Tryd.zeroValue82
 t75:=Tryd.underlying44
 a75:=Tryd.isAgg44
 z75:=Tryd.sizeOf44
 v75:=Tryd.zeroValue44
 t85:=Tryd.underlying45
 a85:=Tryd.isAgg45
 z85:=Tryd.sizeOf45
 v85:=Tryd.zeroValue45
 t127:=Tryd.underlying89
 a127:=Tryd.isAgg89
 z127:=Tryd.sizeOf89
 v127:=Tryd.zeroValue89
 t143:=Tryd.underlying111
 a143:=Tryd.isAgg111
 z143:=Tryd.sizeOf111
 v143:=Tryd.zeroValue111
 t145:=Tryd.underlying113
 a145:=Tryd.isAgg113
 z145:=Tryd.sizeOf113
 v145:=Tryd.zeroValue113
 t167:=Tryd.underlying81
 a167:=Tryd.isAgg81
 z167:=Tryd.sizeOf81
 v167:=Tryd.zeroValue81
 t168:=Tryd.underlying86
 a168:=Tryd.isAgg86
 z168:=Tryd.sizeOf86
 v168:=Tryd.zeroValue86
 t171:=Tryd.underlying96
 a171:=Tryd.isAgg96
 z171:=Tryd.sizeOf96
 v171:=Tryd.zeroValue96
 t173:=Tryd.underlying99
 a173:=Tryd.isAgg99
 z173:=Tryd.sizeOf99
 v173:=Tryd.zeroValue99
 t175:=Tryd.underlying83
 a175:=Tryd.isAgg83
 z175:=Tryd.sizeOf83
 v175:=Tryd.zeroValue83
 t210:=Tryd.underlying94
 a210:=Tryd.isAgg94
 z210:=Tryd.sizeOf94
 v210:=Tryd.zeroValue94
 t212:=Tryd.underlying115
 a212:=Tryd.isAgg115
 z212:=Tryd.sizeOf115
 v212:=Tryd.zeroValue115
 t213:=Tryd.underlying116
 a213:=Tryd.isAgg116
 z213:=Tryd.sizeOf116
 t232:=Tryd.underlying120
 a232:=Tryd.isAgg120
 z232:=Tryd.sizeOf120
 v232:=Tryd.zeroValue120
 t233:=Tryd.underlying121
 a233:=Tryd.isAgg121
 z233:=Tryd.sizeOf121
 v233:=Tryd.zeroValue121
 g15:=by kernel_rfl
 g16:=by kernel_rfl
 g17:=by kernel_rfl
 g18:=by kernel_rfl
 g19:=by kernel_rfl
 t80:=Tryd.underlying73
 a80:=Tryd.isAgg73
 z80:=Tryd.sizeOf73
 v80:=Tryd.zeroValue73
 i0:=by kernel_rfl
 i2:=by kernel_rfl
 i3:=by kernel_rfl
 i4:=by kernel_rfl
 i5:=by kernel_rfl
 i9:=by kernel_rfl
 i20:=by kernel_rfl
 i21:=by kernel_rfl
 i37:=by kernel_rfl
 i46:=by kernel_rfl
 i51:=by kernel_rfl
 i53:=by kernel_rfl
 i75:=by kernel_rfl
 i80:=by kernel_rfl
 i85:=by kernel_rfl
 i127:=by kernel_rfl
 i143:=by kernel_rfl
 i145:=by kernel_rfl
 i167:=by kernel_rfl
 i168:=by kernel_rfl
 i171:=by kernel_rfl
 i173:=by kernel_rfl
 i175:=by kernel_rfl
 i210:=by kernel_rfl
 i212:=by kernel_rfl
 i232:=by kernel_rfl
 i233:=by kernel_rfl
 m15:=by kernel_rfl
 m16:=by kernel_rfl
 m17:=by kernel_rfl
 m18:=by kernel_rfl
 m19:=by kernel_rfl
 c0:=by kernel_rfl
 c2:=by kernel_rfl
 c3:=by kernel_rfl
 c4:=by kernel_rfl
 c5:=by kernel_rfl
 c9:=by kernel_rfl
 c20:=by kernel_rfl
 c21:=by kernel_rfl
 c37:=by kernel_rfl
 c46:=by kernel_rfl
 c51:=by kernel_rfl
 c53:=by kernel_rfl
 c75:=by kernel_rfl
 c80:=by kernel_rfl
 c85:=by kernel_rfl
 c127:=by kernel_rfl
 c143:=by kernel_rfl
 c145:=by kernel_rfl
 c167:=by kernel_rfl
 c168:=by kernel_rfl
 c171:=by kernel_rfl
 c173:=by kernel_rfl
 c175:=by kernel_rfl
 c210:=by kernel_rfl
 c212:=by kernel_rfl
 c213:=by kernel_rfl
 c232:=by kernel_rfl
 c233:=by kernel_rfl }
open Go.RowKit in
theorem Tryd.strconv_ParseInt_10_at0_ok (s:ByteArray) (hmax:s.size≤9223372036854775806) (v:Int) (h:Lib.parseIntB 64 s.data.toList=.ok v) (w:World) :
  Calls Tryd.prog 24 #[.string s,.int .i64 10,.int .i64 0] w fun e w'=>e=.returned (.tuple #[.int .i64 v,.nilIface])∧(w'=w∨∃ t,w'=Lib.bytesWorld w 5 t):=Any.strconv_ParseInt_10_at0_ok Tryd.laysC174 s hmax v h w
open Go.RowKit in
theorem Tryd.strconv_ParseInt_10_at0_syntax (s:ByteArray) (hlim:s.size≤281474976710656) (h:Lib.parseIntB 64 s.data.toList=Lib.parseIntB 64 []) (ev:Value) (w:World) (hv:w.cell? ⟨1,0,none⟩=some ev) (hev:ev=.nilIface∨∃ te pe,ev=.iface te pe) :
  Calls Tryd.prog 24 #[.string s,.int .i64 10,.int .i64 0] w fun e w'=>∃ N,e=.returned (.tuple #[.int .i64 (0),.iface 86 (.pointer (some ⟨N,0,none⟩))])∧w.heap.size≤N∧w'.heap[N]?=some (.cells #[.string ⟨#[80,97,114,115,101,73,110,116]⟩,.string s,ev] 94 (0,0))∧Below w.heap.size w w':=Any.strconv_ParseInt_10_at0_syntax Tryd.laysC174 s hlim h ev w hv hev
open Go.RowKit in
theorem Tryd.strconv_ParseInt_10_at0_range (s:ByteArray) (hlim:s.size≤281474976710656) (h:Lib.parseIntB 64 s.data.toList=.range) (ev:Value) (w:World) (hv:w.cell? ⟨2,0,none⟩=some ev) (hev:ev=.nilIface∨∃ te pe,ev=.iface te pe) :
  Calls Tryd.prog 24 #[.string s,.int .i64 10,.int .i64 0] w fun e w'=>∃ N,e=.returned (.tuple #[.int .i64 (Lib.intSat 64 s.data.toList),.iface 86 (.pointer (some ⟨N,0,none⟩))])∧w.heap.size≤N∧w'.heap[N]?=some (.cells #[.string ⟨#[80,97,114,115,101,73,110,116]⟩,.string s,ev] 94 (0,0))∧Below w.heap.size w w':=Any.strconv_ParseInt_10_at0_range Tryd.laysC174 s hlim h ev w hv hev
open Go.RowKit in
theorem Tryd.strconv_ParseInt_10_at64_ok (s:ByteArray) (hmax:s.size≤9223372036854775806) (v:Int) (h:Lib.parseIntB 64 s.data.toList=.ok v) (w:World) :
  Calls Tryd.prog 24 #[.string s,.int .i64 10,.int .i64 64] w fun e w'=>e=.returned (.tuple #[.int .i64 v,.nilIface])∧(w'=w∨∃ t,w'=Lib.bytesWorld w 5 t):=Any.strconv_ParseInt_10_at64_ok Tryd.laysC174 s hmax v h w
open Go.RowKit in
theorem Tryd.strconv_ParseInt_10_at64_syntax (s:ByteArray) (hlim:s.size≤281474976710656) (h:Lib.parseIntB 64 s.data.toList=Lib.parseIntB 64 []) (ev:Value) (w:World) (hv:w.cell? ⟨1,0,none⟩=some ev) (hev:ev=.nilIface∨∃ te pe,ev=.iface te pe) :
  Calls Tryd.prog 24 #[.string s,.int .i64 10,.int .i64 64] w fun e w'=>∃ N,e=.returned (.tuple #[.int .i64 (0),.iface 86 (.pointer (some ⟨N,0,none⟩))])∧w.heap.size≤N∧w'.heap[N]?=some (.cells #[.string ⟨#[80,97,114,115,101,73,110,116]⟩,.string s,ev] 94 (0,0))∧Below w.heap.size w w':=Any.strconv_ParseInt_10_at64_syntax Tryd.laysC174 s hlim h ev w hv hev
open Go.RowKit in
theorem Tryd.strconv_ParseInt_10_at64_range (s:ByteArray) (hlim:s.size≤281474976710656) (h:Lib.parseIntB 64 s.data.toList=.range) (ev:Value) (w:World) (hv:w.cell? ⟨2,0,none⟩=some ev) (hev:ev=.nilIface∨∃ te pe,ev=.iface te pe) :
  Calls Tryd.prog 24 #[.string s,.int .i64 10,.int .i64 64] w fun e w'=>∃ N,e=.returned (.tuple #[.int .i64 (Lib.intSat 64 s.data.toList),.iface 86 (.pointer (some ⟨N,0,none⟩))])∧w.heap.size≤N∧w'.heap[N]?=some (.cells #[.string ⟨#[80,97,114,115,101,73,110,116]⟩,.string s,ev] 94 (0,0))∧Below w.heap.size w w':=Any.strconv_ParseInt_10_at64_range Tryd.laysC174 s hlim h ev w hv hev
open Go.RowKit in
theorem Tryd.strconv_ParseInt_10_at32_ok (s:ByteArray) (hmax:s.size≤9223372036854775806) (v:Int) (h:Lib.parseIntB 32 s.data.toList=.ok v) (w:World) :
  Calls Tryd.prog 24 #[.string s,.int .i64 10,.int .i64 32] w fun e w'=>e=.returned (.tuple #[.int .i64 v,.nilIface])∧(w'=w∨∃ t,w'=Lib.bytesWorld w 5 t):=Any.strconv_ParseInt_10_at32_ok Tryd.laysC174 s hmax v h w
open Go.RowKit in
theorem Tryd.strconv_ParseInt_10_at32_syntax (s:ByteArray) (hlim:s.size≤281474976710656) (h:Lib.parseIntB 32 s.data.toList=Lib.parseIntB 64 []) (ev:Value) (w:World) (hv:w.cell? ⟨1,0,none⟩=some ev) (hev:ev=.nilIface∨∃ te pe,ev=.iface te pe) :
  Calls Tryd.prog 24 #[.string s,.int .i64 10,.int .i64 32] w fun e w'=>∃ N,e=.returned (.tuple #[.int .i64 (0),.iface 86 (.pointer (some ⟨N,0,none⟩))])∧w.heap.size≤N∧w'.heap[N]?=some (.cells #[.string ⟨#[80,97,114,115,101,73,110,116]⟩,.string s,ev] 94 (0,0))∧Below w.heap.size w w':=Any.strconv_ParseInt_10_at32_syntax Tryd.laysC174 s hlim h ev w hv hev
open Go.RowKit in
theorem Tryd.strconv_ParseInt_10_at32_range (s:ByteArray) (hlim:s.size≤281474976710656) (h:Lib.parseIntB 32 s.data.toList=.range) (ev:Value) (w:World) (hv:w.cell? ⟨2,0,none⟩=some ev) (hev:ev=.nilIface∨∃ te pe,ev=.iface te pe) :
  Calls Tryd.prog 24 #[.string s,.int .i64 10,.int .i64 32] w fun e w'=>∃ N,e=.returned (.tuple #[.int .i64 (Lib.intSat 32 s.data.toList),.iface 86 (.pointer (some ⟨N,0,none⟩))])∧w.heap.size≤N∧w'.heap[N]?=some (.cells #[.string ⟨#[80,97,114,115,101,73,110,116]⟩,.string s,ev] 94 (0,0))∧Below w.heap.size w w':=Any.strconv_ParseInt_10_at32_range Tryd.laysC174 s hlim h ev w hv hev
open Go.RowKit in
theorem Tryd.strconv_ParseInt_10_at16_ok (s:ByteArray) (hmax:s.size≤9223372036854775806) (v:Int) (h:Lib.parseIntB 16 s.data.toList=.ok v) (w:World) :
  Calls Tryd.prog 24 #[.string s,.int .i64 10,.int .i64 16] w fun e w'=>e=.returned (.tuple #[.int .i64 v,.nilIface])∧(w'=w∨∃ t,w'=Lib.bytesWorld w 5 t):=Any.strconv_ParseInt_10_at16_ok Tryd.laysC174 s hmax v h w
open Go.RowKit in
theorem Tryd.strconv_ParseInt_10_at16_syntax (s:ByteArray) (hlim:s.size≤281474976710656) (h:Lib.parseIntB 16 s.data.toList=Lib.parseIntB 64 []) (ev:Value) (w:World) (hv:w.cell? ⟨1,0,none⟩=some ev) (hev:ev=.nilIface∨∃ te pe,ev=.iface te pe) :
  Calls Tryd.prog 24 #[.string s,.int .i64 10,.int .i64 16] w fun e w'=>∃ N,e=.returned (.tuple #[.int .i64 (0),.iface 86 (.pointer (some ⟨N,0,none⟩))])∧w.heap.size≤N∧w'.heap[N]?=some (.cells #[.string ⟨#[80,97,114,115,101,73,110,116]⟩,.string s,ev] 94 (0,0))∧Below w.heap.size w w':=Any.strconv_ParseInt_10_at16_syntax Tryd.laysC174 s hlim h ev w hv hev
open Go.RowKit in
theorem Tryd.strconv_ParseInt_10_at16_range (s:ByteArray) (hlim:s.size≤281474976710656) (h:Lib.parseIntB 16 s.data.toList=.range) (ev:Value) (w:World) (hv:w.cell? ⟨2,0,none⟩=some ev) (hev:ev=.nilIface∨∃ te pe,ev=.iface te pe) :
  Calls Tryd.prog 24 #[.string s,.int .i64 10,.int .i64 16] w fun e w'=>∃ N,e=.returned (.tuple #[.int .i64 (Lib.intSat 16 s.data.toList),.iface 86 (.pointer (some ⟨N,0,none⟩))])∧w.heap.size≤N∧w'.heap[N]?=some (.cells #[.string ⟨#[80,97,114,115,101,73,110,116]⟩,.string s,ev] 94 (0,0))∧Below w.heap.size w w':=Any.strconv_ParseInt_10_at16_range Tryd.laysC174 s hlim h ev w hv hev
open Go.RowKit in
theorem Tryd.strconv_ParseInt_10_at8_ok (s:ByteArray) (hmax:s.size≤9223372036854775806) (v:Int) (h:Lib.parseIntB 8 s.data.toList=.ok v) (w:World) :
  Calls Tryd.prog 24 #[.string s,.int .i64 10,.int .i64 8] w fun e w'=>e=.returned (.tuple #[.int .i64 v,.nilIface])∧(w'=w∨∃ t,w'=Lib.bytesWorld w 5 t):=Any.strconv_ParseInt_10_at8_ok Tryd.laysC174 s hmax v h w
open Go.RowKit in
theorem Tryd.strconv_ParseInt_10_at8_syntax (s:ByteArray) (hlim:s.size≤281474976710656) (h:Lib.parseIntB 8 s.data.toList=Lib.parseIntB 64 []) (ev:Value) (w:World) (hv:w.cell? ⟨1,0,none⟩=some ev) (hev:ev=.nilIface∨∃ te pe,ev=.iface te pe) :
  Calls Tryd.prog 24 #[.string s,.int .i64 10,.int .i64 8] w fun e w'=>∃ N,e=.returned (.tuple #[.int .i64 (0),.iface 86 (.pointer (some ⟨N,0,none⟩))])∧w.heap.size≤N∧w'.heap[N]?=some (.cells #[.string ⟨#[80,97,114,115,101,73,110,116]⟩,.string s,ev] 94 (0,0))∧Below w.heap.size w w':=Any.strconv_ParseInt_10_at8_syntax Tryd.laysC174 s hlim h ev w hv hev
open Go.RowKit in
theorem Tryd.strconv_ParseInt_10_at8_range (s:ByteArray) (hlim:s.size≤281474976710656) (h:Lib.parseIntB 8 s.data.toList=.range) (ev:Value) (w:World) (hv:w.cell? ⟨2,0,none⟩=some ev) (hev:ev=.nilIface∨∃ te pe,ev=.iface te pe) :
  Calls Tryd.prog 24 #[.string s,.int .i64 10,.int .i64 8] w fun e w'=>∃ N,e=.returned (.tuple #[.int .i64 (Lib.intSat 8 s.data.toList),.iface 86 (.pointer (some ⟨N,0,none⟩))])∧w.heap.size≤N∧w'.heap[N]?=some (.cells #[.string ⟨#[80,97,114,115,101,73,110,116]⟩,.string s,ev] 94 (0,0))∧Below w.heap.size w w':=Any.strconv_ParseInt_10_at8_range Tryd.laysC174 s hlim h ev w hv hev
open Go.RowKit in
theorem Tryd.strconv_ParseInt_10_at0_syntax_var (s : ByteArray) (hlim : s.size ≤ 281474976710656) (h : Lib.parseIntB 64 s.data.toList = Lib.parseIntB 64 []) (tp : TypeId) (p : Value) (w : World) (hvar : w.var? Tryd.prog "strconv.ErrSyntax" = some #[.iface tp p]) :
  Calls Tryd.prog 24 #[.string s,.int .i64 10,.int .i64 0] w fun e w'=>∃ N,e=.returned (.tuple #[.int .i64 (0),.iface 86 (.pointer (some ⟨N,0,none⟩))])∧w.heap.size≤N∧w'.heap[N]?=some (.cells #[.string ⟨#[80,97,114,115,101,73,110,116]⟩,.string s,.iface tp p] 94 (0,0))∧Below w.heap.size w w':=Any.strconv_ParseInt_10_at0_syntax_var Tryd.laysC174 s hlim h tp p w hvar
open Go.RowKit in
theorem Tryd.strconv_ParseInt_10_at0_range_var (s : ByteArray) (hlim : s.size ≤ 281474976710656) (h : Lib.parseIntB 64 s.data.toList = .range) (tp : TypeId) (p : Value) (w : World) (hvar : w.var? Tryd.prog "strconv.ErrRange" = some #[.iface tp p]) :
  Calls Tryd.prog 24 #[.string s,.int .i64 10,.int .i64 0] w fun e w'=>∃ N,e=.returned (.tuple #[.int .i64 (Lib.intSat 64 s.data.toList),.iface 86 (.pointer (some ⟨N,0,none⟩))])∧w.heap.size≤N∧w'.heap[N]?=some (.cells #[.string ⟨#[80,97,114,115,101,73,110,116]⟩,.string s,.iface tp p] 94 (0,0))∧Below w.heap.size w w':=Any.strconv_ParseInt_10_at0_range_var Tryd.laysC174 s hlim h tp p w hvar
open Go.RowKit in
theorem Tryd.strconv_ParseInt_10_at64_syntax_var (s : ByteArray) (hlim : s.size ≤ 281474976710656) (h : Lib.parseIntB 64 s.data.toList = Lib.parseIntB 64 []) (tp : TypeId) (p : Value) (w : World) (hvar : w.var? Tryd.prog "strconv.ErrSyntax" = some #[.iface tp p]) :
  Calls Tryd.prog 24 #[.string s,.int .i64 10,.int .i64 64] w fun e w'=>∃ N,e=.returned (.tuple #[.int .i64 (0),.iface 86 (.pointer (some ⟨N,0,none⟩))])∧w.heap.size≤N∧w'.heap[N]?=some (.cells #[.string ⟨#[80,97,114,115,101,73,110,116]⟩,.string s,.iface tp p] 94 (0,0))∧Below w.heap.size w w':=Any.strconv_ParseInt_10_at64_syntax_var Tryd.laysC174 s hlim h tp p w hvar
open Go.RowKit in
theorem Tryd.strconv_ParseInt_10_at64_range_var (s : ByteArray) (hlim : s.size ≤ 281474976710656) (h : Lib.parseIntB 64 s.data.toList = .range) (tp : TypeId) (p : Value) (w : World) (hvar : w.var? Tryd.prog "strconv.ErrRange" = some #[.iface tp p]) :
  Calls Tryd.prog 24 #[.string s,.int .i64 10,.int .i64 64] w fun e w'=>∃ N,e=.returned (.tuple #[.int .i64 (Lib.intSat 64 s.data.toList),.iface 86 (.pointer (some ⟨N,0,none⟩))])∧w.heap.size≤N∧w'.heap[N]?=some (.cells #[.string ⟨#[80,97,114,115,101,73,110,116]⟩,.string s,.iface tp p] 94 (0,0))∧Below w.heap.size w w':=Any.strconv_ParseInt_10_at64_range_var Tryd.laysC174 s hlim h tp p w hvar
open Go.RowKit in
theorem Tryd.strconv_ParseInt_10_at32_syntax_var (s : ByteArray) (hlim : s.size ≤ 281474976710656) (h : Lib.parseIntB 32 s.data.toList = Lib.parseIntB 64 []) (tp : TypeId) (p : Value) (w : World) (hvar : w.var? Tryd.prog "strconv.ErrSyntax" = some #[.iface tp p]) :
  Calls Tryd.prog 24 #[.string s,.int .i64 10,.int .i64 32] w fun e w'=>∃ N,e=.returned (.tuple #[.int .i64 (0),.iface 86 (.pointer (some ⟨N,0,none⟩))])∧w.heap.size≤N∧w'.heap[N]?=some (.cells #[.string ⟨#[80,97,114,115,101,73,110,116]⟩,.string s,.iface tp p] 94 (0,0))∧Below w.heap.size w w':=Any.strconv_ParseInt_10_at32_syntax_var Tryd.laysC174 s hlim h tp p w hvar
open Go.RowKit in
theorem Tryd.strconv_ParseInt_10_at32_range_var (s : ByteArray) (hlim : s.size ≤ 281474976710656) (h : Lib.parseIntB 32 s.data.toList = .range) (tp : TypeId) (p : Value) (w : World) (hvar : w.var? Tryd.prog "strconv.ErrRange" = some #[.iface tp p]) :
  Calls Tryd.prog 24 #[.string s,.int .i64 10,.int .i64 32] w fun e w'=>∃ N,e=.returned (.tuple #[.int .i64 (Lib.intSat 32 s.data.toList),.iface 86 (.pointer (some ⟨N,0,none⟩))])∧w.heap.size≤N∧w'.heap[N]?=some (.cells #[.string ⟨#[80,97,114,115,101,73,110,116]⟩,.string s,.iface tp p] 94 (0,0))∧Below w.heap.size w w':=Any.strconv_ParseInt_10_at32_range_var Tryd.laysC174 s hlim h tp p w hvar
open Go.RowKit in
theorem Tryd.strconv_ParseInt_10_at16_syntax_var (s : ByteArray) (hlim : s.size ≤ 281474976710656) (h : Lib.parseIntB 16 s.data.toList = Lib.parseIntB 64 []) (tp : TypeId) (p : Value) (w : World) (hvar : w.var? Tryd.prog "strconv.ErrSyntax" = some #[.iface tp p]) :
  Calls Tryd.prog 24 #[.string s,.int .i64 10,.int .i64 16] w fun e w'=>∃ N,e=.returned (.tuple #[.int .i64 (0),.iface 86 (.pointer (some ⟨N,0,none⟩))])∧w.heap.size≤N∧w'.heap[N]?=some (.cells #[.string ⟨#[80,97,114,115,101,73,110,116]⟩,.string s,.iface tp p] 94 (0,0))∧Below w.heap.size w w':=Any.strconv_ParseInt_10_at16_syntax_var Tryd.laysC174 s hlim h tp p w hvar
open Go.RowKit in
theorem Tryd.strconv_ParseInt_10_at16_range_var (s : ByteArray) (hlim : s.size ≤ 281474976710656) (h : Lib.parseIntB 16 s.data.toList = .range) (tp : TypeId) (p : Value) (w : World) (hvar : w.var? Tryd.prog "strconv.ErrRange" = some #[.iface tp p]) :
  Calls Tryd.prog 24 #[.string s,.int .i64 10,.int .i64 16] w fun e w'=>∃ N,e=.returned (.tuple #[.int .i64 (Lib.intSat 16 s.data.toList),.iface 86 (.pointer (some ⟨N,0,none⟩))])∧w.heap.size≤N∧w'.heap[N]?=some (.cells #[.string ⟨#[80,97,114,115,101,73,110,116]⟩,.string s,.iface tp p] 94 (0,0))∧Below w.heap.size w w':=Any.strconv_ParseInt_10_at16_range_var Tryd.laysC174 s hlim h tp p w hvar
open Go.RowKit in
theorem Tryd.strconv_ParseInt_10_at8_syntax_var (s : ByteArray) (hlim : s.size ≤ 281474976710656) (h : Lib.parseIntB 8 s.data.toList = Lib.parseIntB 64 []) (tp : TypeId) (p : Value) (w : World) (hvar : w.var? Tryd.prog "strconv.ErrSyntax" = some #[.iface tp p]) :
  Calls Tryd.prog 24 #[.string s,.int .i64 10,.int .i64 8] w fun e w'=>∃ N,e=.returned (.tuple #[.int .i64 (0),.iface 86 (.pointer (some ⟨N,0,none⟩))])∧w.heap.size≤N∧w'.heap[N]?=some (.cells #[.string ⟨#[80,97,114,115,101,73,110,116]⟩,.string s,.iface tp p] 94 (0,0))∧Below w.heap.size w w':=Any.strconv_ParseInt_10_at8_syntax_var Tryd.laysC174 s hlim h tp p w hvar
open Go.RowKit in
theorem Tryd.strconv_ParseInt_10_at8_range_var (s : ByteArray) (hlim : s.size ≤ 281474976710656) (h : Lib.parseIntB 8 s.data.toList = .range) (tp : TypeId) (p : Value) (w : World) (hvar : w.var? Tryd.prog "strconv.ErrRange" = some #[.iface tp p]) :
  Calls Tryd.prog 24 #[.string s,.int .i64 10,.int .i64 8] w fun e w'=>∃ N,e=.returned (.tuple #[.int .i64 (Lib.intSat 8 s.data.toList),.iface 86 (.pointer (some ⟨N,0,none⟩))])∧w.heap.size≤N∧w'.heap[N]?=some (.cells #[.string ⟨#[80,97,114,115,101,73,110,116]⟩,.string s,.iface tp p] 94 (0,0))∧Below w.heap.size w w':=Any.strconv_ParseInt_10_at8_range_var Tryd.laysC174 s hlim h tp p w hvar
end Go.Proofs
