/- Parts. -/
import Derived.Test.YtgkgmdnjnjliiaaDoorTg1
import Derived.Shelf.Strings.BuilderK
import Derived.Shelf.Strconv.Itoa3
import Derived.Shelf.LaysM
import Derived.Shelf.Strconv.Itoa4
import Derived.Shelf.LaysC
import Derived.Shelf.Strconv.ParseIntPublic10
import Derived.Shelf.Strings.Cut
import Derived.Shelf.Strings.Split
import Derived.Test.YtgkgmdnjnjliiaaDoorProg
import Derived.Test.YtgkgmdnjnjliiaaDoorRows
import Derived.Lib.LaidTab
import Derived.KernelRfl
import Derived.Lib.SplitLaws
import Derived.Lib.ParseIntBTie
import Derived.Lib.SmallJoins
import Derived.Laws.Strings
set_option linter.unusedVariables false
set_option linter.unusedSimpArgs false
set_option linter.unusedSectionVars false
namespace Go.Proofs
abbrev powName :String:=((YtgkgmdnjnjliiaaDoor.Rows.fnExactTextGraphRow.laid).map (fun z=>z.1)).getD 2 ""
open Go.Shelf
def Tryd.lays171_ren :Go.Shelf.Ren:=⟨fun|171=>38|243=>56|246=>49|283=>67|284=>68|285=>69|286=>70|129=>84|317=>83|318=>85|319=>86|320=>87|337=>90|338=>91|n=>n,fun|3=>3|9=>9|2=>2|4=>4|171=>91|0=>0|53=>85|37=>62|5=>5|173=>94|212=>112|51=>75|20=>20|213=>113|46=>83|232=>125|233=>126|n=>n,fun|17=>3|18=>6|19=>7|n=>n⟩
theorem Tryd.lays171 :Go.Proofs.Lays.n171 Tryd.prog Tryd.lays171_ren:={
 mixed:=by kernel_rfl
 f129:=Tryd.func84.trans (congrArg some (by kernel_rfl))
 f171:=Tryd.func38.trans (congrArg some (by kernel_rfl))
 f243:=Tryd.func56.trans (congrArg some (by kernel_rfl))
 f246:=Tryd.func49.trans (congrArg some (by kernel_rfl))
 f283:=Tryd.func67.trans (congrArg some (by kernel_rfl))
 f284:=Tryd.func68.trans (congrArg some (by kernel_rfl))
 f285:=Tryd.func69.trans (congrArg some (by kernel_rfl))
 f286:=Tryd.func70.trans (congrArg some (by kernel_rfl))
 f317:=Tryd.func83.trans (congrArg some (by kernel_rfl))
 f318:=Tryd.func85.trans (congrArg some (by kernel_rfl))
 f319:=Tryd.func86.trans (congrArg some (by kernel_rfl))
 f320:=Tryd.func87.trans (congrArg some (by kernel_rfl))
 f337:=Tryd.func90.trans (congrArg some (by kernel_rfl))
 f338:=Tryd.func91.trans (congrArg some (by kernel_rfl))
 t0:=Tryd.underlying0
 a0:=Tryd.isAgg0
 z0:=Tryd.sizeOf0
 v0:=Tryd.zeroValue0
 t2:=Tryd.underlying2
 a2:=Tryd.isAgg2
 z2:=Tryd.sizeOf2
 v2:=Tryd.zeroValue2
 t3:=Tryd.underlying3
 a3:=Tryd.isAgg3
 z3:=Tryd.sizeOf3
 v3:=Tryd.zeroValue3
 t4:=Tryd.underlying4
 a4:=Tryd.isAgg4
 z4:=Tryd.sizeOf4
 v4:=Tryd.zeroValue4
 t5:=Tryd.underlying5
 a5:=Tryd.isAgg5
 z5:=Tryd.sizeOf5
 v5:=Tryd.zeroValue5
 t9:=Tryd.underlying9
 a9:=Tryd.isAgg9
 z9:=Tryd.sizeOf9
 v9:=Tryd.zeroValue9
 t20:=Tryd.underlying20
 a20:=Tryd.isAgg20
 z20:=Tryd.sizeOf20
 v20:=Tryd.zeroValue20
 t37:=Tryd.underlying62
 a37:=Tryd.isAgg62
 z37:=Tryd.sizeOf62
 v37:=Tryd.zeroValue62
 t46:=Tryd.underlying83
 a46:=Tryd.isAgg83
 z46:=Tryd.sizeOf83
 v46:=Tryd.zeroValue83
 t51:=Tryd.underlying75
 a51:=Tryd.isAgg75
 z51:=Tryd.sizeOf75
 v51:=Tryd.zeroValue75
 t53:=Tryd.underlying85
 a53:=Tryd.isAgg85
 z53:=Tryd.sizeOf85
 v53:=Tryd.zeroValue85
 t171:=Tryd.underlying91
 a171:=Tryd.isAgg91
 z171:=Tryd.sizeOf91
 v171:=Tryd.zeroValue91
 t173:=Tryd.underlying94
 a173:=Tryd.isAgg94
 z173:=Tryd.sizeOf94
 v173:=Tryd.zeroValue94
 t212:=Tryd.underlying112
 a212:=Tryd.isAgg112
 z212:=Tryd.sizeOf112
 v212:=Tryd.zeroValue112
 t213:=Tryd.underlying113
 a213:=Tryd.isAgg113
 z213:=Tryd.sizeOf113
 t232:=Tryd.underlying125
 a232:=Tryd.isAgg125
 z232:=Tryd.sizeOf125
 v232:=Tryd.zeroValue125
 t233:=Tryd.underlying126
 a233:=Tryd.isAgg126
 z233:=Tryd.sizeOf126
 v233:=Tryd.zeroValue126
 g17:=by kernel_rfl
 g18:=by kernel_rfl
 g19:=by kernel_rfl}
open Go.RowKit Go.Sort Go.Lib in
theorem Tryd.strconv_Itoa_small (i:Nat)(hi:i<100)(w:World):
  Calls Tryd.prog 38 #[.int .i64 i] w λe w'=>e= .returned (.string ⟨(Lib.decDigits i).toArray⟩)∧w'=w:=Any.strconv_Itoa_small Tryd.lays171 i hi w
def Tryd.laysM173_ren :Go.Shelf.Ren:=⟨fun|173=>31|246=>49|283=>67|284=>68|285=>69|286=>70|129=>84|317=>83|318=>85|319=>86|320=>87|337=>90|338=>91|n=>n,fun|2=>2|3=>3|9=>9|4=>4|171=>91|0=>0|53=>85|37=>62|5=>5|173=>94|212=>112|51=>75|20=>20|213=>113|46=>83|232=>125|233=>126|n=>n,fun|17=>3|18=>6|19=>7|n=>n⟩
theorem Tryd.laysM173 :Go.Proofs.LaysM.n173 Tryd.prog Tryd.laysM173_ren:={
 mixed:=by kernel_rfl
 f129:=Tryd.func84.trans (congrArg some (by kernel_rfl))
 f173:=Tryd.func31.trans (congrArg some (by kernel_rfl))
 f246:=Tryd.func49.trans (congrArg some (by kernel_rfl))
 f283:=Tryd.func67.trans (congrArg some (by kernel_rfl))
 f284:=Tryd.func68.trans (congrArg some (by kernel_rfl))
 f285:=Tryd.func69.trans (congrArg some (by kernel_rfl))
 f286:=Tryd.func70.trans (congrArg some (by kernel_rfl))
 f317:=Tryd.func83.trans (congrArg some (by kernel_rfl))
 f318:=Tryd.func85.trans (congrArg some (by kernel_rfl))
 f319:=Tryd.func86.trans (congrArg some (by kernel_rfl))
 f320:=Tryd.func87.trans (congrArg some (by kernel_rfl))
 f337:=Tryd.func90.trans (congrArg some (by kernel_rfl))
 f338:=Tryd.func91.trans (congrArg some (by kernel_rfl))
 t0:=Tryd.underlying0
 a0:=Tryd.isAgg0
 z0:=Tryd.sizeOf0
 v0:=Tryd.zeroValue0
 t2:=Tryd.underlying2
 a2:=Tryd.isAgg2
 z2:=Tryd.sizeOf2
 v2:=Tryd.zeroValue2
 t3:=Tryd.underlying3
 a3:=Tryd.isAgg3
 z3:=Tryd.sizeOf3
 v3:=Tryd.zeroValue3
 t4:=Tryd.underlying4
 a4:=Tryd.isAgg4
 z4:=Tryd.sizeOf4
 v4:=Tryd.zeroValue4
 t5:=Tryd.underlying5
 a5:=Tryd.isAgg5
 z5:=Tryd.sizeOf5
 v5:=Tryd.zeroValue5
 t9:=Tryd.underlying9
 a9:=Tryd.isAgg9
 z9:=Tryd.sizeOf9
 v9:=Tryd.zeroValue9
 t20:=Tryd.underlying20
 a20:=Tryd.isAgg20
 z20:=Tryd.sizeOf20
 v20:=Tryd.zeroValue20
 t37:=Tryd.underlying62
 a37:=Tryd.isAgg62
 z37:=Tryd.sizeOf62
 v37:=Tryd.zeroValue62
 t46:=Tryd.underlying83
 a46:=Tryd.isAgg83
 z46:=Tryd.sizeOf83
 v46:=Tryd.zeroValue83
 t51:=Tryd.underlying75
 a51:=Tryd.isAgg75
 z51:=Tryd.sizeOf75
 v51:=Tryd.zeroValue75
 t53:=Tryd.underlying85
 a53:=Tryd.isAgg85
 z53:=Tryd.sizeOf85
 v53:=Tryd.zeroValue85
 t171:=Tryd.underlying91
 a171:=Tryd.isAgg91
 z171:=Tryd.sizeOf91
 v171:=Tryd.zeroValue91
 t173:=Tryd.underlying94
 a173:=Tryd.isAgg94
 z173:=Tryd.sizeOf94
 v173:=Tryd.zeroValue94
 t212:=Tryd.underlying112
 a212:=Tryd.isAgg112
 z212:=Tryd.sizeOf112
 v212:=Tryd.zeroValue112
 t213:=Tryd.underlying113
 a213:=Tryd.isAgg113
 z213:=Tryd.sizeOf113
 t232:=Tryd.underlying125
 a232:=Tryd.isAgg125
 z232:=Tryd.sizeOf125
 v232:=Tryd.zeroValue125
 t233:=Tryd.underlying126
 a233:=Tryd.isAgg126
 z233:=Tryd.sizeOf126
 v233:=Tryd.zeroValue126
 g17:=by kernel_rfl
 g18:=by kernel_rfl
 g19:=by kernel_rfl
 i0:=by kernel_rfl
 i2:=by kernel_rfl
 i3:=by kernel_rfl
 i4:=by kernel_rfl
 i5:=by kernel_rfl
 i9:=by kernel_rfl
 i20:=by kernel_rfl
 i37:=by kernel_rfl
 i46:=by kernel_rfl
 i51:=by kernel_rfl
 i53:=by kernel_rfl
 i171:=by kernel_rfl
 i173:=by kernel_rfl
 i212:=by kernel_rfl
 i232:=by kernel_rfl
 i233:=by kernel_rfl
 m17:=by kernel_rfl
 m18:=by kernel_rfl
 m19:=by kernel_rfl}
open Go.RowKit Go.Sort Go.Lib in
theorem Tryd.strconv_FormatInt_10 (n:Int)(h0: -9223372036854775808≤n)(h1:n≤9223372036854775807)(w:World)(htab:Lib.TabIs Tryd.prog w powName .u64 Lib.pow10Tab):
  Calls Tryd.prog 31 #[.int .i64 n,.int .i64 10] w λe w'=>e= .returned (.string ⟨(Lib.itoa n).toArray⟩)∧∃k os,w'=grow (w.drewN k) os:=Any.strconv_FormatInt_10 Tryd.laysM173 n h0 h1 w htab
def Tryd.laysC174_ren :Go.Shelf.Ren:=⟨fun|174=>30|247=>47|245=>48|287=>62|279=>63|280=>64|281=>65|282=>66|321=>79|322=>80|316=>81|171=>38|205=>82|243=>56|246=>49|283=>67|284=>68|285=>69|286=>70|129=>84|317=>83|318=>85|319=>86|320=>87|337=>90|338=>91|n=>n,fun|9=>9|3=>3|2=>2|75=>51|85=>52|4=>4|167=>84|5=>5|53=>85|175=>86|46=>83|168=>88|37=>62|0=>0|210=>109|21=>21|127=>79|145=>119|143=>117|171=>91|173=>94|212=>112|51=>75|20=>20|213=>113|232=>125|233=>126|80=>68|n=>n,fun|15=>1|16=>2|17=>3|18=>6|19=>7|n=>n⟩
theorem Tryd.laysC174 :Go.Proofs.LaysC.n174 Tryd.prog Tryd.laysC174_ren:={
 mixed:=by kernel_rfl
 f129:=Tryd.func84.trans (congrArg some (by kernel_rfl))
 f171:=Tryd.func38.trans (congrArg some (by kernel_rfl))
 f174:=Tryd.func30.trans (congrArg some (by kernel_rfl))
 f205:=Tryd.func82.trans (congrArg some (by kernel_rfl))
 f243:=Tryd.func56.trans (congrArg some (by kernel_rfl))
 f245:=Tryd.func48.trans (congrArg some (by kernel_rfl))
 f246:=Tryd.func49.trans (congrArg some (by kernel_rfl))
 f247:=Tryd.func47.trans (congrArg some (by kernel_rfl))
 f279:=Tryd.func63.trans (congrArg some (by kernel_rfl))
 f280:=Tryd.func64.trans (congrArg some (by kernel_rfl))
 f281:=Tryd.func65.trans (congrArg some (by kernel_rfl))
 f282:=Tryd.func66.trans (congrArg some (by kernel_rfl))
 f283:=Tryd.func67.trans (congrArg some (by kernel_rfl))
 f284:=Tryd.func68.trans (congrArg some (by kernel_rfl))
 f285:=Tryd.func69.trans (congrArg some (by kernel_rfl))
 f286:=Tryd.func70.trans (congrArg some (by kernel_rfl))
 f287:=Tryd.func62.trans (congrArg some (by kernel_rfl))
 f316:=Tryd.func81.trans (congrArg some (by kernel_rfl))
 f317:=Tryd.func83.trans (congrArg some (by kernel_rfl))
 f318:=Tryd.func85.trans (congrArg some (by kernel_rfl))
 f319:=Tryd.func86.trans (congrArg some (by kernel_rfl))
 f320:=Tryd.func87.trans (congrArg some (by kernel_rfl))
 f321:=Tryd.func79.trans (congrArg some (by kernel_rfl))
 f322:=Tryd.func80.trans (congrArg some (by kernel_rfl))
 f337:=Tryd.func90.trans (congrArg some (by kernel_rfl))
 f338:=Tryd.func91.trans (congrArg some (by kernel_rfl))
 t0:=Tryd.underlying0
 a0:=Tryd.isAgg0
 z0:=Tryd.sizeOf0
 v0:=Tryd.zeroValue0
 t2:=Tryd.underlying2
 a2:=Tryd.isAgg2
 z2:=Tryd.sizeOf2
 v2:=Tryd.zeroValue2
 t3:=Tryd.underlying3
 a3:=Tryd.isAgg3
 z3:=Tryd.sizeOf3
 v3:=Tryd.zeroValue3
 t4:=Tryd.underlying4
 a4:=Tryd.isAgg4
 z4:=Tryd.sizeOf4
 v4:=Tryd.zeroValue4
 t5:=Tryd.underlying5
 a5:=Tryd.isAgg5
 z5:=Tryd.sizeOf5
 v5:=Tryd.zeroValue5
 t9:=Tryd.underlying9
 a9:=Tryd.isAgg9
 z9:=Tryd.sizeOf9
 v9:=Tryd.zeroValue9
 t20:=Tryd.underlying20
 a20:=Tryd.isAgg20
 z20:=Tryd.sizeOf20
 v20:=Tryd.zeroValue20
 t21:=Tryd.underlying21
 a21:=Tryd.isAgg21
 z21:=Tryd.sizeOf21
 v21:=Tryd.zeroValue21
 t37:=Tryd.underlying62
 a37:=Tryd.isAgg62
 z37:=Tryd.sizeOf62
 v37:=Tryd.zeroValue62
 t46:=Tryd.underlying83
 a46:=Tryd.isAgg83
 z46:=Tryd.sizeOf83
 v46:=Tryd.zeroValue83
 t51:=Tryd.underlying75
 a51:=Tryd.isAgg75
 z51:=Tryd.sizeOf75
 v51:=Tryd.zeroValue75
 t53:=Tryd.underlying85
 a53:=Tryd.isAgg85
 z53:=Tryd.sizeOf85
 v53:=Tryd.zeroValue85
 t75:=Tryd.underlying51
 a75:=Tryd.isAgg51
 z75:=Tryd.sizeOf51
 v75:=Tryd.zeroValue51
 t85:=Tryd.underlying52
 a85:=Tryd.isAgg52
 z85:=Tryd.sizeOf52
 v85:=Tryd.zeroValue52
 t127:=Tryd.underlying79
 a127:=Tryd.isAgg79
 z127:=Tryd.sizeOf79
 v127:=Tryd.zeroValue79
 t143:=Tryd.underlying117
 a143:=Tryd.isAgg117
 z143:=Tryd.sizeOf117
 v143:=Tryd.zeroValue117
 t145:=Tryd.underlying119
 a145:=Tryd.isAgg119
 z145:=Tryd.sizeOf119
 v145:=Tryd.zeroValue119
 t167:=Tryd.underlying84
 a167:=Tryd.isAgg84
 z167:=Tryd.sizeOf84
 v167:=Tryd.zeroValue84
 t168:=Tryd.underlying88
 a168:=Tryd.isAgg88
 z168:=Tryd.sizeOf88
 v168:=Tryd.zeroValue88
 t171:=Tryd.underlying91
 a171:=Tryd.isAgg91
 z171:=Tryd.sizeOf91
 v171:=Tryd.zeroValue91
 t173:=Tryd.underlying94
 a173:=Tryd.isAgg94
 z173:=Tryd.sizeOf94
 v173:=Tryd.zeroValue94
 t175:=Tryd.underlying86
 a175:=Tryd.isAgg86
 z175:=Tryd.sizeOf86
 v175:=Tryd.zeroValue86
 t210:=Tryd.underlying109
 a210:=Tryd.isAgg109
 z210:=Tryd.sizeOf109
 v210:=Tryd.zeroValue109
 t212:=Tryd.underlying112
 a212:=Tryd.isAgg112
 z212:=Tryd.sizeOf112
 v212:=Tryd.zeroValue112
 t213:=Tryd.underlying113
 a213:=Tryd.isAgg113
 z213:=Tryd.sizeOf113
 t232:=Tryd.underlying125
 a232:=Tryd.isAgg125
 z232:=Tryd.sizeOf125
 v232:=Tryd.zeroValue125
 t233:=Tryd.underlying126
 a233:=Tryd.isAgg126
 z233:=Tryd.sizeOf126
 v233:=Tryd.zeroValue126
 g15:=by kernel_rfl
 g16:=by kernel_rfl
 g17:=by kernel_rfl
 g18:=by kernel_rfl
 g19:=by kernel_rfl
 t80:=Tryd.underlying68
 a80:=Tryd.isAgg68
 z80:=Tryd.sizeOf68
 v80:=Tryd.zeroValue68
 i0:=by kernel_rfl
 i2:=by kernel_rfl
 i3:=by kernel_rfl
 i4:=by kernel_rfl
 i5:=by kernel_rfl
 i9:=by kernel_rfl
 i20:=by kernel_rfl
 i21:=by kernel_rfl
 i37:=by kernel_rfl
 i46:=by kernel_rfl
 i51:=by kernel_rfl
 i53:=by kernel_rfl
 i75:=by kernel_rfl
 i80:=by kernel_rfl
 i85:=by kernel_rfl
 i127:=by kernel_rfl
 i143:=by kernel_rfl
 i145:=by kernel_rfl
 i167:=by kernel_rfl
 i168:=by kernel_rfl
 i171:=by kernel_rfl
 i173:=by kernel_rfl
 i175:=by kernel_rfl
 i210:=by kernel_rfl
 i212:=by kernel_rfl
 i232:=by kernel_rfl
 i233:=by kernel_rfl
 m15:=by kernel_rfl
 m16:=by kernel_rfl
 m17:=by kernel_rfl
 m18:=by kernel_rfl
 m19:=by kernel_rfl
 c0:=by kernel_rfl
 c2:=by kernel_rfl
 c3:=by kernel_rfl
 c4:=by kernel_rfl
 c5:=by kernel_rfl
 c9:=by kernel_rfl
 c20:=by kernel_rfl
 c21:=by kernel_rfl
 c37:=by kernel_rfl
 c46:=by kernel_rfl
 c51:=by kernel_rfl
 c53:=by kernel_rfl
 c75:=by kernel_rfl
 c80:=by kernel_rfl
 c85:=by kernel_rfl
 c127:=by kernel_rfl
 c143:=by kernel_rfl
 c145:=by kernel_rfl
 c167:=by kernel_rfl
 c168:=by kernel_rfl
 c171:=by kernel_rfl
 c173:=by kernel_rfl
 c175:=by kernel_rfl
 c210:=by kernel_rfl
 c212:=by kernel_rfl
 c213:=by kernel_rfl
 c232:=by kernel_rfl
 c233:=by kernel_rfl}
open Go.RowKit in
theorem Tryd.strconv_ParseInt_10_at64_ok (s:ByteArray)(hmax:s.size≤9223372036854775806)(v:Int)(h:Lib.parseIntB 64 s.data.toList= .ok v)(w:World):
  Calls Tryd.prog 30 #[.string s,.int .i64 10,.int .i64 64] w λe w'=>e= .returned (.tuple #[.int .i64 v,.nilIface])∧(w'=w∨∃t,w'=Lib.bytesWorld w 5 t):=Any.strconv_ParseInt_10_at64_ok Tryd.laysC174 s hmax v h w
open Go.RowKit in
theorem Tryd.strconv_ParseInt_10_at64_syntax (s:ByteArray)(hlim:s.size≤281474976710656)(h:Lib.parseIntB 64 s.data.toList= .«syntax»)(ev:Value)(w:World)(hv:w.cell? ⟨1,0,none⟩=some ev)(hev:ev= .nilIface∨∃te pe,ev= .iface te pe):
  Calls Tryd.prog 30 #[.string s,.int .i64 10,.int .i64 64] w λe w'=>∃N,e= .returned (.tuple #[.int .i64 (0),.iface 88 (.pointer (some ⟨N,0,none⟩))])∧w.heap.size≤N∧w'.heap[N]? =some (.cells #[.string ⟨#[80,97,114,115,101,73,110,116]⟩,.string s,ev] 109 (0,0))∧Below w.heap.size w w':=Any.strconv_ParseInt_10_at64_syntax Tryd.laysC174 s hlim h ev w hv hev
open Go.RowKit in
theorem Tryd.strconv_ParseInt_10_at64_range (s:ByteArray)(hlim:s.size≤281474976710656)(h:Lib.parseIntB 64 s.data.toList= .range)(ev:Value)(w:World)(hv:w.cell? ⟨2,0,none⟩=some ev)(hev:ev= .nilIface∨∃te pe,ev= .iface te pe):
  Calls Tryd.prog 30 #[.string s,.int .i64 10,.int .i64 64] w λe w'=>∃N,e= .returned (.tuple #[.int .i64 (Lib.intSat 64 s.data.toList),.iface 88 (.pointer (some ⟨N,0,none⟩))])∧w.heap.size≤N∧w'.heap[N]? =some (.cells #[.string ⟨#[80,97,114,115,101,73,110,116]⟩,.string s,ev] 109 (0,0))∧Below w.heap.size w w':=Any.strconv_ParseInt_10_at64_range Tryd.laysC174 s hlim h ev w hv hev
def Tryd.lays145_ren :Go.Shelf.Ren:=⟨fun|145=>13|220=>29|219=>46|217=>58|225=>59|224=>60|267=>61|266=>77|314=>78|n=>n,fun|9=>9|4=>4|59=>37|3=>3|5=>5|46=>83|146=>104|51=>75|n=>n,fun|1=>0|n=>n⟩
theorem Tryd.lays145 :Go.Proofs.Lays.n145 Tryd.prog Tryd.lays145_ren:={
 mixed:=by kernel_rfl
 f145:=Tryd.func13.trans (congrArg some (by kernel_rfl))
 f217:=Tryd.func58.trans (congrArg some (by kernel_rfl))
 f219:=Tryd.func46.trans (congrArg some (by kernel_rfl))
 f220:=Tryd.func29.trans (congrArg some (by kernel_rfl))
 f224:=Tryd.func60.trans (congrArg some (by kernel_rfl))
 f225:=Tryd.func59.trans (congrArg some (by kernel_rfl))
 f266:=Tryd.func77.trans (congrArg some (by kernel_rfl))
 f267:=Tryd.func61.trans (congrArg some (by kernel_rfl))
 f314:=Tryd.func78.trans (congrArg some (by kernel_rfl))
 t3:=Tryd.underlying3
 a3:=Tryd.isAgg3
 z3:=Tryd.sizeOf3
 v3:=Tryd.zeroValue3
 t4:=Tryd.underlying4
 a4:=Tryd.isAgg4
 z4:=Tryd.sizeOf4
 v4:=Tryd.zeroValue4
 t5:=Tryd.underlying5
 a5:=Tryd.isAgg5
 z5:=Tryd.sizeOf5
 v5:=Tryd.zeroValue5
 t9:=Tryd.underlying9
 a9:=Tryd.isAgg9
 z9:=Tryd.sizeOf9
 v9:=Tryd.zeroValue9
 t46:=Tryd.underlying83
 a46:=Tryd.isAgg83
 z46:=Tryd.sizeOf83
 v46:=Tryd.zeroValue83
 t51:=Tryd.underlying75
 a51:=Tryd.isAgg75
 z51:=Tryd.sizeOf75
 v51:=Tryd.zeroValue75
 t59:=Tryd.underlying37
 a59:=Tryd.isAgg37
 z59:=Tryd.sizeOf37
 v59:=Tryd.zeroValue37
 t146:=Tryd.underlying104
 a146:=Tryd.isAgg104
 z146:=Tryd.sizeOf104
 v146:=Tryd.zeroValue104
 g1:=by kernel_rfl}
open Go.RowKit Go.Lib in
theorem Tryd.strings_Cut (s sep:ByteArray)(m:Int)(w:World)(hs:s.size<4294967281)(hm:w.cell? ⟨0,0,none⟩=some (.int .i64 m)):
  Calls Tryd.prog 13 #[.string s,.string sep] w λe w'=>e= .returned (.tuple #[.string ⟨(Lib.cut s.data.toList sep.data.toList).1.toArray⟩,.string ⟨(Lib.cut s.data.toList sep.data.toList).2.1.toArray⟩,.bool (Lib.cut s.data.toList sep.data.toList).2.2])∧∃n,w'=w.drewN n:=Any.strings_Cut Tryd.lays145 s sep m w hs hm
def Tryd.lays146_ren :Go.Shelf.Ren:=⟨fun|146=>15|221=>32|268=>50|138=>51|143=>52|195=>71|197=>72|218=>73|219=>46|260=>88|217=>58|225=>59|224=>60|267=>61|266=>77|314=>78|n=>n,fun|9=>9|31=>30|3=>3|4=>4|0=>0|105=>97|21=>21|5=>5|46=>83|119=>121|139=>124|138=>123|146=>104|51=>75|n=>n,fun|1=>0|3=>4|4=>5|n=>n⟩
theorem Tryd.lays146 :Go.Proofs.Lays.n146 Tryd.prog Tryd.lays146_ren:={
 mixed:=by kernel_rfl
 f138:=Tryd.func51.trans (congrArg some (by kernel_rfl))
 f143:=Tryd.func52.trans (congrArg some (by kernel_rfl))
 f146:=Tryd.func15.trans (congrArg some (by kernel_rfl))
 f195:=Tryd.func71.trans (congrArg some (by kernel_rfl))
 f197:=Tryd.func72.trans (congrArg some (by kernel_rfl))
 f217:=Tryd.func58.trans (congrArg some (by kernel_rfl))
 f218:=Tryd.func73.trans (congrArg some (by kernel_rfl))
 f219:=Tryd.func46.trans (congrArg some (by kernel_rfl))
 f221:=Tryd.func32.trans (congrArg some (by kernel_rfl))
 f224:=Tryd.func60.trans (congrArg some (by kernel_rfl))
 f225:=Tryd.func59.trans (congrArg some (by kernel_rfl))
 f260:=Tryd.func88.trans (congrArg some (by kernel_rfl))
 f266:=Tryd.func77.trans (congrArg some (by kernel_rfl))
 f267:=Tryd.func61.trans (congrArg some (by kernel_rfl))
 f268:=Tryd.func50.trans (congrArg some (by kernel_rfl))
 f314:=Tryd.func78.trans (congrArg some (by kernel_rfl))
 t0:=Tryd.underlying0
 a0:=Tryd.isAgg0
 z0:=Tryd.sizeOf0
 v0:=Tryd.zeroValue0
 t3:=Tryd.underlying3
 a3:=Tryd.isAgg3
 z3:=Tryd.sizeOf3
 v3:=Tryd.zeroValue3
 t4:=Tryd.underlying4
 a4:=Tryd.isAgg4
 z4:=Tryd.sizeOf4
 v4:=Tryd.zeroValue4
 t5:=Tryd.underlying5
 a5:=Tryd.isAgg5
 z5:=Tryd.sizeOf5
 v5:=Tryd.zeroValue5
 t9:=Tryd.underlying9
 a9:=Tryd.isAgg9
 z9:=Tryd.sizeOf9
 v9:=Tryd.zeroValue9
 t21:=Tryd.underlying21
 a21:=Tryd.isAgg21
 z21:=Tryd.sizeOf21
 v21:=Tryd.zeroValue21
 t31:=Tryd.underlying30
 a31:=Tryd.isAgg30
 z31:=Tryd.sizeOf30
 v31:=Tryd.zeroValue30
 t46:=Tryd.underlying83
 a46:=Tryd.isAgg83
 z46:=Tryd.sizeOf83
 v46:=Tryd.zeroValue83
 t51:=Tryd.underlying75
 a51:=Tryd.isAgg75
 z51:=Tryd.sizeOf75
 v51:=Tryd.zeroValue75
 t105:=Tryd.underlying97
 a105:=Tryd.isAgg97
 z105:=Tryd.sizeOf97
 v105:=Tryd.zeroValue97
 t119:=Tryd.underlying121
 a119:=Tryd.isAgg121
 z119:=Tryd.sizeOf121
 t138:=Tryd.underlying123
 a138:=Tryd.isAgg123
 z138:=Tryd.sizeOf123
 v138:=Tryd.zeroValue123
 t139:=Tryd.underlying124
 a139:=Tryd.isAgg124
 z139:=Tryd.sizeOf124
 v139:=Tryd.zeroValue124
 t146:=Tryd.underlying104
 a146:=Tryd.isAgg104
 z146:=Tryd.sizeOf104
 v146:=Tryd.zeroValue104
 g1:=by kernel_rfl
 g3:=by kernel_rfl
 g4:=by kernel_rfl}
open Go.RowKit Go.Lib in
theorem Tryd.strings_Split (s sep:ByteArray)(m:Int)(w:World)(hs:s.size<4294967281)(hm:w.cell? ⟨0,0,none⟩=some (.int .i64 m))(h1:1≤sep.size):
  Calls Tryd.prog 15 #[.string s,.string sep] w λe w'=>
   e= .returned (.slice (some ⟨w.heap.size,0,none⟩) (Lib.countB s sep+1) (Lib.countB s sep+1))∧w'=w.alloc (.cells ((Lib.splitB sep 0 (Lib.countB s sep) s).map Value.string).toArray 9):=Any.strings_Split Tryd.lays146 (by kernel_rfl) s sep m w hs hm h1
def Tryd.lays166_ren :Go.Shelf.Ren:=⟨fun|166=>37|240=>55|276=>76|n=>n,fun|0=>0|3=>3|4=>4|5=>5|9=>9|20=>20|37=>62|70=>61|72=>64|75=>51|80=>68|164=>102|n=>n,fun|n=>n⟩
theorem Tryd.lays166 :Go.Proofs.Lays.n166 Tryd.prog Tryd.lays166_ren:={
 mixed:=by kernel_rfl
 f166:=Tryd.func37.trans (congrArg some (by kernel_rfl))
 f240:=Tryd.func55.trans (congrArg some (by kernel_rfl))
 f276:=Tryd.func76.trans (congrArg some (by kernel_rfl))
 t0:=Tryd.underlying0
 a0:=Tryd.isAgg0
 z0:=Tryd.sizeOf0
 v0:=Tryd.zeroValue0
 t3:=Tryd.underlying3
 a3:=Tryd.isAgg3
 z3:=Tryd.sizeOf3
 v3:=Tryd.zeroValue3
 t4:=Tryd.underlying4
 a4:=Tryd.isAgg4
 z4:=Tryd.sizeOf4
 v4:=Tryd.zeroValue4
 t9:=Tryd.underlying9
 a9:=Tryd.isAgg9
 z9:=Tryd.sizeOf9
 v9:=Tryd.zeroValue9
 t20:=Tryd.underlying20
 a20:=Tryd.isAgg20
 z20:=Tryd.sizeOf20
 v20:=Tryd.zeroValue20
 t37:=Tryd.underlying62
 a37:=Tryd.isAgg62
 z37:=Tryd.sizeOf62
 v37:=Tryd.zeroValue62
 t70:=Tryd.underlying61
 a70:=Tryd.isAgg61
 z70:=Tryd.sizeOf61
 v70:=Tryd.zeroValue61
 t72:=Tryd.underlying64
 a72:=Tryd.isAgg64
 z72:=Tryd.sizeOf64
 v72:=Tryd.zeroValue64
 t75:=Tryd.underlying51
 a75:=Tryd.isAgg51
 z75:=Tryd.sizeOf51
 v75:=Tryd.zeroValue51
 t164:=Tryd.underlying102
 a164:=Tryd.isAgg102
 z164:=Tryd.sizeOf102
 v164:=Tryd.zeroValue102}
theorem Tryd.Builder_Extra_166 :Builder.Extra Tryd.prog Tryd.lays166_ren:={
 sizeBuilder:=by kernel_rfl
 liesBuilder:=by kernel_rfl
 t5:=Tryd.underlying5
 a5:=Tryd.isAgg5
 z5:=Tryd.sizeOf5
 v5:=Tryd.zeroValue5
 infoByte:=by kernel_rfl
 cellsByte:=by kernel_rfl
 sizeByte:=by kernel_rfl
 neB5:=by decide}
end Go.Proofs

set_option maxRecDepth 100000
namespace Go.Proofs.YtgkgmdnjnjliiaaDoor
open Go Go.Sx
open Go.Proofs.Tryd Go.Proofs.YtgkgmdnjnjliiaaDoor.Tryd IntKind
variable {W w : World} {G : GH} {H : List Itm}
theorem powAt :prog.globalNamed powName=some 3:=by kernel_rfl
theorem powIs {W w:World}{G:GH}{H:List Itm}(hW:TxtW W)(m:Mem W G w H):Lib.TabIs prog w powName .u64 Lib.pow10Tab:=by
 obtain⟨e,fz,h⟩:=hW.pow
 have h2:=m.sealed 3 _ (m.base 3 _ h)
 unfold Lib.TabIs World.var?
 rw[powAt]
 simp[h2]
theorem Dq (w:World)(k:Nat):Go.RowKit.Below w.heap.size w (w.drewN k):=⟨rfl,rfl,rfl,Nat.le_refl _,λ_ _=>rfl⟩
theorem cellOf {W w:World}{G:GH}{H:List Itm}(m:Mem W G w H){k:Nat}{v:Value}(h:W.cell? ⟨k,0,none⟩=some v):w.cell? ⟨k,0,none⟩=some v:=by
 unfold World.cell? at h ⊢
 cases hk:W.heap[k]? with
 |none=>simp[hk] at h
 |some o=>
  have:=m.sealed k _ (m.base k _ hk)
  simpa [hk,this] using h
theorem Wk.j {x0 x1:ByteArray}(hW:TxtW W)(m:Mem W G w H){y:ByteArray×ByteArray×Bool}(hd:D.j x0 x1=some y):
  Calls prog 13 #[(.string x0),(.string x1)] w (Res W G H (λ_ Ho v=>Ho=[]∧v=(.tuple #[(.string y.1),(.string y.2.1),(.bool y.2.2)]))):=by
 unfold D.j at hd
 split at hd
 ·rename_i hs
  cases hd
  obtain⟨mm,hm⟩:=hW.maxLen
  refine(Tryd.strings_Cut x0 x1 mm w hs (cellOf m hm)).mono λe w' ⟨he,k,hk⟩=>⟨_,he,G,[],GLe.refl G,?_,Z,Z⟩
  subst hk
  exact m.above (Dq w k)
 ·cases hd
theorem Wk.r {x0 x1:ByteArray}(hW:TxtW W)(m:Mem W G w H){y:List ByteArray}(hd:D.r x0 x1=some y):
  Calls prog 15 #[(.string x0),(.string x1)] w (Res W G H (λG' Ho v=>∃r0:Value,∃i0:Itm,Ho=[i0]∧r0=v∧Ow RStr 9 G' i0 r0 y)):=by
 unfold D.r at hd
 split at hd
 ·rename_i hs
  cases hd
  obtain⟨mm,hm⟩:=hW.maxLen
  refine have hl:=Lib.splitB_all x1 hs.2 0 _ x0 rfl;have hc:=Lib.countB_le x1 hs.2 x0.size x0 (Nat.le_refl _);(Tryd.strings_Split x0 x1 mm w hs.1 (cellOf m hm) hs.2).mono λe w' hh=> ?_
  obtain⟨he,hk⟩:=hh
  have h3:=m.strs 9 (Lib.splitB x1 0 (Lib.countB x0 x1) x0) (by omega)
  rw[hl] at h3
  refine⟨_,he,G,[.row (.slice (some ⟨w.heap.size,0,none⟩) (Lib.countB x0 x1+1) (Lib.countB x0 x1+1)) 9 1 (Lib.countB x0 x1+1) ((Lib.splitB x1 0 (Lib.countB x0 x1) x0).map Value.string)],GLe.refl G,?_,_,_,Z,Z,?_⟩
  ·subst hk;exact h3
  ·refine⟨(Lib.splitB x1 0 (Lib.countB x0 x1) x0).map Value.string,by rw[hl],by simp,λi c x hc hx=> ?_⟩
   rw[List.getElem?_map,hx] at hc
   cases hc;rfl
 ·cases hd
theorem Wk.p {x0:Int}(m:Mem W G w H){y:ByteArray}(hd:D.p x0=some y):
  Calls prog 38 #[iv x0] w (Res W G H (λ_ Ho v=>Ho=[]∧v=(.string y))):=by
 unfold D.p at hd
 split at hd
 ·rename_i hs
  cases hd
  have e:((x0.toNat:Nat):Int)=x0:=by omega
  have:=Tryd.strconv_Itoa_small x0.toNat (by omega) w
  rw[e] at this
  exact this.mono λe w' ⟨he,hk⟩=>by subst hk;exact⟨_,he,G,[],GLe.refl G,m,Z,Z⟩
 ·cases hd
theorem Wk.c {x0 x1:Int}(hW:TxtW W)(m:Mem W G w H){y:ByteArray}(hd:D.c x0 x1=some y):
  Calls prog 31 #[iv x0,iv x1] w (Res W G H (λ_ Ho v=>Ho=[]∧v=(.string y))):=by
 unfold D.c at hd
 split at hd
 ·rename_i hs
  cases hd
  obtain⟨rfl,h0,h1⟩:=hs
  refine(Tryd.strconv_FormatInt_10 x0 h0 h1 w (powIs hW m)).mono λe w' ⟨he,k,os,hk⟩=>⟨_,he,G,[],GLe.refl G,?_,Z,Z⟩
  subst hk
  refine(m.above (Dq w k)).above ⟨Z,Z,Z,by simp[Go.Sort.grow],λq hq=> ?_⟩
  simp only[Go.Sort.grow]
  rw[Array.getElem?_append_left hq]
 ·cases hd
theorem Wk.d {x0:ByteArray}{x1 x2:Int}(hW:TxtW W)(m:Mem W G w H){y:Int×Bool}(hd:D.d x0 x1 x2=some y):
  Calls prog 30 #[(.string x0),iv x1,iv x2] w (Res W G H (λG' Ho v=>G=G'∧∃ev,Ho=[]∧v=(.tuple #[iv y.1,ev])∧ErV ev y.2)):=by
 unfold D.d at hd
 split at hd
 ·rename_i hs
  obtain⟨rfl,rfl,hs⟩:=hs
  cases hd
  cases hp:Lib.parseIntB 64 x0.data.toList with
  |ok v=>
   refine(Tryd.strconv_ParseInt_10_at64_ok x0 (by omega) v hp w).mono λe w' hh=> ?_
   obtain⟨he,hb⟩:=hh
   refine⟨_,he,G,[],GLe.refl G,?_,Z,_,Z,Z,.inr ⟨Z,Z⟩⟩
   rcases hb with rfl|hb
   ·exact m
   ·obtain⟨t,rfl⟩:=hb
    exact m.above (Lib.bytesWorld_below _ _ _)
  |«syntax»=>
   obtain⟨ev,h1,h2⟩:=hW.syn
   exact(Tryd.strconv_ParseInt_10_at64_syntax x0 hs hp ev w (cellOf m h1) h2).mono λe w' ⟨N,he,_,_,hb⟩=>⟨_,he,G,[],GLe.refl G,m.above hb,Z,_,Z,Z,.inl ⟨Z,_,_,Z⟩⟩
  |range=>
   obtain⟨ev,h1,h2⟩:=hW.rng
   exact(Tryd.strconv_ParseInt_10_at64_range x0 hs hp ev w (cellOf m h1) h2).mono λe w' ⟨N,he,_,_,hb⟩=>⟨_,he,G,[],GLe.refl G,m.above hb,Z,_,Z,Z,.inl ⟨Z,_,_,Z⟩⟩
 ·cases hd
theorem BuT :SlT prog 62 5 1 1 (.int .u8 0):=⟨underlying62,Tryd.t5,by kernel_rfl,by kernel_rfl,by kernel_rfl,by kernel_rfl⟩
theorem BuP :Br prog 62:=isAgg62
theorem BuF :prog.follows .mixedOrders=true:=by kernel_rfl
theorem Wk.c0 {b:Nat}{p v:Value}{it:Itm}{xs zs:LI}{s:ByteArray}(hp:p= .pointer none∨p= .pointer (some ⟨b,0,none⟩))
  (m:Mem W G w (.box b 64 [p,v]::it::H)) (o:Ow (RI .u8) 5 G it v xs) (hz:Ay xs (sBy s)=some zs):
  Calls prog 37 #[pb b,(.string s)] w (Res W G H (λG' Ho u=>G=G'∧∃v' it',Ho=[.box b 64 [.pointer (some ⟨b,0,none⟩),v'],it']∧u=(.tuple #[iv s.size,.nilIface])∧Ow (RI .u8) 5 G' it' v' zs)):=by
 refine Aw (args:=[pb b,(.string s)]) (N:=19) [.tmp 4,.tmp 5] func37 Z Z (lb Z) Z λa f=>Ae (Ac f Z λa f=>Ac f Z λa f=>AI (Ab f Z λa f=> ?_))
 have hcc:Calls prog 55 #[pb b] w (λe w'=>∃u,e= .returned u∧(u= .tuple #[]∧Mem W G w' (.box b 64 [.pointer (some ⟨b,0,none⟩),v]::it::H))):=by
  refine have hbk:w.heap[b]? =some (.cells #[p,v] 64 (0,0)):=m.items 0 _ rfl;have h0:w.cell? ⟨b,0,none⟩=some p:=m.boxCell 0 rfl rfl;?_
  rcases hp with rfl|rfl
  ·refine(Any.Builder_copyCheck_fresh (ρ:=Tryd.lays166_ren) {Tryd.lays166 with} Tryd.Builder_Extra_166.toX72 b w h0 (by simp[World.shape?,hbk];rfl) (by simp[World.frozen?,hbk])).mono λe w' hh=> ?_
   obtain⟨he,hw⟩:=hh
   subst hw
   exact⟨_,he,Z,m.setBox 0 (pb b)⟩
  ·refine(Any.Builder_copyCheck_used (ρ:=Tryd.lays166_ren) {Tryd.lays166 with} Tryd.Builder_Extra_166.toX72 b w h0).mono λe w' hh=> ?_
   obtain⟨he,hw⟩:=hh
   subst hw
   exact⟨_,he,Z,m⟩
 clear m
 refine l_call (R:=λu w'=>u= .tuple #[]∧Mem W G w' (.box b 64 [.pointer (some ⟨b,0,none⟩),v]::it::H)) f Z Z call55 hcc λu w hu a f=> ?_
 obtain⟨rfl,m⟩:=hu
 exact AI (Ab f Z λa f=>Ab f Z λa f=>l_o f (Cs (f.e Z)) λa f=>BJ underlying64 Z sizeOf62 f Z λa f=>A4 0 1 m BuP f Z Z Z Z λa f=>Ab f Z λa f=>l_appendS 1 m o Z BuT underlying9 f Z Z Z hz λit' v' w a m o f=>l_o f (Cs (f.e Z)) λa f=>BJ underlying64 Z sizeOf62 f Z λa f=>Au 0 1 (ds:=[v']) m sizeOf62 f Z Z (o.cells 1 m Z) (Ax (o.one1 1 m Z) AB) Z (lb Z) Z λw m=>AI (Ab f Z λa f=>l_o f (Bu (f.e Z) underlying9) λa f=>Ac f Z λa f=>Ac f Z λa f=>Aa (Ao ⟨[iv s.size,.nilIface],⟨f.get _ _ Z,f.get _ _ Z,trivial⟩,f.d,G,[.box b 64 [.pointer (some ⟨b,0,none⟩),v'],it'],GLe.refl G,m,Z,_,_,Z,Z,o⟩)))
theorem Wk.Y {b:Nat}{p v:Value}{it:Itm}{xs:LI}
  (m:Mem W G w (.box b 64 [p,v]::it::H)) (o:Ow (RI .u8) 5 G it v xs) {y:ByteArray} (hd:D.Y xs=some y):
  Calls prog 40 #[pb b] w (Res W G H (λ_ Ho u=>Ho=[]∧u=(.string y))):=by
 unfold D.Y at hd
 split at hd
 case isFalse=>cases hd
 rename_i hne
 cases hd
 obtain⟨hne,hal⟩:=hne
 obtain⟨vs,rfl,hA⟩:=o
 refine have hl0:xs.length≠0:=λe=>hne (List.eq_nil_of_length_eq_zero e);have ok:w.ownsRow 0 5 1 v xs.length vs:=m.items 1 _ rfl;?_
 obtain⟨g,cap,cur,rfl,hcap⟩:∃g cap,∃cur:Array Value,v= .slice (some ⟨g,0,none⟩) xs.length cap∧xs.length≤cap:=by
  rcases ok.2 with⟨_,e0⟩|⟨g,cap,cur,e1,_,eh,e2,_⟩
  ·exact absurd e0 hl0
  ·exact⟨g,cap,cur,e1,e2⟩
 clear ok
 have hv:vs=xs.map (Value.int .u8):=by
  apply List.ext_getElem
  ·simp[hA.1]
  ·intro i hi1 hi2
   have hi3:i<xs.length:=by rw[←hA.1];exact hi1
   have:=hA.2 i vs[i] (xs[i]'hi3) (by simp[hi1]) (by simp[hi3])
   simpa [RI] using this
 subst hv
 clear hA
 exact Aw (args:=[pb b]) (N:=14) [.tmp 2] func40 Z Z (lb Z) Z λa f=>Ae (Ac f Z λa f=>Aa (Ag (Bq 10 BuF (by kernel_rfl) m (AC 0 10 Z f Z λa f=>q_p 1 10 Z f (λ_=>Cs (f.e Z)) λa f=>q_fa 2 10 underlying64 Z sizeOf62 Z f Z λa f=>q_bc 3 10 0 BuP Z Z Z f Z λa f=>q_p 4 10 Z f (λ_=>r_sliceData (f.e Z) (by omega)) λa f=>AC 5 10 Z f Z λa f=>q_p 6 10 Z f (λ_=>Cs (f.e Z)) λa f=>q_fa 7 10 underlying64 Z sizeOf62 Z f Z λa f=>q_bc 8 10 0 BuP Z Z Z f Z λa f=>q_p 9 10 Z f (λ_=>r_len (f.e Z) underlying62) λa f=>BB λG2 w hl m=>have hus:=r_unsafeString (P:=prog) (w:=w) (tp:=79) (ti:=3) (ty:=9) underlying79 (by kernel_rfl) hne hal (m.items 1 _ rfl);Bp (w':=_) f Z Z Z (r_unsafeS (f.e Z) (f.e Z) hus) λa f=>have m:Mem W G2 (w.freeze ⟨g,0,none⟩ xs.length) H:=m.tail.freeze xs.length;Ac f Z λa f=>Aa (Ao ⟨[(.string (sOf xs))],f.g Z,f.d,G2,[],hl,m,Z,Z⟩)))))
end Go.Proofs.YtgkgmdnjnjliiaaDoor

set_option maxRecDepth 100000
namespace Go.Proofs.YtgkgmdnjnjliiaaDoor
open Go Go.Sx
open Go.Proofs.Tryd Go.Proofs.YtgkgmdnjnjliiaaDoor.Tryd IntKind
variable {W w : World} {G : GH} {H : List Itm}
theorem T30 :SlT prog 30 9 1 16 (.string ⟨#[]⟩):=⟨underlying30,Tryd.t9,by kernel_rfl,by kernel_rfl,by kernel_rfl,by kernel_rfl⟩
theorem T22 :SlT prog 22 34 1 24 sn:=⟨underlying22,Tryd.t34,by kernel_rfl,by kernel_rfl,by kernel_rfl,by kernel_rfl⟩
theorem T34 :SlT prog 34 2 1 8 (iv 0):=⟨underlying34,Tryd.t2,by kernel_rfl,by kernel_rfl,by kernel_rfl,by kernel_rfl⟩
theorem BA :Br prog 22:=isAgg22
theorem AT :Agg prog 24 1:=⟨isAgg24,sizeOf24⟩
theorem Pl2 :Br prog 2:=isAgg2
theorem Bv :Br prog 34:=isAgg34
theorem T62 :SlT prog 62 5 1 1 (.int .u8 0):=⟨underlying62,Tryd.t5,by kernel_rfl,by kernel_rfl,by kernel_rfl,by kernel_rfl⟩
theorem Pl9 :Br prog 9:=isAgg9
theorem T57 :SlT prog 57 76 1 4 (.int .u32 0):=⟨underlying57,Tryd.t76,by kernel_rfl,by kernel_rfl,by kernel_rfl,by kernel_rfl⟩
theorem Pl76 :Br prog 76:=isAgg76
theorem Wk.o {x0:ByteArray}{x1:Int}(m:Mem W G w (H)){y:((List ByteArray))}(hd:D.o x0 x1=some y):
  Calls prog 9 #[(.string x0),(.int .u8 x1)] w (Res W G H (λG' Ho v=>∃r0:Value,∃i0:Itm,Ho=[i0]∧r0=v∧Ow RStr 9 G' i0 r0 y)):=by
 refine Aw (args:=[(.string x0),(.int .u8 x1)]) (N:=36) [.tmp 4] func9 Z Z (lb Z) Z λa f=> ?_
 unfold D.o at hd
 refine Ae (Ac f Z λa f=>AI (A1 (R:=RStr) (xs:=([]:List ByteArray)) RStr.one m T30 f Z Z Z (by decide) (All2.nil _) λaa ab w a m ac f=>Ac f Z λa f=>AI (Ac f Z λa f=>Aa (Ag (Ae (Ac f Z λa f=>Aa (Bd hd λad ae hd=> ?_)))))))
 refine AW (λa w=>∃af:List ByteArray,af=ad∧∃(ag:GH) (ah:Value) (ai:Itm),GLe G ag∧Fr a 36 [(5,ah)]∧Mem W ag w (ai::H)∧Ow RStr 9 ag ai ah af) ?_ ?_
 ·refine An (AN (λaj a w=>∃ak:List ByteArray,∃al:Int,∃am:Int,(ak,al,am)=aj∧∃(an:GH) (ao:Value) (ap:Itm),GLe G an∧Fr a 36 [(0,(.string x0)),(1,(.int .u8 x1)),(5,ao),(6,iv al),(7,iv am)]∧Mem W an w (ap::H)∧Ow RStr 9 an ap ao ak) ae ⟨_,_,_,Z,_,ab,aa,gr,f.k Z,m,ac⟩ ?_)
  clear ae f m
  rintro aj aq ar au a w ⟨ak,al,am,rfl,an,ao,ap,av,f,m,aw⟩
  refine Ag (Ae (Ab f Z λa f=>Ab f Z λa f=>l_o f (Bu (f.e Z) underlying9) λa f=>Ai f Z Z b_leq λa f=>Aa ?_))
  rcases Af ar with⟨ax,ar⟩|⟨ax,ar⟩
  ·refine Aj f Z ax (Ak (Ag (An (Ae (Ab f Z λa f=>Ab f Z λa f=>l_o f (Bu (f.e Z) underlying9) λa f=>Ai f Z Z b_eql λa f=>Ab f Z λa f=>Bd ar λay az ar=> ?_)))))
   refine A3 6 (λa w=>∃aA,GLe an aA∧Mem W aA w (ap::H)∧Fr a 36 [(0,(.string x0)),(1,(.int .u8 x1)),(5,ao),(6,iv al),(7,iv am),(12,(.bool (decide (am≤(x0.size:Int))))),(15,iv am),(16,(.string x0)),(17,(iv (x0.size:Int))),(18,(.bool (am==(x0.size:Int)))),(19,(.bool (am==(x0.size:Int)))),(25,(.bool ay))]) ?_ ?_
   ·rcases Af az with⟨aB,az⟩|⟨aB,az⟩
    ·refine Am f aB λa f=>Am f aB λa f=>Am f aB λa f=>Am f aB λa f=>Am f aB λa f=>l_o f (AD (f.e Z) aB (f.e Z)) λa f=> ?_
     obtain rfl:=sj az
     exact⟨_,gr,m,f.k Z⟩
    ·refine Al f aB (Ab f Z λa f=>Al f aB (Ab f Z λa f=>Al f aB (Bd az λaC aD az=>l_o f (Cv (f.e Z) (f.e Z) underlying9 aD) λa f=>Al f aB (Ab f Z λa f=>Al f aB (Ai f Z Z b_eql λa f=>l_o f (AE (f.e Z) aB (f.e Z)) λa f=> ?_)))))
     obtain rfl:=sj az
     exact⟨_,gr,m,f.k Z⟩
   ·rintro a w ⟨aA,aE,m,f⟩
    refine have aw:=Ow.mono RStr.mono aE aw;Aa ?_
    rcases Af ar with⟨aF,ar⟩|⟨aF,ar⟩
    ·refine Aj f Z aF (Ae (Ab f Z λa f=>Ab f Z λa f=>Ab f Z λa f=>Ab f Z λa f=>Bd ar λaG aH ar=>l_o f (r_sPart (i:=al) (j:=am) underlying9 (f.e Z) (.inr ⟨_,_,Z,f.e Z⟩) (.inr ⟨_,_,Z,f.e Z⟩) aH) λa f=>A1 (R:=RStr) (xs:=([aG]:List ByteArray)) RStr.one m T30 f Z Z Z (by decide) (All2.cons Z (All2.nil _)) λaI aJ w a m aK f=>Bd ar λaL aM ar=>Bw RStr.one 1 m aw Z T30 Z (by decide) f Z Z Z (Ow.src (j:=0) aK m Z) aM λaN aO w a m aP f=>Ac f Z λa f=>Aa (Ap (Ab f Z λa f=>Ai f Z Z AJ λa f=>Ac f Z λa f=>Aa (Ap (Ab f Z λa f=>Ai f Z Z AJ λa f=>Ac f Z λa f=>Aa (have m:=m.fr 1;have m:=m.eraseAt 1;?_)))))))
     obtain rfl:=sj ar
     exact⟨_,Z,_,_,_,Z,_,aO,aN,(gt av aE),f.k Z,m,aP⟩
    ·refine Ah f Z aF (Ak (Ap (Ab f Z λa f=>Ai f Z Z AJ λa f=>Ac f Z λa f=>Aa ?_)))
     obtain rfl:=sj ar
     exact⟨_,Z,_,_,_,Z,_,ao,ap,(gt av aE),f.k Z,m,aw⟩
  ·refine Ah f Z ax (AL Z ?_)
   obtain rfl:=sj ar
   obtain rfl:=au _ rfl
   exact⟨_,Z,_,ao,ap,av,f.k Z,m,aw⟩
 ·rintro a w ⟨af,rfl,ag,ah,ai,aQ,f,m,aR⟩
  refine Ae (Ab f Z λa f=>Ac f Z λa f=>Aa (Ao ?_))
  obtain rfl:=sj hd
  exact⟨[ah],f.g Z,f.d,_,[ai],aQ,m,_,_,Z,Z,aR⟩
theorem Wk.f {x0:ByteArray}(m:Mem W G w (H)){y:Int×Bool}(hd:D.f x0=some y):
  Calls prog 10 #[(.string x0)] w (Res W G H (λ_ Ho v=>Ho=[]∧v= .tuple #[iv y.1,(.bool y.2)])):=by
 refine Aw (args:=[(.string x0)]) (N:=49) [.tmp 2,.tmp 3] func10 Z Z (lb Z) Z λa f=> ?_
 unfold D.f at hd
 refine Ae (Ac f Z λa f=>Ac f Z λa f=>AI (Ac f Z λa f=>Aa (Ag (Ae (Ab f Z λa f=>l_o f (Bu (f.e Z) underlying9) λa f=>Ai f Z Z AF λa f=>Ab f Z λa f=> ?_)))))
 refine A3 4 (λa w=>∃aa,GLe G aa∧Mem W aa w (H)∧Fr a 49 [(0,(.string x0)),(4,iv 0),(6,(.string x0)),(7,(iv (x0.size:Int))),(8,(.bool (decide ((x0.size:Int)<1)))),(9,(.bool (decide ((x0.size:Int)<1)))),(13,(.bool ((decide ((x0.size:Int)<1))||(decide ((9:Int)<(x0.size:Int))))))]) ?_ ?_
 ·rcases Bool.eq_false_or_eq_true (decide ((x0.size:Int)<1)) with ab|ab
  ·exact Am f ab λa f=>Am f ab λa f=>Am f ab λa f=>l_o f (AD (f.e Z) ab (f.e Z)) λa f=>⟨_,gr,m,f.weak ⟨Z,Z,Z,Z,Z,Z,by rw[ab];rfl,trivial⟩⟩
  ·exact Al f ab (Ab f Z λa f=>Al f ab (l_o f (Bu (f.e Z) underlying9) λa f=>Al f ab (Ai f Z Z BO λa f=>l_o f (AE (f.e Z) ab (f.e Z)) λa f=>⟨_,gr,m,f.weak ⟨Z,Z,Z,Z,Z,Z,by rw[ab];rfl,trivial⟩⟩)))
 ·rintro a w ⟨aa,ac,m,f⟩
  refine Ab f Z λa f=>Bd hd λad ae hd=> ?_
  refine A3 9 (λa w=>∃af,GLe aa af∧Mem W af w (H)∧Fr a 49 [(0,(.string x0)),(4,iv 0),(6,(.string x0)),(7,(iv (x0.size:Int))),(8,(.bool (decide ((x0.size:Int)<1)))),(9,(.bool (decide ((x0.size:Int)<1)))),(13,(.bool ((decide ((x0.size:Int)<1))||(decide ((9:Int)<(x0.size:Int)))))),(14,(.bool ((decide ((x0.size:Int)<1))||(decide ((9:Int)<(x0.size:Int)))))),(23,(.bool ad))]) ?_ ?_
  ·rcases Af ae with⟨ag,ae⟩|⟨ag,ae⟩
   ·refine Am f ag λa f=>Am f ag λa f=>Am f ag λa f=>Am f ag λa f=>BV f Z Z Z λa f=>BV f Z Z Z λa f=>BV f Z Z Z λa f=>Am f ag λa f=>l_o f (AD (f.e Z) ag (f.e Z)) λa f=> ?_
    obtain rfl:=sj ae
    exact⟨_,gr,m,f.k Z⟩
   ·refine Al f ag (Ab f Z λa f=>Al f ag (Bd ae λah ai ae=>l_o f (Cv (f.e Z) (f.e Z) underlying9 ai) λa f=>Al f ag (Ai f Z Z b_eql λa f=>Al f ag (Ab f Z λa f=> ?_))))
    refine A3 4 (λa w=>∃aj,GLe aa aj∧Mem W aj w (H)∧Fr a 49 [(0,(.string x0)),(4,iv 0),(6,(.string x0)),(7,(iv (x0.size:Int))),(8,(.bool (decide ((x0.size:Int)<1)))),(9,(.bool (decide ((x0.size:Int)<1)))),(13,(.bool ((decide ((x0.size:Int)<1))||(decide ((9:Int)<(x0.size:Int)))))),(14,(.bool ((decide ((x0.size:Int)<1))||(decide ((9:Int)<(x0.size:Int)))))),(15,(.string x0)),(16,(.int .u8 ah)),(17,(.bool (ah==48))),(18,(.bool (ah==48))),(22,(.bool ((ah==48)&&(decide ((1:Int)<(x0.size:Int))))))]) ?_ ?_
    ·rcases Bool.eq_false_or_eq_true (ah==48) with ak|ak
     ·exact Al f ak (Ab f Z λa f=>Al f ak (l_o f (Bu (f.e Z) underlying9) λa f=>Al f ak (Ai f Z Z BO λa f=>Al f ag (l_o f (AD (f.e Z) ak (f.e Z)) λa f=>⟨_,gr,m,f.weak ⟨Z,Z,Z,Z,Z,Z,Z,Z,Z,Z,Z,Z,by rw[ak];rfl,trivial⟩⟩))))
     ·exact Am f ak λa f=>Am f ak λa f=>Am f ak λa f=>Al f ag (l_o f (AE (f.e Z) ak (f.e Z)) λa f=>⟨_,gr,m,f.weak ⟨Z,Z,Z,Z,Z,Z,Z,Z,Z,Z,Z,Z,by rw[ak];rfl,trivial⟩⟩)
    ·rintro a w ⟨aj,al,m,f⟩
     refine l_o f (AE (f.e Z) ag (f.e Z)) λa f=> ?_
     obtain rfl:=sj ae
     exact⟨_,al,m,f.k Z⟩
  ·rintro a w ⟨af,am,m,f⟩
   refine Aa ?_
   rcases Af hd with⟨an,hd⟩|⟨an,hd⟩
   ·refine Aj f Z an (Ae (Ac f Z λa f=>Ac f Z λa f=>Aa (Ao ?_)))
    obtain rfl:=sj hd
    exact⟨[iv 0,(.bool false)],⟨f.get _ _ Z,f.get _ _ Z,trivial⟩,f.d,_,[],(gt ac am),m,Z,Z⟩
   ·refine Ah f Z an (Ak (Ag (Ae (Ac f Z λa f=>Aa (Bd hd λao ap hd=> ?_)))))
    refine AW (λa w=>∃q_62':Int,ao= .inl q_62'∧∃aq:Int,aq=q_62'∧∃(ar:GH),GLe af ar∧Fr a 49 [(4,iv aq)]∧Mem W ar w (H)) ?_ ?_
    ·refine An (AN (λau a w=>∃av:Int,∃aw:Int,(av,aw)=au∧∃(ax:GH),GLe af ax∧Fr a 49 [(0,(.string x0)),(4,iv av),(5,iv aw)]∧Mem W ax w (H)) ap ⟨_,_,Z,_,gr,f.k Z,m⟩ ?_)
     clear ap f m
     rintro au ay az aA a w ⟨av,aw,rfl,ax,aB,f,m⟩
     refine Ag (Ae (Ab f Z λa f=>Ab f Z λa f=>l_o f (Bu (f.e Z) underlying9) λa f=>Ai f Z Z AF λa f=>Aa ?_))
     rcases Af az with⟨aC,az⟩|⟨aC,az⟩
     ·refine Aj f Z aC (Ak (Ag (An (Ag (Ae (Ab f Z λa f=>Ab f Z λa f=>Bd az λaD aE az=>l_o f (Cv (f.e Z) (f.e Z) underlying9 aE) λa f=>Ai f Z Z AF λa f=>Ab f Z λa f=>Bd az λaF aG az=> ?_))))))
      refine A3 5 (λa w=>∃aH,GLe ax aH∧Mem W aH w (H)∧Fr a 49 [(0,(.string x0)),(4,iv av),(5,iv aw),(27,(.bool (decide (aw<(x0.size:Int))))),(30,(.string x0)),(31,iv aw),(32,(.int .u8 aD)),(33,(.bool (decide (aD<48)))),(34,(.bool (decide (aD<48)))),(39,(.bool aF))]) ?_ ?_
      ·rcases Af aG with⟨aI,aG⟩|⟨aI,aG⟩
       ·refine Am f aI λa f=>Am f aI λa f=>Am f aI λa f=>Am f aI λa f=>l_o f (AD (f.e Z) aI (f.e Z)) λa f=> ?_
        obtain rfl:=sj aG
        exact⟨_,gr,m,f.k Z⟩
       ·refine Al f aI (Ab f Z λa f=>Al f aI (Ab f Z λa f=>Al f aI (Bd aG λaJ aK aG=>l_o f (Cv (f.e Z) (f.e Z) underlying9 aK) λa f=>Al f aI (Ai f Z Z BO λa f=>l_o f (AE (f.e Z) aI (f.e Z)) λa f=> ?_))))
        obtain rfl:=sj aG
        exact⟨_,gr,m,f.k Z⟩
      ·rintro a w ⟨aH,aL,m,f⟩
       refine Aa ?_
       rcases Af az with⟨aM,az⟩|⟨aM,az⟩
       ·refine Aj f Z aM (Ae (Ac f Z λa f=>Ac f Z λa f=>Aa (Ao ?_)))
        obtain rfl:=sj az
        obtain rfl:=aA _ rfl
        obtain rfl:=sj hd
        exact⟨[iv 0,(.bool false)],⟨f.get _ _ Z,f.get _ _ Z,trivial⟩,f.d,_,[],(gt ac (gt am (gt aB aL))),m,Z,Z⟩
       ·refine Ah f Z aM (Ak (Ap (Ab f Z λa f=>Ai f Z Z b_mul λa f=>Ab f Z λa f=>Ab f Z λa f=>Bd az λaN aO az=>l_o f (Cv (f.e Z) (f.e Z) underlying9 aO) λa f=>Ai f Z Z CH λa f=>l_o f (r_conv (f.e Z) ⟨_,underlying5⟩ underlying2) λa f=>Ai f Z Z AJ λa f=>Ac f Z λa f=>Aa (Ap (Ab f Z λa f=>Ai f Z Z AJ λa f=>Ac f Z λa f=>Aa ?_)))))
        obtain rfl:=sj az
        exact⟨_,Z,_,_,Z,_,(gt aB aL),f.k Z,m⟩
     ·refine Ah f Z aC (AL Z ?_)
      obtain rfl:=sj az
      obtain rfl:=aA _ rfl
      exact⟨_,Z,_,Z,_,aB,f.k Z,m⟩
    ·rintro a w ⟨_,rfl,aq,rfl,ar,aP,f,m⟩
     refine Ae (Ab f Z λa f=>Ac f Z λa f=>Ac f Z λa f=>Aa (Ao ?_))
     obtain rfl:=sj hd
     exact⟨[iv aq,(.bool true)],⟨f.get _ _ Z,f.get _ _ Z,trivial⟩,f.d,_,[],(gt ac (gt am aP)),m,Z,Z⟩
theorem Wk.a {x0 x1 x2:Int}(m:Mem W G w (H)){y:Bool}(hd:D.a x0 x1 x2=some y):
  Calls prog 21 #[iv x0,iv x1,iv x2] w (Res W G H (λ_ Ho v=>Ho=[]∧v=(.bool y))):=by
 refine Aw (args:=[iv x0,iv x1,iv x2]) (N:=15) [.tmp 6] func21 Z Z (lb Z) Z λa f=> ?_
 unfold D.a at hd
 refine Ae (Ac f Z λa f=>AI (Ab f Z λa f=>Ab f Z λa f=>Ai f Z Z b_geq λa f=>Ab f Z λa f=> ?_))
 refine A3 4 (λa w=>∃aa,GLe G aa∧Mem W aa w (H)∧Fr a 15 [(0,iv x0),(1,iv x1),(2,iv x2),(7,iv x0),(8,iv x1),(9,(.bool (decide (x1≤x0)))),(10,(.bool (decide (x1≤x0)))),(14,(.bool ((decide (x1≤x0))&&(decide (x0≤x2)))))]) ?_ ?_
 ·rcases Bool.eq_false_or_eq_true (decide (x1≤x0)) with ab|ab
  ·exact Al f ab (Ab f Z λa f=>Al f ab (Ab f Z λa f=>Al f ab (Ai f Z Z b_leq λa f=>l_o f (AD (f.e Z) ab (f.e Z)) λa f=>⟨_,gr,m,f.weak ⟨Z,Z,Z,Z,Z,Z,Z,by rw[ab];rfl,trivial⟩⟩)))
  ·exact Am f ab λa f=>Am f ab λa f=>Am f ab λa f=>l_o f (AE (f.e Z) ab (f.e Z)) λa f=>⟨_,gr,m,f.weak ⟨Z,Z,Z,Z,Z,Z,Z,by rw[ab];rfl,trivial⟩⟩
 ·rintro a w ⟨aa,ac,m,f⟩
  refine Ac f Z λa f=>Aa (Ao ?_)
  obtain rfl:=sj hd
  exact⟨[(.bool ((decide (x1≤x0))&&(decide (x0≤x2))))],f.g Z,f.d,_,[],ac,m,Z,Z⟩
theorem Wk.P {x0:Int}(m:Mem W G w (H)){y:(LL)}(hd:D.P x0=some y):
  Calls prog 22 #[iv x0] w (Res W G H (λG' Ho v=>∃r0:Value,∃i0:Itm,Ho=[i0]∧v=(.agg #[r0])∧Ow R1 34 G' i0 r0 y)):=by
 refine Aw (args:=[iv x0]) (N:=18) [.cell 2 24] func22 Z Z (lb Z) Z λa f=> ?_
 unfold D.P at hd
 refine Ae (Bg (cs:=[sn]) zeroValue24 m f Z Z λaa w a m f=>AI ?_)
 have ab:∀w,(Instr.build 24 #[]).run prog w= .ok (.agg #[sn]) w:=by intro w;simp[Instr.build,Instr.fill,A6,A2,AQ,AU,AK,A7,AY]
 refine Bo f Z Z ab λa f=>Bg (cs:=[sn]) zeroValue24 m f Z Z λac w a m f=>Au 0 0 (ds:=[sn]) m sizeOf24 f Z Z Z (Ax Z AB) Z (lb Z) Z λw m=>Aa (Ag (Ae (Ac f Z λa f=>Aa ?_)))
 obtain⟨ad,m,ae⟩:=Ow.nil R1 34 m
 have⟨af,ag,hd⟩:=bind_some hd
 refine AW (λa w=>∃ah:LL,ah=af∧∃(ai:GH) (aj:Value) (ak:Itm),GLe G ai∧Fr a 18 [(2,pb aa),(3,pb ac)]∧Mem W ai w (ib aa 24 [sn]::ib ac 24 [aj]::ak::H)∧Ow R1 34 ai ak aj ah) ?_ ?_
 ·refine An (have m:=m.fr 1;have m:=m.fr 2;AN (λal a w=>∃am:Int,∃an:LL,(am,an)=al∧∃(ao:GH) (ap:Value) (aq:Itm),GLe G ao∧Fr a 18 [(0,iv x0),(2,pb aa),(3,pb ac),(4,iv am)]∧Mem W ao w (ib aa 24 [sn]::ib ac 24 [ap]::aq::H)∧Ow R1 34 ao aq ap an) ag ⟨_,_,Z,_,sn,ad,gr,f.k Z,m,ae⟩ ?_)
  clear ag f m
  rintro al ar au av a w ⟨am,an,rfl,ao,ap,aq,aw,f,m,ax⟩
  refine Ag (Ae (Ab f Z λa f=>Ab f Z λa f=>Ai f Z Z AF λa f=>Aa ?_))
  rcases Af au with⟨ay,au⟩|⟨ay,au⟩
  ·refine Aj f Z ay (Ak (Ag (An (Ap (BJ underlying24 Z sizeOf22 f Z λa f=>A4 1 0 m BA f Z Z Z Z λa f=>A1 (R:=R0) (xs:=([]:LI)) (RI.one _) m T34 f Z Z Z (by decide) (All2.nil _) λaz aA w a m aB f=> ?_)))))
   obtain⟨aC,aD,m,aE⟩:=Ow.stamp (RI.mono _) aB m
   refine have ax:=od3 aD ax;A1 (R:=R1) (xs:=([([]:LI)]:LL)) (RSl.one _) m T22 f Z Z Z (by decide) (All2.cons aE (All2.nil _)) λaF aG w a m aH f=>Bd au λaI aJ au=>Bw (RSl.one _) 3 m ax Z T22 Z (by decide) f Z Z Z (Ow.src (j:=0) aH m Z) aJ λaK aL w a m aM f=>BJ underlying24 Z sizeOf22 f Z λa f=>Au 2 0 (ds:=[aL]) m sizeOf22 f Z Z (Ow.cells 3 m aM Z) (Ax (Ow.one1 3 m aM Z) AB) Z (lb Z) Z λw m=>Aa (Ap (Ab f Z λa f=>Ai f Z Z AJ λa f=>Ac f Z λa f=>Aa (have m:=m.fr 3;have m:=m.fr 3;have m:=m.fr 3;have m:=m.eraseAt 3;?_)))
   obtain rfl:=sj au
   exact⟨_,Z,_,_,Z,_,aL,aK,(gt aw aD),f.k Z,m,aM⟩
  ·refine Ah f Z ay (AL Z ?_)
   obtain rfl:=sj au
   obtain rfl:=av _ rfl
   exact⟨_,Z,_,ap,aq,aw,f.k Z,m,ax⟩
 ·rintro a w ⟨ah,rfl,ai,aj,ak,aN,f,m,aO⟩
  refine Ae (AR 1 0 (ds:=[aj]) m AT f Z Z Z Z Z λa f=>Au 0 0 (ds:=[aj]) m sizeOf24 f Z Z Z (Ax (Ow.one1 2 m aO Z) AB) Z (lb Z) Z λw m=>Aa (Ao (have aP:=Bc (P:=prog) 0 m AT f (s:=2) rfl rfl rfl;have m:=m.fr 2;have m:=m.eraseAt 2;have m:=m.eraseAt 1;?_)))
  obtain rfl:=sj hd
  exact⟨[(.agg #[aj])],⟨aP,trivial⟩,f.d,_,[ak],aN,m,_,_,Z,Z,aO⟩
theorem Wk.t {v0:Value}{x0:LI}{x1:Int}(m:Mem W G w (H))(h0:R1 G v0 x0){y:Bool}(hd:D.t x0 x1=some y):
  Calls prog 23 #[v0,iv x1] w (Res W G H (λ_ Ho v=>Ho=[]∧v=(.bool y))):=by
 refine Aw (args:=[v0,iv x1]) (N:=40) [.tmp 4] func23 Z Z (lb Z) Z λa f=> ?_
 unfold D.t at hd
 refine Ae (Ac f Z λa f=>Aa (Ag (Ae (Ab f Z λa f=>AZ underlying34 f Z Z h0 λa f=>Ab f Z λa f=>Ai f Z Z BO λa f=>Aa ?_))))
 rcases Af hd with⟨aa,hd⟩|⟨aa,hd⟩
 ·refine Aj f Z aa (Ae (Ac f Z λa f=>Aa (Ao ?_)))
  obtain rfl:=sj hd
  exact⟨[(.bool false)],f.g Z,f.d,_,[],gr,m,Z,Z⟩
 ·refine Ah f Z aa (Ak (Ag (Ae (Ac f Z λa f=>Aa (Bd hd λab ac hd=> ?_)))))
  refine AW (λa w=>∃q_150':Unit,ab= .inl q_150'∧∃(ad:GH),GLe G ad∧Fr a 40 []∧Mem W ad w (H)) ?_ ?_
  ·refine An (AN (λae a w=>∃af:Int,af=ae∧∃(ag:GH),GLe G ag∧Fr a 40 [(0,v0),(1,iv x1),(5,iv af)]∧Mem W ag w (H)) ac ⟨_,Z,_,gr,f.k Z,m⟩ ?_)
   clear ac f m
   rintro ae ah ai aj a w ⟨af,rfl,ag,ak,f,m⟩
   refine have h0:=rd1 ak h0;Ag (Ae (Ab f Z λa f=>Ab f Z λa f=>AZ underlying34 f Z Z h0 λa f=>Ai f Z Z AF λa f=>Aa ?_))
   rcases Af ai with⟨al,ai⟩|⟨al,ai⟩
   ·refine Aj f Z al (Ak (Ag (An (Ag (Bq 24 Bk (by kernel_rfl) m (AC 0 24 Z f Z λa f=>AC 1 24 Z f Z λa f=>Bd ai λam an ai=>BD 2 24 T34 h0 an Z f Z Z λao ap a aq ar f=> ?_))))))
    subst ar
    refine BC 3 24 Pl2 aq Z f Z λa f=>AC 4 24 Z f Z λa f=>q_p 5 24 Z f (λ_=>BY (f.e Z) (f.e Z) CH) λa f=>Bd ai λau av ai=>Ca (i:=6) 24 Z (by kernel_rfl) Z f Z Z Z call21 (λ_ _ w aw m=>Wk.a m av) λa f=>q_p 7 24 Z f (λ_=>Bf (f.e Z)) λa f=>AC 8 24 Z f Z λa f=>Bd ai λax ay ai=>q_cut (fuel':=0) (listed':= #[true,true,true,true,true,true,true,true,true,true,true,true,true,true,true,true,true,true,true,true,true,true,true,true]) (λa=>Fr a 40 [(0,v0),(1,iv x1),(5,iv af),(13,(.bool (decide (af<(x0.length:Int))))),(16,v0),(17,iv af),(18,ao),(19,iv am),(20,iv x1),(21,(iv (i64.wrap (x1-1)))),(22,(.bool au)),(23,(.bool (!au))),(24,(.bool (!au))),(39,(.bool ax))]) ?_ ?_
    ·intro a f
     refine BB λaz w aA m=>Aa ?_
     rcases Af ai with⟨aB,ai⟩|⟨aB,ai⟩
     ·refine Aj f Z aB (Ae (Ac f Z λa f=>Aa (Ao ?_)))
      obtain rfl:=sj ai
      obtain rfl:=aj _ rfl
      obtain rfl:=sj hd
      exact⟨[(.bool false)],f.g Z,f.d,_,[],(gt ak aA),m,Z,Z⟩
     ·refine Ah f Z aB (Ak (Ap (Ab f Z λa f=>Ai f Z Z AJ λa f=>Ac f Z λa f=>Aa ?_)))
      obtain rfl:=sj ai
      exact⟨_,Z,_,Z,_,(gt ak aA),f.k Z,m⟩
    ·intro aC
     rcases Af ay with⟨aD,ay⟩|⟨aD,ay⟩
     ·refine Bt 9 24 Z f aD λa f=>Bt 10 24 Z f aD λa f=>Bt 11 24 Z f aD λa f=>q_nu 12 24 Z f λa f=>q_nu 13 24 Z f λa f=>q_nu 14 24 Z f λa f=>q_nu 15 24 Z f λa f=>q_nu 16 24 Z f λa f=>q_nu 17 24 Z f λa f=>q_nu 18 24 Z f λa f=>q_nu 19 24 Z f λa f=>q_nu 20 24 Z f λa f=>q_nu 21 24 Z f λa f=>Bt 22 24 Z f aD λa f=>q_p 23 24 Z f (λ_=>AD (f.e Z) aD (f.e Z)) λa f=> ?_
      obtain rfl:=sj ay
      exact aC _ (f.k Z)
     ·refine AC (hw:=wo f aD) 9 24 Z f Z λa f=>q_p (hw:=wo f aD) 10 24 Z f (λ_=>BY (f.e Z) (f.e Z) BO) λa f=>AC (hw:=wo f aD) 11 24 Z f Z λa f=>Bd ay λaE aF ay=>q_cut (fuel':=1) (listed':= #[true,true,true,true,true,true,true,true,true,true,true,true,true,true,true,true,true,true,true,true,true,true,true,false]) (λa=>Fr a 40 [(0,v0),(1,iv x1),(5,iv af),(13,(.bool (decide (af<(x0.length:Int))))),(16,v0),(17,iv af),(18,ao),(19,iv am),(20,iv x1),(21,(iv (i64.wrap (x1-1)))),(22,(.bool au)),(23,(.bool (!au))),(24,(.bool (!au))),(25,iv af),(26,(.bool (decide ((0:Int)<af)))),(27,(.bool (decide ((0:Int)<af)))),(38,(.bool aE))]) ?_ ?_
      ·intro a f
       refine q_p 23 24 Z f (λ_=>AE (f.e Z) aD (f.e Z)) λa f=> ?_
       obtain rfl:=sj ay
       exact aC _ (f.k Z)
      ·intro aG
       rcases Af aF with⟨aH,aF⟩|⟨aH,aF⟩
       ·refine AC (hw:=wo f aH) 12 24 Z f Z λa f=>AC (hw:=wo f aH) 13 24 Z f Z λa f=>Bd aF λaI aJ aF=>BD (hw:=wo f aH) 14 24 T34 h0 aJ Z f Z Z λaK aL a aM aN f=> ?_
        subst aN
        refine BC (hw:=wo f aH) 15 24 Pl2 aM Z f Z λa f=>AC (hw:=wo f aH) 16 24 Z f Z λa f=>AC (hw:=wo f aH) 17 24 Z f Z λa f=>q_p (hw:=wo f aH) 18 24 Z f (λ_=>BY (f.e Z) (f.e Z) CH) λa f=>Bd aF λaO aP aF=>BD (hw:=wo f aH) 19 24 T34 h0 aP Z f Z Z λaQ aR a aS aT f=> ?_
        subst aT
        refine BC (hw:=wo f aH) 20 24 Pl2 aS Z f Z λa f=>q_p (hw:=wo f aH) 21 24 Z f (λ_=>BY (f.e Z) (f.e Z) b_leq) λa f=>q_p (hw:=wo f aD) 22 24 Z f (λ_=>AD (f.e Z) aH (f.e Z)) λa f=> ?_
        obtain rfl:=sj aF
        exact aG _ (f.k Z)
       ·refine Bt 12 24 Z f aH λa f=>Bt 13 24 Z f aH λa f=>Bt 14 24 Z f aH λa f=>Bt 15 24 Z f aH λa f=>Bt 16 24 Z f aH λa f=>Bt 17 24 Z f aH λa f=>Bt 18 24 Z f aH λa f=>Bt 19 24 Z f aH λa f=>Bt 20 24 Z f aH λa f=>Bt 21 24 Z f aH λa f=>q_p (hw:=wo f aD) 22 24 Z f (λ_=>AE (f.e Z) aH (f.e Z)) λa f=> ?_
        obtain rfl:=sj aF
        exact aG _ (f.k Z)
   ·refine Ah f Z al (AL Z ?_)
    obtain rfl:=sj ai
    obtain rfl:=aj _ rfl
    exact⟨_,Z,_,ak,f.weak trivial,m⟩
  ·rintro a w ⟨_,rfl,ad,aU,f,m⟩
   refine Ae (Ac f Z λa f=>Aa (Ao ?_))
   obtain rfl:=sj hd
   exact⟨[(.bool true)],f.g Z,f.d,_,[],aU,m,Z,Z⟩
theorem Wk.I {v0:Value}{x0:LI}(m:Mem W G w (H))(h0:R1 G v0 x0){y:(LI)}(hd:D.I x0=some y):
  Calls prog 57 #[v0] w (Res W G H (λG' Ho v=>∃r0:Value,∃i0:Itm,Ho=[i0]∧r0=v∧Ow R0 2 G' i0 r0 y)):=by
 refine Aw (args:=[v0]) (N:=6) [.tmp 2] func57 Z Z (lb Z) Z λa f=> ?_
 unfold D.I at hd
 refine Ae (Ac f Z λa f=>AI (A1 (R:=R0) (xs:=([]:LI)) (RI.one _) m T34 f Z Z Z (by decide) (All2.nil _) λaa ab w a m ac f=>Ab f Z λa f=>Bd hd λad ae hd=>Bw (RI.one _) 0 m ac Z T34 Z (by decide) f Z Z Z (h0.src m) ae λaf ag w a m ah f=>Ac f Z λa f=>Aa (Ao ?_)))
 obtain rfl:=sj hd
 exact⟨[ag],f.g Z,f.d,_,[af],gr,m,_,_,Z,Z,ah⟩
theorem Wk.u {v0:Value}{x0:LI}{x1:Int}(m:Mem W G w (H))(h0:R1 G v0 x0){y:(LI)}(hd:D.u x0 x1=some y):
  Calls prog 44 #[v0,iv x1] w (Res W G H (λG' Ho v=>∃r0:Value,Ho=[]∧r0=v∧R1 G' r0 y)):=by
 refine Aw (args:=[v0,iv x1]) (N:=46) [.tmp 4] func44 Z Z (lb Z) Z λa f=> ?_
 unfold D.u at hd
 refine Ae (Ac f Z λa f=>AI (Ac f Z λa f=>Aa (Ag (Bd hd λaa ab hd=> ?_))))
 refine AW (λa w=>∃ac:Int,ac=aa∧∃(ad:GH),GLe G ad∧Fr a 46 [(0,v0),(1,iv x1),(5,iv ac)]∧Mem W ad w (H)) ?_ ?_
 ·refine An (AN (λae a w=>∃af:Int,af=ae∧∃(ag:GH),GLe G ag∧Fr a 46 [(0,v0),(1,iv x1),(5,iv af)]∧Mem W ag w (H)) ab ⟨_,Z,_,gr,f.k Z,m⟩ ?_)
  clear ab f m
  rintro ae ah ai aj a w ⟨af,rfl,ag,ak,f,m⟩
  refine have h0:=rd1 ak h0;Ag (Ae (Ab f Z λa f=>Ab f Z λa f=>AZ underlying34 f Z Z h0 λa f=>Ai f Z Z AF λa f=>Ab f Z λa f=>Bd ai λal am ai=> ?_))
  refine A3 7 (λa w=>∃an,GLe ag an∧Mem W an w (H)∧Fr a 46 [(0,v0),(1,iv x1),(5,iv af),(7,iv af),(8,v0),(9,(iv (x0.length:Int))),(10,(.bool (decide (af<(x0.length:Int))))),(11,(.bool (decide (af<(x0.length:Int))))),(18,(.bool al))]) ?_ ?_
  ·rcases Af am with⟨ao,am⟩|⟨ao,am⟩
   ·refine Al f ao (Ab f Z λa f=>Al f ao (Ab f Z λa f=>Al f ao (Bd am λap aq am=>Bx T34 f Z Z Z h0 aq λar au a av aw f=> ?_)))
    subst aw
    refine Al f ao (AM m Pl2 f Z Z av λa f=>Al f ao (Ab f Z λa f=>Al f ao (Ai f Z Z AF λa f=>l_o f (AD (f.e Z) ao (f.e Z)) λa f=> ?_)))
    obtain rfl:=sj am
    exact⟨_,gr,m,f.k Z⟩
   ·refine Am f ao λa f=>Am f ao λa f=>Am f ao λa f=>Am f ao λa f=>Am f ao λa f=>Am f ao λa f=>l_o f (AE (f.e Z) ao (f.e Z)) λa f=> ?_
    obtain rfl:=sj am
    exact⟨_,gr,m,f.k Z⟩
  ·rintro a w ⟨an,ax,m,f⟩
   refine Aa ?_
   rcases Af ai with⟨ay,ai⟩|⟨ay,ai⟩
   ·refine Aj f Z ay (Ak (An (Ap (Ab f Z λa f=>Ai f Z Z AJ λa f=>Ac f Z λa f=>Aa ?_))))
    obtain rfl:=sj ai
    exact⟨_,Z,_,Z,_,(gt ak ax),f.k Z,m⟩
   ·refine Ah f Z ay (AL Z ?_)
    obtain rfl:=sj ai
    obtain rfl:=aj _ rfl
    exact⟨_,Z,_,(gt ak ax),f.k Z,m⟩
 ·rintro a w ⟨ac,rfl,ad,az,f,m⟩
  refine have h0:=rd1 az h0;Ag (Ae (Ab f Z λa f=>Ab f Z λa f=>AZ underlying34 f Z Z h0 λa f=>Ai f Z Z AF λa f=>Ab f Z λa f=>Bd hd λaA aB hd=> ?_))
  refine A3 7 (λa w=>∃aC,GLe ad aC∧Mem W aC w (H)∧Fr a 46 [(0,v0),(1,iv x1),(5,iv ac),(21,iv ac),(22,v0),(23,(iv (x0.length:Int))),(24,(.bool (decide (ac<(x0.length:Int))))),(25,(.bool (decide (ac<(x0.length:Int))))),(32,(.bool aA))]) ?_ ?_
  ·rcases Af aB with⟨aD,aB⟩|⟨aD,aB⟩
   ·refine Al f aD (Ab f Z λa f=>Al f aD (Ab f Z λa f=>Al f aD (Bd aB λaE aF aB=>Bx T34 f Z Z Z h0 aF λaG aH a aI aJ f=> ?_)))
    subst aJ
    refine Al f aD (AM m Pl2 f Z Z aI λa f=>Al f aD (Ab f Z λa f=>Al f aD (Ai f Z Z b_eql λa f=>l_o f (AD (f.e Z) aD (f.e Z)) λa f=> ?_)))
    obtain rfl:=sj aB
    exact⟨_,gr,m,f.k Z⟩
   ·refine Am f aD λa f=>Am f aD λa f=>Am f aD λa f=>Am f aD λa f=>Am f aD λa f=>Am f aD λa f=>l_o f (AE (f.e Z) aD (f.e Z)) λa f=> ?_
    obtain rfl:=sj aB
    exact⟨_,gr,m,f.k Z⟩
  ·rintro a w ⟨aC,aK,m,f⟩
   refine have h0:=rd1 aK h0;Aa ?_
   rcases Af hd with⟨aL,hd⟩|⟨aL,hd⟩
   ·refine Aj f Z aL (Ae (Ab f Z λa f=>Ac f Z λa f=>Aa (Ao ?_)))
    obtain rfl:=sj hd
    exact⟨[v0],f.g Z,f.d,_,[],(gt az aK),m,_,Z,Z,h0⟩
   ·refine Ah f Z aL (Ak (Ae (Ab f Z λa f=>Ab f Z λa f=>Bd hd λaM aN hd=>l_slice T34 f Z Z h0 (.inl ⟨Z,Z⟩) (.inr ⟨_,_,Z,Z⟩) aN λaO a aP f=>Bd hd λaQ aR hd=>l_ro f Z call57 (Wk.I m aP aR) λaS aT aU w aV m aW a f=>have h0:=rd1 aV h0;Ab f Z λa f=>A1 (R:=R0) (xs:=([x1]:LI)) (RI.one _) m T34 f Z Z Z (by decide) (All2.cons Z (All2.nil _)) λaX aY w a m aZ f=>Bd hd λa0 a1 hd=>Bw (RI.one _) 1 m aW Z T34 Z (by decide) f Z Z Z (Ow.src (j:=0) aZ m Z) a1 λa2 a3 w a m a4 f=>Ac f Z λa f=>AI (Ab f Z λa f=>Ab f Z λa f=>Ab f Z λa f=>Bd hd λa5 a6 hd=>l_slice T34 f Z Z h0 (.inr ⟨_,_,Z,Z⟩) (.inl ⟨Z,Z⟩) a6 λa7 a a8 f=>Bd hd λa9 ba hd=>Bw (RI.one _) 1 m a4 Z T34 Z (by decide) f Z Z Z (a8.src m) ba λbb bc w a m bd f=>Ac f Z λa f=>Aa (Ao (have m:=m.fr 1;?_))))))
    obtain⟨be,bf,m,bg⟩:=Ow.stamp (RI.mono _) bd m
    have m:=m.dp 1
    obtain rfl:=sj hd
    exact⟨[bc],f.g Z,f.d,_,[],(gt az (gt aK (gt aV bf))),m,_,Z,Z,bg⟩
theorem Wk.B {aa:Value}{ab:Itm}{ac:LL}{x1 x2:Int}(m:Mem W G w (ab::H))(ad:Ow R1 34 G ab aa ac){y:(LL)}(hd:D.B ac x1 x2=some y):
  Calls prog 24 #[(.agg #[aa]),iv x1,iv x2] w (Res W G H (λG' Ho v=>∃i0:Itm,Ho=[i0]∧v=(.agg #[aa])∧Ow R1 34 G' i0 aa y)):=by
 refine Aw (args:=[(.agg #[aa]),iv x1,iv x2]) (N:=30) [.cell 6 24] func24 Z Z (lb Z) Z λa f=> ?_
 unfold D.B at hd
 refine Ae (B8 (cs:=[aa]) m f Z Z Z λae w a m f=>Bg (cs:=[sn]) zeroValue24 m f Z Z λaf w a m f=>Aa (Ag (Bq 11 Bk (by kernel_rfl) m (q_fa 0 11 underlying24 Z sizeOf22 Z f Z λa f=>q_bc 1 11 1 BA Z Z Z f Z λa f=>AC 2 11 Z f Z λa f=>q_fa 3 11 underlying24 Z sizeOf22 Z f Z λa f=>q_bc 4 11 1 BA Z Z Z f Z λa f=>AC 5 11 Z f Z λa f=>Bd hd λag ah hd=>B3 6 11 2 m ad T22 ah Z f Z Z λai a aj f=>q_ol 7 11 2 ad Bv aj ah Z f Z λak a al f=>AC 8 11 Z f Z λa f=>q_on 9 Z λam w an m ao ao=>have al:=rd1 an al;have ad:=od3 an ad;Bd hd λap aq hd=>Bs f Z call44 (Wk.u m al aq) λar au av w aw m ax a f=> ?_))))
 obtain⟨ay,rfl,rfl,az⟩:=ax
 refine have ad:=od3 aw ad;Aa (ao au [] _ _ aw m (Bd hd λaA aB hd=>B3 10 11 2 m ad T22 aB Z f Z Z λaC a aD f=>BB λaE w aF m=>have az:=rd1 aF az;have ad:=od3 aF ad;BW 2 m ad Z sizeOf34 f Z Z aD aB az.cells az.one1 az λaG w m aH=>Aa (Ag (Bq 11 Bk (by kernel_rfl) m (q_fa 0 11 underlying24 Z sizeOf22 Z f Z λa f=>q_bc 1 11 1 BA Z Z Z f Z λa f=>AC 2 11 Z f Z λa f=>q_fa 3 11 underlying24 Z sizeOf22 Z f Z λa f=>q_bc 4 11 1 BA Z Z Z f Z λa f=>AC 5 11 Z f Z λa f=>Bd hd λaI aJ hd=>B3 6 11 2 m aH T22 aJ Z f Z Z λaK a aL f=>q_ol 7 11 2 aH Bv aL aJ Z f Z λaM a aN f=>AC 8 11 Z f Z λa f=>q_on 9 Z λaO w aP m aQ aQ=>have aN:=rd1 aP aN;have aH:=od3 aP aH;Bd hd λaR aS hd=>Bs f Z call44 (Wk.u m aN aS) λaT aU aV w aW m aX a f=> ?_)))))
 obtain⟨aY,rfl,rfl,aZ⟩:=aX
 refine have aH:=od3 aW aH;Aa (aQ aU [] _ _ aW m (Bd hd λa0 a1 hd=>B3 10 11 2 m aH T22 a1 Z f Z Z λa2 a a3 f=>BB λa4 w a5 m=>have aZ:=rd1 a5 aZ;have aH:=od3 a5 aH;BW 2 m aH Z sizeOf34 f Z Z a3 a1 aZ.cells aZ.one1 aZ λa6 w m a7=>AI (AR 1 0 (ds:=[aa]) m AT f Z Z Z Z Z λa f=>Au 0 0 (ds:=[aa]) m sizeOf24 f Z Z Z (Ax (Ow.one1 2 m a7 Z) AB) Z (lb Z) Z λw m=>Aa (Ao (have a8:=Bc (P:=prog) 0 m AT f (s:=6) rfl rfl rfl;have m:=m.fr 2;have m:=m.eraseAt 2;have m:=m.eraseAt 1;?_)))))
 obtain rfl:=sj hd
 exact⟨[(.agg #[aa])],⟨a8,trivial⟩,f.d,_,[a6],(gt an (gt aw (gt aF (gt aP (gt aW a5))))),m,_,Z,Z,a7⟩
theorem Wk.q {v1:Value}{x0:Int}{x1:LL}(m:Mem W G w (H))(h1:R2 G v1 x1){y:(LL)×Bool}(hd:D.q x0 x1=some y):
  Calls prog 11 #[iv x0,v1] w (Res W G H (λG' Ho v=>∃r0:Value,∃i0:Itm,Ho=[i0]∧v= .tuple #[(.agg #[r0]),(.bool y.2)]∧Ow R1 34 G' i0 r0 y.1)):=by
 refine Aw (args:=[iv x0,v1]) (N:=56) [.cell 4 24,.tmp 5] func11 Z Z (lb Z) Z λa f=> ?_
 unfold D.q at hd
 refine Ae (Bg (cs:=[sn]) zeroValue24 m f Z Z λaa w a m f=>Ac f Z λa f=>Aa (Ag (Ae (Ab f Z λa f=>Bd hd λab ac hd=>Bh f Z call21 (Wk.a m ac) λad w ae m a f=>have h1:=rd2 ae h1;l_o f (Bf (f.e Z)) λa f=>Ab f Z λa f=> ?_))))
 refine A3 4 (λa w=>∃af,GLe ad af∧Mem W af w (ib aa 24 [sn]::H)∧Fr a 56 [(0,iv x0),(1,v1),(4,pb aa),(8,iv x0),(9,(.bool ab)),(10,(.bool (!ab))),(11,(.bool (!ab))),(15,(.bool ((!ab)||(decide ((120:Int)<(x1.length:Int))))))]) ?_ ?_
 ·rcases Bool.eq_false_or_eq_true (!ab) with ag|ag
  ·exact Am f ag λa f=>Am f ag λa f=>Am f ag λa f=>l_o f (AD (f.e Z) ag (f.e Z)) λa f=>⟨_,gr,m,f.weak ⟨Z,Z,Z,Z,Z,Z,Z,by rw[ag];rfl,trivial⟩⟩
  ·exact Al f ag (Ab f Z λa f=>Al f ag (AZ underlying22 f Z Z h1 λa f=>Al f ag (Ai f Z Z BO λa f=>l_o f (AE (f.e Z) ag (f.e Z)) λa f=>⟨_,gr,m,f.weak ⟨Z,Z,Z,Z,Z,Z,Z,by rw[ag];rfl,trivial⟩⟩)))
 ·rintro a w ⟨af,ah,m,f⟩
  refine have h1:=rd2 ah h1;Aa ?_
  rcases Af hd with⟨ai,hd⟩|⟨ai,hd⟩
  ·refine Aj f Z ai (Ae ?_)
   have aj:∀w,(Instr.build 24 #[]).run prog w= .ok (.agg #[sn]) w:=by intro w;simp[Instr.build,Instr.fill,A6,A2,AQ,AU,AK,A7,AY]
   refine Bo f Z Z aj λa f=>Au 0 0 (ds:=[sn]) m sizeOf24 f Z Z Z (Ax Z AB) Z (lb Z) Z λw m=>Ac f Z λa f=>Aa (Ao ?_)
   obtain⟨ak,m,al⟩:=Ow.nil R1 34 m
   refine have am:=Bc (P:=prog) 1 m AT f (s:=4) rfl rfl rfl;have m:=m.eraseAt 1;?_
   obtain rfl:=sj hd
   exact⟨[(.agg #[sn]),(.bool false)],⟨am,f.get _ _ Z,trivial⟩,f.d,_,[ak],(gt ae ah),m,_,_,Z,Z,al⟩
  ·refine Ah f Z ai (Ak (Ae (Ab f Z λa f=>Bd hd λan ao hd=>Bs f Z call22 (Wk.P m ao) λap aq ar w au m av a f=> ?_)))
   obtain⟨aw,ax,rfl,rfl,ay⟩:=av
   refine have h1:=rd2 au h1;Bg (cs:=[sn]) zeroValue24 m f Z Z λaz w a m f=>Au 0 0 (ds:=[aw]) m sizeOf24 f Z Z Z (Ax (Ow.one1 1 m ay Z) AB) Z (lb Z) Z λw m=>Aa (Ag (Ae (Ac f Z λa f=>Aa (Bd hd λaA aB hd=> ?_))))
   refine AW (λa w=>∃q_213':LL,aA= .inl q_213'∧∃aC:LL,aC=q_213'∧∃(aD:GH) (aE:Itm),GLe aq aD∧Fr a 56 [(4,pb aa),(6,pb az)]∧Mem W aD w (ib aa 24 [sn]::ib az 24 [aw]::aE::H)∧Ow R1 34 aD aE aw aC) ?_ ?_
   ·refine An (have m:=m.fr 2;AN (λaF a w=>∃aG:Int,∃aH:LL,(aG,aH)=aF∧∃(aI:GH) (aJ:Itm),GLe aq aI∧Fr a 56 [(0,iv x0),(1,v1),(4,pb aa),(6,pb az),(7,iv aG)]∧Mem W aI w (ib aa 24 [sn]::ib az 24 [aw]::aJ::H)∧Ow R1 34 aI aJ aw aH) aB ⟨_,_,Z,_,ax,gr,f.k Z,m,ay⟩ ?_)
    clear aB f m
    rintro aF aK aL aM a w ⟨aG,aH,rfl,aI,aJ,aN,f,m,aO⟩
    refine have h1:=rd2 aN h1;Ag (Ae (Ab f Z λa f=>Ab f Z λa f=>AZ underlying22 f Z Z h1 λa f=>Ai f Z Z AF λa f=>Aa ?_))
    rcases Af aL with⟨aP,aL⟩|⟨aP,aL⟩
    ·refine Aj f Z aP (Ak (Ag (An (Ag (Ae (Ab f Z λa f=>Ab f Z λa f=>Bd aL λaQ aR aL=>Bx T22 f Z Z Z h1 aR λaS aT a aU aV f=>AM m Bv f Z Z aU λa f=>AZ underlying34 f Z Z aV λa f=>Ai f Z Z BZ λa f=>Ab f Z λa f=>Bd aL λaW aX aL=> ?_))))))
     refine A3 8 (λa w=>∃aY,GLe aI aY∧Mem W aY w (ib aa 24 [sn]::ib az 24 [aw]::aJ::H)∧Fr a 56 [(0,iv x0),(1,v1),(4,pb aa),(6,pb az),(7,iv aG),(22,(.bool (decide (aG<(x1.length:Int))))),(25,v1),(26,iv aG),(27,aS),(28,aT),(29,(iv (aQ.length:Int))),(30,(.bool ((aQ.length:Int) !=2))),(31,(.bool ((aQ.length:Int) !=2))),(39,(.bool aW))]) ?_ ?_
     ·rcases Af aX with⟨aZ,aX⟩|⟨aZ,aX⟩
      ·refine Am f aZ λa f=>Am f aZ λa f=>Am f aZ λa f=>Am f aZ λa f=>Am f aZ λa f=>Am f aZ λa f=>Am f aZ λa f=>l_o f (AD (f.e Z) aZ (f.e Z)) λa f=> ?_
       obtain rfl:=sj aX
       exact⟨_,gr,m,f.k Z⟩
      ·refine Al f aZ (Ab f Z λa f=>Al f aZ (Ab f Z λa f=>Al f aZ (Bd aX λa0 a1 aX=>Bx T22 f Z Z Z h1 a1 λa2 a3 a a4 a5 f=>Al f aZ (AM m Bv f Z Z a4 λa f=>Al f aZ (Ab f Z λa f=>Al f aZ (Bd aX λa6 a7 aX=>Bh f Z call23 (Wk.t m a5 a7) λa8 w a9 m a f=>Al f aZ (l_o f (Bf (f.e Z)) λa f=>l_o f (AE (f.e Z) aZ (f.e Z)) λa f=> ?_)))))))
       obtain rfl:=sj aX
       exact⟨_,a9,m,f.k Z⟩
     ·rintro a w ⟨aY,ba,m,f⟩
      refine have h1:=rd2 ba h1;have aO:=od3 ba aO;Aa ?_
      rcases Af aL with⟨bb,aL⟩|⟨bb,aL⟩
      ·refine Aj f Z bb (Ae ?_)
       have bc:∀w,(Instr.build 24 #[]).run prog w= .ok (.agg #[sn]) w:=by intro w;simp[Instr.build,Instr.fill,A6,A2,AQ,AU,AK,A7,AY]
       refine Bo f Z Z bc λa f=>Au 0 0 (ds:=[sn]) m sizeOf24 f Z Z Z (Ax Z AB) Z (lb Z) Z λw m=>Ac f Z λa f=>Aa (Ao ?_)
       obtain⟨bd,m,be⟩:=Ow.nil R1 34 m
       refine have bf:=Bc (P:=prog) 1 m AT f (s:=4) rfl rfl rfl;have m:=m.fr 3;have m:=m.fr 1;have m:=m.eraseAt 3;have m:Mem W aY w (bd::aJ::H):=m.eraseAt 2;have m:=m.eraseAt 1;?_
       obtain rfl:=sj aL
       obtain rfl:=aM _ rfl
       obtain rfl:=sj hd
       exact⟨[(.agg #[sn]),(.bool false)],⟨bf,f.get _ _ Z,trivial⟩,f.d,_,[bd],(gt ae (gt ah (gt au (gt aN ba)))),m,_,_,Z,Z,be⟩
      ·refine Ah f Z bb (Ak (Bq 13 Bk (by kernel_rfl) m (q_boxAgg (i:=0) (ds:=[aw]) 13 1 AT Z Z Z Z (by kernel_rfl) Z f Z Z Z λa f=>AC 1 13 Z f Z λa f=>AC 2 13 Z f Z λa f=>Bd aL λbg bh aL=>BD 3 13 T22 h1 bh Z f Z Z λbi bj a bk bl f=>BC 4 13 Bv bk Z f Z λa f=>Bd aL λbm bn aL=>BD 5 13 T34 bl bn Z f Z Z λbo bp a bq br f=> ?_)))
       subst br
       refine BC 6 13 Pl2 bq Z f Z λa f=>AC 7 13 Z f Z λa f=>AC 8 13 Z f Z λa f=>Bd aL λbs bt aL=>BD 9 13 T22 h1 bt Z f Z Z λbu bv a bw bx f=>BC 10 13 Bv bw Z f Z λa f=>Bd aL λbz bA aL=>BD 11 13 T34 bx bA Z f Z Z λbB bC a bD bE f=> ?_
       subst bE
       refine BC 12 13 Pl2 bD Z f Z λa f=>BB λbF w bG m=>have aO:=od3 bG aO;have m:=m.fr 2;Bd aL λbH bI aL=>Bs f Z call24 (Wk.B m aO bI) λbJ bK bL w bM m bN a f=> ?_
       obtain⟨bO,rfl,rfl,bP⟩:=bN
       refine Au 2 0 (ds:=[aw]) m sizeOf24 f Z Z Z (Ax (Ow.one1 0 m bP Z) AB) Z (lb Z) Z λw m=>Aa (Ap (Ab f Z λa f=>Ai f Z Z AJ λa f=>Ac f Z λa f=>Aa (have m:=m.fr 2;have m:=m.fr 2;?_)))
       obtain rfl:=sj aL
       exact⟨_,Z,_,_,Z,_,bO,(gt aN (gt ba (gt bG bM))),f.k Z,m,bP⟩
    ·refine Ah f Z aP (AL Z ?_)
     obtain rfl:=sj aL
     obtain rfl:=aM _ rfl
     exact⟨_,Z,_,Z,_,aJ,aN,f.k Z,m,aO⟩
   ·rintro a w ⟨_,rfl,aC,rfl,aD,aE,bQ,f,m,bR⟩
    refine Ae (AR 1 0 (ds:=[aw]) m AT f Z Z Z Z Z λa f=>Au 0 0 (ds:=[aw]) m sizeOf24 f Z Z Z (Ax (Ow.one1 2 m bR Z) AB) Z (lb Z) Z λw m=>Ac f Z λa f=>Aa (Ao (have bS:=Bc (P:=prog) 0 m AT f (s:=4) rfl rfl rfl;have m:=m.fr 2;have m:=m.eraseAt 2;have m:=m.eraseAt 1;?_)))
    obtain rfl:=sj hd
    exact⟨[(.agg #[aw]),(.bool true)],⟨bS,f.get _ _ Z,trivial⟩,f.d,_,[aE],(gt ae (gt ah (gt au bQ))),m,_,_,Z,Z,bR⟩
theorem Wk.l {aa:Value}{ab:LL}(m:Mem W G w (H))(ac:R2 G aa ab){y:Int}(hd:D.l ab=some y):
  Calls prog 27 #[(.agg #[aa])] w (Res W G H (λ_ Ho v=>Ho=[]∧v=(iv y))):=by
 refine Aw (args:=[(.agg #[aa])]) (N:=6) [.tmp 2] func27 Z Z (lb Z) Z λa f=> ?_
 unfold D.l at hd
 refine Ae (B8 (cs:=[aa]) m f Z Z Z λad w a m f=>Ac f Z λa f=>AI (BJ underlying24 Z sizeOf22 f Z λa f=>A4 0 0 m BA f Z Z Z Z λa f=>AZ underlying22 f Z Z ac λa f=>Ac f Z λa f=>Aa (Ao (have m:=m.dp 1;?_))))
 obtain rfl:=sj hd
 exact⟨[(iv (ab.length:Int))],f.g Z,f.d,_,[],gr,m,Z,Z⟩
theorem Wk.z {v0:Value}{x0:LI}{x1:Int}(m:Mem W G w (H))(h0:R1 G v0 x0){y:Bool}(hd:D.z x0 x1=some y):
  Calls prog 45 #[v0,iv x1] w (Res W G H (λ_ Ho v=>Ho=[]∧v=(.bool y))):=by
 refine Aw (args:=[v0,iv x1]) (N:=18) [.tmp 4] func45 Z Z (lb Z) Z λa f=> ?_
 unfold D.z at hd
 refine Ae (Ac f Z λa f=>Aa (Ag (Ae (Ac f Z λa f=>Aa (Bd hd λaa ab hd=> ?_)))))
 refine AW (λa w=>∃q_19':Unit,aa= .inl q_19'∧∃(ac:GH),GLe G ac∧Fr a 18 []∧Mem W ac w (H)) ?_ ?_
 ·refine An (AN (λad a w=>∃ae:Int,ae=ad∧∃(af:GH),GLe G af∧Fr a 18 [(0,v0),(1,iv x1),(5,iv ae)]∧Mem W af w (H)) ab ⟨_,Z,_,gr,f.k Z,m⟩ ?_)
  clear ab f m
  rintro ad ag ah ai a w ⟨ae,rfl,af,aj,f,m⟩
  refine have h0:=rd1 aj h0;Ag (Ae (Ab f Z λa f=>Ab f Z λa f=>AZ underlying34 f Z Z h0 λa f=>Ai f Z Z AF λa f=>Aa ?_))
  rcases Af ah with⟨ak,ah⟩|⟨ak,ah⟩
  ·refine Aj f Z ak (Ak (Ag (An (Ae (Ab f Z λa f=>Ab f Z λa f=>Bd ah λal am ah=>Bx T34 f Z Z Z h0 am λan ao a ap aq f=> ?_)))))
   subst aq
   refine AM m Pl2 f Z Z ap λa f=>Ab f Z λa f=>Ai f Z Z b_eql λa f=>Aa ?_
   rcases Af ah with⟨ar,ah⟩|⟨ar,ah⟩
   ·refine Aj f Z ar (Ae (Ac f Z λa f=>Aa (Ao ?_)))
    obtain rfl:=sj ah
    obtain rfl:=ai _ rfl
    obtain rfl:=sj hd
    exact⟨[(.bool true)],f.g Z,f.d,_,[],aj,m,Z,Z⟩
   ·refine Ah f Z ar (Ak (Ap (Ab f Z λa f=>Ai f Z Z AJ λa f=>Ac f Z λa f=>Aa ?_)))
    obtain rfl:=sj ah
    exact⟨_,Z,_,Z,_,aj,f.k Z,m⟩
  ·refine Ah f Z ak (AL Z ?_)
   obtain rfl:=sj ah
   obtain rfl:=ai _ rfl
   exact⟨_,Z,_,aj,f.weak trivial,m⟩
 ·rintro a w ⟨_,rfl,ac,au,f,m⟩
  refine Ae (Ac f Z λa f=>Aa (Ao ?_))
  obtain rfl:=sj hd
  exact⟨[(.bool false)],f.g Z,f.d,_,[],au,m,Z,Z⟩
theorem Wk.M {aa:Value}{ab:LL}(m:Mem W G w (H))(ac:R2 G aa ab){y:Bool}(hd:D.M ab=some y):
  Calls prog 25 #[(.agg #[aa])] w (Res W G H (λ_ Ho v=>Ho=[]∧v=(.bool y))):=by
 refine Aw (args:=[(.agg #[aa])]) (N:=64) [.tmp 2] func25 Z Z (lb Z) Z λa f=> ?_
 unfold D.M at hd
 refine Ae (B8 (cs:=[aa]) m f Z Z Z λad w a m f=>Ac f Z λa f=>AI (AR 0 0 (ds:=[aa]) m AT f Z Z Z Z Z λa f=>Bd hd λae af hd=>Bh f Z call27 (Wk.l m ac af) λag w ah m a f=>have ac:=rd2 ah ac;Ac f Z λa f=>Aa (Ag (Ae (Ab f Z λa f=>Bd hd λai aj hd=>Bh f Z call21 (Wk.a m aj) λak w al m a f=>have ac:=rd2 al ac;l_o f (Bf (f.e Z)) λa f=>Aa ?_)))))
 rcases Af hd with⟨am,hd⟩|⟨am,hd⟩
 ·refine Aj f Z am (Ae (Ac f Z λa f=>Aa (Ao (have m:=m.dp 1;?_))))
  obtain rfl:=sj hd
  exact⟨[(.bool false)],f.g Z,f.d,_,[],(gt ah al),m,Z,Z⟩
 ·refine Ah f Z am (Ak (Ag (Ae (Ac f Z λa f=>Aa (Bd hd λan ao hd=> ?_)))))
  refine AW (λa w=>∃q_138':Unit,an= .inl q_138'∧∃(ap:GH),GLe ak ap∧Fr a 64 [(1,pb ad),(3,iv ae)]∧Mem W ap w (ib ad 24 [aa]::H)) ?_ ?_
  ·refine An (AN (λaq a w=>∃ar:Int,ar=aq∧∃(au:GH),GLe ak au∧Fr a 64 [(1,pb ad),(3,iv ae),(4,iv ar)]∧Mem W au w (ib ad 24 [aa]::H)) ao ⟨_,Z,_,gr,f.k Z,m⟩ ?_)
   clear ao f m
   rintro aq av aw ax a w ⟨ar,rfl,au,ay,f,m⟩
   refine have ac:=rd2 ay ac;Ag (Ae (Ab f Z λa f=>Ab f Z λa f=>Ai f Z Z AF λa f=>Aa ?_))
   rcases Af aw with⟨az,aw⟩|⟨az,aw⟩
   ·refine Aj f Z az (Ak (Ag (An (Ae (BJ underlying24 Z sizeOf22 f Z λa f=>A4 0 0 m BA f Z Z Z Z λa f=>Ab f Z λa f=>Bd aw λaA aB aw=>Bx T22 f Z Z Z ac aB λaC aD a aE aF f=>AM m Bv f Z Z aE λa f=>Ab f Z λa f=>Bd aw λaG aH aw=>Bh f Z call23 (Wk.t m aF aH) λaI w aJ m a f=>have ac:=rd2 aJ ac;l_o f (Bf (f.e Z)) λa f=>Ab f Z λa f=>Bd aw λaK aL aw=> ?_)))))
    refine A3 8 (λa w=>∃aM,GLe aI aM∧Mem W aM w (ib ad 24 [aa]::H)∧Fr a 64 [(1,pb ad),(3,iv ae),(4,iv ar),(14,(.bool (decide (ar<ae)))),(17,pb ad),(18,aa),(19,iv ar),(20,aC),(21,aD),(22,iv ae),(23,(.bool aG)),(24,(.bool (!aG))),(25,(.bool (!aG))),(33,(.bool aK))]) ?_ ?_
    ·rcases Af aL with⟨aN,aL⟩|⟨aN,aL⟩
     ·refine Am f aN λa f=>Am f aN λa f=>Am f aN λa f=>Am f aN λa f=>Am f aN λa f=>Am f aN λa f=>Am f aN λa f=>l_o f (AD (f.e Z) aN (f.e Z)) λa f=> ?_
      obtain rfl:=sj aL
      exact⟨_,gr,m,f.k Z⟩
     ·refine Al f aN (BJ underlying24 Z sizeOf22 f Z λa f=>Al f aN (A4 0 0 m BA f Z Z Z Z λa f=>Al f aN (Ab f Z λa f=>Al f aN (Bd aL λaO aP aL=>Bx T22 f Z Z Z ac aP λaQ aR a aS aT f=>Al f aN (AM m Bv f Z Z aS λa f=>Al f aN (Ab f Z λa f=>Al f aN (Bd aL λaU aV aL=>Bh f Z call45 (Wk.z m aT aV) λaW w aX m a f=>l_o f (AE (f.e Z) aN (f.e Z)) λa f=> ?_)))))))
      obtain rfl:=sj aL
      exact⟨_,aX,m,f.k Z⟩
    ·rintro a w ⟨aM,aY,m,f⟩
     refine Aa ?_
     rcases Af aw with⟨aZ,aw⟩|⟨aZ,aw⟩
     ·refine Aj f Z aZ (Ae (Ac f Z λa f=>Aa (Ao (have m:=m.dp 1;?_))))
      obtain rfl:=sj aw
      obtain rfl:=ax _ rfl
      obtain rfl:=sj hd
      exact⟨[(.bool false)],f.g Z,f.d,_,[],(gt ah (gt al (gt ay (gt aJ aY)))),m,Z,Z⟩
     ·refine Ah f Z aZ (Ak (Ap (Ab f Z λa f=>Ai f Z Z AJ λa f=>Ac f Z λa f=>Aa ?_)))
      obtain rfl:=sj aw
      exact⟨_,Z,_,Z,_,(gt ay (gt aJ aY)),f.k Z,m⟩
   ·refine Ah f Z az (AL Z ?_)
    obtain rfl:=sj aw
    obtain rfl:=ax _ rfl
    exact⟨_,Z,_,ay,f.k Z,m⟩
  ·rintro a w ⟨_,rfl,ap,a0,f,m⟩
   refine have ac:=rd2 a0 ac;Ag (Ae (Ac f Z λa f=>Aa (Bd hd λa1 a2 hd=> ?_)))
   refine AW (λa w=>∃q_545':Unit,a1= .inl q_545'∧∃(a3:GH),GLe ap a3∧Fr a 64 []∧Mem W a3 w (H)) ?_ ?_
   ·refine An (AN (λa4 a w=>∃a5:Int,a5=a4∧∃(a6:GH),GLe ap a6∧Fr a 64 [(1,pb ad),(3,iv ae),(5,iv a5)]∧Mem W a6 w (ib ad 24 [aa]::H)) a2 ⟨_,Z,_,gr,f.k Z,m⟩ ?_)
    clear a2 f m
    rintro a4 a7 a8 a9 a w ⟨a5,rfl,a6,ba,f,m⟩
    refine have ac:=rd2 ba ac;Ag (Ae (Ab f Z λa f=>Ab f Z λa f=>Ai f Z Z AF λa f=>Aa ?_))
    rcases Af a8 with⟨bb,a8⟩|⟨bb,a8⟩
    ·refine Aj f Z bb (Ak (Ag (An (Ae (Ac f Z λa f=>Aa (Bd a8 λbc bd a8=> ?_))))))
     refine AW (λa w=>∃q_759':Unit,bc= .inl q_759'∧∃(be:GH),GLe a6 be∧Fr a 64 [(1,pb ad),(3,iv ae),(5,iv a5)]∧Mem W be w (ib ad 24 [aa]::H)) ?_ ?_
     ·refine An (AN (λbf a w=>∃bg:Int,bg=bf∧∃(bh:GH),GLe a6 bh∧Fr a 64 [(1,pb ad),(3,iv ae),(5,iv a5),(6,iv bg)]∧Mem W bh w (ib ad 24 [aa]::H)) bd ⟨_,Z,_,gr,f.k Z,m⟩ ?_)
      clear bd f m
      rintro bf bi bj bk a w ⟨bg,rfl,bh,bl,f,m⟩
      refine have ac:=rd2 bl ac;Ag (Ae (Ab f Z λa f=>BJ underlying24 Z sizeOf22 f Z λa f=>A4 0 0 m BA f Z Z Z Z λa f=>Ab f Z λa f=>Bd bj λbm bn bj=>Bx T22 f Z Z Z ac bn λbo bp a bq br f=>AM m Bv f Z Z bq λa f=>AZ underlying34 f Z Z br λa f=>Ai f Z Z AF λa f=>Aa ?_))
      rcases Af bj with⟨bs,bj⟩|⟨bs,bj⟩
      ·refine Aj f Z bs (Ak (Ag (An (Ag (Bq 15 Bk (by kernel_rfl) m (q_fa 0 15 underlying24 Z sizeOf22 Z f Z λa f=>q_bc 1 15 0 BA Z Z Z f Z λa f=>q_fa 2 15 underlying24 Z sizeOf22 Z f Z λa f=>q_bc 3 15 0 BA Z Z Z f Z λa f=>AC 4 15 Z f Z λa f=>Bd bj λbt bu bj=>BD 5 15 T22 ac bu Z f Z Z λbv bw a bx bz f=>BC 6 15 Bv bx Z f Z λa f=>AC 7 15 Z f Z λa f=>Bd bj λbA bB bj=>BD 8 15 T34 bz bB Z f Z Z λbC bD a bE bF f=> ?_))))))
       subst bF
       refine BC 9 15 Pl2 bE Z f Z λa f=>Bd bj λbG bH bj=>BD 10 15 T22 ac bH Z f Z Z λbI bJ a bK bL f=>BC 11 15 Bv bK Z f Z λa f=>AC 12 15 Z f Z λa f=>Bd bj λbM bN bj=>Ca (i:=13) 15 Z (by kernel_rfl) Z f Z Z Z call45 (λ_ _ w bO m=>Wk.z m (rd1 bO bL) bN) λa f=>q_p 14 15 Z f (λ_=>Bf (f.e Z)) λa f=>BB λbP w bQ m=>Aa ?_
       rcases Af bj with⟨bR,bj⟩|⟨bR,bj⟩
       ·refine Aj f Z bR (Ae (Ac f Z λa f=>Aa (Ao (have m:=m.dp 1;?_))))
        obtain rfl:=sj bj
        obtain rfl:=bk _ rfl
        obtain rfl:=sj a8
        obtain rfl:=a9 _ rfl
        obtain rfl:=sj hd
        exact⟨[(.bool false)],f.g Z,f.d,_,[],(gt ah (gt al (gt a0 (gt ba (gt bl bQ))))),m,Z,Z⟩
       ·refine Ah f Z bR (Ak (Ap (Ab f Z λa f=>Ai f Z Z AJ λa f=>Ac f Z λa f=>Aa ?_)))
        obtain rfl:=sj bj
        exact⟨_,Z,_,Z,_,(gt bl bQ),f.k Z,m⟩
      ·refine Ah f Z bs (AL Z ?_)
       obtain rfl:=sj bj
       obtain rfl:=bk _ rfl
       exact⟨_,Z,_,bl,f.k Z,m⟩
     ·rintro a w ⟨_,rfl,be,bS,f,m⟩
      refine Ap (Ab f Z λa f=>Ai f Z Z AJ λa f=>Ac f Z λa f=>Aa ?_)
      obtain rfl:=sj a8
      exact⟨_,Z,_,Z,_,(gt ba bS),f.k Z,m⟩
    ·refine Ah f Z bb (AL Z (have m:=m.dp 1;?_))
     obtain rfl:=sj a8
     obtain rfl:=a9 _ rfl
     exact⟨_,Z,_,ba,f.weak trivial,m⟩
   ·rintro a w ⟨_,rfl,a3,bT,f,m⟩
    refine Ae (Ac f Z λa f=>Aa (Ao ?_))
    obtain rfl:=sj hd
    exact⟨[(.bool true)],f.g Z,f.d,_,[],(gt ah (gt al (gt a0 bT))),m,Z,Z⟩
theorem Wk.b {x0:Int}(m:Mem W G w (H)){y:ByteArray}(hd:D.b x0=some y):
  Calls prog 26 #[iv x0] w (Res W G H (λ_ Ho v=>Ho=[]∧v=(.string y))):=by
 refine Aw (args:=[iv x0]) (N:=33) [.tmp 2] func26 Z Z (lb Z) Z λa f=> ?_
 unfold D.b at hd
 refine Ae (Ac f Z λa f=>AI (Ac f Z λa f=>AI (Ab f Z λa f=>Ai f Z Z AF λa f=>Ac f Z λa f=>Aa (Ag (Bd hd λaa ab hd=> ?_)))))
 refine AW (λa w=>∃ac:ByteArray,ac=aa∧∃(ad:GH),GLe G ad∧Fr a 33 [(3,(.string ac)),(4,(.bool (decide (x0<0))))]∧Mem W ad w (H)) ?_ ?_
 ·refine An (AN (λae a w=>∃af:Int,∃ag:ByteArray,(af,ag)=ae∧∃(ah:GH),GLe G ah∧Fr a 33 [(0,iv af),(3,(.string ag)),(4,(.bool (decide (x0<0))))]∧Mem W ah w (H)) ab ⟨_,_,Z,_,gr,f.k Z,m⟩ ?_)
  clear ab f m
  rintro ae ai aj ak a w ⟨af,ag,rfl,ah,al,f,m⟩
  refine Ag (Ae (Ab f Z λa f=>l_o f (r_sEql (f.e Z) (f.e Z)) λa f=>Ab f Z λa f=> ?_))
  refine A3 3 (λa w=>∃am,GLe ah am∧Mem W am w (H)∧Fr a 33 [(0,iv af),(3,(.string ag)),(4,(.bool (decide (x0<0)))),(8,(.string ag)),(9,(.bool (sEq ag (⟨#[]⟩)))),(10,(.bool (sEq ag (⟨#[]⟩)))),(13,(.bool ((sEq ag (⟨#[]⟩))||(af !=0))))]) ?_ ?_
  ·rcases Bool.eq_false_or_eq_true (sEq ag (⟨#[]⟩)) with an|an
   ·exact Am f an λa f=>Am f an λa f=>l_o f (AD (f.e Z) an (f.e Z)) λa f=>⟨_,gr,m,f.weak ⟨Z,Z,Z,Z,Z,Z,by rw[an];rfl,trivial⟩⟩
   ·exact Al f an (Ab f Z λa f=>Al f an (Ai f Z Z BZ λa f=>l_o f (AE (f.e Z) an (f.e Z)) λa f=>⟨_,gr,m,f.weak ⟨Z,Z,Z,Z,Z,Z,by rw[an];rfl,trivial⟩⟩))
  ·rintro a w ⟨am,ao,m,f⟩
   refine Aa ?_
   rcases Af aj with⟨ap,aj⟩|⟨ap,aj⟩
   ·refine Aj f Z ap (Ak (An (Ae (Ab f Z λa f=>Ai f Z Z (b_rem Z) λa f=>Ac f Z λa f=>Aa (Ag (Ae (Ab f Z λa f=>Ai f Z Z AF λa f=>Aa ?_)))))))
    rcases Af aj with⟨aq,aj⟩|⟨aq,aj⟩
    ·refine Aj f Z aq (Ap (Ab f Z λa f=>l_o f (r_neg (f.e Z)) λa f=>Ac f Z λa f=>AI (Ab f Z λa f=>Ai f Z Z AJ λa f=>l_o f (r_conv (f.e Z) ⟨_,underlying2⟩ underlying5) λa f=>A1 (R:=(RI .u8)) (xs:=([(IntKind.u8.wrap (i64.wrap (48+(i64.wrap (0-(Int.tmod af 10))))))]:LI)) (RI.one _) m T62 f Z Z Z (by decide) (All2.cons Z (All2.nil _)) λar au w a m av f=>l_sOf underlying62 underlying5 underlying9 (av.src m (j:=0) Z) f Z Z λa f=>Ab f Z λa f=>Bd aj λaw ax aj=>l_o f (BH (f.e Z) (f.e Z) ax) λa f=>Ac f Z λa f=>Aa (Ap (Ab f Z λa f=>Ai f Z Z (b_quo Z) λa f=>Ac f Z λa f=>Aa (have m:=m.dp 1;?_))))))
     obtain rfl:=sj aj
     exact⟨_,Z,_,_,Z,_,(gt al ao),f.k Z,m⟩
    ·refine Ah f Z aq (Ak (Ae (Ab f Z λa f=>Ai f Z Z AJ λa f=>l_o f (r_conv (f.e Z) ⟨_,underlying2⟩ underlying5) λa f=>A1 (R:=(RI .u8)) (xs:=([(IntKind.u8.wrap (i64.wrap (48+(Int.tmod af 10))))]:LI)) (RI.one _) m T62 f Z Z Z (by decide) (All2.cons Z (All2.nil _)) λay az w a m aA f=>l_sOf underlying62 underlying5 underlying9 (aA.src m (j:=0) Z) f Z Z λa f=>Ab f Z λa f=>Bd aj λaB aC aj=>l_o f (BH (f.e Z) (f.e Z) aC) λa f=>Ac f Z λa f=>Aa (Ap (Ab f Z λa f=>Ai f Z Z (b_quo Z) λa f=>Ac f Z λa f=>Aa (have m:=m.dp 1;?_))))))
     obtain rfl:=sj aj
     exact⟨_,Z,_,_,Z,_,(gt al ao),f.k Z,m⟩
   ·refine Ah f Z ap (AL Z ?_)
    obtain rfl:=sj aj
    obtain rfl:=ak _ rfl
    exact⟨_,Z,_,(gt al ao),f.k Z,m⟩
 ·rintro a w ⟨ac,rfl,ad,aD,f,m⟩
  refine Ag (Ae (Ab f Z λa f=>Aa ?_))
  rcases Af hd with⟨aE,hd⟩|⟨aE,hd⟩
  ·refine Aj f Z aE (Ap (Ab f Z λa f=>Bd hd λaF aG hd=>l_o f (BH (f.e Z) (f.e Z) aG) λa f=>Ac f Z λa f=>AI (Ab f Z λa f=>Ac f Z λa f=>Aa (Ao ?_))))
   obtain rfl:=sj hd
   exact⟨[(.string aF)],f.g Z,f.d,_,[],aD,m,Z,Z⟩
  ·refine Ah f Z aE (Ak (Ae (Ab f Z λa f=>Ac f Z λa f=>Aa (Ao ?_))))
   obtain rfl:=sj hd
   exact⟨[(.string ac)],f.g Z,f.d,_,[],aD,m,Z,Z⟩
theorem Wk.V {aa:Value}{ab:LL}(m:Mem W G w (H))(ac:R2 G aa ab){y:(LL)}(hd:D.V ab=some y):
  Calls prog 28 #[(.agg #[aa])] w (Res W G H (λG' Ho v=>∃r0:Value,∃i0:Itm,Ho=[i0]∧r0=v∧Ow R1 34 G' i0 r0 y)):=by
 refine Aw (args:=[(.agg #[aa])]) (N:=47) [.tmp 2] func28 Z Z (lb Z) Z λa f=> ?_
 unfold D.V at hd
 refine Ae (B8 (cs:=[aa]) m f Z Z Z λad w a m f=>Ac f Z λa f=>AI (A1 (R:=R1) (xs:=([]:LL)) (RSl.one _) m T22 f Z Z Z (by decide) (All2.nil _) λae af w a m ag f=>Ac f Z λa f=>Aa (Ag (Ae (Ac f Z λa f=>Aa (Bd hd λah ai hd=> ?_))))))
 refine AW (λa w=>∃aj:LL,aj=ah∧∃(ak:GH) (al:Value) (am:Itm),GLe G ak∧Fr a 47 [(3,al)]∧Mem W ak w (am::H)∧Ow R1 34 ak am al aj) ?_ ?_
 ·refine An (have m:=m.fr 1;AN (λan a w=>∃ao:LL,∃ap:Int,(ao,ap)=an∧∃(aq:GH) (ar:Value) (au:Itm),GLe G aq∧Fr a 47 [(1,pb ad),(3,ar),(4,iv ap)]∧Mem W aq w (ib ad 24 [aa]::au::H)∧Ow R1 34 aq au ar ao) ai ⟨_,_,Z,_,af,ae,gr,f.k Z,m,ag⟩ ?_)
  clear ai f m
  rintro an av aw ax a w ⟨ao,ap,rfl,aq,ar,au,ay,f,m,az⟩
  refine have ac:=rd2 ay ac;Ag (Ae (Ab f Z λa f=>AR 0 0 (ds:=[aa]) m AT f Z Z Z Z Z λa f=>Bd aw λaA aB aw=>Bh f Z call27 (Wk.l m ac aB) λaC w aD m a f=>have ac:=rd2 aD ac;have az:=od3 aD az;Ai f Z Z AF λa f=>Aa ?_))
  rcases Af aw with⟨aE,aw⟩|⟨aE,aw⟩
  ·refine Aj f Z aE (Ak (Ag (An (Ae (Ac f Z λa f=>Aa (Bd aw λaF aG aw=> ?_))))))
   refine AW (λa w=>∃aH:LL,aH=aF∧∃(aI:GH) (aJ:Value) (aK:Itm),GLe aC aI∧Fr a 47 [(1,pb ad),(3,aJ),(4,iv ap)]∧Mem W aI w (ib ad 24 [aa]::aK::H)∧Ow R1 34 aI aK aJ aH) ?_ ?_
   ·refine An (AN (λaL a w=>∃aM:LL,∃aN:Int,(aM,aN)=aL∧∃(aO:GH) (aP:Value) (aQ:Itm),GLe aC aO∧Fr a 47 [(1,pb ad),(3,aP),(4,iv ap),(5,iv aN)]∧Mem W aO w (ib ad 24 [aa]::aQ::H)∧Ow R1 34 aO aQ aP aM) aG ⟨_,_,Z,_,ar,au,gr,f.k Z,m,az⟩ ?_)
    clear aG f m
    rintro aL aR aS aT a w ⟨aM,aN,rfl,aO,aP,aQ,aU,f,m,aV⟩
    refine have ac:=rd2 aU ac;Ag (Ae (Ab f Z λa f=>BJ underlying24 Z sizeOf22 f Z λa f=>A4 0 0 m BA f Z Z Z Z λa f=>Ab f Z λa f=>Bd aS λaW aX aS=>Bx T22 f Z Z Z ac aX λaY aZ a a0 a1 f=>AM m Bv f Z Z a0 λa f=>AZ underlying34 f Z Z a1 λa f=>Ai f Z Z AF λa f=>Aa ?_))
    rcases Af aS with⟨a2,aS⟩|⟨a2,aS⟩
    ·refine Aj f Z a2 (Ak (Ag (An (Ae (BJ underlying24 Z sizeOf22 f Z λa f=>A4 0 0 m BA f Z Z Z Z λa f=>Ab f Z λa f=>Bd aS λa3 a4 aS=>Bx T22 f Z Z Z ac a4 λa5 a6 a a7 a8 f=>AM m Bv f Z Z a7 λa f=>Ab f Z λa f=>Bd aS λa9 ba aS=>Bx T34 f Z Z Z a8 ba λbb bc a bd be f=> ?_)))))
     subst be
     refine AM m Pl2 f Z Z bd λa f=>Ab f Z λa f=>Ai f Z Z BO λa f=>Aa ?_
     rcases Af aS with⟨bf,aS⟩|⟨bf,aS⟩
     ·refine Aj f Z bf (Ap (Ab f Z λa f=>Ab f Z λa f=>BJ underlying24 Z sizeOf22 f Z λa f=>A4 0 0 m BA f Z Z Z Z λa f=>Ab f Z λa f=>Bd aS λbg bh aS=>Bx T22 f Z Z Z ac bh λbi bj a bk bl f=>AM m Bv f Z Z bk λa f=>Ab f Z λa f=>Bd aS λbm bn aS=>Bx T34 f Z Z Z bl bn λbo bp a bq br f=> ?_))
      subst br
      refine AM m Pl2 f Z Z bq λa f=>A1 (R:=R0) (xs:=([ap,bm]:LI)) (RI.one _) m T34 f Z Z Z (by decide) (All2.cons Z (All2.cons Z (All2.nil _))) λbs bt w a m bu f=> ?_
      obtain⟨bv,bw,m,bx⟩:=Ow.stamp (RI.mono _) bu m
      refine have aV:=od3 bw aV;A1 (R:=R1) (xs:=([([ap,bm]:LI)]:LL)) (RSl.one _) m T22 f Z Z Z (by decide) (All2.cons bx (All2.nil _)) λbz bA w a m bB f=>Bd aS λbC bD aS=>Bw (RSl.one _) 2 m aV Z T22 Z (by decide) f Z Z Z (Ow.src (j:=0) bB m Z) bD λbE bF w a m bG f=>Ac f Z λa f=>Aa (Ap (Ab f Z λa f=>Ai f Z Z AJ λa f=>Ac f Z λa f=>Aa (have m:=m.fr 2;have m:=m.fr 2;have m:=m.eraseAt 2;?_)))
      obtain rfl:=sj aS
      exact⟨_,Z,_,_,Z,_,bF,bE,(gt aU bw),f.k Z,m,bG⟩
     ·refine Ah f Z bf (Ak (Ap (Ab f Z λa f=>Ai f Z Z AJ λa f=>Ac f Z λa f=>Aa ?_)))
      obtain rfl:=sj aS
      exact⟨_,Z,_,_,Z,_,aP,aQ,aU,f.k Z,m,aV⟩
    ·refine Ah f Z a2 (AL Z ?_)
     obtain rfl:=sj aS
     obtain rfl:=aT _ rfl
     exact⟨_,Z,_,aP,aQ,aU,f.k Z,m,aV⟩
   ·rintro a w ⟨aH,rfl,aI,aJ,aK,bH,f,m,bI⟩
    refine Ap (Ab f Z λa f=>Ai f Z Z AJ λa f=>Ac f Z λa f=>Aa ?_)
    obtain rfl:=sj aw
    exact⟨_,Z,_,_,Z,_,aJ,aK,(gt ay (gt aD bH)),f.k Z,m,bI⟩
  ·refine Ah f Z aE (AL Z (have m:=m.fr 1;have m:=m.eraseAt 1;?_))
   obtain rfl:=sj aw
   obtain rfl:=ax _ rfl
   exact⟨_,Z,_,ar,au,(gt ay aD),f.k Z,m,az⟩
 ·rintro a w ⟨aj,rfl,ak,al,am,bJ,f,m,bK⟩
  refine Ae (Ab f Z λa f=>Ac f Z λa f=>Aa (Ao ?_))
  obtain rfl:=sj hd
  exact⟨[al],f.g Z,f.d,_,[am],bJ,m,_,_,Z,Z,bK⟩
theorem Wk.X {aa:Value}{ab:LL}(m:Mem W G w (H))(ac:R2 G aa ab){y:ByteArray}(hd:D.X ab=some y):
  Calls prog 12 #[(.agg #[aa])] w (Res W G H (λ_ Ho v=>Ho=[]∧v=(.string y))):=by
 refine Aw (args:=[(.agg #[aa])]) (N:=41) [.tmp 2] func12 Z Z (lb Z) Z λa f=> ?_
 unfold D.X at hd
 refine Ae (B8 (cs:=[aa]) m f Z Z Z λad w a m f=>Ac f Z λa f=>Aa (Ag (Ae (AR 0 0 (ds:=[aa]) m AT f Z Z Z Z Z λa f=>Bd hd λae af hd=>Bh f Z call25 (Wk.M m ac af) λag w ah m a f=>have ac:=rd2 ah ac;l_o f (Bf (f.e Z)) λa f=>Aa ?_))))
 rcases Af hd with⟨ai,hd⟩|⟨ai,hd⟩
 ·refine Aj f Z ai (Ae (Ac f Z λa f=>Aa (Ao (have m:=m.dp 1;?_))))
  obtain rfl:=sj hd
  exact⟨[(.string (⟨#[]⟩))],f.g Z,f.d,_,[],ah,m,Z,Z⟩
 ·refine Ah f Z ai (Ak (Ae (AR 0 0 (ds:=[aa]) m AT f Z Z Z Z Z λa f=>Bd hd λaj ak hd=>Bh f Z call27 (Wk.l m ac ak) λal w am m a f=>have ac:=rd2 am ac;Bd hd λan ao hd=>Bh f Z call26 (Wk.b m ao) λap w aq m a f=>have ac:=rd2 aq ac;Bd hd λar au hd=>l_o f (BH (f.e Z) (f.e Z) au) λa f=>Ac f Z λa f=>AI (AR 0 0 (ds:=[aa]) m AT f Z Z Z Z Z λa f=>Bd hd λav aw hd=>l_ro f Z call28 (Wk.V m ac aw) λax ay az w aA m aB a f=>Ac f Z λa f=>Aa (Ag (Ae (Ac f Z λa f=>Aa (Bd hd λaC aD hd=> ?_))))))))
  refine AW (λa w=>∃aE:ByteArray,aE=aC∧∃(aF:GH),GLe az aF∧Fr a 41 [(3,(.string aE))]∧Mem W aF w (H)) ?_ ?_
  ·refine An (have m:=m.eraseAt 1;AN (λaG a w=>∃aH:ByteArray,∃aI:Int,(aH,aI)=aG∧∃(aJ:GH),GLe az aJ∧Fr a 41 [(3,(.string aH)),(4,ax),(5,iv aI)]∧Mem W aJ w (ay::H)) aD ⟨_,_,Z,_,gr,f.k Z,m⟩ ?_)
   clear aD f m
   rintro aG aK aL aM a w ⟨aH,aI,rfl,aJ,aN,f,m⟩
   refine have aB:=od3 aN aB;Ag (Ae (Ab f Z λa f=>Ab f Z λa f=>B4 0 m aB Z underlying22 f Z Z λa f=>Ai f Z Z AF λa f=>Aa ?_))
   rcases Af aL with⟨aO,aL⟩|⟨aO,aL⟩
   ·refine Aj f Z aO (Ak (Ag (An (Bq 20 Bk (by kernel_rfl) m (AC 0 20 Z f Z λa f=>Bd aL λaP aQ aL=>q_p 1 20 Z f (λ_=>BH (f.e Z) (f.e Z) aQ) λa f=>AC 2 20 Z f Z λa f=>AC 3 20 Z f Z λa f=>Bd aL λaR aS aL=>B3 4 20 0 m aB T22 aS Z f Z Z λaT a aU f=>q_ol 5 20 0 aB Bv aU aS Z f Z λaV a aW f=>Bd aL λaX aY aL=>BD 6 20 T34 aW aY Z f Z Z λaZ a0 a a1 a2 f=> ?_)))))
    subst a2
    refine BC 7 20 Pl2 a1 Z f Z λa f=>Bd aL λa3 a4 aL=>Ca (i:=8) 20 Z (by kernel_rfl) Z f Z Z Z call26 (λ_ _ w a5 m=>Wk.b m a4) λa f=>Bd aL λa6 a7 aL=>q_p 9 20 Z f (λ_=>BH (f.e Z) (f.e Z) a7) λa f=>Bd aL λa8 a9 aL=>q_p 10 20 Z f (λ_=>BH (f.e Z) (f.e Z) a9) λa f=>AC 11 20 Z f Z λa f=>AC 12 20 Z f Z λa f=>Bd aL λba bb aL=>B3 13 20 0 m aB T22 bb Z f Z Z λbc a bd f=>q_ol 14 20 0 aB Bv bd bb Z f Z λbe a bf f=>Bd aL λbg bh aL=>BD 15 20 T34 bf bh Z f Z Z λbi bj a bk bl f=> ?_
    subst bl
    refine BC 16 20 Pl2 bk Z f Z λa f=>Bd aL λbm bn aL=>Ca (i:=17) 20 Z (by kernel_rfl) Z f Z Z Z call26 (λ_ _ w bo m=>Wk.b m bn) λa f=>Bd aL λbp bq aL=>q_p 18 20 Z f (λ_=>BH (f.e Z) (f.e Z) bq) λa f=>q_p 19 20 Z f (λ_=>CS (f.e Z)) λa f=>BB λbr w bs m=>Aa (Ap (Ab f Z λa f=>Ai f Z Z AJ λa f=>Ac f Z λa f=>Aa ?_))
    obtain rfl:=sj aL
    exact⟨_,Z,_,_,Z,_,(gt aN bs),f.k Z,m⟩
   ·refine Ah f Z aO (AL Z (have m:=m.dp 1;?_))
    obtain rfl:=sj aL
    obtain rfl:=aM _ rfl
    exact⟨_,Z,_,aN,f.k Z,m⟩
  ·rintro a w ⟨aE,rfl,aF,bt,f,m⟩
   refine Ae (Ab f Z λa f=>Ac f Z λa f=>Aa (Ao ?_))
   obtain rfl:=sj hd
   exact⟨[(.string aE)],f.g Z,f.d,_,[],(gt ah (gt am (gt aq (gt aA bt)))),m,Z,Z⟩
theorem Wk.s {x0:ByteArray}(m:Mem W G w (H)){y:(LL)×Bool}(hd:D.s x0=some y):
  Calls prog 4 #[(.string x0)] w (Res W G H (λG' Ho v=>∃r0:Value,∃i0:Itm,Ho=[i0]∧v= .tuple #[(.agg #[r0]),(.bool y.2)]∧Ow R1 34 G' i0 r0 y.1)):=by
 refine Aw (args:=[(.string x0)]) (N:=116) [.cell 2 24,.tmp 3] func4 Z Z (lb Z) Z λa f=> ?_
 unfold D.s at hd
 refine Ae (Bg (cs:=[sn]) zeroValue24 m f Z Z λaa w a m f=>Ac f Z λa f=>Aa (Ag (Ae (Ab f Z λa f=>l_o f (Bu (f.e Z) underlying9) λa f=>Ai f Z Z BO λa f=>Aa ?_))))
 rcases Af hd with⟨ab,hd⟩|⟨ab,hd⟩
 ·refine Aj f Z ab (Ae ?_)
  have ac:∀w,(Instr.build 24 #[]).run prog w= .ok (.agg #[sn]) w:=by intro w;simp[Instr.build,Instr.fill,A6,A2,AQ,AU,AK,A7,AY]
  refine Bo f Z Z ac λa f=>Au 0 0 (ds:=[sn]) m sizeOf24 f Z Z Z (Ax Z AB) Z (lb Z) Z λw m=>Ac f Z λa f=>Aa (Ao ?_)
  obtain⟨ad,m,ae⟩:=Ow.nil R1 34 m
  refine have af:=Bc (P:=prog) 1 m AT f (s:=2) rfl rfl rfl;have m:=m.eraseAt 1;?_
  obtain rfl:=sj hd
  exact⟨[(.agg #[sn]),(.bool false)],⟨af,f.get _ _ Z,trivial⟩,f.d,_,[ad],gr,m,_,_,Z,Z,ae⟩
 ·refine Ah f Z ab (Ak (Ae (Ab f Z λa f=>Bd hd λag ah hd=>l_ro f Z call9 (Wk.o m ah) λai aj ak w al m am a f=>Ac f Z λa f=>Aa (Ag (Ag (Bq 17 Bk (by kernel_rfl) m (AC 0 17 Z f Z λa f=>Bd hd λan ao hd=>B3 1 17 0 m am T30 ao Z f Z Z λap a aq f=>q_ol 2 17 0 am Pl9 aq ao Z f Z λar a au f=> ?_)))))))
  subst au
  refine q_p 3 17 Z f (λ_=>Bu (f.e Z) underlying9) λa f=>q_p 4 17 Z f (λ_=>BY (f.e Z) (f.e Z) AF) λa f=>AC 5 17 Z f Z λa f=>Bd hd λav aw hd=>q_cut (fuel':=0) (listed':= #[true,true,true,true,true,true,true,true,true,true,true,true,true,true,true,true,true]) (λa=>Fr a 116 [(0,(.string x0)),(2,pb aa),(4,ai),(22,ai),(23,ap),(24,(.string an)),(25,(iv (an.size:Int))),(26,(.bool (decide ((an.size:Int)<2)))),(27,(.bool (decide ((an.size:Int)<2)))),(38,(.bool av))]) ?_ ?_
  ·intro a f
   refine BB λax w ay m=>have am:=Ow.mono RStr.mono ay am;Aa ?_
   rcases Af hd with⟨az,hd⟩|⟨az,hd⟩
   ·refine Aj f Z az (Ae ?_)
    have aA:∀w,(Instr.build 24 #[]).run prog w= .ok (.agg #[sn]) w:=by intro w;simp[Instr.build,Instr.fill,A6,A2,AQ,AU,AK,A7,AY]
    refine Bo f Z Z aA λa f=>Au 1 0 (ds:=[sn]) m sizeOf24 f Z Z Z (Ax Z AB) Z (lb Z) Z λw m=>Ac f Z λa f=>Aa (Ao ?_)
    obtain⟨aB,m,aC⟩:=Ow.nil R1 34 m
    refine have aD:=Bc (P:=prog) 2 m AT f (s:=2) rfl rfl rfl;have m:=m.eraseAt 2;have m:=m.eraseAt 1;?_
    obtain rfl:=sj hd
    exact⟨[(.agg #[sn]),(.bool false)],⟨aD,f.get _ _ Z,trivial⟩,f.d,_,[aB],(gt al ay),m,_,_,Z,Z,aC⟩
   ·refine Ah f Z az (Ak (Ag (Bq 15 Bk (by kernel_rfl) m (AC 0 15 Z f Z λa f=>Bd hd λaE aF hd=>B3 1 15 0 m am T30 aF Z f Z Z λaG a aH f=>q_ol 2 15 0 am Pl9 aH aF Z f Z λaI a aJ f=> ?_))))
    subst aJ
    refine AC 3 15 Z f Z λa f=>Bd hd λaK aL hd=>B3 4 15 0 m am T30 aL Z f Z Z λaM a aN f=>q_ol 5 15 0 am Pl9 aN aL Z f Z λaO a aP f=> ?_
    subst aP
    refine q_p 6 15 Z f (λ_=>Bu (f.e Z) underlying9) λa f=>q_p 7 15 Z f (λ_=>BY (f.e Z) (f.e Z) CH) λa f=>Bd hd λaQ aR hd=>q_p 8 15 Z f (λ_=>r_sPart (i:=0) (j:=(i64.wrap ((aK.size:Int)-1))) underlying9 (f.e Z) (.inl ⟨Z,Z⟩) (.inr ⟨_,_,Z,f.e Z⟩) aR) λa f=>q_on 9 Z λaS w aT m aU aU=>have am:=Ow.mono RStr.mono aT am;Bd hd λaV aW hd=>Bh f Z call10 (Wk.f m aW) λaX w aY m a f=>have am:=Ow.mono RStr.mono aY am;Aa (aU aX [] _ _ aY m (AC 10 15 Z f Z λa f=>q_p 11 15 Z f (λ_=>Az (f.e Z) Z) λa f=>q_p 12 15 Z f (λ_=>Az (f.e Z) Z) λa f=>q_p 13 15 Z f (λ_=>CS (f.e Z)) λa f=>q_p 14 15 Z f (λ_=>CS (f.e Z)) λa f=>BB λaZ w a0 m=>have am:=Ow.mono RStr.mono a0 am;AI (A1 (R:=R1) (xs:=([]:LL)) (RSl.one _) m T22 f Z Z Z (by decide) (All2.nil _) λa1 a2 w a m a3 f=>Ac f Z λa f=>Aa (Ag (Ae (Ac f Z λa f=> ?_))))))
    refine Aa (Bd hd λa4 a5 hd=> ?_)
    refine AW (λa w=>∃q_239':LL,a4= .inl q_239'∧∃a6:LL,a6=q_239'∧∃(a7:GH) (a8:Value) (a9:Itm),GLe aZ a7∧Fr a 116 [(0,(.string x0)),(2,pb aa),(5,iv aV.1),(6,(.bool aV.2)),(7,a8)]∧Mem W a7 w (ib aa 24 [sn]::a9::H)∧Ow R1 34 a7 a9 a8 a6) ?_ ?_
    ·refine An (have m:=m.fr 1;have m:=m.fr 2;AN (λba a w=>∃bb:LL,∃bc:Int,(bb,bc)=ba∧∃(bd:GH) (be:Value) (bf:Itm),GLe aZ bd∧Fr a 116 [(0,(.string x0)),(2,pb aa),(4,ai),(5,iv aV.1),(6,(.bool aV.2)),(7,be),(8,iv bc)]∧Mem W bd w (ib aa 24 [sn]::aj::bf::H)∧Ow R1 34 bd bf be bb) a5 ⟨_,_,Z,_,a2,a1,gr,f.k Z,m,a3⟩ ?_)
     clear a5 f m
     rintro ba bg bh bi a w ⟨bb,bc,rfl,bd,be,bf,bj,f,m,bk⟩
     refine have am:=Ow.mono RStr.mono bj am;Ag (Ae (Ab f Z λa f=>Ab f Z λa f=>B4 1 m am Z underlying30 f Z Z λa f=>Ai f Z Z AF λa f=>Aa ?_))
     rcases Af bh with⟨bl,bh⟩|⟨bl,bh⟩
     ·refine Aj f Z bl (Ak (Ag (An (Ae (Ab f Z λa f=>Ab f Z λa f=>Bd bh λbm bn bh=>B2 1 m am Z T30 f Z Z Z bn λbo a bp f=>BR 1 m am Z Pl9 f Z Z bp bn λbq a br f=> ?_)))))
      subst br
      refine Bd bh λbs bt bh=>l_ro f Z call9 (Wk.o m bt) λbu bv bw w bx m bz a f=>have bk:=od3 bx bk;Ac f Z λa f=>Aa (Ag (Ae (Ab f Z λa f=>B4 0 m bz Z underlying30 f Z Z λa f=>Ai f Z Z BZ λa f=>Aa ?_)))
      rcases Af bh with⟨bA,bh⟩|⟨bA,bh⟩
      ·refine Aj f Z bA (Ae ?_)
       have bB:∀w,(Instr.build 24 #[]).run prog w= .ok (.agg #[sn]) w:=by intro w;simp[Instr.build,Instr.fill,A6,A2,AQ,AU,AK,A7,AY]
       refine Bo f Z Z bB λa f=>Au 1 0 (ds:=[sn]) m sizeOf24 f Z Z Z (Ax Z AB) Z (lb Z) Z λw m=>Ac f Z λa f=>Aa (Ao ?_)
       obtain⟨bC,m,bD⟩:=Ow.nil R1 34 m
       refine have bE:=Bc (P:=prog) 2 m AT f (s:=2) rfl rfl rfl;have m:=m.eraseAt 4;have m:=m.eraseAt 3;have m:=m.eraseAt 2;have m:=m.eraseAt 1;?_
       obtain rfl:=sj bh
       obtain rfl:=bi _ rfl
       obtain rfl:=sj hd
       exact⟨[(.agg #[sn]),(.bool false)],⟨bE,f.get _ _ Z,trivial⟩,f.d,_,[bC],(gt al (gt ay (gt aT (gt aY (gt a0 (gt bj bx)))))),m,_,_,Z,Z,bD⟩
      ·refine Ah f Z bA (Ak (Ae (Ab f Z λa f=>Bd bh λbF bG bh=>B2 0 m bz Z T30 f Z Z Z bG λbH a bI f=>BR 0 m bz Z Pl9 f Z Z bI bG λbJ a bK f=> ?_)))
       subst bK
       refine Bd bh λbL bM bh=>Bh f Z call10 (Wk.f m bM) λbN w bO m a f=>have bz:=Ow.mono RStr.mono bO bz;have bk:=od3 bO bk;Ab f Z λa f=>l_o f (Az (f.e Z) Z) λa f=>l_o f (Az (f.e Z) Z) λa f=>Ac f Z λa f=>Ac f Z λa f=>AI (Ab f Z λa f=>Bd bh λbP bQ bh=>B2 0 m bz Z T30 f Z Z Z bQ λbR a bS f=>BR 0 m bz Z Pl9 f Z Z bS bQ λbT a bU f=> ?_)
       subst bU
       refine Bd bh λbV bW bh=>Bh f Z call10 (Wk.f m bW) λbX w bY m a f=>have bk:=od3 bY bk;Ab f Z λa f=>l_o f (Az (f.e Z) Z) λa f=>l_o f (Az (f.e Z) Z) λa f=>Ac f Z λa f=>Ac f Z λa f=>Aa (Ag (Ae (Ab f Z λa f=>l_o f (Bf (f.e Z)) λa f=>Ab f Z λa f=> ?_)))
       refine A3 3 (λa w=>∃bZ,GLe bX bZ∧Mem W bZ w (bv::ib aa 24 [sn]::aj::bf::H)∧Fr a 116 [(0,(.string x0)),(2,pb aa),(4,ai),(5,iv aV.1),(6,(.bool aV.2)),(7,be),(8,iv bc),(9,bu),(10,iv bL.1),(11,(.bool bL.2)),(12,iv bV.1),(13,(.bool bV.2)),(83,(.bool bL.2)),(84,(.bool (!bL.2))),(85,(.bool (!bL.2))),(88,(.bool ((!bL.2)||(!bV.2))))]) ?_ ?_
       ·rcases Bool.eq_false_or_eq_true (!bL.2) with b0|b0
        ·exact Am f b0 λa f=>Am f b0 λa f=>l_o f (AD (f.e Z) b0 (f.e Z)) λa f=>⟨_,gr,m,f.weak ⟨Z,Z,Z,Z,Z,Z,Z,Z,Z,Z,Z,Z,Z,Z,Z,by rw[b0];rfl,trivial⟩⟩
        ·exact Al f b0 (Ab f Z λa f=>Al f b0 (l_o f (Bf (f.e Z)) λa f=>l_o f (AE (f.e Z) b0 (f.e Z)) λa f=>⟨_,gr,m,f.weak ⟨Z,Z,Z,Z,Z,Z,Z,Z,Z,Z,Z,Z,Z,Z,Z,by rw[b0];rfl,trivial⟩⟩))
       ·rintro a w ⟨bZ,b1,m,f⟩
        refine have bk:=od3 b1 bk;Aa ?_
        rcases Af bh with⟨b2,bh⟩|⟨b2,bh⟩
        ·refine Aj f Z b2 (Ae ?_)
         have b3:∀w,(Instr.build 24 #[]).run prog w= .ok (.agg #[sn]) w:=by intro w;simp[Instr.build,Instr.fill,A6,A2,AQ,AU,AK,A7,AY]
         refine Bo f Z Z b3 λa f=>Au 1 0 (ds:=[sn]) m sizeOf24 f Z Z Z (Ax Z AB) Z (lb Z) Z λw m=>Ac f Z λa f=>Aa (Ao ?_)
         obtain⟨b4,m,b5⟩:=Ow.nil R1 34 m
         refine have b6:=Bc (P:=prog) 2 m AT f (s:=2) rfl rfl rfl;have m:=m.eraseAt 4;have m:=m.eraseAt 3;have m:=m.eraseAt 2;have m:=m.eraseAt 1;?_
         obtain rfl:=sj bh
         obtain rfl:=bi _ rfl
         obtain rfl:=sj hd
         exact⟨[(.agg #[sn]),(.bool false)],⟨b6,f.get _ _ Z,trivial⟩,f.d,_,[b4],(gt al (gt ay (gt aT (gt aY (gt a0 (gt bj (gt bx (gt bO (gt bY b1))))))))),m,_,_,Z,Z,b5⟩
        ·refine Ah f Z b2 (Ak (Ap (Ab f Z λa f=>Ab f Z λa f=>Ab f Z λa f=>A1 (R:=R0) (xs:=([bL.1,bV.1]:LI)) (RI.one _) m T34 f Z Z Z (by decide) (All2.cons Z (All2.cons Z (All2.nil _))) λb7 b8 w a m b9 f=> ?_)))
         obtain⟨ca,cb,m,cc⟩:=Ow.stamp (RI.mono _) b9 m
         refine have bk:=od3 cb bk;A1 (R:=R1) (xs:=([([bL.1,bV.1]:LI)]:LL)) (RSl.one _) m T22 f Z Z Z (by decide) (All2.cons cc (All2.nil _)) λcd ce w a m cf f=>Bd bh λcg ch bh=>Bw (RSl.one _) 4 m bk Z T22 Z (by decide) f Z Z Z (Ow.src (j:=0) cf m Z) ch λci cj w a m ck f=>Ac f Z λa f=>Aa (Ap (Ab f Z λa f=>Ai f Z Z AJ λa f=>Ac f Z λa f=>Aa (have m:=m.fr 4;have m:=m.fr 4;have m:=m.fr 4;have m:Mem W ca w (ib aa 24 [sn]::aj::ci::cd::H):=m.eraseAt 4;have m:=m.eraseAt 3;?_)))
         obtain rfl:=sj bh
         exact⟨_,Z,_,_,Z,_,cj,ci,(gt bj (gt bx (gt bO (gt bY (gt b1 cb))))),f.k Z,m,ck⟩
     ·refine Ah f Z bl (AL Z (have m:=m.fr 2;have m:=m.fr 1;have m:=m.eraseAt 2;?_))
      obtain rfl:=sj bh
      obtain rfl:=bi _ rfl
      exact⟨_,Z,_,Z,_,be,bf,bj,f.k Z,m,bk⟩
    ·rintro a w ⟨_,rfl,a6,rfl,a7,a8,a9,cl,f,m,cm⟩
     refine Ae (Ab f Z λa f=>Ab f Z λa f=>have m:=m.fr 1;?_)
     obtain⟨cn,co,m,cp⟩:=Ow.stamp (RSl.mono (RI.mono _)) cm m
     refine Bd hd λcq cr hd=>Bs f Z call11 (Wk.q m cp cr) λct cu cv w cw m cx a f=> ?_
     obtain⟨cy,cz,rfl,rfl,cA⟩:=cx
     refine Ab f Z λa f=>l_o f (Az (f.e Z) Z) λa f=>l_o f (Az (f.e Z) Z) λa f=>Bg (cs:=[sn]) zeroValue24 m f Z Z λcB w a m f=>Au 0 0 (ds:=[cy]) m sizeOf24 f Z Z Z (Ax (Ow.one1 1 m cA Z) AB) Z (lb Z) Z λw m=>Ac f Z λa f=>Aa (Ag (Ae (Ab f Z λa f=>l_o f (Bf (f.e Z)) λa f=>Ab f Z λa f=> ?_)))
     refine A3 3 (λa w=>∃cC,GLe cu cC∧Mem W cC w (ib cB 24 [cy]::cz::ib aa 24 [sn]::H)∧Fr a 116 [(0,(.string x0)),(2,pb aa),(5,iv aV.1),(6,(.bool aV.2)),(7,a8),(14,pb cB),(15,(.bool cq.2)),(102,(.bool aV.2)),(103,(.bool (!aV.2))),(104,(.bool (!aV.2))),(107,(.bool ((!aV.2)||(!cq.2))))]) ?_ ?_
     ·rcases Bool.eq_false_or_eq_true (!aV.2) with cD|cD
      ·exact Am f cD λa f=>Am f cD λa f=>l_o f (AD (f.e Z) cD (f.e Z)) λa f=>⟨_,gr,m,f.weak ⟨Z,Z,Z,Z,Z,Z,Z,Z,Z,Z,by rw[cD];rfl,trivial⟩⟩
      ·exact Al f cD (Ab f Z λa f=>Al f cD (l_o f (Bf (f.e Z)) λa f=>l_o f (AE (f.e Z) cD (f.e Z)) λa f=>⟨_,gr,m,f.weak ⟨Z,Z,Z,Z,Z,Z,Z,Z,Z,Z,by rw[cD];rfl,trivial⟩⟩))
     ·rintro a w ⟨cC,cE,m,f⟩
      refine have cA:=od3 cE cA;Ab f Z λa f=>Bd hd λcF cG hd=> ?_
      refine A3 5 (λa w=>∃cH,GLe cC cH∧Mem W cH w (ib cB 24 [cy]::cz::ib aa 24 [sn]::H)∧Fr a 116 [(0,(.string x0)),(2,pb aa),(5,iv aV.1),(6,(.bool aV.2)),(7,a8),(14,pb cB),(15,(.bool cq.2)),(102,(.bool aV.2)),(103,(.bool (!aV.2))),(104,(.bool (!aV.2))),(107,(.bool ((!aV.2)||(!cq.2)))),(108,(.bool ((!aV.2)||(!cq.2)))),(113,(.bool cF))]) ?_ ?_
      ·rcases Af cG with⟨cI,cG⟩|⟨cI,cG⟩
       ·refine Am f cI λa f=>Am f cI λa f=>Am f cI λa f=>Am f cI λa f=>l_o f (AD (f.e Z) cI (f.e Z)) λa f=> ?_
        obtain rfl:=sj cG
        exact⟨_,gr,m,f.k Z⟩
       ·refine Al f cI (AR 0 0 (ds:=[cy]) m AT f Z Z Z Z Z λa f=>Al f cI (Bd cG λcJ cK cG=>Bs f Z call12 (Ow.lendCall (RSl.mono (RI.mono _)) 1 cA m Z (λcL cM m cN=>Wk.X m cN cK) (λ_ _ _ _ h=>h)) λcO cP cQ w cR m cS a f=> ?_))
        obtain⟨rfl,rfl⟩:=cS
        refine Al f cI (Ab f Z λa f=>Al f cI (l_o f (r_sNeq (f.e Z) (f.e Z)) λa f=>l_o f (AE (f.e Z) cI (f.e Z)) λa f=> ?_))
        obtain rfl:=sj cG
        exact⟨_,cR,m,f.k Z⟩
      ·rintro a w ⟨cH,cT,m,f⟩
       refine have cA:=od3 cT cA;Aa ?_
       rcases Af hd with⟨cU,hd⟩|⟨cU,hd⟩
       ·refine Aj f Z cU (Ae ?_)
        have cV:∀w,(Instr.build 24 #[]).run prog w= .ok (.agg #[sn]) w:=by intro w;simp[Instr.build,Instr.fill,A6,A2,AQ,AU,AK,A7,AY]
        refine Bo f Z Z cV λa f=>Au 2 0 (ds:=[sn]) m sizeOf24 f Z Z Z (Ax Z AB) Z (lb Z) Z λw m=>Ac f Z λa f=>Aa (Ao ?_)
        obtain⟨cW,m,cX⟩:=Ow.nil R1 34 m
        refine have cY:=Bc (P:=prog) 3 m AT f (s:=2) rfl rfl rfl;have m:=m.fr 2;have m:=m.fr 1;have m:=m.eraseAt 3;have m:Mem W cH w (cW::cz::H):=m.eraseAt 2;have m:=m.eraseAt 1;?_
        obtain rfl:=sj hd
        exact⟨[(.agg #[sn]),(.bool false)],⟨cY,f.get _ _ Z,trivial⟩,f.d,_,[cW],(gt al (gt ay (gt aT (gt aY (gt a0 (gt cl (gt co (gt cw (gt cE cT))))))))),m,_,_,Z,Z,cX⟩
       ·refine Ah f Z cU (Ak (Ae (AR 0 0 (ds:=[cy]) m AT f Z Z Z Z Z λa f=>Au 2 0 (ds:=[cy]) m sizeOf24 f Z Z Z (Ax (Ow.one1 1 m cA Z) AB) Z (lb Z) Z λw m=>Ac f Z λa f=>Aa (Ao (have cZ:=Bc (P:=prog) 2 m AT f (s:=2) rfl rfl rfl;have m:=m.fr 1;have m:=m.eraseAt 2;have m:=m.eraseAt 1;?_)))))
        obtain rfl:=sj hd
        exact⟨[(.agg #[cy]),(.bool true)],⟨cZ,f.get _ _ Z,trivial⟩,f.d,_,[cz],(gt al (gt ay (gt aT (gt aY (gt a0 (gt cl (gt co (gt cw (gt cE cT))))))))),m,_,_,Z,Z,cA⟩
  ·intro c0
   rcases Af aw with⟨c1,aw⟩|⟨c1,aw⟩
   ·refine Bt 6 17 Z f c1 λa f=>Bt 7 17 Z f c1 λa f=>Bt 8 17 Z f c1 λa f=>Bt 9 17 Z f c1 λa f=>Bt 10 17 Z f c1 λa f=>Bt 11 17 Z f c1 λa f=>Bt 12 17 Z f c1 λa f=>Bt 13 17 Z f c1 λa f=>Bt 14 17 Z f c1 λa f=>Bt 15 17 Z f c1 λa f=>q_p 16 17 Z f (λ_=>AD (f.e Z) c1 (f.e Z)) λa f=> ?_
    obtain rfl:=sj aw
    exact c0 _ (f.k Z)
   ·refine AC (hw:=wo f c1) 6 17 Z f Z λa f=>Bd aw λc2 c3 aw=>B3 (hw:=wo f c1) 7 17 0 m am T30 c3 Z f Z Z λc4 a c5 f=>q_ol (hw:=wo f c1) 8 17 0 am Pl9 c5 c3 Z f Z λc6 a c7 f=> ?_
    subst c7
    refine AC (hw:=wo f c1) 9 17 Z f Z λa f=>Bd aw λc8 c9 aw=>B3 (hw:=wo f c1) 10 17 0 m am T30 c9 Z f Z Z λda a db f=>q_ol (hw:=wo f c1) 11 17 0 am Pl9 db c9 Z f Z λdc a dd f=> ?_
    subst dd
    refine q_p (hw:=wo f c1) 12 17 Z f (λ_=>Bu (f.e Z) underlying9) λa f=>q_p (hw:=wo f c1) 13 17 Z f (λ_=>BY (f.e Z) (f.e Z) CH) λa f=>Bd aw λde df aw=>q_p (hw:=wo f c1) 14 17 Z f (λ_=>Cv (f.e Z) (f.e Z) underlying9 df) λa f=>q_p (hw:=wo f c1) 15 17 Z f (λ_=>BY (f.e Z) (f.e Z) BZ) λa f=>q_p 16 17 Z f (λ_=>AE (f.e Z) c1 (f.e Z)) λa f=> ?_
    obtain rfl:=sj aw
    exact c0 _ (f.k Z)
theorem Wk.e {x0:ByteArray}(hW:TxtW W)(m:Mem W G w (H)){y:Int×Bool}(hd:D.e x0=some y):
  Calls prog 14 #[(.string x0)] w (Res W G H (λ_ Ho v=>Ho=[]∧v= .tuple #[iv y.1,(.bool y.2)])):=by
 refine Aw (args:=[(.string x0)]) (N:=28) [.tmp 2,.tmp 3] func14 Z Z (lb Z) Z λa f=> ?_
 unfold D.e at hd
 refine Ae (Ac f Z λa f=>Ac f Z λa f=>Aa (Ag (Ae (Ab f Z λa f=>l_o f (Bu (f.e Z) underlying9) λa f=>Ai f Z Z AF λa f=>Ab f Z λa f=> ?_))))
 refine A3 4 (λa w=>∃aa,GLe G aa∧Mem W aa w (H)∧Fr a 28 [(0,(.string x0)),(6,(.string x0)),(7,(iv (x0.size:Int))),(8,(.bool (decide ((x0.size:Int)<1)))),(9,(.bool (decide ((x0.size:Int)<1)))),(13,(.bool ((decide ((x0.size:Int)<1))||(decide ((9:Int)<(x0.size:Int))))))]) ?_ ?_
 ·rcases Bool.eq_false_or_eq_true (decide ((x0.size:Int)<1)) with ab|ab
  ·exact Am f ab λa f=>Am f ab λa f=>Am f ab λa f=>l_o f (AD (f.e Z) ab (f.e Z)) λa f=>⟨_,gr,m,f.weak ⟨Z,Z,Z,Z,Z,by rw[ab];rfl,trivial⟩⟩
  ·exact Al f ab (Ab f Z λa f=>Al f ab (l_o f (Bu (f.e Z) underlying9) λa f=>Al f ab (Ai f Z Z BO λa f=>l_o f (AE (f.e Z) ab (f.e Z)) λa f=>⟨_,gr,m,f.weak ⟨Z,Z,Z,Z,Z,by rw[ab];rfl,trivial⟩⟩)))
 ·rintro a w ⟨aa,ac,m,f⟩
  refine Aa ?_
  rcases Af hd with⟨ad,hd⟩|⟨ad,hd⟩
  ·refine Aj f Z ad (Ae (Ac f Z λa f=>Ac f Z λa f=>Aa (Ao ?_)))
   obtain rfl:=sj hd
   exact⟨[iv 0,(.bool false)],⟨f.get _ _ Z,f.get _ _ Z,trivial⟩,f.d,_,[],ac,m,Z,Z⟩
  ·refine Ah f Z ad (Ak (Ae (Ab f Z λa f=>Bd hd λae af hd=>Bs f Z call30 (Wk.d hW m af) λag ah ai w aj m ak a f=> ?_)))
   obtain⟨rfl,al,rfl,rfl,am⟩:=ak
   refine Ab f Z λa f=>l_o f (Az (f.e Z) Z) λa f=>l_o f (Az (f.e Z) Z) λa f=>Ac f Z λa f=>Ac f Z λa f=>Aa (Ag (Ae (Ab f Z λa f=>l_o f (r_erNeq (f.e Z) Z am underlying51) λa f=>Ab f Z λa f=>Bd hd λan ao hd=> ?_)))
   refine A3 5 (λa w=>∃ap,GLe aa ap∧Mem W ap w (H)∧Fr a 28 [(0,(.string x0)),(4,iv ae.1),(5,al),(19,al),(20,(.bool ae.2)),(21,(.bool ae.2)),(26,(.bool an))]) ?_ ?_
   ·rcases Af ao with⟨aq,ao⟩|⟨aq,ao⟩
    ·refine Am f aq λa f=>Am f aq λa f=>Am f aq λa f=>Am f aq λa f=>l_o f (AD (f.e Z) aq (f.e Z)) λa f=> ?_
     obtain rfl:=sj ao
     exact⟨_,gr,m,f.k Z⟩
    ·refine Al f aq (Ab f Z λa f=>Al f aq (Bd ao λar au ao=>Bh f Z call31 (Wk.c hW m au) λav w aw m a f=>Al f aq (Ab f Z λa f=>Al f aq (l_o f (r_sNeq (f.e Z) (f.e Z)) λa f=>l_o f (AE (f.e Z) aq (f.e Z)) λa f=> ?_))))
     obtain rfl:=sj ao
     exact⟨_,aw,m,f.k Z⟩
   ·rintro a w ⟨ap,ax,m,f⟩
    refine Aa ?_
    rcases Af hd with⟨ay,hd⟩|⟨ay,hd⟩
    ·refine Aj f Z ay (Ae (Ac f Z λa f=>Ac f Z λa f=>Aa (Ao ?_)))
     obtain rfl:=sj hd
     exact⟨[iv 0,(.bool false)],⟨f.get _ _ Z,f.get _ _ Z,trivial⟩,f.d,_,[],(gt ac ax),m,Z,Z⟩
    ·refine Ah f Z ay (Ak (Ae (Ab f Z λa f=>Ac f Z λa f=>Ac f Z λa f=>Aa (Ao ?_))))
     obtain rfl:=sj hd
     exact⟨[iv ae.1,(.bool true)],⟨f.get _ _ Z,f.get _ _ Z,trivial⟩,f.d,_,[],(gt ac ax),m,Z,Z⟩
theorem Wk.A {x0 x1 x2:Int}(m:Mem W G w (H)){y:Bool}(hd:D.A x0 x1 x2=some y):
  Calls prog 33 #[iv x0,iv x1,iv x2] w (Res W G H (λ_ Ho v=>Ho=[]∧v=(.bool y))):=by
 refine Aw (args:=[iv x0,iv x1,iv x2]) (N:=15) [.tmp 6] func33 Z Z (lb Z) Z λa f=> ?_
 unfold D.A at hd
 refine Ae (Ac f Z λa f=>AI (Ab f Z λa f=>Ab f Z λa f=>Ai f Z Z b_leq λa f=>Ab f Z λa f=> ?_))
 refine A3 4 (λa w=>∃aa,GLe G aa∧Mem W aa w (H)∧Fr a 15 [(0,iv x0),(1,iv x1),(2,iv x2),(7,iv x1),(8,iv x0),(9,(.bool (decide (x1≤x0)))),(10,(.bool (decide (x1≤x0)))),(14,(.bool ((decide (x1≤x0))&&(decide (x0≤x2)))))]) ?_ ?_
 ·rcases Bool.eq_false_or_eq_true (decide (x1≤x0)) with ab|ab
  ·exact Al f ab (Ab f Z λa f=>Al f ab (Ab f Z λa f=>Al f ab (Ai f Z Z b_leq λa f=>l_o f (AD (f.e Z) ab (f.e Z)) λa f=>⟨_,gr,m,f.weak ⟨Z,Z,Z,Z,Z,Z,Z,by rw[ab];rfl,trivial⟩⟩)))
  ·exact Am f ab λa f=>Am f ab λa f=>Am f ab λa f=>l_o f (AE (f.e Z) ab (f.e Z)) λa f=>⟨_,gr,m,f.weak ⟨Z,Z,Z,Z,Z,Z,Z,by rw[ab];rfl,trivial⟩⟩
 ·rintro a w ⟨aa,ac,m,f⟩
  refine Ac f Z λa f=>Aa (Ao ?_)
  obtain rfl:=sj hd
  exact⟨[(.bool ((decide (x1≤x0))&&(decide (x0≤x2))))],f.g Z,f.d,_,[],ac,m,Z,Z⟩
theorem Wk.Q {v0:Value}{x0:LI}{x1:Int}(m:Mem W G w (H))(h0:R1 G v0 x0){y:Bool}(hd:D.Q x0 x1=some y):
  Calls prog 34 #[v0,iv x1] w (Res W G H (λ_ Ho v=>Ho=[]∧v=(.bool y))):=by
 refine Aw (args:=[v0,iv x1]) (N:=33) [.tmp 4] func34 Z Z (lb Z) Z λa f=> ?_
 unfold D.Q at hd
 refine Ae (Ac f Z λa f=>Aa (Ag (Ae (Ab f Z λa f=>AZ underlying34 f Z Z h0 λa f=>Ab f Z λa f=>Aa (Bd hd λaa ab hd=> ?_)))))
 refine AW (λa w=>∃q_181':Unit,aa= .inl q_181'∧∃(ac:GH),GLe G ac∧Fr a 33 []∧Mem W ac w (H)) ?_ ?_
 ·refine An (AN (λad a w=>∃ae:Int,ae=ad∧∃(af:GH),GLe G af∧Fr a 33 [(0,v0),(1,iv x1),(7,v0),(8,(iv (x0.length:Int))),(9,iv ae)]∧Mem W af w (H)) ab ⟨_,Z,_,gr,f.k Z,m⟩ ?_)
  clear ab f m
  rintro ad ag ah ai a w ⟨ae,rfl,af,aj,f,m⟩
  refine have h0:=rd1 aj h0;Ae (Ai f Z Z AF λa f=>Aa (Ag ?_))
  rcases Af ah with⟨ak,ah⟩|⟨ak,ah⟩
  ·refine Aj f Z ak (Ak (Ag (An (Ae (Ab f Z λa f=>Bd ah λal am ah=>Bx T34 f Z Z Z h0 am λan ao a ap aq f=> ?_)))))
   subst aq
   refine AM m Pl2 f Z Z ap λa f=>Ac f Z λa f=>Ac f Z λa f=>AI (Ab f Z λa f=>Ab f Z λa f=>Ai f Z Z CH λa f=>Bd ah λar au ah=>Bh f Z call33 (Wk.A m au) λav w aw m a f=>have h0:=rd1 aw h0;l_o f (Bf (f.e Z)) λa f=>Ab f Z λa f=>Bd ah λax ay ah=> ?_)
   refine A3 12 (λa w=>∃az,GLe av az∧Mem W az w (H)∧Fr a 33 [(0,v0),(1,iv x1),(5,iv ae),(6,iv al),(7,v0),(8,(iv (x0.length:Int))),(9,iv ae),(14,iv al),(15,iv x1),(16,(iv (i64.wrap (x1-1)))),(17,(.bool ar)),(18,(.bool (!ar))),(19,(.bool (!ar))),(31,(.bool ax))]) ?_ ?_
   ·rcases Af ay with⟨aA,ay⟩|⟨aA,ay⟩
    ·refine Am f aA λa f=>Am f aA λa f=>Am f aA λa f=>BV f Z Z Z λa f=>BV f Z Z Z λa f=>BV f Z Z Z λa f=>BV f Z Z Z λa f=>BV f Z Z Z λa f=>BV f Z Z Z λa f=>BV f Z Z Z λa f=>Am f aA λa f=>l_o f (AD (f.e Z) aA (f.e Z)) λa f=> ?_
     obtain rfl:=sj ay
     exact⟨_,gr,m,f.k Z⟩
    ·refine Al f aA (Ab f Z λa f=>Al f aA (Ai f Z Z BO λa f=>Al f aA (Ab f Z λa f=>Bd ay λaB aC ay=> ?_)))
     refine A3 8 (λa w=>∃aD,GLe av aD∧Mem W aD w (H)∧Fr a 33 [(0,v0),(1,iv x1),(5,iv ae),(6,iv al),(7,v0),(8,(iv (x0.length:Int))),(9,iv ae),(14,iv al),(15,iv x1),(16,(iv (i64.wrap (x1-1)))),(17,(.bool ar)),(18,(.bool (!ar))),(19,(.bool (!ar))),(20,iv ae),(21,(.bool (decide ((0:Int)<ae)))),(22,(.bool (decide ((0:Int)<ae)))),(30,(.bool aB))]) ?_ ?_
     ·rcases Af aC with⟨aE,aC⟩|⟨aE,aC⟩
      ·refine Al f aE (Ab f Z λa f=>Al f aE (Ab f Z λa f=>Al f aE (Ai f Z Z CH λa f=>Al f aE (Bd aC λaF aG aC=>Bx T34 f Z Z Z h0 aG λaH aI a aJ aK f=> ?_))))
       subst aK
       refine Al f aE (AM m Pl2 f Z Z aJ λa f=>Al f aE (Ab f Z λa f=>Al f aE (Ai f Z Z b_geq λa f=>Al f aA (l_o f (AD (f.e Z) aE (f.e Z)) λa f=> ?_))))
       obtain rfl:=sj aC
       exact⟨_,gr,m,f.k Z⟩
      ·refine Am f aE λa f=>Am f aE λa f=>Am f aE λa f=>Am f aE λa f=>Am f aE λa f=>Am f aE λa f=>Am f aE λa f=>Al f aA (l_o f (AE (f.e Z) aE (f.e Z)) λa f=> ?_)
       obtain rfl:=sj aC
       exact⟨_,gr,m,f.k Z⟩
     ·rintro a w ⟨aD,aL,m,f⟩
      refine l_o f (AE (f.e Z) aA (f.e Z)) λa f=> ?_
      obtain rfl:=sj ay
      exact⟨_,aL,m,f.k Z⟩
   ·rintro a w ⟨az,aM,m,f⟩
    refine Aa ?_
    rcases Af ah with⟨aN,ah⟩|⟨aN,ah⟩
    ·refine Aj f Z aN (Ae (Ac f Z λa f=>Aa (Ao ?_)))
     obtain rfl:=sj ah
     obtain rfl:=ai _ rfl
     obtain rfl:=sj hd
     exact⟨[(.bool false)],f.g Z,f.d,_,[],(gt aj (gt aw aM)),m,Z,Z⟩
    ·refine Ah f Z aN (Ak (Ap (Ai f Z Z AJ λa f=>Ab f Z λa f=>Aa ?_)))
     obtain rfl:=sj ah
     exact⟨_,Z,_,Z,_,(gt aj (gt aw aM)),f.k Z,m⟩
  ·refine Ah f Z ak (AL Z ?_)
   obtain rfl:=sj ah
   obtain rfl:=ai _ rfl
   exact⟨_,Z,_,aj,f.weak trivial,m⟩
 ·rintro a w ⟨_,rfl,ac,aO,f,m⟩
  refine Ae (Ac f Z λa f=>Aa (Ao ?_))
  obtain rfl:=sj hd
  exact⟨[(.bool true)],f.g Z,f.d,_,[],aO,m,Z,Z⟩
theorem Wk.m {x0:Int}(m:Mem W G w (H)){y:Int}(hd:D.m x0=some y):
  Calls prog 53 #[iv x0] w (Res W G H (λ_ Ho v=>Ho=[]∧v=(.int .u32 y))):=by
 refine Aw (args:=[iv x0]) (N:=5) [.tmp 2] func53 Z Z (lb Z) Z λa f=> ?_
 unfold D.m at hd
 refine Ae (Ac f Z λa f=>AI (Ab f Z λa f=> ?_))
 obtain⟨aa,hd⟩:=cond_none hd
 refine l_o f (r_shl (f.e Z) (f.e Z) aa) λa f=>Ac f Z λa f=>Aa (Ao ?_)
 obtain rfl:=sj hd
 exact⟨[(.int .u32 (ishl .u32 1 x0))],f.g Z,f.d,_,[],gr,m,Z,Z⟩
theorem Wk.R {v0:Value}{it0:Itm}{x0:LI}{x1 x2:Int}(m:Mem W G w (it0::H))(o0:Ow (RI .u32) 76 G it0 v0 x0){y:(LI)}(hd:D.R x0 x1 x2=some y):
  Calls prog 35 #[v0,iv x1,iv x2] w (Res W G H (λG' Ho _=>∃i0:Itm,Ho=[i0]∧Ow (RI .u32) 76 G' i0 v0 y)):=by
 refine Aw (args:=[v0,iv x1,iv x2]) (N:=22) [] func35 Z Z (lb Z) Z λa f=> ?_
 unfold D.R at hd
 refine Ag (Bq 8 Bk (by kernel_rfl) m (AC 0 8 Z f Z λa f=>AC 1 8 Z f Z λa f=>Bd hd λaa ab hd=>B3 2 8 0 m o0 T57 ab Z f Z Z λac a ad f=>q_ol 3 8 0 o0 Pl76 ad ab Z f Z λae a af f=> ?_))
 subst af
 refine AC 4 8 Z f Z λa f=>Bd hd λag ah hd=>Ca (i:=5) 8 Z (by kernel_rfl) Z f Z Z Z call53 (λ_ _ w ai m=>Wk.m m ah) λa f=>q_p 6 8 Z f (λ_=>BY (f.e Z) (f.e Z) b_or) λa f=>Bd hd λaj ak hd=>B3 7 8 0 m o0 T57 ak Z f Z Z λal a am f=>BB λan w ao m=>have o0:=od1 ao o0;BW 0 m o0 Z sizeOf76 f Z Z am ak Z Z Z λap w m aq=>Aa (Bq 8 Bk (by kernel_rfl) m (AC 0 8 Z f Z λa f=>AC 1 8 Z f Z λa f=>Bd hd λar au hd=>B3 2 8 0 m aq T57 au Z f Z Z λav a aw f=>q_ol 3 8 0 aq Pl76 aw au Z f Z λax a ay f=> ?_))
 subst ay
 refine AC 4 8 Z f Z λa f=>Bd hd λaz aA hd=>Ca (i:=5) 8 Z (by kernel_rfl) Z f Z Z Z call53 (λ_ _ w aB m=>Wk.m m aA) λa f=>q_p 6 8 Z f (λ_=>BY (f.e Z) (f.e Z) b_or) λa f=>Bd hd λaC aD hd=>B3 7 8 0 m aq T57 aD Z f Z Z λaE a aF f=>BB λaG w aH m=>have aq:=od1 aH aq;BW 0 m aq Z sizeOf76 f Z Z aF aD Z Z Z λaI w m aJ=>Aa ?_
 obtain rfl:=sj hd
 exact⟨[],trivial,f.d,_,[aI],(gt ao aH),m,_,Z,aJ⟩
theorem Wk.E {x0:Int}(hW:TxtW W)(m:Mem W G w (H)){y:Int}(hd:D.E x0=some y):
  Calls prog 89 #[(.int .u32 x0)] w (Res W G H (λ_ Ho v=>Ho=[]∧v=(iv y))):=by
 refine Aw (args:=[(.int .u32 x0)]) (N:=5) [.tmp 2] func89 Z Z (lb Z) Z λa f=> ?_
 unfold D.E at hd
 refine Ae (Ac f Z λa f=>AI (Ab f Z λa f=>Bd hd λaa ab hd=>Bh f Z call90 (Wk.b0 hW m ab) λac w ad m a f=>Ac f Z λa f=>Aa (Ao ?_)))
 obtain rfl:=sj hd
 exact⟨[iv aa],f.g Z,f.d,_,[],ad,m,Z,Z⟩
end Go.Proofs.YtgkgmdnjnjliiaaDoor

set_option maxRecDepth 100000
namespace Go.Proofs.YtgkgmdnjnjliiaaDoor
open Go Go.Sx
open Go.Proofs.Tryd Go.Proofs.YtgkgmdnjnjliiaaDoor.Tryd IntKind
variable {W w : World} {G : GH} {H : List Itm}
theorem T100 :SlT prog 100 3 1 8 (iv 0):=⟨underlying100,Tryd.t3,by kernel_rfl,by kernel_rfl,by kernel_rfl,by kernel_rfl⟩
theorem Pl3 :Br prog 3:=isAgg3
theorem Wk.v {x0:Int}(hW:TxtW W)(m:Mem W G w (H)){y:(LI)}(hd:D.v x0=some y):
  Calls prog 75 #[(.int .u32 x0)] w (Res W G H (λG' Ho v=>∃r0:Value,∃i0:Itm,Ho=[i0]∧r0=v∧Ow R0 3 G' i0 r0 y)):=by
 refine Aw (args:=[(.int .u32 x0)]) (N:=17) [.tmp 2] func75 Z Z (lb Z) Z λa f=> ?_
 unfold D.v at hd
 refine Ae (Ac f Z λa f=>AI (A1 (R:=R0) (xs:=([]:LI)) (RI.one _) m T100 f Z Z Z (by decide) (All2.nil _) λaa ab w a m ac f=>Ac f Z λa f=>Aa (Ag (Bd hd λad ae hd=> ?_))))
 refine AW (λa w=>∃af:LI,af=ad∧∃(ag:GH) (ah:Value) (ai:Itm),GLe G ag∧Fr a 17 [(3,ah)]∧Mem W ag w (ai::H)∧Ow R0 3 ag ai ah af) ?_ ?_
 ·refine An (AN (λaj a w=>∃ak:Int,∃al:LI,(ak,al)=aj∧∃(am:GH) (an:Value) (ao:Itm),GLe G am∧Fr a 17 [(0,(.int .u32 ak)),(3,an)]∧Mem W am w (ao::H)∧Ow R0 3 am ao an al) ae ⟨_,_,Z,_,ab,aa,gr,f.k Z,m,ac⟩ ?_)
  clear ae f m
  rintro aj ap aq ar a w ⟨ak,al,rfl,am,an,ao,au,f,m,av⟩
  refine Ag (Ae (Ab f Z λa f=>Ai f Z Z BZ λa f=>Aa ?_))
  rcases Af aq with⟨aw,aq⟩|⟨aw,aq⟩
  ·refine Aj f Z aw (Ak (Ag (An (Ap (Ab f Z λa f=>Ab f Z λa f=>Bd aq λax ay aq=>Bh f Z call89 (Wk.E hW m ay) λaz w aA m a f=>have av:=od1 aA av;A1 (R:=R0) (xs:=([ax]:LI)) (RI.one _) m T100 f Z Z Z (by decide) (All2.cons Z (All2.nil _)) λaB aC w a m aD f=>Bd aq λaE aF aq=>Bw (RI.one _) 1 m av Z T100 Z (by decide) f Z Z Z (Ow.src (j:=0) aD m Z) aF λaG aH w a m aI f=>Ac f Z λa f=>Aa (Ap (Ab f Z λa f=>Ab f Z λa f=>Ai f Z Z CH λa f=>Ai f Z Z b_and λa f=>Ac f Z λa f=>Aa (have m:=m.fr 1;have m:=m.eraseAt 1;?_))))))))
   obtain rfl:=sj aq
   exact⟨_,Z,_,_,Z,_,aH,aG,(gt au aA),f.k Z,m,aI⟩
  ·refine Ah f Z aw (AL Z ?_)
   obtain rfl:=sj aq
   obtain rfl:=ar _ rfl
   exact⟨_,Z,_,an,ao,au,f.k Z,m,av⟩
 ·rintro a w ⟨af,rfl,ag,ah,ai,aJ,f,m,aK⟩
  refine Ae (Ab f Z λa f=>Ac f Z λa f=>Aa (Ao ?_))
  obtain rfl:=sj hd
  exact⟨[ah],f.g Z,f.d,_,[ai],aJ,m,_,_,Z,Z,aK⟩
theorem Wk.T {v0:Value}{x0:LI}(m:Mem W G w (H))(h0:R1 G v0 x0){y:(LI)}(hd:D.T x0=some y):
  Calls prog 74 #[v0] w (Res W G H (λG' Ho v=>∃r0:Value,∃i0:Itm,Ho=[i0]∧r0=v∧Ow R0 2 G' i0 r0 y)):=by
 refine Aw (args:=[v0]) (N:=21) [.tmp 2] func74 Z Z (lb Z) Z λa f=> ?_
 unfold D.T at hd
 refine Ae (Ac f Z λa f=>AI (Ab f Z λa f=>AZ underlying100 f Z Z h0 λa f=>Bd hd λaa ab hd=>l_make (R:=R0) m T34 Z (by decide) Z f Z Z Z ab λac ad w a m ae f=>Ac f Z λa f=>Aa (Ag (Ae (Ab f Z λa f=>AZ underlying100 f Z Z h0 λa f=>Ab f Z λa f=>Aa (Bd hd λaf ag hd=> ?_))))))
 refine AW (λa w=>∃ah:LI,ah=af∧∃(ai:GH) (aj:Value) (ak:Itm),GLe G ai∧Fr a 21 [(3,aj)]∧Mem W ai w (ak::H)∧Ow R0 2 ai ak aj ah) ?_ ?_
 ·refine An (AN (λal a w=>∃am:LI,∃an:Int,(am,an)=al∧∃(ao:GH) (ap:Value) (aq:Itm),GLe G ao∧Fr a 21 [(3,ap),(9,v0),(10,(iv (x0.length:Int))),(11,iv an)]∧Mem W ao w (aq::H)∧Ow R0 2 ao aq ap am) ag ⟨_,_,Z,_,ad,ac,gr,f.k Z,m,ae⟩ ?_)
  clear ag f m
  rintro al ar au av a w ⟨am,an,rfl,ao,ap,aq,aw,f,m,ax⟩
  refine have h0:=rd1 aw h0;Ae (Ai f Z Z AF λa f=>Aa (Ag ?_))
  rcases Af au with⟨ay,au⟩|⟨ay,au⟩
  ·refine Aj f Z ay (Ak (Ag (An (Ae (Bd au λaz aA au=>Bx T100 f Z Z Z h0 aA λaB aC a aD aE f=> ?_)))))
   subst aE
   refine AM m Pl3 f Z Z aD λa f=>Ac f Z λa f=>Aa (Ap (Ab f Z λa f=>Ab f Z λa f=>A1 (R:=R0) (xs:=([az]:LI)) (RI.one _) m T34 f Z Z Z (by decide) (All2.cons Z (All2.nil _)) λaF aG w a m aH f=>Bd au λaI aJ au=>Bw (RI.one _) 1 m ax Z T34 Z (by decide) f Z Z Z (Ow.src (j:=0) aH m Z) aJ λaK aL w a m aM f=>Ac f Z λa f=>Aa (Ap (Ai f Z Z AJ λa f=>Ab f Z λa f=>Aa (have m:=m.fr 1;have m:=m.eraseAt 1;?_)))))
   obtain rfl:=sj au
   exact⟨_,Z,_,_,Z,_,aL,aK,aw,f.k Z,m,aM⟩
  ·refine Ah f Z ay (AL Z ?_)
   obtain rfl:=sj au
   obtain rfl:=av _ rfl
   exact⟨_,Z,_,ap,aq,aw,f.k Z,m,ax⟩
 ·rintro a w ⟨ah,rfl,ai,aj,ak,aN,f,m,aO⟩
  refine Ae (Ab f Z λa f=>Ac f Z λa f=>Aa (Ao ?_))
  obtain rfl:=sj hd
  exact⟨[aj],f.g Z,f.d,_,[ak],aN,m,_,_,Z,Z,aO⟩
theorem Wk.F {x0:Int}(hW:TxtW W)(m:Mem W G w (H)){y:(LI)}(hd:D.F x0=some y):
  Calls prog 54 #[(.int .u32 x0)] w (Res W G H (λG' Ho v=>∃r0:Value,∃i0:Itm,Ho=[i0]∧r0=v∧Ow R0 2 G' i0 r0 y)):=by
 refine Aw (args:=[(.int .u32 x0)]) (N:=6) [.tmp 2] func54 Z Z (lb Z) Z λa f=> ?_
 unfold D.F at hd
 refine Ae (Ac f Z λa f=>AI (Ab f Z λa f=>Bd hd λaa ab hd=>l_ro f Z call75 (Wk.v hW m ab) λac ad ae w af m ag a f=>Bd hd λah ai hd=>l_ro f Z call74 (Ow.lendCall (RI.mono _) 0 ag m Z (λaj ak m al=>Wk.T m al ai) (λ_ G' _ _ ⟨a0,a1,e1,e2,o0⟩=>⟨a0,a1,e1,e2,Ow.free (RI.free _) G' o0⟩)) λam an ao w ap m aq a f=>Ac f Z λa f=>Aa (Ao (have m:=m.eraseAt 1;?_))))
 obtain rfl:=sj hd
 exact⟨[am],f.g Z,f.d,_,[an],(gt af ap),m,_,_,Z,Z,aq⟩
theorem Wk.N {v0:Value}{x0:LI}(hW:TxtW W)(m:Mem W G w (H))(h0:RSl (RI .u32) G v0 x0){y:(LL)}(hd:D.N x0=some y):
  Calls prog 36 #[v0] w (Res W G H (λG' Ho v=>∃r0:Value,∃i0:Itm,Ho=[i0]∧v=(.agg #[r0])∧Ow2 R0 34 2 G' i0 r0 y)):=by
 refine Aw (args:=[v0]) (N:=22) [.cell 2 24] func36 Z Z (lb Z) Z λa f=> ?_
 unfold D.N at hd
 refine Ae (Bg (cs:=[sn]) zeroValue24 m f Z Z λaa w a m f=>AI ?_)
 have ab:∀w,(Instr.build 24 #[]).run prog w= .ok (.agg #[sn]) w:=by intro w;simp[Instr.build,Instr.fill,A6,A2,AQ,AU,AK,A7,AY]
 refine Bo f Z Z ab λa f=>Bg (cs:=[sn]) zeroValue24 m f Z Z λac w a m f=>Au 0 0 (ds:=[sn]) m sizeOf24 f Z Z Z (Ax Z AB) Z (lb Z) Z λw m=>Aa (Ag (Ae (Ab f Z λa f=>AZ underlying57 f Z Z h0 λa f=>Ab f Z λa f=>Aa ?_)))
 obtain⟨ad,m,ae⟩:=Ow2.nil R0 34 2 m
 have⟨af,ag,hd⟩:=bind_some hd
 refine AW (λa w=>∃ah:LL,ah=af∧∃(ai:GH) (aj:Value) (ak:Itm),GLe G ai∧Fr a 22 [(2,pb aa),(3,pb ac)]∧Mem W ai w (ib aa 24 [sn]::ib ac 24 [aj]::ak::H)∧Ow2 R0 34 2 ai ak aj ah) ?_ ?_
 ·refine An (have m:=m.fr 1;have m:=m.fr 2;AN (λal a w=>∃am:Int,∃an:LL,(am,an)=al∧∃(ao:GH) (ap:Value) (aq:Itm),GLe G ao∧Fr a 22 [(2,pb aa),(3,pb ac),(7,v0),(8,(iv (x0.length:Int))),(9,iv am)]∧Mem W ao w (ib aa 24 [sn]::ib ac 24 [ap]::aq::H)∧Ow2 R0 34 2 ao aq ap an) ag ⟨_,_,Z,_,sn,ad,gr,f.k Z,m,ae⟩ ?_)
  clear ag f m
  rintro al ar au av a w ⟨am,an,rfl,ao,ap,aq,aw,f,m,ax⟩
  refine have h0:=rd1 aw h0;Ae (Ai f Z Z AF λa f=>Aa (Ag ?_))
  rcases Af au with⟨ay,au⟩|⟨ay,au⟩
  ·refine Aj f Z ay (Ak (Ag (An (Ae (Bd au λaz aA au=>Bx T57 f Z Z Z h0 aA λaB aC a aD aE f=> ?_)))))
   subst aE
   refine AM m Pl76 f Z Z aD λa f=>Ac f Z λa f=>Aa (Bq 5 Bk (by kernel_rfl) m (q_fa 0 5 underlying24 Z sizeOf22 Z f Z λa f=>q_bc 1 5 1 BA Z Z Z f Z λa f=>AC 2 5 Z f Z λa f=>q_on 3 Z λaF w aG m aH aH=>have ax:=od2 aG ax;Bd au λaI aJ au=>l_ro f Z call54 (Wk.F hW m aJ) λaK aL aM w aN m aO a f=>have ax:=od2 aN ax;Aa (aH aM [aL] _ _ aN m (q_on 4 Z λaP w aQ m aR aR=>have aO:=od1 aQ aO;have ax:=od2 aQ ax;A1 (R:=RawS) (xs:=[aK]) RawS.one m T22 f Z Z Z (by decide) (All2.cons ⟨Z,Ow.one1 0 m aO Z,Ow.cells 0 m aO Z⟩ (All2.nil _)) λaS aT w a m aU f=>Aa (aR aP [aS,aL] _ _ gr m (BB λaV w aW m=>have aU:=Ow.mono RawS.mono aW aU;have aO:=od1 aW aO;have ax:=od2 aW ax;have m:=m.fr 1;have m:=m.fr 4;Bd au λaX aY au=>l_append2 m ax aO aU T22 Z (by decide) f Z Z Z aY λaZ a0 w a m a1 f=>BJ underlying24 Z sizeOf22 f Z λa f=> ?_))))))
   refine Au 2 0 (ds:=[a0]) m sizeOf22 f Z Z (Ow2.cells 0 m a1 Z) (Ax (Ow2.one1 0 m a1 Z) AB) Z (lb Z) Z λw m=>Aa (Ap (Ai f Z Z AJ λa f=>Ab f Z λa f=>Aa (have m:=m.fr 2;have m:=m.fr 2;?_)))
   obtain rfl:=sj au
   exact⟨_,Z,_,_,Z,_,a0,aZ,(gt aw (gt aG (gt aN (gt aQ aW)))),f.k Z,m,a1⟩
  ·refine Ah f Z ay (AL Z ?_)
   obtain rfl:=sj au
   obtain rfl:=av _ rfl
   exact⟨_,Z,_,ap,aq,aw,f.k Z,m,ax⟩
 ·rintro a w ⟨ah,rfl,ai,aj,ak,a2,f,m,a3⟩
  refine Ae (AR 1 0 (ds:=[aj]) m AT f Z Z Z Z Z λa f=>Au 0 0 (ds:=[aj]) m sizeOf24 f Z Z Z (Ax (Ow2.one1 2 m a3 Z) AB) Z (lb Z) Z λw m=>Aa (Ao (have a4:=Bc (P:=prog) 0 m AT f (s:=2) rfl rfl rfl;have m:=m.fr 2;have m:=m.eraseAt 2;have m:=m.eraseAt 1;?_)))
  obtain rfl:=sj hd
  exact⟨[(.agg #[aj])],⟨a4,trivial⟩,f.d,_,[ak],a2,m,_,_,Z,Z,a3⟩
theorem Wk.C {v1:Value}{x0:Int}{x1:LL}(hW:TxtW W)(m:Mem W G w (H))(h1:R2 G v1 x1){y:(LL)×Bool}(hd:D.C x0 x1=some y):
  Calls prog 16 #[iv x0,v1] w (Res W G H (λG' Ho v=>∃r0:Value,∃i0:Itm,Ho=[i0]∧v= .tuple #[(.agg #[r0]),(.bool y.2)]∧Ow2 R0 34 2 G' i0 r0 y.1)):=by
 refine Aw (args:=[iv x0,v1]) (N:=47) [.cell 4 24,.tmp 5] func16 Z Z (lb Z) Z λa f=> ?_
 unfold D.C at hd
 refine Ae (Bg (cs:=[sn]) zeroValue24 m f Z Z λaa w a m f=>Ac f Z λa f=>Aa (Ag (Ae (Ab f Z λa f=>Bd hd λab ac hd=>Bh f Z call33 (Wk.A m ac) λad w ae m a f=>have h1:=rd2 ae h1;l_o f (Bf (f.e Z)) λa f=>Ab f Z λa f=> ?_))))
 refine A3 4 (λa w=>∃af,GLe ad af∧Mem W af w (ib aa 24 [sn]::H)∧Fr a 47 [(0,iv x0),(1,v1),(4,pb aa),(9,iv x0),(10,(.bool ab)),(11,(.bool (!ab))),(12,(.bool (!ab))),(16,(.bool ((!ab)||(decide ((120:Int)<(x1.length:Int))))))]) ?_ ?_
 ·rcases Bool.eq_false_or_eq_true (!ab) with ag|ag
  ·exact Am f ag λa f=>Am f ag λa f=>Am f ag λa f=>l_o f (AD (f.e Z) ag (f.e Z)) λa f=>⟨_,gr,m,f.weak ⟨Z,Z,Z,Z,Z,Z,Z,by rw[ag];rfl,trivial⟩⟩
  ·exact Al f ag (Ab f Z λa f=>Al f ag (AZ underlying22 f Z Z h1 λa f=>Al f ag (Ai f Z Z BO λa f=>l_o f (AE (f.e Z) ag (f.e Z)) λa f=>⟨_,gr,m,f.weak ⟨Z,Z,Z,Z,Z,Z,Z,by rw[ag];rfl,trivial⟩⟩)))
 ·rintro a w ⟨af,ah,m,f⟩
  refine have h1:=rd2 ah h1;Aa ?_
  rcases Af hd with⟨ai,hd⟩|⟨ai,hd⟩
  ·refine Aj f Z ai (Ae ?_)
   have aj:∀w,(Instr.build 24 #[]).run prog w= .ok (.agg #[sn]) w:=by intro w;simp[Instr.build,Instr.fill,A6,A2,AQ,AU,AK,A7,AY]
   refine Bo f Z Z aj λa f=>Au 0 0 (ds:=[sn]) m sizeOf24 f Z Z Z (Ax Z AB) Z (lb Z) Z λw m=>Ac f Z λa f=>Aa (Ao ?_)
   obtain⟨ak,m,al⟩:=Ow2.nil R0 34 2 m
   refine have am:=Bc (P:=prog) 1 m AT f (s:=4) rfl rfl rfl;have m:=m.eraseAt 1;?_
   obtain rfl:=sj hd
   exact⟨[(.agg #[sn]),(.bool false)],⟨am,f.get _ _ Z,trivial⟩,f.d,_,[ak],(gt ae ah),m,_,_,Z,Z,al⟩
  ·refine Ah f Z ai (Ak (Ae (Ab f Z λa f=>Bd hd λan ao hd=>l_make (R:=(RI .u32)) m T57 Z (by decide) Z f Z Z Z ao λap aq w a m ar f=>Ac f Z λa f=>Aa (Ag (Ae (Ab f Z λa f=>AZ underlying22 f Z Z h1 λa f=>Ab f Z λa f=>Aa (Bd hd λau av hd=> ?_)))))))
   refine AW (λa w=>∃q_146':LI,au= .inl q_146'∧∃aw:LI,aw=q_146'∧∃(ax:GH) (ay:Itm),GLe af ax∧Fr a 47 [(4,pb aa),(6,aq)]∧Mem W ax w (ib aa 24 [sn]::ay::H)∧Ow (RI .u32) 76 ax ay aq aw) ?_ ?_
   ·refine An (have m:=m.fr 1;AN (λaz a w=>∃aA:LI,∃aB:Int,(aA,aB)=az∧∃(aC:GH) (aD:Itm),GLe af aC∧Fr a 47 [(0,iv x0),(4,pb aa),(6,aq),(20,v1),(21,(iv (x1.length:Int))),(22,iv aB)]∧Mem W aC w (ib aa 24 [sn]::aD::H)∧Ow (RI .u32) 76 aC aD aq aA) av ⟨_,_,Z,_,ap,gr,f.k Z,m,ar⟩ ?_)
    clear av f m
    rintro az aE aF aG a w ⟨aA,aB,rfl,aC,aD,aH,f,m,aI⟩
    refine have h1:=rd2 aH h1;Ae (Ai f Z Z AF λa f=>Aa (Ag ?_))
    rcases Af aF with⟨aJ,aF⟩|⟨aJ,aF⟩
    ·refine Aj f Z aJ (Ak (Ag (An (Ae (Bd aF λaK aL aF=>Bx T22 f Z Z Z h1 aL λaM aN a aO aP f=>AM m Bv f Z Z aO λa f=>Ac f Z λa f=>Aa (Ag (Ae (Ab f Z λa f=>AZ underlying34 f Z Z aP λa f=>Ai f Z Z BZ λa f=>Ab f Z λa f=>Bd aF λaQ aR aF=> ?_))))))))
     refine A3 5 (λa w=>∃aS,GLe aC aS∧Mem W aS w (ib aa 24 [sn]::aD::H)∧Fr a 47 [(0,iv x0),(4,pb aa),(6,aq),(8,aN),(20,v1),(21,(iv (x1.length:Int))),(22,iv aB),(26,aN),(27,(iv (aK.length:Int))),(28,(.bool ((aK.length:Int) !=2))),(29,(.bool ((aK.length:Int) !=2))),(34,(.bool aQ))]) ?_ ?_
     ·rcases Af aR with⟨aT,aR⟩|⟨aT,aR⟩
      ·refine Am f aT λa f=>Am f aT λa f=>Am f aT λa f=>Am f aT λa f=>l_o f (AD (f.e Z) aT (f.e Z)) λa f=> ?_
       obtain rfl:=sj aR
       exact⟨_,gr,m,f.k Z⟩
      ·refine Al f aT (Ab f Z λa f=>Al f aT (Ab f Z λa f=>Al f aT (Bd aR λaU aV aR=>Bh f Z call34 (Wk.Q m aP aV) λaW w aX m a f=>Al f aT (l_o f (Bf (f.e Z)) λa f=>l_o f (AE (f.e Z) aT (f.e Z)) λa f=> ?_))))
       obtain rfl:=sj aR
       exact⟨_,aX,m,f.k Z⟩
     ·rintro a w ⟨aS,aY,m,f⟩
      refine have aP:=rd1 aY aP;have aI:=od1 aY aI;Aa ?_
      rcases Af aF with⟨aZ,aF⟩|⟨aZ,aF⟩
      ·refine Aj f Z aZ (Ae ?_)
       have a2:∀w,(Instr.build 24 #[]).run prog w= .ok (.agg #[sn]) w:=by intro w;simp[Instr.build,Instr.fill,A6,A2,AQ,AU,AK,A7,AY]
       refine Bo f Z Z a2 λa f=>Au 0 0 (ds:=[sn]) m sizeOf24 f Z Z Z (Ax Z AB) Z (lb Z) Z λw m=>Ac f Z λa f=>Aa (Ao ?_)
       obtain⟨a3,m,a4⟩:=Ow2.nil R0 34 2 m
       refine have a5:=Bc (P:=prog) 1 m AT f (s:=4) rfl rfl rfl;have m:=m.eraseAt 2;have m:=m.eraseAt 1;?_
       obtain rfl:=sj aF
       obtain rfl:=aG _ rfl
       obtain rfl:=sj hd
       exact⟨[(.agg #[sn]),(.bool false)],⟨a5,f.get _ _ Z,trivial⟩,f.d,_,[a3],(gt ae (gt ah (gt aH aY))),m,_,_,Z,Z,a4⟩
      ·refine Ah f Z aZ (Ak (Bq 7 Bk (by kernel_rfl) m (AC 0 7 Z f Z λa f=>AC 1 7 Z f Z λa f=>Bd aF λa6 a7 aF=>BD 2 7 T34 aP a7 Z f Z Z λa8 a9 a ba bb f=> ?_)))
       subst bb
       refine BC 3 7 Pl2 ba Z f Z λa f=>AC 4 7 Z f Z λa f=>Bd aF λbc bd aF=>BD 5 7 T34 aP bd Z f Z Z λbe bf a bg bh f=> ?_
       subst bh
       refine BC 6 7 Pl2 bg Z f Z λa f=>BB λbi w bj m=>have aI:=od1 bj aI;have m:=m.fr 1;Bd aF λbk bl aF=>Bs f Z call35 (Wk.R m aI bl) λbm bn bo w bp m bq a f=> ?_
       obtain⟨br,rfl,bs⟩:=bq
       refine Aa (Ap (Ai f Z Z AJ λa f=>Ab f Z λa f=>Aa (have m:=m.fr 1;?_)))
       obtain rfl:=sj aF
       exact⟨_,Z,_,_,Z,_,br,(gt aH (gt aY (gt bj bp))),f.k Z,m,bs⟩
    ·refine Ah f Z aJ (AL Z ?_)
     obtain rfl:=sj aF
     obtain rfl:=aG _ rfl
     exact⟨_,Z,_,Z,_,aD,aH,f.k Z,m,aI⟩
   ·rintro a w ⟨_,rfl,aw,rfl,ax,ay,bt,f,m,bu⟩
    refine Ae (Ab f Z λa f=>Bd hd λbv bw hd=>Bs f Z call36 (Ow.lendCall (RI.mono _) 1 bu m Z (λbx bz m bA=>Wk.N hW m bA bw) (λ_ G' _ _ ⟨a0,a1,e1,e2,o0⟩=>⟨a0,a1,e1,e2,Ow2.free (RI.free _) G' o0⟩)) λbB bC bD w bE m bF a f=> ?_)
    obtain⟨bG,bH,rfl,rfl,bI⟩:=bF
    refine Au 1 0 (ds:=[bG]) m sizeOf24 f Z Z Z (Ax (Ow2.one1 0 m bI Z) AB) Z (lb Z) Z λw m=>Ac f Z λa f=>Aa (Ao (have bJ:=Bc (P:=prog) 1 m AT f (s:=4) rfl rfl rfl;have m:=m.fr 2;have m:=m.fr 1;have m:=m.eraseAt 2;have m:=m.eraseAt 1;?_))
    obtain rfl:=sj hd
    exact⟨[(.agg #[bG]),(.bool true)],⟨bJ,f.get _ _ Z,trivial⟩,f.d,_,[bH],(gt ae (gt ah (gt bt bE))),m,_,_,Z,Z,bI⟩
theorem Wk.L {aa:Value}{ab:LL}(m:Mem W G w (H))(ac:R2 G aa ab){y:(LL)}(hd:D.L ab=some y):
  Calls prog 39 #[(.agg #[aa])] w (Res W G H (λG' Ho v=>∃r0:Value,∃i0:Itm,Ho=[i0]∧r0=v∧Ow R1 34 G' i0 r0 y)):=by
 refine Aw (args:=[(.agg #[aa])]) (N:=35) [.tmp 2] func39 Z Z (lb Z) Z λa f=> ?_
 unfold D.L at hd
 refine Ae (B8 (cs:=[aa]) m f Z Z Z λad w a m f=>Ac f Z λa f=>AI (A1 (R:=R1) (xs:=([]:LL)) (RSl.one _) m T22 f Z Z Z (by decide) (All2.nil _) λae af w a m ag f=>Ac f Z λa f=>Aa (Ag (Ae (BJ underlying24 Z sizeOf22 f Z λa f=>A4 1 0 m BA f Z Z Z Z λa f=>AZ underlying22 f Z Z ac λa f=>Ab f Z λa f=>Aa (Bd hd λah ai hd=> ?_))))))
 refine AW (λa w=>∃aj:LL,aj=ah∧∃(ak:GH) (al:Value) (am:Itm),GLe G ak∧Fr a 35 [(3,al)]∧Mem W ak w (am::H)∧Ow R1 34 ak am al aj) ?_ ?_
 ·refine An (have m:=m.eraseAt 1;AN (λan a w=>∃ao:LL,∃ap:Int,(ao,ap)=an∧∃(aq:GH) (ar:Value) (au:Itm),GLe G aq∧Fr a 35 [(3,ar),(10,aa),(11,(iv (ab.length:Int))),(12,iv ap)]∧Mem W aq w (au::H)∧Ow R1 34 aq au ar ao) ai ⟨_,_,Z,_,af,ae,gr,f.k Z,m,ag⟩ ?_)
  clear ai f m
  rintro an av aw ax a w ⟨ao,ap,rfl,aq,ar,au,ay,f,m,az⟩
  refine have ac:=rd2 ay ac;Ae (Ai f Z Z AF λa f=>Aa (Ag ?_))
  rcases Af aw with⟨aA,aw⟩|⟨aA,aw⟩
  ·refine Aj f Z aA (Ak (Ag (An (Ae (Ab f Z λa f=>Bd aw λaB aC aw=>Bx T22 f Z Z Z ac aC λaD aE a aF aG f=>AM m Bv f Z Z aF λa f=>Ac f Z λa f=>Ac f Z λa f=>AI (Ab f Z λa f=>AZ underlying34 f Z Z aG λa f=>Ab f Z λa f=>Aa (Bd aw λaH aI aw=> ?_)))))))
   refine AW (λa w=>∃aJ:LL,aJ=aH∧∃(aK:GH) (aL:Value) (aM:Itm),GLe aq aK∧Fr a 35 [(3,aL),(10,aa),(11,(iv (ab.length:Int))),(12,iv ap)]∧Mem W aK w (aM::H)∧Ow R1 34 aK aM aL aJ) ?_ ?_
   ·refine An (AN (λaN a w=>∃aO:LL,∃aP:Int,(aO,aP)=aN∧∃(aQ:GH) (aR:Value) (aS:Itm),GLe aq aQ∧Fr a 35 [(3,aR),(4,iv ap),(10,aa),(11,(iv (ab.length:Int))),(12,iv ap),(17,aE),(18,(iv (aB.length:Int))),(19,iv aP)]∧Mem W aQ w (aS::H)∧Ow R1 34 aQ aS aR aO) aI ⟨_,_,Z,_,ar,au,gr,f.k Z,m,az⟩ ?_)
    clear aI f m
    rintro aN aT aU aV a w ⟨aO,aP,rfl,aQ,aR,aS,aW,f,m,aX⟩
    refine have aG:=rd1 aW aG;Ae (Ai f Z Z AF λa f=>Aa (Ag ?_))
    rcases Af aU with⟨aY,aU⟩|⟨aY,aU⟩
    ·refine Aj f Z aY (Ak (Ag (An (Ae (Bd aU λaZ a0 aU=>Bx T34 f Z Z Z aG a0 λa1 a2 a a3 a4 f=> ?_)))))
     subst a4
     refine AM m Pl2 f Z Z a3 λa f=>Ac f Z λa f=>AI (Ab f Z λa f=>Ab f Z λa f=>Ai f Z Z AF λa f=>Aa ?_)
     rcases Af aU with⟨a5,aU⟩|⟨a5,aU⟩
     ·refine Aj f Z a5 (Ap (Ab f Z λa f=>Ab f Z λa f=>Ab f Z λa f=>A1 (R:=R0) (xs:=([ap,aZ]:LI)) (RI.one _) m T34 f Z Z Z (by decide) (All2.cons Z (All2.cons Z (All2.nil _))) λa6 a7 w a m a8 f=> ?_))
      obtain⟨a9,ba,m,bb⟩:=Ow.stamp (RI.mono _) a8 m
      refine have aX:=od3 ba aX;A1 (R:=R1) (xs:=([([ap,aZ]:LI)]:LL)) (RSl.one _) m T22 f Z Z Z (by decide) (All2.cons bb (All2.nil _)) λbc bd w a m be f=>Bd aU λbf bg aU=>Bw (RSl.one _) 1 m aX Z T22 Z (by decide) f Z Z Z (Ow.src (j:=0) be m Z) bg λbh bi w a m bj f=>Ac f Z λa f=>Aa (Ap (Ai f Z Z AJ λa f=>Ab f Z λa f=>Aa (have m:=m.fr 1;have m:=m.eraseAt 1;?_)))
      obtain rfl:=sj aU
      exact⟨_,Z,_,_,Z,_,bi,bh,(gt aW ba),f.k Z,m,bj⟩
     ·refine Ah f Z a5 (Ak (Ap (Ai f Z Z AJ λa f=>Ab f Z λa f=>Aa ?_)))
      obtain rfl:=sj aU
      exact⟨_,Z,_,_,Z,_,aR,aS,aW,f.k Z,m,aX⟩
    ·refine Ah f Z aY (AL Z ?_)
     obtain rfl:=sj aU
     obtain rfl:=aV _ rfl
     exact⟨_,Z,_,aR,aS,aW,f.k Z,m,aX⟩
   ·rintro a w ⟨aJ,rfl,aK,aL,aM,bk,f,m,bl⟩
    refine Ap (Ai f Z Z AJ λa f=>Ab f Z λa f=>Aa ?_)
    obtain rfl:=sj aw
    exact⟨_,Z,_,_,Z,_,aL,aM,(gt ay bk),f.k Z,m,bl⟩
  ·refine Ah f Z aA (AL Z ?_)
   obtain rfl:=sj aw
   obtain rfl:=ax _ rfl
   exact⟨_,Z,_,ar,au,ay,f.k Z,m,az⟩
 ·rintro a w ⟨aj,rfl,ak,al,am,bm,f,m,bn⟩
  refine Ae (Ab f Z λa f=>Ac f Z λa f=>Aa (Ao ?_))
  obtain rfl:=sj hd
  exact⟨[al],f.g Z,f.d,_,[am],bm,m,_,_,Z,Z,bn⟩
theorem Wk.S {aa:Value}{ab:LL}(hW:TxtW W)(m:Mem W G w (H))(ac:R2 G aa ab){y:ByteArray}(hd:D.S ab=some y):
  Calls prog 17 #[(.agg #[aa])] w (Res W G H (λ_ Ho v=>Ho=[]∧v=(.string y))):=by
 refine Aw (args:=[(.agg #[aa])]) (N:=33) [.tmp 2] func17 Z Z (lb Z) Z λa f=> ?_
 unfold D.S at hd
 refine Ae (B8 (cs:=[aa]) m f Z Z Z λad w a m f=>Ac f Z λa f=>AI (Bg (cs:=[(.pointer none),sn]) zeroValue64 m f Z Z λae w a m f=>AI (BJ underlying24 Z sizeOf22 f Z λa f=>A4 1 0 m BA f Z Z Z Z λa f=>AZ underlying22 f Z Z ac λa f=>Bd hd λaf ag hd=>Bh f Z call38 (Wk.p m ag) λah w ai m a f=>have ac:=rd2 ai ac;Bd hd λaj ak hd=>l_o f (BH (f.e Z) (f.e Z) ak) λa f=> ?_)))
 obtain⟨al,m,am⟩:=Ow.nil (RI .u8) 5 m
 refine have m:=m.fr 1;Bd hd λan ao hd=>Bs f Z call37 (Wk.c0 (.inl Z) m am ao) λap aq ar w au m av a f=> ?_
 obtain⟨rfl,aw,ax,rfl,rfl,ay⟩:=av
 refine Aa (Ag (Ae (AR 2 0 (ds:=[aa]) m AT f Z Z Z Z Z λa f=>Bd hd λaz aA hd=>l_ro f Z call39 (Wk.L m ac aA) λaB aC aD w aE m aF a f=>have ay:=od1 aE ay;B4 0 m aF Z underlying22 f Z Z λa f=>Ab f Z λa f=>Aa (Bd hd λaG aH hd=> ?_))))
 refine AW (λa w=>∃aI:LI,aI=aG∧∃(aJ:GH) (aK:Value) (aL:Itm),GLe aD aJ∧Fr a 33 [(3,pb ae)]∧Mem W aJ w (ib ae 64 [pb ae,aK]::aL::H)∧Ow (RI .u8) 5 aJ aL aK aI) ?_ ?_
 ·refine An (have m:=m.fr 1;have m:=m.eraseAt 3;AN (λaM a w=>∃aN:Int,∃aO:LI,(aN,aO)=aM∧∃(aP:GH) (aQ:Value) (aR:Itm),GLe aD aP∧Fr a 33 [(3,pb ae),(13,aB),(14,(iv (az.length:Int))),(15,iv aN)]∧Mem W aP w (ib ae 64 [pb ae,aQ]::aC::aR::H)∧Ow (RI .u8) 5 aP aR aQ aO) aH ⟨_,_,Z,_,aw,ax,gr,f.k Z,m,ay⟩ ?_)
  clear aH f m
  rintro aM aS aT aU a w ⟨aN,aO,rfl,aP,aQ,aR,aV,f,m,aW⟩
  refine have aF:=od3 aV aF;Ae (Ai f Z Z AF λa f=>Aa (Ag ?_))
  rcases Af aT with⟨aX,aT⟩|⟨aX,aT⟩
  ·refine Aj f Z aX (Ak (Ag (An (Ae (Bd aT λaY aZ aT=>B2 1 m aF Z T22 f Z Z Z aZ λa0 a a1 f=>BR 1 m aF Z Bv f Z Z a1 aZ λa2 a a3 f=>Ac f Z λa f=>Aa (Bq 11 Bk (by kernel_rfl) m (AC 0 11 Z f Z λa f=>Bd aT λa4 a5 aT=>BD 1 11 T34 a3 a5 Z f Z Z λa6 a7 a a8 a9 f=> ?_)))))))
   subst a9
   refine BC 2 11 Pl2 a8 Z f Z λa f=>Bd aT λba bb aT=>Ca (i:=3) 11 Z (by kernel_rfl) Z f Z Z Z call31 (λ_ _ w bc m=>Wk.c hW m bb) λa f=>Bd aT λbd be aT=>q_p 4 11 Z f (λ_=>BH (f.e Z) (f.e Z) be) λa f=>Bd aT λbf bg aT=>q_p 5 11 Z f (λ_=>BH (f.e Z) (f.e Z) bg) λa f=>AC 6 11 Z f Z λa f=>Bd aT λbh bi aT=>BD 7 11 T34 a3 bi Z f Z Z λbj bk a bl bm f=> ?_
   subst bm
   refine BC 8 11 Pl2 bl Z f Z λa f=>Bd aT λbn bo aT=>Ca (i:=9) 11 Z (by kernel_rfl) Z f Z Z Z call31 (λ_ _ w bp m=>Wk.c hW m bo) λa f=>Bd aT λbq br aT=>q_p 10 11 Z f (λ_=>BH (f.e Z) (f.e Z) br) λa f=>BB λbs w bt m=>have aW:=od1 bt aW;have m:=m.fr 2;have m:=m.fr 1;Bd aT λbu bv aT=>Bs f Z call37 (Wk.c0 (.inr Z) m aW bv) λbw bx bz w bA m bB a f=> ?_
   obtain⟨rfl,bC,bD,rfl,rfl,bE⟩:=bB
   refine Aa (Ap (Ai f Z Z AJ λa f=>Ab f Z λa f=>Aa (have m:=m.fr 2;have m:=m.fr 1;?_)))
   obtain rfl:=sj aT
   exact⟨_,Z,_,_,Z,_,bC,bD,(gt aV bt),f.k Z,m,bE⟩
  ·refine Ah f Z aX (AL Z (have m:=m.fr 2;have m:=m.fr 1;have m:=m.eraseAt 2;?_))
   obtain rfl:=sj aT
   obtain rfl:=aU _ rfl
   exact⟨_,Z,_,aQ,aR,aV,f.k Z,m,aW⟩
 ·rintro a w ⟨aI,rfl,aJ,aK,aL,bF,f,m,bG⟩
  refine Ae (Bd hd λbH bI hd=>Bs f Z call40 (Wk.Y m bG bI) λbJ bK bL w bM m bN a f=> ?_)
  obtain⟨rfl,rfl⟩:=bN
  refine Ac f Z λa f=>Aa (Ao ?_)
  obtain rfl:=sj hd
  exact⟨[(.string bH)],f.g Z,f.d,_,[],(gt ai (gt aE (gt bF bM))),m,Z,Z⟩
theorem Wk.k {x0:ByteArray}(hW:TxtW W)(m:Mem W G w (H)){y:(LL)×Bool}(hd:D.k x0=some y):
  Calls prog 5 #[(.string x0)] w (Res W G H (λG' Ho v=>∃r0:Value,∃i0:Itm,Ho=[i0]∧v= .tuple #[(.agg #[r0]),(.bool y.2)]∧Ow2 R0 34 2 G' i0 r0 y.1)):=by
 refine Aw (args:=[(.string x0)]) (N:=101) [.cell 2 24,.tmp 3] func5 Z Z (lb Z) Z λa f=> ?_
 unfold D.k at hd
 refine Ae (Bg (cs:=[sn]) zeroValue24 m f Z Z λaa w a m f=>Ac f Z λa f=>AI (Ab f Z λa f=>Bd hd λab ac hd=>Bh f Z call13 (Wk.j hW m ac) λad w ae m a f=>Ab f Z λa f=>l_o f (Az (f.e Z) Z) λa f=>l_o f (Az (f.e Z) Z) λa f=>l_o f (Az (f.e Z) Z) λa f=>Ac f Z λa f=>Ac f Z λa f=>Ac f Z λa f=>AI (Ab f Z λa f=>Bd hd λaf ag hd=>Bh f Z call14 (Wk.e hW m ag) λah w ai m a f=>Ab f Z λa f=>l_o f (Az (f.e Z) Z) λa f=>l_o f (Az (f.e Z) Z) λa f=>Ac f Z λa f=>Ac f Z λa f=>Aa (Ag (Ae (Ab f Z λa f=>l_o f (Bu (f.e Z) underlying9) λa f=>Ai f Z Z BO λa f=>Ab f Z λa f=> ?_))))))
 refine A3 3 (λa w=>∃aj,GLe ah aj∧Mem W aj w (ib aa 24 [sn]::H)∧Fr a 101 [(0,(.string x0)),(2,pb aa),(4,(.string ab.1)),(5,(.string ab.2.1)),(6,(.bool ab.2.2)),(7,iv af.1),(8,(.bool af.2)),(32,(.string x0)),(33,(iv (x0.size:Int))),(34,(.bool (decide ((800:Int)<(x0.size:Int))))),(35,(.bool (decide ((800:Int)<(x0.size:Int))))),(38,(.bool ((decide ((800:Int)<(x0.size:Int)))||(!ab.2.2))))]) ?_ ?_
 ·rcases Bool.eq_false_or_eq_true (decide ((800:Int)<(x0.size:Int))) with ak|ak
  ·exact Am f ak λa f=>Am f ak λa f=>l_o f (AD (f.e Z) ak (f.e Z)) λa f=>⟨_,gr,m,f.weak ⟨Z,Z,Z,Z,Z,Z,Z,Z,Z,Z,Z,by rw[ak];rfl,trivial⟩⟩
  ·exact Al f ak (Ab f Z λa f=>Al f ak (l_o f (Bf (f.e Z)) λa f=>l_o f (AE (f.e Z) ak (f.e Z)) λa f=>⟨_,gr,m,f.weak ⟨Z,Z,Z,Z,Z,Z,Z,Z,Z,Z,Z,by rw[ak];rfl,trivial⟩⟩))
 ·rintro a w ⟨aj,al,m,f⟩
  refine Ab f Z λa f=> ?_
  refine A3 3 (λa w=>∃am,GLe aj am∧Mem W am w (ib aa 24 [sn]::H)∧Fr a 101 [(0,(.string x0)),(2,pb aa),(4,(.string ab.1)),(5,(.string ab.2.1)),(6,(.bool ab.2.2)),(7,iv af.1),(8,(.bool af.2)),(32,(.string x0)),(33,(iv (x0.size:Int))),(34,(.bool (decide ((800:Int)<(x0.size:Int))))),(35,(.bool (decide ((800:Int)<(x0.size:Int))))),(38,(.bool ((decide ((800:Int)<(x0.size:Int)))||(!ab.2.2)))),(39,(.bool ((decide ((800:Int)<(x0.size:Int)))||(!ab.2.2)))),(42,(.bool (((decide ((800:Int)<(x0.size:Int)))||(!ab.2.2))||(!af.2))))]) ?_ ?_
  ·rcases Bool.eq_false_or_eq_true ((decide ((800:Int)<(x0.size:Int)))||(!ab.2.2)) with an|an
   ·exact Am f an λa f=>Am f an λa f=>l_o f (AD (f.e Z) an (f.e Z)) λa f=>⟨_,gr,m,f.weak ⟨Z,Z,Z,Z,Z,Z,Z,Z,Z,Z,Z,Z,Z,by rw[an];rfl,trivial⟩⟩
   ·exact Al f an (Ab f Z λa f=>Al f an (l_o f (Bf (f.e Z)) λa f=>l_o f (AE (f.e Z) an (f.e Z)) λa f=>⟨_,gr,m,f.weak ⟨Z,Z,Z,Z,Z,Z,Z,Z,Z,Z,Z,Z,Z,by rw[an];rfl,trivial⟩⟩))
  ·rintro a w ⟨am,ao,m,f⟩
   refine Aa ?_
   rcases Af hd with⟨ap,hd⟩|⟨ap,hd⟩
   ·refine Aj f Z ap (Ae ?_)
    have aq:∀w,(Instr.build 24 #[]).run prog w= .ok (.agg #[sn]) w:=by intro w;simp[Instr.build,Instr.fill,A6,A2,AQ,AU,AK,A7,AY]
    refine Bo f Z Z aq λa f=>Au 0 0 (ds:=[sn]) m sizeOf24 f Z Z Z (Ax Z AB) Z (lb Z) Z λw m=>Ac f Z λa f=>Aa (Ao ?_)
    obtain⟨ar,m,au⟩:=Ow2.nil R0 34 2 m
    refine have av:=Bc (P:=prog) 1 m AT f (s:=2) rfl rfl rfl;have m:=m.eraseAt 1;?_
    obtain rfl:=sj hd
    exact⟨[(.agg #[sn]),(.bool false)],⟨av,f.get _ _ Z,trivial⟩,f.d,_,[ar],(gt ae (gt ai (gt al ao))),m,_,_,Z,Z,au⟩
   ·refine Ah f Z ap (Ak (Ae (A1 (R:=RawS) (xs:=[]) RawS.one m T22 f Z Z Z (by decide) (All2.nil _) λaw ax w a m ay f=> ?_)))
    obtain⟨az,m,aA⟩:=Ow2.of_empty R0 2 m ay
    refine Ac f Z λa f=>Aa (Ag (Ae (Ab f Z λa f=>Bd hd λaB aC hd=>l_ro f Z call15 (Wk.r hW m aC) λaD aE aF w aG m aH a f=>have aA:=od2 aG aA;B4 0 m aH Z underlying30 f Z Z λa f=>Ab f Z λa f=>Aa (Bd hd λaI aJ hd=> ?_))))
    refine AW (λa w=>∃q_149':LL,aI= .inl q_149'∧∃aK:LL,aK=q_149'∧∃(aL:GH) (aM:Value) (aN:Itm),GLe aF aL∧Fr a 101 [(0,(.string x0)),(2,pb aa),(7,iv af.1),(9,aM)]∧Mem W aL w (ib aa 24 [sn]::aN::H)∧Ow2 R0 34 2 aL aN aM aK) ?_ ?_
    ·refine An (have m:=m.fr 1;have m:=m.fr 2;AN (λaO a w=>∃aP:LL,∃aQ:Int,(aP,aQ)=aO∧∃(aR:GH) (aS:Value) (aT:Itm),GLe aF aR∧Fr a 101 [(0,(.string x0)),(2,pb aa),(7,iv af.1),(9,aS),(46,aD),(47,(iv (aB.length:Int))),(48,iv aQ)]∧Mem W aR w (ib aa 24 [sn]::aT::aE::H)∧Ow2 R0 34 2 aR aT aS aP) aJ ⟨_,_,Z,_,ax,az,gr,f.k Z,m,aA⟩ ?_)
     clear aJ f m
     rintro aO aU aV aW a w ⟨aP,aQ,rfl,aR,aS,aT,aX,f,m,aY⟩
     refine have aH:=Ow.mono RStr.mono aX aH;Ae (Ai f Z Z AF λa f=>Aa (Ag ?_))
     rcases Af aV with⟨aZ,aV⟩|⟨aZ,aV⟩
     ·refine Aj f Z aZ (Ak (Ag (An (Ae (Ab f Z λa f=>Bd aV λa2 a3 aV=>B2 2 m aH Z T30 f Z Z Z a3 λa4 a a5 f=>BR 2 m aH Z Pl9 f Z Z a5 a3 λa6 a a7 f=> ?_)))))
      subst a7
      refine Ac f Z λa f=>Ac f Z λa f=>Aa (Ag (Ae (Ab f Z λa f=>Ai f Z Z b_eql λa f=>Aa ?_)))
      rcases Af aV with⟨a8,aV⟩|⟨a8,aV⟩
      ·refine Aj f Z a8 (AL Z (Ap (Ai f Z Z AJ λa f=>Ab f Z λa f=>Aa ?_)))
       obtain rfl:=sj aV
       exact⟨_,Z,_,_,Z,_,aS,aT,aX,f.k Z,m,aY⟩
      ·refine Ah f Z a8 (Ak (Ae (Ab f Z λa f=>Bd aV λa9 ba aV=>Bh f Z call13 (Wk.j hW m ba) λbb w bc m a f=>have aY:=od2 bc aY;Ab f Z λa f=>l_o f (Az (f.e Z) Z) λa f=>l_o f (Az (f.e Z) Z) λa f=>l_o f (Az (f.e Z) Z) λa f=>Ac f Z λa f=>Ac f Z λa f=>Ac f Z λa f=>AI (Ab f Z λa f=>Bd aV λbd be aV=>Bh f Z call14 (Wk.e hW m be) λbf w bg m a f=>have aY:=od2 bg aY;Ab f Z λa f=>l_o f (Az (f.e Z) Z) λa f=>l_o f (Az (f.e Z) Z) λa f=>Ac f Z λa f=>Ac f Z λa f=>AI (Ab f Z λa f=>Bd aV λbh bi aV=>Bh f Z call14 (Wk.e hW m bi) λbj w bk m a f=>have aY:=od2 bk aY;Ab f Z λa f=>l_o f (Az (f.e Z) Z) λa f=>l_o f (Az (f.e Z) Z) λa f=>Ac f Z λa f=>Ac f Z λa f=>Aa (Ag (Ae (Ab f Z λa f=>l_o f (Bf (f.e Z)) λa f=>Ab f Z λa f=> ?_))))))))
       refine A3 3 (λa w=>∃bl,GLe bj bl∧Mem W bl w (ib aa 24 [sn]::aT::aE::H)∧Fr a 101 [(0,(.string x0)),(2,pb aa),(7,iv af.1),(9,aS),(10,iv aQ),(11,(.string a2)),(12,(.string a9.1)),(13,(.string a9.2.1)),(14,(.bool a9.2.2)),(15,iv bd.1),(16,(.bool bd.2)),(17,iv bh.1),(18,(.bool bh.2)),(46,aD),(47,(iv (aB.length:Int))),(48,iv aQ),(71,(.bool bd.2)),(72,(.bool (!bd.2))),(73,(.bool (!bd.2))),(76,(.bool ((!bd.2)||(!bh.2))))]) ?_ ?_
       ·rcases Bool.eq_false_or_eq_true (!bd.2) with bm|bm
        ·exact Am f bm λa f=>Am f bm λa f=>l_o f (AD (f.e Z) bm (f.e Z)) λa f=>⟨_,gr,m,f.weak ⟨Z,Z,Z,Z,Z,Z,Z,Z,Z,Z,Z,Z,Z,Z,Z,Z,Z,Z,Z,by rw[bm];rfl,trivial⟩⟩
        ·exact Al f bm (Ab f Z λa f=>Al f bm (l_o f (Bf (f.e Z)) λa f=>l_o f (AE (f.e Z) bm (f.e Z)) λa f=>⟨_,gr,m,f.weak ⟨Z,Z,Z,Z,Z,Z,Z,Z,Z,Z,Z,Z,Z,Z,Z,Z,Z,Z,Z,by rw[bm];rfl,trivial⟩⟩))
       ·rintro a w ⟨bl,bn,m,f⟩
        refine have aY:=od2 bn aY;Aa ?_
        rcases Af aV with⟨bo,aV⟩|⟨bo,aV⟩
        ·refine Aj f Z bo (Ae ?_)
         have bp:∀w,(Instr.build 24 #[]).run prog w= .ok (.agg #[sn]) w:=by intro w;simp[Instr.build,Instr.fill,A6,A2,AQ,AU,AK,A7,AY]
         refine Bo f Z Z bp λa f=>Au 0 0 (ds:=[sn]) m sizeOf24 f Z Z Z (Ax Z AB) Z (lb Z) Z λw m=>Ac f Z λa f=>Aa (Ao ?_)
         obtain⟨bq,m,br⟩:=Ow2.nil R0 34 2 m
         refine have bs:=Bc (P:=prog) 1 m AT f (s:=2) rfl rfl rfl;have m:=m.eraseAt 3;have m:=m.eraseAt 2;have m:=m.eraseAt 1;?_
         obtain rfl:=sj aV
         obtain rfl:=aW _ rfl
         obtain rfl:=sj hd
         exact⟨[(.agg #[sn]),(.bool false)],⟨bs,f.get _ _ Z,trivial⟩,f.d,_,[bq],(gt ae (gt ai (gt al (gt ao (gt aG (gt aX (gt bc (gt bg (gt bk bn))))))))),m,_,_,Z,Z,br⟩
        ·refine Ah f Z bo (Ak (Ap (Ab f Z λa f=>Ab f Z λa f=>Ab f Z λa f=>A1 (R:=R0) (xs:=([bd.1,bh.1]:LI)) (RI.one _) m T34 f Z Z Z (by decide) (All2.cons Z (All2.cons Z (All2.nil _))) λbt bu w a m bv f=>A1 (R:=RawS) (xs:=[bu]) RawS.one m T22 f Z Z Z (by decide) (All2.cons ⟨Z,Ow.one1 0 m bv Z,Ow.cells 0 m bv Z⟩ (All2.nil _)) λbw bx w a m bz f=>have m:=m.fr 1;have m:=m.fr 3;Bd aV λbA bB aV=>l_append2 m aY bv bz T22 Z (by decide) f Z Z Z bB λbC bD w a m bE f=>Ac f Z λa f=>Aa (Ap (Ai f Z Z AJ λa f=>Ab f Z λa f=>Aa (have m:=m.fr 1;?_))))))
         obtain rfl:=sj aV
         exact⟨_,Z,_,_,Z,_,bD,bC,(gt aX (gt bc (gt bg (gt bk bn)))),f.k Z,m,bE⟩
     ·refine Ah f Z aZ (AL Z (have m:=m.eraseAt 2;?_))
      obtain rfl:=sj aV
      obtain rfl:=aW _ rfl
      exact⟨_,Z,_,Z,_,aS,aT,aX,f.k Z,m,aY⟩
    ·rintro a w ⟨_,rfl,aK,rfl,aL,aM,aN,bF,f,m,bG⟩
     refine Ae (Ab f Z λa f=>Ab f Z λa f=>Bd hd λbH bI hd=>Bs f Z call16 (Ow2.lendCall (RI.mono _) 1 bG m Z (λbJ bK m bL=>Wk.C hW m bL bI) (λ_ G' _ _ ⟨a0,a1,e1,e2,o0⟩=>⟨a0,a1,e1,e2,Ow2.free (RI.free _) G' o0⟩)) λbM bN bO w bP m bQ a f=> ?_)
     obtain⟨bR,bS,rfl,rfl,bT⟩:=bQ
     refine Ab f Z λa f=>l_o f (Az (f.e Z) Z) λa f=>l_o f (Az (f.e Z) Z) λa f=>Bg (cs:=[sn]) zeroValue24 m f Z Z λbU w a m f=>Au 0 0 (ds:=[bR]) m sizeOf24 f Z Z Z (Ax (Ow2.one1 1 m bT Z) AB) Z (lb Z) Z λw m=>Ac f Z λa f=>Aa (Ag (Ae (Ab f Z λa f=>l_o f (Bf (f.e Z)) λa f=>Ab f Z λa f=>Bd hd λbV bW hd=> ?_)))
     refine A3 5 (λa w=>∃bX,GLe bN bX∧Mem W bX w (ib bU 24 [bR]::bS::ib aa 24 [sn]::aN::H)∧Fr a 101 [(0,(.string x0)),(2,pb aa),(7,iv af.1),(9,aM),(19,pb bU),(20,(.bool bH.2)),(91,(.bool bH.2)),(92,(.bool (!bH.2))),(93,(.bool (!bH.2))),(98,(.bool bV))]) ?_ ?_
     ·rcases Af bW with⟨bY,bW⟩|⟨bY,bW⟩
      ·refine Am f bY λa f=>Am f bY λa f=>Am f bY λa f=>Am f bY λa f=>l_o f (AD (f.e Z) bY (f.e Z)) λa f=> ?_
       obtain rfl:=sj bW
       exact⟨_,gr,m,f.k Z⟩
      ·refine Al f bY (AR 0 0 (ds:=[bR]) m AT f Z Z Z Z Z λa f=>Al f bY (Bd bW λbZ b0 bW=>Bs f Z call17 (Ow2.lendCall (RI.mono _) 1 bT m Z (λb1 b2 m b3=>Wk.S hW m b3 b0) (λ_ _ _ _ h=>h)) λb4 b5 b6 w b7 m b8 a f=> ?_))
       obtain⟨rfl,rfl⟩:=b8
       refine Al f bY (Ab f Z λa f=>Al f bY (l_o f (r_sNeq (f.e Z) (f.e Z)) λa f=>l_o f (AE (f.e Z) bY (f.e Z)) λa f=> ?_))
       obtain rfl:=sj bW
       exact⟨_,b7,m,f.k Z⟩
     ·rintro a w ⟨bX,b9,m,f⟩
      refine have bT:=od2 b9 bT;Aa ?_
      rcases Af hd with⟨ca,hd⟩|⟨ca,hd⟩
      ·refine Aj f Z ca (Ae ?_)
       have cb:∀w,(Instr.build 24 #[]).run prog w= .ok (.agg #[sn]) w:=by intro w;simp[Instr.build,Instr.fill,A6,A2,AQ,AU,AK,A7,AY]
       refine Bo f Z Z cb λa f=>Au 2 0 (ds:=[sn]) m sizeOf24 f Z Z Z (Ax Z AB) Z (lb Z) Z λw m=>Ac f Z λa f=>Aa (Ao ?_)
       obtain⟨cc,m,cd⟩:=Ow2.nil R0 34 2 m
       refine have ce:=Bc (P:=prog) 3 m AT f (s:=2) rfl rfl rfl;have m:=m.fr 4;have m:=m.fr 3;have m:=m.fr 2;have m:Mem W bX w (cc::bS::aN::ib bU 24 [bR]::H):=m.eraseAt 4;have m:=m.eraseAt 3;have m:=m.eraseAt 2;have m:=m.eraseAt 1;?_
       obtain rfl:=sj hd
       exact⟨[(.agg #[sn]),(.bool false)],⟨ce,f.get _ _ Z,trivial⟩,f.d,_,[cc],(gt ae (gt ai (gt al (gt ao (gt aG (gt bF (gt bP b9))))))),m,_,_,Z,Z,cd⟩
      ·refine Ah f Z ca (Ak (Ae (AR 0 0 (ds:=[bR]) m AT f Z Z Z Z Z λa f=>Au 2 0 (ds:=[bR]) m sizeOf24 f Z Z Z (Ax (Ow2.one1 1 m bT Z) AB) Z (lb Z) Z λw m=>Ac f Z λa f=>Aa (Ao (have cf:=Bc (P:=prog) 2 m AT f (s:=2) rfl rfl rfl;have m:=m.fr 1;have m:=m.fr 3;have m:=m.fr 1;have m:Mem W bX w (bS::aN::ib bU 24 [bR]::H):=m.eraseAt 3;have m:=m.eraseAt 2;have m:=m.eraseAt 1;?_)))))
       obtain rfl:=sj hd
       exact⟨[(.agg #[bR]),(.bool true)],⟨cf,f.get _ _ Z,trivial⟩,f.d,_,[bS],(gt ae (gt ai (gt al (gt ao (gt aG (gt bF (gt bP b9))))))),m,_,_,Z,Z,bT⟩
theorem Wk.i {v0 v1:Value}{x0 x1:LI}(m:Mem W G w (H))(h0:R1 G v0 x0)(h1:R1 G v1 x1){y:Bool}(hd:D.i x0 x1=some y):
  Calls prog 41 #[v0,v1] w (Res W G H (λ_ Ho v=>Ho=[]∧v=(.bool y))):=by
 refine Aw (args:=[v0,v1]) (N:=26) [.tmp 4] func41 Z Z (lb Z) Z λa f=> ?_
 unfold D.i at hd
 refine Ae (Ac f Z λa f=>Aa (Ag (Ae (Ab f Z λa f=>AZ underlying34 f Z Z h0 λa f=>Ab f Z λa f=>AZ underlying34 f Z Z h1 λa f=>Ai f Z Z BZ λa f=>Aa ?_))))
 rcases Af hd with⟨aa,hd⟩|⟨aa,hd⟩
 ·refine Aj f Z aa (Ae (Ac f Z λa f=>Aa (Ao ?_)))
  obtain rfl:=sj hd
  exact⟨[(.bool false)],f.g Z,f.d,_,[],gr,m,Z,Z⟩
 ·refine Ah f Z aa (Ak (Ag (Ae (Ac f Z λa f=>Aa (Bd hd λab ac hd=> ?_)))))
  refine AW (λa w=>∃q_36':Unit,ab= .inl q_36'∧∃(ad:GH),GLe G ad∧Fr a 26 []∧Mem W ad w (H)) ?_ ?_
  ·refine An (AN (λae a w=>∃af:Int,af=ae∧∃(ag:GH),GLe G ag∧Fr a 26 [(0,v0),(1,v1),(5,iv af)]∧Mem W ag w (H)) ac ⟨_,Z,_,gr,f.k Z,m⟩ ?_)
   clear ac f m
   rintro ae ah ai aj a w ⟨af,rfl,ag,ak,f,m⟩
   refine have h0:=rd1 ak h0;have h1:=rd1 ak h1;Ag (Ae (Ab f Z λa f=>Ab f Z λa f=>AZ underlying34 f Z Z h0 λa f=>Ai f Z Z AF λa f=>Aa ?_))
   rcases Af ai with⟨al,ai⟩|⟨al,ai⟩
   ·refine Aj f Z al (Ak (Ag (An (Ag (Bq 9 Bk (by kernel_rfl) m (AC 0 9 Z f Z λa f=>AC 1 9 Z f Z λa f=>Bd ai λam an ai=>BD 2 9 T34 h0 an Z f Z Z λao ap a aq ar f=> ?_))))))
    subst ar
    refine BC 3 9 Pl2 aq Z f Z λa f=>AC 4 9 Z f Z λa f=>AC 5 9 Z f Z λa f=>Bd ai λau av ai=>BD 6 9 T34 h1 av Z f Z Z λaw ax a ay az f=> ?_
    subst az
    refine BC 7 9 Pl2 ay Z f Z λa f=>q_p 8 9 Z f (λ_=>BY (f.e Z) (f.e Z) BZ) λa f=>BB λaA w aB m=>Aa ?_
    rcases Af ai with⟨aC,ai⟩|⟨aC,ai⟩
    ·refine Aj f Z aC (Ae (Ac f Z λa f=>Aa (Ao ?_)))
     obtain rfl:=sj ai
     obtain rfl:=aj _ rfl
     obtain rfl:=sj hd
     exact⟨[(.bool false)],f.g Z,f.d,_,[],(gt ak aB),m,Z,Z⟩
    ·refine Ah f Z aC (Ak (Ap (Ab f Z λa f=>Ai f Z Z AJ λa f=>Ac f Z λa f=>Aa ?_)))
     obtain rfl:=sj ai
     exact⟨_,Z,_,Z,_,(gt ak aB),f.k Z,m⟩
   ·refine Ah f Z al (AL Z ?_)
    obtain rfl:=sj ai
    obtain rfl:=aj _ rfl
    exact⟨_,Z,_,ak,f.weak trivial,m⟩
  ·rintro a w ⟨_,rfl,ad,aD,f,m⟩
   refine Ae (Ac f Z λa f=>Aa (Ao ?_))
   obtain rfl:=sj hd
   exact⟨[(.bool true)],f.g Z,f.d,_,[],aD,m,Z,Z⟩
theorem Wk.O {v0 v1:Value}{x0 x1:LL}(m:Mem W G w (H))(h0:R2 G v0 x0)(h1:R2 G v1 x1){y:Bool}(hd:D.O x0 x1=some y):
  Calls prog 18 #[v0,v1] w (Res W G H (λ_ Ho v=>Ho=[]∧v=(.bool y))):=by
 refine Aw (args:=[v0,v1]) (N:=27) [.tmp 4] func18 Z Z (lb Z) Z λa f=> ?_
 unfold D.O at hd
 refine Ae (Ac f Z λa f=>Aa (Ag (Ae (Ab f Z λa f=>AZ underlying22 f Z Z h0 λa f=>Ab f Z λa f=>AZ underlying22 f Z Z h1 λa f=>Ai f Z Z BZ λa f=>Aa ?_))))
 rcases Af hd with⟨aa,hd⟩|⟨aa,hd⟩
 ·refine Aj f Z aa (Ae (Ac f Z λa f=>Aa (Ao ?_)))
  obtain rfl:=sj hd
  exact⟨[(.bool false)],f.g Z,f.d,_,[],gr,m,Z,Z⟩
 ·refine Ah f Z aa (Ak (Ag (Ae (Ac f Z λa f=>Aa (Bd hd λab ac hd=> ?_)))))
  refine AW (λa w=>∃q_42':Unit,ab= .inl q_42'∧∃(ad:GH),GLe G ad∧Fr a 27 []∧Mem W ad w (H)) ?_ ?_
  ·refine An (AN (λae a w=>∃af:Int,af=ae∧∃(ag:GH),GLe G ag∧Fr a 27 [(0,v0),(1,v1),(5,iv af)]∧Mem W ag w (H)) ac ⟨_,Z,_,gr,f.k Z,m⟩ ?_)
   clear ac f m
   rintro ae ah ai aj a w ⟨af,rfl,ag,ak,f,m⟩
   refine have h0:=rd2 ak h0;have h1:=rd2 ak h1;Ag (Ae (Ab f Z λa f=>Ab f Z λa f=>AZ underlying22 f Z Z h0 λa f=>Ai f Z Z AF λa f=>Aa ?_))
   rcases Af ai with⟨al,ai⟩|⟨al,ai⟩
   ·refine Aj f Z al (Ak (Ag (An (Ag (Bq 10 Bk (by kernel_rfl) m (AC 0 10 Z f Z λa f=>AC 1 10 Z f Z λa f=>Bd ai λam an ai=>BD 2 10 T22 h0 an Z f Z Z λao ap a aq ar f=>BC 3 10 Bv aq Z f Z λa f=>AC 4 10 Z f Z λa f=>AC 5 10 Z f Z λa f=>Bd ai λau av ai=>BD 6 10 T22 h1 av Z f Z Z λaw ax a ay az f=>BC 7 10 Bv ay Z f Z λa f=>Bd ai λaA aB ai=>Ca (i:=8) 10 Z (by kernel_rfl) Z f Z Z Z call41 (λ_ _ w aC m=>Wk.i m (rd1 aC ar) (rd1 aC az) aB) λa f=>q_p 9 10 Z f (λ_=>Bf (f.e Z)) λa f=>BB λaD w aE m=>Aa ?_))))))
    rcases Af ai with⟨aF,ai⟩|⟨aF,ai⟩
    ·refine Aj f Z aF (Ae (Ac f Z λa f=>Aa (Ao ?_)))
     obtain rfl:=sj ai
     obtain rfl:=aj _ rfl
     obtain rfl:=sj hd
     exact⟨[(.bool false)],f.g Z,f.d,_,[],(gt ak aE),m,Z,Z⟩
    ·refine Ah f Z aF (Ak (Ap (Ab f Z λa f=>Ai f Z Z AJ λa f=>Ac f Z λa f=>Aa ?_)))
     obtain rfl:=sj ai
     exact⟨_,Z,_,Z,_,(gt ak aE),f.k Z,m⟩
   ·refine Ah f Z al (AL Z ?_)
    obtain rfl:=sj ai
    obtain rfl:=aj _ rfl
    exact⟨_,Z,_,ak,f.weak trivial,m⟩
  ·rintro a w ⟨_,rfl,ad,aG,f,m⟩
   refine Ae (Ac f Z λa f=>Aa (Ao ?_))
   obtain rfl:=sj hd
   exact⟨[(.bool true)],f.g Z,f.d,_,[],aG,m,Z,Z⟩
theorem Wk.x {aa ab:Value}{ac ad:LL}(m:Mem W G w (H))(ae:R2 G aa ac)(af:R2 G ab ad){y:Bool}(hd:D.x ac ad=some y):
  Calls prog 6 #[(.agg #[aa]),(.agg #[ab])] w (Res W G H (λ_ Ho v=>Ho=[]∧v=(.bool y))):=by
 refine Aw (args:=[(.agg #[aa]),(.agg #[ab])]) (N:=11) [.tmp 4] func6 Z Z (lb Z) Z λa f=> ?_
 unfold D.x at hd
 refine Ae (B8 (cs:=[aa]) m f Z Z Z λag w a m f=>B8 (cs:=[ab]) m f Z Z Z λah w a m f=>Ac f Z λa f=>Aa (Ag (Ae (BJ underlying24 Z sizeOf22 f Z λa f=>A4 1 0 m BA f Z Z Z Z λa f=>BJ underlying24 Z sizeOf22 f Z λa f=>A4 0 0 m BA f Z Z Z Z λa f=>Bd hd λai aj hd=>Bh f Z call18 (Wk.O m ae af aj) λak w al m a f=>l_o f (Bf (f.e Z)) λa f=>Aa ?_))))
 rcases Af hd with⟨am,hd⟩|⟨am,hd⟩
 ·refine Aj f Z am (Ae (Ac f Z λa f=>Aa (Ao (have m:=m.dp 2;?_))))
  obtain rfl:=sj hd
  exact⟨[(.bool false)],f.g Z,f.d,_,[],al,m,Z,Z⟩
 ·refine Ah f Z am (Ak (Ae (Ac f Z λa f=>Aa (Ao (have m:=m.dp 2;?_)))))
  obtain rfl:=sj hd
  exact⟨[(.bool true)],f.g Z,f.d,_,[],al,m,Z,Z⟩
theorem Wk.h {v0:Value}{it0:Itm}{x0:LI}{x1:Int}(m:Mem W G w (it0::H))(o0:Ow R0 2 G it0 v0 x0){y:Int×(LI)}(hd:D.h x0 x1=some y):
  Calls prog 42 #[v0,iv x1] w (Res W G H (λG' Ho v=>∃i0:Itm,Ho=[i0]∧v=(iv y.1)∧Ow R0 2 G' i0 v0 y.2)):=by
 refine Aw (args:=[v0,iv x1]) (N:=19) [.tmp 4] func42 Z Z (lb Z) Z λa f=> ?_
 unfold D.h at hd
 refine Ae (Ac f Z λa f=>Aa (Ag (Ae (Ac f Z λa f=>Aa (Bd hd λaa ab hd=> ?_)))))
 refine AW (λa w=>∃ac:LI,∃ad:Int,(ac,ad)=aa∧∃(ae:GH) (af:Itm),GLe G ae∧Fr a 19 [(1,iv ad)]∧Mem W ae w (af::H)∧Ow R0 2 ae af v0 ac) ?_ ?_
 ·refine An (AN (λag a w=>∃ah:LI,∃ai:Int,∃aj:Int,(ah,ai,aj)=ag∧∃(ak:GH) (al:Itm),GLe G ak∧Fr a 19 [(0,v0),(1,iv ai),(5,iv aj)]∧Mem W ak w (al::H)∧Ow R0 2 ak al v0 ah) ab ⟨_,_,_,Z,_,it0,gr,f.k Z,m,o0⟩ ?_)
  clear ab f m
  rintro ag am an ao a w ⟨ah,ai,aj,rfl,ak,al,ap,f,m,aq⟩
  refine Ag (Ae (Ab f Z λa f=>Ab f Z λa f=>B4 0 m aq Z underlying34 f Z Z λa f=>Ai f Z Z AF λa f=>Aa ?_))
  rcases Af an with⟨ar,an⟩|⟨ar,an⟩
  ·refine Aj f Z ar (Ak (Ag (An (Ae (Ab f Z λa f=>Ab f Z λa f=>Ab f Z λa f=>Bd an λau av an=>B2 0 m aq Z T34 f Z Z Z av λaw a ax f=>BW 0 m aq Z sizeOf2 f Z Z ax av Z Z Z λay w m az=>Aa (Ap (Ab f Z λa f=>Ai f Z Z AJ λa f=>Ac f Z λa f=>Aa (Ap (Ab f Z λa f=>Ai f Z Z AJ λa f=>Ac f Z λa f=>Aa ?_)))))))))
   obtain rfl:=sj an
   exact⟨_,Z,_,_,_,Z,_,ay,ap,f.k Z,m,az⟩
  ·refine Ah f Z ar (AL Z ?_)
   obtain rfl:=sj an
   obtain rfl:=ao _ rfl
   exact⟨_,_,Z,_,al,ap,f.k Z,m,aq⟩
 ·rintro a w ⟨ac,ad,rfl,ae,af,aA,f,m,aB⟩
  refine Ae (Ab f Z λa f=>Ac f Z λa f=>Aa (Ao ?_))
  obtain rfl:=sj hd
  exact⟨[iv ad],f.g Z,f.d,_,[af],aA,m,_,Z,Z,aB⟩
theorem Wk.J {v0:Value}{it0:Itm}{x0:LL}{x1:Int}(m:Mem W G w (it0::H))(o0:Ow2 R0 34 2 G it0 v0 x0){y:Int×(LL)}(hd:D.J x0 x1=some y):
  Calls prog 19 #[v0,iv x1] w (Res W G H (λG' Ho v=>∃i0:Itm,Ho=[i0]∧v=(iv y.1)∧Ow2 R0 34 2 G' i0 v0 y.2)):=by
 refine Aw (args:=[v0,iv x1]) (N:=19) [.tmp 4] func19 Z Z (lb Z) Z λa f=> ?_
 unfold D.J at hd
 refine Ae (Ac f Z λa f=>Aa (Ag (Ae (Ac f Z λa f=>Aa (Bd hd λaa ab hd=> ?_)))))
 refine AW (λa w=>∃ac:LL,∃ad:Int,(ac,ad)=aa∧∃(ae:GH) (af:Itm),GLe G ae∧Fr a 19 [(1,iv ad)]∧Mem W ae w (af::H)∧Ow2 R0 34 2 ae af v0 ac) ?_ ?_
 ·refine An (AN (λag a w=>∃ah:LL,∃ai:Int,∃aj:Int,(ah,ai,aj)=ag∧∃(ak:GH) (al:Itm),GLe G ak∧Fr a 19 [(0,v0),(1,iv ai),(5,iv aj)]∧Mem W ak w (al::H)∧Ow2 R0 34 2 ak al v0 ah) ab ⟨_,_,_,Z,_,it0,gr,f.k Z,m,o0⟩ ?_)
  clear ab f m
  rintro ag am an ao a w ⟨ah,ai,aj,rfl,ak,al,ap,f,m,aq⟩
  refine Ag (Ae (Ab f Z λa f=>Ab f Z λa f=>l_own2_len 0 m aq Z underlying22 f Z Z λa f=>Ai f Z Z AF λa f=>Aa ?_))
  rcases Af an with⟨ar,an⟩|⟨ar,an⟩
  ·refine Aj f Z ar (Ak (Ag (An (Ap (Ab f Z λa f=>Ab f Z λa f=>Bd an λau av an=>l_own2_at 0 m aq Z T22 f Z Z Z av λaw a ax f=>l_own2_load 0 m aq Z Bv f Z Z ax av λay a az f=>Ab f Z λa f=>Bd an λaA aB an=>Bs f Z call42 (Ow2.callAt aq (RI.mono _) m av az (λinn Hs m oi=>Wk.h m oi aB)) λaC aD aE w aF m aG a f=> ?_)))))
   obtain⟨aH,rfl,rfl,aI⟩:=aG
   refine Ac f Z λa f=>Aa (Ap (Ab f Z λa f=>Ai f Z Z AJ λa f=>Ac f Z λa f=>Aa ?_))
   obtain rfl:=sj an
   exact⟨_,Z,_,_,_,Z,_,aH,(gt ap aF),f.k Z,m,aI⟩
  ·refine Ah f Z ar (AL Z ?_)
   obtain rfl:=sj an
   obtain rfl:=ao _ rfl
   exact⟨_,_,Z,_,al,ap,f.k Z,m,aq⟩
 ·rintro a w ⟨ac,ad,rfl,ae,af,aJ,f,m,aK⟩
  refine Ae (Ab f Z λa f=>Ac f Z λa f=>Aa (Ao ?_))
  obtain rfl:=sj hd
  exact⟨[iv ad],f.g Z,f.d,_,[af],aJ,m,_,Z,Z,aK⟩
theorem Wk.K {aa:Value}{ab:Itm}{ac:LL}{x1:Int}(m:Mem W G w (ab::H))(ad:Ow2 R0 34 2 G ab aa ac){y:Int×(LL)}(hd:D.K ac x1=some y):
  Calls prog 7 #[(.agg #[aa]),iv x1] w (Res W G H (λG' Ho v=>∃i0:Itm,Ho=[i0]∧v=(iv y.1)∧Ow2 R0 34 2 G' i0 aa y.2)):=by
 refine Aw (args:=[(.agg #[aa]),iv x1]) (N:=10) [.tmp 4] func7 Z Z (lb Z) Z λa f=> ?_
 unfold D.K at hd
 refine Ae (B8 (cs:=[aa]) m f Z Z Z λae w a m f=>Ac f Z λa f=>AI (BJ underlying24 Z sizeOf22 f Z λa f=>A4 0 0 m BA f Z Z Z Z λa f=>Ab f Z λa f=>have m:=m.fr 1;Bd hd λaf ag hd=>Bs f Z call19 (Wk.J m ad ag) λah ai aj w ak m al a f=> ?_))
 obtain⟨am,rfl,rfl,an⟩:=al
 refine Ac f Z λa f=>AI (Ab f Z λa f=>Ac f Z λa f=>Aa (Ao (have m:=m.eraseAt 1;?_)))
 obtain rfl:=sj hd
 exact⟨[iv af.1],f.g Z,f.d,_,[am],ak,m,_,Z,Z,an⟩
theorem Wk.g {v0:Value}{x0:LI}{x1:Int}(m:Mem W G w (H))(h0:R1 G v0 x0){y:Int}(hd:D.g x0 x1=some y):
  Calls prog 43 #[v0,iv x1] w (Res W G H (λ_ Ho v=>Ho=[]∧v=(iv y))):=by
 refine Aw (args:=[v0,iv x1]) (N:=21) [.tmp 4] func43 Z Z (lb Z) Z λa f=> ?_
 unfold D.g at hd
 refine Ae (Ac f Z λa f=>Aa (Ag (Ae (Ac f Z λa f=>Aa (Bd hd λaa ab hd=> ?_)))))
 refine AW (λa w=>∃q_20':Int,aa= .inl q_20'∧∃ac:Int,ac=q_20'∧∃(ad:GH),GLe G ad∧Fr a 21 [(1,iv ac)]∧Mem W ad w (H)) ?_ ?_
 ·refine An (AN (λae a w=>∃af:Int,∃ag:Int,(af,ag)=ae∧∃(ah:GH),GLe G ah∧Fr a 21 [(0,v0),(1,iv af),(5,iv ag)]∧Mem W ah w (H)) ab ⟨_,_,Z,_,gr,f.k Z,m⟩ ?_)
  clear ab f m
  rintro ae ai aj ak a w ⟨af,ag,rfl,ah,al,f,m⟩
  refine have h0:=rd1 al h0;Ag (Ae (Ab f Z λa f=>Ab f Z λa f=>AZ underlying34 f Z Z h0 λa f=>Ai f Z Z AF λa f=>Aa ?_))
  rcases Af aj with⟨am,aj⟩|⟨am,aj⟩
  ·refine Aj f Z am (Ak (Ag (An (Ag (Ae (Ab f Z λa f=>Ab f Z λa f=>Bd aj λan ao aj=>Bx T34 f Z Z Z h0 ao λap aq a ar au f=> ?_))))))
   subst au
   refine AM m Pl2 f Z Z ar λa f=>Ab f Z λa f=>Ai f Z Z BZ λa f=>Aa ?_
   rcases Af aj with⟨av,aj⟩|⟨av,aj⟩
   ·refine Aj f Z av (Ae (Ac f Z λa f=>Aa (Ao ?_)))
    obtain rfl:=sj aj
    obtain rfl:=ak _ rfl
    obtain rfl:=sj hd
    exact⟨[(iv (-1))],f.g Z,f.d,_,[],al,m,Z,Z⟩
   ·refine Ah f Z av (Ak (Ap (Ab f Z λa f=>Ai f Z Z AJ λa f=>Ac f Z λa f=>Aa (Ap (Ab f Z λa f=>Ai f Z Z AJ λa f=>Ac f Z λa f=>Aa ?_)))))
    obtain rfl:=sj aj
    exact⟨_,Z,_,_,Z,_,al,f.k Z,m⟩
  ·refine Ah f Z am (AL Z ?_)
   obtain rfl:=sj aj
   obtain rfl:=ak _ rfl
   exact⟨_,Z,_,Z,_,al,f.k Z,m⟩
 ·rintro a w ⟨_,rfl,ac,rfl,ad,aw,f,m⟩
  refine Ae (Ab f Z λa f=>Ac f Z λa f=>Aa (Ao ?_))
  obtain rfl:=sj hd
  exact⟨[iv ac],f.g Z,f.d,_,[],aw,m,Z,Z⟩
theorem Wk.U {v0:Value}{x0:LL}{x1:Int}(m:Mem W G w (H))(h0:R2 G v0 x0){y:Int}(hd:D.U x0 x1=some y):
  Calls prog 20 #[v0,iv x1] w (Res W G H (λ_ Ho v=>Ho=[]∧v=(iv y))):=by
 refine Aw (args:=[v0,iv x1]) (N:=21) [.tmp 4] func20 Z Z (lb Z) Z λa f=> ?_
 unfold D.U at hd
 refine Ae (Ac f Z λa f=>Aa (Ag (Ae (Ac f Z λa f=>Aa (Bd hd λaa ab hd=> ?_)))))
 refine AW (λa w=>∃q_34':Int,aa= .inl q_34'∧∃ac:Int,ac=q_34'∧∃(ad:GH),GLe G ad∧Fr a 21 [(1,iv ac)]∧Mem W ad w (H)) ?_ ?_
 ·refine An (AN (λae a w=>∃af:Int,∃ag:Int,(af,ag)=ae∧∃(ah:GH),GLe G ah∧Fr a 21 [(0,v0),(1,iv af),(5,iv ag)]∧Mem W ah w (H)) ab ⟨_,_,Z,_,gr,f.k Z,m⟩ ?_)
  clear ab f m
  rintro ae ai aj ak a w ⟨af,ag,rfl,ah,al,f,m⟩
  refine have h0:=rd2 al h0;Ag (Ae (Ab f Z λa f=>Ab f Z λa f=>AZ underlying22 f Z Z h0 λa f=>Ai f Z Z AF λa f=>Aa ?_))
  rcases Af aj with⟨am,aj⟩|⟨am,aj⟩
  ·refine Aj f Z am (Ak (Ag (An (Ae (Ab f Z λa f=>Ab f Z λa f=>Bd aj λan ao aj=>Bx T22 f Z Z Z h0 ao λap aq a ar au f=>AM m Bv f Z Z ar λa f=>Ab f Z λa f=>Bd aj λav aw aj=>Bh f Z call43 (Wk.g m au aw) λax w ay m a f=>Ac f Z λa f=>AI (Ab f Z λa f=>Ai f Z Z AF λa f=>Aa ?_))))))
   rcases Af aj with⟨az,aj⟩|⟨az,aj⟩
   ·refine Aj f Z az (Ae (Ac f Z λa f=>Aa (Ao ?_)))
    obtain rfl:=sj aj
    obtain rfl:=ak _ rfl
    obtain rfl:=sj hd
    exact⟨[(iv (-1))],f.g Z,f.d,_,[],(gt al ay),m,Z,Z⟩
   ·refine Ah f Z az (Ak (Ap (Ab f Z λa f=>Ai f Z Z AJ λa f=>Ac f Z λa f=>Aa ?_)))
    obtain rfl:=sj aj
    exact⟨_,Z,_,_,Z,_,(gt al ay),f.k Z,m⟩
  ·refine Ah f Z am (AL Z ?_)
   obtain rfl:=sj aj
   obtain rfl:=ak _ rfl
   exact⟨_,Z,_,Z,_,al,f.k Z,m⟩
 ·rintro a w ⟨_,rfl,ac,rfl,ad,aA,f,m⟩
  refine Ae (Ab f Z λa f=>Ac f Z λa f=>Aa (Ao ?_))
  obtain rfl:=sj hd
  exact⟨[iv ac],f.g Z,f.d,_,[],aA,m,Z,Z⟩
theorem Wk.y {aa:Value}{ab:LL}{x1:Int}(m:Mem W G w (H))(ac:R2 G aa ab){y:Int}(hd:D.y ab x1=some y):
  Calls prog 8 #[(.agg #[aa]),iv x1] w (Res W G H (λ_ Ho v=>Ho=[]∧v=(iv y))):=by
 refine Aw (args:=[(.agg #[aa]),iv x1]) (N:=12) [.tmp 4] func8 Z Z (lb Z) Z λa f=> ?_
 unfold D.y at hd
 refine Ae (B8 (cs:=[aa]) m f Z Z Z λad w a m f=>Ac f Z λa f=>AI (BJ underlying24 Z sizeOf22 f Z λa f=>A4 0 0 m BA f Z Z Z Z λa f=>Ab f Z λa f=>Bd hd λae af hd=>Bh f Z call20 (Wk.U m ac af) λag w ah m a f=>Ac f Z λa f=>Aa (Ag (Ae (Ab f Z λa f=>Ai f Z Z AF λa f=>Aa ?_)))))
 rcases Af hd with⟨ai,hd⟩|⟨ai,hd⟩
 ·refine Aj f Z ai (Ae (Ac f Z λa f=>Aa (Ao (have m:=m.dp 1;?_))))
  obtain rfl:=sj hd
  exact⟨[(iv (-1))],f.g Z,f.d,_,[],ah,m,Z,Z⟩
 ·refine Ah f Z ai (Ak (Ae (Ab f Z λa f=>Ac f Z λa f=>Aa (Ao (have m:=m.dp 1;?_)))))
  obtain rfl:=sj hd
  exact⟨[iv ae],f.g Z,f.d,_,[],ah,m,Z,Z⟩
set_option maxHeartbeats 1000000 in
theorem Wk.a0 {x0:ByteArray}(hW:TxtW W)(m:Mem W G w (H)){y:Bool}(hd:D.a0 x0=some y):
  Calls prog 3 #[(.string x0)] w (Res W G H (λ_ Ho v=>Ho=[]∧v=(.bool y))):=by
 refine Aw (args:=[(.string x0)]) (N:=66) [.tmp 2] func3 Z Z (lb Z) Z λa f=> ?_
 unfold D.a0 at hd
 refine Ae (Ac f Z λa f=>Aa (Ag (Ae (Ab f Z λa f=>l_o f (Bu (f.e Z) underlying9) λa f=>Ai f Z Z BO λa f=>Aa ?_))))
 rcases Af hd with⟨aa,hd⟩|⟨aa,hd⟩
 ·refine Aj f Z aa (Ae (Ac f Z λa f=>Aa (Ao ?_)))
  obtain rfl:=sj hd
  exact⟨[(.bool true)],f.g Z,f.d,_,[],gr,m,Z,Z⟩
 ·refine Ah f Z aa (Ak (Ae (Ab f Z λa f=>Bd hd λab ac hd=>Bs f Z call4 (Wk.s m ac) λad ae af w ag m ah a f=> ?_)))
  obtain⟨ai,aj,rfl,rfl,ak⟩:=ah
  refine Ab f Z λa f=>l_o f (Az (f.e Z) Z) λa f=>l_o f (Az (f.e Z) Z) λa f=>Bg (cs:=[sn]) zeroValue24 m f Z Z λal w a m f=>Au 0 0 (ds:=[ai]) m sizeOf24 f Z Z Z (Ax (Ow.one1 1 m ak Z) AB) Z (lb Z) Z λw m=>Ac f Z λa f=>AI (Ab f Z λa f=>Bd hd λam an hd=>Bs f Z call5 (Wk.k hW m an) λao ap aq w ar m au a f=> ?_)
  obtain⟨av,aw,rfl,rfl,ax⟩:=au
  refine have ak:=od3 ar ak;Ab f Z λa f=>l_o f (Az (f.e Z) Z) λa f=>l_o f (Az (f.e Z) Z) λa f=>Bg (cs:=[sn]) zeroValue24 m f Z Z λay w a m f=>Au 0 0 (ds:=[av]) m sizeOf24 f Z Z Z (Ax (Ow2.one1 1 m ax Z) AB) Z (lb Z) Z λw m=>Ac f Z λa f=>Aa (Ag (Ae (AR 0 0 (ds:=[av]) m AT f Z Z Z Z Z λa f=>AR 2 0 (ds:=[ai]) m AT f Z Z Z Z Z λa f=>Bd hd λaz aA hd=>Bs f Z call6 (Ow2.lendCall (RI.mono _) 1 ax m Z (λaB aC m aD=>(Ow.lendCall (RSl.mono (RI.mono _)) 2 (od3 aC ak) m Z (λaE aF m aG=>Wk.x m (rd2 aF aD) aG aA) (λ_ _ _ _ h=>h))) (λ_ _ _ _ h=>h)) λaH aI aJ w aK m aL a f=> ?_)))
  obtain⟨rfl,rfl⟩:=aL
  refine have ax:=od2 aK ax;have ak:=od3 aK ak;l_o f (Bf (f.e Z)) λa f=>Ab f Z λa f=> ?_
  refine A3 4 (λa w=>∃aM,GLe aI aM∧Mem W aM w (ib ay 24 [av]::aw::ib al 24 [ai]::aj::H)∧Fr a 66 [(0,(.string x0)),(3,pb al),(4,(.bool ab.2)),(5,pb ay),(6,(.bool am.2)),(24,(.agg #[av])),(25,(.agg #[ai])),(26,(.bool az)),(27,(.bool (!az))),(28,(.bool (!az))),(32,(.bool ((!az)||(am.2 !=ab.2))))]) ?_ ?_
  ·rcases Bool.eq_false_or_eq_true (!az) with aN|aN
   ·exact Am f aN λa f=>Am f aN λa f=>Am f aN λa f=>l_o f (AD (f.e Z) aN (f.e Z)) λa f=>⟨_,gr,m,f.weak ⟨Z,Z,Z,Z,Z,Z,Z,Z,Z,Z,by rw[aN];rfl,trivial⟩⟩
   ·exact Al f aN (Ab f Z λa f=>Al f aN (Ab f Z λa f=>Al f aN (l_o f (r_bool_neq (f.e Z) (f.e Z) underlying4) λa f=>l_o f (AE (f.e Z) aN (f.e Z)) λa f=>⟨_,gr,m,f.weak ⟨Z,Z,Z,Z,Z,Z,Z,Z,Z,Z,by rw[aN];rfl,trivial⟩⟩)))
  ·rintro a w ⟨aM,aO,m,f⟩
   refine have ax:=od2 aO ax;have ak:=od3 aO ak;Aa ?_
   rcases Af hd with⟨aP,hd⟩|⟨aP,hd⟩
   ·refine Aj f Z aP (Ae (Ac f Z λa f=>Aa (Ao (have m:=m.dp 4;?_))))
    obtain rfl:=sj hd
    exact⟨[(.bool false)],f.g Z,f.d,_,[],(gt ag (gt ar (gt aK aO))),m,Z,Z⟩
   ·refine Ah f Z aP (Ak (Ae (Ac f Z λa f=>AI (AR 0 0 (ds:=[av]) m AT f Z Z Z Z Z λa f=>Ab f Z λa f=>have m:=m.fr 1;Bd hd λaQ aR hd=>Bs f Z call7 (Wk.K m ax aR) λaS aT aU w aV m aW a f=> ?_))))
    obtain⟨aX,rfl,rfl,aY⟩:=aW
    refine have ak:=od3 aV ak;Ac f Z λa f=>AI (Ac f Z λa f=>AI (AR 1 0 (ds:=[av]) m AT f Z Z Z Z Z λa f=>Ab f Z λa f=>Bd hd λaZ a0 hd=>Bs f Z call8 (Ow2.lendCall (RI.mono _) 0 aY m Z (λa1 a2 m a3=>Wk.y m a3 a0) (λ_ _ _ _ h=>h)) λa4 a5 a6 w a7 m a8 a f=> ?_))
    obtain⟨rfl,rfl⟩:=a8
    refine have aY:=od2 a7 aY;have ak:=od3 a7 ak;Ac f Z λa f=>Aa (Ag (Ae (Ab f Z λa f=>Ai f Z Z AF λa f=>Aa ?_)))
    rcases Af hd with⟨a9,hd⟩|⟨a9,hd⟩
    ·refine Aj f Z a9 (Ae (Ac f Z λa f=>Aa (Ao (have m:=m.dp 4;?_))))
     obtain rfl:=sj hd
     exact⟨[(.bool false)],f.g Z,f.d,_,[],(gt ag (gt ar (gt aK (gt aO (gt aV a7))))),m,Z,Z⟩
    ·refine Ah f Z a9 (Ak (Ag (Ae (Ab f Z λa f=>Ab f Z λa f=>Ai f Z Z BZ λa f=>Aa ?_))))
     rcases Af hd with⟨ba,hd⟩|⟨ba,hd⟩
     ·refine Aj f Z ba (Ae (Ac f Z λa f=>Aa (Ao (have m:=m.dp 4;?_))))
      obtain rfl:=sj hd
      exact⟨[(.bool false)],f.g Z,f.d,_,[],(gt ag (gt ar (gt aK (gt aO (gt aV a7))))),m,Z,Z⟩
     ·refine Ah f Z ba (Ak (Ae (Ab f Z λa f=>Bd hd λbb bc hd=>Bs f Z call5 (Wk.k hW m bc) λbd be bf w bg m bh a f=> ?_)))
      obtain⟨bi,bj,rfl,rfl,bk⟩:=bh
      refine have aY:=od2 bg aY;have ak:=od3 bg ak;Ab f Z λa f=>l_o f (Az (f.e Z) Z) λa f=>l_o f (Az (f.e Z) Z) λa f=>Bg (cs:=[sn]) zeroValue24 m f Z Z λbl w a m f=>Au 0 0 (ds:=[bi]) m sizeOf24 f Z Z Z (Ax (Ow2.one1 1 m bk Z) AB) Z (lb Z) Z λw m=>Ac f Z λa f=>Aa (Ag (Ae (AR 0 0 (ds:=[bi]) m AT f Z Z Z Z Z λa f=>AR 4 0 (ds:=[ai]) m AT f Z Z Z Z Z λa f=>Bd hd λbm bn hd=>Bs f Z call6 (Ow2.lendCall (RI.mono _) 1 bk m Z (λbo bp m bq=>(Ow.lendCall (RSl.mono (RI.mono _)) 4 (od3 bp ak) m Z (λbr bs m bt=>Wk.x m (rd2 bs bq) bt bn) (λ_ _ _ _ h=>h))) (λ_ _ _ _ h=>h)) λbu bv bw w bx m bz a f=> ?_)))
      obtain⟨rfl,rfl⟩:=bz
      refine have aY:=od2 bx aY;l_o f (Bf (f.e Z)) λa f=>Ab f Z λa f=> ?_
      refine A3 4 (λa w=>∃bA,GLe bv bA∧Mem W bA w (ib bl 24 [bi]::bj::aX::ib ay 24 [av]::ib al 24 [ai]::aj::H)∧Fr a 66 [(0,(.string x0)),(3,pb al),(4,(.bool ab.2)),(5,pb ay),(6,(.bool am.2)),(7,iv aQ.1),(8,iv aZ),(9,pb bl),(10,(.bool bb.2)),(49,(.agg #[bi])),(50,(.agg #[ai])),(51,(.bool bm)),(52,(.bool (!bm))),(53,(.bool (!bm))),(57,(.bool ((!bm)||(bb.2 !=ab.2))))]) ?_ ?_
      ·rcases Bool.eq_false_or_eq_true (!bm) with bB|bB
       ·exact Am f bB λa f=>Am f bB λa f=>Am f bB λa f=>l_o f (AD (f.e Z) bB (f.e Z)) λa f=>⟨_,gr,m,f.weak ⟨Z,Z,Z,Z,Z,Z,Z,Z,Z,Z,Z,Z,Z,Z,by rw[bB];rfl,trivial⟩⟩
       ·exact Al f bB (Ab f Z λa f=>Al f bB (Ab f Z λa f=>Al f bB (l_o f (r_bool_neq (f.e Z) (f.e Z) underlying4) λa f=>l_o f (AE (f.e Z) bB (f.e Z)) λa f=>⟨_,gr,m,f.weak ⟨Z,Z,Z,Z,Z,Z,Z,Z,Z,Z,Z,Z,Z,Z,by rw[bB];rfl,trivial⟩⟩)))
      ·rintro a w ⟨bA,bC,m,f⟩
       refine have aY:=od2 bC aY;Aa ?_
       rcases Af hd with⟨bD,hd⟩|⟨bD,hd⟩
       ·refine Aj f Z bD (Ae (Ac f Z λa f=>Aa (Ao (have m:=m.dp 6;?_))))
        obtain rfl:=sj hd
        exact⟨[(.bool false)],f.g Z,f.d,_,[],(gt ag (gt ar (gt aK (gt aO (gt aV (gt a7 (gt bg (gt bx bC)))))))),m,Z,Z⟩
       ·refine Ah f Z bD (Ak (Ae (Ac f Z λa f=>AI (AR 3 0 (ds:=[av]) m AT f Z Z Z Z Z λa f=>Ab f Z λa f=>Bd hd λbE bF hd=>Bs f Z call8 (Ow2.lendCall (RI.mono _) 2 aY m Z (λbG bH m bI=>Wk.y m bI bF) (λ_ _ _ _ h=>h)) λbJ bK bL w bM m bN a f=> ?_))))
        obtain⟨rfl,rfl⟩:=bN
        refine Ac f Z λa f=>Aa (Ag (Ae (Ab f Z λa f=>Ai f Z Z AF λa f=>Aa ?_)))
        rcases Af hd with⟨bO,hd⟩|⟨bO,hd⟩
        ·refine Aj f Z bO (Ae (Ac f Z λa f=>Aa (Ao (have m:=m.dp 6;?_))))
         obtain rfl:=sj hd
         exact⟨[(.bool false)],f.g Z,f.d,_,[],(gt ag (gt ar (gt aK (gt aO (gt aV (gt a7 (gt bg (gt bx (gt bC bM))))))))),m,Z,Z⟩
        ·refine Ah f Z bO (Ak (Ag (Ae (Ab f Z λa f=>Ab f Z λa f=>Ai f Z Z BZ λa f=>Aa ?_))))
         rcases Af hd with⟨bP,hd⟩|⟨bP,hd⟩
         ·refine Aj f Z bP (Ae (Ac f Z λa f=>Aa (Ao (have m:=m.dp 6;?_))))
          obtain rfl:=sj hd
          exact⟨[(.bool false)],f.g Z,f.d,_,[],(gt ag (gt ar (gt aK (gt aO (gt aV (gt a7 (gt bg (gt bx (gt bC bM))))))))),m,Z,Z⟩
         ·refine Ah f Z bP (Ak (Ae (Ac f Z λa f=>Aa (Ao (have m:=m.dp 6;?_)))))
          obtain rfl:=sj hd
          exact⟨[(.bool true)],f.g Z,f.d,_,[],(gt ag (gt ar (gt aK (gt aO (gt aV (gt a7 (gt bg (gt bx (gt bC bM))))))))),m,Z,Z⟩
end Go.Proofs.YtgkgmdnjnjliiaaDoor

namespace Go.Sx
open Go.Lib
def spl (c:UInt8):List UInt8→List (List UInt8)
 |[]=>[[]]
 |b::r=>if b=c then []::spl c r else match spl c r with
  |[]=>[[b]]
  |x::y=>(b::x)::y
theorem spl_ne (c:UInt8):∀s,spl c s≠[]
 |[]=>by simp[spl]
 |b::r=>by
  unfold spl
  split
  ·simp
  ·split<;>simp
theorem spl_no {c:UInt8}{x:List UInt8}(h:c∉x):spl c x=[x]:=by
 induction x with
 |nil=>rfl
 |cons b r ih=>
  have h1:b≠c:=λe=>h (by simp[e])
  have h2:c∉r:=λe=>h (by simp[e])
  rw[spl,if_neg h1,ih h2]
theorem Dk {c:UInt8}{x:List UInt8}(h:c∉x)(y:List UInt8):spl c (x++c::y)=x::spl c y:=by
 induction x with
 |nil=>simp[spl]
 |cons b r ih=>
  have h1:b≠c:=λe=>h (by simp[e])
  have h2:c∉r:=λe=>h (by simp[e])
  rw[List.cons_append,spl,if_neg h1,ih h2]
theorem spl_has {c:UInt8}:∀{s:List UInt8},c∈s→∃x y,s=x++c::y∧c∉x
 |b::r,h=>by
  by_cases hb:b=c
  ·exact⟨[],r,by simp[hb],by simp⟩
  ·have hr:c∈r:=by
    rcases List.mem_cons.1 h with h|h
    ·exact absurd h.symm hb
    ·exact h
   obtain⟨x,y,e,hx⟩:=spl_has hr
   refine⟨b::x,y,by rw[e,List.cons_append],?_⟩
   intro h
   rcases List.mem_cons.1 h with h|h
   ·exact hb h.symm
   ·exact hx h
 |[],h=>by simp at h
theorem spl_len (c:UInt8):∀s:List UInt8,(spl c s).length≤s.length+1
 |[]=>by simp[spl]
 |b::r=>by
  have:=spl_len c r
  unfold spl
  split
  ·simp;omega
  ·split
   ·simp
   ·rename_i x y e;rw[e] at this;simp at this ⊢;omega
theorem spl_part (c:UInt8):∀(s:List UInt8),∀x∈spl c s,x.length≤s.length
 |[],x,h=>by simp[spl] at h;simp[h]
 |b::r,x,h=>by
  have ih:=spl_part c r
  unfold spl at h
  split at h
  ·rcases List.mem_cons.1 h with rfl|h
   ·simp
   ·have:=ih x h;simp;omega
  ·split at h
   ·simp at h;simp[h]
   ·rename_i y z e
    rw[e] at ih
    rcases List.mem_cons.1 h with rfl|h
    ·have:=ih y (by simp);simp;omega
    ·have:=ih x (by simp[h]);simp;omega
theorem index_no {c:UInt8}:∀{x:List UInt8},c∉x→index x [c]= -1
 |[],_=>by simp[index]
 |b::r,h=>by
  have h1:c≠b:=λe=>h (by simp[e])
  have h2:c∉r:=λe=>h (by simp[e])
  rw[index,index_no h2]
  simp[List.isPrefixOf,h1]
theorem Da {c:UInt8}:∀{x:List UInt8},c∉x→∀y,index (x++c::y) [c]=(x.length:Int)
 |[],_,y=>by simp[index,List.isPrefixOf]
 |b::r,h,y=>by
  have h1:c≠b:=λe=>h (by simp[e])
  have h2:c∉r:=λe=>h (by simp[e])
  rw[List.cons_append,index,Da h2 y]
  simp[List.isPrefixOf,h1]
theorem cut_no {c:UInt8}{x:List UInt8}(h:c∉x):cut x [c]=(x,[],false):=by
 unfold cut;rw[index_no h,if_neg (by omega)]
theorem cut_app {c:UInt8}{x:List UInt8}(h:c∉x)(y:List UInt8):cut (x++c::y) [c]=(x,y,true):=by
 unfold cut
 rw[Da h y,if_pos (by omega)]
 simp
theorem split_one (c:UInt8):∀(k:Nat) (s:List UInt8),s.count c=k→splitK [c] 0 k s=spl c s
 |0,s,hk=>by
  rw[spl_no (List.count_eq_zero.1 hk)];rfl
 |k+1,s,hk=>by
  have hm:c∈s:=List.count_pos_iff.1 (by omega)
  obtain⟨x,y,rfl,hx⟩:=spl_has hm
  rw[Dk hx,splitK,Da hx,if_neg (by simp)]
  have hc:y.count c=k:=by
   rw[List.count_append,List.count_cons_self,List.count_eq_zero.2 hx] at hk;omega
  simp only[Int.toNat_natCast,Nat.add_zero,List.take_left,List.length_singleton]
  rw[←split_one c k y hc]
  congr 2
  rw[show x.length+1=(x++[c]).length by simp,show x++c::y=(x++[c])++y by simp,List.drop_left]
theorem split_eq (c:UInt8)(s:ByteArray):(splitB ⟨#[c]⟩ 0 (countB s ⟨#[c]⟩) s).map (·.data.toList)=spl c s.data.toList:=by
 rw[splitB_data]
 have:countB s ⟨#[c]⟩=s.data.toList.count c:=count_one c s.data.toList
 rw[this]
 exact split_one c _ _ rfl
end Go.Sx

namespace Go.Sx
end Go.Sx



namespace Go.Sx
def Sh {α:Type}(xs:List α):Prop:=xs.length≤4294967296
theorem Dm (a b c:Int):D.a a b c=some (decide (b≤a)&&decide (a≤c)):=rfl
theorem inRange_eq (a b c:Int):D.A a b c=some (decide (b≤a)&&decide (a≤c)):=rfl
theorem any_beq (xs:LI)(n:Int):xs.any (λx=>x==n)=decide (n∈xs):=by
 rw[Bool.eq_iff_iff,List.any_eq_true];simp
theorem l1Has_eq (xs:LI)(n:Int)(h:Sh xs):D.z xs n=some (decide (n∈xs)):=by
 unfold Sh at h
 unfold D.z
 refine(loop_anyb xs.length (λi=>xs.getD i 0==n) true (λi hi=> ?_) ?_ rfl rfl).trans ?_
 ·simp only[dlt hi,cT,AA hi,bs,wi' hi (by omega),AO hi]
  cases xs[i]==n<;>rfl
 ·simp only[Ba,cF]
 ·rw[range_any_list xs (λx=>x==n) _ (λi hi=>by rw[AO hi]),any_beq]
def SetOf (xs : LI) (n : Int) : Prop := Inc xs ∧ ∀ x ∈ xs, 0 ≤ x ∧ x < n
theorem SetOf.len :∀{xs:LI} {n a:Int},Inc xs→(∀x∈xs,a≤x∧x<n)→xs=[]∨(xs.length:Int)≤n-a
 |[],_,_,_,_=> .inl rfl
 |x::xs,n,a,h,hr=>by
  right
  have h':=List.pairwise_cons.1 h
  have hx:=hr x (by simp)
  rcases SetOf.len (a:=x+1) (n:=n) h'.2 (λy hy=>⟨by have:=h'.1 y hy;omega,(hr y (by simp[hy])).2⟩) with e|e
  ·subst e;simp;omega
  ·simp;omega
theorem SetOf.length_le {xs:LI}{n:Int}(h:SetOf xs n)(hn:0≤n):(xs.length:Int)≤n:=by
 rcases SetOf.len h.1 h.2 with e|e
 ·subst e;simpa using hn
 ·omega
theorem inc_iff (xs:LI):Inc xs↔∀i (hi:i+1<xs.length),xs[i]<xs[i+1]:=by
 unfold Inc
 constructor
 ·intro h i hi
  exact List.pairwise_iff_getElem.1 h i (i+1) (by omega) hi (by omega)
 ·intro h
  rw[List.pairwise_iff_getElem]
  intro i j hi hj hij
  have key:∀k,∀hk:i+k+1<xs.length,xs[i]<xs[i+k+1]:=by
   intro k
   induction k with
   |zero=>intro hk;exact h i hk
   |succ k ih=>intro hk;have:=ih (by omega);have:=h (i+k+1) hk;exact Int.lt_trans (ih (by omega)) this
  obtain⟨k,rfl⟩:∃k,j=i+k+1:=⟨j-i-1,by omega⟩
  exact key k hj
def B7 (xs:LI)(n:Int):Bool:=(List.range xs.length).all λi=>(decide (0≤xs.getD i 0)&&decide (xs.getD i 0≤n-1))&& !(decide (0<i)&&decide (xs.getD i 0≤xs.getD (i-1) 0))
theorem CB (xs:LI)(n:Int):B7 xs n=true↔SetOf xs n:=by
 unfold B7 SetOf
 rw[CZ,inc_iff]
 constructor
 ·intro h
  refine⟨λi hi=> ?_,λx hx=> ?_⟩
  ·have:=h (i+1) hi
   simp[hi,show i<xs.length by omega] at this
   omega
  ·obtain⟨i,hi,rfl⟩:=List.getElem_of_mem hx
   have:=h i hi
   simp[hi] at this
   omega
 ·rintro⟨h1,h2⟩ i hi
  have h3:=h2 _ (List.getElem_mem hi)
  simp[hi]
  refine⟨by omega,?_⟩
  rcases Nat.eq_zero_or_pos i with h0|h0
  ·exact .inl h0
  ·right
   have:=h1 (i-1) (by omega)
   have e:i-1+1=i:=by omega
   simp only[e] at this
   have e2:xs[i-1]?.getD 0=xs[i-1]:=by rw[List.getElem?_eq_getElem (by omega)];rfl
   rw[e2];exact this
theorem increasing_eq (xs:LI)(n:Int)(h:Sh xs)(h0:0≤n)(hn:n≤4294967296):D.Q xs n=some (B7 xs n):=by
 unfold Sh at h
 unfold D.Q
 refine Ci xs.length _ false (λi hi=> ?_) ?_ rfl rfl
 ·simp only[dlt hi,cT,AA hi,bs,wi' hi (by omega),AO hi,inRange_eq]
  rw[w64 (x:=n-1) (by omega) (by omega)]
  cases (decide (0≤xs[i])&&decide (xs[i]≤n-1))
  ·simp
  ·by_cases h0:0<i
   ·have e1:IntKind.i64.wrap ((i:Int)-1)=((i-1:Nat):Int):=by rw[w64 (by omega) (by omega)];omega
    have hd:decide ((0:Int)<(i:Int))=true:=by simp;omega
    simp only[Bool.not_true,cF,hd,cT,e1,AA (show i-1<xs.length by omega),bs,AO (show i-1<xs.length by omega),h0,decide_true,Bool.true_and]
    cases decide (xs[i]≤xs[i-1])<;>rfl
   ·have hd:decide ((0:Int)<(i:Int))=false:=by simp;omega
    simp only[Bool.not_true,cF,hd,bs,h0,decide_false,Bool.false_and,Bool.not_false,Bool.and_true,if_true]
 ·simp only[Ba,cF]
theorem l1Set_eq (xs:LI)(n:Int)(h:Sh xs)(h0:0≤n)(hn:n≤4294967296):D.t xs n=some (B7 xs n):=by
 have hh:=h
 unfold Sh at h
 unfold D.t
 by_cases hl:n<xs.length
 ·have:B7 xs n=false:=by
   cases hb:B7 xs n
   ·rfl
   ·have:=((CB xs n).1 hb).length_le h0;omega
  simp[hl,this]
 ·simp only[hl,decide_false,cF]
  refine Ci xs.length _ false (λi hi=> ?_) ?_ rfl rfl
  ·simp only[dlt hi,cT,AA hi,bs,wi' hi (by omega),AO hi,Dm]
   rw[w64 (x:=n-1) (by omega) (by omega)]
   cases (decide (0≤xs[i])&&decide (xs[i]≤n-1))
   ·simp
   ·by_cases h0:0<i
    ·have e1:IntKind.i64.wrap ((i:Int)-1)=((i-1:Nat):Int):=by rw[w64 (by omega) (by omega)];omega
     have hd:decide ((0:Int)<(i:Int))=true:=by simp;omega
     simp only[Bool.not_true,cF,hd,cT,e1,AA (show i-1<xs.length by omega),bs,AO (show i-1<xs.length by omega),h0,decide_true,Bool.true_and]
     cases decide (xs[i]≤xs[i-1])<;>rfl
    ·have hd:decide ((0:Int)<(i:Int))=false:=by simp;omega
     simp only[Bool.not_true,cF,hd,bs,h0,decide_false,Bool.false_and,Bool.not_false,Bool.and_true,if_true]
  ·simp only[Ba,cF]
def row (g : LL) (v : Nat) : LI := g.getD v []
theorem row_eq {g:LL}{v:Nat}(h:v<g.length):row g v=g[v]:=AO h _
def adj (g : LL) (u v : Nat) : Prop := (v : Int) ∈ row g u
structure GOk (g : LL) : Prop where
  n1 : 1 ≤ g.length
  n16 : g.length ≤ 16
  rows : ∀ v, v < g.length → SetOf (row g v) g.length
  irr : ∀ v, v < g.length → ¬ adj g v v
  sym : ∀ u v, u < g.length → adj g u v → adj g v u
theorem GOk.mem {g:LL}(h:GOk g){u:Nat}(hu:u<g.length){x:Int}(hx:x∈row g u):∃v:Nat,x=v∧v<g.length∧adj g u v:=by
 have:=(h.rows u hu).2 x hx
 refine⟨x.toNat,by omega,by omega,?_⟩
 unfold adj
 rw[show ((x.toNat:Nat):Int)=x by omega];exact hx
theorem GOk.row_len {g:LL}(h:GOk g){u:Nat}(hu:u<g.length):(row g u).length≤16:=by
 have:=(h.rows u hu).length_le (by omega)
 have:=h.n16
 omega
theorem GOk.lt {g:LL}(h:GOk g){u v:Nat}(hu:u<g.length)(ha:adj g u v):v<g.length:=by
 obtain⟨w,h1,h2,_⟩:=h.mem hu ha
 omega
def Sh2 (g:LL):Prop:=Sh g∧∀r∈g,Sh r
theorem Sh2.row {g:LL}(h:Sh2 g){v:Nat}(hv:v<g.length):Sh (row g v):=by
 rw[row_eq hv];exact h.2 _ (List.getElem_mem hv)
theorem BQ {g:LL}{v:Nat}(h:v<g.length):idx g (v:Int)=some (row g v):=by rw[row_eq h,AA h]
def gB1 (g:LL):Bool:=(List.range g.length).all λv=>B7 (row g v) g.length&& !decide ((v:Int)∈row g v)
def gB2 (g:LL):Bool:=(List.range g.length).all λv=>(row g v).all λx=>decide ((v:Int)∈row g x.toNat)
def gB (g:LL):Bool:=decide (1≤g.length)&&decide (g.length≤16)&&gB1 g&&gB2 g
theorem gB_iff (g:LL):gB g=true↔GOk g:=by
 unfold gB gB1 gB2
 simp only[Bool.and_eq_true,decide_eq_true_eq,CB,Bool.not_eq_true',decide_eq_false_iff_not,List.all_eq_true,List.mem_range]
 constructor
 ·rintro⟨⟨⟨h1,h2⟩,h3⟩,h4⟩
  refine⟨h1,h2,λv hv=>(h3 v hv).1,λv hv=>(h3 v hv).2,λu v hu ha=> ?_⟩
  have:=h4 u hu v ha
  unfold adj
  simpa using this
 ·intro h
  refine⟨⟨⟨h.n1,h.n16⟩,λv hv=>⟨h.rows v hv,h.irr v hv⟩⟩,λv hv x hx=> ?_⟩
  obtain⟨u,rfl,hu,ha⟩:=h.mem hv hx
  have:=h.sym v u hv ha
  simpa [adj] using this
theorem Dx (g:LL)(h:Sh2 g):D.M g=some (gB g):=by
 have hl:g.length≤4294967296:=h.1
 unfold D.M D.l
 simp only[bs,Dm]
 by_cases hn:1≤g.length∧g.length≤16
 ·have e:(decide ((1:Int)≤(g.length:Int))&&decide ((g.length:Int)≤16))=true:=by simp;omega
  simp only[e,Bool.not_true,cF]
  refine(loop_ck g.length (λv=>B7 (row g v) g.length&& !decide ((v:Int)∈row g v)) (.inl ()) (.inr false) (λv hv=> ?_) ?_).trans ?_
  rotate_left
  ·simp only[Ba,cF]
  ·show cond (gB1 g) _ _=_
   have e4:gB g=(gB1 g&&gB2 g):=by unfold gB;simp[hn.1,hn.2]
   rw[e4]
   cases hc:gB1 g with
   |false=>rfl
   |true=>
    rw[cT,Bool.true_and]
    refine Ci g.length _ false (λv hv=> ?_) ?_ rfl rfl
    ·have hset:SetOf (row g v) g.length:=by
      have:=(CZ _ _).1 hc v hv
      simp only[Bool.and_eq_true] at this
      exact(CB _ _).1 this.1
     simp only[dlt hv,cT]
     refine(loop_ck (row g v).length (λi=>decide ((v:Int)∈row g ((row g v).getD i 0).toNat)) (.inl ()) (.inr false) (λi hi=> ?_) ?_).trans ?_
     ·have hx:=hset.2 _ (List.getElem_mem hi)
      have e5:idx g (row g v)[i]=some (row g ((row g v)[i]).toNat):=by
       have:=BQ (g:=g) (v:=((row g v)[i]).toNat) (by omega)
       rwa [show ((((row g v)[i]).toNat:Nat):Int)=(row g v)[i] by omega] at this
      have hs:=h.row (v:=((row g v)[i]).toNat) (by omega)
      simp only[BQ hv,bs,dlt hi,cT,AA hi,e5,l1Has_eq _ _ hs,wi (show i<4611686018427387904 by have:=h.row hv;unfold Sh at this;omega),AO hi]
      cases decide ((v:Int)∈row g ((row g v)[i]).toNat)<;>rfl
     ·simp only[BQ hv,bs,Ba,cF]
     ·rw[range_all_list (row g v) (λx=>decide ((v:Int)∈row g x.toNat)) _ (λi hi=>by rw[AO hi]),wi' hv (by omega)]
      cases (row g v).all λx=>decide ((v:Int)∈row g x.toNat)<;>rfl
    ·simp only[Ba,cF]
  ·simp only[dlt hv,cT,BQ hv,bs,l1Set_eq _ _ (h.row hv) (show (0:Int)≤(g.length:Int) by omega) (by omega),l1Has_eq _ _ (h.row hv),wi' hv (by omega)]
   cases B7 (row g v) g.length
   ·rfl
   ·cases decide ((v:Int)∈row g v)<;>rfl
 ·have e:(decide ((1:Int)≤(g.length:Int))&&decide ((g.length:Int)≤16))=false:=by
   rw[Bool.eq_false_iff];simp;omega
  simp only[e,Bool.not_false,cT]
  unfold gB
  congr 1
  symm
  rw[Bool.eq_false_iff]
  simp
  omega
structure OOk (g : LL) (o : LI) : Prop where
  len : o.length = g.length
  rng : ∀ x ∈ o, 0 ≤ x ∧ x < g.length
  nd : o.Nodup
theorem impl_one_eq (v:Nat):D.m (v:Int)=some (ishl .u32 1 (v:Int)):=by
 unfold D.m
 have:decide ((v:Int)<0)=false:=by simp
 rw[this];rfl
def mk (xs : LI) : Int := xs.foldl (fun s v => ior .u32 s (ishl .u32 1 v)) 0
theorem Dh :∀(xs:LI) (s:Int),VS s→VS (xs.foldl (λs v=>ior .u32 s (ishl .u32 1 v)) s)
 |[],s,h=>h
 |x::xs,s,_=>Dh xs _ (VS.ior _ _)
theorem VS.mk (xs:LI):VS (mk xs):=Dh xs 0 VS.zero
theorem C3 (u:Nat):∀(xs:LI) (s:Int),VS s→(∀x∈xs,0≤x∧x<32)→has (xs.foldl (λs v=>ior .u32 s (ishl .u32 1 v)) s) u=(has s u||decide ((u:Int)∈xs))
 |[],s,_,_=>by simp
 |x::xs,s,hs,h=>by
  have hx:=h x (by simp)
  rw[List.foldl_cons,C3 u xs _ (VS.ior _ _) (λy hy=>h y (by simp[hy])),has_ior hs (VS.ishl _ _)]
  obtain⟨k,rfl⟩:∃k:Nat,x=k:=⟨x.toNat,by omega⟩
  rw[has_one (by omega)]
  by_cases hu:u=k
  ·subst hu;simp
  ·have:¬(u:Int)=(k:Int):=by omega
   simp[hu,this]
theorem has_mk {xs:LI}(h:∀x∈xs,0≤x∧x<32)(u:Nat):has (mk xs) u=decide ((u:Int)∈xs):=by
 unfold mk;rw[C3 u xs 0 VS.zero h,Cg,Bool.false_or]
theorem GOk.mem0 {g:LL}(hg:GOk g){r:LI}(hr:r∈g):r.length≤16∧∀x∈r,0≤x∧x<g.length:=by
 obtain⟨v,hv,rfl⟩:=List.getElem_of_mem hr
 rw[←row_eq hv]
 exact⟨hg.row_len hv,(hg.rows v hv).2⟩
theorem wide_eq (xs:LI)(h:Sh xs):D.T xs=some xs:=by
 unfold Sh at h
 unfold D.T
 rw[makeD_zero (by omega) (by omega),bs]
 refine(loop_map xs (λs i=>(s,i)) (λx=>x) h (λs i hi _=> ?_) (λs=> ?_)).trans (by simp)
 ·simp only[dlt hi,cT,AA hi,bs,wi' hi (by omega)]
 ·simp only[Ba,cF]
theorem least_eq {s:Int}(h:VS s)(h0:s≠0):∃k:Nat,k<32∧D.E s=some (k:Int)∧has s k=true∧(∀v,v<k→has s v=false)∧
  (∀v,has (iand .u32 s (IntKind.u32.wrap (s-1))) v=(has s v&& !decide (v=k))):=by
 obtain⟨k,h1,h2,h3,h4,h5⟩:=least_spec h h0
 refine⟨k,h1,?_,h2,h3,h5⟩
 unfold D.E D.b0
 have e:(s==0)=false:=by simpa using h0
 simp only[e,cF,h4,tz_table k h1,bs]
 rw[w64 (by omega) (by omega)]
theorem list_eq (s:Int)(h:VS s):D.v s=some (AP s):=by
 unfold D.v
 have key:∀(n:Nat) (x:Int) (l:LI),VS x→(AP x).length=n→l.length+n≤32→
   As (σ:=Int×LI) (ρ:=(LI)) (fun(s_52:Int×LI)=>match s_52 with|(x_55,l_56)=>cond (x_55 !=0) ((D.E x_55).bind λy_88=>(Ay l_56 ([y_88]:LI)).bind λl_99=>some (.inl ((iand .u32 x_55 (IntKind.u32.wrap (x_55-1))),l_99))) (some (.inr l_56))) (x,l)=some (l++AP x):=by
  intro n
  induction n with
  |zero=>
   intro x l hx hn _
   have e:AP x=[]:=List.eq_nil_of_length_eq_zero hn
   have e0:x=0:=hx.eq_zero.2 λv hv=>by
    cases hc:has x v
    ·rfl
    ·have:=mem_elems.2 ⟨v,hv,hc,rfl⟩;rw[e] at this;simp at this
   rw[e]
   refine A9 ?_
   have:(x !=0)=false:=by simp[e0]
   simp only[this,cF,List.append_nil]
  |succ n ih=>
   intro x l hx hn hl
   have h0:x≠0:=by rintro rfl;rw[elems_zero] at hn;simp at hn
   obtain⟨k,h1,h2,h3,h4,h5⟩:=least_eq hx h0
   have e:=elems_least h1 h3 h4 h5
   have en:(AP (iand .u32 x (IntKind.u32.wrap (x-1)))).length=n:=by rw[e] at hn;simpa using hn
   have hstep:=ih (iand .u32 x (IntKind.u32.wrap (x-1))) (l++[(k:Int)]) (VS.iand _ _) en (by simp;omega)
   have e1:(x !=0)=true:=by simpa using h0
   rw[A0 (s':=(iand .u32 x (IntKind.u32.wrap (x-1)),l++[(k:Int)]))]
   ·rw[hstep,e];simp
   ·simp only[e1,cT,h2,bs,AX (xs:=l) (ys:=[(k:Int)]) (by simp;omega)]
 have:=key (AP s).length s [] h rfl (by simpa using elems_len s)
 rw[this];simp
theorem elems_sh (s:Int):Sh (AP s):=by have:=elems_len s;unfold Sh;omega
theorem numbers_eq (s:Int)(h:VS s):D.F s=some (AP s):=by
 unfold D.F
 rw[list_eq s h,bs,wide_eq _ (elems_sh s)];rfl
theorem l1Copy_eq (xs:LI)(h:Sh xs):D.I xs=some xs:=by
 unfold Sh at h
 unfold D.I
 rw[AX (by simpa using h)];rfl
def into (xs:LI)(n:Int):LI:=if n∈xs then xs else xs.takeWhile (λx=>decide (x<n))++n::xs.dropWhile (λx=>decide (x<n))
theorem mem_into {xs:LI}{n x:Int}:x∈into xs n↔x=n∨x∈xs:=by
 unfold into
 split
 ·constructor
  ·intro h;exact .inr h
  ·rintro(rfl|h)
   ·assumption
   ·exact h
 ·have e:x∈xs↔x∈xs.takeWhile (λx=>decide (x<n))++xs.dropWhile (λx=>decide (x<n)):=by rw[List.takeWhile_append_dropWhile]
  rw[e];simp only[List.mem_append,List.mem_cons]
  constructor
  ·rintro(h|h|h)<;>simp[h]
  ·rintro(h|h|h)<;>simp[h]
theorem C1 {xs:LI}{n:Int}(h:Inc xs):∀y∈xs.dropWhile (λx=>decide (x<n)),n≤y:=by
 induction xs with
 |nil=>simp
 |cons x xs ih=>
  have h':=List.pairwise_cons.1 h
  intro y hy
  rw[List.dropWhile_cons] at hy
  split at hy
  ·exact ih h'.2 y hy
  ·rename_i hc
   simp at hc
   rcases List.mem_cons.1 hy with rfl|hy
   ·exact hc
   ·have:=h'.1 y hy;omega
theorem inc_takeWhile {xs:LI}{n:Int}:∀y∈xs.takeWhile (λx=>decide (x<n)),y<n:=by
 intro y hy
 induction xs with
 |nil=>simp at hy
 |cons x xs ih=>
  rw[List.takeWhile_cons] at hy
  split at hy
  ·rename_i hc
   rcases List.mem_cons.1 hy with rfl|hy
   ·simpa using hc
   ·exact ih hy
  ·simp at hy
theorem Inc.into {xs:LI}(h:Inc xs)(n:Int):Inc (into xs n):=by
 unfold Sx.into
 split
 ·exact h
 ·rename_i hn
  unfold Inc
  rw[List.pairwise_append]
  refine⟨List.Pairwise.sublist (List.takeWhile_sublist _) h,List.pairwise_cons.2 ⟨λy hy=> ?_,List.Pairwise.sublist (List.dropWhile_sublist _) h⟩,λa ha b hb=> ?_⟩
  ·have h1:=C1 h y hy
   have h2:y≠n:=λe=>hn (e▸(List.dropWhile_sublist _).mem hy)
   omega
  ·have h1:=inc_takeWhile a ha
   rcases List.mem_cons.1 hb with rfl|hb
   ·exact h1
   ·have:=C1 h b hb;omega
theorem BU {α:Type}(p:α→Bool):∀(xs:List α),xs.takeWhile p=xs.take (xs.takeWhile p).length∧xs.dropWhile p=xs.drop (xs.takeWhile p).length
 |[]=>by simp
 |x::xs=>by
  rw[List.takeWhile_cons,List.dropWhile_cons]
  cases p x
  ·simp
  ·have:=BU p xs
   simp only[if_true,List.length_cons,List.take_succ_cons,List.drop_succ_cons,←this.1,←this.2,and_self]
theorem BX {α:Type}(p:α→Bool):∀(xs:List α) (i:Nat) (h:i<(xs.takeWhile p).length) (h':i<xs.length),p xs[i]=true
 |x::xs,i,h,h'=>by
  rw[List.takeWhile_cons] at h
  cases hp:p x
  ·rw[hp] at h;simp at h
  ·rw[hp] at h
   cases i with
   |zero=>simpa using hp
   |succ i=>simp only[if_true,List.length_cons] at h;simpa using BX p xs i (by omega) (by simpa using h')
theorem Ce {α:Type}(p:α→Bool):∀(xs:List α) (h:(xs.takeWhile p).length<xs.length),p (xs[(xs.takeWhile p).length])=false
 |x::xs,h=>by
  cases hp:p x
  ·simp[List.takeWhile_cons,hp]
  ·have h2:(xs.takeWhile p).length<xs.length:=by simpa [List.takeWhile_cons,hp] using h
   simpa [List.takeWhile_cons,hp] using Ce p xs h2
theorem Dt {α:Type}(p:α→Bool)(xs:List α):(xs.takeWhile p).length≤xs.length:=(List.takeWhile_sublist _).length_le
theorem l1Into_eq (xs:LI)(n:Int)(h:Inc xs)(hl:xs.length≤4294967295):D.u xs n=some (into xs n):=by
 unfold D.u
 generalize hk:(xs.takeWhile (λx=>decide (x<n))).length=k
 have hkl:k≤xs.length:=by rw[←hk];exact Dt _ _
 have htk:xs.takeWhile (λx=>decide (x<n))=xs.take k:=by rw[←hk];exact(BU _ xs).1
 have hdk:xs.dropWhile (λx=>decide (x<n))=xs.drop k:=by rw[←hk];exact(BU _ xs).2
 refine(BI (λi=>((i:Nat):Int)) k (k:Int) rfl (λi hi=> ?_) ?_).trans ?_
 ·have hi':i<xs.length:=by omega
  have hp:decide (xs[i]<n)=true:=BX (λx=>decide (x<n)) xs i (by omega) hi'
  simp only[dlt hi',cT,AA hi',bs,hp,wq i]
 ·by_cases hlt:k<xs.length
  ·have hp:decide (xs[k]<n)=false:=by
    have:=Ce (λx=>decide (x<n)) xs (by omega)
    simp only[hk] at this;exact this
   simp only[dlt hlt,cT,AA hlt,bs,hp,cF]
  ·obtain rfl:k=xs.length:=by omega
   simp only[Ba,cF,bs]
 ·have hS1:Sh (xs.take k):=by unfold Sh;rw[List.length_take];omega
  have hrest:((BG xs 0 (k:Int)).bind λl_135=>(D.I l_135).bind λy_139=>(Ay y_139 ([n]:LI)).bind λl_154=>(BG xs (k:Int) (xs.length:Int)).bind λl_160=>(Ay l_154 l_160).bind λl_164=>some l_164)=some (xs.take k++n::xs.drop k):=by
   simp only[sliceD_pre hkl,sliceD_post hkl,bs,l1Copy_eq _ hS1]
   rw[AX (by simp;omega),bs,AX (by simp;omega),bs]
   simp
  by_cases hlt:k<xs.length
  ·simp only[dlt hlt,cT,AA hlt,bs]
   by_cases he:xs[k]=n
   ·have hm:n∈xs:=by rw[←he];exact List.getElem_mem _
    have:(xs[k]==n)=true:=by simp[he]
    simp only[this,cT]
    unfold into;rw[if_pos hm]
   ·have:(xs[k]==n)=false:=by simpa using he
    simp only[this,cF,hrest]
    unfold into
    rw[htk,hdk,if_neg]
    intro hm
    obtain⟨j,hj,e⟩:=List.getElem_of_mem hm
    have hst:decide (xs[k]<n)=false:=by
     have:=Ce (λx=>decide (x<n)) xs (by omega)
     simp only[hk] at this;exact this
    simp at hst
    rcases Nat.lt_trichotomy j k with h1|h1|h1
    ·have:=BX (λx=>decide (x<n)) xs j (by omega) hj
     simp at this;omega
    ·subst h1;exact he e
    ·have:=(List.pairwise_iff_getElem.1 h) k j hlt hj h1
     omega
  ·obtain rfl:k=xs.length:=by omega
   simp only[Ba,cF,bs,hrest]
   unfold into
   rw[htk,hdk,if_neg]
   intro hm
   obtain⟨j,hj,e⟩:=List.getElem_of_mem hm
   have:=BX (λx=>decide (x<n)) xs j (by omega) hj
   simp at this;omega
end Go.Sx



namespace Go.Sx
theorem l1Empty_eq (n:Nat)(hn:n≤16):D.P (n:Int)=some (List.replicate n []):=by
 unfold D.P
 refine(BI (λi=>((i:Int),List.replicate i [])) n (List.replicate n []) (by simp) (λi hi=> ?_) ?_).trans rfl
 ·simp only[dlt hi,cT,wq i]
  rw[AX (by simp;omega),bs,←List.replicate_succ']
 ·simp only[Ba,cF]
theorem row_set {g:LL}{u v:Nat}{r:LI}(hu:u<g.length):row (g.set u r) v=if v=u then r else row g v:=by
 unfold row
 by_cases h:v=u
 ·subst h;simp[hu]
 ·rw[if_neg h,List.getD_eq_getElem?_getD,List.getElem?_set_ne (λe=>h e.symm),←List.getD_eq_getElem?_getD]
theorem l1Link_ok {g:LL}(hg:GOk g){u v:Nat}(hu:u<g.length)(hv:v<g.length)(huv:u≠v):
  ∃g',D.B g (u:Int) (v:Int)=some g'∧GOk g'∧g'.length=g.length∧∀a b,adj g' a b↔adj g a b∨(a=u∧b=v)∨(a=v∧b=u):=by
 have h16:=hg.n16
 have hru:=hg.rows u hu;have hrv:=hg.rows v hv
 have hlu:=hg.row_len hu;have hlv:=hg.row_len hv
 refine⟨(g.set u (into (row g u) v)).set v (into (row g v) u),?_,?_⟩
 ·unfold D.B
  have e1:row (g.set u (into (row g u) v)) v=row g v:=by rw[row_set hu,if_neg (Ne.symm huv)]
  simp only[BQ hu,bs,l1Into_eq _ _ hru.1 (show (row g u).length≤4294967295 by omega),Int.toNat_natCast]
  rw[BQ (show v<(g.set u (into (row g u) v)).length by simpa using hv),e1]
  simp only[bs,l1Into_eq _ _ hrv.1 (show (row g v).length≤4294967295 by omega)]
 ·have hrow:∀w,row ((g.set u (into (row g u) v)).set v (into (row g v) u)) w=if w=v then into (row g v) u else if w=u then into (row g u) v else row g w:=by
   intro w
   rw[row_set (by simpa using hv),row_set hu]
  have hadj:∀a b,adj ((g.set u (into (row g u) v)).set v (into (row g v) u)) a b↔adj g a b∨(a=u∧b=v)∨(a=v∧b=u):=by
   intro a b
   unfold adj
   rw[hrow]
   by_cases ha:a=v
   ·subst ha
    rw[if_pos rfl,mem_into]
    constructor
    ·rintro(h|h)
     ·exact .inr (.inr ⟨rfl,by omega⟩)
     ·exact .inl h
    ·rintro(h|⟨h,_⟩|⟨_,h⟩)
     ·exact .inr h
     ·exact absurd h.symm huv
     ·exact .inl (by omega)
   ·rw[if_neg ha]
    by_cases ha':a=u
    ·subst ha'
     rw[if_pos rfl,mem_into]
     constructor
     ·rintro(h|h)
      ·exact .inr (.inl ⟨rfl,by omega⟩)
      ·exact .inl h
     ·rintro(h|⟨_,h⟩|⟨h,_⟩)
      ·exact .inr h
      ·exact .inl (by omega)
      ·exact absurd h ha
    ·rw[if_neg ha']
     constructor
     ·exact .inl
     ·rintro(h|⟨h,_⟩|⟨h,_⟩)
      ·exact h
      ·exact absurd h ha'
      ·exact absurd h ha
  refine⟨⟨by simpa using hg.n1,by simpa using h16,λw hw=> ?_,λw hw=> ?_,λa b ha hab=> ?_⟩,by simp,hadj⟩
  ·simp only[List.length_set] at hw ⊢
   rw[hrow]
   split
   ·refine⟨hrv.1.into _,λx hx=> ?_⟩
    rcases mem_into.1 hx with rfl|hx
    ·omega
    ·exact hrv.2 x hx
   ·split
    ·refine⟨hru.1.into _,λx hx=> ?_⟩
     rcases mem_into.1 hx with rfl|hx
     ·omega
     ·exact hru.2 x hx
    ·exact hg.rows w hw
  ·simp only[List.length_set] at hw
   rw[hadj]
   rintro(h|⟨h1,h2⟩|⟨h1,h2⟩)
   ·exact hg.irr w hw h
   ·omega
   ·omega
  ·simp only[List.length_set] at ha
   rw[hadj] at hab ⊢
   rcases hab with h|h|h
   ·exact .inl (hg.sym a b ha h)
   ·exact .inr (.inr ⟨h.2,h.1⟩)
   ·exact .inr (.inl ⟨h.2,h.1⟩)
theorem GOk.empty {n:Nat}(h1:1≤n)(h16:n≤16):GOk (List.replicate n []):=by
 have hr:∀v,row (List.replicate n []) v=[]:=λv=>by
  unfold row
  rw[List.getD_eq_getElem?_getD,List.getElem?_replicate];split<;>rfl
 refine⟨by simpa using h1,by simpa using h16,λv _=> ?_,λv _=> ?_,λu v _ h=> ?_⟩
 ·rw[hr];exact⟨by simp[Inc],by simp⟩
 ·unfold adj;rw[hr];simp
 ·unfold adj at h;rw[hr] at h;simp at h
def CR (n:Nat)(e:LI):Prop:=∃a b:Nat,e=[(a:Int),(b:Int)]∧a<b∧b<n
theorem setB_edge {n:Nat}{a b:Nat}(h:a<b)(hb:b<n):B7 [(a:Int),(b:Int)] n=true:=by
 rw[CB]
 refine⟨by simp[Inc];omega,λx hx=> ?_⟩
 simp at hx
 rcases hx with rfl|rfl<;>omega
theorem GraphOf_ok (n:Nat)(edges:LL)(h1:1≤n)(h16:n≤16)(he:edges.length≤120)(hE:∀e∈edges,CR n e):
  ∃g,D.q (n:Int) edges=some (g,true)∧GOk g∧g.length=n∧∀a b:Nat,adj g a b↔([(a:Int),(b:Int)]∈edges∧a<b)∨([(b:Int),(a:Int)]∈edges∧b<a):=by
 unfold D.q
 rw[Dm]
 have e1:(decide ((1:Int)≤(n:Int))&&decide ((n:Int)≤16))=true:=by simp;omega
 have e2:decide ((120:Int)<(edges.length:Int))=false:=by simp;omega
 simp only[bs,e1,e2,Bool.not_true,Bool.or_false,cF,l1Empty_eq n h16]
 have key:∀(k i:Nat) (g:LL),i+k=edges.length→GOk g→g.length=n→(∀a b:Nat,adj g a b↔([(a:Int),(b:Int)]∈edges.take i∧a<b)∨([(b:Int),(a:Int)]∈edges.take i∧b<a))→
   ∃g',As (σ:=Int×LL) (ρ:=(LL) ⊕ ((LL)×Bool)) (fun(s_217:Int×LL)=>match s_217 with|(x_220,l_221)=>cond (decide (x_220<(edges.length:Int))) ((idx edges x_220).bind λe_319=>(cond ((e_319.length:Int) !=2) (some true) ((idx edges x_220).bind λe_356=>(D.t e_356 (n:Int)).bind λy_362=>some (!y_362))).bind λb_354=>cond b_354 (some (.inr (.inr (([]:LL),false)))) ((idx edges x_220).bind λe_375=>(idx e_375 0).bind λe_381=>(idx edges x_220).bind λe_387=>(idx e_387 1).bind λe_393=>(D.B l_221 e_381 e_393).bind λy_401=>some (.inl ((IntKind.i64.wrap (x_220+1)),y_401)))) (some (.inr (.inl l_221)))) ((i:Int),g)=some (.inl g')∧GOk g'∧g'.length=n∧(∀a b:Nat,adj g' a b↔([(a:Int),(b:Int)]∈edges∧a<b)∨([(b:Int),(a:Int)]∈edges∧b<a)):=by
  intro k
  induction k with
  |zero=>
   intro i g hi hg hl ha
   obtain rfl:i=edges.length:=by omega
   rw[List.take_length] at ha
   exact⟨g,A9 (by simp only[Ba,cF]),hg,hl,ha⟩
  |succ k ih=>
   intro i g hi hg hl ha
   have hil:i<edges.length:=by omega
   obtain⟨a,b,eab,hab,hbn⟩:=hE _ (List.getElem_mem hil)
   obtain⟨g',k1,k2,k3,k4⟩:=l1Link_ok hg (u:=a) (v:=b) (by omega) (by omega) (by omega)
   obtain⟨g'',m1,m2⟩:=ih (i+1) g' (by omega) k2 (by omega) (λc d=>by
    rw[k4,ha,List.take_succ_eq_append_getElem hil]
    simp only[List.mem_append,List.mem_singleton,eab,List.cons.injEq,and_true]
    constructor
    ·rintro((⟨h,h'⟩|⟨h,h'⟩)|⟨rfl,rfl⟩|⟨rfl,rfl⟩)
     ·exact .inl ⟨.inl h,h'⟩
     ·exact .inr ⟨.inl h,h'⟩
     ·exact .inl ⟨.inr ⟨rfl,rfl⟩,hab⟩
     ·exact .inr ⟨.inr ⟨rfl,rfl⟩,hab⟩
    ·rintro(⟨h|⟨h,h2⟩,h'⟩|⟨h|⟨h,h2⟩,h'⟩)
     ·exact .inl (.inl ⟨h,h'⟩)
     ·exact .inr (.inl ⟨by omega,by omega⟩)
     ·exact .inl (.inr ⟨h,h'⟩)
     ·exact .inr (.inr ⟨by omega,by omega⟩))
   refine⟨g'',?_,m2⟩
   rw[A0 (s':=(((i+1:Nat):Int),g'))]
   ·exact m1
   ·have h0:idx [(a:Int),(b:Int)] 0=some (a:Int):=rfl
    have h1':idx [(a:Int),(b:Int)] 1=some (b:Int):=rfl
    have hlen:((([(a:Int),(b:Int)]).length:Int) !=2)=false:=rfl
    simp only[dlt hil,cT,AA hil,eab,bs,hlen,cF,l1Set_eq [(a:Int),(b:Int)] n (by simp[Sh]) (by omega) (by omega),setB_edge hab hbn,Bool.not_true,h0,h1',k1,wq i]
 obtain⟨g',m1,m2,m3,m4⟩:=key edges.length 0 (List.replicate n []) (by omega) (GOk.empty h1 h16) (by simp) (λa b=>by
  unfold adj row
  rw[List.getD_eq_getElem?_getD,List.getElem?_replicate]
  split<;>simp)
 refine⟨g',?_,m2,m3,m4⟩
 rw[show ((0:Nat):Int)=0 from rfl] at m1
 rw[m1];rfl
open Go
abbrev byt (s:ByteArray):List UInt8:=s.data.toList
abbrev tx (l:List UInt8):ByteArray:=⟨l.toArray⟩
theorem A8 (l:List UInt8):byt (tx l)=l:=rfl
theorem CN (s:ByteArray):tx (byt s)=s:=by
 cases s;simp[tx,byt]
theorem byt_inj {a b:ByteArray}(h:byt a=byt b):a=b:=by rw[←CN a,←CN b,h]
theorem A5 (s:ByteArray):s.size=(byt s).length:=(Array.length_toList (xs:=s.data)).symm
theorem size_tx (l:List UInt8):(tx l).size=l.length:=A5 (tx l)
theorem Cj {s:ByteArray}{i:Nat}(h:i<(byt s).length):Be s (i:Int)=some (((byt s)[i]).toNat:Int):=by
 have hs:i<s.size:=by rw[A5];exact h
 unfold Be
 rw[if_pos (by omega)]
 have:s[((i:Int)).toNat]? =some s[i]:=by
  rw[Int.toNat_natCast]
  exact getElem?_pos s i hs
 rw[this]
 rfl
theorem byt_append (a b:ByteArray):byt (a++b)=byt a++byt b:=by
 show (a++b).data.toList=_
 rw[ByteArray.data_append,Array.toList_append]
theorem sAdd_ok {a b:ByteArray}(h:(byt a).length+(byt b).length≤9223372036854775807):Bn a b=some (tx (byt a++byt b)):=by
 unfold Bn
 rw[if_pos (by rw[A5,A5];exact h)]
 exact congrArg some (byt_inj (by rw[byt_append]))
theorem BP {x y:List UInt8}(h:x.length+y.length≤9223372036854775807):Bn (tx x) (tx y)=some (tx (x++y)):=sAdd_ok h
theorem BE (a b:ByteArray):sEq a b=decide (byt a=byt b):=by
 unfold sEq
 rw[ByteArray.toList_eq,ByteArray.toList_eq,Bool.eq_iff_iff]
 simp
theorem C0 {s:ByteArray}{i j:Nat}(h1:i≤j)(h2:j≤(byt s).length):sPart s (i:Int) (j:Int)=some (tx (((byt s).take j).drop i)):=by
 unfold sPart
 rw[if_pos ⟨by omega,by omega,by rw[A5];omega⟩]
 refine congrArg some (byt_inj ?_)
 show (s.extract i j).data.toList=_
 rw[ByteArray.data_extract]
 simp[Array.toList_extract,List.extract_eq_take_drop,List.drop_take]
theorem l1Split_ok {s:ByteArray}(hs:(byt s).length≤1048576)(c:UInt8):∃w,D.o s (c.toNat:Int)=some w∧w.map byt=spl c (byt s):=by
 unfold D.o
 refine B6 (λt=>∃i:Nat,t.2.2=(i:Int)∧((∃f:Nat,t.2.1=(f:Int)∧f≤i∧i≤(byt s).length∧c∉((byt s).take i).drop f∧t.1.map byt++spl c ((byt s).drop f)=spl c (byt s)∧t.1.length≤f)∨i=(byt s).length+1∧t.1.map byt=spl c (byt s)))
  (λt=>(byt s).length+1-t.2.2.toNat) (λr=>r.map byt=spl c (byt s)) ?_ ⟨0,rfl,.inl ⟨0,rfl,Nat.le_refl _,Nat.zero_le _,by simp,by simp,Nat.zero_le _⟩⟩ (λr hr=>⟨_,rfl,hr⟩)
 rintro⟨l,fz,_⟩ ⟨i,rfl,h⟩
 rcases h with⟨f,rfl,h1,h2,h3,h4,h5⟩|⟨rfl,h4⟩
 ·dsimp only at h3 h4 h5 ⊢
  have hsz:(s.size:Int)=((byt s).length:Int):=by rw[A5]
  rw[hsz]
  have d1:decide ((i:Int)≤((byt s).length:Int))=true:=by simp;omega
  simp only[d1,cT,wq i]
  by_cases hi:i=(byt s).length
  ·subst hi
   have e1:(((byt s).length:Int)==((byt s).length:Int))=true:=by simp
   rw[List.take_length] at h3
   simp only[e1,cT,bs,C0 h1 (Nat.le_refl _)]
   rw[AX (by simp;omega),bs]
   refine⟨_,rfl,⟨(byt s).length+1,rfl,.inr ⟨rfl,?_⟩⟩,by dsimp only;omega⟩
   rw[←h4,spl_no h3,List.map_append,List.take_length]
   rfl
  ·have hil:i<(byt s).length:=by omega
   have e1:((i:Int)==((byt s).length:Int))=false:=by simp;omega
   simp only[e1,cF,Cj hil,bs]
   have hd:(byt s).drop f=((byt s).take i).drop f++(byt s)[i]::(byt s).drop (i+1):=by
    rw[←List.drop_eq_getElem_cons hil]
    conv=>lhs;rw[←List.take_append_drop i (byt s)]
    rw[List.drop_append_of_le_length (by simp;omega)]
   by_cases hc:(byt s)[i]=c
   ·have e2:((((byt s)[i]).toNat:Int)==(c.toNat:Int))=true:=by simp[hc]
    simp only[e2,cT,C0 h1 h2,bs]
    rw[AX (by simp;omega),bs]
    refine⟨_,rfl,⟨i+1,rfl,.inl ⟨i+1,rfl,Nat.le_refl _,by omega,by simp,?_,by simp;omega⟩⟩,by dsimp only;omega⟩
    rw[←h4,hd,hc,Dk h3,List.map_append]
    simp[A8]
   ·have e2:((((byt s)[i]).toNat:Int)==(c.toNat:Int))=false:=by
     simp only[beq_eq_false_iff_ne,ne_eq]
     intro e
     exact hc (UInt8.toNat_inj.1 (by omega))
    simp only[e2,cF]
    refine⟨_,rfl,⟨i+1,rfl,.inl ⟨f,rfl,by omega,by omega,?_,h4,h5⟩⟩,by dsimp only;omega⟩
    rw[List.take_succ_eq_append_getElem hil,List.drop_append_of_le_length (by simp;omega)]
    simp only[List.mem_append,List.mem_singleton,not_or]
    exact⟨h3,λe=>hc e.symm⟩
 ·dsimp only at h4 ⊢
  have d1:decide ((((byt s).length+1:Nat):Int)≤(s.size:Int))=false:=by rw[A5];simp;omega
  simp only[d1,cF]
  exact⟨_,rfl,h4⟩
theorem C5 (s:ByteArray):∃y,D.f s=some y:=by
 have hsz:(s.size:Int)=((byt s).length:Int):=by rw[A5]
 unfold D.f
 rw[hsz]
 by_cases h:((decide (((byt s).length:Int)<1))||(decide ((9:Int)<((byt s).length:Int))))=true
 ·rw[h];exact⟨_,rfl⟩
 ·rw[Bool.not_eq_true] at h
  rw[h,cF]
  simp only[Bool.or_eq_false_iff,decide_eq_false_iff_not] at h
  have h0:Be s 0=some (((byt s)[0]'(by omega)).toNat:Int):=Cj (i:=0) (by omega)
  rw[h0,bs,bs]
  cases (((((byt s)[0]'(by omega)).toNat:Int)==48)&&(decide ((1:Int)<((byt s).length:Int))))
  ·rw[cF]
   obtain⟨y,e,_⟩:=B6 (k:=λzz:Int ⊕ (Int×Bool)=>match zz with| .inl x_90=>(some (x_90,true))| .inr z=>(some z)) (Q:=λ_=>True)
    (step:=(fun(s_66:Int×Int)=>match s_66 with|(x_69,x_70)=>cond (decide (x_70<((byt s).length:Int))) ((Be s x_70).bind λe_93=>(cond (decide (e_93<48)) (some true) ((Be s x_70).bind λe_104=>some (decide ((57:Int)<e_104)))).bind λb_102=>cond b_102 (some (.inr (.inr (0,false)))) ((Be s x_70).bind λe_107=>some (.inl ((IntKind.i64.wrap ((IntKind.i64.wrap (x_69*10))+(IntKind.i64.wrap (IntKind.u8.wrap (e_107-48))))),(IntKind.i64.wrap (x_70+1)))))) (some (.inr (.inl x_69))))) (s:=(0,0))
    (λt=>∃i:Nat,t.2=(i:Int)∧i≤(byt s).length) (λt=>(byt s).length-t.2.toNat) (λ_=>True) (by
     rintro⟨x,_⟩ ⟨i,rfl,hi⟩
     dsimp only
     by_cases hil:i<(byt s).length
     ·simp only[dlt hil,cT,Cj hil,bs,wq i]
      have hb:∃b,(cond (decide ((((byt s)[i]).toNat:Int)<48)) (some true) (some (decide ((57:Int)<(((byt s)[i]).toNat:Int)))))=some b:=by
       cases decide ((((byt s)[i]).toNat:Int)<48)
       ·exact⟨_,rfl⟩
       ·exact⟨_,rfl⟩
      obtain⟨b,eb⟩:=hb
      rw[eb,bs]
      cases b
      ·exact⟨_,rfl,⟨i+1,rfl,by omega⟩,by dsimp only;omega⟩
      ·exact⟨_,rfl,trivial⟩
     ·obtain rfl:i=(byt s).length:=by omega
      simp only[Ba,cF]
      exact⟨_,rfl,trivial⟩) ⟨0,rfl,Nat.zero_le _⟩ (λr _=>by cases r<;>exact⟨_,rfl,trivial⟩)
   exact⟨y,e⟩
  ·exact⟨_,rfl⟩
theorem Cm (s:ByteArray):∃y,D.e s=some y:=by
 have hsz:(s.size:Int)=((byt s).length:Int):=by rw[A5]
 unfold D.e
 by_cases h:((decide ((s.size:Int)<1))||(decide ((9:Int)<(s.size:Int))))=true
 ·rw[h];exact⟨_,rfl⟩
 ·rw[Bool.not_eq_true] at h
  rw[h,cF]
  simp only[Bool.or_eq_false_iff,decide_eq_false_iff_not] at h
  unfold D.d
  rw[if_pos ⟨rfl,rfl,by omega⟩,bs]
  cases hp:Lib.parseIntB 64 s.data.toList with
  |ok v=>
   have hb:=Lib.parseIntB_bounds hp
   dsimp only
   rw[cF]
   unfold D.c
   rw[if_pos ⟨rfl,by have:=hb.1;simp at this;omega,by have:=hb.2;simp at this;omega⟩,bs,bs]
   cases sEq (tx (Lib.itoa v)) s
   ·exact⟨_,rfl⟩
   ·exact⟨_,rfl⟩
  |«syntax»=>exact⟨_,rfl⟩
  |range=>exact⟨_,rfl⟩
end Go.Sx

namespace Go.Sx
end Go.Sx



namespace Go.Sx
theorem ext_getD {a b:LI}(hl:a.length=b.length)(h:∀j,j<a.length→a.getD j 0=b.getD j 0):a=b:=by
 apply List.ext_getElem hl
 intro j h1 h2
 have:=h j h1
 rwa [AO h1,AO h2] at this
def nb (F : LI) (u w : Nat) : Bool := has (F.getD u 0) w
structure FOk (F : LI) (n : Nat) : Prop where
  len : F.length = n
  vs : ∀ u, u < n → VS (F.getD u 0)
  lt : ∀ u w, u < n → nb F u w = true → w < n
  irr : ∀ u, u < n → nb F u u = false
  sym : ∀ u w, u < n → nb F u w = true → nb F w u = true
theorem FOk.ext {F F':LI}{n:Nat}(h:F.length=n)(h':F'.length=n)(v:∀u,u<n→VS (F.getD u 0))(v':∀u,u<n→VS (F'.getD u 0))(e:∀u w,u<n→nb F u w=nb F' u w):F=F':=by
 refine ext_getD (by omega) (λj hj=> ?_)
 exact(v j (by omega)).ext (v' j (by omega)) (λw _=>e j w (by omega))
theorem Do (g:LL)(u:Nat):(g.map mk).getD u 0=mk (row g u):=by
 unfold row
 simp only[List.getD_eq_getElem?_getD,List.getElem?_map]
 cases g[u]? with
 |none=>simp[mk]
 |some r=>rfl
theorem CJ {g:LL}(hg:GOk g){u w:Nat}(hu:u<g.length):nb (g.map mk) u w=true↔adj g u w:=by
 have h16:=hg.n16
 unfold nb
 rw[Do,has_mk (λx hx=>by have:=(hg.rows u hu).2 x hx;omega)]
 simp[adj]
theorem FOk.of {g:LL}(hg:GOk g):FOk (g.map Sx.mk) g.length:=by
 refine⟨by simp,λu _=>by rw[Do];exact VS.mk _,λu w hu h=>hg.lt hu ((CJ hg hu).1 h),λu hu=> ?_,λu w hu h=> ?_⟩
 ·cases h:nb (g.map Sx.mk) u u
  ·rfl
  ·exact absurd ((CJ hg hu).1 h) (hg.irr u hu)
 ·have ha:=(CJ hg hu).1 h
  exact(CJ hg (hg.lt hu ha)).2 (hg.sym u w hu ha)
def grow (F:LI):LL:=F.map AP
theorem row_grow (F:LI)(u:Nat):row (grow F) u=AP (F.getD u 0):=by
 unfold row grow
 simp only[List.getD_eq_getElem?_getD,List.getElem?_map]
 cases F[u]? with
 |none=>simp[elems_zero]
 |some r=>rfl
theorem CW {F:LI}{n u w:Nat}(h:FOk F n)(hu:u<n):adj (grow F) u w↔nb F u w=true:=by
 unfold adj nb
 rw[row_grow,mem_elems_nat (h.vs u hu)]
theorem GOk.grow {F:LI}{n:Nat}(h:FOk F n)(h1:1≤n)(h16:n≤16):GOk (grow F):=by
 have hl:(Sx.grow F).length=n:=by unfold Sx.grow;rw[List.length_map,h.len]
 refine⟨by omega,by omega,λv hv=> ?_,λv hv ha=> ?_,λu v hu ha=> ?_⟩
 ·rw[row_grow,hl]
  refine⟨CI _,λx hx=> ?_⟩
  obtain⟨w,_,h2,rfl⟩:=mem_elems.1 hx
  have:=h.lt v w (by omega) h2
  omega
 ·rw[CW h (by omega)] at ha
  rw[h.irr v (by omega)] at ha;cases ha
 ·rw[CW h (by omega)] at ha
  have:=h.lt u v (by omega) ha
  rw[CW h (by omega)]
  exact h.sym u v (by omega) ha
def PEO (F : LI) (o : LI) : Prop := ∀ (j : Nat) (v u w : Nat), o[j]? = some (v : Int) → nb F v u = true → nb F v w = true → (u : Int) ∉ o.take (j + 1) → (w : Int) ∉ o.take (j + 1) → u ≠ w → nb F u w = true
def Lat (F L : LI) (o : LI) (i : Nat) : Prop := ∀ (j : Nat) (v : Nat), j < i → o[j]? = some (v : Int) → ∀ w, nb L v w = (nb F v w && decide ((w : Int) ∉ o.take (j + 1)))
inductive Via (F : LI) (gone : Nat → Prop) (u : Nat) : Nat → Prop
  | me : Via F gone u u
  | step {x y : Nat} : Via F gone u x → nb F x y = true → gone y → Via F gone u y
def Bhd (F : LI) (gone : Nat → Prop) (v w : Nat) : Prop := ∃ x, Via F gone v x ∧ nb F x w = true
theorem nodup_le :∀{l m:LI},l.Nodup→(∀x∈l,x∈m)→l.length≤m.length
 |[],_,_,_=>by simp
 |x::l,m,h,hs=>by
  have h':=List.nodup_cons.1 h
  have hx:=hs x (by simp)
  have:=nodup_le (l:=l) (m:=m.erase x) h'.2 (λy hy=>by
   have hne:y≠x:=λe=>h'.1 (e▸hy)
   exact(List.mem_erase_of_ne hne).2 (hs y (by simp[hy])))
  rw[List.length_erase_of_mem hx] at this
  have hp:0<m.length:=List.length_pos_of_mem hx
  simp;omega
theorem Inc.nodup {l:LI}(h:Inc l):l.Nodup:=List.Pairwise.imp (λh e=>by omega) h
def withV (bags : LL) (v : Int) : LI := ((List.range bags.length).filter fun b => decide (v ∈ bags.getD b [])).map Int.ofNat
def Lk (links : LL) (x y : Int) : Prop := [x, y] ∈ links ∨ [y, x] ∈ links
structure Closed (links : LL) (sel m : LI) : Prop where
  sub : ∀ x ∈ m, x ∈ sel
  first : ∀ x, sel.head? = some x → x ∈ m
  step : ∀ x ∈ m, ∀ y ∈ sel, Lk links x y → y ∈ m
def Conn (links : LL) (sel : LI) : Prop := ∀ m, Closed links sel m → ∀ x ∈ sel, x ∈ m
def LinkIn (n : Nat) (l : LI) : Prop := ∃ a b : Nat, l = [(a : Int), (b : Int)] ∧ a < b ∧ b < n
def rowF (r:LI)(u:Nat)(s:LL):LL:=(List.range r.length).foldl (λs i=>if(u:Int)<r.getD i 0 then s++[[(u:Int),r.getD i 0]] else s) s
theorem Dr (r:LI)(u:Nat)(s0:LL)(h:s0.length+r.length≤4294967296){step:LL×Int→Option ((LL×Int) ⊕ LL)}
  (hstep:∀s (i:Nat) (hi:i<r.length),step (s,(i:Int))=cond (decide ((u:Int)<r[i])) ((Ay s [[(u:Int),r[i]]]).bind λl=>some (.inl (l,((i+1:Nat):Int)))) (some (.inl (s,((i+1:Nat):Int)))))
  (hend:∀s,step (s,(r.length:Int))=some (.inr s)):As step (s0,0)=some (rowF r u s0)∧(rowF r u s0).length≤s0.length+r.length:=by
 have key:=loop_nat (step:=step) r.length (λs i=>(s,i)) (λs i=>if(u:Int)<r.getD i 0 then s++[[(u:Int),r.getD i 0]] else s) (λs=>s) (λi s=>s.length≤s0.length+i) s0 (by omega)
  (λs i hi hs=> ?_) (λs _=>hend s)
 ·exact key
 ·have hg:r.getD i 0=r[i]:=AO hi 0
  refine⟨?_,?_⟩
  ·rw[hstep s i hi,hg]
   by_cases hc:(u:Int)<r[i]
   ·rw[decide_eq_true hc,cT,AX (by simp;omega),if_pos hc];rfl
   ·rw[decide_eq_false hc,cF,if_neg hc]
  ·rw[hg]
   split
   ·rw[List.length_append,List.length_singleton];omega
   ·omega
def Ar (g:LL):LL:=(List.range g.length).foldl (λs u=>rowF (row g u) u s) []
theorem Dw (g:LL)(hg:GOk g):D.L g=some (Ar g):=by
 have h16:=hg.n16
 unfold D.L
 have key:=loop_nat (ρ:=LL) (step:=(fun(s_288:LL×Int)=>match s_288 with|(l_291,x_296)=>cond (decide (x_296<(g.length:Int))) ((idx g x_296).bind λe_441=>(As (σ:=LL×Int) (ρ:=(LL)) (fun(s_508:LL×Int)=>match s_508 with|(l_511,x_516)=>cond (decide (x_516<(e_441.length:Int))) ((idx e_441 x_516).bind λe_551=>cond (decide (x_296<e_551)) ((Ay l_511 ([([x_296,e_551]:LI)]:LL)).bind λl_569=>some (.inl (l_569,(IntKind.i64.wrap (x_516+1))))) (some (.inl (l_511,(IntKind.i64.wrap (x_516+1)))))) (some (.inr l_511))) (l_291,0)).bind λl_544=>some (.inl (l_544,(IntKind.i64.wrap (x_296+1))))) (some (.inr l_291))))
  g.length (λs i=>(s,i)) (λs u=>rowF (row g u) u s) (λs=>s) (λi s=>s.length≤16*i) [] (by simp) (λs u hu hs=> ?_) (λs _=> ?_)
 ·exact congrArg (λz=>Option.bind z λl=>some l) key.1
 ·have hr:=hg.row_len hu
  obtain⟨k1,k2⟩:=Dr (row g u) u s (by omega) (step:=(fun(s_508:LL×Int)=>match s_508 with|(l_511,x_516)=>cond (decide (x_516<((row g u).length:Int))) ((idx (row g u) x_516).bind λe_551=>cond (decide ((u:Int)<e_551)) ((Ay l_511 ([([(u:Int),e_551]:LI)]:LL)).bind λl_569=>some (.inl (l_569,(IntKind.i64.wrap (x_516+1))))) (some (.inl (l_511,(IntKind.i64.wrap (x_516+1)))))) (some (.inr l_511)))) (λs i hi=>by
    simp only[dlt hi,cT,AA hi,bs,wq i]) (λs=>by simp only[Ba,cF])
  refine⟨?_,by omega⟩
  simp only[dlt hu,cT,BQ hu,bs,wq u]
  exact(congrArg (λz=>Option.bind z _) k1).trans rfl
 ·simp only[Ba,cF]
theorem l1Edges_eq (g:LL)(hg:GOk g):D.V g=some (Ar g):=by
 have h16:=hg.n16
 unfold D.V D.l
 have key:=loop_nat (ρ:=LL) (step:=(fun(s_482:LL×Int)=>match s_482 with|(l_485,x_490)=>(some (g.length:Int)).bind λy_731=>cond (decide (x_490<y_731)) ((As (σ:=LL×Int) (ρ:=(LL)) (fun(s_848:LL×Int)=>match s_848 with|(l_851,x_856)=>(idx g x_490).bind λe_914=>cond (decide (x_856<(e_914.length:Int))) ((idx g x_490).bind λe_921=>(idx e_921 x_856).bind λe_927=>cond (decide (x_490<e_927)) ((idx g x_490).bind λe_934=>(idx e_934 x_856).bind λe_940=>(Ay l_851 ([([x_490,e_940]:LI)]:LL)).bind λl_957=>some (.inl (l_957,(IntKind.i64.wrap (x_856+1))))) (some (.inl (l_851,(IntKind.i64.wrap (x_856+1)))))) (some (.inr l_851))) (l_485,0)).bind λl_908=>some (.inl (l_908,(IntKind.i64.wrap (x_490+1))))) (some (.inr l_485))))
  g.length (λs i=>(s,i)) (λs u=>rowF (row g u) u s) (λs=>s) (λi s=>s.length≤16*i) [] (by simp) (λs u hu hs=> ?_) (λs _=> ?_)
 ·exact congrArg (λz=>Option.bind z λl=>some l) key.1
 ·have hr:=hg.row_len hu
  obtain⟨k1,k2⟩:=Dr (row g u) u s (by omega) (step:=(fun(s_848:LL×Int)=>match s_848 with|(l_851,x_856)=>(idx g (u:Int)).bind λe_914=>cond (decide (x_856<(e_914.length:Int))) ((idx g (u:Int)).bind λe_921=>(idx e_921 x_856).bind λe_927=>cond (decide ((u:Int)<e_927)) ((idx g (u:Int)).bind λe_934=>(idx e_934 x_856).bind λe_940=>(Ay l_851 ([([(u:Int),e_940]:LI)]:LL)).bind λl_957=>some (.inl (l_957,(IntKind.i64.wrap (x_856+1))))) (some (.inl (l_851,(IntKind.i64.wrap (x_856+1)))))) (some (.inr l_851)))) (λs i hi=>by
    simp only[BQ hu,dlt hi,cT,AA hi,bs,wq i]) (λs=>by simp only[BQ hu,bs,Ba,cF])
  refine⟨?_,by omega⟩
  simp only[bs,dlt hu,cT,wq u]
  exact(congrArg (λz=>Option.bind z _) k1).trans rfl
 ·simp only[bs,Ba,cF]
theorem GOk.sh2 {g:LL}(hg:GOk g):Sh2 g:=by
 have h16:=hg.n16
 exact⟨by unfold Sh;omega,λr hr=>by have:=(hg.mem0 hr).1;unfold Sh;omega⟩
theorem gB_true {g:LL}(hg:GOk g):gB g=true:=(gB_iff g).2 hg
theorem nets_graph_eq (F:LI)(h:F.length≤16)(hV:∀u,u<F.length→VS (F.getD u 0)):D.n F=some (grow F):=by
 unfold D.n
 refine(loop_map F (λs i=>(i,s)) AP (by omega) (λs i hi _=> ?_) (λs=> ?_)).trans rfl
 ·have:=hV i hi
  rw[AO hi] at this
  simp only[dlt hi,cT,AA hi,bs,numbers_eq _ this,wq i]
 ·simp only[Ba,cF]
theorem grow_len (F:LI):(grow F).length=F.length:=by simp[grow]
def AV (f:Nat→Nat):Nat→Nat
 |0=>0
 |n+1=>AV f n+f n
theorem Bl {f g:Nat→Nat}:∀{n:Nat},(∀i,i<n→f i=g i)→AV f n=AV g n
 |0,_=>rfl
 |n+1,h=>by simp only[AV];rw[Bl (n:=n) (λi hi=>h i (by omega)),h n (by omega)]
theorem CX (f g:Nat→Nat):∀n,AV (λi=>f i+g i) n=AV f n+AV g n
 |0=>rfl
 |n+1=>by simp only[AV];rw[CX f g n];omega
theorem sumN_zero :∀n,AV (λ_=>0) n=0
 |0=>rfl
 |n+1=>by simp only[AV];rw[sumN_zero n]
theorem sumN_swap (f:Nat→Nat→Nat)(m:Nat):∀n,AV (λi=>AV (f i) m) n=AV (λj=>AV (λi=>f i j) n) m
 |0=>by simp only[AV];rw[sumN_zero]
 |n+1=>by simp only[AV];rw[sumN_swap f m n,←CX]
def bit (b:Bool):Nat:=if b then 1 else 0
theorem CU (p:Nat→Bool):∀n,((List.range n).filter p).length=AV (λi=>bit (p i)) n
 |0=>rfl
 |n+1=>by
  rw[List.range_succ,List.filter_append,List.length_append,CU p n]
  simp only[AV,bit]
  cases h:p n<;>simp[h]
theorem sumN_tail {f : Nat → Nat} {n m : Nat} (h : n ≤ m) (hz : ∀ i, n ≤ i → f i = 0) : AV f m = AV f n := by
  induction m with
  | zero => obtain rfl : n = 0 := by omega
            rfl
  | succ m ih =>
    by_cases hm : n = m + 1
    · rw [hm]
    · simp only [AV]; rw [ih (by omega), hz m (by omega)]; rfl
theorem elems_sum {s:Int}{n:Nat}(hn:n≤32)(h:∀v,has s v=true→v<n):(AP s).length=AV (λv=>bit (has s v)) n:=by
 unfold AP
 rw[List.length_map,CU]
 refine sumN_tail hn (λi hi=> ?_)
 unfold bit
 cases hc:has s i
 ·rfl
 ·have:=h i hc;omega
def S2 (n:Nat)(p:Nat→Nat→Bool):Nat:=AV (λu=>AV (λw=>bit (p u w)) n) n
theorem S2_congr {n:Nat}{p q:Nat→Nat→Bool}(h:∀u w,u<n→w<n→p u w=q u w):S2 n p=S2 n q:=
 Bl λu hu=>Bl λw hw=>by rw[h u w hu hw]
theorem S2_swap (n:Nat)(p:Nat→Nat→Bool):S2 n p=S2 n (λu w=>p w u):=by
 unfold S2
 rw[sumN_swap]
theorem S2_or (n:Nat)(p q:Nat→Nat→Bool)(h:∀u w,u<n→w<n→p u w=true→q u w=true→False):S2 n (λu w=>p u w||q u w)=S2 n p+S2 n q:=by
 unfold S2
 rw[←CX]
 refine Bl λu hu=> ?_
 rw[←CX]
 refine Bl λw hw=> ?_
 have:=h u w hu hw
 unfold bit
 cases h1:p u w<;>cases h2:q u w<;>simp_all
theorem S2_half {n:Nat}{A:Nat→Nat→Bool}{lt:Nat→Nat→Bool}(hs:∀u w,u<n→w<n→A u w=A w u)(h1:∀u w,u<n→w<n→A u w=true→(lt u w=true∨lt w u=true))(h2:∀u w,u<n→w<n→lt u w=true→lt w u=true→False):
  S2 n A=2*S2 n (λu w=>A u w&&lt u w):=by
 have e1:S2 n A=S2 n (λu w=>(A u w&&lt u w)||(A u w&&lt w u)):=S2_congr λu w hu hw=>by
  have:=h1 u w hu hw
  cases ha:A u w
  ·simp
  ·rcases this ha with h|h<;>simp[h]
 have e2:S2 n (λu w=>A u w&&lt w u)=S2 n (λu w=>A u w&&lt u w):=by
  rw[S2_swap]
  exact S2_congr λu w hu hw=>by rw[hs u w hu hw]
 rw[e1,S2_or,e2]
 ·omega
 ·intro u w hu hw h3 h4
  simp only[Bool.and_eq_true] at h3 h4
  exact h2 u w hu hw h3.2 h4.2
theorem rowF_len (r:LI)(u:Nat)(s:LL):(rowF r u s).length=s.length+(r.filter λx=>decide ((u:Int)<x)).length:=by
 unfold rowF
 have key:∀i,i≤r.length→((List.range i).foldl (λs i=>if(u:Int)<r.getD i 0 then s++[[(u:Int),r.getD i 0]] else s) s).length=s.length+((r.take i).filter λx=>decide ((u:Int)<x)).length:=by
  intro i
  induction i with
  |zero=>intro _;simp
  |succ i ih=>
   intro hi
   have hi':i<r.length:=by omega
   rw[List.range_succ,List.foldl_append,List.foldl_cons,List.foldl_nil,List.take_succ_eq_append_getElem hi',List.filter_append,List.length_append,←Nat.add_assoc,←ih (by omega),AO hi']
   by_cases hc:(u:Int)<r[i]<;>simp[hc]
 have:=key r.length (Nat.le_refl _)
 rwa [List.take_length] at this
theorem edgesF_len (g:LL):(Ar g).length=AV (λu=>((row g u).filter λx=>decide ((u:Int)<x)).length) g.length:=by
 unfold Ar
 have key:∀n,((List.range n).foldl (λs u=>rowF (row g u) u s) []).length=AV (λu=>((row g u).filter λx=>decide ((u:Int)<x)).length) n:=by
  intro n
  induction n with
  |zero=>rfl
  |succ n ih=>rw[List.range_succ,List.foldl_append,List.foldl_cons,List.foldl_nil,rowF_len,ih];rfl
 exact key _
theorem Ds {s:Int}{n:Nat}(hn:n≤32)(h:∀v,has s v=true→v<n)(p:Int→Bool):((AP s).filter p).length=AV (λv=>bit (has s v&&p (v:Int))) n:=by
 unfold AP
 rw[List.filter_map,List.length_map,List.filter_filter,CU]
 have e:AV (λi=>bit ((p∘Int.ofNat) i&&has s i)) 32=AV (λv=>bit (has s v&&p (v:Int))) 32:=Bl λi _=>by
  rw[Bool.and_comm];rfl
 rw[e]
 refine sumN_tail hn (λi hi=> ?_)
 cases hc:has s i
 ·rfl
 ·have:=h i hc;omega
def full (n : Nat) : Int := IntKind.u32.wrap (ishl .u32 1 (n : Int) - 1)
section
variable {g : LL} {o : LI} (hg : GOk g) (ho : OOk g o)
include hg ho
def mx (f:Nat→Int):Nat→Int
 |0=>0
 |n+1=>max (mx f n) (f n)
end
end Go.Sx

namespace Go.Sx
theorem graph_ext {g g':LL}(hg:GOk g)(hg':GOk g')(hl:g.length=g'.length)(h:∀a b:Nat,a<g.length→(adj g a b↔adj g' a b)):g=g':=by
 apply List.ext_getElem hl
 intro i h1 h2
 rw[←row_eq h1,←row_eq h2]
 refine Inc.ext (hg.rows i h1).1 (hg'.rows i h2).1 (λx=> ?_)
 constructor
 ·intro hx
  obtain⟨w,rfl,_,ha⟩:=hg.mem h1 hx
  exact(h i w h1).1 ha
 ·intro hx
  obtain⟨w,rfl,_,ha⟩:=hg'.mem h2 hx
  exact(h i w h1).2 ha
theorem grow_of {g:LL}(hg:GOk g):grow (g.map mk)=g:=by
 have hf:=FOk.of hg
 refine graph_ext (GOk.grow hf hg.n1 hg.n16) hg (by rw[grow_len,hf.len]) (λa b ha=> ?_)
 rw[grow_len,hf.len] at ha
 rw[CW hf ha,CJ hg ha]
theorem De {α:Type}(p:Nat→Bool)(f:Nat→α)(s0:List α)(x:α):∀n,x∈(List.range n).foldl (λs i=>if p i then s++[f i] else s) s0↔x∈s0∨∃i,i<n∧p i=true∧x=f i
 |0=>by simp
 |n+1=>by
  rw[List.range_succ,List.foldl_append,List.foldl_cons,List.foldl_nil]
  have ih:=De p f s0 x n
  by_cases hp:p n=true
  ·rw[if_pos hp,List.mem_append,ih]
   constructor
   ·rintro((h|⟨i,h1,h2⟩)|h)
    ·exact .inl h
    ·exact .inr ⟨i,by omega,h2⟩
    ·simp at h;exact .inr ⟨n,by omega,hp,h⟩
   ·rintro(h|⟨i,h1,h2,h3⟩)
    ·exact .inl (.inl h)
    ·by_cases e:i=n
     ·subst e;exact .inr (by simp[h3])
     ·exact .inl (.inr ⟨i,by omega,h2,h3⟩)
  ·rw[if_neg hp,ih]
   constructor
   ·rintro(h|⟨i,h1,h2⟩)
    ·exact .inl h
    ·exact .inr ⟨i,by omega,h2⟩
   ·rintro(h|⟨i,h1,h2,h3⟩)
    ·exact .inl h
    ·by_cases e:i=n
     ·subst e;exact absurd h2 hp
     ·exact .inr ⟨i,by omega,h2,h3⟩
theorem mem_rowF (r:LI)(u:Nat)(s:LL)(x:LI):x∈rowF r u s↔x∈s∨∃v∈r,(u:Int)<v∧x=[(u:Int),v]:=by
 unfold rowF
 have:=De (λi=>decide ((u:Int)<r.getD i 0)) (λi=>[(u:Int),r.getD i 0]) s x r.length
 simp only[decide_eq_true_eq] at this
 rw[this]
 constructor
 ·rintro(h|⟨i,h1,h2,h3⟩)
  ·exact .inl h
  ·rw[AO h1] at h2 h3
   exact .inr ⟨r[i],List.getElem_mem h1,h2,h3⟩
 ·rintro(h|⟨v,h1,h2,h3⟩)
  ·exact .inl h
  ·obtain⟨i,hi,rfl⟩:=List.getElem_of_mem h1
   exact .inr ⟨i,hi,by rw[AO hi];exact h2,by rw[AO hi];exact h3⟩
theorem BF {g:LL}(hg:GOk g)(x:LI):x∈Ar g↔∃u v:Nat,u<g.length∧adj g u v∧u<v∧x=[(u:Int),(v:Int)]:=by
 have key:∀n,n≤g.length→(x∈(List.range n).foldl (λs u=>rowF (row g u) u s) []↔∃u v:Nat,u<n∧adj g u v∧u<v∧x=[(u:Int),(v:Int)]):=by
  intro n
  induction n with
  |zero=>intro _;simp
  |succ n ih=>
   intro hn
   rw[List.range_succ,List.foldl_append,List.foldl_cons,List.foldl_nil,mem_rowF,ih (by omega)]
   constructor
   ·rintro(⟨u,v,h1,h2⟩|⟨v,h1,h2,h3⟩)
    ·exact⟨u,v,by omega,h2⟩
    ·obtain⟨w,rfl,hw,ha⟩:=hg.mem (by omega) h1
     exact⟨n,w,by omega,ha,by omega,h3⟩
   ·rintro⟨u,v,h1,h2,h3,h4⟩
    by_cases e:u=n
    ·subst e;exact .inr ⟨v,h2,by omega,h4⟩
    ·exact .inl ⟨u,v,by omega,h2,h3,h4⟩
 exact key g.length (Nat.le_refl _)
def RowOk (t N : LI) : Prop := (t.length = N.length ∧ ∀ k (hk : k < t.length), t[k] ∈ N ∧ t[k] ∉ t.take k) ∧ (0 < t.length → t.getD 0 0 = N.getD 0 0)
def cz :LI→LI→Int
 |[],[]=>0
 |[],_::_=> -1
 |_::_,[]=>1
 |a::x,b::y=>if a<b then-1 else if b<a then 1 else cz x y
def lk : Nat → LI → Int
  | 0, _ => 0
  | _ + 1, [] => 0
  | d + 1, a :: l => (a + 1) * 33 ^ d + lk d l
def lkey (s : Int) : Int := lk 32 (AP s)
def skey (s : Int) : Int := ((AP s).length : Int) * 33 ^ 32 + lkey s
def CQ (F : LI) (K : Int) : Prop := ∀ u w, has K u = true → has K w = true → u ≠ w → nb F u w = true
def MX (F : LI) (n : Nat) (K : Int) : Prop := CQ F K ∧ ∀ w, w < n → has K w = false → ∃ u, has K u = true ∧ nb F u w = false
def In (n:Nat)(K:Int):Prop:=VS K∧∀w,has K w=true→w<n
theorem elems_mk {n:Nat}{x:LI}(hn:n≤16)(hi:Inc x)(hr:∀z∈x,0≤z∧z<n):AP (mk x)=x:=by
 have h32:∀z∈x,0≤z∧z<32:=λz hz=>by have:=hr z hz;omega
 refine Inc.ext (CI _) hi (λz=> ?_)
 rw[mem_elems]
 constructor
 ·rintro⟨v,_,h,rfl⟩
  rw[has_mk h32] at h
  exact of_decide_eq_true h
 ·intro hz
  have:=h32 z hz
  refine⟨z.toNat,by omega,?_,by omega⟩
  rw[has_mk h32,show ((z.toNat:Nat):Int)=z by omega]
  exact decide_eq_true hz
def Cq (g : LL) (x : LI) : Prop := ∀ u w : Nat, (u : Int) ∈ x → (w : Int) ∈ x → u ≠ w → adj g u w
def mis (F:LI)(n:Nat)(S:Int):Nat:=S2 n (λu w=>has S u&&(has S w&&(decide (w<u)&& !nb F w u)))
def cd (F:LI)(s v:Int):Int:=((AP (iand .u32 (F.getD v.toNat 0) s)).length:Int)
def cf (n:Nat)(F:LI)(s v:Int):Int:=(mis F n (iand .u32 (F.getD v.toNat 0) s):Int)
def ch (cs : LI) (i v : Nat) : Bool := has (cs.getD i 0) v
def Opn (cs : LI) (p : Int) (v : Nat) : Prop := (∃ i, i < cs.length ∧ has p i = true ∧ ch cs i v = true) ∧ ∃ i, i < cs.length ∧ has p i = false ∧ ch cs i v = true
def Ft (cs : LI) (p : Int) (k : Nat) : Prop := k < cs.length ∧ has p k = false ∧ ∀ v, Opn cs p v → ch cs k v = true
abbrev Pr :=Int×Int×Int
theorem Dn {α:Type}[DecidableEq α](xs ys:List α)(d:α)(hl:xs.length=ys.length):(List.range xs.length).all (λi=>decide (xs.getD i d=ys.getD i d))=decide (xs=ys):=by
 rw[Bool.eq_iff_iff,CZ,decide_eq_true_eq]
 constructor
 ·intro h
  apply List.ext_getElem hl
  intro i h1 h2
  have:=h i h1
  rw[AO h1,AO h2] at this
  exact of_decide_eq_true this
 ·rintro rfl i _;simp
theorem eqS_eq (xs ys:LI)(h:Sh xs):D.i xs ys=some (decide (xs=ys)):=by
 unfold Sh at h
 unfold D.i
 by_cases hl:xs.length=ys.length
 ·have e:((xs.length:Int) !=(ys.length:Int))=false:=by simp[hl]
  rw[e,cF,←Dn xs ys 0 hl]
  refine Ci xs.length _ false (λi hi=> ?_) ?_ rfl rfl
  ·have hi':i<ys.length:=by omega
   simp only[dlt hi,cT,AA hi,AA hi',bs,wq i,AO hi,AO hi']
   by_cases hc:xs[i]=ys[i]
   ·simp[hc]
   ·have:(xs[i] !=ys[i])=true:=by simpa using hc
    simp[hc,this]
  ·simp only[Ba,cF]
 ·have e:((xs.length:Int) !=(ys.length:Int))=true:=by simp;omega
  have:xs≠ys:=by rintro rfl;exact hl rfl
  simp[e,this]
theorem eqSS_eq (xs ys:LL)(h:Sh2 xs):D.O xs ys=some (decide (xs=ys)):=by
 obtain⟨h,h2⟩:=h
 unfold Sh at h
 unfold D.O
 by_cases hl:xs.length=ys.length
 ·have e:((xs.length:Int) !=(ys.length:Int))=false:=by simp[hl]
  rw[e,cF,←Dn xs ys [] hl]
  refine Ci xs.length _ false (λi hi=> ?_) ?_ rfl rfl
  ·have hi':i<ys.length:=by omega
   simp only[dlt hi,cT,AA hi,AA hi',bs,wq i,AO hi,AO hi',eqS_eq _ _ (h2 _ (List.getElem_mem hi))]
   by_cases hc:xs[i]=ys[i]
   ·simp[hc]
   ·simp[hc]
  ·simp only[Ba,cF]
 ·have e:((xs.length:Int) !=(ys.length:Int))=true:=by simp;omega
  have:xs≠ys:=by rintro rfl;exact hl rfl
  simp[e,this]
theorem eqGraph_eq (xs ys:LL)(h:Sh2 xs):D.x xs ys=some (decide (xs=ys)):=by
 unfold D.x;rw[eqSS_eq xs ys h,bs];cases decide (xs=ys)<;>rfl
def tot :LL→Int
 |[]=>0
 |x::xs=>x.length+tot xs
theorem BM :∀xs,0≤tot xs
 |[]=>Int.le_refl _
 |x::xs=>by have:=BM xs;simp only[tot];omega
theorem Dl :∀xs ys,tot (xs++ys)=tot xs+tot ys
 |[],ys=>by simp[tot]
 |x::xs,ys=>by simp only[List.cons_append,tot,Dl xs ys];omega
theorem tot_take {xs:LL}{i:Nat}(h:i<xs.length):tot (xs.take (i+1))=tot (xs.take i)+xs[i].length:=by
 rw[List.take_succ_eq_append_getElem h,Dl];simp[tot]
theorem tot_le {xs:LL}{n:Int}(h:∀x∈xs,(x.length:Int)≤n):tot xs≤xs.length*n:=by
 induction xs with
 |nil=>simp[tot]
 |cons x xs ih=>
  have:=ih (λy hy=>h y (by simp[hy]))
  have:=h x (by simp)
  simp only[tot,List.length_cons,Int.natCast_add,Int.add_mul];omega
def Bm (k:Int)(n:Nat):LI:=(List.range n).map fun(i:Nat)=>k+(i:Int)
theorem B5 (k:Int)(n:Nat):(Bm k n).length=n:=by simp[Bm]
theorem numsI_get (k:Int){n i:Nat}(h:i<(Bm k n).length):(Bm k n)[i]=k+(i:Int):=by simp[Bm]
def AS (k:Int):LL→LL
 |[]=>[]
 |x::xs=>Bm k x.length::AS (k+x.length) xs
theorem marked_app :∀xs ys k,AS k (xs++ys)=AS k xs++AS (k+tot xs) ys
 |[],ys,k=>by simp[AS,tot]
 |x::xs,ys,k=>by simp only[List.cons_append,AS,marked_app xs ys,tot];rw[show k+(x.length:Int)+tot xs=k+(x.length+tot xs) by omega]
theorem BN :∀xs k,(AS k xs).length=xs.length
 |[],_=>rfl
 |x::xs,k=>by simp[AS,BN xs]
theorem marked_get :∀(xs:LL) (k:Int) (i:Nat) (h:i<xs.length),(AS k xs)[i]'(by rw[BN];exact h)=Bm (k+tot (xs.take i)) xs[i].length
 |x::xs,k,0,h=>by simp[AS,tot]
 |x::xs,k,i+1,h=>by
  simp only[AS,List.getElem_cons_succ,List.take_succ_cons,tot]
  rw[marked_get xs (k+x.length) i (by simpa using h)]
  congr 1;omega
theorem markS_eq (xs:LI)(k:Int)(h:Sh xs)(h0:0≤k)(h1:k≤4611686018427387904):D.h xs k=some (k+xs.length,Bm k xs.length):=by
 unfold Sh at h
 unfold D.h
 have e:(Bm k xs.length++xs.drop xs.length)=Bm k xs.length:=by simp
 refine(BI (λi=>(Bm k i++xs.drop i,k+(i:Int),(i:Int))) xs.length (Bm k xs.length,k+(xs.length:Int)) (by simp[Bm]) (λi hi=> ?_) ?_).trans rfl
 ·have hl:(Bm k i++xs.drop i).length=xs.length:=by simp[B5];omega
  have hi':i<(Bm k i++xs.drop i).length:=by omega
  have hset:(Bm k i++xs.drop i).set i (k+i)=Bm k (i+1)++xs.drop (i+1):=by
   rw[List.drop_eq_getElem_cons hi,List.set_append_right _ _ (by rw[B5];omega)]
   simp only[B5,Nat.sub_self,List.set_cons_zero]
   unfold Bm
   rw[List.range_succ,List.map_append];simp
  simp only[dlt hi',cT,AA hi',bs,wq i,Int.toNat_natCast,hset]
  rw[w64 (by omega) (by omega)]
  have:k+(i:Int)+1=k+((i+1:Nat):Int):=by omega
  rw[this]
 ·simp only[e,B5,Ba,cF]
theorem markSS_eq (xs:LL)(k:Int)(h:Sh2 xs)(h0:0≤k)(h1:k+tot xs≤4611686018427387904):D.J xs k=some (k+tot xs,AS k xs):=by
 obtain⟨h,h2⟩:=h
 unfold Sh at h
 unfold D.J
 have hml:∀i,i≤xs.length→(AS k (xs.take i)).length=i:=λi hi=>by rw[BN,List.length_take];omega
 refine(BI (λi=>(AS k (xs.take i)++xs.drop i,k+tot (xs.take i),(i:Int))) xs.length (AS k xs,k+tot xs) (by simp[AS,tot]) (λi hi=> ?_) ?_).trans rfl
 ·have hm:=hml i (by omega)
  have hl:(AS k (xs.take i)++xs.drop i).length=xs.length:=by simp[hm];omega
  have hi':i<(AS k (xs.take i)++xs.drop i).length:=by omega
  have hg:(AS k (xs.take i)++xs.drop i)[i]=xs[i]:=by
   rw[List.getElem_append_right (by omega)]
   simp[hm]
  have ht:=tot_take hi
  have htn:tot (xs.take (i+1))≤tot xs:=by
   have:=Dl (xs.take (i+1)) (xs.drop (i+1))
   rw[List.take_append_drop] at this
   have:=BM (xs.drop (i+1));omega
  have htn0:=BM (xs.take i)
  have hset:(AS k (xs.take i)++xs.drop i).set i (Bm (k+tot (xs.take i)) xs[i].length)=AS k (xs.take (i+1))++xs.drop (i+1):=by
   have e0:i-(AS k (xs.take i)).length=0:=by omega
   rw[List.drop_eq_getElem_cons hi,List.set_append_right _ _ (by omega),List.take_succ_eq_append_getElem hi,marked_app,e0,List.set_cons_zero,List.append_assoc]
   rfl
  simp only[dlt hi',cT,AA hi',hg,bs,wq i,Int.toNat_natCast,markS_eq xs[i] (k+tot (xs.take i)) (h2 _ (List.getElem_mem hi)) (by omega) (by omega),hset]
  rw[ht]
  have:k+tot (xs.take i)+(xs[i].length:Int)=k+(tot (xs.take i)+(xs[i].length:Int)):=by omega
  rw[this]
 ·have e:AS k (xs.take xs.length)++xs.drop xs.length=AS k xs:=by simp
  simp only[e,BN,Ba,cF]
  simp only[List.take_length]
theorem markGraph_eq (xs:LL)(k:Int)(h:Sh2 xs)(h0:0≤k)(h1:k+tot xs≤4611686018427387904):D.K xs k=some (k+tot xs,AS k xs):=by
 unfold D.K;rw[markSS_eq xs k h h0 h1];rfl
theorem heldS_eq (n:Nat)(k:Int)(h:n≤4294967296)(h0:0≤k)(h1:k≤4611686018427387904):D.g (Bm k n) k=some (k+n):=by
 unfold D.g
 rw[B5]
 refine(BI (λi=>(k+(i:Int),(i:Int))) n (.inl (k+(n:Int))) (by simp) (λi hi=> ?_) ?_).trans rfl
 ·have hi':i<(Bm k n).length:=by rw[B5];exact hi
  simp only[dlt hi,cT,AA hi',numsI_get,bs,bne_self_eq_false,cF,wq i]
  rw[w64 (by omega) (by omega)]
  have:k+(i:Int)+1=k+((i+1:Nat):Int):=by omega
  rw[this]
 ·simp only[Ba,cF]
theorem heldSS_eq (xs:LL)(k:Int)(h:Sh2 xs)(h0:0≤k)(h1:k+tot xs≤4611686018427387904):D.U (AS k xs) k=some (k+tot xs):=by
 obtain⟨h,h2⟩:=h
 unfold Sh at h
 unfold D.U
 rw[BN]
 refine(BI (λi=>(k+tot (xs.take i),(i:Int))) xs.length (.inl (k+tot xs)) (by simp[tot]) (λi hi=> ?_) ?_).trans rfl
 ·have hi':i<(AS k xs).length:=by rw[BN];exact hi
  have ht:=tot_take hi
  have htn:tot (xs.take (i+1))≤tot xs:=by
   have:=Dl (xs.take (i+1)) (xs.drop (i+1))
   rw[List.take_append_drop] at this
   have:=BM (xs.drop (i+1));omega
  have htn0:=BM (xs.take i)
  simp only[dlt hi,cT,AA hi',marked_get xs k i hi,bs,heldS_eq xs[i].length (k+tot (xs.take i)) (h2 _ (List.getElem_mem hi)) (by omega) (by omega),wq i]
  have hd:decide (k+tot (xs.take i)+(xs[i].length:Int)<0)=false:=by simp;omega
  simp only[hd,cF,ht]
  have:k+tot (xs.take i)+(xs[i].length:Int)=k+(tot (xs.take i)+(xs[i].length:Int)):=by omega
  rw[this]
 ·simp only[Ba,cF,List.take_length]
def joinF (n : Nat) (F : LI) (v : Nat) (S : Int) : LI := (List.range n).map fun u => ior .u32 (ior .u32 (F.getD u 0) (if u = v then S else 0)) (if has S u then ishl .u32 1 (v : Int) else 0)
theorem nets_join_ok {n:Nat}(hn:n≤16){X:LI}(hl:X.length=n)(hV:∀u,u<n→VS (X.getD u 0)){v t:Nat}(hv:v<n)(ht:t<n)(hvt:v≠t):
  ∃y,D.R X (v:Int) (t:Int)=some y∧(y.length=n∧(∀u,u<n→VS (y.getD u 0))∧∀u w,u<n→nb y u w=(nb X u w||(decide (u=v)&&decide (w=t))||(decide (u=t)&&decide (w=v)))):=by
 have hx:∀k,k<n→idx X (k:Int)=some (X.getD k 0):=λk hk=>by rw[AA (by omega),AO (by omega)]
 refine⟨(X.set v (ior .u32 (X.getD v 0) (ishl .u32 1 (t:Int)))).set t (ior .u32 (X.getD t 0) (ishl .u32 1 (v:Int))),?_,by simp[hl],λu hu=> ?_,λu w hu=> ?_⟩
 ·unfold D.R
  have e1:idx (X.set v (ior .u32 (X.getD v 0) (ishl .u32 1 (t:Int)))) (t:Int)=some (X.getD t 0):=by
   rw[AA (by simp;omega),List.getElem_set_ne hvt]
   exact congrArg some (AO (by omega) 0).symm
  simp only[hx v hv,bs,impl_one_eq,Int.toNat_natCast,e1]
 ·rw[List.getD_eq_getElem?_getD,List.getElem?_set]
  by_cases h:t=u
  ·rw[if_pos h,if_pos (by simp;omega)];exact VS.ior _ _
  ·rw[if_neg h,List.getElem?_set]
   by_cases h2:v=u
   ·rw[if_pos h2,if_pos (by omega)];exact VS.ior _ _
   ·rw[if_neg h2,←List.getD_eq_getElem?_getD];exact hV u hu
 ·unfold nb
  rw[List.getD_eq_getElem?_getD,List.getElem?_set]
  by_cases h:t=u
  ·subst h
   rw[if_pos rfl,if_pos (by simp;omega),Option.getD_some,has_ior (hV _ hu) (VS.ishl _ _),has_one (by omega)]
   have:decide (t=v)=false:=decide_eq_false (λe=>hvt e.symm)
   rw[this];simp
  ·rw[if_neg h,List.getElem?_set]
   have e2:decide (u=t)=false:=decide_eq_false (λe=>h e.symm)
   by_cases h2:v=u
   ·subst h2
    rw[if_pos rfl,if_pos (by omega),Option.getD_some,has_ior (hV _ hu) (VS.ishl _ _),has_one (by omega),e2];simp
   ·rw[if_neg h2,←List.getD_eq_getElem?_getD,e2,decide_eq_false (λe=>h2 e.symm)];simp
def Cn (ad:Nat→Nat→Prop)(S:Nat→Prop)(x y:Nat):Prop:=∀T:Nat→Prop,T x→(∀a b,T a→ad a b→S b→T b)→T y
def Joint (ad:Nat→Nat→Prop)(S:Nat→Prop):Prop:=∀x y,S x→S y→Cn ad S x y
abbrev Ad (F : LI) (a b : Nat) : Prop := nb F a b = true
abbrev El (s:Int)(x:Nat):Prop:=has s x=true
abbrev Mn (s:Int)(v x:Nat):Prop:=has s x=true∧x≠v
def Way (ad:Nat→Nat→Prop):List Nat→Prop
 |[]=>True
 |[_]=>True
 |a::b::l=>ad a b∧Way ad (b::l)
structure Hole (ad:Nat→Nat→Prop)(c:List Nat):Prop where
 len:4≤c.length
 nd:c.Nodup
 step:∀i (h:i+1<c.length),ad c[i] c[i+1]
 close:ad (c[c.length-1]'(by omega)) (c[0]'(by omega))
 no:∀i j (_:i+1<j) (hj:j<c.length),¬(i=0∧j=c.length-1)→¬ad (c[i]'(by omega)) c[j]
def NoHole (ad:Nat→Nat→Prop)(X:Nat→Prop):Prop:=∀c,Hole ad c→¬∀x∈c,X x
def Nr (ad:Nat→Nat→Prop)(v:Nat):Nat→Nat→Prop
 |0,_=>False
 |k+1,u=>u=v∨∃w,Nr ad v k w∧ad w u
def Gm (E:Nat→Nat→Prop)(a b c d:Nat):Prop:=E c d∧((a=c∧¬E b d∧b≠d)∨(b=d∧¬E a c∧a≠c))
def Kl (E:Nat→Nat→Prop)(a b c d:Nat):Prop:=∀T:Nat→Nat→Prop,T a b→(∀p q r s,T p q→Gm E p q r s→T r s)→T c d
def AdW (g : LL) (all : Int) (a b : Nat) : Prop := adj g a b ∧ has all b = true
def Dst (g : LL) (all : Int) (v j u : Nat) : Prop := Nr (AdW g all) v (j + 1) u ∧ ¬ Nr (AdW g all) v j u
def Av (ad:Nat→Nat→Prop)(X:Nat→Prop)(c z:Nat):Prop:=X z∧z≠c∧¬ad c z
def Apt (ad:Nat→Nat→Prop)(X:Nat→Prop)(a b c:Nat):Prop:=
 X a∧X b∧X c∧a≠b∧a≠c∧b≠c∧¬ad a b∧¬ad a c∧¬ad b c∧Cn ad (Av ad X c) a b∧Cn ad (Av ad X b) a c∧Cn ad (Av ad X a) b c
def Ape (ad : Nat → Nat → Prop) (X S : Nat → Prop) (a b : Nat) : Prop :=
  X a ∧ X b ∧ a ≠ b ∧ ¬ ad a b ∧ (∃ k, S k ∧ Cn ad (Av ad X b) a k) ∧ ∃ k, S k ∧ Cn ad (Av ad X a) b k
section
variable {g : LL} (hg : GOk g)
include hg
end
end Go.Sx

namespace Go.Sx
def atp (cs o : LI) (k v : Nat) : Bool := ch cs (o.getD k 0).toNat v
end Go.Sx



namespace Go.Sx
def nearS (F : LI) (p : Pr) : Int := if p.2.2 = 2 then ishl .u32 1 p.2.1 else if p.2.2 = 3 then F.getD p.2.1.toNat 0 else if p.2.2 = 4 then ior .u32 (F.getD p.2.1.toNat 0) (ishl .u32 1 p.2.1) else 0
def Fs (n : Nat) : List Pr → LI
  | [] => List.replicate n 0
  | p :: l => joinF n (Fs n l) p.1.toNat (nearS (Fs n l) p)
def vsOf (l : List Pr) : LI := l.map (·.1)
def Lsts (g : LL) (K : Int) : Prop := In g.length K ∧ (∀ u w, has K u = true → has K w = true → ¬ adj g u w) ∧ ∀ w, w < g.length → has K w = true ∨ ∃ v, has K v = true ∧ adj g v w
def lf (xs:List (Int×Int))(v:Nat):Int:=(xs.getD v (0,0)).1
abbrev ap (a b : Nat) : Int × Int := ((a : Int), (b : Int))
section
variable {g : LL} (hg : GOk g)
include hg
end
end Go.Sx

namespace Go.Sx
abbrev Vx (n at' x:Nat):Prop:=x<n∧x≠at'
def PP (F : LI) (n : Nat) (S : Nat → Prop) : Prop := ∀ c x, S c → S x → x ≠ c → (∀ w, Ad F c w → Cn (Ad F) (Vx n c) x w → S w) ∧ ∀ y, S y → y ≠ c → Cn (Ad F) (Vx n c) x y → Cn (Ad F) (fun z => S z ∧ z ≠ c) x y
def Two (S:Int):Prop:=∃x y,El S x∧El S y∧x≠y
section
variable {F : LI} {n : Nat} (hn : n ≤ 16) (hF : FOk F n)
include hn hF
end
end Go.Sx

namespace Go.Sx
def pr (a b : Nat) : LI := [(a : Int), (b : Int)]
def Clo (g : LL) (u v a b : Nat) : Prop := ∀ T : Nat → Nat → Prop, T u v → T v u → (∀ a b w, T a b → adj g a w → Cn (adj g) (Vx g.length a) b w → T a w ∧ T w a) → T a b
section
variable {g : LL} (hg : GOk g)
include hg
end
end Go.Sx

namespace Go.Sx
def prt (s t:Int):Bool:=(Di .u32 s t)==0
def spareM (M:LI)(l:LI):Option (Nat×Nat):=
 if prt (M.getD (l.getD 1 0).toNat 0) (M.getD (l.getD 0 0).toNat 0) then some ((l.getD 1 0).toNat,(l.getD 0 0).toNat)
 else if prt (M.getD (l.getD 0 0).toNat 0) (M.getD (l.getD 1 0).toNat 0) then some ((l.getD 0 0).toNat,(l.getD 1 0).toNat) else none
def spare (M:LI)(K:LL):Option (Nat×Nat):=(List.range K.length).findSome? (λi=>spareM M (K.getD i []))
section
variable {g : LL} (hg : GOk g)
include hg
def prs (P : List (Nat × Nat)) : LL := P.map fun p => pr p.1 p.2
end
end Go.Sx

namespace Go.Sx
def wst (A:Nat→Nat→Bool)(s v u:Nat):Bool:=A v u&& !s.testBit u
def wcnF (A:Nat→Nat→Bool)(n:Nat)(L:Nat→Bool):Nat→Nat→Nat→Nat
 |0,_,_=>0
 |k+1,s,v=>if s=2^n-1 then bit (L v) else AV (λu=>bit (wst A s v u)*wcnF A n L k (s|||2^u) u) n
def wcn (A:Nat→Nat→Bool)(n:Nat)(L:Nat→Bool)(s v:Nat):Nat:=wcnF A n L (2^n) s v
def rm (n:Nat)(m:Int):Int:=Di .u32 (full n) m
noncomputable def bh (F : LI) (m v : Int) : Int := (D.e0 F m v).getD 0
noncomputable def indP (p:Prop):Nat:=by classical exact if p then 1 else 0
noncomputable def cntP (n:Nat)(p:Nat→Prop):Nat:=AV (λv=>indP (p v)) n
section
variable (A : Nat → Nat → Prop) (n : Nat)
def EdI (e:Nat):Prop:=e<n*n∧(e/n=e%n∨A (e/n) (e%n))
def AtI (v:Nat)(P:Nat→Prop):Prop:=∃e,EdI A n e∧P e∧(e/n=v∨e%n=v)
def TI (X:BitVec (n*n))(v:Nat):Prop:=AtI A n v λe=>X.getLsbD e=true
def BdI (X:BitVec (n*n))(v:Nat):Prop:=TI A n X v∧TI A n (~~~X) v
def DelI (m:List (BitVec (n*n)))(v:Nat):Prop:=∃X∈m,BdI A n X v
end
def DisI {N:Nat}(X Y:BitVec N):Prop:=∀e,¬(X.getLsbD e=true∧Y.getLsbD e=true)
def PartI {N:Nat}(m:List (BitVec N)):Prop:=m.Pairwise DisI∧∀e,e<N→∃X∈m,X.getLsbD e=true
end Go.Sx

namespace Go.Sx
def nx (t:LI)(x:Int):Int:=t.getD ((t.idxOf x+1)%t.length) 0
def Pot (n:Nat)(h w:Nat→Nat→Nat)(a:Nat):Nat:=AV (λk=>AV (λu=>(if a≤k then w k u else 0)*h k u) n) (2^n)
def zer (n s:Nat):Nat:=AV (λu=>bit (!s.testBit u)) n
noncomputable def wv (F : LI) (rec : Int → Int) (m v : Int) : Int := if ((AP (bh F m v)).length : Int) < rec (ior .u32 m (ishl .u32 1 v)) then rec (ior .u32 m (ishl .u32 1 v)) else ((AP (bh F m v)).length : Int)
noncomputable def wd (F : LI) (n : Nat) : Nat → Int → Int
  | 0, _ => 0
  | k + 1, m => (AP (rm n m)).foldl (fun b v => if wv F (wd F n k) m v < b then wv F (wd F n k) m v else b) 16
def Tch (F:LI)(s t:Int):Prop:=∃x y,El s x∧El t y∧(x=y∨nb F x y=true)
noncomputable def bo (F:LI)(n:Nat)(most:Int):Nat→Int→LI
 |0,_=>[]
 |k+1,m=>match(AP (rm n m)).find? (λv=>decide (wv F (wd F n k) m v≤most)) with
  |some v=>v::bo F n most k (ior .u32 m (ishl .u32 1 v))
  |none=>[]
theorem sides_eq {g:LL}(hg:GOk g):AV (λu=>(row g u).length) g.length=2*(Ar g).length:=by
 have h16:=hg.n16
 have hA:∀u v,Decidable (adj g u v):=λu v=>Classical.propDecidable _
 have hm:∀u,u<g.length→∀v,has (mk (row g u)) v=decide (adj g u v):=λu hu v=>by
  rw[has_mk (λx hx=>by have:=(hg.rows u hu).2 x hx;omega),Bool.eq_iff_iff,decide_eq_true_eq,decide_eq_true_eq];exact Iff.rfl
 have hr:∀u,u<g.length→AP (mk (row g u))=row g u:=λu hu=>elems_mk h16 (hg.rows u hu).1 (hg.rows u hu).2
 have hlt:∀u,u<g.length→∀v,has (mk (row g u)) v=true→v<g.length:=λu hu v hv=>hg.lt hu (by rw[hm u hu] at hv;exact of_decide_eq_true hv)
 have e1:AV (λu=>(row g u).length) g.length=S2 g.length (λu v=>decide (adj g u v)):=Bl λu hu=>by
  rw[←hr u hu,elems_sum (n:=g.length) (by omega) (hlt u hu)]
  exact Bl λv _=>by rw[hm u hu]
 have e3:=S2_half (n:=g.length) (A:=λu v=>decide (adj g u v)) (lt:=λu v=>decide (u<v)) (λu w hu hw=>by
   rw[Bool.eq_iff_iff,decide_eq_true_eq,decide_eq_true_eq];exact⟨hg.sym u w hu,hg.sym w u hw⟩)
  (λu w hu hw h=>by
   rw[decide_eq_true_eq] at h
   have:u≠w:=λe=>hg.irr u hu (by rw[←e] at h;exact h)
   rw[decide_eq_true_eq,decide_eq_true_eq];omega)
  (λu w hu hw h1 h2=>by rw[decide_eq_true_eq] at h1 h2;omega)
 have e4:(Ar g).length=S2 g.length (λu v=>decide (adj g u v)&&decide (u<v)):=by
  rw[edgesF_len]
  refine Bl λu hu=> ?_
  rw[←hr u hu,Ds (n:=g.length) (by omega) (hlt u hu)]
  refine Bl λv hv=> ?_
  rw[hm u hu]
  congr 2
  rw[Bool.eq_iff_iff,decide_eq_true_eq,decide_eq_true_eq];omega
 omega
theorem sumN_bd {f:Nat→Nat}{c:Nat}:∀n,(∀i,i<n→f i≤c)→AV f n≤n*c
 |0,_=>by rw[Nat.zero_mul];exact Nat.le_refl _
 |n+1,h=>by
  have:=sumN_bd n (λi hi=>h i (by omega))
  have:=h n (by omega)
  rw[Nat.succ_mul]
  show AV f n+f n≤_
  omega
end Go.Sx
