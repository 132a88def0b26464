import Derived.Test.YtkbhcbipadkcaaaGreatDoorTW21
import Derived.Lib.Atoi
import Derived.Lib.ItoaNum
import Derived.Lib.Repeat
section
namespace Go.Proofs
open Go.Shelf
def Tryz.lays172_ren:Go.Shelf.Ren:=⟨fun|172=>187|244=>205|245=>206|247=>236|279=>237|280=>238|281=>239|282=>240|287=>256|316=>257|171=>130|205=>258|321=>263|322=>264|243=>175|246=>197|283=>229|284=>230|285=>231|286=>232|129=>216|317=>251|318=>252|319=>253|320=>254|337=>261|338=>262|n=>n,fun|9=>9|3=>3|75=>38|76=>195|4=>4|5=>5|167=>276|37=>138|0=>0|85=>277|2=>2|168=>279|53=>33|175=>297|46=>188|210=>300|127=>239|145=>310|143=>308|21=>21|171=>271|173=>273|212=>294|51=>232|20=>20|213=>295|232=>311|233=>312|80=>140|n=>n,fun|15=>2|16=>3|17=>1|18=>4|19=>5|n=>n⟩
theorem Tryz.lays172:Go.Proofs.Lays.n172 Tryz.prog Tryz.lays172_ren:={
 mixed:=by kernel_rfl
 f129:=Tryz.func216.trans (congrArg some (by kernel_rfl))
 f171:=Tryz.func130.trans (congrArg some (by kernel_rfl))
 f172:=Tryz.func187.trans (congrArg some (by kernel_rfl))
 f205:=Tryz.func258.trans (congrArg some (by kernel_rfl))
 f243:=Tryz.func175.trans (congrArg some (by kernel_rfl))
 f244:=Tryz.func205.trans (congrArg some (by kernel_rfl))
 f245:=Tryz.func206.trans (congrArg some (by kernel_rfl))
 f246:=Tryz.func197.trans (congrArg some (by kernel_rfl))
 f247:=Tryz.func236.trans (congrArg some (by kernel_rfl))
 f279:=Tryz.func237.trans (congrArg some (by kernel_rfl))
 f280:=Tryz.func238.trans (congrArg some (by kernel_rfl))
 f281:=Tryz.func239.trans (congrArg some (by kernel_rfl))
 f282:=Tryz.func240.trans (congrArg some (by kernel_rfl))
 f283:=Tryz.func229.trans (congrArg some (by kernel_rfl))
 f284:=Tryz.func230.trans (congrArg some (by kernel_rfl))
 f285:=Tryz.func231.trans (congrArg some (by kernel_rfl))
 f286:=Tryz.func232.trans (congrArg some (by kernel_rfl))
 f287:=Tryz.func256.trans (congrArg some (by kernel_rfl))
 f316:=Tryz.func257.trans (congrArg some (by kernel_rfl))
 f317:=Tryz.func251.trans (congrArg some (by kernel_rfl))
 f318:=Tryz.func252.trans (congrArg some (by kernel_rfl))
 f319:=Tryz.func253.trans (congrArg some (by kernel_rfl))
 f320:=Tryz.func254.trans (congrArg some (by kernel_rfl))
 f321:=Tryz.func263.trans (congrArg some (by kernel_rfl))
 f322:=Tryz.func264.trans (congrArg some (by kernel_rfl))
 f337:=Tryz.func261.trans (congrArg some (by kernel_rfl))
 f338:=Tryz.func262.trans (congrArg some (by kernel_rfl))
 t0:=Tryz.underlying0
 a0:=Tryz.isAgg0
 z0:=Tryz.sizeOf0
 v0:=Tryz.zeroValue0
 t2:=Tryz.underlying2
 a2:=Tryz.isAgg2
 z2:=Tryz.sizeOf2
 v2:=Tryz.zeroValue2
 t3:=Tryz.underlying3
 a3:=Tryz.isAgg3
 z3:=Tryz.sizeOf3
 v3:=Tryz.zeroValue3
 t4:=Tryz.underlying4
 a4:=Tryz.isAgg4
 z4:=Tryz.sizeOf4
 v4:=Tryz.zeroValue4
 t5:=Tryz.underlying5
 a5:=Tryz.isAgg5
 z5:=Tryz.sizeOf5
 v5:=Tryz.zeroValue5
 t9:=Tryz.underlying9
 a9:=Tryz.isAgg9
 z9:=Tryz.sizeOf9
 v9:=Tryz.zeroValue9
 t20:=Tryz.underlying20
 a20:=Tryz.isAgg20
 z20:=Tryz.sizeOf20
 v20:=Tryz.zeroValue20
 t21:=Tryz.underlying21
 a21:=Tryz.isAgg21
 z21:=Tryz.sizeOf21
 v21:=Tryz.zeroValue21
 t37:=Tryz.underlying138
 a37:=Tryz.isAgg138
 z37:=Tryz.sizeOf138
 v37:=Tryz.zeroValue138
 t46:=Tryz.underlying188
 a46:=Tryz.isAgg188
 z46:=Tryz.sizeOf188
 v46:=Tryz.zeroValue188
 t51:=Tryz.underlying232
 a51:=Tryz.isAgg232
 z51:=Tryz.sizeOf232
 v51:=Tryz.zeroValue232
 t53:=Tryz.underlying33
 a53:=Tryz.isAgg33
 z53:=Tryz.sizeOf33
 v53:=Tryz.zeroValue33
 t75:=Tryz.underlying38
 a75:=Tryz.isAgg38
 z75:=Tryz.sizeOf38
 v75:=Tryz.zeroValue38
 t76:=Tryz.underlying195
 a76:=Tryz.isAgg195
 z76:=Tryz.sizeOf195
 v76:=Tryz.zeroValue195
 t85:=Tryz.underlying277
 a85:=Tryz.isAgg277
 z85:=Tryz.sizeOf277
 v85:=Tryz.zeroValue277
 t127:=Tryz.underlying239
 a127:=Tryz.isAgg239
 z127:=Tryz.sizeOf239
 v127:=Tryz.zeroValue239
 t143:=Tryz.underlying308
 a143:=Tryz.isAgg308
 z143:=Tryz.sizeOf308
 v143:=Tryz.zeroValue308
 t145:=Tryz.underlying310
 a145:=Tryz.isAgg310
 z145:=Tryz.sizeOf310
 v145:=Tryz.zeroValue310
 t167:=Tryz.underlying276
 a167:=Tryz.isAgg276
 z167:=Tryz.sizeOf276
 v167:=Tryz.zeroValue276
 t168:=Tryz.underlying279
 a168:=Tryz.isAgg279
 z168:=Tryz.sizeOf279
 v168:=Tryz.zeroValue279
 t171:=Tryz.underlying271
 a171:=Tryz.isAgg271
 z171:=Tryz.sizeOf271
 v171:=Tryz.zeroValue271
 t173:=Tryz.underlying273
 a173:=Tryz.isAgg273
 z173:=Tryz.sizeOf273
 v173:=Tryz.zeroValue273
 t175:=Tryz.underlying297
 a175:=Tryz.isAgg297
 z175:=Tryz.sizeOf297
 v175:=Tryz.zeroValue297
 t210:=Tryz.underlying300
 a210:=Tryz.isAgg300
 z210:=Tryz.sizeOf300
 v210:=Tryz.zeroValue300
 t212:=Tryz.underlying294
 a212:=Tryz.isAgg294
 z212:=Tryz.sizeOf294
 v212:=Tryz.zeroValue294
 t213:=Tryz.underlying295
 a213:=Tryz.isAgg295
 z213:=Tryz.sizeOf295
 t232:=Tryz.underlying311
 a232:=Tryz.isAgg311
 z232:=Tryz.sizeOf311
 v232:=Tryz.zeroValue311
 t233:=Tryz.underlying312
 a233:=Tryz.isAgg312
 z233:=Tryz.sizeOf312
 v233:=Tryz.zeroValue312
 g15:=by kernel_rfl
 g16:=by kernel_rfl
 g17:=by kernel_rfl
 g18:=by kernel_rfl
 g19:=by kernel_rfl }
def Tryz.laysM171_ren:Go.Shelf.Ren:=⟨fun|171=>130|243=>175|246=>197|283=>229|284=>230|285=>231|286=>232|129=>216|317=>251|318=>252|319=>253|320=>254|337=>261|338=>262|n=>n,fun|3=>3|9=>9|2=>2|4=>4|171=>271|0=>0|53=>33|37=>138|5=>5|173=>273|212=>294|51=>232|20=>20|213=>295|46=>188|232=>311|233=>312|n=>n,fun|17=>1|18=>4|19=>5|n=>n⟩
theorem Tryz.laysM171:Go.Proofs.LaysM.n171 Tryz.prog Tryz.laysM171_ren:={
 mixed:=by kernel_rfl
 f129:=Tryz.func216.trans (congrArg some (by kernel_rfl))
 f171:=Tryz.func130.trans (congrArg some (by kernel_rfl))
 f243:=Tryz.func175.trans (congrArg some (by kernel_rfl))
 f246:=Tryz.func197.trans (congrArg some (by kernel_rfl))
 f283:=Tryz.func229.trans (congrArg some (by kernel_rfl))
 f284:=Tryz.func230.trans (congrArg some (by kernel_rfl))
 f285:=Tryz.func231.trans (congrArg some (by kernel_rfl))
 f286:=Tryz.func232.trans (congrArg some (by kernel_rfl))
 f317:=Tryz.func251.trans (congrArg some (by kernel_rfl))
 f318:=Tryz.func252.trans (congrArg some (by kernel_rfl))
 f319:=Tryz.func253.trans (congrArg some (by kernel_rfl))
 f320:=Tryz.func254.trans (congrArg some (by kernel_rfl))
 f337:=Tryz.func261.trans (congrArg some (by kernel_rfl))
 f338:=Tryz.func262.trans (congrArg some (by kernel_rfl))
 t0:=Tryz.underlying0
 a0:=Tryz.isAgg0
 z0:=Tryz.sizeOf0
 v0:=Tryz.zeroValue0
 t2:=Tryz.underlying2
 a2:=Tryz.isAgg2
 z2:=Tryz.sizeOf2
 v2:=Tryz.zeroValue2
 t3:=Tryz.underlying3
 a3:=Tryz.isAgg3
 z3:=Tryz.sizeOf3
 v3:=Tryz.zeroValue3
 t4:=Tryz.underlying4
 a4:=Tryz.isAgg4
 z4:=Tryz.sizeOf4
 v4:=Tryz.zeroValue4
 t5:=Tryz.underlying5
 a5:=Tryz.isAgg5
 z5:=Tryz.sizeOf5
 v5:=Tryz.zeroValue5
 t9:=Tryz.underlying9
 a9:=Tryz.isAgg9
 z9:=Tryz.sizeOf9
 v9:=Tryz.zeroValue9
 t20:=Tryz.underlying20
 a20:=Tryz.isAgg20
 z20:=Tryz.sizeOf20
 v20:=Tryz.zeroValue20
 t37:=Tryz.underlying138
 a37:=Tryz.isAgg138
 z37:=Tryz.sizeOf138
 v37:=Tryz.zeroValue138
 t46:=Tryz.underlying188
 a46:=Tryz.isAgg188
 z46:=Tryz.sizeOf188
 v46:=Tryz.zeroValue188
 t51:=Tryz.underlying232
 a51:=Tryz.isAgg232
 z51:=Tryz.sizeOf232
 v51:=Tryz.zeroValue232
 t53:=Tryz.underlying33
 a53:=Tryz.isAgg33
 z53:=Tryz.sizeOf33
 v53:=Tryz.zeroValue33
 t171:=Tryz.underlying271
 a171:=Tryz.isAgg271
 z171:=Tryz.sizeOf271
 v171:=Tryz.zeroValue271
 t173:=Tryz.underlying273
 a173:=Tryz.isAgg273
 z173:=Tryz.sizeOf273
 v173:=Tryz.zeroValue273
 t212:=Tryz.underlying294
 a212:=Tryz.isAgg294
 z212:=Tryz.sizeOf294
 v212:=Tryz.zeroValue294
 t213:=Tryz.underlying295
 a213:=Tryz.isAgg295
 z213:=Tryz.sizeOf295
 t232:=Tryz.underlying311
 a232:=Tryz.isAgg311
 z232:=Tryz.sizeOf311
 v232:=Tryz.zeroValue311
 t233:=Tryz.underlying312
 a233:=Tryz.isAgg312
 z233:=Tryz.sizeOf312
 v233:=Tryz.zeroValue312
 g17:=by kernel_rfl
 g18:=by kernel_rfl
 g19:=by kernel_rfl
 i0:=by kernel_rfl
 i2:=by kernel_rfl
 i3:=by kernel_rfl
 i4:=by kernel_rfl
 i5:=by kernel_rfl
 i9:=by kernel_rfl
 i20:=by kernel_rfl
 i37:=by kernel_rfl
 i46:=by kernel_rfl
 i51:=by kernel_rfl
 i53:=by kernel_rfl
 i171:=by kernel_rfl
 i173:=by kernel_rfl
 i212:=by kernel_rfl
 i232:=by kernel_rfl
 i233:=by kernel_rfl
 m17:=by kernel_rfl
 m18:=by kernel_rfl
 m19:=by kernel_rfl }
def Tryz.laysC172_ren:Go.Shelf.Ren:=⟨fun|172=>187|244=>205|245=>206|247=>236|279=>237|280=>238|281=>239|282=>240|287=>256|316=>257|171=>130|205=>258|321=>263|322=>264|243=>175|246=>197|283=>229|284=>230|285=>231|286=>232|129=>216|317=>251|318=>252|319=>253|320=>254|337=>261|338=>262|n=>n,fun|9=>9|3=>3|75=>38|76=>195|4=>4|5=>5|167=>276|37=>138|0=>0|85=>277|2=>2|168=>279|53=>33|175=>297|46=>188|210=>300|127=>239|145=>310|143=>308|21=>21|171=>271|173=>273|212=>294|51=>232|20=>20|213=>295|232=>311|233=>312|80=>140|n=>n,fun|15=>2|16=>3|17=>1|18=>4|19=>5|n=>n⟩
theorem Tryz.laysC172:Go.Proofs.LaysC.n172 Tryz.prog Tryz.laysC172_ren:={
 mixed:=by kernel_rfl
 f129:=Tryz.func216.trans (congrArg some (by kernel_rfl))
 f171:=Tryz.func130.trans (congrArg some (by kernel_rfl))
 f172:=Tryz.func187.trans (congrArg some (by kernel_rfl))
 f205:=Tryz.func258.trans (congrArg some (by kernel_rfl))
 f243:=Tryz.func175.trans (congrArg some (by kernel_rfl))
 f244:=Tryz.func205.trans (congrArg some (by kernel_rfl))
 f245:=Tryz.func206.trans (congrArg some (by kernel_rfl))
 f246:=Tryz.func197.trans (congrArg some (by kernel_rfl))
 f247:=Tryz.func236.trans (congrArg some (by kernel_rfl))
 f279:=Tryz.func237.trans (congrArg some (by kernel_rfl))
 f280:=Tryz.func238.trans (congrArg some (by kernel_rfl))
 f281:=Tryz.func239.trans (congrArg some (by kernel_rfl))
 f282:=Tryz.func240.trans (congrArg some (by kernel_rfl))
 f283:=Tryz.func229.trans (congrArg some (by kernel_rfl))
 f284:=Tryz.func230.trans (congrArg some (by kernel_rfl))
 f285:=Tryz.func231.trans (congrArg some (by kernel_rfl))
 f286:=Tryz.func232.trans (congrArg some (by kernel_rfl))
 f287:=Tryz.func256.trans (congrArg some (by kernel_rfl))
 f316:=Tryz.func257.trans (congrArg some (by kernel_rfl))
 f317:=Tryz.func251.trans (congrArg some (by kernel_rfl))
 f318:=Tryz.func252.trans (congrArg some (by kernel_rfl))
 f319:=Tryz.func253.trans (congrArg some (by kernel_rfl))
 f320:=Tryz.func254.trans (congrArg some (by kernel_rfl))
 f321:=Tryz.func263.trans (congrArg some (by kernel_rfl))
 f322:=Tryz.func264.trans (congrArg some (by kernel_rfl))
 f337:=Tryz.func261.trans (congrArg some (by kernel_rfl))
 f338:=Tryz.func262.trans (congrArg some (by kernel_rfl))
 t0:=Tryz.underlying0
 a0:=Tryz.isAgg0
 z0:=Tryz.sizeOf0
 v0:=Tryz.zeroValue0
 t2:=Tryz.underlying2
 a2:=Tryz.isAgg2
 z2:=Tryz.sizeOf2
 v2:=Tryz.zeroValue2
 t3:=Tryz.underlying3
 a3:=Tryz.isAgg3
 z3:=Tryz.sizeOf3
 v3:=Tryz.zeroValue3
 t4:=Tryz.underlying4
 a4:=Tryz.isAgg4
 z4:=Tryz.sizeOf4
 v4:=Tryz.zeroValue4
 t5:=Tryz.underlying5
 a5:=Tryz.isAgg5
 z5:=Tryz.sizeOf5
 v5:=Tryz.zeroValue5
 t9:=Tryz.underlying9
 a9:=Tryz.isAgg9
 z9:=Tryz.sizeOf9
 v9:=Tryz.zeroValue9
 t20:=Tryz.underlying20
 a20:=Tryz.isAgg20
 z20:=Tryz.sizeOf20
 v20:=Tryz.zeroValue20
 t21:=Tryz.underlying21
 a21:=Tryz.isAgg21
 z21:=Tryz.sizeOf21
 v21:=Tryz.zeroValue21
 t37:=Tryz.underlying138
 a37:=Tryz.isAgg138
 z37:=Tryz.sizeOf138
 v37:=Tryz.zeroValue138
 t46:=Tryz.underlying188
 a46:=Tryz.isAgg188
 z46:=Tryz.sizeOf188
 v46:=Tryz.zeroValue188
 t51:=Tryz.underlying232
 a51:=Tryz.isAgg232
 z51:=Tryz.sizeOf232
 v51:=Tryz.zeroValue232
 t53:=Tryz.underlying33
 a53:=Tryz.isAgg33
 z53:=Tryz.sizeOf33
 v53:=Tryz.zeroValue33
 t75:=Tryz.underlying38
 a75:=Tryz.isAgg38
 z75:=Tryz.sizeOf38
 v75:=Tryz.zeroValue38
 t76:=Tryz.underlying195
 a76:=Tryz.isAgg195
 z76:=Tryz.sizeOf195
 v76:=Tryz.zeroValue195
 t85:=Tryz.underlying277
 a85:=Tryz.isAgg277
 z85:=Tryz.sizeOf277
 v85:=Tryz.zeroValue277
 t127:=Tryz.underlying239
 a127:=Tryz.isAgg239
 z127:=Tryz.sizeOf239
 v127:=Tryz.zeroValue239
 t143:=Tryz.underlying308
 a143:=Tryz.isAgg308
 z143:=Tryz.sizeOf308
 v143:=Tryz.zeroValue308
 t145:=Tryz.underlying310
 a145:=Tryz.isAgg310
 z145:=Tryz.sizeOf310
 v145:=Tryz.zeroValue310
 t167:=Tryz.underlying276
 a167:=Tryz.isAgg276
 z167:=Tryz.sizeOf276
 v167:=Tryz.zeroValue276
 t168:=Tryz.underlying279
 a168:=Tryz.isAgg279
 z168:=Tryz.sizeOf279
 v168:=Tryz.zeroValue279
 t171:=Tryz.underlying271
 a171:=Tryz.isAgg271
 z171:=Tryz.sizeOf271
 v171:=Tryz.zeroValue271
 t173:=Tryz.underlying273
 a173:=Tryz.isAgg273
 z173:=Tryz.sizeOf273
 v173:=Tryz.zeroValue273
 t175:=Tryz.underlying297
 a175:=Tryz.isAgg297
 z175:=Tryz.sizeOf297
 v175:=Tryz.zeroValue297
 t210:=Tryz.underlying300
 a210:=Tryz.isAgg300
 z210:=Tryz.sizeOf300
 v210:=Tryz.zeroValue300
 t212:=Tryz.underlying294
 a212:=Tryz.isAgg294
 z212:=Tryz.sizeOf294
 v212:=Tryz.zeroValue294
 t213:=Tryz.underlying295
 a213:=Tryz.isAgg295
 z213:=Tryz.sizeOf295
 t232:=Tryz.underlying311
 a232:=Tryz.isAgg311
 z232:=Tryz.sizeOf311
 v232:=Tryz.zeroValue311
 t233:=Tryz.underlying312
 a233:=Tryz.isAgg312
 z233:=Tryz.sizeOf312
 v233:=Tryz.zeroValue312
 g15:=by kernel_rfl
 g16:=by kernel_rfl
 g17:=by kernel_rfl
 g18:=by kernel_rfl
 g19:=by kernel_rfl
 t80:=Tryz.underlying140
 a80:=Tryz.isAgg140
 z80:=Tryz.sizeOf140
 v80:=Tryz.zeroValue140
 i0:=by kernel_rfl
 i2:=by kernel_rfl
 i3:=by kernel_rfl
 i4:=by kernel_rfl
 i5:=by kernel_rfl
 i9:=by kernel_rfl
 i20:=by kernel_rfl
 i21:=by kernel_rfl
 i37:=by kernel_rfl
 i46:=by kernel_rfl
 i51:=by kernel_rfl
 i53:=by kernel_rfl
 i75:=by kernel_rfl
 i76:=by kernel_rfl
 i80:=by kernel_rfl
 i85:=by kernel_rfl
 i127:=by kernel_rfl
 i143:=by kernel_rfl
 i145:=by kernel_rfl
 i167:=by kernel_rfl
 i168:=by kernel_rfl
 i171:=by kernel_rfl
 i173:=by kernel_rfl
 i175:=by kernel_rfl
 i210:=by kernel_rfl
 i212:=by kernel_rfl
 i232:=by kernel_rfl
 i233:=by kernel_rfl
 m15:=by kernel_rfl
 m16:=by kernel_rfl
 m17:=by kernel_rfl
 m18:=by kernel_rfl
 m19:=by kernel_rfl
 c0:=by kernel_rfl
 c2:=by kernel_rfl
 c3:=by kernel_rfl
 c4:=by kernel_rfl
 c5:=by kernel_rfl
 c9:=by kernel_rfl
 c20:=by kernel_rfl
 c21:=by kernel_rfl
 c37:=by kernel_rfl
 c46:=by kernel_rfl
 c51:=by kernel_rfl
 c53:=by kernel_rfl
 c75:=by kernel_rfl
 c76:=by kernel_rfl
 c80:=by kernel_rfl
 c85:=by kernel_rfl
 c127:=by kernel_rfl
 c143:=by kernel_rfl
 c145:=by kernel_rfl
 c167:=by kernel_rfl
 c168:=by kernel_rfl
 c171:=by kernel_rfl
 c173:=by kernel_rfl
 c175:=by kernel_rfl
 c210:=by kernel_rfl
 c212:=by kernel_rfl
 c213:=by kernel_rfl
 c232:=by kernel_rfl
 c233:=by kernel_rfl }
def Tryz.lays99_ren:Go.Shelf.Ren:=⟨fun|99=>198|206=>233|n=>n,fun|9=>9|4=>4|3=>3|n=>n,fun|n=>n⟩
theorem Tryz.lays99:Go.Proofs.Lays.n99 Tryz.prog Tryz.lays99_ren:={
 mixed:=by kernel_rfl
 f99:=Tryz.func198.trans (congrArg some (by kernel_rfl))
 f206:=Tryz.func233.trans (congrArg some (by kernel_rfl))
 t3:=Tryz.underlying3
 a3:=Tryz.isAgg3
 z3:=Tryz.sizeOf3
 v3:=Tryz.zeroValue3
 t4:=Tryz.underlying4
 a4:=Tryz.isAgg4
 z4:=Tryz.sizeOf4
 v4:=Tryz.zeroValue4
 t9:=Tryz.underlying9
 a9:=Tryz.isAgg9
 z9:=Tryz.sizeOf9
 v9:=Tryz.zeroValue9 }
open Go.RowKit in
theorem Tryz.strconv_Atoi (s:ByteArray)(n:Int)(hl:s.size<=18)(h:Lib.atoi s.data.toList=some n)(w:World) :
    Calls Tryz.prog 187 #[.string s] w fun e w'=>e = .returned (.tuple #[.int .i64 n,.nilIface]) /\ ∃t,w'=Lib.bytesWorld w 5 t:=Any.strconv_Atoi Tryz.lays172 s n hl h w
open Go.RowKit Go.Sort Go.Lib in
theorem Tryz.strconv_Itoa (n:Int)(h0 : -9223372036854775808≤n)(h1:n≤9223372036854775807)(w:World)(htab:Lib.TabIs Tryz.prog w "internal/strconv.uint64pow10" .u64 Lib.pow10Tab) :
    Calls Tryz.prog 130 #[.int .i64 n] w fun e w'=>e = .returned (.string ⟨(Lib.itoa n).toArray⟩) /\ ∃k os,w'=grow (w.drewN k) os:=Any.strconv_Itoa Tryz.laysM171 n h0 h1 w htab
open Go.RowKit in
theorem Tryz.strconv_Atoi_err_var (s:ByteArray)(hl:s.size≤18)(h:Lib.atoi s.data.toList=none)(tp:TypeId)(p:Value)(w:World)(hvar:w.var? Tryz.prog "strconv.ErrSyntax" = some #[.iface tp p]) :
    Calls Tryz.prog 187 #[.string s] w fun e w' => ∃N,e = .returned (.tuple #[.int .i64 0,.iface 279 (.pointer (some ⟨N,0,none⟩))])/\w.heap.size<=N/\w'.heap[N]? = some (.cells #[.string ⟨#[65,116,111,105]⟩,.string s,.iface tp p] 300 (0,0))/\Below w.heap.size w w':=Any.strconv_Atoi_err_var Tryz.laysC172 s hl h tp p w hvar
open Go.RowKit Go.Lib in
theorem Tryz.strings_HasPrefix (s p:ByteArray)(w:World) :
    Calls Tryz.prog 198 #[.string s,.string p] w fun e w'=>e = .returned (.bool (Lib.hasPrefix s.data.toList p.data.toList))/\w'=w:=Any.strings_HasPrefix Tryz.lays99 s p w
end Go.Proofs
end
namespace Go.Proofs.YtkbhcbipadkcaaaGreatDoor
set_option linter.unusedVariables false
set_option linter.unusedSimpArgs false
set_option maxRecDepth 100000
set_option maxHeartbeats 90000000
theorem GK {l:List Held}{p:Place}{id:Int}(hg:Good l)(h:mV l p=0)(hi:id≠0):∃A B,l=A++B/\fR l p id=A++⟨p,id⟩::B:=by
 cases shape l p (jP hg) with
 | hit A B w e hh k ha hb =>
  have hw:w≠0:=(tC hg ⟨p,w⟩ (by rw [e];simp)).2
  rw [at_eq (jP hg),e,um (fun x hx=>lr (ha x hx))] at h
  exact absurd h hw
 | miss A B e hh k ha hb=>exact ⟨A,B,e,by rw [rk e hh k,if_neg hi]⟩
theorem BO {l:List Held}{p:Place}{w:Int}(hg:Good l)(h:mV l p=w)(hw:w≠0):∃A B,l=A++⟨p,w⟩::B/\fR l p 0=A++B:=by
 cases shape l p (jP hg) with
 | hit A B w' e hh k ha hb =>
  rw [at_eq (jP hg),e,um (fun x hx=>lr (ha x hx))] at h
  subst h
  exact ⟨A,B,e,by rw [tD e hh k,if_pos rfl]⟩
 | miss A B e hh k ha hb =>
  rw [at_eq (jP hg),e,Dy (fun x hx=>by
   rcases List.mem_append.1 hx with hx|hx
   .exact lr (ha x hx)
   .exact fun e=>lr (hb x hx) e.symm)] at h
  exact absurd h.symm hw
theorem at_mem {l:List Held}{p:Place}{w:Int}(hg:Good l)(h:mV l p=w)(hw:w≠0):(⟨p,w⟩:Held)∈l:=by
 obtain ⟨A,B,e,_⟩:=BO hg h hw
 rw [e];simp
theorem DF {l:List Held}(f:Held->Bool)(hg:Good l):Good (l.filter f) :=
 rj ((jP hg).filter _) (fun x hx=>tC hg x (List.mem_filter.1 hx).1)
def cH (l:List Held)(j:Int):Nat:=l.countP (fun h=>h.ak==j)
def cN (l:List Note)(j:Int):Nat:=l.countP (fun n=>n.ak==j)
theorem BP {l:List Held}{p:Place}{id:Int}(hg:Good l)(h:mV l p=0)(hi:id≠0)(j:Int):cH (fR l p id) j=cH l j+(if id=j then 1 else 0):=by
 obtain ⟨A,B,e,e2⟩:=GK hg h hi
 rw [e2,e];unfold cH
 rw [List.countP_append,List.countP_append,List.countP_cons]
 by_cases hj:id=j
 .rw [if_pos (by simpa using hj),if_pos hj];omega
 .rw [if_neg (by simpa using hj),if_neg hj];omega
theorem QA {l:List Held}{p:Place}{w:Int}(hg:Good l)(h:mV l p=w)(hw:w≠0)(j:Int):cH l j=cH (fR l p 0) j+(if w=j then 1 else 0):=by
 obtain ⟨A,B,e,e2⟩:=BO hg h hw
 rw [e2,e];unfold cH
 rw [List.countP_append,List.countP_append,List.countP_cons]
 by_cases hj:w=j
 .rw [if_pos (by simpa using hj),if_pos hj];omega
 .rw [if_neg (by simpa using hj),if_neg hj];omega
theorem QB {l:List Held}{x:Held}(h:x∈l):0<cH l x.ak:=List.countP_pos_iff.2 ⟨x,h,by simp⟩
theorem QC {l:List Note}{x:Note}(h:x∈l):0<cN l x.ak:=List.countP_pos_iff.2 ⟨x,h,by simp⟩
theorem QD {l:List Note}{i:Nat}{n:Note}(h:l[i]? = some n)(j:Int):cN l j=cN (uj l i) j+(if n.ak=j then 1 else 0):=by
 obtain ⟨hi,rfl⟩:=List.getElem?_eq_some_iff.1 h
 have e:l=l.take i++l[i]::l.drop (i+1):=by rw [<- List.drop_eq_getElem_cons hi,List.take_append_drop]
 unfold uj cN
 conv=>lhs;rw [e]
 rw [List.countP_append,List.countP_append,List.countP_cons]
 by_cases hj:(l[i]).ak=j
 .rw [if_pos (by simpa using hj),if_pos hj];omega
 .rw [if_neg (by simpa using hj),if_neg hj];omega
theorem Nb {l:List Note}{i:Nat}{x:Note}(h:x∈uj l i):x∈l:=by
 unfold uj at h
 rcases List.mem_append.1 h with h|h
 .exact List.mem_of_mem_take h
 .exact List.mem_of_mem_drop h
theorem zU {l:List Note}{i:Nat}(q:Int):gh (uj l i) q<=gh l q:=by
 unfold uj gh
 have h:(l.take i++l.drop (i+1)).Sublist l:=by
  have:=List.Sublist.append (List.Sublist.refl (l.take i)) (List.drop_sublist_drop_left l (Nat.le_succ i))
  rwa [List.take_append_drop] at this
 exact (h.filter _).length_le
theorem lf {l:List ak}{id:Int}:0<=cJ l id ↔ ∃x∈l,x.ID=id:=by
 constructor
 .intro h;obtain ⟨x,_,h2,h3⟩:=Dl l id h;exact ⟨x,h3,h2⟩
 .rintro ⟨x,hx,rfl⟩;exact mg hx
theorem lh {l:List ak}(h:cS l){t:Int}:t∈bU l ↔ ∃w∈l,w.aE=t:=by
 unfold bU
 rw [zN h]
 show t∈kC l 999↔_
 rw [(ng l 999).2]
 simp only [hasT?,List.any_eq_true,beq_iff_eq]
 constructor
 .rintro ⟨_,_,w,hw,e⟩;exact ⟨w,hw,e⟩
 .
  rintro ⟨w,hw,e⟩
  have:=h.mem hw
  have h1:=this.Qp;have h2:=this.Qq
  exact ⟨by omega,by omega,w,hw,e⟩
structure Pre (r:aC):Prop where
  tree:cS r.ao
  good:Good r.Held
  sy:∀w∈r.ao,w.ID<r.ae
  o0:1<=r.ae
  rl:r.ae<=1000
  pG:1<=r.ah
  pH:r.ah<=1000
  jq:r.Things.Pairwise (fun a b=>a.ID<b.ID)
  vJ:∀t∈r.Things,1<=t.ID/\t.ID<r.ah
  jC:∀t∈r.Things,t.Kind=1∨t.Kind=2
  jD:∀t∈r.Things,t.Data.size<=8/\(t.Kind=2->t.Data=⟨#[]⟩)
  jr:r.Things.length<=10
  thing:∀w∈r.ao,∃t∈r.Things,t.ID=w.aE
  port:∀n∈r.Notes,∃t∈r.Things,t.ID=n.Port/\t.Kind=2
  kE:∀n∈r.Notes,n.Data.size<=8/\0<=n.aQ/\n.aQ<=99
  wait:∀q,gh r.Notes q<=3
  jE:∀n∈r.Notes,0<=n.ak
  once:∀w∈r.ao,cH r.Held w.ID+cN r.Notes w.ID=1
structure Inv (r:aC):Prop extends Pre r where
  iy:∀n∈r.Notes,0<n.ak -> ∃w∈r.ao,w.ID=n.ak
  eP:∀h∈r.Held,∃w∈r.ao,w.ID=h.ak
  used:∀t∈r.Things,∃w∈r.ao,w.aE=t.ID
theorem Inv.new:Inv newR:=by
 refine { tree:=rfl,good:=rj List.Pairwise.nil (fun x hx=>by cases hx),sy:=?_,o0:=by decide,rl:=by decide,pG:=by decide,pH:=by decide,jq:=List.Pairwise.nil,vJ:=?_,jC:=?_,jD:=?_,jr:=by decide,thing:=?_,port:=?_,kE:=?_,wait:=fun q=>by simp [gh,newR],jE:=?_,once:=?_,iy:=?_,eP:=?_,used:=?_ } <;> intro x hx <;> cases hx
theorem Pre.ri {r:aC}(h:Pre r):∀w∈r.ao,0<=w.Rights/\w.Rights<=7:=fun w hw=>⟨(h.tree.mem hw).KG,(h.tree.mem hw).KH⟩
theorem zV:∀ (ids:List Int) (l:List ak),cS l->cS (ids.foldl without l)
 | [],l,h=>h
 | i::ids,l,h=>zV ids _ (h.wo i)
structure Like (y x:ak):Prop where
  id:y.ID=x.ID
  th:y.aE=x.aE
  ri:y.Rights=x.Rights
  ba:y.aQ=x.aQ
theorem Like.refl (x:ak):Like x x:=⟨rfl,rfl,rfl,rfl⟩
theorem Like.trans {x y z:ak}(h:Like x y)(k:Like y z):Like x z:=⟨h.id.trans k.id,h.th.trans k.th,h.ri.trans k.ri,h.ba.trans k.ba⟩
theorem Like.symm {x y:ak}(h:Like x y):Like y x:=⟨h.id.symm,h.th.symm,h.ri.symm,h.ba.symm⟩
theorem vK (id f:Int)(x:ak):Like (mN id f x) x:=by have:=kB (id:=id) (f:=f) x;exact ⟨this.1,this.2.1,this.2.2.1,this.2.2.2⟩
theorem xZ:∀ (ids:List Int) (l:List ak) (w:ak),w∈ids.foldl without l->(∃y∈l,Like w y)/\¬ w.ID∈ids
 | [],l,w,h=>⟨⟨w,h,Like.refl w⟩,fun h=>by cases h⟩
 | i::ids,l,w,h=>by
  obtain ⟨⟨y,hy,hl⟩,hn⟩:=xZ ids (without l i) w h
  obtain ⟨z,hz,hne,rfl⟩:=gK.1 hy
  refine ⟨⟨z,hz,hl.trans (vK _ _ z)⟩,fun hm=>?_⟩
  rcases List.mem_cons.1 hm with e|hm
  .exact hne (by rw [<- e,hl.id,(kB z).1])
  .exact hn hm
theorem iQ (ws:List ak)(n:Note):(jF ws n).Port=n.Port/\(jF ws n).Data=n.Data/\(jF ws n).aQ=n.aQ/\((jF ws n).ak=n.ak/\0<=cJ ws n.ak∨(jF ws n).ak=0):=by
 unfold jF;split
 .exact ⟨rfl,rfl,rfl,.inr rfl⟩
 .exact ⟨rfl,rfl,rfl,.inl ⟨rfl,by omega⟩⟩
theorem tE {ws:List ak}{ts:List Int}{ns:List Note}{n:Note}:n∈ig ws ts ns ↔ ∃m∈ns,n=jF ws m/\m.Port∈ts:=by
 unfold ig
 rw [List.mem_filter,List.mem_map]
 constructor
 .
  rintro ⟨⟨m,hm,rfl⟩,hp⟩
  exact ⟨m,hm,rfl,by have:=of_decide_eq_true hp;rwa [(iQ ws m).1] at this⟩
 .
  rintro ⟨m,hm,rfl,hp⟩
  exact ⟨⟨m,hm,rfl⟩,decide_eq_true (by rw [(iQ ws m).1];exact hp)⟩
theorem DG {ws:List ak}{ts:List Int}{ns:List Note}{j:Int}:j∈kJ ws ts ns ↔ ∃m∈ns,j=(jF ws m).ak/\¬ m.Port∈ts/\0<j:=by
 unfold kJ
 rw [List.mem_map]
 constructor
 .
  rintro ⟨n,hn,rfl⟩
  obtain ⟨h1,h2⟩:=List.mem_filter.1 hn
  obtain ⟨m,hm,rfl⟩:=List.mem_map.1 h1
  simp only [Bool.and_eq_true,Bool.not_eq_true',decide_eq_false_iff_not,decide_eq_true_eq] at h2
  exact ⟨m,hm,rfl,by rw [<- (iQ ws m).1];exact h2.1,h2.2⟩
 .
  rintro ⟨m,hm,rfl,hp,h0⟩
  refine ⟨jF ws m,List.mem_filter.2 ⟨List.mem_map.2 ⟨m,hm,rfl⟩,?_⟩,rfl⟩
  simp only [Bool.and_eq_true,Bool.not_eq_true',decide_eq_false_iff_not,decide_eq_true_eq]
  exact ⟨by rw [(iQ ws m).1];exact hp,h0⟩
theorem uo (ws:List ak)(ts:List Int)(m:Note)(ns:List Note):ig ws ts (m::ns)=if m.Port∈ts then jF ws m::ig ws ts ns else ig ws ts ns:=by
 unfold ig
 rw [List.map_cons,List.filter_cons,(iQ ws m).1]
 by_cases h:m.Port∈ts
 .rw [if_pos (decide_eq_true h),if_pos h]
 .rw [if_neg (by simpa using h),if_neg h]
theorem ya {ws:List ak}{ts:List Int}{j:Int}(hj:0<=cJ ws j)(h0:0<j):∀ (ns:List Note),(∀n∈ns,n.ak=j->n.Port∈ts)->cN (ig ws ts ns) j=cN ns j
 | [],_=>rfl
 | m::ns,hl=>by
  have ih:=ya hj h0 ns (fun n hn=>hl n (List.mem_cons_of_mem _ hn))
  have hf:=iQ ws m
  rw [uo]
  unfold cN at ih ⊢
  by_cases e:m.ak=j
  .
   have hfm:(jF ws m).ak=j:=by
    rcases hf.2.2.2 with ⟨h1,_⟩ | h1
    .omega
    .unfold jF at h1 ⊢;rw [if_neg (by rw [e];omega)];exact e
   rw [if_pos (hl m (List.mem_cons_self ..) e),List.countP_cons,List.countP_cons,if_pos (by simpa using hfm),if_pos (by simpa using e),ih]
  .
   have hfm:¬ (jF ws m).ak=j:=by rcases hf.2.2.2 with ⟨h1,_⟩ | h1 <;> omega
   split
   .rw [List.countP_cons,List.countP_cons,if_neg (by simpa using hfm),if_neg (by simpa using e),ih]
   .rw [List.countP_cons,if_neg (by simpa using e),ih];rfl
theorem zW (ws:List ak)(ts:List Int)(q:Int):∀ (ns:List Note),gh (ig ws ts ns) q<=gh ns q
 | []=>Nat.le_refl _
 | m::ns=>by
  have ih:=zW ws ts q ns
  have hf:=iQ ws m
  rw [uo]
  unfold gh at ih ⊢
  have e:(jF ws m).Port=m.Port:=hf.1
  split
  .rw [List.filter_cons,List.filter_cons,e];split <;> simp <;> omega
  .rw [List.filter_cons];split <;> simp <;> omega
def sw (r:aC)(ids:List Int):aC:=⟨ids.foldl without r.ao,(fM r).Things,(fM r).Held,(fM r).Notes,r.ae,r.ah⟩
theorem l4 {r:aC}{t:aE}:t∈(fM r).Things↔t∈r.Things/\t.ID∈bU r.ao:=by
 show t∈r.Things.filter _↔_
 rw [List.mem_filter];simp
theorem vL {r:aC}{h:Held}:h∈(fM r).Held↔h∈r.Held /\ ∃w∈r.ao,w.ID=h.ak:=by
 show h∈r.Held.filter _↔_
 rw [List.mem_filter,<- lf];simp
theorem Pre.sw {r:aC}(h:Pre r){ids:List Int}(hl:∀j∈pz r,j∈ids):Pre (YtkbhcbipadkcaaaGreatDoor.sw r ids):=by
 have hsub:∀w∈ids.foldl without r.ao,(∃y∈r.ao,Like w y)/\¬ w.ID∈ids:=fun w hw=>xZ ids r.ao w hw
 have zX:∀n∈(fM r).Notes,∃m∈r.Notes,n=jF r.ao m/\m.Port∈bU r.ao:=fun n hn=>tE.1 hn
 refine { tree:=zV ids _ h.tree,good:=DF _ h.good,sy:=?_,o0:=h.o0,rl:=h.rl,pG:=h.pG,pH:=h.pH,jq:=h.jq.filter _,vJ:=fun t ht=>h.vJ t (l4.1 ht).1,jC:=fun t ht=>h.jC t (l4.1 ht).1,jD:=fun t ht=>h.jD t (l4.1 ht).1,jr:=Nat.le_trans (List.length_filter_le _ _) h.jr,thing:=?_,port:=?_,kE:=?_,wait:=fun q=>Nat.le_trans (zW _ _ q _) (h.wait q),jE:=?_,once:=?_ }
 .
  intro w hw
  obtain ⟨⟨y,hy,hk⟩,_⟩:=hsub w hw
  rw [hk.id];exact h.sy y hy
 .
  intro w hw
  obtain ⟨⟨y,hy,hk⟩,_⟩:=hsub w hw
  obtain ⟨t,ht,e⟩:=h.thing y hy
  exact ⟨t,l4.2 ⟨ht,(lh h.tree).2 ⟨y,hy,e.symm⟩⟩,by rw [e,hk.th]⟩
 .
  intro n hn
  obtain ⟨m,hm,rfl,hp⟩:=zX n hn
  obtain ⟨t,ht,e,hk⟩:=h.port m hm
  exact ⟨t,l4.2 ⟨ht,by rw [e];exact hp⟩,by rw [(iQ _ m).1];exact e,hk⟩
 .
  intro n hn
  obtain ⟨m,hm,rfl,hp⟩:=zX n hn
  rw [(iQ _ m).2.1,(iQ _ m).2.2.1];exact h.kE m hm
 .
  intro n hn
  obtain ⟨m,hm,rfl,hp⟩:=zX n hn
  have:=h.jE m hm
  rcases (iQ r.ao m).2.2.2 with ⟨e,_⟩ | e <;> omega
 .
  intro w hw
  obtain ⟨⟨y,hy,hk⟩,hn⟩:=hsub w hw
  have V5:0<=cJ r.ao w.ID:=lf.2 ⟨y,hy,hk.id.symm⟩
  have h0:0<w.ID:=by have:=(h.tree.mem hy).id1;rw [hk.id];omega
  have h1:cH (fM r).Held w.ID=cH r.Held w.ID:=by
   show List.countP _ (r.Held.filter _)=List.countP _ r.Held
   rw [List.countP_filter]
   refine List.countP_congr fun x _=>?_
   simp only [Bool.and_eq_true,beq_iff_eq,Bool.not_eq_true',decide_eq_false_iff_not]
   exact ⟨fun h=>h.1,fun e=>⟨e,by rw [e];omega⟩⟩
  have h2:cN (fM r).Notes w.ID=cN r.Notes w.ID:=ya V5 h0 r.Notes (fun n hnn e=>by
   by_cases hp:n.Port∈bU r.ao
   .exact hp
   .
    refine absurd (hl w.ID (DG.2 ⟨n,hnn,?_,hp,h0⟩)) hn
    rw [jF,if_neg (by rw [e];omega)];exact e.symm)
  show cH (fM r).Held w.ID+cN (fM r).Notes w.ID=1
  rw [h1,h2,hk.id];exact h.once y hy
theorem Fi {r:aC}(h:Pre r)(hl:(pz r).length=0):Inv (fM r):=by
 have h1:Pre (fM r):=h.sw (ids:=[]) (fun j hj=>by rw [List.length_eq_zero_iff.1 hl] at hj;exact hj)
 refine { toPre:=h1,iy:=?_,eP:=fun x hx=>(vL.1 hx).2,used:=fun t ht=>(lh h.tree).1 (l4.1 ht).2 }
 intro n hn h0
 obtain ⟨m,hm,rfl,hp⟩:=tE.1 hn
 rcases (iQ r.ao m).2.2.2 with ⟨e,hf⟩ | e
 .rw [e];exact lf.1 hf
 .omega
theorem uW:∀ (n:Nat) (r:aC),r.Notes.length<n->Pre r->Inv (gV n r)
 | 0,r,h,_=>by omega
 | n+1,r,h,hp=>by
  unfold gV;split
  .exact Fi hp (by assumption)
  .
   have:=oV (r:=r) (by assumption)
   exact uW n _ (by omega) (hp.sw (ids:=pz r) (fun j hj=>hj))
theorem uq {r:aC}(h:Pre r):Inv (dS r):=uW _ r (Nat.lt_succ_self _) h
theorem uX:∀ (n:Nat) (r:aC),(∀x∈(gV n r).Held,x∈r.Held)/\(∀v∈(gV n r).ao,∃w∈r.ao,Like v w)/\(∀t∈(gV n r).Things,t∈r.Things)/\(∀m∈(gV n r).Notes,∃k∈r.Notes,m.Port=k.Port/\m.Data=k.Data/\m.aQ=k.aQ/\(m.ak=k.ak∨m.ak=0))
 | 0,r=>⟨fun x hx=>(vL.1 hx).1,fun v hv=>⟨v,hv,Like.refl v⟩,fun t ht=>(l4.1 ht).1,fun m hm=>by
  obtain ⟨k,hk,rfl,_⟩:=tE.1 hm
  have:=iQ r.ao k
  exact ⟨k,hk,this.1,this.2.1,this.2.2.1,this.2.2.2.imp (fun h=>h.1) id⟩⟩
 | n+1,r=>by
  have hs:∀m∈(fM r).Notes,∃k∈r.Notes,m.Port=k.Port/\m.Data=k.Data/\m.aQ=k.aQ/\(m.ak=k.ak∨m.ak=0):=fun m hm=>by
   obtain ⟨k,hk,rfl,_⟩:=tE.1 hm
   have:=iQ r.ao k
   exact ⟨k,hk,this.1,this.2.1,this.2.2.1,this.2.2.2.imp (fun h=>h.1) id⟩
  unfold gV;split
  .exact ⟨fun x hx=>(vL.1 hx).1,fun v hv=>⟨v,hv,Like.refl v⟩,fun t ht=>(l4.1 ht).1,hs⟩
  .
   obtain ⟨h1,h2,h3,h4⟩:=uX n (nB r)
   refine ⟨fun x hx=>(vL.1 (h1 x hx)).1,fun v hv=>?_,fun t ht=>(l4.1 (h3 t ht)).1,fun m hm=>?_⟩
   .
    obtain ⟨w,hw,hl⟩:=h2 v hv
    obtain ⟨⟨y,hy,hl2⟩,_⟩:=xZ _ _ w hw
    exact ⟨y,hy,hl.trans hl2⟩
   .
    obtain ⟨k,hk,a,b,c,d⟩:=h4 m hm
    obtain ⟨k',hk',a',b',c',d'⟩:=hs k hk
    exact ⟨k',hk',a.trans a',b.trans b',c.trans c',by rcases d with d|d <;> rcases d' with d'|d' <;> first|(left;omega)|(right;omega)⟩
theorem zY (r:aC):(∀x∈(dS r).Held,x∈r.Held)/\(∀v∈(dS r).ao,∃w∈r.ao,Like v w)/\(∀t∈(dS r).Things,t∈r.Things)/\(∀m∈(dS r).Notes,∃k∈r.Notes,m.Port=k.Port/\m.Data=k.Data/\m.aQ=k.aQ/\(m.ak=k.ak∨m.ak=0)):=uX _ r
section
theorem mh {r:aC}{p:Place}(h:gL r p=0):aZ p=0/\mV r.Held p=0:=by
 unfold gL at h
 by_cases h1:aZ p=0
 .
  rw [if_pos h1] at h
  by_cases h2:mV r.Held p=0
  .exact ⟨h1,h2⟩
  .rw [if_neg h2] at h;omega
 .rw [if_neg h1] at h;exact absurd h h1
theorem lG {l:List Held}{p:Place}{id:Int}(hg:Good l)(h:mV l p=0)(hi:id≠0){x:Held}:x∈fR l p id↔x=⟨p,id⟩∨x∈l:=by
 obtain ⟨A,B,e,e2⟩:=GK hg h hi
 rw [e2,e];simp only [List.mem_append,List.mem_cons];constructor <;> (rintro (h|h|h) <;> simp [h])
theorem DI {l:List Held}{p:Place}{w:Int}(hg:Good l)(h:mV l p=w)(hw:w≠0){x:Held}(hx:x∈fR l p 0):x∈l:=by
 obtain ⟨A,B,e,e2⟩:=BO hg h hw
 rw [e2] at hx;rw [e];simp only [List.mem_append,List.mem_cons] at hx ⊢;rcases hx with h|h <;> simp [h]
section
variable {r:aC}
theorem Inv.get (h:Inv r){p:Place}(hg:(aS r p).2=0):aZ p=0/\(aS r p).1∈r.ao/\(aS r p).1.ID=mV r.Held p/\1<=(aS r p).1.ID/\(aS r p).1.ID<r.ae:=by
 obtain ⟨h1,h2,h3⟩:=zP hg
 exact ⟨h1,h2,h3,(h.tree.mem h2).id1,h.sy _ h2⟩
theorem Inv.fresh (h:Inv r):cH r.Held r.ae=0/\cN r.Notes r.ae=0:=by
 constructor
 .
  refine List.countP_eq_zero.2 fun x hx=>?_
  obtain ⟨w,hw,e⟩:=h.eP x hx
  have:=h.sy w hw
  simp;omega
 .
  refine List.countP_eq_zero.2 fun x hx=>?_
  have h0:=h.jE x hx;have h1:=h.o0
  by_cases hp:0<x.ak
  .
   obtain ⟨w,hw,e⟩:=h.iy x hx hp
   have:=h.sy w hw
   simp;omega
  .simp;omega
theorem zZ {l:List ak}{w:ak}(h:cS l)(hw:ct w=0)(hlt:∀y∈l,y.ID<w.ID)(hm:w.From≠0 -> ∃y∈l,Made y w):cS (l++[w]):=by
 have hi:=h.is
 refine ug.ok' ⟨fun x hx=>?_,List.pairwise_append.2 ⟨hi.rise,by simp,fun a ha b hb=>by simp at hb;subst hb;exact hlt a ha⟩,fun x hx h0=>?_⟩
 .
  rcases List.mem_append.1 hx with hx|hx
  .exact hi.ok x hx
  .rw [List.mem_singleton.1 hx];exact hw
 .
  rcases List.mem_append.1 hx with hx|hx
  .
   obtain ⟨y,hy,hmd⟩:=hi.made x hx h0
   exact ⟨y,List.mem_append.2 (.inl hy),hmd⟩
  .
   have e:=List.mem_singleton.1 hx
   subst e
   obtain ⟨y,hy,hmd⟩:=hm h0
   exact ⟨y,List.mem_append.2 (.inl hy),hmd⟩
theorem yb {p:Place}{kind:Int}(h:(dV r p kind).2=0):(kind=1∨kind=2)/\gL r p=0/\r.Things.length≠10/\r.ah<=999/\r.ae<=999 /\
 (0<p.aA->(dV r p kind).1=⟨r.ao++[⟨r.ae,r.ah,7,0,0⟩],r.Things++[⟨r.ah,kind,⟨#[]⟩⟩],fR r.Held p r.ae,r.Notes,r.ae+1,r.ah+1⟩):=by
 unfold dV at h ⊢
 by_cases h1:kind=1∨kind=2
 .
  rw [if_pos h1] at h ⊢
  by_cases h2:gL r p=0
  .
   rw [if_pos h2] at h ⊢
   by_cases h3:r.Things.length=10∨999<r.ah∨999<r.ae
   .rw [if_pos h3] at h;simp at h
   .
    rw [if_neg h3]
    refine ⟨h1,h2,by omega,by omega,by omega,fun hp=>?_⟩
    unfold fy;dsimp only;rw [if_pos hp]
  .rw [if_neg h2] at h;exact absurd h h2
 .rw [if_neg h1] at h;simp at h
theorem Inv.make (h:Inv r){p:Place}{kind:Int}(hm:(dV r p kind).2=0):Inv (dV r p kind).1:=by
 obtain ⟨hk,hf,hl,ht,hw,he⟩:=yb hm
 obtain ⟨hp,ha⟩:=mh hf
 have hpl:=cw hp
 rw [he (by omega)]
 have n1:=h.o0;have n2:=h.pG;have hfr:=h.fresh;have hmax:=h.jr
 have hi:r.ae≠0:=by omega
 have Us:=mI (id:=r.ae) h.good hp
 refine { tree:=zZ h.tree (oT (by dsimp only;omega)) (fun y hy=>h.sy y hy) (fun h0=>absurd rfl h0),good:=Us,sy:=?_,o0:=by show 1<=r.ae+1;omega,rl:=by show r.ae+1<=1000;omega,pG:=by show 1<=r.ah+1;omega,pH:=by show r.ah+1<=1000;omega,jq:=List.pairwise_append.2 ⟨h.jq,by simp,fun a ha b hb=>by simp at hb;subst hb;exact (h.vJ a ha).2⟩,vJ:=?_,jC:=?_,jD:=?_,jr:=by show (r.Things++[_]).length<=10;simp;omega,thing:=?_,port:=?_,kE:=h.kE,wait:=h.wait,jE:=h.jE,once:=?_,iy:=?_,eP:=?_,used:=?_ }
 .
  intro w hw
  show w.ID<r.ae+1
  rcases List.mem_append.1 hw with hw|hw
  .have:=h.sy w hw;omega
  .rw [List.mem_singleton.1 hw];show r.ae<_;omega
 .
  intro t ht
  show 1<=t.ID/\t.ID<r.ah+1
  rcases List.mem_append.1 ht with ht|ht
  .have:=h.vJ t ht;omega
  .rw [List.mem_singleton.1 ht];show 1<=r.ah/\r.ah<_;omega
 .
  intro t ht
  rcases List.mem_append.1 ht with ht|ht
  .exact h.jC t ht
  .rw [List.mem_singleton.1 ht];exact hk
 .
  intro t ht
  rcases List.mem_append.1 ht with ht|ht
  .exact h.jD t ht
  .rw [List.mem_singleton.1 ht];exact ⟨by show (0:Nat)<=8;decide,fun _=>rfl⟩
 .
  intro w hw
  rcases List.mem_append.1 hw with hw|hw
  .
   obtain ⟨t,ht,e⟩:=h.thing w hw
   exact ⟨t,List.mem_append.2 (.inl ht),e⟩
  .rw [List.mem_singleton.1 hw];exact ⟨_,List.mem_append.2 (.inr (List.mem_singleton.2 rfl)),rfl⟩
 .
  intro n hn
  obtain ⟨t,ht,e⟩:=h.port n hn
  exact ⟨t,List.mem_append.2 (.inl ht),e⟩
 .
  intro w hw
  show cH (fR r.Held p r.ae) w.ID+cN r.Notes w.ID=1
  rw [BP h.good ha hi]
  rcases List.mem_append.1 hw with hw|hw
  .
   have:=h.sy w hw;have:=h.once w hw
   rw [if_neg (by omega)];omega
  .
   rw [List.mem_singleton.1 hw];show cH r.Held r.ae+(if r.ae=r.ae then 1 else 0)+cN r.Notes r.ae=1
   rw [if_pos rfl];omega
 .
  intro n hn h0
  obtain ⟨w,hw,e⟩:=h.iy n hn h0
  exact ⟨w,List.mem_append.2 (.inl hw),e⟩
 .
  intro x hx
  rcases (lG h.good ha hi).1 hx with e|hx
  .rw [e];exact ⟨_,List.mem_append.2 (.inr (List.mem_singleton.2 rfl)),rfl⟩
  .
   obtain ⟨w,hw,e⟩:=h.eP x hx
   exact ⟨w,List.mem_append.2 (.inl hw),e⟩
 .
  intro t ht
  rcases List.mem_append.1 ht with ht|ht
  .
   obtain ⟨w,hw,e⟩:=h.used t ht
   exact ⟨w,List.mem_append.2 (.inl hw),e⟩
  .rw [List.mem_singleton.1 ht];exact ⟨_,List.mem_append.2 (.inr (List.mem_singleton.2 rfl)),rfl⟩
theorem yc {p t:Place}{a b:Int}(h:(fq r p t a b).2=0):(aS r p).2=0/\gL r t=0/\(p.aA=t.aA∨ji (aS r p).1.Rights 4=true)/\r.ae<=999/\(derived (aS r p).1 r.ae a b).2=0 /\
 (0<t.aA->(fq r p t a b).1=⟨r.ao++[(derived (aS r p).1 r.ae a b).1],r.Things,fR r.Held t (derived (aS r p).1 r.ae a b).1.ID,r.Notes,r.ae+1,r.ah⟩):=by
 unfold fq at h ⊢
 by_cases h1:(aS r p).2=0
 .
  rw [if_pos h1] at h ⊢
  by_cases h2:gL r t=0
  .
   rw [if_pos h2] at h ⊢
   by_cases h3:p.aA=t.aA∨ji (aS r p).1.Rights 4=true
   .
    rw [if_pos h3] at h ⊢
    by_cases h4:999<r.ae
    .rw [if_pos h4] at h;simp at h
    .
     rw [if_neg h4] at h ⊢
     by_cases h5:(derived (aS r p).1 r.ae a b).2=0
     .
      rw [if_pos h5]
      refine ⟨h1,h2,h3,by omega,h5,fun hp=>?_⟩
      unfold fy;dsimp only;rw [if_pos hp]
     .rw [if_neg h5] at h;exact absurd h h5
   .rw [if_neg h3] at h;simp at h
  .rw [if_neg h2] at h;exact absurd h h2
 .rw [if_neg h1] at h;exact absurd h h1
theorem Inv.derive (h:Inv r){g:ak}(hg:g∈r.ao){a b:Int}(hn:r.ae<=999)(hd:(derived g r.ae a b).2=0):cS (r.ao++[(derived g r.ae a b).1])/\(derived g r.ae a b).1.ID=r.ae/\(derived g r.ae a b).1.aE=g.aE/\(derived g r.ae a b).1.Rights=a/\(derived g r.ae a b).1.From=g.ID/\ji g.Rights a=true/\0<=a/\a<=7:=by
 obtain ⟨a0,a7,b0,b9,hh,e,hb⟩:=tw hd
 have w:=h.tree.mem hg
 have w1:=w.id1;have w2:=w.Qp;have w3:=w.Qq;have w4:=w.Qr;have w5:=w.Qs;have w6:=h.sy g hg
 rw [e]
 refine ⟨zZ h.tree (oT ⟨by show 1<=r.ae;omega,hn,w2,w3,?_,?_,by show 0<=g.ID;omega,w6,a0,a7⟩) (fun y hy=>h.sy y hy) (fun _=>⟨g,hg,rfl,hh,?_,rfl⟩),rfl,rfl,rfl,rfl,hh,a0,a7⟩
 .show 0<=(if b=0 then g.aQ else b);split <;> omega
 .show (if b=0 then g.aQ else b)<=99;split <;> omega
 .
  show g.aQ=0∨(if b=0 then g.aQ else b)=g.aQ
  split <;> omega
theorem Inv.give (h:Inv r){p t:Place}{a b:Int}(hm:(fq r p t a b).2=0):Inv (fq r p t a b).1:=by
 obtain ⟨hg,hf,hr,hw,hd,he⟩:=yc hm
 obtain ⟨hp,ha⟩:=mh hf
 have hpl:=cw hp
 obtain ⟨_,hgm,_⟩:=h.get hg
 obtain ⟨GL,hid,hth,_⟩:=h.derive hgm hw hd
 rw [he (by omega),hid]
 generalize hx:(derived (aS r p).1 r.ae a b).1=x at *
 have n1:=h.o0;have hfr:=h.fresh
 have hi:r.ae≠0:=by omega
 have Us:=mI (id:=r.ae) h.good hp
 refine { tree:=GL,good:=Us,sy:=?_,o0:=by show 1<=r.ae+1;omega,rl:=by show r.ae+1<=1000;omega,pG:=h.pG,pH:=h.pH,jq:=h.jq,vJ:=h.vJ,jC:=h.jC,jD:=h.jD,jr:=h.jr,thing:=?_,port:=h.port,kE:=h.kE,wait:=h.wait,jE:=h.jE,once:=?_,iy:=?_,eP:=?_,used:=?_ }
 .
  intro w hw
  show w.ID<r.ae+1
  rcases List.mem_append.1 hw with hw|hw
  .have:=h.sy w hw;omega
  .rw [List.mem_singleton.1 hw,hid];omega
 .
  intro w hw
  rcases List.mem_append.1 hw with hw|hw
  .exact h.thing w hw
  .rw [List.mem_singleton.1 hw,hth];exact h.thing _ hgm
 .
  intro w hw
  show cH (fR r.Held t r.ae) w.ID+cN r.Notes w.ID=1
  rw [BP h.good ha hi]
  rcases List.mem_append.1 hw with hw|hw
  .
   have:=h.sy w hw;have:=h.once w hw
   rw [if_neg (by omega)];omega
  .rw [List.mem_singleton.1 hw,hid,if_pos rfl];omega
 .
  intro n hn h0
  obtain ⟨w,hw,e⟩:=h.iy n hn h0
  exact ⟨w,List.mem_append.2 (.inl hw),e⟩
 .
  intro y hy
  rcases (lG h.good ha hi).1 hy with e|hy
  .rw [e];exact ⟨x,List.mem_append.2 (.inr (List.mem_singleton.2 rfl)),hid⟩
  .
   obtain ⟨w,hw,e⟩:=h.eP y hy
   exact ⟨w,List.mem_append.2 (.inl hw),e⟩
 .
  intro t ht
  obtain ⟨w,hw,e⟩:=h.used t ht
  exact ⟨w,List.mem_append.2 (.inl hw),e⟩
theorem yd {p:Place}{s:Int}(h:(jl r p s).2=0):(aS r p).2=0/\gL r ⟨p.aA,s⟩=0/\(jl r p s).1=⟨r.ao,r.Things,fR (fR r.Held p 0) ⟨p.aA,s⟩ (aS r p).1.ID,r.Notes,r.ae,r.ah⟩:=by
 unfold jl at h ⊢
 by_cases h1:(aS r p).2=0
 .
  rw [if_pos h1] at h ⊢
  by_cases h2:gL r ⟨p.aA,s⟩=0
  .rw [if_pos h2];exact ⟨h1,h2,rfl⟩
  .rw [if_neg h2] at h;exact absurd h h2
 .rw [if_neg h1] at h;exact absurd h h1
theorem Inv.held (h:Inv r){m:List Held}(hg:Good m)(hc:∀w∈r.ao,cH m w.ID=cH r.Held w.ID)(hs:∀x∈m,∃w∈r.ao,w.ID=x.ak):Inv ⟨r.ao,r.Things,m,r.Notes,r.ae,r.ah⟩ :=
 { tree:=h.tree,good:=hg,sy:=h.sy,o0:=h.o0,rl:=h.rl,pG:=h.pG,pH:=h.pH,jq:=h.jq,vJ:=h.vJ,jC:=h.jC,jD:=h.jD,jr:=h.jr,thing:=h.thing,port:=h.port,kE:=h.kE,wait:=h.wait,jE:=h.jE,once:=fun w hw=>by show cH m w.ID+_=1;rw [hc w hw];exact h.once w hw,iy:=h.iy,eP:=hs,used:=h.used }
theorem Inv.move (h:Inv r){p:Place}{s:Int}(hm:(jl r p s).2=0):Inv (jl r p s).1:=by
 obtain ⟨hg,hf,he⟩:=yd hm
 obtain ⟨hp,ha⟩:=mh hf
 obtain ⟨hpf,hgm,hat,h1,_⟩:=h.get hg
 rw [he]
 have hi:(aS r p).1.ID≠0:=by omega
 have hg1:Good (fR r.Held p 0):=mI h.good hpf
 have hne:¬ (⟨p.aA,s⟩:Place)=p:=fun e=>by rw [e] at ha;omega
 have ha1:mV (fR r.Held p 0) ⟨p.aA,s⟩=0:=by rw [zT h.good hpf hne];exact ha
 refine h.held (mI hg1 hp) (fun w hw=>?_) (fun x hx=>?_)
 .rw [BP hg1 ha1 hi,<- QA h.good hat.symm hi]
 .
  rcases (lG hg1 ha1 hi).1 hx with e|hx
  .rw [e];exact ⟨_,hgm,rfl⟩
  .exact h.eP x (DI h.good hat.symm hi hx)
theorem Pre.uR (h:Pre r){l:List ak}(ht:cS l)(hs:∀v∈l,∃w∈r.ao,Like v w):Pre ⟨l,r.Things,r.Held,r.Notes,r.ae,r.ah⟩ :=
 { tree:=ht,good:=h.good,sy:=fun v hv=>by obtain ⟨w,hw,k⟩:=hs v hv;rw [k.id];exact h.sy w hw,o0:=h.o0,rl:=h.rl,pG:=h.pG,pH:=h.pH,jq:=h.jq,vJ:=h.vJ,jC:=h.jC,jD:=h.jD,jr:=h.jr,thing:=fun v hv=>by obtain ⟨w,hw,k⟩:=hs v hv;rw [k.th];exact h.thing w hw,port:=h.port,kE:=h.kE,wait:=h.wait,jE:=h.jE,once:=fun v hv=>by obtain ⟨w,hw,k⟩:=hs v hv;rw [k.id];exact h.once w hw }
theorem Pre.wo (h:Pre r)(id:Int):Pre ⟨without r.ao id,r.Things,r.Held,r.Notes,r.ae,r.ah⟩ :=
 h.uR (h.tree.wo id) (fun v hv=>by obtain ⟨y,hy,_,rfl⟩:=gK.1 hv;exact ⟨y,hy,vK _ _ y⟩)
theorem tF {l:List ak}{id:Int}{x:ak}:x∈Fb l id↔x∈l/\¬ x.ID∈kA id l:=by
 unfold Fb;rw [List.mem_filter];simp
theorem Le {l:List ak}(h:cS l){id:Int}{x y:ak}(hi:0<=cJ l id)(hx:x∈l)(hy:y∈l)(e:y.ID=x.From)(hb:y.ID∈kA id l):x.ID∈kA id l:=by
 have h1:=mg hx;have h2:=mg hy
 rw [zM h hi h1]
 rw [zM h hi h2] at hb
 unfold above at hb ⊢
 obtain ⟨x',_,e1,hx',e2⟩:=og h1
 have:x'=x:=h.inj hx' hx e1
 subst this
 rw [e2,<- e,sk h h2]
 exact List.mem_cons_of_mem _ hb
theorem cS.cut {l:List ak}(h:cS l){id:Int}(hi:0<=cJ l id):cS (Fb l id):=by
 have hs:=h.is
 refine ug.ok' ⟨fun x hx=>hs.ok x (tF.1 hx).1,hs.rise.filter _,fun x hx h0=>?_⟩
 obtain ⟨h1,h2⟩:=tF.1 hx
 obtain ⟨y,hy,hm⟩:=hs.made x h1 h0
 exact ⟨y,tF.2 ⟨hy,fun hb=>h2 (Le h hi h1 hy hm.gp hb)⟩,hm⟩
theorem Pre.cut (h:Pre r){id:Int}(hi:0<=cJ r.ao id):Pre ⟨Fb r.ao id,r.Things,r.Held,r.Notes,r.ae,r.ah⟩ :=
 h.uR (h.tree.cut hi) (fun v hv=>⟨v,(tF.1 hv).1,Like.refl v⟩)
theorem ye {p:Place}(h:(jL r p).2=0):(aS r p).2=0/\(jL r p).1=dS ⟨without r.ao (aS r p).1.ID,r.Things,r.Held,r.Notes,r.ae,r.ah⟩:=by
 unfold jL at h ⊢
 by_cases h1:(aS r p).2=0
 .rw [if_pos h1];exact ⟨h1,rfl⟩
 .rw [if_neg h1] at h;exact absurd h h1
theorem tG {p:Place}(h:(fe r p).2=0):(aS r p).2=0/\(fe r p).1=dS ⟨Fb r.ao (aS r p).1.ID,r.Things,r.Held,r.Notes,r.ae,r.ah⟩:=by
 unfold fe at h ⊢
 by_cases h1:(aS r p).2=0
 .rw [if_pos h1];exact ⟨h1,rfl⟩
 .rw [if_neg h1] at h;exact absurd h h1
theorem Inv.drop (h:Inv r){p:Place}(hm:(jL r p).2=0):Inv (jL r p).1:=by
 rw [(ye hm).2];exact uq (h.toPre.wo _)
theorem Inv.QE (h:Inv r){p:Place}(hm:(fe r p).2=0):Inv (fe r p).1:=by
 obtain ⟨hg,he⟩:=tG hm
 rw [he];exact uq (h.toPre.cut (mg (h.get hg).2.1))
theorem mem_set {l:List aE}{i:Nat}{d:ByteArray}{x:aE}(h:x∈gW l i d):∃ (k:Nat) (t:aE),l[k]? = some t/\x.ID=t.ID/\x.Kind=t.Kind/\(x.Data=t.Data∨k=i/\x.Data=d):=by
 unfold gW at h
 split at h
 .
  rename_i t ht
  obtain ⟨k,hk⟩:=List.mem_iff_getElem?.1 h
  rw [List.getElem?_set] at hk
  split at hk
  .
   rename_i e;subst e
   split at hk
   .injection hk with hk;subst hk;exact ⟨_,t,ht,rfl,rfl,.inr ⟨rfl,rfl⟩⟩
   .cases hk
  .exact ⟨k,x,hk,rfl,rfl,.inl rfl⟩
 .
  obtain ⟨k,hk⟩:=List.mem_iff_getElem?.1 h
  exact ⟨k,x,hk,rfl,rfl,.inl rfl⟩
theorem GM {l:List aE}{i:Nat}{d:ByteArray}{t:aE}(h:t∈l):∃x∈gW l i d,x.ID=t.ID/\x.Kind=t.Kind:=by
 unfold gW
 split
 .
  rename_i y hy
  obtain ⟨k,hk⟩:=List.mem_iff_getElem?.1 h
  by_cases e:i=k
  .
   subst e;rw [hk] at hy;injection hy with hy;subst hy
   exact ⟨_,List.mem_set (by have:=(List.getElem?_eq_some_iff.1 hk).1;exact this) _,rfl,rfl⟩
  .exact ⟨t,List.mem_of_getElem? (i:=k) (by rw [List.getElem?_set,if_neg e];exact hk),rfl,rfl⟩
 .exact ⟨t,h,rfl,rfl⟩
theorem Nc (l:List aE)(i:Nat)(d:ByteArray):(gW l i d).map aE.ID=l.map aE.ID:=by
 unfold gW
 split
 .
  rename_i t ht
  rw [List.map_set]
  apply List.ext_getElem?
  intro k
  rw [List.getElem?_set]
  split
  .
   rename_i e;subst e;rw [List.getElem?_map,ht]
   split
   .rfl
   .rename_i hk;exfalso;apply hk;have:=(List.getElem?_eq_some_iff.1 ht).1;simpa using this
  .rfl
 .rfl
theorem uY {p:Place}{d:ByteArray}(h:(fY r p d).2=0):(cD r p 1 2).2.2=0/\d.size<=8/\(fY r p d).1=⟨r.ao,gW r.Things (cD r p 1 2).2.1.toNat d,r.Held,r.Notes,r.ae,r.ah⟩:=by
 unfold fY at h ⊢
 by_cases h1:(cD r p 1 2).2.2=0
 .
  rw [if_pos h1] at h ⊢
  by_cases h2:8<d.size
  .rw [if_pos h2] at h;simp at h
  .rw [if_neg h2];exact ⟨h1,by omega,rfl⟩
 .rw [if_neg h1] at h;exact absurd h h1
theorem Inv.write (h:Inv r){p:Place}{d:ByteArray}(hm:(fY r p d).2=0):Inv (fY r p d).1:=by
 obtain ⟨hy,hd,he⟩:=uY hm
 obtain ⟨_,_,_,k,t,hk,ht,V6,htk,_⟩:=qZ hy
 rw [he,hk,Int.toNat_natCast]
 have Ut:=Nc r.Things k d
 have hin:∀x∈gW r.Things k d,∃y∈r.Things,x.ID=y.ID/\x.Kind=y.Kind:=fun x hx=>by
  obtain ⟨j,y,hj,a,b,_⟩:=mem_set hx;exact ⟨y,List.mem_of_getElem? hj,a,b⟩
 refine { tree:=h.tree,good:=h.good,sy:=h.sy,o0:=h.o0,rl:=h.rl,pG:=h.pG,pH:=h.pH,jq:=?_,vJ:=?_,jC:=?_,jD:=?_,jr:=by show (gW _ _ _).length<=10;rw [uU];exact h.jr,thing:=?_,port:=?_,kE:=h.kE,wait:=h.wait,jE:=h.jE,once:=h.once,iy:=h.iy,eP:=h.eP,used:=?_ }
 .
  have h1:(r.Things.map aE.ID).Pairwise (· < ·):=List.pairwise_map.2 h.jq
  show (gW r.Things k d).Pairwise _
  rw [<- Ut] at h1
  exact List.pairwise_map.1 h1
 .intro x hx;obtain ⟨y,hy,a,b⟩:=hin x hx;show 1<=x.ID/\x.ID<r.ah;rw [a];exact h.vJ y hy
 .intro x hx;obtain ⟨y,hy,a,b⟩:=hin x hx;rw [b];exact h.jC y hy
 .
  intro x hx
  obtain ⟨j,y,hj,a,b,c⟩:=mem_set hx
  have:=h.jD y (List.mem_of_getElem? hj)
  rcases c with c|⟨c,c2⟩
  .rw [c,b];exact this
  .
   subst c;rw [ht] at hj;injection hj with hj;subst hj
   rw [c2];exact ⟨hd,fun h2=>by rw [b,htk] at h2;omega⟩
 .
  intro w hw
  obtain ⟨t',ht',e⟩:=h.thing w hw
  obtain ⟨x,hx,a,_⟩:=GM (i:=k) (d:=d) ht'
  exact ⟨x,hx,by rw [a,e]⟩
 .
  intro n hn
  obtain ⟨t',ht',e,e2⟩:=h.port n hn
  obtain ⟨x,hx,a,b⟩:=GM (i:=k) (d:=d) ht'
  exact ⟨x,hx,by rw [a,e],by rw [b,e2]⟩
 .intro x hx;obtain ⟨y,hy,a,b⟩:=hin x hx;rw [a];exact h.used y hy
end
end
section
section
variable {r:aC}
theorem Aa (ns:List Note)(n:Note)(q:Int):gh (ns++[n]) q=gh ns q+(if n.Port=q then 1 else 0):=by
 unfold gh;rw [List.filter_append,List.length_append]
 by_cases h:n.Port=q
 .rw [if_pos h];simp [h]
 .rw [if_neg h];simp [h]
theorem GN (ns:List Note)(n:Note)(j:Int):cN (ns++[n]) j=cN ns j+(if n.ak=j then 1 else 0):=by
 unfold cN;rw [List.countP_append,List.countP_cons]
 by_cases h:n.ak=j
 .rw [if_pos (by simpa using h),if_pos h];simp
 .rw [if_neg (by simpa using h),if_neg h];simp
theorem rm {p:Place}{k q:Int}(h:(cD r p k q).2.2=0):(aS r p).2=0/\(cD r p k q).1=(aS r p).1/\ji (aS r p).1.Rights q=true /\ ∃t∈r.Things,t.ID=(aS r p).1.aE/\t.Kind=k:=by
 obtain ⟨h1,h2,h3,i,t,_,ht,e,e2,_⟩:=qZ h
 exact ⟨h1,h2,h3,t,List.mem_of_getElem? ht,e,e2⟩
theorem yg {p:Place}{d:ByteArray}{s a:Int}(h:(dO r p d s a).2=0):(cD r p 2 2).2.2=0/\d.size<=8/\gh r.Notes (aS r p).1.aE≠3 /\
 (s<0/\(dO r p d s a).1=⟨r.ao,r.Things,r.Held,r.Notes++[⟨(aS r p).1.aE,d,(aS r p).1.aQ,0⟩],r.ae,r.ah⟩ ∨
  0<=s/\ji (aS r p).1.Rights 4=true/\(aS r ⟨p.aA,s⟩).2=0/\r.ae<=999/\(derived (aS r ⟨p.aA,s⟩).1 r.ae a 0).2=0 /\
  (dO r p d s a).1=⟨r.ao++[(derived (aS r ⟨p.aA,s⟩).1 r.ae a 0).1],r.Things,r.Held,r.Notes++[⟨(aS r p).1.aE,d,(aS r p).1.aQ,(derived (aS r ⟨p.aA,s⟩).1 r.ae a 0).1.ID⟩],r.ae+1,r.ah⟩):=by
 unfold dO at h ⊢
 by_cases h1:(cD r p 2 2).2.2=0
 .
  have he:=(rm h1).2.1
  rw [if_pos h1] at h ⊢
  by_cases h2:8<d.size
  .rw [if_pos h2] at h;simp at h
  .
   rw [if_neg h2] at h ⊢
   by_cases h3:gh r.Notes (cD r p 2 2).1.aE=3
   .rw [if_pos h3] at h;simp at h
   .
    rw [if_neg h3] at h ⊢
    rw [he] at h3
    by_cases h4:s<0
    .rw [if_pos h4,he];exact ⟨h1,by omega,h3,.inl ⟨h4,rfl⟩⟩
    .
     rw [if_neg h4] at h ⊢
     by_cases h5:ji (cD r p 2 2).1.Rights 4=true
     .
      rw [if_pos h5] at h ⊢
      by_cases h6:(aS r ⟨p.aA,s⟩).2=0
      .
       rw [if_pos h6] at h ⊢
       by_cases h7:999<r.ae
       .rw [if_pos h7] at h;simp at h
       .
        rw [if_neg h7] at h ⊢
        by_cases h8:(derived (aS r ⟨p.aA,s⟩).1 r.ae a 0).2=0
        .
         rw [if_pos h8,he];rw [he] at h5
         exact ⟨h1,by omega,h3,.inr ⟨by omega,h5,h6,by omega,h8,rfl⟩⟩
        .rw [if_neg h8] at h;exact absurd h h8
      .rw [if_neg h6] at h;exact absurd h h6
     .rw [if_neg h5] at h;simp at h
 .rw [if_neg h1] at h;exact absurd h h1
theorem Inv.send (h:Inv r){p:Place}{d:ByteArray}{s a:Int}(hm:(dO r p d s a).2=0):Inv (dO r p d s a).1:=by
 obtain ⟨hy,hd,h3,hc⟩:=yg hm
 obtain ⟨hg,_,_,t,ht,hti,htk⟩:=rm hy
 obtain ⟨_,hgm,_⟩:=h.get hg
 have hw:=h.tree.mem hgm
 have OE:∀q,gh r.Notes q+(if (aS r p).1.aE=q then 1 else 0)<=3:=fun q=>by
  have:=h.wait q
  split
  .rename_i e;rw [e] at h3;omega
  .omega
 have zX:∀ (k:Int) (n:Note),n∈r.Notes++[⟨(aS r p).1.aE,d,(aS r p).1.aQ,k⟩] -> ∃t∈r.Things,t.ID=n.Port/\t.Kind=2:=fun k n hn=>by
  rcases List.mem_append.1 hn with hn|hn
  .exact h.port n hn
  .rw [List.mem_singleton.1 hn];exact ⟨t,ht,hti,htk⟩
 have hnd:∀ (k:Int) (n:Note),n∈r.Notes++[⟨(aS r p).1.aE,d,(aS r p).1.aQ,k⟩]->n.Data.size<=8/\0<=n.aQ/\n.aQ<=99:=fun k n hn=>by
  rcases List.mem_append.1 hn with hn|hn
  .exact h.kE n hn
  .rw [List.mem_singleton.1 hn];exact ⟨hd,hw.Qr,hw.Qs⟩
 rcases hc with ⟨h4,he⟩ | ⟨h4,h5,h6,h7,h8,he⟩
 .
  rw [he]
  refine { tree:=h.tree,good:=h.good,sy:=h.sy,o0:=h.o0,rl:=h.rl,pG:=h.pG,pH:=h.pH,jq:=h.jq,vJ:=h.vJ,jC:=h.jC,jD:=h.jD,jr:=h.jr,thing:=h.thing,port:=zX 0,kE:=hnd 0,wait:=fun q=>?_,jE:=?_,once:=?_,iy:=?_,eP:=h.eP,used:=h.used }
  .show gh (r.Notes++[_]) q<=3;rw [Aa];exact OE q
  .
   intro n hn
   rcases List.mem_append.1 hn with hn|hn
   .exact h.jE n hn
   .rw [List.mem_singleton.1 hn];exact Int.le_refl 0
  .
   intro w hw
   show cH r.Held w.ID+cN (r.Notes++[_]) w.ID=1
   have:=h.once w hw;have:=(h.tree.mem hw).id1
   rw [GN,if_neg (by dsimp only;omega)];omega
  .
   intro n hn h0
   rcases List.mem_append.1 hn with hn|hn
   .exact h.iy n hn h0
   .rw [List.mem_singleton.1 hn] at h0;exact absurd h0 (by dsimp only;omega)
 .
  obtain ⟨_,Ta,_⟩:=h.get h6
  obtain ⟨GL,hid,hth,_⟩:=h.derive Ta h7 h8
  rw [he]
  generalize hx:(derived (aS r ⟨p.aA,s⟩).1 r.ae a 0).1=x at *
  have n1:=h.o0;have hfr:=h.fresh
  refine { tree:=GL,good:=h.good,sy:=?_,o0:=by show 1<=r.ae+1;omega,rl:=by show r.ae+1<=1000;omega,pG:=h.pG,pH:=h.pH,jq:=h.jq,vJ:=h.vJ,jC:=h.jC,jD:=h.jD,jr:=h.jr,thing:=?_,port:=zX x.ID,kE:=hnd x.ID,wait:=fun q=>?_,jE:=?_,once:=?_,iy:=?_,eP:=?_,used:=?_ }
  .
   intro w hw
   show w.ID<r.ae+1
   rcases List.mem_append.1 hw with hw|hw
   .have:=h.sy w hw;omega
   .rw [List.mem_singleton.1 hw,hid];omega
  .
   intro w hw
   rcases List.mem_append.1 hw with hw|hw
   .exact h.thing w hw
   .rw [List.mem_singleton.1 hw,hth];exact h.thing _ Ta
  .show gh (r.Notes++[_]) q<=3;rw [Aa];exact OE q
  .
   intro n hn
   rcases List.mem_append.1 hn with hn|hn
   .exact h.jE n hn
   .rw [List.mem_singleton.1 hn];show 0<=x.ID;omega
  .
   intro w hw
   show cH r.Held w.ID+cN (r.Notes++[_]) w.ID=1
   rw [GN];dsimp only
   rcases List.mem_append.1 hw with hw|hw
   .
    have:=h.sy w hw;have:=h.once w hw
    rw [if_neg (by omega)];omega
   .rw [List.mem_singleton.1 hw,if_pos rfl,hid];omega
  .
   intro n hn h0
   rcases List.mem_append.1 hn with hn|hn
   .
    obtain ⟨w,hw,e⟩:=h.iy n hn h0
    exact ⟨w,List.mem_append.2 (.inl hw),e⟩
   .rw [List.mem_singleton.1 hn];exact ⟨x,List.mem_append.2 (.inr (List.mem_singleton.2 rfl)),rfl⟩
  .
   intro y hy
   obtain ⟨w,hw,e⟩:=h.eP y hy
   exact ⟨w,List.mem_append.2 (.inl hw),e⟩
  .
   intro t ht
   obtain ⟨w,hw,e⟩:=h.used t ht
   exact ⟨w,List.mem_append.2 (.inl hw),e⟩
theorem yh {p:Place}(h:(eB r p).2.2.2=0):(cD r p 2 1).2.2=0 /\ ∃ (i:Nat) (n:Note),r.Notes[i]? = some n/\n.Port=(aS r p).1.aE/\(∀ (j:Nat) y,j<i->r.Notes[j]? = some y->¬ y.Port=(aS r p).1.aE)/\(eB r p).2.1=n /\
 (0<n.ak/\0<=je r.Held p.aA/\(eB r p).2.2.1=je r.Held p.aA/\(eB r p).1=⟨r.ao,r.Things,fR r.Held ⟨p.aA,je r.Held p.aA⟩ n.ak,uj r.Notes i,r.ae,r.ah⟩ ∨
  n.ak<=0/\(eB r p).2.2.1 = -1/\(eB r p).1=⟨r.ao,r.Things,r.Held,uj r.Notes i,r.ae,r.ah⟩):=by
 unfold eB at h ⊢
 by_cases h1:(cD r p 2 1).2.2=0
 .
  have he:=(rm h1).2.1
  rw [if_pos h1] at h ⊢
  rw [he] at h ⊢
  rcases j5 (fun n:Note=>n.Port==(aS r p).1.aE) r.Notes with ⟨hf,hn⟩ | ⟨i,n,hf,hn,hp,hb,_⟩
  .
   rw [hf,show decide ((0:Int) <= -1)=false from rfl] at h
   cases hq:r.Notes[(-1:Int).toNat]? <;> rw [hq] at h <;> simp at h
  .
   have hn':r.Notes[i]? = some n:=hn
   have hfi:idxOf (fun n:Note=>n.Port==(aS r p).1.aE) r.Notes=(i:Int):=hf
   rw [hfi,Int.toNat_natCast,hn',decide_eq_true (by omega)] at h ⊢
   dsimp only at h ⊢
   refine ⟨h1,i,n,hn',by simpa using hp,fun j y hj hy=>by simpa using hb j y hj hy,?_⟩
   by_cases h2:0<n.ak
   .
    rw [if_pos h2] at h ⊢
    by_cases h3:je r.Held p.aA<0
    .rw [if_pos h3] at h;simp at h
    .rw [if_neg h3];exact ⟨rfl,.inl ⟨h2,by omega,rfl,rfl⟩⟩
   .rw [if_neg h2];exact ⟨rfl,.inr ⟨by omega,rfl,rfl⟩⟩
 .rw [if_neg h1] at h;exact absurd h h1
theorem free_at {l:List Held}{h:Int}(hf:0<=je l h):je l h<=5/\mV l ⟨h,je l h⟩=0:=by
 rcases free_spec l h with ⟨a,_⟩ | ⟨_,b,c,_⟩
 .omega
 .exact ⟨b,c⟩
theorem Fj {p:Place}{k:Int}(h:aZ p=0)(h0:0<=k)(h5:k<=5):aZ ⟨p.aA,k⟩=0:=by
 have:=cw h
 unfold aZ;dsimp only;split <;> first|rfl|omega
theorem Inv.notes (h:Inv r){m:List Held}{ns:List Note}(hg:Good m)(hc:∀w∈r.ao,cH m w.ID+cN ns w.ID=1)(hs:∀x∈m,∃w∈r.ao,w.ID=x.ak)(hn:∀n∈ns,n∈r.Notes)(hw:∀q,gh ns q<=gh r.Notes q):Inv ⟨r.ao,r.Things,m,ns,r.ae,r.ah⟩ :=
 { tree:=h.tree,good:=hg,sy:=h.sy,o0:=h.o0,rl:=h.rl,pG:=h.pG,pH:=h.pH,jq:=h.jq,vJ:=h.vJ,jC:=h.jC,jD:=h.jD,jr:=h.jr,thing:=h.thing,port:=fun n k=>h.port n (hn n k),kE:=fun n k=>h.kE n (hn n k),wait:=fun q=>Nat.le_trans (hw q) (h.wait q),jE:=fun n k=>h.jE n (hn n k),once:=hc,iy:=fun n k=>h.iy n (hn n k),eP:=hs,used:=h.used }
theorem Inv.take (h:Inv r){p:Place}(hm:(eB r p).2.2.2=0):Inv (eB r p).1:=by
 obtain ⟨hy,i,n,hn,hp,hb,_,hc⟩:=yh hm
 obtain ⟨hg,_⟩:=rm hy
 obtain ⟨hpf,_⟩:=h.get hg
 have hcut:=fun j=>QD hn j
 have hsub:∀x∈uj r.Notes i,x∈r.Notes:=fun x hx=>Nb hx
 rcases hc with ⟨h0,hf,_,he⟩ | ⟨h0,_,he⟩
 .
  rw [he]
  obtain ⟨h5,ha⟩:=free_at hf
  have hi:n.ak≠0:=by omega
  have hq:=Fj hpf hf h5
  refine h.notes (mI h.good hq) (fun w hw=>?_) (fun x hx=>?_) hsub (fun q=>zU q)
  .
   rw [BP h.good ha hi]
   have h1:=h.once w hw;have h2:=hcut w.ID
   omega
  .
   rcases (lG h.good ha hi).1 hx with e|hx
   .rw [e];exact h.iy n (List.mem_of_getElem? hn) h0
   .exact h.eP x hx
 .
  rw [he]
  refine h.notes h.good (fun w hw=>?_) h.eP hsub (fun q=>zU q)
  have h1:=h.once w hw;have h2:=hcut w.ID;have h3:=(h.tree.mem hw).id1
  rw [if_neg (by omega)] at h2
  omega
theorem Inv.do (h:Inv r){a:dQ}(hm:(cE r a).2=0):Inv (cE r a).1:=by
 unfold cE at hm ⊢
 by_cases h1:a.Kind=(⟨#[109,97,107,101]⟩:ByteArray)
 .rw [if_pos h1] at hm ⊢;exact h.make hm
 .
  rw [if_neg h1] at hm ⊢
  by_cases h2:a.Kind=(⟨#[103,105,118,101]⟩:ByteArray)
  .rw [if_pos h2] at hm ⊢;exact h.give hm
  .
   rw [if_neg h2] at hm ⊢
   by_cases h3:a.Kind=(⟨#[109,111,118,101]⟩:ByteArray)
   .rw [if_pos h3] at hm ⊢;exact h.move hm
   .
    rw [if_neg h3] at hm ⊢
    by_cases h4:a.Kind=(⟨#[100,114,111,112]⟩:ByteArray)
    .rw [if_pos h4] at hm ⊢;exact h.drop hm
    .
     rw [if_neg h4] at hm ⊢
     by_cases h5:a.Kind=(⟨#[114,101,118,111,107,101]⟩:ByteArray)
     .rw [if_pos h5] at hm ⊢;exact h.QE hm
     .
      rw [if_neg h5] at hm ⊢
      by_cases h6:a.Kind=(⟨#[119,114,105,116,101]⟩:ByteArray)
      .rw [if_pos h6] at hm ⊢;exact h.write hm
      .
       rw [if_neg h6] at hm ⊢
       by_cases h7:a.Kind=(⟨#[115,101,110,100]⟩:ByteArray)
       .rw [if_pos h7] at hm ⊢;exact h.send hm
       .
        rw [if_neg h7] at hm ⊢
        by_cases h8:a.Kind=(⟨#[116,97,107,101]⟩:ByteArray)
        .rw [if_pos h8] at hm ⊢;exact h.take hm
        .rw [if_neg h8];exact h
theorem tH (h:Inv r):r.Held.length<=24:=K4 h.good
end
end
section
section
variable {r:aC}
end
end
section
section
variable {r:aC}
theorem Ab {ws:List ak}{ts:List Int}:∀ {ns:List Note},(∀n∈ns,n.Port∈ts/\jF ws n=n)->ig ws ts ns=ns
 | [],_=>rfl
 | n::ns,h=>by
  obtain ⟨h1,h2⟩:=h n (List.mem_cons_self ..)
  rw [uo,if_pos h1,h2,Ab (fun m hm=>h m (List.mem_cons_of_mem _ hm))]
theorem Im {ws:List ak}{ts:List Int}{ns:List Note}(h:∀n∈ns,n.Port∈ts):kJ ws ts ns=[]:=by
 refine List.eq_nil_iff_forall_not_mem.2 fun j hj=>?_
 obtain ⟨m,hm,_,hp,_⟩:=DG.1 hj
 exact hp (h m hm)
theorem Inv.GQ (h:Inv r):∀n∈r.Notes,n.Port∈bU r.ao:=fun n hn=>by
 obtain ⟨t,ht,e,_⟩:=h.port n hn
 obtain ⟨w,hw,e2⟩:=h.used t ht
 exact (lh h.tree).2 ⟨w,hw,by rw [e2,e]⟩
theorem Inv.fix (h:Inv r):∀n∈r.Notes,jF r.ao n=n:=fun n hn=>by
 unfold jF;split
 .
  rename_i hf
  have h0:=h.jE n hn
  have:n.ak=0:=by
   by_cases hp:0<n.ak
   .
    obtain ⟨w,hw,e⟩:=h.iy n hn hp
    have:=mg hw;rw [e] at this;omega
   .omega
  cases n;simp only [] at this ⊢;rw [this]
 .rfl
theorem Fo (h:Inv r)(T:List aE)(H:List Held)(hT:∀t∈T,∀w∈r.ao,w.aE≠t.ID)(hH:H.filter (fun h => !decide (cJ r.ao h.ak<0))=r.Held)(a b:Int):dS ⟨r.ao,r.Things++T,H,r.Notes,a,b⟩=⟨r.ao,r.Things,r.Held,r.Notes,a,b⟩:=by
 have hl:pz ⟨r.ao,r.Things++T,H,r.Notes,a,b⟩=[]:=Im h.GQ
 rw [qt (by rw [hl];rfl)]
 unfold fM
 dsimp only
 have h1:(r.Things++T).filter (fun t => !!decide (t.ID∈bU r.ao))=r.Things:=by
  have k1:r.Things.filter (fun t => !!decide (t.ID∈bU r.ao))=r.Things:=List.filter_eq_self.2 fun t ht=>by
   obtain ⟨w,hw,e⟩:=h.used t ht
   simp only [Bool.not_not,decide_eq_true_eq]
   exact (lh h.tree).2 ⟨w,hw,e⟩
  have k2:T.filter (fun t => !!decide (t.ID∈bU r.ao))=[]:=List.filter_eq_nil_iff.2 fun t ht=>by
   simp only [Bool.not_not,decide_eq_true_eq]
   intro hm
   obtain ⟨w,hw,e⟩:=(lh h.tree).1 hm
   exact hT t ht w hw e
  rw [List.filter_append,k1,k2,List.append_nil]
 rw [h1,hH,Ab (fun n hn=>⟨h.GQ n hn,h.fix n hn⟩)]
theorem Inv.Io (h:Inv r){H:List Held}(hs:∀x∈H,x∈r.Held):H.filter (fun h => !decide (cJ r.ao h.ak<0))=H :=
 List.filter_eq_self.2 fun x hx=>by
  have:=lf.2 (h.eP x (hs x hx))
  simp only [Bool.not_eq_true',decide_eq_false_iff_not];omega
theorem yi (h:Inv r):dS r=r:=by
 have:=Fo h [] r.Held (fun t ht=>by cases ht) (h.Io (fun x hx=>hx)) r.ae r.ah
 rw [List.append_nil] at this
 exact this
theorem QF {l:List Held}{x y:Held}(hx:x∈l)(hy:y∈l)(e:x.ak=y.ak)(h:cH l x.ak<=1):x=y:=by
 obtain ⟨A,B,rfl⟩:=List.append_of_mem hx
 unfold cH at h
 rw [List.countP_append,List.countP_cons,if_pos (by simp)] at h
 have key:∀ (C:List Held),y∈C->0<C.countP (fun h=>h.ak==x.ak):=fun C hC=>List.countP_pos_iff.2 ⟨y,hC,by simp [e]⟩
 rcases List.mem_append.1 hy with hy|hy
 .have:=key A hy;omega
 .
  rcases List.mem_cons.1 hy with hy|hy
  .exact hy.symm
  .have:=key B hy;omega
theorem Inv.one (h:Inv r){x y:Held}(hx:x∈r.Held)(hy:y∈r.Held)(e:x.ak=y.ak):x=y:=by
 obtain ⟨w,hw,e2⟩:=h.eP x hx
 have:=h.once w hw
 exact QF hx hy e (by rw [<- e2];omega)
end
end
section
section
variable {r:aC}
theorem uZ:∀ (ns:List Note) (l:List ak),cS l->cS (hZ ns l)
 | [],l,h=>h
 | n::ns,l,h=>by
  show cS (hZ ns (if 0<n.ak then without l n.ak else l))
  refine uZ ns _ ?_
  split
  .exact h.wo _
  .exact h
theorem yj:∀ (ns:List Note) (l:List ak) (w:ak),w∈hZ ns l->(∃y∈l,Like w y) /\ ∀n∈ns,0<n.ak->w.ID≠n.ak
 | [],l,w,h=>⟨⟨w,h,Like.refl w⟩,fun n hn=>by cases hn⟩
 | n::ns,l,w,h=>by
  obtain ⟨⟨y,hy,hl⟩,hn⟩:=yj ns (if 0<n.ak then without l n.ak else l) w h
  by_cases h0:0<n.ak
  .
   rw [if_pos h0] at hy
   obtain ⟨z,hz,hne,rfl⟩:=gK.1 hy
   refine ⟨⟨z,hz,hl.trans (vK _ _ z)⟩,fun m hm hm0=>?_⟩
   rcases List.mem_cons.1 hm with e|hm
   .rw [e,hl.id,(kB z).1];exact hne
   .exact hn m hm hm0
  .
   rw [if_neg h0] at hy
   refine ⟨⟨y,hy,hl⟩,fun m hm hm0=>?_⟩
   rcases List.mem_cons.1 hm with e|hm
   .rw [e] at hm0;exact absurd hm0 h0
   .exact hn m hm hm0
theorem sA:∀ (ns:List Note) (l:List ak) (y:ak),y∈l->(∀n∈ns,0<n.ak->y.ID≠n.ak) -> ∃w∈hZ ns l,Like w y
 | [],l,y,h,_=>⟨y,h,Like.refl y⟩
 | n::ns,l,y,h,hn=>by
  by_cases h0:0<n.ak
  .
   obtain ⟨w,hw,k⟩:=sA ns (without l n.ak) (mN n.ak (eO l n.ak) y) (gK.2 ⟨y,h,hn n (List.mem_cons_self ..) h0,rfl⟩) (fun m hm hm0=>by rw [(kB y).1];exact hn m (List.mem_cons_of_mem _ hm) hm0)
   refine ⟨w,?_,k.trans (vK _ _ y)⟩
   show w∈hZ ns (if 0<n.ak then without l n.ak else l)
   rw [if_pos h0];exact hw
  .
   obtain ⟨w,hw,k⟩:=sA ns l y h (fun m hm hm0=>hn m (List.mem_cons_of_mem _ hm) hm0)
   refine ⟨w,?_,k⟩
   show w∈hZ ns (if 0<n.ak then without l n.ak else l)
   rw [if_neg h0];exact hw
theorem Lf {ns:List Note}{j:Int}(h:cN ns j=0):∀n∈ns,0<n.ak->j≠n.ak:=fun n hn _ e=>by
 have:=QC hn;rw [<- e] at this;omega
theorem Inv.Ip (h:Inv r):Pre ⟨hZ r.Notes r.ao,r.Things,r.Held,[],r.ae,r.ah⟩:=by
 have hs:=fun w hw=>yj r.Notes r.ao w hw
 refine { tree:=uZ _ _ h.tree,good:=h.good,sy:=?_,o0:=h.o0,rl:=h.rl,pG:=h.pG,pH:=h.pH,jq:=h.jq,vJ:=h.vJ,jC:=h.jC,jD:=h.jD,jr:=h.jr,thing:=?_,port:=fun n hn=>(by cases hn),kE:=fun n hn=>(by cases hn),wait:=fun q=>by simp [gh],jE:=fun n hn=>(by cases hn),once:=?_ }
 .intro w hw;obtain ⟨⟨y,hy,k⟩,_⟩:=hs w hw;rw [k.id];exact h.sy y hy
 .intro w hw;obtain ⟨⟨y,hy,k⟩,_⟩:=hs w hw;rw [k.th];exact h.thing y hy
 .
  intro w hw
  obtain ⟨⟨y,hy,k⟩,hn⟩:=hs w hw
  have h1:=h.once y hy
  have h2:cN r.Notes w.ID=0:=List.countP_eq_zero.2 fun n hnn e=>by
   have e:n.ak=w.ID:=by simpa using e
   have:=(h.tree.mem hy).id1
   exact hn n hnn (by rw [e,k.id];omega) e.symm
  show cH r.Held w.ID+cN [] w.ID=1
  rw [<- k.id] at h1;simp only [cN,List.countP_nil] at h2 ⊢;unfold cN at h1;omega
theorem ut:∀ (a b:List Int),a.Nodup->(∀x∈a,x∈b)->a.length<=b.length
 | [],b,_,_=>Nat.zero_le _
 | x::a,b,hn,hs=>by
  obtain ⟨h1,h2⟩:=List.nodup_cons.1 hn
  obtain ⟨A,B,rfl⟩:=List.append_of_mem (hs x (List.mem_cons_self ..))
  have:=ut a (A++B) h2 fun y hy=>by
   have h3:=hs y (List.mem_cons_of_mem _ hy)
   rcases List.mem_append.1 h3 with h3|h3
   .exact List.mem_append.2 (.inl h3)
   .
    rcases List.mem_cons.1 h3 with e|h3
    .exact absurd (e▸hy) h1
    .exact List.mem_append.2 (.inr h3)
  simp only [List.length_cons,List.length_append] at this ⊢;omega
theorem Lh (h:Inv r)(hn:r.Notes=[]):r.Held.length=r.ao.length:=by
 have h1:(r.ao.map ak.ID).Nodup:=List.Pairwise.imp (fun h=>Int.ne_of_lt h) (List.pairwise_map.2 h.tree.is.rise)
 have h2:(r.Held.map Held.ak).Nodup:=by
  refine List.pairwise_iff_getElem.2 fun i j hi hj hij e=>?_
  rw [List.length_map] at hi hj
  rw [List.getElem_map,List.getElem_map] at e
  have:=h.one (List.getElem_mem hi) (List.getElem_mem hj) e
  have h3:=List.pairwise_iff_getElem.1 (jP h.good) i j hi hj hij
  rw [this] at h3
  exact tA h3
 have a:=ut (r.Held.map Held.ak) (r.ao.map ak.ID) h2 fun x hx=>by
  obtain ⟨y,hy,rfl⟩:=List.mem_map.1 hx
  obtain ⟨w,hw,e⟩:=h.eP y hy
  exact List.mem_map.2 ⟨w,hw,e⟩
 have b:=ut (r.ao.map ak.ID) (r.Held.map Held.ak) h1 fun x hx=>by
  obtain ⟨w,hw,rfl⟩:=List.mem_map.1 hx
  have h3:=h.once w hw
  rw [hn] at h3;simp only [cN,List.countP_nil] at h3
  obtain ⟨y,hy,e⟩:=List.countP_pos_iff.1 (show 0<cH r.Held w.ID by omega)
  exact List.mem_map.2 ⟨y,hy,by simpa using e⟩
 simp only [List.length_map] at a b;omega
theorem jz (h:Inv r):Inv (bj r)/\(bj r).Notes=[]/\(bj r).Held=r.Held/\(bj r).Held.length=(bj r).ao.length/\bj (bj r)=bj r:=by
 have hp:=h.Ip
 have hi:Inv (bj r):=uq hp
 have hl:pz ⟨hZ r.Notes r.ao,r.Things,r.Held,[],r.ae,r.ah⟩=[]:=rfl
 have hd:bj r=fM ⟨hZ r.Notes r.ao,r.Things,r.Held,[],r.ae,r.ah⟩:=qt (by rw [hl];rfl)
 have hn:(bj r).Notes=[]:=by rw [hd];rfl
 refine ⟨hi,hn,?_,Lh hi hn,?_⟩
 .
  rw [hd]
  show r.Held.filter _=r.Held
  refine List.filter_eq_self.2 fun x hx=>?_
  obtain ⟨w,hw,e⟩:=h.eP x hx
  have h1:=h.once w hw;have h2:=QB hx;rw [<- e] at h2
  obtain ⟨v,hv,k⟩:=sA r.Notes r.ao w hw (Lf (by omega))
  have h3:0<=cJ (hZ r.Notes r.ao) x.ak:=lf.2 ⟨v,hv,by rw [k.id,e]⟩
  simp only [Bool.not_eq_true',decide_eq_false_iff_not];omega
 .
  have hs:=yi hi
  generalize bj r=x at hn hs
  cases x with
  | mk W T H N a b =>
   have hn':N=[]:=hn
   subst hn'
   exact hs
theorem Li {k:Nat}(h:Sz k r):Sz k (bj r) :=
 oY _ _ ⟨Nat.le_trans (xR _ _) h.wl,h.tl,h.hl,Nat.zero_le _,zS _ _ h.ri,h.w0,h.w1,h.t0,h.t1⟩
end
end
def gS (n:Int):ByteArray:=⟨(Lib.itoa n).toArray⟩
def bN (n:Int):ByteArray:=⟨(Lib.repeatL [48] (4-(gS n).size)).toArray⟩++gS n
def vz (s:ByteArray):Option Int:=match Lib.atoi s.data.toList with|some n=>if bN n=s then some n else none|none=>none
def jN (s:ByteArray):Nat->Option (List Int)
  | 0=>some []
  | k+1=>match jN s k with
    | some l=>match vz (s.extract (4*k) (4*k+4)) with|some n=>some (l++[n])|none=>none
    | none=>none
def dW (s:ByteArray)(m:Nat):Option (List Int):=if s.size<4*m then none else jN s m
theorem uu {s:ByteArray}:∀ {k:Nat} {l:List Int},jN s k=some l->l.length=k
 | 0,l,h=>by simp [jN] at h;subst h;rfl
 | k+1,l,h=>by
  simp only [jN] at h
  split at h
  .
   rename_i l' h'
   split at h
   .injection h with h;subst h;simp [uu h']
   .cases h
  .cases h
theorem Fp {s:ByteArray}{k:Nat}{l:List Int}{n:Int}(h:jN s k=some l)(hn:vz (s.extract (4*k) (4*k+4))=some n):jN s (k+1)=some (l++[n]):=by simp only [jN,h,hn]
theorem yk {s:ByteArray}:∀ {m k:Nat},k<=m->jN s k=none->jN s m=none
 | 0,k,hk,h=>by
  have:k=0:=by omega
  subst this;exact h
 | m+1,k,hk,h=>by
  rcases Nat.lt_or_ge k (m+1) with h1|h1
  .simp only [jN,yk (m:=m) (by omega) h]
  .
   have:k=m+1:=by omega
   subst this;exact h
theorem Iq {s:ByteArray}{k m:Nat}{l:List Int}(hk:k<m)(h:jN s k=some l)(hn:vz (s.extract (4*k) (4*k+4))=none):jN s m=none :=
 yk (k:=k+1) (by omega) (by simp only [jN,h,hn])
theorem Ir {s:ByteArray}{m:Nat}{l:List Int}(h:dW s m=some l):l.length=m/\4*m<=s.size:=by
 unfold dW at h;split at h
 .cases h
 .exact ⟨uu h,by omega⟩
def kH:ByteArray:=⟨#[104]⟩
def kT:ByteArray:=⟨#[116]⟩
def kW:ByteArray:=⟨#[119]⟩
def kX:ByteArray:=⟨#[120]⟩
def hrow (h:Held):Change:=⟨kH++gS h.Place.aA++gS h.Place.Slot,bN h.ak,false⟩
def l5 (t:aE):Change:=⟨kT++bN t.ID,bN t.Kind++t.Data,false⟩
def oo (w:ak):Change:=⟨kW++bN w.ID,bN w.aE++bN w.Rights++bN w.aQ++bN w.From,false⟩
def DJ (r:aC):Change:=⟨kX,bN r.ae++bN r.ah,false⟩
def rowsOf (q:aC):List Change:=q.Held.map hrow++q.Things.map l5++q.ao.map oo++[DJ q]
def bH (r:aC):List Change:=rowsOf (bj r)
def Nf (s:ByteArray)(i:Nat):Int:=(bf s i:Int)
def Tb (c:Change):Place:=⟨Nf c.Key 1-48,Nf c.Key 2-48⟩
def Iu (r:aC)(h:Held):aC:=⟨r.ao,r.Things,r.Held++[h],r.Notes,r.ae,r.ah⟩
def Iv (r:aC)(t:aE):aC:=⟨r.ao,r.Things++[t],r.Held,r.Notes,r.ae,r.ah⟩
def DK (r:aC)(w:ak):aC:=⟨r.ao++[w],r.Things,r.Held,r.Notes,r.ae,r.ah⟩
def Ng (r:aC)(a b:Int):aC:=⟨r.ao,r.Things,r.Held,r.Notes,a,b⟩
def Iw (o:Option (List Int))(j:Nat):Int:=((o.getD [])[j]?).getD 0
def rowP (r:aC)(c:Change):aC×Bool :=
  if c.Key.size=0 then (r,false) else
  let key:=dW (c.Key.extract 1 c.Key.size) 1
  let ok:=key.isSome&&decide (c.Key.size=5)
  let n1:=dW c.Val 1
  let n4:=dW c.Val 4
  let n2:=dW c.Val 2
  if bf c.Key 0=104 then (if n1.isSome=false∨c.Val.size≠4∨c.Key.size≠3 then (r,false) else (Iu r ⟨Tb c,Iw n1 0⟩,decide (aZ (Tb c)=0)))
  else if bf c.Key 0=116 then (if ok=false∨n1.isSome=false∨12<c.Val.size then (r,false) else (Iv r ⟨Iw key 0,Iw n1 0,c.Val.extract 4 c.Val.size⟩,decide (Iw n1 0=1∨Iw n1 0=2/\c.Val.size=4)))
  else if bf c.Key 0=119 then (if ok=false∨n4.isSome=false∨c.Val.size≠16 then (r,false) else (DK r ⟨Iw key 0,Iw n4 0,Iw n4 1,Iw n4 2,Iw n4 3⟩,true))
  else if c.Key≠kX∨n2.isSome=false∨c.Val.size≠8 then (r,false) else (Ng r (Iw n2 0) (Iw n2 1),true)
def sB (pv:Option ByteArray)(c:Change):Bool:=match pv with|some k=>jB k c.Key|none=>true
def pgo:List Change->Option ByteArray->aC->Option aC
  | [],_,r=>some r
  | c::l,pv,r=>if sB pv c && !c.Gone&&(rowP r c).2 then pgo l (some c.Key) (rowP r c).1 else none
structure Whole (r:aC):Prop where
  tree:cS r.ao
  jr:r.Things.length<=10
  o0:1<=r.ae
  rl:r.ae<=1000
  pG:1<=r.ah
  pH:r.ah<=1000
  hlen:r.Held.length=r.ao.length
  eP:∀h∈r.Held,0<=cJ r.ao h.ak
  once:(r.Held.map Held.ak).Nodup
  things:r.Things.map aE.ID=bU r.ao
  OG:∀w,r.ao.getLast? = some w->w.ID<r.ae
  OH:∀t,r.Things.getLast? = some t->t.ID<r.ah
noncomputable def dX (r:aC):Bool:= @decide (Whole r) (Classical.propDecidable _)
noncomputable def cr (l:List Change):aC×Int:=match pgo l none r0 with|some r=>if dX r=true then (r,0) else (r0,4)|none=>(r0,4)
theorem yl {r:aC}(h:Whole r):dX r=true:=by unfold dX;simp [h]
theorem gu {r:aC}(h:¬ Whole r):dX r=false:=by unfold dX;simp [h]
end Go.Proofs.YtkbhcbipadkcaaaGreatDoor
