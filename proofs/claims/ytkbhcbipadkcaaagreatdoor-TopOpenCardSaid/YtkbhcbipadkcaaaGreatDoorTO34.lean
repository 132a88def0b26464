import Derived.Test.YtkbhcbipadkcaaaGreatDoorTO33
section
namespace Go.Proofs
open Go.Shelf
def Tryz.lays172_ren:Go.Shelf.Ren:=⟨fun|172=>187|244=>205|245=>206|247=>236|279=>237|280=>238|281=>239|282=>240|287=>256|316=>257|171=>130|205=>258|321=>263|322=>264|243=>175|246=>197|283=>229|284=>230|285=>231|286=>232|129=>216|317=>251|318=>252|319=>253|320=>254|337=>261|338=>262|n=>n,fun|9=>9|3=>3|75=>38|76=>195|4=>4|5=>5|167=>276|37=>138|0=>0|85=>277|2=>2|168=>279|53=>33|175=>297|46=>188|210=>300|127=>239|145=>310|143=>308|21=>21|171=>271|173=>273|212=>294|51=>232|20=>20|213=>295|232=>311|233=>312|80=>140|n=>n,fun|15=>2|16=>3|17=>1|18=>4|19=>5|n=>n⟩
theorem Tryz.lays172:Go.Proofs.Lays.n172 Tryz.prog Tryz.lays172_ren:={
 mixed:=by kernel_rfl
 f129:=Tryz.func216.trans (congrArg some (by kernel_rfl))
 f171:=Tryz.func130.trans (congrArg some (by kernel_rfl))
 f172:=Tryz.func187.trans (congrArg some (by kernel_rfl))
 f205:=Tryz.func258.trans (congrArg some (by kernel_rfl))
 f243:=Tryz.func175.trans (congrArg some (by kernel_rfl))
 f244:=Tryz.func205.trans (congrArg some (by kernel_rfl))
 f245:=Tryz.func206.trans (congrArg some (by kernel_rfl))
 f246:=Tryz.func197.trans (congrArg some (by kernel_rfl))
 f247:=Tryz.func236.trans (congrArg some (by kernel_rfl))
 f279:=Tryz.func237.trans (congrArg some (by kernel_rfl))
 f280:=Tryz.func238.trans (congrArg some (by kernel_rfl))
 f281:=Tryz.func239.trans (congrArg some (by kernel_rfl))
 f282:=Tryz.func240.trans (congrArg some (by kernel_rfl))
 f283:=Tryz.func229.trans (congrArg some (by kernel_rfl))
 f284:=Tryz.func230.trans (congrArg some (by kernel_rfl))
 f285:=Tryz.func231.trans (congrArg some (by kernel_rfl))
 f286:=Tryz.func232.trans (congrArg some (by kernel_rfl))
 f287:=Tryz.func256.trans (congrArg some (by kernel_rfl))
 f316:=Tryz.func257.trans (congrArg some (by kernel_rfl))
 f317:=Tryz.func251.trans (congrArg some (by kernel_rfl))
 f318:=Tryz.func252.trans (congrArg some (by kernel_rfl))
 f319:=Tryz.func253.trans (congrArg some (by kernel_rfl))
 f320:=Tryz.func254.trans (congrArg some (by kernel_rfl))
 f321:=Tryz.func263.trans (congrArg some (by kernel_rfl))
 f322:=Tryz.func264.trans (congrArg some (by kernel_rfl))
 f337:=Tryz.func261.trans (congrArg some (by kernel_rfl))
 f338:=Tryz.func262.trans (congrArg some (by kernel_rfl))
 t0:=Tryz.underlying0
 a0:=Tryz.isAgg0
 z0:=Tryz.sizeOf0
 v0:=Tryz.zeroValue0
 t2:=Tryz.underlying2
 a2:=Tryz.isAgg2
 z2:=Tryz.sizeOf2
 v2:=Tryz.zeroValue2
 t3:=Tryz.underlying3
 a3:=Tryz.isAgg3
 z3:=Tryz.sizeOf3
 v3:=Tryz.zeroValue3
 t4:=Tryz.underlying4
 a4:=Tryz.isAgg4
 z4:=Tryz.sizeOf4
 v4:=Tryz.zeroValue4
 t5:=Tryz.underlying5
 a5:=Tryz.isAgg5
 z5:=Tryz.sizeOf5
 v5:=Tryz.zeroValue5
 t9:=Tryz.underlying9
 a9:=Tryz.isAgg9
 z9:=Tryz.sizeOf9
 v9:=Tryz.zeroValue9
 t20:=Tryz.underlying20
 a20:=Tryz.isAgg20
 z20:=Tryz.sizeOf20
 v20:=Tryz.zeroValue20
 t21:=Tryz.underlying21
 a21:=Tryz.isAgg21
 z21:=Tryz.sizeOf21
 v21:=Tryz.zeroValue21
 t37:=Tryz.underlying138
 a37:=Tryz.isAgg138
 z37:=Tryz.sizeOf138
 v37:=Tryz.zeroValue138
 t46:=Tryz.underlying188
 a46:=Tryz.isAgg188
 z46:=Tryz.sizeOf188
 v46:=Tryz.zeroValue188
 t51:=Tryz.underlying232
 a51:=Tryz.isAgg232
 z51:=Tryz.sizeOf232
 v51:=Tryz.zeroValue232
 t53:=Tryz.underlying33
 a53:=Tryz.isAgg33
 z53:=Tryz.sizeOf33
 v53:=Tryz.zeroValue33
 t75:=Tryz.underlying38
 a75:=Tryz.isAgg38
 z75:=Tryz.sizeOf38
 v75:=Tryz.zeroValue38
 t76:=Tryz.underlying195
 a76:=Tryz.isAgg195
 z76:=Tryz.sizeOf195
 v76:=Tryz.zeroValue195
 t85:=Tryz.underlying277
 a85:=Tryz.isAgg277
 z85:=Tryz.sizeOf277
 v85:=Tryz.zeroValue277
 t127:=Tryz.underlying239
 a127:=Tryz.isAgg239
 z127:=Tryz.sizeOf239
 v127:=Tryz.zeroValue239
 t143:=Tryz.underlying308
 a143:=Tryz.isAgg308
 z143:=Tryz.sizeOf308
 v143:=Tryz.zeroValue308
 t145:=Tryz.underlying310
 a145:=Tryz.isAgg310
 z145:=Tryz.sizeOf310
 v145:=Tryz.zeroValue310
 t167:=Tryz.underlying276
 a167:=Tryz.isAgg276
 z167:=Tryz.sizeOf276
 v167:=Tryz.zeroValue276
 t168:=Tryz.underlying279
 a168:=Tryz.isAgg279
 z168:=Tryz.sizeOf279
 v168:=Tryz.zeroValue279
 t171:=Tryz.underlying271
 a171:=Tryz.isAgg271
 z171:=Tryz.sizeOf271
 v171:=Tryz.zeroValue271
 t173:=Tryz.underlying273
 a173:=Tryz.isAgg273
 z173:=Tryz.sizeOf273
 v173:=Tryz.zeroValue273
 t175:=Tryz.underlying297
 a175:=Tryz.isAgg297
 z175:=Tryz.sizeOf297
 v175:=Tryz.zeroValue297
 t210:=Tryz.underlying300
 a210:=Tryz.isAgg300
 z210:=Tryz.sizeOf300
 v210:=Tryz.zeroValue300
 t212:=Tryz.underlying294
 a212:=Tryz.isAgg294
 z212:=Tryz.sizeOf294
 v212:=Tryz.zeroValue294
 t213:=Tryz.underlying295
 a213:=Tryz.isAgg295
 z213:=Tryz.sizeOf295
 t232:=Tryz.underlying311
 a232:=Tryz.isAgg311
 z232:=Tryz.sizeOf311
 v232:=Tryz.zeroValue311
 t233:=Tryz.underlying312
 a233:=Tryz.isAgg312
 z233:=Tryz.sizeOf312
 v233:=Tryz.zeroValue312
 g15:=by kernel_rfl
 g16:=by kernel_rfl
 g17:=by kernel_rfl
 g18:=by kernel_rfl
 g19:=by kernel_rfl }
def Tryz.laysM171_ren:Go.Shelf.Ren:=⟨fun|171=>130|243=>175|246=>197|283=>229|284=>230|285=>231|286=>232|129=>216|317=>251|318=>252|319=>253|320=>254|337=>261|338=>262|n=>n,fun|3=>3|9=>9|2=>2|4=>4|171=>271|0=>0|53=>33|37=>138|5=>5|173=>273|212=>294|51=>232|20=>20|213=>295|46=>188|232=>311|233=>312|n=>n,fun|17=>1|18=>4|19=>5|n=>n⟩
theorem Tryz.laysM171:Go.Proofs.LaysM.n171 Tryz.prog Tryz.laysM171_ren:={
 mixed:=by kernel_rfl
 f129:=Tryz.func216.trans (congrArg some (by kernel_rfl))
 f171:=Tryz.func130.trans (congrArg some (by kernel_rfl))
 f243:=Tryz.func175.trans (congrArg some (by kernel_rfl))
 f246:=Tryz.func197.trans (congrArg some (by kernel_rfl))
 f283:=Tryz.func229.trans (congrArg some (by kernel_rfl))
 f284:=Tryz.func230.trans (congrArg some (by kernel_rfl))
 f285:=Tryz.func231.trans (congrArg some (by kernel_rfl))
 f286:=Tryz.func232.trans (congrArg some (by kernel_rfl))
 f317:=Tryz.func251.trans (congrArg some (by kernel_rfl))
 f318:=Tryz.func252.trans (congrArg some (by kernel_rfl))
 f319:=Tryz.func253.trans (congrArg some (by kernel_rfl))
 f320:=Tryz.func254.trans (congrArg some (by kernel_rfl))
 f337:=Tryz.func261.trans (congrArg some (by kernel_rfl))
 f338:=Tryz.func262.trans (congrArg some (by kernel_rfl))
 t0:=Tryz.underlying0
 a0:=Tryz.isAgg0
 z0:=Tryz.sizeOf0
 v0:=Tryz.zeroValue0
 t2:=Tryz.underlying2
 a2:=Tryz.isAgg2
 z2:=Tryz.sizeOf2
 v2:=Tryz.zeroValue2
 t3:=Tryz.underlying3
 a3:=Tryz.isAgg3
 z3:=Tryz.sizeOf3
 v3:=Tryz.zeroValue3
 t4:=Tryz.underlying4
 a4:=Tryz.isAgg4
 z4:=Tryz.sizeOf4
 v4:=Tryz.zeroValue4
 t5:=Tryz.underlying5
 a5:=Tryz.isAgg5
 z5:=Tryz.sizeOf5
 v5:=Tryz.zeroValue5
 t9:=Tryz.underlying9
 a9:=Tryz.isAgg9
 z9:=Tryz.sizeOf9
 v9:=Tryz.zeroValue9
 t20:=Tryz.underlying20
 a20:=Tryz.isAgg20
 z20:=Tryz.sizeOf20
 v20:=Tryz.zeroValue20
 t37:=Tryz.underlying138
 a37:=Tryz.isAgg138
 z37:=Tryz.sizeOf138
 v37:=Tryz.zeroValue138
 t46:=Tryz.underlying188
 a46:=Tryz.isAgg188
 z46:=Tryz.sizeOf188
 v46:=Tryz.zeroValue188
 t51:=Tryz.underlying232
 a51:=Tryz.isAgg232
 z51:=Tryz.sizeOf232
 v51:=Tryz.zeroValue232
 t53:=Tryz.underlying33
 a53:=Tryz.isAgg33
 z53:=Tryz.sizeOf33
 v53:=Tryz.zeroValue33
 t171:=Tryz.underlying271
 a171:=Tryz.isAgg271
 z171:=Tryz.sizeOf271
 v171:=Tryz.zeroValue271
 t173:=Tryz.underlying273
 a173:=Tryz.isAgg273
 z173:=Tryz.sizeOf273
 v173:=Tryz.zeroValue273
 t212:=Tryz.underlying294
 a212:=Tryz.isAgg294
 z212:=Tryz.sizeOf294
 v212:=Tryz.zeroValue294
 t213:=Tryz.underlying295
 a213:=Tryz.isAgg295
 z213:=Tryz.sizeOf295
 t232:=Tryz.underlying311
 a232:=Tryz.isAgg311
 z232:=Tryz.sizeOf311
 v232:=Tryz.zeroValue311
 t233:=Tryz.underlying312
 a233:=Tryz.isAgg312
 z233:=Tryz.sizeOf312
 v233:=Tryz.zeroValue312
 g17:=by kernel_rfl
 g18:=by kernel_rfl
 g19:=by kernel_rfl
 i0:=by kernel_rfl
 i2:=by kernel_rfl
 i3:=by kernel_rfl
 i4:=by kernel_rfl
 i5:=by kernel_rfl
 i9:=by kernel_rfl
 i20:=by kernel_rfl
 i37:=by kernel_rfl
 i46:=by kernel_rfl
 i51:=by kernel_rfl
 i53:=by kernel_rfl
 i171:=by kernel_rfl
 i173:=by kernel_rfl
 i212:=by kernel_rfl
 i232:=by kernel_rfl
 i233:=by kernel_rfl
 m17:=by kernel_rfl
 m18:=by kernel_rfl
 m19:=by kernel_rfl }
def Tryz.laysC172_ren:Go.Shelf.Ren:=⟨fun|172=>187|244=>205|245=>206|247=>236|279=>237|280=>238|281=>239|282=>240|287=>256|316=>257|171=>130|205=>258|321=>263|322=>264|243=>175|246=>197|283=>229|284=>230|285=>231|286=>232|129=>216|317=>251|318=>252|319=>253|320=>254|337=>261|338=>262|n=>n,fun|9=>9|3=>3|75=>38|76=>195|4=>4|5=>5|167=>276|37=>138|0=>0|85=>277|2=>2|168=>279|53=>33|175=>297|46=>188|210=>300|127=>239|145=>310|143=>308|21=>21|171=>271|173=>273|212=>294|51=>232|20=>20|213=>295|232=>311|233=>312|80=>140|n=>n,fun|15=>2|16=>3|17=>1|18=>4|19=>5|n=>n⟩
theorem Tryz.laysC172:Go.Proofs.LaysC.n172 Tryz.prog Tryz.laysC172_ren:={
 mixed:=by kernel_rfl
 f129:=Tryz.func216.trans (congrArg some (by kernel_rfl))
 f171:=Tryz.func130.trans (congrArg some (by kernel_rfl))
 f172:=Tryz.func187.trans (congrArg some (by kernel_rfl))
 f205:=Tryz.func258.trans (congrArg some (by kernel_rfl))
 f243:=Tryz.func175.trans (congrArg some (by kernel_rfl))
 f244:=Tryz.func205.trans (congrArg some (by kernel_rfl))
 f245:=Tryz.func206.trans (congrArg some (by kernel_rfl))
 f246:=Tryz.func197.trans (congrArg some (by kernel_rfl))
 f247:=Tryz.func236.trans (congrArg some (by kernel_rfl))
 f279:=Tryz.func237.trans (congrArg some (by kernel_rfl))
 f280:=Tryz.func238.trans (congrArg some (by kernel_rfl))
 f281:=Tryz.func239.trans (congrArg some (by kernel_rfl))
 f282:=Tryz.func240.trans (congrArg some (by kernel_rfl))
 f283:=Tryz.func229.trans (congrArg some (by kernel_rfl))
 f284:=Tryz.func230.trans (congrArg some (by kernel_rfl))
 f285:=Tryz.func231.trans (congrArg some (by kernel_rfl))
 f286:=Tryz.func232.trans (congrArg some (by kernel_rfl))
 f287:=Tryz.func256.trans (congrArg some (by kernel_rfl))
 f316:=Tryz.func257.trans (congrArg some (by kernel_rfl))
 f317:=Tryz.func251.trans (congrArg some (by kernel_rfl))
 f318:=Tryz.func252.trans (congrArg some (by kernel_rfl))
 f319:=Tryz.func253.trans (congrArg some (by kernel_rfl))
 f320:=Tryz.func254.trans (congrArg some (by kernel_rfl))
 f321:=Tryz.func263.trans (congrArg some (by kernel_rfl))
 f322:=Tryz.func264.trans (congrArg some (by kernel_rfl))
 f337:=Tryz.func261.trans (congrArg some (by kernel_rfl))
 f338:=Tryz.func262.trans (congrArg some (by kernel_rfl))
 t0:=Tryz.underlying0
 a0:=Tryz.isAgg0
 z0:=Tryz.sizeOf0
 v0:=Tryz.zeroValue0
 t2:=Tryz.underlying2
 a2:=Tryz.isAgg2
 z2:=Tryz.sizeOf2
 v2:=Tryz.zeroValue2
 t3:=Tryz.underlying3
 a3:=Tryz.isAgg3
 z3:=Tryz.sizeOf3
 v3:=Tryz.zeroValue3
 t4:=Tryz.underlying4
 a4:=Tryz.isAgg4
 z4:=Tryz.sizeOf4
 v4:=Tryz.zeroValue4
 t5:=Tryz.underlying5
 a5:=Tryz.isAgg5
 z5:=Tryz.sizeOf5
 v5:=Tryz.zeroValue5
 t9:=Tryz.underlying9
 a9:=Tryz.isAgg9
 z9:=Tryz.sizeOf9
 v9:=Tryz.zeroValue9
 t20:=Tryz.underlying20
 a20:=Tryz.isAgg20
 z20:=Tryz.sizeOf20
 v20:=Tryz.zeroValue20
 t21:=Tryz.underlying21
 a21:=Tryz.isAgg21
 z21:=Tryz.sizeOf21
 v21:=Tryz.zeroValue21
 t37:=Tryz.underlying138
 a37:=Tryz.isAgg138
 z37:=Tryz.sizeOf138
 v37:=Tryz.zeroValue138
 t46:=Tryz.underlying188
 a46:=Tryz.isAgg188
 z46:=Tryz.sizeOf188
 v46:=Tryz.zeroValue188
 t51:=Tryz.underlying232
 a51:=Tryz.isAgg232
 z51:=Tryz.sizeOf232
 v51:=Tryz.zeroValue232
 t53:=Tryz.underlying33
 a53:=Tryz.isAgg33
 z53:=Tryz.sizeOf33
 v53:=Tryz.zeroValue33
 t75:=Tryz.underlying38
 a75:=Tryz.isAgg38
 z75:=Tryz.sizeOf38
 v75:=Tryz.zeroValue38
 t76:=Tryz.underlying195
 a76:=Tryz.isAgg195
 z76:=Tryz.sizeOf195
 v76:=Tryz.zeroValue195
 t85:=Tryz.underlying277
 a85:=Tryz.isAgg277
 z85:=Tryz.sizeOf277
 v85:=Tryz.zeroValue277
 t127:=Tryz.underlying239
 a127:=Tryz.isAgg239
 z127:=Tryz.sizeOf239
 v127:=Tryz.zeroValue239
 t143:=Tryz.underlying308
 a143:=Tryz.isAgg308
 z143:=Tryz.sizeOf308
 v143:=Tryz.zeroValue308
 t145:=Tryz.underlying310
 a145:=Tryz.isAgg310
 z145:=Tryz.sizeOf310
 v145:=Tryz.zeroValue310
 t167:=Tryz.underlying276
 a167:=Tryz.isAgg276
 z167:=Tryz.sizeOf276
 v167:=Tryz.zeroValue276
 t168:=Tryz.underlying279
 a168:=Tryz.isAgg279
 z168:=Tryz.sizeOf279
 v168:=Tryz.zeroValue279
 t171:=Tryz.underlying271
 a171:=Tryz.isAgg271
 z171:=Tryz.sizeOf271
 v171:=Tryz.zeroValue271
 t173:=Tryz.underlying273
 a173:=Tryz.isAgg273
 z173:=Tryz.sizeOf273
 v173:=Tryz.zeroValue273
 t175:=Tryz.underlying297
 a175:=Tryz.isAgg297
 z175:=Tryz.sizeOf297
 v175:=Tryz.zeroValue297
 t210:=Tryz.underlying300
 a210:=Tryz.isAgg300
 z210:=Tryz.sizeOf300
 v210:=Tryz.zeroValue300
 t212:=Tryz.underlying294
 a212:=Tryz.isAgg294
 z212:=Tryz.sizeOf294
 v212:=Tryz.zeroValue294
 t213:=Tryz.underlying295
 a213:=Tryz.isAgg295
 z213:=Tryz.sizeOf295
 t232:=Tryz.underlying311
 a232:=Tryz.isAgg311
 z232:=Tryz.sizeOf311
 v232:=Tryz.zeroValue311
 t233:=Tryz.underlying312
 a233:=Tryz.isAgg312
 z233:=Tryz.sizeOf312
 v233:=Tryz.zeroValue312
 g15:=by kernel_rfl
 g16:=by kernel_rfl
 g17:=by kernel_rfl
 g18:=by kernel_rfl
 g19:=by kernel_rfl
 t80:=Tryz.underlying140
 a80:=Tryz.isAgg140
 z80:=Tryz.sizeOf140
 v80:=Tryz.zeroValue140
 i0:=by kernel_rfl
 i2:=by kernel_rfl
 i3:=by kernel_rfl
 i4:=by kernel_rfl
 i5:=by kernel_rfl
 i9:=by kernel_rfl
 i20:=by kernel_rfl
 i21:=by kernel_rfl
 i37:=by kernel_rfl
 i46:=by kernel_rfl
 i51:=by kernel_rfl
 i53:=by kernel_rfl
 i75:=by kernel_rfl
 i76:=by kernel_rfl
 i80:=by kernel_rfl
 i85:=by kernel_rfl
 i127:=by kernel_rfl
 i143:=by kernel_rfl
 i145:=by kernel_rfl
 i167:=by kernel_rfl
 i168:=by kernel_rfl
 i171:=by kernel_rfl
 i173:=by kernel_rfl
 i175:=by kernel_rfl
 i210:=by kernel_rfl
 i212:=by kernel_rfl
 i232:=by kernel_rfl
 i233:=by kernel_rfl
 m15:=by kernel_rfl
 m16:=by kernel_rfl
 m17:=by kernel_rfl
 m18:=by kernel_rfl
 m19:=by kernel_rfl
 c0:=by kernel_rfl
 c2:=by kernel_rfl
 c3:=by kernel_rfl
 c4:=by kernel_rfl
 c5:=by kernel_rfl
 c9:=by kernel_rfl
 c20:=by kernel_rfl
 c21:=by kernel_rfl
 c37:=by kernel_rfl
 c46:=by kernel_rfl
 c51:=by kernel_rfl
 c53:=by kernel_rfl
 c75:=by kernel_rfl
 c76:=by kernel_rfl
 c80:=by kernel_rfl
 c85:=by kernel_rfl
 c127:=by kernel_rfl
 c143:=by kernel_rfl
 c145:=by kernel_rfl
 c167:=by kernel_rfl
 c168:=by kernel_rfl
 c171:=by kernel_rfl
 c173:=by kernel_rfl
 c175:=by kernel_rfl
 c210:=by kernel_rfl
 c212:=by kernel_rfl
 c213:=by kernel_rfl
 c232:=by kernel_rfl
 c233:=by kernel_rfl }
def Tryz.lays99_ren:Go.Shelf.Ren:=⟨fun|99=>198|206=>233|n=>n,fun|9=>9|4=>4|3=>3|n=>n,fun|n=>n⟩
theorem Tryz.lays99:Go.Proofs.Lays.n99 Tryz.prog Tryz.lays99_ren:={
 mixed:=by kernel_rfl
 f99:=Tryz.func198.trans (congrArg some (by kernel_rfl))
 f206:=Tryz.func233.trans (congrArg some (by kernel_rfl))
 t3:=Tryz.underlying3
 a3:=Tryz.isAgg3
 z3:=Tryz.sizeOf3
 v3:=Tryz.zeroValue3
 t4:=Tryz.underlying4
 a4:=Tryz.isAgg4
 z4:=Tryz.sizeOf4
 v4:=Tryz.zeroValue4
 t9:=Tryz.underlying9
 a9:=Tryz.isAgg9
 z9:=Tryz.sizeOf9
 v9:=Tryz.zeroValue9 }
open Go.RowKit in
theorem Tryz.strconv_Atoi (s:ByteArray)(n:Int)(hl:s.size<=18)(h:Lib.atoi s.data.toList=some n)(w:World) :
    Calls Tryz.prog 187 #[.string s] w fun e w'=>e = .returned (.tuple #[.int .i64 n,.nilIface]) /\ ∃t,w'=Lib.bytesWorld w 5 t:=Any.strconv_Atoi Tryz.lays172 s n hl h w
open Go.RowKit Go.Sort Go.Lib in
theorem Tryz.strconv_Itoa (n:Int)(h0 : -9223372036854775808≤n)(h1:n≤9223372036854775807)(w:World)(htab:Lib.TabIs Tryz.prog w "internal/strconv.uint64pow10" .u64 Lib.pow10Tab) :
    Calls Tryz.prog 130 #[.int .i64 n] w fun e w'=>e = .returned (.string ⟨(Lib.itoa n).toArray⟩) /\ ∃k os,w'=grow (w.drewN k) os:=Any.strconv_Itoa Tryz.laysM171 n h0 h1 w htab
open Go.RowKit in
theorem Tryz.strconv_Atoi_err_var (s:ByteArray)(hl:s.size≤18)(h:Lib.atoi s.data.toList=none)(tp:TypeId)(p:Value)(w:World)(hvar:w.var? Tryz.prog "strconv.ErrSyntax" = some #[.iface tp p]) :
    Calls Tryz.prog 187 #[.string s] w fun e w' => ∃N,e = .returned (.tuple #[.int .i64 0,.iface 279 (.pointer (some ⟨N,0,none⟩))])/\w.heap.size<=N/\w'.heap[N]? = some (.cells #[.string ⟨#[65,116,111,105]⟩,.string s,.iface tp p] 300 (0,0))/\Below w.heap.size w w':=Any.strconv_Atoi_err_var Tryz.laysC172 s hl h tp p w hvar
open Go.RowKit Go.Lib in
theorem Tryz.strings_HasPrefix (s p:ByteArray)(w:World) :
    Calls Tryz.prog 198 #[.string s,.string p] w fun e w'=>e = .returned (.bool (Lib.hasPrefix s.data.toList p.data.toList))/\w'=w:=Any.strings_HasPrefix Tryz.lays99 s p w
end Go.Proofs
end
namespace Go.Proofs.YtkbhcbipadkcaaaGreatDoor
set_option linter.unusedVariables false
set_option linter.unusedSimpArgs false
theorem Gx {l:List Held}{p:Place}{id:Int}(hg:Good l)(h:mU l p=0)(hi:id≠0):∃A B,l=A++B/\fP l p id=A++⟨p,id⟩::B:=by
 cases shape l p (jP hg) with
 | hit A B w e hh k ha hb =>
  have hw:w≠0:=(tj hg ⟨p,w⟩ (by rw [e];simp)).2
  rw [at_eq (jP hg),e,ud (fun x hx=>lq (ha x hx))] at h
  exact absurd h hw
 | miss A B e hh k ha hb=>exact ⟨A,B,e,by rw [qY e hh k,if_neg hi]⟩
theorem BH {l:List Held}{p:Place}{w:Int}(hg:Good l)(h:mU l p=w)(hw:w≠0):∃A B,l=A++⟨p,w⟩::B/\fP l p 0=A++B:=by
 cases shape l p (jP hg) with
 | hit A B w' e hh k ha hb =>
  rw [at_eq (jP hg),e,ud (fun x hx=>lq (ha x hx))] at h
  subst h
  exact ⟨A,B,e,by rw [tq e hh k,if_pos rfl]⟩
 | miss A B e hh k ha hb =>
  rw [at_eq (jP hg),e,Dr (fun x hx=>by
   rcases List.mem_append.1 hx with hx|hx
   .exact lq (ha x hx)
   .exact fun e=>lq (hb x hx) e.symm)] at h
  exact absurd h.symm hw
theorem at_mem {l:List Held}{p:Place}{w:Int}(hg:Good l)(h:mU l p=w)(hw:w≠0):(⟨p,w⟩:Held)∈l:=by
 obtain ⟨A,B,e,_⟩:=BH hg h hw
 rw [e];simp
theorem Du {l:List Held}(f:Held->Bool)(hg:Good l):Good (l.filter f) :=
 qX ((jP hg).filter _) (fun x hx=>tj hg x (List.mem_filter.1 hx).1)
def cH (l:List Held)(j:Int):Nat:=l.countP (fun h=>h.aj==j)
def cN (l:List Note)(j:Int):Nat:=l.countP (fun n=>n.aj==j)
theorem BJ {l:List Held}{p:Place}{id:Int}(hg:Good l)(h:mU l p=0)(hi:id≠0)(j:Int):cH (fP l p id) j=cH l j+(if id=j then 1 else 0):=by
 obtain ⟨A,B,e,e2⟩:=Gx hg h hi
 rw [e2,e];unfold cH
 rw [List.countP_append,List.countP_append,List.countP_cons]
 by_cases hj:id=j
 .rw [if_pos (by simpa using hj),if_pos hj];omega
 .rw [if_neg (by simpa using hj),if_neg hj];omega
theorem Qp {l:List Held}{p:Place}{w:Int}(hg:Good l)(h:mU l p=w)(hw:w≠0)(j:Int):cH l j=cH (fP l p 0) j+(if w=j then 1 else 0):=by
 obtain ⟨A,B,e,e2⟩:=BH hg h hw
 rw [e2,e];unfold cH
 rw [List.countP_append,List.countP_append,List.countP_cons]
 by_cases hj:w=j
 .rw [if_pos (by simpa using hj),if_pos hj];omega
 .rw [if_neg (by simpa using hj),if_neg hj];omega
theorem Qq {l:List Held}{x:Held}(h:x∈l):0<cH l x.aj:=List.countP_pos_iff.2 ⟨x,h,by simp⟩
theorem Qr {l:List Note}{x:Note}(h:x∈l):0<cN l x.aj:=List.countP_pos_iff.2 ⟨x,h,by simp⟩
theorem Qs {l:List Note}{i:Nat}{n:Note}(h:l[i]? = some n)(j:Int):cN l j=cN (ub l i) j+(if n.aj=j then 1 else 0):=by
 obtain ⟨hi,rfl⟩:=List.getElem?_eq_some_iff.1 h
 have e:l=l.take i++l[i]::l.drop (i+1):=by rw [<- List.drop_eq_getElem_cons hi,List.take_append_drop]
 unfold ub cN
 conv=>lhs;rw [e]
 rw [List.countP_append,List.countP_append,List.countP_cons]
 by_cases hj:(l[i]).aj=j
 .rw [if_pos (by simpa using hj),if_pos hj];omega
 .rw [if_neg (by simpa using hj),if_neg hj];omega
theorem MZ {l:List Note}{i:Nat}{x:Note}(h:x∈ub l i):x∈l:=by
 unfold ub at h
 rcases List.mem_append.1 h with h|h
 .exact List.mem_of_mem_take h
 .exact List.mem_of_mem_drop h
theorem zP {l:List Note}{i:Nat}(q:Int):gh (ub l i) q<=gh l q:=by
 unfold ub gh
 have h:(l.take i++l.drop (i+1)).Sublist l:=by
  have:=List.Sublist.append (List.Sublist.refl (l.take i)) (List.drop_sublist_drop_left l (Nat.le_succ i))
  rwa [List.take_append_drop] at this
 exact (h.filter _).length_le
theorem k9 {l:List aj}{id:Int}:0<=cG l id ↔ ∃x∈l,x.ID=id:=by
 constructor
 .intro h;obtain ⟨x,_,h2,h3⟩:=Dd l id h;exact ⟨x,h3,h2⟩
 .rintro ⟨x,hx,rfl⟩;exact mb hx
theorem lf {l:List aj}(h:cR l){t:Int}:t∈bT l ↔ ∃w∈l,w.aE=t:=by
 unfold bT
 rw [zI h]
 show t∈kD l 999↔_
 rw [(nf l 999).2]
 simp only [hasT?,List.any_eq_true,beq_iff_eq]
 constructor
 .rintro ⟨_,_,w,hw,e⟩;exact ⟨w,hw,e⟩
 .
  rintro ⟨w,hw,e⟩
  have:=h.mem hw
  have h1:=this.Qf;have h2:=this.Qg
  exact ⟨by omega,by omega,w,hw,e⟩
structure Pre (r:aC):Prop where
  tree:cR r.ak
  good:Good r.Held
  sj:∀w∈r.ak,w.ID<r.ae
  oX:1<=r.ae
  qZ:r.ae<=1000
  pA:1<=r.ah
  pB:r.ah<=1000
  jq:r.Things.Pairwise (fun a b=>a.ID<b.ID)
  vC:∀t∈r.Things,1<=t.ID/\t.ID<r.ah
  jB:∀t∈r.Things,t.Kind=1∨t.Kind=2
  jC:∀t∈r.Things,t.Data.size<=8/\(t.Kind=2->t.Data=⟨#[]⟩)
  jr:r.Things.length<=10
  thing:∀w∈r.ak,∃t∈r.Things,t.ID=w.aE
  port:∀n∈r.Notes,∃t∈r.Things,t.ID=n.Port/\t.Kind=2
  kF:∀n∈r.Notes,n.Data.size<=8/\0<=n.aQ/\n.aQ<=99
  wait:∀q,gh r.Notes q<=3
  jD:∀n∈r.Notes,0<=n.aj
  once:∀w∈r.ak,cH r.Held w.ID+cN r.Notes w.ID=1
structure Inv (r:aC):Prop extends Pre r where
  iy:∀n∈r.Notes,0<n.aj -> ∃w∈r.ak,w.ID=n.aj
  eP:∀h∈r.Held,∃w∈r.ak,w.ID=h.aj
  used:∀t∈r.Things,∃w∈r.ak,w.aE=t.ID
theorem Inv.new:Inv newR:=by
 refine { tree:=rfl,good:=qX List.Pairwise.nil (fun x hx=>by cases hx),sj:=?_,oX:=by decide,qZ:=by decide,pA:=by decide,pB:=by decide,jq:=List.Pairwise.nil,vC:=?_,jB:=?_,jC:=?_,jr:=by decide,thing:=?_,port:=?_,kF:=?_,wait:=fun q=>by simp [gh,newR],jD:=?_,once:=?_,iy:=?_,eP:=?_,used:=?_ } <;> intro x hx <;> cases hx
theorem Pre.ri {r:aC}(h:Pre r):∀w∈r.ak,0<=w.Rights/\w.Rights<=7:=fun w hw=>⟨(h.tree.mem hw).Kx,(h.tree.mem hw).Ky⟩
theorem zQ:∀ (ids:List Int) (l:List aj),cR l->cR (ids.foldl without l)
 | [],l,h=>h
 | i::ids,l,h=>zQ ids _ (h.wo i)
structure Like (y x:aj):Prop where
  id:y.ID=x.ID
  th:y.aE=x.aE
  ri:y.Rights=x.Rights
  ba:y.aQ=x.aQ
theorem Like.refl (x:aj):Like x x:=⟨rfl,rfl,rfl,rfl⟩
theorem Like.trans {x y z:aj}(h:Like x y)(k:Like y z):Like x z:=⟨h.id.trans k.id,h.th.trans k.th,h.ri.trans k.ri,h.ba.trans k.ba⟩
theorem Like.symm {x y:aj}(h:Like x y):Like y x:=⟨h.id.symm,h.th.symm,h.ri.symm,h.ba.symm⟩
theorem vD (id f:Int)(x:aj):Like (mM id f x) x:=by have:=kC (id:=id) (f:=f) x;exact ⟨this.1,this.2.1,this.2.2.1,this.2.2.2⟩
theorem xR:∀ (ids:List Int) (l:List aj) (w:aj),w∈ids.foldl without l->(∃y∈l,Like w y)/\¬ w.ID∈ids
 | [],l,w,h=>⟨⟨w,h,Like.refl w⟩,fun h=>by cases h⟩
 | i::ids,l,w,h=>by
  obtain ⟨⟨y,hy,hl⟩,hn⟩:=xR ids (without l i) w h
  obtain ⟨z,hz,hne,rfl⟩:=gK.1 hy
  refine ⟨⟨z,hz,hl.trans (vD _ _ z)⟩,fun hm=>?_⟩
  rcases List.mem_cons.1 hm with e|hm
  .exact hne (by rw [<- e,hl.id,(kC z).1])
  .exact hn hm
theorem iQ (ws:List aj)(n:Note):(jE ws n).Port=n.Port/\(jE ws n).Data=n.Data/\(jE ws n).aQ=n.aQ/\((jE ws n).aj=n.aj/\0<=cG ws n.aj∨(jE ws n).aj=0):=by
 unfold jE;split
 .exact ⟨rfl,rfl,rfl,.inr rfl⟩
 .exact ⟨rfl,rfl,rfl,.inl ⟨rfl,by omega⟩⟩
theorem tr {ws:List aj}{ts:List Int}{ns:List Note}{n:Note}:n∈ig ws ts ns ↔ ∃m∈ns,n=jE ws m/\m.Port∈ts:=by
 unfold ig
 rw [List.mem_filter,List.mem_map]
 constructor
 .
  rintro ⟨⟨m,hm,rfl⟩,hp⟩
  exact ⟨m,hm,rfl,by have:=of_decide_eq_true hp;rwa [(iQ ws m).1] at this⟩
 .
  rintro ⟨m,hm,rfl,hp⟩
  exact ⟨⟨m,hm,rfl⟩,decide_eq_true (by rw [(iQ ws m).1];exact hp)⟩
theorem Dv {ws:List aj}{ts:List Int}{ns:List Note}{j:Int}:j∈kJ ws ts ns ↔ ∃m∈ns,j=(jE ws m).aj/\¬ m.Port∈ts/\0<j:=by
 unfold kJ
 rw [List.mem_map]
 constructor
 .
  rintro ⟨n,hn,rfl⟩
  obtain ⟨h1,h2⟩:=List.mem_filter.1 hn
  obtain ⟨m,hm,rfl⟩:=List.mem_map.1 h1
  simp only [Bool.and_eq_true,Bool.not_eq_true',decide_eq_false_iff_not,decide_eq_true_eq] at h2
  exact ⟨m,hm,rfl,by rw [<- (iQ ws m).1];exact h2.1,h2.2⟩
 .
  rintro ⟨m,hm,rfl,hp,h0⟩
  refine ⟨jE ws m,List.mem_filter.2 ⟨List.mem_map.2 ⟨m,hm,rfl⟩,?_⟩,rfl⟩
  simp only [Bool.and_eq_true,Bool.not_eq_true',decide_eq_false_iff_not,decide_eq_true_eq]
  exact ⟨by rw [(iQ ws m).1];exact hp,h0⟩
theorem uf (ws:List aj)(ts:List Int)(m:Note)(ns:List Note):ig ws ts (m::ns)=if m.Port∈ts then jE ws m::ig ws ts ns else ig ws ts ns:=by
 unfold ig
 rw [List.map_cons,List.filter_cons,(iQ ws m).1]
 by_cases h:m.Port∈ts
 .rw [if_pos (decide_eq_true h),if_pos h]
 .rw [if_neg (by simpa using h),if_neg h]
theorem xS {ws:List aj}{ts:List Int}{j:Int}(hj:0<=cG ws j)(h0:0<j):∀ (ns:List Note),(∀n∈ns,n.aj=j->n.Port∈ts)->cN (ig ws ts ns) j=cN ns j
 | [],_=>rfl
 | m::ns,hl=>by
  have ih:=xS hj h0 ns (fun n hn=>hl n (List.mem_cons_of_mem _ hn))
  have hf:=iQ ws m
  rw [uf]
  unfold cN at ih ⊢
  by_cases e:m.aj=j
  .
   have hfm:(jE ws m).aj=j:=by
    rcases hf.2.2.2 with ⟨h1,_⟩ | h1
    .omega
    .unfold jE at h1 ⊢;rw [if_neg (by rw [e];omega)];exact e
   rw [if_pos (hl m (List.mem_cons_self ..) e),List.countP_cons,List.countP_cons,if_pos (by simpa using hfm),if_pos (by simpa using e),ih]
  .
   have hfm:¬ (jE ws m).aj=j:=by rcases hf.2.2.2 with ⟨h1,_⟩ | h1 <;> omega
   split
   .rw [List.countP_cons,List.countP_cons,if_neg (by simpa using hfm),if_neg (by simpa using e),ih]
   .rw [List.countP_cons,if_neg (by simpa using e),ih];rfl
theorem zR (ws:List aj)(ts:List Int)(q:Int):∀ (ns:List Note),gh (ig ws ts ns) q<=gh ns q
 | []=>Nat.le_refl _
 | m::ns=>by
  have ih:=zR ws ts q ns
  have hf:=iQ ws m
  rw [uf]
  unfold gh at ih ⊢
  have e:(jE ws m).Port=m.Port:=hf.1
  split
  .rw [List.filter_cons,List.filter_cons,e];split <;> simp <;> omega
  .rw [List.filter_cons];split <;> simp <;> omega
def sw (r:aC)(ids:List Int):aC:=⟨ids.foldl without r.ak,(fJ r).Things,(fJ r).Held,(fJ r).Notes,r.ae,r.ah⟩
theorem lX {r:aC}{t:aE}:t∈(fJ r).Things↔t∈r.Things/\t.ID∈bT r.ak:=by
 show t∈r.Things.filter _↔_
 rw [List.mem_filter];simp
theorem vE {r:aC}{h:Held}:h∈(fJ r).Held↔h∈r.Held /\ ∃w∈r.ak,w.ID=h.aj:=by
 show h∈r.Held.filter _↔_
 rw [List.mem_filter,<- k9];simp
theorem Pre.sw {r:aC}(h:Pre r){ids:List Int}(hl:∀j∈po r,j∈ids):Pre (YtkbhcbipadkcaaaGreatDoor.sw r ids):=by
 have hsub:∀w∈ids.foldl without r.ak,(∃y∈r.ak,Like w y)/\¬ w.ID∈ids:=fun w hw=>xR ids r.ak w hw
 have zS:∀n∈(fJ r).Notes,∃m∈r.Notes,n=jE r.ak m/\m.Port∈bT r.ak:=fun n hn=>tr.1 hn
 refine { tree:=zQ ids _ h.tree,good:=Du _ h.good,sj:=?_,oX:=h.oX,qZ:=h.qZ,pA:=h.pA,pB:=h.pB,jq:=h.jq.filter _,vC:=fun t ht=>h.vC t (lX.1 ht).1,jB:=fun t ht=>h.jB t (lX.1 ht).1,jC:=fun t ht=>h.jC t (lX.1 ht).1,jr:=Nat.le_trans (List.length_filter_le _ _) h.jr,thing:=?_,port:=?_,kF:=?_,wait:=fun q=>Nat.le_trans (zR _ _ q _) (h.wait q),jD:=?_,once:=?_ }
 .
  intro w hw
  obtain ⟨⟨y,hy,hk⟩,_⟩:=hsub w hw
  rw [hk.id];exact h.sj y hy
 .
  intro w hw
  obtain ⟨⟨y,hy,hk⟩,_⟩:=hsub w hw
  obtain ⟨t,ht,e⟩:=h.thing y hy
  exact ⟨t,lX.2 ⟨ht,(lf h.tree).2 ⟨y,hy,e.symm⟩⟩,by rw [e,hk.th]⟩
 .
  intro n hn
  obtain ⟨m,hm,rfl,hp⟩:=zS n hn
  obtain ⟨t,ht,e,hk⟩:=h.port m hm
  exact ⟨t,lX.2 ⟨ht,by rw [e];exact hp⟩,by rw [(iQ _ m).1];exact e,hk⟩
 .
  intro n hn
  obtain ⟨m,hm,rfl,hp⟩:=zS n hn
  rw [(iQ _ m).2.1,(iQ _ m).2.2.1];exact h.kF m hm
 .
  intro n hn
  obtain ⟨m,hm,rfl,hp⟩:=zS n hn
  have:=h.jD m hm
  rcases (iQ r.ak m).2.2.2 with ⟨e,_⟩ | e <;> omega
 .
  intro w hw
  obtain ⟨⟨y,hy,hk⟩,hn⟩:=hsub w hw
  have VR:0<=cG r.ak w.ID:=k9.2 ⟨y,hy,hk.id.symm⟩
  have h0:0<w.ID:=by have:=(h.tree.mem hy).id1;rw [hk.id];omega
  have h1:cH (fJ r).Held w.ID=cH r.Held w.ID:=by
   show List.countP _ (r.Held.filter _)=List.countP _ r.Held
   rw [List.countP_filter]
   refine List.countP_congr fun x _=>?_
   simp only [Bool.and_eq_true,beq_iff_eq,Bool.not_eq_true',decide_eq_false_iff_not]
   exact ⟨fun h=>h.1,fun e=>⟨e,by rw [e];omega⟩⟩
  have h2:cN (fJ r).Notes w.ID=cN r.Notes w.ID:=xS VR h0 r.Notes (fun n hnn e=>by
   by_cases hp:n.Port∈bT r.ak
   .exact hp
   .
    refine absurd (hl w.ID (Dv.2 ⟨n,hnn,?_,hp,h0⟩)) hn
    rw [jE,if_neg (by rw [e];omega)];exact e.symm)
  show cH (fJ r).Held w.ID+cN (fJ r).Notes w.ID=1
  rw [h1,h2,hk.id];exact h.once y hy
theorem Fc {r:aC}(h:Pre r)(hl:(po r).length=0):Inv (fJ r):=by
 have h1:Pre (fJ r):=h.sw (ids:=[]) (fun j hj=>by rw [List.length_eq_zero_iff.1 hl] at hj;exact hj)
 refine { toPre:=h1,iy:=?_,eP:=fun x hx=>(vE.1 hx).2,used:=fun t ht=>(lf h.tree).1 (lX.1 ht).2 }
 intro n hn h0
 obtain ⟨m,hm,rfl,hp⟩:=tr.1 hn
 rcases (iQ r.ak m).2.2.2 with ⟨e,hf⟩ | e
 .rw [e];exact k9.1 hf
 .omega
theorem uQ:∀ (n:Nat) (r:aC),r.Notes.length<n->Pre r->Inv (gV n r)
 | 0,r,h,_=>by omega
 | n+1,r,h,hp=>by
  unfold gV;split
  .exact Fc hp (by assumption)
  .
   have:=oS (r:=r) (by assumption)
   exact uQ n _ (by omega) (hp.sw (ids:=po r) (fun j hj=>hj))
theorem ug {r:aC}(h:Pre r):Inv (dR r):=uQ _ r (Nat.lt_succ_self _) h
theorem uR:∀ (n:Nat) (r:aC),(∀x∈(gV n r).Held,x∈r.Held)/\(∀v∈(gV n r).ak,∃w∈r.ak,Like v w)/\(∀t∈(gV n r).Things,t∈r.Things)/\(∀m∈(gV n r).Notes,∃k∈r.Notes,m.Port=k.Port/\m.Data=k.Data/\m.aQ=k.aQ/\(m.aj=k.aj∨m.aj=0))
 | 0,r=>⟨fun x hx=>(vE.1 hx).1,fun v hv=>⟨v,hv,Like.refl v⟩,fun t ht=>(lX.1 ht).1,fun m hm=>by
  obtain ⟨k,hk,rfl,_⟩:=tr.1 hm
  have:=iQ r.ak k
  exact ⟨k,hk,this.1,this.2.1,this.2.2.1,this.2.2.2.imp (fun h=>h.1) id⟩⟩
 | n+1,r=>by
  have hs:∀m∈(fJ r).Notes,∃k∈r.Notes,m.Port=k.Port/\m.Data=k.Data/\m.aQ=k.aQ/\(m.aj=k.aj∨m.aj=0):=fun m hm=>by
   obtain ⟨k,hk,rfl,_⟩:=tr.1 hm
   have:=iQ r.ak k
   exact ⟨k,hk,this.1,this.2.1,this.2.2.1,this.2.2.2.imp (fun h=>h.1) id⟩
  unfold gV;split
  .exact ⟨fun x hx=>(vE.1 hx).1,fun v hv=>⟨v,hv,Like.refl v⟩,fun t ht=>(lX.1 ht).1,hs⟩
  .
   obtain ⟨h1,h2,h3,h4⟩:=uR n (nA r)
   refine ⟨fun x hx=>(vE.1 (h1 x hx)).1,fun v hv=>?_,fun t ht=>(lX.1 (h3 t ht)).1,fun m hm=>?_⟩
   .
    obtain ⟨w,hw,hl⟩:=h2 v hv
    obtain ⟨⟨y,hy,hl2⟩,_⟩:=xR _ _ w hw
    exact ⟨y,hy,hl.trans hl2⟩
   .
    obtain ⟨k,hk,a,b,c,d⟩:=h4 m hm
    obtain ⟨k',hk',a',b',c',d'⟩:=hs k hk
    exact ⟨k',hk',a.trans a',b.trans b',c.trans c',by rcases d with d|d <;> rcases d' with d'|d' <;> first|(left;omega)|(right;omega)⟩
theorem zT (r:aC):(∀x∈(dR r).Held,x∈r.Held)/\(∀v∈(dR r).ak,∃w∈r.ak,Like v w)/\(∀t∈(dR r).Things,t∈r.Things)/\(∀m∈(dR r).Notes,∃k∈r.Notes,m.Port=k.Port/\m.Data=k.Data/\m.aQ=k.aQ/\(m.aj=k.aj∨m.aj=0)):=uR _ r
end Go.Proofs.YtkbhcbipadkcaaaGreatDoor
