import Derived.Test.YtnmpibjlnninjaaGreatDoorCT21
import Derived.Lib.AppendIntMem
import Derived.Lib.AtoiBound
import Derived.Lib.ItoaLen
namespace Go.Proofs.YtnmpibjlnninjaaGreatDoor
set_option linter.unusedVariables false
set_option linter.unusedSimpArgs false
set_option maxRecDepth 100000
set_option maxHeartbeats 90000000
section
open Go Go.RowKit
set_option linter.unusedSectionVars false
end
section
open Go Go.RowKit
attribute [local irreducible] Run Rg Rq Qt Qa Stp Dg Do Dm bQ
theorem BA (err:Int)(f:Int)(w:World)(h0:0<=err):Calls Tryz.prog 14 #[bQ err,iV f] w fun e w'=>e = .returned (.bool (decide (err=f)))/\Ext w w':=by
 refine R.eV ?_
 refine C (err=0) ?_ ?_ <;> intro h1
 .
  refine C (f=0) ?_ ?_ <;> intro h2
  .
   refine R.rt ?_
   (exact (decide_eq_true ae).symm)
  refine R.rt ?_
  (exact (decide_eq_false ae).symm)
 refine R.q (q.Yc O ae Tryz.underlying95) O<|U ?_
 refine C (0<f) ?_ ?_ <;> intro h3
 .
  refine C (err=f) ?_ ?_ <;> intro h4
  .
   refine R.rt ?_
   (exact (decide_eq_true ae).symm)
  refine R.rt ?_
  (exact (decide_eq_false ae).symm)
 refine R.rt ?_
 (exact (decide_eq_false ae).symm)
end
section
open Go Go.RowKit
attribute [local irreducible] Run Rg Rq Qt Qa Stp Dg Do Dm bQ
section
attribute [local irreducible] cG aI
end
end
end Go.Proofs.YtnmpibjlnninjaaGreatDoor
section
set_option maxRecDepth 100000
namespace Go.Proofs
open Go.Shelf
def Tryz.lays172_ren:Go.Shelf.Ren:=⟨fun|172=>197|244=>237|245=>238|247=>268|279=>269|280=>270|281=>271|282=>272|287=>300|316=>301|171=>124|205=>302|321=>313|322=>314|243=>191|246=>230|283=>261|284=>262|285=>263|286=>264|129=>249|317=>295|318=>296|319=>297|320=>298|337=>311|338=>312|n=>n,fun|9=>9|3=>3|75=>38|76=>190|4=>4|5=>5|167=>297|37=>137|0=>0|85=>298|2=>2|168=>300|53=>33|175=>322|46=>183|210=>325|127=>244|145=>342|143=>340|21=>21|171=>292|173=>294|212=>318|51=>236|20=>20|213=>319|232=>344|233=>345|80=>139|n=>n,fun|15=>2|16=>3|17=>1|18=>6|19=>7|n=>n⟩
theorem Tryz.lays172:Go.Proofs.Lays.n172 Tryz.prog Tryz.lays172_ren:={
 mixed:=by kernel_rfl
 f129:=Tryz.func249.trans (congrArg some (by kernel_rfl))
 f171:=Tryz.func124.trans (congrArg some (by kernel_rfl))
 f172:=Tryz.func197.trans (congrArg some (by kernel_rfl))
 f205:=Tryz.func302.trans (congrArg some (by kernel_rfl))
 f243:=Tryz.func191.trans (congrArg some (by kernel_rfl))
 f244:=Tryz.func237.trans (congrArg some (by kernel_rfl))
 f245:=Tryz.func238.trans (congrArg some (by kernel_rfl))
 f246:=Tryz.func230.trans (congrArg some (by kernel_rfl))
 f247:=Tryz.func268.trans (congrArg some (by kernel_rfl))
 f279:=Tryz.func269.trans (congrArg some (by kernel_rfl))
 f280:=Tryz.func270.trans (congrArg some (by kernel_rfl))
 f281:=Tryz.func271.trans (congrArg some (by kernel_rfl))
 f282:=Tryz.func272.trans (congrArg some (by kernel_rfl))
 f283:=Tryz.func261.trans (congrArg some (by kernel_rfl))
 f284:=Tryz.func262.trans (congrArg some (by kernel_rfl))
 f285:=Tryz.func263.trans (congrArg some (by kernel_rfl))
 f286:=Tryz.func264.trans (congrArg some (by kernel_rfl))
 f287:=Tryz.func300.trans (congrArg some (by kernel_rfl))
 f316:=Tryz.func301.trans (congrArg some (by kernel_rfl))
 f317:=Tryz.func295.trans (congrArg some (by kernel_rfl))
 f318:=Tryz.func296.trans (congrArg some (by kernel_rfl))
 f319:=Tryz.func297.trans (congrArg some (by kernel_rfl))
 f320:=Tryz.func298.trans (congrArg some (by kernel_rfl))
 f321:=Tryz.func313.trans (congrArg some (by kernel_rfl))
 f322:=Tryz.func314.trans (congrArg some (by kernel_rfl))
 f337:=Tryz.func311.trans (congrArg some (by kernel_rfl))
 f338:=Tryz.func312.trans (congrArg some (by kernel_rfl))
 t0:=Tryz.underlying0
 a0:=Tryz.isAgg0
 z0:=Tryz.sizeOf0
 v0:=Tryz.zeroValue0
 t2:=Tryz.underlying2
 a2:=Tryz.isAgg2
 z2:=Tryz.sizeOf2
 v2:=Tryz.zeroValue2
 t3:=Tryz.underlying3
 a3:=Tryz.isAgg3
 z3:=Tryz.sizeOf3
 v3:=Tryz.zeroValue3
 t4:=Tryz.underlying4
 a4:=Tryz.isAgg4
 z4:=Tryz.sizeOf4
 v4:=Tryz.zeroValue4
 t5:=Tryz.underlying5
 a5:=Tryz.isAgg5
 z5:=Tryz.sizeOf5
 v5:=Tryz.zeroValue5
 t9:=Tryz.underlying9
 a9:=Tryz.isAgg9
 z9:=Tryz.sizeOf9
 v9:=Tryz.zeroValue9
 t20:=Tryz.underlying20
 a20:=Tryz.isAgg20
 z20:=Tryz.sizeOf20
 v20:=Tryz.zeroValue20
 t21:=Tryz.underlying21
 a21:=Tryz.isAgg21
 z21:=Tryz.sizeOf21
 v21:=Tryz.zeroValue21
 t37:=Tryz.underlying137
 a37:=Tryz.isAgg137
 z37:=Tryz.sizeOf137
 v37:=Tryz.zeroValue137
 t46:=Tryz.underlying183
 a46:=Tryz.isAgg183
 z46:=Tryz.sizeOf183
 v46:=Tryz.zeroValue183
 t51:=Tryz.underlying236
 a51:=Tryz.isAgg236
 z51:=Tryz.sizeOf236
 v51:=Tryz.zeroValue236
 t53:=Tryz.underlying33
 a53:=Tryz.isAgg33
 z53:=Tryz.sizeOf33
 v53:=Tryz.zeroValue33
 t75:=Tryz.underlying38
 a75:=Tryz.isAgg38
 z75:=Tryz.sizeOf38
 v75:=Tryz.zeroValue38
 t76:=Tryz.underlying190
 a76:=Tryz.isAgg190
 z76:=Tryz.sizeOf190
 v76:=Tryz.zeroValue190
 t85:=Tryz.underlying298
 a85:=Tryz.isAgg298
 z85:=Tryz.sizeOf298
 v85:=Tryz.zeroValue298
 t127:=Tryz.underlying244
 a127:=Tryz.isAgg244
 z127:=Tryz.sizeOf244
 v127:=Tryz.zeroValue244
 t143:=Tryz.underlying340
 a143:=Tryz.isAgg340
 z143:=Tryz.sizeOf340
 v143:=Tryz.zeroValue340
 t145:=Tryz.underlying342
 a145:=Tryz.isAgg342
 z145:=Tryz.sizeOf342
 v145:=Tryz.zeroValue342
 t167:=Tryz.underlying297
 a167:=Tryz.isAgg297
 z167:=Tryz.sizeOf297
 v167:=Tryz.zeroValue297
 t168:=Tryz.underlying300
 a168:=Tryz.isAgg300
 z168:=Tryz.sizeOf300
 v168:=Tryz.zeroValue300
 t171:=Tryz.underlying292
 a171:=Tryz.isAgg292
 z171:=Tryz.sizeOf292
 v171:=Tryz.zeroValue292
 t173:=Tryz.underlying294
 a173:=Tryz.isAgg294
 z173:=Tryz.sizeOf294
 v173:=Tryz.zeroValue294
 t175:=Tryz.underlying322
 a175:=Tryz.isAgg322
 z175:=Tryz.sizeOf322
 v175:=Tryz.zeroValue322
 t210:=Tryz.underlying325
 a210:=Tryz.isAgg325
 z210:=Tryz.sizeOf325
 v210:=Tryz.zeroValue325
 t212:=Tryz.underlying318
 a212:=Tryz.isAgg318
 z212:=Tryz.sizeOf318
 v212:=Tryz.zeroValue318
 t213:=Tryz.underlying319
 a213:=Tryz.isAgg319
 z213:=Tryz.sizeOf319
 t232:=Tryz.underlying344
 a232:=Tryz.isAgg344
 z232:=Tryz.sizeOf344
 v232:=Tryz.zeroValue344
 t233:=Tryz.underlying345
 a233:=Tryz.isAgg345
 z233:=Tryz.sizeOf345
 v233:=Tryz.zeroValue345
 g15:=by kernel_rfl
 g16:=by kernel_rfl
 g17:=by kernel_rfl
 g18:=by kernel_rfl
 g19:=by kernel_rfl}
def Tryz.laysM171_ren:Go.Shelf.Ren:=⟨fun|171=>124|243=>191|246=>230|283=>261|284=>262|285=>263|286=>264|129=>249|317=>295|318=>296|319=>297|320=>298|337=>311|338=>312|n=>n,fun|3=>3|9=>9|2=>2|4=>4|171=>292|0=>0|53=>33|37=>137|5=>5|173=>294|212=>318|51=>236|20=>20|213=>319|46=>183|232=>344|233=>345|n=>n,fun|17=>1|18=>6|19=>7|n=>n⟩
theorem Tryz.laysM171:Go.Proofs.LaysM.n171 Tryz.prog Tryz.laysM171_ren:={
 mixed:=by kernel_rfl
 f129:=Tryz.func249.trans (congrArg some (by kernel_rfl))
 f171:=Tryz.func124.trans (congrArg some (by kernel_rfl))
 f243:=Tryz.func191.trans (congrArg some (by kernel_rfl))
 f246:=Tryz.func230.trans (congrArg some (by kernel_rfl))
 f283:=Tryz.func261.trans (congrArg some (by kernel_rfl))
 f284:=Tryz.func262.trans (congrArg some (by kernel_rfl))
 f285:=Tryz.func263.trans (congrArg some (by kernel_rfl))
 f286:=Tryz.func264.trans (congrArg some (by kernel_rfl))
 f317:=Tryz.func295.trans (congrArg some (by kernel_rfl))
 f318:=Tryz.func296.trans (congrArg some (by kernel_rfl))
 f319:=Tryz.func297.trans (congrArg some (by kernel_rfl))
 f320:=Tryz.func298.trans (congrArg some (by kernel_rfl))
 f337:=Tryz.func311.trans (congrArg some (by kernel_rfl))
 f338:=Tryz.func312.trans (congrArg some (by kernel_rfl))
 t0:=Tryz.underlying0
 a0:=Tryz.isAgg0
 z0:=Tryz.sizeOf0
 v0:=Tryz.zeroValue0
 t2:=Tryz.underlying2
 a2:=Tryz.isAgg2
 z2:=Tryz.sizeOf2
 v2:=Tryz.zeroValue2
 t3:=Tryz.underlying3
 a3:=Tryz.isAgg3
 z3:=Tryz.sizeOf3
 v3:=Tryz.zeroValue3
 t4:=Tryz.underlying4
 a4:=Tryz.isAgg4
 z4:=Tryz.sizeOf4
 v4:=Tryz.zeroValue4
 t5:=Tryz.underlying5
 a5:=Tryz.isAgg5
 z5:=Tryz.sizeOf5
 v5:=Tryz.zeroValue5
 t9:=Tryz.underlying9
 a9:=Tryz.isAgg9
 z9:=Tryz.sizeOf9
 v9:=Tryz.zeroValue9
 t20:=Tryz.underlying20
 a20:=Tryz.isAgg20
 z20:=Tryz.sizeOf20
 v20:=Tryz.zeroValue20
 t37:=Tryz.underlying137
 a37:=Tryz.isAgg137
 z37:=Tryz.sizeOf137
 v37:=Tryz.zeroValue137
 t46:=Tryz.underlying183
 a46:=Tryz.isAgg183
 z46:=Tryz.sizeOf183
 v46:=Tryz.zeroValue183
 t51:=Tryz.underlying236
 a51:=Tryz.isAgg236
 z51:=Tryz.sizeOf236
 v51:=Tryz.zeroValue236
 t53:=Tryz.underlying33
 a53:=Tryz.isAgg33
 z53:=Tryz.sizeOf33
 v53:=Tryz.zeroValue33
 t171:=Tryz.underlying292
 a171:=Tryz.isAgg292
 z171:=Tryz.sizeOf292
 v171:=Tryz.zeroValue292
 t173:=Tryz.underlying294
 a173:=Tryz.isAgg294
 z173:=Tryz.sizeOf294
 v173:=Tryz.zeroValue294
 t212:=Tryz.underlying318
 a212:=Tryz.isAgg318
 z212:=Tryz.sizeOf318
 v212:=Tryz.zeroValue318
 t213:=Tryz.underlying319
 a213:=Tryz.isAgg319
 z213:=Tryz.sizeOf319
 t232:=Tryz.underlying344
 a232:=Tryz.isAgg344
 z232:=Tryz.sizeOf344
 v232:=Tryz.zeroValue344
 t233:=Tryz.underlying345
 a233:=Tryz.isAgg345
 z233:=Tryz.sizeOf345
 v233:=Tryz.zeroValue345
 g17:=by kernel_rfl
 g18:=by kernel_rfl
 g19:=by kernel_rfl
 i0:=by kernel_rfl
 i2:=by kernel_rfl
 i3:=by kernel_rfl
 i4:=by kernel_rfl
 i5:=by kernel_rfl
 i9:=by kernel_rfl
 i20:=by kernel_rfl
 i37:=by kernel_rfl
 i46:=by kernel_rfl
 i51:=by kernel_rfl
 i53:=by kernel_rfl
 i171:=by kernel_rfl
 i173:=by kernel_rfl
 i212:=by kernel_rfl
 i232:=by kernel_rfl
 i233:=by kernel_rfl
 m17:=by kernel_rfl
 m18:=by kernel_rfl
 m19:=by kernel_rfl}
def Tryz.laysC172_ren:Go.Shelf.Ren:=⟨fun|172=>197|244=>237|245=>238|247=>268|279=>269|280=>270|281=>271|282=>272|287=>300|316=>301|171=>124|205=>302|321=>313|322=>314|243=>191|246=>230|283=>261|284=>262|285=>263|286=>264|129=>249|317=>295|318=>296|319=>297|320=>298|337=>311|338=>312|n=>n,fun|9=>9|3=>3|75=>38|76=>190|4=>4|5=>5|167=>297|37=>137|0=>0|85=>298|2=>2|168=>300|53=>33|175=>322|46=>183|210=>325|127=>244|145=>342|143=>340|21=>21|171=>292|173=>294|212=>318|51=>236|20=>20|213=>319|232=>344|233=>345|80=>139|n=>n,fun|15=>2|16=>3|17=>1|18=>6|19=>7|n=>n⟩
theorem Tryz.laysC172:Go.Proofs.LaysC.n172 Tryz.prog Tryz.laysC172_ren:={
 mixed:=by kernel_rfl
 f129:=Tryz.func249.trans (congrArg some (by kernel_rfl))
 f171:=Tryz.func124.trans (congrArg some (by kernel_rfl))
 f172:=Tryz.func197.trans (congrArg some (by kernel_rfl))
 f205:=Tryz.func302.trans (congrArg some (by kernel_rfl))
 f243:=Tryz.func191.trans (congrArg some (by kernel_rfl))
 f244:=Tryz.func237.trans (congrArg some (by kernel_rfl))
 f245:=Tryz.func238.trans (congrArg some (by kernel_rfl))
 f246:=Tryz.func230.trans (congrArg some (by kernel_rfl))
 f247:=Tryz.func268.trans (congrArg some (by kernel_rfl))
 f279:=Tryz.func269.trans (congrArg some (by kernel_rfl))
 f280:=Tryz.func270.trans (congrArg some (by kernel_rfl))
 f281:=Tryz.func271.trans (congrArg some (by kernel_rfl))
 f282:=Tryz.func272.trans (congrArg some (by kernel_rfl))
 f283:=Tryz.func261.trans (congrArg some (by kernel_rfl))
 f284:=Tryz.func262.trans (congrArg some (by kernel_rfl))
 f285:=Tryz.func263.trans (congrArg some (by kernel_rfl))
 f286:=Tryz.func264.trans (congrArg some (by kernel_rfl))
 f287:=Tryz.func300.trans (congrArg some (by kernel_rfl))
 f316:=Tryz.func301.trans (congrArg some (by kernel_rfl))
 f317:=Tryz.func295.trans (congrArg some (by kernel_rfl))
 f318:=Tryz.func296.trans (congrArg some (by kernel_rfl))
 f319:=Tryz.func297.trans (congrArg some (by kernel_rfl))
 f320:=Tryz.func298.trans (congrArg some (by kernel_rfl))
 f321:=Tryz.func313.trans (congrArg some (by kernel_rfl))
 f322:=Tryz.func314.trans (congrArg some (by kernel_rfl))
 f337:=Tryz.func311.trans (congrArg some (by kernel_rfl))
 f338:=Tryz.func312.trans (congrArg some (by kernel_rfl))
 t0:=Tryz.underlying0
 a0:=Tryz.isAgg0
 z0:=Tryz.sizeOf0
 v0:=Tryz.zeroValue0
 t2:=Tryz.underlying2
 a2:=Tryz.isAgg2
 z2:=Tryz.sizeOf2
 v2:=Tryz.zeroValue2
 t3:=Tryz.underlying3
 a3:=Tryz.isAgg3
 z3:=Tryz.sizeOf3
 v3:=Tryz.zeroValue3
 t4:=Tryz.underlying4
 a4:=Tryz.isAgg4
 z4:=Tryz.sizeOf4
 v4:=Tryz.zeroValue4
 t5:=Tryz.underlying5
 a5:=Tryz.isAgg5
 z5:=Tryz.sizeOf5
 v5:=Tryz.zeroValue5
 t9:=Tryz.underlying9
 a9:=Tryz.isAgg9
 z9:=Tryz.sizeOf9
 v9:=Tryz.zeroValue9
 t20:=Tryz.underlying20
 a20:=Tryz.isAgg20
 z20:=Tryz.sizeOf20
 v20:=Tryz.zeroValue20
 t21:=Tryz.underlying21
 a21:=Tryz.isAgg21
 z21:=Tryz.sizeOf21
 v21:=Tryz.zeroValue21
 t37:=Tryz.underlying137
 a37:=Tryz.isAgg137
 z37:=Tryz.sizeOf137
 v37:=Tryz.zeroValue137
 t46:=Tryz.underlying183
 a46:=Tryz.isAgg183
 z46:=Tryz.sizeOf183
 v46:=Tryz.zeroValue183
 t51:=Tryz.underlying236
 a51:=Tryz.isAgg236
 z51:=Tryz.sizeOf236
 v51:=Tryz.zeroValue236
 t53:=Tryz.underlying33
 a53:=Tryz.isAgg33
 z53:=Tryz.sizeOf33
 v53:=Tryz.zeroValue33
 t75:=Tryz.underlying38
 a75:=Tryz.isAgg38
 z75:=Tryz.sizeOf38
 v75:=Tryz.zeroValue38
 t76:=Tryz.underlying190
 a76:=Tryz.isAgg190
 z76:=Tryz.sizeOf190
 v76:=Tryz.zeroValue190
 t85:=Tryz.underlying298
 a85:=Tryz.isAgg298
 z85:=Tryz.sizeOf298
 v85:=Tryz.zeroValue298
 t127:=Tryz.underlying244
 a127:=Tryz.isAgg244
 z127:=Tryz.sizeOf244
 v127:=Tryz.zeroValue244
 t143:=Tryz.underlying340
 a143:=Tryz.isAgg340
 z143:=Tryz.sizeOf340
 v143:=Tryz.zeroValue340
 t145:=Tryz.underlying342
 a145:=Tryz.isAgg342
 z145:=Tryz.sizeOf342
 v145:=Tryz.zeroValue342
 t167:=Tryz.underlying297
 a167:=Tryz.isAgg297
 z167:=Tryz.sizeOf297
 v167:=Tryz.zeroValue297
 t168:=Tryz.underlying300
 a168:=Tryz.isAgg300
 z168:=Tryz.sizeOf300
 v168:=Tryz.zeroValue300
 t171:=Tryz.underlying292
 a171:=Tryz.isAgg292
 z171:=Tryz.sizeOf292
 v171:=Tryz.zeroValue292
 t173:=Tryz.underlying294
 a173:=Tryz.isAgg294
 z173:=Tryz.sizeOf294
 v173:=Tryz.zeroValue294
 t175:=Tryz.underlying322
 a175:=Tryz.isAgg322
 z175:=Tryz.sizeOf322
 v175:=Tryz.zeroValue322
 t210:=Tryz.underlying325
 a210:=Tryz.isAgg325
 z210:=Tryz.sizeOf325
 v210:=Tryz.zeroValue325
 t212:=Tryz.underlying318
 a212:=Tryz.isAgg318
 z212:=Tryz.sizeOf318
 v212:=Tryz.zeroValue318
 t213:=Tryz.underlying319
 a213:=Tryz.isAgg319
 z213:=Tryz.sizeOf319
 t232:=Tryz.underlying344
 a232:=Tryz.isAgg344
 z232:=Tryz.sizeOf344
 v232:=Tryz.zeroValue344
 t233:=Tryz.underlying345
 a233:=Tryz.isAgg345
 z233:=Tryz.sizeOf345
 v233:=Tryz.zeroValue345
 g15:=by kernel_rfl
 g16:=by kernel_rfl
 g17:=by kernel_rfl
 g18:=by kernel_rfl
 g19:=by kernel_rfl
 t80:=Tryz.underlying139
 a80:=Tryz.isAgg139
 z80:=Tryz.sizeOf139
 v80:=Tryz.zeroValue139
 i0:=by kernel_rfl
 i2:=by kernel_rfl
 i3:=by kernel_rfl
 i4:=by kernel_rfl
 i5:=by kernel_rfl
 i9:=by kernel_rfl
 i20:=by kernel_rfl
 i21:=by kernel_rfl
 i37:=by kernel_rfl
 i46:=by kernel_rfl
 i51:=by kernel_rfl
 i53:=by kernel_rfl
 i75:=by kernel_rfl
 i76:=by kernel_rfl
 i80:=by kernel_rfl
 i85:=by kernel_rfl
 i127:=by kernel_rfl
 i143:=by kernel_rfl
 i145:=by kernel_rfl
 i167:=by kernel_rfl
 i168:=by kernel_rfl
 i171:=by kernel_rfl
 i173:=by kernel_rfl
 i175:=by kernel_rfl
 i210:=by kernel_rfl
 i212:=by kernel_rfl
 i232:=by kernel_rfl
 i233:=by kernel_rfl
 m15:=by kernel_rfl
 m16:=by kernel_rfl
 m17:=by kernel_rfl
 m18:=by kernel_rfl
 m19:=by kernel_rfl
 c0:=by kernel_rfl
 c2:=by kernel_rfl
 c3:=by kernel_rfl
 c4:=by kernel_rfl
 c5:=by kernel_rfl
 c9:=by kernel_rfl
 c20:=by kernel_rfl
 c21:=by kernel_rfl
 c37:=by kernel_rfl
 c46:=by kernel_rfl
 c51:=by kernel_rfl
 c53:=by kernel_rfl
 c75:=by kernel_rfl
 c76:=by kernel_rfl
 c80:=by kernel_rfl
 c85:=by kernel_rfl
 c127:=by kernel_rfl
 c143:=by kernel_rfl
 c145:=by kernel_rfl
 c167:=by kernel_rfl
 c168:=by kernel_rfl
 c171:=by kernel_rfl
 c173:=by kernel_rfl
 c175:=by kernel_rfl
 c210:=by kernel_rfl
 c212:=by kernel_rfl
 c213:=by kernel_rfl
 c232:=by kernel_rfl
 c233:=by kernel_rfl}
def Tryz.lays99_ren:Go.Shelf.Ren:=⟨fun|99=>231|206=>265|n=>n,fun|9=>9|4=>4|3=>3|n=>n,fun|n=>n⟩
theorem Tryz.lays99:Go.Proofs.Lays.n99 Tryz.prog Tryz.lays99_ren:={
 mixed:=by kernel_rfl
 f99:=Tryz.func231.trans (congrArg some (by kernel_rfl))
 f206:=Tryz.func265.trans (congrArg some (by kernel_rfl))
 t3:=Tryz.underlying3
 a3:=Tryz.isAgg3
 z3:=Tryz.sizeOf3
 v3:=Tryz.zeroValue3
 t4:=Tryz.underlying4
 a4:=Tryz.isAgg4
 z4:=Tryz.sizeOf4
 v4:=Tryz.zeroValue4
 t9:=Tryz.underlying9
 a9:=Tryz.isAgg9
 z9:=Tryz.sizeOf9
 v9:=Tryz.zeroValue9}
open Go.RowKit in
theorem Tryz.strconv_Atoi (s:ByteArray)(n:Int)(hl:s.size<=18)(h:Lib.atoi s.data.toList=some n)(w:World) :
    Calls Tryz.prog 197 #[.string s] w fun e w'=>e = .returned (.tuple #[.int .i64 n,.nilIface]) /\ ∃t,w'=Lib.bytesWorld w 5 t:=Any.strconv_Atoi Tryz.lays172 s n hl h w
open Go.RowKit Go.Sort Go.Lib in
theorem Tryz.strconv_Itoa (n:Int)(h0 : -9223372036854775808≤n)(h1:n≤9223372036854775807)(w:World)(htab:Lib.TabIs Tryz.prog w "internal/strconv.uint64pow10" .u64 Lib.pow10Tab) :
    Calls Tryz.prog 124 #[.int .i64 n] w fun e w'=>e = .returned (.string ⟨(Lib.itoa n).toArray⟩) /\ ∃k os,w'=grow (w.drewN k) os:=Any.strconv_Itoa Tryz.laysM171 n h0 h1 w htab
open Go.RowKit in
theorem Tryz.strconv_Atoi_err_var (s:ByteArray)(hl:s.size≤18)(h:Lib.atoi s.data.toList=none)(tp:TypeId)(p:Value)(w:World)(hvar:w.var? Tryz.prog "strconv.ErrSyntax" = some #[.iface tp p]) :
    Calls Tryz.prog 197 #[.string s] w fun e w' => ∃N,e = .returned (.tuple #[.int .i64 0,.iface 300 (.pointer (some ⟨N,0,none⟩))])/\w.heap.size<=N/\w'.heap[N]? = some (.cells #[.string ⟨#[65,116,111,105]⟩,.string s,.iface tp p] 325 (0,0))/\Below w.heap.size w w':=Any.strconv_Atoi_err_var Tryz.laysC172 s hl h tp p w hvar
open Go.RowKit Go.Lib in
theorem Tryz.strings_HasPrefix (s p:ByteArray)(w:World) :
    Calls Tryz.prog 231 #[.string s,.string p] w fun e w'=>e = .returned (.bool (Lib.hasPrefix s.data.toList p.data.toList))/\w'=w:=Any.strings_HasPrefix Tryz.lays99 s p w
end Go.Proofs
end
namespace Go.Proofs.YtnmpibjlnninjaaGreatDoor
set_option linter.unusedVariables false
set_option linter.unusedSimpArgs false
set_option maxRecDepth 100000
set_option maxHeartbeats 90000000
section
open Go Go.RowKit
theorem abe (w:World):Calls Tryz.prog 192 #[.string ⟨#[48]⟩,.int .i64 0] w fun e w'=>e = .returned (.string ⟨#[]⟩)/\w'=w:=by
 go_enter Tryz.func192,Tryz.ntmps192
 go_wp2
 go_ret
 simp
theorem abf (w:World):Calls Tryz.prog 192 #[.string ⟨#[48]⟩,.int .i64 1] w fun e w'=>e = .returned (.string ⟨#[48]⟩)/\w'=w:=by
 go_enter Tryz.func192,Tryz.ntmps192
 go_wp2
 go_ret
 simp
theorem abg (w:World):Calls Tryz.prog 192 #[.string ⟨#[48]⟩,.int .i64 2] w fun e w'=>e = .returned (.string ⟨#[48,48]⟩)/\w'=w:=by
 have hm:=fun w=>Tryz.bits_Mul 1 2 aC aC w
 have hp:∀ (a b:ByteArray) w,Calls Tryz.prog 231 #[.string a,.string b] w fun e w'=>e = .returned (.bool (Lib.hasPrefix a.data.toList b.data.toList))/\w'=w:=fun a b w=>Tryz.strings_HasPrefix a b w
 go_enter Tryz.func192,Tryz.ntmps192
 go_wp2_with (first
  | (go_at_call 119;refine (hm _).mono ?_;rintro e w' ⟨rfl,rfl⟩)
  | (go_at_call 231;refine (hp _ _ _).mono ?_;rintro e w' ⟨rfl,rfl⟩))
 all_goals first|(go_ret;exact ⟨rfl,rfl⟩)|(exfalso;repeat (rename_i h;first|exact absurd h aC|clear h))
theorem abh (w:World):Calls Tryz.prog 192 #[.string ⟨#[48]⟩,.int .i64 3] w fun e w'=>e = .returned (.string ⟨#[48,48,48]⟩)/\w'=w:=by
 have hm:=fun w=>Tryz.bits_Mul 1 3 aC aC w
 have hp:∀ (a b:ByteArray) w,Calls Tryz.prog 231 #[.string a,.string b] w fun e w'=>e = .returned (.bool (Lib.hasPrefix a.data.toList b.data.toList))/\w'=w:=fun a b w=>Tryz.strings_HasPrefix a b w
 go_enter Tryz.func192,Tryz.ntmps192
 go_wp2_with (first
  | (go_at_call 119;refine (hm _).mono ?_;rintro e w' ⟨rfl,rfl⟩)
  | (go_at_call 231;refine (hp _ _ _).mono ?_;rintro e w' ⟨rfl,rfl⟩))
 all_goals first|(go_ret;exact ⟨rfl,rfl⟩)|(exfalso;repeat (rename_i h;first|exact absurd h aC|clear h))
theorem JA (sx:ByteArray)(c:Int)(w:World)(hs:sx=⟨#[48]⟩)(h:0<=c/\c<=3):Calls Tryz.prog 192 #[.string sx,.int .i64 c] w fun e w'=>e = .returned (.string ⟨(Lib.repeatL [48] c.toNat).toArray⟩)/\Ext w w':=by
 subst hs
 have e0:c=0∨c=1∨c=2∨c=3:=ae
 rcases e0 with rfl|rfl|rfl|rfl
 .exact (abe w).mono fun e w' ⟨h1,h2⟩=>⟨h1,h2▸Ext.refl _⟩
 .exact (abf w).mono fun e w' ⟨h1,h2⟩=>⟨h1,h2▸Ext.refl _⟩
 .exact (abg w).mono fun e w' ⟨h1,h2⟩=>⟨h1,h2▸Ext.refl _⟩
 exact (abh w).mono fun e w' ⟨h1,h2⟩=>⟨h1,h2▸Ext.refl _⟩
end
section
open Go Go.RowKit
theorem WW:Tryz.prog.globalNamed "internal/strconv.uint64pow10" = some 1:=eH
theorem WX:Tryz.prog.globalNamed "strconv.ErrSyntax" = some 2:=eH
theorem WY:Tryz.prog.globalNamed "strconv.ErrRange" = some 3:=eH
structure BD (w:World):Prop where
  pow:Lib.TabIs Tryz.prog w "internal/strconv.uint64pow10" .u64 Lib.pow10Tab
  err:∃tp p,w.var? Tryz.prog "strconv.ErrSyntax" = some #[.iface tp p]
  rng:∃tp p,w.var? Tryz.prog "strconv.ErrRange" = some #[.iface tp p]
theorem JB {w w':World}{s:String}{g:Nat}(hg:Tryz.prog.globalNamed s=some g)(h:w'.heap[g]? = w.heap[g]?):w'.var? Tryz.prog s=w.var? Tryz.prog s:=by
 grind [World.var?]
theorem JC {w:World}{s:String}{g:Nat}{cs:Array Value}(hg:Tryz.prog.globalNamed s=some g)(h:w.var? Tryz.prog s=some cs):g<w.heap.size:=by
 grind [World.var?,Array.getElem?_eq_some_iff]
def bJ:ag:=⟨[1,2,3],BD,fun w w' h ⟨h1,h2,h3⟩=>⟨by grind [Lib.TabIs,JB,WW],by grind [JB,WX],by grind [JB,WY]⟩⟩
theorem wt {w:World}(h:BD w):∀k∈bJ.blk,k<w.heap.size:=fun k hk=>by
 rcases List.mem_cons.1 hk with rfl|hk
 .exact JC WW h.pow
 rcases List.mem_cons.1 hk with rfl|hk
 .exact JC WX h.err.choose_spec.choose_spec
 rw [List.mem_singleton.1 hk];exact JC WY h.rng.choose_spec.choose_spec
theorem gF (n:Int)(w:World)(ht:BD w)(hn : -9223372036854775808<=n/\n<=9223372036854775807):Calls Tryz.prog 124 #[.int .i64 n] w fun e w'=>e = .returned (.string (bS n))/\Ext w w' :=
 (Tryz.strconv_Itoa n hn.1 hn.2 w ht.pow).mono fun e w' ⟨h1,k,os,h2⟩=>⟨h1,Ext.mk (h2▸Lib.below_grow _ w (Nat.le_refl _) k os)⟩
def aV (s:ByteArray):Int:=(Lib.atoi s.data.toList).getD 0
theorem P7 (s:ByteArray)(w:World)(h:(Lib.atoi s.data.toList).isSome=true)(hs:s.size<=18):Calls Tryz.prog 197 #[.string s] w fun e w'=>e = .returned (.tuple #[.int .i64 (aV s),.nilIface])/\Ext w w':=by
 obtain ⟨n,hn⟩:=Option.isSome_iff_exists.1 h
 refine (Tryz.strconv_Atoi s n hs hn w).mono fun e w' ⟨h1,t,h2⟩=>⟨?_,Ext.mk (h2▸Joins.below_bytesWorld _ w _ t (Nat.le_refl _))⟩
 grind [aV]
theorem P8 (s:ByteArray)(w:World)(own:List Nat)(H:Wd w (blks []++own) ([]++[ag.held w own]) [bJ] w)(h:¬ (Lib.atoi s.data.toList).isSome=true)(hs:s.size<=18) :
 Calls Tryz.prog 197 #[.string s] w fun e w' => ∃z:Value,e = .returned (.tuple #[.int .i64 0,.iface 300 (z)])/\Wd w (blks []++own) ([]++[ag.held w own]) [] w':=by
 have ht:BD w:=H.okF bJ (List.Mem.head _)
 obtain ⟨tp,p,he⟩:=ht.err
 have hn:Lib.atoi s.data.toList=none:=uY
 refine (Tryz.strconv_Atoi_err_var s hs hn tp p w he).mono fun e w' ⟨N,h1,h2,h3,h4⟩=>⟨_,h1,?_⟩
 have hw:=H.grow (Ext.mk h4).upd
 exact ⟨hw.upd,hw.okB,(fun r hr=>by grind),hw.sep,hw.own,(fun k hk=>by cases hk)⟩
theorem P9 {s:ByteArray}(hs:s.size<=18) : -9223372036854775808<=aV s/\aV s<=9223372036854775807:=by
 unfold aV
 cases h:Lib.atoi s.data.toList with
 | none=>grind
 | some n =>
  have:=Lib.atoi_bound h uY
  grind
theorem dH {n:Int}(h : -9223372036854775808<=n/\n<=9223372036854775807):(bS n).size<=21:=by
 show (⟨(Lib.itoa n).toArray⟩:ByteArray).size<=21
 grind [size_mk,Lib.itoa_length_le]
theorem Qb (n:Int):0<(bS n).size:=by
 show 0<(⟨(Lib.itoa n).toArray⟩:ByteArray).size
 grind [Lib.itoa,size_mk,Lib.decDigits_length,Lib.nDigits_pos]
theorem KY (k:Nat):(⟨(Lib.repeatL [48] k).toArray⟩:ByteArray).size=k:=by grind [size_mk,Lib.repeatL_length]
theorem Qc {n:Int}(h : -9223372036854775808<=n/\n<=9223372036854775807):(bF n).size<=25:=by
 grind [bF,ByteArray.size_append,KY,dH]
end
section
open Go Go.RowKit
attribute [local irreducible] Run Rg Rq Qt Qa Stp Dg Do Dm bQ
theorem JD (aX aR aS aT:Value)(r:aB)(w:World)(own:List Nat)(H:HN w own [] [ag.ls aX r.aj,ag.ls aR r.Things,ag.ls aS r.Held,ag.ls aT r.Notes])(hk:Ok r):RS Tryz.prog 123 #[.agg #[aX,aR,aS,aT,iV r.ah,iV r.ai]] H (aN r) (fun s (z:Value×Value×Value×Value) => .agg #[z.1,z.2.1,z.2.2.1,z.2.2.2,iV s.ah,iV s.ai]) (fun _ _=>[]) (fun s z=>[ag.ls z.1 s.aj,ag.ls z.2.1 s.Things,ag.ls z.2.2.1 s.Held,ag.ls z.2.2.2 s.Notes]):=by
 have bT:=H.aL 0 rfl
 have bH:=H.aL 1 rfl
 have cr:=H.aL 2 rfl
 have bU:=H.aL 3 rfl
 have bw:=hk.wl;have bt:=hk.tl;have bh:=hk.hl;have bn:=hk.nl;have yl:=hk.w0;have ym:=hk.w1;have yn:=hk.t0;have yo:=hk.t1
 refine R.eN H ?_
 refine R.nb fun b1=>?_
 refine R.nb fun b2=>?_
 refine R.loop (fun g_:Nat×Value×(List ak)=>[(1,pV b1),(2,pV b2),(6,aT),(7,iV (r.Notes.length:Int)),(8,iV (g_.1:Int))]) (fun g_=>[ag.box b2 vg 48,ag.box b1 [g_.2.1,aR,aS,aT,iV r.ah,iV r.ai] 48,ag.held w own]) (fun g_=>[ag.ls g_.2.1 g_.2.2,ag.ls aX r.aj,ag.ls aR r.Things,ag.ls aS r.Held,ag.ls aT r.Notes]) (fun g_=>g_.1<=r.Notes.length/\g_.2.2=gO (r.Notes.take g_.1) r.aj) (fun g_=>r.Notes.length-g_.1) (0,aX,r.aj) O (by exact ⟨ae,rfl⟩) (sF O) (dX [0,1,2] [0,0,1,2,3] O) ?_
 rintro ⟨j,vw,ws⟩ ⟨hj1,HW⟩
 dsimp only at *
 have hws:ws.length<=2000:=by rw [HW];exact Nat.le_trans (uF _ _) hk.wl
 have hwr:∀w∈ws,0<=w.Rights/\w.Rights<=7:=by rw [HW];exact wV _ _ hk.ri
 have hok:Ok (⟨ws,r.Things,r.Held,[],r.ah,r.ai⟩:aB):=⟨hws,hk.tl,hk.hl,Nat.zero_le _,hwr,hk.w0,hk.w1,hk.t0,hk.t1⟩
 refine U ?_
 refine C (j<r.Notes.length) ?_ ?_ <;> intro h1
 .
  obtain ⟨x1,hx1⟩:=gE r.Notes j
  refine U ?_
  refine R.nb fun b3=>?_
  refine C (0<x1.ak) ?_ ?_ <;> intro h2
  .
   refine R.s O (s.nM I9 O O (fun w hw=>sK _ ws x1.ak w (hw.cy 0 O) ae) O) fun v1=>U ?_
   refine R.mp (fun _ hw=>hw.aO 0 _ O O)<|R.back (j+1,v1,(without ws x1.ak)) O (by exact ⟨ae,by rw [oc hx1,if_pos ae,HW]⟩) aJ (sF O) (cw [1,2,3] [0,2,3,4,5] O)
  refine R.back (j+1,vw,ws) O (by exact ⟨ae,by rw [oc hx1,if_neg ae,HW]⟩) aJ (sF O) (cw [1,2,3] bV O)
 refine R.s O (s.pre (fun _ hw=>hw.Iy (α:=Note)) (s.aH [0,1,2] [1,3,4,0] _ _ _ O O O Ja O O (fun w own hw H=>uT vw aR aS nS (⟨ws,r.Things,r.Held,[],r.ah,r.ai⟩:aB) w own H af) O)) ?_
 rintro ⟨z1,z2,z3,z4⟩
 dsimp only
 refine U ?_
 have hz:aN r=(ez (⟨ws,r.Things,r.Held,[],r.ah,r.ai⟩:aB)):=by (unfold aN;rw [HW,List.take_of_length_le ae])
 rw [hz]
 exact R.x1 (z1,z2,z3,z4) [2] [0,1,2,3]
theorem DG (aX aR aS aT:Value)(r:aB)(w:World)(own:List Nat)(H:HN w own [] [ag.ls aX r.aj,ag.ls aR r.Things,ag.ls aS r.Held,ag.ls aT r.Notes])(hk:Ok r):RC Tryz.prog 47 #[.agg #[aX,aR,aS,aT,iV r.ah,iV r.ai]] H (fun z:Value×Value×Value×Value => .agg #[z.1,z.2.1,z.2.2.1,z.2.2.2,iV r.ah,iV r.ai]) (fun _=>[]) (fun z=>[ag.ls z.1 r.aj,ag.ls z.2.1 r.Things,ag.ls z.2.2.1 r.Held,ag.ls z.2.2.2 r.Notes]):=by
 have bT:=H.aL 0 rfl
 have bH:=H.aL 1 rfl
 have cr:=H.aL 2 rfl
 have bU:=H.aL 3 rfl
 have bw:=hk.wl;have bt:=hk.tl;have bh:=hk.hl;have bn:=hk.nl;have yl:=hk.w0;have ym:=hk.w1;have yn:=hk.t0;have yo:=hk.t1
 refine R.eN H ?_
 refine R.nb fun b1=>?_
 refine R.nb fun b2=>?_
 refine R.aaL (fuel:=20) [0,1,2] [13,15,17,19] O O mixed O<|K.p (i:=0) O (.inr (cw [0,1,2] bm O)) O (fun w=>q.xI O Db O) O<|K.q (i:=1) O (cw [0,1,2] bm O) O (Qt.raw (q.ld 1 O O iE O)) O<|K.p (i:=3) O (.inr (cw [0,1,2] bm O)) O (fun w=>q.xI O Dc O) O<|K.q (i:=4) O (cw [0,1,2] bm O) O (Qt.raw (q.ld 1 O O me O)) O<|K.p (i:=6) O (.inr (cw [0,1,2] bm O)) O (fun w=>q.xI O Dd O) O<|K.q (i:=7) O (cw [0,1,2] bm O) O (Qt.raw (q.ld 1 O O jD O)) O<|K.p (i:=9) O (.inr (cw [0,1,2] bm O)) O (fun w=>q.xI O De O) O<|K.q (i:=10) O (cw [0,1,2] bm O) O (Qt.raw (q.ld 1 O O dP O)) O<|K.one (i:=2) O<|Ko.s (s.aH [0,1,2] [0] _ _ _ O O O AL O O (fun w own hw H=>km aX r.aj w own H ae) O) (.inr fun _=>(cw [1,2,3] bm O)) (fun h=>by cases h) O fun z5=>?_
 refine K.p (i:=12) O (.inr (cw [1,2,3] bm O)) O (fun w=>q.xI O Db O) O<|K.one (i:=5) O<|Ko.s (s.aH bm [1] _ _ _ O O O AO O O (fun w own hw H=>jQ aR r.Things w own H ae) O) (.inr fun _=>(cw [2,3,4] bm O)) (fun h=>by cases h) O fun z6=>?_
 refine K.one (i:=8) O<|Ko.s (s.aH bV [2] _ _ _ O O O I8 O O (fun w own hw H=>pA aS r.Held w own H ae) O) (.inr fun _=>(cw [3,4,5] bm O)) (fun h=>by cases h) O fun z7=>?_
 refine K.one (i:=11) O<|Ko.s (s.aH fw [3] _ _ _ O O O qK O O (fun w own hw H=>fC aT r.Notes w own H ae) O) (.inr fun _=>(cw [4,5,6] bm O)) (fun h=>by cases h) O fun z8=>?_
 refine K.one (i:=13) O<|Ko.s (s.lq 5 _ O O O (fun w hw=>Sl.cL (hw.row 3 O)) (.inr ⟨iE,rfl⟩) (fun w hw=>bD (Sl.one (hw.row 3 O)) cd) O O O) (.inl O) (fun _=>by kernel_rfl) O fun _=>?_
 refine K.p (i:=14) O (.inl ay) O (fun w=>q.xI O Dc O) O<|K.one (i:=15) O<|Ko.s (s.lq 5 _ O O O (fun w hw=>Sl.cL (hw.row 2 O)) (.inr ⟨me,rfl⟩) (fun w hw=>bD (Sl.one (hw.row 2 O)) cd) O O O) (.inl O) (fun _=>by kernel_rfl) O fun _=>?_
 refine K.p (i:=16) O (.inl ay) O (fun w=>q.xI O Dd O) O<|K.one (i:=17) O<|Ko.s (s.lq 5 _ O O O (fun w hw=>Sl.cL (hw.row 1 O)) (.inr ⟨jD,rfl⟩) (fun w hw=>bD (Sl.one (hw.row 1 O)) cd) O O O) (.inl O) (fun _=>by kernel_rfl) O fun _=>?_
 refine K.p (i:=18) O (.inl ay) O (fun w=>q.xI O De O) O<|K.one (i:=19) O<|Ko.s (s.lq 5 _ O O O (fun w hw=>Sl.cL (hw.row 0 O)) (.inr ⟨dP,rfl⟩) (fun w hw=>bD (Sl.one (hw.row 0 O)) cd) O O O) (.inl O) (fun _=>by kernel_rfl) O fun _=>?_
 refine K.done<|U ?_
 exact R.mp (fun _ hw=>hw.aO 3 _ O O)<|R.mp (fun _ hw=>hw.aO 2 _ O O)<|R.mp (fun _ hw=>hw.aO 1 _ O O)<|R.mp (fun _ hw=>hw.aO 0 _ O O)<|R.x1 (z5,z6,z7,z8) [2] [3,2,1,0]
end
section
open Go Go.RowKit
attribute [local irreducible] Run Rg Rq Qt Qa Stp Dg Do Dm bQ
theorem jm (n:Int)(w:World)(ht:BD w)(hn : -9223372036854775808<=n/\n<=9223372036854775807):Calls Tryz.prog 125 #[iV n] w fun e w'=>e = .returned (.string (bF n))/\Ext w w':=by
 have il:=dH hn;have ip:=Qb n
 refine R.enter [] [(0,iV n)] Tryz.func125 O O O O<|R.pH (r:=bJ) ht (wt ht)<|U ?_
 refine R.kc O O (fun w hw=>gF n w (by exact hw.okF bJ (by repeat (exact List.Mem.head _))) af)<|U ?_
 refine R.q (q.lG (r:=4-((bS n).size:Int)) O O) O<|R.q (q.max (r:=max 0 (4-((bS n).size:Int))) O O O) O<|R.kc O O (fun w hw=>JA (⟨#[48]⟩) (max 0 (4-((bS n).size:Int))) w O ae)<|U ?_
 refine R.q (q.cat O O (by rw [KY];omega)) O<|U ?_
 refine R.rt ?_
 (unfold bF;rw [show (max 0 (4-((bS n).size:Int))).toNat=4-(bS n).size by omega])
def numsL (s:ByteArray)(m:Nat):List Int:=(eM s m).getD []
def fa (s:ByteArray)(m:Nat):Bool:=(eM s m).isSome
theorem SL {s:ByteArray}{m:Nat}(h:s.size<4*m):(numsL s m,fa s m)=([],false):=by unfold numsL fa eM;rw [if_pos h];rfl
theorem HY {s:ByteArray}{m k:Nat}{l:List Int}(h:¬ s.size<4*m)(hk:k<m)(hl:kg s k=some l)(hn:yv (s.extract (4*k) (4*k+4))=none):(numsL s m,fa s m)=([],false):=by
 unfold numsL fa eM;rw [if_neg h,LJ hk hl hn];rfl
theorem SQ {s:ByteArray}{m:Nat}{l:List Int}(h:¬ s.size<4*m)(hl:kg s m=some l):(numsL s m,fa s m)=(l,true):=by
 unfold numsL fa eM;rw [if_neg h,hl];rfl
theorem SR {s:ByteArray}(h:¬ (Lib.atoi s.data.toList).isSome=true):yv s=none:=by
 unfold yv;cases hq:Lib.atoi s.data.toList with|none=>rfl|some n=>rw [hq] at h;exact absurd rfl h
theorem SS {s:ByteArray}(h:¬ bF (aV s)=s):yv s=none:=by
 unfold yv;unfold aV at h
 cases hq:Lib.atoi s.data.toList with
 | none=>rfl
 | some n=>rw [hq] at h;dsimp only;exact if_neg h
theorem Qd {s:ByteArray}(h:(Lib.atoi s.data.toList).isSome=true)(he:bF (aV s)=s):yv s=some (aV s):=by
 unfold yv;unfold aV at he ⊢
 cases hq:Lib.atoi s.data.toList with
 | none=>rw [hq] at h;cases h
 | some n=>rw [hq] at he;dsimp only;exact if_pos he
theorem mN (sb:ByteArray)(m:Nat)(w:World)(own:List Nat)(H:HN w own [] [bJ])(hs:sb.size<=1000000/\m<=4):RC Tryz.prog 140 #[.string sb,iV (m:Int)] H (fun z:Value => .tuple #[z,.bool (fa sb m)]) (fun z=>[ag.row 3 z (numsL sb m)]) (fun _=>[]):=by
 refine R.eN H ?_
 refine R.q (q.ut (r:=((4*m:Nat):Int)) O O) O<|C (sb.size<(4*m)) ?_ ?_ <;> intro h1
 .
  refine R.row0 (α:=Int) 3 ?_
  have hz:(numsL sb m,fa sb m)=([],false):=by (exact SL ae)
  have hz0:numsL sb m=[]:=congrArg (fun t_=>t_.1) hz
  rw [hz0]
  have hz1:fa sb m=false:=congrArg (fun t_=>t_.2) hz
  rw [hz1]
  exact R.x2 nS [0,1] []
 refine R.row0 (α:=Int) 3<|R.loop (fun g_:Nat×Value×(List Int)=>[(0,.string sb),(6,g_.2.1),(15,iV (m:Int)),(16,iV (g_.1:Int))]) (fun g_=>[ag.row 3 g_.2.1 g_.2.2,ag.held w own]) (fun g_=>[bJ]) (fun g_=>g_.1<=m/\kg sb g_.1=some g_.2.2) (fun g_=>m-g_.1) (0,nS,[]) O (by exact ⟨ae,rfl⟩) (sF O) (dX [0,1] [0] O) ?_
 rintro ⟨k,u,l⟩ ⟨hk,HL⟩
 dsimp only at *
 have ab:=P9 (s:=sb.extract (4*k) (4*k+4)) (by rw [ByteArray.size_extract];omega);have gl:=xa HL
 refine U ?_
 refine C (k<m) ?_ ?_ <;> intro h2
 .
  refine R.q (q.ut (r:=((4*k:Nat):Int)) O O) O<|U ?_
  refine R.q (q.ut (r:=((4*k:Nat):Int)) O O) O<|U ?_
  refine R.q (q.Fv (i:=(4*k)) (j:=((4*k)+4)) O O O Tryz.underlying9 O O ae ae) O<|C ((Lib.atoi (sb.extract (4*k) ((4*k)+4)).data.toList).isSome=true) ?_ ?_ <;> intro h3
  .
   refine R.kc O O (fun w hw=>P7 (sb.extract (4*k) ((4*k)+4)) w af (by rw [ByteArray.size_extract];omega))<|U ?_
   refine C (bF (aV (sb.extract (4*k) ((4*k)+4)))=(sb.extract (4*k) ((4*k)+4))) ?_ ?_ <;> intro h4
   .
    refine R.c6 O mixed ay<|U ?_
    refine Q.cg O (q.call mU O O (fun w hw=>jm (aV (sb.extract (4*k) ((4*k)+4))) w (by exact hw.okF bJ (by repeat (exact List.Mem.head _))) af)) O<|U ?_
    refine Q.qg O (q.ut (r:=((4*k:Nat):Int)) O O) O<|U ?_
    refine Q.qg O (q.ut (r:=((4*k:Nat):Int)) O O) O<|U ?_
    refine Q.qg O (q.Fv (i:=(4*k)) (j:=((4*k)+4)) O O O Tryz.underlying9 O O ae ae) O<|Q.qg O (q.oO O O h4) O<|U ?_
    refine R.s O (s.bs (l:=([aV (sb.extract (4*k) ((4*k)+4))]:List Int)) kx jW O O O O O O O) fun b1=>?_
    refine R.ap fun v1=>?_
    refine R.back (k+1,v1,(l++([aV (sb.extract (4*k) ((4*k)+4))]))) O (by exact ⟨ae,IU HL (Qd af af)⟩) aJ (sF O) (cw [1,2] [0] O)
   refine R.c6 O mixed ay<|U ?_
   refine Q.cg O (q.call mU O O (fun w hw=>jm (aV (sb.extract (4*k) ((4*k)+4))) w (by exact hw.okF bJ (by repeat (exact List.Mem.head _))) af)) O<|U ?_
   refine Q.qg O (q.ut (r:=((4*k:Nat):Int)) O O) O<|U ?_
   refine Q.qg O (q.ut (r:=((4*k:Nat):Int)) O O) O<|U ?_
   refine Q.qg O (q.Fv (i:=(4*k)) (j:=((4*k)+4)) O O O Tryz.underlying9 O O ae ae) O<|Q.qg O (q.rh O O h4) O<|U ?_
   refine R.row0 (α:=Int) 3 ?_
   have hz:(numsL sb m,fa sb m)=([],false):=by (exact HY ae ae HL (SS af))
   have hz0:numsL sb m=[]:=congrArg (fun t_=>t_.1) hz
   rw [hz0]
   have hz1:fa sb m=false:=congrArg (fun t_=>t_.2) hz
   rw [hz1]
   exact R.x2 nS [0,2] []
  refine R.s O (s.aH [0,1] [0] _ _ _ O O O O5 O O (fun w own hw H=>P8 (sb.extract (4*k) ((4*k)+4)) w own H af (by rw [ByteArray.size_extract];omega)) O) fun z1=>U ?_
  refine R.c6 O mixed ay<|U ?_
  refine R.row0 (α:=Int) 3 ?_
  have hz:(numsL sb m,fa sb m)=([],false):=by (exact HY ae ae HL (SR af))
  have hz0:numsL sb m=[]:=congrArg (fun t_=>t_.1) hz
  rw [hz0]
  have hz1:fa sb m=false:=congrArg (fun t_=>t_.2) hz
  rw [hz1]
  exact R.x2 nS [0,2] []
 have hz:(numsL sb m,fa sb m)=(l,true):=by (have e:k=m:=ae;subst e;exact SQ ae HL)
 have hz0:numsL sb m=l:=congrArg (fun t_=>t_.1) hz
 rw [hz0]
 have hz1:fa sb m=true:=congrArg (fun t_=>t_.2) hz
 rw [hz1]
 exact R.x2 u [0,1] []
theorem mO {α β:Type}(f:α->β){L:List α}{k:Nat}{x:α}(hx:L[k]? = some x):(L.take (k+1)).map f=(L.take k).map f++[f x]:=by
 rw [List.take_add_one,hx,List.map_append];rfl
theorem p7 {α β:Type}(f:α->β){L:List α}{k:Nat}(h:L.length<=k):(L.take k).map f=L.map f:=by rw [List.take_of_length_le h]
structure QIs (q:aB):Prop where
  i:Inv q
  h:∀x∈q.Held,(bS x.Place.aD).size<=21/\(bS x.Place.Slot).size<=21/\(bF x.ak).size<=25/\0<=x.Place.aD/\x.Place.aD<=4/\0<=x.Place.Slot/\x.Place.Slot<=5/\0<=x.ak/\x.ak<=10000
  t:∀x∈q.Things,(bF x.ID).size<=25/\(bF x.Kind).size<=25/\x.Data.size<=8/\0<=x.ID/\x.ID<=10000/\0<=x.Kind/\x.Kind<=2
  w:∀x∈q.aj,((bF x.ID).size<=25/\(bF x.aA).size<=25/\(bF x.Rights).size<=25/\(bF x.aM).size<=25/\(bF x.From).size<=25)/\0<=x.ID/\x.ID<=999/\0<=x.aA/\x.aA<=999/\0<=x.Rights/\x.Rights<=7/\0<=x.aM/\x.aM<=99/\0<=x.From/\x.From<=999
  n:(bF q.ah).size<=25/\(bF q.ai).size<=25
theorem mj {n:Int}(h:0<=n/\n<=10000):(bF n).size<=25:=Qc ae
theorem KZ {n:Int}(h:0<=n/\n<=10000):(bS n).size<=21:=dH ae
theorem Inv.qis {q:aB}(i:Inv q):QIs q where
 i:=i
 h:=fun x hx=>by
  have k:=i.Kt hx;have p:=bP k.1;have k1:=k.2.1;have k2:=k.2.2
  exact ⟨KZ ae,KZ ae,mj ae,ae,ae,ae,ae,ae,ae⟩
 t:=fun x hx=>by
  have k:=i.T1 hx;have a:=k.i0;have b:=k.i9;have c:=k.kd;have d:=k.ds
  exact ⟨mj ae,mj ae,d,a,ae,ae,ae⟩
 w:=fun x hx=>by
  have k:=i.tree.mem hx;have i1:=k.id1;have i9:=k.Q0;have t1:=k.U5;have t9:=k.U6;have a0:=k.U7;have a9:=k.U8;have f0:=k.Rw;have fl:=k.Rx;have q0:=k.Ry;have q7:=k.Rz
  exact ⟨⟨mj ae,mj ae,mj ae,mj ae,mj ae⟩,ae,ae,ae,ae,ae,ae,ae,ae,ae,ae⟩
 n:=by
  have a1:=i.pO;have a2:=i.rK;have a3:=i.qw;have a4:=i.qx
  exact ⟨mj ae,mj ae⟩
theorem BF (aX aR aS aT:Value)(r:aB)(w:World)(own:List Nat)(H:HN w own [] [ag.ls aX r.aj,ag.ls aR r.Things,ag.ls aS r.Held,ag.ls aT r.Notes,bJ])(hk:Ok r)(hI:Inv r):RC Tryz.prog 63 #[.agg #[aX,aR,aS,aT,iV r.ah,iV r.ai]] H (fun z:Value=>z) (fun z=>[ag.row 115 z (aY r)]) (fun _=>[]):=by
 have bT:=H.aL 0 rfl
 have bH:=H.aL 1 rfl
 have cr:=H.aL 2 rfl
 have bU:=H.aL 3 rfl
 have bw:=hk.wl;have bt:=hk.tl;have bh:=hk.hl;have bn:=hk.nl;have yl:=hk.w0;have ym:=hk.w1;have yn:=hk.t0;have yo:=hk.t1
 have hq:=(iL hI).1.qis
 have hn:=hq.n;have pO:=hq.i.pO;have rK:=hq.i.rK;have qw:=hq.i.qw;have qx:=hq.i.qx;have hl0:=sh hq.i;have tl0:=hq.i.jG;have wl0:=(iL hI).2.2.2.1
 refine R.eN H ?_
 refine R.nb fun b1=>?_
 refine R.s O (s.aH [0,1] bm _ _ _ O O O VF O O (fun w own hw H=>JD aX aR aS aT r w own H af) O) ?_
 rintro ⟨z1,z2,z3,z4⟩
 dsimp only
 refine U ?_
 refine R.row0 (α:=Change) 115<|R.loop (fun g_:Nat×Value×(List Change)=>[(1,pV b1),(3,g_.2.1),(13,z3),(14,iV ((aN r).Held.length:Int)),(15,iV (g_.1:Int))]) (fun g_=>[ag.row 115 g_.2.1 g_.2.2,ag.box b1 [z1,z2,z3,z4,iV (aN r).ah,iV (aN r).ai] 48,ag.held w own]) (fun g_=>[ag.ls z1 (aN r).aj,ag.ls z2 (aN r).Things,ag.ls z3 (aN r).Held,ag.ls z4 (aN r).Notes,ag.ls aX r.aj,ag.ls aR r.Things,ag.ls aS r.Held,ag.ls aT r.Notes,bJ]) (fun g_=>g_.1<=(aN r).Held.length/\g_.2.2=((aN r).Held.take g_.1).map hrow) (fun g_=>(aN r).Held.length-g_.1) (0,nS,[]) O (by exact ⟨ae,rfl⟩) (sF O) (dX [0,1,2] bZ O) ?_
 rintro ⟨k,u,l⟩ ⟨hk,HL⟩
 dsimp only at *
 have ll:l.length<=24:=by rw [HL,List.length_map,List.length_take];omega
 refine U ?_
 refine C (k<(aN r).Held.length) ?_ ?_ <;> intro h1
 .
  obtain ⟨x1,hx1⟩:=gE (aN r).Held k
  have Sk:=hq.h _ (List.mem_of_getElem? hx1)
  refine U ?_
  refine R.nb fun b2=>?_
  refine R.cO (fuel:=18) [0,2,3] O O mixed O<|D.l [0,1,2,3,6,7,8,11,12] [0,2,3] bZ O<|U ?_
  refine D.p 4 O [0,2,3] bZ (s.c (q.call mT O O (fun w hw=>gF x1.Place.aD w (by exact hw.okF bJ gy) ae)) O) fun _=>?_
  refine D.l [5] [0,2,3] bZ O<|Dm.yy O O (q.cat O O (by simp only [ByteArray.size_append,bg,List.length_cons,List.length_nil];omega)) O<|U ?_
  refine D.p 9 O [0,2,3] bZ (s.c (q.call mT O O (fun w hw=>gF x1.Place.Slot w (by exact hw.okF bJ gy) ae)) O) fun _=>?_
  refine D.l [10] [0,2,3] bZ O<|Dm.yy O O (q.cat O O (by simp only [ByteArray.size_append,bg,List.length_cons,List.length_nil];omega)) O<|U ?_
  refine D.p 13 O [0,2,3] bZ (s.c (q.call mU O O (fun w hw=>jm x1.ak w (by exact hw.okF bJ gy) ae)) O) fun _=>?_
  refine D.l [14] [0,2,3] bZ O<|U ?_
  refine D.p 15 O [1,3,4] bZ (s.bs (l:=([(⟨(⟨#[104]⟩++bS x1.Place.aD)++bS x1.Place.Slot,bF x1.ak,false⟩:Change)]:List Change)) cD ct O O O O O O O) fun b3=>?_
  refine D.p 16 O [1,3,4] bZ (s.app 2 _ O O O (cI 0 O) ky aG aG (fun _=>rfl) O) fun v1=>?_
  refine D.l [17] [1,3,4] bZ O<|U ?_
  refine D.done<|U ?_
  refine R.back (k+1,v1,(l++([(⟨(⟨#[104]⟩++bS x1.Place.aD)++bS x1.Place.Slot,bF x1.ak,false⟩:Change)]))) O (by exact ⟨ae,by rw [mO hrow hx1,<- HL];rfl⟩) aJ (sF O) (cw [2,3,4] bZ O)
 refine R.loop (fun g_:Nat×Value×(List Change)=>[(1,pV b1),(3,g_.2.1),(38,z2),(39,iV ((aN r).Things.length:Int)),(40,iV (g_.1:Int))]) (fun g_=>[ag.row 115 g_.2.1 g_.2.2,ag.box b1 [z1,z2,z3,z4,iV (aN r).ah,iV (aN r).ai] 48,ag.held w own]) (fun g_=>[ag.ls z1 (aN r).aj,ag.ls z2 (aN r).Things,ag.ls z3 (aN r).Held,ag.ls z4 (aN r).Notes,ag.ls aX r.aj,ag.ls aR r.Things,ag.ls aS r.Held,ag.ls aT r.Notes,bJ]) (fun g_=>g_.1<=(aN r).Things.length/\g_.2.2=(aN r).Held.map hrow++((aN r).Things.take g_.1).map lY) (fun g_=>(aN r).Things.length-g_.1) (0,u,l) O (by exact ⟨ae,by rw [HL,p7 _ ae];exact (List.append_nil _).symm⟩) (sF O) (dX [0,1,2] bZ O) ?_
 rintro ⟨j,u2,l2⟩ ⟨hj,HL2⟩
 dsimp only at *
 have ll2:l2.length<=34:=by rw [HL2,List.length_append,List.length_map,List.length_map,List.length_take];omega
 refine U ?_
 refine C (j<(aN r).Things.length) ?_ ?_ <;> intro h2
 .
  obtain ⟨x2,hx2⟩:=gE (aN r).Things j
  have fx2:=hq.t _ (List.mem_of_getElem? hx2)
  refine U ?_
  refine R.nb fun b4=>?_
  refine R.cO (fuel:=15) [0,2,3] O O mixed O<|D.l [0,1,2,5,6,8,9] [0,2,3] bZ O<|U ?_
  refine D.p 3 O [0,2,3] bZ (s.c (q.call mU O O (fun w hw=>jm x2.ID w (by exact hw.okF bJ gy) ae)) O) fun _=>?_
  refine D.l [4] [0,2,3] bZ O<|Dm.yy O O (q.cat O O (by simp only [ByteArray.size_append,bg,List.length_cons,List.length_nil];omega)) O<|U ?_
  refine D.p 7 O [0,2,3] bZ (s.c (q.call mU O O (fun w hw=>jm x2.Kind w (by exact hw.okF bJ gy) ae)) O) fun _=>?_
  refine D.l [10,11] [0,2,3] bZ O<|Dm.yy O O (q.cat O O ae) O<|U ?_
  refine D.p 12 O [1,3,4] bZ (s.bs (l:=([(⟨⟨#[116]⟩++bF x2.ID,bF x2.Kind++x2.Data,false⟩:Change)]:List Change)) cD ct O O O O O O O) fun b5=>?_
  refine D.p 13 O [1,3,4] bZ (s.app 2 _ O O O (cI 0 O) ky aG aG (fun _=>rfl) O) fun v2=>?_
  refine D.l [14] [1,3,4] bZ O<|U ?_
  refine D.done<|U ?_
  refine R.back (j+1,v2,(l2++([(⟨⟨#[116]⟩++bF x2.ID,bF x2.Kind++x2.Data,false⟩:Change)]))) O (by exact ⟨ae,by rw [mO lY hx2,<- List.append_assoc,<- HL2];rfl⟩) aJ (sF O) (cw [2,3,4] bZ O)
 refine R.loop (fun g_:Nat×Value×(List Change)=>[(1,pV b1),(3,g_.2.1),(60,z1),(61,iV ((aN r).aj.length:Int)),(62,iV (g_.1:Int))]) (fun g_=>[ag.row 115 g_.2.1 g_.2.2,ag.box b1 [z1,z2,z3,z4,iV (aN r).ah,iV (aN r).ai] 48,ag.held w own]) (fun g_=>[ag.ls z1 (aN r).aj,ag.ls z2 (aN r).Things,ag.ls z3 (aN r).Held,ag.ls z4 (aN r).Notes,ag.ls aX r.aj,ag.ls aR r.Things,ag.ls aS r.Held,ag.ls aT r.Notes,bJ]) (fun g_=>g_.1<=(aN r).aj.length/\g_.2.2=(aN r).Held.map hrow++(aN r).Things.map lY++((aN r).aj.take g_.1).map oJ) (fun g_=>(aN r).aj.length-g_.1) (0,u2,l2) O (by exact ⟨ae,by rw [HL2,p7 _ ae];exact (List.append_nil _).symm⟩) (sF O) (dX [0,1,2] bZ O) ?_
 rintro ⟨i,u3,l3⟩ ⟨hi,WZ⟩
 dsimp only at *
 have ll3:l3.length<=58:=by rw [WZ,List.length_append,List.length_append,List.length_map,List.length_map,List.length_map,List.length_take];omega
 refine U ?_
 refine C (i<(aN r).aj.length) ?_ ?_ <;> intro h3
 .
  obtain ⟨x3,hx3⟩:=gE (aN r).aj i
  have fx3:=hq.w _ (List.mem_of_getElem? hx3)
  refine U ?_
  refine R.nb fun b6=>?_
  refine R.cO (fuel:=24) [0,2,3] O O mixed O<|D.l [0,1,2,5,6,8,9,12,13,16,17] [0,2,3] bZ O<|U ?_
  refine D.p 3 O [0,2,3] bZ (s.c (q.call mU O O (fun w hw=>jm x3.ID w (by exact hw.okF bJ gy) ae)) O) fun _=>?_
  refine D.l [4] [0,2,3] bZ O<|Dm.yy O O (q.cat O O (by simp only [ByteArray.size_append,bg,List.length_cons,List.length_nil];omega)) O<|U ?_
  refine D.p 7 O [0,2,3] bZ (s.c (q.call mU O O (fun w hw=>jm x3.aA w (by exact hw.okF bJ gy) ae)) O) fun _=>?_
  refine D.p 10 O [0,2,3] bZ (s.c (q.call mU O O (fun w hw=>jm x3.Rights w (by exact hw.okF bJ gy) ae)) O) fun _=>?_
  refine D.l [11] [0,2,3] bZ O<|Dm.yy O O (q.cat O O ae) O<|U ?_
  refine D.p 14 O [0,2,3] bZ (s.c (q.call mU O O (fun w hw=>jm x3.aM w (by exact hw.okF bJ gy) ae)) O) fun _=>?_
  refine D.l [15] [0,2,3] bZ O<|Dm.yy O O (q.cat O O (by simp only [ByteArray.size_append,bg,List.length_cons,List.length_nil];omega)) O<|U ?_
  refine D.p 18 O [0,2,3] bZ (s.c (q.call mU O O (fun w hw=>jm x3.From w (by exact hw.okF bJ gy) ae)) O) fun _=>?_
  refine D.l [19,20] [0,2,3] bZ O<|Dm.yy O O (q.cat O O (by simp only [ByteArray.size_append,bg,List.length_cons,List.length_nil];omega)) O<|U ?_
  refine D.p 21 O [1,3,4] bZ (s.bs (l:=([(⟨⟨#[119]⟩++bF x3.ID,((bF x3.aA++bF x3.Rights)++bF x3.aM)++bF x3.From,false⟩:Change)]:List Change)) cD ct O O O O O O O) fun b7=>?_
  refine D.p 22 O [1,3,4] bZ (s.app 2 _ O O O (cI 0 O) ky aG aG (fun _=>rfl) O) fun v3=>?_
  refine D.l [23] [1,3,4] bZ O<|U ?_
  refine D.done<|U ?_
  refine R.back (i+1,v3,(l3++([(⟨⟨#[119]⟩++bF x3.ID,((bF x3.aA++bF x3.Rights)++bF x3.aM)++bF x3.From,false⟩:Change)]))) O (by exact ⟨ae,by rw [mO oJ hx3,<- List.append_assoc,<- WZ];rfl⟩) aJ (sF O) (cw [2,3,4] bZ O)
 refine R.cO (fuel:=12) [1,2] O O mixed O<|D.l [0,1,2,4,5] [1,2] bZ O<|U ?_
 refine D.p 3 O [1,2] bZ (s.c (q.call mU O O (fun w hw=>jm (aN r).ah w (by exact hw.okF bJ gy) ae)) O) fun _=>?_
 refine D.p 6 O [1,2] bZ (s.c (q.call mU O O (fun w hw=>jm (aN r).ai w (by exact hw.okF bJ gy) ae)) O) fun _=>?_
 refine D.l [7,8] [1,2] bZ O<|Dm.yy O O (q.cat O O ae) O<|U ?_
 refine D.p 9 O [2,3] bZ (s.bs (l:=([(⟨⟨#[120]⟩,bF (aN r).ah++bF (aN r).ai,false⟩:Change)]:List Change)) cD ct O O O O O O O) fun b8=>?_
 refine D.p 10 O [2,3] bZ (s.app 1 _ O O O (cI 0 O) ky aG aG (fun _=>rfl) O) fun v4=>?_
 refine D.l [11] [2,3] bZ O<|U ?_
 refine D.done ?_
 have hz:aY r=(l3++([(⟨⟨#[120]⟩,bF (aN r).ah++bF (aN r).ai,false⟩:Change)])):=by (unfold aY rowsOf;rw [WZ,p7 _ ae];rfl)
 rw [hz]
 exact R.x1 v4 [1,3] []
theorem BG (DI:Value)(a:List Int)(Fa:Value)(b:List Int)(w:World)(s_a:Sl w DI a)(s_b:Sl w Fa b):Calls Tryz.prog 145 #[DI,Fa] w fun e w'=>e = .returned (.bool (decide (a=b)))/\Ext w w':=by
 have b_a:=s_a.fS
 have b_b:=s_b.fS
 refine R.eV ?_
 refine C (a.length=b.length) ?_ ?_ <;> intro h1
 .
  refine R.loop (fun k:Nat=>[(0,DI),(1,Fa),(12,iV (a.length:Int)),(13,iV (k:Int))]) (fun k:Nat=>[]) (fun k:Nat=>[]) (fun k:Nat=>k<=a.length /\ ∀j,j<k->a[j]? = b[j]?) (fun k:Nat=>a.length-k) 0 O (by exact ⟨ae,fun j hj=>absurd hj (Nat.not_lt_zero _)⟩) (sF O) (dX [] [] O) ?_
  rintro k ⟨hk,HA⟩
  refine U ?_
  refine C (k<a.length) ?_ ?_ <;> intro h2
  .
   obtain ⟨x1,hx1⟩:=gE a k
   obtain ⟨x2,hx2⟩:=gE b k
   refine C (x1=x2) ?_ ?_ <;> intro h3
   .
    refine R.c6 O mixed ay<|U ?_
    refine R.back (k+1) O (by exact ⟨ae,Di HA hx1 hx2 af⟩) ae (sF O) (dX [] [] O)
   refine R.c6 O mixed ay<|U ?_
   refine R.rt ?_
   (exact GV hx1 hx2 af)
  refine R.rt ?_
  (exact GX af af HA)
 refine R.rt ?_
 (exact GU af)
end
end Go.Proofs.YtnmpibjlnninjaaGreatDoor
