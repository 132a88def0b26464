import Derived.Test.YtbkfhjaibhnkmaaGreatDoorTSD6
import Derived.Test.YtbkfhjaibhnkmaaGreatDoorProg
import Derived.Shelf.Abstract
namespace Go.Proofs.YtbkfhjaibhnkmaaGreatDoor
open Go Go.RowKit
set_option linter.unusedVariables false
set_option maxRecDepth 100000
theorem mixed:Tryz.prog.follows .mixedOrders=true:=by kernel_rfl
theorem av:jv Tryz.prog 3=true:=by kernel_rfl
theorem iH:fR Tryz.prog 3=some (.int .i64 0):=by kernel_rfl
theorem j7:jv Tryz.prog 4=true:=by kernel_rfl
theorem bF:jv Tryz.prog 9=true:=by kernel_rfl
theorem sr:np Tryz.prog 22=some (42,11):=by kernel_rfl
theorem bX:np Tryz.prog 23=some (52,3):=by kernel_rfl
theorem xX:jv Tryz.prog 23=true:=by kernel_rfl
theorem cK:np Tryz.prog 27=some (88,5):=by kernel_rfl
theorem bA:jv Tryz.prog 27=true:=by kernel_rfl
theorem fb:np Tryz.prog 28=some (62,3):=by kernel_rfl
theorem cw:jv Tryz.prog 28=true:=by kernel_rfl
theorem bD:np Tryz.prog 29=some (85,3):=by kernel_rfl
theorem cx:jv Tryz.prog 29=true:=by kernel_rfl
theorem dW:np Tryz.prog 30=some (72,4):=by kernel_rfl
theorem cy:jv Tryz.prog 30=true:=by kernel_rfl
theorem ar:ju Tryz.prog 32=some 6:=by kernel_rfl
theorem cY:tB Tryz.prog 32=some ([(0,1),(1,1),(2,1),(3,1),(4,1),(5,1)],[.slice none 0 0,.slice none 0 0,.slice none 0 0,.slice none 0 0,.int .i64 0,.int .i64 0]):=by kernel_rfl
theorem bj:fM Tryz.prog 32 0=some 0:=by kernel_rfl
theorem bO:fM Tryz.prog 32 1=some 1:=by kernel_rfl
theorem bP:fM Tryz.prog 32 2=some 2:=by kernel_rfl
theorem bR:fM Tryz.prog 32 3=some 3:=by kernel_rfl
theorem bW:fM Tryz.prog 32 4=some 4:=by kernel_rfl
theorem cU:fM Tryz.prog 32 5=some 5:=by kernel_rfl
theorem cD:fR Tryz.prog 32=some (.agg #[.slice none 0 0,.slice none 0 0,.slice none 0 0,.slice none 0 0,.int .i64 0,.int .i64 0]):=by kernel_rfl
theorem br:ju Tryz.prog 39=some 2:=by kernel_rfl
theorem mW:tB Tryz.prog 39=some ([(0,1),(1,1)],[.int .i64 0,.int .i64 0]):=by kernel_rfl
theorem bG:fM Tryz.prog 39 0=some 0:=by kernel_rfl
theorem eS:fM Tryz.prog 39 1=some 1:=by kernel_rfl
theorem oo:fR Tryz.prog 39=some (.agg #[.int .i64 0,.int .i64 0]):=by kernel_rfl
theorem xY:ju Tryz.prog 42=some 11:=by kernel_rfl
theorem uI:fM Tryz.prog 42 0=some 0:=by kernel_rfl
theorem mA:fM Tryz.prog 42 1=some 1:=by kernel_rfl
theorem fX:fM Tryz.prog 42 2=some 2:=by kernel_rfl
theorem uJ:fM Tryz.prog 42 3=some 4:=by kernel_rfl
theorem kv:fM Tryz.prog 42 4=some 6:=by kernel_rfl
theorem pF:fM Tryz.prog 42 5=some 7:=by kernel_rfl
theorem uK:fM Tryz.prog 42 8=some 10:=by kernel_rfl
theorem eA:ju Tryz.prog 52=some 3:=by kernel_rfl
theorem qS:tB Tryz.prog 52=some ([(0,1),(1,1),(2,1)],[.string ⟨#[]⟩,.string ⟨#[]⟩,.bool false]):=by kernel_rfl
theorem bu:fM Tryz.prog 52 0=some 0:=by kernel_rfl
theorem eD:fM Tryz.prog 52 1=some 1:=by kernel_rfl
theorem fY:fM Tryz.prog 52 2=some 2:=by kernel_rfl
theorem fe:fR Tryz.prog 52=some (.agg #[.string ⟨#[]⟩,.string ⟨#[]⟩,.bool false]):=by kernel_rfl
theorem ct:np Tryz.prog 60=some (3,1):=by kernel_rfl
theorem ky:jv Tryz.prog 60=true:=by kernel_rfl
theorem qT:fR Tryz.prog 60=some (.slice none 0 0):=by kernel_rfl
theorem ft:ju Tryz.prog 62=some 3:=by kernel_rfl
theorem vQ:tB Tryz.prog 62=some ([(0,1),(1,1),(2,1)],[.int .i64 0,.int .i64 0,.string ⟨#[]⟩]):=by kernel_rfl
theorem iZ:fM Tryz.prog 62 0=some 0:=by kernel_rfl
theorem pG:fM Tryz.prog 62 1=some 1:=by kernel_rfl
theorem pH:fM Tryz.prog 62 2=some 2:=by kernel_rfl
theorem gi:fR Tryz.prog 62=some (.agg #[.int .i64 0,.int .i64 0,.string ⟨#[]⟩]):=by kernel_rfl
theorem cm:ju Tryz.prog 72=some 4:=by kernel_rfl
theorem tJ:tB Tryz.prog 72=some ([(0,1),(1,1),(2,1),(3,1)],[.int .i64 0,.string ⟨#[]⟩,.int .i64 0,.int .i64 0]):=by kernel_rfl
theorem kz:fM Tryz.prog 72 0=some 0:=by kernel_rfl
theorem fm:fM Tryz.prog 72 3=some 3:=by kernel_rfl
theorem dC:fR Tryz.prog 72=some (.agg #[.int .i64 0,.string ⟨#[]⟩,.int .i64 0,.int .i64 0]):=by kernel_rfl
theorem bI:Tryz.prog.concrete 82=true:=by kernel_rfl
theorem eB:ju Tryz.prog 85=some 3:=by kernel_rfl
theorem zd:tB Tryz.prog 85=some ([(0,2),(2,1)],[.int .i64 0,.int .i64 0,.int .i64 0]):=by kernel_rfl
theorem ef:fM Tryz.prog 85 0=some 0:=by kernel_rfl
theorem fZ:fM Tryz.prog 85 1=some 2:=by kernel_rfl
theorem fA:fR Tryz.prog 85=some (.agg #[.int .i64 0,.int .i64 0,.int .i64 0]):=by kernel_rfl
theorem aQ:ju Tryz.prog 88=some 5:=by kernel_rfl
theorem gQ:tB Tryz.prog 88=some ([(0,1),(1,1),(2,1),(3,1),(4,1)],[.int .i64 0,.int .i64 0,.int .i64 0,.int .i64 0,.int .i64 0]):=by kernel_rfl
theorem bH:fM Tryz.prog 88 0=some 0:=by kernel_rfl
theorem eU:fM Tryz.prog 88 1=some 1:=by kernel_rfl
theorem f6:fM Tryz.prog 88 2=some 2:=by kernel_rfl
theorem f7:fM Tryz.prog 88 3=some 3:=by kernel_rfl
theorem eh:fM Tryz.prog 88 4=some 4:=by kernel_rfl
theorem bE:fR Tryz.prog 88=some (.agg #[.int .i64 0,.int .i64 0,.int .i64 0,.int .i64 0,.int .i64 0]):=by kernel_rfl
theorem lO:qQ Tryz.prog 153=true:=by kernel_rfl
theorem gG:nq Tryz.prog 23 3=some (52,40):=by kernel_rfl
theorem gH:nq Tryz.prog 27 5=some (88,40):=by kernel_rfl
theorem qf:((Tryz.prog.info? 88).map (·.size)).isSome=true:=by kernel_rfl
theorem lP:nq Tryz.prog 28 3=some (62,32):=by kernel_rfl
theorem xZ:((Tryz.prog.info? 62).map (·.size)).isSome=true:=by kernel_rfl
theorem jy:nq Tryz.prog 29 3=some (85,24):=by kernel_rfl
theorem nD:((Tryz.prog.info? 85).map (·.size)).isSome=true:=by kernel_rfl
theorem gj:nq Tryz.prog 30 4=some (72,40):=by kernel_rfl
theorem tK:((Tryz.prog.info? 72).map (·.size)).isSome=true:=by kernel_rfl
theorem jz:nq Tryz.prog 60 1=some (3,8):=by kernel_rfl
theorem BM:∀args w,(callFunc 7 args).run Tryz.prog w = .ok (.enter 7 args) w:=enters_of Tryz.func7 (by kernel_rfl) rfl
theorem ya:∀args w,(callFunc 8 args).run Tryz.prog w = .ok (.enter 8 args) w:=enters_of Tryz.func8 (by kernel_rfl) rfl
theorem BN:∀args w,(callFunc 9 args).run Tryz.prog w = .ok (.enter 9 args) w:=enters_of Tryz.func9 (by kernel_rfl) rfl
theorem ze:∀args w,(callFunc 11 args).run Tryz.prog w = .ok (.enter 11 args) w:=enters_of Tryz.func11 (by kernel_rfl) rfl
theorem BO:∀args w,(callFunc 14 args).run Tryz.prog w = .ok (.enter 14 args) w:=enters_of Tryz.func14 (by kernel_rfl) rfl
theorem zf:∀args w,(callFunc 15 args).run Tryz.prog w = .ok (.enter 15 args) w:=enters_of Tryz.func15 (by kernel_rfl) rfl
theorem BP:∀args w,(callFunc 17 args).run Tryz.prog w = .ok (.enter 17 args) w:=enters_of Tryz.func17 (by kernel_rfl) rfl
theorem BQ:∀args w,(callFunc 18 args).run Tryz.prog w = .ok (.enter 18 args) w:=enters_of Tryz.func18 (by kernel_rfl) rfl
theorem BR:∀args w,(callFunc 22 args).run Tryz.prog w = .ok (.enter 22 args) w:=enters_of Tryz.func22 (by kernel_rfl) rfl
theorem BS:∀args w,(callFunc 23 args).run Tryz.prog w = .ok (.enter 23 args) w:=enters_of Tryz.func23 (by kernel_rfl) rfl
theorem BU:∀args w,(callFunc 24 args).run Tryz.prog w = .ok (.enter 24 args) w:=enters_of Tryz.func24 (by kernel_rfl) rfl
theorem BV:∀args w,(callFunc 25 args).run Tryz.prog w = .ok (.enter 25 args) w:=enters_of Tryz.func25 (by kernel_rfl) rfl
theorem zg:∀args w,(callFunc 26 args).run Tryz.prog w = .ok (.enter 26 args) w:=enters_of Tryz.func26 (by kernel_rfl) rfl
theorem BW:∀args w,(callFunc 27 args).run Tryz.prog w = .ok (.enter 27 args) w:=enters_of Tryz.func27 (by kernel_rfl) rfl
theorem BX:∀args w,(callFunc 28 args).run Tryz.prog w = .ok (.enter 28 args) w:=enters_of Tryz.func28 (by kernel_rfl) rfl
theorem vR:∀args w,(callFunc 29 args).run Tryz.prog w = .ok (.enter 29 args) w:=enters_of Tryz.func29 (by kernel_rfl) rfl
theorem zh:∀args w,(callFunc 30 args).run Tryz.prog w = .ok (.enter 30 args) w:=enters_of Tryz.func30 (by kernel_rfl) rfl
theorem BZ:∀args w,(callFunc 31 args).run Tryz.prog w = .ok (.enter 31 args) w:=enters_of Tryz.func31 (by kernel_rfl) rfl
theorem B3:∀args w,(callFunc 32 args).run Tryz.prog w = .ok (.enter 32 args) w:=enters_of Tryz.func32 (by kernel_rfl) rfl
theorem B5:∀args w,(callFunc 33 args).run Tryz.prog w = .ok (.enter 33 args) w:=enters_of Tryz.func33 (by kernel_rfl) rfl
theorem B6:∀args w,(callFunc 34 args).run Tryz.prog w = .ok (.enter 34 args) w:=enters_of Tryz.func34 (by kernel_rfl) rfl
theorem Ca:∀args w,(callFunc 35 args).run Tryz.prog w = .ok (.enter 35 args) w:=enters_of Tryz.func35 (by kernel_rfl) rfl
theorem Cb:∀args w,(callFunc 36 args).run Tryz.prog w = .ok (.enter 36 args) w:=enters_of Tryz.func36 (by kernel_rfl) rfl
theorem Cc:∀args w,(callFunc 37 args).run Tryz.prog w = .ok (.enter 37 args) w:=enters_of Tryz.func37 (by kernel_rfl) rfl
theorem vS:∀args w,(callFunc 46 args).run Tryz.prog w = .ok (.enter 46 args) w:=enters_of Tryz.func46 (by kernel_rfl) rfl
theorem jR:∀args w,(callFunc 47 args).run Tryz.prog w = .ok (.enter 47 args) w:=enters_of Tryz.func47 (by kernel_rfl) rfl
theorem tL:∀args w,(callFunc 50 args).run Tryz.prog w = .ok (.enter 50 args) w:=enters_of Tryz.func50 (by kernel_rfl) rfl
theorem Cd:∀args w,(callFunc 51 args).run Tryz.prog w = .ok (.enter 51 args) w:=enters_of Tryz.func51 (by kernel_rfl) rfl
theorem zi:∀args w,(callFunc 52 args).run Tryz.prog w = .ok (.enter 52 args) w:=enters_of Tryz.func52 (by kernel_rfl) rfl
theorem tM:∀args w,(callFunc 53 args).run Tryz.prog w = .ok (.enter 53 args) w:=enters_of Tryz.func53 (by kernel_rfl) rfl
theorem oq:∀args w,(callFunc 61 args).run Tryz.prog w = .ok (.enter 61 args) w:=enters_of Tryz.func61 (by kernel_rfl) rfl
theorem vT:∀args w,(callFunc 62 args).run Tryz.prog w = .ok (.enter 62 args) w:=enters_of Tryz.func62 (by kernel_rfl) rfl
theorem vU:∀args w,(callFunc 63 args).run Tryz.prog w = .ok (.enter 63 args) w:=enters_of Tryz.func63 (by kernel_rfl) rfl
theorem Ce:∀args w,(callFunc 64 args).run Tryz.prog w = .ok (.enter 64 args) w:=enters_of Tryz.func64 (by kernel_rfl) rfl
theorem jS:∀args w,(callFunc 65 args).run Tryz.prog w = .ok (.enter 65 args) w:=enters_of Tryz.func65 (by kernel_rfl) rfl
theorem qU:∀args w,(callFunc 66 args).run Tryz.prog w = .ok (.enter 66 args) w:=enters_of Tryz.func66 (by kernel_rfl) rfl
theorem Cg:∀args w,(callFunc 67 args).run Tryz.prog w = .ok (.enter 67 args) w:=enters_of Tryz.func67 (by kernel_rfl) rfl
theorem Ch:∀args w,(callFunc 68 args).run Tryz.prog w = .ok (.enter 68 args) w:=enters_of Tryz.func68 (by kernel_rfl) rfl
theorem Ci:∀args w,(callFunc 69 args).run Tryz.prog w = .ok (.enter 69 args) w:=enters_of Tryz.func69 (by kernel_rfl) rfl
theorem tN:∀args w,(callFunc 70 args).run Tryz.prog w = .ok (.enter 70 args) w:=enters_of Tryz.func70 (by kernel_rfl) rfl
theorem tO:∀args w,(callFunc 71 args).run Tryz.prog w = .ok (.enter 71 args) w:=enters_of Tryz.func71 (by kernel_rfl) rfl
theorem qV:∀args w,(callFunc 72 args).run Tryz.prog w = .ok (.enter 72 args) w:=enters_of Tryz.func72 (by kernel_rfl) rfl
theorem mX:∀args w,(callFunc 73 args).run Tryz.prog w = .ok (.enter 73 args) w:=enters_of Tryz.func73 (by kernel_rfl) rfl
theorem pI:∀args w,(callFunc 74 args).run Tryz.prog w = .ok (.enter 74 args) w:=enters_of Tryz.func74 (by kernel_rfl) rfl
theorem Cj:∀args w,(callFunc 75 args).run Tryz.prog w = .ok (.enter 75 args) w:=enters_of Tryz.func75 (by kernel_rfl) rfl
theorem Ck:∀args w,(callFunc 76 args).run Tryz.prog w = .ok (.enter 76 args) w:=enters_of Tryz.func76 (by kernel_rfl) rfl
theorem tP:∀args w,(callFunc 77 args).run Tryz.prog w = .ok (.enter 77 args) w:=enters_of Tryz.func77 (by kernel_rfl) rfl
theorem Cl:∀args w,(callFunc 78 args).run Tryz.prog w = .ok (.enter 78 args) w:=enters_of Tryz.func78 (by kernel_rfl) rfl
theorem mY:∀args w,(callFunc 79 args).run Tryz.prog w = .ok (.enter 79 args) w:=enters_of Tryz.func79 (by kernel_rfl) rfl
theorem vV:∀args w,(callFunc 80 args).run Tryz.prog w = .ok (.enter 80 args) w:=enters_of Tryz.func80 (by kernel_rfl) rfl
theorem mZ:∀args w,(callFunc 81 args).run Tryz.prog w = .ok (.enter 81 args) w:=enters_of Tryz.func81 (by kernel_rfl) rfl
theorem zj:∀args w,(callFunc 82 args).run Tryz.prog w = .ok (.enter 82 args) w:=enters_of Tryz.func82 (by kernel_rfl) rfl
theorem zm:∀args w,(callFunc 83 args).run Tryz.prog w = .ok (.enter 83 args) w:=enters_of Tryz.func83 (by kernel_rfl) rfl
theorem Cm:∀args w,(callFunc 84 args).run Tryz.prog w = .ok (.enter 84 args) w:=enters_of Tryz.func84 (by kernel_rfl) rfl
theorem zn:∀args w,(callFunc 85 args).run Tryz.prog w = .ok (.enter 85 args) w:=enters_of Tryz.func85 (by kernel_rfl) rfl
theorem Cn:∀args w,(callFunc 97 args).run Tryz.prog w = .ok (.enter 97 args) w:=enters_of Tryz.func97 (by kernel_rfl) rfl
theorem qW:∀args w,(callFunc 98 args).run Tryz.prog w = .ok (.enter 98 args) w:=enters_of Tryz.func98 (by kernel_rfl) rfl
theorem tQ:∀args w,(callFunc 99 args).run Tryz.prog w = .ok (.enter 99 args) w:=enters_of Tryz.func99 (by kernel_rfl) rfl
theorem vW:∀args w,(callFunc 100 args).run Tryz.prog w = .ok (.enter 100 args) w:=enters_of Tryz.func100 (by kernel_rfl) rfl
theorem qh:∀args w,(callFunc 106 args).run Tryz.prog w = .ok (.enter 106 args) w:=enters_of Tryz.func106 (by kernel_rfl) rfl
theorem zS:∀args w,(callFunc 107 args).run Tryz.prog w = .ok (.enter 107 args) w:=enters_of Tryz.func107 (by kernel_rfl) rfl
theorem zU:∀args w,(callFunc 108 args).run Tryz.prog w = .ok (.enter 108 args) w:=enters_of Tryz.func108 (by kernel_rfl) rfl
theorem zV:∀args w,(callFunc 109 args).run Tryz.prog w = .ok (.enter 109 args) w:=enters_of Tryz.func109 (by kernel_rfl) rfl
theorem vX:∀args w,(callFunc 110 args).run Tryz.prog w = .ok (.enter 110 args) w:=enters_of Tryz.func110 (by kernel_rfl) rfl
theorem zW:∀args w,(callFunc 111 args).run Tryz.prog w = .ok (.enter 111 args) w:=enters_of Tryz.func111 (by kernel_rfl) rfl
theorem vY:∀args w,(callFunc 112 args).run Tryz.prog w = .ok (.enter 112 args) w:=enters_of Tryz.func112 (by kernel_rfl) rfl
theorem su:∀args w,(callFunc 113 args).run Tryz.prog w = .ok (.enter 113 args) w:=enters_of Tryz.func113 (by kernel_rfl) rfl
theorem zX:∀args w,(callFunc 114 args).run Tryz.prog w = .ok (.enter 114 args) w:=enters_of Tryz.func114 (by kernel_rfl) rfl
theorem qi:∀args w,(callFunc 116 args).run Tryz.prog w = .ok (.enter 116 args) w:=enters_of Tryz.func116 (by kernel_rfl) rfl
theorem zY:∀args w,(callFunc 117 args).run Tryz.prog w = .ok (.enter 117 args) w:=enters_of Tryz.func117 (by kernel_rfl) rfl
theorem zZ:∀args w,(callFunc 118 args).run Tryz.prog w = .ok (.enter 118 args) w:=enters_of Tryz.func118 (by kernel_rfl) rfl
theorem Aa:∀args w,(callFunc 119 args).run Tryz.prog w = .ok (.enter 119 args) w:=enters_of Tryz.func119 (by kernel_rfl) rfl
theorem qj:∀args w,(callFunc 120 args).run Tryz.prog w = .ok (.enter 120 args) w:=enters_of Tryz.func120 (by kernel_rfl) rfl
theorem vZ:∀args w,(callFunc 121 args).run Tryz.prog w = .ok (.enter 121 args) w:=enters_of Tryz.func121 (by kernel_rfl) rfl
theorem v7:∀args w,(callFunc 131 args).run Tryz.prog w = .ok (.enter 131 args) w:=enters_of Tryz.func131 (by kernel_rfl) rfl
theorem v8:∀args w,(callFunc 143 args).run Tryz.prog w = .ok (.enter 143 args) w:=enters_of Tryz.func143 (by kernel_rfl) rfl
theorem Ab:∀args w,(callFunc 153 args).run Tryz.prog w = .ok (.enter 153 args) w:=enters_of Tryz.func153 (by kernel_rfl) rfl
theorem Ac:∀args w,(callFunc 154 args).run Tryz.prog w = .ok (.enter 154 args) w:=enters_of Tryz.func154 (by kernel_rfl) rfl
theorem Ad:∀args w,(callFunc 155 args).run Tryz.prog w = .ok (.enter 155 args) w:=enters_of Tryz.func155 (by kernel_rfl) rfl
theorem wa:∀args w,(callFunc 177 args).run Tryz.prog w = .ok (.enter 177 args) w:=enters_of Tryz.func177 (by kernel_rfl) rfl
theorem Ae:∀args w,(callFunc 178 args).run Tryz.prog w = .ok (.enter 178 args) w:=enters_of Tryz.func178 (by kernel_rfl) rfl
theorem wb:∀args w,(callFunc 179 args).run Tryz.prog w = .ok (.enter 179 args) w:=enters_of Tryz.func179 (by kernel_rfl) rfl
end Go.Proofs.YtbkfhjaibhnkmaaGreatDoor
