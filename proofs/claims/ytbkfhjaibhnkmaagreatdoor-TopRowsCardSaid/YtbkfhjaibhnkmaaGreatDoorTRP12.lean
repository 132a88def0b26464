import Derived.Test.YtbkfhjaibhnkmaaGreatDoorTRP7
import Derived.Test.YtbkfhjaibhnkmaaGreatDoorProg
import Derived.Shelf.Abstract
namespace Go.Proofs.YtbkfhjaibhnkmaaGreatDoor
open Go Go.RowKit
set_option linter.unusedVariables false
set_option maxRecDepth 100000
theorem mixed:Tryz.prog.follows .mixedOrders=true:=by kernel_rfl
theorem aA:iN Tryz.prog 3=true:=by kernel_rfl
theorem iR:fk Tryz.prog 3=some (.int .i64 0):=by kernel_rfl
theorem lB:iN Tryz.prog 4=true:=by kernel_rfl
theorem cd:iN Tryz.prog 9=true:=by kernel_rfl
theorem qL:mj Tryz.prog 22=some (42,11):=by kernel_rfl
theorem gL:mj Tryz.prog 23=some (52,3):=by kernel_rfl
theorem wG:iN Tryz.prog 23=true:=by kernel_rfl
theorem ct:mj Tryz.prog 27=some (88,5):=by kernel_rfl
theorem bq:iN Tryz.prog 27=true:=by kernel_rfl
theorem eQ:mj Tryz.prog 28=some (62,3):=by kernel_rfl
theorem cu:iN Tryz.prog 28=true:=by kernel_rfl
theorem bH:mj Tryz.prog 29=some (85,3):=by kernel_rfl
theorem cw:iN Tryz.prog 29=true:=by kernel_rfl
theorem dH:mj Tryz.prog 30=some (72,4):=by kernel_rfl
theorem bX:iN Tryz.prog 30=true:=by kernel_rfl
theorem av:iM Tryz.prog 32=some 6:=by kernel_rfl
theorem cJ:tB Tryz.prog 32=some ([(0,1),(1,1),(2,1),(3,1),(4,1),(5,1)],[.slice none 0 0,.slice none 0 0,.slice none 0 0,.slice none 0 0,.int .i64 0,.int .i64 0]):=by kernel_rfl
theorem aY:e9 Tryz.prog 32 0=some 0:=by kernel_rfl
theorem bI:e9 Tryz.prog 32 1=some 1:=by kernel_rfl
theorem bJ:e9 Tryz.prog 32 2=some 2:=by kernel_rfl
theorem bK:e9 Tryz.prog 32 3=some 3:=by kernel_rfl
theorem bL:e9 Tryz.prog 32 4=some 4:=by kernel_rfl
theorem cE:e9 Tryz.prog 32 5=some 5:=by kernel_rfl
theorem cj:fk Tryz.prog 32=some (.agg #[.slice none 0 0,.slice none 0 0,.slice none 0 0,.slice none 0 0,.int .i64 0,.int .i64 0]):=by kernel_rfl
theorem bk:iM Tryz.prog 39=some 2:=by kernel_rfl
theorem lW:tB Tryz.prog 39=some ([(0,1),(1,1)],[.int .i64 0,.int .i64 0]):=by kernel_rfl
theorem dE:e9 Tryz.prog 39 0=some 0:=by kernel_rfl
theorem iq:e9 Tryz.prog 39 1=some 1:=by kernel_rfl
theorem pK:fk Tryz.prog 39=some (.agg #[.int .i64 0,.int .i64 0]):=by kernel_rfl
theorem wH:iM Tryz.prog 42=some 11:=by kernel_rfl
theorem td:e9 Tryz.prog 42 0=some 0:=by kernel_rfl
theorem lC:e9 Tryz.prog 42 1=some 1:=by kernel_rfl
theorem fx:e9 Tryz.prog 42 2=some 2:=by kernel_rfl
theorem tf:e9 Tryz.prog 42 3=some 4:=by kernel_rfl
theorem jO:e9 Tryz.prog 42 4=some 6:=by kernel_rfl
theorem ot:e9 Tryz.prog 42 5=some 7:=by kernel_rfl
theorem tg:e9 Tryz.prog 42 8=some 10:=by kernel_rfl
theorem jP:iM Tryz.prog 52=some 3:=by kernel_rfl
theorem sg:tB Tryz.prog 52=some ([(0,1),(1,1),(2,1)],[.string ⟨#[]⟩,.string ⟨#[]⟩,.bool false]):=by kernel_rfl
theorem cM:e9 Tryz.prog 52 0=some 0:=by kernel_rfl
theorem d9:e9 Tryz.prog 52 1=some 1:=by kernel_rfl
theorem gF:e9 Tryz.prog 52 2=some 2:=by kernel_rfl
theorem jz:fk Tryz.prog 52=some (.agg #[.string ⟨#[]⟩,.string ⟨#[]⟩,.bool false]):=by kernel_rfl
theorem cG:mj Tryz.prog 60=some (3,1):=by kernel_rfl
theorem jQ:iN Tryz.prog 60=true:=by kernel_rfl
theorem pL:fk Tryz.prog 60=some (.slice none 0 0):=by kernel_rfl
theorem eR:iM Tryz.prog 62=some 3:=by kernel_rfl
theorem uA:tB Tryz.prog 62=some ([(0,1),(1,1),(2,1)],[.int .i64 0,.int .i64 0,.string ⟨#[]⟩]):=by kernel_rfl
theorem jR:e9 Tryz.prog 62 0=some 0:=by kernel_rfl
theorem ou:e9 Tryz.prog 62 1=some 1:=by kernel_rfl
theorem ov:e9 Tryz.prog 62 2=some 2:=by kernel_rfl
theorem fE:fk Tryz.prog 62=some (.agg #[.int .i64 0,.int .i64 0,.string ⟨#[]⟩]):=by kernel_rfl
theorem bT:iM Tryz.prog 72=some 4:=by kernel_rfl
theorem sh:tB Tryz.prog 72=some ([(0,1),(1,1),(2,1),(3,1)],[.int .i64 0,.string ⟨#[]⟩,.int .i64 0,.int .i64 0]):=by kernel_rfl
theorem jS:e9 Tryz.prog 72 0=some 0:=by kernel_rfl
theorem eP:e9 Tryz.prog 72 3=some 3:=by kernel_rfl
theorem dq:fk Tryz.prog 72=some (.agg #[.int .i64 0,.string ⟨#[]⟩,.int .i64 0,.int .i64 0]):=by kernel_rfl
theorem bz:Tryz.prog.concrete 82=true:=by kernel_rfl
theorem dV:iM Tryz.prog 85=some 3:=by kernel_rfl
theorem xH:tB Tryz.prog 85=some ([(0,2),(2,1)],[.int .i64 0,.int .i64 0,.int .i64 0]):=by kernel_rfl
theorem lD:e9 Tryz.prog 85 0=some 0:=by kernel_rfl
theorem fV:e9 Tryz.prog 85 1=some 2:=by kernel_rfl
theorem eV:fk Tryz.prog 85=some (.agg #[.int .i64 0,.int .i64 0,.int .i64 0]):=by kernel_rfl
theorem aN:iM Tryz.prog 88=some 5:=by kernel_rfl
theorem gk:tB Tryz.prog 88=some ([(0,1),(1,1),(2,1),(3,1),(4,1)],[.int .i64 0,.int .i64 0,.int .i64 0,.int .i64 0,.int .i64 0]):=by kernel_rfl
theorem bu:e9 Tryz.prog 88 0=some 0:=by kernel_rfl
theorem eB:e9 Tryz.prog 88 1=some 1:=by kernel_rfl
theorem fy:e9 Tryz.prog 88 2=some 2:=by kernel_rfl
theorem fA:e9 Tryz.prog 88 3=some 3:=by kernel_rfl
theorem dP:e9 Tryz.prog 88 4=some 4:=by kernel_rfl
theorem br:fk Tryz.prog 88=some (.agg #[.int .i64 0,.int .i64 0,.int .i64 0,.int .i64 0,.int .i64 0]):=by kernel_rfl
theorem kY:pH Tryz.prog 153=true:=by kernel_rfl
theorem mF:mY Tryz.prog 23 3=some (52,40):=by kernel_rfl
theorem f6:mY Tryz.prog 27 5=some (88,40):=by kernel_rfl
theorem oX:((Tryz.prog.info? 88).map (·.size)).isSome=true:=by kernel_rfl
theorem kZ:mY Tryz.prog 28 3=some (62,32):=by kernel_rfl
theorem wI:((Tryz.prog.info? 62).map (·.size)).isSome=true:=by kernel_rfl
theorem iT:mY Tryz.prog 29 3=some (85,24):=by kernel_rfl
theorem mG:((Tryz.prog.info? 85).map (·.size)).isSome=true:=by kernel_rfl
theorem fF:mY Tryz.prog 30 4=some (72,40):=by kernel_rfl
theorem si:((Tryz.prog.info? 72).map (·.size)).isSome=true:=by kernel_rfl
theorem jT:mY Tryz.prog 60 1=some (3,8):=by kernel_rfl
theorem zV:∀args w,(callFunc 7 args).run Tryz.prog w = .ok (.enter 7 args) w:=enters_of Tryz.func7 (by kernel_rfl) rfl
theorem zW:∀args w,(callFunc 8 args).run Tryz.prog w = .ok (.enter 8 args) w:=enters_of Tryz.func8 (by kernel_rfl) rfl
theorem zX:∀args w,(callFunc 9 args).run Tryz.prog w = .ok (.enter 9 args) w:=enters_of Tryz.func9 (by kernel_rfl) rfl
theorem xI:∀args w,(callFunc 11 args).run Tryz.prog w = .ok (.enter 11 args) w:=enters_of Tryz.func11 (by kernel_rfl) rfl
theorem xJ:∀args w,(callFunc 15 args).run Tryz.prog w = .ok (.enter 15 args) w:=enters_of Tryz.func15 (by kernel_rfl) rfl
theorem zY:∀args w,(callFunc 17 args).run Tryz.prog w = .ok (.enter 17 args) w:=enters_of Tryz.func17 (by kernel_rfl) rfl
theorem zZ:∀args w,(callFunc 18 args).run Tryz.prog w = .ok (.enter 18 args) w:=enters_of Tryz.func18 (by kernel_rfl) rfl
theorem Aa:∀args w,(callFunc 22 args).run Tryz.prog w = .ok (.enter 22 args) w:=enters_of Tryz.func22 (by kernel_rfl) rfl
theorem Ab:∀args w,(callFunc 23 args).run Tryz.prog w = .ok (.enter 23 args) w:=enters_of Tryz.func23 (by kernel_rfl) rfl
theorem xK:∀args w,(callFunc 24 args).run Tryz.prog w = .ok (.enter 24 args) w:=enters_of Tryz.func24 (by kernel_rfl) rfl
theorem Ac:∀args w,(callFunc 26 args).run Tryz.prog w = .ok (.enter 26 args) w:=enters_of Tryz.func26 (by kernel_rfl) rfl
theorem xL:∀args w,(callFunc 29 args).run Tryz.prog w = .ok (.enter 29 args) w:=enters_of Tryz.func29 (by kernel_rfl) rfl
theorem xM:∀args w,(callFunc 30 args).run Tryz.prog w = .ok (.enter 30 args) w:=enters_of Tryz.func30 (by kernel_rfl) rfl
theorem Ad:∀args w,(callFunc 31 args).run Tryz.prog w = .ok (.enter 31 args) w:=enters_of Tryz.func31 (by kernel_rfl) rfl
theorem Ae:∀args w,(callFunc 32 args).run Tryz.prog w = .ok (.enter 32 args) w:=enters_of Tryz.func32 (by kernel_rfl) rfl
theorem Af:∀args w,(callFunc 33 args).run Tryz.prog w = .ok (.enter 33 args) w:=enters_of Tryz.func33 (by kernel_rfl) rfl
theorem Ag:∀args w,(callFunc 34 args).run Tryz.prog w = .ok (.enter 34 args) w:=enters_of Tryz.func34 (by kernel_rfl) rfl
theorem Ah:∀args w,(callFunc 35 args).run Tryz.prog w = .ok (.enter 35 args) w:=enters_of Tryz.func35 (by kernel_rfl) rfl
theorem Ai:∀args w,(callFunc 36 args).run Tryz.prog w = .ok (.enter 36 args) w:=enters_of Tryz.func36 (by kernel_rfl) rfl
theorem Aj:∀args w,(callFunc 37 args).run Tryz.prog w = .ok (.enter 37 args) w:=enters_of Tryz.func37 (by kernel_rfl) rfl
theorem uB:∀args w,(callFunc 46 args).run Tryz.prog w = .ok (.enter 46 args) w:=enters_of Tryz.func46 (by kernel_rfl) rfl
theorem jg:∀args w,(callFunc 47 args).run Tryz.prog w = .ok (.enter 47 args) w:=enters_of Tryz.func47 (by kernel_rfl) rfl
theorem sj:∀args w,(callFunc 50 args).run Tryz.prog w = .ok (.enter 50 args) w:=enters_of Tryz.func50 (by kernel_rfl) rfl
theorem Ak:∀args w,(callFunc 51 args).run Tryz.prog w = .ok (.enter 51 args) w:=enters_of Tryz.func51 (by kernel_rfl) rfl
theorem xO:∀args w,(callFunc 52 args).run Tryz.prog w = .ok (.enter 52 args) w:=enters_of Tryz.func52 (by kernel_rfl) rfl
theorem sk:∀args w,(callFunc 53 args).run Tryz.prog w = .ok (.enter 53 args) w:=enters_of Tryz.func53 (by kernel_rfl) rfl
theorem ng:∀args w,(callFunc 61 args).run Tryz.prog w = .ok (.enter 61 args) w:=enters_of Tryz.func61 (by kernel_rfl) rfl
theorem uC:∀args w,(callFunc 62 args).run Tryz.prog w = .ok (.enter 62 args) w:=enters_of Tryz.func62 (by kernel_rfl) rfl
theorem uD:∀args w,(callFunc 63 args).run Tryz.prog w = .ok (.enter 63 args) w:=enters_of Tryz.func63 (by kernel_rfl) rfl
theorem Al:∀args w,(callFunc 64 args).run Tryz.prog w = .ok (.enter 64 args) w:=enters_of Tryz.func64 (by kernel_rfl) rfl
theorem jh:∀args w,(callFunc 65 args).run Tryz.prog w = .ok (.enter 65 args) w:=enters_of Tryz.func65 (by kernel_rfl) rfl
theorem pN:∀args w,(callFunc 66 args).run Tryz.prog w = .ok (.enter 66 args) w:=enters_of Tryz.func66 (by kernel_rfl) rfl
theorem Am:∀args w,(callFunc 68 args).run Tryz.prog w = .ok (.enter 68 args) w:=enters_of Tryz.func68 (by kernel_rfl) rfl
theorem Ao:∀args w,(callFunc 69 args).run Tryz.prog w = .ok (.enter 69 args) w:=enters_of Tryz.func69 (by kernel_rfl) rfl
theorem sn:∀args w,(callFunc 70 args).run Tryz.prog w = .ok (.enter 70 args) w:=enters_of Tryz.func70 (by kernel_rfl) rfl
theorem sq:∀args w,(callFunc 71 args).run Tryz.prog w = .ok (.enter 71 args) w:=enters_of Tryz.func71 (by kernel_rfl) rfl
theorem pO:∀args w,(callFunc 72 args).run Tryz.prog w = .ok (.enter 72 args) w:=enters_of Tryz.func72 (by kernel_rfl) rfl
theorem lX:∀args w,(callFunc 73 args).run Tryz.prog w = .ok (.enter 73 args) w:=enters_of Tryz.func73 (by kernel_rfl) rfl
theorem ow:∀args w,(callFunc 74 args).run Tryz.prog w = .ok (.enter 74 args) w:=enters_of Tryz.func74 (by kernel_rfl) rfl
theorem Ap:∀args w,(callFunc 75 args).run Tryz.prog w = .ok (.enter 75 args) w:=enters_of Tryz.func75 (by kernel_rfl) rfl
theorem Aq:∀args w,(callFunc 76 args).run Tryz.prog w = .ok (.enter 76 args) w:=enters_of Tryz.func76 (by kernel_rfl) rfl
theorem sr:∀args w,(callFunc 77 args).run Tryz.prog w = .ok (.enter 77 args) w:=enters_of Tryz.func77 (by kernel_rfl) rfl
theorem Ar:∀args w,(callFunc 78 args).run Tryz.prog w = .ok (.enter 78 args) w:=enters_of Tryz.func78 (by kernel_rfl) rfl
theorem lY:∀args w,(callFunc 79 args).run Tryz.prog w = .ok (.enter 79 args) w:=enters_of Tryz.func79 (by kernel_rfl) rfl
theorem uE:∀args w,(callFunc 80 args).run Tryz.prog w = .ok (.enter 80 args) w:=enters_of Tryz.func80 (by kernel_rfl) rfl
theorem lZ:∀args w,(callFunc 81 args).run Tryz.prog w = .ok (.enter 81 args) w:=enters_of Tryz.func81 (by kernel_rfl) rfl
theorem xP:∀args w,(callFunc 82 args).run Tryz.prog w = .ok (.enter 82 args) w:=enters_of Tryz.func82 (by kernel_rfl) rfl
theorem xQ:∀args w,(callFunc 83 args).run Tryz.prog w = .ok (.enter 83 args) w:=enters_of Tryz.func83 (by kernel_rfl) rfl
theorem Au:∀args w,(callFunc 84 args).run Tryz.prog w = .ok (.enter 84 args) w:=enters_of Tryz.func84 (by kernel_rfl) rfl
theorem xR:∀args w,(callFunc 85 args).run Tryz.prog w = .ok (.enter 85 args) w:=enters_of Tryz.func85 (by kernel_rfl) rfl
theorem Av:∀args w,(callFunc 97 args).run Tryz.prog w = .ok (.enter 97 args) w:=enters_of Tryz.func97 (by kernel_rfl) rfl
theorem pP:∀args w,(callFunc 98 args).run Tryz.prog w = .ok (.enter 98 args) w:=enters_of Tryz.func98 (by kernel_rfl) rfl
theorem su:∀args w,(callFunc 99 args).run Tryz.prog w = .ok (.enter 99 args) w:=enters_of Tryz.func99 (by kernel_rfl) rfl
theorem uF:∀args w,(callFunc 100 args).run Tryz.prog w = .ok (.enter 100 args) w:=enters_of Tryz.func100 (by kernel_rfl) rfl
theorem oY:∀args w,(callFunc 106 args).run Tryz.prog w = .ok (.enter 106 args) w:=enters_of Tryz.func106 (by kernel_rfl) rfl
theorem yr:∀args w,(callFunc 107 args).run Tryz.prog w = .ok (.enter 107 args) w:=enters_of Tryz.func107 (by kernel_rfl) rfl
theorem yt:∀args w,(callFunc 108 args).run Tryz.prog w = .ok (.enter 108 args) w:=enters_of Tryz.func108 (by kernel_rfl) rfl
theorem yu:∀args w,(callFunc 109 args).run Tryz.prog w = .ok (.enter 109 args) w:=enters_of Tryz.func109 (by kernel_rfl) rfl
theorem uG:∀args w,(callFunc 110 args).run Tryz.prog w = .ok (.enter 110 args) w:=enters_of Tryz.func110 (by kernel_rfl) rfl
theorem yv:∀args w,(callFunc 111 args).run Tryz.prog w = .ok (.enter 111 args) w:=enters_of Tryz.func111 (by kernel_rfl) rfl
theorem uH:∀args w,(callFunc 112 args).run Tryz.prog w = .ok (.enter 112 args) w:=enters_of Tryz.func112 (by kernel_rfl) rfl
theorem qM:∀args w,(callFunc 113 args).run Tryz.prog w = .ok (.enter 113 args) w:=enters_of Tryz.func113 (by kernel_rfl) rfl
theorem yw:∀args w,(callFunc 114 args).run Tryz.prog w = .ok (.enter 114 args) w:=enters_of Tryz.func114 (by kernel_rfl) rfl
theorem oZ:∀args w,(callFunc 116 args).run Tryz.prog w = .ok (.enter 116 args) w:=enters_of Tryz.func116 (by kernel_rfl) rfl
theorem yx:∀args w,(callFunc 117 args).run Tryz.prog w = .ok (.enter 117 args) w:=enters_of Tryz.func117 (by kernel_rfl) rfl
theorem yy:∀args w,(callFunc 118 args).run Tryz.prog w = .ok (.enter 118 args) w:=enters_of Tryz.func118 (by kernel_rfl) rfl
theorem yz:∀args w,(callFunc 119 args).run Tryz.prog w = .ok (.enter 119 args) w:=enters_of Tryz.func119 (by kernel_rfl) rfl
theorem o0:∀args w,(callFunc 120 args).run Tryz.prog w = .ok (.enter 120 args) w:=enters_of Tryz.func120 (by kernel_rfl) rfl
theorem uI:∀args w,(callFunc 121 args).run Tryz.prog w = .ok (.enter 121 args) w:=enters_of Tryz.func121 (by kernel_rfl) rfl
theorem uJ:∀args w,(callFunc 131 args).run Tryz.prog w = .ok (.enter 131 args) w:=enters_of Tryz.func131 (by kernel_rfl) rfl
theorem uK:∀args w,(callFunc 143 args).run Tryz.prog w = .ok (.enter 143 args) w:=enters_of Tryz.func143 (by kernel_rfl) rfl
theorem yA:∀args w,(callFunc 153 args).run Tryz.prog w = .ok (.enter 153 args) w:=enters_of Tryz.func153 (by kernel_rfl) rfl
theorem yB:∀args w,(callFunc 154 args).run Tryz.prog w = .ok (.enter 154 args) w:=enters_of Tryz.func154 (by kernel_rfl) rfl
theorem yC:∀args w,(callFunc 155 args).run Tryz.prog w = .ok (.enter 155 args) w:=enters_of Tryz.func155 (by kernel_rfl) rfl
theorem uL:∀args w,(callFunc 177 args).run Tryz.prog w = .ok (.enter 177 args) w:=enters_of Tryz.func177 (by kernel_rfl) rfl
theorem yD:∀args w,(callFunc 178 args).run Tryz.prog w = .ok (.enter 178 args) w:=enters_of Tryz.func178 (by kernel_rfl) rfl
theorem uM:∀args w,(callFunc 179 args).run Tryz.prog w = .ok (.enter 179 args) w:=enters_of Tryz.func179 (by kernel_rfl) rfl
end Go.Proofs.YtbkfhjaibhnkmaaGreatDoor
