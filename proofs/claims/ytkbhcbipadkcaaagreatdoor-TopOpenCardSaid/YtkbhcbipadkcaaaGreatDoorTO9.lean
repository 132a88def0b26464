import Derived.Test.YtkbhcbipadkcaaaGreatDoorTO8
import Derived.Shelf.Abstract
namespace Go.Proofs.YtkbhcbipadkcaaaGreatDoor
set_option linter.unusedVariables false
set_option linter.unusedSimpArgs false
open Go Go.RowKit
set_option maxRecDepth 100000
theorem mixed:Tryz.prog.follows .mixedOrders=true:=by kernel_rfl
theorem au:kg Tryz.prog 3=true:=by kernel_rfl
theorem lU:fZ Tryz.prog 3=some (.int .i64 0):=by kernel_rfl
theorem iW:kg Tryz.prog 4=true:=by kernel_rfl
theorem ey:fZ Tryz.prog 5=some (.int .u8 0):=by kernel_rfl
theorem bE:kg Tryz.prog 9=true:=by kernel_rfl
theorem FT:fZ Tryz.prog 9=some (.string ⟨#[]⟩):=by kernel_rfl
theorem Av:pw Tryz.prog 22=some (36,11):=by kernel_rfl
theorem jt:kg Tryz.prog 25=true:=by kernel_rfl
theorem bM:nE Tryz.prog 32=some 2:=by kernel_rfl
theorem wk:tB Tryz.prog 32=some ([(0,1),(1,1)],[.int .i64 0,.int .i64 0]):=by kernel_rfl
theorem fq:eQ Tryz.prog 32 0=some 0:=by kernel_rfl
theorem nJ:eQ Tryz.prog 32 1=some 1:=by kernel_rfl
theorem Co:fZ Tryz.prog 32=some (.agg #[.int .i64 0,.int .i64 0]):=by kernel_rfl
theorem cd:pw Tryz.prog 34=some (117,3):=by kernel_rfl
theorem gw:kg Tryz.prog 34=true:=by kernel_rfl
theorem I2:fZ Tryz.prog 34=some (.slice none 0 0):=by kernel_rfl
theorem FU:nE Tryz.prog 36=some 11:=by kernel_rfl
theorem RD:tB Tryz.prog 36=some ([(0,1),(1,1),(2,2),(4,2),(6,1),(7,1),(8,1),(9,1),(10,1)],[.string ⟨#[]⟩,.string ⟨#[]⟩,.int .i64 0,.int .i64 0,.int .i64 0,.int .i64 0,.int .i64 0,.int .i64 0,.int .i64 0,.int .u64 0,.slice none 0 0]):=by kernel_rfl
theorem ze:eQ Tryz.prog 36 0=some 0:=by kernel_rfl
theorem tI:eQ Tryz.prog 36 1=some 1:=by kernel_rfl
theorem j2:eQ Tryz.prog 36 2=some 2:=by kernel_rfl
theorem G8:eQ Tryz.prog 36 3=some 4:=by kernel_rfl
theorem qz:eQ Tryz.prog 36 4=some 6:=by kernel_rfl
theorem zf:eQ Tryz.prog 36 5=some 7:=by kernel_rfl
theorem G9:eQ Tryz.prog 36 8=some 10:=by kernel_rfl
theorem lh:kg Tryz.prog 38=true:=by kernel_rfl
theorem I3:fZ Tryz.prog 38=some (.nilIface):=by kernel_rfl
theorem vu:kg Tryz.prog 39=true:=by kernel_rfl
theorem I4:fZ Tryz.prog 39=some (.nilFunc):=by kernel_rfl
theorem dJ:pw Tryz.prog 43=some (127,5):=by kernel_rfl
theorem bS:kg Tryz.prog 43=true:=by kernel_rfl
theorem iM:pw Tryz.prog 44=some (100,3):=by kernel_rfl
theorem dC:kg Tryz.prog 44=true:=by kernel_rfl
theorem cI:pw Tryz.prog 45=some (124,3):=by kernel_rfl
theorem dD:kg Tryz.prog 45=true:=by kernel_rfl
theorem fu:pw Tryz.prog 46=some (89,4):=by kernel_rfl
theorem du:kg Tryz.prog 46=true:=by kernel_rfl
theorem ao:nE Tryz.prog 48=some 6:=by kernel_rfl
theorem dZ:tB Tryz.prog 48=some ([(0,1),(1,1),(2,1),(3,1),(4,1),(5,1)],[.slice none 0 0,.slice none 0 0,.slice none 0 0,.slice none 0 0,.int .i64 0,.int .i64 0]):=by kernel_rfl
theorem bg:eQ Tryz.prog 48 0=some 0:=by kernel_rfl
theorem I5:TR Tryz.prog 48 1=some (1,none):=by kernel_rfl
theorem cy:eQ Tryz.prog 48 1=some 1:=by kernel_rfl
theorem cz:eQ Tryz.prog 48 2=some 2:=by kernel_rfl
theorem cB:eQ Tryz.prog 48 3=some 3:=by kernel_rfl
theorem cJ:eQ Tryz.prog 48 4=some 4:=by kernel_rfl
theorem dO:eQ Tryz.prog 48 5=some 5:=by kernel_rfl
theorem dP:fZ Tryz.prog 48=some (.agg #[.slice none 0 0,.slice none 0 0,.slice none 0 0,.slice none 0 0,.int .i64 0,.int .i64 0]):=by kernel_rfl
theorem iP:kg Tryz.prog 76=true:=by kernel_rfl
theorem RE:tB Tryz.prog 78=some ([(0,1),(1,6)],[.pointer none,.slice none 0 0,.slice none 0 0,.slice none 0 0,.slice none 0 0,.int .i64 0,.int .i64 0]):=by kernel_rfl
theorem zg:eQ Tryz.prog 78 0=some 0:=by kernel_rfl
theorem nK:eQ Tryz.prog 78 1=some 1:=by kernel_rfl
theorem dh:nE Tryz.prog 89=some 4:=by kernel_rfl
theorem FV:tB Tryz.prog 89=some ([(0,1),(1,1),(2,1),(3,1)],[.int .i64 0,.string ⟨#[]⟩,.int .i64 0,.int .i64 0]):=by kernel_rfl
theorem qB:eQ Tryz.prog 89 0=some 0:=by kernel_rfl
theorem iG:eQ Tryz.prog 89 3=some 3:=by kernel_rfl
theorem eU:fZ Tryz.prog 89=some (.agg #[.int .i64 0,.string ⟨#[]⟩,.int .i64 0,.int .i64 0]):=by kernel_rfl
theorem bj:Tryz.prog.concrete 93=true:=by kernel_rfl
theorem gx:nE Tryz.prog 100=some 3:=by kernel_rfl
theorem Ev:tB Tryz.prog 100=some ([(0,1),(1,1),(2,1)],[.int .i64 0,.int .i64 0,.string ⟨#[]⟩]):=by kernel_rfl
theorem oy:eQ Tryz.prog 100 0=some 0:=by kernel_rfl
theorem wm:eQ Tryz.prog 100 1=some 1:=by kernel_rfl
theorem wn:eQ Tryz.prog 100 2=some 2:=by kernel_rfl
theorem ju:fZ Tryz.prog 100=some (.agg #[.int .i64 0,.int .i64 0,.string ⟨#[]⟩]):=by kernel_rfl
theorem gy:pw Tryz.prog 109=some (9,1):=by kernel_rfl
theorem gA:kg Tryz.prog 109=true:=by kernel_rfl
theorem qC:pw Tryz.prog 110=some (114,2):=by kernel_rfl
theorem gB:kg Tryz.prog 110=true:=by kernel_rfl
theorem OW:tB Tryz.prog 112=some ([(0,1),(1,1),(2,1),(3,1),(4,1)],[.slice none 0 0,.slice none 0 0,.slice none 0 0,.int .i64 0,.bool false]):=by kernel_rfl
theorem Ew:eQ Tryz.prog 112 0=some 0:=by kernel_rfl
theorem iX:eQ Tryz.prog 112 1=some 1:=by kernel_rfl
theorem gM:eQ Tryz.prog 112 2=some 2:=by kernel_rfl
theorem oz:eQ Tryz.prog 112 3=some 3:=by kernel_rfl
theorem jR:eQ Tryz.prog 112 4=some 4:=by kernel_rfl
theorem Aw:tB Tryz.prog 114=some ([(0,1),(1,1)],[.int .i64 0,.string ⟨#[]⟩]):=by kernel_rfl
theorem l7:fZ Tryz.prog 114=some (.agg #[.int .i64 0,.string ⟨#[]⟩]):=by kernel_rfl
theorem aX:nE Tryz.prog 117=some 3:=by kernel_rfl
theorem kM:tB Tryz.prog 117=some ([(0,1),(1,1),(2,1)],[.string ⟨#[]⟩,.string ⟨#[]⟩,.bool false]):=by kernel_rfl
theorem bG:eQ Tryz.prog 117 0=some 0:=by kernel_rfl
theorem cX:eQ Tryz.prog 117 1=some 1:=by kernel_rfl
theorem gN:eQ Tryz.prog 117 2=some 2:=by kernel_rfl
theorem cF:fZ Tryz.prog 117=some (.agg #[.string ⟨#[]⟩,.string ⟨#[]⟩,.bool false]):=by kernel_rfl
theorem eV:nE Tryz.prog 124=some 3:=by kernel_rfl
theorem I6:tB Tryz.prog 124=some ([(0,2),(2,1)],[.int .i64 0,.int .i64 0,.int .i64 0]):=by kernel_rfl
theorem rP:eQ Tryz.prog 124 0=some 0:=by kernel_rfl
theorem jS:eQ Tryz.prog 124 1=some 2:=by kernel_rfl
theorem gY:fZ Tryz.prog 124=some (.agg #[.int .i64 0,.int .i64 0,.int .i64 0]):=by kernel_rfl
theorem aM:nE Tryz.prog 127=some 5:=by kernel_rfl
theorem iY:tB Tryz.prog 127=some ([(0,1),(1,1),(2,1),(3,1),(4,1)],[.int .i64 0,.int .i64 0,.int .i64 0,.int .i64 0,.int .i64 0]):=by kernel_rfl
theorem bU:eQ Tryz.prog 127 0=some 0:=by kernel_rfl
theorem fR:eQ Tryz.prog 127 1=some 1:=by kernel_rfl
theorem jT:eQ Tryz.prog 127 2=some 2:=by kernel_rfl
theorem iZ:eQ Tryz.prog 127 3=some 3:=by kernel_rfl
theorem eX:eQ Tryz.prog 127 4=some 4:=by kernel_rfl
theorem bO:fZ Tryz.prog 127=some (.agg #[.int .i64 0,.int .i64 0,.int .i64 0,.int .i64 0,.int .i64 0]):=by kernel_rfl
theorem aT:nE Tryz.prog 130=some 4:=by kernel_rfl
theorem eM:tB Tryz.prog 130=some ([(0,1),(1,1),(2,1),(3,1)],[.int .i64 0,.int .i64 0,.int .i64 0,.int .i64 0]):=by kernel_rfl
theorem i6:eQ Tryz.prog 130 0=some 0:=by kernel_rfl
theorem iu:eQ Tryz.prog 130 1=some 1:=by kernel_rfl
theorem jU:eQ Tryz.prog 130 2=some 2:=by kernel_rfl
theorem i7:eQ Tryz.prog 130 3=some 3:=by kernel_rfl
theorem jv:fZ Tryz.prog 130=some (.agg #[.int .i64 0,.int .i64 0,.int .i64 0,.int .i64 0]):=by kernel_rfl
theorem fB:kg Tryz.prog 131=true:=by kernel_rfl
theorem OX:tB Tryz.prog 133=some ([(0,1),(1,4),(5,1),(6,1)],[.pointer none,.int .i64 0,.int .i64 0,.int .i64 0,.int .i64 0,.pointer none,.slice none 0 0]):=by kernel_rfl
theorem jV:eQ Tryz.prog 133 0=some 0:=by kernel_rfl
theorem gO:eQ Tryz.prog 133 1=some 1:=by kernel_rfl
theorem kN:eQ Tryz.prog 133 2=some 5:=by kernel_rfl
theorem jc:eQ Tryz.prog 133 3=some 6:=by kernel_rfl
theorem aR:pw Tryz.prog 138=some (5,1):=by kernel_rfl
theorem mq:kg Tryz.prog 138=true:=by kernel_rfl
theorem FW:pw Tryz.prog 141=some (34,1):=by kernel_rfl
theorem da:pw Tryz.prog 159=some (3,1):=by kernel_rfl
theorem nL:kg Tryz.prog 159=true:=by kernel_rfl
theorem zh:fZ Tryz.prog 159=some (.slice none 0 0):=by kernel_rfl
theorem sN:kg Tryz.prog 192=true:=by kernel_rfl
theorem oA:eQ Tryz.prog 194 0=some 0:=by kernel_rfl
theorem oB:eQ Tryz.prog 194 1=some 1:=by kernel_rfl
theorem Ha:fZ Tryz.prog 194=some (.agg #[.pointer none,.slice none 0 0]):=by kernel_rfl
theorem OY:tB Tryz.prog 198=some ([(0,1),(1,1),(2,1),(3,1),(4,1)],[.pointer none,.int .i64 0,.int .i64 0,.int .i64 0,.int .i64 0]):=by kernel_rfl
theorem kO:eQ Tryz.prog 198 0=some 0:=by kernel_rfl
theorem oC:eQ Tryz.prog 198 1=some 1:=by kernel_rfl
theorem rQ:eQ Tryz.prog 198 2=some 2:=by kernel_rfl
theorem jW:eQ Tryz.prog 198 3=some 3:=by kernel_rfl
theorem jX:eQ Tryz.prog 198 4=some 4:=by kernel_rfl
theorem sO:Cj Tryz.prog 230=true:=by kernel_rfl
theorem sP:pw Tryz.prog 238=some (39,1):=by kernel_rfl
theorem jw:sI Tryz.prog 34 3=some (117,40):=by kernel_rfl
theorem Ax:((Tryz.prog.info? 117).map (·.size)).isSome=true:=by kernel_rfl
theorem lj:sI Tryz.prog 43 5=some (127,40):=by kernel_rfl
theorem Ay:((Tryz.prog.info? 127).map (·.size)).isSome=true:=by kernel_rfl
theorem sQ:sI Tryz.prog 44 3=some (100,32):=by kernel_rfl
theorem Ma:((Tryz.prog.info? 100).map (·.size)).isSome=true:=by kernel_rfl
theorem oD:sI Tryz.prog 45 3=some (124,24):=by kernel_rfl
theorem vv:((Tryz.prog.info? 124).map (·.size)).isSome=true:=by kernel_rfl
theorem kj:sI Tryz.prog 46 4=some (89,40):=by kernel_rfl
theorem FX:((Tryz.prog.info? 89).map (·.size)).isSome=true:=by kernel_rfl
theorem I7:sI Tryz.prog 109 1=some (9,16):=by kernel_rfl
theorem Cp:((Tryz.prog.info? 9).map (·.size)).isSome=true:=by kernel_rfl
theorem nM:sI Tryz.prog 110 2=some (114,24):=by kernel_rfl
theorem I8:sI Tryz.prog 141 1=some (34,24):=by kernel_rfl
theorem nO:sI Tryz.prog 159 1=some (3,8):=by kernel_rfl
theorem Mb:∀args w,(callFunc 9 args).run Tryz.prog w = .ok (.enter 9 args) w:=enters_of Tryz.func9 (by kernel_rfl) rfl
theorem NM:∀args w,(callFunc 10 args).run Tryz.prog w = .ok (.enter 10 args) w:=enters_of Tryz.func10 (by kernel_rfl) rfl
theorem RG:∀args w,(callFunc 12 args).run Tryz.prog w = .ok (.enter 12 args) w:=enters_of Tryz.func12 (by kernel_rfl) rfl
theorem I9:∀args w,(callFunc 13 args).run Tryz.prog w = .ok (.enter 13 args) w:=enters_of Tryz.func13 (by kernel_rfl) rfl
theorem NN:∀args w,(callFunc 18 args).run Tryz.prog w = .ok (.enter 18 args) w:=enters_of Tryz.func18 (by kernel_rfl) rfl
theorem RH:∀args w,(callFunc 19 args).run Tryz.prog w = .ok (.enter 19 args) w:=enters_of Tryz.func19 (by kernel_rfl) rfl
theorem Ja:∀args w,(callFunc 20 args).run Tryz.prog w = .ok (.enter 20 args) w:=enters_of Tryz.func20 (by kernel_rfl) rfl
theorem RI:∀args w,(callFunc 21 args).run Tryz.prog w = .ok (.enter 21 args) w:=enters_of Tryz.func21 (by kernel_rfl) rfl
theorem NP:∀args w,(callFunc 22 args).run Tryz.prog w = .ok (.enter 22 args) w:=enters_of Tryz.func22 (by kernel_rfl) rfl
theorem NQ:∀args w,(callFunc 23 args).run Tryz.prog w = .ok (.enter 23 args) w:=enters_of Tryz.func23 (by kernel_rfl) rfl
theorem RJ:∀args w,(callFunc 24 args).run Tryz.prog w = .ok (.enter 24 args) w:=enters_of Tryz.func24 (by kernel_rfl) rfl
theorem NR:∀args w,(callFunc 29 args).run Tryz.prog w = .ok (.enter 29 args) w:=enters_of Tryz.func29 (by kernel_rfl) rfl
theorem RL:∀args w,(callFunc 30 args).run Tryz.prog w = .ok (.enter 30 args) w:=enters_of Tryz.func30 (by kernel_rfl) rfl
theorem RN:∀args w,(callFunc 31 args).run Tryz.prog w = .ok (.enter 31 args) w:=enters_of Tryz.func31 (by kernel_rfl) rfl
theorem NS:∀args w,(callFunc 35 args).run Tryz.prog w = .ok (.enter 35 args) w:=enters_of Tryz.func35 (by kernel_rfl) rfl
theorem NT:∀args w,(callFunc 36 args).run Tryz.prog w = .ok (.enter 36 args) w:=enters_of Tryz.func36 (by kernel_rfl) rfl
theorem RO:∀args w,(callFunc 37 args).run Tryz.prog w = .ok (.enter 37 args) w:=enters_of Tryz.func37 (by kernel_rfl) rfl
theorem RP:∀args w,(callFunc 38 args).run Tryz.prog w = .ok (.enter 38 args) w:=enters_of Tryz.func38 (by kernel_rfl) rfl
theorem RQ:∀args w,(callFunc 49 args).run Tryz.prog w = .ok (.enter 49 args) w:=enters_of Tryz.func49 (by kernel_rfl) rfl
theorem RR:∀args w,(callFunc 50 args).run Tryz.prog w = .ok (.enter 50 args) w:=enters_of Tryz.func50 (by kernel_rfl) rfl
theorem NU:∀args w,(callFunc 51 args).run Tryz.prog w = .ok (.enter 51 args) w:=enters_of Tryz.func51 (by kernel_rfl) rfl
theorem FY:∀args w,(callFunc 52 args).run Tryz.prog w = .ok (.enter 52 args) w:=enters_of Tryz.func52 (by kernel_rfl) rfl
theorem NV:∀args w,(callFunc 53 args).run Tryz.prog w = .ok (.enter 53 args) w:=enters_of Tryz.func53 (by kernel_rfl) rfl
theorem Jb:∀args w,(callFunc 54 args).run Tryz.prog w = .ok (.enter 54 args) w:=enters_of Tryz.func54 (by kernel_rfl) rfl
theorem Jc:∀args w,(callFunc 55 args).run Tryz.prog w = .ok (.enter 55 args) w:=enters_of Tryz.func55 (by kernel_rfl) rfl
theorem RS:∀args w,(callFunc 56 args).run Tryz.prog w = .ok (.enter 56 args) w:=enters_of Tryz.func56 (by kernel_rfl) rfl
theorem RU:∀args w,(callFunc 57 args).run Tryz.prog w = .ok (.enter 57 args) w:=enters_of Tryz.func57 (by kernel_rfl) rfl
theorem RX:∀args w,(callFunc 58 args).run Tryz.prog w = .ok (.enter 58 args) w:=enters_of Tryz.func58 (by kernel_rfl) rfl
theorem RY:∀args w,(callFunc 59 args).run Tryz.prog w = .ok (.enter 59 args) w:=enters_of Tryz.func59 (by kernel_rfl) rfl
theorem RZ:∀args w,(callFunc 60 args).run Tryz.prog w = .ok (.enter 60 args) w:=enters_of Tryz.func60 (by kernel_rfl) rfl
theorem R0:∀args w,(callFunc 61 args).run Tryz.prog w = .ok (.enter 61 args) w:=enters_of Tryz.func61 (by kernel_rfl) rfl
theorem R1:∀args w,(callFunc 62 args).run Tryz.prog w = .ok (.enter 62 args) w:=enters_of Tryz.func62 (by kernel_rfl) rfl
theorem R2:∀args w,(callFunc 63 args).run Tryz.prog w = .ok (.enter 63 args) w:=enters_of Tryz.func63 (by kernel_rfl) rfl
theorem Jd:∀args w,(callFunc 64 args).run Tryz.prog w = .ok (.enter 64 args) w:=enters_of Tryz.func64 (by kernel_rfl) rfl
theorem R3:∀args w,(callFunc 66 args).run Tryz.prog w = .ok (.enter 66 args) w:=enters_of Tryz.func66 (by kernel_rfl) rfl
theorem Je:∀args w,(callFunc 67 args).run Tryz.prog w = .ok (.enter 67 args) w:=enters_of Tryz.func67 (by kernel_rfl) rfl
theorem R4:∀args w,(callFunc 68 args).run Tryz.prog w = .ok (.enter 68 args) w:=enters_of Tryz.func68 (by kernel_rfl) rfl
theorem R5:∀args w,(callFunc 69 args).run Tryz.prog w = .ok (.enter 69 args) w:=enters_of Tryz.func69 (by kernel_rfl) rfl
theorem NW:∀args w,(callFunc 70 args).run Tryz.prog w = .ok (.enter 70 args) w:=enters_of Tryz.func70 (by kernel_rfl) rfl
theorem R6:∀args w,(callFunc 71 args).run Tryz.prog w = .ok (.enter 71 args) w:=enters_of Tryz.func71 (by kernel_rfl) rfl
theorem R7:∀args w,(callFunc 76 args).run Tryz.prog w = .ok (.enter 76 args) w:=enters_of Tryz.func76 (by kernel_rfl) rfl
theorem NY:∀args w,(callFunc 77 args).run Tryz.prog w = .ok (.enter 77 args) w:=enters_of Tryz.func77 (by kernel_rfl) rfl
theorem R8:∀args w,(callFunc 78 args).run Tryz.prog w = .ok (.enter 78 args) w:=enters_of Tryz.func78 (by kernel_rfl) rfl
theorem uC:∀args w,(callFunc 79 args).run Tryz.prog w = .ok (.enter 79 args) w:=enters_of Tryz.func79 (by kernel_rfl) rfl
theorem zi:∀args w,(callFunc 80 args).run Tryz.prog w = .ok (.enter 80 args) w:=enters_of Tryz.func80 (by kernel_rfl) rfl
theorem NZ:∀args w,(callFunc 81 args).run Tryz.prog w = .ok (.enter 81 args) w:=enters_of Tryz.func81 (by kernel_rfl) rfl
theorem N0:∀args w,(callFunc 82 args).run Tryz.prog w = .ok (.enter 82 args) w:=enters_of Tryz.func82 (by kernel_rfl) rfl
theorem uD:∀args w,(callFunc 83 args).run Tryz.prog w = .ok (.enter 83 args) w:=enters_of Tryz.func83 (by kernel_rfl) rfl
theorem N1:∀args w,(callFunc 84 args).run Tryz.prog w = .ok (.enter 84 args) w:=enters_of Tryz.func84 (by kernel_rfl) rfl
theorem Jf:∀args w,(callFunc 85 args).run Tryz.prog w = .ok (.enter 85 args) w:=enters_of Tryz.func85 (by kernel_rfl) rfl
theorem R9:∀args w,(callFunc 86 args).run Tryz.prog w = .ok (.enter 86 args) w:=enters_of Tryz.func86 (by kernel_rfl) rfl
theorem Sb:∀args w,(callFunc 87 args).run Tryz.prog w = .ok (.enter 87 args) w:=enters_of Tryz.func87 (by kernel_rfl) rfl
theorem Jg:∀args w,(callFunc 88 args).run Tryz.prog w = .ok (.enter 88 args) w:=enters_of Tryz.func88 (by kernel_rfl) rfl
theorem FZ:∀args w,(callFunc 89 args).run Tryz.prog w = .ok (.enter 89 args) w:=enters_of Tryz.func89 (by kernel_rfl) rfl
theorem Sc:∀args w,(callFunc 90 args).run Tryz.prog w = .ok (.enter 90 args) w:=enters_of Tryz.func90 (by kernel_rfl) rfl
theorem N2:∀args w,(callFunc 91 args).run Tryz.prog w = .ok (.enter 91 args) w:=enters_of Tryz.func91 (by kernel_rfl) rfl
theorem OZ:∀args w,(callFunc 104 args).run Tryz.prog w = .ok (.enter 104 args) w:=enters_of Tryz.func104 (by kernel_rfl) rfl
theorem wq:∀args w,(callFunc 105 args).run Tryz.prog w = .ok (.enter 105 args) w:=enters_of Tryz.func105 (by kernel_rfl) rfl
theorem wt:∀args w,(callFunc 106 args).run Tryz.prog w = .ok (.enter 106 args) w:=enters_of Tryz.func106 (by kernel_rfl) rfl
theorem Ex:∀args w,(callFunc 107 args).run Tryz.prog w = .ok (.enter 107 args) w:=enters_of Tryz.func107 (by kernel_rfl) rfl
theorem oE:∀args w,(callFunc 108 args).run Tryz.prog w = .ok (.enter 108 args) w:=enters_of Tryz.func108 (by kernel_rfl) rfl
theorem lL:∀args w,(callFunc 109 args).run Tryz.prog w = .ok (.enter 109 args) w:=enters_of Tryz.func109 (by kernel_rfl) rfl
theorem Jh:∀args w,(callFunc 110 args).run Tryz.prog w = .ok (.enter 110 args) w:=enters_of Tryz.func110 (by kernel_rfl) rfl
theorem O0:∀args w,(callFunc 111 args).run Tryz.prog w = .ok (.enter 111 args) w:=enters_of Tryz.func111 (by kernel_rfl) rfl
theorem O1:∀args w,(callFunc 112 args).run Tryz.prog w = .ok (.enter 112 args) w:=enters_of Tryz.func112 (by kernel_rfl) rfl
theorem pQ:∀args w,(callFunc 113 args).run Tryz.prog w = .ok (.enter 113 args) w:=enters_of Tryz.func113 (by kernel_rfl) rfl
theorem O2:∀args w,(callFunc 114 args).run Tryz.prog w = .ok (.enter 114 args) w:=enters_of Tryz.func114 (by kernel_rfl) rfl
theorem O3:∀args w,(callFunc 115 args).run Tryz.prog w = .ok (.enter 115 args) w:=enters_of Tryz.func115 (by kernel_rfl) rfl
theorem Az:∀args w,(callFunc 116 args).run Tryz.prog w = .ok (.enter 116 args) w:=enters_of Tryz.func116 (by kernel_rfl) rfl
theorem wu:∀args w,(callFunc 117 args).run Tryz.prog w = .ok (.enter 117 args) w:=enters_of Tryz.func117 (by kernel_rfl) rfl
theorem tJ:∀args w,(callFunc 118 args).run Tryz.prog w = .ok (.enter 118 args) w:=enters_of Tryz.func118 (by kernel_rfl) rfl
theorem pR:∀args w,(callFunc 119 args).run Tryz.prog w = .ok (.enter 119 args) w:=enters_of Tryz.func119 (by kernel_rfl) rfl
theorem wv:∀args w,(callFunc 120 args).run Tryz.prog w = .ok (.enter 120 args) w:=enters_of Tryz.func120 (by kernel_rfl) rfl
theorem tK:∀args w,(callFunc 121 args).run Tryz.prog w = .ok (.enter 121 args) w:=enters_of Tryz.func121 (by kernel_rfl) rfl
theorem O4:∀args w,(callFunc 122 args).run Tryz.prog w = .ok (.enter 122 args) w:=enters_of Tryz.func122 (by kernel_rfl) rfl
theorem O5:∀args w,(callFunc 123 args).run Tryz.prog w = .ok (.enter 123 args) w:=enters_of Tryz.func123 (by kernel_rfl) rfl
theorem O6:∀args w,(callFunc 124 args).run Tryz.prog w = .ok (.enter 124 args) w:=enters_of Tryz.func124 (by kernel_rfl) rfl
theorem Ey:∀args w,(callFunc 125 args).run Tryz.prog w = .ok (.enter 125 args) w:=enters_of Tryz.func125 (by kernel_rfl) rfl
theorem Ji:∀args w,(callFunc 126 args).run Tryz.prog w = .ok (.enter 126 args) w:=enters_of Tryz.func126 (by kernel_rfl) rfl
theorem Jj:∀args w,(callFunc 127 args).run Tryz.prog w = .ok (.enter 127 args) w:=enters_of Tryz.func127 (by kernel_rfl) rfl
theorem O7:∀args w,(callFunc 128 args).run Tryz.prog w = .ok (.enter 128 args) w:=enters_of Tryz.func128 (by kernel_rfl) rfl
theorem Jk:∀args w,(callFunc 129 args).run Tryz.prog w = .ok (.enter 129 args) w:=enters_of Tryz.func129 (by kernel_rfl) rfl
theorem Ez:∀args w,(callFunc 130 args).run Tryz.prog w = .ok (.enter 130 args) w:=enters_of Tryz.func130 (by kernel_rfl) rfl
theorem lM:∀args w,(callFunc 131 args).run Tryz.prog w = .ok (.enter 131 args) w:=enters_of Tryz.func131 (by kernel_rfl) rfl
theorem O8:∀args w,(callFunc 132 args).run Tryz.prog w = .ok (.enter 132 args) w:=enters_of Tryz.func132 (by kernel_rfl) rfl
theorem tL:∀args w,(callFunc 133 args).run Tryz.prog w = .ok (.enter 133 args) w:=enters_of Tryz.func133 (by kernel_rfl) rfl
theorem EA:∀args w,(callFunc 134 args).run Tryz.prog w = .ok (.enter 134 args) w:=enters_of Tryz.func134 (by kernel_rfl) rfl
theorem Jl:∀args w,(callFunc 135 args).run Tryz.prog w = .ok (.enter 135 args) w:=enters_of Tryz.func135 (by kernel_rfl) rfl
theorem O9:∀args w,(callFunc 136 args).run Tryz.prog w = .ok (.enter 136 args) w:=enters_of Tryz.func136 (by kernel_rfl) rfl
theorem Pb:∀args w,(callFunc 137 args).run Tryz.prog w = .ok (.enter 137 args) w:=enters_of Tryz.func137 (by kernel_rfl) rfl
theorem Pd:∀args w,(callFunc 138 args).run Tryz.prog w = .ok (.enter 138 args) w:=enters_of Tryz.func138 (by kernel_rfl) rfl
theorem Jm:∀args w,(callFunc 139 args).run Tryz.prog w = .ok (.enter 139 args) w:=enters_of Tryz.func139 (by kernel_rfl) rfl
theorem AA:∀args w,(callFunc 140 args).run Tryz.prog w = .ok (.enter 140 args) w:=enters_of Tryz.func140 (by kernel_rfl) rfl
theorem Pe:∀args w,(callFunc 141 args).run Tryz.prog w = .ok (.enter 141 args) w:=enters_of Tryz.func141 (by kernel_rfl) rfl
theorem fw:∀args w,(callFunc 142 args).run Tryz.prog w = .ok (.enter 142 args) w:=enters_of Tryz.func142 (by kernel_rfl) rfl
theorem Pf:∀args w,(callFunc 143 args).run Tryz.prog w = .ok (.enter 143 args) w:=enters_of Tryz.func143 (by kernel_rfl) rfl
theorem km:∀args w,(callFunc 144 args).run Tryz.prog w = .ok (.enter 144 args) w:=enters_of Tryz.func144 (by kernel_rfl) rfl
theorem wA:∀args w,(callFunc 145 args).run Tryz.prog w = .ok (.enter 145 args) w:=enters_of Tryz.func145 (by kernel_rfl) rfl
theorem Pg:∀args w,(callFunc 146 args).run Tryz.prog w = .ok (.enter 146 args) w:=enters_of Tryz.func146 (by kernel_rfl) rfl
theorem Jn:∀args w,(callFunc 147 args).run Tryz.prog w = .ok (.enter 147 args) w:=enters_of Tryz.func147 (by kernel_rfl) rfl
theorem Ph:∀args w,(callFunc 148 args).run Tryz.prog w = .ok (.enter 148 args) w:=enters_of Tryz.func148 (by kernel_rfl) rfl
theorem Pj:∀args w,(callFunc 149 args).run Tryz.prog w = .ok (.enter 149 args) w:=enters_of Tryz.func149 (by kernel_rfl) rfl
theorem wB:∀args w,(callFunc 150 args).run Tryz.prog w = .ok (.enter 150 args) w:=enters_of Tryz.func150 (by kernel_rfl) rfl
theorem AB:∀args w,(callFunc 151 args).run Tryz.prog w = .ok (.enter 151 args) w:=enters_of Tryz.func151 (by kernel_rfl) rfl
theorem Pk:∀args w,(callFunc 152 args).run Tryz.prog w = .ok (.enter 152 args) w:=enters_of Tryz.func152 (by kernel_rfl) rfl
theorem Jo:∀args w,(callFunc 153 args).run Tryz.prog w = .ok (.enter 153 args) w:=enters_of Tryz.func153 (by kernel_rfl) rfl
theorem AE:∀args w,(callFunc 159 args).run Tryz.prog w = .ok (.enter 159 args) w:=enters_of Tryz.func159 (by kernel_rfl) rfl
theorem Pm:∀args w,(callFunc 160 args).run Tryz.prog w = .ok (.enter 160 args) w:=enters_of Tryz.func160 (by kernel_rfl) rfl
theorem EB:∀args w,(callFunc 162 args).run Tryz.prog w = .ok (.enter 162 args) w:=enters_of Tryz.func162 (by kernel_rfl) rfl
theorem Pn:∀args w,(callFunc 163 args).run Tryz.prog w = .ok (.enter 163 args) w:=enters_of Tryz.func163 (by kernel_rfl) rfl
theorem Po:∀args w,(callFunc 164 args).run Tryz.prog w = .ok (.enter 164 args) w:=enters_of Tryz.func164 (by kernel_rfl) rfl
theorem Pp:∀args w,(callFunc 165 args).run Tryz.prog w = .ok (.enter 165 args) w:=enters_of Tryz.func165 (by kernel_rfl) rfl
theorem AF:∀args w,(callFunc 166 args).run Tryz.prog w = .ok (.enter 166 args) w:=enters_of Tryz.func166 (by kernel_rfl) rfl
theorem Pq:∀args w,(callFunc 167 args).run Tryz.prog w = .ok (.enter 167 args) w:=enters_of Tryz.func167 (by kernel_rfl) rfl
theorem Jp:∀args w,(callFunc 168 args).run Tryz.prog w = .ok (.enter 168 args) w:=enters_of Tryz.func168 (by kernel_rfl) rfl
theorem AG:∀args w,(callFunc 169 args).run Tryz.prog w = .ok (.enter 169 args) w:=enters_of Tryz.func169 (by kernel_rfl) rfl
theorem Jq:∀args w,(callFunc 170 args).run Tryz.prog w = .ok (.enter 170 args) w:=enters_of Tryz.func170 (by kernel_rfl) rfl
theorem AH:∀args w,(callFunc 171 args).run Tryz.prog w = .ok (.enter 171 args) w:=enters_of Tryz.func171 (by kernel_rfl) rfl
theorem Pr:∀args w,(callFunc 172 args).run Tryz.prog w = .ok (.enter 172 args) w:=enters_of Tryz.func172 (by kernel_rfl) rfl
theorem Ps:∀args w,(callFunc 173 args).run Tryz.prog w = .ok (.enter 173 args) w:=enters_of Tryz.func173 (by kernel_rfl) rfl
theorem Jr:∀args w,(callFunc 174 args).run Tryz.prog w = .ok (.enter 174 args) w:=enters_of Tryz.func174 (by kernel_rfl) rfl
theorem Pt:∀args w,(callFunc 176 args).run Tryz.prog w = .ok (.enter 176 args) w:=enters_of Tryz.func176 (by kernel_rfl) rfl
theorem Pu:∀args w,(callFunc 179 args).run Tryz.prog w = .ok (.enter 179 args) w:=enters_of Tryz.func179 (by kernel_rfl) rfl
theorem Pv:∀args w,(callFunc 180 args).run Tryz.prog w = .ok (.enter 180 args) w:=enters_of Tryz.func180 (by kernel_rfl) rfl
theorem Pw:∀args w,(callFunc 181 args).run Tryz.prog w = .ok (.enter 181 args) w:=enters_of Tryz.func181 (by kernel_rfl) rfl
theorem Js:∀args w,(callFunc 182 args).run Tryz.prog w = .ok (.enter 182 args) w:=enters_of Tryz.func182 (by kernel_rfl) rfl
theorem Jt:∀args w,(callFunc 183 args).run Tryz.prog w = .ok (.enter 183 args) w:=enters_of Tryz.func183 (by kernel_rfl) rfl
theorem Ju:∀args w,(callFunc 187 args).run Tryz.prog w = .ok (.enter 187 args) w:=enters_of Tryz.func187 (by kernel_rfl) rfl
theorem Px:∀args w,(callFunc 188 args).run Tryz.prog w = .ok (.enter 188 args) w:=enters_of Tryz.func188 (by kernel_rfl) rfl
theorem Py:∀args w,(callFunc 192 args).run Tryz.prog w = .ok (.enter 192 args) w:=enters_of Tryz.func192 (by kernel_rfl) rfl
theorem Pz:∀args w,(callFunc 193 args).run Tryz.prog w = .ok (.enter 193 args) w:=enters_of Tryz.func193 (by kernel_rfl) rfl
theorem PD:∀args w,(callFunc 194 args).run Tryz.prog w = .ok (.enter 194 args) w:=enters_of Tryz.func194 (by kernel_rfl) rfl
theorem PE:∀args w,(callFunc 201 args).run Tryz.prog w = .ok (.enter 201 args) w:=enters_of Tryz.func201 (by kernel_rfl) rfl
theorem PF:∀args w,(callFunc 226 args).run Tryz.prog w = .ok (.enter 226 args) w:=enters_of Tryz.func226 (by kernel_rfl) rfl
theorem Jv:∀args w,(callFunc 227 args).run Tryz.prog w = .ok (.enter 227 args) w:=enters_of Tryz.func227 (by kernel_rfl) rfl
theorem Jw:∀args w,(callFunc 249 args).run Tryz.prog w = .ok (.enter 249 args) w:=enters_of Tryz.func249 (by kernel_rfl) rfl
end Go.Proofs.YtkbhcbipadkcaaaGreatDoor
