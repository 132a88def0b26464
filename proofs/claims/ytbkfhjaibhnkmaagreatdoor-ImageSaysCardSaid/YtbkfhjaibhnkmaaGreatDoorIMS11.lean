import Derived.Test.YtbkfhjaibhnkmaaGreatDoorIMS6
import Derived.Test.YtbkfhjaibhnkmaaGreatDoorProg
import Derived.Shelf.Abstract
namespace Go.Proofs.YtbkfhjaibhnkmaaGreatDoor
open Go Go.RowKit
set_option linter.unusedVariables false
set_option maxRecDepth 100000
theorem mixed:Tryz.prog.follows .mixedOrders=true:=by kernel_rfl
theorem aA:lg Tryz.prog 3=true:=by kernel_rfl
theorem iO:gJ Tryz.prog 3=some (.int .i64 0):=by kernel_rfl
theorem oZ:lg Tryz.prog 4=true:=by kernel_rfl
theorem tP:gJ Tryz.prog 5=some (.int .u8 0):=by kernel_rfl
theorem bV:lg Tryz.prog 9=true:=by kernel_rfl
theorem q9:oV Tryz.prog 22=some (42,11):=by kernel_rfl
theorem bL:oV Tryz.prog 23=some (52,3):=by kernel_rfl
theorem Dd:lg Tryz.prog 23=true:=by kernel_rfl
theorem cK:oV Tryz.prog 27=some (88,5):=by kernel_rfl
theorem bE:lg Tryz.prog 27=true:=by kernel_rfl
theorem ew:oV Tryz.prog 28=some (62,3):=by kernel_rfl
theorem cq:lg Tryz.prog 28=true:=by kernel_rfl
theorem bK:oV Tryz.prog 29=some (85,3):=by kernel_rfl
theorem bZ:lg Tryz.prog 29=true:=by kernel_rfl
theorem du:oV Tryz.prog 30=some (72,4):=by kernel_rfl
theorem bN:lg Tryz.prog 30=true:=by kernel_rfl
theorem ap:lf Tryz.prog 32=some 6:=by kernel_rfl
theorem cz:tB Tryz.prog 32=some ([(0,1),(1,1),(2,1),(3,1),(4,1),(5,1)],[.slice none 0 0,.slice none 0 0,.slice none 0 0,.slice none 0 0,.int .i64 0,.int .i64 0]):=by kernel_rfl
theorem bf:gG Tryz.prog 32 0=some 0:=by kernel_rfl
theorem bM:gG Tryz.prog 32 1=some 1:=by kernel_rfl
theorem bB:gG Tryz.prog 32 2=some 2:=by kernel_rfl
theorem br:gG Tryz.prog 32 3=some 3:=by kernel_rfl
theorem bW:gG Tryz.prog 32 4=some 4:=by kernel_rfl
theorem cI:gG Tryz.prog 32 5=some 5:=by kernel_rfl
theorem cp:gJ Tryz.prog 32=some (.agg #[.slice none 0 0,.slice none 0 0,.slice none 0 0,.slice none 0 0,.int .i64 0,.int .i64 0]):=by kernel_rfl
theorem aS:lf Tryz.prog 39=some 2:=by kernel_rfl
theorem nu:tB Tryz.prog 39=some ([(0,1),(1,1)],[.int .i64 0,.int .i64 0]):=by kernel_rfl
theorem cF:gG Tryz.prog 39 0=some 0:=by kernel_rfl
theorem ff:gG Tryz.prog 39 1=some 1:=by kernel_rfl
theorem me:gJ Tryz.prog 39=some (.agg #[.int .i64 0,.int .i64 0]):=by kernel_rfl
theorem tQ:lf Tryz.prog 42=some 11:=by kernel_rfl
theorem sP:gG Tryz.prog 42 0=some 0:=by kernel_rfl
theorem kI:gG Tryz.prog 42 1=some 1:=by kernel_rfl
theorem eB:gG Tryz.prog 42 2=some 2:=by kernel_rfl
theorem sQ:gG Tryz.prog 42 3=some 4:=by kernel_rfl
theorem gZ:gG Tryz.prog 42 4=some 6:=by kernel_rfl
theorem mL:gG Tryz.prog 42 5=some 7:=by kernel_rfl
theorem zi:gG Tryz.prog 42 8=some 10:=by kernel_rfl
theorem dm:lf Tryz.prog 52=some 3:=by kernel_rfl
theorem kJ:tB Tryz.prog 52=some ([(0,1),(1,1),(2,1)],[.string ⟨#[]⟩,.string ⟨#[]⟩,.bool false]):=by kernel_rfl
theorem bD:gG Tryz.prog 52 0=some 0:=by kernel_rfl
theorem fh:gG Tryz.prog 52 1=some 1:=by kernel_rfl
theorem jz:gG Tryz.prog 52 2=some 2:=by kernel_rfl
theorem dI:gJ Tryz.prog 52=some (.agg #[.string ⟨#[]⟩,.string ⟨#[]⟩,.bool false]):=by kernel_rfl
theorem dK:oV Tryz.prog 60=some (3,1):=by kernel_rfl
theorem mM:lg Tryz.prog 60=true:=by kernel_rfl
theorem uZ:gJ Tryz.prog 60=some (.slice none 0 0):=by kernel_rfl
theorem fu:lf Tryz.prog 62=some 3:=by kernel_rfl
theorem u6:tB Tryz.prog 62=some ([(0,1),(1,1),(2,1)],[.int .i64 0,.int .i64 0,.string ⟨#[]⟩]):=by kernel_rfl
theorem g9:gG Tryz.prog 62 0=some 0:=by kernel_rfl
theorem mN:gG Tryz.prog 62 1=some 1:=by kernel_rfl
theorem mO:gG Tryz.prog 62 2=some 2:=by kernel_rfl
theorem fw:gJ Tryz.prog 62=some (.agg #[.int .i64 0,.int .i64 0,.string ⟨#[]⟩]):=by kernel_rfl
theorem bO:lf Tryz.prog 72=some 4:=by kernel_rfl
theorem pN:tB Tryz.prog 72=some ([(0,1),(1,1),(2,1),(3,1)],[.int .i64 0,.string ⟨#[]⟩,.int .i64 0,.int .i64 0]):=by kernel_rfl
theorem gH:gG Tryz.prog 72 0=some 0:=by kernel_rfl
theorem dE:gG Tryz.prog 72 3=some 3:=by kernel_rfl
theorem dv:gJ Tryz.prog 72=some (.agg #[.int .i64 0,.string ⟨#[]⟩,.int .i64 0,.int .i64 0]):=by kernel_rfl
theorem cL:Tryz.prog.concrete 82=true:=by kernel_rfl
theorem dB:lf Tryz.prog 85=some 3:=by kernel_rfl
theorem pO:tB Tryz.prog 85=some ([(0,2),(2,1)],[.int .i64 0,.int .i64 0,.int .i64 0]):=by kernel_rfl
theorem gI:gG Tryz.prog 85 0=some 0:=by kernel_rfl
theorem fL:gG Tryz.prog 85 1=some 2:=by kernel_rfl
theorem dk:gJ Tryz.prog 85=some (.agg #[.int .i64 0,.int .i64 0,.int .i64 0]):=by kernel_rfl
theorem aP:lf Tryz.prog 88=some 5:=by kernel_rfl
theorem eK:tB Tryz.prog 88=some ([(0,1),(1,1),(2,1),(3,1),(4,1)],[.int .i64 0,.int .i64 0,.int .i64 0,.int .i64 0,.int .i64 0]):=by kernel_rfl
theorem bI:gG Tryz.prog 88 0=some 0:=by kernel_rfl
theorem dw:gG Tryz.prog 88 1=some 1:=by kernel_rfl
theorem fj:gG Tryz.prog 88 2=some 2:=by kernel_rfl
theorem ei:gG Tryz.prog 88 3=some 3:=by kernel_rfl
theorem dX:gG Tryz.prog 88 4=some 4:=by kernel_rfl
theorem bF:gJ Tryz.prog 88=some (.agg #[.int .i64 0,.int .i64 0,.int .i64 0,.int .i64 0,.int .i64 0]):=by kernel_rfl
theorem ln:oV Tryz.prog 134=some (5,1):=by kernel_rfl
theorem ov:uX Tryz.prog 153=true:=by kernel_rfl
theorem eQ:qc Tryz.prog 23 3=some (52,40):=by kernel_rfl
theorem fJ:qc Tryz.prog 27 5=some (88,40):=by kernel_rfl
theorem tT:((Tryz.prog.info? 88).map (·.size)).isSome=true:=by kernel_rfl
theorem iP:qc Tryz.prog 28 3=some (62,32):=by kernel_rfl
theorem De:((Tryz.prog.info? 62).map (·.size)).isSome=true:=by kernel_rfl
theorem dZ:qc Tryz.prog 29 3=some (85,24):=by kernel_rfl
theorem qt:((Tryz.prog.info? 85).map (·.size)).isSome=true:=by kernel_rfl
theorem dL:qc Tryz.prog 30 4=some (72,40):=by kernel_rfl
theorem mP:((Tryz.prog.info? 72).map (·.size)).isSome=true:=by kernel_rfl
theorem jq:qc Tryz.prog 60 1=some (3,8):=by kernel_rfl
theorem II:∀args w,(callFunc 6 args).run Tryz.prog w = .ok (.enter 6 args) w:=enters_of Tryz.func6 (by kernel_rfl) rfl
theorem GQ:∀args w,(callFunc 7 args).run Tryz.prog w = .ok (.enter 7 args) w:=enters_of Tryz.func7 (by kernel_rfl) rfl
theorem zj:∀args w,(callFunc 8 args).run Tryz.prog w = .ok (.enter 8 args) w:=enters_of Tryz.func8 (by kernel_rfl) rfl
theorem GR:∀args w,(callFunc 9 args).run Tryz.prog w = .ok (.enter 9 args) w:=enters_of Tryz.func9 (by kernel_rfl) rfl
theorem GU:∀args w,(callFunc 10 args).run Tryz.prog w = .ok (.enter 10 args) w:=enters_of Tryz.func10 (by kernel_rfl) rfl
theorem Ew:∀args w,(callFunc 11 args).run Tryz.prog w = .ok (.enter 11 args) w:=enters_of Tryz.func11 (by kernel_rfl) rfl
theorem yl:∀args w,(callFunc 12 args).run Tryz.prog w = .ok (.enter 12 args) w:=enters_of Tryz.func12 (by kernel_rfl) rfl
theorem sR:∀args w,(callFunc 13 args).run Tryz.prog w = .ok (.enter 13 args) w:=enters_of Tryz.func13 (by kernel_rfl) rfl
theorem ym:∀args w,(callFunc 14 args).run Tryz.prog w = .ok (.enter 14 args) w:=enters_of Tryz.func14 (by kernel_rfl) rfl
theorem Az:∀args w,(callFunc 15 args).run Tryz.prog w = .ok (.enter 15 args) w:=enters_of Tryz.func15 (by kernel_rfl) rfl
theorem Ex:∀args w,(callFunc 16 args).run Tryz.prog w = .ok (.enter 16 args) w:=enters_of Tryz.func16 (by kernel_rfl) rfl
theorem AA:∀args w,(callFunc 17 args).run Tryz.prog w = .ok (.enter 17 args) w:=enters_of Tryz.func17 (by kernel_rfl) rfl
theorem Ey:∀args w,(callFunc 18 args).run Tryz.prog w = .ok (.enter 18 args) w:=enters_of Tryz.func18 (by kernel_rfl) rfl
theorem Ez:∀args w,(callFunc 19 args).run Tryz.prog w = .ok (.enter 19 args) w:=enters_of Tryz.func19 (by kernel_rfl) rfl
theorem GV:∀args w,(callFunc 20 args).run Tryz.prog w = .ok (.enter 20 args) w:=enters_of Tryz.func20 (by kernel_rfl) rfl
theorem GX:∀args w,(callFunc 21 args).run Tryz.prog w = .ok (.enter 21 args) w:=enters_of Tryz.func21 (by kernel_rfl) rfl
theorem GY:∀args w,(callFunc 24 args).run Tryz.prog w = .ok (.enter 24 args) w:=enters_of Tryz.func24 (by kernel_rfl) rfl
theorem GZ:∀args w,(callFunc 26 args).run Tryz.prog w = .ok (.enter 26 args) w:=enters_of Tryz.func26 (by kernel_rfl) rfl
theorem EA:∀args w,(callFunc 29 args).run Tryz.prog w = .ok (.enter 29 args) w:=enters_of Tryz.func29 (by kernel_rfl) rfl
theorem G0:∀args w,(callFunc 30 args).run Tryz.prog w = .ok (.enter 30 args) w:=enters_of Tryz.func30 (by kernel_rfl) rfl
theorem G1:∀args w,(callFunc 31 args).run Tryz.prog w = .ok (.enter 31 args) w:=enters_of Tryz.func31 (by kernel_rfl) rfl
theorem G2:∀args w,(callFunc 32 args).run Tryz.prog w = .ok (.enter 32 args) w:=enters_of Tryz.func32 (by kernel_rfl) rfl
theorem G3:∀args w,(callFunc 33 args).run Tryz.prog w = .ok (.enter 33 args) w:=enters_of Tryz.func33 (by kernel_rfl) rfl
theorem G4:∀args w,(callFunc 34 args).run Tryz.prog w = .ok (.enter 34 args) w:=enters_of Tryz.func34 (by kernel_rfl) rfl
theorem G5:∀args w,(callFunc 35 args).run Tryz.prog w = .ok (.enter 35 args) w:=enters_of Tryz.func35 (by kernel_rfl) rfl
theorem G6:∀args w,(callFunc 36 args).run Tryz.prog w = .ok (.enter 36 args) w:=enters_of Tryz.func36 (by kernel_rfl) rfl
theorem G7:∀args w,(callFunc 37 args).run Tryz.prog w = .ok (.enter 37 args) w:=enters_of Tryz.func37 (by kernel_rfl) rfl
theorem G8:∀args w,(callFunc 38 args).run Tryz.prog w = .ok (.enter 38 args) w:=enters_of Tryz.func38 (by kernel_rfl) rfl
theorem G9:∀args w,(callFunc 39 args).run Tryz.prog w = .ok (.enter 39 args) w:=enters_of Tryz.func39 (by kernel_rfl) rfl
theorem Ha:∀args w,(callFunc 40 args).run Tryz.prog w = .ok (.enter 40 args) w:=enters_of Tryz.func40 (by kernel_rfl) rfl
theorem Hb:∀args w,(callFunc 41 args).run Tryz.prog w = .ok (.enter 41 args) w:=enters_of Tryz.func41 (by kernel_rfl) rfl
theorem Hc:∀args w,(callFunc 42 args).run Tryz.prog w = .ok (.enter 42 args) w:=enters_of Tryz.func42 (by kernel_rfl) rfl
theorem He:∀args w,(callFunc 43 args).run Tryz.prog w = .ok (.enter 43 args) w:=enters_of Tryz.func43 (by kernel_rfl) rfl
theorem Hf:∀args w,(callFunc 44 args).run Tryz.prog w = .ok (.enter 44 args) w:=enters_of Tryz.func44 (by kernel_rfl) rfl
theorem Hg:∀args w,(callFunc 45 args).run Tryz.prog w = .ok (.enter 45 args) w:=enters_of Tryz.func45 (by kernel_rfl) rfl
theorem AB:∀args w,(callFunc 46 args).run Tryz.prog w = .ok (.enter 46 args) w:=enters_of Tryz.func46 (by kernel_rfl) rfl
theorem lS:∀args w,(callFunc 47 args).run Tryz.prog w = .ok (.enter 47 args) w:=enters_of Tryz.func47 (by kernel_rfl) rfl
theorem sS:∀args w,(callFunc 48 args).run Tryz.prog w = .ok (.enter 48 args) w:=enters_of Tryz.func48 (by kernel_rfl) rfl
theorem nw:∀args w,(callFunc 49 args).run Tryz.prog w = .ok (.enter 49 args) w:=enters_of Tryz.func49 (by kernel_rfl) rfl
theorem yn:∀args w,(callFunc 50 args).run Tryz.prog w = .ok (.enter 50 args) w:=enters_of Tryz.func50 (by kernel_rfl) rfl
theorem Hh:∀args w,(callFunc 51 args).run Tryz.prog w = .ok (.enter 51 args) w:=enters_of Tryz.func51 (by kernel_rfl) rfl
theorem EB:∀args w,(callFunc 52 args).run Tryz.prog w = .ok (.enter 52 args) w:=enters_of Tryz.func52 (by kernel_rfl) rfl
theorem yo:∀args w,(callFunc 53 args).run Tryz.prog w = .ok (.enter 53 args) w:=enters_of Tryz.func53 (by kernel_rfl) rfl
theorem yp:∀args w,(callFunc 54 args).run Tryz.prog w = .ok (.enter 54 args) w:=enters_of Tryz.func54 (by kernel_rfl) rfl
theorem AE:∀args w,(callFunc 55 args).run Tryz.prog w = .ok (.enter 55 args) w:=enters_of Tryz.func55 (by kernel_rfl) rfl
theorem yq:∀args w,(callFunc 56 args).run Tryz.prog w = .ok (.enter 56 args) w:=enters_of Tryz.func56 (by kernel_rfl) rfl
theorem Hj:∀args w,(callFunc 57 args).run Tryz.prog w = .ok (.enter 57 args) w:=enters_of Tryz.func57 (by kernel_rfl) rfl
theorem yr:∀args w,(callFunc 58 args).run Tryz.prog w = .ok (.enter 58 args) w:=enters_of Tryz.func58 (by kernel_rfl) rfl
theorem Hl:∀args w,(callFunc 59 args).run Tryz.prog w = .ok (.enter 59 args) w:=enters_of Tryz.func59 (by kernel_rfl) rfl
theorem sT:∀args w,(callFunc 61 args).run Tryz.prog w = .ok (.enter 61 args) w:=enters_of Tryz.func61 (by kernel_rfl) rfl
theorem AF:∀args w,(callFunc 62 args).run Tryz.prog w = .ok (.enter 62 args) w:=enters_of Tryz.func62 (by kernel_rfl) rfl
theorem AG:∀args w,(callFunc 63 args).run Tryz.prog w = .ok (.enter 63 args) w:=enters_of Tryz.func63 (by kernel_rfl) rfl
theorem Hm:∀args w,(callFunc 64 args).run Tryz.prog w = .ok (.enter 64 args) w:=enters_of Tryz.func64 (by kernel_rfl) rfl
theorem lT:∀args w,(callFunc 65 args).run Tryz.prog w = .ok (.enter 65 args) w:=enters_of Tryz.func65 (by kernel_rfl) rfl
theorem u7:∀args w,(callFunc 66 args).run Tryz.prog w = .ok (.enter 66 args) w:=enters_of Tryz.func66 (by kernel_rfl) rfl
theorem EC:∀args w,(callFunc 67 args).run Tryz.prog w = .ok (.enter 67 args) w:=enters_of Tryz.func67 (by kernel_rfl) rfl
theorem Hn:∀args w,(callFunc 68 args).run Tryz.prog w = .ok (.enter 68 args) w:=enters_of Tryz.func68 (by kernel_rfl) rfl
theorem Ho:∀args w,(callFunc 69 args).run Tryz.prog w = .ok (.enter 69 args) w:=enters_of Tryz.func69 (by kernel_rfl) rfl
theorem yt:∀args w,(callFunc 70 args).run Tryz.prog w = .ok (.enter 70 args) w:=enters_of Tryz.func70 (by kernel_rfl) rfl
theorem yu:∀args w,(callFunc 71 args).run Tryz.prog w = .ok (.enter 71 args) w:=enters_of Tryz.func71 (by kernel_rfl) rfl
theorem vd:∀args w,(callFunc 72 args).run Tryz.prog w = .ok (.enter 72 args) w:=enters_of Tryz.func72 (by kernel_rfl) rfl
theorem pP:∀args w,(callFunc 73 args).run Tryz.prog w = .ok (.enter 73 args) w:=enters_of Tryz.func73 (by kernel_rfl) rfl
theorem sU:∀args w,(callFunc 74 args).run Tryz.prog w = .ok (.enter 74 args) w:=enters_of Tryz.func74 (by kernel_rfl) rfl
theorem Hq:∀args w,(callFunc 75 args).run Tryz.prog w = .ok (.enter 75 args) w:=enters_of Tryz.func75 (by kernel_rfl) rfl
theorem Hr:∀args w,(callFunc 76 args).run Tryz.prog w = .ok (.enter 76 args) w:=enters_of Tryz.func76 (by kernel_rfl) rfl
theorem yv:∀args w,(callFunc 77 args).run Tryz.prog w = .ok (.enter 77 args) w:=enters_of Tryz.func77 (by kernel_rfl) rfl
theorem Hs:∀args w,(callFunc 78 args).run Tryz.prog w = .ok (.enter 78 args) w:=enters_of Tryz.func78 (by kernel_rfl) rfl
theorem pQ:∀args w,(callFunc 79 args).run Tryz.prog w = .ok (.enter 79 args) w:=enters_of Tryz.func79 (by kernel_rfl) rfl
theorem AH:∀args w,(callFunc 80 args).run Tryz.prog w = .ok (.enter 80 args) w:=enters_of Tryz.func80 (by kernel_rfl) rfl
theorem pR:∀args w,(callFunc 81 args).run Tryz.prog w = .ok (.enter 81 args) w:=enters_of Tryz.func81 (by kernel_rfl) rfl
theorem ED:∀args w,(callFunc 82 args).run Tryz.prog w = .ok (.enter 82 args) w:=enters_of Tryz.func82 (by kernel_rfl) rfl
theorem EE:∀args w,(callFunc 83 args).run Tryz.prog w = .ok (.enter 83 args) w:=enters_of Tryz.func83 (by kernel_rfl) rfl
theorem Ht:∀args w,(callFunc 84 args).run Tryz.prog w = .ok (.enter 84 args) w:=enters_of Tryz.func84 (by kernel_rfl) rfl
theorem EF:∀args w,(callFunc 85 args).run Tryz.prog w = .ok (.enter 85 args) w:=enters_of Tryz.func85 (by kernel_rfl) rfl
theorem yw:∀args w,(callFunc 86 args).run Tryz.prog w = .ok (.enter 86 args) w:=enters_of Tryz.func86 (by kernel_rfl) rfl
theorem ve:∀args w,(callFunc 87 args).run Tryz.prog w = .ok (.enter 87 args) w:=enters_of Tryz.func87 (by kernel_rfl) rfl
theorem ra:∀args w,(callFunc 88 args).run Tryz.prog w = .ok (.enter 88 args) w:=enters_of Tryz.func88 (by kernel_rfl) rfl
theorem sV:∀args w,(callFunc 89 args).run Tryz.prog w = .ok (.enter 89 args) w:=enters_of Tryz.func89 (by kernel_rfl) rfl
theorem AJ:∀args w,(callFunc 90 args).run Tryz.prog w = .ok (.enter 90 args) w:=enters_of Tryz.func90 (by kernel_rfl) rfl
theorem vf:∀args w,(callFunc 91 args).run Tryz.prog w = .ok (.enter 91 args) w:=enters_of Tryz.func91 (by kernel_rfl) rfl
theorem Hu:∀args w,(callFunc 92 args).run Tryz.prog w = .ok (.enter 92 args) w:=enters_of Tryz.func92 (by kernel_rfl) rfl
theorem pS:∀args w,(callFunc 93 args).run Tryz.prog w = .ok (.enter 93 args) w:=enters_of Tryz.func93 (by kernel_rfl) rfl
theorem AK:∀args w,(callFunc 94 args).run Tryz.prog w = .ok (.enter 94 args) w:=enters_of Tryz.func94 (by kernel_rfl) rfl
theorem Hw:∀args w,(callFunc 95 args).run Tryz.prog w = .ok (.enter 95 args) w:=enters_of Tryz.func95 (by kernel_rfl) rfl
theorem Hy:∀args w,(callFunc 97 args).run Tryz.prog w = .ok (.enter 97 args) w:=enters_of Tryz.func97 (by kernel_rfl) rfl
theorem vg:∀args w,(callFunc 98 args).run Tryz.prog w = .ok (.enter 98 args) w:=enters_of Tryz.func98 (by kernel_rfl) rfl
theorem yx:∀args w,(callFunc 99 args).run Tryz.prog w = .ok (.enter 99 args) w:=enters_of Tryz.func99 (by kernel_rfl) rfl
theorem AL:∀args w,(callFunc 100 args).run Tryz.prog w = .ok (.enter 100 args) w:=enters_of Tryz.func100 (by kernel_rfl) rfl
theorem lp:∀args w,(callFunc 101 args).run Tryz.prog w = .ok (.enter 101 args) w:=enters_of Tryz.func101 (by kernel_rfl) rfl
theorem E8:∀args w,(callFunc 102 args).run Tryz.prog w = .ok (.enter 102 args) w:=enters_of Tryz.func102 (by kernel_rfl) rfl
theorem tU:∀args w,(callFunc 106 args).run Tryz.prog w = .ok (.enter 106 args) w:=enters_of Tryz.func106 (by kernel_rfl) rfl
theorem E9:∀args w,(callFunc 107 args).run Tryz.prog w = .ok (.enter 107 args) w:=enters_of Tryz.func107 (by kernel_rfl) rfl
theorem Fa:∀args w,(callFunc 108 args).run Tryz.prog w = .ok (.enter 108 args) w:=enters_of Tryz.func108 (by kernel_rfl) rfl
theorem Fb:∀args w,(callFunc 109 args).run Tryz.prog w = .ok (.enter 109 args) w:=enters_of Tryz.func109 (by kernel_rfl) rfl
theorem AO:∀args w,(callFunc 110 args).run Tryz.prog w = .ok (.enter 110 args) w:=enters_of Tryz.func110 (by kernel_rfl) rfl
theorem Fc:∀args w,(callFunc 111 args).run Tryz.prog w = .ok (.enter 111 args) w:=enters_of Tryz.func111 (by kernel_rfl) rfl
theorem AP:∀args w,(callFunc 112 args).run Tryz.prog w = .ok (.enter 112 args) w:=enters_of Tryz.func112 (by kernel_rfl) rfl
theorem wU:∀args w,(callFunc 113 args).run Tryz.prog w = .ok (.enter 113 args) w:=enters_of Tryz.func113 (by kernel_rfl) rfl
theorem Fe:∀args w,(callFunc 114 args).run Tryz.prog w = .ok (.enter 114 args) w:=enters_of Tryz.func114 (by kernel_rfl) rfl
theorem tV:∀args w,(callFunc 116 args).run Tryz.prog w = .ok (.enter 116 args) w:=enters_of Tryz.func116 (by kernel_rfl) rfl
theorem Ff:∀args w,(callFunc 117 args).run Tryz.prog w = .ok (.enter 117 args) w:=enters_of Tryz.func117 (by kernel_rfl) rfl
theorem Fg:∀args w,(callFunc 118 args).run Tryz.prog w = .ok (.enter 118 args) w:=enters_of Tryz.func118 (by kernel_rfl) rfl
theorem Fh:∀args w,(callFunc 119 args).run Tryz.prog w = .ok (.enter 119 args) w:=enters_of Tryz.func119 (by kernel_rfl) rfl
theorem tW:∀args w,(callFunc 120 args).run Tryz.prog w = .ok (.enter 120 args) w:=enters_of Tryz.func120 (by kernel_rfl) rfl
theorem AQ:∀args w,(callFunc 121 args).run Tryz.prog w = .ok (.enter 121 args) w:=enters_of Tryz.func121 (by kernel_rfl) rfl
theorem tX:∀args w,(callFunc 122 args).run Tryz.prog w = .ok (.enter 122 args) w:=enters_of Tryz.func122 (by kernel_rfl) rfl
theorem tY:∀args w,(callFunc 123 args).run Tryz.prog w = .ok (.enter 123 args) w:=enters_of Tryz.func123 (by kernel_rfl) rfl
theorem AR:∀args w,(callFunc 131 args).run Tryz.prog w = .ok (.enter 131 args) w:=enters_of Tryz.func131 (by kernel_rfl) rfl
theorem AU:∀args w,(callFunc 143 args).run Tryz.prog w = .ok (.enter 143 args) w:=enters_of Tryz.func143 (by kernel_rfl) rfl
theorem Fi:∀args w,(callFunc 153 args).run Tryz.prog w = .ok (.enter 153 args) w:=enters_of Tryz.func153 (by kernel_rfl) rfl
theorem Fj:∀args w,(callFunc 154 args).run Tryz.prog w = .ok (.enter 154 args) w:=enters_of Tryz.func154 (by kernel_rfl) rfl
theorem Fo:∀args w,(callFunc 155 args).run Tryz.prog w = .ok (.enter 155 args) w:=enters_of Tryz.func155 (by kernel_rfl) rfl
theorem AV:∀args w,(callFunc 177 args).run Tryz.prog w = .ok (.enter 177 args) w:=enters_of Tryz.func177 (by kernel_rfl) rfl
theorem Fp:∀args w,(callFunc 178 args).run Tryz.prog w = .ok (.enter 178 args) w:=enters_of Tryz.func178 (by kernel_rfl) rfl
theorem AW:∀args w,(callFunc 179 args).run Tryz.prog w = .ok (.enter 179 args) w:=enters_of Tryz.func179 (by kernel_rfl) rfl
end Go.Proofs.YtbkfhjaibhnkmaaGreatDoor
