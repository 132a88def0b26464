import Derived.Test.YtpipachmngdegaaGreatRSP8
import Derived.Test.YtpipachmngdegaaGreatProg
import Derived.Shelf.Abstract
section
namespace Go.Proofs.YtpipachmngdegaaGreat
open Go Go.RowKit
set_option linter.unusedVariables false
set_option maxRecDepth 100000
theorem mixed:Tryz.prog.follows .mixedOrders=true:=by kernel_rfl
theorem aG:je Tryz.prog 3=true:=by kernel_rfl
theorem iX:eZ Tryz.prog 3=some (.int .i64 0):=by kernel_rfl
theorem fQ:je Tryz.prog 9=true:=by kernel_rfl
theorem pL:lD Tryz.prog 22=some (37,11):=by kernel_rfl
theorem cG:lD Tryz.prog 25=some (39,5):=by kernel_rfl
theorem bN:je Tryz.prog 25=true:=by kernel_rfl
theorem dJ:lD Tryz.prog 26=some (74,3):=by kernel_rfl
theorem bT:je Tryz.prog 26=true:=by kernel_rfl
theorem bj:lD Tryz.prog 27=some (93,3):=by kernel_rfl
theorem bQ:je Tryz.prog 27=true:=by kernel_rfl
theorem cB:lD Tryz.prog 28=some (52,4):=by kernel_rfl
theorem a6:je Tryz.prog 28=true:=by kernel_rfl
theorem au:jd Tryz.prog 30=some 6:=by kernel_rfl
theorem ck:tB Tryz.prog 30=some ([(0,1),(1,1),(2,1),(3,1),(4,1),(5,1)],[.slice none 0 0,.slice none 0 0,.slice none 0 0,.slice none 0 0,.int .i64 0,.int .i64 0]):=by kernel_rfl
theorem a8:eV Tryz.prog 30 0=some 0:=by kernel_rfl
theorem bm:eV Tryz.prog 30 1=some 1:=by kernel_rfl
theorem bf:eV Tryz.prog 30 2=some 2:=by kernel_rfl
theorem aT:eV Tryz.prog 30 3=some 3:=by kernel_rfl
theorem bU:eV Tryz.prog 30 4=some 4:=by kernel_rfl
theorem cQ:eV Tryz.prog 30 5=some 5:=by kernel_rfl
theorem bR:eZ Tryz.prog 30=some (.agg #[.slice none 0 0,.slice none 0 0,.slice none 0 0,.slice none 0 0,.int .i64 0,.int .i64 0]):=by kernel_rfl
theorem aM:jd Tryz.prog 33=some 2:=by kernel_rfl
theorem jt:tB Tryz.prog 33=some ([(0,1),(1,1)],[.int .i64 0,.int .i64 0]):=by kernel_rfl
theorem bZ:eV Tryz.prog 33 0=some 0:=by kernel_rfl
theorem eE:eV Tryz.prog 33 1=some 1:=by kernel_rfl
theorem kE:eZ Tryz.prog 33=some (.agg #[.int .i64 0,.int .i64 0]):=by kernel_rfl
theorem sC:lD Tryz.prog 35=some (106,3):=by kernel_rfl
theorem tW:je Tryz.prog 35=true:=by kernel_rfl
theorem lO:jd Tryz.prog 37=some 11:=by kernel_rfl
theorem nj:eV Tryz.prog 37 0=some 0:=by kernel_rfl
theorem iE:eV Tryz.prog 37 1=some 1:=by kernel_rfl
theorem cJ:eV Tryz.prog 37 2=some 2:=by kernel_rfl
theorem nk:eV Tryz.prog 37 3=some 4:=by kernel_rfl
theorem fy:eV Tryz.prog 37 4=some 6:=by kernel_rfl
theorem jH:eV Tryz.prog 37 5=some 7:=by kernel_rfl
theorem rG:eV Tryz.prog 37 8=some 10:=by kernel_rfl
theorem sD:eZ Tryz.prog 37=some (.agg #[.string ⟨#[]⟩,.string ⟨#[]⟩,.int .i64 0,.int .i64 0,.int .i64 0,.int .i64 0,.int .i64 0,.int .i64 0,.int .i64 0,.int .u64 0,.slice none 0 0]):=by kernel_rfl
theorem aK:jd Tryz.prog 39=some 5:=by kernel_rfl
theorem dM:tB Tryz.prog 39=some ([(0,1),(1,1),(2,1),(3,1),(4,1)],[.int .i64 0,.int .i64 0,.int .i64 0,.int .i64 0,.int .i64 0]):=by kernel_rfl
theorem bK:eV Tryz.prog 39 0=some 0:=by kernel_rfl
theorem cX:eV Tryz.prog 39 1=some 1:=by kernel_rfl
theorem eP:eV Tryz.prog 39 2=some 2:=by kernel_rfl
theorem d8:eV Tryz.prog 39 3=some 3:=by kernel_rfl
theorem d9:eV Tryz.prog 39 4=some 4:=by kernel_rfl
theorem aY:eZ Tryz.prog 39=some (.agg #[.int .i64 0,.int .i64 0,.int .i64 0,.int .i64 0,.int .i64 0]):=by kernel_rfl
theorem aX:jd Tryz.prog 52=some 4:=by kernel_rfl
theorem ll:tB Tryz.prog 52=some ([(0,1),(1,1),(2,1),(3,1)],[.int .i64 0,.string ⟨#[]⟩,.int .i64 0,.int .i64 0]):=by kernel_rfl
theorem eQ:eV Tryz.prog 52 0=some 0:=by kernel_rfl
theorem cR:eV Tryz.prog 52 3=some 3:=by kernel_rfl
theorem cr:eZ Tryz.prog 52=some (.agg #[.int .i64 0,.string ⟨#[]⟩,.int .i64 0,.int .i64 0]):=by kernel_rfl
theorem da:Tryz.prog.concrete 69=true:=by kernel_rfl
theorem fJ:jd Tryz.prog 74=some 3:=by kernel_rfl
theorem qI:tB Tryz.prog 74=some ([(0,1),(1,1),(2,1)],[.int .i64 0,.int .i64 0,.string ⟨#[]⟩]):=by kernel_rfl
theorem iF:eV Tryz.prog 74 0=some 0:=by kernel_rfl
theorem nn:eV Tryz.prog 74 1=some 1:=by kernel_rfl
theorem jI:eV Tryz.prog 74 2=some 2:=by kernel_rfl
theorem fK:eZ Tryz.prog 74=some (.agg #[.int .i64 0,.int .i64 0,.string ⟨#[]⟩]):=by kernel_rfl
theorem dh:jd Tryz.prog 93=some 3:=by kernel_rfl
theorem ma:tB Tryz.prog 93=some ([(0,2),(2,1)],[.int .i64 0,.int .i64 0,.int .i64 0]):=by kernel_rfl
theorem iG:eV Tryz.prog 93 0=some 0:=by kernel_rfl
theorem gK:eV Tryz.prog 93 1=some 2:=by kernel_rfl
theorem cO:eZ Tryz.prog 93=some (.agg #[.int .i64 0,.int .i64 0,.int .i64 0]):=by kernel_rfl
theorem pN:eV Tryz.prog 106 0=some 0:=by kernel_rfl
theorem pO:eV Tryz.prog 106 1=some 1:=by kernel_rfl
theorem fL:lD Tryz.prog 116=some (3,1):=by kernel_rfl
theorem iH:je Tryz.prog 116=true:=by kernel_rfl
theorem np:eZ Tryz.prog 116=some (.slice none 0 0):=by kernel_rfl
theorem kF:oG Tryz.prog 137=true:=by kernel_rfl
theorem eH:l1 Tryz.prog 25 5=some (39,40):=by kernel_rfl
theorem tX:((Tryz.prog.info? 39).map (·.size)).isSome=true:=by kernel_rfl
theorem hG:l1 Tryz.prog 26 3=some (74,32):=by kernel_rfl
theorem tY:((Tryz.prog.info? 74).map (·.size)).isSome=true:=by kernel_rfl
theorem dr:l1 Tryz.prog 27 3=some (93,24):=by kernel_rfl
theorem lP:((Tryz.prog.info? 93).map (·.size)).isSome=true:=by kernel_rfl
theorem cU:l1 Tryz.prog 28 4=some (52,40):=by kernel_rfl
theorem jJ:((Tryz.prog.info? 52).map (·.size)).isSome=true:=by kernel_rfl
theorem iI:l1 Tryz.prog 116 1=some (3,8):=by kernel_rfl
theorem yt:∀args w,(callFunc 4 args).run Tryz.prog w = .ok (.enter 4 args) w:=enters_of Tryz.func4 (by kernel_rfl) rfl
theorem wG:∀args w,(callFunc 5 args).run Tryz.prog w = .ok (.enter 5 args) w:=enters_of Tryz.func5 (by kernel_rfl) rfl
theorem wH:∀args w,(callFunc 6 args).run Tryz.prog w = .ok (.enter 6 args) w:=enters_of Tryz.func6 (by kernel_rfl) rfl
theorem yu:∀args w,(callFunc 7 args).run Tryz.prog w = .ok (.enter 7 args) w:=enters_of Tryz.func7 (by kernel_rfl) rfl
theorem oJ:∀args w,(callFunc 8 args).run Tryz.prog w = .ok (.enter 8 args) w:=enters_of Tryz.func8 (by kernel_rfl) rfl
theorem pP:∀args w,(callFunc 9 args).run Tryz.prog w = .ok (.enter 9 args) w:=enters_of Tryz.func9 (by kernel_rfl) rfl
theorem wI:∀args w,(callFunc 10 args).run Tryz.prog w = .ok (.enter 10 args) w:=enters_of Tryz.func10 (by kernel_rfl) rfl
theorem wJ:∀args w,(callFunc 11 args).run Tryz.prog w = .ok (.enter 11 args) w:=enters_of Tryz.func11 (by kernel_rfl) rfl
theorem nq:∀args w,(callFunc 12 args).run Tryz.prog w = .ok (.enter 12 args) w:=enters_of Tryz.func12 (by kernel_rfl) rfl
theorem uI:∀args w,(callFunc 13 args).run Tryz.prog w = .ok (.enter 13 args) w:=enters_of Tryz.func13 (by kernel_rfl) rfl
theorem wK:∀args w,(callFunc 14 args).run Tryz.prog w = .ok (.enter 14 args) w:=enters_of Tryz.func14 (by kernel_rfl) rfl
theorem qJ:∀args w,(callFunc 15 args).run Tryz.prog w = .ok (.enter 15 args) w:=enters_of Tryz.func15 (by kernel_rfl) rfl
theorem wL:∀args w,(callFunc 16 args).run Tryz.prog w = .ok (.enter 16 args) w:=enters_of Tryz.func16 (by kernel_rfl) rfl
theorem wM:∀args w,(callFunc 17 args).run Tryz.prog w = .ok (.enter 17 args) w:=enters_of Tryz.func17 (by kernel_rfl) rfl
theorem wN:∀args w,(callFunc 18 args).run Tryz.prog w = .ok (.enter 18 args) w:=enters_of Tryz.func18 (by kernel_rfl) rfl
theorem wO:∀args w,(callFunc 19 args).run Tryz.prog w = .ok (.enter 19 args) w:=enters_of Tryz.func19 (by kernel_rfl) rfl
theorem wP:∀args w,(callFunc 20 args).run Tryz.prog w = .ok (.enter 20 args) w:=enters_of Tryz.func20 (by kernel_rfl) rfl
theorem uJ:∀args w,(callFunc 21 args).run Tryz.prog w = .ok (.enter 21 args) w:=enters_of Tryz.func21 (by kernel_rfl) rfl
theorem uK:∀args w,(callFunc 22 args).run Tryz.prog w = .ok (.enter 22 args) w:=enters_of Tryz.func22 (by kernel_rfl) rfl
theorem uL:∀args w,(callFunc 23 args).run Tryz.prog w = .ok (.enter 23 args) w:=enters_of Tryz.func23 (by kernel_rfl) rfl
theorem ln:∀args w,(callFunc 24 args).run Tryz.prog w = .ok (.enter 24 args) w:=enters_of Tryz.func24 (by kernel_rfl) rfl
theorem qK:∀args w,(callFunc 25 args).run Tryz.prog w = .ok (.enter 25 args) w:=enters_of Tryz.func25 (by kernel_rfl) rfl
theorem uM:∀args w,(callFunc 26 args).run Tryz.prog w = .ok (.enter 26 args) w:=enters_of Tryz.func26 (by kernel_rfl) rfl
theorem kG:∀args w,(callFunc 27 args).run Tryz.prog w = .ok (.enter 27 args) w:=enters_of Tryz.func27 (by kernel_rfl) rfl
theorem qL:∀args w,(callFunc 28 args).run Tryz.prog w = .ok (.enter 28 args) w:=enters_of Tryz.func28 (by kernel_rfl) rfl
theorem qM:∀args w,(callFunc 29 args).run Tryz.prog w = .ok (.enter 29 args) w:=enters_of Tryz.func29 (by kernel_rfl) rfl
theorem qN:∀args w,(callFunc 30 args).run Tryz.prog w = .ok (.enter 30 args) w:=enters_of Tryz.func30 (by kernel_rfl) rfl
theorem uN:∀args w,(callFunc 31 args).run Tryz.prog w = .ok (.enter 31 args) w:=enters_of Tryz.func31 (by kernel_rfl) rfl
theorem uO:∀args w,(callFunc 32 args).run Tryz.prog w = .ok (.enter 32 args) w:=enters_of Tryz.func32 (by kernel_rfl) rfl
theorem wQ:∀args w,(callFunc 33 args).run Tryz.prog w = .ok (.enter 33 args) w:=enters_of Tryz.func33 (by kernel_rfl) rfl
theorem nr:∀args w,(callFunc 34 args).run Tryz.prog w = .ok (.enter 34 args) w:=enters_of Tryz.func34 (by kernel_rfl) rfl
theorem uP:∀args w,(callFunc 35 args).run Tryz.prog w = .ok (.enter 35 args) w:=enters_of Tryz.func35 (by kernel_rfl) rfl
theorem kH:∀args w,(callFunc 36 args).run Tryz.prog w = .ok (.enter 36 args) w:=enters_of Tryz.func36 (by kernel_rfl) rfl
theorem uQ:∀args w,(callFunc 37 args).run Tryz.prog w = .ok (.enter 37 args) w:=enters_of Tryz.func37 (by kernel_rfl) rfl
theorem uR:∀args w,(callFunc 38 args).run Tryz.prog w = .ok (.enter 38 args) w:=enters_of Tryz.func38 (by kernel_rfl) rfl
theorem qO:∀args w,(callFunc 39 args).run Tryz.prog w = .ok (.enter 39 args) w:=enters_of Tryz.func39 (by kernel_rfl) rfl
theorem sE:∀args w,(callFunc 40 args).run Tryz.prog w = .ok (.enter 40 args) w:=enters_of Tryz.func40 (by kernel_rfl) rfl
theorem sF:∀args w,(callFunc 41 args).run Tryz.prog w = .ok (.enter 41 args) w:=enters_of Tryz.func41 (by kernel_rfl) rfl
theorem qP:∀args w,(callFunc 42 args).run Tryz.prog w = .ok (.enter 42 args) w:=enters_of Tryz.func42 (by kernel_rfl) rfl
theorem sG:∀args w,(callFunc 43 args).run Tryz.prog w = .ok (.enter 43 args) w:=enters_of Tryz.func43 (by kernel_rfl) rfl
theorem oK:∀args w,(callFunc 44 args).run Tryz.prog w = .ok (.enter 44 args) w:=enters_of Tryz.func44 (by kernel_rfl) rfl
theorem oL:∀args w,(callFunc 45 args).run Tryz.prog w = .ok (.enter 45 args) w:=enters_of Tryz.func45 (by kernel_rfl) rfl
theorem sH:∀args w,(callFunc 46 args).run Tryz.prog w = .ok (.enter 46 args) w:=enters_of Tryz.func46 (by kernel_rfl) rfl
theorem wR:∀args w,(callFunc 47 args).run Tryz.prog w = .ok (.enter 47 args) w:=enters_of Tryz.func47 (by kernel_rfl) rfl
theorem wS:∀args w,(callFunc 48 args).run Tryz.prog w = .ok (.enter 48 args) w:=enters_of Tryz.func48 (by kernel_rfl) rfl
theorem wT:∀args w,(callFunc 49 args).run Tryz.prog w = .ok (.enter 49 args) w:=enters_of Tryz.func49 (by kernel_rfl) rfl
theorem wU:∀args w,(callFunc 50 args).run Tryz.prog w = .ok (.enter 50 args) w:=enters_of Tryz.func50 (by kernel_rfl) rfl
theorem wV:∀args w,(callFunc 51 args).run Tryz.prog w = .ok (.enter 51 args) w:=enters_of Tryz.func51 (by kernel_rfl) rfl
theorem wW:∀args w,(callFunc 52 args).run Tryz.prog w = .ok (.enter 52 args) w:=enters_of Tryz.func52 (by kernel_rfl) rfl
theorem wX:∀args w,(callFunc 53 args).run Tryz.prog w = .ok (.enter 53 args) w:=enters_of Tryz.func53 (by kernel_rfl) rfl
theorem wY:∀args w,(callFunc 54 args).run Tryz.prog w = .ok (.enter 54 args) w:=enters_of Tryz.func54 (by kernel_rfl) rfl
theorem wZ:∀args w,(callFunc 55 args).run Tryz.prog w = .ok (.enter 55 args) w:=enters_of Tryz.func55 (by kernel_rfl) rfl
theorem w8:∀args w,(callFunc 56 args).run Tryz.prog w = .ok (.enter 56 args) w:=enters_of Tryz.func56 (by kernel_rfl) rfl
theorem w9:∀args w,(callFunc 57 args).run Tryz.prog w = .ok (.enter 57 args) w:=enters_of Tryz.func57 (by kernel_rfl) rfl
theorem xa:∀args w,(callFunc 58 args).run Tryz.prog w = .ok (.enter 58 args) w:=enters_of Tryz.func58 (by kernel_rfl) rfl
theorem xb:∀args w,(callFunc 59 args).run Tryz.prog w = .ok (.enter 59 args) w:=enters_of Tryz.func59 (by kernel_rfl) rfl
theorem qQ:∀args w,(callFunc 60 args).run Tryz.prog w = .ok (.enter 60 args) w:=enters_of Tryz.func60 (by kernel_rfl) rfl
theorem oM:∀args w,(callFunc 61 args).run Tryz.prog w = .ok (.enter 61 args) w:=enters_of Tryz.func61 (by kernel_rfl) rfl
theorem sI:∀args w,(callFunc 62 args).run Tryz.prog w = .ok (.enter 62 args) w:=enters_of Tryz.func62 (by kernel_rfl) rfl
theorem xc:∀args w,(callFunc 63 args).run Tryz.prog w = .ok (.enter 63 args) w:=enters_of Tryz.func63 (by kernel_rfl) rfl
theorem qR:∀args w,(callFunc 64 args).run Tryz.prog w = .ok (.enter 64 args) w:=enters_of Tryz.func64 (by kernel_rfl) rfl
theorem qS:∀args w,(callFunc 65 args).run Tryz.prog w = .ok (.enter 65 args) w:=enters_of Tryz.func65 (by kernel_rfl) rfl
theorem uS:∀args w,(callFunc 66 args).run Tryz.prog w = .ok (.enter 66 args) w:=enters_of Tryz.func66 (by kernel_rfl) rfl
theorem lp:∀args w,(callFunc 67 args).run Tryz.prog w = .ok (.enter 67 args) w:=enters_of Tryz.func67 (by kernel_rfl) rfl
theorem qT:∀args w,(callFunc 68 args).run Tryz.prog w = .ok (.enter 68 args) w:=enters_of Tryz.func68 (by kernel_rfl) rfl
theorem xd:∀args w,(callFunc 69 args).run Tryz.prog w = .ok (.enter 69 args) w:=enters_of Tryz.func69 (by kernel_rfl) rfl
theorem xe:∀args w,(callFunc 70 args).run Tryz.prog w = .ok (.enter 70 args) w:=enters_of Tryz.func70 (by kernel_rfl) rfl
theorem oN:∀args w,(callFunc 71 args).run Tryz.prog w = .ok (.enter 71 args) w:=enters_of Tryz.func71 (by kernel_rfl) rfl
theorem xg:∀args w,(callFunc 72 args).run Tryz.prog w = .ok (.enter 72 args) w:=enters_of Tryz.func72 (by kernel_rfl) rfl
theorem mb:∀args w,(callFunc 73 args).run Tryz.prog w = .ok (.enter 73 args) w:=enters_of Tryz.func73 (by kernel_rfl) rfl
theorem xh:∀args w,(callFunc 74 args).run Tryz.prog w = .ok (.enter 74 args) w:=enters_of Tryz.func74 (by kernel_rfl) rfl
theorem xj:∀args w,(callFunc 75 args).run Tryz.prog w = .ok (.enter 75 args) w:=enters_of Tryz.func75 (by kernel_rfl) rfl
theorem xk:∀args w,(callFunc 76 args).run Tryz.prog w = .ok (.enter 76 args) w:=enters_of Tryz.func76 (by kernel_rfl) rfl
theorem nt:∀args w,(callFunc 77 args).run Tryz.prog w = .ok (.enter 77 args) w:=enters_of Tryz.func77 (by kernel_rfl) rfl
theorem xl:∀args w,(callFunc 78 args).run Tryz.prog w = .ok (.enter 78 args) w:=enters_of Tryz.func78 (by kernel_rfl) rfl
theorem xm:∀args w,(callFunc 79 args).run Tryz.prog w = .ok (.enter 79 args) w:=enters_of Tryz.func79 (by kernel_rfl) rfl
theorem xn:∀args w,(callFunc 80 args).run Tryz.prog w = .ok (.enter 80 args) w:=enters_of Tryz.func80 (by kernel_rfl) rfl
theorem lq:∀args w,(callFunc 81 args).run Tryz.prog w = .ok (.enter 81 args) w:=enters_of Tryz.func81 (by kernel_rfl) rfl
theorem sJ:∀args w,(callFunc 82 args).run Tryz.prog w = .ok (.enter 82 args) w:=enters_of Tryz.func82 (by kernel_rfl) rfl
theorem xo:∀args w,(callFunc 83 args).run Tryz.prog w = .ok (.enter 83 args) w:=enters_of Tryz.func83 (by kernel_rfl) rfl
theorem xp:∀args w,(callFunc 84 args).run Tryz.prog w = .ok (.enter 84 args) w:=enters_of Tryz.func84 (by kernel_rfl) rfl
theorem xq:∀args w,(callFunc 85 args).run Tryz.prog w = .ok (.enter 85 args) w:=enters_of Tryz.func85 (by kernel_rfl) rfl
theorem qU:∀args w,(callFunc 86 args).run Tryz.prog w = .ok (.enter 86 args) w:=enters_of Tryz.func86 (by kernel_rfl) rfl
theorem oO:∀args w,(callFunc 87 args).run Tryz.prog w = .ok (.enter 87 args) w:=enters_of Tryz.func87 (by kernel_rfl) rfl
theorem sK:∀args w,(callFunc 88 args).run Tryz.prog w = .ok (.enter 88 args) w:=enters_of Tryz.func88 (by kernel_rfl) rfl
theorem xr:∀args w,(callFunc 89 args).run Tryz.prog w = .ok (.enter 89 args) w:=enters_of Tryz.func89 (by kernel_rfl) rfl
theorem xt:∀args w,(callFunc 90 args).run Tryz.prog w = .ok (.enter 90 args) w:=enters_of Tryz.func90 (by kernel_rfl) rfl
theorem xu:∀args w,(callFunc 91 args).run Tryz.prog w = .ok (.enter 91 args) w:=enters_of Tryz.func91 (by kernel_rfl) rfl
theorem xv:∀args w,(callFunc 92 args).run Tryz.prog w = .ok (.enter 92 args) w:=enters_of Tryz.func92 (by kernel_rfl) rfl
theorem xw:∀args w,(callFunc 95 args).run Tryz.prog w = .ok (.enter 95 args) w:=enters_of Tryz.func95 (by kernel_rfl) rfl
theorem xx:∀args w,(callFunc 96 args).run Tryz.prog w = .ok (.enter 96 args) w:=enters_of Tryz.func96 (by kernel_rfl) rfl
theorem xy:∀args w,(callFunc 97 args).run Tryz.prog w = .ok (.enter 97 args) w:=enters_of Tryz.func97 (by kernel_rfl) rfl
theorem uT:∀args w,(callFunc 98 args).run Tryz.prog w = .ok (.enter 98 args) w:=enters_of Tryz.func98 (by kernel_rfl) rfl
theorem xA:∀args w,(callFunc 99 args).run Tryz.prog w = .ok (.enter 99 args) w:=enters_of Tryz.func99 (by kernel_rfl) rfl
theorem vk:∀args w,(callFunc 100 args).run Tryz.prog w = .ok (.enter 100 args) w:=enters_of Tryz.func100 (by kernel_rfl) rfl
theorem sL:∀args w,(callFunc 101 args).run Tryz.prog w = .ok (.enter 101 args) w:=enters_of Tryz.func101 (by kernel_rfl) rfl
theorem sM:∀args w,(callFunc 105 args).run Tryz.prog w = .ok (.enter 105 args) w:=enters_of Tryz.func105 (by kernel_rfl) rfl
end Go.Proofs.YtpipachmngdegaaGreat
end
