import Derived.Test.YtpipachmngdegaaSSP8
import Derived.Test.YtpipachmngdegaaProg
import Derived.Shelf.Abstract
section
namespace Go.Proofs.Ytpipachmngdegaa
open Go Go.RowKit
set_option linter.unusedVariables false
set_option maxRecDepth 100000
theorem mixed:Try.prog.follows .mixedOrders=true:=by kernel_rfl
theorem aK:gE Try.prog 3=true:=by kernel_rfl
theorem qF:eB Try.prog 3=some (.int .i64 0):=by kernel_rfl
theorem fw:gE Try.prog 4=true:=by kernel_rfl
theorem ck:eB Try.prog 5=some (.int .u8 0):=by kernel_rfl
theorem bu:gE Try.prog 9=true:=by kernel_rfl
theorem qG:eB Try.prog 9=some (.string ⟨#[]⟩):=by kernel_rfl
theorem dY:jR Try.prog 22=some (9,1):=by kernel_rfl
theorem dS:gE Try.prog 22=true:=by kernel_rfl
theorem pQ:jR Try.prog 23=some (48,11):=by kernel_rfl
theorem eo:gE Try.prog 26=true:=by kernel_rfl
theorem fM:gE Try.prog 28=true:=by kernel_rfl
theorem sU:eB Try.prog 28=some (.nilIface):=by kernel_rfl
theorem dq:gE Try.prog 32=true:=by kernel_rfl
theorem sV:jR Try.prog 33=some (46,1):=by kernel_rfl
theorem aU:jR Try.prog 46=some (51,3):=by kernel_rfl
theorem bX:gE Try.prog 46=true:=by kernel_rfl
theorem sW:eB Try.prog 46=some (.slice none 0 0):=by kernel_rfl
theorem qH:ll Try.prog 48=some 11:=by kernel_rfl
theorem rL:eA Try.prog 48 0=some 0:=by kernel_rfl
theorem rM:eA Try.prog 48 1=some 1:=by kernel_rfl
theorem kE:eA Try.prog 48 8=some 10:=by kernel_rfl
theorem sX:eB Try.prog 48=some (.agg #[.string ⟨#[]⟩,.string ⟨#[]⟩,.int .i64 0,.int .i64 0,.int .i64 0,.int .i64 0,.int .i64 0,.int .i64 0,.int .i64 0,.int .u64 0,.slice none 0 0]):=by kernel_rfl
theorem aY:ll Try.prog 51=some 3:=by kernel_rfl
theorem kb:tB Try.prog 51=some ([(0,1),(1,1),(2,1)],[.string ⟨#[]⟩,.string ⟨#[]⟩,.bool false]):=by kernel_rfl
theorem bm:eA Try.prog 51 0=some 0:=by kernel_rfl
theorem cY:eA Try.prog 51 1=some 1:=by kernel_rfl
theorem gx:eA Try.prog 51 2=some 2:=by kernel_rfl
theorem bT:eB Try.prog 51=some (.agg #[.string ⟨#[]⟩,.string ⟨#[]⟩,.bool false]):=by kernel_rfl
theorem eG:gE Try.prog 54=true:=by kernel_rfl
theorem xI:tB Try.prog 60=some ([(0,1),(1,1),(2,1)],[.slice none 0 0,.int .i64 0,.int .i64 0]):=by kernel_rfl
theorem gy:eA Try.prog 60 0=some 0:=by kernel_rfl
theorem cE:eA Try.prog 60 1=some 1:=by kernel_rfl
theorem eu:eA Try.prog 60 2=some 2:=by kernel_rfl
theorem lw:gE Try.prog 62=true:=by kernel_rfl
theorem sY:eB Try.prog 62=some (.nilFunc):=by kernel_rfl
theorem cm:Try.prog.concrete 75=true:=by kernel_rfl
theorem kF:jR Try.prog 79=some (83,2):=by kernel_rfl
theorem dU:gE Try.prog 79=true:=by kernel_rfl
theorem xJ:tB Try.prog 81=some ([(0,1),(1,1),(2,1),(3,1),(4,1)],[.slice none 0 0,.slice none 0 0,.slice none 0 0,.int .i64 0,.bool false]):=by kernel_rfl
theorem rN:eA Try.prog 81 0=some 0:=by kernel_rfl
theorem eS:eA Try.prog 81 1=some 1:=by kernel_rfl
theorem dO:eA Try.prog 81 2=some 2:=by kernel_rfl
theorem jw:eA Try.prog 81 3=some 3:=by kernel_rfl
theorem fx:eA Try.prog 81 4=some 4:=by kernel_rfl
theorem qJ:tB Try.prog 83=some ([(0,1),(1,1)],[.int .i64 0,.string ⟨#[]⟩]):=by kernel_rfl
theorem iq:eB Try.prog 83=some (.agg #[.int .i64 0,.string ⟨#[]⟩]):=by kernel_rfl
theorem xK:tB Try.prog 85=some ([(0,1),(1,1),(2,1),(3,1),(4,1)],[.pointer none,.int .i64 0,.int .i64 0,.int .i64 0,.int .i64 0]):=by kernel_rfl
theorem gA:eA Try.prog 85 0=some 0:=by kernel_rfl
theorem jx:eA Try.prog 85 1=some 1:=by kernel_rfl
theorem kG:eA Try.prog 85 2=some 2:=by kernel_rfl
theorem fy:eA Try.prog 85 3=some 3:=by kernel_rfl
theorem fA:eA Try.prog 85 4=some 4:=by kernel_rfl
theorem lR:jR Try.prog 96=some (62,1):=by kernel_rfl
theorem aM:ll Try.prog 98=some 4:=by kernel_rfl
theorem dy:tB Try.prog 98=some ([(0,1),(1,1),(2,1),(3,1)],[.int .i64 0,.int .i64 0,.int .i64 0,.int .i64 0]):=by kernel_rfl
theorem cR:eA Try.prog 98 0=some 0:=by kernel_rfl
theorem ew:eA Try.prog 98 1=some 1:=by kernel_rfl
theorem fB:eA Try.prog 98 2=some 2:=by kernel_rfl
theorem eT:eA Try.prog 98 3=some 3:=by kernel_rfl
theorem eC:eB Try.prog 98=some (.agg #[.int .i64 0,.int .i64 0,.int .i64 0,.int .i64 0]):=by kernel_rfl
theorem sZ:tB Try.prog 100=some ([(0,1),(1,4),(5,1),(6,1)],[.pointer none,.int .i64 0,.int .i64 0,.int .i64 0,.int .i64 0,.pointer none,.slice none 0 0]):=by kernel_rfl
theorem eK:eA Try.prog 100 0=some 0:=by kernel_rfl
theorem cp:eA Try.prog 100 1=some 1:=by kernel_rfl
theorem eL:eA Try.prog 100 2=some 5:=by kernel_rfl
theorem dZ:eA Try.prog 100 3=some 6:=by kernel_rfl
theorem aJ:jR Try.prog 109=some (5,1):=by kernel_rfl
theorem gG:gE Try.prog 109=true:=by kernel_rfl
theorem kc:gE Try.prog 122=true:=by kernel_rfl
theorem iE:eA Try.prog 124 0=some 0:=by kernel_rfl
theorem iF:eA Try.prog 124 1=some 1:=by kernel_rfl
theorem rO:eB Try.prog 124=some (.agg #[.pointer none,.slice none 0 0]):=by kernel_rfl
theorem uH:mQ Try.prog 22 1=some (9,16):=by kernel_rfl
theorem qK:((Try.prog.info? 9).map (·.size)).isSome=true:=by kernel_rfl
theorem uI:mQ Try.prog 33 1=some (46,24):=by kernel_rfl
theorem eH:mQ Try.prog 46 3=some (51,40):=by kernel_rfl
theorem nZ:((Try.prog.info? 51).map (·.size)).isSome=true:=by kernel_rfl
theorem jy:mQ Try.prog 79 2=some (83,24):=by kernel_rfl
theorem xL:∀args w,(callFunc 8 args).run Try.prog w = .ok (.enter 8 args) w:=enters_of Try.func8 (by kernel_rfl) rfl
theorem wn:∀args w,(callFunc 9 args).run Try.prog w = .ok (.enter 9 args) w:=enters_of Try.func9 (by kernel_rfl) rfl
theorem kT:∀args w,(callFunc 10 args).run Try.prog w = .ok (.enter 10 args) w:=enters_of Try.func10 (by kernel_rfl) rfl
theorem vD:∀args w,(callFunc 11 args).run Try.prog w = .ok (.enter 11 args) w:=enters_of Try.func11 (by kernel_rfl) rfl
theorem ke:∀args w,(callFunc 12 args).run Try.prog w = .ok (.enter 12 args) w:=enters_of Try.func12 (by kernel_rfl) rfl
theorem kf:∀args w,(callFunc 13 args).run Try.prog w = .ok (.enter 13 args) w:=enters_of Try.func13 (by kernel_rfl) rfl
theorem qL:∀args w,(callFunc 14 args).run Try.prog w = .ok (.enter 14 args) w:=enters_of Try.func14 (by kernel_rfl) rfl
theorem qM:∀args w,(callFunc 17 args).run Try.prog w = .ok (.enter 17 args) w:=enters_of Try.func17 (by kernel_rfl) rfl
theorem vE:∀args w,(callFunc 18 args).run Try.prog w = .ok (.enter 18 args) w:=enters_of Try.func18 (by kernel_rfl) rfl
theorem xM:∀args w,(callFunc 19 args).run Try.prog w = .ok (.enter 19 args) w:=enters_of Try.func19 (by kernel_rfl) rfl
theorem vF:∀args w,(callFunc 20 args).run Try.prog w = .ok (.enter 20 args) w:=enters_of Try.func20 (by kernel_rfl) rfl
theorem xO:∀args w,(callFunc 21 args).run Try.prog w = .ok (.enter 21 args) w:=enters_of Try.func21 (by kernel_rfl) rfl
theorem oN:∀args w,(callFunc 22 args).run Try.prog w = .ok (.enter 22 args) w:=enters_of Try.func22 (by kernel_rfl) rfl
theorem vG:∀args w,(callFunc 23 args).run Try.prog w = .ok (.enter 23 args) w:=enters_of Try.func23 (by kernel_rfl) rfl
theorem vH:∀args w,(callFunc 24 args).run Try.prog w = .ok (.enter 24 args) w:=enters_of Try.func24 (by kernel_rfl) rfl
theorem xP:∀args w,(callFunc 25 args).run Try.prog w = .ok (.enter 25 args) w:=enters_of Try.func25 (by kernel_rfl) rfl
theorem vI:∀args w,(callFunc 26 args).run Try.prog w = .ok (.enter 26 args) w:=enters_of Try.func26 (by kernel_rfl) rfl
theorem lS:∀args w,(callFunc 27 args).run Try.prog w = .ok (.enter 27 args) w:=enters_of Try.func27 (by kernel_rfl) rfl
theorem s0:∀args w,(callFunc 28 args).run Try.prog w = .ok (.enter 28 args) w:=enters_of Try.func28 (by kernel_rfl) rfl
theorem qN:∀args w,(callFunc 29 args).run Try.prog w = .ok (.enter 29 args) w:=enters_of Try.func29 (by kernel_rfl) rfl
theorem xQ:∀args w,(callFunc 35 args).run Try.prog w = .ok (.enter 35 args) w:=enters_of Try.func35 (by kernel_rfl) rfl
theorem xR:∀args w,(callFunc 36 args).run Try.prog w = .ok (.enter 36 args) w:=enters_of Try.func36 (by kernel_rfl) rfl
theorem vJ:∀args w,(callFunc 37 args).run Try.prog w = .ok (.enter 37 args) w:=enters_of Try.func37 (by kernel_rfl) rfl
theorem xS:∀args w,(callFunc 38 args).run Try.prog w = .ok (.enter 38 args) w:=enters_of Try.func38 (by kernel_rfl) rfl
theorem s7:∀args w,(callFunc 39 args).run Try.prog w = .ok (.enter 39 args) w:=enters_of Try.func39 (by kernel_rfl) rfl
theorem xU:∀args w,(callFunc 40 args).run Try.prog w = .ok (.enter 40 args) w:=enters_of Try.func40 (by kernel_rfl) rfl
theorem vK:∀args w,(callFunc 41 args).run Try.prog w = .ok (.enter 41 args) w:=enters_of Try.func41 (by kernel_rfl) rfl
theorem s8:∀args w,(callFunc 42 args).run Try.prog w = .ok (.enter 42 args) w:=enters_of Try.func42 (by kernel_rfl) rfl
theorem xV:∀args w,(callFunc 43 args).run Try.prog w = .ok (.enter 43 args) w:=enters_of Try.func43 (by kernel_rfl) rfl
theorem dI:∀args w,(callFunc 44 args).run Try.prog w = .ok (.enter 44 args) w:=enters_of Try.func44 (by kernel_rfl) rfl
theorem xW:∀args w,(callFunc 45 args).run Try.prog w = .ok (.enter 45 args) w:=enters_of Try.func45 (by kernel_rfl) rfl
theorem nj:∀args w,(callFunc 48 args).run Try.prog w = .ok (.enter 48 args) w:=enters_of Try.func48 (by kernel_rfl) rfl
theorem xX:∀args w,(callFunc 49 args).run Try.prog w = .ok (.enter 49 args) w:=enters_of Try.func49 (by kernel_rfl) rfl
theorem xY:∀args w,(callFunc 50 args).run Try.prog w = .ok (.enter 50 args) w:=enters_of Try.func50 (by kernel_rfl) rfl
theorem nk:∀args w,(callFunc 51 args).run Try.prog w = .ok (.enter 51 args) w:=enters_of Try.func51 (by kernel_rfl) rfl
theorem xZ:∀args w,(callFunc 52 args).run Try.prog w = .ok (.enter 52 args) w:=enters_of Try.func52 (by kernel_rfl) rfl
theorem vL:∀args w,(callFunc 53 args).run Try.prog w = .ok (.enter 53 args) w:=enters_of Try.func53 (by kernel_rfl) rfl
theorem vM:∀args w,(callFunc 54 args).run Try.prog w = .ok (.enter 54 args) w:=enters_of Try.func54 (by kernel_rfl) rfl
theorem x5:∀args w,(callFunc 55 args).run Try.prog w = .ok (.enter 55 args) w:=enters_of Try.func55 (by kernel_rfl) rfl
theorem s9:∀args w,(callFunc 56 args).run Try.prog w = .ok (.enter 56 args) w:=enters_of Try.func56 (by kernel_rfl) rfl
theorem vN:∀args w,(callFunc 57 args).run Try.prog w = .ok (.enter 57 args) w:=enters_of Try.func57 (by kernel_rfl) rfl
theorem x6:∀args w,(callFunc 58 args).run Try.prog w = .ok (.enter 58 args) w:=enters_of Try.func58 (by kernel_rfl) rfl
theorem x7:∀args w,(callFunc 59 args).run Try.prog w = .ok (.enter 59 args) w:=enters_of Try.func59 (by kernel_rfl) rfl
theorem vO:∀args w,(callFunc 60 args).run Try.prog w = .ok (.enter 60 args) w:=enters_of Try.func60 (by kernel_rfl) rfl
theorem x8:∀args w,(callFunc 61 args).run Try.prog w = .ok (.enter 61 args) w:=enters_of Try.func61 (by kernel_rfl) rfl
theorem x9:∀args w,(callFunc 62 args).run Try.prog w = .ok (.enter 62 args) w:=enters_of Try.func62 (by kernel_rfl) rfl
theorem gV:∀args w,(callFunc 63 args).run Try.prog w = .ok (.enter 63 args) w:=enters_of Try.func63 (by kernel_rfl) rfl
theorem ya:∀args w,(callFunc 64 args).run Try.prog w = .ok (.enter 64 args) w:=enters_of Try.func64 (by kernel_rfl) rfl
theorem yb:∀args w,(callFunc 65 args).run Try.prog w = .ok (.enter 65 args) w:=enters_of Try.func65 (by kernel_rfl) rfl
theorem yc:∀args w,(callFunc 66 args).run Try.prog w = .ok (.enter 66 args) w:=enters_of Try.func66 (by kernel_rfl) rfl
theorem yd:∀args w,(callFunc 67 args).run Try.prog w = .ok (.enter 67 args) w:=enters_of Try.func67 (by kernel_rfl) rfl
theorem ye:∀args w,(callFunc 68 args).run Try.prog w = .ok (.enter 68 args) w:=enters_of Try.func68 (by kernel_rfl) rfl
theorem qO:∀args w,(callFunc 69 args).run Try.prog w = .ok (.enter 69 args) w:=enters_of Try.func69 (by kernel_rfl) rfl
theorem yg:∀args w,(callFunc 70 args).run Try.prog w = .ok (.enter 70 args) w:=enters_of Try.func70 (by kernel_rfl) rfl
theorem yh:∀args w,(callFunc 71 args).run Try.prog w = .ok (.enter 71 args) w:=enters_of Try.func71 (by kernel_rfl) rfl
theorem yi:∀args w,(callFunc 72 args).run Try.prog w = .ok (.enter 72 args) w:=enters_of Try.func72 (by kernel_rfl) rfl
theorem vP:∀args w,(callFunc 78 args).run Try.prog w = .ok (.enter 78 args) w:=enters_of Try.func78 (by kernel_rfl) rfl
end Go.Proofs.Ytpipachmngdegaa
end
